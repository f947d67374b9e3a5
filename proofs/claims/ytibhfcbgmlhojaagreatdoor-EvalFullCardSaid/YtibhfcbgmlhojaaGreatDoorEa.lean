/- What is known of calls of the program: entries. Conditions: none. -/
import Derived.Test.YtibhfcbgmlhojaaGreatDoorK5
import Derived.Test.YtibhfcbgmlhojaaGreatDoorProg
set_option linter.unusedVariables false
namespace Go.Proofs.YtibhfcbgmlhojaaGreatDoor
open Go.Kx
noncomputable section
def p : Nat → Pth := pth
def known : List AV := [.str 3 7630441, .str 4 1819242338, .str 6 113723913172083, .str 7 14696572267752550, .str 3 7234924, .str 6 110425311047777, .str 5 426970603888]
def r0 : Nat × Bk := (0, .ro (putL known 0 .e))
def tx1 : AV := .str 134 24732391004484793996587420849072702861853197102084125671901132436894122859290848197122315113366425616681701002768751589136797585996266760678750626565532133185145001079120697596780971275478930054182464367452457665698523691447175323101779012804493446209325075788709839952363014094917180470629314656884173671028720202672202096
def tx2 : AV := .str 207 1565969527451359526317519699186177337019522188459948816323764839669568821148437347530325068451338085870894718660895053193331417873898496356037793669233970485205539256107456457595100608803820119799647462497405619184989004008224436759853108753008931678090806746576567561618233471129225379861957031544184618532607315474652207388199735524958594152901471211920434655610050194299385497181242076902255178764041803928776607197220733625689953599107345600608208626530463732519896507149559877256141712025411952
def TT0 : TT := ofList Tryz.prog.types.toList
def Eb : Env := { fns := ofList (Tryz.prog.funcs.toList.map (cFn TT0 1)) }
def E0 : Env := { Eb with gc := uOf [4, 5, 18, 24, 30, 197, 14, 35, 131, 188] }
def m_ta0 : Memo := ⟨[tx1, .int .i64 0],
  hOf [r0] 1,
  .ret (.tup [.agg [.int .u8 1, .str 7 28542640758940016, .int .i64 0], .int .i64 7, .int .i64 0]),
  nOf [], pth 5⟩
def m_ta1 : Memo := ⟨[tx1, .int .i64 8],
  hOf [r0] 1,
  .ret (.tup [.agg [.int .u8 2, .str 1 112, .int .i64 8], .int .i64 9, .int .i64 0]),
  nOf [], pth 5⟩
def m_ta2 : Memo := ⟨[tx1, .int .i64 9],
  hOf [r0] 1,
  .ret (.tup [.agg [.int .u8 6, .str 1 59, .int .i64 9], .int .i64 10, .int .i64 0]),
  nOf [], pth 5⟩
def m_ta3 : Memo := ⟨[tx1, .int .i64 11],
  hOf [r0] 1,
  .ret (.tup [.agg [.int .u8 1, .str 4 1668183398, .int .i64 11], .int .i64 15, .int .i64 0]),
  nOf [], pth 5⟩
def m_ta4 : Memo := ⟨[tx1, .int .i64 16],
  hOf [r0] 1,
  .ret (.tup [.agg [.int .u8 2, .str 1 102, .int .i64 16], .int .i64 17, .int .i64 0]),
  nOf [], pth 5⟩
def m_ta5 : Memo := ⟨[tx1, .int .i64 17],
  hOf [r0] 1,
  .ret (.tup [.agg [.int .u8 6, .str 1 40, .int .i64 17], .int .i64 18, .int .i64 0]),
  nOf [], pth 5⟩
def m_ta6 : Memo := ⟨[tx1, .int .i64 18],
  hOf [r0] 1,
  .ret (.tup [.agg [.int .u8 2, .str 1 110, .int .i64 18], .int .i64 19, .int .i64 0]),
  nOf [], pth 5⟩
def m_ta7 : Memo := ⟨[tx1, .int .i64 20],
  hOf [r0] 1,
  .ret (.tup [.agg [.int .u8 2, .str 3 7630441, .int .i64 20], .int .i64 23, .int .i64 0]),
  nOf [], pth 5⟩
def m_ta8 : Memo := ⟨[tx1, .int .i64 23],
  hOf [r0] 1,
  .ret (.tup [.agg [.int .u8 6, .str 1 41, .int .i64 23], .int .i64 24, .int .i64 0]),
  nOf [], pth 5⟩
def m_ta9 : Memo := ⟨[tx1, .int .i64 25],
  hOf [r0] 1,
  .ret (.tup [.agg [.int .u8 2, .str 3 7630441, .int .i64 25], .int .i64 28, .int .i64 0]),
  nOf [], pth 5⟩
def m_ta10 : Memo := ⟨[tx1, .int .i64 29],
  hOf [r0] 1,
  .ret (.tup [.agg [.int .u8 6, .str 1 123, .int .i64 29], .int .i64 30, .int .i64 0]),
  nOf [], pth 5⟩
def m_ta11 : Memo := ⟨[tx1, .int .i64 31],
  hOf [r0] 1,
  .ret (.tup [.agg [.int .u8 1, .str 2 26217, .int .i64 31], .int .i64 33, .int .i64 0]),
  nOf [], pth 5⟩
def m_ta12 : Memo := ⟨[tx1, .int .i64 34],
  hOf [r0] 1,
  .ret (.tup [.agg [.int .u8 2, .str 1 110, .int .i64 34], .int .i64 35, .int .i64 0]),
  nOf [], pth 5⟩
def m_ta13 : Memo := ⟨[tx1, .int .i64 36],
  hOf [r0] 1,
  .ret (.tup [.agg [.int .u8 6, .str 1 60, .int .i64 36], .int .i64 37, .int .i64 0]),
  nOf [], pth 5⟩
def m_ta14 : Memo := ⟨[tx1, .int .i64 38],
  hOf [r0] 1,
  .ret (.tup [.agg [.int .u8 3, .str 1 50, .int .i64 38], .int .i64 39, .int .i64 0]),
  nOf [], pth 5⟩
def m_ta15 : Memo := ⟨[tx1, .int .i64 40],
  hOf [r0] 1,
  .ret (.tup [.agg [.int .u8 6, .str 1 123, .int .i64 40], .int .i64 41, .int .i64 0]),
  nOf [], pth 5⟩
def m_ta16 : Memo := ⟨[tx1, .int .i64 42],
  hOf [r0] 1,
  .ret (.tup [.agg [.int .u8 1, .str 6 121437875889522, .int .i64 42], .int .i64 48, .int .i64 0]),
  nOf [], pth 5⟩
def m_ta17 : Memo := ⟨[tx1, .int .i64 49],
  hOf [r0] 1,
  .ret (.tup [.agg [.int .u8 3, .str 1 49, .int .i64 49], .int .i64 50, .int .i64 0]),
  nOf [], pth 5⟩
def m_ta18 : Memo := ⟨[tx1, .int .i64 51],
  hOf [r0] 1,
  .ret (.tup [.agg [.int .u8 6, .str 1 125, .int .i64 51], .int .i64 52, .int .i64 0]),
  nOf [], pth 5⟩
def m_ta19 : Memo := ⟨[tx1, .int .i64 52],
  hOf [r0] 1,
  .ret (.tup [.agg [.int .u8 6, .str 1 59, .int .i64 52], .int .i64 53, .int .i64 0]),
  nOf [], pth 5⟩
def m_ta20 : Memo := ⟨[tx1, .int .i64 54],
  hOf [r0] 1,
  .ret (.tup [.agg [.int .u8 1, .str 6 121437875889522, .int .i64 54], .int .i64 60, .int .i64 0]),
  nOf [], pth 5⟩
def m_ta21 : Memo := ⟨[tx1, .int .i64 61],
  hOf [r0] 1,
  .ret (.tup [.agg [.int .u8 2, .str 1 110, .int .i64 61], .int .i64 62, .int .i64 0]),
  nOf [], pth 5⟩
def m_ta22 : Memo := ⟨[tx1, .int .i64 63],
  hOf [r0] 1,
  .ret (.tup [.agg [.int .u8 6, .str 1 42, .int .i64 63], .int .i64 64, .int .i64 0]),
  nOf [], pth 5⟩
def m_ta23 : Memo := ⟨[tx1, .int .i64 65],
  hOf [r0] 1,
  .ret (.tup [.agg [.int .u8 2, .str 1 102, .int .i64 65], .int .i64 66, .int .i64 0]),
  nOf [], pth 5⟩
def m_ta24 : Memo := ⟨[tx1, .int .i64 66],
  hOf [r0] 1,
  .ret (.tup [.agg [.int .u8 6, .str 1 40, .int .i64 66], .int .i64 67, .int .i64 0]),
  nOf [], pth 5⟩
def m_ta25 : Memo := ⟨[tx1, .int .i64 67],
  hOf [r0] 1,
  .ret (.tup [.agg [.int .u8 2, .str 1 110, .int .i64 67], .int .i64 68, .int .i64 0]),
  nOf [], pth 5⟩
def m_ta26 : Memo := ⟨[tx1, .int .i64 69],
  hOf [r0] 1,
  .ret (.tup [.agg [.int .u8 6, .str 1 45, .int .i64 69], .int .i64 70, .int .i64 0]),
  nOf [], pth 5⟩
def m_ta27 : Memo := ⟨[tx1, .int .i64 71],
  hOf [r0] 1,
  .ret (.tup [.agg [.int .u8 3, .str 1 49, .int .i64 71], .int .i64 72, .int .i64 0]),
  nOf [], pth 5⟩
def m_ta28 : Memo := ⟨[tx1, .int .i64 72],
  hOf [r0] 1,
  .ret (.tup [.agg [.int .u8 6, .str 1 41, .int .i64 72], .int .i64 73, .int .i64 0]),
  nOf [], pth 5⟩
def m_ta29 : Memo := ⟨[tx1, .int .i64 74],
  hOf [r0] 1,
  .ret (.tup [.agg [.int .u8 6, .str 1 125, .int .i64 74], .int .i64 75, .int .i64 0]),
  nOf [], pth 5⟩
def m_ta30 : Memo := ⟨[tx1, .int .i64 75],
  hOf [r0] 1,
  .ret (.tup [.agg [.int .u8 6, .str 1 59, .int .i64 75], .int .i64 76, .int .i64 0]),
  nOf [], pth 5⟩
def m_ta31 : Memo := ⟨[tx1, .int .i64 77],
  hOf [r0] 1,
  .ret (.tup [.agg [.int .u8 1, .str 4 1668183398, .int .i64 77], .int .i64 81, .int .i64 0]),
  nOf [], pth 5⟩
def m_ta32 : Memo := ⟨[tx1, .int .i64 82],
  hOf [r0] 1,
  .ret (.tup [.agg [.int .u8 2, .str 1 103, .int .i64 82], .int .i64 83, .int .i64 0]),
  nOf [], pth 5⟩
def m_ta33 : Memo := ⟨[tx1, .int .i64 83],
  hOf [r0] 1,
  .ret (.tup [.agg [.int .u8 6, .str 1 40, .int .i64 83], .int .i64 84, .int .i64 0]),
  nOf [], pth 5⟩
def m_ta34 : Memo := ⟨[tx1, .int .i64 84],
  hOf [r0] 1,
  .ret (.tup [.agg [.int .u8 6, .str 1 41, .int .i64 84], .int .i64 85, .int .i64 0]),
  nOf [], pth 5⟩
def m_ta35 : Memo := ⟨[tx1, .int .i64 86],
  hOf [r0] 1,
  .ret (.tup [.agg [.int .u8 2, .str 3 7630441, .int .i64 86], .int .i64 89, .int .i64 0]),
  nOf [], pth 5⟩
def m_ta36 : Memo := ⟨[tx1, .int .i64 90],
  hOf [r0] 1,
  .ret (.tup [.agg [.int .u8 6, .str 1 123, .int .i64 90], .int .i64 91, .int .i64 0]),
  nOf [], pth 5⟩
def m_ta37 : Memo := ⟨[tx1, .int .i64 92],
  hOf [r0] 1,
  .ret (.tup [.agg [.int .u8 1, .str 6 121437875889522, .int .i64 92], .int .i64 98, .int .i64 0]),
  nOf [], pth 5⟩
def m_ta38 : Memo := ⟨[tx1, .int .i64 99],
  hOf [r0] 1,
  .ret (.tup [.agg [.int .u8 6, .str 1 91, .int .i64 99], .int .i64 100, .int .i64 0]),
  nOf [], pth 5⟩
def m_ta39 : Memo := ⟨[tx1, .int .i64 100],
  hOf [r0] 1,
  .ret (.tup [.agg [.int .u8 6, .str 1 93, .int .i64 100], .int .i64 101, .int .i64 0]),
  nOf [], pth 5⟩
def m_ta40 : Memo := ⟨[tx1, .int .i64 101],
  hOf [r0] 1,
  .ret (.tup [.agg [.int .u8 2, .str 3 7630441, .int .i64 101], .int .i64 104, .int .i64 0]),
  nOf [], pth 5⟩
def m_ta41 : Memo := ⟨[tx1, .int .i64 104],
  hOf [r0] 1,
  .ret (.tup [.agg [.int .u8 6, .str 1 123, .int .i64 104], .int .i64 105, .int .i64 0]),
  nOf [], pth 5⟩
def m_ta42 : Memo := ⟨[tx1, .int .i64 105],
  hOf [r0] 1,
  .ret (.tup [.agg [.int .u8 3, .str 1 49, .int .i64 105], .int .i64 106, .int .i64 0]),
  nOf [], pth 5⟩
def m_ta43 : Memo := ⟨[tx1, .int .i64 106],
  hOf [r0] 1,
  .ret (.tup [.agg [.int .u8 6, .str 1 125, .int .i64 106], .int .i64 107, .int .i64 0]),
  nOf [], pth 5⟩
def m_ta44 : Memo := ⟨[tx1, .int .i64 107],
  hOf [r0] 1,
  .ret (.tup [.agg [.int .u8 6, .str 1 91, .int .i64 107], .int .i64 108, .int .i64 0]),
  nOf [], pth 5⟩
def m_ta45 : Memo := ⟨[tx1, .int .i64 108],
  hOf [r0] 1,
  .ret (.tup [.agg [.int .u8 3, .str 1 49, .int .i64 108], .int .i64 109, .int .i64 0]),
  nOf [], pth 5⟩
def m_ta46 : Memo := ⟨[tx1, .int .i64 109],
  hOf [r0] 1,
  .ret (.tup [.agg [.int .u8 6, .str 1 93, .int .i64 109], .int .i64 110, .int .i64 0]),
  nOf [], pth 5⟩
def m_ta47 : Memo := ⟨[tx1, .int .i64 111],
  hOf [r0] 1,
  .ret (.tup [.agg [.int .u8 6, .str 1 125, .int .i64 111], .int .i64 112, .int .i64 0]),
  nOf [], pth 5⟩
def m_ta48 : Memo := ⟨[tx1, .int .i64 112],
  hOf [r0] 1,
  .ret (.tup [.agg [.int .u8 6, .str 1 59, .int .i64 112], .int .i64 113, .int .i64 0]),
  nOf [], pth 5⟩
def m_ta49 : Memo := ⟨[tx1, .int .i64 114],
  hOf [r0] 1,
  .ret (.tup [.agg [.int .u8 1, .str 4 1668183398, .int .i64 114], .int .i64 118, .int .i64 0]),
  nOf [], pth 5⟩
def m_ta50 : Memo := ⟨[tx1, .int .i64 119],
  hOf [r0] 1,
  .ret (.tup [.agg [.int .u8 2, .str 1 104, .int .i64 119], .int .i64 120, .int .i64 0]),
  nOf [], pth 5⟩
def m_ta51 : Memo := ⟨[tx1, .int .i64 120],
  hOf [r0] 1,
  .ret (.tup [.agg [.int .u8 6, .str 1 40, .int .i64 120], .int .i64 121, .int .i64 0]),
  nOf [], pth 5⟩
def m_ta52 : Memo := ⟨[tx1, .int .i64 121],
  hOf [r0] 1,
  .ret (.tup [.agg [.int .u8 6, .str 1 41, .int .i64 121], .int .i64 122, .int .i64 0]),
  nOf [], pth 5⟩
def m_ta53 : Memo := ⟨[tx1, .int .i64 123],
  hOf [r0] 1,
  .ret (.tup [.agg [.int .u8 6, .str 1 123, .int .i64 123], .int .i64 124, .int .i64 0]),
  nOf [], pth 5⟩
def m_ta54 : Memo := ⟨[tx1, .int .i64 125],
  hOf [r0] 1,
  .ret (.tup [.agg [.int .u8 1, .str 3 7499622, .int .i64 125], .int .i64 128, .int .i64 0]),
  nOf [], pth 5⟩
def m_ta55 : Memo := ⟨[tx1, .int .i64 129],
  hOf [r0] 1,
  .ret (.tup [.agg [.int .u8 6, .str 1 123, .int .i64 129], .int .i64 130, .int .i64 0]),
  nOf [], pth 5⟩
def m_ta56 : Memo := ⟨[tx1, .int .i64 131],
  hOf [r0] 1,
  .ret (.tup [.agg [.int .u8 6, .str 1 125, .int .i64 131], .int .i64 132, .int .i64 0]),
  nOf [], pth 5⟩
def m_ta57 : Memo := ⟨[tx1, .int .i64 133],
  hOf [r0] 1,
  .ret (.tup [.agg [.int .u8 6, .str 1 125, .int .i64 133], .int .i64 134, .int .i64 0]),
  nOf [], pth 5⟩
def m_tb0 : Memo := ⟨[tx2, .int .i64 0],
  hOf [r0] 1,
  .ret (.tup [.agg [.int .u8 1, .str 7 28542640758940016, .int .i64 0], .int .i64 7, .int .i64 0]),
  nOf [], pth 5⟩
def m_tb1 : Memo := ⟨[tx2, .int .i64 8],
  hOf [r0] 1,
  .ret (.tup [.agg [.int .u8 2, .str 1 112, .int .i64 8], .int .i64 9, .int .i64 0]),
  nOf [], pth 5⟩
def m_tb2 : Memo := ⟨[tx2, .int .i64 9],
  hOf [r0] 1,
  .ret (.tup [.agg [.int .u8 6, .str 1 59, .int .i64 9], .int .i64 10, .int .i64 0]),
  nOf [], pth 5⟩
def m_tb3 : Memo := ⟨[tx2, .int .i64 11],
  hOf [r0] 1,
  .ret (.tup [.agg [.int .u8 1, .str 4 1701869940, .int .i64 11], .int .i64 15, .int .i64 0]),
  nOf [], pth 5⟩
def m_tb4 : Memo := ⟨[tx2, .int .i64 16],
  hOf [r0] 1,
  .ret (.tup [.agg [.int .u8 2, .str 1 115, .int .i64 16], .int .i64 17, .int .i64 0]),
  nOf [], pth 5⟩
def m_tb5 : Memo := ⟨[tx2, .int .i64 18],
  hOf [r0] 1,
  .ret (.tup [.agg [.int .u8 1, .str 6 127970521019507, .int .i64 18], .int .i64 24, .int .i64 0]),
  nOf [], pth 5⟩
def m_tb6 : Memo := ⟨[tx2, .int .i64 25],
  hOf [r0] 1,
  .ret (.tup [.agg [.int .u8 6, .str 1 123, .int .i64 25], .int .i64 26, .int .i64 0]),
  nOf [], pth 5⟩
def m_tb7 : Memo := ⟨[tx2, .int .i64 27],
  hOf [r0] 1,
  .ret (.tup [.agg [.int .u8 2, .str 1 97, .int .i64 27], .int .i64 28, .int .i64 0]),
  nOf [], pth 5⟩
def m_tb8 : Memo := ⟨[tx2, .int .i64 29],
  hOf [r0] 1,
  .ret (.tup [.agg [.int .u8 6, .str 1 91, .int .i64 29], .int .i64 30, .int .i64 0]),
  nOf [], pth 5⟩
def m_tb9 : Memo := ⟨[tx2, .int .i64 30],
  hOf [r0] 1,
  .ret (.tup [.agg [.int .u8 6, .str 1 93, .int .i64 30], .int .i64 31, .int .i64 0]),
  nOf [], pth 5⟩
def m_tb10 : Memo := ⟨[tx2, .int .i64 31],
  hOf [r0] 1,
  .ret (.tup [.agg [.int .u8 2, .str 1 115, .int .i64 31], .int .i64 32, .int .i64 0]),
  nOf [], pth 5⟩
def m_tb11 : Memo := ⟨[tx2, .int .i64 33],
  hOf [r0] 1,
  .ret (.tup [.agg [.int .u8 6, .str 1 125, .int .i64 33], .int .i64 34, .int .i64 0]),
  nOf [], pth 5⟩
def m_tb12 : Memo := ⟨[tx2, .int .i64 34],
  hOf [r0] 1,
  .ret (.tup [.agg [.int .u8 6, .str 1 59, .int .i64 34], .int .i64 35, .int .i64 0]),
  nOf [], pth 5⟩
def m_tb13 : Memo := ⟨[tx2, .int .i64 36],
  hOf [r0] 1,
  .ret (.tup [.agg [.int .u8 1, .str 4 1668183398, .int .i64 36], .int .i64 40, .int .i64 0]),
  nOf [], pth 5⟩
def m_tb14 : Memo := ⟨[tx2, .int .i64 41],
  hOf [r0] 1,
  .ret (.tup [.agg [.int .u8 2, .str 1 102, .int .i64 41], .int .i64 42, .int .i64 0]),
  nOf [], pth 5⟩
def m_tb15 : Memo := ⟨[tx2, .int .i64 42],
  hOf [r0] 1,
  .ret (.tup [.agg [.int .u8 6, .str 1 40, .int .i64 42], .int .i64 43, .int .i64 0]),
  nOf [], pth 5⟩
def m_tb16 : Memo := ⟨[tx2, .int .i64 43],
  hOf [r0] 1,
  .ret (.tup [.agg [.int .u8 2, .str 1 110, .int .i64 43], .int .i64 44, .int .i64 0]),
  nOf [], pth 5⟩
def m_tb17 : Memo := ⟨[tx2, .int .i64 45],
  hOf [r0] 1,
  .ret (.tup [.agg [.int .u8 2, .str 3 7630441, .int .i64 45], .int .i64 48, .int .i64 0]),
  nOf [], pth 5⟩
def m_tb18 : Memo := ⟨[tx2, .int .i64 48],
  hOf [r0] 1,
  .ret (.tup [.agg [.int .u8 6, .str 1 41, .int .i64 48], .int .i64 49, .int .i64 0]),
  nOf [], pth 5⟩
def m_tb19 : Memo := ⟨[tx2, .int .i64 50],
  hOf [r0] 1,
  .ret (.tup [.agg [.int .u8 2, .str 3 7630441, .int .i64 50], .int .i64 53, .int .i64 0]),
  nOf [], pth 5⟩
def m_tb20 : Memo := ⟨[tx2, .int .i64 54],
  hOf [r0] 1,
  .ret (.tup [.agg [.int .u8 6, .str 1 123, .int .i64 54], .int .i64 55, .int .i64 0]),
  nOf [], pth 5⟩
def m_tb21 : Memo := ⟨[tx2, .int .i64 56],
  hOf [r0] 1,
  .ret (.tup [.agg [.int .u8 2, .str 1 108, .int .i64 56], .int .i64 57, .int .i64 0]),
  nOf [], pth 5⟩
def m_tb22 : Memo := ⟨[tx2, .int .i64 58],
  hOf [r0] 1,
  .ret (.tup [.agg [.int .u8 6, .str 2 15674, .int .i64 58], .int .i64 60, .int .i64 0]),
  nOf [], pth 5⟩
def m_tb23 : Memo := ⟨[tx2, .int .i64 61],
  hOf [r0] 1,
  .ret (.tup [.agg [.int .u8 6, .str 1 91, .int .i64 61], .int .i64 62, .int .i64 0]),
  nOf [], pth 5⟩
def m_tb24 : Memo := ⟨[tx2, .int .i64 62],
  hOf [r0] 1,
  .ret (.tup [.agg [.int .u8 6, .str 1 93, .int .i64 62], .int .i64 63, .int .i64 0]),
  nOf [], pth 5⟩
def m_tb25 : Memo := ⟨[tx2, .int .i64 63],
  hOf [r0] 1,
  .ret (.tup [.agg [.int .u8 2, .str 3 7630441, .int .i64 63], .int .i64 66, .int .i64 0]),
  nOf [], pth 5⟩
def m_tb26 : Memo := ⟨[tx2, .int .i64 66],
  hOf [r0] 1,
  .ret (.tup [.agg [.int .u8 6, .str 1 123, .int .i64 66], .int .i64 67, .int .i64 0]),
  nOf [], pth 5⟩
def m_tb27 : Memo := ⟨[tx2, .int .i64 67],
  hOf [r0] 1,
  .ret (.tup [.agg [.int .u8 6, .str 1 125, .int .i64 67], .int .i64 68, .int .i64 0]),
  nOf [], pth 5⟩
def m_tb28 : Memo := ⟨[tx2, .int .i64 68],
  hOf [r0] 1,
  .ret (.tup [.agg [.int .u8 6, .str 1 59, .int .i64 68], .int .i64 69, .int .i64 0]),
  nOf [], pth 5⟩
def m_tb29 : Memo := ⟨[tx2, .int .i64 70],
  hOf [r0] 1,
  .ret (.tup [.agg [.int .u8 1, .str 3 7499622, .int .i64 70], .int .i64 73, .int .i64 0]),
  nOf [], pth 5⟩
def m_tb30 : Memo := ⟨[tx2, .int .i64 74],
  hOf [r0] 1,
  .ret (.tup [.agg [.int .u8 2, .str 3 7234924, .int .i64 74], .int .i64 77, .int .i64 0]),
  nOf [], pth 5⟩
def m_tb31 : Memo := ⟨[tx2, .int .i64 77],
  hOf [r0] 1,
  .ret (.tup [.agg [.int .u8 6, .str 1 40, .int .i64 77], .int .i64 78, .int .i64 0]),
  nOf [], pth 5⟩
def m_tb32 : Memo := ⟨[tx2, .int .i64 78],
  hOf [r0] 1,
  .ret (.tup [.agg [.int .u8 2, .str 1 108, .int .i64 78], .int .i64 79, .int .i64 0]),
  nOf [], pth 5⟩
def m_tb33 : Memo := ⟨[tx2, .int .i64 79],
  hOf [r0] 1,
  .ret (.tup [.agg [.int .u8 6, .str 1 41, .int .i64 79], .int .i64 80, .int .i64 0]),
  nOf [], pth 5⟩
def m_tb34 : Memo := ⟨[tx2, .int .i64 81],
  hOf [r0] 1,
  .ret (.tup [.agg [.int .u8 6, .str 1 60, .int .i64 81], .int .i64 82, .int .i64 0]),
  nOf [], pth 5⟩
def m_tb35 : Memo := ⟨[tx2, .int .i64 83],
  hOf [r0] 1,
  .ret (.tup [.agg [.int .u8 2, .str 1 110, .int .i64 83], .int .i64 84, .int .i64 0]),
  nOf [], pth 5⟩
def m_tb36 : Memo := ⟨[tx2, .int .i64 85],
  hOf [r0] 1,
  .ret (.tup [.agg [.int .u8 6, .str 1 123, .int .i64 85], .int .i64 86, .int .i64 0]),
  nOf [], pth 5⟩
def m_tb37 : Memo := ⟨[tx2, .int .i64 87],
  hOf [r0] 1,
  .ret (.tup [.agg [.int .u8 2, .str 1 108, .int .i64 87], .int .i64 88, .int .i64 0]),
  nOf [], pth 5⟩
def m_tb38 : Memo := ⟨[tx2, .int .i64 89],
  hOf [r0] 1,
  .ret (.tup [.agg [.int .u8 6, .str 1 61, .int .i64 89], .int .i64 90, .int .i64 0]),
  nOf [], pth 5⟩
def m_tb39 : Memo := ⟨[tx2, .int .i64 91],
  hOf [r0] 1,
  .ret (.tup [.agg [.int .u8 2, .str 6 110425311047777, .int .i64 91], .int .i64 97, .int .i64 0]),
  nOf [], pth 5⟩
def m_tb40 : Memo := ⟨[tx2, .int .i64 97],
  hOf [r0] 1,
  .ret (.tup [.agg [.int .u8 6, .str 1 40, .int .i64 97], .int .i64 98, .int .i64 0]),
  nOf [], pth 5⟩
def m_tb41 : Memo := ⟨[tx2, .int .i64 98],
  hOf [r0] 1,
  .ret (.tup [.agg [.int .u8 2, .str 1 108, .int .i64 98], .int .i64 99, .int .i64 0]),
  nOf [], pth 5⟩
def m_tb42 : Memo := ⟨[tx2, .int .i64 99],
  hOf [r0] 1,
  .ret (.tup [.agg [.int .u8 6, .str 1 44, .int .i64 99], .int .i64 100, .int .i64 0]),
  nOf [], pth 5⟩
def m_tb43 : Memo := ⟨[tx2, .int .i64 101],
  hOf [r0] 1,
  .ret (.tup [.agg [.int .u8 3, .str 1 49, .int .i64 101], .int .i64 102, .int .i64 0]),
  nOf [], pth 5⟩
def m_tb44 : Memo := ⟨[tx2, .int .i64 102],
  hOf [r0] 1,
  .ret (.tup [.agg [.int .u8 6, .str 1 41, .int .i64 102], .int .i64 103, .int .i64 0]),
  nOf [], pth 5⟩
def m_tb45 : Memo := ⟨[tx2, .int .i64 104],
  hOf [r0] 1,
  .ret (.tup [.agg [.int .u8 6, .str 1 125, .int .i64 104], .int .i64 105, .int .i64 0]),
  nOf [], pth 5⟩
def m_tb46 : Memo := ⟨[tx2, .int .i64 105],
  hOf [r0] 1,
  .ret (.tup [.agg [.int .u8 6, .str 1 59, .int .i64 105], .int .i64 106, .int .i64 0]),
  nOf [], pth 5⟩
def m_tb47 : Memo := ⟨[tx2, .int .i64 107],
  hOf [r0] 1,
  .ret (.tup [.agg [.int .u8 1, .str 6 121437875889522, .int .i64 107], .int .i64 113, .int .i64 0]),
  nOf [], pth 5⟩
def m_tb48 : Memo := ⟨[tx2, .int .i64 114],
  hOf [r0] 1,
  .ret (.tup [.agg [.int .u8 2, .str 3 7234924, .int .i64 114], .int .i64 117, .int .i64 0]),
  nOf [], pth 5⟩
def m_tb49 : Memo := ⟨[tx2, .int .i64 117],
  hOf [r0] 1,
  .ret (.tup [.agg [.int .u8 6, .str 1 40, .int .i64 117], .int .i64 118, .int .i64 0]),
  nOf [], pth 5⟩
def m_tb50 : Memo := ⟨[tx2, .int .i64 118],
  hOf [r0] 1,
  .ret (.tup [.agg [.int .u8 2, .str 1 108, .int .i64 118], .int .i64 119, .int .i64 0]),
  nOf [], pth 5⟩
def m_tb51 : Memo := ⟨[tx2, .int .i64 119],
  hOf [r0] 1,
  .ret (.tup [.agg [.int .u8 6, .str 1 41, .int .i64 119], .int .i64 120, .int .i64 0]),
  nOf [], pth 5⟩
def m_tb52 : Memo := ⟨[tx2, .int .i64 121],
  hOf [r0] 1,
  .ret (.tup [.agg [.int .u8 6, .str 1 125, .int .i64 121], .int .i64 122, .int .i64 0]),
  nOf [], pth 5⟩
def m_tb53 : Memo := ⟨[tx2, .int .i64 122],
  hOf [r0] 1,
  .ret (.tup [.agg [.int .u8 6, .str 1 59, .int .i64 122], .int .i64 123, .int .i64 0]),
  nOf [], pth 5⟩
def m_tb54 : Memo := ⟨[tx2, .int .i64 124],
  hOf [r0] 1,
  .ret (.tup [.agg [.int .u8 1, .str 4 1668183398, .int .i64 124], .int .i64 128, .int .i64 0]),
  nOf [], pth 5⟩
def m_tb55 : Memo := ⟨[tx2, .int .i64 129],
  hOf [r0] 1,
  .ret (.tup [.agg [.int .u8 2, .str 1 103, .int .i64 129], .int .i64 130, .int .i64 0]),
  nOf [], pth 5⟩
def m_tb56 : Memo := ⟨[tx2, .int .i64 130],
  hOf [r0] 1,
  .ret (.tup [.agg [.int .u8 6, .str 1 40, .int .i64 130], .int .i64 131, .int .i64 0]),
  nOf [], pth 5⟩
def m_tb57 : Memo := ⟨[tx2, .int .i64 131],
  hOf [r0] 1,
  .ret (.tup [.agg [.int .u8 2, .str 1 110, .int .i64 131], .int .i64 132, .int .i64 0]),
  nOf [], pth 5⟩
def m_tb58 : Memo := ⟨[tx2, .int .i64 133],
  hOf [r0] 1,
  .ret (.tup [.agg [.int .u8 2, .str 3 7630441, .int .i64 133], .int .i64 136, .int .i64 0]),
  nOf [], pth 5⟩
def m_tb59 : Memo := ⟨[tx2, .int .i64 136],
  hOf [r0] 1,
  .ret (.tup [.agg [.int .u8 6, .str 1 41, .int .i64 136], .int .i64 137, .int .i64 0]),
  nOf [], pth 5⟩
def m_tb60 : Memo := ⟨[tx2, .int .i64 138],
  hOf [r0] 1,
  .ret (.tup [.agg [.int .u8 2, .str 1 115, .int .i64 138], .int .i64 139, .int .i64 0]),
  nOf [], pth 5⟩
def m_tb61 : Memo := ⟨[tx2, .int .i64 140],
  hOf [r0] 1,
  .ret (.tup [.agg [.int .u8 6, .str 1 123, .int .i64 140], .int .i64 141, .int .i64 0]),
  nOf [], pth 5⟩
def m_tb62 : Memo := ⟨[tx2, .int .i64 142],
  hOf [r0] 1,
  .ret (.tup [.agg [.int .u8 1, .str 3 7496054, .int .i64 142], .int .i64 145, .int .i64 0]),
  nOf [], pth 5⟩
def m_tb63 : Memo := ⟨[tx2, .int .i64 146],
  hOf [r0] 1,
  .ret (.tup [.agg [.int .u8 2, .str 1 120, .int .i64 146], .int .i64 147, .int .i64 0]),
  nOf [], pth 5⟩
def m_tb64 : Memo := ⟨[tx2, .int .i64 148],
  hOf [r0] 1,
  .ret (.tup [.agg [.int .u8 2, .str 1 115, .int .i64 148], .int .i64 149, .int .i64 0]),
  nOf [], pth 5⟩
def m_tb65 : Memo := ⟨[tx2, .int .i64 149],
  hOf [r0] 1,
  .ret (.tup [.agg [.int .u8 6, .str 1 59, .int .i64 149], .int .i64 150, .int .i64 0]),
  nOf [], pth 5⟩
def m_tb66 : Memo := ⟨[tx2, .int .i64 151],
  hOf [r0] 1,
  .ret (.tup [.agg [.int .u8 1, .str 3 7499622, .int .i64 151], .int .i64 154, .int .i64 0]),
  nOf [], pth 5⟩
def m_tb67 : Memo := ⟨[tx2, .int .i64 155],
  hOf [r0] 1,
  .ret (.tup [.agg [.int .u8 2, .str 1 110, .int .i64 155], .int .i64 156, .int .i64 0]),
  nOf [], pth 5⟩
def m_tb68 : Memo := ⟨[tx2, .int .i64 157],
  hOf [r0] 1,
  .ret (.tup [.agg [.int .u8 6, .str 1 62, .int .i64 157], .int .i64 158, .int .i64 0]),
  nOf [], pth 5⟩
def m_tb69 : Memo := ⟨[tx2, .int .i64 159],
  hOf [r0] 1,
  .ret (.tup [.agg [.int .u8 3, .str 1 48, .int .i64 159], .int .i64 160, .int .i64 0]),
  nOf [], pth 5⟩
def m_tb70 : Memo := ⟨[tx2, .int .i64 161],
  hOf [r0] 1,
  .ret (.tup [.agg [.int .u8 6, .str 1 123, .int .i64 161], .int .i64 162, .int .i64 0]),
  nOf [], pth 5⟩
def m_tb71 : Memo := ⟨[tx2, .int .i64 163],
  hOf [r0] 1,
  .ret (.tup [.agg [.int .u8 2, .str 1 120, .int .i64 163], .int .i64 164, .int .i64 0]),
  nOf [], pth 5⟩
def m_tb72 : Memo := ⟨[tx2, .int .i64 165],
  hOf [r0] 1,
  .ret (.tup [.agg [.int .u8 6, .str 1 61, .int .i64 165], .int .i64 166, .int .i64 0]),
  nOf [], pth 5⟩
def m_tb73 : Memo := ⟨[tx2, .int .i64 167],
  hOf [r0] 1,
  .ret (.tup [.agg [.int .u8 2, .str 1 115, .int .i64 167], .int .i64 168, .int .i64 0]),
  nOf [], pth 5⟩
def m_tb74 : Memo := ⟨[tx2, .int .i64 168],
  hOf [r0] 1,
  .ret (.tup [.agg [.int .u8 6, .str 1 123, .int .i64 168], .int .i64 169, .int .i64 0]),
  nOf [], pth 5⟩
def m_tb75 : Memo := ⟨[tx2, .int .i64 169],
  hOf [r0] 1,
  .ret (.tup [.agg [.int .u8 2, .str 1 97, .int .i64 169], .int .i64 170, .int .i64 0]),
  nOf [], pth 5⟩
def m_tb76 : Memo := ⟨[tx2, .int .i64 170],
  hOf [r0] 1,
  .ret (.tup [.agg [.int .u8 6, .str 1 58, .int .i64 170], .int .i64 171, .int .i64 0]),
  nOf [], pth 5⟩
def m_tb77 : Memo := ⟨[tx2, .int .i64 172],
  hOf [r0] 1,
  .ret (.tup [.agg [.int .u8 6, .str 1 91, .int .i64 172], .int .i64 173, .int .i64 0]),
  nOf [], pth 5⟩
def m_tb78 : Memo := ⟨[tx2, .int .i64 173],
  hOf [r0] 1,
  .ret (.tup [.agg [.int .u8 6, .str 1 93, .int .i64 173], .int .i64 174, .int .i64 0]),
  nOf [], pth 5⟩
def m_tb79 : Memo := ⟨[tx2, .int .i64 174],
  hOf [r0] 1,
  .ret (.tup [.agg [.int .u8 2, .str 1 115, .int .i64 174], .int .i64 175, .int .i64 0]),
  nOf [], pth 5⟩
def m_tb80 : Memo := ⟨[tx2, .int .i64 175],
  hOf [r0] 1,
  .ret (.tup [.agg [.int .u8 6, .str 1 123, .int .i64 175], .int .i64 176, .int .i64 0]),
  nOf [], pth 5⟩
def m_tb81 : Memo := ⟨[tx2, .int .i64 176],
  hOf [r0] 1,
  .ret (.tup [.agg [.int .u8 2, .str 1 120, .int .i64 176], .int .i64 177, .int .i64 0]),
  nOf [], pth 5⟩
def m_tb82 : Memo := ⟨[tx2, .int .i64 177],
  hOf [r0] 1,
  .ret (.tup [.agg [.int .u8 6, .str 1 44, .int .i64 177], .int .i64 178, .int .i64 0]),
  nOf [], pth 5⟩
def m_tb83 : Memo := ⟨[tx2, .int .i64 179],
  hOf [r0] 1,
  .ret (.tup [.agg [.int .u8 2, .str 1 120, .int .i64 179], .int .i64 180, .int .i64 0]),
  nOf [], pth 5⟩
def m_tb84 : Memo := ⟨[tx2, .int .i64 180],
  hOf [r0] 1,
  .ret (.tup [.agg [.int .u8 6, .str 1 125, .int .i64 180], .int .i64 181, .int .i64 0]),
  nOf [], pth 5⟩
def m_tb85 : Memo := ⟨[tx2, .int .i64 181],
  hOf [r0] 1,
  .ret (.tup [.agg [.int .u8 6, .str 1 125, .int .i64 181], .int .i64 182, .int .i64 0]),
  nOf [], pth 5⟩
def m_tb86 : Memo := ⟨[tx2, .int .i64 182],
  hOf [r0] 1,
  .ret (.tup [.agg [.int .u8 6, .str 1 59, .int .i64 182], .int .i64 183, .int .i64 0]),
  nOf [], pth 5⟩
def m_tb87 : Memo := ⟨[tx2, .int .i64 184],
  hOf [r0] 1,
  .ret (.tup [.agg [.int .u8 2, .str 1 110, .int .i64 184], .int .i64 185, .int .i64 0]),
  nOf [], pth 5⟩
def m_tb88 : Memo := ⟨[tx2, .int .i64 186],
  hOf [r0] 1,
  .ret (.tup [.agg [.int .u8 6, .str 1 61, .int .i64 186], .int .i64 187, .int .i64 0]),
  nOf [], pth 5⟩
def m_tb89 : Memo := ⟨[tx2, .int .i64 188],
  hOf [r0] 1,
  .ret (.tup [.agg [.int .u8 2, .str 1 110, .int .i64 188], .int .i64 189, .int .i64 0]),
  nOf [], pth 5⟩
def m_tb90 : Memo := ⟨[tx2, .int .i64 190],
  hOf [r0] 1,
  .ret (.tup [.agg [.int .u8 6, .str 1 45, .int .i64 190], .int .i64 191, .int .i64 0]),
  nOf [], pth 5⟩
def m_tb91 : Memo := ⟨[tx2, .int .i64 192],
  hOf [r0] 1,
  .ret (.tup [.agg [.int .u8 3, .str 1 49, .int .i64 192], .int .i64 193, .int .i64 0]),
  nOf [], pth 5⟩
def m_tb92 : Memo := ⟨[tx2, .int .i64 194],
  hOf [r0] 1,
  .ret (.tup [.agg [.int .u8 6, .str 1 125, .int .i64 194], .int .i64 195, .int .i64 0]),
  nOf [], pth 5⟩
def m_tb93 : Memo := ⟨[tx2, .int .i64 195],
  hOf [r0] 1,
  .ret (.tup [.agg [.int .u8 6, .str 1 59, .int .i64 195], .int .i64 196, .int .i64 0]),
  nOf [], pth 5⟩
def m_tb94 : Memo := ⟨[tx2, .int .i64 197],
  hOf [r0] 1,
  .ret (.tup [.agg [.int .u8 1, .str 6 121437875889522, .int .i64 197], .int .i64 203, .int .i64 0]),
  nOf [], pth 5⟩
def m_tb95 : Memo := ⟨[tx2, .int .i64 204],
  hOf [r0] 1,
  .ret (.tup [.agg [.int .u8 2, .str 1 120, .int .i64 204], .int .i64 205, .int .i64 0]),
  nOf [], pth 5⟩
def m_tb96 : Memo := ⟨[tx2, .int .i64 206],
  hOf [r0] 1,
  .ret (.tup [.agg [.int .u8 6, .str 1 125, .int .i64 206], .int .i64 207, .int .i64 0]),
  nOf [], pth 5⟩
def m_tk1 : Memo := ⟨[tx1],
  hOf [r0] 1,
  .ret (.tup [.sl (p 413) 0 60 60 false 3, .agg [.int .i64 0, .int .i64 0]]),
  nOf [(413, some (.own (putL [.int .u8 1, .str 7 28542640758940016, .int .i64 0, .int .u8 2, .str 1 112, .int .i64 8, .int .u8 6, .str 1 59, .int .i64 9, .int .u8 1, .str 4 1668183398, .int .i64 11, .int .u8 2, .str 1 102, .int .i64 16, .int .u8 6, .str 1 40, .int .i64 17, .int .u8 2, .str 1 110, .int .i64 18, .int .u8 2, .str 3 7630441, .int .i64 20, .int .u8 6, .str 1 41, .int .i64 23, .int .u8 2, .str 3 7630441, .int .i64 25, .int .u8 6, .str 1 123, .int .i64 29, .int .u8 1, .str 2 26217, .int .i64 31, .int .u8 2, .str 1 110, .int .i64 34, .int .u8 6, .str 1 60, .int .i64 36, .int .u8 3, .str 1 50, .int .i64 38, .int .u8 6, .str 1 123, .int .i64 40, .int .u8 1, .str 6 121437875889522, .int .i64 42, .int .u8 3, .str 1 49, .int .i64 49, .int .u8 6, .str 1 125, .int .i64 51, .int .u8 6, .str 1 59, .int .i64 52, .int .u8 1, .str 6 121437875889522, .int .i64 54, .int .u8 2, .str 1 110, .int .i64 61, .int .u8 6, .str 1 42, .int .i64 63, .int .u8 2, .str 1 102, .int .i64 65, .int .u8 6, .str 1 40, .int .i64 66, .int .u8 2, .str 1 110, .int .i64 67, .int .u8 6, .str 1 45, .int .i64 69, .int .u8 3, .str 1 49, .int .i64 71, .int .u8 6, .str 1 41, .int .i64 72, .int .u8 6, .str 1 125, .int .i64 74, .int .u8 6, .str 1 59, .int .i64 75, .int .u8 1, .str 4 1668183398, .int .i64 77, .int .u8 2, .str 1 103, .int .i64 82, .int .u8 6, .str 1 40, .int .i64 83, .int .u8 6, .str 1 41, .int .i64 84, .int .u8 2, .str 3 7630441, .int .i64 86, .int .u8 6, .str 1 123, .int .i64 90, .int .u8 1, .str 6 121437875889522, .int .i64 92, .int .u8 6, .str 1 91, .int .i64 99, .int .u8 6, .str 1 93, .int .i64 100, .int .u8 2, .str 3 7630441, .int .i64 101, .int .u8 6, .str 1 123, .int .i64 104, .int .u8 3, .str 1 49, .int .i64 105, .int .u8 6, .str 1 125, .int .i64 106, .int .u8 6, .str 1 91, .int .i64 107, .int .u8 3, .str 1 49, .int .i64 108, .int .u8 6, .str 1 93, .int .i64 109, .int .u8 6, .str 1 125, .int .i64 111, .int .u8 6, .str 1 59, .int .i64 112, .int .u8 1, .str 4 1668183398, .int .i64 114, .int .u8 2, .str 1 104, .int .i64 119, .int .u8 6, .str 1 40, .int .i64 120, .int .u8 6, .str 1 41, .int .i64 121, .int .u8 6, .str 1 123, .int .i64 123, .int .u8 1, .str 3 7499622, .int .i64 125, .int .u8 6, .str 1 123, .int .i64 129, .int .u8 6, .str 1 125, .int .i64 131, .int .u8 6, .str 1 125, .int .i64 133, .int .u8 6, .str 1 59, .int .i64 134, .int .u8 7, .str 0 0, .int .i64 134] 0 .e)))], pth 414⟩
def m_rd1 : Memo := ⟨[tx1],
  hOf [r0] 1,
  .ret (.agg [.int .u8 1, .str 1 112, .int .i64 0, .int .i64 0, .sl (p 812) 0 3 3 false 5]),
  nOf [(435, some (.own (putL [.int .u8 7, .str 3 7630441, .int .i64 0, .int .i64 20, .nils] 0 .e))),
  (438, some (.own (putL [.int .u8 3, .str 1 110, .int .i64 0, .int .i64 18, .sl (p 435) 0 1 1 true 5] 0 .e))),
  (449, some (.own (putL [.int .u8 7, .str 3 7630441, .int .i64 0, .int .i64 25, .nils] 0 .e))),
  (496, some (.own (putL [.int .u8 25, .str 1 110, .int .i64 0, .int .i64 34, .nils, .int .u8 21, .str 1 50, .int .i64 0, .int .i64 38, .nils] 0 .e))),
  (530, some (.own (putL [.int .u8 21, .str 1 49, .int .i64 0, .int .i64 49, .nils] 0 .e))),
  (534, some (.own (putL [.int .u8 17, .str 0 0, .int .i64 0, .int .i64 42, .sl (p 530) 0 1 1 false 5] 0 .e))),
  (539, some (.own (putL [.int .u8 27, .str 1 60, .int .i64 0, .int .i64 34, .sl (p 496) 0 2 2 true 5, .int .u8 9, .str 0 0, .int .i64 0, .int .i64 40, .sl (p 534) 0 1 1 false 5] 0 .e))),
  (624, some (.own (putL [.int .u8 25, .str 1 110, .int .i64 0, .int .i64 67, .nils, .int .u8 21, .str 1 49, .int .i64 0, .int .i64 71, .nils] 0 .e))),
  (628, some (.own (putL [.int .u8 27, .str 1 45, .int .i64 0, .int .i64 67, .sl (p 624) 0 2 2 true 5] 0 .e))),
  (637, some (.own (putL [.int .u8 25, .str 1 110, .int .i64 0, .int .i64 61, .nils, .int .u8 28, .str 1 102, .int .i64 0, .int .i64 65, .sl (p 628) 0 1 1 false 5] 0 .e))),
  (641, some (.own (putL [.int .u8 27, .str 1 42, .int .i64 0, .int .i64 61, .sl (p 637) 0 2 2 true 5] 0 .e))),
  (645, some (.own (putL [.int .u8 13, .str 0 0, .int .i64 0, .int .i64 31, .sl (p 539) 0 2 2 true 5, .int .u8 17, .str 0 0, .int .i64 0, .int .i64 54, .sl (p 641) 0 1 1 false 5] 0 .e))),
  (650, some (.own (putL [.int .u8 5, .str 0 0, .int .i64 0, .int .i64 18, .sl (p 438) 0 1 1 false 5, .int .u8 6, .str 0 0, .int .i64 0, .int .i64 25, .sl (p 449) 0 1 1 true 5, .int .u8 9, .str 0 0, .int .i64 0, .int .i64 29, .sl (p 645) 0 2 2 false 5] 0 .e))),
  (669, some (.own (putL [.int .u8 7, .str 3 7630441, .int .i64 0, .int .i64 86, .nils] 0 .e))),
  (706, some (.own (putL [.int .u8 7, .str 3 7630441, .int .i64 0, .int .i64 101, .nils] 0 .e))),
  (728, some (.own (putL [.int .u8 8, .str 0 0, .int .i64 0, .int .i64 99, .sl (p 706) 0 1 1 true 5, .int .u8 21, .str 1 49, .int .i64 0, .int .i64 105, .nils] 0 .e))),
  (749, some (.own (putL [.int .u8 32, .str 0 0, .int .i64 0, .int .i64 99, .sl (p 728) 0 2 2 false 5, .int .u8 21, .str 1 49, .int .i64 0, .int .i64 108, .nils] 0 .e))),
  (757, some (.own (putL [.int .u8 29, .str 0 0, .int .i64 0, .int .i64 99, .sl (p 749) 0 2 2 true 5] 0 .e))),
  (761, some (.own (putL [.int .u8 17, .str 0 0, .int .i64 0, .int .i64 92, .sl (p 757) 0 1 1 false 5] 0 .e))),
  (766, some (.own (putL [.int .u8 5, .str 0 0, .int .i64 0, .int .i64 0, .nils, .int .u8 6, .str 0 0, .int .i64 0, .int .i64 86, .sl (p 669) 0 1 1 true 5, .int .u8 9, .str 0 0, .int .i64 0, .int .i64 90, .sl (p 761) 0 1 1 false 5] 0 .e))),
  (801, some (.own (putL [.int .u8 9, .str 0 0, .int .i64 0, .int .i64 129, .nils] 0 .e))),
  (804, some (.own (putL [.int .u8 14, .str 0 0, .int .i64 0, .int .i64 125, .sl (p 801) 0 1 1 false 5] 0 .e))),
  (809, some (.own (putL [.int .u8 5, .str 0 0, .int .i64 0, .int .i64 0, .nils, .int .u8 6, .str 0 0, .int .i64 0, .int .i64 0, .nils, .int .u8 9, .str 0 0, .int .i64 0, .int .i64 123, .sl (p 804) 0 1 1 false 5] 0 .e))),
  (812, some (.own (putL [.int .u8 4, .str 1 102, .int .i64 0, .int .i64 11, .sl (p 650) 0 3 3 true 5, .int .u8 4, .str 1 103, .int .i64 0, .int .i64 77, .sl (p 766) 0 3 3 true 5, .int .u8 4, .str 1 104, .int .i64 0, .int .i64 114, .sl (p 809) 0 3 3 true 5] 0 .e)))], pth 899⟩
def m_lk1 : Memo := ⟨[.agg [.int .u8 1, .str 1 112, .int .i64 0, .int .i64 0, .sl (p 24) 0 3 3 false 5]],
  hOf [r0,
  (1, .own (putL [.int .u8 7, .str 3 7630441, .int .i64 0, .int .i64 20, .nils] 0 .e)),
  (2, .own (putL [.int .u8 3, .str 1 110, .int .i64 0, .int .i64 18, .sl (p 1) 0 1 1 true 5] 0 .e)),
  (3, .own (putL [.int .u8 7, .str 3 7630441, .int .i64 0, .int .i64 25, .nils] 0 .e)),
  (4, .own (putL [.int .u8 25, .str 1 110, .int .i64 0, .int .i64 34, .nils, .int .u8 21, .str 1 50, .int .i64 0, .int .i64 38, .nils] 0 .e)),
  (5, .own (putL [.int .u8 21, .str 1 49, .int .i64 0, .int .i64 49, .nils] 0 .e)),
  (6, .own (putL [.int .u8 17, .str 0 0, .int .i64 0, .int .i64 42, .sl (p 5) 0 1 1 false 5] 0 .e)),
  (7, .own (putL [.int .u8 27, .str 1 60, .int .i64 0, .int .i64 34, .sl (p 4) 0 2 2 true 5, .int .u8 9, .str 0 0, .int .i64 0, .int .i64 40, .sl (p 6) 0 1 1 false 5] 0 .e)),
  (8, .own (putL [.int .u8 25, .str 1 110, .int .i64 0, .int .i64 67, .nils, .int .u8 21, .str 1 49, .int .i64 0, .int .i64 71, .nils] 0 .e)),
  (9, .own (putL [.int .u8 27, .str 1 45, .int .i64 0, .int .i64 67, .sl (p 8) 0 2 2 true 5] 0 .e)),
  (10, .own (putL [.int .u8 25, .str 1 110, .int .i64 0, .int .i64 61, .nils, .int .u8 28, .str 1 102, .int .i64 0, .int .i64 65, .sl (p 9) 0 1 1 false 5] 0 .e)),
  (11, .own (putL [.int .u8 27, .str 1 42, .int .i64 0, .int .i64 61, .sl (p 10) 0 2 2 true 5] 0 .e)),
  (12, .own (putL [.int .u8 13, .str 0 0, .int .i64 0, .int .i64 31, .sl (p 7) 0 2 2 true 5, .int .u8 17, .str 0 0, .int .i64 0, .int .i64 54, .sl (p 11) 0 1 1 false 5] 0 .e)),
  (13, .own (putL [.int .u8 5, .str 0 0, .int .i64 0, .int .i64 18, .sl (p 2) 0 1 1 false 5, .int .u8 6, .str 0 0, .int .i64 0, .int .i64 25, .sl (p 3) 0 1 1 true 5, .int .u8 9, .str 0 0, .int .i64 0, .int .i64 29, .sl (p 12) 0 2 2 false 5] 0 .e)),
  (14, .own (putL [.int .u8 7, .str 3 7630441, .int .i64 0, .int .i64 86, .nils] 0 .e)),
  (15, .own (putL [.int .u8 7, .str 3 7630441, .int .i64 0, .int .i64 101, .nils] 0 .e)),
  (16, .own (putL [.int .u8 8, .str 0 0, .int .i64 0, .int .i64 99, .sl (p 15) 0 1 1 true 5, .int .u8 21, .str 1 49, .int .i64 0, .int .i64 105, .nils] 0 .e)),
  (17, .own (putL [.int .u8 32, .str 0 0, .int .i64 0, .int .i64 99, .sl (p 16) 0 2 2 false 5, .int .u8 21, .str 1 49, .int .i64 0, .int .i64 108, .nils] 0 .e)),
  (18, .own (putL [.int .u8 29, .str 0 0, .int .i64 0, .int .i64 99, .sl (p 17) 0 2 2 true 5] 0 .e)),
  (19, .own (putL [.int .u8 17, .str 0 0, .int .i64 0, .int .i64 92, .sl (p 18) 0 1 1 false 5] 0 .e)),
  (20, .own (putL [.int .u8 5, .str 0 0, .int .i64 0, .int .i64 0, .nils, .int .u8 6, .str 0 0, .int .i64 0, .int .i64 86, .sl (p 14) 0 1 1 true 5, .int .u8 9, .str 0 0, .int .i64 0, .int .i64 90, .sl (p 19) 0 1 1 false 5] 0 .e)),
  (21, .own (putL [.int .u8 9, .str 0 0, .int .i64 0, .int .i64 129, .nils] 0 .e)),
  (22, .own (putL [.int .u8 14, .str 0 0, .int .i64 0, .int .i64 125, .sl (p 21) 0 1 1 false 5] 0 .e)),
  (23, .own (putL [.int .u8 5, .str 0 0, .int .i64 0, .int .i64 0, .nils, .int .u8 6, .str 0 0, .int .i64 0, .int .i64 0, .nils, .int .u8 9, .str 0 0, .int .i64 0, .int .i64 123, .sl (p 22) 0 1 1 false 5] 0 .e)),
  (24, .own (putL [.int .u8 4, .str 1 102, .int .i64 0, .int .i64 11, .sl (p 13) 0 3 3 true 5, .int .u8 4, .str 1 103, .int .i64 0, .int .i64 77, .sl (p 20) 0 3 3 true 5, .int .u8 4, .str 1 104, .int .i64 0, .int .i64 114, .sl (p 23) 0 3 3 true 5] 0 .e))] 25,
  .ret (.tup [.ptr (p 29) 0, .agg [.int .i64 0, .int .i64 0]]),
  nOf [(27, some (.mp [])),
  (28, some (.mp [(.str 1 102, .agg [.sl (p 631) 0 1 1 false 3, .sl (p 653) 0 1 1 false 3]), (.str 1 103, .agg [.nils, .sl (p 679) 0 1 1 false 3]), (.str 1 104, .agg [.nils, .nils])])),
  (29, some (.own (putL [.ptr (p 1017) 0, .mp (p 27), .mp (p 28), .sl (p 1041) 0 0 2 false 1, .sl (p 1034) 0 0 1 false 3, .mp (p 1016), .nils] 0 .e))),
  (631, some (.own (putL [.int .u8 1, .str 0 0, .nils] 0 .e))),
  (653, some (.own (putL [.int .u8 1, .str 0 0, .nils] 0 .e))),
  (679, some (.own (putL [.int .u8 1, .str 0 0, .nils] 0 .e))),
  (1016, some (.mp [(.str 0 0, .bool true)])),
  (1017, some (.own (putL [.sl (p 1038) 0 0 2 false 2, .bool true] 0 .e))),
  (1018, some (.mp [])),
  (1021, some (.mp [])),
  (1031, some (.own (putL [.bool true] 0 .e))),
  (1034, some (.own (putL [.bool true, .str 0 0, .ptr (p 1031) 0] 0 .e))),
  (1036, some (.mp [])),
  (1038, some (.own (putL [.nils, .mp (p 1018), .nils, .mp (p 1036)] 0 .e))),
  (1039, some (.mp [])),
  (1041, some (.own (putL [.mp (p 1021), .mp (p 1039)] 0 .e)))], pth 1049⟩
def m_aw : Memo := ⟨[],
  hOf [r0] 1,
  .ret (.bool true),
  nOf [], pth 7605⟩
def m_tk2 : Memo := ⟨[tx2],
  hOf [r0] 1,
  .ret (.tup [.sl (p 686) 0 99 99 false 3, .agg [.int .i64 0, .int .i64 0]]),
  nOf [(686, some (.own (putL [.int .u8 1, .str 7 28542640758940016, .int .i64 0, .int .u8 2, .str 1 112, .int .i64 8, .int .u8 6, .str 1 59, .int .i64 9, .int .u8 1, .str 4 1701869940, .int .i64 11, .int .u8 2, .str 1 115, .int .i64 16, .int .u8 1, .str 6 127970521019507, .int .i64 18, .int .u8 6, .str 1 123, .int .i64 25, .int .u8 2, .str 1 97, .int .i64 27, .int .u8 6, .str 1 91, .int .i64 29, .int .u8 6, .str 1 93, .int .i64 30, .int .u8 2, .str 1 115, .int .i64 31, .int .u8 6, .str 1 125, .int .i64 33, .int .u8 6, .str 1 59, .int .i64 34, .int .u8 1, .str 4 1668183398, .int .i64 36, .int .u8 2, .str 1 102, .int .i64 41, .int .u8 6, .str 1 40, .int .i64 42, .int .u8 2, .str 1 110, .int .i64 43, .int .u8 2, .str 3 7630441, .int .i64 45, .int .u8 6, .str 1 41, .int .i64 48, .int .u8 2, .str 3 7630441, .int .i64 50, .int .u8 6, .str 1 123, .int .i64 54, .int .u8 2, .str 1 108, .int .i64 56, .int .u8 6, .str 2 15674, .int .i64 58, .int .u8 6, .str 1 91, .int .i64 61, .int .u8 6, .str 1 93, .int .i64 62, .int .u8 2, .str 3 7630441, .int .i64 63, .int .u8 6, .str 1 123, .int .i64 66, .int .u8 6, .str 1 125, .int .i64 67, .int .u8 6, .str 1 59, .int .i64 68, .int .u8 1, .str 3 7499622, .int .i64 70, .int .u8 2, .str 3 7234924, .int .i64 74, .int .u8 6, .str 1 40, .int .i64 77, .int .u8 2, .str 1 108, .int .i64 78, .int .u8 6, .str 1 41, .int .i64 79, .int .u8 6, .str 1 60, .int .i64 81, .int .u8 2, .str 1 110, .int .i64 83, .int .u8 6, .str 1 123, .int .i64 85, .int .u8 2, .str 1 108, .int .i64 87, .int .u8 6, .str 1 61, .int .i64 89, .int .u8 2, .str 6 110425311047777, .int .i64 91, .int .u8 6, .str 1 40, .int .i64 97, .int .u8 2, .str 1 108, .int .i64 98, .int .u8 6, .str 1 44, .int .i64 99, .int .u8 3, .str 1 49, .int .i64 101, .int .u8 6, .str 1 41, .int .i64 102, .int .u8 6, .str 1 125, .int .i64 104, .int .u8 6, .str 1 59, .int .i64 105, .int .u8 1, .str 6 121437875889522, .int .i64 107, .int .u8 2, .str 3 7234924, .int .i64 114, .int .u8 6, .str 1 40, .int .i64 117, .int .u8 2, .str 1 108, .int .i64 118, .int .u8 6, .str 1 41, .int .i64 119, .int .u8 6, .str 1 125, .int .i64 121, .int .u8 6, .str 1 59, .int .i64 122, .int .u8 1, .str 4 1668183398, .int .i64 124, .int .u8 2, .str 1 103, .int .i64 129, .int .u8 6, .str 1 40, .int .i64 130, .int .u8 2, .str 1 110, .int .i64 131, .int .u8 2, .str 3 7630441, .int .i64 133, .int .u8 6, .str 1 41, .int .i64 136, .int .u8 2, .str 1 115, .int .i64 138, .int .u8 6, .str 1 123, .int .i64 140, .int .u8 1, .str 3 7496054, .int .i64 142, .int .u8 2, .str 1 120, .int .i64 146, .int .u8 2, .str 1 115, .int .i64 148, .int .u8 6, .str 1 59, .int .i64 149, .int .u8 1, .str 3 7499622, .int .i64 151, .int .u8 2, .str 1 110, .int .i64 155, .int .u8 6, .str 1 62, .int .i64 157, .int .u8 3, .str 1 48, .int .i64 159, .int .u8 6, .str 1 123, .int .i64 161, .int .u8 2, .str 1 120, .int .i64 163, .int .u8 6, .str 1 61, .int .i64 165, .int .u8 2, .str 1 115, .int .i64 167, .int .u8 6, .str 1 123, .int .i64 168, .int .u8 2, .str 1 97, .int .i64 169, .int .u8 6, .str 1 58, .int .i64 170, .int .u8 6, .str 1 91, .int .i64 172, .int .u8 6, .str 1 93, .int .i64 173, .int .u8 2, .str 1 115, .int .i64 174, .int .u8 6, .str 1 123, .int .i64 175, .int .u8 2, .str 1 120, .int .i64 176, .int .u8 6, .str 1 44, .int .i64 177, .int .u8 2, .str 1 120, .int .i64 179, .int .u8 6, .str 1 125, .int .i64 180, .int .u8 6, .str 1 125, .int .i64 181, .int .u8 6, .str 1 59, .int .i64 182, .int .u8 2, .str 1 110, .int .i64 184, .int .u8 6, .str 1 61, .int .i64 186, .int .u8 2, .str 1 110, .int .i64 188, .int .u8 6, .str 1 45, .int .i64 190, .int .u8 3, .str 1 49, .int .i64 192, .int .u8 6, .str 1 125, .int .i64 194, .int .u8 6, .str 1 59, .int .i64 195, .int .u8 1, .str 6 121437875889522, .int .i64 197, .int .u8 2, .str 1 120, .int .i64 204, .int .u8 6, .str 1 125, .int .i64 206, .int .u8 6, .str 1 59, .int .i64 207, .int .u8 7, .str 0 0, .int .i64 207] 0 .e)))], pth 687⟩
def m_rd2 : Memo := ⟨[tx2],
  hOf [r0] 1,
  .ret (.agg [.int .u8 1, .str 1 112, .int .i64 0, .int .i64 0, .sl (p 1447) 0 3 3 false 5]),
  nOf [(713, some (.own (putL [.int .u8 7, .str 1 115, .int .i64 0, .int .i64 31, .nils] 0 .e))),
  (715, some (.own (putL [.int .u8 8, .str 0 0, .int .i64 0, .int .i64 29, .sl (p 713) 0 1 1 true 5] 0 .e))),
  (718, some (.own (putL [.int .u8 3, .str 1 97, .int .i64 0, .int .i64 27, .sl (p 715) 0 1 1 true 5] 0 .e))),
  (739, some (.own (putL [.int .u8 7, .str 3 7630441, .int .i64 0, .int .i64 45, .nils] 0 .e))),
  (742, some (.own (putL [.int .u8 3, .str 1 110, .int .i64 0, .int .i64 43, .sl (p 739) 0 1 1 true 5] 0 .e))),
  (753, some (.own (putL [.int .u8 7, .str 3 7630441, .int .i64 0, .int .i64 50, .nils] 0 .e))),
  (803, some (.own (putL [.int .u8 7, .str 3 7630441, .int .i64 0, .int .i64 63, .nils] 0 .e))),
  (805, some (.own (putL [.int .u8 8, .str 0 0, .int .i64 0, .int .i64 61, .sl (p 803) 0 1 1 true 5] 0 .e))),
  (815, some (.own (putL [.int .u8 25, .str 1 108, .int .i64 0, .int .i64 56, .nils, .int .u8 32, .str 0 0, .int .i64 0, .int .i64 61, .sl (p 805) 0 1 1 true 5] 0 .e))),
  (869, some (.own (putL [.int .u8 25, .str 1 108, .int .i64 0, .int .i64 78, .nils] 0 .e))),
  (896, some (.own (putL [.int .u8 28, .str 3 7234924, .int .i64 0, .int .i64 74, .sl (p 869) 0 1 1 false 5, .int .u8 25, .str 1 110, .int .i64 0, .int .i64 83, .nils] 0 .e))),
  (984, some (.own (putL [.int .u8 25, .str 1 108, .int .i64 0, .int .i64 98, .nils, .int .u8 21, .str 1 49, .int .i64 0, .int .i64 101, .nils] 0 .e))),
  (994, some (.own (putL [.int .u8 25, .str 1 108, .int .i64 0, .int .i64 87, .nils, .int .u8 28, .str 6 110425311047777, .int .i64 0, .int .i64 91, .sl (p 984) 0 2 2 false 5] 0 .e))),
  (1000, some (.own (putL [.int .u8 12, .str 0 0, .int .i64 1, .int .i64 87, .sl (p 994) 0 2 2 false 5] 0 .e))),
  (1006, some (.own (putL [.int .u8 27, .str 1 60, .int .i64 0, .int .i64 74, .sl (p 896) 0 2 2 true 5, .int .u8 9, .str 0 0, .int .i64 0, .int .i64 85, .sl (p 1000) 0 1 1 false 5] 0 .e))),
  (1059, some (.own (putL [.int .u8 25, .str 1 108, .int .i64 0, .int .i64 118, .nils] 0 .e))),
  (1069, some (.own (putL [.int .u8 28, .str 3 7234924, .int .i64 0, .int .i64 114, .sl (p 1059) 0 1 1 false 5] 0 .e))),
  (1073, some (.own (putL [.int .u8 11, .str 0 0, .int .i64 1, .int .i64 56, .sl (p 815) 0 2 2 false 5, .int .u8 14, .str 0 0, .int .i64 0, .int .i64 70, .sl (p 1006) 0 2 2 false 5, .int .u8 17, .str 0 0, .int .i64 0, .int .i64 107, .sl (p 1069) 0 1 1 false 5] 0 .e))),
  (1078, some (.own (putL [.int .u8 5, .str 0 0, .int .i64 0, .int .i64 43, .sl (p 742) 0 1 1 false 5, .int .u8 6, .str 0 0, .int .i64 0, .int .i64 50, .sl (p 753) 0 1 1 true 5, .int .u8 9, .str 0 0, .int .i64 0, .int .i64 54, .sl (p 1073) 0 3 3 false 5] 0 .e))),
  (1096, some (.own (putL [.int .u8 7, .str 3 7630441, .int .i64 0, .int .i64 133, .nils] 0 .e))),
  (1099, some (.own (putL [.int .u8 3, .str 1 110, .int .i64 0, .int .i64 131, .sl (p 1096) 0 1 1 true 5] 0 .e))),
  (1110, some (.own (putL [.int .u8 7, .str 1 115, .int .i64 0, .int .i64 138, .nils] 0 .e))),
  (1125, some (.own (putL [.int .u8 7, .str 1 115, .int .i64 0, .int .i64 148, .nils] 0 .e))),
  (1177, some (.own (putL [.int .u8 25, .str 1 110, .int .i64 0, .int .i64 155, .nils, .int .u8 21, .str 1 48, .int .i64 0, .int .i64 159, .nils] 0 .e))),
  (1251, some (.own (putL [.int .u8 7, .str 1 115, .int .i64 0, .int .i64 174, .nils] 0 .e))),
  (1300, some (.own (putL [.int .u8 8, .str 0 0, .int .i64 0, .int .i64 172, .sl (p 1251) 0 1 1 true 5, .int .u8 25, .str 1 120, .int .i64 0, .int .i64 176, .nils, .int .u8 25, .str 1 120, .int .i64 0, .int .i64 179, .nils] 0 .e))),
  (1309, some (.own (putL [.int .u8 32, .str 0 0, .int .i64 0, .int .i64 172, .sl (p 1300) 0 3 3 false 5] 0 .e))),
  (1311, some (.own (putL [.int .u8 34, .str 1 97, .int .i64 0, .int .i64 169, .sl (p 1309) 0 1 1 true 5] 0 .e))),
  (1322, some (.own (putL [.int .u8 25, .str 1 120, .int .i64 0, .int .i64 163, .nils, .int .u8 33, .str 1 115, .int .i64 0, .int .i64 167, .sl (p 1311) 0 1 1 false 5] 0 .e))),
  (1385, some (.own (putL [.int .u8 25, .str 1 110, .int .i64 0, .int .i64 188, .nils, .int .u8 21, .str 1 49, .int .i64 0, .int .i64 192, .nils] 0 .e))),
  (1389, some (.own (putL [.int .u8 25, .str 1 110, .int .i64 0, .int .i64 184, .nils, .int .u8 27, .str 1 45, .int .i64 0, .int .i64 188, .sl (p 1385) 0 2 2 true 5] 0 .e))),
  (1392, some (.own (putL [.int .u8 12, .str 0 0, .int .i64 1, .int .i64 163, .sl (p 1322) 0 2 2 false 5, .int .u8 12, .str 0 0, .int .i64 1, .int .i64 184, .sl (p 1389) 0 2 2 false 5] 0 .e))),
  (1398, some (.own (putL [.int .u8 27, .str 1 62, .int .i64 0, .int .i64 155, .sl (p 1177) 0 2 2 true 5, .int .u8 9, .str 0 0, .int .i64 0, .int .i64 161, .sl (p 1392) 0 2 2 false 5] 0 .e))),
  (1435, some (.own (putL [.int .u8 25, .str 1 120, .int .i64 0, .int .i64 204, .nils] 0 .e))),
  (1439, some (.own (putL [.int .u8 10, .str 1 120, .int .i64 0, .int .i64 142, .sl (p 1125) 0 1 1 true 5, .int .u8 14, .str 0 0, .int .i64 0, .int .i64 151, .sl (p 1398) 0 2 2 false 5, .int .u8 17, .str 0 0, .int .i64 0, .int .i64 197, .sl (p 1435) 0 1 1 false 5] 0 .e))),
  (1444, some (.own (putL [.int .u8 5, .str 0 0, .int .i64 0, .int .i64 131, .sl (p 1099) 0 1 1 false 5, .int .u8 6, .str 0 0, .int .i64 0, .int .i64 138, .sl (p 1110) 0 1 1 true 5, .int .u8 9, .str 0 0, .int .i64 0, .int .i64 140, .sl (p 1439) 0 3 3 false 5] 0 .e))),
  (1447, some (.own (putL [.int .u8 2, .str 1 115, .int .i64 0, .int .i64 11, .sl (p 718) 0 1 1 false 5, .int .u8 4, .str 1 102, .int .i64 0, .int .i64 36, .sl (p 1078) 0 3 3 true 5, .int .u8 4, .str 1 103, .int .i64 0, .int .i64 124, .sl (p 1444) 0 3 3 true 5] 0 .e)))], pth 1576⟩
def m_lk2 : Memo := ⟨[.agg [.int .u8 1, .str 1 112, .int .i64 0, .int .i64 0, .sl (p 37) 0 3 3 false 5]],
  hOf [r0,
  (1, .own (putL [.int .u8 7, .str 1 115, .int .i64 0, .int .i64 31, .nils] 0 .e)),
  (2, .own (putL [.int .u8 8, .str 0 0, .int .i64 0, .int .i64 29, .sl (p 1) 0 1 1 true 5] 0 .e)),
  (3, .own (putL [.int .u8 3, .str 1 97, .int .i64 0, .int .i64 27, .sl (p 2) 0 1 1 true 5] 0 .e)),
  (4, .own (putL [.int .u8 7, .str 3 7630441, .int .i64 0, .int .i64 45, .nils] 0 .e)),
  (5, .own (putL [.int .u8 3, .str 1 110, .int .i64 0, .int .i64 43, .sl (p 4) 0 1 1 true 5] 0 .e)),
  (6, .own (putL [.int .u8 7, .str 3 7630441, .int .i64 0, .int .i64 50, .nils] 0 .e)),
  (7, .own (putL [.int .u8 7, .str 3 7630441, .int .i64 0, .int .i64 63, .nils] 0 .e)),
  (8, .own (putL [.int .u8 8, .str 0 0, .int .i64 0, .int .i64 61, .sl (p 7) 0 1 1 true 5] 0 .e)),
  (9, .own (putL [.int .u8 25, .str 1 108, .int .i64 0, .int .i64 56, .nils, .int .u8 32, .str 0 0, .int .i64 0, .int .i64 61, .sl (p 8) 0 1 1 true 5] 0 .e)),
  (10, .own (putL [.int .u8 25, .str 1 108, .int .i64 0, .int .i64 78, .nils] 0 .e)),
  (11, .own (putL [.int .u8 28, .str 3 7234924, .int .i64 0, .int .i64 74, .sl (p 10) 0 1 1 false 5, .int .u8 25, .str 1 110, .int .i64 0, .int .i64 83, .nils] 0 .e)),
  (12, .own (putL [.int .u8 25, .str 1 108, .int .i64 0, .int .i64 98, .nils, .int .u8 21, .str 1 49, .int .i64 0, .int .i64 101, .nils] 0 .e)),
  (13, .own (putL [.int .u8 25, .str 1 108, .int .i64 0, .int .i64 87, .nils, .int .u8 28, .str 6 110425311047777, .int .i64 0, .int .i64 91, .sl (p 12) 0 2 2 false 5] 0 .e)),
  (14, .own (putL [.int .u8 12, .str 0 0, .int .i64 1, .int .i64 87, .sl (p 13) 0 2 2 false 5] 0 .e)),
  (15, .own (putL [.int .u8 27, .str 1 60, .int .i64 0, .int .i64 74, .sl (p 11) 0 2 2 true 5, .int .u8 9, .str 0 0, .int .i64 0, .int .i64 85, .sl (p 14) 0 1 1 false 5] 0 .e)),
  (16, .own (putL [.int .u8 25, .str 1 108, .int .i64 0, .int .i64 118, .nils] 0 .e)),
  (17, .own (putL [.int .u8 28, .str 3 7234924, .int .i64 0, .int .i64 114, .sl (p 16) 0 1 1 false 5] 0 .e)),
  (18, .own (putL [.int .u8 11, .str 0 0, .int .i64 1, .int .i64 56, .sl (p 9) 0 2 2 false 5, .int .u8 14, .str 0 0, .int .i64 0, .int .i64 70, .sl (p 15) 0 2 2 false 5, .int .u8 17, .str 0 0, .int .i64 0, .int .i64 107, .sl (p 17) 0 1 1 false 5] 0 .e)),
  (19, .own (putL [.int .u8 5, .str 0 0, .int .i64 0, .int .i64 43, .sl (p 5) 0 1 1 false 5, .int .u8 6, .str 0 0, .int .i64 0, .int .i64 50, .sl (p 6) 0 1 1 true 5, .int .u8 9, .str 0 0, .int .i64 0, .int .i64 54, .sl (p 18) 0 3 3 false 5] 0 .e)),
  (20, .own (putL [.int .u8 7, .str 3 7630441, .int .i64 0, .int .i64 133, .nils] 0 .e)),
  (21, .own (putL [.int .u8 3, .str 1 110, .int .i64 0, .int .i64 131, .sl (p 20) 0 1 1 true 5] 0 .e)),
  (22, .own (putL [.int .u8 7, .str 1 115, .int .i64 0, .int .i64 138, .nils] 0 .e)),
  (23, .own (putL [.int .u8 7, .str 1 115, .int .i64 0, .int .i64 148, .nils] 0 .e)),
  (24, .own (putL [.int .u8 25, .str 1 110, .int .i64 0, .int .i64 155, .nils, .int .u8 21, .str 1 48, .int .i64 0, .int .i64 159, .nils] 0 .e)),
  (25, .own (putL [.int .u8 7, .str 1 115, .int .i64 0, .int .i64 174, .nils] 0 .e)),
  (26, .own (putL [.int .u8 8, .str 0 0, .int .i64 0, .int .i64 172, .sl (p 25) 0 1 1 true 5, .int .u8 25, .str 1 120, .int .i64 0, .int .i64 176, .nils, .int .u8 25, .str 1 120, .int .i64 0, .int .i64 179, .nils] 0 .e)),
  (27, .own (putL [.int .u8 32, .str 0 0, .int .i64 0, .int .i64 172, .sl (p 26) 0 3 3 false 5] 0 .e)),
  (28, .own (putL [.int .u8 34, .str 1 97, .int .i64 0, .int .i64 169, .sl (p 27) 0 1 1 true 5] 0 .e)),
  (29, .own (putL [.int .u8 25, .str 1 120, .int .i64 0, .int .i64 163, .nils, .int .u8 33, .str 1 115, .int .i64 0, .int .i64 167, .sl (p 28) 0 1 1 false 5] 0 .e)),
  (30, .own (putL [.int .u8 25, .str 1 110, .int .i64 0, .int .i64 188, .nils, .int .u8 21, .str 1 49, .int .i64 0, .int .i64 192, .nils] 0 .e)),
  (31, .own (putL [.int .u8 25, .str 1 110, .int .i64 0, .int .i64 184, .nils, .int .u8 27, .str 1 45, .int .i64 0, .int .i64 188, .sl (p 30) 0 2 2 true 5] 0 .e)),
  (32, .own (putL [.int .u8 12, .str 0 0, .int .i64 1, .int .i64 163, .sl (p 29) 0 2 2 false 5, .int .u8 12, .str 0 0, .int .i64 1, .int .i64 184, .sl (p 31) 0 2 2 false 5] 0 .e)),
  (33, .own (putL [.int .u8 27, .str 1 62, .int .i64 0, .int .i64 155, .sl (p 24) 0 2 2 true 5, .int .u8 9, .str 0 0, .int .i64 0, .int .i64 161, .sl (p 32) 0 2 2 false 5] 0 .e)),
  (34, .own (putL [.int .u8 25, .str 1 120, .int .i64 0, .int .i64 204, .nils] 0 .e)),
  (35, .own (putL [.int .u8 10, .str 1 120, .int .i64 0, .int .i64 142, .sl (p 23) 0 1 1 true 5, .int .u8 14, .str 0 0, .int .i64 0, .int .i64 151, .sl (p 33) 0 2 2 false 5, .int .u8 17, .str 0 0, .int .i64 0, .int .i64 197, .sl (p 34) 0 1 1 false 5] 0 .e)),
  (36, .own (putL [.int .u8 5, .str 0 0, .int .i64 0, .int .i64 131, .sl (p 21) 0 1 1 false 5, .int .u8 6, .str 0 0, .int .i64 0, .int .i64 138, .sl (p 22) 0 1 1 true 5, .int .u8 9, .str 0 0, .int .i64 0, .int .i64 140, .sl (p 35) 0 3 3 false 5] 0 .e)),
  (37, .own (putL [.int .u8 2, .str 1 115, .int .i64 0, .int .i64 11, .sl (p 3) 0 1 1 false 5, .int .u8 4, .str 1 102, .int .i64 0, .int .i64 36, .sl (p 19) 0 3 3 true 5, .int .u8 4, .str 1 103, .int .i64 0, .int .i64 124, .sl (p 36) 0 3 3 true 5] 0 .e))] 38,
  .ret (.tup [.ptr (p 42) 0, .agg [.int .i64 0, .int .i64 0]]),
  nOf [(40, some (.mp [(.str 1 115, .sl (p 974) 0 1 1 false 4)])),
  (41, some (.mp [(.str 1 102, .agg [.sl (p 1008) 0 1 1 false 3, .sl (p 1030) 0 1 1 false 3]), (.str 1 103, .agg [.sl (p 1056) 0 1 1 false 3, .sl (p 1078) 0 1 1 false 3])])),
  (42, some (.own (putL [.ptr (p 1397) 0, .mp (p 40), .mp (p 41), .sl (p 1529) 0 0 2 false 1, .sl (p 1522) 0 0 1 false 3, .mp (p 1396), .sl (p 1078) 0 1 1 false 3] 0 .e))),
  (972, some (.own (putL [.int .u8 6, .str 1 115, .nils] 0 .e))),
  (974, some (.own (putL [.str 1 97, .int .u8 5, .str 0 0, .sl (p 972) 0 1 1 true 3] 0 .e))),
  (1008, some (.own (putL [.int .u8 1, .str 0 0, .nils] 0 .e))),
  (1030, some (.own (putL [.int .u8 1, .str 0 0, .nils] 0 .e))),
  (1056, some (.own (putL [.int .u8 1, .str 0 0, .nils] 0 .e))),
  (1078, some (.own (putL [.int .u8 6, .str 1 115, .nils] 0 .e))),
  (1396, some (.mp [(.str 0 0, .bool true)])),
  (1397, some (.own (putL [.sl (p 1526) 0 0 2 false 2, .bool true] 0 .e))),
  (1398, some (.mp [(.str 1 110, .ptr (p 1413) 0), (.str 1 120, .ptr (p 1458) 0)])),
  (1401, some (.mp [(.str 1 110, .int .i64 131), (.str 1 120, .int .i64 142)])),
  (1413, some (.own (putL [.int .u8 1, .str 0 0, .nils, .bool true] 0 .e))),
  (1455, some (.own (putL [.str 1 110, .str 1 120] 0 .e))),
  (1458, some (.own (putL [.int .u8 6, .str 1 115, .nils, .bool true] 0 .e))),
  (1519, some (.own (putL [.bool true] 0 .e))),
  (1522, some (.own (putL [.bool true, .str 0 0, .ptr (p 1519) 0] 0 .e))),
  (1524, some (.mp [])),
  (1526, some (.own (putL [.sl (p 1455) 0 2 2 false 1, .mp (p 1398), .nils, .mp (p 1524)] 0 .e))),
  (1527, some (.mp [])),
  (1529, some (.own (putL [.mp (p 1401), .mp (p 1527)] 0 .e)))], pth 1775⟩
def m_ri0 : Memo := ⟨[.str 1 48],
  hOf [r0] 1,
  .ret (.tup [.int .i64 0, .bool true]),
  nOf [], pth 4⟩
def m_ri1 : Memo := ⟨[.str 1 49],
  hOf [r0] 1,
  .ret (.tup [.int .i64 1, .bool true]),
  nOf [], pth 4⟩
def m_z0 : Memo := ⟨[.agg [.int .u8 1, .str 1 112, .int .i64 0, .int .i64 0, .sl (p 37) 0 3 3 false 5], .agg [.int .u8 6, .str 1 115, .nils]],
  hOf [r0,
  (1, .own (putL [.int .u8 7, .str 1 115, .int .i64 0, .int .i64 31, .nils] 0 .e)),
  (2, .own (putL [.int .u8 8, .str 0 0, .int .i64 0, .int .i64 29, .sl (p 1) 0 1 1 true 5] 0 .e)),
  (3, .own (putL [.int .u8 3, .str 1 97, .int .i64 0, .int .i64 27, .sl (p 2) 0 1 1 true 5] 0 .e)),
  (4, .own (putL [.int .u8 7, .str 3 7630441, .int .i64 0, .int .i64 45, .nils] 0 .e)),
  (5, .own (putL [.int .u8 3, .str 1 110, .int .i64 0, .int .i64 43, .sl (p 4) 0 1 1 true 5] 0 .e)),
  (6, .own (putL [.int .u8 7, .str 3 7630441, .int .i64 0, .int .i64 50, .nils] 0 .e)),
  (7, .own (putL [.int .u8 7, .str 3 7630441, .int .i64 0, .int .i64 63, .nils] 0 .e)),
  (8, .own (putL [.int .u8 8, .str 0 0, .int .i64 0, .int .i64 61, .sl (p 7) 0 1 1 true 5] 0 .e)),
  (9, .own (putL [.int .u8 25, .str 1 108, .int .i64 0, .int .i64 56, .nils, .int .u8 32, .str 0 0, .int .i64 0, .int .i64 61, .sl (p 8) 0 1 1 true 5] 0 .e)),
  (10, .own (putL [.int .u8 25, .str 1 108, .int .i64 0, .int .i64 78, .nils] 0 .e)),
  (11, .own (putL [.int .u8 28, .str 3 7234924, .int .i64 0, .int .i64 74, .sl (p 10) 0 1 1 false 5, .int .u8 25, .str 1 110, .int .i64 0, .int .i64 83, .nils] 0 .e)),
  (12, .own (putL [.int .u8 25, .str 1 108, .int .i64 0, .int .i64 98, .nils, .int .u8 21, .str 1 49, .int .i64 0, .int .i64 101, .nils] 0 .e)),
  (13, .own (putL [.int .u8 25, .str 1 108, .int .i64 0, .int .i64 87, .nils, .int .u8 28, .str 6 110425311047777, .int .i64 0, .int .i64 91, .sl (p 12) 0 2 2 false 5] 0 .e)),
  (14, .own (putL [.int .u8 12, .str 0 0, .int .i64 1, .int .i64 87, .sl (p 13) 0 2 2 false 5] 0 .e)),
  (15, .own (putL [.int .u8 27, .str 1 60, .int .i64 0, .int .i64 74, .sl (p 11) 0 2 2 true 5, .int .u8 9, .str 0 0, .int .i64 0, .int .i64 85, .sl (p 14) 0 1 1 false 5] 0 .e)),
  (16, .own (putL [.int .u8 25, .str 1 108, .int .i64 0, .int .i64 118, .nils] 0 .e)),
  (17, .own (putL [.int .u8 28, .str 3 7234924, .int .i64 0, .int .i64 114, .sl (p 16) 0 1 1 false 5] 0 .e)),
  (18, .own (putL [.int .u8 11, .str 0 0, .int .i64 1, .int .i64 56, .sl (p 9) 0 2 2 false 5, .int .u8 14, .str 0 0, .int .i64 0, .int .i64 70, .sl (p 15) 0 2 2 false 5, .int .u8 17, .str 0 0, .int .i64 0, .int .i64 107, .sl (p 17) 0 1 1 false 5] 0 .e)),
  (19, .own (putL [.int .u8 5, .str 0 0, .int .i64 0, .int .i64 43, .sl (p 5) 0 1 1 false 5, .int .u8 6, .str 0 0, .int .i64 0, .int .i64 50, .sl (p 6) 0 1 1 true 5, .int .u8 9, .str 0 0, .int .i64 0, .int .i64 54, .sl (p 18) 0 3 3 false 5] 0 .e)),
  (20, .own (putL [.int .u8 7, .str 3 7630441, .int .i64 0, .int .i64 133, .nils] 0 .e)),
  (21, .own (putL [.int .u8 3, .str 1 110, .int .i64 0, .int .i64 131, .sl (p 20) 0 1 1 true 5] 0 .e)),
  (22, .own (putL [.int .u8 7, .str 1 115, .int .i64 0, .int .i64 138, .nils] 0 .e)),
  (23, .own (putL [.int .u8 7, .str 1 115, .int .i64 0, .int .i64 148, .nils] 0 .e)),
  (24, .own (putL [.int .u8 25, .str 1 110, .int .i64 0, .int .i64 155, .nils, .int .u8 21, .str 1 48, .int .i64 0, .int .i64 159, .nils] 0 .e)),
  (25, .own (putL [.int .u8 7, .str 1 115, .int .i64 0, .int .i64 174, .nils] 0 .e)),
  (26, .own (putL [.int .u8 8, .str 0 0, .int .i64 0, .int .i64 172, .sl (p 25) 0 1 1 true 5, .int .u8 25, .str 1 120, .int .i64 0, .int .i64 176, .nils, .int .u8 25, .str 1 120, .int .i64 0, .int .i64 179, .nils] 0 .e)),
  (27, .own (putL [.int .u8 32, .str 0 0, .int .i64 0, .int .i64 172, .sl (p 26) 0 3 3 false 5] 0 .e)),
  (28, .own (putL [.int .u8 34, .str 1 97, .int .i64 0, .int .i64 169, .sl (p 27) 0 1 1 true 5] 0 .e)),
  (29, .own (putL [.int .u8 25, .str 1 120, .int .i64 0, .int .i64 163, .nils, .int .u8 33, .str 1 115, .int .i64 0, .int .i64 167, .sl (p 28) 0 1 1 false 5] 0 .e)),
  (30, .own (putL [.int .u8 25, .str 1 110, .int .i64 0, .int .i64 188, .nils, .int .u8 21, .str 1 49, .int .i64 0, .int .i64 192, .nils] 0 .e)),
  (31, .own (putL [.int .u8 25, .str 1 110, .int .i64 0, .int .i64 184, .nils, .int .u8 27, .str 1 45, .int .i64 0, .int .i64 188, .sl (p 30) 0 2 2 true 5] 0 .e)),
  (32, .own (putL [.int .u8 12, .str 0 0, .int .i64 1, .int .i64 163, .sl (p 29) 0 2 2 false 5, .int .u8 12, .str 0 0, .int .i64 1, .int .i64 184, .sl (p 31) 0 2 2 false 5] 0 .e)),
  (33, .own (putL [.int .u8 27, .str 1 62, .int .i64 0, .int .i64 155, .sl (p 24) 0 2 2 true 5, .int .u8 9, .str 0 0, .int .i64 0, .int .i64 161, .sl (p 32) 0 2 2 false 5] 0 .e)),
  (34, .own (putL [.int .u8 25, .str 1 120, .int .i64 0, .int .i64 204, .nils] 0 .e)),
  (35, .own (putL [.int .u8 10, .str 1 120, .int .i64 0, .int .i64 142, .sl (p 23) 0 1 1 true 5, .int .u8 14, .str 0 0, .int .i64 0, .int .i64 151, .sl (p 33) 0 2 2 false 5, .int .u8 17, .str 0 0, .int .i64 0, .int .i64 197, .sl (p 34) 0 1 1 false 5] 0 .e)),
  (36, .own (putL [.int .u8 5, .str 0 0, .int .i64 0, .int .i64 131, .sl (p 21) 0 1 1 false 5, .int .u8 6, .str 0 0, .int .i64 0, .int .i64 138, .sl (p 22) 0 1 1 true 5, .int .u8 9, .str 0 0, .int .i64 0, .int .i64 140, .sl (p 35) 0 3 3 false 5] 0 .e)),
  (37, .own (putL [.int .u8 2, .str 1 115, .int .i64 0, .int .i64 11, .sl (p 3) 0 1 1 false 5, .int .u8 4, .str 1 102, .int .i64 0, .int .i64 36, .sl (p 19) 0 3 3 true 5, .int .u8 4, .str 1 103, .int .i64 0, .int .i64 124, .sl (p 36) 0 3 3 true 5] 0 .e))] 38,
  .ret (.tup [.agg [.int .u8 6, .int .i64 0, .str 0 0, .int .u64 0, .str 1 115, .sl (p 267) 0 1 1 false 6], .bool true]),
  nOf [(267, some (.own (putL [.int .u8 5, .int .i64 0, .str 0 0, .int .u64 0, .str 0 0, .nils] 0 .e)))], pth 268⟩
def m_sz0 : Memo := ⟨[.agg [.int .u8 6, .int .i64 0, .str 0 0, .int .u64 0, .str 1 115, .sl (p 1) 0 1 1 false 6], .sym ⟨false, 1, 2, 100000, 0⟩],
  hOf [r0,
  (1, .own (putL [.int .u8 5, .int .i64 0, .str 0 0, .int .u64 0, .str 0 0, .nils] 0 .e))] 2,
  .ret (.int .i64 2),
  nOf [], pth 5⟩
def m_sz1 : Memo := ⟨[.agg [.int .u8 6, .int .i64 0, .str 0 0, .int .u64 0, .str 1 115, .sl (p 2) 0 1 1 false 6], .sym ⟨false, 1, 6, 100000, 0⟩],
  hOf [r0,
  (1, .own (putL [.int .u8 5, .int .i64 0, .str 0 0, .int .u64 0, .str 0 0, .nils] 0 .e)),
  (2, .own (putL [.int .u8 5, .int .i64 0, .str 0 0, .int .u64 0, .str 0 0, .sl (p 3) 0 2 2 false 6] 0 .e)),
  (3, .own (putL [.int .u8 6, .int .i64 0, .str 0 0, .int .u64 0, .str 1 115, .sl (p 1) 0 1 1 false 6, .int .u8 6, .int .i64 0, .str 0 0, .int .u64 0, .str 1 115, .sl (p 1) 0 1 1 false 6] 0 .e))] 4,
  .ret (.int .i64 6),
  nOf [], pth 15⟩
def m_sz2 : Memo := ⟨[.agg [.int .u8 6, .int .i64 0, .str 0 0, .int .u64 0, .str 1 115, .sl (p 4) 0 1 1 false 6], .sym ⟨false, 1, 14, 100000, 0⟩],
  hOf [r0,
  (1, .own (putL [.int .u8 5, .int .i64 0, .str 0 0, .int .u64 0, .str 0 0, .nils] 0 .e)),
  (2, .own (putL [.int .u8 5, .int .i64 0, .str 0 0, .int .u64 0, .str 0 0, .sl (p 3) 0 2 2 false 6] 0 .e)),
  (3, .own (putL [.int .u8 6, .int .i64 0, .str 0 0, .int .u64 0, .str 1 115, .sl (p 1) 0 1 1 false 6, .int .u8 6, .int .i64 0, .str 0 0, .int .u64 0, .str 1 115, .sl (p 1) 0 1 1 false 6] 0 .e)),
  (4, .own (putL [.int .u8 5, .int .i64 0, .str 0 0, .int .u64 0, .str 0 0, .sl (p 5) 0 2 2 false 6] 0 .e)),
  (5, .own (putL [.int .u8 6, .int .i64 0, .str 0 0, .int .u64 0, .str 1 115, .sl (p 2) 0 1 1 false 6, .int .u8 6, .int .i64 0, .str 0 0, .int .u64 0, .str 1 115, .sl (p 2) 0 1 1 false 6] 0 .e))] 6,
  .ret (.int .i64 14),
  nOf [], pth 33⟩
def m_sz3 : Memo := ⟨[.agg [.int .u8 6, .int .i64 0, .str 0 0, .int .u64 0, .str 1 115, .sl (p 6) 0 1 1 false 6], .sym ⟨false, 1, 30, 100000, 0⟩],
  hOf [r0,
  (1, .own (putL [.int .u8 5, .int .i64 0, .str 0 0, .int .u64 0, .str 0 0, .nils] 0 .e)),
  (2, .own (putL [.int .u8 5, .int .i64 0, .str 0 0, .int .u64 0, .str 0 0, .sl (p 3) 0 2 2 false 6] 0 .e)),
  (3, .own (putL [.int .u8 6, .int .i64 0, .str 0 0, .int .u64 0, .str 1 115, .sl (p 1) 0 1 1 false 6, .int .u8 6, .int .i64 0, .str 0 0, .int .u64 0, .str 1 115, .sl (p 1) 0 1 1 false 6] 0 .e)),
  (4, .own (putL [.int .u8 5, .int .i64 0, .str 0 0, .int .u64 0, .str 0 0, .sl (p 5) 0 2 2 false 6] 0 .e)),
  (5, .own (putL [.int .u8 6, .int .i64 0, .str 0 0, .int .u64 0, .str 1 115, .sl (p 2) 0 1 1 false 6, .int .u8 6, .int .i64 0, .str 0 0, .int .u64 0, .str 1 115, .sl (p 2) 0 1 1 false 6] 0 .e)),
  (6, .own (putL [.int .u8 5, .int .i64 0, .str 0 0, .int .u64 0, .str 0 0, .sl (p 7) 0 2 2 false 6] 0 .e)),
  (7, .own (putL [.int .u8 6, .int .i64 0, .str 0 0, .int .u64 0, .str 1 115, .sl (p 4) 0 1 1 false 6, .int .u8 6, .int .i64 0, .str 0 0, .int .u64 0, .str 1 115, .sl (p 4) 0 1 1 false 6] 0 .e))] 8,
  .ret (.int .i64 30),
  nOf [], pth 67⟩
def m_sz4 : Memo := ⟨[.agg [.int .u8 6, .int .i64 0, .str 0 0, .int .u64 0, .str 1 115, .sl (p 8) 0 1 1 false 6], .sym ⟨false, 1, 62, 100000, 0⟩],
  hOf [r0,
  (1, .own (putL [.int .u8 5, .int .i64 0, .str 0 0, .int .u64 0, .str 0 0, .nils] 0 .e)),
  (2, .own (putL [.int .u8 5, .int .i64 0, .str 0 0, .int .u64 0, .str 0 0, .sl (p 3) 0 2 2 false 6] 0 .e)),
  (3, .own (putL [.int .u8 6, .int .i64 0, .str 0 0, .int .u64 0, .str 1 115, .sl (p 1) 0 1 1 false 6, .int .u8 6, .int .i64 0, .str 0 0, .int .u64 0, .str 1 115, .sl (p 1) 0 1 1 false 6] 0 .e)),
  (4, .own (putL [.int .u8 5, .int .i64 0, .str 0 0, .int .u64 0, .str 0 0, .sl (p 5) 0 2 2 false 6] 0 .e)),
  (5, .own (putL [.int .u8 6, .int .i64 0, .str 0 0, .int .u64 0, .str 1 115, .sl (p 2) 0 1 1 false 6, .int .u8 6, .int .i64 0, .str 0 0, .int .u64 0, .str 1 115, .sl (p 2) 0 1 1 false 6] 0 .e)),
  (6, .own (putL [.int .u8 5, .int .i64 0, .str 0 0, .int .u64 0, .str 0 0, .sl (p 7) 0 2 2 false 6] 0 .e)),
  (7, .own (putL [.int .u8 6, .int .i64 0, .str 0 0, .int .u64 0, .str 1 115, .sl (p 4) 0 1 1 false 6, .int .u8 6, .int .i64 0, .str 0 0, .int .u64 0, .str 1 115, .sl (p 4) 0 1 1 false 6] 0 .e)),
  (8, .own (putL [.int .u8 5, .int .i64 0, .str 0 0, .int .u64 0, .str 0 0, .sl (p 9) 0 2 2 false 6] 0 .e)),
  (9, .own (putL [.int .u8 6, .int .i64 0, .str 0 0, .int .u64 0, .str 1 115, .sl (p 6) 0 1 1 false 6, .int .u8 6, .int .i64 0, .str 0 0, .int .u64 0, .str 1 115, .sl (p 6) 0 1 1 false 6] 0 .e))] 10,
  .ret (.int .i64 62),
  nOf [], pth 133⟩
def m_sz5 : Memo := ⟨[.agg [.int .u8 6, .int .i64 0, .str 0 0, .int .u64 0, .str 1 115, .sl (p 10) 0 1 1 false 6], .sym ⟨false, 1, 126, 100000, 0⟩],
  hOf [r0,
  (1, .own (putL [.int .u8 5, .int .i64 0, .str 0 0, .int .u64 0, .str 0 0, .nils] 0 .e)),
  (2, .own (putL [.int .u8 5, .int .i64 0, .str 0 0, .int .u64 0, .str 0 0, .sl (p 3) 0 2 2 false 6] 0 .e)),
  (3, .own (putL [.int .u8 6, .int .i64 0, .str 0 0, .int .u64 0, .str 1 115, .sl (p 1) 0 1 1 false 6, .int .u8 6, .int .i64 0, .str 0 0, .int .u64 0, .str 1 115, .sl (p 1) 0 1 1 false 6] 0 .e)),
  (4, .own (putL [.int .u8 5, .int .i64 0, .str 0 0, .int .u64 0, .str 0 0, .sl (p 5) 0 2 2 false 6] 0 .e)),
  (5, .own (putL [.int .u8 6, .int .i64 0, .str 0 0, .int .u64 0, .str 1 115, .sl (p 2) 0 1 1 false 6, .int .u8 6, .int .i64 0, .str 0 0, .int .u64 0, .str 1 115, .sl (p 2) 0 1 1 false 6] 0 .e)),
  (6, .own (putL [.int .u8 5, .int .i64 0, .str 0 0, .int .u64 0, .str 0 0, .sl (p 7) 0 2 2 false 6] 0 .e)),
  (7, .own (putL [.int .u8 6, .int .i64 0, .str 0 0, .int .u64 0, .str 1 115, .sl (p 4) 0 1 1 false 6, .int .u8 6, .int .i64 0, .str 0 0, .int .u64 0, .str 1 115, .sl (p 4) 0 1 1 false 6] 0 .e)),
  (8, .own (putL [.int .u8 5, .int .i64 0, .str 0 0, .int .u64 0, .str 0 0, .sl (p 9) 0 2 2 false 6] 0 .e)),
  (9, .own (putL [.int .u8 6, .int .i64 0, .str 0 0, .int .u64 0, .str 1 115, .sl (p 6) 0 1 1 false 6, .int .u8 6, .int .i64 0, .str 0 0, .int .u64 0, .str 1 115, .sl (p 6) 0 1 1 false 6] 0 .e)),
  (10, .own (putL [.int .u8 5, .int .i64 0, .str 0 0, .int .u64 0, .str 0 0, .sl (p 11) 0 2 2 false 6] 0 .e)),
  (11, .own (putL [.int .u8 6, .int .i64 0, .str 0 0, .int .u64 0, .str 1 115, .sl (p 8) 0 1 1 false 6, .int .u8 6, .int .i64 0, .str 0 0, .int .u64 0, .str 1 115, .sl (p 8) 0 1 1 false 6] 0 .e))] 12,
  .ret (.int .i64 126),
  nOf [], pth 263⟩
def m_sz6 : Memo := ⟨[.agg [.int .u8 6, .int .i64 0, .str 0 0, .int .u64 0, .str 1 115, .sl (p 12) 0 1 1 false 6], .sym ⟨false, 1, 254, 100000, 0⟩],
  hOf [r0,
  (1, .own (putL [.int .u8 5, .int .i64 0, .str 0 0, .int .u64 0, .str 0 0, .nils] 0 .e)),
  (2, .own (putL [.int .u8 5, .int .i64 0, .str 0 0, .int .u64 0, .str 0 0, .sl (p 3) 0 2 2 false 6] 0 .e)),
  (3, .own (putL [.int .u8 6, .int .i64 0, .str 0 0, .int .u64 0, .str 1 115, .sl (p 1) 0 1 1 false 6, .int .u8 6, .int .i64 0, .str 0 0, .int .u64 0, .str 1 115, .sl (p 1) 0 1 1 false 6] 0 .e)),
  (4, .own (putL [.int .u8 5, .int .i64 0, .str 0 0, .int .u64 0, .str 0 0, .sl (p 5) 0 2 2 false 6] 0 .e)),
  (5, .own (putL [.int .u8 6, .int .i64 0, .str 0 0, .int .u64 0, .str 1 115, .sl (p 2) 0 1 1 false 6, .int .u8 6, .int .i64 0, .str 0 0, .int .u64 0, .str 1 115, .sl (p 2) 0 1 1 false 6] 0 .e)),
  (6, .own (putL [.int .u8 5, .int .i64 0, .str 0 0, .int .u64 0, .str 0 0, .sl (p 7) 0 2 2 false 6] 0 .e)),
  (7, .own (putL [.int .u8 6, .int .i64 0, .str 0 0, .int .u64 0, .str 1 115, .sl (p 4) 0 1 1 false 6, .int .u8 6, .int .i64 0, .str 0 0, .int .u64 0, .str 1 115, .sl (p 4) 0 1 1 false 6] 0 .e)),
  (8, .own (putL [.int .u8 5, .int .i64 0, .str 0 0, .int .u64 0, .str 0 0, .sl (p 9) 0 2 2 false 6] 0 .e)),
  (9, .own (putL [.int .u8 6, .int .i64 0, .str 0 0, .int .u64 0, .str 1 115, .sl (p 6) 0 1 1 false 6, .int .u8 6, .int .i64 0, .str 0 0, .int .u64 0, .str 1 115, .sl (p 6) 0 1 1 false 6] 0 .e)),
  (10, .own (putL [.int .u8 5, .int .i64 0, .str 0 0, .int .u64 0, .str 0 0, .sl (p 11) 0 2 2 false 6] 0 .e)),
  (11, .own (putL [.int .u8 6, .int .i64 0, .str 0 0, .int .u64 0, .str 1 115, .sl (p 8) 0 1 1 false 6, .int .u8 6, .int .i64 0, .str 0 0, .int .u64 0, .str 1 115, .sl (p 8) 0 1 1 false 6] 0 .e)),
  (12, .own (putL [.int .u8 5, .int .i64 0, .str 0 0, .int .u64 0, .str 0 0, .sl (p 13) 0 2 2 false 6] 0 .e)),
  (13, .own (putL [.int .u8 6, .int .i64 0, .str 0 0, .int .u64 0, .str 1 115, .sl (p 10) 0 1 1 false 6, .int .u8 6, .int .i64 0, .str 0 0, .int .u64 0, .str 1 115, .sl (p 10) 0 1 1 false 6] 0 .e))] 14,
  .ret (.int .i64 254),
  nOf [], pth 521⟩
def m_sz7 : Memo := ⟨[.agg [.int .u8 6, .int .i64 0, .str 0 0, .int .u64 0, .str 1 115, .sl (p 14) 0 1 1 false 6], .sym ⟨false, 1, 510, 100000, 0⟩],
  hOf [r0,
  (1, .own (putL [.int .u8 5, .int .i64 0, .str 0 0, .int .u64 0, .str 0 0, .nils] 0 .e)),
  (2, .own (putL [.int .u8 5, .int .i64 0, .str 0 0, .int .u64 0, .str 0 0, .sl (p 3) 0 2 2 false 6] 0 .e)),
  (3, .own (putL [.int .u8 6, .int .i64 0, .str 0 0, .int .u64 0, .str 1 115, .sl (p 1) 0 1 1 false 6, .int .u8 6, .int .i64 0, .str 0 0, .int .u64 0, .str 1 115, .sl (p 1) 0 1 1 false 6] 0 .e)),
  (4, .own (putL [.int .u8 5, .int .i64 0, .str 0 0, .int .u64 0, .str 0 0, .sl (p 5) 0 2 2 false 6] 0 .e)),
  (5, .own (putL [.int .u8 6, .int .i64 0, .str 0 0, .int .u64 0, .str 1 115, .sl (p 2) 0 1 1 false 6, .int .u8 6, .int .i64 0, .str 0 0, .int .u64 0, .str 1 115, .sl (p 2) 0 1 1 false 6] 0 .e)),
  (6, .own (putL [.int .u8 5, .int .i64 0, .str 0 0, .int .u64 0, .str 0 0, .sl (p 7) 0 2 2 false 6] 0 .e)),
  (7, .own (putL [.int .u8 6, .int .i64 0, .str 0 0, .int .u64 0, .str 1 115, .sl (p 4) 0 1 1 false 6, .int .u8 6, .int .i64 0, .str 0 0, .int .u64 0, .str 1 115, .sl (p 4) 0 1 1 false 6] 0 .e)),
  (8, .own (putL [.int .u8 5, .int .i64 0, .str 0 0, .int .u64 0, .str 0 0, .sl (p 9) 0 2 2 false 6] 0 .e)),
  (9, .own (putL [.int .u8 6, .int .i64 0, .str 0 0, .int .u64 0, .str 1 115, .sl (p 6) 0 1 1 false 6, .int .u8 6, .int .i64 0, .str 0 0, .int .u64 0, .str 1 115, .sl (p 6) 0 1 1 false 6] 0 .e)),
  (10, .own (putL [.int .u8 5, .int .i64 0, .str 0 0, .int .u64 0, .str 0 0, .sl (p 11) 0 2 2 false 6] 0 .e)),
  (11, .own (putL [.int .u8 6, .int .i64 0, .str 0 0, .int .u64 0, .str 1 115, .sl (p 8) 0 1 1 false 6, .int .u8 6, .int .i64 0, .str 0 0, .int .u64 0, .str 1 115, .sl (p 8) 0 1 1 false 6] 0 .e)),
  (12, .own (putL [.int .u8 5, .int .i64 0, .str 0 0, .int .u64 0, .str 0 0, .sl (p 13) 0 2 2 false 6] 0 .e)),
  (13, .own (putL [.int .u8 6, .int .i64 0, .str 0 0, .int .u64 0, .str 1 115, .sl (p 10) 0 1 1 false 6, .int .u8 6, .int .i64 0, .str 0 0, .int .u64 0, .str 1 115, .sl (p 10) 0 1 1 false 6] 0 .e)),
  (14, .own (putL [.int .u8 5, .int .i64 0, .str 0 0, .int .u64 0, .str 0 0, .sl (p 15) 0 2 2 false 6] 0 .e)),
  (15, .own (putL [.int .u8 6, .int .i64 0, .str 0 0, .int .u64 0, .str 1 115, .sl (p 12) 0 1 1 false 6, .int .u8 6, .int .i64 0, .str 0 0, .int .u64 0, .str 1 115, .sl (p 12) 0 1 1 false 6] 0 .e))] 16,
  .ret (.int .i64 510),
  nOf [], pth 1035⟩
def m_sz8 : Memo := ⟨[.agg [.int .u8 6, .int .i64 0, .str 0 0, .int .u64 0, .str 1 115, .sl (p 16) 0 1 1 false 6], .sym ⟨false, 1, 1022, 100000, 0⟩],
  hOf [r0,
  (1, .own (putL [.int .u8 5, .int .i64 0, .str 0 0, .int .u64 0, .str 0 0, .nils] 0 .e)),
  (2, .own (putL [.int .u8 5, .int .i64 0, .str 0 0, .int .u64 0, .str 0 0, .sl (p 3) 0 2 2 false 6] 0 .e)),
  (3, .own (putL [.int .u8 6, .int .i64 0, .str 0 0, .int .u64 0, .str 1 115, .sl (p 1) 0 1 1 false 6, .int .u8 6, .int .i64 0, .str 0 0, .int .u64 0, .str 1 115, .sl (p 1) 0 1 1 false 6] 0 .e)),
  (4, .own (putL [.int .u8 5, .int .i64 0, .str 0 0, .int .u64 0, .str 0 0, .sl (p 5) 0 2 2 false 6] 0 .e)),
  (5, .own (putL [.int .u8 6, .int .i64 0, .str 0 0, .int .u64 0, .str 1 115, .sl (p 2) 0 1 1 false 6, .int .u8 6, .int .i64 0, .str 0 0, .int .u64 0, .str 1 115, .sl (p 2) 0 1 1 false 6] 0 .e)),
  (6, .own (putL [.int .u8 5, .int .i64 0, .str 0 0, .int .u64 0, .str 0 0, .sl (p 7) 0 2 2 false 6] 0 .e)),
  (7, .own (putL [.int .u8 6, .int .i64 0, .str 0 0, .int .u64 0, .str 1 115, .sl (p 4) 0 1 1 false 6, .int .u8 6, .int .i64 0, .str 0 0, .int .u64 0, .str 1 115, .sl (p 4) 0 1 1 false 6] 0 .e)),
  (8, .own (putL [.int .u8 5, .int .i64 0, .str 0 0, .int .u64 0, .str 0 0, .sl (p 9) 0 2 2 false 6] 0 .e)),
  (9, .own (putL [.int .u8 6, .int .i64 0, .str 0 0, .int .u64 0, .str 1 115, .sl (p 6) 0 1 1 false 6, .int .u8 6, .int .i64 0, .str 0 0, .int .u64 0, .str 1 115, .sl (p 6) 0 1 1 false 6] 0 .e)),
  (10, .own (putL [.int .u8 5, .int .i64 0, .str 0 0, .int .u64 0, .str 0 0, .sl (p 11) 0 2 2 false 6] 0 .e)),
  (11, .own (putL [.int .u8 6, .int .i64 0, .str 0 0, .int .u64 0, .str 1 115, .sl (p 8) 0 1 1 false 6, .int .u8 6, .int .i64 0, .str 0 0, .int .u64 0, .str 1 115, .sl (p 8) 0 1 1 false 6] 0 .e)),
  (12, .own (putL [.int .u8 5, .int .i64 0, .str 0 0, .int .u64 0, .str 0 0, .sl (p 13) 0 2 2 false 6] 0 .e)),
  (13, .own (putL [.int .u8 6, .int .i64 0, .str 0 0, .int .u64 0, .str 1 115, .sl (p 10) 0 1 1 false 6, .int .u8 6, .int .i64 0, .str 0 0, .int .u64 0, .str 1 115, .sl (p 10) 0 1 1 false 6] 0 .e)),
  (14, .own (putL [.int .u8 5, .int .i64 0, .str 0 0, .int .u64 0, .str 0 0, .sl (p 15) 0 2 2 false 6] 0 .e)),
  (15, .own (putL [.int .u8 6, .int .i64 0, .str 0 0, .int .u64 0, .str 1 115, .sl (p 12) 0 1 1 false 6, .int .u8 6, .int .i64 0, .str 0 0, .int .u64 0, .str 1 115, .sl (p 12) 0 1 1 false 6] 0 .e)),
  (16, .own (putL [.int .u8 5, .int .i64 0, .str 0 0, .int .u64 0, .str 0 0, .sl (p 17) 0 2 2 false 6] 0 .e)),
  (17, .own (putL [.int .u8 6, .int .i64 0, .str 0 0, .int .u64 0, .str 1 115, .sl (p 14) 0 1 1 false 6, .int .u8 6, .int .i64 0, .str 0 0, .int .u64 0, .str 1 115, .sl (p 14) 0 1 1 false 6] 0 .e))] 18,
  .ret (.int .i64 1022),
  nOf [], pth 2061⟩
def m_sz9 : Memo := ⟨[.agg [.int .u8 6, .int .i64 0, .str 0 0, .int .u64 0, .str 1 115, .sl (p 18) 0 1 1 false 6], .sym ⟨false, 1, 2046, 100000, 0⟩],
  hOf [r0,
  (1, .own (putL [.int .u8 5, .int .i64 0, .str 0 0, .int .u64 0, .str 0 0, .nils] 0 .e)),
  (2, .own (putL [.int .u8 5, .int .i64 0, .str 0 0, .int .u64 0, .str 0 0, .sl (p 3) 0 2 2 false 6] 0 .e)),
  (3, .own (putL [.int .u8 6, .int .i64 0, .str 0 0, .int .u64 0, .str 1 115, .sl (p 1) 0 1 1 false 6, .int .u8 6, .int .i64 0, .str 0 0, .int .u64 0, .str 1 115, .sl (p 1) 0 1 1 false 6] 0 .e)),
  (4, .own (putL [.int .u8 5, .int .i64 0, .str 0 0, .int .u64 0, .str 0 0, .sl (p 5) 0 2 2 false 6] 0 .e)),
  (5, .own (putL [.int .u8 6, .int .i64 0, .str 0 0, .int .u64 0, .str 1 115, .sl (p 2) 0 1 1 false 6, .int .u8 6, .int .i64 0, .str 0 0, .int .u64 0, .str 1 115, .sl (p 2) 0 1 1 false 6] 0 .e)),
  (6, .own (putL [.int .u8 5, .int .i64 0, .str 0 0, .int .u64 0, .str 0 0, .sl (p 7) 0 2 2 false 6] 0 .e)),
  (7, .own (putL [.int .u8 6, .int .i64 0, .str 0 0, .int .u64 0, .str 1 115, .sl (p 4) 0 1 1 false 6, .int .u8 6, .int .i64 0, .str 0 0, .int .u64 0, .str 1 115, .sl (p 4) 0 1 1 false 6] 0 .e)),
  (8, .own (putL [.int .u8 5, .int .i64 0, .str 0 0, .int .u64 0, .str 0 0, .sl (p 9) 0 2 2 false 6] 0 .e)),
  (9, .own (putL [.int .u8 6, .int .i64 0, .str 0 0, .int .u64 0, .str 1 115, .sl (p 6) 0 1 1 false 6, .int .u8 6, .int .i64 0, .str 0 0, .int .u64 0, .str 1 115, .sl (p 6) 0 1 1 false 6] 0 .e)),
  (10, .own (putL [.int .u8 5, .int .i64 0, .str 0 0, .int .u64 0, .str 0 0, .sl (p 11) 0 2 2 false 6] 0 .e)),
  (11, .own (putL [.int .u8 6, .int .i64 0, .str 0 0, .int .u64 0, .str 1 115, .sl (p 8) 0 1 1 false 6, .int .u8 6, .int .i64 0, .str 0 0, .int .u64 0, .str 1 115, .sl (p 8) 0 1 1 false 6] 0 .e)),
  (12, .own (putL [.int .u8 5, .int .i64 0, .str 0 0, .int .u64 0, .str 0 0, .sl (p 13) 0 2 2 false 6] 0 .e)),
  (13, .own (putL [.int .u8 6, .int .i64 0, .str 0 0, .int .u64 0, .str 1 115, .sl (p 10) 0 1 1 false 6, .int .u8 6, .int .i64 0, .str 0 0, .int .u64 0, .str 1 115, .sl (p 10) 0 1 1 false 6] 0 .e)),
  (14, .own (putL [.int .u8 5, .int .i64 0, .str 0 0, .int .u64 0, .str 0 0, .sl (p 15) 0 2 2 false 6] 0 .e)),
  (15, .own (putL [.int .u8 6, .int .i64 0, .str 0 0, .int .u64 0, .str 1 115, .sl (p 12) 0 1 1 false 6, .int .u8 6, .int .i64 0, .str 0 0, .int .u64 0, .str 1 115, .sl (p 12) 0 1 1 false 6] 0 .e)),
  (16, .own (putL [.int .u8 5, .int .i64 0, .str 0 0, .int .u64 0, .str 0 0, .sl (p 17) 0 2 2 false 6] 0 .e)),
  (17, .own (putL [.int .u8 6, .int .i64 0, .str 0 0, .int .u64 0, .str 1 115, .sl (p 14) 0 1 1 false 6, .int .u8 6, .int .i64 0, .str 0 0, .int .u64 0, .str 1 115, .sl (p 14) 0 1 1 false 6] 0 .e)),
  (18, .own (putL [.int .u8 5, .int .i64 0, .str 0 0, .int .u64 0, .str 0 0, .sl (p 19) 0 2 2 false 6] 0 .e)),
  (19, .own (putL [.int .u8 6, .int .i64 0, .str 0 0, .int .u64 0, .str 1 115, .sl (p 16) 0 1 1 false 6, .int .u8 6, .int .i64 0, .str 0 0, .int .u64 0, .str 1 115, .sl (p 16) 0 1 1 false 6] 0 .e))] 20,
  .ret (.int .i64 2046),
  nOf [], pth 4111⟩
def m_sz10 : Memo := ⟨[.agg [.int .u8 6, .int .i64 0, .str 0 0, .int .u64 0, .str 1 115, .sl (p 20) 0 1 1 false 6], .sym ⟨false, 1, 4094, 100000, 0⟩],
  hOf [r0,
  (1, .own (putL [.int .u8 5, .int .i64 0, .str 0 0, .int .u64 0, .str 0 0, .nils] 0 .e)),
  (2, .own (putL [.int .u8 5, .int .i64 0, .str 0 0, .int .u64 0, .str 0 0, .sl (p 3) 0 2 2 false 6] 0 .e)),
  (3, .own (putL [.int .u8 6, .int .i64 0, .str 0 0, .int .u64 0, .str 1 115, .sl (p 1) 0 1 1 false 6, .int .u8 6, .int .i64 0, .str 0 0, .int .u64 0, .str 1 115, .sl (p 1) 0 1 1 false 6] 0 .e)),
  (4, .own (putL [.int .u8 5, .int .i64 0, .str 0 0, .int .u64 0, .str 0 0, .sl (p 5) 0 2 2 false 6] 0 .e)),
  (5, .own (putL [.int .u8 6, .int .i64 0, .str 0 0, .int .u64 0, .str 1 115, .sl (p 2) 0 1 1 false 6, .int .u8 6, .int .i64 0, .str 0 0, .int .u64 0, .str 1 115, .sl (p 2) 0 1 1 false 6] 0 .e)),
  (6, .own (putL [.int .u8 5, .int .i64 0, .str 0 0, .int .u64 0, .str 0 0, .sl (p 7) 0 2 2 false 6] 0 .e)),
  (7, .own (putL [.int .u8 6, .int .i64 0, .str 0 0, .int .u64 0, .str 1 115, .sl (p 4) 0 1 1 false 6, .int .u8 6, .int .i64 0, .str 0 0, .int .u64 0, .str 1 115, .sl (p 4) 0 1 1 false 6] 0 .e)),
  (8, .own (putL [.int .u8 5, .int .i64 0, .str 0 0, .int .u64 0, .str 0 0, .sl (p 9) 0 2 2 false 6] 0 .e)),
  (9, .own (putL [.int .u8 6, .int .i64 0, .str 0 0, .int .u64 0, .str 1 115, .sl (p 6) 0 1 1 false 6, .int .u8 6, .int .i64 0, .str 0 0, .int .u64 0, .str 1 115, .sl (p 6) 0 1 1 false 6] 0 .e)),
  (10, .own (putL [.int .u8 5, .int .i64 0, .str 0 0, .int .u64 0, .str 0 0, .sl (p 11) 0 2 2 false 6] 0 .e)),
  (11, .own (putL [.int .u8 6, .int .i64 0, .str 0 0, .int .u64 0, .str 1 115, .sl (p 8) 0 1 1 false 6, .int .u8 6, .int .i64 0, .str 0 0, .int .u64 0, .str 1 115, .sl (p 8) 0 1 1 false 6] 0 .e)),
  (12, .own (putL [.int .u8 5, .int .i64 0, .str 0 0, .int .u64 0, .str 0 0, .sl (p 13) 0 2 2 false 6] 0 .e)),
  (13, .own (putL [.int .u8 6, .int .i64 0, .str 0 0, .int .u64 0, .str 1 115, .sl (p 10) 0 1 1 false 6, .int .u8 6, .int .i64 0, .str 0 0, .int .u64 0, .str 1 115, .sl (p 10) 0 1 1 false 6] 0 .e)),
  (14, .own (putL [.int .u8 5, .int .i64 0, .str 0 0, .int .u64 0, .str 0 0, .sl (p 15) 0 2 2 false 6] 0 .e)),
  (15, .own (putL [.int .u8 6, .int .i64 0, .str 0 0, .int .u64 0, .str 1 115, .sl (p 12) 0 1 1 false 6, .int .u8 6, .int .i64 0, .str 0 0, .int .u64 0, .str 1 115, .sl (p 12) 0 1 1 false 6] 0 .e)),
  (16, .own (putL [.int .u8 5, .int .i64 0, .str 0 0, .int .u64 0, .str 0 0, .sl (p 17) 0 2 2 false 6] 0 .e)),
  (17, .own (putL [.int .u8 6, .int .i64 0, .str 0 0, .int .u64 0, .str 1 115, .sl (p 14) 0 1 1 false 6, .int .u8 6, .int .i64 0, .str 0 0, .int .u64 0, .str 1 115, .sl (p 14) 0 1 1 false 6] 0 .e)),
  (18, .own (putL [.int .u8 5, .int .i64 0, .str 0 0, .int .u64 0, .str 0 0, .sl (p 19) 0 2 2 false 6] 0 .e)),
  (19, .own (putL [.int .u8 6, .int .i64 0, .str 0 0, .int .u64 0, .str 1 115, .sl (p 16) 0 1 1 false 6, .int .u8 6, .int .i64 0, .str 0 0, .int .u64 0, .str 1 115, .sl (p 16) 0 1 1 false 6] 0 .e)),
  (20, .own (putL [.int .u8 5, .int .i64 0, .str 0 0, .int .u64 0, .str 0 0, .sl (p 21) 0 2 2 false 6] 0 .e)),
  (21, .own (putL [.int .u8 6, .int .i64 0, .str 0 0, .int .u64 0, .str 1 115, .sl (p 18) 0 1 1 false 6, .int .u8 6, .int .i64 0, .str 0 0, .int .u64 0, .str 1 115, .sl (p 18) 0 1 1 false 6] 0 .e))] 22,
  .ret (.int .i64 4094),
  nOf [], pth 8209⟩
def l_ta : List Memo := [m_ta0, m_ta1, m_ta2, m_ta3, m_ta4, m_ta5, m_ta6, m_ta7, m_ta8, m_ta9, m_ta10, m_ta11, m_ta12, m_ta13, m_ta14, m_ta15, m_ta16, m_ta17, m_ta18, m_ta19, m_ta20, m_ta21, m_ta22, m_ta23, m_ta24, m_ta25, m_ta26, m_ta27, m_ta28, m_ta29, m_ta30, m_ta31, m_ta32, m_ta33, m_ta34, m_ta35, m_ta36, m_ta37, m_ta38, m_ta39, m_ta40, m_ta41, m_ta42, m_ta43, m_ta44, m_ta45, m_ta46, m_ta47, m_ta48, m_ta49, m_ta50, m_ta51, m_ta52, m_ta53, m_ta54, m_ta55, m_ta56, m_ta57]
def l_tb : List Memo := [m_tb0, m_tb1, m_tb2, m_tb3, m_tb4, m_tb5, m_tb6, m_tb7, m_tb8, m_tb9, m_tb10, m_tb11, m_tb12, m_tb13, m_tb14, m_tb15, m_tb16, m_tb17, m_tb18, m_tb19, m_tb20, m_tb21, m_tb22, m_tb23, m_tb24, m_tb25, m_tb26, m_tb27, m_tb28, m_tb29, m_tb30, m_tb31, m_tb32, m_tb33, m_tb34, m_tb35, m_tb36, m_tb37, m_tb38, m_tb39, m_tb40, m_tb41, m_tb42, m_tb43, m_tb44, m_tb45, m_tb46, m_tb47, m_tb48, m_tb49, m_tb50, m_tb51, m_tb52, m_tb53, m_tb54, m_tb55, m_tb56, m_tb57, m_tb58, m_tb59, m_tb60, m_tb61, m_tb62, m_tb63, m_tb64, m_tb65, m_tb66, m_tb67, m_tb68, m_tb69, m_tb70, m_tb71, m_tb72, m_tb73, m_tb74, m_tb75, m_tb76, m_tb77, m_tb78, m_tb79, m_tb80, m_tb81, m_tb82, m_tb83, m_tb84, m_tb85, m_tb86, m_tb87, m_tb88, m_tb89, m_tb90, m_tb91, m_tb92, m_tb93, m_tb94, m_tb95, m_tb96]
def l_sz : List Memo := [m_sz10, m_sz9, m_sz8, m_sz7, m_sz6, m_sz5, m_sz4, m_sz3, m_sz2, m_sz1, m_sz0]
def cpLen : Nat → Nat
  | 0 => 7
  | i + 1 => 2 * cpLen i + 13
def leafC : List AV := [.int .u8 5, .int .i64 0, .str 0 0, .int .u64 0, .str 0 0, .nils]
def oneC1 (b : Nat) (l : List AV) : List AV := .int .u8 6 :: .int .i64 0 :: .str 0 0 :: .int .u64 0 :: .str 1 115 :: .sl (p b) 0 1 1 false 6 :: l
/-- the new blocks of a copy -/
def cpNews : Nat → Nat → List (Pth × Option Bk) → List (Pth × Option Bk)
  | 0, n, l => (p (n + 6), some (.own (putL leafC 0 .e))) :: l
  | i + 1, n, l => cpNews i (n + 6) (cpNews i (n + 6 + cpLen i + 3) ((p (n + 6 + cpLen i + 3 + cpLen i + 1), some (.own (putL (oneC1 (n + 6 + cpLen i - 1) (oneC1 (n + 6 + cpLen i + 3 + cpLen i - 1) [])) 0 .e)))
    :: (p (n + 6 + cpLen i + 3 + cpLen i + 1 + 2), some (.own (putL [.int .u8 5, .int .i64 0, .str 0 0, .int .u64 0, .str 0 0, .sl (p (n + 6 + cpLen i + 3 + cpLen i + 1)) 0 2 2 false 6] 0 .e))) :: l))
def cpM (i n : Nat) (x : Memo) : Memo := ⟨(match x.as with | a :: _ => [a] | [] => []), x.h0, .ret (.agg (oneC1 (n + cpLen i - 1) [])), cpNews i n [], p (n + cpLen i)⟩
/-- how much a copy is -/
def m_vo8 : Memo := ⟨[.agg (oneC1 (cpLen 8) []), .sym ⟨false, 1, 1022, 100000, 0⟩], addH (cpNews 8 1 []) (p (1 + cpLen 8)) (hG known), .ret (.int .i64 1022), [], p (1 + cpLen 8 + 1022)⟩
def m_cp0 : Memo := cpM 0 2 m_sz0
def m_cp1 : Memo := cpM 1 4 m_sz1
def m_cp2 : Memo := cpM 2 6 m_sz2
def m_cp3 : Memo := cpM 3 8 m_sz3
def m_cp4 : Memo := cpM 4 10 m_sz4
def m_cp5 : Memo := cpM 5 12 m_sz5
def m_cp6 : Memo := cpM 6 14 m_sz6
def m_cp7 : Memo := cpM 7 16 m_sz7
def m_cp8 : Memo := cpM 8 18 m_sz8
def m_cp9 : Memo := cpM 9 20 m_sz9
def m_cp10 : Memo := cpM 10 22 m_sz10
def ER : Env := (E0.put 188 [m_ri1, m_ri0]).put 131 [m_z0]
end
end Go.Proofs.YtibhfcbgmlhojaaGreatDoor
