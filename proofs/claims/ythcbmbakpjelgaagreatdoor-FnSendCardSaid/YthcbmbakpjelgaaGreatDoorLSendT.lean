/- What all contracts of this place lean on: the types, the functions' bodies. -/
import Derived.Test.YthcbmbakpjelgaaGreatDoorA6
import Derived.Test.YthcbmbakpjelgaaGreatDoorA7
import Derived.Test.YthcbmbakpjelgaaGreatDoorA5
import Derived.KernelRfl
import Derived.WalkKit
import Derived.Lib.Strings
import Derived.Lib.Slices
import Derived.Lib.Walk
import Derived.Lib.AppendStr
import Derived.Lib.UnsafeStr
import Derived.Lib.MakeNoZero
import Derived.Laws.Externs
import Derived.Laws.IdiomCopy
import Derived.Laws.BitsLemmas
import Derived.Shelf.RegionOpenPlain
import Derived.Test.YthcbmbakpjelgaaGreatDoorProg
namespace Go.AE.F
open Go.AE Go.Proofs
set_option maxRecDepth 100000
abbrev s22:S:=(.sl 5 (.int .u8))
abbrev s23:S:=(.sl 51 (.pair (.sl 2 (.int .i64)) (.pair (.int .i64) .unit)))
abbrev s24:S:=(.pair (.int .i64) (.pair (.int .i64) (.pair (.sl 51 (.pair (.sl 2 (.int .i64)) (.pair (.int .i64) .unit))) (.pair (.int .i64) (.pair (.int .i64) (.pair .bool (.pair (.int .i64) .unit)))))))
abbrev s49:S:=(.sl 2 (.int .i64))
abbrev s50:S:=(.pair (.sl 2 (.int .i64)) (.pair (.int .i64) .unit))
abbrev s62:S:=(.pair (.sl 5 (.int .u8)) (.pair (.int .i64) (.pair (.int .u64) (.pair (.int .i64) .unit))))
abbrev s65:S:=(.pair (.pair (.int .i64) (.pair (.int .i64) (.pair (.sl 51 (.pair (.sl 2 (.int .i64)) (.pair (.int .i64) .unit))) (.pair (.int .i64) (.pair (.int .i64) (.pair .bool (.pair (.int .i64) .unit))))))) (.pair (.int .i64) (.pair (.int .i64) .unit)))
abbrev s69:S:=(.pair (.sl 2 (.int .i64)) (.pair (.int .i64) (.pair (.int .i64) .unit)))
abbrev s96:S:=(.sl 100 (.pair (.int .i64) (.pair (.int .i64) .unit)))
abbrev s99:S:=(.pair (.int .i64) (.pair (.int .i64) .unit))
abbrev s104:S:=(.pair (.int .i64) (.pair (.sl 23 (.sl 51 (.pair (.sl 2 (.int .i64)) (.pair (.int .i64) .unit)))) (.pair (.int .i64) .unit)))
abbrev s114:S:=(.sl 113 (.pair (.int .i64) (.pair (.int .i64) (.pair .unit .unit))))
abbrev s117:S:=(.pair (.pair (.int .i64) (.pair (.int .i64) (.pair (.sl 51 (.pair (.sl 2 (.int .i64)) (.pair (.int .i64) .unit))) (.pair (.int .i64) (.pair (.int .i64) (.pair .bool (.pair (.int .i64) .unit))))))) .unit)
def elm0:List (TypeId×O):=[(22,(.own .imm)),(23,(.own (.pr (.own .imm) .imm))),(24,(.pr .imm (.pr .imm (.pr (.own (.pr (.own .imm) .imm)) .imm)))),(25,(.pr .imm (.pr .imm (.pr (.own (.pr (.own .imm) .imm)) .imm)))),(49,(.own .imm)),(50,(.pr (.own .imm) .imm)),(51,(.pr (.own .imm) .imm)),(62,(.pr (.own .imm) .imm)),(63,(.pr (.own .imm) .imm)),(65,(.pr (.pr .imm (.pr .imm (.pr (.own (.pr (.own .imm) .imm)) .imm))) .imm)),(66,(.pr (.pr .imm (.pr .imm (.pr (.own (.pr (.own .imm) .imm)) .imm))) .imm)),(69,(.pr (.own .imm) .imm)),(70,(.pr (.own .imm) .imm)),(83,(.own .imm)),(96,(.own .imm)),(103,(.own (.own (.pr (.own .imm) .imm)))),(104,(.pr .imm (.pr (.own (.own (.pr (.own .imm) .imm))) .imm))),(105,(.pr .imm (.pr (.own (.own (.pr (.own .imm) .imm))) .imm))),(114,(.own .imm)),(117,(.pr (.pr .imm (.pr .imm (.pr (.own (.pr (.own .imm) .imm)) .imm))) .imm)),(118,(.pr (.pr .imm (.pr .imm (.pr (.own (.pr (.own .imm) .imm)) .imm))) .imm))]
def tys:List (Nat×S):=[(2,(.int .i64)),(3,(.int .i64)),(4,.bool),(5,(.int .u8)),(6,(.int .u8)),(7,(.pair (.int .i64) (.pair (.int .i64) (.pair .bool (.pair (.int .u8) .unit))))),(8,(.pair (.int .i64) (.pair (.int .i64) (.pair .bool (.pair (.int .u8) .unit))))),(9,.str),(10,.str),(11,.str),(12,(.int .u64)),(13,(.pair .str (.pair (.int .u64) .unit))),(14,(.pair .str (.pair (.int .u64) .unit))),(21,(.int .i32)),(22,(.sl 5 (.int .u8))),(23,(.sl 51 (.pair (.sl 2 (.int .i64)) (.pair (.int .i64) .unit)))),(24,(.pair (.int .i64) (.pair (.int .i64) (.pair (.sl 51 (.pair (.sl 2 (.int .i64)) (.pair (.int .i64) .unit))) (.pair (.int .i64) (.pair (.int .i64) (.pair .bool (.pair (.int .i64) .unit)))))))),(25,(.pair (.int .i64) (.pair (.int .i64) (.pair (.sl 51 (.pair (.sl 2 (.int .i64)) (.pair (.int .i64) .unit))) (.pair (.int .i64) (.pair (.int .i64) (.pair .bool (.pair (.int .i64) .unit)))))))),(49,(.sl 2 (.int .i64))),(50,(.pair (.sl 2 (.int .i64)) (.pair (.int .i64) .unit))),(51,(.pair (.sl 2 (.int .i64)) (.pair (.int .i64) .unit))),(61,(.int .u64)),(62,(.pair (.sl 5 (.int .u8)) (.pair (.int .i64) (.pair (.int .u64) (.pair (.int .i64) .unit))))),(63,(.pair (.sl 5 (.int .u8)) (.pair (.int .i64) (.pair (.int .u64) (.pair (.int .i64) .unit))))),(65,(.pair (.pair (.int .i64) (.pair (.int .i64) (.pair (.sl 51 (.pair (.sl 2 (.int .i64)) (.pair (.int .i64) .unit))) (.pair (.int .i64) (.pair (.int .i64) (.pair .bool (.pair (.int .i64) .unit))))))) (.pair (.int .i64) (.pair (.int .i64) .unit)))),(66,(.pair (.pair (.int .i64) (.pair (.int .i64) (.pair (.sl 51 (.pair (.sl 2 (.int .i64)) (.pair (.int .i64) .unit))) (.pair (.int .i64) (.pair (.int .i64) (.pair .bool (.pair (.int .i64) .unit))))))) (.pair (.int .i64) (.pair (.int .i64) .unit)))),(69,(.pair (.sl 2 (.int .i64)) (.pair (.int .i64) (.pair (.int .i64) .unit)))),(70,(.pair (.sl 2 (.int .i64)) (.pair (.int .i64) (.pair (.int .i64) .unit)))),(83,(.sl 9 .str)),(92,(.int .u64)),(96,(.sl 100 (.pair (.int .i64) (.pair (.int .i64) .unit)))),(99,(.pair (.int .i64) (.pair (.int .i64) .unit))),(100,(.pair (.int .i64) (.pair (.int .i64) .unit))),(103,(.sl 23 (.sl 51 (.pair (.sl 2 (.int .i64)) (.pair (.int .i64) .unit))))),(104,(.pair (.int .i64) (.pair (.sl 23 (.sl 51 (.pair (.sl 2 (.int .i64)) (.pair (.int .i64) .unit)))) (.pair (.int .i64) .unit)))),(105,(.pair (.int .i64) (.pair (.sl 23 (.sl 51 (.pair (.sl 2 (.int .i64)) (.pair (.int .i64) .unit)))) (.pair (.int .i64) .unit)))),(113,(.pair (.int .i64) (.pair (.int .i64) (.pair .unit .unit)))),(114,(.sl 113 (.pair (.int .i64) (.pair (.int .i64) (.pair .unit .unit))))),(117,(.pair (.pair (.int .i64) (.pair (.int .i64) (.pair (.sl 51 (.pair (.sl 2 (.int .i64)) (.pair (.int .i64) .unit))) (.pair (.int .i64) (.pair (.int .i64) (.pair .bool (.pair (.int .i64) .unit))))))) .unit)),(118,(.pair (.pair (.int .i64) (.pair (.int .i64) (.pair (.sl 51 (.pair (.sl 2 (.int .i64)) (.pair (.int .i64) .unit))) (.pair (.int .i64) (.pair (.int .i64) (.pair .bool (.pair (.int .i64) .unit))))))) .unit)),(121,(.int .u32)),(123,(.pair (.int .u8) (.pair (.int .u8) .unit))),(124,(.pair (.int .u8) (.pair (.int .u8) .unit))),(125,(.pair (.pair (.int .u8) (.pair (.int .u8) .unit)) (.pair (.pair (.int .u8) (.pair (.int .u8) .unit)) (.pair (.pair (.int .u8) (.pair (.int .u8) .unit)) (.pair (.pair (.int .u8) (.pair (.int .u8) .unit)) (.pair (.pair (.int .u8) (.pair (.int .u8) .unit)) (.pair (.pair (.int .u8) (.pair (.int .u8) .unit)) (.pair (.pair (.int .u8) (.pair (.int .u8) .unit)) (.pair (.pair (.int .u8) (.pair (.int .u8) .unit)) (.pair (.pair (.int .u8) (.pair (.int .u8) .unit)) (.pair (.pair (.int .u8) (.pair (.int .u8) .unit)) (.pair (.pair (.int .u8) (.pair (.int .u8) .unit)) (.pair (.pair (.int .u8) (.pair (.int .u8) .unit)) (.pair (.pair (.int .u8) (.pair (.int .u8) .unit)) (.pair (.pair (.int .u8) (.pair (.int .u8) .unit)) (.pair (.pair (.int .u8) (.pair (.int .u8) .unit)) (.pair (.pair (.int .u8) (.pair (.int .u8) .unit)) (.pair .unit .unit)))))))))))))))))),(148,(.int .u8)),(149,(.int .u8)),(151,(.int .i32)),(152,(.int .i32))]
theorem tys_ok:tableOk Tryz.prog tys=true:=by kernel_rfl
theorem mixed:Tryz.prog.follows .mixedOrders=true:=by kernel_rfl
theorem hb12:hasBody Tryz.prog 12:=⟨_,Tryz.func12,by kernel_rfl,by kernel_rfl⟩
theorem hb34:hasBody Tryz.prog 34:=⟨_,Tryz.func34,by kernel_rfl,by kernel_rfl⟩
theorem hb72:hasBody Tryz.prog 72:=⟨_,Tryz.func72,by kernel_rfl,by kernel_rfl⟩
theorem hb36:hasBody Tryz.prog 36:=⟨_,Tryz.func36,by kernel_rfl,by kernel_rfl⟩
theorem hb37:hasBody Tryz.prog 37:=⟨_,Tryz.func37,by kernel_rfl,by kernel_rfl⟩
theorem hb79:hasBody Tryz.prog 79:=⟨_,Tryz.func79,by kernel_rfl,by kernel_rfl⟩
theorem hb67:hasBody Tryz.prog 67:=⟨_,Tryz.func67,by kernel_rfl,by kernel_rfl⟩
theorem hb68:hasBody Tryz.prog 68:=⟨_,Tryz.func68,by kernel_rfl,by kernel_rfl⟩
theorem hb51:hasBody Tryz.prog 51:=⟨_,Tryz.func51,by kernel_rfl,by kernel_rfl⟩
theorem hb85:hasBody Tryz.prog 85:=⟨_,Tryz.func85,by kernel_rfl,by kernel_rfl⟩
theorem hb97:hasBody Tryz.prog 97:=⟨_,Tryz.func97,by kernel_rfl,by kernel_rfl⟩
theorem hb80:hasBody Tryz.prog 80:=⟨_,Tryz.func80,by kernel_rfl,by kernel_rfl⟩
theorem hb53:hasBody Tryz.prog 53:=⟨_,Tryz.func53,by kernel_rfl,by kernel_rfl⟩
theorem hb99:hasBody Tryz.prog 99:=⟨_,Tryz.func99,by kernel_rfl,by kernel_rfl⟩
theorem hb98:hasBody Tryz.prog 98:=⟨_,Tryz.func98,by kernel_rfl,by kernel_rfl⟩
theorem hb86:hasBody Tryz.prog 86:=⟨_,Tryz.func86,by kernel_rfl,by kernel_rfl⟩
theorem hb87:hasBody Tryz.prog 87:=⟨_,Tryz.func87,by kernel_rfl,by kernel_rfl⟩
theorem hb88:hasBody Tryz.prog 88:=⟨_,Tryz.func88,by kernel_rfl,by kernel_rfl⟩
theorem hb71:hasBody Tryz.prog 71:=⟨_,Tryz.func71,by kernel_rfl,by kernel_rfl⟩
theorem hb69:hasBody Tryz.prog 69:=⟨_,Tryz.func69,by kernel_rfl,by kernel_rfl⟩
theorem hb70:hasBody Tryz.prog 70:=⟨_,Tryz.func70,by kernel_rfl,by kernel_rfl⟩
theorem hb35:hasBody Tryz.prog 35:=⟨_,Tryz.func35,by kernel_rfl,by kernel_rfl⟩
theorem hb39:hasBody Tryz.prog 39:=⟨_,Tryz.func39,by kernel_rfl,by kernel_rfl⟩
theorem hb38:hasBody Tryz.prog 38:=⟨_,Tryz.func38,by kernel_rfl,by kernel_rfl⟩
theorem hb23:hasBody Tryz.prog 23:=⟨_,Tryz.func23,by kernel_rfl,by kernel_rfl⟩
theorem hb94:hasBody Tryz.prog 94:=⟨_,Tryz.func94,by kernel_rfl,by kernel_rfl⟩
theorem hb78:hasBody Tryz.prog 78:=⟨_,Tryz.func78,by kernel_rfl,by kernel_rfl⟩
theorem hb50:hasBody Tryz.prog 50:=⟨_,Tryz.func50,by kernel_rfl,by kernel_rfl⟩
theorem hb74:hasBody Tryz.prog 74:=⟨_,Tryz.func74,by kernel_rfl,by kernel_rfl⟩
theorem hb89:hasBody Tryz.prog 89:=⟨_,Tryz.func89,by kernel_rfl,by kernel_rfl⟩
theorem hb52:hasBody Tryz.prog 52:=⟨_,Tryz.func52,by kernel_rfl,by kernel_rfl⟩
theorem hb24:hasBody Tryz.prog 24:=⟨_,Tryz.func24,by kernel_rfl,by kernel_rfl⟩
theorem hb100:hasBody Tryz.prog 100:=⟨_,Tryz.func100,by kernel_rfl,by kernel_rfl⟩
theorem hb90:hasBody Tryz.prog 90:=⟨_,Tryz.func90,by kernel_rfl,by kernel_rfl⟩
theorem hb101:hasBody Tryz.prog 101:=⟨_,Tryz.func101,by kernel_rfl,by kernel_rfl⟩
theorem hb25:hasBody Tryz.prog 25:=⟨_,Tryz.func25,by kernel_rfl,by kernel_rfl⟩
theorem hb103:hasBody Tryz.prog 103:=⟨_,Tryz.func103,by kernel_rfl,by kernel_rfl⟩
theorem hb102:hasBody Tryz.prog 102:=⟨_,Tryz.func102,by kernel_rfl,by kernel_rfl⟩
theorem hb91:hasBody Tryz.prog 91:=⟨_,Tryz.func91,by kernel_rfl,by kernel_rfl⟩
theorem hb92:hasBody Tryz.prog 92:=⟨_,Tryz.func92,by kernel_rfl,by kernel_rfl⟩
theorem hb93:hasBody Tryz.prog 93:=⟨_,Tryz.func93,by kernel_rfl,by kernel_rfl⟩
theorem hb73:hasBody Tryz.prog 73:=⟨_,Tryz.func73,by kernel_rfl,by kernel_rfl⟩
theorem hb40:hasBody Tryz.prog 40:=⟨_,Tryz.func40,by kernel_rfl,by kernel_rfl⟩
theorem hb13:hasBody Tryz.prog 13:=⟨_,Tryz.func13,by kernel_rfl,by kernel_rfl⟩
theorem hb4:hasBody Tryz.prog 4:=⟨_,Tryz.func4,by kernel_rfl,by kernel_rfl⟩
theorem hb58:hasBody Tryz.prog 58:=⟨_,Tryz.func58,by kernel_rfl,by kernel_rfl⟩
theorem hb56:hasBody Tryz.prog 56:=⟨_,Tryz.func56,by kernel_rfl,by kernel_rfl⟩
theorem hb57:hasBody Tryz.prog 57:=⟨_,Tryz.func57,by kernel_rfl,by kernel_rfl⟩
theorem hb41:hasBody Tryz.prog 41:=⟨_,Tryz.func41,by kernel_rfl,by kernel_rfl⟩
theorem hb82:hasBody Tryz.prog 82:=⟨_,Tryz.func82,by kernel_rfl,by kernel_rfl⟩
theorem hb32:hasBody Tryz.prog 32:=⟨_,Tryz.func32,by kernel_rfl,by kernel_rfl⟩
theorem hb64:hasBody Tryz.prog 64:=⟨_,Tryz.func64,by kernel_rfl,by kernel_rfl⟩
theorem hb59:hasBody Tryz.prog 59:=⟨_,Tryz.func59,by kernel_rfl,by kernel_rfl⟩
theorem hb60:hasBody Tryz.prog 60:=⟨_,Tryz.func60,by kernel_rfl,by kernel_rfl⟩
theorem hb43:hasBody Tryz.prog 43:=⟨_,Tryz.func43,by kernel_rfl,by kernel_rfl⟩
theorem hb27:hasBody Tryz.prog 27:=⟨_,Tryz.func27,by kernel_rfl,by kernel_rfl⟩
theorem hb42:hasBody Tryz.prog 42:=⟨_,Tryz.func42,by kernel_rfl,by kernel_rfl⟩
theorem hb14:hasBody Tryz.prog 14:=⟨_,Tryz.func14,by kernel_rfl,by kernel_rfl⟩
theorem hb46:hasBody Tryz.prog 46:=⟨_,Tryz.func46,by kernel_rfl,by kernel_rfl⟩
theorem hb45:hasBody Tryz.prog 45:=⟨_,Tryz.func45,by kernel_rfl,by kernel_rfl⟩
theorem hb44:hasBody Tryz.prog 44:=⟨_,Tryz.func44,by kernel_rfl,by kernel_rfl⟩
theorem hb15:hasBody Tryz.prog 15:=⟨_,Tryz.func15,by kernel_rfl,by kernel_rfl⟩
theorem hb104:hasBody Tryz.prog 104:=⟨_,Tryz.func104,by kernel_rfl,by kernel_rfl⟩
theorem hb95:hasBody Tryz.prog 95:=⟨_,Tryz.func95,by kernel_rfl,by kernel_rfl⟩
theorem hb76:hasBody Tryz.prog 76:=⟨_,Tryz.func76,by kernel_rfl,by kernel_rfl⟩
theorem hb48:hasBody Tryz.prog 48:=⟨_,Tryz.func48,by kernel_rfl,by kernel_rfl⟩
theorem hb19:hasBody Tryz.prog 19:=⟨_,Tryz.func19,by kernel_rfl,by kernel_rfl⟩
theorem hb16:hasBody Tryz.prog 16:=⟨_,Tryz.func16,by kernel_rfl,by kernel_rfl⟩
theorem hb96:hasBody Tryz.prog 96:=⟨_,Tryz.func96,by kernel_rfl,by kernel_rfl⟩
theorem hb77:hasBody Tryz.prog 77:=⟨_,Tryz.func77,by kernel_rfl,by kernel_rfl⟩
theorem hb49:hasBody Tryz.prog 49:=⟨_,Tryz.func49,by kernel_rfl,by kernel_rfl⟩
theorem hb20:hasBody Tryz.prog 20:=⟨_,Tryz.func20,by kernel_rfl,by kernel_rfl⟩
theorem hb17:hasBody Tryz.prog 17:=⟨_,Tryz.func17,by kernel_rfl,by kernel_rfl⟩
theorem hb18:hasBody Tryz.prog 18:=⟨_,Tryz.func18,by kernel_rfl,by kernel_rfl⟩
theorem hb5:hasBody Tryz.prog 5:=⟨_,Tryz.func5,by kernel_rfl,by kernel_rfl⟩
theorem hb8:hasBody Tryz.prog 8:=⟨_,Tryz.func8,by kernel_rfl,by kernel_rfl⟩
theorem hb21:hasBody Tryz.prog 21:=⟨_,Tryz.func21,by kernel_rfl,by kernel_rfl⟩
theorem hb22:hasBody Tryz.prog 22:=⟨_,Tryz.func22,by kernel_rfl,by kernel_rfl⟩
theorem hb6:hasBody Tryz.prog 6:=⟨_,Tryz.func6,by kernel_rfl,by kernel_rfl⟩
theorem hb7:hasBody Tryz.prog 7:=⟨_,Tryz.func7,by kernel_rfl,by kernel_rfl⟩
theorem hb55:hasBody Tryz.prog 55:=⟨_,Tryz.func55,by kernel_rfl,by kernel_rfl⟩
theorem hb81:hasBody Tryz.prog 81:=⟨_,Tryz.func81,by kernel_rfl,by kernel_rfl⟩
theorem hb54:hasBody Tryz.prog 54:=⟨_,Tryz.func54,by kernel_rfl,by kernel_rfl⟩
theorem hb26:hasBody Tryz.prog 26:=⟨_,Tryz.func26,by kernel_rfl,by kernel_rfl⟩
theorem hb61:hasBody Tryz.prog 61:=⟨_,Tryz.func61,by kernel_rfl,by kernel_rfl⟩
theorem hb28:hasBody Tryz.prog 28:=⟨_,Tryz.func28,by kernel_rfl,by kernel_rfl⟩
theorem hb62:hasBody Tryz.prog 62:=⟨_,Tryz.func62,by kernel_rfl,by kernel_rfl⟩
theorem hb29:hasBody Tryz.prog 29:=⟨_,Tryz.func29,by kernel_rfl,by kernel_rfl⟩
theorem hb66:hasBody Tryz.prog 66:=⟨_,Tryz.func66,by kernel_rfl,by kernel_rfl⟩
theorem hb84:hasBody Tryz.prog 84:=⟨_,Tryz.func84,by kernel_rfl,by kernel_rfl⟩
theorem hb63:hasBody Tryz.prog 63:=⟨_,Tryz.func63,by kernel_rfl,by kernel_rfl⟩
theorem hb30:hasBody Tryz.prog 30:=⟨_,Tryz.func30,by kernel_rfl,by kernel_rfl⟩
theorem hb31:hasBody Tryz.prog 31:=⟨_,Tryz.func31,by kernel_rfl,by kernel_rfl⟩
theorem hb65:hasBody Tryz.prog 65:=⟨_,Tryz.func65,by kernel_rfl,by kernel_rfl⟩
theorem hb33:hasBody Tryz.prog 33:=⟨_,Tryz.func33,by kernel_rfl,by kernel_rfl⟩
theorem hb10:hasBody Tryz.prog 10:=⟨_,Tryz.func10,by kernel_rfl,by kernel_rfl⟩
theorem hb9:hasBody Tryz.prog 9:=⟨_,Tryz.func9,by kernel_rfl,by kernel_rfl⟩
theorem hb11:hasBody Tryz.prog 11:=⟨_,Tryz.func11,by kernel_rfl,by kernel_rfl⟩
theorem hb3:hasBody Tryz.prog 3:=⟨_,Tryz.func3,by kernel_rfl,by kernel_rfl⟩
def u8ren:Go.Shelf.Ren:=⟨fun | 197=>62 | 260=>83 | n=>n,fun | 0=>0 | 3=>3 | 4=>4 | 5=>5 | 9=>9 | 21=>21 | 46=>92 | 105=>88 | 119=>122 | 138=>124 | 139=>125 | n=>n,fun | 3=>0 | 4=>1 | n=>n⟩
theorem u8lays:Lays.n197 Tryz.prog u8ren:={
 mixed:=by kernel_rfl
 f197:=Tryz.func62.trans (congrArg some (by kernel_rfl))
 f260:=Tryz.func83.trans (congrArg some (by kernel_rfl))
 t0:=Tryz.underlying0
 a0:=Tryz.isAgg0
 z0:=Tryz.sizeOf0
 v0:=Tryz.zeroValue0
 t3:=Tryz.underlying3
 a3:=Tryz.isAgg3
 z3:=Tryz.sizeOf3
 v3:=Tryz.zeroValue3
 t4:=Tryz.underlying4
 a4:=Tryz.isAgg4
 z4:=Tryz.sizeOf4
 v4:=Tryz.zeroValue4
 t5:=Tryz.underlying5
 a5:=Tryz.isAgg5
 z5:=Tryz.sizeOf5
 v5:=Tryz.zeroValue5
 t9:=Tryz.underlying9
 a9:=Tryz.isAgg9
 z9:=Tryz.sizeOf9
 v9:=Tryz.zeroValue9
 t21:=Tryz.underlying21
 a21:=Tryz.isAgg21
 z21:=Tryz.sizeOf21
 v21:=Tryz.zeroValue21
 t46:=Tryz.underlying92
 a46:=Tryz.isAgg92
 z46:=Tryz.sizeOf92
 v46:=Tryz.zeroValue92
 t105:=Tryz.underlying88
 a105:=Tryz.isAgg88
 z105:=Tryz.sizeOf88
 v105:=Tryz.zeroValue88
 t119:=Tryz.underlying122
 a119:=Tryz.isAgg122
 z119:=Tryz.sizeOf122
 t138:=Tryz.underlying124
 a138:=Tryz.isAgg124
 z138:=Tryz.sizeOf124
 v138:=Tryz.zeroValue124
 t139:=Tryz.underlying125
 a139:=Tryz.isAgg125
 z139:=Tryz.sizeOf125
 v139:=Tryz.zeroValue125
 g3:=by kernel_rfl
 g4:=by kernel_rfl }
noncomputable def TB:Hp:=u8T 0 1
theorem tbLe (w:World) (h:Go.Lib.Utf8Tabs 0 1 w):Le TB (memOf w):=u8_le h
end Go.AE.F
