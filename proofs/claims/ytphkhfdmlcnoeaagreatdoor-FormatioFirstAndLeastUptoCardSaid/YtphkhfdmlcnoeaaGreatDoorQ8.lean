import Derived.Test.YtphkhfdmlcnoeaaGreatDoorQ6
namespace Go.Proofs.YtphkhfdmlcnoeaaGreatDoor
set_option linter.unusedVariables false
set_option linter.unusedSimpArgs false
set_option maxRecDepth 1000000
set_option maxHeartbeats 32000000
open Go.RowKit
instance :T1 Tryz.prog 3:=⟨_,Tryz.underlying3,rfl,by kernel_rfl⟩
instance :T1 Tryz.prog 4:=⟨_,Tryz.underlying4,rfl,by kernel_rfl⟩
instance :T1 Tryz.prog 5:=⟨_,Tryz.underlying5,rfl,by kernel_rfl⟩
instance :T1 Tryz.prog 9:=⟨_,Tryz.underlying9,rfl,by kernel_rfl⟩
instance :T1 Tryz.prog 25:=⟨_,Tryz.underlying25,rfl,by kernel_rfl⟩
instance :T1 Tryz.prog 27:=⟨_,Tryz.underlying27,rfl,by kernel_rfl⟩
instance :T1 Tryz.prog 48:=⟨_,Tryz.underlying48,rfl,by kernel_rfl⟩
instance :T1 Tryz.prog 66:=⟨_,Tryz.underlying66,rfl,by kernel_rfl⟩
instance :T1 Tryz.prog 22:=⟨_,Tryz.underlying22,rfl,by kernel_rfl⟩
instance :T1 Tryz.prog 28:=⟨_,Tryz.underlying28,rfl,by kernel_rfl⟩
instance :T1 Tryz.prog 57:=⟨_,Tryz.underlying57,rfl,by kernel_rfl⟩
instance :T1 Tryz.prog 69:=⟨_,Tryz.underlying69,rfl,by kernel_rfl⟩
instance :T1 Tryz.prog 127:=⟨_,Tryz.underlying127,rfl,by kernel_rfl⟩
instance :T1 Tryz.prog 93:=⟨_,Tryz.underlying93,rfl,by kernel_rfl⟩
instance :T1 Tryz.prog 123:=⟨_,Tryz.underlying123,rfl,by kernel_rfl⟩
instance :T1 Tryz.prog 56:=⟨_,Tryz.underlying56,rfl,by kernel_rfl⟩
instance :T1 Tryz.prog 75:=⟨_,Tryz.underlying75,rfl,by kernel_rfl⟩
instance :T1 Tryz.prog 133:=⟨_,Tryz.underlying133,rfl,by kernel_rfl⟩
instance :T1 Tryz.prog 104:=⟨_,Tryz.underlying104,rfl,by kernel_rfl⟩
instance :TN Tryz.prog 24 1:=⟨_,Tryz.underlying24,rfl,by kernel_rfl⟩
instance :TN Tryz.prog 32 2:=⟨_,Tryz.underlying32,rfl,by kernel_rfl⟩
instance :TN Tryz.prog 30 5:=⟨_,Tryz.underlying30,rfl,by kernel_rfl⟩
instance :TN Tryz.prog 65 12:=⟨_,Tryz.underlying65,rfl,by kernel_rfl⟩
instance :TN Tryz.prog 92 256:=⟨_,Tryz.underlying92,rfl,by kernel_rfl⟩
instance :TN Tryz.prog 60 4:=⟨_,Tryz.underlying60,rfl,by kernel_rfl⟩
instance :TN Tryz.prog 77 3:=⟨_,Tryz.underlying77,rfl,by kernel_rfl⟩
instance :TN Tryz.prog 122 6:=⟨_,Tryz.underlying122,rfl,by kernel_rfl⟩
instance :Fld Tryz.prog 24 0 0:=⟨_,_,1,Tryz.underlying24,rfl,rfl,by kernel_rfl,by decide⟩
instance :Fld Tryz.prog 32 0 0:=⟨_,_,1,Tryz.underlying32,rfl,rfl,by kernel_rfl,by decide⟩
instance :Fld Tryz.prog 32 1 1:=⟨_,_,1,Tryz.underlying32,rfl,rfl,by kernel_rfl,by decide⟩
instance :Fld Tryz.prog 30 0 0:=⟨_,_,1,Tryz.underlying30,rfl,rfl,by kernel_rfl,by decide⟩
instance :Fld Tryz.prog 30 1 1:=⟨_,_,1,Tryz.underlying30,rfl,rfl,by kernel_rfl,by decide⟩
instance :Fld Tryz.prog 30 2 2:=⟨_,_,1,Tryz.underlying30,rfl,rfl,by kernel_rfl,by decide⟩
instance :Fld Tryz.prog 30 3 3:=⟨_,_,1,Tryz.underlying30,rfl,rfl,by kernel_rfl,by decide⟩
instance :Fld Tryz.prog 30 4 4:=⟨_,_,1,Tryz.underlying30,rfl,rfl,by kernel_rfl,by decide⟩
instance :Fld Tryz.prog 65 0 0:=⟨_,_,1,Tryz.underlying65,rfl,rfl,by kernel_rfl,by decide⟩
instance :Fld Tryz.prog 65 1 1:=⟨_,_,1,Tryz.underlying65,rfl,rfl,by kernel_rfl,by decide⟩
instance :Fld Tryz.prog 65 2 2:=⟨_,_,1,Tryz.underlying65,rfl,rfl,by kernel_rfl,by decide⟩
instance :Fld Tryz.prog 65 3 3:=⟨_,_,1,Tryz.underlying65,rfl,rfl,by kernel_rfl,by decide⟩
instance :Fld Tryz.prog 65 4 4:=⟨_,_,1,Tryz.underlying65,rfl,rfl,by kernel_rfl,by decide⟩
instance :Fld Tryz.prog 65 5 5:=⟨_,_,1,Tryz.underlying65,rfl,rfl,by kernel_rfl,by decide⟩
instance :Fld Tryz.prog 65 6 6:=⟨_,_,1,Tryz.underlying65,rfl,rfl,by kernel_rfl,by decide⟩
instance :Fld Tryz.prog 65 7 7:=⟨_,_,1,Tryz.underlying65,rfl,rfl,by kernel_rfl,by decide⟩
instance :Fld Tryz.prog 65 8 8:=⟨_,_,1,Tryz.underlying65,rfl,rfl,by kernel_rfl,by decide⟩
instance :Fld Tryz.prog 65 9 9:=⟨_,_,1,Tryz.underlying65,rfl,rfl,by kernel_rfl,by decide⟩
instance :Fld Tryz.prog 65 10 10:=⟨_,_,1,Tryz.underlying65,rfl,rfl,by kernel_rfl,by decide⟩
instance :Fld Tryz.prog 65 11 11:=⟨_,_,1,Tryz.underlying65,rfl,rfl,by kernel_rfl,by decide⟩
instance :Fld Tryz.prog 60 0 0:=⟨_,_,1,Tryz.underlying60,rfl,rfl,by kernel_rfl,by decide⟩
instance :Fld Tryz.prog 60 1 1:=⟨_,_,1,Tryz.underlying60,rfl,rfl,by kernel_rfl,by decide⟩
instance :Fld Tryz.prog 60 2 2:=⟨_,_,1,Tryz.underlying60,rfl,rfl,by kernel_rfl,by decide⟩
instance :Fld Tryz.prog 60 3 3:=⟨_,_,1,Tryz.underlying60,rfl,rfl,by kernel_rfl,by decide⟩
instance :Fld Tryz.prog 77 0 0:=⟨_,_,1,Tryz.underlying77,rfl,rfl,by kernel_rfl,by decide⟩
instance :Fld Tryz.prog 77 1 1:=⟨_,_,1,Tryz.underlying77,rfl,rfl,by kernel_rfl,by decide⟩
instance :Fld Tryz.prog 77 2 2:=⟨_,_,1,Tryz.underlying77,rfl,rfl,by kernel_rfl,by decide⟩
instance :Fld Tryz.prog 122 0 0:=⟨_,_,5,Tryz.underlying122,rfl,rfl,by kernel_rfl,by decide⟩
instance :Fld Tryz.prog 122 1 5:=⟨_,_,1,Tryz.underlying122,rfl,rfl,by kernel_rfl,by decide⟩
instance :Y8 Tryz.prog 3 [.int .i64 0]:=⟨.int .i64 0,by kernel_rfl,rfl⟩
instance :Y8 Tryz.prog 4 [.bool false]:=⟨.bool false,by kernel_rfl,rfl⟩
instance :Y8 Tryz.prog 5 [.int .u8 0]:=⟨.int .u8 0,by kernel_rfl,rfl⟩
instance :Y8 Tryz.prog 9 [.string ⟨#[]⟩]:=⟨.string ⟨#[]⟩,by kernel_rfl,rfl⟩
instance :Y8 Tryz.prog 25 [.slice none 0 0]:=⟨.slice none 0 0,by kernel_rfl,rfl⟩
instance :Y8 Tryz.prog 27 [.slice none 0 0]:=⟨.slice none 0 0,by kernel_rfl,rfl⟩
instance :Y8 Tryz.prog 48 [.slice none 0 0]:=⟨.slice none 0 0,by kernel_rfl,rfl⟩
instance :Y8 Tryz.prog 66 [.slice none 0 0]:=⟨.slice none 0 0,by kernel_rfl,rfl⟩
instance :Y8 Tryz.prog 22 [.slice none 0 0]:=⟨.slice none 0 0,by kernel_rfl,rfl⟩
instance :Y8 Tryz.prog 28 [.slice none 0 0]:=⟨.slice none 0 0,by kernel_rfl,rfl⟩
instance :Y8 Tryz.prog 57 [.slice none 0 0]:=⟨.slice none 0 0,by kernel_rfl,rfl⟩
instance :Y8 Tryz.prog 69 [.slice none 0 0]:=⟨.slice none 0 0,by kernel_rfl,rfl⟩
instance :Y8 Tryz.prog 127 [.slice none 0 0]:=⟨.slice none 0 0,by kernel_rfl,rfl⟩
instance :Y8 Tryz.prog 93 [.slice none 0 0]:=⟨.slice none 0 0,by kernel_rfl,rfl⟩
instance :Y8 Tryz.prog 123 [.slice none 0 0]:=⟨.slice none 0 0,by kernel_rfl,rfl⟩
instance :Y8 Tryz.prog 32 [.int .i64 0,.int .i64 0]:=⟨.agg #[.int .i64 0,.int .i64 0],by kernel_rfl,rfl⟩
instance :Y8 Tryz.prog 30 [.int .i64 0,.int .i64 0,.slice none 0 0,.slice none 0 0,.slice none 0 0]:=⟨.agg #[.int .i64 0,.int .i64 0,.slice none 0 0,.slice none 0 0,.slice none 0 0],by kernel_rfl,rfl⟩
instance :Y8 Tryz.prog 65 [.string ⟨#[]⟩,.int .i64 0,.slice none 0 0,.int .i64 0,.bool false,.int .i64 0,.int .i64 0,.int .i64 0,.int .i64 0,.int .i64 0,.slice none 0 0,.slice none 0 0]:=⟨.agg #[.string ⟨#[]⟩,.int .i64 0,.slice none 0 0,.int .i64 0,.bool false,.int .i64 0,.int .i64 0,.int .i64 0,.int .i64 0,.int .i64 0,.slice none 0 0,.slice none 0 0],by kernel_rfl,rfl⟩
instance :Y8 Tryz.prog 24 [.slice none 0 0]:=⟨.agg #[.slice none 0 0],by kernel_rfl,rfl⟩
instance :Y8 Tryz.prog 104 [.nilFunc]:=⟨.nilFunc,by kernel_rfl,rfl⟩
instance :Sl Tryz.prog 25 5 1 1:=⟨SlT.mk' (z:=.int .u8 0) Q5 Q5 Q5 Q1 Q1⟩
instance :Sl Tryz.prog 27 9 1 16:=⟨SlT.mk' (z:=.string ⟨#[]⟩) Q5 Q5 Q5 Q1 Q1⟩
instance :Sl Tryz.prog 48 3 1 8:=⟨SlT.mk' (z:=.int .i64 0) Q5 Q5 Q5 Q1 Q1⟩
instance :Sl Tryz.prog 66 4 1 1:=⟨SlT.mk' (z:=.bool false) Q5 Q5 Q5 Q1 Q1⟩
instance :Sl Tryz.prog 22 65 12 152:=⟨SlT.mk' (z:=.agg (List.toArray [.string ⟨#[]⟩,.int .i64 0,.slice none 0 0,.int .i64 0,.bool false,.int .i64 0,.int .i64 0,.int .i64 0,.int .i64 0,.int .i64 0,.slice none 0 0,.slice none 0 0])) Q5 Q5 Q5 Q1 Q1⟩
instance :Sl Tryz.prog 28 30 5 88:=⟨SlT.mk' (z:=.agg (List.toArray [.int .i64 0,.int .i64 0,.slice none 0 0,.slice none 0 0,.slice none 0 0])) Q5 Q5 Q5 Q1 Q1⟩
instance :Sl Tryz.prog 57 48 1 24:=⟨SlT.mk' (z:=.slice none 0 0) Q5 Q5 Q5 Q1 Q1⟩
instance :Sl Tryz.prog 69 66 1 24:=⟨SlT.mk' (z:=.slice none 0 0) Q5 Q5 Q5 Q1 Q1⟩
instance :Sl Tryz.prog 127 27 1 24:=⟨SlT.mk' (z:=.slice none 0 0) Q5 Q5 Q5 Q1 Q1⟩
instance :Sl Tryz.prog 93 92 256 256:=⟨SlT.mk' (z:=.agg (List.replicate 256 (.bool false)).toArray) Q5 Q5 Q5 Q1 Q1⟩
instance :Sl Tryz.prog 123 122 6 112:=⟨SlT.mk' (z:=.agg #[.int .i64 0,.int .i64 0,.slice none 0 0,.slice none 0 0,.slice none 0 0,.slice none 0 0]) Q5 Q5 Q5 Q1 Q1⟩
instance :Ar Tryz.prog 92 256 4 1:=⟨by kernel_rfl,by kernel_rfl⟩
instance :En Tryz.prog 11:=⟨fun _ _=>by kernel_rfl⟩
instance :En Tryz.prog 12:=⟨fun _ _=>by kernel_rfl⟩
instance :En Tryz.prog 13:=⟨fun _ _=>by kernel_rfl⟩
instance :En Tryz.prog 14:=⟨fun _ _=>by kernel_rfl⟩
instance :En Tryz.prog 15:=⟨fun _ _=>by kernel_rfl⟩
instance :En Tryz.prog 16:=⟨fun _ _=>by kernel_rfl⟩
instance :En Tryz.prog 17:=⟨fun _ _=>by kernel_rfl⟩
instance :En Tryz.prog 18:=⟨fun _ _=>by kernel_rfl⟩
instance :En Tryz.prog 19:=⟨fun _ _=>by kernel_rfl⟩
instance :En Tryz.prog 20:=⟨fun _ _=>by kernel_rfl⟩
instance :En Tryz.prog 21:=⟨fun _ _=>by kernel_rfl⟩
instance :En Tryz.prog 28:=⟨fun _ _=>by kernel_rfl⟩
instance :En Tryz.prog 23:=⟨fun _ _=>by kernel_rfl⟩
instance :En Tryz.prog 24:=⟨fun _ _=>by kernel_rfl⟩
instance :En Tryz.prog 71:=⟨fun _ _=>by kernel_rfl⟩
instance :En Tryz.prog 82:=⟨fun _ _=>by kernel_rfl⟩
instance :En Tryz.prog 53:=⟨fun _ _=>by kernel_rfl⟩
instance :En Tryz.prog 38:=⟨fun _ _=>by kernel_rfl⟩
instance :En Tryz.prog 51:=⟨fun _ _=>by kernel_rfl⟩
instance :En Tryz.prog 41:=⟨fun _ _=>by kernel_rfl⟩
instance :En Tryz.prog 52:=⟨fun _ _=>by kernel_rfl⟩
instance :En Tryz.prog 79:=⟨fun _ _=>by kernel_rfl⟩
instance :En Tryz.prog 29:=⟨fun _ _=>by kernel_rfl⟩
instance :En Tryz.prog 30:=⟨fun _ _=>by kernel_rfl⟩
instance :En Tryz.prog 31:=⟨fun _ _=>by kernel_rfl⟩
instance :En Tryz.prog 32:=⟨fun _ _=>by kernel_rfl⟩
instance :En Tryz.prog 33:=⟨fun _ _=>by kernel_rfl⟩
instance :En Tryz.prog 34:=⟨fun _ _=>by kernel_rfl⟩
instance :En Tryz.prog 35:=⟨fun _ _=>by kernel_rfl⟩
instance :En Tryz.prog 36:=⟨fun _ _=>by kernel_rfl⟩
instance :En Tryz.prog 37:=⟨fun _ _=>by kernel_rfl⟩
instance :En Tryz.prog 39:=⟨fun _ _=>by kernel_rfl⟩
instance :En Tryz.prog 40:=⟨fun _ _=>by kernel_rfl⟩
instance :En Tryz.prog 42:=⟨fun _ _=>by kernel_rfl⟩
instance :En Tryz.prog 43:=⟨fun _ _=>by kernel_rfl⟩
instance :En Tryz.prog 44:=⟨fun _ _=>by kernel_rfl⟩
instance :En Tryz.prog 45:=⟨fun _ _=>by kernel_rfl⟩
instance :En Tryz.prog 46:=⟨fun _ _=>by kernel_rfl⟩
instance :En Tryz.prog 47:=⟨fun _ _=>by kernel_rfl⟩
instance :En Tryz.prog 48:=⟨fun _ _=>by kernel_rfl⟩
instance :En Tryz.prog 49:=⟨fun _ _=>by kernel_rfl⟩
instance :En Tryz.prog 50:=⟨fun _ _=>by kernel_rfl⟩
instance :En Tryz.prog 54:=⟨fun _ _=>by kernel_rfl⟩
instance :En Tryz.prog 55:=⟨fun _ _=>by kernel_rfl⟩
instance :En Tryz.prog 56:=⟨fun _ _=>by kernel_rfl⟩
instance :En Tryz.prog 57:=⟨fun _ _=>by kernel_rfl⟩
instance :En Tryz.prog 76:=⟨fun _ _=>by kernel_rfl⟩
instance :En Tryz.prog 75:=⟨fun _ _=>by kernel_rfl⟩
instance :En Tryz.prog 89:=⟨fun _ _=>by kernel_rfl⟩
instance :En Tryz.prog 90:=⟨fun _ _=>by kernel_rfl⟩
instance :En Tryz.prog 91:=⟨fun _ _=>by kernel_rfl⟩
instance :En Tryz.prog 77:=⟨fun _ _=>by kernel_rfl⟩
instance :En Tryz.prog 78:=⟨fun _ _=>by kernel_rfl⟩
instance :En Tryz.prog 92:=⟨fun _ _=>by kernel_rfl⟩
instance :En Tryz.prog 93:=⟨fun _ _=>by kernel_rfl⟩
instance :En Tryz.prog 94:=⟨fun _ _=>by kernel_rfl⟩
instance :En Tryz.prog 58:=⟨fun _ _=>by kernel_rfl⟩
instance :En Tryz.prog 59:=⟨fun _ _=>by kernel_rfl⟩
instance :En Tryz.prog 60:=⟨fun _ _=>by kernel_rfl⟩
instance :En Tryz.prog 61:=⟨fun _ _=>by kernel_rfl⟩
instance :En Tryz.prog 62:=⟨fun _ _=>by kernel_rfl⟩
instance :En Tryz.prog 63:=⟨fun _ _=>by kernel_rfl⟩
instance :En Tryz.prog 64:=⟨fun _ _=>by kernel_rfl⟩
instance :En Tryz.prog 65:=⟨fun _ _=>by kernel_rfl⟩
instance :En Tryz.prog 66:=⟨fun _ _=>by kernel_rfl⟩
instance :En Tryz.prog 67:=⟨fun _ _=>by kernel_rfl⟩
instance :En Tryz.prog 68:=⟨fun _ _=>by kernel_rfl⟩
instance :En Tryz.prog 70:=⟨fun _ _=>by kernel_rfl⟩
instance :En Tryz.prog 72:=⟨fun _ _=>by kernel_rfl⟩
instance :En Tryz.prog 73:=⟨fun _ _=>by kernel_rfl⟩
instance :En Tryz.prog 74:=⟨fun _ _=>by kernel_rfl⟩
instance :En Tryz.prog 80:=⟨fun _ _=>by kernel_rfl⟩
instance :En Tryz.prog 81:=⟨fun _ _=>by kernel_rfl⟩
instance :En Tryz.prog 83:=⟨fun _ _=>by kernel_rfl⟩
instance :En Tryz.prog 84:=⟨fun _ _=>by kernel_rfl⟩
instance :En Tryz.prog 85:=⟨fun _ _=>by kernel_rfl⟩
instance :En Tryz.prog 86:=⟨fun _ _=>by kernel_rfl⟩
instance :En Tryz.prog 87:=⟨fun _ _=>by kernel_rfl⟩
instance :En Tryz.prog 88:=⟨fun _ _=>by kernel_rfl⟩
instance :En Tryz.prog 95:=⟨fun _ _=>by kernel_rfl⟩
instance :En Tryz.prog 96:=⟨fun _ _=>by kernel_rfl⟩
instance :En Tryz.prog 97:=⟨fun _ _=>by kernel_rfl⟩
instance :En Tryz.prog 104:=⟨fun _ _=>by kernel_rfl⟩
instance :En Tryz.prog 105:=⟨fun _ _=>by kernel_rfl⟩
instance :En Tryz.prog 106:=⟨fun _ _=>by kernel_rfl⟩
instance :En Tryz.prog 115:=⟨fun _ _=>by kernel_rfl⟩
instance :En Tryz.prog 116:=⟨fun _ _=>by kernel_rfl⟩
instance :En Tryz.prog 117:=⟨fun _ _=>by kernel_rfl⟩
instance :En Tryz.prog 118:=⟨fun _ _=>by kernel_rfl⟩
instance :En Tryz.prog 119:=⟨fun _ _=>by kernel_rfl⟩
instance :En Tryz.prog 120:=⟨fun _ _=>by kernel_rfl⟩
instance :En Tryz.prog 121:=⟨fun _ _=>by kernel_rfl⟩
instance :En Tryz.prog 122:=⟨fun _ _=>by kernel_rfl⟩
instance :En Tryz.prog 123:=⟨fun _ _=>by kernel_rfl⟩
instance :En Tryz.prog 114:=⟨fun _ _=>by kernel_rfl⟩
instance :En Tryz.prog 124:=⟨fun _ _=>by kernel_rfl⟩
instance :En Tryz.prog 125:=⟨fun _ _=>by kernel_rfl⟩
instance :En Tryz.prog 126:=⟨fun _ _=>by kernel_rfl⟩
instance :En Tryz.prog 127:=⟨fun _ _=>by kernel_rfl⟩
instance :En Tryz.prog 128:=⟨fun _ _=>by kernel_rfl⟩
instance :En Tryz.prog 130:=⟨fun _ _=>by kernel_rfl⟩
instance :En Tryz.prog 131:=⟨fun _ _=>by kernel_rfl⟩
instance :En Tryz.prog 132:=⟨fun _ _=>by kernel_rfl⟩
instance :En Tryz.prog 133:=⟨fun _ _=>by kernel_rfl⟩
instance :En Tryz.prog 134:=⟨fun _ _=>by kernel_rfl⟩
instance :En Tryz.prog 135:=⟨fun _ _=>by kernel_rfl⟩
instance :En Tryz.prog 136:=⟨fun _ _=>by kernel_rfl⟩
instance :En Tryz.prog 137:=⟨fun _ _=>by kernel_rfl⟩
instance :En Tryz.prog 138:=⟨fun _ _=>by kernel_rfl⟩
instance :En Tryz.prog 139:=⟨fun _ _=>by kernel_rfl⟩
instance :En Tryz.prog 140:=⟨fun _ _=>by kernel_rfl⟩
instance :En Tryz.prog 98:=⟨fun _ _=>by kernel_rfl⟩
instance :En Tryz.prog 99:=⟨fun _ _=>by kernel_rfl⟩
instance :En Tryz.prog 100:=⟨fun _ _=>by kernel_rfl⟩
instance :En Tryz.prog 107:=⟨fun _ _=>by kernel_rfl⟩
instance :En Tryz.prog 108:=⟨fun _ _=>by kernel_rfl⟩
instance :En Tryz.prog 109:=⟨fun _ _=>by kernel_rfl⟩
instance :En Tryz.prog 110:=⟨fun _ _=>by kernel_rfl⟩
instance :En Tryz.prog 111:=⟨fun _ _=>by kernel_rfl⟩
instance :En Tryz.prog 112:=⟨fun _ _=>by kernel_rfl⟩
instance :En Tryz.prog 113:=⟨fun _ _=>by kernel_rfl⟩
instance :En Tryz.prog 141:=⟨fun _ _=>by kernel_rfl⟩
instance :En Tryz.prog 148:=⟨fun _ _=>by kernel_rfl⟩
instance :En Tryz.prog 149:=⟨fun _ _=>by kernel_rfl⟩
instance :En Tryz.prog 150:=⟨fun _ _=>by kernel_rfl⟩
instance :En Tryz.prog 151:=⟨fun _ _=>by kernel_rfl⟩
instance :En Tryz.prog 152:=⟨fun _ _=>by kernel_rfl⟩
instance :En Tryz.prog 153:=⟨fun _ _=>by kernel_rfl⟩
instance :En Tryz.prog 154:=⟨fun _ _=>by kernel_rfl⟩
instance :En Tryz.prog 155:=⟨fun _ _=>by kernel_rfl⟩
instance :En Tryz.prog 156:=⟨fun _ _=>by kernel_rfl⟩
instance :En Tryz.prog 158:=⟨fun _ _=>by kernel_rfl⟩
instance :En Tryz.prog 163:=⟨fun _ _=>by kernel_rfl⟩
instance :En Tryz.prog 164:=⟨fun _ _=>by kernel_rfl⟩
instance :En Tryz.prog 166:=⟨fun _ _=>by kernel_rfl⟩
instance :En Tryz.prog 167:=⟨fun _ _=>by kernel_rfl⟩
instance :En Tryz.prog 168:=⟨fun _ _=>by kernel_rfl⟩
instance :En Tryz.prog 169:=⟨fun _ _=>by kernel_rfl⟩
instance :En Tryz.prog 170:=⟨fun _ _=>by kernel_rfl⟩
instance :En Tryz.prog 145:=⟨fun _ _=>by kernel_rfl⟩
instance :En Tryz.prog 146:=⟨fun _ _=>by kernel_rfl⟩
instance :En Tryz.prog 175:=⟨fun _ _=>by kernel_rfl⟩
instance :En Tryz.prog 176:=⟨fun _ _=>by kernel_rfl⟩
instance :En Tryz.prog 184:=⟨fun _ _=>by kernel_rfl⟩
instance :En Tryz.prog 185:=⟨fun _ _=>by kernel_rfl⟩
instance :En Tryz.prog 186:=⟨fun _ _=>by kernel_rfl⟩
instance :En Tryz.prog 187:=⟨fun _ _=>by kernel_rfl⟩
instance :En Tryz.prog 188:=⟨fun _ _=>by kernel_rfl⟩
instance :En Tryz.prog 190:=⟨fun _ _=>by kernel_rfl⟩
instance :En Tryz.prog 172:=⟨fun _ _=>by kernel_rfl⟩
instance :En Tryz.prog 204:=⟨fun _ _=>by kernel_rfl⟩
instance :En Tryz.prog 207:=⟨fun _ _=>by kernel_rfl⟩
instance :En Tryz.prog 208:=⟨fun _ _=>by kernel_rfl⟩
instance :En Tryz.prog 209:=⟨fun _ _=>by kernel_rfl⟩
instance :En Tryz.prog 210:=⟨fun _ _=>by kernel_rfl⟩
end Go.Proofs.YtphkhfdmlcnoeaaGreatDoor
