/- Steps of the proof of a law. -/
import Derived.Test.YtmbfimckmfnnjaaGreatDoorQ03
import Derived.Test.YtmbfimckmfnnjaaGreatDoorQ04
import Derived.Test.YtmbfimckmfnnjaaGreatDoorRows
set_option maxRecDepth 100000
set_option maxHeartbeats 1000000
set_option linter.unusedSimpArgs false
set_option linter.unusedVariables false
namespace Go.Proofs.YtmbfimckmfnnjaaGreatDoor
open Go.RowKit Go.Sx Go.Proofs.Tryz
section
instance:Pc prog 2 .i64:=⟨underlying2⟩
instance:nT prog 2:=⟨kr⟩
instance:Pc prog 3 .i64:=⟨underlying3⟩
instance:nT prog 3:=⟨kr⟩
instance:lT prog 3 (.int .i64 0):=⟨kr⟩
instance:Oj prog 4:=⟨underlying4⟩
instance:nT prog 4:=⟨kr⟩
instance:nT prog 5:=⟨kr⟩
instance:MU prog 9:=⟨underlying9⟩
instance:nT prog 9:=⟨kr⟩
instance:jg prog 22 62 147 808:=⟨underlying22,kr,dc⟩
instance:nT prog 25:=⟨kr⟩
instance:Pc prog 31 .u16:=⟨underlying31⟩
instance:nT prog 31:=⟨kr⟩
instance:oI prog 33 2:=⟨kr⟩
instance:gm prog 33 0 0 1:=⟨kr⟩
instance:gv prog 33 0 0:=⟨kr⟩
instance:gm prog 33 1 1 1:=⟨kr⟩
instance:gv prog 33 1 1:=⟨kr⟩
instance:oI prog 36 2:=⟨kr⟩
instance:gm prog 36 0 0 1:=⟨kr⟩
instance:gv prog 36 0 0:=⟨kr⟩
instance:gm prog 36 1 1 1:=⟨kr⟩
instance:gv prog 36 1 1:=⟨kr⟩
instance:oI prog 37 32:=⟨kr⟩
instance:oI prog 39 2:=⟨kr⟩
instance:gm prog 39 0 0 1:=⟨kr⟩
instance:gv prog 39 0 0:=⟨kr⟩
instance:gm prog 39 1 1 1:=⟨kr⟩
instance:gv prog 39 1 1:=⟨kr⟩
instance:oI prog 41 5:=⟨kr⟩
instance:gm prog 41 0 0 1:=⟨kr⟩
instance:gv prog 41 0 0:=⟨kr⟩
instance:gm prog 41 1 1 1:=⟨kr⟩
instance:gv prog 41 1 1:=⟨kr⟩
instance:gm prog 41 2 2 1:=⟨kr⟩
instance:gv prog 41 2 2:=⟨kr⟩
instance:gm prog 41 3 3 2:=⟨kr⟩
instance:gv prog 41 3 3:=⟨kr⟩
instance:oI prog 42 30:=⟨kr⟩
instance:oI prog 44 68:=⟨kr⟩
instance:gv prog 44 0 0:=⟨kr⟩
instance:gm prog 44 1 1 1:=⟨kr⟩
instance:gv prog 44 1 1:=⟨kr⟩
instance:gm prog 44 2 2 2:=⟨kr⟩
instance:gv prog 44 2 2:=⟨kr⟩
instance:gm prog 44 3 4 2:=⟨kr⟩
instance:gv prog 44 3 4:=⟨kr⟩
instance:gv prog 44 4 6:=⟨kr⟩
instance:gv prog 44 5 38:=⟨kr⟩
instance:oI prog 46 32:=⟨kr⟩
instance:Og prog 46 32:=⟨kr⟩
instance:lT prog 46 (.agg (aX (zeroV 32)).toArray):=⟨kr⟩
instance:nT prog 47:=⟨kr⟩
instance:jg prog 47 5 1 1:=⟨underlying47,kr,dc⟩
instance:lT prog 47 (.slice none 0 0):=⟨kr⟩
instance:nT prog 48:=⟨kr⟩
instance:jg prog 48 47 1 24:=⟨underlying48,kr,dc⟩
instance:lT prog 48 (.slice none 0 0):=⟨kr⟩
instance:oI prog 50 35:=⟨kr⟩
instance:gv prog 50 0 0:=⟨kr⟩
instance:gv prog 50 1 1:=⟨kr⟩
instance:gv prog 50 2 33:=⟨kr⟩
instance:gv prog 50 3 34:=⟨kr⟩
instance:nT prog 51:=⟨kr⟩
instance:jg prog 51 50 35 88:=⟨underlying51,kr,dc⟩
instance:nT prog 52:=⟨kr⟩
instance:jg prog 52 57 38 112:=⟨underlying52,kr,dc⟩
instance:oI prog 54 105:=⟨kr⟩
instance:gm prog 54 0 0 68:=⟨kr⟩
instance:gv prog 54 0 0:=⟨kr⟩
instance:gv prog 54 1 68:=⟨kr⟩
instance:gv prog 54 2 103:=⟨kr⟩
instance:gv prog 54 3 104:=⟨kr⟩
instance:oI prog 57 38:=⟨kr⟩
instance:gm prog 57 0 0 1:=⟨kr⟩
instance:gv prog 57 0 0:=⟨kr⟩
instance:gm prog 57 1 1 1:=⟨kr⟩
instance:gv prog 57 1 1:=⟨kr⟩
instance:gm prog 57 2 2 1:=⟨kr⟩
instance:gv prog 57 2 2:=⟨kr⟩
instance:gv prog 57 3 3:=⟨kr⟩
instance:gv prog 57 4 4:=⟨kr⟩
instance:gv prog 57 5 36:=⟨kr⟩
instance:gv prog 57 6 37:=⟨kr⟩
instance:nT prog 58:=⟨kr⟩
instance:oI prog 60 3:=⟨kr⟩
instance:gv prog 60 0 0:=⟨kr⟩
instance:gm prog 60 1 1 1:=⟨kr⟩
instance:gv prog 60 1 1:=⟨kr⟩
instance:gv prog 60 2 2:=⟨kr⟩
instance:oI prog 62 147:=⟨kr⟩
instance:gv prog 62 0 0:=⟨kr⟩
instance:gv prog 62 1 1:=⟨kr⟩
instance:gv prog 62 2 2:=⟨kr⟩
instance:gv prog 62 3 40:=⟨kr⟩
instance:gv prog 62 4 108:=⟨kr⟩
instance:nT prog 74:=⟨kr⟩
instance:nT prog 75:=⟨kr⟩
instance:jg prog 75 121 4 64:=⟨underlying75,kr,dc⟩
instance:gm prog 77 0 0 1:=⟨kr⟩
instance:gv prog 77 0 0:=⟨kr⟩
instance:gm prog 77 1 1 1:=⟨kr⟩
instance:gv prog 77 1 1:=⟨kr⟩
instance:gm prog 77 2 2 1:=⟨kr⟩
instance:gv prog 77 2 2:=⟨kr⟩
instance:gv prog 77 3 3:=⟨kr⟩
instance:gm prog 77 4 4 1:=⟨kr⟩
instance:gv prog 77 4 4:=⟨kr⟩
instance:gv prog 77 5 5:=⟨kr⟩
instance:nT prog 79:=⟨kr⟩
instance:nT prog 81:=⟨kr⟩
instance:nT prog 82:=⟨kr⟩
instance:gv prog 84 0 0:=⟨kr⟩
instance:gm prog 84 1 1 1:=⟨kr⟩
instance:gv prog 84 1 1:=⟨kr⟩
instance:gv prog 84 2 2:=⟨kr⟩
instance:gm prog 84 3 3 1:=⟨kr⟩
instance:gv prog 84 3 3:=⟨kr⟩
instance:gv prog 84 4 4:=⟨kr⟩
instance:nT prog 85:=⟨kr⟩
instance:jg prog 85 46 32 32:=⟨underlying85,kr,dc⟩
instance:oI prog 87 106:=⟨kr⟩
instance:gm prog 87 0 0 68:=⟨kr⟩
instance:gv prog 87 0 0:=⟨kr⟩
instance:gm prog 87 1 68 35:=⟨kr⟩
instance:gv prog 87 1 68:=⟨kr⟩
instance:gv prog 87 2 103:=⟨kr⟩
instance:gm prog 87 3 104 1:=⟨kr⟩
instance:gv prog 87 3 104:=⟨kr⟩
instance:gm prog 87 4 105 1:=⟨kr⟩
instance:gv prog 87 4 105:=⟨kr⟩
instance:nT prog 97:=⟨kr⟩
instance:jg prog 97 41 5 40:=⟨underlying97,kr,dc⟩
instance:oI prog 121 4:=⟨kr⟩
instance:gm prog 121 0 0 1:=⟨kr⟩
instance:gv prog 121 0 0:=⟨kr⟩
instance:gm prog 121 1 1 1:=⟨kr⟩
instance:gv prog 121 1 1:=⟨kr⟩
instance:gm prog 121 2 2 1:=⟨kr⟩
instance:gv prog 121 2 2:=⟨kr⟩
instance:gm prog 121 3 3 1:=⟨kr⟩
instance:gv prog 121 3 3:=⟨kr⟩
instance:nT prog 126:=⟨kr⟩
instance:oI prog 128 2:=⟨kr⟩
instance:gm prog 128 0 0 1:=⟨kr⟩
instance:gv prog 128 0 0:=⟨kr⟩
instance:gm prog 128 1 1 1:=⟨kr⟩
instance:gv prog 128 1 1:=⟨kr⟩
instance:nT prog 129:=⟨kr⟩
instance:gv prog 131 0 0:=⟨kr⟩
instance:gv prog 131 1 2:=⟨kr⟩
instance:gv prog 131 2 3:=⟨kr⟩
instance:gm prog 131 3 4 1:=⟨kr⟩
instance:gv prog 131 3 4:=⟨kr⟩
instance:gv prog 131 4 5:=⟨kr⟩
instance:nT prog 145:=⟨kr⟩
instance:jg prog 145 3 1 8:=⟨underlying145,kr,dc⟩
instance:gm prog 147 0 0 1:=⟨kr⟩
instance:gv prog 147 0 0:=⟨kr⟩
instance:gm prog 147 1 1 1:=⟨kr⟩
instance:gv prog 147 1 1:=⟨kr⟩
instance:gv prog 147 2 2:=⟨kr⟩
instance:gv prog 147 3 3:=⟨kr⟩
instance:gm prog 147 4 4 1:=⟨kr⟩
instance:gv prog 147 4 4:=⟨kr⟩
instance:gv prog 147 5 5:=⟨kr⟩
instance:jg prog 148 9 1 16:=⟨underlying148,kr,dc⟩
instance:jg prog 163 250 7 72:=⟨underlying163,kr,dc⟩
instance:oI prog 167 69:=⟨kr⟩
instance:gm prog 167 0 0 68:=⟨kr⟩
instance:gv prog 167 0 0:=⟨kr⟩
instance:gv prog 167 1 68:=⟨kr⟩
instance:oI prog 177 69:=⟨kr⟩
instance:gv prog 177 0 0:=⟨kr⟩
instance:gm prog 177 1 68 1:=⟨kr⟩
instance:gv prog 177 1 68:=⟨kr⟩
instance:gm prog 192 0 0 1:=⟨kr⟩
instance:gv prog 192 0 0:=⟨kr⟩
instance:gv prog 192 1 1:=⟨kr⟩
instance:nT prog 196:=⟨kr⟩
instance:lT prog 197 (.agg #[.pointer none,.pointer none]):=⟨kr⟩
instance:nT prog 200:=⟨kr⟩
instance:lT prog 201 (.agg #[.pointer none,.pointer none]):=⟨kr⟩
instance:lT prog 230 (.agg #[.pointer none,.pointer none,.pointer none,.pointer none]):=⟨kr⟩
instance:oI prog 245 4:=⟨kr⟩
instance:gm prog 245 0 0 1:=⟨kr⟩
instance:gv prog 245 0 0:=⟨kr⟩
instance:gv prog 245 1 1:=⟨kr⟩
instance:gm prog 245 2 2 1:=⟨kr⟩
instance:gv prog 245 2 2:=⟨kr⟩
instance:gm prog 245 3 3 1:=⟨kr⟩
instance:gv prog 245 3 3:=⟨kr⟩
instance:oI prog 248 4:=⟨kr⟩
instance:gv prog 248 0 0:=⟨kr⟩
instance:gv prog 248 1 1:=⟨kr⟩
instance:gv prog 248 2 2:=⟨kr⟩
instance:gv prog 248 3 3:=⟨kr⟩
instance:oI prog 250 7:=⟨kr⟩
instance:gm prog 250 0 0 1:=⟨kr⟩
instance:gv prog 250 0 0:=⟨kr⟩
instance:gm prog 250 1 1 1:=⟨kr⟩
instance:gv prog 250 1 1:=⟨kr⟩
instance:gv prog 250 2 2:=⟨kr⟩
instance:gv prog 250 3 6:=⟨kr⟩
instance:oI prog 252 8:=⟨kr⟩
instance:gm prog 252 0 0 7:=⟨kr⟩
instance:gv prog 252 0 0:=⟨kr⟩
instance:gm prog 252 1 7 1:=⟨kr⟩
instance:gv prog 252 1 7:=⟨kr⟩
instance:oI prog 268 33:=⟨kr⟩
instance:gv prog 268 0 0:=⟨kr⟩
instance:gm prog 268 1 32 1:=⟨kr⟩
instance:gv prog 268 1 32:=⟨kr⟩
instance:jg prog 274 275 1 4:=⟨underlying274,kr,dc⟩
instance:nT prog 275:=⟨kr⟩
instance:lT prog 275 (.int .u32 0):=⟨kr⟩
instance:jg prog 277 128 2 16:=⟨underlying277,kr,dc⟩
instance:oI prog 288 8:=⟨kr⟩
instance:lT prog 288 (.agg (wl (List.replicate 8 0)).toArray):=⟨kr⟩
instance:lT prog 321 (.agg #[.int .i64 0,.int .i64 0,.int .i64 0]):=⟨kr⟩
instance:lT prog 326 (.agg #[.int .i64 0,.int .i64 0,.int .i64 0,.int .i64 0]):=⟨kr⟩
instance:oI prog 333 64:=⟨kr⟩
instance:lT prog 333 (.agg (wl (List.replicate 64 0)).toArray):=⟨kr⟩
instance:nT prog 373:=⟨kr⟩
instance:lT prog 374 (.agg #[.pointer none,.pointer none]):=⟨kr⟩
instance:bk prog 5:=⟨kr⟩
instance:bk prog 6:=⟨kr⟩
instance:bk prog 7:=⟨kr⟩
instance:bk prog 8:=⟨kr⟩
instance:bk prog 9:=⟨kr⟩
instance:bk prog 10:=⟨kr⟩
instance:bk prog 11:=⟨kr⟩
instance:bk prog 12:=⟨kr⟩
instance:bk prog 13:=⟨kr⟩
instance:bk prog 14:=⟨kr⟩
instance:bk prog 17:=⟨kr⟩
instance:bk prog 18:=⟨kr⟩
instance:bk prog 19:=⟨kr⟩
instance:bk prog 20:=⟨kr⟩
instance:bk prog 21:=⟨kr⟩
instance:bk prog 22:=⟨kr⟩
instance:bk prog 23:=⟨kr⟩
instance:bk prog 24:=⟨kr⟩
instance:bk prog 25:=⟨kr⟩
instance:bk prog 26:=⟨kr⟩
instance:bk prog 27:=⟨kr⟩
instance:bk prog 28:=⟨kr⟩
instance:bk prog 29:=⟨kr⟩
instance:bk prog 30:=⟨kr⟩
instance:bk prog 31:=⟨kr⟩
instance:bk prog 32:=⟨kr⟩
instance:bk prog 33:=⟨kr⟩
instance:bk prog 34:=⟨kr⟩
instance:bk prog 35:=⟨kr⟩
instance:bk prog 36:=⟨kr⟩
instance:bk prog 37:=⟨kr⟩
instance:bk prog 38:=⟨kr⟩
instance:bk prog 39:=⟨kr⟩
instance:bk prog 40:=⟨kr⟩
instance:bk prog 41:=⟨kr⟩
instance:bk prog 42:=⟨kr⟩
instance:bk prog 43:=⟨kr⟩
instance:bk prog 44:=⟨kr⟩
instance:bk prog 45:=⟨kr⟩
instance:bk prog 46:=⟨kr⟩
instance:bk prog 47:=⟨kr⟩
instance:bk prog 48:=⟨kr⟩
instance:bk prog 49:=⟨kr⟩
instance:bk prog 50:=⟨kr⟩
instance:bk prog 51:=⟨kr⟩
instance:bk prog 52:=⟨kr⟩
instance:bk prog 53:=⟨kr⟩
instance:bk prog 54:=⟨kr⟩
instance:bk prog 55:=⟨kr⟩
instance:bk prog 56:=⟨kr⟩
instance:bk prog 57:=⟨kr⟩
instance:bk prog 58:=⟨kr⟩
instance:bk prog 59:=⟨kr⟩
instance:bk prog 60:=⟨kr⟩
instance:bk prog 61:=⟨kr⟩
instance:bk prog 62:=⟨kr⟩
instance:bk prog 63:=⟨kr⟩
instance:bk prog 64:=⟨kr⟩
instance:bk prog 65:=⟨kr⟩
instance:bk prog 66:=⟨kr⟩
instance:bk prog 67:=⟨kr⟩
instance:bk prog 68:=⟨kr⟩
instance:bk prog 69:=⟨kr⟩
instance:bk prog 70:=⟨kr⟩
instance:bk prog 71:=⟨kr⟩
instance:bk prog 72:=⟨kr⟩
instance:bk prog 73:=⟨kr⟩
instance:bk prog 74:=⟨kr⟩
instance:bk prog 75:=⟨kr⟩
instance:bk prog 76:=⟨kr⟩
instance:bk prog 77:=⟨kr⟩
instance:bk prog 78:=⟨kr⟩
instance:bk prog 79:=⟨kr⟩
instance:bk prog 80:=⟨kr⟩
instance:bk prog 81:=⟨kr⟩
instance:bk prog 82:=⟨kr⟩
instance:bk prog 83:=⟨kr⟩
instance:bk prog 84:=⟨kr⟩
instance:bk prog 85:=⟨kr⟩
instance:bk prog 86:=⟨kr⟩
instance:bk prog 87:=⟨kr⟩
instance:bk prog 88:=⟨kr⟩
instance:bk prog 89:=⟨kr⟩
instance:bk prog 90:=⟨kr⟩
instance:bk prog 91:=⟨kr⟩
instance:bk prog 92:=⟨kr⟩
instance:bk prog 93:=⟨kr⟩
instance:bk prog 94:=⟨kr⟩
instance:bk prog 95:=⟨kr⟩
instance:bk prog 96:=⟨kr⟩
instance:bk prog 97:=⟨kr⟩
instance:bk prog 98:=⟨kr⟩
instance:bk prog 99:=⟨kr⟩
instance:bk prog 100:=⟨kr⟩
instance:bk prog 101:=⟨kr⟩
instance:bk prog 102:=⟨kr⟩
instance:bk prog 103:=⟨kr⟩
instance:bk prog 104:=⟨kr⟩
instance:bk prog 105:=⟨kr⟩
instance:bk prog 106:=⟨kr⟩
instance:bk prog 107:=⟨kr⟩
instance:bk prog 108:=⟨kr⟩
instance:bk prog 109:=⟨kr⟩
instance:bk prog 110:=⟨kr⟩
instance:bk prog 111:=⟨kr⟩
instance:bk prog 112:=⟨kr⟩
instance:bk prog 113:=⟨kr⟩
instance:bk prog 114:=⟨kr⟩
instance:bk prog 115:=⟨kr⟩
instance:bk prog 116:=⟨kr⟩
instance:bk prog 117:=⟨kr⟩
instance:bk prog 119:=⟨kr⟩
instance:bk prog 120:=⟨kr⟩
instance:bk prog 121:=⟨kr⟩
instance:bk prog 122:=⟨kr⟩
instance:bk prog 123:=⟨kr⟩
instance:bk prog 125:=⟨kr⟩
instance:bk prog 126:=⟨kr⟩
instance:bk prog 127:=⟨kr⟩
instance:bk prog 128:=⟨kr⟩
instance:bk prog 129:=⟨kr⟩
instance:bk prog 130:=⟨kr⟩
instance:bk prog 131:=⟨kr⟩
instance:bk prog 132:=⟨kr⟩
instance:bk prog 133:=⟨kr⟩
instance:bk prog 134:=⟨kr⟩
instance:bk prog 135:=⟨kr⟩
instance:bk prog 136:=⟨kr⟩
instance:bk prog 137:=⟨kr⟩
instance:bk prog 138:=⟨kr⟩
instance:bk prog 139:=⟨kr⟩
instance:bk prog 140:=⟨kr⟩
instance:bk prog 141:=⟨kr⟩
instance:bk prog 142:=⟨kr⟩
instance:bk prog 143:=⟨kr⟩
instance:bk prog 144:=⟨kr⟩
instance:bk prog 145:=⟨kr⟩
instance:bk prog 146:=⟨kr⟩
instance:bk prog 147:=⟨kr⟩
instance:bk prog 148:=⟨kr⟩
instance:bk prog 149:=⟨kr⟩
instance:bk prog 150:=⟨kr⟩
instance:bk prog 151:=⟨kr⟩
instance:bk prog 152:=⟨kr⟩
instance:bk prog 153:=⟨kr⟩
instance:bk prog 154:=⟨kr⟩
instance:bk prog 155:=⟨kr⟩
instance:bk prog 156:=⟨kr⟩
instance:bk prog 157:=⟨kr⟩
instance:bk prog 158:=⟨kr⟩
instance:bk prog 159:=⟨kr⟩
instance:bk prog 160:=⟨kr⟩
instance:bk prog 161:=⟨kr⟩
instance:bk prog 162:=⟨kr⟩
instance:bk prog 163:=⟨kr⟩
instance:bk prog 164:=⟨kr⟩
instance:bk prog 165:=⟨kr⟩
instance:bk prog 166:=⟨kr⟩
instance:bk prog 167:=⟨kr⟩
instance:bk prog 168:=⟨kr⟩
instance:bk prog 169:=⟨kr⟩
instance:bk prog 170:=⟨kr⟩
instance:bk prog 171:=⟨kr⟩
instance:bk prog 172:=⟨kr⟩
instance:bk prog 173:=⟨kr⟩
instance:bk prog 174:=⟨kr⟩
instance:bk prog 175:=⟨kr⟩
instance:bk prog 176:=⟨kr⟩
instance:bk prog 178:=⟨kr⟩
instance:bk prog 179:=⟨kr⟩
instance:bk prog 181:=⟨kr⟩
instance:bk prog 182:=⟨kr⟩
instance:bk prog 183:=⟨kr⟩
instance:bk prog 184:=⟨kr⟩
instance:bk prog 185:=⟨kr⟩
instance:bk prog 186:=⟨kr⟩
instance:bk prog 187:=⟨kr⟩
instance:bk prog 189:=⟨kr⟩
instance:bk prog 190:=⟨kr⟩
instance:bk prog 191:=⟨kr⟩
instance:bk prog 192:=⟨kr⟩
instance:bk prog 193:=⟨kr⟩
instance:bk prog 194:=⟨kr⟩
instance:bk prog 213:=⟨kr⟩
instance:bk prog 214:=⟨kr⟩
instance:bk prog 215:=⟨kr⟩
instance:bk prog 216:=⟨kr⟩
instance:bk prog 217:=⟨kr⟩
instance:bk prog 218:=⟨kr⟩
instance:bk prog 219:=⟨kr⟩
instance:bk prog 220:=⟨kr⟩
instance:bk prog 221:=⟨kr⟩
instance:bk prog 222:=⟨kr⟩
instance:bk prog 223:=⟨kr⟩
instance:bk prog 224:=⟨kr⟩
instance:bk prog 225:=⟨kr⟩
instance:bk prog 226:=⟨kr⟩
instance:bk prog 227:=⟨kr⟩
instance:bk prog 228:=⟨kr⟩
instance:bk prog 229:=⟨kr⟩
instance:bk prog 230:=⟨kr⟩
instance:bk prog 231:=⟨kr⟩
instance:bk prog 232:=⟨kr⟩
instance:bk prog 233:=⟨kr⟩
instance:bk prog 234:=⟨kr⟩
instance:bk prog 235:=⟨kr⟩
instance:bk prog 236:=⟨kr⟩
instance:bk prog 237:=⟨kr⟩
instance:bk prog 238:=⟨kr⟩
instance:bk prog 239:=⟨kr⟩
instance:bk prog 240:=⟨kr⟩
instance:bk prog 242:=⟨kr⟩
instance:bk prog 243:=⟨kr⟩
instance:bk prog 244:=⟨kr⟩
instance:bk prog 260:=⟨kr⟩
instance:bk prog 261:=⟨kr⟩
instance:bk prog 262:=⟨kr⟩
instance:bk prog 263:=⟨kr⟩
instance:bk prog 264:=⟨kr⟩
instance:bk prog 265:=⟨kr⟩
instance:bk prog 266:=⟨kr⟩
instance:bk prog 268:=⟨kr⟩
instance:bk prog 269:=⟨kr⟩
instance:bk prog 287:=⟨kr⟩
end
section
structure bf where
 b:BS
 at_:Int
def bf.list(v:bf):List Value:=[.slice v.b.a v.b.l.length v.b.c]++([.int .i64 v.at_])
def bf.cells(v:bf):Array Value:=v.list.toArray
theorem bf.ae(v:bf):v.list.length=2:=by simp[bf.list]
theorem bf.aS(v:bf):v.list.all Value.oneCell'=true:=by simp[bf.list,Value.oneCell']
theorem bf.size(v:bf):v.cells.size=2:=by simp[bf.cells,bf.ae]
instance {v:bf}:aw v.cells 0 (.slice v.b.a v.b.l.length v.b.c):=⟨by simp[bf.cells,bf.list,WY,aB]⟩
instance {v:bf}{a:Option Addr}{l:List UInt8}{c:Nat}:bD v.cells 0 (.slice a l.length c) {v with b:=⟨a,c,l⟩}.cells:=by have:=bD.fr ([]:List Value) ([.slice v.b.a v.b.l.length v.b.c]) ([.int .i64 v.at_]) (cs:=v.cells) (o:=0) (n:=1) (v:= .slice a l.length c) (by simp[bf.cells,bf.list]) sm rfl rfl;simpa[bf.cells,bf.list,Value.cells]using this
instance {v:bf}:aw v.cells 1 (.int .i64 v.at_):=⟨by simp[bf.cells,bf.list,WY,aB]⟩
instance {v:bf}{u:Int}:bD v.cells 1 (.int .i64 u) {v with at_:=u}.cells:=by have:=bD.fr ([.slice v.b.a v.b.l.length v.b.c]) ([.int .i64 v.at_]) ([]:List Value) (cs:=v.cells) (o:=1) (n:=1) (v:= .int .i64 u) (by simp[bf.cells,bf.list]) sm rfl rfl;simpa[bf.cells,bf.list,Value.cells]using this
instance {f0:BS}{f1:Int}:aw (bf.mk f0 f1).cells 0 (.slice f0.a f0.l.length f0.c):=inferInstanceAs (aw (bf.mk f0 f1).cells 0 (.slice (bf.mk f0 f1).b.a (bf.mk f0 f1).b.l.length (bf.mk f0 f1).b.c))
instance{f0:BS}{f1:Int}{a:Option Addr}{c:Nat}{l:List UInt8}:bD (bf.mk f0 f1).cells 0 (.slice a l.length c) (bf.mk (BS.mk a c l) f1).cells:=inferInstanceAs (bD (bf.mk f0 f1).cells 0 (.slice a l.length c) {(bf.mk f0 f1)with b:=(BS.mk a c l)}.cells)
instance{f0:BS}{f1:Int}:aw (bf.mk f0 f1).cells 1 (.int .i64 f1):=inferInstanceAs (aw (bf.mk f0 f1).cells 1 (.int .i64 (bf.mk f0 f1).at_))
instance{f0:BS}{f1:Int}{u:Int}:bD (bf.mk f0 f1).cells 1 (.int .i64 u) (bf.mk f0 u).cells:=inferInstanceAs (bD (bf.mk f0 f1).cells 1 (.int .i64 u) {(bf.mk f0 f1)with at_:=u}.cells)
@[reducible] def bf.zero:bf:= {b:=⟨none,0,[]⟩,at_:=0}
instance:lT prog 192 (.agg bf.zero.cells):=⟨kr⟩
structure aH where
 num:Int
 mask:Int
def aH.list(v:aH):List Value:=[.int .i64 v.num]++([.int .u16 v.mask])
def aH.cells(v:aH):Array Value:=v.list.toArray
theorem aH.ae(v:aH):v.list.length=2:=by simp[aH.list]
theorem aH.aS(v:aH):v.list.all Value.oneCell'=true:=by simp[aH.list,Value.oneCell']
instance {v:aH}:Cells v.cells 2:=Cells.list v.ae v.aS
theorem aH.size(v:aH):v.cells.size=2:=by simp[aH.cells,aH.ae]
instance {v:aH}:dh v.cells 0 2 v.cells:=⟨by have h:=v.size;apply XX<;>simp[h]⟩
instance {v u:aH}:bD v.cells 0 (.agg u.cells) u.cells:=⟨by have:=fN [] v.list [] (v:= .agg u.cells) (o:=0) (n:=2) rfl v.ae u.size;simpa[aH.cells,Value.cells]using this,by simp[Value.cells,aH.size]⟩
instance {v:aH}:aw v.cells 0 (.int .i64 v.num):=⟨by simp[aH.cells,aH.list,WY,aB]⟩
instance {v:aH}{u:Int}:bD v.cells 0 (.int .i64 u) {v with num:=u}.cells:=by have:=bD.fr ([]:List Value) ([.int .i64 v.num]) ([.int .u16 v.mask]) (cs:=v.cells) (o:=0) (n:=1) (v:= .int .i64 u) (by simp[aH.cells,aH.list]) sm rfl rfl;simpa[aH.cells,aH.list,Value.cells]using this
instance {v:aH}:aw v.cells 1 (.int .u16 v.mask):=⟨by simp[aH.cells,aH.list,WY,aB]⟩
instance {v:aH}{u:Int}:bD v.cells 1 (.int .u16 u) {v with mask:=u}.cells:=by have:=bD.fr ([.int .i64 v.num]) ([.int .u16 v.mask]) ([]:List Value) (cs:=v.cells) (o:=1) (n:=1) (v:= .int .u16 u) (by simp[aH.cells,aH.list]) sm rfl rfl;simpa[aH.cells,aH.list,Value.cells]using this
instance {f0:Int}{f1:Int}:aw (aH.mk f0 f1).cells 0 (.int .i64 f0):=inferInstanceAs (aw (aH.mk f0 f1).cells 0 (.int .i64 (aH.mk f0 f1).num))
instance{f0:Int}{f1:Int}{u:Int}:bD (aH.mk f0 f1).cells 0 (.int .i64 u) (aH.mk u f1).cells:=inferInstanceAs (bD (aH.mk f0 f1).cells 0 (.int .i64 u) {(aH.mk f0 f1)with num:=u}.cells)
instance{f0:Int}{f1:Int}:aw (aH.mk f0 f1).cells 1 (.int .u16 f1):=inferInstanceAs (aw (aH.mk f0 f1).cells 1 (.int .u16 (aH.mk f0 f1).mask))
instance{f0:Int}{f1:Int}{u:Int}:bD (aH.mk f0 f1).cells 1 (.int .u16 u) (aH.mk f0 u).cells:=inferInstanceAs (bD (aH.mk f0 f1).cells 1 (.int .u16 u) {(aH.mk f0 f1)with mask:=u}.cells)
@[reducible] def aH.zero:aH:= {num:=0,mask:=0}
instance:lT prog 33 (.agg aH.zero.cells):=⟨kr⟩
theorem aH.dk(x y:aH):x=y↔x.num=y.num/\x.mask=y.mask:=adW
instance:DecidableEq aH:=fun x y=>decidable_of_iff _ (aH.dk x y).symm
instance {x y:aH}:KA prog 33 (.agg x.cells) (.agg y.cells) (decide (x=y)):=⟨fun d w=>by
 rw[run_equalIn_struct w (d+3) 33 _ _ kr kr];simp only[Program.fieldsOf,underlying33];simp only[Op.eqFields,ne_eq,Sem.run_bind,Sem.run_ite,Sem.run_pure,Result.andThen_ok,qy,rV,AO];rw[show decide (x=y)=(decide (x.num=y.num)&&(decide (x.mask=y.mask)&&true))from by rw[W5];simp[aH.dk]]
 try simp only[String.reduceEq,not_false_eq_true,if_true,Result.andThen_ok]
 cases decide (x.num=y.num)<;>cases decide (x.mask=y.mask)<;>rfl⟩
structure cS where
 n:Int
 t:BS
 len:Int
 e:Int
def cS.list(v:cS):List Value:=[.int .u64 v.n]++([.slice v.t.a v.t.l.length v.t.c]++([.int .i64 v.len]++([.int .i64 v.e])))
def cS.cells(v:cS):Array Value:=v.list.toArray
theorem cS.ae(v:cS):v.list.length=4:=by simp[cS.list]
theorem cS.aS(v:cS):v.list.all Value.oneCell'=true:=by simp[cS.list,Value.oneCell']
instance {v:cS}:Cells v.cells 4:=Cells.list v.ae v.aS
theorem cS.size(v:cS):v.cells.size=4:=by simp[cS.cells,cS.ae]
instance {v:cS}:dh v.cells 0 4 v.cells:=⟨by have h:=v.size;apply XX<;>simp[h]⟩
instance {v u:cS}:bD v.cells 0 (.agg u.cells) u.cells:=⟨by have:=fN [] v.list [] (v:= .agg u.cells) (o:=0) (n:=4) rfl v.ae u.size;simpa[cS.cells,Value.cells]using this,by simp[Value.cells,cS.size]⟩
instance {v:cS}:aw v.cells 0 (.int .u64 v.n):=⟨by simp[cS.cells,cS.list,WY,aB]⟩
instance {v:cS}{u:Int}:bD v.cells 0 (.int .u64 u) {v with n:=u}.cells:=by have:=bD.fr ([]:List Value) ([.int .u64 v.n]) ([.slice v.t.a v.t.l.length v.t.c]++[.int .i64 v.len]++[.int .i64 v.e]) (cs:=v.cells) (o:=0) (n:=1) (v:= .int .u64 u) afX sm rfl rfl;simpa[cS.cells,cS.list,Value.cells]using this
instance {v:cS}:aw v.cells 1 (.slice v.t.a v.t.l.length v.t.c):=⟨by simp[cS.cells,cS.list,WY,aB]⟩
instance {v:cS}{a:Option Addr}{l:List UInt8}{c:Nat}:bD v.cells 1 (.slice a l.length c) {v with t:=⟨a,c,l⟩}.cells:=by have:=bD.fr ([.int .u64 v.n]) ([.slice v.t.a v.t.l.length v.t.c]) ([.int .i64 v.len]++[.int .i64 v.e]) (cs:=v.cells) (o:=1) (n:=1) (v:= .slice a l.length c) afX sm rfl rfl;simpa[cS.cells,cS.list,Value.cells]using this
instance {v:cS}:aw v.cells 2 (.int .i64 v.len):=⟨by simp[cS.cells,cS.list,WY,aB]⟩
instance {v:cS}{u:Int}:bD v.cells 2 (.int .i64 u) {v with len:=u}.cells:=by have:=bD.fr ([.int .u64 v.n]++[.slice v.t.a v.t.l.length v.t.c]) ([.int .i64 v.len]) ([.int .i64 v.e]) (cs:=v.cells) (o:=2) (n:=1) (v:= .int .i64 u) afX sm rfl rfl;simpa[cS.cells,cS.list,Value.cells]using this
instance {v:cS}:aw v.cells 3 (.int .i64 v.e):=⟨by simp[cS.cells,cS.list,WY,aB]⟩
instance {v:cS}{u:Int}:bD v.cells 3 (.int .i64 u) {v with e:=u}.cells:=by have:=bD.fr ([.int .u64 v.n]++[.slice v.t.a v.t.l.length v.t.c]++[.int .i64 v.len]) ([.int .i64 v.e]) ([]:List Value) (cs:=v.cells) (o:=3) (n:=1) (v:= .int .i64 u) afX sm rfl rfl;simpa[cS.cells,cS.list,Value.cells]using this
instance {f0:Int}{f1:BS}{f2:Int}{f3:Int}:aw (cS.mk f0 f1 f2 f3).cells 0 (.int .u64 f0):=inferInstanceAs (aw (cS.mk f0 f1 f2 f3).cells 0 (.int .u64 (cS.mk f0 f1 f2 f3).n))
instance{f0:Int}{f1:BS}{f2:Int}{f3:Int}{u:Int}:bD (cS.mk f0 f1 f2 f3).cells 0 (.int .u64 u) (cS.mk u f1 f2 f3).cells:=inferInstanceAs (bD (cS.mk f0 f1 f2 f3).cells 0 (.int .u64 u) {(cS.mk f0 f1 f2 f3)with n:=u}.cells)
instance{f0:Int}{f1:BS}{f2:Int}{f3:Int}:aw (cS.mk f0 f1 f2 f3).cells 1 (.slice f1.a f1.l.length f1.c):=inferInstanceAs (aw (cS.mk f0 f1 f2 f3).cells 1 (.slice (cS.mk f0 f1 f2 f3).t.a (cS.mk f0 f1 f2 f3).t.l.length (cS.mk f0 f1 f2 f3).t.c))
instance{f0:Int}{f2:Int}{f3:Int}{a:Option Addr}{c:Nat}{l:List UInt8}:aw (cS.mk f0 (BS.mk a c l) f2 f3).cells 1 (.slice a l.length c):=inferInstanceAs (aw (cS.mk f0 (BS.mk a c l) f2 f3).cells 1 (.slice (cS.mk f0 (BS.mk a c l) f2 f3).t.a (cS.mk f0 (BS.mk a c l) f2 f3).t.l.length (cS.mk f0 (BS.mk a c l) f2 f3).t.c))
instance{f0:Int}{f1:BS}{f2:Int}{f3:Int}{a:Option Addr}{c:Nat}{l:List UInt8}:bD (cS.mk f0 f1 f2 f3).cells 1 (.slice a l.length c) (cS.mk f0 (BS.mk a c l) f2 f3).cells:=inferInstanceAs (bD (cS.mk f0 f1 f2 f3).cells 1 (.slice a l.length c) {(cS.mk f0 f1 f2 f3)with t:=(BS.mk a c l)}.cells)
instance{f0:Int}{f1:BS}{f2:Int}{f3:Int}:aw (cS.mk f0 f1 f2 f3).cells 2 (.int .i64 f2):=inferInstanceAs (aw (cS.mk f0 f1 f2 f3).cells 2 (.int .i64 (cS.mk f0 f1 f2 f3).len))
instance{f0:Int}{f1:BS}{f2:Int}{f3:Int}{u:Int}:bD (cS.mk f0 f1 f2 f3).cells 2 (.int .i64 u) (cS.mk f0 f1 u f3).cells:=inferInstanceAs (bD (cS.mk f0 f1 f2 f3).cells 2 (.int .i64 u) {(cS.mk f0 f1 f2 f3)with len:=u}.cells)
instance{f0:Int}{f1:BS}{f2:Int}{f3:Int}:aw (cS.mk f0 f1 f2 f3).cells 3 (.int .i64 f3):=inferInstanceAs (aw (cS.mk f0 f1 f2 f3).cells 3 (.int .i64 (cS.mk f0 f1 f2 f3).e))
instance{f0:Int}{f1:BS}{f2:Int}{f3:Int}{u:Int}:bD (cS.mk f0 f1 f2 f3).cells 3 (.int .i64 u) (cS.mk f0 f1 f2 u).cells:=inferInstanceAs (bD (cS.mk f0 f1 f2 f3).cells 3 (.int .i64 u) {(cS.mk f0 f1 f2 f3)with e:=u}.cells)
@[reducible] def cS.zero:cS:= {n:=0,t:=⟨none,0,[]⟩,len:=0,e:=0}
instance:lT prog 245 (.agg cS.zero.cells):=⟨kr⟩
end
section
def fQ(n:Int):Bool:=decide (n=1)||decide (n=2)||decide (n=4)||decide (n=8)
def fixed(x n:Nat):List UInt8:=(List.range n).map fun i=>UInt8.ofNat (x/256^(n-1-i)%256)
variable {w0:World} {H:List SA} {a:Option Addr} {l:List UInt8} {c x:Nat} {n:Int}
theorem aO(x n:Nat):(fixed x n).length=n:=by simp[fixed]
theorem qT(x n i:Nat)(hi:i<n):(fixed x n).take (i+1)=(fixed x n).take i++[UInt8.ofNat (x/256^(n-1-i)%256)]:=by
 rw[Xf (by simpa[fixed]using hi)];simp[fixed]
def fF(l:List UInt8)(x:Int)(n:Int):List UInt8:=if fQ n then l++fixed x.toNat n.toNat else l
def packed(x:Nat):List UInt8:=if h:x<128 then[UInt8.ofNat x]else UInt8.ofNat (x%128+128)::packed (x/128)
  termination_by x
  decreasing_by omega
theorem kJ(h:x<128):packed x=[UInt8.ofNat x]:=by rw[packed,dif_pos h]
theorem nJ(h:¬x<128):packed x=UInt8.ofNat (x%128+128)::packed (x/128):=by rw[packed,dif_neg h]
theorem kW(x:Nat):mm (IntKind.u8.wrap (x:Int))=UInt8.ofNat x:=by
 have:IntKind.u8.wrap (x:Int)=((x%256:Nat):Int):=aeE;rw[this,mm,XA];apply YN.1;simp
theorem KQ(x:Nat):mm (IntKind.u8.wrap ((BitVec.ofInt IntKind.u8.bits (IntKind.u8.wrap (x:Int))|||BitVec.ofInt IntKind.u8.bits 128).toNat:Int))=UInt8.ofNat (x%128+128):=by
 rw[kW];have h1:IntKind.u8.wrap (x:Int)=((x%256:Nat):Int):=aeE;rw[h1];have key:∀z:Fin 256,UInt8.ofNat ((BitVec.ofInt 8 ((z.val:Nat):Int)|||BitVec.ofInt 8 128).toNat)=UInt8.ofNat (z.val%128+128):=adv;have:=key ⟨x%256,om⟩;refine this.trans ?_
 congr 2
 show x%256%128=x%128;omega
theorem Eg{n i:Nat}(hi:i<n)(hn:n<=8):mm (IntKind.u8.wrap ((x:Int).fdiv (2^(min ((8:Int)*((n:Int)-1-(i:Int))).toNat IntKind.u64.bits))))=UInt8.ofNat (x/256^(n-1-i)%256):=by
 have e1:((8:Int)*((n:Int)-1-(i:Int))).toNat=8*(n-1-i):=om;have e2:min (8*(n-1-i)) IntKind.u64.bits=8*(n-1-i):=by simp only[IntKind.bits];omega
 rw[e1,e2,Int.fdiv_eq_ediv_of_nonneg _ (by exact Int.pow_nonneg dc)];have e3:((x:Int)/2^(8*(n-1-i)))=((x/256^(n-1-i):Nat):Int):=by
   rw[show(256:Nat)=2^8 from rfl,←Nat.pow_mul]
   push_cast
   rfl
 rw[e3,kW];apply YN.1;simp
theorem o9(h:fQ n=true):n=1∨n=2∨n=4∨n=8:=by simpa[fQ,or_assoc]using h
theorem Iu:CT prog w0 (H) 191 [.int .i64 n] (α:=Unit) (fun _=> .bool (fQ n)) (fun _=>H):=by
 refine al func191 rfl ntmps191 rfl (gG ?_);refine yS 5 ?_ ?_<;>intro h5 p5<;>refine gG ?_
 ·exact zX () [.bool (fQ n)] results191 ⟨by refine congrArg Value.bool ?_;simp_all [fQ],trivial⟩ rfl SB
 refine yS 9 ?_ ?_<;>intro h9 p9<;>refine gG ?_
 ·exact zX () [.bool (fQ n)] results191 ⟨by refine congrArg Value.bool ?_;simp_all [fQ],trivial⟩ rfl SB
 refine yS 13 ?_ ?_<;>intro h13 p13<;>refine gG ?_
 ·exact zX () [.bool (fQ n)] results191 ⟨by refine congrArg Value.bool ?_;simp_all [fQ],trivial⟩ rfl SB
 exact zX () [.bool (fQ n)] results191 ⟨by refine congrArg Value.bool ?_;simp_all [fQ],trivial⟩ rfl SB
theorem jc[hr:dT w0 H (.slice a l.length c) l](hl:l.length<=4294967296):CT prog w0 (H) 104 [.slice a l.length c] (α:=AC) (fun x=> .slice x.a l.length x.c) (fun x=>row (.slice x.a l.length x.c) 5 1 (aE l)::H):=by
 refine aie ?_;refine Z0 ?_;refine yC ?_ ?_<;>intro h4 p4<;>refine gG ?_
 ·subst p4;refine Kf (fun w hw=>gN.none (hr.rd w hw)) (fun hnil=>?_);subst hnil;exact zX ⟨none,0⟩ [.slice none 0 0] results104 ⟨rfl,trivial⟩ rfl (fun w hw=>hw.cP 5)
 refine ze rfl (tb (fun a5 c5=>gG ?_));refine ze rfl (bR (sv:= .slice _ _ _) (xv:= .slice _ _ _) rfl rfl so rfl (fun a7 c7=>?_));simp only[Xh];refine gG ?_;exact zX ⟨a7,c7⟩ [_] results104 ⟨rfl,trivial⟩ rfl SB
theorem eK{x:Int}[hr:dT w0 H (.slice a l.length c) l](hl:l.length<=4294967200)(hx:0<=x):CT prog w0 (H) 143 [.slice a l.length c,.int .u64 x,.int .i64 n] (α:=AC) (fun y=> .slice y.a (fF l x n).length y.c) (fun y=>row (.slice y.a (fF l x n).length y.c) 5 1 (aE (fF l x n))::H):=by
 refine al func143 rfl ntmps143 rfl (gG ?_);refine ze rfl (zc (jc om) rfl (fun x10=>gG ?_));refine ze rfl (zc (Iu) rfl (fun x12=>gG ?_));refine yC ?_ ?_<;>intro h13 p13<;>refine gG ?_
 ·have e:fF l x n=l:=by simp[fF,show fQ n=false by simpa using p13]
  simp only[e];exact zX ⟨x10.a,x10.c⟩ [_] results143 ⟨rfl,trivial⟩ rfl SB
 have hw4:=o9 (n:=n) (by simpa using p13);have hw5:fQ n=true:=by simpa using p13
 obtain⟨x,rfl⟩:=Xl hx;obtain⟨n,rfl⟩:=Xl (show 0<=n by omega);refine bH [7,8,16,17,18,19,20,21,22,23,24,25,26,27,28,29,30] [16,7] (fun vs H'=>∃(i:Nat)(a:Option Addr)(c:Nat),vs=[.int .i64 (i:Int),.slice a (l++(fixed x n).take i).length c]/\H'=row (.slice a (l++(fixed x n).take i).length c) 5 1 (aE (l++(fixed x n).take i))::H/\i<=n) (fun vs=>match vs with| .int _ i::_=>n-i.toNat|_=>0) ⟨0,x10.a,x10.c,by rw[XD,Xn];rfl,by rw[XD,Xn],Xv _⟩ SB ?_;rintro τ0 _ _ ⟨i,a1,c1,rfl,rfl,hi0⟩ _;refine gG ?_;refine yC ?_ ?_<;>intro h17 p17
 ·have hi:i<n:=om;refine gA ?_
  first|refine zq (mG rfl rfl om om) rfl ?_|refine zq (gq rfl rfl) rfl ?_
  refine zq (Eo rfl rfl om) rfl (zq (bV rfl rfl underlying5) rfl ?_);refine ze rfl (dH (v:= .int .u8 (IntKind.u8.wrap _)) rfl (fun a28 c28=>?_));refine ze rfl (gj (n:=IntKind.u8.wrap _) (sv:= .slice _ _ _) (xv:= .slice _ _ _) rfl rfl (ie _) so rfl (fun a29 c29=>?_));rw[Eg hi om,W4,←qT _ _ _ hi];refine gA ?_;refine bW _ zA (⟨i+1,a29,c29,rfl,rfl,om⟩) adH (SB)
 have et:(fixed x n).take i=fixed x n:=W7 aez;simp only[et];refine gG ?_;refine Za ?_;have e:fF l (x:Int) (n:Int)=l++fixed x n:=by simp[fF,hw5]
 simp only[e];exact zX ⟨a1,c1⟩ [_] results143 ⟨rfl,trivial⟩ rfl SB
theorem kj{x:Int}[hr:dT w0 H (.slice a l.length c) l](hl:l.length<=4294967200)(hx:0<=x)(hx2:x<18446744073709551616):CT prog w0 (H) 190 [.slice a l.length c,.int .u64 x] (α:=AC) (fun y=> .slice y.a (l++packed x.toNat).length y.c) (fun y=>row (.slice y.a (l++packed x.toNat).length y.c) 5 1 (aE (l++packed x.toNat))::H):=by
 refine al func190 rfl ntmps190 rfl (gG ?_);refine ze rfl (zc (jc om) rfl (fun x7=>gG ?_));obtain⟨x,rfl⟩:=Xl hx;refine bH [1,5,8,9,10,11,12,13,14,15,16,17] [1,5] (fun vs H'=>∃(y:Nat)(dn:List UInt8)(a:Option Addr)(c:Nat),vs=[.int .u64 (y:Int),.slice a (l++dn).length c]/\H'=row (.slice a (l++dn).length c) 5 1 (aE (l++dn))::H/\dn++packed y=packed x/\dn.length<=10/\(128^dn.length*y<=x)) (fun vs=>match vs with| .int _ i::_=>i.toNat|_=>0) ⟨x,[],x7.a,x7.c,by rw[Xn];rfl,by rw[Xn],rfl,sm,sm⟩ SB ?_;rintro τ0 _ _ ⟨y,dn,a1,c1,rfl,rfl,hd,hl2,hy⟩ _;refine gG ?_;refine yC ?_ ?_<;>intro h9 p9
 ·have hyb:¬y<128:=om;have hdy:128^(dn++[UInt8.ofNat (y%128+128)]).length*(y/2^7)<=x:=by
   rw[WX,XB,X3,Nat.mul_assoc];exact aiJ
  have hdl:(dn++[UInt8.ofNat (y%128+128)]).length<=10:=by
   rw[WX,XB];rcases X7 dn.length 10 with h|h
   · omega
   · have h10:dn.length=10:=om
     rw[h10]at hy;omega
  refine gG ?_;refine zq (bV rfl rfl underlying5) rfl (zq (MT rfl rfl) rfl ?_);refine ze rfl (dH (v:= .int .u8 (IntKind.u8.wrap _)) rfl (fun a14 c14=>?_));refine ze rfl (gj (n:=IntKind.u8.wrap _) (sv:= .slice _ _ _) (xv:= .slice _ _ _) rfl rfl (ie _) so rfl (fun a15 c15=>?_));rw[KQ,W4];refine gG ?_;refine zq (pN 7 rfl rfl dc) rfl ?_;refine gG ?_;refine bW _ zA (⟨y/2^7,dn++[UInt8.ofNat (y%128+128)],a15,c15,rfl,rfl,by rw[W4,List.singleton_append,←nJ hyb];exact hd,hdl,hdy⟩) (by show((y/2^7:Nat):Int).toNat<(y:Int).toNat;omega) (SB)
 have hyb:y<128:=om;rw[kJ hyb]at hd;refine gG ?_;refine Za ?_;refine aby ?_;refine ze rfl (dH (v:= .int .u8 (IntKind.u8.wrap _)) rfl (fun a21 c21=>?_));refine ze rfl (gj (n:=IntKind.u8.wrap _) (sv:= .slice _ _ _) (xv:= .slice _ _ _) rfl rfl (ie _) so rfl (fun a22 c22=>?_));rw[kW,W4];refine gG ?_;have e:packed (x:Int).toNat=dn++[UInt8.ofNat y]:=hd.symm;simp only[e];exact zX ⟨a22,c22⟩ [_] results190 ⟨rfl,trivial⟩ rfl SB
theorem bw(x:Nat)(h:x<18446744073709551616):(packed x).length<=10:=by
 have key:∀(k:Nat)(x:Nat),x<128^(k+1)->(packed x).length<=k+1:=by
   intro k
   induction k with
   |zero=>intro x hx;rw[kJ aev];simp
   |succ k ih=>
     intro x hx;by_cases h:x<128
     · rw[kJ h];simp
     · rw[nJ h,Xq]
       have:x/128<128^(k+1):=by rw[X3]at hx;exact Nat.div_lt_of_lt_mul (by rw[Yn];exact hx)
       have:=ih _ this;omega
 exact key 9 x om
theorem gW{a2:Option Addr}{l2:List UInt8}{c2:Nat}[hr:dT w0 H (.slice a l.length c) l][hr2:dT w0 H (.slice a2 l2.length c2) l2](hl:l.length<=2147483648)(hl2:l2.length<=2147483000):CT prog w0 (H) 111 [.slice a l.length c,.slice a2 l2.length c2] (α:=AC) (fun y=> .slice y.a (l++packed l2.length++l2).length y.c) (fun y=>row (.slice y.a (l++packed l2.length++l2).length y.c) 5 1 (aE (l++packed l2.length++l2))::H):=by
 refine al func111 rfl ntmps111 rfl (gG ?_);refine acQ ?_;refine ze rfl (zc (kj (x:=(l2.length:Int)) om om om) rfl (fun x9=>?_));rw[show(l2.length:Int).toNat=l2.length from rfl];refine gG ?_;refine ze rfl (bR (sv:= .slice _ _ _) (xv:= .slice _ _ _) rfl rfl (by have:=bw l2.length om;simp;omega) rfl (fun a11 c11=>gG ?_));exact zX ⟨a11,c11⟩ [_] results111 ⟨rfl,trivial⟩ rfl SB
end
section
variable {w0:World} {H:List SA} {l:List UInt8} {p k i x:Nat} {b:BS} {m:Int}
theorem u5(x c i:Nat)(h:c<2^i):x*2^i|||c=x*2^i+c:=by
 rw[←Nat.shiftLeft_eq,Nat.shiftLeft_add_eq_or_of_lt h]
theorem FT(x c i:Nat)(h:x<2^i):x|||c*2^i=x+c*2^i:=by
 rw[Nat.or_comm,u5 c x i h,Nat.add_comm]
def si(l:List UInt8):Nat:=l.foldl (fun x c=>x*256+c.toNat) 0
theorem uY(l:List UInt8)(c:UInt8):si (l++[c])=si l*256+c.toNat:=by simp[si]
theorem D8:∀l:List UInt8,si l<256^l.length:=by
 intro l;have key:∀(l:List UInt8)(x n:Nat),x<256^n->l.foldl (fun x c=>x*256+c.toNat) x<256^(n+l.length):=by
   intro l
   induction l with
   |nil=>intro x n h;simpa using h
   |cons c l ih=>
     intro x n h;have h1:=ih (x*256+c.toNat) (n+1) (by have:=c.toNat_lt;rw[X3];omega);simpa[X9,Nat.add_comm 1]using h1
 simpa[si]using key l 0 0 sm
def bx(l:List UInt8)(n:Int):Int×Nat×Nat:=
 if fQ n=false then(15,0,0)else if (l.length:Int)<n then(1,0,0)else(0,si (l.take n.toNat),n.toNat)
def pk(l:List UInt8):Nat->Nat->Nat->Int×Nat×Nat
 |0,_,_=>(2,0,0)
 |f+1,i,x=>match l[i]? with
   |none=>(1,0,0)
   |some c=>if i=9/\1<c.toNat then(2,0,0)
     else if c.toNat<128 then(if c.toNat=0/\0<i then(2,0,0)else(0,x+c.toNat%128*128^i,i+1))
     else pk l f (i+1) (x+c.toNat%128*128^i)
def aq(l:List UInt8):Int×Nat×Nat:=pk l 10 0 0
def ay(l:List UInt8)(most:Int):Int×Nat×Nat:=
 if (aq l).1≠0 then((aq l).1,0,0)else if most<0∨most<((aq l).2.1:Int)then(3,0,0)else aq l
def au(l:List UInt8)(most:Int):Int×List UInt8×Nat:=
 if (ay l most).1≠0 then((ay l most).1,[],0)
 else if l.length<(ay l most).2.2+(ay l most).2.1 then(1,[],0)
 else(0,(l.drop (ay l most).2.2).take (ay l most).2.1,(ay l most).2.2+(ay l most).2.1)
theorem IL(l:List UInt8):∀f i x,(pk l f i x).1≠0->(pk l f i x).2=(0,0)
 |0,_,_,_=>rfl
 |f+1,i,x,h=>by
   unfold pk at h ⊢;cases hl:l[i]? with
   |none=>rfl
   |some c=>
     simp only[hl]at h ⊢
     split
     · rfl
     · rename_i h1
       simp only[h1,if_false]at h
       split
       · rename_i h2
         simp only[h2,if_true]at h
         split
         · rfl
         · rename_i h3;simp[h3]at h
       · rename_i h2
         simp only[h2,if_false]at h;exact IL l f (i+1) _ h
theorem rF(h:(aq l).1≠0):(aq l).2=(0,0):=IL l 10 0 0 h
theorem C1(l:List UInt8):∀f i x,f+i=10->i<=l.length->x<128^i->(pk l f i x).2.2<=10/\(pk l f i x).2.2<=l.length/\(pk l f i x).2.1<18446744073709551616
 |0,_,_,_,_,_=>by simp[pk]
 |f+1,i,x,hf,hi,hx=>by
   unfold pk;cases hl:l[i]? with
   |none=>simp
   |some c=>
     have hlt:i<l.length:=(List.getElem?_eq_some_iff.1 hl).1;simp only;have hx2:x+c.toNat%128*128^i<128^(i+1):=by
       have h1:c.toNat%128<128:=YZ _ dc;have h2:=Xp (128^i) (show c.toNat%128<=127 by omega);rw[X3];omega
     split
     · simp
     · rename_i h9
       split
       · split
         · simp
         · refine⟨so,so,?_⟩
           show x+c.toNat%128*128^i<_;by_cases hi9:i=9
           · subst hi9
             have h1:c.toNat<=1:=om;have h3:(128:Nat)^9=9223372036854775808:=dc;rw[h3]at hx ⊢;have:c.toNat%128<=1:=om;omega
           · have h4:(128:Nat)^(i+1)<=128^9:=X8 dc om
             have h3:(128:Nat)^9=9223372036854775808:=dc;omega
       · exact C1 l f (i+1) _ om om hx2
theorem bT(l:List UInt8):(aq l).2.2<=10/\(aq l).2.2<=l.length/\(aq l).2.1<18446744073709551616:=C1 l 10 0 0 rfl om sm
theorem tL(h:(ay l m).1≠0):(ay l m).2=(0,0):=by
 unfold ay at h ⊢
 split
 · rfl
 · rename_i h1
   split
   · rfl
   · rename_i h2;simp[h1,h2]at h
theorem hZ(h:(ay l m).1=0):ay l m=aq l/\((aq l).2.1:Int)<=m/\(aq l).1=0:=by
 unfold ay at h ⊢
 split
 · rename_i h1;simp[h1]at h
 · rename_i h1
   split
   · rename_i h2;simp[h1,h2]at h
   · exact⟨rfl,om,om⟩
theorem iV(l:List UInt8)(m:Int):(ay l m).2.2<=10/\(ay l m).2.2<=l.length/\(ay l m).2.1<18446744073709551616:=by
 have:=bT l;unfold ay
 split
 · simp
 · split
   · simp
   · exact this
theorem eM(l:List UInt8)(m:Int):(au l m).2.2<=l.length/\(au l m).2.1.length<=l.length:=by
 unfold au
 split
 · simp
 · split
   · simp
   · refine⟨so,so⟩
theorem GW(x:Nat):∀n,si (fixed x n)=x%256^n:=by
 intro n;have key:∀i,i<=n->si ((fixed x n).take i)=x/256^(n-i)%256^i:=by
   intro i
   induction i with
   |zero=>intro _;simp[si,Nat.mod_one]
   |succ i ih=>
     intro hi;rw[qT x n i om,uY,ih om,Ye];have e1:n-1-i=n-(i+1):=om;have e2:n-i=n-(i+1)+1:=om;rw[e1,e2,X3,←YG,show(2^8:Nat)=256 from rfl,Nat.mod_mod];generalize x/256^(n-(i+1))=y;rw[X3,Yn (256^i) 256,Nat.mod_mul];omega
 have:=key n (W8 _);rw[W7 (by rw[aO];exact W8 _)]at this;simpa using this
theorem ql(x n:Nat)(rest:List UInt8)(hn:fQ n=true)(hx:x<256^n):bx (fixed x n++rest) n=(0,x,n):=by
 unfold bx;rw[if_neg (by simp[hn]),if_neg (by simp[aO];omega)];rw[show((n:Int)).toNat=n from rfl,X4 aeA,W7 aeA,GW,XN hx]
theorem F1(rest:List UInt8):∀(x f i acc:Nat)(pre:List UInt8),pre.length=i->f+i=10->x*128^i<18446744073709551616->(0<i->0<x)->pk (pre++(packed x++rest)) f i acc=(0,acc+x*128^i,i+(packed x).length):=by
 intro x
 induction x using Nat.strongRecOn with
 |_ x ih=>
   intro f i acc pre hp hf hx h0;have hi:i<10:=by
     rcases X7 i 10 with h|h
     · exact h
     · have h1:(128:Nat)^10<=128^i:=X8 dc h
       have h2:1*128^i<=x*128^i:=Xp _ (h0 om);have h3:(128:Nat)^10=1180591620717411303424:=dc;omega
   obtain⟨f,rfl⟩:∃g,f=g+1:=⟨f-1,om⟩;have h9:i=9->x<=1:=by
     rintro rfl;have h3:(128:Nat)^9=9223372036854775808:=dc;rw[h3]at hx;omega
   by_cases hs:x<128
   · rw[kJ hs,pk]
     have hg:(pre++([UInt8.ofNat x]++rest))[i]? =some (UInt8.ofNat x):=by rw[←hp];simp
     have ht:(UInt8.ofNat x).toNat=x:=by rw[Ye];omega
     simp only[hg,ht];rw[if_neg om,if_pos hs,if_neg om,XN hs];simp
   · rw[nJ hs,pk]
     have hg:(pre++(UInt8.ofNat (x%128+128)::packed (x/128)++rest))[i]? =some (UInt8.ofNat (x%128+128)):=by rw[←hp];simp
     have ht:(UInt8.ofNat (x%128+128)).toNat=x%128+128:=by rw[Ye];omega
     simp only[hg,ht];rw[if_neg om,if_neg om];have e:pre++(UInt8.ofNat (x%128+128)::packed (x/128)++rest)=(pre++[UInt8.ofNat (x%128+128)])++(packed (x/128)++rest):=sm;have hm:x/128*128^(i+1)<=x*128^i:=by
       rw[X3,Yn (128^i) 128,←Nat.mul_assoc];exact Xp _ om
     rw[e,ih (x/128) om f (i+1) _ _ (by simp[hp]) om om om];have e2:(x%128+128)%128=x%128:=om;have e3:x%128*128^i+x/128*128^(i+1)=x*128^i:=by
       rw[X3,Yn (128^i) 128,←Nat.mul_assoc,←XY]
       congr 1;omega
     rw[e2,X9,e3,Xq]
     congr 2;omega
theorem jX(x:Nat)(rest:List UInt8)(hx:x<18446744073709551616):aq (packed x++rest)=(0,x,(packed x).length):=by
 have:=F1 rest x 10 0 0 [] rfl rfl aev om;simpa[aq]using this
theorem mf(x:Nat)(m:Int)(rest:List UInt8)(hx:x<18446744073709551616)(hm:(x:Int)<=m):ay (packed x++rest) m=(0,x,(packed x).length):=by
 unfold ay;rw[jX x rest hx];simp;omega
theorem tA(t:List UInt8)(m:Int)(rest:List UInt8)(ht:t.length<18446744073709551616)(hm:(t.length:Int)<=m):au (packed t.length++t++rest) m=(0,t,(packed t.length++t).length):=by
 unfold au;rw[W4,mf t.length m (t++rest) ht hm];simp
theorem wK[rb:dT w0 H (.slice b.a b.l.length b.c) b.l](hk:k<=b.l.length)(hl:b.l.length<=4294967296):CT prog w0 (aF p (.cells (bf.mk b (k:Int)).cells 192 (0,0))::H) 60 [.pointer (some ⟨p,0,none⟩)] (α:=Unit) (fun _=> .int .i64 ((b.l.length-k:Nat):Int)) (fun _=>aF p (.cells (bf.mk b (k:Int)).cells 192 (0,0))::H):=by
 refine al func60 rfl ntmps60 rfl (gG ?_);refine Zw ?_;refine yC ?_ ?_<;>intro h4 p4
 ·
  cases h4
 refine gG ?_;refine dv [(0,true),(1,true),(2,true),(3,true),(4,true),(5,true),(6,true),(7,true),(8,true),(9,true),(10,true)] (fun hns0=>?_);refine gA ?_;exact zX () [_] results60 ⟨rfl,trivial⟩ (by show Value.int .i64 ((b.l.length:Int)-(k:Int))=_;congr 1;omega) SB
theorem nU[rb:dT w0 H (.slice b.a b.l.length b.c) b.l](hk:k<=b.l.length)(hl:b.l.length<=4294967296):CT prog w0 (aF p (.cells (bf.mk b (k:Int)).cells 192 (0,0))::H) 65 [.pointer (some ⟨p,0,none⟩)] (α:=Unit) (fun _=> .int .i64 (if k<b.l.length then 2 else 0)) (fun _=>aF p (.cells (bf.mk b (k:Int)).cells 192 (0,0))::H):=by
 refine al func65 rfl ntmps65 rfl (gG ?_);refine Zw ?_;refine yC ?_ ?_<;>intro h3 p3
 ·
  cases h3
 refine gG ?_;refine ze rfl (zc (wK hk hl) rfl (fun x8=>gG ?_));refine yC ?_ ?_<;>intro h6 p6<;>refine gG ?_
 ·exact aey
 exact aey
theorem lD{a:Option Addr}{c:Nat}[hr:dT w0 H (.slice a l.length c) l](hl:l.length<=4294967296):CT prog w0 (H) 58 [.slice a l.length c] (α:=Nat×BS) (fun x=> .pointer (some ⟨x.1,0,none⟩)) (fun x=>pu (x.2.l=l)::aF x.1 (.cells (bf.mk x.2 ((0:Nat):Int)).cells 192 (0,0))::row (.slice x.2.a x.2.l.length x.2.c) 5 1 (aE x.2.l)::H):=by
 refine al func58 rfl ntmps58 rfl (gG ?_);refine ze rfl (zc (jc hl) rfl (fun x4=>?_));refine zq (aA [(0,.slice _ _ _)] rfl kr) rfl ?_;refine ze rfl (aZ rfl (fun b6=>gG ?_));exact zX (b6,⟨x4.a,x4.c,l⟩) [_] results58 ⟨rfl,trivial⟩ rfl (fun w hw=>St.aC (cJ.st (H':=aF b6 (.cells (bf.mk ⟨x4.a,x4.c,l⟩ 0).cells 192 (0,0))::row (.slice x4.a l.length x4.c) 5 1 (aE l)::H) inferInstance w hw) rfl)
theorem jW[rb:dT w0 H (.slice b.a b.l.length b.c) b.l](hk:k<=b.l.length)(hl:b.l.length<=4294967296){n:Int}:CT prog w0 (aF p (.cells (bf.mk b (k:Int)).cells 192 (0,0))::H) 112 [.pointer (some ⟨p,0,none⟩),.int .i64 n] (α:=Unit) (fun _=> .tuple #[.int .u64 ((bx (b.l.drop k) n).2.1:Int),.int .i64 (bx (b.l.drop k) n).1]) (fun _=>aF p (.cells (bf.mk b ((k+(bx (b.l.drop k) n).2.2:Nat):Int)).cells 192 (0,0))::H):=by
 refine al func112 rfl ntmps112 rfl (gG ?_);refine Zw ?_;refine yC ?_ ?_<;>intro h7 p7
 ·
  cases h7
 refine gG ?_;refine ze rfl (zc (Iu) rfl (fun x12=>gG ?_));refine yC ?_ ?_<;>intro h10 p10<;>refine gG ?_
 ·have e:bx (b.l.drop k) n=(15,0,0):=by unfold bx;rw[if_pos afs]
  simp only[e];exact ad2
 refine ze rfl (zc (wK hk hl) rfl (fun x16=>gG ?_));refine yC ?_ ?_<;>intro h14 p14
 ·refine gG ?_;have e:bx (b.l.drop k) n=(1,0,0):=by unfold bx;rw[if_neg afs,if_pos so]
  simp only[e];exact ad2
 have hw4:=o9 (n:=n) afs;obtain⟨n,rfl⟩:=Xl (show 0<=n by omega);have hdl:(b.l.drop k).length=b.l.length-k:=sm;have hkn:k+n<=b.l.length:=om;refine gG ?_;refine bH [6,20,21,22,23,24,25,26,27,28,29,30,31,32,33,34,35,36,37,38,39,40,41,42,43] [20,6] (fun us H'=>∃(i:Nat),us=[.int .i64 (i:Int),.int .u64 ((si ((b.l.drop k).take i):Nat):Int)]/\aF p (.cells (bf.mk b ((k+i:Nat):Int)).cells 192 (0,0))::H=H'/\i<=n) (fun us=>match us with| .int _ i::_=>n-i.toNat|_=>0) ⟨0,rfl,rfl,om⟩ SB ?_;rintro τ0 _ _ ⟨i,rfl,rfl,hi0⟩ _;refine gG ?_;refine yC ?_ ?_<;>intro h21 p21
 ·have hin:i<n:=om;have hki:k+i<b.l.length:=om;have hsn:si ((b.l.drop k).take (i+1))=si ((b.l.drop k).take i)*256+b.l[k+i].toNat:=by
   rw[Xf om,uY];simp
  have hlt:si ((b.l.drop k).take i)<256^7:=Nat.lt_of_lt_of_le (D8 _) (X8 dc so);have hc8:=b.l[k+i].toNat_lt;refine gG ?_;refine dv [(0,true),(1,true),(2,true),(3,true),(4,true),(5,true),(6,true),(7,true),(8,true),(9,true),(10,true),(11,true),(12,true),(13,true),(14,true)] (fun hns0=>?_);refine zd hns0 rfl (zm (.int .u64 _) rfl) rfl (zd hns0 rfl (Lb rfl rfl (by have:(256:Nat)^7=72057594037927936:=dc;omega)) rfl (zd hns0 rfl (zm (.pointer _) rfl) rfl (zd hns0 rfl (aN rfl) rfl (zd hns0 rfl (zf 0 rfl rfl) rfl (zd hns0 rfl (zl rfl) rfl (zd hns0 rfl (zm (.pointer _) rfl) rfl (zd hns0 rfl (aN rfl) rfl ?_)))))));refine zd hns0 rfl (zf 1 rfl rfl) rfl (zd hns0 rfl (zl rfl) rfl (zd hns0 rfl (bj rfl rfl om so) rfl (zd hns0 rfl (bC (.int .u8 (b.l[k+i].toNat:Int)) rfl (eO _ _ hki)) rfl (zd hns0 rfl (cV rfl rfl underlying58 om om) rfl (zd hns0 rfl (zP rfl rfl rfl (by have:(256:Nat)^7=72057594037927936:=dc;show _<2^64;omega) (by show _<2^64;omega)) rfl ?_)))));rw[show si ((b.l.drop k).take i)*2^8|||b.l[k+i].toNat=si ((b.l.drop k).take (i+1))from by rw[u5 _ _ 8 hc8,hsn]];refine zd hns0 rfl (za (.int .u64 _) rfl) rfl (gz (zx (zR (zq (zm (.pointer _) rfl) rfl (zq (aN rfl) rfl (zq (zf 1 rfl rfl) rfl (zq (zl rfl) rfl ?_)))))))
  first|refine yP rfl rfl ?_|refine zq (bU rfl rfl) rfl ?_
  rw[show((k+i:Nat):Int)+1=((k+(i+1):Nat):Int)from rfl];refine gG ?_;refine aaI ?_;refine bW _ zA (⟨i+1,rfl,rfl,om⟩) adH (SB)
 have hi:i=n:=om;subst hi;refine gG ?_;refine Za ?_;have e:bx (b.l.drop k) (i:Int)=(0,si ((b.l.drop k).take i),i):=by unfold bx;rw[if_neg afs,if_neg om];rfl
 simp only[e];exact ad2
theorem CX(hi:i<10)(h:l.length<=i):pk l (10-i) i x=(1,0,0):=by
 obtain⟨f,hf⟩:∃f,10-i=f+1:=⟨9-i,om⟩;rw[hf,pk,XT h]
theorem M5{c:UInt8}(hi:i<10)(h:l[i]? =some c):pk l (10-i) i x=if i=9/\1<c.toNat then(2,0,0)
     else if c.toNat<128 then(if c.toNat=0/\0<i then(2,0,0)else(0,x+c.toNat%128*128^i,i+1))
     else pk l (10-(i+1)) (i+1) (x+c.toNat%128*128^i):=by
 obtain⟨f,hf⟩:∃f,10-i=f+1:=⟨9-i,om⟩;rw[hf,pk,h,show 10-(i+1)=f by omega]
theorem Kh(c:Nat):c&&& 127=c%128:=Nat.and_two_pow_sub_one_eq_mod c 7
theorem uF{c:Nat}(hi:i<10)(hx:x<128^i)(h9:i=9->c<=1):x<2^64/\c%128*2^(7*i)<2^64/\x+c%128*128^i<128^(i+1):=by
 have e:(2:Nat)^(7*i)=128^i:=by rw[Nat.pow_mul]
 have h1:(128:Nat)^i<=128^9:=X8 dc om;have h3:(128:Nat)^9=9223372036854775808:=dc;have h2:=Xp (128^i) (show c%128<=127 by omega);refine⟨om,?_,by rw[X3];omega⟩;rw[e];by_cases hi9:i=9
 · have:=h9 hi9
   subst hi9;have:c%128<=1:=om;rw[h3];omega
 · have h4:(128:Nat)^i<=128^8:=X8 dc om
   have h5:(128:Nat)^8=72057594037927936:=dc;omega
theorem uZ[rb:dT w0 H (.slice b.a b.l.length b.c) b.l](hk:k<=b.l.length)(hl:b.l.length<=4294967296):CT prog w0 (aF p (.cells (bf.mk b (k:Int)).cells 192 (0,0))::H) 189 [.pointer (some ⟨p,0,none⟩)] (α:=Unit) (fun _=> .tuple #[.int .u64 ((aq (b.l.drop k)).2.1:Int),.int .i64 (aq (b.l.drop k)).1]) (fun _=>aF p (.cells (bf.mk b ((k+(aq (b.l.drop k)).2.2:Nat):Int)).cells 192 (0,0))::H):=by
 refine al func189 rfl ntmps189 rfl (gG ?_);refine Zw ?_;refine yC ?_ ?_<;>intro h8 p8
 ·
  cases h8
 refine gG ?_;refine bH [2,3,4,5,6,9,10,11,12,13,14,15,16,17,18,19,20,21,22,23,24,25,26,27,28,29,30,31,32,33,34,35,36,37,38,39,40,41,42,43,44,45,46,47,48,49,50,51,52,53,54,55,56,57,58,59,60,61,62,63,64,65,66,67,68] [9,4] (fun us H'=>∃(i:Nat)(x:Nat),us=[.int .i64 (i:Int),.int .u64 (x:Int)]/\aF p (.cells (bf.mk b (k:Int)).cells 192 (0,0))::H=H'/\i<=10/\(x<128^i)/\(aq (b.l.drop k)=pk (b.l.drop k) (10-i) i x)) (fun us=>match us with| .int _ i::_=>10-i.toNat|_=>0) ⟨0,0,rfl,rfl,om,sm,rfl⟩ SB ?_;rintro τ0 _ _ ⟨i,x,rfl,rfl,hi0,hx,hpk⟩ _;refine gG ?_;refine yC ?_ ?_<;>intro h10 p10
 ·have hi10:i<10:=om;refine gG ?_;refine dv [(0,true),(1,true),(2,true),(3,true),(4,true),(5,true),(6,true),(7,true),(8,true),(9,true),(10,true),(11,true)] (fun hns0=>?_);refine gA ?_;refine yC ?_ ?_<;>intro h23 p23
  ·refine gG ?_;refine Zd ?_;have e:aq (b.l.drop k)=(1,0,0):=hpk.trans (CX hi10 so);simp only[e];exact abm
  have hki:k+i<b.l.length:=om;have hgc:(b.l.drop k)[i]? =some b.l[k+i]:=by rw[Yw,WW hki]
  have hat:=M5 (x:=x) hi10 hgc;have hc8:=b.l[k+i].toNat_lt;refine gG ?_;refine dv [(0,true),(1,true),(2,true),(3,true),(4,true),(5,true),(6,true),(7,true),(8,true),(9,true),(10,true),(11,true),(12,true)] (fun hns1=>?_);refine zd hns1 rfl (zm (.pointer _) rfl) rfl (zd hns1 rfl (aN rfl) rfl (zd hns1 rfl (zf 0 rfl rfl) rfl (zd hns1 rfl (zl rfl) rfl (zd hns1 rfl (zm (.pointer _) rfl) rfl (zd hns1 rfl (aN rfl) rfl (zd hns1 rfl (zf 1 rfl rfl) rfl (zd hns1 rfl (zl rfl) rfl ?_)))))));refine ahF ?_
  first|refine zd hns1 rfl (gh rfl rfl om om) rfl ?_|refine zd hns1 rfl (bU rfl rfl) rfl ?_
  refine zd hns1 rfl (bj rfl rfl om so) rfl (zd hns1 rfl (bC (.int .u8 (b.l[k+i].toNat:Int)) rfl (eO _ _ hki)) rfl ?_);refine gA ?_;refine yS 38 ?_ ?_<;>intro h38 p38<;>refine gG ?_
  ·refine yC ?_ ?_<;>intro h41 p41
   ·have hc41:i=9/\1<b.l[k+i].toNat:=by first|omega|(simp_all;done)|(simp_all;omega)
    refine gG ?_;refine Zd ?_;have e:aq (b.l.drop k)=(2,0,0):=hpk.trans (by rw[hat,if_pos hc41]);simp only[e];exact abm
   have hn41:¬(i=9/\1<b.l[k+i].toNat):=aaL;obtain⟨hr1,hr2,hr3⟩:=uF (c:=b.l[k+i].toNat) hi10 hx om;refine gG ?_;refine zq (oh (b:=127) rfl rfl rfl (by show _<2^8;omega) dc) rfl ?_;rw[Kh];refine ZH ?_
   first|refine zq (mG rfl rfl om om) rfl ?_|refine zq (gq rfl rfl) rfl ?_
   rw[show(7:Int)*(i:Int)=((7*i:Nat):Int)from by omega];refine zq (A5 (m:=7*i) rfl er (by show 7*i<=64;omega) hr2 rfl) rfl (zq (zP rfl rfl rfl hr1 hr2) rfl ?_);rw[FT _ _ (7*i) (by rw[Nat.pow_mul];exact hx),show(2:Nat)^(7*i)=128^i from by rw[Nat.pow_mul]];refine gG ?_;refine yC ?_ ?_<;>intro h51 p51
   ·have hlt:b.l[k+i].toNat<128:=om;refine gG ?_;refine yS 54 ?_ ?_<;>intro h54 p54<;>refine gG ?_
    ·refine yC ?_ ?_<;>intro h57 p57
     ·have hc57:b.l[k+i].toNat=0/\0<i:=by first|omega|(simp_all;done)|(simp_all;omega)
      refine gG ?_;refine Zd ?_;have e:aq (b.l.drop k)=(2,0,0):=hpk.trans aii;simp only[e];exact abm
     have hn57:¬(b.l[k+i].toNat=0/\0<i):=aaL;refine abg ?_;refine adg ?_
     first|refine yP rfl rfl ?_|refine zq (bU rfl rfl) rfl ?_
     first|refine yP rfl rfl ?_|refine zq (bU rfl rfl) rfl ?_
     rw[show(k:Int)+((i:Int)+1)=((k+(i+1):Nat):Int)from rfl];refine gG ?_;refine aax ?_;refine Zd ?_;have e:aq (b.l.drop k)=(0,x+b.l[k+i].toNat%128*128^i,i+1):=hpk.trans adT;simp only[e];exact abm
    refine bM rfl rfl ?_;have hn57:¬(b.l[k+i].toNat=0/\0<i):=aaL;refine abg ?_;refine adg ?_
    first|refine yP rfl rfl ?_|refine zq (bU rfl rfl) rfl ?_
    first|refine yP rfl rfl ?_|refine zq (bU rfl rfl) rfl ?_
    rw[show(k:Int)+((i:Int)+1)=((k+(i+1):Nat):Int)from rfl];refine gG ?_;refine aax ?_;refine Zd ?_;have e:aq (b.l.drop k)=(0,x+b.l[k+i].toNat%128*128^i,i+1):=hpk.trans adT;simp only[e];exact abm
   have hge:¬b.l[k+i].toNat<128:=om;rw[if_neg hn41,if_neg hge]at hat;refine gA ?_;refine bW _ zA (⟨i+1,_,rfl,rfl,om,hr3,hpk.trans hat⟩) ahT (SB)
  refine bM rfl rfl ?_;have hn41:¬(i=9/\1<b.l[k+i].toNat):=aaL;obtain⟨hr1,hr2,hr3⟩:=uF (c:=b.l[k+i].toNat) hi10 hx om;refine gG ?_;refine zq (oh (b:=127) rfl rfl rfl (by show _<2^8;omega) dc) rfl ?_;rw[Kh];refine ZH ?_
  first|refine zq (mG rfl rfl om om) rfl ?_|refine zq (gq rfl rfl) rfl ?_
  rw[show(7:Int)*(i:Int)=((7*i:Nat):Int)from by omega];refine zq (A5 (m:=7*i) rfl er (by show 7*i<=64;omega) hr2 rfl) rfl (zq (zP rfl rfl rfl hr1 hr2) rfl ?_);rw[FT _ _ (7*i) (by rw[Nat.pow_mul];exact hx),show(2:Nat)^(7*i)=128^i from by rw[Nat.pow_mul]];refine gG ?_;refine yC ?_ ?_<;>intro h51 p51
  ·have hlt:b.l[k+i].toNat<128:=om;refine gG ?_;refine yS 54 ?_ ?_<;>intro h54 p54<;>refine gG ?_
   ·refine yC ?_ ?_<;>intro h57 p57
    ·have hc57:b.l[k+i].toNat=0/\0<i:=by first|omega|(simp_all;done)|(simp_all;omega)
     refine gG ?_;refine Zd ?_;have e:aq (b.l.drop k)=(2,0,0):=hpk.trans aii;simp only[e];exact abm
    have hn57:¬(b.l[k+i].toNat=0/\0<i):=aaL;refine abg ?_;refine adg ?_
    first|refine yP rfl rfl ?_|refine zq (bU rfl rfl) rfl ?_
    first|refine yP rfl rfl ?_|refine zq (bU rfl rfl) rfl ?_
    rw[show(k:Int)+((i:Int)+1)=((k+(i+1):Nat):Int)from rfl];refine gG ?_;refine aax ?_;refine Zd ?_;have e:aq (b.l.drop k)=(0,x+b.l[k+i].toNat%128*128^i,i+1):=hpk.trans adT;simp only[e];exact abm
   refine bM rfl rfl ?_;have hn57:¬(b.l[k+i].toNat=0/\0<i):=aaL;refine abg ?_;refine adg ?_
   first|refine yP rfl rfl ?_|refine zq (bU rfl rfl) rfl ?_
   first|refine yP rfl rfl ?_|refine zq (bU rfl rfl) rfl ?_
   rw[show(k:Int)+((i:Int)+1)=((k+(i+1):Nat):Int)from rfl];refine gG ?_;refine aax ?_;refine Zd ?_;have e:aq (b.l.drop k)=(0,x+b.l[k+i].toNat%128*128^i,i+1):=hpk.trans adT;simp only[e];exact abm
  have hge:¬b.l[k+i].toNat<128:=om;rw[if_neg hn41,if_neg hge]at hat;refine gA ?_;refine bW _ zA (⟨i+1,_,rfl,rfl,om,hr3,hpk.trans hat⟩) ahT (SB)
 have hi:i=10:=om;subst hi;refine gG ?_;refine Za ?_;have e:aq (b.l.drop k)=(2,0,0):=hpk.trans (rfl);simp only[e];exact abm
theorem sg[rb:dT w0 H (.slice b.a b.l.length b.c) b.l](hk:k<=b.l.length)(hl:b.l.length<=4294967296)(hm:m<=9223372036854775807):CT prog w0 (aF p (.cells (bf.mk b (k:Int)).cells 192 (0,0))::H) 110 [.pointer (some ⟨p,0,none⟩),.int .i64 m] (α:=Unit) (fun _=> .tuple #[.int .i64 ((ay (b.l.drop k) m).2.1:Int),.int .i64 (ay (b.l.drop k) m).1]) (fun _=>aF p (.cells (bf.mk b ((k+(ay (b.l.drop k) m).2.2:Nat):Int)).cells 192 (0,0))::H):=by
 refine al func110 rfl ntmps110 rfl (gG ?_);refine Zw ?_;refine yC ?_ ?_<;>intro h10 p10
 ·
  cases h10
 refine gG ?_;refine ze rfl (zc (uZ hk hl) rfl (fun x17=>gG ?_));refine yC ?_ ?_<;>intro h21 p21
 ·have e:ay (b.l.drop k) m=((aq (b.l.drop k)).1,0,0):=if_pos p21;have e2:=rF p21;rw[e2];refine gG ?_;simp only[e];exact ac2
 refine gG ?_;refine yS 25 ?_ ?_<;>intro h25 p25<;>refine gG ?_
 ·refine aI rfl rfl ?_;have h30b:m<0∨m<((aq (b.l.drop k)).2.1:Int):=aaL;have e:ay (b.l.drop k) m=(3,0,0):=by unfold ay;rw[if_neg om,if_pos h30b]
  refine gG ?_;refine aax ?_;simp only[e];exact ac2
 refine ZH ?_;refine yC ?_ ?_<;>intro h30 p30
 ·have h30b:m<0∨m<((aq (b.l.drop k)).2.1:Int):=by first|omega|(simp_all;done)|(simp_all;omega)
  have e:ay (b.l.drop k) m=(3,0,0):=by unfold ay;rw[if_neg om,if_pos h30b]
  refine gG ?_;refine aax ?_;simp only[e];exact ac2
 have h30b:¬(m<0∨m<((aq (b.l.drop k)).2.1:Int)):=aaL;have e:ay (b.l.drop k) m=aq (b.l.drop k):=by unfold ay;rw[if_neg om,if_neg h30b]
 have e0:(aq (b.l.drop k)).1=0:=om;refine gG ?_;refine Zh ?_;simp only[e,e0];exact ac2
theorem kN[rb:dT w0 H (.slice b.a b.l.length b.c) b.l](hk:k<=b.l.length)(hl:b.l.length<=4294967296)(hm:m<=9223372036854775807):CT prog w0 (aF p (.cells (bf.mk b (k:Int)).cells 192 (0,0))::H) 59 [.pointer (some ⟨p,0,none⟩),.int .i64 m] (α:=AC) (fun y=> .tuple #[.slice y.a (au (b.l.drop k) m).2.1.length y.c,.int .i64 (au (b.l.drop k) m).1]) (fun y=>row (.slice y.a (au (b.l.drop k) m).2.1.length y.c) 5 1 (aE (au (b.l.drop k) m).2.1)::aF p (.cells (bf.mk b ((k+(au (b.l.drop k) m).2.2:Nat):Int)).cells 192 (0,0))::H):=by
 refine al func59 rfl ntmps59 rfl (gG ?_);refine Zw ?_;refine yC ?_ ?_<;>intro h10 p10
 ·
  cases h10
 refine gG ?_;obtain⟨hb1,hb2,hb3⟩:=iV (b.l.drop k) m;have hdl:(b.l.drop k).length=b.l.length-k:=sm;rw[hdl]at hb2;refine ze rfl (zc (sg hk hl hm) rfl (fun x18=>gG ?_));refine yC ?_ ?_<;>intro h22 p22
 ·have e:au (b.l.drop k) m=((ay (b.l.drop k) m).1,[],0):=if_pos p22;rw[tL p22];refine gG ?_;simp only[e];exact aer
 have p22b:(ay (b.l.drop k) m).1=0:=om;refine gG ?_;refine ze rfl (zc (wK (k:=k+(ay (b.l.drop k) m).2.2) om hl) rfl (fun x26=>gG ?_));refine yC ?_ ?_<;>intro h27 p27
 ·have e:au (b.l.drop k) m=(1,[],0):=by unfold au;rw[if_neg om,if_pos om]
  refine gG ?_;refine aax ?_;simp only[e];exact aer
 have e:au (b.l.drop k) m=(0,(b.l.drop (k+(ay (b.l.drop k) m).2.2)).take (ay (b.l.drop k) m).2.1,(ay (b.l.drop k) m).2.2+(ay (b.l.drop k) m).2.1):=by unfold au;rw[if_neg om,if_neg om,X2]
 refine abg ?_;refine adg ?_
 first|refine yP rfl rfl ?_|refine zq (bU rfl rfl) rfl ?_
 rw[show((k+(ay (b.l.drop k) m).2.2:Nat):Int)+((ay (b.l.drop k) m).2.1:Int)=((k+((ay (b.l.drop k) m).2.2+(ay (b.l.drop k) m).2.1):Nat):Int)from by omega];refine gG ?_;refine aax ?_;refine dv [(0,true),(1,true),(2,true),(3,true),(4,true),(5,true),(6,true),(7,true),(8,true),(9,true),(10,true),(11,true),(12,true),(13,true),(14,true),(15,false),(16,true),(17,true)] (fun hns0=>?_);refine zd hns0 rfl (zm (.pointer _) rfl) rfl (zd hns0 rfl (aN rfl) rfl (zd hns0 rfl (zf 0 rfl rfl) rfl (zd hns0 rfl (zl rfl) rfl (zd hns0 rfl (zm (.pointer _) rfl) rfl (zd hns0 rfl (aN rfl) rfl (zd hns0 rfl (zf 1 rfl rfl) rfl (zd hns0 rfl (zl rfl) rfl ?_)))))));refine ads ?_
 first|refine zd hns0 rfl (jG rfl rfl om om) rfl ?_|refine zd hns0 rfl (iq rfl rfl) rfl ?_
 refine zd hns0 rfl (zm (.pointer _) rfl) rfl (zd hns0 rfl (aN rfl) rfl (zd hns0 rfl (zf 1 rfl rfl) rfl (zd hns0 rfl (zl rfl) rfl (zd hns0 rfl (lK (k+(ay (b.l.drop k) m).2.2) (ay (b.l.drop k) m).2.1 rfl (by refine congrArg (Value.int .i64) ?_;omega) (by refine congrArg (Value.int .i64) ?_;omega) om) rfl ?_))));refine cX rfl rfl (zc (jc (l:=(b.l.drop (k+(ay (b.l.drop k) m).2.2)).take (ay (b.l.drop k) m).2.1) so) rfl (fun x55=>⟨SB,(gA ?_)⟩));simp only[e];exact zX x55 [_,_] results59 ⟨rfl,rfl,trivial⟩ rfl SB
end
section
open Go.RowKit Go.Sx
end
end Go.Proofs.YtmbfimckmfnnjaaGreatDoor
