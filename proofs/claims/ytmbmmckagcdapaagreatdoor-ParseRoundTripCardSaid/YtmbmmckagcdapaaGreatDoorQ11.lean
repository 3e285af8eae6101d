import Derived.Test.YtmbmmckagcdapaaGreatDoorChecked
import Derived.Test.YtmbmmckagcdapaaGreatDoorQ09
set_option linter.all false
namespace Go.Proofs.YtmbmmckagcdapaaGreatDoor
open Go.RowKit
theorem pS:gW Tryz.prog 122=some true:=by kernel_rfl
theorem oB:gW Tryz.prog 163=some false:=by kernel_rfl
theorem iR:gW Tryz.prog 165=some true:=by kernel_rfl
theorem Ta:gW Tryz.prog 167=some true:=by kernel_rfl
theorem ML:gW Tryz.prog 198=some true:=by kernel_rfl
theorem vO:gW Tryz.prog 218=some true:=by kernel_rfl
theorem kA:gW Tryz.prog 23=some false:=by kernel_rfl
theorem Af:gW Tryz.prog 24=some false:=by kernel_rfl
theorem xE:gW Tryz.prog 25=some false:=by kernel_rfl
theorem qP:gW Tryz.prog 27=some true:=by kernel_rfl
theorem Ae:gW Tryz.prog 28=some false:=by kernel_rfl
theorem cO:gW Tryz.prog 3=some false:=by kernel_rfl
theorem Or:gW Tryz.prog 34=some false:=by kernel_rfl
theorem jO:gW Tryz.prog 35=some false:=by kernel_rfl
theorem nQ:gW Tryz.prog 37=some true:=by kernel_rfl
theorem Oq:gW Tryz.prog 4=some false:=by kernel_rfl
theorem nP:gW Tryz.prog 43=some false:=by kernel_rfl
theorem hU:gW Tryz.prog 44=some false:=by kernel_rfl
theorem fB:gW Tryz.prog 46=some true:=by kernel_rfl
theorem Oo:gW Tryz.prog 5=some false:=by kernel_rfl
theorem Ei:gW Tryz.prog 52=some false:=by kernel_rfl
theorem Eh:gW Tryz.prog 61=some true:=by kernel_rfl
theorem tX:gW Tryz.prog 69=some false:=by kernel_rfl
theorem tW:gW Tryz.prog 71=some true:=by kernel_rfl
theorem Eg:gW Tryz.prog 76=some true:=by kernel_rfl
theorem On:gW Tryz.prog 84=some false:=by kernel_rfl
theorem dR:gW Tryz.prog 9=some false:=by kernel_rfl
theorem tV:gW Tryz.prog 91=some false:=by kernel_rfl
theorem qO:gW Tryz.prog 92=some false:=by kernel_rfl
theorem gF:gW Tryz.prog 94=some true:=by kernel_rfl
theorem Ad:gW Tryz.prog 96=some true:=by kernel_rfl
theorem Sz:jI Tryz.prog 120=some [.im (.string ByteArray.empty),.im (.int .i64 0),.im (.int .i64 0),.sl [] .nl]:=by kernel_rfl
theorem kM:jI Tryz.prog 122=some [.im (.int .i64 0),.im (.string ByteArray.empty),.im (.int .u32 0),.im (.int .i64 0),.im (.int .i64 0)]:=by kernel_rfl
theorem Ib:jI Tryz.prog 133=some [.sl [] .nl,.im (.int .i64 0),.im (.int .i64 0)]:=by kernel_rfl
theorem MK:jI Tryz.prog 162=some [.im .nilFunc,.sl [] .nl,.sl [] .nl,.sl [] .nl]:=by kernel_rfl
theorem MJ:jI Tryz.prog 163=some [.sl [] .nl]:=by kernel_rfl
theorem kL:jI Tryz.prog 165=some [.im (.int .i64 0),.im (.int .i64 0),.im (.string ByteArray.empty),.sl [] .nl,.sl [] .nl,.sl [] .nl,.sl [] .nl]:=by kernel_rfl
theorem Ia:jI Tryz.prog 167=some [.im (.int .i64 0),.im (.int .i64 0),.im (.string ByteArray.empty),.sl [] .nl,.sl [] .nl,.sl [] .nl,.sl [] .nl,.im (.bool false)]:=by kernel_rfl
theorem Sy:jI Tryz.prog 198=some [.im (.string ByteArray.empty),.im (.int .i64 0)]:=by kernel_rfl
theorem MI:jI Tryz.prog 206=some [.im (.pointer none),.sl [] .nl]:=by kernel_rfl
theorem sD:jI Tryz.prog 218=some [.im (.int .i64 0),.im (.int .i64 0),.im (.int .i64 0),.im (.int .i64 0),.sl [] .nl,.sl [] .nl]:=by kernel_rfl
theorem RR:jI Tryz.prog 23=some [.sl [] .nl]:=by kernel_rfl
theorem MH:jI Tryz.prog 244=some [.im (.string ByteArray.empty),.im (.int .i64 0),.im (.string ByteArray.empty),.im (.int .i64 0),.im (.string ByteArray.empty),.im (.int .i64 0),.im (.string ByteArray.empty),.im (.int .i64 0),.im (.string ByteArray.empty),.im (.int .i64 0),.im (.string ByteArray.empty),.im (.int .i64 0),.im (.string ByteArray.empty),.im (.int .i64 0),.im (.string ByteArray.empty),.im (.int .i64 0),.im (.string ByteArray.empty),.im (.int .i64 0),.im (.string ByteArray.empty),.im (.int .i64 0),.im (.string ByteArray.empty),.im (.int .i64 0),.im (.string ByteArray.empty),.im (.int .i64 0),.im (.string ByteArray.empty),.im (.int .i64 0)]:=by kernel_rfl
theorem MG:jI Tryz.prog 254=some [.im (.int .u8 0),.im (.int .u8 0),.im (.int .u8 0),.im (.int .u8 0),.im (.int .u8 0),.im (.int .u8 0),.im (.int .u8 0),.im (.int .u8 0),.im (.int .u8 0),.im (.int .u8 0),.im (.int .u8 0),.im (.int .u8 0),.im (.int .u8 0),.im (.int .u8 0),.im (.int .u8 0),.im (.int .u8 0),.im (.int .u8 0),.im (.int .u8 0),.im (.int .u8 0),.im (.int .u8 0),.im (.int .u8 0),.im (.int .u8 0),.im (.int .u8 0),.im (.int .u8 0)]:=by kernel_rfl
theorem tU:jI Tryz.prog 27=some [.sl [] .nl,.sl [] .nl,.sl [] .nl]:=by kernel_rfl
theorem MF:jI Tryz.prog 281=some [.im (.int .u8 0),.im (.int .u8 0),.im (.int .u8 0),.im (.int .u8 0),.im (.int .u8 0),.im (.int .u8 0),.im (.int .u8 0),.im (.int .u8 0),.im (.int .u8 0),.im (.int .u8 0),.im (.int .u8 0),.im (.int .u8 0),.im (.int .u8 0),.im (.int .u8 0),.im (.int .u8 0),.im (.int .u8 0),.im (.int .u8 0),.im (.int .u8 0),.im (.int .u8 0),.im (.int .u8 0),.im (.int .u8 0),.im (.int .u8 0),.im (.int .u8 0),.im (.int .u8 0),.im (.int .u8 0),.im (.int .u8 0),.im (.int .u8 0),.im (.int .u8 0),.im (.int .u8 0),.im (.int .u8 0),.im (.int .u8 0),.im (.int .u8 0),.im (.int .u8 0),.im (.int .u8 0),.im (.int .u8 0),.im (.int .u8 0),.im (.int .u8 0),.im (.int .u8 0),.im (.int .u8 0),.im (.int .u8 0),.im (.int .u8 0),.im (.int .u8 0),.im (.int .u8 0),.im (.int .u8 0),.im (.int .u8 0),.im (.int .u8 0),.im (.int .u8 0),.im (.int .u8 0),.im (.int .u8 0),.im (.int .u8 0),.im (.int .u8 0),.im (.int .u8 0),.im (.int .u8 0),.im (.int .u8 0),.im (.int .u8 0),.im (.int .u8 0),.im (.int .u8 0),.im (.int .u8 0),.im (.int .u8 0),.im (.int .u8 0),.im (.int .u8 0),.im (.int .u8 0),.im (.int .u8 0),.im (.int .u8 0),.im (.int .u8 0)]:=by kernel_rfl
theorem Om:jI Tryz.prog 35=some [.sl [] .nl]:=by kernel_rfl
theorem tT:jI Tryz.prog 37=some [.im (.string ByteArray.empty),.sl [] .nl,.sl [] .nl]:=by kernel_rfl
theorem kR:jI Tryz.prog 46=some [.im (.int .i64 0),.im (.int .u32 0),.im (.string ByteArray.empty),.im (.int .i64 0),.sl [] .nl]:=by kernel_rfl
theorem Hz:jI Tryz.prog 5=some [.im (.int .u8 0)]:=by kernel_rfl
theorem nO:jI Tryz.prog 61=some [.im (.int .i64 0),.im (.int .i64 0)]:=by kernel_rfl
theorem Ol:jI Tryz.prog 73=some [.im (.pointer none),.sl [] .nl,.im (.int .i64 0)]:=by kernel_rfl
theorem Ef:jI Tryz.prog 76=some [.im (.string ByteArray.empty),.im (.int .u32 0),.sl [] .nl,.im (.bool false),.im (.bool false)]:=by kernel_rfl
theorem mJ:jI Tryz.prog 9=some [.im (.string ByteArray.empty)]:=by kernel_rfl
theorem Ac:jI Tryz.prog 94=some [.im (.int .i64 0),.im (.int .i64 0),.im (.int .i64 0),.sl [] .nl,.sl [] .nl]:=by kernel_rfl
theorem qN:jI Tryz.prog 96=some [.im (.string ByteArray.empty),.im (.int .i64 0),.im (.int .i64 0),.im (.int .i64 0),.sl [] .nl,.sl [] .nl]:=by kernel_rfl
theorem ME:Hh Tryz.prog 244=some (13,198):=by kernel_rfl
theorem MD:Hh Tryz.prog 281=some (65,5):=by kernel_rfl
theorem Sx:Di Tryz.prog 122=some 48:=by kernel_rfl
theorem MC:Di Tryz.prog 165=some 128:=by kernel_rfl
theorem MB:Di Tryz.prog 167=some 136:=by kernel_rfl
theorem MA:Di Tryz.prog 218=some 80:=by kernel_rfl
theorem Zg:Di Tryz.prog 35=some 24:=by kernel_rfl
theorem RQ:Di Tryz.prog 37=some 64:=by kernel_rfl
theorem Hy:Di Tryz.prog 5=some 1:=by kernel_rfl
theorem RP:Di Tryz.prog 76=some 56:=by kernel_rfl
theorem Wo:Di Tryz.prog 9=some 16:=by kernel_rfl
theorem Ab:Di Tryz.prog 96=some 88:=by kernel_rfl
theorem Hx:eN Tryz.prog 157=some 167:=by kernel_rfl
theorem lA:eN Tryz.prog 163=some 35:=by kernel_rfl
theorem Sw:eN Tryz.prog 215=some 23:=by kernel_rfl
theorem jZ:eN Tryz.prog 23=some 96:=by kernel_rfl
theorem tS:eN Tryz.prog 24=some 76:=by kernel_rfl
theorem xD:eN Tryz.prog 25=some 37:=by kernel_rfl
theorem Sv:eN Tryz.prog 283=some 163:=by kernel_rfl
theorem oV:eN Tryz.prog 35=some 165:=by kernel_rfl
theorem gM:eN Tryz.prog 44=some 46:=by kernel_rfl
theorem oU:eN Tryz.prog 52=some 122:=by kernel_rfl
theorem lH:eN Tryz.prog 69=some 5:=by kernel_rfl
theorem jN:eN Tryz.prog 84=some 9:=by kernel_rfl
theorem qM:eN Tryz.prog 91=some 94:=by kernel_rfl
theorem qL:eN Tryz.prog 92=some 218:=by kernel_rfl
theorem nB:dZ Tryz.prog 120 0=some (0,9):=by kernel_rfl
theorem yO:dZ Tryz.prog 120 1=some (1,3):=by kernel_rfl
theorem yN:dZ Tryz.prog 120 2=some (2,3):=by kernel_rfl
theorem Hw:dZ Tryz.prog 120 3=some (3,52):=by kernel_rfl
theorem lP:dZ Tryz.prog 122 0=some (0,3):=by kernel_rfl
theorem nA:dZ Tryz.prog 122 1=some (1,9):=by kernel_rfl
theorem pR:dZ Tryz.prog 122 2=some (2,43):=by kernel_rfl
theorem yM:dZ Tryz.prog 122 3=some (3,3):=by kernel_rfl
theorem yL:dZ Tryz.prog 122 4=some (4,3):=by kernel_rfl
theorem Hv:dZ Tryz.prog 133 0=some (0,52):=by kernel_rfl
theorem fP:dZ Tryz.prog 133 1=some (1,3):=by kernel_rfl
theorem tR:dZ Tryz.prog 133 2=some (2,3):=by kernel_rfl
theorem Wn:dZ Tryz.prog 162 0=some (0,34):=by kernel_rfl
theorem Wm:dZ Tryz.prog 162 1=some (1,84):=by kernel_rfl
theorem Hu:dZ Tryz.prog 162 2=some (2,84):=by kernel_rfl
theorem Wl:dZ Tryz.prog 162 3=some (3,84):=by kernel_rfl
theorem iV:dZ Tryz.prog 165 0=some (0,3):=by kernel_rfl
theorem yK:dZ Tryz.prog 165 1=some (1,3):=by kernel_rfl
theorem mZ:dZ Tryz.prog 165 2=some (2,9):=by kernel_rfl
theorem iD:dZ Tryz.prog 165 3=some (3,44):=by kernel_rfl
theorem lO:dZ Tryz.prog 165 4=some (4,35):=by kernel_rfl
theorem lN:dZ Tryz.prog 165 5=some (5,35):=by kernel_rfl
theorem lM:dZ Tryz.prog 165 6=some (6,163):=by kernel_rfl
theorem yJ:dZ Tryz.prog 167 0=some (0,165):=by kernel_rfl
theorem Wj:dZ Tryz.prog 167 1=some (7,4):=by kernel_rfl
theorem Wi:dZ Tryz.prog 198 0=some (0,9):=by kernel_rfl
theorem Ht:dZ Tryz.prog 198 1=some (1,3):=by kernel_rfl
theorem yI:dZ Tryz.prog 206 0=some (0,71):=by kernel_rfl
theorem tQ:dZ Tryz.prog 218 0=some (0,3):=by kernel_rfl
theorem lL:dZ Tryz.prog 218 1=some (1,94):=by kernel_rfl
theorem lV:dZ Tryz.prog 27 0=some (0,23):=by kernel_rfl
theorem pC:dZ Tryz.prog 27 1=some (1,24):=by kernel_rfl
theorem mY:dZ Tryz.prog 27 2=some (2,25):=by kernel_rfl
theorem xC:dZ Tryz.prog 37 0=some (0,9):=by kernel_rfl
theorem mX:dZ Tryz.prog 37 1=some (1,23):=by kernel_rfl
theorem pB:dZ Tryz.prog 37 2=some (2,35):=by kernel_rfl
theorem pA:dZ Tryz.prog 46 0=some (0,3):=by kernel_rfl
theorem Cj:dZ Tryz.prog 46 1=some (1,43):=by kernel_rfl
theorem xB:dZ Tryz.prog 46 2=some (2,9):=by kernel_rfl
theorem Ci:dZ Tryz.prog 46 3=some (3,3):=by kernel_rfl
theorem lU:dZ Tryz.prog 46 4=some (4,44):=by kernel_rfl
theorem EA:dZ Tryz.prog 61 0=some (0,3):=by kernel_rfl
theorem sC:dZ Tryz.prog 61 1=some (1,28):=by kernel_rfl
theorem La:dZ Tryz.prog 71 1=some (1,69):=by kernel_rfl
theorem xA:dZ Tryz.prog 73 0=some (0,71):=by kernel_rfl
theorem sB:dZ Tryz.prog 73 1=some (2,3):=by kernel_rfl
theorem wZ:dZ Tryz.prog 76 0=some (0,9):=by kernel_rfl
theorem Kz:dZ Tryz.prog 76 1=some (1,43):=by kernel_rfl
theorem sA:dZ Tryz.prog 76 2=some (2,69):=by kernel_rfl
theorem Ch:dZ Tryz.prog 76 3=some (3,4):=by kernel_rfl
theorem Cg:dZ Tryz.prog 76 4=some (4,4):=by kernel_rfl
theorem rZ:dZ Tryz.prog 94 0=some (0,3):=by kernel_rfl
theorem wY:dZ Tryz.prog 94 1=some (1,3):=by kernel_rfl
theorem wX:dZ Tryz.prog 94 2=some (2,3):=by kernel_rfl
theorem mW:dZ Tryz.prog 94 3=some (3,91):=by kernel_rfl
theorem jU:dZ Tryz.prog 94 4=some (4,92):=by kernel_rfl
theorem rY:dZ Tryz.prog 96 0=some (0,9):=by kernel_rfl
theorem mV:dZ Tryz.prog 96 1=some (1,94):=by kernel_rfl
theorem rX:sP Tryz.prog 145=some .u64:=by kernel_rfl
theorem Hs:sP Tryz.prog 146=some .u64:=by kernel_rfl
theorem Zf:sP Tryz.prog 21=some .i32:=by kernel_rfl
theorem vN:sP Tryz.prog 3=some .i64:=by kernel_rfl
theorem tP:sP Tryz.prog 43=some .u32:=by kernel_rfl
theorem Oj:sP Tryz.prog 5=some .u8:=by kernel_rfl
theorem tO:sP Tryz.prog 69=none:=by kernel_rfl
theorem yH:sP Tryz.prog 9=none:=by kernel_rfl
theorem Su:qT Tryz.prog 120=some [(0,1),(1,1),(2,1),(3,1)]:=by kernel_rfl
theorem vM:qT Tryz.prog 122=some [(0,1),(1,1),(2,1),(3,1),(4,1)]:=by kernel_rfl
theorem Hr:qT Tryz.prog 133=some [(0,1),(1,1),(2,1)]:=by kernel_rfl
theorem LZ:qT Tryz.prog 162=some [(0,1),(1,1),(2,1),(3,1)]:=by kernel_rfl
theorem Aa:qT Tryz.prog 165=some [(0,1),(1,1),(2,1),(3,1),(4,1),(5,1),(6,1)]:=by kernel_rfl
theorem LY:qT Tryz.prog 167=some [(0,7),(7,1)]:=by kernel_rfl
theorem LX:qT Tryz.prog 198=some [(0,1),(1,1)]:=by kernel_rfl
theorem LW:qT Tryz.prog 206=some [(0,2)]:=by kernel_rfl
theorem LV:qT Tryz.prog 218=some [(0,1),(1,5)]:=by kernel_rfl
theorem Ze:qT Tryz.prog 27=some [(0,1),(1,1),(2,1)]:=by kernel_rfl
theorem Zd:qT Tryz.prog 37=some [(0,1),(1,1),(2,1)]:=by kernel_rfl
theorem zZ:qT Tryz.prog 46=some [(0,1),(1,1),(2,1),(3,1),(4,1)]:=by kernel_rfl
theorem Ee:qT Tryz.prog 61=some [(0,1),(1,1)]:=by kernel_rfl
theorem Oi:qT Tryz.prog 73=some [(0,2),(2,1)]:=by kernel_rfl
theorem RO:qT Tryz.prog 76=some [(0,1),(1,1),(2,1),(3,1),(4,1)]:=by kernel_rfl
theorem Ed:qT Tryz.prog 94=some [(0,1),(1,1),(2,1),(3,1),(4,1)]:=by kernel_rfl
theorem RN:qT Tryz.prog 96=some [(0,1),(1,5)]:=by kernel_rfl
theorem gU:szOf Tryz.prog 122=some 5:=by kernel_rfl
theorem oA:szOf Tryz.prog 163=some 1:=by kernel_rfl
theorem gT:szOf Tryz.prog 165=some 7:=by kernel_rfl
theorem Hq:szOf Tryz.prog 167=some 8:=by kernel_rfl
theorem Ss:szOf Tryz.prog 198=some 2:=by kernel_rfl
theorem nZ:szOf Tryz.prog 218=some 6:=by kernel_rfl
theorem iZ:szOf Tryz.prog 23=some 1:=by kernel_rfl
theorem wW:szOf Tryz.prog 24=some 1:=by kernel_rfl
theorem LU:szOf Tryz.prog 244=some 26:=by kernel_rfl
theorem tN:szOf Tryz.prog 25=some 1:=by kernel_rfl
theorem oT:szOf Tryz.prog 27=some 3:=by kernel_rfl
theorem zY:szOf Tryz.prog 28=some 1:=by kernel_rfl
theorem cN:szOf Tryz.prog 3=some 1:=by kernel_rfl
theorem Oh:szOf Tryz.prog 34=some 1:=by kernel_rfl
theorem iQ:szOf Tryz.prog 35=some 1:=by kernel_rfl
theorem lG:szOf Tryz.prog 37=some 3:=by kernel_rfl
theorem Og:szOf Tryz.prog 4=some 1:=by kernel_rfl
theorem nN:szOf Tryz.prog 43=some 1:=by kernel_rfl
theorem hM:szOf Tryz.prog 44=some 1:=by kernel_rfl
theorem dK:szOf Tryz.prog 46=some 5:=by kernel_rfl
theorem rF:szOf Tryz.prog 5=some 1:=by kernel_rfl
theorem Ec:szOf Tryz.prog 52=some 1:=by kernel_rfl
theorem oS:szOf Tryz.prog 61=some 2:=by kernel_rfl
theorem tM:szOf Tryz.prog 69=some 1:=by kernel_rfl
theorem tL:szOf Tryz.prog 71=some 2:=by kernel_rfl
theorem qK:szOf Tryz.prog 76=some 5:=by kernel_rfl
theorem Of:szOf Tryz.prog 84=some 1:=by kernel_rfl
theorem dA:szOf Tryz.prog 9=some 1:=by kernel_rfl
theorem tK:szOf Tryz.prog 91=some 1:=by kernel_rfl
theorem nM:szOf Tryz.prog 92=some 1:=by kernel_rfl
theorem gD:szOf Tryz.prog 94=some 5:=by kernel_rfl
theorem jM:szOf Tryz.prog 96=some 6:=by kernel_rfl
theorem rW:Tryz.prog.underlying 145=some (.int .u64):=by kernel_rfl
theorem Hp:Tryz.prog.underlying 146=some (.int .u64):=by kernel_rfl
theorem Zc:Tryz.prog.underlying 21=some (.int .i32):=by kernel_rfl
theorem RM:Tryz.prog.underlying 24=some (.slice 76):=by kernel_rfl
theorem vL:Tryz.prog.underlying 3=some (.int .i64):=by kernel_rfl
theorem YA:Tryz.prog.underlying 4=some (.bool):=by kernel_rfl
theorem tJ:Tryz.prog.underlying 43=some (.int .u32):=by kernel_rfl
theorem rE:Tryz.prog.underlying 5=some (.int .u8):=by kernel_rfl
theorem tI:Tryz.prog.underlying 69=some (.slice 5):=by kernel_rfl
theorem iC:Tryz.prog.underlying 9=some (.string):=by kernel_rfl
end Go.Proofs.YtmbmmckagcdapaaGreatDoor
