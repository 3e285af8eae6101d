import Derived.Test.YtmbmmckagcdapaaGreatDoorChecked
import Derived.Test.YtmbmmckagcdapaaGreatDoorL09
set_option linter.all false
namespace Go.Proofs.YtmbmmckagcdapaaGreatDoor
open Go.RowKit
theorem rA:gR Tryz.prog 122=some true:=by kernel_rfl
theorem mV:gR Tryz.prog 163=some false:=by kernel_rfl
theorem iJ:gR Tryz.prog 165=some true:=by kernel_rfl
theorem Py:gR Tryz.prog 167=some true:=by kernel_rfl
theorem IZ:gR Tryz.prog 198=some true:=by kernel_rfl
theorem uG:gR Tryz.prog 218=some true:=by kernel_rfl
theorem lT:gR Tryz.prog 23=some false:=by kernel_rfl
theorem Wd:gR Tryz.prog 24=some false:=by kernel_rfl
theorem Lr:gR Tryz.prog 25=some false:=by kernel_rfl
theorem yM:gR Tryz.prog 27=some true:=by kernel_rfl
theorem By:gR Tryz.prog 28=some false:=by kernel_rfl
theorem cL:gR Tryz.prog 3=some false:=by kernel_rfl
theorem Lq:gR Tryz.prog 34=some false:=by kernel_rfl
theorem jC:gR Tryz.prog 35=some false:=by kernel_rfl
theorem sL:gR Tryz.prog 37=some true:=by kernel_rfl
theorem IY:gR Tryz.prog 4=some false:=by kernel_rfl
theorem pP:gR Tryz.prog 43=some false:=by kernel_rfl
theorem gV:gR Tryz.prog 44=some false:=by kernel_rfl
theorem eU:gR Tryz.prog 46=some true:=by kernel_rfl
theorem IX:gR Tryz.prog 5=some false:=by kernel_rfl
theorem Lp:gR Tryz.prog 52=some false:=by kernel_rfl
theorem Bx:gR Tryz.prog 61=some true:=by kernel_rfl
theorem Bw:gR Tryz.prog 69=some false:=by kernel_rfl
theorem vR:gR Tryz.prog 71=some true:=by kernel_rfl
theorem Lo:gR Tryz.prog 76=some true:=by kernel_rfl
theorem Ln:gR Tryz.prog 84=some false:=by kernel_rfl
theorem eC:gR Tryz.prog 9=some false:=by kernel_rfl
theorem sK:gR Tryz.prog 91=some false:=by kernel_rfl
theorem pO:gR Tryz.prog 92=some false:=by kernel_rfl
theorem gH:gR Tryz.prog 94=some true:=by kernel_rfl
theorem yL:gR Tryz.prog 96=some true:=by kernel_rfl
theorem IW:iX Tryz.prog 120=some [.im (.string ByteArray.empty),.im (.int .i64 0),.im (.int .i64 0),.sl [] .nl]:=by kernel_rfl
theorem kM:iX Tryz.prog 122=some [.im (.int .i64 0),.im (.string ByteArray.empty),.im (.int .u32 0),.im (.int .i64 0),.im (.int .i64 0)]:=by kernel_rfl
theorem Fh:iX Tryz.prog 133=some [.sl [] .nl,.im (.int .i64 0),.im (.int .i64 0)]:=by kernel_rfl
theorem IV:iX Tryz.prog 162=some [.im .nilFunc,.sl [] .nl,.sl [] .nl,.sl [] .nl]:=by kernel_rfl
theorem IU:iX Tryz.prog 163=some [.sl [] .nl]:=by kernel_rfl
theorem jV:iX Tryz.prog 165=some [.im (.int .i64 0),.im (.int .i64 0),.im (.string ByteArray.empty),.sl [] .nl,.sl [] .nl,.sl [] .nl,.sl [] .nl]:=by kernel_rfl
theorem Fg:iX Tryz.prog 167=some [.im (.int .i64 0),.im (.int .i64 0),.im (.string ByteArray.empty),.sl [] .nl,.sl [] .nl,.sl [] .nl,.sl [] .nl,.im (.bool false)]:=by kernel_rfl
theorem Px:iX Tryz.prog 198=some [.im (.string ByteArray.empty),.im (.int .i64 0)]:=by kernel_rfl
theorem IT:iX Tryz.prog 206=some [.im (.pointer none),.sl [] .nl]:=by kernel_rfl
theorem qZ:iX Tryz.prog 218=some [.im (.int .i64 0),.im (.int .i64 0),.im (.int .i64 0),.im (.int .i64 0),.sl [] .nl,.sl [] .nl]:=by kernel_rfl
theorem NK:iX Tryz.prog 23=some [.sl [] .nl]:=by kernel_rfl
theorem IS:iX Tryz.prog 244=some [.im (.string ByteArray.empty),.im (.int .i64 0),.im (.string ByteArray.empty),.im (.int .i64 0),.im (.string ByteArray.empty),.im (.int .i64 0),.im (.string ByteArray.empty),.im (.int .i64 0),.im (.string ByteArray.empty),.im (.int .i64 0),.im (.string ByteArray.empty),.im (.int .i64 0),.im (.string ByteArray.empty),.im (.int .i64 0),.im (.string ByteArray.empty),.im (.int .i64 0),.im (.string ByteArray.empty),.im (.int .i64 0),.im (.string ByteArray.empty),.im (.int .i64 0),.im (.string ByteArray.empty),.im (.int .i64 0),.im (.string ByteArray.empty),.im (.int .i64 0),.im (.string ByteArray.empty),.im (.int .i64 0)]:=by kernel_rfl
theorem IR:iX Tryz.prog 254=some [.im (.int .u8 0),.im (.int .u8 0),.im (.int .u8 0),.im (.int .u8 0),.im (.int .u8 0),.im (.int .u8 0),.im (.int .u8 0),.im (.int .u8 0),.im (.int .u8 0),.im (.int .u8 0),.im (.int .u8 0),.im (.int .u8 0),.im (.int .u8 0),.im (.int .u8 0),.im (.int .u8 0),.im (.int .u8 0),.im (.int .u8 0),.im (.int .u8 0),.im (.int .u8 0),.im (.int .u8 0),.im (.int .u8 0),.im (.int .u8 0),.im (.int .u8 0),.im (.int .u8 0)]:=by kernel_rfl
theorem yK:iX Tryz.prog 27=some [.sl [] .nl,.sl [] .nl,.sl [] .nl]:=by kernel_rfl
theorem IQ:iX Tryz.prog 281=some [.im (.int .u8 0),.im (.int .u8 0),.im (.int .u8 0),.im (.int .u8 0),.im (.int .u8 0),.im (.int .u8 0),.im (.int .u8 0),.im (.int .u8 0),.im (.int .u8 0),.im (.int .u8 0),.im (.int .u8 0),.im (.int .u8 0),.im (.int .u8 0),.im (.int .u8 0),.im (.int .u8 0),.im (.int .u8 0),.im (.int .u8 0),.im (.int .u8 0),.im (.int .u8 0),.im (.int .u8 0),.im (.int .u8 0),.im (.int .u8 0),.im (.int .u8 0),.im (.int .u8 0),.im (.int .u8 0),.im (.int .u8 0),.im (.int .u8 0),.im (.int .u8 0),.im (.int .u8 0),.im (.int .u8 0),.im (.int .u8 0),.im (.int .u8 0),.im (.int .u8 0),.im (.int .u8 0),.im (.int .u8 0),.im (.int .u8 0),.im (.int .u8 0),.im (.int .u8 0),.im (.int .u8 0),.im (.int .u8 0),.im (.int .u8 0),.im (.int .u8 0),.im (.int .u8 0),.im (.int .u8 0),.im (.int .u8 0),.im (.int .u8 0),.im (.int .u8 0),.im (.int .u8 0),.im (.int .u8 0),.im (.int .u8 0),.im (.int .u8 0),.im (.int .u8 0),.im (.int .u8 0),.im (.int .u8 0),.im (.int .u8 0),.im (.int .u8 0),.im (.int .u8 0),.im (.int .u8 0),.im (.int .u8 0),.im (.int .u8 0),.im (.int .u8 0),.im (.int .u8 0),.im (.int .u8 0),.im (.int .u8 0),.im (.int .u8 0)]:=by kernel_rfl
theorem Lm:iX Tryz.prog 35=some [.sl [] .nl]:=by kernel_rfl
theorem vQ:iX Tryz.prog 37=some [.im (.string ByteArray.empty),.sl [] .nl,.sl [] .nl]:=by kernel_rfl
theorem kD:iX Tryz.prog 46=some [.im (.int .i64 0),.im (.int .u32 0),.im (.string ByteArray.empty),.im (.int .i64 0),.sl [] .nl]:=by kernel_rfl
theorem Ll:iX Tryz.prog 5=some [.im (.int .u8 0)]:=by kernel_rfl
theorem nQ:iX Tryz.prog 61=some [.im (.int .i64 0),.im (.int .i64 0)]:=by kernel_rfl
theorem Wc:iX Tryz.prog 73=some [.im (.pointer none),.sl [] .nl,.im (.int .i64 0)]:=by kernel_rfl
theorem Lk:iX Tryz.prog 76=some [.im (.string ByteArray.empty),.im (.int .u32 0),.sl [] .nl,.im (.bool false),.im (.bool false)]:=by kernel_rfl
theorem mG:iX Tryz.prog 9=some [.im (.string ByteArray.empty)]:=by kernel_rfl
theorem yJ:iX Tryz.prog 94=some [.im (.int .i64 0),.im (.int .i64 0),.im (.int .i64 0),.sl [] .nl,.sl [] .nl]:=by kernel_rfl
theorem pN:iX Tryz.prog 96=some [.im (.string ByteArray.empty),.im (.int .i64 0),.im (.int .i64 0),.im (.int .i64 0),.sl [] .nl,.sl [] .nl]:=by kernel_rfl
theorem IP:Ei Tryz.prog 244=some (13,198):=by kernel_rfl
theorem IN:Ei Tryz.prog 281=some (65,5):=by kernel_rfl
theorem IM:Ax Tryz.prog 122=some 48:=by kernel_rfl
theorem IL:Ax Tryz.prog 165=some 128:=by kernel_rfl
theorem IK:Ax Tryz.prog 167=some 136:=by kernel_rfl
theorem IJ:Ax Tryz.prog 218=some 80:=by kernel_rfl
theorem Wb:Ax Tryz.prog 35=some 24:=by kernel_rfl
theorem NJ:Ax Tryz.prog 37=some 64:=by kernel_rfl
theorem Lj:Ax Tryz.prog 5=some 1:=by kernel_rfl
theorem NI:Ax Tryz.prog 76=some 56:=by kernel_rfl
theorem Tl:Ax Tryz.prog 9=some 16:=by kernel_rfl
theorem yI:Ax Tryz.prog 96=some 88:=by kernel_rfl
theorem Ff:eX Tryz.prog 157=some 167:=by kernel_rfl
theorem kL:eX Tryz.prog 163=some 35:=by kernel_rfl
theorem Pw:eX Tryz.prog 215=some 23:=by kernel_rfl
theorem kC:eX Tryz.prog 23=some 96:=by kernel_rfl
theorem Bv:eX Tryz.prog 24=some 76:=by kernel_rfl
theorem Li:eX Tryz.prog 25=some 37:=by kernel_rfl
theorem Pv:eX Tryz.prog 283=some 163:=by kernel_rfl
theorem nP:eX Tryz.prog 35=some 165:=by kernel_rfl
theorem gG:eX Tryz.prog 44=some 46:=by kernel_rfl
theorem pM:eX Tryz.prog 52=some 122:=by kernel_rfl
theorem nO:eX Tryz.prog 69=some 5:=by kernel_rfl
theorem jN:eX Tryz.prog 84=some 9:=by kernel_rfl
theorem pL:eX Tryz.prog 91=some 94:=by kernel_rfl
theorem pK:eX Tryz.prog 92=some 218:=by kernel_rfl
theorem oP:eB Tryz.prog 120 0=some (0,9):=by kernel_rfl
theorem Fe:eB Tryz.prog 120 1=some (1,3):=by kernel_rfl
theorem Fd:eB Tryz.prog 120 2=some (2,3):=by kernel_rfl
theorem Tj:eB Tryz.prog 120 3=some (3,52):=by kernel_rfl
theorem lD:eB Tryz.prog 122 0=some (0,3):=by kernel_rfl
theorem mF:eB Tryz.prog 122 1=some (1,9):=by kernel_rfl
theorem oO:eB Tryz.prog 122 2=some (2,43):=by kernel_rfl
theorem Fc:eB Tryz.prog 122 3=some (3,3):=by kernel_rfl
theorem Fb:eB Tryz.prog 122 4=some (4,3):=by kernel_rfl
theorem Fa:eB Tryz.prog 133 0=some (0,52):=by kernel_rfl
theorem fK:eB Tryz.prog 133 1=some (1,3):=by kernel_rfl
theorem sJ:eB Tryz.prog 133 2=some (2,3):=by kernel_rfl
theorem Ti:eB Tryz.prog 162 0=some (0,34):=by kernel_rfl
theorem Th:eB Tryz.prog 162 1=some (1,84):=by kernel_rfl
theorem Ez:eB Tryz.prog 162 2=some (2,84):=by kernel_rfl
theorem Tg:eB Tryz.prog 162 3=some (3,84):=by kernel_rfl
theorem iN:eB Tryz.prog 165 0=some (0,3):=by kernel_rfl
theorem wU:eB Tryz.prog 165 1=some (1,3):=by kernel_rfl
theorem mE:eB Tryz.prog 165 2=some (2,9):=by kernel_rfl
theorem gY:eB Tryz.prog 165 3=some (3,44):=by kernel_rfl
theorem lC:eB Tryz.prog 165 4=some (4,35):=by kernel_rfl
theorem lB:eB Tryz.prog 165 5=some (5,35):=by kernel_rfl
theorem lA:eB Tryz.prog 165 6=some (6,163):=by kernel_rfl
theorem wT:eB Tryz.prog 167 0=some (0,165):=by kernel_rfl
theorem Tf:eB Tryz.prog 167 1=some (7,4):=by kernel_rfl
theorem Te:eB Tryz.prog 198 0=some (0,9):=by kernel_rfl
theorem Ey:eB Tryz.prog 198 1=some (1,3):=by kernel_rfl
theorem wS:eB Tryz.prog 206 0=some (0,71):=by kernel_rfl
theorem sI:eB Tryz.prog 218 0=some (0,3):=by kernel_rfl
theorem kZ:eB Tryz.prog 218 1=some (1,94):=by kernel_rfl
theorem qY:eB Tryz.prog 27 0=some (0,23):=by kernel_rfl
theorem Ac:eB Tryz.prog 27 1=some (1,24):=by kernel_rfl
theorem vP:eB Tryz.prog 27 2=some (2,25):=by kernel_rfl
theorem vO:eB Tryz.prog 37 0=some (0,9):=by kernel_rfl
theorem mD:eB Tryz.prog 37 1=some (1,23):=by kernel_rfl
theorem oA:eB Tryz.prog 37 2=some (2,35):=by kernel_rfl
theorem nZ:eB Tryz.prog 46 0=some (0,3):=by kernel_rfl
theorem Ab:eB Tryz.prog 46 1=some (1,43):=by kernel_rfl
theorem vN:eB Tryz.prog 46 2=some (2,9):=by kernel_rfl
theorem Aa:eB Tryz.prog 46 3=some (3,3):=by kernel_rfl
theorem lH:eB Tryz.prog 46 4=some (4,44):=by kernel_rfl
theorem AV:eB Tryz.prog 61 0=some (0,3):=by kernel_rfl
theorem vM:eB Tryz.prog 61 1=some (1,28):=by kernel_rfl
theorem Ij:eB Tryz.prog 71 1=some (1,69):=by kernel_rfl
theorem zZ:eB Tryz.prog 73 0=some (0,71):=by kernel_rfl
theorem qX:eB Tryz.prog 73 1=some (2,3):=by kernel_rfl
theorem Ii:eB Tryz.prog 76 0=some (0,9):=by kernel_rfl
theorem Ih:eB Tryz.prog 76 2=some (2,69):=by kernel_rfl
theorem AU:eB Tryz.prog 76 3=some (3,4):=by kernel_rfl
theorem AT:eB Tryz.prog 76 4=some (4,4):=by kernel_rfl
theorem qW:eB Tryz.prog 94 0=some (0,3):=by kernel_rfl
theorem vL:eB Tryz.prog 94 1=some (1,3):=by kernel_rfl
theorem vK:eB Tryz.prog 94 2=some (2,3):=by kernel_rfl
theorem mC:eB Tryz.prog 94 3=some (3,91):=by kernel_rfl
theorem jH:eB Tryz.prog 94 4=some (4,92):=by kernel_rfl
theorem qV:eB Tryz.prog 96 0=some (0,9):=by kernel_rfl
theorem nY:eB Tryz.prog 96 1=some (1,94):=by kernel_rfl
theorem qU:sR Tryz.prog 145=some .u64:=by kernel_rfl
theorem Ew:sR Tryz.prog 146=some .u64:=by kernel_rfl
theorem Wa:sR Tryz.prog 21=some .i32:=by kernel_rfl
theorem uF:sR Tryz.prog 3=some .i64:=by kernel_rfl
theorem sH:sR Tryz.prog 43=some .u32:=by kernel_rfl
theorem Lh:sR Tryz.prog 5=some .u8:=by kernel_rfl
theorem vJ:sR Tryz.prog 69=none:=by kernel_rfl
theorem zY:sR Tryz.prog 9=none:=by kernel_rfl
theorem II:pS Tryz.prog 120=some [(0,1),(1,1),(2,1),(3,1)]:=by kernel_rfl
theorem yH:pS Tryz.prog 122=some [(0,1),(1,1),(2,1),(3,1),(4,1)]:=by kernel_rfl
theorem Eu:pS Tryz.prog 133=some [(0,1),(1,1),(2,1)]:=by kernel_rfl
theorem IG:pS Tryz.prog 162=some [(0,1),(1,1),(2,1),(3,1)]:=by kernel_rfl
theorem yG:pS Tryz.prog 165=some [(0,1),(1,1),(2,1),(3,1),(4,1),(5,1),(6,1)]:=by kernel_rfl
theorem IF:pS Tryz.prog 167=some [(0,7),(7,1)]:=by kernel_rfl
theorem IE:pS Tryz.prog 198=some [(0,1),(1,1)]:=by kernel_rfl
theorem ID:pS Tryz.prog 206=some [(0,2)]:=by kernel_rfl
theorem IC:pS Tryz.prog 218=some [(0,1),(1,5)]:=by kernel_rfl
theorem NH:pS Tryz.prog 27=some [(0,1),(1,1),(2,1)]:=by kernel_rfl
theorem Vz:pS Tryz.prog 37=some [(0,1),(1,1),(2,1)]:=by kernel_rfl
theorem yF:pS Tryz.prog 46=some [(0,1),(1,1),(2,1),(3,1),(4,1)]:=by kernel_rfl
theorem Bu:pS Tryz.prog 61=some [(0,1),(1,1)]:=by kernel_rfl
theorem Vy:pS Tryz.prog 73=some [(0,2),(2,1)]:=by kernel_rfl
theorem NG:pS Tryz.prog 76=some [(0,1),(1,1),(2,1),(3,1),(4,1)]:=by kernel_rfl
theorem Bt:pS Tryz.prog 94=some [(0,1),(1,1),(2,1),(3,1),(4,1)]:=by kernel_rfl
theorem NF:pS Tryz.prog 96=some [(0,1),(1,5)]:=by kernel_rfl
theorem gX:szOf Tryz.prog 122=some 5:=by kernel_rfl
theorem mU:szOf Tryz.prog 163=some 1:=by kernel_rfl
theorem gP:szOf Tryz.prog 165=some 7:=by kernel_rfl
theorem Et:szOf Tryz.prog 167=some 8:=by kernel_rfl
theorem Pu:szOf Tryz.prog 198=some 2:=by kernel_rfl
theorem mT:szOf Tryz.prog 218=some 6:=by kernel_rfl
theorem kB:szOf Tryz.prog 23=some 1:=by kernel_rfl
theorem Lg:szOf Tryz.prog 24=some 1:=by kernel_rfl
theorem IB:szOf Tryz.prog 244=some 26:=by kernel_rfl
theorem Br:szOf Tryz.prog 25=some 1:=by kernel_rfl
theorem vI:szOf Tryz.prog 27=some 3:=by kernel_rfl
theorem Bq:szOf Tryz.prog 28=some 1:=by kernel_rfl
theorem cK:szOf Tryz.prog 3=some 1:=by kernel_rfl
theorem Lf:szOf Tryz.prog 34=some 1:=by kernel_rfl
theorem iI:szOf Tryz.prog 35=some 1:=by kernel_rfl
theorem nN:szOf Tryz.prog 37=some 3:=by kernel_rfl
theorem IA:szOf Tryz.prog 4=some 1:=by kernel_rfl
theorem pJ:szOf Tryz.prog 43=some 1:=by kernel_rfl
theorem gU:szOf Tryz.prog 44=some 1:=by kernel_rfl
theorem dG:szOf Tryz.prog 46=some 5:=by kernel_rfl
theorem wR:szOf Tryz.prog 5=some 1:=by kernel_rfl
theorem Ld:szOf Tryz.prog 52=some 1:=by kernel_rfl
theorem pI:szOf Tryz.prog 61=some 2:=by kernel_rfl
theorem Bp:szOf Tryz.prog 69=some 1:=by kernel_rfl
theorem vH:szOf Tryz.prog 71=some 2:=by kernel_rfl
theorem yE:szOf Tryz.prog 76=some 5:=by kernel_rfl
theorem Lc:szOf Tryz.prog 84=some 1:=by kernel_rfl
theorem dD:szOf Tryz.prog 9=some 1:=by kernel_rfl
theorem sG:szOf Tryz.prog 91=some 1:=by kernel_rfl
theorem mN:szOf Tryz.prog 92=some 1:=by kernel_rfl
theorem gF:szOf Tryz.prog 94=some 5:=by kernel_rfl
theorem jM:szOf Tryz.prog 96=some 6:=by kernel_rfl
theorem qT:Tryz.prog.underlying 145=some (.int .u64):=by kernel_rfl
theorem Es:Tryz.prog.underlying 146=some (.int .u64):=by kernel_rfl
theorem Vx:Tryz.prog.underlying 21=some (.int .i32):=by kernel_rfl
theorem NE:Tryz.prog.underlying 24=some (.slice 76):=by kernel_rfl
theorem uE:Tryz.prog.underlying 3=some (.int .i64):=by kernel_rfl
theorem sF:Tryz.prog.underlying 43=some (.int .u32):=by kernel_rfl
theorem sE:Tryz.prog.underlying 5=some (.int .u8):=by kernel_rfl
theorem vG:Tryz.prog.underlying 69=some (.slice 5):=by kernel_rfl
theorem iU:Tryz.prog.underlying 9=some (.string):=by kernel_rfl
end Go.Proofs.YtmbmmckagcdapaaGreatDoor
