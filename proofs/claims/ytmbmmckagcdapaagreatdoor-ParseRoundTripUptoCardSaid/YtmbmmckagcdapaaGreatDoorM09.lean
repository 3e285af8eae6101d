import Derived.Test.YtmbmmckagcdapaaGreatDoorChecked
import Derived.Test.YtmbmmckagcdapaaGreatDoorM07
set_option linter.all false
namespace Go.Proofs.YtmbmmckagcdapaaGreatDoor
open Go.RowKit
theorem pA:gS Tryz.prog 122=some true:=by kernel_rfl
theorem nM:gS Tryz.prog 163=some false:=by kernel_rfl
theorem iV:gS Tryz.prog 165=some true:=by kernel_rfl
theorem KU:gS Tryz.prog 167=some true:=by kernel_rfl
theorem KT:gS Tryz.prog 198=some true:=by kernel_rfl
theorem uS:gS Tryz.prog 218=some true:=by kernel_rfl
theorem kI:gS Tryz.prog 23=some false:=by kernel_rfl
theorem zE:gS Tryz.prog 24=some false:=by kernel_rfl
theorem wF:gS Tryz.prog 25=some false:=by kernel_rfl
theorem pY:gS Tryz.prog 27=some true:=by kernel_rfl
theorem Dc:gS Tryz.prog 28=some false:=by kernel_rfl
theorem cO:gS Tryz.prog 3=some false:=by kernel_rfl
theorem Mr:gS Tryz.prog 34=some false:=by kernel_rfl
theorem jP:gS Tryz.prog 35=some false:=by kernel_rfl
theorem zD:gS Tryz.prog 37=some true:=by kernel_rfl
theorem Mq:gS Tryz.prog 4=some false:=by kernel_rfl
theorem nB:gS Tryz.prog 43=some false:=by kernel_rfl
theorem iA:gS Tryz.prog 44=some false:=by kernel_rfl
theorem fE:gS Tryz.prog 46=some true:=by kernel_rfl
theorem Mp:gS Tryz.prog 5=some false:=by kernel_rfl
theorem Db:gS Tryz.prog 52=some false:=by kernel_rfl
theorem Mo:gS Tryz.prog 61=some true:=by kernel_rfl
theorem tF:gS Tryz.prog 69=some false:=by kernel_rfl
theorem zC:gS Tryz.prog 71=some true:=by kernel_rfl
theorem Da:gS Tryz.prog 76=some true:=by kernel_rfl
theorem Mn:gS Tryz.prog 84=some false:=by kernel_rfl
theorem dT:gS Tryz.prog 9=some false:=by kernel_rfl
theorem tE:gS Tryz.prog 91=some false:=by kernel_rfl
theorem pX:gS Tryz.prog 92=some false:=by kernel_rfl
theorem gK:gS Tryz.prog 94=some true:=by kernel_rfl
theorem Cz:gS Tryz.prog 96=some true:=by kernel_rfl
theorem Rh:iY Tryz.prog 120=some [.im (.string ByteArray.empty),.im (.int .i64 0),.im (.int .i64 0),.sl [] .nl]:=by kernel_rfl
theorem kA:iY Tryz.prog 122=some [.im (.int .i64 0),.im (.string ByteArray.empty),.im (.int .u32 0),.im (.int .i64 0),.im (.int .i64 0)]:=by kernel_rfl
theorem Rg:iY Tryz.prog 133=some [.sl [] .nl,.im (.int .i64 0),.im (.int .i64 0)]:=by kernel_rfl
theorem KS:iY Tryz.prog 162=some [.im .nilFunc,.sl [] .nl,.sl [] .nl,.sl [] .nl]:=by kernel_rfl
theorem KR:iY Tryz.prog 163=some [.sl [] .nl]:=by kernel_rfl
theorem jZ:iY Tryz.prog 165=some [.im (.int .i64 0),.im (.int .i64 0),.im (.string ByteArray.empty),.sl [] .nl,.sl [] .nl,.sl [] .nl,.sl [] .nl]:=by kernel_rfl
theorem Rf:iY Tryz.prog 167=some [.im (.int .i64 0),.im (.int .i64 0),.im (.string ByteArray.empty),.sl [] .nl,.sl [] .nl,.sl [] .nl,.sl [] .nl,.im (.bool false)]:=by kernel_rfl
theorem Re:iY Tryz.prog 198=some [.im (.string ByteArray.empty),.im (.int .i64 0)]:=by kernel_rfl
theorem KQ:iY Tryz.prog 206=some [.im (.pointer none),.sl [] .nl]:=by kernel_rfl
theorem rK:iY Tryz.prog 218=some [.im (.int .i64 0),.im (.int .i64 0),.im (.int .i64 0),.im (.int .i64 0),.sl [] .nl,.sl [] .nl]:=by kernel_rfl
theorem PX:iY Tryz.prog 23=some [.sl [] .nl]:=by kernel_rfl
theorem KP:iY Tryz.prog 244=some [.im (.string ByteArray.empty),.im (.int .i64 0),.im (.string ByteArray.empty),.im (.int .i64 0),.im (.string ByteArray.empty),.im (.int .i64 0),.im (.string ByteArray.empty),.im (.int .i64 0),.im (.string ByteArray.empty),.im (.int .i64 0),.im (.string ByteArray.empty),.im (.int .i64 0),.im (.string ByteArray.empty),.im (.int .i64 0),.im (.string ByteArray.empty),.im (.int .i64 0),.im (.string ByteArray.empty),.im (.int .i64 0),.im (.string ByteArray.empty),.im (.int .i64 0),.im (.string ByteArray.empty),.im (.int .i64 0),.im (.string ByteArray.empty),.im (.int .i64 0),.im (.string ByteArray.empty),.im (.int .i64 0)]:=by kernel_rfl
theorem KN:iY Tryz.prog 254=some [.im (.int .u8 0),.im (.int .u8 0),.im (.int .u8 0),.im (.int .u8 0),.im (.int .u8 0),.im (.int .u8 0),.im (.int .u8 0),.im (.int .u8 0),.im (.int .u8 0),.im (.int .u8 0),.im (.int .u8 0),.im (.int .u8 0),.im (.int .u8 0),.im (.int .u8 0),.im (.int .u8 0),.im (.int .u8 0),.im (.int .u8 0),.im (.int .u8 0),.im (.int .u8 0),.im (.int .u8 0),.im (.int .u8 0),.im (.int .u8 0),.im (.int .u8 0),.im (.int .u8 0)]:=by kernel_rfl
theorem tD:iY Tryz.prog 27=some [.sl [] .nl,.sl [] .nl,.sl [] .nl]:=by kernel_rfl
theorem KM:iY Tryz.prog 281=some [.im (.int .u8 0),.im (.int .u8 0),.im (.int .u8 0),.im (.int .u8 0),.im (.int .u8 0),.im (.int .u8 0),.im (.int .u8 0),.im (.int .u8 0),.im (.int .u8 0),.im (.int .u8 0),.im (.int .u8 0),.im (.int .u8 0),.im (.int .u8 0),.im (.int .u8 0),.im (.int .u8 0),.im (.int .u8 0),.im (.int .u8 0),.im (.int .u8 0),.im (.int .u8 0),.im (.int .u8 0),.im (.int .u8 0),.im (.int .u8 0),.im (.int .u8 0),.im (.int .u8 0),.im (.int .u8 0),.im (.int .u8 0),.im (.int .u8 0),.im (.int .u8 0),.im (.int .u8 0),.im (.int .u8 0),.im (.int .u8 0),.im (.int .u8 0),.im (.int .u8 0),.im (.int .u8 0),.im (.int .u8 0),.im (.int .u8 0),.im (.int .u8 0),.im (.int .u8 0),.im (.int .u8 0),.im (.int .u8 0),.im (.int .u8 0),.im (.int .u8 0),.im (.int .u8 0),.im (.int .u8 0),.im (.int .u8 0),.im (.int .u8 0),.im (.int .u8 0),.im (.int .u8 0),.im (.int .u8 0),.im (.int .u8 0),.im (.int .u8 0),.im (.int .u8 0),.im (.int .u8 0),.im (.int .u8 0),.im (.int .u8 0),.im (.int .u8 0),.im (.int .u8 0),.im (.int .u8 0),.im (.int .u8 0),.im (.int .u8 0),.im (.int .u8 0),.im (.int .u8 0),.im (.int .u8 0),.im (.int .u8 0),.im (.int .u8 0)]:=by kernel_rfl
theorem Mm:iY Tryz.prog 35=some [.sl [] .nl]:=by kernel_rfl
theorem Cy:iY Tryz.prog 37=some [.im (.string ByteArray.empty),.sl [] .nl,.sl [] .nl]:=by kernel_rfl
theorem kH:iY Tryz.prog 46=some [.im (.int .i64 0),.im (.int .u32 0),.im (.string ByteArray.empty),.im (.int .i64 0),.sl [] .nl]:=by kernel_rfl
theorem Gs:iY Tryz.prog 5=some [.im (.int .u8 0)]:=by kernel_rfl
theorem pW:iY Tryz.prog 61=some [.im (.int .i64 0),.im (.int .i64 0)]:=by kernel_rfl
theorem PW:iY Tryz.prog 73=some [.im (.pointer none),.sl [] .nl,.im (.int .i64 0)]:=by kernel_rfl
theorem Cx:iY Tryz.prog 76=some [.im (.string ByteArray.empty),.im (.int .u32 0),.sl [] .nl,.im (.bool false),.im (.bool false)]:=by kernel_rfl
theorem mB:iY Tryz.prog 9=some [.im (.string ByteArray.empty)]:=by kernel_rfl
theorem zB:iY Tryz.prog 94=some [.im (.int .i64 0),.im (.int .i64 0),.im (.int .i64 0),.sl [] .nl,.sl [] .nl]:=by kernel_rfl
theorem tC:iY Tryz.prog 96=some [.im (.string ByteArray.empty),.im (.int .i64 0),.im (.int .i64 0),.im (.int .i64 0),.sl [] .nl,.sl [] .nl]:=by kernel_rfl
theorem KL:Gb Tryz.prog 244=some (13,198):=by kernel_rfl
theorem KK:Gb Tryz.prog 281=some (65,5):=by kernel_rfl
theorem Rc:Ca Tryz.prog 122=some 48:=by kernel_rfl
theorem KJ:Ca Tryz.prog 165=some 128:=by kernel_rfl
theorem KI:Ca Tryz.prog 167=some 136:=by kernel_rfl
theorem KH:Ca Tryz.prog 218=some 80:=by kernel_rfl
theorem Xq:Ca Tryz.prog 35=some 24:=by kernel_rfl
theorem PV:Ca Tryz.prog 37=some 64:=by kernel_rfl
theorem Gr:Ca Tryz.prog 5=some 1:=by kernel_rfl
theorem PU:Ca Tryz.prog 76=some 56:=by kernel_rfl
theorem Uy:Ca Tryz.prog 9=some 16:=by kernel_rfl
theorem zA:Ca Tryz.prog 96=some 88:=by kernel_rfl
theorem Rb:eS Tryz.prog 157=some 167:=by kernel_rfl
theorem kT:eS Tryz.prog 163=some 35:=by kernel_rfl
theorem Ra:eS Tryz.prog 215=some 23:=by kernel_rfl
theorem kG:eS Tryz.prog 23=some 96:=by kernel_rfl
theorem tB:eS Tryz.prog 24=some 76:=by kernel_rfl
theorem wE:eS Tryz.prog 25=some 37:=by kernel_rfl
theorem Qz:eS Tryz.prog 283=some 163:=by kernel_rfl
theorem nZ:eS Tryz.prog 35=some 165:=by kernel_rfl
theorem gJ:eS Tryz.prog 44=some 46:=by kernel_rfl
theorem pV:eS Tryz.prog 52=some 122:=by kernel_rfl
theorem lA:eS Tryz.prog 69=some 5:=by kernel_rfl
theorem jE:eS Tryz.prog 84=some 9:=by kernel_rfl
theorem pU:eS Tryz.prog 91=some 94:=by kernel_rfl
theorem pT:eS Tryz.prog 92=some 218:=by kernel_rfl
theorem mP:dW Tryz.prog 120 0=some (0,9):=by kernel_rfl
theorem xM:dW Tryz.prog 120 1=some (1,3):=by kernel_rfl
theorem xL:dW Tryz.prog 120 2=some (2,3):=by kernel_rfl
theorem Gq:dW Tryz.prog 120 3=some (3,52):=by kernel_rfl
theorem lJ:dW Tryz.prog 122 0=some (0,3):=by kernel_rfl
theorem mO:dW Tryz.prog 122 1=some (1,9):=by kernel_rfl
theorem oZ:dW Tryz.prog 122 2=some (2,43):=by kernel_rfl
theorem xK:dW Tryz.prog 122 3=some (3,3):=by kernel_rfl
theorem xJ:dW Tryz.prog 122 4=some (4,3):=by kernel_rfl
theorem Gp:dW Tryz.prog 133 0=some (0,52):=by kernel_rfl
theorem fX:dW Tryz.prog 133 1=some (1,3):=by kernel_rfl
theorem tA:dW Tryz.prog 133 2=some (2,3):=by kernel_rfl
theorem Ux:dW Tryz.prog 162 0=some (0,34):=by kernel_rfl
theorem Uw:dW Tryz.prog 162 1=some (1,84):=by kernel_rfl
theorem Gn:dW Tryz.prog 162 2=some (2,84):=by kernel_rfl
theorem Uv:dW Tryz.prog 162 3=some (3,84):=by kernel_rfl
theorem iP:dW Tryz.prog 165 0=some (0,3):=by kernel_rfl
theorem xI:dW Tryz.prog 165 1=some (1,3):=by kernel_rfl
theorem mN:dW Tryz.prog 165 2=some (2,9):=by kernel_rfl
theorem iO:dW Tryz.prog 165 3=some (3,44):=by kernel_rfl
theorem lI:dW Tryz.prog 165 4=some (4,35):=by kernel_rfl
theorem lH:dW Tryz.prog 165 5=some (5,35):=by kernel_rfl
theorem lG:dW Tryz.prog 165 6=some (6,163):=by kernel_rfl
theorem Gm:dW Tryz.prog 167 0=some (0,165):=by kernel_rfl
theorem Uu:dW Tryz.prog 167 1=some (7,4):=by kernel_rfl
theorem Ut:dW Tryz.prog 198 0=some (0,9):=by kernel_rfl
theorem Gl:dW Tryz.prog 198 1=some (1,3):=by kernel_rfl
theorem xH:dW Tryz.prog 206 0=some (0,71):=by kernel_rfl
theorem sZ:dW Tryz.prog 218 0=some (0,3):=by kernel_rfl
theorem lF:dW Tryz.prog 218 1=some (1,94):=by kernel_rfl
theorem lN:dW Tryz.prog 27 0=some (0,23):=by kernel_rfl
theorem oI:dW Tryz.prog 27 1=some (1,24):=by kernel_rfl
theorem mM:dW Tryz.prog 27 2=some (2,25):=by kernel_rfl
theorem Ba:dW Tryz.prog 37 0=some (0,9):=by kernel_rfl
theorem oH:dW Tryz.prog 37 1=some (1,23):=by kernel_rfl
theorem rJ:dW Tryz.prog 37 2=some (2,35):=by kernel_rfl
theorem oG:dW Tryz.prog 46 0=some (0,3):=by kernel_rfl
theorem Az:dW Tryz.prog 46 1=some (1,43):=by kernel_rfl
theorem wD:dW Tryz.prog 46 2=some (2,9):=by kernel_rfl
theorem Ay:dW Tryz.prog 46 3=some (3,3):=by kernel_rfl
theorem lM:dW Tryz.prog 46 4=some (4,44):=by kernel_rfl
theorem CJ:dW Tryz.prog 61 0=some (0,3):=by kernel_rfl
theorem wC:dW Tryz.prog 61 1=some (1,28):=by kernel_rfl
theorem Jp:dW Tryz.prog 71 1=some (1,69):=by kernel_rfl
theorem Jo:dW Tryz.prog 73 0=some (0,71):=by kernel_rfl
theorem rI:dW Tryz.prog 73 1=some (2,3):=by kernel_rfl
theorem wA:dW Tryz.prog 76 0=some (0,9):=by kernel_rfl
theorem Jn:dW Tryz.prog 76 1=some (1,43):=by kernel_rfl
theorem rH:dW Tryz.prog 76 2=some (2,69):=by kernel_rfl
theorem Ax:dW Tryz.prog 76 3=some (3,4):=by kernel_rfl
theorem Aw:dW Tryz.prog 76 4=some (4,4):=by kernel_rfl
theorem rG:dW Tryz.prog 94 0=some (0,3):=by kernel_rfl
theorem vZ:dW Tryz.prog 94 1=some (1,3):=by kernel_rfl
theorem vY:dW Tryz.prog 94 2=some (2,3):=by kernel_rfl
theorem mL:dW Tryz.prog 94 3=some (3,91):=by kernel_rfl
theorem jJ:dW Tryz.prog 94 4=some (4,92):=by kernel_rfl
theorem vX:dW Tryz.prog 96 0=some (0,9):=by kernel_rfl
theorem oF:dW Tryz.prog 96 1=some (1,94):=by kernel_rfl
theorem rF:rW Tryz.prog 145=some .u64:=by kernel_rfl
theorem Gk:rW Tryz.prog 146=some .u64:=by kernel_rfl
theorem Xp:rW Tryz.prog 21=some .i32:=by kernel_rfl
theorem uR:rW Tryz.prog 3=some .i64:=by kernel_rfl
theorem sY:rW Tryz.prog 43=some .u32:=by kernel_rfl
theorem Ml:rW Tryz.prog 5=some .u8:=by kernel_rfl
theorem sX:rW Tryz.prog 69=none:=by kernel_rfl
theorem xG:rW Tryz.prog 9=none:=by kernel_rfl
theorem Qy:qC Tryz.prog 120=some [(0,1),(1,1),(2,1),(3,1)]:=by kernel_rfl
theorem uQ:qC Tryz.prog 122=some [(0,1),(1,1),(2,1),(3,1),(4,1)]:=by kernel_rfl
theorem Qx:qC Tryz.prog 133=some [(0,1),(1,1),(2,1)]:=by kernel_rfl
theorem KG:qC Tryz.prog 162=some [(0,1),(1,1),(2,1),(3,1)]:=by kernel_rfl
theorem yZ:qC Tryz.prog 165=some [(0,1),(1,1),(2,1),(3,1),(4,1),(5,1),(6,1)]:=by kernel_rfl
theorem KF:qC Tryz.prog 167=some [(0,7),(7,1)]:=by kernel_rfl
theorem KE:qC Tryz.prog 198=some [(0,1),(1,1)]:=by kernel_rfl
theorem KD:qC Tryz.prog 206=some [(0,2)]:=by kernel_rfl
theorem KC:qC Tryz.prog 218=some [(0,1),(1,5)]:=by kernel_rfl
theorem Xo:qC Tryz.prog 27=some [(0,1),(1,1),(2,1)]:=by kernel_rfl
theorem PT:qC Tryz.prog 37=some [(0,1),(1,1),(2,1)]:=by kernel_rfl
theorem yY:qC Tryz.prog 46=some [(0,1),(1,1),(2,1),(3,1),(4,1)]:=by kernel_rfl
theorem Mk:qC Tryz.prog 61=some [(0,1),(1,1)]:=by kernel_rfl
theorem PS:qC Tryz.prog 73=some [(0,2),(2,1)]:=by kernel_rfl
theorem PR:qC Tryz.prog 76=some [(0,1),(1,1),(2,1),(3,1),(4,1)]:=by kernel_rfl
theorem Cw:qC Tryz.prog 94=some [(0,1),(1,1),(2,1),(3,1),(4,1)]:=by kernel_rfl
theorem PP:qC Tryz.prog 96=some [(0,1),(1,5)]:=by kernel_rfl
theorem gZ:szOf Tryz.prog 122=some 5:=by kernel_rfl
theorem nL:szOf Tryz.prog 163=some 1:=by kernel_rfl
theorem gY:szOf Tryz.prog 165=some 7:=by kernel_rfl
theorem Qw:szOf Tryz.prog 167=some 8:=by kernel_rfl
theorem Qv:szOf Tryz.prog 198=some 2:=by kernel_rfl
theorem nK:szOf Tryz.prog 218=some 6:=by kernel_rfl
theorem jD:szOf Tryz.prog 23=some 1:=by kernel_rfl
theorem vW:szOf Tryz.prog 24=some 1:=by kernel_rfl
theorem KB:szOf Tryz.prog 244=some 26:=by kernel_rfl
theorem sW:szOf Tryz.prog 25=some 1:=by kernel_rfl
theorem nY:szOf Tryz.prog 27=some 3:=by kernel_rfl
theorem Cv:szOf Tryz.prog 28=some 1:=by kernel_rfl
theorem cN:szOf Tryz.prog 3=some 1:=by kernel_rfl
theorem Mj:szOf Tryz.prog 34=some 1:=by kernel_rfl
theorem iS:szOf Tryz.prog 35=some 1:=by kernel_rfl
theorem sU:szOf Tryz.prog 37=some 3:=by kernel_rfl
theorem Mi:szOf Tryz.prog 4=some 1:=by kernel_rfl
theorem nA:szOf Tryz.prog 43=some 1:=by kernel_rfl
theorem hX:szOf Tryz.prog 44=some 1:=by kernel_rfl
theorem dP:szOf Tryz.prog 46=some 5:=by kernel_rfl
theorem qP:szOf Tryz.prog 5=some 1:=by kernel_rfl
theorem Cu:szOf Tryz.prog 52=some 1:=by kernel_rfl
theorem sT:szOf Tryz.prog 61=some 2:=by kernel_rfl
theorem sS:szOf Tryz.prog 69=some 1:=by kernel_rfl
theorem yX:szOf Tryz.prog 71=some 2:=by kernel_rfl
theorem pS:szOf Tryz.prog 76=some 5:=by kernel_rfl
theorem Mh:szOf Tryz.prog 84=some 1:=by kernel_rfl
theorem dC:szOf Tryz.prog 9=some 1:=by kernel_rfl
theorem sR:szOf Tryz.prog 91=some 1:=by kernel_rfl
theorem mZ:szOf Tryz.prog 92=some 1:=by kernel_rfl
theorem gI:szOf Tryz.prog 94=some 5:=by kernel_rfl
theorem jO:szOf Tryz.prog 96=some 6:=by kernel_rfl
theorem rE:Tryz.prog.underlying 145=some (.int .u64):=by kernel_rfl
theorem Gj:Tryz.prog.underlying 146=some (.int .u64):=by kernel_rfl
theorem Xn:Tryz.prog.underlying 21=some (.int .i32):=by kernel_rfl
theorem PO:Tryz.prog.underlying 24=some (.slice 76):=by kernel_rfl
theorem uP:Tryz.prog.underlying 3=some (.int .i64):=by kernel_rfl
theorem WC:Tryz.prog.underlying 4=some (.bool):=by kernel_rfl
theorem sQ:Tryz.prog.underlying 43=some (.int .u32):=by kernel_rfl
theorem qO:Tryz.prog.underlying 5=some (.int .u8):=by kernel_rfl
theorem sP:Tryz.prog.underlying 69=some (.slice 5):=by kernel_rfl
theorem iB:Tryz.prog.underlying 9=some (.string):=by kernel_rfl
end Go.Proofs.YtmbmmckagcdapaaGreatDoor
