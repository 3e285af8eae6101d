import Derived.Test.YtmbmmckagcdapaaGreatDoorChecked
import Derived.Test.YtmbmmckagcdapaaGreatDoorV06
set_option linter.all false
namespace Go.Proofs.YtmbmmckagcdapaaGreatDoor
open Go.RowKit
theorem oO:jI Tryz.prog 102=some false:=by kernel_rfl
theorem tO:jI Tryz.prog 122=some true:=by kernel_rfl
theorem oN:jI Tryz.prog 163=some false:=by kernel_rfl
theorem iA:jI Tryz.prog 165=some true:=by kernel_rfl
theorem FN:jI Tryz.prog 167=some true:=by kernel_rfl
theorem Hd:jI Tryz.prog 177=some true:=by kernel_rfl
theorem Ad:jI Tryz.prog 218=some true:=by kernel_rfl
theorem mT:jI Tryz.prog 23=some false:=by kernel_rfl
theorem Ac:jI Tryz.prog 24=some false:=by kernel_rfl
theorem uR:jI Tryz.prog 25=some false:=by kernel_rfl
theorem oM:jI Tryz.prog 27=some true:=by kernel_rfl
theorem lX:jI Tryz.prog 28=some false:=by kernel_rfl
theorem cJ:jI Tryz.prog 3=some false:=by kernel_rfl
theorem Mb:jI Tryz.prog 34=some false:=by kernel_rfl
theorem lG:jI Tryz.prog 35=some false:=by kernel_rfl
theorem Ab:jI Tryz.prog 37=some true:=by kernel_rfl
theorem Hc:jI Tryz.prog 4=some false:=by kernel_rfl
theorem oL:jI Tryz.prog 43=some false:=by kernel_rfl
theorem jV:jI Tryz.prog 44=some false:=by kernel_rfl
theorem fD:jI Tryz.prog 46=some true:=by kernel_rfl
theorem Sz:jI Tryz.prog 5=some false:=by kernel_rfl
theorem Ma:jI Tryz.prog 52=some false:=by kernel_rfl
theorem Lz:jI Tryz.prog 61=some true:=by kernel_rfl
theorem Aa:jI Tryz.prog 69=some false:=by kernel_rfl
theorem Dp:jI Tryz.prog 76=some true:=by kernel_rfl
theorem Ly:jI Tryz.prog 84=some false:=by kernel_rfl
theorem dY:jI Tryz.prog 9=some false:=by kernel_rfl
theorem qE:jI Tryz.prog 91=some false:=by kernel_rfl
theorem oK:jI Tryz.prog 92=some false:=by kernel_rfl
theorem gR:jI Tryz.prog 94=some true:=by kernel_rfl
theorem Do:jI Tryz.prog 96=some true:=by kernel_rfl
theorem FM:lY Tryz.prog 109=some [.sl [] .nl,.im (.int .i64 0),.im (.int .i64 0),.im (.int .i64 0)]:=by kernel_rfl
theorem FL:lY Tryz.prog 120=some [.im (.string ByteArray.empty),.im (.int .i64 0),.im (.int .i64 0),.sl [] .nl]:=by kernel_rfl
theorem nC:lY Tryz.prog 122=some [.im (.int .i64 0),.im (.string ByteArray.empty),.im (.int .u32 0),.im (.int .i64 0),.im (.int .i64 0)]:=by kernel_rfl
theorem Qc:lY Tryz.prog 133=some [.sl [] .nl,.im (.int .i64 0),.im (.int .i64 0)]:=by kernel_rfl
theorem FK:lY Tryz.prog 162=some [.im .nilFunc,.sl [] .nl,.sl [] .nl,.sl [] .nl]:=by kernel_rfl
theorem FJ:lY Tryz.prog 163=some [.sl [] .nl]:=by kernel_rfl
theorem iR:lY Tryz.prog 165=some [.im (.int .i64 0),.im (.int .i64 0),.im (.string ByteArray.empty),.sl [] .nl,.sl [] .nl,.sl [] .nl,.sl [] .nl]:=by kernel_rfl
theorem Qb:lY Tryz.prog 167=some [.im (.int .i64 0),.im (.int .i64 0),.im (.string ByteArray.empty),.sl [] .nl,.sl [] .nl,.sl [] .nl,.sl [] .nl,.im (.bool false)]:=by kernel_rfl
theorem Hb:lY Tryz.prog 177=some [.im (.int .i64 0),.im (.string ByteArray.empty),.im (.int .u32 0),.im (.int .i64 0),.im (.int .i64 0)]:=by kernel_rfl
theorem tN:lY Tryz.prog 218=some [.im (.int .i64 0),.im (.int .i64 0),.im (.int .i64 0),.im (.int .i64 0),.sl [] .nl,.sl [] .nl]:=by kernel_rfl
theorem KN:lY Tryz.prog 23=some [.sl [] .nl]:=by kernel_rfl
theorem FI:lY Tryz.prog 269=some [.im (.int .i64 0),.im (.int .i64 0),.im (.string ByteArray.empty),.sl [] .nl,.sl [] .nl,.sl [] .nl,.sl [] .nl,.im (.bool false)]:=by kernel_rfl
theorem pI:lY Tryz.prog 27=some [.sl [] .nl,.sl [] .nl,.sl [] .nl]:=by kernel_rfl
theorem Sy:lY Tryz.prog 3=some [.im (.int .i64 0)]:=by kernel_rfl
theorem Dn:lY Tryz.prog 35=some [.sl [] .nl]:=by kernel_rfl
theorem zZ:lY Tryz.prog 37=some [.im (.string ByteArray.empty),.sl [] .nl,.sl [] .nl]:=by kernel_rfl
theorem gQ:lY Tryz.prog 46=some [.im (.int .i64 0),.im (.int .u32 0),.im (.string ByteArray.empty),.im (.int .i64 0),.sl [] .nl]:=by kernel_rfl
theorem Sx:lY Tryz.prog 5=some [.im (.int .u8 0)]:=by kernel_rfl
theorem uQ:lY Tryz.prog 61=some [.im (.int .i64 0),.im (.int .i64 0)]:=by kernel_rfl
theorem zY:lY Tryz.prog 76=some [.im (.string ByteArray.empty),.im (.int .u32 0),.sl [] .nl,.im (.bool false),.im (.bool false)]:=by kernel_rfl
theorem sO:lY Tryz.prog 9=some [.im (.string ByteArray.empty)]:=by kernel_rfl
theorem qD:lY Tryz.prog 94=some [.im (.int .i64 0),.im (.int .i64 0),.im (.int .i64 0),.sl [] .nl,.sl [] .nl]:=by kernel_rfl
theorem pH:lY Tryz.prog 96=some [.im (.string ByteArray.empty),.im (.int .i64 0),.im (.int .i64 0),.im (.int .i64 0),.sl [] .nl,.sl [] .nl]:=by kernel_rfl
theorem FH:zF Tryz.prog 122=some 48:=by kernel_rfl
theorem Qa:zF Tryz.prog 165=some 128:=by kernel_rfl
theorem FG:zF Tryz.prog 167=some 136:=by kernel_rfl
theorem FF:zF Tryz.prog 177=some 48:=by kernel_rfl
theorem Pz:zF Tryz.prog 218=some 80:=by kernel_rfl
theorem FE:zF Tryz.prog 269=some 136:=by kernel_rfl
theorem Lx:zF Tryz.prog 35=some 24:=by kernel_rfl
theorem Vh:zF Tryz.prog 37=some 64:=by kernel_rfl
theorem FD:zF Tryz.prog 5=some 1:=by kernel_rfl
theorem Vg:zF Tryz.prog 76=some 56:=by kernel_rfl
theorem Sw:zF Tryz.prog 9=some 16:=by kernel_rfl
theorem sC:zF Tryz.prog 96=some 88:=by kernel_rfl
theorem lN:iB Tryz.prog 102=some 177:=by kernel_rfl
theorem Py:iB Tryz.prog 157=some 167:=by kernel_rfl
theorem mC:iB Tryz.prog 163=some 35:=by kernel_rfl
theorem Px:iB Tryz.prog 215=some 23:=by kernel_rfl
theorem zX:iB Tryz.prog 229=some 269:=by kernel_rfl
theorem kQ:iB Tryz.prog 23=some 96:=by kernel_rfl
theorem zW:iB Tryz.prog 235=some 3:=by kernel_rfl
theorem sB:iB Tryz.prog 24=some 76:=by kernel_rfl
theorem sA:iB Tryz.prog 25=some 37:=by kernel_rfl
theorem Pw:iB Tryz.prog 283=some 163:=by kernel_rfl
theorem qC:iB Tryz.prog 35=some 165:=by kernel_rfl
theorem fG:iB Tryz.prog 44=some 46:=by kernel_rfl
theorem uP:iB Tryz.prog 52=some 122:=by kernel_rfl
theorem pG:iB Tryz.prog 69=some 5:=by kernel_rfl
theorem lF:iB Tryz.prog 84=some 9:=by kernel_rfl
theorem oJ:iB Tryz.prog 91=some 94:=by kernel_rfl
theorem nJ:iB Tryz.prog 92=some 218:=by kernel_rfl
theorem lE:fE Tryz.prog 109 0=some (0,102):=by kernel_rfl
theorem gP:fE Tryz.prog 109 1=some (1,3):=by kernel_rfl
theorem uO:fE Tryz.prog 109 2=some (2,3):=by kernel_rfl
theorem jP:fE Tryz.prog 109 3=some (3,28):=by kernel_rfl
theorem rC:fE Tryz.prog 120 0=some (0,9):=by kernel_rfl
theorem Ha:fE Tryz.prog 120 1=some (1,3):=by kernel_rfl
theorem Gz:fE Tryz.prog 120 2=some (2,3):=by kernel_rfl
theorem Sv:fE Tryz.prog 120 3=some (3,52):=by kernel_rfl
theorem nN:fE Tryz.prog 122 0=some (0,3):=by kernel_rfl
theorem oW:fE Tryz.prog 122 1=some (1,9):=by kernel_rfl
theorem rB:fE Tryz.prog 122 2=some (2,43):=by kernel_rfl
theorem Gy:fE Tryz.prog 122 3=some (3,3):=by kernel_rfl
theorem Gx:fE Tryz.prog 122 4=some (4,3):=by kernel_rfl
theorem Gw:fE Tryz.prog 133 0=some (0,52):=by kernel_rfl
theorem iC:fE Tryz.prog 133 1=some (1,3):=by kernel_rfl
theorem uN:fE Tryz.prog 133 2=some (2,3):=by kernel_rfl
theorem Su:fE Tryz.prog 162 0=some (0,34):=by kernel_rfl
theorem Ss:fE Tryz.prog 162 1=some (1,84):=by kernel_rfl
theorem Gv:fE Tryz.prog 162 2=some (2,84):=by kernel_rfl
theorem Sq:fE Tryz.prog 162 3=some (3,84):=by kernel_rfl
theorem jA:fE Tryz.prog 165 0=some (0,3):=by kernel_rfl
theorem xV:fE Tryz.prog 165 1=some (1,3):=by kernel_rfl
theorem lD:fE Tryz.prog 165 2=some (2,9):=by kernel_rfl
theorem lC:fE Tryz.prog 165 3=some (3,44):=by kernel_rfl
theorem mB:fE Tryz.prog 165 4=some (4,35):=by kernel_rfl
theorem mA:fE Tryz.prog 165 5=some (5,35):=by kernel_rfl
theorem lZ:fE Tryz.prog 165 6=some (6,163):=by kernel_rfl
theorem Gu:fE Tryz.prog 167 0=some (0,165):=by kernel_rfl
theorem Sp:fE Tryz.prog 167 1=some (7,4):=by kernel_rfl
theorem xU:fE Tryz.prog 177 0=some (0,3):=by kernel_rfl
theorem uM:fE Tryz.prog 177 1=some (1,9):=by kernel_rfl
theorem Gt:fE Tryz.prog 177 2=some (2,43):=by kernel_rfl
theorem Gs:fE Tryz.prog 177 3=some (3,3):=by kernel_rfl
theorem Gr:fE Tryz.prog 177 4=some (4,3):=by kernel_rfl
theorem rA:fE Tryz.prog 218 0=some (0,3):=by kernel_rfl
theorem lB:fE Tryz.prog 218 1=some (1,94):=by kernel_rfl
theorem Gq:fE Tryz.prog 269 0=some (0,165):=by kernel_rfl
theorem So:fE Tryz.prog 269 1=some (7,4):=by kernel_rfl
theorem mS:fE Tryz.prog 27 0=some (0,23):=by kernel_rfl
theorem qL:fE Tryz.prog 27 1=some (1,24):=by kernel_rfl
theorem nS:fE Tryz.prog 27 2=some (2,25):=by kernel_rfl
theorem wW:fE Tryz.prog 37 0=some (0,9):=by kernel_rfl
theorem qK:fE Tryz.prog 37 1=some (1,23):=by kernel_rfl
theorem tM:fE Tryz.prog 37 2=some (2,35):=by kernel_rfl
theorem qJ:fE Tryz.prog 46 0=some (0,3):=by kernel_rfl
theorem Bw:fE Tryz.prog 46 1=some (1,43):=by kernel_rfl
theorem tL:fE Tryz.prog 46 2=some (2,9):=by kernel_rfl
theorem Bv:fE Tryz.prog 46 3=some (3,3):=by kernel_rfl
theorem mR:fE Tryz.prog 46 4=some (4,44):=by kernel_rfl
theorem Ym:fE Tryz.prog 61 0=some (0,3):=by kernel_rfl
theorem Bu:fE Tryz.prog 61 1=some (1,28):=by kernel_rfl
theorem wV:fE Tryz.prog 76 0=some (0,9):=by kernel_rfl
theorem Yl:fE Tryz.prog 76 1=some (1,43):=by kernel_rfl
theorem tK:fE Tryz.prog 76 2=some (2,69):=by kernel_rfl
theorem Bt:fE Tryz.prog 76 3=some (3,4):=by kernel_rfl
theorem Br:fE Tryz.prog 76 4=some (4,4):=by kernel_rfl
theorem tJ:fE Tryz.prog 94 0=some (0,3):=by kernel_rfl
theorem tI:fE Tryz.prog 94 1=some (1,3):=by kernel_rfl
theorem tH:fE Tryz.prog 94 2=some (2,3):=by kernel_rfl
theorem mQ:fE Tryz.prog 94 3=some (3,91):=by kernel_rfl
theorem jO:fE Tryz.prog 94 4=some (4,92):=by kernel_rfl
theorem tG:fE Tryz.prog 96 0=some (0,9):=by kernel_rfl
theorem wU:fE Tryz.prog 96 1=some (1,94):=by kernel_rfl
theorem Gp:yR Tryz.prog 145=some .u64:=by kernel_rfl
theorem FC:yR Tryz.prog 146=some .u64:=by kernel_rfl
theorem Vf:yR Tryz.prog 21=some .i32:=by kernel_rfl
theorem pU:yR Tryz.prog 3=some .i64:=by kernel_rfl
theorem rZ:yR Tryz.prog 43=some .u32:=by kernel_rfl
theorem xT:yR Tryz.prog 5=some .u8:=by kernel_rfl
theorem uL:yR Tryz.prog 69=none:=by kernel_rfl
theorem xS:yR Tryz.prog 9=none:=by kernel_rfl
theorem FB:sW Tryz.prog 109=some [(0,1),(1,1),(2,1),(3,1)]:=by kernel_rfl
theorem FA:sW Tryz.prog 120=some [(0,1),(1,1),(2,1),(3,1)]:=by kernel_rfl
theorem zV:sW Tryz.prog 122=some [(0,1),(1,1),(2,1),(3,1),(4,1)]:=by kernel_rfl
theorem Pv:sW Tryz.prog 133=some [(0,1),(1,1),(2,1)]:=by kernel_rfl
theorem EZ:sW Tryz.prog 162=some [(0,1),(1,1),(2,1),(3,1)]:=by kernel_rfl
theorem nB:sW Tryz.prog 165=some [(0,1),(1,1),(2,1),(3,1),(4,1),(5,1),(6,1)]:=by kernel_rfl
theorem EY:sW Tryz.prog 167=some [(0,7),(7,1)]:=by kernel_rfl
theorem Pu:sW Tryz.prog 177=some [(0,1),(1,1),(2,1),(3,1),(4,1)]:=by kernel_rfl
theorem Pt:sW Tryz.prog 218=some [(0,1),(1,5)]:=by kernel_rfl
theorem EW:sW Tryz.prog 269=some [(0,7),(7,1)]:=by kernel_rfl
theorem Ve:sW Tryz.prog 27=some [(0,1),(1,1),(2,1)]:=by kernel_rfl
theorem Vd:sW Tryz.prog 37=some [(0,1),(1,1),(2,1)]:=by kernel_rfl
theorem rY:sW Tryz.prog 46=some [(0,1),(1,1),(2,1),(3,1),(4,1)]:=by kernel_rfl
theorem Lw:sW Tryz.prog 61=some [(0,1),(1,1)]:=by kernel_rfl
theorem Vc:sW Tryz.prog 76=some [(0,1),(1,1),(2,1),(3,1),(4,1)]:=by kernel_rfl
theorem uK:sW Tryz.prog 94=some [(0,1),(1,1),(2,1),(3,1),(4,1)]:=by kernel_rfl
theorem Vb:sW Tryz.prog 96=some [(0,1),(1,5)]:=by kernel_rfl
theorem oI:szOf Tryz.prog 102=some 1:=by kernel_rfl
theorem kH:szOf Tryz.prog 122=some 5:=by kernel_rfl
theorem oH:szOf Tryz.prog 163=some 1:=by kernel_rfl
theorem fH:szOf Tryz.prog 165=some 7:=by kernel_rfl
theorem Ps:szOf Tryz.prog 167=some 8:=by kernel_rfl
theorem kG:szOf Tryz.prog 177=some 5:=by kernel_rfl
theorem lM:szOf Tryz.prog 218=some 6:=by kernel_rfl
theorem lA:szOf Tryz.prog 23=some 1:=by kernel_rfl
theorem wT:szOf Tryz.prog 24=some 1:=by kernel_rfl
theorem rX:szOf Tryz.prog 25=some 1:=by kernel_rfl
theorem zU:szOf Tryz.prog 269=some 8:=by kernel_rfl
theorem mP:szOf Tryz.prog 27=some 3:=by kernel_rfl
theorem lW:szOf Tryz.prog 28=some 1:=by kernel_rfl
theorem cH:szOf Tryz.prog 3=some 1:=by kernel_rfl
theorem Lv:szOf Tryz.prog 34=some 1:=by kernel_rfl
theorem jU:szOf Tryz.prog 35=some 1:=by kernel_rfl
theorem pF:szOf Tryz.prog 37=some 3:=by kernel_rfl
theorem Gn:szOf Tryz.prog 4=some 1:=by kernel_rfl
theorem oG:szOf Tryz.prog 43=some 1:=by kernel_rfl
theorem jT:szOf Tryz.prog 44=some 1:=by kernel_rfl
theorem eF:szOf Tryz.prog 46=some 5:=by kernel_rfl
theorem vW:szOf Tryz.prog 5=some 1:=by kernel_rfl
theorem Lu:szOf Tryz.prog 52=some 1:=by kernel_rfl
theorem wS:szOf Tryz.prog 61=some 2:=by kernel_rfl
theorem zT:szOf Tryz.prog 69=some 1:=by kernel_rfl
theorem pE:szOf Tryz.prog 76=some 5:=by kernel_rfl
theorem Lt:szOf Tryz.prog 84=some 1:=by kernel_rfl
theorem dM:szOf Tryz.prog 9=some 1:=by kernel_rfl
theorem qB:szOf Tryz.prog 91=some 1:=by kernel_rfl
theorem mO:szOf Tryz.prog 92=some 1:=by kernel_rfl
theorem gO:szOf Tryz.prog 94=some 5:=by kernel_rfl
theorem jS:szOf Tryz.prog 96=some 6:=by kernel_rfl
theorem Gm:Tryz.prog.underlying 145=some (.int .u64):=by kernel_rfl
theorem EV:Tryz.prog.underlying 146=some (.int .u64):=by kernel_rfl
theorem Uz:Tryz.prog.underlying 21=some (.int .i32):=by kernel_rfl
theorem KM:Tryz.prog.underlying 23=some (.slice 96):=by kernel_rfl
theorem KL:Tryz.prog.underlying 24=some (.slice 76):=by kernel_rfl
theorem pT:Tryz.prog.underlying 3=some (.int .i64):=by kernel_rfl
theorem OO:Tryz.prog.underlying 4=some (.bool):=by kernel_rfl
theorem rW:Tryz.prog.underlying 43=some (.int .u32):=by kernel_rfl
theorem pS:Tryz.prog.underlying 5=some (.int .u8):=by kernel_rfl
theorem uJ:Tryz.prog.underlying 69=some (.slice 5):=by kernel_rfl
theorem gI:Tryz.prog.underlying 9=some (.string):=by kernel_rfl
end Go.Proofs.YtmbmmckagcdapaaGreatDoor
