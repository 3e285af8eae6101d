import Derived.Test.YtmbmmckagcdapaaGreatDoorChecked
import Derived.Test.YtmbmmckagcdapaaGreatDoorU06
set_option linter.all false
namespace Go.Proofs.YtmbmmckagcdapaaGreatDoor
open Go.RowKit
theorem nJ:iF Tryz.prog 102=some false:=by kernel_rfl
theorem rK:iF Tryz.prog 122=some true:=by kernel_rfl
theorem rJ:iF Tryz.prog 163=some false:=by kernel_rfl
theorem iJ:iF Tryz.prog 165=some true:=by kernel_rfl
theorem BS:iF Tryz.prog 167=some true:=by kernel_rfl
theorem Dv:iF Tryz.prog 177=some true:=by kernel_rfl
theorem xN:iF Tryz.prog 218=some true:=by kernel_rfl
theorem oF:iF Tryz.prog 23=some false:=by kernel_rfl
theorem Sa:iF Tryz.prog 24=some false:=by kernel_rfl
theorem Jj:iF Tryz.prog 25=some false:=by kernel_rfl
theorem xM:iF Tryz.prog 27=some true:=by kernel_rfl
theorem kE:iF Tryz.prog 28=some false:=by kernel_rfl
theorem cQ:iF Tryz.prog 3=some false:=by kernel_rfl
theorem Ji:iF Tryz.prog 34=some false:=by kernel_rfl
theorem mE:iF Tryz.prog 35=some false:=by kernel_rfl
theorem sN:iF Tryz.prog 37=some true:=by kernel_rfl
theorem BR:iF Tryz.prog 4=some false:=by kernel_rfl
theorem oE:iF Tryz.prog 43=some false:=by kernel_rfl
theorem kD:iF Tryz.prog 44=some false:=by kernel_rfl
theorem eO:iF Tryz.prog 46=some true:=by kernel_rfl
theorem BQ:iF Tryz.prog 5=some false:=by kernel_rfl
theorem Jh:iF Tryz.prog 52=some false:=by kernel_rfl
theorem At:iF Tryz.prog 61=some true:=by kernel_rfl
theorem Rz:iF Tryz.prog 69=some false:=by kernel_rfl
theorem Jg:iF Tryz.prog 76=some true:=by kernel_rfl
theorem Jf:iF Tryz.prog 84=some false:=by kernel_rfl
theorem eF:iF Tryz.prog 9=some false:=by kernel_rfl
theorem xL:iF Tryz.prog 91=some false:=by kernel_rfl
theorem sM:iF Tryz.prog 92=some false:=by kernel_rfl
theorem jG:iF Tryz.prog 94=some true:=by kernel_rfl
theorem As:iF Tryz.prog 96=some true:=by kernel_rfl
theorem Nm:kN Tryz.prog 109=some [.sl [] .nl,.im (.int .i64 0),.im (.int .i64 0),.im (.int .i64 0)]:=by kernel_rfl
theorem BP:kN Tryz.prog 120=some [.im (.string ByteArray.empty),.im (.int .i64 0),.im (.int .i64 0),.sl [] .nl]:=by kernel_rfl
theorem lD:kN Tryz.prog 122=some [.im (.int .i64 0),.im (.string ByteArray.empty),.im (.int .u32 0),.im (.int .i64 0),.im (.int .i64 0)]:=by kernel_rfl
theorem Du:kN Tryz.prog 133=some [.sl [] .nl,.im (.int .i64 0),.im (.int .i64 0)]:=by kernel_rfl
theorem BO:kN Tryz.prog 162=some [.im .nilFunc,.sl [] .nl,.sl [] .nl,.sl [] .nl]:=by kernel_rfl
theorem BN:kN Tryz.prog 163=some [.sl [] .nl]:=by kernel_rfl
theorem hG:kN Tryz.prog 165=some [.im (.int .i64 0),.im (.int .i64 0),.im (.string ByteArray.empty),.sl [] .nl,.sl [] .nl,.sl [] .nl,.sl [] .nl]:=by kernel_rfl
theorem Nl:kN Tryz.prog 167=some [.im (.int .i64 0),.im (.int .i64 0),.im (.string ByteArray.empty),.sl [] .nl,.sl [] .nl,.sl [] .nl,.sl [] .nl,.im (.bool false)]:=by kernel_rfl
theorem Dt:kN Tryz.prog 177=some [.im (.int .i64 0),.im (.string ByteArray.empty),.im (.int .u32 0),.im (.int .i64 0),.im (.int .i64 0)]:=by kernel_rfl
theorem rI:kN Tryz.prog 218=some [.im (.int .i64 0),.im (.int .i64 0),.im (.int .i64 0),.im (.int .i64 0),.sl [] .nl,.sl [] .nl]:=by kernel_rfl
theorem GD:kN Tryz.prog 23=some [.sl [] .nl]:=by kernel_rfl
theorem xK:kN Tryz.prog 27=some [.sl [] .nl,.sl [] .nl,.sl [] .nl]:=by kernel_rfl
theorem Py:kN Tryz.prog 3=some [.im (.int .i64 0)]:=by kernel_rfl
theorem Ar:kN Tryz.prog 35=some [.sl [] .nl]:=by kernel_rfl
theorem qC:kN Tryz.prog 37=some [.im (.string ByteArray.empty),.sl [] .nl,.sl [] .nl]:=by kernel_rfl
theorem fG:kN Tryz.prog 46=some [.im (.int .i64 0),.im (.int .u32 0),.im (.string ByteArray.empty),.im (.int .i64 0),.sl [] .nl]:=by kernel_rfl
theorem Px:kN Tryz.prog 5=some [.im (.int .u8 0)]:=by kernel_rfl
theorem oD:kN Tryz.prog 61=some [.im (.int .i64 0),.im (.int .i64 0)]:=by kernel_rfl
theorem Je:kN Tryz.prog 76=some [.im (.string ByteArray.empty),.im (.int .u32 0),.sl [] .nl,.im (.bool false),.im (.bool false)]:=by kernel_rfl
theorem sL:kN Tryz.prog 9=some [.im (.string ByteArray.empty)]:=by kernel_rfl
theorem oC:kN Tryz.prog 94=some [.im (.int .i64 0),.im (.int .i64 0),.im (.int .i64 0),.sl [] .nl,.sl [] .nl]:=by kernel_rfl
theorem qB:kN Tryz.prog 96=some [.im (.string ByteArray.empty),.im (.int .i64 0),.im (.int .i64 0),.im (.int .i64 0),.sl [] .nl,.sl [] .nl]:=by kernel_rfl
theorem BM:yS Tryz.prog 122=some 48:=by kernel_rfl
theorem Nk:yS Tryz.prog 165=some 128:=by kernel_rfl
theorem BL:yS Tryz.prog 167=some 136:=by kernel_rfl
theorem BK:yS Tryz.prog 177=some 48:=by kernel_rfl
theorem Nj:yS Tryz.prog 218=some 80:=by kernel_rfl
theorem Jd:yS Tryz.prog 35=some 24:=by kernel_rfl
theorem GC:yS Tryz.prog 37=some 64:=by kernel_rfl
theorem BJ:yS Tryz.prog 5=some 1:=by kernel_rfl
theorem GB:yS Tryz.prog 76=some 56:=by kernel_rfl
theorem Pw:yS Tryz.prog 9=some 16:=by kernel_rfl
theorem uU:yS Tryz.prog 96=some 88:=by kernel_rfl
theorem mD:gK Tryz.prog 102=some 177:=by kernel_rfl
theorem Ni:gK Tryz.prog 157=some 167:=by kernel_rfl
theorem nI:gK Tryz.prog 163=some 35:=by kernel_rfl
theorem Nh:gK Tryz.prog 215=some 23:=by kernel_rfl
theorem mC:gK Tryz.prog 23=some 96:=by kernel_rfl
theorem xJ:gK Tryz.prog 235=some 3:=by kernel_rfl
theorem Aq:gK Tryz.prog 24=some 76:=by kernel_rfl
theorem Jc:gK Tryz.prog 25=some 37:=by kernel_rfl
theorem Ng:gK Tryz.prog 283=some 163:=by kernel_rfl
theorem uT:gK Tryz.prog 35=some 165:=by kernel_rfl
theorem fM:gK Tryz.prog 44=some 46:=by kernel_rfl
theorem qA:gK Tryz.prog 52=some 122:=by kernel_rfl
theorem sK:gK Tryz.prog 69=some 5:=by kernel_rfl
theorem kS:gK Tryz.prog 84=some 9:=by kernel_rfl
theorem sJ:gK Tryz.prog 91=some 94:=by kernel_rfl
theorem sI:gK Tryz.prog 92=some 218:=by kernel_rfl
theorem kI:eI Tryz.prog 109 0=some (0,102):=by kernel_rfl
theorem gX:eI Tryz.prog 109 1=some (1,3):=by kernel_rfl
theorem sH:eI Tryz.prog 109 2=some (2,3):=by kernel_rfl
theorem jB:eI Tryz.prog 109 3=some (3,28):=by kernel_rfl
theorem pG:eI Tryz.prog 120 0=some (0,9):=by kernel_rfl
theorem Ds:eI Tryz.prog 120 1=some (1,3):=by kernel_rfl
theorem Dr:eI Tryz.prog 120 2=some (2,3):=by kernel_rfl
theorem Pv:eI Tryz.prog 120 3=some (3,52):=by kernel_rfl
theorem lO:eI Tryz.prog 122 0=some (0,3):=by kernel_rfl
theorem mS:eI Tryz.prog 122 1=some (1,9):=by kernel_rfl
theorem pF:eI Tryz.prog 122 2=some (2,43):=by kernel_rfl
theorem Dq:eI Tryz.prog 122 3=some (3,3):=by kernel_rfl
theorem Dp:eI Tryz.prog 122 4=some (4,3):=by kernel_rfl
theorem Do:eI Tryz.prog 133 0=some (0,52):=by kernel_rfl
theorem fU:eI Tryz.prog 133 1=some (1,3):=by kernel_rfl
theorem sG:eI Tryz.prog 133 2=some (2,3):=by kernel_rfl
theorem Pu:eI Tryz.prog 162 0=some (0,34):=by kernel_rfl
theorem Pt:eI Tryz.prog 162 1=some (1,84):=by kernel_rfl
theorem Dn:eI Tryz.prog 162 2=some (2,84):=by kernel_rfl
theorem Ps:eI Tryz.prog 162 3=some (3,84):=by kernel_rfl
theorem kH:eI Tryz.prog 165 0=some (0,3):=by kernel_rfl
theorem Dm:eI Tryz.prog 165 1=some (1,3):=by kernel_rfl
theorem mR:eI Tryz.prog 165 2=some (2,9):=by kernel_rfl
theorem lN:eI Tryz.prog 165 3=some (3,44):=by kernel_rfl
theorem pE:eI Tryz.prog 165 4=some (4,35):=by kernel_rfl
theorem pD:eI Tryz.prog 165 5=some (5,35):=by kernel_rfl
theorem pC:eI Tryz.prog 165 6=some (6,163):=by kernel_rfl
theorem Dl:eI Tryz.prog 167 0=some (0,165):=by kernel_rfl
theorem Pr:eI Tryz.prog 167 1=some (7,4):=by kernel_rfl
theorem vS:eI Tryz.prog 177 0=some (0,3):=by kernel_rfl
theorem vR:eI Tryz.prog 177 1=some (1,9):=by kernel_rfl
theorem Dk:eI Tryz.prog 177 2=some (2,43):=by kernel_rfl
theorem Pq:eI Tryz.prog 177 3=some (3,3):=by kernel_rfl
theorem Pp:eI Tryz.prog 177 4=some (4,3):=by kernel_rfl
theorem vQ:eI Tryz.prog 218 0=some (0,3):=by kernel_rfl
theorem pB:eI Tryz.prog 218 1=some (1,94):=by kernel_rfl
theorem rH:eI Tryz.prog 27 0=some (0,23):=by kernel_rfl
theorem zF:eI Tryz.prog 27 1=some (1,24):=by kernel_rfl
theorem uS:eI Tryz.prog 27 2=some (2,25):=by kernel_rfl
theorem Gs:eI Tryz.prog 37 0=some (0,9):=by kernel_rfl
theorem rG:eI Tryz.prog 37 1=some (1,23):=by kernel_rfl
theorem uR:eI Tryz.prog 37 2=some (2,35):=by kernel_rfl
theorem uQ:eI Tryz.prog 46 0=some (0,3):=by kernel_rfl
theorem Gr:eI Tryz.prog 46 1=some (1,43):=by kernel_rfl
theorem zE:eI Tryz.prog 46 2=some (2,9):=by kernel_rfl
theorem Gq:eI Tryz.prog 46 3=some (3,3):=by kernel_rfl
theorem mQ:eI Tryz.prog 46 4=some (4,44):=by kernel_rfl
theorem Vm:eI Tryz.prog 61 0=some (0,3):=by kernel_rfl
theorem uP:eI Tryz.prog 61 1=some (1,28):=by kernel_rfl
theorem Gp:eI Tryz.prog 76 0=some (0,9):=by kernel_rfl
theorem Gn:eI Tryz.prog 76 2=some (2,69):=by kernel_rfl
theorem Vl:eI Tryz.prog 76 3=some (3,4):=by kernel_rfl
theorem Vk:eI Tryz.prog 76 4=some (4,4):=by kernel_rfl
theorem zD:eI Tryz.prog 94 0=some (0,3):=by kernel_rfl
theorem zC:eI Tryz.prog 94 1=some (1,3):=by kernel_rfl
theorem zB:eI Tryz.prog 94 2=some (2,3):=by kernel_rfl
theorem rF:eI Tryz.prog 94 3=some (3,91):=by kernel_rfl
theorem kR:eI Tryz.prog 94 4=some (4,92):=by kernel_rfl
theorem zA:eI Tryz.prog 96 0=some (0,9):=by kernel_rfl
theorem yZ:eI Tryz.prog 96 1=some (1,94):=by kernel_rfl
theorem Dj:wL Tryz.prog 145=some .u64:=by kernel_rfl
theorem BI:wL Tryz.prog 146=some .u64:=by kernel_rfl
theorem Ry:wL Tryz.prog 21=some .i32:=by kernel_rfl
theorem nQ:wL Tryz.prog 3=some .i64:=by kernel_rfl
theorem pZ:wL Tryz.prog 43=some .u32:=by kernel_rfl
theorem vP:wL Tryz.prog 5=some .u8:=by kernel_rfl
theorem uO:wL Tryz.prog 69=none:=by kernel_rfl
theorem yY:wL Tryz.prog 9=none:=by kernel_rfl
theorem Nf:rM Tryz.prog 109=some [(0,1),(1,1),(2,1),(3,1)]:=by kernel_rfl
theorem BH:rM Tryz.prog 120=some [(0,1),(1,1),(2,1),(3,1)]:=by kernel_rfl
theorem xI:rM Tryz.prog 122=some [(0,1),(1,1),(2,1),(3,1),(4,1)]:=by kernel_rfl
theorem Di:rM Tryz.prog 133=some [(0,1),(1,1),(2,1)]:=by kernel_rfl
theorem BG:rM Tryz.prog 162=some [(0,1),(1,1),(2,1),(3,1)]:=by kernel_rfl
theorem lC:rM Tryz.prog 165=some [(0,1),(1,1),(2,1),(3,1),(4,1),(5,1),(6,1)]:=by kernel_rfl
theorem BF:rM Tryz.prog 167=some [(0,7),(7,1)]:=by kernel_rfl
theorem Nc:rM Tryz.prog 177=some [(0,1),(1,1),(2,1),(3,1),(4,1)]:=by kernel_rfl
theorem Nb:rM Tryz.prog 218=some [(0,1),(1,5)]:=by kernel_rfl
theorem GA:rM Tryz.prog 27=some [(0,1),(1,1),(2,1)]:=by kernel_rfl
theorem Ap:rM Tryz.prog 37=some [(0,1),(1,1),(2,1)]:=by kernel_rfl
theorem oB:rM Tryz.prog 46=some [(0,1),(1,1),(2,1),(3,1),(4,1)]:=by kernel_rfl
theorem Ao:rM Tryz.prog 61=some [(0,1),(1,1)]:=by kernel_rfl
theorem FZ:rM Tryz.prog 76=some [(0,1),(1,1),(2,1),(3,1),(4,1)]:=by kernel_rfl
theorem sF:rM Tryz.prog 94=some [(0,1),(1,1),(2,1),(3,1),(4,1)]:=by kernel_rfl
theorem Rx:rM Tryz.prog 96=some [(0,1),(1,5)]:=by kernel_rfl
theorem nH:szOf Tryz.prog 102=some 1:=by kernel_rfl
theorem iI:szOf Tryz.prog 122=some 5:=by kernel_rfl
theorem rE:szOf Tryz.prog 163=some 1:=by kernel_rfl
theorem gH:szOf Tryz.prog 165=some 7:=by kernel_rfl
theorem Na:szOf Tryz.prog 167=some 8:=by kernel_rfl
theorem kG:szOf Tryz.prog 177=some 5:=by kernel_rfl
theorem pA:szOf Tryz.prog 218=some 6:=by kernel_rfl
theorem mB:szOf Tryz.prog 23=some 1:=by kernel_rfl
theorem Jb:szOf Tryz.prog 24=some 1:=by kernel_rfl
theorem An:szOf Tryz.prog 25=some 1:=by kernel_rfl
theorem uN:szOf Tryz.prog 27=some 3:=by kernel_rfl
theorem kC:szOf Tryz.prog 28=some 1:=by kernel_rfl
theorem cN:szOf Tryz.prog 3=some 1:=by kernel_rfl
theorem Ja:szOf Tryz.prog 34=some 1:=by kernel_rfl
theorem kB:szOf Tryz.prog 35=some 1:=by kernel_rfl
theorem oA:szOf Tryz.prog 37=some 3:=by kernel_rfl
theorem BE:szOf Tryz.prog 4=some 1:=by kernel_rfl
theorem nZ:szOf Tryz.prog 43=some 1:=by kernel_rfl
theorem kA:szOf Tryz.prog 44=some 1:=by kernel_rfl
theorem dG:szOf Tryz.prog 46=some 5:=by kernel_rfl
theorem yX:szOf Tryz.prog 5=some 1:=by kernel_rfl
theorem Iz:szOf Tryz.prog 52=some 1:=by kernel_rfl
theorem pY:szOf Tryz.prog 61=some 2:=by kernel_rfl
theorem Rw:szOf Tryz.prog 69=some 1:=by kernel_rfl
theorem xH:szOf Tryz.prog 76=some 5:=by kernel_rfl
theorem Iy:szOf Tryz.prog 84=some 1:=by kernel_rfl
theorem dR:szOf Tryz.prog 9=some 1:=by kernel_rfl
theorem xG:szOf Tryz.prog 91=some 1:=by kernel_rfl
theorem nY:szOf Tryz.prog 92=some 1:=by kernel_rfl
theorem jF:szOf Tryz.prog 94=some 5:=by kernel_rfl
theorem kQ:szOf Tryz.prog 96=some 6:=by kernel_rfl
theorem Dh:Tryz.prog.underlying 145=some (.int .u64):=by kernel_rfl
theorem BD:Tryz.prog.underlying 146=some (.int .u64):=by kernel_rfl
theorem Rv:Tryz.prog.underlying 21=some (.int .i32):=by kernel_rfl
theorem FY:Tryz.prog.underlying 24=some (.slice 76):=by kernel_rfl
theorem nP:Tryz.prog.underlying 3=some (.int .i64):=by kernel_rfl
theorem pX:Tryz.prog.underlying 43=some (.int .u32):=by kernel_rfl
theorem oZ:Tryz.prog.underlying 5=some (.int .u8):=by kernel_rfl
theorem uM:Tryz.prog.underlying 69=some (.slice 5):=by kernel_rfl
theorem gB:Tryz.prog.underlying 9=some (.string):=by kernel_rfl
end Go.Proofs.YtmbmmckagcdapaaGreatDoor
