import Derived.Test.YtmbmmckagcdapaaGreatDoorChecked
import Derived.Test.YtmbmmckagcdapaaGreatDoorN07
set_option linter.all false
namespace Go.Proofs.YtmbmmckagcdapaaGreatDoor
open Go.RowKit
theorem oL:gJ Tryz.prog 122=some true:=by kernel_rfl
theorem oK:gJ Tryz.prog 163=some false:=by kernel_rfl
theorem jB:gJ Tryz.prog 165=some true:=by kernel_rfl
theorem JG:gJ Tryz.prog 167=some true:=by kernel_rfl
theorem JF:gJ Tryz.prog 198=some true:=by kernel_rfl
theorem tY:gJ Tryz.prog 218=some true:=by kernel_rfl
theorem lM:gJ Tryz.prog 23=some false:=by kernel_rfl
theorem Ci:gJ Tryz.prog 24=some false:=by kernel_rfl
theorem vL:gJ Tryz.prog 25=some false:=by kernel_rfl
theorem pF:gJ Tryz.prog 27=some true:=by kernel_rfl
theorem Ch:gJ Tryz.prog 28=some false:=by kernel_rfl
theorem cN:gJ Tryz.prog 3=some false:=by kernel_rfl
theorem Lq:gJ Tryz.prog 34=some false:=by kernel_rfl
theorem kL:gJ Tryz.prog 35=some false:=by kernel_rfl
theorem Cg:gJ Tryz.prog 37=some true:=by kernel_rfl
theorem Lp:gJ Tryz.prog 4=some false:=by kernel_rfl
theorem mQ:gJ Tryz.prog 43=some false:=by kernel_rfl
theorem iL:gJ Tryz.prog 44=some false:=by kernel_rfl
theorem fM:gJ Tryz.prog 46=some true:=by kernel_rfl
theorem Lo:gJ Tryz.prog 5=some false:=by kernel_rfl
theorem Ce:gJ Tryz.prog 52=some false:=by kernel_rfl
theorem Ln:gJ Tryz.prog 61=some true:=by kernel_rfl
theorem vK:gJ Tryz.prog 69=some false:=by kernel_rfl
theorem yM:gJ Tryz.prog 71=some true:=by kernel_rfl
theorem Cd:gJ Tryz.prog 76=some true:=by kernel_rfl
theorem Lm:gJ Tryz.prog 84=some false:=by kernel_rfl
theorem dN:gJ Tryz.prog 9=some false:=by kernel_rfl
theorem vJ:gJ Tryz.prog 91=some false:=by kernel_rfl
theorem sL:gJ Tryz.prog 92=some false:=by kernel_rfl
theorem iK:gJ Tryz.prog 94=some true:=by kernel_rfl
theorem Cc:gJ Tryz.prog 96=some true:=by kernel_rfl
theorem Qc:iR Tryz.prog 120=some [.im (.string ByteArray.empty),.im (.int .i64 0),.im (.int .i64 0),.sl [] .nl]:=by kernel_rfl
theorem jO:iR Tryz.prog 122=some [.im (.int .i64 0),.im (.string ByteArray.empty),.im (.int .u32 0),.im (.int .i64 0),.im (.int .i64 0)]:=by kernel_rfl
theorem Qb:iR Tryz.prog 133=some [.sl [] .nl,.im (.int .i64 0),.im (.int .i64 0)]:=by kernel_rfl
theorem JE:iR Tryz.prog 162=some [.im .nilFunc,.sl [] .nl,.sl [] .nl,.sl [] .nl]:=by kernel_rfl
theorem JD:iR Tryz.prog 163=some [.sl [] .nl]:=by kernel_rfl
theorem kD:iR Tryz.prog 165=some [.im (.int .i64 0),.im (.int .i64 0),.im (.string ByteArray.empty),.sl [] .nl,.sl [] .nl,.sl [] .nl,.sl [] .nl]:=by kernel_rfl
theorem Qa:iR Tryz.prog 167=some [.im (.int .i64 0),.im (.int .i64 0),.im (.string ByteArray.empty),.sl [] .nl,.sl [] .nl,.sl [] .nl,.sl [] .nl,.im (.bool false)]:=by kernel_rfl
theorem Pz:iR Tryz.prog 198=some [.im (.string ByteArray.empty),.im (.int .i64 0)]:=by kernel_rfl
theorem JC:iR Tryz.prog 206=some [.im (.pointer none),.sl [] .nl]:=by kernel_rfl
theorem qQ:iR Tryz.prog 218=some [.im (.int .i64 0),.im (.int .i64 0),.im (.int .i64 0),.im (.int .i64 0),.sl [] .nl,.sl [] .nl]:=by kernel_rfl
theorem OG:iR Tryz.prog 23=some [.sl [] .nl]:=by kernel_rfl
theorem JB:iR Tryz.prog 244=some [.im (.string ByteArray.empty),.im (.int .i64 0),.im (.string ByteArray.empty),.im (.int .i64 0),.im (.string ByteArray.empty),.im (.int .i64 0),.im (.string ByteArray.empty),.im (.int .i64 0),.im (.string ByteArray.empty),.im (.int .i64 0),.im (.string ByteArray.empty),.im (.int .i64 0),.im (.string ByteArray.empty),.im (.int .i64 0),.im (.string ByteArray.empty),.im (.int .i64 0),.im (.string ByteArray.empty),.im (.int .i64 0),.im (.string ByteArray.empty),.im (.int .i64 0),.im (.string ByteArray.empty),.im (.int .i64 0),.im (.string ByteArray.empty),.im (.int .i64 0),.im (.string ByteArray.empty),.im (.int .i64 0)]:=by kernel_rfl
theorem JA:iR Tryz.prog 254=some [.im (.int .u8 0),.im (.int .u8 0),.im (.int .u8 0),.im (.int .u8 0),.im (.int .u8 0),.im (.int .u8 0),.im (.int .u8 0),.im (.int .u8 0),.im (.int .u8 0),.im (.int .u8 0),.im (.int .u8 0),.im (.int .u8 0),.im (.int .u8 0),.im (.int .u8 0),.im (.int .u8 0),.im (.int .u8 0),.im (.int .u8 0),.im (.int .u8 0),.im (.int .u8 0),.im (.int .u8 0),.im (.int .u8 0),.im (.int .u8 0),.im (.int .u8 0),.im (.int .u8 0)]:=by kernel_rfl
theorem sK:iR Tryz.prog 27=some [.sl [] .nl,.sl [] .nl,.sl [] .nl]:=by kernel_rfl
theorem IZ:iR Tryz.prog 281=some [.im (.int .u8 0),.im (.int .u8 0),.im (.int .u8 0),.im (.int .u8 0),.im (.int .u8 0),.im (.int .u8 0),.im (.int .u8 0),.im (.int .u8 0),.im (.int .u8 0),.im (.int .u8 0),.im (.int .u8 0),.im (.int .u8 0),.im (.int .u8 0),.im (.int .u8 0),.im (.int .u8 0),.im (.int .u8 0),.im (.int .u8 0),.im (.int .u8 0),.im (.int .u8 0),.im (.int .u8 0),.im (.int .u8 0),.im (.int .u8 0),.im (.int .u8 0),.im (.int .u8 0),.im (.int .u8 0),.im (.int .u8 0),.im (.int .u8 0),.im (.int .u8 0),.im (.int .u8 0),.im (.int .u8 0),.im (.int .u8 0),.im (.int .u8 0),.im (.int .u8 0),.im (.int .u8 0),.im (.int .u8 0),.im (.int .u8 0),.im (.int .u8 0),.im (.int .u8 0),.im (.int .u8 0),.im (.int .u8 0),.im (.int .u8 0),.im (.int .u8 0),.im (.int .u8 0),.im (.int .u8 0),.im (.int .u8 0),.im (.int .u8 0),.im (.int .u8 0),.im (.int .u8 0),.im (.int .u8 0),.im (.int .u8 0),.im (.int .u8 0),.im (.int .u8 0),.im (.int .u8 0),.im (.int .u8 0),.im (.int .u8 0),.im (.int .u8 0),.im (.int .u8 0),.im (.int .u8 0),.im (.int .u8 0),.im (.int .u8 0),.im (.int .u8 0),.im (.int .u8 0),.im (.int .u8 0),.im (.int .u8 0),.im (.int .u8 0)]:=by kernel_rfl
theorem Ll:iR Tryz.prog 35=some [.sl [] .nl]:=by kernel_rfl
theorem Cb:iR Tryz.prog 37=some [.im (.string ByteArray.empty),.sl [] .nl,.sl [] .nl]:=by kernel_rfl
theorem jV:iR Tryz.prog 46=some [.im (.int .i64 0),.im (.int .u32 0),.im (.string ByteArray.empty),.im (.int .i64 0),.sl [] .nl]:=by kernel_rfl
theorem Fu:iR Tryz.prog 5=some [.im (.int .u8 0)]:=by kernel_rfl
theorem pE:iR Tryz.prog 61=some [.im (.int .i64 0),.im (.int .i64 0)]:=by kernel_rfl
theorem OF:iR Tryz.prog 73=some [.im (.pointer none),.sl [] .nl,.im (.int .i64 0)]:=by kernel_rfl
theorem Ca:iR Tryz.prog 76=some [.im (.string ByteArray.empty),.im (.int .u32 0),.sl [] .nl,.im (.bool false),.im (.bool false)]:=by kernel_rfl
theorem lL:iR Tryz.prog 9=some [.im (.string ByteArray.empty)]:=by kernel_rfl
theorem yL:iR Tryz.prog 94=some [.im (.int .i64 0),.im (.int .i64 0),.im (.int .i64 0),.sl [] .nl,.sl [] .nl]:=by kernel_rfl
theorem sJ:iR Tryz.prog 96=some [.im (.string ByteArray.empty),.im (.int .i64 0),.im (.int .i64 0),.im (.int .i64 0),.sl [] .nl,.sl [] .nl]:=by kernel_rfl
theorem IY:Fc Tryz.prog 244=some (13,198):=by kernel_rfl
theorem IX:Fc Tryz.prog 281=some (65,5):=by kernel_rfl
theorem Py:Bb Tryz.prog 122=some 48:=by kernel_rfl
theorem IW:Bb Tryz.prog 165=some 128:=by kernel_rfl
theorem IV:Bb Tryz.prog 167=some 136:=by kernel_rfl
theorem IU:Bb Tryz.prog 218=some 80:=by kernel_rfl
theorem Wg:Bb Tryz.prog 35=some 24:=by kernel_rfl
theorem OE:Bb Tryz.prog 37=some 64:=by kernel_rfl
theorem Ft:Bb Tryz.prog 5=some 1:=by kernel_rfl
theorem OD:Bb Tryz.prog 76=some 56:=by kernel_rfl
theorem Tp:Bb Tryz.prog 9=some 16:=by kernel_rfl
theorem yK:Bb Tryz.prog 96=some 88:=by kernel_rfl
theorem Px:gC Tryz.prog 157=some 167:=by kernel_rfl
theorem lK:gC Tryz.prog 163=some 35:=by kernel_rfl
theorem Pw:gC Tryz.prog 215=some 23:=by kernel_rfl
theorem lJ:gC Tryz.prog 23=some 96:=by kernel_rfl
theorem vI:gC Tryz.prog 24=some 76:=by kernel_rfl
theorem vH:gC Tryz.prog 25=some 37:=by kernel_rfl
theorem Pv:gC Tryz.prog 283=some 163:=by kernel_rfl
theorem pD:gC Tryz.prog 35=some 165:=by kernel_rfl
theorem gT:gC Tryz.prog 44=some 46:=by kernel_rfl
theorem pC:gC Tryz.prog 52=some 122:=by kernel_rfl
theorem lI:gC Tryz.prog 69=some 5:=by kernel_rfl
theorem iW:gC Tryz.prog 84=some 9:=by kernel_rfl
theorem sI:gC Tryz.prog 91=some 94:=by kernel_rfl
theorem sH:gC Tryz.prog 92=some 218:=by kernel_rfl
theorem mF:dQ Tryz.prog 120 0=some (0,9):=by kernel_rfl
theorem wT:dQ Tryz.prog 120 1=some (1,3):=by kernel_rfl
theorem wS:dQ Tryz.prog 120 2=some (2,3):=by kernel_rfl
theorem Fs:dQ Tryz.prog 120 3=some (3,52):=by kernel_rfl
theorem kQ:dQ Tryz.prog 122 0=some (0,3):=by kernel_rfl
theorem mE:dQ Tryz.prog 122 1=some (1,9):=by kernel_rfl
theorem oJ:dQ Tryz.prog 122 2=some (2,43):=by kernel_rfl
theorem wR:dQ Tryz.prog 122 3=some (3,3):=by kernel_rfl
theorem wQ:dQ Tryz.prog 122 4=some (4,3):=by kernel_rfl
theorem Fr:dQ Tryz.prog 133 0=some (0,52):=by kernel_rfl
theorem fT:dQ Tryz.prog 133 1=some (1,3):=by kernel_rfl
theorem sG:dQ Tryz.prog 133 2=some (2,3):=by kernel_rfl
theorem To:dQ Tryz.prog 162 0=some (0,34):=by kernel_rfl
theorem Tn:dQ Tryz.prog 162 1=some (1,84):=by kernel_rfl
theorem Fq:dQ Tryz.prog 162 2=some (2,84):=by kernel_rfl
theorem Tm:dQ Tryz.prog 162 3=some (3,84):=by kernel_rfl
theorem iE:dQ Tryz.prog 165 0=some (0,3):=by kernel_rfl
theorem wP:dQ Tryz.prog 165 1=some (1,3):=by kernel_rfl
theorem mD:dQ Tryz.prog 165 2=some (2,9):=by kernel_rfl
theorem iV:dQ Tryz.prog 165 3=some (3,44):=by kernel_rfl
theorem mC:dQ Tryz.prog 165 4=some (4,35):=by kernel_rfl
theorem mB:dQ Tryz.prog 165 5=some (5,35):=by kernel_rfl
theorem mA:dQ Tryz.prog 165 6=some (6,163):=by kernel_rfl
theorem Fp:dQ Tryz.prog 167 0=some (0,165):=by kernel_rfl
theorem Tl:dQ Tryz.prog 167 1=some (7,4):=by kernel_rfl
theorem Tj:dQ Tryz.prog 198 0=some (0,9):=by kernel_rfl
theorem Fo:dQ Tryz.prog 198 1=some (1,3):=by kernel_rfl
theorem wO:dQ Tryz.prog 206 0=some (0,71):=by kernel_rfl
theorem sF:dQ Tryz.prog 218 0=some (0,3):=by kernel_rfl
theorem lZ:dQ Tryz.prog 218 1=some (1,94):=by kernel_rfl
theorem lY:dQ Tryz.prog 27 0=some (0,23):=by kernel_rfl
theorem qP:dQ Tryz.prog 27 1=some (1,24):=by kernel_rfl
theorem lX:dQ Tryz.prog 27 2=some (2,25):=by kernel_rfl
theorem Ag:dQ Tryz.prog 37 0=some (0,9):=by kernel_rfl
theorem qO:dQ Tryz.prog 37 1=some (1,23):=by kernel_rfl
theorem vG:dQ Tryz.prog 37 2=some (2,35):=by kernel_rfl
theorem nN:dQ Tryz.prog 46 0=some (0,3):=by kernel_rfl
theorem Af:dQ Tryz.prog 46 1=some (1,43):=by kernel_rfl
theorem vF:dQ Tryz.prog 46 2=some (2,9):=by kernel_rfl
theorem Ae:dQ Tryz.prog 46 3=some (3,3):=by kernel_rfl
theorem lW:dQ Tryz.prog 46 4=some (4,44):=by kernel_rfl
theorem BA:dQ Tryz.prog 61 0=some (0,3):=by kernel_rfl
theorem vE:dQ Tryz.prog 61 1=some (1,28):=by kernel_rfl
theorem Io:dQ Tryz.prog 71 1=some (1,69):=by kernel_rfl
theorem In:dQ Tryz.prog 73 0=some (0,71):=by kernel_rfl
theorem qN:dQ Tryz.prog 73 1=some (2,3):=by kernel_rfl
theorem vD:dQ Tryz.prog 76 0=some (0,9):=by kernel_rfl
theorem Im:dQ Tryz.prog 76 1=some (1,43):=by kernel_rfl
theorem vC:dQ Tryz.prog 76 2=some (2,69):=by kernel_rfl
theorem Ad:dQ Tryz.prog 76 3=some (3,4):=by kernel_rfl
theorem Ac:dQ Tryz.prog 76 4=some (4,4):=by kernel_rfl
theorem qM:dQ Tryz.prog 94 0=some (0,3):=by kernel_rfl
theorem vB:dQ Tryz.prog 94 1=some (1,3):=by kernel_rfl
theorem vA:dQ Tryz.prog 94 2=some (2,3):=by kernel_rfl
theorem nM:dQ Tryz.prog 94 3=some (3,91):=by kernel_rfl
theorem jU:dQ Tryz.prog 94 4=some (4,92):=by kernel_rfl
theorem uZ:dQ Tryz.prog 96 0=some (0,9):=by kernel_rfl
theorem uY:dQ Tryz.prog 96 1=some (1,94):=by kernel_rfl
theorem qL:xL Tryz.prog 145=some .u64:=by kernel_rfl
theorem Fl:xL Tryz.prog 146=some .u64:=by kernel_rfl
theorem Wf:xL Tryz.prog 21=some .i32:=by kernel_rfl
theorem tX:xL Tryz.prog 3=some .i64:=by kernel_rfl
theorem sD:xL Tryz.prog 43=some .u32:=by kernel_rfl
theorem Lk:xL Tryz.prog 5=some .u8:=by kernel_rfl
theorem sC:xL Tryz.prog 69=none:=by kernel_rfl
theorem wN:xL Tryz.prog 9=none:=by kernel_rfl
theorem Pu:pI Tryz.prog 120=some [(0,1),(1,1),(2,1),(3,1)]:=by kernel_rfl
theorem tW:pI Tryz.prog 122=some [(0,1),(1,1),(2,1),(3,1),(4,1)]:=by kernel_rfl
theorem Pt:pI Tryz.prog 133=some [(0,1),(1,1),(2,1)]:=by kernel_rfl
theorem IT:pI Tryz.prog 162=some [(0,1),(1,1),(2,1),(3,1)]:=by kernel_rfl
theorem yJ:pI Tryz.prog 165=some [(0,1),(1,1),(2,1),(3,1),(4,1),(5,1),(6,1)]:=by kernel_rfl
theorem IS:pI Tryz.prog 167=some [(0,7),(7,1)]:=by kernel_rfl
theorem IR:pI Tryz.prog 198=some [(0,1),(1,1)]:=by kernel_rfl
theorem IQ:pI Tryz.prog 206=some [(0,2)]:=by kernel_rfl
theorem IP:pI Tryz.prog 218=some [(0,1),(1,5)]:=by kernel_rfl
theorem We:pI Tryz.prog 27=some [(0,1),(1,1),(2,1)]:=by kernel_rfl
theorem OC:pI Tryz.prog 37=some [(0,1),(1,1),(2,1)]:=by kernel_rfl
theorem yI:pI Tryz.prog 46=some [(0,1),(1,1),(2,1),(3,1),(4,1)]:=by kernel_rfl
theorem Lj:pI Tryz.prog 61=some [(0,1),(1,1)]:=by kernel_rfl
theorem OB:pI Tryz.prog 73=some [(0,2),(2,1)]:=by kernel_rfl
theorem OA:pI Tryz.prog 76=some [(0,1),(1,1),(2,1),(3,1),(4,1)]:=by kernel_rfl
theorem Bz:pI Tryz.prog 94=some [(0,1),(1,1),(2,1),(3,1),(4,1)]:=by kernel_rfl
theorem NZ:pI Tryz.prog 96=some [(0,1),(1,5)]:=by kernel_rfl
theorem gR:szOf Tryz.prog 122=some 5:=by kernel_rfl
theorem oI:szOf Tryz.prog 163=some 1:=by kernel_rfl
theorem iA:szOf Tryz.prog 165=some 7:=by kernel_rfl
theorem Ps:szOf Tryz.prog 167=some 8:=by kernel_rfl
theorem Pr:szOf Tryz.prog 198=some 2:=by kernel_rfl
theorem oH:szOf Tryz.prog 218=some 6:=by kernel_rfl
theorem jT:szOf Tryz.prog 23=some 1:=by kernel_rfl
theorem yH:szOf Tryz.prog 24=some 1:=by kernel_rfl
theorem IN:szOf Tryz.prog 244=some 26:=by kernel_rfl
theorem sB:szOf Tryz.prog 25=some 1:=by kernel_rfl
theorem nH:szOf Tryz.prog 27=some 3:=by kernel_rfl
theorem By:szOf Tryz.prog 28=some 1:=by kernel_rfl
theorem cM:szOf Tryz.prog 3=some 1:=by kernel_rfl
theorem Li:szOf Tryz.prog 34=some 1:=by kernel_rfl
theorem jH:szOf Tryz.prog 35=some 1:=by kernel_rfl
theorem sA:szOf Tryz.prog 37=some 3:=by kernel_rfl
theorem Lh:szOf Tryz.prog 4=some 1:=by kernel_rfl
theorem mP:szOf Tryz.prog 43=some 1:=by kernel_rfl
theorem iJ:szOf Tryz.prog 44=some 1:=by kernel_rfl
theorem dP:szOf Tryz.prog 46=some 5:=by kernel_rfl
theorem rZ:szOf Tryz.prog 5=some 1:=by kernel_rfl
theorem Bx:szOf Tryz.prog 52=some 1:=by kernel_rfl
theorem rY:szOf Tryz.prog 61=some 2:=by kernel_rfl
theorem uX:szOf Tryz.prog 69=some 1:=by kernel_rfl
theorem yG:szOf Tryz.prog 71=some 2:=by kernel_rfl
theorem rX:szOf Tryz.prog 76=some 5:=by kernel_rfl
theorem Lg:szOf Tryz.prog 84=some 1:=by kernel_rfl
theorem cY:szOf Tryz.prog 9=some 1:=by kernel_rfl
theorem uW:szOf Tryz.prog 91=some 1:=by kernel_rfl
theorem nG:szOf Tryz.prog 92=some 1:=by kernel_rfl
theorem iI:szOf Tryz.prog 94=some 5:=by kernel_rfl
theorem kK:szOf Tryz.prog 96=some 6:=by kernel_rfl
theorem qK:Tryz.prog.underlying 145=some (.int .u64):=by kernel_rfl
theorem Fk:Tryz.prog.underlying 146=some (.int .u64):=by kernel_rfl
theorem Wd:Tryz.prog.underlying 21=some (.int .i32):=by kernel_rfl
theorem NY:Tryz.prog.underlying 24=some (.slice 76):=by kernel_rfl
theorem tV:Tryz.prog.underlying 3=some (.int .i64):=by kernel_rfl
theorem UK:Tryz.prog.underlying 4=some (.bool):=by kernel_rfl
theorem rW:Tryz.prog.underlying 43=some (.int .u32):=by kernel_rfl
theorem pT:Tryz.prog.underlying 5=some (.int .u8):=by kernel_rfl
theorem rV:Tryz.prog.underlying 69=some (.slice 5):=by kernel_rfl
theorem gV:Tryz.prog.underlying 9=some (.string):=by kernel_rfl
end Go.Proofs.YtmbmmckagcdapaaGreatDoor
