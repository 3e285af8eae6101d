import Derived.Test.YtmbmmckagcdapaaGreatDoorQ21
import Derived.Test.YtmbmmckagcdapaaGreatDoorQ15
import Derived.Test.YtmbmmckagcdapaaGreatDoorQ16
set_option linter.all false
namespace Go.Proofs.YtmbmmckagcdapaaGreatDoor
open Go.RowKit
def fV(a:Nat)(e:Int):Value:= .iface 61 (.agg #[.int .i64 a,.int .i64 e])
def XC{α:Type}(P:Program)(f:FuncId)(xs:List V)(ts:List Tk)(a o:Nat)(val:α→V):Rs α→Prop
 | .ok x b p=>DC P f xs [.box [.sl (ts.map tkV) .ro,.im (.int .i64 (a:Int)),.im (.int .i64 (o:Int))]] (val x) [.box [.sl (ts.map tkV) .ro,.im (.int .i64 (b:Int)),.im (.int .i64 (p:Int))]]
 | .bad b e=>PDC P f xs [.box [.sl (ts.map tkV) .ro,.im (.int .i64 (a:Int)),.im (.int .i64 (o:Int))]] (fV b e) [.box (List.replicate 3 .dead)]
def XQ{α:Type}(P:Program)(fn:Func)(ts:List Tk)(a o:Nat)(val:α→V):Rs α→Exit→St→Prop
 | .ok x b p=>Fin P fn (ofl [.box [.sl (ts.map tkV) .ro,.im (.int .i64 (a:Int)),.im (.int .i64 (o:Int))]]) fun z st=>z=val x∧st=ofl [.box [.sl (ts.map tkV) .ro,.im (.int .i64 (b:Int)),.im (.int .i64 (p:Int))]]
 | .bad b e=>PFin 3 (fV b e)
section
variable {α:Type} {P:Program} {f:FuncId} {xs:List V} {ts:List Tk} {a o:Nat} {val:α→V}
theorem XC.good{x:α}{b p:Nat}(h:XC P f xs ts a o val (.ok x b p)):DC P f xs [.box [.sl (ts.map tkV) .ro,.im (.int .i64 (a:Int)),.im (.int .i64 (o:Int))]] (val x) [.box [.sl (ts.map tkV) .ro,.im (.int .i64 (b:Int)),.im (.int .i64 (p:Int))]]:=h
theorem XC.fails{b:Nat}{e:Int}(h:XC P f xs ts a o val (.bad b e)):PDC P f xs [.box [.sl (ts.map tkV) .ro,.im (.int .i64 (a:Int)),.im (.int .i64 (o:Int))]] (fV b e) [.box (List.replicate 3 .dead)]:=h
theorem XC.enter{fn:Func}{c:Code}{s:List (Nat×V)}{r:Rs α}(N:Nat)(hf:P.funcs[f]? =some fn)(hb:fn.body=some c)(hn:fn.name≠ "runtime.NumGoroutine")(hN:fn.ntmps=N)(hx:Nat.ble xs.length N=true)(hs:enum 0 xs=s)
  (h:AWp P (ofl [.box [.sl (ts.map tkV) .ro,.im (.int .i64 (a:Int)),.im (.int .i64 (o:Int))]]) c (XQ P fn ts a o val r) ⟨dn N s,ofl [.box [.sl (ts.map tkV) .ro,.im (.int .i64 (a:Int)),.im (.int .i64 (o:Int))]]⟩):XC P f xs ts a o val r:=by
 cases r with
 | ok x b p=>exact DC.enter N hf hb hn hN hx hs h
 | bad b e=>exact PDC.enter N hf hb hn hN hx hs h
theorem xcEnt{fn:Func}{c:Code}{r:Rs α}(N:Nat)(hf:P.funcs[f]? =some fn)(hb:fn.body=some c)(s:List (Nat×V))
  (h:AWp P (ofl [.box [.sl (ts.map tkV) .ro,.im (.int .i64 (a:Int)),.im (.int .i64 (o:Int))]]) c (XQ P fn ts a o val r) ⟨dn N s,ofl [.box [.sl (ts.map tkV) .ro,.im (.int .i64 (a:Int)),.im (.int .i64 (o:Int))]]⟩) (hn:fn.name≠ "runtime.NumGoroutine" :=by decide) (hN:fn.ntmps=N:=by rfl) (hx:Nat.ble xs.length N=true:=by rfl) (hs:enum 0 xs=s:=by rfl):XC P f xs ts a o val r:=XC.enter N hf hb hn hN hx hs h
end
theorem PFin.i{n:Nat}{v:Value}{A:St}{cs:List V}(h:A.st 0= .box cs)(hn:cs.length=n):PFin n v (.panic (chn v)) A:=⟨rfl,cs,h,hn⟩
end Go.Proofs.YtmbmmckagcdapaaGreatDoor
