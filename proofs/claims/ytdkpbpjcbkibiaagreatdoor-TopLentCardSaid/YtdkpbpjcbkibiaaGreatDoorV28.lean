/- Asl -/
import Derived.Test.YtdkpbpjcbkibiaaGreatDoorV27
import Derived.Test.YtdkpbpjcbkibiaaGreatDoorRows
set_option linter.all false
set_option maxRecDepth 100000
set_option maxHeartbeats 4000000
namespace Go.Proofs.YtdkpbpjcbkibiaaGreatDoor.B
open Go.RowKit
section
open Go.RowKit Go.ChangeShapes Go.Lib
abbrev aaE:List (String×DataW Unit):=[("unicode.White_Space",Rows.laid_unicode_White_Space),("strings.asciiSpace",Rows.laid_strings_asciiSpace)]
def ajg(d:DataW Unit)(i:Nat):Option (DataW Unit):=match d with
 |.agg ds=>ds[i]?
 |_=>none
def ajh:List (DataW Unit):=match(Rows.laid_strings_asciiSpace:DataW Unit)with
 |.agg ds=>ds
 |_=>[]
theorem abd:Rows.laid_strings_asciiSpace=.agg ajh:=rfl
theorem abj:((List.range 256).all fun i=>match ajg Rows.laid_strings_asciiSpace i with
 |some (.lit (.int .u8 n))=>decide (n=agP i)
 |_=>false)=true:=by decide+kernel
theorem abk{W:World}(h:laidMetH Tryz.prog aaE W):Bi W:=by
 rw[MakeChecks.laidMetH_plain _ _ _ kr]at h;obtain⟨g,t,cs,fuel,p,hg,ht,hv,hd⟩:=laidMet.reads h (n:= "strings.asciiSpace") (d:=Rows.laid_strings_asciiSpace) (by simp[aaE]);have eg:Tryz.prog.globalNamed "strings.asciiSpace"=some 1:=by kernel_rfl
 obtain rfl:=aAh (eg.symm.trans hg);have et:(Tryz.prog.globals[1]?).map (·.type)=some 377:=by kernel_rfl
 obtain rfl:=aAh (et.symm.trans ht);unfold World.var? at hv;rw[eg]at hv;simp only[aAy]at hv;split at hv
 ·rename_i c ty fz e;cases hv;refine⟨cs,ty,⟨fz,e⟩,fun i hi=>?_⟩;have yT:=ayS.1 abj i (aCR.2 hi);obtain⟨f2,d,q,h1,h2⟩:=array_elem (n:=256) (e:=5) (ds:=ajh) kr (by rw[abd]at hd;exact hd) i hi;have e1:ajg Rows.laid_strings_asciiSpace i=some d:=by rw[abd];exact h1
  rw[e1]at yT;rw[show Tryz.prog.cellsOf 5=1 by kernel_rfl,aAs]at h2;obtain⟨n,e2,e3,_⟩:=DataW.trod_int (k:=.u8) U5 h2;cases e3;simp only[decide_eq_true_eq]at yT;have e4:cs[i]?=((cs.toList.drop i).take 1)[0]?:=by simp[aAo,azi]
  rw[e4,e2,yT];rfl
 ·cases hv
noncomputable def adJ(os:Os):World:=World.laidAll Tryz.prog os aaE
theorem abm(os:Os)(args:Array Value):laidMetH Tryz.prog aaE ((adJ os).forCall (fun _ _=>0) ⟨#[],args,[]⟩).memory:=by rw[MakeChecks.laidMetH_plain _ _ _ kr];exact laidMet_laidAll _ kr kr
theorem aa1(os:Os)(args:Array Value):((adJ os).forCall (fun _ _=>0) ⟨#[],args,[]⟩).Shaped Tryz.prog:=World.shaped_of_ZipB kr kr
end
end Go.Proofs.YtdkpbpjcbkibiaaGreatDoor.B
