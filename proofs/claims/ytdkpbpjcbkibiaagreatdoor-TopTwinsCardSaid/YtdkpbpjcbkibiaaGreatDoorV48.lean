/- Opx -/
import Derived.Test.YtdkpbpjcbkibiaaGreatDoorV29
import Derived.Test.YtdkpbpjcbkibiaaGreatDoorV47
set_option linter.all false
set_option maxRecDepth 100000
set_option maxHeartbeats 4000000
namespace Go.Proofs.YtdkpbpjcbkibiaaGreatDoor.B
open Go.RowKit
section
open Go.RowKit Go.ChangeShapes
variable{i:Nat}
variable{H:Type}{enc:TypeId×Value→H}{w:World}{held:Bool}{fuel:Nat}{cs:List Value}{x:DataW H×List MemPlace}
noncomputable abbrev TR(enc:TypeId×Value→H)(w:World)(held:Bool)(fuel:Nat)(t:TypeId)(cs:List Value):=DataW.trod enc Tryz.prog w 0 (fun _=>true) held fuel t cs
theorem drop_take{α:Type}{l:List α}{n:Nat}{A:List α}(h:(l.drop i).take n=A):l.drop i=A++l.drop (i+n):=by rw[←h,←List.drop_drop,aAa]
theorem AY{t:TypeId}(hu:Tryz.prog.underlying t=some (.struct (Tryz.prog.fieldsOf t)))(h:TR enc w held fuel t cs=some x)(i t' off:Nat)(hi:((Tryz.prog.fieldsOf t)[i]?).map (fun f=>(f.type,f.offset))=some (t',off)):cs.length=Tryz.prog.cellsOf t∧∃n y,TR enc w held n t' ((cs.drop off).take (Tryz.prog.cellsOf t'))=some y:=by
 obtain⟨xs,n,rfl,hx,hlen,yf,hf⟩:=DataW.trod_struct hu h;obtain⟨f,hf1,yK⟩:=az5.1 hi;have:=hf i f hf1;simp only[azX]at yK;rw[yK.1,yK.2]at this;have gD:i<xs.length:=by rw[yf];exact(ayv.1 hf1).1
 exact⟨hlen,n,xs[i],this.trans (ayq gD)⟩
theorem iA{k:IntKind}{t:Nat}(hc:Tryz.prog.cellsOf t=1)(hu:Tryz.prog.underlying t=some (.int k))(h:TR enc w held fuel t ((cs.drop i).take (Tryz.prog.cellsOf t))=some x):∃n,cs.drop i=.int k n::cs.drop (i+1)∧(Lit.int k n).wf=true:=by rw[hc]at h;obtain⟨n,e,_,hw⟩:=DataW.trod_int hu h;exact⟨n,drop_take e,hw⟩
theorem NK(h:TR enc w held fuel 31 cs=some x):∃hs:bU,cs=eT hs:=by
 obtain⟨xs,m,rfl,hx,hlen,yf,hf⟩:=DataW.trod_array (n:=32) (e:=5) kr h;have Br:Tryz.prog.cellsOf 31=32:=by kernel_rfl
 rw[Br]at hlen
 have at_:∀i,i<32→∃b:UInt8,cs[i]?=some (.int .u8 b.toNat):=fun i hi=>by
  have h:=hf i hi;rw[show Tryz.prog.cellsOf 5=1 by kernel_rfl,aAs,ayq om]at h;obtain⟨n,e,_,hw⟩:=DataW.trod_int (k:=.u8) U5 h;have hb:0≤n∧n<256:=by simp[Lit.wf,IntKind.min,IntKind.max,IntKind.signed,IntKind.bits]at hw;omega
  refine⟨UInt8.ofNat n.toNat,?_⟩;have e2:cs[i]?=((cs.drop i).take 1)[0]?:=by simp[aAo,azi]
  rw[e2,e];simp only[List.getElem?_cons_zero,UInt8.toNat_ofNat'];rw[show((n.toNat%2^8:Nat):Int)=n by omega]
 let bs:=(List.range 32).map fun i=>if hi:i<32 then(at_ i hi).choose else 0
 refine⟨⟨bs,by simp[bs]⟩,?_⟩;apply azC;intro i;unfold eT;simp only[bs,ayL];by_cases hi:i<32;·rw[aAm hi,(at_ i hi).choose_spec];simp[dif_pos hi]
 ·rw[azW om,azW (by simp;omega)];rfl
theorem NL(h:TR enc w held fuel 33 cs=some x):∃v:cZ,cs=ks v:=by
 have hu:Tryz.prog.underlying 33=some (.struct (Tryz.prog.fieldsOf 33)):=by kernel_rfl
 have F:=AY hu h;obtain⟨hl,_,_,h0⟩:=F 0 3 0 kr;obtain⟨_,_,_,h1⟩:=F 1 4 1 kr;obtain⟨_,_,_,h2⟩:=F 2 3 2 kr;obtain⟨_,_,_,h3⟩:=F 3 3 3 kr;obtain⟨_,_,_,h4⟩:=F 4 3 4 kr;obtain⟨_,_,_,h5⟩:=F 5 3 5 kr;obtain⟨a0,e0,_⟩:=iA kY U3 h0;rw[show Tryz.prog.cellsOf 4=1 by kernel_rfl]at h1;obtain⟨a1,e1,_⟩:=DataW.trod_bool U4 h1;have e1:=drop_take e1;obtain⟨a2,e2,_⟩:=iA kY U3 h2;obtain⟨a3,e3,_⟩:=iA kY U3 h3;obtain⟨a4,e4,_⟩:=iA kY U3 h4;obtain⟨a5,e5,_⟩:=iA kY U3 h5;refine⟨⟨a0,a1,a2,a3,a4,a5⟩,?_⟩;have e6:cs.drop 6=[]:=azb (by rw[hl];exact ay4 kr);rw[show cs=cs.drop 0 from rfl,e0,e1,e2,e3,e4,e5,e6];rfl
theorem S6(h:TR enc w held fuel 38 cs=some x):∃(e:se) (c4:Array Value),cs=xd e.kind e.dy e.iV e.n e.ref e.aa e.level e.sum e.bZ c4∧bw w (fun b=>b<w.heap.size) c4 e.call:=by
 have hu:Tryz.prog.underlying 38=some (.struct (Tryz.prog.fieldsOf 38)):=by kernel_rfl
 have F:=AY hu h;obtain⟨hl,_,_,h0⟩:=F 0 3 0 kr;obtain⟨_,_,_,h1⟩:=F 1 3 1 kr;obtain⟨_,_,_,h2⟩:=F 2 3 2 kr;obtain⟨_,_,_,h3⟩:=F 3 3 3 kr;obtain⟨_,_,_,h4⟩:=F 4 3 4 kr;obtain⟨_,_,_,h5⟩:=F 5 3 5 kr;obtain⟨_,_,_,h6⟩:=F 6 3 6 kr;obtain⟨_,_,_,h7⟩:=F 7 31 7 kr;obtain⟨_,_,_,h8⟩:=F 8 33 39 kr;obtain⟨_,_,_,h9⟩:=F 9 36 45 kr;obtain⟨a0,e0,_⟩:=iA kY U3 h0;obtain⟨a1,e1,_⟩:=iA kY U3 h1;obtain⟨a2,e2,_⟩:=iA kY U3 h2;obtain⟨a3,e3,_⟩:=iA kY U3 h3;obtain⟨a4,e4,_⟩:=iA kY U3 h4;obtain⟨a5,e5,_⟩:=iA kY U3 h5;obtain⟨a6,e6,_⟩:=iA kY U3 h6;rw[show Tryz.prog.cellsOf 31=32 by kernel_rfl]at h7;rw[show Tryz.prog.cellsOf 33=6 by kernel_rfl]at h8;rw[EB]at h9;obtain⟨hs,e7⟩:=NK h7;have e7:=drop_take e7;obtain⟨v,e8⟩:=NL h8;have e8:=drop_take e8;obtain⟨c,hc⟩:=NJ _ _ _ h9;have e9:=drop_take (l:=cs) (i:=45) (n:=4) rfl;have e10:cs.drop 49=[]:=azb (by rw[hl];exact ay4 kr);refine⟨⟨a0,a1,a2,a3,a4,a5,a6,hs,v,c⟩,_,?_,hc⟩;show cs=xd a0 a1 a2 a3 a4 a5 a6 hs v _;unfold xd;rw[←azD ((cs.drop 45).take 4).toArray.toList,←e10];show cs=_;conv=>lhs;rw[show cs=cs.drop 0 from rfl,e0,e1,e2,e3,e4,e5,e6,e7,e8,e9]
 simp;exact ay4 (hl.trans kr)
theorem S7(h:TR enc w held fuel 40 cs=some x):∃(a:rb) (c4:Array Value),cs.toArray=pV a c4∧bw w (fun b=>b<w.heap.size) c4 a.e.call:=by
 have hu:Tryz.prog.underlying 40=some (.struct (Tryz.prog.fieldsOf 40)):=by kernel_rfl
 have F:=AY hu h;obtain⟨hl,_,_,h0⟩:=F 0 38 0 kr;obtain⟨_,_,_,h1⟩:=F 1 3 49 kr;rw[show Tryz.prog.cellsOf 38=49 by kernel_rfl]at h0;obtain⟨e,c4,q,hc⟩:=S6 h0;have q:=drop_take q;obtain⟨n,e1,_⟩:=iA kY U3 h1;have e2:cs.drop 50=[]:=azb (by rw[hl];exact ay4 kr);refine⟨⟨e,n⟩,c4,?_,hc⟩;have:cs=xd e.kind e.dy e.iV e.n e.ref e.aa e.level e.sum e.bZ c4++[.int .i64 n]:=by rw[show cs=cs.drop 0 from rfl,q,e1,e2]
 rw[this];unfold pV;show _=(cj _ _ _ _ _ _ _ _ _ _).push _;unfold cj;simp
theorem aeq(h:TR enc w held fuel 22 cs=some x):(∃b,cs=[.slice b 0 0])∨∃g off c arr ty l,cs=[.slice (some ⟨g,off,none⟩) l.length c]∧xD w (fun b=>b<w.heap.size) g off c arr ty l:=by
 have J3:Tryz.prog.cellsOf 40=50:=by kernel_rfl
 rcases DataW.trod_slice U22 h with⟨e3,_⟩|⟨a,len,cap,elems,rest,n2,EC,e3,_,_,hlc,hcm,hel,AX,S4,_⟩;·exact .inl ⟨none,e3⟩
 ·by_cases hl:len=0
  ·subst hl;by_cases hc0:cap=0;·subst hc0;exact .inl ⟨_,e3⟩
   ·have S4:=S4 rfl;rw[J3]at S4;have h:=S4.2 0 om;rw[ayq om]at h;obtain⟨c0,hc,_⟩:=aza.1 h;have ea:a.add ((0+0)*50)=a:=rfl;rw[ea]at hc;obtain⟨g,off,ea,arr,ty,hb,jv,_⟩:=sy hc dd;subst ea;exact .inr ⟨g,off,cap,arr,ty,[],e3,hb,by show off+0≤_;omega,ayP _,fun i x hx=>by simp at hx⟩
  ·rw[J3]at AX;have h:=AX 0 om;rw[ayq om]at h;obtain⟨c0,hc,_⟩:=aza.1 h;have ea:a.add (0*50)=a:=rfl;rw[ea]at hc;obtain⟨g,off,ea,arr,ty,hb,jv,_⟩:=sy hc dd;subst ea
   have one:∀i,i<len→off+i*50+50≤arr.size∧∃(a:rb) (c4:Array Value),arr.extract (off+i*50) (off+i*50+50)=pV a c4∧bw w (fun b=>b<w.heap.size) c4 a.e.call:=by
    intro i hi;have h:=AX i hi;rw[ayq om]at h;obtain⟨ci,hc,ht⟩:=aza.1 h;obtain⟨g',ju,ea,bW,ty',hb',adr,rfl⟩:=sy hc dd;rw[Addr.add_lit]at ea;cases ea;have he:bW=arr:=by obtain⟨f1,q1⟩:=hb;obtain⟨f2,q2⟩:=hb';rw[q1]at q2;cases q2;rfl
    subst he;obtain⟨a,c4,q,hc⟩:=S7 ht;exact⟨adr,a,c4,by rw[←q,azH],hc⟩
   have all:∃l:List rb,l.length=len∧∀(i:Nat) x,l[i]?=some x→∃c4,arr.extract (off+i*50) (off+i*50+50)=pV x c4∧bw w (fun b=>b<w.heap.size) c4 x.e.call:=by
    refine⟨(List.range len).pmap (fun i hi=>(one i hi).2.choose) (fun i hi=>aCR.1 hi),by simp,fun i x hx=>?_⟩;obtain⟨hi,rfl⟩:=ays.1 hx;have hi:i<len:=by simpa using hi
    rw[List.getElem_pmap];have:=(one i hi).2.choose_spec;simpa using this
   obtain⟨l,rfl,v8⟩:=all;have S5:=(one (l.length-1) om).1;exact .inr ⟨g,off,cap,arr,ty,l,e3,hb,by omega,hlc,v8⟩
end
end Go.Proofs.YtdkpbpjcbkibiaaGreatDoor.B
