/- Sm Sa Sb -/
import Derived.Test.YtdkpbpjcbkibiaaGreatDoorV36
import Derived.Test.YtdkpbpjcbkibiaaGreatDoorV39
import Derived.Test.YtdkpbpjcbkibiaaGreatDoorV49
import Derived.Test.YtdkpbpjcbkibiaaGreatDoorV45
set_option linter.all false
set_option maxRecDepth 100000
set_option maxHeartbeats 4000000
namespace Go.Proofs.YtdkpbpjcbkibiaaGreatDoor.B
open Go.RowKit
section
open Go.RowKit
variable{b:Bool}{l a w la lb:Int}{v:cZ}{s t:bM}
def aqF:bn:=.mk 1 0 0 []
def afQ:se:=⟨2,1,0,0,0,0,0,cP,db,aqF⟩
def afR:se:=⟨4,2,0,0,0,0,0,hR,db,ky⟩
def aiE:se:=⟨5,3,0,0,0,0,0,cP,db,ky⟩
def aem(w:Int)(v:cZ):se:=⟨7,w,0,0,0,0,0,cP,v,ky⟩
def stX(K:List ((Int×Int)×Int))(V:List ((Int×Int)×cZ))(R:kF)(P0:Nat→Option cH)(p:cH)(x:aY)(w:Int)(A:List cS)(now:Int):bM:=⟨[(1000,0),(995,5),(990,10),(980,20),(1000,0),(1000,0),(1000,0),(1000,0),(1000,0),(1000,0)],K,iH P0 0 (some p),V,R,[((0,0),x)],[(hR,(aqF,1))],[(hR,w)],A,now⟩
def anj(b:Bool)(x:aY)(now:Int):aY×Int:=
 if x.since=-1 then(if 30≤wrap64 (now-x.aq)then(x,4)else(x,0))
 else
  let d:=if b=true then(if x.aZ=-1 then wrap64 (now+(dt x.aa).cm)else x.aZ)else-1
  if d=-1 then(if(dt x.aa).decision≤wrap64 (now-x.since)then(mF x (-1),3)else(mF x (-1),0))
  else if d≤now then(mF x d,2)
  else(mF x d,0)
def aqG(b:Bool)(now:Int)(a:bM×List iY)(e:(Int×Int)×aY):bM×List iY:=
 if e.2.state=1 then
  let r:=anj b e.2 now
  let s1:=a.1.rI (ej a.1.L 0 e.1.2 r.1)
  if r.2=0 then(s1,a.2)else(tU s1 r.1 e.1.2 r.2 now,a.2++[⟨1,e.1.2,r.2⟩])
 else a
def anl(b:Bool)(s:bM)(now:Int):bM×List iY:=(LF (aA (aA s 0 now) 1 now)).foldl (aqG b now) (aA (aA s 0 now) 1 now,[])
def anp(b:Bool)(s:bM):List iY×bM:=
 if 1073741824≤s.now then([],s)
 else
  let s1:=s.cq (s.now+1)
  let r:=(lM s1).foldl oX ([],qB s1)
  let q:=anl b r.2 r.2.now
  (r.1++q.2,bz q.1 q.2)
def adt:aY:=⟨1,0,hR,0,0,2,true,3,-1,-1,0,⟨0,0,0⟩⟩
def aiZ(u:Int):aY:=⟨1,0,hR,0,0,2,true,3,1,u,0,⟨0,0,0⟩⟩
def abw:Nat→bM→bM|0,s=>s|n+1,s=>abw n (jj s).2
def bkS:bM:=stX [] [] [] (fun _=>none) ⟨0,⟨0,0,0⟩,0,0⟩ adt 1 [] 0
def anq:bM:=(jF gT dH afQ).2
def aoQ:bM:=(jF gT anq afR).2
theorem e1:jF gT dH afQ=(0,anq):=Prod.ext kr rfl
theorem e2:jF gT anq afR=(0,aoQ):=Prod.ext kr rfl
theorem e3:jF gT aoQ aiE=(0,bkS):=by kernel_rfl
theorem anu(hl:0≤l∧l≤6)(ha:0≤a∧a≤1000):eE ⟨1,b,l,a,0,0⟩=true:=by simp[eE,rn,dn,wrap64];omega
theorem apP(ha:0≤a∧a≤1000):uf ⟨1,b,l,a,0,0⟩=a:=by simp[uf,wrap64];omega
theorem exV(hw:dn w 0 9=true)(hv:eE v=true):ee (aem w v)=true:=by simp[ee,aem,du,eJ,hv,hw];decide
theorem apV{H:bn→bU}(hw:dn w 0 9=true)(hv:eE v=true):jF H s (aem w v)=mS s w 0 v:=by unfold jF;rw[if_pos (exV hw hv)];rfl
def abT(la a:Int):j3:=ke ⟨0,0,0⟩ none ⟨1,true,la,a,0,0⟩ ⟨0,0⟩
theorem apd{p:cH}(hv:eE v=true)(hc:uf v≤1000)(h1:dn w 0 9=true)(hp:cM s.P 0=some p)(h0:p.state=0)(hd:(aF s.R w p.aa).ef.isSome=false)(hf:(iU s.fs w).1.1=1000)(hl:(bX s.P s.V w p.aa).length=0):mS s w 0 v=(0,pE s w 0 v p):=by unfold mS;rw[if_pos h1,if_pos hv,hp];dsimp only;rw[if_pos h0,hd,if_neg dd,hf,if_neg om,hl];split<;>rfl
theorem v4(hl:0≤la∧la≤6)(ha:0≤a∧a≤1000):mS (stX [] [] [] (fun _=>none) ⟨0,⟨0,0,0⟩,0,0⟩ adt 1 [] 0) 4 0 ⟨1,true,la,a,0,0⟩=(0,stX (rF [] 4 0 (uf ⟨1,true,la,a,0,0⟩)) [((4,0),⟨1,true,la,a,0,0⟩)] [((4,0),vz)] (iH (fun _=>none) 0 (some ⟨0,⟨0,0,0⟩,0,0⟩)) ⟨0,abT la a,0,0⟩ adt 1 [] 0):=(apd (p:=⟨0,⟨0,0,0⟩,0,0⟩) (anu hl ha) (by rw[apP ha];exact ha.2) rfl rfl rfl rfl rfl rfl).trans kr
def ai0(la a lb b:Int):j3:=ke (abT la a) none ⟨1,false,lb,b,0,0⟩ ⟨0,0⟩
theorem agm{x:Int}(h:-9223372036854775808≤x∧x<9223372036854775808):wrap64 x=x:=by unfold wrap64;omega
theorem afS(hl:0≤l∧l≤6)(ha:0≤a∧a≤1000):0≤fv a l∧fv a l≤6000∧a≤10*fv a l+9:=by
 obtain⟨h1,h2⟩:=hl;unfold fv;have:l=0∨l=1∨l=2∨l=3∨l=4∨l=5∨l=6:=by omega
 rcases this with rfl|rfl|rfl|rfl|rfl|rfl|rfl;·rw[if_pos rfl,Int.tdiv_eq_ediv_of_nonneg ha.1,agm om];omega
 all_goals rw[if_neg dd,agm om];omega
theorem ps{A N S:Int}(h1:10≤A∧A≤6000)(h2:0≤N∧N≤6000)(h3:100≤S∧S≤1000):BK tr0 ⟨A,N,S⟩ 10000=decide (N≤A):=by
 have e1:nR S 10000=mn (Int.tdiv (S*1000000000) 10000) 1000000000:=by unfold nR;rw[if_neg dd,agm (x:=S*1000000000) om,Int.tdiv_eq_ediv_of_nonneg om,agm om]
 have e2:nR A (A+N)=mn (A*1000000000/(A+N)) 1000000000:=by unfold nR;rw[if_neg om,agm (x:=A*1000000000) om,Int.tdiv_eq_ediv_of_nonneg om];have:=Int.ediv_le_self (b:=A+N) (show 0≤A*1000000000 by omega);have:=Int.ediv_nonneg (show 0≤A*1000000000 by omega) (show 0≤A+N by omega);rw[agm om]
 have e3:500000000≤A*1000000000/(A+N)↔N≤A:=by rw[Int.le_ediv_iff_mul_le om];omega
 show(decide ((500000000:Int)≤nR A (wrap64 (A+N)))&&decide ((10000000:Int)≤nR S 10000))=_;rw[agm (x:=A+N) om,e1,e2,Int.tdiv_eq_ediv_of_nonneg om];have e4:∀x:Int,500000000≤mn x 1000000000↔500000000≤x:=fun x=>by unfold mn;split<;>omega
 have e5:(10000000:Int)≤mn (S*1000000000/10000) 1000000000:=by unfold mn;split<;>omega
 simp only[e4,e3,e5,decide_true,Bool.and_true]
theorem v5{b:Int}(hl:0≤lb∧lb≤6)(hb:0≤b∧b≤1000){K:List ((Int×Int)×Int)}{P0:Nat→Option cH}:mS (stX K [((4,0),⟨1,true,la,a,0,0⟩)] [((4,0),vz)] P0 ⟨0,abT la a,0,0⟩ adt 1 [] 0) 5 0 ⟨1,false,lb,b,0,0⟩=(0,stX (rF K 5 0 (uf ⟨1,false,lb,b,0,0⟩)) [((4,0),⟨1,true,la,a,0,0⟩),((5,0),⟨1,false,lb,b,0,0⟩)] [((4,0),vz),((5,0),vz)] (iH P0 0 (some ⟨0,abT la a,0,0⟩)) ⟨0,ai0 la a lb b,0,0⟩ adt 1 [] 0):=(apd (p:=⟨0,abT la a,0,0⟩) (anu hl hb) (by rw[apP hb];exact hb.2) rfl rfl rfl kr rfl kr).trans kr
theorem T5e{b:Int}(h1:0≤la∧la≤6)(ha:0≤a∧a≤1000)(hl:0≤lb∧lb≤6)(hb:0≤b∧b≤1000):ai0 la a lb b=⟨fv a la,fv b lb,a⟩:=by have:=afS h1 ha;have:=afS hl hb;simp[ai0,abT,ke,dU,aI,wrap64];omega
theorem bs{n:Nat}{s':bM}{b':Bool}(h:b=b')(e:(jj s).2=(anp b s).2)(e2:(anp b' s).2=s')(k:abw n s'=t):abw (n+1) s=t:=by rw[abw,e,h,e2];exact k
section
variable{K:List ((Int×Int)×Int)}{V:List ((Int×Int)×cZ)}{R:kF}{P0:Nat→Option cH}{T:j3}
def adu(T:j3)(s n u:Int):aY:=⟨s,0,hR,0,0,2,true,3,1,u,n,T⟩
theorem aqH(h:BK tr0 T 10000=true):abw 5 (stX K V R P0 ⟨0,T,0,0⟩ adt 1 [] 0)=stX K V R (iH P0 0 (some ⟨0,T,0,0⟩)) ⟨0,T,2,3⟩ (adu T 2 3 3) 0 [] 5:=bs (s':=stX K V R P0 ⟨0,T,0,0⟩ (aiZ 3) 1 [] 1) h kr kr (bs (s':=stX K V R P0 ⟨0,T,0,0⟩ (aiZ 3) 1 [] 2) h kr kr (bs (s':=stX K V R (iH P0 0 (some ⟨0,T,0,0⟩)) ⟨0,T,2,3⟩ (adu T 2 3 3) 1 [⟨0,5,0,hR,0⟩] 3) h kr kr kr))
theorem runT(h:BK tr0 T 10000=true):(bS (abw 8 (stX K V R P0 ⟨0,T,0,0⟩ adt 1 [] 0)).L 0 0)=some (adu T 2 3 3):=by rw[show abw 8 (stX K V R P0 ⟨0,T,0,0⟩ adt 1 [] 0)=abw 3 (abw 5 (stX K V R P0 ⟨0,T,0,0⟩ adt 1 [] 0))from rfl,aqH h];kernel_rfl
theorem stF{n m:Int}{k:Nat}(hn:0≤n∧n≤5)(h:BK tr0 T 10000=false)(e:n+1=m)(g:abw k (stX K V R P0 ⟨0,T,0,0⟩ (aiZ (-1)) 1 [] m)=t):abw (k+1) (stX K V R P0 ⟨0,T,0,0⟩ (if n=0 then adt else aiZ (-1)) 1 [] n)=t:=by
 obtain⟨h1,h2⟩:=hn;have:n=0∨n=1∨n=2∨n=3∨n=4∨n=5:=by omega
 subst e;rcases this with rfl|rfl|rfl|rfl|rfl|rfl<;>exact bs h kr kr g
theorem arL(h:BK tr0 T 10000=false):(bS (abw 8 (stX K V R P0 ⟨0,T,0,0⟩ adt 1 [] 0)).L 0 0)=some (adu T 3 7 (-1)):=by rw[show abw 8 (stX K V R P0 ⟨0,T,0,0⟩ adt 1 [] 0)=abw 1 (stX K V R (iH P0 0 (some ⟨0,T,0,0⟩)) ⟨0,T,3,7⟩ (adu T 3 7 (-1)) 0 [] 7)from stF (n:=0) dd h rfl (stF (n:=1) dd h rfl (stF (n:=2) dd h rfl (stF (n:=3) dd h rfl (stF (n:=4) dd h rfl (stF (n:=5) dd h rfl (bs h kr kr rfl))))))];kernel_rfl
end
end
section
open Go.RowKit
variable{n g:Nat}{s:bM}{base c:Nat→Nat}{w0 w:World}{f:CF}{m:CV}{L:List (Nat×Array Value×TypeId)}
theorem aqI:EK dH:=⟨(fun _ h=>by cases h),aAk 0⟩
structure aa0(base:Nat→Nat)(w0 w:World)(c:Nat→Nat)(f:CF)(m:CV)(s:bM)(L:List (Nat×Array Value×TypeId)):Prop where
 ch:Ch w c f m s
 ok:EK s
 below:Bw w0 w
 z:∀b,b<w0.heap.size→c b=base b
 hp:Hp w L
 hz:∀x∈L,¬own (c x.1)
section
variable{base:Nat→Nat}{w0 w w2:World}{c c2:Nat→Nat}{f:CF}{m m2:CV}{s s2:bM}{L:List (Nat×Array Value×TypeId)}{g:Nat}{cs:Array Value}{t:TypeId}
theorem aa0.step(S:aa0 base w0 w c f m s L)(hb:Bw w w2):aa0 base w0 w2 c f m s L:=⟨S.ch.below hb,S.ok,U S.below hb,S.z,S.hp.below hb,S.hz⟩
theorem aa0.new(S:aa0 base w0 w c f m s L)(n:jr w w2 g cs t):aa0 base w0 w2 c f m s ((g,cs,t)::L):=⟨S.ch.below n.below,S.ok,U S.below n.below,S.z,S.hp.new n,fun x hx=>by
 rcases ayE.1 hx with q|q;·rw[q,S.ch.bG g n.fresh];exact kU
 ·exact S.hz x q⟩
theorem aa0.out(aen:∀b,¬own (base b))(S:aa0 base w0 w c f m s L)(k:Out w c m s w2 c2 f m2 s2)(ok:EK s2):aa0 base w0 w2 c2 f m2 s2 L:=by
 have hs:=S.below.size;refine⟨k.ch,ok,⟨k.turns.os.trans S.below.os,k.turns.tape.trans S.below.tape,k.turns.output.trans S.below.output,ayo hs k.turns.size,fun b hb=>(k.tn.block b (ayu hb hs) (fun q=>by have q2:own (c b):=q;rw[S.z b hb]at q2;exact aen b q2)).trans (S.below.block b hb)⟩,fun b q=>?_,S.hp.turns k.tn fun x hx=>S.hz x hx,fun x hx=>?_⟩;·rw[k.fp b om];exact S.z b q
 ·rw[k.fp _ (S.hp.2 x hx).lt];exact S.hz x hx
end
def apf(c:bn):Array Value:=#[i6 c.kind,i6 c.iV,i6 c.n,.slice none 0 0]
def ab7(e:se):Array Value:=cj e.kind e.dy e.iV e.n e.ref e.aa e.level e.sum e.bZ (apf e.call)
section
variable{r:Option Nat}{ops:Array Oper}{Q:Exit→Act→World→Prop}{a a':Act}{w w0:World}{rest:List Oper}{o:Oper}{v:Value}{L:List (Nat×Array Value×TypeId)}{base:Nat→Nat}{c:Nat→Nat}{f:CF}{m:CV}{s s':bM}{xs:Array Operand}{ts:Array TypeId}
theorem aep{G1:World→Prop}{k:FuncId}{args:Array Value}(hc:CP k args w fun e w'=>e=.returned v∧Bw w w')(h:∀w2,aa0 base w0 w2 c f m s L→Hp w2 L→G1 w2)(S:aa0 base w0 w c f m s L:=by exact S)(kg:o.op=.call {callee:=.value (.func k),args:=xs,argTypes:=ts}:=by rfl)(hf:ki k KH=true:=by rfl)(ft:xs.map a.eval=args:=by first|(simp only[ayH,ayC,ayB];rfl)|simp only[ayH,ayB])(hw:Region.wanted o (yielded ops a.tmps)=true:=by rfl)(ha:a.put o.dst v=a':=by exact PT)(i:∀w2,Hp w2 L→Hd (G1 w2)→WL r ops Q rest a' w2:=by(intro w2 hp;exact ady)):WL r ops Q (o::rest) a w:=cl hc (fun w2 hb hp=>i w2 hp ⟨h w2 (S.step hb) hp⟩) S.hp kg hf ft hw ha
theorem ae7(ha:Bi w0)(h1:base 1=0)(aen:∀b,¬own (base b))(e:se){x:Int}(he:jF gT s e=(x,s')){G1:World→(Nat→Nat)→CV→Prop}(h:∀w2 c2 m2,aa0 base w0 w2 c2 f m2 s' L→Hp w2 L→G1 w2 c2 m2)(S:aa0 base w0 w c f m s L:=by exact S)(hk:e.call.kids=[]:=by rfl)(h3:okK e.kind=true:=by rfl)(kg:o.op=.call {callee:=.value (.func 16),args:=xs,argTypes:=ts}:=by rfl)(ft:xs.map a.eval=#[pA f.cp 0,.agg (ab7 e)]:=by(simp only[ayH,ayC,ayB];rfl))(hw:Region.wanted o (yielded ops a.tmps)=true:=by rfl)(hp':a.put o.dst (i6 x)=a':=by exact PT)(i:∀w2 c2 m2,Hp w2 L→Hd (G1 w2 c2 m2)→WL r ops Q rest a' w2:=by(intro w2 c2 m2 hp;exact ady)):WL r ops Q (o::rest) a w:=by
 have hc:bw w (fun b=>c b=0) (apf e.call) e.call:=by
  revert hk;cases e.call with
  |mk k t n l=>intro hk;have hk:l=[]:=hk;subst hk;exact .leaf k t n none
 have Oz:c 1=0:=(S.z 1 ha.lt).trans h1;refine ce (UN S.ch aij (ha.below S.below) Oz hc h3) (fun _ w2 ⟨c2,m2,h2,k⟩=>⟨_,h2,?_⟩) kg dd ft hw;rw[he]at k ⊢;rw[hp'];have S2:=S.out aen k (by have:=MO (H:=gT) S.ok e;rw[he]at this;exact this);exact i w2 c2 m2 S2.hp ⟨h w2 c2 m2 S2 S2.hp⟩
end
theorem arM{i:Nat}{s':bM}(hi:i<n)(h:abw (n-i) s'=abw n s):abw (n-(i+1)) (jj s').2=abw n s:=by rw[←h,show n-i=(n-(i+1))+1 by omega];rfl
theorem aiF(aen:∀b,¬own (base b))(hn:n<100)(S:aa0 base w0 w c f m s ((g,#[pA f.cp 0],49)::L)):CP 17 #[pA g 0,i6 (n:Int)] w fun e w'=>∃c' m',e=.returned (.tuple #[])∧aa0 base w0 w' c' f m' (abw n s) ((g,#[pA f.cp 0],49)::L):=by
 have hp:=S.hp;refine fe Tryz.func17 Tryz.ntmps17 ?_;refine wB ?_;refine afH 15 (fun i=>[(0,pA g 0),(1,i6 (n:Int)),(4,i6 (i:Int))]) (fun i w'=>∃c m s',aa0 base w0 w' c f m s' ((g,#[pA f.cp 0],49)::L)∧abw (n-i) s'=abw n s) n 0 ⟨c,m,s,S,rfl⟩ ?_;rintro i u w1 hi ⟨c,m,s',S,hb⟩;have hp:=S.hp;refine afK ?_;refine wB ?_;by_cases hc:i<n
 ·have c1:(i:Int)<(n:Int):=by omega
  refine wB ?_;refine ce (UT S.ch S.ok.nc S.ok.now) ?_;rintro _ w2 ⟨c2,m2,v,rfl,k,_⟩;refine⟨_,rfl,ab ?_⟩;have S:=S.out aen k (MM S.ok);have hp:=S.hp;refine wB ?_;exact⟨hc,FRB,c2,m2,_,S,arM hc hb⟩
 have c1:¬(i:Int)<(n:Int):=by omega
 obtain rfl:i=n:=by omega
 rw[aAn]at hb;have hb:s'=abw i s:=hb;subst hb;refine wB ?_;refine cK ?_;exact⟨c,m,rfl,S⟩
theorem ai1(S:aa0 base w0 w c f m s ((g,#[pA f.cp 0],49)::L)){x:aY}(hx:bS s.L 0 0=some x):CB 19 #[pA g 0] w (i6 x.state):=by have hp:=S.hp;have hT:=au.refl (fun _=>False) w;refine fe Tryz.func19 Tryz.ntmps19 ?_;refine wB ?_;refine ae6 (R1 S.ch) fun w1 hp hT=>?_;have S:=S.step (adE hT);refine ae6 (jC S.ch.ref hx) fun w1 hp hT=>?_;refine al (fun g4 w5 n6 hp=>?_);have f4:=ayo hT.size n6.fresh;have hT:=hT.step n6.below;refine wB ?_;refine sf (bL x) (ao _) rfl fun w8 p7 hp=>?_;have hT:=hT.put p7 (.inr f4);refine ak (i6 x.state) (ay (hp.at 0) (oB x) U3 rfl) ?_;refine p1 ?_;exact⟨rfl,adE hT⟩
end
section
open Go.RowKit
variable{w:World}
def arN:Array Value:=ab7 afQ++ab7 afR++ab7 aiE
theorem aiG{base:Nat→Nat}(aen:∀b,¬own (base b))(gV:base 1=0)(ha:Bi w):CP 15 #[.agg #[i6 1,i6 0,i6 0,.slice none 0 0]] w fun e w'=>∃g f c m L,e=.returned (pA g 0)∧aa0 base w w' c f m bkS ((g,#[pA f.cp 0],49)::L)∧w.heap.size≤g:=by have hp:=Hp.nil w;have hT:=au.refl (fun _=>False) w;refine fe Tryz.func15 Tryz.ntmps15 ?_;refine wB ?_;refine aiQ fun g1 w1 hp f1 hT=>?_;have hs:=hT.size;refine ce (AO (fun b=>if b<w.heap.size then base b else 0)) ?_;rintro _ w2 ⟨f,c,m,rfl,hb,hch,hc⟩;refine⟨_,rfl,ab ?_⟩;have hp:=hp.below hb;have hl:=(hp.at 0).lt;have S:aa0 base w w2 c f m dH [(g1,#[i6 1,i6 0,i6 0,.slice none 0 0],36)]:=⟨hch,aqI,U (adE hT) hb,fun b q=>(hc b om).trans (if_pos q),hp,fun x hx=>by rw[List.mem_singleton.1 hx];have h1:=(Hp.at (w:=w1) (by assumption) 0).lt;rw[hc g1 h1,if_neg om];exact kU⟩;refine wB ?_;refine gu 6 ?_;refine gq ?_;refine qs (.agg (ab7 afQ)) (fun _ _=>by kernel_rfl) ?_;refine gq ?_;refine qc (fun w' hw=>dJ hw aqE) ?_;refine qs (.agg (ab7 afR)) (fun _ _=>by kernel_rfl) ?_;refine qs (.agg (ab7 aiE)) (fun _ _=>by kernel_rfl) ?_;refine nl fun w3 js hp=>?_;have S:=S.step js;refine dT (n:=3) (cells:=arN) (e:=38) kr (fun g3 w4 q=>ab ?_);have S:=S.new q;have hp:=S.hp;refine wB ?_;refine iR 4 ?_;refine wB ?_;refine ak (pA g3 0) (cX (l:=3) (j:=0) (off:=0) (sz:=49) Tryz.underlying90 kr rfl rfl dd dd rfl) ?_;refine ak (.agg (ab7 afQ)) (aQ (i:=0) (n:=49) (hp.at 0) kr (ayr kr) U38 kr rfl) ?_;refine ae7 ha gV aen afQ e1 fun w5 c m S hp=>?_;refine ak (pA g3 49) (cX (l:=3) (j:=((1:Nat):Int)) (off:=0) (sz:=49) Tryz.underlying90 kr rfl rfl dd dd rfl) ?_;refine ak (.agg (ab7 afR)) (aQ (i:=49) (n:=49) (hp.at 0) kr (ayr kr) U38 kr rfl) ?_;refine ae7 ha gV aen afR e2 fun w5 c m S hp=>?_;refine ak (pA g3 98) (cX (l:=3) (j:=((2:Nat):Int)) (off:=0) (sz:=49) Tryz.underlying90 kr rfl rfl dd dd rfl) ?_;refine ak (.agg (ab7 aiE)) (aQ (i:=98) (n:=49) (hp.at 0) kr (ayr kr) U38 kr rfl) ?_;refine ae7 ha gV aen aiE e3 fun w5 c m S hp=>?_;refine ak (.agg #[pA f.cp 0]) kr ?_;refine lR (v:=.agg #[pA f.cp 0]) rfl (fun g w6 n=>ab ?_);have S2:=S.new n;have hp:=S2.hp;refine wB ?_;refine p1 ?_;exact⟨g,f,c,m,_,rfl,S2,ayo S.below.size n.fresh⟩
theorem ai2{n l:Int}:CB 18 #[i6 n,i6 l] w (i6 (fv n l)):=by
 have hp:=Hp.nil w;refine fe Tryz.func18 Tryz.ntmps18 ?_;refine wB ?_;by_cases h:l=0;·refine wB ?_;refine ak (i6 (wrap64 (Int.tdiv n 10))) (pf rfl rfl dd rfl) ?_;refine p1 ?_;exact⟨by rw[fv,if_pos h],Below.refl _ _⟩
 refine wB ?_;refine ak (i6 (wrap64 (n*l))) (dZ rfl rfl rfl) ?_;refine p1 ?_;exact⟨by rw[fv,if_neg h],Below.refl _ _⟩
end
end Go.Proofs.YtdkpbpjcbkibiaaGreatDoor.B
