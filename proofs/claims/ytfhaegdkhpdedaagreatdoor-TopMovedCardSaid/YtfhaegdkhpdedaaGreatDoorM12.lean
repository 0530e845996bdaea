/- Part 12 of the proof. -/
import Derived.Test.YtfhaegdkhpdedaaGreatDoorM11
set_option maxRecDepth 100000
set_option maxHeartbeats 4000000
set_option linter.all false
namespace Go.L
open Go Go.Conc Go.Proofs
variable {ro:Nat→Option Obj} {ways:List (List aP)} {d p n x j sz fc q k':Nat} {xs ws ps:List Int} {D b i need hi:Int} {vd vS vT vP vR vE vW:Value} {o:Option JS} {qs ys:List Value}
def aED(P:Program)(n:Nat)(p:Oper)(e:Env):Option (Value×Option Int×Option Int×Nat):=match p.op with
 | .slice T x none y (some z)=>match cV P T with
  |some ⟨.slice E,_,_,_⟩=>match cV P E with
   |some te=>match dv n e x with
    |some v=>match Fw n e y with
     |some lo=>match Fw n e (some z) with
      |some hi=>some (v,lo,hi,te.size)
      |none=>none
     |none=>none
    |none=>none
   |none=>none
  |_=>none
 |_=>none
theorem avz{P:Program}{p:Oper}{e:Env}{v:Value}{lo hi:Option Int}{k:Nat}(h:aED P n p e=some (v,lo,hi,k)):∃T x y z E sz dL zz ag d CX z2 ag2,p.op= .slice T x none y (some z)/\TF P T (.slice E) sz dL zz ag/\TF P E d k CX z2 ag2/\dv n e x=some v/\Fw n e y=some lo/\Fw n e (some z)=some hi:=by
 unfold aED at h;split at h<;>try (cases h;done)
 rename_i a8;split at h<;>try (cases h;done)
 grind [bA]
def bd0{X:Cx}{a:Option Addr}{cap:Nat}{mx:Int}(h2:n<=cap)(hl:(0<=hi/\hi<=n)/\hi<=mx/\mx<=n)(hj:∀a' n' c',(∀ {α:Type} {enc:α->List Value} {R:Nat->Option Obj} {ps:List α},dq R (.slice a n cap) sz enc ps->dq R (.slice a' n' c') sz enc (ps.take hi.toNat))->J X (lT (.slice a' n' c') o))(hv:fp X.n (aED X.P X.n) o=some (.slice a n cap,some hi,some mx,sz):=by kernel_rfl):J X o:=by
 refine SH hv (λs p e _ hf=>?_) (hj (if mx.toNat=0 then a else a.map (·.add (0*sz))) (hi.toNat-0) (mx.toNat-0) λ{α enc R ps} hR=>by
  obtain⟨a',b,off,aVu,h1,h5,h3,h4⟩:=hR;cases h1;have hlen:(ps.take hi.toNat).length=hi.toNat-0:=by rw[cw];omega
  refine⟨_,b,off,_,by rw[hlen],by omega,λk hk=>?_,λi p hp=>h4 i p ?_⟩
  .have:=h3 0 (by omega);subst this;rw[cJ (by omega)];simp[gY]
  rw[List.getElem?_take] at hp;split at hp
  .exact hp
  cases hp)
 obtain⟨T,x,y,z,E,s1,dL,zz,ag,d,CX,z2,ag2,a8,tf,tK,hx,hy,hz⟩:=avz hf;obtain⟨y,k,rfl,MD⟩:=lE hy;obtain⟨z',k',hz0,Wo⟩:=lE hz;cases hz0;rcases p with ⟨dst,op,ty,pos,fX,g⟩
 dsimp only at a8;subst a8;intro s0 ops i vy rest hw s' pq todo Q hk;refine eA X.hC vy hw (by simp) ?_;have hb:0<=mx/\mx<=(cap:Int):=by omega
 have hb1:0<=hi/\hi<=(mx.toNat:Int):=by omega
 rw[<-dF] at hk;simp only[execOp,di,j7,Instr.sliceAt,Instr.slice,bZ (cM (rest:=rest) hx),bZ (cM (rest:=rest) MD),bZ (cM (rest:=rest) Wo),aH,cY tf,Instr.sliceBounds,Instr.sliceBound,asIntOf,aQ,hb,hb1,LC,dI,ez tK];exact hk
def bdZ{X:Cx}{a:Option Addr}{cap:Nat}{lo:Int}(h2:n<=cap)(hl:0<=lo/\lo<=n)(hj:∀a' n' c',(∀ {α:Type} {enc:α->List Value} {R:Nat->Option Obj} {ps:List α},dq R (.slice a n cap) sz enc ps->dq R (.slice a' n' c') sz enc (ps.drop lo.toNat))->J X (lT (.slice a' n' c') o))(hv:fp X.n (adb X.P X.n) o=some (.slice a n cap,some lo,none,sz):=by kernel_rfl):J X o:=by
 refine SH hv (λs p e _ hf=>?_) (hj (if cap=lo.toNat then a else a.map (·.add (lo.toNat*sz))) (n-lo.toNat) (cap-lo.toNat) λ{α enc R ps} hR=>by
  have hn:ps.length=n:=by obtain⟨_,_,_,_,h1,_⟩:=id hR;cases h1;rfl
  have hp:=dq.part hR (l:=lo.toNat) (h:=ps.length) (by omega) (bu _);rwa[List.take_length,hn] at hp)
 obtain⟨T,x,y,z,E,s1,dL,zz,ag,d,CX,z2,ag2,a8,tf,tK,hx,hy,hz⟩:=HN hf;obtain⟨y,k,rfl,MD⟩:=lE hy;have hz:=AU hz;subst hz;rcases p with ⟨dst,op,ty,pos,fX,g⟩
 dsimp only at a8;subst a8;intro s0 ops i vy rest hw s' pq todo Q hk;refine eA X.hC vy hw (by simp) ?_;have hb:(0:Int)<=(n:Int)/\(n:Int)<=(cap:Int):=by omega
 have kQ:0<=lo/\lo<=(n:Int):=hl;rw[<-dF] at hk;simp only[execOp,di,j7,Instr.sliceAt,Instr.slice,bZ (cM (rest:=rest) hx),bZ (cM (rest:=rest) MD),aH,cY tf,Instr.sliceBounds,Instr.sliceBound,asIntOf,aQ,hb,kQ,LC,dI,ez tK];exact hk
def bd1{X:Cx}{a:Option Addr}{cap:Nat}{lo:Int}(h2:n<=cap)(hl:0<=lo/\lo<=hi/\hi<=n)(hj:∀a' n' c',(∀ {α:Type} {enc:α->List Value} {R:Nat->Option Obj} {ps:List α},dq R (.slice a n cap) sz enc ps->dq R (.slice a' n' c') sz enc ((ps.take hi.toNat).drop lo.toNat))->J X (lT (.slice a' n' c') o))(hv:fp X.n (adb X.P X.n) o=some (.slice a n cap,some lo,some hi,sz):=by kernel_rfl):J X o:=by
 refine SH hv (λs p e _ hf=>?_) (hj (if cap=lo.toNat then a else a.map (·.add (lo.toNat*sz))) (hi.toNat-lo.toNat) (cap-lo.toNat) λ{α enc R ps} hR=>by
  have hn:ps.length=n:=by obtain⟨_,_,_,_,h1,_⟩:=id hR;cases h1;rfl
  exact dq.part hR (l:=lo.toNat) (h:=hi.toNat) (by omega) (by omega))
 obtain⟨T,x,y,z,E,s1,dL,zz,ag,d,CX,z2,ag2,a8,tf,tK,hx,hy,hz⟩:=HN hf;obtain⟨y,k,rfl,MD⟩:=lE hy;obtain⟨z,k',rfl,Wo⟩:=lE hz;rcases p with ⟨dst,op,ty,pos,fX,g⟩
 dsimp only at a8;subst a8;intro s0 ops i vy rest hw s' pq todo Q hk;refine eA X.hC vy hw (by simp) ?_;have hb:0<=hi/\hi<=(cap:Int):=by omega
 have kQ:0<=lo/\lo<=(hi.toNat:Int):=by omega
 rw[<-dF] at hk;simp only[execOp,di,j7,Instr.sliceAt,Instr.slice,bZ (cM (rest:=rest) hx),bZ (cM (rest:=rest) MD),bZ (cM (rest:=rest) Wo),aH,cY tf,Instr.sliceBounds,Instr.sliceBound,asIntOf,aQ,hb,kQ,LC,dI,ez tK,af3,aX,cF];exact hk
theorem aof{x:ax}(h:An x):p7 x:=by grind [An,p7]
theorem ZD{ps:List ax}(ha:ps.Pairwise mH)(hm:∀x∈ps,An x)(hl:ps.length<=3):cg [ps] where
 two:=by simp
 len l h:=by grind
 jB:=by grind
 ok l h x hx:=by grind [aV,aof]
 Sb l h:=by grind
theorem amD{ps:List ax}{k:Nat}(ha:ps.Pairwise mH)(hm:∀x∈ps,An x)(hl:ps.length<=3):cg [ps.take k,ps.drop k] where
 two:=by simp
 len l h:=(by grind)
 jB:=by simp;omega
 ok l h x hx:=by
  simp_all;rcases h with rfl|rfl
  .exact aof (hm x (List.mem_of_mem_take hx))
  exact aof (hm x (Ci hx))
 Sb l h:=(by grind)
def Ls(S:List (List ax)):Prop:=cg S/\1<=(aI S).length/\(aI S).length<=3
def ac9:Ls [[⟨1,0⟩]]:=⟨ZD (by simp) (by simp[An]) (by simp),by decide⟩
theorem ai1{ps:List ax}(ha:ps.Pairwise mH)(hm:∀x∈ps,An x)(hl:ps.length<=3)(h0:ps.length≠0):Ls [ps]:=⟨ZD ha hm hl,by grind [BV]⟩
theorem ai0{ps:List ax}{k:Nat}(ha:ps.Pairwise mH)(hm:∀x∈ps,An x)(hl:ps.length<=3)(h0:ps.length≠0):Ls [ps.take k,ps.drop k]:=⟨amD ha hm hl,by grind [BV]⟩
theorem aiN{S:List (List ax)}{c e:aP}(h:oB S ways)(hl:ways.length <2)(hc:nn S c)(he:nn S e):oB S (ways++[[c,e]]) where
 two:=by grind
 ok l hl:=by
  rcases bI.1 hl with h1|h1
  .exact h.ok l h1
  grind
def ways_nil{S:List (List ax)}:oB S []:=⟨by simp,by simp⟩
structure U5(S:List (List ax))(ways:List (List aP)):Prop where
 sV:Ls S
 wok:oB S ways
 ne:0 <(dt S ways).length
def alu(vS vT:Value)(S:List (List ax))(ways:List (List aP))(L:Cells):Prop:=∀bU,Knows bU L->bH bU vS S/\kL bU vT ways
def U5.start{S:List (List ax)}(h:Ls S):U5 S []:=⟨h,ways_nil,by simp[dt,oy]⟩
set_option maxHeartbeats 2000000 in
def aVq {X:Cells} (hN:Dn ro vd xs) (hD:fo vd xs d X):eW zT 126 [zP d,zI 3] ro X (λr Y=>∃a0 n0 c0 a1 n1 c1 fa fc S ways Z X',r= .agg ⟨[.slice a0 n0 c0,.slice a1 n1 c1,.slice fa 0 fc]⟩/\alu (.slice a0 n0 c0) (.slice a1 n1 c1) S ways Z/\U5 S ways/\Y=Z++X'/\fo vd xs d X'):=by
 refine zC [.l X]<|zD 2<|jn λb4=>zD 5<|jc (vs:=[zP d,zI 3]) [1] (ay9 hN hD (by omega)) ?_;rintro RS _ ⟨Nq,Ao,X14,Kj,btd,aTD,aSM,rfl,ayt⟩;obtain⟨nu,nq,akw⟩:=Kj.form;subst akw;refine jg 0 [.l Ao,.l X14]<|jn λxH=>zD 2<|jn λb5=>jd 8 [0,0]<|jd 10 [1]<|jct [1,1,1] [] (λ(zz:(Option Addr)×Nat×Nat×Cells×(List (List ax))×Cells)=>[(0,zP d),(4,zP b4),(5,zP b5)]) (λ(zz:(Option Addr)×Nat×Nat×Cells×(List (List ax))×Cells)=>[zxc b5 28 [.slice zz.1 zz.2.1 zz.2.2.1,zS,zS],.l zz.2.2.2.1,.l zz.2.2.2.2.2,zxc b4 28 [zS,zS,zS]]) (λ(zz:(Option Addr)×Nat×Nat×Cells×(List (List ax))×Cells)=>(∀bU,Knows bU zz.2.2.2.1->bH bU (.slice zz.1 zz.2.1 zz.2.2.1) zz.2.2.2.2.1)/\Ls zz.2.2.2.2.1/\fo vd xs d zz.2.2.2.2.2) ?_ (λK1 cX=>?_)
 ·
  rintro⟨pa,pn,pc,LP,S,X⟩ hP rest;dsimp only at hP;have hPl:=hP.2.1;refine zD 4<|jc (vs:=[zP d,zI 2]) [2] (dTo hN hP.2.2 (by omega)) ?_;rintro _ X56 ⟨w56,rfl,bey,apT,aJe⟩;refine zD 3<|iE [1,1,1,0,1,0,0] [] (λ(zz:Int×(Option Addr)×Nat×Nat×(Option Addr)×Nat×Nat×(Option Addr)×Nat×Cells×(List (List aP))×Cells)=>[(0,zP d),(4,zP b4),(5,zP b5),(8,zI zz.1)]) (λ(zz:Int×(Option Addr)×Nat×Nat×(Option Addr)×Nat×Nat×(Option Addr)×Nat×Cells×(List (List aP))×Cells)=>[zxc b5 28 [.slice zz.2.1 zz.2.2.1 zz.2.2.2.1,.slice zz.2.2.2.2.1 zz.2.2.2.2.2.1 zz.2.2.2.2.2.2.1,.slice zz.2.2.2.2.2.2.2.1 0 zz.2.2.2.2.2.2.2.2.1],.l zz.2.2.2.2.2.2.2.2.2.1,.l zz.2.2.2.2.2.2.2.2.2.2.2,zxc b4 28 [zS,zS,zS]]) (λ(zz:Int×(Option Addr)×Nat×Nat×(Option Addr)×Nat×Nat×(Option Addr)×Nat×Cells×(List (List aP))×Cells)=>(0<=zz.1/\zz.2.2.2.2.2.2.2.2.2.2.1.length+zz.1<=2)/\alu (.slice zz.2.1 zz.2.2.1 zz.2.2.2.1) (.slice zz.2.2.2.2.1 zz.2.2.2.2.2.1 zz.2.2.2.2.2.2.1) S zz.2.2.2.2.2.2.2.2.2.2.1 zz.2.2.2.2.2.2.2.2.2.1/\U5 S zz.2.2.2.2.2.2.2.2.2.2.1/\fo vd xs d zz.2.2.2.2.2.2.2.2.2.2.2) (λ(zz:Int×(Option Addr)×Nat×Nat×(Option Addr)×Nat×Nat×(Option Addr)×Nat×Cells×(List (List aP))×Cells)=>zz.1.toNat) (⟨w56,pa,pn,pc,none,0,0,none,0,LP,[],X56⟩) ⟨⟨by omega,by simp only[List.length_nil];omega⟩,(λbU hk=>⟨hP.1 bU hk,⟨[],dq.nil _ _ _ _ _,.nil⟩⟩),.start hPl,aJe⟩ [1,2,0,3] ?_;rintro⟨t,ca,cn,cc,da,dn,dc,fx,fy,LS,ways,X⟩ hI K2 mb rest;dsimp only at hI;refine zD 6<|zJ 58 (t>0) (λh1=>?_) λh1=>?_
  ·
   refine jd 7 [0]<|jcL (vs:=[.agg ⟨[.slice ca cn cc,.slice da dn dc,.slice fx 0 fy]⟩]) [] [1] LS (λcK hs hZ=>uw (hI.2.1 _ hZ).1 hPl.1 (hI.2.1 _ hZ).2 hI.2.2.1.wok) ?_;rintro _ _ ⟨a0,a1,a2,n0,n1,c0,c1,c2,qs,LT,ZZ,rfl,⟨hqs,hqh⟩,xd,oh,rfl⟩;refine jg 0 [.l LT,.l ZZ]<|jn λb9=>jd 3 [0]<|jct [1,1,1,0,1,0,0,1,0,0,1,1] [K2] (λ(zz:(Option Addr)×Nat×Nat×(Option Addr)×Nat×Nat×(Option Addr)×Nat×Cells×aP×aP×Cells)=>[(0,zP d),(4,zP b4),(5,zP b5),(8,zI t),(9,zP b9)]) (λzz=>[zxc b9 28 [.slice zz.1 zz.2.1 zz.2.2.1,.slice zz.2.2.2.1 zz.2.2.2.2.1 zz.2.2.2.2.2.1,.slice zz.2.2.2.2.2.2.1 0 zz.2.2.2.2.2.2.2.1],.l zz.2.2.2.2.2.2.2.2.1,.l zz.2.2.2.2.2.2.2.2.2.2.2,.l LS,zxc b5 28 [.slice ca cn cc,.slice da dn dc,.slice fx 0 fy],zxc b4 28 [zS,zS,zS]]) (λzz=>alu (.slice zz.1 zz.2.1 zz.2.2.1) (.slice zz.2.2.2.1 zz.2.2.2.2.1 zz.2.2.2.2.2.1) S (ways++[[zz.2.2.2.2.2.2.2.2.2.1,zz.2.2.2.2.2.2.2.2.2.2.1]]) zz.2.2.2.2.2.2.2.2.1/\oB S (ways++[[zz.2.2.2.2.2.2.2.2.2.1,zz.2.2.2.2.2.2.2.2.2.2.1]])/\fo vd xs d zz.2.2.2.2.2.2.2.2.2.2.2) ?_ (λK3 FI=>?_)
   ·
    rintro⟨ra,rn,rc,ta,tn,tc,ua,uc,LS2,c1,c2,X⟩ hQ rest;dsimp only at hQ;refine jd 3 [0]<|jcL (vs:=[.agg ⟨[.slice ra rn rc,.slice ta tn tc,.slice ua 0 uc]⟩]) [] [1] LS2 (λcK hs hZ=>avQ (hQ.1 _ hZ).1 hPl.1 (hQ.1 _ hZ).2 hQ.2.1 hPl.2.2) ?_;rintro _ Y80 ⟨bpV,bpU,rfl⟩;refine zD 16<|jj 4 [(0,zP d),(4,zP b4),(5,zP b5),(8,zI t),(9,zP b9),(94,.bool ((decide (((dt S (ways++[[c1,c2]])).length:Int)>0))&&(decide (((dt S (ways++[[c1,c2]])).length:Int)<=4))))] (λni=>?_) (λhj=>?_);rotate_left;refine js 90 (decide (((dt S (ways++[[c1,c2]])).length:Int)>0)) (λh2=>?_) (λh2=>?_)
    ·
     have n6:=h2;replace n6:=ai n6;refine zD 4<|zxw 94 hj (zya h2)
    ·
     have n6:=h2;replace n6:=ah n6;refine zD 4<|zxw 94 hj (zyb h2)
    refine zD 1<|js 94 ((decide (((dt S (ways++[[c1,c2]])).length:Int)>0))&&(decide (((dt S (ways++[[c1,c2]])).length:Int)<=4))) (λh3=>?_) (λh3=>?_)
    ·
     try simp only[zB] at h3
     refine jd 7 [1,5]<|zW (t-1)<|zD 2<|zY mb (⟨(t-1),ra,rn,rc,ta,tn,tc,ua,uc,LS2,(ways++[[c1,c2]]),X⟩) ⟨⟨by dsimp only;omega,by simp only[zM];omega⟩,hQ.1,⟨hPl,hQ.2.1,(show 0 <(dt S (ways++[[c1,c2]])).length by omega)⟩,hQ.2.2⟩ [5,2,3,6]
    try simp only[zB] at h3
    refine zD 4<|zW (t-1)<|zD 2<|zY mb (⟨(t-1),ca,cn,cc,da,dn,dc,fx,fy,LS,ways,X⟩) ⟨⟨by dsimp only;omega,by dsimp only;omega⟩,hI.2.1,hI.2.2.1,hQ.2.2⟩ [5,4,3,6]
   refine jd 9 [0,3,3]<|zxo 5 λuD=>jcL (vs:=[zP d,.agg ⟨[.slice ca cn cc]⟩]) [5] [4] LS (λcK hs hZ=>aif (hN.up hs) hI.2.2.2 (hI.2.1 _ hZ).1 hPl.1) ?_;rintro _ X68 ⟨Yh,rfl,aIm,bii⟩;refine eE uD [[4],[1]]<|zxo 9 λCU=>jcL (vs:=[zP d,.agg ⟨[.slice ca cn cc]⟩]) [0] [4] LS (λcK hs hZ=>aif (hN.up hs) bii (hI.2.1 _ hZ).1 hPl.1) ?_;rintro _ X72 ⟨c72,rfl,bhb,bih⟩;refine eE CU [[1]]<|zxo 10 λKB=>jn λb73=>eP KB (zN 1 7)<|zD 1<|zxo 12 λQB=>jn λb75=>eP QB (zN 1 8)<|zxo 13 λhL8=>gC (sz:=1) (ps:=qs) (qs:=[(.slice (some ⟨b73,0,none⟩) 2 2:Value)]) (enc:=ri) (w:= .slice (some ⟨b75,0,none⟩) 1 1) [4] [0] [(b75,.cells ⟨([(.slice (some ⟨b73,0,none⟩) 2 2:Value)].map ri).flatten⟩ 82 (0,0))] (xd) (λs _ hZ=>de [(.slice (some ⟨b73,0,none⟩) 2 2:Value)] (hZ _ (.head _)) (by intro p hp;rfl)) (by intro p hp;rw[aV] at hp;subst hp;exact aG rfl) (by simp only[aK,aT];omega) (λv76 L76 aqh=>?_);obtain⟨acS,acQ,bgJ⟩:=aqh.form;subst bgJ;refine eE hL8 []<|zD 1<|zxo 15 λhL9=>jd 1 [4]<|kV hL9<|zD 1<|jg 2 [.l [(b73,.cells ⟨[zI Yh.k,zI Yh.st,zI Yh.ot,zI Yh.fn,zI Yh.fl,zI Yh.tn,zI Yh.tl,zI c72.k,zI c72.st,zI c72.ot,zI c72.fn,zI c72.fl,zI c72.tn,zI c72.tl]⟩ 100 (0,0))]]<|zV FI ⟨a0,n0,c0,acS,_,acQ,a2,c2,L76++([(b73,.cells ⟨[zI Yh.k,zI Yh.st,zI Yh.ot,zI Yh.fn,zI Yh.fl,zI Yh.tn,zI Yh.tl,zI c72.k,zI c72.st,zI c72.ot,zI c72.fn,zI c72.fl,zI c72.tn,zI c72.tl]⟩ 100 (0,0))]++ZZ),Yh,c72,X72⟩ ⟨λbU hk=>by exact⟨(oh bU hk.right.right).1,⟨_,aqh.jI hk.left,(oh bU hk.right.right).2.snoc (fK [Yh,c72] (hk.right _ (.head _)) (λ_ _=>rfl))⟩⟩,aiN hI.2.2.1.wok (by omega) aIm bhb,bih⟩ [[4],[0,2,5],[3],[7],[6],[8]]
  refine jd 8 [0,3]<|zR (.agg ⟨[.slice ca cn cc,.slice da dn dc,.slice fx 0 fy]⟩) [3] [1,2] _ ⟨_,_,_,_,_,_,_,_,S,ways,LS,X,rfl,hI.2.1,hI.2.2.1,rfl,hI.2.2.2⟩
 refine zJ 25 ((Nq.length:Int)=0) (λxF=>?_) λxF=>?_
 ·
  refine jd 6 [0]<|jn λb30=>jd 3 [2]<|jg 2 [.l [(xH,.cells ⟨[.slice (some ⟨b30,0,none⟩) 1 1]⟩ 98 (0,0))]]<|jg 0 [.l [(b30,.cells ⟨[zI 1,zI 0]⟩ 39 (0,0))]]<|zV cX ⟨(some ⟨xH,0,none⟩),1,1,[(xH,.cells ⟨[.slice (some ⟨b30,0,none⟩) 1 1]⟩ 98 (0,0))]++[(b30,.cells ⟨[zI 1,zI 0]⟩ 39 (0,0))],[[⟨1,0⟩]],X14⟩ ⟨λbU hk=>⟨[_],fK [_] (hk _ (.head _)) (λ_ _=>rfl),.cons (fK [(⟨1,0⟩:ax)] (hk _ (.tail _ (.head _))) (λ_ _=>rfl)) .nil⟩,ac9,ayt⟩ [[1],[2,0],[4],[5]]
 refine zD 4<|jc (vs:=[zP d,zI 2]) [3] (abG hN ayt (by omega)) ?_;rintro _ X33 ⟨w33,rfl,aUq⟩;refine zD 1<|js 33 w33 (λwD=>?_) (λwD=>?_)
 ·
  subst wD;refine zD 5<|jc (vs:=[zP d,zI (Nq.length:Int)]) [0] (dTo hN aUq (by omega)) ?_;rintro _ X36 ⟨w36,rfl,bsr,wm,bij⟩;refine jd 6 [1]<|jd 4 [2]<|bd0 (a:=nu) (n:=Nq.length) (sz:=2) (hi:=w36) (mx:=w36) (bJ.cap Kj).2 (by omega) λa44 n44 c44 be7=>jd 3 [1]<|jd 3 [2]<|bdZ (a:=nu) (n:=Nq.length) (sz:=2) (lo:=w36) (bJ.cap Kj).2 (by omega) λa51 n51 c51 be6=>zxo 15 λKG=>jn λb52=>eP KG (zN 1 5)<|zD 2<|zxo 18 λKE=>jd 1 [2]<|eE KE []<|zD 1<|jg 0 [.l [(b52,.cells ⟨[.slice a44 n44 c44,.slice a51 n51 c51]⟩ 98 (0,0))]]<|zV cX ⟨(some ⟨b52,0,none⟩),2,2,[(b52,.cells ⟨[.slice a44 n44 c44,.slice a51 n51 c51]⟩ 98 (0,0))]++Ao,[Nq.take w36.toNat,Nq.drop w36.toNat],X36⟩ ⟨λbU hk=>⟨[_,_],fK [_,_] (hk _ (.head _)) (λ_ _=>rfl),.cons (be7 (Kj.jI (Knows.tail hk))) (.cons (be6 (Kj.jI (Knows.tail hk))) .nil)⟩,ai0 aTD aSM (by omega) (by omega),bij⟩ [[2],[0,4],[1],[5]]
 subst wD;refine zD 2<|jg 2 [.l [(xH,.cells ⟨[(.slice nu Nq.length nq)]⟩ 98 (0,0))]]<|zV cX ⟨(some ⟨xH,0,none⟩),1,1,[(xH,.cells ⟨[(.slice nu Nq.length nq)]⟩ 98 (0,0))]++Ao,[Nq],X33⟩ ⟨λbU hk=>⟨[_],fK [_] (hk _ (.head _)) (λ_ _=>rfl),.cons (Kj.jI (Knows.tail hk)) .nil⟩,ai1 aTD aSM (by omega) (by omega),aUq⟩ [[1],[2,3],[0],[4]]
def nm6:List ByteArray:=[bs [97,110,110,97],bs [66,69,78],bs [115,109,105,116,104],bs [115,109,121,116,104],bs [67,65,68],bs [97,110]]
def lF(i:Int):ByteArray:=nm6[i.toNat]?.getD (bs [97])
def awz:(nm6.map keyOf).Nodup:=by decide+kernel
def aA5:∀w∈nm6,rj w:=by
 intro w hw;simp only[nm6,aS,mj,aZ] at hw;rcases hw with rfl|rfl|rfl|rfl|rfl|rfl<;>first|exact⟨by decide,.inl (by decide)⟩|exact⟨by decide,.inr (by decide)⟩
theorem ZQ(h:0<=i/\i <6):nm6[i.toNat]?=some (lF i):=by
 have:i.toNat <nm6.length:=by show i.toNat <6;omega
 grind [lF,af]
def aoQ{j:Int}(hi:0<=i/\i <6)(hj:0<=j/\j <6)(h:keyOf (lF i)=keyOf (lF j)):i=j:=by
 have h1:(nm6.map keyOf)[i.toNat]?=some (keyOf (lF i)):=by rw[eG,ZQ hi];rfl
 have h2:(nm6.map keyOf)[j.toNat]?=some (keyOf (lF j)):=by rw[eG,ZQ hj];rfl
 have:=(List.getElem?_inj (show i.toNat <(nm6.map keyOf).length by show i.toNat <6;omega) awz).1 (h1.trans (by rw[h,<-h2]));omega
structure I6(is:List Int):Prop where
 one:1<=is.length
 nd:is.Nodup
 ok:∀i∈is,0<=i/\i <6
theorem aJZ{ws ks:List ByteArray}(h:(ks++ws.map keyOf).Nodup):abC ks ws=false:=by
 induction ws generalizing ks with
 |nil=>rfl
 |cons w l ih=>
  simp only[abC]
  grind [Xb,eF,AE]
theorem I6.err{is:List Int}(h:I6 is)(h3:is.length<=3):Dw (is.map lF)=0:=by
 have hd:=aJZ (by
  rw[aL,qR];exact LD.2 (h.nd.imp_of_mem λ{a b} ha hb Iv e=>Iv (aoQ (h.ok a ha) (h.ok b hb) e)))
 have:=h.one
 grind [Dw]
def I6.name{is:List Int}(h:I6 is):∀w∈is.map lF,rj w:=λw hw=>by
 obtain⟨i,hi,rfl⟩:=bB.1 hw;exact aA5 _ (zL (ZQ (h.ok i hi)))
theorem ajB{is:List Int}{k:Nat}{x:Int}(hp:ps.Perm (jD 6))(hx:ps[k]?=some x) (hn:is.Nodup) (hi:∀i∈is,i∈ps.drop (k+1)):(is++[x]).Nodup/\∀i∈is++[x],i∈ps.drop k:=by
 have kP:ps.Nodup:=hp.nodup_iff.2 (by decide);have hd:=lg hx
 grind [j8,List.drop_sublist,eF,aV]
theorem Zt(hp:ps.Perm (jD 6)){x:Int}(h:x∈ps):0<=x/\x <6:=by
 grind [jD]
def aie{X:Cells}{n:Int}(hN:Dn ro vd xs)(hD:fo vd xs d X)(hn:1<=n/\n<=3):eW zT 128 [zP d,zI n] ro X (λr Y=>∃is L X',bJ r 1 9 nU (is.map lF) L/\I6 is/\(is.length:Int)<=n/\Y=L++X'/\fo vd xs d X'):=by
 refine zC [.l X]<|zD 6<|jn λb9=>zD 7<|jc (vs:=[zP d,zI 6]) [1] (aJ5 hN hD (by first|omega|decide)) ?_;rintro v13 _ ⟨av9,L13,X13,NC,aaJ,rfl,ae2⟩;refine jg 0 [.l L13,.l X13]<|zD 1<|jf [2,0] ((b9,.cells ⟨[.string (bs [97,110,110,97]),.string (bs [66,69,78]),.string (bs [115,109,105,116,104]),.string (bs [115,109,121,116,104]),.string (bs [67,65,68]),.string (bs [97,110])]⟩ 9 (0,0))::L13) (λAH fq gV=>?_);have hn9:dq AH (.slice (some ⟨b9,0,none⟩) 6 6) 1 nU nm6:=fK nm6 (gV _ (.head _)) (λ_ _=>rfl);obtain⟨q9a,q9b,q9o,q9c,h9e,q9k,q9h,q9l⟩:=hn9;simp only[Value.slice.injEq] at h9e;obtain⟨rfl,_,rfl⟩:=h9e;have hzp:=NC.jI (Knows.tail gV);obtain⟨yB,Gx,Gv,vY,rfl,Gw,CC,Cz⟩:=hzp;refine zD 2 ?_;have xE:av9.length=6:=aaJ.length_eq;have hn6:nm6.length=6:=rfl;refine zD 8<|jc (vs:=[zP d,zI 1,zI n]) [0] (Ee (hN.up fq) ae2 (by omega) (by omega)) ?_;rintro _ X16 ⟨Cv,rfl,axS,Qd,S3⟩;refine zD 3<|wN<|iE [1,1,1,1,0,1,0,0] [] (λ(zz:Int×Value×Cells×(List Int)×Cells)=>[(4,zS),(5,.slice (some ⟨b9,0,none⟩) 6 6),(6,.slice yB av9.length vY),(7,zz.2.1),(8,zI zz.1)]) (λzz=>[.l zz.2.2.1,.l zz.2.2.2.2]) (λzz=>(0<=zz.1/\zz.1<=Cv/\zz.2.2.2.1.length+zz.1=Cv)/\bJ zz.2.1 1 9 nU (zz.2.2.2.1.map lF) zz.2.2.1/\(zz.2.2.2.1.Nodup/\∀i∈zz.2.2.2.1,i∈av9.drop (zz.1.toNat+1))/\fo vd xs d zz.2.2.2.2) (λzz=>zz.1.toNat) (⟨Cv,zS,[],[],X16⟩) ⟨⟨by omega,Int.le_refl _,by simp only[List.length_nil];omega⟩,bJ.nil _ _ _,⟨.nil,nofun⟩,S3⟩ [0,1] ?_;rintro⟨k,v,L,is,X⟩ hI K1 cX rest;dsimp only at hI;refine zD 6<|zJ 18 (k>0) (λh4=>?_) λh4=>?_
 ·
  refine zD 9 ?_;obtain⟨Fq,nA⟩:=zG av9 (k.toNat);refine jsi k vY 1 CC nA (by omega)<|jl 0 (Cz _ _ nA) ?_;have be2:=Zt aaJ (zL nA);obtain⟨x27,A2⟩:=zG nm6 (Fq.toNat);refine jsi Fq 6 1 q9h A2 (by omega)<|jl 0 (q9l _ _ A2)<|jn λb29=>zxl nU b29 x27 1 0 (hI.2.1) λaDU aDN L30 aqp=>zD 4<|zW (k-1)<|zD 2<|zY cX (⟨(k-1),(.slice aDU (((is.map lF)++[x27])).length aDN),L30,(is++[Fq]),X⟩) ⟨⟨by dsimp only;omega,by dsimp only;omega,by simp only[zM];omega⟩,by rw[List.map_append,show ([Fq].map lF)=[x27] from by rw[List.map_singleton,Option.some.inj ((ZQ be2).symm.trans A2)]];exact aqp,(by have:=ajB aaJ nA hI.2.2.1.1 hI.2.2.1.2;rwa[show k.toNat=(k-1).toNat+1 by omega] at this),hI.2.2.2⟩ [0,2]
 refine zD 8<|bY q0.a (v) [] [0,1] (L++X) fq ⟨_,_,rfl,rfl,is,L,X,hI.2.1,⟨by omega,hI.2.2.1.1,λi hi=>Zt aaJ (Ci (hI.2.2.1.2 i hi))⟩,by omega,rfl,hI.2.2.2⟩
def jqo{X:Cx}{a:Int}(T:TypeId)(hb:b≠0)(hr: -9223372036854775808<=a.tdiv b/\a.tdiv b<=9223372036854775807)(hj:J X (lT (zI (a.tdiv b)) o))(hv:fp X.n (S9 X.n) o=some (.quo,T,zI a,zI b):=by kernel_rfl):J X o:=by
 refine SH hv (λs p e _ hf=>?_) hj;obtain⟨x,y,T',a8,hx,hy⟩:=zd hf;rcases p with ⟨dst,op,ty,pos,fX,g⟩
 dsimp only at a8;subst a8;exact λs0 ops i vy rest hw s' hs todo Q hk=>aPJ X.hC vy hw (cM hx) (cM hy) hb (lB _ hr) hk
def anl{h:Nat}(h1:1<=h/\h<=3):((0<=Int.tdiv 4 (h:Int)/\Int.tdiv 4 (h:Int)<=4)/\1<=min (3:Int) (Int.tdiv 4 (h:Int))/\min (3:Int) (Int.tdiv 4 (h:Int))<=3)/\∀p:Nat,(p:Int)<=min (3:Int) (Int.tdiv 4 (h:Int))->p*h<=6:=by
 have:h=1\/h=2\/h=3:=by omega
 rcases this with rfl|rfl|rfl
 .have e:min (3:Int) (Int.tdiv 4 ((1:Nat):Int))=3:=by decide
  rw[e];exact⟨by decide,λp h=>by omega⟩
 .have e:min (3:Int) (Int.tdiv 4 ((2:Nat):Int))=2:=by decide
  rw[e];exact⟨by decide,λp h=>by omega⟩
 have e:min (3:Int) (Int.tdiv 4 ((3:Nat):Int))=1:=by decide
 rw[e];exact⟨by decide,λp h=>by omega⟩
structure Gh(K:eQ)(is:List Int):Prop where
 past:U5 K.str K.ways
 pick:I6 is
 Nr:K.aU=is.map lF
 room:is.length<=3/\is.length*(aI K.str).length<=6
 rl:K.rules.length<=2
 days:(1<=K.days/\K.days<=2)/\1<=K.stay/\K.stay<=K.days
 bO:K.bO=[]
def aE6{vF:Value}{St:Int}{S:List (List ax)}(hS:bH ro vS S)(hO:cg S):eW zT 31 [.agg ⟨[vS,vT,vF,vP,vR,zI D,zI St,vE]⟩] ro [] (λr Y=>bJ r 3 41 bL (aI S) Y):=by
 have mY:=hS;refine zE<|zD 2<|jn λb1=>jd 7 [0]<|jc (vs:=[.agg ⟨[vS]⟩]) [] (HU mY hO) ?_;rintro v6 L6 ho6;obtain⟨va6,vc6,hf6⟩:=ho6.form;subst hf6;refine zD 3<|zR _ [] [0] L6 ho6
set_option maxHeartbeats 1000000 in
def aVr {X:Cells} (hN:Dn ro vd xs) (hD:fo vd xs d X):eW zT 88 [zP d,zI 2] ro X (λr Y=>∃a0 n0 c0 a1 n1 c1 fa fc pa pn pc ra rn rc D St K is Z X',r= .agg ⟨[.slice a0 n0 c0,.slice a1 n1 c1,.slice fa 0 fc,.slice pa pn pc,.slice ra rn rc,zI D,zI St,zS]⟩/\(∀bU,Knows bU Z->yl bU [.slice a0 n0 c0,.slice a1 n1 c1,.slice fa 0 fc,.slice pa pn pc,.slice ra rn rc,zI D,zI St,zS] K)/\Gh K is/\Y=Z++X'/\fo vd xs d X'):=by
 refine zC [.l X]<|zD 2<|jn λb4=>zD 4<|jc [1] (aVq hN hD) ?_;rintro _ _ ⟨a0,n0,c0,a1,n1,c1,fa,fc,S,ways,Z8,X8,rfl,hZ8,hPS,rfl,hD8⟩;have hPl:=hPS.sV;have hh3:=hPl.2;have hsh:=anl hh3;refine jg 0 [.l Z8,.l X8]<|zD 1<|jc (vs:=[zP d,zI 2]) [1] (aJ4 hN hD8 (by decide)) ?_;rintro v10 _ ⟨bcR,Hw,X10,lK,bte,aSk,rfl,KH⟩;obtain⟨sM,sw,wy⟩:=lK.form;subst wy;refine jg 0 [.l Hw,.l X10]<|zD 2<|jc (vs:=[zP d,zI 1,zI 2]) [1] (Ee hN KH (by omega) (by omega)) ?_;rintro _ X13 ⟨w13,rfl,akb,aep,ae2⟩;refine zD 1<|jn λb5=>jd 6 [0]<|jc (vs:=[zP d,zI 3]) [1] (abG hN ae2 (by omega)) ?_;rintro _ X16 ⟨Cv,rfl,S3⟩;refine zD 1<|jct [1,1,1] [] (λ(zz:(Option Addr)×Nat×Nat×Cells×(List gA)×Cells)=>[(0,zP d),(4,zP b4),(5,zP b5)]) (λzz=>[zxc b5 33 [.slice a0 n0 c0,.slice a1 n1 c1,.slice fa 0 fc,zS,.slice zz.1 zz.2.1 zz.2.2.1,zI w13,zI 0,zS],.l Z8,.l zz.2.2.2.1,.l zz.2.2.2.2.2,zxc b4 33 [zS,zS,zS,zS,zS,zI 0,zI 0,zS]]) (λzz=>(∀bU,Knows bU zz.2.2.2.1->dq bU (.slice zz.1 zz.2.1 zz.2.2.1) 2 jT zz.2.2.2.2.1)/\zz.2.2.2.2.1.length<=2/\fo vd xs d zz.2.2.2.2.2) ?_ (λK1 cX=>?_)
 ·
  rintro⟨ra,rn,rc,LR,rs,X⟩ hR rest;dsimp only at hR;refine jd 3 [0]<|jcL (vs:=[.agg ⟨[.slice a0 n0 c0,.slice a1 n1 c1,.slice fa 0 fc,zS,.slice ra rn rc,zI w13,zI 0,zS]⟩]) [] [1] Z8 (λcK hs hZ=>aE6 (hZ8 _ hZ).1 hPl.1) ?_;rintro v22 L22 Ki;obtain⟨Yw,Vj,aq0⟩:=Ki.form;subst aq0;refine zD 7<|jqo (a:=4) (b:=((aI S).length:Int)) 3 (by omega) (by omega)<|jmn (k:= .i64) (a:=3) (b:=(Int.tdiv 4 ((aI S).length:Int)))<|jc (vs:=[zP d,zI (min 3 (Int.tdiv 4 ((aI S).length:Int)))]) [4] (aie hN hR.2.2 (by omega)) ?_;rintro v28 _ ⟨z0,L28,X28,aSw,bfm,aeB,rfl,ays⟩;obtain⟨amA,amu,bgv⟩:=aSw.form;subst bgv;refine jg 0 [.l L28,.l X28]<|jd 10 [3,3]<|ja (((aI S).length:Int)*((z0.map lF).length:Int)) (by have:=mulR (a:=(aI S).length) (b:=(z0.map lF).length) (by omega) (by rw[List.length_map];omega);omega) ?_;refine zD 2<|jj 5 [(0,zP d),(4,zP b4),(5,zP b5),(6,zI ((aI S).length:Int)),(41,.bool ((decide ((((aI S).length:Int)*((z0.map lF).length:Int)) <4))&&(decide (((z0.map lF).length:Int) <2))))] (λni=>?_) (λhj=>?_);rotate_left;refine js 36 (decide ((((aI S).length:Int)*((z0.map lF).length:Int)) <4)) (λh1=>?_) (λh1=>?_)
  ·
   have mA:=h1;replace mA:=ai mA;refine jd 5 [3]<|zxw 41 hj (zya h1)
  ·
   have mA:=h1;replace mA:=ah mA;refine zD 5<|zxw 41 hj (zyb h1)
  refine zD 1<|jj 3 [(0,zP d),(4,zP b4),(5,zP b5),(45,.bool (((decide ((((aI S).length:Int)*((z0.map lF).length:Int)) <4))&&(decide (((z0.map lF).length:Int) <2)))&&(decide (((aI S).length:Int)=3))))] (λni=>?_) (λhj=>?_);rotate_left;refine js 42 ((decide ((((aI S).length:Int)*((z0.map lF).length:Int)) <4))&&(decide (((z0.map lF).length:Int) <2))) (λh2=>?_) (λh2=>?_)
  ·
   have n6:=h2
   try simp only[zB] at n6
   refine zD 3<|zxw 45 hj (zya h2)
  ·
   have n6:=h2
   try simp only[zB] at n6
   refine zD 3<|zxw 45 hj (zyb h2)
  refine zD 1<|jct [1,1,1,1,1,1] [] (λ(zz:(Option Addr)×Nat×Nat×Cells×(List Int)×Int×Cells)=>[(0,zP d),(4,zP b4),(5,zP b5)]) (λzz=>[zxc b5 33 [.slice a0 n0 c0,.slice a1 n1 c1,.slice fa 0 fc,.slice zz.1 zz.2.1 zz.2.2.1,.slice ra rn rc,zI zz.2.2.2.2.2.1,zI 0,zS],.l Z8,.l LR,.l zz.2.2.2.1,.l zz.2.2.2.2.2.2,zxc b4 33 [zS,zS,zS,zS,zS,zI 0,zI 0,zS]]) (λzz=>(∀bU,Knows bU zz.2.2.2.1->dq bU (.slice zz.1 zz.2.1 zz.2.2.1) 1 nU (zz.2.2.2.2.1.map lF))/\I6 zz.2.2.2.2.1/\(zz.2.2.2.2.1.length<=3/\zz.2.2.2.2.1.length*(aI S).length<=6)/\(1<=zz.2.2.2.2.2.1/\zz.2.2.2.2.2.1<=2)/\fo vd xs d zz.2.2.2.2.2.2) ?_ (λK2 mb=>?_)
  ·
   rintro⟨pa,pn,pc,LP,is,D,X⟩ hQ rest;dsimp only at hQ;refine jd 5 [0]<|jc (vs:=[zP d,zI 1,zI D]) [4] (Ee hN hQ.2.2.2.2 (by omega) (by omega)) ?_;rintro _ X56 ⟨w56,rfl,bey,apT,aJe⟩;refine jd 9 [1,1,5]<|zR (.agg ⟨[.slice a0 n0 c0,.slice a1 n1 c1,.slice fa 0 fc,.slice pa pn pc,.slice ra rn rc,zI D,zI w56,zS]⟩) [5] [2,3,4,0] (Z8++(LR++(LP++X56))) ⟨a0,n0,c0,a1,n1,c1,fa,fc,pa,pn,pc,ra,rn,rc,D,w56,⟨S,ways,is.map lF,rs,D,w56,[]⟩,is,Z8++(LR++LP),X56,rfl,λbU hk=>⟨_,_,_,_,_,fa,fc,rfl,(hZ8 _ hk.left).1,(hZ8 _ hk.left).2,hQ.1 _ hk.right.right,hR.1 _ hk.right.left,dq.nil _ _ _ _ _⟩,⟨hPS,hQ.2.1,rfl,hQ.2.2.1,hR.2.1,⟨hQ.2.2.2.1,by dsimp only;omega⟩,rfl⟩,by simp only[List.append_assoc],aJe⟩
  refine js 45 (((decide ((((aI S).length:Int)*((z0.map lF).length:Int)) <4))&&(decide (((z0.map lF).length:Int) <2)))&&(decide (((aI S).length:Int)=3))) (λh3=>?_) (λh3=>?_)
  ·
   try simp only[zB] at h3
   refine zD 4<|jc (vs:=[zP d,zI 2]) [1] (aie hN ays (by omega)) ?_;rintro Yx _ ⟨bd8,EB,X47,aSt,bfi,btc,rfl,ae1⟩;obtain⟨qv,qu,bgs⟩:=aSt.form;subst bgs;refine jg 0 [.l EB,.l X47]<|jd 6 [4,4]<|jmn (k:= .i64) (a:=w13) (b:=2)<|jd 3 [4]<|zY mb ⟨qv,_,qu,EB,bd8,(min w13 2),X47⟩ ⟨λbU hk=>aSt.jI hk,bfi,⟨by dsimp only;omega,by dsimp only;rw[show (aI S).length=3 by omega];omega⟩,by dsimp only;omega,ae1⟩ [4,5,6,0,1,7]
  try simp only[zB] at h3
  refine zD 2<|zY mb ⟨amA,_,amu,L28,z0,w13,X28⟩ ⟨λbU hk=>aSw.jI hk,bfm,⟨by dsimp only;omega,hsh.2 _ aeB⟩,by dsimp only;omega,ays⟩ [3,4,5,0,1,6]
 refine js 16 Cv (λh4=>?_) (λh4=>?_)
 ·
  subst h4;refine zD 4<|jn λXx=>jd 3 [2]<|jg 0 [.l [(Xx,.cells ⟨[.string (bs [121]),.string (bs [105]),.string (bs [110,110]),.string (bs [110])]⟩ 169 (0,0))]]<|zY cX ⟨(some ⟨Xx,0,none⟩),2,2,[(Xx,.cells ⟨[.string (bs [121]),.string (bs [105]),.string (bs [110,110]),.string (bs [110])]⟩ 169 (0,0))],[⟨bs [121],bs [105]⟩,⟨bs [110,110],bs [110]⟩],X16⟩ ⟨λbU hk=>fK [(⟨bs [121],bs [105]⟩:gA),⟨bs [110,110],bs [110]⟩] (hk _ (.head _)) (by intro p hp;rfl),(by dsimp only;decide),S3⟩ [2,4,0,1,5]
 subst h4;refine zD 2<|zY cX ⟨sM,_,sw,Hw,bcR,X16⟩ ⟨λbU hk=>lK.jI hk,by dsimp only;omega,S3⟩ [1,3,2,0,4]
def atn{X:Cells}(hN:Dn ro vd xs)(hD:fo vd xs d X):eW zT 27 [zP d,zI 2,zI 0] ro X (λr Y=>∃a0 n0 c0 a1 n1 c1 fa fc pa pn pc ra rn rc D St K is Z X',r= .agg ⟨[.slice a0 n0 c0,.slice a1 n1 c1,.slice fa 0 fc,.slice pa pn pc,.slice ra rn rc,zI D,zI St,zS]⟩/\(∀bU,Knows bU Z->yl bU [.slice a0 n0 c0,.slice a1 n1 c1,.slice fa 0 fc,.slice pa pn pc,.slice ra rn rc,zI D,zI St,zS] K)/\Gh K is/\Y=Z++X'/\fo vd xs d X'):=by
 refine zC [.l X]<|zD 2<|jn λb6=>zD 5<|jc [1] (aVr hN hD) ?_;rintro _ _ ⟨a0,n0,c0,a1,n1,c1,fa,fc,pa,pn,pc,ra,rn,rc,D,St,K,is,Z,X11,rfl,hZ,hB,rfl,aJh⟩;refine jg 0 [.l Z,.l X11]<|jn λb7=>jd 7 [0]<|jc (vs:=[zP d,zI 0]) [2] (dTo hN aJh (by omega)) ?_;rintro _ X14 ⟨w14,rfl,bsu,iB,ayt⟩;refine zD 3<|iE [1,1,0,1,0,0] [] (λ(zz:Nat)=>[(0,zP d),(6,zP b6),(7,zP b7),(8,zI w14)]) (λzz=>[.l Z,.l X14,zxc b7 33 [.slice a0 n0 c0,.slice a1 n1 c1,.slice fa 0 fc,.slice pa pn pc,.slice ra rn rc,zI D,zI St,zS],zxc b6 33 [zS,zS,zS,zS,zS,zI 0,zI 0,zS]]) (λzz=>True) (λzz=>zz) 0 bW [2,0,1,3] ?_;rintro z hI K1 cX rest;refine zD 6<|zJ 16 (w14>0) (λh1=>?_) λh1=>?_
 ·
  exfalso;omega
 refine jd 8 [2,3]<|zR _ [3] [0,1] _ ⟨a0,n0,c0,a1,n1,c1,fa,fc,pa,pn,pc,ra,rn,rc,D,St,K,is,Z,X14,rfl,hZ,hB,rfl,ayt⟩
set_option maxHeartbeats 2000000 in
def ahp {fa:Option Addr} {K:eQ} (hS:bH ro vS K.str) (hO:cg K.str) (hT:kL ro vT K.ways) (hW:oB K.str K.ways) (hp:dq ro vP 1 nU K.aU) (xE:K.aU.length<=1000) (hr:dq ro vR 2 jT K.rules) (hrl:K.rules.length<=100) (he:dq ro vE 7 tv K.bO) (hel:K.bO.length<=100):eW zT 37 [.agg ⟨[vS,vT,.slice fa 0 fc,vP,vR,zI K.days,zI K.stay,vE]⟩] ro [] (λr Y=>∃xa xn xc ya yn yc za zc pa pn pc ra rn rc ea en ec LE LZ,r= .agg ⟨[.slice xa xn xc,.slice ya yn yc,.slice za 0 zc,.slice pa pn pc,.slice ra rn rc,zI K.days,zI K.stay,.slice ea en ec]⟩/\bJ (.slice ea en ec) 7 43 tv K.bO LE/\(∀bU,Knows bU LZ->bH bU (.slice xa xn xc) K.str/\kL bU (.slice ya yn yc) K.ways/\dq bU (.slice pa pn pc) 1 nU K.aU/\dq bU (.slice ra rn rc) 2 jT K.rules)/\Y=LE++LZ):=by
 have hT0:=hT;have C9:=hp;have mY:=hS;obtain⟨n9,hs,lu⟩:=hS;obtain⟨qZ,qsb,qso,qY,rfl,qsk,qsh,qsl⟩:=hs;obtain⟨mf,ht,jh⟩:=id hT;obtain⟨fP,we,vZ,eL,rfl,v9,nE,nD⟩:=ht;have Oe:=lu.len;have Ww:=jh.len;have mM:=hO.two;have SQ:=hW.two;have Ni:∀(i:Nat) (p:iy),([]:List iy)[i]?=some p->eK ⟨ro,[]⟩ 0 (0+i*6) 6 (oA p):=λ_ _ h=>tP h;obtain⟨iD,zr,zo,g9,rfl,CE,zq,zp⟩:=hp;obtain⟨FV,qrb,qro,FU,rfl,qrk,Zc,Zb⟩:=hr;obtain⟨iu,zu,zt,ia,rfl,Je,yu,yt⟩:=he;refine zE<|zD 2<|jn λb1=>jn λb2=>jd 4 [1]<|jn λb3=>jd 3 [0]<|jct [1,1,1] [] (λ(zz:(Option Addr)×Nat×Nat×(Option Addr)×Nat×Nat×(Option Addr)×Nat×(Option Addr)×Nat×Nat×(Option Addr)×Nat×Nat×(Option Addr)×Nat×Nat×Cells×Cells)=>[(2,zP b2),(3,zP b3)]) (λzz=>[zxc b3 33 [.slice zz.1 zz.2.1 zz.2.2.1,.slice zz.2.2.2.1 zz.2.2.2.2.1 zz.2.2.2.2.2.1,.slice zz.2.2.2.2.2.2.1 0 zz.2.2.2.2.2.2.2.1,.slice zz.2.2.2.2.2.2.2.2.1 zz.2.2.2.2.2.2.2.2.2.1 zz.2.2.2.2.2.2.2.2.2.2.1,.slice zz.2.2.2.2.2.2.2.2.2.2.2.1 zz.2.2.2.2.2.2.2.2.2.2.2.2.1 zz.2.2.2.2.2.2.2.2.2.2.2.2.2.1,zI K.days,zI K.stay,.slice zz.2.2.2.2.2.2.2.2.2.2.2.2.2.2.1 zz.2.2.2.2.2.2.2.2.2.2.2.2.2.2.2.1 zz.2.2.2.2.2.2.2.2.2.2.2.2.2.2.2.2.1],.l zz.2.2.2.2.2.2.2.2.2.2.2.2.2.2.2.2.2.1,.l zz.2.2.2.2.2.2.2.2.2.2.2.2.2.2.2.2.2.2,zxc b2 33 [zS,zS,zS,zS,zS,zI 0,zI 0,zS],zxc b1 33 [.slice qZ n9.length qY,.slice fP mf.length eL,.slice fa 0 fc,.slice iD K.aU.length g9,.slice FV K.rules.length FU,zI K.days,zI K.stay,.slice iu K.bO.length ia]]) (λzz=>bJ (.slice zz.2.2.2.2.2.2.2.2.2.2.2.2.2.2.1 zz.2.2.2.2.2.2.2.2.2.2.2.2.2.2.2.1 zz.2.2.2.2.2.2.2.2.2.2.2.2.2.2.2.2.1) 7 43 tv K.bO zz.2.2.2.2.2.2.2.2.2.2.2.2.2.2.2.2.2.1/\∀bU,Knows bU zz.2.2.2.2.2.2.2.2.2.2.2.2.2.2.2.2.2.2->bH bU (.slice zz.1 zz.2.1 zz.2.2.1) K.str/\kL bU (.slice zz.2.2.2.1 zz.2.2.2.2.1 zz.2.2.2.2.2.1) K.ways/\dq bU (.slice zz.2.2.2.2.2.2.2.2.1 zz.2.2.2.2.2.2.2.2.2.1 zz.2.2.2.2.2.2.2.2.2.2.1) 1 nU K.aU/\dq bU (.slice zz.2.2.2.2.2.2.2.2.2.2.2.1 zz.2.2.2.2.2.2.2.2.2.2.2.2.1 zz.2.2.2.2.2.2.2.2.2.2.2.2.2.1) 2 jT K.rules) ?_ (λK1 cX=>?_)
 ·
  rintro⟨xa,xn,xc,ya,yn,yc,za,zc,pa,pn,pc,ra,rn,rc,ea,en,ec,LE,LZ⟩ hQ rest;dsimp only at hQ;refine jd 6 [0,3]<|zR _ [3] [1,2] _ ⟨xa,xn,xc,ya,yn,yc,za,zc,pa,pn,pc,ra,rn,rc,ea,en,ec,LE,LZ,rfl,hQ.1,hQ.2,rfl⟩
 refine jd 9 [2,2,2,2]<|xB [2,6,10] ⟨λ_ _ uD=>?_,λ_ _ QB=>?_,λ_ _ KG=>?_,bW⟩
 ·
  refine jc (vs:=[.agg ⟨[.slice qZ n9.length qY,.slice fP mf.length eL,.slice fa 0 fc]⟩]) [] (uw mY hO hT0 hW) ?_;rintro _ _ ⟨a0,a1,a2,n0,n1,c0,c1,c2,qs,LT,ZZ,rfl,⟨hqs,hqh⟩,xd,oh,rfl⟩;refine jg 0 [.l LT,.l ZZ]<|eP uD [2,3,4]<|zD 1<|xB [5,6,10] ⟨λ_ _ QF=>?_,λ_ _ QE=>?_,λ_ _ WN=>?_,bW⟩
  ·
   refine jc (vs:=[.slice iD K.aU.length g9]) [] (DO C9 xE) ?_;rintro v10 Hw lK;obtain⟨sM,sw,wy⟩:=lK.form;subst wy;refine eP QF (zN 1 5)<|xB [6,10] ⟨λ_ _ WM=>?_,λ_ _ aeZ=>?_,bW⟩
   ·
    refine jn λwE=>eP WM (zN 1 6)<|xB [9,10] ⟨λ_ _ aeY=>?_,λ_ _ aeW=>?_,bW⟩
    ·
     refine zxq jT wE 169 0 FU Zc Zb λnu nq Ao dg=>eE aeY [[6]]<|zxo 10 λaeV=>jn λxH=>eP aeV (zN 1 7)<|zxo 13 λaeU=>zxq tv xH 43 0 ia yu yt λrD rC C0 dE=>eE aeU []<|zxo 15 λaru=>jd 1 [5]<|eE aru []<|zD 1<|zxo 17 λart=>jd 1 [5]<|eE art []<|zD 1<|zxo 19 λaI8=>jd 1 [5]<|eE aI8 []<|zD 1<|zxo 21 λars=>jd 1 [5]<|kV ars<|zD 1<|zV cX ⟨a0,n0,c0,a1,n1,c1,a2,c2,sM,_,sw,nu,_,nq,rD,_,rC,C0,LT++(ZZ++(Hw++Ao))⟩ ⟨dE,λbU hk=>by exact⟨(oh _ hk.right.left).1,⟨qs,xd.jI hk.left,(oh _ hk.right.left).2⟩,lK.jI hk.right.right.left,dg.jI hk.right.right.right⟩⟩ [[5],[0],[3,4,2,1],[6],[7]]
    refine jn λxH=>eP aeW (zN 1 7)<|zxo 9 λWJ=>zxq jT wE 169 1 FU Zc Zb λnu nq Ao dg=>eE WJ [[7]]<|zxo 13 λarq=>zxq tv xH 43 1 ia yu yt λrD rC C0 dE=>eE arq []<|zxo 15 λarp=>jd 1 [5]<|eE arp []<|zD 1<|zxo 17 λWI=>jd 1 [5]<|eE WI []<|zD 1<|zxo 19 λaro=>jd 1 [5]<|eE aro []<|zD 1<|zxo 21 λarn=>jd 1 [5]<|kV arn<|zD 1<|zV cX ⟨a0,n0,c0,a1,n1,c1,a2,c2,sM,_,sw,nu,_,nq,rD,_,rC,C0,LT++(ZZ++(Hw++Ao))⟩ ⟨dE,λbU hk=>by exact⟨(oh _ hk.right.left).1,⟨qs,xd.jI hk.left,(oh _ hk.right.left).2⟩,lK.jI hk.right.right.left,dg.jI hk.right.right.right⟩⟩ [[5],[0],[3,4,2,1],[6],[7]]
   refine jn λxH=>eP aeZ (zN 1 6)<|zxo 6 λWH=>jn λwE=>eP WH (zN 1 7)<|zxo 9 λaeT=>zxq jT wE 169 0 FU Zc Zb λnu nq Ao dg=>eE aeT [[7]]<|zxo 13 λaeS=>zxq tv xH 43 1 ia yu yt λrD rC C0 dE=>eE aeS []<|zxo 15 λaeR=>jd 1 [5]<|eE aeR []<|zD 1<|zxo 17 λarl=>jd 1 [5]<|eE arl []<|zD 1<|zxo 19 λark=>jd 1 [5]<|eE ark []<|zD 1<|zxo 21 λarj=>jd 1 [5]<|kV arj<|zD 1<|zV cX ⟨a0,n0,c0,a1,n1,c1,a2,c2,sM,_,sw,nu,_,nq,rD,_,rC,C0,LT++(ZZ++(Hw++Ao))⟩ ⟨dE,λbU hk=>by exact⟨(oh _ hk.right.left).1,⟨qs,xd.jI hk.left,(oh _ hk.right.left).2⟩,lK.jI hk.right.right.left,dg.jI hk.right.right.right⟩⟩ [[5],[0],[3,4,2,1],[6],[7]]
  ·
   refine jn λwE=>eP QE (zN 1 5)<|xB [5,10] ⟨λ_ _ ari=>?_,λ_ _ bh1=>?_,bW⟩
   ·
    refine jc (vs:=[.slice iD K.aU.length g9]) [] (DO C9 xE) ?_;rintro v10 Hw lK;obtain⟨sM,sw,wy⟩:=lK.form;subst wy;refine eP ari (zN 1 6)<|xB [9,10] ⟨λ_ _ bhY=>?_,λ_ _ aI3=>?_,bW⟩
    ·
     refine zxq jT wE 169 1 FU Zc Zb λnu nq Ao dg=>eE bhY [[6]]<|zxo 10 λaI2=>jn λxH=>eP aI2 (zN 1 7)<|zxo 13 λarh=>zxq tv xH 43 0 ia yu yt λrD rC C0 dE=>eE arh []<|zxo 15 λaI1=>jd 1 [5]<|eE aI1 []<|zD 1<|zxo 17 λaI0=>jd 1 [5]<|eE aI0 []<|zD 1<|zxo 19 λaIZ=>jd 1 [5]<|eE aIZ []<|zD 1<|zxo 21 λbhW=>jd 1 [5]<|kV bhW<|zD 1<|zV cX ⟨a0,n0,c0,a1,n1,c1,a2,c2,sM,_,sw,nu,_,nq,rD,_,rC,C0,LT++(ZZ++(Hw++Ao))⟩ ⟨dE,λbU hk=>by exact⟨(oh _ hk.right.left).1,⟨qs,xd.jI hk.left,(oh _ hk.right.left).2⟩,lK.jI hk.right.right.left,dg.jI hk.right.right.right⟩⟩ [[5],[0],[3,4,2,1],[6],[7]]
    refine jn λxH=>eP aI3 (zN 1 7)<|zxo 9 λbhV=>zxq jT wE 169 2 FU Zc Zb λnu nq Ao dg=>eE bhV [[7]]<|zxo 13 λaIY=>zxq tv xH 43 1 ia yu yt λrD rC C0 dE=>eE aIY []<|zxo 15 λbhU=>jd 1 [5]<|eE bhU []<|zD 1<|zxo 17 λbhT=>jd 1 [5]<|eE bhT []<|zD 1<|zxo 19 λaIX=>jd 1 [5]<|eE aIX []<|zD 1<|zxo 21 λaIW=>jd 1 [5]<|kV aIW<|zD 1<|zV cX ⟨a0,n0,c0,a1,n1,c1,a2,c2,sM,_,sw,nu,_,nq,rD,_,rC,C0,LT++(ZZ++(Hw++Ao))⟩ ⟨dE,λbU hk=>by exact⟨(oh _ hk.right.left).1,⟨qs,xd.jI hk.left,(oh _ hk.right.left).2⟩,lK.jI hk.right.right.left,dg.jI hk.right.right.right⟩⟩ [[5],[0],[3,4,2,1],[6],[7]]
   refine jn λxH=>eP bh1 (zN 1 6)<|zxo 5 λaIV=>jc (vs:=[.slice iD K.aU.length g9]) [] (DO C9 xE) ?_;rintro v10 Hw lK;obtain⟨sM,sw,wy⟩:=lK.form;subst wy;refine eP aIV (zN 1 7)<|zxo 9 λaIU=>zxq jT wE 169 2 FU Zc Zb λnu nq Ao dg=>eE aIU [[7]]<|zxo 13 λaIT=>zxq tv xH 43 2 ia yu yt λrD rC C0 dE=>eE aIT []<|zxo 15 λaIS=>jd 1 [5]<|eE aIS []<|zD 1<|zxo 17 λaIR=>jd 1 [5]<|eE aIR []<|zD 1<|zxo 19 λaIQ=>jd 1 [5]<|eE aIQ []<|zD 1<|zxo 21 λaIP=>jd 1 [5]<|kV aIP<|zD 1<|zV cX ⟨a0,n0,c0,a1,n1,c1,a2,c2,sM,_,sw,nu,_,nq,rD,_,rC,C0,LT++(ZZ++(Hw++Ao))⟩ ⟨dE,λbU hk=>by exact⟨(oh _ hk.right.left).1,⟨qs,xd.jI hk.left,(oh _ hk.right.left).2⟩,lK.jI hk.right.right.left,dg.jI hk.right.right.right⟩⟩ [[5],[0],[3,4,2,1],[6],[7]]
  refine jn λxH=>eP WN (zN 1 5)<|xB [5,6] ⟨λ_ _ aIO=>?_,λ_ _ aIN=>?_,bW⟩
  ·
   refine jc (vs:=[.slice iD K.aU.length g9]) [] (DO C9 xE) ?_;rintro v10 Hw lK;obtain⟨sM,sw,wy⟩:=lK.form;subst wy;refine eP aIO (zN 1 6)<|zxo 6 λbhQ=>jn λwE=>eP bhQ (zN 1 7)<|zxo 9 λbhP=>zxq jT wE 169 0 FU Zc Zb λnu nq Ao dg=>eE bhP [[7]]<|zxo 13 λaIM=>zxq tv xH 43 2 ia yu yt λrD rC C0 dE=>eE aIM []<|zxo 15 λaIL=>jd 1 [5]<|eE aIL []<|zD 1<|zxo 17 λaIK=>jd 1 [5]<|eE aIK []<|zD 1<|zxo 19 λaIJ=>jd 1 [5]<|eE aIJ []<|zD 1<|zxo 21 λaII=>jd 1 [5]<|kV aII<|zD 1<|zV cX ⟨a0,n0,c0,a1,n1,c1,a2,c2,sM,_,sw,nu,_,nq,rD,_,rC,C0,LT++(ZZ++(Hw++Ao))⟩ ⟨dE,λbU hk=>by exact⟨(oh _ hk.right.left).1,⟨qs,xd.jI hk.left,(oh _ hk.right.left).2⟩,lK.jI hk.right.right.left,dg.jI hk.right.right.right⟩⟩ [[5],[0],[3,4,2,1],[6],[7]]
  refine jn λwE=>eP aIN (zN 1 6)<|zxo 5 λaIH=>jc (vs:=[.slice iD K.aU.length g9]) [] (DO C9 xE) ?_;rintro v10 Hw lK;obtain⟨sM,sw,wy⟩:=lK.form;subst wy;refine eP aIH (zN 1 7)<|zxo 9 λaIG=>zxq jT wE 169 1 FU Zc Zb λnu nq Ao dg=>eE aIG [[7]]<|zxo 13 λaIF=>zxq tv xH 43 2 ia yu yt λrD rC C0 dE=>eE aIF []<|zxo 15 λaIE=>jd 1 [5]<|eE aIE []<|zD 1<|zxo 17 λbhO=>jd 1 [5]<|eE bhO []<|zD 1<|zxo 19 λaUi=>jd 1 [5]<|eE aUi []<|zD 1<|zxo 21 λar7=>jd 1 [5]<|kV ar7<|zD 1<|zV cX ⟨a0,n0,c0,a1,n1,c1,a2,c2,sM,_,sw,nu,_,nq,rD,_,rC,C0,LT++(ZZ++(Hw++Ao))⟩ ⟨dE,λbU hk=>by exact⟨(oh _ hk.right.left).1,⟨qs,xd.jI hk.left,(oh _ hk.right.left).2⟩,lK.jI hk.right.right.left,dg.jI hk.right.right.right⟩⟩ [[5],[0],[3,4,2,1],[6],[7]]
 ·
  refine jn λwE=>eP QB [1,2,3]<|xB [2,10] ⟨λ_ _ ar6=>?_,λ_ _ ar5=>?_,bW⟩
  ·
   refine jc (vs:=[.agg ⟨[.slice qZ n9.length qY,.slice fP mf.length eL,.slice fa 0 fc]⟩]) [] (uw mY hO hT0 hW) ?_;rintro _ _ ⟨a0,a1,a2,n0,n1,c0,c1,c2,qs,LT,ZZ,rfl,⟨hqs,hqh⟩,xd,oh,rfl⟩;refine jg 0 [.l LT,.l ZZ]<|eP ar6 (zN 2 4)<|zD 1<|xB [5,10] ⟨λ_ _ ar4=>?_,λ_ _ ar3=>?_,bW⟩
   ·
    refine jc (vs:=[.slice iD K.aU.length g9]) [] (DO C9 xE) ?_;rintro v10 Hw lK;obtain⟨sM,sw,wy⟩:=lK.form;subst wy;refine eP ar4 (zN 1 6)<|xB [9,10] ⟨λ_ _ ar2=>?_,λ_ _ ar1=>?_,bW⟩
    ·
     refine zxq jT wE 169 3 FU Zc Zb λnu nq Ao dg=>eE ar2 [[6]]<|zxo 10 λaUh=>jn λxH=>eP aUh (zN 1 7)<|zxo 13 λaUg=>zxq tv xH 43 0 ia yu yt λrD rC C0 dE=>eE aUg []<|zxo 15 λar0=>jd 1 [5]<|eE ar0 []<|zD 1<|zxo 17 λarZ=>jd 1 [5]<|eE arZ []<|zD 1<|zxo 19 λarY=>jd 1 [5]<|eE arY []<|zD 1<|zxo 21 λarX=>jd 1 [5]<|kV arX<|zD 1<|zV cX ⟨a0,n0,c0,a1,n1,c1,a2,c2,sM,_,sw,nu,_,nq,rD,_,rC,C0,LT++(ZZ++(Hw++Ao))⟩ ⟨dE,λbU hk=>by exact⟨(oh _ hk.right.left).1,⟨qs,xd.jI hk.left,(oh _ hk.right.left).2⟩,lK.jI hk.right.right.left,dg.jI hk.right.right.right⟩⟩ [[5],[0],[3,4,2,1],[6],[7]]
    refine jn λxH=>eP ar1 (zN 1 7)<|zxo 9 λarW=>zxq jT wE 169 4 FU Zc Zb λnu nq Ao dg=>eE arW [[7]]<|zxo 13 λarV=>zxq tv xH 43 1 ia yu yt λrD rC C0 dE=>eE arV []<|zxo 15 λarU=>jd 1 [5]<|eE arU []<|zD 1<|zxo 17 λarT=>jd 1 [5]<|eE arT []<|zD 1<|zxo 19 λarS=>jd 1 [5]<|eE arS []<|zD 1<|zxo 21 λarR=>jd 1 [5]<|kV arR<|zD 1<|zV cX ⟨a0,n0,c0,a1,n1,c1,a2,c2,sM,_,sw,nu,_,nq,rD,_,rC,C0,LT++(ZZ++(Hw++Ao))⟩ ⟨dE,λbU hk=>by exact⟨(oh _ hk.right.left).1,⟨qs,xd.jI hk.left,(oh _ hk.right.left).2⟩,lK.jI hk.right.right.left,dg.jI hk.right.right.right⟩⟩ [[5],[0],[3,4,2,1],[6],[7]]
   refine jn λxH=>eP ar3 (zN 1 6)<|zxo 5 λarQ=>jc (vs:=[.slice iD K.aU.length g9]) [] (DO C9 xE) ?_;rintro v10 Hw lK;obtain⟨sM,sw,wy⟩:=lK.form;subst wy;refine eP arQ (zN 1 7)<|zxo 9 λarP=>zxq jT wE 169 4 FU Zc Zb λnu nq Ao dg=>eE arP [[7]]<|zxo 13 λarO=>zxq tv xH 43 2 ia yu yt λrD rC C0 dE=>eE arO []<|zxo 15 λarN=>jd 1 [5]<|eE arN []<|zD 1<|zxo 17 λarM=>jd 1 [5]<|eE arM []<|zD 1<|zxo 19 λarL=>jd 1 [5]<|eE arL []<|zD 1<|zxo 21 λarK=>jd 1 [5]<|kV arK<|zD 1<|zV cX ⟨a0,n0,c0,a1,n1,c1,a2,c2,sM,_,sw,nu,_,nq,rD,_,rC,C0,LT++(ZZ++(Hw++Ao))⟩ ⟨dE,λbU hk=>by exact⟨(oh _ hk.right.left).1,⟨qs,xd.jI hk.left,(oh _ hk.right.left).2⟩,lK.jI hk.right.right.left,dg.jI hk.right.right.right⟩⟩ [[5],[0],[3,4,2,1],[6],[7]]
  refine jn λxH=>eP ar5 (zN 1 4)<|zxo 2 λaUf=>jc (vs:=[.agg ⟨[.slice qZ n9.length qY,.slice fP mf.length eL,.slice fa 0 fc]⟩]) [] (uw mY hO hT0 hW) ?_;rintro _ _ ⟨a0,a1,a2,n0,n1,c0,c1,c2,qs,LT,ZZ,rfl,⟨hqs,hqh⟩,xd,oh,rfl⟩;refine jg 0 [.l LT,.l ZZ]<|eP aUf (zN 2 5)<|zD 1<|zxo 5 λaUe=>jc (vs:=[.slice iD K.aU.length g9]) [] (DO C9 xE) ?_;rintro v10 Hw lK;obtain⟨sM,sw,wy⟩:=lK.form;subst wy;refine eP aUe (zN 1 7)<|zxo 9 λarJ=>zxq jT wE 169 4 FU Zc Zb λnu nq Ao dg=>eE arJ [[7]]<|zxo 13 λaUd=>zxq tv xH 43 4 ia yu yt λrD rC C0 dE=>eE aUd []<|zxo 15 λaUc=>jd 1 [5]<|eE aUc []<|zD 1<|zxo 17 λarI=>jd 1 [5]<|eE arI []<|zD 1<|zxo 19 λaUb=>jd 1 [5]<|eE aUb []<|zD 1<|zxo 21 λaUa=>jd 1 [5]<|kV aUa<|zD 1<|zV cX ⟨a0,n0,c0,a1,n1,c1,a2,c2,sM,_,sw,nu,_,nq,rD,_,rC,C0,LT++(ZZ++(Hw++Ao))⟩ ⟨dE,λbU hk=>by exact⟨(oh _ hk.right.left).1,⟨qs,xd.jI hk.left,(oh _ hk.right.left).2⟩,lK.jI hk.right.right.left,dg.jI hk.right.right.right⟩⟩ [[5],[0],[3,4,2,1],[6],[7]]
 refine jn λxH=>eP KG [1,2,3]<|xB [2,6] ⟨λ_ _ aT8=>?_,λ_ _ arH=>?_,bW⟩
 ·
  refine jc (vs:=[.agg ⟨[.slice qZ n9.length qY,.slice fP mf.length eL,.slice fa 0 fc]⟩]) [] (uw mY hO hT0 hW) ?_;rintro _ _ ⟨a0,a1,a2,n0,n1,c0,c1,c2,qs,LT,ZZ,rfl,⟨hqs,hqh⟩,xd,oh,rfl⟩;refine jg 0 [.l LT,.l ZZ]<|eP aT8 (zN 2 4)<|zD 1<|xB [5,6] ⟨λ_ _ arG=>?_,λ_ _ arF=>?_,bW⟩
  ·
   refine jc (vs:=[.slice iD K.aU.length g9]) [] (DO C9 xE) ?_;rintro v10 Hw lK;obtain⟨sM,sw,wy⟩:=lK.form;subst wy;refine eP arG (zN 1 6)<|zxo 6 λarE=>jn λwE=>eP arE (zN 1 7)<|zxo 9 λarD=>zxq jT wE 169 0 FU Zc Zb λnu nq Ao dg=>eE arD [[7]]<|zxo 13 λarC=>zxq tv xH 43 4 ia yu yt λrD rC C0 dE=>eE arC []<|zxo 15 λarB=>jd 1 [5]<|eE arB []<|zD 1<|zxo 17 λarA=>jd 1 [5]<|eE arA []<|zD 1<|zxo 19 λaT1=>jd 1 [5]<|eE aT1 []<|zD 1<|zxo 21 λaT0=>jd 1 [5]<|kV aT0<|zD 1<|zV cX ⟨a0,n0,c0,a1,n1,c1,a2,c2,sM,_,sw,nu,_,nq,rD,_,rC,C0,LT++(ZZ++(Hw++Ao))⟩ ⟨dE,λbU hk=>by exact⟨(oh _ hk.right.left).1,⟨qs,xd.jI hk.left,(oh _ hk.right.left).2⟩,lK.jI hk.right.right.left,dg.jI hk.right.right.right⟩⟩ [[5],[0],[3,4,2,1],[6],[7]]
  refine jn λwE=>eP arF (zN 1 6)<|zxo 5 λaTZ=>jc (vs:=[.slice iD K.aU.length g9]) [] (DO C9 xE) ?_;rintro v10 Hw lK;obtain⟨sM,sw,wy⟩:=lK.form;subst wy;refine eP aTZ (zN 1 7)<|zxo 9 λaTY=>zxq jT wE 169 1 FU Zc Zb λnu nq Ao dg=>eE aTY [[7]]<|zxo 13 λaTX=>zxq tv xH 43 4 ia yu yt λrD rC C0 dE=>eE aTX []<|zxo 15 λaTW=>jd 1 [5]<|eE aTW []<|zD 1<|zxo 17 λaTV=>jd 1 [5]<|eE aTV []<|zD 1<|zxo 19 λaTU=>jd 1 [5]<|eE aTU []<|zD 1<|zxo 21 λaTT=>jd 1 [5]<|kV aTT<|zD 1<|zV cX ⟨a0,n0,c0,a1,n1,c1,a2,c2,sM,_,sw,nu,_,nq,rD,_,rC,C0,LT++(ZZ++(Hw++Ao))⟩ ⟨dE,λbU hk=>by exact⟨(oh _ hk.right.left).1,⟨qs,xd.jI hk.left,(oh _ hk.right.left).2⟩,lK.jI hk.right.right.left,dg.jI hk.right.right.right⟩⟩ [[5],[0],[3,4,2,1],[6],[7]]
 refine jn λwE=>eP arH (zN 1 4)<|zxo 2 λaTS=>jc (vs:=[.agg ⟨[.slice qZ n9.length qY,.slice fP mf.length eL,.slice fa 0 fc]⟩]) [] (uw mY hO hT0 hW) ?_;rintro _ _ ⟨a0,a1,a2,n0,n1,c0,c1,c2,qs,LT,ZZ,rfl,⟨hqs,hqh⟩,xd,oh,rfl⟩;refine jg 0 [.l LT,.l ZZ]<|eP aTS (zN 2 5)<|zD 1<|zxo 5 λaTR=>jc (vs:=[.slice iD K.aU.length g9]) [] (DO C9 xE) ?_;rintro v10 Hw lK;obtain⟨sM,sw,wy⟩:=lK.form;subst wy;refine eP aTR (zN 1 7)<|zxo 9 λaTQ=>zxq jT wE 169 3 FU Zc Zb λnu nq Ao dg=>eE aTQ [[7]]<|zxo 13 λaTP=>zxq tv xH 43 4 ia yu yt λrD rC C0 dE=>eE aTP []<|zxo 15 λaTO=>jd 1 [5]<|eE aTO []<|zD 1<|zxo 17 λaTN=>jd 1 [5]<|eE aTN []<|zD 1<|zxo 19 λaTM=>jd 1 [5]<|eE aTM []<|zD 1<|zxo 21 λaTL=>jd 1 [5]<|kV aTL<|zD 1<|zV cX ⟨a0,n0,c0,a1,n1,c1,a2,c2,sM,_,sw,nu,_,nq,rD,_,rC,C0,LT++(ZZ++(Hw++Ao))⟩ ⟨dE,λbU hk=>by exact⟨(oh _ hk.right.left).1,⟨qs,xd.jI hk.left,(oh _ hk.right.left).2⟩,lK.jI hk.right.right.left,dg.jI hk.right.right.right⟩⟩ [[5],[0],[3,4,2,1],[6],[7]]
structure Lu(ways:List (List aP))(ws:List Int):Prop where
 len:ws.length=ways.length
 ok:∀ {k:Nat} {w:Int} {l:List aP},ws[k]?=some w->ways[k]?=some l->0<=w/\w <(l.length:Int)
def aEy{fa:Option Addr}{S:List (List ax)}(hS:bH ro vS S)(hO:cg S)(hT:kL ro vT ways)(hW:oB S ways)(hw:dq ro vW 1 eI ws)(hRW:Lu ways ws):iz zT 44 [.agg ⟨[vS,vT,.slice fa 0 fc]⟩,vW] ro (.bool true):=by
 have mY:=hS;obtain⟨n9,hs,lu⟩:=hS;obtain⟨qZ,qsb,qso,qY,rfl,qsk,qsh,qsl⟩:=hs;obtain⟨mf,ht,jh⟩:=id hT;obtain⟨fP,we,vZ,eL,rfl,v9,nE,nD⟩:=ht;have Oe:=lu.len;have Ww:=jh.len;have mM:=hO.two;have SQ:=hW.two;have Ni:∀(i:Nat) (p:iy),([]:List iy)[i]?=some p->eK ⟨ro,[]⟩ 0 (0+i*6) 6 (oA p):=λ_ _ h=>tP h;obtain⟨tI,Mq,Mp,qN,rfl,qwk,C4,C3⟩:=hw;have hwl:=hRW.len;refine zE<|zD 2<|jn λb2=>jd 12 [0]<|js 11 (!decide ((ws.length:Int)=(mf.length:Int))) (λh1=>?_) (λh1=>?_)
 ·
  replace h1:=ah (by simpa using h1);exfalso;omega
 replace h1:=ai (by simpa using h1);refine zD 8<|iE [1,1,0,1,0,0] [] (λ(zz:Nat)=>[(1,.slice tI ws.length qN),(2,zP b2),(5,zI (zz:Int))]) (λzz=>[zxc b2 28 [.slice qZ n9.length qY,.slice fP mf.length eL,.slice fa 0 fc]]) (λzz=>zz<=ws.length) (λzz=>ws.length-zz) 0 (bK _) [0] ?_;rintro k hI K1 cX rest;refine zD 8<|zJ 15 ((k:Int) <(ws.length:Int)) (λh2=>?_) λh2=>?_
 ·
  refine zD 8<|zxt ws k qN 1 C4 C3 λsI q6=>zD 2<|js 5 (decide (sI <0)) (λh3=>?_) (λh3=>?_)
  ·
   have wC:=h3;replace wC:=ai wC;exfalso;obtain⟨l,hl⟩:∃l,ways[k]?=some l:=⟨_,af (by omega)⟩;have:=hRW.ok q6 hl;omega
  have wC:=h3;replace wC:=ah wC;refine zD 2<|zxt ws k qN 1 C4 C3 λx26 Nv=>jd 3 [0]<|zxs mf k eL 1 nE λJq Aa=>zD 1 ?_;obtain⟨l33,bfZ,h33⟩:=jh.get Aa;obtain⟨bq5,bq4,bqZ,bq3,rfl,bq1,bq2,bq0⟩:=h33;refine jl 0 (nD _ _ Aa)<|zD 4<|zJ 36 (x26>=(l33.length:Int)) (λh4=>?_) λh4=>?_
  ·
   exfalso;have:=hRW.ok Nv bfZ;omega
  refine zD 4<|zW ((k:Int)+1)<|zD 2<|zY cX (k+1) (by omega) [0]
 refine zD 7<|zX _ ⟨rfl,rfl⟩
def as6{v w:Value}{xs ys:List ar}(hv:dq ro v 3 bL xs)(hw:dq ro w 3 bL ys)(hn:xs.length<=1000)(he:xs=ys):iz zT 104 [v,w] ro (.bool true):=by
 obtain⟨VL,qvb,qvo,Jd,rfl,qvk,Za,Y9⟩:=hv;obtain⟨tI,Mq,Mp,qN,rfl,qwk,C4,C3⟩:=hw;have hle:xs.length=ys.length:=by rw[he]
 refine zE<|zD 13<|js 10 (!decide ((xs.length:Int)=(ys.length:Int))) (λh1=>?_) (λh1=>?_)
 ·
  replace h1:=ah (by simpa using h1);exfalso;omega
 replace h1:=ai (by simpa using h1);refine zD 8<|iE [1,1,0,1,0,0] [] (λ(zz:Nat)=>[(0,.slice VL xs.length Jd),(1,.slice tI ys.length qN),(5,zI (zz:Int))]) (λzz=>[]) (λzz=>zz<=xs.length) (λzz=>xs.length-zz) 0 (bK _) [] ?_;rintro k hI K1 cX rest;refine zD 8<|zJ 14 ((k:Int) <(xs.length:Int)) (λh2=>?_) λh2=>?_
 ·
  refine zD 8<|zxt xs k Jd 3 Za Y9 λBs xW=>zD 2<|zxt ys k qN 3 C4 C3 λxJ qD=>jne ZS (Q6 Bs.h Bs.n Bs.l xJ.h xJ.n xJ.l)<|zD 1<|js 25 (!(Bs.h==xJ.h&&(Bs.n==xJ.n&&(Bs.l==xJ.l&&true)&&true))) (λh3=>?_) (λh3=>?_)
  ·
   try simp only[zB] at h3
   exfalso;rw[<-he] at qD;have e:=aJ (xW.symm.trans qD);subst e;simp_all
  try simp only[zB] at h3
  refine zD 4<|zW ((k:Int)+1)<|zD 2<|zY cX (k+1) (by omega) []
 refine zD 7<|zX _ ⟨rfl,rfl⟩
def tAt{n:Int}:iz zT 103 [zI n] ro (.agg ⟨[zI 0,zI n,zI 0]⟩):=by
 refine zE<|zD 2<|jn λb2=>jd 9 [0]<|zR _ [0] [] [] ⟨rfl,rfl⟩
def aoA(l:List aP)(w:Int):List aP:=(l.take (w+1).toNat).drop w.toNat
def vg(ways:List (List aP))(ws:List Int):List (List aP):=(ways.zip ws).map λp=>aoA p.1 p.2
structure RA(Z:Cells)(ways:List (List aP))(ws:List Int)(qs:List Value)(k:Nat)(ys:List Value):Prop where
 len:ys.length=ways.length
 lo:∀ {j:Nat} {v:Value} {l:List aP} {w:Int},j <k->ys[j]?=some v->ways[j]?=some l->ws[j]?=some w->∀bU,Knows bU Z->dq bU v 7 mO (aoA l w)
 hi:∀ {j:Nat},k<=j->ys[j]?=qs[j]?
theorem RA.next{Z:Cells}{k:Nat}{v:Value}{l:List aP}{w:Int}(h:RA Z ways ws qs k ys)(hl:ways[k]?=some l) (hw:ws[k]?=some w) (hv:∀bU,Knows bU Z->dq bU v 7 mO (aoA l w)):RA Z ways ws qs (k+1) (ys.set k v) where
 len:=by rw[aO];exact h.len
 lo {j v' l' w'} hj h1 h2 h3:=by
  by_cases e:k=j
  .grind
  rw[List.getElem?_set_ne e] at h1;exact h.lo (by omega) h1 h2 h3
 hi {j} hj:=by rw[List.getElem?_set_ne (by omega)];exact h.hi (by omega)
theorem aiB{α β:Type}{R:α->β->Prop}:∀ {l:List α} {m:List β},l.length=m.length->(∀(j:Nat) (x:α) (y:β),l[j]?=some x->m[j]?=some y->R x y)->kA R l m
 | [],[],_,_=> .nil
 | [],_::_,h,_=>by grind
 |_::_,[],h,_=>by grind
 |a::l,b::m,h,hr=> .cons (hr 0 a b rfl rfl) (aiB (by grind) λj x y h1 h2=>hr (j+1) x y h1 h2)
theorem RA.fin{Z:Cells}(h:RA Z ways ws qs ways.length ys)(hl:ws.length=ways.length){bU:Nat->Option Obj}(hk:Knows bU Z):kA (λv l=>dq bU v 7 mO l) ys (vg ways ws):=
 aiB (by rw[h.len,vg,dj,List.length_zip];omega) λj v l h1 h2=>by
  simp only[vg,eG,dQ] at h2;obtain⟨⟨a,b⟩,h3,rfl⟩:=h2;have h4:=Gj.1 h3;exact h.lo (aB.1 h4.1).1 h1 h4.1 h4.2 bU hk
def avs{fa:Option Addr}{S:List (List ax)}(hS:bH ro vS S)(hO:cg S)(hT:kL ro vT ways)(hW:oB S ways)(hw:dq ro vW 1 eI ws)(hRW:Lu ways ws):eW zT 45 [.agg ⟨[vS,vT,.slice fa 0 fc]⟩,vW] ro [] (λr Y=>∃xa xn xc ya yn yc za zc,r= .agg ⟨[.slice xa xn xc,.slice ya yn yc,.slice za 0 zc]⟩/\alu (.slice xa xn xc) (.slice ya yn yc) S (vg ways ws) Y):=by
 have hT0:=hT;have mY:=hS;obtain⟨n9,hs,lu⟩:=hS;obtain⟨qZ,qsb,qso,qY,rfl,qsk,qsh,qsl⟩:=hs;obtain⟨mf,ht,jh⟩:=id hT;obtain⟨fP,we,vZ,eL,rfl,v9,nE,nD⟩:=ht;have Oe:=lu.len;have Ww:=jh.len;have mM:=hO.two;have SQ:=hW.two;have Ni:∀(i:Nat) (p:iy),([]:List iy)[i]?=some p->eK ⟨ro,[]⟩ 0 (0+i*6) 6 (oA p):=λ_ _ h=>tP h;obtain⟨tI,Mq,Mp,qN,rfl,qwk,C4,C3⟩:=hw;have hwl:=hRW.len;refine zE<|zD 2<|jn λb2=>jn λb4=>jd 4 [1]<|jc (vs:=[.agg ⟨[.slice qZ n9.length qY,.slice fP mf.length eL,.slice fa 0 fc]⟩]) [] (uw mY hO hT0 hW) ?_;rintro _ _ ⟨a0,a1,a2,n0,n1,c0,c1,c2,qs,LT0,ZZ,rfl,⟨hqs,hqh⟩,xd,oh,rfl⟩;obtain⟨rfl,hcp⟩:=bJ.cap xd;refine jg 0 [.l LT0,.l ZZ]<|jn λb5=>jd 8 [0]<|iE [1,1,0,1,0,0] [] (λ(zz:Nat×Value×Cells×(List Value))=>[(1,.slice tI ws.length qN),(4,zP b4),(5,zP b5),(6,zI (zz.1:Int))]) (λzz=>[zxc b5 28 [.slice a0 n0 c0,zz.2.1,.slice a2 0 c2],.l zz.2.2.1,.l ZZ,zxc b4 28 [zS,zS,zS],zxc b2 28 [.slice qZ n9.length qY,.slice fP mf.length eL,.slice fa 0 fc]]) (λzz=>zz.1<=ways.length/\bJ zz.2.1 1 82 ri zz.2.2.2 zz.2.2.1/\RA ZZ ways ws qs zz.1 zz.2.2.2) (λzz=>ways.length-zz.1) (⟨0,(.slice a1 qs.length c1),LT0,qs⟩) ⟨Nat.zero_le _,xd,⟨hqs,λh=>absurd h (Nat.not_lt_zero _),λ_=>rfl⟩⟩ (zN 0 5) ?_;rintro⟨i,vT,LT,ys⟩ hI K1 cX rest;dsimp only at hI;have hyl:=hI.2.2.len;refine jd 6 [0]<|jol hI.2.1<|zD 2<|zJ 13 ((i:Int) <(ys.length:Int)) (λh1=>?_) λh1=>?_
 ·
  refine jd 11 [0,0] ?_;obtain⟨LY,iQ⟩:=zG ys i;refine jxo 1 hI.2.1 iQ λb22 aIt=>zD 1<|zx 0 [1] LT (λs _ hZ=>lS hI.2.1 aIt hZ iQ) ?_;obtain⟨l24,Wx,a24,c24,NG,bhh⟩:=hqh.get ((hI.2.2.hi (bu _)).symm.trans iQ);subst NG;refine zD 2<|zxt ws i qN 1 C4 C3 λx27 A2=>zD 2<|zxt ws i qN 1 C4 C3 λJq Aa=>ja (Jq+1) (by have bsH:=hRW.ok Aa Wx;have:=(hW.ok l24 (zL Wx)).1.2;omega) ?_;refine bd1 (a:=a24) (n:=l24.length) (cap:=c24) (sz:=7) (lo:=x27) (hi:=(Jq+1)) bhh (by have e31:Jq=x27:=aJ (Aa.symm.trans A2);have bsI:=hRW.ok A2 Wx;omega) (λa34 n34 c34 be8=>?_);obtain⟨x35,Qc⟩:=zG ys i;refine jxo 1 hI.2.1 Qc λb35 bhr=>zD 1<|zxo 21 λDX=>jso 1 0 [.slice a34 n34 c34] (.slice a34 n34 c34:Value) hI.2.1 bhr Qc rfl rfl (cT rfl) λL3 ho4=>eE DX []<|zD 3<|zW ((i:Int)+1)<|zD 2<|zF cX (⟨i+1,vT,L3,(ys.set i (.slice a34 n34 c34:Value))⟩) ⟨ho4,hI.2.2.next Wx A2 λbU hk=>by obtain⟨b,hb,hs⟩:=(oh bU hk).2.get ((hI.2.2.hi (bu _)).symm.trans iQ);rw[Wx] at hb;cases hb;have s8:=be8 hs;rw[aJ (Aa.symm.trans A2)] at s8;exact s8⟩ [1,0,2,3,4]
 refine zD 3 ?_;obtain⟨va5,vc5,R5⟩:=hI.2.1.form;subst R5;refine jd 5 [0,3]<|zR (.agg ⟨[.slice a0 n0 c0,(.slice va5 (ys).length vc5),.slice a2 0 c2]⟩) [3] [1,2] _ ⟨_,_,_,_,_,_,_,_,rfl,λbU hk=>⟨(oh bU hk.right).1,ys,hI.2.1.jI hk.left,(show RA ZZ ways ws qs ways.length ys by have:=hI.2.2;rwa[show i=ways.length by omega] at this).fin hwl hk.right⟩⟩
def HQ:List (List ax):=[[⟨1,0⟩,⟨2,0⟩]]
def adi:List (List aP):=[[⟨2,0,0,0,0,0,0⟩]]
def aN5:eW zT 102 [] ro [] (λr Y=>∃xa xn xc ya yn yc,r= .agg ⟨[.slice xa xn xc,.slice ya yn yc,zS]⟩/\alu (.slice xa xn xc) (.slice ya yn yc) HQ adi Y):=by
 refine zE<|zD 2<|jn λb0=>zD 5<|jn λb3=>jn λb4=>zD 2<|jn λb7=>zD 1<|jn λb9=>jd 4 [4]<|zR (.agg ⟨[.slice (some ⟨b4,0,none⟩) 1 1,.slice (some ⟨b9,0,none⟩) 1 1,zS]⟩) [4] [3,2,1,0] ((b3,.cells ⟨[zI 1,zI 0,zI 2,zI 0]⟩ 39 (0,0))::((b4,.cells ⟨[.slice (some ⟨b3,0,none⟩) 2 2]⟩ 98 (0,0))::((b7,.cells ⟨[zI 2,zI 0,zI 0,zI 0,zI 0,zI 0,zI 0]⟩ 100 (0,0))::[(b9,.cells ⟨[.slice (some ⟨b7,0,none⟩) 1 1]⟩ 82 (0,0))]))) ⟨_,_,_,_,_,_,rfl,λbU hk=>⟨⟨[.slice (some ⟨b3,0,none⟩) 2 2],fK [(.slice (some ⟨b3,0,none⟩) 2 2:Value)] (hk _ (.tail _ (.head _))) (λ_ _=>rfl),.cons (fK [(⟨1,0⟩:ax),⟨2,0⟩] (hk _ (.head _)) (λ_ _=>rfl)) .nil⟩,⟨[.slice (some ⟨b7,0,none⟩) 1 1],fK [(.slice (some ⟨b7,0,none⟩) 1 1:Value)] (hk _ (.tail _ (.tail _ (.tail _ (.head _))))) (λ_ _=>rfl),.cons (fK [(⟨2,0,0,0,0,0,0⟩:aP)] (hk _ (.tail _ (.tail _ (.head _)))) (λ_ _=>rfl)) .nil⟩⟩⟩
def YY:cg HQ:=⟨by decide,by simp[HQ],by decide,by simp[HQ,p7],by simp[HQ,mH]⟩
theorem YW:oB HQ adi:=⟨by decide,λl h=>by
 simp only[adi,aV] at h;subst h;simp_all;exact⟨by simp,by decide,λh=>by grind,λ_=>rfl,λ_=>⟨rfl,rfl⟩,λ_=>⟨rfl,rfl⟩⟩⟩
def row_3:(aI HQ).length<=3:=by decide
def ajb:ar->List ar:=Dk rO (fY HQ ⟨2,0,0,0,0,0,0⟩)
def anv:dt HQ adi=[⟨[0],xu HQ ⟨2,0,0,0,0,0,0⟩,ajb⟩]:=by
 rfl
def aAG:ajb ⟨0,1,0⟩=[⟨0,2,0⟩]/\dh pP (ajb ⟨0,1,0⟩)=[⟨0,2,0⟩]:=by decide+kernel
def U1:ByteArray:=bs [97,110,110,97]
def K0:eQ:=⟨HQ,adi,[U1],[],1,1,[⟨U1,0,2,0,true,0,0⟩]⟩
theorem aCM:rj U1:=⟨by decide,.inl (by decide)⟩
theorem k0V:wF K0 where
 c:=⟨YY,YW,row_3,by show 1<=(dt HQ adi).length;decide,⟨by decide,nofun⟩,⟨by decide,λw h=>by grind [K0,aV,aCM]⟩,⟨by decide,λx h=>by grind [K0,aV,aCM]⟩⟩
 e:=by rfl
 n:=by decide+kernel
def k0T:0 <(mg K0 (allM 1)).length:=by decide+kernel
def k0S:RB (λt:cv=>(t.at 0).at 0) (mg K0 (allM 1)) [0]:=⟨by simp,by decide+kernel,by decide+kernel⟩
def k0A:OH (tw (λt:cv=>decide ((t.at 0).at 0=1)) (mg K0 (allM 1))) ((mg K0 (allM 1)).length:Int)=2/\OG ((mg K0 (allM 1)).length:Int)=0:=by decide+kernel
theorem abz:∀xs:List Int,eqI xs xs=true
 | []=>rfl
 |x::xs=>by rw[eqI,abz xs];simp
theorem aJW{v w:Value}(hv:dq ro v 1 eI xs)(hw:dq ro w 1 eI xs)(hx:xs.length<=1000):iz zT 16 [v,w] ro (.bool true):=by
 grind [aVi,abz]
def aO3{l:List Value}(hK:yl ro l K0):RP zT 14 [.agg ⟨l⟩,zI 0,zI 0] ro [] (λr Y=>∃v,r= .tuple ⟨[v,zI 0]⟩/\bJ v 1 3 eI [0] Y):=
 RP.mono (awZ hK k0V (by decide) (by decide) k0T k0S (by simp)) λr Y ⟨v,zs,h1,h2,h3⟩=>⟨v,h1,by rw[List.perm_singleton.1 h2] at h3;exact h3⟩
def aO4{l:List Value}(hK:yl ro l K0):RP zT 17 [.agg ⟨l⟩,zI 0,zI 1,zI 0] ro [] (λr Y=>r= .tuple ⟨[zI 2,zI 0]⟩/\Y=[]):=
 RP.mono (aps hK k0V (by decide) (by decide) (by decide)) λr Y ⟨h1,h2⟩=>⟨h1.trans (by rw[show K0.bO.length=1 from rfl,k0A.1,k0A.2]),h2⟩
set_option maxHeartbeats 1000000 in
def aEz:RP zT 50 [] ro [] (λr Y=>r= .bool true/\Y=[]):=by
 refine SF bE [] [] c9 λfr=>zD 6<|jc [] (aN5) ?_;rintro _ L9 ⟨xa9,xn9,xc9,ya9,yn9,yc9,rfl,hR9⟩;refine zxp [zI 1] (λhs=>tAt)<|jcL (vs:=[.agg ⟨[.slice xa9 xn9 xc9,.slice ya9 yn9 yc9,zS]⟩,.agg ⟨[zI 0,zI 1,zI 0]⟩]) [] [0] L9 (λcK hs hZ=>asr (y:=⟨0,1,0⟩) (hR9 _ hZ).1 YY (hR9 _ hZ).2 YW row_3 (by decide) anv (by show (ajb ⟨0,1,0⟩).Nodup/\(ajb ⟨0,1,0⟩).length<=12;rw[aAG.1];decide)) ?_;rintro _ Y11 ⟨a11,n11,c11,rfl,aTG⟩;rw[show dh pP ((⟨[0],xu HQ ⟨2,0,0,0,0,0,0⟩,ajb⟩:rB).g ⟨0,1,0⟩)=[⟨0,2,0⟩] from aAG.2] at aTG;refine zD 8<|jc [] (aN5) ?_;rintro _ Ao ⟨aDw,aDu,aDv,aDs,aDp,aDr,rfl,aTJ⟩;refine jn λxH=>zxp [zI 2] (λhs=>tAt)<|zD 1<|jn λb18=>zD 1<|jn λb3=>jd 5 [0,0]<|jf [2,1,3] ((xH,.cells ⟨[.string (bs [97,110,110,97])]⟩ 9 (0,0))::((b18,.cells ⟨[.string (bs [97,110,110,97]),zI 0,zI 2,zI 0,.bool true,zI 0,zI 0]⟩ 43 (0,0))::Ao)) (λAH fq gV=>?_);have hK0:yl AH [.slice aDw aDu aDv,.slice aDs aDp aDr,zS,.slice (some ⟨xH,0,none⟩) 1 1,zS,zI 1,zI 1,.slice (some ⟨b18,0,none⟩) 1 1] K0:=⟨_,_,_,_,_,none,0,rfl,(aTJ _ (Knows.tail (Knows.tail gV))).1,(aTJ _ (Knows.tail (Knows.tail gV))).2,fK [U1] (gV _ (.head _)) (λ_ _=>rfl),dq.nil _ _ _ _ _,fK [(⟨U1,0,2,0,true,0,0⟩:eT)] (gV _ (.tail _ (.head _))) (λ_ _=>rfl)⟩;refine jcC (vs:=[.agg ⟨[.slice aDw aDu aDv,.slice aDs aDp aDr,zS,.slice (some ⟨xH,0,none⟩) 1 1,zS,zI 1,zI 1,.slice (some ⟨b18,0,none⟩) 1 1]⟩,zI 0,zI 0]) [] (λ_ _ h=>h) (aO3 hK0) ?_;rintro _ L22 ⟨v22,rfl,Ki⟩;obtain⟨Yw,Vj,aH9⟩:=Ki.form;subst aH9;refine jd 9 [1]<|jcC (vs:=[.agg ⟨[.slice aDw aDu aDv,.slice aDs aDp aDr,zS,.slice (some ⟨xH,0,none⟩) 1 1,zS,zI 1,zI 1,.slice (some ⟨b18,0,none⟩) 1 1]⟩,zI 0,zI 1,zI 0]) [] (λ_ _ h=>h) (aO4 hK0) ?_;rintro _ _ ⟨rfl,rfl⟩;refine jg 0 []<|zD 24<|zxp [zI 2] (λhs=>tAt)<|jn λb47=>jf [3] Y11 (λro6 sE hk5=>?_);have aRR:=aTG _ hk5;refine jp (vs:=[.slice a11 n11 c11,.slice (some ⟨b47,0,none⟩) 1 1]) [0] [(b47,.cells ⟨([(⟨0,2,0⟩:ar)].map bL).flatten⟩ 41 (0,0))] (λcK hs hZ=>as6 (aRR.up hs) (fK [(⟨0,2,0⟩:ar)] hZ.head (by intro p hp;rfl)) (by decide) rfl) ?_;refine zD 3<|jn λb52=>jp (vs:=[(.slice Yw ([0]:List Int).length Vj),.slice (some ⟨b52,0,none⟩) 1 1]) [2,0] (L22++[(b52,.cells ⟨([0].map eI).flatten⟩ 3 (0,0))]) (λcK hs hZ=>aJW (Ki.jI hZ.left) (fK [0] hZ.right.head (by intro p hp;rfl)) (by decide)) ?_;refine zD 4<|jrC qC.a.a (.bool true) [5] [] (fq.trans sE) ⟨rfl,rfl⟩
theorem OF:∀ {rest:List (List aP)} {x y:rB} {w:List Int},Walk rest x w y->Lu rest w
 | [],x,y,w,h=>by obtain⟨rfl,rfl⟩:=h;exact⟨rfl,λh=>by simp at h⟩
 |l::rest,x,y,w,h=>by
  obtain⟨i,c,w',rfl,h1,_,h⟩:=h;have ih:=OF h;refine⟨by simp[ih.len],λ{k w l'} hw hl=>?_⟩;cases k with
  |zero=>
   grind
  |succ k=>exact ih.ok (k:=k) (by simpa using hw) (by simpa using hl)
theorem agV{l:List aP}{i:Nat}{c:aP}(h:l[i]?=some c):aoA l (i:Int)=[c]:=by
 grind [aoA,LI,cU,LG,cw]
theorem Tp:∀ {rest:List (List aP)} {x y x':rB} {w:List Int},Walk rest x w y->x'.fin=x.fin->x'.g=x.g->∃y',oy (vg rest w) x'=[y']/\y'.fin=y.fin/\y'.g=y.g
 | [],x,y,x',w,h,hf,hg=>by obtain⟨rfl,rfl⟩:=h;exact⟨x',rfl,hf,hg⟩
 |l::rest,x,y,x',w,h,hf,hg=>by
  obtain⟨i,c,w',rfl,h1,he,h⟩:=h;obtain⟨y',h2,h3,h4⟩:=Tp (x':=AX x' 0 c) h (by simp only[AX,hf]) (by simp only[AX,hf,hg]);rw[show vg (l::rest) ((i:Int)::w')=[c]::vg rest w' by simp only[vg,List.zip_cons_cons,bV,agV h1],uI];simp only[List.zipIdx_cons,List.zipIdx_nil,iH,List.flatMap_nil,eR,Gl]
  grind
def JH{S:List (List ax)}{w:List Int}(hW:oB S ways)(hr:Lu ways w):oB S (vg ways w) where
 two:=by have:=hW.two;simp only[vg,dj,List.length_zip];omega
 ok l hl:=by
  simp only[vg,List.mem_map] at hl;obtain⟨⟨l0,w0⟩,hm,rfl⟩:=hl;obtain⟨j,hj⟩:=List.getElem?_of_mem hm;obtain⟨h1,h2⟩:=List.getElem?_zip_eq_some.1 hj;have h3:0<=w0/\w0 <(l0.length:Int):=hr.ok h2 h1;obtain⟨c,hc⟩:∃c,l0[w0.toNat]?=some c:=⟨_,List.getElem?_eq_getElem (by omega)⟩;have e:=agV hc;rw[show ((w0.toNat:Nat):Int)=w0 by omega] at e;dsimp only;rw[e];exact⟨by simp,λz hz=>by rw[List.mem_singleton.1 hz];exact(hW.ok l0 (zL h1)).2 c (zL hc)⟩
def Gr{S:List (List ax)}{y:rB}(h:y∈dt S ways):Lu ways y.ways/\∃y',dt S (vg ways y.ways)=[y']/\y'.fin=y.fin/\y'.g=y.g:=by
 obtain⟨w,hw⟩:=mem_grow.1 h;have e:=(ED hw).1;rw[e];exact⟨OF hw,Tp hw rfl rfl⟩
theorem aJ9{a b:Bool}{x:Int}(hx:x=0):(bif a then x else bif b then x else bif true then 0 else x)=0:=by grind
def aod:∀c:Nat,c <32->1<=c->pL (c:Int)>0:=by decide+kernel
theorem aFs:pL 0=0:=by decide
def awQ:∀c:Nat,c <32->1<=c->mw (c:Int) 5≠[]:=by decide+kernel
def pow_32(hn:n<=5):2^n<=32:=jU (by simp) hn
def ayS{t:Int->Bool}(h:t 0=true)(hn:n<=5):KU t n=[]:=by
 have h1:CV t n 1=0:=by
  have e:n=0\/n=1\/n=2\/n=3\/n=4\/n=5:=by omega
  simp only[CV,wK];rw[show ((0:Nat):Int)=0 from rfl,h];rcases e with rfl|rfl|rfl|rfl|rfl|rfl
  .exact aJ9 (show allM 0=0 by decide)
  all_goals rfl
 have h2:∀c,c+1<=2^n->CV t n (c+1)=0:=λc=>by
  induction c with
  |zero=>exact λ_=>h1
  |succ c ih=>
   intro hc;have:=aod (c+1) (by have:=pow_32 hn;omega) (by omega);rw[CV,ih (by omega),wK,aFs,cb this];rfl
 have hp:0 <2^n:=Nat.pow_pos (by decide);obtain⟨m,hm⟩:∃m,2^n=m+1:=⟨2^n-1,by omega⟩;rw[KU,hm,h2 m (by omega)];decide
def asO{t:Int->Bool}(h:t 0=false)(h1:1<=n)(hn:n<=5):KU t n≠[]:=by
 have h2:∀c,c<=2^n->∃f:Nat,CV t n c=f/\f <32/\1<=f:=λc=>by
  induction c with
  |zero=>
   intro _;have e:n=1\/n=2\/n=3\/n=4\/n=5:=by omega
   rcases e with rfl|rfl|rfl|rfl|rfl
   .exact⟨1,(show allM 1=1 from by decide),by decide,by decide⟩
   .exact⟨3,(show allM 2=3 from by decide),by decide,by decide⟩
   .exact⟨7,(show allM 3=7 from by decide),by decide,by decide⟩
   .exact⟨15,(show allM 4=15 from by decide),by decide,by decide⟩
   exact⟨31,(show allM 5=31 from by decide),by decide,by decide⟩
  |succ c ih=>
   intro hc;have ih:=ih (by omega);rw[CV,wK];cases decide (pL c>pL (CV t n c)) with
   |true=>exact ih
   |false=>
    cases decide (pL c=pL (CV t n c))&&decide (y4 (mw c 5) (mw (CV t n c) 5)>=0) with
    |true=>exact ih
    |false=>
     cases ht:t (c:Int) with
     |false=>exact ih
     |true=>
      refine⟨c,rfl,by have:=pow_32 hn;omega,?_⟩;cases c with
      |zero=>rw[show ((0:Nat):Int)=0 from rfl,h] at ht;cases ht
      |succ c=>omega
 obtain⟨f,h3,h4,h5⟩:=h2 (2^n) (bu _);rw[KU,h3];exact awQ f h4 h5
theorem awy{j:Int}(hi:0<=i/\i <6)(hj:0<=j/\j <6):HG [] (lF i) (lF j)=2↔i≠j:=by
 have h:∀a:Nat,a <6->∀b:Nat,b <6->(HG [] (lF (a:Int)) (lF (b:Int))=2↔a≠b):=by decide+kernel
 have:=h i.toNat (by omega) j.toNat (by omega)
 grind
def M5(m:Int):Prop:=0<=m/\m <32
theorem M5.nat{m:Int}(h:M5 m):∃a:Nat,a <32/\m=a:=⟨m.toNat,by grind [M5],by grind [M5]⟩
theorem or5:∀a:Nat,a <32->∀b:Nat,b <32->(0<=iOr .u8 (a:Int) (b:Int)/\iOr .u8 (a:Int) (b:Int) <32)/\∀k:Nat,k <5->iv (iOr .u8 (a:Int) (b:Int)) (k:Int)=(iv (a:Int) (k:Int)||iv (b:Int) (k:Int)):=by decide+kernel
def agQ{a:Int}(ha:M5 a)(hb:M5 b):M5 (iOr .u8 a b):=by
 obtain⟨a,h1,rfl⟩:=ha.nat;obtain⟨b,h2,rfl⟩:=hb.nat;exact(or5 a h1 b h2).1
theorem VQ{a:Int}(ha:M5 a)(hb:M5 b){k:Nat}(hk:k <5):iv (iOr .u8 a b) (k:Int)=(iv a (k:Int)||iv b (k:Int)):=by
 obtain⟨a,h1,rfl⟩:=ha.nat;obtain⟨b,h2,rfl⟩:=hb.nat;simp_all[or5]
def aPD:∀k:Nat,k <5->(0<=iA .u8 1 (k:Int)/\iA .u8 1 (k:Int) <32)/\∀j:Nat,j <5->iv (iA .u8 1 (k:Int)) (j:Int)=decide (j=k):=by decide+kernel
theorem aPX:∀n:Nat,n <6->∀a:Nat,a <32->(oK .u8 (allM n) (a:Int)=0↔∀k:Nat,k <n->iv (a:Int) (k:Int)=true):=by decide+kernel
theorem ZT(hn:n<=5){m:Int}(hm:M5 m):oK .u8 (allM n) m=0↔∀k:Nat,k <n->iv m (k:Int)=true:=by
 obtain⟨a,h1,rfl⟩:=hm.nat;grind [aPX]
theorem aIv:∀k:Nat,k <5->iv 0 (k:Int)=false:=by decide
theorem adV:M5 0:=⟨by decide,by decide⟩
theorem TS{q:eT->Bool}{es:List eT}:∀ {n:Nat},n<=es.length->n<=5->M5 (rP q es n)/\∀(k:Nat) (x:eT),k <5->es[k]?=some x->iv (rP q es n) (k:Int)=(decide (k <n)&&q x)
 |0,_,_=>⟨adV,λk x hk _=>by rw[rP,aIv k hk];simp⟩
 |n+1,h,hn=>by
  obtain⟨y,hy⟩:∃y,es[n]?=some y:=⟨_,af (by omega)⟩;obtain⟨ih1,ih2⟩:=TS (q:=q) (es:=es) (n:=n) (by omega) (by omega);cases hq:q y with
  |true=>
   rw[ZV hy hq];have h1:=aPD n (by omega);refine⟨agQ ih1 h1.1,λk x hk hx=>?_⟩;rw[VQ ih1 h1.1 hk,ih2 k x hk hx,h1.2 k hk];by_cases e:k=n
   .subst e;rw[hy] at hx;cases hx;simp[hq]
   simp[e,show (k <n+1)=(k <n) by simp;omega]
  |false=>
   grind [ZW]
theorem P3{nm:Int}{hm:eT->Int}{y:cy}{es:List eT}:∀ {n:Nat},n<=es.length->n<=5->M5 (tS nm hm y es n)/\∀(k:Nat) (x:eT),k <5->es[k]?=some x->iv (tS nm hm y es n) (k:Int)=(decide (k <n)&&(iv nm (k:Int)&& !decide (hm x= -1)&&inB y x (hm x)))
 |0,_,_=>⟨adV,λk x hk _=>by rw[tS,aIv k hk];simp⟩
 |n+1,h,hn=>by
  obtain⟨z,hz⟩:∃z,es[n]?=some z:=⟨_,af (by omega)⟩;obtain⟨ih1,ih2⟩:=P3 (nm:=nm) (hm:=hm) (y:=y) (es:=es) (n:=n) (by omega) (by omega);cases hq:(iv nm (n:Int)&& !decide (hm z= -1)&&inB y z (hm z)) with
  |true=>
   rw[ag8 hz hq];have h1:=aPD n (by omega);refine⟨agQ ih1 h1.1,λk x hk hx=>?_⟩;rw[VQ ih1 h1.1 hk,ih2 k x hk hx,h1.2 k hk];by_cases e:k=n
   .subst e;rw[hz] at hx;cases hx;rw[hq];simp
   simp[e,show (k <n+1)=(k <n) by simp;omega]
  |false=>
   grind [Ob]
theorem an6{t:cv}{x:cy}(hp:p <3):(t.put p x).at p=x:=by
 rcases lt3 hp with rfl|rfl|rfl<;>rfl
theorem kT{t:cv}{x:cy}(hp:p <3)(hj:j <3)(h:j≠p):(t.put p x).at j=t.at j:=by
 rcases lt3 hp with rfl|rfl|rfl<;>rcases lt3 hj with rfl|rfl|rfl<;>first|rfl|omega
theorem afb{t t':cv}{x:cy}(h:∀j,j <p->t.at j=t'.at j):ql D t p x=ql D t' p x:=by
 grind [ql]
def G8{ls:List cy}{mk:Nat->Nat->cy->Int}(MH:∀i j y,M5 (mk i j y)):∀ {k:Nat} {t0 t:cv} {p:Nat} {m:Int},p+k<=3->M5 m->t∈nQ D ls mk need k t0 p m->
 t.past=t0.past/\(∀j,j <p->t.at j=t0.at j)/\(∀j,p<=j->j <p+k->t.at j∈ls/\ql D t j (t.at j)=true)/\∃m',M5 m'/\oK .u8 need m'=0/\∀e:Nat,e <5->iv m' (e:Int)=true->iv m (e:Int)=true\/∃j,p<=j/\j <p+k/\iv (mk t.past.toNat j (t.at j)) (e:Int)=true
 |0,t0,t,p,m,_,hm,h=>by
  simp only[nQ] at h;cases hd:decide (oK .u8 need m=0) with
  |false=>rw[hd] at h;simp at h
  |true=>
   rw[hd] at h;simp at h;subst h;exact⟨rfl,λ_ _=>rfl,λj h1 h2=>by omega,m,hm,ai hd,λe _ he=> .inl he⟩
 |k+1,t0,t,p,m,hp,hm,h=>by
  rw[x5,eZ] at h;obtain⟨x,hx,h⟩:=h;simp only[Co] at h;cases hf:ql D t0 p x with
  |false=>rw[hf] at h;simp at h
  |true=>
   rw[hf] at h;simp only[cH] at h;obtain⟨h1,h2,h3,m',h4,h5,h6⟩:=G8 MH (p:=p+1) (by omega) (agQ hm (MH _ _ _)) h;rw[Pz] at h1;have hpx:t.at p=x:=by rw[h2 p (by omega),an6 (by omega)]
   have hbe:∀j,j <p->t.at j=t0.at j:=λj hj=>by rw[h2 j (by omega),kT (by omega) (by omega) (by omega)]
   refine⟨h1,hbe,λj hj1 SV=>?_,m',h4,h5,λe he hb=>?_⟩
   .by_cases e:j=p
    .subst e;rw[hpx];exact⟨hx,by rw[afb hbe];exact hf⟩
    exact h3 j (by omega) (by omega)
   rcases h6 e he hb with h7| ⟨j,h7,h8,h9⟩
   .rw[VQ hm (MH _ _ _) he,aF] at h7;exact h7.imp id λh7=>⟨p,bu _,by omega,by rw[h1,hpx];exact h7⟩
   exact .inr ⟨j,by omega,by omega,h9⟩
theorem Ur{D:Int}{ls:List cy}{mk:Nat->Nat->cy->Int}{need:Int}{xs:Nat->cy}{i:Nat}(MH:∀i j y,M5 (mk i j y)):∀ {k:Nat} {t0:cv} {p:Nat} {m:Int},p+k<=3->M5 m->t0.past.toNat=i->(∀j,j <p->t0.at j=xs j)->(∀j,p<=j->j <p+k->xs j∈ls/\∀T:cv,(∀a,a <j->T.at a=xs a)->ql D T j (xs j)=true)->
 (∀m',M5 m'->(∀e:Nat,e <5->(iv m (e:Int)=true\/∃j,p<=j/\j <p+k/\iv (mk i j (xs j)) (e:Int)=true)->iv m' (e:Int)=true)->oK .u8 need m'=0)->nQ D ls mk need k t0 p m≠[]
 |0,t0,p,m,_,hm,_,_,_,hc=>by
  have:=hc m hm λe _ h=>h.elim id λ⟨j,h1,h2,_⟩=>by omega
  simp only[nQ,this];simp
 |k+1,t0,p,m,hp,hm,hi,hb,hx,hc=>by
  obtain⟨h1,h2⟩:=hx p (Nat.le_refl _) (by omega)
  have ih:=Ur (need:=need) (xs:=xs) (i:=i) MH (k:=k) (t0:=t0.put p (xs p)) (p:=p+1) (m:=iOr .u8 m (mk i p (xs p))) (by omega) (agQ hm (MH _ _ _)) (by rw[Pz];exact hi)
   (λj hj=>by
    by_cases e:j=p
    .subst e;exact an6 (by omega)
    rw[kT (by omega) (by omega) e];exact hb j (by omega))
   (λj hj1 SV=>hx j (by omega) (by omega))
   (λm' Kp h=>hc m' Kp λe he h3=>h e he (by
    rw[VQ hm (MH _ _ _) he,Bool.or_eq_true]
    grind))
  intro hn
  rw[x5,List.flatMap_eq_nil_iff] at hn
  have:=hn (xs p) h1
  simp only[Co] at this
  rw[h2 t0 hb,cond_true,hi] at this
  exact ih this
structure Told(hs:List ar)(g:ar->List ar)(is:List Int)(D:Int)(e:eT)(p x d:Nat):Prop where
 nm:∃i,is[p]?=some i/\e.name=lF i
 dy:(d:Int) <D/\e.low=(d:Int)/\e.high=(d:Int)
 pl:∃h,hs[x]?=some h/\((e.late=false/\h=⟨e.st,e.no,e.lt⟩)\/(e.late=true/\(⟨e.st,e.no,e.lt⟩:ar)∈g h))
theorem He{α:Type}{p:α->Bool}:∀ {l:List α} {k i:Nat} {x:α},l[i]?=some x->p x=true->(∀j y,j <i->l[j]?=some y->p y=false)->bM p l k=((k+i:Nat):Int)
 |a::l,k,0,x,h,hp,_=>by
  grind [bM]
 |a::l,k,i+1,x,h,hp,hn=>by
  have h0:=hn 0 a (by omega) rfl;simp only[bM,h0,fJ];rw[He (l:=l) (i:=i) (by simpa using h) hp λj y hj hy=>hn (j+1) y (by omega) (by simpa using hy)];omega
theorem avl{hs:List ar}{g:ar->List ar}{is:List Int}{e:eT}(hn:hs.Nodup)(hA:Apart hs g)(h:Told hs g is D e p x d):Ko hs (Si hs g) (λz=>decide (HE hs g z>=0)) e=(x:Int):=by
 obtain⟨h,hx,⟨h1,h2⟩| ⟨h1,h2⟩⟩:=h.pl
 .simp only[Ko,GY,h1,pQ,cH];have:=He (p:=qK e.st e.no e.lt) (k:=0) hx (by subst h2;simp[qK]) λj y hj hy=>by
   cases hp:qK e.st e.no e.lt y with
   |false=>rfl
   |true=>
    have e1:y=h:=by subst h2;rcases y with ⟨a,b,c⟩;simp[qK] at hp;simp[hp]
    subst e1;have:=Eo hn hy hx;omega
  rw[this];simp
 have hw:HE hs g ⟨e.st,e.no,e.lt⟩=(x:Int):=by
  have:=He (p:=λh=>decide ((⟨e.st,e.no,e.lt⟩:ar)∈g h)) (k:=0) hx (cb h2) λj y hj hy=>cG λhm=>by
   have e1:=hA y (zL hy) h (zL hx) _ hm h2;subst e1;have:=Eo hn hy hx;omega
  rw[HE,this];simp
 have h0:decide (HE hs g ⟨e.st,e.no,e.lt⟩>=0)=true:=cb (by rw[hw];omega);simp only[Ko,GY,h1,pG,fJ,Si,hw];rw[cb (show (x:Int)>=0 by omega)];rfl
theorem avk{e:eT}{y:cy}{h:Int}(hd:d <4)(h1:e.low=(d:Int))(h2:e.high=(d:Int)):inB y e h=decide (h=y.at d):=by
 have:d=0\/d=1\/d=2\/d=3:=by omega
 have key:∀a:Int,decide (bM (λz=>decide (h=z)) [a] 0>=0)=decide (h=a):=λa=>by grind [bM]
 rcases this with rfl|rfl|rfl|rfl<;>(rw[inB,h1,h2];exact key _)
theorem aFS{K:eQ}{hs:List ar}{wi:ar->Int}{wb:ar->Bool}{y:cy}(h5:K.bO.length<=5):M5 (mkG K hs wi wb j y):=by
 grind [mkG,P3,adV]
theorem adP{K:eQ}(h5:K.bO.length<=5)(i j:Nat)(y:cy):M5 (wZ K i j y):=by
 grind [wZ,aFS,adV]
theorem aiT{K:eQ}{is:List Int}{hs:List ar}{g:ar->List ar}(hp:K.aU=is.map lF)(hr:K.rules=[])(hP:I6 is)(hn:hs.Nodup)(hA:Apart hs g)(h5:K.bO.length<=5)(hD:D<=4){k:Nat}{e:eT}(he:K.bO[k]?=some e) (hT:Told hs g is D e p x d) {y:cy} (hj:j <is.length):
 iv (mkG K hs (Si hs g) (λz=>decide (HE hs g z>=0)) j y) (k:Int)=(decide (j=p)&&decide ((x:Int)=y.at d)):=by
 obtain⟨i,hi,MG⟩:=hT.nm;obtain⟨a,ha⟩:∃a,is[j]?=some a:=⟨_,af hj⟩;have Ui:k <K.bO.length:=(aB.1 he).1;rw[ao5 (s:=lF a) (by rw[hp,eG,ha];rfl),(P3 (bu _) h5).2 k e (by omega) he,(TS (bu _) h5).2 k e (by omega) he,avl hn hA hT,avk (by have:=hT.dy.1;omega) hT.dy.2.1 hT.dy.2.2];have hq:qF K (lF a) e=decide (j=p):=by
  unfold qF;rw[hr,MG,Gk,az,ak,aA,awy (hP.ok i (zL hi)) (hP.ok a (zL ha))];constructor
  .intro h;have h:i=a:=by omega
   subst h;exact Eo hP.nd ha hi
  rintro rfl;rw[ha] at hi;cases hi;simp
 grind
structure FN(K:eQ)(is:List Int)(g:ar->List ar):Prop where
 Nr:K.aU=is.map lF
 pick:I6 is
 p3:is.length<=3
 rules:K.rules=[]
 nd:K.hs.Nodup
 ap:Apart K.hs g
 h:1<=K.hs.length/\K.hs.length<=3
 day:(K.days=1/\K.stay=1)\/(K.days=2/\(K.stay=1\/K.stay=2))
 n5:K.bO.length<=5
 one:∃w,K.W=[w]/\K.g w=g
theorem FN.mk0{K:eQ}{is:List Int}{g:ar->List ar}(h:FN K is g):wZ K 0=mkG K K.hs (Si K.hs g) (λz=>decide (HE K.hs g z>=0)):=by
 obtain⟨w,h1,h2⟩:=h.one
 grind [ao4]
theorem FN.tru{K:eQ}{is:List Int}{g:ar->List ar}(h:FN K is g)(need:Int):mg K need=nQ K.days (GJ K) (wZ K) need is.length (aiR 0) 0 0:=by
 obtain⟨w,h1,_⟩:=h.one;rw[mg,j9,h1,h.Nr,dj];simp[TK]
def ahb(D v:Int):cy:=if D=1 then ⟨v,0,0,0⟩ else ⟨v,v,0,0⟩
theorem V6{v:Int}(hD:D=1\/D=2)(h:(d:Int) <D):(ahb D v).at d=v:=by
 rcases hD with rfl|rfl
 .have:d=0:=by omega
  subst this;rfl
 have:d=0\/d=1:=by omega
 rcases this with rfl|rfl<;>rfl
def axY:∀H:Nat,H <4->∀v:Nat,v <H+1->∀DS:Fin 3,ahb (DS.val / 1+1-DS.val / 2:Nat) ((v:Int)-1)∈BO ⟨zI 0,zI 0,zI 0,zI 0,zI 0,zI 0,zI 0,(DS.val / 1+1-DS.val / 2:Nat),(DS.val / 2+1:Nat),none,H,0⟩:=by decide+kernel
def FN.bdl{K:eQ}{is:List Int}{g:ar->List ar}(h:FN K is g){v:Int}(hv: -1<=v/\v <K.hs.length):ahb K.days v∈GJ K:=by
 have hh:=h.h;have key:=axY K.hs.length (by omega) (v+1).toNat (by omega);rw[show (((v+1).toNat:Nat):Int)-1=v by omega] at key;unfold GJ eQ.inn;rcases h.day with ⟨h1,h2⟩| ⟨h1,h2|h2⟩<;>rw[h1,h2]
 .exact key 0
 .exact key 1
 exact key 2
theorem FN.dd{K:eQ}{is:List Int}{g:ar->List ar}(h:FN K is g):K.days=1\/K.days=2:=by
 rcases h.day with ⟨h1,_⟩| ⟨h1,_⟩<;>simp[h1]
theorem FN.mark{K:eQ}{is:List Int}{g:ar->List ar}(h:FN K is g){k:Nat}{e:eT}(he:K.bO[k]?=some e) (hT:Told K.hs g is K.days e p x d) {y:cy} (hj:j <is.length):iv (wZ K 0 j y) (k:Int)=(decide (j=p)&&decide ((x:Int)=y.at d)):=by
 rw[h.mk0];exact aiT h.Nr h.rules h.pick h.nd h.ap h.n5 (by rcases h.dd with e|e<;>rw[e]<;>decide) he hT hj
def YE{K:eQ}{is:List Int}{g:ar->List ar}(h:FN K is g)(hT:∀e∈K.bO,∃p d:Nat,p <is.length/\p <K.hs.length/\Told K.hs g is K.days e p p d):mg K (allM K.bO.length)≠[]:=by
 rw[h.tru];have h3:=h.p3;have hv:∀j:Nat,-1<=(if j <K.hs.length then (j:Int) else-1)/\(if j <K.hs.length then (j:Int) else-1) <K.hs.length:=λj=>by have:=h.h;split<;>omega
 refine Ur (xs:=λj=>ahb K.days (if j <K.hs.length then (j:Int) else-1)) (i:=0) (adP h.n5) (by omega) adV rfl (λj hj=>by omega) (λj _ hj=>⟨h.bdl (hv j),λT hT=>asC λa ha d hd hm=>?_⟩) λm' Kp hb=>?_
 .have Oi:(d:Int) <K.days:=by rcases h.dd with e|e<;>rw[e] at hd ⊢ <;>omega
  obtain⟨h1,h2⟩:=hm;rw[hT a ha] at h2;rw[V6 h.dd Oi] at h1 h2;rw[V6 h.dd Oi] at h2;split at h2<;>split at h2<;>first|omega| (rename_i c _;rw[cJ c] at h1;exact h1 rfl)
 rw[ZT h.n5 Kp];intro k hk;obtain⟨e,he⟩:∃e,K.bO[k]?=some e:=⟨_,af hk⟩;obtain⟨p,d,h1,h2,h4⟩:=hT e (zL he);refine hb k (by have:=h.n5;omega) (.inr ⟨p,by omega,by omega,?_⟩);rw[h.mark he h4 h1,V6 h.dd h4.dy.1,dW h2];simp
theorem Vo{K:eQ}{is:List Int}{g:ar->List ar}(h:FN K is g){t:cv}(ht:t∈mg K (allM K.bO.length)){k:Nat}{e:eT}(he:K.bO[k]?=some e) (hT:Told K.hs g is K.days e p x d):p <is.length/\(t.at p).at d=(x:Int):=by
 rw[h.tru] at ht;have h3:=h.p3;obtain⟨h1,_,_,m',h4,h5,h6⟩:=G8 (adP h.n5) (by omega) adV ht;have Ui:k <K.bO.length:=(aB.1 he).1;have hb:=(ZT h.n5 h4).1 h5 k Ui;rcases h6 k (by have:=h.n5;omega) hb with h7| ⟨j,_,hj,h7⟩
 .rw[aIv k (by have:=h.n5;omega)] at h7;cases h7
 rw[h1,show (aiR 0).past.toNat=0 from rfl,h.mark he hT (by omega)] at h7
 grind
def avi{K:eQ}{is:List Int}{g:ar->List ar}(h:FN K is g){k:Nat}{e e':eT}(he:K.bO[k]?=some e) (hT:Told K.hs g is K.days e p x d) (Oh:K.bO[k']?=some e') (hT':Told K.hs g is K.days e' q x d) (hpq:p <q):mg K (allM K.bO.length)=[]:=by
 refine List.eq_nil_iff_forall_not_mem.2 λt ht=>?_;obtain⟨h1,h2⟩:=Vo h ht he hT;obtain⟨h1',h2'⟩:=Vo h ht Oh hT';rw[h.tru] at ht;have h3:=h.p3;obtain⟨_,_,hf,_⟩:=G8 (adP h.n5) (by omega) adV ht;have hd:=hT.dy.1;have:=(hf q (by omega) (by omega)).2;rw[asD (j:=p) (d:=d) hpq (by omega) ⟨by rw[h2'];omega,by rw[h2,h2']⟩] at this;cases this
theorem awb{S T:List (List ax)}{z:ar}(e:T.length=S.length)(h:Ey T z):Ey S z:=by
 grind [Ey]
def abb{S:List (List ax)}{H:List ar}:∀ {rest:List (List aP)} {x y:rB} {w:List Int} {d:Nat},(∀l∈rest,∀c∈l,nn S c)->U2 H d x->x.fin.length=S.length->d+rest.length<=2->(∀h∈H,∀z∈x.g h,Ey S z)->Walk rest x w y->∀h∈H,∀z∈y.g h,Ey S z
 | [],x,y,w,d,_,hk,hl,_,hz,h=>by obtain⟨rfl,rfl⟩:=h;exact hz
 |l::rest,x,y,w,d,hc,hk,hl,hd,hz,h=>by
  obtain⟨i,c,w',rfl,h1,he,h⟩:=h;rw[aK] at hd;have CQ:=(hc l (.head _) c (zL h1)).fX hl;have hM:=xT (hk.fin (by omega)) CQ he;exact abb (d:=d+1) (λl hl=>hc l (.tail _ hl)) (hk.next (by omega) hM) (by rw[Fe];exact hl) (by omega) (λa ha z BR=>by
   obtain⟨b,hb,BR⟩:=xz.1 BR;exact awb hl ((hM.val b (hk.inn a ha b hb)).2 z BR)) h
theorem GB{S:List (List ax)}(h:U5 S ways){y:rB}(hy:y∈dt S ways):Apart (aI S) y.g/\(∀a∈aI S,∀z∈y.g a,Ey S z)/\∀a∈aI S,(y.g a).Nodup/\(y.g a).length<=4:=by
 obtain⟨w,hw⟩:=mem_grow.1 hy;have hO:=h.sV.1;have dr:=U2.start hO h.sV.2.2;have h2:=h.wok.two;obtain⟨hk,_⟩:=asl (λl hl c hc=>(h.wok.ok l hl).2 c hc) dr rfl (by omega) hw;refine⟨hk.ap,abb (λl hl c hc=>(h.wok.ok l hl).2 c hc) dr rfl (by omega) (λa ha z hz=>?_) hw,λa ha=>⟨(hk.g a ha).1,bS (hk.g a ha).2 ?_⟩⟩
 .grind [rO,aV,Qq]
 exact bS (jU (by simp) (show 0+ways.length<=2 by omega)) (by decide)
def KT(K:eQ)(y:rB)(es:List eT):eQ:=⟨K.str,vg K.ways y.ways,K.aU,[],K.days,K.stay,es⟩
theorem Wh{K:eQ}{is:List Int}{y:rB}{es:List eT}(h:Gh K is)(hy:y∈dt K.str K.ways)(hn:es.length<=5):FN (KT K y es) is y.g where
 Nr:=h.Nr
 pick:=h.pick
 p3:=h.room.1
 rules:=rfl
 nd:=Ab h.past.sV.1 _
 ap:=(GB h.past hy).1
 h:=h.past.sV.2
 day:=by have:=h.days;show (K.days=1/\K.stay=1)\/(K.days=2/\(K.stay=1\/K.stay=2));omega
 n5:=hn
 one:=by
  obtain⟨_,y',h1,_,h3⟩:=Gr hy;refine⟨y'.ways,by show (dt K.str (vg K.ways y.ways)).map (·.ways)=_;rw[h1];rfl,?_⟩;show (match (dt K.str (vg K.ways y.ways)).find? _ with|some z=>z.g|none=>rO)=y.g
  grind
def awP:∀H:Nat,H <4->∀DS:Fin 3,(BO ⟨zI 0,zI 0,zI 0,zI 0,zI 0,zI 0,zI 0,(DS.val / 1+1-DS.val / 2:Nat),(DS.val / 2+1:Nat),none,H,0⟩).length<=16:=by decide+kernel
theorem Ut{ls:List cy}{mk:Nat->Nat->cy->Int}(hl:ls.length<=16):∀ {k:Nat} {t:cv} {p:Nat} {m:Int},(nQ D ls mk need k t p m).length<=16^k
 |0,t,p,m=>by grind [nQ,oK]
 |k+1,t,p,m=>by
  rw[x5];have:=QV (H:=ls) (g:=Co D ls mk need k t p m) (k:=16^k) λx _=>by
   simp only[Co];cases ql D t p x with
   |true=>exact Ut hl
   |false=>exact bK _
  have h2:ls.length*16^k<=16*16^k:=jV _ hl
  grind
theorem FN.len{K:eQ}{is:List Int}{g:ar->List ar}(h:FN K is g)(need:Int):(mg K need).length<=4096:=by
 rw[h.tru];have h16:(GJ K).length<=16:=by
  have hh:=h.h;have key:=awP K.hs.length (by omega);unfold GJ eQ.inn;rcases h.day with ⟨h1,h2⟩| ⟨h1,h2|h2⟩<;>rw[h1,h2]
  .exact key 0
  .exact key 1
  exact key 2
 exact bS (Ut h16) (bS (jU (by decide) h.p3) (by decide))
theorem UI{f:eT->Int}:∀ {l:List eT},(∀x∈l,f x=0)->Ea f l=0
 | [],_=>rfl
 |x::l,h=>by rw[Ea,h x (.head _),UI λy hy=>h y (.tail _ hy)];rfl
theorem Rn{a c:Int}(h:b<=a/\a<=c):pF a b c=true:=by grind [pF]
def avj{S:List (List ax)}{g:ar->List ar}{is:List Int}{e:eT}(hz:∀a∈aI S,∀z∈g a,Ey S z)(h:Told (aI S) g is D e p x d):jk S.length (aI S) D e=0:=by
 have h2:gE D e=0:=by
  obtain⟨h1,h2,h3⟩:=h.dy;rw[gE,Rn (by omega),Rn (by omega),cG (by omega)];rfl
 obtain⟨a,ha,⟨h3,h4⟩| ⟨h3,h4⟩⟩:=h.pl
 .have:bM (qK e.st e.no e.lt) (aI S) 0>=0:=IF (zL ha) (by subst h4;simp[qK]);rw[jk,h3,fJ,cb this,h2];rfl
 obtain⟨h5,h6⟩:=hz a (zL ha) _ h4;simp only[p7] at h5 h6;rw[jk,h3,cH,Rn (by omega),Rn (by omega),Rn (by omega),h2];rfl
theorem aRh{K:eQ}{is:List Int}{y:rB}{es:List eT}(h:Gh K is)(hy:y∈dt K.str K.ways)(hn:es.length<=5)(hT:∀e∈es,∃p x d,Told (aI K.str) y.g is K.days e p x d):wF (KT K y es):=by
 have hk:=Wh h hy hn;obtain⟨_,hz,_⟩:=GB h.past hy;obtain⟨hR,y',h1,_⟩:=Gr hy;have h3:=h.past.sV.2;have hd:=h.days;refine⟨⟨h.past.sV.1,JH h.past.wok hR,h3.2,by show 1<=(dt K.str (vg K.ways y.ways)).length;rw[h1];simp,⟨bK _,nofun⟩,⟨?_,?_⟩,⟨by show es.length<=1000;omega,λx hx=>?_⟩⟩,?_,bS (hk.len _) (by decide)⟩
 .show K.aU.length<=1000;rw[h.Nr,dj];have:=h.room.1;omega
 .show ∀w∈K.aU,rj w;rw[h.Nr];exact h.pick.name
 .obtain⟨p,_,_,ht⟩:=hT x hx;obtain⟨i,hi,MG⟩:=ht.nm;rw[MG];exact aA5 _ (zL (ZQ (h.pick.ok i (zL hi))))
 have hp:Dw K.aU=0:=by rw[h.Nr];exact h.pick.err h.room.1
 have hm:(K.aU.length:Int)*((aI K.str).length:Int)<=6:=by
  have:=h.room.2;rw[h.Nr,dj];exact_mod_cast this
 have he:Ea (KT K y es).jk es=0:=UI λx hx=>by obtain⟨p,x',d,ht⟩:=hT x hx;exact avj hz ht
 show (bif !decide (Dw K.aU=0) then Dw K.aU else bif decide (((aI K.str).length:Int)=0) then 7 else bif decide ((K.aU.length:Int)*((aI K.str).length:Int)>6) then 6 else
  bif !pF K.days 1 4|| !pF K.stay 1 K.days then 1 else bif decide ((es.length:Int)>5) then 6 else Ea (KT K y es).jk es)=0
 grind [cb,cG,aI,Rn]
theorem aPU:∀n:Nat,n <6->oK .u8 (allM n) 0=allM n:=by decide
theorem apI{K:eQ}{is:List Int}{y:rB}{es:List eT}(h:Gh K is)(hy:y∈dt K.str K.ways)(hn:es.length<=5)(hT:∀e∈es,∃p d:Nat,p <is.length/\p <(aI K.str).length/\Told (aI K.str) y.g is K.days e p p d):KU (OS (KT K y es)) es.length=[]:=by
 refine ayS ?_ hn;have:=YE (Wh h hy hn) hT;unfold OS;rw[show (KT K y es).bO.length=es.length from rfl,aPU _ (by omega)]
 grind [mg,KT,allM,absurd]
theorem axy{K:eQ}{is:List Int}{y:rB}{es:List eT}(h:Gh K is)(hy:y∈dt K.str K.ways)(hn:es.length<=5)(hT:∀e∈es,∃p d:Nat,p <is.length/\p <(aI K.str).length/\Told (aI K.str) y.g is K.days e p p d){k:Nat}{e:eT}(he:es[k]?=some e) (ht:Told (aI K.str) y.g is K.days e p p d):
 OH (tw (λt:cv=>decide ((t.at p).at d=(p:Int))) (mg (KT K y es) (allM es.length))) ((mg (KT K y es) (allM es.length)).length:Int)=1/\OG ((mg (KT K y es) (allM es.length)).length:Int)=0:=by
 have hk:=Wh h hy hn;have eo:=YE hk hT;have hc:tw (λt:cv=>decide ((t.at p).at d=(p:Int))) (mg (KT K y es) (allM es.length))=((mg (KT K y es) (allM es.length)).length:Int):=by
  have dO:∀t∈mg _ (allM es.length),decide _=true:=λt htm=>cb (Vo hk (k:=k) htm he ht).2;rw[tw,List.countP_eq_length.2 dO]
 have hl:¬((mg (KT K y es) (allM es.length)).length:Int)=0:=λe0=>eo (iO (by exact_mod_cast e0))
 grind [OH,OG,cG]
theorem apH{K:eQ}{is:List Int}{y:rB}{es:List eT}(h:Gh K is)(hy:y∈dt K.str K.ways)(hn:es.length<=5){k:Nat}{e e':eT}(he:es[k]?=some e) (hT:Told (aI K.str) y.g is K.days e p x d) (Oh:es[k']?=some e') (hT':Told (aI K.str) y.g is K.days e' q x d) (hpq:p <q):KU (OS (KT K y es)) es.length≠[]:=by
 refine asO ?_ (by grind) hn;have:mg (KT K y es) (allM es.length)=[]:=avi (Wh h hy hn) he hT Oh hT' hpq;unfold OS;rw[show (KT K y es).bO.length=es.length from rfl,aPU _ (by omega),this];rfl
structure NW(K:eQ)(y:rB)(is:List Int)(es:List eT):Prop where
 n5:es.length<=5
 all:∀e∈es,∃p d:Nat,p <is.length/\p <(aI K.str).length/\Told (aI K.str) y.g is K.days e p p d
 hd:∀e,es[0]?=some e->∃d,Told (aI K.str) y.g is K.days e 0 0 d
def NW.nil{K:eQ}{y:rB}{is:List Int}:NW K y is []:=⟨bK _,nofun,λe h=>by simp at h⟩
theorem NW.add{K:eQ}{y:rB}{is:List Int}{es:List eT}{e:eT}(h:NW K y is es)(h5:es.length <5)(hp:p <is.length)(hh:p <(aI K.str).length)(hT:Told (aI K.str) y.g is K.days e p p d)(h0:p=0\/1<=es.length):NW K y is (es++[e]) where
 n5:=by rw[aM];exact h5
 all x hx:=by
  rcases bI.1 hx with hx|hx
  .exact h.all x hx
  rw[aV] at hx;subst hx;exact⟨p,d,hp,hh,hT⟩
 hd x hx:=by
  cases es with
  |nil=>
   simp only[aL,jN,aD] at hx;subst hx;obtain rfl:p=0:=by simpa using h0
   exact⟨d,hT⟩
  |cons a l=>exact h.hd x (by simpa using hx)
def bjK(hs:List ar)(g:ar->List ar)(x:Nat)(a b c:Int)(l:Bool):Prop:=∃h,hs[x]?=some h/\((l=false/\h=⟨a,b,c⟩)\/(l=true/\(⟨a,b,c⟩:ar)∈g h))
def adB{K:eQ}{is:List Int}(h:K.aU=is.map lF){x:ByteArray}(hx:K.aU[p]?=some x):∃i,is[p]?=some i/\x=lF i:=by
 rw[h,eG,dQ] at hx;obtain⟨i,h1,h2⟩:=hx;exact⟨i,h1,h2.symm⟩
def Ti{K:eQ}{is:List Int}(hB:Gh K is){hs:List ar}{g:ar->List ar}{a:Nat}{x:ByteArray}{e:eT}(hx:K.aU[q]?=some x) (hT:Told hs g is D e p a d):jo x e.name=true↔q=p:=by
 obtain⟨i,h1,h2⟩:=hT.nm;obtain⟨j,h3,h4⟩:=adB hB.Nr hx;rw[AE,h2,h4];constructor
 .intro h;have:=aoQ (hB.pick.ok j (zL h3)) (hB.pick.ok i (zL h1)) (by rw[h]);subst this;exact Eo hB.pick.nd h3 h1
 rintro rfl;rw[h1] at h3;cases h3;rfl
theorem NW.v{K:eQ}{y:rB}{is:List Int}{es:List eT}(hB:Gh K is)(hy:y∈dt K.str K.ways)(h:NW K y is es):wF (KT K y es):=aRh hB hy h.n5 λe he=>by
 obtain⟨p,d,_,_,ht⟩:=h.all e he;exact⟨p,p,d,ht⟩
def NW.two{K:eQ}{y:rB}{is:List Int}{es:List eT}(hB:Gh K is)(hy:y∈dt K.str K.ways)(h:NW K y is es)(h5:es.length <5){e:eT}{x:ByteArray}(he:es[0]?=some e) (hx:K.aU[1]?=some x):wF (KT K y (es++[⟨x,e.st,e.no,e.lt,e.late,e.low,e.high⟩]))/\KU (OS (KT K y (es++[⟨x,e.st,e.no,e.lt,e.late,e.low,e.high⟩]))) (es++[(⟨x,e.st,e.no,e.lt,e.late,e.low,e.high⟩:eT)]).length≠[]:=by
 obtain⟨d,hT⟩:=h.hd e he;have hT':Told (aI K.str) y.g is K.days ⟨x,e.st,e.no,e.lt,e.late,e.low,e.high⟩ 1 0 d:=⟨adB hB.Nr hx,hT.dy,hT.pl⟩;have hn:(es++[(⟨x,e.st,e.no,e.lt,e.late,e.low,e.high⟩:eT)]).length<=5:=by rw[aM];exact h5
 refine⟨aRh hB hy hn λa ha=>?_,apH hB hy hn (k:=0) (k':=es.length) (by rw[iP (aB.1 he).1];exact he) hT (by simp) hT' aW⟩;rcases bI.1 ha with ha|ha
 .obtain⟨p,d,_,_,ht⟩:=h.all a ha;exact⟨p,p,d,ht⟩
 rw[aV] at ha;subst ha;exact⟨1,0,d,hT'⟩
set_option maxHeartbeats 4000000 in
def ba4 (hN:Dn ro vd xs):aCS zT 9 [vd] ro (λr Y=>r= .bool true/\Y=[]):=by
 have hN0:=hN;obtain⟨hl,ME⟩:=hN;obtain⟨fQ,rK,rJ,fg,rfl,tJ,nj,nY⟩:=hl;refine aRj bE (by kernel_rfl) [] c9 λfr=>zD 7<|jc (vs:=[.slice fQ xs.length fg]) [] (biY hN0.1) ?_;rintro _ X26 ⟨d26,rfl,bil⟩;refine zD 5<|jc [0] (atn hN0 bil) ?_;rintro _ _ ⟨a0,n0,c0,a1,n1,c1,fa,fc,pa,pn,pc,ra,rn,rc,D,St,K,is,Z,X28,rfl,hZ,hB,rfl,ays⟩;refine jg 0 [.l Z,.l X28]<|jn λb4=>jd 1 [0]<|jf [1] Z (λAH fq gV=>?_);have hK:=hZ _ gV;obtain⟨vS,vT,vP,vR,vE,fa',fc',hke,hKS,hKT,hKp,hKr,hKe⟩:=hK;simp only[lO,Value.slice.injEq,Value.int.injEq,and_true,true_and] at hke;obtain⟨rfl,rfl,⟨rfl,rfl⟩,rfl,rfl,hDe,hSe,rfl⟩:=hke;subst hDe;subst hSe;obtain⟨wsK,hwK,bh3⟩:=id hKS;obtain⟨_,_,_,_,hn0,_,_,_⟩:=id hwK;simp only[Value.slice.injEq] at hn0;have hn0:=hn0.2.1;have hKl:=bh3.len;have aSf:K.aU.length=is.length:=by rw[hB.Nr,dj]
 have Qh:=hB.room;have hdy:=hB.days;refine jd 5 [0]<|jc (vs:=[.agg ⟨[.slice a0 n0 c0,.slice a1 n1 c1,.slice fa 0 fc]⟩]) [] (ah1 hKS hB.past.sV.1 hKT hB.past.wok hB.past.sV.2.2) ?_;rintro _ Y32 ⟨a32,n32,c32,rfl,bfH,bhB⟩;have htl:=rE hB.past.wok;rw[dj] at bfH;refine zD 5<|jf [0] Y32 (λro6 sE hk5=>?_);obtain⟨Ma,hyw,Up⟩:=bhB _ hk5;obtain⟨qya,qyb,qyo,qyc,hye,qyk,qyh,qyl⟩:=hyw;simp only[Value.slice.injEq] at hye;obtain⟨rfl,rfl,rfl⟩:=hye;have hl9:=Up.len;rw[dj] at hl9;refine zD 12<|zJ 41 ((Ma.length:Int)>4) (λh7=>?_) λh7=>?_
 ·
  exfalso;omega
 refine jd 7 [0]<|jc (vs:=[.agg ⟨[.slice a0 n0 c0]⟩]) [] (ajY (hKS.up sE) hB.past.sV.1) ?_;rintro v45 L45 axZ;refine zD 1<|jf [0] L45 (λaEV Nz Qs=>?_);have hh:=axZ.jI Qs;obtain⟨pW,Zf,Zd,oX,rfl,Ze,Su,Ss⟩:=hh;refine zD 7<|iE [1,1,1,1,1,1,0,1,0,0] [] (λ(zz:Nat×Cells)=>[(3,zP d26),(4,zP b4),(5,.slice a32 Ma.length c32),(7,.slice pW ((aI K.str).length) oX),(8,zI (zz.1:Int))]) (λzz=>[zxc b4 33 [.slice a0 n0 c0,.slice a1 n1 c1,.slice fa 0 fc,.slice pa pn pc,.slice ra rn rc,zI K.days,zI K.stay,zS],.l zz.2,.l fr]) (λzz=>zz.1<=Ma.length/\fo (.slice fQ xs.length fg) xs d26 zz.2) (λzz=>Ma.length-zz.1) (⟨0,X28⟩) ⟨Nat.zero_le _,ays⟩ [0,1,2] ?_;rintro⟨i,X⟩ hI K1 cX rest;dsimp only at hI;refine zD 8<|zJ 49 ((i:Int) <(Ma.length:Int)) (λwD=>?_) λwD=>?_
 ·
  refine jd 11 [0]<|zxs Ma i c32 1 qyh (λx56 apT=>?_);obtain⟨l57,aST,h57⟩:=Up.get apT;obtain⟨NX,aj6,aRN⟩:∃y,y∈dt K.str K.ways/\y.ways=l57:=bB.1 (zL aST);obtain⟨hRW,y2,hy2,F5,Kv⟩:=Gr aj6;obtain⟨hAp,hPc,hNd⟩:=GB hB.past aj6;obtain⟨hRl,_⟩:Lu K.ways l57/\True:=⟨by rw[<-aRN];exact hRW,bW⟩;obtain⟨aPc,bcm,bci,aPb,rfl,bck,bcl,bcj⟩:=h57;refine jl 0 ((qyl _ _ apT).ext (nG Nz))<|zxp [.agg ⟨[.slice a0 n0 c0,.slice a1 n1 c1,.slice fa 0 fc]⟩,.slice aPc l57.length aPb] (λhs=>aEy (hKS.up ((sE.trans Nz).trans hs)) hB.past.sV.1 (hKT.up ((sE.trans Nz).trans hs)) hB.past.wok (((show dq _ _ _ _ _ from ⟨aPc,bcm,bci,aPb,rfl,bck,bcl,bcj⟩).up Nz).up hs) hRl)<|jd 7 [0]<|jc (vs:=[.agg ⟨[.slice a0 n0 c0,.slice a1 n1 c1,.slice fa 0 fc,.slice pa pn pc,.slice ra rn rc,zI K.days,zI K.stay,zS]⟩]) [] (ahp (K:=K) (hKS.up (sE.trans Nz)) hB.past.sV.1 (hKT.up (sE.trans Nz)) hB.past.wok (hKp.up (sE.trans Nz)) (by omega) (hKr.up (sE.trans Nz)) (by have:=hB.rl;omega) (hKe.up (sE.trans Nz)) (by rw[hB.bO];exact bK _)) ?_;rintro _ _ ⟨xa0,xn0,xc0,ya0,yn0,yc0,za0,zc0,p9a,p9n,p9c,r9a,r9n,r9c,e9a,e9n,e9c,LE0,LZ,rfl,hoE,hKN,rfl⟩;rw[hB.bO] at hoE;refine jg 0 [.l LE0,.l LZ]<|jn λb9=>jd 1 [0]<|jf [2] LZ (λbby NA aHL=>?_);obtain⟨_,_,hp9,_⟩:=hKN _ aHL;have hP9:=hp9;obtain⟨q9a,q9b,q9o,q9c,h9e,q9k,q9h,q9l⟩:=hp9;simp only[Value.slice.injEq] at h9e;obtain⟨rfl,rfl,rfl⟩:=h9e;refine zD 2<|jct [1,1,1,1,1,1,0,1,0,0,1,0,0,1,1,1] [K1] (λ(zz:(Option Addr)×Nat×Nat×(Option Addr)×Nat×Nat×(Option Addr)×Nat×Cells)=>[(3,zP d26),(4,zP b4),(5,.slice a32 Ma.length c32),(7,.slice pW ((aI K.str).length) oX),(8,zI (i:Int)),(9,zP b9)]) (λzz=>[zxc b9 33 [.slice zz.1 zz.2.1 zz.2.2.1,.slice zz.2.2.2.1 zz.2.2.2.2.1 zz.2.2.2.2.2.1,.slice zz.2.2.2.2.2.2.1 0 zz.2.2.2.2.2.2.2.1,.slice p9a K.aU.length p9c,zS,zI K.days,zI K.stay,(.slice e9a e9n e9c)],.l LE0,.l zz.2.2.2.2.2.2.2.2,.l X,zxc b4 33 [.slice a0 n0 c0,.slice a1 n1 c1,.slice fa 0 fc,.slice pa pn pc,.slice ra rn rc,zI K.days,zI K.stay,zS],.l fr]) (λzz=>alu (.slice zz.1 zz.2.1 zz.2.2.1) (.slice zz.2.2.2.1 zz.2.2.2.2.1 zz.2.2.2.2.2.1) K.str (vg K.ways NX.ways) zz.2.2.2.2.2.2.2.2) ?_ (λK2 mb=>?_)
  ·
   rintro⟨xa,xn,xc,ya,yn,yc,za,zc,LS⟩ hQ rest;dsimp only at hQ;refine zD 4<|jf [2] LS (λbp7 Qg bga=>?_);obtain⟨hSt,hTt⟩:=hQ _ bga;refine zD 2<|iE [1,1,1,1,1,1,0,1,0,0,1,0,0,1,1,1,0,1,0,0] [K1] (λ(zz:Nat×Value×Cells×(List eT)×Cells)=>[(3,zP d26),(4,zP b4),(5,.slice a32 Ma.length c32),(7,.slice pW ((aI K.str).length) oX),(8,zI (i:Int)),(9,zP b9),(10,zI (zz.1:Int))]) (λzz=>[zxc b9 33 [.slice xa xn xc,.slice ya yn yc,.slice za 0 zc,.slice p9a K.aU.length p9c,zS,zI K.days,zI K.stay,zz.2.1],.l zz.2.2.1,.l zz.2.2.2.2,zxc b4 33 [.slice a0 n0 c0,.slice a1 n1 c1,.slice fa 0 fc,.slice pa pn pc,.slice ra rn rc,zI K.days,zI K.stay,zS],.l fr]) (λzz=>(zz.1<=K.aU.length/\(zz.1=0\/1<=zz.2.2.2.1.length))/\bJ zz.2.1 7 43 tv zz.2.2.2.1 zz.2.2.1/\NW K NX is zz.2.2.2.1/\fo (.slice fQ xs.length fg) xs d26 zz.2.2.2.2) (λzz=>K.aU.length-zz.1) (⟨0,(.slice e9a e9n e9c),LE0,[],X⟩) ⟨⟨Nat.zero_le _,.inl rfl⟩,hoE,NW.nil,hI.2⟩ (zN 0 5) ?_;rintro⟨pp,vE,LE,es,X⟩ hJ K3 FI rest;dsimp only at hJ;refine jd 9 [0]<|jj 5 [(3,zP d26),(4,zP b4),(5,.slice a32 Ma.length c32),(7,.slice pW ((aI K.str).length) oX),(8,zI (i:Int)),(9,zP b9),(10,zI (pp:Int)),(81,.bool ((decide ((pp:Int) <(K.aU.length:Int)))&&(decide ((pp:Int) <((aI K.str).length:Int)))))] (λni=>?_) (λhj=>?_);rotate_left;refine js 76 (decide ((pp:Int) <(K.aU.length:Int))) (λh18=>?_) (λh18=>?_)
   ·
    have ash:=h18;replace ash:=ai ash;refine zD 5<|zxw 81 hj (zya h18)
   ·
    have ash:=h18;replace ash:=ah ash;refine zD 5<|zxw 81 hj (zyb h18)
   refine zD 1<|js 81 ((decide ((pp:Int) <(K.aU.length:Int)))&&(decide ((pp:Int) <((aI K.str).length:Int)))) (λh19=>?_) (λh19=>?_)
   ·
    try simp only[zB] at h19
    refine jd 10 [0]<|zxs (aI K.str) pp oX 3 Su λx89 ael=>jl 0 ((Ss _ _ ael).ext (nG (NA.trans Qg)))<|zxo 6 λuD=>jc (vs:=[.agg ⟨[.slice xa xn xc,.slice ya yn yc,.slice za 0 zc]⟩,.agg ⟨[zI x89.h,zI x89.n,zI x89.l]⟩]) [] (asr (y:=x89) hSt hB.past.sV.1 hTt (JH hB.past.wok hRW) hB.past.sV.2.2 (zL ael) hy2 (by have:=hNd x89 (zL ael);rw[Kv];exact⟨this.1,by omega⟩)) ?_;rintro _ Y91 ⟨a91,n91,c91,rfl,aTE⟩;rw[Kv] at aTE;refine eP uD (zN 1 5)<|zD 8<|jf [0] Y91 (λbp6 ap9 bf9=>?_);have hw:=aTE _ bf9;obtain⟨tI,Mq,Mp,qN,hwe,qwk,C4,C3⟩:=hw;simp only[Value.slice.injEq] at hwe;obtain⟨rfl,rfl,rfl⟩:=hwe;have bfE:=hNd x89 (zL ael);have hnl:=u9 bfE.1 Ih;refine zD 9<|zJ 100 (((dh pP (NX.g x89)).length:Int)>8) (λh24=>?_) λh24=>?_
    ·
     exfalso;omega
    refine jd 7 [0]<|zxs K.aU pp p9c 1 q9h λYp ap0=>jl 0 ((q9l _ _ ap0).ext (nG (Qg.trans ap9)))<|zD 2<|zxs (aI K.str) pp oX 3 Su λacK apZ=>jl 0 ((Ss _ _ apZ).ext (nG ((NA.trans Qg).trans ap9)))<|jd 2 [0]<|zW (K.days-1)<|zD 1<|zxo 13 λCU=>jn λBe=>eP CU (zN 1 5)<|zxo 14 λKB=>jd 1 [0]<|kV KB<|zD 3<|jct [1,1,1,1,1,1,0,1,0,0,1,0,0,1,1,1,0,1,0,0,1,0,0,1,1,1,0,1] [K1,K3] (λ(zz:Bool×Cells)=>[(3,zP d26),(4,zP b4),(5,.slice a32 Ma.length c32),(7,.slice pW ((aI K.str).length) oX),(8,zI (i:Int)),(9,zP b9),(10,zI (pp:Int)),(11,.slice a91 ((dh pP (NX.g x89)).length) c91),(13,zP Be),(120,.bool zz.1)]) (λzz=>[zxc Be 43 [.string Yp,zI acK.h,zI acK.n,zI acK.l,.bool false,zI 0,zI (K.days-1)],zxc b9 33 [.slice xa xn xc,.slice ya yn yc,.slice za 0 zc,.slice p9a K.aU.length p9c,zS,zI K.days,zI K.stay,vE],.l LE,.l zz.2,zxc b4 33 [.slice a0 n0 c0,.slice a1 n1 c1,.slice fa 0 fc,.slice pa pn pc,.slice ra rn rc,zI K.days,zI K.stay,zS],.l fr]) (λzz=>(zz.1=true->0 <(dh pP (NX.g x89)).length)/\fo (.slice fQ xs.length fg) xs d26 zz.2) ?_ (λK7 hK7=>?_)
    ·
     rintro⟨on,X⟩ hR1 rest;dsimp only at hR1;refine jct [1,1,1,1,1,1,0,1,0,0,1,0,0,1,1,1,0,1,0,0,1,0,0,1,1,1,1] [K1,K3] (λ(zz:Int×Int×Int×Bool×Cells)=>[(3,zP d26),(4,zP b4),(5,.slice a32 Ma.length c32),(7,.slice pW ((aI K.str).length) oX),(8,zI (i:Int)),(9,zP b9),(10,zI (pp:Int)),(13,zP Be)]) (λzz=>[zxc Be 43 [.string Yp,zI zz.1,zI zz.2.1,zI zz.2.2.1,.bool zz.2.2.2.1,zI 0,zI (K.days-1)],zxc b9 33 [.slice xa xn xc,.slice ya yn yc,.slice za 0 zc,.slice p9a K.aU.length p9c,zS,zI K.days,zI K.stay,vE],.l LE,.l zz.2.2.2.2,zxc b4 33 [.slice a0 n0 c0,.slice a1 n1 c1,.slice fa 0 fc,.slice pa pn pc,.slice ra rn rc,zI K.days,zI K.stay,zS],.l fr]) (λzz=>bjK (aI K.str) NX.g pp zz.1 zz.2.1 zz.2.2.1 zz.2.2.2.1/\fo (.slice fQ xs.length fg) xs d26 zz.2.2.2.2) ?_ (λK8 hK8=>?_)
     ·
      rintro⟨st0,no0,lt0,lat,X⟩ hR rest;dsimp only at hR;refine zD 5<|iE [1,1,1,1,1,1,0,1,0,0,1,0,0,1,1,1,0,1,0,0,1,0,0,1,1,1,1,1,0,0] [K1,K3] (λ(zz:Nat×Int×Int×Value×Cells×(List eT))=>[(3,zP d26),(4,zP b4),(5,.slice a32 Ma.length c32),(7,.slice pW ((aI K.str).length) oX),(8,zI (i:Int)),(9,zP b9),(10,zI (pp:Int)),(13,zP Be),(14,zI (zz.1:Int))]) (λzz=>[zxc Be 43 [.string Yp,zI st0,zI no0,zI lt0,.bool lat,zI zz.2.1,zI zz.2.2.1],zxc b9 33 [.slice xa xn xc,.slice ya yn yc,.slice za 0 zc,.slice p9a K.aU.length p9c,zS,zI K.days,zI K.stay,zz.2.2.2.1],.l zz.2.2.2.2.1,.l X,zxc b4 33 [.slice a0 n0 c0,.slice a1 n1 c1,.slice fa 0 fc,.slice pa pn pc,.slice ra rn rc,zI K.days,zI K.stay,zS],.l fr]) (λzz=>((zz.1:Int)<=K.days/\(pp=0\/1<=zz.2.2.2.2.2.length)/\(1<=zz.1->1<=zz.2.2.2.2.2.length))/\bJ zz.2.2.2.1 7 43 tv zz.2.2.2.2.2 zz.2.2.2.2.1/\NW K NX is zz.2.2.2.2.2) (λzz=>K.days.toNat-zz.1) (⟨0,0,(K.days-1),vE,LE,es⟩) ⟨⟨by dsimp only;omega,hJ.1.2,by dsimp only;omega⟩,hJ.2.1,hJ.2.2.1⟩ (zN 0 6) ?_;rintro⟨dy,lo,hi,vE,LE,es⟩ hM K9 hK9 rest;dsimp only at hM;refine jd 8 [1]<|zJ 156 ((dy:Int) <K.days) (λh27=>?_) λh27=>?_
      ·
       refine jd 17 [0,0,1]<|jol hM.2.1<|zD 2<|zJ 166 ((es.length:Int) <5) (λh28=>?_) λh28=>?_
       ·
        refine jd 5 [1,0]<|jn λaVN=>zxl tv aVN (⟨Yp,st0,no0,lt0,lat,(dy:Int),(dy:Int)⟩:eT) 3 0 (hM.2.1) λaNk aNh bjZ ahH=>jd 5 [3]<|zW ((dy:Int)+1)<|zD 2<|zY hK9 (⟨dy+1,dy,dy,(.slice aNk ((es++[(⟨Yp,st0,no0,lt0,lat,(dy:Int),(dy:Int)⟩:eT)])).length aNh),bjZ,(es++[(⟨Yp,st0,no0,lt0,lat,(dy:Int),(dy:Int)⟩:eT)])⟩) ⟨⟨by dsimp only;omega,.inr (by dsimp only;rw[List.length_append];exact Nat.le_add_left _ _),λ_=>by dsimp only;rw[List.length_append];exact Nat.le_add_left _ _⟩,ahH,hM.2.2.add (by omega) (by omega) (by omega) ⟨adB hB.Nr ap0,⟨by omega,rfl,rfl⟩,hR.1⟩ hM.1.2.1⟩ [2,3,0,4,5,6]
       refine zD 4<|zW ((dy:Int)+1)<|zD 2<|zY hK9 (⟨dy+1,dy,dy,vE,LE,es⟩) ⟨⟨by dsimp only;omega,hM.1.2.1,λ_=>by dsimp only;omega⟩,hM.2.1,hM.2.2⟩ [0,1,2,3,4,5]
      refine zD 4<|zW ((pp:Int)+1)<|zD 2<|dY FI (⟨pp+1,vE,LE,es,X⟩) ⟨⟨by dsimp only;omega,.inr (hM.1.2.2 (by omega))⟩,hM.2.1,hM.2.2,hR.2⟩ (by dsimp only;omega) (zN 1 5) ap9
     refine js 120 on (λh29=>?_) (λh29=>?_)
     ·
      subst h29;have bsX:=hR1.1 (by first|rfl|assumption);refine zD 7<|zW (((dh pP (NX.g x89)).length:Int)-1)<|jc (vs:=[zP d26,zI (((dh pP (NX.g x89)).length:Int)-1)]) [3] (dTo (hN0.up (((((fq.trans sE).trans Nz).trans NA).trans Qg).trans ap9)) hR1.2 (by omega)) ?_;rintro _ bjD ⟨aNe,rfl,bmX,bmW,aUr⟩;obtain⟨u5,ahC⟩:=zG ((dh pP (NX.g x89))) (aNe.toNat);refine jsi aNe c91 3 C4 ahC (by omega)<|jl 0 (C3 _ _ ahC)<|jd 5 [1,1] ?_;have hpc:=hPc x89 (zL ael) u5 (ko.1 (zL ahC));obtain⟨⟨hc1,hc2⟩,hc3⟩:=hpc;refine jd 7 [1]<|jj 10 [(3,zP d26),(4,zP b4),(5,.slice a32 Ma.length c32),(7,.slice pW ((aI K.str).length) oX),(8,zI (i:Int)),(9,zP b9),(10,zI (pp:Int)),(13,zP Be),(145,.bool ((decide (u5.h <0))||(decide (u5.h>=(n0:Int)))))] (λni=>?_) (λhj=>?_);rotate_left;refine js 135 (decide (u5.h <0)) (λh30=>?_) (λh30=>?_)
      ·
       have asd:=h30;replace asd:=ai asd;refine zD 10<|zxw 145 hj (zyc h30)
      ·
       have asd:=h30;replace asd:=ah asd;refine jd 10 [1,4]<|zxw 145 hj (zyd h30)
      refine zD 1<|jj 6 [(3,zP d26),(4,zP b4),(5,.slice a32 Ma.length c32),(7,.slice pW ((aI K.str).length) oX),(8,zI (i:Int)),(9,zP b9),(10,zI (pp:Int)),(13,zP Be),(152,.bool (((decide (u5.h <0))||(decide (u5.h>=(n0:Int))))||false))] (λni=>?_) (λhj=>?_);rotate_left;refine js 146 ((decide (u5.h <0))||(decide (u5.h>=(n0:Int)))) (λh31=>?_) (λh31=>?_)
      ·
       have aJk:=h31
       try simp only[zB] at aJk
       refine zD 6<|zxw 152 hj (zyc h31)
      ·
       have aJk:=h31
       try simp only[zB] at aJk
       refine jd 3 [1]<|zxp [.agg ⟨[zI u5.n,zI u5.l]⟩] (λhs=>(agB (x:=⟨u5.n,u5.l⟩) hc3))<|zD 2<|zxw 152 hj (zyd h31)
      refine zD 1<|js 152 (((decide (u5.h <0))||(decide (u5.h>=(n0:Int))))||false) (λh32=>?_) (λh32=>?_)
      ·
       try simp only[zB] at h32
       exfalso;simp at h32;omega
      try simp only[zB] at h32
      refine zD 2<|zY hK8 ⟨u5.h,u5.n,u5.l,true,bjD⟩ ⟨⟨x89,ael,.inr ⟨rfl,ko.1 (zL ahC)⟩⟩,aUr⟩ [1,2,3,0,4,5]
     subst h29;refine zD 2<|zY hK8 ⟨acK.h,acK.n,acK.l,false,X⟩ ⟨⟨acK,apZ,.inl ⟨rfl,rfl⟩⟩,hR1.2⟩ [0,1,2,3,4,5]
    refine zD 5<|js 117 (decide (((dh pP (NX.g x89)).length:Int)>0)) (λh33=>?_) (λh33=>?_)
    ·
     have asb:=h33;replace asb:=ai asb;refine zD 1<|jc (vs:=[zP d26,zI 2]) [3] (abG (hN0.up (((((fq.trans sE).trans Nz).trans NA).trans Qg).trans ap9)) hJ.2.2.2 (by omega)) ?_;rintro _ bjE ⟨aZM,rfl,aUs⟩;refine zD 2<|zY hK7 ⟨aZM,bjE⟩ ⟨λ_=>by omega,aUs⟩ [1,2,3,0,4,5]
    have asb:=h33;replace asb:=ah asb;refine zD 4<|zY hK7 ⟨false,X⟩ ⟨nofun,hJ.2.2.2⟩ [0,1,2,3,4,5]
   try simp only[zB] at h19
   refine zD 4<|jf [1] LE (λaOy SM bf7=>?_);have R5:=hJ.2.1.jI bf7;have hE5:=hJ.2.2.1;have hn5:=hE5.n5;obtain⟨Zg,bbU,bbS,Px,rfl,bbT,avW,avV⟩:=R5;have hE6:dq aOy (.slice Zg es.length Px) 7 tv es:=⟨Zg,bbU,bbS,Px,rfl,bbT,avW,avV⟩;have hKA:yl aOy [.slice xa xn xc,.slice ya yn yc,.slice za 0 zc,.slice p9a K.aU.length p9c,zS,zI K.days,zI K.stay,.slice Zg es.length Px] (KT K NX es):=⟨_,_,_,_,_,za,zc,rfl,(hSt.up SM),(hTt.up SM),(hP9.up (Qg.trans SM)),dq.nil _ _ _ _ _,hE6⟩;have hV1:=hE5.v hB aj6;have hW1:KU (OS (KT K NX es)) (KT K NX es).bO.length=[]:=apI hB aj6 hE5.n5 hE5.all;refine jd 2 [0]<|jcC (vs:=[.agg ⟨[.slice xa xn xc,.slice ya yn yc,.slice za 0 zc,.slice p9a K.aU.length p9c,zS,zI K.days,zI K.stay,.slice Zg es.length Px]⟩]) [] (λ_ _ h=>h) (ahh hKA hV1) ?_;rintro _ bvI ⟨bpN,rfl,aBR⟩;rw[hW1] at aBR;obtain⟨bkE,bkC,aTn⟩:=aBR.form;subst aTn;refine zD 16<|zJ 184 ((([]:List Int).length:Int)>0) (λh37=>?_) λh37=>?_
   ·
    exfalso;simp at h37
   refine zD 8<|iE [1,1,1,1,1,1,0,1,0,0,1,0,0,1,1,1,1,1,0,1,0,0] [K1] (λ(zz:Nat)=>[(3,zP d26),(4,zP b4),(5,.slice a32 Ma.length c32),(7,.slice pW ((aI K.str).length) oX),(8,zI (i:Int)),(9,zP b9),(17,zI (zz:Int))]) (λzz=>[zxc b9 33 [.slice xa xn xc,.slice ya yn yc,.slice za 0 zc,.slice p9a K.aU.length p9c,zS,zI K.days,zI K.stay,.slice Zg es.length Px],.l X,zxc b4 33 [.slice a0 n0 c0,.slice a1 n1 c1,.slice fa 0 fc,.slice pa pn pc,.slice ra rn rc,zI K.days,zI K.stay,zS],.l fr]) (λzz=>zz<=es.length) (λzz=>es.length-zz) 0 (bK _) (zN 1 4) ?_;rintro k hk K10 bh7 rest;refine jd 9 [0]<|zJ 189 ((k:Int) <(es.length:Int)) (λh38=>?_) λh38=>?_
   ·
    refine zD 10 ?_;obtain⟨ek,hek⟩:∃e,es[k]?=some e:=⟨_,af (by omega)⟩;obtain⟨p,dd,hp1,X5,hTk⟩:=hE5.all ek (zL hek);refine iE [1,1,1,1,1,1,0,1,0,0,1,0,0,1,1,1,1,1,0,1,0,0,1,0,0,1,0,0,0] [K1,K10] (λ(zz:Nat)=>[(3,zP d26),(4,zP b4),(5,.slice a32 Ma.length c32),(7,.slice pW ((aI K.str).length) oX),(8,zI (i:Int)),(9,zP b9),(17,zI (k:Int)),(18,zI (zz:Int))]) (λzz=>[zxc b9 33 [.slice xa xn xc,.slice ya yn yc,.slice za 0 zc,.slice p9a K.aU.length p9c,zS,zI K.days,zI K.stay,.slice Zg es.length Px],.l X,zxc b4 33 [.slice a0 n0 c0,.slice a1 n1 c1,.slice fa 0 fc,.slice pa pn pc,.slice ra rn rc,zI K.days,zI K.stay,zS],.l fr]) (λzz=>zz<=p) (λzz=>p-zz) 0 (bK _) (zN 0 4) ?_;rintro q hq K11 bh6 rest;refine jd 6 [0]<|zxs K.aU q p9c 1 q9h λaMT ahA=>jl 0 ((q9l _ _ ahA).ext (nG (Qg.trans SM)))<|jd 3 [0]<|zxs es k Px 7 avW λame aaB=>zD 1<|jl 0 (avV _ _ aaB)<|zD 2<|js 203 (!(jo aMT ame.name)) (λh39=>?_) (λh39=>?_)
    ·
     try simp only[zB] at h39
     obtain rfl:ame=ek:=aJ (aaB.symm.trans hek);have hqn:q≠p:=λe=>Bool.noConfusion ((show jo aMT ame.name=false by assumption).symm.trans ((Ti hB ahA hTk).2 e));refine zD 5<|zW ((q:Int)+1)<|zD 2<|zY bh6 (q+1) (by omega) [0,1,2,3]
    try simp only[zB] at h39
    obtain rfl:ame=ek:=aJ (aaB.symm.trans hek);obtain rfl:q=p:=(Ti hB ahA hTk).1 (by assumption);refine jd 10 [0,0]<|zxs es k Px 7 avW λaMS ahy=>zD 1<|jl 5 (avV _ _ ahy)<|zxo 9 (λWQ=>?_);obtain rfl:aMS=ame:=aJ (ahy.symm.trans aaB);have hVq:=aps (h:=(q:Int)) hKA hV1 (show q <K.aU.length by omega) hTk.dy.1 ⟨by omega,show (q:Int) <((aI K.str).length:Int) by omega⟩;rw[<-hTk.dy.2.1] at hVq;have hvd:OH (tw (λt:cv=>decide ((t.at q).at dd=(q:Int))) (mg (KT K NX es) (allM (KT K NX es).bO.length))) ((mg (KT K NX es) (allM (KT K NX es).bO.length)).length:Int)=1/\OG ((mg (KT K NX es) (allM (KT K NX es).bO.length)).length:Int)=0:=axy hB aj6 hE5.n5 hE5.all ahy hTk;refine jcC (vs:=[.agg ⟨[.slice xa xn xc,.slice ya yn yc,.slice za 0 zc,.slice p9a K.aU.length p9c,zS,zI K.days,zI K.stay,.slice Zg es.length Px]⟩,zI (q:Int),zI (q:Int),zI aMS.low]) [] (λ_ _ h=>h) (hVq) ?_;rintro _ _ ⟨aSb,rfl⟩;rw[hvd.1,hvd.2] at aSb;subst aSb;refine jg 0 []<|eP WQ (zN 0 4)<|zD 19<|zW ((k:Int)+1)<|zD 2<|zY bh7 (k+1) (by omega) [0,1,2,3]
   refine jd 9 [0]<|jj 5 [(3,zP d26),(4,zP b4),(5,.slice a32 Ma.length c32),(7,.slice pW ((aI K.str).length) oX),(8,zI (i:Int)),(9,zP b9),(234,.bool ((decide ((K.aU.length:Int)>1))&&(decide ((es.length:Int)>0))))] (λni=>?_) (λhj=>?_);rotate_left;refine js 229 (decide ((K.aU.length:Int)>1)) (λh41=>?_) (λh41=>?_)
   ·
    have asa:=h41;replace asa:=ai asa;refine jd 5 [0]<|zxw 234 hj (zya h41)
   ·
    have asa:=h41;replace asa:=ah asa;refine zD 5<|zxw 234 hj (zyb h41)
   refine zD 1<|jj 5 [(3,zP d26),(4,zP b4),(5,.slice a32 Ma.length c32),(7,.slice pW ((aI K.str).length) oX),(8,zI (i:Int)),(9,zP b9),(240,.bool (((decide ((K.aU.length:Int)>1))&&(decide ((es.length:Int)>0)))&&(decide ((es.length:Int) <5))))] (λni=>?_) (λhj=>?_);rotate_left;refine js 235 ((decide ((K.aU.length:Int)>1))&&(decide ((es.length:Int)>0))) (λh42=>?_) (λh42=>?_)
   ·
    have aJj:=h42
    try simp only[zB] at aJj
    refine jd 5 [0]<|zxw 240 hj (zya h42)
   ·
    have aJj:=h42
    try simp only[zB] at aJj
    refine zD 5<|zxw 240 hj (zyb h42)
   refine zD 1<|js 240 (((decide ((K.aU.length:Int)>1))&&(decide ((es.length:Int)>0)))&&(decide ((es.length:Int) <5))) (λh43=>?_) (λh43=>?_)
   ·
    try simp only[zB] at h43
    refine jd 4 [0]<|jc (vs:=[.agg ⟨[.slice xa xn xc,.slice ya yn yc,.slice za 0 zc,.slice p9a K.aU.length p9c,zS,zI K.days,zI K.stay,.slice Zg es.length Px]⟩]) [] (ahp (K:=KT K NX es) (hSt.up SM) hB.past.sV.1 (hTt.up SM) (JH hB.past.wok hRW) (hP9.up (Qg.trans SM)) (show K.aU.length<=1000 by omega) (dq.nil _ _ _ _ _) (bK _) hE6 (show es.length<=100 by have:=hE5.n5;omega)) ?_;rintro _ _ ⟨f1a,f1n,f1c,f2a,f2n,f2c,f3a,f3c,f4a,f4n,f4c,f5a,f5n,f5c,f6a,f6n,f6c,LE2,LZ2,rfl,aHi,bh4,rfl⟩;have aHi:bJ (.slice f6a f6n f6c) 7 43 tv es LE2:=aHi;refine jg 0 [.l LE2,.l LZ2]<|jn λb21=>jd 6 [0,3]<|zxt es 0 Px 7 avW avV λlA apY=>jn λb22=>jd 6 [0,4]<|zxs K.aU 1 p9c 1 q9h λYo apX=>jl 0 ((q9l _ _ apX).ext (nG (Qg.trans SM)))<|jd 8 [0,1,0]<|jn λaVM=>zxl tv aVM (⟨Yo,lA.st,lA.no,lA.lt,lA.late,lA.low,lA.high⟩:eT) 3 0 (aHi) λaz3 az2 bjV ahG=>jd 4 [3]<|jf [0,4] (bjV++LZ2) (λbbx beU aS2=>?_);obtain⟨hS2,hT2,Yb,hR2⟩:=bh4 _ aS2.right;have hKB:yl bbx [.slice f1a f1n f1c,.slice f2a f2n f2c,.slice f3a 0 f3c,.slice f4a f4n f4c,.slice f5a f5n f5c,zI K.days,zI K.stay,(.slice az3 ((es++[(⟨Yo,lA.st,lA.no,lA.lt,lA.late,lA.low,lA.high⟩:eT)])).length az2)] (KT K NX (es++[(⟨Yo,lA.st,lA.no,lA.lt,lA.late,lA.low,lA.high⟩:eT)])):=⟨_,_,_,_,_,f3a,f3c,rfl,hS2,hT2,Yb,hR2,ahG.jI aS2.left⟩;obtain⟨hV2,hW2⟩:=hE5.two hB aj6 (by omega) apY apX;refine jd 2 [2]<|jcC (vs:=[.agg ⟨[.slice f1a f1n f1c,.slice f2a f2n f2c,.slice f3a 0 f3c,.slice f4a f4n f4c,.slice f5a f5n f5c,zI K.days,zI K.stay,(.slice az3 ((es++[(⟨Yo,lA.st,lA.no,lA.lt,lA.late,lA.low,lA.high⟩:eT)])).length az2)]⟩]) [] (λ_ _ h=>h) (ahh hKB hV2) ?_;rintro _ bvH ⟨bpJ,rfl,aBQ⟩;obtain⟨zs,hzs⟩:∃zs,KU (OS (KT K NX (es++[(⟨Yo,lA.st,lA.no,lA.lt,lA.late,lA.low,lA.high⟩:eT)]))) (KT K NX (es++[(⟨Yo,lA.st,lA.no,lA.lt,lA.late,lA.low,lA.high⟩:eT)])).bO.length=zs:=⟨_,rfl⟩;rw[hzs] at aBQ;have hz0:0 <zs.length:=by rw[<-hzs];exact List.length_pos_iff.2 hW2
    obtain⟨bkD,bkB,aTk⟩:=aBQ.form;subst aTk;refine zD 16<|zJ 269 ((zs.length:Int)=0) (λh47=>?_) λh47=>?_
    ·
     exfalso;omega
    refine zD 4<|zW ((i:Int)+1)<|zD 2<|dY cX (⟨i+1,X⟩) ⟨by dsimp only;omega,hJ.2.2.2⟩ (by dsimp only;omega) [6,5,7] (((NA.trans Qg).trans SM).trans beU)
   try simp only[zB] at h43
   refine zD 4<|zW ((i:Int)+1)<|zD 2<|dY cX (⟨i+1,X⟩) ⟨by dsimp only;omega,hJ.2.2.2⟩ (by dsimp only;omega) [2,1,3] ((NA.trans Qg).trans SM)
  refine jd 5 [2]<|zxs Ma i c32 1 qyh (λx66 aj7=>?_);obtain⟨l67,bfY,h67⟩:=Up.get aj7;obtain rfl:l67=l57:=aJ (bfY.symm.trans aST);obtain⟨aPa,bch,bcc,aO9,rfl,bcf,bcg,bcd⟩:=h67;refine jl 0 ((qyl _ _ aj7).ext (nG (Nz.trans NA)))<|zxo 6 λQF=>jc (vs:=[.agg ⟨[.slice a0 n0 c0,.slice a1 n1 c1,.slice fa 0 fc]⟩,.slice aPa l67.length aO9]) [] (avs (hKS.up ((sE.trans Nz).trans NA)) hB.past.sV.1 (hKT.up ((sE.trans Nz).trans NA)) hB.past.wok (((show dq _ _ _ _ _ from ⟨aPa,bch,bcc,aO9,rfl,bcf,bcg,bcd⟩).up Nz).up NA) hRl) ?_;rintro _ Y68 ⟨xb,xbn,xbc,yb,ybn,ybc,zb,zbc,rfl,aTI⟩;refine eP QF (zN 1 5)<|zD 1<|zxo 8 λKD=>jd 1 [1]<|kV KD<|zD 1<|zxo 10 λWO=>jd 1 [1]<|kV WO<|zD 1<|zY mb ⟨xb,xbn,xbc,yb,ybn,ybc,zb,zbc,Y68⟩ (by rw[aRN];exact aTI) [1,2,0,4,3,5]
 refine zD 4<|jcC [] (λ_ _ h=>h) (aEz) ?_;rintro _ _ ⟨rfl,rfl⟩;refine jg 0 []<|zD 3<|jrC qC.a.a.a (.bool true) [2] [] ((fq.trans sE).trans Nz) ⟨rfl,rfl⟩
def IT:Obj->Obj
 | .pending c t=> .pending c (t+(NI+1))
 |o=>o
def Vx(o:Obj):Lr (IT o) (some o):=by
 cases o with
 |pending c t=>exact .inr (.inr ⟨c,t,rfl,rfl⟩)
 |_=>exact .inl ⟨rfl,rfl⟩
def Xl{o:Obj}{h:Option Obj}(k:Lr (IT o) h):h=some o:=by
 rcases k with ⟨h1,h2⟩| ⟨c,c',t,h1,_,_,_,h2⟩| ⟨c,t,h1,h2⟩
 .cases o with
  |pending c t=>cases h2
  |_=>exact h1
 .cases o with
  |pending c0 t0=>exact absurd (Obj.pending.inj h1).2.symm (adY h2)
  |_=>cases h1
 cases o with
 |pending c0 t0=>
  obtain⟨e1,e2⟩:=Obj.pending.inj h1;rw[h2,e1,Nat.add_right_cancel e2]
 |_=>cases h1
def agd(W:World)(hN:Dn (λb=>(W.heap[b]?).map IT) vd xs) {Post:Value->World->Prop}
 (aa4:∀w:World,(∀(b:Nat) (o:Obj),W.heap[b]?=some o->w.heap[b]?=some o)->Go.ConcM.OsLater W.os w.os->w.output=W.output->Post (.bool true) w):
 ∃N last o w' t',runNT zT (N+1) (solo (G (Frame.enter zT 9 ⟨[vd]⟩ .normal) []) W) #[]=(.ended o w',t')/\Go.runN zT N (solo (G (Frame.enter zT 9 ⟨[vd]⟩ .normal) []) W)= .next last/\step zT last= .ended o w'/\Good zT Post last o w' t':=by
 have ha:cZ ⟨λb=>(W.heap[b]?).map IT,[]⟩ W:=by
  refine⟨λb o h=>?_,(λ_ _ h=>(by cases h)),(λ_ _ h=>(by cases h)),by simp,(λ_ _ h=>(by cases h))⟩;obtain⟨o',h1,rfl⟩:=dQ.1 h;rw[h1];exact Vx o'
 exact aiX ha (ba4 hN _ _ _ λv Y w uz yy hos Im=>by
  obtain⟨rfl,rfl⟩:=uz;exact aa4 w (λb o hb=>Xl (yy.ro b (IT o) (by show (W.heap[b]?).map IT=_;rw[hb];rfl))) hos Im)
end Go.L
