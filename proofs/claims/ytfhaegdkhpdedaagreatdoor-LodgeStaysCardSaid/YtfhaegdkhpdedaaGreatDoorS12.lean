/- Part 12 of the proof. -/
import Derived.Test.YtfhaegdkhpdedaaGreatDoorS11
set_option maxRecDepth 100000
set_option maxHeartbeats 4000000
set_option linter.all false
namespace Go.L
open Go Go.Conc Go.Proofs
variable {ro:Nat→Option Obj} {Fs:Nat→List (Int×Value)} {D Sz need:Int} {F:List (Int×Value)} {xs ps rr:List Int} {d i np p n r sz ck:Nat} {vd b e f vS vT vF vP vR vE:Value} {o:Option JS} {seen:List Nat}
def aEt(P:Program)(n:Nat)(p:Oper)(e:Env):Option (Value×Option Int×Option Int×Nat):=match p.op with
 | .slice T x none y (some z)=>match c9 P T with
  |some ⟨.slice E,_,_,_⟩=>match c9 P E with
   |some te=>match dv n e x with
    |some v=>match FP n e y with
     |some lo=>match FP n e (some z) with
      |some hi=>some (v,lo,hi,te.size)
      |none=>none
     |none=>none
    |none=>none
   |none=>none
  |_=>none
 |_=>none
theorem avy{P:Program}{p:Oper}{e:Env}{v:Value}{lo hi:Option Int}{k:Nat}(h:aEt P n p e=some (v,lo,hi,k)):∃T x y z E sz dP zz ag d Db z2 ag2,p.op= .slice T x none y (some z)/\TF P T (.slice E) sz dP zz ag/\TF P E d k Db z2 ag2/\dv n e x=some v/\FP n e y=some lo/\FP n e (some z)=some hi:=by
 unfold aEt at h;split at h<;>try (cases h;done)
 rename_i aX;split at h<;>try (cases h;done)
 grind [bA]
def bd0{X:Cx}{a:Option Addr}{cap:Nat}{hi mx:Int}(h2:n<=cap)(hl:(0<=hi/\hi<=n)/\hi<=mx/\mx<=n)(hj:∀a' n' c',(∀ {α:Type} {enc:α->List Value} {R:Nat->Option Obj} {ps:List α},dk R (.slice a n cap) sz enc ps->dk R (.slice a' n' c') sz enc (ps.take hi.toNat))->J X (lX (.slice a' n' c') o))(hv:fp X.n (aEt X.P X.n) o=some (.slice a n cap,some hi,some mx,sz):=by kernel_rfl):J X o:=by
 refine SK hv (λs p e _ hf=>?_) (hj (if mx.toNat=0 then a else a.map (·.add (0*sz))) (hi.toNat-0) (mx.toNat-0) λ{α enc R ps} hR=>by
  obtain⟨a',b,off,aVC,h1,h5,h3,h4⟩:=hR;cases h1;have hlen:(ps.take hi.toNat).length=hi.toNat-0:=by rw[cH];omega
  refine⟨_,b,off,_,by rw[hlen],by omega,λk hk=>?_,λi p hp=>h4 i p ?_⟩
  .have:=h3 0 (by omega);subst this;rw[cy (by omega)];simp[ir]
  rw[List.getElem?_take] at hp;split at hp
  .exact hp
  cases hp)
 obtain⟨T,x,y,z,E,s1,dP,zz,ag,d,Db,z2,ag2,aX,tf,tT,hx,hy,hz⟩:=avy hf;obtain⟨y,k,rfl,ML⟩:=lN hy;obtain⟨z',k',hz0,Wn⟩:=lN hz;cases hz0;rcases p with ⟨dst,op,ty,pos,gf,g⟩
 dsimp only at aX;subst aX;intro s0 ops i vJ rest hw s' pg todo Q hk;refine eF X.hC vJ hw (by simp) ?_;have hb:0<=mx/\mx<=(cap:Int):=by omega
 have hb1:0<=hi/\hi<=(mx.toNat:Int):=by omega
 rw[<-dH] at hk;simp only[execOp,dD,lQ,Instr.sliceAt,Instr.slice,cg (cO (rest:=rest) hx),cg (cO (rest:=rest) ML),cg (cO (rest:=rest) Wn),aI,db tf,Instr.sliceBounds,Instr.sliceBound,asIntOf,aQ,hb,hb1,Tb,dF,eE tT];exact hk
def bdZ{X:Cx}{a:Option Addr}{cap:Nat}{lo:Int}(h2:n<=cap)(hl:0<=lo/\lo<=n)(hj:∀a' n' c',(∀ {α:Type} {enc:α->List Value} {R:Nat->Option Obj} {ps:List α},dk R (.slice a n cap) sz enc ps->dk R (.slice a' n' c') sz enc (ps.drop lo.toNat))->J X (lX (.slice a' n' c') o))(hv:fp X.n (adx X.P X.n) o=some (.slice a n cap,some lo,none,sz):=by kernel_rfl):J X o:=by
 refine SK hv (λs p e _ hf=>?_) (hj (if cap=lo.toNat then a else a.map (·.add (lo.toNat*sz))) (n-lo.toNat) (cap-lo.toNat) λ{α enc R ps} hR=>by
  have hn:ps.length=n:=by obtain⟨_,_,_,_,h1,_⟩:=id hR;cases h1;rfl
  have hp:=dk.part hR (l:=lo.toNat) (h:=ps.length) (by omega) (bk _);rwa[List.take_length,hn] at hp)
 obtain⟨T,x,y,z,E,s1,dP,zz,ag,d,Db,z2,ag2,aX,tf,tT,hx,hy,hz⟩:=H3 hf;obtain⟨y,k,rfl,ML⟩:=lN hy;have hz:=A5 hz;subst hz;rcases p with ⟨dst,op,ty,pos,gf,g⟩
 dsimp only at aX;subst aX;intro s0 ops i vJ rest hw s' pg todo Q hk;refine eF X.hC vJ hw (by simp) ?_;have hb:(0:Int)<=(n:Int)/\(n:Int)<=(cap:Int):=by omega
 have kV:0<=lo/\lo<=(n:Int):=hl;rw[<-dH] at hk;simp only[execOp,dD,lQ,Instr.sliceAt,Instr.slice,cg (cO (rest:=rest) hx),cg (cO (rest:=rest) ML),aI,db tf,Instr.sliceBounds,Instr.sliceBound,asIntOf,aQ,hb,kV,Tb,dF,eE tT];exact hk
theorem aoq{x:au}(h:Ay x):p8 x:=by grind [Ay,p8]
theorem ZW{ps:List au}(ha:ps.Pairwise mL)(hm:∀x∈ps,Ay x)(hl:ps.length<=3):cq [ps] where
 two:=by simp
 len l h:=by grind
 jD:=by grind
 ok l h x hx:=by grind [aU,aoq]
 Sk l h:=by grind
theorem amJ{ps:List au}{k:Nat}(ha:ps.Pairwise mL)(hm:∀x∈ps,Ay x)(hl:ps.length<=3):cq [ps.take k,ps.drop k] where
 two:=by simp
 len l h:=(by grind)
 jD:=by simp;omega
 ok l h x hx:=by
  simp_all;rcases h with rfl|rfl
  .exact aoq (hm x (List.mem_of_mem_take hx))
  exact aoq (hm x (Cy hx))
 Sk l h:=(by grind)
def LY(S:List (List au)):Prop:=cq S/\1<=(aH S).length/\(aH S).length<=3
def adu:LY [[⟨1,0⟩]]:=⟨ZW (by simp) (by simp[Ay]) (by simp),by decide⟩
theorem ai0{ps:List au}(ha:ps.Pairwise mL)(hm:∀x∈ps,Ay x)(hl:ps.length<=3)(h0:ps.length≠0):LY [ps]:=⟨ZW ha hm hl,by grind [B8]⟩
theorem aiZ{ps:List au}{k:Nat}(ha:ps.Pairwise mL)(hm:∀x∈ps,Ay x)(hl:ps.length<=3)(h0:ps.length≠0):LY [ps.take k,ps.drop k]:=⟨amJ ha hm hl,by grind [B8]⟩
theorem aiN{S:List (List au)}{ways:List (List aT)}{c e:aT}(h:qv S ways)(hl:ways.length <2)(hc:n9 S c)(he:n9 S e):qv S (ways++[[c,e]]) where
 two:=by grind
 ok l hl:=by
  rcases bJ.1 hl with h1|h1
  .exact h.ok l h1
  grind
def ways_nil{S:List (List au)}:qv S []:=⟨by simp,by simp⟩
structure U0(S:List (List au))(ways:List (List aT)):Prop where
 xp:LY S
 wok:qv S ways
 ne:0 <(eY S ways).length
def aKQ(vS vT:Value)(S:List (List au))(ways:List (List aT))(L:Cells):Prop:=∀bU,Knows bU L->bH bU vS S/\ku bU vT ways
def U0.start{S:List (List au)}(h:LY S):U0 S []:=⟨h,ways_nil,by simp[eY,pX]⟩
set_option maxHeartbeats 2000000 in
def aCu {X:Cells} (hN:Dn ro vd xs) (hD:eL vd xs d X):eT zT 126 [zP d,zI 3] ro X (λr Y=>∃a0 n0 c0 a1 n1 c1 fa fc S ways Z X',r= .agg ⟨[.slice a0 n0 c0,.slice a1 n1 c1,.slice fa 0 fc]⟩/\aKQ (.slice a0 n0 c0) (.slice a1 n1 c1) S ways Z/\U0 S ways/\Y=Z++X'/\eL vd xs d X'):=by
 refine zC [.l X]<|zD 2<|jn λb4=>zD 5<|jc (vs:=[zP d,zI 3]) [1] (ayV hN hD (by omega)) ?_;rintro RV _ ⟨Nz,Bu,X14,KH,brO,aTH,aSW,rfl,akz⟩;obtain⟨nE,nC,akl⟩:=KH.form;subst akl;refine jg 0 [.l Bu,.l X14]<|jn λAx=>zD 2<|jn λb5=>jd 8 [0,0]<|jd 10 [1]<|Yk [1,1,1] [] (λ(zz:(Option Addr)×Nat×Nat×Cells×(List (List au))×Cells)=>[(0,zP d),(4,zP b4),(5,zP b5)]) (λ(zz:(Option Addr)×Nat×Nat×Cells×(List (List au))×Cells)=>[zxc b5 28 [.slice zz.1 zz.2.1 zz.2.2.1,zS,zS],.l zz.2.2.2.1,.l zz.2.2.2.2.2,zxc b4 28 [zS,zS,zS]]) (λ(zz:(Option Addr)×Nat×Nat×Cells×(List (List au))×Cells)=>(∀bU,Knows bU zz.2.2.2.1->bH bU (.slice zz.1 zz.2.1 zz.2.2.1) zz.2.2.2.2.1)/\LY zz.2.2.2.2.1/\eL vd xs d zz.2.2.2.2.2) ?_ (λK1 cU=>?_)
 ·
  rintro⟨pa,pn,pc,LP,S,X⟩ hP rest;dsimp only at hP;have hPl:=hP.2.1;refine zD 4<|jc (vs:=[zP d,zI 2]) [2] (Oq hN hP.2.2 (by omega)) ?_;rintro _ X56 ⟨w56,rfl,aRX,aRP,ar9⟩;refine zD 3<|iz [1,1,1,0,1,0,0] [] (λ(zz:Int×(Option Addr)×Nat×Nat×(Option Addr)×Nat×Nat×(Option Addr)×Nat×Cells×(List (List aT))×Cells)=>[(0,zP d),(4,zP b4),(5,zP b5),(8,zI zz.1)]) (λ(zz:Int×(Option Addr)×Nat×Nat×(Option Addr)×Nat×Nat×(Option Addr)×Nat×Cells×(List (List aT))×Cells)=>[zxc b5 28 [.slice zz.2.1 zz.2.2.1 zz.2.2.2.1,.slice zz.2.2.2.2.1 zz.2.2.2.2.2.1 zz.2.2.2.2.2.2.1,.slice zz.2.2.2.2.2.2.2.1 0 zz.2.2.2.2.2.2.2.2.1],.l zz.2.2.2.2.2.2.2.2.2.1,.l zz.2.2.2.2.2.2.2.2.2.2.2,zxc b4 28 [zS,zS,zS]]) (λ(zz:Int×(Option Addr)×Nat×Nat×(Option Addr)×Nat×Nat×(Option Addr)×Nat×Cells×(List (List aT))×Cells)=>(0<=zz.1/\zz.2.2.2.2.2.2.2.2.2.2.1.length+zz.1<=2)/\aKQ (.slice zz.2.1 zz.2.2.1 zz.2.2.2.1) (.slice zz.2.2.2.2.1 zz.2.2.2.2.2.1 zz.2.2.2.2.2.2.1) S zz.2.2.2.2.2.2.2.2.2.2.1 zz.2.2.2.2.2.2.2.2.2.1/\U0 S zz.2.2.2.2.2.2.2.2.2.2.1/\eL vd xs d zz.2.2.2.2.2.2.2.2.2.2.2) (λ(zz:Int×(Option Addr)×Nat×Nat×(Option Addr)×Nat×Nat×(Option Addr)×Nat×Cells×(List (List aT))×Cells)=>zz.1.toNat) (⟨w56,pa,pn,pc,none,0,0,none,0,LP,[],X56⟩) ⟨⟨by omega,by simp only[List.length_nil];omega⟩,(λbU hk=>⟨hP.1 bU hk,⟨[],dk.nil _ _ _ _ _,.nil⟩⟩),.start hPl,ar9⟩ [1,2,0,3] ?_;rintro⟨t,ca,cn,cc,da,dn,dc,fx,fy,LS,ways,X⟩ hI K2 kU rest;dsimp only at hI;refine zD 6<|zJ 58 (t>0) (λh1=>?_) λh1=>?_
  ·
   refine jd 7 [0]<|jcL (vs:=[.agg ⟨[.slice ca cn cc,.slice da dn dc,.slice fx 0 fy]⟩]) [] [1] LS (λcK hs hZ=>xM (hI.2.1 _ hZ).1 hPl.1 (hI.2.1 _ hZ).2 hI.2.2.1.wok) ?_;rintro _ _ ⟨a0,a1,a2,n0,n1,c0,c1,c2,qs,LT,ZZ,rfl,⟨hqs,hqh⟩,As,pO,rfl⟩;refine jg 0 [.l LT,.l ZZ]<|jn λb9=>jd 3 [0]<|Yk [1,1,1,0,1,0,0,1,0,0,1,1] [K2] (λ(zz:(Option Addr)×Nat×Nat×(Option Addr)×Nat×Nat×(Option Addr)×Nat×Cells×aT×aT×Cells)=>[(0,zP d),(4,zP b4),(5,zP b5),(8,zI t),(9,zP b9)]) (λzz=>[zxc b9 28 [.slice zz.1 zz.2.1 zz.2.2.1,.slice zz.2.2.2.1 zz.2.2.2.2.1 zz.2.2.2.2.2.1,.slice zz.2.2.2.2.2.2.1 0 zz.2.2.2.2.2.2.2.1],.l zz.2.2.2.2.2.2.2.2.1,.l zz.2.2.2.2.2.2.2.2.2.2.2,.l LS,zxc b5 28 [.slice ca cn cc,.slice da dn dc,.slice fx 0 fy],zxc b4 28 [zS,zS,zS]]) (λzz=>aKQ (.slice zz.1 zz.2.1 zz.2.2.1) (.slice zz.2.2.2.1 zz.2.2.2.2.1 zz.2.2.2.2.2.1) S (ways++[[zz.2.2.2.2.2.2.2.2.2.1,zz.2.2.2.2.2.2.2.2.2.2.1]]) zz.2.2.2.2.2.2.2.2.1/\qv S (ways++[[zz.2.2.2.2.2.2.2.2.2.1,zz.2.2.2.2.2.2.2.2.2.2.1]])/\eL vd xs d zz.2.2.2.2.2.2.2.2.2.2.2) ?_ (λK3 Dq=>?_)
   ·
    rintro⟨ra,rn,rc,ta,tn,tc,ua,uc,LS2,c1,c2,X⟩ hQ rest;dsimp only at hQ;refine jd 3 [0]<|jcL (vs:=[.agg ⟨[.slice ra rn rc,.slice ta tn tc,.slice ua 0 uc]⟩]) [] [1] LS2 (λcK hs hZ=>avQ (hQ.1 _ hZ).1 hPl.1 (hQ.1 _ hZ).2 hQ.2.1 hPl.2.2) ?_;rintro _ Y80 ⟨boR,boQ,rfl⟩;refine zD 16<|jj 4 [(0,zP d),(4,zP b4),(5,zP b5),(8,zI t),(9,zP b9),(94,.bool ((decide (((eY S (ways++[[c1,c2]])).length:Int)>0))&&(decide (((eY S (ways++[[c1,c2]])).length:Int)<=4))))] (λoX=>?_) (λhj=>?_);rotate_left;refine js 90 (decide (((eY S (ways++[[c1,c2]])).length:Int)>0)) (λh2=>?_) (λh2=>?_)
    ·
     have nu:=h2;replace nu:=ah nu;refine zD 4<|zxw 94 hj (zya h2)
    ·
     have nu:=h2;replace nu:=af nu;refine zD 4<|zxw 94 hj (zyb h2)
    refine zD 1<|js 94 ((decide (((eY S (ways++[[c1,c2]])).length:Int)>0))&&(decide (((eY S (ways++[[c1,c2]])).length:Int)<=4))) (λh3=>?_) (λh3=>?_)
    ·
     try simp only[zB] at h3
     refine jd 7 [1,5]<|zW (t-1)<|zD 2<|zY kU (⟨(t-1),ra,rn,rc,ta,tn,tc,ua,uc,LS2,(ways++[[c1,c2]]),X⟩) ⟨⟨by dsimp only;omega,by simp only[zM];omega⟩,hQ.1,⟨hPl,hQ.2.1,(show 0 <(eY S (ways++[[c1,c2]])).length by omega)⟩,hQ.2.2⟩ [5,2,3,6]
    try simp only[zB] at h3
    refine zD 4<|zW (t-1)<|zD 2<|zY kU (⟨(t-1),ca,cn,cc,da,dn,dc,fx,fy,LS,ways,X⟩) ⟨⟨by dsimp only;omega,by dsimp only;omega⟩,hI.2.1,hI.2.2.1,hQ.2.2⟩ [5,4,3,6]
   refine jd 9 [0,3,3]<|zxo 5 λtw=>jcL (vs:=[zP d,.agg ⟨[.slice ca cn cc]⟩]) [5] [4] LS (λcK hs hZ=>aih (hN.up hs) hI.2.2.2 (hI.2.1 _ hZ).1 hPl.1) ?_;rintro _ X68 ⟨XE,rfl,aIx,bh5⟩;refine ee tw [[4],[1]]<|zxo 9 λC6=>jcL (vs:=[zP d,.agg ⟨[.slice ca cn cc]⟩]) [0] [4] LS (λcK hs hZ=>aih (hN.up hs) bh5 (hI.2.1 _ hZ).1 hPl.1) ?_;rintro _ X72 ⟨c72,rfl,bg0,bh4⟩;refine ee C6 [[1]]<|zxo 10 λKX=>jn λb73=>eH KX (zN 1 7)<|zD 1<|zxo 12 λKW=>jn λb75=>eH KW (zN 1 8)<|zxo 13 λWJ=>gB (sz:=1) (ps:=qs) (qs:=[(.slice (some ⟨b73,0,none⟩) 2 2:Value)]) (enc:=qa) (w:= .slice (some ⟨b75,0,none⟩) 1 1) [4] [0] [(b75,.cells ⟨([(.slice (some ⟨b73,0,none⟩) 2 2:Value)].map qa).flatten⟩ 82 (0,0))] (As) (λs _ hZ=>dg [(.slice (some ⟨b73,0,none⟩) 2 2:Value)] (hZ _ (.head _)) (by intro p hp;rfl)) (by intro p hp;rw[aU] at hp;subst hp;exact aG rfl) (by simp only[aJ,aO];omega) (λv76 L76 aql=>?_);obtain⟨ac9,ac6,bgz⟩:=aql.form;subst bgz;refine ee WJ []<|zD 1<|zxo 15 λhL9=>jd 1 [4]<|kA hL9<|zD 1<|jg 2 [.l [(b73,.cells ⟨[zI XE.k,zI XE.st,zI XE.ot,zI XE.fn,zI XE.fl,zI XE.tn,zI XE.tl,zI c72.k,zI c72.st,zI c72.ot,zI c72.fn,zI c72.fl,zI c72.tn,zI c72.tl]⟩ 100 (0,0))]]<|zV Dq ⟨a0,n0,c0,ac9,_,ac6,a2,c2,L76++([(b73,.cells ⟨[zI XE.k,zI XE.st,zI XE.ot,zI XE.fn,zI XE.fl,zI XE.tn,zI XE.tl,zI c72.k,zI c72.st,zI c72.ot,zI c72.fn,zI c72.fl,zI c72.tn,zI c72.tl]⟩ 100 (0,0))]++ZZ),XE,c72,X72⟩ ⟨λbU hk=>by exact⟨(pO bU hk.right.right).1,⟨_,aql.ju hk.left,(pO bU hk.right.right).2.snoc (eZ [XE,c72] (hk.right _ (.head _)) (λ_ _=>rfl))⟩⟩,aiN hI.2.2.1.wok (by omega) aIx bg0,bh4⟩ [[4],[0,2,5],[3],[7],[6],[8]]
  refine jd 8 [0,3]<|zR (.agg ⟨[.slice ca cn cc,.slice da dn dc,.slice fx 0 fy]⟩) [3] [1,2] _ ⟨_,_,_,_,_,_,_,_,S,ways,LS,X,rfl,hI.2.1,hI.2.2.1,rfl,hI.2.2.2⟩
 refine zJ 25 ((Nz.length:Int)=0) (λwq=>?_) λwq=>?_
 ·
  refine jd 6 [0]<|jn λb30=>jd 3 [2]<|jg 2 [.l [(Ax,.cells ⟨[.slice (some ⟨b30,0,none⟩) 1 1]⟩ 98 (0,0))]]<|jg 0 [.l [(b30,.cells ⟨[zI 1,zI 0]⟩ 39 (0,0))]]<|zV cU ⟨(some ⟨Ax,0,none⟩),1,1,[(Ax,.cells ⟨[.slice (some ⟨b30,0,none⟩) 1 1]⟩ 98 (0,0))]++[(b30,.cells ⟨[zI 1,zI 0]⟩ 39 (0,0))],[[⟨1,0⟩]],X14⟩ ⟨λbU hk=>⟨[_],eZ [_] (hk _ (.head _)) (λ_ _=>rfl),.cons (eZ [(⟨1,0⟩:au)] (hk _ (.tail _ (.head _))) (λ_ _=>rfl)) .nil⟩,adu,akz⟩ [[1],[2,0],[4],[5]]
 refine zD 4<|jc (vs:=[zP d,zI 2]) [3] (Gv hN akz (by omega)) ?_;rintro _ X33 ⟨w33,rfl,NM⟩;refine zD 1<|js 33 w33 (λyX=>?_) (λyX=>?_)
 ·
  subst yX;refine zD 5<|jc (vs:=[zP d,zI (Nz.length:Int)]) [0] (Oq hN NM (by omega)) ?_;rintro _ X36 ⟨w36,rfl,bq1,wG,bh7⟩;refine jd 6 [1]<|jd 4 [2]<|bd0 (a:=nE) (n:=Nz.length) (sz:=2) (hi:=w36) (mx:=w36) (bI.cap KH).2 (by omega) λa44 n44 c44 be3=>jd 3 [1]<|jd 3 [2]<|bdZ (a:=nE) (n:=Nz.length) (sz:=2) (lo:=w36) (bI.cap KH).2 (by omega) λa51 n51 c51 be2=>zxo 15 λHm=>jn λb52=>eH Hm (zN 1 5)<|zD 2<|zxo 18 λKZ=>jd 1 [2]<|ee KZ []<|zD 1<|jg 0 [.l [(b52,.cells ⟨[.slice a44 n44 c44,.slice a51 n51 c51]⟩ 98 (0,0))]]<|zV cU ⟨(some ⟨b52,0,none⟩),2,2,[(b52,.cells ⟨[.slice a44 n44 c44,.slice a51 n51 c51]⟩ 98 (0,0))]++Bu,[Nz.take w36.toNat,Nz.drop w36.toNat],X36⟩ ⟨λbU hk=>⟨[_,_],eZ [_,_] (hk _ (.head _)) (λ_ _=>rfl),.cons (be3 (KH.ju (Knows.tail hk))) (.cons (be2 (KH.ju (Knows.tail hk))) .nil)⟩,aiZ aTH aSW (by omega) (by omega),bh7⟩ [[2],[0,4],[1],[5]]
 subst yX;refine zD 2<|jg 2 [.l [(Ax,.cells ⟨[(.slice nE Nz.length nC)]⟩ 98 (0,0))]]<|zV cU ⟨(some ⟨Ax,0,none⟩),1,1,[(Ax,.cells ⟨[(.slice nE Nz.length nC)]⟩ 98 (0,0))]++Bu,[Nz],X33⟩ ⟨λbU hk=>⟨[_],eZ [_] (hk _ (.head _)) (λ_ _=>rfl),.cons (KH.ju (Knows.tail hk)) .nil⟩,ai0 aTH aSW (by omega) (by omega),NM⟩ [[1],[2,3],[0],[4]]
def nm6:List ByteArray:=[bs [97,110,110,97],bs [66,69,78],bs [115,109,105,116,104],bs [115,109,121,116,104],bs [67,65,68],bs [97,110]]
def iX(i:Int):ByteArray:=nm6[i.toNat]?.getD (bs [97])
def awz:(nm6.map keyOf).Nodup:=by decide+kernel
def aPZ:∀w∈nm6,nz w:=by
 intro w hw;simp only[nm6,aN,fF,aZ] at hw;rcases hw with rfl|rfl|rfl|rfl|rfl|rfl<;>first|exact⟨by decide,.inl (by decide)⟩|exact⟨by decide,.inr (by decide)⟩
theorem ag8{i:Int}(h:0<=i/\i <6):nm6[i.toNat]?=some (iX i):=by
 have:i.toNat <nm6.length:=by show i.toNat <6;omega
 grind [iX,ai]
def aFB{i j:Int}(hi:0<=i/\i <6)(hj:0<=j/\j <6)(h:keyOf (iX i)=keyOf (iX j)):i=j:=by
 have h1:(nm6.map keyOf)[i.toNat]?=some (keyOf (iX i)):=by rw[gi,ag8 hi];rfl
 have h2:(nm6.map keyOf)[j.toNat]?=some (keyOf (iX j)):=by rw[gi,ag8 hj];rfl
 have:=(List.getElem?_inj (show i.toNat <(nm6.map keyOf).length by show i.toNat <6;omega) awz).1 (h1.trans (by rw[h,<-h2]));omega
structure Jp(is:List Int):Prop where
 one:1<=is.length
 nd:is.Nodup
 ok:∀i∈is,0<=i/\i <6
theorem aJ5{ws ks:List ByteArray}(h:(ks++ws.map keyOf).Nodup):abQ ks ws=false:=by
 induction ws generalizing ks with
 |nil=>rfl
 |cons w l ih=>
  simp only[abQ]
  grind [Xi,eo,EX]
theorem Jp.err{is:List Int}(h:Jp is)(h3:is.length<=3):DK (is.map iX)=0:=by
 have hd:=aJ5 (by
  rw[aY,qU];exact Mh.2 (h.nd.imp_of_mem λ{a b} ha hb IM e=>IM (aFB (h.ok a ha) (h.ok b hb) e)))
 have:=h.one
 grind [DK]
def Jp.name{is:List Int}(h:Jp is):∀w∈is.map iX,nz w:=λw hw=>by
 obtain⟨i,hi,rfl⟩:=a8.1 hw;exact aPZ _ (zL (ag8 (h.ok i hi)))
theorem ajz{is:List Int}{k:Nat}{x:Int}(hp:ps.Perm (jE 6))(hx:ps[k]?=some x) (hn:is.Nodup) (hi:∀i∈is,i∈ps.drop (k+1)):(is++[x]).Nodup/\∀i∈is++[x],i∈ps.drop k:=by
 have kT:ps.Nodup:=hp.nodup_iff.2 (by decide);have hd:=lB hx
 grind [iG,List.drop_sublist,eo,aU]
theorem ZK(hp:ps.Perm (jE 6)){x:Int}(h:x∈ps):0<=x/\x <6:=by
 grind [jE]
def Ot{X:Cells}{n:Int}(hN:Dn ro vd xs)(hD:eL vd xs d X)(hn:1<=n/\n<=3):eT zT 128 [zP d,zI n] ro X (λr Y=>∃is L X',bI r 1 9 mG (is.map iX) L/\Jp is/\(is.length:Int)<=n/\Y=L++X'/\eL vd xs d X'):=by
 refine zC [.l X]<|zD 6<|jn λb9=>zD 7<|jc (vs:=[zP d,zI 6]) [1] (aKa hN hD (by first|omega|decide)) ?_;rintro v13 _ ⟨awb,L13,X13,NG,aaW,rfl,WY⟩;refine jg 0 [.l L13,.l X13]<|zD 1<|jf [2,0] ((b9,.cells ⟨[.string (bs [97,110,110,97]),.string (bs [66,69,78]),.string (bs [115,109,105,116,104]),.string (bs [115,109,121,116,104]),.string (bs [67,65,68]),.string (bs [97,110])]⟩ 9 (0,0))::L13) (λAD fq iu=>?_);have hn9:dk AD (.slice (some ⟨b9,0,none⟩) 6 6) 1 mG nm6:=eZ nm6 (iu _ (.head _)) (λ_ _=>rfl);obtain⟨q9a,q9b,q9o,q9c,h9e,q9k,q9h,q9l⟩:=hn9;simp only[Value.slice.injEq] at h9e;obtain⟨rfl,_,rfl⟩:=h9e;have hzp:=NG.ju (Knows.tail iu);obtain⟨yR,GP,GN,wB,rfl,GO,CY,CX⟩:=hzp;refine zD 2 ?_;have wm:awb.length=6:=aaW.length_eq;have hn6:nm6.length=6:=rfl;refine zD 8<|jc (vs:=[zP d,zI 1,zI n]) [0] (zp (hN.up fq) WY (by omega) (by omega)) ?_;rintro _ X16 ⟨yQ,rfl,aj3,KC,C8⟩;refine zD 3<|uI<|iz [1,1,1,1,0,1,0,0] [] (λ(zz:Int×Value×Cells×(List Int)×Cells)=>[(4,zS),(5,.slice (some ⟨b9,0,none⟩) 6 6),(6,.slice yR awb.length wB),(7,zz.2.1),(8,zI zz.1)]) (λzz=>[.l zz.2.2.1,.l zz.2.2.2.2]) (λzz=>(0<=zz.1/\zz.1<=yQ/\zz.2.2.2.1.length+zz.1=yQ)/\bI zz.2.1 1 9 mG (zz.2.2.2.1.map iX) zz.2.2.1/\(zz.2.2.2.1.Nodup/\∀i∈zz.2.2.2.1,i∈awb.drop (zz.1.toNat+1))/\eL vd xs d zz.2.2.2.2) (λzz=>zz.1.toNat) (⟨yQ,zS,[],[],X16⟩) ⟨⟨by omega,Int.le_refl _,by simp only[List.length_nil];omega⟩,bI.nil _ _ _,⟨.nil,nofun⟩,C8⟩ [0,1] ?_;rintro⟨k,v,L,is,X⟩ hI K1 cU rest;dsimp only at hI;refine zD 6<|zJ 18 (k>0) (λh4=>?_) λh4=>?_
 ·
  refine zD 9 ?_;obtain⟨wx,jT⟩:=zG awb (k.toNat);refine Yj k wB 1 CY jT (by omega)<|jl 0 (CX _ _ jT) ?_;have beZ:=ZK aaW (zL jT);obtain⟨x27,KB⟩:=zG nm6 (wx.toNat);refine Yj wx 6 1 q9h KB (by omega)<|jl 0 (q9l _ _ KB)<|jn λb29=>zxl mG b29 x27 1 0 (hI.2.1) λaDO aDH L30 aqu=>zD 4<|zW (k-1)<|zD 2<|zY cU (⟨(k-1),(.slice aDO (((is.map iX)++[x27])).length aDH),L30,(is++[wx]),X⟩) ⟨⟨by dsimp only;omega,by dsimp only;omega,by simp only[zM];omega⟩,by rw[List.map_append,show ([wx].map iX)=[x27] from by rw[List.map_singleton,Option.some.inj ((ag8 beZ).symm.trans KB)]];exact aqu,(by have:=ajz aaW jT hI.2.2.1.1 hI.2.2.1.2;rwa[show k.toNat=(k-1).toNat+1 by omega] at this),hI.2.2.2⟩ [0,2]
 refine zD 8<|cd q0.a (v) [] [0,1] (L++X) fq ⟨_,_,rfl,rfl,is,L,X,hI.2.1,⟨by omega,hI.2.2.1.1,λi hi=>ZK aaW (Cy (hI.2.2.1.2 i hi))⟩,by omega,rfl,hI.2.2.2⟩
def jqo{X:Cx}{a b:Int}(T:TypeId)(hb:b≠0)(hr: -9223372036854775808<=a.tdiv b/\a.tdiv b<=9223372036854775807)(hj:J X (lX (zI (a.tdiv b)) o))(hv:fp X.n (S6 X.n) o=some (.quo,T,zI a,zI b):=by kernel_rfl):J X o:=by
 refine SK hv (λs p e _ hf=>?_) hj;obtain⟨x,y,T',aX,hx,hy⟩:=zw hf;rcases p with ⟨dst,op,ty,pos,gf,g⟩
 dsimp only at aX;subst aX;exact λs0 ops i vJ rest hw s' hs todo Q hk=>aPO X.hC vJ hw (cO hx) (cO hy) hb (lJ _ hr) hk
def Ze{h:Nat}(h1:1<=h/\h<=3):((0<=Int.tdiv 4 (h:Int)/\Int.tdiv 4 (h:Int)<=4)/\1<=min (3:Int) (Int.tdiv 4 (h:Int))/\min (3:Int) (Int.tdiv 4 (h:Int))<=3)/\∀p:Nat,(p:Int)<=min (3:Int) (Int.tdiv 4 (h:Int))->p*h<=6:=by
 have:h=1\/h=2\/h=3:=by omega
 rcases this with rfl|rfl|rfl
 .have e:min (3:Int) (Int.tdiv 4 ((1:Nat):Int))=3:=by decide
  rw[e];exact⟨by decide,λp h=>by omega⟩
 .have e:min (3:Int) (Int.tdiv 4 ((2:Nat):Int))=2:=by decide
  rw[e];exact⟨by decide,λp h=>by omega⟩
 have e:min (3:Int) (Int.tdiv 4 ((3:Nat):Int))=1:=by decide
 rw[e];exact⟨by decide,λp h=>by omega⟩
def VG{St:Int}{S:List (List au)}(hS:bH ro vS S)(hO:cq S):eT zT 31 [.agg ⟨[vS,vT,vF,vP,vR,zI D,zI St,vE]⟩] ro [] (λr Y=>bI r 3 41 bO (aH S) Y):=by
 have nP:=hS;refine zE<|zD 2<|jn λb1=>jd 7 [0]<|jc (vs:=[.agg ⟨[vS]⟩]) [] (H9 nP hO) ?_;rintro v6 L6 ho6;obtain⟨va6,vc6,hf6⟩:=ho6.form;subst hf6;refine zD 3<|zR _ [] [0] L6 ho6
def eMs(m:Nat->Option Nat):List Value:=[.map (m 0),.map (m 1),.map (m 2),.map (m 3),.map (m 4),.map (m 5),.map (m 6),.map (m 7),.map (m 8),.map (m 9),.map (m 10),.map (m 11)]
def BK(m:Nat->Option Nat)(k r:Nat)(j:Nat):Option Nat:=bif Nat.beq j k then some r else m j
def ajs{m:Nat->Option Nat}{k:Nat}:BK m k r k=some r:=by simp[BK]
def av9{m:Nat->Option Nat}{k j:Nat}(h:j≠k):BK m k r j=m j:=by
 have:Nat.beq j k=false:=by cases hb:Nat.beq j k with
  |false=>rfl
  |true=>exact absurd (dW hb) h
 simp[BK,this]
def lt4{k:Nat}(h:k <4):k=0\/k=1\/k=2\/k=3:=by omega
theorem aFM{m:Nat->Option Nat}(hi:i <3)(hd:d <4):gZ (eMs m) (0+(i:Int).toNat*4+(d:Int).toNat*1) [.map (some r)]=eMs (BK m (i*4+d) r):=by
 rcases Yi hi with rfl|rfl|rfl<;>rcases lt4 hd with rfl|rfl|rfl|rfl<;>rfl
def aFN{m:Nat->Option Nat}(hi:i <3)(hd:d <4):Nat.ble ((0+(i:Int).toNat*4+(d:Int).toNat*1)+1) (eMs m).length=true:=by
 rcases Yi hi with rfl|rfl|rfl<;>rcases lt4 hd with rfl|rfl|rfl|rfl<;>rfl
def ape{m:Nat->Option Nat}(hi:i <3)(hd:d <4)(h:m (i*4+d)=some r):nth (eMs m) (0+(i:Int).toNat*4+(d:Int).toNat*1)=some (.map (some r)):=by
 rw[<-h];rcases Yi hi with rfl|rfl|rfl<;>rcases lt4 hd with rfl|rfl|rfl|rfl<;>rfl
def tL(m:Nat->Option Nat)(Fs:Nat->List (Int×Value)):Nat->Cells->Prop
 |0,L=>L=[]
 |n+1,L=>∃A B r,L=A++B/\tL m Fs n A/\m n=some r/\g9 r BZ (Fs n) B
def tL.mono{m m':Nat->Option Nat}{Fs':Nat->List (Int×Value)}:∀ {n:Nat} {L:Cells},(∀j,j <n->m' j=m j/\Fs' j=Fs j)->tL m Fs n L->tL m' Fs' n L
 |0,_,_,h=>h
 |n+1,_,hj,⟨A,B,r,h1,h2,h3,h4⟩=>⟨A,B,r,h1,h2.mono λj h=>hj j (by omega),by rw[(hj n (by omega)).1,h3],by rw[(hj n (by omega)).2];exact h4⟩
def tL.snoc{m:Nat->Option Nat}{A B:Cells}(h:tL m Fs n A)(hf:Fs n=[])(hB:g9 r BZ [] B):tL (BK m n r) Fs (n+1) (A++B):=
 ⟨A,B,r,rfl,h.mono λj hj=>⟨av9 (by omega),rfl⟩,ajs,by rw[hf];exact hB⟩
def YS(Fs:Nat->List (Int×Value))(k:Nat)(F:List (Int×Value))(j:Nat):List (Int×Value):=if j=k then F else Fs j
theorem tL.cut{m:Nat->Option Nat}{k:Nat}:∀ {n:Nat} {L:Cells},tL m Fs n L->k <n->∃A B C r,L=A++(B++C)/\m k=some r/\g9 r BZ (Fs k) B/\∀F' B',g9 r BZ F' B'->tL m (YS Fs k F') n (A++(B'++C))
 |0,_,_,h=>absurd h (fS _)
 |n+1,L,⟨A,B,r,h1,h2,h3,h4⟩,hk=>by
  by_cases e:k=n
  .subst e;refine⟨A,B,[],r,by rw[h1];simp,h3,h4,λF' B' hB=>?_⟩;exact⟨A,B',r,by simp,h2.mono λj hj=>⟨rfl,by simp only[YS];rw[cy (by omega)]⟩,h3,by simp only[YS,dF];exact hB⟩
  obtain⟨A',B2,C,r',e1,e2,e3,e4⟩:=h2.cut (show k <n by omega);refine⟨A',B2,C++B,r',by rw[h1,e1];simp[bx],e2,e3,λF' B' hB=>?_⟩;exact⟨A'++(B'++C),B,r,by simp[bx],e4 F' B' hB,h3,by simp only[YS];rw[cy (by omega)];exact h4⟩
def tL.kn{m:Nat->Option Nat}:∀ {n:Nat} {L:Cells},tL m Fs n L->Knows ro L->∀k,k <n->∃r es ck,m k=some r/\ro r=some (.map es ck)/\wN BZ (Fs k) es ck
 |0,_,_,_,k,hk=>absurd hk (fS _)
 |n+1,L,⟨A,B,r,h1,h2,h3,h4⟩,ep,k,hk=>by
  subst h1;by_cases e:k=n
  .subst e;obtain⟨es,ck,rfl,hE⟩:=h4;exact⟨r,es,ck,h3,ep.right _ (.head _),hE⟩
  exact h2.kn ep.left k (by omega)
theorem Zf{κ:Type}{k:κ}{v z:Value}:∀ {F:List (κ×Value)},xb k v (F++[(k,z)]) F.length=F++[(k,v)]
 | []=>rfl
 |x::F=>by simp only[dK,aJ,xb,Zf]
def CI.baC{f:bY->Int}{L:List bY}{t:bY}(h:CI f F L):CI f (iS (f t) (zI (qJ f (f t) L+1)) F) (L++[t]):=by
 cases hf:ub (f t) F 0 with
 |some u=>exact h.upd (.inl ⟨⟨u,hf⟩,rfl⟩)
 |none=>
  have:=h.upd (.inr ⟨hf,rfl⟩);have e:iS (f t) (zI (qJ f (f t) L+1)) (F++[(f t,zI 0)])=iS (f t) (zI (qJ f (f t) L+1)) F:=by
   have h1:=Em (v:=Value.int .i64 0) hf;rw[iS,h1,iS,hf];simp only[iE];exact Zf
  rwa[e] at this
def RR(np:Nat)(D:Int)(Fs:Nat->List (Int×Value))(L:List bY)(t:bY)(i d:Nat):Prop:=
 ∀a b:Nat,a <np->(b:Int) <D->CI (λt=>(t.at a).at b) (Fs (a*4+b)) (if a <i\/(a=i/\b <d) then L++[t] else L)
theorem RR.step{L:List bY}{t:bY}(h:RR np D Fs L t i d)(hi:i <np)(hd:(d:Int) <D)(hD:D<=4):RR np D (YS Fs (i*4+d) (iS ((t.at i).at d) (zI (qJ (λt=>(t.at i).at d) ((t.at i).at d) L+1)) (Fs (i*4+d)))) L t i (d+1):=by
 intro a b ha hb;by_cases e:a=i/\b=d
 .obtain⟨rfl,rfl⟩:=e;rw[dN (by omega)];simp only[YS,dF];have:=h a b ha hb;rw[cy (by omega)] at this;exact this.baC (t:=t)
 have eA:a*4+b≠i*4+d:=by omega
 simp only[YS];rw[cy eA];have:=h a b ha hb;by_cases e2:a <i\/(a=i/\b <d)
 .rw[dN e2] at this;rw[dN (by omega)];exact this
 rw[cy e2] at this;rw[cy (by omega)];exact this
def RR.row{L:List bY}{t:bY}(h:RR np D Fs L t i d)(hd:¬(d:Int) <D):RR np D Fs L t (i+1) 0:=by
 intro a b ha hb;have:=h a b ha hb;by_cases e2:a <i\/(a=i/\b <d)
 .rw[dN e2] at this;rw[dN (by omega)];exact this
 rw[cy e2] at this;rw[cy (by omega)];exact this
def Ya(np:Nat)(D:Int)(Fs:Nat->List (Int×Value))(L:List bY):Prop:=∀a b:Nat,a <np->(b:Int) <D->CI (λt=>(t.at a).at b) (Fs (a*4+b)) L
def Ya.start{L:List bY}(h:Ya np D Fs L)(t:bY):RR np D Fs L t 0 0:=λa b ha hb=>by
 rw[cy (by omega)];exact h a b ha hb
theorem RR.fin{L:List bY}{t:bY}(h:RR np D Fs L t i 0)(hi:¬i <np):Ya np D Fs (L++[t]):=λa b ha hb=>by
 have:=h a b ha hb;rwa[dN (by omega)] at this
theorem Ya.next{L:List bY}{k:Nat}{t:bY}(h:Ya np D Fs (L.take k++[t]))(ht:L[k]?=some t):Ya np D Fs (L.take (k+1)):=by
 rw[List.take_add_one,ht];exact h
def anm(M:Nat->Nat->Int)(i d:Nat)(s:Int×Int×Int):Int×Int×Int:=bif decide (M i d <s.2.2) then ((i:Int),(d:Int),M i d) else s
def atX(M:Nat->Nat->Int)(i:Nat):Nat->Int×Int×Int->Int×Int×Int
 |0,s=>s
 |d+1,s=>anm M i d (atX M i d s)
def atW(M:Nat->Nat->Int)(D:Nat):Nat->Int×Int×Int->Int×Int×Int
 |0,s=>s
 |i+1,s=>atX M i D (atW M D i s)
def PX(L:List bY)(i d:Nat):Int:=TS (λt=>(t.at i).at d) L
theorem aec{L L':List bY}(h:L.Perm L'):PX L=PX L':=by funext i d;exact aed h
def XY(es:Array MapEntry)(seen:List Nat)(F:List (Int×Value))(m:Int):Prop:=0<=m/\(∀e∈es.toList,e∈gq es seen\/∀n,e.val= zI n->n<=m)/\(m=0\/∃x∈F,x.2= zI m)
def XY.start{es:Array MapEntry}:XY es [] F 0:=⟨Int.le_refl _,λe he=> .inl (by rw[E8];exact he),.inl rfl⟩
theorem XY.step{es:Array MapEntry}{e:MapEntry}{m n k:Int}(h:XY es seen F m)(hE:wN BZ F es ck)(he:e∈gq es seen)(hv:e.val= zI n)(hf:(k,Value.int .i64 n)∈F):XY es (seen++[e.born]) F (max m n):=by
 obtain⟨h1,h2,h3⟩:=h;refine⟨by omega,λx hx=>?_,?_⟩
 .rcases h2 x hx with h4|h4
  .rcases P5 hE he h4 with rfl|h5
   .exact .inr λq hq=>by rw[hv] at hq;cases hq;omega
   exact .inl h5
  exact .inr λq hq=>by have:=h4 q hq;omega
 rcases Int.le_total m n with h5|h5
 .exact .inr ⟨_,hf,by rw[Int.max_eq_right h5]⟩
 rw[Int.max_eq_left h5];exact h3
theorem XY.fin{f:bY->Int}{L:List bY}{es:Array MapEntry}{m:Int}(h:XY es seen F m)(hE:wN BZ F es ck)(he:gq es seen=[])(hC:CI f F L):m=TS f L:=by
 obtain⟨h1,h2,h3⟩:=h;refine hC.oZ h1 (λx hx n hn=>?_) h3;have:(BZ x.1,x.2)∈es.toList.map (λe=>(e.key,e.val)):=by rw[hE.1];exact cY (f:=λx:Int×Value=>(BZ x.1,x.2)) hx
 obtain⟨e,h4,h5⟩:=a8.1 this;simp only[bL] at h5;rcases h2 e h4 with h6|h6
 .rw[he] at h6;cases h6
 exact h6 n (h5.2.trans hn)
def aQ2{t:bY}{bw ba:Nat}{m:Nat->Option Nat}{L:Cells}{Ts:List bY}{Hb ne:Nat}{W:kg}{u:Value}{ls:List cz}{ps:List eI}{mk:Nat->Nat->cz->Int}(eJ:Ct ro Hb W u np ne ls ps mk)(g1:ro bw=some (.cells ⟨[zP Hb]⟩ 103 (0,0)))(ga:ro ba=some (.cells ⟨eMs m⟩ 182 (0,0)))(hm:tL m Fs 12 L)(hA:Ya np W.D Fs Ts)(hTs:Ts.length<=1000000):eT zT 105 [.agg ⟨[zI t.past,zI t.x.a,zI t.x.b,zI t.x.c,zI t.x.d,zI t.y.a,zI t.y.b,zI t.y.c,zI t.y.d,zI t.z.a,zI t.z.b,zI t.z.c,zI t.z.d]⟩,zP bw,zP ba] ro L (λr Y=>∃Fs',r= .tuple ⟨[]⟩/\tL m Fs' 12 Y/\Ya np W.D Fs' (Ts++[t])):=by
 obtain⟨xs,Jx,xO⟩:=eJ.pe;obtain⟨qi,Yh,Yf,qd,zh,Yg,VI,VH⟩:=xO;obtain⟨es,vK,nJ⟩:=eJ.e;obtain⟨gY,yK,yJ,gP,yV,GQ,xo,xm⟩:=nJ;obtain⟨fO,rh,q9,fb,hle,sV,mR,nN⟩:=eJ.l;obtain⟨gX,xY,xX,gF,Bd,A2,xk,xj⟩:=eJ.p;have hH:ro Hb=some (.cells ⟨[W.a0,W.a1,W.a2,.slice qi xs.length qd,W.a4,zI W.D,zI W.S,.slice gY es.length gP,(.slice W.ha W.H W.iK),.slice fO ls.length fb,.slice gX ps.length gF]⟩ 113 (0,0)):=by rw[<-zh,<-yV,<-hle,<-Bd];exact eJ.h
 have Yn:=eJ.n3;have Ug:=eJ.e5;have Ee:=eJ.ll;have wm:=eJ.pl;have Yt:=eJ.d;refine zC [.l L]<|zD 2<|jn λb3=>zD 3<|jl (b:=bw) (off:=0) (m:=1) (vs:=[zP Hb]) 0 ⟨_,_,_,.inl g1,rfl⟩<|zD 3<|jl (b:=Hb) (off:=0) (m:=11) (vs:=[W.a0,W.a1,W.a2,.slice qi xs.length qd,W.a4,zI W.D,zI W.S,.slice gY es.length gP,(.slice W.ha W.H W.iK),.slice fO ls.length fb,.slice gX ps.length gF]) 3 ⟨_,_,_,.inl hH,rfl⟩<|zD 4<|iz [1,1,0,0] [] (λ(zz:Nat×(Nat->List (Int×Value))×Cells)=>[(1,zP bw),(2,zP ba),(3,zP b3),(11,zI (xs.length:Int)),(12,zI (zz.1:Int))]) (λ(zz:Nat×(Nat->List (Int×Value))×Cells)=>[.l zz.2.2,zxc b3 123 [zI t.past,zI t.x.a,zI t.x.b,zI t.x.c,zI t.x.d,zI t.y.a,zI t.y.b,zI t.y.c,zI t.y.d,zI t.z.a,zI t.z.b,zI t.z.c,zI t.z.d]]) (λ(zz:Nat×(Nat->List (Int×Value))×Cells)=>zz.1<=np/\tL m zz.2.1 12 zz.2.2/\RR np W.D zz.2.1 Ts t zz.1 0) (λ(zz:Nat×(Nat->List (Int×Value))×Cells)=>np-zz.1) (⟨0,Fs,L⟩) ⟨Nat.zero_le _,hm,hA.start t⟩ [1,0] ?_;rintro⟨i,Fs,L⟩ hI K1 cU rest;dsimp only at hI;refine zD 5<|zJ 13 ((i:Int) <(xs.length:Int)) (λh1=>?_) λh1=>?_
 ·
  refine zD 11<|jl (b:=bw) (off:=0) (m:=1) (vs:=[zP Hb]) 0 ⟨_,_,_,.inl g1,rfl⟩<|zD 3<|jl (b:=Hb) (off:=0) (m:=11) (vs:=[W.a0,W.a1,W.a2,.slice qi xs.length qd,W.a4,zI W.D,zI W.S,.slice gY es.length gP,(.slice W.ha W.H W.iK),.slice fO ls.length fb,.slice gX ps.length gF]) 5 ⟨_,_,_,.inl hH,rfl⟩<|zD 3<|iz [1,1,0,0,1,1,0,0,1,1,0,0] [K1] (λ(zz:Nat×(Nat->List (Int×Value))×Cells)=>[(1,zP bw),(2,zP ba),(3,zP b3),(4,zI (i:Int)),(11,zI (xs.length:Int)),(12,zI (i:Int)),(19,zI W.D),(20,zI (zz.1:Int))]) (λ(zz:Nat×(Nat->List (Int×Value))×Cells)=>[.l zz.2.2,zxc b3 123 [zI t.past,zI t.x.a,zI t.x.b,zI t.x.c,zI t.x.d,zI t.y.a,zI t.y.b,zI t.y.c,zI t.y.d,zI t.z.a,zI t.z.b,zI t.z.c,zI t.z.d]]) (λ(zz:Nat×(Nat->List (Int×Value))×Cells)=>(zz.1:Int)<=W.D/\tL m zz.2.1 12 zz.2.2/\RR np W.D zz.2.1 Ts t i zz.1) (λ(zz:Nat×(Nat->List (Int×Value))×Cells)=>W.D.toNat-zz.1) (⟨0,Fs,L⟩) ⟨by dsimp only;omega,hI.2⟩ [0,1] ?_;rintro⟨d,Fs,L⟩ hJ K2 kU rest;dsimp only at hJ;refine zD 5<|zJ 21 ((d:Int) <W.D) (λh2=>?_) λh2=>?_
  ·
   refine zD 9 ?_;obtain⟨cA,cB,cC,rK,rfl,R9,hB,aHh⟩:=hJ.2.1.cut (show i*4+d <12 by omega);refine jg 0 [.l cA,.l cB,.l cC] ?_;have hCI:CI (λt:bY=>(t.at i).at d) (Fs (i*4+d)) Ts:=by have:=hJ.2.2 i d (by omega) (by omega);rwa[cy (by omega)] at this
   have Uk:=ay5 (f:=(λt:bY=>(t.at i).at d)) (v:=(t.at i).at d) (L:=Ts);refine zD 3<|Dk (b:=ba) (off:=0) (len:=3) (sz:=4) (i:Int) (by omega)<|Dk (b:=ba) (off:=0+(i:Int).toNat*4) (len:=4) (sz:=1) (d:Int) (by omega)<|jl (b:=ba) (off:=0+(i:Int).toNat*4+(d:Int).toNat*1) (m:=1) (vs:=[(.map (some rK))]) 0 (jR (.inl ga) (ape (by omega) (by omega) R9))<|zD 3<|Dk (b:=b3) (off:=1) (len:=3) (sz:=4) (i:Int) (by omega)<|Dk (b:=b3) (off:=1+(i:Int).toNat*4) (len:=4) (sz:=1) (d:Int) (by omega)<|yL (b:=b3) (off:=1+(i:Int).toNat*4+(d:Int).toNat*1) (m:=1) (vs:=[zI ((t.at i).at d)]) 0 [3] [(b3,.cells ⟨[zI t.past,zI t.x.a,zI t.x.b,zI t.x.c,zI t.x.d,zI t.y.a,zI t.y.b,zI t.y.c,zI t.y.d,zI t.z.a,zI t.z.b,zI t.z.c,zI t.z.d]⟩ 123 (0,0))] (λs _ hZ=>jR (hZ _ (.head _)) (EU (t:=t) (by omega) (by omega)))<|zxo 11 λtx=>jlu (kv:=BZ) (F:=(Fs (i*4+d))) (r:=rK) (K:=3) ((t.at i).at d) (zI 0) false [1] cB Kz (λs _ hZ=>hB.has hZ)<|eH tx (zN 0 4)<|jw 11 (zI (qJ (λt:bY=>(t.at i).at d) ((t.at i).at d) Ts)) (hCI.look _)<|zW ((qJ (λt:bY=>(t.at i).at d) ((t.at i).at d) Ts)+1)<|zxo 13 λtw=>We (kv:=BZ) (F:=(Fs (i*4+d))) (r:=rK) (K:=3) 1 ((t.at i).at d) (zI ((qJ (λt:bY=>(t.at i).at d) ((t.at i).at d) Ts)+1)) Kz hB λLm5 hm5=>kA tw<|zD 2<|zW ((d:Int)+1)<|zD 2<|zV kU (⟨d+1,(YS Fs (i*4+d) (iS ((t.at i).at d) (zI (qJ (λt:bY=>(t.at i).at d) ((t.at i).at d) Ts+1)) (Fs (i*4+d)))),cA++(Lm5++cC)⟩) ⟨by dsimp only;omega,aHh _ _ hm5,hJ.2.2.step (by omega) (by omega) Yt.2⟩ [[1,0,2],[3]]
  refine zD 3<|zW ((i:Int)+1)<|zD 2<|zF cU (⟨i+1,Fs,L⟩) ⟨hJ.2.1,hJ.2.2.row (by omega)⟩ [0,1]
 refine zD 2<|zR _ [] [0] L ⟨Fs,rfl,hI.2.1,hI.2.2.fin (by omega)⟩
set_option maxHeartbeats 1000000 in
def aQ1 {l:List Value} {K:eX} {P Q R:Int} (hK:nj ro l K) (hV:wj K) (hT:0 <(mj K (allM K.bB.length)).length) (big:atW (PX (mj K (allM K.bB.length))) K.days.toNat K.aS.length (0,0,((mj K (allM K.bB.length)).length:Int))=(P,Q,R)) (eA:R≠((mj K (allM K.bB.length)).length:Int)):Sm zT 51 [.agg ⟨l⟩] ro [] (λr Y=>r= .tuple ⟨[zI P,zI Q,zI R,zI 0]⟩/\Y=[]):=by
 have cU:=hK;obtain⟨vS,vT,vP,vR,vE,fa,fc,rfl,hS,hT,hp,hr,he⟩:=hK;have C3:=hp;have Ys:=he;have zi:=hr;obtain⟨gX,xY,xX,gF,rfl,A2,xk,xj⟩:=hp;obtain⟨gY,yK,yJ,gP,rfl,GQ,xo,xm⟩:=he;have hpp:=hV.VM;have Sc:=hV.days;have yV:=hV.bB;refine Qa bD [] [] de λfr=>zD 2<|jn λb1=>jd 8 [0]<|Qb (vs:=[.agg ⟨[vS,vT,.slice fa 0 fc,.slice gX K.aS.length gF,vR,zI K.days,zI K.stay,.slice gY K.bB.length gP]⟩]) [] (λ_ _ h=>h) (V8 cU hV) ?_;rintro _ cK _ fq ⟨Hb,W,u,ls,ps,rfl,xw,rfl⟩;have HL:=xw.OQ (allM K.bB.length);have MQ:=HL.length_eq;have hI:=xw;have eJ:=hI.r;obtain⟨xs,Jx,xO⟩:=eJ.pe;obtain⟨qi,Yh,Yf,qd,zh,Yg,VI,VH⟩:=xO;obtain⟨es,vK,nJ⟩:=eJ.e;obtain⟨gY,yK,yJ,gP,yV,GQ,xo,xm⟩:=nJ;obtain⟨fO,rh,q9,fb,hle,sV,mR,nN⟩:=eJ.l;obtain⟨gX,xY,xX,gF,Bd,A2,xk,xj⟩:=eJ.p;obtain⟨rE,Zx,Zv,qV,Qv,Zw,VK,VJ⟩:=hI.hh;have hH:cK Hb=some (.cells ⟨[W.a0,W.a1,W.a2,.slice qi xs.length qd,W.a4,zI W.D,zI W.S,.slice gY es.length gP,.slice rE K.hs.length qV,.slice fO ls.length fb,.slice gX ps.length gF]⟩ 113 (0,0)):=by rw[<-zh,<-yV,<-hle,<-Bd,<-Qv];exact eJ.h
 have Yn:=eJ.n3;have Ug:=eJ.e5;have Ee:=eJ.ll;have wm:=eJ.pl;have NK:=hI.d;have Yt:=hI.r.d;refine jg 0 []<|zD 3<|jn λb6=>jd 13 [0]<|jn λb7=>jf [1] [(b6,.cells ⟨[zP Hb]⟩ 103 (0,0))] λro4 rF Uf=>zD 7<|uI<|iz [1,1,1,1,0,1,0,0] [] (λ(zz:Nat×(Nat->Option Nat)×Cells)=>[(2,zI 0),(3,zI 0),(4,zI 0),(5,zI 0),(6,zP b6),(7,zP b7),(24,zI (zz.1:Int))]) (λzz=>[zxc b7 182 [(.map (zz.2.1 0)),(.map (zz.2.1 1)),(.map (zz.2.1 2)),(.map (zz.2.1 3)),(.map (zz.2.1 4)),(.map (zz.2.1 5)),(.map (zz.2.1 6)),(.map (zz.2.1 7)),(.map (zz.2.1 8)),(.map (zz.2.1 9)),(.map (zz.2.1 10)),(.map (zz.2.1 11))],.l zz.2.2,.l fr]) (λzz=>zz.1<=3/\tL zz.2.1 (λ_=>[]) (zz.1*4) zz.2.2) (λzz=>3-zz.1) (⟨0,λ_=>none,[]⟩) ⟨Nat.zero_le _,rfl⟩ [1,0,3] ?_;rintro⟨i,m,Z⟩ hL K1 cU rest;dsimp only at hL;refine zD 5<|zJ 25 ((i:Int) <3) (λh5=>?_) λh5=>?_
 ·
  refine zD 14<|iz [1,1,1,1,0,1,0,0,1,1,0,0,1,1,0,0] [K1] (λ(zz:Nat×(Nat->Option Nat)×Cells)=>[(2,zI 0),(3,zI 0),(4,zI 0),(5,zI 0),(6,zP b6),(7,zP b7),(8,zI (i:Int)),(24,zI (i:Int)),(27,zI (zz.1:Int))]) (λzz=>[zxc b7 182 [(.map (zz.2.1 0)),(.map (zz.2.1 1)),(.map (zz.2.1 2)),(.map (zz.2.1 3)),(.map (zz.2.1 4)),(.map (zz.2.1 5)),(.map (zz.2.1 6)),(.map (zz.2.1 7)),(.map (zz.2.1 8)),(.map (zz.2.1 9)),(.map (zz.2.1 10)),(.map (zz.2.1 11))],.l zz.2.2,.l fr]) (λzz=>zz.1<=4/\tL zz.2.1 (λ_=>[]) (i*4+zz.1) zz.2.2) (λzz=>4-zz.1) (⟨0,m,Z⟩) ⟨Nat.zero_le _,hL.2⟩ [0,1,2] ?_;rintro⟨d,m,Z⟩ hJ K2 kU rest;dsimp only at hJ;refine zD 5<|zJ 28 ((d:Int) <4) (λh6=>?_) λh6=>?_
  ·
   refine zD 12<|jmk BZ λr32 L32 bfK=>Dk (b:=b7) (off:=0) (len:=3) (sz:=4) (i:Int) (by omega)<|Dk (b:=b7) (off:=0+(i:Int).toNat*4) (len:=4) (sz:=1) (d:Int) (by omega)<|jsx 1 b7 (0+(i:Int).toNat*4+(d:Int).toNat*1) [(.map (m 0)),(.map (m 1)),(.map (m 2)),(.map (m 3)),(.map (m 4)),(.map (m 5)),(.map (m 6)),(.map (m 7)),(.map (m 8)),(.map (m 9)),(.map (m 10)),(.map (m 11))] [(.map (some r32))] 182 (by intro v hv;rw[List.mem_singleton] at hv;subst hv;rfl) (aFN (m:=m) (by omega) (by omega)) ?_;refine jmw 0 [zxc b7 182 [(.map ((BK m (i*4+d) r32) 0)),(.map ((BK m (i*4+d) r32) 1)),(.map ((BK m (i*4+d) r32) 2)),(.map ((BK m (i*4+d) r32) 3)),(.map ((BK m (i*4+d) r32) 4)),(.map ((BK m (i*4+d) r32) 5)),(.map ((BK m (i*4+d) r32) 6)),(.map ((BK m (i*4+d) r32) 7)),(.map ((BK m (i*4+d) r32) 8)),(.map ((BK m (i*4+d) r32) 9)),(.map ((BK m (i*4+d) r32) 10)),(.map ((BK m (i*4+d) r32) 11))]] (L:=[(b7,.cells ⟨gZ [(.map (m 0)),(.map (m 1)),(.map (m 2)),(.map (m 3)),(.map (m 4)),(.map (m 5)),(.map (m 6)),(.map (m 7)),(.map (m 8)),(.map (m 9)),(.map (m 10)),(.map (m 11))] (0+(i:Int).toNat*4+(d:Int).toNat*1) [(.map (some r32))]⟩ 182 (0,0))]) (by show [(b7,Obj.cells ⟨gZ (eMs m) (0+(i:Int).toNat*4+(d:Int).toNat*1) [.map (some r32)]⟩ 182 (0,0))]=_;rw[aFM (by omega) (by omega)];rfl) ?_;refine zD 2<|zW ((d:Int)+1)<|zD 2<|zV kU (⟨d+1,(BK m (i*4+d) r32),Z++L32⟩) ⟨by dsimp only;omega,hJ.2.snoc rfl bfK⟩ [[0],[2,1],[3]]
  refine zD 3<|zW ((i:Int)+1)<|zD 2<|zF cU (⟨i+1,m,Z⟩) (by dsimp only;have:=hJ.2;rwa[show i*4+d=(i+1)*4 by omega] at this) [0,1,2]
 refine zD 4<|jf [0] [(b7,.cells ⟨[(.map (m 0)),(.map (m 1)),(.map (m 2)),(.map (m 3)),(.map (m 4)),(.map (m 5)),(.map (m 6)),(.map (m 7)),(.map (m 8)),(.map (m 9)),(.map (m 10)),(.map (m 11))]⟩ 182 (0,0))] λro9 Jz hk8=>jl (b:=b6) (off:=0) (m:=1) (vs:=[zP Hb]) 0 ⟨_,_,_,.inl (Jz _ _ (Uf _ (.head _))),rfl⟩<|zD 2<|jc (vs:=[zP Hb,.agg ⟨[.func (.func 105) ⟨[]⟩ ⟨[zP b6,zP b7]⟩]⟩]) [0] (D5 (f:=105) (fi:=[]) (ca:=[zP b6,zP b7]) (Jn:=λk Y=>∃Fs,tL m Fs 12 Y/\Ya K.aS.length W.D Fs ((iC W.D ls (sx K) K.aS.length ps.length (allM K.bB.length)).take k)) (xw.r.up (rF.trans Jz)) (by kernel_rfl) ⟨λ_=>[],by have:=hL.2;rwa[show i*4=12 by omega] at this,λa b _ _=>CI.nil⟩ (λk x hx bU hs B hB=>by obtain⟨Fs,h1,h2⟩:=hB;exact(aQ2 (xw.r.up ((rF.trans Jz).trans hs)) (hs _ _ (Jz _ _ (Uf _ (.head _)))) (hs _ _ (hk8 _ (.head _))) h1 h2 (by have:=hV.n;rw[List.length_take];omega)).mono λ_ _ ⟨Fs',_,h3,h4⟩=>⟨Fs',h3,h4.next hx⟩) (by rw[MQ];exact hV.n)) ?_;rintro _ Y99 ⟨rfl,yt⟩;simp only[List.take_length] at yt;obtain⟨Fs,hMs,hAC⟩:=yt;refine zD 1<|jf [0] Y99 (λavI Qh Wz=>?_);have hMk:=hMs.kn Wz;refine zD 9<|jl (b:=b6) (off:=0) (m:=1) (vs:=[zP Hb]) 0 ⟨_,_,_,.inl (Qh _ _ (Jz _ _ (Uf _ (.head _)))),rfl⟩<|zD 3<|jl (b:=Hb) (off:=0) (m:=11) (vs:=[W.a0,W.a1,W.a2,.slice qi xs.length qd,W.a4,zI W.D,zI W.S,.slice gY es.length gP,.slice rE K.hs.length qV,.slice fO ls.length fb,.slice gX ps.length gF]) 3 ⟨_,_,_,.inl (Qh _ _ (Jz _ _ (rF _ _ hH))),rfl⟩<|zD 4<|iz [1,1,1,1,1,1,1,0,1,0,0] [] (λ(zz:Nat×Int×Int×Int)=>[(2,zI zz.2.1),(3,zI zz.2.2.1),(4,zI zz.2.2.2),(5,zI 0),(6,zP b6),(7,zP b7),(10,zI ((iC W.D ls (sx K) K.aS.length ps.length (allM K.bB.length)).length:Int)),(47,zI (xs.length:Int)),(48,zI (zz.1:Int))]) (λzz=>[.l fr]) (λzz=>zz.1<=xs.length/\(zz.2.1,zz.2.2.1,zz.2.2.2)=atW (PX (iC W.D ls (sx K) K.aS.length ps.length (allM K.bB.length))) W.D.toNat zz.1 (0,0,((iC W.D ls (sx K) K.aS.length ps.length (allM K.bB.length)).length:Int))) (λzz=>xs.length-zz.1) (⟨0,0,0,((iC W.D ls (sx K) K.aS.length ps.length (allM K.bB.length)).length:Int)⟩) ⟨Nat.zero_le _,rfl⟩ [0] ?_;rintro⟨i,pp,dd,lf⟩ F3 K3 Dq rest;dsimp only at F3;refine zD 5<|zJ 49 ((i:Int) <(xs.length:Int)) (λC9=>?_) λC9=>?_
 ·
  refine zD 11<|jl (b:=b6) (off:=0) (m:=1) (vs:=[zP Hb]) 0 ⟨_,_,_,.inl (Qh _ _ (Jz _ _ (Uf _ (.head _)))),rfl⟩<|zD 3<|jl (b:=Hb) (off:=0) (m:=11) (vs:=[W.a0,W.a1,W.a2,.slice qi xs.length qd,W.a4,zI W.D,zI W.S,.slice gY es.length gP,.slice rE K.hs.length qV,.slice fO ls.length fb,.slice gX ps.length gF]) 5 ⟨_,_,_,.inl (Qh _ _ (Jz _ _ (rF _ _ hH))),rfl⟩<|zD 3<|iz [1,1,1,1,1,1,1,0,1,0,0,1,1,0,0,1,1,0,0] [K3] (λ(zz:Nat×Int×Int×Int)=>[(2,zI zz.2.1),(3,zI zz.2.2.1),(4,zI zz.2.2.2),(5,zI 0),(6,zP b6),(7,zP b7),(10,zI ((iC W.D ls (sx K) K.aS.length ps.length (allM K.bB.length)).length:Int)),(11,zI (i:Int)),(47,zI (xs.length:Int)),(48,zI (i:Int)),(55,zI W.D),(56,zI (zz.1:Int))]) (λzz=>[.l fr]) (λzz=>(zz.1:Int)<=W.D/\(zz.2.1,zz.2.2.1,zz.2.2.2)=atX (PX (iC W.D ls (sx K) K.aS.length ps.length (allM K.bB.length))) i zz.1 (atW (PX (iC W.D ls (sx K) K.aS.length ps.length (allM K.bB.length))) W.D.toNat i (0,0,((iC W.D ls (sx K) K.aS.length ps.length (allM K.bB.length)).length:Int)))) (λzz=>W.D.toNat-zz.1) (⟨0,pp,dd,lf⟩) ⟨by dsimp only;omega,F3.2⟩ [0] ?_;rintro⟨d,pp,dd,lf⟩ hJ K4 hK4 rest;dsimp only at hJ;refine zD 5<|zJ 57 ((d:Int) <W.D) (λh14=>?_) λh14=>?_
  ·
   refine zD 15 ?_;obtain⟨rK,esK,ckK,R9,hrK,hEK⟩:=hMk (i*4+d) (by omega);have hCI:=hAC i d (by omega) (by omega);refine zD 3<|Dk (b:=b7) (off:=0) (len:=3) (sz:=4) (i:Int) (by omega)<|Dk (b:=b7) (off:=0+(i:Int).toNat*4) (len:=4) (sz:=1) (d:Int) (by omega)<|jl (b:=b7) (off:=0+(i:Int).toNat*4+(d:Int).toNat*1) (m:=1) (vs:=[(.map (some rK))]) 0 (jR (.inl (Qh _ _ (hk8 _ (.head _)))) (ape (by omega) (by omega) R9))<|jmR hrK λr64=>jg 0 [.b r64 (vi rK ckK [])]<|zD 2<|iz [1,1,1,1,1,1,1,0,1,0,0,1,1,0,0,1,1,0,0,1,1,0,0,1,1,0,1,0,0] [K3,K4] (λ(zz:(List Nat)×Int)=>[(2,zI pp),(3,zI dd),(4,zI lf),(5,zI 0),(6,zP b6),(7,zP b7),(10,zI ((iC W.D ls (sx K) K.aS.length ps.length (allM K.bB.length)).length:Int)),(11,zI (i:Int)),(12,zI (d:Int)),(13,zI zz.2),(47,zI (xs.length:Int)),(48,zI (i:Int)),(55,zI W.D),(56,zI (d:Int)),(64,zP r64)]) (λzz=>[.b r64 (vi rK ckK zz.1),.l fr]) (λzz=>XY esK zz.1 (Fs (i*4+d)) zz.2) (λzz=>(gq esK zz.1).length) (⟨[],0⟩) XY.start [0,1] ?_;rintro⟨seen,mo⟩ hM K5 hK5 rest;dsimp only at hM;refine zD 2<|jmN (it:=r64) (kv:=BZ) (seen:=seen) 0 hrK hEK (λk65 v65 e65 aTk aIc bf2 aR4=>?_) (λbei=>?_)
   ·
    have hvl:=hCI.val _ aTk;dsimp only at hvl;subst hvl;refine jg 0 [.b r64 (vi rK ckK (seen++[e65.born]))]<|zD 8<|jmE (it:=r64) 0 hrK hEK aIc bf2 aR4<|jg 0 [.b r64 (vi rK ckK (seen++[e65.born]))]<|zD 6<|jmx (k:= .i64) (a:=mo) (b:=(qJ (λt:bY=>(t.at i).at d) k65 (iC W.D ls (sx K) K.aS.length ps.length (allM K.bB.length))))<|zD 2<|dX hK5 (⟨(seen++[e65.born]),(max mo (qJ (λt:bY=>(t.at i).at d) k65 (iC W.D ls (sx K) K.aS.length ps.length (allM K.bB.length))))⟩) (hM.step hEK aIc aR4 aTk) (Bc aIc) [0,1] (Sub.refl _)
   refine jg 0 [.b r64 (vi rK ckK seen)]<|zD 6 ?_;have hmo:mo=PX (iC W.D ls (sx K) K.aS.length ps.length (allM K.bB.length)) i d:=hM.fin hEK bei hCI;refine zD 5<|zJ 74 (mo <lf) (λNN=>?_) λNN=>?_
   ·
    refine zD 10<|zW ((d:Int)+1)<|zD 2<|zF hK4 (⟨d+1,(i:Int),(d:Int),mo⟩) (by dsimp only;rw[atX,<-hJ.2];simp only[anm,<-hmo];rw[decide_eq_true (by assumption)];rfl) [1]
   refine zD 3<|zW ((d:Int)+1)<|zD 2<|zF hK4 (⟨d+1,pp,dd,lf⟩) (by dsimp only;rw[atX,<-hJ.2];simp only[anm,<-hmo];rw[decide_eq_false (by assumption)];rfl) [1]
  refine zD 3<|zW ((i:Int)+1)<|zD 2<|zF Dq (⟨i+1,pp,dd,lf⟩) (by dsimp only;rw[atW,hJ.2,show d=W.D.toNat by omega]) [0]
 refine zD 4 ?_;have rq:(pp,dd,lf)=(P,Q,R):=by rw[F3.2,show i=K.aS.length by omega,aec HL,MQ,NK];exact big
 simp only[bL] at rq;refine zD 4<|js 82 (decide (((iC W.D ls (sx K) K.aS.length ps.length (allM K.bB.length)).length:Int)=0)) (λh16=>?_) (λh16=>?_)
 ·
  have ash:=h16;replace ash:=ah ash;exfalso;omega
 have ash:=h16;replace ash:=af ash;refine zD 5<|zJ 86 (lf=((iC W.D ls (sx K) K.aS.length ps.length (allM K.bB.length)).length:Int)) (λh17=>?_) λh17=>?_
 ·
  exfalso;omega
 refine zD 13<|jrC qC.a.a.a.a (.tuple ⟨[zI pp,zI dd,zI lf,zI 0]⟩) [0] [] (((fq.trans rF).trans Jz).trans Qh) ⟨by rw[rq.1,rq.2.1,rq.2.2],rfl⟩
def az9(s:ByteArray)(n d:Int):fN:=⟨s,0,n,0,false,d,d⟩
def De:ByteArray:=bs [97,110,110,97]
def Cm:ByteArray:=bs [98,101,110]
def rk(more:List fN):eX:=⟨[[⟨1,0⟩,⟨2,0⟩]],[[⟨1,0,0,0,0,0,0⟩,⟨2,0,0,0,0,0,0⟩]],[De,Cm],[],2,1,[az9 De 1 0,⟨Cm,0,1,0,true,1,1⟩]++more⟩
def aKn{n:Int}:iI zT 53 [zI n] ro (.agg ⟨[zI 0,zI n,zI 0]⟩):=by
 refine zE<|zD 2<|jn λb2=>jd 9 [0]<|zR _ [0] [] [] ⟨rfl,rfl⟩
def atL{s:ByteArray}{n d:Int}:iI zT 13 [.string s,zI n,zI d] ro (.agg ⟨[.string s,zI 0,zI n,zI 0,.bool false,zI d,zI d]⟩):=by
 refine zE<|zD 2<|jn λb6=>zD 5<|zxp [zI n] (λhs=>aKn)<|jd 6 [0]<|zR _ [0] [] [] ⟨rfl,rfl⟩
def adl{b c:Nat}(h1:ro c=some (.cells ⟨[zI 1,zI 0,zI 2,zI 0]⟩ 39 (0,0)))(h2:ro b=some (.cells ⟨[.slice (some ⟨c,0,none⟩) 2 2]⟩ 98 (0,0))):bH ro (.slice (some ⟨b,0,none⟩) 1 1) [[⟨1,0⟩,⟨2,0⟩]]:=
 ⟨[.slice (some ⟨c,0,none⟩) 2 2],eZ [_] h2 (λ_ _=>rfl),.cons (eZ [(⟨1,0⟩:au),⟨2,0⟩] h1 (λ_ _=>rfl)) .nil⟩
def adn{b c:Nat}(h1:ro c=some (.cells ⟨[zI 1,zI 0,zI 0,zI 0,zI 0,zI 0,zI 0,zI 2,zI 0,zI 0,zI 0,zI 0,zI 0,zI 0]⟩ 100 (0,0)))(h2:ro b=some (.cells ⟨[.slice (some ⟨c,0,none⟩) 2 2]⟩ 82 (0,0))):ku ro (.slice (some ⟨b,0,none⟩) 1 1) [[⟨1,0,0,0,0,0,0⟩,⟨2,0,0,0,0,0,0⟩]]:=
 ⟨[.slice (some ⟨c,0,none⟩) 2 2],eZ [_] h2 (λ_ _=>rfl),.cons (eZ [(⟨1,0,0,0,0,0,0⟩:aT),⟨2,0,0,0,0,0,0⟩] h1 (λ_ _=>rfl)) .nil⟩
def aKT(ro:Nat->Option Obj)(bS bT:Nat)(a:Option Addr)(n c:Nat)(more:List fN):Prop:=bH ro (.slice (some ⟨bS,0,none⟩) 1 1) (rk more).str/\ku ro (.slice (some ⟨bT,0,none⟩) 1 1) (rk more).ways/\dk ro (.slice a n c) 7 rB (rk more).bB
def aQC(bS bT bP:Nat)(a:Option Addr)(n c:Nat):List Value:=[.slice (some ⟨bS,0,none⟩) 1 1,.slice (some ⟨bT,0,none⟩) 1 1,zS,.slice (some ⟨bP,0,none⟩) 2 2,zS,zI 2,zI 1,.slice a n c]
def aKT.lod{bS bT bP:Nat}{a:Option Addr}{c:Nat}{more:List fN}(h:aKT ro bS bT a n c more)(hP:ro bP=some (.cells ⟨[.string De,.string Cm]⟩ 9 (0,0))):nj ro (aQC bS bT bP a n c) (rk more):=
 ⟨_,_,_,_,_,none,0,rfl,h.1,h.2.1,eZ [De,Cm] hP (λ_ _=>rfl),dk.nil _ _ _ _ _,h.2.2⟩
def Rp{v:Value}{more:List fN}{ro:Nat->Option Obj}(hm:dk ro v 7 rB more)(hn:more.length<=3):eT zT 10 [v] ro [] (λr Y=>∃bS bT bP a n c Z,r= .agg ⟨aQC bS bT bP a n c⟩/\Y=(bP,.cells ⟨[.string De,.string Cm]⟩ 9 (0,0))::Z/\∀bU,Knows bU Z->aKT bU bS bT a n c more):=by
 obtain⟨qma,qmb,qmo,qmc,rfl,qmk,qmh,qml⟩:=hm;refine zE<|zD 2<|jn λb2=>zD 5<|jn λb7=>jn λb8=>zD 3<|jn λDd=>zD 1<|jn λb14=>zD 1<|jn λb3=>jd 4 [0]<|zxp [.string (bs [98,101,110]),zI 1,zI 1] (λhs=>atL)<|jn λb4=>jd 12 [0,0,1,0]<|zxp [.string (bs [97,110,110,97]),zI 1,zI 0] (λhs=>atL)<|vg [1,4] ⟨λ_ _ tx=>?_,λ_ _ KX=>?_,trivial⟩
 ·
  refine jn λEI=>eH tx (zN 1 7)<|zxo 4 λKW=>jn λb22=>eH KW (zN 1 8)<|zxo 6 λWJ=>zxk rB 0 qmc (gR (b:=b22) (T:=43) [(⟨(bs [97,110,110,97]),0,1,0,false,0,0⟩:fN),(⟨(bs [98,101,110]),0,1,0,true,1,1⟩:fN)] rfl (by intro p hp;rfl)) qmh qml (λVh Ve L24 ym=>?_) (hb:=by simp only[aJ,aO];omega);refine ee WJ [[3]]<|zD 1<|zxo 8 λhL9=>jd 1 [8]<|kA hL9<|zD 2<|zR (.agg ⟨[.slice (some ⟨b8,0,none⟩) 1 1,.slice (some ⟨b14,0,none⟩) 1 1,zS,.slice (some ⟨EI,0,none⟩) 2 2,zS,zI 2,zI 1,(.slice Vh (([(⟨(bs [97,110,110,97]),0,1,0,false,0,0⟩:fN),(⟨(bs [98,101,110]),0,1,0,true,1,1⟩:fN)]++more)).length Ve)]⟩) [8] [1,0,6,7,4,5] ((EI,.cells ⟨[.string (bs [97,110,110,97]),.string (bs [98,101,110])]⟩ 9 (0,0))::(L24++((b8,.cells ⟨[.slice (some ⟨b7,0,none⟩) 2 2]⟩ 98 (0,0))::((b7,.cells ⟨[zI 1,zI 0,zI 2,zI 0]⟩ 39 (0,0))::((b14,.cells ⟨[.slice (some ⟨Dd,0,none⟩) 2 2]⟩ 82 (0,0))::[(Dd,.cells ⟨[zI 1,zI 0,zI 0,zI 0,zI 0,zI 0,zI 0,zI 2,zI 0,zI 0,zI 0,zI 0,zI 0,zI 0]⟩ 100 (0,0))]))))) ⟨b8,b14,EI,_,_,_,_,rfl,rfl,λbU hk=>⟨adl (hk.right _ (.tail _ (.head _))) (hk.right _ (.head _)),adn (hk.right _ (.tail _ (.tail _ (.tail _ (.head _))))) (hk.right _ (.tail _ (.tail _ (.head _)))),ym.ju hk.left⟩⟩
 refine jn λb22=>eH KX (zN 1 7)<|vg [1,6] ⟨λ_ _ WW=>?_,λ_ _ WV=>?_,trivial⟩
 ·
  refine jn λEI=>eH WW (zN 1 8)<|zxo 6 λHl=>zxk rB 1 qmc (gR (b:=b22) (T:=43) [(⟨(bs [97,110,110,97]),0,1,0,false,0,0⟩:fN),(⟨(bs [98,101,110]),0,1,0,true,1,1⟩:fN)] rfl (by intro p hp;rfl)) qmh qml (λVh Ve L24 ym=>?_) (hb:=by simp only[aJ,aO];omega);refine ee Hl [[3]]<|zD 1<|zxo 8 λHk=>jd 1 [8]<|kA Hk<|zD 2<|zR (.agg ⟨[.slice (some ⟨b8,0,none⟩) 1 1,.slice (some ⟨b14,0,none⟩) 1 1,zS,.slice (some ⟨EI,0,none⟩) 2 2,zS,zI 2,zI 1,(.slice Vh (([(⟨(bs [97,110,110,97]),0,1,0,false,0,0⟩:fN),(⟨(bs [98,101,110]),0,1,0,true,1,1⟩:fN)]++more)).length Ve)]⟩) [8] [1,0,6,7,4,5] ((EI,.cells ⟨[.string (bs [97,110,110,97]),.string (bs [98,101,110])]⟩ 9 (0,0))::(L24++((b8,.cells ⟨[.slice (some ⟨b7,0,none⟩) 2 2]⟩ 98 (0,0))::((b7,.cells ⟨[zI 1,zI 0,zI 2,zI 0]⟩ 39 (0,0))::((b14,.cells ⟨[.slice (some ⟨Dd,0,none⟩) 2 2]⟩ 82 (0,0))::[(Dd,.cells ⟨[zI 1,zI 0,zI 0,zI 0,zI 0,zI 0,zI 0,zI 2,zI 0,zI 0,zI 0,zI 0,zI 0,zI 0]⟩ 100 (0,0))]))))) ⟨b8,b14,EI,_,_,_,_,rfl,rfl,λbU hk=>⟨adl (hk.right _ (.tail _ (.head _))) (hk.right _ (.head _)),adn (hk.right _ (.tail _ (.tail _ (.tail _ (.head _))))) (hk.right _ (.tail _ (.tail _ (.head _)))),ym.ju hk.left⟩⟩
 refine zxk rB 0 qmc (gR (b:=b22) (T:=43) [(⟨(bs [97,110,110,97]),0,1,0,false,0,0⟩:fN),(⟨(bs [98,101,110]),0,1,0,true,1,1⟩:fN)] rfl (by intro p hp;rfl)) qmh qml (λVh Ve L24 ym=>?_) (hb:=by simp only[aJ,aO];omega);refine ee WV [[2]]<|zxo 1 λWU=>jn λEI=>eH WU (zN 1 8)<|zD 1<|zxo 8 λKY=>jd 1 [8]<|kA KY<|zD 2<|zR (.agg ⟨[.slice (some ⟨b8,0,none⟩) 1 1,.slice (some ⟨b14,0,none⟩) 1 1,zS,.slice (some ⟨EI,0,none⟩) 2 2,zS,zI 2,zI 1,(.slice Vh (([(⟨(bs [97,110,110,97]),0,1,0,false,0,0⟩:fN),(⟨(bs [98,101,110]),0,1,0,true,1,1⟩:fN)]++more)).length Ve)]⟩) [8] [0,1,6,7,4,5] ((EI,.cells ⟨[.string (bs [97,110,110,97]),.string (bs [98,101,110])]⟩ 9 (0,0))::(L24++((b8,.cells ⟨[.slice (some ⟨b7,0,none⟩) 2 2]⟩ 98 (0,0))::((b7,.cells ⟨[zI 1,zI 0,zI 2,zI 0]⟩ 39 (0,0))::((b14,.cells ⟨[.slice (some ⟨Dd,0,none⟩) 2 2]⟩ 82 (0,0))::[(Dd,.cells ⟨[zI 1,zI 0,zI 0,zI 0,zI 0,zI 0,zI 0,zI 2,zI 0,zI 0,zI 0,zI 0,zI 0,zI 0]⟩ 100 (0,0))]))))) ⟨b8,b14,EI,_,_,_,_,rfl,rfl,λbU hk=>⟨adl (hk.right _ (.tail _ (.head _))) (hk.right _ (.head _)),adn (hk.right _ (.tail _ (.tail _ (.tail _ (.head _))))) (hk.right _ (.tail _ (.tail _ (.head _)))),ym.ju hk.left⟩⟩
abbrev eB1:fN:=az9 Cm 1 0
abbrev aWa(K:eX):Int:=allM K.bB.length
def ao7:nz De:=⟨⟨by decide,by decide⟩,.inl (show ∀b∈([97,110,110,97]:List UInt8),Iv b=true by decide)⟩
def ad9:nz Cm:=⟨⟨by decide,by decide⟩,.inl (show ∀b∈([98,101,110]:List UInt8),Iv b=true by decide)⟩
def aPz:cq [[⟨1,0⟩,⟨2,0⟩]]:=⟨by decide,by simp,by decide,by intro l h;simp at h;subst h;simp[p8],by intro l h;simp at h;subst h;simp[mL]⟩
def aNa:qv [[⟨1,0⟩,⟨2,0⟩]] [[⟨1,0,0,0,0,0,0⟩,⟨2,0,0,0,0,0,0⟩]]:=⟨by decide,λl h=>by
 simp only[aU] at h;subst h;refine⟨by decide,λc hc=>?_⟩;simp only[aN,fF,aZ] at hc;rcases hc with rfl|rfl<;>exact⟨by decide,by decide,λh=>by simp at h,λ_=>rfl,λ_=>⟨rfl,rfl⟩,λ_=>⟨rfl,rfl⟩⟩⟩
def aQD{more:List fN}(hm:more.length<=3/\∀x∈more,nz x.name)(he:ZT (rk more)=0)(hn:Nat.ble (mj (rk more) (aWa (rk more))).length 1000000=true):wj (rk more) where
 c:={
  xp:=aPz
  ways:=aNa
  h3:=show (aH [[⟨1,0⟩,⟨2,0⟩]]).length<=3 by decide
  ne:=show 1<=(eY [[⟨1,0⟩,⟨2,0⟩]] [[⟨1,0,0,0,0,0,0⟩,⟨2,0,0,0,0,0,0⟩]]).length from cP (by kernel_rfl)
  rules:=⟨by simp[rk],by simp[rk]⟩
  aS:=⟨show [De,Cm].length<=1000 by decide,λw (hw:w∈[De,Cm])=>by
   simp only[aN,fF,aZ] at hw;rcases hw with rfl|rfl
   .exact ao7
   exact ad9⟩
  bB:=⟨by simp[rk];omega,λx hx=>by
   simp only[rk,dK,aY,aN] at hx;rcases hx with rfl|rfl|hx
   .exact ao7
   .exact ad9
   exact hm.2 x hx⟩}
 e:=he
 n:=cP hn
def k0v:wj (rk []):=aQD ⟨by simp,by simp⟩ (by kernel_rfl) (by kernel_rfl)
def bdO:wj (rk [eB1]):=aQD ⟨by simp,λy hy=>by rw[aU] at hy;subst hy;exact ad9⟩ (by kernel_rfl) (by kernel_rfl)
abbrev L0:List bY:=mj (rk []) (aWa (rk []))
theorem SG:L0.length=8:=by kernel_rfl
section
variable {ro:Nat->Option Obj} {l:List Value}
abbrev auh(f:FuncId)(vs:List Value)(ro:Nat->Option Obj)(ds:List Int):Prop:=Sm zT f vs ro [] (λr Y=>∃v,r= .tuple ⟨[v,zI 0]⟩/\bI v 1 3 eC ds Y)
abbrev aWi(f:FuncId)(vs:List Value)(ro:Nat->Option Obj)(v:Value):Prop:=Sm zT f vs ro [] (λr Y=>r=v/\Y=[])
def bb6(hK:nj ro l (rk [])):aWi (f:=26) [.agg ⟨l⟩] ro (.tuple ⟨[zI 8,zI 0]⟩):=(P6 hK k0v).mono λ_ _ h=>⟨by rw[h.1,show ((mj (rk []) (allM (rk []).bB.length)).length:Int)=8 by rw[SG];rfl],h.2⟩
def apG:0 <(mj (rk []) (allM (rk []).bB.length)).length:=by rw[SG];decide
def ajl(hK:nj ro l (rk [])):auh (f:=14) [.agg ⟨l⟩,zI 1,zI 1] ro [0,1]:=
 (show Sm zT 14 [.agg ⟨l⟩,zI ((1:Nat):Int),zI ((1:Nat):Int)] ro [] _ from aw0 (p:=1) (d:=1) (ds:=[0,1]) hK k0v (by decide) (by decide) apG ⟨by decide,by kernel_rfl,by kernel_rfl⟩ (by decide)).mono λ_ _ ⟨v,zs,h1,h2,h3⟩=>⟨v,h1,by rw[<-show wS zs=[0,1] by rcases E3 h2 with e|e<;>rw[e]<;>rfl];exact h3⟩
def avY(hK:nj ro l (rk [])):auh (f:=15) [.agg ⟨l⟩,zI 0,zI 1] ro [-1,0,1]:=
 (show Sm zT 15 [.agg ⟨l⟩,zI ((0:Nat):Int),zI ((1:Nat):Int)] ro [] _ from aQM (p:=0) (d:=1) (ds:=[-1,0,1]) hK k0v (show 0 <(aH [[⟨1,0⟩,⟨2,0⟩]]).length by decide) (by decide) apG ⟨by decide,by kernel_rfl,by kernel_rfl⟩ (by decide)).mono λ_ _ ⟨v,zs,h1,h2,h3⟩=>⟨v,h1,by rw[<-show wS zs=[-1,0,1] by rcases adY h2 with e|e|e|e|e|e<;>rw[e]<;>rfl];exact h3⟩
def an5(hK:nj ro l (rk [eB1])):auh (f:=22) [.agg ⟨l⟩] ro [0]:=(show asJ (amK (rk [eB1])) (rk [eB1]).bB.length=[0] by kernel_rfl)▸awY hK bdO
def aO9(hK:nj ro l (rk [])):aWi (f:=51) [.agg ⟨l⟩] ro (.tuple ⟨[zI 0,zI 1,zI 4,zI 0]⟩):=aQ1 (P:=0) (Q:=1) (R:=4) hK k0v apG (by kernel_rfl) (by rw[SG];decide)
end
theorem abN:∀xs:List Int,eqI xs xs=true
 | []=>rfl
 |x::xs=>by rw[eqI,abN xs];simp
def afK{v w:Value}(hv:dk ro v 1 eC xs)(hw:dk ro w 1 eC xs)(hx:xs.length<=1000):iI zT 16 [v,w] ro (.bool true):=by
 have:=aVo hv hw hx hx;rwa[abN] at this
set_option maxHeartbeats 1000000 in
def atM:Sm zT 11 [] ro [] (λr Y=>r= .bool true/\Y=[]):=by
 refine Qa bD [] [] de λfr=>zD 6<|jc (vs:=[zS]) [] (Rp (more:=[]) (dk.nil _ _ _ _ _) (by decide)) ?_;rintro _ _ ⟨aVV,aVQ,azm,aVj,aU3,aVd,Z14,rfl,rfl,bhs⟩;refine jg 0 [zxc azm 9 [.string De,.string Cm],.l Z14]<|jf [0,1] ((azm,.cells ⟨[.string De,.string Cm]⟩ 9 (0,0))::Z14) (λAD fq iu=>?_);have bhV:nj AD [.slice (some ⟨aVV,0,none⟩) 1 1,.slice (some ⟨aVQ,0,none⟩) 1 1,zS,.slice (some ⟨azm,0,none⟩) 2 2,zS,zI 2,zI 1,.slice aVj aU3 aVd] (rk []):=(bhs _ (Knows.tail iu)).lod (iu _ (.head _));refine jcC (vs:=[.agg ⟨[(.slice (some ⟨aVV,0,none⟩) 1 1),(.slice (some ⟨aVQ,0,none⟩) 1 1),zS,.slice (some ⟨azm,0,none⟩) 2 2,zS,zI 2,zI 1,.slice aVj aU3 aVd]⟩]) [] (λ_ _ h=>h) (bb6 bhV) ?_;rintro _ _ ⟨rfl,rfl⟩;refine jg 0 []<|zD 8<|jc (vs:=[zS]) [] (Rp (more:=[]) (dk.nil _ _ _ _ _) (by decide)) ?_;rintro _ _ ⟨aVU,aVP,azl,aVi,aU2,aVc,Z19,rfl,rfl,bhr⟩;refine jg 0 [zxc azl 9 [.string De,.string Cm],.l Z19]<|jf [0,1] ((azl,.cells ⟨[.string De,.string Cm]⟩ 9 (0,0))::Z19) (λro6 yj hk5=>?_);have bhU:nj ro6 [.slice (some ⟨aVU,0,none⟩) 1 1,.slice (some ⟨aVP,0,none⟩) 1 1,zS,.slice (some ⟨azl,0,none⟩) 2 2,zS,zI 2,zI 1,.slice aVi aU2 aVc] (rk []):=(bhr _ (Knows.tail hk5)).lod (hk5 _ (.head _));refine jcC (vs:=[.agg ⟨[(.slice (some ⟨aVU,0,none⟩) 1 1),(.slice (some ⟨aVP,0,none⟩) 1 1),zS,.slice (some ⟨azl,0,none⟩) 2 2,zS,zI 2,zI 1,.slice aVi aU2 aVc]⟩,zI 1,zI 1]) [] (λ_ _ h=>h) (ajl bhU) ?_;rintro _ L20 ⟨v20,rfl,aa4⟩;obtain⟨JU,JO,WC⟩:=aa4.form;subst WC;refine zD 8<|jc (vs:=[zS]) [] (Rp (more:=[]) (dk.nil _ _ _ _ _) (by decide)) ?_;rintro _ _ ⟨aVT,aVO,azk,aVh,aU1,aVb,Z24,rfl,rfl,bhq⟩;refine jg 0 [zxc azk 9 [.string De,.string Cm],.l Z24]<|jf [0,1] ((azk,.cells ⟨[.string De,.string Cm]⟩ 9 (0,0))::Z24) (λro9 Jz hk8=>?_);have bhT:nj ro9 [.slice (some ⟨aVT,0,none⟩) 1 1,.slice (some ⟨aVO,0,none⟩) 1 1,zS,.slice (some ⟨azk,0,none⟩) 2 2,zS,zI 2,zI 1,.slice aVh aU1 aVb] (rk []):=(bhq _ (Knows.tail hk8)).lod (hk8 _ (.head _));refine jcC (vs:=[.agg ⟨[(.slice (some ⟨aVT,0,none⟩) 1 1),(.slice (some ⟨aVO,0,none⟩) 1 1),zS,.slice (some ⟨azk,0,none⟩) 2 2,zS,zI 2,zI 1,.slice aVh aU1 aVb]⟩,zI 0,zI 1]) [] (λ_ _ h=>h) (avY bhT) ?_;rintro _ L25 ⟨v25,rfl,axU⟩;obtain⟨amF,amz,aq8⟩:=axU.form;subst aq8;refine zD 8<|zxp [.string (bs [98,101,110]),zI 1,zI 0] (λhs=>atL)<|jn λb30=>jcL (vs:=[.slice (some ⟨b30,0,none⟩) 1 1]) [] [0] [(b30,.cells ⟨([(⟨(bs [98,101,110]),0,1,0,false,0,0⟩:fN)].map rB).flatten⟩ 43 (0,0))] (λcK hs hZ=>Rp (more:=[(⟨(bs [98,101,110]),0,1,0,false,0,0⟩:fN)]) (eZ [(⟨(bs [98,101,110]),0,1,0,false,0,0⟩:fN)] hZ.head (by intro p hp;rfl)) (by decide)) ?_;rintro _ _ ⟨aVS,aVN,azj,aVg,aU0,aVa,Z31,rfl,rfl,bhp⟩;refine jg 0 [zxc azj 9 [.string De,.string Cm],.l Z31]<|jf [0,1] ((azj,.cells ⟨[.string De,.string Cm]⟩ 9 (0,0))::Z31) (λavI Qh Wz=>?_);have bhS:nj avI [.slice (some ⟨aVS,0,none⟩) 1 1,.slice (some ⟨aVN,0,none⟩) 1 1,zS,.slice (some ⟨azj,0,none⟩) 2 2,zS,zI 2,zI 1,.slice aVg aU0 aVa] (rk [eB1]):=(bhp _ (Knows.tail Wz)).lod (Wz _ (.head _));refine jcC (vs:=[.agg ⟨[(.slice (some ⟨aVS,0,none⟩) 1 1),(.slice (some ⟨aVN,0,none⟩) 1 1),zS,.slice (some ⟨azj,0,none⟩) 2 2,zS,zI 2,zI 1,.slice aVg aU0 aVa]⟩]) [] (λ_ _ h=>h) (an5 bhS) ?_;rintro _ L32 ⟨v32,rfl,aSF⟩;obtain⟨aDN,aDG,aIh⟩:=aSF.form;subst aIh;refine zD 8<|jc (vs:=[zS]) [] (Rp (more:=[]) (dk.nil _ _ _ _ _) (by decide)) ?_;rintro _ _ ⟨aVR,aVM,azi,aVf,aUZ,aU9,Z36,rfl,rfl,bho⟩;refine jg 0 [zxc azi 9 [.string De,.string Cm],.l Z36]<|jf [0,1] ((azi,.cells ⟨[.string De,.string Cm]⟩ 9 (0,0))::Z36) (λaOz aHa aeX=>?_);have bhR:nj aOz [.slice (some ⟨aVR,0,none⟩) 1 1,.slice (some ⟨aVM,0,none⟩) 1 1,zS,.slice (some ⟨azi,0,none⟩) 2 2,zS,zI 2,zI 1,.slice aVf aUZ aU9] (rk []):=(bho _ (Knows.tail aeX)).lod (aeX _ (.head _));refine jcC (vs:=[.agg ⟨[(.slice (some ⟨aVR,0,none⟩) 1 1),(.slice (some ⟨aVM,0,none⟩) 1 1),zS,.slice (some ⟨azi,0,none⟩) 2 2,zS,zI 2,zI 1,.slice aVf aUZ aU9]⟩]) [] (λ_ _ h=>h) (aO9 bhR) ?_;rintro _ _ ⟨rfl,rfl⟩;refine jg 0 []<|zD 48<|jn λb78=>jp (vs:=[(.slice JU ([0,1]:List Int).length JO),.slice (some ⟨b78,0,none⟩) 2 2]) [4,0] (L20++[(b78,.cells ⟨([0,1].map eC).flatten⟩ 3 (0,0))]) (λcK hs hZ=>afK (aa4.ju hZ.left) (eZ [0,1] hZ.right.head (by intro p hp;rfl)) (by decide)) ?_;refine zD 3<|jn λb83=>jp (vs:=[(.slice amF ([-1,0,1]:List Int).length amz),.slice (some ⟨b83,0,none⟩) 3 3]) [4,0] (L25++[(b83,.cells ⟨([(-1),0,1].map eC).flatten⟩ 3 (0,0))]) (λcK hs hZ=>afK (axU.ju hZ.left) (eZ [(-1),0,1] hZ.right.head (by intro p hp;rfl)) (by decide)) ?_;refine zD 3<|jn λb88=>jp (vs:=[(.slice aDN ([0]:List Int).length aDG),.slice (some ⟨b88,0,none⟩) 1 1]) [3,0] (L32++[(b88,.cells ⟨([0].map eC).flatten⟩ 3 (0,0))]) (λcK hs hZ=>afK (aSF.ju hZ.left) (eZ [0] hZ.right.head (by intro p hp;rfl)) (by decide)) ?_;refine zD 4<|jrC qC.a.a.a.a.a (.bool true) [7] [] ((((fq.trans yj).trans Jz).trans Qh).trans aHa) ⟨rfl,rfl⟩
structure aCZ(n:Int)(K:eX)(is:List Int):Prop where
 past:U0 K.str K.ways
 pick:Jp is
 VM:K.aS=is.map iX
 room:is.length<=3/\(is.length*(aH K.str).length<=4\/((aH K.str).length=3/\is.length<=2/\K.days<=2))
 rl:K.rules.length<=2/\∀r∈K.rules,wh r
 days:(1<=K.days/\K.days<=n)/\1<=K.stay/\K.stay<=K.days
 bB:K.bB=[]
def share_4{h:Nat}(h1:1<=h/\h<=3)(hp:(p:Int)<=min (3:Int) (Int.tdiv 4 (h:Int))):p*h<=4:=by
 have:h=1\/h=2\/h=3:=by omega
 rcases this with rfl|rfl|rfl
 .rw[show min (3:Int) (Int.tdiv 4 ((1:Nat):Int))=3 by decide] at hp;omega
 .rw[show min (3:Int) (Int.tdiv 4 ((2:Nat):Int))=2 by decide] at hp;omega
 rw[show min (3:Int) (Int.tdiv 4 ((3:Nat):Int))=1 by decide] at hp;omega
def aEK:∀r∈[(⟨bs [121],bs [105]⟩:fR),⟨bs [110,110],bs [110]⟩],wh r:=λr h=>by
 simp only[aN,fF,aZ] at h;rcases h with rfl|rfl
 .exact adC ⟨by simp[ah5],by simp[toW]⟩
 exact adC ⟨by simp[ah5],by simp[toW]⟩
set_option maxHeartbeats 1000000 in
def aKc {d:Nat} {X:Cells} {vd:Value} {xs:List Int} {n:Int} {ro:Nat->Option Obj} (hN:Dn ro vd xs) (hD:eL vd xs d X) (hn:2<=n/\n<=4):eT zT 88 [zP d,zI n] ro X (λr Y=>∃a0 n0 c0 a1 n1 c1 fa fc pa pn pc ra rn rc D Sz K is Z X',r= .agg ⟨[.slice a0 n0 c0,.slice a1 n1 c1,.slice fa 0 fc,.slice pa pn pc,.slice ra rn rc,zI D,zI Sz,zS]⟩/\(∀bU,Knows bU Z->nj bU [.slice a0 n0 c0,.slice a1 n1 c1,.slice fa 0 fc,.slice pa pn pc,.slice ra rn rc,zI D,zI Sz,zS] K)/\(aCZ n K is/\D=K.days/\Sz=K.stay)/\Y=Z++X'/\eL vd xs d X'):=by
 refine zC [.l X]<|zD 2<|jn λb4=>zD 4<|jc [1] (aCu hN hD) ?_;rintro _ _ ⟨a0,n0,c0,a1,n1,c1,fa,fc,S,ways,Z8,X8,rfl,hZ8,hPS,rfl,hD8⟩;have hPl:=hPS.xp;have hh3:=hPl.2;have hsh:=Ze hh3;refine jg 0 [.l Z8,.l X8]<|zD 1<|jc (vs:=[zP d,zI 2]) [1] (ati hN hD8 (by decide)) ?_;rintro v10 _ ⟨aFo,F7,X10,kO,bfU,axT,rfl,Hn⟩;obtain⟨rM,q5,uO⟩:=kO.form;subst uO;refine jg 0 [.l F7,.l X10]<|zD 2<|jc (vs:=[zP d,zI 1,zI n]) [1] (zp hN Hn (by omega) (by omega)) ?_;rintro _ X13 ⟨w13,rfl,aeH,aaN,WY⟩;refine zD 1<|jn λb5=>jd 6 [0]<|jc (vs:=[zP d,zI 3]) [1] (Gv hN WY (by omega)) ?_;rintro _ X16 ⟨yQ,rfl,C8⟩;refine zD 1<|Yk [1,1,1] [] (λ(zz:(Option Addr)×Nat×Nat×Cells×(List fR)×Cells)=>[(0,zP d),(4,zP b4),(5,zP b5)]) (λzz=>[zxc b5 33 [.slice a0 n0 c0,.slice a1 n1 c1,.slice fa 0 fc,zS,.slice zz.1 zz.2.1 zz.2.2.1,zI w13,zI 0,zS],.l Z8,.l zz.2.2.2.1,.l zz.2.2.2.2.2,zxc b4 33 [zS,zS,zS,zS,zS,zI 0,zI 0,zS]]) (λzz=>(∀bU,Knows bU zz.2.2.2.1->dk bU (.slice zz.1 zz.2.1 zz.2.2.1) 2 jO zz.2.2.2.2.1)/\zz.2.2.2.2.1.length<=2/\(∀r∈zz.2.2.2.2.1,wh r)/\eL vd xs d zz.2.2.2.2.2) ?_ (λK1 cU=>?_)
 ·
  rintro⟨ra,rn,rc,LR,rs,X⟩ hR rest;dsimp only at hR;refine jd 3 [0]<|jcL (vs:=[.agg ⟨[.slice a0 n0 c0,.slice a1 n1 c1,.slice fa 0 fc,zS,.slice ra rn rc,zI w13,zI 0,zS]⟩]) [] [1] Z8 (λcK hs hZ=>VG (hZ8 _ hZ).1 hPl.1) ?_;rintro v22 L22 NF;obtain⟨ade,YP,ae0⟩:=NF.form;subst ae0;refine zD 7<|jqo (a:=4) (b:=((aH S).length:Int)) 3 (by omega) (by omega)<|jmn (k:= .i64) (a:=3) (b:=(Int.tdiv 4 ((aH S).length:Int)))<|jc (vs:=[zP d,zI (min 3 (Int.tdiv 4 ((aH S).length:Int)))]) [4] (Ot hN hR.2.2.2 (by omega)) ?_;rintro v28 _ ⟨mX,L28,X28,aqG,aHm,Ww,rfl,IN⟩;obtain⟨adb,ac7,aH6⟩:=aqG.form;subst aH6;refine jg 0 [.l L28,.l X28]<|jd 10 [3,3]<|ja (((aH S).length:Int)*((mX.map iX).length:Int)) (by have:=mulR (a:=(aH S).length) (b:=(mX.map iX).length) (by omega) (by rw[List.length_map];omega);omega) ?_;refine zD 2<|jj 5 [(0,zP d),(4,zP b4),(5,zP b5),(6,zI ((aH S).length:Int)),(41,.bool ((decide ((((aH S).length:Int)*((mX.map iX).length:Int)) <4))&&(decide (((mX.map iX).length:Int) <2))))] (λoX=>?_) (λhj=>?_);rotate_left;refine js 36 (decide ((((aH S).length:Int)*((mX.map iX).length:Int)) <4)) (λh1=>?_) (λh1=>?_)
  ·
   have lF:=h1;replace lF:=ah lF;refine jd 5 [3]<|zxw 41 hj (zya h1)
  ·
   have lF:=h1;replace lF:=af lF;refine zD 5<|zxw 41 hj (zyb h1)
  refine zD 1<|jj 3 [(0,zP d),(4,zP b4),(5,zP b5),(45,.bool (((decide ((((aH S).length:Int)*((mX.map iX).length:Int)) <4))&&(decide (((mX.map iX).length:Int) <2)))&&(decide (((aH S).length:Int)=3))))] (λoX=>?_) (λhj=>?_);rotate_left;refine js 42 ((decide ((((aH S).length:Int)*((mX.map iX).length:Int)) <4))&&(decide (((mX.map iX).length:Int) <2))) (λh2=>?_) (λh2=>?_)
  ·
   have nu:=h2
   try simp only[zB] at nu
   refine zD 3<|zxw 45 hj (zya h2)
  ·
   have nu:=h2
   try simp only[zB] at nu
   refine zD 3<|zxw 45 hj (zyb h2)
  refine zD 1<|Yk [1,1,1,1,1,1] [] (λ(zz:(Option Addr)×Nat×Nat×Cells×(List Int)×Int×Cells)=>[(0,zP d),(4,zP b4),(5,zP b5)]) (λzz=>[zxc b5 33 [.slice a0 n0 c0,.slice a1 n1 c1,.slice fa 0 fc,.slice zz.1 zz.2.1 zz.2.2.1,.slice ra rn rc,zI zz.2.2.2.2.2.1,zI 0,zS],.l Z8,.l LR,.l zz.2.2.2.1,.l zz.2.2.2.2.2.2,zxc b4 33 [zS,zS,zS,zS,zS,zI 0,zI 0,zS]]) (λzz=>(∀bU,Knows bU zz.2.2.2.1->dk bU (.slice zz.1 zz.2.1 zz.2.2.1) 1 mG (zz.2.2.2.2.1.map iX))/\Jp zz.2.2.2.2.1/\(zz.2.2.2.2.1.length<=3/\(zz.2.2.2.2.1.length*(aH S).length<=4\/((aH S).length=3/\zz.2.2.2.2.1.length<=2/\zz.2.2.2.2.2.1<=2)))/\(1<=zz.2.2.2.2.2.1/\zz.2.2.2.2.2.1<=n)/\eL vd xs d zz.2.2.2.2.2.2) ?_ (λK2 kU=>?_)
  ·
   rintro⟨pa,pn,pc,LP,is,D,X⟩ hQ rest;dsimp only at hQ;refine jd 5 [0]<|jc (vs:=[zP d,zI 1,zI D]) [4] (zp hN hQ.2.2.2.2 (by omega) (by omega)) ?_;rintro _ X56 ⟨w56,rfl,aRX,aRP,ar9⟩;refine jd 9 [1,1,5]<|zR (.agg ⟨[.slice a0 n0 c0,.slice a1 n1 c1,.slice fa 0 fc,.slice pa pn pc,.slice ra rn rc,zI D,zI w56,zS]⟩) [5] [2,3,4,0] (Z8++(LR++(LP++X56))) ⟨a0,n0,c0,a1,n1,c1,fa,fc,pa,pn,pc,ra,rn,rc,D,w56,⟨S,ways,is.map iX,rs,D,w56,[]⟩,is,Z8++(LR++LP),X56,rfl,λbU hk=>⟨_,_,_,_,_,fa,fc,rfl,(hZ8 _ hk.left).1,(hZ8 _ hk.left).2,hQ.1 _ hk.right.right,hR.1 _ hk.right.left,dk.nil _ _ _ _ _⟩,⟨⟨hPS,hQ.2.1,rfl,hQ.2.2.1,⟨hR.2.1,hR.2.2.1⟩,⟨hQ.2.2.2.1,by dsimp only;omega⟩,rfl⟩,rfl,rfl⟩,by simp only[List.append_assoc],ar9⟩
  refine js 45 (((decide ((((aH S).length:Int)*((mX.map iX).length:Int)) <4))&&(decide (((mX.map iX).length:Int) <2)))&&(decide (((aH S).length:Int)=3))) (λh3=>?_) (λh3=>?_)
  ·
   try simp only[zB] at h3
   refine zD 4<|jc (vs:=[zP d,zI 2]) [1] (Ot hN IN (by omega)) ?_;rintro Vi _ ⟨aGy,BA,X47,aqF,aHl,bfT,rfl,QJ⟩;obtain⟨nD,nA,aH5⟩:=aqF.form;subst aH5;refine jg 0 [.l BA,.l X47]<|jd 6 [4,4]<|jmn (k:= .i64) (a:=w13) (b:=2)<|jd 3 [4]<|zY kU ⟨nD,_,nA,BA,aGy,(min w13 2),X47⟩ ⟨λbU hk=>aqF.ju hk,aHl,⟨by dsimp only;omega,.inr ⟨by(try dsimp only);omega,by(try dsimp only);omega,by(try dsimp only);omega⟩⟩,by dsimp only;omega,QJ⟩ [4,5,6,0,1,7]
  try simp only[zB] at h3
  refine zD 2<|zY kU ⟨adb,_,ac7,L28,mX,w13,X28⟩ ⟨λbU hk=>aqG.ju hk,aHm,⟨by dsimp only;omega,.inl (share_4 hh3 Ww)⟩,by dsimp only;omega,IN⟩ [3,4,5,0,1,6]
 refine js 16 yQ (λh4=>?_) (λh4=>?_)
 ·
  subst h4;refine zD 4<|jn λEI=>jd 3 [2]<|jg 0 [.l [(EI,.cells ⟨[.string (bs [121]),.string (bs [105]),.string (bs [110,110]),.string (bs [110])]⟩ 169 (0,0))]]<|zY cU ⟨(some ⟨EI,0,none⟩),2,2,[(EI,.cells ⟨[.string (bs [121]),.string (bs [105]),.string (bs [110,110]),.string (bs [110])]⟩ 169 (0,0))],[⟨bs [121],bs [105]⟩,⟨bs [110,110],bs [110]⟩],X16⟩ ⟨λbU hk=>eZ [(⟨bs [121],bs [105]⟩:fR),⟨bs [110,110],bs [110]⟩] (hk _ (.head _)) (by intro p hp;rfl),(by dsimp only;decide),aEK,C8⟩ [2,4,0,1,5]
 subst h4;refine zD 2<|zY cU ⟨rM,_,q5,F7,aFo,X16⟩ ⟨λbU hk=>kO.ju hk,by dsimp only;omega,λr hr=>adC (axT r hr),C8⟩ [1,3,2,0,4]
theorem Rq{a b c:Int}(h:b<=a/\a<=c):pE a b c=true:=by simp[pE,h.1,h.2]
def aaX{S:List (List au)}(hO:cq S){x:fN}(hh:(⟨x.st,x.no,x.lt⟩:ak)∈aH S)(hd:0<=x.low/\x.low<=x.high/\x.high <D):iY S.length (aH S) D x=0:=by
 have h2:gJ D x=0:=by rw[gJ,Rq (by omega),Rq (by omega),cX (by omega)];rfl
 cases hl:x.late with
 |false=>
  have:bM (uh x.st x.no x.lt) (aH S) 0>=0:=IY hh (by simp[uh]);rw[iY,hl,jI,cN this,h2];rfl
 |true=>
  obtain⟨h5,h6⟩:=Qr hO hh;simp only[p8] at h5 h6;rw[iY,hl,cG,Rq (by omega),Rq (by omega),Rq (by omega),h2];rfl
def wd6:List ByteArray:=[bs [97,110,97],bs [115,109,105,116,104],bs [115,109,121,116,104],bs [66,69,78],bs [99,104,97,100],bs [110,111,98,111,100,121]]
def aM9:∀w∈wd6,nz w:=by
 intro w hw;simp only[wd6,aN,fF,aZ] at hw;rcases hw with rfl|rfl|rfl|rfl|rfl|rfl<;>first|exact⟨by decide,.inl (by unfold bs;decide)⟩|exact⟨by decide,.inr (by unfold bs;decide)⟩
def aK1(K:eX)(x:fN):Prop:=nz x.name/\iY K.str.length (aH K.str) K.days x=0
def nj.sp{a c d:Value}{K:eX}(h:nj ro [a,b,c,d,e,zI D,zI Sz,f] K):bH ro a K.str/\dk ro d 1 mG K.aS:=by
 obtain⟨vS,vT,vP,vR,vE,fa,fc,h0,h1,h2,h3,_⟩:=h;simp only[iH,Mg] at h0;obtain⟨rfl,_,_,rfl,_⟩:=h0;exact⟨h1,h3⟩
theorem nj.bB{a c d v:Value}{K:eX}{es:List fN}(h:nj ro [a,b,c,d,e,zI D,zI Sz,f] K)(hv:dk ro v 7 rB es):nj ro [a,b,c,d,e,zI D,zI Sz,v] {K with bB:=es}:=by
 obtain⟨vS,vT,vP,vR,vE,fa,fc,h0,h1,h2,h3,h4,h5⟩:=h;simp only[iH,Mg] at h0;obtain⟨rfl,rfl,rfl,rfl,rfl,h6,h7,rfl⟩:=h0;exact⟨_,_,_,_,_,fa,fc,by rw[h6,h7],h1,h2,h3,h4,hv⟩
structure sJ(K:eX)(is:List Int):Prop where
 bare:aCZ 4 {K with bB:=[]} is
 bB:K.bB.length<=2/\∀x∈K.bB,aK1 K x
set_option maxHeartbeats 1000000 in
def aKb {X:Cells} {K:eX} (hN:Dn ro vd xs) (hD:eL vd xs d X) (hS:bH ro vS K.str) (hO:cq K.str) (hh:1<=(aH K.str).length/\(aH K.str).length<=3) (hp:dk ro vP 1 mG K.aS) (wm:1<=K.aS.length/\K.aS.length<=3) (JB:∀w∈K.aS,nz w) (Yt:1<=K.days/\K.days<=4):eT zT 89 [zP d,.agg ⟨[vS,vT,vF,vP,vR,zI K.days,zI K.stay,vE]⟩] ro X (λr Y=>∃x:fN,r= .agg ⟨rB x⟩/\aK1 K x/\eL vd xs d Y):=by
 obtain⟨gX,xY,xX,gF,rfl,A2,xk,xj⟩:=hp;refine zC [.l X]<|zD 2<|jn λb3=>jn λb4=>jd 4 [1]<|jc (vs:=[.agg ⟨[vS,vT,vF,.slice gX K.aS.length gF,vR,zI K.days,zI K.stay,vE]⟩]) [] (VG hS hO) ?_;rintro v8 L8 ho8;obtain⟨va8,vc8,hf8⟩:=ho8.form;subst hf8;refine zD 3<|Yk [1,1,1] [] (λ(zz:ByteArray×Int×Int×Int×Bool×Int×Cells×Nat)=>[(0,zP d),(3,zP b3),(4,zP b4),(6,zP zz.2.2.2.2.2.2.2)]) (λzz=>[.b zz.2.2.2.2.2.2.2 (.cells ⟨[.string zz.1,zI zz.2.1,zI zz.2.2.1,zI zz.2.2.2.1,.bool zz.2.2.2.2.1,zI zz.2.2.2.2.2.1,zI 0]⟩ 43 (0,0)),.l zz.2.2.2.2.2.2.1,zxc b4 43 [.string ByteArray.empty,zI 0,zI 0,zI 0,.bool false,zI 0,zI 0],zxc b3 33 [vS,vT,vF,.slice gX K.aS.length gF,vR,zI K.days,zI K.stay,vE]]) (λzz=>nz zz.1/\(⟨zz.2.1,zz.2.2.1,zz.2.2.2.1⟩:ak)∈aH K.str/\(0<=zz.2.2.2.2.2.1/\zz.2.2.2.2.2.1 <K.days)/\eL vd xs d zz.2.2.2.2.2.2.1) ?_ (λK1 cU=>?_)
 ·
  rintro⟨nm,a,b,c,lt,lo,X,b6⟩ hQ rest;dsimp only at hQ;refine jd 7 [0,3]<|zW (K.days-1)<|jc (vs:=[zP d,zI lo,zI (K.days-1)]) [1] (zp hN hQ.2.2.2 (by omega) (by omega)) ?_;rintro _ X41 ⟨w41,rfl,aRY,Wt,bh6⟩;refine jd 7 [1]<|jc (vs:=[zP d,zI 3]) [0] (Gv hN bh6 (by omega)) ?_;rintro _ X44 ⟨w44,rfl,akw⟩;refine zD 1<|js 44 w44 (λh1=>?_) (λh1=>?_)
  ·
   subst h1;refine zD 3<|jn λzy=>jcL (vs:=[zP d,.slice (some ⟨zy,0,none⟩) 6 6]) [1] [0] [(zy,.cells ⟨([(bs [97,110,97]),(bs [115,109,105,116,104]),(bs [115,109,121,116,104]),(bs [66,69,78]),(bs [99,104,97,100]),(bs [110,111,98,111,100,121])].map mG).flatten⟩ 9 (0,0))] (λcK hs hZ=>ath (hN.up hs) akw (eZ [(bs [97,110,97]),(bs [115,109,105,116,104]),(bs [115,109,121,116,104]),(bs [66,69,78]),(bs [99,104,97,100]),(bs [110,111,98,111,100,121])] hZ.head (by intro p hp;rfl)) (by decide)) ?_;rintro _ X47 ⟨w47,rfl,bew,QJ⟩;refine jd 9 [2,2,3]<|zR _ [3] [0] _ ⟨⟨w47,a,b,c,lt,lo,w41⟩,rfl,⟨(aM9 _ bew),aaX hO hQ.2.1 ⟨by dsimp only;omega,by dsimp only;omega,by dsimp only;omega⟩⟩,QJ⟩
  subst h1;refine jd 8 [1,2]<|zR _ [2] [0] _ ⟨⟨nm,a,b,c,lt,lo,w41⟩,rfl,⟨hQ.1,aaX hO hQ.2.1 ⟨by dsimp only;omega,by dsimp only;omega,by dsimp only;omega⟩⟩,akw⟩
 refine jd 7 [2,2]<|zW ((K.aS.length:Int)-1)<|zD 4<|zW (((aH K.str).length:Int)-1)<|jd 4 [2]<|zW (K.days-1)<|vg [7,26] ⟨λ_ _ tw=>?_,λ_ _ KW=>?_,trivial⟩
 ·
  refine jc (vs:=[zP d,zI ((K.aS.length:Int)-1)]) [3] (Oq hN hD (by omega)) ?_;rintro _ X16 ⟨yQ,rfl,aj3,KC,C8⟩;refine ee tw [[3],[3],[3]] ?_;obtain⟨x17,yh⟩:=zG K.aS (yQ.toNat);refine Yj yQ gF 1 xk yh (by omega)<|jl 0 (xj _ _ yh)<|vg [15,26] ⟨λ_ _ Hm=>?_,λ_ _ QI=>?_,trivial⟩
  ·
   refine jc (vs:=[zP d,zI (((aH K.str).length:Int)-1)]) [0] (Oq hN C8 (by omega)) ?_;rintro _ X24 ⟨w24,rfl,aR0,Ed,akx⟩;refine ee Hm [[],[3],[3],[3]] ?_;obtain⟨wx,jT⟩:=zG ((aH K.str)) (w24.toNat) (by first|omega| (simp only[aM,zM];omega));refine Iw w24 3 ho8 jT (by omega) λb25 WH=>yL 0 [1] L8 (λs _ hZ=>kN ho8 WH hZ jT)<|vg [19,26] ⟨λ_ _ Hl=>?_,λ_ _ KY=>?_,trivial⟩
   ·
    refine jc (vs:=[zP d,zI 3]) [0] (Gv hN akx (by omega)) ?_;rintro _ X28 ⟨w28,rfl,IN⟩;refine ee Hl [[1],[],[3],[3],[3]]<|vg [24,26] ⟨λ_ _ QF=>?_,λ_ _ WS=>?_,trivial⟩
    ·
     refine jc (vs:=[zP d,zI (K.days-1)]) [0] (Oq hN IN (by omega)) ?_;rintro _ X33 ⟨w33,rfl,axP,aeF,NM⟩;refine ee QF [[1],[],[3],[3],[3]]<|zD 1<|zxo 26 λafk=>jn λb6=>eH afk (zN 1 4)<|zxo 27 λafj=>jd 1 [0]<|kA afj<|zD 1<|zY cU ⟨x17,wx.h,wx.n,wx.l,w28,w33,X33,b6⟩ ⟨JB _ (zL yh),zL jT,⟨by dsimp only;omega,by dsimp only;omega⟩,NM⟩ [0,1,3,4]
    refine jn λb6=>eH WS (zN 1 4)<|zxo 24 λWR=>jc (vs:=[zP d,zI (K.days-1)]) [1] (Oq hN IN (by omega)) ?_;rintro _ X33 ⟨w33,rfl,axP,aeF,NM⟩;refine ee WR [[2],[],[4],[4],[4]]<|zD 1<|zxo 27 λWQ=>jd 1 [1]<|kA WQ<|zD 1<|zY cU ⟨x17,wx.h,wx.n,wx.l,w28,w33,X33,b6⟩ ⟨JB _ (zL yh),zL jT,⟨by dsimp only;omega,by dsimp only;omega⟩,NM⟩ [1,0,3,4]
   refine jn λb6=>eH KY (zN 1 4)<|zxo 19 λafi=>jc (vs:=[zP d,zI 3]) [1] (Gv hN akx (by omega)) ?_;rintro _ X28 ⟨w28,rfl,IN⟩;refine ee afi [[2],[],[4],[4],[4]]<|zxo 24 λWO=>jc (vs:=[zP d,zI (K.days-1)]) [0] (Oq hN IN (by omega)) ?_;rintro _ X33 ⟨w33,rfl,axP,aeF,NM⟩;refine ee WO [[2],[],[4],[4],[4]]<|zD 1<|zxo 27 λWN=>jd 1 [1]<|kA WN<|zD 1<|zY cU ⟨x17,wx.h,wx.n,wx.l,w28,w33,X33,b6⟩ ⟨JB _ (zL yh),zL jT,⟨by dsimp only;omega,by dsimp only;omega⟩,NM⟩ [1,0,3,4]
  refine jn λb6=>eH QI (zN 1 4)<|zxo 15 λWM=>jc (vs:=[zP d,zI (((aH K.str).length:Int)-1)]) [1] (Oq hN C8 (by omega)) ?_;rintro _ X24 ⟨w24,rfl,aR0,Ed,akx⟩;refine ee WM [[],[4],[4],[4]] ?_;obtain⟨wx,jT⟩:=zG ((aH K.str)) (w24.toNat) (by first|omega| (simp only[List.length_set,zM];omega));refine Iw w24 3 ho8 jT (by omega) λb25 WH=>yL 0 [2] L8 (λs _ hZ=>kN ho8 WH hZ jT)<|zxo 19 λafh=>jc (vs:=[zP d,zI 3]) [0] (Gv hN akx (by omega)) ?_;rintro _ X28 ⟨w28,rfl,IN⟩;refine ee afh [[2],[],[4],[4],[4]]<|zxo 24 λafg=>jc (vs:=[zP d,zI (K.days-1)]) [0] (Oq hN IN (by omega)) ?_;rintro _ X33 ⟨w33,rfl,axP,aeF,NM⟩;refine ee afg [[2],[],[4],[4],[4]]<|zD 1<|zxo 27 λarx=>jd 1 [1]<|kA arx<|zD 1<|zY cU ⟨x17,wx.h,wx.n,wx.l,w28,w33,X33,b6⟩ ⟨JB _ (zL yh),zL jT,⟨by dsimp only;omega,by dsimp only;omega⟩,NM⟩ [1,0,3,4]
 refine jn λb6=>eH KW (zN 1 4)<|zxo 7 λaff=>jc (vs:=[zP d,zI ((K.aS.length:Int)-1)]) [4] (Oq hN hD (by omega)) ?_;rintro _ X16 ⟨yQ,rfl,aj3,KC,C8⟩;refine ee aff [[4],[4],[4]] ?_;obtain⟨x17,yh⟩:=zG K.aS (yQ.toNat);refine Yj yQ gF 1 xk yh (by omega)<|jl 0 (xj _ _ yh)<|zxo 15 λQE=>jc (vs:=[zP d,zI (((aH K.str).length:Int)-1)]) [0] (Oq hN C8 (by omega)) ?_;rintro _ X24 ⟨w24,rfl,aR0,Ed,akx⟩;refine ee QE [[],[4],[4],[4]] ?_;obtain⟨wx,jT⟩:=zG ((aH K.str)) (w24.toNat) (by first|omega| (simp only[List.length_set,zM];omega));refine Iw w24 3 ho8 jT (by omega) λb25 WH=>yL 0 [2] L8 (λs _ hZ=>kN ho8 WH hZ jT)<|zxo 19 λafe=>jc (vs:=[zP d,zI 3]) [0] (Gv hN akx (by omega)) ?_;rintro _ X28 ⟨w28,rfl,IN⟩;refine ee afe [[2],[],[4],[4],[4]]<|zxo 24 λafd=>jc (vs:=[zP d,zI (K.days-1)]) [0] (Oq hN IN (by omega)) ?_;rintro _ X33 ⟨w33,rfl,axP,aeF,NM⟩;refine ee afd [[2],[],[4],[4],[4]]<|zD 1<|zxo 27 λQC=>jd 1 [1]<|kA QC<|zD 1<|zY cU ⟨x17,wx.h,wx.n,wx.l,w28,w33,X33,b6⟩ ⟨JB _ (zL yh),zL jT,⟨by dsimp only;omega,by dsimp only;omega⟩,NM⟩ [1,0,3,4]
set_option maxHeartbeats 1000000 in
def ayW {d:Nat} {X:Cells} {vd:Value} {xs:List Int} {ro:Nat->Option Obj} (hN:Dn ro vd xs) (hD:eL vd xs d X):eT zT 27 [zP d,zI 4,zI 2] ro X (λr Y=>∃a0 n0 c0 a1 n1 c1 fa fc pa pn pc ra rn rc ea en ec K is Z X',r= .agg ⟨[.slice a0 n0 c0,.slice a1 n1 c1,.slice fa 0 fc,.slice pa pn pc,.slice ra rn rc,zI K.days,zI K.stay,.slice ea en ec]⟩/\(∀bU,Knows bU Z->nj bU [.slice a0 n0 c0,.slice a1 n1 c1,.slice fa 0 fc,.slice pa pn pc,.slice ra rn rc,zI K.days,zI K.stay,.slice ea en ec] K)/\sJ K is/\Y=Z++X'/\eL vd xs d X'):=by
 refine zC [.l X]<|zD 2<|jn λb6=>zD 5<|jc (vs:=[zP d,zI 4]) [1] (aKc hN hD (by decide)) ?_;rintro _ _ ⟨a0,n0,c0,a1,n1,c1,fa,fc,pa,pn,pc,ra,rn,rc,D,Sz,K,is,Z,X11,rfl,hLz,⟨hB,rfl,rfl⟩,rfl,asb⟩;have wm:=hB.pick.one;have bro:=hB.room.1;have hdy:=hB.days;have be8:K.aS.length=is.length:=by rw[hB.VM,dE]
 have bft:∀w∈K.aS,nz w:=by rw[hB.VM];exact hB.pick.name
 refine jg 0 [.l Z,.l X11]<|jn λb7=>jd 7 [0]<|jc (vs:=[zP d,zI 2]) [2] (Oq hN asb (by omega)) ?_;rintro _ X14 ⟨w14,rfl,beB,iD,akz⟩;refine zD 3<|uI<|iz [1,1,0,1,0,0] [] (λ(zz:Int×Value×Cells×(List fN)×Cells)=>[(0,zP d),(6,zP b6),(7,zP b7),(8,zI zz.1)]) (λzz=>[zxc b7 33 [.slice a0 n0 c0,.slice a1 n1 c1,.slice fa 0 fc,.slice pa pn pc,.slice ra rn rc,zI K.days,zI K.stay,zz.2.1],.l zz.2.2.1,.l Z,.l zz.2.2.2.2,zxc b6 33 [zS,zS,zS,zS,zS,zI 0,zI 0,zS]]) (λzz=>(0<=zz.1/\zz.2.2.2.1.length+zz.1<=2)/\bI zz.2.1 7 43 rB zz.2.2.2.1 zz.2.2.1/\(∀x∈zz.2.2.2.1,aK1 K x)/\eL vd xs d zz.2.2.2.2) (λzz=>zz.1.toNat) (⟨w14,zS,[],[],X14⟩) ⟨⟨by omega,by simp only[List.length_nil];omega⟩,bI.nil _ _ _,nofun,akz⟩ [2,0,3,1,4] ?_;rintro⟨z,vE,LE,es,X⟩ hI K1 cU rest;dsimp only at hI;refine zD 6<|zJ 16 (z>0) (λh1=>?_) λh1=>?_
 ·
  refine jd 9 [0,0]<|zxo 4 λC7=>jcL (vs:=[zP d,.agg ⟨[.slice a0 n0 c0,.slice a1 n1 c1,.slice fa 0 fc,.slice pa pn pc,.slice ra rn rc,zI K.days,zI K.stay,vE]⟩]) [3] [2] Z (λcK hs hZ=>aKb (K:=K) (hN.up hs) hI.2.2.2 (hLz _ hZ).sp.1 hB.past.xp.1 hB.past.xp.2 (hLz _ hZ).sp.2 (by omega) bft (by omega)) ?_;rintro _ X23 ⟨pF,rfl,rV,bh9⟩;refine ee C7 [[1]]<|zxo 5 λtx=>jn λb24=>eH tx (zN 1 5)<|zxo 6 λtw=>zxl rB b24 (⟨pF.name,pF.st,pF.no,pF.lt,pF.late,pF.low,pF.high⟩:fN) 3 0 (hI.2.1) (λamF amz L25 Qo=>?_) (hb:=by simp only[List.length_cons,List.length_nil];omega);refine ee tw []<|zD 1<|zxo 8 λC6=>jd 1 [3]<|kA C6<|zD 3<|zW (z-1)<|zD 2<|zY cU (⟨(z-1),(.slice amF ((es++[(⟨pF.name,pF.st,pF.no,pF.lt,pF.late,pF.low,pF.high⟩:fN)])).length amz),L25,(es++[(⟨pF.name,pF.st,pF.no,pF.lt,pF.late,pF.low,pF.high⟩:fN)]),X23⟩) ⟨⟨by dsimp only;omega,by simp only[zM];omega⟩,Qo,(λx hx=>by rcases List.mem_append.1 hx with hx|hx;exact hI.2.2.1 x hx;rw[List.mem_singleton] at hx;subst hx;exact rV),bh9⟩ [3,0,4,2,5]
 refine zD 3 ?_;obtain⟨va6,vc6,he6⟩:=hI.2.1.form;subst he6;refine jd 5 [0,4]<|zR (.agg ⟨[.slice a0 n0 c0,.slice a1 n1 c1,.slice fa 0 fc,.slice pa pn pc,.slice ra rn rc,zI K.days,zI K.stay,(.slice va6 (es).length vc6)]⟩) [4] [1,2,3] (LE++(Z++X)) ⟨a0,n0,c0,a1,n1,c1,fa,fc,pa,pn,pc,ra,rn,rc,_,_,_,{K with bB:=es},is,LE++Z,X,rfl,λbU hk=>(hLz _ hk.right).bB (hI.2.1.ju hk.left),⟨by have:=hB.bB;rcases K with ⟨a,b,c,d,e,f,g⟩;dsimp only at this;subst this;exact hB,by dsimp only;omega,hI.2.2.1⟩,by simp only[List.append_assoc],hI.2.2.2⟩
def Zb(rr:List Int)(k:Nat):Bool:=decide ((k:Int)-1 <0)||decide (bM (λy=>decide (y=(k:Int)-1)) rr 0 <0)
def qO(rr:List Int):Nat->List (List Int)
 |0=>[]
 |k+1=>qO rr k++bif Zb rr k then [rr++[(k:Int)-1]] else []
def mC(H:Nat):Nat->List (List Int)
 |0=>[[]]
 |p+1=>(mC H p).flatMap λrr=>qO rr (H+1)
theorem J2{rr:List Int}:∀ {k:Nat},(qO rr k).length≤k
 |0=>Nat.zero_le _
 |k+1=>by
  rw[qO,List.length_append]
  have:=J2 (rr:=rr) (k:=k)
  cases Zb rr k<;>simp<;>omega
def Hy:∀H:Nat,H <4->∀p:Nat,p <4->(mC H p).length<=64/\∀r∈mC H p,r.length<=3:=by decide+kernel
def akL{H k:Nat}(hH:H<=3)(hp:p<=3)(hk:k<=H+1):(((mC H p).take i).flatMap (λrr=>qO rr (H+1))++qO rr k).length<=1000:=by
 have h1:=Lg (H:=(mC H p).take i) (g:=λrr=>qO rr (H+1)) (k:=H+1) λx _=>J2;have h2:=(Hy H (by omega) p (by omega)).1;have h3:=J2 (rr:=rr) (k:=k);have h4:((mC H p).take i).length*(H+1)<=64*4:=Sn (by rw[cH];omega) (by omega);rw[aL];omega
theorem Rb{H:Nat}(h:(mC H p)[i]?=some rr):((mC H p).take (i+1)).flatMap (λrr=>qO rr (H+1))=((mC H p).take i).flatMap (λrr=>qO rr (H+1))++qO rr (H+1):=by
 rw[c8 h,iF,List.flatMap_singleton]
set_option maxHeartbeats 1000000 in
def aQ0 {H P:Nat} (hH:H<=3) (hP:P<=3):eT zT 30 [zI (H:Int),zI (P:Int)] ro [] (λr Y=>∃a c,r= .slice a (mC H P).length c/\Y=[]):=by
 refine zE<|zD 6<|jn λCH=>zD 4<|jg 0 [.l [(CH,.cells ⟨[zS]⟩ 45 (0,0))]]<|zD 4<|uI<|iz [1,1,0,1,0,0] [] (λ(zz:Nat×Value×Cells×(List Value)×Cells)=>[(0,zI (H:Int)),(1,zI (P:Int)),(4,zS),(5,zz.2.1),(6,zI (zz.1:Int))]) (λzz=>[.l zz.2.2.1,.l zz.2.2.2.2]) (λzz=>zz.1<=P/\bI zz.2.1 1 45 qa zz.2.2.2.1 zz.2.2.1/\zz.2.2.2.1.length=(mC H zz.1).length/\∀bU,Knows bU zz.2.2.2.2->kz (λw l=>dk bU w 1 eC l) zz.2.2.2.1 (mC H zz.1)) (λzz=>P-zz.1) (⟨0,(.slice (some ⟨CH,0,none⟩) 1 1),[(CH,.cells ⟨[zS]⟩ 45 (0,0))],[zS],[]⟩) ⟨Nat.zero_le _,gR (b:=CH) (T:=45) [(zS:Value)] rfl (λ_ _=>rfl),rfl,λbU _=> .cons (dk.nil _ _ _ _ _) .nil⟩ [1,0] ?_;rintro⟨p,vO,LO,es,Z⟩ hI K1 cU rest;dsimp only at hI;refine zD 7<|zJ 13 ((p:Int) <(P:Int)) (λh1=>?_) λh1=>?_
 ·
  refine zD 5<|jf [0,1] (LO++Z) (λro4 rF Uf=>?_);have arn:=hI.2.2.2 _ Uf.right;have ho5:=hI.2.1.ju Uf.left;obtain⟨aE4,bpj,bph,an2,rfl,bpi,aO4,aO3⟩:=ho5;have bsB:=arn.len;refine zD 9<|uI<|uI<|iz [1,1,0,1,0,0,1,0,0,1,0,1,0,0] [K1] (λ(zz:Nat×Value×Cells×(List Value)×Cells)=>[(0,zI (H:Int)),(1,zI (P:Int)),(4,zS),(5,.slice aE4 es.length an2),(6,zI (p:Int)),(7,zz.2.1),(8,zI (zz.1:Int))]) (λzz=>[.l zz.2.2.1,.l zz.2.2.2.2]) (λzz=>zz.1<=es.length/\bI zz.2.1 1 45 qa zz.2.2.2.1 zz.2.2.1/\zz.2.2.2.1.length=(((mC H p).take zz.1).flatMap (λrr=>qO rr (H+1))).length/\∀bU,Knows bU zz.2.2.2.2->kz (λw l=>dk bU w 1 eC l) zz.2.2.2.1 (((mC H p).take zz.1).flatMap (λrr=>qO rr (H+1)))) (λzz=>es.length-zz.1) (⟨0,zS,[],[],[]⟩) ⟨Nat.zero_le _,bI.nil _ _ _,by simp,λ_ _=>by dsimp only;rw[List.take_zero];exact .nil⟩ [1,0] ?_;rintro⟨i,vN,LN,ns,Z2⟩ hG K2 kU rest;dsimp only at hG;obtain⟨Gm,hrl⟩:=Hy H (by omega) p (by omega);refine zD 8<|zJ 19 ((i:Int) <(es.length:Int)) (λh5=>?_) λh5=>?_
  ·
   refine zD 9 ?_;obtain⟨rr,hrr⟩:∃r,(mC H p)[i]?=some r:=⟨_,List.getElem?_eq_getElem (by omega)⟩;refine iz [1,1,0,1,0,0,1,0,0,1,0,1,0,0,1,0,0,1,0,0] [K1,K2] (λ(zz:Nat×Value×Cells×(List Value)×Cells)=>[(0,zI (H:Int)),(1,zI (P:Int)),(4,zS),(5,.slice aE4 es.length an2),(6,zI (p:Int)),(7,zz.2.1),(8,zI (i:Int)),(9,zI ((zz.1:Int)-1))]) (λzz=>[.l zz.2.2.1,.l zz.2.2.2.2]) (λzz=>zz.1<=H+1/\bI zz.2.1 1 45 qa zz.2.2.2.1 zz.2.2.1/\zz.2.2.2.1.length=((((mC H p).take i).flatMap (λrr=>qO rr (H+1)))++qO rr zz.1).length/\∀bU,Knows bU zz.2.2.2.2->kz (λw l=>dk bU w 1 eC l) zz.2.2.2.1 ((((mC H p).take i).flatMap (λrr=>qO rr (H+1)))++qO rr zz.1)) (λzz=>H+1-zz.1) (⟨0,vN,LN,ns,Z2⟩) ⟨Nat.zero_le _,hG.2.1,by dsimp only;rw[qO,List.append_nil];exact hG.2.2.1,by dsimp only;rw[qO,List.append_nil];exact hG.2.2.2⟩ [0,1] ?_;rintro⟨k,vN,LN,ns,Z2⟩ hJ K3 Dq rest;dsimp only at hJ;refine zD 7<|zJ 24 (((k:Int)-1) <(H:Int)) (λh6=>?_) λh6=>?_
   ·
    refine zD 5<|Yk [1,1,0,1,0,0,1,0,0,1,0,1,0,0,1,0,0,1,0,0,1,0,0,1] [K1,K2,K3] (λ(zz:Bool)=>[(0,zI (H:Int)),(1,zI (P:Int)),(4,zS),(5,.slice aE4 es.length an2),(6,zI (p:Int)),(7,vN),(8,zI (i:Int)),(9,zI ((k:Int)-1)),(37,.bool zz)]) (λzz=>[.l LN,.l Z2]) (λzz=>zz=Zb rr k) ?_ (λK4 hK4=>?_)
    ·
     rintro on hB rest;refine js 37 on (λh7=>?_) (λh7=>?_)
     ·
      subst h7;refine zD 3<|jn λSj=>zD 2<|zxs es i an2 1 aO4 (λx42 Iz=>?_);obtain⟨l43,aqQ,h43⟩:=arn.get Iz;obtain aq7:l43=rr:=Option.some.inj (aqQ.symm.trans hrr);obtain brj:=hrl _ (zL aqQ);obtain⟨aE9,aPf,aPc,aE8,rfl,bcl,aPe,aPd⟩:=h43;refine jl 0 (aO3 _ _ Iz)<|zxq eC Sj 3 0 aE8 aPe aPd λOL OI L44 eK=>zD 1<|jn λzy=>zxl eC zy ((k:Int)-1) 1 0 (eK) λnD nA BA eO=>jn λb48=>gB (sz:=1) (ps:=ns) (qs:=[((.slice nD ((l43++[((k:Int)-1)])).length nA):Value)]) (enc:=qa) (w:= .slice (some ⟨b48,0,none⟩) 1 1) [3] [0] [(b48,.cells ⟨([((.slice nD ((l43++[((k:Int)-1)])).length nA):Value)].map qa).flatten⟩ 45 (0,0))] (hJ.2.1) (λs _ hZ=>dg [((.slice nD ((l43++[((k:Int)-1)])).length nA):Value)] (hZ _ (.head _)) (by intro p hp;rfl)) (by intro p hp;rw[List.mem_singleton] at hp;subst hp;exact aG rfl) (by have:=akL (i:=i) (rr:=rr) (k:=k) hH (show p<=3 by omega) hJ.1;rw[<-hJ.2.2.1] at this;simp only[List.length_cons,List.length_nil];omega) (λv49 L49 aqo=>?_);obtain⟨bao,aZ6,bgC⟩:=aqo.form;subst bgC;refine zD 4<|zW (((k:Int)-1)+1)<|zD 2<|jw 9 (zI (((k+1:Nat):Int)-1)) (w:= zI ((k:Int)-1+1)) (by rw[show (k:Int)-1+1=((k+1:Nat):Int)-1 by omega])<|zV Dq (⟨k+1,(.slice bao ((ns++[((.slice nD ((l43++[((k:Int)-1)])).length nA):Value)])).length aZ6),L49,(ns++[((.slice nD ((l43++[((k:Int)-1)])).length nA):Value)]),BA++Z2⟩) ⟨by dsimp only;omega,aqo,by dsimp only;rw[qO,<-hB];simp only[cond_true,zM];have:=hJ.2.2.1;simp only[List.length_append] at this;omega,λbU hk=>by dsimp only;rw[qO,<-hB,cond_true,<-List.append_assoc];exact(hJ.2.2.2 _ hk.right).snoc (by rw[<-aq7];exact eO.ju hk.left)⟩ [[0],[2,4]]
     subst h7;refine zD 4<|zW (((k:Int)-1)+1)<|zD 2<|jw 9 (zI (((k+1:Nat):Int)-1)) (w:= zI ((k:Int)-1+1)) (by rw[show (k:Int)-1+1=((k+1:Nat):Int)-1 by omega])<|zF Dq (⟨k+1,vN,LN,ns,Z2⟩) ⟨hJ.2.1,by dsimp only;rw[qO,<-hB,cond_false,List.append_nil];exact hJ.2.2.1,λbU hk=>by dsimp only;rw[qO,<-hB,cond_false,List.append_nil];exact hJ.2.2.2 _ hk⟩ [0,1]
    refine zD 4<|js 29 (decide (((k:Int)-1) <0)) (λh8=>?_) (λh8=>?_)
    ·
     have h8g:=h8;replace h8g:=ah h8g;refine zD 9<|dX hK4 true (by simp only[Zb];rw[cN (by omega)];rfl) bK [0,1] (Sub.refl _)
    have h8g:=h8;replace h8g:=af h8g;refine zD 2<|zxs es i an2 1 aO4 (λNl ap5=>?_);obtain⟨l33,aS4,h33⟩:=arn.get ap5;obtain aIg:l33=rr:=aK (aS4.symm.trans hrr);obtain brk:=hrl _ (zL aS4);obtain⟨aPi,bct,bcp,aPh,rfl,bcr,bcs,bcq⟩:=h33;refine jl 0 (aO3 _ _ ap5)<|zD 1<|zxp [.slice aPi l33.length aPh,zI ((k:Int)-1)] (λhs=>aGs ((show dk _ _ _ _ _ from ⟨aPi,bct,bcp,aPh,rfl,bcr,bcs,bcq⟩).up hs) (by first|omega| (simp only[aM,zM];omega))) ?_;refine zD 3<|zY hK4 (decide ((bM (λy=>decide (y=((k:Int)-1))) l33 0) <0)) (by simp only[Zb];rw[cX (p:=(k:Int)-1 <0) (by omega),aIg];rfl) [0,1]
   refine zD 4<|zW ((i:Int)+1)<|zD 2 ?_;obtain rfl:k=H+1:=by omega
   exact zF kU (⟨i+1,vN,LN,ns,Z2⟩) ⟨hJ.2.1,by dsimp only;rw[Rb hrr];exact hJ.2.2.1,λbU hk=>by dsimp only;rw[Rb hrr];exact hJ.2.2.2 _ hk⟩ [0,1]
  refine zD 8<|zW ((p:Int)+1)<|zD 2<|dX cU (⟨p+1,vN,LN,ns,Z2⟩) ⟨by dsimp only;omega,hG.2.1,by have:=hG.2.2.1;rwa[List.take_of_length_le (by omega)] at this,λbU hk=>by have:=hG.2.2.2 _ hk;rwa[List.take_of_length_le (by omega)] at this⟩ (by dsimp only;omega) [0,1] rF
 refine zD 3 ?_;obtain⟨va9,vc9,II⟩:=hI.2.1.form;subst II;refine zD 5<|zX ((.slice va9 (es).length vc9)) ⟨_,_,by rw[hI.2.2.1,show p=P by omega],rfl⟩
theorem aoi{t:bY}{x:cz}(hp:p <3):(t.put p x).at p=x:=by
 rcases Yi hp with rfl|rfl|rfl<;>rfl
theorem lg{t:bY}{j:Nat}{x:cz}(hp:p <3)(hj:j <3)(h:j≠p):(t.put p x).at j=t.at j:=by
 rcases Yi hp with rfl|rfl|rfl<;>rcases Yi hj with rfl|rfl|rfl<;>first|rfl|omega
theorem afs{t t':bY}{x:cz}(h:∀j,j <p->t.at j=t'.at j):pY D t p x=pY D t' p x:=by
 unfold pY;rw[GD];simp only[cM,dZ];exact⟨λH j hj=>by rw[<-h j hj];exact H j hj,λH j hj=>by rw[h j hj];exact H j hj⟩
def Ja(D:Int)(ls:List cz):Nat->bY->Nat->Nat
 |0,_,_=>1
 |k+1,t,p=>(ls.map λx=>bif pY D t p x then Ja D ls k (t.put p x) (p+1) else 0).sum
def HZ{α:Type}{f g:α->Nat}(hfg:∀x,f x<=g x):∀ {l m:List α},l.Sublist m->(l.map f).sum<=(m.map g).sum
 |_,_,.slnil=>bk _
 |_,_,.cons a h=>by have:=HZ hfg h;simp only[bR,Ad];omega
 |_,_,.cons₂ a h=>by have:=HZ hfg h;have:=hfg a;simp only[bR,Ad];omega
def ahY{ls l1:List cz}{mk:Nat->Nat->cz->Int}(hs:ls.Sublist l1):∀ {k:Nat} {t:bY} {p:Nat} {m:Int},(nY D ls mk need k t p m).length<=Ja D l1 k t p
 |0,t,p,m=>by simp only[nY,Ja];cases decide (vk .u8 need m=0)<;>simp
 |k+1,t,p,m=>by
  rw[uR,List.length_flatMap,Ja];refine HZ (λx=>?_) hs;simp only[Ej];cases pY D t p x with
  |true=>exact ahY hs
  |false=>exact bk _
def Uq{ls l1:List cz}{mk:Nat->Nat->cz->Int}(hs:ls.Sublist l1):∀ {k:Nat} {t:bY} {p:Nat} {m:Int},(nY D ls mk need k t p m).length<=(nY D l1 mk need k t p m).length
 |0,t,p,m=>bk _
 |k+1,t,p,m=>by
  rw[uR,uR,List.length_flatMap,List.length_flatMap];refine HZ (λx=>?_) hs;simp only[Ej];cases pY D t p x with
  |true=>exact Uq hs
  |false=>exact bk _
theorem ahZ{ls:List cz}{mk:Nat→Nat→cz→Int}(h0:∀i j y,mk i j y=0):∀ {k:Nat} {t:bY} {p:Nat},(nY D ls mk (allM 0) k t p 0).length=Ja D ls k t p
 |0,t,p=>by
  simp only[nY,Ja]
  rw[show decide (vk .u8 (allM 0) 0=0)=true by decide];rfl
 |k+1,t,p=>by
  rw[uR,List.length_flatMap,Ja]
  congr 2
  funext x
  simp only[Ej]
  cases pY D t p x with
  |true=>rw[cond_true,cond_true,h0,show iOr .u8 0 0=0 by decide];exact ahZ h0
  |false=>rfl
theorem Lx{ls:List cz}:∀ {k:Nat} {t t':bY} {p:Nat},p+k≤3→(∀j,j <p→t.at j=t'.at j)→Ja D ls k t p=Ja D ls k t' p
 |0,_,_,_,_,_=>rfl
 |k+1,t,t',p,hp,h=>by
  simp only[Ja]
  congr 2
  funext x
  rw[afs h]
  cases pY D t' p x with
  |true=>
   refine Lx (by omega) fun j hj=>?_
   by_cases e:j=p
   ·subst e;rw[aoi (by omega),aoi (by omega)]
   rw[lg (by omega) (by omega) e,lg (by omega) (by omega) e];exact h j (by omega)
  |false=>rfl
theorem aCn{α β:Type}{g:α->List β}{k:Nat}:∀ {H:List α},(∀x∈H,(g x).length=k)->(H.flatMap g).length=H.length*k
 | [],_=>by simp
 |a::H,h=>by
  rw[iL,aL,h a (.head _),aCn λx hx=>h x (.tail _ hx),aJ,acz];omega
def lv(H:Nat)(D S:Int):List cz:=DZ ⟨zI 0,zI 0,zI 0,zI 0,zI 0,zI 0,zI 0,D,S,none,H,0⟩
def aFT:∀H:Nat,H <4->∀D:Nat,D <5->∀s:Nat,s <D->∀s':Nat,s' <s+1->(lv H D ((s:Int)+1)).isSublist (lv H D ((s':Int)+1))=true:=by decide+kernel
def okC(H P D:Nat):Bool:=Nat.ble 1 H&&Nat.ble 1 P&&Nat.ble 1 D&&(Nat.ble (P*H) 4||(Nat.beq H 3&&Nat.ble P 2&&Nat.ble D 2))
def ay4:∀H:Nat,H <4->∀P:Nat,P <4->∀D:Nat,D <5->(bif okC H P D then Nat.beq (Ja (D:Int) (lv H D 1) P (OS 0) 0) ((mC H P).length^D)&&Nat.ble ((mC H P).length^D) 28561 else true)=true:=by decide+kernel
def atm(H P D:Nat)(hH:H <4)(hP:P <4)(hD:D <5)(h1:1<=H)(h2:1<=P)(h3:1<=D)(hc:P*H<=4\/(H=3/\P<=2/\D<=2)):Ja (D:Int) (lv H D 1) P (OS 0) 0=(mC H P).length^D/\(mC H P).length^D<=28561:=by
 have:=ay4 H hH P hP D hD;rw[show okC H P D=true by simp only[okC,av,aF,si,Nat.beq_eq];exact⟨⟨⟨h1,h2⟩,h3⟩,hc.imp id λk=>⟨⟨k.1,k.2.1⟩,k.2.2⟩⟩,cG,av,si,Nat.beq_eq] at this;exact this
def KS(K:eX)(s:Nat):eX:=⟨K.str,K.ways,K.aS,K.rules,K.days,(s:Int),K.bB⟩
def sJ.day{K:eX}{is:List Int}(h:sJ K is):∃D:Nat,K.days=(D:Int)/\1<=D/\D <5:=⟨K.days.toNat,by have:1<=K.days/\K.days<=4:=h.bare.days.1;omega⟩
theorem sJ.sub{K:eX}{is:List Int}(h:sJ K is){s s':Nat}(h1:1<=s'/\s'<=s)(h2:(s:Int)<=K.days):(G2 (KS K s)).Sublist (G2 (KS K s')):=by
 obtain⟨D,hD,MO,hd4⟩:=h.day;have hh:1<=(aH K.str).length/\(aH K.str).length<=3:=h.bare.past.xp.2;have:=aFT (aH K.str).length (by omega) D hd4 (s-1) (by omega) (s'-1) (by omega);rw[List.isSublist_iff_sublist,show ((s-1:Nat):Int)+1=s by omega,show ((s'-1:Nat):Int)+1=s' by omega,<-hD] at this;exact this
theorem sJ.cnt{K:eX}{is:List Int}(h:sJ K is):∃D:Nat,K.days=(D:Int)/\1<=D/\D <5/\K.aS.length<=3/\Ja K.days (G2 (KS K 1)) K.aS.length (OS 0) 0=(mC (aH K.str).length K.aS.length).length^D/\(mC (aH K.str).length K.aS.length).length^D<=28561:=by
 obtain⟨D,hD,MO,hd4⟩:=h.day;have hh:1<=(aH K.str).length/\(aH K.str).length<=3:=h.bare.past.xp.2;have hp:K.aS.length=is.length:=by rw[show K.aS=is.map iX from h.bare.VM,dE]
 have hr:is.length<=3/\(is.length*(aH K.str).length<=4\/((aH K.str).length=3/\is.length<=2/\K.days<=2)):=h.bare.room;have h1:=h.bare.pick.one;have key:=atm (aH K.str).length is.length D (by omega) (by omega) hd4 (by omega) (by omega) MO (hr.2.imp id λk=>⟨k.1,k.2.1,by omega⟩);refine⟨D,hD,MO,hd4,by omega,?_⟩;rw[hp];refine⟨?_,key.2⟩;rw[<-key.1,<-hD];rfl
theorem sJ.w{K:eX}{is:List Int}(h:sJ K is):K.W.length<=4:=by
 unfold eX.W;rw[dE];exact qf h.bare.past.wok
def sJ.le{K:eX}{is:List Int}(h:sJ K is){s:Nat}(h1:1<=s)(h2:(s:Int)<=K.days)(need:Int):(mj (KS K s) need).length<=1000000:=by
 obtain⟨D,hD,_,_,hp,hc,hb⟩:=h.cnt;have hw:=h.w;have:(mj (KS K s) need).length<=(List.range K.W.length).length*28561:=Lg λi _=>by
  refine bZ (ahY (h.sub ⟨bk _,h1⟩ h2)) ?_;show Ja K.days (G2 (KS K 1)) K.aS.length (OS i) 0<=28561;rw[Lx (t':=OS 0) (by omega) (λj hj=>by omega),hc];exact hb
 rw[List.length_range] at this;omega
def sJ.mono{K:eX}{is:List Int}(h:sJ K is){s:Nat}(h1:1<=s)(h2:((s+1:Nat):Int)<=K.days)(need:Int):(mj (KS K (s+1)) need).length<=(mj (KS K s) need).length:=by
 have hs:=h.sub (s:=s+1) (s':=s) ⟨h1,by omega⟩ h2;show ((List.range K.W.length).flatMap _).length<=((List.range K.W.length).flatMap _).length;rw[List.length_flatMap,List.length_flatMap];exact HZ (λi=>Uq hs) (List.Sublist.refl _)
theorem awI{K:eX}(he:K.bB=[])(i j:Nat)(y:cz):sx K i j y=0:=by
 unfold sx;split
 .unfold mkG;split
  .rw[he];rfl
  rfl
 rfl
def sJ.eq{K:eX}{is:List Int}(h:sJ K is)(he:K.bB=[]):∃D:Nat,K.days=(D:Int)/\(mj (KS K 1) (allM (KS K 1).bB.length)).length=(eY K.str K.ways).length*(mC (aH K.str).length K.aS.length).length^D:=by
 obtain⟨D,hD,_,_,hp,hc,hb⟩:=h.cnt;refine⟨D,hD,?_⟩;rw[show (KS K 1).bB.length=0 by show K.bB.length=0;rw[he];rfl];have:(mj (KS K 1) (allM 0)).length=(List.range K.W.length).length*(mC (aH K.str).length K.aS.length).length^D:=aCn λi _=>by
  show (nY K.days (G2 (KS K 1)) (sx (KS K 1)) (allM 0) K.aS.length (OS i) 0 0).length=_;rw[ahZ (awI (K:=KS K 1) he),Lx (t':=OS 0) (by omega) (λj hj=>by omega),hc]
 rw[this,List.length_range];unfold eX.W;rw[dE]
theorem aUV{f:fN->Int}:∀ {l:List fN},(∀x∈l,f x=0)->Eu f l=0
 | [],_=>rfl
 |x::l,h=>by rw[Eu,h x (.head _),aUV λy hy=>h y (.tail _ hy)];rfl
theorem sJ.v{K:eX}{is:List Int}(h:sJ K is){s:Nat}(h1:1<=s)(h2:(s:Int)<=K.days):wj (KS K s):=by
 have hb:=h.bare;have h3:1<=(aH K.str).length/\(aH K.str).length<=3:=hb.past.xp.2;have hpp:K.aS=is.map iX:=hb.VM;have hd:1<=K.days/\K.days<=4:=hb.days.1;have hr:is.length<=3/\(is.length*(aH K.str).length<=4\/((aH K.str).length=3/\is.length<=2/\K.days<=2)):=hb.room;refine⟨⟨hb.past.xp.1,hb.past.wok,h3.2,hb.past.ne,⟨by show K.rules.length<=4;have:K.rules.length<=2:=hb.rl.1;omega,hb.rl.2⟩,⟨?_,?_⟩,⟨by show K.bB.length<=1000;have:=h.bB.1;omega,λx hx=>(h.bB.2 x hx).1⟩⟩,?_,h.le h1 h2 _⟩
 .show K.aS.length<=1000;rw[hpp,dE];omega
 .show ∀w∈K.aS,nz w;rw[hpp];exact hb.pick.name
 have hp:DK K.aS=0:=by rw[hpp];exact hb.pick.err hr.1
 have hm:(K.aS.length:Int)*((aH K.str).length:Int)<=6:=by
  have:is.length*(aH K.str).length<=6:=by
   rcases hr.2 with k| ⟨k1,k2,_⟩
   .omega
   rw[k1];omega
  rw[hpp,dE];exact_mod_cast this
 have he:Eu (KS K s).iY K.bB=0:=aUV λx hx=>(h.bB.2 x hx).2;have hl:=h.bB.1;show (bif !decide (DK K.aS=0) then DK K.aS else bif decide (((aH K.str).length:Int)=0) then 7 else bif decide ((K.aS.length:Int)*((aH K.str).length:Int)>6) then 6 else
  bif !pE K.days 1 4|| !pE (s:Int) 1 K.days then 1 else bif decide ((K.bB.length:Int)>5) then 6 else Eu (KS K s).iY K.bB)=0
 rw[cN hp,cX (show ¬((aH K.str).length:Int)=0 by omega),cX (show ¬(K.aS.length:Int)*((aH K.str).length:Int)>6 by omega),Rq (by omega),Rq (by omega),cX (show ¬(K.bB.length:Int)>5 by omega),he];rfl
theorem sJ.none{K:eX}{is:List Int}(h:sJ K is):sJ {K with bB:=[]} is:=⟨h.bare,bQ _,nofun⟩
theorem nj.stay{a c d:Value}{K:eX}(h:nj ro [a,b,c,d,e,zI D,zI Sz,f] K)(s:Nat):nj ro [a,b,c,d,e,zI D,zI (s:Int),f] (KS K s):=by
 obtain⟨vS,vT,vP,vR,vE,fa,fc,h0,h1,h2,h3,h4,h5⟩:=h;simp only[iH,Mg] at h0;obtain⟨rfl,rfl,rfl,rfl,rfl,h6,h7,rfl⟩:=h0;exact⟨_,_,_,_,_,fa,fc,by rw[h6];rfl,h1,h2,h3,h4,h5⟩
def abR{T R:Nat}(hT:T<=4)(hR:R<=64)(hd:d<=3):((T*R^d:Nat):Int)*(R:Int)=((T*R^(d+1):Nat):Int)/\ -9223372036854775808<=((T*R^d:Nat):Int)*(R:Int)/\((T*R^d:Nat):Int)*(R:Int)<=9223372036854775807:=by
 have e:T*R^d*R=T*R^(d+1):=by rw[Nat.pow_succ,Nat.mul_assoc]
 have h1:R^(d+1)<=64^4:=bZ (Nat.pow_le_pow_left hR _) (pH (by decide) (by omega));have h2:T*R^(d+1)<=4*64^4:=Sn hT h1;have e2:((T*R^d:Nat):Int)*(R:Int)=((T*R^(d+1):Nat):Int):=by rw[<-e];push_cast;rfl
 rw[e2];exact⟨rfl,by omega,by omega⟩
def nj.tt{a c d:Value}{K:eX}(h:nj ro [a,b,c,d,e,zI D,zI Sz,f] K):ku ro b K.ways:=by
 obtain⟨vS,vT,vP,vR,vE,fa,fc,h0,h1,h2,h3,_⟩:=h;simp only[iH,Mg] at h0;obtain⟨_,rfl,_⟩:=h0;exact h2
set_option maxHeartbeats 4000000 in
def aF3 (hN:Dn ro vd xs):aCR zT 4 [vd] ro (λr Y=>r= .bool true/\Y=[]):=by
 have hN0:=hN;obtain⟨hl,Jx⟩:=hN;obtain⟨fO,rh,q9,fb,rfl,sV,mR,nN⟩:=hl;refine aRt bD (by kernel_rfl) [] de λfr=>zD 7<|jc (vs:=[.slice fO xs.length fb]) [] (biT hN0.1) ?_;rintro _ X18 ⟨d18,rfl,bib⟩;refine jc [0] (ayW hN0 bib) ?_;rintro _ _ ⟨a0,n0,c0,a1,n1,c1,fa,fc,pa,pn,pc,ra,rn,rc,ea,en,ec,K,is,Z,X19,rfl,hLz,hG,rfl,bsV⟩;refine jg 0 [.l Z,.l X19]<|jn λb3=>jd 1 [0]<|jf [1] Z (λAD fq iu=>?_);have hKL:=hLz _ iu;obtain⟨hsS,hsP⟩:=hKL.sp;have hsT:=hKL.tt;obtain⟨_,_,_,_,hpn,_,_,_⟩:=id hsP;simp only[Value.slice.injEq] at hpn;have hpn:=hpn.2.1;have hdy:1<=K.days/\K.days<=4:=hG.bare.days.1;have hh:1<=(aH K.str).length/\(aH K.str).length<=3:=hG.bare.past.xp.2;have be8:K.aS.length<=3:=by rw[show K.aS=is.map iX from hG.bare.VM,dE];exact hG.bare.room.1
 have hPl:cq K.str:=hG.bare.past.xp.1;have hWk:qv K.str K.ways:=hG.bare.past.wok;obtain⟨D,hDd,IK⟩:=hG.none.eq rfl;have hDd:K.days=(D:Int):=hDd;have IK:(mj (KS {K with bB:=[]} 1) (allM (KS {K with bB:=[]} 1).bB.length)).length=(eY K.str K.ways).length*(mC (aH K.str).length K.aS.length).length^D:=IK;have aTK:=(Hy (aH K.str).length (by omega) pn (by omega)).1;have htl:=qf hWk;have hKB:nj AD [.slice a0 n0 c0,.slice a1 n1 c1,.slice fa 0 fc,.slice pa pn pc,.slice ra rn rc,zI K.days,zI 1,zS] (KS {K with bB:=[]} 1):=(hKL.bB (dk.nil _ _ _ _ _)).stay 1;refine zD 11<|iz [1,1,1,0,1,0,0] [] (λ(zz:Nat×Int)=>[(3,zP b3),(4,zI zz.2),(5,zI (zz.1:Int))]) (λzz=>[zxc b3 33 [.slice a0 n0 c0,.slice a1 n1 c1,.slice fa 0 fc,.slice pa pn pc,.slice ra rn rc,zI K.days,zI K.stay,.slice ea en ec],.l fr]) (λzz=>(1<=zz.1/\(zz.1:Int)<=K.days+1)/\(zz.1=1/\zz.2= -1\/2<=zz.1/\zz.2=((mj (KS K (zz.1-1)) (allM K.bB.length)).length:Int))) (λzz=>(K.days+1-zz.1).toNat) (⟨1,(-1)⟩) ⟨⟨Nat.le_refl _,by dsimp only;omega⟩,.inl ⟨rfl,rfl⟩⟩ [0,2] ?_;rintro⟨s,bf⟩ hI K1 cU rest;dsimp only at hI;refine jd 8 [0]<|zJ 23 ((s:Int)<=K.days) (λh4=>?_) λh4=>?_
 ·
  refine jd 7 [0]<|jn λb6=>jd 11 [0,0,0]<|jcC (vs:=[.agg ⟨[.slice a0 n0 c0,.slice a1 n1 c1,.slice fa 0 fc,.slice pa pn pc,.slice ra rn rc,zI K.days,zI (s:Int),.slice ea en ec]⟩]) [] (λ_ _ h=>h) (P6 (hKL.stay s) (hG.v (show 1<=s by omega) (by omega))) ?_;rintro _ _ ⟨rfl,rfl⟩;refine jg 0 []<|zD 8 ?_;have hmn:bf= -1\/((mj (KS K s) (allM (KS K s).bB.length)).length:Int)<=bf:=by
   rcases hI.2 with ⟨_,h⟩| ⟨h1,h⟩
   .exact .inl h
   right;have:=hG.mono (s:=s-1) (by omega) (by omega) (allM K.bB.length);rw[show s-1+1=s by omega] at this;rw[h];exact Int.ofNat_le.2 this
  refine zD 7<|js 39 (decide (bf>=0)) (λh5=>?_) (λh5=>?_)
  ·
   have IP:=h5;replace IP:=ah IP;refine zD 6<|zJ 44 (((mj (KS K s) (allM (KS K s).bB.length)).length:Int)>bf) (λh6=>?_) λh6=>?_
   ·
    exfalso;omega
   refine zD 8<|zW ((s:Int)+1)<|zD 2<|zY cU (⟨s+1,((mj (KS K s) (allM (KS K s).bB.length)).length:Int)⟩) ⟨⟨by dsimp only;omega,by dsimp only;omega⟩,.inr ⟨by dsimp only;omega,rfl⟩⟩ [1,2]
  have IP:=h5;replace IP:=of_decide_eq_false IP;refine zD 14<|zW ((s:Int)+1)<|zD 2<|zY cU (⟨s+1,((mj (KS K s) (allM (KS K s).bB.length)).length:Int)⟩) ⟨⟨by dsimp only;omega,by dsimp only;omega⟩,.inr ⟨by dsimp only;omega,rfl⟩⟩ [1,2]
 refine jd 5 [0]<|jn λb9=>jd 12 [0,0,0,0]<|jcC (vs:=[.agg ⟨[.slice a0 n0 c0,.slice a1 n1 c1,.slice fa 0 fc,.slice pa pn pc,.slice ra rn rc,zI K.days,zI 1,zS]⟩]) [] (λ_ _ h=>h) (P6 hKB (hG.none.v (Nat.le_refl 1) (show ((1:Nat):Int)<=K.days by omega))) ?_;rintro _ _ ⟨rfl,rfl⟩;refine jg 0 []<|jd 10 [1]<|jc (vs:=[.agg ⟨[.slice a0 n0 c0,.slice a1 n1 c1,.slice fa 0 fc]⟩]) [] (ah3 hsS hPl hsT hWk hh.2) ?_;rintro _ Y57 ⟨a57,n57,c57,rfl,aSN,bso⟩;rw[List.length_map] at aSN;refine jd 18 [2,2]<|zxo 1 λC7=>jc (vs:=[.agg ⟨[.slice a0 n0 c0,.slice a1 n1 c1,.slice fa 0 fc,.slice pa pn pc,.slice ra rn rc,zI K.days,zI K.stay,.slice ea en ec]⟩]) [] (VG hsS hPl) ?_;rintro v63 L63 bfn;obtain⟨boA,bov,aH4⟩:=bfn.form;subst aH4;refine eH C7 (zN 1 4)<|zD 1<|zxo 6 λtx=>jc (vs:=[zI ((aH K.str).length:Int),zI (pn:Int)]) [] (aQ0 (H:=(aH K.str).length) (P:=pn) hh.2 (by omega)) ?_;rintro _ _ ⟨a68,XE,rfl,rfl⟩;refine jg 0 []<|eH tx (zN 0 5)<|zD 9<|iz [1,1,1,1,1,1,1,1,1,1,0,1,0,0] [] (λ(zz:Nat×Int)=>[(3,zP b3),(10,zI ((mj (KS {K with bB:=[]} 1) (allM (KS {K with bB:=[]} 1).bB.length)).length:Int)),(11,zI 0),(13,zI 0),(14,zI zz.2),(15,zI ((mC (aH K.str).length pn).length:Int)),(16,zI (zz.1:Int))]) (λzz=>[zxc b3 33 [.slice a0 n0 c0,.slice a1 n1 c1,.slice fa 0 fc,.slice pa pn pc,.slice ra rn rc,zI K.days,zI K.stay,.slice ea en ec],.l fr]) (λzz=>(zz.1:Int)<=K.days/\zz.2=((n57*(mC (aH K.str).length pn).length^zz.1:Nat):Int)) (λzz=>(K.days-zz.1).toNat) (⟨0,(n57:Int)⟩) ⟨by dsimp only;omega,by dsimp only;rw[Nat.pow_zero,Nat.mul_one]⟩ [3,4] ?_;rintro⟨dd,du⟩ hJ K4 hK4 rest;dsimp only at hJ;refine jd 8 [0]<|zJ 73 ((dd:Int) <K.days) (λh9=>?_) λh9=>?_
 ·
  refine zD 7<|ja (du*((mC (aH K.str).length pn).length:Int)) (by rw[hJ.2];exact(abR (by omega) aTK (by omega)).2) ?_;refine zD 4<|zW ((dd:Int)+1)<|zD 2<|zF hK4 (⟨dd+1,(du*((mC (aH K.str).length pn).length:Int))⟩) (by dsimp only;rw[hJ.2];exact(abR (by omega) aTK (by omega)).1) [0,1]
 refine zD 3 ?_;have hEq:((mj (KS {K with bB:=[]} 1) (allM (KS {K with bB:=[]} 1).bB.length)).length:Int)=du:=by rw[hJ.2,IK,aSN,hpn,show dd=D by omega]
 refine zD 13<|js 90 (decide (((mj (KS {K with bB:=[]} 1) (allM (KS {K with bB:=[]} 1).bB.length)).length:Int)=du)) (λwq=>?_) (λwq=>?_)
 ·
  have W0:=wq;replace W0:=ah W0;refine jcC [] (λ_ _ h=>h) (atM) ?_;rintro _ _ ⟨rfl,rfl⟩;refine jg 0 []<|zD 4<|jrC qC.a (.bool true) [1] [] fq ⟨rfl,rfl⟩
 have W0:=wq;replace W0:=af W0;exfalso;omega
def I9:Obj->Obj
 | .pending c t=> .pending c (t+(NL+1))
 |o=>o
def Vs(o:Obj):LV (I9 o) (some o):=by
 cases o with
 |pending c t=>exact .inr (.inr ⟨c,t,rfl,rfl⟩)
 |_=>exact .inl ⟨rfl,rfl⟩
def Xu{o:Obj}{h:Option Obj}(k:LV (I9 o) h):h=some o:=by
 rcases k with ⟨h1,h2⟩| ⟨c,c',t,h1,_,_,_,h2⟩| ⟨c,t,h1,h2⟩
 .cases o with
  |pending c t=>cases h2
  |_=>exact h1
 .cases o with
  |pending c0 t0=>exact absurd (Obj.pending.inj h1).2.symm (aek h2)
  |_=>cases h1
 cases o with
 |pending c0 t0=>
  obtain⟨e1,e2⟩:=Obj.pending.inj h1;rw[h2,e1,Nat.add_right_cancel e2]
 |_=>cases h1
def Tl(W:World)(hN:Dn (λb=>(W.heap[b]?).map I9) vd xs) {Post:Value->World->Prop}
 (abk:∀w:World,(∀(b:Nat) (o:Obj),W.heap[b]?=some o->w.heap[b]?=some o)->Go.ConcM.OsLater W.os w.os->w.output=W.output->Post (.bool true) w):
 ∃N last o w' t',runNT zT (N+1) (solo (G (Frame.enter zT 4 ⟨[vd]⟩ .normal) []) W) #[]=(.ended o w',t')/\Go.runN zT N (solo (G (Frame.enter zT 4 ⟨[vd]⟩ .normal) []) W)= .next last/\step zT last= .ended o w'/\Good zT Post last o w' t':=by
 have ha:dh ⟨λb=>(W.heap[b]?).map I9,[]⟩ W:=by
  refine⟨λb o h=>?_,(λ_ _ h=>(by cases h)),(λ_ _ h=>(by cases h)),by simp,(λ_ _ h=>(by cases h))⟩;obtain⟨o',h1,rfl⟩:=fo.1 h;rw[h1];exact Vs o'
 exact aiW ha (aF3 hN _ _ _ λv Y w uK yO hos IB=>by
  obtain⟨rfl,rfl⟩:=uK;exact abk w (λb o hb=>Xu (yO.ro b (I9 o) (by show (W.heap[b]?).map I9=_;rw[hb];rfl))) hos IB)
end Go.L
