/- Part 10 of the proof. -/
import Derived.Test.YtjpghiajlddegaaGreatDoorF9
set_option maxRecDepth 100000
set_option linter.all false
namespace Go.L
open Go Go.Conc Go.Proofs
variable {ways:List (List aM)} {ys xs:List Int} {K:aP} {l:List Value} {k b n fc b1 i bl b2 b3 ck0 ck en ec:Nat} {aF:Nat→Option Obj} {Stop:Cells→Prop} {x f y j:Int} {vS vT:Value} {α:Type} {hd:List cq} {fs:List ez} {B LE:Cells}
theorem adS{κ:Type}{kv:κ→Value}{F:List (κ×Value)}{es:Array MapEntry}(h:tJ kv F es ck):es.toList.length=F.length:=by
 have:=congrArg List.length h.1
 simpa using this
theorem ahl{r1 Ix:Nat}{BJ:Array MapEntry}{F1:List (ak×Value)}{H:List ak}{g:ak→ak}{ro:Nat→Option Obj}(It:Rz ro r1 H g BJ Ix F1)(hn:H.length≤8)(hS:∀x∈F1,(g x.1).h=0∨(g x.1).h=1):eS zT 170 [(.map (some r1)),zI 2] ro [] (fun r Y=>∃a n c,r= .agg ⟨[.slice a n c]⟩):=by
 refine bC au [] [] bu<|zD 2<|jn fun b4=>zD 4<|jmS (E:=71) (z:= zS) fun Ah=>jg 0 [.b Ah (.cells ⟨[zS,zS]⟩ 71 (0,0))]<|zD 1<|jn fun b5=>jd 6 [0]<|jmR It.m fun Ze=>jg 0 [.b Ze (uZ r1 Ix [])]<|zD 2<|py<|py<|eO [1,1,0,1,0,0] [] (fun(zz:(List Nat)×Value×Cells×(List ah)×Value×Cells×(List ah))=>[(4,zP b4),(5,zP b5),(16,zP Ze)]) (fun(zz:(List Nat)×Value×Cells×(List ah)×Value×Cells×(List ah))=>[.b Ze (uZ r1 Ix zz.1),.b Ah (.cells ⟨[zz.2.1,zz.2.2.2.2.1]⟩ 71 (0,0)),.l zz.2.2.1,.l zz.2.2.2.2.2.1,.b b5 (.cells ⟨[.slice (some ⟨Ah,0,none⟩) 2 2]⟩ 25 (0,0)),.b b4 (.cells ⟨[zS]⟩ 25 (0,0))]) (fun(zz:(List Nat)×Value×Cells×(List ah)×Value×Cells×(List ah))=>zz.2.2.2.1.length+zz.2.2.2.2.2.2.length+(cG BJ zz.1).length≤8∧ax zz.2.1 2 70 cE zz.2.2.2.1 zz.2.2.1∧ax zz.2.2.2.2.1 2 70 cE zz.2.2.2.2.2.2 zz.2.2.2.2.2.1) (fun(zz:(List Nat)×Value×Cells×(List ah)×Value×Cells×(List ah))=>(cG BJ zz.1).length) (⟨[],zS,[],[],zS,[],[]⟩) ⟨by rw[Cr,adS It.e];have:=congrArg List.length It.k;simp at this ⊢;omega,ax.nil _ _ _,ax.nil _ _ _⟩ [2,4,1,0,3,5] ?_
 rintro⟨seen,w0,L0,p0,w1,L1,p1⟩ hI K1 bG rest
 dsimp only at hI
 refine zD 2<|jmN (it:=Ze) (kv:=pq) (seen:=seen) 0 It.m It.e (fun k17 v17 e17 amg I9 Z5 aQi=>?_) (fun bdP=>?_)
 ·
  have hvv:bE ro v17 3 cF [g k17]:=It.v _ amg
  obtain⟨O9,qvb,qvo,Ee,rfl,qvk,S2,S1⟩:=hvv
  have hsg:(g k17).h=0∨(g k17).h=1:=hS _ amg
  have cH:=GG I9
  refine jg 0 [.b Ze (uZ r1 Ix (seen++[e17.born]))]<|zD 8<|jmE (it:=Ze) 0 It.m It.e I9 Z5 aQi<|jg 0 [.b Ze (uZ r1 Ix (seen++[e17.born]))]<|zD 10<|eO [1,1,0,1,0,0,1,1,0,1,1,0,0] [K1] (fun(zz:Nat×Value×Cells×(List ah)×Value×Cells×(List ah))=>[(4,zP b4),(5,zP b5),(16,zP Ze),(21,.slice O9 ([g k17].length) Ee),(22,zI ([g k17].length:Int)),(23,zI (zz.1:Int))]) (fun(zz:Nat×Value×Cells×(List ah)×Value×Cells×(List ah))=>[.b Ze (uZ r1 Ix (seen++[e17.born])),.b Ah (.cells ⟨[zz.2.1,zz.2.2.2.2.1]⟩ 71 (0,0)),.l zz.2.2.1,.l zz.2.2.2.2.2.1,.b b5 (.cells ⟨[.slice (some ⟨Ah,0,none⟩) 2 2]⟩ 25 (0,0)),.b b4 (.cells ⟨[zS]⟩ 25 (0,0))]) (fun(zz:Nat×Value×Cells×(List ah)×Value×Cells×(List ah))=>(zz.1≤1∧zz.2.2.2.1.length+zz.2.2.2.2.2.2.length+(cG BJ (seen++[e17.born])).length+(1-zz.1)≤8)∧ax zz.2.1 2 70 cE zz.2.2.2.1 zz.2.2.1∧ax zz.2.2.2.2.1 2 70 cE zz.2.2.2.2.2.2 zz.2.2.2.2.2.1) (fun(zz:Nat×Value×Cells×(List ah)×Value×Cells×(List ah))=>1-zz.1) (⟨0,w0,L0,p0,w1,L1,p1⟩) ⟨by dsimp only;omega,hI.2⟩ [0,1,2,3,4,5] ?_
  rintro⟨i,w0,L0,p0,w1,L1,p1⟩ hJ K2 mg rest
  dsimp only at hJ
  have RV: [g k17].length=1:=rfl
  refine zD 5<|zJ 24 ((i:Int) <([g k17].length:Int)) (fun h1=>?_) fun h1=>?_
  ·
   refine zD 6 ?_
   obtain⟨yD,ma⟩:=zG ([g k17]) i
   refine jb Ee 3 S2 ma<|jl 0 (S1 _ _ ma) ?_
   obtain⟨hxe,hi0⟩:=Gp ma;rw[←hxe] at hsg;obtain⟨xh,xn,xl⟩:=yD;dsimp only at hsg;rcases hsg with rfl|rfl
   ·
    refine jn fun b9=>jd 11 [0,5,0,5,0]<|jd 4 [2,0]<|aD 12 fun rZ r8 qL=>jn fun b39=>ba qL [1,2,3,4,5,6,7]<|aD 13 fun sN sU ri=>jE (sz:=2) (ps:=p0) (qs:=[(⟨xn,xl⟩:ah)]) (enc:=cE) (w:= .slice (some ⟨b39,0,none⟩) 1 1) [4] [0] [(b39,.cells ⟨([(⟨xn,xl⟩:ah)].map cE).flatten⟩ 70 (0,0))] (hJ.2.1) (fun s _ hZ=>bS [(⟨xn,xl⟩:ah)] (hZ _ (.head _)) (by intro p hp;rfl)) (fun p _=>ai rfl) (by simp only[List.length_cons,List.length_nil];omega) (fun v40 L40 G1=>?_)
    obtain⟨YD,YA,afT⟩:=G1.form
    subst afT
    refine iB ri [[2],[6],[2],[6]]<|zD 1<|aD 15 fun Aj Av A5=>jd 1 [4]<|cw A5<|zD 2<|ja ((i:Int)+1) (by omega)<|zD 2<|bF mg (⟨i+1,(.slice YD ((p0++[(⟨xn,xl⟩:ah)])).length YA),L40,(p0++[(⟨xn,xl⟩:ah)]),w1,L1,p1⟩) ⟨by simp only[List.length_append,List.length_cons,List.length_nil];omega,G1,hJ.2.2⟩ (by dsimp only;omega) [3,4,0,5,6,7] (Sub.refl _)
   refine jn fun b9=>jd 11 [0,5,0,5,0]<|jd 4 [2,0]<|aD 12 fun Yt YH Uq=>jn fun b39=>ba Uq [1,2,3,4,5,6,7]<|aD 13 fun abg abY QG=>jE (sz:=2) (ps:=p1) (qs:=[(⟨xn,xl⟩:ah)]) (enc:=cE) (w:= .slice (some ⟨b39,0,none⟩) 1 1) [5] [0] [(b39,.cells ⟨([(⟨xn,xl⟩:ah)].map cE).flatten⟩ 70 (0,0))] (hJ.2.2) (fun s _ hZ=>bS [(⟨xn,xl⟩:ah)] (hZ _ (.head _)) (by intro p hp;rfl)) (fun p _=>ai rfl) (by simp only[List.length_cons,List.length_nil];omega) (fun v40 L40 G1=>?_)
   obtain⟨YD,YA,afT⟩:=G1.form
   subst afT
   refine iB QG [[2],[6],[2],[6]]<|zD 1<|aD 15 fun Sd Su Up=>jd 1 [4]<|cw Up<|zD 2<|ja ((i:Int)+1) (by omega)<|zD 2<|bF mg (⟨i+1,w0,L0,p0,(.slice YD ((p1++[(⟨xn,xl⟩:ah)])).length YA),L40,(p1++[(⟨xn,xl⟩:ah)])⟩) ⟨by simp only[List.length_append,List.length_cons,List.length_nil];omega,hJ.2.1,G1⟩ (by dsimp only;omega) [3,4,5,0,6,7] (Sub.refl _)
  refine zD 2<|bF bG (⟨(seen++[e17.born]),w0,L0,p0,w1,L1,p1⟩) ⟨by dsimp only;omega,hJ.2⟩ cH [0,1,2,3,4,5] (Sub.refl _)
 refine jg 0 [.b Ze (uZ r1 Ix seen)]<|jd 14 [4]<|eO [1,1,1,0,1,0,0] [] (fun(zz:Nat×Value×Cells×(List ah)×Value×Cells×(List ah))=>[(4,zP b4),(5,zP b5),(44,.slice (some ⟨Ah,0,none⟩) 2 2),(45,zI 2),(46,zI (zz.1:Int))]) (fun(zz:Nat×Value×Cells×(List ah)×Value×Cells×(List ah))=>[.b Ah (.cells ⟨[zz.2.1,zz.2.2.2.2.1]⟩ 71 (0,0)),.l zz.2.2.1,.l zz.2.2.2.2.2.1,.b b5 (.cells ⟨[.slice (some ⟨Ah,0,none⟩) 2 2]⟩ 25 (0,0)),.b b4 (.cells ⟨[zS]⟩ 25 (0,0))]) (fun(zz:Nat×Value×Cells×(List ah)×Value×Cells×(List ah))=>(zz.1≤2∧zz.2.2.2.1.length≤8∧zz.2.2.2.2.2.2.length≤8)∧ax zz.2.1 2 70 cE zz.2.2.2.1 zz.2.2.1∧ax zz.2.2.2.2.1 2 70 cE zz.2.2.2.2.2.2 zz.2.2.2.2.2.1) (fun(zz:Nat×Value×Cells×(List ah)×Value×Cells×(List ah))=>2-zz.1) (⟨0,w0,L0,p0,w1,L1,p1⟩) ⟨by dsimp only;omega,hI.2⟩ [1,2,3,4,5] ?_
 rintro⟨k,w0,L0,p0,w1,L1,p1⟩ hQ K9 hK9 rest
 dsimp only at hQ
 refine zD 5<|zJ 47 ((k:Int) <2) (fun h8=>?_) fun h8=>?_
 ·
  refine zD 6 ?_
  rcases(show k=0∨k=1 by omega) with hk0|hk0
  ·
   refine jw 46 (zI 0) (show Value.int .i64 (k:Int)= zI 0 by rw[hk0];rfl) ?_
   refine jd 6 [0]<|jc (vs:=[w0,.func (.func 176) ⟨[]⟩ ⟨[]⟩]) [1] (ahf hQ.2.1 (by omega)) ?_
   rintro aNH Y51 ⟨aqm,atL,atW⟩
   refine zD 5 ?_
   have hle:=atL.length_eq
   exact bF hK9 (⟨1,w0,Y51,aqm,w1,L1,p1⟩) ⟨by dsimp only;omega,atW,hQ.2.2⟩ (by dsimp only;omega) [1,0,2,3,4] (Sub.refl _)
  refine jw 46 (zI 1) (show Value.int .i64 (k:Int)= zI 1 by rw[hk0];rfl) ?_
  refine jd 6 [0]<|jc (vs:=[w1,.func (.func 176) ⟨[]⟩ ⟨[]⟩]) [2] (ahf hQ.2.2 (by omega)) ?_
  rintro aNH Y51 ⟨aqm,atL,atW⟩
  refine zD 5 ?_
  have hle:=atL.length_eq
  exact bF hK9 (⟨2,w0,L0,p0,w1,Y51,aqm⟩) ⟨by dsimp only;omega,hQ.2.1,atW⟩ (by dsimp only;omega) [1,2,0,3,4] (Sub.refl _)
 refine jd 8 [3,4]<|aH q0 (.agg ⟨[.slice (some ⟨Ah,0,none⟩) 2 2]⟩) [4] [] [] (Sub.refl _) ⟨_,_,rfl,rfl,_,_,_,rfl⟩
structure Vl where
 a:Option Addr
 n:Nat
 c:Nat
 ea:Option Addr
 en:Nat
 ec:Nat
 r:Nat
abbrev ahS(t:Vl):List Value:=[.slice t.a t.n t.c,.slice t.ea t.en t.ec,.map (some t.r)]
structure TrD where
 ways:List Int
 g:ak→ak
def aVM(ro:Nat→Option Obj)(r:Nat)(H:List ak)(g:ak→ak):Prop:=∃es ck F,ro r=some (.map es ck)∧tJ pq F es ck∧(∀h∈H,h∈F.map (·.1))∧∀y∈F,bE ro y.2 3 cF [g y.1]
def TrR(H:List ak)(ro:Nat→Option Obj)(t:Vl)(x:TrD):Prop:=bE ro (.slice t.a t.n t.c) 1 cT x.ways∧aVM ro t.r H x.g
def TrO(H:List ak)(LL:Cells)(t:Vl)(x:TrD):Prop:=∀aF,Knows aF LL→TrR H aF t x
abbrev amZ(H:List ak)(L:List TrD):(Nat→Option Obj)→Nat→List Value→Cells→Prop:=fun _ k vs LL=>∃x t,L[k]?=some x∧vs=[.agg ⟨ahS t⟩]∧TrO H LL t x
def aqT(S:List (List ah))(l:List aM)(i:Nat):TrD:=⟨[(i:Int)],match l[i]? with
 |some c=>yX S c
 |none=>id⟩
def cW(S:List (List ah)):List (List aM)→List TrD
 | []=>[⟨[],id⟩]
 |l::_=>(List.range l.length).map (aqT S l)
theorem Jr{S:List (List ah)}{l:List aM}{c:aM}(h:l[i]?=some c):(cW S [l])[i]?=some ⟨[(i:Int)],yX S c⟩:=by
 have hi:=(List.getElem?_eq_some_iff.1 h).1
 simp only[cW,List.getElem?_map,List.getElem?_range hi,Option.map_some,aqT,h]
structure yB(ways:List (List aM)):Prop where
 one:ways.length≤1
 ok:∀l∈ways,(1≤l.length∧l.length≤3)∧∀c∈l,jT c
theorem aG2{c:aM}(h:jT c):1≤c.k∧c.k≤7:=by
 simp only[jT,List.mem_cons,List.not_mem_nil,or_false] at h
 rcases h with rfl|rfl|rfl|rfl|rfl<;>simp
theorem apH{x:ak}:∀(u:List (ak×ak)) (y:ak),u.foldl (fun y p=>if x=p.1 then p.2 else y) y=y∨∃p∈u,u.foldl (fun y p=>if x=p.1 then p.2 else y) y=p.2
 | [],y=> .inl rfl
 |p::u,y=>by
  simp only[List.foldl_cons]
  rcases apH (x:=x) u (if x=p.1 then p.2 else y) with h| ⟨q,hq,h⟩
  ·rw[h]
   split
   ·exact .inr ⟨p,by simp,rfl⟩
   exact .inl rfl
  exact .inr ⟨q,by simp[hq],h⟩
theorem avU{u:List (ak×ak)}{x:ak}:gU u x=x∨∃p∈u,gU u x=p.2:=apH u x
theorem adI{S:List (List ah)}{c:aM}(hc:jT c){x:ak}(hx:x.h=0∨x.h=1):(yX S c x).h=0∨(yX S c x).h=1:=by
 rcases avU (u:=av6 S c) (x:=x) with h| ⟨p,hp,h⟩
 ·rw[yX,h];exact hx
 rw[yX,h]
 simp only[jT,List.mem_cons,List.not_mem_nil,or_false] at hc
 rcases hc with rfl|rfl|rfl|rfl|rfl<;>simp[av6,abT,Jz,Kl,IJ,nn] at hp
 ·obtain⟨_,_,_,_,_,rfl⟩:=hp;exact .inl rfl
 ·obtain⟨_,_,rfl⟩:=hp;exact .inl rfl
 ·obtain⟨_,_,_,_,_,rfl⟩:=hp;exact .inr rfl
 ·obtain⟨_,_,rfl⟩:=hp;exact .inr rfl
 obtain⟨_,_,rfl⟩:=hp;exact .inl rfl
theorem Ql{S:List (List ah)}(hO:fF S){x:ak}(hx:x∈bB S):x.h=0∨x.h=1:=by
 obtain⟨j,l,p,h1,_,_,rfl⟩:=Fh.1 hx
 have:=hO.two
 simp only[nn];omega
theorem Rz.up{ro:Nat→Option Obj}{r:Nat}{H:List ak}{g:ak→ak}{es:Array MapEntry}{F:List (ak×Value)}(h:Rz ro r H g es ck F)(hs:Sub ro aF):Rz aF r H g es ck F:=⟨hs _ _ h.m,h.e,h.k,fun x hx=>(h.v x hx).up hs⟩
theorem aUC{v:Value}{S:List (List ah)}{c:aM}{ro:Nat→Option Obj}(hc:jT c)(hS:cP ro v S)(hO:fF S):eS zT 168 [.agg ⟨[v]⟩,.agg ⟨lj c⟩] ro [] (fun r Y=>∃rm F LM Z,r= .tuple ⟨[.map (some rm),zI 0]⟩∧Y=LM++Z∧kD rm pq F LM∧F.map (·.1)=bB S∧MV Z F (yX S c)):=by
 simp only[jT,List.mem_cons,List.not_mem_nil,or_false] at hc
 rcases hc with rfl|rfl|rfl|rfl|rfl
 ·exact aGG hS hO
 ·exact aGF hS hO
 ·exact aGE hS hO
 ·exact aGD hS hO
 exact aGC hS hO
def Jm(ro:Nat→Option Obj)(b:Nat)(S:List (List ah))(ways:List (List aM)):Prop:=∃vS vT vH fa fc,ro b=some (.cells ⟨[vS,vT,.slice fa 0 fc,vH]⟩ 177 (0,0))∧cP ro vS S∧ou ro vT ways∧bE ro vH 3 cF (bB S)
theorem Jm.up{ro:Nat→Option Obj}{S:List (List ah)}(h:Jm ro b S ways)(hs:Sub ro aF):Jm aF b S ways:=by
 obtain⟨vS,vT,vH,fa,fc,h1,h2,h3,h4⟩:=h
 exact⟨vS,vT,vH,fa,fc,hs _ _ h1,h2.up hs,h3.up hs,h4.up hs⟩
theorem av0{fa:Option Addr}{S:List (List ah)}{ro:Nat→Option Obj}(hS:cP ro vS S)(hO:fF S)(hT:ou ro vT ways)(hW:yB ways):eS zT 117 [.agg ⟨[vS,vT,.slice fa 0 fc]⟩] ro [] (fun r Y=>∃b vH LH,r= .tuple ⟨[zP b,zI 0]⟩∧Y=(b,.cells ⟨[vS,vT,.slice fa 0 fc,vH]⟩ 177 (0,0))::LH∧ax vH 3 144 cF (bB S) LH):=by
 have yp:=hS
 obtain⟨iM,hs,fN⟩:=hS
 obtain⟨mW,S5,S3,lV,rfl,S4,LX,LW⟩:=hs
 obtain⟨jk,ht,fI⟩:=id hT
 obtain⟨fD,AF,AD,eA,rfl,AE,sL,sJ⟩:=ht
 have Il:=fN.len
 have ED:=fI.len
 have I3:=hO.two
 have A0:=hW.one
 have NY:∀(i:Nat) (p:cU),([]:List cU)[i]?=some p→cv ⟨ro,[]⟩ 0 (0+i*6) 6 (ny p):=fun _ _ h=>oP h
 refine bC au [] [] bu<|zD 2<|jn fun b1=>jd 8 [0]<|jp (vs:=[.agg ⟨[.slice mW iM.length lV]⟩]) [] [] (fun aB hs hZ=>avZ (yp.up hs) hO)<|jd 17 [0]<|zJ 21 ((jk.length:Int)>3) (fun h1=>?_) fun h1=>?_
 ·
  exfalso;omega
 refine jd 11 [0]<|eO [1,1,1,0,1,0,0] [] (fun(zz:Nat)=>[(1,zP b1),(23,.slice fD jk.length eA),(24,zI (jk.length:Int)),(25,zI (zz:Int))]) (fun(zz:Nat)=>[.b b1 (.cells ⟨[.slice mW iM.length lV,.slice fD jk.length eA,.slice fa 0 fc]⟩ 29 (0,0))]) (fun(zz:Nat)=>zz≤jk.length) (fun(zz:Nat)=>jk.length-zz) 0 (by omega) [0] ?_
 rintro k hI K1 bG rest
 refine zD 5<|zJ 26 ((k:Int) <(jk.length:Int)) (fun h2=>?_) fun h2=>?_
 ·
  refine zD 6 ?_
  obtain⟨x27,I2⟩:=zG jk k
  refine jb eA 1 sL I2 ?_
  obtain⟨l28,aRt,h28⟩:=fI.get I2
  obtain at7:=hW.ok _ (List.mem_of_getElem? aRt)
  obtain⟨aAg,bcV,bcT,arV,rfl,bcU,aOb,aOa⟩:=h28
  refine jl 0 (sJ _ _ I2)<|jn fun b6=>jd 10 [0,0]<|zJ 32 ((l28.length:Int)=0) (fun h3=>?_) fun h3=>?_
  ·
   exfalso;omega
  refine jd 10 [0]<|zJ 36 ((l28.length:Int)>3) (fun h4=>?_) fun h4=>?_
  ·
   exfalso;omega
  refine jd 10 [0]<|eO [1,1,1,0,1,0,0,1,1,0,0,1,1,1,1,0,0] [K1] (fun(zz:Nat)=>[(1,zP b1),(23,.slice fD jk.length eA),(24,zI (jk.length:Int)),(25,zI (k:Int)),(38,.slice aAg l28.length arV),(39,zI (l28.length:Int)),(40,zI (zz:Int))]) (fun(zz:Nat)=>[.b b6 (.cells ⟨[.slice aAg l28.length arV]⟩ 78 (0,0)),.b b1 (.cells ⟨[.slice mW iM.length lV,.slice fD jk.length eA,.slice fa 0 fc]⟩ 29 (0,0))]) (fun(zz:Nat)=>zz≤l28.length) (fun(zz:Nat)=>l28.length-zz) 0 (by omega) [0,1] ?_
  rintro i hJ K2 mg rest
  refine zD 5<|zJ 41 ((i:Int) <(l28.length:Int)) (fun h5=>?_) fun h5=>?_
  ·
   refine zD 6 ?_
   obtain⟨x42,TN⟩:=zG l28 i
   refine jb arV 7 aOb TN<|jl 0 (aOa _ _ TN)<|jn fun b8=>jd 3 [0] ?_
   have Xx:=aG2 (at7.2 _ (List.mem_of_getElem? TN))
   refine jd 3 [0]<|jp (vs:=[zI x42.k,zI 1,zI 7]) [] [] (fun aB hs hZ=>A7)<|zD 2<|js 47 (!(jK x42.k 1 7)) (fun h6=>?_) (fun h6=>?_)
   ·
    try simp only[zB] at h6
    exfalso;simp only[jK,Bool.and_eq_false_iff,decide_eq_false_iff_not] at h6;omega
   try simp only[zB] at h6
   refine zD 3<|ja ((i:Int)+1) (by omega)<|zD 2<|bF mg (i+1) (by omega) (by omega) [1,2] (Sub.refl _)
  refine zD 3<|ja ((k:Int)+1) (by omega)<|zD 2<|bF bG (k+1) (by omega) (by omega) [1] (Sub.refl _)
 refine jd 17 [0,0,0]<|aD 3 fun rZ r8 qL=>jc (vs:=[.agg ⟨[.slice mW iM.length lV]⟩]) [] (XK yp hO) ?_
 rintro v57 L57 al2
 obtain⟨aj6,ajZ,afQ⟩:=al2.form
 subst afQ
 refine ba qL [1]<|zD 1<|aD 5 fun sN sU ri=>jn fun b59=>ba ri [1,2]<|jd 11 [2]<|eO [1,1,1,1,1,1,0,1,0,0] [] (fun(zz:Nat)=>[(1,zP b1),(9,zP b59),(61,.slice fa 0 fc),(62,zI 0),(63,zI 0)]) (fun(zz:Nat)=>[.b b59 (.cells ⟨[.slice mW iM.length lV,.slice fD jk.length eA,.slice fa 0 fc,(.slice aj6 (bB S).length ajZ)]⟩ 177 (0,0)),.l L57,.b b1 (.cells ⟨[.slice mW iM.length lV,.slice fD jk.length eA,.slice fa 0 fc]⟩ 29 (0,0))]) (fun(zz:Nat)=>True) (fun(zz:Nat)=>zz) 0 trivial [0,1,2] ?_
 rintro z hQ K5 hK5 rest
 refine zD 14<|aH q0 (.tuple ⟨[zP b59,zI 0]⟩) [] [0,1] ((b59,.cells ⟨[.slice mW iM.length lV,.slice fD jk.length eA,.slice fa 0 fc,(.slice aj6 (bB S).length ajZ)]⟩ 177 (0,0))::L57) (Sub.refl _) ⟨_,_,rfl,rfl,_,_,_,rfl,rfl,al2⟩
structure aaQ(ro:Nat→Option Obj)(bl b b1 b2 b3:Nat):Prop where
 t:ro b1=some (.cells ⟨[zP b]⟩ 172 (0,0))
 y:ro b2=some (.cells ⟨[.func (.yield bl) #[] #[]]⟩ 258 (0,0))
 g:ro b3=some (.cells ⟨[.func (.func 166) ⟨[]⟩ ⟨[zP b1,zP b2,zP b3]⟩]⟩ 258 (0,0))
theorem aaQ.up{ro:Nat→Option Obj}(h:aaQ ro bl b b1 b2 b3)(hs:Sub ro aF):aaQ aF bl b b1 b2 b3:=⟨hs _ _ h.t,hs _ _ h.y,hs _ _ h.g⟩
theorem aGA{t:Vl}{S:List (List ah)}{ro:Nat→Option Obj}(Is:Jm ro b S ways):dO zT 167 [zP b,.agg ⟨[.slice t.a t.n t.c,.slice t.ea t.en t.ec,(.map (some t.r))]⟩] ro (.bool true):=by
 obtain⟨vS,vT,vH,fa,fc,gb,hS,hT,hHs⟩:=Is
 have yp:=hS
 obtain⟨iM,hs,fN⟩:=hS
 obtain⟨mW,S5,S3,lV,rfl,S4,LX,LW⟩:=hs
 obtain⟨jk,ht,fI⟩:=id hT
 obtain⟨fD,AF,AD,eA,rfl,AE,sL,sJ⟩:=ht
 have Il:=fN.len
 have ED:=fI.len
 have NY:∀(i:Nat) (p:cU),([]:List cU)[i]?=some p→cv ⟨ro,[]⟩ 0 (0+i*6) 6 (ny p):=fun _ _ h=>oP h
 refine bC au [] [] bu<|zD 2<|jn fun b3=>zD 9<|jl (b:=b) (off:=0) (m:=4) (vs:=[.slice mW iM.length lV,.slice fD jk.length eA,.slice fa 0 fc,vH]) 2 ⟨_,_,_,.inl gb,rfl⟩<|zD 4<|eO [1,0,1,0,0] [] (fun(zz:Nat)=>[(3,zP b3),(11,.slice fa 0 fc),(12,zI 0),(13,zI 0)]) (fun(zz:Nat)=>[.b b3 (.cells ⟨[.slice t.a t.n t.c,.slice t.ea t.en t.ec,(.map (some t.r))]⟩ 181 (0,0))]) (fun(zz:Nat)=>True) (fun(zz:Nat)=>zz) 0 trivial [0] ?_
 rintro z hI K1 bG rest
 refine zD 12<|aH q0 (.bool true) [] [] [] (Sub.refl _) ⟨_,_,rfl,rfl,rfl,rfl⟩
theorem ahe{ro:Nat→Option Obj}:eS zT 118 [zP b] ro [] (fun r Y=>∃b1,r= .func (.func 165) ⟨[]⟩ ⟨[zP b1]⟩∧Y=[(b1,.cells ⟨[zP b]⟩ 172 (0,0))]):=by
 refine bC au [] [] bu<|zD 2<|jn fun b1=>zD 8<|aH q0 (.func (.func 165) ⟨[]⟩ ⟨[zP b1]⟩) [] [0] [(b1,.cells ⟨[zP b]⟩ 172 (0,0))] (Sub.refl _) ⟨_,_,rfl,rfl,_,rfl,rfl⟩
theorem ahg{S:List (List ah)}{L:List TrD}{Inv:Nat→Cells→Prop}{t:Vl}{x:TrD}{LL:Cells}{ro:Nat→Option Obj}(Is:Jm ro b S ways)(hC:aaQ ro bl b b1 b2 b3)(hn:t.n=ways.length)(hx:L[k]?=some x) (hR:TrO (bB S) LL t x) (hB:Inv k B) (hy:YOK zT bl ro L.length (amZ (bB S) L) Inv Stop):eS zT 166 [.agg ⟨[.slice t.a t.n t.c,.slice t.ea t.en t.ec,(.map (some t.r))]⟩,zP b1,zP b2,zP b3] ro (LL++B) (fun r Y=>∃c,r= .bool c∧(c=true→Inv (k+1) Y)∧(c=false→Stop Y)):=by
 have amv:=Is
 obtain⟨vS,vT,vH,fa,fc,gb,hS,hT,hHs⟩:=Is
 have yp:=hS
 obtain⟨iM,hs,fN⟩:=hS
 obtain⟨mW,S5,S3,lV,rfl,S4,LX,LW⟩:=hs
 obtain⟨jk,ht,fI⟩:=id hT
 obtain⟨fD,AF,AD,eA,rfl,AE,sL,sJ⟩:=ht
 have Il:=fN.len
 have ED:=fI.len
 have NY:∀(i:Nat) (p:cU),([]:List cU)[i]?=some p→cv ⟨ro,[]⟩ 0 (0+i*6) 6 (ny p):=fun _ _ h=>oP h
 refine bC au [.l LL,.l B] [] bu<|zD 2<|jn fun b4=>jd 13 [0]<|jl (b:=b1) (off:=0) (m:=1) (vs:=[zP b]) 0 ⟨_,_,_,.inl hC.t,rfl⟩<|zD 3<|jl (b:=b) (off:=0) (m:=4) (vs:=[.slice mW iM.length lV,.slice fD jk.length eA,.slice fa 0 fc,vH]) 1 ⟨_,_,_,.inl gb,rfl⟩<|zD 3<|zJ 21 ((t.n:Int)=(jk.length:Int)) (fun h1=>?_) fun h1=>?_
 ·
  refine zD 3<|jl (b:=b1) (off:=0) (m:=1) (vs:=[zP b]) 0 ⟨_,_,_,.inl hC.t,rfl⟩<|jd 1 [0]<|jp (vs:=[zP b,.agg ⟨[.slice t.a t.n t.c,.slice t.ea t.en t.ec,(.map (some t.r))]⟩]) [] [] (fun aB hs hZ=>aGA (t:=t) (amv.up hs))<|zD 2<|jl (b:=b2) (off:=0) (m:=1) (vs:=[(.func (.yield bl) #[] #[])]) 0 ⟨_,_,_,.inl hC.y,rfl⟩<|jd 1 [0]<|jyc [1,2] (hy k [.agg ⟨[.slice t.a t.n t.c,.slice t.ea t.en t.ec,(.map (some t.r))]⟩] LL B ro (List.getElem?_eq_some_iff.1 hx).1 ⟨x,t,hx,rfl,hR⟩ hB (Sub.refl _)) (Sub.refl _) ?_
  intro v29 Y29 aPU
  obtain⟨c29,rfl,aSD,aSr⟩:=yb aPU
  refine zD 4<|aH q0 (.bool c29) [] [0] Y29 (Sub.refl _) ⟨_,_,rfl,rfl,_,rfl,aSD,aSr⟩
 exfalso;omega
theorem aUy{S:List (List ah)}{l:List aM}{Inv:Nat→Cells→Prop}{ea:Option Addr}{r0:Nat}{es0:Array MapEntry}{F0:List (ak×Value)}{Z:Cells}{ro:Nat→Option Obj}(Is:Jm ro b S [l])(hO:fF S)(hW:yB [l])(hC:aaQ ro bl b b1 b2 b3)(hE:∀aF,Knows aF LE→cP aF (.slice ea en ec) S)(hE0:tJ pq F0 es0 ck0)(hk0:F0.map (·.1)=bB S)(hM0:MV Z F0 id)(hB:Inv 0 B)(hy:YOK zT bl ro (cW S [l]).length (amZ (bB S) (cW S [l])) Inv Stop):eS zT 166 [.agg ⟨[zS,.slice ea en ec,(.map (some r0))]⟩,zP b1,zP b2,zP b3] ro (LE++(r0,.map es0 ck0)::(Z++B)) (fun r Y=>∃c,r= .bool c∧(c=true→Inv l.length Y)∧(c=false→Stop Y)):=by
 have amv:=Is
 obtain⟨vS,vT,vH,fa,fc,gb,hS,hT,hHs⟩:=Is
 have yp:=hS
 obtain⟨iM,hs,fN⟩:=hS
 obtain⟨w1,w2,rfl⟩:=qn (fN.len.trans hO.two)
 obtain⟨mW,S5,S3,lV,rfl,S4,LX,LW⟩:=hs
 obtain⟨jk,ht,fI⟩:=id hT
 obtain⟨fD,AF,AD,eA,rfl,AE,sL,sJ⟩:=ht
 have ED:=fI.len
 have NY:∀(i:Nat) (p:cU),([]:List cU)[i]?=some p→cv ⟨ro,[]⟩ 0 (0+i*6) 6 (ny p):=fun _ _ h=>oP h
 refine bC au [.l LE,.b r0 (.map es0 ck0),.l Z,.l B] [] bu<|zD 2<|jn fun b4=>zD 1<|jf [1,2,3] (LE++((r0,.map es0 ck0)::Z)) (fun BE cd jW=>?_)
 have hE1:=hE _ (Knows.left jW)
 have It:Rz BE r0 (bB S) id es0 ck0 F0:=⟨Knows.right jW _ (.head _),hE0,hk0,hM0 _ (Knows.tail (Knows.right jW))⟩
 refine jd 12 [0]<|jl (b:=b1) (off:=0) (m:=1) (vs:=[zP b]) 0 ⟨_,_,_,.inl (cd _ _ hC.t),rfl⟩<|zD 3<|jl (b:=b) (off:=0) (m:=4) (vs:=[.slice mW 2 lV,.slice fD jk.length eA,.slice fa 0 fc,vH]) 1 ⟨_,_,_,.inl (cd _ _ gb),rfl⟩<|zD 3<|zJ 21 (0=(jk.length:Int)) (fun h4=>?_) fun h4=>?_
 ·
  exfalso;simp at ED;omega
 refine zD 4 ?_
 have Xo:jk.length=1:=ED
 refine zD 1<|jl (b:=b1) (off:=0) (m:=1) (vs:=[zP b]) 0 ⟨_,_,_,.inl (cd _ _ hC.t),rfl⟩<|zD 3<|jl (b:=b) (off:=0) (m:=4) (vs:=[.slice mW 2 lV,.slice fD jk.length eA,.slice fa 0 fc,vH]) 1 ⟨_,_,_,.inl (cd _ _ gb),rfl⟩<|zD 1 ?_
 obtain⟨x37,ZN⟩:=zG jk 0
 refine jb eA 1 sL ZN<|zD 1 ?_
 obtain⟨l39,aCQ,h39⟩:=fI.get ZN
 obtain aRl:=hW.ok _ (List.mem_of_getElem? aCQ)
 obtain afU:l39=l:=Option.some.inj (aCQ.symm.trans rfl)
 obtain⟨aN8,bcP,bcN,aAc,rfl,bcO,aN7,aN6⟩:=h39
 refine jl 0 ((sJ _ _ ZN).ext (uB cd))<|zD 4<|eO [1,1,1,0,1,0,0] [] (fun(zz:Nat×Cells)=>[(1,zP b1),(3,zP b3),(4,zP b4),(39,.slice aN8 l39.length aAc),(40,zI (l39.length:Int)),(41,zI (zz.1:Int))]) (fun(zz:Nat×Cells)=>[.l zz.2,.b b4 (.cells ⟨[zS,.slice ea en ec,(.map (some r0))]⟩ 181 (0,0))]) (fun(zz:Nat×Cells)=>zz.1≤l39.length∧Inv zz.1 zz.2) (fun(zz:Nat×Cells)=>l39.length-zz.1) (⟨0,B⟩) ⟨by dsimp only;omega,hB⟩ [1,0] ?_
 rintro⟨i,B⟩ hI K1 bG rest
 dsimp only at hI
 refine zD 5<|zJ 42 ((i:Int) <(l39.length:Int)) (fun h5=>?_) fun h5=>?_
 ·
  refine zD 7 ?_
  obtain⟨Yu,I1⟩:=zG l39 i
  refine jb aAc 7 aN7 I1<|jl 0 ((aN6 _ _ I1).ext (uB cd))<|jn fun b8=>jd 4 [0] ?_
  have hco:=aRl.2 _ (List.mem_of_getElem? I1)
  refine jd 4 [2,0]<|jc (vs:=[.agg ⟨[.slice ea en ec]⟩,.agg ⟨[zI Yu.k,zI Yu.st,zI Yu.ot,zI Yu.fn,zI Yu.fl,zI Yu.tn,zI Yu.tl]⟩]) [] (aUC (c:=Yu) hco (hE1.up (Sub.refl _)) hO) ?_
  rintro _ _ ⟨r9,F9,LM9,Z9,rfl,rfl,hm9,hk9,hM9⟩
  obtain⟨es9,ck9,rfl,hE9⟩:=hm9
  refine jg 0 [.b r9 (.map es9 ck9),.l Z9]<|zD 5<|jf [0,1] ((r9,.map es9 ck9)::Z9) (fun ro8 y7 hk7=>?_)
  have hP2:Rz ro8 r9 (bB S) (yX S Yu) es9 ck9 F9:=⟨hk7 _ (.head _),hE9,hk9,hM9 _ (Knows.tail hk7)⟩
  refine zD 11<|jl (b:=b3) (off:=0) (m:=1) (vs:=[.func (.func 166) ⟨[]⟩ ⟨[zP b1,zP b2,zP b3]⟩]) 0 ⟨_,_,_,.inl (y7 _ _ (cd _ _ hC.g)),rfl⟩<|jd 4 [2]<|jl (b:=b1) (off:=0) (m:=1) (vs:=[zP b]) 0 ⟨_,_,_,.inl (y7 _ _ (cd _ _ hC.t)),rfl⟩<|zD 4<|jl (b:=b) (off:=0) (m:=4) (vs:=[.slice mW 2 lV,.slice fD jk.length eA,.slice fa 0 fc,vH]) 0 ⟨_,_,_,.inl (y7 _ _ (cd _ _ gb)),rfl⟩<|jd 4 [2]<|lJ [3,5] ⟨fun z2 t3 ri=>?_,fun z5 t6 QG=>?_,trivial⟩
  ·
   refine jc (vs:=[zS]) [] (aGH (bE.nil _ _ _ _ _) (by simp)) ?_
   rintro v58 L58 afo
   obtain⟨IF,ID,CH⟩:=afo.form
   subst CH
   refine ba ri [1,2,3]<|aD 5 fun Sd Su Up=>jn fun b60=>ba Up [1,2,3,4]<|aD 6 fun Ys YG Uo=>jE (sz:=1) (ps:=([]:List Int)) (qs:=[(i:Int)]) (enc:=cT) (w:= .slice (some ⟨b60,0,none⟩) 1 1) [1] [0] [(b60,.cells ⟨([(i:Int)].map cT).flatten⟩ 3 (0,0))] (afo) (fun s _ hZ=>bS [(i:Int)] (hZ _ (.head _)) (by intro p hp;rfl)) (fun p _=>ai rfl) (by simp only[List.length_cons,List.length_nil];omega) (fun v61 L61 GX=>?_)
   obtain⟨abL,abE,auM⟩:=GX.form
   subst auM
   refine iB Uo [[4],[],[],[]]<|aD 15 fun FA FQ wJ=>jc (vs:=[(.map (some r9)),zI 2]) [] (ahl (hP2.up (Sub.refl _)) (uz hO) (fun x hx=>adI hco (Ql hO (by rw[←hk9];exact List.mem_map_of_mem (f:=(·.1)) hx)))) ?_
   rintro _ L70 ⟨a70,n70,c70,rfl⟩
   refine ba wJ [1,2,3,4,5]<|aD 19 fun Jp Ju zh=>jc (vs:=[(.map (some r0)),(.map (some r9))]) [] (apI (It.up y7) (hP2.up (Sub.refl _))) ?_
   rintro _ _ ⟨r74,F74,aVR,Z74,rfl,rfl,at6,aut,avl⟩
   obtain⟨Nn,Nz,rfl,avI⟩:=at6
   refine jg 0 [.b r74 (.map Nn Nz),.l Z74]<|ba zh [2,3,4,5,6,7]<|zD 1<|aD 21 fun Oj OH CN=>jc (vs:=[.agg ⟨[(.slice abL ((([]:List Int)++[(i:Int)])).length abE),.slice a70 n70 c70,(.map (some r74))]⟩,zP b1,zP b2,zP b3]) [3,0,1,6] ((show eS _ _ _ _ (L61++(r74,.map Nn Nz)::(Z74++B)) _ from by have:=ahg (t:=⟨abL,((([]:List Int)++[(i:Int)])).length,abE,a70,n70,c70,r74⟩) (LL:=L61++(r74,.map Nn Nz)::Z74) (amv.up (cd.trans y7)) (hC.up (cd.trans y7)) rfl (Jr (by rw[←afU];exact I1)) (fun aF hk=>⟨by simpa using GX.lR (Knows.left hk),Nn,Nz,F74,(Knows.right hk) _ (.head _),avI,aut,fun y hy=>avl aF (Knows.tail (Knows.right hk)) y hy⟩) hI.2 (hy.up (cd.trans y7));rwa[List.append_assoc,List.cons_append] at this)) ?_
   rintro _ Y76 ⟨c76,rfl,au6,au1⟩
   refine iB CN [[],[]]<|zD 2<|js 77 (!c76) (fun Nb=>?_) (fun Nb=>?_)
   ·
    try simp only[zB] at Nb
    refine zD 6<|aH q0.a.a (.bool false) [] [0] Y76 (cd.trans y7) ⟨_,_,rfl,rfl,_,rfl,nofun,fun _=>au1 (by simp_all)⟩
   try simp only[zB] at Nb
   refine zD 3<|ja ((i:Int)+1) (by omega)<|zD 2<|bF bG (⟨i+1,Y76⟩) ⟨by dsimp only;omega,au6 (by simp_all)⟩ (by dsimp only;omega) [0,4] y7
  refine jn fun b60=>ba QG [1,2,3]<|aD 3 fun anS aol M5=>jc (vs:=[zS]) [] (aGH (bE.nil _ _ _ _ _) (by simp)) ?_
  rintro v58 L58 afo
  obtain⟨IF,ID,CH⟩:=afo.form
  subst CH
  refine ba M5 [1,2,3,4]<|aD 6 fun ax4 aza agy=>jE (sz:=1) (ps:=([]:List Int)) (qs:=[(i:Int)]) (enc:=cT) (w:= .slice (some ⟨b60,0,none⟩) 1 1) [0] [1] [(b60,.cells ⟨([(i:Int)].map cT).flatten⟩ 3 (0,0))] (afo) (fun s _ hZ=>bS [(i:Int)] (hZ _ (.head _)) (by intro p hp;rfl)) (fun p _=>ai rfl) (by simp only[List.length_cons,List.length_nil];omega) (fun v61 L61 GX=>?_)
  obtain⟨abL,abE,auM⟩:=GX.form
  subst auM
  refine iB agy [[4],[],[],[]]<|aD 15 fun aWz aXg avB=>jc (vs:=[(.map (some r9)),zI 2]) [] (ahl (hP2.up (Sub.refl _)) (uz hO) (fun x hx=>adI hco (Ql hO (by rw[←hk9];exact List.mem_map_of_mem (f:=(·.1)) hx)))) ?_
  rintro _ L70 ⟨a70,n70,c70,rfl⟩
  refine ba avB [1,2,3,4,5]<|aD 19 fun aWy aXf QI=>jc (vs:=[(.map (some r0)),(.map (some r9))]) [] (apI (It.up y7) (hP2.up (Sub.refl _))) ?_
  rintro _ _ ⟨r74,F74,aVR,Z74,rfl,rfl,at6,aut,avl⟩
  obtain⟨Nn,Nz,rfl,avI⟩:=at6
  refine jg 0 [.b r74 (.map Nn Nz),.l Z74]<|ba QI [2,3,4,5,6,7]<|zD 1<|aD 21 fun anR aok CM=>jc (vs:=[.agg ⟨[(.slice abL ((([]:List Int)++[(i:Int)])).length abE),.slice a70 n70 c70,(.map (some r74))]⟩,zP b1,zP b2,zP b3]) [3,0,1,6] ((show eS _ _ _ _ (L61++(r74,.map Nn Nz)::(Z74++B)) _ from by have:=ahg (t:=⟨abL,((([]:List Int)++[(i:Int)])).length,abE,a70,n70,c70,r74⟩) (LL:=L61++(r74,.map Nn Nz)::Z74) (amv.up (cd.trans y7)) (hC.up (cd.trans y7)) rfl (Jr (by rw[←afU];exact I1)) (fun aF hk=>⟨by simpa using GX.lR (Knows.left hk),Nn,Nz,F74,(Knows.right hk) _ (.head _),avI,aut,fun y hy=>avl aF (Knows.tail (Knows.right hk)) y hy⟩) hI.2 (hy.up (cd.trans y7));rwa[List.append_assoc,List.cons_append] at this)) ?_
  rintro _ Y76 ⟨c76,rfl,au6,au1⟩
  refine iB CM [[],[]]<|zD 2<|js 77 (!c76) (fun KA=>?_) (fun KA=>?_)
  ·
   try simp only[zB] at KA
   refine zD 6<|aH q0.a.a (.bool false) [] [0] Y76 (cd.trans y7) ⟨_,_,rfl,rfl,_,rfl,nofun,fun _=>au1 (by simp_all)⟩
  try simp only[zB] at KA
  refine zD 3<|ja ((i:Int)+1) (by omega)<|zD 2<|bF bG (⟨i+1,Y76⟩) ⟨by dsimp only;omega,au6 (by simp_all)⟩ (by dsimp only;omega) [0,4] y7
 refine zD 7<|aH q0.a (.bool true) [] [0] B cd ⟨_,_,rfl,rfl,_,rfl,(fun _=>by have:=hI.2;rwa[show i=l.length by rw[←afU];omega] at this),nofun⟩
theorem aGz{S:List (List ah)}{Inv:Nat→Cells→Prop}{ea:Option Addr}{r0:Nat}{es0:Array MapEntry}{F0:List (ak×Value)}{Z:Cells}{ro:Nat→Option Obj}(Is:Jm ro b S ways)(hO:fF S)(hW:yB ways)(hC:aaQ ro bl b b1 b2 b3)(hE:∀aF,Knows aF LE→cP aF (.slice ea en ec) S)(hE0:tJ pq F0 es0 ck0)(hk0:F0.map (·.1)=bB S)(hM0:MV Z F0 id)(hB:Inv 0 B)(hy:YOK zT bl ro (cW S ways).length (amZ (bB S) (cW S ways)) Inv Stop):
 eS zT 166 [.agg ⟨[zS,.slice ea en ec,.map (some r0)]⟩,zP b1,zP b2,zP b3] ro (LE++(r0,.map es0 ck0)::(Z++B)) (fun r Y=>∃c,r= .bool c∧(c=true→Inv (cW S ways).length Y)∧(c=false→Stop Y)):=by
 match ways,hW with
 | [],_=>
  have:=ahg (t:=⟨none,0,0,ea,en,ec,r0⟩) (x:=⟨[],id⟩) (k:=0) (LL:=LE++(r0,.map es0 ck0)::Z) Is hC rfl rfl (fun aF hk=>⟨bE.nil _ _ _ _ _,es0,ck0,F0,(Knows.right hk) _ (.head _),hE0,fun h hh=>by rw[hk0];exact hh,hM0 _ (Knows.tail (Knows.right hk))⟩) hB hy
  rwa[List.append_assoc,List.cons_append] at this
 | [l],hW=>
  refine(aUy Is hO hW hC hE hE0 hk0 hM0 hB hy).mono fun _ _ ⟨c,h1,h2,h3⟩=>⟨c,h1,fun h=>?_,h3⟩
  rw[show (cW S [l]).length=l.length by simp[cW]]
  exact h2 h
 |_::_::_,hW=>exact absurd hW.one (by simp)
theorem aah{S:List (List ah)}{ro:Nat→Option Obj}(g1:ro b1=some (.cells ⟨[zP b]⟩ 172 (0,0)))(Is:Jm ro b S ways)(hO:fF S)(hW:yB ways):ItX zT 165 [] [zP b1] ro [] (cW S ways).length (amZ (bB S) (cW S ways)) (fun Z=>Z=[]):=by
 intro bl aB Inv Stop hs hy B hB
 replace g1:=hs _ _ g1
 replace Is:=Is.up hs
 have aTf:=Is
 obtain⟨vS,vT,vH,fa,fc,gb,hS,hT,hHs⟩:=Is
 have yp:=hS
 obtain⟨iM,pe,fN⟩:=hS
 obtain⟨akx,bcA,bcw,akw,rfl,bcy,bcz,bcx⟩:=pe
 obtain⟨jk,ht,fI⟩:=id hT
 obtain⟨fD,AF,AD,eA,rfl,AE,sL,sJ⟩:=ht
 have NY:∀(i:Nat) (p:cU),([]:List cU)[i]?=some p→cv ⟨aB,[]⟩ 0 (0+i*6) 6 (ny p):=fun _ _ h=>oP h
 refine bC au [.l B] [] bu<|zD 2<|jn fun b2=>zD 3<|jn fun b3=>jd 5 [0]<|jf [1,0] ((b2,.cells ⟨[(.func (.yield bl) #[] #[])]⟩ 258 (0,0))::[(b3,.cells ⟨[.func (.func 166) ⟨[]⟩ ⟨[zP b1,zP b2,zP b3]⟩]⟩ 258 (0,0))]) fun BE cd jW=>zD 2<|jl (b:=b3) (off:=0) (m:=1) (vs:=[.func (.func 166) ⟨[]⟩ ⟨[zP b1,zP b2,zP b3]⟩]) 0 ⟨_,_,_,.inl (jW _ (.tail _ (.head _))),rfl⟩<|jl (b:=b1) (off:=0) (m:=1) (vs:=[zP b]) 0 ⟨_,_,_,.inl (cd _ _ g1),rfl⟩<|zD 3<|jl (b:=b) (off:=0) (m:=4) (vs:=[.slice akx iM.length akw,.slice fD jk.length eA,.slice fa 0 fc,vH]) 0 ⟨_,_,_,.inl (cd _ _ gb),rfl⟩<|jl (b:=b1) (off:=0) (m:=1) (vs:=[zP b]) 0 ⟨_,_,_,.inl (cd _ _ g1),rfl⟩<|zD 3<|jl (b:=b) (off:=0) (m:=4) (vs:=[.slice akx iM.length akw,.slice fD jk.length eA,.slice fa 0 fc,vH]) 0 ⟨_,_,_,.inl (cd _ _ gb),rfl⟩<|aD 6 fun D5 Eb BG=>jc (vs:=[.agg ⟨[.slice akx iM.length akw]⟩]) [] (amQ (yp.up cd) hO) ?_
 rintro _ L11 ⟨a11,n11,c11,rfl,aT1⟩
 refine ba BG [1]<|aD 12 fun BK BR A6=>jc (vs:=[.agg ⟨[.slice akx iM.length akw]⟩]) [] (KE (yp.up cd) hO) ?_
 rintro _ _ ⟨r17,F17,bhs,Z17,rfl,rfl,aub,Z5,aTq⟩
 obtain⟨aUP,aU1,rfl,aT0⟩:=aub
 refine jg 0 [.b r17 (.map aUP aU1),.l Z17]<|ba A6 [2,3]<|zD 1<|aD 14 fun rZ r8 qL=>jc (vs:=[.agg ⟨[zS,.slice a11 n11 c11,(.map (some r17))]⟩,zP b1,zP b2,zP b3]) [2,0,1,3] (aGz (aTf.up cd) hO hW ⟨(cd _ _ g1),jW _ (.head _),jW _ (.tail _ (.head _))⟩ aT1 aT0 Z5 aTq hB (YOK.up hy cd)) ?_
 rintro _ Y19 ⟨c19,rfl,aSG,aSu⟩
 refine iB qL [[],[]]<|zD 1<|aH q0.a (.tuple ⟨[]⟩) [] [0] Y19 cd ⟨_,_,rfl,rfl,[],Y19,rfl,rfl,by cases c19 with|true=>exact .inl (aSG rfl)|false=>exact .inr (aSu rfl)⟩
theorem FO{S:List (List ah)}(hW:yB ways):(cW S ways).length≤3:=by
 match ways,hW with
 | [],_=>simp[cW]
 |l::_,hW=>
  have:=(hW.ok l (by simp)).1.2
  simpa [cW] using this
theorem ahk{fa:Option Addr}{S:List (List ah)}{ro:Nat→Option Obj}(hS:cP ro vS S)(hO:fF S)(hT:ou ro vT ways)(hW:yB ways):FnG zT 91 [.agg ⟨[vS,vT,.slice fa 0 fc]⟩] ro [] (fun r aB Y=>∃b vl ts Lt Z,r= .tuple ⟨[zP b,vl,zI 0]⟩∧Jm aB b S ways∧Y=Lt++Z∧ax vl 3 181 ahS ts Lt∧ts.length=(cW S ways).length∧∀aF,Knows aF Z→dg (TrR (bB S) aF) ts (cW S ways)):=by
 have yp:=hS
 obtain⟨iM,hs,fN⟩:=hS
 obtain⟨mW,S5,S3,lV,rfl,S4,LX,LW⟩:=hs
 obtain⟨jk,ht,fI⟩:=id hT
 obtain⟨fD,AF,AD,eA,rfl,AE,sL,sJ⟩:=ht
 have Il:=fN.len
 have ED:=fI.len
 have I3:=hO.two
 have A0:=hW.one
 have NY:∀(i:Nat) (p:cU),([]:List cU)[i]?=some p→cv ⟨ro,[]⟩ 0 (0+i*6) 6 (ny p):=fun _ _ h=>oP h
 refine aBq (hm:=au) [] [] bu<|zD 2<|jn fun b1=>jd 7 [0]<|jc (vs:=[.agg ⟨[.slice mW iM.length lV,.slice fD jk.length eA,.slice fa 0 fc]⟩]) [] (av0 yp hO hT hW) ?_
 rintro _ _ ⟨Sa,ayM,aHT,rfl,rfl,atX⟩
 refine jg 0 [.b Sa (.cells ⟨[.slice mW iM.length lV,.slice fD jk.length eA,.slice fa 0 fc,ayM]⟩ 177 (0,0)),.l aHT]<|zD 5<|jf [0,1] ((Sa,.cells ⟨[.slice mW iM.length lV,.slice fD jk.length eA,.slice fa 0 fc,ayM]⟩ 177 (0,0))::aHT) (fun BE cd jW=>?_)
 have Is:Jm BE Sa S ways:=⟨_,_,_,_,_,jW _ (.head _),yp.up cd,hT.up cd,atX.lR (Knows.tail jW)⟩
 refine zD 10 ?_
 have hLn:(cW S ways).length≤3:=FO hW
 refine zD 1<|jn fun b7=>zD 5<|jc (vs:=[zP Sa]) [] (ahe) ?_
 rintro _ _ ⟨aoP,rfl,rfl⟩
 refine jg 0 [.b aoP (.cells ⟨[zP Sa]⟩ 172 (0,0))]<|jf [0] [(aoP,.cells ⟨[zP Sa]⟩ 172 (0,0))] fun ro6 lL hk5=>zD 2<|py<|py<|jrf [] (aah (hk5 _ (.head _)) (Is.up lL) hO hW) (by rintro _ _ _ _ ⟨_,_,_,rfl,_⟩;rfl) (fun(zz:Value×Cells×(List Vl)×Cells)=>[.b b7 (.cells ⟨[zz.1]⟩ 173 (0,0)),.l zz.2.1,.l zz.2.2.2]) (fun kk=>(fun(zz:Value×Cells×(List Vl)×Cells)=>ax zz.1 3 181 ahS zz.2.2.1 zz.2.1∧zz.2.2.1.length=kk∧(∀aF,Knows aF zz.2.2.2→dg (TrR (bB S) aF) zz.2.2.1 ((cW S ways).take kk))∧(cW S ways).length≤3)) (fun jump=>(fun(zz:Value×Cells×(List Vl)×Cells)=>False)) (⟨zS,[],[],[]⟩) ⟨ax.nil _ _ _,rfl,fun _ _=> .nil,hLn⟩ [2,0,1] ?_ ?_ ?_
 ·
  rintro bl7 bd7 kk7 vs7 LL7 ⟨vl,Lt,ts,Z⟩ ro7 hk7 aRX hI sA
  obtain⟨x7,t7,hx7,rfl,hR7⟩:=aRX
  dsimp only at hI
  have bR:=(List.getElem?_eq_some_iff.1 hx7).1
  refine zD 1<|jn fun b8=>jd 2 [0]<|aBv<|jd 4 [2,0]<|jn fun nE=>jE (sz:=3) (ps:=ts) (qs:=[(⟨t7.a,t7.n,t7.c,t7.ea,t7.en,t7.ec,t7.r⟩:Vl)]) (enc:=ahS) (w:= .slice (some ⟨nE,0,none⟩) 1 1) [4] [0] [(nE,.cells ⟨([(⟨t7.a,t7.n,t7.c,t7.ea,t7.en,t7.ec,t7.r⟩:Vl)].map ahS).flatten⟩ 181 (0,0))] (hI.1) (fun s _ hZ=>bS [(⟨t7.a,t7.n,t7.c,t7.ea,t7.en,t7.ec,t7.r⟩:Vl)] (hZ _ (.head _)) (by intro p hp;rfl)) (fun p _=>ai rfl) (by simp only[List.length_cons,List.length_nil];omega) (fun v23 L23 za=>?_)
  obtain⟨aLX,aLF,auT⟩:=za.form
  subst auT
  refine jd 2 [4]<|jyn Zf (Sub.refl _) ⟨(.slice aLX ((ts++[(⟨t7.a,t7.n,t7.c,t7.ea,t7.en,t7.ec,t7.r⟩:Vl)])).length aLF),L23,(ts++[(⟨t7.a,t7.n,t7.c,t7.ea,t7.en,t7.ec,t7.r⟩:Vl)]),LL7++Z⟩ ⟨za,by simp only[List.length_append,List.length_cons,List.length_nil];omega,fun aF hk=>ql (hI.2.2.1 aF (Knows.right hk)) hx7 (hR7 aF (Knows.left hk)),hI.2.2.2⟩ [3,4,0,6,5]
 ·
  rintro bd7 ⟨vl,Lt,ts,Z⟩ Z7 hI hZ7
  dsimp only at hI
  subst hZ7
  refine jd 9 [2]<|aPl qm0.a.a.m (.tuple ⟨[zP Sa,vl,zI 0]⟩) [0] [] [2,3] (Lt++Z) (Sub.refl _) ⟨_,_,_,rfl,rfl,(cd.trans lL),Sa,vl,ts,Lt,Z,rfl,Is.up lL,rfl,hI.1,hI.2.1,by have:=hI.2.2.1;rwa[List.take_of_length_le (Nat.le_refl _)] at this⟩
 rintro bd7 ⟨vl,Lt,ts,Z⟩ Z7 jump hS hZ7
 exact hS.elim
def wv(t:Vl):Value:= .slice t.a t.n t.c
theorem dg.maps{β γ δ:Type}{R:α→β→Prop}{T:γ→δ→Prop}{f:α→γ}{g:β→δ}(h:∀a b,R a b→T (f a) (g b)):∀ {l:List α} {m:List β},dg R l m→dg T (l.map f) (m.map g)
 | [],[],.nil=> .nil
 |_::_,_::_,.cons h1 h2=> .cons (h _ _ h1) (dg.maps h h2)
theorem Zn{y:ak}{l:List ak}(h:y∈l):cX (pK y.h y.n y.l) l 0≥0:=by
 have key:∀(l:List ak) (k:Nat),y∈l→cX (pK y.h y.n y.l) l k≥0:=by
  intro l
  induction l with
  |nil=>intro k h;cases h
  |cons x l ih=>
   intro k h
   simp only[cX]
   cases hx:pK y.h y.n y.l x with
   |true=>simp
   |false=>
    simp only[cond_false]
    rcases List.mem_cons.1 h with rfl|h
    ·simp[pK] at hx
    exact ih _ h
 exact key l 0 h
theorem amO{fa:Option Addr}{S:List (List ah)}{ro:Nat→Option Obj}(hS:cP ro vS S)(hO:fF S)(hT:ou ro vT ways)(hW:yB ways):eS zT 85 [.agg ⟨[vS,vT,.slice fa 0 fc]⟩] ro [] (fun r Y=>∃a n c,r= .tuple ⟨[.slice a n c,zI 0]⟩∧n=((cW S ways).map (·.ways)).length∧∀kF,Knows kF Y→aiD kF (.slice a n c) ((cW S ways).map (·.ways))):=by
 have yp:=hS
 obtain⟨iM,hs,fN⟩:=hS
 obtain⟨mW,S5,S3,lV,rfl,S4,LX,LW⟩:=hs
 obtain⟨jk,ht,fI⟩:=id hT
 obtain⟨fD,AF,AD,eA,rfl,AE,sL,sJ⟩:=ht
 have Il:=fN.len
 have ED:=fI.len
 have I3:=hO.two
 have A0:=hW.one
 have NY:∀(i:Nat) (p:cU),([]:List cU)[i]?=some p→cv ⟨ro,[]⟩ 0 (0+i*6) 6 (ny p):=fun _ _ h=>oP h
 have hLn:=FO (S:=S) hW
 refine bC au [] [] bu<|zD 2<|jn fun b1=>jd 6 [0]<|jcG (vs:=[.agg ⟨[.slice mW iM.length lV,.slice fD jk.length eA,.slice fa 0 fc]⟩]) [] (ahk yp hO hT hW) ?_
 rintro _ aB _ cd ⟨kg,vl,ts,Lt,Z,rfl,Is,rfl,hL,htl,hA⟩
 obtain⟨uS,uT,uH,ua,uc,gb,_,_,hh⟩:=Is
 obtain⟨dS,vk,vi,dB,rfl,xw,q8,q7⟩:=hh
 obtain⟨aLZ,aLH,aSj⟩:=hL.form
 subst aSj
 refine jg 0 [.l Lt,.l Z]<|zD 28<|py<|eO [1,1,1,1,0,1,0,0] [] (fun(zz:Nat×Value×Cells)=>[(2,zS),(3,zI 0),(7,zz.2.1),(19,(.slice aLZ ts.length aLH)),(20,zI (ts.length:Int)),(21,zI (zz.1:Int))]) (fun(zz:Nat×Value×Cells)=>[.l zz.2.2,.l Lt,.l Z,.b b1 (.cells ⟨[.slice mW iM.length lV,.slice fD jk.length eA,.slice fa 0 fc]⟩ 29 (0,0))]) (fun(zz:Nat×Value×Cells)=>zz.1≤ts.length∧ax zz.2.1 1 22 gJ ((ts.take zz.1).map wv) zz.2.2) (fun(zz:Nat×Value×Cells)=>ts.length-zz.1) (⟨0,zS,[]⟩) ⟨by dsimp only;omega,ax.nil _ _ _⟩ [0,1,2,3] ?_
 rintro⟨k,vO,LO⟩ hI K1 bG rest
 dsimp only at hI
 refine zD 5<|zJ 22 ((k:Int) <(ts.length:Int)) (fun h2=>?_) fun h2=>?_
 ·
  refine zD 6 ?_
  obtain⟨vG,tt⟩:=zG ts k
  refine jxo 3 hL tt fun b23 aS4=>px 0 [1] Lt (fun s _ hZ=>cD hL aS4 hZ tt)<|jn fun b9=>jd 6 [0,0]<|jn fun b28=>jE (sz:=1) (ps:=((ts.take k).map wv)) (qs:=[(.slice vG.a vG.n vG.c:Value)]) (enc:=gJ) (w:= .slice (some ⟨b28,0,none⟩) 1 1) [2] [0] [(b28,.cells ⟨([(.slice vG.a vG.n vG.c:Value)].map gJ).flatten⟩ 22 (0,0))] (hI.2) (fun s _ hZ=>bS [(.slice vG.a vG.n vG.c:Value)] (hZ _ (.head _)) (by intro p hp;rfl)) (by intro p hp;rw[List.mem_singleton] at hp;subst hp;exact ai rfl) (by simp only[List.length_map,List.length_take,List.length_cons,List.length_nil];omega) (fun v29 L29 G3=>?_)
  obtain⟨abO,abH,afV⟩:=G3.form
  subst afV
  refine zD 3<|ja ((k:Int)+1) (by omega)<|zD 2<|bF bG (⟨k+1,(.slice abO ((((ts.take k).map wv)++[(.slice vG.a vG.n vG.c:Value)])).length abH),L29⟩) ⟨by dsimp only;omega,by rw[fL tt,List.map_append];exact G3⟩ (by dsimp only;omega) [0,3,4,5] (Sub.refl _)
 refine zD 3 ?_
 obtain⟨va3,vc3,he3⟩:=hI.2.form
 subst he3
 refine zD 6<|aH q0.a (.tuple ⟨[(.slice va3 (((ts.take k).map wv)).length vc3),zI 0]⟩) [] [0,2] (LO++Z) cd ⟨_,_,rfl,rfl,_,_,_,rfl,by simp only[List.length_map,List.length_take];omega,fun kF hk=>⟨_,hI.2.lR (Knows.left hk),by rw[List.take_of_length_le (by omega)];exact(hA kF (Knows.right hk)).maps fun _ _ h=>h.1⟩⟩
theorem avS{fa:Option Addr}{S:List (List ah)}{y:ak}{x:TrD}{ro:Nat→Option Obj}(hS:cP ro vS S)(hO:fF S)(hT:ou ro vT ways)(hW:yB ways)(hy:y∈bB S)(hLx:cW S ways=[x]):eS zT 64 [.agg ⟨[vS,vT,.slice fa 0 fc]⟩,.agg ⟨[zI y.h,zI y.n,zI y.l]⟩] ro [] (fun r Y=>∃a n c,r= .tuple ⟨[.slice a n c,zI 0]⟩∧∀kF,Knows kF Y→bE kF (.slice a n c) 3 cF [x.g y]):=by
 have yp:=hS
 obtain⟨iM,hs,fN⟩:=hS
 obtain⟨mW,S5,S3,lV,rfl,S4,LX,LW⟩:=hs
 obtain⟨jk,ht,fI⟩:=id hT
 obtain⟨fD,AF,AD,eA,rfl,AE,sL,sJ⟩:=ht
 have Il:=fN.len
 have ED:=fI.len
 have I3:=hO.two
 have A0:=hW.one
 have NY:∀(i:Nat) (p:cU),([]:List cU)[i]?=some p→cv ⟨ro,[]⟩ 0 (0+i*6) 6 (ny p):=fun _ _ h=>oP h
 have hhl:=uz hO
 have hph:=Zn hy
 have BG:(cW S ways).length=1:=by rw[hLx];rfl
 refine bC au [] [] bu<|zD 2<|jn fun b2=>jn fun b3=>jd 6 [1]<|jcG (vs:=[.agg ⟨[.slice mW iM.length lV,.slice fD jk.length eA,.slice fa 0 fc]⟩]) [] (ahk yp hO hT hW) ?_
 rintro _ aB _ cd ⟨Yi,vl,ts,Lt,Z,rfl,Is,rfl,hL,htl,hA⟩
 obtain⟨uS,uT,uH,ua,uc,gb,_,_,hh⟩:=Is
 obtain⟨dS,vk,vi,dB,rfl,xw,q8,q7⟩:=hh
 obtain⟨FK,D9,vw⟩:=hL.form
 subst vw
 refine jg 0 [.l Lt,.l Z]<|zD 22<|jl (b:=Yi) (off:=0) (m:=4) (vs:=[uS,uT,.slice ua 0 uc,.slice dS ((bB S).length) dB]) 3 ⟨_,_,_,.inl gb,rfl⟩<|jd 1 [2]<|jp (vs:=[.slice dS ((bB S).length) dB,.agg ⟨[zI y.h,zI y.n,zI y.l]⟩]) [] [] (fun aB hs hZ=>Kk ((show bE _ _ _ _ _ from ⟨dS,vk,vi,dB,rfl,xw,q8,q7⟩).up hs) (by omega))<|zD 2<|js 27 (!(decide (cX (pK y.h y.n y.l) (bB S) 0≥0))) (fun h2=>?_) (fun h2=>?_)
 ·
  exfalso;simp_all
 refine zD 9<|zJ 30 ((ts.length:Int)=0) (fun h3=>?_) fun h3=>?_
 ·
  exfalso;omega
 refine zD 5<|jf [0,1] (Lt++Z) (fun ro6 lL hk5=>?_)
 have hLs:=hL.lR (Knows.left hk5)
 have hAs:=hA _ (Knows.right hk5)
 obtain⟨lG,Ic,Ib,lF,RP,NZ,Gc,Gb⟩:=hLs
 simp only[Value.slice.injEq] at RP
 obtain⟨rfl,_,rfl⟩:=RP
 refine zD 9<|py<|eO [1,1,1,1,1,1,0,1,0,0] [] (fun(zz:Nat×Value×Cells)=>[(3,zP b3),(4,zS),(5,zI 0),(9,zz.2.1),(31,.slice FK ts.length D9),(32,zI (ts.length:Int)),(33,zI (zz.1:Int))]) (fun(zz:Nat×Value×Cells)=>[.l zz.2.2,.b b3 (.cells ⟨[zI y.h,zI y.n,zI y.l]⟩ 144 (0,0)),.b b2 (.cells ⟨[.slice mW iM.length lV,.slice fD jk.length eA,.slice fa 0 fc]⟩ 29 (0,0))]) (fun(zz:Nat×Value×Cells)=>zz.1≤ts.length∧ax zz.2.1 3 144 cF ([x.g y].take zz.1) zz.2.2) (fun(zz:Nat×Value×Cells)=>ts.length-zz.1) (⟨0,zS,[]⟩) ⟨by dsimp only;omega,ax.nil _ _ _⟩ [0,1,2] ?_
 rintro⟨k,vO,LO⟩ hI K1 bG rest
 dsimp only at hI
 refine zD 5<|zJ 34 ((k:Int) <(ts.length:Int)) (fun h7=>?_) fun h7=>?_
 ·
  refine zD 6 ?_
  obtain⟨x35,TO⟩:=zG ts k
  refine jb D9 3 Gc TO<|jl 0 (Gb _ _ TO)<|jn fun Sa=>jd 2 [0] ?_
  obtain⟨q35,aB9,_,bgo,bgr,F35,aRm,aTZ,aRz,aQe⟩:=hAs.get TO
  obtain⟨hqe,hk0⟩:=Gp (by rw[hLx] at aB9;exact aB9)
  replace hqe:=hqe.symm
  subst hqe
  refine jd 5 [0,2]<|jlu (kv:=pq) (F:=F35) (r:=x35.r) (K:=144) y (zS) false [] [] DE (fun s he _=>⟨_,_,he _ _ (.inl aRm),aTZ⟩) ?_
  obtain⟨w41,aP5,aRk⟩:=WM (k:=y) (F:=F35) (aRz y hy)
  have hww:bE _ w41 3 cF [x.g y]:=aQe _ aRk
  obtain⟨S0,qwb,qwo,LQ,rfl,qwk,qwh,qwl⟩:=hww
  refine jw 41 (.slice S0 ([x.g y].length) LQ) (show PX (zS) false y F35=_ from by simp only[PX,aP5];rfl) ?_
  refine jE (sz:=3) (ps:=([x.g y].take k)) (qs:=[x.g y]) (enc:=cF) (w:= .slice S0 ([x.g y].length) LQ) [1] [] [] (hI.2) (fun s he _=>⟨S0,qwb,qwo,LQ,rfl,qwh,fun i p hp=>(qwl i p hp).ext he⟩) (fun p _=>ai rfl) (by simp only[List.length_take,List.length_cons,List.length_nil];omega) (fun v42 L42 afa=>?_)
  obtain⟨aLQ,aLy,aSc⟩:=afa.form
  subst aSc
  refine zD 3<|ja ((k:Int)+1) (by omega)<|zD 2<|bF bG (⟨k+1,(.slice aLQ ((([x.g y].take k)++[x.g y])).length aLy),L42⟩) ⟨by dsimp only;omega,by have:=afa;rw[hk0] at this ⊢;exact this⟩ (by dsimp only;omega) [0,2,3] (Sub.refl _)
 refine zD 5<|jcL (vs:=[vO]) [] [0] LO (fun aB hs hZ=>XJ (hI.2.lR hZ) (by simp only[List.length_take,List.length_cons,List.length_nil];omega)) ?_
 rintro v45 L45 aCm
 obtain⟨YC,Yy,afR⟩:=aCm.form
 subst afR
 refine zD 4<|aH q0.a.a (.tuple ⟨[(.slice YC (([x.g y].take k)).length Yy),zI 0]⟩) [] [0] L45 (cd.trans lL) ⟨_,_,rfl,rfl,_,_,_,rfl,fun kF hk=>by have:=aCm.lR hk;have e: [x.g y].take k=[x.g y]:=List.take_of_length_le (by simp only[List.length_cons,List.length_nil];omega);simpa only[e] using this⟩
def Zl(S:List (List ah))(ways:List (List aM))(w:List Int)(x:aI):List ak:=match ways,w with
 |l::_,i::_=>(match l[i.toNat]? with
  |some c=>[yX S c ⟨x.st,x.no,0⟩]
  |none=>[])
 |_,_=>[⟨x.st,x.no,0⟩]
def WW(K:aP):List (List Int):=(cW K.str K.ways).map (·.ways)
theorem Vk{l:List aM}{w:List Int}(h:K.ways=[l])(hw:w∈WW K):∃(i:Nat) (c:aM),l[i]?=some c∧w=[(i:Int)]:=by
 simp only[WW,h,cW,List.map_map,List.mem_map,List.mem_range,Function.comp,aqT] at hw
 obtain⟨i,hi,rfl⟩:=hw
 exact⟨i,l[i],List.getElem?_eq_getElem hi,rfl⟩
theorem mH.wp(h:mH K):yB K.ways:=⟨h.ways.1,fun l hl=>⟨⟨(h.ways.2 l hl).1.1,by have:=(h.ways.2 l hl).1.2;omega⟩,(h.ways.2 l hl).2⟩⟩
theorem Wq(h:mH K):K.ways=[]∨∃l,K.ways=[l]:=by
 have:=h.ways.1
 match hw:K.ways,this with
 | [],_=>exact .inl rfl
 | [l],_=>exact .inr ⟨l,rfl⟩
theorem abx(h:mH K):Vj K (WW K):=by
 rcases Wq h with e| ⟨l,e⟩
 ·exact⟨by simp[WW,e,cW],fun w hw=>by simp[WW,e,cW] at hw;simp[hw,e],fun w hw k l n hl=>by simp[e] at hl⟩
 have hl:=(h.ways.2 l (by simp[e])).1
 refine⟨by simp[WW,e,cW];omega,fun w hw=>?_,fun w hw k l' n hk hn=>?_⟩
 ·obtain⟨i,c,_,rfl⟩:=Vk e hw;simp[e]
 obtain⟨i,c,hi,rfl⟩:=Vk e hw
 rw[e] at hk
 obtain⟨rfl,rfl⟩:=Gp hk
 obtain⟨rfl,_⟩:=Gp hn
 have:=(List.getElem?_eq_some_iff.1 hi).1
 omega
theorem abU{ro:Nat→Option Obj}(hK:gF ro l K)(hO:mH K):qX ro l (WW K):=by
 obtain⟨vS,vT,vc,vh,vr,vb,va,vf,fa,fc,hv,rfl,hS,hT,_⟩:=hK
 intro aB hs
 exact amO (hS.up hs) hO.qy (hT.up hs) hO.wp
theorem Zr{S:List (List ah)}{x:aI}(h:anu S hd x):(⟨x.st,x.no,0⟩:ak)∈bB S:=by
 obtain⟨l,h1,h2⟩:=h.2
 have:=G6 h1 h2
 simp only[nn] at this
 rwa[show ((x.st.toNat:Nat):Int)=x.st by have:=h.1.2.2.1;omega] at this
theorem am4{l:List aM}{c:aM}(h:l[i]?=some c):(l.take ((i:Int).toNat+1)).drop (i:Int).toNat=[c]:=by
 rw[Int.toNat_natCast,fL h,List.drop_append_of_le_length (by have:=(List.getElem?_eq_some_iff.1 h).1;rw[List.length_take];omega),List.drop_eq_nil_of_le (by rw[List.length_take];omega)];rfl
theorem ajN{ro:Nat→Option Obj}(hK:gF ro l K)(hO:mH K):xP ro l K (WW K) (Zl K.str K.ways):=by
 obtain⟨vS,vT,vc,vh,vr,vb,va,vf,fa,fc,hv,rfl,hS,hT,_⟩:=hK
 intro w hw x hx
 have hy:=Zr (hO.before.2 x hx)
 have fin:∀(t:TrD),yB (Bm K.ways w)→cW K.str (Bm K.ways w)=[t]→Zl K.str K.ways w x=[t.g ⟨x.st,x.no,0⟩]→(Zl K.str K.ways w x).length≤1000∧∀aB,Sub ro aB→∀v vS' vT' vU r,[vS,vT,.slice fa 0 fc,vc,vh,vr,vb,va,zI K.gone,zI K.new,zI K.af,vf]=vS'::vT'::vU::r→ou aB v (Bm K.ways w)→
  eS zT 64 [.agg ⟨[vS',v,vU]⟩,.agg ⟨[zI x.st,zI x.no,zI 0]⟩] aB [] (fun r Y=>∃a n c,r= .tuple ⟨[.slice a n c,zI 0]⟩∧∀kF,Knows kF Y→bE kF (.slice a n c) 3 cF (Zl K.str K.ways w x)):=by
  intro t h1 h2 h3
  rw[h3]
  refine⟨by simp,fun aB hs v vS' vT' vU r he hv=>?_⟩
  simp only[List.cons.injEq] at he
  obtain⟨rfl,_,rfl,_⟩:=he
  exact avS (hS.up hs) hO.qy hv h1 hy h2
 rcases Wq hO with e| ⟨l,e⟩
 ·refine fin ⟨[],id⟩ ?_ ?_ ?_
  ·rw[e];exact⟨by simp[Bm],by simp[Bm]⟩
  ·rw[e];simp[Bm,cW]
  rw[e];rfl
 obtain⟨i,c,hi,rfl⟩:=Vk e hw
 have hc:Bm K.ways [(i:Int)]=[[c]]:=by rw[e];simp only[Bm,List.zipWith_cons_cons,List.zipWith_nil_right,am4 hi]
 refine fin ⟨[0],yX K.str c⟩ ?_ ?_ ?_
 ·rw[hc]
  refine⟨by simp,fun l' hl=>?_⟩
  rw[List.mem_singleton] at hl;subst hl
  exact⟨by simp,fun c' tz=>by rw[List.mem_singleton] at tz;subst tz;exact(hO.ways.2 l (by simp[e])).2 _ (List.mem_of_getElem? hi)⟩
 ·rw[hc];rfl
 rw[e];simp only[Zl,Int.toNat_natCast,hi]
def gp(K:aP):List bP:=(WW K).map (mo K (Zl K.str K.ways))
theorem kL(h:mH K):(gp K).length≤2:=by
 rw[gp,List.length_map];exact(abx h).n.2
theorem sH{ro:Nat→Option Obj}(hK:gF ro l K)(hO:mH K)(hV:gh K):lB ro l K (gp K):=
 ann hK hO hV (abx hO) (abU hK hO) (ajN hK hO)
def bY(K:aP):Nat:=(ep K (cb K) (dA K.gone K.new K.af) (gp K)).length
theorem Hq:∀(l:List Int) (a:Int),l.foldl min a≤a∧∀x∈l,l.foldl min a≤x
 | [],a=>⟨Int.le_refl _,fun _ h=>(by cases h)⟩
 |y::l,a=>by
  obtain⟨h1,h2⟩:=Hq l (min a y)
  refine⟨by simp only[List.foldl_cons];omega,fun x hx=>?_⟩
  rcases List.mem_cons.1 hx with rfl|hx
  ·simp only[List.foldl_cons];omega
  exact h2 x hx
theorem Mt{l:List Int}(h:x∈l):vq l≤x:=by
 cases l with
 |nil=>cases h
 |cons y l=>
  rcases List.mem_cons.1 h with rfl|h
  ·exact(Hq l _).1
  exact(Hq l _).2 x h
theorem alA{ro:Nat→Option Obj}(hK:gF ro l K)(hO:mH K)(hV:gh K):EW zT 44 [.agg ⟨l⟩] ro [] (fun r Y=>∃zs m e,zs.Perm (ep K (cb K) (fun _=>true) (gp K))∧Y=[]∧r= .tuple ⟨[zI m,zI e]⟩∧((zs=[]∧m=0∧e=9)∨(zs≠[]∧m=vq (zs.map FU)∧e=0))):=
 fun fr=>Fn.mono (asX hK hV (kL hO) (sH hK hO hV) fr) fun en s' ⟨v,Y,h1,h2,zs,h3,h4,h5⟩=>⟨v,Y,h1,h2,by
  rcases h5 with ⟨h5,h6⟩| ⟨h5,h6⟩
  ·exact⟨zs,0,9,h3,h4,h6,.inl ⟨h5,rfl,rfl⟩⟩
  exact⟨zs,_,0,h3,h4,h6,.inr ⟨h5,rfl,rfl⟩⟩⟩
theorem AV{ro:Nat→Option Obj}(hK:gF ro l K)(hO:mH K)(hV:gh K):EW zT 11 [.agg ⟨l⟩] ro [] (fun r Y=>r= .tuple ⟨[zI (bY K:Int),zI 0]⟩∧Y=[]):=aeh hK hV (kL hO) (sH hK hO hV)
def UU:List Int→List Int→Bool
 | [],[]=>true
 |x::l,y::m=>decide (x=y)&&UU l m
 |_,_=>false
theorem ahL:∀ {l m:List Int},¬l.length=m.length→UU l m=false
 | [],[],h=>absurd rfl h
 | [],_::_,_=>rfl
 |_::_,[],_=>rfl
 |x::l,y::m,h=>by rw[UU,ahL (l:=l) (m:=m) (by simpa using h),Bool.and_false]
theorem ahM(hx:xs[k]?=some x) (hy:ys[k]?=some y):UU (xs.drop k) (ys.drop k)=(decide (x=y)&&UU (xs.drop (k+1)) (ys.drop (k+1))):=by rw[gE hx,gE hy];rfl
theorem amW(hx:¬k <xs.length)(h:xs.length=ys.length):UU (xs.drop k) (ys.drop k)=true:=by rw[eY hx,eY (by omega)];rfl
def EM:List (List Int)→List (List Int)→Bool
 | [],[]=>true
 |x::l,y::m=>UU x y&&EM l m
 |_,_=>false
theorem XT:∀ {l m:List (List Int)},¬l.length=m.length→EM l m=false
 | [],[],h=>absurd rfl h
 | [],_::_,_=>rfl
 |_::_,[],_=>rfl
 |x::l,y::m,h=>by rw[EM,XT (l:=l) (m:=m) (by simpa using h),Bool.and_false]
theorem XU{xs ys:List (List Int)}{x y:List Int}(hx:xs[k]?=some x) (hy:ys[k]?=some y):EM (xs.drop k) (ys.drop k)=(UU x y&&EM (xs.drop (k+1)) (ys.drop (k+1))):=by rw[gE hx,gE hy];rfl
theorem ahK{xs ys:List (List Int)}(hx:¬k <xs.length)(h:xs.length=ys.length):EM (xs.drop k) (ys.drop k)=true:=by rw[eY hx,eY (by omega)];rfl
def yy:List Int→List Int→Int
 | [],[]=>0
 | [],_::_=> -1
 |_::_,[]=>1
 |x::xs,y::ys=>if rj x y=0 then yy xs ys else rj x y
theorem Rh(hx:xs[k]?=some x) (hy:ys[k]?=some y):yy (xs.drop k) (ys.drop k)=if rj x y=0 then yy (xs.drop (k+1)) (ys.drop (k+1)) else rj x y:=by rw[gE hx,gE hy];rfl
theorem aas(hx:xs[k]?=some x) (hy:¬k <ys.length):yy (xs.drop k) (ys.drop k)=1:=by rw[gE hx,eY hy];rfl
theorem KV(hx:¬k <xs.length):yy (xs.drop k) (ys.drop k)=if k <ys.length then-1 else 0:=by
 rw[eY hx]
 split
 ·rename_i h
  rw[List.drop_eq_getElem_cons h];rfl
 rename_i h
 rw[eY h];rfl
def mM(f:Int):Nat→List Int
 |0=>[]
 |k+1=>mM f k++(bif hasB f k then [(k:Int)] else [])
theorem alg(h:hasB f (k:Int)=true):mM f (k+1)=mM f k++[(k:Int)]:=by rw[mM,h];rfl
theorem alh(h:hasB f (k:Int)=false):mM f (k+1)=mM f k:=by rw[mM,h];exact List.append_nil _
theorem Kh(f:Int)(n:Nat):(mM f n).length≤n:=by
 induction n with
 |zero=>exact Nat.le_refl _
 |succ n ih=>rw[mM,List.length_append];cases hasB f (n:Int)<;>simp<;>omega
def yR(f:Int):Int:=([0,1,1,2,1,2,2,3,1,2,2,3,2,3,3,4]:List Int).getD f.toNat 0
theorem Wh(h:0≤f∧f <16):0≤yR f∧yR f≤8:=by
 obtain⟨n,rfl⟩:=Int.eq_ofNat_of_zero_le h.1
 have h2:n <16:=by omega
 revert h2
 exact(by decide:∀n:Nat,n <16→0≤yR (n:Int)∧yR (n:Int)≤8) n
def Rf(x y:Int):Int:=if yR x-yR y=0 then yy (mM x 4) (mM y 4) else yR x-yR y
theorem apR{v w:Value}{ro:Nat→Option Obj}(hv:bE ro v 1 cT xs)(hw:bE ro w 1 cT ys)(hx:xs.length≤1000)(hy:ys.length≤1000):dO zT 13 [v,w] ro (.bool (UU xs ys)):=by
 obtain⟨O9,qvb,qvo,Ee,rfl,qvk,S2,S1⟩:=hv
 obtain⟨S0,qwb,qwo,LQ,rfl,qwk,qwh,qwl⟩:=hw
 refine bC au [] [] bu<|zD 13<|js 10 (!decide ((xs.length:Int)=(ys.length:Int))) (fun h1=>?_) (fun h1=>?_)
 ·
  replace h1:=of_decide_eq_false (by simpa using h1)
  refine zD 6<|aH q0 (.bool false) [] [] [] (Sub.refl _) ⟨_,_,rfl,rfl,by rw[ahL (by omega)],rfl⟩
 replace h1:=of_decide_eq_true (by simpa using h1)
 refine zD 8<|eO [1,1,0,1,0,0] [] (fun(zz:Nat)=>[(0,.slice O9 xs.length Ee),(1,.slice S0 ys.length LQ),(5,zI (zz:Int))]) (fun(zz:Nat)=>[]) (fun(zz:Nat)=>zz≤xs.length∧UU xs ys=UU (xs.drop zz) (ys.drop zz)) (fun(zz:Nat)=>xs.length-zz) 0 ⟨by omega,rfl⟩ [] ?_
 rintro k hI K1 bG rest
 refine zD 8<|zJ 14 ((k:Int) <(xs.length:Int)) (fun h2=>?_) fun h2=>?_
 ·
  refine zD 8 ?_
  obtain⟨E4,x5⟩:=zG xs k
  refine jb Ee 1 S2 x5<|jl 0 (S1 _ _ x5)<|zD 2 ?_
  obtain⟨vG,tt⟩:=zG ys k
  refine jb LQ 1 qwh tt<|jl 0 (qwl _ _ tt)<|zD 2<|js 25 (!decide (E4=vG)) (fun h3=>?_) (fun h3=>?_)
  ·
   replace h3:=of_decide_eq_false (by simpa using h3)
   refine zD 6<|aH q0 (.bool false) [] [] [] (Sub.refl _) ⟨_,_,rfl,rfl,by rw[hI.2,ahM x5 tt,decide_eq_false (by omega),Bool.false_and],rfl⟩
  replace h3:=of_decide_eq_true (by simpa using h3)
  refine zD 4<|ja ((k:Int)+1) (by omega)<|zD 2<|bF bG (k+1) ⟨by omega,by rw[hI.2,ahM x5 tt,decide_eq_true (by omega),Bool.true_and]⟩ (by omega) [] (Sub.refl _)
 refine zD 7<|aH q0 (.bool true) [] [] [] (Sub.refl _) ⟨_,_,rfl,rfl,by rw[hI.2,amW (by omega) (by omega)],rfl⟩
theorem aPH{v w:Value}{ro:Nat→Option Obj}(hv:bE ro v 1 cT xs)(hw:bE ro w 1 cT ys)(hx:xs.length≤1000)(hy:ys.length≤1000):dO zT 71 [v,w] ro (zI (yy xs ys)):=by
 obtain⟨O9,qvb,qvo,Ee,rfl,qvk,S2,S1⟩:=hv
 obtain⟨S0,qwb,qwo,LQ,rfl,qwk,qwh,qwl⟩:=hw
 refine bC au [] [] bu<|zD 12<|eO [1,0,1,0,0] [] (fun(zz:Nat)=>[(0,.slice O9 xs.length Ee),(1,.slice S0 ys.length LQ),(9,.slice O9 xs.length Ee),(10,zI (xs.length:Int)),(11,zI (zz:Int))]) (fun(zz:Nat)=>[]) (fun(zz:Nat)=>(zz≤xs.length∧zz≤ys.length)∧yy xs ys=yy (xs.drop zz) (ys.drop zz)) (fun(zz:Nat)=>xs.length-zz) 0 ⟨by omega,rfl⟩ [] ?_
 rintro k hI K1 bG rest
 refine zD 5<|zJ 12 ((k:Int) <(xs.length:Int)) (fun h1=>?_) fun h1=>?_
 ·
  refine zD 7 ?_
  obtain⟨gi,eW⟩:=zG xs k
  refine jb Ee 1 S2 eW<|jl 0 (S1 _ _ eW)<|zD 11<|zJ 19 ((k:Int)≥(ys.length:Int)) (fun h2=>?_) fun h2=>?_
  ·
   refine zD 6<|aH q0 (zI 1) [] [] [] (Sub.refl _) ⟨_,_,rfl,rfl,by rw[hI.2,aas eW (by omega)],rfl⟩
  refine zD 6 ?_
  obtain⟨sI,uv⟩:=zG ys k
  refine jb LQ 1 qwh uv<|jl 0 (qwl _ _ uv)<|zD 6<|jp (vs:=[zI gi,zI sI]) [] [] (fun aB hs hZ=>avY)<|zD 7<|js 28 (!decide ((rj gi sI)=0)) (fun h3=>?_) (fun h3=>?_)
  ·
   replace h3:=of_decide_eq_false (by simpa using h3)
   refine zD 7<|aH q0 (zI (rj gi sI)) [] [] [] (Sub.refl _) ⟨_,_,rfl,rfl,by rw[hI.2,Rh eW uv,if_neg (by omega)],rfl⟩
  replace h3:=of_decide_eq_true (by simpa using h3)
  refine zD 3<|ja ((k:Int)+1) (by omega)<|zD 2<|bF bG (k+1) ⟨by omega,by rw[hI.2,Rh eW uv,if_pos (by omega)]⟩ (by omega) [] (Sub.refl _)
 refine zD 11<|zJ 35 ((xs.length:Int) <(ys.length:Int)) (fun h4=>?_) fun h4=>?_
 ·
  refine zD 6<|aH q0 (zI (-1)) [] [] [] (Sub.refl _) ⟨_,_,rfl,rfl,by rw[hI.2,KV (by omega),if_pos (by omega)],rfl⟩
 refine zD 7<|aH q0 (zI 0) [] [] [] (Sub.refl _) ⟨_,_,rfl,rfl,by rw[hI.2,KV (by omega),if_neg (by omega)],rfl⟩
theorem ahw{ro:Nat→Option Obj}:eS zT 38 [.int .u8 f] ro [] (fun r Y=>∃L,ax r 1 3 cT (mM f 4) L∧Y=L):=by
 refine bC au [] [] bu<|zD 14<|py<|eO [1,1,0,1,0,0] [] (fun(zz:Nat×Value×Cells)=>[(0,.int .u8 f),(2,zS),(3,zz.2.1),(5,zI (zz.1:Int))]) (fun(zz:Nat×Value×Cells)=>[.l zz.2.2]) (fun(zz:Nat×Value×Cells)=>zz.1≤4∧ax zz.2.1 1 3 cT (mM f zz.1) zz.2.2) (fun(zz:Nat×Value×Cells)=>4-zz.1) (⟨0,zS,[]⟩) ⟨by dsimp only;omega,ax.nil _ _ _⟩ [0] ?_
 rintro⟨k,v,L⟩ hI K1 bG rest
 dsimp only at hI
 have hll:=Kh f k
 refine zD 5<|zJ 6 ((k:Int) <4) (fun h1=>?_) fun h1=>?_
 ·
  refine zD 13<|jp (vs:=[.int .u8 f,zI (k:Int)]) [] [] (fun aB hs hZ=>(as1 (by omega)))<|zD 1<|js 10 (hasB f (k:Int)) (fun h2=>?_) (fun h2=>?_)
  ·
   refine zD 4<|jn fun Ah=>jE (sz:=1) (ps:=(mM f k)) (qs:=[(k:Int)]) (enc:=cT) (w:= .slice (some ⟨Ah,0,none⟩) 1 1) [1] [0] [(Ah,.cells ⟨([(k:Int)].map cT).flatten⟩ 3 (0,0))] (hI.2) (fun s _ hZ=>bS [(k:Int)] (hZ _ (.head _)) (by intro p hp;rfl)) (fun p _=>ai rfl) (by simp<;>omega) (fun v14 L14 uy=>?_)
   obtain⟨FK,D9,vw⟩:=uy.form
   subst vw
   refine zD 3<|ja ((k:Int)+1) (by omega)<|zD 2<|bF bG (⟨k+1,(.slice FK (((mM f k)++[(k:Int)])).length D9),L14⟩) ⟨by dsimp only;omega,by dsimp only;rw[alg (by assumption)];exact uy⟩ (by dsimp only;omega) [0] (Sub.refl _)
  refine zD 3<|ja ((k:Int)+1) (by omega)<|zD 2<|bF bG (⟨k+1,v,L⟩) ⟨by dsimp only;omega,by dsimp only;rw[alh (by assumption)];exact hI.2⟩ (by dsimp only;omega) [0] (Sub.refl _)
 refine zD 8<|aH q0 (v) [] [0] L (Sub.refl _) ⟨_,_,rfl,rfl,_,(by rw[←show k=4 by omega];exact hI.2),rfl⟩
theorem asU{ro:Nat→Option Obj}:dO zT 70 [.int .u8 0] ro (zI 0):=by
 refine bC au [] [] bu<|zD 12<|aH q0 (zI 0) [] [] [] (Sub.refl _) ⟨_,_,rfl,rfl,rfl,rfl⟩
theorem asT{ro:Nat→Option Obj}:dO zT 70 [.int .u8 1] ro (zI 1):=by
 refine bC au [] [] bu<|zD 12<|aH q0 (zI 1) [] [] [] (Sub.refl _) ⟨_,_,rfl,rfl,rfl,rfl⟩
theorem asS{ro:Nat→Option Obj}:dO zT 70 [.int .u8 2] ro (zI 1):=by
 refine bC au [] [] bu<|zD 12<|aH q0 (zI 1) [] [] [] (Sub.refl _) ⟨_,_,rfl,rfl,rfl,rfl⟩
theorem asR{ro:Nat→Option Obj}:dO zT 70 [.int .u8 3] ro (zI 2):=by
 refine bC au [] [] bu<|zD 12<|aH q0 (zI 2) [] [] [] (Sub.refl _) ⟨_,_,rfl,rfl,rfl,rfl⟩
theorem asQ{ro:Nat→Option Obj}:dO zT 70 [.int .u8 4] ro (zI 1):=by
 refine bC au [] [] bu<|zD 12<|aH q0 (zI 1) [] [] [] (Sub.refl _) ⟨_,_,rfl,rfl,rfl,rfl⟩
theorem asP{ro:Nat→Option Obj}:dO zT 70 [.int .u8 5] ro (zI 2):=by
 refine bC au [] [] bu<|zD 12<|aH q0 (zI 2) [] [] [] (Sub.refl _) ⟨_,_,rfl,rfl,rfl,rfl⟩
theorem asO{ro:Nat→Option Obj}:dO zT 70 [.int .u8 6] ro (zI 2):=by
 refine bC au [] [] bu<|zD 12<|aH q0 (zI 2) [] [] [] (Sub.refl _) ⟨_,_,rfl,rfl,rfl,rfl⟩
theorem asN{ro:Nat→Option Obj}:dO zT 70 [.int .u8 7] ro (zI 3):=by
 refine bC au [] [] bu<|zD 12<|aH q0 (zI 3) [] [] [] (Sub.refl _) ⟨_,_,rfl,rfl,rfl,rfl⟩
theorem asM{ro:Nat→Option Obj}:dO zT 70 [.int .u8 8] ro (zI 1):=by
 refine bC au [] [] bu<|zD 12<|aH q0 (zI 1) [] [] [] (Sub.refl _) ⟨_,_,rfl,rfl,rfl,rfl⟩
theorem asL{ro:Nat→Option Obj}:dO zT 70 [.int .u8 9] ro (zI 2):=by
 refine bC au [] [] bu<|zD 12<|aH q0 (zI 2) [] [] [] (Sub.refl _) ⟨_,_,rfl,rfl,rfl,rfl⟩
theorem alw{ro:Nat→Option Obj}:dO zT 70 [.int .u8 10] ro (zI 2):=by
 refine bC au [] [] bu<|zD 12<|aH q0 (zI 2) [] [] [] (Sub.refl _) ⟨_,_,rfl,rfl,rfl,rfl⟩
theorem alv{ro:Nat→Option Obj}:dO zT 70 [.int .u8 11] ro (zI 3):=by
 refine bC au [] [] bu<|zD 12<|aH q0 (zI 3) [] [] [] (Sub.refl _) ⟨_,_,rfl,rfl,rfl,rfl⟩
theorem alu{ro:Nat→Option Obj}:dO zT 70 [.int .u8 12] ro (zI 2):=by
 refine bC au [] [] bu<|zD 12<|aH q0 (zI 2) [] [] [] (Sub.refl _) ⟨_,_,rfl,rfl,rfl,rfl⟩
theorem als{ro:Nat→Option Obj}:dO zT 70 [.int .u8 13] ro (zI 3):=by
 refine bC au [] [] bu<|zD 12<|aH q0 (zI 3) [] [] [] (Sub.refl _) ⟨_,_,rfl,rfl,rfl,rfl⟩
theorem alr{ro:Nat→Option Obj}:dO zT 70 [.int .u8 14] ro (zI 3):=by
 refine bC au [] [] bu<|zD 12<|aH q0 (zI 3) [] [] [] (Sub.refl _) ⟨_,_,rfl,rfl,rfl,rfl⟩
theorem alq{ro:Nat→Option Obj}:dO zT 70 [.int .u8 15] ro (zI 4):=by
 refine bC au [] [] bu<|zD 12<|aH q0 (zI 4) [] [] [] (Sub.refl _) ⟨_,_,rfl,rfl,rfl,rfl⟩
theorem aoW{ro:Nat→Option Obj}(h:0≤f∧f <16):dO zT 70 [.int .u8 f] ro (zI (yR f)):=by
 obtain rfl|rfl|rfl|rfl|rfl|rfl|rfl|rfl|rfl|rfl|rfl|rfl|rfl|rfl|rfl|rfl:=(by omega:f=0∨f=1∨f=2∨f=3∨f=4∨f=5∨f=6∨f=7∨f=8∨f=9∨f=10∨f=11∨f=12∨f=13∨f=14∨f=15)
 ·exact asU
 ·exact asT
 ·exact asS
 ·exact asR
 ·exact asQ
 ·exact asP
 ·exact asO
 ·exact asN
 ·exact asM
 ·exact asL
 ·exact alw
 ·exact alv
 ·exact alu
 ·exact als
 ·exact alr
 exact alq
def LL(ro:Nat→Option Obj)(v:Value)(W:List (List Int)):Prop:=∃ws,bE ro v 1 gJ ws∧dg (fun w l=>bE ro w 1 cT l) ws W
theorem ahT{v w:Value}{ws us:List Value}{W U:List (List Int)}{ro:Nat→Option Obj}(hv:bE ro v 1 gJ ws)(hw:bE ro w 1 gJ us)(ha:dg (fun w l=>bE ro w 1 cT l) ws W)(hb:dg (fun w l=>bE ro w 1 cT l) us U)(hx:W.length≤1000)(hy:U.length≤1000)(hW:∀l∈W,l.length≤1000)(hU:∀l∈U,l.length≤1000):dO zT 22 [v,w] ro (.bool (EM W U)):=by
 obtain⟨O9,qvb,qvo,Ee,rfl,qvk,S2,S1⟩:=hv
 obtain⟨S0,qwb,qwo,LQ,rfl,qwk,qwh,qwl⟩:=hw
 have hla:=ha.len
 have hlb:=hb.len
 refine bC au [] [] bu<|zD 13<|js 10 (!decide ((ws.length:Int)=(us.length:Int))) (fun h1=>?_) (fun h1=>?_)
 ·
  replace h1:=of_decide_eq_false (by simpa using h1)
  refine zD 6<|aH q0 (.bool false) [] [] [] (Sub.refl _) ⟨_,_,rfl,rfl,by rw[XT (by omega)],rfl⟩
 replace h1:=of_decide_eq_true (by simpa using h1)
 refine zD 8<|eO [1,1,0,1,0,0] [] (fun(zz:Nat)=>[(0,.slice O9 ws.length Ee),(1,.slice S0 us.length LQ),(5,zI (zz:Int))]) (fun(zz:Nat)=>[]) (fun(zz:Nat)=>zz≤W.length∧EM W U=EM (W.drop zz) (U.drop zz)) (fun(zz:Nat)=>W.length-zz) 0 ⟨by omega,rfl⟩ [] ?_
 rintro k hI K1 bG rest
 refine zD 8<|zJ 14 ((k:Int) <(ws.length:Int)) (fun h2=>?_) fun h2=>?_
 ·
  refine zD 8 ?_
  obtain⟨E4,x5⟩:=zG ws k
  refine jb Ee 1 S2 x5 ?_
  obtain⟨l20,auj,h20⟩:=ha.get x5
  obtain aua:=hW _ (List.mem_of_getElem? auj)
  obtain⟨aAr,aOo,aOk,aAq,rfl,aOm,aOn,aOl⟩:=h20
  refine jl 0 (S1 _ _ x5)<|zD 2 ?_
  obtain⟨vG,tt⟩:=zG us k
  refine jb LQ 1 qwh tt ?_
  obtain⟨Tx,T7,h24⟩:=hb.get tt
  obtain aCI:=hU _ (List.mem_of_getElem? T7)
  obtain⟨arW,aAk,aAi,acX,rfl,aAj,akF,akE⟩:=h24
  refine jl 0 (qwl _ _ tt)<|jp (vs:=[.slice aAr l20.length aAq,.slice arW Tx.length acX]) [] [] (fun aB hs hZ=>apR ((show bE _ _ _ _ _ from ⟨aAr,aOo,aOk,aAq,rfl,aOm,aOn,aOl⟩).up hs) ((show bE _ _ _ _ _ from ⟨arW,aAk,aAi,acX,rfl,aAj,akF,akE⟩).up hs) aua aCI)<|zD 2<|js 26 (!(UU l20 Tx)) (fun h3=>?_) (fun h3=>?_)
  ·
   try simp only[zB] at h3
   refine zD 6<|aH q0 (.bool false) [] [] [] (Sub.refl _) ⟨_,_,rfl,rfl,by rw[hI.2,XU auj T7];simp_all,rfl⟩
  try simp only[zB] at h3
  refine zD 4<|ja ((k:Int)+1) (by omega)<|zD 2<|bF bG (k+1) ⟨by omega,by rw[hI.2,XU auj T7];simp_all⟩ (by omega) [] (Sub.refl _)
 refine zD 7<|aH q0 (.bool true) [] [] [] (Sub.refl _) ⟨_,_,rfl,rfl,by rw[hI.2,ahK (by omega) (by omega)],rfl⟩
theorem PY:(mM f 4).length≤1000:=Nat.le_trans (Kh f 4) (by decide)
def Es:Nat→List Int→List Int
 |0,ys=>ys
 |j+1,ys=>if Rf (ys.getD (j+1) 0) (ys.getD j 0) <0 then Es j ((ys.set (j+1) (ys.getD j 0)).set j (ys.getD (j+1) 0)) else ys
def FX:Nat→Nat→List Int→List Int
 |0,_,ys=>ys
 |n+1,i,ys=>FX n (i+1) (Es i ys)
def Dq(xs:List Int):List Int:=FX (xs.length-1) 1 xs
theorem ZH(h:¬j>0):Es j.toNat ys=ys:=by rw[show j.toNat=0 by omega];rfl
theorem amM(h:ys[i]?=some x):ys.getD i 0=x:=by rw[List.getD_eq_getElem?_getD,h];rfl
theorem ZI(hj:j>0)(hx:ys[j.toNat]?=some x) (hy:ys[(j-1).toNat]?=some y) (h:¬Rf x y <0):Es j.toNat ys=ys:=by
 have e:j.toNat=(j-1).toNat+1:=by omega
 rw[e] at hx ⊢
 rw[Es,amM hx,amM hy,if_neg h]
theorem W8{x' y':Int}(hj:j>0)(hx:ys[j.toNat]?=some x) (hy:ys[(j-1).toNat]?=some y) (mA:ys[j.toNat]?=some x') (ZK:ys[(j-1).toNat]?=some y') (h:Rf x y <0):Es j.toNat ys=Es (j-1).toNat ((ys.set j.toNat y').set (j-1).toNat x'):=by
 rw[hx] at mA;rw[hy] at ZK;cases mA;cases ZK
 have e:j.toNat=(j-1).toNat+1:=by omega
 rw[e] at hx ⊢
 rw[Es,amM hx,amM hy,if_pos h]
def NN(v:Value)(xs:List Int)(Y:Cells):Prop:=∃ys,ys=Dq xs∧ax v 1 99 R9 ys Y
theorem SF{i:Int}(h:Dq xs=FX (n-i.toNat) i.toNat ys)(hi:0≤i∧i <n):Dq xs=FX (n-(i+1).toNat) (i+1).toNat (Es i.toNat ys):=by
 rw[h,show n-i.toNat=(n-(i+1).toNat)+1 by omega,show (i+1).toNat=i.toNat+1 by omega];rfl
theorem YM{i:Int}(h:Dq xs=FX (n-i.toNat) i.toNat ys)(hi:¬i <n):ys=Dq xs:=by
 rw[h,show n-i.toNat=0 by omega];rfl
theorem aO7{ro:Nat→Option Obj}(hx:0≤x∧x <16)(hy:0≤y∧y <16):dO zT 69 [.int .u8 x,.int .u8 y] ro (zI (Rf x y)):=by
 have hpx:=Wh hx
 have hpy:=Wh hy
 refine bC au [] [] bu<|zD 8<|jp (vs:=[.int .u8 x]) [] [] (fun aB hs hZ=>(aoW hx))<|zD 1<|jp (vs:=[.int .u8 y]) [] [] (fun aB hs hZ=>(aoW hy))<|ja ((yR x)-(yR y)) (by omega)<|zD 7<|js 12 (!decide (((yR x)-(yR y))=0)) (fun h1=>?_) (fun h1=>?_)
 ·
  replace h1:=of_decide_eq_false (by simpa using h1)
  refine zD 7<|aH q0 (zI ((yR x)-(yR y))) [] [] [] (Sub.refl _) ⟨_,_,rfl,rfl,by rw[Rf,if_neg (by omega)],rfl⟩
 replace h1:=of_decide_eq_true (by simpa using h1)
 refine zD 5<|jc (vs:=[.int .u8 x]) [] (ahw) ?_
 rintro v15 L15 ⟨_,afq,rfl⟩
 refine zD 1<|jc (vs:=[.int .u8 y]) [] (ahw) ?_
 rintro v17 L17 ⟨_,Cy,rfl⟩
 refine jp (vs:=[v15,v17]) [1,0] (L15++L17) (fun aB hs hZ=>aPH (afq.lR hZ.left) (Cy.lR hZ.right) PY PY)<|zD 3<|aH q0 (zI (yy (mM x 4) (mM y 4))) [] [] [] (Sub.refl _) ⟨_,_,rfl,rfl,by rw[Rf,if_pos (by omega)],rfl⟩
theorem aO6{v:Value}{L:Cells}{ro:Nat→Option Obj}(ho:ax v 1 99 R9 xs L)(hN:xs.length≤12)(hM:∀m∈xs,0≤m∧m <16):eS zT 123 [v,zI 0,zI (xs.length:Int),.func (.func 69) ⟨[]⟩ ⟨[]⟩] ro L (fun r Y=>NN v xs Y):=by
 refine bC au [.l L] [] bu<|zD 7<|eO [1,0,0] [] (fun(zz:Int×(List Int)×Cells)=>[(0,v),(1,zI 0),(2,zI (xs.length:Int)),(3,.func (.func 69) ⟨[]⟩ ⟨[]⟩),(8,zI zz.1)]) (fun(zz:Int×(List Int)×Cells)=>[.l zz.2.2]) (fun(zz:Int×(List Int)×Cells)=>(1≤zz.1)∧ax v 1 99 R9 zz.2.1 zz.2.2∧zz.2.1.Perm xs∧Dq xs=FX (xs.length-zz.1.toNat) zz.1.toNat zz.2.1) (fun(zz:Int×(List Int)×Cells)=>((xs.length:Int)-zz.1).toNat) (⟨1,xs,L⟩) ⟨by dsimp only;omega,ho,.refl _,rfl⟩ [0] ?_
 rintro⟨i,ys,L⟩ hI K1 bG rest
 dsimp only at hI
 have Xa:=hI.2.2.1.length_eq
 have hym:∀m∈ys,0≤m∧m <16:=fun m hm=>hM m (hI.2.2.1.mem_iff.1 hm)
 refine zD 7<|zJ 14 (i <(xs.length:Int)) (fun h1=>?_) fun h1=>?_
 ·
  refine zD 10<|eO [1,0,0,1,0,0,1,0,0] [K1] (fun(zz:Int×(List Int)×Cells)=>[(0,v),(1,zI 0),(2,zI (xs.length:Int)),(3,.func (.func 69) ⟨[]⟩ ⟨[]⟩),(8,zI i),(9,zI zz.1)]) (fun(zz:Int×(List Int)×Cells)=>[.l zz.2.2]) (fun(zz:Int×(List Int)×Cells)=>(0≤zz.1∧zz.1≤i)∧ax v 1 99 R9 zz.2.1 zz.2.2∧zz.2.1.Perm xs∧Dq xs=FX (xs.length-(i+1).toNat) (i+1).toNat (Es zz.1.toNat zz.2.1)) (fun(zz:Int×(List Int)×Cells)=>zz.1.toNat) (⟨i,ys,L⟩) ⟨by dsimp only;omega,hI.2.1,hI.2.2.1,SF hI.2.2.2 (by omega)⟩ [0] ?_
  rintro⟨j,ys,L⟩ hJ K2 mg rest
  dsimp only at hJ
  have Xa:=hJ.2.2.1.length_eq
  have hym:∀m∈ys,0≤m∧m <16:=fun m hm=>hM m (hJ.2.2.1.mem_iff.1 hm)
  refine zD 7<|js 3 (decide (j>0)) (fun h2=>?_) (fun h2=>?_)
  ·
   have lM:=h2
   replace lM:=of_decide_eq_true lM
   refine zD 3 ?_
   obtain⟨yD,ma⟩:=zG ys (j.toNat) (by first|omega| (simp only[List.length_set];omega))
   refine qD j 1 hJ.2.1 ma (Int.toNat_of_nonneg (show 0≤j∧j <((ys).length:Int) from (by first|omega| (simp only[List.length_set];omega))).1).symm (fun eg af9=>?_)
   refine px 0 [0] L (fun s _ hZ=>cD hJ.2.1 af9 hZ ma)<|zD 2<|ja (j-1) (by omega) ?_
   obtain⟨oG,jF⟩:=zG ys ((j-1).toNat) (by first|omega| (simp only[List.length_set];omega))
   refine qD (j-1) 1 hJ.2.1 jF (Int.toNat_of_nonneg (show 0≤(j-1)∧(j-1) <((ys).length:Int) from (by first|omega| (simp only[List.length_set];omega))).1).symm (fun b30 Ui=>?_)
   refine px 0 [0] L (fun s _ hZ=>cD hJ.2.1 Ui hZ jF)<|aD 14 fun rZ r8 qL=>jp (vs:=[.int .u8 yD,.int .u8 oG]) [] [] (fun aB hs hZ=>(aO7 (hym _ (List.mem_of_getElem? ma)) (hym _ (List.mem_of_getElem? jF))))<|ba qL [0]<|zD 3<|zJ 34 ((Rf yD oG) <0) (fun h4=>?_) fun h4=>?_
   ·
    refine zD 9<|ja (j-1) (by omega)<|zD 2<|ja (j-1) (by omega) ?_
    obtain⟨xS,Ey⟩:=zG ys ((j-1).toNat) (by first|omega| (simp only[List.length_set];omega))
    refine qD (j-1) 1 hJ.2.1 Ey (Int.toNat_of_nonneg (show 0≤(j-1)∧(j-1) <((ys).length:Int) from (by first|omega| (simp only[List.length_set];omega))).1).symm (fun b45 af8=>?_)
    refine px 0 [0] L (fun s _ hZ=>cD hJ.2.1 af8 hZ Ey)<|zD 2 ?_
    obtain⟨Iy,Ex⟩:=zG ys (j.toNat) (by first|omega| (simp only[List.length_set];omega))
    refine qD j 1 hJ.2.1 Ex (Int.toNat_of_nonneg (show 0≤j∧j <((ys).length:Int) from (by first|omega| (simp only[List.length_set];omega))).1).symm (fun b49 af7=>?_)
    refine px 0 [0] L (fun s _ hZ=>cD hJ.2.1 af7 hZ Ex) ?_
    obtain⟨x51,Ew⟩:=zG ys (j.toNat) (by first|omega| (simp only[List.length_set];omega))
    refine qD j 1 hJ.2.1 Ew (Int.toNat_of_nonneg (show 0≤j∧j <((ys).length:Int) from (by first|omega| (simp only[List.length_set];omega))).1).symm (fun b51 af6=>?_)
    refine aD 15 fun sN sU ri=>RL 0 0 [.int .u8 xS] xS hJ.2.1 af6 Ew rfl rfl (Nat.le_of_ble_eq_true rfl) fun L6 ZW=>iB ri [] ?_
    obtain⟨x52,wE⟩:=zG ((ys.set j.toNat xS)) ((j-1).toNat) (by first|omega| (simp only[List.length_set];omega))
    refine qD (j-1) 1 ZW wE (Int.toNat_of_nonneg (show 0≤(j-1)∧(j-1) <(((ys.set j.toNat xS)).length:Int) from (by first|omega| (simp only[List.length_set];omega))).1).symm (fun b52 af5=>?_)
    refine aD 17 fun Aj Av A5=>RL 0 0 [.int .u8 Iy] Iy ZW af5 wE rfl rfl (Nat.le_of_ble_eq_true rfl) fun L9 afr=>cw A5<|zD 3<|ja (j-1) (by omega)<|zD 2<|bF mg (⟨(j-1),((ys.set j.toNat xS).set ((j-1).toNat) Iy),L9⟩) ⟨by dsimp only;omega,afr,(nY Ex Ey).trans hJ.2.2.1,by dsimp only;rw[hJ.2.2.2,W8 (by omega) ma jF Ex Ey (by assumption)]⟩ (by dsimp only;omega) [0] (Sub.refl _)
   refine zD 4<|ja (i+1) (by omega)<|zD 2<|bF bG (⟨(i+1),ys,L⟩) ⟨by dsimp only;omega,hJ.2.1,hJ.2.2.1,by dsimp only;rw[hJ.2.2.2,ZI (by omega) ma jF (by assumption)]⟩ (by dsimp only;omega) [0] (Sub.refl _)
  have lM:=h2
  replace lM:=of_decide_eq_false lM
  refine zD 18<|ja (i+1) (by omega)<|zD 2<|bF bG (⟨(i+1),ys,L⟩) ⟨by dsimp only;omega,hJ.2.1,hJ.2.2.1,by dsimp only;rw[hJ.2.2.2,ZH (by omega)]⟩ (by dsimp only;omega) [0] (Sub.refl _)
 refine zD 2<|aH q0 (.tuple ⟨[]⟩) [] [0] L (Sub.refl _) ⟨_,_,rfl,rfl,ys,YM hI.2.2.2 (by omega),hI.2.1⟩
theorem ans(h:K.facts.length≤3):IntKind.u8.wrap (cb K+1)=((2^K.facts.length:Nat):Int):=by
 unfold cb
 generalize K.facts.length=n at h
 obtain rfl|rfl|rfl|rfl:n=0∨n=1∨n=2∨n=3:=by omega
 all_goals decide
theorem akI(h:n≤3):2^n≤8:=by
 obtain rfl|rfl|rfl|rfl:n=0∨n=1∨n=2∨n=3:=by omega
 all_goals decide
theorem ayS(h:n≤255):Value.int .u8 (IntKind.u8.wrap (n:Int))= .int .u8 (n:Int):=by
 rw[sP .u8 rfl _ (by omega) (by simp[IntKind.bits];omega)]
def pN(n:Nat):List Int:=Dq (dH (2^n))
theorem Zc(h:n≤8):∀m∈dH n,0≤m∧m <16:=fun m hm=>by have:=qv hm;omega
theorem aO5{v:Value}{L:Cells}{lim:Int}{ro:Nat→Option Obj}(ho:ax v 1 99 R9 xs L)(hN:xs.length≤12)(hM:∀m∈xs,0≤m∧m <16):eS zT 94 [v,zI 0,zI (xs.length:Int),zI lim,.func (.func 69) ⟨[]⟩ ⟨[]⟩] ro L (fun r Y=>NN v xs Y):=by
 refine bC au [.l L] [] bu<|zD 9<|eO [1,1,0,0] [] (fun(zz:Nat)=>[(0,v),(1,zI 0),(2,zI (xs.length:Int)),(3,zI lim),(4,.func (.func 69) ⟨[]⟩ ⟨[]⟩),(10,.bool true),(11,.bool true)]) (fun(zz:Nat)=>[.l L]) (fun(zz:Nat)=>True) (fun(zz:Nat)=>zz) 0 trivial [0] ?_
 rintro z hI K1 bG rest
 refine zD 5<|ja ((xs.length:Int)-0) (by omega)<|zD 8<|zJ 25 (((xs.length:Int)-0)≤12) (fun h1=>?_) fun h1=>?_
 ·
  refine zD 7<|jc (vs:=[v,zI 0,zI (xs.length:Int),.func (.func 69) ⟨[]⟩ ⟨[]⟩]) [0] (aO6 ho hN hM) ?_
  rintro azB Y30 ⟨aK4,atP,Cw⟩
  refine zD 2<|aH q0 (.tuple ⟨[]⟩) [] [0] Y30 (Sub.refl _) ⟨_,_,rfl,rfl,_,atP,Cw⟩
 exfalso;omega
theorem aA3{v:Value}{L:Cells}{ro:Nat→Option Obj}(ho:ax v 1 99 R9 xs L)(hN:xs.length≤12)(hM:∀m∈xs,0≤m∧m <16):eS zT 68 [v,.func (.func 69) ⟨[]⟩ ⟨[]⟩] ro L (fun r Y=>NN v xs Y):=by
 refine bC au [.l L] [] bu<|zD 3<|Fe ho<|zD 6<|je (zU (xs.length:Int)) (abt (by omega))<|jp (vs:=[zU (xs.length:Int)]) [] [] (fun aB hs hZ=>(avX (by omega)))<|zD 1<|jc (vs:=[v,zI 0,zI (xs.length:Int),zI (ZA xs.length),.func (.func 69) ⟨[]⟩ ⟨[]⟩]) [0] (aO5 ho hN hM) ?_
 rintro azC Y13 ⟨aK6,ZU,T3⟩
 refine zD 1<|aH q0 (.tuple ⟨[]⟩) [] [0] Y13 (Sub.refl _) ⟨_,_,rfl,rfl,_,ZU,T3⟩
theorem aGK{f:Nat}{rows:List bP}{ro:Nat→Option Obj}(hF:qd ro f K rows)(hV:gh K)(hn3:K.facts.length≤3):eS zT 35 [zP f] ro [] (fun r Y=>∃L,ax r 1 99 R9 (pN K.facts.length) L∧Y=L):=by
 have hp8:=akI hn3
 refine bC au [] [] bu<|zD 12<|jp (vs:=[zP f]) [] [] (fun aB hs hZ=>P3 hV (hF.up hs))<|je (.int .u8 ((2^K.facts.length:Nat):Int)) (congrArg (Value.int .u8) (ans hn3))<|zD 3<|py<|eO [1,1,0,1,0,0] [] (fun(zz:Nat×Value×Cells)=>[(2,zS),(3,zz.2.1),(7,.int .u8 ((2^K.facts.length:Nat):Int)),(8,.int .u8 (zz.1:Int))]) (fun(zz:Nat×Value×Cells)=>[.l zz.2.2]) (fun(zz:Nat×Value×Cells)=>zz.1≤2^K.facts.length∧ax zz.2.1 1 99 R9 (dH zz.1) zz.2.2) (fun(zz:Nat×Value×Cells)=>2^K.facts.length-zz.1) (⟨0,zS,[]⟩) ⟨Nat.zero_le _,ax.nil _ _ _⟩ [0] ?_
 rintro⟨k,v,L⟩ hI K1 bG rest
 dsimp only at hI
 have hrl:=mv k
 refine zD 5<|zJ 9 ((k:Int) <((2^K.facts.length:Nat):Int)) (fun h1=>?_) fun h1=>?_
 ·
  refine zD 12<|jn fun Ah=>jE (sz:=1) (ps:=(dH k)) (qs:=[(k:Int)]) (enc:=R9) (w:= .slice (some ⟨Ah,0,none⟩) 1 1) [1] [0] [(Ah,.cells ⟨([(k:Int)].map R9).flatten⟩ 99 (0,0))] (hI.2) (fun s _ hZ=>bS [(k:Int)] (hZ _ (.head _)) (by intro p hp;rfl)) (fun p _=>ai rfl) (by simp<;>omega) (fun v14 L14 uy=>?_)
  obtain⟨FK,D9,vw⟩:=uy.form
  subst vw
  refine zD 3<|je (.int .u8 ((k:Int)+1)) (ayS (n:=k+1) (by omega))<|zD 2<|bF bG (⟨k+1,(.slice FK (((dH k)++[(k:Int)])).length D9),L14⟩) ⟨by dsimp only;omega,by dsimp only;rw[wj];exact uy⟩ (by dsimp only;omega) [0] (Sub.refl _)
 refine zD 5<|jc (vs:=[v,.func (.func 69) ⟨[]⟩ ⟨[]⟩]) [0] (aA3 hI.2 (by rw[mv];omega) (Zc (by omega))) ?_
 rintro bb9 Y17 ⟨bbi,aQO,Cy⟩
 refine zD 7<|aH q0 (v) [] [0] Y17 (Sub.refl _) ⟨_,_,rfl,rfl,_,by rw[pN,show 2^K.facts.length=k by omega,←aQO];exact Cy,rfl⟩
def Jl(K:aP)(rows:List bP)(p:Nat→Int):Nat→Bool
 |0=>false
 |i+1=>Jl K rows p i||dA K.gone K.new K.af (cY K ((rows[i]?).getD ⟨fun _ _=>false⟩) i p)
theorem Yj{rows:List bP}{p:Nat→Int}{r:bP}(h:rows[i]?=some r):Jl K rows p (i+1)=(Jl K rows p i||dA K.gone K.new K.af (cY K r i p)):=by rw[Jl,h];rfl
theorem anr{rows:List bP}{p:Nat→Int}(h:Jl K rows p i=true)(hn:i≤n):Jl K rows p n=true:=by
 induction n with
 |zero=>rwa[show i=0 by omega] at h
 |succ n ih=>
  by_cases e:i=n+1
  ·rwa[e] at h
  rw[Jl,ih (by omega),Bool.true_or]
def aaw(K:aP)(rows:List bP)(on:Int):Bool:=(bU K on).any fun p=>Jl K rows p rows.length
theorem aiv{f:α→Bool}{l:List α}{x:α}(h:l[k]?=some x) (h1:(l.take k).any f=false) (h2:f x=false):(l.take (k+1)).any f=false:=by
 rw[jU h,List.any_append,h1,List.any_cons,h2];rfl
theorem aUJ{f:Nat}{rows:List bP}{on:Int}{ro:Nat→Option Obj}(hF:qd ro f K rows)(hV:gh K)(hR:rows.length≤1000):eS zT 36 [zP f,.int .u8 on] ro [] (fun r Y=>r= .bool (aaw K rows on)∧Y=[]):=by
 obtain⟨c0,c1,c2,vc,vh,vr,vb,va,vf,vt,hv,hf,qj,nN,hr,CI,Hf,I8,bO⟩:=id hF
 obtain⟨hc,hh,dC⟩:=id qj
 obtain⟨eL,AH,AG,eF,rfl,Dt,yQ,yP⟩:=hc
 obtain⟨dS,vk,vi,dB,rfl,xw,q8,q7⟩:=hh
 obtain⟨lG,Ic,Ib,lF,rfl,NZ,Gc,Gb⟩:=hr
 obtain⟨kV,IQ,IN,kz,rfl,IP,Ei,Eh⟩:=CI
 obtain⟨kX,IU,IS,kA,rfl,IT,Ek,Ej⟩:=Hf
 obtain⟨mX,S8,S6,lX,rfl,S7,LZ,LY⟩:=I8
 obtain⟨nX,Eg,Ef,nF,rfl,Pa,LV,LU⟩:=bO
 have RR:=hV.rules.1
 have Fj:=hV.before.1
 have Ik:=hV.after.1
 have hnf:=hV.facts.1
 refine alF au [] [] bu<|zD 2<|jn fun b2=>zD 5<|jn fun b5=>jd 9 [0,1]<|jc (vs:=[zP f,.int .u8 on]) [] (Ki (on:=on) hF hV) ?_
 rintro _ _ ⟨q1,q2,q3,q4,rfl,rfl⟩
 refine jg 0 [.b q1 (.cells ⟨[zP f]⟩ 94 (0,0)),.b q2 (.cells ⟨[.func (.func 98) ⟨[]⟩ ⟨[zP q1,zP q4]⟩]⟩ 187 (0,0)),.b q3 (.cells ⟨[.bool (dc K on 0 0),.bool (dc K on 0 1),.bool (dc K on 0 2),.bool (dc K on 0 3),.bool (dc K on 1 0),.bool (dc K on 1 1),.bool (dc K on 1 2),.bool (dc K on 1 3),.bool (dc K on 2 0),.bool (dc K on 2 1),.bool (dc K on 2 2),.bool (dc K on 2 3),.bool (dc K on 3 0),.bool (dc K on 3 1),.bool (dc K on 3 2),.bool (dc K on 3 3)]⟩ 139 (0,0)),.b q4 (.cells ⟨[.int .u8 on]⟩ 99 (0,0))]<|jf [0,1,2,3,5] ((q1,.cells ⟨[zP f]⟩ 94 (0,0))::((q2,.cells ⟨[.func (.func 98) ⟨[]⟩ ⟨[zP q1,zP q4]⟩]⟩ 187 (0,0))::((q3,.cells ⟨[.bool (dc K on 0 0),.bool (dc K on 0 1),.bool (dc K on 0 2),.bool (dc K on 0 3),.bool (dc K on 1 0),.bool (dc K on 1 1),.bool (dc K on 1 2),.bool (dc K on 1 3),.bool (dc K on 2 0),.bool (dc K on 2 1),.bool (dc K on 2 2),.bool (dc K on 2 3),.bool (dc K on 3 0),.bool (dc K on 3 1),.bool (dc K on 3 2),.bool (dc K on 3 3)]⟩ 139 (0,0))::((q4,.cells ⟨[.int .u8 on]⟩ 99 (0,0))::[(b2,.cells ⟨[zP f]⟩ 94 (0,0))])))) fun BE cd jW=>zD 2<|jrf [] (WY (on:=on) (hF.up cd) hV (jW _ (.head _)) (jW _ (.tail _ (.head _))) (jW _ (.tail _ (.tail _ (.head _)))) (jW _ (.tail _ (.tail _ (.tail _ (.head _)))))) (by rintro _ _ _ _ ⟨_,_,rfl,_⟩;rfl) (fun(zz:Bool)=>[.b b5 (.cells ⟨[.bool zz]⟩ 4 (0,0))]) (fun kk=>(fun(zz:Bool)=>zz=false∧(((bU K on).take kk).any fun p=>Jl K rows p rows.length)=false)) (fun jump=>(fun(zz:Bool)=>jump= .exit 0∧zz=true∧aaw K rows on=true)) false ⟨rfl,rfl⟩ [0] ?_ ?_ ?_
 ·
  rintro bl4 bd4 kk4 vs4 LL4 bo ro4 hk4 auI hI lL
  obtain⟨p4,hp4,rfl,rfl⟩:=auI
  have ZS:=(kO hV on).2 p4 (List.mem_of_getElem? hp4)
  refine zD 1<|jn fun b6=>jd 2 [0]<|aBv<|zD 3<|jl (b:=b2) (off:=0) (m:=1) (vs:=[zP f]) 0 ⟨_,_,_,.inl (lL _ _ (jW _ (.tail _ (.tail _ (.tail _ (.tail _ (.head _))))))),rfl⟩<|zD 2<|jl (b:=f) (off:=0) (m:=13) (vs:=[c0,c1,c2,.slice eL K.cs.length eF,.slice dS hv.length dB,.slice lG K.rules.length lF,.slice kV K.before.length kz,.slice kX K.after.length kA,zI K.gone,zI K.new,zI K.af,.slice mX K.facts.length lX,.slice nX rows.length nF]) 12 ⟨_,_,_,.inl (lL _ _ (cd _ _ hf)),rfl⟩<|zD 4<|aPt [1] [1,0,1,1,0,1,0,3,0,1,0,0] [] (fun(zz:Nat×Bool)=>[(2,zP b2),(4,.bool false),(5,zP b5),(6,zP b6),(16,zI (rows.length:Int)),(17,zI (zz.1:Int))]) (fun(zz:Nat×Bool)=>[.b b5 (.cells ⟨[.bool zz.2]⟩ 4 (0,0)),.b b6 (.cells ⟨[zI (p4 0),zI (p4 1),zI (p4 2),zI (p4 3)]⟩ 122 (0,0))]) (fun(zz:Nat×Bool)=>zz.1≤rows.length∧zz.2=false∧Jl K rows p4 zz.1=false) (fun(zz:Nat×Bool)=>rows.length-zz.1) (⟨0,bo⟩) ⟨Nat.zero_le _,hI.1,rfl⟩ [2,0,1] ?_
  rintro⟨i,bo⟩ hJ K1 bG rest
  dsimp only at hJ
  refine zD 5<|zJ 18 ((i:Int) <(rows.length:Int)) (fun h5=>?_) fun h5=>?_
  ·
   refine zD 5 ?_
   obtain⟨r_,Cu⟩:∃r_,rows[i]?=some r_:=⟨_,List.getElem?_eq_getElem (by omega)⟩
   refine zD 6<|jl (b:=b2) (off:=0) (m:=1) (vs:=[zP f]) 0 ⟨_,_,_,.inl (lL _ _ (jW _ (.tail _ (.tail _ (.tail _ (.tail _ (.head _))))))),rfl⟩<|jl (b:=b2) (off:=0) (m:=1) (vs:=[zP f]) 0 ⟨_,_,_,.inl (lL _ _ (jW _ (.tail _ (.tail _ (.tail _ (.tail _ (.head _))))))),rfl⟩<|jd 2 [1]<|jp (vs:=[zP f,zI (i:Int),.agg ⟨[zI (p4 0),zI (p4 1),zI (p4 2),zI (p4 3)]⟩]) [] [] (fun aB hs hZ=>aoX (hF.up (Sub.trans (cd.trans lL) hs)) hV Cu ZS)<|jp (vs:=[zP f,.agg ⟨[zI ((cY K r_ i p4).past),zI ((cY K r_ i p4).w0),zI ((cY K r_ i p4).w1),zI ((cY K r_ i p4).w2),zI ((cY K r_ i p4).w3),zI ((cY K r_ i p4).gone),zI ((cY K r_ i p4).new),zI ((cY K r_ i p4).af)]⟩]) [] [] (fun aB hs hZ=>aep (x:=(cY K r_ i p4)) (hs _ _ (lL _ _ (cd _ _ hf))))<|aD 6 fun BK BR A6=>jd 1 [0]<|cw A6<|jd 5 [0]<|js 26 (dA K.gone K.new K.af (cY K r_ i p4)) (fun h7=>?_) (fun h7=>?_)
   ·
    refine zD 2<|jys Zf (Sub.refl _) (.exit 0) (dA K.gone K.new K.af (cY K r_ i p4)) ⟨rfl,by assumption,List.any_eq_true.2 ⟨p4,List.mem_of_getElem? hp4,anr (i:=i+1) (by rw[Yj Cu];simp[*]) (by omega)⟩⟩ [2,0]
   refine zD 3<|ja ((i:Int)+1) (by omega)<|zD 2<|bF bG (⟨i+1,(dA K.gone K.new K.af (cY K r_ i p4))⟩) ⟨by dsimp only;omega,by assumption,by dsimp only;rw[Yj Cu,hJ.2.2,Bool.false_or];assumption⟩ (by dsimp only;omega) [0,1,2] (Sub.refl _)
  refine zD 2<|jyn Zf (Sub.refl _) bo ⟨hJ.2.1,aiv hp4 hI.2 (by have:=hJ.2.2;rwa[show i=rows.length by omega] at this)⟩ [2,0]
 ·
  rintro bd4 bo Z4 hI hZ4
  subst hZ4
  refine jd 6 [2]<|jrM qm0.a.m (.bool bo) [0] [] [] [] cd ⟨by have:=hI.2;rw[List.take_of_length_le (Nat.le_refl _)] at this;rw[hI.1,aaw,this],rfl⟩
 rintro bd4 bo Z4 jump hS hZ4
 obtain⟨rfl,hS⟩:=hS
 subst hZ4
 refine jd 6 [2]<|jrM qm0.a.m (.bool bo) [0] [] [] [] cd ⟨by rw[hS.1,hS.2],rfl⟩
def iAn(k:IntKind)(a b:Int):Int:=k.wrap (BitVec.ofInt k.bits a&&& ~~~ BitVec.ofInt k.bits b).toNat
theorem asu:pN 0=[0]:=by kernel_rfl
theorem ast:pN 1=[0,1]:=by kernel_rfl
theorem ass:pN 2=[0,1,2,3]:=by kernel_rfl
theorem asr:pN 3=[0,1,2,4,3,5,6,7]:=by kernel_rfl
theorem adP(h:n≤3):(pN n).length≤8∧∀m∈pN n,0≤m∧m <16:=by
 obtain rfl|rfl|rfl|rfl:n=0∨n=1∨n=2∨n=3:=by omega
 ·rw[asu];decide
 ·rw[ast];decide
 ·rw[ass];decide
 rw[asr];decide
def Lf(K:aP)(rows:List bP):Option Int:=(pN K.facts.length).find? fun m=>aaw K rows (iAn .u8 (cb K) m)
theorem XQ{p:α→Bool}{l:List α}{x:α}(hx:l[k]?=some x):(l.drop k).find? p=bif p x then some x else (l.drop (k+1)).find? p:=by rw[gE hx,List.find?_cons];cases p x<;>rfl
theorem ahs{p:α→Bool}{l:List α}(hx:¬k <l.length):(l.drop k).find? p=none:=by rw[eY hx];rfl
theorem asF{rows:List bP}{ro:Nat→Option Obj}(hK:gF ro l K)(hV:gh K)(hR:rows.length≤2)(hB:lB ro l K rows)(hn3:K.facts.length≤3):eS zT 9 [.agg ⟨l⟩] ro [] (fun r Y=>∃v e,r= .tuple ⟨[v,zI e]⟩∧((∃m,Lf K rows=some m∧ax v 1 3 cT (mM m 4) Y∧e=0)∨(Lf K rows=none∧v= zS∧e=11∧Y=[]))):=by
 obtain⟨v0,v1,v3,v4,v5,v6,v7,vb,fa,fc,hv,rfl,_⟩:=hK
 have Qs:=adP hn3
 have T6:=Qs.1
 refine bC au [] [] bu<|zD 2<|jn fun b1=>jd 6 [0]<|jc (vs:=[.agg ⟨[v0,v1,.slice fa 0 fc,v3,v4,v5,v6,v7,zI K.gone,zI K.new,zI K.af,vb]⟩]) [] (hB _ (Sub.refl _)) ?_
 rintro _ Y10 ⟨f10,rfl,avH⟩
 refine zD 5<|jf [0] Y10 (fun BE cd jW=>?_)
 have Jc:=avH _ cd jW
 refine zD 13<|jc (vs:=[zP f10]) [] (aGK Jc hV hn3) ?_
 rintro v17 L17 ⟨_,Cy,rfl⟩
 refine Fe Cy<|zD 3<|eO [1,1,1,0,1,0,0] [] (fun(zz:Nat)=>[(4,zP f10),(17,v17),(18,zI ((pN K.facts.length).length:Int)),(19,zI (zz:Int))]) (fun(zz:Nat)=>[.l L17,.b b1 (.cells ⟨[v0,v1,.slice fa 0 fc,v3,v4,v5,v6,v7,zI K.gone,zI K.new,zI K.af,vb]⟩ 38 (0,0))]) (fun(zz:Nat)=>zz≤(pN K.facts.length).length∧Lf K rows=((pN K.facts.length).drop zz).find? (fun m=>aaw K rows (iAn .u8 (cb K) m))) (fun(zz:Nat)=>(pN K.facts.length).length-zz) 0 ⟨Nat.zero_le _,rfl⟩ [0,1] ?_
 rintro k hI K1 bG rest
 refine zD 5<|zJ 20 ((k:Int) <((pN K.facts.length).length:Int)) (fun h4=>?_) fun h4=>?_
 ·
  refine zD 6 ?_
  obtain⟨yE,qF⟩:=zG ((pN K.facts.length)) k (by first|omega| (simp only[List.length_set,List.length_append,List.length_cons,List.length_nil];omega))
  refine jxo 1 Cy qF fun b21 aS5=>px 0 [0] L17 (fun s _ hZ=>cD Cy aS5 hZ qF)<|zD 6<|jp (vs:=[zP f10]) [] [] (fun aB hs hZ=>P3 hV (Jc.up hs))<|zD 1<|je (.int .u8 (iAn .u8 (cb K) yE)) rfl<|jc (vs:=[zP f10,.int .u8 (iAn .u8 (cb K) yE)]) [] (aUJ Jc hV (by omega)) ?_
  rintro _ _ ⟨rfl,rfl⟩
  refine jg 0 []<|zD 1<|js 28 (aaw K rows (iAn .u8 (cb K) yE)) (fun h5=>?_) (fun h5=>?_)
  ·
   refine zD 4<|jc (vs:=[.int .u8 yE]) [] (ahw) ?_
   rintro v30 L30 ⟨_,Cw,rfl⟩
   refine zD 4<|aH q0.a (.tuple ⟨[v30,zI 0]⟩) [] [0] L30 cd ⟨_,_,rfl,rfl,_,_,rfl,.inl ⟨_,by rw[hI.2,XQ qF];simp only[*,cond_true],Cw,rfl⟩⟩
  refine zD 3<|ja ((k:Int)+1) (by omega)<|zD 2<|bF bG (k+1) ⟨by omega,by rw[hI.2,XQ qF];simp only[*,cond_false]⟩ (by omega) [0,1] (Sub.refl _)
 refine zD 8<|aH q0.a (.tuple ⟨[zS,zI 11]⟩) [] [] [] cd ⟨_,_,rfl,rfl,_,_,rfl,.inr ⟨by rw[hI.2,ahs (by omega)],rfl,rfl,rfl⟩⟩
theorem asY{f:Nat}{rows:List bP}{ro:Nat→Option Obj}(hF:qd ro f K rows)(hV:gh K)(hR:rows.length≤2):EW zT 83 [zP f] ro [] (fun r Y=>∃zs v e,r= .tuple ⟨[v,zI e]⟩∧zs.Perm (ep K (cb K) (dA K.gone K.new K.af) rows)∧ax v 8 124 cR zs Y∧((zs=[]∧e=9)∨(zs≠[]∧e=0))):=by
 refine Ep au [] [] bu fun fr=>zD 9<|jp (vs:=[zP f]) [] [] (fun aB hs hZ=>P3 hV (hF.up hs))<|Fg (vs:=[zP f,.int .u8 (cb K)]) [] (fun _ _ h=>h) (WV hV hF hR) ?_
 rintro v8 Y8 ⟨zs,hz,ho8⟩
 refine zD 6<|Fe ho8<|zD 2<|zJ 11 ((zs.length:Int)=0) (fun h1=>?_) fun h1=>?_
 ·
  refine zD 7<|N4 qC (.tuple ⟨[zS,zI 9]⟩) [1] [] (Sub.refl _) ⟨zs,_,_,rfl,hz,by rw[show zs=[] from List.eq_nil_of_length_eq_zero (by omega)];exact ax.nil _ _ _,.inl ⟨List.eq_nil_of_length_eq_zero (by omega),rfl⟩⟩
 refine zD 9<|N4 qC (.tuple ⟨[v8,zI 0]⟩) [0,1] Y8 (Sub.refl _) ⟨zs,_,_,rfl,hz,ho8,.inr ⟨fun e=>by subst e;simp at*,rfl⟩⟩
theorem WZ{rows:List bP}{ro:Nat→Option Obj}(hK:gF ro l K)(hV:gh K)(hR:rows.length≤2)(hB:lB ro l K rows):awF zT 46 [.agg ⟨l⟩] ro [] (fun r aB Y=>∃f zs v e,r= .tuple ⟨[pV f,v,zI e]⟩∧qd aB f K rows∧zs.Perm (ep K (cb K) (dA K.gone K.new K.af) rows)∧ax v 8 124 cR zs Y∧((zs=[]∧e=9)∨(zs≠[]∧e=0))):=by
 obtain⟨v0,v1,v3,v4,v5,v6,v7,vb,fa,fc,hv,rfl,_⟩:=hK
 refine aBr (hm:=au) [] [] bu fun fr=>zD 2<|jn fun b1=>jd 7 [0]<|jc (vs:=[.agg ⟨[v0,v1,.slice fa 0 fc,v3,v4,v5,v6,v7,zI K.gone,zI K.new,zI K.af,vb]⟩]) [] (hB _ (Sub.refl _)) ?_
 rintro _ Y10 ⟨f10,rfl,avH⟩
 refine zD 5<|jf [0] Y10 (fun BE cd jW=>?_)
 have Jc:=avH _ cd jW
 refine zD 12<|Fg (vs:=[zP f10]) [] (fun _ _ h=>h) (asY Jc hV hR) ?_
 rintro _ Y18 ⟨zs,v18,e18,rfl,hz,ZX,he⟩
 refine zD 16<|aPm qC.a (.tuple ⟨[zP f10,v18,zI e18]⟩) [0,2] Y18 cd ⟨f10,zs,v18,e18,rfl,Jc,hz,ZX,he⟩
theorem alx{x:aw}{ro:Nat→Option Obj}:dO zT 53 [.agg ⟨[zI x.past,zI x.w0,zI x.w1,zI x.w2,zI x.w3,zI x.gone,zI x.new,zI x.af]⟩] ro (zI x.af):=by
 refine bC au [] [] bu<|zD 2<|jn fun b1=>jd 9 [0]<|aH q0 (zI x.af) [] [] [] (Sub.refl _) ⟨_,_,rfl,rfl,rfl,rfl⟩
theorem aei{rows:List bP}{ro:Nat→Option Obj}(hK:gF ro l K)(hV:gh K)(hR:rows.length≤2)(hB:lB ro l K rows):EW zT 52 [.agg ⟨l⟩,.func (.func 53) ⟨[]⟩ ⟨[]⟩] ro [] (fun r Y=>∃zs a b e,zs.Perm (ep K (cb K) (dA K.gone K.new K.af) rows)∧Y=[]∧r= .tuple ⟨[.agg ⟨[zI a,zI b]⟩,zI e]⟩∧((zs=[]∧a=0∧b=0∧e=9)∨(zs≠[]∧a=vq (zs.map fun x=>x.af)∧b=Cn (zs.map fun x=>x.af)∧e=0))):=by
 obtain⟨v0,v1,v3,v4,v5,v6,v7,vb,fa,fc,hv,rfl,_⟩:=id hK
 refine Ep au [] [] bu fun fr=>zD 2<|jn fun b2=>jn fun b4=>jd 5 [1]<|alI (vs:=[.agg ⟨[v0,v1,.slice fa 0 fc,v3,v4,v5,v6,v7,zI K.gone,zI K.new,zI K.af,vb]⟩]) [] (fun _ _ h=>h) (WZ hK hV hR hB) ?_
 rintro _ aB Y14 cd ⟨f14,zs,v14,Nq,rfl,Jc,hz,T1,he⟩
 have aeT:∀x∈zs,(-4≤x.gone∧x.gone≤4)∧(-4≤x.new∧x.new≤4)∧(0≤x.af∧x.af≤4):=fun x hx=>by obtain⟨i,r,p,_,_,rfl,_⟩:=nA (hz.mem_iff.1 hx);exact qg hV r i p
 have hzl:zs.length≤1250:=by rw[hz.length_eq];exact qW hV _ _ hR
 refine zD 7<|jf [0] Y14 (fun ro4 pe Xq=>?_)
 have hZ1:=T1.lR Xq
 obtain⟨vo,Tb,S9,s9,rfl,Ta,Mf,Me⟩:=hZ1
 refine zD 7<|js 19 (!decide (Nq=0)) (fun h5=>?_) (fun h5=>?_)
 ·
  replace h5:=of_decide_eq_false (by simpa using h5)
  have vK:zs=[]∧Nq=9:=by rcases he with h| ⟨_,h⟩;exact h;omega
  refine jd 9 [0]<|as6 qC.a.a (.tuple ⟨[.agg ⟨[zI 0,zI 0]⟩,zI Nq]⟩) [0] [2] [] (cd.trans pe) ⟨zs,_,_,_,hz,rfl,rfl,.inl ⟨vK.1,rfl,rfl,vK.2⟩⟩
 replace h5:=of_decide_eq_true (by simpa using h5)
 have vK:zs≠[]∧Nq=0:=by rcases he with ⟨_,h⟩|h;omega;exact h
 have hzp:0 <zs.length:=List.length_pos_iff.2 vK.1
 refine zD 14<|py<|eO [1,1,1,1,0,1,0,0] [] (fun(zz:Nat×Value×Cells)=>[(1,.func (.func 53) ⟨[]⟩ ⟨[]⟩),(4,zP b4),(5,zI 0),(9,zz.2.1),(22,.slice vo zs.length s9),(23,zI (zs.length:Int)),(24,zI (zz.1:Int))]) (fun(zz:Nat×Value×Cells)=>[.l zz.2.2,.b b4 (.cells ⟨[zI 0,zI 0]⟩ 64 (0,0)),.b b2 (.cells ⟨[v0,v1,.slice fa 0 fc,v3,v4,v5,v6,v7,zI K.gone,zI K.new,zI K.af,vb]⟩ 38 (0,0)),.l fr]) (fun(zz:Nat×Value×Cells)=>zz.1≤zs.length∧ax zz.2.1 1 3 cT ((zs.take zz.1).map fun x=>x.af) zz.2.2) (fun(zz:Nat×Value×Cells)=>zs.length-zz.1) (⟨0,zS,[]⟩) ⟨by dsimp only;omega,ax.nil _ _ _⟩ [0,1,2,3] ?_
 rintro⟨k,vS,LS⟩ hI K1 bG rest
 dsimp only at hI
 refine zD 5<|zJ 25 ((k:Int) <(zs.length:Int)) (fun h6=>?_) fun h6=>?_
 ·
  refine zD 6 ?_
  obtain⟨Sf,ZO⟩:=zG zs k
  refine jb s9 8 Mf ZO<|jl 0 (Me _ _ ZO)<|jn fun Sa=>jd 6 [0,0]<|jp (vs:=[.agg ⟨[zI Sf.past,zI Sf.w0,zI Sf.w1,zI Sf.w2,zI Sf.w3,zI Sf.gone,zI Sf.new,zI Sf.af]⟩]) [] [] (fun aB hs hZ=>(alx (x:=Sf)))<|jn fun b32=>jE (sz:=1) (ps:=((zs.take k).map fun x=>x.af)) (qs:=[Sf.af]) (enc:=cT) (w:= .slice (some ⟨b32,0,none⟩) 1 1) [2] [0] [(b32,.cells ⟨([Sf.af].map cT).flatten⟩ 3 (0,0))] (hI.2) (fun s _ hZ=>bS [Sf.af] (hZ _ (.head _)) (by intro p hp;rfl)) (fun p _=>ai rfl) (by simp only[List.length_map,List.length_take,List.length_cons,List.length_nil];omega) (fun v33 L33 afc=>?_)
  obtain⟨aLS,aLA,aSe⟩:=afc.form
  subst aSe
  refine zD 3<|ja ((k:Int)+1) (by omega)<|zD 2<|bF bG (⟨k+1,(.slice aLS ((((zs.take k).map fun x=>x.af)++[Sf.af])).length aLA),L33⟩) ⟨by dsimp only;omega,by rw[jU ZO,List.map_append];exact afc⟩ (by dsimp only;omega) [0,3,4,5] (Sub.refl _)
 refine zD 5<|jp (vs:=[vS]) [0] LS (fun aB hs hZ=>aoV (hI.2.lR hZ) ⟨by simp only[List.length_map,List.length_take];omega,by simp only[List.length_map,List.length_take];omega⟩) ?_
 refine jd 4 [1]<|as6 qC.a.a (.tuple ⟨[.agg ⟨[zI (vq ((zs.take k).map fun x=>x.af)),zI (Cn ((zs.take k).map fun x=>x.af))]⟩,zI 0]⟩) [1] [3] [] (cd.trans pe) ⟨zs,_,_,_,hz,rfl,rfl,.inr ⟨vK.1,by rw[show k=zs.length by omega,List.take_length],by rw[show k=zs.length by omega,List.take_length],rfl⟩⟩
theorem Tz{rows:List bP}{ro:Nat→Option Obj}(hK:gF ro l K)(hV:gh K)(hR:rows.length≤2)(hB:lB ro l K rows):EW zT 21 [.agg ⟨l⟩] ro [] (fun r Y=>∃zs a b e,zs.Perm (ep K (cb K) (dA K.gone K.new K.af) rows)∧Y=[]∧r= .tuple ⟨[.agg ⟨[zI a,zI b]⟩,zI e]⟩∧((zs=[]∧a=0∧b=0∧e=9)∨(zs≠[]∧a=vq (zs.map fun x=>x.af)∧b=Cn (zs.map fun x=>x.af)∧e=0))):=by
 obtain⟨v0,v1,v3,v4,v5,v6,v7,vb,fa,fc,hv,rfl,_⟩:=id hK
 refine Ep au [] [] bu fun fr=>zD 2<|jn fun b1=>jn fun b2=>jd 5 [1]<|Fg (vs:=[.agg ⟨[v0,v1,.slice fa 0 fc,v3,v4,v5,v6,v7,zI K.gone,zI K.new,zI K.af,vb]⟩,.func (.func 53) ⟨[]⟩ ⟨[]⟩]) [] (fun _ _ h=>h) (aei hK hV hR hB) ?_
 rintro _ _ ⟨zs,a5,c5,e5,hz,rfl,rfl,he⟩
 refine jg 0 []<|jd 6 [0]<|as6 qC (.tuple ⟨[.agg ⟨[zI a5,zI c5]⟩,zI e5]⟩) [0] [2] [] (Sub.refl _) ⟨zs,_,_,_,hz,rfl,rfl,he⟩
theorem asW{a b:Int}{ro:Nat→Option Obj}:dO zT 80 [zI a,zI b] ro (.bool (decide (a=b))):=by
 refine bC au [] [] bu<|zD 12<|aH q0 (.bool (decide (a=b))) [] [] [] (Sub.refl _) ⟨_,_,rfl,rfl,rfl,rfl⟩
theorem ane{a b:Int}{s:Bool}{ro:Nat→Option Obj}:dO zT 17 [zI a,zI b,.bool s] ro (.agg ⟨[zI a,zI b,.bool s]⟩):=by
 refine bC au [] [] bu<|zD 2<|jn fun b6=>jd 10 [0]<|aH q0 (.agg ⟨[zI a,zI b,.bool s]⟩) [0] [] [] (Sub.refl _) ⟨_,_,rfl,rfl,rfl,rfl⟩
theorem kR{w:ByteArray}{a b c:Int}{ro:Nat→Option Obj}:dO zT 79 [.string w,zI a,zI b,zI c] ro (.agg ⟨[.string w,zI a,zI b,zI c,.bool false]⟩):=by
 refine bC au [] [] bu<|zD 2<|jn fun b8=>jd 11 [0]<|aH q0 (.agg ⟨[.string w,zI a,zI b,zI c,.bool false]⟩) [0] [] [] (Sub.refl _) ⟨_,_,rfl,rfl,rfl,rfl⟩
theorem aG4{w:ByteArray}{a:Int}{ro:Nat→Option Obj}:dO zT 78 [.string w,zI a] ro (.agg ⟨[.string w,zI (-1),zI a,(zS)]⟩):=by
 refine bC au [] [] bu<|zD 2<|jn fun b4=>jd 9 [0]<|aH q0 (.agg ⟨[.string w,zI (-1),zI a,zS]⟩) [0] [] [] (Sub.refl _) ⟨_,_,rfl,rfl,rfl,rfl⟩
theorem cIs{w:ByteArray}{a:Int}{va:Option Addr}{vn vc:Nat}{ro:Nat→Option Obj}:dO zT 77 [.string w,zI a,(.slice va vn vc)] ro (.agg ⟨[.string w,zI a,zI (-1),(.slice va vn vc)]⟩):=by
 refine bC au [] [] bu<|zD 2<|jn fun b6=>jd 10 [0]<|aH q0 (.agg ⟨[.string w,zI a,zI (-1),(.slice va vn vc)]⟩) [0] [] [] (Sub.refl _) ⟨_,_,rfl,rfl,rfl,rfl⟩
def U2:List bK:=[⟨(bs [102,111,111,100]),-1⟩,⟨(bs [98,114,101,97,100]),0⟩,⟨(bs [99,108,111,116,104]),-1⟩,⟨(bs [104,97,116,115]),2⟩]
def C6:List cq:=[⟨(bs [98,97,107,101,114]),1,-1,[]⟩,⟨(bs [98,111,110,110,101,116,115]),-1,3,[]⟩,⟨(bs [99,111,110,102,101,99,116,105,111,110,101,114]),0,-1,[0]⟩,⟨(bs [104,97,116,116,101,114]),3,-1,[]⟩,⟨(bs [109,101,114,99,101,114]),2,-1,[3]⟩,⟨(bs [109,105,108,108,105,110,101,114]),-1,1,[]⟩]
def Nx:List aI:=[⟨(bs [115,109,105,116,104]),0,1,0,false⟩,⟨(bs [97,110,110,97]),0,2,3,false⟩,⟨(bs [115,109,121,116,104]),1,1,2,false⟩]
def Ny:List aI:=[⟨(bs [115,109,121,116,104]),0,2,0,false⟩,⟨(bs [115,109,105,116,104]),1,1,-1,false⟩,⟨(bs [98,101,110]),0,1,4,false⟩]
abbrev aT(n:Int):aP where
 ways:=[[⟨1,0,0,0,0,0,0⟩,⟨2,0,0,0,0,0,0⟩]]
 cs:=U2
 hd:=C6
 rules:=[⟨(bs [121]),(bs [105])⟩]
 before:=Nx
 after:=Ny
 gone:=1
 new:=1
 af:=n
 facts:=[]
 str:=[[⟨1,0⟩,⟨2,0⟩],[⟨1,0⟩]]
abbrev dL(eg gx b9 fQ dR dE dD:Nat)(n:Int):List Value:=[.slice (some ⟨eg,0,none⟩) 2 2,.slice (some ⟨gx,0,none⟩) 1 1,zS,.slice (some ⟨b9,0,none⟩) 4 4,.slice (some ⟨fQ,0,none⟩) 6 6,.slice (some ⟨dR,0,none⟩) 1 1,.slice (some ⟨dE,0,none⟩) 3 3,.slice (some ⟨dD,0,none⟩) 3 3,zI 1,zI 1,zI n,zS]
abbrev dN(eg nE mS gx pf b9 fQ kg mT dR dE dD:Nat):Cells:=[(eg,.cells ⟨[.slice (some ⟨nE,0,none⟩) 2 2,.slice (some ⟨mS,0,none⟩) 1 1]⟩ 71 (0,0)),(nE,.cells ⟨[zI 1,zI 0,zI 2,zI 0]⟩ 70 (0,0)),(mS,.cells ⟨[zI 1,zI 0]⟩ 70 (0,0)),(gx,.cells ⟨[.slice (some ⟨pf,0,none⟩) 2 2]⟩ 78 (0,0)),(pf,.cells ⟨[zI 1,zI 0,zI 0,zI 0,zI 0,zI 0,zI 0,zI 2,zI 0,zI 0,zI 0,zI 0,zI 0,zI 0]⟩ 74 (0,0)),(b9,.cells ⟨[.string (bs [102,111,111,100]),zI (-1),.string (bs [98,114,101,97,100]),zI 0,.string (bs [99,108,111,116,104]),zI (-1),.string (bs [104,97,116,115]),zI 2]⟩ 130 (0,0)),(fQ,.cells ⟨[.string (bs [98,97,107,101,114]),zI 1,zI (-1),zS,.string (bs [98,111,110,110,101,116,115]),zI (-1),zI 3,zS,.string (bs [99,111,110,102,101,99,116,105,111,110,101,114]),zI 0,zI (-1),.slice (some ⟨kg,0,none⟩) 1 1,.string (bs [104,97,116,116,101,114]),zI 3,zI (-1),zS,.string (bs [109,101,114,99,101,114]),zI 2,zI (-1),.slice (some ⟨mT,0,none⟩) 1 1,.string (bs [109,105,108,108,105,110,101,114]),zI (-1),zI 1,zS]⟩ 133 (0,0)),(kg,.cells ⟨[zI 0]⟩ 3 (0,0)),(mT,.cells ⟨[zI 3]⟩ 3 (0,0)),(dR,.cells ⟨[.string (bs [121]),.string (bs [105])]⟩ 81 (0,0)),(dE,.cells ⟨[.string (bs [115,109,105,116,104]),zI 0,zI 1,zI 0,.bool false,.string (bs [97,110,110,97]),zI 0,zI 2,zI 3,.bool false,.string (bs [115,109,121,116,104]),zI 1,zI 1,zI 2,.bool false]⟩ 86 (0,0)),(dD,.cells ⟨[.string (bs [115,109,121,116,104]),zI 0,zI 2,zI 0,.bool false,.string (bs [115,109,105,116,104]),zI 1,zI 1,zI (-1),.bool false,.string (bs [98,101,110]),zI 0,zI 1,zI 4,.bool false]⟩ 86 (0,0))]
abbrev ah6(kg mT:Nat):List bp:=[⟨(bs [98,97,107,101,114]),1,-1,zS⟩,⟨(bs [98,111,110,110,101,116,115]),-1,3,zS⟩,⟨(bs [99,111,110,102,101,99,116,105,111,110,101,114]),0,-1,.slice (some ⟨kg,0,none⟩) 1 1⟩,⟨(bs [104,97,116,116,101,114]),3,-1,zS⟩,⟨(bs [109,101,114,99,101,114]),2,-1,.slice (some ⟨mT,0,none⟩) 1 1⟩,⟨(bs [109,105,108,108,105,110,101,114]),-1,1,zS⟩]
theorem dV{ro:Nat→Option Obj}{eg nE mS gx pf b9 fQ kg mT dR dE dD:Nat}{n:Int}(hk:Knows ro (dN eg nE mS gx pf b9 fQ kg mT dR dE dD)):gF ro (dL eg gx b9 fQ dR dE dD n) (aT n):=
 ⟨_,_,_,_,_,_,_,_,none,0,ah6 kg mT,rfl,
  ⟨[.slice (some ⟨nE,0,none⟩) 2 2,.slice (some ⟨mS,0,none⟩) 1 1],bV (enc:=gJ) (T:=71) [.slice (some ⟨nE,0,none⟩) 2 2,.slice (some ⟨mS,0,none⟩) 1 1] (hk _ (.head _)) (fun _ _=>rfl),
   .cons (bV (enc:=cE) (T:=70) [⟨1,0⟩,⟨2,0⟩] (hk _ (.tail _ (.head _))) (fun _ _=>rfl)) (.cons (bV (enc:=cE) (T:=70) [⟨1,0⟩] (hk _ (.tail _ (.tail _ (.head _)))) (fun _ _=>rfl)) .nil)⟩,
  ⟨[.slice (some ⟨pf,0,none⟩) 2 2],bV (enc:=gJ) (T:=78) [.slice (some ⟨pf,0,none⟩) 2 2] (hk _ (.tail _ (.tail _ (.tail _ (.head _))))) (fun _ _=>rfl),
   .cons (bV (enc:=lj) (T:=74) [⟨1,0,0,0,0,0,0⟩,⟨2,0,0,0,0,0,0⟩] (hk _ (.tail _ (.tail _ (.tail _ (.tail _ (.head _)))))) (fun _ _=>rfl)) .nil⟩,
  ⟨bV (enc:=pG) (T:=130) U2 (hk _ (.tail _ (.tail _ (.tail _ (.tail _ (.tail _ (.head _))))))) (fun _ _=>rfl),bV (enc:=mP) (T:=133) (ah6 kg mT) (hk _ (.tail _ (.tail _ (.tail _ (.tail _ (.tail _ (.tail _ (.head _)))))))) (fun _ _=>rfl),
   .cons ⟨rfl,rfl,rfl,bE.nil _ _ _ _ _⟩ (.cons ⟨rfl,rfl,rfl,bE.nil _ _ _ _ _⟩ (.cons ⟨rfl,rfl,rfl,bV (enc:=cT) (T:=3) [0] (hk _ (.tail _ (.tail _ (.tail _ (.tail _ (.tail _ (.tail _ (.tail _ (.head _))))))))) (fun _ _=>rfl)⟩ (.cons ⟨rfl,rfl,rfl,bE.nil _ _ _ _ _⟩ (.cons ⟨rfl,rfl,rfl,bV (enc:=cT) (T:=3) [3] (hk _ (.tail _ (.tail _ (.tail _ (.tail _ (.tail _ (.tail _ (.tail _ (.tail _ (.head _)))))))))) (fun _ _=>rfl)⟩ (.cons ⟨rfl,rfl,rfl,bE.nil _ _ _ _ _⟩ .nil)))))⟩,
  .cons ⟨rfl,rfl,rfl⟩ (.cons ⟨rfl,rfl,rfl⟩ (.cons ⟨rfl,rfl,rfl⟩ (.cons ⟨rfl,rfl,rfl⟩ (.cons ⟨rfl,rfl,rfl⟩ (.cons ⟨rfl,rfl,rfl⟩ .nil))))),
  bV (enc:=iW) (T:=81) [⟨(bs [121]),(bs [105])⟩] (hk _ (.tail _ (.tail _ (.tail _ (.tail _ (.tail _ (.tail _ (.tail _ (.tail _ (.tail _ (.head _))))))))))) (fun _ _=>rfl),bV (enc:=eT) (T:=86) Nx (hk _ (.tail _ (.tail _ (.tail _ (.tail _ (.tail _ (.tail _ (.tail _ (.tail _ (.tail _ (.tail _ (.head _)))))))))))) (fun _ _=>rfl),bV (enc:=eT) (T:=86) Ny (hk _ (.tail _ (.tail _ (.tail _ (.tail _ (.tail _ (.tail _ (.tail _ (.tail _ (.tail _ (.tail _ (.tail _ (.head _))))))))))))) (fun _ _=>rfl),bE.nil _ _ _ _ _⟩
theorem dW(eg gx b9 fQ dR dE dD:Nat)(n:Int):rn (aT n) (dL eg gx b9 fQ dR dE dD n):=
 ⟨_,_,_,_,_,_,_,_,none,0,rfl,Ay rfl rfl rfl rfl rfl rfl rfl rfl⟩
theorem KY{n:Int}{ro:Nat→Option Obj}:eS zT 42 [zI n] ro [] (fun r Y=>∃l,r= .agg ⟨l⟩∧(∀aF,Knows aF Y→gF aF l (aT n))∧rn (aT n) l):=by
 refine bC au [] [] bu<|zD 2<|jn fun b2=>zD 7<|jn fun b9=>jp (vs:=[.string (bs [98,97,107,101,114]),zI 1,zS]) [] [] (fun aB hs hZ=>cIs)<|jp (vs:=[.string (bs [98,111,110,110,101,116,115]),zI 3]) [] [] (fun aB hs hZ=>aG4)<|jn fun kg=>jp (vs:=[.string (bs [99,111,110,102,101,99,116,105,111,110,101,114]),zI 0,.slice (some ⟨kg,0,none⟩) 1 1]) [] [] (fun aB hs hZ=>cIs)<|jp (vs:=[.string (bs [104,97,116,116,101,114]),zI 3,zS]) [] [] (fun aB hs hZ=>cIs)<|jn fun mT=>jp (vs:=[.string (bs [109,101,114,99,101,114]),zI 2,.slice (some ⟨mT,0,none⟩) 1 1]) [] [] (fun aB hs hZ=>cIs)<|jp (vs:=[.string (bs [109,105,108,108,105,110,101,114]),zI 1]) [] [] (fun aB hs hZ=>aG4)<|jn fun fQ=>zD 1<|jn fun b3=>jd 6 [0]<|jn fun nE=>zD 1<|jn fun mS=>jn fun eg=>zD 3<|jn fun pf=>zD 1<|jn fun gx=>zD 1<|jn fun b4=>jd 8 [0,0,6]<|lJ [3,4] ⟨fun z1 t2 qL=>?_,fun z4 t5 Uq=>?_,trivial⟩
 ·
  refine jn fun dR=>ba qL [1,2,3,4,5,6,7,8,9,10,11,12]<|jp (vs:=[.string (bs [115,109,105,116,104]),zI 0,zI 1,zI 0]) [] [] (fun aB hs hZ=>kR)<|jp (vs:=[.string (bs [97,110,110,97]),zI 0,zI 2,zI 3]) [] [] (fun aB hs hZ=>kR)<|jp (vs:=[.string (bs [115,109,121,116,104]),zI 1,zI 1,zI 2]) [] [] (fun aB hs hZ=>kR)<|lJ [7,8] ⟨fun z7 t8 Uo=>?_,fun z10 t11 CN=>?_,trivial⟩
  ·
   refine jn fun dE=>ba Uo [1,2,3,4,5,6,7,8,9,10,11,12,13]<|jp (vs:=[.string (bs [115,109,121,116,104]),zI 0,zI 2,zI 0]) [] [] (fun aB hs hZ=>kR)<|jp (vs:=[.string (bs [115,109,105,116,104]),zI 1,zI 1,zI (-1)]) [] [] (fun aB hs hZ=>kR)<|jp (vs:=[.string (bs [98,101,110]),zI 0,zI 1,zI 4]) [] [] (fun aB hs hZ=>kR)<|aD 11 fun anS aol M5=>jn fun dD=>ba M5 [1,2,3,4,5,6,7,8,9,10,11,12,13,14]<|zD 1<|aD 14 fun ax4 aza agy=>jd 1 [14]<|cw agy<|zD 2<|aH q0 (.agg ⟨dL eg gx b9 fQ dR dE dD n⟩) [14] [6,8,7,4,5,13,10,12,11,2,1,0] (dN eg nE mS gx pf b9 fQ kg mT dR dE dD) (Sub.refl _) ⟨_,_,rfl,rfl,_,rfl,fun _ hk=>dV hk,dW _ _ _ _ _ _ _ _⟩
  refine jp (vs:=[.string (bs [115,109,121,116,104]),zI 0,zI 2,zI 0]) [] [] (fun aB hs hZ=>kR)<|ba CN [0,1,2,3,4,5,6,7,8,9,10,11,12]<|lJ [7,9] ⟨fun z15 t16 CM=>?_,fun z18 t19 Hj=>?_,trivial⟩
  ·
   refine jn fun dE=>ba CM [1,2,3,4,5,6,7,8,9,10,11,12,13]<|jp (vs:=[.string (bs [115,109,105,116,104]),zI 1,zI 1,zI (-1)]) [] [] (fun aB hs hZ=>kR)<|jp (vs:=[.string (bs [98,101,110]),zI 0,zI 1,zI 4]) [] [] (fun aB hs hZ=>kR)<|aD 11 fun ax0 ay6 aad=>jn fun dD=>ba aad [1,2,3,4,5,6,7,8,9,10,11,12,13,14]<|zD 1<|aD 14 fun axZ ay5 agv=>jd 1 [14]<|cw agv<|zD 2<|aH q0 (.agg ⟨dL eg gx b9 fQ dR dE dD n⟩) [14] [6,8,7,4,5,13,10,12,11,2,1,0] (dN eg nE mS gx pf b9 fQ kg mT dR dE dD) (Sub.refl _) ⟨_,_,rfl,rfl,_,rfl,fun _ hk=>dV hk,dW _ _ _ _ _ _ _ _⟩
  refine jp (vs:=[.string (bs [115,109,105,116,104]),zI 1,zI 1,zI (-1)]) [] [] (fun aB hs hZ=>kR)<|ba Hj [0,1,2,3,4,5,6,7,8,9,10,11,12]<|lJ [7,10] ⟨fun z23 t24 UA=>?_,fun z26 t27 Hi=>?_,trivial⟩
  ·
   refine jn fun dE=>ba UA [1,2,3,4,5,6,7,8,9,10,11,12,13]<|jp (vs:=[.string (bs [98,101,110]),zI 0,zI 1,zI 4]) [] [] (fun aB hs hZ=>kR)<|aD 11 fun Oi OG CL=>jn fun dD=>ba CL [1,2,3,4,5,6,7,8,9,10,11,12,13,14]<|zD 1<|aD 14 fun Vv VL M1=>jd 1 [14]<|cw M1<|zD 2<|aH q0 (.agg ⟨dL eg gx b9 fQ dR dE dD n⟩) [14] [6,8,7,4,5,13,10,12,11,2,1,0] (dN eg nE mS gx pf b9 fQ kg mT dR dE dD) (Sub.refl _) ⟨_,_,rfl,rfl,_,rfl,fun _ hk=>dV hk,dW _ _ _ _ _ _ _ _⟩
  refine jp (vs:=[.string (bs [98,101,110]),zI 0,zI 1,zI 4]) [] [] (fun aB hs hZ=>kR)<|ba Hi [0,1,2,3,4,5,6,7,8,9,10,11,12]<|lJ [7,11] ⟨fun z31 t32 Uy=>?_,fun z34 t35 Hh=>?_,trivial⟩
  ·
   refine jn fun dE=>ba Uy [1,2,3,4,5,6,7,8,9,10,11,12,13]<|aD 11 fun Vu VK M0=>jn fun dD=>ba M0 [1,2,3,4,5,6,7,8,9,10,11,12,13,14]<|zD 1<|aD 14 fun abk ab2 Ux=>jd 1 [14]<|cw Ux<|zD 2<|aH q0 (.agg ⟨dL eg gx b9 fQ dR dE dD n⟩) [14] [6,8,7,4,5,13,10,12,11,2,1,0] (dN eg nE mS gx pf b9 fQ kg mT dR dE dD) (Sub.refl _) ⟨_,_,rfl,rfl,_,rfl,fun _ hk=>dV hk,dW _ _ _ _ _ _ _ _⟩
  refine jn fun dD=>ba Hh [1,2,3,4,5,6,7,8,9,10,11,12,13]<|aD 7 fun anL aoe ags=>jn fun dE=>ba ags [1,2,3,4,5,6,7,8,9,10,11,12,13,14]<|zD 1<|aD 14 fun anK aod agq=>jd 1 [14]<|cw agq<|zD 2<|aH q0 (.agg ⟨dL eg gx b9 fQ dR dE dD n⟩) [14] [6,8,7,4,5,13,10,12,11,2,0,1] (dN eg nE mS gx pf b9 fQ kg mT dR dE dD) (Sub.refl _) ⟨_,_,rfl,rfl,_,rfl,fun _ hk=>dV hk,dW _ _ _ _ _ _ _ _⟩
 refine jp (vs:=[.string (bs [115,109,105,116,104]),zI 0,zI 1,zI 0]) [] [] (fun aB hs hZ=>kR)<|ba Uq [0,1,2,3,4,5,6,7,8,9,10,11]<|lJ [3,5] ⟨fun z41 t42 aTP=>?_,fun z44 t45 avx=>?_,trivial⟩
 ·
  refine jn fun dR=>ba aTP [1,2,3,4,5,6,7,8,9,10,11,12]<|jp (vs:=[.string (bs [97,110,110,97]),zI 0,zI 2,zI 3]) [] [] (fun aB hs hZ=>kR)<|jp (vs:=[.string (bs [115,109,121,116,104]),zI 1,zI 1,zI 2]) [] [] (fun aB hs hZ=>kR)<|lJ [7,8] ⟨fun z47 t48 Uv=>?_,fun z50 t51 Ut=>?_,trivial⟩
  ·
   refine jn fun dE=>ba Uv [1,2,3,4,5,6,7,8,9,10,11,12,13]<|jp (vs:=[.string (bs [115,109,121,116,104]),zI 0,zI 2,zI 0]) [] [] (fun aB hs hZ=>kR)<|jp (vs:=[.string (bs [115,109,105,116,104]),zI 1,zI 1,zI (-1)]) [] [] (fun aB hs hZ=>kR)<|jp (vs:=[.string (bs [98,101,110]),zI 0,zI 1,zI 4]) [] [] (fun aB hs hZ=>kR)<|aD 11 fun abj ab1 MZ=>jn fun dD=>ba MZ [1,2,3,4,5,6,7,8,9,10,11,12,13,14]<|zD 1<|aD 14 fun abi ab0 Us=>jd 1 [14]<|cw Us<|zD 2<|aH q0 (.agg ⟨dL eg gx b9 fQ dR dE dD n⟩) [14] [6,8,7,4,5,13,10,12,11,2,1,0] (dN eg nE mS gx pf b9 fQ kg mT dR dE dD) (Sub.refl _) ⟨_,_,rfl,rfl,_,rfl,fun _ hk=>dV hk,dW _ _ _ _ _ _ _ _⟩
  refine jp (vs:=[.string (bs [115,109,121,116,104]),zI 0,zI 2,zI 0]) [] [] (fun aB hs hZ=>kR)<|ba Ut [0,1,2,3,4,5,6,7,8,9,10,11,12]<|lJ [7,9] ⟨fun z55 t56 MY=>?_,fun z58 t59 agl=>?_,trivial⟩
  ·
   refine jn fun dE=>ba MY [1,2,3,4,5,6,7,8,9,10,11,12,13]<|jp (vs:=[.string (bs [115,109,105,116,104]),zI 1,zI 1,zI (-1)]) [] [] (fun aB hs hZ=>kR)<|jp (vs:=[.string (bs [98,101,110]),zI 0,zI 1,zI 4]) [] [] (fun aB hs hZ=>kR)<|aD 11 fun anC an5 agk=>jn fun dD=>ba agk [1,2,3,4,5,6,7,8,9,10,11,12,13,14]<|zD 1<|aD 14 fun anB an4 agj=>jd 1 [14]<|cw agj<|zD 2<|aH q0 (.agg ⟨dL eg gx b9 fQ dR dE dD n⟩) [14] [6,8,7,4,5,13,10,12,11,2,1,0] (dN eg nE mS gx pf b9 fQ kg mT dR dE dD) (Sub.refl _) ⟨_,_,rfl,rfl,_,rfl,fun _ hk=>dV hk,dW _ _ _ _ _ _ _ _⟩
  refine jp (vs:=[.string (bs [115,109,105,116,104]),zI 1,zI 1,zI (-1)]) [] [] (fun aB hs hZ=>kR)<|ba agl [0,1,2,3,4,5,6,7,8,9,10,11,12]<|lJ [7,10] ⟨fun z63 t64 agi=>?_,fun z66 t67 avu=>?_,trivial⟩
  ·
   refine jn fun dE=>ba agi [1,2,3,4,5,6,7,8,9,10,11,12,13]<|jp (vs:=[.string (bs [98,101,110]),zI 0,zI 1,zI 4]) [] [] (fun aB hs hZ=>kR)<|aD 11 fun aWn aW4 aTK=>jn fun dD=>ba aTK [1,2,3,4,5,6,7,8,9,10,11,12,13,14]<|zD 1<|aD 14 fun aWm aW3 aTJ=>jd 1 [14]<|cw aTJ<|zD 2<|aH q0 (.agg ⟨dL eg gx b9 fQ dR dE dD n⟩) [14] [6,8,7,4,5,13,10,12,11,2,1,0] (dN eg nE mS gx pf b9 fQ kg mT dR dE dD) (Sub.refl _) ⟨_,_,rfl,rfl,_,rfl,fun _ hk=>dV hk,dW _ _ _ _ _ _ _ _⟩
  refine jp (vs:=[.string (bs [98,101,110]),zI 0,zI 1,zI 4]) [] [] (fun aB hs hZ=>kR)<|ba avu [0,1,2,3,4,5,6,7,8,9,10,11,12]<|lJ [7,11] ⟨fun z71 t72 aTH=>?_,fun z74 t75 avt=>?_,trivial⟩
  ·
   refine jn fun dE=>ba aTH [1,2,3,4,5,6,7,8,9,10,11,12,13]<|aD 11 fun axS ayY avs=>jn fun dD=>ba avs [1,2,3,4,5,6,7,8,9,10,11,12,13,14]<|zD 1<|aD 14 fun axR ayX avr=>jd 1 [14]<|cw avr<|zD 2<|aH q0 (.agg ⟨dL eg gx b9 fQ dR dE dD n⟩) [14] [6,8,7,4,5,13,10,12,11,2,1,0] (dN eg nE mS gx pf b9 fQ kg mT dR dE dD) (Sub.refl _) ⟨_,_,rfl,rfl,_,rfl,fun _ hk=>dV hk,dW _ _ _ _ _ _ _ _⟩
  refine jn fun dD=>ba avt [1,2,3,4,5,6,7,8,9,10,11,12,13]<|aD 7 fun axQ ayW avq=>jn fun dE=>ba avq [1,2,3,4,5,6,7,8,9,10,11,12,13,14]<|zD 1<|aD 14 fun axP ayV avp=>jd 1 [14]<|cw avp<|zD 2<|aH q0 (.agg ⟨dL eg gx b9 fQ dR dE dD n⟩) [14] [6,8,7,4,5,13,10,12,11,2,0,1] (dN eg nE mS gx pf b9 fQ kg mT dR dE dD) (Sub.refl _) ⟨_,_,rfl,rfl,_,rfl,fun _ hk=>dV hk,dW _ _ _ _ _ _ _ _⟩
 refine jp (vs:=[.string (bs [97,110,110,97]),zI 0,zI 2,zI 3]) [] [] (fun aB hs hZ=>kR)<|ba avx [0,1,2,3,4,5,6,7,8,9,10,11]<|lJ [3,6] ⟨fun z81 t82 avo=>?_,fun z84 t85 aTB=>?_,trivial⟩
 ·
  refine jn fun dR=>ba avo [1,2,3,4,5,6,7,8,9,10,11,12]<|jp (vs:=[.string (bs [115,109,121,116,104]),zI 1,zI 1,zI 2]) [] [] (fun aB hs hZ=>kR)<|lJ [7,8] ⟨fun z87 t88 aTz=>?_,fun z90 t91 aTx=>?_,trivial⟩
  ·
   refine jn fun dE=>ba aTz [1,2,3,4,5,6,7,8,9,10,11,12,13]<|jp (vs:=[.string (bs [115,109,121,116,104]),zI 0,zI 2,zI 0]) [] [] (fun aB hs hZ=>kR)<|jp (vs:=[.string (bs [115,109,105,116,104]),zI 1,zI 1,zI (-1)]) [] [] (fun aB hs hZ=>kR)<|jp (vs:=[.string (bs [98,101,110]),zI 0,zI 1,zI 4]) [] [] (fun aB hs hZ=>kR)<|aD 11 fun aWf aWW avn=>jn fun dD=>ba avn [1,2,3,4,5,6,7,8,9,10,11,12,13,14]<|zD 1<|aD 14 fun aWe aWV aTw=>jd 1 [14]<|cw aTw<|zD 2<|aH q0 (.agg ⟨dL eg gx b9 fQ dR dE dD n⟩) [14] [6,8,7,4,5,13,10,12,11,2,1,0] (dN eg nE mS gx pf b9 fQ kg mT dR dE dD) (Sub.refl _) ⟨_,_,rfl,rfl,_,rfl,fun _ hk=>dV hk,dW _ _ _ _ _ _ _ _⟩
  refine jp (vs:=[.string (bs [115,109,121,116,104]),zI 0,zI 2,zI 0]) [] [] (fun aB hs hZ=>kR)<|ba aTx [0,1,2,3,4,5,6,7,8,9,10,11,12]<|lJ [7,9] ⟨fun z95 t96 avm=>?_,fun z98 t99 agC=>?_,trivial⟩
  ·
   refine jn fun dE=>ba avm [1,2,3,4,5,6,7,8,9,10,11,12,13]<|jp (vs:=[.string (bs [115,109,105,116,104]),zI 1,zI 1,zI (-1)]) [] [] (fun aB hs hZ=>kR)<|jp (vs:=[.string (bs [98,101,110]),zI 0,zI 1,zI 4]) [] [] (fun aB hs hZ=>kR)<|aD 11 fun aql aqW agB=>jn fun dD=>ba agB [1,2,3,4,5,6,7,8,9,10,11,12,13,14]<|zD 1<|aD 14 fun aqk aqV agA=>jd 1 [14]<|cw agA<|zD 2<|aH q0 (.agg ⟨dL eg gx b9 fQ dR dE dD n⟩) [14] [6,8,7,4,5,13,10,12,11,2,1,0] (dN eg nE mS gx pf b9 fQ kg mT dR dE dD) (Sub.refl _) ⟨_,_,rfl,rfl,_,rfl,fun _ hk=>dV hk,dW _ _ _ _ _ _ _ _⟩
  refine jp (vs:=[.string (bs [115,109,105,116,104]),zI 1,zI 1,zI (-1)]) [] [] (fun aB hs hZ=>kR)<|ba agC [0,1,2,3,4,5,6,7,8,9,10,11,12]<|lJ [7,10] ⟨fun bbf t104 agz=>?_,fun bbe t107 aFK=>?_,trivial⟩
  ·
   refine jn fun dE=>ba agz [1,2,3,4,5,6,7,8,9,10,11,12,13]<|jp (vs:=[.string (bs [98,101,110]),zI 0,zI 1,zI 4]) [] [] (fun aB hs hZ=>kR)<|aD 11 fun aKS aNe aFJ=>jn fun dD=>ba aFJ [1,2,3,4,5,6,7,8,9,10,11,12,13,14]<|zD 1<|aD 14 fun aKR aNd aFI=>jd 1 [14]<|cw aFI<|zD 2<|aH q0 (.agg ⟨dL eg gx b9 fQ dR dE dD n⟩) [14] [6,8,7,4,5,13,10,12,11,2,1,0] (dN eg nE mS gx pf b9 fQ kg mT dR dE dD) (Sub.refl _) ⟨_,_,rfl,rfl,_,rfl,fun _ hk=>dV hk,dW _ _ _ _ _ _ _ _⟩
  refine jp (vs:=[.string (bs [98,101,110]),zI 0,zI 1,zI 4]) [] [] (fun aB hs hZ=>kR)<|ba aFK [0,1,2,3,4,5,6,7,8,9,10,11,12]<|lJ [7,11] ⟨fun bbc t112 aFH=>?_,fun bbb t115 aFG=>?_,trivial⟩
  ·
   refine jn fun dE=>ba aFH [1,2,3,4,5,6,7,8,9,10,11,12,13]<|aD 11 fun aKQ aNc aFF=>jn fun dD=>ba aFF [1,2,3,4,5,6,7,8,9,10,11,12,13,14]<|zD 1<|aD 14 fun aKP aNb aFE=>jd 1 [14]<|cw aFE<|zD 2<|aH q0 (.agg ⟨dL eg gx b9 fQ dR dE dD n⟩) [14] [6,8,7,4,5,13,10,12,11,2,1,0] (dN eg nE mS gx pf b9 fQ kg mT dR dE dD) (Sub.refl _) ⟨_,_,rfl,rfl,_,rfl,fun _ hk=>dV hk,dW _ _ _ _ _ _ _ _⟩
  refine jn fun dD=>ba aFG [1,2,3,4,5,6,7,8,9,10,11,12,13]<|aD 7 fun aKO aNa aFD=>jn fun dE=>ba aFD [1,2,3,4,5,6,7,8,9,10,11,12,13,14]<|zD 1<|aD 14 fun aKN aM9 aFC=>jd 1 [14]<|cw aFC<|zD 2<|aH q0 (.agg ⟨dL eg gx b9 fQ dR dE dD n⟩) [14] [6,8,7,4,5,13,10,12,11,2,0,1] (dN eg nE mS gx pf b9 fQ kg mT dR dE dD) (Sub.refl _) ⟨_,_,rfl,rfl,_,rfl,fun _ hk=>dV hk,dW _ _ _ _ _ _ _ _⟩
 refine jp (vs:=[.string (bs [115,109,121,116,104]),zI 1,zI 1,zI 2]) [] [] (fun aB hs hZ=>kR)<|ba aTB [0,1,2,3,4,5,6,7,8,9,10,11]<|lJ [3,7,8] ⟨fun bba t122 aFB=>?_,fun ba9 t125 aFA=>?_,fun ba8 t128 aFz=>?_,trivial⟩
 ·
  refine jn fun dR=>ba aFB [1,2,3,4,5,6,7,8,9,10,11,12]<|lJ [7,8] ⟨fun ba7 t131 aFy=>?_,fun ba6 t134 aFx=>?_,trivial⟩
  ·
   refine jn fun dE=>ba aFy [1,2,3,4,5,6,7,8,9,10,11,12,13]<|jp (vs:=[.string (bs [115,109,121,116,104]),zI 0,zI 2,zI 0]) [] [] (fun aB hs hZ=>kR)<|jp (vs:=[.string (bs [115,109,105,116,104]),zI 1,zI 1,zI (-1)]) [] [] (fun aB hs hZ=>kR)<|jp (vs:=[.string (bs [98,101,110]),zI 0,zI 1,zI 4]) [] [] (fun aB hs hZ=>kR)<|aD 11 fun aKM aM8 aFw=>jn fun dD=>ba aFw [1,2,3,4,5,6,7,8,9,10,11,12,13,14]<|zD 1<|aD 14 fun aKL aM7 aFv=>jd 1 [14]<|cw aFv<|zD 2<|aH q0 (.agg ⟨dL eg gx b9 fQ dR dE dD n⟩) [14] [6,8,7,4,5,13,10,12,11,2,1,0] (dN eg nE mS gx pf b9 fQ kg mT dR dE dD) (Sub.refl _) ⟨_,_,rfl,rfl,_,rfl,fun _ hk=>dV hk,dW _ _ _ _ _ _ _ _⟩
  refine jp (vs:=[.string (bs [115,109,121,116,104]),zI 0,zI 2,zI 0]) [] [] (fun aB hs hZ=>kR)<|ba aFx [0,1,2,3,4,5,6,7,8,9,10,11,12]<|lJ [7,9] ⟨fun ba5 t139 aFu=>?_,fun ba4 t142 aFt=>?_,trivial⟩
  ·
   refine jn fun dE=>ba aFu [1,2,3,4,5,6,7,8,9,10,11,12,13]<|jp (vs:=[.string (bs [115,109,105,116,104]),zI 1,zI 1,zI (-1)]) [] [] (fun aB hs hZ=>kR)<|jp (vs:=[.string (bs [98,101,110]),zI 0,zI 1,zI 4]) [] [] (fun aB hs hZ=>kR)<|aD 11 fun aKK aM6 aFs=>jn fun dD=>ba aFs [1,2,3,4,5,6,7,8,9,10,11,12,13,14]<|zD 1<|aD 14 fun aKJ aM5 aFr=>jd 1 [14]<|cw aFr<|zD 2<|aH q0 (.agg ⟨dL eg gx b9 fQ dR dE dD n⟩) [14] [6,8,7,4,5,13,10,12,11,2,1,0] (dN eg nE mS gx pf b9 fQ kg mT dR dE dD) (Sub.refl _) ⟨_,_,rfl,rfl,_,rfl,fun _ hk=>dV hk,dW _ _ _ _ _ _ _ _⟩
  refine jp (vs:=[.string (bs [115,109,105,116,104]),zI 1,zI 1,zI (-1)]) [] [] (fun aB hs hZ=>kR)<|ba aFt [0,1,2,3,4,5,6,7,8,9,10,11,12]<|lJ [7,10] ⟨fun ba3 t147 aFq=>?_,fun ba2 t150 aFp=>?_,trivial⟩
  ·
   refine jn fun dE=>ba aFq [1,2,3,4,5,6,7,8,9,10,11,12,13]<|jp (vs:=[.string (bs [98,101,110]),zI 0,zI 1,zI 4]) [] [] (fun aB hs hZ=>kR)<|aD 11 fun aKI aM4 aFo=>jn fun dD=>ba aFo [1,2,3,4,5,6,7,8,9,10,11,12,13,14]<|zD 1<|aD 14 fun aKH aM3 aFn=>jd 1 [14]<|cw aFn<|zD 2<|aH q0 (.agg ⟨dL eg gx b9 fQ dR dE dD n⟩) [14] [6,8,7,4,5,13,10,12,11,2,1,0] (dN eg nE mS gx pf b9 fQ kg mT dR dE dD) (Sub.refl _) ⟨_,_,rfl,rfl,_,rfl,fun _ hk=>dV hk,dW _ _ _ _ _ _ _ _⟩
  refine jp (vs:=[.string (bs [98,101,110]),zI 0,zI 1,zI 4]) [] [] (fun aB hs hZ=>kR)<|ba aFp [0,1,2,3,4,5,6,7,8,9,10,11,12]<|lJ [7,11] ⟨fun ba1 t155 aFm=>?_,fun ba0 t158 aFl=>?_,trivial⟩
  ·
   refine jn fun dE=>ba aFm [1,2,3,4,5,6,7,8,9,10,11,12,13]<|aD 11 fun aKG aM2 aFk=>jn fun dD=>ba aFk [1,2,3,4,5,6,7,8,9,10,11,12,13,14]<|zD 1<|aD 14 fun aKF aM1 aFj=>jd 1 [14]<|cw aFj<|zD 2<|aH q0 (.agg ⟨dL eg gx b9 fQ dR dE dD n⟩) [14] [6,8,7,4,5,13,10,12,11,2,1,0] (dN eg nE mS gx pf b9 fQ kg mT dR dE dD) (Sub.refl _) ⟨_,_,rfl,rfl,_,rfl,fun _ hk=>dV hk,dW _ _ _ _ _ _ _ _⟩
  refine jn fun dD=>ba aFl [1,2,3,4,5,6,7,8,9,10,11,12,13]<|aD 7 fun aKE aM0 aFi=>jn fun dE=>ba aFi [1,2,3,4,5,6,7,8,9,10,11,12,13,14]<|zD 1<|aD 14 fun aKD aMZ aFh=>jd 1 [14]<|cw aFh<|zD 2<|aH q0 (.agg ⟨dL eg gx b9 fQ dR dE dD n⟩) [14] [6,8,7,4,5,13,10,12,11,2,0,1] (dN eg nE mS gx pf b9 fQ kg mT dR dE dD) (Sub.refl _) ⟨_,_,rfl,rfl,_,rfl,fun _ hk=>dV hk,dW _ _ _ _ _ _ _ _⟩
 ·
  refine jn fun dE=>ba aFA [1,2,3,4,5,6,7,8,9,10,11,12]<|lJ [3,8] ⟨fun baZ t165 aFg=>?_,fun baY t168 aFf=>?_,trivial⟩
  ·
   refine jn fun dR=>ba aFg [1,2,3,4,5,6,7,8,9,10,11,12,13]<|jp (vs:=[.string (bs [115,109,121,116,104]),zI 0,zI 2,zI 0]) [] [] (fun aB hs hZ=>kR)<|jp (vs:=[.string (bs [115,109,105,116,104]),zI 1,zI 1,zI (-1)]) [] [] (fun aB hs hZ=>kR)<|jp (vs:=[.string (bs [98,101,110]),zI 0,zI 1,zI 4]) [] [] (fun aB hs hZ=>kR)<|aD 11 fun aKC aMY aFe=>jn fun dD=>ba aFe [1,2,3,4,5,6,7,8,9,10,11,12,13,14]<|zD 1<|aD 14 fun aKB aMX aFd=>jd 1 [14]<|cw aFd<|zD 2<|aH q0 (.agg ⟨dL eg gx b9 fQ dR dE dD n⟩) [14] [6,8,7,4,5,13,10,12,11,1,2,0] (dN eg nE mS gx pf b9 fQ kg mT dR dE dD) (Sub.refl _) ⟨_,_,rfl,rfl,_,rfl,fun _ hk=>dV hk,dW _ _ _ _ _ _ _ _⟩
  refine jp (vs:=[.string (bs [115,109,121,116,104]),zI 0,zI 2,zI 0]) [] [] (fun aB hs hZ=>kR)<|ba aFf [0,1,2,3,4,5,6,7,8,9,10,11,12]<|lJ [3,9] ⟨fun baX t173 aFc=>?_,fun baW t176 aFb=>?_,trivial⟩
  ·
   refine jn fun dR=>ba aFc [1,2,3,4,5,6,7,8,9,10,11,12,13]<|jp (vs:=[.string (bs [115,109,105,116,104]),zI 1,zI 1,zI (-1)]) [] [] (fun aB hs hZ=>kR)<|jp (vs:=[.string (bs [98,101,110]),zI 0,zI 1,zI 4]) [] [] (fun aB hs hZ=>kR)<|aD 11 fun aKA aMW aFa=>jn fun dD=>ba aFa [1,2,3,4,5,6,7,8,9,10,11,12,13,14]<|zD 1<|aD 14 fun aKz aMV aE9=>jd 1 [14]<|cw aE9<|zD 2<|aH q0 (.agg ⟨dL eg gx b9 fQ dR dE dD n⟩) [14] [6,8,7,4,5,13,10,12,11,1,2,0] (dN eg nE mS gx pf b9 fQ kg mT dR dE dD) (Sub.refl _) ⟨_,_,rfl,rfl,_,rfl,fun _ hk=>dV hk,dW _ _ _ _ _ _ _ _⟩
  refine jp (vs:=[.string (bs [115,109,105,116,104]),zI 1,zI 1,zI (-1)]) [] [] (fun aB hs hZ=>kR)<|ba aFb [0,1,2,3,4,5,6,7,8,9,10,11,12]<|lJ [3,10] ⟨fun baV t181 aE8=>?_,fun baU t184 aE7=>?_,trivial⟩
  ·
   refine jn fun dR=>ba aE8 [1,2,3,4,5,6,7,8,9,10,11,12,13]<|jp (vs:=[.string (bs [98,101,110]),zI 0,zI 1,zI 4]) [] [] (fun aB hs hZ=>kR)<|aD 11 fun aKy aMU aE6=>jn fun dD=>ba aE6 [1,2,3,4,5,6,7,8,9,10,11,12,13,14]<|zD 1<|aD 14 fun aKx aMT aE5=>jd 1 [14]<|cw aE5<|zD 2<|aH q0 (.agg ⟨dL eg gx b9 fQ dR dE dD n⟩) [14] [6,8,7,4,5,13,10,12,11,1,2,0] (dN eg nE mS gx pf b9 fQ kg mT dR dE dD) (Sub.refl _) ⟨_,_,rfl,rfl,_,rfl,fun _ hk=>dV hk,dW _ _ _ _ _ _ _ _⟩
  refine jp (vs:=[.string (bs [98,101,110]),zI 0,zI 1,zI 4]) [] [] (fun aB hs hZ=>kR)<|ba aE7 [0,1,2,3,4,5,6,7,8,9,10,11,12]<|lJ [3,11] ⟨fun baT t189 aE4=>?_,fun baS t192 aE3=>?_,trivial⟩
  ·
   refine jn fun dR=>ba aE4 [1,2,3,4,5,6,7,8,9,10,11,12,13]<|aD 11 fun aKw aMS aE2=>jn fun dD=>ba aE2 [1,2,3,4,5,6,7,8,9,10,11,12,13,14]<|zD 1<|aD 14 fun aKv aMR aE1=>jd 1 [14]<|cw aE1<|zD 2<|aH q0 (.agg ⟨dL eg gx b9 fQ dR dE dD n⟩) [14] [6,8,7,4,5,13,10,12,11,1,2,0] (dN eg nE mS gx pf b9 fQ kg mT dR dE dD) (Sub.refl _) ⟨_,_,rfl,rfl,_,rfl,fun _ hk=>dV hk,dW _ _ _ _ _ _ _ _⟩
  refine jn fun dD=>ba aE3 [1,2,3,4,5,6,7,8,9,10,11,12,13]<|aD 3 fun aKu aMQ aE0=>jn fun dR=>ba aE0 [1,2,3,4,5,6,7,8,9,10,11,12,13,14]<|zD 1<|aD 14 fun aKt aMP aEZ=>jd 1 [14]<|cw aEZ<|zD 2<|aH q0 (.agg ⟨dL eg gx b9 fQ dR dE dD n⟩) [14] [6,8,7,4,5,13,10,12,11,0,2,1] (dN eg nE mS gx pf b9 fQ kg mT dR dE dD) (Sub.refl _) ⟨_,_,rfl,rfl,_,rfl,fun _ hk=>dV hk,dW _ _ _ _ _ _ _ _⟩
 refine jp (vs:=[.string (bs [115,109,121,116,104]),zI 0,zI 2,zI 0]) [] [] (fun aB hs hZ=>kR)<|ba aFz [0,1,2,3,4,5,6,7,8,9,10,11]<|lJ [3,7,9] ⟨fun baR t199 aEY=>?_,fun baQ t202 aEX=>?_,fun baP t205 aEW=>?_,trivial⟩
 ·
  refine jn fun dR=>ba aEY [1,2,3,4,5,6,7,8,9,10,11,12]<|lJ [7,9] ⟨fun baO t208 aEV=>?_,fun baN t211 aEU=>?_,trivial⟩
  ·
   refine jn fun dE=>ba aEV [1,2,3,4,5,6,7,8,9,10,11,12,13]<|jp (vs:=[.string (bs [115,109,105,116,104]),zI 1,zI 1,zI (-1)]) [] [] (fun aB hs hZ=>kR)<|jp (vs:=[.string (bs [98,101,110]),zI 0,zI 1,zI 4]) [] [] (fun aB hs hZ=>kR)<|aD 11 fun aKs aMO aET=>jn fun dD=>ba aET [1,2,3,4,5,6,7,8,9,10,11,12,13,14]<|zD 1<|aD 14 fun aKr aMN aES=>jd 1 [14]<|cw aES<|zD 2<|aH q0 (.agg ⟨dL eg gx b9 fQ dR dE dD n⟩) [14] [6,8,7,4,5,13,10,12,11,2,1,0] (dN eg nE mS gx pf b9 fQ kg mT dR dE dD) (Sub.refl _) ⟨_,_,rfl,rfl,_,rfl,fun _ hk=>dV hk,dW _ _ _ _ _ _ _ _⟩
  refine jp (vs:=[.string (bs [115,109,105,116,104]),zI 1,zI 1,zI (-1)]) [] [] (fun aB hs hZ=>kR)<|ba aEU [0,1,2,3,4,5,6,7,8,9,10,11,12]<|lJ [7,10] ⟨fun baM t216 aER=>?_,fun baL t219 aEQ=>?_,trivial⟩
  ·
   refine jn fun dE=>ba aER [1,2,3,4,5,6,7,8,9,10,11,12,13]<|jp (vs:=[.string (bs [98,101,110]),zI 0,zI 1,zI 4]) [] [] (fun aB hs hZ=>kR)<|aD 11 fun aKq aMM aEP=>jn fun dD=>ba aEP [1,2,3,4,5,6,7,8,9,10,11,12,13,14]<|zD 1<|aD 14 fun aKp aML aEO=>jd 1 [14]<|cw aEO<|zD 2<|aH q0 (.agg ⟨dL eg gx b9 fQ dR dE dD n⟩) [14] [6,8,7,4,5,13,10,12,11,2,1,0] (dN eg nE mS gx pf b9 fQ kg mT dR dE dD) (Sub.refl _) ⟨_,_,rfl,rfl,_,rfl,fun _ hk=>dV hk,dW _ _ _ _ _ _ _ _⟩
  refine jp (vs:=[.string (bs [98,101,110]),zI 0,zI 1,zI 4]) [] [] (fun aB hs hZ=>kR)<|ba aEQ [0,1,2,3,4,5,6,7,8,9,10,11,12]<|lJ [7,11] ⟨fun baK t224 aEN=>?_,fun baJ t227 aEM=>?_,trivial⟩
  ·
   refine jn fun dE=>ba aEN [1,2,3,4,5,6,7,8,9,10,11,12,13]<|aD 11 fun aKo aMK aEL=>jn fun dD=>ba aEL [1,2,3,4,5,6,7,8,9,10,11,12,13,14]<|zD 1<|aD 14 fun aKn aMJ aEK=>jd 1 [14]<|cw aEK<|zD 2<|aH q0 (.agg ⟨dL eg gx b9 fQ dR dE dD n⟩) [14] [6,8,7,4,5,13,10,12,11,2,1,0] (dN eg nE mS gx pf b9 fQ kg mT dR dE dD) (Sub.refl _) ⟨_,_,rfl,rfl,_,rfl,fun _ hk=>dV hk,dW _ _ _ _ _ _ _ _⟩
  refine jn fun dD=>ba aEM [1,2,3,4,5,6,7,8,9,10,11,12,13]<|aD 7 fun aKm aMI aEJ=>jn fun dE=>ba aEJ [1,2,3,4,5,6,7,8,9,10,11,12,13,14]<|zD 1<|aD 14 fun aKl aMH aEI=>jd 1 [14]<|cw aEI<|zD 2<|aH q0 (.agg ⟨dL eg gx b9 fQ dR dE dD n⟩) [14] [6,8,7,4,5,13,10,12,11,2,0,1] (dN eg nE mS gx pf b9 fQ kg mT dR dE dD) (Sub.refl _) ⟨_,_,rfl,rfl,_,rfl,fun _ hk=>dV hk,dW _ _ _ _ _ _ _ _⟩
 ·
  refine jn fun dE=>ba aEX [1,2,3,4,5,6,7,8,9,10,11,12]<|lJ [3,9] ⟨fun baH t234 aEH=>?_,fun baG t237 aEG=>?_,trivial⟩
  ·
   refine jn fun dR=>ba aEH [1,2,3,4,5,6,7,8,9,10,11,12,13]<|jp (vs:=[.string (bs [115,109,105,116,104]),zI 1,zI 1,zI (-1)]) [] [] (fun aB hs hZ=>kR)<|jp (vs:=[.string (bs [98,101,110]),zI 0,zI 1,zI 4]) [] [] (fun aB hs hZ=>kR)<|aD 11 fun aKk aMG aEF=>jn fun dD=>ba aEF [1,2,3,4,5,6,7,8,9,10,11,12,13,14]<|zD 1<|aD 14 fun aKj aMF aEE=>jd 1 [14]<|cw aEE<|zD 2<|aH q0 (.agg ⟨dL eg gx b9 fQ dR dE dD n⟩) [14] [6,8,7,4,5,13,10,12,11,1,2,0] (dN eg nE mS gx pf b9 fQ kg mT dR dE dD) (Sub.refl _) ⟨_,_,rfl,rfl,_,rfl,fun _ hk=>dV hk,dW _ _ _ _ _ _ _ _⟩
  refine jp (vs:=[.string (bs [115,109,105,116,104]),zI 1,zI 1,zI (-1)]) [] [] (fun aB hs hZ=>kR)<|ba aEG [0,1,2,3,4,5,6,7,8,9,10,11,12]<|lJ [3,10] ⟨fun baF t242 aED=>?_,fun baE t245 aEC=>?_,trivial⟩
  ·
   refine jn fun dR=>ba aED [1,2,3,4,5,6,7,8,9,10,11,12,13]<|jp (vs:=[.string (bs [98,101,110]),zI 0,zI 1,zI 4]) [] [] (fun aB hs hZ=>kR)<|aD 11 fun aKi aME aEB=>jn fun dD=>ba aEB [1,2,3,4,5,6,7,8,9,10,11,12,13,14]<|zD 1<|aD 14 fun aKh aMD aEA=>jd 1 [14]<|cw aEA<|zD 2<|aH q0 (.agg ⟨dL eg gx b9 fQ dR dE dD n⟩) [14] [6,8,7,4,5,13,10,12,11,1,2,0] (dN eg nE mS gx pf b9 fQ kg mT dR dE dD) (Sub.refl _) ⟨_,_,rfl,rfl,_,rfl,fun _ hk=>dV hk,dW _ _ _ _ _ _ _ _⟩
  refine jp (vs:=[.string (bs [98,101,110]),zI 0,zI 1,zI 4]) [] [] (fun aB hs hZ=>kR)<|ba aEC [0,1,2,3,4,5,6,7,8,9,10,11,12]<|lJ [3,11] ⟨fun baD t250 aEz=>?_,fun baC t253 aEy=>?_,trivial⟩
  ·
   refine jn fun dR=>ba aEz [1,2,3,4,5,6,7,8,9,10,11,12,13]<|aD 11 fun aKg aMC aEx=>jn fun dD=>ba aEx [1,2,3,4,5,6,7,8,9,10,11,12,13,14]<|zD 1<|aD 14 fun aKf aMB aEw=>jd 1 [14]<|cw aEw<|zD 2<|aH q0 (.agg ⟨dL eg gx b9 fQ dR dE dD n⟩) [14] [6,8,7,4,5,13,10,12,11,1,2,0] (dN eg nE mS gx pf b9 fQ kg mT dR dE dD) (Sub.refl _) ⟨_,_,rfl,rfl,_,rfl,fun _ hk=>dV hk,dW _ _ _ _ _ _ _ _⟩
  refine jn fun dD=>ba aEy [1,2,3,4,5,6,7,8,9,10,11,12,13]<|aD 3 fun aKe aMA aEv=>jn fun dR=>ba aEv [1,2,3,4,5,6,7,8,9,10,11,12,13,14]<|zD 1<|aD 14 fun aKd aMz aEu=>jd 1 [14]<|cw aEu<|zD 2<|aH q0 (.agg ⟨dL eg gx b9 fQ dR dE dD n⟩) [14] [6,8,7,4,5,13,10,12,11,0,2,1] (dN eg nE mS gx pf b9 fQ kg mT dR dE dD) (Sub.refl _) ⟨_,_,rfl,rfl,_,rfl,fun _ hk=>dV hk,dW _ _ _ _ _ _ _ _⟩
 refine jp (vs:=[.string (bs [115,109,105,116,104]),zI 1,zI 1,zI (-1)]) [] [] (fun aB hs hZ=>kR)<|ba aEW [0,1,2,3,4,5,6,7,8,9,10,11]<|lJ [3,7,10] ⟨fun baB t260 aEt=>?_,fun baA t263 aEs=>?_,fun baz t266 aEr=>?_,trivial⟩
 ·
  refine jn fun dR=>ba aEt [1,2,3,4,5,6,7,8,9,10,11,12]<|lJ [7,10] ⟨fun bay t269 aEq=>?_,fun bax t272 aEp=>?_,trivial⟩
  ·
   refine jn fun dE=>ba aEq [1,2,3,4,5,6,7,8,9,10,11,12,13]<|jp (vs:=[.string (bs [98,101,110]),zI 0,zI 1,zI 4]) [] [] (fun aB hs hZ=>kR)<|aD 11 fun aKc aMy aEo=>jn fun dD=>ba aEo [1,2,3,4,5,6,7,8,9,10,11,12,13,14]<|zD 1<|aD 14 fun aKb aMx aEn=>jd 1 [14]<|cw aEn<|zD 2<|aH q0 (.agg ⟨dL eg gx b9 fQ dR dE dD n⟩) [14] [6,8,7,4,5,13,10,12,11,2,1,0] (dN eg nE mS gx pf b9 fQ kg mT dR dE dD) (Sub.refl _) ⟨_,_,rfl,rfl,_,rfl,fun _ hk=>dV hk,dW _ _ _ _ _ _ _ _⟩
  refine jp (vs:=[.string (bs [98,101,110]),zI 0,zI 1,zI 4]) [] [] (fun aB hs hZ=>kR)<|ba aEp [0,1,2,3,4,5,6,7,8,9,10,11,12]<|lJ [7,11] ⟨fun baw t277 aEm=>?_,fun bav t280 aEl=>?_,trivial⟩
  ·
   refine jn fun dE=>ba aEm [1,2,3,4,5,6,7,8,9,10,11,12,13]<|aD 11 fun aKa aMw aEk=>jn fun dD=>ba aEk [1,2,3,4,5,6,7,8,9,10,11,12,13,14]<|zD 1<|aD 14 fun aJ9 aMv aEj=>jd 1 [14]<|cw aEj<|zD 2<|aH q0 (.agg ⟨dL eg gx b9 fQ dR dE dD n⟩) [14] [6,8,7,4,5,13,10,12,11,2,1,0] (dN eg nE mS gx pf b9 fQ kg mT dR dE dD) (Sub.refl _) ⟨_,_,rfl,rfl,_,rfl,fun _ hk=>dV hk,dW _ _ _ _ _ _ _ _⟩
  refine jn fun dD=>ba aEl [1,2,3,4,5,6,7,8,9,10,11,12,13]<|aD 7 fun aJ8 aMu aEi=>jn fun dE=>ba aEi [1,2,3,4,5,6,7,8,9,10,11,12,13,14]<|zD 1<|aD 14 fun aJ7 aMt aEh=>jd 1 [14]<|cw aEh<|zD 2<|aH q0 (.agg ⟨dL eg gx b9 fQ dR dE dD n⟩) [14] [6,8,7,4,5,13,10,12,11,2,0,1] (dN eg nE mS gx pf b9 fQ kg mT dR dE dD) (Sub.refl _) ⟨_,_,rfl,rfl,_,rfl,fun _ hk=>dV hk,dW _ _ _ _ _ _ _ _⟩
 ·
  refine jn fun dE=>ba aEs [1,2,3,4,5,6,7,8,9,10,11,12]<|lJ [3,10] ⟨fun bau t287 aEg=>?_,fun bat t290 aEf=>?_,trivial⟩
  ·
   refine jn fun dR=>ba aEg [1,2,3,4,5,6,7,8,9,10,11,12,13]<|jp (vs:=[.string (bs [98,101,110]),zI 0,zI 1,zI 4]) [] [] (fun aB hs hZ=>kR)<|aD 11 fun aJ6 aMs aEe=>jn fun dD=>ba aEe [1,2,3,4,5,6,7,8,9,10,11,12,13,14]<|zD 1<|aD 14 fun aJ5 aMr aEd=>jd 1 [14]<|cw aEd<|zD 2<|aH q0 (.agg ⟨dL eg gx b9 fQ dR dE dD n⟩) [14] [6,8,7,4,5,13,10,12,11,1,2,0] (dN eg nE mS gx pf b9 fQ kg mT dR dE dD) (Sub.refl _) ⟨_,_,rfl,rfl,_,rfl,fun _ hk=>dV hk,dW _ _ _ _ _ _ _ _⟩
  refine jp (vs:=[.string (bs [98,101,110]),zI 0,zI 1,zI 4]) [] [] (fun aB hs hZ=>kR)<|ba aEf [0,1,2,3,4,5,6,7,8,9,10,11,12]<|lJ [3,11] ⟨fun bas t295 aEc=>?_,fun bar t298 aEb=>?_,trivial⟩
  ·
   refine jn fun dR=>ba aEc [1,2,3,4,5,6,7,8,9,10,11,12,13]<|aD 11 fun aJ4 aMq aEa=>jn fun dD=>ba aEa [1,2,3,4,5,6,7,8,9,10,11,12,13,14]<|zD 1<|aD 14 fun aJ3 aMp aD9=>jd 1 [14]<|cw aD9<|zD 2<|aH q0 (.agg ⟨dL eg gx b9 fQ dR dE dD n⟩) [14] [6,8,7,4,5,13,10,12,11,1,2,0] (dN eg nE mS gx pf b9 fQ kg mT dR dE dD) (Sub.refl _) ⟨_,_,rfl,rfl,_,rfl,fun _ hk=>dV hk,dW _ _ _ _ _ _ _ _⟩
  refine jn fun dD=>ba aEb [1,2,3,4,5,6,7,8,9,10,11,12,13]<|aD 3 fun aJ2 aMo aD8=>jn fun dR=>ba aD8 [1,2,3,4,5,6,7,8,9,10,11,12,13,14]<|zD 1<|aD 14 fun aJ1 aMn aD7=>jd 1 [14]<|cw aD7<|zD 2<|aH q0 (.agg ⟨dL eg gx b9 fQ dR dE dD n⟩) [14] [6,8,7,4,5,13,10,12,11,0,2,1] (dN eg nE mS gx pf b9 fQ kg mT dR dE dD) (Sub.refl _) ⟨_,_,rfl,rfl,_,rfl,fun _ hk=>dV hk,dW _ _ _ _ _ _ _ _⟩
 refine jp (vs:=[.string (bs [98,101,110]),zI 0,zI 1,zI 4]) [] [] (fun aB hs hZ=>kR)<|ba aEr [0,1,2,3,4,5,6,7,8,9,10,11]<|lJ [3,7,11] ⟨fun baq t305 aD6=>?_,fun bap t308 aD5=>?_,fun bao t311 aD4=>?_,trivial⟩
 ·
  refine jn fun dR=>ba aD6 [1,2,3,4,5,6,7,8,9,10,11,12]<|lJ [7,11] ⟨fun ban t314 aD3=>?_,fun bam t317 aD2=>?_,trivial⟩
  ·
   refine jn fun dE=>ba aD3 [1,2,3,4,5,6,7,8,9,10,11,12,13]<|aD 11 fun aJ0 aMm aD1=>jn fun dD=>ba aD1 [1,2,3,4,5,6,7,8,9,10,11,12,13,14]<|zD 1<|aD 14 fun aJZ aMl aD0=>jd 1 [14]<|cw aD0<|zD 2<|aH q0 (.agg ⟨dL eg gx b9 fQ dR dE dD n⟩) [14] [6,8,7,4,5,13,10,12,11,2,1,0] (dN eg nE mS gx pf b9 fQ kg mT dR dE dD) (Sub.refl _) ⟨_,_,rfl,rfl,_,rfl,fun _ hk=>dV hk,dW _ _ _ _ _ _ _ _⟩
  refine jn fun dD=>ba aD2 [1,2,3,4,5,6,7,8,9,10,11,12,13]<|aD 7 fun aJY aMk aDZ=>jn fun dE=>ba aDZ [1,2,3,4,5,6,7,8,9,10,11,12,13,14]<|zD 1<|aD 14 fun aJX aMj aDY=>jd 1 [14]<|cw aDY<|zD 2<|aH q0 (.agg ⟨dL eg gx b9 fQ dR dE dD n⟩) [14] [6,8,7,4,5,13,10,12,11,2,0,1] (dN eg nE mS gx pf b9 fQ kg mT dR dE dD) (Sub.refl _) ⟨_,_,rfl,rfl,_,rfl,fun _ hk=>dV hk,dW _ _ _ _ _ _ _ _⟩
 ·
  refine jn fun dE=>ba aD5 [1,2,3,4,5,6,7,8,9,10,11,12]<|lJ [3,11] ⟨fun bak t324 aDX=>?_,fun baj t327 aDW=>?_,trivial⟩
  ·
   refine jn fun dR=>ba aDX [1,2,3,4,5,6,7,8,9,10,11,12,13]<|aD 11 fun aJW aMi aDV=>jn fun dD=>ba aDV [1,2,3,4,5,6,7,8,9,10,11,12,13,14]<|zD 1<|aD 14 fun aJV aMh aDU=>jd 1 [14]<|cw aDU<|zD 2<|aH q0 (.agg ⟨dL eg gx b9 fQ dR dE dD n⟩) [14] [6,8,7,4,5,13,10,12,11,1,2,0] (dN eg nE mS gx pf b9 fQ kg mT dR dE dD) (Sub.refl _) ⟨_,_,rfl,rfl,_,rfl,fun _ hk=>dV hk,dW _ _ _ _ _ _ _ _⟩
  refine jn fun dD=>ba aDW [1,2,3,4,5,6,7,8,9,10,11,12,13]<|aD 3 fun aJU aMg aDT=>jn fun dR=>ba aDT [1,2,3,4,5,6,7,8,9,10,11,12,13,14]<|zD 1<|aD 14 fun aJT aMf aDS=>jd 1 [14]<|cw aDS<|zD 2<|aH q0 (.agg ⟨dL eg gx b9 fQ dR dE dD n⟩) [14] [6,8,7,4,5,13,10,12,11,0,2,1] (dN eg nE mS gx pf b9 fQ kg mT dR dE dD) (Sub.refl _) ⟨_,_,rfl,rfl,_,rfl,fun _ hk=>dV hk,dW _ _ _ _ _ _ _ _⟩
 refine jn fun dD=>ba aD4 [1,2,3,4,5,6,7,8,9,10,11,12]<|lJ [3,7] ⟨fun bai t334 aDR=>?_,fun bah t337 aDQ=>?_,trivial⟩
 ·
  refine jn fun dR=>ba aDR [1,2,3,4,5,6,7,8,9,10,11,12,13]<|aD 7 fun aJS aMe aDP=>jn fun dE=>ba aDP [1,2,3,4,5,6,7,8,9,10,11,12,13,14]<|zD 1<|aD 14 fun aJR aMd aDO=>jd 1 [14]<|cw aDO<|zD 2<|aH q0 (.agg ⟨dL eg gx b9 fQ dR dE dD n⟩) [14] [6,8,7,4,5,13,10,12,11,1,0,2] (dN eg nE mS gx pf b9 fQ kg mT dR dE dD) (Sub.refl _) ⟨_,_,rfl,rfl,_,rfl,fun _ hk=>dV hk,dW _ _ _ _ _ _ _ _⟩
 refine jn fun dE=>ba aDQ [1,2,3,4,5,6,7,8,9,10,11,12,13]<|aD 3 fun aJQ aMc aDN=>jn fun dR=>ba aDN [1,2,3,4,5,6,7,8,9,10,11,12,13,14]<|zD 1<|aD 14 fun aJP aMb aDM=>jd 1 [14]<|cw aDM<|zD 2<|aH q0 (.agg ⟨dL eg gx b9 fQ dR dE dD n⟩) [14] [6,8,7,4,5,13,10,12,11,0,1,2] (dN eg nE mS gx pf b9 fQ kg mT dR dE dD) (Sub.refl _) ⟨_,_,rfl,rfl,_,rfl,fun _ hk=>dV hk,dW _ _ _ _ _ _ _ _⟩
instance (nc nh i:Nat)(x:cq):Decidable (iz nc nh i x):=by unfold iz;infer_instance
instance (w:ByteArray):Decidable (Script w):=by unfold Script;infer_instance
theorem Vd{p:Nat→α→Prop}{l:List α}(h:∀i (hi:i <l.length),p i l[i]):∀(i:Nat) (x:α),l[i]?=some x→p i x:=fun i x hx=>by
 obtain⟨h1,rfl⟩:=List.getElem?_eq_some_iff.1 hx
 exact h i h1
theorem HG:∀(i:Nat) (x:cq),C6[i]?=some x→iz 4 6 i x:=Vd (by decide)
theorem U1:∀(i:Nat) (x:cq),C6[i]?=some x→Ao x.word=true:=Vd (of_decide_eq_true (by kernel_rfl))
theorem ah5:∀(i:Nat) (x:bK),U2[i]?=some x→Ao x.name=true∧ -1≤x.under∧x.under <i:=Vd (of_decide_eq_true (by kernel_rfl))
def atU(hd:List cq)(i:Int):Bool:=decide (i= -1)||(decide (0≤i)&&match hd[i.toNat]? with
 |some x=>decide (0≤x.cls)
 |none=>false)
theorem fM{i:Int}(h:atU hd i=true):ox hd i:=by
 simp only[atU,Bool.or_eq_true,Bool.and_eq_true,decide_eq_true_eq] at h
 rcases h with h| ⟨h1,h2⟩
 ·exact .inl h
 split at h2
 ·rename_i x hx;exact .inr ⟨h1,x,hx,of_decide_eq_true h2⟩
 cases h2
def Pn(p:aI):Bool:=decide (((1≤p.name.size∧p.name.size≤6)∧Script p.name)∧(0≤p.st∧p.st≤1)∧p.bold=false)&&atU C6 p.head
theorem Mm{p:aI}(h:Pn p=true):Fy C6 p:=by
 simp only[Pn,Bool.and_eq_true,decide_eq_true_eq] at h
 exact⟨h.1.1,fM h.2,h.1.2⟩
theorem ac5{p:aI}(h:Pn p=true):rS p.name∧ox C6 p.head:=by
 have:=Mm h
 exact⟨⟨this.1.1,this.1.2⟩,this.2.1⟩
theorem X4:∀p∈Nx,Pn p=true:=by decide
theorem X5:∀p∈Ny,Pn p=true:=by decide
abbrev DT(n:Int)(fs:List ez):aP:={aT n with facts:=fs}
theorem apU{n:Int}(h:0≤n∧n≤4)(hf:fs.length≤3)(h1:∀x∈fs,(0≤x.a∧x.a <3)∧(0≤x.b∧x.b <3))(h2:fs.Pairwise fun x y=>¬(x.a=y.a∧x.b=y.b)):mH (DT n fs) where
 qy:=⟨rfl,by simp,by simp[By],by simp[akJ]⟩
 ways:=⟨(by decide:(1:Nat)≤1),by simp[jT]⟩
 dP:=⟨(by decide:(0:Nat) <4∧4≤6),(by decide:(6:Nat)≤6),HG⟩
 rules:=(by decide:(1:Nat)≤4)
 before:=⟨(by decide:(3:Nat)≤4),fun p hp=>⟨Mm (X4 p hp),by
  simp only[Nx,List.mem_cons,List.not_mem_nil,or_false] at hp
  rcases hp with rfl|rfl|rfl
  ·exact⟨_,rfl,by simp⟩
  ·exact⟨_,rfl,by simp⟩
  exact⟨_,rfl,by simp⟩⟩⟩
 after:=⟨(by decide:(3:Nat)≤4),fun p hp=>⟨Mm (X5 p hp),by
  simp only[Ny,List.mem_cons,List.not_mem_nil,or_false] at hp
  rcases hp with rfl|rfl|rfl<;>decide⟩⟩
 y3:=⟨(by decide:(0:Int)≤1∧(1:Int)≤4),(by decide:(0:Int)≤1∧(1:Int)≤4),h⟩
 facts:=⟨by show fs.length≤4;omega,h1⟩
 apart:=h2
theorem apT{n:Int}(hf:fs.length≤3)(h1:∀x∈fs,(0≤x.a∧x.a <3)∧(0≤x.b∧x.b <3)):gh (DT n fs) where
 rules:=⟨(by decide:(1:Nat)≤4),by
  intro r hr
  rw[List.mem_singleton] at hr;subst hr
  have e:V4 ⟨bs [121],bs [105]⟩=true:=by kernel_rfl
  simp only[V4,Bool.and_eq_true,Nat.ble_eq,Bool.not_eq_true'] at e
  exact⟨e.1,e.2.1,GC e.2.2.1,GC e.2.2.2.1,e.2.2.2.2⟩⟩
 before:=⟨(by decide:(3:Nat)≤4),fun p hp=>ac5 (X4 p hp)⟩
 after:=⟨(by decide:(3:Nat)≤4),fun p hp=>ac5 (X5 p hp)⟩
 dP:=⟨(by decide:(0:Nat) <4∧4≤6),(by decide:(6:Nat)≤6),ah5,by simp only[Aw];decide,fun i x hx=>⟨U1 i x hx,HG i x hx⟩,by simp only[Aw,OS];decide⟩
 facts:=⟨by show fs.length≤4;omega,h1⟩
theorem aG3{v0 v1 v3 v4 v5 v6 v7 vb:Value}{fa fb:Option Addr}{fn fd:Nat}{g0 g1 g2:Int}{ro:Nat→Option Obj}(hs:∀v∈[v0,v1,(.slice fa 0 fc),v3,v4,v5,v6,v7,zI g0,zI g1,zI g2,(.slice fb fn fd)],single v=true):dO zT 45 [.agg ⟨[v0,v1,(.slice fa 0 fc),v3,v4,v5,v6,v7,zI g0,zI g1,zI g2,vb]⟩,(.slice fb fn fd)] ro (.agg ⟨[v0,v1,(.slice fa 0 fc),v3,v4,v5,v6,v7,zI g0,zI g1,zI g2,(.slice fb fn fd)]⟩):=by
 refine bC au [] [] bu<|zD 2<|jn fun b2=>jn fun b4=>jd 10 [1,1]<|yh 0 b4 0 zO [v0,v1,(.slice fa 0 fc),v3,v4,v5,v6,v7,zI g0,zI g1,zI g2,(.slice fb fn fd)] 38 hs rfl<|zD 2<|aH q0 (.agg ⟨[v0,v1,(.slice fa 0 fc),v3,v4,v5,v6,v7,zI g0,zI g1,zI g2,(.slice fb fn fd)]⟩) [0] [] [] (Sub.refl _) ⟨_,_,rfl,rfl,rfl,rfl⟩
end Go.L
