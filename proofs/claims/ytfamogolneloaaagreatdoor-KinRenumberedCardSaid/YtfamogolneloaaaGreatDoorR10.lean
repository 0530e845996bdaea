/- Part 10 of the proof. -/
import Derived.Test.YtfamogolneloaaaGreatDoorR9
set_option maxRecDepth 100000
set_option linter.all false
namespace Go.L
open Go Go.Conc Go.Proofs
variable {ways:List (List aN)} {ys xs:List Int} {K:aI} {l:List Value} {k b n fc b1 i bl b2 b3 ck0 ck en ec:Nat} {aG:Nat→Option Obj} {Stop:Cells→Prop} {x f y j:Int} {vS vT:Value} {α:Type} {hd:List cv} {fs:List cU} {B LE:Cells}
theorem aeB{κ:Type}{kv:κ→Value}{F:List (κ×Value)}{es:Array MapEntry}(h:tE kv F es ck):es.toList.length=F.length:=by
 have:=congrArg List.length h.1
 simpa using this
theorem ahW{r1 IL:Nat}{BE:Array MapEntry}{F1:List (an×Value)}{H:List an}{g:an→an}{ro:Nat→Option Obj}(IF:Sc ro r1 H g BE IL F1)(hn:H.length≤8)(hS:∀x∈F1,(g x.1).h=0∨(g x.1).h=1):eG zT 195 [(.map (some r1)),zI 2] ro [] (fun r Y=>∃a n c,r= .agg ⟨[.slice a n c]⟩):=by
 refine bD au [] [] ba<|zD 2<|jn fun b4=>zD 4<|jmS (E:=74) (z:= zS) fun Aa=>jg 0 [.b Aa (.cells ⟨[zS,zS]⟩ 74 (0,0))]<|zD 1<|jn fun b5=>jd 6 [0]<|jmR IF.m fun ZE=>jg 0 [.b ZE (uP r1 IL [])]<|zD 2<|oH<|oH<|dW [1,1,0,1,0,0] [] (fun(zz:(List Nat)×Value×Cells×(List ah)×Value×Cells×(List ah))=>[(4,zP b4),(5,zP b5),(16,zP ZE)]) (fun(zz:(List Nat)×Value×Cells×(List ah)×Value×Cells×(List ah))=>[.b ZE (uP r1 IL zz.1),.b Aa (.cells ⟨[zz.2.1,zz.2.2.2.2.1]⟩ 74 (0,0)),.l zz.2.2.1,.l zz.2.2.2.2.2.1,.b b5 (.cells ⟨[.slice (some ⟨Aa,0,none⟩) 2 2]⟩ 27 (0,0)),.b b4 (.cells ⟨[zS]⟩ 27 (0,0))]) (fun(zz:(List Nat)×Value×Cells×(List ah)×Value×Cells×(List ah))=>zz.2.2.2.1.length+zz.2.2.2.2.2.2.length+(cK BE zz.1).length≤8∧az zz.2.1 2 73 cI zz.2.2.2.1 zz.2.2.1∧az zz.2.2.2.2.1 2 73 cI zz.2.2.2.2.2.2 zz.2.2.2.2.2.1) (fun(zz:(List Nat)×Value×Cells×(List ah)×Value×Cells×(List ah))=>(cK BE zz.1).length) (⟨[],zS,[],[],zS,[],[]⟩) ⟨by rw[Ck,aeB IF.e];have:=congrArg List.length IF.k;simp at this ⊢;omega,az.nil _ _ _,az.nil _ _ _⟩ [2,4,1,0,3,5] ?_
 rintro⟨seen,w0,L0,p0,w1,L1,p1⟩ hI K1 bK rest
 dsimp only at hI
 refine zD 2<|jmN (it:=ZE) (kv:=pd) (seen:=seen) 0 IF.m IF.e (fun k17 v17 e17 amU Jp aaA aQV=>?_) (fun bed=>?_)
 ·
  have hvv:bE ro v17 3 cJ [g k17]:=IF.v _ amU
  obtain⟨Mv,qvb,qvo,Bx,rfl,qvk,Px,Pw⟩:=hvv
  have hsg:(g k17).h=0∨(g k17).h=1:=hS _ amU
  have cL:=GH Jp
  refine jg 0 [.b ZE (uP r1 IL (seen++[e17.born]))]<|zD 8<|jmE (it:=ZE) 0 IF.m IF.e Jp aaA aQV<|jg 0 [.b ZE (uP r1 IL (seen++[e17.born]))]<|zD 10<|dW [1,1,0,1,0,0,1,1,0,1,1,0,0] [K1] (fun(zz:Nat×Value×Cells×(List ah)×Value×Cells×(List ah))=>[(4,zP b4),(5,zP b5),(16,zP ZE),(21,.slice Mv ([g k17].length) Bx),(22,zI ([g k17].length:Int)),(23,zI (zz.1:Int))]) (fun(zz:Nat×Value×Cells×(List ah)×Value×Cells×(List ah))=>[.b ZE (uP r1 IL (seen++[e17.born])),.b Aa (.cells ⟨[zz.2.1,zz.2.2.2.2.1]⟩ 74 (0,0)),.l zz.2.2.1,.l zz.2.2.2.2.2.1,.b b5 (.cells ⟨[.slice (some ⟨Aa,0,none⟩) 2 2]⟩ 27 (0,0)),.b b4 (.cells ⟨[zS]⟩ 27 (0,0))]) (fun(zz:Nat×Value×Cells×(List ah)×Value×Cells×(List ah))=>(zz.1≤1∧zz.2.2.2.1.length+zz.2.2.2.2.2.2.length+(cK BE (seen++[e17.born])).length+(1-zz.1)≤8)∧az zz.2.1 2 73 cI zz.2.2.2.1 zz.2.2.1∧az zz.2.2.2.2.1 2 73 cI zz.2.2.2.2.2.2 zz.2.2.2.2.2.1) (fun(zz:Nat×Value×Cells×(List ah)×Value×Cells×(List ah))=>1-zz.1) (⟨0,w0,L0,p0,w1,L1,p1⟩) ⟨by dsimp only;omega,hI.2⟩ [0,1,2,3,4,5] ?_
  rintro⟨i,w0,L0,p0,w1,L1,p1⟩ hJ K2 mr rest
  dsimp only at hJ
  have Sz: [g k17].length=1:=rfl
  refine zD 5<|zJ 24 ((i:Int) <([g k17].length:Int)) (fun h1=>?_) fun h1=>?_
  ·
   refine zD 6 ?_
   obtain⟨yq,lH⟩:=zG ([g k17]) i
   refine iA Bx 3 Px lH<|jl 0 (Pw _ _ lH) ?_
   obtain⟨hxe,hi0⟩:=Gq lH;rw[←hxe] at hsg;obtain⟨xh,xn,xl⟩:=yq;dsimp only at hsg;rcases hsg with rfl|rfl
   ·
    refine jn fun b9=>jd 11 [0,5,0,5,0]<|jd 4 [2,0]<|aL 12 fun sB sJ q5=>jn fun b39=>bB q5 [1,2,3,4,5,6,7]<|aL 13 fun sA sI qZ=>jq (sz:=2) (ps:=p0) (qs:=[(⟨xn,xl⟩:ah)]) (enc:=cI) (w:= .slice (some ⟨b39,0,none⟩) 1 1) [4] [0] [(b39,.cells ⟨([(⟨xn,xl⟩:ah)].map cI).flatten⟩ 73 (0,0))] (hJ.2.1) (fun s _ hZ=>bX [(⟨xn,xl⟩:ah)] (hZ _ (.head _)) (by intro p hp;rfl)) (fun p _=>aj rfl) (by simp only[List.length_cons,List.length_nil];omega) (fun v40 L40 G3=>?_)
    obtain⟨arh,aq6,avl⟩:=G3.form
    subst avl
    refine iu qZ [[2],[6],[2],[6]]<|zD 1<|aL 15 fun BG BM CC=>jd 1 [4]<|dZ CC<|zD 2<|ja ((i:Int)+1) (by omega)<|zD 2<|bJ mr (⟨i+1,(.slice arh ((p0++[(⟨xn,xl⟩:ah)])).length aq6),L40,(p0++[(⟨xn,xl⟩:ah)]),w1,L1,p1⟩) ⟨by simp only[List.length_append,List.length_cons,List.length_nil];omega,G3,hJ.2.2⟩ (by dsimp only;omega) [3,4,0,5,6,7] (Sub.refl _)
   refine jn fun b9=>jd 11 [0,5,0,5,0]<|jd 4 [2,0]<|aL 12 fun abW acF hL6=>jn fun b39=>bB hL6 [1,2,3,4,5,6,7]<|aL 13 fun abV acE Q9=>jq (sz:=2) (ps:=p1) (qs:=[(⟨xn,xl⟩:ah)]) (enc:=cI) (w:= .slice (some ⟨b39,0,none⟩) 1 1) [5] [0] [(b39,.cells ⟨([(⟨xn,xl⟩:ah)].map cI).flatten⟩ 73 (0,0))] (hJ.2.2) (fun s _ hZ=>bX [(⟨xn,xl⟩:ah)] (hZ _ (.head _)) (by intro p hp;rfl)) (fun p _=>aj rfl) (by simp only[List.length_cons,List.length_nil];omega) (fun v40 L40 G3=>?_)
   obtain⟨arh,aq6,avl⟩:=G3.form
   subst avl
   refine iu Q9 [[2],[6],[2],[6]]<|zD 1<|aL 15 fun YV Zd hL8=>jd 1 [4]<|dZ hL8<|zD 2<|ja ((i:Int)+1) (by omega)<|zD 2<|bJ mr (⟨i+1,w0,L0,p0,(.slice arh ((p1++[(⟨xn,xl⟩:ah)])).length aq6),L40,(p1++[(⟨xn,xl⟩:ah)])⟩) ⟨by simp only[List.length_append,List.length_cons,List.length_nil];omega,hJ.2.1,G3⟩ (by dsimp only;omega) [3,4,5,0,6,7] (Sub.refl _)
  refine zD 2<|bJ bK (⟨(seen++[e17.born]),w0,L0,p0,w1,L1,p1⟩) ⟨by dsimp only;omega,hJ.2⟩ cL [0,1,2,3,4,5] (Sub.refl _)
 refine jg 0 [.b ZE (uP r1 IL seen)]<|jd 14 [4]<|dW [1,1,1,0,1,0,0] [] (fun(zz:Nat×Value×Cells×(List ah)×Value×Cells×(List ah))=>[(4,zP b4),(5,zP b5),(44,.slice (some ⟨Aa,0,none⟩) 2 2),(45,zI 2),(46,zI (zz.1:Int))]) (fun(zz:Nat×Value×Cells×(List ah)×Value×Cells×(List ah))=>[.b Aa (.cells ⟨[zz.2.1,zz.2.2.2.2.1]⟩ 74 (0,0)),.l zz.2.2.1,.l zz.2.2.2.2.2.1,.b b5 (.cells ⟨[.slice (some ⟨Aa,0,none⟩) 2 2]⟩ 27 (0,0)),.b b4 (.cells ⟨[zS]⟩ 27 (0,0))]) (fun(zz:Nat×Value×Cells×(List ah)×Value×Cells×(List ah))=>(zz.1≤2∧zz.2.2.2.1.length≤8∧zz.2.2.2.2.2.2.length≤8)∧az zz.2.1 2 73 cI zz.2.2.2.1 zz.2.2.1∧az zz.2.2.2.2.1 2 73 cI zz.2.2.2.2.2.2 zz.2.2.2.2.2.1) (fun(zz:Nat×Value×Cells×(List ah)×Value×Cells×(List ah))=>2-zz.1) (⟨0,w0,L0,p0,w1,L1,p1⟩) ⟨by dsimp only;omega,hI.2⟩ [1,2,3,4,5] ?_
 rintro⟨k,w0,L0,p0,w1,L1,p1⟩ hQ K9 hK9 rest
 dsimp only at hQ
 refine zD 5<|zJ 47 ((k:Int) <2) (fun h8=>?_) fun h8=>?_
 ·
  refine zD 6 ?_
  rcases(show k=0∨k=1 by omega) with hk0|hk0
  ·
   refine jw 46 (zI 0) (show Value.int .i64 (k:Int)= zI 0 by rw[hk0];rfl) ?_
   refine jd 6 [0]<|jc (vs:=[w0,.func (.func 201) ⟨[]⟩ ⟨[]⟩]) [1] (ahQ hQ.2.1 (by omega)) ?_
   rintro aOg Y51 ⟨aqP,auk,auv⟩
   refine zD 5 ?_
   have hle:=auk.length_eq
   exact bJ hK9 (⟨1,w0,Y51,aqP,w1,L1,p1⟩) ⟨by dsimp only;omega,auv,hQ.2.2⟩ (by dsimp only;omega) [1,0,2,3,4] (Sub.refl _)
  refine jw 46 (zI 1) (show Value.int .i64 (k:Int)= zI 1 by rw[hk0];rfl) ?_
  refine jd 6 [0]<|jc (vs:=[w1,.func (.func 201) ⟨[]⟩ ⟨[]⟩]) [2] (ahQ hQ.2.2 (by omega)) ?_
  rintro aOg Y51 ⟨aqP,auk,auv⟩
  refine zD 5 ?_
  have hle:=auk.length_eq
  exact bJ hK9 (⟨2,w0,L0,p0,w1,Y51,aqP⟩) ⟨by dsimp only;omega,hQ.2.1,auv⟩ (by dsimp only;omega) [1,2,0,3,4] (Sub.refl _)
 refine jd 8 [3,4]<|aF q0 (.agg ⟨[.slice (some ⟨Aa,0,none⟩) 2 2]⟩) [4] [] [] (Sub.refl _) ⟨_,_,rfl,rfl,_,_,_,rfl⟩
structure VJ where
 a:Option Addr
 n:Nat
 c:Nat
 ea:Option Addr
 en:Nat
 ec:Nat
 r:Nat
abbrev aiw(t:VJ):List Value:=[.slice t.a t.n t.c,.slice t.ea t.en t.ec,.map (some t.r)]
structure TrD where
 ways:List Int
 g:an→an
def aWs(ro:Nat→Option Obj)(r:Nat)(H:List an)(g:an→an):Prop:=∃es ck F,ro r=some (.map es ck)∧tE pd F es ck∧(∀h∈H,h∈F.map (·.1))∧∀y∈F,bE ro y.2 3 cJ [g y.1]
def TrR(H:List an)(ro:Nat→Option Obj)(t:VJ)(x:TrD):Prop:=bE ro (.slice t.a t.n t.c) 1 cA x.ways∧aWs ro t.r H x.g
def TrO(H:List an)(LL:Cells)(t:VJ)(x:TrD):Prop:=∀aG,Knows aG LL→TrR H aG t x
abbrev anE(H:List an)(L:List TrD):(Nat→Option Obj)→Nat→List Value→Cells→Prop:=fun _ k vs LL=>∃x t,L[k]?=some x∧vs=[.agg ⟨aiw t⟩]∧TrO H LL t x
def arw(S:List (List ah))(l:List aN)(i:Nat):TrD:=⟨[(i:Int)],match l[i]? with
 |some c=>yS S c
 |none=>id⟩
def db(S:List (List ah)):List (List aN)→List TrD
 | []=>[⟨[],id⟩]
 |l::_=>(List.range l.length).map (arw S l)
theorem JI{S:List (List ah)}{l:List aN}{c:aN}(h:l[i]?=some c):(db S [l])[i]?=some ⟨[(i:Int)],yS S c⟩:=by
 have hi:=(List.getElem?_eq_some_iff.1 h).1
 simp only[db,List.getElem?_map,List.getElem?_range hi,Option.map_some,arw,h]
structure yo(ways:List (List aN)):Prop where
 one:ways.length≤1
 ok:∀l∈ways,(1≤l.length∧l.length≤3)∧∀c∈l,jI c
theorem aHz{c:aN}(h:jI c):1≤c.k∧c.k≤7:=by
 simp only[jI,List.mem_cons,List.not_mem_nil,or_false] at h
 rcases h with rfl|rfl|rfl|rfl|rfl<;>simp
theorem aqf{x:an}:∀(u:List (an×an)) (y:an),u.foldl (fun y p=>if x=p.1 then p.2 else y) y=y∨∃p∈u,u.foldl (fun y p=>if x=p.1 then p.2 else y) y=p.2
 | [],y=> .inl rfl
 |p::u,y=>by
  simp only[List.foldl_cons]
  rcases aqf (x:=x) u (if x=p.1 then p.2 else y) with h| ⟨q,hq,h⟩
  ·rw[h]
   split
   ·exact .inr ⟨p,by simp,rfl⟩
   exact .inl rfl
  exact .inr ⟨q,by simp[hq],h⟩
theorem awo{u:List (an×an)}{x:an}:gU u x=x∨∃p∈u,gU u x=p.2:=aqf u x
theorem aes{S:List (List ah)}{c:aN}(hc:jI c){x:an}(hx:x.h=0∨x.h=1):(yS S c x).h=0∨(yS S c x).h=1:=by
 rcases awo (u:=awA S c) (x:=x) with h| ⟨p,hp,h⟩
 ·rw[yS,h];exact hx
 rw[yS,h]
 simp only[jI,List.mem_cons,List.not_mem_nil,or_false] at hc
 rcases hc with rfl|rfl|rfl|rfl|rfl<;>simp[awA,acy,JR,KP,IU,mQ] at hp
 ·obtain⟨_,_,_,_,_,rfl⟩:=hp;exact .inl rfl
 ·obtain⟨_,_,rfl⟩:=hp;exact .inl rfl
 ·obtain⟨_,_,_,_,_,rfl⟩:=hp;exact .inr rfl
 ·obtain⟨_,_,rfl⟩:=hp;exact .inr rfl
 obtain⟨_,_,rfl⟩:=hp;exact .inl rfl
theorem QI{S:List (List ah)}(hO:fp S){x:an}(hx:x∈bH S):x.h=0∨x.h=1:=by
 obtain⟨j,l,p,h1,_,_,rfl⟩:=E9.1 hx
 have:=hO.two
 simp only[mQ];omega
theorem Sc.up{ro:Nat→Option Obj}{r:Nat}{H:List an}{g:an→an}{es:Array MapEntry}{F:List (an×Value)}(h:Sc ro r H g es ck F)(hs:Sub ro aG):Sc aG r H g es ck F:=⟨hs _ _ h.m,h.e,h.k,fun x hx=>(h.v x hx).up hs⟩
theorem aVh{v:Value}{S:List (List ah)}{c:aN}{ro:Nat→Option Obj}(hc:jI c)(hS:cW ro v S)(hO:fp S):eG zT 194 [.agg ⟨[v]⟩,.agg ⟨kT c⟩] ro [] (fun r Y=>∃rm F LM Z,r= .tuple ⟨[.map (some rm),zI 0]⟩∧Y=LM++Z∧j6 rm pd F LM∧F.map (·.1)=bH S∧MV Z F (yS S c)):=by
 simp only[jI,List.mem_cons,List.not_mem_nil,or_false] at hc
 rcases hc with rfl|rfl|rfl|rfl|rfl
 ·exact aHd hS hO
 ·exact aHc hS hO
 ·exact aHb hS hO
 ·exact aHa hS hO
 exact aG9 hS hO
def JC(ro:Nat→Option Obj)(b:Nat)(S:List (List ah))(ways:List (List aN)):Prop:=∃vS vT vH fa fc,ro b=some (.cells ⟨[vS,vT,.slice fa 0 fc,vH]⟩ 212 (0,0))∧cW ro vS S∧n5 ro vT ways∧bE ro vH 3 cJ (bH S)
theorem JC.up{ro:Nat→Option Obj}{S:List (List ah)}(h:JC ro b S ways)(hs:Sub ro aG):JC aG b S ways:=by
 obtain⟨vS,vT,vH,fa,fc,h1,h2,h3,h4⟩:=h
 exact⟨vS,vT,vH,fa,fc,hs _ _ h1,h2.up hs,h3.up hs,h4.up hs⟩
theorem awu{fa:Option Addr}{S:List (List ah)}{ro:Nat→Option Obj}(hS:cW ro vS S)(hO:fp S)(hT:n5 ro vT ways)(hW:yo ways):eG zT 157 [.agg ⟨[vS,vT,.slice fa 0 fc]⟩] ro [] (fun r Y=>∃b vH LH,r= .tuple ⟨[zP b,zI 0]⟩∧Y=(b,.cells ⟨[vS,vT,.slice fa 0 fc,vH]⟩ 212 (0,0))::LH∧az vH 3 164 cJ (bH S) LH):=by
 have yd:=hS
 obtain⟨iC,hs,fC⟩:=hS
 obtain⟨mD,Tx,Tv,lD,rfl,Tw,Mz,My⟩:=hs
 obtain⟨iX,ht,fw⟩:=id hT
 obtain⟨fg,Av,As,eo,rfl,Au,su,sr⟩:=ht
 have Iz:=fC.len
 have EE:=fw.len
 have Jh:=hO.two
 have AR:=hW.one
 have Ok:∀(i:Nat) (p:da),([]:List da)[i]?=some p→cB ⟨ro,[]⟩ 0 (0+i*6) 6 (m8 p):=fun _ _ h=>oG h
 refine bD au [] [] ba<|zD 2<|jn fun b1=>jd 8 [0]<|jp (vs:=[.agg ⟨[.slice mD iC.length lD]⟩]) [] [] (fun aC hs hZ=>awt (yd.up hs) hO)<|jd 17 [0]<|zJ 21 ((iX.length:Int)>3) (fun h1=>?_) fun h1=>?_
 ·
  exfalso;omega
 refine jd 11 [0]<|dW [1,1,1,0,1,0,0] [] (fun(zz:Nat)=>[(1,zP b1),(23,.slice fg iX.length eo),(24,zI (iX.length:Int)),(25,zI (zz:Int))]) (fun(zz:Nat)=>[.b b1 (.cells ⟨[.slice mD iC.length lD,.slice fg iX.length eo,.slice fa 0 fc]⟩ 31 (0,0))]) (fun(zz:Nat)=>zz≤iX.length) (fun(zz:Nat)=>iX.length-zz) 0 (by omega) [0] ?_
 rintro k hI K1 bK rest
 refine zD 5<|zJ 26 ((k:Int) <(iX.length:Int)) (fun h2=>?_) fun h2=>?_
 ·
  refine zD 6 ?_
  obtain⟨x27,Jg⟩:=zG iX k
  refine iA eo 1 su Jg ?_
  obtain⟨l28,aR5,h28⟩:=fw.get Jg
  obtain auG:=hW.ok _ (List.mem_of_getElem? aR5)
  obtain⟨aAG,bde,bdc,ast,rfl,bdd,aOM,aOL⟩:=h28
  refine jl 0 (sr _ _ Jg)<|jn fun b6=>jd 10 [0,0]<|zJ 32 ((l28.length:Int)=0) (fun h3=>?_) fun h3=>?_
  ·
   exfalso;omega
  refine jd 10 [0]<|zJ 36 ((l28.length:Int)>3) (fun h4=>?_) fun h4=>?_
  ·
   exfalso;omega
  refine jd 10 [0]<|dW [1,1,1,0,1,0,0,1,1,0,0,1,1,1,1,0,0] [K1] (fun(zz:Nat)=>[(1,zP b1),(23,.slice fg iX.length eo),(24,zI (iX.length:Int)),(25,zI (k:Int)),(38,.slice aAG l28.length ast),(39,zI (l28.length:Int)),(40,zI (zz:Int))]) (fun(zz:Nat)=>[.b b6 (.cells ⟨[.slice aAG l28.length ast]⟩ 81 (0,0)),.b b1 (.cells ⟨[.slice mD iC.length lD,.slice fg iX.length eo,.slice fa 0 fc]⟩ 31 (0,0))]) (fun(zz:Nat)=>zz≤l28.length) (fun(zz:Nat)=>l28.length-zz) 0 (by omega) [0,1] ?_
  rintro i hJ K2 mr rest
  refine zD 5<|zJ 41 ((i:Int) <(l28.length:Int)) (fun h5=>?_) fun h5=>?_
  ·
   refine zD 6 ?_
   obtain⟨x42,Uf⟩:=zG l28 i
   refine iA ast 7 aOM Uf<|jl 0 (aOL _ _ Uf)<|jn fun b8=>jd 3 [0] ?_
   have X3:=aHz (auG.2 _ (List.mem_of_getElem? Uf))
   refine jd 3 [0]<|jp (vs:=[zI x42.k,zI 1,zI 7]) [] [] (fun aC hs hZ=>AX)<|zD 2<|js 47 (!(iz x42.k 1 7)) (fun h6=>?_) (fun h6=>?_)
   ·
    try simp only[zB] at h6
    exfalso;simp only[iz,Bool.and_eq_false_iff,decide_eq_false_iff_not] at h6;omega
   try simp only[zB] at h6
   refine zD 3<|ja ((i:Int)+1) (by omega)<|zD 2<|bJ mr (i+1) (by omega) (by omega) [1,2] (Sub.refl _)
  refine zD 3<|ja ((k:Int)+1) (by omega)<|zD 2<|bJ bK (k+1) (by omega) (by omega) [1] (Sub.refl _)
 refine jd 17 [0,0,0]<|aL 3 fun sB sJ q5=>jc (vs:=[.agg ⟨[.slice mD iC.length lD]⟩]) [] (Yf yd hO) ?_
 rintro v57 L57 amH
 obtain⟨akE,akC,agD⟩:=amH.form
 subst agD
 refine bB q5 [1]<|zD 1<|aL 5 fun sA sI qZ=>jn fun b59=>bB qZ [1,2]<|jd 11 [2]<|dW [1,1,1,1,1,1,0,1,0,0] [] (fun(zz:Nat)=>[(1,zP b1),(9,zP b59),(61,.slice fa 0 fc),(62,zI 0),(63,zI 0)]) (fun(zz:Nat)=>[.b b59 (.cells ⟨[.slice mD iC.length lD,.slice fg iX.length eo,.slice fa 0 fc,(.slice akE (bH S).length akC)]⟩ 212 (0,0)),.l L57,.b b1 (.cells ⟨[.slice mD iC.length lD,.slice fg iX.length eo,.slice fa 0 fc]⟩ 31 (0,0))]) (fun(zz:Nat)=>True) (fun(zz:Nat)=>zz) 0 trivial [0,1,2] ?_
 rintro z hQ K5 hK5 rest
 refine zD 14<|aF q0 (.tuple ⟨[zP b59,zI 0]⟩) [] [0,1] ((b59,.cells ⟨[.slice mD iC.length lD,.slice fg iX.length eo,.slice fa 0 fc,(.slice akE (bH S).length akC)]⟩ 212 (0,0))::L57) (Sub.refl _) ⟨_,_,rfl,rfl,_,_,_,rfl,rfl,amH⟩
structure abw(ro:Nat→Option Obj)(bl b b1 b2 b3:Nat):Prop where
 t:ro b1=some (.cells ⟨[zP b]⟩ 207 (0,0))
 y:ro b2=some (.cells ⟨[.func (.yield bl) #[] #[]]⟩ 283 (0,0))
 g:ro b3=some (.cells ⟨[.func (.func 192) ⟨[]⟩ ⟨[zP b1,zP b2,zP b3]⟩]⟩ 283 (0,0))
theorem abw.up{ro:Nat→Option Obj}(h:abw ro bl b b1 b2 b3)(hs:Sub ro aG):abw aG bl b b1 b2 b3:=⟨hs _ _ h.t,hs _ _ h.y,hs _ _ h.g⟩
theorem aG7{t:VJ}{S:List (List ah)}{ro:Nat→Option Obj}(IE:JC ro b S ways):dt zT 193 [zP b,.agg ⟨[.slice t.a t.n t.c,.slice t.ea t.en t.ec,(.map (some t.r))]⟩] ro (.bool true):=by
 obtain⟨vS,vT,vH,fa,fc,gb,hS,hT,hHs⟩:=IE
 have yd:=hS
 obtain⟨iC,hs,fC⟩:=hS
 obtain⟨mD,Tx,Tv,lD,rfl,Tw,Mz,My⟩:=hs
 obtain⟨iX,ht,fw⟩:=id hT
 obtain⟨fg,Av,As,eo,rfl,Au,su,sr⟩:=ht
 have Iz:=fC.len
 have EE:=fw.len
 have Ok:∀(i:Nat) (p:da),([]:List da)[i]?=some p→cB ⟨ro,[]⟩ 0 (0+i*6) 6 (m8 p):=fun _ _ h=>oG h
 refine bD au [] [] ba<|zD 2<|jn fun b3=>zD 9<|jl (b:=b) (off:=0) (m:=4) (vs:=[.slice mD iC.length lD,.slice fg iX.length eo,.slice fa 0 fc,vH]) 2 ⟨_,_,_,.inl gb,rfl⟩<|zD 4<|dW [1,0,1,0,0] [] (fun(zz:Nat)=>[(3,zP b3),(11,.slice fa 0 fc),(12,zI 0),(13,zI 0)]) (fun(zz:Nat)=>[.b b3 (.cells ⟨[.slice t.a t.n t.c,.slice t.ea t.en t.ec,(.map (some t.r))]⟩ 216 (0,0))]) (fun(zz:Nat)=>True) (fun(zz:Nat)=>zz) 0 trivial [0] ?_
 rintro z hI K1 bK rest
 refine zD 12<|aF q0 (.bool true) [] [] [] (Sub.refl _) ⟨_,_,rfl,rfl,rfl,rfl⟩
theorem ahP{ro:Nat→Option Obj}:eG zT 158 [zP b] ro [] (fun r Y=>∃b1,r= .func (.func 191) ⟨[]⟩ ⟨[zP b1]⟩∧Y=[(b1,.cells ⟨[zP b]⟩ 207 (0,0))]):=by
 refine bD au [] [] ba<|zD 2<|jn fun b1=>zD 8<|aF q0 (.func (.func 191) ⟨[]⟩ ⟨[zP b1]⟩) [] [0] [(b1,.cells ⟨[zP b]⟩ 207 (0,0))] (Sub.refl _) ⟨_,_,rfl,rfl,_,rfl,rfl⟩
theorem ahR{S:List (List ah)}{L:List TrD}{Inv:Nat→Cells→Prop}{t:VJ}{x:TrD}{LL:Cells}{ro:Nat→Option Obj}(IE:JC ro b S ways)(hC:abw ro bl b b1 b2 b3)(hn:t.n=ways.length)(hx:L[k]?=some x) (hR:TrO (bH S) LL t x) (hB:Inv k B) (hy:YOK zT bl ro L.length (anE (bH S) L) Inv Stop):eG zT 192 [.agg ⟨[.slice t.a t.n t.c,.slice t.ea t.en t.ec,(.map (some t.r))]⟩,zP b1,zP b2,zP b3] ro (LL++B) (fun r Y=>∃c,r= .bool c∧(c=true→Inv (k+1) Y)∧(c=false→Stop Y)):=by
 have am9:=IE
 obtain⟨vS,vT,vH,fa,fc,gb,hS,hT,hHs⟩:=IE
 have yd:=hS
 obtain⟨iC,hs,fC⟩:=hS
 obtain⟨mD,Tx,Tv,lD,rfl,Tw,Mz,My⟩:=hs
 obtain⟨iX,ht,fw⟩:=id hT
 obtain⟨fg,Av,As,eo,rfl,Au,su,sr⟩:=ht
 have Iz:=fC.len
 have EE:=fw.len
 have Ok:∀(i:Nat) (p:da),([]:List da)[i]?=some p→cB ⟨ro,[]⟩ 0 (0+i*6) 6 (m8 p):=fun _ _ h=>oG h
 refine bD au [.l LL,.l B] [] ba<|zD 2<|jn fun b4=>jd 13 [0]<|jl (b:=b1) (off:=0) (m:=1) (vs:=[zP b]) 0 ⟨_,_,_,.inl hC.t,rfl⟩<|zD 3<|jl (b:=b) (off:=0) (m:=4) (vs:=[.slice mD iC.length lD,.slice fg iX.length eo,.slice fa 0 fc,vH]) 1 ⟨_,_,_,.inl gb,rfl⟩<|zD 3<|zJ 21 ((t.n:Int)=(iX.length:Int)) (fun h1=>?_) fun h1=>?_
 ·
  refine zD 3<|jl (b:=b1) (off:=0) (m:=1) (vs:=[zP b]) 0 ⟨_,_,_,.inl hC.t,rfl⟩<|jd 1 [0]<|jp (vs:=[zP b,.agg ⟨[.slice t.a t.n t.c,.slice t.ea t.en t.ec,(.map (some t.r))]⟩]) [] [] (fun aC hs hZ=>aG7 (t:=t) (am9.up hs))<|zD 2<|jl (b:=b2) (off:=0) (m:=1) (vs:=[(.func (.yield bl) #[] #[])]) 0 ⟨_,_,_,.inl hC.y,rfl⟩<|jd 1 [0]<|jyc [1,2] (hy k [.agg ⟨[.slice t.a t.n t.c,.slice t.ea t.en t.ec,(.map (some t.r))]⟩] LL B ro (List.getElem?_eq_some_iff.1 hx).1 ⟨x,t,hx,rfl,hR⟩ hB (Sub.refl _)) (Sub.refl _) ?_
  intro v29 Y29 aQx
  obtain⟨c29,rfl,aTa,aSY⟩:=yb aQx
  refine zD 4<|aF q0 (.bool c29) [] [0] Y29 (Sub.refl _) ⟨_,_,rfl,rfl,_,rfl,aTa,aSY⟩
 exfalso;omega
theorem aVd{S:List (List ah)}{l:List aN}{Inv:Nat→Cells→Prop}{ea:Option Addr}{r0:Nat}{es0:Array MapEntry}{F0:List (an×Value)}{Z:Cells}{ro:Nat→Option Obj}(IE:JC ro b S [l])(hO:fp S)(hW:yo [l])(hC:abw ro bl b b1 b2 b3)(hE:∀aG,Knows aG LE→cW aG (.slice ea en ec) S)(hE0:tE pd F0 es0 ck0)(hk0:F0.map (·.1)=bH S)(hM0:MV Z F0 id)(hB:Inv 0 B)(hy:YOK zT bl ro (db S [l]).length (anE (bH S) (db S [l])) Inv Stop):eG zT 192 [.agg ⟨[zS,.slice ea en ec,(.map (some r0))]⟩,zP b1,zP b2,zP b3] ro (LE++(r0,.map es0 ck0)::(Z++B)) (fun r Y=>∃c,r= .bool c∧(c=true→Inv l.length Y)∧(c=false→Stop Y)):=by
 have am9:=IE
 obtain⟨vS,vT,vH,fa,fc,gb,hS,hT,hHs⟩:=IE
 have yd:=hS
 obtain⟨iC,hs,fC⟩:=hS
 obtain⟨w1,w2,rfl⟩:=qh (fC.len.trans hO.two)
 obtain⟨mD,Tx,Tv,lD,rfl,Tw,Mz,My⟩:=hs
 obtain⟨iX,ht,fw⟩:=id hT
 obtain⟨fg,Av,As,eo,rfl,Au,su,sr⟩:=ht
 have EE:=fw.len
 have Ok:∀(i:Nat) (p:da),([]:List da)[i]?=some p→cB ⟨ro,[]⟩ 0 (0+i*6) 6 (m8 p):=fun _ _ h=>oG h
 refine bD au [.l LE,.b r0 (.map es0 ck0),.l Z,.l B] [] ba<|zD 2<|jn fun b4=>zD 1<|jf [1,2,3] (LE++((r0,.map es0 ck0)::Z)) (fun yH bY iU=>?_)
 have hE1:=hE _ (Knows.left iU)
 have IF:Sc yH r0 (bH S) id es0 ck0 F0:=⟨Knows.right iU _ (.head _),hE0,hk0,hM0 _ (Knows.tail (Knows.right iU))⟩
 refine jd 12 [0]<|jl (b:=b1) (off:=0) (m:=1) (vs:=[zP b]) 0 ⟨_,_,_,.inl (bY _ _ hC.t),rfl⟩<|zD 3<|jl (b:=b) (off:=0) (m:=4) (vs:=[.slice mD 2 lD,.slice fg iX.length eo,.slice fa 0 fc,vH]) 1 ⟨_,_,_,.inl (bY _ _ gb),rfl⟩<|zD 3<|zJ 21 (0=(iX.length:Int)) (fun h4=>?_) fun h4=>?_
 ·
  exfalso;simp at EE;omega
 refine zD 4 ?_
 have XO:iX.length=1:=EE
 refine zD 1<|jl (b:=b1) (off:=0) (m:=1) (vs:=[zP b]) 0 ⟨_,_,_,.inl (bY _ _ hC.t),rfl⟩<|zD 3<|jl (b:=b) (off:=0) (m:=4) (vs:=[.slice mD 2 lD,.slice fg iX.length eo,.slice fa 0 fc,vH]) 1 ⟨_,_,_,.inl (bY _ _ gb),rfl⟩<|zD 1 ?_
 obtain⟨x37,aan⟩:=zG iX 0
 refine iA eo 1 su aan<|zD 1 ?_
 obtain⟨l39,aDk,h39⟩:=fw.get aan
 obtain aRY:=hW.ok _ (List.mem_of_getElem? aDk)
 obtain agF:l39=l:=Option.some.inj (aDk.symm.trans rfl)
 obtain⟨aOJ,bc8,bc6,aAC,rfl,bc7,aOI,aOH⟩:=h39
 refine jl 0 ((sr _ _ aan).ext (uu bY))<|zD 4<|dW [1,1,1,0,1,0,0] [] (fun(zz:Nat×Cells)=>[(1,zP b1),(3,zP b3),(4,zP b4),(39,.slice aOJ l39.length aAC),(40,zI (l39.length:Int)),(41,zI (zz.1:Int))]) (fun(zz:Nat×Cells)=>[.l zz.2,.b b4 (.cells ⟨[zS,.slice ea en ec,(.map (some r0))]⟩ 216 (0,0))]) (fun(zz:Nat×Cells)=>zz.1≤l39.length∧Inv zz.1 zz.2) (fun(zz:Nat×Cells)=>l39.length-zz.1) (⟨0,B⟩) ⟨by dsimp only;omega,hB⟩ [1,0] ?_
 rintro⟨i,B⟩ hI K1 bK rest
 dsimp only at hI
 refine zD 5<|zJ 42 ((i:Int) <(l39.length:Int)) (fun h5=>?_) fun h5=>?_
 ·
  refine zD 7 ?_
  obtain⟨YW,Jf⟩:=zG l39 i
  refine iA aAC 7 aOI Jf<|jl 0 ((aOH _ _ Jf).ext (uu bY))<|jn fun b8=>jd 4 [0] ?_
  have hco:=aRY.2 _ (List.mem_of_getElem? Jf)
  refine jd 4 [2,0]<|jc (vs:=[.agg ⟨[.slice ea en ec]⟩,.agg ⟨[zI YW.k,zI YW.st,zI YW.ot,zI YW.fn,zI YW.fl,zI YW.tn,zI YW.tl]⟩]) [] (aVh (c:=YW) hco (hE1.up (Sub.refl _)) hO) ?_
  rintro _ _ ⟨r9,F9,LM9,Z9,rfl,rfl,hm9,hk9,hM9⟩
  obtain⟨es9,ck9,rfl,hE9⟩:=hm9
  refine jg 0 [.b r9 (.map es9 ck9),.l Z9]<|zD 5<|jf [0,1] ((r9,.map es9 ck9)::Z9) (fun ro8 y3 hk7=>?_)
  have hP2:Sc ro8 r9 (bH S) (yS S YW) es9 ck9 F9:=⟨hk7 _ (.head _),hE9,hk9,hM9 _ (Knows.tail hk7)⟩
  refine zD 11<|jl (b:=b3) (off:=0) (m:=1) (vs:=[.func (.func 192) ⟨[]⟩ ⟨[zP b1,zP b2,zP b3]⟩]) 0 ⟨_,_,_,.inl (y3 _ _ (bY _ _ hC.g)),rfl⟩<|jd 4 [2]<|jl (b:=b1) (off:=0) (m:=1) (vs:=[zP b]) 0 ⟨_,_,_,.inl (y3 _ _ (bY _ _ hC.t)),rfl⟩<|zD 4<|jl (b:=b) (off:=0) (m:=4) (vs:=[.slice mD 2 lD,.slice fg iX.length eo,.slice fa 0 fc,vH]) 0 ⟨_,_,_,.inl (y3 _ _ (bY _ _ gb)),rfl⟩<|jd 4 [2]<|nj [3,5] ⟨fun z2 t3 qZ=>?_,fun z5 t6 Q9=>?_,trivial⟩
  ·
   refine jc (vs:=[zS]) [] (aHe (bE.nil _ _ _ _ _) (by simp)) ?_
   rintro v58 L58 af8
   obtain⟨SW,SQ,He⟩:=af8.form
   subst He
   refine bB qZ [1,2,3]<|aL 5 fun YV Zd hL8=>jn fun b60=>bB hL8 [1,2,3,4]<|aL 6 fun YU Zc UQ=>jq (sz:=1) (ps:=([]:List Int)) (qs:=[(i:Int)]) (enc:=cA) (w:= .slice (some ⟨b60,0,none⟩) 1 1) [1] [0] [(b60,.cells ⟨([(i:Int)].map cA).flatten⟩ 3 (0,0))] (af8) (fun s _ hZ=>bX [(i:Int)] (hZ _ (.head _)) (by intro p hp;rfl)) (fun p _=>aj rfl) (by simp only[List.length_cons,List.length_nil];omega) (fun v61 L61 G0=>?_)
   obtain⟨acp,aci,avg⟩:=G0.form
   subst avg
   refine iu UQ [[4],[],[],[]]<|aL 15 fun Ft FL wy=>jc (vs:=[(.map (some r9)),zI 2]) [] (ahW (hP2.up (Sub.refl _)) (uo hO) (fun x hx=>aes hco (QI hO (by rw[←hk9];exact List.mem_map_of_mem (f:=(·.1)) hx)))) ?_
   rintro _ L70 ⟨a70,n70,c70,rfl⟩
   refine bB wy [1,2,3,4,5]<|aL 19 fun JF JL CG=>jc (vs:=[(.map (some r0)),(.map (some r9))]) [] (aqg (IF.up y3) (hP2.up (Sub.refl _))) ?_
   rintro _ _ ⟨r74,F74,aWx,Z74,rfl,rfl,auF,au0,avS⟩
   obtain⟨NK,NX,rfl,awd⟩:=auF
   refine jg 0 [.b r74 (.map NK NX),.l Z74]<|bB CG [2,3,4,5,6,7]<|zD 1<|aL 21 fun OH O3 CE=>jc (vs:=[.agg ⟨[(.slice acp ((([]:List Int)++[(i:Int)])).length aci),.slice a70 n70 c70,(.map (some r74))]⟩,zP b1,zP b2,zP b3]) [3,0,1,6] ((show eG _ _ _ _ (L61++(r74,.map NK NX)::(Z74++B)) _ from by have:=ahR (t:=⟨acp,((([]:List Int)++[(i:Int)])).length,aci,a70,n70,c70,r74⟩) (LL:=L61++(r74,.map NK NX)::Z74) (am9.up (bY.trans y3)) (hC.up (bY.trans y3)) rfl (JI (by rw[←agF];exact Jf)) (fun aG hk=>⟨by simpa using G0.kZ (Knows.left hk),NK,NX,F74,(Knows.right hk) _ (.head _),awd,au0,fun y hy=>avS aG (Knows.tail (Knows.right hk)) y hy⟩) hI.2 (hy.up (bY.trans y3));rwa[List.append_assoc,List.cons_append] at this)) ?_
   rintro _ Y76 ⟨c76,rfl,avA,avv⟩
   refine iu CE [[],[]]<|zD 2<|js 77 (!c76) (fun EH=>?_) (fun EH=>?_)
   ·
    try simp only[zB] at EH
    refine zD 6<|aF q0.a.a (.bool false) [] [0] Y76 (bY.trans y3) ⟨_,_,rfl,rfl,_,rfl,nofun,fun _=>avv (by simp_all)⟩
   try simp only[zB] at EH
   refine zD 3<|ja ((i:Int)+1) (by omega)<|zD 2<|bJ bK (⟨i+1,Y76⟩) ⟨by dsimp only;omega,avA (by simp_all)⟩ (by dsimp only;omega) [0,4] y3
  refine jn fun b60=>bB Q9 [1,2,3]<|aL 3 fun aov aoR Nv=>jc (vs:=[zS]) [] (aHe (bE.nil _ _ _ _ _) (by simp)) ?_
  rintro v58 L58 af8
  obtain⟨SW,SQ,He⟩:=af8.form
  subst He
  refine bB Nv [1,2,3,4]<|aL 6 fun ayC azA av4=>jq (sz:=1) (ps:=([]:List Int)) (qs:=[(i:Int)]) (enc:=cA) (w:= .slice (some ⟨b60,0,none⟩) 1 1) [0] [1] [(b60,.cells ⟨([(i:Int)].map cA).flatten⟩ 3 (0,0))] (af8) (fun s _ hZ=>bX [(i:Int)] (hZ _ (.head _)) (by intro p hp;rfl)) (fun p _=>aj rfl) (by simp only[List.length_cons,List.length_nil];omega) (fun v61 L61 G0=>?_)
  obtain⟨acp,aci,avg⟩:=G0.form
  subst avg
  refine iu av4 [[4],[],[],[]]<|aL 15 fun aW7 aXE av3=>jc (vs:=[(.map (some r9)),zI 2]) [] (ahW (hP2.up (Sub.refl _)) (uo hO) (fun x hx=>aes hco (QI hO (by rw[←hk9];exact List.mem_map_of_mem (f:=(·.1)) hx)))) ?_
  rintro _ L70 ⟨a70,n70,c70,rfl⟩
  refine bB av3 [1,2,3,4,5]<|aL 19 fun aW6 aXD Rb=>jc (vs:=[(.map (some r0)),(.map (some r9))]) [] (aqg (IF.up y3) (hP2.up (Sub.refl _))) ?_
  rintro _ _ ⟨r74,F74,aWx,Z74,rfl,rfl,auF,au0,avS⟩
  obtain⟨NK,NX,rfl,awd⟩:=auF
  refine jg 0 [.b r74 (.map NK NX),.l Z74]<|bB Rb [2,3,4,5,6,7]<|zD 1<|aL 21 fun aou aoQ Ho=>jc (vs:=[.agg ⟨[(.slice acp ((([]:List Int)++[(i:Int)])).length aci),.slice a70 n70 c70,(.map (some r74))]⟩,zP b1,zP b2,zP b3]) [3,0,1,6] ((show eG _ _ _ _ (L61++(r74,.map NK NX)::(Z74++B)) _ from by have:=ahR (t:=⟨acp,((([]:List Int)++[(i:Int)])).length,aci,a70,n70,c70,r74⟩) (LL:=L61++(r74,.map NK NX)::Z74) (am9.up (bY.trans y3)) (hC.up (bY.trans y3)) rfl (JI (by rw[←agF];exact Jf)) (fun aG hk=>⟨by simpa using G0.kZ (Knows.left hk),NK,NX,F74,(Knows.right hk) _ (.head _),awd,au0,fun y hy=>avS aG (Knows.tail (Knows.right hk)) y hy⟩) hI.2 (hy.up (bY.trans y3));rwa[List.append_assoc,List.cons_append] at this)) ?_
  rintro _ Y76 ⟨c76,rfl,avA,avv⟩
  refine iu Ho [[],[]]<|zD 2<|js 77 (!c76) (fun DT=>?_) (fun DT=>?_)
  ·
   try simp only[zB] at DT
   refine zD 6<|aF q0.a.a (.bool false) [] [0] Y76 (bY.trans y3) ⟨_,_,rfl,rfl,_,rfl,nofun,fun _=>avv (by simp_all)⟩
  try simp only[zB] at DT
  refine zD 3<|ja ((i:Int)+1) (by omega)<|zD 2<|bJ bK (⟨i+1,Y76⟩) ⟨by dsimp only;omega,avA (by simp_all)⟩ (by dsimp only;omega) [0,4] y3
 refine zD 7<|aF q0.a (.bool true) [] [0] B bY ⟨_,_,rfl,rfl,_,rfl,(fun _=>by have:=hI.2;rwa[show i=l.length by rw[←agF];omega] at this),nofun⟩
theorem aG6{S:List (List ah)}{Inv:Nat→Cells→Prop}{ea:Option Addr}{r0:Nat}{es0:Array MapEntry}{F0:List (an×Value)}{Z:Cells}{ro:Nat→Option Obj}(IE:JC ro b S ways)(hO:fp S)(hW:yo ways)(hC:abw ro bl b b1 b2 b3)(hE:∀aG,Knows aG LE→cW aG (.slice ea en ec) S)(hE0:tE pd F0 es0 ck0)(hk0:F0.map (·.1)=bH S)(hM0:MV Z F0 id)(hB:Inv 0 B)(hy:YOK zT bl ro (db S ways).length (anE (bH S) (db S ways)) Inv Stop):
 eG zT 192 [.agg ⟨[zS,.slice ea en ec,.map (some r0)]⟩,zP b1,zP b2,zP b3] ro (LE++(r0,.map es0 ck0)::(Z++B)) (fun r Y=>∃c,r= .bool c∧(c=true→Inv (db S ways).length Y)∧(c=false→Stop Y)):=by
 match ways,hW with
 | [],_=>
  have:=ahR (t:=⟨none,0,0,ea,en,ec,r0⟩) (x:=⟨[],id⟩) (k:=0) (LL:=LE++(r0,.map es0 ck0)::Z) IE hC rfl rfl (fun aG hk=>⟨bE.nil _ _ _ _ _,es0,ck0,F0,(Knows.right hk) _ (.head _),hE0,fun h hh=>by rw[hk0];exact hh,hM0 _ (Knows.tail (Knows.right hk))⟩) hB hy
  rwa[List.append_assoc,List.cons_append] at this
 | [l],hW=>
  refine(aVd IE hO hW hC hE hE0 hk0 hM0 hB hy).mono fun _ _ ⟨c,h1,h2,h3⟩=>⟨c,h1,fun h=>?_,h3⟩
  rw[show (db S [l]).length=l.length by simp[db]]
  exact h2 h
 |_::_::_,hW=>exact absurd hW.one (by simp)
theorem aaR{S:List (List ah)}{ro:Nat→Option Obj}(g1:ro b1=some (.cells ⟨[zP b]⟩ 207 (0,0)))(IE:JC ro b S ways)(hO:fp S)(hW:yo ways):ItX zT 191 [] [zP b1] ro [] (db S ways).length (anE (bH S) (db S ways)) (fun Z=>Z=[]):=by
 intro bl aC Inv Stop hs hy B hB
 replace g1:=hs _ _ g1
 replace IE:=IE.up hs
 have aTQ:=IE
 obtain⟨vS,vT,vH,fa,fc,gb,hS,hT,hHs⟩:=IE
 have yd:=hS
 obtain⟨iC,oU,fC⟩:=hS
 obtain⟨ak6,bcT,bcP,ak5,rfl,bcR,bcS,bcQ⟩:=oU
 obtain⟨iX,ht,fw⟩:=id hT
 obtain⟨fg,Av,As,eo,rfl,Au,su,sr⟩:=ht
 have Ok:∀(i:Nat) (p:da),([]:List da)[i]?=some p→cB ⟨aC,[]⟩ 0 (0+i*6) 6 (m8 p):=fun _ _ h=>oG h
 refine bD au [.l B] [] ba<|zD 2<|jn fun b2=>zD 3<|jn fun b3=>jd 5 [0]<|jf [1,0] ((b2,.cells ⟨[(.func (.yield bl) #[] #[])]⟩ 283 (0,0))::[(b3,.cells ⟨[.func (.func 192) ⟨[]⟩ ⟨[zP b1,zP b2,zP b3]⟩]⟩ 283 (0,0))]) fun yH bY iU=>zD 2<|jl (b:=b3) (off:=0) (m:=1) (vs:=[.func (.func 192) ⟨[]⟩ ⟨[zP b1,zP b2,zP b3]⟩]) 0 ⟨_,_,_,.inl (iU _ (.tail _ (.head _))),rfl⟩<|jl (b:=b1) (off:=0) (m:=1) (vs:=[zP b]) 0 ⟨_,_,_,.inl (bY _ _ g1),rfl⟩<|zD 3<|jl (b:=b) (off:=0) (m:=4) (vs:=[.slice ak6 iC.length ak5,.slice fg iX.length eo,.slice fa 0 fc,vH]) 0 ⟨_,_,_,.inl (bY _ _ gb),rfl⟩<|jl (b:=b1) (off:=0) (m:=1) (vs:=[zP b]) 0 ⟨_,_,_,.inl (bY _ _ g1),rfl⟩<|zD 3<|jl (b:=b) (off:=0) (m:=4) (vs:=[.slice ak6 iC.length ak5,.slice fg iX.length eo,.slice fa 0 fc,vH]) 0 ⟨_,_,_,.inl (bY _ _ gb),rfl⟩<|aL 6 fun Ea Eg BB=>jc (vs:=[.agg ⟨[.slice ak6 iC.length ak5]⟩]) [] (anu (yd.up bY) hO) ?_
 rintro _ L11 ⟨a11,n11,c11,rfl,aUG⟩
 refine bB BB [1]<|aL 12 fun Ac Aj zd=>jc (vs:=[.agg ⟨[.slice ak6 iC.length ak5]⟩]) [] (Lg (yd.up bY) hO) ?_
 rintro _ _ ⟨r17,F17,bhF,Z17,rfl,rfl,agj,aaA,aT1⟩
 obtain⟨aVu,aVH,rfl,aUF⟩:=agj
 refine jg 0 [.b r17 (.map aVu aVH),.l Z17]<|bB zd [2,3]<|zD 1<|aL 14 fun sB sJ q5=>jc (vs:=[.agg ⟨[zS,.slice a11 n11 c11,(.map (some r17))]⟩,zP b1,zP b2,zP b3]) [2,0,1,3] (aG6 (aTQ.up bY) hO hW ⟨(bY _ _ g1),iU _ (.head _),iU _ (.tail _ (.head _))⟩ aUG aUF aaA aT1 hB (YOK.up hy bY)) ?_
 rintro _ Y19 ⟨c19,rfl,aTd,aS1⟩
 refine iu q5 [[],[]]<|zD 1<|aF q0.a (.tuple ⟨[]⟩) [] [0] Y19 bY ⟨_,_,rfl,rfl,[],Y19,rfl,rfl,by cases c19 with|true=>exact .inl (aTd rfl)|false=>exact .inr (aS1 rfl)⟩
theorem FJ{S:List (List ah)}(hW:yo ways):(db S ways).length≤3:=by
 match ways,hW with
 | [],_=>simp[db]
 |l::_,hW=>
  have:=(hW.ok l (by simp)).1.2
  simpa [db] using this
theorem ahV{fa:Option Addr}{S:List (List ah)}{ro:Nat→Option Obj}(hS:cW ro vS S)(hO:fp S)(hT:n5 ro vT ways)(hW:yo ways):FnG zT 122 [.agg ⟨[vS,vT,.slice fa 0 fc]⟩] ro [] (fun r aC Y=>∃b vl ts Lt Z,r= .tuple ⟨[zP b,vl,zI 0]⟩∧JC aC b S ways∧Y=Lt++Z∧az vl 3 216 aiw ts Lt∧ts.length=(db S ways).length∧∀aG,Knows aG Z→dg (TrR (bH S) aG) ts (db S ways)):=by
 have yd:=hS
 obtain⟨iC,hs,fC⟩:=hS
 obtain⟨mD,Tx,Tv,lD,rfl,Tw,Mz,My⟩:=hs
 obtain⟨iX,ht,fw⟩:=id hT
 obtain⟨fg,Av,As,eo,rfl,Au,su,sr⟩:=ht
 have Iz:=fC.len
 have EE:=fw.len
 have Jh:=hO.two
 have AR:=hW.one
 have Ok:∀(i:Nat) (p:da),([]:List da)[i]?=some p→cB ⟨ro,[]⟩ 0 (0+i*6) 6 (m8 p):=fun _ _ h=>oG h
 refine aBT (hm:=au) [] [] ba<|zD 2<|jn fun b1=>jd 7 [0]<|jc (vs:=[.agg ⟨[.slice mD iC.length lD,.slice fg iX.length eo,.slice fa 0 fc]⟩]) [] (awu yd hO hT hW) ?_
 rintro _ _ ⟨SH,ay5,aIs,rfl,rfl,agb⟩
 refine jg 0 [.b SH (.cells ⟨[.slice mD iC.length lD,.slice fg iX.length eo,.slice fa 0 fc,ay5]⟩ 212 (0,0)),.l aIs]<|zD 5<|jf [0,1] ((SH,.cells ⟨[.slice mD iC.length lD,.slice fg iX.length eo,.slice fa 0 fc,ay5]⟩ 212 (0,0))::aIs) (fun yH bY iU=>?_)
 have IE:JC yH SH S ways:=⟨_,_,_,_,_,iU _ (.head _),yd.up bY,hT.up bY,agb.kZ (Knows.tail iU)⟩
 refine zD 10 ?_
 have hLn:(db S ways).length≤3:=FJ hW
 refine zD 1<|jn fun b7=>zD 5<|jc (vs:=[zP SH]) [] (ahP) ?_
 rintro _ _ ⟨apo,rfl,rfl⟩
 refine jg 0 [.b apo (.cells ⟨[zP SH]⟩ 207 (0,0))]<|jf [0] [(apo,.cells ⟨[zP SH]⟩ 207 (0,0))] fun ro6 kF XQ=>zD 2<|oH<|oH<|jrf [] (aaR (XQ _ (.head _)) (IE.up kF) hO hW) (by rintro _ _ _ _ ⟨_,_,_,rfl,_⟩;rfl) (fun(zz:Value×Cells×(List VJ)×Cells)=>[.b b7 (.cells ⟨[zz.1]⟩ 208 (0,0)),.l zz.2.1,.l zz.2.2.2]) (fun kk=>(fun(zz:Value×Cells×(List VJ)×Cells)=>az zz.1 3 216 aiw zz.2.2.1 zz.2.1∧zz.2.2.1.length=kk∧(∀aG,Knows aG zz.2.2.2→dg (TrR (bH S) aG) zz.2.2.1 ((db S ways).take kk))∧(db S ways).length≤3)) (fun jump=>(fun(zz:Value×Cells×(List VJ)×Cells)=>False)) (⟨zS,[],[],[]⟩) ⟨az.nil _ _ _,rfl,fun _ _=> .nil,hLn⟩ [2,0,1] ?_ ?_ ?_
 ·
  rintro bl7 bd7 kk7 vs7 LL7 ⟨vl,Lt,ts,Z⟩ ro7 hk7 aSB hI sa
  obtain⟨x7,t7,hx7,rfl,hR7⟩:=aSB
  dsimp only at hI
  have bW:=(List.getElem?_eq_some_iff.1 hx7).1
  refine zD 1<|jn fun b8=>jd 2 [0]<|aBX<|jd 4 [2,0]<|jn fun nq=>jq (sz:=3) (ps:=ts) (qs:=[(⟨t7.a,t7.n,t7.c,t7.ea,t7.en,t7.ec,t7.r⟩:VJ)]) (enc:=aiw) (w:= .slice (some ⟨nq,0,none⟩) 1 1) [4] [0] [(nq,.cells ⟨([(⟨t7.a,t7.n,t7.c,t7.ea,t7.en,t7.ec,t7.r⟩:VJ)].map aiw).flatten⟩ 216 (0,0))] (hI.1) (fun s _ hZ=>bX [(⟨t7.a,t7.n,t7.c,t7.ea,t7.en,t7.ec,t7.r⟩:VJ)] (hZ _ (.head _)) (by intro p hp;rfl)) (fun p _=>aj rfl) (by simp only[List.length_cons,List.length_nil];omega) (fun v23 L23 y6=>?_)
  obtain⟨aMy,aMd,avn⟩:=y6.form
  subst avn
  refine jd 2 [4]<|jyn ZF (Sub.refl _) ⟨(.slice aMy ((ts++[(⟨t7.a,t7.n,t7.c,t7.ea,t7.en,t7.ec,t7.r⟩:VJ)])).length aMd),L23,(ts++[(⟨t7.a,t7.n,t7.c,t7.ea,t7.en,t7.ec,t7.r⟩:VJ)]),LL7++Z⟩ ⟨y6,by simp only[List.length_append,List.length_cons,List.length_nil];omega,fun aG hk=>qe (hI.2.2.1 aG (Knows.right hk)) hx7 (hR7 aG (Knows.left hk)),hI.2.2.2⟩ [3,4,0,6,5]
 ·
  rintro bd7 ⟨vl,Lt,ts,Z⟩ Z7 hI hZ7
  dsimp only at hI
  subst hZ7
  refine jd 9 [2]<|aP1 qm0.a.a.m (.tuple ⟨[zP SH,vl,zI 0]⟩) [0] [] [2,3] (Lt++Z) (Sub.refl _) ⟨_,_,_,rfl,rfl,(bY.trans kF),SH,vl,ts,Lt,Z,rfl,IE.up kF,rfl,hI.1,hI.2.1,by have:=hI.2.2.1;rwa[List.take_of_length_le (Nat.le_refl _)] at this⟩
 rintro bd7 ⟨vl,Lt,ts,Z⟩ Z7 jump hS hZ7
 exact hS.elim
def wv(t:VJ):Value:= .slice t.a t.n t.c
theorem dg.maps{β γ δ:Type}{R:α→β→Prop}{T:γ→δ→Prop}{f:α→γ}{g:β→δ}(h:∀a b,R a b→T (f a) (g b)):∀ {l:List α} {m:List β},dg R l m→dg T (l.map f) (m.map g)
 | [],[],.nil=> .nil
 |_::_,_::_,.cons h1 h2=> .cons (h _ _ h1) (dg.maps h h2)
theorem ZM{y:an}{l:List an}(h:y∈l):bN (py y.h y.n y.l) l 0≥0:=by
 have key:∀(l:List an) (k:Nat),y∈l→bN (py y.h y.n y.l) l k≥0:=by
  intro l
  induction l with
  |nil=>intro k h;cases h
  |cons x l ih=>
   intro k h
   simp only[bN]
   cases hx:py y.h y.n y.l x with
   |true=>simp
   |false=>
    simp only[cond_false]
    rcases List.mem_cons.1 h with rfl|h
    ·simp[py] at hx
    exact ih _ h
 exact key l 0 h
theorem ans{fa:Option Addr}{S:List (List ah)}{ro:Nat→Option Obj}(hS:cW ro vS S)(hO:fp S)(hT:n5 ro vT ways)(hW:yo ways):eG zT 118 [.agg ⟨[vS,vT,.slice fa 0 fc]⟩] ro [] (fun r Y=>∃a n c,r= .tuple ⟨[.slice a n c,zI 0]⟩∧n=((db S ways).map (·.ways)).length∧∀mg,Knows mg Y→ajh mg (.slice a n c) ((db S ways).map (·.ways))):=by
 have yd:=hS
 obtain⟨iC,hs,fC⟩:=hS
 obtain⟨mD,Tx,Tv,lD,rfl,Tw,Mz,My⟩:=hs
 obtain⟨iX,ht,fw⟩:=id hT
 obtain⟨fg,Av,As,eo,rfl,Au,su,sr⟩:=ht
 have Iz:=fC.len
 have EE:=fw.len
 have Jh:=hO.two
 have AR:=hW.one
 have Ok:∀(i:Nat) (p:da),([]:List da)[i]?=some p→cB ⟨ro,[]⟩ 0 (0+i*6) 6 (m8 p):=fun _ _ h=>oG h
 have hLn:=FJ (S:=S) hW
 refine bD au [] [] ba<|zD 2<|jn fun b1=>jd 6 [0]<|jcG (vs:=[.agg ⟨[.slice mD iC.length lD,.slice fg iX.length eo,.slice fa 0 fc]⟩]) [] (ahV yd hO hT hW) ?_
 rintro _ aC _ bY ⟨jQ,vl,ts,Lt,Z,rfl,IE,rfl,hL,htl,hA⟩
 obtain⟨uS,uT,uH,ua,uc,gb,_,_,hh⟩:=IE
 obtain⟨dO,u3,u2,dv,rfl,xg,qV,qU⟩:=hh
 obtain⟨aMA,aMf,aSQ⟩:=hL.form
 subst aSQ
 refine jg 0 [.l Lt,.l Z]<|zD 28<|oH<|dW [1,1,1,1,0,1,0,0] [] (fun(zz:Nat×Value×Cells)=>[(2,zS),(3,zI 0),(7,zz.2.1),(19,(.slice aMA ts.length aMf)),(20,zI (ts.length:Int)),(21,zI (zz.1:Int))]) (fun(zz:Nat×Value×Cells)=>[.l zz.2.2,.l Lt,.l Z,.b b1 (.cells ⟨[.slice mD iC.length lD,.slice fg iX.length eo,.slice fa 0 fc]⟩ 31 (0,0))]) (fun(zz:Nat×Value×Cells)=>zz.1≤ts.length∧az zz.2.1 1 22 gh ((ts.take zz.1).map wv) zz.2.2) (fun(zz:Nat×Value×Cells)=>ts.length-zz.1) (⟨0,zS,[]⟩) ⟨by dsimp only;omega,az.nil _ _ _⟩ [0,1,2,3] ?_
 rintro⟨k,vO,LO⟩ hI K1 bK rest
 dsimp only at hI
 refine zD 5<|zJ 22 ((k:Int) <(ts.length:Int)) (fun h2=>?_) fun h2=>?_
 ·
  refine zD 6 ?_
  obtain⟨vk,td⟩:=zG ts k
  refine T5 3 hL td fun b23 aTE=>nS 0 [1] Lt (fun s _ hZ=>cm hL aTE hZ td)<|jn fun b9=>jd 6 [0,0]<|jn fun b28=>jq (sz:=1) (ps:=((ts.take k).map wv)) (qs:=[(.slice vk.a vk.n vk.c:Value)]) (enc:=gh) (w:= .slice (some ⟨b28,0,none⟩) 1 1) [2] [0] [(b28,.cells ⟨([(.slice vk.a vk.n vk.c:Value)].map gh).flatten⟩ 22 (0,0))] (hI.2) (fun s _ hZ=>bX [(.slice vk.a vk.n vk.c:Value)] (hZ _ (.head _)) (by intro p hp;rfl)) (by intro p hp;rw[List.mem_singleton] at hp;subst hp;exact aj rfl) (by simp only[List.length_map,List.length_take,List.length_cons,List.length_nil];omega) (fun v29 L29 G5=>?_)
  obtain⟨acs,ack,agG⟩:=G5.form
  subst agG
  refine zD 3<|ja ((k:Int)+1) (by omega)<|zD 2<|bJ bK (⟨k+1,(.slice acs ((((ts.take k).map wv)++[(.slice vk.a vk.n vk.c:Value)])).length ack),L29⟩) ⟨by dsimp only;omega,by rw[eX td,List.map_append];exact G5⟩ (by dsimp only;omega) [0,3,4,5] (Sub.refl _)
 refine zD 3 ?_
 obtain⟨va3,vc3,XZ⟩:=hI.2.form
 subst XZ
 refine zD 6<|aF q0.a (.tuple ⟨[(.slice va3 (((ts.take k).map wv)).length vc3),zI 0]⟩) [] [0,2] (LO++Z) bY ⟨_,_,rfl,rfl,_,_,_,rfl,by simp only[List.length_map,List.length_take];omega,fun mg hk=>⟨_,hI.2.kZ (Knows.left hk),by rw[List.take_of_length_le (by omega)];exact(hA mg (Knows.right hk)).maps fun _ _ h=>h.1⟩⟩
theorem awm{fa:Option Addr}{S:List (List ah)}{y:an}{x:TrD}{ro:Nat→Option Obj}(hS:cW ro vS S)(hO:fp S)(hT:n5 ro vT ways)(hW:yo ways)(hy:y∈bH S)(hLx:db S ways=[x]):eG zT 85 [.agg ⟨[vS,vT,.slice fa 0 fc]⟩,.agg ⟨[zI y.h,zI y.n,zI y.l]⟩] ro [] (fun r Y=>∃a n c,r= .tuple ⟨[.slice a n c,zI 0]⟩∧∀mg,Knows mg Y→bE mg (.slice a n c) 3 cJ [x.g y]):=by
 have yd:=hS
 obtain⟨iC,hs,fC⟩:=hS
 obtain⟨mD,Tx,Tv,lD,rfl,Tw,Mz,My⟩:=hs
 obtain⟨iX,ht,fw⟩:=id hT
 obtain⟨fg,Av,As,eo,rfl,Au,su,sr⟩:=ht
 have Iz:=fC.len
 have EE:=fw.len
 have Jh:=hO.two
 have AR:=hW.one
 have Ok:∀(i:Nat) (p:da),([]:List da)[i]?=some p→cB ⟨ro,[]⟩ 0 (0+i*6) 6 (m8 p):=fun _ _ h=>oG h
 have hhl:=uo hO
 have hph:=ZM hy
 have BB:(db S ways).length=1:=by rw[hLx];rfl
 refine bD au [] [] ba<|zD 2<|jn fun b2=>jn fun b3=>jd 6 [1]<|jcG (vs:=[.agg ⟨[.slice mD iC.length lD,.slice fg iX.length eo,.slice fa 0 fc]⟩]) [] (ahV yd hO hT hW) ?_
 rintro _ aC _ bY ⟨YJ,vl,ts,Lt,Z,rfl,IE,rfl,hL,htl,hA⟩
 obtain⟨uS,uT,uH,ua,uc,gb,_,_,hh⟩:=IE
 obtain⟨dO,u3,u2,dv,rfl,xg,qV,qU⟩:=hh
 obtain⟨FE,Ee,u7⟩:=hL.form
 subst u7
 refine jg 0 [.l Lt,.l Z]<|zD 22<|jl (b:=YJ) (off:=0) (m:=4) (vs:=[uS,uT,.slice ua 0 uc,.slice dO ((bH S).length) dv]) 3 ⟨_,_,_,.inl gb,rfl⟩<|jd 1 [2]<|jp (vs:=[.slice dO ((bH S).length) dv,.agg ⟨[zI y.h,zI y.n,zI y.l]⟩]) [] [] (fun aC hs hZ=>KO ((show bE _ _ _ _ _ from ⟨dO,u3,u2,dv,rfl,xg,qV,qU⟩).up hs) (by omega))<|zD 2<|js 27 (!(decide (bN (py y.h y.n y.l) (bH S) 0≥0))) (fun h2=>?_) (fun h2=>?_)
 ·
  exfalso;simp_all
 refine zD 9<|zJ 30 ((ts.length:Int)=0) (fun h3=>?_) fun h3=>?_
 ·
  exfalso;omega
 refine zD 5<|jf [0,1] (Lt++Z) (fun ro6 kF XQ=>?_)
 have hLs:=hL.kZ (Knows.left XQ)
 have hAs:=hA _ (Knows.right XQ)
 obtain⟨k8,Is,Ir,k7,Sr,Ol,F8,F7⟩:=hLs
 simp only[Value.slice.injEq] at Sr
 obtain⟨rfl,_,rfl⟩:=Sr
 refine zD 9<|oH<|dW [1,1,1,1,1,1,0,1,0,0] [] (fun(zz:Nat×Value×Cells)=>[(3,zP b3),(4,zS),(5,zI 0),(9,zz.2.1),(31,.slice FE ts.length Ee),(32,zI (ts.length:Int)),(33,zI (zz.1:Int))]) (fun(zz:Nat×Value×Cells)=>[.l zz.2.2,.b b3 (.cells ⟨[zI y.h,zI y.n,zI y.l]⟩ 164 (0,0)),.b b2 (.cells ⟨[.slice mD iC.length lD,.slice fg iX.length eo,.slice fa 0 fc]⟩ 31 (0,0))]) (fun(zz:Nat×Value×Cells)=>zz.1≤ts.length∧az zz.2.1 3 164 cJ ([x.g y].take zz.1) zz.2.2) (fun(zz:Nat×Value×Cells)=>ts.length-zz.1) (⟨0,zS,[]⟩) ⟨by dsimp only;omega,az.nil _ _ _⟩ [0,1,2] ?_
 rintro⟨k,vO,LO⟩ hI K1 bK rest
 dsimp only at hI
 refine zD 5<|zJ 34 ((k:Int) <(ts.length:Int)) (fun h7=>?_) fun h7=>?_
 ·
  refine zD 6 ?_
  obtain⟨x35,Ug⟩:=zG ts k
  refine iA Ee 3 F8 Ug<|jl 0 (F7 _ _ Ug)<|jn fun SH=>jd 2 [0] ?_
  obtain⟨q35,aCD,_,bgB,bgE,F35,aRZ,aUE,aSc,aQR⟩:=hAs.get Ug
  obtain⟨hqe,hk0⟩:=Gq (by rw[hLx] at aCD;exact aCD)
  replace hqe:=hqe.symm
  subst hqe
  refine jd 5 [0,2]<|jlu (kv:=pd) (F:=F35) (r:=x35.r) (K:=164) y (zS) false [] [] DK (fun s he _=>⟨_,_,he _ _ (.inl aRZ),aUE⟩) ?_
  obtain⟨w41,aQI,aRX⟩:=Xf (k:=y) (F:=F35) (aSc y hy)
  have hww:bE _ w41 3 cJ [x.g y]:=aQR _ aRX
  obtain⟨Tu,qwb,qwo,Mu,rfl,qwk,qwh,qwl⟩:=hww
  refine jw 41 (.slice Tu ([x.g y].length) Mu) (show Qj (zS) false y F35=_ from by simp only[Qj,aQI];rfl) ?_
  refine jq (sz:=3) (ps:=([x.g y].take k)) (qs:=[x.g y]) (enc:=cJ) (w:= .slice Tu ([x.g y].length) Mu) [1] [] [] (hI.2) (fun s he _=>⟨Tu,qwb,qwo,Mu,rfl,qwh,fun i p hp=>(qwl i p hp).ext he⟩) (fun p _=>aj rfl) (by simp only[List.length_take,List.length_cons,List.length_nil];omega) (fun v42 L42 afU=>?_)
  obtain⟨aMr,aL6,aSK⟩:=afU.form
  subst aSK
  refine zD 3<|ja ((k:Int)+1) (by omega)<|zD 2<|bJ bK (⟨k+1,(.slice aMr ((([x.g y].take k)++[x.g y])).length aL6),L42⟩) ⟨by dsimp only;omega,by have:=afU;rw[hk0] at this ⊢;exact this⟩ (by dsimp only;omega) [0,2,3] (Sub.refl _)
 refine zD 5<|jcL (vs:=[vO]) [] [0] LO (fun aC hs hZ=>Ye (hI.2.kZ hZ) (by simp only[List.length_take,List.length_cons,List.length_nil];omega)) ?_
 rintro v45 L45 aCP
 obtain⟨are,aq4,avj⟩:=aCP.form
 subst avj
 refine zD 4<|aF q0.a.a (.tuple ⟨[(.slice are (([x.g y].take k)).length aq4),zI 0]⟩) [] [0] L45 (bY.trans kF) ⟨_,_,rfl,rfl,_,_,_,rfl,fun mg hk=>by have:=aCP.kZ hk;have e: [x.g y].take k=[x.g y]:=List.take_of_length_le (by simp only[List.length_cons,List.length_nil];omega);simpa only[e] using this⟩
def TD(S:List (List ah))(ways:List (List aN))(w:List Int)(x:ay):List an:=match ways,w with
 |l::_,i::_=>(match l[i.toNat]? with
  |some c=>[yS S c ⟨x.st,x.no,0⟩]
  |none=>[])
 |_,_=>[⟨x.st,x.no,0⟩]
def WW(K:aI):List (List Int):=(db K.str K.ways).map (·.ways)
theorem VI{l:List aN}{w:List Int}(h:K.ways=[l])(hw:w∈WW K):∃(i:Nat) (c:aN),l[i]?=some c∧w=[(i:Int)]:=by
 simp only[WW,h,db,List.map_map,List.mem_map,List.mem_range,Function.comp,arw] at hw
 obtain⟨i,hi,rfl⟩:=hw
 exact⟨i,l[i],List.getElem?_eq_getElem hi,rfl⟩
theorem kV.wp(h:kV K):yo K.ways:=⟨h.ways.1,fun l hl=>⟨⟨(h.ways.2 l hl).1.1,by have:=(h.ways.2 l hl).1.2;omega⟩,(h.ways.2 l hl).2⟩⟩
theorem WS(h:kV K):K.ways=[]∨∃l,K.ways=[l]:=by
 have:=h.ways.1
 match hw:K.ways,this with
 | [],_=>exact .inl rfl
 | [l],_=>exact .inr ⟨l,rfl⟩
theorem aca(h:kV K):VH K (WW K):=by
 rcases WS h with e| ⟨l,e⟩
 ·exact⟨by simp[WW,e,db],fun w hw=>by simp[WW,e,db] at hw;simp[hw,e],fun w hw k l n hl=>by simp[e] at hl⟩
 have hl:=(h.ways.2 l (by simp[e])).1
 refine⟨by simp[WW,e,db];omega,fun w hw=>?_,fun w hw k l' n hk hn=>?_⟩
 ·obtain⟨i,c,_,rfl⟩:=VI e hw;simp[e]
 obtain⟨i,c,hi,rfl⟩:=VI e hw
 rw[e] at hk
 obtain⟨rfl,rfl⟩:=Gq hk
 obtain⟨rfl,_⟩:=Gq hn
 have:=(List.getElem?_eq_some_iff.1 hi).1
 omega
theorem acz{ro:Nat→Option Obj}(hK:fP ro l K)(hO:kV K):qO ro l (WW K):=by
 obtain⟨vS,vT,vc,vh,vr,vb,va,vf,fa,fc,hv,rfl,hS,hT,_⟩:=hK
 intro aC hs
 exact ans (hS.up hs) hO.pN (hT.up hs) hO.wp
theorem ZU{S:List (List ah)}{x:ay}(h:aoc S hd x):(⟨x.st,x.no,0⟩:an)∈bH S:=by
 obtain⟨l,h1,h2⟩:=h.2
 have:=G8 h1 h2
 simp only[mQ] at this
 rwa[show ((x.st.toNat:Nat):Int)=x.st by have:=h.1.2.2.1;omega] at this
theorem anK{l:List aN}{c:aN}(h:l[i]?=some c):(l.take ((i:Int).toNat+1)).drop (i:Int).toNat=[c]:=by
 rw[Int.toNat_natCast,eX h,List.drop_append_of_le_length (by have:=(List.getElem?_eq_some_iff.1 h).1;rw[List.length_take];omega),List.drop_eq_nil_of_le (by rw[List.length_take];omega)];rfl
theorem akt{ro:Nat→Option Obj}(hK:fP ro l K)(hO:kV K):xH ro l K (WW K) (TD K.str K.ways):=by
 obtain⟨vS,vT,vc,vh,vr,vb,va,vf,fa,fc,hv,rfl,hS,hT,_⟩:=hK
 intro w hw x hx
 have hy:=ZU (hO.before.2 x hx)
 have fin:∀(t:TrD),yo (Ba K.ways w)→db K.str (Ba K.ways w)=[t]→TD K.str K.ways w x=[t.g ⟨x.st,x.no,0⟩]→(TD K.str K.ways w x).length≤1000∧∀aC,Sub ro aC→∀v vS' vT' vU r,[vS,vT,.slice fa 0 fc,vc,vh,vr,vb,va,zI K.gone,zI K.new,zI K.af,vf]=vS'::vT'::vU::r→n5 aC v (Ba K.ways w)→
  eG zT 85 [.agg ⟨[vS',v,vU]⟩,.agg ⟨[zI x.st,zI x.no,zI 0]⟩] aC [] (fun r Y=>∃a n c,r= .tuple ⟨[.slice a n c,zI 0]⟩∧∀mg,Knows mg Y→bE mg (.slice a n c) 3 cJ (TD K.str K.ways w x)):=by
  intro t h1 h2 h3
  rw[h3]
  refine⟨by simp,fun aC hs v vS' vT' vU r he hv=>?_⟩
  simp only[List.cons.injEq] at he
  obtain⟨rfl,_,rfl,_⟩:=he
  exact awm (hS.up hs) hO.pN hv h1 hy h2
 rcases WS hO with e| ⟨l,e⟩
 ·refine fin ⟨[],id⟩ ?_ ?_ ?_
  ·rw[e];exact⟨by simp[Ba],by simp[Ba]⟩
  ·rw[e];simp[Ba,db]
  rw[e];rfl
 obtain⟨i,c,hi,rfl⟩:=VI e hw
 have hc:Ba K.ways [(i:Int)]=[[c]]:=by rw[e];simp only[Ba,List.zipWith_cons_cons,List.zipWith_nil_right,anK hi]
 refine fin ⟨[0],yS K.str c⟩ ?_ ?_ ?_
 ·rw[hc]
  refine⟨by simp,fun l' hl=>?_⟩
  rw[List.mem_singleton] at hl;subst hl
  exact⟨by simp,fun c' tq=>by rw[List.mem_singleton] at tq;subst tq;exact(hO.ways.2 l (by simp[e])).2 _ (List.mem_of_getElem? hi)⟩
 ·rw[hc];rfl
 rw[e];simp only[TD,Int.toNat_natCast,hi]
def dN(K:aI):List bF:=(WW K).map (lf K (TD K.str K.ways))
theorem mN(h:kV K):(dN K).length≤2:=by
 rw[dN,List.length_map];exact(aca h).n.2
theorem wS{ro:Nat→Option Obj}(hK:fP ro l K)(hO:kV K)(hV:fe K):ia ro l K (dN K):=
 an2 hK hO hV (aca hO) (acz hK hO) (akt hK hO)
def cY(K:aI):Nat:=(cR K (aV K) (cy K.gone K.new K.af) (dN K)).length
theorem Hw:∀(l:List Int) (a:Int),l.foldl min a≤a∧∀x∈l,l.foldl min a≤x
 | [],a=>⟨Int.le_refl _,fun _ h=>(by cases h)⟩
 |y::l,a=>by
  obtain⟨h1,h2⟩:=Hw l (min a y)
  refine⟨by simp only[List.foldl_cons];omega,fun x hx=>?_⟩
  rcases List.mem_cons.1 hx with rfl|hx
  ·simp only[List.foldl_cons];omega
  exact h2 x hx
theorem MT{l:List Int}(h:x∈l):u4 l≤x:=by
 cases l with
 |nil=>cases h
 |cons y l=>
  rcases List.mem_cons.1 h with rfl|h
  ·exact(Hw l _).1
  exact(Hw l _).2 x h
theorem amc{ro:Nat→Option Obj}(hK:fP ro l K)(hO:kV K)(hV:fe K):BF zT 36 [.agg ⟨l⟩] ro [] (fun r Y=>∃zs m e,zs.Perm (cR K (aV K) (fun _=>true) (dN K))∧Y=[]∧r= .tuple ⟨[zI m,zI e]⟩∧((zs=[]∧m=0∧e=9)∨(zs≠[]∧m=u4 (zs.map FP)∧e=0))):=
 fun fr=>Fn.mono (atv hK hV (mN hO) (wS hK hO hV) fr) fun en s' ⟨v,Y,h1,h2,zs,h3,h4,h5⟩=>⟨v,Y,h1,h2,by
  rcases h5 with ⟨h5,h6⟩| ⟨h5,h6⟩
  ·exact⟨zs,0,9,h3,h4,h6,.inl ⟨h5,rfl,rfl⟩⟩
  exact⟨zs,_,0,h3,h4,h6,.inr ⟨h5,rfl,rfl⟩⟩⟩
theorem GL{ro:Nat→Option Obj}(hK:fP ro l K)(hO:kV K)(hV:fe K):BF zT 15 [.agg ⟨l⟩] ro [] (fun r Y=>r= .tuple ⟨[zI (cY K:Int),zI 0]⟩∧Y=[]):=aeZ hK hV (mN hO) (wS hK hO hV)
def HL:List Int→List Int→Bool
 | [],[]=>true
 |x::l,y::m=>decide (x=y)&&HL l m
 |_,_=>false
theorem aip:∀ {l m:List Int},¬l.length=m.length→HL l m=false
 | [],[],h=>absurd rfl h
 | [],_::_,_=>rfl
 |_::_,[],_=>rfl
 |x::l,y::m,h=>by rw[HL,aip (l:=l) (m:=m) (by simpa using h),Bool.and_false]
theorem aiq(hx:xs[k]?=some x) (hy:ys[k]?=some y):HL (xs.drop k) (ys.drop k)=(decide (x=y)&&HL (xs.drop (k+1)) (ys.drop (k+1))):=by rw[fF hx,fF hy];rfl
theorem anB(hx:¬k <xs.length)(h:xs.length=ys.length):HL (xs.drop k) (ys.drop k)=true:=by rw[eL hx,eL (by omega)];rfl
def EL:List (List Int)→List (List Int)→Bool
 | [],[]=>true
 |x::l,y::m=>HL x y&&EL l m
 |_,_=>false
theorem Ym:∀ {l m:List (List Int)},¬l.length=m.length→EL l m=false
 | [],[],h=>absurd rfl h
 | [],_::_,_=>rfl
 |_::_,[],_=>rfl
 |x::l,y::m,h=>by rw[EL,Ym (l:=l) (m:=m) (by simpa using h),Bool.and_false]
theorem Yn{xs ys:List (List Int)}{x y:List Int}(hx:xs[k]?=some x) (hy:ys[k]?=some y):EL (xs.drop k) (ys.drop k)=(HL x y&&EL (xs.drop (k+1)) (ys.drop (k+1))):=by rw[fF hx,fF hy];rfl
theorem aio{xs ys:List (List Int)}(hx:¬k <xs.length)(h:xs.length=ys.length):EL (xs.drop k) (ys.drop k)=true:=by rw[eL hx,eL (by omega)];rfl
def yl:List Int→List Int→Int
 | [],[]=>0
 | [],_::_=> -1
 |_::_,[]=>1
 |x::xs,y::ys=>if q6 x y=0 then yl xs ys else q6 x y
theorem RN(hx:xs[k]?=some x) (hy:ys[k]?=some y):yl (xs.drop k) (ys.drop k)=if q6 x y=0 then yl (xs.drop (k+1)) (ys.drop (k+1)) else q6 x y:=by rw[fF hx,fF hy];rfl
theorem aa6(hx:xs[k]?=some x) (hy:¬k <ys.length):yl (xs.drop k) (ys.drop k)=1:=by rw[fF hx,eL hy];rfl
theorem Lz(hx:¬k <xs.length):yl (xs.drop k) (ys.drop k)=if k <ys.length then-1 else 0:=by
 rw[eL hx]
 split
 ·rename_i h
  rw[List.drop_eq_getElem_cons h];rfl
 rename_i h
 rw[eL h];rfl
def mj(f:Int):Nat→List Int
 |0=>[]
 |k+1=>mj f k++(bif hasB f k then [(k:Int)] else [])
theorem alT(h:hasB f (k:Int)=true):mj f (k+1)=mj f k++[(k:Int)]:=by rw[mj,h];rfl
theorem alU(h:hasB f (k:Int)=false):mj f (k+1)=mj f k:=by rw[mj,h];exact List.append_nil _
theorem KJ(f:Int)(n:Nat):(mj f n).length≤n:=by
 induction n with
 |zero=>exact Nat.le_refl _
 |succ n ih=>rw[mj,List.length_append];cases hasB f (n:Int)<;>simp<;>omega
def yM(f:Int):Int:=([0,1,1,2,1,2,2,3,1,2,2,3,2,3,3,4]:List Int).getD f.toNat 0
theorem WI(h:0≤f∧f <16):0≤yM f∧yM f≤8:=by
 obtain⟨n,rfl⟩:=Int.eq_ofNat_of_zero_le h.1
 have h2:n <16:=by omega
 revert h2
 exact(by decide:∀n:Nat,n <16→0≤yM (n:Int)∧yM (n:Int)≤8) n
def RL(x y:Int):Int:=if yM x-yM y=0 then yl (mj x 4) (mj y 4) else yM x-yM y
theorem aix{v w:Value}{ro:Nat→Option Obj}(hv:bE ro v 1 cA xs)(hw:bE ro w 1 cA ys)(hx:xs.length≤1000)(hy:ys.length≤1000):dt zT 12 [v,w] ro (.bool (HL xs ys)):=by
 obtain⟨Mv,qvb,qvo,Bx,rfl,qvk,Px,Pw⟩:=hv
 obtain⟨Tu,qwb,qwo,Mu,rfl,qwk,qwh,qwl⟩:=hw
 refine bD au [] [] ba<|zD 13<|js 10 (!decide ((xs.length:Int)=(ys.length:Int))) (fun h1=>?_) (fun h1=>?_)
 ·
  replace h1:=of_decide_eq_false (by simpa using h1)
  refine zD 6<|aF q0 (.bool false) [] [] [] (Sub.refl _) ⟨_,_,rfl,rfl,by rw[aip (by omega)],rfl⟩
 replace h1:=of_decide_eq_true (by simpa using h1)
 refine zD 8<|dW [1,1,0,1,0,0] [] (fun(zz:Nat)=>[(0,.slice Mv xs.length Bx),(1,.slice Tu ys.length Mu),(5,zI (zz:Int))]) (fun(zz:Nat)=>[]) (fun(zz:Nat)=>zz≤xs.length∧HL xs ys=HL (xs.drop zz) (ys.drop zz)) (fun(zz:Nat)=>xs.length-zz) 0 ⟨by omega,rfl⟩ [] ?_
 rintro k hI K1 bK rest
 refine zD 8<|zJ 14 ((k:Int) <(xs.length:Int)) (fun h2=>?_) fun h2=>?_
 ·
  refine zD 8 ?_
  obtain⟨E0,xR⟩:=zG xs k
  refine iA Bx 1 Px xR<|jl 0 (Pw _ _ xR)<|zD 2 ?_
  obtain⟨vk,td⟩:=zG ys k
  refine iA Mu 1 qwh td<|jl 0 (qwl _ _ td)<|zD 2<|js 25 (!decide (E0=vk)) (fun h3=>?_) (fun h3=>?_)
  ·
   replace h3:=of_decide_eq_false (by simpa using h3)
   refine zD 6<|aF q0 (.bool false) [] [] [] (Sub.refl _) ⟨_,_,rfl,rfl,by rw[hI.2,aiq xR td,decide_eq_false (by omega),Bool.false_and],rfl⟩
  replace h3:=of_decide_eq_true (by simpa using h3)
  refine zD 4<|ja ((k:Int)+1) (by omega)<|zD 2<|bJ bK (k+1) ⟨by omega,by rw[hI.2,aiq xR td,decide_eq_true (by omega),Bool.true_and]⟩ (by omega) [] (Sub.refl _)
 refine zD 7<|aF q0 (.bool true) [] [] [] (Sub.refl _) ⟨_,_,rfl,rfl,by rw[hI.2,anB (by omega) (by omega)],rfl⟩
theorem aQm{v w:Value}{ro:Nat→Option Obj}(hv:bE ro v 1 cA xs)(hw:bE ro w 1 cA ys)(hx:xs.length≤1000)(hy:ys.length≤1000):dt zT 116 [v,w] ro (zI (yl xs ys)):=by
 obtain⟨Mv,qvb,qvo,Bx,rfl,qvk,Px,Pw⟩:=hv
 obtain⟨Tu,qwb,qwo,Mu,rfl,qwk,qwh,qwl⟩:=hw
 refine bD au [] [] ba<|zD 12<|dW [1,0,1,0,0] [] (fun(zz:Nat)=>[(0,.slice Mv xs.length Bx),(1,.slice Tu ys.length Mu),(9,.slice Mv xs.length Bx),(10,zI (xs.length:Int)),(11,zI (zz:Int))]) (fun(zz:Nat)=>[]) (fun(zz:Nat)=>(zz≤xs.length∧zz≤ys.length)∧yl xs ys=yl (xs.drop zz) (ys.drop zz)) (fun(zz:Nat)=>xs.length-zz) 0 ⟨by omega,rfl⟩ [] ?_
 rintro k hI K1 bK rest
 refine zD 5<|zJ 12 ((k:Int) <(xs.length:Int)) (fun h1=>?_) fun h1=>?_
 ·
  refine zD 7 ?_
  obtain⟨eA,dE⟩:=zG xs k
  refine iA Bx 1 Px dE<|jl 0 (Pw _ _ dE)<|zD 11<|zJ 19 ((k:Int)≥(ys.length:Int)) (fun h2=>?_) fun h2=>?_
  ·
   refine zD 6<|aF q0 (zI 1) [] [] [] (Sub.refl _) ⟨_,_,rfl,rfl,by rw[hI.2,aa6 dE (by omega)],rfl⟩
  refine zD 6 ?_
  obtain⟨sq,uh⟩:=zG ys k
  refine iA Mu 1 qwh uh<|jl 0 (qwl _ _ uh)<|zD 6<|jp (vs:=[zI eA,zI sq]) [] [] (fun aC hs hZ=>aws)<|zD 7<|js 28 (!decide ((q6 eA sq)=0)) (fun h3=>?_) (fun h3=>?_)
  ·
   replace h3:=of_decide_eq_false (by simpa using h3)
   refine zD 7<|aF q0 (zI (q6 eA sq)) [] [] [] (Sub.refl _) ⟨_,_,rfl,rfl,by rw[hI.2,RN dE uh,if_neg (by omega)],rfl⟩
  replace h3:=of_decide_eq_true (by simpa using h3)
  refine zD 3<|ja ((k:Int)+1) (by omega)<|zD 2<|bJ bK (k+1) ⟨by omega,by rw[hI.2,RN dE uh,if_pos (by omega)]⟩ (by omega) [] (Sub.refl _)
 refine zD 11<|zJ 35 ((xs.length:Int) <(ys.length:Int)) (fun h4=>?_) fun h4=>?_
 ·
  refine zD 6<|aF q0 (zI (-1)) [] [] [] (Sub.refl _) ⟨_,_,rfl,rfl,by rw[hI.2,Lz (by omega),if_pos (by omega)],rfl⟩
 refine zD 7<|aF q0 (zI 0) [] [] [] (Sub.refl _) ⟨_,_,rfl,rfl,by rw[hI.2,Lz (by omega),if_neg (by omega)],rfl⟩
theorem ah9{ro:Nat→Option Obj}:eG zT 81 [.int .u8 f] ro [] (fun r Y=>∃L,az r 1 3 cA (mj f 4) L∧Y=L):=by
 refine bD au [] [] ba<|zD 14<|oH<|dW [1,1,0,1,0,0] [] (fun(zz:Nat×Value×Cells)=>[(0,.int .u8 f),(2,zS),(3,zz.2.1),(5,zI (zz.1:Int))]) (fun(zz:Nat×Value×Cells)=>[.l zz.2.2]) (fun(zz:Nat×Value×Cells)=>zz.1≤4∧az zz.2.1 1 3 cA (mj f zz.1) zz.2.2) (fun(zz:Nat×Value×Cells)=>4-zz.1) (⟨0,zS,[]⟩) ⟨by dsimp only;omega,az.nil _ _ _⟩ [0] ?_
 rintro⟨k,v,L⟩ hI K1 bK rest
 dsimp only at hI
 have hll:=KJ f k
 refine zD 5<|zJ 6 ((k:Int) <4) (fun h1=>?_) fun h1=>?_
 ·
  refine zD 13<|jp (vs:=[.int .u8 f,zI (k:Int)]) [] [] (fun aC hs hZ=>(aty (by omega)))<|zD 1<|js 10 (hasB f (k:Int)) (fun h2=>?_) (fun h2=>?_)
  ·
   refine zD 4<|jn fun Aa=>jq (sz:=1) (ps:=(mj f k)) (qs:=[(k:Int)]) (enc:=cA) (w:= .slice (some ⟨Aa,0,none⟩) 1 1) [1] [0] [(Aa,.cells ⟨([(k:Int)].map cA).flatten⟩ 3 (0,0))] (hI.2) (fun s _ hZ=>bX [(k:Int)] (hZ _ (.head _)) (by intro p hp;rfl)) (fun p _=>aj rfl) (by simp<;>omega) (fun v14 L14 uk=>?_)
   obtain⟨FE,Ee,u7⟩:=uk.form
   subst u7
   refine zD 3<|ja ((k:Int)+1) (by omega)<|zD 2<|bJ bK (⟨k+1,(.slice FE (((mj f k)++[(k:Int)])).length Ee),L14⟩) ⟨by dsimp only;omega,by dsimp only;rw[alT (by assumption)];exact uk⟩ (by dsimp only;omega) [0] (Sub.refl _)
  refine zD 3<|ja ((k:Int)+1) (by omega)<|zD 2<|bJ bK (⟨k+1,v,L⟩) ⟨by dsimp only;omega,by dsimp only;rw[alU (by assumption)];exact hI.2⟩ (by dsimp only;omega) [0] (Sub.refl _)
 refine zD 8<|aF q0 (v) [] [0] L (Sub.refl _) ⟨_,_,rfl,rfl,_,(by rw[←show k=4 by omega];exact hI.2),rfl⟩
theorem atq{ro:Nat→Option Obj}:dt zT 115 [.int .u8 0] ro (zI 0):=by
 refine bD au [] [] ba<|zD 12<|aF q0 (zI 0) [] [] [] (Sub.refl _) ⟨_,_,rfl,rfl,rfl,rfl⟩
theorem atp{ro:Nat→Option Obj}:dt zT 115 [.int .u8 1] ro (zI 1):=by
 refine bD au [] [] ba<|zD 12<|aF q0 (zI 1) [] [] [] (Sub.refl _) ⟨_,_,rfl,rfl,rfl,rfl⟩
theorem ato{ro:Nat→Option Obj}:dt zT 115 [.int .u8 2] ro (zI 1):=by
 refine bD au [] [] ba<|zD 12<|aF q0 (zI 1) [] [] [] (Sub.refl _) ⟨_,_,rfl,rfl,rfl,rfl⟩
theorem atn{ro:Nat→Option Obj}:dt zT 115 [.int .u8 3] ro (zI 2):=by
 refine bD au [] [] ba<|zD 12<|aF q0 (zI 2) [] [] [] (Sub.refl _) ⟨_,_,rfl,rfl,rfl,rfl⟩
theorem atm{ro:Nat→Option Obj}:dt zT 115 [.int .u8 4] ro (zI 1):=by
 refine bD au [] [] ba<|zD 12<|aF q0 (zI 1) [] [] [] (Sub.refl _) ⟨_,_,rfl,rfl,rfl,rfl⟩
theorem atl{ro:Nat→Option Obj}:dt zT 115 [.int .u8 5] ro (zI 2):=by
 refine bD au [] [] ba<|zD 12<|aF q0 (zI 2) [] [] [] (Sub.refl _) ⟨_,_,rfl,rfl,rfl,rfl⟩
theorem atk{ro:Nat→Option Obj}:dt zT 115 [.int .u8 6] ro (zI 2):=by
 refine bD au [] [] ba<|zD 12<|aF q0 (zI 2) [] [] [] (Sub.refl _) ⟨_,_,rfl,rfl,rfl,rfl⟩
theorem atj{ro:Nat→Option Obj}:dt zT 115 [.int .u8 7] ro (zI 3):=by
 refine bD au [] [] ba<|zD 12<|aF q0 (zI 3) [] [] [] (Sub.refl _) ⟨_,_,rfl,rfl,rfl,rfl⟩
theorem ati{ro:Nat→Option Obj}:dt zT 115 [.int .u8 8] ro (zI 1):=by
 refine bD au [] [] ba<|zD 12<|aF q0 (zI 1) [] [] [] (Sub.refl _) ⟨_,_,rfl,rfl,rfl,rfl⟩
theorem ath{ro:Nat→Option Obj}:dt zT 115 [.int .u8 9] ro (zI 2):=by
 refine bD au [] [] ba<|zD 12<|aF q0 (zI 2) [] [] [] (Sub.refl _) ⟨_,_,rfl,rfl,rfl,rfl⟩
theorem al8{ro:Nat→Option Obj}:dt zT 115 [.int .u8 10] ro (zI 2):=by
 refine bD au [] [] ba<|zD 12<|aF q0 (zI 2) [] [] [] (Sub.refl _) ⟨_,_,rfl,rfl,rfl,rfl⟩
theorem al7{ro:Nat→Option Obj}:dt zT 115 [.int .u8 11] ro (zI 3):=by
 refine bD au [] [] ba<|zD 12<|aF q0 (zI 3) [] [] [] (Sub.refl _) ⟨_,_,rfl,rfl,rfl,rfl⟩
theorem al6{ro:Nat→Option Obj}:dt zT 115 [.int .u8 12] ro (zI 2):=by
 refine bD au [] [] ba<|zD 12<|aF q0 (zI 2) [] [] [] (Sub.refl _) ⟨_,_,rfl,rfl,rfl,rfl⟩
theorem al5{ro:Nat→Option Obj}:dt zT 115 [.int .u8 13] ro (zI 3):=by
 refine bD au [] [] ba<|zD 12<|aF q0 (zI 3) [] [] [] (Sub.refl _) ⟨_,_,rfl,rfl,rfl,rfl⟩
theorem al4{ro:Nat→Option Obj}:dt zT 115 [.int .u8 14] ro (zI 3):=by
 refine bD au [] [] ba<|zD 12<|aF q0 (zI 3) [] [] [] (Sub.refl _) ⟨_,_,rfl,rfl,rfl,rfl⟩
theorem al3{ro:Nat→Option Obj}:dt zT 115 [.int .u8 15] ro (zI 4):=by
 refine bD au [] [] ba<|zD 12<|aF q0 (zI 4) [] [] [] (Sub.refl _) ⟨_,_,rfl,rfl,rfl,rfl⟩
theorem apv{ro:Nat→Option Obj}(h:0≤f∧f <16):dt zT 115 [.int .u8 f] ro (zI (yM f)):=by
 obtain rfl|rfl|rfl|rfl|rfl|rfl|rfl|rfl|rfl|rfl|rfl|rfl|rfl|rfl|rfl|rfl:=(by omega:f=0∨f=1∨f=2∨f=3∨f=4∨f=5∨f=6∨f=7∨f=8∨f=9∨f=10∨f=11∨f=12∨f=13∨f=14∨f=15)
 ·exact atq
 ·exact atp
 ·exact ato
 ·exact atn
 ·exact atm
 ·exact atl
 ·exact atk
 ·exact atj
 ·exact ati
 ·exact ath
 ·exact al8
 ·exact al7
 ·exact al6
 ·exact al5
 ·exact al4
 exact al3
def LL(ro:Nat→Option Obj)(v:Value)(W:List (List Int)):Prop:=∃ws,bE ro v 1 gh ws∧dg (fun w l=>bE ro w 1 cA l) ws W
theorem awC{v w:Value}{ws us:List Value}{W U:List (List Int)}{ro:Nat→Option Obj}(hv:bE ro v 1 gh ws)(hw:bE ro w 1 gh us)(ha:dg (fun w l=>bE ro w 1 cA l) ws W)(hb:dg (fun w l=>bE ro w 1 cA l) us U)(hx:W.length≤1000)(hy:U.length≤1000)(hW:∀l∈W,l.length≤1000)(hU:∀l∈U,l.length≤1000):dt zT 41 [v,w] ro (.bool (EL W U)):=by
 obtain⟨Mv,qvb,qvo,Bx,rfl,qvk,Px,Pw⟩:=hv
 obtain⟨Tu,qwb,qwo,Mu,rfl,qwk,qwh,qwl⟩:=hw
 have hla:=ha.len
 have hlb:=hb.len
 refine bD au [] [] ba<|zD 13<|js 10 (!decide ((ws.length:Int)=(us.length:Int))) (fun h1=>?_) (fun h1=>?_)
 ·
  replace h1:=of_decide_eq_false (by simpa using h1)
  refine zD 6<|aF q0 (.bool false) [] [] [] (Sub.refl _) ⟨_,_,rfl,rfl,by rw[Ym (by omega)],rfl⟩
 replace h1:=of_decide_eq_true (by simpa using h1)
 refine zD 8<|dW [1,1,0,1,0,0] [] (fun(zz:Nat)=>[(0,.slice Mv ws.length Bx),(1,.slice Tu us.length Mu),(5,zI (zz:Int))]) (fun(zz:Nat)=>[]) (fun(zz:Nat)=>zz≤W.length∧EL W U=EL (W.drop zz) (U.drop zz)) (fun(zz:Nat)=>W.length-zz) 0 ⟨by omega,rfl⟩ [] ?_
 rintro k hI K1 bK rest
 refine zD 8<|zJ 14 ((k:Int) <(ws.length:Int)) (fun h2=>?_) fun h2=>?_
 ·
  refine zD 8 ?_
  obtain⟨E0,xR⟩:=zG ws k
  refine iA Bx 1 Px xR ?_
  obtain⟨l20,auP,h20⟩:=ha.get xR
  obtain auH:=hW _ (List.mem_of_getElem? auP)
  obtain⟨aAR,aOZ,aOV,aAQ,rfl,aOX,aOY,aOW⟩:=h20
  refine jl 0 (Pw _ _ xR)<|zD 2 ?_
  obtain⟨vk,td⟩:=zG us k
  refine iA Mu 1 qwh td ?_
  obtain⟨T3,Ux,h24⟩:=hb.get td
  obtain aDc:=hU _ (List.mem_of_getElem? Ux)
  obtain⟨asu,aAK,aAI,adG,rfl,aAJ,ale,ald⟩:=h24
  refine jl 0 (qwl _ _ td)<|jp (vs:=[.slice aAR l20.length aAQ,.slice asu T3.length adG]) [] [] (fun aC hs hZ=>aix ((show bE _ _ _ _ _ from ⟨aAR,aOZ,aOV,aAQ,rfl,aOX,aOY,aOW⟩).up hs) ((show bE _ _ _ _ _ from ⟨asu,aAK,aAI,adG,rfl,aAJ,ale,ald⟩).up hs) auH aDc)<|zD 2<|js 26 (!(HL l20 T3)) (fun h3=>?_) (fun h3=>?_)
  ·
   try simp only[zB] at h3
   refine zD 6<|aF q0 (.bool false) [] [] [] (Sub.refl _) ⟨_,_,rfl,rfl,by rw[hI.2,Yn auP Ux];simp_all,rfl⟩
  try simp only[zB] at h3
  refine zD 4<|ja ((k:Int)+1) (by omega)<|zD 2<|bJ bK (k+1) ⟨by omega,by rw[hI.2,Yn auP Ux];simp_all⟩ (by omega) [] (Sub.refl _)
 refine zD 7<|aF q0 (.bool true) [] [] [] (Sub.refl _) ⟨_,_,rfl,rfl,by rw[hI.2,aio (by omega) (by omega)],rfl⟩
theorem Qk:(mj f 4).length≤1000:=Nat.le_trans (KJ f 4) (by decide)
def Eu:Nat→List Int→List Int
 |0,ys=>ys
 |j+1,ys=>if RL (ys.getD (j+1) 0) (ys.getD j 0) <0 then Eu j ((ys.set (j+1) (ys.getD j 0)).set j (ys.getD (j+1) 0)) else ys
def FT:Nat→Nat→List Int→List Int
 |0,_,ys=>ys
 |n+1,i,ys=>FT n (i+1) (Eu i ys)
def Du(xs:List Int):List Int:=FT (xs.length-1) 1 xs
theorem aah(h:¬j>0):Eu j.toNat ys=ys:=by rw[show j.toNat=0 by omega];rfl
theorem anq(h:ys[i]?=some x):ys.getD i 0=x:=by rw[List.getD_eq_getElem?_getD,h];rfl
theorem aai(hj:j>0)(hx:ys[j.toNat]?=some x) (hy:ys[(j-1).toNat]?=some y) (h:¬RL x y <0):Eu j.toNat ys=ys:=by
 have e:j.toNat=(j-1).toNat+1:=by omega
 rw[e] at hx ⊢
 rw[Eu,anq hx,anq hy,if_neg h]
theorem Xu{x' y':Int}(hj:j>0)(hx:ys[j.toNat]?=some x) (hy:ys[(j-1).toNat]?=some y) (lU:ys[j.toNat]?=some x') (hy':ys[(j-1).toNat]?=some y') (h:RL x y <0):Eu j.toNat ys=Eu (j-1).toNat ((ys.set j.toNat y').set (j-1).toNat x'):=by
 rw[hx] at lU;rw[hy] at hy';cases lU;cases hy'
 have e:j.toNat=(j-1).toNat+1:=by omega
 rw[e] at hx ⊢
 rw[Eu,anq hx,anq hy,if_pos h]
def Oa(v:Value)(xs:List Int)(Y:Cells):Prop:=∃ys,ys=Du xs∧az v 1 120 SG ys Y
theorem S8{i:Int}(h:Du xs=FT (n-i.toNat) i.toNat ys)(hi:0≤i∧i <n):Du xs=FT (n-(i+1).toNat) (i+1).toNat (Eu i.toNat ys):=by
 rw[h,show n-i.toNat=(n-(i+1).toNat)+1 by omega,show (i+1).toNat=i.toNat+1 by omega];rfl
theorem Zi{i:Int}(h:Du xs=FT (n-i.toNat) i.toNat ys)(hi:¬i <n):ys=Du xs:=by
 rw[h,show n-i.toNat=0 by omega];rfl
theorem aPN{ro:Nat→Option Obj}(hx:0≤x∧x <16)(hy:0≤y∧y <16):dt zT 114 [.int .u8 x,.int .u8 y] ro (zI (RL x y)):=by
 have hpx:=WI hx
 have hpy:=WI hy
 refine bD au [] [] ba<|zD 8<|jp (vs:=[.int .u8 x]) [] [] (fun aC hs hZ=>(apv hx))<|zD 1<|jp (vs:=[.int .u8 y]) [] [] (fun aC hs hZ=>(apv hy))<|ja ((yM x)-(yM y)) (by omega)<|zD 7<|js 12 (!decide (((yM x)-(yM y))=0)) (fun h1=>?_) (fun h1=>?_)
 ·
  replace h1:=of_decide_eq_false (by simpa using h1)
  refine zD 7<|aF q0 (zI ((yM x)-(yM y))) [] [] [] (Sub.refl _) ⟨_,_,rfl,rfl,by rw[RL,if_neg (by omega)],rfl⟩
 replace h1:=of_decide_eq_true (by simpa using h1)
 refine zD 5<|jc (vs:=[.int .u8 x]) [] (ah9) ?_
 rintro v15 L15 ⟨_,aga,rfl⟩
 refine zD 1<|jc (vs:=[.int .u8 y]) [] (ah9) ?_
 rintro v17 L17 ⟨_,Cs,rfl⟩
 refine jp (vs:=[v15,v17]) [1,0] (L15++L17) (fun aC hs hZ=>aQm (aga.kZ hZ.left) (Cs.kZ hZ.right) Qk Qk)<|zD 3<|aF q0 (zI (yl (mj x 4) (mj y 4))) [] [] [] (Sub.refl _) ⟨_,_,rfl,rfl,by rw[RL,if_pos (by omega)],rfl⟩
theorem aPM{v:Value}{L:Cells}{ro:Nat→Option Obj}(ho:az v 1 120 SG xs L)(hN:xs.length≤12)(hM:∀m∈xs,0≤m∧m <16):eG zT 171 [v,zI 0,zI (xs.length:Int),.func (.func 114) ⟨[]⟩ ⟨[]⟩] ro L (fun r Y=>Oa v xs Y):=by
 refine bD au [.l L] [] ba<|zD 7<|dW [1,0,0] [] (fun(zz:Int×(List Int)×Cells)=>[(0,v),(1,zI 0),(2,zI (xs.length:Int)),(3,.func (.func 114) ⟨[]⟩ ⟨[]⟩),(8,zI zz.1)]) (fun(zz:Int×(List Int)×Cells)=>[.l zz.2.2]) (fun(zz:Int×(List Int)×Cells)=>(1≤zz.1)∧az v 1 120 SG zz.2.1 zz.2.2∧zz.2.1.Perm xs∧Du xs=FT (xs.length-zz.1.toNat) zz.1.toNat zz.2.1) (fun(zz:Int×(List Int)×Cells)=>((xs.length:Int)-zz.1).toNat) (⟨1,xs,L⟩) ⟨by dsimp only;omega,ho,.refl _,rfl⟩ [0] ?_
 rintro⟨i,ys,L⟩ hI K1 bK rest
 dsimp only at hI
 have Xw:=hI.2.2.1.length_eq
 have hym:∀m∈ys,0≤m∧m <16:=fun m hm=>hM m (hI.2.2.1.mem_iff.1 hm)
 refine zD 7<|zJ 14 (i <(xs.length:Int)) (fun h1=>?_) fun h1=>?_
 ·
  refine zD 10<|dW [1,0,0,1,0,0,1,0,0] [K1] (fun(zz:Int×(List Int)×Cells)=>[(0,v),(1,zI 0),(2,zI (xs.length:Int)),(3,.func (.func 114) ⟨[]⟩ ⟨[]⟩),(8,zI i),(9,zI zz.1)]) (fun(zz:Int×(List Int)×Cells)=>[.l zz.2.2]) (fun(zz:Int×(List Int)×Cells)=>(0≤zz.1∧zz.1≤i)∧az v 1 120 SG zz.2.1 zz.2.2∧zz.2.1.Perm xs∧Du xs=FT (xs.length-(i+1).toNat) (i+1).toNat (Eu zz.1.toNat zz.2.1)) (fun(zz:Int×(List Int)×Cells)=>zz.1.toNat) (⟨i,ys,L⟩) ⟨by dsimp only;omega,hI.2.1,hI.2.2.1,S8 hI.2.2.2 (by omega)⟩ [0] ?_
  rintro⟨j,ys,L⟩ hJ K2 mr rest
  dsimp only at hJ
  have Xw:=hJ.2.2.1.length_eq
  have hym:∀m∈ys,0≤m∧m <16:=fun m hm=>hM m (hJ.2.2.1.mem_iff.1 hm)
  refine zD 7<|js 3 (decide (j>0)) (fun h2=>?_) (fun h2=>?_)
  ·
   have mI:=h2
   replace mI:=of_decide_eq_true mI
   refine zD 3 ?_
   obtain⟨yq,lH⟩:=zG ys (j.toNat) (by first|omega| (simp only[List.length_set];omega))
   refine pP j 1 hJ.2.1 lH (Int.toNat_of_nonneg (show 0≤j∧j <((ys).length:Int) from (by first|omega| (simp only[List.length_set];omega))).1).symm (fun ee agR=>?_)
   refine nS 0 [0] L (fun s _ hZ=>cm hJ.2.1 agR hZ lH)<|zD 2<|ja (j-1) (by omega) ?_
   obtain⟨ox,ju⟩:=zG ys ((j-1).toNat) (by first|omega| (simp only[List.length_set];omega))
   refine pP (j-1) 1 hJ.2.1 ju (Int.toNat_of_nonneg (show 0≤(j-1)∧(j-1) <((ys).length:Int) from (by first|omega| (simp only[List.length_set];omega))).1).symm (fun b30 UI=>?_)
   refine nS 0 [0] L (fun s _ hZ=>cm hJ.2.1 UI hZ ju)<|aL 14 fun sB sJ q5=>jp (vs:=[.int .u8 yq,.int .u8 ox]) [] [] (fun aC hs hZ=>(aPN (hym _ (List.mem_of_getElem? lH)) (hym _ (List.mem_of_getElem? ju))))<|bB q5 [0]<|zD 3<|zJ 34 ((RL yq ox) <0) (fun h4=>?_) fun h4=>?_
   ·
    refine zD 9<|ja (j-1) (by omega)<|zD 2<|ja (j-1) (by omega) ?_
    obtain⟨pJ,xP⟩:=zG ys ((j-1).toNat) (by first|omega| (simp only[List.length_set];omega))
    refine pP (j-1) 1 hJ.2.1 xP (Int.toNat_of_nonneg (show 0≤(j-1)∧(j-1) <((ys).length:Int) from (by first|omega| (simp only[List.length_set];omega))).1).symm (fun b45 agQ=>?_)
    refine nS 0 [0] L (fun s _ hZ=>cm hJ.2.1 agQ hZ xP)<|zD 2 ?_
    obtain⟨IM,Ez⟩:=zG ys (j.toNat) (by first|omega| (simp only[List.length_set];omega))
    refine pP j 1 hJ.2.1 Ez (Int.toNat_of_nonneg (show 0≤j∧j <((ys).length:Int) from (by first|omega| (simp only[List.length_set];omega))).1).symm (fun b49 agP=>?_)
    refine nS 0 [0] L (fun s _ hZ=>cm hJ.2.1 agP hZ Ez) ?_
    obtain⟨x51,Ey⟩:=zG ys (j.toNat) (by first|omega| (simp only[List.length_set];omega))
    refine pP j 1 hJ.2.1 Ey (Int.toNat_of_nonneg (show 0≤j∧j <((ys).length:Int) from (by first|omega| (simp only[List.length_set];omega))).1).symm (fun b51 agO=>?_)
    refine aL 15 fun sA sI qZ=>Oo 0 0 [.int .u8 pJ] pJ hJ.2.1 agO Ey rfl rfl (Nat.le_of_ble_eq_true rfl) fun L6 Ur=>iu qZ [] ?_
    obtain⟨x52,wm⟩:=zG ((ys.set j.toNat pJ)) ((j-1).toNat) (by first|omega| (simp only[List.length_set];omega))
    refine pP (j-1) 1 Ur wm (Int.toNat_of_nonneg (show 0≤(j-1)∧(j-1) <(((ys.set j.toNat pJ)).length:Int) from (by first|omega| (simp only[List.length_set];omega))).1).symm (fun b52 agN=>?_)
    refine aL 17 fun BG BM CC=>Oo 0 0 [.int .u8 IM] IM Ur agN wm rfl rfl (Nat.le_of_ble_eq_true rfl) fun L9 agc=>dZ CC<|zD 3<|ja (j-1) (by omega)<|zD 2<|bJ mr (⟨(j-1),((ys.set j.toNat pJ).set ((j-1).toNat) IM),L9⟩) ⟨by dsimp only;omega,agc,(nN Ez xP).trans hJ.2.2.1,by dsimp only;rw[hJ.2.2.2,Xu (by omega) lH ju Ez xP (by assumption)]⟩ (by dsimp only;omega) [0] (Sub.refl _)
   refine zD 4<|ja (i+1) (by omega)<|zD 2<|bJ bK (⟨(i+1),ys,L⟩) ⟨by dsimp only;omega,hJ.2.1,hJ.2.2.1,by dsimp only;rw[hJ.2.2.2,aai (by omega) lH ju (by assumption)]⟩ (by dsimp only;omega) [0] (Sub.refl _)
  have mI:=h2
  replace mI:=of_decide_eq_false mI
  refine zD 18<|ja (i+1) (by omega)<|zD 2<|bJ bK (⟨(i+1),ys,L⟩) ⟨by dsimp only;omega,hJ.2.1,hJ.2.2.1,by dsimp only;rw[hJ.2.2.2,aah (by omega)]⟩ (by dsimp only;omega) [0] (Sub.refl _)
 refine zD 2<|aF q0 (.tuple ⟨[]⟩) [] [0] L (Sub.refl _) ⟨_,_,rfl,rfl,ys,Zi hI.2.2.2 (by omega),hI.2.1⟩
theorem an7(h:K.facts.length≤3):IntKind.u8.wrap (aV K+1)=((2^K.facts.length:Nat):Int):=by
 unfold aV
 generalize K.facts.length=n at h
 obtain rfl|rfl|rfl|rfl:n=0∨n=1∨n=2∨n=3:=by omega
 all_goals decide
theorem alh(h:n≤3):2^n≤8:=by
 obtain rfl|rfl|rfl|rfl:n=0∨n=1∨n=2∨n=3:=by omega
 all_goals decide
theorem aze(h:n≤255):Value.int .u8 (IntKind.u8.wrap (n:Int))= .int .u8 (n:Int):=by
 rw[sD .u8 rfl _ (by omega) (by simp[IntKind.bits];omega)]
def pE(n:Nat):List Int:=Du (cD (2^n))
theorem ZC(h:n≤8):∀m∈cD n,0≤m∧m <16:=fun m hm=>by have:=ig hm;omega
theorem aPL{v:Value}{L:Cells}{lim:Int}{ro:Nat→Option Obj}(ho:az v 1 120 SG xs L)(hN:xs.length≤12)(hM:∀m∈xs,0≤m∧m <16):eG zT 151 [v,zI 0,zI (xs.length:Int),zI lim,.func (.func 114) ⟨[]⟩ ⟨[]⟩] ro L (fun r Y=>Oa v xs Y):=by
 refine bD au [.l L] [] ba<|zD 9<|dW [1,1,0,0] [] (fun(zz:Nat)=>[(0,v),(1,zI 0),(2,zI (xs.length:Int)),(3,zI lim),(4,.func (.func 114) ⟨[]⟩ ⟨[]⟩),(10,.bool true),(11,.bool true)]) (fun(zz:Nat)=>[.l L]) (fun(zz:Nat)=>True) (fun(zz:Nat)=>zz) 0 trivial [0] ?_
 rintro z hI K1 bK rest
 refine zD 5<|ja ((xs.length:Int)-0) (by omega)<|zD 8<|zJ 25 (((xs.length:Int)-0)≤12) (fun h1=>?_) fun h1=>?_
 ·
  refine zD 7<|jc (vs:=[v,zI 0,zI (xs.length:Int),.func (.func 114) ⟨[]⟩ ⟨[]⟩]) [0] (aPM ho hN hM) ?_
  rintro az1 Y30 ⟨aLy,auo,wx⟩
  refine zD 2<|aF q0 (.tuple ⟨[]⟩) [] [0] Y30 (Sub.refl _) ⟨_,_,rfl,rfl,_,auo,wx⟩
 exfalso;omega
theorem aBu{v:Value}{L:Cells}{ro:Nat→Option Obj}(ho:az v 1 120 SG xs L)(hN:xs.length≤12)(hM:∀m∈xs,0≤m∧m <16):eG zT 113 [v,.func (.func 114) ⟨[]⟩ ⟨[]⟩] ro L (fun r Y=>Oa v xs Y):=by
 refine bD au [.l L] [] ba<|zD 3<|Co ho<|zD 6<|je (zU (xs.length:Int)) (ab5 (by omega))<|jp (vs:=[zU (xs.length:Int)]) [] [] (fun aC hs hZ=>(awr (by omega)))<|zD 1<|jc (vs:=[v,zI 0,zI (xs.length:Int),zI (aaa xs.length),.func (.func 114) ⟨[]⟩ ⟨[]⟩]) [0] (aPL ho hN hM) ?_
 rintro az2 Y13 ⟨aLA,aat,Ut⟩
 refine zD 1<|aF q0 (.tuple ⟨[]⟩) [] [0] Y13 (Sub.refl _) ⟨_,_,rfl,rfl,_,aat,Ut⟩
theorem aHh{f:Nat}{rows:List bF}{ro:Nat→Option Obj}(hF:pq ro f K rows)(hV:fe K)(hn3:K.facts.length≤3):eG zT 80 [zP f] ro [] (fun r Y=>∃L,az r 1 120 SG (pE K.facts.length) L∧Y=L):=by
 have hp8:=alh hn3
 refine bD au [] [] ba<|zD 12<|jp (vs:=[zP f]) [] [] (fun aC hs hZ=>Qr hV (hF.up hs))<|je (.int .u8 ((2^K.facts.length:Nat):Int)) (congrArg (Value.int .u8) (an7 hn3))<|zD 3<|oH<|dW [1,1,0,1,0,0] [] (fun(zz:Nat×Value×Cells)=>[(2,zS),(3,zz.2.1),(7,.int .u8 ((2^K.facts.length:Nat):Int)),(8,.int .u8 (zz.1:Int))]) (fun(zz:Nat×Value×Cells)=>[.l zz.2.2]) (fun(zz:Nat×Value×Cells)=>zz.1≤2^K.facts.length∧az zz.2.1 1 120 SG (cD zz.1) zz.2.2) (fun(zz:Nat×Value×Cells)=>2^K.facts.length-zz.1) (⟨0,zS,[]⟩) ⟨Nat.zero_le _,az.nil _ _ _⟩ [0] ?_
 rintro⟨k,v,L⟩ hI K1 bK rest
 dsimp only at hI
 have hrl:=gz k
 refine zD 5<|zJ 9 ((k:Int) <((2^K.facts.length:Nat):Int)) (fun h1=>?_) fun h1=>?_
 ·
  refine zD 12<|jn fun Aa=>jq (sz:=1) (ps:=(cD k)) (qs:=[(k:Int)]) (enc:=SG) (w:= .slice (some ⟨Aa,0,none⟩) 1 1) [1] [0] [(Aa,.cells ⟨([(k:Int)].map SG).flatten⟩ 120 (0,0))] (hI.2) (fun s _ hZ=>bX [(k:Int)] (hZ _ (.head _)) (by intro p hp;rfl)) (fun p _=>aj rfl) (by simp<;>omega) (fun v14 L14 uk=>?_)
  obtain⟨FE,Ee,u7⟩:=uk.form
  subst u7
  refine zD 3<|je (.int .u8 ((k:Int)+1)) (aze (n:=k+1) (by omega))<|zD 2<|bJ bK (⟨k+1,(.slice FE (((cD k)++[(k:Int)])).length Ee),L14⟩) ⟨by dsimp only;omega,by dsimp only;rw[vL];exact uk⟩ (by dsimp only;omega) [0] (Sub.refl _)
 refine zD 5<|jc (vs:=[v,.func (.func 114) ⟨[]⟩ ⟨[]⟩]) [0] (aBu hI.2 (by rw[gz];omega) (ZC (by omega))) ?_
 rintro bct Y17 ⟨bbE,aRs,Cs⟩
 refine zD 7<|aF q0 (v) [] [0] Y17 (Sub.refl _) ⟨_,_,rfl,rfl,_,by rw[pE,show 2^K.facts.length=k by omega,←aRs];exact Cs,rfl⟩
def JB(K:aI)(rows:List bF)(p:Nat→Int):Nat→Bool
 |0=>false
 |i+1=>JB K rows p i||cy K.gone K.new K.af (cw K ((rows[i]?).getD ⟨fun _ _=>false⟩) i p)
theorem YL{rows:List bF}{p:Nat→Int}{r:bF}(h:rows[i]?=some r):JB K rows p (i+1)=(JB K rows p i||cy K.gone K.new K.af (cw K r i p)):=by rw[JB,h];rfl
theorem an6{rows:List bF}{p:Nat→Int}(h:JB K rows p i=true)(hn:i≤n):JB K rows p n=true:=by
 induction n with
 |zero=>rwa[show i=0 by omega] at h
 |succ n ih=>
  by_cases e:i=n+1
  ·rwa[e] at h
  rw[JB,ih (by omega),Bool.true_or]
def aba(K:aI)(rows:List bF)(on:Int):Bool:=(aO K on).any fun p=>JB K rows p rows.length
theorem ai8{f:α→Bool}{l:List α}{x:α}(h:l[k]?=some x) (h1:(l.take k).any f=false) (h2:f x=false):(l.take (k+1)).any f=false:=by
 rw[jJ h,List.any_append,h1,List.any_cons,h2];rfl
theorem aVo{f:Nat}{rows:List bF}{on:Int}{ro:Nat→Option Obj}(hF:pq ro f K rows)(hV:fe K)(hR:rows.length≤1000):eG zT 57 [zP f,.int .u8 on] ro [] (fun r Y=>r= .bool (aba K rows on)∧Y=[]):=by
 obtain⟨c0,c1,c2,vc,vh,vr,vb,va,vf,vt,hv,hf,p9,nC,hr,Cy,Hk,Jo,bU⟩:=id hF
 obtain⟨hc,hh,de⟩:=id p9
 obtain⟨eI,Ax,Aw,eB,rfl,Dy,yJ,yI⟩:=hc
 obtain⟨dO,u3,u2,dv,rfl,xg,qV,qU⟩:=hh
 obtain⟨k8,Is,Ir,k7,rfl,Ol,F8,F7⟩:=hr
 obtain⟨kI,IZ,IX,jY,rfl,IY,Em,Ek⟩:=Cy
 obtain⟨kJ,I4,I2,jZ,rfl,I3,Eo,En⟩:=Hk
 obtain⟨mE,TA,Ty,lE,rfl,Tz,MB,MA⟩:=Jo
 obtain⟨nM,Ej,Ei,nt,rfl,Py,Mx,Mw⟩:=bU
 have Sv:=hV.rules.1
 have AS:=hV.before.1
 have DM:=hV.after.1
 have hnf:=hV.facts.1
 refine aml au [] [] ba<|zD 2<|jn fun b2=>zD 5<|jn fun b5=>jd 9 [0,1]<|jc (vs:=[zP f,.int .u8 on]) [] (KM (on:=on) hF hV) ?_
 rintro _ _ ⟨q1,q2,q3,q4,rfl,rfl⟩
 refine jg 0 [.b q1 (.cells ⟨[zP f]⟩ 104 (0,0)),.b q2 (.cells ⟨[.func (.func 127) ⟨[]⟩ ⟨[zP q1,zP q4]⟩]⟩ 221 (0,0)),.b q3 (.cells ⟨[.bool (dk K on 0 0),.bool (dk K on 0 1),.bool (dk K on 0 2),.bool (dk K on 0 3),.bool (dk K on 1 0),.bool (dk K on 1 1),.bool (dk K on 1 2),.bool (dk K on 1 3),.bool (dk K on 2 0),.bool (dk K on 2 1),.bool (dk K on 2 2),.bool (dk K on 2 3),.bool (dk K on 3 0),.bool (dk K on 3 1),.bool (dk K on 3 2),.bool (dk K on 3 3)]⟩ 159 (0,0)),.b q4 (.cells ⟨[.int .u8 on]⟩ 120 (0,0))]<|jf [0,1,2,3,5] ((q1,.cells ⟨[zP f]⟩ 104 (0,0))::((q2,.cells ⟨[.func (.func 127) ⟨[]⟩ ⟨[zP q1,zP q4]⟩]⟩ 221 (0,0))::((q3,.cells ⟨[.bool (dk K on 0 0),.bool (dk K on 0 1),.bool (dk K on 0 2),.bool (dk K on 0 3),.bool (dk K on 1 0),.bool (dk K on 1 1),.bool (dk K on 1 2),.bool (dk K on 1 3),.bool (dk K on 2 0),.bool (dk K on 2 1),.bool (dk K on 2 2),.bool (dk K on 2 3),.bool (dk K on 3 0),.bool (dk K on 3 1),.bool (dk K on 3 2),.bool (dk K on 3 3)]⟩ 159 (0,0))::((q4,.cells ⟨[.int .u8 on]⟩ 120 (0,0))::[(b2,.cells ⟨[zP f]⟩ 104 (0,0))])))) fun yH bY iU=>zD 2<|jrf [] (Xo (on:=on) (hF.up bY) hV (iU _ (.head _)) (iU _ (.tail _ (.head _))) (iU _ (.tail _ (.tail _ (.head _)))) (iU _ (.tail _ (.tail _ (.tail _ (.head _)))))) (by rintro _ _ _ _ ⟨_,_,rfl,_⟩;rfl) (fun(zz:Bool)=>[.b b5 (.cells ⟨[.bool zz]⟩ 4 (0,0))]) (fun kk=>(fun(zz:Bool)=>zz=false∧(((aO K on).take kk).any fun p=>JB K rows p rows.length)=false)) (fun jump=>(fun(zz:Bool)=>jump= .exit 0∧zz=true∧aba K rows on=true)) false ⟨rfl,rfl⟩ [0] ?_ ?_ ?_
 ·
  rintro bl4 bd4 kk4 vs4 LL4 bo ro4 hk4 avf hI kF
  obtain⟨p4,hp4,rfl,rfl⟩:=avf
  have hpb:=(gi hV on).2 p4 (List.mem_of_getElem? hp4)
  refine zD 1<|jn fun b6=>jd 2 [0]<|aBX<|zD 3<|jl (b:=b2) (off:=0) (m:=1) (vs:=[zP f]) 0 ⟨_,_,_,.inl (kF _ _ (iU _ (.tail _ (.tail _ (.tail _ (.tail _ (.head _))))))),rfl⟩<|zD 2<|jl (b:=f) (off:=0) (m:=13) (vs:=[c0,c1,c2,.slice eI K.cs.length eB,.slice dO hv.length dv,.slice k8 K.rules.length k7,.slice kI K.before.length jY,.slice kJ K.after.length jZ,zI K.gone,zI K.new,zI K.af,.slice mE K.facts.length lE,.slice nM rows.length nt]) 12 ⟨_,_,_,.inl (kF _ _ (bY _ _ hf)),rfl⟩<|zD 4<|aP9 [1] [1,0,1,1,0,1,0,3,0,1,0,0] [] (fun(zz:Nat×Bool)=>[(2,zP b2),(4,.bool false),(5,zP b5),(6,zP b6),(16,zI (rows.length:Int)),(17,zI (zz.1:Int))]) (fun(zz:Nat×Bool)=>[.b b5 (.cells ⟨[.bool zz.2]⟩ 4 (0,0)),.b b6 (.cells ⟨[zI (p4 0),zI (p4 1),zI (p4 2),zI (p4 3)]⟩ 113 (0,0))]) (fun(zz:Nat×Bool)=>zz.1≤rows.length∧zz.2=false∧JB K rows p4 zz.1=false) (fun(zz:Nat×Bool)=>rows.length-zz.1) (⟨0,bo⟩) ⟨Nat.zero_le _,hI.1,rfl⟩ [2,0,1] ?_
  rintro⟨i,bo⟩ hJ K1 bK rest
  dsimp only at hJ
  refine zD 5<|zJ 18 ((i:Int) <(rows.length:Int)) (fun h5=>?_) fun h5=>?_
  ·
   refine zD 5 ?_
   obtain⟨r_,Cp⟩:∃r_,rows[i]?=some r_:=⟨_,List.getElem?_eq_getElem (by omega)⟩
   refine zD 6<|jl (b:=b2) (off:=0) (m:=1) (vs:=[zP f]) 0 ⟨_,_,_,.inl (kF _ _ (iU _ (.tail _ (.tail _ (.tail _ (.tail _ (.head _))))))),rfl⟩<|jl (b:=b2) (off:=0) (m:=1) (vs:=[zP f]) 0 ⟨_,_,_,.inl (kF _ _ (iU _ (.tail _ (.tail _ (.tail _ (.tail _ (.head _))))))),rfl⟩<|jd 2 [1]<|jp (vs:=[zP f,zI (i:Int),.agg ⟨[zI (p4 0),zI (p4 1),zI (p4 2),zI (p4 3)]⟩]) [] [] (fun aC hs hZ=>apw (hF.up (Sub.trans (bY.trans kF) hs)) hV Cp hpb)<|jp (vs:=[zP f,.agg ⟨[zI ((cw K r_ i p4).past),zI ((cw K r_ i p4).w0),zI ((cw K r_ i p4).w1),zI ((cw K r_ i p4).w2),zI ((cw K r_ i p4).w3),zI ((cw K r_ i p4).gone),zI ((cw K r_ i p4).new),zI ((cw K r_ i p4).af)]⟩]) [] [] (fun aC hs hZ=>ae7 (x:=(cw K r_ i p4)) (hs _ _ (kF _ _ (bY _ _ hf))))<|aL 6 fun Ac Aj zd=>jd 1 [0]<|dZ zd<|jd 5 [0]<|js 26 (cy K.gone K.new K.af (cw K r_ i p4)) (fun h7=>?_) (fun h7=>?_)
   ·
    refine zD 2<|jys ZF (Sub.refl _) (.exit 0) (cy K.gone K.new K.af (cw K r_ i p4)) ⟨rfl,by assumption,List.any_eq_true.2 ⟨p4,List.mem_of_getElem? hp4,an6 (i:=i+1) (by rw[YL Cp];simp[*]) (by omega)⟩⟩ [2,0]
   refine zD 3<|ja ((i:Int)+1) (by omega)<|zD 2<|bJ bK (⟨i+1,(cy K.gone K.new K.af (cw K r_ i p4))⟩) ⟨by dsimp only;omega,by assumption,by dsimp only;rw[YL Cp,hJ.2.2,Bool.false_or];assumption⟩ (by dsimp only;omega) [0,1,2] (Sub.refl _)
  refine zD 2<|jyn ZF (Sub.refl _) bo ⟨hJ.2.1,ai8 hp4 hI.2 (by have:=hJ.2.2;rwa[show i=rows.length by omega] at this)⟩ [2,0]
 ·
  rintro bd4 bo Z4 hI hZ4
  subst hZ4
  refine jd 6 [2]<|jrM qm0.a.m (.bool bo) [0] [] [] [] bY ⟨by have:=hI.2;rw[List.take_of_length_le (Nat.le_refl _)] at this;rw[hI.1,aba,this],rfl⟩
 rintro bd4 bo Z4 jump hS hZ4
 obtain⟨rfl,hS⟩:=hS
 subst hZ4
 refine jd 6 [2]<|jrM qm0.a.m (.bool bo) [0] [] [] [] bY ⟨by rw[hS.1,hS.2],rfl⟩
def iAn(k:IntKind)(a b:Int):Int:=k.wrap (BitVec.ofInt k.bits a&&& ~~~ BitVec.ofInt k.bits b).toNat
theorem as0:pE 0=[0]:=by kernel_rfl
theorem asZ:pE 1=[0,1]:=by kernel_rfl
theorem asY:pE 2=[0,1,2,3]:=by kernel_rfl
theorem asX:pE 3=[0,1,2,4,3,5,6,7]:=by kernel_rfl
theorem aey(h:n≤3):(pE n).length≤8∧∀m∈pE n,0≤m∧m <16:=by
 obtain rfl|rfl|rfl|rfl:n=0∨n=1∨n=2∨n=3:=by omega
 ·rw[as0];decide
 ·rw[asZ];decide
 ·rw[asY];decide
 rw[asX];decide
def LW(K:aI)(rows:List bF):Option Int:=(pE K.facts.length).find? fun m=>aba K rows (iAn .u8 (aV K) m)
theorem Yk{p:α→Bool}{l:List α}{x:α}(hx:l[k]?=some x):(l.drop k).find? p=bif p x then some x else (l.drop (k+1)).find? p:=by rw[fF hx,List.find?_cons];cases p x<;>rfl
theorem ah3{p:α→Bool}{l:List α}(hx:¬k <l.length):(l.drop k).find? p=none:=by rw[eL hx];rfl
theorem ata{rows:List bF}{ro:Nat→Option Obj}(hK:fP ro l K)(hV:fe K)(hR:rows.length≤2)(hB:ia ro l K rows)(hn3:K.facts.length≤3):eG zT 37 [.agg ⟨l⟩] ro [] (fun r Y=>∃v e,r= .tuple ⟨[v,zI e]⟩∧((∃m,LW K rows=some m∧az v 1 3 cA (mj m 4) Y∧e=0)∨(LW K rows=none∧v= zS∧e=11∧Y=[]))):=by
 obtain⟨v0,v1,v3,v4,v5,v6,v7,vb,fa,fc,hv,rfl,_⟩:=hK
 have QQ:=aey hn3
 have Uw:=QQ.1
 refine bD au [] [] ba<|zD 2<|jn fun b1=>jd 6 [0]<|jc (vs:=[.agg ⟨[v0,v1,.slice fa 0 fc,v3,v4,v5,v6,v7,zI K.gone,zI K.new,zI K.af,vb]⟩]) [] (hB _ (Sub.refl _)) ?_
 rintro _ Y10 ⟨f10,rfl,awc⟩
 refine zD 5<|jf [0] Y10 (fun yH bY iU=>?_)
 have CH:=awc _ bY iU
 refine zD 13<|jc (vs:=[zP f10]) [] (aHh CH hV hn3) ?_
 rintro v17 L17 ⟨_,Cs,rfl⟩
 refine Co Cs<|zD 3<|dW [1,1,1,0,1,0,0] [] (fun(zz:Nat)=>[(4,zP f10),(17,v17),(18,zI ((pE K.facts.length).length:Int)),(19,zI (zz:Int))]) (fun(zz:Nat)=>[.l L17,.b b1 (.cells ⟨[v0,v1,.slice fa 0 fc,v3,v4,v5,v6,v7,zI K.gone,zI K.new,zI K.af,vb]⟩ 40 (0,0))]) (fun(zz:Nat)=>zz≤(pE K.facts.length).length∧LW K rows=((pE K.facts.length).drop zz).find? (fun m=>aba K rows (iAn .u8 (aV K) m))) (fun(zz:Nat)=>(pE K.facts.length).length-zz) 0 ⟨Nat.zero_le _,rfl⟩ [0,1] ?_
 rintro k hI K1 bK rest
 refine zD 5<|zJ 20 ((k:Int) <((pE K.facts.length).length:Int)) (fun h4=>?_) fun h4=>?_
 ·
  refine zD 6 ?_
  obtain⟨yt,qu⟩:=zG ((pE K.facts.length)) k (by first|omega| (simp only[List.length_set,List.length_append,List.length_cons,List.length_nil];omega))
  refine T5 1 Cs qu fun b21 aTF=>nS 0 [0] L17 (fun s _ hZ=>cm Cs aTF hZ qu)<|zD 6<|jp (vs:=[zP f10]) [] [] (fun aC hs hZ=>Qr hV (CH.up hs))<|zD 1<|je (.int .u8 (iAn .u8 (aV K) yt)) rfl<|jc (vs:=[zP f10,.int .u8 (iAn .u8 (aV K) yt)]) [] (aVo CH hV (by omega)) ?_
  rintro _ _ ⟨rfl,rfl⟩
  refine jg 0 []<|zD 1<|js 28 (aba K rows (iAn .u8 (aV K) yt)) (fun h5=>?_) (fun h5=>?_)
  ·
   refine zD 4<|jc (vs:=[.int .u8 yt]) [] (ah9) ?_
   rintro v30 L30 ⟨_,wx,rfl⟩
   refine zD 4<|aF q0.a (.tuple ⟨[v30,zI 0]⟩) [] [0] L30 bY ⟨_,_,rfl,rfl,_,_,rfl,.inl ⟨_,by rw[hI.2,Yk qu];simp only[*,cond_true],wx,rfl⟩⟩
  refine zD 3<|ja ((k:Int)+1) (by omega)<|zD 2<|bJ bK (k+1) ⟨by omega,by rw[hI.2,Yk qu];simp only[*,cond_false]⟩ (by omega) [0,1] (Sub.refl _)
 refine zD 8<|aF q0.a (.tuple ⟨[zS,zI 11]⟩) [] [] [] bY ⟨_,_,rfl,rfl,_,_,rfl,.inr ⟨by rw[hI.2,ah3 (by omega)],rfl,rfl,rfl⟩⟩
theorem M4{f:Nat}{rows:List bF}{ro:Nat→Option Obj}(hF:pq ro f K rows)(hV:fe K)(hR:rows.length≤2):BF zT 45 [zP f] ro [] (fun r Y=>∃zs v e,r= .tuple ⟨[v,zI e]⟩∧zs.Perm (cR K (aV K) (cy K.gone K.new K.af) rows)∧az v 8 115 cu zs Y∧((zs=[]∧e=9)∨(zs≠[]∧e=0))):=by
 refine yW au [] [] ba fun fr=>zD 9<|jp (vs:=[zP f]) [] [] (fun aC hs hZ=>Qr hV (hF.up hs))<|Jb (vs:=[zP f,.int .u8 (aV K)]) [] (fun _ _ h=>h) (Xn hV hF hR) ?_
 rintro v8 Y8 ⟨zs,hz,ho8⟩
 refine zD 6<|Co ho8<|zD 2<|zJ 11 ((zs.length:Int)=0) (fun h1=>?_) fun h1=>?_
 ·
  refine zD 7<|Ja qC (.tuple ⟨[zS,zI 9]⟩) [1] [] (Sub.refl _) ⟨zs,_,_,rfl,hz,by rw[show zs=[] from List.eq_nil_of_length_eq_zero (by omega)];exact az.nil _ _ _,.inl ⟨List.eq_nil_of_length_eq_zero (by omega),rfl⟩⟩
 refine zD 9<|Ja qC (.tuple ⟨[v8,zI 0]⟩) [0,1] Y8 (Sub.refl _) ⟨zs,_,_,rfl,hz,ho8,.inr ⟨fun e=>by subst e;simp at*,rfl⟩⟩
theorem Xp{rows:List bF}{ro:Nat→Option Obj}(hK:fP ro l K)(hV:fe K)(hR:rows.length≤2)(hB:ia ro l K rows):axd zT 82 [.agg ⟨l⟩] ro [] (fun r aC Y=>∃f zs v e,r= .tuple ⟨[pV f,v,zI e]⟩∧pq aC f K rows∧zs.Perm (cR K (aV K) (cy K.gone K.new K.af) rows)∧az v 8 115 cu zs Y∧((zs=[]∧e=9)∨(zs≠[]∧e=0))):=by
 obtain⟨v0,v1,v3,v4,v5,v6,v7,vb,fa,fc,hv,rfl,_⟩:=hK
 refine aBU (hm:=au) [] [] ba fun fr=>zD 2<|jn fun b1=>jd 7 [0]<|jc (vs:=[.agg ⟨[v0,v1,.slice fa 0 fc,v3,v4,v5,v6,v7,zI K.gone,zI K.new,zI K.af,vb]⟩]) [] (hB _ (Sub.refl _)) ?_
 rintro _ Y10 ⟨f10,rfl,awc⟩
 refine zD 5<|jf [0] Y10 (fun yH bY iU=>?_)
 have CH:=awc _ bY iU
 refine zD 12<|Jb (vs:=[zP f10]) [] (fun _ _ h=>h) (M4 CH hV hR) ?_
 rintro _ Y18 ⟨zs,v18,e18,rfl,hz,aav,he⟩
 refine zD 16<|aP2 qC.a (.tuple ⟨[zP f10,v18,zI e18]⟩) [0,2] Y18 bY ⟨f10,zs,v18,e18,rfl,CH,hz,aav,he⟩
theorem al9{x:ai}{ro:Nat→Option Obj}:dt zT 76 [.agg ⟨[zI x.past,zI x.w0,zI x.w1,zI x.w2,zI x.w3,zI x.gone,zI x.new,zI x.af]⟩] ro (zI x.af):=by
 refine bD au [] [] ba<|zD 2<|jn fun b1=>jd 9 [0]<|aF q0 (zI x.af) [] [] [] (Sub.refl _) ⟨_,_,rfl,rfl,rfl,rfl⟩
theorem ae0{rows:List bF}{ro:Nat→Option Obj}(hK:fP ro l K)(hV:fe K)(hR:rows.length≤2)(hB:ia ro l K rows):BF zT 75 [.agg ⟨l⟩,.func (.func 76) ⟨[]⟩ ⟨[]⟩] ro [] (fun r Y=>∃zs a b e,zs.Perm (cR K (aV K) (cy K.gone K.new K.af) rows)∧Y=[]∧r= .tuple ⟨[.agg ⟨[zI a,zI b]⟩,zI e]⟩∧((zs=[]∧a=0∧b=0∧e=9)∨(zs≠[]∧a=u4 (zs.map fun x=>x.af)∧b=Cf (zs.map fun x=>x.af)∧e=0))):=by
 obtain⟨v0,v1,v3,v4,v5,v6,v7,vb,fa,fc,hv,rfl,_⟩:=id hK
 refine yW au [] [] ba fun fr=>zD 2<|jn fun b2=>jn fun b4=>jd 5 [1]<|amo (vs:=[.agg ⟨[v0,v1,.slice fa 0 fc,v3,v4,v5,v6,v7,zI K.gone,zI K.new,zI K.af,vb]⟩]) [] (fun _ _ h=>h) (Xp hK hV hR hB) ?_
 rintro _ aC Y14 bY ⟨f14,zs,v14,NO,rfl,CH,hz,Us,he⟩
 have Ji:∀x∈zs,(-4≤x.gone∧x.gone≤4)∧(-4≤x.new∧x.new≤4)∧(0≤x.af∧x.af≤4):=fun x hx=>by obtain⟨i,r,p,_,_,rfl,_⟩:=eR (hz.mem_iff.1 hx);exact kN hV r i p
 have Ua:zs.length≤1250:=by rw[hz.length_eq];exact lJ hV _ _ hR
 refine zD 7<|jf [0] Y14 (fun ro4 oU XS=>?_)
 have UL:=Us.kZ XS
 obtain⟨mP,B1,BZ,lR,rfl,B0,yL,yK⟩:=UL
 refine zD 7<|js 19 (!decide (NO=0)) (fun h5=>?_) (fun h5=>?_)
 ·
  replace h5:=of_decide_eq_false (by simpa using h5)
  have oV:zs=[]∧NO=9:=by rcases he with h| ⟨_,h⟩;exact h;omega
  refine jd 9 [0]<|atD qC.a.a (.tuple ⟨[.agg ⟨[zI 0,zI 0]⟩,zI NO]⟩) [0] [2] [] (bY.trans oU) ⟨zs,_,_,_,hz,rfl,rfl,.inl ⟨oV.1,rfl,rfl,oV.2⟩⟩
 replace h5:=of_decide_eq_true (by simpa using h5)
 have oV:zs≠[]∧NO=0:=by rcases he with ⟨_,h⟩|h;omega;exact h
 have hzp:0 <zs.length:=List.length_pos_iff.2 oV.1
 refine zD 14<|oH<|dW [1,1,1,1,0,1,0,0] [] (fun(zz:Nat×Value×Cells)=>[(1,.func (.func 76) ⟨[]⟩ ⟨[]⟩),(4,zP b4),(5,zI 0),(9,zz.2.1),(22,.slice mP zs.length lR),(23,zI (zs.length:Int)),(24,zI (zz.1:Int))]) (fun(zz:Nat×Value×Cells)=>[.l zz.2.2,.b b4 (.cells ⟨[zI 0,zI 0]⟩ 93 (0,0)),.b b2 (.cells ⟨[v0,v1,.slice fa 0 fc,v3,v4,v5,v6,v7,zI K.gone,zI K.new,zI K.af,vb]⟩ 40 (0,0)),.l fr]) (fun(zz:Nat×Value×Cells)=>zz.1≤zs.length∧az zz.2.1 1 3 cA ((zs.take zz.1).map fun x=>x.af) zz.2.2) (fun(zz:Nat×Value×Cells)=>zs.length-zz.1) (⟨0,zS,[]⟩) ⟨by dsimp only;omega,az.nil _ _ _⟩ [0,1,2,3] ?_
 rintro⟨k,vS,LS⟩ hI K1 bK rest
 dsimp only at hI
 refine zD 5<|zJ 25 ((k:Int) <(zs.length:Int)) (fun h6=>?_) fun h6=>?_
 ·
  refine zD 6 ?_
  obtain⟨SL,aao⟩:=zG zs k
  refine iA lR 8 yL aao<|jl 0 (yK _ _ aao)<|jn fun SH=>jd 6 [0,0]<|jp (vs:=[.agg ⟨[zI SL.past,zI SL.w0,zI SL.w1,zI SL.w2,zI SL.w3,zI SL.gone,zI SL.new,zI SL.af]⟩]) [] [] (fun aC hs hZ=>(al9 (x:=SL)))<|jn fun b32=>jq (sz:=1) (ps:=((zs.take k).map fun x=>x.af)) (qs:=[SL.af]) (enc:=cA) (w:= .slice (some ⟨b32,0,none⟩) 1 1) [2] [0] [(b32,.cells ⟨([SL.af].map cA).flatten⟩ 3 (0,0))] (hI.2) (fun s _ hZ=>bX [SL.af] (hZ _ (.head _)) (by intro p hp;rfl)) (fun p _=>aj rfl) (by simp only[List.length_map,List.length_take,List.length_cons,List.length_nil];omega) (fun v33 L33 afW=>?_)
  obtain⟨aMt,aL8,aSL⟩:=afW.form
  subst aSL
  refine zD 3<|ja ((k:Int)+1) (by omega)<|zD 2<|bJ bK (⟨k+1,(.slice aMt ((((zs.take k).map fun x=>x.af)++[SL.af])).length aL8),L33⟩) ⟨by dsimp only;omega,by rw[jJ aao,List.map_append];exact afW⟩ (by dsimp only;omega) [0,3,4,5] (Sub.refl _)
 refine zD 5<|jp (vs:=[vS]) [0] LS (fun aC hs hZ=>apu (hI.2.kZ hZ) ⟨by simp only[List.length_map,List.length_take];omega,by simp only[List.length_map,List.length_take];omega⟩) ?_
 refine jd 4 [1]<|atD qC.a.a (.tuple ⟨[.agg ⟨[zI (u4 ((zs.take k).map fun x=>x.af)),zI (Cf ((zs.take k).map fun x=>x.af))]⟩,zI 0]⟩) [1] [3] [] (bY.trans oU) ⟨zs,_,_,_,hz,rfl,rfl,.inr ⟨oV.1,by rw[show k=zs.length by omega,List.take_length],by rw[show k=zs.length by omega,List.take_length],rfl⟩⟩
theorem atu{rows:List bF}{ro:Nat→Option Obj}(hK:fP ro l K)(hV:fe K)(hR:rows.length≤2)(hB:ia ro l K rows):BF zT 35 [.agg ⟨l⟩] ro [] (fun r Y=>∃zs a b e,zs.Perm (cR K (aV K) (cy K.gone K.new K.af) rows)∧Y=[]∧r= .tuple ⟨[.agg ⟨[zI a,zI b]⟩,zI e]⟩∧((zs=[]∧a=0∧b=0∧e=9)∨(zs≠[]∧a=u4 (zs.map fun x=>x.af)∧b=Cf (zs.map fun x=>x.af)∧e=0))):=by
 obtain⟨v0,v1,v3,v4,v5,v6,v7,vb,fa,fc,hv,rfl,_⟩:=id hK
 refine yW au [] [] ba fun fr=>zD 2<|jn fun b1=>jn fun b2=>jd 5 [1]<|Jb (vs:=[.agg ⟨[v0,v1,.slice fa 0 fc,v3,v4,v5,v6,v7,zI K.gone,zI K.new,zI K.af,vb]⟩,.func (.func 76) ⟨[]⟩ ⟨[]⟩]) [] (fun _ _ h=>h) (ae0 hK hV hR hB) ?_
 rintro _ _ ⟨zs,a5,c5,e5,hz,rfl,rfl,he⟩
 refine jg 0 []<|jd 6 [0]<|atD qC (.tuple ⟨[.agg ⟨[zI a5,zI c5]⟩,zI e5]⟩) [0] [2] [] (Sub.refl _) ⟨zs,_,_,_,hz,rfl,rfl,he⟩
theorem att{a b:Int}{ro:Nat→Option Obj}:dt zT 65 [zI a,zI b] ro (.bool (decide (a=b))):=by
 refine bD au [] [] ba<|zD 12<|aF q0 (.bool (decide (a=b))) [] [] [] (Sub.refl _) ⟨_,_,rfl,rfl,rfl,rfl⟩
theorem aHB{a b:Int}{s:Bool}{ro:Nat→Option Obj}:dt zT 39 [zI a,zI b,.bool s] ro (.agg ⟨[zI a,zI b,.bool s]⟩):=by
 refine bD au [] [] ba<|zD 2<|jn fun b6=>jd 10 [0]<|aF q0 (.agg ⟨[zI a,zI b,.bool s]⟩) [0] [] [] (Sub.refl _) ⟨_,_,rfl,rfl,rfl,rfl⟩
theorem kA{w:ByteArray}{a b c:Int}{ro:Nat→Option Obj}:dt zT 74 [.string w,zI a,zI b,zI c] ro (.agg ⟨[.string w,zI a,zI b,zI c,.bool false]⟩):=by
 refine bD au [] [] ba<|zD 2<|jn fun b8=>jd 11 [0]<|aF q0 (.agg ⟨[.string w,zI a,zI b,zI c,.bool false]⟩) [0] [] [] (Sub.refl _) ⟨_,_,rfl,rfl,rfl,rfl⟩
theorem aHC{w:ByteArray}{a:Int}{ro:Nat→Option Obj}:dt zT 73 [.string w,zI a] ro (.agg ⟨[.string w,zI (-1),zI a,(zS)]⟩):=by
 refine bD au [] [] ba<|zD 2<|jn fun b4=>jd 9 [0]<|aF q0 (.agg ⟨[.string w,zI (-1),zI a,zS]⟩) [0] [] [] (Sub.refl _) ⟨_,_,rfl,rfl,rfl,rfl⟩
theorem cIs{w:ByteArray}{a:Int}{va:Option Addr}{vn vc:Nat}{ro:Nat→Option Obj}:dt zT 72 [.string w,zI a,(.slice va vn vc)] ro (.agg ⟨[.string w,zI a,zI (-1),(.slice va vn vc)]⟩):=by
 refine bD au [] [] ba<|zD 2<|jn fun b6=>jd 10 [0]<|aF q0 (.agg ⟨[.string w,zI a,zI (-1),(.slice va vn vc)]⟩) [0] [] [] (Sub.refl _) ⟨_,_,rfl,rfl,rfl,rfl⟩
def Vq:List bO:=[⟨(bs [102,111,111,100]),-1⟩,⟨(bs [98,114,101,97,100]),0⟩,⟨(bs [99,108,111,116,104]),-1⟩,⟨(bs [104,97,116,115]),2⟩]
def C2:List cv:=[⟨(bs [98,97,107,101,114]),1,-1,[]⟩,⟨(bs [98,111,110,110,101,116,115]),-1,3,[]⟩,⟨(bs [99,111,110,102,101,99,116,105,111,110,101,114]),0,-1,[0]⟩,⟨(bs [104,97,116,116,101,114]),3,-1,[]⟩,⟨(bs [109,101,114,99,101,114]),2,-1,[3]⟩,⟨(bs [109,105,108,108,105,110,101,114]),-1,1,[]⟩]
def NU:List ay:=[⟨(bs [115,109,105,116,104]),0,1,0,false⟩,⟨(bs [97,110,110,97]),0,2,3,false⟩,⟨(bs [115,109,121,116,104]),1,1,2,false⟩]
def NW:List ay:=[⟨(bs [115,109,121,116,104]),0,2,0,false⟩,⟨(bs [115,109,105,116,104]),1,1,-1,false⟩,⟨(bs [98,101,110]),0,1,4,false⟩]
abbrev aU(n:Int):aI where
 ways:=[[⟨1,0,0,0,0,0,0⟩,⟨2,0,0,0,0,0,0⟩]]
 cs:=Vq
 hd:=C2
 rules:=[⟨(bs [121]),(bs [105])⟩]
 before:=NU
 after:=NW
 gone:=1
 new:=1
 af:=n
 facts:=[]
 str:=[[⟨1,0⟩,⟨2,0⟩],[⟨1,0⟩]]
abbrev dG(ee fT b9 fG dM dz dw:Nat)(n:Int):List Value:=[.slice (some ⟨ee,0,none⟩) 2 2,.slice (some ⟨fT,0,none⟩) 1 1,zS,.slice (some ⟨b9,0,none⟩) 4 4,.slice (some ⟨fG,0,none⟩) 6 6,.slice (some ⟨dM,0,none⟩) 1 1,.slice (some ⟨dz,0,none⟩) 3 3,.slice (some ⟨dw,0,none⟩) 3 3,zI 1,zI 1,zI n,zS]
abbrev dJ(ee nq mz fT oW b9 fG jQ mA dM dz dw:Nat):Cells:=[(ee,.cells ⟨[.slice (some ⟨nq,0,none⟩) 2 2,.slice (some ⟨mz,0,none⟩) 1 1]⟩ 74 (0,0)),(nq,.cells ⟨[zI 1,zI 0,zI 2,zI 0]⟩ 73 (0,0)),(mz,.cells ⟨[zI 1,zI 0]⟩ 73 (0,0)),(fT,.cells ⟨[.slice (some ⟨oW,0,none⟩) 2 2]⟩ 81 (0,0)),(oW,.cells ⟨[zI 1,zI 0,zI 0,zI 0,zI 0,zI 0,zI 0,zI 2,zI 0,zI 0,zI 0,zI 0,zI 0,zI 0]⟩ 77 (0,0)),(b9,.cells ⟨[.string (bs [102,111,111,100]),zI (-1),.string (bs [98,114,101,97,100]),zI 0,.string (bs [99,108,111,116,104]),zI (-1),.string (bs [104,97,116,115]),zI 2]⟩ 140 (0,0)),(fG,.cells ⟨[.string (bs [98,97,107,101,114]),zI 1,zI (-1),zS,.string (bs [98,111,110,110,101,116,115]),zI (-1),zI 3,zS,.string (bs [99,111,110,102,101,99,116,105,111,110,101,114]),zI 0,zI (-1),.slice (some ⟨jQ,0,none⟩) 1 1,.string (bs [104,97,116,116,101,114]),zI 3,zI (-1),zS,.string (bs [109,101,114,99,101,114]),zI 2,zI (-1),.slice (some ⟨mA,0,none⟩) 1 1,.string (bs [109,105,108,108,105,110,101,114]),zI (-1),zI 1,zS]⟩ 143 (0,0)),(jQ,.cells ⟨[zI 0]⟩ 3 (0,0)),(mA,.cells ⟨[zI 3]⟩ 3 (0,0)),(dM,.cells ⟨[.string (bs [121]),.string (bs [105])]⟩ 84 (0,0)),(dz,.cells ⟨[.string (bs [115,109,105,116,104]),zI 0,zI 1,zI 0,.bool false,.string (bs [97,110,110,97]),zI 0,zI 2,zI 3,.bool false,.string (bs [115,109,121,116,104]),zI 1,zI 1,zI 2,.bool false]⟩ 44 (0,0)),(dw,.cells ⟨[.string (bs [115,109,121,116,104]),zI 0,zI 2,zI 0,.bool false,.string (bs [115,109,105,116,104]),zI 1,zI 1,zI (-1),.bool false,.string (bs [98,101,110]),zI 0,zI 1,zI 4,.bool false]⟩ 44 (0,0))]
abbrev aiJ(jQ mA:Nat):List bw:=[⟨(bs [98,97,107,101,114]),1,-1,zS⟩,⟨(bs [98,111,110,110,101,116,115]),-1,3,zS⟩,⟨(bs [99,111,110,102,101,99,116,105,111,110,101,114]),0,-1,.slice (some ⟨jQ,0,none⟩) 1 1⟩,⟨(bs [104,97,116,116,101,114]),3,-1,zS⟩,⟨(bs [109,101,114,99,101,114]),2,-1,.slice (some ⟨mA,0,none⟩) 1 1⟩,⟨(bs [109,105,108,108,105,110,101,114]),-1,1,zS⟩]
theorem dP{ro:Nat→Option Obj}{ee nq mz fT oW b9 fG jQ mA dM dz dw:Nat}{n:Int}(hk:Knows ro (dJ ee nq mz fT oW b9 fG jQ mA dM dz dw)):fP ro (dG ee fT b9 fG dM dz dw n) (aU n):=
 ⟨_,_,_,_,_,_,_,_,none,0,aiJ jQ mA,rfl,
  ⟨[.slice (some ⟨nq,0,none⟩) 2 2,.slice (some ⟨mz,0,none⟩) 1 1],bR (enc:=gh) (T:=74) [.slice (some ⟨nq,0,none⟩) 2 2,.slice (some ⟨mz,0,none⟩) 1 1] (hk _ (.head _)) (fun _ _=>rfl),
   .cons (bR (enc:=cI) (T:=73) [⟨1,0⟩,⟨2,0⟩] (hk _ (.tail _ (.head _))) (fun _ _=>rfl)) (.cons (bR (enc:=cI) (T:=73) [⟨1,0⟩] (hk _ (.tail _ (.tail _ (.head _)))) (fun _ _=>rfl)) .nil)⟩,
  ⟨[.slice (some ⟨oW,0,none⟩) 2 2],bR (enc:=gh) (T:=81) [.slice (some ⟨oW,0,none⟩) 2 2] (hk _ (.tail _ (.tail _ (.tail _ (.head _))))) (fun _ _=>rfl),
   .cons (bR (enc:=kT) (T:=77) [⟨1,0,0,0,0,0,0⟩,⟨2,0,0,0,0,0,0⟩] (hk _ (.tail _ (.tail _ (.tail _ (.tail _ (.head _)))))) (fun _ _=>rfl)) .nil⟩,
  ⟨bR (enc:=pn) (T:=140) Vq (hk _ (.tail _ (.tail _ (.tail _ (.tail _ (.tail _ (.head _))))))) (fun _ _=>rfl),bR (enc:=mw) (T:=143) (aiJ jQ mA) (hk _ (.tail _ (.tail _ (.tail _ (.tail _ (.tail _ (.tail _ (.head _)))))))) (fun _ _=>rfl),
   .cons ⟨rfl,rfl,rfl,bE.nil _ _ _ _ _⟩ (.cons ⟨rfl,rfl,rfl,bE.nil _ _ _ _ _⟩ (.cons ⟨rfl,rfl,rfl,bR (enc:=cA) (T:=3) [0] (hk _ (.tail _ (.tail _ (.tail _ (.tail _ (.tail _ (.tail _ (.tail _ (.head _))))))))) (fun _ _=>rfl)⟩ (.cons ⟨rfl,rfl,rfl,bE.nil _ _ _ _ _⟩ (.cons ⟨rfl,rfl,rfl,bR (enc:=cA) (T:=3) [3] (hk _ (.tail _ (.tail _ (.tail _ (.tail _ (.tail _ (.tail _ (.tail _ (.tail _ (.head _)))))))))) (fun _ _=>rfl)⟩ (.cons ⟨rfl,rfl,rfl,bE.nil _ _ _ _ _⟩ .nil)))))⟩,
  .cons ⟨rfl,rfl,rfl⟩ (.cons ⟨rfl,rfl,rfl⟩ (.cons ⟨rfl,rfl,rfl⟩ (.cons ⟨rfl,rfl,rfl⟩ (.cons ⟨rfl,rfl,rfl⟩ (.cons ⟨rfl,rfl,rfl⟩ .nil))))),
  bR (enc:=iP) (T:=84) [⟨(bs [121]),(bs [105])⟩] (hk _ (.tail _ (.tail _ (.tail _ (.tail _ (.tail _ (.tail _ (.tail _ (.tail _ (.tail _ (.head _))))))))))) (fun _ _=>rfl),bR (enc:=dL) (T:=44) NU (hk _ (.tail _ (.tail _ (.tail _ (.tail _ (.tail _ (.tail _ (.tail _ (.tail _ (.tail _ (.tail _ (.head _)))))))))))) (fun _ _=>rfl),bR (enc:=dL) (T:=44) NW (hk _ (.tail _ (.tail _ (.tail _ (.tail _ (.tail _ (.tail _ (.tail _ (.tail _ (.tail _ (.tail _ (.tail _ (.head _))))))))))))) (fun _ _=>rfl),bE.nil _ _ _ _ _⟩
theorem dQ(ee fT b9 fG dM dz dw:Nat)(n:Int):VS (aU n) (dG ee fT b9 fG dM dz dw n):=
 ⟨_,_,_,_,_,_,_,_,none,0,rfl,An rfl rfl rfl rfl rfl rfl rfl rfl⟩
theorem LI{n:Int}{ro:Nat→Option Obj}:eG zT 34 [zI n] ro [] (fun r Y=>∃l,r= .agg ⟨l⟩∧(∀aG,Knows aG Y→fP aG l (aU n))∧VS (aU n) l):=by
 refine bD au [] [] ba<|zD 2<|jn fun b2=>zD 7<|jn fun b9=>jp (vs:=[.string (bs [98,97,107,101,114]),zI 1,zS]) [] [] (fun aC hs hZ=>cIs)<|jp (vs:=[.string (bs [98,111,110,110,101,116,115]),zI 3]) [] [] (fun aC hs hZ=>aHC)<|jn fun jQ=>jp (vs:=[.string (bs [99,111,110,102,101,99,116,105,111,110,101,114]),zI 0,.slice (some ⟨jQ,0,none⟩) 1 1]) [] [] (fun aC hs hZ=>cIs)<|jp (vs:=[.string (bs [104,97,116,116,101,114]),zI 3,zS]) [] [] (fun aC hs hZ=>cIs)<|jn fun mA=>jp (vs:=[.string (bs [109,101,114,99,101,114]),zI 2,.slice (some ⟨mA,0,none⟩) 1 1]) [] [] (fun aC hs hZ=>cIs)<|jp (vs:=[.string (bs [109,105,108,108,105,110,101,114]),zI 1]) [] [] (fun aC hs hZ=>aHC)<|jn fun fG=>zD 1<|jn fun b3=>jd 6 [0]<|jn fun nq=>zD 1<|jn fun mz=>jn fun ee=>zD 3<|jn fun oW=>zD 1<|jn fun fT=>zD 1<|jn fun b4=>jd 8 [0,0,6]<|nj [3,4] ⟨fun z1 t2 q5=>?_,fun z4 t5 hL6=>?_,trivial⟩
 ·
  refine jn fun dM=>bB q5 [1,2,3,4,5,6,7,8,9,10,11,12]<|jp (vs:=[.string (bs [115,109,105,116,104]),zI 0,zI 1,zI 0]) [] [] (fun aC hs hZ=>kA)<|jp (vs:=[.string (bs [97,110,110,97]),zI 0,zI 2,zI 3]) [] [] (fun aC hs hZ=>kA)<|jp (vs:=[.string (bs [115,109,121,116,104]),zI 1,zI 1,zI 2]) [] [] (fun aC hs hZ=>kA)<|nj [7,8] ⟨fun z7 t8 UQ=>?_,fun z10 t11 CE=>?_,trivial⟩
  ·
   refine jn fun dz=>bB UQ [1,2,3,4,5,6,7,8,9,10,11,12,13]<|jp (vs:=[.string (bs [115,109,121,116,104]),zI 0,zI 2,zI 0]) [] [] (fun aC hs hZ=>kA)<|jp (vs:=[.string (bs [115,109,105,116,104]),zI 1,zI 1,zI (-1)]) [] [] (fun aC hs hZ=>kA)<|jp (vs:=[.string (bs [98,101,110]),zI 0,zI 1,zI 4]) [] [] (fun aC hs hZ=>kA)<|aL 11 fun aov aoR Nv=>jn fun dw=>bB Nv [1,2,3,4,5,6,7,8,9,10,11,12,13,14]<|zD 1<|aL 14 fun ayC azA av4=>jd 1 [14]<|dZ av4<|zD 2<|aF q0 (.agg ⟨dG ee fT b9 fG dM dz dw n⟩) [14] [6,8,7,4,5,13,10,12,11,2,1,0] (dJ ee nq mz fT oW b9 fG jQ mA dM dz dw) (Sub.refl _) ⟨_,_,rfl,rfl,_,rfl,fun _ hk=>dP hk,dQ _ _ _ _ _ _ _ _⟩
  refine jp (vs:=[.string (bs [115,109,121,116,104]),zI 0,zI 2,zI 0]) [] [] (fun aC hs hZ=>kA)<|bB CE [0,1,2,3,4,5,6,7,8,9,10,11,12]<|nj [7,9] ⟨fun z15 t16 Ho=>?_,fun z18 t19 Nu=>?_,trivial⟩
  ·
   refine jn fun dz=>bB Ho [1,2,3,4,5,6,7,8,9,10,11,12,13]<|jp (vs:=[.string (bs [115,109,105,116,104]),zI 1,zI 1,zI (-1)]) [] [] (fun aC hs hZ=>kA)<|jp (vs:=[.string (bs [98,101,110]),zI 0,zI 1,zI 4]) [] [] (fun aC hs hZ=>kA)<|aL 11 fun ayy azw aaJ=>jn fun dw=>bB aaJ [1,2,3,4,5,6,7,8,9,10,11,12,13,14]<|zD 1<|aL 14 fun ayx azv ahd=>jd 1 [14]<|dZ ahd<|zD 2<|aF q0 (.agg ⟨dG ee fT b9 fG dM dz dw n⟩) [14] [6,8,7,4,5,13,10,12,11,2,1,0] (dJ ee nq mz fT oW b9 fG jQ mA dM dz dw) (Sub.refl _) ⟨_,_,rfl,rfl,_,rfl,fun _ hk=>dP hk,dQ _ _ _ _ _ _ _ _⟩
  refine jp (vs:=[.string (bs [115,109,105,116,104]),zI 1,zI 1,zI (-1)]) [] [] (fun aC hs hZ=>kA)<|bB Nu [0,1,2,3,4,5,6,7,8,9,10,11,12]<|nj [7,10] ⟨fun z23 t24 UX=>?_,fun z26 t27 Hn=>?_,trivial⟩
  ·
   refine jn fun dz=>bB UX [1,2,3,4,5,6,7,8,9,10,11,12,13]<|jp (vs:=[.string (bs [98,101,110]),zI 0,zI 1,zI 4]) [] [] (fun aC hs hZ=>kA)<|aL 11 fun OG O2 Hm=>jn fun dw=>bB Hm [1,2,3,4,5,6,7,8,9,10,11,12,13,14]<|zD 1<|aL 14 fun VW V7 Ns=>jd 1 [14]<|dZ Ns<|zD 2<|aF q0 (.agg ⟨dG ee fT b9 fG dM dz dw n⟩) [14] [6,8,7,4,5,13,10,12,11,2,1,0] (dJ ee nq mz fT oW b9 fG jQ mA dM dz dw) (Sub.refl _) ⟨_,_,rfl,rfl,_,rfl,fun _ hk=>dP hk,dQ _ _ _ _ _ _ _ _⟩
  refine jp (vs:=[.string (bs [98,101,110]),zI 0,zI 1,zI 4]) [] [] (fun aC hs hZ=>kA)<|bB Hn [0,1,2,3,4,5,6,7,8,9,10,11,12]<|nj [7,11] ⟨fun z31 t32 ahb=>?_,fun z34 t35 Nr=>?_,trivial⟩
  ·
   refine jn fun dz=>bB ahb [1,2,3,4,5,6,7,8,9,10,11,12,13]<|aL 11 fun abZ acI UW=>jn fun dw=>bB UW [1,2,3,4,5,6,7,8,9,10,11,12,13,14]<|zD 1<|aL 14 fun aoq aoM aha=>jd 1 [14]<|dZ aha<|zD 2<|aF q0 (.agg ⟨dG ee fT b9 fG dM dz dw n⟩) [14] [6,8,7,4,5,13,10,12,11,2,1,0] (dJ ee nq mz fT oW b9 fG jQ mA dM dz dw) (Sub.refl _) ⟨_,_,rfl,rfl,_,rfl,fun _ hk=>dP hk,dQ _ _ _ _ _ _ _ _⟩
  refine jn fun dw=>bB Nr [1,2,3,4,5,6,7,8,9,10,11,12,13]<|aL 7 fun aop aoL ag9=>jn fun dz=>bB ag9 [1,2,3,4,5,6,7,8,9,10,11,12,13,14]<|zD 1<|aL 14 fun aoo aoK ag8=>jd 1 [14]<|dZ ag8<|zD 2<|aF q0 (.agg ⟨dG ee fT b9 fG dM dz dw n⟩) [14] [6,8,7,4,5,13,10,12,11,2,0,1] (dJ ee nq mz fT oW b9 fG jQ mA dM dz dw) (Sub.refl _) ⟨_,_,rfl,rfl,_,rfl,fun _ hk=>dP hk,dQ _ _ _ _ _ _ _ _⟩
 refine jp (vs:=[.string (bs [115,109,105,116,104]),zI 0,zI 1,zI 0]) [] [] (fun aC hs hZ=>kA)<|bB hL6 [0,1,2,3,4,5,6,7,8,9,10,11]<|nj [3,5] ⟨fun z41 t42 aUs=>?_,fun z44 t45 aUq=>?_,trivial⟩
 ·
  refine jn fun dM=>bB aUs [1,2,3,4,5,6,7,8,9,10,11,12]<|jp (vs:=[.string (bs [97,110,110,97]),zI 0,zI 2,zI 3]) [] [] (fun aC hs hZ=>kA)<|jp (vs:=[.string (bs [115,109,121,116,104]),zI 1,zI 1,zI 2]) [] [] (fun aC hs hZ=>kA)<|nj [7,8] ⟨fun z47 t48 ag6=>?_,fun z50 t51 UU=>?_,trivial⟩
  ·
   refine jn fun dz=>bB ag6 [1,2,3,4,5,6,7,8,9,10,11,12,13]<|jp (vs:=[.string (bs [115,109,121,116,104]),zI 0,zI 2,zI 0]) [] [] (fun aC hs hZ=>kA)<|jp (vs:=[.string (bs [115,109,105,116,104]),zI 1,zI 1,zI (-1)]) [] [] (fun aC hs hZ=>kA)<|jp (vs:=[.string (bs [98,101,110]),zI 0,zI 1,zI 4]) [] [] (fun aC hs hZ=>kA)<|aL 11 fun abY acH UT=>jn fun dw=>bB UT [1,2,3,4,5,6,7,8,9,10,11,12,13,14]<|zD 1<|aL 14 fun abX acG US=>jd 1 [14]<|dZ US<|zD 2<|aF q0 (.agg ⟨dG ee fT b9 fG dM dz dw n⟩) [14] [6,8,7,4,5,13,10,12,11,2,1,0] (dJ ee nq mz fT oW b9 fG jQ mA dM dz dw) (Sub.refl _) ⟨_,_,rfl,rfl,_,rfl,fun _ hk=>dP hk,dQ _ _ _ _ _ _ _ _⟩
  refine jp (vs:=[.string (bs [115,109,121,116,104]),zI 0,zI 2,zI 0]) [] [] (fun aC hs hZ=>kA)<|bB UU [0,1,2,3,4,5,6,7,8,9,10,11,12]<|nj [7,9] ⟨fun z55 t56 UR=>?_,fun z58 t59 avW=>?_,trivial⟩
  ·
   refine jn fun dz=>bB UR [1,2,3,4,5,6,7,8,9,10,11,12,13]<|jp (vs:=[.string (bs [115,109,105,116,104]),zI 1,zI 1,zI (-1)]) [] [] (fun aC hs hZ=>kA)<|jp (vs:=[.string (bs [98,101,110]),zI 0,zI 1,zI 4]) [] [] (fun aC hs hZ=>kA)<|aL 11 fun aym azk avV=>jn fun dw=>bB avV [1,2,3,4,5,6,7,8,9,10,11,12,13,14]<|zD 1<|aL 14 fun ayl azj avU=>jd 1 [14]<|dZ avU<|zD 2<|aF q0 (.agg ⟨dG ee fT b9 fG dM dz dw n⟩) [14] [6,8,7,4,5,13,10,12,11,2,1,0] (dJ ee nq mz fT oW b9 fG jQ mA dM dz dw) (Sub.refl _) ⟨_,_,rfl,rfl,_,rfl,fun _ hk=>dP hk,dQ _ _ _ _ _ _ _ _⟩
  refine jp (vs:=[.string (bs [115,109,105,116,104]),zI 1,zI 1,zI (-1)]) [] [] (fun aC hs hZ=>kA)<|bB avW [0,1,2,3,4,5,6,7,8,9,10,11,12]<|nj [7,10] ⟨fun z63 t64 avT=>?_,fun z66 t67 aUj=>?_,trivial⟩
  ·
   refine jn fun dz=>bB avT [1,2,3,4,5,6,7,8,9,10,11,12,13]<|jp (vs:=[.string (bs [98,101,110]),zI 0,zI 1,zI 4]) [] [] (fun aC hs hZ=>kA)<|aL 11 fun aWX aXu aUi=>jn fun dw=>bB aUi [1,2,3,4,5,6,7,8,9,10,11,12,13,14]<|zD 1<|aL 14 fun aWW aXt aUh=>jd 1 [14]<|dZ aUh<|zD 2<|aF q0 (.agg ⟨dG ee fT b9 fG dM dz dw n⟩) [14] [6,8,7,4,5,13,10,12,11,2,1,0] (dJ ee nq mz fT oW b9 fG jQ mA dM dz dw) (Sub.refl _) ⟨_,_,rfl,rfl,_,rfl,fun _ hk=>dP hk,dQ _ _ _ _ _ _ _ _⟩
  refine jp (vs:=[.string (bs [98,101,110]),zI 0,zI 1,zI 4]) [] [] (fun aC hs hZ=>kA)<|bB aUj [0,1,2,3,4,5,6,7,8,9,10,11,12]<|nj [7,11] ⟨fun z71 t72 aUg=>?_,fun z74 t75 aUf=>?_,trivial⟩
  ·
   refine jn fun dz=>bB aUg [1,2,3,4,5,6,7,8,9,10,11,12,13]<|aL 11 fun aWV aXs aUe=>jn fun dw=>bB aUe [1,2,3,4,5,6,7,8,9,10,11,12,13,14]<|zD 1<|aL 14 fun aWU aXr aUd=>jd 1 [14]<|dZ aUd<|zD 2<|aF q0 (.agg ⟨dG ee fT b9 fG dM dz dw n⟩) [14] [6,8,7,4,5,13,10,12,11,2,1,0] (dJ ee nq mz fT oW b9 fG jQ mA dM dz dw) (Sub.refl _) ⟨_,_,rfl,rfl,_,rfl,fun _ hk=>dP hk,dQ _ _ _ _ _ _ _ _⟩
  refine jn fun dw=>bB aUf [1,2,3,4,5,6,7,8,9,10,11,12,13]<|aL 7 fun aWT aXq aUc=>jn fun dz=>bB aUc [1,2,3,4,5,6,7,8,9,10,11,12,13,14]<|zD 1<|aL 14 fun aWS aXp aUb=>jd 1 [14]<|dZ aUb<|zD 2<|aF q0 (.agg ⟨dG ee fT b9 fG dM dz dw n⟩) [14] [6,8,7,4,5,13,10,12,11,2,0,1] (dJ ee nq mz fT oW b9 fG jQ mA dM dz dw) (Sub.refl _) ⟨_,_,rfl,rfl,_,rfl,fun _ hk=>dP hk,dQ _ _ _ _ _ _ _ _⟩
 refine jp (vs:=[.string (bs [97,110,110,97]),zI 0,zI 2,zI 3]) [] [] (fun aC hs hZ=>kA)<|bB aUq [0,1,2,3,4,5,6,7,8,9,10,11]<|nj [3,6] ⟨fun z81 t82 aUa=>?_,fun z84 t85 aT9=>?_,trivial⟩
 ·
  refine jn fun dM=>bB aUa [1,2,3,4,5,6,7,8,9,10,11,12]<|jp (vs:=[.string (bs [115,109,121,116,104]),zI 1,zI 1,zI 2]) [] [] (fun aC hs hZ=>kA)<|nj [7,8] ⟨fun z87 t88 aT8=>?_,fun z90 t91 aT7=>?_,trivial⟩
  ·
   refine jn fun dz=>bB aT8 [1,2,3,4,5,6,7,8,9,10,11,12,13]<|jp (vs:=[.string (bs [115,109,121,116,104]),zI 0,zI 2,zI 0]) [] [] (fun aC hs hZ=>kA)<|jp (vs:=[.string (bs [115,109,105,116,104]),zI 1,zI 1,zI (-1)]) [] [] (fun aC hs hZ=>kA)<|jp (vs:=[.string (bs [98,101,110]),zI 0,zI 1,zI 4]) [] [] (fun aC hs hZ=>kA)<|aL 11 fun aWR aXo aT6=>jn fun dw=>bB aT6 [1,2,3,4,5,6,7,8,9,10,11,12,13,14]<|zD 1<|aL 14 fun aWQ aXn aT5=>jd 1 [14]<|dZ aT5<|zD 2<|aF q0 (.agg ⟨dG ee fT b9 fG dM dz dw n⟩) [14] [6,8,7,4,5,13,10,12,11,2,1,0] (dJ ee nq mz fT oW b9 fG jQ mA dM dz dw) (Sub.refl _) ⟨_,_,rfl,rfl,_,rfl,fun _ hk=>dP hk,dQ _ _ _ _ _ _ _ _⟩
  refine jp (vs:=[.string (bs [115,109,121,116,104]),zI 0,zI 2,zI 0]) [] [] (fun aC hs hZ=>kA)<|bB aT7 [0,1,2,3,4,5,6,7,8,9,10,11,12]<|nj [7,9] ⟨fun z95 t96 aT4=>?_,fun z98 t99 aGn=>?_,trivial⟩
  ·
   refine jn fun dz=>bB aT4 [1,2,3,4,5,6,7,8,9,10,11,12,13]<|jp (vs:=[.string (bs [115,109,105,116,104]),zI 1,zI 1,zI (-1)]) [] [] (fun aC hs hZ=>kA)<|jp (vs:=[.string (bs [98,101,110]),zI 0,zI 1,zI 4]) [] [] (fun aC hs hZ=>kA)<|aL 11 fun aLt aNS aGm=>jn fun dw=>bB aGm [1,2,3,4,5,6,7,8,9,10,11,12,13,14]<|zD 1<|aL 14 fun aLs aNR aGl=>jd 1 [14]<|dZ aGl<|zD 2<|aF q0 (.agg ⟨dG ee fT b9 fG dM dz dw n⟩) [14] [6,8,7,4,5,13,10,12,11,2,1,0] (dJ ee nq mz fT oW b9 fG jQ mA dM dz dw) (Sub.refl _) ⟨_,_,rfl,rfl,_,rfl,fun _ hk=>dP hk,dQ _ _ _ _ _ _ _ _⟩
  refine jp (vs:=[.string (bs [115,109,105,116,104]),zI 1,zI 1,zI (-1)]) [] [] (fun aC hs hZ=>kA)<|bB aGn [0,1,2,3,4,5,6,7,8,9,10,11,12]<|nj [7,10] ⟨fun bbB t104 aGk=>?_,fun bbA t107 aGj=>?_,trivial⟩
  ·
   refine jn fun dz=>bB aGk [1,2,3,4,5,6,7,8,9,10,11,12,13]<|jp (vs:=[.string (bs [98,101,110]),zI 0,zI 1,zI 4]) [] [] (fun aC hs hZ=>kA)<|aL 11 fun aLr aNQ aGi=>jn fun dw=>bB aGi [1,2,3,4,5,6,7,8,9,10,11,12,13,14]<|zD 1<|aL 14 fun aLq aNP aGh=>jd 1 [14]<|dZ aGh<|zD 2<|aF q0 (.agg ⟨dG ee fT b9 fG dM dz dw n⟩) [14] [6,8,7,4,5,13,10,12,11,2,1,0] (dJ ee nq mz fT oW b9 fG jQ mA dM dz dw) (Sub.refl _) ⟨_,_,rfl,rfl,_,rfl,fun _ hk=>dP hk,dQ _ _ _ _ _ _ _ _⟩
  refine jp (vs:=[.string (bs [98,101,110]),zI 0,zI 1,zI 4]) [] [] (fun aC hs hZ=>kA)<|bB aGj [0,1,2,3,4,5,6,7,8,9,10,11,12]<|nj [7,11] ⟨fun bby t112 aGg=>?_,fun bbx t115 aGf=>?_,trivial⟩
  ·
   refine jn fun dz=>bB aGg [1,2,3,4,5,6,7,8,9,10,11,12,13]<|aL 11 fun aLp aNO aGe=>jn fun dw=>bB aGe [1,2,3,4,5,6,7,8,9,10,11,12,13,14]<|zD 1<|aL 14 fun aLo aNN aGd=>jd 1 [14]<|dZ aGd<|zD 2<|aF q0 (.agg ⟨dG ee fT b9 fG dM dz dw n⟩) [14] [6,8,7,4,5,13,10,12,11,2,1,0] (dJ ee nq mz fT oW b9 fG jQ mA dM dz dw) (Sub.refl _) ⟨_,_,rfl,rfl,_,rfl,fun _ hk=>dP hk,dQ _ _ _ _ _ _ _ _⟩
  refine jn fun dw=>bB aGf [1,2,3,4,5,6,7,8,9,10,11,12,13]<|aL 7 fun aLn aNM aGc=>jn fun dz=>bB aGc [1,2,3,4,5,6,7,8,9,10,11,12,13,14]<|zD 1<|aL 14 fun aLm aNL aGb=>jd 1 [14]<|dZ aGb<|zD 2<|aF q0 (.agg ⟨dG ee fT b9 fG dM dz dw n⟩) [14] [6,8,7,4,5,13,10,12,11,2,0,1] (dJ ee nq mz fT oW b9 fG jQ mA dM dz dw) (Sub.refl _) ⟨_,_,rfl,rfl,_,rfl,fun _ hk=>dP hk,dQ _ _ _ _ _ _ _ _⟩
 refine jp (vs:=[.string (bs [115,109,121,116,104]),zI 1,zI 1,zI 2]) [] [] (fun aC hs hZ=>kA)<|bB aT9 [0,1,2,3,4,5,6,7,8,9,10,11]<|nj [3,7,8] ⟨fun bbv t122 aGa=>?_,fun bbu t125 aF9=>?_,fun bbt t128 aF8=>?_,trivial⟩
 ·
  refine jn fun dM=>bB aGa [1,2,3,4,5,6,7,8,9,10,11,12]<|nj [7,8] ⟨fun bbs t131 aF7=>?_,fun bbr t134 aF6=>?_,trivial⟩
  ·
   refine jn fun dz=>bB aF7 [1,2,3,4,5,6,7,8,9,10,11,12,13]<|jp (vs:=[.string (bs [115,109,121,116,104]),zI 0,zI 2,zI 0]) [] [] (fun aC hs hZ=>kA)<|jp (vs:=[.string (bs [115,109,105,116,104]),zI 1,zI 1,zI (-1)]) [] [] (fun aC hs hZ=>kA)<|jp (vs:=[.string (bs [98,101,110]),zI 0,zI 1,zI 4]) [] [] (fun aC hs hZ=>kA)<|aL 11 fun aLl aNK aF5=>jn fun dw=>bB aF5 [1,2,3,4,5,6,7,8,9,10,11,12,13,14]<|zD 1<|aL 14 fun aLk aNJ aF4=>jd 1 [14]<|dZ aF4<|zD 2<|aF q0 (.agg ⟨dG ee fT b9 fG dM dz dw n⟩) [14] [6,8,7,4,5,13,10,12,11,2,1,0] (dJ ee nq mz fT oW b9 fG jQ mA dM dz dw) (Sub.refl _) ⟨_,_,rfl,rfl,_,rfl,fun _ hk=>dP hk,dQ _ _ _ _ _ _ _ _⟩
  refine jp (vs:=[.string (bs [115,109,121,116,104]),zI 0,zI 2,zI 0]) [] [] (fun aC hs hZ=>kA)<|bB aF6 [0,1,2,3,4,5,6,7,8,9,10,11,12]<|nj [7,9] ⟨fun bbq t139 aF3=>?_,fun bbp t142 aF2=>?_,trivial⟩
  ·
   refine jn fun dz=>bB aF3 [1,2,3,4,5,6,7,8,9,10,11,12,13]<|jp (vs:=[.string (bs [115,109,105,116,104]),zI 1,zI 1,zI (-1)]) [] [] (fun aC hs hZ=>kA)<|jp (vs:=[.string (bs [98,101,110]),zI 0,zI 1,zI 4]) [] [] (fun aC hs hZ=>kA)<|aL 11 fun aLj aNI aF1=>jn fun dw=>bB aF1 [1,2,3,4,5,6,7,8,9,10,11,12,13,14]<|zD 1<|aL 14 fun aLi aNH aF0=>jd 1 [14]<|dZ aF0<|zD 2<|aF q0 (.agg ⟨dG ee fT b9 fG dM dz dw n⟩) [14] [6,8,7,4,5,13,10,12,11,2,1,0] (dJ ee nq mz fT oW b9 fG jQ mA dM dz dw) (Sub.refl _) ⟨_,_,rfl,rfl,_,rfl,fun _ hk=>dP hk,dQ _ _ _ _ _ _ _ _⟩
  refine jp (vs:=[.string (bs [115,109,105,116,104]),zI 1,zI 1,zI (-1)]) [] [] (fun aC hs hZ=>kA)<|bB aF2 [0,1,2,3,4,5,6,7,8,9,10,11,12]<|nj [7,10] ⟨fun bbo t147 aFZ=>?_,fun bbn t150 aFY=>?_,trivial⟩
  ·
   refine jn fun dz=>bB aFZ [1,2,3,4,5,6,7,8,9,10,11,12,13]<|jp (vs:=[.string (bs [98,101,110]),zI 0,zI 1,zI 4]) [] [] (fun aC hs hZ=>kA)<|aL 11 fun aLh aNG aFX=>jn fun dw=>bB aFX [1,2,3,4,5,6,7,8,9,10,11,12,13,14]<|zD 1<|aL 14 fun aLg aNF aFW=>jd 1 [14]<|dZ aFW<|zD 2<|aF q0 (.agg ⟨dG ee fT b9 fG dM dz dw n⟩) [14] [6,8,7,4,5,13,10,12,11,2,1,0] (dJ ee nq mz fT oW b9 fG jQ mA dM dz dw) (Sub.refl _) ⟨_,_,rfl,rfl,_,rfl,fun _ hk=>dP hk,dQ _ _ _ _ _ _ _ _⟩
  refine jp (vs:=[.string (bs [98,101,110]),zI 0,zI 1,zI 4]) [] [] (fun aC hs hZ=>kA)<|bB aFY [0,1,2,3,4,5,6,7,8,9,10,11,12]<|nj [7,11] ⟨fun bbm t155 aFV=>?_,fun bbl t158 aFU=>?_,trivial⟩
  ·
   refine jn fun dz=>bB aFV [1,2,3,4,5,6,7,8,9,10,11,12,13]<|aL 11 fun aLf aNE aFT=>jn fun dw=>bB aFT [1,2,3,4,5,6,7,8,9,10,11,12,13,14]<|zD 1<|aL 14 fun aLe aND aFS=>jd 1 [14]<|dZ aFS<|zD 2<|aF q0 (.agg ⟨dG ee fT b9 fG dM dz dw n⟩) [14] [6,8,7,4,5,13,10,12,11,2,1,0] (dJ ee nq mz fT oW b9 fG jQ mA dM dz dw) (Sub.refl _) ⟨_,_,rfl,rfl,_,rfl,fun _ hk=>dP hk,dQ _ _ _ _ _ _ _ _⟩
  refine jn fun dw=>bB aFU [1,2,3,4,5,6,7,8,9,10,11,12,13]<|aL 7 fun aLd aNC aFR=>jn fun dz=>bB aFR [1,2,3,4,5,6,7,8,9,10,11,12,13,14]<|zD 1<|aL 14 fun aLc aNB aFQ=>jd 1 [14]<|dZ aFQ<|zD 2<|aF q0 (.agg ⟨dG ee fT b9 fG dM dz dw n⟩) [14] [6,8,7,4,5,13,10,12,11,2,0,1] (dJ ee nq mz fT oW b9 fG jQ mA dM dz dw) (Sub.refl _) ⟨_,_,rfl,rfl,_,rfl,fun _ hk=>dP hk,dQ _ _ _ _ _ _ _ _⟩
 ·
  refine jn fun dz=>bB aF9 [1,2,3,4,5,6,7,8,9,10,11,12]<|nj [3,8] ⟨fun bbk t165 aFP=>?_,fun bbj t168 aFO=>?_,trivial⟩
  ·
   refine jn fun dM=>bB aFP [1,2,3,4,5,6,7,8,9,10,11,12,13]<|jp (vs:=[.string (bs [115,109,121,116,104]),zI 0,zI 2,zI 0]) [] [] (fun aC hs hZ=>kA)<|jp (vs:=[.string (bs [115,109,105,116,104]),zI 1,zI 1,zI (-1)]) [] [] (fun aC hs hZ=>kA)<|jp (vs:=[.string (bs [98,101,110]),zI 0,zI 1,zI 4]) [] [] (fun aC hs hZ=>kA)<|aL 11 fun aLb aNA aFN=>jn fun dw=>bB aFN [1,2,3,4,5,6,7,8,9,10,11,12,13,14]<|zD 1<|aL 14 fun aLa aNz aFM=>jd 1 [14]<|dZ aFM<|zD 2<|aF q0 (.agg ⟨dG ee fT b9 fG dM dz dw n⟩) [14] [6,8,7,4,5,13,10,12,11,1,2,0] (dJ ee nq mz fT oW b9 fG jQ mA dM dz dw) (Sub.refl _) ⟨_,_,rfl,rfl,_,rfl,fun _ hk=>dP hk,dQ _ _ _ _ _ _ _ _⟩
  refine jp (vs:=[.string (bs [115,109,121,116,104]),zI 0,zI 2,zI 0]) [] [] (fun aC hs hZ=>kA)<|bB aFO [0,1,2,3,4,5,6,7,8,9,10,11,12]<|nj [3,9] ⟨fun bbi t173 aFL=>?_,fun bbh t176 aFK=>?_,trivial⟩
  ·
   refine jn fun dM=>bB aFL [1,2,3,4,5,6,7,8,9,10,11,12,13]<|jp (vs:=[.string (bs [115,109,105,116,104]),zI 1,zI 1,zI (-1)]) [] [] (fun aC hs hZ=>kA)<|jp (vs:=[.string (bs [98,101,110]),zI 0,zI 1,zI 4]) [] [] (fun aC hs hZ=>kA)<|aL 11 fun aK9 aNy aFJ=>jn fun dw=>bB aFJ [1,2,3,4,5,6,7,8,9,10,11,12,13,14]<|zD 1<|aL 14 fun aK8 aNx aFI=>jd 1 [14]<|dZ aFI<|zD 2<|aF q0 (.agg ⟨dG ee fT b9 fG dM dz dw n⟩) [14] [6,8,7,4,5,13,10,12,11,1,2,0] (dJ ee nq mz fT oW b9 fG jQ mA dM dz dw) (Sub.refl _) ⟨_,_,rfl,rfl,_,rfl,fun _ hk=>dP hk,dQ _ _ _ _ _ _ _ _⟩
  refine jp (vs:=[.string (bs [115,109,105,116,104]),zI 1,zI 1,zI (-1)]) [] [] (fun aC hs hZ=>kA)<|bB aFK [0,1,2,3,4,5,6,7,8,9,10,11,12]<|nj [3,10] ⟨fun bbg t181 aFH=>?_,fun bbf t184 aFG=>?_,trivial⟩
  ·
   refine jn fun dM=>bB aFH [1,2,3,4,5,6,7,8,9,10,11,12,13]<|jp (vs:=[.string (bs [98,101,110]),zI 0,zI 1,zI 4]) [] [] (fun aC hs hZ=>kA)<|aL 11 fun aK7 aNw aFF=>jn fun dw=>bB aFF [1,2,3,4,5,6,7,8,9,10,11,12,13,14]<|zD 1<|aL 14 fun aK6 aNv aFE=>jd 1 [14]<|dZ aFE<|zD 2<|aF q0 (.agg ⟨dG ee fT b9 fG dM dz dw n⟩) [14] [6,8,7,4,5,13,10,12,11,1,2,0] (dJ ee nq mz fT oW b9 fG jQ mA dM dz dw) (Sub.refl _) ⟨_,_,rfl,rfl,_,rfl,fun _ hk=>dP hk,dQ _ _ _ _ _ _ _ _⟩
  refine jp (vs:=[.string (bs [98,101,110]),zI 0,zI 1,zI 4]) [] [] (fun aC hs hZ=>kA)<|bB aFG [0,1,2,3,4,5,6,7,8,9,10,11,12]<|nj [3,11] ⟨fun bbe t189 aFD=>?_,fun bbd t192 aFC=>?_,trivial⟩
  ·
   refine jn fun dM=>bB aFD [1,2,3,4,5,6,7,8,9,10,11,12,13]<|aL 11 fun aK5 aNu aFB=>jn fun dw=>bB aFB [1,2,3,4,5,6,7,8,9,10,11,12,13,14]<|zD 1<|aL 14 fun aK4 aNt aFA=>jd 1 [14]<|dZ aFA<|zD 2<|aF q0 (.agg ⟨dG ee fT b9 fG dM dz dw n⟩) [14] [6,8,7,4,5,13,10,12,11,1,2,0] (dJ ee nq mz fT oW b9 fG jQ mA dM dz dw) (Sub.refl _) ⟨_,_,rfl,rfl,_,rfl,fun _ hk=>dP hk,dQ _ _ _ _ _ _ _ _⟩
  refine jn fun dw=>bB aFC [1,2,3,4,5,6,7,8,9,10,11,12,13]<|aL 3 fun aK3 aNs aFz=>jn fun dM=>bB aFz [1,2,3,4,5,6,7,8,9,10,11,12,13,14]<|zD 1<|aL 14 fun aK2 aNr aFy=>jd 1 [14]<|dZ aFy<|zD 2<|aF q0 (.agg ⟨dG ee fT b9 fG dM dz dw n⟩) [14] [6,8,7,4,5,13,10,12,11,0,2,1] (dJ ee nq mz fT oW b9 fG jQ mA dM dz dw) (Sub.refl _) ⟨_,_,rfl,rfl,_,rfl,fun _ hk=>dP hk,dQ _ _ _ _ _ _ _ _⟩
 refine jp (vs:=[.string (bs [115,109,121,116,104]),zI 0,zI 2,zI 0]) [] [] (fun aC hs hZ=>kA)<|bB aF8 [0,1,2,3,4,5,6,7,8,9,10,11]<|nj [3,7,9] ⟨fun bbc t199 aFx=>?_,fun bbb t202 aFw=>?_,fun bba t205 aFv=>?_,trivial⟩
 ·
  refine jn fun dM=>bB aFx [1,2,3,4,5,6,7,8,9,10,11,12]<|nj [7,9] ⟨fun ba9 t208 aFu=>?_,fun ba7 t211 aFt=>?_,trivial⟩
  ·
   refine jn fun dz=>bB aFu [1,2,3,4,5,6,7,8,9,10,11,12,13]<|jp (vs:=[.string (bs [115,109,105,116,104]),zI 1,zI 1,zI (-1)]) [] [] (fun aC hs hZ=>kA)<|jp (vs:=[.string (bs [98,101,110]),zI 0,zI 1,zI 4]) [] [] (fun aC hs hZ=>kA)<|aL 11 fun aK1 aNq aFs=>jn fun dw=>bB aFs [1,2,3,4,5,6,7,8,9,10,11,12,13,14]<|zD 1<|aL 14 fun aK0 aNp aFr=>jd 1 [14]<|dZ aFr<|zD 2<|aF q0 (.agg ⟨dG ee fT b9 fG dM dz dw n⟩) [14] [6,8,7,4,5,13,10,12,11,2,1,0] (dJ ee nq mz fT oW b9 fG jQ mA dM dz dw) (Sub.refl _) ⟨_,_,rfl,rfl,_,rfl,fun _ hk=>dP hk,dQ _ _ _ _ _ _ _ _⟩
  refine jp (vs:=[.string (bs [115,109,105,116,104]),zI 1,zI 1,zI (-1)]) [] [] (fun aC hs hZ=>kA)<|bB aFt [0,1,2,3,4,5,6,7,8,9,10,11,12]<|nj [7,10] ⟨fun ba6 t216 aFq=>?_,fun ba5 t219 aFp=>?_,trivial⟩
  ·
   refine jn fun dz=>bB aFq [1,2,3,4,5,6,7,8,9,10,11,12,13]<|jp (vs:=[.string (bs [98,101,110]),zI 0,zI 1,zI 4]) [] [] (fun aC hs hZ=>kA)<|aL 11 fun aKZ aNo aFo=>jn fun dw=>bB aFo [1,2,3,4,5,6,7,8,9,10,11,12,13,14]<|zD 1<|aL 14 fun aKY aNn aFn=>jd 1 [14]<|dZ aFn<|zD 2<|aF q0 (.agg ⟨dG ee fT b9 fG dM dz dw n⟩) [14] [6,8,7,4,5,13,10,12,11,2,1,0] (dJ ee nq mz fT oW b9 fG jQ mA dM dz dw) (Sub.refl _) ⟨_,_,rfl,rfl,_,rfl,fun _ hk=>dP hk,dQ _ _ _ _ _ _ _ _⟩
  refine jp (vs:=[.string (bs [98,101,110]),zI 0,zI 1,zI 4]) [] [] (fun aC hs hZ=>kA)<|bB aFp [0,1,2,3,4,5,6,7,8,9,10,11,12]<|nj [7,11] ⟨fun ba4 t224 aFm=>?_,fun ba3 t227 aFl=>?_,trivial⟩
  ·
   refine jn fun dz=>bB aFm [1,2,3,4,5,6,7,8,9,10,11,12,13]<|aL 11 fun aKX aNm aFk=>jn fun dw=>bB aFk [1,2,3,4,5,6,7,8,9,10,11,12,13,14]<|zD 1<|aL 14 fun aKW aNl aFj=>jd 1 [14]<|dZ aFj<|zD 2<|aF q0 (.agg ⟨dG ee fT b9 fG dM dz dw n⟩) [14] [6,8,7,4,5,13,10,12,11,2,1,0] (dJ ee nq mz fT oW b9 fG jQ mA dM dz dw) (Sub.refl _) ⟨_,_,rfl,rfl,_,rfl,fun _ hk=>dP hk,dQ _ _ _ _ _ _ _ _⟩
  refine jn fun dw=>bB aFl [1,2,3,4,5,6,7,8,9,10,11,12,13]<|aL 7 fun aKV aNk aFi=>jn fun dz=>bB aFi [1,2,3,4,5,6,7,8,9,10,11,12,13,14]<|zD 1<|aL 14 fun aKU aNj aFh=>jd 1 [14]<|dZ aFh<|zD 2<|aF q0 (.agg ⟨dG ee fT b9 fG dM dz dw n⟩) [14] [6,8,7,4,5,13,10,12,11,2,0,1] (dJ ee nq mz fT oW b9 fG jQ mA dM dz dw) (Sub.refl _) ⟨_,_,rfl,rfl,_,rfl,fun _ hk=>dP hk,dQ _ _ _ _ _ _ _ _⟩
 ·
  refine jn fun dz=>bB aFw [1,2,3,4,5,6,7,8,9,10,11,12]<|nj [3,9] ⟨fun ba1 t234 aFg=>?_,fun ba0 t237 aFf=>?_,trivial⟩
  ·
   refine jn fun dM=>bB aFg [1,2,3,4,5,6,7,8,9,10,11,12,13]<|jp (vs:=[.string (bs [115,109,105,116,104]),zI 1,zI 1,zI (-1)]) [] [] (fun aC hs hZ=>kA)<|jp (vs:=[.string (bs [98,101,110]),zI 0,zI 1,zI 4]) [] [] (fun aC hs hZ=>kA)<|aL 11 fun aKT aNi aFe=>jn fun dw=>bB aFe [1,2,3,4,5,6,7,8,9,10,11,12,13,14]<|zD 1<|aL 14 fun aKS aNh aFd=>jd 1 [14]<|dZ aFd<|zD 2<|aF q0 (.agg ⟨dG ee fT b9 fG dM dz dw n⟩) [14] [6,8,7,4,5,13,10,12,11,1,2,0] (dJ ee nq mz fT oW b9 fG jQ mA dM dz dw) (Sub.refl _) ⟨_,_,rfl,rfl,_,rfl,fun _ hk=>dP hk,dQ _ _ _ _ _ _ _ _⟩
  refine jp (vs:=[.string (bs [115,109,105,116,104]),zI 1,zI 1,zI (-1)]) [] [] (fun aC hs hZ=>kA)<|bB aFf [0,1,2,3,4,5,6,7,8,9,10,11,12]<|nj [3,10] ⟨fun baY t242 aFc=>?_,fun baX t245 aFb=>?_,trivial⟩
  ·
   refine jn fun dM=>bB aFc [1,2,3,4,5,6,7,8,9,10,11,12,13]<|jp (vs:=[.string (bs [98,101,110]),zI 0,zI 1,zI 4]) [] [] (fun aC hs hZ=>kA)<|aL 11 fun aKR aNg aFa=>jn fun dw=>bB aFa [1,2,3,4,5,6,7,8,9,10,11,12,13,14]<|zD 1<|aL 14 fun aKQ aNf aE9=>jd 1 [14]<|dZ aE9<|zD 2<|aF q0 (.agg ⟨dG ee fT b9 fG dM dz dw n⟩) [14] [6,8,7,4,5,13,10,12,11,1,2,0] (dJ ee nq mz fT oW b9 fG jQ mA dM dz dw) (Sub.refl _) ⟨_,_,rfl,rfl,_,rfl,fun _ hk=>dP hk,dQ _ _ _ _ _ _ _ _⟩
  refine jp (vs:=[.string (bs [98,101,110]),zI 0,zI 1,zI 4]) [] [] (fun aC hs hZ=>kA)<|bB aFb [0,1,2,3,4,5,6,7,8,9,10,11,12]<|nj [3,11] ⟨fun baW t250 aE8=>?_,fun baV t253 aE7=>?_,trivial⟩
  ·
   refine jn fun dM=>bB aE8 [1,2,3,4,5,6,7,8,9,10,11,12,13]<|aL 11 fun aKP aNe aE6=>jn fun dw=>bB aE6 [1,2,3,4,5,6,7,8,9,10,11,12,13,14]<|zD 1<|aL 14 fun aKO aNd aE5=>jd 1 [14]<|dZ aE5<|zD 2<|aF q0 (.agg ⟨dG ee fT b9 fG dM dz dw n⟩) [14] [6,8,7,4,5,13,10,12,11,1,2,0] (dJ ee nq mz fT oW b9 fG jQ mA dM dz dw) (Sub.refl _) ⟨_,_,rfl,rfl,_,rfl,fun _ hk=>dP hk,dQ _ _ _ _ _ _ _ _⟩
  refine jn fun dw=>bB aE7 [1,2,3,4,5,6,7,8,9,10,11,12,13]<|aL 3 fun aKN aNc aE4=>jn fun dM=>bB aE4 [1,2,3,4,5,6,7,8,9,10,11,12,13,14]<|zD 1<|aL 14 fun aKM aNb aE3=>jd 1 [14]<|dZ aE3<|zD 2<|aF q0 (.agg ⟨dG ee fT b9 fG dM dz dw n⟩) [14] [6,8,7,4,5,13,10,12,11,0,2,1] (dJ ee nq mz fT oW b9 fG jQ mA dM dz dw) (Sub.refl _) ⟨_,_,rfl,rfl,_,rfl,fun _ hk=>dP hk,dQ _ _ _ _ _ _ _ _⟩
 refine jp (vs:=[.string (bs [115,109,105,116,104]),zI 1,zI 1,zI (-1)]) [] [] (fun aC hs hZ=>kA)<|bB aFv [0,1,2,3,4,5,6,7,8,9,10,11]<|nj [3,7,10] ⟨fun baU t260 aE2=>?_,fun baT t263 aE1=>?_,fun baS t266 aE0=>?_,trivial⟩
 ·
  refine jn fun dM=>bB aE2 [1,2,3,4,5,6,7,8,9,10,11,12]<|nj [7,10] ⟨fun baR t269 aEZ=>?_,fun baQ t272 aEY=>?_,trivial⟩
  ·
   refine jn fun dz=>bB aEZ [1,2,3,4,5,6,7,8,9,10,11,12,13]<|jp (vs:=[.string (bs [98,101,110]),zI 0,zI 1,zI 4]) [] [] (fun aC hs hZ=>kA)<|aL 11 fun aKL aNa aEX=>jn fun dw=>bB aEX [1,2,3,4,5,6,7,8,9,10,11,12,13,14]<|zD 1<|aL 14 fun aKK aM9 aEW=>jd 1 [14]<|dZ aEW<|zD 2<|aF q0 (.agg ⟨dG ee fT b9 fG dM dz dw n⟩) [14] [6,8,7,4,5,13,10,12,11,2,1,0] (dJ ee nq mz fT oW b9 fG jQ mA dM dz dw) (Sub.refl _) ⟨_,_,rfl,rfl,_,rfl,fun _ hk=>dP hk,dQ _ _ _ _ _ _ _ _⟩
  refine jp (vs:=[.string (bs [98,101,110]),zI 0,zI 1,zI 4]) [] [] (fun aC hs hZ=>kA)<|bB aEY [0,1,2,3,4,5,6,7,8,9,10,11,12]<|nj [7,11] ⟨fun baP t277 aEV=>?_,fun baO t280 aEU=>?_,trivial⟩
  ·
   refine jn fun dz=>bB aEV [1,2,3,4,5,6,7,8,9,10,11,12,13]<|aL 11 fun aKJ aM8 aET=>jn fun dw=>bB aET [1,2,3,4,5,6,7,8,9,10,11,12,13,14]<|zD 1<|aL 14 fun aKI aM7 aES=>jd 1 [14]<|dZ aES<|zD 2<|aF q0 (.agg ⟨dG ee fT b9 fG dM dz dw n⟩) [14] [6,8,7,4,5,13,10,12,11,2,1,0] (dJ ee nq mz fT oW b9 fG jQ mA dM dz dw) (Sub.refl _) ⟨_,_,rfl,rfl,_,rfl,fun _ hk=>dP hk,dQ _ _ _ _ _ _ _ _⟩
  refine jn fun dw=>bB aEU [1,2,3,4,5,6,7,8,9,10,11,12,13]<|aL 7 fun aKH aM6 aER=>jn fun dz=>bB aER [1,2,3,4,5,6,7,8,9,10,11,12,13,14]<|zD 1<|aL 14 fun aKG aM5 aEQ=>jd 1 [14]<|dZ aEQ<|zD 2<|aF q0 (.agg ⟨dG ee fT b9 fG dM dz dw n⟩) [14] [6,8,7,4,5,13,10,12,11,2,0,1] (dJ ee nq mz fT oW b9 fG jQ mA dM dz dw) (Sub.refl _) ⟨_,_,rfl,rfl,_,rfl,fun _ hk=>dP hk,dQ _ _ _ _ _ _ _ _⟩
 ·
  refine jn fun dz=>bB aE1 [1,2,3,4,5,6,7,8,9,10,11,12]<|nj [3,10] ⟨fun baN t287 aEP=>?_,fun baM t290 aEO=>?_,trivial⟩
  ·
   refine jn fun dM=>bB aEP [1,2,3,4,5,6,7,8,9,10,11,12,13]<|jp (vs:=[.string (bs [98,101,110]),zI 0,zI 1,zI 4]) [] [] (fun aC hs hZ=>kA)<|aL 11 fun aKF aM4 aEN=>jn fun dw=>bB aEN [1,2,3,4,5,6,7,8,9,10,11,12,13,14]<|zD 1<|aL 14 fun aKE aM3 aEM=>jd 1 [14]<|dZ aEM<|zD 2<|aF q0 (.agg ⟨dG ee fT b9 fG dM dz dw n⟩) [14] [6,8,7,4,5,13,10,12,11,1,2,0] (dJ ee nq mz fT oW b9 fG jQ mA dM dz dw) (Sub.refl _) ⟨_,_,rfl,rfl,_,rfl,fun _ hk=>dP hk,dQ _ _ _ _ _ _ _ _⟩
  refine jp (vs:=[.string (bs [98,101,110]),zI 0,zI 1,zI 4]) [] [] (fun aC hs hZ=>kA)<|bB aEO [0,1,2,3,4,5,6,7,8,9,10,11,12]<|nj [3,11] ⟨fun baL t295 aEL=>?_,fun baK t298 aEK=>?_,trivial⟩
  ·
   refine jn fun dM=>bB aEL [1,2,3,4,5,6,7,8,9,10,11,12,13]<|aL 11 fun aKD aM2 aEJ=>jn fun dw=>bB aEJ [1,2,3,4,5,6,7,8,9,10,11,12,13,14]<|zD 1<|aL 14 fun aKC aM1 aEI=>jd 1 [14]<|dZ aEI<|zD 2<|aF q0 (.agg ⟨dG ee fT b9 fG dM dz dw n⟩) [14] [6,8,7,4,5,13,10,12,11,1,2,0] (dJ ee nq mz fT oW b9 fG jQ mA dM dz dw) (Sub.refl _) ⟨_,_,rfl,rfl,_,rfl,fun _ hk=>dP hk,dQ _ _ _ _ _ _ _ _⟩
  refine jn fun dw=>bB aEK [1,2,3,4,5,6,7,8,9,10,11,12,13]<|aL 3 fun aKB aM0 aEH=>jn fun dM=>bB aEH [1,2,3,4,5,6,7,8,9,10,11,12,13,14]<|zD 1<|aL 14 fun aKA aMZ aEG=>jd 1 [14]<|dZ aEG<|zD 2<|aF q0 (.agg ⟨dG ee fT b9 fG dM dz dw n⟩) [14] [6,8,7,4,5,13,10,12,11,0,2,1] (dJ ee nq mz fT oW b9 fG jQ mA dM dz dw) (Sub.refl _) ⟨_,_,rfl,rfl,_,rfl,fun _ hk=>dP hk,dQ _ _ _ _ _ _ _ _⟩
 refine jp (vs:=[.string (bs [98,101,110]),zI 0,zI 1,zI 4]) [] [] (fun aC hs hZ=>kA)<|bB aE0 [0,1,2,3,4,5,6,7,8,9,10,11]<|nj [3,7,11] ⟨fun baJ t305 aEF=>?_,fun baI t308 aEE=>?_,fun baH t311 aED=>?_,trivial⟩
 ·
  refine jn fun dM=>bB aEF [1,2,3,4,5,6,7,8,9,10,11,12]<|nj [7,11] ⟨fun baG t314 aEC=>?_,fun baF t317 aEB=>?_,trivial⟩
  ·
   refine jn fun dz=>bB aEC [1,2,3,4,5,6,7,8,9,10,11,12,13]<|aL 11 fun aKz aMY aEA=>jn fun dw=>bB aEA [1,2,3,4,5,6,7,8,9,10,11,12,13,14]<|zD 1<|aL 14 fun aKy aMX aEz=>jd 1 [14]<|dZ aEz<|zD 2<|aF q0 (.agg ⟨dG ee fT b9 fG dM dz dw n⟩) [14] [6,8,7,4,5,13,10,12,11,2,1,0] (dJ ee nq mz fT oW b9 fG jQ mA dM dz dw) (Sub.refl _) ⟨_,_,rfl,rfl,_,rfl,fun _ hk=>dP hk,dQ _ _ _ _ _ _ _ _⟩
  refine jn fun dw=>bB aEB [1,2,3,4,5,6,7,8,9,10,11,12,13]<|aL 7 fun aKx aMW aEy=>jn fun dz=>bB aEy [1,2,3,4,5,6,7,8,9,10,11,12,13,14]<|zD 1<|aL 14 fun aKw aMV aEx=>jd 1 [14]<|dZ aEx<|zD 2<|aF q0 (.agg ⟨dG ee fT b9 fG dM dz dw n⟩) [14] [6,8,7,4,5,13,10,12,11,2,0,1] (dJ ee nq mz fT oW b9 fG jQ mA dM dz dw) (Sub.refl _) ⟨_,_,rfl,rfl,_,rfl,fun _ hk=>dP hk,dQ _ _ _ _ _ _ _ _⟩
 ·
  refine jn fun dz=>bB aEE [1,2,3,4,5,6,7,8,9,10,11,12]<|nj [3,11] ⟨fun baE t324 aEw=>?_,fun baD t327 aEv=>?_,trivial⟩
  ·
   refine jn fun dM=>bB aEw [1,2,3,4,5,6,7,8,9,10,11,12,13]<|aL 11 fun aKv aMU aEu=>jn fun dw=>bB aEu [1,2,3,4,5,6,7,8,9,10,11,12,13,14]<|zD 1<|aL 14 fun aKu aMT aEt=>jd 1 [14]<|dZ aEt<|zD 2<|aF q0 (.agg ⟨dG ee fT b9 fG dM dz dw n⟩) [14] [6,8,7,4,5,13,10,12,11,1,2,0] (dJ ee nq mz fT oW b9 fG jQ mA dM dz dw) (Sub.refl _) ⟨_,_,rfl,rfl,_,rfl,fun _ hk=>dP hk,dQ _ _ _ _ _ _ _ _⟩
  refine jn fun dw=>bB aEv [1,2,3,4,5,6,7,8,9,10,11,12,13]<|aL 3 fun aKt aMS aEs=>jn fun dM=>bB aEs [1,2,3,4,5,6,7,8,9,10,11,12,13,14]<|zD 1<|aL 14 fun aKs aMR aEr=>jd 1 [14]<|dZ aEr<|zD 2<|aF q0 (.agg ⟨dG ee fT b9 fG dM dz dw n⟩) [14] [6,8,7,4,5,13,10,12,11,0,2,1] (dJ ee nq mz fT oW b9 fG jQ mA dM dz dw) (Sub.refl _) ⟨_,_,rfl,rfl,_,rfl,fun _ hk=>dP hk,dQ _ _ _ _ _ _ _ _⟩
 refine jn fun dw=>bB aED [1,2,3,4,5,6,7,8,9,10,11,12]<|nj [3,7] ⟨fun baC t334 aEq=>?_,fun baB t337 aEp=>?_,trivial⟩
 ·
  refine jn fun dM=>bB aEq [1,2,3,4,5,6,7,8,9,10,11,12,13]<|aL 7 fun aKr aMQ aEo=>jn fun dz=>bB aEo [1,2,3,4,5,6,7,8,9,10,11,12,13,14]<|zD 1<|aL 14 fun aKq aMP aEn=>jd 1 [14]<|dZ aEn<|zD 2<|aF q0 (.agg ⟨dG ee fT b9 fG dM dz dw n⟩) [14] [6,8,7,4,5,13,10,12,11,1,0,2] (dJ ee nq mz fT oW b9 fG jQ mA dM dz dw) (Sub.refl _) ⟨_,_,rfl,rfl,_,rfl,fun _ hk=>dP hk,dQ _ _ _ _ _ _ _ _⟩
 refine jn fun dz=>bB aEp [1,2,3,4,5,6,7,8,9,10,11,12,13]<|aL 3 fun aKp aMO aEm=>jn fun dM=>bB aEm [1,2,3,4,5,6,7,8,9,10,11,12,13,14]<|zD 1<|aL 14 fun aKo aMN aEl=>jd 1 [14]<|dZ aEl<|zD 2<|aF q0 (.agg ⟨dG ee fT b9 fG dM dz dw n⟩) [14] [6,8,7,4,5,13,10,12,11,0,1,2] (dJ ee nq mz fT oW b9 fG jQ mA dM dz dw) (Sub.refl _) ⟨_,_,rfl,rfl,_,rfl,fun _ hk=>dP hk,dQ _ _ _ _ _ _ _ _⟩
instance (nc nh i:Nat)(x:cv):Decidable (gT nc nh i x):=by unfold gT;infer_instance
instance (w:ByteArray):Decidable (Script w):=by unfold Script;infer_instance
theorem VA{p:Nat→α→Prop}{l:List α}(h:∀i (hi:i <l.length),p i l[i]):∀(i:Nat) (x:α),l[i]?=some x→p i x:=fun i x hx=>by
 obtain⟨h1,rfl⟩:=List.getElem?_eq_some_iff.1 hx
 exact h i h1
theorem HS:∀(i:Nat) (x:cv),C2[i]?=some x→gT 4 6 i x:=VA (by decide)
theorem Vp:∀(i:Nat) (x:cv),C2[i]?=some x→Ag x.word=true:=VA (of_decide_eq_true (by kernel_rfl))
theorem aiI:∀(i:Nat) (x:bO),Vq[i]?=some x→Ag x.name=true∧ -1≤x.under∧x.under <i:=VA (of_decide_eq_true (by kernel_rfl))
def aut(hd:List cv)(i:Int):Bool:=decide (i= -1)||(decide (0≤i)&&match hd[i.toNat]? with
 |some x=>decide (0≤x.cls)
 |none=>false)
theorem fB{i:Int}(h:aut hd i=true):n7 hd i:=by
 simp only[aut,Bool.or_eq_true,Bool.and_eq_true,decide_eq_true_eq] at h
 rcases h with h| ⟨h1,h2⟩
 ·exact .inl h
 split at h2
 ·rename_i x hx;exact .inr ⟨h1,x,hx,of_decide_eq_true h2⟩
 cases h2
def PG(p:ay):Bool:=decide (((1≤p.name.size∧p.name.size≤6)∧Script p.name)∧(0≤p.st∧p.st≤1)∧p.bold=false)&&aut C2 p.head
theorem ML{p:ay}(h:PG p=true):Fq C2 p:=by
 simp only[PG,Bool.and_eq_true,decide_eq_true_eq] at h
 exact⟨h.1.1,fB h.2,h.1.2⟩
theorem adP{p:ay}(h:PG p=true):rJ p.name∧n7 C2 p.head:=by
 have:=ML h
 exact⟨⟨this.1.1,this.1.2⟩,this.2.1⟩
theorem Yv:∀p∈NU,PG p=true:=by decide
theorem Yw:∀p∈NW,PG p=true:=by decide
abbrev DY(n:Int)(fs:List cU):aI:={aU n with facts:=fs}
theorem aqr{n:Int}(h:0≤n∧n≤4)(hf:fs.length≤3)(h1:∀x∈fs,(0≤x.a∧x.a <3)∧(0≤x.b∧x.b <3))(h2:fs.Pairwise fun x y=>¬(x.a=y.a∧x.b=y.b)):kV (DY n fs) where
 pN:=⟨rfl,by simp,by simp[Bq],by simp[ali]⟩
 ways:=⟨(by decide:(1:Nat)≤1),by simp[jI]⟩
 dr:=⟨(by decide:(0:Nat) <4∧4≤6),(by decide:(6:Nat)≤6),HS⟩
 rules:=(by decide:(1:Nat)≤4)
 before:=⟨(by decide:(3:Nat)≤4),fun p hp=>⟨ML (Yv p hp),by
  simp only[NU,List.mem_cons,List.not_mem_nil,or_false] at hp
  rcases hp with rfl|rfl|rfl
  ·exact⟨_,rfl,by simp⟩
  ·exact⟨_,rfl,by simp⟩
  exact⟨_,rfl,by simp⟩⟩⟩
 after:=⟨(by decide:(3:Nat)≤4),fun p hp=>⟨ML (Yw p hp),by
  simp only[NW,List.mem_cons,List.not_mem_nil,or_false] at hp
  rcases hp with rfl|rfl|rfl<;>decide⟩⟩
 v9:=⟨(by decide:(0:Int)≤1∧(1:Int)≤4),(by decide:(0:Int)≤1∧(1:Int)≤4),h⟩
 facts:=⟨by show fs.length≤4;omega,h1⟩
 apart:=h2
theorem aqq{n:Int}(hf:fs.length≤3)(h1:∀x∈fs,(0≤x.a∧x.a <3)∧(0≤x.b∧x.b <3)):fe (DY n fs) where
 rules:=⟨(by decide:(1:Nat)≤4),by
  intro r hr
  rw[List.mem_singleton] at hr;subst hr
  have e:Wt ⟨bs [121],bs [105]⟩=true:=by kernel_rfl
  simp only[Wt,Bool.and_eq_true,Nat.ble_eq,Bool.not_eq_true'] at e
  exact⟨e.1,e.2.1,GD e.2.2.1,GD e.2.2.2.1,e.2.2.2.2⟩⟩
 before:=⟨(by decide:(3:Nat)≤4),fun p hp=>adP (Yv p hp)⟩
 after:=⟨(by decide:(3:Nat)≤4),fun p hp=>adP (Yw p hp)⟩
 dr:=⟨(by decide:(0:Nat) <4∧4≤6),(by decide:(6:Nat)≤6),aiI,by simp only[Ak];decide,fun i x hx=>⟨Vp i x hx,HS i x hx⟩,by simp only[Ak,Pc];decide⟩
 facts:=⟨by show fs.length≤4;omega,h1⟩
theorem aHA{v0 v1 v3 v4 v5 v6 v7 vb:Value}{fa fb:Option Addr}{fn fd:Nat}{g0 g1 g2:Int}{ro:Nat→Option Obj}(hs:∀v∈[v0,v1,(.slice fa 0 fc),v3,v4,v5,v6,v7,zI g0,zI g1,zI g2,(.slice fb fn fd)],single v=true):dt zT 38 [.agg ⟨[v0,v1,(.slice fa 0 fc),v3,v4,v5,v6,v7,zI g0,zI g1,zI g2,vb]⟩,(.slice fb fn fd)] ro (.agg ⟨[v0,v1,(.slice fa 0 fc),v3,v4,v5,v6,v7,zI g0,zI g1,zI g2,(.slice fb fn fd)]⟩):=by
 refine bD au [] [] ba<|zD 2<|jn fun b2=>jn fun b4=>jd 10 [1,1]<|jsx 0 b4 0 zO [v0,v1,(.slice fa 0 fc),v3,v4,v5,v6,v7,zI g0,zI g1,zI g2,(.slice fb fn fd)] 40 hs rfl<|zD 2<|aF q0 (.agg ⟨[v0,v1,(.slice fa 0 fc),v3,v4,v5,v6,v7,zI g0,zI g1,zI g2,(.slice fb fn fd)]⟩) [0] [] [] (Sub.refl _) ⟨_,_,rfl,rfl,rfl,rfl⟩
end Go.L
