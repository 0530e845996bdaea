/- Part 10 of the proof. -/
import Derived.Test.YtfamogolneloaaaGreatDoorG9
set_option maxRecDepth 100000
set_option linter.all false
namespace Go.L
open Go Go.Conc Go.Proofs
variable {ways:List (List aL)} {ys xs:List Int} {K:aM} {l z z1:List Value} {k b n fc b1 i bl b2 b3 r bw sz ck0 dep by1 ck en ec:Nat} {aI:Nat→Option Obj} {Stop:Cells→Prop} {x f y j:Int} {κ α:Type} {vS vT:Value} {hd:List cq} {fs:List fF} {B LE:Cells} {ag:Bool}
structure UF where
 a:Option Addr
 n:Nat
 c:Nat
 ea:Option Addr
 en:Nat
 ec:Nat
 r:Nat
abbrev ag7(t:UF):List Value:=[.slice t.a t.n t.c,.slice t.ea t.en t.ec,.map (some t.r)]
structure TrD where
 ways:List Int
 g:ak→ak
def aU1(ro:Nat→Option Obj)(r:Nat)(H:List ak)(g:ak→ak):Prop:=∃es ck F,ro r=some (.map es ck)∧tb oU F es ck∧(∀h∈H,h∈F.map (·.1))∧∀y∈F,bE ro y.2 3 cE [g y.1]
def TrR(H:List ak)(ro:Nat→Option Obj)(t:UF)(x:TrD):Prop:=bE ro (.slice t.a t.n t.c) 1 cv x.ways∧aU1 ro t.r H x.g
def TrO(H:List ak)(LL:Cells)(t:UF)(x:TrD):Prop:=∀aI,Knows aI LL→TrR H aI t x
abbrev amg(H:List ak)(L:List TrD):(Nat→Option Obj)→Nat→List Value→Cells→Prop:=fun _ k vs LL=>∃x t,L[k]?=some x∧vs=[.agg ⟨ag7 t⟩]∧TrO H LL t x
def apT(S:List (List ah))(l:List aL)(i:Nat):TrD:=⟨[(i:Int)],match l[i]? with
 |some c=>yB S c
 |none=>id⟩
def cU(S:List (List ah)):List (List aL)→List TrD
 | []=>[⟨[],id⟩]
 |l::_=>(List.range l.length).map (apT S l)
theorem IQ{S:List (List ah)}{l:List aL}{c:aL}(h:l[i]?=some c):(cU S [l])[i]?=some ⟨[(i:Int)],yB S c⟩:=by
 have hi:=(List.getElem?_eq_some_iff.1 h).1
 simp only[cU,List.getElem?_map,List.getElem?_range hi,Option.map_some,apT,h]
structure ya(ways:List (List aL)):Prop where
 one:ways.length≤1
 ok:∀l∈ways,(1≤l.length∧l.length≤3)∧∀c∈l,jv c
theorem aFU{c:aL}(h:jv c):1≤c.k∧c.k≤7:=by
 simp only[jv,List.mem_cons,List.not_mem_nil,or_false] at h
 rcases h with rfl|rfl|rfl|rfl|rfl<;>simp
theorem aoG{x:ak}:∀(u:List (ak×ak)) (y:ak),u.foldl (fun y p=>if x=p.1 then p.2 else y) y=y∨∃p∈u,u.foldl (fun y p=>if x=p.1 then p.2 else y) y=p.2
 | [],y=> .inl rfl
 |p::u,y=>by
  simp only[List.foldl_cons]
  rcases aoG (x:=x) u (if x=p.1 then p.2 else y) with h| ⟨q,hq,h⟩
  ·rw[h]
   split
   ·exact .inr ⟨p,by simp,rfl⟩
   exact .inl rfl
  exact .inr ⟨q,by simp[hq],h⟩
theorem auJ{u:List (ak×ak)}{x:ak}:gU u x=x∨∃p∈u,gU u x=p.2:=aoG u x
theorem acX{S:List (List ah)}{c:aL}(hc:jv c){x:ak}(hx:x.h=0∨x.h=1):(yB S c x).h=0∨(yB S c x).h=1:=by
 rcases auJ (u:=auV S c) (x:=x) with h| ⟨p,hp,h⟩
 ·rw[yB,h];exact hx
 rw[yB,h]
 simp only[jv,List.mem_cons,List.not_mem_nil,or_false] at hc
 rcases hc with rfl|rfl|rfl|rfl|rfl<;>simp[auV,abd,I0,JN,H5,mL] at hp
 ·obtain⟨_,_,_,_,_,rfl⟩:=hp;exact .inl rfl
 ·obtain⟨_,_,rfl⟩:=hp;exact .inl rfl
 ·obtain⟨_,_,_,_,_,rfl⟩:=hp;exact .inr rfl
 ·obtain⟨_,_,rfl⟩:=hp;exact .inr rfl
 obtain⟨_,_,rfl⟩:=hp;exact .inl rfl
theorem Pz{S:List (List ah)}(hO:e9 S){x:ak}(hx:x∈bC S):x.h=0∨x.h=1:=by
 obtain⟨j,l,p,h1,_,_,rfl⟩:=EK.1 hx
 have:=hO.two
 simp only[mL];omega
theorem QZ.up{ro:Nat→Option Obj}{H:List ak}{g:ak→ak}{es:Array MapEntry}{F:List (ak×Value)}(h:QZ ro r H g es ck F)(hs:Sub ro aI):QZ aI r H g es ck F:=⟨hs _ _ h.m,h.e,h.k,fun x hx=>(h.v x hx).up hs⟩
theorem aTM{v:Value}{S:List (List ah)}{c:aL}{ro:Nat→Option Obj}(hc:jv c)(hS:cR ro v S)(hO:e9 S):eE zT 194 [.agg ⟨[v]⟩,.agg ⟨mV c⟩] ro [] (fun r Y=>∃rm F LM Z,r= .tuple ⟨[.map (some rm),zI 0]⟩∧Y=LM++Z∧jV rm oU F LM∧F.map (·.1)=bC S∧MV Z F (yB S c)):=by
 simp only[jv,List.mem_cons,List.not_mem_nil,or_false] at hc
 rcases hc with rfl|rfl|rfl|rfl|rfl
 ·exact aFy hS hO
 ·exact aFx hS hO
 ·exact aFw hS hO
 ·exact aFv hS hO
 exact aFu hS hO
def IK(ro:Nat→Option Obj)(b:Nat)(S:List (List ah))(ways:List (List aL)):Prop:=∃vS vT vH fa fc,ro b=some (.cells ⟨[vS,vT,.slice fa 0 fc,vH]⟩ 212 (0,0))∧cR ro vS S∧nU ro vT ways∧bE ro vH 3 cE (bC S)
theorem IK.up{ro:Nat→Option Obj}{S:List (List ah)}(h:IK ro b S ways)(hs:Sub ro aI):IK aI b S ways:=by
 obtain⟨vS,vT,vH,fa,fc,h1,h2,h3,h4⟩:=h
 exact⟨vS,vT,vH,fa,fc,hs _ _ h1,h2.up hs,h3.up hs,h4.up hs⟩
theorem auP{fa:Option Addr}{S:List (List ah)}{ro:Nat→Option Obj}(hS:cR ro vS S)(hO:e9 S)(hT:nU ro vT ways)(hW:ya ways):eE zT 157 [.agg ⟨[vS,vT,.slice fa 0 fc]⟩] ro [] (fun r Y=>∃b vH LH,r= .tuple ⟨[zP b,zI 0]⟩∧Y=(b,.cells ⟨[vS,vT,.slice fa 0 fc,vH]⟩ 212 (0,0))::LH∧aA vH 3 164 cE (bC S) LH):=by
 have xU:=hS
 obtain⟨jk,hs,fT⟩:=hS
 obtain⟨mZ,Vw,Vu,mh,rfl,Vv,Ol,Ok⟩:=hs
 obtain⟨jO,ht,fK⟩:=id hT
 obtain⟨fp,Bd,Bb,ep,rfl,Bc,tk,tj⟩:=ht
 have Iu:=fT.len
 have EO:=fK.len
 have Iq:=hO.two
 have Au:=hW.one
 have Q8:∀(i:Nat) (p:eG),([]:List eG)[i]?=some p→cy ⟨ro,[]⟩ 0 (0+i*6) 6 (oL p):=fun _ _ h=>pn h
 refine bA au [] [] a8<|zD 2<|jn fun b1=>jd 8 [0]<|jp (vs:=[.agg ⟨[.slice mZ jk.length mh]⟩]) [] [] (fun aB hs hZ=>auO (xU.up hs) hO)<|jd 17 [0]<|zJ 21 ((jO.length:Int)>3) (fun h1=>?_) fun h1=>?_
 ·
  exfalso;omega
 refine jd 11 [0]<|dW [1,1,1,0,1,0,0] [] (fun(zz:Nat)=>[(1,zP b1),(23,.slice fp jO.length ep),(24,zI (jO.length:Int)),(25,zI (zz:Int))]) (fun(zz:Nat)=>[.b b1 (.cells ⟨[.slice mZ jk.length mh,.slice fp jO.length ep,.slice fa 0 fc]⟩ 31 (0,0))]) (fun(zz:Nat)=>zz≤jO.length) (fun(zz:Nat)=>jO.length-zz) 0 (by omega) [0] ?_
 rintro k hI K1 bK rest
 refine zD 5<|zJ 26 ((k:Int) <(jO.length:Int)) (fun h2=>?_) fun h2=>?_
 ·
  refine zD 6 ?_
  obtain⟨x27,Ip⟩:=zG jO k
  refine iK ep 1 tk Ip ?_
  obtain⟨l28,aQu,Zu⟩:=fK.get Ip
  obtain asV:=hW.ok _ (List.mem_of_getElem? aQu)
  obtain⟨ayY,bcb,bb9,aqH,rfl,bca,aNb,aNa⟩:=Zu
  refine jl 0 (tj _ _ Ip)<|jn fun b6=>jd 10 [0,0]<|zJ 32 ((l28.length:Int)=0) (fun h3=>?_) fun h3=>?_
  ·
   exfalso;omega
  refine jd 10 [0]<|zJ 36 ((l28.length:Int)>3) (fun h4=>?_) fun h4=>?_
  ·
   exfalso;omega
  refine jd 10 [0]<|dW [1,1,1,0,1,0,0,1,1,0,0,1,1,1,1,0,0] [K1] (fun(zz:Nat)=>[(1,zP b1),(23,.slice fp jO.length ep),(24,zI (jO.length:Int)),(25,zI (k:Int)),(38,.slice ayY l28.length aqH),(39,zI (l28.length:Int)),(40,zI (zz:Int))]) (fun(zz:Nat)=>[.b b6 (.cells ⟨[.slice ayY l28.length aqH]⟩ 81 (0,0)),.b b1 (.cells ⟨[.slice mZ jk.length mh,.slice fp jO.length ep,.slice fa 0 fc]⟩ 31 (0,0))]) (fun(zz:Nat)=>zz≤l28.length) (fun(zz:Nat)=>l28.length-zz) 0 (by omega) [0,1] ?_
  rintro i hJ K2 lg rest
  refine zD 5<|zJ 41 ((i:Int) <(l28.length:Int)) (fun h5=>?_) fun h5=>?_
  ·
   refine zD 6 ?_
   obtain⟨x42,S7⟩:=zG l28 i
   refine iK aqH 7 aNb S7<|jl 0 (aNa _ _ S7)<|jn fun b8=>jd 3 [0] ?_
   have WI:=aFU (asV.2 _ (List.mem_of_getElem? S7))
   refine jd 3 [0]<|jp (vs:=[zI x42.k,zI 1,zI 7]) [] [] (fun aB hs hZ=>AA)<|zD 2<|js 47 (!(iu x42.k 1 7)) (fun h6=>?_) (fun h6=>?_)
   ·
    try simp only[zB] at h6
    exfalso;simp only[iu,Bool.and_eq_false_iff,decide_eq_false_iff_not] at h6;omega
   try simp only[zB] at h6
   refine zD 3<|ja ((i:Int)+1) (by omega)<|zD 2<|bO lg (i+1) (by omega) (by omega) [1,2] (Sub.refl _)
  refine zD 3<|ja ((k:Int)+1) (by omega)<|zD 2<|bO bK (k+1) (by omega) (by omega) [1] (Sub.refl _)
 refine jd 17 [0,0,0]<|aO 3 fun tv tx rY=>jc (vs:=[.agg ⟨[.slice mZ jk.length mh]⟩]) [] (WU xU hO) ?_
 rintro v57 L57 alk
 obtain⟨apD,apt,atx⟩:=alk.form
 subst atx
 refine bI rY [1]<|zD 1<|aO 5 fun uM uO sR=>jn fun b59=>bI sR [1,2]<|jd 11 [2]<|dW [1,1,1,1,1,1,0,1,0,0] [] (fun(zz:Nat)=>[(1,zP b1),(9,zP b59),(61,.slice fa 0 fc),(62,zI 0),(63,zI 0)]) (fun(zz:Nat)=>[.b b59 (.cells ⟨[.slice mZ jk.length mh,.slice fp jO.length ep,.slice fa 0 fc,(.slice apD (bC S).length apt)]⟩ 212 (0,0)),.l L57,.b b1 (.cells ⟨[.slice mZ jk.length mh,.slice fp jO.length ep,.slice fa 0 fc]⟩ 31 (0,0))]) (fun(zz:Nat)=>True) (fun(zz:Nat)=>zz) 0 trivial [0,1,2] ?_
 rintro z hQ K5 hK5 rest
 refine zD 14<|aE q0 (.tuple ⟨[zP b59,zI 0]⟩) [] [0,1] ((b59,.cells ⟨[.slice mZ jk.length mh,.slice fp jO.length ep,.slice fa 0 fc,(.slice apD (bC S).length apt)]⟩ 212 (0,0))::L57) (Sub.refl _) ⟨_,_,rfl,rfl,_,_,_,rfl,rfl,alk⟩
structure aah(ro:Nat→Option Obj)(bl b b1 b2 b3:Nat):Prop where
 t:ro b1=some (.cells ⟨[zP b]⟩ 207 (0,0))
 y:ro b2=some (.cells ⟨[.func (.yield bl) #[] #[]]⟩ 283 (0,0))
 g:ro b3=some (.cells ⟨[.func (.func 192) ⟨[]⟩ ⟨[zP b1,zP b2,zP b3]⟩]⟩ 283 (0,0))
theorem aah.up{ro:Nat→Option Obj}(h:aah ro bl b b1 b2 b3)(hs:Sub ro aI):aah aI bl b b1 b2 b3:=⟨hs _ _ h.t,hs _ _ h.y,hs _ _ h.g⟩
theorem aFs{t:UF}{S:List (List ah)}{ro:Nat→Option Obj}(HQ:IK ro b S ways):de zT 193 [zP b,.agg ⟨[.slice t.a t.n t.c,.slice t.ea t.en t.ec,(.map (some t.r))]⟩] ro (.bool true):=by
 obtain⟨vS,vT,vH,fa,fc,gb,hS,hT,hHs⟩:=HQ
 have xU:=hS
 obtain⟨jk,hs,fT⟩:=hS
 obtain⟨mZ,Vw,Vu,mh,rfl,Vv,Ol,Ok⟩:=hs
 obtain⟨jO,ht,fK⟩:=id hT
 obtain⟨fp,Bd,Bb,ep,rfl,Bc,tk,tj⟩:=ht
 have Iu:=fT.len
 have EO:=fK.len
 have Q8:∀(i:Nat) (p:eG),([]:List eG)[i]?=some p→cy ⟨ro,[]⟩ 0 (0+i*6) 6 (oL p):=fun _ _ h=>pn h
 refine bA au [] [] a8<|zD 2<|jn fun b3=>zD 9<|jl (b:=b) (off:=0) (m:=4) (vs:=[.slice mZ jk.length mh,.slice fp jO.length ep,.slice fa 0 fc,vH]) 2 ⟨_,_,_,.inl gb,rfl⟩<|zD 4<|dW [1,0,1,0,0] [] (fun(zz:Nat)=>[(3,zP b3),(11,.slice fa 0 fc),(12,zI 0),(13,zI 0)]) (fun(zz:Nat)=>[.b b3 (.cells ⟨[.slice t.a t.n t.c,.slice t.ea t.en t.ec,(.map (some t.r))]⟩ 216 (0,0))]) (fun(zz:Nat)=>True) (fun(zz:Nat)=>zz) 0 trivial [0] ?_
 rintro z hI K1 bK rest
 refine zD 12<|aE q0 (.bool true) [] [] [] (Sub.refl _) ⟨_,_,rfl,rfl,rfl,rfl⟩
theorem agn{ro:Nat→Option Obj}:eE zT 158 [zP b] ro [] (fun r Y=>∃b1,r= .func (.func 191) ⟨[]⟩ ⟨[zP b1]⟩∧Y=[(b1,.cells ⟨[zP b]⟩ 207 (0,0))]):=by
 refine bA au [] [] a8<|zD 2<|jn fun b1=>zD 8<|aE q0 (.func (.func 191) ⟨[]⟩ ⟨[zP b1]⟩) [] [0] [(b1,.cells ⟨[zP b]⟩ 207 (0,0))] (Sub.refl _) ⟨_,_,rfl,rfl,_,rfl,rfl⟩
theorem agp{S:List (List ah)}{L:List TrD}{Inv:Nat→Cells→Prop}{t:UF}{x:TrD}{LL:Cells}{ro:Nat→Option Obj}(HQ:IK ro b S ways)(hC:aah ro bl b b1 b2 b3)(hn:t.n=ways.length)(hx:L[k]?=some x) (hR:TrO (bC S) LL t x) (hB:Inv k B) (hy:YOK zT bl ro L.length (amg (bC S) L) Inv Stop):eE zT 192 [.agg ⟨[.slice t.a t.n t.c,.slice t.ea t.en t.ec,(.map (some t.r))]⟩,zP b1,zP b2,zP b3] ro (LL++B) (fun r Y=>∃c,r= .bool c∧(c=true→Inv (k+1) Y)∧(c=false→Stop Y)):=by
 have alO:=HQ
 obtain⟨vS,vT,vH,fa,fc,gb,hS,hT,hHs⟩:=HQ
 have xU:=hS
 obtain⟨jk,hs,fT⟩:=hS
 obtain⟨mZ,Vw,Vu,mh,rfl,Vv,Ol,Ok⟩:=hs
 obtain⟨jO,ht,fK⟩:=id hT
 obtain⟨fp,Bd,Bb,ep,rfl,Bc,tk,tj⟩:=ht
 have Iu:=fT.len
 have EO:=fK.len
 have Q8:∀(i:Nat) (p:eG),([]:List eG)[i]?=some p→cy ⟨ro,[]⟩ 0 (0+i*6) 6 (oL p):=fun _ _ h=>pn h
 refine bA au [.l LL,.l B] [] a8<|zD 2<|jn fun b4=>jd 13 [0]<|jl (b:=b1) (off:=0) (m:=1) (vs:=[zP b]) 0 ⟨_,_,_,.inl hC.t,rfl⟩<|zD 3<|jl (b:=b) (off:=0) (m:=4) (vs:=[.slice mZ jk.length mh,.slice fp jO.length ep,.slice fa 0 fc,vH]) 1 ⟨_,_,_,.inl gb,rfl⟩<|zD 3<|zJ 21 ((t.n:Int)=(jO.length:Int)) (fun h1=>?_) fun h1=>?_
 ·
  refine zD 3<|jl (b:=b1) (off:=0) (m:=1) (vs:=[zP b]) 0 ⟨_,_,_,.inl hC.t,rfl⟩<|jd 1 [0]<|jp (vs:=[zP b,.agg ⟨[.slice t.a t.n t.c,.slice t.ea t.en t.ec,(.map (some t.r))]⟩]) [] [] (fun aB hs hZ=>aFs (t:=t) (alO.up hs))<|zD 2<|jl (b:=b2) (off:=0) (m:=1) (vs:=[(.func (.yield bl) #[] #[])]) 0 ⟨_,_,_,.inl hC.y,rfl⟩<|jd 1 [0]<|jyc [1,2] (hy k [.agg ⟨[.slice t.a t.n t.c,.slice t.ea t.en t.ec,(.map (some t.r))]⟩] LL B ro (List.getElem?_eq_some_iff.1 hx).1 ⟨x,t,hx,rfl,hR⟩ hB (Sub.refl _)) (Sub.refl _) ?_
  intro v29 Y29 aOZ
  obtain⟨c29,rfl,aRG,aRt⟩:=yb aOZ
  refine zD 4<|aE q0 (.bool c29) [] [0] Y29 (Sub.refl _) ⟨_,_,rfl,rfl,_,rfl,aRG,aRt⟩
 exfalso;omega
theorem aTI{S:List (List ah)}{l:List aL}{Inv:Nat→Cells→Prop}{ea:Option Addr}{r0:Nat}{es0:Array MapEntry}{F0:List (ak×Value)}{Z:Cells}{ro:Nat→Option Obj}(HQ:IK ro b S [l])(hO:e9 S)(hW:ya [l])(hC:aah ro bl b b1 b2 b3)(hE:∀aI,Knows aI LE→cR aI (.slice ea en ec) S)(hE0:tb oU F0 es0 ck0)(hk0:F0.map (·.1)=bC S)(hM0:MV Z F0 id)(hB:Inv 0 B)(hy:YOK zT bl ro (cU S [l]).length (amg (bC S) (cU S [l])) Inv Stop):eE zT 192 [.agg ⟨[zS,.slice ea en ec,(.map (some r0))]⟩,zP b1,zP b2,zP b3] ro (LE++(r0,.map es0 ck0)::(Z++B)) (fun r Y=>∃c,r= .bool c∧(c=true→Inv l.length Y)∧(c=false→Stop Y)):=by
 have alO:=HQ
 obtain⟨vS,vT,vH,fa,fc,gb,hS,hT,hHs⟩:=HQ
 have xU:=hS
 obtain⟨jk,hs,fT⟩:=hS
 obtain⟨w1,w2,rfl⟩:=pX (fT.len.trans hO.two)
 obtain⟨mZ,Vw,Vu,mh,rfl,Vv,Ol,Ok⟩:=hs
 obtain⟨jO,ht,fK⟩:=id hT
 obtain⟨fp,Bd,Bb,ep,rfl,Bc,tk,tj⟩:=ht
 have EO:=fK.len
 have Q8:∀(i:Nat) (p:eG),([]:List eG)[i]?=some p→cy ⟨ro,[]⟩ 0 (0+i*6) 6 (oL p):=fun _ _ h=>pn h
 refine bA au [.l LE,.b r0 (.map es0 ck0),.l Z,.l B] [] a8<|zD 2<|jn fun b4=>zD 1<|jf [1,2,3] (LE++((r0,.map es0 ck0)::Z)) (fun yp bW iL=>?_)
 have hE1:=hE _ (Knows.left iL)
 have HR:QZ yp r0 (bC S) id es0 ck0 F0:=⟨Knows.right iL _ (.head _),hE0,hk0,hM0 _ (Knows.tail (Knows.right iL))⟩
 refine jd 12 [0]<|jl (b:=b1) (off:=0) (m:=1) (vs:=[zP b]) 0 ⟨_,_,_,.inl (bW _ _ hC.t),rfl⟩<|zD 3<|jl (b:=b) (off:=0) (m:=4) (vs:=[.slice mZ 2 mh,.slice fp jO.length ep,.slice fa 0 fc,vH]) 1 ⟨_,_,_,.inl (bW _ _ gb),rfl⟩<|zD 3<|zJ 21 (0=(jO.length:Int)) (fun h4=>?_) fun h4=>?_
 ·
  exfalso;simp at EO;omega
 refine zD 4 ?_
 have Zf:jO.length=1:=EO
 refine zD 1<|jl (b:=b1) (off:=0) (m:=1) (vs:=[zP b]) 0 ⟨_,_,_,.inl (bW _ _ hC.t),rfl⟩<|zD 3<|jl (b:=b) (off:=0) (m:=4) (vs:=[.slice mZ 2 mh,.slice fp jO.length ep,.slice fa 0 fc,vH]) 1 ⟨_,_,_,.inl (bW _ _ gb),rfl⟩<|zD 1 ?_
 obtain⟨x37,YV⟩:=zG jO 0
 refine iK ep 1 tk YV<|zD 1 ?_
 obtain⟨l39,aBD,h39⟩:=fK.get YV
 obtain aQo:=hW.ok _ (List.mem_of_getElem? aBD)
 obtain afg:l39=l:=Option.some.inj (aBD.symm.trans rfl)
 obtain⟨aM5,bb4,bb0,ayS,rfl,bb3,aM4,aM3⟩:=h39
 refine jl 0 ((tj _ _ YV).ext (ub bW))<|zD 4<|dW [1,1,1,0,1,0,0] [] (fun(zz:Nat×Cells)=>[(1,zP b1),(3,zP b3),(4,zP b4),(39,.slice aM5 l39.length ayS),(40,zI (l39.length:Int)),(41,zI (zz.1:Int))]) (fun(zz:Nat×Cells)=>[.l zz.2,.b b4 (.cells ⟨[zS,.slice ea en ec,(.map (some r0))]⟩ 216 (0,0))]) (fun(zz:Nat×Cells)=>zz.1≤l39.length∧Inv zz.1 zz.2) (fun(zz:Nat×Cells)=>l39.length-zz.1) (⟨0,B⟩) ⟨by dsimp only;omega,hB⟩ [1,0] ?_
 rintro⟨i,B⟩ hI K1 bK rest
 dsimp only at hI
 refine zD 5<|zJ 42 ((i:Int) <(l39.length:Int)) (fun h5=>?_) fun h5=>?_
 ·
  refine zD 7 ?_
  obtain⟨XF,Io⟩:=zG l39 i
  refine iK ayS 7 aM4 Io<|jl 0 ((aM3 _ _ Io).ext (ub bW))<|jn fun b8=>jd 4 [0] ?_
  have hco:=aQo.2 _ (List.mem_of_getElem? Io)
  refine jd 4 [2,0]<|jc (vs:=[.agg ⟨[.slice ea en ec]⟩,.agg ⟨[zI XF.k,zI XF.st,zI XF.ot,zI XF.fn,zI XF.fl,zI XF.tn,zI XF.tl]⟩]) [] (aTM (c:=XF) hco (hE1.up (Sub.refl _)) hO) ?_
  rintro _ _ ⟨r9,F9,LM9,Z9,rfl,rfl,hm9,hk9,hM9⟩
  obtain⟨es9,ck9,rfl,hE9⟩:=hm9
  refine jg 0 [.b r9 (.map es9 ck9),.l Z9]<|zD 5<|jf [0,1] ((r9,.map es9 ck9)::Z9) (fun ro8 yK hk7=>?_)
  have hP2:QZ ro8 r9 (bC S) (yB S XF) es9 ck9 F9:=⟨hk7 _ (.head _),hE9,hk9,hM9 _ (Knows.tail hk7)⟩
  refine zD 11<|jl (b:=b3) (off:=0) (m:=1) (vs:=[.func (.func 192) ⟨[]⟩ ⟨[zP b1,zP b2,zP b3]⟩]) 0 ⟨_,_,_,.inl (yK _ _ (bW _ _ hC.g)),rfl⟩<|jd 4 [2]<|jl (b:=b1) (off:=0) (m:=1) (vs:=[zP b]) 0 ⟨_,_,_,.inl (yK _ _ (bW _ _ hC.t)),rfl⟩<|zD 4<|jl (b:=b) (off:=0) (m:=4) (vs:=[.slice mZ 2 mh,.slice fp jO.length ep,.slice fa 0 fc,vH]) 0 ⟨_,_,_,.inl (yK _ _ (bW _ _ gb)),rfl⟩<|jd 4 [2]<|nK [3,5] ⟨fun z2 t3 sR=>?_,fun z5 t6 TO=>?_,trivial⟩
  ·
   refine jc (vs:=[zS]) [] (aFz (bE.nil _ _ _ _ _) (by simp)) ?_
   rintro v58 L58 aeP
   obtain⟨aji,ajf,Tv⟩:=aeP.form
   subst Tv
   refine bI sR [1,2,3]<|aO 5 fun aaG abk hL8=>jn fun b60=>bI hL8 [1,2,3,4]<|aO 6 fun aaF abj Zo=>kL (sz:=1) (ps:=([]:List Int)) (qs:=[(i:Int)]) (enc:=cv) (w:= .slice (some ⟨b60,0,none⟩) 1 1) [1] [0] [(b60,.cells ⟨([(i:Int)].map cv).flatten⟩ 3 (0,0))] (aeP) (fun s _ hZ=>cb [(i:Int)] (hZ _ (.head _)) (by intro p hp;rfl)) (fun p _=>ar rfl) (by simp only[List.length_cons,List.length_nil];omega) (fun v61 L61 Gp=>?_)
   obtain⟨aa8,aa2,atw⟩:=Gp.form
   subst atw
   refine jA Zo [[4],[],[],[]]<|aO 15 fun IN IV yS=>jc (vs:=[(.map (some r9)),zI 2]) [] (agv (hP2.up (Sub.refl _)) (tY hO) (fun x hx=>acX hco (Pz hO (by rw[←hk9];exact List.mem_map_of_mem (f:=(·.1)) hx)))) ?_
   rintro _ L70 ⟨a70,n70,c70,rfl⟩
   refine bI yS [1,2,3,4,5]<|aO 19 fun Nv NR GH=>jc (vs:=[(.map (some r0)),(.map (some r9))]) [] (aoH (HR.up yK) (hP2.up (Sub.refl _))) ?_
   rintro _ _ ⟨r74,F74,aU6,Z74,rfl,rfl,asU,atf,at4⟩
   obtain⟨ME,MQ,rfl,auy⟩:=asU
   refine jg 0 [.b r74 (.map ME MQ),.l Z74]<|bI GH [2,3,4,5,6,7]<|zD 1<|aO 21 fun UQ U2 GG=>jc (vs:=[.agg ⟨[(.slice aa8 ((([]:List Int)++[(i:Int)])).length aa2),.slice a70 n70 c70,(.map (some r74))]⟩,zP b1,zP b2,zP b3]) [3,0,1,6] ((show eE _ _ _ _ (L61++(r74,.map ME MQ)::(Z74++B)) _ from by have:=agp (t:=⟨aa8,((([]:List Int)++[(i:Int)])).length,aa2,a70,n70,c70,r74⟩) (LL:=L61++(r74,.map ME MQ)::Z74) (alO.up (bW.trans yK)) (hC.up (bW.trans yK)) rfl (IQ (by rw[←afg];exact Io)) (fun aI hk=>⟨by simpa using Gp.lR (Knows.left hk),ME,MQ,F74,(Knows.right hk) _ (.head _),auy,atf,fun y hy=>at4 aI (Knows.tail (Knows.right hk)) y hy⟩) hI.2 (hy.up (bW.trans yK));rwa[List.append_assoc,List.cons_append] at this)) ?_
   rintro _ Y76 ⟨c76,rfl,atP,atK⟩
   refine jA GG [[],[]]<|zD 2<|js 77 (!c76) (fun GK=>?_) (fun GK=>?_)
   ·
    try simp only[zB] at GK
    refine zD 6<|aE q0.a.a (.bool false) [] [0] Y76 (bW.trans yK) ⟨_,_,rfl,rfl,_,rfl,nofun,fun _=>atK (by simp_all)⟩
   try simp only[zB] at GK
   refine zD 3<|ja ((i:Int)+1) (by omega)<|zD 2<|bO bK (⟨i+1,Y76⟩) ⟨by dsimp only;omega,atP (by simp_all)⟩ (by dsimp only;omega) [0,4] yK
  refine jn fun b60=>bI TO [1,2,3]<|aO 3 fun am1 ani Ms=>jc (vs:=[zS]) [] (aFz (bE.nil _ _ _ _ _) (by simp)) ?_
  rintro v58 L58 aeP
  obtain⟨aji,ajf,Tv⟩:=aeP.form
  subst Tv
  refine bI Ms [1,2,3,4]<|aO 6 fun awU axO auo=>kL (sz:=1) (ps:=([]:List Int)) (qs:=[(i:Int)]) (enc:=cv) (w:= .slice (some ⟨b60,0,none⟩) 1 1) [0] [1] [(b60,.cells ⟨([(i:Int)].map cv).flatten⟩ 3 (0,0))] (aeP) (fun s _ hZ=>cb [(i:Int)] (hZ _ (.head _)) (by intro p hp;rfl)) (fun p _=>ar rfl) (by simp only[List.length_cons,List.length_nil];omega) (fun v61 L61 Gp=>?_)
  obtain⟨aa8,aa2,atw⟩:=Gp.form
  subst atw
  refine jA auo [[4],[],[],[]]<|aO 15 fun aVP aWy aun=>jc (vs:=[(.map (some r9)),zI 2]) [] (agv (hP2.up (Sub.refl _)) (tY hO) (fun x hx=>acX hco (Pz hO (by rw[←hk9];exact List.mem_map_of_mem (f:=(·.1)) hx)))) ?_
  rintro _ L70 ⟨a70,n70,c70,rfl⟩
  refine bI aun [1,2,3,4,5]<|aO 19 fun aVO aWx P7=>jc (vs:=[(.map (some r0)),(.map (some r9))]) [] (aoH (HR.up yK) (hP2.up (Sub.refl _))) ?_
  rintro _ _ ⟨r74,F74,aU6,Z74,rfl,rfl,asU,atf,at4⟩
  obtain⟨ME,MQ,rfl,auy⟩:=asU
  refine jg 0 [.b r74 (.map ME MQ),.l Z74]<|bI P7 [2,3,4,5,6,7]<|zD 1<|aO 21 fun am0 anh Mr=>jc (vs:=[.agg ⟨[(.slice aa8 ((([]:List Int)++[(i:Int)])).length aa2),.slice a70 n70 c70,(.map (some r74))]⟩,zP b1,zP b2,zP b3]) [3,0,1,6] ((show eE _ _ _ _ (L61++(r74,.map ME MQ)::(Z74++B)) _ from by have:=agp (t:=⟨aa8,((([]:List Int)++[(i:Int)])).length,aa2,a70,n70,c70,r74⟩) (LL:=L61++(r74,.map ME MQ)::Z74) (alO.up (bW.trans yK)) (hC.up (bW.trans yK)) rfl (IQ (by rw[←afg];exact Io)) (fun aI hk=>⟨by simpa using Gp.lR (Knows.left hk),ME,MQ,F74,(Knows.right hk) _ (.head _),auy,atf,fun y hy=>at4 aI (Knows.tail (Knows.right hk)) y hy⟩) hI.2 (hy.up (bW.trans yK));rwa[List.append_assoc,List.cons_append] at this)) ?_
  rintro _ Y76 ⟨c76,rfl,atP,atK⟩
  refine jA Mr [[],[]]<|zD 2<|js 77 (!c76) (fun J3=>?_) (fun J3=>?_)
  ·
   try simp only[zB] at J3
   refine zD 6<|aE q0.a.a (.bool false) [] [0] Y76 (bW.trans yK) ⟨_,_,rfl,rfl,_,rfl,nofun,fun _=>atK (by simp_all)⟩
  try simp only[zB] at J3
  refine zD 3<|ja ((i:Int)+1) (by omega)<|zD 2<|bO bK (⟨i+1,Y76⟩) ⟨by dsimp only;omega,atP (by simp_all)⟩ (by dsimp only;omega) [0,4] yK
 refine zD 7<|aE q0.a (.bool true) [] [0] B bW ⟨_,_,rfl,rfl,_,rfl,(fun _=>by have:=hI.2;rwa[show i=l.length by rw[←afg];omega] at this),nofun⟩
theorem aFr{S:List (List ah)}{Inv:Nat→Cells→Prop}{ea:Option Addr}{r0:Nat}{es0:Array MapEntry}{F0:List (ak×Value)}{Z:Cells}{ro:Nat→Option Obj}(HQ:IK ro b S ways)(hO:e9 S)(hW:ya ways)(hC:aah ro bl b b1 b2 b3)(hE:∀aI,Knows aI LE→cR aI (.slice ea en ec) S)(hE0:tb oU F0 es0 ck0)(hk0:F0.map (·.1)=bC S)(hM0:MV Z F0 id)(hB:Inv 0 B)(hy:YOK zT bl ro (cU S ways).length (amg (bC S) (cU S ways)) Inv Stop):
 eE zT 192 [.agg ⟨[zS,.slice ea en ec,.map (some r0)]⟩,zP b1,zP b2,zP b3] ro (LE++(r0,.map es0 ck0)::(Z++B)) (fun r Y=>∃c,r= .bool c∧(c=true→Inv (cU S ways).length Y)∧(c=false→Stop Y)):=by
 match ways,hW with
 | [],_=>
  have:=agp (t:=⟨none,0,0,ea,en,ec,r0⟩) (x:=⟨[],id⟩) (k:=0) (LL:=LE++(r0,.map es0 ck0)::Z) HQ hC rfl rfl (fun aI hk=>⟨bE.nil _ _ _ _ _,es0,ck0,F0,(Knows.right hk) _ (.head _),hE0,fun h hh=>by rw[hk0];exact hh,hM0 _ (Knows.tail (Knows.right hk))⟩) hB hy
  rwa[List.append_assoc,List.cons_append] at this
 | [l],hW=>
  refine(aTI HQ hO hW hC hE hE0 hk0 hM0 hB hy).mono fun _ _ ⟨c,h1,h2,h3⟩=>⟨c,h1,fun h=>?_,h3⟩
  rw[show (cU S [l]).length=l.length by simp[cU]]
  exact h2 h
 |_::_::_,hW=>exact absurd hW.one (by simp)
theorem Zy{S:List (List ah)}{ro:Nat→Option Obj}(g1:ro b1=some (.cells ⟨[zP b]⟩ 207 (0,0)))(HQ:IK ro b S ways)(hO:e9 S)(hW:ya ways):ItX zT 191 [] [zP b1] ro [] (cU S ways).length (amg (bC S) (cU S ways)) (fun Z=>Z=[]):=by
 intro bl aB Inv Stop hs hy B hB
 replace g1:=hs _ _ g1
 replace HQ:=HQ.up hs
 have aSj:=HQ
 obtain⟨vS,vT,vH,fa,fc,gb,hS,hT,hHs⟩:=HQ
 have xU:=hS
 obtain⟨jk,n6,fT⟩:=hS
 obtain⟨ajK,bbM,bbI,ajJ,rfl,bbK,bbL,bbJ⟩:=n6
 obtain⟨jO,ht,fK⟩:=id hT
 obtain⟨fp,Bd,Bb,ep,rfl,Bc,tk,tj⟩:=ht
 have Q8:∀(i:Nat) (p:eG),([]:List eG)[i]?=some p→cy ⟨aB,[]⟩ 0 (0+i*6) 6 (oL p):=fun _ _ h=>pn h
 refine bA au [.l B] [] a8<|zD 2<|jn fun b2=>zD 3<|jn fun b3=>jd 5 [0]<|jf [1,0] ((b2,.cells ⟨[(.func (.yield bl) #[] #[])]⟩ 283 (0,0))::[(b3,.cells ⟨[.func (.func 192) ⟨[]⟩ ⟨[zP b1,zP b2,zP b3]⟩]⟩ 283 (0,0))]) fun yp bW iL=>zD 2<|jl (b:=b3) (off:=0) (m:=1) (vs:=[.func (.func 192) ⟨[]⟩ ⟨[zP b1,zP b2,zP b3]⟩]) 0 ⟨_,_,_,.inl (iL _ (.tail _ (.head _))),rfl⟩<|jl (b:=b1) (off:=0) (m:=1) (vs:=[zP b]) 0 ⟨_,_,_,.inl (bW _ _ g1),rfl⟩<|zD 3<|jl (b:=b) (off:=0) (m:=4) (vs:=[.slice ajK jk.length ajJ,.slice fp jO.length ep,.slice fa 0 fc,vH]) 0 ⟨_,_,_,.inl (bW _ _ gb),rfl⟩<|jl (b:=b1) (off:=0) (m:=1) (vs:=[zP b]) 0 ⟨_,_,_,.inl (bW _ _ g1),rfl⟩<|zD 3<|jl (b:=b) (off:=0) (m:=4) (vs:=[.slice ajK jk.length ajJ,.slice fp jO.length ep,.slice fa 0 fc,vH]) 0 ⟨_,_,_,.inl (bW _ _ gb),rfl⟩<|aO 6 fun Dz DJ Bn=>jc (vs:=[.agg ⟨[.slice ajK jk.length ajJ]⟩]) [] (al7 (xU.up bW) hO) ?_
 rintro _ L11 ⟨a11,n11,c11,rfl,aTc⟩
 refine bI Bn [1]<|aO 12 fun Dy DI Ck=>jc (vs:=[.agg ⟨[.slice ajK jk.length ajJ]⟩]) [] (J7 (xU.up bW) hO) ?_
 rintro _ _ ⟨r17,F17,bgL,Z17,rfl,rfl,aeY,Zh,aSu⟩
 obtain⟨aTZ,aUc,rfl,aTb⟩:=aeY
 refine jg 0 [.b r17 (.map aTZ aUc),.l Z17]<|bI Ck [2,3]<|zD 1<|aO 14 fun tv tx rY=>jc (vs:=[.agg ⟨[zS,.slice a11 n11 c11,(.map (some r17))]⟩,zP b1,zP b2,zP b3]) [2,0,1,3] (aFr (aSj.up bW) hO hW ⟨(bW _ _ g1),iL _ (.head _),iL _ (.tail _ (.head _))⟩ aTc aTb Zh aSu hB (YOK.up hy bW)) ?_
 rintro _ Y19 ⟨c19,rfl,aRJ,aRw⟩
 refine jA rY [[],[]]<|zD 1<|aE q0.a (.tuple ⟨[]⟩) [] [0] Y19 bW ⟨_,_,rfl,rfl,[],Y19,rfl,rfl,by cases c19 with|true=>exact .inl (aRJ rfl)|false=>exact .inr (aRw rfl)⟩
theorem E9{S:List (List ah)}(hW:ya ways):(cU S ways).length≤3:=by
 match ways,hW with
 | [],_=>simp[cU]
 |l::_,hW=>
  have:=(hW.ok l (by simp)).1.2
  simpa [cU] using this
theorem agu{fa:Option Addr}{S:List (List ah)}{ro:Nat→Option Obj}(hS:cR ro vS S)(hO:e9 S)(hT:nU ro vT ways)(hW:ya ways):FnG zT 122 [.agg ⟨[vS,vT,.slice fa 0 fc]⟩] ro [] (fun r aB Y=>∃b vl ts Lt Z,r= .tuple ⟨[zP b,vl,zI 0]⟩∧IK aB b S ways∧Y=Lt++Z∧aA vl 3 216 ag7 ts Lt∧ts.length=(cU S ways).length∧∀aI,Knows aI Z→dj (TrR (bC S) aI) ts (cU S ways)):=by
 have xU:=hS
 obtain⟨jk,hs,fT⟩:=hS
 obtain⟨mZ,Vw,Vu,mh,rfl,Vv,Ol,Ok⟩:=hs
 obtain⟨jO,ht,fK⟩:=id hT
 obtain⟨fp,Bd,Bb,ep,rfl,Bc,tk,tj⟩:=ht
 have Iu:=fT.len
 have EO:=fK.len
 have Iq:=hO.two
 have Au:=hW.one
 have Q8:∀(i:Nat) (p:eG),([]:List eG)[i]?=some p→cy ⟨ro,[]⟩ 0 (0+i*6) 6 (oL p):=fun _ _ h=>pn h
 refine aAc (hm:=au) [] [] a8<|zD 2<|jn fun b1=>jd 7 [0]<|jc (vs:=[.agg ⟨[.slice mZ jk.length mh,.slice fp jO.length ep,.slice fa 0 fc]⟩]) [] (auP xU hO hT hW) ?_
 rintro _ _ ⟨Ry,axm,aGN,rfl,rfl,asL⟩
 refine jg 0 [.b Ry (.cells ⟨[.slice mZ jk.length mh,.slice fp jO.length ep,.slice fa 0 fc,axm]⟩ 212 (0,0)),.l aGN]<|zD 5<|jf [0,1] ((Ry,.cells ⟨[.slice mZ jk.length mh,.slice fp jO.length ep,.slice fa 0 fc,axm]⟩ 212 (0,0))::aGN) (fun yp bW iL=>?_)
 have HQ:IK yp Ry S ways:=⟨_,_,_,_,_,iL _ (.head _),xU.up bW,hT.up bW,asL.lR (Knows.tail iL)⟩
 refine zD 10 ?_
 have hLn:(cU S ways).length≤3:=E9 hW
 refine zD 1<|jn fun b7=>zD 5<|jc (vs:=[zP Ry]) [] (agn) ?_
 rintro _ _ ⟨anR,rfl,rfl⟩
 refine jg 0 [.b anR (.cells ⟨[zP Ry]⟩ 207 (0,0))]<|jf [0] [(anR,.cells ⟨[zP Ry]⟩ 207 (0,0))] fun ro6 ky Wz=>zD 2<|pE<|pE<|jrf [] (Zy (Wz _ (.head _)) (HQ.up ky) hO hW) (by rintro _ _ _ _ ⟨_,_,_,rfl,_⟩;rfl) (fun(zz:Value×Cells×(List UF)×Cells)=>[.b b7 (.cells ⟨[zz.1]⟩ 208 (0,0)),.l zz.2.1,.l zz.2.2.2]) (fun kk=>(fun(zz:Value×Cells×(List UF)×Cells)=>aA zz.1 3 216 ag7 zz.2.2.1 zz.2.1∧zz.2.2.1.length=kk∧(∀aI,Knows aI zz.2.2.2→dj (TrR (bC S) aI) zz.2.2.1 ((cU S ways).take kk))∧(cU S ways).length≤3)) (fun jump=>(fun(zz:Value×Cells×(List UF)×Cells)=>False)) (⟨zS,[],[],[]⟩) ⟨aA.nil _ _ _,rfl,fun _ _=> .nil,hLn⟩ [2,0,1] ?_ ?_ ?_
 ·
  rintro bl7 bd7 kk7 vs7 LL7 ⟨vl,Lt,ts,Z⟩ ro7 hk7 aQ0 hI rS
  obtain⟨x7,t7,hx7,rfl,hR7⟩:=aQ0
  dsimp only at hI
  have bV:=(List.getElem?_eq_some_iff.1 hx7).1
  refine zD 1<|jn fun b8=>jd 2 [0]<|aAg<|jd 4 [2,0]<|jn fun m9=>kL (sz:=3) (ps:=ts) (qs:=[(⟨t7.a,t7.n,t7.c,t7.ea,t7.en,t7.ec,t7.r⟩:UF)]) (enc:=ag7) (w:= .slice (some ⟨m9,0,none⟩) 1 1) [4] [0] [(m9,.cells ⟨([(⟨t7.a,t7.n,t7.c,t7.ea,t7.en,t7.ec,t7.r⟩:UF)].map ag7).flatten⟩ 216 (0,0))] (hI.1) (fun s _ hZ=>cb [(⟨t7.a,t7.n,t7.c,t7.ea,t7.en,t7.ec,t7.r⟩:UF)] (hZ _ (.head _)) (by intro p hp;rfl)) (fun p _=>ar rfl) (by simp only[List.length_cons,List.length_nil];omega) (fun v23 L23 yM=>?_)
  obtain⟨aKU,aKv,atD⟩:=yM.form
  subst atD
  refine jd 2 [4]<|jyn Yg (Sub.refl _) ⟨(.slice aKU ((ts++[(⟨t7.a,t7.n,t7.c,t7.ea,t7.en,t7.ec,t7.r⟩:UF)])).length aKv),L23,(ts++[(⟨t7.a,t7.n,t7.c,t7.ea,t7.en,t7.ec,t7.r⟩:UF)]),LL7++Z⟩ ⟨yM,by simp only[List.length_append,List.length_cons,List.length_nil];omega,fun aI hk=>xw (hI.2.2.1 aI (Knows.right hk)) hx7 (hR7 aI (Knows.left hk)),hI.2.2.2⟩ [3,4,0,6,5]
 ·
  rintro bd7 ⟨vl,Lt,ts,Z⟩ Z7 hI hZ7
  dsimp only at hI
  subst hZ7
  refine jd 9 [2]<|aOr qm0.a.a.m (.tuple ⟨[zP Ry,vl,zI 0]⟩) [0] [] [2,3] (Lt++Z) (Sub.refl _) ⟨_,_,_,rfl,rfl,(bW.trans ky),Ry,vl,ts,Lt,Z,rfl,HQ.up ky,rfl,hI.1,hI.2.1,by have:=hI.2.2.1;rwa[List.take_of_length_le (Nat.le_refl _)] at this⟩
 rintro bd7 ⟨vl,Lt,ts,Z⟩ Z7 jump hS hZ7
 exact hS.elim
def wv(t:UF):Value:= .slice t.a t.n t.c
theorem dj.maps{β γ δ:Type}{R:α→β→Prop}{T:γ→δ→Prop}{f:α→γ}{g:β→δ}(h:∀a b,R a b→T (f a) (g b)):∀ {l:List α} {m:List β},dj R l m→dj T (l.map f) (m.map g)
 | [],[],.nil=> .nil
 |_::_,_::_,.cons h1 h2=> .cons (h _ _ h1) (dj.maps h h2)
theorem Yo{y:ak}{l:List ak}(h:y∈l):bG (pg y.h y.n y.l) l 0≥0:=by
 have key:∀(l:List ak) (k:Nat),y∈l→bG (pg y.h y.n y.l) l k≥0:=by
  intro l
  induction l with
  |nil=>intro k h;cases h
  |cons x l ih=>
   intro k h
   simp only[bG]
   cases hx:pg y.h y.n y.l x with
   |true=>simp
   |false=>
    simp only[cond_false]
    rcases List.mem_cons.1 h with rfl|h
    ·simp[pg] at hx
    exact ih _ h
 exact key l 0 h
theorem al5{fa:Option Addr}{S:List (List ah)}{ro:Nat→Option Obj}(hS:cR ro vS S)(hO:e9 S)(hT:nU ro vT ways)(hW:ya ways):eE zT 118 [.agg ⟨[vS,vT,.slice fa 0 fc]⟩] ro [] (fun r Y=>∃a n c,r= .tuple ⟨[.slice a n c,zI 0]⟩∧n=((cU S ways).map (·.ways)).length∧∀lT,Knows lT Y→ahQ lT (.slice a n c) ((cU S ways).map (·.ways))):=by
 have xU:=hS
 obtain⟨jk,hs,fT⟩:=hS
 obtain⟨mZ,Vw,Vu,mh,rfl,Vv,Ol,Ok⟩:=hs
 obtain⟨jO,ht,fK⟩:=id hT
 obtain⟨fp,Bd,Bb,ep,rfl,Bc,tk,tj⟩:=ht
 have Iu:=fT.len
 have EO:=fK.len
 have Iq:=hO.two
 have Au:=hW.one
 have Q8:∀(i:Nat) (p:eG),([]:List eG)[i]?=some p→cy ⟨ro,[]⟩ 0 (0+i*6) 6 (oL p):=fun _ _ h=>pn h
 have hLn:=E9 (S:=S) hW
 refine bA au [] [] a8<|zD 2<|jn fun b1=>jd 6 [0]<|jcG (vs:=[.agg ⟨[.slice mZ jk.length mh,.slice fp jO.length ep,.slice fa 0 fc]⟩]) [] (agu xU hO hT hW) ?_
 rintro _ aB _ bW ⟨jJ,vl,ts,Lt,Z,rfl,HQ,rfl,hL,htl,hA⟩
 obtain⟨uS,uT,uH,ua,uc,gb,_,_,hh⟩:=HQ
 obtain⟨dN,u4,u3,dD,rfl,xD,qV,qU⟩:=hh
 obtain⟨aKZ,aKA,aRk⟩:=hL.form
 subst aRk
 refine jg 0 [.l Lt,.l Z]<|zD 28<|pE<|dW [1,1,1,1,0,1,0,0] [] (fun(zz:Nat×Value×Cells)=>[(2,zS),(3,zI 0),(7,zz.2.1),(19,(.slice aKZ ts.length aKA)),(20,zI (ts.length:Int)),(21,zI (zz.1:Int))]) (fun(zz:Nat×Value×Cells)=>[.l zz.2.2,.l Lt,.l Z,.b b1 (.cells ⟨[.slice mZ jk.length mh,.slice fp jO.length ep,.slice fa 0 fc]⟩ 31 (0,0))]) (fun(zz:Nat×Value×Cells)=>zz.1≤ts.length∧aA zz.2.1 1 22 ir ((ts.take zz.1).map wv) zz.2.2) (fun(zz:Nat×Value×Cells)=>ts.length-zz.1) (⟨0,zS,[]⟩) ⟨by dsimp only;omega,aA.nil _ _ _⟩ [0,1,2,3] ?_
 rintro⟨k,vO,LO⟩ hI K1 bK rest
 dsimp only at hI
 refine zD 5<|zJ 22 ((k:Int) <(ts.length:Int)) (fun h2=>?_) fun h2=>?_
 ·
  refine zD 6 ?_
  obtain⟨u1,sM⟩:=zG ts k
  refine jxo 3 hL sM fun b23 aR7=>oQ 0 [1] Lt (fun s _ hZ=>cD hL aR7 hZ sM)<|jn fun b9=>jd 6 [0,0]<|jn fun b28=>kL (sz:=1) (ps:=((ts.take k).map wv)) (qs:=[(.slice u1.a u1.n u1.c:Value)]) (enc:=ir) (w:= .slice (some ⟨b28,0,none⟩) 1 1) [2] [0] [(b28,.cells ⟨([(.slice u1.a u1.n u1.c:Value)].map ir).flatten⟩ 22 (0,0))] (hI.2) (fun s _ hZ=>cb [(.slice u1.a u1.n u1.c:Value)] (hZ _ (.head _)) (by intro p hp;rfl)) (by intro p hp;rw[List.mem_singleton] at hp;subst hp;exact ar rfl) (by simp only[List.length_map,List.length_take,List.length_cons,List.length_nil];omega) (fun v29 L29 Gs=>?_)
  obtain⟨aba,aa4,afh⟩:=Gs.form
  subst afh
  refine zD 3<|ja ((k:Int)+1) (by omega)<|zD 2<|bO bK (⟨k+1,(.slice aba ((((ts.take k).map wv)++[(.slice u1.a u1.n u1.c:Value)])).length aa4),L29⟩) ⟨by dsimp only;omega,by rw[fx sM,List.map_append];exact Gs⟩ (by dsimp only;omega) [0,3,4,5] (Sub.refl _)
 refine zD 3 ?_
 obtain⟨va3,vc3,he3⟩:=hI.2.form
 subst he3
 refine zD 6<|aE q0.a (.tuple ⟨[(.slice va3 (((ts.take k).map wv)).length vc3),zI 0]⟩) [] [0,2] (LO++Z) bW ⟨_,_,rfl,rfl,_,_,_,rfl,by simp only[List.length_map,List.length_take];omega,fun lT hk=>⟨_,hI.2.lR (Knows.left hk),by rw[List.take_of_length_le (by omega)];exact(hA lT (Knows.right hk)).maps fun _ _ h=>h.1⟩⟩
theorem auH{fa:Option Addr}{S:List (List ah)}{y:ak}{x:TrD}{ro:Nat→Option Obj}(hS:cR ro vS S)(hO:e9 S)(hT:nU ro vT ways)(hW:ya ways)(hy:y∈bC S)(hLx:cU S ways=[x]):eE zT 85 [.agg ⟨[vS,vT,.slice fa 0 fc]⟩,.agg ⟨[zI y.h,zI y.n,zI y.l]⟩] ro [] (fun r Y=>∃a n c,r= .tuple ⟨[.slice a n c,zI 0]⟩∧∀lT,Knows lT Y→bE lT (.slice a n c) 3 cE [x.g y]):=by
 have xU:=hS
 obtain⟨jk,hs,fT⟩:=hS
 obtain⟨mZ,Vw,Vu,mh,rfl,Vv,Ol,Ok⟩:=hs
 obtain⟨jO,ht,fK⟩:=id hT
 obtain⟨fp,Bd,Bb,ep,rfl,Bc,tk,tj⟩:=ht
 have Iu:=fT.len
 have EO:=fK.len
 have Iq:=hO.two
 have Au:=hW.one
 have Q8:∀(i:Nat) (p:eG),([]:List eG)[i]?=some p→cy ⟨ro,[]⟩ 0 (0+i*6) 6 (oL p):=fun _ _ h=>pn h
 have hhl:=tY hO
 have hph:=Yo hy
 have Bn:(cU S ways).length=1:=by rw[hLx];rfl
 refine bA au [] [] a8<|zD 2<|jn fun b2=>jn fun b3=>jd 6 [1]<|jcG (vs:=[.agg ⟨[.slice mZ jk.length mh,.slice fp jO.length ep,.slice fa 0 fc]⟩]) [] (agu xU hO hT hW) ?_
 rintro _ aB _ bW ⟨Xs,vl,ts,Lt,Z,rfl,HQ,rfl,hL,htl,hA⟩
 obtain⟨uS,uT,uH,ua,uc,gb,_,_,hh⟩:=HQ
 obtain⟨dN,u4,u3,dD,rfl,xD,qV,qU⟩:=hh
 obtain⟨KD,H3,xK⟩:=hL.form
 subst xK
 refine jg 0 [.l Lt,.l Z]<|zD 22<|jl (b:=Xs) (off:=0) (m:=4) (vs:=[uS,uT,.slice ua 0 uc,.slice dN ((bC S).length) dD]) 3 ⟨_,_,_,.inl gb,rfl⟩<|jd 1 [2]<|jp (vs:=[.slice dN ((bC S).length) dD,.agg ⟨[zI y.h,zI y.n,zI y.l]⟩]) [] [] (fun aB hs hZ=>JM ((show bE _ _ _ _ _ from ⟨dN,u4,u3,dD,rfl,xD,qV,qU⟩).up hs) (by omega))<|zD 2<|js 27 (!(decide (bG (pg y.h y.n y.l) (bC S) 0≥0))) (fun h2=>?_) (fun h2=>?_)
 ·
  exfalso;simp_all
 refine zD 9<|zJ 30 ((ts.length:Int)=0) (fun h3=>?_) fun h3=>?_
 ·
  exfalso;omega
 refine zD 5<|jf [0,1] (Lt++Z) (fun ro6 ky Wz=>?_)
 have hLs:=hL.lR (Knows.left Wz)
 have hAs:=hA _ (Knows.right Wz)
 obtain⟨mj,Ld,Lc,mi,Rh,Om,Jh,Jg⟩:=hLs
 simp only[Value.slice.injEq] at Rh
 obtain⟨rfl,_,rfl⟩:=Rh
 refine zD 9<|pE<|dW [1,1,1,1,1,1,0,1,0,0] [] (fun(zz:Nat×Value×Cells)=>[(3,zP b3),(4,zS),(5,zI 0),(9,zz.2.1),(31,.slice KD ts.length H3),(32,zI (ts.length:Int)),(33,zI (zz.1:Int))]) (fun(zz:Nat×Value×Cells)=>[.l zz.2.2,.b b3 (.cells ⟨[zI y.h,zI y.n,zI y.l]⟩ 164 (0,0)),.b b2 (.cells ⟨[.slice mZ jk.length mh,.slice fp jO.length ep,.slice fa 0 fc]⟩ 31 (0,0))]) (fun(zz:Nat×Value×Cells)=>zz.1≤ts.length∧aA zz.2.1 3 164 cE ([x.g y].take zz.1) zz.2.2) (fun(zz:Nat×Value×Cells)=>ts.length-zz.1) (⟨0,zS,[]⟩) ⟨by dsimp only;omega,aA.nil _ _ _⟩ [0,1,2] ?_
 rintro⟨k,vO,LO⟩ hI K1 bK rest
 dsimp only at hI
 refine zD 5<|zJ 34 ((k:Int) <(ts.length:Int)) (fun h7=>?_) fun h7=>?_
 ·
  refine zD 6 ?_
  obtain⟨x35,S8⟩:=zG ts k
  refine iK H3 3 Jh S8<|jl 0 (Jg _ _ S8)<|jn fun Ry=>jd 2 [0] ?_
  obtain⟨q35,aAV,_,bfH,bfK,F35,aQp,aTa,aQB,aPi⟩:=hAs.get S8
  obtain⟨hqe,hk0⟩:=FM (by rw[hLx] at aAV;exact aAV)
  replace hqe:=hqe.symm
  subst hqe
  refine jd 5 [0,2]<|jlu (kv:=oU) (F:=F35) (r:=x35.r) (K:=164) y (zS) false [] [] De (fun s he _=>⟨_,_,he _ _ (.inl aQp),aTa⟩) ?_
  obtain⟨w41,aPa,aQn⟩:=VZ (k:=y) (F:=F35) (aQB y hy)
  have hww:bE _ w41 3 cE [x.g y]:=aPi _ aQn
  obtain⟨Sw,qwb,qwo,KY,rfl,qwk,qwh,qwl⟩:=hww
  refine jw 41 (.slice Sw ([x.g y].length) KY) (show Pb (zS) false y F35=_ from by simp only[Pb,aPa];rfl) ?_
  refine kL (sz:=3) (ps:=([x.g y].take k)) (qs:=[x.g y]) (enc:=cE) (w:= .slice Sw ([x.g y].length) KY) [1] [] [] (hI.2) (fun s he _=>⟨Sw,qwb,qwo,KY,rfl,qwh,fun i p hp=>(qwl i p hp).ext he⟩) (fun p _=>ar rfl) (by simp only[List.length_take,List.length_cons,List.length_nil];omega) (fun v42 L42 aez=>?_)
  obtain⟨aKM,aKn,aRc⟩:=aez.form
  subst aRc
  refine zD 3<|ja ((k:Int)+1) (by omega)<|zD 2<|bO bK (⟨k+1,(.slice aKM ((([x.g y].take k)++[x.g y])).length aKn),L42⟩) ⟨by dsimp only;omega,by have:=aez;rw[hk0] at this ⊢;exact this⟩ (by dsimp only;omega) [0,2,3] (Sub.refl _)
 refine zD 5<|jcL (vs:=[vO]) [] [0] LO (fun aB hs hZ=>WT (hI.2.lR hZ) (by simp only[List.length_take,List.length_cons,List.length_nil];omega)) ?_
 rintro v45 L45 aA8
 obtain⟨apF,apv,aty⟩:=aA8.form
 subst aty
 refine zD 4<|aE q0.a.a (.tuple ⟨[(.slice apF (([x.g y].take k)).length apv),zI 0]⟩) [] [0] L45 (bW.trans ky) ⟨_,_,rfl,rfl,_,_,_,rfl,fun lT hk=>by have:=aA8.lR hk;have e: [x.g y].take k=[x.g y]:=List.take_of_length_le (by simp only[List.length_cons,List.length_nil];omega);simpa only[e] using this⟩
def Ym(S:List (List ah))(ways:List (List aL))(w:List Int)(x:aG):List ak:=match ways,w with
 |l::_,i::_=>(match l[i.toNat]? with
  |some c=>[yB S c ⟨x.st,x.no,0⟩]
  |none=>[])
 |_,_=>[⟨x.st,x.no,0⟩]
def WW(K:aM):List (List Int):=(cU K.str K.ways).map (·.ways)
theorem UE{l:List aL}{w:List Int}(h:K.ways=[l])(hw:w∈WW K):∃(i:Nat) (c:aL),l[i]?=some c∧w=[(i:Int)]:=by
 simp only[WW,h,cU,List.map_map,List.mem_map,List.mem_range,Function.comp,apT] at hw
 obtain⟨i,hi,rfl⟩:=hw
 exact⟨i,l[i],List.getElem?_eq_getElem hi,rfl⟩
theorem mz.wp(h:mz K):ya K.ways:=⟨h.ways.1,fun l hl=>⟨⟨(h.ways.2 l hl).1.1,by have:=(h.ways.2 l hl).1.2;omega⟩,(h.ways.2 l hl).2⟩⟩
theorem VF(h:mz K):K.ways=[]∨∃l,K.ways=[l]:=by
 have:=h.ways.1
 match hw:K.ways,this with
 | [],_=>exact .inl rfl
 | [l],_=>exact .inr ⟨l,rfl⟩
theorem aaU(h:mz K):UD K (WW K):=by
 rcases VF h with e| ⟨l,e⟩
 ·exact⟨by simp[WW,e,cU],fun w hw=>by simp[WW,e,cU] at hw;simp[hw,e],fun w hw k l n hl=>by simp[e] at hl⟩
 have hl:=(h.ways.2 l (by simp[e])).1
 refine⟨by simp[WW,e,cU];omega,fun w hw=>?_,fun w hw k l' n hk hn=>?_⟩
 ·obtain⟨i,c,_,rfl⟩:=UE e hw;simp[e]
 obtain⟨i,c,hi,rfl⟩:=UE e hw
 rw[e] at hk
 obtain⟨rfl,rfl⟩:=FM hk
 obtain⟨rfl,_⟩:=FM hn
 have:=(List.getElem?_eq_some_iff.1 hi).1
 omega
theorem abe{ro:Nat→Option Obj}(hK:gk ro l K)(hO:mz K):qI ro l (WW K):=by
 obtain⟨vS,vT,vc,vh,vr,vb,va,vf,fa,fc,hv,rfl,hS,hT,_⟩:=hK
 intro aB hs
 exact al5 (hS.up hs) hO.rN (hT.up hs) hO.wp
theorem Yt{S:List (List ah)}{x:aG}(h:amP S hd x):(⟨x.st,x.no,0⟩:ak)∈bC S:=by
 obtain⟨l,h1,h2⟩:=h.2
 have:=Gu h1 h2
 simp only[mL] at this
 rwa[show ((x.st.toNat:Nat):Int)=x.st by have:=h.1.2.2.1;omega] at this
theorem amm{l:List aL}{c:aL}(h:l[i]?=some c):(l.take ((i:Int).toNat+1)).drop (i:Int).toNat=[c]:=by
 rw[Int.toNat_natCast,fx h,List.drop_append_of_le_length (by have:=(List.getElem?_eq_some_iff.1 h).1;rw[List.length_take];omega),List.drop_eq_nil_of_le (by rw[List.length_take];omega)];rfl
theorem ai6{ro:Nat→Option Obj}(hK:gk ro l K)(hO:mz K):xy ro l K (WW K) (Ym K.str K.ways):=by
 obtain⟨vS,vT,vc,vh,vr,vb,va,vf,fa,fc,hv,rfl,hS,hT,_⟩:=hK
 intro w hw x hx
 have hy:=Yt (hO.before.2 x hx)
 have fin:∀(t:TrD),ya (AR K.ways w)→cU K.str (AR K.ways w)=[t]→Ym K.str K.ways w x=[t.g ⟨x.st,x.no,0⟩]→(Ym K.str K.ways w x).length≤1000∧∀aB,Sub ro aB→∀v vS' vT' vU r,[vS,vT,.slice fa 0 fc,vc,vh,vr,vb,va,zI K.gone,zI K.new,zI K.af,vf]=vS'::vT'::vU::r→nU aB v (AR K.ways w)→
  eE zT 85 [.agg ⟨[vS',v,vU]⟩,.agg ⟨[zI x.st,zI x.no,zI 0]⟩] aB [] (fun r Y=>∃a n c,r= .tuple ⟨[.slice a n c,zI 0]⟩∧∀lT,Knows lT Y→bE lT (.slice a n c) 3 cE (Ym K.str K.ways w x)):=by
  intro t h1 h2 h3
  rw[h3]
  refine⟨by simp,fun aB hs v vS' vT' vU r he hv=>?_⟩
  simp only[List.cons.injEq] at he
  obtain⟨rfl,_,rfl,_⟩:=he
  exact auH (hS.up hs) hO.rN hv h1 hy h2
 rcases VF hO with e| ⟨l,e⟩
 ·refine fin ⟨[],id⟩ ?_ ?_ ?_
  ·rw[e];exact⟨by simp[AR],by simp[AR]⟩
  ·rw[e];simp[AR,cU]
  rw[e];rfl
 obtain⟨i,c,hi,rfl⟩:=UE e hw
 have hc:AR K.ways [(i:Int)]=[[c]]:=by rw[e];simp only[AR,List.zipWith_cons_cons,List.zipWith_nil_right,amm hi]
 refine fin ⟨[0],yB K.str c⟩ ?_ ?_ ?_
 ·rw[hc]
  refine⟨by simp,fun l' hl=>?_⟩
  rw[List.mem_singleton] at hl;subst hl
  exact⟨by simp,fun c' sQ=>by rw[List.mem_singleton] at sQ;subst sQ;exact(hO.ways.2 l (by simp[e])).2 _ (List.mem_of_getElem? hi)⟩
 ·rw[hc];rfl
 rw[e];simp only[Ym,Int.toNat_natCast,hi]
def fG(K:aM):List bH:=(WW K).map (lD K (Ym K.str K.ways))
theorem jo(h:mz K):(fG K).length≤2:=by
 rw[fG,List.length_map];exact(aaU h).n.2
theorem qG{ro:Nat→Option Obj}(hK:gk ro l K)(hO:mz K)(hV:fy K):gZ ro l K (fG K):=
 amF hK hO hV (aaU hO) (abe hK hO) (ai6 hK hO)
def eN(K:aM):Nat:=(dc K (bF K) (cP K.gone K.new K.af) (fG K)).length
theorem GO:∀(l:List Int) (a:Int),l.foldl min a≤a∧∀x∈l,l.foldl min a≤x
 | [],a=>⟨Int.le_refl _,fun _ h=>(by cases h)⟩
 |y::l,a=>by
  obtain⟨h1,h2⟩:=GO l (min a y)
  refine⟨by simp only[List.foldl_cons];omega,fun x hx=>?_⟩
  rcases List.mem_cons.1 hx with rfl|hx
  ·simp only[List.foldl_cons];omega
  exact h2 x hx
theorem LD{l:List Int}(h:x∈l):uR l≤x:=by
 cases l with
 |nil=>cases h
 |cons y l=>
  rcases List.mem_cons.1 h with rfl|h
  ·exact(GO l _).1
  exact(GO l _).2 x h
theorem akQ{ro:Nat→Option Obj}(hK:gk ro l K)(hO:mz K)(hV:fy K):Bs zT 36 [.agg ⟨l⟩] ro [] (fun r Y=>∃zs m e,zs.Perm (dc K (bF K) (fun _=>true) (fG K))∧Y=[]∧r= .tuple ⟨[zI m,zI e]⟩∧((zs=[]∧m=0∧e=9)∨(zs≠[]∧m=uR (zs.map Fe)∧e=0))):=
 fun fr=>Fn.mono (arM hK hV (jo hO) (qG hK hO hV) fr) fun en s' ⟨v,Y,h1,h2,zs,h3,h4,h5⟩=>⟨v,Y,h1,h2,by
  rcases h5 with ⟨h5,h6⟩| ⟨h5,h6⟩
  ·exact⟨zs,0,9,h3,h4,h6,.inl ⟨h5,rfl,rfl⟩⟩
  exact⟨zs,_,0,h3,h4,h6,.inr ⟨h5,rfl,rfl⟩⟩⟩
theorem adz{ro:Nat→Option Obj}(hK:gk ro l K)(hO:mz K)(hV:fy K):Bs zT 15 [.agg ⟨l⟩] ro [] (fun r Y=>r= .tuple ⟨[zI (eN K:Int),zI 0]⟩∧Y=[]):=adA hK hV (jo hO) (qG hK hO hV)
def G3:List Int→List Int→Bool
 | [],[]=>true
 |x::l,y::m=>decide (x=y)&&G3 l m
 |_,_=>false
theorem agY:∀ {l m:List Int},¬l.length=m.length→G3 l m=false
 | [],[],h=>absurd rfl h
 | [],_::_,_=>rfl
 |_::_,[],_=>rfl
 |x::l,y::m,h=>by rw[G3,agY (l:=l) (m:=m) (by simpa using h),Bool.and_false]
theorem agZ(hx:xs[k]?=some x) (hy:ys[k]?=some y):G3 (xs.drop k) (ys.drop k)=(decide (x=y)&&G3 (xs.drop (k+1)) (ys.drop (k+1))):=by rw[fN hx,fN hy];rfl
theorem amd(hx:¬k <xs.length)(h:xs.length=ys.length):G3 (xs.drop k) (ys.drop k)=true:=by rw[eA hx,eA (by omega)];rfl
def Ek:List (List Int)→List (List Int)→Bool
 | [],[]=>true
 |x::l,y::m=>G3 x y&&Ek l m
 |_,_=>false
theorem W6:∀ {l m:List (List Int)},¬l.length=m.length→Ek l m=false
 | [],[],h=>absurd rfl h
 | [],_::_,_=>rfl
 |_::_,[],_=>rfl
 |x::l,y::m,h=>by rw[Ek,W6 (l:=l) (m:=m) (by simpa using h),Bool.and_false]
theorem W7{xs ys:List (List Int)}{x y:List Int}(hx:xs[k]?=some x) (hy:ys[k]?=some y):Ek (xs.drop k) (ys.drop k)=(G3 x y&&Ek (xs.drop (k+1)) (ys.drop (k+1))):=by rw[fN hx,fN hy];rfl
theorem agX{xs ys:List (List Int)}(hx:¬k <xs.length)(h:xs.length=ys.length):Ek (xs.drop k) (ys.drop k)=true:=by rw[eA hx,eA (by omega)];rfl
def x3:List Int→List Int→Int
 | [],[]=>0
 | [],_::_=> -1
 |_::_,[]=>1
 |x::xs,y::ys=>if qS x y=0 then x3 xs ys else qS x y
theorem QG(hx:xs[k]?=some x) (hy:ys[k]?=some y):x3 (xs.drop k) (ys.drop k)=if qS x y=0 then x3 (xs.drop (k+1)) (ys.drop (k+1)) else qS x y:=by rw[fN hx,fN hy];rfl
theorem ZM(hx:xs[k]?=some x) (hy:¬k <ys.length):x3 (xs.drop k) (ys.drop k)=1:=by rw[fN hx,eA hy];rfl
theorem Ko(hx:¬k <xs.length):x3 (xs.drop k) (ys.drop k)=if k <ys.length then-1 else 0:=by
 rw[eA hx]
 split
 ·rename_i h
  rw[List.drop_eq_getElem_cons h];rfl
 rename_i h
 rw[eA h];rfl
def lX(f:Int):Nat→List Int
 |0=>[]
 |k+1=>lX f k++(bif hasB f k then [(k:Int)] else [])
theorem aku(h:hasB f (k:Int)=true):lX f (k+1)=lX f k++[(k:Int)]:=by rw[lX,h];rfl
theorem akv(h:hasB f (k:Int)=false):lX f (k+1)=lX f k:=by rw[lX,h];exact List.append_nil _
theorem JJ(f:Int)(n:Nat):(lX f n).length≤n:=by
 induction n with
 |zero=>exact Nat.le_refl _
 |succ n ih=>rw[lX,List.length_append];cases hasB f (n:Int)<;>simp<;>omega
def yu(f:Int):Int:=([0,1,1,2,1,2,2,3,1,2,2,3,2,3,3,4]:List Int).getD f.toNat 0
theorem Vy(h:0≤f∧f <16):0≤yu f∧yu f≤8:=by
 obtain⟨n,rfl⟩:=Int.eq_ofNat_of_zero_le h.1
 have h2:n <16:=by omega
 revert h2
 exact(by decide:∀n:Nat,n <16→0≤yu (n:Int)∧yu (n:Int)≤8) n
def QE(x y:Int):Int:=if yu x-yu y=0 then x3 (lX x 4) (lX y 4) else yu x-yu y
theorem ag8{v w:Value}{ro:Nat→Option Obj}(hv:bE ro v 1 cv xs)(hw:bE ro w 1 cv ys)(hx:xs.length≤1000)(hy:ys.length≤1000):de zT 12 [v,w] ro (.bool (G3 xs ys)):=by
 obtain⟨KZ,qvb,qvo,Ba,rfl,qvk,Oi,Oh⟩:=hv
 obtain⟨Sw,qwb,qwo,KY,rfl,qwk,qwh,qwl⟩:=hw
 refine bA au [] [] a8<|zD 13<|js 10 (!decide ((xs.length:Int)=(ys.length:Int))) (fun h1=>?_) (fun h1=>?_)
 ·
  replace h1:=of_decide_eq_false (by simpa using h1)
  refine zD 6<|aE q0 (.bool false) [] [] [] (Sub.refl _) ⟨_,_,rfl,rfl,by rw[agY (by omega)],rfl⟩
 replace h1:=of_decide_eq_true (by simpa using h1)
 refine zD 8<|dW [1,1,0,1,0,0] [] (fun(zz:Nat)=>[(0,.slice KZ xs.length Ba),(1,.slice Sw ys.length KY),(5,zI (zz:Int))]) (fun(zz:Nat)=>[]) (fun(zz:Nat)=>zz≤xs.length∧G3 xs ys=G3 (xs.drop zz) (ys.drop zz)) (fun(zz:Nat)=>xs.length-zz) 0 ⟨by omega,rfl⟩ [] ?_
 rintro k hI K1 bK rest
 refine zD 8<|zJ 14 ((k:Int) <(xs.length:Int)) (fun h2=>?_) fun h2=>?_
 ·
  refine zD 8 ?_
  obtain⟨EB,xH⟩:=zG xs k
  refine iK Ba 1 Oi xH<|jl 0 (Oh _ _ xH)<|zD 2 ?_
  obtain⟨u1,sM⟩:=zG ys k
  refine iK KY 1 qwh sM<|jl 0 (qwl _ _ sM)<|zD 2<|js 25 (!decide (EB=u1)) (fun h3=>?_) (fun h3=>?_)
  ·
   replace h3:=of_decide_eq_false (by simpa using h3)
   refine zD 6<|aE q0 (.bool false) [] [] [] (Sub.refl _) ⟨_,_,rfl,rfl,by rw[hI.2,agZ xH sM,decide_eq_false (by omega),Bool.false_and],rfl⟩
  replace h3:=of_decide_eq_true (by simpa using h3)
  refine zD 4<|ja ((k:Int)+1) (by omega)<|zD 2<|bO bK (k+1) ⟨by omega,by rw[hI.2,agZ xH sM,decide_eq_true (by omega),Bool.true_and]⟩ (by omega) [] (Sub.refl _)
 refine zD 7<|aE q0 (.bool true) [] [] [] (Sub.refl _) ⟨_,_,rfl,rfl,by rw[hI.2,amd (by omega) (by omega)],rfl⟩
theorem aOM{v w:Value}{ro:Nat→Option Obj}(hv:bE ro v 1 cv xs)(hw:bE ro w 1 cv ys)(hx:xs.length≤1000)(hy:ys.length≤1000):de zT 116 [v,w] ro (zI (x3 xs ys)):=by
 obtain⟨KZ,qvb,qvo,Ba,rfl,qvk,Oi,Oh⟩:=hv
 obtain⟨Sw,qwb,qwo,KY,rfl,qwk,qwh,qwl⟩:=hw
 refine bA au [] [] a8<|zD 12<|dW [1,0,1,0,0] [] (fun(zz:Nat)=>[(0,.slice KZ xs.length Ba),(1,.slice Sw ys.length KY),(9,.slice KZ xs.length Ba),(10,zI (xs.length:Int)),(11,zI (zz:Int))]) (fun(zz:Nat)=>[]) (fun(zz:Nat)=>(zz≤xs.length∧zz≤ys.length)∧x3 xs ys=x3 (xs.drop zz) (ys.drop zz)) (fun(zz:Nat)=>xs.length-zz) 0 ⟨by omega,rfl⟩ [] ?_
 rintro k hI K1 bK rest
 refine zD 5<|zJ 12 ((k:Int) <(xs.length:Int)) (fun h1=>?_) fun h1=>?_
 ·
  refine zD 7 ?_
  obtain⟨dZ,dw⟩:=zG xs k
  refine iK Ba 1 Oi dw<|jl 0 (Oh _ _ dw)<|zD 11<|zJ 19 ((k:Int)≥(ys.length:Int)) (fun h2=>?_) fun h2=>?_
  ·
   refine zD 6<|aE q0 (zI 1) [] [] [] (Sub.refl _) ⟨_,_,rfl,rfl,by rw[hI.2,ZM dw (by omega)],rfl⟩
  refine zD 6 ?_
  obtain⟨r8,tU⟩:=zG ys k
  refine iK KY 1 qwh tU<|jl 0 (qwl _ _ tU)<|zD 6<|jp (vs:=[zI dZ,zI r8]) [] [] (fun aB hs hZ=>auN)<|zD 7<|js 28 (!decide ((qS dZ r8)=0)) (fun h3=>?_) (fun h3=>?_)
  ·
   replace h3:=of_decide_eq_false (by simpa using h3)
   refine zD 7<|aE q0 (zI (qS dZ r8)) [] [] [] (Sub.refl _) ⟨_,_,rfl,rfl,by rw[hI.2,QG dw tU,if_neg (by omega)],rfl⟩
  replace h3:=of_decide_eq_true (by simpa using h3)
  refine zD 3<|ja ((k:Int)+1) (by omega)<|zD 2<|bO bK (k+1) ⟨by omega,by rw[hI.2,QG dw tU,if_pos (by omega)]⟩ (by omega) [] (Sub.refl _)
 refine zD 11<|zJ 35 ((xs.length:Int) <(ys.length:Int)) (fun h4=>?_) fun h4=>?_
 ·
  refine zD 6<|aE q0 (zI (-1)) [] [] [] (Sub.refl _) ⟨_,_,rfl,rfl,by rw[hI.2,Ko (by omega),if_pos (by omega)],rfl⟩
 refine zD 7<|aE q0 (zI 0) [] [] [] (Sub.refl _) ⟨_,_,rfl,rfl,by rw[hI.2,Ko (by omega),if_neg (by omega)],rfl⟩
theorem agH{ro:Nat→Option Obj}:eE zT 81 [.int .u8 f] ro [] (fun r Y=>∃L,aA r 1 3 cv (lX f 4) L∧Y=L):=by
 refine bA au [] [] a8<|zD 14<|pE<|dW [1,1,0,1,0,0] [] (fun(zz:Nat×Value×Cells)=>[(0,.int .u8 f),(2,zS),(3,zz.2.1),(5,zI (zz.1:Int))]) (fun(zz:Nat×Value×Cells)=>[.l zz.2.2]) (fun(zz:Nat×Value×Cells)=>zz.1≤4∧aA zz.2.1 1 3 cv (lX f zz.1) zz.2.2) (fun(zz:Nat×Value×Cells)=>4-zz.1) (⟨0,zS,[]⟩) ⟨by dsimp only;omega,aA.nil _ _ _⟩ [0] ?_
 rintro⟨k,v,L⟩ hI K1 bK rest
 dsimp only at hI
 have hll:=JJ f k
 refine zD 5<|zJ 6 ((k:Int) <4) (fun h1=>?_) fun h1=>?_
 ·
  refine zD 13<|jp (vs:=[.int .u8 f,zI (k:Int)]) [] [] (fun aB hs hZ=>(arO (by omega)))<|zD 1<|js 10 (hasB f (k:Int)) (fun h2=>?_) (fun h2=>?_)
  ·
   refine zD 4<|jn fun zi=>kL (sz:=1) (ps:=(lX f k)) (qs:=[(k:Int)]) (enc:=cv) (w:= .slice (some ⟨zi,0,none⟩) 1 1) [1] [0] [(zi,.cells ⟨([(k:Int)].map cv).flatten⟩ 3 (0,0))] (hI.2) (fun s _ hZ=>cb [(k:Int)] (hZ _ (.head _)) (by intro p hp;rfl)) (fun p _=>ar rfl) (by simp<;>omega) (fun v14 L14 tX=>?_)
   obtain⟨KD,H3,xK⟩:=tX.form
   subst xK
   refine zD 3<|ja ((k:Int)+1) (by omega)<|zD 2<|bO bK (⟨k+1,(.slice KD (((lX f k)++[(k:Int)])).length H3),L14⟩) ⟨by dsimp only;omega,by dsimp only;rw[aku (by assumption)];exact tX⟩ (by dsimp only;omega) [0] (Sub.refl _)
  refine zD 3<|ja ((k:Int)+1) (by omega)<|zD 2<|bO bK (⟨k+1,v,L⟩) ⟨by dsimp only;omega,by dsimp only;rw[akv (by assumption)];exact hI.2⟩ (by dsimp only;omega) [0] (Sub.refl _)
 refine zD 8<|aE q0 (v) [] [0] L (Sub.refl _) ⟨_,_,rfl,rfl,_,(by rw[←show k=4 by omega];exact hI.2),rfl⟩
theorem arJ{ro:Nat→Option Obj}:de zT 115 [.int .u8 0] ro (zI 0):=by
 refine bA au [] [] a8<|zD 12<|aE q0 (zI 0) [] [] [] (Sub.refl _) ⟨_,_,rfl,rfl,rfl,rfl⟩
theorem arI{ro:Nat→Option Obj}:de zT 115 [.int .u8 1] ro (zI 1):=by
 refine bA au [] [] a8<|zD 12<|aE q0 (zI 1) [] [] [] (Sub.refl _) ⟨_,_,rfl,rfl,rfl,rfl⟩
theorem arH{ro:Nat→Option Obj}:de zT 115 [.int .u8 2] ro (zI 1):=by
 refine bA au [] [] a8<|zD 12<|aE q0 (zI 1) [] [] [] (Sub.refl _) ⟨_,_,rfl,rfl,rfl,rfl⟩
theorem arG{ro:Nat→Option Obj}:de zT 115 [.int .u8 3] ro (zI 2):=by
 refine bA au [] [] a8<|zD 12<|aE q0 (zI 2) [] [] [] (Sub.refl _) ⟨_,_,rfl,rfl,rfl,rfl⟩
theorem arF{ro:Nat→Option Obj}:de zT 115 [.int .u8 4] ro (zI 1):=by
 refine bA au [] [] a8<|zD 12<|aE q0 (zI 1) [] [] [] (Sub.refl _) ⟨_,_,rfl,rfl,rfl,rfl⟩
theorem arE{ro:Nat→Option Obj}:de zT 115 [.int .u8 5] ro (zI 2):=by
 refine bA au [] [] a8<|zD 12<|aE q0 (zI 2) [] [] [] (Sub.refl _) ⟨_,_,rfl,rfl,rfl,rfl⟩
theorem arD{ro:Nat→Option Obj}:de zT 115 [.int .u8 6] ro (zI 2):=by
 refine bA au [] [] a8<|zD 12<|aE q0 (zI 2) [] [] [] (Sub.refl _) ⟨_,_,rfl,rfl,rfl,rfl⟩
theorem arC{ro:Nat→Option Obj}:de zT 115 [.int .u8 7] ro (zI 3):=by
 refine bA au [] [] a8<|zD 12<|aE q0 (zI 3) [] [] [] (Sub.refl _) ⟨_,_,rfl,rfl,rfl,rfl⟩
theorem arB{ro:Nat→Option Obj}:de zT 115 [.int .u8 8] ro (zI 1):=by
 refine bA au [] [] a8<|zD 12<|aE q0 (zI 1) [] [] [] (Sub.refl _) ⟨_,_,rfl,rfl,rfl,rfl⟩
theorem arA{ro:Nat→Option Obj}:de zT 115 [.int .u8 9] ro (zI 2):=by
 refine bA au [] [] a8<|zD 12<|aE q0 (zI 2) [] [] [] (Sub.refl _) ⟨_,_,rfl,rfl,rfl,rfl⟩
theorem akM{ro:Nat→Option Obj}:de zT 115 [.int .u8 10] ro (zI 2):=by
 refine bA au [] [] a8<|zD 12<|aE q0 (zI 2) [] [] [] (Sub.refl _) ⟨_,_,rfl,rfl,rfl,rfl⟩
theorem akL{ro:Nat→Option Obj}:de zT 115 [.int .u8 11] ro (zI 3):=by
 refine bA au [] [] a8<|zD 12<|aE q0 (zI 3) [] [] [] (Sub.refl _) ⟨_,_,rfl,rfl,rfl,rfl⟩
theorem akK{ro:Nat→Option Obj}:de zT 115 [.int .u8 12] ro (zI 2):=by
 refine bA au [] [] a8<|zD 12<|aE q0 (zI 2) [] [] [] (Sub.refl _) ⟨_,_,rfl,rfl,rfl,rfl⟩
theorem akJ{ro:Nat→Option Obj}:de zT 115 [.int .u8 13] ro (zI 3):=by
 refine bA au [] [] a8<|zD 12<|aE q0 (zI 3) [] [] [] (Sub.refl _) ⟨_,_,rfl,rfl,rfl,rfl⟩
theorem akI{ro:Nat→Option Obj}:de zT 115 [.int .u8 14] ro (zI 3):=by
 refine bA au [] [] a8<|zD 12<|aE q0 (zI 3) [] [] [] (Sub.refl _) ⟨_,_,rfl,rfl,rfl,rfl⟩
theorem akH{ro:Nat→Option Obj}:de zT 115 [.int .u8 15] ro (zI 4):=by
 refine bA au [] [] a8<|zD 12<|aE q0 (zI 4) [] [] [] (Sub.refl _) ⟨_,_,rfl,rfl,rfl,rfl⟩
theorem anX{ro:Nat→Option Obj}(h:0≤f∧f <16):de zT 115 [.int .u8 f] ro (zI (yu f)):=by
 obtain rfl|rfl|rfl|rfl|rfl|rfl|rfl|rfl|rfl|rfl|rfl|rfl|rfl|rfl|rfl|rfl:=(by omega:f=0∨f=1∨f=2∨f=3∨f=4∨f=5∨f=6∨f=7∨f=8∨f=9∨f=10∨f=11∨f=12∨f=13∨f=14∨f=15)
 ·exact arJ
 ·exact arI
 ·exact arH
 ·exact arG
 ·exact arF
 ·exact arE
 ·exact arD
 ·exact arC
 ·exact arB
 ·exact arA
 ·exact akM
 ·exact akL
 ·exact akK
 ·exact akJ
 ·exact akI
 exact akH
def LL(ro:Nat→Option Obj)(v:Value)(W:List (List Int)):Prop:=∃ws,bE ro v 1 ir ws∧dj (fun w l=>bE ro w 1 cv l) ws W
theorem auX{v w:Value}{ws us:List Value}{W U:List (List Int)}{ro:Nat→Option Obj}(hv:bE ro v 1 ir ws)(hw:bE ro w 1 ir us)(ha:dj (fun w l=>bE ro w 1 cv l) ws W)(hb:dj (fun w l=>bE ro w 1 cv l) us U)(hx:W.length≤1000)(hy:U.length≤1000)(hW:∀l∈W,l.length≤1000)(hU:∀l∈U,l.length≤1000):de zT 41 [v,w] ro (.bool (Ek W U)):=by
 obtain⟨KZ,qvb,qvo,Ba,rfl,qvk,Oi,Oh⟩:=hv
 obtain⟨Sw,qwb,qwo,KY,rfl,qwk,qwh,qwl⟩:=hw
 have hla:=ha.len
 have hlb:=hb.len
 refine bA au [] [] a8<|zD 13<|js 10 (!decide ((ws.length:Int)=(us.length:Int))) (fun h1=>?_) (fun h1=>?_)
 ·
  replace h1:=of_decide_eq_false (by simpa using h1)
  refine zD 6<|aE q0 (.bool false) [] [] [] (Sub.refl _) ⟨_,_,rfl,rfl,by rw[W6 (by omega)],rfl⟩
 replace h1:=of_decide_eq_true (by simpa using h1)
 refine zD 8<|dW [1,1,0,1,0,0] [] (fun(zz:Nat)=>[(0,.slice KZ ws.length Ba),(1,.slice Sw us.length KY),(5,zI (zz:Int))]) (fun(zz:Nat)=>[]) (fun(zz:Nat)=>zz≤W.length∧Ek W U=Ek (W.drop zz) (U.drop zz)) (fun(zz:Nat)=>W.length-zz) 0 ⟨by omega,rfl⟩ [] ?_
 rintro k hI K1 bK rest
 refine zD 8<|zJ 14 ((k:Int) <(ws.length:Int)) (fun h2=>?_) fun h2=>?_
 ·
  refine zD 8 ?_
  obtain⟨EB,xH⟩:=zG ws k
  refine iK Ba 1 Oi xH ?_
  obtain⟨l20,as4,Zw⟩:=ha.get xH
  obtain asW:=hW _ (List.mem_of_getElem? as4)
  obtain⟨ay9,aNo,aNk,ay8,rfl,aNm,aNn,aNl⟩:=Zw
  refine jl 0 (Oh _ _ xH)<|zD 2 ?_
  obtain⟨u1,sM⟩:=zG us k
  refine iK KY 1 qwh sM ?_
  obtain⟨SU,Tq,h24⟩:=hb.get sM
  obtain aBu:=hU _ (List.mem_of_getElem? Tq)
  obtain⟨aqI,ay2,ay0,aca,rfl,ay1,ajS,ajR⟩:=h24
  refine jl 0 (qwl _ _ sM)<|jp (vs:=[.slice ay9 l20.length ay8,.slice aqI SU.length aca]) [] [] (fun aB hs hZ=>ag8 ((show bE _ _ _ _ _ from ⟨ay9,aNo,aNk,ay8,rfl,aNm,aNn,aNl⟩).up hs) ((show bE _ _ _ _ _ from ⟨aqI,ay2,ay0,aca,rfl,ay1,ajS,ajR⟩).up hs) asW aBu)<|zD 2<|js 26 (!(G3 l20 SU)) (fun h3=>?_) (fun h3=>?_)
  ·
   try simp only[zB] at h3
   refine zD 6<|aE q0 (.bool false) [] [] [] (Sub.refl _) ⟨_,_,rfl,rfl,by rw[hI.2,W7 as4 Tq];simp_all,rfl⟩
  try simp only[zB] at h3
  refine zD 4<|ja ((k:Int)+1) (by omega)<|zD 2<|bO bK (k+1) ⟨by omega,by rw[hI.2,W7 as4 Tq];simp_all⟩ (by omega) [] (Sub.refl _)
 refine zD 7<|aE q0 (.bool true) [] [] [] (Sub.refl _) ⟨_,_,rfl,rfl,by rw[hI.2,agX (by omega) (by omega)],rfl⟩
theorem Pc:(lX f 4).length≤1000:=Nat.le_trans (JJ f 4) (by decide)
def DZ:Nat→List Int→List Int
 |0,ys=>ys
 |j+1,ys=>if QE (ys.getD (j+1) 0) (ys.getD j 0) <0 then DZ j ((ys.set (j+1) (ys.getD j 0)).set j (ys.getD (j+1) 0)) else ys
def Fi:Nat→Nat→List Int→List Int
 |0,_,ys=>ys
 |n+1,i,ys=>Fi n (i+1) (DZ i ys)
def C3(xs:List Int):List Int:=Fi (xs.length-1) 1 xs
theorem YM(h:¬j>0):DZ j.toNat ys=ys:=by rw[show j.toNat=0 by omega];rfl
theorem al3(h:ys[i]?=some x):ys.getD i 0=x:=by rw[List.getD_eq_getElem?_getD,h];rfl
theorem YN(hj:j>0)(hx:ys[j.toNat]?=some x) (hy:ys[(j-1).toNat]?=some y) (h:¬QE x y <0):DZ j.toNat ys=ys:=by
 have e:j.toNat=(j-1).toNat+1:=by omega
 rw[e] at hx ⊢
 rw[DZ,al3 hx,al3 hy,if_neg h]
theorem We{x' y':Int}(hj:j>0)(hx:ys[j.toNat]?=some x) (hy:ys[(j-1).toNat]?=some y) (lK:ys[j.toNat]?=some x') (YS:ys[(j-1).toNat]?=some y') (h:QE x y <0):DZ j.toNat ys=DZ (j-1).toNat ((ys.set j.toNat y').set (j-1).toNat x'):=by
 rw[hx] at lK;rw[hy] at YS;cases lK;cases YS
 have e:j.toNat=(j-1).toNat+1:=by omega
 rw[e] at hx ⊢
 rw[DZ,al3 hx,al3 hy,if_pos h]
def M6(v:Value)(xs:List Int)(Y:Cells):Prop:=∃ys,ys=C3 xs∧aA v 1 120 Rx ys Y
theorem R7{i:Int}(h:C3 xs=Fi (n-i.toNat) i.toNat ys)(hi:0≤i∧i <n):C3 xs=Fi (n-(i+1).toNat) (i+1).toNat (DZ i.toNat ys):=by
 rw[h,show n-i.toNat=(n-(i+1).toNat)+1 by omega,show (i+1).toNat=i.toNat+1 by omega];rfl
theorem XS{i:Int}(h:C3 xs=Fi (n-i.toNat) i.toNat ys)(hi:¬i <n):ys=C3 xs:=by
 rw[h,show n-i.toNat=0 by omega];rfl
theorem aOd{ro:Nat→Option Obj}(hx:0≤x∧x <16)(hy:0≤y∧y <16):de zT 114 [.int .u8 x,.int .u8 y] ro (zI (QE x y)):=by
 have hpx:=Vy hx
 have hpy:=Vy hy
 refine bA au [] [] a8<|zD 8<|jp (vs:=[.int .u8 x]) [] [] (fun aB hs hZ=>(anX hx))<|zD 1<|jp (vs:=[.int .u8 y]) [] [] (fun aB hs hZ=>(anX hy))<|ja ((yu x)-(yu y)) (by omega)<|zD 7<|js 12 (!decide (((yu x)-(yu y))=0)) (fun h1=>?_) (fun h1=>?_)
 ·
  replace h1:=of_decide_eq_false (by simpa using h1)
  refine zD 7<|aE q0 (zI ((yu x)-(yu y))) [] [] [] (Sub.refl _) ⟨_,_,rfl,rfl,by rw[QE,if_neg (by omega)],rfl⟩
 replace h1:=of_decide_eq_true (by simpa using h1)
 refine zD 5<|jc (vs:=[.int .u8 x]) [] (agH) ?_
 rintro v15 L15 ⟨_,aeR,rfl⟩
 refine zD 1<|jc (vs:=[.int .u8 y]) [] (agH) ?_
 rintro v17 L17 ⟨_,Cd,rfl⟩
 refine jp (vs:=[v15,v17]) [1,0] (L15++L17) (fun aB hs hZ=>aOM (aeR.lR hZ.left) (Cd.lR hZ.right) Pc Pc)<|zD 3<|aE q0 (zI (x3 (lX x 4) (lX y 4))) [] [] [] (Sub.refl _) ⟨_,_,rfl,rfl,by rw[QE,if_pos (by omega)],rfl⟩
theorem aOc{v:Value}{L:Cells}{ro:Nat→Option Obj}(ho:aA v 1 120 Rx xs L)(hN:xs.length≤12)(hM:∀m∈xs,0≤m∧m <16):eE zT 171 [v,zI 0,zI (xs.length:Int),.func (.func 114) ⟨[]⟩ ⟨[]⟩] ro L (fun r Y=>M6 v xs Y):=by
 refine bA au [.l L] [] a8<|zD 7<|dW [1,0,0] [] (fun(zz:Int×(List Int)×Cells)=>[(0,v),(1,zI 0),(2,zI (xs.length:Int)),(3,.func (.func 114) ⟨[]⟩ ⟨[]⟩),(8,zI zz.1)]) (fun(zz:Int×(List Int)×Cells)=>[.l zz.2.2]) (fun(zz:Int×(List Int)×Cells)=>(1≤zz.1)∧aA v 1 120 Rx zz.2.1 zz.2.2∧zz.2.1.Perm xs∧C3 xs=Fi (xs.length-zz.1.toNat) zz.1.toNat zz.2.1) (fun(zz:Int×(List Int)×Cells)=>((xs.length:Int)-zz.1).toNat) (⟨1,xs,L⟩) ⟨by dsimp only;omega,ho,.refl _,rfl⟩ [0] ?_
 rintro⟨i,ys,L⟩ hI K1 bK rest
 dsimp only at hI
 have Wi:=hI.2.2.1.length_eq
 have hym:∀m∈ys,0≤m∧m <16:=fun m hm=>hM m (hI.2.2.1.mem_iff.1 hm)
 refine zD 7<|zJ 14 (i <(xs.length:Int)) (fun h1=>?_) fun h1=>?_
 ·
  refine zD 10<|dW [1,0,0,1,0,0,1,0,0] [K1] (fun(zz:Int×(List Int)×Cells)=>[(0,v),(1,zI 0),(2,zI (xs.length:Int)),(3,.func (.func 114) ⟨[]⟩ ⟨[]⟩),(8,zI i),(9,zI zz.1)]) (fun(zz:Int×(List Int)×Cells)=>[.l zz.2.2]) (fun(zz:Int×(List Int)×Cells)=>(0≤zz.1∧zz.1≤i)∧aA v 1 120 Rx zz.2.1 zz.2.2∧zz.2.1.Perm xs∧C3 xs=Fi (xs.length-(i+1).toNat) (i+1).toNat (DZ zz.1.toNat zz.2.1)) (fun(zz:Int×(List Int)×Cells)=>zz.1.toNat) (⟨i,ys,L⟩) ⟨by dsimp only;omega,hI.2.1,hI.2.2.1,R7 hI.2.2.2 (by omega)⟩ [0] ?_
  rintro⟨j,ys,L⟩ hJ K2 lg rest
  dsimp only at hJ
  have Wi:=hJ.2.2.1.length_eq
  have hym:∀m∈ys,0≤m∧m <16:=fun m hm=>hM m (hJ.2.2.1.mem_iff.1 hm)
  refine zD 7<|js 3 (decide (j>0)) (fun h2=>?_) (fun h2=>?_)
  ·
   have my:=h2
   replace my:=of_decide_eq_true my
   refine zD 3 ?_
   obtain⟨yd,lf⟩:=zG ys (j.toNat) (by first|omega| (simp only[List.length_set];omega))
   refine qh j 1 hJ.2.1 lf (Int.toNat_of_nonneg (show 0≤j∧j <((ys).length:Int) from (by first|omega| (simp only[List.length_set];omega))).1).symm (fun dP afs=>?_)
   refine oQ 0 [0] L (fun s _ hZ=>cD hJ.2.1 afs hZ lf)<|zD 2<|ja (j-1) (by omega) ?_
   obtain⟨oP,ki⟩:=zG ys ((j-1).toNat) (by first|omega| (simp only[List.length_set];omega))
   refine qh (j-1) 1 hJ.2.1 ki (Int.toNat_of_nonneg (show 0≤(j-1)∧(j-1) <((ys).length:Int) from (by first|omega| (simp only[List.length_set];omega))).1).symm (fun b30 TD=>?_)
   refine oQ 0 [0] L (fun s _ hZ=>cD hJ.2.1 TD hZ ki)<|aO 14 fun tv tx rY=>jp (vs:=[.int .u8 yd,.int .u8 oP]) [] [] (fun aB hs hZ=>(aOd (hym _ (List.mem_of_getElem? lf)) (hym _ (List.mem_of_getElem? ki))))<|bI rY [0]<|zD 3<|zJ 34 ((QE yd oP) <0) (fun h4=>?_) fun h4=>?_
   ·
    refine zD 9<|ja (j-1) (by omega)<|zD 2<|ja (j-1) (by omega) ?_
    obtain⟨xB,D9⟩:=zG ys ((j-1).toNat) (by first|omega| (simp only[List.length_set];omega))
    refine qh (j-1) 1 hJ.2.1 D9 (Int.toNat_of_nonneg (show 0≤(j-1)∧(j-1) <((ys).length:Int) from (by first|omega| (simp only[List.length_set];omega))).1).symm (fun b45 afr=>?_)
    refine oQ 0 [0] L (fun s _ hZ=>cD hJ.2.1 afr hZ D9)<|zD 2 ?_
    obtain⟨HX,D8⟩:=zG ys (j.toNat) (by first|omega| (simp only[List.length_set];omega))
    refine qh j 1 hJ.2.1 D8 (Int.toNat_of_nonneg (show 0≤j∧j <((ys).length:Int) from (by first|omega| (simp only[List.length_set];omega))).1).symm (fun b49 afq=>?_)
    refine oQ 0 [0] L (fun s _ hZ=>cD hJ.2.1 afq hZ D8) ?_
    obtain⟨x51,D7⟩:=zG ys (j.toNat) (by first|omega| (simp only[List.length_set];omega))
    refine qh j 1 hJ.2.1 D7 (Int.toNat_of_nonneg (show 0≤j∧j <((ys).length:Int) from (by first|omega| (simp only[List.length_set];omega))).1).symm (fun b51 afp=>?_)
    refine aO 15 fun uM uO sR=>Re 0 0 [.int .u8 xB] xB hJ.2.1 afp D7 rfl rfl (Nat.le_of_ble_eq_true rfl) fun L6 Za=>jA sR [] ?_
    obtain⟨x52,Ca⟩:=zG ((ys.set j.toNat xB)) ((j-1).toNat) (by first|omega| (simp only[List.length_set];omega))
    refine qh (j-1) 1 Za Ca (Int.toNat_of_nonneg (show 0≤(j-1)∧(j-1) <(((ys.set j.toNat xB)).length:Int) from (by first|omega| (simp only[List.length_set];omega))).1).symm (fun b52 afo=>?_)
    refine aO 17 fun Dx DG Ef=>Re 0 0 [.int .u8 HX] HX Za afo Ca rfl rfl (Nat.le_of_ble_eq_true rfl) fun L9 aeS=>e8 Ef<|zD 3<|ja (j-1) (by omega)<|zD 2<|bO lg (⟨(j-1),((ys.set j.toNat xB).set ((j-1).toNat) HX),L9⟩) ⟨by dsimp only;omega,aeS,(nG D8 D9).trans hJ.2.2.1,by dsimp only;rw[hJ.2.2.2,We (by omega) lf ki D8 D9 (by assumption)]⟩ (by dsimp only;omega) [0] (Sub.refl _)
   refine zD 4<|ja (i+1) (by omega)<|zD 2<|bO bK (⟨(i+1),ys,L⟩) ⟨by dsimp only;omega,hJ.2.1,hJ.2.2.1,by dsimp only;rw[hJ.2.2.2,YN (by omega) lf ki (by assumption)]⟩ (by dsimp only;omega) [0] (Sub.refl _)
  have my:=h2
  replace my:=of_decide_eq_false my
  refine zD 18<|ja (i+1) (by omega)<|zD 2<|bO bK (⟨(i+1),ys,L⟩) ⟨by dsimp only;omega,hJ.2.1,hJ.2.2.1,by dsimp only;rw[hJ.2.2.2,YM (by omega)]⟩ (by dsimp only;omega) [0] (Sub.refl _)
 refine zD 2<|aE q0 (.tuple ⟨[]⟩) [] [0] L (Sub.refl _) ⟨_,_,rfl,rfl,ys,XS hI.2.2.2 (by omega),hI.2.1⟩
theorem amK(h:K.facts.length≤3):IntKind.u8.wrap (bF K+1)=((2^K.facts.length:Nat):Int):=by
 unfold bF
 generalize K.facts.length=n at h
 obtain rfl|rfl|rfl|rfl:n=0∨n=1∨n=2∨n=3:=by omega
 all_goals decide
theorem ajV(h:n≤3):2^n≤8:=by
 obtain rfl|rfl|rfl|rfl:n=0∨n=1∨n=2∨n=3:=by omega
 all_goals decide
theorem axs(h:n≤255):Value.int .u8 (IntKind.u8.wrap (n:Int))= .int .u8 (n:Int):=by
 rw[sg .u8 rfl _ (by omega) (by simp[IntKind.bits];omega)]
def pq(n:Nat):List Int:=C3 (dt (2^n))
theorem Yd(h:n≤8):∀m∈dt n,0≤m∧m <16:=fun m hm=>by have:=p7 hm;omega
theorem aOb{v:Value}{L:Cells}{lim:Int}{ro:Nat→Option Obj}(ho:aA v 1 120 Rx xs L)(hN:xs.length≤12)(hM:∀m∈xs,0≤m∧m <16):eE zT 151 [v,zI 0,zI (xs.length:Int),zI lim,.func (.func 114) ⟨[]⟩ ⟨[]⟩] ro L (fun r Y=>M6 v xs Y):=by
 refine bA au [.l L] [] a8<|zD 9<|dW [1,1,0,0] [] (fun(zz:Nat)=>[(0,v),(1,zI 0),(2,zI (xs.length:Int)),(3,zI lim),(4,.func (.func 114) ⟨[]⟩ ⟨[]⟩),(10,.bool true),(11,.bool true)]) (fun(zz:Nat)=>[.l L]) (fun(zz:Nat)=>True) (fun(zz:Nat)=>zz) 0 trivial [0] ?_
 rintro z hI K1 bK rest
 refine zD 5<|ja ((xs.length:Int)-0) (by omega)<|zD 8<|zJ 25 (((xs.length:Int)-0)≤12) (fun h1=>?_) fun h1=>?_
 ·
  refine zD 7<|jc (vs:=[v,zI 0,zI (xs.length:Int),.func (.func 114) ⟨[]⟩ ⟨[]⟩]) [0] (aOc ho hN hM) ?_
  rintro ayf Y30 ⟨aJP,asE,vZ⟩
  refine zD 2<|aE q0 (.tuple ⟨[]⟩) [] [0] Y30 (Sub.refl _) ⟨_,_,rfl,rfl,_,asE,vZ⟩
 exfalso;omega
theorem azM{v:Value}{L:Cells}{ro:Nat→Option Obj}(ho:aA v 1 120 Rx xs L)(hN:xs.length≤12)(hM:∀m∈xs,0≤m∧m <16):eE zT 113 [v,.func (.func 114) ⟨[]⟩ ⟨[]⟩] ro L (fun r Y=>M6 v xs Y):=by
 refine bA au [.l L] [] a8<|zD 3<|Ao ho<|zD 6<|je (zU (xs.length:Int)) (aaP (by omega))<|jp (vs:=[zU (xs.length:Int)]) [] [] (fun aB hs hZ=>(auM (by omega)))<|zD 1<|jc (vs:=[v,zI 0,zI (xs.length:Int),zI (YE xs.length),.func (.func 114) ⟨[]⟩ ⟨[]⟩]) [0] (aOb ho hN hM) ?_
 rintro ayg Y13 ⟨aJR,Y3,Tn⟩
 refine zD 1<|aE q0 (.tuple ⟨[]⟩) [] [0] Y13 (Sub.refl _) ⟨_,_,rfl,rfl,_,Y3,Tn⟩
theorem aFC{f:Nat}{rows:List bH}{ro:Nat→Option Obj}(hF:pd ro f K rows)(hV:fy K)(hn3:K.facts.length≤3):eE zT 80 [zP f] ro [] (fun r Y=>∃L,aA r 1 120 Rx (pq K.facts.length) L∧Y=L):=by
 have hp8:=ajV hn3
 refine bA au [] [] a8<|zD 12<|jp (vs:=[zP f]) [] [] (fun aB hs hZ=>Pg hV (hF.up hs))<|je (.int .u8 ((2^K.facts.length:Nat):Int)) (congrArg (Value.int .u8) (amK hn3))<|zD 3<|pE<|dW [1,1,0,1,0,0] [] (fun(zz:Nat×Value×Cells)=>[(2,zS),(3,zz.2.1),(7,.int .u8 ((2^K.facts.length:Nat):Int)),(8,.int .u8 (zz.1:Int))]) (fun(zz:Nat×Value×Cells)=>[.l zz.2.2]) (fun(zz:Nat×Value×Cells)=>zz.1≤2^K.facts.length∧aA zz.2.1 1 120 Rx (dt zz.1) zz.2.2) (fun(zz:Nat×Value×Cells)=>2^K.facts.length-zz.1) (⟨0,zS,[]⟩) ⟨Nat.zero_le _,aA.nil _ _ _⟩ [0] ?_
 rintro⟨k,v,L⟩ hI K1 bK rest
 dsimp only at hI
 have hrl:=lF k
 refine zD 5<|zJ 9 ((k:Int) <((2^K.facts.length:Nat):Int)) (fun h1=>?_) fun h1=>?_
 ·
  refine zD 12<|jn fun zi=>kL (sz:=1) (ps:=(dt k)) (qs:=[(k:Int)]) (enc:=Rx) (w:= .slice (some ⟨zi,0,none⟩) 1 1) [1] [0] [(zi,.cells ⟨([(k:Int)].map Rx).flatten⟩ 120 (0,0))] (hI.2) (fun s _ hZ=>cb [(k:Int)] (hZ _ (.head _)) (by intro p hp;rfl)) (fun p _=>ar rfl) (by simp<;>omega) (fun v14 L14 tX=>?_)
  obtain⟨KD,H3,xK⟩:=tX.form
  subst xK
  refine zD 3<|je (.int .u8 ((k:Int)+1)) (axs (n:=k+1) (by omega))<|zD 2<|bO bK (⟨k+1,(.slice KD (((dt k)++[(k:Int)])).length H3),L14⟩) ⟨by dsimp only;omega,by dsimp only;rw[vx];exact tX⟩ (by dsimp only;omega) [0] (Sub.refl _)
 refine zD 5<|jc (vs:=[v,.func (.func 114) ⟨[]⟩ ⟨[]⟩]) [0] (azM hI.2 (by rw[lF];omega) (Yd (by omega))) ?_
 rintro bbm Y17 ⟨bax,aPS,Cd⟩
 refine zD 7<|aE q0 (v) [] [0] Y17 (Sub.refl _) ⟨_,_,rfl,rfl,_,by rw[pq,show 2^K.facts.length=k by omega,←aPS];exact Cd,rfl⟩
def IJ(K:aM)(rows:List bH)(p:Nat→Int):Nat→Bool
 |0=>false
 |i+1=>IJ K rows p i||cP K.gone K.new K.af (cW K ((rows[i]?).getD ⟨fun _ _=>false⟩) i p)
theorem Xu{rows:List bH}{p:Nat→Int}{r:bH}(h:rows[i]?=some r):IJ K rows p (i+1)=(IJ K rows p i||cP K.gone K.new K.af (cW K r i p)):=by rw[IJ,h];rfl
theorem amJ{rows:List bH}{p:Nat→Int}(h:IJ K rows p i=true)(hn:i≤n):IJ K rows p n=true:=by
 induction n with
 |zero=>rwa[show i=0 by omega] at h
 |succ n ih=>
  by_cases e:i=n+1
  ·rwa[e] at h
  rw[IJ,ih (by omega),Bool.true_or]
def ZQ(K:aM)(rows:List bH)(on:Int):Bool:=(bp K on).any fun p=>IJ K rows p rows.length
theorem ahI{f:α→Bool}{l:List α}{x:α}(h:l[k]?=some x) (h1:(l.take k).any f=false) (h2:f x=false):(l.take (k+1)).any f=false:=by
 rw[jz h,List.any_append,h1,List.any_cons,h2];rfl
theorem aTT{f:Nat}{rows:List bH}{on:Int}{ro:Nat→Option Obj}(hF:pd ro f K rows)(hV:fy K)(hR:rows.length≤1000):eE zT 57 [zP f,.int .u8 on] ro [] (fun r Y=>r= .bool (ZQ K rows on)∧Y=[]):=by
 obtain⟨c0,c1,c2,vc,vh,vr,vb,va,vf,vt,hv,hf,rh,oF,hr,Ci,GD,Ix,bS⟩:=id hF
 obtain⟨hc,hh,cY⟩:=id rh
 obtain⟨eL,Bh,Bg,eH,rfl,DO,zb,za⟩:=hc
 obtain⟨dN,u4,u3,dD,rfl,xD,qV,qU⟩:=hh
 obtain⟨mj,Ld,Lc,mi,rfl,Om,Jh,Jg⟩:=hr
 obtain⟨kB,Ia,H8,jR,rfl,H9,DT,DR⟩:=Ci
 obtain⟨kD,Ie,Ib,jT,rfl,Ic,DV,DU⟩:=GD
 obtain⟨mo,SA,Sx,k8,rfl,Sz,Lf,Le⟩:=Ix
 obtain⟨nF,DM,DL,ng,rfl,Oj,La,K0⟩:=bS
 have Rj:=hV.rules.1
 have Av:=hV.before.1
 have Dg:=hV.after.1
 have hnf:=hV.facts.1
 refine akY au [] [] a8<|zD 2<|jn fun b2=>zD 5<|jn fun b5=>jd 9 [0,1]<|jc (vs:=[zP f,.int .u8 on]) [] (JK (on:=on) hF hV) ?_
 rintro _ _ ⟨q1,q2,q3,q4,rfl,rfl⟩
 refine jg 0 [.b q1 (.cells ⟨[zP f]⟩ 104 (0,0)),.b q2 (.cells ⟨[.func (.func 127) ⟨[]⟩ ⟨[zP q1,zP q4]⟩]⟩ 221 (0,0)),.b q3 (.cells ⟨[.bool (db K on 0 0),.bool (db K on 0 1),.bool (db K on 0 2),.bool (db K on 0 3),.bool (db K on 1 0),.bool (db K on 1 1),.bool (db K on 1 2),.bool (db K on 1 3),.bool (db K on 2 0),.bool (db K on 2 1),.bool (db K on 2 2),.bool (db K on 2 3),.bool (db K on 3 0),.bool (db K on 3 1),.bool (db K on 3 2),.bool (db K on 3 3)]⟩ 159 (0,0)),.b q4 (.cells ⟨[.int .u8 on]⟩ 120 (0,0))]<|jf [0,1,2,3,5] ((q1,.cells ⟨[zP f]⟩ 104 (0,0))::((q2,.cells ⟨[.func (.func 127) ⟨[]⟩ ⟨[zP q1,zP q4]⟩]⟩ 221 (0,0))::((q3,.cells ⟨[.bool (db K on 0 0),.bool (db K on 0 1),.bool (db K on 0 2),.bool (db K on 0 3),.bool (db K on 1 0),.bool (db K on 1 1),.bool (db K on 1 2),.bool (db K on 1 3),.bool (db K on 2 0),.bool (db K on 2 1),.bool (db K on 2 2),.bool (db K on 2 3),.bool (db K on 3 0),.bool (db K on 3 1),.bool (db K on 3 2),.bool (db K on 3 3)]⟩ 159 (0,0))::((q4,.cells ⟨[.int .u8 on]⟩ 120 (0,0))::[(b2,.cells ⟨[zP f]⟩ 104 (0,0))])))) fun yp bW iL=>zD 2<|jrf [] (V8 (on:=on) (hF.up bW) hV (iL _ (.head _)) (iL _ (.tail _ (.head _))) (iL _ (.tail _ (.tail _ (.head _)))) (iL _ (.tail _ (.tail _ (.tail _ (.head _)))))) (by rintro _ _ _ _ ⟨_,_,rfl,_⟩;rfl) (fun(zz:Bool)=>[.b b5 (.cells ⟨[.bool zz]⟩ 4 (0,0))]) (fun kk=>(fun(zz:Bool)=>zz=false∧(((bp K on).take kk).any fun p=>IJ K rows p rows.length)=false)) (fun jump=>(fun(zz:Bool)=>jump= .exit 0∧zz=true∧ZQ K rows on=true)) false ⟨rfl,rfl⟩ [0] ?_ ?_ ?_
 ·
  rintro bl4 bd4 kk4 vs4 LL4 bo ro4 hk4 atu hI ky
  obtain⟨p4,hp4,rfl,rfl⟩:=atu
  have Y1:=(gp hV on).2 p4 (List.mem_of_getElem? hp4)
  refine zD 1<|jn fun b6=>jd 2 [0]<|aAg<|zD 3<|jl (b:=b2) (off:=0) (m:=1) (vs:=[zP f]) 0 ⟨_,_,_,.inl (ky _ _ (iL _ (.tail _ (.tail _ (.tail _ (.tail _ (.head _))))))),rfl⟩<|zD 2<|jl (b:=f) (off:=0) (m:=13) (vs:=[c0,c1,c2,.slice eL K.cs.length eH,.slice dN hv.length dD,.slice mj K.rules.length mi,.slice kB K.before.length jR,.slice kD K.after.length jT,zI K.gone,zI K.new,zI K.af,.slice mo K.facts.length k8,.slice nF rows.length ng]) 12 ⟨_,_,_,.inl (ky _ _ (bW _ _ hf)),rfl⟩<|zD 4<|aOz [1] [1,0,1,1,0,1,0,3,0,1,0,0] [] (fun(zz:Nat×Bool)=>[(2,zP b2),(4,.bool false),(5,zP b5),(6,zP b6),(16,zI (rows.length:Int)),(17,zI (zz.1:Int))]) (fun(zz:Nat×Bool)=>[.b b5 (.cells ⟨[.bool zz.2]⟩ 4 (0,0)),.b b6 (.cells ⟨[zI (p4 0),zI (p4 1),zI (p4 2),zI (p4 3)]⟩ 113 (0,0))]) (fun(zz:Nat×Bool)=>zz.1≤rows.length∧zz.2=false∧IJ K rows p4 zz.1=false) (fun(zz:Nat×Bool)=>rows.length-zz.1) (⟨0,bo⟩) ⟨Nat.zero_le _,hI.1,rfl⟩ [2,0,1] ?_
  rintro⟨i,bo⟩ hJ K1 bK rest
  dsimp only at hJ
  refine zD 5<|zJ 18 ((i:Int) <(rows.length:Int)) (fun h5=>?_) fun h5=>?_
  ·
   refine zD 5 ?_
   obtain⟨r_,Cb⟩:∃r_,rows[i]?=some r_:=⟨_,List.getElem?_eq_getElem (by omega)⟩
   refine zD 6<|jl (b:=b2) (off:=0) (m:=1) (vs:=[zP f]) 0 ⟨_,_,_,.inl (ky _ _ (iL _ (.tail _ (.tail _ (.tail _ (.tail _ (.head _))))))),rfl⟩<|jl (b:=b2) (off:=0) (m:=1) (vs:=[zP f]) 0 ⟨_,_,_,.inl (ky _ _ (iL _ (.tail _ (.tail _ (.tail _ (.tail _ (.head _))))))),rfl⟩<|jd 2 [1]<|jp (vs:=[zP f,zI (i:Int),.agg ⟨[zI (p4 0),zI (p4 1),zI (p4 2),zI (p4 3)]⟩]) [] [] (fun aB hs hZ=>anY (hF.up (Sub.trans (bW.trans ky) hs)) hV Cb Y1)<|jp (vs:=[zP f,.agg ⟨[zI ((cW K r_ i p4).past),zI ((cW K r_ i p4).w0),zI ((cW K r_ i p4).w1),zI ((cW K r_ i p4).w2),zI ((cW K r_ i p4).w3),zI ((cW K r_ i p4).gone),zI ((cW K r_ i p4).new),zI ((cW K r_ i p4).af)]⟩]) [] [] (fun aB hs hZ=>adJ (x:=(cW K r_ i p4)) (hs _ _ (ky _ _ (bW _ _ hf))))<|aO 6 fun Dy DI Ck=>jd 1 [0]<|e8 Ck<|jd 5 [0]<|js 26 (cP K.gone K.new K.af (cW K r_ i p4)) (fun h7=>?_) (fun h7=>?_)
   ·
    refine zD 2<|jys Yg (Sub.refl _) (.exit 0) (cP K.gone K.new K.af (cW K r_ i p4)) ⟨rfl,by assumption,List.any_eq_true.2 ⟨p4,List.mem_of_getElem? hp4,amJ (i:=i+1) (by rw[Xu Cb];simp[*]) (by omega)⟩⟩ [2,0]
   refine zD 3<|ja ((i:Int)+1) (by omega)<|zD 2<|bO bK (⟨i+1,(cP K.gone K.new K.af (cW K r_ i p4))⟩) ⟨by dsimp only;omega,by assumption,by dsimp only;rw[Xu Cb,hJ.2.2,Bool.false_or];assumption⟩ (by dsimp only;omega) [0,1,2] (Sub.refl _)
  refine zD 2<|jyn Yg (Sub.refl _) bo ⟨hJ.2.1,ahI hp4 hI.2 (by have:=hJ.2.2;rwa[show i=rows.length by omega] at this)⟩ [2,0]
 ·
  rintro bd4 bo Z4 hI hZ4
  subst hZ4
  refine jd 6 [2]<|jrM qm0.a.m (.bool bo) [0] [] [] [] bW ⟨by have:=hI.2;rw[List.take_of_length_le (Nat.le_refl _)] at this;rw[hI.1,ZQ,this],rfl⟩
 rintro bd4 bo Z4 jump hS hZ4
 obtain⟨rfl,hS⟩:=hS
 subst hZ4
 refine jd 6 [2]<|jrM qm0.a.m (.bool bo) [0] [] [] [] bW ⟨by rw[hS.1,hS.2],rfl⟩
def iAn(k:IntKind)(a b:Int):Int:=k.wrap (BitVec.ofInt k.bits a&&& ~~~ BitVec.ofInt k.bits b).toNat
theorem are:pq 0=[0]:=by kernel_rfl
theorem ard:pq 1=[0,1]:=by kernel_rfl
theorem arc:pq 2=[0,1,2,3]:=by kernel_rfl
theorem arb:pq 3=[0,1,2,4,3,5,6,7]:=by kernel_rfl
theorem ac3(h:n≤3):(pq n).length≤8∧∀m∈pq n,0≤m∧m <16:=by
 obtain rfl|rfl|rfl|rfl:n=0∨n=1∨n=2∨n=3:=by omega
 ·rw[are];decide
 ·rw[ard];decide
 ·rw[arc];decide
 rw[arb];decide
def Kz(K:aM)(rows:List bH):Option Int:=(pq K.facts.length).find? fun m=>ZQ K rows (iAn .u8 (bF K) m)
theorem W0{p:α→Bool}{l:List α}{x:α}(hx:l[k]?=some x):(l.drop k).find? p=bif p x then some x else (l.drop (k+1)).find? p:=by rw[fN hx,List.find?_cons];cases p x<;>rfl
theorem agC{p:α→Bool}{l:List α}(hx:¬k <l.length):(l.drop k).find? p=none:=by rw[eA hx];rfl
theorem art{rows:List bH}{ro:Nat→Option Obj}(hK:gk ro l K)(hV:fy K)(hR:rows.length≤2)(hB:gZ ro l K rows)(hn3:K.facts.length≤3):eE zT 37 [.agg ⟨l⟩] ro [] (fun r Y=>∃v e,r= .tuple ⟨[v,zI e]⟩∧((∃m,Kz K rows=some m∧aA v 1 3 cv (lX m 4) Y∧e=0)∨(Kz K rows=none∧v= zS∧e=11∧Y=[]))):=by
 obtain⟨v0,v1,v3,v4,v5,v6,v7,vb,fa,fc,hv,rfl,_⟩:=hK
 have PI:=ac3 hn3
 have Rm:=PI.1
 refine bA au [] [] a8<|zD 2<|jn fun b1=>jd 6 [0]<|jc (vs:=[.agg ⟨[v0,v1,.slice fa 0 fc,v3,v4,v5,v6,v7,zI K.gone,zI K.new,zI K.af,vb]⟩]) [] (hB _ (Sub.refl _)) ?_
 rintro _ Y10 ⟨f10,rfl,auw⟩
 refine zD 5<|jf [0] Y10 (fun yp bW iL=>?_)
 have Bo:=auw _ bW iL
 refine zD 13<|jc (vs:=[zP f10]) [] (aFC Bo hV hn3) ?_
 rintro v17 L17 ⟨_,Cd,rfl⟩
 refine Ao Cd<|zD 3<|dW [1,1,1,0,1,0,0] [] (fun(zz:Nat)=>[(4,zP f10),(17,v17),(18,zI ((pq K.facts.length).length:Int)),(19,zI (zz:Int))]) (fun(zz:Nat)=>[.l L17,.b b1 (.cells ⟨[v0,v1,.slice fa 0 fc,v3,v4,v5,v6,v7,zI K.gone,zI K.new,zI K.af,vb]⟩ 40 (0,0))]) (fun(zz:Nat)=>zz≤(pq K.facts.length).length∧Kz K rows=((pq K.facts.length).drop zz).find? (fun m=>ZQ K rows (iAn .u8 (bF K) m))) (fun(zz:Nat)=>(pq K.facts.length).length-zz) 0 ⟨Nat.zero_le _,rfl⟩ [0,1] ?_
 rintro k hI K1 bK rest
 refine zD 5<|zJ 20 ((k:Int) <((pq K.facts.length).length:Int)) (fun h4=>?_) fun h4=>?_
 ·
  refine zD 6 ?_
  obtain⟨ye,qj⟩:=zG ((pq K.facts.length)) k (by first|omega| (simp only[List.length_set,List.length_append,List.length_cons,List.length_nil];omega))
  refine jxo 1 Cd qj fun b21 aR8=>oQ 0 [0] L17 (fun s _ hZ=>cD Cd aR8 hZ qj)<|zD 6<|jp (vs:=[zP f10]) [] [] (fun aB hs hZ=>Pg hV (Bo.up hs))<|zD 1<|je (.int .u8 (iAn .u8 (bF K) ye)) rfl<|jc (vs:=[zP f10,.int .u8 (iAn .u8 (bF K) ye)]) [] (aTT Bo hV (by omega)) ?_
  rintro _ _ ⟨rfl,rfl⟩
  refine jg 0 []<|zD 1<|js 28 (ZQ K rows (iAn .u8 (bF K) ye)) (fun h5=>?_) (fun h5=>?_)
  ·
   refine zD 4<|jc (vs:=[.int .u8 ye]) [] (agH) ?_
   rintro v30 L30 ⟨_,vZ,rfl⟩
   refine zD 4<|aE q0.a (.tuple ⟨[v30,zI 0]⟩) [] [0] L30 bW ⟨_,_,rfl,rfl,_,_,rfl,.inl ⟨_,by rw[hI.2,W0 qj];simp only[*,cond_true],vZ,rfl⟩⟩
  refine zD 3<|ja ((k:Int)+1) (by omega)<|zD 2<|bO bK (k+1) ⟨by omega,by rw[hI.2,W0 qj];simp only[*,cond_false]⟩ (by omega) [0,1] (Sub.refl _)
 refine zD 8<|aE q0.a (.tuple ⟨[zS,zI 11]⟩) [] [] [] bW ⟨_,_,rfl,rfl,_,_,rfl,.inr ⟨by rw[hI.2,agC (by omega)],rfl,rfl,rfl⟩⟩
theorem LW{f:Nat}{rows:List bH}{ro:Nat→Option Obj}(hF:pd ro f K rows)(hV:fy K)(hR:rows.length≤2):Bs zT 45 [zP f] ro [] (fun r Y=>∃zs v e,r= .tuple ⟨[v,zI e]⟩∧zs.Perm (dc K (bF K) (cP K.gone K.new K.af) rows)∧aA v 8 115 cm zs Y∧((zs=[]∧e=9)∨(zs≠[]∧e=0))):=by
 refine yG au [] [] a8 fun fr=>zD 9<|jp (vs:=[zP f]) [] [] (fun aB hs hZ=>Pg hV (hF.up hs))<|Gd (vs:=[zP f,.int .u8 (bF K)]) [] (fun _ _ h=>h) (V7 hV hF hR) ?_
 rintro v8 Y8 ⟨zs,hz,ho8⟩
 refine zD 6<|Ao ho8<|zD 2<|zJ 11 ((zs.length:Int)=0) (fun h1=>?_) fun h1=>?_
 ·
  refine zD 7<|HG qC (.tuple ⟨[zS,zI 9]⟩) [1] [] (Sub.refl _) ⟨zs,_,_,rfl,hz,by rw[show zs=[] from List.eq_nil_of_length_eq_zero (by omega)];exact aA.nil _ _ _,.inl ⟨List.eq_nil_of_length_eq_zero (by omega),rfl⟩⟩
 refine zD 9<|HG qC (.tuple ⟨[v8,zI 0]⟩) [0,1] Y8 (Sub.refl _) ⟨zs,_,_,rfl,hz,ho8,.inr ⟨fun e=>by subst e;simp at*,rfl⟩⟩
theorem V9{rows:List bH}{ro:Nat→Option Obj}(hK:gk ro l K)(hV:fy K)(hR:rows.length≤2)(hB:gZ ro l K rows):avu zT 82 [.agg ⟨l⟩] ro [] (fun r aB Y=>∃f zs v e,r= .tuple ⟨[pV f,v,zI e]⟩∧pd aB f K rows∧zs.Perm (dc K (bF K) (cP K.gone K.new K.af) rows)∧aA v 8 115 cm zs Y∧((zs=[]∧e=9)∨(zs≠[]∧e=0))):=by
 obtain⟨v0,v1,v3,v4,v5,v6,v7,vb,fa,fc,hv,rfl,_⟩:=hK
 refine aAd (hm:=au) [] [] a8 fun fr=>zD 2<|jn fun b1=>jd 7 [0]<|jc (vs:=[.agg ⟨[v0,v1,.slice fa 0 fc,v3,v4,v5,v6,v7,zI K.gone,zI K.new,zI K.af,vb]⟩]) [] (hB _ (Sub.refl _)) ?_
 rintro _ Y10 ⟨f10,rfl,auw⟩
 refine zD 5<|jf [0] Y10 (fun yp bW iL=>?_)
 have Bo:=auw _ bW iL
 refine zD 12<|Gd (vs:=[zP f10]) [] (fun _ _ h=>h) (LW Bo hV hR) ?_
 rintro _ Y18 ⟨zs,v18,e18,rfl,hz,Zb,he⟩
 refine zD 16<|aOs qC.a (.tuple ⟨[zP f10,v18,zI e18]⟩) [0,2] Y18 bW ⟨f10,zs,v18,e18,rfl,Bo,hz,Zb,he⟩
theorem akN{x:ai}{ro:Nat→Option Obj}:de zT 76 [.agg ⟨[zI x.past,zI x.w0,zI x.w1,zI x.w2,zI x.w3,zI x.gone,zI x.new,zI x.af]⟩] ro (zI x.af):=by
 refine bA au [] [] a8<|zD 2<|jn fun b1=>jd 9 [0]<|aE q0 (zI x.af) [] [] [] (Sub.refl _) ⟨_,_,rfl,rfl,rfl,rfl⟩
theorem adB{rows:List bH}{ro:Nat→Option Obj}(hK:gk ro l K)(hV:fy K)(hR:rows.length≤2)(hB:gZ ro l K rows):Bs zT 75 [.agg ⟨l⟩,.func (.func 76) ⟨[]⟩ ⟨[]⟩] ro [] (fun r Y=>∃zs a b e,zs.Perm (dc K (bF K) (cP K.gone K.new K.af) rows)∧Y=[]∧r= .tuple ⟨[.agg ⟨[zI a,zI b]⟩,zI e]⟩∧((zs=[]∧a=0∧b=0∧e=9)∨(zs≠[]∧a=uR (zs.map fun x=>x.af)∧b=B3 (zs.map fun x=>x.af)∧e=0))):=by
 obtain⟨v0,v1,v3,v4,v5,v6,v7,vb,fa,fc,hv,rfl,_⟩:=id hK
 refine yG au [] [] a8 fun fr=>zD 2<|jn fun b2=>jn fun b4=>jd 5 [1]<|ak1 (vs:=[.agg ⟨[v0,v1,.slice fa 0 fc,v3,v4,v5,v6,v7,zI K.gone,zI K.new,zI K.af,vb]⟩]) [] (fun _ _ h=>h) (V9 hK hV hR hB) ?_
 rintro _ aB Y14 bW ⟨f14,zs,v14,MI,rfl,Bo,hz,Tm,he⟩
 have Ir:∀x∈zs,(-4≤x.gone∧x.gone≤4)∧(-4≤x.new∧x.new≤4)∧(0≤x.af∧x.af≤4):=fun x hx=>by obtain⟨i,r,p,_,_,rfl,_⟩:=eR (hz.mem_iff.1 hx);exact kI hV r i p
 have S1:zs.length≤1250:=by rw[hz.length_eq];exact lj hV _ _ hR
 refine zD 7<|jf [0] Y14 (fun ro4 n6 PO=>?_)
 have TH:=Tm.lR PO
 obtain⟨mJ,BN,BL,lH,rfl,BM,yt,yq⟩:=TH
 refine zD 7<|js 19 (!decide (MI=0)) (fun h5=>?_) (fun h5=>?_)
 ·
  replace h5:=of_decide_eq_false (by simpa using h5)
  have oY:zs=[]∧MI=9:=by rcases he with h| ⟨_,h⟩;exact h;omega
  refine jd 9 [0]<|arT qC.a.a (.tuple ⟨[.agg ⟨[zI 0,zI 0]⟩,zI MI]⟩) [0] [2] [] (bW.trans n6) ⟨zs,_,_,_,hz,rfl,rfl,.inl ⟨oY.1,rfl,rfl,oY.2⟩⟩
 replace h5:=of_decide_eq_true (by simpa using h5)
 have oY:zs≠[]∧MI=0:=by rcases he with ⟨_,h⟩|h;omega;exact h
 have hzp:0 <zs.length:=List.length_pos_iff.2 oY.1
 refine zD 14<|pE<|dW [1,1,1,1,0,1,0,0] [] (fun(zz:Nat×Value×Cells)=>[(1,.func (.func 76) ⟨[]⟩ ⟨[]⟩),(4,zP b4),(5,zI 0),(9,zz.2.1),(22,.slice mJ zs.length lH),(23,zI (zs.length:Int)),(24,zI (zz.1:Int))]) (fun(zz:Nat×Value×Cells)=>[.l zz.2.2,.b b4 (.cells ⟨[zI 0,zI 0]⟩ 93 (0,0)),.b b2 (.cells ⟨[v0,v1,.slice fa 0 fc,v3,v4,v5,v6,v7,zI K.gone,zI K.new,zI K.af,vb]⟩ 40 (0,0)),.l fr]) (fun(zz:Nat×Value×Cells)=>zz.1≤zs.length∧aA zz.2.1 1 3 cv ((zs.take zz.1).map fun x=>x.af) zz.2.2) (fun(zz:Nat×Value×Cells)=>zs.length-zz.1) (⟨0,zS,[]⟩) ⟨by dsimp only;omega,aA.nil _ _ _⟩ [0,1,2,3] ?_
 rintro⟨k,vS,LS⟩ hI K1 bK rest
 dsimp only at hI
 refine zD 5<|zJ 25 ((k:Int) <(zs.length:Int)) (fun h6=>?_) fun h6=>?_
 ·
  refine zD 6 ?_
  obtain⟨RD,YW⟩:=zG zs k
  refine iK lH 8 yt YW<|jl 0 (yq _ _ YW)<|jn fun Ry=>jd 6 [0,0]<|jp (vs:=[.agg ⟨[zI RD.past,zI RD.w0,zI RD.w1,zI RD.w2,zI RD.w3,zI RD.gone,zI RD.new,zI RD.af]⟩]) [] [] (fun aB hs hZ=>(akN (x:=RD)))<|jn fun b32=>kL (sz:=1) (ps:=((zs.take k).map fun x=>x.af)) (qs:=[RD.af]) (enc:=cv) (w:= .slice (some ⟨b32,0,none⟩) 1 1) [2] [0] [(b32,.cells ⟨([RD.af].map cv).flatten⟩ 3 (0,0))] (hI.2) (fun s _ hZ=>cb [RD.af] (hZ _ (.head _)) (by intro p hp;rfl)) (fun p _=>ar rfl) (by simp only[List.length_map,List.length_take,List.length_cons,List.length_nil];omega) (fun v33 L33 aeC=>?_)
  obtain⟨aKO,aKp,aRd⟩:=aeC.form
  subst aRd
  refine zD 3<|ja ((k:Int)+1) (by omega)<|zD 2<|bO bK (⟨k+1,(.slice aKO ((((zs.take k).map fun x=>x.af)++[RD.af])).length aKp),L33⟩) ⟨by dsimp only;omega,by rw[jz YW,List.map_append];exact aeC⟩ (by dsimp only;omega) [0,3,4,5] (Sub.refl _)
 refine zD 5<|jp (vs:=[vS]) [0] LS (fun aB hs hZ=>anW (hI.2.lR hZ) ⟨by simp only[List.length_map,List.length_take];omega,by simp only[List.length_map,List.length_take];omega⟩) ?_
 refine jd 4 [1]<|arT qC.a.a (.tuple ⟨[.agg ⟨[zI (uR ((zs.take k).map fun x=>x.af)),zI (B3 ((zs.take k).map fun x=>x.af))]⟩,zI 0]⟩) [1] [3] [] (bW.trans n6) ⟨zs,_,_,_,hz,rfl,rfl,.inr ⟨oY.1,by rw[show k=zs.length by omega,List.take_length],by rw[show k=zs.length by omega,List.take_length],rfl⟩⟩
theorem arL{rows:List bH}{ro:Nat→Option Obj}(hK:gk ro l K)(hV:fy K)(hR:rows.length≤2)(hB:gZ ro l K rows):Bs zT 35 [.agg ⟨l⟩] ro [] (fun r Y=>∃zs a b e,zs.Perm (dc K (bF K) (cP K.gone K.new K.af) rows)∧Y=[]∧r= .tuple ⟨[.agg ⟨[zI a,zI b]⟩,zI e]⟩∧((zs=[]∧a=0∧b=0∧e=9)∨(zs≠[]∧a=uR (zs.map fun x=>x.af)∧b=B3 (zs.map fun x=>x.af)∧e=0))):=by
 obtain⟨v0,v1,v3,v4,v5,v6,v7,vb,fa,fc,hv,rfl,_⟩:=id hK
 refine yG au [] [] a8 fun fr=>zD 2<|jn fun b1=>jn fun b2=>jd 5 [1]<|Gd (vs:=[.agg ⟨[v0,v1,.slice fa 0 fc,v3,v4,v5,v6,v7,zI K.gone,zI K.new,zI K.af,vb]⟩,.func (.func 76) ⟨[]⟩ ⟨[]⟩]) [] (fun _ _ h=>h) (adB hK hV hR hB) ?_
 rintro _ _ ⟨zs,a5,c5,e5,hz,rfl,rfl,he⟩
 refine jg 0 []<|jd 6 [0]<|arT qC (.tuple ⟨[.agg ⟨[zI a5,zI c5]⟩,zI e5]⟩) [0] [2] [] (Sub.refl _) ⟨zs,_,_,_,hz,rfl,rfl,he⟩
theorem arK{a b:Int}{ro:Nat→Option Obj}:de zT 65 [zI a,zI b] ro (.bool (decide (a=b))):=by
 refine bA au [] [] a8<|zD 12<|aE q0 (.bool (decide (a=b))) [] [] [] (Sub.refl _) ⟨_,_,rfl,rfl,rfl,rfl⟩
theorem aFW{a b:Int}{s:Bool}{ro:Nat→Option Obj}:de zT 39 [zI a,zI b,.bool s] ro (.agg ⟨[zI a,zI b,.bool s]⟩):=by
 refine bA au [] [] a8<|zD 2<|jn fun b6=>jd 10 [0]<|aE q0 (.agg ⟨[zI a,zI b,.bool s]⟩) [0] [] [] (Sub.refl _) ⟨_,_,rfl,rfl,rfl,rfl⟩
theorem kp{w:ByteArray}{a b c:Int}{ro:Nat→Option Obj}:de zT 74 [.string w,zI a,zI b,zI c] ro (.agg ⟨[.string w,zI a,zI b,zI c,.bool false]⟩):=by
 refine bA au [] [] a8<|zD 2<|jn fun b8=>jd 11 [0]<|aE q0 (.agg ⟨[.string w,zI a,zI b,zI c,.bool false]⟩) [0] [] [] (Sub.refl _) ⟨_,_,rfl,rfl,rfl,rfl⟩
theorem aFX{w:ByteArray}{a:Int}{ro:Nat→Option Obj}:de zT 73 [.string w,zI a] ro (.agg ⟨[.string w,zI (-1),zI a,(zS)]⟩):=by
 refine bA au [] [] a8<|zD 2<|jn fun b4=>jd 9 [0]<|aE q0 (.agg ⟨[.string w,zI (-1),zI a,zS]⟩) [0] [] [] (Sub.refl _) ⟨_,_,rfl,rfl,rfl,rfl⟩
theorem cIs{w:ByteArray}{a:Int}{va:Option Addr}{vn vc:Nat}{ro:Nat→Option Obj}:de zT 72 [.string w,zI a,(.slice va vn vc)] ro (.agg ⟨[.string w,zI a,zI (-1),(.slice va vn vc)]⟩):=by
 refine bA au [] [] a8<|zD 2<|jn fun b6=>jd 10 [0]<|aE q0 (.agg ⟨[.string w,zI a,zI (-1),(.slice va vn vc)]⟩) [0] [] [] (Sub.refl _) ⟨_,_,rfl,rfl,rfl,rfl⟩
def Ul:List bM:=[⟨(bs [102,111,111,100]),-1⟩,⟨(bs [98,114,101,97,100]),0⟩,⟨(bs [99,108,111,116,104]),-1⟩,⟨(bs [104,97,116,115]),2⟩]
def CC:List cq:=[⟨(bs [98,97,107,101,114]),1,-1,[]⟩,⟨(bs [98,111,110,110,101,116,115]),-1,3,[]⟩,⟨(bs [99,111,110,102,101,99,116,105,111,110,101,114]),0,-1,[0]⟩,⟨(bs [104,97,116,116,101,114]),3,-1,[]⟩,⟨(bs [109,101,114,99,101,114]),2,-1,[3]⟩,⟨(bs [109,105,108,108,105,110,101,114]),-1,1,[]⟩]
def MO:List aG:=[⟨(bs [115,109,105,116,104]),0,1,0,false⟩,⟨(bs [97,110,110,97]),0,2,3,false⟩,⟨(bs [115,109,121,116,104]),1,1,2,false⟩]
def MP:List aG:=[⟨(bs [115,109,121,116,104]),0,2,0,false⟩,⟨(bs [115,109,105,116,104]),1,1,-1,false⟩,⟨(bs [98,101,110]),0,1,4,false⟩]
abbrev aT(n:Int):aM where
 ways:=[[⟨1,0,0,0,0,0,0⟩,⟨2,0,0,0,0,0,0⟩]]
 cs:=Ul
 hd:=CC
 rules:=[⟨(bs [121]),(bs [105])⟩]
 before:=MO
 after:=MP
 gone:=1
 new:=1
 af:=n
 facts:=[]
 str:=[[⟨1,0⟩,⟨2,0⟩],[⟨1,0⟩]]
abbrev dA(dP fW b9 fE dH dk di:Nat)(n:Int):List Value:=[.slice (some ⟨dP,0,none⟩) 2 2,.slice (some ⟨fW,0,none⟩) 1 1,zS,.slice (some ⟨b9,0,none⟩) 4 4,.slice (some ⟨fE,0,none⟩) 6 6,.slice (some ⟨dH,0,none⟩) 1 1,.slice (some ⟨dk,0,none⟩) 3 3,.slice (some ⟨di,0,none⟩) 3 3,zI 1,zI 1,zI n,zS]
abbrev dF(dP m9 mD fW oR b9 fE jJ me dH dk di:Nat):Cells:=[(dP,.cells ⟨[.slice (some ⟨m9,0,none⟩) 2 2,.slice (some ⟨mD,0,none⟩) 1 1]⟩ 74 (0,0)),(m9,.cells ⟨[zI 1,zI 0,zI 2,zI 0]⟩ 73 (0,0)),(mD,.cells ⟨[zI 1,zI 0]⟩ 73 (0,0)),(fW,.cells ⟨[.slice (some ⟨oR,0,none⟩) 2 2]⟩ 81 (0,0)),(oR,.cells ⟨[zI 1,zI 0,zI 0,zI 0,zI 0,zI 0,zI 0,zI 2,zI 0,zI 0,zI 0,zI 0,zI 0,zI 0]⟩ 77 (0,0)),(b9,.cells ⟨[.string (bs [102,111,111,100]),zI (-1),.string (bs [98,114,101,97,100]),zI 0,.string (bs [99,108,111,116,104]),zI (-1),.string (bs [104,97,116,115]),zI 2]⟩ 140 (0,0)),(fE,.cells ⟨[.string (bs [98,97,107,101,114]),zI 1,zI (-1),zS,.string (bs [98,111,110,110,101,116,115]),zI (-1),zI 3,zS,.string (bs [99,111,110,102,101,99,116,105,111,110,101,114]),zI 0,zI (-1),.slice (some ⟨jJ,0,none⟩) 1 1,.string (bs [104,97,116,116,101,114]),zI 3,zI (-1),zS,.string (bs [109,101,114,99,101,114]),zI 2,zI (-1),.slice (some ⟨me,0,none⟩) 1 1,.string (bs [109,105,108,108,105,110,101,114]),zI (-1),zI 1,zS]⟩ 143 (0,0)),(jJ,.cells ⟨[zI 0]⟩ 3 (0,0)),(me,.cells ⟨[zI 3]⟩ 3 (0,0)),(dH,.cells ⟨[.string (bs [121]),.string (bs [105])]⟩ 84 (0,0)),(dk,.cells ⟨[.string (bs [115,109,105,116,104]),zI 0,zI 1,zI 0,.bool false,.string (bs [97,110,110,97]),zI 0,zI 2,zI 3,.bool false,.string (bs [115,109,121,116,104]),zI 1,zI 1,zI 2,.bool false]⟩ 44 (0,0)),(di,.cells ⟨[.string (bs [115,109,121,116,104]),zI 0,zI 2,zI 0,.bool false,.string (bs [115,109,105,116,104]),zI 1,zI 1,zI (-1),.bool false,.string (bs [98,101,110]),zI 0,zI 1,zI 4,.bool false]⟩ 44 (0,0))]
abbrev ahl(jJ me:Nat):List bu:=[⟨(bs [98,97,107,101,114]),1,-1,zS⟩,⟨(bs [98,111,110,110,101,116,115]),-1,3,zS⟩,⟨(bs [99,111,110,102,101,99,116,105,111,110,101,114]),0,-1,.slice (some ⟨jJ,0,none⟩) 1 1⟩,⟨(bs [104,97,116,116,101,114]),3,-1,zS⟩,⟨(bs [109,101,114,99,101,114]),2,-1,.slice (some ⟨me,0,none⟩) 1 1⟩,⟨(bs [109,105,108,108,105,110,101,114]),-1,1,zS⟩]
theorem dI{ro:Nat→Option Obj}{dP m9 mD fW oR b9 fE jJ me dH dk di:Nat}{n:Int}(hk:Knows ro (dF dP m9 mD fW oR b9 fE jJ me dH dk di)):gk ro (dA dP fW b9 fE dH dk di n) (aT n):=
 ⟨_,_,_,_,_,_,_,_,none,0,ahl jJ me,rfl,
  ⟨[.slice (some ⟨m9,0,none⟩) 2 2,.slice (some ⟨mD,0,none⟩) 1 1],bQ (enc:=ir) (T:=74) [.slice (some ⟨m9,0,none⟩) 2 2,.slice (some ⟨mD,0,none⟩) 1 1] (hk _ (.head _)) (fun _ _=>rfl),
   .cons (bQ (enc:=cO) (T:=73) [⟨1,0⟩,⟨2,0⟩] (hk _ (.tail _ (.head _))) (fun _ _=>rfl)) (.cons (bQ (enc:=cO) (T:=73) [⟨1,0⟩] (hk _ (.tail _ (.tail _ (.head _)))) (fun _ _=>rfl)) .nil)⟩,
  ⟨[.slice (some ⟨oR,0,none⟩) 2 2],bQ (enc:=ir) (T:=81) [.slice (some ⟨oR,0,none⟩) 2 2] (hk _ (.tail _ (.tail _ (.tail _ (.head _))))) (fun _ _=>rfl),
   .cons (bQ (enc:=mV) (T:=77) [⟨1,0,0,0,0,0,0⟩,⟨2,0,0,0,0,0,0⟩] (hk _ (.tail _ (.tail _ (.tail _ (.tail _ (.head _)))))) (fun _ _=>rfl)) .nil⟩,
  ⟨bQ (enc:=oZ) (T:=140) Ul (hk _ (.tail _ (.tail _ (.tail _ (.tail _ (.tail _ (.head _))))))) (fun _ _=>rfl),bQ (enc:=ma) (T:=143) (ahl jJ me) (hk _ (.tail _ (.tail _ (.tail _ (.tail _ (.tail _ (.tail _ (.head _)))))))) (fun _ _=>rfl),
   .cons ⟨rfl,rfl,rfl,bE.nil _ _ _ _ _⟩ (.cons ⟨rfl,rfl,rfl,bE.nil _ _ _ _ _⟩ (.cons ⟨rfl,rfl,rfl,bQ (enc:=cv) (T:=3) [0] (hk _ (.tail _ (.tail _ (.tail _ (.tail _ (.tail _ (.tail _ (.tail _ (.head _))))))))) (fun _ _=>rfl)⟩ (.cons ⟨rfl,rfl,rfl,bE.nil _ _ _ _ _⟩ (.cons ⟨rfl,rfl,rfl,bQ (enc:=cv) (T:=3) [3] (hk _ (.tail _ (.tail _ (.tail _ (.tail _ (.tail _ (.tail _ (.tail _ (.tail _ (.head _)))))))))) (fun _ _=>rfl)⟩ (.cons ⟨rfl,rfl,rfl,bE.nil _ _ _ _ _⟩ .nil)))))⟩,
  .cons ⟨rfl,rfl,rfl⟩ (.cons ⟨rfl,rfl,rfl⟩ (.cons ⟨rfl,rfl,rfl⟩ (.cons ⟨rfl,rfl,rfl⟩ (.cons ⟨rfl,rfl,rfl⟩ (.cons ⟨rfl,rfl,rfl⟩ .nil))))),
  bQ (enc:=jI) (T:=84) [⟨(bs [121]),(bs [105])⟩] (hk _ (.tail _ (.tail _ (.tail _ (.tail _ (.tail _ (.tail _ (.tail _ (.tail _ (.tail _ (.head _))))))))))) (fun _ _=>rfl),bQ (enc:=fe) (T:=44) MO (hk _ (.tail _ (.tail _ (.tail _ (.tail _ (.tail _ (.tail _ (.tail _ (.tail _ (.tail _ (.tail _ (.head _)))))))))))) (fun _ _=>rfl),bQ (enc:=fe) (T:=44) MP (hk _ (.tail _ (.tail _ (.tail _ (.tail _ (.tail _ (.tail _ (.tail _ (.tail _ (.tail _ (.tail _ (.tail _ (.head _))))))))))))) (fun _ _=>rfl),bE.nil _ _ _ _ _⟩
theorem dJ(dP fW b9 fE dH dk di:Nat)(n:Int):aai (aT n) (dA dP fW b9 fE dH dk di n):=
 ⟨_,_,_,_,_,_,_,_,none,0,rfl,Fo rfl rfl rfl rfl rfl rfl rfl rfl⟩
theorem Kr{n:Int}{ro:Nat→Option Obj}:eE zT 34 [zI n] ro [] (fun r Y=>∃l,r= .agg ⟨l⟩∧(∀aI,Knows aI Y→gk aI l (aT n))∧aai (aT n) l):=by
 refine bA au [] [] a8<|zD 2<|jn fun b2=>zD 7<|jn fun b9=>jp (vs:=[.string (bs [98,97,107,101,114]),zI 1,zS]) [] [] (fun aB hs hZ=>cIs)<|jp (vs:=[.string (bs [98,111,110,110,101,116,115]),zI 3]) [] [] (fun aB hs hZ=>aFX)<|jn fun jJ=>jp (vs:=[.string (bs [99,111,110,102,101,99,116,105,111,110,101,114]),zI 0,.slice (some ⟨jJ,0,none⟩) 1 1]) [] [] (fun aB hs hZ=>cIs)<|jp (vs:=[.string (bs [104,97,116,116,101,114]),zI 3,zS]) [] [] (fun aB hs hZ=>cIs)<|jn fun me=>jp (vs:=[.string (bs [109,101,114,99,101,114]),zI 2,.slice (some ⟨me,0,none⟩) 1 1]) [] [] (fun aB hs hZ=>cIs)<|jp (vs:=[.string (bs [109,105,108,108,105,110,101,114]),zI 1]) [] [] (fun aB hs hZ=>aFX)<|jn fun fE=>zD 1<|jn fun b3=>jd 6 [0]<|jn fun m9=>zD 1<|jn fun mD=>jn fun dP=>zD 3<|jn fun oR=>zD 1<|jn fun fW=>zD 1<|jn fun b4=>jd 8 [0,0,6]<|nK [3,4] ⟨fun z1 t2 rY=>?_,fun z4 t5 hL6=>?_,trivial⟩
 ·
  refine jn fun dH=>bI rY [1,2,3,4,5,6,7,8,9,10,11,12]<|jp (vs:=[.string (bs [115,109,105,116,104]),zI 0,zI 1,zI 0]) [] [] (fun aB hs hZ=>kp)<|jp (vs:=[.string (bs [97,110,110,97]),zI 0,zI 2,zI 3]) [] [] (fun aB hs hZ=>kp)<|jp (vs:=[.string (bs [115,109,121,116,104]),zI 1,zI 1,zI 2]) [] [] (fun aB hs hZ=>kp)<|nK [7,8] ⟨fun z7 t8 Zo=>?_,fun z10 t11 GG=>?_,trivial⟩
  ·
   refine jn fun dk=>bI Zo [1,2,3,4,5,6,7,8,9,10,11,12,13]<|jp (vs:=[.string (bs [115,109,121,116,104]),zI 0,zI 2,zI 0]) [] [] (fun aB hs hZ=>kp)<|jp (vs:=[.string (bs [115,109,105,116,104]),zI 1,zI 1,zI (-1)]) [] [] (fun aB hs hZ=>kp)<|jp (vs:=[.string (bs [98,101,110]),zI 0,zI 1,zI 4]) [] [] (fun aB hs hZ=>kp)<|aO 11 fun am1 ani Ms=>jn fun di=>bI Ms [1,2,3,4,5,6,7,8,9,10,11,12,13,14]<|zD 1<|aO 14 fun awU axO auo=>jd 1 [14]<|e8 auo<|zD 2<|aE q0 (.agg ⟨dA dP fW b9 fE dH dk di n⟩) [14] [6,8,7,4,5,13,10,12,11,2,1,0] (dF dP m9 mD fW oR b9 fE jJ me dH dk di) (Sub.refl _) ⟨_,_,rfl,rfl,_,rfl,fun _ hk=>dI hk,dJ _ _ _ _ _ _ _ _⟩
  refine jp (vs:=[.string (bs [115,109,121,116,104]),zI 0,zI 2,zI 0]) [] [] (fun aB hs hZ=>kp)<|bI GG [0,1,2,3,4,5,6,7,8,9,10,11,12]<|nK [7,9] ⟨fun z15 t16 Mr=>?_,fun z18 t19 TU=>?_,trivial⟩
  ·
   refine jn fun dk=>bI Mr [1,2,3,4,5,6,7,8,9,10,11,12,13]<|jp (vs:=[.string (bs [115,109,105,116,104]),zI 1,zI 1,zI (-1)]) [] [] (fun aB hs hZ=>kp)<|jp (vs:=[.string (bs [98,101,110]),zI 0,zI 1,zI 4]) [] [] (fun aB hs hZ=>kp)<|aO 11 fun awQ axK Zq=>jn fun di=>bI Zq [1,2,3,4,5,6,7,8,9,10,11,12,13,14]<|zD 1<|aO 14 fun awP axJ afJ=>jd 1 [14]<|e8 afJ<|zD 2<|aE q0 (.agg ⟨dA dP fW b9 fE dH dk di n⟩) [14] [6,8,7,4,5,13,10,12,11,2,1,0] (dF dP m9 mD fW oR b9 fE jJ me dH dk di) (Sub.refl _) ⟨_,_,rfl,rfl,_,rfl,fun _ hk=>dI hk,dJ _ _ _ _ _ _ _ _⟩
  refine jp (vs:=[.string (bs [115,109,105,116,104]),zI 1,zI 1,zI (-1)]) [] [] (fun aB hs hZ=>kp)<|bI TU [0,1,2,3,4,5,6,7,8,9,10,11,12]<|nK [7,10] ⟨fun z23 t24 TS=>?_,fun z26 t27 Mq=>?_,trivial⟩
  ·
   refine jn fun dk=>bI TS [1,2,3,4,5,6,7,8,9,10,11,12,13]<|jp (vs:=[.string (bs [98,101,110]),zI 0,zI 1,zI 4]) [] [] (fun aB hs hZ=>kp)<|aO 11 fun UP U1 Mp=>jn fun di=>bI Mp [1,2,3,4,5,6,7,8,9,10,11,12,13,14]<|zD 1<|aO 14 fun aaH abl TQ=>jd 1 [14]<|e8 TQ<|zD 2<|aE q0 (.agg ⟨dA dP fW b9 fE dH dk di n⟩) [14] [6,8,7,4,5,13,10,12,11,2,1,0] (dF dP m9 mD fW oR b9 fE jJ me dH dk di) (Sub.refl _) ⟨_,_,rfl,rfl,_,rfl,fun _ hk=>dI hk,dJ _ _ _ _ _ _ _ _⟩
  refine jp (vs:=[.string (bs [98,101,110]),zI 0,zI 1,zI 4]) [] [] (fun aB hs hZ=>kp)<|bI Mq [0,1,2,3,4,5,6,7,8,9,10,11,12]<|nK [7,11] ⟨fun z31 t32 auk=>?_,fun z34 t35 TP=>?_,trivial⟩
  ·
   refine jn fun dk=>bI auk [1,2,3,4,5,6,7,8,9,10,11,12,13]<|aO 11 fun amX ane afH=>jn fun di=>bI afH [1,2,3,4,5,6,7,8,9,10,11,12,13,14]<|zD 1<|aO 14 fun awK axE auj=>jd 1 [14]<|e8 auj<|zD 2<|aE q0 (.agg ⟨dA dP fW b9 fE dH dk di n⟩) [14] [6,8,7,4,5,13,10,12,11,2,1,0] (dF dP m9 mD fW oR b9 fE jJ me dH dk di) (Sub.refl _) ⟨_,_,rfl,rfl,_,rfl,fun _ hk=>dI hk,dJ _ _ _ _ _ _ _ _⟩
  refine jn fun di=>bI TP [1,2,3,4,5,6,7,8,9,10,11,12,13]<|aO 7 fun awJ axD aui=>jn fun dk=>bI aui [1,2,3,4,5,6,7,8,9,10,11,12,13,14]<|zD 1<|aO 14 fun awI axC auh=>jd 1 [14]<|e8 auh<|zD 2<|aE q0 (.agg ⟨dA dP fW b9 fE dH dk di n⟩) [14] [6,8,7,4,5,13,10,12,11,2,0,1] (dF dP m9 mD fW oR b9 fE jJ me dH dk di) (Sub.refl _) ⟨_,_,rfl,rfl,_,rfl,fun _ hk=>dI hk,dJ _ _ _ _ _ _ _ _⟩
 refine jp (vs:=[.string (bs [115,109,105,116,104]),zI 0,zI 1,zI 0]) [] [] (fun aB hs hZ=>kp)<|bI hL6 [0,1,2,3,4,5,6,7,8,9,10,11]<|nK [3,5] ⟨fun z41 t42 aSX=>?_,fun z44 t45 aSV=>?_,trivial⟩
 ·
  refine jn fun dH=>bI aSX [1,2,3,4,5,6,7,8,9,10,11,12]<|jp (vs:=[.string (bs [97,110,110,97]),zI 0,zI 2,zI 3]) [] [] (fun aB hs hZ=>kp)<|jp (vs:=[.string (bs [115,109,121,116,104]),zI 1,zI 1,zI 2]) [] [] (fun aB hs hZ=>kp)<|nK [7,8] ⟨fun z47 t48 auf=>?_,fun z50 t51 afG=>?_,trivial⟩
  ·
   refine jn fun dk=>bI auf [1,2,3,4,5,6,7,8,9,10,11,12,13]<|jp (vs:=[.string (bs [115,109,121,116,104]),zI 0,zI 2,zI 0]) [] [] (fun aB hs hZ=>kp)<|jp (vs:=[.string (bs [115,109,105,116,104]),zI 1,zI 1,zI (-1)]) [] [] (fun aB hs hZ=>kp)<|jp (vs:=[.string (bs [98,101,110]),zI 0,zI 1,zI 4]) [] [] (fun aB hs hZ=>kp)<|aO 11 fun amW anc afF=>jn fun di=>bI afF [1,2,3,4,5,6,7,8,9,10,11,12,13,14]<|zD 1<|aO 14 fun amV anb afE=>jd 1 [14]<|e8 afE<|zD 2<|aE q0 (.agg ⟨dA dP fW b9 fE dH dk di n⟩) [14] [6,8,7,4,5,13,10,12,11,2,1,0] (dF dP m9 mD fW oR b9 fE jJ me dH dk di) (Sub.refl _) ⟨_,_,rfl,rfl,_,rfl,fun _ hk=>dI hk,dJ _ _ _ _ _ _ _ _⟩
  refine jp (vs:=[.string (bs [115,109,121,116,104]),zI 0,zI 2,zI 0]) [] [] (fun aB hs hZ=>kp)<|bI afG [0,1,2,3,4,5,6,7,8,9,10,11,12]<|nK [7,9] ⟨fun z55 t56 afD=>?_,fun z58 t59 aua=>?_,trivial⟩
  ·
   refine jn fun dk=>bI afD [1,2,3,4,5,6,7,8,9,10,11,12,13]<|jp (vs:=[.string (bs [115,109,105,116,104]),zI 1,zI 1,zI (-1)]) [] [] (fun aB hs hZ=>kp)<|jp (vs:=[.string (bs [98,101,110]),zI 0,zI 1,zI 4]) [] [] (fun aB hs hZ=>kp)<|aO 11 fun awC axw at7=>jn fun di=>bI at7 [1,2,3,4,5,6,7,8,9,10,11,12,13,14]<|zD 1<|aO 14 fun awB axv at6=>jd 1 [14]<|e8 at6<|zD 2<|aE q0 (.agg ⟨dA dP fW b9 fE dH dk di n⟩) [14] [6,8,7,4,5,13,10,12,11,2,1,0] (dF dP m9 mD fW oR b9 fE jJ me dH dk di) (Sub.refl _) ⟨_,_,rfl,rfl,_,rfl,fun _ hk=>dI hk,dJ _ _ _ _ _ _ _ _⟩
  refine jp (vs:=[.string (bs [115,109,105,116,104]),zI 1,zI 1,zI (-1)]) [] [] (fun aB hs hZ=>kp)<|bI aua [0,1,2,3,4,5,6,7,8,9,10,11,12]<|nK [7,10] ⟨fun z63 t64 at5=>?_,fun z66 t67 aSM=>?_,trivial⟩
  ·
   refine jn fun dk=>bI at5 [1,2,3,4,5,6,7,8,9,10,11,12,13]<|jp (vs:=[.string (bs [98,101,110]),zI 0,zI 1,zI 4]) [] [] (fun aB hs hZ=>kp)<|aO 11 fun aVx aWg aSL=>jn fun di=>bI aSL [1,2,3,4,5,6,7,8,9,10,11,12,13,14]<|zD 1<|aO 14 fun aVw aWf aSK=>jd 1 [14]<|e8 aSK<|zD 2<|aE q0 (.agg ⟨dA dP fW b9 fE dH dk di n⟩) [14] [6,8,7,4,5,13,10,12,11,2,1,0] (dF dP m9 mD fW oR b9 fE jJ me dH dk di) (Sub.refl _) ⟨_,_,rfl,rfl,_,rfl,fun _ hk=>dI hk,dJ _ _ _ _ _ _ _ _⟩
  refine jp (vs:=[.string (bs [98,101,110]),zI 0,zI 1,zI 4]) [] [] (fun aB hs hZ=>kp)<|bI aSM [0,1,2,3,4,5,6,7,8,9,10,11,12]<|nK [7,11] ⟨fun z71 t72 aSJ=>?_,fun z74 t75 aSI=>?_,trivial⟩
  ·
   refine jn fun dk=>bI aSJ [1,2,3,4,5,6,7,8,9,10,11,12,13]<|aO 11 fun aVv aWe aSH=>jn fun di=>bI aSH [1,2,3,4,5,6,7,8,9,10,11,12,13,14]<|zD 1<|aO 14 fun aVu aWd aSG=>jd 1 [14]<|e8 aSG<|zD 2<|aE q0 (.agg ⟨dA dP fW b9 fE dH dk di n⟩) [14] [6,8,7,4,5,13,10,12,11,2,1,0] (dF dP m9 mD fW oR b9 fE jJ me dH dk di) (Sub.refl _) ⟨_,_,rfl,rfl,_,rfl,fun _ hk=>dI hk,dJ _ _ _ _ _ _ _ _⟩
  refine jn fun di=>bI aSI [1,2,3,4,5,6,7,8,9,10,11,12,13]<|aO 7 fun aVt aWc aSF=>jn fun dk=>bI aSF [1,2,3,4,5,6,7,8,9,10,11,12,13,14]<|zD 1<|aO 14 fun aVs aWb aSE=>jd 1 [14]<|e8 aSE<|zD 2<|aE q0 (.agg ⟨dA dP fW b9 fE dH dk di n⟩) [14] [6,8,7,4,5,13,10,12,11,2,0,1] (dF dP m9 mD fW oR b9 fE jJ me dH dk di) (Sub.refl _) ⟨_,_,rfl,rfl,_,rfl,fun _ hk=>dI hk,dJ _ _ _ _ _ _ _ _⟩
 refine jp (vs:=[.string (bs [97,110,110,97]),zI 0,zI 2,zI 3]) [] [] (fun aB hs hZ=>kp)<|bI aSV [0,1,2,3,4,5,6,7,8,9,10,11]<|nK [3,6] ⟨fun z81 t82 aSD=>?_,fun z84 t85 aSC=>?_,trivial⟩
 ·
  refine jn fun dH=>bI aSD [1,2,3,4,5,6,7,8,9,10,11,12]<|jp (vs:=[.string (bs [115,109,121,116,104]),zI 1,zI 1,zI 2]) [] [] (fun aB hs hZ=>kp)<|nK [7,8] ⟨fun z87 t88 aSB=>?_,fun z90 t91 aSA=>?_,trivial⟩
  ·
   refine jn fun dk=>bI aSB [1,2,3,4,5,6,7,8,9,10,11,12,13]<|jp (vs:=[.string (bs [115,109,121,116,104]),zI 0,zI 2,zI 0]) [] [] (fun aB hs hZ=>kp)<|jp (vs:=[.string (bs [115,109,105,116,104]),zI 1,zI 1,zI (-1)]) [] [] (fun aB hs hZ=>kp)<|jp (vs:=[.string (bs [98,101,110]),zI 0,zI 1,zI 4]) [] [] (fun aB hs hZ=>kp)<|aO 11 fun aVr aWa aSz=>jn fun di=>bI aSz [1,2,3,4,5,6,7,8,9,10,11,12,13,14]<|zD 1<|aO 14 fun aVq aV9 aSy=>jd 1 [14]<|e8 aSy<|zD 2<|aE q0 (.agg ⟨dA dP fW b9 fE dH dk di n⟩) [14] [6,8,7,4,5,13,10,12,11,2,1,0] (dF dP m9 mD fW oR b9 fE jJ me dH dk di) (Sub.refl _) ⟨_,_,rfl,rfl,_,rfl,fun _ hk=>dI hk,dJ _ _ _ _ _ _ _ _⟩
  refine jp (vs:=[.string (bs [115,109,121,116,104]),zI 0,zI 2,zI 0]) [] [] (fun aB hs hZ=>kp)<|bI aSA [0,1,2,3,4,5,6,7,8,9,10,11,12]<|nK [7,9] ⟨fun z95 t96 aSx=>?_,fun z98 t99 aEH=>?_,trivial⟩
  ·
   refine jn fun dk=>bI aSx [1,2,3,4,5,6,7,8,9,10,11,12,13]<|jp (vs:=[.string (bs [115,109,105,116,104]),zI 1,zI 1,zI (-1)]) [] [] (fun aB hs hZ=>kp)<|jp (vs:=[.string (bs [98,101,110]),zI 0,zI 1,zI 4]) [] [] (fun aB hs hZ=>kp)<|aO 11 fun aJK aMd aEG=>jn fun di=>bI aEG [1,2,3,4,5,6,7,8,9,10,11,12,13,14]<|zD 1<|aO 14 fun aJJ aMc aEF=>jd 1 [14]<|e8 aEF<|zD 2<|aE q0 (.agg ⟨dA dP fW b9 fE dH dk di n⟩) [14] [6,8,7,4,5,13,10,12,11,2,1,0] (dF dP m9 mD fW oR b9 fE jJ me dH dk di) (Sub.refl _) ⟨_,_,rfl,rfl,_,rfl,fun _ hk=>dI hk,dJ _ _ _ _ _ _ _ _⟩
  refine jp (vs:=[.string (bs [115,109,105,116,104]),zI 1,zI 1,zI (-1)]) [] [] (fun aB hs hZ=>kp)<|bI aEH [0,1,2,3,4,5,6,7,8,9,10,11,12]<|nK [7,10] ⟨fun bau t104 aEE=>?_,fun bat t107 aED=>?_,trivial⟩
  ·
   refine jn fun dk=>bI aEE [1,2,3,4,5,6,7,8,9,10,11,12,13]<|jp (vs:=[.string (bs [98,101,110]),zI 0,zI 1,zI 4]) [] [] (fun aB hs hZ=>kp)<|aO 11 fun aJI aMb aEC=>jn fun di=>bI aEC [1,2,3,4,5,6,7,8,9,10,11,12,13,14]<|zD 1<|aO 14 fun aJH aMa aEB=>jd 1 [14]<|e8 aEB<|zD 2<|aE q0 (.agg ⟨dA dP fW b9 fE dH dk di n⟩) [14] [6,8,7,4,5,13,10,12,11,2,1,0] (dF dP m9 mD fW oR b9 fE jJ me dH dk di) (Sub.refl _) ⟨_,_,rfl,rfl,_,rfl,fun _ hk=>dI hk,dJ _ _ _ _ _ _ _ _⟩
  refine jp (vs:=[.string (bs [98,101,110]),zI 0,zI 1,zI 4]) [] [] (fun aB hs hZ=>kp)<|bI aED [0,1,2,3,4,5,6,7,8,9,10,11,12]<|nK [7,11] ⟨fun bar t112 aEA=>?_,fun baq t115 aEz=>?_,trivial⟩
  ·
   refine jn fun dk=>bI aEA [1,2,3,4,5,6,7,8,9,10,11,12,13]<|aO 11 fun aJG aL9 aEy=>jn fun di=>bI aEy [1,2,3,4,5,6,7,8,9,10,11,12,13,14]<|zD 1<|aO 14 fun aJF aL8 aEx=>jd 1 [14]<|e8 aEx<|zD 2<|aE q0 (.agg ⟨dA dP fW b9 fE dH dk di n⟩) [14] [6,8,7,4,5,13,10,12,11,2,1,0] (dF dP m9 mD fW oR b9 fE jJ me dH dk di) (Sub.refl _) ⟨_,_,rfl,rfl,_,rfl,fun _ hk=>dI hk,dJ _ _ _ _ _ _ _ _⟩
  refine jn fun di=>bI aEz [1,2,3,4,5,6,7,8,9,10,11,12,13]<|aO 7 fun aJE aL7 aEw=>jn fun dk=>bI aEw [1,2,3,4,5,6,7,8,9,10,11,12,13,14]<|zD 1<|aO 14 fun aJD aL6 aEv=>jd 1 [14]<|e8 aEv<|zD 2<|aE q0 (.agg ⟨dA dP fW b9 fE dH dk di n⟩) [14] [6,8,7,4,5,13,10,12,11,2,0,1] (dF dP m9 mD fW oR b9 fE jJ me dH dk di) (Sub.refl _) ⟨_,_,rfl,rfl,_,rfl,fun _ hk=>dI hk,dJ _ _ _ _ _ _ _ _⟩
 refine jp (vs:=[.string (bs [115,109,121,116,104]),zI 1,zI 1,zI 2]) [] [] (fun aB hs hZ=>kp)<|bI aSC [0,1,2,3,4,5,6,7,8,9,10,11]<|nK [3,7,8] ⟨fun bao t122 aEu=>?_,fun ban t125 aEt=>?_,fun bam t128 aEs=>?_,trivial⟩
 ·
  refine jn fun dH=>bI aEu [1,2,3,4,5,6,7,8,9,10,11,12]<|nK [7,8] ⟨fun bak t131 aEr=>?_,fun baj t134 aEq=>?_,trivial⟩
  ·
   refine jn fun dk=>bI aEr [1,2,3,4,5,6,7,8,9,10,11,12,13]<|jp (vs:=[.string (bs [115,109,121,116,104]),zI 0,zI 2,zI 0]) [] [] (fun aB hs hZ=>kp)<|jp (vs:=[.string (bs [115,109,105,116,104]),zI 1,zI 1,zI (-1)]) [] [] (fun aB hs hZ=>kp)<|jp (vs:=[.string (bs [98,101,110]),zI 0,zI 1,zI 4]) [] [] (fun aB hs hZ=>kp)<|aO 11 fun aJC aL5 aEp=>jn fun di=>bI aEp [1,2,3,4,5,6,7,8,9,10,11,12,13,14]<|zD 1<|aO 14 fun aJB aL4 aEo=>jd 1 [14]<|e8 aEo<|zD 2<|aE q0 (.agg ⟨dA dP fW b9 fE dH dk di n⟩) [14] [6,8,7,4,5,13,10,12,11,2,1,0] (dF dP m9 mD fW oR b9 fE jJ me dH dk di) (Sub.refl _) ⟨_,_,rfl,rfl,_,rfl,fun _ hk=>dI hk,dJ _ _ _ _ _ _ _ _⟩
  refine jp (vs:=[.string (bs [115,109,121,116,104]),zI 0,zI 2,zI 0]) [] [] (fun aB hs hZ=>kp)<|bI aEq [0,1,2,3,4,5,6,7,8,9,10,11,12]<|nK [7,9] ⟨fun bai t139 aEn=>?_,fun bah t142 aEm=>?_,trivial⟩
  ·
   refine jn fun dk=>bI aEn [1,2,3,4,5,6,7,8,9,10,11,12,13]<|jp (vs:=[.string (bs [115,109,105,116,104]),zI 1,zI 1,zI (-1)]) [] [] (fun aB hs hZ=>kp)<|jp (vs:=[.string (bs [98,101,110]),zI 0,zI 1,zI 4]) [] [] (fun aB hs hZ=>kp)<|aO 11 fun aJA aL3 aEl=>jn fun di=>bI aEl [1,2,3,4,5,6,7,8,9,10,11,12,13,14]<|zD 1<|aO 14 fun aJz aL2 aEk=>jd 1 [14]<|e8 aEk<|zD 2<|aE q0 (.agg ⟨dA dP fW b9 fE dH dk di n⟩) [14] [6,8,7,4,5,13,10,12,11,2,1,0] (dF dP m9 mD fW oR b9 fE jJ me dH dk di) (Sub.refl _) ⟨_,_,rfl,rfl,_,rfl,fun _ hk=>dI hk,dJ _ _ _ _ _ _ _ _⟩
  refine jp (vs:=[.string (bs [115,109,105,116,104]),zI 1,zI 1,zI (-1)]) [] [] (fun aB hs hZ=>kp)<|bI aEm [0,1,2,3,4,5,6,7,8,9,10,11,12]<|nK [7,10] ⟨fun baf t147 aEj=>?_,fun bae t150 aEi=>?_,trivial⟩
  ·
   refine jn fun dk=>bI aEj [1,2,3,4,5,6,7,8,9,10,11,12,13]<|jp (vs:=[.string (bs [98,101,110]),zI 0,zI 1,zI 4]) [] [] (fun aB hs hZ=>kp)<|aO 11 fun aJy aL1 aEh=>jn fun di=>bI aEh [1,2,3,4,5,6,7,8,9,10,11,12,13,14]<|zD 1<|aO 14 fun aJx aL0 aEg=>jd 1 [14]<|e8 aEg<|zD 2<|aE q0 (.agg ⟨dA dP fW b9 fE dH dk di n⟩) [14] [6,8,7,4,5,13,10,12,11,2,1,0] (dF dP m9 mD fW oR b9 fE jJ me dH dk di) (Sub.refl _) ⟨_,_,rfl,rfl,_,rfl,fun _ hk=>dI hk,dJ _ _ _ _ _ _ _ _⟩
  refine jp (vs:=[.string (bs [98,101,110]),zI 0,zI 1,zI 4]) [] [] (fun aB hs hZ=>kp)<|bI aEi [0,1,2,3,4,5,6,7,8,9,10,11,12]<|nK [7,11] ⟨fun bab t155 aEf=>?_,fun baa t158 aEe=>?_,trivial⟩
  ·
   refine jn fun dk=>bI aEf [1,2,3,4,5,6,7,8,9,10,11,12,13]<|aO 11 fun aJw aLZ aEd=>jn fun di=>bI aEd [1,2,3,4,5,6,7,8,9,10,11,12,13,14]<|zD 1<|aO 14 fun aJv aLY aEc=>jd 1 [14]<|e8 aEc<|zD 2<|aE q0 (.agg ⟨dA dP fW b9 fE dH dk di n⟩) [14] [6,8,7,4,5,13,10,12,11,2,1,0] (dF dP m9 mD fW oR b9 fE jJ me dH dk di) (Sub.refl _) ⟨_,_,rfl,rfl,_,rfl,fun _ hk=>dI hk,dJ _ _ _ _ _ _ _ _⟩
  refine jn fun di=>bI aEe [1,2,3,4,5,6,7,8,9,10,11,12,13]<|aO 7 fun aJu aLX aEb=>jn fun dk=>bI aEb [1,2,3,4,5,6,7,8,9,10,11,12,13,14]<|zD 1<|aO 14 fun aJt aLW aEa=>jd 1 [14]<|e8 aEa<|zD 2<|aE q0 (.agg ⟨dA dP fW b9 fE dH dk di n⟩) [14] [6,8,7,4,5,13,10,12,11,2,0,1] (dF dP m9 mD fW oR b9 fE jJ me dH dk di) (Sub.refl _) ⟨_,_,rfl,rfl,_,rfl,fun _ hk=>dI hk,dJ _ _ _ _ _ _ _ _⟩
 ·
  refine jn fun dk=>bI aEt [1,2,3,4,5,6,7,8,9,10,11,12]<|nK [3,8] ⟨fun aZ9 t165 aD9=>?_,fun aZ8 t168 aD8=>?_,trivial⟩
  ·
   refine jn fun dH=>bI aD9 [1,2,3,4,5,6,7,8,9,10,11,12,13]<|jp (vs:=[.string (bs [115,109,121,116,104]),zI 0,zI 2,zI 0]) [] [] (fun aB hs hZ=>kp)<|jp (vs:=[.string (bs [115,109,105,116,104]),zI 1,zI 1,zI (-1)]) [] [] (fun aB hs hZ=>kp)<|jp (vs:=[.string (bs [98,101,110]),zI 0,zI 1,zI 4]) [] [] (fun aB hs hZ=>kp)<|aO 11 fun aJs aLV aD7=>jn fun di=>bI aD7 [1,2,3,4,5,6,7,8,9,10,11,12,13,14]<|zD 1<|aO 14 fun aJr aLU aD6=>jd 1 [14]<|e8 aD6<|zD 2<|aE q0 (.agg ⟨dA dP fW b9 fE dH dk di n⟩) [14] [6,8,7,4,5,13,10,12,11,1,2,0] (dF dP m9 mD fW oR b9 fE jJ me dH dk di) (Sub.refl _) ⟨_,_,rfl,rfl,_,rfl,fun _ hk=>dI hk,dJ _ _ _ _ _ _ _ _⟩
  refine jp (vs:=[.string (bs [115,109,121,116,104]),zI 0,zI 2,zI 0]) [] [] (fun aB hs hZ=>kp)<|bI aD8 [0,1,2,3,4,5,6,7,8,9,10,11,12]<|nK [3,9] ⟨fun aZ7 t173 aD5=>?_,fun aZ6 t176 aD4=>?_,trivial⟩
  ·
   refine jn fun dH=>bI aD5 [1,2,3,4,5,6,7,8,9,10,11,12,13]<|jp (vs:=[.string (bs [115,109,105,116,104]),zI 1,zI 1,zI (-1)]) [] [] (fun aB hs hZ=>kp)<|jp (vs:=[.string (bs [98,101,110]),zI 0,zI 1,zI 4]) [] [] (fun aB hs hZ=>kp)<|aO 11 fun aJq aLT aD3=>jn fun di=>bI aD3 [1,2,3,4,5,6,7,8,9,10,11,12,13,14]<|zD 1<|aO 14 fun aJp aLS aD2=>jd 1 [14]<|e8 aD2<|zD 2<|aE q0 (.agg ⟨dA dP fW b9 fE dH dk di n⟩) [14] [6,8,7,4,5,13,10,12,11,1,2,0] (dF dP m9 mD fW oR b9 fE jJ me dH dk di) (Sub.refl _) ⟨_,_,rfl,rfl,_,rfl,fun _ hk=>dI hk,dJ _ _ _ _ _ _ _ _⟩
  refine jp (vs:=[.string (bs [115,109,105,116,104]),zI 1,zI 1,zI (-1)]) [] [] (fun aB hs hZ=>kp)<|bI aD4 [0,1,2,3,4,5,6,7,8,9,10,11,12]<|nK [3,10] ⟨fun aZ4 t181 aD1=>?_,fun aZ3 t184 aD0=>?_,trivial⟩
  ·
   refine jn fun dH=>bI aD1 [1,2,3,4,5,6,7,8,9,10,11,12,13]<|jp (vs:=[.string (bs [98,101,110]),zI 0,zI 1,zI 4]) [] [] (fun aB hs hZ=>kp)<|aO 11 fun aJo aLR aDZ=>jn fun di=>bI aDZ [1,2,3,4,5,6,7,8,9,10,11,12,13,14]<|zD 1<|aO 14 fun aJn aLQ aDY=>jd 1 [14]<|e8 aDY<|zD 2<|aE q0 (.agg ⟨dA dP fW b9 fE dH dk di n⟩) [14] [6,8,7,4,5,13,10,12,11,1,2,0] (dF dP m9 mD fW oR b9 fE jJ me dH dk di) (Sub.refl _) ⟨_,_,rfl,rfl,_,rfl,fun _ hk=>dI hk,dJ _ _ _ _ _ _ _ _⟩
  refine jp (vs:=[.string (bs [98,101,110]),zI 0,zI 1,zI 4]) [] [] (fun aB hs hZ=>kp)<|bI aD0 [0,1,2,3,4,5,6,7,8,9,10,11,12]<|nK [3,11] ⟨fun aZ2 t189 aDX=>?_,fun aZ1 t192 aDW=>?_,trivial⟩
  ·
   refine jn fun dH=>bI aDX [1,2,3,4,5,6,7,8,9,10,11,12,13]<|aO 11 fun aJm aLP aDV=>jn fun di=>bI aDV [1,2,3,4,5,6,7,8,9,10,11,12,13,14]<|zD 1<|aO 14 fun aJl aLO aDU=>jd 1 [14]<|e8 aDU<|zD 2<|aE q0 (.agg ⟨dA dP fW b9 fE dH dk di n⟩) [14] [6,8,7,4,5,13,10,12,11,1,2,0] (dF dP m9 mD fW oR b9 fE jJ me dH dk di) (Sub.refl _) ⟨_,_,rfl,rfl,_,rfl,fun _ hk=>dI hk,dJ _ _ _ _ _ _ _ _⟩
  refine jn fun di=>bI aDW [1,2,3,4,5,6,7,8,9,10,11,12,13]<|aO 3 fun aJk aLN aDT=>jn fun dH=>bI aDT [1,2,3,4,5,6,7,8,9,10,11,12,13,14]<|zD 1<|aO 14 fun aJj aLM aDS=>jd 1 [14]<|e8 aDS<|zD 2<|aE q0 (.agg ⟨dA dP fW b9 fE dH dk di n⟩) [14] [6,8,7,4,5,13,10,12,11,0,2,1] (dF dP m9 mD fW oR b9 fE jJ me dH dk di) (Sub.refl _) ⟨_,_,rfl,rfl,_,rfl,fun _ hk=>dI hk,dJ _ _ _ _ _ _ _ _⟩
 refine jp (vs:=[.string (bs [115,109,121,116,104]),zI 0,zI 2,zI 0]) [] [] (fun aB hs hZ=>kp)<|bI aEs [0,1,2,3,4,5,6,7,8,9,10,11]<|nK [3,7,9] ⟨fun aZ0 t199 aDR=>?_,fun aZZ t202 aDQ=>?_,fun aZY t205 aDP=>?_,trivial⟩
 ·
  refine jn fun dH=>bI aDR [1,2,3,4,5,6,7,8,9,10,11,12]<|nK [7,9] ⟨fun aZX t208 aDO=>?_,fun aZW t211 aDN=>?_,trivial⟩
  ·
   refine jn fun dk=>bI aDO [1,2,3,4,5,6,7,8,9,10,11,12,13]<|jp (vs:=[.string (bs [115,109,105,116,104]),zI 1,zI 1,zI (-1)]) [] [] (fun aB hs hZ=>kp)<|jp (vs:=[.string (bs [98,101,110]),zI 0,zI 1,zI 4]) [] [] (fun aB hs hZ=>kp)<|aO 11 fun aJi aLL aDM=>jn fun di=>bI aDM [1,2,3,4,5,6,7,8,9,10,11,12,13,14]<|zD 1<|aO 14 fun aJh aLK aDL=>jd 1 [14]<|e8 aDL<|zD 2<|aE q0 (.agg ⟨dA dP fW b9 fE dH dk di n⟩) [14] [6,8,7,4,5,13,10,12,11,2,1,0] (dF dP m9 mD fW oR b9 fE jJ me dH dk di) (Sub.refl _) ⟨_,_,rfl,rfl,_,rfl,fun _ hk=>dI hk,dJ _ _ _ _ _ _ _ _⟩
  refine jp (vs:=[.string (bs [115,109,105,116,104]),zI 1,zI 1,zI (-1)]) [] [] (fun aB hs hZ=>kp)<|bI aDN [0,1,2,3,4,5,6,7,8,9,10,11,12]<|nK [7,10] ⟨fun aZV t216 aDK=>?_,fun aZU t219 aDJ=>?_,trivial⟩
  ·
   refine jn fun dk=>bI aDK [1,2,3,4,5,6,7,8,9,10,11,12,13]<|jp (vs:=[.string (bs [98,101,110]),zI 0,zI 1,zI 4]) [] [] (fun aB hs hZ=>kp)<|aO 11 fun aJg aLJ aDI=>jn fun di=>bI aDI [1,2,3,4,5,6,7,8,9,10,11,12,13,14]<|zD 1<|aO 14 fun aJf aLI aDH=>jd 1 [14]<|e8 aDH<|zD 2<|aE q0 (.agg ⟨dA dP fW b9 fE dH dk di n⟩) [14] [6,8,7,4,5,13,10,12,11,2,1,0] (dF dP m9 mD fW oR b9 fE jJ me dH dk di) (Sub.refl _) ⟨_,_,rfl,rfl,_,rfl,fun _ hk=>dI hk,dJ _ _ _ _ _ _ _ _⟩
  refine jp (vs:=[.string (bs [98,101,110]),zI 0,zI 1,zI 4]) [] [] (fun aB hs hZ=>kp)<|bI aDJ [0,1,2,3,4,5,6,7,8,9,10,11,12]<|nK [7,11] ⟨fun aZT t224 aDG=>?_,fun aZS t227 aDF=>?_,trivial⟩
  ·
   refine jn fun dk=>bI aDG [1,2,3,4,5,6,7,8,9,10,11,12,13]<|aO 11 fun aJe aLH aDE=>jn fun di=>bI aDE [1,2,3,4,5,6,7,8,9,10,11,12,13,14]<|zD 1<|aO 14 fun aJd aLG aDD=>jd 1 [14]<|e8 aDD<|zD 2<|aE q0 (.agg ⟨dA dP fW b9 fE dH dk di n⟩) [14] [6,8,7,4,5,13,10,12,11,2,1,0] (dF dP m9 mD fW oR b9 fE jJ me dH dk di) (Sub.refl _) ⟨_,_,rfl,rfl,_,rfl,fun _ hk=>dI hk,dJ _ _ _ _ _ _ _ _⟩
  refine jn fun di=>bI aDF [1,2,3,4,5,6,7,8,9,10,11,12,13]<|aO 7 fun aJc aLF aDC=>jn fun dk=>bI aDC [1,2,3,4,5,6,7,8,9,10,11,12,13,14]<|zD 1<|aO 14 fun aJb aLE aDB=>jd 1 [14]<|e8 aDB<|zD 2<|aE q0 (.agg ⟨dA dP fW b9 fE dH dk di n⟩) [14] [6,8,7,4,5,13,10,12,11,2,0,1] (dF dP m9 mD fW oR b9 fE jJ me dH dk di) (Sub.refl _) ⟨_,_,rfl,rfl,_,rfl,fun _ hk=>dI hk,dJ _ _ _ _ _ _ _ _⟩
 ·
  refine jn fun dk=>bI aDQ [1,2,3,4,5,6,7,8,9,10,11,12]<|nK [3,9] ⟨fun aZQ t234 aDA=>?_,fun aZP t237 aDz=>?_,trivial⟩
  ·
   refine jn fun dH=>bI aDA [1,2,3,4,5,6,7,8,9,10,11,12,13]<|jp (vs:=[.string (bs [115,109,105,116,104]),zI 1,zI 1,zI (-1)]) [] [] (fun aB hs hZ=>kp)<|jp (vs:=[.string (bs [98,101,110]),zI 0,zI 1,zI 4]) [] [] (fun aB hs hZ=>kp)<|aO 11 fun aJa aLD aDy=>jn fun di=>bI aDy [1,2,3,4,5,6,7,8,9,10,11,12,13,14]<|zD 1<|aO 14 fun aI9 aLC aDx=>jd 1 [14]<|e8 aDx<|zD 2<|aE q0 (.agg ⟨dA dP fW b9 fE dH dk di n⟩) [14] [6,8,7,4,5,13,10,12,11,1,2,0] (dF dP m9 mD fW oR b9 fE jJ me dH dk di) (Sub.refl _) ⟨_,_,rfl,rfl,_,rfl,fun _ hk=>dI hk,dJ _ _ _ _ _ _ _ _⟩
  refine jp (vs:=[.string (bs [115,109,105,116,104]),zI 1,zI 1,zI (-1)]) [] [] (fun aB hs hZ=>kp)<|bI aDz [0,1,2,3,4,5,6,7,8,9,10,11,12]<|nK [3,10] ⟨fun aZO t242 aDw=>?_,fun aZN t245 aDv=>?_,trivial⟩
  ·
   refine jn fun dH=>bI aDw [1,2,3,4,5,6,7,8,9,10,11,12,13]<|jp (vs:=[.string (bs [98,101,110]),zI 0,zI 1,zI 4]) [] [] (fun aB hs hZ=>kp)<|aO 11 fun aI8 aLB aDu=>jn fun di=>bI aDu [1,2,3,4,5,6,7,8,9,10,11,12,13,14]<|zD 1<|aO 14 fun aI7 aLA aDt=>jd 1 [14]<|e8 aDt<|zD 2<|aE q0 (.agg ⟨dA dP fW b9 fE dH dk di n⟩) [14] [6,8,7,4,5,13,10,12,11,1,2,0] (dF dP m9 mD fW oR b9 fE jJ me dH dk di) (Sub.refl _) ⟨_,_,rfl,rfl,_,rfl,fun _ hk=>dI hk,dJ _ _ _ _ _ _ _ _⟩
  refine jp (vs:=[.string (bs [98,101,110]),zI 0,zI 1,zI 4]) [] [] (fun aB hs hZ=>kp)<|bI aDv [0,1,2,3,4,5,6,7,8,9,10,11,12]<|nK [3,11] ⟨fun aZM t250 aDs=>?_,fun aZL t253 aDr=>?_,trivial⟩
  ·
   refine jn fun dH=>bI aDs [1,2,3,4,5,6,7,8,9,10,11,12,13]<|aO 11 fun aI6 aLz aDq=>jn fun di=>bI aDq [1,2,3,4,5,6,7,8,9,10,11,12,13,14]<|zD 1<|aO 14 fun aI5 aLy aDp=>jd 1 [14]<|e8 aDp<|zD 2<|aE q0 (.agg ⟨dA dP fW b9 fE dH dk di n⟩) [14] [6,8,7,4,5,13,10,12,11,1,2,0] (dF dP m9 mD fW oR b9 fE jJ me dH dk di) (Sub.refl _) ⟨_,_,rfl,rfl,_,rfl,fun _ hk=>dI hk,dJ _ _ _ _ _ _ _ _⟩
  refine jn fun di=>bI aDr [1,2,3,4,5,6,7,8,9,10,11,12,13]<|aO 3 fun aI4 aLx aDo=>jn fun dH=>bI aDo [1,2,3,4,5,6,7,8,9,10,11,12,13,14]<|zD 1<|aO 14 fun aI3 aLw aDn=>jd 1 [14]<|e8 aDn<|zD 2<|aE q0 (.agg ⟨dA dP fW b9 fE dH dk di n⟩) [14] [6,8,7,4,5,13,10,12,11,0,2,1] (dF dP m9 mD fW oR b9 fE jJ me dH dk di) (Sub.refl _) ⟨_,_,rfl,rfl,_,rfl,fun _ hk=>dI hk,dJ _ _ _ _ _ _ _ _⟩
 refine jp (vs:=[.string (bs [115,109,105,116,104]),zI 1,zI 1,zI (-1)]) [] [] (fun aB hs hZ=>kp)<|bI aDP [0,1,2,3,4,5,6,7,8,9,10,11]<|nK [3,7,10] ⟨fun aZK t260 aDm=>?_,fun aZJ t263 aDl=>?_,fun aZI t266 aDk=>?_,trivial⟩
 ·
  refine jn fun dH=>bI aDm [1,2,3,4,5,6,7,8,9,10,11,12]<|nK [7,10] ⟨fun aZH t269 aDj=>?_,fun aZG t272 aDi=>?_,trivial⟩
  ·
   refine jn fun dk=>bI aDj [1,2,3,4,5,6,7,8,9,10,11,12,13]<|jp (vs:=[.string (bs [98,101,110]),zI 0,zI 1,zI 4]) [] [] (fun aB hs hZ=>kp)<|aO 11 fun aI2 aLv aDh=>jn fun di=>bI aDh [1,2,3,4,5,6,7,8,9,10,11,12,13,14]<|zD 1<|aO 14 fun aI1 aLu aDg=>jd 1 [14]<|e8 aDg<|zD 2<|aE q0 (.agg ⟨dA dP fW b9 fE dH dk di n⟩) [14] [6,8,7,4,5,13,10,12,11,2,1,0] (dF dP m9 mD fW oR b9 fE jJ me dH dk di) (Sub.refl _) ⟨_,_,rfl,rfl,_,rfl,fun _ hk=>dI hk,dJ _ _ _ _ _ _ _ _⟩
  refine jp (vs:=[.string (bs [98,101,110]),zI 0,zI 1,zI 4]) [] [] (fun aB hs hZ=>kp)<|bI aDi [0,1,2,3,4,5,6,7,8,9,10,11,12]<|nK [7,11] ⟨fun aZF t277 aDf=>?_,fun aZE t280 aDe=>?_,trivial⟩
  ·
   refine jn fun dk=>bI aDf [1,2,3,4,5,6,7,8,9,10,11,12,13]<|aO 11 fun aI0 aLt aDd=>jn fun di=>bI aDd [1,2,3,4,5,6,7,8,9,10,11,12,13,14]<|zD 1<|aO 14 fun aIZ aLs aDc=>jd 1 [14]<|e8 aDc<|zD 2<|aE q0 (.agg ⟨dA dP fW b9 fE dH dk di n⟩) [14] [6,8,7,4,5,13,10,12,11,2,1,0] (dF dP m9 mD fW oR b9 fE jJ me dH dk di) (Sub.refl _) ⟨_,_,rfl,rfl,_,rfl,fun _ hk=>dI hk,dJ _ _ _ _ _ _ _ _⟩
  refine jn fun di=>bI aDe [1,2,3,4,5,6,7,8,9,10,11,12,13]<|aO 7 fun aIY aLr aDb=>jn fun dk=>bI aDb [1,2,3,4,5,6,7,8,9,10,11,12,13,14]<|zD 1<|aO 14 fun aIX aLq aDa=>jd 1 [14]<|e8 aDa<|zD 2<|aE q0 (.agg ⟨dA dP fW b9 fE dH dk di n⟩) [14] [6,8,7,4,5,13,10,12,11,2,0,1] (dF dP m9 mD fW oR b9 fE jJ me dH dk di) (Sub.refl _) ⟨_,_,rfl,rfl,_,rfl,fun _ hk=>dI hk,dJ _ _ _ _ _ _ _ _⟩
 ·
  refine jn fun dk=>bI aDl [1,2,3,4,5,6,7,8,9,10,11,12]<|nK [3,10] ⟨fun aZD t287 aC9=>?_,fun aZC t290 aC8=>?_,trivial⟩
  ·
   refine jn fun dH=>bI aC9 [1,2,3,4,5,6,7,8,9,10,11,12,13]<|jp (vs:=[.string (bs [98,101,110]),zI 0,zI 1,zI 4]) [] [] (fun aB hs hZ=>kp)<|aO 11 fun aIW aLp aC7=>jn fun di=>bI aC7 [1,2,3,4,5,6,7,8,9,10,11,12,13,14]<|zD 1<|aO 14 fun aIV aLo aC6=>jd 1 [14]<|e8 aC6<|zD 2<|aE q0 (.agg ⟨dA dP fW b9 fE dH dk di n⟩) [14] [6,8,7,4,5,13,10,12,11,1,2,0] (dF dP m9 mD fW oR b9 fE jJ me dH dk di) (Sub.refl _) ⟨_,_,rfl,rfl,_,rfl,fun _ hk=>dI hk,dJ _ _ _ _ _ _ _ _⟩
  refine jp (vs:=[.string (bs [98,101,110]),zI 0,zI 1,zI 4]) [] [] (fun aB hs hZ=>kp)<|bI aC8 [0,1,2,3,4,5,6,7,8,9,10,11,12]<|nK [3,11] ⟨fun aZB t295 aC5=>?_,fun aZA t298 aC4=>?_,trivial⟩
  ·
   refine jn fun dH=>bI aC5 [1,2,3,4,5,6,7,8,9,10,11,12,13]<|aO 11 fun aIU aLn aC3=>jn fun di=>bI aC3 [1,2,3,4,5,6,7,8,9,10,11,12,13,14]<|zD 1<|aO 14 fun aIT aLm aC2=>jd 1 [14]<|e8 aC2<|zD 2<|aE q0 (.agg ⟨dA dP fW b9 fE dH dk di n⟩) [14] [6,8,7,4,5,13,10,12,11,1,2,0] (dF dP m9 mD fW oR b9 fE jJ me dH dk di) (Sub.refl _) ⟨_,_,rfl,rfl,_,rfl,fun _ hk=>dI hk,dJ _ _ _ _ _ _ _ _⟩
  refine jn fun di=>bI aC4 [1,2,3,4,5,6,7,8,9,10,11,12,13]<|aO 3 fun aIS aLl aC1=>jn fun dH=>bI aC1 [1,2,3,4,5,6,7,8,9,10,11,12,13,14]<|zD 1<|aO 14 fun aIR aLk aC0=>jd 1 [14]<|e8 aC0<|zD 2<|aE q0 (.agg ⟨dA dP fW b9 fE dH dk di n⟩) [14] [6,8,7,4,5,13,10,12,11,0,2,1] (dF dP m9 mD fW oR b9 fE jJ me dH dk di) (Sub.refl _) ⟨_,_,rfl,rfl,_,rfl,fun _ hk=>dI hk,dJ _ _ _ _ _ _ _ _⟩
 refine jp (vs:=[.string (bs [98,101,110]),zI 0,zI 1,zI 4]) [] [] (fun aB hs hZ=>kp)<|bI aDk [0,1,2,3,4,5,6,7,8,9,10,11]<|nK [3,7,11] ⟨fun aZz t305 aCZ=>?_,fun aZy t308 aCY=>?_,fun aZx t311 aCX=>?_,trivial⟩
 ·
  refine jn fun dH=>bI aCZ [1,2,3,4,5,6,7,8,9,10,11,12]<|nK [7,11] ⟨fun aZw t314 aCW=>?_,fun aZv t317 aCV=>?_,trivial⟩
  ·
   refine jn fun dk=>bI aCW [1,2,3,4,5,6,7,8,9,10,11,12,13]<|aO 11 fun aIQ aLj aCU=>jn fun di=>bI aCU [1,2,3,4,5,6,7,8,9,10,11,12,13,14]<|zD 1<|aO 14 fun aIP aLi aCT=>jd 1 [14]<|e8 aCT<|zD 2<|aE q0 (.agg ⟨dA dP fW b9 fE dH dk di n⟩) [14] [6,8,7,4,5,13,10,12,11,2,1,0] (dF dP m9 mD fW oR b9 fE jJ me dH dk di) (Sub.refl _) ⟨_,_,rfl,rfl,_,rfl,fun _ hk=>dI hk,dJ _ _ _ _ _ _ _ _⟩
  refine jn fun di=>bI aCV [1,2,3,4,5,6,7,8,9,10,11,12,13]<|aO 7 fun aIO aLh aCS=>jn fun dk=>bI aCS [1,2,3,4,5,6,7,8,9,10,11,12,13,14]<|zD 1<|aO 14 fun aIN aLg aCR=>jd 1 [14]<|e8 aCR<|zD 2<|aE q0 (.agg ⟨dA dP fW b9 fE dH dk di n⟩) [14] [6,8,7,4,5,13,10,12,11,2,0,1] (dF dP m9 mD fW oR b9 fE jJ me dH dk di) (Sub.refl _) ⟨_,_,rfl,rfl,_,rfl,fun _ hk=>dI hk,dJ _ _ _ _ _ _ _ _⟩
 ·
  refine jn fun dk=>bI aCY [1,2,3,4,5,6,7,8,9,10,11,12]<|nK [3,11] ⟨fun aZu t324 aCQ=>?_,fun aZt t327 aCP=>?_,trivial⟩
  ·
   refine jn fun dH=>bI aCQ [1,2,3,4,5,6,7,8,9,10,11,12,13]<|aO 11 fun aIM aLf aCO=>jn fun di=>bI aCO [1,2,3,4,5,6,7,8,9,10,11,12,13,14]<|zD 1<|aO 14 fun aIL aLe aCN=>jd 1 [14]<|e8 aCN<|zD 2<|aE q0 (.agg ⟨dA dP fW b9 fE dH dk di n⟩) [14] [6,8,7,4,5,13,10,12,11,1,2,0] (dF dP m9 mD fW oR b9 fE jJ me dH dk di) (Sub.refl _) ⟨_,_,rfl,rfl,_,rfl,fun _ hk=>dI hk,dJ _ _ _ _ _ _ _ _⟩
  refine jn fun di=>bI aCP [1,2,3,4,5,6,7,8,9,10,11,12,13]<|aO 3 fun aIK aLd aCM=>jn fun dH=>bI aCM [1,2,3,4,5,6,7,8,9,10,11,12,13,14]<|zD 1<|aO 14 fun aIJ aLc aCL=>jd 1 [14]<|e8 aCL<|zD 2<|aE q0 (.agg ⟨dA dP fW b9 fE dH dk di n⟩) [14] [6,8,7,4,5,13,10,12,11,0,2,1] (dF dP m9 mD fW oR b9 fE jJ me dH dk di) (Sub.refl _) ⟨_,_,rfl,rfl,_,rfl,fun _ hk=>dI hk,dJ _ _ _ _ _ _ _ _⟩
 refine jn fun di=>bI aCX [1,2,3,4,5,6,7,8,9,10,11,12]<|nK [3,7] ⟨fun aZs t334 aCK=>?_,fun aZr t337 aCJ=>?_,trivial⟩
 ·
  refine jn fun dH=>bI aCK [1,2,3,4,5,6,7,8,9,10,11,12,13]<|aO 7 fun aII aLb aCI=>jn fun dk=>bI aCI [1,2,3,4,5,6,7,8,9,10,11,12,13,14]<|zD 1<|aO 14 fun aIH aLa aCH=>jd 1 [14]<|e8 aCH<|zD 2<|aE q0 (.agg ⟨dA dP fW b9 fE dH dk di n⟩) [14] [6,8,7,4,5,13,10,12,11,1,0,2] (dF dP m9 mD fW oR b9 fE jJ me dH dk di) (Sub.refl _) ⟨_,_,rfl,rfl,_,rfl,fun _ hk=>dI hk,dJ _ _ _ _ _ _ _ _⟩
 refine jn fun dk=>bI aCJ [1,2,3,4,5,6,7,8,9,10,11,12,13]<|aO 3 fun aIG aK9 aCG=>jn fun dH=>bI aCG [1,2,3,4,5,6,7,8,9,10,11,12,13,14]<|zD 1<|aO 14 fun aIF aK8 aCF=>jd 1 [14]<|e8 aCF<|zD 2<|aE q0 (.agg ⟨dA dP fW b9 fE dH dk di n⟩) [14] [6,8,7,4,5,13,10,12,11,0,1,2] (dF dP m9 mD fW oR b9 fE jJ me dH dk di) (Sub.refl _) ⟨_,_,rfl,rfl,_,rfl,fun _ hk=>dI hk,dJ _ _ _ _ _ _ _ _⟩
instance (nc nh i:Nat)(x:cq):Decidable (gR nc nh i x):=by unfold gR;infer_instance
instance (w:ByteArray):Decidable (Script w):=by unfold Script;infer_instance
theorem Uv{p:Nat→α→Prop}{l:List α}(h:∀i (hi:i <l.length),p i l[i]):∀(i:Nat) (x:α),l[i]?=some x→p i x:=fun i x hx=>by
 obtain⟨h1,rfl⟩:=List.getElem?_eq_some_iff.1 hx
 exact h i h1
theorem Ha:∀(i:Nat) (x:cq),CC[i]?=some x→gR 4 6 i x:=Uv (by decide)
theorem Uk:∀(i:Nat) (x:cq),CC[i]?=some x→zo x.word=true:=Uv (of_decide_eq_true (by kernel_rfl))
theorem ahk:∀(i:Nat) (x:bM),Ul[i]?=some x→zo x.name=true∧ -1≤x.under∧x.under <i:=Uv (of_decide_eq_true (by kernel_rfl))
def asI(hd:List cq)(i:Int):Bool:=decide (i= -1)||(decide (0≤i)&&match hd[i.toNat]? with
 |some x=>decide (0≤x.cls)
 |none=>false)
theorem fA{i:Int}(h:asI hd i=true):nW hd i:=by
 simp only[asI,Bool.or_eq_true,Bool.and_eq_true,decide_eq_true_eq] at h
 rcases h with h| ⟨h1,h2⟩
 ·exact .inl h
 split at h2
 ·rename_i x hx;exact .inr ⟨h1,x,hx,of_decide_eq_true h2⟩
 cases h2
def OC(p:aG):Bool:=decide (((1≤p.name.size∧p.name.size≤6)∧Script p.name)∧(0≤p.st∧p.st≤1)∧p.bold=false)&&asI CC p.head
theorem Lq{p:aG}(h:OC p=true):EX CC p:=by
 simp only[OC,Bool.and_eq_true,decide_eq_true_eq] at h
 exact⟨h.1.1,fA h.2,h.1.2⟩
theorem acj{p:aG}(h:OC p=true):rC p.name∧nW CC p.head:=by
 have:=Lq h
 exact⟨⟨this.1.1,this.1.2⟩,this.2.1⟩
theorem Xf:∀p∈MO,OC p=true:=by decide
theorem Xg:∀p∈MP,OC p=true:=by decide
abbrev Dq(n:Int)(fs:List fF):aM:={aT n with facts:=fs}
theorem aoR{n:Int}(h:0≤n∧n≤4)(hf:fs.length≤3)(h1:∀x∈fs,(0≤x.a∧x.a <3)∧(0≤x.b∧x.b <3))(h2:fs.Pairwise fun x y=>¬(x.a=y.a∧x.b=y.b)):mz (Dq n fs) where
 rN:=⟨rfl,by simp,by simp[A3],by simp[ajW]⟩
 ways:=⟨(by decide:(1:Nat)≤1),by simp[jv]⟩
 ee:=⟨(by decide:(0:Nat) <4∧4≤6),(by decide:(6:Nat)≤6),Ha⟩
 rules:=(by decide:(1:Nat)≤4)
 before:=⟨(by decide:(3:Nat)≤4),fun p hp=>⟨Lq (Xf p hp),by
  simp only[MO,List.mem_cons,List.not_mem_nil,or_false] at hp
  rcases hp with rfl|rfl|rfl
  ·exact⟨_,rfl,by simp⟩
  ·exact⟨_,rfl,by simp⟩
  exact⟨_,rfl,by simp⟩⟩⟩
 after:=⟨(by decide:(3:Nat)≤4),fun p hp=>⟨Lq (Xg p hp),by
  simp only[MP,List.mem_cons,List.not_mem_nil,or_false] at hp
  rcases hp with rfl|rfl|rfl<;>decide⟩⟩
 yE:=⟨(by decide:(0:Int)≤1∧(1:Int)≤4),(by decide:(0:Int)≤1∧(1:Int)≤4),h⟩
 facts:=⟨by show fs.length≤4;omega,h1⟩
 apart:=h2
theorem aoQ{n:Int}(hf:fs.length≤3)(h1:∀x∈fs,(0≤x.a∧x.a <3)∧(0≤x.b∧x.b <3)):fy (Dq n fs) where
 rules:=⟨(by decide:(1:Nat)≤4),by
  intro r hr
  rw[List.mem_singleton] at hr;subst hr
  have e:Vj ⟨bs [121],bs [105]⟩=true:=by kernel_rfl
  simp only[Vj,Bool.and_eq_true,Nat.ble_eq,Bool.not_eq_true'] at e
  exact⟨e.1,e.2.1,F3 e.2.2.1,F3 e.2.2.2.1,e.2.2.2.2⟩⟩
 before:=⟨(by decide:(3:Nat)≤4),fun p hp=>acj (Xf p hp)⟩
 after:=⟨(by decide:(3:Nat)≤4),fun p hp=>acj (Xg p hp)⟩
 ee:=⟨(by decide:(0:Nat) <4∧4≤6),(by decide:(6:Nat)≤6),ahk,by simp only[zu];decide,fun i x hx=>⟨Uk i x hx,Ha i x hx⟩,by simp only[zu,N1];decide⟩
 facts:=⟨by show fs.length≤4;omega,h1⟩
theorem aFV{v0 v1 v3 v4 v5 v6 v7 vb:Value}{fa fb:Option Addr}{fn fd:Nat}{g0 g1 g2:Int}{ro:Nat→Option Obj}(hs:∀v∈[v0,v1,(.slice fa 0 fc),v3,v4,v5,v6,v7,zI g0,zI g1,zI g2,(.slice fb fn fd)],single v=true):de zT 38 [.agg ⟨[v0,v1,(.slice fa 0 fc),v3,v4,v5,v6,v7,zI g0,zI g1,zI g2,vb]⟩,(.slice fb fn fd)] ro (.agg ⟨[v0,v1,(.slice fa 0 fc),v3,v4,v5,v6,v7,zI g0,zI g1,zI g2,(.slice fb fn fd)]⟩):=by
 refine bA au [] [] a8<|zD 2<|jn fun b2=>jn fun b4=>jd 10 [1,1]<|jsx 0 b4 0 zO [v0,v1,(.slice fa 0 fc),v3,v4,v5,v6,v7,zI g0,zI g1,zI g2,(.slice fb fn fd)] 40 hs rfl<|zD 2<|aE q0 (.agg ⟨[v0,v1,(.slice fa 0 fc),v3,v4,v5,v6,v7,zI g0,zI g1,zI g2,(.slice fb fn fd)]⟩) [0] [] [] (Sub.refl _) ⟨_,_,rfl,rfl,rfl,rfl⟩
def ah3[DecidableEq κ](r:Nat)(kv:κ→Value)(k:κ)(F:List (κ×Value))(b:Nat)(L:Cells):Prop:=
 ∃es ck i u,L=[(r,.map es ck)]∧tb kv F es ck∧sa k F 0=some (i,u)∧(es.toList.map (·.born))[i]?=some b
theorem ah3.own[DecidableEq κ]{kv:κ→Value}{k:κ}{F:List (κ×Value)}{L:Cells}(h:ah3 r kv k F b L):jV r kv F L:=by
 obtain⟨es,ck,_,_,h1,h2,_⟩:=h
 exact⟨es,ck,h1,h2⟩
def meV(P:Program)(n:Nat)(p:Oper)(e:Env):Option (TypeId×TypeId×Value×Value):=match p.op with
 | .mapEntry T x y=>match aW P T with
  |some ⟨.map K E,_,_,_⟩=>match bh n e x with
   |some m=>match bh n e y with
    |some k=>some (K,E,m,k)
    |none=>none
   |none=>none
  |_=>none
 |_=>none
def esV(n:Nat)(p:Oper)(e:Env):Option (Value×Value×Value):=match p.op with
 | .entryStore _ x y z=>match bh n e x with
  |some m=>match bh n e y with
   |some b=>match bh n e z with
    |some v=>some (m,b,v)
    |none=>none
   |none=>none
  |none=>none
 |_=>none
theorem AG[DecidableEq κ]{k:κ}{v:Value}:∀ {F:List (κ×Value)} {i:Nat},sa k F i=none→sa k (F++[(k,v)]) i=some (i+F.length,v)
 | [],i,_=>by simp[sa]
 |x::l,i,h=>by
  simp only[sa] at h
  split at h
  ·cases h
  rename_i hk
  rw[List.cons_append,sa,if_neg hk,AG h,List.length_cons,show i+1+l.length=i+(l.length+1) by omega]
theorem VT{kv:κ→Value}{k:κ}{v:Value}:∀(es:List MapEntry) (F:List (κ×Value)) (i:Nat) {u:Value},F[i]?=some (k,u)→es.map (fun e=>(e.key,e.val))=F.map (fun x=>(kv x.1,x.2))→(es.modify i fun e=>{e with val:=v}).map (fun e=>(e.key,e.val))=(tC k v F i).map (fun x=>(kv x.1,x.2))
 | [],[],_,_,h,_=>by simp at h
 | [],_::_,_,_,_,h=>by simp at h
 |_::_,[],_,_,_,h=>by simp at h
 |e::es,x::F,0,_,h1,h=>by
  simp only[List.map_cons,List.cons.injEq,Prod.mk.injEq] at h
  simp at h1;subst h1
  simp[tC,h.2,h.1.1]
 |e::es,x::F,i+1,_,h1,h=>by
  simp only[List.map_cons,List.cons.injEq] at h
  simp at h1
  simp[tC,h.1,VT es F i h1 h.2]
theorem Hm{v:Value}:∀(es:List MapEntry) (i:Nat),(es.modify i fun e=>{e with val:=v}).map (·.born)=es.map (·.born)
 | [],i=>by simp
 |e::es,0=>by simp
 |e::es,i+1=>by simp[Hm es i]
theorem AZ{kx:Value}:∀(es:List MapEntry) (i:Nat),(es.modify i fun e=>{e with key:=kx}).map (·.born)=es.map (·.born)
 | [],i=>by simp
 |e::es,0=>by simp
 |e::es,i+1=>by simp[AZ es i]
theorem VU{kv:κ→Value}{k:κ}:∀(es:List MapEntry) (F:List (κ×Value)) (i:Nat) {u:Value},F[i]?=some (k,u)→es.map (fun e=>(e.key,e.val))=F.map (fun x=>(kv x.1,x.2))→(es.modify i fun e=>{e with key:=kv k}).map (fun e=>(e.key,e.val))=F.map (fun x=>(kv x.1,x.2))
 | [],[],_,_,h,_=>by simp at h
 | [],_::_,_,_,_,h=>by simp at h
 |_::_,[],_,_,_,h=>by simp at h
 |e::es,x::F,0,_,h1,h=>by
  simp only[List.map_cons,List.cons.injEq,Prod.mk.injEq] at h
  simp at h1;subst h1
  simp[h.2,h.1.2]
 |e::es,x::F,i+1,_,h1,h=>by
  simp only[List.map_cons,List.cons.injEq] at h
  simp at h1
  simp[h.1,VU es F i h1 h.2]
theorem Xj{es ei:Array MapEntry}(h:∀e∈es.toList,e.born <ck)(hb:ei.toList.map (·.born)=es.toList.map (·.born)):∀e∈ei.toList,e.born <ck:=fun e he=>by
 have:e.born∈ei.toList.map (·.born):=List.mem_map_of_mem he
 rw[hb] at this
 obtain⟨e2,h3,h4⟩:=List.mem_map.1 this
 rw[←h4];exact h e2 h3
section
variable {X:Cx} {o:Option JS}
theorem jSk{β:Type}{f:Oper→Env→Option β}{r:β}{Φ:Cells→Prop}(ps:List Nat)(B:Cells)(hv:fg X.n f o=some r)(hB:dS ps o=some B)
 (hy:∀p e,f p e=some r→(∀c,p.op≠ .defer c)∧∀(R:Cells) (Q:Next→St→Prop) (E:Halt→St→Prop),(∀L',Φ L'→Q .skip ⟨X.ro,L'++R⟩)→bN X.P (execOp (ev X.n e) p) ⟨X.ro,B++R⟩ Q E)
 (hj:∀L',Φ L'→J X (nj ps undef L' o)):J X o:=by
 obtain⟨ops,i,todo,k,e,w,kn,p,rfl,ho,hw,hc⟩:=dr hv
 intro bV
 have hp:=bD hB
 obtain⟨hd,ht⟩:=hy p e hc
 have:ab X.C X.fn X.az ops (i::todo) (KQ X k) (A X.n e X.D) ⟨X.ro,B++den (dz ps 0 w)⟩:=by
  refine bR X.hC ho hw hd<|ht _ _ _ fun L' qi=>?_
  have:=hj L' qi
  rw[n9 ho] at this
  have:=this bV
  simp only[JP,gE] at this
  show ab _ _ _ _ _ _ _ _
  rw[←aV] at this
  exact this
 have hle:(⟨X.ro,B++den (dz ps 0 w)⟩:St).le ⟨X.ro,den w⟩:=⟨[],by rw[List.append_nil];exact hp,fun b o hb=> .inl hb⟩
 exact this.more X.hC hle
theorem jme[DecidableEq κ]{kv:κ→Value}{F:List (κ×Value)}{K E:TypeId}{L:Cells}{d:TypeDesc}(i:Nat)(k:κ)(hk:Q3 X.P K kv)(te:TF X.P E d sz bw z ag)(hm:jV r kv F L)
 (hj:∀F1 b c L',(((∃u,sa k F 0=some u)∧F1=F)∨(sa k F 0=none∧F1=F++[(k,Nu z ag)]))→ah3 r kv k F1 b L'→J X (nj [i] (.tuple ⟨[c,zI (b:Int)]⟩) L' o))
 (hv:fg X.n (meV X.P X.n) o=some (K,E,.map (some r),kv k):=by kernel_rfl)(hB:dS [i] o=some L:=by kernel_rfl):J X o:=by
 refine jS (Φ:=fun v L'=>∃F1 b c,(((∃u,sa k F 0=some u)∧F1=F)∨(sa k F 0=none∧F1=F++[(k,Nu z ag)]))∧ah3 r kv k F1 b L'∧v= .tuple ⟨[c,zI (b:Int)]⟩) [i] _ hv hB (fun p e hf=>?_) (fun v L' qi=>?_)
 ·unfold meV at hf
  split at hf<;>try (cases hf;done)
  rename_i T x y ay
  split at hf<;>try (cases hf;done)
  rename_i K' E' _ _ _ dM
  split at hf<;>try (cases hf;done)
  rename_i m hx
  split at hf<;>try (cases hf;done)
  rename_i k' hy
  simp only[Option.some.injEq,Prod.mk.injEq] at hf
  obtain⟨rfl,rfl,rfl,rfl⟩:=hf
  obtain⟨bfS,tf⟩:=av dM
  refine⟨by rw[ay];simp,fun R Q E hQ=>?_⟩
  obtain⟨es,ck,rfl,Ce⟩:=hm
  simp only[execOp,ay,Instr.mapEntry,aa,aX tf,aD hx,aD hy]
  refine cA (.inr (List.mem_append_left _ List.mem_cons_self)) rfl rfl ?_
  simp only[aa]
  refine hk.chk _ _ ?_
  simp only[aa]
  refine hk.find k _ F Ce.1 ?_
  cases xJ:sa k F 0 with
  |some u=>
   obtain⟨j,u⟩:=u
   have Rp:=qz xJ
   simp only[Nat.sub_zero] at Rp
   have h1:(es.toList.map (fun e=>(e.key,e.val)))[j]?=some (kv k,u):=by rw[Ce.1];simp[Rp.2]
   simp only[List.getElem?_map,Array.getElem?_toList] at h1
   cases he:es[j]? with
   |none=>rw[he] at h1;cases h1
   |some e1=>
    rw[he] at h1
    simp only[Option.map_some,Option.some.injEq,Prod.mk.injEq] at h1
    simp only[aa,Instr.keyThatStays,he,Option.map_some,Option.getD_some,h1.1,hk.stay,if_true,ae]
    refine eo (L:=[]) rfl rfl rfl ?_
    simp only[ae]
    refine hQ _ [(r,_)] ⟨F,e1.born,u,.inl ⟨⟨_,xJ⟩,rfl⟩,⟨_,_,j,u,rfl,⟨?_,?_,?_⟩,xJ,?_⟩,rfl⟩
    ·rw[Array.toList_modify];exact VU _ _ _ Rp.2 Ce.1
    ·rw[Array.toList_modify,AZ];exact Ce.2.1
    ·exact Xj Ce.2.2 (by rw[Array.toList_modify,AZ])
    rw[Array.toList_modify,AZ,List.getElem?_map,Array.getElem?_toList,he];rfl
  |none=>
   simp only[aa,j5 te]
   refine eo (L:=[]) rfl rfl rfl ?_
   simp only[ae]
   have hlen:es.toList.length=F.length:=by have:=congrArg List.length Ce.1;simpa using this
   refine hQ _ [(r,_)] ⟨_,ck,_,.inr ⟨xJ,rfl⟩,⟨_,_,F.length,_,rfl,⟨?_,?_,?_⟩,by have:=AG (v:=Nu z ag) xJ;rwa[Nat.zero_add] at this,?_⟩,rfl⟩
   ·simp only[Array.toList_push,List.map_append,Ce.1];rfl
   ·simp only[Array.toList_push,List.map_append,List.map_cons,List.map_nil]
    refine List.nodup_append.2 ⟨Ce.2.1,by simp,?_⟩
    intro a ha b hb
    obtain⟨e2,h3,rfl⟩:=List.mem_map.1 ha
    have:=Ce.2.2 e2 h3
    simp only[List.mem_singleton] at hb
    omega
   ·intro e1 h1
    simp only[Array.toList_push,List.mem_append,List.mem_singleton] at h1
    rcases h1 with h1|rfl
    ·have:=Ce.2.2 e1 h1;omega
    exact Nat.lt_succ_self _
   simp only[Array.toList_push,List.map_append,List.map_cons,List.map_nil]
   rw[List.getElem?_append_right (by simp[hlen])]
   simp[hlen]
 obtain⟨F1,b,c,h1,h2,rfl⟩:=qi
 exact hj F1 b c L' h1 h2
theorem jes[DecidableEq κ]{kv:κ→Value}{F:List (κ×Value)}{L:Cells}{k:κ}(i:Nat)(v:Value)(hm:ah3 r kv k F b L)(hj:∀L',jV r kv (mg k v F) L'→J X (nj [i] undef L' o))
 (hv:fg X.n (esV X.n) o=some (.map (some r),zI (b:Int),v):=by kernel_rfl)(hB:dS [i] o=some L:=by kernel_rfl):J X o:=by
 refine jSk (Φ:=jV r kv (mg k v F)) [i] _ hv hB (fun p e hf=>?_) hj
 unfold esV at hf
 split at hf<;>try (cases hf;done)
 rename_i T x y zz ay
 split at hf<;>try (cases hf;done)
 rename_i m hx
 split at hf<;>try (cases hf;done)
 rename_i b' hy
 split at hf<;>try (cases hf;done)
 rename_i v' hz
 simp only[Option.some.injEq,Prod.mk.injEq] at hf
 obtain⟨rfl,rfl,rfl⟩:=hf
 refine⟨by rw[ay];simp,fun R Q E hQ=>?_⟩
 obtain⟨es,ck,j,u,rfl,Ce,xJ,hb⟩:=hm
 have Rp:=qz xJ
 simp only[Nat.sub_zero] at Rp
 simp only[execOp,ay,Instr.entryStore,aa,aD hx,aD hy,aD hz]
 refine cA (.inr (List.mem_append_left _ List.mem_cons_self)) rfl rfl ?_
 have aQJ:es.findIdx? (fun e=>(e.born:Int)==(b:Int))=some j:=by
  rw[List.getElem?_map,Array.getElem?_toList] at hb
  obtain⟨e1,he,rfl⟩:=Option.map_eq_some_iff.1 hb
  obtain⟨h1,h2⟩:=Array.getElem?_eq_some_iff.1 he
  refine Array.findIdx?_eq_some_iff_getElem.2 ⟨h1,by simp[h2],fun q hq=>?_⟩
  have lY:=Ce.2.1
  have:=List.pairwise_iff_getElem.1 lY q j (by simp;omega) (by simp;omega) hq
  simp only[List.getElem_map,Array.getElem_toList,h2] at this
  simp only[beq_iff_eq]
  omega
 simp only[aa,asInt,asIntOf,ae,aQJ]
 refine eo (L:=[]) rfl rfl rfl ?_
 show Q .skip _
 refine hQ [(r,_)] ⟨_,_,rfl,?_,?_,?_⟩
 ·rw[Array.toList_modify,mg,xJ];exact VT _ _ _ Rp.2 Ce.1
 ·rw[Array.toList_modify,Hm];exact Ce.2.1
 exact Xj Ce.2.2 (by rw[Array.toList_modify,Hm])
end
abbrev v4(a b c d:Int):Value:= .agg ⟨[zI a,zI b,zI c,zI d]⟩
theorem aFI{P:Program}{T:TypeId}(tf:TF P T (.array 4 3) sz bw z ag)(t3:TF P 3 (.int .i64) 1 by1 z1 false)(a b c d a' b' c' d':Int):
 EqD P (dep+2) T (v4 a b c d) (v4 a' b' c' d') (a==a'&&(b==b'&&(c==c'&&(d==d'&&true)))):=by
 intro α s k Q E
 rw[Op.equalIn]
 simp only[aa,aX tf,cd t3]
 simp only[Std.Legacy.Range.forIn_eq_forIn_range',Std.Legacy.Range.size,Nat.sub_zero,Nat.add_sub_cancel,Nat.div_one,List.range'_succ,List.range'_zero,List.forIn_cons,List.forIn_nil,aa,Nat.zero_add,Nat.mul_one]
 have p (l:List Value) (o:Nat) (v:Value) (h:nth l o=some v):HA P 3 l o v:=j9 t3 h
 rw[p _ 0 (zI a) rfl];simp only[aa]
 rw[p _ 0 (zI a') rfl];simp only[aa]
 rw[n8 t3 a a']
 cases ha:a==a' with
 |false=>simp only[Bool.not_false,if_true,ae,aa,Bool.false_and]
 |true=>
 simp only[Bool.not_true,Bool.false_eq_true,if_false,ae,Bool.true_and,aa]
 rw[p _ 1 (zI b) rfl];simp only[aa]
 rw[p _ 1 (zI b') rfl];simp only[aa]
 rw[n8 t3 b b']
 cases hb:b==b' with
 |false=>simp only[Bool.not_false,if_true,ae,aa,Bool.false_and]
 |true=>
 simp only[Bool.not_true,Bool.false_eq_true,if_false,ae,Bool.true_and,aa]
 rw[p _ 2 (zI c) rfl];simp only[aa]
 rw[p _ 2 (zI c') rfl];simp only[aa]
 rw[n8 t3 c c']
 cases hc:c==c' with
 |false=>simp only[Bool.not_false,if_true,ae,aa,Bool.false_and]
 |true=>
 simp only[Bool.not_true,Bool.false_eq_true,if_false,ae,Bool.true_and,aa]
 rw[p _ 3 (zI d) rfl];simp only[aa]
 rw[p _ 3 (zI d') rfl];simp only[aa]
 rw[n8 t3 d d']
 cases hd:d==d' with
 |false=>simp only[Bool.not_false,if_true,ae,aa,Bool.false_and]
 |true=>simp only[Bool.not_true,Bool.false_eq_true,if_false,ae,Bool.true_and,aa]
theorem ck4{P:Program}{T:TypeId}(tf:TF P T (.array 4 3) sz bw z ag)(t3:TF P 3 (.int .i64) 1 by1 z1 false)(a b c d:Int):CkD P (dep+2) T (v4 a b c d):=by
 intro bb α K s Q E
 rw[Instr.checkKey]
 simp only[aa,aX tf]
 simp only[Std.Legacy.Range.forIn_eq_forIn_range',Std.Legacy.Range.size,Nat.sub_zero,Nat.add_sub_cancel,Nat.div_one,List.range'_succ,List.range'_zero,List.forIn_cons,List.forIn_nil,aa,Nat.zero_add,cd t3,Nat.zero_mul,Nat.mul_one]
 have p (l:List Value) (o:Nat) (v:Value) (h:nth l o=some v):HA P 3 l o v:=j9 t3 h
 rw[p _ 0 (zI a) rfl];simp only[aa];rw[Hb t3 a bb];simp only[ae,aa,cd t3,Nat.mul_one]
 rw[p _ 1 (zI b) rfl];simp only[aa];rw[Hb t3 b bb];simp only[ae,aa,cd t3,Nat.mul_one]
 rw[p _ 2 (zI c) rfl];simp only[aa];rw[Hb t3 c bb];simp only[ae,aa,cd t3,Nat.mul_one]
 rw[p _ 3 (zI d) rfl];simp only[aa];rw[Hb t3 d bb];simp only[ae,aa]
abbrev P4:=Int×Int×Int×Int
abbrev HF(x:P4):Value:=v4 x.1 x.2.1 x.2.2.1 x.2.2.2
theorem adw:Q3 zT 113 HF:=adu (nn Tryz.typeInfo113 Tryz.underlying113 rfl rfl rfl rfl rfl rfl) (fun k=>⟨_,rfl⟩)
 (fun k=>ck4 (dep:=9998) (nn Tryz.typeInfo113 Tryz.underlying113 rfl rfl rfl rfl rfl rfl) mE _ _ _ _)
 (fun a b=>by
  have h:=aFI (dep:=9998) (nn Tryz.typeInfo113 Tryz.underlying113 rfl rfl rfl rfl rfl rfl) mE a.1 a.2.1 a.2.2.1 a.2.2.2 b.1 b.2.1 b.2.2.1 b.2.2.2
  have e:(a.1==b.1&&(a.2.1==b.2.1&&(a.2.2.1==b.2.2.1&&(a.2.2.2==b.2.2.2&&true))))=decide (a=b):=by
   rcases a with ⟨x,y,z,t⟩;rcases b with ⟨u,v,w,r⟩
   rw[Bool.eq_iff_iff];simp
  rwa[e] at h)
 (fun k=>by simp[Instr.sameBits])
end Go.L
