/- Part 11 of the proof. -/
import Derived.Test.YtfhaegdkhpdedaaGreatDoorS10
set_option maxRecDepth 100000
set_option maxHeartbeats 4000000
set_option linter.all false
namespace Go.L
open Go Go.Conc Go.Proofs
variable {ro:Nat→Option Obj} {ways:List (List aT)} {b e f n o hi:Int} {vS vT vq vW vE vH:Value} {fc i d:Nat} {α:Type}
def aih{X:Cells}{vd:Value}{xs:List Int}{v:Value}{S:List (List au)}(hN:Dn ro vd xs)(hD:eL vd xs d X)(hS:bH ro v S)(hO:cq S):eT zT 160 [zP d,.agg ⟨[v]⟩] ro X (λr Y=>∃c:aT,r= .agg ⟨p6 c⟩/\n9 S c/\eL vd xs d Y):=by
 obtain⟨ws,ht,dY⟩:=hS;obtain⟨fZ,xg,xe,eR,rfl,xf,ou,oh⟩:=ht;have Ar:=dY.len;have nI:=hO.two;refine zC [.l X]<|zD 2<|jn λb3=>jn λb4=>zD 2<|Yk [1,1] [] (λ(zz:Int×Int×Nat×Cells)=>[(0,zP d),(3,zP b3),(4,zP b4),(5,zP zz.2.2.1)]) (λzz=>[.b zz.2.2.1 (.cells ⟨[zI zz.1,zI zz.2.1,zI 0,zI 0,zI 0,zI 0,zI 0]⟩ 100 (0,0)),.l zz.2.2.2,zxc b4 100 [zI 0,zI 0,zI 0,zI 0,zI 0,zI 0,zI 0],zxc b3 24 [.slice fZ ws.length eR]]) (λzz=>((1<=zz.1/\zz.1<=7)/\0<=zz.2.1/\zz.2.1 <ws.length)/\eL vd xs d zz.2.2.2) ?_ (λK1 cU=>?_)
 ·
  rintro⟨JK,yQ,b5,X⟩ hP rest;dsimp only at hP;refine jd 6 [3,0] ?_;obtain⟨Nm,jL⟩:=zG ws (yQ.toNat);refine Yj yQ eR 1 ou jL (by omega) ?_;obtain⟨SI,IC,WZ⟩:=dY.get jL;obtain aHG:=hO.len _ (zL IC);obtain⟨yT,Nv,Nr,yS,rfl,Nt,Nu,Ns⟩:=WZ;refine jl 0 (oh _ _ jL)<|jd 8 [0]<|Yk [1,1,1,1] [] (λ(zz:Int×Int×Int×Int×Int×Int×Int×Cells)=>[(4,zP b4),(5,zP b5)]) (λzz=>[zxc b5 100 [zI zz.1,zI zz.2.1,zI zz.2.2.1,zI zz.2.2.2.1,zI zz.2.2.2.2.1,zI zz.2.2.2.2.2.1,zI zz.2.2.2.2.2.2.1],.l zz.2.2.2.2.2.2.2,zxc b4 100 [zI 0,zI 0,zI 0,zI 0,zI 0,zI 0,zI 0]]) (λzz=>n9 S ⟨zz.1,zz.2.1,zz.2.2.1,zz.2.2.2.1,zz.2.2.2.2.1,zz.2.2.2.2.2.1,zz.2.2.2.2.2.2.1⟩/\eL vd xs d zz.2.2.2.2.2.2.2) ?_ (λK2 kU=>?_)
  ·
   rintro⟨k,s,o,a,b,e,f,X⟩ hQ rest;dsimp only at hQ;refine jd 6 [0,2]<|zR _ [2] [1] X ⟨⟨k,s,o,a,b,e,f⟩,rfl,hQ.1,hQ.2⟩
  refine zD 7<|zJ 26 (JK=4) (λh1=>?_) λh1=>?_
  ·
   refine jd 11 [0,3]<|zxo 3 λtx=>jc (vs:=[zP d,zI 1,zI 2]) [1] (zp hN hP.2 (by omega) (by omega)) ?_;rintro _ X32 ⟨w32,rfl,bex,ap5,asa⟩;refine ee tx [[3],[1]]<|zW (yQ+w32)<|zxp [zI (yQ+w32),zI (ws.length:Int)] (λhs=>aRo (by omega) (by omega))<|zD 1<|zxo 10 λtw=>jd 1 [1]<|kA tw<|zD 1 ?_;have oK:=wQ (ws.length:Int) (show 0<=yQ+w32 by omega);have yN:=w6 (yQ+w32) (show 0 <(ws.length:Int) by omega);refine jd 6 [1]<|zJ 41 (JK=7) (λh4=>?_) λh4=>?_
   ·
    refine zD 5<|jc (vs:=[zP d,.slice yT SI.length yS]) [0] (Bo hN asa (show dk _ _ _ _ _ from ⟨yT,Nv,Nr,yS,rfl,Nt,Nu,Ns⟩) (by omega)) ?_;rintro _ X44 ⟨a44,S7,rfl,akw⟩;refine zD 2<|jc (vs:=[zP d,.slice yT SI.length yS]) [0] (Bo hN akw (show dk _ _ _ _ _ from ⟨yT,Nv,Nr,yS,rfl,Nt,Nu,Ns⟩) (by omega)) ?_;rintro _ X47 ⟨a47,b47,rfl,QJ⟩;refine jn λb7=>jn λb8=>jd 8 [1,0,0,1]<|zxp [.agg ⟨[zI a47,zI b47]⟩,.agg ⟨[zI a44,zI S7]⟩] (λhs=>(Wc (x:=⟨a47,b47⟩) (y:=⟨a44,S7⟩)))<|zD 1<|js 50 (qK ⟨a47,b47⟩ ⟨a44,S7⟩) (λh5=>?_) (λh5=>?_)
    ·
     refine jd 11 [0,1,1,0,1,0]<|zxo 3 λC6=>jd 1 [3]<|ee C6 [[0]]<|zD 1<|zxo 5 λKX=>jd 1 [3]<|kA KX<|zD 1<|zY kU ⟨JK,yQ,(Int.tmod (yQ+w32) (ws.length:Int)),a47,b47,a44,S7,X47⟩ ⟨⟨by dsimp only;omega,by dsimp only;omega,λh=>by first|exact⟨oK,by rw[<-Ar];exact yN⟩| (exfalso;dsimp only at h;omega),λh=>by first|rfl| (exfalso;dsimp only at h;omega),λh=>by first|exact⟨rfl,rfl⟩| (exfalso;dsimp only at h;omega),λh=>by first|exact⟨rfl,rfl⟩| (exfalso;dsimp only at h;omega)⟩,QJ⟩ [3,2,4]
    refine jd 6 [1,0]<|zxo 3 λKW=>jd 1 [3]<|ee KW [[0]]<|zD 1<|zxo 5 λWJ=>jd 1 [3]<|kA WJ<|zD 1<|zY kU ⟨JK,yQ,(Int.tmod (yQ+w32) (ws.length:Int)),a44,S7,a47,b47,X47⟩ ⟨⟨by dsimp only;omega,by dsimp only;omega,λh=>by first|exact⟨oK,by rw[<-Ar];exact yN⟩| (exfalso;dsimp only at h;omega),λh=>by first|rfl| (exfalso;dsimp only at h;omega),λh=>by first|exact⟨rfl,rfl⟩| (exfalso;dsimp only at h;omega),λh=>by first|exact⟨rfl,rfl⟩| (exfalso;dsimp only at h;omega)⟩,QJ⟩ [3,2,4]
   refine zD 2<|zY kU ⟨JK,yQ,(Int.tmod (yQ+w32) (ws.length:Int)),0,0,0,0,X32⟩ ⟨⟨by dsimp only;omega,by dsimp only;omega,λh=>by first|exact⟨oK,by rw[<-Ar];exact yN⟩| (exfalso;dsimp only at h;omega),λh=>by first|rfl| (exfalso;dsimp only at h;omega),λh=>by first|exact⟨rfl,rfl⟩| (exfalso;dsimp only at h;omega),λh=>by first|exact⟨rfl,rfl⟩| (exfalso;dsimp only at h;omega)⟩,asa⟩ [1,0,2]
  refine zD 5<|zJ 26 (JK=7) (λwq=>?_) λwq=>?_
  ·
   refine jd 9 [0,3]<|zxo 3 λhL9=>jc (vs:=[zP d,zI 1,zI 2]) [1] (zp hN hP.2 (by omega) (by omega)) ?_;rintro _ X32 ⟨w32,rfl,bex,ap5,asa⟩;refine ee hL9 [[3],[1]]<|zW (yQ+w32)<|zxp [zI (yQ+w32),zI (ws.length:Int)] (λhs=>aRo (by omega) (by omega))<|zD 1<|zxo 10 λHm=>jd 1 [1]<|kA Hm<|zD 1 ?_;have oK:=wQ (ws.length:Int) (show 0<=yQ+w32 by omega);have yN:=w6 (yQ+w32) (show 0 <(ws.length:Int) by omega);refine jd 6 [1]<|zJ 41 (JK=7) (λC9=>?_) λC9=>?_
   ·
    refine zD 5<|jc (vs:=[zP d,.slice yT SI.length yS]) [0] (Bo hN asa (show dk _ _ _ _ _ from ⟨yT,Nv,Nr,yS,rfl,Nt,Nu,Ns⟩) (by omega)) ?_;rintro _ X44 ⟨a44,S7,rfl,akw⟩;refine zD 2<|jc (vs:=[zP d,.slice yT SI.length yS]) [0] (Bo hN akw (show dk _ _ _ _ _ from ⟨yT,Nv,Nr,yS,rfl,Nt,Nu,Ns⟩) (by omega)) ?_;rintro _ X47 ⟨a47,b47,rfl,QJ⟩;refine jn λb7=>jn λb8=>jd 8 [1,0,0,1]<|zxp [.agg ⟨[zI a47,zI b47]⟩,.agg ⟨[zI a44,zI S7]⟩] (λhs=>(Wc (x:=⟨a47,b47⟩) (y:=⟨a44,S7⟩)))<|zD 1<|js 50 (qK ⟨a47,b47⟩ ⟨a44,S7⟩) (λh14=>?_) (λh14=>?_)
    ·
     refine jd 11 [0,1,1,0,1,0]<|zxo 3 λKZ=>jd 1 [3]<|ee KZ [[0]]<|zD 1<|zxo 5 λWW=>jd 1 [3]<|kA WW<|zD 1<|zY kU ⟨JK,yQ,(Int.tmod (yQ+w32) (ws.length:Int)),a47,b47,a44,S7,X47⟩ ⟨⟨by dsimp only;omega,by dsimp only;omega,λh=>by first|exact⟨oK,by rw[<-Ar];exact yN⟩| (exfalso;dsimp only at h;omega),λh=>by first|rfl| (exfalso;dsimp only at h;omega),λh=>by first|exact⟨rfl,rfl⟩| (exfalso;dsimp only at h;omega),λh=>by first|exact⟨rfl,rfl⟩| (exfalso;dsimp only at h;omega)⟩,QJ⟩ [3,2,4]
    refine jd 6 [1,0]<|zxo 3 λQI=>jd 1 [3]<|ee QI [[0]]<|zD 1<|zxo 5 λQH=>jd 1 [3]<|kA QH<|zD 1<|zY kU ⟨JK,yQ,(Int.tmod (yQ+w32) (ws.length:Int)),a44,S7,a47,b47,X47⟩ ⟨⟨by dsimp only;omega,by dsimp only;omega,λh=>by first|exact⟨oK,by rw[<-Ar];exact yN⟩| (exfalso;dsimp only at h;omega),λh=>by first|rfl| (exfalso;dsimp only at h;omega),λh=>by first|exact⟨rfl,rfl⟩| (exfalso;dsimp only at h;omega),λh=>by first|exact⟨rfl,rfl⟩| (exfalso;dsimp only at h;omega)⟩,QJ⟩ [3,2,4]
   refine zD 2<|zY kU ⟨JK,yQ,(Int.tmod (yQ+w32) (ws.length:Int)),0,0,0,0,X32⟩ ⟨⟨by dsimp only;omega,by dsimp only;omega,λh=>by first|exact⟨oK,by rw[<-Ar];exact yN⟩| (exfalso;dsimp only at h;omega),λh=>by first|rfl| (exfalso;dsimp only at h;omega),λh=>by first|exact⟨rfl,rfl⟩| (exfalso;dsimp only at h;omega),λh=>by first|exact⟨rfl,rfl⟩| (exfalso;dsimp only at h;omega)⟩,asa⟩ [1,0,2]
  refine zD 7<|zJ 57 (JK=5) (λh19=>?_) λh19=>?_
  ·
   refine zD 6<|jc (vs:=[zP d,.slice yT SI.length yS]) [1] (Bo hN hP.2 (show dk _ _ _ _ _ from ⟨yT,Nv,Nr,yS,rfl,Nt,Nu,Ns⟩) (by omega)) ?_;rintro _ X62 ⟨a62,b62,rfl,aJm⟩;refine jd 3 [1]<|zY kU ⟨JK,yQ,0,a62,b62,0,0,X62⟩ ⟨⟨by dsimp only;omega,by dsimp only;omega,λh=>by first|exact⟨oK,by rw[<-Ar];exact yN⟩| (exfalso;dsimp only at h;omega),λh=>by first|rfl| (exfalso;dsimp only at h;omega),λh=>by first|exact⟨rfl,rfl⟩| (exfalso;dsimp only at h;omega),λh=>by first|exact⟨rfl,rfl⟩| (exfalso;dsimp only at h;omega)⟩,aJm⟩ [1,0,2]
  refine zD 5<|zJ 57 (JK=6) (λh20=>?_) λh20=>?_
  ·
   refine zD 4<|jc (vs:=[zP d,.slice yT SI.length yS]) [1] (Bo hN hP.2 (show dk _ _ _ _ _ from ⟨yT,Nv,Nr,yS,rfl,Nt,Nu,Ns⟩) (by omega)) ?_;rintro _ X62 ⟨a62,b62,rfl,aJm⟩;refine jd 3 [1]<|zY kU ⟨JK,yQ,0,a62,b62,0,0,X62⟩ ⟨⟨by dsimp only;omega,by dsimp only;omega,λh=>by first|exact⟨oK,by rw[<-Ar];exact yN⟩| (exfalso;dsimp only at h;omega),λh=>by first|rfl| (exfalso;dsimp only at h;omega),λh=>by first|exact⟨rfl,rfl⟩| (exfalso;dsimp only at h;omega),λh=>by first|exact⟨rfl,rfl⟩| (exfalso;dsimp only at h;omega)⟩,aJm⟩ [1,0,2]
  refine zD 2<|zY kU ⟨JK,yQ,0,0,0,0,0,X⟩ ⟨⟨by dsimp only;omega,by dsimp only;omega,λh=>by first|exact⟨oK,by rw[<-Ar];exact yN⟩| (exfalso;dsimp only at h;omega),λh=>by first|rfl| (exfalso;dsimp only at h;omega),λh=>by first|exact⟨rfl,rfl⟩| (exfalso;dsimp only at h;omega),λh=>by first|exact⟨rfl,rfl⟩| (exfalso;dsimp only at h;omega)⟩,hP.2⟩ [0,1,2]
 refine jd 6 [1]<|zW ((ws.length:Int)-1)<|vg [1,9] ⟨λ_ _ Hk=>?_,λ_ _ QG=>?_,trivial⟩
 ·
  refine jc (vs:=[zP d,zI 1,zI 7]) [2] (zp hN hD (by omega) (by omega)) ?_;rintro _ X10 ⟨JK,rfl,aGQ,KE,Hn⟩;refine ee Hk [[2]]<|vg [7,9] ⟨λ_ _ WT=>?_,λ_ _ afk=>?_,trivial⟩
  ·
   refine jc (vs:=[zP d,zI ((ws.length:Int)-1)]) [0] (Oq hN Hn (by omega)) ?_;rintro _ X16 ⟨yQ,rfl,aj3,KC,C8⟩;refine ee WT [[2]]<|zD 1<|zxo 9 λafj=>jn λb5=>eH afj [1,2,3]<|zxo 10 λWR=>jd 1 [0]<|kA WR<|zD 1<|zY cU ⟨JK,yQ,b5,X16⟩ ⟨⟨by dsimp only;omega,by dsimp only;omega⟩,C8⟩ [0,1,2,3]
  refine jn λb5=>eH afk [1,2,3]<|zxo 7 λWQ=>jc (vs:=[zP d,zI ((ws.length:Int)-1)]) [1] (Oq hN Hn (by omega)) ?_;rintro _ X16 ⟨yQ,rfl,aj3,KC,C8⟩;refine ee WQ [[3]]<|zD 1<|zxo 10 λafi=>jd 1 [1]<|kA afi<|zD 1<|zY cU ⟨JK,yQ,b5,X16⟩ ⟨⟨by dsimp only;omega,by dsimp only;omega⟩,C8⟩ [1,0,2,3]
 refine jn λb5=>eH QG [1,2,3]<|zxo 1 λWO=>jc (vs:=[zP d,zI 1,zI 7]) [3] (zp hN hD (by omega) (by omega)) ?_;rintro _ X10 ⟨JK,rfl,aGQ,KE,Hn⟩;refine ee WO [[3]]<|zxo 7 λWN=>jc (vs:=[zP d,zI ((ws.length:Int)-1)]) [0] (Oq hN Hn (by omega)) ?_;rintro _ X16 ⟨yQ,rfl,aj3,KC,C8⟩;refine ee WN [[3]]<|zD 1<|zxo 10 λWM=>jd 1 [1]<|kA WM<|zD 1<|zY cU ⟨JK,yQ,b5,X16⟩ ⟨⟨by dsimp only;omega,by dsimp only;omega⟩,C8⟩ [1,0,2,3]
def D9{v:Value}{S:List (List au)}(hS:bH ro v S)(hO:cq S):eT zT 131 [.agg ⟨[v]⟩] ro [] (λr Y=>∃a n c,r= .agg ⟨[.slice a n c]⟩/\∀bU,Knows bU Y->bH bU (.slice a n c) S):=by
 obtain⟨ws,ht,dY⟩:=hS;obtain⟨fZ,xg,xe,eR,rfl,xf,ou,oh⟩:=ht;have Ar:=dY.len;have nI:=hO.two;refine zE<|zD 2<|jn λb1=>jn λb2=>zD 3<|jn λb3=>zD 7<|uI<|uI<|iz [1,1,0,1,0,0] [] (λ(zz:Nat×Value×Cells×(List Value)×Cells)=>[(1,zP b1),(2,zP b2),(3,zP b3),(4,zI (zz.1:Int))]) (λzz=>[zxc b3 24 [zz.2.1],.l zz.2.2.1,.l zz.2.2.2.2,zxc b2 24 [zS],zxc b1 24 [.slice fZ ws.length eR]]) (λzz=>(zz.1<=ws.length/\zz.2.2.2.1.length=zz.1)/\bI zz.2.1 1 98 qa zz.2.2.2.1 zz.2.2.1/\∀bU,Knows bU zz.2.2.2.2->kz (λw l=>dk bU w 2 cv l) zz.2.2.2.1 (S.take zz.1)) (λzz=>ws.length-zz.1) (⟨0,zS,[],[],[]⟩) ⟨⟨by dsimp only;omega,rfl⟩,bI.nil _ _ _,λ_ _=> .nil⟩ [2,1,0,3,4] ?_;rintro⟨k,vO,LO,es,Z⟩ hI K1 cU rest;dsimp only at hI;refine jd 9 [4]<|zJ 9 ((k:Int) <(ws.length:Int)) (λh1=>?_) λh1=>?_
 ·
  refine jd 10 [0,4]<|zxs ws k eR 1 ou (λx18 aeG=>?_);obtain⟨l19,aS6,h19⟩:=dY.get aeG;obtain axZ:=hO.len _ (zL aS6);obtain⟨aPs,bcJ,bcG,aPr,rfl,bpU,bcI,bcH⟩:=h19;refine jl 0 (oh _ _ aeG)<|zxo 2 λC7=>jn λb14=>eH C7 (zN 1 5)<|zxo 8 λtx=>zxq cv b14 39 0 aPr bcI bcH λJU JO L20 B7=>ee tx [[5],[1]]<|zxo 9 λtw=>jn λb21=>eH tw (zN 1 6)<|zxo 10 λC6=>gB (sz:=1) (ps:=es) (qs:=[((.slice JU (l19).length JO):Value)]) (enc:=qa) (w:= .slice (some ⟨b21,0,none⟩) 1 1) [3] [0] [(b21,.cells ⟨([((.slice JU (l19).length JO):Value)].map qa).flatten⟩ 98 (0,0))] (hI.2.1) (λs _ hZ=>dg [((.slice JU (l19).length JO):Value)] (hZ _ (.head _)) (by intro p hp;rfl)) (by intro p hp;rw[List.mem_singleton] at hp;subst hp;exact aG rfl) (by simp<;>omega) (λv22 L22 aqv=>?_);obtain⟨ade,YP,bgG⟩:=aqv.form;subst bgG;refine ee C6 [[6]]<|zD 1<|zxo 12 λKX=>jd 1 [3]<|kA KX<|zD 3<|zW ((k:Int)+1)<|zD 2<|zV cU (⟨k+1,_,L22,(es++[((.slice JU (l19).length JO):Value)]),L20++Z⟩) ⟨⟨by dsimp only;omega,by simp only[zM];omega⟩,aqv,λbU hk=>Br (hI.2.2 bU hk.right) aS6 (B7.ju hk.left)⟩ [[3],[0],[2,4],[5],[6]]
 refine zD 3 ?_;obtain⟨va7,vc7,he7⟩:=hI.2.1.form;subst he7;refine jd 5 [0,3]<|zR _ [3] [1,2] _ ⟨_,_,_,rfl,λbU hk=>⟨es,hI.2.1.ju hk.left,by have:=hI.2.2 bU hk.right;rwa[bF (by omega)] at this⟩⟩
def xM{fa:Option Addr}{S:List (List au)}(hS:bH ro vS S)(hO:cq S)(hT:ku ro vT ways)(hW:qv S ways):eT zT 93 [.agg ⟨[vS,vT,.slice fa 0 fc]⟩] ro [] (λr Y=>∃(a0 a1 a2:Option Addr) (n0 n1 c0 c1 c2:Nat) (qs:List Value) (LT Z:Cells),r= .agg ⟨[.slice a0 n0 c0,.slice a1 n1 c1,.slice a2 0 c2]⟩/\(qs.length=ways.length/\kz HdR qs ways)/\bI (.slice a1 n1 c1) 1 82 qa qs LT/\(∀bU,Knows bU Z->bH bU (.slice a0 n0 c0) S/\kz (λw l=>dk bU w 7 p6 l) qs ways)/\Y=LT++Z):=by
 have nP:=hS;obtain⟨pG,hs,nq⟩:=hS;obtain⟨sS,qsb,qso,sR,rfl,qsk,qsh,qsl⟩:=hs;obtain⟨nn,ht,j8⟩:=id hT;obtain⟨fZ,xg,xe,eR,rfl,xf,ou,oh⟩:=ht;have Sa:=nq.len;have hl7:=j8.len;have nI:=hO.two;have aaY:=hW.two;have Pb:∀(i:Nat) (p:jo),([]:List jo)[i]?=some p->eW ⟨ro,[]⟩ 0 (0+i*6) 6 (p5 p):=λ_ _ h=>wU h;refine zE<|zD 2<|jn λb1=>jn λb2=>zD 2<|Yk [1,1] [] (λ(zz:(Option Addr)×Nat×Nat×Cells×(Option Addr)×Nat×Nat)=>[(1,zP b1),(2,zP b2),(3,zP zz.2.2.2.2.2.2)]) (λzz=>[.b zz.2.2.2.2.2.2 (.cells ⟨[.slice zz.1 zz.2.1 zz.2.2.1,zS,.slice zz.2.2.2.2.1 0 zz.2.2.2.2.2.1]⟩ 28 (0,0)),.l zz.2.2.2.1,zxc b2 28 [zS,zS,zS],zxc b1 28 [.slice sS pG.length sR,.slice fZ nn.length eR,.slice fa 0 fc]]) (λzz=>∀bU,Knows bU zz.2.2.2.1->bH bU (.slice zz.1 zz.2.1 zz.2.2.1) S) ?_ (λK1 cU=>?_)
 ·
  rintro⟨pa,pn,pc,LP,fx,fy,b3⟩ hP rest;dsimp only at hP;refine zD 6<|uI<|uI<|iz [1,1,0,1,0,0] [] (λ(zz:Nat×Value×Cells×(List Value)×Cells)=>[(1,zP b1),(2,zP b2),(3,zP b3),(4,zI (zz.1:Int))]) (λzz=>[zxc b3 28 [.slice pa pn pc,zz.2.1,.slice fx 0 fy],.l zz.2.2.1,.l zz.2.2.2.2,.l LP,zxc b2 28 [zS,zS,zS],zxc b1 28 [.slice sS pG.length sR,.slice fZ nn.length eR,.slice fa 0 fc]]) (λzz=>(zz.1<=nn.length/\zz.2.2.2.1.length=zz.1/\kz HdR zz.2.2.2.1 (ways.take zz.1))/\bI zz.2.1 1 82 qa zz.2.2.2.1 zz.2.2.1/\∀bU,Knows bU zz.2.2.2.2->kz (λw l=>dk bU w 7 p6 l) zz.2.2.2.1 (ways.take zz.1)) (λzz=>nn.length-zz.1) (⟨0,zS,[],[],[]⟩) ⟨⟨by dsimp only;omega,rfl,.nil⟩,bI.nil _ _ _,λ_ _=> .nil⟩ [2,1,0,3,4,5] ?_;rintro⟨k,vO,LO,es,Z⟩ hI K2 kU rest;dsimp only at hI;refine jd 9 [5]<|zJ 17 ((k:Int) <(nn.length:Int)) (λh1=>?_) λh1=>?_
  ·
   refine jd 10 [0,5]<|zxs nn k eR 1 ou λx26 aaM=>zD 1 ?_;obtain⟨l28,Ww,h28⟩:=j8.get aaM;obtain akf:=(hW.ok _ (zL Ww)).1.2;obtain⟨an6,aPk,aPj,ajm,rfl,bcB,aFe,aFd⟩:=h28;refine jl 0 (oh _ _ aaM)<|zxo 2 λtx=>jn λb22=>eH tx (zN 1 6)<|zxo 9 λtw=>zxq p6 b22 100 0 ajm aFe aFd λVg Vd L29 Ao=>ee tw [[6],[1]]<|zD 1<|zxo 11 λC6=>jn λb31=>eH C6 (zN 1 7)<|zxo 12 λKX=>gB (sz:=1) (ps:=es) (qs:=[((.slice Vg (l28).length Vd):Value)]) (enc:=qa) (w:= .slice (some ⟨b31,0,none⟩) 1 1) [3] [0] [(b31,.cells ⟨([((.slice Vg (l28).length Vd):Value)].map qa).flatten⟩ 82 (0,0))] (hI.2.1) (λs _ hZ=>dg [((.slice Vg (l28).length Vd):Value)] (hZ _ (.head _)) (by intro p hp;rfl)) (by intro p hp;rw[List.mem_singleton] at hp;subst hp;exact aG rfl) (by simp<;>omega) (λv32 L32 aqt=>?_);obtain⟨aDN,aDG,aIh⟩:=aqt.form;subst aIh;refine ee KX [[7]]<|zD 1<|zxo 14 λKW=>jd 1 [3]<|kA KW<|zD 3<|zW ((k:Int)+1)<|zD 2<|zV kU (⟨k+1,(.slice aDN ((es++[((.slice Vg (l28).length Vd):Value)])).length aDG),L32,(es++[((.slice Vg (l28).length Vd):Value)]),L29++Z⟩) ⟨⟨by dsimp only;omega,by simp only[zM];omega,Br hI.1.2.2 Ww ⟨_,_,rfl,(bI.cap Ao).2⟩⟩,aqt,λbU hk=>Br (hI.2.2 bU hk.right) Ww (Ao.ju hk.left)⟩ [[3],[0],[2,4],[5],[6],[7]]
  refine zD 3 ?_;obtain⟨va7,vc7,he7⟩:=hI.2.1.form;subst he7;refine jd 5 [0,4]<|zR (.agg ⟨[.slice pa pn pc,(.slice va7 (es).length vc7),.slice fx 0 fy]⟩) [4] [1,3,2] _ ⟨_,_,_,_,_,_,_,_,es,LO,LP++Z,rfl,⟨by omega,by have:=hI.1.2.2;rwa[bF (by omega)] at this⟩,hI.2.1,λbU hk=>⟨hP bU hk.left,by have:=hI.2.2 bU hk.right;rwa[bF (by omega)] at this⟩,rfl⟩
 refine jd 5 [1,1]<|vg [2,3,8] ⟨λ_ _ Hm=>?_,λ_ _ QI=>?_,λ_ _ Hl=>?_,trivial⟩
 ·
  refine jc (vs:=[.agg ⟨[.slice sS pG.length sR]⟩]) [] (D9 nP hO) ?_;rintro _ L7 ⟨a7,n7,c7,rfl,hE7⟩;refine eH Hm [1,2]<|vg [3,8] ⟨λ_ _ KY=>?_,λ_ _ QF=>?_,trivial⟩
  ·
   refine jn λb8=>eH KY [1,2,3]<|vg [6,8] ⟨λ_ _ WS=>?_,λ_ _ WR=>?_,trivial⟩
   ·
    refine gB (sz:=6) (ps:=[]) (qs:=([]:List jo)) (enc:=p5) (w:= .slice fa 0 fc) [0] [] [] (bC (b:=b8) (T:=200)) (λs he _=>⟨fa,0,0,fc,rfl,(λ_ h=>absurd h (fS _)),λi p hp=>(Pb i p hp).ext he⟩) (λp _=>aG rfl) (by simp<;>omega) (λv11 YC ma=>?_);rw[aY] at ma;obtain⟨xS,qe,Eg⟩:=ma.form;subst Eg;refine ee WS []<|zD 1<|zxo 8 λWQ=>jn λb3=>eH WQ (zN 1 4)<|zxo 9 λafi=>jd 1 [0]<|kA afi<|zD 1<|zY cU ⟨a7,n7,c7,L7,xS,qe,b3⟩ hE7 [0,2,3,4]
   refine jn λb3=>eH WR (zN 1 4)<|zxo 6 λWO=>gB (sz:=6) (ps:=[]) (qs:=([]:List jo)) (enc:=p5) (w:= .slice fa 0 fc) [1] [] [] (bC (b:=b8) (T:=200)) (λs he _=>⟨fa,0,0,fc,rfl,(λ_ h=>absurd h (fS _)),λi p hp=>(Pb i p hp).ext he⟩) (λp _=>aG rfl) (by simp<;>omega) (λv11 YC ma=>?_);rw[aY] at ma;obtain⟨xS,qe,Eg⟩:=ma.form;subst Eg;refine ee WO []<|zD 1<|zxo 9 λWN=>jd 1 [1]<|kA WN<|zD 1<|zY cU ⟨a7,n7,c7,L7,xS,qe,b3⟩ hE7 [1,2,3,4]
  refine jn λb3=>eH QF [1,2,3]<|zxo 3 λWM=>jn λb8=>eH WM (zN 1 4)<|zxo 6 λafh=>gB (sz:=6) (ps:=[]) (qs:=([]:List jo)) (enc:=p5) (w:= .slice fa 0 fc) [0] [] [] (bC (b:=b8) (T:=200)) (λs he _=>⟨fa,0,0,fc,rfl,(λ_ h=>absurd h (fS _)),λi p hp=>(Pb i p hp).ext he⟩) (λp _=>aG rfl) (by simp<;>omega) (λv11 YC ma=>?_);rw[aY] at ma;obtain⟨xS,qe,Eg⟩:=ma.form;subst Eg;refine ee afh []<|zD 1<|zxo 9 λafg=>jd 1 [1]<|kA afg<|zD 1<|zY cU ⟨a7,n7,c7,L7,xS,qe,b3⟩ hE7 [1,2,3,4]
 ·
  refine jn λb8=>eH QI [1,2]<|vg [2,8] ⟨λ_ _ QE=>?_,λ_ _ QC=>?_,trivial⟩
  ·
   refine jc (vs:=[.agg ⟨[.slice sS pG.length sR]⟩]) [] (D9 nP hO) ?_;rintro _ L7 ⟨a7,n7,c7,rfl,hE7⟩;refine eH QE [1,2,3]<|vg [6,8] ⟨λ_ _ WL=>?_,λ_ _ afa=>?_,trivial⟩
   ·
    refine gB (sz:=6) (ps:=[]) (qs:=([]:List jo)) (enc:=p5) (w:= .slice fa 0 fc) [1] [] [] (bC (b:=b8) (T:=200)) (λs he _=>⟨fa,0,0,fc,rfl,(λ_ h=>absurd h (fS _)),λi p hp=>(Pb i p hp).ext he⟩) (λp _=>aG rfl) (by simp<;>omega) (λv11 YC ma=>?_);rw[aY] at ma;obtain⟨xS,qe,Eg⟩:=ma.form;subst Eg;refine ee WL []<|zD 1<|zxo 8 λaru=>jn λb3=>eH aru (zN 1 4)<|zxo 9 λart=>jd 1 [0]<|kA art<|zD 1<|zY cU ⟨a7,n7,c7,L7,xS,qe,b3⟩ hE7 [0,2,3,4]
   refine jn λb3=>eH afa (zN 1 4)<|zxo 6 λars=>gB (sz:=6) (ps:=[]) (qs:=([]:List jo)) (enc:=p5) (w:= .slice fa 0 fc) [2] [] [] (bC (b:=b8) (T:=200)) (λs he _=>⟨fa,0,0,fc,rfl,(λ_ h=>absurd h (fS _)),λi p hp=>(Pb i p hp).ext he⟩) (λp _=>aG rfl) (by simp<;>omega) (λv11 YC ma=>?_);rw[aY] at ma;obtain⟨xS,qe,Eg⟩:=ma.form;subst Eg;refine ee ars []<|zD 1<|zxo 9 λaJg=>jd 1 [1]<|kA aJg<|zD 1<|zY cU ⟨a7,n7,c7,L7,xS,qe,b3⟩ hE7 [1,2,3,4]
  refine jn λb3=>eH QC [1,2,3]<|zxo 2 λaJf=>jc (vs:=[.agg ⟨[.slice sS pG.length sR]⟩]) [] (D9 nP hO) ?_;rintro _ L7 ⟨a7,n7,c7,rfl,hE7⟩;refine eH aJf (zN 1 4)<|zxo 6 λarq=>gB (sz:=6) (ps:=[]) (qs:=([]:List jo)) (enc:=p5) (w:= .slice fa 0 fc) [2] [] [] (bC (b:=b8) (T:=200)) (λs he _=>⟨fa,0,0,fc,rfl,(λ_ h=>absurd h (fS _)),λi p hp=>(Pb i p hp).ext he⟩) (λp _=>aG rfl) (by simp<;>omega) (λv11 YC ma=>?_);rw[aY] at ma;obtain⟨xS,qe,Eg⟩:=ma.form;subst Eg;refine ee arq []<|zD 1<|zxo 9 λaJe=>jd 1 [2]<|kA aJe<|zD 1<|zY cU ⟨a7,n7,c7,L7,xS,qe,b3⟩ hE7 [2,1,3,4]
 refine jn λb3=>eH Hl [1,2]<|vg [2,3] ⟨λ_ _ bhO=>?_,λ_ _ bhL=>?_,trivial⟩
 ·
  refine jc (vs:=[.agg ⟨[.slice sS pG.length sR]⟩]) [] (D9 nP hO) ?_;rintro _ L7 ⟨a7,n7,c7,rfl,hE7⟩;refine eH bhO [1,2,3]<|zxo 3 λaJd=>jn λb8=>eH aJd (zN 1 4)<|zxo 6 λaJc=>gB (sz:=6) (ps:=[]) (qs:=([]:List jo)) (enc:=p5) (w:= .slice fa 0 fc) [0] [] [] (bC (b:=b8) (T:=200)) (λs he _=>⟨fa,0,0,fc,rfl,(λ_ h=>absurd h (fS _)),λi p hp=>(Pb i p hp).ext he⟩) (λp _=>aG rfl) (by simp<;>omega) (λv11 YC ma=>?_);rw[aY] at ma;obtain⟨xS,qe,Eg⟩:=ma.form;subst Eg;refine ee aJc []<|zD 1<|zxo 9 λaJb=>jd 1 [2]<|kA aJb<|zD 1<|zY cU ⟨a7,n7,c7,L7,xS,qe,b3⟩ hE7 [2,1,3,4]
 refine jn λb8=>eH bhL [1,2,3]<|zxo 2 λarp=>jc (vs:=[.agg ⟨[.slice sS pG.length sR]⟩]) [] (D9 nP hO) ?_;rintro _ L7 ⟨a7,n7,c7,rfl,hE7⟩;refine eH arp (zN 1 4)<|zxo 6 λaJa=>gB (sz:=6) (ps:=[]) (qs:=([]:List jo)) (enc:=p5) (w:= .slice fa 0 fc) [1] [] [] (bC (b:=b8) (T:=200)) (λs he _=>⟨fa,0,0,fc,rfl,(λ_ h=>absurd h (fS _)),λi p hp=>(Pb i p hp).ext he⟩) (λp _=>aG rfl) (by simp<;>omega) (λv11 YC ma=>?_);rw[aY] at ma;obtain⟨xS,qe,Eg⟩:=ma.form;subst Eg;refine ee aJa []<|zD 1<|zxo 9 λaI9=>jd 1 [2]<|kA aI9<|zD 1<|zY cU ⟨a7,n7,c7,L7,xS,qe,b3⟩ hE7 [2,1,3,4]
def H9{v:Value}{S:List (List au)}(hS:bH ro v S)(hO:cq S):eT zT 91 [.agg ⟨[v]⟩] ro [] (λr Y=>bI r 3 41 bO (aH S) Y):=by
 have nP:=hS;obtain⟨ws,ht,dY⟩:=hS;obtain⟨fZ,xg,xe,eR,rfl,xf,ou,oh⟩:=ht;have Ar:=dY.len;have nI:=hO.two;refine zE<|zD 2<|jn λb1=>zD 12<|uI<|iz [1,1,0,1,0,0] [] (λ(zz:Nat×Value×Cells)=>[(1,zP b1),(2,zS),(3,zz.2.1),(4,zI (zz.1:Int))]) (λzz=>[.l zz.2.2,zxc b1 24 [.slice fZ ws.length eR]]) (λzz=>zz.1<=ws.length/\bI zz.2.1 3 41 bO (Dl S zz.1) zz.2.2) (λzz=>ws.length-zz.1) (⟨0,zS,[]⟩) ⟨by dsimp only;omega,bI.nil _ _ _⟩ [0,1] ?_;rintro⟨k,vO,LO⟩ hI K1 cU rest;dsimp only at hI;refine jd 9 [1]<|zJ 10 ((k:Int) <(ws.length:Int)) (λh1=>?_) λh1=>?_
 ·
  refine zD 9 ?_;obtain⟨lk,Yp⟩:∃l,S[k]?=some l:=⟨_,List.getElem?_eq_getElem (by omega)⟩;refine iz [1,1,0,1,0,0,1,0,0,1,0,0] [K1] (λ(zz:Nat×Value×Cells)=>[(1,zP b1),(2,zS),(3,zz.2.1),(4,zI (k:Int)),(5,zI (zz.1:Int))]) (λzz=>[.l zz.2.2,zxc b1 24 [.slice fZ ws.length eR]]) (λzz=>zz.1<=lk.length/\bI zz.2.1 3 41 bO (Dl S k++(lk.take zz.1).map (eV k)) zz.2.2) (λzz=>lk.length-zz.1) (⟨0,vO,LO⟩) ⟨by dsimp only;omega,by simpa using hI.2⟩ [0,1] ?_;rintro⟨i,vO,LO⟩ hJ K2 kU rest;dsimp only at hJ;refine jd 7 [1]<|zxs ws k eR 1 ou (λx17 yh=>?_);obtain⟨V9,Wx,h18⟩:=dY.get yh;obtain aSU:=hO.len _ (zL Wx);obtain lq:V9=lk:=Option.some.inj (Wx.symm.trans Yp);obtain⟨WU,_⟩:V9.length=lk.length/\True:=⟨by rw[lq],trivial⟩;obtain⟨av6,aPv,aPt,an8,rfl,aPu,aFi,aFh⟩:=h18;refine jl 0 (oh _ _ yh)<|zD 3<|zJ 20 ((i:Int) <(V9.length:Int)) (λh2=>?_) λh2=>?_
  ·
   refine jd 10 [1]<|zxs ws k eR 1 ou (λx28 Hc=>?_);obtain⟨l29,aqS,h29⟩:=dY.get Hc;obtain aHE:=hO.len _ (zL aqS);obtain Qy:l29=lk:=aK (aqS.symm.trans Yp);obtain⟨WQ,_⟩:l29.length=lk.length/\True:=⟨by rw[Qy],trivial⟩;obtain⟨bcA,bcz,bcx,aFc,rfl,bcy,aFb,aFa⟩:=h29;refine jl 0 (oh _ _ Hc)<|zD 1<|zxt l29 i aFc 2 aFb aFa λRU Qe=>zD 1<|jn λb34=>zxl bO b34 (⟨(k:Int),RU.n,RU.l⟩:ak) 1 0 (hJ.2) (λaDM aDF L35 Ql=>?_) (hb:=by have:=Fe hO k;have:=hO.len _ (zL Yp);simp only[aL,dE,cH,aJ,aO];omega);refine zD 4<|zW ((i:Int)+1)<|zD 2<|zF kU (⟨i+1,(.slice aDM (((Dl S k++(lk.take i).map (eV k))++[(⟨(k:Int),RU.n,RU.l⟩:ak)])).length aDF),L35⟩) (by rw[c8 (by rw[<-Qy];exact Qe),cw,<-bx];exact Ql) [0,2]
  refine zD 4<|zW ((k:Int)+1)<|zD 2<|zF cU (⟨k+1,vO,LO⟩) (by rw[Qg Yp];have:=hJ.2;rwa[bF (by rw[<-lq];omega)] at this) [0,1]
 refine zD 8<|zR _ [] [0] LO (by have:=hI.2;rwa[show k=S.length by omega] at this)
def aDt(n lo hi:Int):Bool:=decide (n>=lo)&&decide (n<=hi)
theorem aM3{lo:Int}(h:lo<=n/\n<=hi):aDt n lo hi=true:=by grind [aDt]
theorem Kk{x:au}{t:Int}:(x.n==n&&(x.l==t&&true))=cD n t x:=by
 rw[GD,th];rcases x with ⟨a,b⟩;simp
def ahB(x y:ak):Bool:=decide (x.h <y.h)||(decide (x.h=y.h)&&qK ⟨x.n,x.l⟩ ⟨y.n,y.l⟩)
theorem XP{x y:ak}:ahB x y=qW x y:=by
 rw[GD,BX];simp[ahB,Jk]
def P2(l:List au)(n:Int):Int:=if rU l n 5 1>4 then 0 else rU l n 5 1
theorem aep{l:List au}{n:Int}:∀ {f:Nat} {k:Int},k<=rU l n f k
 |0,k=>Int.le_refl _
 |f+1,k=>by
  simp only[rU]
  cases decide (bM _ l 0>=0) with
  |true=>have:=aep (l:=l) (n:=n) (f:=f) (k:=k+1);grind
  |false=>simp
def aun(l:List au)(i:Nat)(m:Int):Prop:=(i=0/\m=0)\/∃y,l[i-1]?=some y/\1<=i/\m=y.n
theorem atU{l:List au}{m:Int}{x:au}(ha:l.Pairwise mL)(h:aun l i m)(hx:l[i]?=some x) (h1:1<=x.n):max m x.n=x.n:=by
 rcases h with ⟨_,h⟩| ⟨y,h2,h3,h4⟩
 .omega
 have:=wD ha (show i-1 <i by omega) h2 hx
 grind [mL]
theorem atV{l:List au}{m:Int}(h:aun l i m)(e:i=l.length):m+Int.tmod m 2=gW l:=by
 rcases h with ⟨h,rfl⟩| ⟨y,h1,h2,rfl⟩
 .have:l=[]:=kQ (by omega);subst this;rfl
 grind [gW]
theorem aPB(h:1<=n){b:Bool}:(decide (Int.tmod n 2=1)==b)=(mM n==b):=by
 grind [JZ]
theorem avP{lo:Int}:iI zT 101 [zI n,zI lo,zI hi] ro (.bool (aDt n lo hi)):=by
 refine zE<|zD 10<|jj 4 [(6,.bool false),(14,.bool ((decide (n>=lo))&&(decide (n<=hi))))] (λoX=>?_) (λhj=>?_);rotate_left;refine js 10 (decide (n>=lo)) (λh1=>?_) (λh1=>?_)
 ·
  have lF:=h1;replace lF:=ah lF;refine zD 4<|zxw 14 hj (zya h1)
 ·
  have lF:=h1;replace lF:=af lF;refine zD 4<|zxw 14 hj (zyb h1)
 refine zD 3<|zX _ ⟨rfl,rfl⟩
theorem xW{lo:Int}(h:lo<=n/\n<=hi):iI zT 101 [zI n,zI lo,zI hi] ro (.bool true):=by
 grind [avP,lo,aM3]
def avR{x:au}(hx:p8 x):iI zT 49 [.agg ⟨[zI x.n,zI x.l]⟩] ro (.bool true):=by
 obtain⟨⟨hx1,hx2⟩,hx3,hx4⟩:=hx;refine zE<|zD 2<|jn λb1=>jd 6 [0]<|zxp [zI x.n,zI 1,zI 40] (λhs=>xW (by omega))<|jd 3 [0]<|zxp [zI x.l,zI 0,zI 4] (λhs=>xW (by omega))<|zD 4<|zX _ ⟨rfl,rfl⟩
def Ia{x y:au}:iI zT 290 [.agg ⟨[zI x.n,zI x.l]⟩,.agg ⟨[zI y.n,zI y.l]⟩] ro (.bool (qK x y)):=by
 refine zE<|zD 2<|jn λb2=>jn λb3=>jd 10 [1,0]<|js 10 (decide (x.n <y.n)) (λh1=>?_) (λh1=>?_)
 ·
  have lF:=h1;replace lF:=ah lF;refine zD 16<|zX (.bool true) ⟨by simp_all[qK],rfl⟩
 have lF:=h1;replace lF:=af lF;refine jd 6 [1,0]<|js 16 (decide (x.n=y.n)) (λh2=>?_) (λh2=>?_)
 ·
  have nu:=h2;replace nu:=ah nu;refine jd 10 [1,0]<|zX (.bool (decide (x.l <y.l))) ⟨by simp_all[qK],rfl⟩
 have nu:=h2;replace nu:=af nu;refine zD 10<|zX (.bool false) ⟨by simp_all[qK],rfl⟩
def aEX{x y:ak}:iI zT 321 [.agg ⟨[zI x.h,zI x.n,zI x.l]⟩,.agg ⟨[zI y.h,zI y.n,zI y.l]⟩] ro (.bool (ahB x y)):=by
 refine zE<|zD 2<|jn λb2=>jn λb3=>jd 10 [1,0]<|js 10 (decide (x.h <y.h)) (λh1=>?_) (λh1=>?_)
 ·
  have lF:=h1;replace lF:=ah lF;refine zD 16<|zX (.bool true) ⟨by simp_all[ahB],rfl⟩
 have lF:=h1;replace lF:=af lF;refine jd 6 [1,0]<|js 16 (decide (x.h=y.h)) (λh2=>?_) (λh2=>?_)
 ·
  have nu:=h2;replace nu:=ah nu;refine jd 4 [1,0]<|zxp [.agg ⟨[zI x.n,zI x.l]⟩,.agg ⟨[zI y.n,zI y.l]⟩] (λhs=>(Ia (x:=⟨x.n,x.l⟩) (y:=⟨y.n,y.l⟩)))<|zD 5<|zX (.bool (qK ⟨x.n,x.l⟩ ⟨y.n,y.l⟩)) ⟨by simp_all[ahB],rfl⟩
 have nu:=h2;replace nu:=af nu;refine zD 10<|zX (.bool false) ⟨by simp_all[ahB],rfl⟩
def DI{v:Value}{l:List au}{t:Int}(hl:dk ro v 2 cv l)(hn:l.length<=12):iI zT 340 [v,.agg ⟨[zI n,zI t]⟩] ro (zI (bM (cD n t) l 0)):=by
 obtain⟨fO,rh,q9,fb,rfl,sV,mR,nN⟩:=hl;refine zE<|zD 2<|jn λb3=>zD 8<|iz [1,0,1,0,0] [] (λ(zz:Nat)=>[(0,.slice fO l.length fb),(3,zP b3),(5,zI (zz:Int))]) (λzz=>[zxc b3 39 [zI n,zI t]]) (λzz=>zz<=l.length/\bM (cD n t) l 0=bM (cD n t) (l.drop zz) zz) (λzz=>l.length-zz) 0 ⟨by omega,rfl⟩ [0] ?_;rintro k hI K1 cU rest;refine zD 8<|zJ 9 ((k:Int) <(l.length:Int)) (λh1=>?_) λh1=>?_
 ·
  refine zD 8<|zxt l k fb 2 mR nN λvt iD=>jd 1 [0]<|jeq GY (yz vt.n vt.l n t)<|zD 1<|js 17 (vt.n==n&&(vt.l==t&&true)) (λh2=>?_) (λh2=>?_)
  ·
   refine zD 7<|zX (zI (k:Int)) ⟨by rw[hI.2,pZ iD,show cD n t vt=true from by rw[<-Kk];assumption];rfl,rfl⟩
  refine zD 4<|zW ((k:Int)+1)<|zD 2<|zY cU (k+1) ⟨by omega,by rw[hI.2,pZ iD,show cD n t vt=false from by rw[<-Kk];assumption];rfl⟩ [0]
 refine zD 7<|zX (zI (-1)) ⟨by rw[hI.2,Bj (by omega)],rfl⟩
theorem agW{v:Value}{l:List au}{n:Int}{ro:Nat->Option Obj}(hl:dk ro v 2 cv l)(hn:l.length<=12):iI zT 341 [v,zI n] ro (zI (P2 l n)):=by
 obtain⟨fO,rh,q9,fb,rfl,sV,mR,nN⟩:=hl
 refine zE<|zD 10<|iz [1,0,1,0,0] [] (λ(zz:Nat×Int)=>[(0,.slice fO l.length fb),(1,zI n),(5,zI zz.2)]) (λzz=>[]) (λzz=>zz.1<=4/\zz.2=(zz.1:Int)+1/\rU l n 5 1=rU l n (5-zz.1) zz.2) (λzz=>5-zz.1) (⟨0,1⟩) ⟨by omega,rfl,rfl⟩ [] ?_
 rintro⟨k,q⟩ hI K1 cU rest
 dsimp only at hI
 refine zD 6<|zJ 7 (q<=4) (λh1=>?_) λh1=>?_
 ·
  refine zD 10<|zxp [.slice fO l.length fb,.agg ⟨[zI n,zI q]⟩] (λhs=>DI ((show dk _ _ _ _ _ from ⟨fO,rh,q9,fb,rfl,sV,mR,nN⟩).up hs) (by omega))<|zD 2<|zJ 15 ((bM (cD n q) l 0) <0) (λh2=>?_) λh2=>?_
  ·
   refine zD 7<|zX (zI q) ⟨by have:=hI.2.2;rw[ahl hI.1 (by omega)] at this;rw[P2,this,if_neg (by omega)],rfl⟩
  refine zD 4<|zW (q+1)<|zD 2<|zF cU (⟨k+1,(q+1)⟩) ⟨by dsimp only;omega,by dsimp only;rw[hI.2.2];exact aBi hI.1 (by omega)⟩ []
 refine zD 7<|zX (zI 0) ⟨by have:=@aep l n (5-k) q;rw[P2,if_pos (by omega)],rfl⟩
def aAL{v:Value}{l:List au}(hl:dk ro v 2 cv l)(hn:l.length<=12)(ha:l.Pairwise mL)(hp:∀x∈l,p8 x):iI zT 339 [v] ro (zI (gW l)):=by
 obtain⟨fO,rh,q9,fb,rfl,sV,mR,nN⟩:=hl;refine zE<|zD 14<|iz [1,1,0,1,0,0] [] (λ(zz:Nat×Int)=>[(0,.slice fO l.length fb),(2,zI 0),(3,zI zz.2),(4,zI (zz.1:Int))]) (λzz=>[]) (λzz=>zz.1<=l.length/\(0<=zz.2/\zz.2<=40)/\aun l zz.1 zz.2) (λzz=>l.length-zz.1) (⟨0,0⟩) ⟨Nat.zero_le _,by omega,.inl ⟨rfl,rfl⟩⟩ [] ?_;rintro⟨i,m⟩ hI K1 cU rest;dsimp only at hI;refine zD 8<|zJ 8 ((i:Int) <(l.length:Int)) (λh1=>?_) λh1=>?_
 ·
  refine zD 8<|zxs l i fb 2 mR λvt iD=>zD 1<|jl 0 (nN _ _ iD)<|jmx (k:= .i64) (a:=m) (b:=vt.n)<|zD 4<|zW ((i:Int)+1)<|zD 2 ?_;have hxp:=hp _ (zL iD);have hx1:=hxp.1.1;have hx2:=hxp.1.2;have vo:=atU ha hI.2.2 iD hx1;exact zF cU (⟨i+1,(max m vt.n)⟩) ⟨by dsimp only;rw[vo];omega,.inr ⟨vt,by simpa using iD,by omega,vo⟩⟩ []
 refine zD 3 ?_;have oK:=w6 m (show (0:Int) <2 by decide);have yN:=wQ 2 hI.2.1.1;refine zD 4<|zW (m+(Int.tmod m 2))<|zD 3<|zX _ ⟨by rw[<-atV hI.2.2 (by omega)],rfl⟩
def Gk(c:aT):Int:=if (c.k=4\/c.k=7)/\c.ot=c.st then 4 else 0
theorem E7{c:aT}(h1:c.k=4\/c.k=7)(h2:c.ot=c.st):Gk c=4:=dN ⟨h1,h2⟩
theorem qD{c:aT}(h:¬((c.k=4\/c.k=7)/\c.ot=c.st)):Gk c=0:=cy h
theorem avS{v:Value}{l:List au}{q:Bool}(hl:dk ro v 2 cv l)(hn:l.length<=12)(hp:∀x∈l,p8 x):eT zT 350 [v,.bool q] ro [] (λr Y=>bI r 2 39 cv (l.filter λx=>mM x.n==q) Y):=by
 obtain⟨fO,rh,q9,fb,rfl,sV,mR,nN⟩:=hl;refine zE<|zD 14<|uI<|iz [1,1,0,1,0,0] [] (λ(zz:Nat×Value×Cells)=>[(0,.slice fO l.length fb),(1,.bool q),(4,zS),(5,zz.2.1),(6,zI (zz.1:Int))]) (λzz=>[.l zz.2.2]) (λzz=>zz.1<=l.length/\bI zz.2.1 2 39 cv ((l.take zz.1).filter λx=>mM x.n==q) zz.2.2) (λzz=>l.length-zz.1) (⟨0,zS,[]⟩) ⟨by dsimp only;omega,bI.nil _ _ _⟩ [0] ?_;rintro⟨k,vO,LO⟩ hI K1 cU rest;dsimp only at hI;refine zD 8<|zJ 10 ((k:Int) <(l.length:Int)) (λh1=>?_) λh1=>?_
 ·
  refine zD 8<|zxs l k fb 2 mR λFL KD=>zD 1<|jl 0 (nN _ _ KD)<|zD 5<|js 21 ((decide ((Int.tmod FL.n 2)=1))==q) (λh2=>?_) (λh2=>?_)
  ·
   refine zD 5<|zxt l k fb 2 mR nN λwx jT=>jn λb27=>zxl cv b27 (⟨wx.n,wx.l⟩:au) 1 0 (hI.2) (λadb ac7 L28 Qm=>?_) (hb:=by grind);refine zD 4<|zW ((k:Int)+1)<|zD 2<|zF cU (⟨k+1,_,L28⟩) (by rw[sF jT,show (mM wx.n==q)=true by rw[<-aPB (hp _ (zL jT)).1.1];have e:=aK (jT.symm.trans KD);subst e;assumption];exact Qm) [0]
  refine zD 4<|zW ((k:Int)+1)<|zD 2<|zF cU (⟨k+1,vO,LO⟩) (by rw[sF KD,show (mM FL.n==q)=false by rw[<-aPB (hp _ (zL KD)).1.1];assumption];simpa using hI.2) [0]
 refine zD 8<|zR _ [] [0] LO (by have:=hI.2;rwa[bF (by omega)] at this)
def aEW{v:Value}{S:List (List au)}(hS:bH ro v S)(hO:cq S):iI zT 254 [.agg ⟨[v]⟩] ro (zI 0):=by
 obtain⟨ws,ht,dY⟩:=hS;obtain⟨fZ,xg,xe,eR,rfl,xf,ou,oh⟩:=ht;have Ar:=dY.len;have nI:=hO.two;refine zE<|zD 2<|jn λb1=>jd 10 [0]<|zJ 9 ((ws.length:Int)=0) (λh1=>?_) λh1=>?_
 ·
  exfalso;omega
 refine jd 10 [0]<|zJ 13 ((ws.length:Int)>3) (λh2=>?_) λh2=>?_
 ·
  exfalso;omega
 refine zD 8<|iz [1,1,1,0,1,0,0] [] (λ(zz:Nat)=>[(1,zP b1),(3,zI (zz:Int))]) (λzz=>[zxc b1 24 [.slice fZ ws.length eR]]) (λzz=>zz<=ws.length) (λzz=>ws.length-zz) 0 (by omega) [0] ?_;rintro k hI K1 cU rest;refine jd 9 [0]<|zJ 18 ((k:Int) <(ws.length:Int)) (λh3=>?_) λh3=>?_
 ·
  refine jd 9 [0]<|zxs ws k eR 1 ou (λOC Ed=>?_);obtain⟨l25,aHN,h25⟩:=dY.get Ed;obtain brI:=hO.len _ (zL aHN);obtain beD:=hO.ok _ (zL aHN);obtain bey:=hO.Sk _ (zL aHN);obtain⟨bcF,bpM,bpK,av4,rfl,bpL,aFg,aFf⟩:=h25;refine jl 0 (oh _ _ Ed)<|zD 9<|zJ 28 ((l25.length:Int)>8) (λh4=>?_) λh4=>?_
  ·
   exfalso;omega
  refine zD 7<|iz [1,1,1,0,1,0,0,1,0,0,1,1,1,0,0] [K1] (λ(zz:Nat)=>[(1,zP b1),(3,zI (k:Int)),(4,.slice bcF l25.length av4),(5,zI (zz:Int))]) (λzz=>[zxc b1 24 [.slice fZ ws.length eR]]) (λzz=>zz<=l25.length) (λzz=>l25.length-zz) 0 (by omega) [0] ?_;rintro i hJ K2 kU rest;refine zD 8<|zJ 32 ((i:Int) <(l25.length:Int)) (λh5=>?_) λh5=>?_
  ·
   refine zD 9<|zxt l25 i av4 2 aFg aFf λj6 pd=>zxp [.agg ⟨[zI j6.n,zI j6.l]⟩] (λhs=>(avR (x:=j6) (beD _ (zL pd))))<|zD 9<|js 2 (decide ((i:Int)>0)) (λh6=>?_) (λh6=>?_)
   ·
    have Ho:=h6;replace Ho:=ah Ho;refine zD 2<|zW ((i:Int)-1) ?_;obtain⟨x47,aj1⟩:=zG l25 (((i:Int)-1).toNat);refine Yj ((i:Int)-1) av4 2 aFg aj1 (by omega)<|jl 0 (aFf _ _ aj1)<|zD 2<|zxt l25 i av4 2 aFg aFf λib qH=>zxp [.agg ⟨[zI x47.n,zI x47.l]⟩,.agg ⟨[zI ib.n,zI ib.l]⟩] (λhs=>(Ia (x:=⟨x47.n,x47.l⟩) (y:=⟨ib.n,ib.l⟩)))<|zD 3<|js 55 (!(qK ⟨x47.n,x47.l⟩ ⟨ib.n,ib.l⟩)) (λh7=>?_) (λh7=>?_)
    ·
     exfalso;have h3:=Jk.2 (wD bey (show ((i:Int)-1).toNat <i by omega) aj1 qH);simp_all
    refine zD 4<|zW ((i:Int)+1)<|zD 2<|zY kU (i+1) (by omega) [0]
   have Ho:=h6;replace Ho:=af Ho;refine zD 17<|zW ((i:Int)+1)<|zD 2<|zY kU (i+1) (by omega) [0]
  refine zD 4<|zW ((k:Int)+1)<|zD 2<|zY cU (k+1) (by omega) [0]
 refine zD 7<|zX _ ⟨rfl,rfl⟩
def Zr{fa:Option Addr}{S:List (List au)}(hS:bH ro vS S)(hO:cq S)(hT:ku ro vT ways)(hW:qv S ways):iI zT 222 [.agg ⟨[vS,vT,.slice fa 0 fc]⟩] ro (zI 0):=by
 have nP:=hS;obtain⟨pG,hs,nq⟩:=hS;obtain⟨sS,qsb,qso,sR,rfl,qsk,qsh,qsl⟩:=hs;obtain⟨nn,ht,j8⟩:=id hT;obtain⟨fZ,xg,xe,eR,rfl,xf,ou,oh⟩:=ht;have Sa:=nq.len;have hl7:=j8.len;have nI:=hO.two;have aaY:=hW.two;have Pb:∀(i:Nat) (p:jo),([]:List jo)[i]?=some p->eW ⟨ro,[]⟩ 0 (0+i*6) 6 (p5 p):=λ_ _ h=>wU h;refine zE<|zD 2<|jn λb1=>jd 7 [0]<|zxp [.agg ⟨[.slice sS pG.length sR]⟩] (λhs=>aEW (nP.up hs) hO)<|jd 17 [0]<|zJ 17 ((nn.length:Int)>3) (λh1=>?_) λh1=>?_
 ·
  exfalso;omega
 refine zD 8<|iz [1,1,1,0,1,0,0] [] (λ(zz:Nat)=>[(1,zP b1),(4,zI (zz:Int))]) (λzz=>[zxc b1 28 [.slice sS pG.length sR,.slice fZ nn.length eR,.slice fa 0 fc]]) (λzz=>zz<=nn.length) (λzz=>nn.length-zz) 0 (by omega) [0] ?_;rintro k hI K1 cU rest;refine jd 9 [0]<|zJ 22 ((k:Int) <(nn.length:Int)) (λh2=>?_) λh2=>?_
 ·
  refine jd 9 [0]<|zxs nn k eR 1 ou λx28 Hc=>zD 1 ?_;obtain⟨P7,aqR,h30⟩:=j8.get Hc;obtain ake:=hW.ok _ (zL aqR);obtain⟨av1,bcw,bcu,adT,rfl,bcv,av0,avZ⟩:=h30;refine jl 0 (oh _ _ Hc)<|zD 9<|zJ 33 ((P7.length:Int)=0) (λh3=>?_) λh3=>?_
  ·
   exfalso;omega
  refine zD 9<|zJ 36 ((P7.length:Int)>3) (λh4=>?_) λh4=>?_
  ·
   exfalso;omega
  refine zD 7<|iz [1,1,1,0,1,0,0,1,0,0,1,1,1,1,0,0] [K1] (λ(zz:Nat)=>[(1,zP b1),(4,zI (k:Int)),(5,.slice av1 P7.length adT),(6,zI (zz:Int))]) (λzz=>[zxc b1 28 [.slice sS pG.length sR,.slice fZ nn.length eR,.slice fa 0 fc]]) (λzz=>zz<=P7.length) (λzz=>P7.length-zz) 0 (by omega) [0] ?_;rintro i hJ K2 kU rest;refine zD 8<|zJ 40 ((i:Int) <(P7.length:Int)) (λh5=>?_) λh5=>?_
  ·
   refine zD 8<|zxs P7 i adT 7 av0 λxR sN=>zD 1<|jl 0 (avZ _ _ sN)<|zxp [zI xR.k,zI 1,zI 7] (λhs=>xW (ake.2 _ (zL sN)).k)<|zD 6<|zW ((i:Int)+1)<|zD 2<|zY kU (i+1) (by omega) [0]
  refine zD 4<|zW ((k:Int)+1)<|zD 2<|zY cU (k+1) (by omega) [0]
 refine jd 18 [0]<|iz [1,1,1,1,1,0,1,0,0] [] (λ(zz:Nat)=>[(1,zP b1),(7,zI 0)]) (λzz=>[zxc b1 28 [.slice sS pG.length sR,.slice fZ nn.length eR,.slice fa 0 fc]]) (λzz=>True) (λzz=>zz) 0 trivial [0] ?_;rintro z hQ K3 Dq rest;refine jd 16 [0]<|zX _ ⟨rfl,rfl⟩
def aES{v:Value}{S:List (List au)}{k s a:Int}(hS:bH ro v S)(hO:cq S)(hc:n9 S ⟨k,s,o,a,b,e,f⟩):eT zT 322 [.agg ⟨[v]⟩,.agg ⟨[zI k,zI s,zI o,zI a,zI b,zI e,zI f]⟩] ro [] (λr Y=>∃x:aT,r= .tuple ⟨[zI (Gk ⟨k,s,o,a,b,e,f⟩),.agg ⟨p6 x⟩]⟩/\(Gk ⟨k,s,o,a,b,e,f⟩=0->x=⟨k,s,o,a,b,e,f⟩)/\Y=[]):=by
 obtain⟨ws,ht,dY⟩:=hS;obtain⟨fZ,xg,xe,eR,rfl,xf,ou,oh⟩:=ht;have Ar:=dY.len;have nI:=hO.two;obtain⟨Ol,QA,Eh,Uk,hcf,hct⟩:=hc;dsimp only at Ol QA Eh Uk hcf hct;refine zE<|zD 2<|jn λb2=>jn λb3=>zD 1<|jn λb5=>jd 8 [1,1]<|jn λb6=>jd 7 [0,2]<|zxp [zI k,zI 1,zI 7] (λhs=>xW (by omega))<|jd 12 [2,3]<|zW ((ws.length:Int)-1)<|zxp [zI s,zI 0,zI ((ws.length:Int)-1)] (λhs=>xW (by omega))<|jd 17 [2]<|zJ 28 (k=4) (λh1=>?_) λh1=>?_
 ·
  refine jd 18 [2,0,2,3]<|zW ((ws.length:Int)-1)<|zxp [zI o,zI 0,zI ((ws.length:Int)-1)] (λhs=>xW (by omega))<|jd 12 [2,2]<|zJ 47 (o=s) (λh2=>?_) λh2=>?_
  ·
   refine jd 5 [0]<|zxo 2 λuk=>jd 1 [1]<|kA uk<|zD 2<|zR _ [1] [] [] ⟨(⟨k,s,o,0,0,0,0⟩:aT),by rw[E7 (by dsimp only;omega) (by dsimp only;omega)],λh=>by rw[E7 (by dsimp only;omega) (by dsimp only;omega)] at h;exact absurd h (by decide),rfl⟩
  refine jd 15 [2]<|zJ 51 (k=5) (λh4=>?_) λh4=>?_
  ·
   refine jd 13 [2,0,0]<|zxo 2 λC7=>jd 1 [1]<|kA C7<|zD 2<|zR _ [1] [] [] ⟨(⟨k,s,o,a,b,0,0⟩:aT),by rw[qD (by dsimp only;omega)],λ_=>by simp only[aT.mk.injEq,true_and,and_true]<;>omega,rfl⟩
  refine zD 5<|zJ 51 (k=6) (λh6=>?_) λh6=>?_
  ·
   refine jd 11 [2,0,0]<|zxo 2 λtx=>jd 1 [1]<|kA tx<|zD 2<|zR _ [1] [] [] ⟨(⟨k,s,o,a,b,0,0⟩:aT),by rw[qD (by dsimp only;omega)],λ_=>by simp only[aT.mk.injEq,true_and,and_true]<;>omega,rfl⟩
  refine zD 6<|zJ 57 (k=7) (λh8=>?_) λh8=>?_
  ·
   refine jd 7 [2,2]<|zxo 5 λtw=>jd 1 [0]<|ee tw [[2]]<|zD 1<|zxo 7 λC6=>jd 1 [0]<|kA C6<|jd 5 [0]<|zxo 2 λKX=>jd 1 [1]<|kA KX<|zD 2<|zR _ [1] [] [] ⟨(⟨k,s,o,a,b,e,f⟩:aT),by rw[qD (by dsimp only;omega)],λ_=>by simp only[aT.mk.injEq,true_and,and_true]<;>omega,rfl⟩
  refine jd 6 [0]<|zxo 2 λKW=>jd 1 [1]<|kA KW<|zD 2<|zR _ [1] [] [] ⟨(⟨k,s,o,0,0,0,0⟩:aT),by rw[qD (by dsimp only;omega)],λ_=>by simp only[aT.mk.injEq,true_and,and_true]<;>omega,rfl⟩
 refine zD 5<|zJ 28 (k=7) (λC9=>?_) λC9=>?_
 ·
  refine jd 16 [2,0,2,3]<|zW ((ws.length:Int)-1)<|zxp [zI o,zI 0,zI ((ws.length:Int)-1)] (λhs=>xW (by omega))<|jd 12 [2,2]<|zJ 47 (o=s) (λh14=>?_) λh14=>?_
  ·
   refine jd 5 [0]<|zxo 2 λWJ=>jd 1 [1]<|kA WJ<|zD 2<|zR _ [1] [] [] ⟨(⟨k,s,o,0,0,0,0⟩:aT),by rw[E7 (by dsimp only;omega) (by dsimp only;omega)],λh=>by rw[E7 (by dsimp only;omega) (by dsimp only;omega)] at h;exact absurd h (by decide),rfl⟩
  refine jd 15 [2]<|zJ 51 (k=5) (λh16=>?_) λh16=>?_
  ·
   refine jd 13 [2,0,0]<|zxo 2 λhL9=>jd 1 [1]<|kA hL9<|zD 2<|zR _ [1] [] [] ⟨(⟨k,s,o,a,b,0,0⟩:aT),by rw[qD (by dsimp only;omega)],λ_=>by simp only[aT.mk.injEq,true_and,and_true]<;>omega,rfl⟩
  refine zD 5<|zJ 51 (k=6) (λh18=>?_) λh18=>?_
  ·
   refine jd 11 [2,0,0]<|zxo 2 λHm=>jd 1 [1]<|kA Hm<|zD 2<|zR _ [1] [] [] ⟨(⟨k,s,o,a,b,0,0⟩:aT),by rw[qD (by dsimp only;omega)],λ_=>by simp only[aT.mk.injEq,true_and,and_true]<;>omega,rfl⟩
  refine zD 6<|zJ 57 (k=7) (λh20=>?_) λh20=>?_
  ·
   refine jd 7 [2,2]<|zxo 5 λKZ=>jd 1 [0]<|ee KZ [[2]]<|zD 1<|zxo 7 λWW=>jd 1 [0]<|kA WW<|jd 5 [0]<|zxo 2 λQI=>jd 1 [1]<|kA QI<|zD 2<|zR _ [1] [] [] ⟨(⟨k,s,o,a,b,e,f⟩:aT),by rw[qD (by dsimp only;omega)],λ_=>by simp only[aT.mk.injEq,true_and,and_true]<;>omega,rfl⟩
  refine jd 6 [0]<|zxo 2 λQH=>jd 1 [1]<|kA QH<|zD 2<|zR _ [1] [] [] ⟨(⟨k,s,o,0,0,0,0⟩:aT),by rw[qD (by dsimp only;omega)],λ_=>by simp only[aT.mk.injEq,true_and,and_true]<;>omega,rfl⟩
 refine jd 15 [2]<|zJ 51 (k=5) (λh25=>?_) λh25=>?_
 ·
  refine jd 13 [2,0,0]<|zxo 2 λWV=>jd 1 [1]<|kA WV<|zD 2<|zR _ [1] [] [] ⟨(⟨k,s,0,a,b,0,0⟩:aT),by rw[qD (by dsimp only;omega)],λ_=>by simp only[aT.mk.injEq,true_and,and_true]<;>omega,rfl⟩
 refine zD 5<|zJ 51 (k=6) (λh27=>?_) λh27=>?_
 ·
  refine jd 11 [2,0,0]<|zxo 2 λHl=>jd 1 [1]<|kA Hl<|zD 2<|zR _ [1] [] [] ⟨(⟨k,s,0,a,b,0,0⟩:aT),by rw[qD (by dsimp only;omega)],λ_=>by simp only[aT.mk.injEq,true_and,and_true]<;>omega,rfl⟩
 refine zD 6<|zJ 57 (k=7) (λh29=>?_) λh29=>?_
 ·
  refine jd 7 [2,2]<|zxo 5 λHk=>jd 1 [0]<|ee Hk [[2]]<|zD 1<|zxo 7 λWU=>jd 1 [0]<|kA WU<|jd 5 [0]<|zxo 2 λKY=>jd 1 [1]<|kA KY<|zD 2<|zR _ [1] [] [] ⟨(⟨k,s,0,a,b,e,f⟩:aT),by rw[qD (by dsimp only;omega)],λ_=>by simp only[aT.mk.injEq,true_and,and_true]<;>omega,rfl⟩
 refine jd 6 [0]<|zxo 2 λQG=>jd 1 [1]<|kA QG<|zD 2<|zR _ [1] [] [] ⟨(⟨k,s,0,0,0,0,0⟩:aT),by rw[qD (by dsimp only;omega)],λ_=>by simp only[aT.mk.injEq,true_and,and_true]<;>omega,rfl⟩
theorem Tk{S:List (List au)}{i:Int}{l:List au}(h:S[i.toNat]?=some l):Ag S i=l:=by grind [Ag]
theorem ayP{S:List (List au)}{s a:Int}{l lo:List au}(eA:o≠s)(hl:S[s.toNat]?=some l) (ho:S[o.toNat]?=some lo):iO S ⟨4,s,o,a,b,e,f⟩=sC l lo:=by grind [iO,Tk]
theorem ata{S:List (List au)}{s a:Int}{l:List au}(hl:S[s.toNat]?=some l):iO S ⟨5,s,o,a,b,e,f⟩=Ex l a b:=by grind [iO,Tk]
theorem aU5{S:List (List au)}{s a:Int}{l:List au}(hl:S[s.toNat]?=some l):iO S ⟨6,s,o,a,b,e,f⟩=Bm l a b:=by grind [iO,Tk]
theorem akK{S:List (List au)}{s a:Int}{l lo:List au}(eA:o≠s)(hl:S[s.toNat]?=some l) (ho:S[o.toNat]?=some lo):iO S ⟨7,s,o,a,b,e,f⟩=oP l lo (bM (cD a b) l 0) (bM (cD e f) l 0):=by grind [iO,Tk]
theorem biK{S:List (List au)}{k s a:Int}(h:k <4):iO S ⟨k,s,o,a,b,e,f⟩=0:=by
 grind [iO]
theorem axB{l lo:List au}(h:¬l.length+lo.length>8)(h2:∀x∈l.take i,¬x.n+gW lo>40)(hi:l.length<=i):sC l lo=0:=by grind [join_0,bF]
theorem apx{l:List au}:P2 l n=0↔rU l n 5 1>4:=by
 have:=@aep l n 5 1
 grind [P2]
theorem IX{l:List au}{x:au}(hn:l.Nodup)(h:l[i]?=some x):bM (cD x.n x.l) l 0=(i:Int):=by
 rcases Q1 (p:=cD x.n x.l) (k:=0) with ⟨_,h2⟩| ⟨j,y,h1,h2,h3⟩
 .have:=h2 x (zL h);rw[th.2 rfl] at this;grind
 rw[th.1 h2] at h1;have:=XK hn h h1;omega
def Jj{l:List au}(ha:l.Pairwise mL){a:Int}(h1:bM (cD a b) l 0>=0)(h2:bM (cD e f) l 0>=0):qK ⟨e,f⟩ ⟨a,b⟩=decide (bM (cD e f) l 0 <bM (cD a b) l 0):=by
 obtain⟨i,hi⟩:=dV (Ih h1);obtain⟨j,hj⟩:=dV (Ih h2);have e1:bM (cD a b) l 0=i:=IX (yC ha) hi;have e2:bM (cD e f) l 0=j:=IX (yC ha) hj;rw[GD,Jk,aC,e1,e2];constructor
 .intro h;by_cases Og:j <i
  .omega
  by_cases HK:i <j
  .have:=wD ha HK hi hj;simp only[mL] at*;omega
  have:i=j:=by omega
  subst this;rw[hi] at hj;cases hj;simp only[mL] at h;omega
 intro h;exact wD ha (by omega) hj hi
def aOE{v:Value}{S:List (List au)}{k s a:Int}(hS:bH ro v S)(hO:cq S)(hc:n9 S ⟨k,s,o,a,b,e,f⟩)(eA:Gk ⟨k,s,o,a,b,e,f⟩=0):iI zT 323 [.agg ⟨[v]⟩,.agg ⟨[zI k,zI s,zI o,zI a,zI b,zI e,zI f]⟩] ro (zI (iO S ⟨k,s,o,a,b,e,f⟩)):=by
 obtain⟨ws,ht,dY⟩:=hS;obtain⟨fZ,xg,xe,eR,rfl,xf,ou,oh⟩:=ht;have Ar:=dY.len;have nI:=hO.two;obtain⟨Ol,QA,Eh,Uk,hcf,hct⟩:=hc;dsimp only at Ol QA Eh Uk hcf hct;have hnn:¬((k=4\/k=7)/\o=s):=λh=>by rw[E7 h.1 h.2] at eA;exact absurd eA (by decide)
 refine zE<|zD 2<|jn λb2=>jn λb3=>jd 8 [1,0] ?_;obtain⟨AH,uL⟩:=zG ws (s.toNat);refine Yj s eR 1 ou uL (by omega) ?_;obtain⟨Dj,Ca,C9⟩:=dY.get uL;obtain bfM:=hO.len _ (zL Ca);obtain beI:=hO.ok _ (zL Ca);obtain aeH:=hO.Sk _ (zL Ca);obtain⟨Ic,adW,adU,GR,rfl,adV,ZC,ZB⟩:=C9;refine jl 0 (oh _ _ uL)<|jd 14 [0]<|zJ 16 (k=4) (λh1=>?_) λh1=>?_
 ·
  refine jd 7 [1,0] ?_;obtain⟨Nm,jL⟩:=zG ws (o.toNat);refine Yj o eR 1 ou jL (by omega) ?_;obtain⟨SI,IC,WZ⟩:=dY.get jL;obtain aHG:=hO.len _ (zL IC);obtain axQ:=hO.ok _ (zL IC);obtain bez:=hO.Sk _ (zL IC);obtain⟨yT,Nv,Nr,yS,rfl,Nt,Nu,Ns⟩:=WZ;refine jl 0 (oh _ _ jL)<|zD 9<|zW ((Dj.length:Int)+(SI.length:Int))<|zD 2<|zJ 29 (((Dj.length:Int)+(SI.length:Int))>8) (λh2=>?_) λh2=>?_
  ·
   refine zD 6 ?_;obtain rfl:k=4:=by omega
   exact zX (zI 6) ⟨by rw[ayP (by omega) Ca IC];rw[join_6 (by omega)],rfl⟩
  refine zD 7<|iz [1,1,0,1,0,1,0,1,1,1,0,0] [] (λ(zz:Nat)=>[(5,.slice Ic Dj.length GR),(6,.slice yT SI.length yS),(7,zI (zz:Int))]) (λzz=>[zxc b3 100 [zI k,zI s,zI o,zI a,zI b,zI e,zI f],zxc b2 24 [.slice fZ ws.length eR]]) (λzz=>zz<=Dj.length/\∀x∈Dj.take zz,¬x.n+gW SI>40) (λzz=>Dj.length-zz) 0 ⟨bQ _,λ_ h=>by simp at h⟩ [0,1] ?_;rintro i hI K1 cU rest;refine zD 8<|zJ 33 ((i:Int) <(Dj.length:Int)) (λh3=>?_) λh3=>?_
  ·
   refine zD 5 ?_;have brl:=DG axQ;refine zD 3<|zxs Dj i GR 2 ZC λx38 Ha=>zD 1<|jl 0 (ZB _ _ Ha)<|zD 1<|zxp [.slice yT SI.length yS] (λhs=>aAL ((show dk _ _ _ _ _ from ⟨yT,Nv,Nr,yS,rfl,Nt,Nu,Ns⟩).up hs) (by omega) bez axQ)<|ja (x38.n+(gW SI)) (by have:=(beI _ (zL Ha)).1;have:=DG axQ;have:=raise_0 axQ;omega) ?_;refine zD 2<|zJ 44 ((x38.n+(gW SI))>40) (λh4=>?_) λh4=>?_
   ·
    refine zD 6 ?_;obtain rfl:k=4:=by omega
    exact zX (zI 1) ⟨by rw[ayP (by omega) Ca IC];rw[join_1 (by omega) (zL Ha) (by omega)],rfl⟩
   refine zD 4<|zW ((i:Int)+1)<|zD 2<|zY cU (i+1) ⟨by omega,Jl hI.2 Ha (by omega)⟩ [0,1]
  refine zD 7 ?_;obtain rfl:k=4:=by omega
  exact zX (zI 0) ⟨by rw[ayP (by omega) Ca IC];rw[axB (by omega) hI.2 (by omega)],rfl⟩
 refine zD 6<|zJ 45 (k=5) (λh5=>?_) λh5=>?_
 ·
  refine jd 7 [0]<|zxp [.slice Ic Dj.length GR,.agg ⟨[zI a,zI b]⟩] (λhs=>DI ((show dk _ _ _ _ _ from ⟨Ic,adW,adU,GR,rfl,adV,ZC,ZB⟩).up hs) (by omega))<|zD 2<|zJ 51 ((bM (cD a b) Dj 0) <0) (λh6=>?_) λh6=>?_
  ·
   refine zD 6 ?_;obtain rfl:k=5:=by omega
   exact zX (zI 3) ⟨by rw[ata Ca];rw[div_3 (by simp;omega)],rfl⟩
  refine zD 8<|js 55 (decide ((Dj.length:Int)=8)) (λh7=>?_) (λh7=>?_)
  ·
   have h7g:=h7;replace h7g:=ah h7g;exfalso;omega
  have h7g:=h7;replace h7g:=af h7g;refine jd 4 [0]<|zxp [.slice Ic Dj.length GR,zI a] (λhs=>agW ((show dk _ _ _ _ _ from ⟨Ic,adW,adU,GR,rfl,adV,ZC,ZB⟩).up hs) (by omega))<|zD 3<|zJ 62 ((P2 Dj a)=0) (λh8=>?_) λh8=>?_
  ·
   refine zD 6 ?_;obtain rfl:k=5:=by omega
   exact zX (zI 6) ⟨by rw[ata Ca];rw[div_6 (by simp;omega) (apx.1 (by simp_all))],rfl⟩
  refine zD 7 ?_;obtain rfl:k=5:=by omega
  exact zX (zI 0) ⟨by rw[ata Ca];rw[div_0 (by simp;omega) (λh=>by have:=apx.2 h;simp_all)],rfl⟩
 refine zD 6<|zJ 63 (k=6) (λh9=>?_) λh9=>?_
 ·
  refine jd 6 [0]<|zxp [.slice Ic Dj.length GR,.agg ⟨[zI a,zI b]⟩] (λhs=>DI ((show dk _ _ _ _ _ from ⟨Ic,adW,adU,GR,rfl,adV,ZC,ZB⟩).up hs) (by omega))<|zD 2<|zJ 69 ((bM (cD a b) Dj 0) <0) (λwq=>?_) λwq=>?_
  ·
   refine zD 6 ?_;obtain rfl:k=6:=by omega
   exact zX (zI 3) ⟨by rw[aU5 Ca];rw[afA (by simp;omega)],rfl⟩
  refine zD 7 ?_;obtain rfl:k=6:=by omega
  exact zX (zI 0) ⟨by rw[aU5 Ca];rw[asK (by simp;omega)],rfl⟩
 refine zD 6<|zJ 70 (k=7) (λyX=>?_) λyX=>?_
 ·
  refine zD 3 ?_;obtain⟨lo,qP⟩:∃l,S[o.toNat]?=some l:=⟨_,ai (by omega)⟩;refine jd 4 [0]<|zxp [.slice Ic Dj.length GR,.agg ⟨[zI a,zI b]⟩] (λhs=>DI ((show dk _ _ _ _ _ from ⟨Ic,adW,adU,GR,rfl,adV,ZC,ZB⟩).up hs) (by omega))<|zD 2<|js 77 (decide ((bM (cD a b) Dj 0) <0)) (λYu=>?_) (λYu=>?_)
  ·
   have asi:=Yu;replace asi:=ah asi;refine zD 13 ?_;obtain rfl:k=7:=by omega
   exact zX (zI 3) ⟨by rw[akK (by omega) Ca qP];rw[I8 (by omega)],rfl⟩
  have asi:=Yu;replace asi:=af asi;refine jd 3 [0]<|zxp [.slice Ic Dj.length GR,.agg ⟨[zI e,zI f]⟩] (λhs=>DI ((show dk _ _ _ _ _ from ⟨Ic,adW,adU,GR,rfl,adV,ZC,ZB⟩).up hs) (by omega))<|zD 3<|zJ 83 ((bM (cD e f) Dj 0) <0) (λC9=>?_) λC9=>?_
  ·
   refine zD 6 ?_;obtain rfl:k=7:=by omega
   exact zX (zI 3) ⟨by rw[akK (by omega) Ca qP];rw[I7 (by omega) (by omega)],rfl⟩
  refine jd 9 [0,0]<|zxp [.agg ⟨[zI e,zI f]⟩,.agg ⟨[zI a,zI b]⟩] (λhs=>(Ia (x:=⟨e,f⟩) (y:=⟨a,b⟩)))<|zD 1<|js 88 (qK ⟨e,f⟩ ⟨a,b⟩) (λh14=>?_) (λh14=>?_)
  ·
   refine zD 6 ?_;obtain rfl:k=7:=by omega
   have hb:=Jj aeH (show bM (cD a b) Dj 0>=0 by omega) (show bM (cD e f) Dj 0>=0 by omega);exact zX (zI 5) ⟨by rw[akK (by omega) Ca qP];rw[I6 (by omega) (by omega) (by simp_all)],rfl⟩
  refine jd 8 [1,0] ?_;obtain⟨x93,Wo⟩:=zG ws (o.toNat);refine Yj o eR 1 ou Wo (by omega) ?_;obtain⟨l94,aS2,h94⟩:=dY.get Wo;obtain brF:=hO.len _ (zL aS2);obtain aTq:l94=lo:=aK (aS2.symm.trans qP);obtain⟨bpC,bpB,bpw,bpA,rfl,bpy,bpz,bpx⟩:=h94;refine jl 0 (oh _ _ Wo)<|zD 3<|zJ 96 ((l94.length:Int)>0) (λNN=>?_) λNN=>?_
  ·
   refine zD 6 ?_;obtain rfl:k=7:=by omega
   have hb:=Jj aeH (show bM (cD a b) Dj 0>=0 by omega) (show bM (cD e f) Dj 0>=0 by omega);have hbn:¬bM (cD e f) Dj 0 <bM (cD a b) Dj 0:=by simp_all
   exact zX (zI 12) ⟨by rw[akK (by omega) Ca qP];rw[I5 (by omega) (by omega) hbn (by rw[<-aTq];omega)],rfl⟩
  refine zD 7 ?_;obtain rfl:k=7:=by omega
  have hb:=Jj aeH (show bM (cD a b) Dj 0>=0 by omega) (show bM (cD e f) Dj 0>=0 by omega);have hbn:¬bM (cD e f) Dj 0 <bM (cD a b) Dj 0:=by simp_all
  exact zX (zI 0) ⟨by rw[akK (by omega) Ca qP];rw[court_0 (by omega) (by omega) hbn (by rw[<-aTq];omega)],rfl⟩
 refine zD 7<|zX (zI 0) ⟨by rw[biK (by omega)],rfl⟩
def aUW(a0:Int)(a1:Int)(a2:Int)(a3:Int)(a4:Int)(a5:Int)(a6:Int)(b0:Int)(b1:Int)(b2:Int)(b3:Int)(b4:Int)(b5:Int)(b6:Int):EqV zT 100 (.agg ⟨[zI a0,zI a1,zI a2,zI a3,zI a4,zI a5,zI a6]⟩) (.agg ⟨[zI b0,zI b1,zI b2,zI b3,zI b4,zI b5,zI b6]⟩) (a0==b0&&(a1==b1&&(a2==b2&&((a3==b3&&(a4==b4&&true))&&((a5==b5&&(a6==b6&&true))&&(true)))))):=
 afF (Cg (q6 Tryz.typeInfo100 Tryz.underlying100 rfl rfl rfl rfl rfl rfl) Tryz.stoodInHeld100 (.cons (by decide) (oI rN rfl) (oI rN rfl) (tE rN _ _) (.cons (by simp) (oI rN rfl) (oI rN rfl) (tE rN _ _) (.cons (by decide) (oI rN rfl) (oI rN rfl) (tE rN _ _) (.cons (by decide) (BP (q6 Tryz.typeInfo39 Tryz.underlying39 rfl rfl rfl rfl rfl rfl) rfl) (BP (q6 Tryz.typeInfo39 Tryz.underlying39 rfl rfl rfl rfl rfl rfl) rfl) (abM _ _ _ _ _) (.cons (by decide) (BP (q6 Tryz.typeInfo39 Tryz.underlying39 rfl rfl rfl rfl rfl rfl) rfl) (BP (q6 Tryz.typeInfo39 Tryz.underlying39 rfl rfl rfl rfl rfl rfl) rfl) (abM _ _ _ _ _) .nil))))))
def bc7:Cs zT 100:=Tryz.eqGuardType100
theorem as9{S:List (List au)}{c:aT}(h:¬Gk c=0):iO S c=Gk c:=by
 grind [E7,iO,absurd,qD]
def bbO{v:Value}{S:List (List au)}{k s a:Int}(hS:bH ro v S)(hO:cq S)(hc:n9 S ⟨k,s,o,a,b,e,f⟩):eT zT 292 [.agg ⟨[v]⟩,.agg ⟨[zI k,zI s,zI o,zI a,zI b,zI e,zI f]⟩] ro [] (λr Y=>r= zI (iO S ⟨k,s,o,a,b,e,f⟩)/\Y=[]):=by
 have nP:=hS;obtain⟨ws,ht,dY⟩:=hS;obtain⟨fZ,xg,xe,eR,rfl,xf,ou,oh⟩:=ht;have Ar:=dY.len;have nI:=hO.two;refine zE<|zD 2<|jn λb2=>jn λb3=>jd 6 [1,0]<|jc (vs:=[.agg ⟨[.slice fZ ws.length eR]⟩,.agg ⟨[zI k,zI s,zI o,zI a,zI b,zI e,zI f]⟩]) [] (aES nP hO hc) ?_;rintro _ _ ⟨x,rfl,hx,rfl⟩;refine jg 0 []<|zD 3<|jn λb6=>jd 9 [0]<|js 14 (!decide ((Gk ⟨k,s,o,a,b,e,f⟩)=0)) (λh1=>?_) (λh1=>?_)
 ·
  refine zD 7<|zX _ ⟨by rw[as9 (by simp_all)],rfl⟩
 refine zD 4 ?_;have hn0:Gk ⟨k,s,o,a,b,e,f⟩=0:=by simp_all
 obtain rfl:=hx hn0;refine jg 0 [zxc b6 100 [zI k,zI s,zI o,zI a,zI b,zI e,zI f]]<|jd 3 [1,0]<|jne bc7 (aUW k s o a b e f k s o a b e f)<|zD 1<|js 18 (!(k==k&&(s==s&&(o==o&&((a==a&&(b==b&&true))&&((e==e&&(f==f&&true))&&(true))))))) (λh2=>?_) (λh2=>?_)
 ·
  try simp only[zB] at h2
  exfalso;simp_all
 try simp only[zB] at h2
 refine jd 6 [2,1]<|zxp [.agg ⟨[.slice fZ ws.length eR]⟩,.agg ⟨[zI k,zI s,zI o,zI a,zI b,zI e,zI f]⟩] (λhs=>aOE (nP.up hs) hO hc hn0)<|zD 3<|zX _ ⟨rfl,rfl⟩
def rj(l:List au)(x:au):List au:=l.filter λz=>mM z.n==mM x.n
theorem ZS{l:List au}{x:au}:rj l x∈pW l/\rj l x=vL l (if mM x.n=true then 0 else 1):=by
 cases h:mM x.n with
 |true=>
  grind [rj,mM,List.filter_congr,pW,vL]
 |false=>
  grind [rj,Da,List.filter_congr,Z1,pW,vL]
def ad0{l:List au}{x:au}(hn:l.Nodup)(hx:x∈l):∃i:Nat,(rj l x)[i]?=some x/\bM (cD x.n x.l) (rj l x) 0=(i:Int):=by
 obtain⟨i,hi⟩:=dV (show x∈rj l x from cQ.2 ⟨hx,by simp⟩);exact⟨i,hi,IX (hn.filter _) hi⟩
section
variable {S:List (List au)} {s o:Nat} {l lo:List au} {x:au} {q a b e f:Int} (hO:cq S) (hl:S[s]?=some l) (hx:x∈l)
include hO hl hx
theorem to1{y:au}(hy:(rj l x)[(((rj l x).length:Int)-1-bM (cD x.n x.l) (rj l x) 0).toNat]?=some y):gk S ⟨1,s,q,a,b,e,f⟩ (eV s x)=[eV s y]:=by
 obtain⟨i,h1,h2⟩:=ad0 (yC (hO.Sk l (zL hl))) hx;rw[h2] at hy;have hm:=zL (agN (s:=(s:Int)) h1 hy);have h3:(eV (s:Int) x,[eV (s:Int) y])∈Mo (s:Int) l:=fG.2 ⟨_,ZS.1,hm⟩;have:=MW (agw hO hl).key h3;simpa [gk,yA,uC hl] using this
theorem to2:gk S ⟨2,s,q,a,b,e,f⟩ (eV s x)=[⟨s,if mM x.n=true then x.n+1 else x.n-1,x.l⟩]:=by
 have:=MW (agF hO hl).key (cY hx)
 grind [gk,yA,uC]
theorem to3:gk S ⟨3,s,q,a,b,e,f⟩ (eV s x)=[⟨s,2*bM (cD x.n x.l) (rj l x) 0+2-Int.tmod x.n 2,0⟩]:=by
 obtain⟨i,h1,h2⟩:=ad0 (yC (hO.Sk l (zL hl))) hx;rw[ZS.2] at h1;have hp:=(hO.ok l (zL hl) x hx).1.1;have hm:=zL (UK (s:=(s:Int)) h1);have h3:=MW (abW hO hl).key (fG.2 ⟨_,dZ.2 (by split<;>omega),hm⟩)
 grind [mM,Int.tmod,JZ,gk,yA,uC]
theorem to4(ho:S[o]?=some lo) (he:sC l lo=0):gk S ⟨4,s,o,a,b,e,f⟩ (eV s x)=[⟨o,x.n+gW lo,x.l⟩]:=by
 have:=MW (ahx hO hl ho he).key (cY hx)
 grind [gk,yA,uC]
theorem to5(he:Ex l a b=0):gk S ⟨5,s,q,a,b,e,f⟩ (eV s x)=if cD a b x=true then [eV s x,⟨s,x.n,P2 l x.n⟩] else [eV s x]:=by
 have hk:=(ate hO hl he).key;have e1:gk S ⟨5,s,q,a,b,e,f⟩ (eV s x)=gU (Ls (s:Int) l a b) (eV s x):=by simp[gk,yA,uC hl]
 rw[e1];split
 .rename_i h;obtain rfl:=th.1 h;have hle:¬rU l a 5 1>4:=λh=>by
   grind [bM,cD,div_3,div_6]
  rw[P2,cy hle];exact MW (p:=(eV (s:Int) ⟨a,b⟩,_)) hk (aU.2 rfl)
 rename_i h;refine QP λhm=>h ?_;simp only[Ls,bR,lR,aU] at hm;exact th.2 (PD hm)
theorem to6:gk S ⟨6,s,q,a,b,e,f⟩ (eV s x)=if cD a b x=true then [] else [eV s x]:=by
 have e1:gk S ⟨6,s,q,a,b,e,f⟩ (eV s x)=gU [((⟨s,a,b⟩:ak),([]:List ak))] (eV s x):=by simp[gk,yA]
 rw[e1];split
 .rename_i h;obtain rfl:=th.1 h;exact MW (by simp) (aU.2 rfl)
 rename_i h;refine QP λhm=>h ?_;simp only[bR,lR,aU] at hm;exact th.2 (PD hm)
theorem to7(ho:S[o]?=some []) (h1:bM (cD a b) l 0>=0) (h2:bM (cD e f) l 0>=0):gk S ⟨7,s,o,a,b,e,f⟩ (eV s x)=if (!qK x ⟨a,b⟩&& !qK ⟨e,f⟩ x)=true then [⟨o,bM (cD x.n x.l) l 0-bM (cD a b) l 0+1,0⟩] else [eV s x]:=by
 have ha:=hO.Sk l (zL hl);have hn:=yC ha;obtain⟨i,hi⟩:=dV hx;have e0:bM (cD x.n x.l) l 0=i:=IX hn hi;have HJ:bM (cD x.n x.l) l 0>=0:=by omega
 have b1:=Jj ha (a:=a) (b:=b) (e:=x.n) (f:=x.l) h1 HJ;have b2:=Jj ha (a:=x.n) (b:=x.l) (e:=e) (f:=f) HJ h2;rw[show (⟨x.n,x.l⟩:au)=x from rfl] at b1 b2;rw[b1,b2,e0];have e1:gk S ⟨7,s,o,a,b,e,f⟩ (eV s x)=gU (r5 (s:Int) (o:Int) (FO l (bM (cD a b) l 0) (bM (cD e f) l 0))) (eV s x):=by simp[gk,yA,uC hl]
 rw[e1];have hk:=(abV (a:=bM (cD a b) l 0) (b:=bM (cD e f) l 0) hO hl ho).key;obtain⟨A,hA⟩:=dR h1;obtain⟨B,hB⟩:=dR h2;rw[hA,hB] at hk ⊢;have lO:∀j:Nat,(FO l (A:Int) (B:Int))[j]?=if A+j <B+1 then l[A+j]? else none:=λj=>by
  simp only[FO,List.getElem?_drop,Int.toNat_natCast,show ((B:Int)+1).toNat=B+1 by omega,List.getElem?_take]
 simp only[av,az,ar];split
 .rename_i h;have hj:(FO l (A:Int) (B:Int))[i-A]?=some x:=by rw[lO,dN (by omega),show A+(i-A)=i by omega];exact hi
  have:=MW hk (zL (UJ (s:=(s:Int)) (o:=(o:Int)) hj));rw[this,show ((i-A:Nat):Int)+1=(i:Int)-(A:Int)+1 by omega]
 rename_i h;refine QP λhm=>h ?_;simp only[r5,qU,a8,Function.comp] at hm;obtain⟨q,hq,e2⟩:=hm;have h3:=U4 hq;rw[PD e2,lO] at h3;split at h3
 .have:=XK hn hi h3;omega
 cases h3
end
theorem ajJ{S:List (List au)}{c:aT}{s:Nat}{p:au}(hc:n9 S c)(h:(s:Int)≠c.st):gk S c (eV s p)=[eV s p]:=by
 refine QP λhm=>h ?_;obtain⟨k,st,ot,fn,fl,tn,tl⟩:=c;obtain⟨q,hq,e⟩:=a8.1 hm;have e':q.1.h=(s:Int):=by rw[e];rfl
 dsimp only at*;rw[<-e'];have hk:=hc.k;dsimp only at hk;have mA:k=1\/k=2\/k=3\/k=4\/k=5\/k=6\/k=7:=by omega
 rcases mA with rfl|rfl|rfl|rfl|rfl|rfl|rfl<;>simp only[yA] at hq
 .simp[Mo,H6] at hq;obtain⟨_,_,_,_,_,rfl⟩:=hq;rfl
 .simp[Gf] at hq;obtain⟨_,_,rfl⟩:=hq;rfl
 .simp[Ez,uZ,EB] at hq;obtain⟨_,_,_,_,_,rfl⟩:=hq;rfl
 .simp[Ix] at hq;obtain⟨_,_,rfl⟩:=hq;rfl
 .simp[Ls] at hq;rw[hq]
 .simp at hq;rw[hq]
 simp[r5] at hq;obtain⟨_,_,_,rfl⟩:=hq;rfl
theorem aU4{S:List (List au)}{s o:Nat}{l lo:List au}{a:Int}(hl:S[s]?=some l) (ho:S[o]?=some lo) (h:iO S ⟨4,s,o,a,b,e,f⟩=0):sC l lo=0:=by
 grind [iO,ayP,lo]
def aCq{S:List (List au)}{s o:Nat}{l:List au}{a:Int}(hl:S[s]?=some l) (ho:o <S.length) (h:iO S ⟨7,s,o,a,b,e,f⟩=0):S[o]?=some []/\bM (cD a b) l 0>=0/\bM (cD e f) l 0>=0:=by
 by_cases eA:(o:Int)=s
 .simp[iO,eA] at h
 obtain⟨lo,qP⟩:∃l,S[o]?=some l:=⟨_,ai ho⟩;rw[akK (lo:=lo) eA (by simpa using hl) (by simpa using qP)] at h;by_cases h1:bM (cD a b) l 0 <0
 .rw[I8 h1] at h;cases h
 by_cases h2:bM (cD e f) l 0 <0
 .rw[I7 h1 h2] at h;cases h
 by_cases h3:bM (cD e f) l 0 <bM (cD a b) l 0
 .rw[I6 h1 h2 h3] at h;cases h
 by_cases h4:lo.length>0
 .rw[I5 h1 h2 h3 h4] at h;cases h
 rw[qP,kQ (show lo.length=0 by omega)];exact⟨rfl,by omega,by omega⟩
theorem VT(h:1<=n):mM n=decide (Int.tmod n 2=1):=by rcases JZ h with ⟨h1,h2⟩| ⟨h1,h2⟩<;>rw[h1,h2]<;>rfl
def Xj{p:α->Bool}:∀ {l:List α} {k:Nat},-1<=bM p l k
 | [],_=>Int.le_refl _
 |x::l,k=>by
  simp only[bM];cases p x with
  |true=>simp only[cG];omega
  |false=>exact Xj
def rTo{v:Value}{S:List (List au)}{k a:Int}{s o:Nat}{x:au}{l:List au}(hS:bH ro v S)(hO:cq S)(hc:n9 S ⟨k,s,o,a,b,e,f⟩)(he:iO S ⟨k,s,o,a,b,e,f⟩=0)(hl:S[s]?=some l) (hx:x∈l):eT zT 342 [.agg ⟨[v]⟩,.agg ⟨[zI k,zI (s:Int),zI (o:Int),zI a,zI b,zI e,zI f]⟩,.agg ⟨[zI x.n,zI x.l]⟩] ro [] (λr Y=>bI r 3 41 bO (gk S ⟨k,s,o,a,b,e,f⟩ (eV s x)) Y):=by
 obtain⟨ws,ht,dY⟩:=hS;obtain⟨fZ,xg,xe,eR,rfl,xf,ou,oh⟩:=ht;have Ar:=dY.len;have nI:=hO.two;obtain⟨Ol,QA,Eh,Uk,hcf,hct⟩:=hc;dsimp only at Ol QA Eh Uk hcf hct;have hpx:=hO.ok l (zL hl) x hx;have brn:=hpx.1;have Ee:=hO.len l (zL hl);have Uc:(rj l x).length<=l.length:=List.length_filter_le _ _;obtain⟨oi,vJ,hof⟩:=ad0 (yC (hO.Sk l (zL hl))) hx;have brt:=(List.getElem?_eq_some_iff.1 vJ).1;have htm:=Int.tmod_lt_of_pos x.n (show (0:Int) <2 by decide);have htn:=Int.tmod_nonneg 2 (show 0<=x.n by omega);have Bx:=(List.getElem?_eq_some_iff.1 hl).1;refine zE<|zD 2<|jn λb3=>jn λb4=>jn λb5=>jd 8 [2,1]<|zxs ws s eR 1 ou (λFL KD=>?_);obtain⟨l16,aeU,h16⟩:=dY.get KD;obtain bfL:=hO.len _ (zL aeU);obtain beG:=hO.ok _ (zL aeU);obtain aj3:=hO.Sk _ (zL aeU);obtain abd:l16=l:=Option.some.inj (aeU.symm.trans hl);obtain⟨Ny,ajr,ajn,Nw,rfl,ajp,ajq,ajo⟩:=h16;refine jl 0 (oh _ _ KD)<|jd 9 [0]<|jc (vs:=[.slice Ny l16.length Nw,.bool (decide ((Int.tmod x.n 2)=1))]) [] (avS (show dk _ _ _ _ _ from ⟨Ny,ajr,ajn,Nw,rfl,ajp,ajq,ajo⟩) (by omega) beG) ?_;rintro v22 L22 NF;rw[show (l16.filter λz=>mM z.n==decide (Int.tmod x.n 2=1))=rj l x from by rw[abd,<-VT hpx.1.1];rfl] at NF;obtain⟨ade,YP,ae0⟩:=NF.form;subst ae0;refine jd 6 [1]<|jp (vs:=[(.slice ade (rj l x).length YP),.agg ⟨[zI x.n,zI x.l]⟩]) [0] L22 (λcK hs hZ=>DI (NF.ju hZ) (by omega))<|jd 8 [2,1]<|jn λCH=>jd 14 [0,3]<|zJ 32 (k=1) (λh1=>?_) λh1=>?_
 ·
  refine zD 5<|zW (((rj l x).length:Int)-1)<|zD 1<|zW ((((rj l x).length:Int)-1)-(bM (cD x.n x.l) (rj l x) 0)) ?_;obtain⟨x40,aeE⟩:=zG ((rj l x)) (((((rj l x).length:Int)-1-bM (cD x.n x.l) (rj l x) 0)).toNat) (by first|omega| (simp only[aM,zM];omega));refine Iw ((((rj l x).length:Int)-1)-(bM (cD x.n x.l) (rj l x) 0)) 2 NF aeE (by omega) λb40 bhc=>yL 0 [1] L22 (λs _ hZ=>kN NF bhc hZ aeE)<|jd 6 [0,0]<|jn λsg=>zD 3 ?_;obtain rfl:k=1:=by omega
  exact zR _ [] [0] _ (by rw[to1 hO hl hx aeE];exact gR (b:=sg) (T:=41) [(⟨s,x40.n,x40.l⟩:ak)] rfl (λ_ _=>rfl))
 refine zD 6<|zJ 43 (k=2) (λh2=>?_) λh2=>?_
 ·
  refine jd 8 [2]<|zJ 48 ((Int.tmod x.n 2)=1) (λh3=>?_) λh3=>?_
  ·
   refine jd 5 [0]<|zW (x.n+1)<|jd 7 [0,0]<|jn λsg=>zD 3 ?_;obtain rfl:k=2:=by omega
   have hod:mM x.n=true:=by rw[VT hpx.1.1];exact cN (by omega)
   exact zR _ [] [0] _ (by rw[to2 hO hl hx,hod];exact gR (b:=sg) (T:=41) [(⟨s,x.n+1,x.l⟩:ak)] rfl (λ_ _=>rfl))
  refine jd 5 [0]<|zW (x.n-1)<|jd 7 [0,0]<|jn λsg=>zD 3 ?_;obtain rfl:k=2:=by omega
  have hod:mM x.n=false:=by rw[VT hpx.1.1];exact cX (by omega)
  exact zR _ [] [0] _ (by rw[to2 hO hl hx,hod];exact gR (b:=sg) (T:=41) [(⟨s,x.n-1,x.l⟩:ak)] rfl (λ_ _=>rfl))
 refine zD 6<|zJ 61 (k=3) (λh4=>?_) λh4=>?_
 ·
  refine zD 3<|zW (2*(bM (cD x.n x.l) (rj l x) 0))<|zW ((2*(bM (cD x.n x.l) (rj l x) 0))+2)<|jd 3 [2]<|zW (((2*(bM (cD x.n x.l) (rj l x) 0))+2)-(Int.tmod x.n 2))<|jd 7 [0,0]<|jn λsg=>zD 3 ?_;obtain rfl:k=3:=by omega
  exact zR _ [] [0] _ (by rw[to3 hO hl hx];exact gR (b:=sg) (T:=41) [(⟨s,2*bM (cD x.n x.l) (rj l x) 0+2-Int.tmod x.n 2,0⟩:ak)] rfl (λ_ _=>rfl))
 refine zD 6<|zJ 72 (k=4) (λh5=>?_) λh5=>?_
 ·
  refine jd 15 [3,0,2,4,3]<|zxs ws o eR 1 ou (λx83 aGF=>?_);obtain⟨l84,aqP,h84⟩:=dY.get aGF;obtain brG:=hO.len _ (zL aqP);obtain aR3:=hO.ok _ (zL aqP);obtain beu:=hO.Sk _ (zL aqP);obtain⟨aPb,bcb,bb7,aPa,rfl,bb9,bca,bb8⟩:=h84;refine jl 0 (oh _ _ aGF)<|zxp [.slice aPb l84.length aPa] (λhs=>aAL ((show dk _ _ _ _ _ from ⟨aPb,bcb,bb7,aPa,rfl,bb9,bca,bb8⟩).up hs) (by omega) beu aR3)<|ja (x.n+(gW l84)) (by have:=DG aR3;omega) ?_;refine zD 2<|zxo 12 λuk=>jd 1 [0]<|ee uk []<|jd 4 [0]<|jn λsg=>zD 3 ?_;obtain rfl:k=4:=by omega
  exact zR _ [] [0] _ (by rw[to4 hO hl hx aqP (aU4 hl aqP he)];exact gR (b:=sg) (T:=41) [(⟨o,x.n+gW l84,x.l⟩:ak)] rfl (λ_ _=>rfl))
 refine zD 6<|zJ 89 (k=5) (λh7=>?_) λh7=>?_
 ·
  refine jd 6 [2,3]<|jeq GY (yz x.n x.l a b)<|zD 1<|js 94 (x.n==a&&(x.l==b&&true)) (λh8=>?_) (λh8=>?_)
  ·
   refine jd 11 [0,3,2,2]<|zxp [.slice Ny l16.length Nw,zI x.n] (λhs=>(show iI _ _ _ _ (zI (P2 l x.n)) from by rw[<-abd];exact agW ((show dk _ _ _ _ _ from ⟨Ny,ajr,ajn,Nw,rfl,ajp,ajq,ajo⟩).up hs) (by omega))) ?_;refine zD 2<|zxo 11 λC7=>jn λaKz=>eH C7 (zN 1 5)<|zD 3 ?_;obtain rfl:k=5:=by omega
   exact zR _ [] [0] _ (by rw[to5 hO hl hx (by have:=he;rw[ata (l:=l) (by simpa using hl)] at this;exact this),dN (by rw[<-Kk];assumption)];exact gR (b:=aKz) (T:=41) [(⟨s,x.n,x.l⟩:ak),(⟨s,x.n,P2 l x.n⟩:ak)] rfl (λ_ _=>rfl))
  refine jd 5 [0]<|jn λsg=>zD 3 ?_;obtain rfl:k=5:=by omega
  exact zR _ [] [0] _ (by rw[to5 hO hl hx (by have:=he;rw[ata (l:=l) (by simpa using hl)] at this;exact this),cy (by rw[<-Kk];simp_all)];exact gR (b:=sg) (T:=41) [(⟨s,x.n,x.l⟩:ak)] rfl (λ_ _=>rfl))
 refine zD 6<|zJ 107 (k=6) (λwq=>?_) λwq=>?_
 ·
  refine jd 6 [2,3]<|jeq GY (yz x.n x.l a b)<|zD 1<|js 112 (x.n==a&&(x.l==b&&true)) (λyX=>?_) (λyX=>?_)
  ·
   refine zD 6 ?_;obtain rfl:k=6:=by omega
   exact zX _ (by rw[to6 hO hl hx,dN (by rw[<-Kk];assumption)];exact bI.nil _ _ _)
  refine jd 5 [0]<|jn λsg=>zD 3 ?_;obtain rfl:k=6:=by omega
  exact zR _ [] [0] _ (by rw[to6 hO hl hx,cy (by rw[<-Kk];simp_all)];exact gR (b:=sg) (T:=41) [(⟨s,x.n,x.l⟩:ak)] rfl (λ_ _=>rfl))
 refine zD 6<|zJ 113 (k=7) (λYu=>?_) λYu=>?_
 ·
  refine jd 6 [2,3]<|zxp [.agg ⟨[zI x.n,zI x.l]⟩,.agg ⟨[zI a,zI b]⟩] (λhs=>(Ia (x:=⟨x.n,x.l⟩) (y:=⟨a,b⟩)))<|zD 2<|jj 6 [(4,zP b4),(5,zP b5),(6,zS),(7,.slice Ny l16.length Nw),(10,zP CH),(126,.bool ((!(qK ⟨x.n,x.l⟩ ⟨a,b⟩))&&(!(qK ⟨e,f⟩ ⟨x.n,x.l⟩))))] (λoX=>?_) (λhj=>?_);rotate_left;refine js 120 (!(qK ⟨x.n,x.l⟩ ⟨a,b⟩)) (λC9=>?_) (λC9=>?_)
  ·
   have aJt:=C9
   try simp only[zB] at aJt
   refine jd 3 [3,2]<|zxp [.agg ⟨[zI e,zI f]⟩,.agg ⟨[zI x.n,zI x.l]⟩] (λhs=>(Ia (x:=⟨e,f⟩) (y:=⟨x.n,x.l⟩)))<|zD 2<|zxw 126 hj (zya C9)
  ·
   have aJt:=C9
   try simp only[zB] at aJt
   refine zD 6<|zxw 126 hj (zyb C9)
  refine zD 1<|js 126 ((!(qK ⟨x.n,x.l⟩ ⟨a,b⟩))&&(!(qK ⟨e,f⟩ ⟨x.n,x.l⟩))) (λh14=>?_) (λh14=>?_)
  ·
   refine zD 2 ?_;have Yr:=Xj (p:=cD a b) (l:=l) (k:=0);have Oi:=Xj (p:=cD x.n x.l) (l:=l) (k:=0);have hg3:=IW (p:=cD a b) (l:=l) (k:=0);have hg4:=IW (p:=cD x.n x.l) (l:=l) (k:=0);refine jd 8 [3,2,3]<|zxp [.slice Ny l16.length Nw,.agg ⟨[zI x.n,zI x.l]⟩] (λhs=>(show iI _ _ _ _ (zI (bM (cD x.n x.l) l 0)) from by rw[<-abd];exact DI ((show dk _ _ _ _ _ from ⟨Ny,ajr,ajn,Nw,rfl,ajp,ajq,ajo⟩).up hs) (by omega))) ?_;refine zxp [.slice Ny l16.length Nw,.agg ⟨[zI a,zI b]⟩] (λhs=>(show iI _ _ _ _ (zI (bM (cD a b) l 0)) from by rw[<-abd];exact DI ((show dk _ _ _ _ _ from ⟨Ny,ajr,ajn,Nw,rfl,ajp,ajq,ajo⟩).up hs) (by omega))) ?_;refine zW ((bM (cD x.n x.l) l 0)-(bM (cD a b) l 0))<|zW (((bM (cD x.n x.l) l 0)-(bM (cD a b) l 0))+1)<|zD 2<|zxo 13 λtx=>jn λaKy=>eH tx (zN 1 5)<|zD 3 ?_;obtain rfl:k=7:=by omega
   have hq7:=aCq hl (by omega) he;exact zR _ [] [0] _ (by rw[to7 hO hl hx hq7.1 hq7.2.1 hq7.2.2,dN (by assumption)];exact gR (b:=aKy) (T:=41) [(⟨o,bM (cD x.n x.l) l 0-bM (cD a b) l 0+1,0⟩:ak)] rfl (λ_ _=>rfl))
  refine jd 5 [0]<|jn λsg=>zD 3 ?_;obtain rfl:k=7:=by omega
  have hq7:=aCq hl (by omega) he;exact zR _ [] [0] _ (by rw[to7 hO hl hx hq7.1 hq7.2.1 hq7.2.2,cy (by rw[show (!qK x ⟨a,b⟩&& !qK ⟨e,f⟩ x)=false from by assumption];decide)];exact gR (b:=sg) (T:=41) [(⟨s,x.n,x.l⟩:ak)] rfl (λ_ _=>rfl))
 exfalso;omega
abbrev atc(x:ak×ak):List Value:=[zI x.1.h,zI x.1.n,zI x.1.l,zI x.2.h,zI x.2.n,zI x.2.l]
def Io(S:List (List au))(c:aT)(h:ak):List (ak×ak):=(gk S c h).map λz=>(h,z)
def VY{S:List (List au)}{c:aT}{H:List ak}:(H.flatMap (Io S c)).length=(H.flatMap (gk S c)).length:=by simp[Io]
theorem apa{S:List (List au)}{c:aT}{H:List ak}:(H.flatMap (Io S c)).map (·.2)=H.flatMap (gk S c):=by
 induction H with
 |nil=>rfl
 |cons a H ih=>grind [Io,qU,nk,List.map_id']
def awT{lt:α->α->Bool}(hL:aco lt){l:List α}{k:Nat}{x:α}(h:l.Pairwise λa b=>lt a b=true)(h1:∀y∈l.take k,lt y x=true)(h2:k=l.length\/∃y,l[k]?=some y/\lt x y=true):(l.take k++[x]++l.drop k).Pairwise λa b=>lt a b=true:=by
 have hb:∀y∈l.drop k,lt x y=true:=λy hy=>by
  rcases h2 with rfl| ⟨z,hz,hx⟩
  .simp at hy
  rw[lB hz] at hy;rcases aN.1 hy with rfl|hy
  .exact hx
  exact hL.tr hx ((oS.1 (show (z::l.drop (k+1)).Pairwise _ by rw[<-lB hz];exact h.sublist (List.drop_sublist _ _))).1 y hy)
 rw[bx];refine List.pairwise_append.2 ⟨h.sublist (List.take_sublist _ _),oS.2 ⟨hb,h.sublist (List.drop_sublist _ _)⟩,λa ha b mB=>?_⟩;rcases aN.1 mB with rfl|mB
 .exact h1 a ha
 exact hL.tr (h1 a ha) (hb b mB)
theorem axG{l:List α}{k:Nat}{x z:α}:z∈l.take k++[x]++l.drop k↔z=x\/z∈l:=by
 grind [fH,aU]
def Gz(xs:List ak)(k:Nat)(qs:List ak):Prop:=qs.Pairwise (λa b=>qW a b=true)/\∀z,z∈qs↔z∈xs.take k
theorem Gz.next{xs qs:List ak}{k p:Nat}{x:ak}(hn:xs.Nodup)(h:Gz xs k qs)(hx:xs[k]?=some x) (h1:∀y∈qs.take p,qW y x=true) (h2:p=qs.length\/∃y,qs[p]?=some y/\qW y x=false):Gz xs (k+1) (qs.take p++[x]++qs.drop p):=by
 have Jx:=λhm=>BD hn hx ((h.2 x).1 hm);refine⟨awT Kx h.1 h1 (h2.imp id λ⟨y,hy,hl⟩=>⟨y,hy,(Kx.jD (x:=x) λe=>Jx (e▸zL hy)).resolve_right (by grind)⟩),λz=>?_⟩;rw[axG,h.2 z,c8 hx,bJ,aU,Or.comm]
theorem Gz.fin{xs qs:List ak}{k:Nat}(hn:xs.Nodup)(h:Gz xs k qs)(hk:xs.length<=k):qs=dO qW xs:=
 AR Kx h.1 (w9 Kx hn) λz=>by rw[h.2,bF hk,lU]
def Gz.not{xs qs:List ak}{k p:Nat}{x y:ak}(hn:xs.Nodup)(h:Gz xs k qs)(hx:xs[k]?=some x) (hy:qs[p]?=some y) (e:y=x):False:=BD hn hx ((h.2 x).1 (e▸zL hy))
theorem Gz.len{xs qs:List ak}{k:Nat}(hn:xs.Nodup)(h:Gz xs k qs):qs.length<=xs.length:=by
 have hq:qs.Nodup:=h.1.imp λ{a b} h e=>by have:=Kx.asy h;grind
 have h2:=((List.perm_ext_iff_of_nodup hq (hn.sublist (List.take_sublist k xs))).2 h.2).length_eq
 grind
set_option maxHeartbeats 1000000 in
def anT {v:Value} {S:List (List au)} {k a:Int} {s o:Nat} (hS:bH ro v S) (hO:cq S) (hc:n9 S ⟨k,s,o,a,b,e,f⟩) (he:iO S ⟨k,s,o,a,b,e,f⟩=0):eT zT 324 [.agg ⟨[v]⟩,.agg ⟨[zI k,zI (s:Int),zI (o:Int),zI a,zI b,zI e,zI f]⟩] ro [] (λr Y=>bI r 6 399 atc ((aH S).flatMap (Io S ⟨k,s,o,a,b,e,f⟩)) Y):=by
 have nP:=hS;obtain⟨ws,ht,dY⟩:=hS;obtain⟨fZ,xg,xe,eR,rfl,xf,ou,oh⟩:=ht;have Ar:=dY.len;have nI:=hO.two;have MS:=Ah hO hc he;have Yo:=Iq hO MS;have hhl:=KG hO;have Bx:=hc.st;dsimp only at Bx;obtain⟨l,hl⟩:∃l,S[s]?=some l:=⟨_,List.getElem?_eq_getElem (by omega)⟩;have hmq:=VY (S:=S) (c:=⟨k,s,o,a,b,e,f⟩) (H:=aH S);refine zE<|zD 2<|jn λb2=>jn λb3=>jd 9 [1]<|jc (vs:=[.agg ⟨[.slice fZ ws.length eR]⟩]) [] (H9 nP hO) ?_;rintro v11 YC SR;obtain⟨xS,qe,Eg⟩:=SR.form;subst Eg;refine zD 1<|jf [0] YC (λAD fq iu=>?_);have ap3:=SR.ju iu;obtain⟨aAU,aAT,aAQ,aAS,MK,aAR,y9,y8⟩:=ap3;simp only[Value.slice.injEq] at MK;obtain⟨rfl,_,rfl⟩:=MK;refine zD 7<|uI<|iz [1,1,1,0,1,0,0] [] (λ(zz:Nat×Value×Cells)=>[(2,zP b2),(3,zP b3),(4,zS),(5,zz.2.1),(6,.slice xS ((aH S).length) qe),(7,zI (zz.1:Int))]) (λzz=>[.l zz.2.2,zxc b3 100 [zI k,zI (s:Int),zI (o:Int),zI a,zI b,zI e,zI f],zxc b2 24 [.slice fZ ws.length eR]]) (λzz=>zz.1<=(aH S).length/\bI zz.2.1 6 399 atc (((aH S).take zz.1).flatMap (Io S ⟨k,s,o,a,b,e,f⟩)) zz.2.2) (λzz=>(aH S).length-zz.1) (⟨0,zS,[]⟩) ⟨Nat.zero_le _,bI.nil _ _ _⟩ [0,1,2] ?_;rintro⟨i,vO,LO⟩ hI K1 cU rest;dsimp only at hI;refine zD 8<|zJ 15 ((i:Int) <((aH S).length:Int)) (λh4=>?_) λh4=>?_
 ·
  refine zD 8<|zxt (aH S) i qe 3 y9 y8 λtP tZ=>jn λb22=>zD 4 ?_;obtain⟨j,lj,pj,_,WA,hj3,ahF⟩:=vn.1 (zL tZ);have aRR:tP.h=(j:Int):=by rw[ahF];rfl
  have vo:=(MS.val _ (zL tZ)).1.2;refine zD 3<|zxs (aH S) i qe 3 y9 λwx jT=>zD 1<|jl 0 (y8 _ _ jT)<|jd 4 [2]<|Yk [1,1,1,0,1,0,0,1,0,0,1,1] [K1] (λ(zz:Value×Cells)=>[(2,zP b2),(3,zP b3),(4,zS),(5,vO),(6,.slice xS ((aH S).length) qe),(7,zI (i:Int)),(8,zz.1)]) (λzz=>[.l zz.2,.l LO,zxc b3 100 [zI k,zI (s:Int),zI (o:Int),zI a,zI b,zI e,zI f],zxc b2 24 [.slice fZ ws.length eR]]) (λzz=>bI zz.1 3 41 bO (gk S ⟨k,s,o,a,b,e,f⟩ tP) zz.2) ?_ (λK2 kU=>?_)
  ·
   rintro⟨vQ,LQ⟩ hQ rest;dsimp only at hQ;refine zD 5<|iz [1,1,1,0,1,0,0,1,0,0,1,1,1,0,0] [K1] (λ(zz:Nat×Value×Cells)=>[(2,zP b2),(3,zP b3),(4,zS),(5,zz.2.1),(6,.slice xS ((aH S).length) qe),(7,zI (i:Int)),(8,vQ),(9,zI (zz.1:Int))]) (λzz=>[.l LQ,.l zz.2.2,zxc b3 100 [zI k,zI (s:Int),zI (o:Int),zI a,zI b,zI e,zI f],zxc b2 24 [.slice fZ ws.length eR]]) (λzz=>zz.1<=(gk S ⟨k,s,o,a,b,e,f⟩ tP).length/\bI zz.2.1 6 399 atc (((aH S).take i).flatMap (Io S ⟨k,s,o,a,b,e,f⟩)++((gk S ⟨k,s,o,a,b,e,f⟩ tP).take zz.1).map λz=>(tP,z)) zz.2.2) (λzz=>(gk S ⟨k,s,o,a,b,e,f⟩ tP).length-zz.1) (⟨0,vO,LO⟩) ⟨Nat.zero_le _,by simpa using hI.2⟩ (zN 0 4) ?_;rintro⟨q,vO,LO⟩ hJ K3 Dq rest;dsimp only at hJ;refine zD 5<|jol hQ<|zD 2<|zJ 42 ((q:Int) <((gk S ⟨k,s,o,a,b,e,f⟩ tP).length:Int)) (λh5=>?_) λh5=>?_
   ·
    refine zD 8<|zxt (aH S) i qe 3 y9 y8 λx48 aj0=>zD 2 ?_;obtain⟨fD,sM⟩:=zG ((gk S ⟨k,s,o,a,b,e,f⟩ tP)) q (by first|omega| (simp only[aM,zM];omega));refine jxo 3 hQ sM λb52 arh=>yL 0 [0] LQ (λs _ hZ=>kN hQ arh hZ sM)<|zD 1<|zxo 10 λtw=>jn λb55=>eH tw (zN 1 4)<|zxo 11 λC6=>zxl atc b55 ((⟨x48.h,x48.n,x48.l⟩,⟨fD.h,fD.n,fD.l⟩):ak×ak) 2 0 (hJ.2) (λbam aZ4 L56 aqm=>?_) (hb:=by have:=asD (f:=(Io S ⟨k,s,o,a,b,e,f⟩)) tZ;simp only[aL,dE,cH,aJ,aO];omega);refine ee C6 [[2],[]]<|zD 4<|zW ((q:Int)+1)<|zD 2<|zF Dq (⟨q+1,(.slice bam (((((aH S).take i).flatMap (Io S ⟨k,s,o,a,b,e,f⟩)++((gk S ⟨k,s,o,a,b,e,f⟩ tP).take q).map λz=>(tP,z))++[((⟨x48.h,x48.n,x48.l⟩,⟨fD.h,fD.n,fD.l⟩):ak×ak)])).length aZ4),L56⟩) (by rw[c8 sM,cw,<-bx];have e:=aK (aj0.symm.trans tZ);subst e;exact aqm) [2,0,3,4]
   refine zD 4<|zW ((i:Int)+1)<|zD 2<|zF cU (⟨i+1,vO,LO⟩) (by have:=hJ.2;rw[bF (l:=(gk S ⟨k,s,o,a,b,e,f⟩ tP)) (by omega)] at this;rw[Fp tZ];exact this) [1,2,3]
  refine js 30 (decide (wx.h=(s:Int))) (λh8=>?_) (λh8=>?_)
  ·
   refine zD 1 ?_;have h7:wx.h=(s:Int):=ah (by assumption);rw[aK (jT.symm.trans tZ)] at h7;have hjs:s=j:=by omega
   subst hjs;rw[hl] at WA;cases WA;refine jd 5 [3,2]<|zxs (aH S) i qe 3 y9 λx35 aaL=>zD 1<|jl 1 (y8 _ _ aaL)<|zxo 7 λKX=>jc (vs:=[.agg ⟨[.slice fZ ws.length eR]⟩,.agg ⟨[zI k,zI (s:Int),zI (o:Int),zI a,zI b,zI e,zI f]⟩,.agg ⟨[zI x35.n,zI x35.l]⟩]) [] (rTo (x:=⟨x35.n,x35.l⟩) (nP.up fq) hO hc he hl (by rw[aK (aaL.symm.trans tZ),ahF];exact hj3)) ?_;rintro v38 L38 aHs;rw[show eV (s:Int) ⟨x35.n,x35.l⟩=tP from by rw[aK (aaL.symm.trans tZ),ahF];rfl] at aHs;obtain⟨bat,bab,bgm⟩:=aHs.form;subst bgm;refine eH KX (zN 1 4)<|zD 2<|zY kU ⟨(.slice bat (gk S ⟨k,s,o,a,b,e,f⟩ tP).length bab),L38⟩ aHs [0,2,3,4]
  refine zD 2<|jg 0 [.l [(b22,.cells ⟨[zI tP.h,zI tP.n,zI tP.l]⟩ 41 (0,0))]]<|zY kU ⟨.slice (some ⟨b22,0,none⟩) 1 1,[(b22,.cells ⟨[zI tP.h,zI tP.n,zI tP.l]⟩ 41 (0,0))]⟩ (show bI _ _ _ _ (gk S ⟨k,s,o,a,b,e,f⟩ tP) _ from by rw[show gk S ⟨k,s,o,a,b,e,f⟩ tP=[tP] from by rw[ahF];exact ajJ hc (by rw[<-aRR,<-aK (jT.symm.trans tZ)];exact af (by assumption))];exact gR (b:=b22) (T:=41) [tP] rfl (λ_ _=>rfl)) [0,1,2,3]
 refine zD 8<|cd q0.a (vO) [] [0] LO fq ⟨_,_,rfl,rfl,by have:=hI.2;rwa[bF (by omega)] at this⟩
def VF{v:Value}{xs:List ak}(hl:dk ro v 3 bO xs)(hn:xs.Nodup)(hc:xs.length<=12):eT zT 291 [v] ro [] (λr Y=>bI r 3 41 bO (dO qW xs) Y):=by
 obtain⟨fO,rh,q9,fb,rfl,sV,mR,nN⟩:=hl;refine zE<|zD 14<|uI<|iz [1,1,0,1,0,0] [] (λ(zz:Nat×Value×Cells×(List ak))=>[(0,.slice fO xs.length fb),(2,zS),(3,zz.2.1),(4,zI (zz.1:Int))]) (λzz=>[.l zz.2.2.1]) (λzz=>zz.1<=xs.length/\bI zz.2.1 3 41 bO zz.2.2.2 zz.2.2.1/\Gz xs zz.1 zz.2.2.2) (λzz=>xs.length-zz.1) (⟨0,zS,[],[]⟩) ⟨by dsimp only;omega,bI.nil _ _ _,.nil,λ_=>by simp⟩ [0] ?_;rintro⟨i,v,L,qs⟩ hI K1 cU rest;dsimp only at hI;refine zD 8<|zJ 9 ((i:Int) <(xs.length:Int)) (λh1=>?_) λh1=>?_
 ·
  refine zD 5<|jf [0] L (λro4 rF Uf=>?_);have hzp:=hI.2.1.ju Uf;obtain⟨yR,GP,GN,wB,rfl,GO,CY,CX⟩:=hzp;refine zD 5 ?_;have hql:=hI.2.2.len hn;obtain⟨xi,hxi⟩:∃xx,xs[i]?=some xx:=⟨_,ai (by omega)⟩;refine iz [1,1,0,1,0,0,1,0,0,1,0,0,0] [K1] (λ(zz:Nat)=>[(0,.slice fO xs.length fb),(2,zS),(3,.slice yR qs.length wB),(4,zI (i:Int)),(5,zI (zz:Int))]) (λzz=>[]) (λzz=>zz<=qs.length/\∀y∈qs.take zz,qW y xi=true) (λzz=>qs.length-zz) 0 ⟨bQ _,λ_ h=>by simp at h⟩ [] ?_;rintro k hR K2 kU rest;refine zD 8<|js 4 (decide ((k:Int) <(qs.length:Int))) (λh5=>?_) (λh5=>?_)
  ·
   have IP:=h5;replace IP:=ah IP;refine zD 2<|zxt qs k wB 3 CY CX λGa B3=>zD 2<|zxs xs i fb 3 mR λpF rV=>jl 0 ((nN _ _ rV).ext (xB rF))<|zxp [.agg ⟨[zI Ga.h,zI Ga.n,zI Ga.l]⟩,.agg ⟨[zI pF.h,zI pF.n,zI pF.l]⟩] (λhs=>(aEX (x:=Ga) (y:=pF)))<|zD 2<|js 26 (ahB Ga pF) (λh6=>?_) (λh6=>?_)
   ·
    refine zD 5<|zW ((k:Int)+1)<|zD 2<|zY kU (k+1) ⟨by omega,Jl hR.2 B3 (by rw[<-aK (rV.symm.trans hxi),<-XP];assumption)⟩ []
   refine zD 10<|js 4 (decide ((k:Int) <(qs.length:Int))) (λh7=>?_) (λh7=>?_)
   ·
    have h7g:=h7;replace h7g:=ah h7g;refine zD 2<|zxt qs k wB 3 CY CX λYe wG=>zD 2<|zxs xs i fb 3 mR λx40 aeE=>jl 0 ((nN _ _ aeE).ext (xB rF))<|jeq aha (Xq Ye.h Ye.n Ye.l x40.h x40.n x40.l)<|zD 2<|js 43 (Ye.h==x40.h&&(Ye.n==x40.n&&(Ye.l==x40.l&&true)&&true)) (λh8=>?_) (λh8=>?_)
    ·
     try simp only[zB] at h8
     exact(hI.2.2.not hn aeE wG (by rcases Ye with ⟨_,_,_⟩;rcases x40 with ⟨_,_,_⟩;simpa [and_assoc] using h8)).elim
    try simp only[zB] at h8
    refine zD 5<|jcH (hi:=(k:Int)) (show dk _ _ _ _ _ from ⟨yR,GP,GN,wB,rfl,GO,CY,CX⟩) (by omega) (λVi aG8=>?_);obtain⟨A1,Pw,Pt,A0,rfl,aO2,Pv,Pu⟩:=aG8;refine zD 2<|zxs xs i fb 3 mR λib qH=>jl 0 ((nN _ _ qH).ext (xB rF))<|zD 2<|jcO (lo:=(k:Int)) (show dk _ _ _ _ _ from ⟨yR,GP,GN,wB,rfl,GO,CY,CX⟩) (by omega) (λv57 aG6=>?_);obtain⟨AX,Pn,Ph,AW,rfl,aOX,Pm,Pj⟩:=aG6;refine vg [0,9] ⟨λ_ _ C6=>?_,λ_ _ WJ=>?_,trivial⟩
    ·
     refine jn λS7=>eH C6 []<|vg [4,9] ⟨λ_ _ KZ=>?_,λ_ _ QH=>?_,trivial⟩
     ·
      refine zxq bO S7 41 0 A0 Pv Pu λamE amy L48 l9=>ee KZ [[]]<|zxo 9 λWV=>jn λb53=>eH WV [1]<|zxo 10 λHl=>zxl bO b53 (⟨ib.h,ib.n,ib.l⟩:ak) 1 0 (l9) λOJ OH yF fU=>ee Hl []<|zxo 14 λHk=>zxk bO 0 AW (fU) Pm Pj λJQ JM L58 qm=>ee Hk []<|zD 4<|zW ((i:Int)+1)<|zD 2<|dX cU (⟨i+1,(.slice JQ (((((qs).take (k:Int).toNat)++[(⟨ib.h,ib.n,ib.l⟩:ak)])++((qs).drop (k:Int).toNat))).length JM),L58,((((qs).take (k:Int).toNat)++[(⟨ib.h,ib.n,ib.l⟩:ak)])++((qs).drop (k:Int).toNat))⟩) ⟨by dsimp only;omega,by simpa only[Int.toNat_natCast,List.nil_append] using qm,hI.2.2.next (x:=ib) (p:=k) hn qH (show ∀y∈qs.take k,qW y ib=true by rw[show ib=xi from Option.some.inj (qH.symm.trans hxi)];exact hR.2) (.inr ⟨_,B3,(show qW Ga ib=false by rw[show ib=pF from Option.some.inj (qH.symm.trans rV),<-XP];assumption)⟩)⟩ (by dsimp only;omega) [0] rF
     refine jn λb53=>eH QH [1]<|zxo 4 λWU=>zxq bO S7 41 1 A0 Pv Pu λamE amy L48 l9=>ee WU []<|zxo 10 λKY=>zxl bO b53 (⟨ib.h,ib.n,ib.l⟩:ak) 0 1 (l9) λOJ OH yF fU=>ee KY []<|zxo 14 λQG=>zxk bO 0 AW (fU) Pm Pj λJQ JM L58 qm=>ee QG []<|zD 4<|zW ((i:Int)+1)<|zD 2<|dX cU (⟨i+1,(.slice JQ (((((qs).take (k:Int).toNat)++[(⟨ib.h,ib.n,ib.l⟩:ak)])++((qs).drop (k:Int).toNat))).length JM),L58,((((qs).take (k:Int).toNat)++[(⟨ib.h,ib.n,ib.l⟩:ak)])++((qs).drop (k:Int).toNat))⟩) ⟨by dsimp only;omega,by simpa only[Int.toNat_natCast,List.nil_append] using qm,hI.2.2.next (x:=ib) (p:=k) hn qH (show ∀y∈qs.take k,qW y ib=true by rw[show ib=xi from Option.some.inj (qH.symm.trans hxi)];exact hR.2) (.inr ⟨_,B3,(show qW Ga ib=false by rw[show ib=pF from Option.some.inj (qH.symm.trans rV),<-XP];assumption)⟩)⟩ (by dsimp only;omega) [0] rF
    refine jn λb53=>eH WJ []<|zxo 0 λarz=>jn λS7=>eH arz [1]<|zxo 4 λQF=>zxq bO S7 41 0 A0 Pv Pu λamE amy L48 l9=>ee QF []<|zxo 10 λWT=>zxl bO b53 (⟨ib.h,ib.n,ib.l⟩:ak) 0 1 (l9) λOJ OH yF fU=>ee WT []<|zxo 14 λary=>zxk bO 0 AW (fU) Pm Pj λJQ JM L58 qm=>ee ary []<|zD 4<|zW ((i:Int)+1)<|zD 2<|dX cU (⟨i+1,(.slice JQ (((((qs).take (k:Int).toNat)++[(⟨ib.h,ib.n,ib.l⟩:ak)])++((qs).drop (k:Int).toNat))).length JM),L58,((((qs).take (k:Int).toNat)++[(⟨ib.h,ib.n,ib.l⟩:ak)])++((qs).drop (k:Int).toNat))⟩) ⟨by dsimp only;omega,by simpa only[Int.toNat_natCast,List.nil_append] using qm,hI.2.2.next (x:=ib) (p:=k) hn qH (show ∀y∈qs.take k,qW y ib=true by rw[show ib=xi from Option.some.inj (qH.symm.trans hxi)];exact hR.2) (.inr ⟨_,B3,(show qW Ga ib=false by rw[show ib=pF from Option.some.inj (qH.symm.trans rV),<-XP];assumption)⟩)⟩ (by dsimp only;omega) [0] rF
   have h7g:=h7;replace h7g:=af h7g;exfalso;omega
  have IP:=h5;replace IP:=af IP;refine zD 21<|js 4 (decide ((k:Int) <(qs.length:Int))) (λWZ=>?_) (λWZ=>?_)
  ·
   have QK:=WZ;replace QK:=ah QK;exfalso;omega
  have QK:=WZ;replace QK:=af QK;refine zD 16<|jcH (hi:=(k:Int)) (show dk _ _ _ _ _ from ⟨yR,GP,GN,wB,rfl,GO,CY,CX⟩) (by omega) (λVi aG8=>?_);obtain⟨A1,Pw,Pt,A0,rfl,aO2,Pv,Pu⟩:=aG8;refine zD 2<|zxs xs i fb 3 mR λib qH=>jl 0 ((nN _ _ qH).ext (xB rF))<|zD 2<|jcO (lo:=(k:Int)) (show dk _ _ _ _ _ from ⟨yR,GP,GN,wB,rfl,GO,CY,CX⟩) (by omega) (λv57 aG6=>?_);obtain⟨AX,Pn,Ph,AW,rfl,aOX,Pm,Pj⟩:=aG6;refine vg [0,9] ⟨λ_ _ afj=>?_,λ_ _ afi=>?_,trivial⟩
  ·
   refine jn λS7=>eH afj []<|vg [4,9] ⟨λ_ _ WM=>?_,λ_ _ arx=>?_,trivial⟩
   ·
    refine zxq bO S7 41 0 A0 Pv Pu λamE amy L48 l9=>ee WM [[]]<|zxo 9 λaff=>jn λb53=>eH aff [1]<|zxo 10 λQE=>zxl bO b53 (⟨ib.h,ib.n,ib.l⟩:ak) 1 0 (l9) λOJ OH yF fU=>ee QE []<|zxo 14 λafe=>zxk bO 0 AW (fU) Pm Pj λJQ JM L58 qm=>ee afe []<|zD 4<|zW ((i:Int)+1)<|zD 2<|dX cU (⟨i+1,(.slice JQ (((((qs).take (k:Int).toNat)++[(⟨ib.h,ib.n,ib.l⟩:ak)])++((qs).drop (k:Int).toNat))).length JM),L58,((((qs).take (k:Int).toNat)++[(⟨ib.h,ib.n,ib.l⟩:ak)])++((qs).drop (k:Int).toNat))⟩) ⟨by dsimp only;omega,by simpa only[Int.toNat_natCast,List.nil_append] using qm,hI.2.2.next (x:=ib) (p:=k) hn qH (show ∀y∈qs.take k,qW y ib=true by rw[show ib=xi from Option.some.inj (qH.symm.trans hxi)];exact hR.2) (.inl (by omega))⟩ (by dsimp only;omega) [0] rF
   refine jn λb53=>eH arx [1]<|zxo 4 λafd=>zxq bO S7 41 1 A0 Pv Pu λamE amy L48 l9=>ee afd []<|zxo 10 λQC=>zxl bO b53 (⟨ib.h,ib.n,ib.l⟩:ak) 0 1 (l9) λOJ OH yF fU=>ee QC []<|zxo 14 λarw=>zxk bO 0 AW (fU) Pm Pj λJQ JM L58 qm=>ee arw []<|zD 4<|zW ((i:Int)+1)<|zD 2<|dX cU (⟨i+1,(.slice JQ (((((qs).take (k:Int).toNat)++[(⟨ib.h,ib.n,ib.l⟩:ak)])++((qs).drop (k:Int).toNat))).length JM),L58,((((qs).take (k:Int).toNat)++[(⟨ib.h,ib.n,ib.l⟩:ak)])++((qs).drop (k:Int).toNat))⟩) ⟨by dsimp only;omega,by simpa only[Int.toNat_natCast,List.nil_append] using qm,hI.2.2.next (x:=ib) (p:=k) hn qH (show ∀y∈qs.take k,qW y ib=true by rw[show ib=xi from Option.some.inj (qH.symm.trans hxi)];exact hR.2) (.inl (by omega))⟩ (by dsimp only;omega) [0] rF
  refine jn λb53=>eH afi []<|zxo 0 λarv=>jn λS7=>eH arv [1]<|zxo 4 λWL=>zxq bO S7 41 0 A0 Pv Pu λamE amy L48 l9=>ee WL []<|zxo 10 λafc=>zxl bO b53 (⟨ib.h,ib.n,ib.l⟩:ak) 0 1 (l9) λOJ OH yF fU=>ee afc []<|zxo 14 λafb=>zxk bO 0 AW (fU) Pm Pj λJQ JM L58 qm=>ee afb []<|zD 4<|zW ((i:Int)+1)<|zD 2<|dX cU (⟨i+1,(.slice JQ (((((qs).take (k:Int).toNat)++[(⟨ib.h,ib.n,ib.l⟩:ak)])++((qs).drop (k:Int).toNat))).length JM),L58,((((qs).take (k:Int).toNat)++[(⟨ib.h,ib.n,ib.l⟩:ak)])++((qs).drop (k:Int).toNat))⟩) ⟨by dsimp only;omega,by simpa only[Int.toNat_natCast,List.nil_append] using qm,hI.2.2.next (x:=ib) (p:=k) hn qH (show ∀y∈qs.take k,qW y ib=true by rw[show ib=xi from Option.some.inj (qH.symm.trans hxi)];exact hR.2) (.inl (by omega))⟩ (by dsimp only;omega) [0] rF
 refine zD 8<|zR _ [] [0] L (by rw[<-hI.2.2.fin hn (by omega)];exact hI.2.1)
theorem Rg{xs:List ak}{s:Int}(hn:xs.Nodup):iP s (dO qW xs)=dO Ir (iP s xs):=by
 refine AR SF ?_ (w9 SF (Hz hn)) λx=>by simp only[iP,a8,cQ,lU]
 unfold iP;rw[Mh];refine((w9 Kx hn).filter _).imp_of_mem λ{a b} ha hb h=>?_;have h1:=ah (cQ.1 ha).2;have h2:=ah (cQ.1 hb).2;rw[xq];rcases BX.1 h with h| ⟨_,h⟩
 .omega
 exact h
theorem aEV{v:Value}{xs:List ak}(hl:dk ro v 3 bO xs)(hn:xs.Nodup)(hc:xs.length<=12)(hS:∀x∈xs,x.h=0):eT zT 256 [v,zI 1] ro [] (λr Y=>∃a n c,r= .agg ⟨[.slice a n c]⟩/\∀bU,Knows bU Y->bH bU (.slice a n c) [dO Ir (iP 0 xs)]):=by
 have hl0:=hl;obtain⟨fO,rh,q9,fb,rfl,sV,mR,nN⟩:=hl;have hzl:=xT hn Kx;refine zE<|zD 2<|jn λb4=>zD 4<|aRy (E:=98) (z:= zS) λb8=>jg 0 [zxc b8 98 [zS]]<|zD 1<|jn λb5=>jd 5 [0]<|jc (vs:=[.slice fO xs.length fb]) [] (VF hl0 hn hc) ?_;rintro v11 YC SR;obtain⟨xS,qe,aH8⟩:=SR.form;subst aH8;refine zD 4<|jf [0] YC (λAD fq iu=>?_);have ap3:=SR.ju iu;obtain⟨aAU,aAT,aAQ,aAS,MK,aAR,y9,y8⟩:=ap3;simp only[Value.slice.injEq] at MK;obtain⟨rfl,_,rfl⟩:=MK;refine zD 4<|uI<|iz [1,1,1,0,1,0,0] [] (λ(zz:Nat×Value×Cells×(List au))=>[(0,.slice xS ((dO qW xs).length) qe),(4,zP b4),(5,zP b5),(6,zI (zz.1:Int))]) (λzz=>[zxc b8 98 [zz.2.1],.l zz.2.2.1,zxc b5 24 [.slice (some ⟨b8,0,none⟩) 1 1],zxc b4 24 [zS]]) (λzz=>zz.1<=(dO qW xs).length/\zz.2.2.2=iP 0 ((dO qW xs).take zz.1)/\bI zz.2.1 2 39 cv zz.2.2.2 zz.2.2.1) (λzz=>(dO qW xs).length-zz.1) (⟨0,zS,[],[]⟩) ⟨Nat.zero_le _,rfl,bI.nil _ _ _⟩ [2,0,1,3] ?_;rintro⟨i,w0,L0,p0⟩ hI K1 cU rest;dsimp only at hI;have bfa:p0.length<=i:=by rw[hI.2.1];exact Nat.le_trans pz (by rw[List.length_take];omega)
 refine zD 8<|zJ 15 ((i:Int) <((dO qW xs).length:Int)) (λh4=>?_) λh4=>?_
 ·
  refine jd 9 [2]<|zxs (dO qW xs) i qe 3 y9 λNm jL=>zD 1<|jl 0 (y8 _ _ jL) ?_;have rF:=hS _ (lU.1 (zL jL));obtain⟨xh,xn,xl⟩:=Nm;dsimp only at rF;subst rF;refine jd 4 [2]<|zxs (dO qW xs) i qe 3 y9 λMl xu=>zD 1<|jl 0 (y8 _ _ xu) ?_;have e29:=Option.some.inj (xu.symm.trans jL);subst e29;refine jd 4 [0]<|zxs (dO qW xs) i qe 3 y9 λYe wG=>zD 1<|jl 1 (y8 _ _ wG) ?_;have e36:=Option.some.inj (wG.symm.trans jL);subst e36;refine zxo 21 λC7=>jn λSj=>eH C7 (zN 1 4)<|zxo 22 λtx=>zxl cv Sj (⟨xn,xl⟩:au) 2 0 (hI.2.2) (λJR JN L40 nX=>?_) (hb:=by simp only[List.length_cons,List.length_nil];omega);refine ee tx [[],[3],[],[3]]<|zD 1<|zxo 24 λtw=>jd 1 [2]<|kA tw<|zD 3<|zW ((i:Int)+1)<|zD 2<|zF cU (⟨i+1,(.slice JR ((p0++[(⟨xn,xl⟩:au)])).length JN),L40,(p0++[(⟨xn,xl⟩:au)])⟩) ⟨by dsimp only;rw[c8 jL,Lu,<-hI.2.1],nX⟩ [2,0,3,4]
 refine jd 8 [2,3]<|cd q0.a (.agg ⟨[.slice (some ⟨b8,0,none⟩) 1 1]⟩) [3] [0,1] ((b8,.cells ⟨[w0]⟩ 98 (0,0))::L0) fq ⟨_,_,rfl,rfl,_,_,_,rfl,λbU hk=>⟨[w0],eZ [w0] (hk _ (.head _)) (λ_ _=>rfl),.cons (by have:=hI.2.2;rw[hI.2.1,bF (by omega),Rg hn] at this;exact this.ju (λx hx=>hk x (.tail _ (hx)))) .nil⟩⟩
def aEU{v:Value}{xs:List ak}(hl:dk ro v 3 bO xs)(hn:xs.Nodup)(hc:xs.length<=12)(hS:∀x∈xs,x.h=0\/x.h=1):eT zT 256 [v,zI 2] ro [] (λr Y=>∃a n c,r= .agg ⟨[.slice a n c]⟩/\∀bU,Knows bU Y->bH bU (.slice a n c) [dO Ir (iP 0 xs),dO Ir (iP 1 xs)]):=by
 have hl0:=hl;obtain⟨fO,rh,q9,fb,rfl,sV,mR,nN⟩:=hl;have hzl:=xT hn Kx;refine zE<|zD 2<|jn λb4=>zD 4<|jmS (E:=98) (z:= zS) λb8=>jg 0 [zxc b8 98 [zS,zS]]<|zD 1<|jn λb5=>jd 5 [0]<|jc (vs:=[.slice fO xs.length fb]) [] (VF hl0 hn hc) ?_;rintro v11 YC SR;obtain⟨xS,qe,aH8⟩:=SR.form;subst aH8;refine zD 4<|jf [0] YC (λAD fq iu=>?_);have ap3:=SR.ju iu;obtain⟨aAU,aAT,aAQ,aAS,MK,aAR,y9,y8⟩:=ap3;simp only[Value.slice.injEq] at MK;obtain⟨rfl,_,rfl⟩:=MK;refine zD 4<|uI<|uI<|iz [1,1,1,0,1,0,0] [] (λ(zz:Nat×Value×Cells×(List au)×Value×Cells×(List au))=>[(0,.slice xS ((dO qW xs).length) qe),(4,zP b4),(5,zP b5),(6,zI (zz.1:Int))]) (λzz=>[zxc b8 98 [zz.2.1,zz.2.2.2.2.1],.l zz.2.2.1,.l zz.2.2.2.2.2.1,zxc b5 24 [.slice (some ⟨b8,0,none⟩) 2 2],zxc b4 24 [zS]]) (λzz=>zz.1<=(dO qW xs).length/\zz.2.2.2.1=iP 0 ((dO qW xs).take zz.1)/\zz.2.2.2.2.2.2=iP 1 ((dO qW xs).take zz.1)/\bI zz.2.1 2 39 cv zz.2.2.2.1 zz.2.2.1/\bI zz.2.2.2.2.1 2 39 cv zz.2.2.2.2.2.2 zz.2.2.2.2.2.1) (λzz=>(dO qW xs).length-zz.1) (⟨0,zS,[],[],zS,[],[]⟩) ⟨Nat.zero_le _,rfl,rfl,bI.nil _ _ _,bI.nil _ _ _⟩ [3,1,0,2,4] ?_;rintro⟨i,w0,L0,p0,w1,L1,p1⟩ hI K1 cU rest;dsimp only at hI;have bfa:p0.length<=i:=by rw[hI.2.1];exact Nat.le_trans pz (by rw[List.length_take];omega)
 have be9:p1.length<=i:=by rw[hI.2.2.1];exact bZ pz (by rw[cH];omega)
 refine zD 8<|zJ 15 ((i:Int) <((dO qW xs).length:Int)) (λh4=>?_) λh4=>?_
 ·
  refine jd 9 [3]<|zxs (dO qW xs) i qe 3 y9 λNm jL=>zD 1<|jl 0 (y8 _ _ jL) ?_;have rF:=hS _ (lU.1 (zL jL));obtain⟨xh,xn,xl⟩:=Nm;dsimp only at rF;rcases rF with rfl|rfl
  ·
   refine jd 4 [3]<|zxs (dO qW xs) i qe 3 y9 λMl xu=>zD 1<|jl 0 (y8 _ _ xu) ?_;have e29:=Option.some.inj (xu.symm.trans jL);subst e29;refine jd 4 [0]<|zxs (dO qW xs) i qe 3 y9 λYe wG=>zD 1<|jl 1 (y8 _ _ wG) ?_;have e36:=Option.some.inj (wG.symm.trans jL);subst e36;refine zxo 21 λC7=>jn λSj=>eH C7 (zN 1 5)<|zxo 22 λtx=>zxl cv Sj (⟨xn,xl⟩:au) 2 0 (hI.2.2.2.1) (λJR JN L40 nX=>?_) (hb:=by simp only[List.length_cons,List.length_nil];omega);refine ee tx [[],[4],[],[4]]<|zD 1<|zxo 24 λtw=>jd 1 [2]<|kA tw<|zD 3<|zW ((i:Int)+1)<|zD 2<|zF cU (⟨i+1,(.slice JR ((p0++[(⟨xn,xl⟩:au)])).length JN),L40,(p0++[(⟨xn,xl⟩:au)]),w1,L1,p1⟩) ⟨by dsimp only;rw[c8 jL,Lu,<-hI.2.1],by dsimp only;rw[c8 jL,Xt (x:=⟨0,xn,xl⟩) (s:=1) (show (0:Int)≠1 from by decide),<-hI.2.2.1],nX,hI.2.2.2.2⟩ [2,0,3,4,5]
  refine jd 4 [3]<|zxs (dO qW xs) i qe 3 y9 λMl xu=>zD 1<|jl 0 (y8 _ _ xu) ?_;have e29:=Option.some.inj (xu.symm.trans jL);subst e29;refine jd 4 [0]<|zxs (dO qW xs) i qe 3 y9 λYe wG=>zD 1<|jl 1 (y8 _ _ wG) ?_;have e36:=Option.some.inj (wG.symm.trans jL);subst e36;refine zxo 21 λC6=>jn λSj=>eH C6 (zN 1 5)<|zxo 22 λKX=>zxl cv Sj (⟨xn,xl⟩:au) 3 0 (hI.2.2.2.2) (λJR JN L40 nX=>?_) (hb:=by simp only[List.length_cons,List.length_nil];omega);refine ee KX [[],[4],[],[4]]<|zD 1<|zxo 24 λKW=>jd 1 [2]<|kA KW<|zD 3<|zW ((i:Int)+1)<|zD 2<|zF cU (⟨i+1,w0,L0,p0,(.slice JR ((p1++[(⟨xn,xl⟩:au)])).length JN),L40,(p1++[(⟨xn,xl⟩:au)])⟩) ⟨by dsimp only;rw[c8 jL,Xt (x:=⟨1,xn,xl⟩) (s:=0) (show (1:Int)≠0 from by decide),<-hI.2.1],by dsimp only;rw[c8 jL,Lu,<-hI.2.2.1],hI.2.2.2.1,nX⟩ [2,3,0,4,5]
 refine jd 8 [3,4]<|cd q0.a (.agg ⟨[.slice (some ⟨b8,0,none⟩) 2 2]⟩) [4] [0,1,2] ((b8,.cells ⟨[w0,w1]⟩ 98 (0,0))::(L0++L1)) fq ⟨_,_,rfl,rfl,_,_,_,rfl,λbU hk=>⟨[w0,w1],eZ [w0,w1] (hk _ (.head _)) (λ_ _=>rfl),.cons (by have:=hI.2.2.2.1;rw[hI.2.1,bF (by omega),Rg hn] at this;exact this.ju (λx hx=>hk x (.tail _ (cZ _ hx)))) (.cons (by have:=hI.2.2.2.2;rw[hI.2.2.1,bF (by omega),Rg hn] at this;exact this.ju (λx hx=>hk x (.tail _ (gD _ hx)))) .nil)⟩⟩
theorem aG4{S:List (List au)}{k:Nat}{z:ak}(h:z∈Dl S k):z.h <k:=by
 obtain⟨j,l,p,h1,h2,h3,rfl⟩:=vn.1 h
 grind [eV]
theorem abY{s:Int}{L:List ak}(h:∀x∈L,x.h≠s):iP s L=[]:=by
 grind [iP,List.filter_eq_nil_iff]
theorem ay1{s:Int}{L M:List ak}:iP s (L++M)=iP s L++iP s M:=by simp[iP]
theorem aKh{s:Int}{l:List au}:iP s (l.map (eV s))=l:=by
 rw[iP,List.filter_eq_self.2 λx hx=>by obtain⟨p,_,rfl⟩:=a8.1 hx;simp[eV],qU];exact List.map_id'' (λ_=>rfl) _
theorem afQ{S:List (List au)}:∀ {k j:Nat} {l:List au},j <k->S[j]?=some l->iP (j:Int) (Dl S k)=l
 |0,_,_,h,_=>by omega
 |k+1,j,l,h,hl=>by
  by_cases hk:k <S.length
  .obtain⟨m,hm⟩:∃m,S[k]?=some m:=⟨_,ai hk⟩;rw[Qg hm,ay1];by_cases e:j=k
   .subst e;rw[hm] at hl;cases hl;rw[abY λx hx=>by have:=aG4 hx;omega,aKh,aY]
   rw[afQ (by omega) hl,abY λx hx=>by obtain⟨p,_,rfl⟩:=a8.1 hx;simp only[eV];omega,e9]
  rw[show Dl S (k+1)=Dl S k by simp only[Dl,AA (show S.length<=k by omega),e9]];exact afQ (by have:=(aA.1 hl).1;omega) hl
theorem aes{S:List (List au)}(hO:cq S):((List.range S.length).map λ(s:Nat)=>dO Ir (iP (s:Int) (aH S)))=S:=by
 apply pI;intro j;by_cases h:j <S.length
 .obtain⟨l,hl⟩:∃l,S[j]?=some l:=⟨_,ai h⟩;rw[gi,List.getElem?_range h,hl,dD,aH,afQ h hl];have ha:=hO.Sk l (zL hl);exact qz some (AR SF (w9 SF (ha.imp λ{a b} h e=>by grind [mL])) (ha.imp λh=>xq.2 h) λx=>lU)
 grind
theorem anU{v:Value}{xs:List ak}{k:Nat}(hk:k=1\/k=2)(hl:dk ro v 3 bO xs)(hn:xs.Nodup)(hc:xs.length<=12)(hS:∀x∈xs,0<=x.h/\x.h <(k:Int)):eT zT 256 [v,zI (k:Int)] ro [] (λr Y=>∃ra rn rc,r= .agg ⟨[.slice ra rn rc]⟩/\∀bU,Knows bU Y->bH bU (.slice ra rn rc) ((List.range k).map λ(s:Nat)=>dO Ir (iP (s:Int) xs))):=by
 rcases hk with rfl|rfl
 .grind [aEV]
 exact aEU hl hn hc λx hx=>by grind
def aET{v:Value}{S:List (List au)}{c:aT}(hO:cq S)(hM:GA S (gk S c))(hl:dk ro v 3 bO ((aH S).flatMap (gk S c))):eT zT 256 [v,zI (S.length:Int)] ro [] (λr Y=>∃ra rn rc,r= .agg ⟨[.slice ra rn rc]⟩/\∀bU,Knows bU Y->bH bU (.slice ra rn rc) (y3 S c)):=
 anU (agb hO) hl (aeb hO hM) (Iq hO hM) λx hx=>by obtain⟨y,hy,hx⟩:=fG.1 hx;exact((hM.val y hy).2 x hx).1
theorem adQ{v:Value}{S:List (List au)}(hO:cq S)(hl:dk ro v 3 bO (aH S)):eT zT 256 [v,zI (S.length:Int)] ro [] (λr Y=>∃ra rn rc,r= .agg ⟨[.slice ra rn rc]⟩/\∀bU,Knows bU Y->bH bU (.slice ra rn rc) S):=by
 have h:=anU (agb hO) hl (B5 hO _) (bZ (KG hO) (by simp)) λx hx=>(Qr hO hx).1
 grind [aes]
def aOD{v:Value}{S:List (List au)}{k a:Int}{s o:Nat}(hS:bH ro v S)(hO:cq S)(hc:n9 S ⟨k,s,o,a,b,e,f⟩)(he:iO S ⟨k,s,o,a,b,e,f⟩=0):eT zT 293 [.agg ⟨[v]⟩,.agg ⟨[zI k,zI (s:Int),zI (o:Int),zI a,zI b,zI e,zI f]⟩] ro [] (λr Y=>∃ra rn rc,r= .agg ⟨[.slice ra rn rc]⟩/\∀bU,Knows bU Y->bH bU (.slice ra rn rc) (y3 S ⟨k,s,o,a,b,e,f⟩)):=by
 have nP:=hS;obtain⟨ws,ht,dY⟩:=hS;obtain⟨fZ,xg,xe,eR,rfl,xf,ou,oh⟩:=ht;have Ar:=dY.len;have nI:=hO.two;have MS:=Ah hO hc he;have Yo:=Iq hO MS;have hmq:=VY (S:=S) (c:=⟨k,s,o,a,b,e,f⟩) (H:=aH S);refine zE<|zD 2<|jn λb2=>jn λb3=>jn λb4=>jd 9 [2,1]<|jc (vs:=[.agg ⟨[.slice fZ ws.length eR]⟩,.agg ⟨[zI k,zI (s:Int),zI (o:Int),zI a,zI b,zI e,zI f]⟩]) [] (anT nP hO hc he) ?_;rintro v10 F7 kO;obtain⟨rM,q5,uO⟩:=kO.form;subst uO;refine zD 4<|jf [0] F7 (λAD fq iu=>?_);have ben:=kO.ju iu;obtain⟨blC,blB,bly,blA,aBy,blz,aOV,aOU⟩:=ben;simp only[Value.slice.injEq] at aBy;obtain⟨rfl,_,rfl⟩:=aBy;refine zD 4<|uI<|iz [1,1,1,0,1,0,0] [] (λ(zz:Nat×Value×Cells)=>[(2,zP b2),(4,zP b4),(5,zz.2.1),(6,.slice rM (((aH S).flatMap (Io S ⟨k,s,o,a,b,e,f⟩)).length) q5),(7,zI (zz.1:Int))]) (λzz=>[.l zz.2.2,zxc b4 24 [zS],zxc b3 100 [zI k,zI (s:Int),zI (o:Int),zI a,zI b,zI e,zI f],zxc b2 24 [.slice fZ ws.length eR]]) (λzz=>zz.1<=((aH S).flatMap (Io S ⟨k,s,o,a,b,e,f⟩)).length/\bI zz.2.1 3 41 bO ((((aH S).flatMap (Io S ⟨k,s,o,a,b,e,f⟩)).take zz.1).map (·.2)) zz.2.2) (λzz=>((aH S).flatMap (Io S ⟨k,s,o,a,b,e,f⟩)).length-zz.1) (⟨0,zS,[]⟩) ⟨Nat.zero_le _,bI.nil _ _ _⟩ (zN 0 4) ?_;rintro⟨i,v,L⟩ hI K1 cU rest;dsimp only at hI;refine zD 8<|zJ 14 ((i:Int) <(((aH S).flatMap (Io S ⟨k,s,o,a,b,e,f⟩)).length:Int)) (λh4=>?_) λh4=>?_
 ·
  refine zD 8<|zxs ((aH S).flatMap (Io S ⟨k,s,o,a,b,e,f⟩)) i q5 6 aOV λtP tZ=>zD 1<|jl 3 (aOU _ _ tZ)<|jn λb23=>zxl bO b23 (⟨tP.2.h,tP.2.n,tP.2.l⟩:ak) 1 0 (hI.2) (λVh Ve L24 ym=>?_) (hb:=by simp only[dE,cH,aJ,aO];omega);refine zD 4<|zW ((i:Int)+1)<|zD 2<|zF cU (⟨i+1,(.slice Vh ((((((aH S).flatMap (Io S ⟨k,s,o,a,b,e,f⟩)).take i).map (·.2))++[(⟨tP.2.h,tP.2.n,tP.2.l⟩:ak)])).length Ve),L24⟩) (by rw[c8 tZ,cw];exact ym) [0,2,3,4]
 refine zD 3<|jf [0] L (λro7 wW JD=>?_);have hzp:=hI.2.ju JD;obtain⟨yR,GP,GN,wB,rfl,GO,CY,CX⟩:=hzp;refine jd 5 [2]<|jc (vs:=[.slice yR (((((aH S).flatMap (Io S ⟨k,s,o,a,b,e,f⟩)).take i).map (·.2)).length) wB,zI (ws.length:Int)]) [] ((by have:=aET (c:=⟨k,s,o,a,b,e,f⟩) hO MS (v:= .slice yR ((((aH S).flatMap (Io S ⟨k,s,o,a,b,e,f⟩)).take i).map (·.2)).length wB) (by rw[<-apa];have hz:dk _ (.slice yR ((((aH S).flatMap (Io S ⟨k,s,o,a,b,e,f⟩)).take i).map (·.2)).length wB) 3 bO ((((aH S).flatMap (Io S ⟨k,s,o,a,b,e,f⟩)).take i).map (·.2)):=⟨yR,GP,GN,wB,rfl,GO,CY,CX⟩;rwa[bF (by omega)] at hz ⊢);rwa[<-Ar] at this)) ?_;rintro _ L29 ⟨a29,n29,c29,rfl,bh0⟩;refine jd 3 [1]<|cd q0.a.a (.agg ⟨[.slice a29 n29 c29]⟩) [1] [0] L29 (fq.trans wW) ⟨_,_,rfl,rfl,_,_,_,rfl,bh0⟩
def rIn{v:Value}{xs:List ak}{x:ak}(hl:dk ro v 3 bO xs)(hc:xs.length<=100):eT zT 258 [v,.agg ⟨[zI x.h,zI x.n,zI x.l]⟩] ro [] (λr Y=>∃c,r= .bool c/\Y=[]):=by
 obtain⟨fO,rh,q9,fb,rfl,sV,mR,nN⟩:=hl;refine zE<|zD 2<|jn λb3=>zD 8<|iz [1,0,1,0,0] [] (λ(zz:Nat)=>[(0,.slice fO xs.length fb),(3,zP b3),(5,zI (zz:Int))]) (λzz=>[zxc b3 41 [zI x.h,zI x.n,zI x.l]]) (λzz=>zz<=xs.length) (λzz=>xs.length-zz) 0 (bQ _) [0] ?_;rintro i hI K1 cU rest;refine zD 8<|zJ 9 ((i:Int) <(xs.length:Int)) (λh1=>?_) λh1=>?_
 ·
  refine zD 8<|zxt xs i fb 3 mR nN λvt iD=>jd 1 [0]<|jeq aha (Xq vt.h vt.n vt.l x.h x.n x.l)<|zD 1<|js 17 (vt.h==x.h&&(vt.n==x.n&&(vt.l==x.l&&true)&&true)) (λh2=>?_) (λh2=>?_)
  ·
   try simp only[zB] at h2
   refine zD 6<|zX (.bool true) ⟨_,rfl,rfl⟩
  try simp only[zB] at h2
  refine zD 4<|zW ((i:Int)+1)<|zD 2<|zY cU (i+1) (by omega) [0]
 refine zD 7<|zX (.bool false) ⟨_,rfl,rfl⟩
def anX{v:Value}{S:List (List au)}{ps:List ak}{k a:Int}{s o:Nat}(hS:bH ro v S)(hO:cq S)(hc:n9 S ⟨k,s,o,a,b,e,f⟩)(he:iO S ⟨k,s,o,a,b,e,f⟩=0)(hq:dk ro vq 3 bO ps)(hqc:ps.length<=100):eT zT 294 [.agg ⟨[v]⟩,.agg ⟨[zI k,zI (s:Int),zI (o:Int),zI a,zI b,zI e,zI f]⟩,vq] ro [] (λr Y=>∃zs,bI r 3 41 bO zs Y/\zs.length<=12):=by
 have nP:=hS;obtain⟨ws,ht,dY⟩:=hS;obtain⟨fZ,xg,xe,eR,rfl,xf,ou,oh⟩:=ht;have Ar:=dY.len;have nI:=hO.two;have MS:=Ah hO hc he;have Yo:=Iq hO MS;have hmq:=VY (S:=S) (c:=⟨k,s,o,a,b,e,f⟩) (H:=aH S);have Ym:=hq;obtain⟨qqa,qqb,qqo,qqc,rfl,qqk,qqh,qql⟩:=hq;refine zE<|zD 2<|jn λb3=>jn λb4=>jd 10 [1,0]<|jc (vs:=[.agg ⟨[.slice fZ ws.length eR]⟩,.agg ⟨[zI k,zI (s:Int),zI (o:Int),zI a,zI b,zI e,zI f]⟩]) [] (anT nP hO hc he) ?_;rintro v12 L12 aSH;obtain⟨aDQ,amA,bgo⟩:=aSH.form;subst bgo;refine zD 4<|jf [0] L12 (λAD fq iu=>?_);have bem:=aSH.ju iu;obtain⟨blx,blw,bls,blv,aBx,blu,aAP,aAO⟩:=bem;simp only[Value.slice.injEq] at aBx;obtain⟨rfl,_,rfl⟩:=aBx;refine zD 4<|uI<|iz [1,1,1,0,1,0,0] [] (λ(zz:Nat×Value×Cells×(List ak))=>[(2,.slice qqa ps.length qqc),(6,zS),(7,zz.2.1),(8,.slice aDQ (((aH S).flatMap (Io S ⟨k,s,o,a,b,e,f⟩)).length) amA),(9,zI (zz.1:Int))]) (λzz=>[.l zz.2.2.1,zxc b4 100 [zI k,zI (s:Int),zI (o:Int),zI a,zI b,zI e,zI f],zxc b3 24 [.slice fZ ws.length eR]]) (λzz=>zz.1<=((aH S).flatMap (Io S ⟨k,s,o,a,b,e,f⟩)).length/\bI zz.2.1 3 41 bO zz.2.2.2 zz.2.2.1/\zz.2.2.2.Sublist ((((aH S).flatMap (Io S ⟨k,s,o,a,b,e,f⟩)).take zz.1).map (·.2))) (λzz=>((aH S).flatMap (Io S ⟨k,s,o,a,b,e,f⟩)).length-zz.1) (⟨0,zS,[],[]⟩) ⟨Nat.zero_le _,bI.nil _ _ _,.slnil⟩ [0,1,2] ?_;rintro⟨i,v,L,qs⟩ hI K1 cU rest;dsimp only at hI;have hqi:=hI.2.2.length_le;rw[List.length_map,List.length_take] at hqi;refine zD 8<|zJ 16 ((i:Int) <(((aH S).flatMap (Io S ⟨k,s,o,a,b,e,f⟩)).length:Int)) (λh4=>?_) λh4=>?_
 ·
  refine zD 9<|zxs ((aH S).flatMap (Io S ⟨k,s,o,a,b,e,f⟩)) i amA 6 aAP λNm jL=>zD 1<|jl 0 (aAO _ _ jL)<|jc (vs:=[.slice qqa ps.length qqc,.agg ⟨[zI Nm.1.h,zI Nm.1.n,zI Nm.1.l]⟩]) [] (rIn (x:=Nm.1) (Ym.up fq) hqc) ?_;rintro _ _ ⟨c25,rfl,rfl⟩;refine jg 0 []<|zD 1<|js 25 c25 (λh5=>?_) (λh5=>?_)
  ·
   subst h5;refine zD 5<|zxs ((aH S).flatMap (Io S ⟨k,s,o,a,b,e,f⟩)) i amA 6 aAP λMl xu=>zD 1<|jl 3 (aAO _ _ xu)<|jn λb32=>zxl bO b32 (⟨Ml.2.h,Ml.2.n,Ml.2.l⟩:ak) 1 0 (hI.2.1) (λbau bac L33 aqs=>?_) (hb:=by simp only[List.length_cons,List.length_nil];omega);refine zD 4<|zW ((i:Int)+1)<|zD 2<|zF cU (⟨i+1,(.slice bau ((qs++[(⟨Ml.2.h,Ml.2.n,Ml.2.l⟩:ak)])).length bac),L33,(qs++[(⟨Ml.2.h,Ml.2.n,Ml.2.l⟩:ak)])⟩) ⟨aqs,by dsimp only;rw[c8 xu,List.map_append];exact hI.2.2.append (.refl _)⟩ [0,2,3]
  subst h5;refine zD 4<|zW ((i:Int)+1)<|zD 2<|zF cU (⟨i+1,v,L,qs⟩) ⟨hI.2.1,by dsimp only;rw[c8 jL,List.map_append];exact hI.2.2.trans (List.sublist_append_left _ _)⟩ [0,1,2]
 refine zD 3 ?_;have hqs:qs.Sublist ((aH S).flatMap (gk S ⟨k,s,o,a,b,e,f⟩)):=by rw[<-apa];exact hI.2.2.trans ((List.take_sublist _ _).map _)
 have hqn:=hqs.nodup (aeb hO MS);have hqq:qs.length<=12:=bZ hqs.length_le Yo;refine jf [0] L (λro8 SN hk7=>?_);have hzp:=hI.2.1.ju hk7;obtain⟨yR,GP,GN,wB,rfl,GO,CY,CX⟩:=hzp;refine zD 2<|jc (vs:=[.slice yR qs.length wB]) [] (VF (v:= .slice yR qs.length wB) (xs:=qs) ⟨yR,GP,GN,wB,rfl,GO,CY,CX⟩ hqn hqq) ?_;rintro v35 L35 bfo;refine zD 3<|cd q0.a.a (v35) [] [0] L35 (fq.trans SN) ⟨_,_,rfl,rfl,_,bfo,by rw[xT hqn Kx];exact hqq⟩
structure HE where
 wa:Option Addr
 wn:Nat
 wc:Nat
 ea:Option Addr
 en:Nat
 ec:Nat
 ha:Option Addr
 hn:Nat
 hc:Nat
abbrev eTf(t:HE):List Value:=[.slice t.wa t.wn t.wc,.slice t.ea t.en t.ec,.slice t.ha t.hn t.hc]
structure alg(ro:Nat->Option Obj)(vw ve vh:Value)(x:yD)(d:Nat):Prop where
 w:∃ws,dk ro vw 1 eC ws/\ws.length=d
 e:bH ro ve x.fin
 h:∃hv hs,dk ro vh 1 qa hv/\kz (λw l=>dk ro w 3 bO l) hv hs/\hv.length<=6/\∀l∈hs,l.length<=100
theorem asj{rest:List (List aT)}{x:yD}{l:List aT}:ry rest x l i<=(pX (l::rest) x).length:=by
 grind [yw,ry,fH,aL]
theorem aA2{S:List (List au)}{c:aT}(hc:n9 S c):0<=c.ot:=by
 by_cases h:c.k=4\/c.k=7
 .exact(hc.ot h).1
 rw[hc.no h];grind
def pL{v:Value}{S:List (List au)}{c:aT}(hS:bH ro v S)(hO:cq S)(hc:n9 S c)(he:iO S c=0):eT zT 293 [.agg ⟨[v]⟩,.agg ⟨p6 c⟩] ro [] (λr Y=>∃ra rn rc,r= .agg ⟨[.slice ra rn rc]⟩/\∀bU,Knows bU Y->bH bU (.slice ra rn rc) (y3 S c)):=by
 obtain⟨k,s,o,a,b,e,f⟩:=c;have h1:=hc.st.1;have h2:=aA2 hc;obtain⟨s,rfl⟩:=dR h1;obtain⟨o,rfl⟩:=dR h2;exact aOD hS hO hc he
def ajj{v:Value}{S:List (List au)}{ps:List ak}{c:aT}(hS:bH ro v S)(hO:cq S)(hc:n9 S c)(he:iO S c=0)(hq:dk ro vq 3 bO ps)(hqc:ps.length<=100):eT zT 294 [.agg ⟨[v]⟩,.agg ⟨p6 c⟩,vq] ro [] (λr Y=>∃zs,bI r 3 41 bO zs Y/\zs.length<=12):=by
 obtain⟨k,s,o,a,b,e,f⟩:=c;have h1:=hc.st.1;have h2:=aA2 hc;obtain⟨s,rfl⟩:=dR h1;obtain⟨o,rfl⟩:=dR h2;exact anX hS hO hc he hq hqc
set_option maxHeartbeats 2000000 in
def anW {fa:Option Addr} {S:List (List au)} {x:yD} {l:List aT} {rs:List (List aT)} (hT:ku ro vT ways) (hW:qv S ways) (hwd:ways.drop d=l::rs) (Up:cq x.fin) (wK:x.fin.length=S.length) (hR:alg ro vW vE vH x d) (hg4:(pX (l::rs) x).length<=4) (hg:∀(i:Nat) (c:aT),l[i]?=some c->(pX rs (DV x i c)).length<=4) (hG:∀(i:Nat) (c:aT),l[i]?=some c->iO x.fin c=0->∀ {cK:Nat->Option Obj},Sub ro cK->∀ {w e h:Value},alg cK w e h (DV x i c) (d+1)->eT zT 257 [.agg ⟨[vS,vT,.slice fa 0 fc]⟩,.agg ⟨[w,e,h]⟩] cK [] (λr Y=>∃es,bI r 3 304 eTf es Y/\es.length=(pX rs (DV x i c)).length)):eT zT 257 [.agg ⟨[vS,vT,.slice fa 0 fc]⟩,.agg ⟨[vW,vE,vH]⟩] ro [] (λr Y=>∃es,bI r 3 304 eTf es Y/\es.length=(pX (l::rs) x).length):=by
 have hwl:=qz List.length hwd;simp only[rD,aJ] at hwl;have hle:ways[d]?=some l:=by have:=qz (·[0]?) hwd;simpa using this
 obtain⟨nn,ht,j8⟩:=id hT;obtain⟨fZ,xg,xe,eR,rfl,xf,ou,oh⟩:=ht;have hl7:=j8.len;have hwt:=hW.two;obtain⟨⟨q8,hw,hwn⟩,Sd,hv,JA,hh,hA,hv6,aBG⟩:=hR;obtain⟨wC,R3,R2,uF,rfl,qwk,MB,MA⟩:=hw;obtain⟨rE,Zx,Zv,qV,rfl,Zw,VK,VJ⟩:=hh;have hl8:=hA.len;have Pb:∀(i:Nat) (p:jo),([]:List jo)[i]?=some p->eW ⟨ro,[]⟩ 0 (0+i*6) 6 (p5 p):=λ_ _ h=>wU h;refine zE<|zD 2<|jn λb2=>jn λb3=>jd 13 [0,1]<|zJ 16 ((q8.length:Int)=(nn.length:Int)) (λh1=>?_) λh1=>?_
 ·
  exfalso;omega
 refine jd 13 [1,0]<|zxs nn q8.length eR 1 ou λOC Ed=>zD 1 ?_;obtain⟨l26,aqT,h26⟩:=j8.get Ed;obtain aHF:=hW.ok _ (zL aqT);obtain aTs:l26=l:=Option.some.inj (aqT.symm.trans (by rw[hwn];exact hle));obtain⟨an7,bcE,bcC,Zy,rfl,bcD,av3,av2⟩:=h26;refine jl 0 (oh _ _ Ed)<|zD 8<|uI<|iz [1,1,1,1,0,1,0,0] [] (λ(zz:Nat×Value×Cells×(List HE))=>[(2,zP b2),(3,zP b3),(4,zS),(5,zz.2.1),(6,.slice an7 l26.length Zy),(7,zI (zz.1:Int))]) (λzz=>[.l zz.2.2.1,zxc b3 304 [.slice wC q8.length uF,vE,.slice rE hv.length qV],zxc b2 28 [vS,.slice fZ nn.length eR,.slice fa 0 fc]]) (λzz=>zz.1<=l26.length/\bI zz.2.1 3 304 eTf zz.2.2.2 zz.2.2.1/\zz.2.2.2.length=ry rs x l zz.1) (λzz=>l26.length-zz.1) (⟨0,zS,[],[]⟩) ⟨Nat.zero_le _,bI.nil _ _ _,by simp[ry]⟩ [0,1,2] ?_;rintro⟨i,vO,LO,es⟩ hI K1 cU rest;dsimp only at hI;have hgn:=asj (rest:=rs) (x:=x) (l:=l) (i:=i);refine zD 8<|zJ 30 ((i:Int) <(l26.length:Int)) (λh2=>?_) λh2=>?_
 ·
  refine jd 11 [1]<|zxt l26 i Zy 7 av3 av2 λj6 pd=>zxo 6 (λC7=>?_);have Eh:=(aHF.2 _ (zL pd)).gf wK;have zh:l[i]?=some j6:=by rw[<-aTs];exact pd
  refine jc (vs:=[.agg ⟨[vE]⟩,.agg ⟨[zI j6.k,zI j6.st,zI j6.ot,zI j6.fn,zI j6.fl,zI j6.tn,zI j6.tl]⟩]) [] (bbO (s:=j6.st) (o:=j6.ot) Sd Up Eh) ?_;rintro _ _ ⟨rfl,rfl⟩;refine jg 0 []<|eH C7 [0,1,2]<|zD 2<|js 40 (!decide ((iO x.fin j6)=0)) (λh4=>?_) (λh4=>?_)
  ·
   replace h4:=of_decide_eq_false (by simpa using h4);refine zD 4<|zW ((i:Int)+1)<|zD 2<|zF cU (⟨i+1,vO,LO,es⟩) ⟨hI.2.1,by dsimp only;rw[abq zh (by simp_all)];exact hI.2.2⟩ [0,1,2]
  replace h4:=ah (by simpa using h4);refine zD 3<|Yk [1,1,1,1,0,1,0,0,1,0,0,1,1] [K1] (λ(zz:Value×Cells×(Option Addr)×Nat×Nat×Cells×Nat)=>[(2,zP b2),(3,zP b3),(4,zS),(5,vO),(6,.slice an7 l26.length Zy),(7,zI (i:Int)),(8,zP zz.2.2.2.2.2.2)]) (λzz=>[.b zz.2.2.2.2.2.2 (.cells ⟨[zz.1,.slice zz.2.2.1 zz.2.2.2.1 zz.2.2.2.2.1,zS]⟩ 304 (0,0)),.l zz.2.1,.l zz.2.2.2.2.2.1,.l LO,zxc b3 304 [.slice wC q8.length uF,vE,.slice rE hv.length qV],zxc b2 28 [vS,.slice fZ nn.length eR,.slice fa 0 fc]]) (λzz=>bI zz.1 1 3 eC (q8++[(i:Int)]) zz.2.1/\∀bU,Knows bU zz.2.2.2.2.2.1->bH bU (.slice zz.2.2.1 zz.2.2.2.1 zz.2.2.2.2.1) (y3 x.fin j6)) ?_ (λK3 Dq=>?_)
  ·
   rintro⟨vW,LW,ea,en,ec,LE,b8⟩ hQ rest;dsimp only at hQ;have II:iO x.fin j6=0:=by simp_all
   refine zD 6<|uI<|uI<|iz [1,1,1,1,0,1,0,0,1,0,0,1,1,0,1,0,0] [K1] (λ(zz:Nat×Value×Cells×(List Value)×Cells×(List (List ak)))=>[(2,zP b2),(3,zP b3),(4,zS),(5,vO),(6,.slice an7 l26.length Zy),(7,zI (i:Int)),(8,zP b8),(9,zI (zz.1:Int))]) (λ(zz:Nat×Value×Cells×(List Value)×Cells×(List (List ak)))=>[zxc b8 304 [vW,.slice ea en ec,zz.2.1],.l zz.2.2.1,.l zz.2.2.2.2.1,.l LW,.l LE,.l LO,zxc b3 304 [.slice wC q8.length uF,vE,.slice rE hv.length qV],zxc b2 28 [vS,.slice fZ nn.length eR,.slice fa 0 fc]]) (λ(zz:Nat×Value×Cells×(List Value)×Cells×(List (List ak)))=>(zz.1<=hv.length/\zz.2.2.2.1.length=zz.1)/\bI zz.2.1 1 70 qa zz.2.2.2.1 zz.2.2.1/\(∀bU,Knows bU zz.2.2.2.2.1->kz (λw l=>dk bU w 3 bO l) zz.2.2.2.1 zz.2.2.2.2.2)/\∀l∈zz.2.2.2.2.2,l.length<=100) (λ(zz:Nat×Value×Cells×(List Value)×Cells×(List (List ak)))=>hv.length-zz.1) (⟨0,zS,[],[],[],[]⟩) ⟨⟨Nat.zero_le _,rfl⟩,bI.nil _ _ _,λ_ _=> .nil,nofun⟩ [2,1,0,3,4,5,6,7] ?_;rintro⟨j,vN,LN,nv,Z,ns⟩ hJ K4 hK4 rest;dsimp only at hJ;refine jd 9 [6]<|zJ 60 ((j:Int) <(hv.length:Int)) (λh5=>?_) λh5=>?_
   ·
    refine jd 11 [0,6]<|zxt l26 i Zy 7 av3 av2 λx69 aGJ=>jd 3 [6]<|zxs hv j qV 1 VK (λx74 aGH=>?_);obtain⟨l75,bfS,h75⟩:=hA.get aGH;obtain bfF:=aBG _ (zL bfS);obtain⟨aE7,bch,bcc,aE6,rfl,bcf,bcg,bcd⟩:=h75;refine jl 0 (VJ _ _ aGH)<|zxo 13 (λC6=>?_);have e69:x69=j6:=Option.some.inj (aGJ.symm.trans pd);have beh:dk _ (.slice aE7 l75.length aE6) 3 bO l75:=⟨aE7,bch,bcc,aE6,rfl,bcf,bcg,bcd⟩;refine jc (vs:=[.agg ⟨[vE]⟩,.agg ⟨[zI x69.k,zI x69.st,zI x69.ot,zI x69.fn,zI x69.fl,zI x69.tn,zI x69.tl]⟩,.slice aE7 l75.length aE6]) [] (ajj (c:=x69) Sd Up (by rw[e69];exact Eh) (by rw[e69];exact II) beh bfF) ?_;rintro v76 L76 ⟨aiJ,aSz,bqN⟩;obtain⟨ac9,ac6,bgk⟩:=aSz.form;subst bgk;refine eH C6 (zN 1 8)<|zxo 14 λKX=>jn λb77=>eH KX (zN 1 9)<|zxo 15 λKW=>gB (sz:=1) (ps:=nv) (qs:=[((.slice ac9 aiJ.length ac6):Value)]) (enc:=qa) (w:= .slice (some ⟨b77,0,none⟩) 1 1) [3] [0] [(b77,.cells ⟨([((.slice ac9 aiJ.length ac6):Value)].map qa).flatten⟩ 70 (0,0))] (hJ.2.1) (λs _ hZ=>dg [((.slice ac9 aiJ.length ac6):Value)] (hZ _ (.head _)) (by intro p hp;rfl)) (by intro p hp;rw[List.mem_singleton] at hp;subst hp;exact aG rfl) (by simp<;>omega) (λv78 L78 aqk=>?_);obtain⟨baj,aZ2,bgx⟩:=aqk.form;subst bgx;refine ee KW [[8]]<|zD 1<|zxo 17 λWJ=>jd 1 [3]<|kA WJ<|zD 3<|zW ((j:Int)+1)<|zD 2<|zV hK4 (⟨j+1,(.slice baj ((nv++[((.slice ac9 aiJ.length ac6):Value)])).length aZ2),L78,(nv++[((.slice ac9 aiJ.length ac6):Value)]),L76++Z,(ns++[aiJ])⟩) ⟨⟨by dsimp only;omega,by simp only[zM];omega⟩,aqk,λbU hk=>(hJ.2.2.1 bU hk.right).snoc (aSz.ju hk.left),λl hl=>by rcases List.mem_append.1 hl with h|h;exact hJ.2.2.2 l h;simp at h;subst h;omega⟩ [[3],[0],[2,4],[5],[6],[7],[8],[9]]
   refine zD 2<|jf [3,4,1,2] (LW++(LE++(LN++Z))) (λavI Qh Wz=>?_);have bhx:alg avI vW (.slice ea en ec) vN (DV x i j6) (d+1):=⟨⟨_,hQ.1.ju (Knows.left Wz),by rw[List.length_append,hwn];rfl⟩,hQ.2 _ (Knows.left (Knows.right Wz)),_,ns,hJ.2.1.ju (Knows.left (Knows.right (Knows.right Wz))),(hJ.2.2.1 _ (Knows.right (Knows.right (Knows.right Wz)))),by omega,hJ.2.2.2⟩;refine jd 4 [3,0]<|jc (vs:=[.agg ⟨[vS,.slice fZ nn.length eR,.slice fa 0 fc]⟩,.agg ⟨[vW,.slice ea en ec,vN]⟩]) [] ((hG i j6 zh II Qh bhx)) ?_;rintro v83 L83 ⟨ayH,aSx,bgw⟩;obtain⟨aNp,aNn,bgj⟩:=aSx.form;subst bgj;refine jf [0] L83 (λaOz aHa aeX=>?_);have beg:=aSx.ju aeX;obtain⟨bla,aON,aOK,bk9,aBt,bk8,aOM,aOL⟩:=beg;simp only[Value.slice.injEq] at aBt;obtain⟨rfl,_,rfl⟩:=aBt;refine zxk eTf 1 aNn (hI.2.1) aOM aOL (λaDJ aDC L84 Qk=>?_) (hb:=by have:=hg i j6 zh;omega);refine zD 4<|zW ((i:Int)+1)<|zD 2<|dX cU (⟨i+1,(.slice aDJ ((es++ayH)).length aDC),L84,(es++ayH)⟩) ⟨by dsimp only;omega,Qk,by dsimp only;rw[Us zh II,List.length_append,hI.2.2,bgw]⟩ (by dsimp only;omega) [0,2,3] (Qh.trans aHa)
  have II:iO x.fin j6=0:=by simp_all
  refine jd 8 [1,1]<|zxt l26 i Zy 7 av3 av2 λfD sM=>vg [0,5,15] ⟨λ_ _ KZ=>?_,λ_ _ QH=>?_,λ_ _ Hk=>?_,trivial⟩
  ·
   refine jn λb41=>eH KZ [1,2,3]<|vg [3,5,15] ⟨λ_ _ QG=>?_,λ_ _ WT=>?_,λ_ _ afk=>?_,trivial⟩
   ·
    refine zxq eC b41 3 0 uF MB MA λOL OI L44 eK=>ee QG [[],[2]]<|vg [5,15] ⟨λ_ _ WQ=>?_,λ_ _ WN=>?_,trivial⟩
    ·
     refine jn λzy=>eH WQ (zN 1 4)<|vg [6,15] ⟨λ_ _ afg=>?_,λ_ _ QE=>?_,trivial⟩
     ·
      refine zxl eC zy (i:Int) 1 0 (eK) λnD nA BA eO=>ee afg [[],[3]]<|vg [13,15] ⟨λ_ _ QC=>?_,λ_ _ WL=>?_,trivial⟩
      ·
       have qu:fD=j6:=aK (sM.symm.trans pd);refine jc (vs:=[.agg ⟨[vE]⟩,.agg ⟨[zI fD.k,zI fD.st,zI fD.ot,zI fD.fn,zI fD.fl,zI fD.tn,zI fD.tl]⟩]) [] (pL (c:=fD) Sd Up (by rw[qu];exact Eh) (by rw[qu];exact II)) ?_;rintro _ yF ⟨EN,DX,ED,rfl,qt⟩;refine eH QC (zN 1 5)<|zD 1<|zxo 15 λafc=>jn λb8=>eH afc (zN 1 6)<|zxo 16 λafb=>jd 1 [0]<|kA afb<|zD 1<|zY Dq ⟨(.slice nD ((q8++[(i:Int)])).length nA),BA,EN,DX,ED,yF,b8⟩ ⟨eO,by rw[<-qu];exact qt⟩ [0,2,1,4,5,6]
      refine jn λb8=>eH WL (zN 1 5)<|zxo 13 (λafa=>?_);have qu:fD=j6:=aK (sM.symm.trans pd);refine jc (vs:=[.agg ⟨[vE]⟩,.agg ⟨[zI fD.k,zI fD.st,zI fD.ot,zI fD.fn,zI fD.fl,zI fD.tn,zI fD.tl]⟩]) [] (pL (c:=fD) Sd Up (by rw[qu];exact Eh) (by rw[qu];exact II)) ?_;rintro _ yF ⟨EN,DX,ED,rfl,qt⟩;refine eH afa (zN 1 6)<|zD 1<|zxo 16 λaru=>jd 1 [1]<|kA aru<|zD 1<|zY Dq ⟨(.slice nD ((q8++[(i:Int)])).length nA),BA,EN,DX,ED,yF,b8⟩ ⟨eO,by rw[<-qu];exact qt⟩ [1,2,0,4,5,6]
     refine jn λb8=>eH QE (zN 1 5)<|zxo 6 λart=>zxl eC zy (i:Int) 2 1 (eK) λnD nA BA eO=>ee art [[],[4]]<|zxo 13 (λars=>?_);have qu:fD=j6:=aK (sM.symm.trans pd);refine jc (vs:=[.agg ⟨[vE]⟩,.agg ⟨[zI fD.k,zI fD.st,zI fD.ot,zI fD.fn,zI fD.fl,zI fD.tn,zI fD.tl]⟩]) [] (pL (c:=fD) Sd Up (by rw[qu];exact Eh) (by rw[qu];exact II)) ?_;rintro _ yF ⟨EN,DX,ED,rfl,qt⟩;refine eH ars (zN 1 6)<|zD 1<|zxo 16 λaJg=>jd 1 [2]<|kA aJg<|zD 1<|zY Dq ⟨(.slice nD ((q8++[(i:Int)])).length nA),BA,EN,DX,ED,yF,b8⟩ ⟨eO,by rw[<-qu];exact qt⟩ [2,1,0,4,5,6]
    refine jn λb8=>eH WN (zN 1 4)<|zxo 5 λaJf=>jn λzy=>eH aJf (zN 1 5)<|zxo 6 λarq=>zxl eC zy (i:Int) 2 0 (eK) λnD nA BA eO=>ee arq [[],[4]]<|zxo 13 (λaJe=>?_);have qu:fD=j6:=aK (sM.symm.trans pd);refine jc (vs:=[.agg ⟨[vE]⟩,.agg ⟨[zI fD.k,zI fD.st,zI fD.ot,zI fD.fn,zI fD.fl,zI fD.tn,zI fD.tl]⟩]) [] (pL (c:=fD) Sd Up (by rw[qu];exact Eh) (by rw[qu];exact II)) ?_;rintro _ yF ⟨EN,DX,ED,rfl,qt⟩;refine eH aJe (zN 1 6)<|zD 1<|zxo 16 λbhQ=>jd 1 [3]<|kA bhQ<|zD 1<|zY Dq ⟨(.slice nD ((q8++[(i:Int)])).length nA),BA,EN,DX,ED,yF,b8⟩ ⟨eO,by rw[<-qu];exact qt⟩ [3,1,0,4,5,6]
   ·
    refine jn λzy=>eH WT (zN 1 4)<|vg [3,15] ⟨λ_ _ bhN=>?_,λ_ _ aJd=>?_,trivial⟩
    ·
     refine zxq eC b41 3 1 uF MB MA λOL OI L44 eK=>ee bhN [[],[3]]<|vg [6,15] ⟨λ_ _ arp=>?_,λ_ _ aI8=>?_,trivial⟩
     ·
      refine zxl eC zy (i:Int) 0 1 (eK) λnD nA BA eO=>ee arp [[],[3]]<|vg [13,15] ⟨λ_ _ aI7=>?_,λ_ _ aI6=>?_,trivial⟩
      ·
       have qu:fD=j6:=aK (sM.symm.trans pd);refine jc (vs:=[.agg ⟨[vE]⟩,.agg ⟨[zI fD.k,zI fD.st,zI fD.ot,zI fD.fn,zI fD.fl,zI fD.tn,zI fD.tl]⟩]) [] (pL (c:=fD) Sd Up (by rw[qu];exact Eh) (by rw[qu];exact II)) ?_;rintro _ yF ⟨EN,DX,ED,rfl,qt⟩;refine eH aI7 (zN 1 5)<|zD 1<|zxo 15 λaI5=>jn λb8=>eH aI5 (zN 1 6)<|zxo 16 λaI4=>jd 1 [0]<|kA aI4<|zD 1<|zY Dq ⟨(.slice nD ((q8++[(i:Int)])).length nA),BA,EN,DX,ED,yF,b8⟩ ⟨eO,by rw[<-qu];exact qt⟩ [0,2,1,4,5,6]
      refine jn λb8=>eH aI6 (zN 1 5)<|zxo 13 (λaI3=>?_);have qu:fD=j6:=aK (sM.symm.trans pd);refine jc (vs:=[.agg ⟨[vE]⟩,.agg ⟨[zI fD.k,zI fD.st,zI fD.ot,zI fD.fn,zI fD.fl,zI fD.tn,zI fD.tl]⟩]) [] (pL (c:=fD) Sd Up (by rw[qu];exact Eh) (by rw[qu];exact II)) ?_;rintro _ yF ⟨EN,DX,ED,rfl,qt⟩;refine eH aI3 (zN 1 6)<|zD 1<|zxo 16 λaI2=>jd 1 [1]<|kA aI2<|zD 1<|zY Dq ⟨(.slice nD ((q8++[(i:Int)])).length nA),BA,EN,DX,ED,yF,b8⟩ ⟨eO,by rw[<-qu];exact qt⟩ [1,2,0,4,5,6]
     refine jn λb8=>eH aI8 (zN 1 5)<|zxo 6 λaI1=>zxl eC zy (i:Int) 1 2 (eK) λnD nA BA eO=>ee aI1 [[],[4]]<|zxo 13 (λaI0=>?_);have qu:fD=j6:=aK (sM.symm.trans pd);refine jc (vs:=[.agg ⟨[vE]⟩,.agg ⟨[zI fD.k,zI fD.st,zI fD.ot,zI fD.fn,zI fD.fl,zI fD.tn,zI fD.tl]⟩]) [] (pL (c:=fD) Sd Up (by rw[qu];exact Eh) (by rw[qu];exact II)) ?_;rintro _ yF ⟨EN,DX,ED,rfl,qt⟩;refine eH aI0 (zN 1 6)<|zD 1<|zxo 16 λaIZ=>jd 1 [2]<|kA aIZ<|zD 1<|zY Dq ⟨(.slice nD ((q8++[(i:Int)])).length nA),BA,EN,DX,ED,yF,b8⟩ ⟨eO,by rw[<-qu];exact qt⟩ [2,1,0,4,5,6]
    refine jn λb8=>eH aJd (zN 1 5)<|zxo 3 λaIY=>zxq eC b41 3 2 uF MB MA λOL OI L44 eK=>ee aIY [[],[4]]<|zxo 6 λbhG=>zxl eC zy (i:Int) 0 2 (eK) λnD nA BA eO=>ee bhG [[],[4]]<|zxo 13 (λbhF=>?_);have qu:fD=j6:=aK (sM.symm.trans pd);refine jc (vs:=[.agg ⟨[vE]⟩,.agg ⟨[zI fD.k,zI fD.st,zI fD.ot,zI fD.fn,zI fD.fl,zI fD.tn,zI fD.tl]⟩]) [] (pL (c:=fD) Sd Up (by rw[qu];exact Eh) (by rw[qu];exact II)) ?_;rintro _ yF ⟨EN,DX,ED,rfl,qt⟩;refine eH bhF (zN 1 6)<|zD 1<|zxo 16 λaIX=>jd 1 [2]<|kA aIX<|zD 1<|zY Dq ⟨(.slice nD ((q8++[(i:Int)])).length nA),BA,EN,DX,ED,yF,b8⟩ ⟨eO,by rw[<-qu];exact qt⟩ [2,1,0,4,5,6]
   refine jn λb8=>eH afk (zN 1 4)<|vg [3,5] ⟨λ_ _ aIW=>?_,λ_ _ aIV=>?_,trivial⟩
   ·
    refine zxq eC b41 3 1 uF MB MA λOL OI L44 eK=>ee aIW [[],[3]]<|zxo 5 λaIU=>jn λzy=>eH aIU (zN 1 5)<|zxo 6 λaIT=>zxl eC zy (i:Int) 1 0 (eK) λnD nA BA eO=>ee aIT [[],[4]]<|zxo 13 (λaIS=>?_);have qu:fD=j6:=aK (sM.symm.trans pd);refine jc (vs:=[.agg ⟨[vE]⟩,.agg ⟨[zI fD.k,zI fD.st,zI fD.ot,zI fD.fn,zI fD.fl,zI fD.tn,zI fD.tl]⟩]) [] (pL (c:=fD) Sd Up (by rw[qu];exact Eh) (by rw[qu];exact II)) ?_;rintro _ yF ⟨EN,DX,ED,rfl,qt⟩;refine eH aIS (zN 1 6)<|zD 1<|zxo 16 λaIR=>jd 1 [3]<|kA aIR<|zD 1<|zY Dq ⟨(.slice nD ((q8++[(i:Int)])).length nA),BA,EN,DX,ED,yF,b8⟩ ⟨eO,by rw[<-qu];exact qt⟩ [3,1,0,4,5,6]
   refine jn λzy=>eH aIV (zN 1 5)<|zxo 3 λaIQ=>zxq eC b41 3 2 uF MB MA λOL OI L44 eK=>ee aIQ [[],[4]]<|zxo 6 λaIP=>zxl eC zy (i:Int) 0 1 (eK) λnD nA BA eO=>ee aIP [[],[4]]<|zxo 13 (λaIO=>?_);have qu:fD=j6:=aK (sM.symm.trans pd);refine jc (vs:=[.agg ⟨[vE]⟩,.agg ⟨[zI fD.k,zI fD.st,zI fD.ot,zI fD.fn,zI fD.fl,zI fD.tn,zI fD.tl]⟩]) [] (pL (c:=fD) Sd Up (by rw[qu];exact Eh) (by rw[qu];exact II)) ?_;rintro _ yF ⟨EN,DX,ED,rfl,qt⟩;refine eH aIO (zN 1 6)<|zD 1<|zxo 16 λaIN=>jd 1 [3]<|kA aIN<|zD 1<|zY Dq ⟨(.slice nD ((q8++[(i:Int)])).length nA),BA,EN,DX,ED,yF,b8⟩ ⟨eO,by rw[<-qu];exact qt⟩ [3,1,0,4,5,6]
  ·
   refine jn λzy=>eH QH [1,2,3]<|vg [0,15] ⟨λ_ _ ar7=>?_,λ_ _ ar6=>?_,trivial⟩
   ·
    refine jn λb41=>eH ar7 (zN 1 4)<|vg [3,15] ⟨λ_ _ ar5=>?_,λ_ _ ar4=>?_,trivial⟩
    ·
     refine zxq eC b41 3 0 uF MB MA λOL OI L44 eK=>ee ar5 [[],[3]]<|vg [6,15] ⟨λ_ _ ar3=>?_,λ_ _ ar2=>?_,trivial⟩
     ·
      refine zxl eC zy (i:Int) 0 1 (eK) λnD nA BA eO=>ee ar3 [[],[3]]<|vg [13,15] ⟨λ_ _ ar1=>?_,λ_ _ ar0=>?_,trivial⟩
      ·
       have qu:fD=j6:=aK (sM.symm.trans pd);refine jc (vs:=[.agg ⟨[vE]⟩,.agg ⟨[zI fD.k,zI fD.st,zI fD.ot,zI fD.fn,zI fD.fl,zI fD.tn,zI fD.tl]⟩]) [] (pL (c:=fD) Sd Up (by rw[qu];exact Eh) (by rw[qu];exact II)) ?_;rintro _ yF ⟨EN,DX,ED,rfl,qt⟩;refine eH ar1 (zN 1 5)<|zD 1<|zxo 15 λarZ=>jn λb8=>eH arZ (zN 1 6)<|zxo 16 λarY=>jd 1 [0]<|kA arY<|zD 1<|zY Dq ⟨(.slice nD ((q8++[(i:Int)])).length nA),BA,EN,DX,ED,yF,b8⟩ ⟨eO,by rw[<-qu];exact qt⟩ [0,2,1,4,5,6]
      refine jn λb8=>eH ar0 (zN 1 5)<|zxo 13 (λarX=>?_);have qu:fD=j6:=aK (sM.symm.trans pd);refine jc (vs:=[.agg ⟨[vE]⟩,.agg ⟨[zI fD.k,zI fD.st,zI fD.ot,zI fD.fn,zI fD.fl,zI fD.tn,zI fD.tl]⟩]) [] (pL (c:=fD) Sd Up (by rw[qu];exact Eh) (by rw[qu];exact II)) ?_;rintro _ yF ⟨EN,DX,ED,rfl,qt⟩;refine eH arX (zN 1 6)<|zD 1<|zxo 16 λarW=>jd 1 [1]<|kA arW<|zD 1<|zY Dq ⟨(.slice nD ((q8++[(i:Int)])).length nA),BA,EN,DX,ED,yF,b8⟩ ⟨eO,by rw[<-qu];exact qt⟩ [1,2,0,4,5,6]
     refine jn λb8=>eH ar2 (zN 1 5)<|zxo 6 λarV=>zxl eC zy (i:Int) 1 2 (eK) λnD nA BA eO=>ee arV [[],[4]]<|zxo 13 (λarU=>?_);have qu:fD=j6:=aK (sM.symm.trans pd);refine jc (vs:=[.agg ⟨[vE]⟩,.agg ⟨[zI fD.k,zI fD.st,zI fD.ot,zI fD.fn,zI fD.fl,zI fD.tn,zI fD.tl]⟩]) [] (pL (c:=fD) Sd Up (by rw[qu];exact Eh) (by rw[qu];exact II)) ?_;rintro _ yF ⟨EN,DX,ED,rfl,qt⟩;refine eH arU (zN 1 6)<|zD 1<|zxo 16 λarT=>jd 1 [2]<|kA arT<|zD 1<|zY Dq ⟨(.slice nD ((q8++[(i:Int)])).length nA),BA,EN,DX,ED,yF,b8⟩ ⟨eO,by rw[<-qu];exact qt⟩ [2,1,0,4,5,6]
    refine jn λb8=>eH ar4 (zN 1 5)<|zxo 3 λarS=>zxq eC b41 3 1 uF MB MA λOL OI L44 eK=>ee arS [[],[4]]<|zxo 6 λarR=>zxl eC zy (i:Int) 0 2 (eK) λnD nA BA eO=>ee arR [[],[4]]<|zxo 13 (λarQ=>?_);have qu:fD=j6:=aK (sM.symm.trans pd);refine jc (vs:=[.agg ⟨[vE]⟩,.agg ⟨[zI fD.k,zI fD.st,zI fD.ot,zI fD.fn,zI fD.fl,zI fD.tn,zI fD.tl]⟩]) [] (pL (c:=fD) Sd Up (by rw[qu];exact Eh) (by rw[qu];exact II)) ?_;rintro _ yF ⟨EN,DX,ED,rfl,qt⟩;refine eH arQ (zN 1 6)<|zD 1<|zxo 16 λarP=>jd 1 [2]<|kA arP<|zD 1<|zY Dq ⟨(.slice nD ((q8++[(i:Int)])).length nA),BA,EN,DX,ED,yF,b8⟩ ⟨eO,by rw[<-qu];exact qt⟩ [2,1,0,4,5,6]
   refine jn λb8=>eH ar6 (zN 1 4)<|zxo 0 λarO=>jn λb41=>eH arO (zN 1 5)<|zxo 3 λarN=>zxq eC b41 3 0 uF MB MA λOL OI L44 eK=>ee arN [[],[4]]<|zxo 6 λarM=>zxl eC zy (i:Int) 0 2 (eK) λnD nA BA eO=>ee arM [[],[4]]<|zxo 13 (λarL=>?_);have qu:fD=j6:=aK (sM.symm.trans pd);refine jc (vs:=[.agg ⟨[vE]⟩,.agg ⟨[zI fD.k,zI fD.st,zI fD.ot,zI fD.fn,zI fD.fl,zI fD.tn,zI fD.tl]⟩]) [] (pL (c:=fD) Sd Up (by rw[qu];exact Eh) (by rw[qu];exact II)) ?_;rintro _ yF ⟨EN,DX,ED,rfl,qt⟩;refine eH arL (zN 1 6)<|zD 1<|zxo 16 λarK=>jd 1 [2]<|kA arK<|zD 1<|zY Dq ⟨(.slice nD ((q8++[(i:Int)])).length nA),BA,EN,DX,ED,yF,b8⟩ ⟨eO,by rw[<-qu];exact qt⟩ [2,1,0,4,5,6]
  refine jn λb8=>eH Hk [1,2,3]<|vg [0,5] ⟨λ_ _ arJ=>?_,λ_ _ arI=>?_,trivial⟩
  ·
   refine jn λb41=>eH arJ (zN 1 4)<|vg [3,5] ⟨λ_ _ aUc=>?_,λ_ _ aUa=>?_,trivial⟩
   ·
    refine zxq eC b41 3 0 uF MB MA λOL OI L44 eK=>ee aUc [[],[3]]<|zxo 5 λaT9=>jn λzy=>eH aT9 (zN 1 5)<|zxo 6 λarH=>zxl eC zy (i:Int) 1 0 (eK) λnD nA BA eO=>ee arH [[],[4]]<|zxo 13 (λaT8=>?_);have qu:fD=j6:=aK (sM.symm.trans pd);refine jc (vs:=[.agg ⟨[vE]⟩,.agg ⟨[zI fD.k,zI fD.st,zI fD.ot,zI fD.fn,zI fD.fl,zI fD.tn,zI fD.tl]⟩]) [] (pL (c:=fD) Sd Up (by rw[qu];exact Eh) (by rw[qu];exact II)) ?_;rintro _ yF ⟨EN,DX,ED,rfl,qt⟩;refine eH aT8 (zN 1 6)<|zD 1<|zxo 16 λaT7=>jd 1 [3]<|kA aT7<|zD 1<|zY Dq ⟨(.slice nD ((q8++[(i:Int)])).length nA),BA,EN,DX,ED,yF,b8⟩ ⟨eO,by rw[<-qu];exact qt⟩ [3,1,0,4,5,6]
   refine jn λzy=>eH aUa (zN 1 5)<|zxo 3 λarG=>zxq eC b41 3 1 uF MB MA λOL OI L44 eK=>ee arG [[],[4]]<|zxo 6 λaT6=>zxl eC zy (i:Int) 0 1 (eK) λnD nA BA eO=>ee aT6 [[],[4]]<|zxo 13 (λaT5=>?_);have qu:fD=j6:=aK (sM.symm.trans pd);refine jc (vs:=[.agg ⟨[vE]⟩,.agg ⟨[zI fD.k,zI fD.st,zI fD.ot,zI fD.fn,zI fD.fl,zI fD.tn,zI fD.tl]⟩]) [] (pL (c:=fD) Sd Up (by rw[qu];exact Eh) (by rw[qu];exact II)) ?_;rintro _ yF ⟨EN,DX,ED,rfl,qt⟩;refine eH aT5 (zN 1 6)<|zD 1<|zxo 16 λarF=>jd 1 [3]<|kA arF<|zD 1<|zY Dq ⟨(.slice nD ((q8++[(i:Int)])).length nA),BA,EN,DX,ED,yF,b8⟩ ⟨eO,by rw[<-qu];exact qt⟩ [3,1,0,4,5,6]
  refine jn λzy=>eH arI (zN 1 4)<|zxo 0 λarE=>jn λb41=>eH arE (zN 1 5)<|zxo 3 λarD=>zxq eC b41 3 0 uF MB MA λOL OI L44 eK=>ee arD [[],[4]]<|zxo 6 λarC=>zxl eC zy (i:Int) 0 1 (eK) λnD nA BA eO=>ee arC [[],[4]]<|zxo 13 (λarB=>?_);have qu:fD=j6:=aK (sM.symm.trans pd);refine jc (vs:=[.agg ⟨[vE]⟩,.agg ⟨[zI fD.k,zI fD.st,zI fD.ot,zI fD.fn,zI fD.fl,zI fD.tn,zI fD.tl]⟩]) [] (pL (c:=fD) Sd Up (by rw[qu];exact Eh) (by rw[qu];exact II)) ?_;rintro _ yF ⟨EN,DX,ED,rfl,qt⟩;refine eH arB (zN 1 6)<|zD 1<|zxo 16 λarA=>jd 1 [3]<|kA arA<|zD 1<|zY Dq ⟨(.slice nD ((q8++[(i:Int)])).length nA),BA,EN,DX,ED,yF,b8⟩ ⟨eO,by rw[<-qu];exact qt⟩ [3,1,0,4,5,6]
 refine zD 8<|zR _ [] [0] LO ⟨es,hI.2.1,by rw[hI.2.2,show i=l.length by rw[<-aTs];omega,Ut]⟩
def aji{fa:Option Addr}{S:List (List au)}{x:yD}(hT:ku ro vT ways)(hR:alg ro vW vE vH x d)(hd:ways.length=d):eT zT 257 [.agg ⟨[vS,vT,.slice fa 0 fc]⟩,.agg ⟨[vW,vE,vH]⟩] ro [] (λr Y=>∃es,bI r 3 304 eTf es Y/\es.length=1):=by
 obtain⟨nn,ht,j8⟩:=id hT;obtain⟨fZ,xg,xe,eR,rfl,xf,ou,oh⟩:=ht;have hl7:=j8.len;obtain⟨⟨q8,hw,hwn⟩,Sd,hv,JA,hh,hA,hv6,aBG⟩:=hR;obtain⟨wsE,hx,_⟩:=Sd;obtain⟨wC,R3,R2,uF,rfl,qwk,MB,MA⟩:=hw;obtain⟨rE,Zx,Zv,qV,rfl,Zw,VK,VJ⟩:=hh;obtain⟨qi,Yh,Yf,qd,rfl,Yg,VI,VH⟩:=hx;have Pb:∀(i:Nat) (p:jo),([]:List jo)[i]?=some p->eW ⟨ro,[]⟩ 0 (0+i*6) 6 (p5 p):=λ_ _ h=>wU h;refine zE<|zD 2<|jn λb2=>jn λb3=>jd 13 [0,1]<|zJ 16 ((q8.length:Int)=(nn.length:Int)) (λh1=>?_) λh1=>?_
 ·
  refine jd 4 [0]<|jn λb18=>zD 3<|zR _ [] [0] _ ⟨[_],gR (b:=b18) (T:=304) [(⟨wC,q8.length,uF,qi,wsE.length,qd,rE,hv.length,qV⟩:HE)] rfl (λ_ _=>rfl),rfl⟩
 exfalso;omega
def anV{fa:Option Addr}{S:List (List au)}(hW:qv S ways):∀ {rest:List (List aT)} {d:Nat} {x:yD} {w e h:Value} {ro:Nat->Option Obj},ku ro vT ways->ways.drop d=rest->d<=ways.length->YB (aH S) d x->x.fin.length=S.length->alg ro w e h x d->eT zT 257 [.agg ⟨[vS,vT,.slice fa 0 fc]⟩,.agg ⟨[w,e,h]⟩] ro [] (λr Y=>∃es,bI r 3 304 eTf es Y/\es.length=(pX rest x).length)
 | [],d,x,w,e,h,ro,hT,hd,hle,hk,wK,hR=>by
  have hl:ways.length=d:=by have:=qz List.length hd;simp at this;omega
  exact aji (S:=S) hT hR hl
 |l::rest,d,x,w,e,h,ro,hT,hd,hle,hk,wK,hR=>by
  have hwl:=qz List.length hd;simp only[rD,aJ] at hwl;have MO:d<=1:=by have:=hW.two;omega
  have Dm:l∈ways:=Cy (by rw[hd];exact .head _);have h2:∀l'∈l::rest,l'.length<=2:=λl' hl=>(hW.ok l' (Cy (by rw[hd];exact hl))).1.2;have Ff:rest.length<=1:=by have:=hW.two;omega
  have hp1:2^rest.length<=2^1:=pH (by decide) Ff;have hp2:2^(l::rest).length<=2^2:=pH (by decide) (by simp only[aJ];omega);refine anW hT hW hd (hk.fin MO) wK hR (bZ (Fi h2) hp2) (λi c hi=>bZ (Fi λl' hl=>h2 l' (.tail _ hl)) (bZ hp1 (by decide))) λi c hi he cK hs w' e' h' hR'=>?_;have Eh:=((hW.ok l Dm).2 c (zL hi)).gf wK;exact anV (rest:=rest) (d:=d+1) hW (hT.up hs) (by rw[<-List.drop_drop,hd];rfl) (by omega) (hk.next MO (Ah (hk.fin MO) Eh he)) (by simp[DV,Jm,wK]) hR'
def eT.frz{P:Program}{f:FuncId}{args:List Value}{L:Cells}{Φ:Value->Cells->Prop}(h:∀cK,Sub ro cK->Knows cK L->eT P f args cK [] Φ):eT P f args ro L Φ:=asC (λ_ _ h=>h) λhw=>by
 obtain⟨bU,h1,h2,h3⟩:=Xb (s:=⟨ro,[]⟩) (X:=L) (rw:=L) (by simp) hw;intro main T hT c cs g1 g2;refine hT.mono _ _ _ h3 (h bU h1 h2 main T hT c cs (λv s' hs=>?_) λch s' hs=>?_)
 .obtain⟨v',Y,e,rfl,uK⟩:=hs;exact hT.mono _ _ _ (show St.le ⟨ro,Y⟩ ⟨bU,Y⟩ from ⟨[],by simp,λb o hb=> .inl (h1 b o hb)⟩) (g1 v ⟨ro,Y⟩ ⟨v',Y,e,rfl,uK⟩)
 obtain⟨_,_,e,_⟩:=hs;cases e
set_option maxHeartbeats 2000000 in
def bbP {fa:Option Addr} {S:List (List au)} (hS:bH ro vS S) (hO:cq S) (hT:ku ro vT ways) (hW:qv S ways) (h3:(aH S).length<=3):eT zT 223 [.agg ⟨[vS,vT,.slice fa 0 fc]⟩] ro [] (λr Y=>∃es,bI r 3 304 eTf es Y/\es.length=(eY S ways).length):=by
 have hT0:=hT;have nP:=hS;obtain⟨pG,hs,nq⟩:=hS;obtain⟨sS,qsb,qso,sR,rfl,qsk,qsh,qsl⟩:=hs;obtain⟨nn,ht,j8⟩:=id hT;obtain⟨fZ,xg,xe,eR,rfl,xf,ou,oh⟩:=ht;have Sa:=nq.len;have hl7:=j8.len;have nI:=hO.two;have aaY:=hW.two;have Pb:∀(i:Nat) (p:jo),([]:List jo)[i]?=some p->eW ⟨ro,[]⟩ 0 (0+i*6) 6 (p5 p):=λ_ _ h=>wU h;refine zE<|zD 2<|jn λb1=>zD 3<|Yk [1,1] [] (λ(zz:(Option Addr)×Nat×Nat×Cells×Nat)=>[(1,zP b1),(2,zS),(3,zP zz.2.2.2.2)]) (λzz=>[.b zz.2.2.2.2 (.cells ⟨[zS,.slice zz.1 zz.2.1 zz.2.2.1,zS]⟩ 304 (0,0)),.l zz.2.2.2.1,zxc b1 28 [.slice sS pG.length sR,.slice fZ nn.length eR,.slice fa 0 fc]]) (λzz=>∀bU,Knows bU zz.2.2.2.1->bH bU (.slice zz.1 zz.2.1 zz.2.2.1) S) ?_ (λK1 cU=>?_)
 ·
  rintro⟨ea,en,ec,LE,b3⟩ hP rest;dsimp only at hP;refine jd 4 [2]<|jc (vs:=[.agg ⟨[.slice sS pG.length sR]⟩]) [] (H9 nP hO) ?_;rintro v22 L22 NF;obtain⟨ade,YP,ae0⟩:=NF.form;subst ae0;refine zD 4<|jf [0] L22 (λAD fq iu=>?_);have bel:=NF.ju iu;obtain⟨blm,bll,blh,blj,aBv,bli,aOR,aOQ⟩:=bel;simp only[Value.slice.injEq] at aBv;obtain⟨rfl,_,rfl⟩:=aBv;refine zD 4<|uI<|uI<|iz [1,1,1,0,1,0,0] [] (λ(zz:Nat×Value×Cells×(List Value)×Cells×(List (List ak)))=>[(1,zP b1),(2,zS),(3,zP b3),(4,.slice ade ((aH S).length) YP),(5,zI (zz.1:Int))]) (λ(zz:Nat×Value×Cells×(List Value)×Cells×(List (List ak)))=>[zxc b3 304 [zS,.slice ea en ec,zz.2.1],.l zz.2.2.1,.l zz.2.2.2.2.1,.l LE,zxc b1 28 [.slice sS pG.length sR,.slice fZ nn.length eR,.slice fa 0 fc]]) (λ(zz:Nat×Value×Cells×(List Value)×Cells×(List (List ak)))=>(zz.1<=(aH S).length/\zz.2.2.2.1.length=zz.1)/\bI zz.2.1 1 70 qa zz.2.2.2.1 zz.2.2.1/\(∀bU,Knows bU zz.2.2.2.2.1->kz (λw l=>dk bU w 3 bO l) zz.2.2.2.1 zz.2.2.2.2.2)/\∀l∈zz.2.2.2.2.2,l.length<=100) (λ(zz:Nat×Value×Cells×(List Value)×Cells×(List (List ak)))=>(aH S).length-zz.1) (⟨0,zS,[],[],[],[]⟩) ⟨⟨Nat.zero_le _,rfl⟩,bI.nil _ _ _,λ_ _=> .nil,nofun⟩ [2,1,0,3,4] ?_;rintro⟨j,vN,LN,nv,Z,ns⟩ hJ K2 kU rest;dsimp only at hJ;refine zD 8<|zJ 26 ((j:Int) <((aH S).length:Int)) (λh4=>?_) λh4=>?_
  ·
   refine jd 9 [0]<|zxt (aH S) j YP 3 aOR aOQ λx33 aeF=>zxo 6 λtx=>jn λb35=>eH tx (zN 1 5)<|zxo 7 λtw=>jn λb36=>eH tw (zN 1 6)<|zxo 8 λC6=>gB (sz:=1) (ps:=nv) (qs:=[(.slice (some ⟨b35,0,none⟩) 1 1:Value)]) (enc:=qa) (w:= .slice (some ⟨b36,0,none⟩) 1 1) [3] [0] [(b36,.cells ⟨([(.slice (some ⟨b35,0,none⟩) 1 1:Value)].map qa).flatten⟩ 70 (0,0))] (hJ.2.1) (λs _ hZ=>dg [(.slice (some ⟨b35,0,none⟩) 1 1:Value)] (hZ _ (.head _)) (by intro p hp;rfl)) (by intro p hp;rw[List.mem_singleton] at hp;subst hp;exact aG rfl) (by simp<;>omega) (λv37 L37 aqr=>?_);obtain⟨aDL,aDE,aIe⟩:=aqr.form;subst aIe;refine ee C6 []<|zD 1<|zxo 10 λKX=>jd 1 [3]<|kA KX<|zD 3<|zW ((j:Int)+1)<|zD 2<|jg 2 [.l [(b35,.cells ⟨[zI x33.h,zI x33.n,zI x33.l]⟩ 41 (0,0))]]<|zV kU (⟨j+1,(.slice aDL ((nv++[(.slice (some ⟨b35,0,none⟩) 1 1:Value)])).length aDE),L37,(nv++[(.slice (some ⟨b35,0,none⟩) 1 1:Value)]),[(b35,.cells ⟨[zI x33.h,zI x33.n,zI x33.l]⟩ 41 (0,0))]++Z,(ns++[[x33]])⟩) ⟨⟨by dsimp only;omega,by simp only[zM];omega⟩,aqr,λbU hk=>by exact(hJ.2.2.1 bU hk.right).snoc ((show bI _ 3 41 bO [x33] [(b35,.cells ⟨[zI x33.h,zI x33.n,zI x33.l]⟩ 41 (0,0))] from gR (b:=b35) (T:=41) [x33] rfl (λ_ _=>rfl)).ju hk.left),λl hl=>by rcases List.mem_append.1 hl with h|h;exact hJ.2.2.2 l h;simp at h;subst h;simp⟩ [[3],[0],[2,4],[5],[6]]
  refine zD 7<|jf [3,1,2] (LE++(LN++Z)) (λbbI hs9 aHU=>?_);have hT8:alg bbI (zS) (.slice ea en ec) vN ⟨[],S,tY⟩ 0:=⟨⟨[],dk.nil _ _ _ _ _,rfl⟩,hP _ (Knows.left aHU),_,ns,hJ.2.1.ju (Knows.left (Knows.right aHU)),(hJ.2.2.1 _ (Knows.right (Knows.right aHU))),by omega,hJ.2.2.2⟩;refine jd 3 [1,0]<|jc (vs:=[.agg ⟨[.slice sS pG.length sR,.slice fZ nn.length eR,.slice fa 0 fc]⟩,.agg ⟨[zS,.slice ea en ec,vN]⟩]) [] ((anV hW (hT0.up (fq.trans hs9)) rfl (Nat.zero_le _) (YB.start hO h3) rfl hT8)) ?_;rintro v41 L41 ⟨afE,aj7,aId⟩;obtain⟨ada,YO,bgl⟩:=aj7.form;subst bgl;refine zD 4<|jf [0] L41 (λbo2 beR bf4=>?_);have bej:=aj7.ju bf4;obtain⟨blg,blf,blb,bld,aBu,blc,aOP,aOO⟩:=bej;simp only[Value.slice.injEq] at aBu;obtain⟨rfl,_,rfl⟩:=aBu;refine zD 4<|uI<|iz [1,1,1,1,1,1,0,1,0,0] [] (λ(zz:Nat×Value×Cells×(List HE))=>[(1,zP b1),(2,zS),(6,zz.2.1),(7,.slice ada afE.length YO),(8,zI (zz.1:Int))]) (λzz=>[.l zz.2.2.1,zxc b1 28 [.slice sS pG.length sR,.slice fZ nn.length eR,.slice fa 0 fc]]) (λzz=>(zz.1<=afE.length/\zz.2.2.2.length=zz.1)/\bI zz.2.1 3 304 eTf zz.2.2.2 zz.2.2.1) (λzz=>afE.length-zz.1) (⟨0,zS,[],[]⟩) ⟨⟨Nat.zero_le _,rfl⟩,bI.nil _ _ _⟩ [0,2] ?_;rintro⟨k,vO,LO,ts⟩ hQ K7 hK7 rest;dsimp only at hQ;have htl:=qf hW;have he4:afE.length=(eY S ways).length:=aId;refine zD 8<|zJ 45 ((k:Int) <(afE.length:Int)) (λNN=>?_) λNN=>?_
  ·
   refine zD 14<|iz [1,1,1,1,1,1,0,1,0,0,1,0,0,1,0,1,0,0] [K7] (λ(zz:Nat)=>[(1,zP b1),(2,zS),(6,vO),(7,.slice ada afE.length YO),(8,zI (k:Int)),(9,.bool true),(10,zI 0)]) (λzz=>[.l LO,zxc b1 28 [.slice sS pG.length sR,.slice fZ nn.length eR,.slice fa 0 fc]]) (λzz=>True) (λzz=>zz) 0 trivial [0,1] ?_;rintro z hR K8 hK8 rest;refine jd 20 [1]<|zxt afE k YO 3 aOP aOO λyP aRN=>jn λb83=>zxl eTf b83 (⟨yP.wa,yP.wn,yP.wc,yP.ea,yP.en,yP.ec,yP.ha,yP.hn,yP.hc⟩:HE) 1 0 (hQ.2) (λaDJ aDC L84 Qk=>?_) (hb:=by simp only[List.length_cons,List.length_nil];omega);refine zD 4<|zW ((k:Int)+1)<|zD 2<|zY hK7 (⟨k+1,(.slice aDJ ((ts++[(⟨yP.wa,yP.wn,yP.wc,yP.ea,yP.en,yP.ec,yP.ha,yP.hn,yP.hc⟩:HE)])).length aDC),L84,(ts++[(⟨yP.wa,yP.wn,yP.wc,yP.ea,yP.en,yP.ec,yP.ha,yP.hn,yP.hc⟩:HE)])⟩) ⟨⟨by dsimp only;omega,by simp only[zM];omega⟩,Qk⟩ [0,2]
  refine zD 8<|cd q0.a.a.a (vO) [] [0] LO ((fq.trans hs9).trans beR) ⟨_,_,rfl,rfl,ts,hQ.2,by omega⟩
 refine jd 7 [0,0]<|vg [2,9] ⟨λ_ _ KZ=>?_,λ_ _ QH=>?_,trivial⟩
 ·
  refine jc (vs:=[.agg ⟨[.slice sS pG.length sR]⟩]) [] (H9 nP hO) ?_;rintro v13 L13 NG;obtain⟨avd,avb,aH7⟩:=NG.form;subst aH7;refine eH KZ [1]<|vg [7,9] ⟨λ_ _ Hk=>?_,λ_ _ QG=>?_,trivial⟩
  ·
   refine jc (vs:=[(.slice avd (aH S).length avb),zI (pG.length:Int)]) [0] ((eT.frz λro9 hs9 SV=>(by have:=adQ hO (NG.ju SV);rwa[<-Sa] at this))) ?_;rintro _ Dg ⟨a18,n18,c18,rfl,ar8⟩;refine ee Hk [[1]]<|zD 1<|zxo 9 λarz=>jn λb3=>eH arz [1,2]<|zxo 10 λQF=>jd 1 [0]<|kA QF<|zD 1<|zY cU ⟨a18,n18,c18,Dg,b3⟩ ar8 [0,1,2]
  refine jn λb3=>eH QG [1,2]<|zxo 7 λWT=>jc (vs:=[(.slice avd (aH S).length avb),zI (pG.length:Int)]) [1] ((eT.frz λro9 hs9 SV=>(by have:=adQ hO (NG.ju SV);rwa[<-Sa] at this))) ?_;rintro _ Dg ⟨a18,n18,c18,rfl,ar8⟩;refine ee WT [[2]]<|zD 1<|zxo 10 λary=>jd 1 [1]<|kA ary<|zD 1<|zY cU ⟨a18,n18,c18,Dg,b3⟩ ar8 [1,0,2]
 refine jn λb3=>eH QH [1]<|zxo 2 λWS=>jc (vs:=[.agg ⟨[.slice sS pG.length sR]⟩]) [] (H9 nP hO) ?_;rintro v13 L13 NG;obtain⟨avd,avb,aH7⟩:=NG.form;subst aH7;refine eH WS [1,2]<|zxo 7 λafk=>jc (vs:=[(.slice avd (aH S).length avb),zI (pG.length:Int)]) [0] ((eT.frz λro9 hs9 SV=>(by have:=adQ hO (NG.ju SV);rwa[<-Sa] at this))) ?_;rintro _ Dg ⟨a18,n18,c18,rfl,ar8⟩;refine ee afk [[2]]<|zD 1<|zxo 10 λafj=>jd 1 [1]<|kA afj<|zD 1<|zY cU ⟨a18,n18,c18,Dg,b3⟩ ar8 [1,0,2]
def avQ{fa:Option Addr}{S:List (List au)}(hS:bH ro vS S)(hO:cq S)(hT:ku ro vT ways)(hW:qv S ways)(h3:(aH S).length<=3):eT zT 161 [.agg ⟨[vS,vT,.slice fa 0 fc]⟩] ro [] (λr Y=>∃ta tc,r= .tuple ⟨[.slice ta (eY S ways).length tc,zI 0]⟩):=by
 have hT0:=hT;have nP:=hS;obtain⟨pG,hs,nq⟩:=hS;obtain⟨sS,qsb,qso,sR,rfl,qsk,qsh,qsl⟩:=hs;obtain⟨nn,ht,j8⟩:=id hT;obtain⟨fZ,xg,xe,eR,rfl,xf,ou,oh⟩:=ht;have Sa:=nq.len;have hl7:=j8.len;have nI:=hO.two;have aaY:=hW.two;have Pb:∀(i:Nat) (p:jo),([]:List jo)[i]?=some p->eW ⟨ro,[]⟩ 0 (0+i*6) 6 (p5 p):=λ_ _ h=>wU h;refine zE<|zD 2<|jn λb1=>jd 7 [0]<|zxp [.agg ⟨[.slice sS pG.length sR,.slice fZ nn.length eR,.slice fa 0 fc]⟩] (λhs=>Zr (nP.up hs) hO (hT0.up hs) hW)<|jd 16 [0]<|jc (vs:=[.agg ⟨[.slice sS pG.length sR,.slice fZ nn.length eR,.slice fa 0 fc]⟩]) [] (bbP nP hO hT0 hW h3) ?_;rintro RV Bu ⟨as0,KH,nf⟩;obtain⟨nE,nC,akl⟩:=KH.form;subst akl;have htl:=qf hW;refine zD 4<|jf [0] Bu (λAD fq iu=>?_);have aGA:=KH.ju iu;obtain⟨blr,blq,bln,blp,aBw,blo,aOT,aOS⟩:=aGA;simp only[Value.slice.injEq] at aBw;obtain⟨rfl,_,rfl⟩:=aBw;refine zD 4<|uI<|iz [1,1,1,1,0,1,0,0] [] (λ(zz:Nat×Value×Cells×(List Value))=>[(2,zS),(3,zI 0),(5,zz.2.1),(6,.slice nE as0.length nC),(7,zI (zz.1:Int))]) (λzz=>[.l zz.2.2.1,zxc b1 28 [.slice sS pG.length sR,.slice fZ nn.length eR,.slice fa 0 fc]]) (λzz=>(zz.1<=as0.length/\zz.2.2.2.length=zz.1)/\bI zz.2.1 1 45 qa zz.2.2.2 zz.2.2.1) (λzz=>as0.length-zz.1) (⟨0,zS,[],[]⟩) ⟨⟨Nat.zero_le _,rfl⟩,bI.nil _ _ _⟩ [0,1] ?_;rintro⟨k,vO,LO,ts⟩ hQ K1 cU rest;dsimp only at hQ;refine zD 8<|zJ 18 ((k:Int) <(as0.length:Int)) (λh4=>?_) λh4=>?_
 ·
  refine zD 8<|zxs as0 k nC 3 aOT λOC Ed=>zD 1<|jl 0 (aOS _ _ Ed)<|jn λb27=>gB (sz:=1) (ps:=ts) (qs:=[(.slice OC.wa OC.wn OC.wc:Value)]) (enc:=qa) (w:= .slice (some ⟨b27,0,none⟩) 1 1) [1] [0] [(b27,.cells ⟨([(.slice OC.wa OC.wn OC.wc:Value)].map qa).flatten⟩ 45 (0,0))] (hQ.2) (λs _ hZ=>dg [(.slice OC.wa OC.wn OC.wc:Value)] (hZ _ (.head _)) (by intro p hp;rfl)) (by intro p hp;rw[List.mem_singleton] at hp;subst hp;exact aG rfl) (by simp only[List.length_cons,List.length_nil];omega) (λv28 L28 Qm=>?_);obtain⟨adb,ac7,aIj⟩:=Qm.form;subst aIj;refine zD 4<|zW ((k:Int)+1)<|zD 2<|zY cU (⟨k+1,(.slice adb ((ts++[(.slice OC.wa OC.wn OC.wc:Value)])).length ac7),L28,(ts++[(.slice OC.wa OC.wn OC.wc:Value)])⟩) ⟨⟨by dsimp only;omega,by simp only[zM];omega⟩,Qm⟩ [0,2]
 refine zD 9 ?_;obtain⟨oa,oc,he⟩:=hQ.2.form;exact cd q0.a (.tuple ⟨[vO,zI 0]⟩) [] [] [] fq ⟨_,_,rfl,rfl,oa,oc,by rw[he,show (eY S ways).length=ts.length by omega]⟩
end Go.L
