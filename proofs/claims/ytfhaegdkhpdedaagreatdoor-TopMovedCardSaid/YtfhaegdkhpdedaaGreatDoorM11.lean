/- Part 11 of the proof. -/
import Derived.Test.YtfhaegdkhpdedaaGreatDoorM10
set_option maxRecDepth 100000
set_option maxHeartbeats 4000000
set_option linter.all false
namespace Go.L
open Go Go.Conc Go.Proofs
variable {ro:Nat→Option Obj} {ways:List (List aP)} {b e f n o hi:Int} {vS vT vq vW vE vH:Value} {fc i d:Nat} {α:Type}
def aif{X:Cells}{vd:Value}{xs:List Int}{v:Value}{S:List (List ax)}(hN:Dn ro vd xs)(hD:fo vd xs d X)(hS:bH ro v S)(hO:cg S):eW zT 160 [zP d,.agg ⟨[v]⟩] ro X (λr Y=>∃c:aP,r= .agg ⟨mO c⟩/\nn S c/\fo vd xs d Y):=by
 obtain⟨ws,ht,dO⟩:=hS;obtain⟨fP,we,vZ,eL,rfl,v9,nE,nD⟩:=ht;have Ah:=dO.len;have mM:=hO.two;refine zC [.l X]<|zD 2<|jn λb3=>jn λb4=>zD 2<|jct [1,1] [] (λ(zz:Int×Int×Nat×Cells)=>[(0,zP d),(3,zP b3),(4,zP b4),(5,zP zz.2.2.1)]) (λzz=>[.b zz.2.2.1 (.cells ⟨[zI zz.1,zI zz.2.1,zI 0,zI 0,zI 0,zI 0,zI 0]⟩ 100 (0,0)),.l zz.2.2.2,zxc b4 100 [zI 0,zI 0,zI 0,zI 0,zI 0,zI 0,zI 0],zxc b3 24 [.slice fP ws.length eL]]) (λzz=>((1<=zz.1/\zz.1<=7)/\0<=zz.2.1/\zz.2.1 <ws.length)/\fo vd xs d zz.2.2.2) ?_ (λK1 cX=>?_)
 ·
  rintro⟨Js,Cv,b5,X⟩ hP rest;dsimp only at hP;refine jd 6 [3,0] ?_;obtain⟨LY,iQ⟩:=zG ws (Cv.toNat);refine jsi Cv eL 1 nE iQ (by omega) ?_;obtain⟨SD,Io,WS⟩:=dO.get iQ;obtain aHz:=hO.len _ (zL Io);obtain⟨yD,Nn,Nj,yC,rfl,Nl,Nm,Nk⟩:=WS;refine jl 0 (nD _ _ iQ)<|jd 8 [0]<|jct [1,1,1,1] [] (λ(zz:Int×Int×Int×Int×Int×Int×Int×Cells)=>[(4,zP b4),(5,zP b5)]) (λzz=>[zxc b5 100 [zI zz.1,zI zz.2.1,zI zz.2.2.1,zI zz.2.2.2.1,zI zz.2.2.2.2.1,zI zz.2.2.2.2.2.1,zI zz.2.2.2.2.2.2.1],.l zz.2.2.2.2.2.2.2,zxc b4 100 [zI 0,zI 0,zI 0,zI 0,zI 0,zI 0,zI 0]]) (λzz=>nn S ⟨zz.1,zz.2.1,zz.2.2.1,zz.2.2.2.1,zz.2.2.2.2.1,zz.2.2.2.2.2.1,zz.2.2.2.2.2.2.1⟩/\fo vd xs d zz.2.2.2.2.2.2.2) ?_ (λK2 mb=>?_)
  ·
   rintro⟨k,s,o,a,b,e,f,X⟩ hQ rest;dsimp only at hQ;refine jd 6 [0,2]<|zR _ [2] [1] X ⟨⟨k,s,o,a,b,e,f⟩,rfl,hQ.1,hQ.2⟩
  refine zD 7<|zJ 26 (Js=4) (λh1=>?_) λh1=>?_
  ·
   refine jd 11 [0,3]<|zxo 3 λwA=>jc (vs:=[zP d,zI 1,zI 2]) [1] (Ee hN hP.2 (by omega) (by omega)) ?_;rintro _ X32 ⟨w32,rfl,beA,beu,ar9⟩;refine eE wA [[3],[1]]<|zW (Cv+w32)<|zxp [zI (Cv+w32),zI (ws.length:Int)] (λhs=>aRe (by omega) (by omega))<|zD 1<|zxo 10 λuD=>jd 1 [1]<|kV uD<|zD 1 ?_;have oM:=wI (ws.length:Int) (show 0<=Cv+w32 by omega);have yx:=wT (Cv+w32) (show 0 <(ws.length:Int) by omega);refine jd 6 [1]<|zJ 41 (Js=7) (λh4=>?_) λh4=>?_
   ·
    refine zD 5<|jc (vs:=[zP d,.slice yD SD.length yC]) [0] (Bc hN ar9 (show dq _ _ _ _ _ from ⟨yD,Nn,Nj,yC,rfl,Nl,Nm,Nk⟩) (by omega)) ?_;rintro _ X44 ⟨a44,Ta,rfl,aJf⟩;refine zD 2<|jc (vs:=[zP d,.slice yD SD.length yC]) [0] (Bc hN aJf (show dq _ _ _ _ _ from ⟨yD,Nn,Nj,yC,rfl,Nl,Nm,Nk⟩) (by omega)) ?_;rintro _ X47 ⟨a47,b47,rfl,ae1⟩;refine jn λb7=>jn λb8=>jd 8 [1,0,0,1]<|zxp [.agg ⟨[zI a47,zI b47]⟩,.agg ⟨[zI a44,zI Ta]⟩] (λhs=>(We (x:=⟨a47,b47⟩) (y:=⟨a44,Ta⟩)))<|zD 1<|js 50 (qG ⟨a47,b47⟩ ⟨a44,Ta⟩) (λh5=>?_) (λh5=>?_)
    ·
     refine jd 11 [0,1,1,0,1,0]<|zxo 3 λCU=>jd 1 [3]<|eE CU [[0]]<|zD 1<|zxo 5 λKB=>jd 1 [3]<|kV KB<|zD 1<|zY mb ⟨Js,Cv,(Int.tmod (Cv+w32) (ws.length:Int)),a47,b47,a44,Ta,X47⟩ ⟨⟨by dsimp only;omega,by dsimp only;omega,λh=>by first|exact⟨oM,by rw[<-Ah];exact yx⟩| (exfalso;dsimp only at h;omega),λh=>by first|rfl| (exfalso;dsimp only at h;omega),λh=>by first|exact⟨rfl,rfl⟩| (exfalso;dsimp only at h;omega),λh=>by first|exact⟨rfl,rfl⟩| (exfalso;dsimp only at h;omega)⟩,ae1⟩ [3,2,4]
    refine jd 6 [1,0]<|zxo 3 λQB=>jd 1 [3]<|eE QB [[0]]<|zD 1<|zxo 5 λhL8=>jd 1 [3]<|kV hL8<|zD 1<|zY mb ⟨Js,Cv,(Int.tmod (Cv+w32) (ws.length:Int)),a44,Ta,a47,b47,X47⟩ ⟨⟨by dsimp only;omega,by dsimp only;omega,λh=>by first|exact⟨oM,by rw[<-Ah];exact yx⟩| (exfalso;dsimp only at h;omega),λh=>by first|rfl| (exfalso;dsimp only at h;omega),λh=>by first|exact⟨rfl,rfl⟩| (exfalso;dsimp only at h;omega),λh=>by first|exact⟨rfl,rfl⟩| (exfalso;dsimp only at h;omega)⟩,ae1⟩ [3,2,4]
   refine zD 2<|zY mb ⟨Js,Cv,(Int.tmod (Cv+w32) (ws.length:Int)),0,0,0,0,X32⟩ ⟨⟨by dsimp only;omega,by dsimp only;omega,λh=>by first|exact⟨oM,by rw[<-Ah];exact yx⟩| (exfalso;dsimp only at h;omega),λh=>by first|rfl| (exfalso;dsimp only at h;omega),λh=>by first|exact⟨rfl,rfl⟩| (exfalso;dsimp only at h;omega),λh=>by first|exact⟨rfl,rfl⟩| (exfalso;dsimp only at h;omega)⟩,ar9⟩ [1,0,2]
  refine zD 5<|zJ 26 (Js=7) (λxF=>?_) λxF=>?_
  ·
   refine jd 9 [0,3]<|zxo 3 λhL9=>jc (vs:=[zP d,zI 1,zI 2]) [1] (Ee hN hP.2 (by omega) (by omega)) ?_;rintro _ X32 ⟨w32,rfl,beA,beu,ar9⟩;refine eE hL9 [[3],[1]]<|zW (Cv+w32)<|zxp [zI (Cv+w32),zI (ws.length:Int)] (λhs=>aRe (by omega) (by omega))<|zD 1<|zxo 10 λKG=>jd 1 [1]<|kV KG<|zD 1 ?_;have oM:=wI (ws.length:Int) (show 0<=Cv+w32 by omega);have yx:=wT (Cv+w32) (show 0 <(ws.length:Int) by omega);refine jd 6 [1]<|zJ 41 (Js=7) (λG6=>?_) λG6=>?_
   ·
    refine zD 5<|jc (vs:=[zP d,.slice yD SD.length yC]) [0] (Bc hN ar9 (show dq _ _ _ _ _ from ⟨yD,Nn,Nj,yC,rfl,Nl,Nm,Nk⟩) (by omega)) ?_;rintro _ X44 ⟨a44,Ta,rfl,aJf⟩;refine zD 2<|jc (vs:=[zP d,.slice yD SD.length yC]) [0] (Bc hN aJf (show dq _ _ _ _ _ from ⟨yD,Nn,Nj,yC,rfl,Nl,Nm,Nk⟩) (by omega)) ?_;rintro _ X47 ⟨a47,b47,rfl,ae1⟩;refine jn λb7=>jn λb8=>jd 8 [1,0,0,1]<|zxp [.agg ⟨[zI a47,zI b47]⟩,.agg ⟨[zI a44,zI Ta]⟩] (λhs=>(We (x:=⟨a47,b47⟩) (y:=⟨a44,Ta⟩)))<|zD 1<|js 50 (qG ⟨a47,b47⟩ ⟨a44,Ta⟩) (λh14=>?_) (λh14=>?_)
    ·
     refine jd 11 [0,1,1,0,1,0]<|zxo 3 λKE=>jd 1 [3]<|eE KE [[0]]<|zD 1<|zxo 5 λWQ=>jd 1 [3]<|kV WQ<|zD 1<|zY mb ⟨Js,Cv,(Int.tmod (Cv+w32) (ws.length:Int)),a47,b47,a44,Ta,X47⟩ ⟨⟨by dsimp only;omega,by dsimp only;omega,λh=>by first|exact⟨oM,by rw[<-Ah];exact yx⟩| (exfalso;dsimp only at h;omega),λh=>by first|rfl| (exfalso;dsimp only at h;omega),λh=>by first|exact⟨rfl,rfl⟩| (exfalso;dsimp only at h;omega),λh=>by first|exact⟨rfl,rfl⟩| (exfalso;dsimp only at h;omega)⟩,ae1⟩ [3,2,4]
    refine jd 6 [1,0]<|zxo 3 λQF=>jd 1 [3]<|eE QF [[0]]<|zD 1<|zxo 5 λKD=>jd 1 [3]<|kV KD<|zD 1<|zY mb ⟨Js,Cv,(Int.tmod (Cv+w32) (ws.length:Int)),a44,Ta,a47,b47,X47⟩ ⟨⟨by dsimp only;omega,by dsimp only;omega,λh=>by first|exact⟨oM,by rw[<-Ah];exact yx⟩| (exfalso;dsimp only at h;omega),λh=>by first|rfl| (exfalso;dsimp only at h;omega),λh=>by first|exact⟨rfl,rfl⟩| (exfalso;dsimp only at h;omega),λh=>by first|exact⟨rfl,rfl⟩| (exfalso;dsimp only at h;omega)⟩,ae1⟩ [3,2,4]
   refine zD 2<|zY mb ⟨Js,Cv,(Int.tmod (Cv+w32) (ws.length:Int)),0,0,0,0,X32⟩ ⟨⟨by dsimp only;omega,by dsimp only;omega,λh=>by first|exact⟨oM,by rw[<-Ah];exact yx⟩| (exfalso;dsimp only at h;omega),λh=>by first|rfl| (exfalso;dsimp only at h;omega),λh=>by first|exact⟨rfl,rfl⟩| (exfalso;dsimp only at h;omega),λh=>by first|exact⟨rfl,rfl⟩| (exfalso;dsimp only at h;omega)⟩,ar9⟩ [1,0,2]
  refine zD 7<|zJ 57 (Js=5) (λh19=>?_) λh19=>?_
  ·
   refine zD 6<|jc (vs:=[zP d,.slice yD SD.length yC]) [1] (Bc hN hP.2 (show dq _ _ _ _ _ from ⟨yD,Nn,Nj,yC,rfl,Nl,Nm,Nk⟩) (by omega)) ?_;rintro _ X62 ⟨a62,b62,rfl,aJd⟩;refine jd 3 [1]<|zY mb ⟨Js,Cv,0,a62,b62,0,0,X62⟩ ⟨⟨by dsimp only;omega,by dsimp only;omega,λh=>by first|exact⟨oM,by rw[<-Ah];exact yx⟩| (exfalso;dsimp only at h;omega),λh=>by first|rfl| (exfalso;dsimp only at h;omega),λh=>by first|exact⟨rfl,rfl⟩| (exfalso;dsimp only at h;omega),λh=>by first|exact⟨rfl,rfl⟩| (exfalso;dsimp only at h;omega)⟩,aJd⟩ [1,0,2]
  refine zD 5<|zJ 57 (Js=6) (λh20=>?_) λh20=>?_
  ·
   refine zD 4<|jc (vs:=[zP d,.slice yD SD.length yC]) [1] (Bc hN hP.2 (show dq _ _ _ _ _ from ⟨yD,Nn,Nj,yC,rfl,Nl,Nm,Nk⟩) (by omega)) ?_;rintro _ X62 ⟨a62,b62,rfl,aJd⟩;refine jd 3 [1]<|zY mb ⟨Js,Cv,0,a62,b62,0,0,X62⟩ ⟨⟨by dsimp only;omega,by dsimp only;omega,λh=>by first|exact⟨oM,by rw[<-Ah];exact yx⟩| (exfalso;dsimp only at h;omega),λh=>by first|rfl| (exfalso;dsimp only at h;omega),λh=>by first|exact⟨rfl,rfl⟩| (exfalso;dsimp only at h;omega),λh=>by first|exact⟨rfl,rfl⟩| (exfalso;dsimp only at h;omega)⟩,aJd⟩ [1,0,2]
  refine zD 2<|zY mb ⟨Js,Cv,0,0,0,0,0,X⟩ ⟨⟨by dsimp only;omega,by dsimp only;omega,λh=>by first|exact⟨oM,by rw[<-Ah];exact yx⟩| (exfalso;dsimp only at h;omega),λh=>by first|rfl| (exfalso;dsimp only at h;omega),λh=>by first|exact⟨rfl,rfl⟩| (exfalso;dsimp only at h;omega),λh=>by first|exact⟨rfl,rfl⟩| (exfalso;dsimp only at h;omega)⟩,hP.2⟩ [0,1,2]
 refine jd 6 [1]<|zW ((ws.length:Int)-1)<|xB [1,9] ⟨λ_ _ KC=>?_,λ_ _ QC=>?_,bW⟩
 ·
  refine jc (vs:=[zP d,zI 1,zI 7]) [2] (Ee hN hD (by omega) (by omega)) ?_;rintro _ X10 ⟨Js,rfl,aGN,Kg,KH⟩;refine eE KC [[2]]<|xB [7,9] ⟨λ_ _ WL=>?_,λ_ _ arx=>?_,bW⟩
  ·
   refine jc (vs:=[zP d,zI ((ws.length:Int)-1)]) [0] (dTo hN KH (by omega)) ?_;rintro _ X16 ⟨Cv,rfl,axS,Qd,S3⟩;refine eE WL [[2]]<|zD 1<|zxo 9 λarw=>jn λb5=>eP arw [1,2,3]<|zxo 10 λaeY=>jd 1 [0]<|kV aeY<|zD 1<|zY cX ⟨Js,Cv,b5,X16⟩ ⟨⟨by dsimp only;omega,by dsimp only;omega⟩,S3⟩ [0,1,2,3]
  refine jn λb5=>eP arx [1,2,3]<|zxo 7 λaeX=>jc (vs:=[zP d,zI ((ws.length:Int)-1)]) [1] (dTo hN KH (by omega)) ?_;rintro _ X16 ⟨Cv,rfl,axS,Qd,S3⟩;refine eE aeX [[3]]<|zD 1<|zxo 10 λarv=>jd 1 [1]<|kV arv<|zD 1<|zY cX ⟨Js,Cv,b5,X16⟩ ⟨⟨by dsimp only;omega,by dsimp only;omega⟩,S3⟩ [1,0,2,3]
 refine jn λb5=>eP QC [1,2,3]<|zxo 1 λaeW=>jc (vs:=[zP d,zI 1,zI 7]) [3] (Ee hN hD (by omega) (by omega)) ?_;rintro _ X10 ⟨Js,rfl,aGN,Kg,KH⟩;refine eE aeW [[3]]<|zxo 7 λaeV=>jc (vs:=[zP d,zI ((ws.length:Int)-1)]) [0] (dTo hN KH (by omega)) ?_;rintro _ X16 ⟨Cv,rfl,axS,Qd,S3⟩;refine eE aeV [[3]]<|zD 1<|zxo 10 λaeU=>jd 1 [1]<|kV aeU<|zD 1<|zY cX ⟨Js,Cv,b5,X16⟩ ⟨⟨by dsimp only;omega,by dsimp only;omega⟩,S3⟩ [1,0,2,3]
theorem DO{v:Value}{xs:List ByteArray}(hl:dq ro v 1 nU xs)(hn:xs.length<=1000):eW zT 94 [v] ro [] (λr Y=>bJ r 1 9 nU xs Y):=by
 obtain⟨fQ,rK,rJ,fg,rfl,tJ,nj,nY⟩:=hl;refine zE<|zD 6<|jn λb3=>zD 1<|gC [0] [] [] (bD (b:=b3) (T:=9)) (λs he _=>⟨fQ,rK,rJ,fg,rfl,nj,λi p hp=>(nY i p hp).ext he⟩) (λp _=>aG rfl) (by grind) λv5 L5 aqj=>zD 3<|zR _ [] [0] L5 aqj
def DR{v:Value}{S:List (List ax)}(hS:bH ro v S)(hO:cg S):eW zT 131 [.agg ⟨[v]⟩] ro [] (λr Y=>∃a n c,r= .agg ⟨[.slice a n c]⟩/\∀bU,Knows bU Y->bH bU (.slice a n c) S):=by
 obtain⟨ws,ht,dO⟩:=hS;obtain⟨fP,we,vZ,eL,rfl,v9,nE,nD⟩:=ht;have Ah:=dO.len;have mM:=hO.two;refine zE<|zD 2<|jn λb1=>jn λb2=>zD 3<|jn λb3=>zD 7<|wN<|wN<|iE [1,1,0,1,0,0] [] (λ(zz:Nat×Value×Cells×(List Value)×Cells)=>[(1,zP b1),(2,zP b2),(3,zP b3),(4,zI (zz.1:Int))]) (λzz=>[zxc b3 24 [zz.2.1],.l zz.2.2.1,.l zz.2.2.2.2,zxc b2 24 [zS],zxc b1 24 [.slice fP ws.length eL]]) (λzz=>(zz.1<=ws.length/\zz.2.2.2.1.length=zz.1)/\bJ zz.2.1 1 98 ri zz.2.2.2.1 zz.2.2.1/\∀bU,Knows bU zz.2.2.2.2->kA (λw l=>dq bU w 2 cu l) zz.2.2.2.1 (S.take zz.1)) (λzz=>ws.length-zz.1) (⟨0,zS,[],[],[]⟩) ⟨⟨by dsimp only;omega,rfl⟩,bJ.nil _ _ _,λ_ _=> .nil⟩ [2,1,0,3,4] ?_;rintro⟨k,vO,LO,es,Z⟩ hI K1 cX rest;dsimp only at hI;refine jd 9 [4]<|zJ 9 ((k:Int) <(ws.length:Int)) (λh1=>?_) λh1=>?_
 ·
  refine jd 10 [0,4]<|zxs ws k eL 1 nE (λx18 aeo=>?_);obtain⟨l19,aSX,h19⟩:=dO.get aeo;obtain ax3:=hO.len _ (zL aSX);obtain⟨aPn,bcI,bcF,aPm,rfl,brg,bcH,bcG⟩:=h19;refine jl 0 (nD _ _ aeo)<|zxo 2 λDX=>jn λb14=>eP DX (zN 1 5)<|zxo 8 λwA=>zxq cu b14 39 0 aPm bcH bcG λOM OJ L20 BU=>eE wA [[5],[1]]<|zxo 9 λuD=>jn λb21=>eP uD (zN 1 6)<|zxo 10 λCU=>gC (sz:=1) (ps:=es) (qs:=[((.slice OM (l19).length OJ):Value)]) (enc:=ri) (w:= .slice (some ⟨b21,0,none⟩) 1 1) [3] [0] [(b21,.cells ⟨([((.slice OM (l19).length OJ):Value)].map ri).flatten⟩ 98 (0,0))] (hI.2.1) (λs _ hZ=>de [((.slice OM (l19).length OJ):Value)] (hZ _ (.head _)) (by intro p hp;rfl)) (by intro p hp;rw[List.mem_singleton] at hp;subst hp;exact aG rfl) (by simp<;>omega) (λv22 L22 aqs=>?_);obtain⟨Yw,Vj,aH9⟩:=aqs.form;subst aH9;refine eE CU [[6]]<|zD 1<|zxo 12 λKB=>jd 1 [3]<|kV KB<|zD 3<|zW ((k:Int)+1)<|zD 2<|zV cX (⟨k+1,_,L22,(es++[((.slice OM (l19).length OJ):Value)]),L20++Z⟩) ⟨⟨by dsimp only;omega,by simp only[zM];omega⟩,aqs,λbU hk=>Bf (hI.2.2 bU hk.right) aSX (BU.jI hk.left)⟩ [[3],[0],[2,4],[5],[6]]
 refine zD 3 ?_;obtain⟨va7,vc7,he7⟩:=hI.2.1.form;subst he7;refine jd 5 [0,3]<|zR _ [3] [1,2] _ ⟨_,_,_,rfl,λbU hk=>⟨es,hI.2.1.jI hk.left,by have:=hI.2.2 bU hk.right;rwa[bF (by omega)] at this⟩⟩
def uw{fa:Option Addr}{S:List (List ax)}(hS:bH ro vS S)(hO:cg S)(hT:kL ro vT ways)(hW:oB S ways):eW zT 93 [.agg ⟨[vS,vT,.slice fa 0 fc]⟩] ro [] (λr Y=>∃(a0 a1 a2:Option Addr) (n0 n1 c0 c1 c2:Nat) (qs:List Value) (LT Z:Cells),r= .agg ⟨[.slice a0 n0 c0,.slice a1 n1 c1,.slice a2 0 c2]⟩/\(qs.length=ways.length/\kA HdR qs ways)/\bJ (.slice a1 n1 c1) 1 82 ri qs LT/\(∀bU,Knows bU Z->bH bU (.slice a0 n0 c0) S/\kA (λw l=>dq bU w 7 mO l) qs ways)/\Y=LT++Z):=by
 have mY:=hS;obtain⟨n9,hs,lu⟩:=hS;obtain⟨qZ,qsb,qso,qY,rfl,qsk,qsh,qsl⟩:=hs;obtain⟨mf,ht,jh⟩:=id hT;obtain⟨fP,we,vZ,eL,rfl,v9,nE,nD⟩:=ht;have Oe:=lu.len;have Ww:=jh.len;have mM:=hO.two;have SQ:=hW.two;have Ni:∀(i:Nat) (p:iy),([]:List iy)[i]?=some p->eK ⟨ro,[]⟩ 0 (0+i*6) 6 (oA p):=λ_ _ h=>tP h;refine zE<|zD 2<|jn λb1=>jn λb2=>zD 2<|jct [1,1] [] (λ(zz:(Option Addr)×Nat×Nat×Cells×(Option Addr)×Nat×Nat)=>[(1,zP b1),(2,zP b2),(3,zP zz.2.2.2.2.2.2)]) (λzz=>[.b zz.2.2.2.2.2.2 (.cells ⟨[.slice zz.1 zz.2.1 zz.2.2.1,zS,.slice zz.2.2.2.2.1 0 zz.2.2.2.2.2.1]⟩ 28 (0,0)),.l zz.2.2.2.1,zxc b2 28 [zS,zS,zS],zxc b1 28 [.slice qZ n9.length qY,.slice fP mf.length eL,.slice fa 0 fc]]) (λzz=>∀bU,Knows bU zz.2.2.2.1->bH bU (.slice zz.1 zz.2.1 zz.2.2.1) S) ?_ (λK1 cX=>?_)
 ·
  rintro⟨pa,pn,pc,LP,fx,fy,b3⟩ hP rest;dsimp only at hP;refine zD 6<|wN<|wN<|iE [1,1,0,1,0,0] [] (λ(zz:Nat×Value×Cells×(List Value)×Cells)=>[(1,zP b1),(2,zP b2),(3,zP b3),(4,zI (zz.1:Int))]) (λzz=>[zxc b3 28 [.slice pa pn pc,zz.2.1,.slice fx 0 fy],.l zz.2.2.1,.l zz.2.2.2.2,.l LP,zxc b2 28 [zS,zS,zS],zxc b1 28 [.slice qZ n9.length qY,.slice fP mf.length eL,.slice fa 0 fc]]) (λzz=>(zz.1<=mf.length/\zz.2.2.2.1.length=zz.1/\kA HdR zz.2.2.2.1 (ways.take zz.1))/\bJ zz.2.1 1 82 ri zz.2.2.2.1 zz.2.2.1/\∀bU,Knows bU zz.2.2.2.2->kA (λw l=>dq bU w 7 mO l) zz.2.2.2.1 (ways.take zz.1)) (λzz=>mf.length-zz.1) (⟨0,zS,[],[],[]⟩) ⟨⟨by dsimp only;omega,rfl,.nil⟩,bJ.nil _ _ _,λ_ _=> .nil⟩ [2,1,0,3,4,5] ?_;rintro⟨k,vO,LO,es,Z⟩ hI K2 mb rest;dsimp only at hI;refine jd 9 [5]<|zJ 17 ((k:Int) <(mf.length:Int)) (λh1=>?_) λh1=>?_
  ·
   refine jd 10 [0,5]<|zxs mf k eL 1 nE λx26 Nv=>zD 1 ?_;obtain⟨l28,aeB,h28⟩:=jh.get Nv;obtain akp:=(hW.ok _ (zL aeB)).1.2;obtain⟨anV,aPf,aPe,ajp,rfl,bcA,aFi,aFh⟩:=h28;refine jl 0 (nD _ _ Nv)<|zxo 2 λwA=>jn λb22=>eP wA (zN 1 6)<|zxo 9 λuD=>zxq mO b22 100 0 ajp aFi aFh λVl Vi L29 Af=>eE uD [[6],[1]]<|zD 1<|zxo 11 λCU=>jn λb31=>eP CU (zN 1 7)<|zxo 12 λKB=>gC (sz:=1) (ps:=es) (qs:=[((.slice Vl (l28).length Vi):Value)]) (enc:=ri) (w:= .slice (some ⟨b31,0,none⟩) 1 1) [3] [0] [(b31,.cells ⟨([((.slice Vl (l28).length Vi):Value)].map ri).flatten⟩ 82 (0,0))] (hI.2.1) (λs _ hZ=>de [((.slice Vl (l28).length Vi):Value)] (hZ _ (.head _)) (by intro p hp;rfl)) (by intro p hp;rw[List.mem_singleton] at hp;subst hp;exact aG rfl) (by simp<;>omega) (λv32 L32 aqo=>?_);obtain⟨baf,aZY,bgS⟩:=aqo.form;subst bgS;refine eE KB [[7]]<|zD 1<|zxo 14 λQB=>jd 1 [3]<|kV QB<|zD 3<|zW ((k:Int)+1)<|zD 2<|zV mb (⟨k+1,(.slice baf ((es++[((.slice Vl (l28).length Vi):Value)])).length aZY),L32,(es++[((.slice Vl (l28).length Vi):Value)]),L29++Z⟩) ⟨⟨by dsimp only;omega,by simp only[zM];omega,Bf hI.1.2.2 aeB ⟨_,_,rfl,(bJ.cap Af).2⟩⟩,aqo,λbU hk=>Bf (hI.2.2 bU hk.right) aeB (Af.jI hk.left)⟩ [[3],[0],[2,4],[5],[6],[7]]
  refine zD 3 ?_;obtain⟨va7,vc7,he7⟩:=hI.2.1.form;subst he7;refine jd 5 [0,4]<|zR (.agg ⟨[.slice pa pn pc,(.slice va7 (es).length vc7),.slice fx 0 fy]⟩) [4] [1,3,2] _ ⟨_,_,_,_,_,_,_,_,es,LO,LP++Z,rfl,⟨by omega,by have:=hI.1.2.2;rwa[bF (by omega)] at this⟩,hI.2.1,λbU hk=>⟨hP bU hk.left,by have:=hI.2.2 bU hk.right;rwa[bF (by omega)] at this⟩,rfl⟩
 refine jd 5 [1,1]<|xB [2,3,8] ⟨λ_ _ KG=>?_,λ_ _ QF=>?_,λ_ _ QE=>?_,bW⟩
 ·
  refine jc (vs:=[.agg ⟨[.slice qZ n9.length qY]⟩]) [] (DR mY hO) ?_;rintro _ L7 ⟨a7,n7,c7,rfl,hE7⟩;refine eP KG [1,2]<|xB [3,8] ⟨λ_ _ WN=>?_,λ_ _ WM=>?_,bW⟩
  ·
   refine jn λb8=>eP WN [1,2,3]<|xB [6,8] ⟨λ_ _ aeZ=>?_,λ_ _ aeY=>?_,bW⟩
   ·
    refine gC (sz:=6) (ps:=[]) (qs:=([]:List iy)) (enc:=oA) (w:= .slice fa 0 fc) [0] [] [] (bD (b:=b8) (T:=200)) (λs he _=>⟨fa,0,0,fc,rfl,(λ_ h=>absurd h (gB _)),λi p hp=>(Ni i p hp).ext he⟩) (λp _=>aG rfl) (by simp<;>omega) (λv11 Yj lY=>?_);rw[aL] at lY;obtain⟨xK,qa,DW⟩:=lY.form;subst DW;refine eE aeZ []<|zD 1<|zxo 8 λaeX=>jn λb3=>eP aeX (zN 1 4)<|zxo 9 λarv=>jd 1 [0]<|kV arv<|zD 1<|zY cX ⟨a7,n7,c7,L7,xK,qa,b3⟩ hE7 [0,2,3,4]
   refine jn λb3=>eP aeY (zN 1 4)<|zxo 6 λaeW=>gC (sz:=6) (ps:=[]) (qs:=([]:List iy)) (enc:=oA) (w:= .slice fa 0 fc) [1] [] [] (bD (b:=b8) (T:=200)) (λs he _=>⟨fa,0,0,fc,rfl,(λ_ h=>absurd h (gB _)),λi p hp=>(Ni i p hp).ext he⟩) (λp _=>aG rfl) (by simp<;>omega) (λv11 Yj lY=>?_);rw[aL] at lY;obtain⟨xK,qa,DW⟩:=lY.form;subst DW;refine eE aeW []<|zD 1<|zxo 9 λaeV=>jd 1 [1]<|kV aeV<|zD 1<|zY cX ⟨a7,n7,c7,L7,xK,qa,b3⟩ hE7 [1,2,3,4]
  refine jn λb3=>eP WM [1,2,3]<|zxo 3 λaeU=>jn λb8=>eP aeU (zN 1 4)<|zxo 6 λaru=>gC (sz:=6) (ps:=[]) (qs:=([]:List iy)) (enc:=oA) (w:= .slice fa 0 fc) [0] [] [] (bD (b:=b8) (T:=200)) (λs he _=>⟨fa,0,0,fc,rfl,(λ_ h=>absurd h (gB _)),λi p hp=>(Ni i p hp).ext he⟩) (λp _=>aG rfl) (by simp<;>omega) (λv11 Yj lY=>?_);rw[aL] at lY;obtain⟨xK,qa,DW⟩:=lY.form;subst DW;refine eE aru []<|zD 1<|zxo 9 λart=>jd 1 [1]<|kV art<|zD 1<|zY cX ⟨a7,n7,c7,L7,xK,qa,b3⟩ hE7 [1,2,3,4]
 ·
  refine jn λb8=>eP QF [1,2]<|xB [2,8] ⟨λ_ _ WJ=>?_,λ_ _ WI=>?_,bW⟩
  ·
   refine jc (vs:=[.agg ⟨[.slice qZ n9.length qY]⟩]) [] (DR mY hO) ?_;rintro _ L7 ⟨a7,n7,c7,rfl,hE7⟩;refine eP WJ [1,2,3]<|xB [6,8] ⟨λ_ _ WH=>?_,λ_ _ aeR=>?_,bW⟩
   ·
    refine gC (sz:=6) (ps:=[]) (qs:=([]:List iy)) (enc:=oA) (w:= .slice fa 0 fc) [1] [] [] (bD (b:=b8) (T:=200)) (λs he _=>⟨fa,0,0,fc,rfl,(λ_ h=>absurd h (gB _)),λi p hp=>(Ni i p hp).ext he⟩) (λp _=>aG rfl) (by simp<;>omega) (λv11 Yj lY=>?_);rw[aL] at lY;obtain⟨xK,qa,DW⟩:=lY.form;subst DW;refine eE WH []<|zD 1<|zxo 8 λarl=>jn λb3=>eP arl (zN 1 4)<|zxo 9 λark=>jd 1 [0]<|kV ark<|zD 1<|zY cX ⟨a7,n7,c7,L7,xK,qa,b3⟩ hE7 [0,2,3,4]
   refine jn λb3=>eP aeR (zN 1 4)<|zxo 6 λarj=>gC (sz:=6) (ps:=[]) (qs:=([]:List iy)) (enc:=oA) (w:= .slice fa 0 fc) [2] [] [] (bD (b:=b8) (T:=200)) (λs he _=>⟨fa,0,0,fc,rfl,(λ_ h=>absurd h (gB _)),λi p hp=>(Ni i p hp).ext he⟩) (λp _=>aG rfl) (by simp<;>omega) (λv11 Yj lY=>?_);rw[aL] at lY;obtain⟨xK,qa,DW⟩:=lY.form;subst DW;refine eE arj []<|zD 1<|zxo 9 λaI7=>jd 1 [1]<|kV aI7<|zD 1<|zY cX ⟨a7,n7,c7,L7,xK,qa,b3⟩ hE7 [1,2,3,4]
  refine jn λb3=>eP WI [1,2,3]<|zxo 2 λaI6=>jc (vs:=[.agg ⟨[.slice qZ n9.length qY]⟩]) [] (DR mY hO) ?_;rintro _ L7 ⟨a7,n7,c7,rfl,hE7⟩;refine eP aI6 (zN 1 4)<|zxo 6 λari=>gC (sz:=6) (ps:=[]) (qs:=([]:List iy)) (enc:=oA) (w:= .slice fa 0 fc) [2] [] [] (bD (b:=b8) (T:=200)) (λs he _=>⟨fa,0,0,fc,rfl,(λ_ h=>absurd h (gB _)),λi p hp=>(Ni i p hp).ext he⟩) (λp _=>aG rfl) (by simp<;>omega) (λv11 Yj lY=>?_);rw[aL] at lY;obtain⟨xK,qa,DW⟩:=lY.form;subst DW;refine eE ari []<|zD 1<|zxo 9 λaI5=>jd 1 [2]<|kV aI5<|zD 1<|zY cX ⟨a7,n7,c7,L7,xK,qa,b3⟩ hE7 [2,1,3,4]
 refine jn λb3=>eP QE [1,2]<|xB [2,3] ⟨λ_ _ bh0=>?_,λ_ _ bhX=>?_,bW⟩
 ·
  refine jc (vs:=[.agg ⟨[.slice qZ n9.length qY]⟩]) [] (DR mY hO) ?_;rintro _ L7 ⟨a7,n7,c7,rfl,hE7⟩;refine eP bh0 [1,2,3]<|zxo 3 λaI4=>jn λb8=>eP aI4 (zN 1 4)<|zxo 6 λaI3=>gC (sz:=6) (ps:=[]) (qs:=([]:List iy)) (enc:=oA) (w:= .slice fa 0 fc) [0] [] [] (bD (b:=b8) (T:=200)) (λs he _=>⟨fa,0,0,fc,rfl,(λ_ h=>absurd h (gB _)),λi p hp=>(Ni i p hp).ext he⟩) (λp _=>aG rfl) (by simp<;>omega) (λv11 Yj lY=>?_);rw[aL] at lY;obtain⟨xK,qa,DW⟩:=lY.form;subst DW;refine eE aI3 []<|zD 1<|zxo 9 λaI2=>jd 1 [2]<|kV aI2<|zD 1<|zY cX ⟨a7,n7,c7,L7,xK,qa,b3⟩ hE7 [2,1,3,4]
 refine jn λb8=>eP bhX [1,2,3]<|zxo 2 λarh=>jc (vs:=[.agg ⟨[.slice qZ n9.length qY]⟩]) [] (DR mY hO) ?_;rintro _ L7 ⟨a7,n7,c7,rfl,hE7⟩;refine eP arh (zN 1 4)<|zxo 6 λaI1=>gC (sz:=6) (ps:=[]) (qs:=([]:List iy)) (enc:=oA) (w:= .slice fa 0 fc) [1] [] [] (bD (b:=b8) (T:=200)) (λs he _=>⟨fa,0,0,fc,rfl,(λ_ h=>absurd h (gB _)),λi p hp=>(Ni i p hp).ext he⟩) (λp _=>aG rfl) (by simp<;>omega) (λv11 Yj lY=>?_);rw[aL] at lY;obtain⟨xK,qa,DW⟩:=lY.form;subst DW;refine eE aI1 []<|zD 1<|zxo 9 λaI0=>jd 1 [2]<|kV aI0<|zD 1<|zY cX ⟨a7,n7,c7,L7,xK,qa,b3⟩ hE7 [2,1,3,4]
def HU{v:Value}{S:List (List ax)}(hS:bH ro v S)(hO:cg S):eW zT 91 [.agg ⟨[v]⟩] ro [] (λr Y=>bJ r 3 41 bL (aI S) Y):=by
 have mY:=hS;obtain⟨ws,ht,dO⟩:=hS;obtain⟨fP,we,vZ,eL,rfl,v9,nE,nD⟩:=ht;have Ah:=dO.len;have mM:=hO.two;refine zE<|zD 2<|jn λb1=>zD 12<|wN<|iE [1,1,0,1,0,0] [] (λ(zz:Nat×Value×Cells)=>[(1,zP b1),(2,zS),(3,zz.2.1),(4,zI (zz.1:Int))]) (λzz=>[.l zz.2.2,zxc b1 24 [.slice fP ws.length eL]]) (λzz=>zz.1<=ws.length/\bJ zz.2.1 3 41 bL (C8 S zz.1) zz.2.2) (λzz=>ws.length-zz.1) (⟨0,zS,[]⟩) ⟨by dsimp only;omega,bJ.nil _ _ _⟩ [0,1] ?_;rintro⟨k,vO,LO⟩ hI K1 cX rest;dsimp only at hI;refine jd 9 [1]<|zJ 10 ((k:Int) <(ws.length:Int)) (λh1=>?_) λh1=>?_
 ·
  refine zD 9 ?_;obtain⟨lk,X7⟩:∃l,S[k]?=some l:=⟨_,List.getElem?_eq_getElem (by omega)⟩;refine iE [1,1,0,1,0,0,1,0,0,1,0,0] [K1] (λ(zz:Nat×Value×Cells)=>[(1,zP b1),(2,zS),(3,zz.2.1),(4,zI (k:Int)),(5,zI (zz.1:Int))]) (λzz=>[.l zz.2.2,zxc b1 24 [.slice fP ws.length eL]]) (λzz=>zz.1<=lk.length/\bJ zz.2.1 3 41 bL (C8 S k++(lk.take zz.1).map (eV k)) zz.2.2) (λzz=>lk.length-zz.1) (⟨0,vO,LO⟩) ⟨by dsimp only;omega,by simpa using hI.2⟩ [0,1] ?_;rintro⟨i,vO,LO⟩ hJ K2 mb rest;dsimp only at hJ;refine jd 7 [1]<|zxs ws k eL 1 nE (λx17 Nw=>?_);obtain⟨V9,Wy,h18⟩:=dO.get Nw;obtain aSK:=hO.len _ (zL Wy);obtain kX:V9=lk:=Option.some.inj (Wy.symm.trans X7);obtain⟨ae0,_⟩:V9.length=lk.length/\True:=⟨by rw[kX],trivial⟩;obtain⟨av5,aPq,aPo,anX,rfl,aPp,aFm,aFl⟩:=h18;refine jl 0 (nD _ _ Nw)<|zD 3<|zJ 20 ((i:Int) <(V9.length:Int)) (λh2=>?_) λh2=>?_
  ·
   refine jd 10 [1]<|zxs ws k eL 1 nE (λx28 GW=>?_);obtain⟨l29,aqN,h29⟩:=dO.get GW;obtain aHx:=hO.len _ (zL aqN);obtain Qv:l29=lk:=aJ (aqN.symm.trans X7);obtain⟨aeX,_⟩:l29.length=lk.length/\True:=⟨by rw[Qv],bW⟩;obtain⟨bcz,bcy,bcw,aFg,rfl,bcx,aFf,aFe⟩:=h29;refine jl 0 (nD _ _ GW)<|zD 1<|zxt l29 i aFg 2 aFf aFe λJq Aa=>zD 1<|jn λb34=>zxl bL b34 (⟨(k:Int),Jq.n,Jq.l⟩:ar) 1 0 (hJ.2) (λaDT aDM L35 Ql=>?_) (hb:=by have:=EV hO k;have:=hO.len _ (zL X7);simp only[aM,dj,cw,aK,aT];omega);refine zD 4<|zW ((i:Int)+1)<|zD 2<|zF mb (⟨i+1,(.slice aDT (((C8 S k++(lk.take i).map (eV k))++[(⟨(k:Int),Jq.n,Jq.l⟩:ar)])).length aDM),L35⟩) (by rw[cU (by rw[<-Qv];exact Aa),cC,<-bC];exact Ql) [0,2]
  refine zD 4<|zW ((k:Int)+1)<|zD 2<|zF cX (⟨k+1,vO,LO⟩) (by rw[Qf X7];have:=hJ.2;rwa[bF (by rw[<-kX];omega)] at this) [0,1]
 refine zD 8<|zR _ [] [0] LO (by have:=hI.2;rwa[show k=S.length by omega] at this)
def ajY{v:Value}{S:List (List ax)}(hS:bH ro v S)(hO:cg S):eW zT 43 [.agg ⟨[v]⟩] ro [] (λr Y=>bJ r 3 41 bL (aI S) Y):=by
 have mY:=hS;obtain⟨ws,ht,dO⟩:=hS;obtain⟨fP,we,vZ,eL,rfl,v9,nE,nD⟩:=ht;have Ah:=dO.len;have mM:=hO.two;refine zE<|zD 2<|jn λb1=>zD 12<|wN<|iE [1,1,0,1,0,0] [] (λ(zz:Nat×Value×Cells)=>[(1,zP b1),(2,zS),(3,zz.2.1),(4,zI (zz.1:Int))]) (λzz=>[.l zz.2.2,zxc b1 24 [.slice fP ws.length eL]]) (λzz=>zz.1<=ws.length/\bJ zz.2.1 3 41 bL (C8 S zz.1) zz.2.2) (λzz=>ws.length-zz.1) (⟨0,zS,[]⟩) ⟨by dsimp only;omega,bJ.nil _ _ _⟩ [0,1] ?_;rintro⟨k,vO,LO⟩ hI K1 cX rest;dsimp only at hI;refine jd 9 [1]<|zJ 10 ((k:Int) <(ws.length:Int)) (λh1=>?_) λh1=>?_
 ·
  refine zD 9 ?_;obtain⟨lk,X7⟩:∃l,S[k]?=some l:=⟨_,List.getElem?_eq_getElem (by omega)⟩;refine iE [1,1,0,1,0,0,1,0,0,1,0,0] [K1] (λ(zz:Nat×Value×Cells)=>[(1,zP b1),(2,zS),(3,zz.2.1),(4,zI (k:Int)),(5,zI (zz.1:Int))]) (λzz=>[.l zz.2.2,zxc b1 24 [.slice fP ws.length eL]]) (λzz=>zz.1<=lk.length/\bJ zz.2.1 3 41 bL (C8 S k++(lk.take zz.1).map (eV k)) zz.2.2) (λzz=>lk.length-zz.1) (⟨0,vO,LO⟩) ⟨by dsimp only;omega,by simpa using hI.2⟩ [0,1] ?_;rintro⟨i,vO,LO⟩ hJ K2 mb rest;dsimp only at hJ;refine jd 7 [1]<|zxs ws k eL 1 nE (λx17 Nw=>?_);obtain⟨V9,Wy,h18⟩:=dO.get Nw;obtain aSK:=hO.len _ (zL Wy);obtain kX:V9=lk:=Option.some.inj (Wy.symm.trans X7);obtain⟨ae0,_⟩:V9.length=lk.length/\True:=⟨by rw[kX],trivial⟩;obtain⟨av5,aPq,aPo,anX,rfl,aPp,aFm,aFl⟩:=h18;refine jl 0 (nD _ _ Nw)<|zD 3<|zJ 20 ((i:Int) <(V9.length:Int)) (λh2=>?_) λh2=>?_
  ·
   refine jd 10 [1]<|zxs ws k eL 1 nE (λx28 GW=>?_);obtain⟨l29,aqN,h29⟩:=dO.get GW;obtain aHx:=hO.len _ (zL aqN);obtain Qv:l29=lk:=aJ (aqN.symm.trans X7);obtain⟨aeX,_⟩:l29.length=lk.length/\True:=⟨by rw[Qv],bW⟩;obtain⟨bcz,bcy,bcw,aFg,rfl,bcx,aFf,aFe⟩:=h29;refine jl 0 (nD _ _ GW)<|zD 1<|zxt l29 i aFg 2 aFf aFe λJq Aa=>zD 1<|jn λb34=>zxl bL b34 (⟨(k:Int),Jq.n,Jq.l⟩:ar) 1 0 (hJ.2) (λaDT aDM L35 Ql=>?_) (hb:=by have:=EV hO k;have:=hO.len _ (zL X7);simp only[aM,dj,cw,aK,aT];omega);refine zD 4<|zW ((i:Int)+1)<|zD 2<|zF mb (⟨i+1,(.slice aDT (((C8 S k++(lk.take i).map (eV k))++[(⟨(k:Int),Jq.n,Jq.l⟩:ar)])).length aDM),L35⟩) (by rw[cU (by rw[<-Qv];exact Aa),cC,<-bC];exact Ql) [0,2]
  refine zD 4<|zW ((k:Int)+1)<|zD 2<|zF cX (⟨k+1,vO,LO⟩) (by rw[Qf X7];have:=hJ.2;rwa[bF (by rw[<-kX];omega)] at this) [0,1]
 refine zD 8<|zR _ [] [0] LO (by have:=hI.2;rwa[show k=S.length by omega] at this)
def aDA(n lo hi:Int):Bool:=decide (n>=lo)&&decide (n<=hi)
theorem aMW{lo:Int}(h:lo<=n/\n<=hi):aDA n lo hi=true:=by grind [aDA]
theorem JX{x:ax}{t:Int}:(x.n==n&&(x.l==t&&true))=cz n t x:=by
 rw[Gk,sW];rcases x with ⟨a,b⟩;simp
def ahB(x y:ar):Bool:=decide (x.h <y.h)||(decide (x.h=y.h)&&qG ⟨x.n,x.l⟩ ⟨y.n,y.l⟩)
theorem XE{x y:ar}:ahB x y=pP x y:=by
 rw[Gk,BN];simp[ahB,I3]
def P5(l:List ax)(n:Int):Int:=if rQ l n 5 1>4 then 0 else rQ l n 5 1
theorem ad3{l:List ax}{n:Int}:∀ {f:Nat} {k:Int},k<=rQ l n f k
 |0,k=>Int.le_refl _
 |f+1,k=>by
  simp only[rQ]
  cases decide (bM _ l 0>=0) with
  |true=>have:=ad3 (l:=l) (n:=n) (f:=f) (k:=k+1);grind
  |false=>simp
def aum(l:List ax)(i:Nat)(m:Int):Prop:=(i=0/\m=0)\/∃y,l[i-1]?=some y/\1<=i/\m=y.n
theorem atW{l:List ax}{m:Int}{x:ax}(ha:l.Pairwise mH)(h:aum l i m)(hx:l[i]?=some x) (h1:1<=x.n):max m x.n=x.n:=by
 rcases h with ⟨_,h⟩| ⟨y,h2,h3,h4⟩
 .omega
 have:=wh ha (show i-1 <i by omega) h2 hx
 grind [mH]
theorem atX{l:List ax}{m:Int}(h:aum l i m)(e:i=l.length):m+Int.tmod m 2=gP l:=by
 rcases h with ⟨h,rfl⟩| ⟨y,h1,h2,rfl⟩
 .have:l=[]:=iO (by omega);subst this;rfl
 grind [gP]
theorem aPv(h:1<=n){b:Bool}:(decide (Int.tmod n 2=1)==b)=(mI n==b):=by
 grind [JC]
theorem avP{lo:Int}:iz zT 101 [zI n,zI lo,zI hi] ro (.bool (aDA n lo hi)):=by
 refine zE<|zD 10<|jj 4 [(6,.bool false),(14,.bool ((decide (n>=lo))&&(decide (n<=hi))))] (λni=>?_) (λhj=>?_);rotate_left;refine js 10 (decide (n>=lo)) (λh1=>?_) (λh1=>?_)
 ·
  have mA:=h1;replace mA:=ai mA;refine zD 4<|zxw 14 hj (zya h1)
 ·
  have mA:=h1;replace mA:=ah mA;refine zD 4<|zxw 14 hj (zyb h1)
 refine zD 3<|zX _ ⟨rfl,rfl⟩
theorem xN{lo:Int}(h:lo<=n/\n<=hi):iz zT 101 [zI n,zI lo,zI hi] ro (.bool true):=by
 grind [avP,lo,aMW]
def agB{x:ax}(hx:p7 x):iz zT 49 [.agg ⟨[zI x.n,zI x.l]⟩] ro (.bool true):=by
 obtain⟨⟨hx1,hx2⟩,hx3,hx4⟩:=hx;refine zE<|zD 2<|jn λb1=>jd 6 [0]<|zxp [zI x.n,zI 1,zI 40] (λhs=>xN (by omega))<|jd 3 [0]<|zxp [zI x.l,zI 0,zI 4] (λhs=>xN (by omega))<|zD 4<|zX _ ⟨rfl,rfl⟩
def HV{x y:ax}:iz zT 290 [.agg ⟨[zI x.n,zI x.l]⟩,.agg ⟨[zI y.n,zI y.l]⟩] ro (.bool (qG x y)):=by
 refine zE<|zD 2<|jn λb2=>jn λb3=>jd 10 [1,0]<|js 10 (decide (x.n <y.n)) (λh1=>?_) (λh1=>?_)
 ·
  have mA:=h1;replace mA:=ai mA;refine zD 16<|zX (.bool true) ⟨by simp_all[qG],rfl⟩
 have mA:=h1;replace mA:=ah mA;refine jd 6 [1,0]<|js 16 (decide (x.n=y.n)) (λh2=>?_) (λh2=>?_)
 ·
  have n6:=h2;replace n6:=ai n6;refine jd 10 [1,0]<|zX (.bool (decide (x.l <y.l))) ⟨by simp_all[qG],rfl⟩
 have n6:=h2;replace n6:=ah n6;refine zD 10<|zX (.bool false) ⟨by simp_all[qG],rfl⟩
def aE8{x y:ar}:iz zT 321 [.agg ⟨[zI x.h,zI x.n,zI x.l]⟩,.agg ⟨[zI y.h,zI y.n,zI y.l]⟩] ro (.bool (ahB x y)):=by
 refine zE<|zD 2<|jn λb2=>jn λb3=>jd 10 [1,0]<|js 10 (decide (x.h <y.h)) (λh1=>?_) (λh1=>?_)
 ·
  have mA:=h1;replace mA:=ai mA;refine zD 16<|zX (.bool true) ⟨by simp_all[ahB],rfl⟩
 have mA:=h1;replace mA:=ah mA;refine jd 6 [1,0]<|js 16 (decide (x.h=y.h)) (λh2=>?_) (λh2=>?_)
 ·
  have n6:=h2;replace n6:=ai n6;refine jd 4 [1,0]<|zxp [.agg ⟨[zI x.n,zI x.l]⟩,.agg ⟨[zI y.n,zI y.l]⟩] (λhs=>(HV (x:=⟨x.n,x.l⟩) (y:=⟨y.n,y.l⟩)))<|zD 5<|zX (.bool (qG ⟨x.n,x.l⟩ ⟨y.n,y.l⟩)) ⟨by simp_all[ahB],rfl⟩
 have n6:=h2;replace n6:=ah n6;refine zD 10<|zX (.bool false) ⟨by simp_all[ahB],rfl⟩
def Du{v:Value}{l:List ax}{t:Int}(hl:dq ro v 2 cu l)(hn:l.length<=12):iz zT 340 [v,.agg ⟨[zI n,zI t]⟩] ro (zI (bM (cz n t) l 0)):=by
 obtain⟨fQ,rK,rJ,fg,rfl,tJ,nj,nY⟩:=hl;refine zE<|zD 2<|jn λb3=>zD 8<|iE [1,0,1,0,0] [] (λ(zz:Nat)=>[(0,.slice fQ l.length fg),(3,zP b3),(5,zI (zz:Int))]) (λzz=>[zxc b3 39 [zI n,zI t]]) (λzz=>zz<=l.length/\bM (cz n t) l 0=bM (cz n t) (l.drop zz) zz) (λzz=>l.length-zz) 0 ⟨by omega,rfl⟩ [0] ?_;rintro k hI K1 cX rest;refine zD 8<|zJ 9 ((k:Int) <(l.length:Int)) (λh1=>?_) λh1=>?_
 ·
  refine zD 8<|zxt l k fg 2 nj nY λu4 iB=>jd 1 [0]<|jeq GF (ye u4.n u4.l n t)<|zD 1<|js 17 (u4.n==n&&(u4.l==t&&true)) (λh2=>?_) (λh2=>?_)
  ·
   refine zD 7<|zX (zI (k:Int)) ⟨by rw[hI.2,p5 iB,show cz n t u4=true from by rw[<-JX];assumption];rfl,rfl⟩
  refine zD 4<|zW ((k:Int)+1)<|zD 2<|zY cX (k+1) ⟨by omega,by rw[hI.2,p5 iB,show cz n t u4=false from by rw[<-JX];assumption];rfl⟩ [0]
 refine zD 7<|zX (zI (-1)) ⟨by rw[hI.2,A9 (by omega)],rfl⟩
theorem agC{v:Value}{l:List ax}{n:Int}{ro:Nat->Option Obj}(hl:dq ro v 2 cu l)(hn:l.length<=12):iz zT 341 [v,zI n] ro (zI (P5 l n)):=by
 obtain⟨fQ,rK,rJ,fg,rfl,tJ,nj,nY⟩:=hl
 refine zE<|zD 10<|iE [1,0,1,0,0] [] (λ(zz:Nat×Int)=>[(0,.slice fQ l.length fg),(1,zI n),(5,zI zz.2)]) (λzz=>[]) (λzz=>zz.1<=4/\zz.2=(zz.1:Int)+1/\rQ l n 5 1=rQ l n (5-zz.1) zz.2) (λzz=>5-zz.1) (⟨0,1⟩) ⟨by omega,rfl,rfl⟩ [] ?_
 rintro⟨k,q⟩ hI K1 cX rest
 dsimp only at hI
 refine zD 6<|zJ 7 (q<=4) (λh1=>?_) λh1=>?_
 ·
  refine zD 10<|zxp [.slice fQ l.length fg,.agg ⟨[zI n,zI q]⟩] (λhs=>Du ((show dq _ _ _ _ _ from ⟨fQ,rK,rJ,fg,rfl,tJ,nj,nY⟩).up hs) (by omega))<|zD 2<|zJ 15 ((bM (cz n q) l 0) <0) (λh2=>?_) λh2=>?_
  ·
   refine zD 7<|zX (zI q) ⟨by have:=hI.2.2;rw[ahd hI.1 (by omega)] at this;rw[P5,this,if_neg (by omega)],rfl⟩
  refine zD 4<|zW (q+1)<|zD 2<|zF cX (⟨k+1,(q+1)⟩) ⟨by dsimp only;omega,by dsimp only;rw[hI.2.2];exact aBj hI.1 (by omega)⟩ []
 refine zD 7<|zX (zI 0) ⟨by have:=@ad3 l n (5-k) q;rw[P5,if_pos (by omega)],rfl⟩
def aAK{v:Value}{l:List ax}(hl:dq ro v 2 cu l)(hn:l.length<=12)(ha:l.Pairwise mH)(hp:∀x∈l,p7 x):iz zT 339 [v] ro (zI (gP l)):=by
 obtain⟨fQ,rK,rJ,fg,rfl,tJ,nj,nY⟩:=hl;refine zE<|zD 14<|iE [1,1,0,1,0,0] [] (λ(zz:Nat×Int)=>[(0,.slice fQ l.length fg),(2,zI 0),(3,zI zz.2),(4,zI (zz.1:Int))]) (λzz=>[]) (λzz=>zz.1<=l.length/\(0<=zz.2/\zz.2<=40)/\aum l zz.1 zz.2) (λzz=>l.length-zz.1) (⟨0,0⟩) ⟨Nat.zero_le _,by omega,.inl ⟨rfl,rfl⟩⟩ [] ?_;rintro⟨i,m⟩ hI K1 cX rest;dsimp only at hI;refine zD 8<|zJ 8 ((i:Int) <(l.length:Int)) (λh1=>?_) λh1=>?_
 ·
  refine zD 8<|zxs l i fg 2 nj λu4 iB=>zD 1<|jl 0 (nY _ _ iB)<|jmx (k:= .i64) (a:=m) (b:=u4.n)<|zD 4<|zW ((i:Int)+1)<|zD 2 ?_;have hxp:=hp _ (zL iB);have hx1:=hxp.1.1;have hx2:=hxp.1.2;have u2:=atW ha hI.2.2 iB hx1;exact zF cX (⟨i+1,(max m u4.n)⟩) ⟨by dsimp only;rw[u2];omega,.inr ⟨u4,by simpa using iB,by omega,u2⟩⟩ []
 refine zD 3 ?_;have oM:=wT m (show (0:Int) <2 by decide);have yx:=wI 2 hI.2.1.1;refine zD 4<|zW (m+(Int.tmod m 2))<|zD 3<|zX _ ⟨by rw[<-atX hI.2.2 (by omega)],rfl⟩
def FX(c:aP):Int:=if (c.k=4\/c.k=7)/\c.ot=c.st then 4 else 0
theorem EO{c:aP}(h1:c.k=4\/c.k=7)(h2:c.ot=c.st):FX c=4:=dW ⟨h1,h2⟩
theorem qy{c:aP}(h:¬((c.k=4\/c.k=7)/\c.ot=c.st)):FX c=0:=cJ h
theorem avR{v:Value}{l:List ax}{q:Bool}(hl:dq ro v 2 cu l)(hn:l.length<=12)(hp:∀x∈l,p7 x):eW zT 350 [v,.bool q] ro [] (λr Y=>bJ r 2 39 cu (l.filter λx=>mI x.n==q) Y):=by
 obtain⟨fQ,rK,rJ,fg,rfl,tJ,nj,nY⟩:=hl;refine zE<|zD 14<|wN<|iE [1,1,0,1,0,0] [] (λ(zz:Nat×Value×Cells)=>[(0,.slice fQ l.length fg),(1,.bool q),(4,zS),(5,zz.2.1),(6,zI (zz.1:Int))]) (λzz=>[.l zz.2.2]) (λzz=>zz.1<=l.length/\bJ zz.2.1 2 39 cu ((l.take zz.1).filter λx=>mI x.n==q) zz.2.2) (λzz=>l.length-zz.1) (⟨0,zS,[]⟩) ⟨by dsimp only;omega,bJ.nil _ _ _⟩ [0] ?_;rintro⟨k,vO,LO⟩ hI K1 cX rest;dsimp only at hI;refine zD 8<|zJ 10 ((k:Int) <(l.length:Int)) (λh1=>?_) λh1=>?_
 ·
  refine zD 8<|zxs l k fg 2 nj λFs Kc=>zD 1<|jl 0 (nY _ _ Kc)<|zD 5<|js 21 ((decide ((Int.tmod Fs.n 2)=1))==q) (λh2=>?_) (λh2=>?_)
  ·
   refine zD 5<|zxt l k fg 2 nj nY λFq nA=>jn λb27=>zxl cu b27 (⟨Fq.n,Fq.l⟩:ax) 1 0 (hI.2) (λamA amu L28 Qm=>?_) (hb:=by grind);refine zD 4<|zW ((k:Int)+1)<|zD 2<|zF cX (⟨k+1,_,L28⟩) (by rw[si nA,show (mI Fq.n==q)=true by rw[<-aPv (hp _ (zL nA)).1.1];have e:=aJ (nA.symm.trans Kc);subst e;assumption];exact Qm) [0]
  refine zD 4<|zW ((k:Int)+1)<|zD 2<|zF cX (⟨k+1,vO,LO⟩) (by rw[si Kc,show (mI Fs.n==q)=false by rw[<-aPv (hp _ (zL Kc)).1.1];assumption];simpa using hI.2) [0]
 refine zD 8<|zR _ [] [0] LO (by have:=hI.2;rwa[bF (by omega)] at this)
def aE7{v:Value}{S:List (List ax)}(hS:bH ro v S)(hO:cg S):iz zT 254 [.agg ⟨[v]⟩] ro (zI 0):=by
 obtain⟨ws,ht,dO⟩:=hS;obtain⟨fP,we,vZ,eL,rfl,v9,nE,nD⟩:=ht;have Ah:=dO.len;have mM:=hO.two;refine zE<|zD 2<|jn λb1=>jd 10 [0]<|zJ 9 ((ws.length:Int)=0) (λh1=>?_) λh1=>?_
 ·
  exfalso;omega
 refine jd 10 [0]<|zJ 13 ((ws.length:Int)>3) (λh2=>?_) λh2=>?_
 ·
  exfalso;omega
 refine zD 8<|iE [1,1,1,0,1,0,0] [] (λ(zz:Nat)=>[(1,zP b1),(3,zI (zz:Int))]) (λzz=>[zxc b1 24 [.slice fP ws.length eL]]) (λzz=>zz<=ws.length) (λzz=>ws.length-zz) 0 (by omega) [0] ?_;rintro k hI K1 cX rest;refine jd 9 [0]<|zJ 18 ((k:Int) <(ws.length:Int)) (λh3=>?_) λh3=>?_
 ·
  refine jd 9 [0]<|zxs ws k eL 1 nE (λOB Ik=>?_);obtain⟨l25,aHG,h25⟩:=dO.get Ik;obtain bs5:=hO.len _ (zL aHG);obtain beG:=hO.ok _ (zL aHG);obtain beB:=hO.Sb _ (zL aHG);obtain⟨bcE,bq8,bq6,av3,rfl,bq7,aFk,aFj⟩:=h25;refine jl 0 (nD _ _ Ik)<|zD 9<|zJ 28 ((l25.length:Int)>8) (λh4=>?_) λh4=>?_
  ·
   exfalso;omega
  refine zD 7<|iE [1,1,1,0,1,0,0,1,0,0,1,1,1,0,0] [K1] (λ(zz:Nat)=>[(1,zP b1),(3,zI (k:Int)),(4,.slice bcE l25.length av3),(5,zI (zz:Int))]) (λzz=>[zxc b1 24 [.slice fP ws.length eL]]) (λzz=>zz<=l25.length) (λzz=>l25.length-zz) 0 (by omega) [0] ?_;rintro i hJ K2 mb rest;refine zD 8<|zJ 32 ((i:Int) <(l25.length:Int)) (λh5=>?_) λh5=>?_
  ·
   refine zD 9<|zxt l25 i av3 2 aFk aFj λjZ pg=>zxp [.agg ⟨[zI jZ.n,zI jZ.l]⟩] (λhs=>(agB (x:=jZ) (beG _ (zL pg))))<|zD 9<|js 2 (decide ((i:Int)>0)) (λh6=>?_) (λh6=>?_)
   ·
    have G5:=h6;replace G5:=ai G5;refine zD 2<|zW ((i:Int)-1) ?_;obtain⟨x47,aj9⟩:=zG l25 (((i:Int)-1).toNat);refine jsi ((i:Int)-1) av3 2 aFk aj9 (by omega)<|jl 0 (aFj _ _ aj9)<|zD 2<|zxt l25 i av3 2 aFk aFj λgR qB=>zxp [.agg ⟨[zI x47.n,zI x47.l]⟩,.agg ⟨[zI gR.n,zI gR.l]⟩] (λhs=>(HV (x:=⟨x47.n,x47.l⟩) (y:=⟨gR.n,gR.l⟩)))<|zD 3<|js 55 (!(qG ⟨x47.n,x47.l⟩ ⟨gR.n,gR.l⟩)) (λh7=>?_) (λh7=>?_)
    ·
     exfalso;have h3:=I3.2 (wh beB (show ((i:Int)-1).toNat <i by omega) aj9 qB);simp_all
    refine zD 4<|zW ((i:Int)+1)<|zD 2<|zY mb (i+1) (by omega) [0]
   have G5:=h6;replace G5:=ah G5;refine zD 17<|zW ((i:Int)+1)<|zD 2<|zY mb (i+1) (by omega) [0]
  refine zD 4<|zW ((k:Int)+1)<|zD 2<|zY cX (k+1) (by omega) [0]
 refine zD 7<|zX _ ⟨rfl,rfl⟩
def Y5{fa:Option Addr}{S:List (List ax)}(hS:bH ro vS S)(hO:cg S)(hT:kL ro vT ways)(hW:oB S ways):iz zT 222 [.agg ⟨[vS,vT,.slice fa 0 fc]⟩] ro (zI 0):=by
 have mY:=hS;obtain⟨n9,hs,lu⟩:=hS;obtain⟨qZ,qsb,qso,qY,rfl,qsk,qsh,qsl⟩:=hs;obtain⟨mf,ht,jh⟩:=id hT;obtain⟨fP,we,vZ,eL,rfl,v9,nE,nD⟩:=ht;have Oe:=lu.len;have Ww:=jh.len;have mM:=hO.two;have SQ:=hW.two;have Ni:∀(i:Nat) (p:iy),([]:List iy)[i]?=some p->eK ⟨ro,[]⟩ 0 (0+i*6) 6 (oA p):=λ_ _ h=>tP h;refine zE<|zD 2<|jn λb1=>jd 7 [0]<|zxp [.agg ⟨[.slice qZ n9.length qY]⟩] (λhs=>aE7 (mY.up hs) hO)<|jd 17 [0]<|zJ 17 ((mf.length:Int)>3) (λh1=>?_) λh1=>?_
 ·
  exfalso;omega
 refine zD 8<|iE [1,1,1,0,1,0,0] [] (λ(zz:Nat)=>[(1,zP b1),(4,zI (zz:Int))]) (λzz=>[zxc b1 28 [.slice qZ n9.length qY,.slice fP mf.length eL,.slice fa 0 fc]]) (λzz=>zz<=mf.length) (λzz=>mf.length-zz) 0 (by omega) [0] ?_;rintro k hI K1 cX rest;refine jd 9 [0]<|zJ 22 ((k:Int) <(mf.length:Int)) (λh2=>?_) λh2=>?_
 ·
  refine jd 9 [0]<|zxs mf k eL 1 nE λx28 GW=>zD 1 ?_;obtain⟨P7,aqM,h30⟩:=jh.get GW;obtain ako:=hW.ok _ (zL aqM);obtain⟨av0,bcv,bct,adw,rfl,bcu,avZ,avY⟩:=h30;refine jl 0 (nD _ _ GW)<|zD 9<|zJ 33 ((P7.length:Int)=0) (λh3=>?_) λh3=>?_
  ·
   exfalso;omega
  refine zD 9<|zJ 36 ((P7.length:Int)>3) (λh4=>?_) λh4=>?_
  ·
   exfalso;omega
  refine zD 7<|iE [1,1,1,0,1,0,0,1,0,0,1,1,1,1,0,0] [K1] (λ(zz:Nat)=>[(1,zP b1),(4,zI (k:Int)),(5,.slice av0 P7.length adw),(6,zI (zz:Int))]) (λzz=>[zxc b1 28 [.slice qZ n9.length qY,.slice fP mf.length eL,.slice fa 0 fc]]) (λzz=>zz<=P7.length) (λzz=>P7.length-zz) 0 (by omega) [0] ?_;rintro i hJ K2 mb rest;refine zD 8<|zJ 40 ((i:Int) <(P7.length:Int)) (λh5=>?_) λh5=>?_
  ·
   refine zD 8<|zxs P7 i adw 7 avZ λxI sC=>zD 1<|jl 0 (avY _ _ sC)<|zxp [zI xI.k,zI 1,zI 7] (λhs=>xN (ako.2 _ (zL sC)).k)<|zD 6<|zW ((i:Int)+1)<|zD 2<|zY mb (i+1) (by omega) [0]
  refine zD 4<|zW ((k:Int)+1)<|zD 2<|zY cX (k+1) (by omega) [0]
 refine jd 18 [0]<|iE [1,1,1,1,1,0,1,0,0] [] (λ(zz:Nat)=>[(1,zP b1),(7,zI 0)]) (λzz=>[zxc b1 28 [.slice qZ n9.length qY,.slice fP mf.length eL,.slice fa 0 fc]]) (λzz=>True) (λzz=>zz) 0 bW [0] ?_;rintro z hQ K3 FI rest;refine jd 16 [0]<|zX _ ⟨rfl,rfl⟩
def aE2{v:Value}{S:List (List ax)}{k s a:Int}(hS:bH ro v S)(hO:cg S)(hc:nn S ⟨k,s,o,a,b,e,f⟩):eW zT 322 [.agg ⟨[v]⟩,.agg ⟨[zI k,zI s,zI o,zI a,zI b,zI e,zI f]⟩] ro [] (λr Y=>∃x:aP,r= .tuple ⟨[zI (FX ⟨k,s,o,a,b,e,f⟩),.agg ⟨mO x⟩]⟩/\(FX ⟨k,s,o,a,b,e,f⟩=0->x=⟨k,s,o,a,b,e,f⟩)/\Y=[]):=by
 obtain⟨ws,ht,dO⟩:=hS;obtain⟨fP,we,vZ,eL,rfl,v9,nE,nD⟩:=ht;have Ah:=dO.len;have mM:=hO.two;obtain⟨Ol,Qx,CQ,WC,hcf,hct⟩:=hc;dsimp only at Ol Qx CQ WC hcf hct;refine zE<|zD 2<|jn λb2=>jn λb3=>zD 1<|jn λb5=>jd 8 [1,1]<|jn λb6=>jd 7 [0,2]<|zxp [zI k,zI 1,zI 7] (λhs=>xN (by omega))<|jd 12 [2,3]<|zW ((ws.length:Int)-1)<|zxp [zI s,zI 0,zI ((ws.length:Int)-1)] (λhs=>xN (by omega))<|jd 17 [2]<|zJ 28 (k=4) (λh1=>?_) λh1=>?_
 ·
  refine jd 18 [2,0,2,3]<|zW ((ws.length:Int)-1)<|zxp [zI o,zI 0,zI ((ws.length:Int)-1)] (λhs=>xN (by omega))<|jd 12 [2,2]<|zJ 47 (o=s) (λh2=>?_) λh2=>?_
  ·
   refine jd 5 [0]<|zxo 2 λtT=>jd 1 [1]<|kV tT<|zD 2<|zR _ [1] [] [] ⟨(⟨k,s,o,0,0,0,0⟩:aP),by rw[EO (by dsimp only;omega) (by dsimp only;omega)],λh=>by rw[EO (by dsimp only;omega) (by dsimp only;omega)] at h;exact absurd h (by decide),rfl⟩
  refine jd 15 [2]<|zJ 51 (k=5) (λh4=>?_) λh4=>?_
  ·
   refine jd 13 [2,0,0]<|zxo 2 λDX=>jd 1 [1]<|kV DX<|zD 2<|zR _ [1] [] [] ⟨(⟨k,s,o,a,b,0,0⟩:aP),by rw[qy (by dsimp only;omega)],λ_=>by simp only[aP.mk.injEq,true_and,and_true]<;>omega,rfl⟩
  refine zD 5<|zJ 51 (k=6) (λh6=>?_) λh6=>?_
  ·
   refine jd 11 [2,0,0]<|zxo 2 λwA=>jd 1 [1]<|kV wA<|zD 2<|zR _ [1] [] [] ⟨(⟨k,s,o,a,b,0,0⟩:aP),by rw[qy (by dsimp only;omega)],λ_=>by simp only[aP.mk.injEq,true_and,and_true]<;>omega,rfl⟩
  refine zD 6<|zJ 57 (k=7) (λh8=>?_) λh8=>?_
  ·
   refine jd 7 [2,2]<|zxo 5 λuD=>jd 1 [0]<|eE uD [[2]]<|zD 1<|zxo 7 λCU=>jd 1 [0]<|kV CU<|jd 5 [0]<|zxo 2 λKB=>jd 1 [1]<|kV KB<|zD 2<|zR _ [1] [] [] ⟨(⟨k,s,o,a,b,e,f⟩:aP),by rw[qy (by dsimp only;omega)],λ_=>by simp only[aP.mk.injEq,true_and,and_true]<;>omega,rfl⟩
  refine jd 6 [0]<|zxo 2 λQB=>jd 1 [1]<|kV QB<|zD 2<|zR _ [1] [] [] ⟨(⟨k,s,o,0,0,0,0⟩:aP),by rw[qy (by dsimp only;omega)],λ_=>by simp only[aP.mk.injEq,true_and,and_true]<;>omega,rfl⟩
 refine zD 5<|zJ 28 (k=7) (λG6=>?_) λG6=>?_
 ·
  refine jd 16 [2,0,2,3]<|zW ((ws.length:Int)-1)<|zxp [zI o,zI 0,zI ((ws.length:Int)-1)] (λhs=>xN (by omega))<|jd 12 [2,2]<|zJ 47 (o=s) (λh14=>?_) λh14=>?_
  ·
   refine jd 5 [0]<|zxo 2 λhL8=>jd 1 [1]<|kV hL8<|zD 2<|zR _ [1] [] [] ⟨(⟨k,s,o,0,0,0,0⟩:aP),by rw[EO (by dsimp only;omega) (by dsimp only;omega)],λh=>by rw[EO (by dsimp only;omega) (by dsimp only;omega)] at h;exact absurd h (by decide),rfl⟩
  refine jd 15 [2]<|zJ 51 (k=5) (λh16=>?_) λh16=>?_
  ·
   refine jd 13 [2,0,0]<|zxo 2 λhL9=>jd 1 [1]<|kV hL9<|zD 2<|zR _ [1] [] [] ⟨(⟨k,s,o,a,b,0,0⟩:aP),by rw[qy (by dsimp only;omega)],λ_=>by simp only[aP.mk.injEq,true_and,and_true]<;>omega,rfl⟩
  refine zD 5<|zJ 51 (k=6) (λh18=>?_) λh18=>?_
  ·
   refine jd 11 [2,0,0]<|zxo 2 λKG=>jd 1 [1]<|kV KG<|zD 2<|zR _ [1] [] [] ⟨(⟨k,s,o,a,b,0,0⟩:aP),by rw[qy (by dsimp only;omega)],λ_=>by simp only[aP.mk.injEq,true_and,and_true]<;>omega,rfl⟩
  refine zD 6<|zJ 57 (k=7) (λh20=>?_) λh20=>?_
  ·
   refine jd 7 [2,2]<|zxo 5 λKE=>jd 1 [0]<|eE KE [[2]]<|zD 1<|zxo 7 λWQ=>jd 1 [0]<|kV WQ<|jd 5 [0]<|zxo 2 λQF=>jd 1 [1]<|kV QF<|zD 2<|zR _ [1] [] [] ⟨(⟨k,s,o,a,b,e,f⟩:aP),by rw[qy (by dsimp only;omega)],λ_=>by simp only[aP.mk.injEq,true_and,and_true]<;>omega,rfl⟩
  refine jd 6 [0]<|zxo 2 λKD=>jd 1 [1]<|kV KD<|zD 2<|zR _ [1] [] [] ⟨(⟨k,s,o,0,0,0,0⟩:aP),by rw[qy (by dsimp only;omega)],λ_=>by simp only[aP.mk.injEq,true_and,and_true]<;>omega,rfl⟩
 refine jd 15 [2]<|zJ 51 (k=5) (λh25=>?_) λh25=>?_
 ·
  refine jd 13 [2,0,0]<|zxo 2 λWO=>jd 1 [1]<|kV WO<|zD 2<|zR _ [1] [] [] ⟨(⟨k,s,0,a,b,0,0⟩:aP),by rw[qy (by dsimp only;omega)],λ_=>by simp only[aP.mk.injEq,true_and,and_true]<;>omega,rfl⟩
 refine zD 5<|zJ 51 (k=6) (λh27=>?_) λh27=>?_
 ·
  refine jd 11 [2,0,0]<|zxo 2 λQE=>jd 1 [1]<|kV QE<|zD 2<|zR _ [1] [] [] ⟨(⟨k,s,0,a,b,0,0⟩:aP),by rw[qy (by dsimp only;omega)],λ_=>by simp only[aP.mk.injEq,true_and,and_true]<;>omega,rfl⟩
 refine zD 6<|zJ 57 (k=7) (λh29=>?_) λh29=>?_
 ·
  refine jd 7 [2,2]<|zxo 5 λKC=>jd 1 [0]<|eE KC [[2]]<|zD 1<|zxo 7 λae0=>jd 1 [0]<|kV ae0<|jd 5 [0]<|zxo 2 λWN=>jd 1 [1]<|kV WN<|zD 2<|zR _ [1] [] [] ⟨(⟨k,s,0,a,b,e,f⟩:aP),by rw[qy (by dsimp only;omega)],λ_=>by simp only[aP.mk.injEq,true_and,and_true]<;>omega,rfl⟩
 refine jd 6 [0]<|zxo 2 λQC=>jd 1 [1]<|kV QC<|zD 2<|zR _ [1] [] [] ⟨(⟨k,s,0,0,0,0,0⟩:aP),by rw[qy (by dsimp only;omega)],λ_=>by simp only[aP.mk.injEq,true_and,and_true]<;>omega,rfl⟩
theorem Tn{S:List (List ax)}{i:Int}{l:List ax}(h:S[i.toNat]?=some l):zn S i=l:=by grind [zn]
theorem ay3{S:List (List ax)}{s a:Int}{l lo:List ax}(eo:o≠s)(hl:S[s.toNat]?=some l) (ho:S[o.toNat]?=some lo):iG S ⟨4,s,o,a,b,e,f⟩=r5 l lo:=by grind [iG,Tn]
theorem atg{S:List (List ax)}{s a:Int}{l:List ax}(hl:S[s.toNat]?=some l):iG S ⟨5,s,o,a,b,e,f⟩=Ec l a b:=by grind [iG,Tn]
theorem aU9{S:List (List ax)}{s a:Int}{l:List ax}(hl:S[s.toNat]?=some l):iG S ⟨6,s,o,a,b,e,f⟩=Ba l a b:=by grind [iG,Tn]
theorem akT{S:List (List ax)}{s a:Int}{l lo:List ax}(eo:o≠s)(hl:S[s.toNat]?=some l) (ho:S[o.toNat]?=some lo):iG S ⟨7,s,o,a,b,e,f⟩=oR l lo (bM (cz a b) l 0) (bM (cz e f) l 0):=by grind [iG,Tn]
theorem biQ{S:List (List ax)}{k s a:Int}(h:k <4):iG S ⟨k,s,o,a,b,e,f⟩=0:=by
 grind [iG]
theorem axD{l lo:List ax}(h:¬l.length+lo.length>8)(h2:∀x∈l.take i,¬x.n+gP lo>40)(hi:l.length<=i):r5 l lo=0:=by grind [join_0,bF]
theorem apm{l:List ax}:P5 l n=0↔rQ l n 5 1>4:=by
 have:=@ad3 l n 5 1
 grind [P5]
theorem IE{l:List ax}{x:ax}(hn:l.Nodup)(h:l[i]?=some x):bM (cz x.n x.l) l 0=(i:Int):=by
 rcases QZ (p:=cz x.n x.l) (k:=0) with ⟨_,h2⟩| ⟨j,y,h1,h2,h3⟩
 .have:=h2 x (zL h);rw[sW.2 rfl] at this;grind
 rw[sW.1 h2] at h1;have:=Eo hn h h1;omega
def I2{l:List ax}(ha:l.Pairwise mH){a:Int}(h1:bM (cz a b) l 0>=0)(h2:bM (cz e f) l 0>=0):qG ⟨e,f⟩ ⟨a,b⟩=decide (bM (cz e f) l 0 <bM (cz a b) l 0):=by
 obtain⟨i,hi⟩:=dA (H0 h1);obtain⟨j,hj⟩:=dA (H0 h2);have e1:bM (cz a b) l 0=i:=IE (yh ha) hi;have e2:bM (cz e f) l 0=j:=IE (yh ha) hj;rw[Gk,I3,aA,e1,e2];constructor
 .intro h;by_cases Of:j <i
  .omega
  by_cases Ht:i <j
  .have:=wh ha Ht hi hj;simp only[mH] at*;omega
  have:i=j:=by omega
  subst this;rw[hi] at hj;cases hj;simp only[mH] at h;omega
 intro h;exact wh ha (by omega) hj hi
def aOC{v:Value}{S:List (List ax)}{k s a:Int}(hS:bH ro v S)(hO:cg S)(hc:nn S ⟨k,s,o,a,b,e,f⟩)(eo:FX ⟨k,s,o,a,b,e,f⟩=0):iz zT 323 [.agg ⟨[v]⟩,.agg ⟨[zI k,zI s,zI o,zI a,zI b,zI e,zI f]⟩] ro (zI (iG S ⟨k,s,o,a,b,e,f⟩)):=by
 obtain⟨ws,ht,dO⟩:=hS;obtain⟨fP,we,vZ,eL,rfl,v9,nE,nD⟩:=ht;have Ah:=dO.len;have mM:=hO.two;obtain⟨Ol,Qx,CQ,WC,hcf,hct⟩:=hc;dsimp only at Ol Qx CQ WC hcf hct;have hnn:¬((k=4\/k=7)/\o=s):=λh=>by rw[EO h.1 h.2] at eo;exact absurd eo (by decide)
 refine zE<|zD 2<|jn λb2=>jn λb3=>jd 8 [1,0] ?_;obtain⟨Aw,uA⟩:=zG ws (s.toNat);refine jsi s eL 1 nE uA (by omega) ?_;obtain⟨C6,BX,G6⟩:=dO.get uA;obtain bfR:=hO.len _ (zL BX);obtain beL:=hO.ok _ (zL BX);obtain akb:=hO.Sb _ (zL BX);obtain⟨HX,adz,adx,Gy,rfl,ady,Zl,Zk⟩:=G6;refine jl 0 (nD _ _ uA)<|jd 14 [0]<|zJ 16 (k=4) (λh1=>?_) λh1=>?_
 ·
  refine jd 7 [1,0] ?_;obtain⟨LY,iQ⟩:=zG ws (o.toNat);refine jsi o eL 1 nE iQ (by omega) ?_;obtain⟨SD,Io,WS⟩:=dO.get iQ;obtain aHz:=hO.len _ (zL Io);obtain axT:=hO.ok _ (zL Io);obtain beC:=hO.Sb _ (zL Io);obtain⟨yD,Nn,Nj,yC,rfl,Nl,Nm,Nk⟩:=WS;refine jl 0 (nD _ _ iQ)<|zD 9<|zW ((C6.length:Int)+(SD.length:Int))<|zD 2<|zJ 29 (((C6.length:Int)+(SD.length:Int))>8) (λh2=>?_) λh2=>?_
  ·
   refine zD 6 ?_;obtain rfl:k=4:=by omega
   exact zX (zI 6) ⟨by rw[ay3 (by omega) BX Io];rw[join_6 (by omega)],rfl⟩
  refine zD 7<|iE [1,1,0,1,0,1,0,1,1,1,0,0] [] (λ(zz:Nat)=>[(5,.slice HX C6.length Gy),(6,.slice yD SD.length yC),(7,zI (zz:Int))]) (λzz=>[zxc b3 100 [zI k,zI s,zI o,zI a,zI b,zI e,zI f],zxc b2 24 [.slice fP ws.length eL]]) (λzz=>zz<=C6.length/\∀x∈C6.take zz,¬x.n+gP SD>40) (λzz=>C6.length-zz) 0 ⟨bK _,λ_ h=>by simp at h⟩ [0,1] ?_;rintro i hI K1 cX rest;refine zD 8<|zJ 33 ((i:Int) <(C6.length:Int)) (λh3=>?_) λh3=>?_
  ·
   refine zD 5 ?_;have bsJ:=Dt axT;refine zD 3<|zxs C6 i Gy 2 Zl λx38 GV=>zD 1<|jl 0 (Zk _ _ GV)<|zD 1<|zxp [.slice yD SD.length yC] (λhs=>aAK ((show dq _ _ _ _ _ from ⟨yD,Nn,Nj,yC,rfl,Nl,Nm,Nk⟩).up hs) (by omega) beC axT)<|ja (x38.n+(gP SD)) (by have:=(beL _ (zL GV)).1;have:=Dt axT;have:=raise_0 axT;omega) ?_;refine zD 2<|zJ 44 ((x38.n+(gP SD))>40) (λh4=>?_) λh4=>?_
   ·
    refine zD 6 ?_;obtain rfl:k=4:=by omega
    exact zX (zI 1) ⟨by rw[ay3 (by omega) BX Io];rw[join_1 (by omega) (zL GV) (by omega)],rfl⟩
   refine zD 4<|zW ((i:Int)+1)<|zD 2<|zY cX (i+1) ⟨by omega,I4 hI.2 GV (by omega)⟩ [0,1]
  refine zD 7 ?_;obtain rfl:k=4:=by omega
  exact zX (zI 0) ⟨by rw[ay3 (by omega) BX Io];rw[axD (by omega) hI.2 (by omega)],rfl⟩
 refine zD 6<|zJ 45 (k=5) (λh5=>?_) λh5=>?_
 ·
  refine jd 7 [0]<|zxp [.slice HX C6.length Gy,.agg ⟨[zI a,zI b]⟩] (λhs=>Du ((show dq _ _ _ _ _ from ⟨HX,adz,adx,Gy,rfl,ady,Zl,Zk⟩).up hs) (by omega))<|zD 2<|zJ 51 ((bM (cz a b) C6 0) <0) (λh6=>?_) λh6=>?_
  ·
   refine zD 6 ?_;obtain rfl:k=5:=by omega
   exact zX (zI 3) ⟨by rw[atg BX];rw[div_3 (by simp;omega)],rfl⟩
  refine zD 8<|js 55 (decide ((C6.length:Int)=8)) (λh7=>?_) (λh7=>?_)
  ·
   have h7g:=h7;replace h7g:=ai h7g;exfalso;omega
  have h7g:=h7;replace h7g:=ah h7g;refine jd 4 [0]<|zxp [.slice HX C6.length Gy,zI a] (λhs=>agC ((show dq _ _ _ _ _ from ⟨HX,adz,adx,Gy,rfl,ady,Zl,Zk⟩).up hs) (by omega))<|zD 3<|zJ 62 ((P5 C6 a)=0) (λh8=>?_) λh8=>?_
  ·
   refine zD 6 ?_;obtain rfl:k=5:=by omega
   exact zX (zI 6) ⟨by rw[atg BX];rw[div_6 (by simp;omega) (apm.1 (by simp_all))],rfl⟩
  refine zD 7 ?_;obtain rfl:k=5:=by omega
  exact zX (zI 0) ⟨by rw[atg BX];rw[div_0 (by simp;omega) (λh=>by have:=apm.2 h;simp_all)],rfl⟩
 refine zD 6<|zJ 63 (k=6) (λh9=>?_) λh9=>?_
 ·
  refine jd 6 [0]<|zxp [.slice HX C6.length Gy,.agg ⟨[zI a,zI b]⟩] (λhs=>Du ((show dq _ _ _ _ _ from ⟨HX,adz,adx,Gy,rfl,ady,Zl,Zk⟩).up hs) (by omega))<|zD 2<|zJ 69 ((bM (cz a b) C6 0) <0) (λxF=>?_) λxF=>?_
  ·
   refine zD 6 ?_;obtain rfl:k=6:=by omega
   exact zX (zI 3) ⟨by rw[aU9 BX];rw[afi (by simp;omega)],rfl⟩
  refine zD 7 ?_;obtain rfl:k=6:=by omega
  exact zX (zI 0) ⟨by rw[aU9 BX];rw[asP (by simp;omega)],rfl⟩
 refine zD 6<|zJ 70 (k=7) (λwD=>?_) λwD=>?_
 ·
  refine zD 3 ?_;obtain⟨lo,qL⟩:∃l,S[o.toNat]?=some l:=⟨_,af (by omega)⟩;refine jd 4 [0]<|zxp [.slice HX C6.length Gy,.agg ⟨[zI a,zI b]⟩] (λhs=>Du ((show dq _ _ _ _ _ from ⟨HX,adz,adx,Gy,rfl,ady,Zl,Zk⟩).up hs) (by omega))<|zD 2<|js 77 (decide ((bM (cz a b) C6 0) <0)) (λYc=>?_) (λYc=>?_)
  ·
   have asj:=Yc;replace asj:=ai asj;refine zD 13 ?_;obtain rfl:k=7:=by omega
   exact zX (zI 3) ⟨by rw[akT (by omega) BX qL];rw[IS (by omega)],rfl⟩
  have asj:=Yc;replace asj:=ah asj;refine jd 3 [0]<|zxp [.slice HX C6.length Gy,.agg ⟨[zI e,zI f]⟩] (λhs=>Du ((show dq _ _ _ _ _ from ⟨HX,adz,adx,Gy,rfl,ady,Zl,Zk⟩).up hs) (by omega))<|zD 3<|zJ 83 ((bM (cz e f) C6 0) <0) (λG6=>?_) λG6=>?_
  ·
   refine zD 6 ?_;obtain rfl:k=7:=by omega
   exact zX (zI 3) ⟨by rw[akT (by omega) BX qL];rw[IQ (by omega) (by omega)],rfl⟩
  refine jd 9 [0,0]<|zxp [.agg ⟨[zI e,zI f]⟩,.agg ⟨[zI a,zI b]⟩] (λhs=>(HV (x:=⟨e,f⟩) (y:=⟨a,b⟩)))<|zD 1<|js 88 (qG ⟨e,f⟩ ⟨a,b⟩) (λh14=>?_) (λh14=>?_)
  ·
   refine zD 6 ?_;obtain rfl:k=7:=by omega
   have hb:=I2 akb (show bM (cz a b) C6 0>=0 by omega) (show bM (cz e f) C6 0>=0 by omega);exact zX (zI 5) ⟨by rw[akT (by omega) BX qL];rw[IP (by omega) (by omega) (by simp_all)],rfl⟩
  refine jd 8 [1,0] ?_;obtain⟨x93,Wq⟩:=zG ws (o.toNat);refine jsi o eL 1 nE Wq (by omega) ?_;obtain⟨l94,aSS,h94⟩:=dO.get Wq;obtain bs1:=hO.len _ (zL aSS);obtain aTj:l94=lo:=aJ (aSS.symm.trans qL);obtain⟨bqK,bqJ,bqE,bqI,rfl,bqG,bqH,bqF⟩:=h94;refine jl 0 (nD _ _ Wq)<|zD 3<|zJ 96 ((l94.length:Int)>0) (λWT=>?_) λWT=>?_
  ·
   refine zD 6 ?_;obtain rfl:k=7:=by omega
   have hb:=I2 akb (show bM (cz a b) C6 0>=0 by omega) (show bM (cz e f) C6 0>=0 by omega);have hbn:¬bM (cz e f) C6 0 <bM (cz a b) C6 0:=by simp_all
   exact zX (zI 12) ⟨by rw[akT (by omega) BX qL];rw[IN (by omega) (by omega) hbn (by rw[<-aTj];omega)],rfl⟩
  refine zD 7 ?_;obtain rfl:k=7:=by omega
  have hb:=I2 akb (show bM (cz a b) C6 0>=0 by omega) (show bM (cz e f) C6 0>=0 by omega);have hbn:¬bM (cz e f) C6 0 <bM (cz a b) C6 0:=by simp_all
  exact zX (zI 0) ⟨by rw[akT (by omega) BX qL];rw[court_0 (by omega) (by omega) hbn (by rw[<-aTj];omega)],rfl⟩
 refine zD 7<|zX (zI 0) ⟨by rw[biQ (by omega)],rfl⟩
def aU5(a0:Int)(a1:Int)(a2:Int)(a3:Int)(a4:Int)(a5:Int)(a6:Int)(b0:Int)(b1:Int)(b2:Int)(b3:Int)(b4:Int)(b5:Int)(b6:Int):EqV zT 100 (.agg ⟨[zI a0,zI a1,zI a2,zI a3,zI a4,zI a5,zI a6]⟩) (.agg ⟨[zI b0,zI b1,zI b2,zI b3,zI b4,zI b5,zI b6]⟩) (a0==b0&&(a1==b1&&(a2==b2&&((a3==b3&&(a4==b4&&true))&&((a5==b5&&(a6==b6&&true))&&(true)))))):=
 afn (B3 (qV Tryz.typeInfo100 Tryz.underlying100 rfl rfl rfl rfl rfl rfl) Tryz.stoodInHeld100 (.cons (by decide) (oJ rF rfl) (oJ rF rfl) (tq rF _ _) (.cons (by simp) (oJ rF rfl) (oJ rF rfl) (tq rF _ _) (.cons (by decide) (oJ rF rfl) (oJ rF rfl) (tq rF _ _) (.cons (by decide) (BF (qV Tryz.typeInfo39 Tryz.underlying39 rfl rfl rfl rfl rfl rfl) rfl) (BF (qV Tryz.typeInfo39 Tryz.underlying39 rfl rfl rfl rfl rfl rfl) rfl) (aby _ _ _ _ _) (.cons (by decide) (BF (qV Tryz.typeInfo39 Tryz.underlying39 rfl rfl rfl rfl rfl rfl) rfl) (BF (qV Tryz.typeInfo39 Tryz.underlying39 rfl rfl rfl rfl rfl rfl) rfl) (aby _ _ _ _ _) .nil))))))
def bc6:Cc zT 100:=Tryz.eqGuardType100
theorem atf{S:List (List ax)}{c:aP}(h:¬FX c=0):iG S c=FX c:=by
 grind [EO,iG,absurd,qy]
def bbH{v:Value}{S:List (List ax)}{k s a:Int}(hS:bH ro v S)(hO:cg S)(hc:nn S ⟨k,s,o,a,b,e,f⟩):eW zT 292 [.agg ⟨[v]⟩,.agg ⟨[zI k,zI s,zI o,zI a,zI b,zI e,zI f]⟩] ro [] (λr Y=>r= zI (iG S ⟨k,s,o,a,b,e,f⟩)/\Y=[]):=by
 have mY:=hS;obtain⟨ws,ht,dO⟩:=hS;obtain⟨fP,we,vZ,eL,rfl,v9,nE,nD⟩:=ht;have Ah:=dO.len;have mM:=hO.two;refine zE<|zD 2<|jn λb2=>jn λb3=>jd 6 [1,0]<|jc (vs:=[.agg ⟨[.slice fP ws.length eL]⟩,.agg ⟨[zI k,zI s,zI o,zI a,zI b,zI e,zI f]⟩]) [] (aE2 mY hO hc) ?_;rintro _ _ ⟨x,rfl,hx,rfl⟩;refine jg 0 []<|zD 3<|jn λb6=>jd 9 [0]<|js 14 (!decide ((FX ⟨k,s,o,a,b,e,f⟩)=0)) (λh1=>?_) (λh1=>?_)
 ·
  refine zD 7<|zX _ ⟨by rw[atf (by simp_all)],rfl⟩
 refine zD 4 ?_;have hn0:FX ⟨k,s,o,a,b,e,f⟩=0:=by simp_all
 obtain rfl:=hx hn0;refine jg 0 [zxc b6 100 [zI k,zI s,zI o,zI a,zI b,zI e,zI f]]<|jd 3 [1,0]<|jne bc6 (aU5 k s o a b e f k s o a b e f)<|zD 1<|js 18 (!(k==k&&(s==s&&(o==o&&((a==a&&(b==b&&true))&&((e==e&&(f==f&&true))&&(true))))))) (λh2=>?_) (λh2=>?_)
 ·
  try simp only[zB] at h2
  exfalso;simp_all
 try simp only[zB] at h2
 refine jd 6 [2,1]<|zxp [.agg ⟨[.slice fP ws.length eL]⟩,.agg ⟨[zI k,zI s,zI o,zI a,zI b,zI e,zI f]⟩] (λhs=>aOC (mY.up hs) hO hc hn0)<|zD 3<|zX _ ⟨rfl,rfl⟩
def q5(l:List ax)(x:ax):List ax:=l.filter λz=>mI z.n==mI x.n
theorem ZA{l:List ax}{x:ax}:q5 l x∈pZ l/\q5 l x=vz l (if mI x.n=true then 0 else 1):=by
 cases h:mI x.n with
 |true=>
  grind [q5,mI,List.filter_congr,pZ,vz]
 |false=>
  grind [q5,CW,List.filter_congr,ZH,pZ,vz]
def adD{l:List ax}{x:ax}(hn:l.Nodup)(hx:x∈l):∃i:Nat,(q5 l x)[i]?=some x/\bM (cz x.n x.l) (q5 l x) 0=(i:Int):=by
 obtain⟨i,hi⟩:=dA (show x∈q5 l x from cN.2 ⟨hx,by simp⟩);exact⟨i,hi,IE (hn.filter _) hi⟩
section
variable {S:List (List ax)} {s o:Nat} {l lo:List ax} {x:ax} {q a b e f:Int} (hO:cg S) (hl:S[s]?=some l) (hx:x∈l)
include hO hl hx
theorem to1{y:ax}(hy:(q5 l x)[(((q5 l x).length:Int)-1-bM (cz x.n x.l) (q5 l x) 0).toNat]?=some y):fY S ⟨1,s,q,a,b,e,f⟩ (eV s x)=[eV s y]:=by
 obtain⟨i,h1,h2⟩:=adD (yh (hO.Sb l (zL hl))) hx;rw[h2] at hy;have hm:=zL (agu (s:=(s:Int)) h1 hy);have h3:(eV (s:Int) x,[eV (s:Int) y])∈Me (s:Int) l:=eZ.2 ⟨_,ZA.1,hm⟩;have:=MM (agc hO hl).key h3;simpa [fY,yf,uo hl] using this
theorem to2:fY S ⟨2,s,q,a,b,e,f⟩ (eV s x)=[⟨s,if mI x.n=true then x.n+1 else x.n-1,x.l⟩]:=by
 have:=MM (agl hO hl).key (dR hx)
 grind [fY,yf,uo]
theorem to3:fY S ⟨3,s,q,a,b,e,f⟩ (eV s x)=[⟨s,2*bM (cz x.n x.l) (q5 l x) 0+2-Int.tmod x.n 2,0⟩]:=by
 obtain⟨i,h1,h2⟩:=adD (yh (hO.Sb l (zL hl))) hx;rw[ZA.2] at h1;have hp:=(hO.ok l (zL hl) x hx).1.1;have hm:=zL (UO (s:=(s:Int)) h1);have h3:=MM (abI hO hl).key (eZ.2 ⟨_,ee.2 (by split<;>omega),hm⟩)
 grind [mI,Int.tmod,JC,fY,yf,uo]
theorem to4(ho:S[o]?=some lo) (he:r5 l lo=0):fY S ⟨4,s,o,a,b,e,f⟩ (eV s x)=[⟨o,x.n+gP lo,x.l⟩]:=by
 have:=MM (ahr hO hl ho he).key (dR hx)
 grind [fY,yf,uo]
theorem to5(he:Ec l a b=0):fY S ⟨5,s,q,a,b,e,f⟩ (eV s x)=if cz a b x=true then [eV s x,⟨s,x.n,P5 l x.n⟩] else [eV s x]:=by
 have hk:=(atk hO hl he).key;have e1:fY S ⟨5,s,q,a,b,e,f⟩ (eV s x)=gU (La (s:Int) l a b) (eV s x):=by simp[fY,yf,uo hl]
 rw[e1];split
 .rename_i h;obtain rfl:=sW.1 h;have hle:¬rQ l a 5 1>4:=λh=>by
   grind [bM,cz,div_3,div_6]
  rw[P5,cJ hle];exact MM (p:=(eV (s:Int) ⟨a,b⟩,_)) hk (aV.2 rfl)
 rename_i h;refine QL λhm=>h ?_;simp only[La,bV,lN,aV] at hm;exact sW.2 (PG hm)
theorem to6:fY S ⟨6,s,q,a,b,e,f⟩ (eV s x)=if cz a b x=true then [] else [eV s x]:=by
 have e1:fY S ⟨6,s,q,a,b,e,f⟩ (eV s x)=gU [((⟨s,a,b⟩:ar),([]:List ar))] (eV s x):=by simp[fY,yf]
 rw[e1];split
 .rename_i h;obtain rfl:=sW.1 h;exact MM (by simp) (aV.2 rfl)
 rename_i h;refine QL λhm=>h ?_;simp only[bV,lN,aV] at hm;exact sW.2 (PG hm)
theorem to7(ho:S[o]?=some []) (h1:bM (cz a b) l 0>=0) (h2:bM (cz e f) l 0>=0):fY S ⟨7,s,o,a,b,e,f⟩ (eV s x)=if (!qG x ⟨a,b⟩&& !qG ⟨e,f⟩ x)=true then [⟨o,bM (cz x.n x.l) l 0-bM (cz a b) l 0+1,0⟩] else [eV s x]:=by
 have ha:=hO.Sb l (zL hl);have hn:=yh ha;obtain⟨i,hi⟩:=dA hx;have e0:bM (cz x.n x.l) l 0=i:=IE hn hi;have Hr:bM (cz x.n x.l) l 0>=0:=by omega
 have b1:=I2 ha (a:=a) (b:=b) (e:=x.n) (f:=x.l) h1 Hr;have b2:=I2 ha (a:=x.n) (b:=x.l) (e:=e) (f:=f) Hr h2;rw[show (⟨x.n,x.l⟩:ax)=x from rfl] at b1 b2;rw[b1,b2,e0];have e1:fY S ⟨7,s,o,a,b,e,f⟩ (eV s x)=gU (rU (s:Int) (o:Int) (Fv l (bM (cz a b) l 0) (bM (cz e f) l 0))) (eV s x):=by simp[fY,yf,uo hl]
 rw[e1];have hk:=(abH (a:=bM (cz a b) l 0) (b:=bM (cz e f) l 0) hO hl ho).key;obtain⟨A,hA⟩:=dM h1;obtain⟨B,hB⟩:=dM h2;rw[hA,hB] at hk ⊢;have lG:∀j:Nat,(Fv l (A:Int) (B:Int))[j]?=if A+j <B+1 then l[A+j]? else none:=λj=>by
  simp only[Fv,List.getElem?_drop,LI,show ((B:Int)+1).toNat=B+1 by omega,List.getElem?_take]
 simp only[au,az,ak];split
 .rename_i h;have hj:(Fv l (A:Int) (B:Int))[i-A]?=some x:=by rw[lG,dW (by omega),show A+(i-A)=i by omega];exact hi
  have:=MM hk (zL (UN (s:=(s:Int)) (o:=(o:Int)) hj));rw[this,show ((i-A:Nat):Int)+1=(i:Int)-(A:Int)+1 by omega]
 rename_i h;refine QL λhm=>h ?_;simp only[rU,qR,bB,Function.comp] at hm;obtain⟨q,hq,e2⟩:=hm;have h3:=U9 hq;rw[PG e2,lG] at h3;split at h3
 .have:=Eo hn hi h3;omega
 cases h3
end
theorem ajL{S:List (List ax)}{c:aP}{s:Nat}{p:ax}(hc:nn S c)(h:(s:Int)≠c.st):fY S c (eV s p)=[eV s p]:=by
 refine QL λhm=>h ?_;obtain⟨k,st,ot,fn,fl,tn,tl⟩:=c;obtain⟨q,hq,e⟩:=bB.1 hm;have e':q.1.h=(s:Int):=by rw[e];rfl
 dsimp only at*;rw[<-e'];have hk:=hc.k;dsimp only at hk;have my:k=1\/k=2\/k=3\/k=4\/k=5\/k=6\/k=7:=by omega
 rcases my with rfl|rfl|rfl|rfl|rfl|rfl|rfl<;>simp only[yf] at hq
 .simp[Me,HR] at hq;obtain⟨_,_,_,_,_,rfl⟩:=hq;rfl
 .simp[FR] at hq;obtain⟨_,_,rfl⟩:=hq;rfl
 .simp[Ef,uP,Eh] at hq;obtain⟨_,_,_,_,_,rfl⟩:=hq;rfl
 .simp[Ii] at hq;obtain⟨_,_,rfl⟩:=hq;rfl
 .simp[La] at hq;rw[hq]
 .simp at hq;rw[hq]
 simp[rU] at hq;obtain⟨_,_,_,rfl⟩:=hq;rfl
theorem aU8{S:List (List ax)}{s o:Nat}{l lo:List ax}{a:Int}(hl:S[s]?=some l) (ho:S[o]?=some lo) (h:iG S ⟨4,s,o,a,b,e,f⟩=0):r5 l lo=0:=by
 grind [iG,ay3,lo]
def aCr{S:List (List ax)}{s o:Nat}{l:List ax}{a:Int}(hl:S[s]?=some l) (ho:o <S.length) (h:iG S ⟨7,s,o,a,b,e,f⟩=0):S[o]?=some []/\bM (cz a b) l 0>=0/\bM (cz e f) l 0>=0:=by
 by_cases eo:(o:Int)=s
 .simp[iG,eo] at h
 obtain⟨lo,qL⟩:∃l,S[o]?=some l:=⟨_,af ho⟩;rw[akT (lo:=lo) eo (by simpa using hl) (by simpa using qL)] at h;by_cases h1:bM (cz a b) l 0 <0
 .rw[IS h1] at h;cases h
 by_cases h2:bM (cz e f) l 0 <0
 .rw[IQ h1 h2] at h;cases h
 by_cases h3:bM (cz e f) l 0 <bM (cz a b) l 0
 .rw[IP h1 h2 h3] at h;cases h
 by_cases h4:lo.length>0
 .rw[IN h1 h2 h3 h4] at h;cases h
 rw[qL,iO (show lo.length=0 by omega)];exact⟨rfl,by omega,by omega⟩
theorem VU(h:1<=n):mI n=decide (Int.tmod n 2=1):=by rcases JC h with ⟨h1,h2⟩| ⟨h1,h2⟩<;>rw[h1,h2]<;>rfl
def Xc{p:α->Bool}:∀ {l:List α} {k:Nat},-1<=bM p l k
 | [],_=>Int.le_refl _
 |x::l,k=>by
  simp only[bM];cases p x with
  |true=>simp only[cH];omega
  |false=>exact Xc
def rTo{v:Value}{S:List (List ax)}{k a:Int}{s o:Nat}{x:ax}{l:List ax}(hS:bH ro v S)(hO:cg S)(hc:nn S ⟨k,s,o,a,b,e,f⟩)(he:iG S ⟨k,s,o,a,b,e,f⟩=0)(hl:S[s]?=some l) (hx:x∈l):eW zT 342 [.agg ⟨[v]⟩,.agg ⟨[zI k,zI (s:Int),zI (o:Int),zI a,zI b,zI e,zI f]⟩,.agg ⟨[zI x.n,zI x.l]⟩] ro [] (λr Y=>bJ r 3 41 bL (fY S ⟨k,s,o,a,b,e,f⟩ (eV s x)) Y):=by
 obtain⟨ws,ht,dO⟩:=hS;obtain⟨fP,we,vZ,eL,rfl,v9,nE,nD⟩:=ht;have Ah:=dO.len;have mM:=hO.two;obtain⟨Ol,Qx,CQ,WC,hcf,hct⟩:=hc;dsimp only at Ol Qx CQ WC hcf hct;have hpx:=hO.ok l (zL hl) x hx;have bsL:=hpx.1;have FC:=hO.len l (zL hl);have Uf:(q5 l x).length<=l.length:=List.length_filter_le _ _;obtain⟨oi,vy,hof⟩:=adD (yh (hO.Sb l (zL hl))) hx;have bsP:=(List.getElem?_eq_some_iff.1 vy).1;have htm:=Int.tmod_lt_of_pos x.n (show (0:Int) <2 by decide);have htn:=Int.tmod_nonneg 2 (show 0<=x.n by omega);have Bn:=(List.getElem?_eq_some_iff.1 hl).1;refine zE<|zD 2<|jn λb3=>jn λb4=>jn λb5=>jd 8 [2,1]<|zxs ws s eL 1 nE (λFs Kc=>?_);obtain⟨l16,aeC,h16⟩:=dO.get Kc;obtain bfQ:=hO.len _ (zL aeC);obtain beJ:=hO.ok _ (zL aeC);obtain axS:=hO.Sb _ (zL aeC);obtain aaW:l16=l:=Option.some.inj (aeC.symm.trans hl);obtain⟨Np,aju,ajq,No,rfl,ajs,ajt,ajr⟩:=h16;refine jl 0 (nD _ _ Kc)<|jd 9 [0]<|jc (vs:=[.slice Np l16.length No,.bool (decide ((Int.tmod x.n 2)=1))]) [] (avR (show dq _ _ _ _ _ from ⟨Np,aju,ajq,No,rfl,ajs,ajt,ajr⟩) (by omega) beJ) ?_;rintro v22 L22 Ki;rw[show (l16.filter λz=>mI z.n==decide (Int.tmod x.n 2=1))=q5 l x from by rw[aaW,<-VU hpx.1.1];rfl] at Ki;obtain⟨Yw,Vj,aq0⟩:=Ki.form;subst aq0;refine jd 6 [1]<|jp (vs:=[(.slice Yw (q5 l x).length Vj),.agg ⟨[zI x.n,zI x.l]⟩]) [0] L22 (λcK hs hZ=>Du (Ki.jI hZ) (by omega))<|jd 8 [2,1]<|jn λFL=>jd 14 [0,3]<|zJ 32 (k=1) (λh1=>?_) λh1=>?_
 ·
  refine zD 5<|zW (((q5 l x).length:Int)-1)<|zD 1<|zW ((((q5 l x).length:Int)-1)-(bM (cz x.n x.l) (q5 l x) 0)) ?_;obtain⟨x40,aen⟩:=zG ((q5 l x)) (((((q5 l x).length:Int)-1-bM (cz x.n x.l) (q5 l x) 0)).toNat) (by first|omega| (simp only[aO,zM];omega));refine MB ((((q5 l x).length:Int)-1)-(bM (cz x.n x.l) (q5 l x) 0)) 2 Ki aen (by omega) λb40 bho=>zx 0 [1] L22 (λs _ hZ=>lS Ki bho hZ aen)<|jd 6 [0,0]<|jn λrW=>zD 3 ?_;obtain rfl:k=1:=by omega
  exact zR _ [] [0] _ (by rw[to1 hO hl hx aen];exact iZ (b:=rW) (T:=41) [(⟨s,x40.n,x40.l⟩:ar)] rfl (λ_ _=>rfl))
 refine zD 6<|zJ 43 (k=2) (λh2=>?_) λh2=>?_
 ·
  refine jd 8 [2]<|zJ 48 ((Int.tmod x.n 2)=1) (λh3=>?_) λh3=>?_
  ·
   refine jd 5 [0]<|zW (x.n+1)<|jd 7 [0,0]<|jn λrW=>zD 3 ?_;obtain rfl:k=2:=by omega
   have hod:mI x.n=true:=by rw[VU hpx.1.1];exact cb (by omega)
   exact zR _ [] [0] _ (by rw[to2 hO hl hx,hod];exact iZ (b:=rW) (T:=41) [(⟨s,x.n+1,x.l⟩:ar)] rfl (λ_ _=>rfl))
  refine jd 5 [0]<|zW (x.n-1)<|jd 7 [0,0]<|jn λrW=>zD 3 ?_;obtain rfl:k=2:=by omega
  have hod:mI x.n=false:=by rw[VU hpx.1.1];exact cG (by omega)
  exact zR _ [] [0] _ (by rw[to2 hO hl hx,hod];exact iZ (b:=rW) (T:=41) [(⟨s,x.n-1,x.l⟩:ar)] rfl (λ_ _=>rfl))
 refine zD 6<|zJ 61 (k=3) (λh4=>?_) λh4=>?_
 ·
  refine zD 3<|zW (2*(bM (cz x.n x.l) (q5 l x) 0))<|zW ((2*(bM (cz x.n x.l) (q5 l x) 0))+2)<|jd 3 [2]<|zW (((2*(bM (cz x.n x.l) (q5 l x) 0))+2)-(Int.tmod x.n 2))<|jd 7 [0,0]<|jn λrW=>zD 3 ?_;obtain rfl:k=3:=by omega
  exact zR _ [] [0] _ (by rw[to3 hO hl hx];exact iZ (b:=rW) (T:=41) [(⟨s,2*bM (cz x.n x.l) (q5 l x) 0+2-Int.tmod x.n 2,0⟩:ar)] rfl (λ_ _=>rfl))
 refine zD 6<|zJ 72 (k=4) (λh5=>?_) λh5=>?_
 ·
  refine jd 15 [3,0,2,4,3]<|zxs ws o eL 1 nE (λx83 aGC=>?_);obtain⟨l84,aqL,h84⟩:=dO.get aGC;obtain bs3:=hO.len _ (zL aqL);obtain aRS:=hO.ok _ (zL aqL);obtain bew:=hO.Sb _ (zL aqL);obtain⟨aO8,bb6,bb0,aO7,rfl,bb4,bb5,bb3⟩:=h84;refine jl 0 (nD _ _ aGC)<|zxp [.slice aO8 l84.length aO7] (λhs=>aAK ((show dq _ _ _ _ _ from ⟨aO8,bb6,bb0,aO7,rfl,bb4,bb5,bb3⟩).up hs) (by omega) bew aRS)<|ja (x.n+(gP l84)) (by have:=Dt aRS;omega) ?_;refine zD 2<|zxo 12 λtT=>jd 1 [0]<|eE tT []<|jd 4 [0]<|jn λrW=>zD 3 ?_;obtain rfl:k=4:=by omega
  exact zR _ [] [0] _ (by rw[to4 hO hl hx aqL (aU8 hl aqL he)];exact iZ (b:=rW) (T:=41) [(⟨o,x.n+gP l84,x.l⟩:ar)] rfl (λ_ _=>rfl))
 refine zD 6<|zJ 89 (k=5) (λh7=>?_) λh7=>?_
 ·
  refine jd 6 [2,3]<|jeq GF (ye x.n x.l a b)<|zD 1<|js 94 (x.n==a&&(x.l==b&&true)) (λh8=>?_) (λh8=>?_)
  ·
   refine jd 11 [0,3,2,2]<|zxp [.slice Np l16.length No,zI x.n] (λhs=>(show iz _ _ _ _ (zI (P5 l x.n)) from by rw[<-aaW];exact agC ((show dq _ _ _ _ _ from ⟨Np,aju,ajq,No,rfl,ajs,ajt,ajr⟩).up hs) (by omega))) ?_;refine zD 2<|zxo 11 λDX=>jn λaKs=>eP DX (zN 1 5)<|zD 3 ?_;obtain rfl:k=5:=by omega
   exact zR _ [] [0] _ (by rw[to5 hO hl hx (by have:=he;rw[atg (l:=l) (by simpa using hl)] at this;exact this),dW (by rw[<-JX];assumption)];exact iZ (b:=aKs) (T:=41) [(⟨s,x.n,x.l⟩:ar),(⟨s,x.n,P5 l x.n⟩:ar)] rfl (λ_ _=>rfl))
  refine jd 5 [0]<|jn λrW=>zD 3 ?_;obtain rfl:k=5:=by omega
  exact zR _ [] [0] _ (by rw[to5 hO hl hx (by have:=he;rw[atg (l:=l) (by simpa using hl)] at this;exact this),cJ (by rw[<-JX];simp_all)];exact iZ (b:=rW) (T:=41) [(⟨s,x.n,x.l⟩:ar)] rfl (λ_ _=>rfl))
 refine zD 6<|zJ 107 (k=6) (λxF=>?_) λxF=>?_
 ·
  refine jd 6 [2,3]<|jeq GF (ye x.n x.l a b)<|zD 1<|js 112 (x.n==a&&(x.l==b&&true)) (λwD=>?_) (λwD=>?_)
  ·
   refine zD 6 ?_;obtain rfl:k=6:=by omega
   exact zX _ (by rw[to6 hO hl hx,dW (by rw[<-JX];assumption)];exact bJ.nil _ _ _)
  refine jd 5 [0]<|jn λrW=>zD 3 ?_;obtain rfl:k=6:=by omega
  exact zR _ [] [0] _ (by rw[to6 hO hl hx,cJ (by rw[<-JX];simp_all)];exact iZ (b:=rW) (T:=41) [(⟨s,x.n,x.l⟩:ar)] rfl (λ_ _=>rfl))
 refine zD 6<|zJ 113 (k=7) (λYc=>?_) λYc=>?_
 ·
  refine jd 6 [2,3]<|zxp [.agg ⟨[zI x.n,zI x.l]⟩,.agg ⟨[zI a,zI b]⟩] (λhs=>(HV (x:=⟨x.n,x.l⟩) (y:=⟨a,b⟩)))<|zD 2<|jj 6 [(4,zP b4),(5,zP b5),(6,zS),(7,.slice Np l16.length No),(10,zP FL),(126,.bool ((!(qG ⟨x.n,x.l⟩ ⟨a,b⟩))&&(!(qG ⟨e,f⟩ ⟨x.n,x.l⟩))))] (λni=>?_) (λhj=>?_);rotate_left;refine js 120 (!(qG ⟨x.n,x.l⟩ ⟨a,b⟩)) (λG6=>?_) (λG6=>?_)
  ·
   have aJo:=G6
   try simp only[zB] at aJo
   refine jd 3 [3,2]<|zxp [.agg ⟨[zI e,zI f]⟩,.agg ⟨[zI x.n,zI x.l]⟩] (λhs=>(HV (x:=⟨e,f⟩) (y:=⟨x.n,x.l⟩)))<|zD 2<|zxw 126 hj (zya G6)
  ·
   have aJo:=G6
   try simp only[zB] at aJo
   refine zD 6<|zxw 126 hj (zyb G6)
  refine zD 1<|js 126 ((!(qG ⟨x.n,x.l⟩ ⟨a,b⟩))&&(!(qG ⟨e,f⟩ ⟨x.n,x.l⟩))) (λh14=>?_) (λh14=>?_)
  ·
   refine zD 2 ?_;have Ya:=Xc (p:=cz a b) (l:=l) (k:=0);have Kv:=Xc (p:=cz x.n x.l) (l:=l) (k:=0);have hg3:=ID (p:=cz a b) (l:=l) (k:=0);have hg4:=ID (p:=cz x.n x.l) (l:=l) (k:=0);refine jd 8 [3,2,3]<|zxp [.slice Np l16.length No,.agg ⟨[zI x.n,zI x.l]⟩] (λhs=>(show iz _ _ _ _ (zI (bM (cz x.n x.l) l 0)) from by rw[<-aaW];exact Du ((show dq _ _ _ _ _ from ⟨Np,aju,ajq,No,rfl,ajs,ajt,ajr⟩).up hs) (by omega))) ?_;refine zxp [.slice Np l16.length No,.agg ⟨[zI a,zI b]⟩] (λhs=>(show iz _ _ _ _ (zI (bM (cz a b) l 0)) from by rw[<-aaW];exact Du ((show dq _ _ _ _ _ from ⟨Np,aju,ajq,No,rfl,ajs,ajt,ajr⟩).up hs) (by omega))) ?_;refine zW ((bM (cz x.n x.l) l 0)-(bM (cz a b) l 0))<|zW (((bM (cz x.n x.l) l 0)-(bM (cz a b) l 0))+1)<|zD 2<|zxo 13 λwA=>jn λaKr=>eP wA (zN 1 5)<|zD 3 ?_;obtain rfl:k=7:=by omega
   have hq7:=aCr hl (by omega) he;exact zR _ [] [0] _ (by rw[to7 hO hl hx hq7.1 hq7.2.1 hq7.2.2,dW (by assumption)];exact iZ (b:=aKr) (T:=41) [(⟨o,bM (cz x.n x.l) l 0-bM (cz a b) l 0+1,0⟩:ar)] rfl (λ_ _=>rfl))
  refine jd 5 [0]<|jn λrW=>zD 3 ?_;obtain rfl:k=7:=by omega
  have hq7:=aCr hl (by omega) he;exact zR _ [] [0] _ (by rw[to7 hO hl hx hq7.1 hq7.2.1 hq7.2.2,cJ (by rw[show (!qG x ⟨a,b⟩&& !qG ⟨e,f⟩ x)=false from by assumption];decide)];exact iZ (b:=rW) (T:=41) [(⟨s,x.n,x.l⟩:ar)] rfl (λ_ _=>rfl))
 exfalso;omega
abbrev ati(x:ar×ar):List Value:=[zI x.1.h,zI x.1.n,zI x.1.l,zI x.2.h,zI x.2.n,zI x.2.l]
def H8(S:List (List ax))(c:aP)(h:ar):List (ar×ar):=(fY S c h).map λz=>(h,z)
def VZ{S:List (List ax)}{c:aP}{H:List ar}:(H.flatMap (H8 S c)).length=(H.flatMap (fY S c)).length:=by simp[H8]
theorem aoZ{S:List (List ax)}{c:aP}{H:List ar}:(H.flatMap (H8 S c)).map (·.2)=H.flatMap (fY S c):=by
 induction H with
 |nil=>rfl
 |cons a H ih=>grind [H8,qR,ng,List.map_id']
def awT{lt:α->α->Bool}(hL:ab7 lt){l:List α}{k:Nat}{x:α}(h:l.Pairwise λa b=>lt a b=true)(h1:∀y∈l.take k,lt y x=true)(h2:k=l.length\/∃y,l[k]?=some y/\lt x y=true):(l.take k++[x]++l.drop k).Pairwise λa b=>lt a b=true:=by
 have hb:∀y∈l.drop k,lt x y=true:=λy hy=>by
  rcases h2 with rfl| ⟨z,hz,hx⟩
  .simp at hy
  rw[lg hz] at hy;rcases aS.1 hy with rfl|hy
  .exact hx
  exact hL.tr hx ((oU.1 (show (z::l.drop (k+1)).Pairwise _ by rw[<-lg hz];exact h.sublist (List.drop_sublist _ _))).1 y hy)
 rw[bC];refine List.pairwise_append.2 ⟨h.sublist (List.take_sublist _ _),oU.2 ⟨hb,h.sublist (List.drop_sublist _ _)⟩,λa ha b mz=>?_⟩;rcases aS.1 mz with rfl|mz
 .exact h1 a ha
 exact hL.tr (h1 a ha) (hb b mz)
theorem axH{l:List α}{k:Nat}{x z:α}:z∈l.take k++[x]++l.drop k↔z=x\/z∈l:=by
 grind [fF,aV]
def Ge(xs:List ar)(k:Nat)(qs:List ar):Prop:=qs.Pairwise (λa b=>pP a b=true)/\∀z,z∈qs↔z∈xs.take k
theorem Ge.next{xs qs:List ar}{k p:Nat}{x:ar}(hn:xs.Nodup)(h:Ge xs k qs)(hx:xs[k]?=some x) (h1:∀y∈qs.take p,pP y x=true) (h2:p=qs.length\/∃y,qs[p]?=some y/\pP y x=false):Ge xs (k+1) (qs.take p++[x]++qs.drop p):=by
 have ME:=λhm=>Bu hn hx ((h.2 x).1 hm);refine⟨awT Ih h.1 h1 (h2.imp id λ⟨y,hy,hl⟩=>⟨y,hy,(Ih.jB (x:=x) λe=>ME (e▸zL hy)).resolve_right (by grind)⟩),λz=>?_⟩;rw[axH,h.2 z,cU hx,bI,aV,Or.comm]
theorem Ge.fin{xs qs:List ar}{k:Nat}(hn:xs.Nodup)(h:Ge xs k qs)(hk:xs.length<=k):qs=dh pP xs:=
 AF Ih h.1 (wX Ih hn) λz=>by rw[h.2,bF hk,ko]
def Ge.not{xs qs:List ar}{k p:Nat}{x y:ar}(hn:xs.Nodup)(h:Ge xs k qs)(hx:xs[k]?=some x) (hy:qs[p]?=some y) (e:y=x):False:=Bu hn hx ((h.2 x).1 (e▸zL hy))
theorem Ge.len{xs qs:List ar}{k:Nat}(hn:xs.Nodup)(h:Ge xs k qs):qs.length<=xs.length:=by
 have hq:qs.Nodup:=h.1.imp λ{a b} h e=>by have:=Ih.asy h;grind
 have h2:=((List.perm_ext_iff_of_nodup hq (hn.sublist (List.take_sublist k xs))).2 h.2).length_eq
 grind
set_option maxHeartbeats 1000000 in
def anK {v:Value} {S:List (List ax)} {k a:Int} {s o:Nat} (hS:bH ro v S) (hO:cg S) (hc:nn S ⟨k,s,o,a,b,e,f⟩) (he:iG S ⟨k,s,o,a,b,e,f⟩=0):eW zT 324 [.agg ⟨[v]⟩,.agg ⟨[zI k,zI (s:Int),zI (o:Int),zI a,zI b,zI e,zI f]⟩] ro [] (λr Y=>bJ r 6 399 ati ((aI S).flatMap (H8 S ⟨k,s,o,a,b,e,f⟩)) Y):=by
 have mY:=hS;obtain⟨ws,ht,dO⟩:=hS;obtain⟨fP,we,vZ,eL,rfl,v9,nE,nD⟩:=ht;have Ah:=dO.len;have mM:=hO.two;have MJ:=xT hO hc he;have X6:=Ia hO MJ;have hhl:=Kh hO;have Bn:=hc.st;dsimp only at Bn;obtain⟨l,hl⟩:∃l,S[s]?=some l:=⟨_,List.getElem?_eq_getElem (by omega)⟩;have hmq:=VZ (S:=S) (c:=⟨k,s,o,a,b,e,f⟩) (H:=aI S);refine zE<|zD 2<|jn λb2=>jn λb3=>jd 9 [1]<|jc (vs:=[.agg ⟨[.slice fP ws.length eL]⟩]) [] (HU mY hO) ?_;rintro v11 Yj SR;obtain⟨xK,qa,DW⟩:=SR.form;subst DW;refine zD 1<|jf [0] Yj (λAH fq gV=>?_);have apS:=SR.jI gV;obtain⟨aAS,aAR,aAO,aAQ,MC,aAP,yO,yN⟩:=apS;simp only[Value.slice.injEq] at MC;obtain⟨rfl,_,rfl⟩:=MC;refine zD 7<|wN<|iE [1,1,1,0,1,0,0] [] (λ(zz:Nat×Value×Cells)=>[(2,zP b2),(3,zP b3),(4,zS),(5,zz.2.1),(6,.slice xK ((aI S).length) qa),(7,zI (zz.1:Int))]) (λzz=>[.l zz.2.2,zxc b3 100 [zI k,zI (s:Int),zI (o:Int),zI a,zI b,zI e,zI f],zxc b2 24 [.slice fP ws.length eL]]) (λzz=>zz.1<=(aI S).length/\bJ zz.2.1 6 399 ati (((aI S).take zz.1).flatMap (H8 S ⟨k,s,o,a,b,e,f⟩)) zz.2.2) (λzz=>(aI S).length-zz.1) (⟨0,zS,[]⟩) ⟨Nat.zero_le _,bJ.nil _ _ _⟩ [0,1,2] ?_;rintro⟨i,vO,LO⟩ hI K1 cX rest;dsimp only at hI;refine zD 8<|zJ 15 ((i:Int) <((aI S).length:Int)) (λh4=>?_) λh4=>?_
 ·
  refine zD 8<|zxt (aI S) i qa 3 yO yN λsI q6=>jn λb22=>zD 4 ?_;obtain⟨j,lj,pj,_,SV,hj3,ahz⟩:=u1.1 (zL q6);have aRH:sI.h=(j:Int):=by rw[ahz];rfl
  have u2:=(MJ.val _ (zL q6)).1.2;refine zD 3<|zxs (aI S) i qa 3 yO λFq nA=>zD 1<|jl 0 (yN _ _ nA)<|jd 4 [2]<|jct [1,1,1,0,1,0,0,1,0,0,1,1] [K1] (λ(zz:Value×Cells)=>[(2,zP b2),(3,zP b3),(4,zS),(5,vO),(6,.slice xK ((aI S).length) qa),(7,zI (i:Int)),(8,zz.1)]) (λzz=>[.l zz.2,.l LO,zxc b3 100 [zI k,zI (s:Int),zI (o:Int),zI a,zI b,zI e,zI f],zxc b2 24 [.slice fP ws.length eL]]) (λzz=>bJ zz.1 3 41 bL (fY S ⟨k,s,o,a,b,e,f⟩ sI) zz.2) ?_ (λK2 mb=>?_)
  ·
   rintro⟨vQ,LQ⟩ hQ rest;dsimp only at hQ;refine zD 5<|iE [1,1,1,0,1,0,0,1,0,0,1,1,1,0,0] [K1] (λ(zz:Nat×Value×Cells)=>[(2,zP b2),(3,zP b3),(4,zS),(5,zz.2.1),(6,.slice xK ((aI S).length) qa),(7,zI (i:Int)),(8,vQ),(9,zI (zz.1:Int))]) (λzz=>[.l LQ,.l zz.2.2,zxc b3 100 [zI k,zI (s:Int),zI (o:Int),zI a,zI b,zI e,zI f],zxc b2 24 [.slice fP ws.length eL]]) (λzz=>zz.1<=(fY S ⟨k,s,o,a,b,e,f⟩ sI).length/\bJ zz.2.1 6 399 ati (((aI S).take i).flatMap (H8 S ⟨k,s,o,a,b,e,f⟩)++((fY S ⟨k,s,o,a,b,e,f⟩ sI).take zz.1).map λz=>(sI,z)) zz.2.2) (λzz=>(fY S ⟨k,s,o,a,b,e,f⟩ sI).length-zz.1) (⟨0,vO,LO⟩) ⟨Nat.zero_le _,by simpa using hI.2⟩ (zN 0 4) ?_;rintro⟨q,vO,LO⟩ hJ K3 FI rest;dsimp only at hJ;refine zD 5<|jol hQ<|zD 2<|zJ 42 ((q:Int) <((fY S ⟨k,s,o,a,b,e,f⟩ sI).length:Int)) (λh5=>?_) λh5=>?_
   ·
    refine zD 8<|zxt (aI S) i qa 3 yO yN λx48 aj8=>zD 2 ?_;obtain⟨fD,sx⟩:=zG ((fY S ⟨k,s,o,a,b,e,f⟩ sI)) q (by first|omega| (simp only[aO,zM];omega));refine jxo 3 hQ sx λb52 ara=>zx 0 [0] LQ (λs _ hZ=>lS hQ ara hZ sx)<|zD 1<|zxo 10 λuD=>jn λb55=>eP uD (zN 1 4)<|zxo 11 λCU=>zxl ati b55 ((⟨x48.h,x48.n,x48.l⟩,⟨fD.h,fD.n,fD.l⟩):ar×ar) 2 0 (hJ.2) (λaZ6 aZQ L56 aqi=>?_) (hb:=by have:=asI (f:=(H8 S ⟨k,s,o,a,b,e,f⟩)) q6;simp only[aM,dj,cw,aK,aT];omega);refine eE CU [[2],[]]<|zD 4<|zW ((q:Int)+1)<|zD 2<|zF FI (⟨q+1,(.slice aZ6 (((((aI S).take i).flatMap (H8 S ⟨k,s,o,a,b,e,f⟩)++((fY S ⟨k,s,o,a,b,e,f⟩ sI).take q).map λz=>(sI,z))++[((⟨x48.h,x48.n,x48.l⟩,⟨fD.h,fD.n,fD.l⟩):ar×ar)])).length aZQ),L56⟩) (by rw[cU sx,cC,<-bC];have e:=aJ (aj8.symm.trans q6);subst e;exact aqi) [2,0,3,4]
   refine zD 4<|zW ((i:Int)+1)<|zD 2<|zF cX (⟨i+1,vO,LO⟩) (by have:=hJ.2;rw[bF (l:=(fY S ⟨k,s,o,a,b,e,f⟩ sI)) (by omega)] at this;rw[E3 q6];exact this) [1,2,3]
  refine js 30 (decide (Fq.h=(s:Int))) (λh8=>?_) (λh8=>?_)
  ·
   refine zD 1 ?_;have h7:Fq.h=(s:Int):=ai (by assumption);rw[aJ (nA.symm.trans q6)] at h7;have hjs:s=j:=by omega
   subst hjs;rw[hl] at SV;cases SV;refine jd 5 [3,2]<|zxs (aI S) i qa 3 yO λx35 Qc=>zD 1<|jl 1 (yN _ _ Qc)<|zxo 7 λKB=>jc (vs:=[.agg ⟨[.slice fP ws.length eL]⟩,.agg ⟨[zI k,zI (s:Int),zI (o:Int),zI a,zI b,zI e,zI f]⟩,.agg ⟨[zI x35.n,zI x35.l]⟩]) [] (rTo (x:=⟨x35.n,x35.l⟩) (mY.up fq) hO hc he hl (by rw[aJ (Qc.symm.trans q6),ahz];exact hj3)) ?_;rintro v38 L38 aHk;rw[show eV (s:Int) ⟨x35.n,x35.l⟩=sI from by rw[aJ (Qc.symm.trans q6),ahz];rfl] at aHk;obtain⟨bac,aZW,bgu⟩:=aHk.form;subst bgu;refine eP KB (zN 1 4)<|zD 2<|zY mb ⟨(.slice bac (fY S ⟨k,s,o,a,b,e,f⟩ sI).length aZW),L38⟩ aHk [0,2,3,4]
  refine zD 2<|jg 0 [.l [(b22,.cells ⟨[zI sI.h,zI sI.n,zI sI.l]⟩ 41 (0,0))]]<|zY mb ⟨.slice (some ⟨b22,0,none⟩) 1 1,[(b22,.cells ⟨[zI sI.h,zI sI.n,zI sI.l]⟩ 41 (0,0))]⟩ (show bJ _ _ _ _ (fY S ⟨k,s,o,a,b,e,f⟩ sI) _ from by rw[show fY S ⟨k,s,o,a,b,e,f⟩ sI=[sI] from by rw[ahz];exact ajL hc (by rw[<-aRH,<-aJ (nA.symm.trans q6)];exact ah (by assumption))];exact iZ (b:=b22) (T:=41) [sI] rfl (λ_ _=>rfl)) [0,1,2,3]
 refine zD 8<|bY q0.a (vO) [] [0] LO fq ⟨_,_,rfl,rfl,by have:=hI.2;rwa[bF (by omega)] at this⟩
def VK{v:Value}{xs:List ar}(hl:dq ro v 3 bL xs)(hn:xs.Nodup)(hc:xs.length<=12):eW zT 291 [v] ro [] (λr Y=>bJ r 3 41 bL (dh pP xs) Y):=by
 obtain⟨fQ,rK,rJ,fg,rfl,tJ,nj,nY⟩:=hl;refine zE<|zD 14<|wN<|iE [1,1,0,1,0,0] [] (λ(zz:Nat×Value×Cells×(List ar))=>[(0,.slice fQ xs.length fg),(2,zS),(3,zz.2.1),(4,zI (zz.1:Int))]) (λzz=>[.l zz.2.2.1]) (λzz=>zz.1<=xs.length/\bJ zz.2.1 3 41 bL zz.2.2.2 zz.2.2.1/\Ge xs zz.1 zz.2.2.2) (λzz=>xs.length-zz.1) (⟨0,zS,[],[]⟩) ⟨by dsimp only;omega,bJ.nil _ _ _,.nil,λ_=>by simp⟩ [0] ?_;rintro⟨i,v,L,qs⟩ hI K1 cX rest;dsimp only at hI;refine zD 8<|zJ 9 ((i:Int) <(xs.length:Int)) (λh1=>?_) λh1=>?_
 ·
  refine zD 5<|jf [0] L (λro4 s8 hk3=>?_);have hzp:=hI.2.1.jI hk3;obtain⟨yB,Gx,Gv,vY,rfl,Gw,CC,Cz⟩:=hzp;refine zD 5 ?_;have hql:=hI.2.2.len hn;obtain⟨xi,hxi⟩:∃xx,xs[i]?=some xx:=⟨_,af (by omega)⟩;refine iE [1,1,0,1,0,0,1,0,0,1,0,0,0] [K1] (λ(zz:Nat)=>[(0,.slice fQ xs.length fg),(2,zS),(3,.slice yB qs.length vY),(4,zI (i:Int)),(5,zI (zz:Int))]) (λzz=>[]) (λzz=>zz<=qs.length/\∀y∈qs.take zz,pP y xi=true) (λzz=>qs.length-zz) 0 ⟨bK _,λ_ h=>by simp at h⟩ [] ?_;rintro k hR K2 mb rest;refine zD 8<|js 4 (decide ((k:Int) <(qs.length:Int))) (λh5=>?_) (λh5=>?_)
  ·
   have QG:=h5;replace QG:=ai QG;refine zD 2<|zxt qs k vY 3 CC Cz λBs xW=>zD 2<|zxs xs i fg 3 nj λxJ qD=>jl 0 ((nY _ _ qD).ext (nG s8))<|zxp [.agg ⟨[zI Bs.h,zI Bs.n,zI Bs.l]⟩,.agg ⟨[zI xJ.h,zI xJ.n,zI xJ.l]⟩] (λhs=>(aE8 (x:=Bs) (y:=xJ)))<|zD 2<|js 26 (ahB Bs xJ) (λh6=>?_) (λh6=>?_)
   ·
    refine zD 5<|zW ((k:Int)+1)<|zD 2<|zY mb (k+1) ⟨by omega,I4 hR.2 xW (by rw[<-aJ (qD.symm.trans hxi),<-XE];assumption)⟩ []
   refine zD 10<|js 4 (decide ((k:Int) <(qs.length:Int))) (λh7=>?_) (λh7=>?_)
   ·
    have h7g:=h7;replace h7g:=ai h7g;refine zD 2<|zxt qs k vY 3 CC Cz λXY wm=>zD 2<|zxs xs i fg 3 nj λx40 aen=>jl 0 ((nY _ _ aen).ext (nG s8))<|jeq ZS (Q6 XY.h XY.n XY.l x40.h x40.n x40.l)<|zD 2<|js 43 (XY.h==x40.h&&(XY.n==x40.n&&(XY.l==x40.l&&true)&&true)) (λh8=>?_) (λh8=>?_)
    ·
     try simp only[zB] at h8
     exact(hI.2.2.not hn aen wm (by rcases XY with ⟨_,_,_⟩;rcases x40 with ⟨_,_,_⟩;simpa [and_assoc] using h8)).elim
    try simp only[zB] at h8
    refine zD 5<|jcH (hi:=(k:Int)) (show dq _ _ _ _ _ from ⟨yB,Gx,Gv,vY,rfl,Gw,CC,Cz⟩) (by omega) (λYx aG5=>?_);obtain⟨AR,Pw,Pt,AQ,rfl,aO0,Pv,Pu⟩:=aG5;refine zD 2<|zxs xs i fg 3 nj λgR qB=>jl 0 ((nY _ _ qB).ext (nG s8))<|zD 2<|jcO (lo:=(k:Int)) (show dq _ _ _ _ _ from ⟨yB,Gx,Gv,vY,rfl,Gw,CC,Cz⟩) (by omega) (λv57 aG3=>?_);obtain⟨AN,Pn,Ph,AM,rfl,aOV,Pm,Pj⟩:=aG3;refine xB [0,9] ⟨λ_ _ CU=>?_,λ_ _ hL8=>?_,bW⟩
    ·
     refine jn λTa=>eP CU []<|xB [4,9] ⟨λ_ _ KE=>?_,λ_ _ KD=>?_,bW⟩
     ·
      refine zxq bL Ta 41 0 AQ Pv Pu λamz amt L48 lX=>eE KE [[]]<|zxo 9 λWO=>jn λb53=>eP WO [1]<|zxo 10 λQE=>zxl bL b53 (⟨gR.h,gR.n,gR.l⟩:ar) 1 0 (lX) λOL OI ym fS=>eE QE []<|zxo 14 λKC=>zxk bL 0 AM (fS) Pm Pj λJw Ju L58 qh=>eE KC []<|zD 4<|zW ((i:Int)+1)<|zD 2<|dY cX (⟨i+1,(.slice Jw (((((qs).take (k:Int).toNat)++[(⟨gR.h,gR.n,gR.l⟩:ar)])++((qs).drop (k:Int).toNat))).length Ju),L58,((((qs).take (k:Int).toNat)++[(⟨gR.h,gR.n,gR.l⟩:ar)])++((qs).drop (k:Int).toNat))⟩) ⟨by dsimp only;omega,by simpa only[Int.toNat_natCast,List.nil_append] using qh,hI.2.2.next (x:=gR) (p:=k) hn qB (show ∀y∈qs.take k,pP y gR=true by rw[show gR=xi from Option.some.inj (qB.symm.trans hxi)];exact hR.2) (.inr ⟨_,xW,(show pP Bs gR=false by rw[show gR=xJ from Option.some.inj (qB.symm.trans qD),<-XE];assumption)⟩)⟩ (by dsimp only;omega) [0] s8
     refine jn λb53=>eP KD [1]<|zxo 4 λae0=>zxq bL Ta 41 1 AQ Pv Pu λamz amt L48 lX=>eE ae0 []<|zxo 10 λWN=>zxl bL b53 (⟨gR.h,gR.n,gR.l⟩:ar) 0 1 (lX) λOL OI ym fS=>eE WN []<|zxo 14 λQC=>zxk bL 0 AM (fS) Pm Pj λJw Ju L58 qh=>eE QC []<|zD 4<|zW ((i:Int)+1)<|zD 2<|dY cX (⟨i+1,(.slice Jw (((((qs).take (k:Int).toNat)++[(⟨gR.h,gR.n,gR.l⟩:ar)])++((qs).drop (k:Int).toNat))).length Ju),L58,((((qs).take (k:Int).toNat)++[(⟨gR.h,gR.n,gR.l⟩:ar)])++((qs).drop (k:Int).toNat))⟩) ⟨by dsimp only;omega,by simpa only[Int.toNat_natCast,List.nil_append] using qh,hI.2.2.next (x:=gR) (p:=k) hn qB (show ∀y∈qs.take k,pP y gR=true by rw[show gR=xi from Option.some.inj (qB.symm.trans hxi)];exact hR.2) (.inr ⟨_,xW,(show pP Bs gR=false by rw[show gR=xJ from Option.some.inj (qB.symm.trans qD),<-XE];assumption)⟩)⟩ (by dsimp only;omega) [0] s8
    refine jn λb53=>eP hL8 []<|zxo 0 λarz=>jn λTa=>eP arz [1]<|zxo 4 λWM=>zxq bL Ta 41 0 AQ Pv Pu λamz amt L48 lX=>eE WM []<|zxo 10 λWL=>zxl bL b53 (⟨gR.h,gR.n,gR.l⟩:ar) 0 1 (lX) λOL OI ym fS=>eE WL []<|zxo 14 λary=>zxk bL 0 AM (fS) Pm Pj λJw Ju L58 qh=>eE ary []<|zD 4<|zW ((i:Int)+1)<|zD 2<|dY cX (⟨i+1,(.slice Jw (((((qs).take (k:Int).toNat)++[(⟨gR.h,gR.n,gR.l⟩:ar)])++((qs).drop (k:Int).toNat))).length Ju),L58,((((qs).take (k:Int).toNat)++[(⟨gR.h,gR.n,gR.l⟩:ar)])++((qs).drop (k:Int).toNat))⟩) ⟨by dsimp only;omega,by simpa only[Int.toNat_natCast,List.nil_append] using qh,hI.2.2.next (x:=gR) (p:=k) hn qB (show ∀y∈qs.take k,pP y gR=true by rw[show gR=xi from Option.some.inj (qB.symm.trans hxi)];exact hR.2) (.inr ⟨_,xW,(show pP Bs gR=false by rw[show gR=xJ from Option.some.inj (qB.symm.trans qD),<-XE];assumption)⟩)⟩ (by dsimp only;omega) [0] s8
   have h7g:=h7;replace h7g:=ah h7g;exfalso;omega
  have QG:=h5;replace QG:=ah QG;refine zD 21<|js 4 (decide ((k:Int) <(qs.length:Int))) (λWS=>?_) (λWS=>?_)
  ·
   have QH:=WS;replace QH:=ai QH;exfalso;omega
  have QH:=WS;replace QH:=ah QH;refine zD 16<|jcH (hi:=(k:Int)) (show dq _ _ _ _ _ from ⟨yB,Gx,Gv,vY,rfl,Gw,CC,Cz⟩) (by omega) (λYx aG5=>?_);obtain⟨AR,Pw,Pt,AQ,rfl,aO0,Pv,Pu⟩:=aG5;refine zD 2<|zxs xs i fg 3 nj λgR qB=>jl 0 ((nY _ _ qB).ext (nG s8))<|zD 2<|jcO (lo:=(k:Int)) (show dq _ _ _ _ _ from ⟨yB,Gx,Gv,vY,rfl,Gw,CC,Cz⟩) (by omega) (λv57 aG3=>?_);obtain⟨AN,Pn,Ph,AM,rfl,aOV,Pm,Pj⟩:=aG3;refine xB [0,9] ⟨λ_ _ arw=>?_,λ_ _ arv=>?_,bW⟩
  ·
   refine jn λTa=>eP arw []<|xB [4,9] ⟨λ_ _ aeU=>?_,λ_ _ aI8=>?_,bW⟩
   ·
    refine zxq bL Ta 41 0 AQ Pv Pu λamz amt L48 lX=>eE aeU [[]]<|zxo 9 λars=>jn λb53=>eP ars [1]<|zxo 10 λWJ=>zxl bL b53 (⟨gR.h,gR.n,gR.l⟩:ar) 1 0 (lX) λOL OI ym fS=>eE WJ []<|zxo 14 λarq=>zxk bL 0 AM (fS) Pm Pj λJw Ju L58 qh=>eE arq []<|zD 4<|zW ((i:Int)+1)<|zD 2<|dY cX (⟨i+1,(.slice Jw (((((qs).take (k:Int).toNat)++[(⟨gR.h,gR.n,gR.l⟩:ar)])++((qs).drop (k:Int).toNat))).length Ju),L58,((((qs).take (k:Int).toNat)++[(⟨gR.h,gR.n,gR.l⟩:ar)])++((qs).drop (k:Int).toNat))⟩) ⟨by dsimp only;omega,by simpa only[Int.toNat_natCast,List.nil_append] using qh,hI.2.2.next (x:=gR) (p:=k) hn qB (show ∀y∈qs.take k,pP y gR=true by rw[show gR=xi from Option.some.inj (qB.symm.trans hxi)];exact hR.2) (.inl (by omega))⟩ (by dsimp only;omega) [0] s8
   refine jn λb53=>eP aI8 [1]<|zxo 4 λarp=>zxq bL Ta 41 1 AQ Pv Pu λamz amt L48 lX=>eE arp []<|zxo 10 λWI=>zxl bL b53 (⟨gR.h,gR.n,gR.l⟩:ar) 0 1 (lX) λOL OI ym fS=>eE WI []<|zxo 14 λaro=>zxk bL 0 AM (fS) Pm Pj λJw Ju L58 qh=>eE aro []<|zD 4<|zW ((i:Int)+1)<|zD 2<|dY cX (⟨i+1,(.slice Jw (((((qs).take (k:Int).toNat)++[(⟨gR.h,gR.n,gR.l⟩:ar)])++((qs).drop (k:Int).toNat))).length Ju),L58,((((qs).take (k:Int).toNat)++[(⟨gR.h,gR.n,gR.l⟩:ar)])++((qs).drop (k:Int).toNat))⟩) ⟨by dsimp only;omega,by simpa only[Int.toNat_natCast,List.nil_append] using qh,hI.2.2.next (x:=gR) (p:=k) hn qB (show ∀y∈qs.take k,pP y gR=true by rw[show gR=xi from Option.some.inj (qB.symm.trans hxi)];exact hR.2) (.inl (by omega))⟩ (by dsimp only;omega) [0] s8
  refine jn λb53=>eP arv []<|zxo 0 λarn=>jn λTa=>eP arn [1]<|zxo 4 λWH=>zxq bL Ta 41 0 AQ Pv Pu λamz amt L48 lX=>eE WH []<|zxo 10 λaeT=>zxl bL b53 (⟨gR.h,gR.n,gR.l⟩:ar) 0 1 (lX) λOL OI ym fS=>eE aeT []<|zxo 14 λaeS=>zxk bL 0 AM (fS) Pm Pj λJw Ju L58 qh=>eE aeS []<|zD 4<|zW ((i:Int)+1)<|zD 2<|dY cX (⟨i+1,(.slice Jw (((((qs).take (k:Int).toNat)++[(⟨gR.h,gR.n,gR.l⟩:ar)])++((qs).drop (k:Int).toNat))).length Ju),L58,((((qs).take (k:Int).toNat)++[(⟨gR.h,gR.n,gR.l⟩:ar)])++((qs).drop (k:Int).toNat))⟩) ⟨by dsimp only;omega,by simpa only[Int.toNat_natCast,List.nil_append] using qh,hI.2.2.next (x:=gR) (p:=k) hn qB (show ∀y∈qs.take k,pP y gR=true by rw[show gR=xi from Option.some.inj (qB.symm.trans hxi)];exact hR.2) (.inl (by omega))⟩ (by dsimp only;omega) [0] s8
 refine zD 8<|zR _ [] [0] L (by rw[<-hI.2.2.fin hn (by omega)];exact hI.2.1)
theorem Re{xs:List ar}{s:Int}(hn:xs.Nodup):iK s (dh pP xs)=dh Ib (iK s xs):=by
 refine AF SB ?_ (wX SB (Hi hn)) λx=>by simp only[iK,bB,cN,ko]
 unfold iK;rw[LD];refine((wX Ih hn).filter _).imp_of_mem λ{a b} ha hb h=>?_;have h1:=ai (cN.1 ha).2;have h2:=ai (cN.1 hb).2;rw[w5];rcases BN.1 h with h| ⟨_,h⟩
 .omega
 exact h
theorem aE5{v:Value}{xs:List ar}(hl:dq ro v 3 bL xs)(hn:xs.Nodup)(hc:xs.length<=12)(hS:∀x∈xs,x.h=0):eW zT 256 [v,zI 1] ro [] (λr Y=>∃a n c,r= .agg ⟨[.slice a n c]⟩/\∀bU,Knows bU Y->bH bU (.slice a n c) [dh Ib (iK 0 xs)]):=by
 have hl0:=hl;obtain⟨fQ,rK,rJ,fg,rfl,tJ,nj,nY⟩:=hl;have hzl:=u9 hn Ih;refine zE<|zD 2<|jn λb4=>zD 4<|aRo (E:=98) (z:= zS) λb8=>jg 0 [zxc b8 98 [zS]]<|zD 1<|jn λb5=>jd 5 [0]<|jc (vs:=[.slice fQ xs.length fg]) [] (VK hl0 hn hc) ?_;rintro v11 Yj SR;obtain⟨xK,qa,aHY⟩:=SR.form;subst aHY;refine zD 4<|jf [0] Yj (λAH fq gV=>?_);have apS:=SR.jI gV;obtain⟨aAS,aAR,aAO,aAQ,MC,aAP,yO,yN⟩:=apS;simp only[Value.slice.injEq] at MC;obtain⟨rfl,_,rfl⟩:=MC;refine zD 4<|wN<|iE [1,1,1,0,1,0,0] [] (λ(zz:Nat×Value×Cells×(List ax))=>[(0,.slice xK ((dh pP xs).length) qa),(4,zP b4),(5,zP b5),(6,zI (zz.1:Int))]) (λzz=>[zxc b8 98 [zz.2.1],.l zz.2.2.1,zxc b5 24 [.slice (some ⟨b8,0,none⟩) 1 1],zxc b4 24 [zS]]) (λzz=>zz.1<=(dh pP xs).length/\zz.2.2.2=iK 0 ((dh pP xs).take zz.1)/\bJ zz.2.1 2 39 cu zz.2.2.2 zz.2.2.1) (λzz=>(dh pP xs).length-zz.1) (⟨0,zS,[],[]⟩) ⟨Nat.zero_le _,rfl,bJ.nil _ _ _⟩ [2,0,1,3] ?_;rintro⟨i,w0,L0,p0⟩ hI K1 cX rest;dsimp only at hI;have bfe:p0.length<=i:=by rw[hI.2.1];exact Nat.le_trans pE (by rw[List.length_take];omega)
 refine zD 8<|zJ 15 ((i:Int) <((dh pP xs).length:Int)) (λh4=>?_) λh4=>?_
 ·
  refine jd 9 [2]<|zxs (dh pP xs) i qa 3 yO λLY iQ=>zD 1<|jl 0 (yN _ _ iQ) ?_;have s8:=hS _ (ko.1 (zL iQ));obtain⟨xh,xn,xl⟩:=LY;dsimp only at s8;subst s8;refine jd 4 [2]<|zxs (dh pP xs) i qa 3 yO λLV w7=>zD 1<|jl 0 (yN _ _ w7) ?_;have e29:=Option.some.inj (w7.symm.trans iQ);subst e29;refine jd 4 [0]<|zxs (dh pP xs) i qa 3 yO λXY wm=>zD 1<|jl 1 (yN _ _ wm) ?_;have e36:=Option.some.inj (wm.symm.trans iQ);subst e36;refine zxo 21 λDX=>jn λU0=>eP DX (zN 1 4)<|zxo 22 λwA=>zxl cu U0 (⟨xn,xl⟩:ax) 2 0 (hI.2.2) (λJx Jv L40 nP=>?_) (hb:=by simp only[List.length_cons,List.length_nil];omega);refine eE wA [[],[3],[],[3]]<|zD 1<|zxo 24 λuD=>jd 1 [2]<|kV uD<|zD 3<|zW ((i:Int)+1)<|zD 2<|zF cX (⟨i+1,(.slice Jx ((p0++[(⟨xn,xl⟩:ax)])).length Jv),L40,(p0++[(⟨xn,xl⟩:ax)])⟩) ⟨by dsimp only;rw[cU iQ,Lc,<-hI.2.1],nP⟩ [2,0,3,4]
 refine jd 8 [2,3]<|bY q0.a (.agg ⟨[.slice (some ⟨b8,0,none⟩) 1 1]⟩) [3] [0,1] ((b8,.cells ⟨[w0]⟩ 98 (0,0))::L0) fq ⟨_,_,rfl,rfl,_,_,_,rfl,λbU hk=>⟨[w0],fK [w0] (hk _ (.head _)) (λ_ _=>rfl),.cons (by have:=hI.2.2;rw[hI.2.1,bF (by omega),Re hn] at this;exact this.jI (λx hx=>hk x (.tail _ (hx)))) .nil⟩⟩
def aE4{v:Value}{xs:List ar}(hl:dq ro v 3 bL xs)(hn:xs.Nodup)(hc:xs.length<=12)(hS:∀x∈xs,x.h=0\/x.h=1):eW zT 256 [v,zI 2] ro [] (λr Y=>∃a n c,r= .agg ⟨[.slice a n c]⟩/\∀bU,Knows bU Y->bH bU (.slice a n c) [dh Ib (iK 0 xs),dh Ib (iK 1 xs)]):=by
 have hl0:=hl;obtain⟨fQ,rK,rJ,fg,rfl,tJ,nj,nY⟩:=hl;have hzl:=u9 hn Ih;refine zE<|zD 2<|jn λb4=>zD 4<|jmS (E:=98) (z:= zS) λb8=>jg 0 [zxc b8 98 [zS,zS]]<|zD 1<|jn λb5=>jd 5 [0]<|jc (vs:=[.slice fQ xs.length fg]) [] (VK hl0 hn hc) ?_;rintro v11 Yj SR;obtain⟨xK,qa,aHY⟩:=SR.form;subst aHY;refine zD 4<|jf [0] Yj (λAH fq gV=>?_);have apS:=SR.jI gV;obtain⟨aAS,aAR,aAO,aAQ,MC,aAP,yO,yN⟩:=apS;simp only[Value.slice.injEq] at MC;obtain⟨rfl,_,rfl⟩:=MC;refine zD 4<|wN<|wN<|iE [1,1,1,0,1,0,0] [] (λ(zz:Nat×Value×Cells×(List ax)×Value×Cells×(List ax))=>[(0,.slice xK ((dh pP xs).length) qa),(4,zP b4),(5,zP b5),(6,zI (zz.1:Int))]) (λzz=>[zxc b8 98 [zz.2.1,zz.2.2.2.2.1],.l zz.2.2.1,.l zz.2.2.2.2.2.1,zxc b5 24 [.slice (some ⟨b8,0,none⟩) 2 2],zxc b4 24 [zS]]) (λzz=>zz.1<=(dh pP xs).length/\zz.2.2.2.1=iK 0 ((dh pP xs).take zz.1)/\zz.2.2.2.2.2.2=iK 1 ((dh pP xs).take zz.1)/\bJ zz.2.1 2 39 cu zz.2.2.2.1 zz.2.2.1/\bJ zz.2.2.2.2.1 2 39 cu zz.2.2.2.2.2.2 zz.2.2.2.2.2.1) (λzz=>(dh pP xs).length-zz.1) (⟨0,zS,[],[],zS,[],[]⟩) ⟨Nat.zero_le _,rfl,rfl,bJ.nil _ _ _,bJ.nil _ _ _⟩ [3,1,0,2,4] ?_;rintro⟨i,w0,L0,p0,w1,L1,p1⟩ hI K1 cX rest;dsimp only at hI;have bfe:p0.length<=i:=by rw[hI.2.1];exact Nat.le_trans pE (by rw[List.length_take];omega)
 have aSf:p1.length<=i:=by rw[hI.2.2.1];exact bS pE (by rw[cw];omega)
 refine zD 8<|zJ 15 ((i:Int) <((dh pP xs).length:Int)) (λh4=>?_) λh4=>?_
 ·
  refine jd 9 [3]<|zxs (dh pP xs) i qa 3 yO λLY iQ=>zD 1<|jl 0 (yN _ _ iQ) ?_;have s8:=hS _ (ko.1 (zL iQ));obtain⟨xh,xn,xl⟩:=LY;dsimp only at s8;rcases s8 with rfl|rfl
  ·
   refine jd 4 [3]<|zxs (dh pP xs) i qa 3 yO λLV w7=>zD 1<|jl 0 (yN _ _ w7) ?_;have e29:=Option.some.inj (w7.symm.trans iQ);subst e29;refine jd 4 [0]<|zxs (dh pP xs) i qa 3 yO λXY wm=>zD 1<|jl 1 (yN _ _ wm) ?_;have e36:=Option.some.inj (wm.symm.trans iQ);subst e36;refine zxo 21 λDX=>jn λU0=>eP DX (zN 1 5)<|zxo 22 λwA=>zxl cu U0 (⟨xn,xl⟩:ax) 2 0 (hI.2.2.2.1) (λJx Jv L40 nP=>?_) (hb:=by simp only[List.length_cons,List.length_nil];omega);refine eE wA [[],[4],[],[4]]<|zD 1<|zxo 24 λuD=>jd 1 [2]<|kV uD<|zD 3<|zW ((i:Int)+1)<|zD 2<|zF cX (⟨i+1,(.slice Jx ((p0++[(⟨xn,xl⟩:ax)])).length Jv),L40,(p0++[(⟨xn,xl⟩:ax)]),w1,L1,p1⟩) ⟨by dsimp only;rw[cU iQ,Lc,<-hI.2.1],by dsimp only;rw[cU iQ,Xk (x:=⟨0,xn,xl⟩) (s:=1) (show (0:Int)≠1 from by decide),<-hI.2.2.1],nP,hI.2.2.2.2⟩ [2,0,3,4,5]
  refine jd 4 [3]<|zxs (dh pP xs) i qa 3 yO λLV w7=>zD 1<|jl 0 (yN _ _ w7) ?_;have e29:=Option.some.inj (w7.symm.trans iQ);subst e29;refine jd 4 [0]<|zxs (dh pP xs) i qa 3 yO λXY wm=>zD 1<|jl 1 (yN _ _ wm) ?_;have e36:=Option.some.inj (wm.symm.trans iQ);subst e36;refine zxo 21 λCU=>jn λU0=>eP CU (zN 1 5)<|zxo 22 λKB=>zxl cu U0 (⟨xn,xl⟩:ax) 3 0 (hI.2.2.2.2) (λJx Jv L40 nP=>?_) (hb:=by simp only[List.length_cons,List.length_nil];omega);refine eE KB [[],[4],[],[4]]<|zD 1<|zxo 24 λQB=>jd 1 [2]<|kV QB<|zD 3<|zW ((i:Int)+1)<|zD 2<|zF cX (⟨i+1,w0,L0,p0,(.slice Jx ((p1++[(⟨xn,xl⟩:ax)])).length Jv),L40,(p1++[(⟨xn,xl⟩:ax)])⟩) ⟨by dsimp only;rw[cU iQ,Xk (x:=⟨1,xn,xl⟩) (s:=0) (show (1:Int)≠0 from by decide),<-hI.2.1],by dsimp only;rw[cU iQ,Lc,<-hI.2.2.1],hI.2.2.2.1,nP⟩ [2,3,0,4,5]
 refine jd 8 [3,4]<|bY q0.a (.agg ⟨[.slice (some ⟨b8,0,none⟩) 2 2]⟩) [4] [0,1,2] ((b8,.cells ⟨[w0,w1]⟩ 98 (0,0))::(L0++L1)) fq ⟨_,_,rfl,rfl,_,_,_,rfl,λbU hk=>⟨[w0,w1],fK [w0,w1] (hk _ (.head _)) (λ_ _=>rfl),.cons (by have:=hI.2.2.2.1;rw[hI.2.1,bF (by omega),Re hn] at this;exact this.jI (λx hx=>hk x (.tail _ (cR _ hx)))) (.cons (by have:=hI.2.2.2.2;rw[hI.2.2.1,bF (by omega),Re hn] at this;exact this.jI (λx hx=>hk x (.tail _ (gv _ hx)))) .nil)⟩⟩
theorem aG1{S:List (List ax)}{k:Nat}{z:ar}(h:z∈C8 S k):z.h <k:=by
 obtain⟨j,l,p,h1,h2,h3,rfl⟩:=u1.1 h
 grind [eV]
theorem abK{s:Int}{L:List ar}(h:∀x∈L,x.h≠s):iK s L=[]:=by
 grind [iK,List.filter_eq_nil_iff]
theorem aze{s:Int}{L M:List ar}:iK s (L++M)=iK s L++iK s M:=by simp[iK]
theorem aKb{s:Int}{l:List ax}:iK s (l.map (eV s))=l:=by
 rw[iK,List.filter_eq_self.2 λx hx=>by obtain⟨p,_,rfl⟩:=bB.1 hx;simp[eV],qR];exact List.map_id'' (λ_=>rfl) _
theorem afx{S:List (List ax)}:∀ {k j:Nat} {l:List ax},j <k->S[j]?=some l->iK (j:Int) (C8 S k)=l
 |0,_,_,h,_=>by omega
 |k+1,j,l,h,hl=>by
  by_cases hk:k <S.length
  .obtain⟨m,hm⟩:∃m,S[k]?=some m:=⟨_,af hk⟩;rw[Qf hm,aze];by_cases e:j=k
   .subst e;rw[hm] at hl;cases hl;rw[abK λx hx=>by have:=aG1 hx;omega,aKb,aL]
   rw[afx (by omega) hl,abK λx hx=>by obtain⟨p,_,rfl⟩:=bB.1 hx;simp only[eV];omega,eR]
  rw[show C8 S (k+1)=C8 S k by simp only[C8,Ap (show S.length<=k by omega),eR]];exact afx (by have:=(aB.1 hl).1;omega) hl
theorem ad7{S:List (List ax)}(hO:cg S):((List.range S.length).map λ(s:Nat)=>dh Ib (iK (s:Int) (aI S)))=S:=by
 apply pH;intro j;by_cases h:j <S.length
 .obtain⟨l,hl⟩:∃l,S[j]?=some l:=⟨_,af h⟩;rw[eG,List.getElem?_range h,hl,di,aI,afx h hl];have ha:=hO.Sb l (zL hl);exact qt some (AF SB (wX SB (ha.imp λ{a b} h e=>by grind [mH])) (ha.imp λh=>w5.2 h) λx=>ko)
 grind
theorem anL{v:Value}{xs:List ar}{k:Nat}(hk:k=1\/k=2)(hl:dq ro v 3 bL xs)(hn:xs.Nodup)(hc:xs.length<=12)(hS:∀x∈xs,0<=x.h/\x.h <(k:Int)):eW zT 256 [v,zI (k:Int)] ro [] (λr Y=>∃ra rn rc,r= .agg ⟨[.slice ra rn rc]⟩/\∀bU,Knows bU Y->bH bU (.slice ra rn rc) ((List.range k).map λ(s:Nat)=>dh Ib (iK (s:Int) xs))):=by
 rcases hk with rfl|rfl
 .grind [aE5]
 exact aE4 hl hn hc λx hx=>by grind
def aE3{v:Value}{S:List (List ax)}{c:aP}(hO:cg S)(hM:Gf S (fY S c))(hl:dq ro v 3 bL ((aI S).flatMap (fY S c))):eW zT 256 [v,zI (S.length:Int)] ro [] (λr Y=>∃ra rn rc,r= .agg ⟨[.slice ra rn rc]⟩/\∀bU,Knows bU Y->bH bU (.slice ra rn rc) (xu S c)):=
 anL (afV hO) hl (adN hO hM) (Ia hO hM) λx hx=>by obtain⟨y,hy,hx⟩:=eZ.1 hx;exact((hM.val y hy).2 x hx).1
theorem adu{v:Value}{S:List (List ax)}(hO:cg S)(hl:dq ro v 3 bL (aI S)):eW zT 256 [v,zI (S.length:Int)] ro [] (λr Y=>∃ra rn rc,r= .agg ⟨[.slice ra rn rc]⟩/\∀bU,Knows bU Y->bH bU (.slice ra rn rc) S):=by
 have h:=anL (afV hO) hl (Ab hO _) (bS (Kh hO) (by simp)) λx hx=>(Qq hO hx).1
 grind [ad7]
def aOB{v:Value}{S:List (List ax)}{k a:Int}{s o:Nat}(hS:bH ro v S)(hO:cg S)(hc:nn S ⟨k,s,o,a,b,e,f⟩)(he:iG S ⟨k,s,o,a,b,e,f⟩=0):eW zT 293 [.agg ⟨[v]⟩,.agg ⟨[zI k,zI (s:Int),zI (o:Int),zI a,zI b,zI e,zI f]⟩] ro [] (λr Y=>∃ra rn rc,r= .agg ⟨[.slice ra rn rc]⟩/\∀bU,Knows bU Y->bH bU (.slice ra rn rc) (xu S ⟨k,s,o,a,b,e,f⟩)):=by
 have mY:=hS;obtain⟨ws,ht,dO⟩:=hS;obtain⟨fP,we,vZ,eL,rfl,v9,nE,nD⟩:=ht;have Ah:=dO.len;have mM:=hO.two;have MJ:=xT hO hc he;have X6:=Ia hO MJ;have hmq:=VZ (S:=S) (c:=⟨k,s,o,a,b,e,f⟩) (H:=aI S);refine zE<|zD 2<|jn λb2=>jn λb3=>jn λb4=>jd 9 [2,1]<|jc (vs:=[.agg ⟨[.slice fP ws.length eL]⟩,.agg ⟨[zI k,zI (s:Int),zI (o:Int),zI a,zI b,zI e,zI f]⟩]) [] (anK mY hO hc he) ?_;rintro v10 Hw lK;obtain⟨sM,sw,wy⟩:=lK.form;subst wy;refine zD 4<|jf [0] Hw (λAH fq gV=>?_);have ben:=lK.jI gV;obtain⟨blX,blW,blT,blV,aBB,blU,aOT,aOS⟩:=ben;simp only[Value.slice.injEq] at aBB;obtain⟨rfl,_,rfl⟩:=aBB;refine zD 4<|wN<|iE [1,1,1,0,1,0,0] [] (λ(zz:Nat×Value×Cells)=>[(2,zP b2),(4,zP b4),(5,zz.2.1),(6,.slice sM (((aI S).flatMap (H8 S ⟨k,s,o,a,b,e,f⟩)).length) sw),(7,zI (zz.1:Int))]) (λzz=>[.l zz.2.2,zxc b4 24 [zS],zxc b3 100 [zI k,zI (s:Int),zI (o:Int),zI a,zI b,zI e,zI f],zxc b2 24 [.slice fP ws.length eL]]) (λzz=>zz.1<=((aI S).flatMap (H8 S ⟨k,s,o,a,b,e,f⟩)).length/\bJ zz.2.1 3 41 bL ((((aI S).flatMap (H8 S ⟨k,s,o,a,b,e,f⟩)).take zz.1).map (·.2)) zz.2.2) (λzz=>((aI S).flatMap (H8 S ⟨k,s,o,a,b,e,f⟩)).length-zz.1) (⟨0,zS,[]⟩) ⟨Nat.zero_le _,bJ.nil _ _ _⟩ (zN 0 4) ?_;rintro⟨i,v,L⟩ hI K1 cX rest;dsimp only at hI;refine zD 8<|zJ 14 ((i:Int) <(((aI S).flatMap (H8 S ⟨k,s,o,a,b,e,f⟩)).length:Int)) (λh4=>?_) λh4=>?_
 ·
  refine zD 8<|zxs ((aI S).flatMap (H8 S ⟨k,s,o,a,b,e,f⟩)) i sw 6 aOT λsI q6=>zD 1<|jl 3 (aOS _ _ q6)<|jn λb23=>zxl bL b23 (⟨sI.2.h,sI.2.n,sI.2.l⟩:ar) 1 0 (hI.2) (λaDW aDP L24 aqr=>?_) (hb:=by simp only[dj,cw,aK,aT];omega);refine zD 4<|zW ((i:Int)+1)<|zD 2<|zF cX (⟨i+1,(.slice aDW ((((((aI S).flatMap (H8 S ⟨k,s,o,a,b,e,f⟩)).take i).map (·.2))++[(⟨sI.2.h,sI.2.n,sI.2.l⟩:ar)])).length aDP),L24⟩) (by rw[cU q6,cC];exact aqr) [0,2,3,4]
 refine zD 3<|jf [0] L (λro7 wO Jk=>?_);have hzp:=hI.2.jI Jk;obtain⟨yB,Gx,Gv,vY,rfl,Gw,CC,Cz⟩:=hzp;refine jd 5 [2]<|jc (vs:=[.slice yB (((((aI S).flatMap (H8 S ⟨k,s,o,a,b,e,f⟩)).take i).map (·.2)).length) vY,zI (ws.length:Int)]) [] ((by have:=aE3 (c:=⟨k,s,o,a,b,e,f⟩) hO MJ (v:= .slice yB ((((aI S).flatMap (H8 S ⟨k,s,o,a,b,e,f⟩)).take i).map (·.2)).length vY) (by rw[<-aoZ];have hz:dq _ (.slice yB ((((aI S).flatMap (H8 S ⟨k,s,o,a,b,e,f⟩)).take i).map (·.2)).length vY) 3 bL ((((aI S).flatMap (H8 S ⟨k,s,o,a,b,e,f⟩)).take i).map (·.2)):=⟨yB,Gx,Gv,vY,rfl,Gw,CC,Cz⟩;rwa[bF (by omega)] at hz ⊢);rwa[<-Ah] at this)) ?_;rintro _ L29 ⟨a29,n29,c29,rfl,bic⟩;refine jd 3 [1]<|bY q0.a.a (.agg ⟨[.slice a29 n29 c29]⟩) [1] [0] L29 (fq.trans wO) ⟨_,_,rfl,rfl,_,_,_,rfl,bic⟩
def rIn{v:Value}{xs:List ar}{x:ar}(hl:dq ro v 3 bL xs)(hc:xs.length<=100):eW zT 258 [v,.agg ⟨[zI x.h,zI x.n,zI x.l]⟩] ro [] (λr Y=>∃c,r= .bool c/\Y=[]):=by
 obtain⟨fQ,rK,rJ,fg,rfl,tJ,nj,nY⟩:=hl;refine zE<|zD 2<|jn λb3=>zD 8<|iE [1,0,1,0,0] [] (λ(zz:Nat)=>[(0,.slice fQ xs.length fg),(3,zP b3),(5,zI (zz:Int))]) (λzz=>[zxc b3 41 [zI x.h,zI x.n,zI x.l]]) (λzz=>zz<=xs.length) (λzz=>xs.length-zz) 0 (bK _) [0] ?_;rintro i hI K1 cX rest;refine zD 8<|zJ 9 ((i:Int) <(xs.length:Int)) (λh1=>?_) λh1=>?_
 ·
  refine zD 8<|zxt xs i fg 3 nj nY λu4 iB=>jd 1 [0]<|jeq ZS (Q6 u4.h u4.n u4.l x.h x.n x.l)<|zD 1<|js 17 (u4.h==x.h&&(u4.n==x.n&&(u4.l==x.l&&true)&&true)) (λh2=>?_) (λh2=>?_)
  ·
   try simp only[zB] at h2
   refine zD 6<|zX (.bool true) ⟨_,rfl,rfl⟩
  try simp only[zB] at h2
  refine zD 4<|zW ((i:Int)+1)<|zD 2<|zY cX (i+1) (by omega) [0]
 refine zD 7<|zX (.bool false) ⟨_,rfl,rfl⟩
def anO{v:Value}{S:List (List ax)}{ps:List ar}{k a:Int}{s o:Nat}(hS:bH ro v S)(hO:cg S)(hc:nn S ⟨k,s,o,a,b,e,f⟩)(he:iG S ⟨k,s,o,a,b,e,f⟩=0)(hq:dq ro vq 3 bL ps)(hqc:ps.length<=100):eW zT 294 [.agg ⟨[v]⟩,.agg ⟨[zI k,zI (s:Int),zI (o:Int),zI a,zI b,zI e,zI f]⟩,vq] ro [] (λr Y=>∃zs,bJ r 3 41 bL zs Y/\zs.length<=12):=by
 have mY:=hS;obtain⟨ws,ht,dO⟩:=hS;obtain⟨fP,we,vZ,eL,rfl,v9,nE,nD⟩:=ht;have Ah:=dO.len;have mM:=hO.two;have MJ:=xT hO hc he;have X6:=Ia hO MJ;have hmq:=VZ (S:=S) (c:=⟨k,s,o,a,b,e,f⟩) (H:=aI S);have X4:=hq;obtain⟨qqa,qqb,qqo,qqc,rfl,qqk,qqh,qql⟩:=hq;refine zE<|zD 2<|jn λb3=>jn λb4=>jd 10 [1,0]<|jc (vs:=[.agg ⟨[.slice fP ws.length eL]⟩,.agg ⟨[zI k,zI (s:Int),zI (o:Int),zI a,zI b,zI e,zI f]⟩]) [] (anK mY hO hc he) ?_;rintro v12 L12 aSy;obtain⟨aDX,amv,bgx⟩:=aSy.form;subst bgx;refine zD 4<|jf [0] L12 (λAH fq gV=>?_);have bem:=aSy.jI gV;obtain⟨blS,blR,blO,blQ,aBA,blP,aAN,aAM⟩:=bem;simp only[Value.slice.injEq] at aBA;obtain⟨rfl,_,rfl⟩:=aBA;refine zD 4<|wN<|iE [1,1,1,0,1,0,0] [] (λ(zz:Nat×Value×Cells×(List ar))=>[(2,.slice qqa ps.length qqc),(6,zS),(7,zz.2.1),(8,.slice aDX (((aI S).flatMap (H8 S ⟨k,s,o,a,b,e,f⟩)).length) amv),(9,zI (zz.1:Int))]) (λzz=>[.l zz.2.2.1,zxc b4 100 [zI k,zI (s:Int),zI (o:Int),zI a,zI b,zI e,zI f],zxc b3 24 [.slice fP ws.length eL]]) (λzz=>zz.1<=((aI S).flatMap (H8 S ⟨k,s,o,a,b,e,f⟩)).length/\bJ zz.2.1 3 41 bL zz.2.2.2 zz.2.2.1/\zz.2.2.2.Sublist ((((aI S).flatMap (H8 S ⟨k,s,o,a,b,e,f⟩)).take zz.1).map (·.2))) (λzz=>((aI S).flatMap (H8 S ⟨k,s,o,a,b,e,f⟩)).length-zz.1) (⟨0,zS,[],[]⟩) ⟨Nat.zero_le _,bJ.nil _ _ _,.slnil⟩ [0,1,2] ?_;rintro⟨i,v,L,qs⟩ hI K1 cX rest;dsimp only at hI;have hqi:=hI.2.2.length_le;rw[List.length_map,List.length_take] at hqi;refine zD 8<|zJ 16 ((i:Int) <(((aI S).flatMap (H8 S ⟨k,s,o,a,b,e,f⟩)).length:Int)) (λh4=>?_) λh4=>?_
 ·
  refine zD 9<|zxs ((aI S).flatMap (H8 S ⟨k,s,o,a,b,e,f⟩)) i amv 6 aAN λLY iQ=>zD 1<|jl 0 (aAM _ _ iQ)<|jc (vs:=[.slice qqa ps.length qqc,.agg ⟨[zI LY.1.h,zI LY.1.n,zI LY.1.l]⟩]) [] (rIn (x:=LY.1) (X4.up fq) hqc) ?_;rintro _ _ ⟨c25,rfl,rfl⟩;refine jg 0 []<|zD 1<|js 25 c25 (λh5=>?_) (λh5=>?_)
  ·
   subst h5;refine zD 5<|zxs ((aI S).flatMap (H8 S ⟨k,s,o,a,b,e,f⟩)) i amv 6 aAN λLV w7=>zD 1<|jl 3 (aAM _ _ w7)<|jn λb32=>zxl bL b32 (⟨LV.2.h,LV.2.n,LV.2.l⟩:ar) 1 0 (hI.2.1) (λbae aZX L33 aqn=>?_) (hb:=by simp only[List.length_cons,List.length_nil];omega);refine zD 4<|zW ((i:Int)+1)<|zD 2<|zF cX (⟨i+1,(.slice bae ((qs++[(⟨LV.2.h,LV.2.n,LV.2.l⟩:ar)])).length aZX),L33,(qs++[(⟨LV.2.h,LV.2.n,LV.2.l⟩:ar)])⟩) ⟨aqn,by dsimp only;rw[cU w7,List.map_append];exact hI.2.2.append (.refl _)⟩ [0,2,3]
  subst h5;refine zD 4<|zW ((i:Int)+1)<|zD 2<|zF cX (⟨i+1,v,L,qs⟩) ⟨hI.2.1,by dsimp only;rw[cU iQ,List.map_append];exact hI.2.2.trans (List.sublist_append_left _ _)⟩ [0,1,2]
 refine zD 3 ?_;have hqs:qs.Sublist ((aI S).flatMap (fY S ⟨k,s,o,a,b,e,f⟩)):=by rw[<-aoZ];exact hI.2.2.trans ((List.take_sublist _ _).map _)
 have hqn:=hqs.nodup (adN hO MJ);have hqq:qs.length<=12:=bS hqs.length_le X6;refine jf [0] L (λro8 SL hk7=>?_);have hzp:=hI.2.1.jI hk7;obtain⟨yB,Gx,Gv,vY,rfl,Gw,CC,Cz⟩:=hzp;refine zD 2<|jc (vs:=[.slice yB qs.length vY]) [] (VK (v:= .slice yB qs.length vY) (xs:=qs) ⟨yB,Gx,Gv,vY,rfl,Gw,CC,Cz⟩ hqn hqq) ?_;rintro v35 L35 bft;refine zD 3<|bY q0.a.a (v35) [] [0] L35 (fq.trans SL) ⟨_,_,rfl,rfl,_,bft,by rw[u9 hqn Ih];exact hqq⟩
structure Hm where
 wa:Option Addr
 wn:Nat
 wc:Nat
 ea:Option Addr
 en:Nat
 ec:Nat
 ha:Option Addr
 hn:Nat
 hc:Nat
abbrev eTf(t:Hm):List Value:=[.slice t.wa t.wn t.wc,.slice t.ea t.en t.ec,.slice t.ha t.hn t.hc]
structure alr(ro:Nat->Option Obj)(vw ve vh:Value)(x:rB)(d:Nat):Prop where
 w:∃ws,dq ro vw 1 eI ws/\ws.length=d
 e:bH ro ve x.fin
 h:∃hv hs,dq ro vh 1 ri hv/\kA (λw l=>dq ro w 3 bL l) hv hs/\hv.length<=6/\∀l∈hs,l.length<=100
theorem asm{rest:List (List aP)}{x:rB}{l:List aP}:q8 rest x l i<=(oy (l::rest) x).length:=by
 grind [uI,q8,fF,aM]
theorem aA2{S:List (List ax)}{c:aP}(hc:nn S c):0<=c.ot:=by
 by_cases h:c.k=4\/c.k=7
 .exact(hc.ot h).1
 rw[hc.no h];grind
def pK{v:Value}{S:List (List ax)}{c:aP}(hS:bH ro v S)(hO:cg S)(hc:nn S c)(he:iG S c=0):eW zT 293 [.agg ⟨[v]⟩,.agg ⟨mO c⟩] ro [] (λr Y=>∃ra rn rc,r= .agg ⟨[.slice ra rn rc]⟩/\∀bU,Knows bU Y->bH bU (.slice ra rn rc) (xu S c)):=by
 obtain⟨k,s,o,a,b,e,f⟩:=c;have h1:=hc.st.1;have h2:=aA2 hc;obtain⟨s,rfl⟩:=dM h1;obtain⟨o,rfl⟩:=dM h2;exact aOB hS hO hc he
def ajm{v:Value}{S:List (List ax)}{ps:List ar}{c:aP}(hS:bH ro v S)(hO:cg S)(hc:nn S c)(he:iG S c=0)(hq:dq ro vq 3 bL ps)(hqc:ps.length<=100):eW zT 294 [.agg ⟨[v]⟩,.agg ⟨mO c⟩,vq] ro [] (λr Y=>∃zs,bJ r 3 41 bL zs Y/\zs.length<=12):=by
 obtain⟨k,s,o,a,b,e,f⟩:=c;have h1:=hc.st.1;have h2:=aA2 hc;obtain⟨s,rfl⟩:=dM h1;obtain⟨o,rfl⟩:=dM h2;exact anO hS hO hc he hq hqc
set_option maxHeartbeats 2000000 in
def anN {fa:Option Addr} {S:List (List ax)} {x:rB} {l:List aP} {rs:List (List aP)} (hT:kL ro vT ways) (hW:oB S ways) (hwd:ways.drop d=l::rs) (Uq:cg x.fin) (wx:x.fin.length=S.length) (hR:alr ro vW vE vH x d) (hg4:(oy (l::rs) x).length<=4) (hg:∀(i:Nat) (c:aP),l[i]?=some c->(oy rs (AX x i c)).length<=4) (hG:∀(i:Nat) (c:aP),l[i]?=some c->iG x.fin c=0->∀ {cK:Nat->Option Obj},Sub ro cK->∀ {w e h:Value},alr cK w e h (AX x i c) (d+1)->eW zT 257 [.agg ⟨[vS,vT,.slice fa 0 fc]⟩,.agg ⟨[w,e,h]⟩] cK [] (λr Y=>∃es,bJ r 3 304 eTf es Y/\es.length=(oy rs (AX x i c)).length)):eW zT 257 [.agg ⟨[vS,vT,.slice fa 0 fc]⟩,.agg ⟨[vW,vE,vH]⟩] ro [] (λr Y=>∃es,bJ r 3 304 eTf es Y/\es.length=(oy (l::rs) x).length):=by
 have hwl:=qt List.length hwd;simp only[rq,aK] at hwl;have hle:ways[d]?=some l:=by have:=qt (·[0]?) hwd;simpa using this
 obtain⟨mf,ht,jh⟩:=id hT;obtain⟨fP,we,vZ,eL,rfl,v9,nE,nD⟩:=ht;have Ww:=jh.len;have hwt:=hW.two;obtain⟨⟨qX,hw,hwn⟩,R7,hv,Ji,hh,hA,hv6,aBI⟩:=hR;obtain⟨tI,Mq,Mp,qN,rfl,qwk,C4,C3⟩:=hw;obtain⟨pW,Zf,Zd,oX,rfl,Ze,Su,Ss⟩:=hh;have hl8:=hA.len;have Ni:∀(i:Nat) (p:iy),([]:List iy)[i]?=some p->eK ⟨ro,[]⟩ 0 (0+i*6) 6 (oA p):=λ_ _ h=>tP h;refine zE<|zD 2<|jn λb2=>jn λb3=>jd 13 [0,1]<|zJ 16 ((qX.length:Int)=(mf.length:Int)) (λh1=>?_) λh1=>?_
 ·
  exfalso;omega
 refine jd 13 [1,0]<|zxs mf qX.length eL 1 nE λOB Ik=>zD 1 ?_;obtain⟨l26,aqO,h26⟩:=jh.get Ik;obtain aHy:=hW.ok _ (zL aqO);obtain aTl:l26=l:=Option.some.inj (aqO.symm.trans (by rw[hwn];exact hle));obtain⟨anW,bcD,bcB,Zh,rfl,bcC,av2,av1⟩:=h26;refine jl 0 (nD _ _ Ik)<|zD 8<|wN<|iE [1,1,1,1,0,1,0,0] [] (λ(zz:Nat×Value×Cells×(List Hm))=>[(2,zP b2),(3,zP b3),(4,zS),(5,zz.2.1),(6,.slice anW l26.length Zh),(7,zI (zz.1:Int))]) (λzz=>[.l zz.2.2.1,zxc b3 304 [.slice tI qX.length qN,vE,.slice pW hv.length oX],zxc b2 28 [vS,.slice fP mf.length eL,.slice fa 0 fc]]) (λzz=>zz.1<=l26.length/\bJ zz.2.1 3 304 eTf zz.2.2.2 zz.2.2.1/\zz.2.2.2.length=q8 rs x l zz.1) (λzz=>l26.length-zz.1) (⟨0,zS,[],[]⟩) ⟨Nat.zero_le _,bJ.nil _ _ _,by simp[q8]⟩ [0,1,2] ?_;rintro⟨i,vO,LO,es⟩ hI K1 cX rest;dsimp only at hI;have hgn:=asm (rest:=rs) (x:=x) (l:=l) (i:=i);refine zD 8<|zJ 30 ((i:Int) <(l26.length:Int)) (λh2=>?_) λh2=>?_
 ·
  refine jd 11 [1]<|zxt l26 i Zh 7 av2 av1 λjZ pg=>zxo 6 (λDX=>?_);have CQ:=(aHy.2 _ (zL pg)).fX wx;have Bm:l[i]?=some jZ:=by rw[<-aTl];exact pg
  refine jc (vs:=[.agg ⟨[vE]⟩,.agg ⟨[zI jZ.k,zI jZ.st,zI jZ.ot,zI jZ.fn,zI jZ.fl,zI jZ.tn,zI jZ.tl]⟩]) [] (bbH (s:=jZ.st) (o:=jZ.ot) R7 Uq CQ) ?_;rintro _ _ ⟨rfl,rfl⟩;refine jg 0 []<|eP DX [0,1,2]<|zD 2<|js 40 (!decide ((iG x.fin jZ)=0)) (λh4=>?_) (λh4=>?_)
  ·
   replace h4:=of_decide_eq_false (by simpa using h4);refine zD 4<|zW ((i:Int)+1)<|zD 2<|zF cX (⟨i+1,vO,LO,es⟩) ⟨hI.2.1,by dsimp only;rw[abc Bm (by simp_all)];exact hI.2.2⟩ [0,1,2]
  replace h4:=ai (by simpa using h4);refine zD 3<|jct [1,1,1,1,0,1,0,0,1,0,0,1,1] [K1] (λ(zz:Value×Cells×(Option Addr)×Nat×Nat×Cells×Nat)=>[(2,zP b2),(3,zP b3),(4,zS),(5,vO),(6,.slice anW l26.length Zh),(7,zI (i:Int)),(8,zP zz.2.2.2.2.2.2)]) (λzz=>[.b zz.2.2.2.2.2.2 (.cells ⟨[zz.1,.slice zz.2.2.1 zz.2.2.2.1 zz.2.2.2.2.1,zS]⟩ 304 (0,0)),.l zz.2.1,.l zz.2.2.2.2.2.1,.l LO,zxc b3 304 [.slice tI qX.length qN,vE,.slice pW hv.length oX],zxc b2 28 [vS,.slice fP mf.length eL,.slice fa 0 fc]]) (λzz=>bJ zz.1 1 3 eI (qX++[(i:Int)]) zz.2.1/\∀bU,Knows bU zz.2.2.2.2.2.1->bH bU (.slice zz.2.2.1 zz.2.2.2.1 zz.2.2.2.2.1) (xu x.fin jZ)) ?_ (λK3 FI=>?_)
  ·
   rintro⟨vW,LW,ea,en,ec,LE,b8⟩ hQ rest;dsimp only at hQ;have Kw:iG x.fin jZ=0:=by simp_all
   refine zD 6<|wN<|wN<|iE [1,1,1,1,0,1,0,0,1,0,0,1,1,0,1,0,0] [K1] (λ(zz:Nat×Value×Cells×(List Value)×Cells×(List (List ar)))=>[(2,zP b2),(3,zP b3),(4,zS),(5,vO),(6,.slice anW l26.length Zh),(7,zI (i:Int)),(8,zP b8),(9,zI (zz.1:Int))]) (λ(zz:Nat×Value×Cells×(List Value)×Cells×(List (List ar)))=>[zxc b8 304 [vW,.slice ea en ec,zz.2.1],.l zz.2.2.1,.l zz.2.2.2.2.1,.l LW,.l LE,.l LO,zxc b3 304 [.slice tI qX.length qN,vE,.slice pW hv.length oX],zxc b2 28 [vS,.slice fP mf.length eL,.slice fa 0 fc]]) (λ(zz:Nat×Value×Cells×(List Value)×Cells×(List (List ar)))=>(zz.1<=hv.length/\zz.2.2.2.1.length=zz.1)/\bJ zz.2.1 1 70 ri zz.2.2.2.1 zz.2.2.1/\(∀bU,Knows bU zz.2.2.2.2.1->kA (λw l=>dq bU w 3 bL l) zz.2.2.2.1 zz.2.2.2.2.2)/\∀l∈zz.2.2.2.2.2,l.length<=100) (λ(zz:Nat×Value×Cells×(List Value)×Cells×(List (List ar)))=>hv.length-zz.1) (⟨0,zS,[],[],[],[]⟩) ⟨⟨Nat.zero_le _,rfl⟩,bJ.nil _ _ _,λ_ _=> .nil,nofun⟩ [2,1,0,3,4,5,6,7] ?_;rintro⟨j,vN,LN,nv,Z,ns⟩ hJ K4 hK4 rest;dsimp only at hJ;refine jd 9 [6]<|zJ 60 ((j:Int) <(hv.length:Int)) (λh5=>?_) λh5=>?_
   ·
    refine jd 11 [0,6]<|zxt l26 i Zh 7 av2 av1 λx69 aGG=>jd 3 [6]<|zxs hv j oX 1 Su (λx74 aGE=>?_);obtain⟨l75,bfX,h75⟩:=hA.get aGE;obtain bfL:=aBI _ (zL bfX);obtain⟨aFd,bcb,bb7,aFc,rfl,bb9,bca,bb8⟩:=h75;refine jl 0 (Ss _ _ aGE)<|zxo 13 (λCU=>?_);have e69:x69=jZ:=Option.some.inj (aGG.symm.trans pg);have bei:dq _ (.slice aFd l75.length aFc) 3 bL l75:=⟨aFd,bcb,bb7,aFc,rfl,bb9,bca,bb8⟩;refine jc (vs:=[.agg ⟨[vE]⟩,.agg ⟨[zI x69.k,zI x69.st,zI x69.ot,zI x69.fn,zI x69.fl,zI x69.tn,zI x69.tl]⟩,.slice aFd l75.length aFc]) [] (ajm (c:=x69) R7 Uq (by rw[e69];exact CQ) (by rw[e69];exact Kw) bei bfL) ?_;rintro v76 L76 ⟨aiI,aSq,bsc⟩;obtain⟨acS,acQ,bgq⟩:=aSq.form;subst bgq;refine eP CU (zN 1 8)<|zxo 14 λKB=>jn λb77=>eP KB (zN 1 9)<|zxo 15 λQB=>gC (sz:=1) (ps:=nv) (qs:=[((.slice acS aiI.length acQ):Value)]) (enc:=ri) (w:= .slice (some ⟨b77,0,none⟩) 1 1) [3] [0] [(b77,.cells ⟨([((.slice acS aiI.length acQ):Value)].map ri).flatten⟩ 70 (0,0))] (hJ.2.1) (λs _ hZ=>de [((.slice acS aiI.length acQ):Value)] (hZ _ (.head _)) (by intro p hp;rfl)) (by intro p hp;rw[List.mem_singleton] at hp;subst hp;exact aG rfl) (by simp<;>omega) (λv78 L78 aqg=>?_);obtain⟨aZ4,aZO,bgG⟩:=aqg.form;subst bgG;refine eE QB [[8]]<|zD 1<|zxo 17 λhL8=>jd 1 [3]<|kV hL8<|zD 3<|zW ((j:Int)+1)<|zD 2<|zV hK4 (⟨j+1,(.slice aZ4 ((nv++[((.slice acS aiI.length acQ):Value)])).length aZO),L78,(nv++[((.slice acS aiI.length acQ):Value)]),L76++Z,(ns++[aiI])⟩) ⟨⟨by dsimp only;omega,by simp only[zM];omega⟩,aqg,λbU hk=>(hJ.2.2.1 bU hk.right).snoc (aSq.jI hk.left),λl hl=>by rcases List.mem_append.1 hl with h|h;exact hJ.2.2.2 l h;simp at h;subst h;omega⟩ [[3],[0],[2,4],[5],[6],[7],[8],[9]]
   refine zD 2<|jf [3,4,1,2] (LW++(LE++(LN++Z))) (λbbA aR3 ax8=>?_);have bhI:alr bbA vW (.slice ea en ec) vN (AX x i jZ) (d+1):=⟨⟨_,hQ.1.jI (Knows.left ax8),by rw[List.length_append,hwn];rfl⟩,hQ.2 _ (Knows.left (Knows.right ax8)),_,ns,hJ.2.1.jI (Knows.left (Knows.right (Knows.right ax8))),(hJ.2.2.1 _ (Knows.right (Knows.right (Knows.right ax8)))),by omega,hJ.2.2.2⟩;refine jd 4 [3,0]<|jc (vs:=[.agg ⟨[vS,.slice fP mf.length eL,.slice fa 0 fc]⟩,.agg ⟨[vW,.slice ea en ec,vN]⟩]) [] ((hG i jZ Bm Kw aR3 bhI)) ?_;rintro v83 L83 ⟨ayV,aSo,bgF⟩;obtain⟨aNi,aNf,bgp⟩:=aSo.form;subst bgp;refine jf [0] L83 (λbp8 beV ax7=>?_);have beh:=aSo.jI ax7;obtain⟨bly,aOL,aOI,blx,aBw,blw,aOK,aOJ⟩:=beh;simp only[Value.slice.injEq] at aBw;obtain⟨rfl,_,rfl⟩:=aBw;refine zxk eTf 1 aNf (hI.2.1) aOK aOJ (λaDQ aDJ L84 Qk=>?_) (hb:=by have:=hg i jZ Bm;omega);refine zD 4<|zW ((i:Int)+1)<|zD 2<|dY cX (⟨i+1,(.slice aDQ ((es++ayV)).length aDJ),L84,(es++ayV)⟩) ⟨by dsimp only;omega,Qk,by dsimp only;rw[Uu Bm Kw,List.length_append,hI.2.2,bgF]⟩ (by dsimp only;omega) [0,2,3] (aR3.trans beV)
  have Kw:iG x.fin jZ=0:=by simp_all
  refine jd 8 [1,1]<|zxt l26 i Zh 7 av2 av1 λfD sx=>xB [0,5,15] ⟨λ_ _ KE=>?_,λ_ _ KD=>?_,λ_ _ KC=>?_,bW⟩
  ·
   refine jn λb41=>eP KE [1,2,3]<|xB [3,5,15] ⟨λ_ _ QC=>?_,λ_ _ WL=>?_,λ_ _ arx=>?_,bW⟩
   ·
    refine zxq eI b41 3 0 qN C4 C3 λSk Sj L44 eY=>eE QC [[],[2]]<|xB [5,15] ⟨λ_ _ aeX=>?_,λ_ _ aeV=>?_,bW⟩
    ·
     refine jn λCq=>eP aeX (zN 1 4)<|xB [6,15] ⟨λ_ _ art=>?_,λ_ _ WJ=>?_,bW⟩
     ·
      refine zxl eI Cq (i:Int) 1 0 (eY) λqv qu EB eX=>eE art [[],[3]]<|xB [13,15] ⟨λ_ _ WI=>?_,λ_ _ WH=>?_,bW⟩
      ·
       have qm:fD=jZ:=aJ (sx.symm.trans pg);refine jc (vs:=[.agg ⟨[vE]⟩,.agg ⟨[zI fD.k,zI fD.st,zI fD.ot,zI fD.fn,zI fD.fl,zI fD.tn,zI fD.tl]⟩]) [] (pK (c:=fD) R7 Uq (by rw[qm];exact CQ) (by rw[qm];exact Kw)) ?_;rintro _ ym ⟨Ew,DI,Ej,rfl,qk⟩;refine eP WI (zN 1 5)<|zD 1<|zxo 15 λaeT=>jn λb8=>eP aeT (zN 1 6)<|zxo 16 λaeS=>jd 1 [0]<|kV aeS<|zD 1<|zY FI ⟨(.slice qv ((qX++[(i:Int)])).length qu),EB,Ew,DI,Ej,ym,b8⟩ ⟨eX,by rw[<-qm];exact qk⟩ [0,2,1,4,5,6]
      refine jn λb8=>eP WH (zN 1 5)<|zxo 13 (λaeR=>?_);have qm:fD=jZ:=aJ (sx.symm.trans pg);refine jc (vs:=[.agg ⟨[vE]⟩,.agg ⟨[zI fD.k,zI fD.st,zI fD.ot,zI fD.fn,zI fD.fl,zI fD.tn,zI fD.tl]⟩]) [] (pK (c:=fD) R7 Uq (by rw[qm];exact CQ) (by rw[qm];exact Kw)) ?_;rintro _ ym ⟨Ew,DI,Ej,rfl,qk⟩;refine eP aeR (zN 1 6)<|zD 1<|zxo 16 λarl=>jd 1 [1]<|kV arl<|zD 1<|zY FI ⟨(.slice qv ((qX++[(i:Int)])).length qu),EB,Ew,DI,Ej,ym,b8⟩ ⟨eX,by rw[<-qm];exact qk⟩ [1,2,0,4,5,6]
     refine jn λb8=>eP WJ (zN 1 5)<|zxo 6 λark=>zxl eI Cq (i:Int) 2 1 (eY) λqv qu EB eX=>eE ark [[],[4]]<|zxo 13 (λarj=>?_);have qm:fD=jZ:=aJ (sx.symm.trans pg);refine jc (vs:=[.agg ⟨[vE]⟩,.agg ⟨[zI fD.k,zI fD.st,zI fD.ot,zI fD.fn,zI fD.fl,zI fD.tn,zI fD.tl]⟩]) [] (pK (c:=fD) R7 Uq (by rw[qm];exact CQ) (by rw[qm];exact Kw)) ?_;rintro _ ym ⟨Ew,DI,Ej,rfl,qk⟩;refine eP arj (zN 1 6)<|zD 1<|zxo 16 λaI7=>jd 1 [2]<|kV aI7<|zD 1<|zY FI ⟨(.slice qv ((qX++[(i:Int)])).length qu),EB,Ew,DI,Ej,ym,b8⟩ ⟨eX,by rw[<-qm];exact qk⟩ [2,1,0,4,5,6]
    refine jn λb8=>eP aeV (zN 1 4)<|zxo 5 λaI6=>jn λCq=>eP aI6 (zN 1 5)<|zxo 6 λari=>zxl eI Cq (i:Int) 2 0 (eY) λqv qu EB eX=>eE ari [[],[4]]<|zxo 13 (λaI5=>?_);have qm:fD=jZ:=aJ (sx.symm.trans pg);refine jc (vs:=[.agg ⟨[vE]⟩,.agg ⟨[zI fD.k,zI fD.st,zI fD.ot,zI fD.fn,zI fD.fl,zI fD.tn,zI fD.tl]⟩]) [] (pK (c:=fD) R7 Uq (by rw[qm];exact CQ) (by rw[qm];exact Kw)) ?_;rintro _ ym ⟨Ew,DI,Ej,rfl,qk⟩;refine eP aI5 (zN 1 6)<|zD 1<|zxo 16 λbh2=>jd 1 [3]<|kV bh2<|zD 1<|zY FI ⟨(.slice qv ((qX++[(i:Int)])).length qu),EB,Ew,DI,Ej,ym,b8⟩ ⟨eX,by rw[<-qm];exact qk⟩ [3,1,0,4,5,6]
   ·
    refine jn λCq=>eP WL (zN 1 4)<|xB [3,15] ⟨λ_ _ bhZ=>?_,λ_ _ aI4=>?_,bW⟩
    ·
     refine zxq eI b41 3 1 qN C4 C3 λSk Sj L44 eY=>eE bhZ [[],[3]]<|xB [6,15] ⟨λ_ _ arh=>?_,λ_ _ aIZ=>?_,bW⟩
     ·
      refine zxl eI Cq (i:Int) 0 1 (eY) λqv qu EB eX=>eE arh [[],[3]]<|xB [13,15] ⟨λ_ _ aIY=>?_,λ_ _ aIX=>?_,bW⟩
      ·
       have qm:fD=jZ:=aJ (sx.symm.trans pg);refine jc (vs:=[.agg ⟨[vE]⟩,.agg ⟨[zI fD.k,zI fD.st,zI fD.ot,zI fD.fn,zI fD.fl,zI fD.tn,zI fD.tl]⟩]) [] (pK (c:=fD) R7 Uq (by rw[qm];exact CQ) (by rw[qm];exact Kw)) ?_;rintro _ ym ⟨Ew,DI,Ej,rfl,qk⟩;refine eP aIY (zN 1 5)<|zD 1<|zxo 15 λaIW=>jn λb8=>eP aIW (zN 1 6)<|zxo 16 λaIV=>jd 1 [0]<|kV aIV<|zD 1<|zY FI ⟨(.slice qv ((qX++[(i:Int)])).length qu),EB,Ew,DI,Ej,ym,b8⟩ ⟨eX,by rw[<-qm];exact qk⟩ [0,2,1,4,5,6]
      refine jn λb8=>eP aIX (zN 1 5)<|zxo 13 (λaIU=>?_);have qm:fD=jZ:=aJ (sx.symm.trans pg);refine jc (vs:=[.agg ⟨[vE]⟩,.agg ⟨[zI fD.k,zI fD.st,zI fD.ot,zI fD.fn,zI fD.fl,zI fD.tn,zI fD.tl]⟩]) [] (pK (c:=fD) R7 Uq (by rw[qm];exact CQ) (by rw[qm];exact Kw)) ?_;rintro _ ym ⟨Ew,DI,Ej,rfl,qk⟩;refine eP aIU (zN 1 6)<|zD 1<|zxo 16 λaIT=>jd 1 [1]<|kV aIT<|zD 1<|zY FI ⟨(.slice qv ((qX++[(i:Int)])).length qu),EB,Ew,DI,Ej,ym,b8⟩ ⟨eX,by rw[<-qm];exact qk⟩ [1,2,0,4,5,6]
     refine jn λb8=>eP aIZ (zN 1 5)<|zxo 6 λaIS=>zxl eI Cq (i:Int) 1 2 (eY) λqv qu EB eX=>eE aIS [[],[4]]<|zxo 13 (λaIR=>?_);have qm:fD=jZ:=aJ (sx.symm.trans pg);refine jc (vs:=[.agg ⟨[vE]⟩,.agg ⟨[zI fD.k,zI fD.st,zI fD.ot,zI fD.fn,zI fD.fl,zI fD.tn,zI fD.tl]⟩]) [] (pK (c:=fD) R7 Uq (by rw[qm];exact CQ) (by rw[qm];exact Kw)) ?_;rintro _ ym ⟨Ew,DI,Ej,rfl,qk⟩;refine eP aIR (zN 1 6)<|zD 1<|zxo 16 λaIQ=>jd 1 [2]<|kV aIQ<|zD 1<|zY FI ⟨(.slice qv ((qX++[(i:Int)])).length qu),EB,Ew,DI,Ej,ym,b8⟩ ⟨eX,by rw[<-qm];exact qk⟩ [2,1,0,4,5,6]
    refine jn λb8=>eP aI4 (zN 1 5)<|zxo 3 λaIP=>zxq eI b41 3 2 qN C4 C3 λSk Sj L44 eY=>eE aIP [[],[4]]<|zxo 6 λbhS=>zxl eI Cq (i:Int) 0 2 (eY) λqv qu EB eX=>eE bhS [[],[4]]<|zxo 13 (λbhR=>?_);have qm:fD=jZ:=aJ (sx.symm.trans pg);refine jc (vs:=[.agg ⟨[vE]⟩,.agg ⟨[zI fD.k,zI fD.st,zI fD.ot,zI fD.fn,zI fD.fl,zI fD.tn,zI fD.tl]⟩]) [] (pK (c:=fD) R7 Uq (by rw[qm];exact CQ) (by rw[qm];exact Kw)) ?_;rintro _ ym ⟨Ew,DI,Ej,rfl,qk⟩;refine eP bhR (zN 1 6)<|zD 1<|zxo 16 λaIO=>jd 1 [2]<|kV aIO<|zD 1<|zY FI ⟨(.slice qv ((qX++[(i:Int)])).length qu),EB,Ew,DI,Ej,ym,b8⟩ ⟨eX,by rw[<-qm];exact qk⟩ [2,1,0,4,5,6]
   refine jn λb8=>eP arx (zN 1 4)<|xB [3,5] ⟨λ_ _ aIN=>?_,λ_ _ aIM=>?_,bW⟩
   ·
    refine zxq eI b41 3 1 qN C4 C3 λSk Sj L44 eY=>eE aIN [[],[3]]<|zxo 5 λaIL=>jn λCq=>eP aIL (zN 1 5)<|zxo 6 λaIK=>zxl eI Cq (i:Int) 1 0 (eY) λqv qu EB eX=>eE aIK [[],[4]]<|zxo 13 (λaIJ=>?_);have qm:fD=jZ:=aJ (sx.symm.trans pg);refine jc (vs:=[.agg ⟨[vE]⟩,.agg ⟨[zI fD.k,zI fD.st,zI fD.ot,zI fD.fn,zI fD.fl,zI fD.tn,zI fD.tl]⟩]) [] (pK (c:=fD) R7 Uq (by rw[qm];exact CQ) (by rw[qm];exact Kw)) ?_;rintro _ ym ⟨Ew,DI,Ej,rfl,qk⟩;refine eP aIJ (zN 1 6)<|zD 1<|zxo 16 λaII=>jd 1 [3]<|kV aII<|zD 1<|zY FI ⟨(.slice qv ((qX++[(i:Int)])).length qu),EB,Ew,DI,Ej,ym,b8⟩ ⟨eX,by rw[<-qm];exact qk⟩ [3,1,0,4,5,6]
   refine jn λCq=>eP aIM (zN 1 5)<|zxo 3 λaIH=>zxq eI b41 3 2 qN C4 C3 λSk Sj L44 eY=>eE aIH [[],[4]]<|zxo 6 λaIG=>zxl eI Cq (i:Int) 0 1 (eY) λqv qu EB eX=>eE aIG [[],[4]]<|zxo 13 (λaIF=>?_);have qm:fD=jZ:=aJ (sx.symm.trans pg);refine jc (vs:=[.agg ⟨[vE]⟩,.agg ⟨[zI fD.k,zI fD.st,zI fD.ot,zI fD.fn,zI fD.fl,zI fD.tn,zI fD.tl]⟩]) [] (pK (c:=fD) R7 Uq (by rw[qm];exact CQ) (by rw[qm];exact Kw)) ?_;rintro _ ym ⟨Ew,DI,Ej,rfl,qk⟩;refine eP aIF (zN 1 6)<|zD 1<|zxo 16 λaIE=>jd 1 [3]<|kV aIE<|zD 1<|zY FI ⟨(.slice qv ((qX++[(i:Int)])).length qu),EB,Ew,DI,Ej,ym,b8⟩ ⟨eX,by rw[<-qm];exact qk⟩ [3,1,0,4,5,6]
  ·
   refine jn λCq=>eP KD [1,2,3]<|xB [0,15] ⟨λ_ _ ar7=>?_,λ_ _ ar6=>?_,bW⟩
   ·
    refine jn λb41=>eP ar7 (zN 1 4)<|xB [3,15] ⟨λ_ _ ar5=>?_,λ_ _ ar4=>?_,bW⟩
    ·
     refine zxq eI b41 3 0 qN C4 C3 λSk Sj L44 eY=>eE ar5 [[],[3]]<|xB [6,15] ⟨λ_ _ ar3=>?_,λ_ _ ar2=>?_,bW⟩
     ·
      refine zxl eI Cq (i:Int) 0 1 (eY) λqv qu EB eX=>eE ar3 [[],[3]]<|xB [13,15] ⟨λ_ _ ar1=>?_,λ_ _ ar0=>?_,bW⟩
      ·
       have qm:fD=jZ:=aJ (sx.symm.trans pg);refine jc (vs:=[.agg ⟨[vE]⟩,.agg ⟨[zI fD.k,zI fD.st,zI fD.ot,zI fD.fn,zI fD.fl,zI fD.tn,zI fD.tl]⟩]) [] (pK (c:=fD) R7 Uq (by rw[qm];exact CQ) (by rw[qm];exact Kw)) ?_;rintro _ ym ⟨Ew,DI,Ej,rfl,qk⟩;refine eP ar1 (zN 1 5)<|zD 1<|zxo 15 λarZ=>jn λb8=>eP arZ (zN 1 6)<|zxo 16 λarY=>jd 1 [0]<|kV arY<|zD 1<|zY FI ⟨(.slice qv ((qX++[(i:Int)])).length qu),EB,Ew,DI,Ej,ym,b8⟩ ⟨eX,by rw[<-qm];exact qk⟩ [0,2,1,4,5,6]
      refine jn λb8=>eP ar0 (zN 1 5)<|zxo 13 (λarX=>?_);have qm:fD=jZ:=aJ (sx.symm.trans pg);refine jc (vs:=[.agg ⟨[vE]⟩,.agg ⟨[zI fD.k,zI fD.st,zI fD.ot,zI fD.fn,zI fD.fl,zI fD.tn,zI fD.tl]⟩]) [] (pK (c:=fD) R7 Uq (by rw[qm];exact CQ) (by rw[qm];exact Kw)) ?_;rintro _ ym ⟨Ew,DI,Ej,rfl,qk⟩;refine eP arX (zN 1 6)<|zD 1<|zxo 16 λarW=>jd 1 [1]<|kV arW<|zD 1<|zY FI ⟨(.slice qv ((qX++[(i:Int)])).length qu),EB,Ew,DI,Ej,ym,b8⟩ ⟨eX,by rw[<-qm];exact qk⟩ [1,2,0,4,5,6]
     refine jn λb8=>eP ar2 (zN 1 5)<|zxo 6 λarV=>zxl eI Cq (i:Int) 1 2 (eY) λqv qu EB eX=>eE arV [[],[4]]<|zxo 13 (λarU=>?_);have qm:fD=jZ:=aJ (sx.symm.trans pg);refine jc (vs:=[.agg ⟨[vE]⟩,.agg ⟨[zI fD.k,zI fD.st,zI fD.ot,zI fD.fn,zI fD.fl,zI fD.tn,zI fD.tl]⟩]) [] (pK (c:=fD) R7 Uq (by rw[qm];exact CQ) (by rw[qm];exact Kw)) ?_;rintro _ ym ⟨Ew,DI,Ej,rfl,qk⟩;refine eP arU (zN 1 6)<|zD 1<|zxo 16 λarT=>jd 1 [2]<|kV arT<|zD 1<|zY FI ⟨(.slice qv ((qX++[(i:Int)])).length qu),EB,Ew,DI,Ej,ym,b8⟩ ⟨eX,by rw[<-qm];exact qk⟩ [2,1,0,4,5,6]
    refine jn λb8=>eP ar4 (zN 1 5)<|zxo 3 λarS=>zxq eI b41 3 1 qN C4 C3 λSk Sj L44 eY=>eE arS [[],[4]]<|zxo 6 λarR=>zxl eI Cq (i:Int) 0 2 (eY) λqv qu EB eX=>eE arR [[],[4]]<|zxo 13 (λarQ=>?_);have qm:fD=jZ:=aJ (sx.symm.trans pg);refine jc (vs:=[.agg ⟨[vE]⟩,.agg ⟨[zI fD.k,zI fD.st,zI fD.ot,zI fD.fn,zI fD.fl,zI fD.tn,zI fD.tl]⟩]) [] (pK (c:=fD) R7 Uq (by rw[qm];exact CQ) (by rw[qm];exact Kw)) ?_;rintro _ ym ⟨Ew,DI,Ej,rfl,qk⟩;refine eP arQ (zN 1 6)<|zD 1<|zxo 16 λarP=>jd 1 [2]<|kV arP<|zD 1<|zY FI ⟨(.slice qv ((qX++[(i:Int)])).length qu),EB,Ew,DI,Ej,ym,b8⟩ ⟨eX,by rw[<-qm];exact qk⟩ [2,1,0,4,5,6]
   refine jn λb8=>eP ar6 (zN 1 4)<|zxo 0 λarO=>jn λb41=>eP arO (zN 1 5)<|zxo 3 λarN=>zxq eI b41 3 0 qN C4 C3 λSk Sj L44 eY=>eE arN [[],[4]]<|zxo 6 λarM=>zxl eI Cq (i:Int) 0 2 (eY) λqv qu EB eX=>eE arM [[],[4]]<|zxo 13 (λarL=>?_);have qm:fD=jZ:=aJ (sx.symm.trans pg);refine jc (vs:=[.agg ⟨[vE]⟩,.agg ⟨[zI fD.k,zI fD.st,zI fD.ot,zI fD.fn,zI fD.fl,zI fD.tn,zI fD.tl]⟩]) [] (pK (c:=fD) R7 Uq (by rw[qm];exact CQ) (by rw[qm];exact Kw)) ?_;rintro _ ym ⟨Ew,DI,Ej,rfl,qk⟩;refine eP arL (zN 1 6)<|zD 1<|zxo 16 λarK=>jd 1 [2]<|kV arK<|zD 1<|zY FI ⟨(.slice qv ((qX++[(i:Int)])).length qu),EB,Ew,DI,Ej,ym,b8⟩ ⟨eX,by rw[<-qm];exact qk⟩ [2,1,0,4,5,6]
  refine jn λb8=>eP KC [1,2,3]<|xB [0,5] ⟨λ_ _ arJ=>?_,λ_ _ arI=>?_,bW⟩
  ·
   refine jn λb41=>eP arJ (zN 1 4)<|xB [3,5] ⟨λ_ _ aT9=>?_,λ_ _ aT7=>?_,bW⟩
   ·
    refine zxq eI b41 3 0 qN C4 C3 λSk Sj L44 eY=>eE aT9 [[],[3]]<|zxo 5 λaT6=>jn λCq=>eP aT6 (zN 1 5)<|zxo 6 λarH=>zxl eI Cq (i:Int) 1 0 (eY) λqv qu EB eX=>eE arH [[],[4]]<|zxo 13 (λaT5=>?_);have qm:fD=jZ:=aJ (sx.symm.trans pg);refine jc (vs:=[.agg ⟨[vE]⟩,.agg ⟨[zI fD.k,zI fD.st,zI fD.ot,zI fD.fn,zI fD.fl,zI fD.tn,zI fD.tl]⟩]) [] (pK (c:=fD) R7 Uq (by rw[qm];exact CQ) (by rw[qm];exact Kw)) ?_;rintro _ ym ⟨Ew,DI,Ej,rfl,qk⟩;refine eP aT5 (zN 1 6)<|zD 1<|zxo 16 λaT4=>jd 1 [3]<|kV aT4<|zD 1<|zY FI ⟨(.slice qv ((qX++[(i:Int)])).length qu),EB,Ew,DI,Ej,ym,b8⟩ ⟨eX,by rw[<-qm];exact qk⟩ [3,1,0,4,5,6]
   refine jn λCq=>eP aT7 (zN 1 5)<|zxo 3 λarG=>zxq eI b41 3 1 qN C4 C3 λSk Sj L44 eY=>eE arG [[],[4]]<|zxo 6 λaT3=>zxl eI Cq (i:Int) 0 1 (eY) λqv qu EB eX=>eE aT3 [[],[4]]<|zxo 13 (λaT2=>?_);have qm:fD=jZ:=aJ (sx.symm.trans pg);refine jc (vs:=[.agg ⟨[vE]⟩,.agg ⟨[zI fD.k,zI fD.st,zI fD.ot,zI fD.fn,zI fD.fl,zI fD.tn,zI fD.tl]⟩]) [] (pK (c:=fD) R7 Uq (by rw[qm];exact CQ) (by rw[qm];exact Kw)) ?_;rintro _ ym ⟨Ew,DI,Ej,rfl,qk⟩;refine eP aT2 (zN 1 6)<|zD 1<|zxo 16 λarF=>jd 1 [3]<|kV arF<|zD 1<|zY FI ⟨(.slice qv ((qX++[(i:Int)])).length qu),EB,Ew,DI,Ej,ym,b8⟩ ⟨eX,by rw[<-qm];exact qk⟩ [3,1,0,4,5,6]
  refine jn λCq=>eP arI (zN 1 4)<|zxo 0 λarE=>jn λb41=>eP arE (zN 1 5)<|zxo 3 λarD=>zxq eI b41 3 0 qN C4 C3 λSk Sj L44 eY=>eE arD [[],[4]]<|zxo 6 λarC=>zxl eI Cq (i:Int) 0 1 (eY) λqv qu EB eX=>eE arC [[],[4]]<|zxo 13 (λarB=>?_);have qm:fD=jZ:=aJ (sx.symm.trans pg);refine jc (vs:=[.agg ⟨[vE]⟩,.agg ⟨[zI fD.k,zI fD.st,zI fD.ot,zI fD.fn,zI fD.fl,zI fD.tn,zI fD.tl]⟩]) [] (pK (c:=fD) R7 Uq (by rw[qm];exact CQ) (by rw[qm];exact Kw)) ?_;rintro _ ym ⟨Ew,DI,Ej,rfl,qk⟩;refine eP arB (zN 1 6)<|zD 1<|zxo 16 λarA=>jd 1 [3]<|kV arA<|zD 1<|zY FI ⟨(.slice qv ((qX++[(i:Int)])).length qu),EB,Ew,DI,Ej,ym,b8⟩ ⟨eX,by rw[<-qm];exact qk⟩ [3,1,0,4,5,6]
 refine zD 8<|zR _ [] [0] LO ⟨es,hI.2.1,by rw[hI.2.2,show i=l.length by rw[<-aTl];omega,Uv]⟩
def ajl{fa:Option Addr}{S:List (List ax)}{x:rB}(hT:kL ro vT ways)(hR:alr ro vW vE vH x d)(hd:ways.length=d):eW zT 257 [.agg ⟨[vS,vT,.slice fa 0 fc]⟩,.agg ⟨[vW,vE,vH]⟩] ro [] (λr Y=>∃es,bJ r 3 304 eTf es Y/\es.length=1):=by
 obtain⟨mf,ht,jh⟩:=id hT;obtain⟨fP,we,vZ,eL,rfl,v9,nE,nD⟩:=ht;have Ww:=jh.len;obtain⟨⟨qX,hw,hwn⟩,R7,hv,Ji,hh,hA,hv6,aBI⟩:=hR;obtain⟨wsE,hx,_⟩:=R7;obtain⟨tI,Mq,Mp,qN,rfl,qwk,C4,C3⟩:=hw;obtain⟨pW,Zf,Zd,oX,rfl,Ze,Su,Ss⟩:=hh;obtain⟨rI,qxb,qxo,ru,rfl,qxk,Y8,Y6⟩:=hx;have Ni:∀(i:Nat) (p:iy),([]:List iy)[i]?=some p->eK ⟨ro,[]⟩ 0 (0+i*6) 6 (oA p):=λ_ _ h=>tP h;refine zE<|zD 2<|jn λb2=>jn λb3=>jd 13 [0,1]<|zJ 16 ((qX.length:Int)=(mf.length:Int)) (λh1=>?_) λh1=>?_
 ·
  refine jd 4 [0]<|jn λb18=>zD 3<|zR _ [] [0] _ ⟨[_],iZ (b:=b18) (T:=304) [(⟨tI,qX.length,qN,rI,wsE.length,ru,pW,hv.length,oX⟩:Hm)] rfl (λ_ _=>rfl),rfl⟩
 exfalso;omega
def anM{fa:Option Addr}{S:List (List ax)}(hW:oB S ways):∀ {rest:List (List aP)} {d:Nat} {x:rB} {w e h:Value} {ro:Nat->Option Obj},kL ro vT ways->ways.drop d=rest->d<=ways.length->U2 (aI S) d x->x.fin.length=S.length->alr ro w e h x d->eW zT 257 [.agg ⟨[vS,vT,.slice fa 0 fc]⟩,.agg ⟨[w,e,h]⟩] ro [] (λr Y=>∃es,bJ r 3 304 eTf es Y/\es.length=(oy rest x).length)
 | [],d,x,w,e,h,ro,hT,hd,hle,hk,wx,hR=>by
  have hl:ways.length=d:=by have:=qt List.length hd;simp at this;omega
  exact ajl (S:=S) hT hR hl
 |l::rest,d,x,w,e,h,ro,hT,hd,hle,hk,wx,hR=>by
  have hwl:=qt List.length hd;simp only[rq,aK] at hwl;have R6:d<=1:=by have:=hW.two;omega
  have Da:l∈ways:=Ci (by rw[hd];exact .head _);have h2:∀l'∈l::rest,l'.length<=2:=λl' hl=>(hW.ok l' (Ci (by rw[hd];exact hl))).1.2;have EW:rest.length<=1:=by have:=hW.two;omega
  have hp1:2^rest.length<=2^1:=jU (by decide) EW;have X5:2^(l::rest).length<=2^2:=jU (by decide) (by simp only[aK];omega);refine anN hT hW hd (hk.fin R6) wx hR (bS (EZ h2) X5) (λi c hi=>bS (EZ λl' hl=>h2 l' (.tail _ hl)) (bS hp1 (by decide))) λi c hi he cK hs w' e' h' hR'=>?_;have CQ:=((hW.ok l Da).2 c (zL hi)).fX wx;exact anM (rest:=rest) (d:=d+1) hW (hT.up hs) (by rw[<-List.drop_drop,hd];rfl) (by omega) (hk.next R6 (xT (hk.fin R6) CQ he)) (by simp[AX,Fe,wx]) hR'
def eW.frz{P:Program}{f:FuncId}{args:List Value}{L:Cells}{Φ:Value->Cells->Prop}(h:∀cK,Sub ro cK->Knows cK L->eW P f args cK [] Φ):eW P f args ro L Φ:=asH (λ_ _ h=>h) λhw=>by
 obtain⟨bU,h1,h2,h3⟩:=W0 (s:=⟨ro,[]⟩) (X:=L) (rw:=L) (by simp) hw;intro main T hT c cs g1 g2;refine hT.mono _ _ _ h3 (h bU h1 h2 main T hT c cs (λv s' hs=>?_) λch s' hs=>?_)
 .obtain⟨v',Y,e,rfl,uz⟩:=hs;exact hT.mono _ _ _ (show St.le ⟨ro,Y⟩ ⟨bU,Y⟩ from ⟨[],by simp,λb o hb=> .inl (h1 b o hb)⟩) (g1 v ⟨ro,Y⟩ ⟨v',Y,e,rfl,uz⟩)
 obtain⟨_,_,e,_⟩:=hs;cases e
set_option maxHeartbeats 2000000 in
def bbI {fa:Option Addr} {S:List (List ax)} (hS:bH ro vS S) (hO:cg S) (hT:kL ro vT ways) (hW:oB S ways) (h3:(aI S).length<=3):eW zT 223 [.agg ⟨[vS,vT,.slice fa 0 fc]⟩] ro [] (λr Y=>∃es,bJ r 3 304 eTf es Y/\es.length=(dt S ways).length):=by
 have hT0:=hT;have mY:=hS;obtain⟨n9,hs,lu⟩:=hS;obtain⟨qZ,qsb,qso,qY,rfl,qsk,qsh,qsl⟩:=hs;obtain⟨mf,ht,jh⟩:=id hT;obtain⟨fP,we,vZ,eL,rfl,v9,nE,nD⟩:=ht;have Oe:=lu.len;have Ww:=jh.len;have mM:=hO.two;have SQ:=hW.two;have Ni:∀(i:Nat) (p:iy),([]:List iy)[i]?=some p->eK ⟨ro,[]⟩ 0 (0+i*6) 6 (oA p):=λ_ _ h=>tP h;refine zE<|zD 2<|jn λb1=>zD 3<|jct [1,1] [] (λ(zz:(Option Addr)×Nat×Nat×Cells×Nat)=>[(1,zP b1),(2,zS),(3,zP zz.2.2.2.2)]) (λzz=>[.b zz.2.2.2.2 (.cells ⟨[zS,.slice zz.1 zz.2.1 zz.2.2.1,zS]⟩ 304 (0,0)),.l zz.2.2.2.1,zxc b1 28 [.slice qZ n9.length qY,.slice fP mf.length eL,.slice fa 0 fc]]) (λzz=>∀bU,Knows bU zz.2.2.2.1->bH bU (.slice zz.1 zz.2.1 zz.2.2.1) S) ?_ (λK1 cX=>?_)
 ·
  rintro⟨ea,en,ec,LE,b3⟩ hP rest;dsimp only at hP;refine jd 4 [2]<|jc (vs:=[.agg ⟨[.slice qZ n9.length qY]⟩]) [] (HU mY hO) ?_;rintro v22 L22 Ki;obtain⟨Yw,Vj,aq0⟩:=Ki.form;subst aq0;refine zD 4<|jf [0] L22 (λAH fq gV=>?_);have bel:=Ki.jI gV;obtain⟨blI,blH,blE,blG,aBy,blF,aOP,aOO⟩:=bel;simp only[Value.slice.injEq] at aBy;obtain⟨rfl,_,rfl⟩:=aBy;refine zD 4<|wN<|wN<|iE [1,1,1,0,1,0,0] [] (λ(zz:Nat×Value×Cells×(List Value)×Cells×(List (List ar)))=>[(1,zP b1),(2,zS),(3,zP b3),(4,.slice Yw ((aI S).length) Vj),(5,zI (zz.1:Int))]) (λ(zz:Nat×Value×Cells×(List Value)×Cells×(List (List ar)))=>[zxc b3 304 [zS,.slice ea en ec,zz.2.1],.l zz.2.2.1,.l zz.2.2.2.2.1,.l LE,zxc b1 28 [.slice qZ n9.length qY,.slice fP mf.length eL,.slice fa 0 fc]]) (λ(zz:Nat×Value×Cells×(List Value)×Cells×(List (List ar)))=>(zz.1<=(aI S).length/\zz.2.2.2.1.length=zz.1)/\bJ zz.2.1 1 70 ri zz.2.2.2.1 zz.2.2.1/\(∀bU,Knows bU zz.2.2.2.2.1->kA (λw l=>dq bU w 3 bL l) zz.2.2.2.1 zz.2.2.2.2.2)/\∀l∈zz.2.2.2.2.2,l.length<=100) (λ(zz:Nat×Value×Cells×(List Value)×Cells×(List (List ar)))=>(aI S).length-zz.1) (⟨0,zS,[],[],[],[]⟩) ⟨⟨Nat.zero_le _,rfl⟩,bJ.nil _ _ _,λ_ _=> .nil,nofun⟩ [2,1,0,3,4] ?_;rintro⟨j,vN,LN,nv,Z,ns⟩ hJ K2 mb rest;dsimp only at hJ;refine zD 8<|zJ 26 ((j:Int) <((aI S).length:Int)) (λh4=>?_) λh4=>?_
  ·
   refine jd 9 [0]<|zxt (aI S) j Vj 3 aOP aOO λx33 aRF=>zxo 6 λwA=>jn λb35=>eP wA (zN 1 5)<|zxo 7 λuD=>jn λb36=>eP uD (zN 1 6)<|zxo 8 λCU=>gC (sz:=1) (ps:=nv) (qs:=[(.slice (some ⟨b35,0,none⟩) 1 1:Value)]) (enc:=ri) (w:= .slice (some ⟨b36,0,none⟩) 1 1) [3] [0] [(b36,.cells ⟨([(.slice (some ⟨b35,0,none⟩) 1 1:Value)].map ri).flatten⟩ 70 (0,0))] (hJ.2.1) (λs _ hZ=>de [(.slice (some ⟨b35,0,none⟩) 1 1:Value)] (hZ _ (.head _)) (by intro p hp;rfl)) (by intro p hp;rw[List.mem_singleton] at hp;subst hp;exact aG rfl) (by simp<;>omega) (λv37 L37 aqm=>?_);obtain⟨aDS,aDL,aH4⟩:=aqm.form;subst aH4;refine eE CU []<|zD 1<|zxo 10 λKB=>jd 1 [3]<|kV KB<|zD 3<|zW ((j:Int)+1)<|zD 2<|jg 2 [.l [(b35,.cells ⟨[zI x33.h,zI x33.n,zI x33.l]⟩ 41 (0,0))]]<|zV mb (⟨j+1,(.slice aDS ((nv++[(.slice (some ⟨b35,0,none⟩) 1 1:Value)])).length aDL),L37,(nv++[(.slice (some ⟨b35,0,none⟩) 1 1:Value)]),[(b35,.cells ⟨[zI x33.h,zI x33.n,zI x33.l]⟩ 41 (0,0))]++Z,(ns++[[x33]])⟩) ⟨⟨by dsimp only;omega,by simp only[zM];omega⟩,aqm,λbU hk=>by exact(hJ.2.2.1 bU hk.right).snoc ((show bJ _ 3 41 bL [x33] [(b35,.cells ⟨[zI x33.h,zI x33.n,zI x33.l]⟩ 41 (0,0))] from iZ (b:=b35) (T:=41) [x33] rfl (λ_ _=>rfl)).jI hk.left),λl hl=>by rcases List.mem_append.1 hl with h|h;exact hJ.2.2.2 l h;simp at h;subst h;simp⟩ [[3],[0],[2,4],[5],[6]]
  refine zD 7<|jf [3,1,2] (LE++(LN++Z)) (λbbB hs9 aHN=>?_);have hT8:alr bbB (zS) (.slice ea en ec) vN ⟨[],S,rO⟩ 0:=⟨⟨[],dq.nil _ _ _ _ _,rfl⟩,hP _ (Knows.left aHN),_,ns,hJ.2.1.jI (Knows.left (Knows.right aHN)),(hJ.2.2.1 _ (Knows.right (Knows.right aHN))),by omega,hJ.2.2.2⟩;refine jd 3 [1,0]<|jc (vs:=[.agg ⟨[.slice qZ n9.length qY,.slice fP mf.length eL,.slice fa 0 fc]⟩,.agg ⟨[zS,.slice ea en ec,vN]⟩]) [] ((anM hW (hT0.up (fq.trans hs9)) rfl (Nat.zero_le _) (U2.start hO h3) rfl hT8)) ?_;rintro v41 L41 ⟨afm,akg,aH3⟩;obtain⟨acT,Yu,bgt⟩:=akg.form;subst bgt;refine zD 4<|jf [0] L41 (λbby NA aHL=>?_);have bej:=akg.jI aHL;obtain⟨blD,blC,blz,blB,aBx,blA,aON,aOM⟩:=bej;simp only[Value.slice.injEq] at aBx;obtain⟨rfl,_,rfl⟩:=aBx;refine zD 4<|wN<|iE [1,1,1,1,1,1,0,1,0,0] [] (λ(zz:Nat×Value×Cells×(List Hm))=>[(1,zP b1),(2,zS),(6,zz.2.1),(7,.slice acT afm.length Yu),(8,zI (zz.1:Int))]) (λzz=>[.l zz.2.2.1,zxc b1 28 [.slice qZ n9.length qY,.slice fP mf.length eL,.slice fa 0 fc]]) (λzz=>(zz.1<=afm.length/\zz.2.2.2.length=zz.1)/\bJ zz.2.1 3 304 eTf zz.2.2.2 zz.2.2.1) (λzz=>afm.length-zz.1) (⟨0,zS,[],[]⟩) ⟨⟨Nat.zero_le _,rfl⟩,bJ.nil _ _ _⟩ [0,2] ?_;rintro⟨k,vO,LO,ts⟩ hQ K7 hK7 rest;dsimp only at hQ;have htl:=rE hW;have he4:afm.length=(dt S ways).length:=aH3;refine zD 8<|zJ 45 ((k:Int) <(afm.length:Int)) (λWT=>?_) λWT=>?_
  ·
   refine zD 14<|iE [1,1,1,1,1,1,0,1,0,0,1,0,0,1,0,1,0,0] [K7] (λ(zz:Nat)=>[(1,zP b1),(2,zS),(6,vO),(7,.slice acT afm.length Yu),(8,zI (k:Int)),(9,.bool true),(10,zI 0)]) (λzz=>[.l LO,zxc b1 28 [.slice qZ n9.length qY,.slice fP mf.length eL,.slice fa 0 fc]]) (λzz=>True) (λzz=>zz) 0 trivial [0,1] ?_;rintro z hR K8 hK8 rest;refine jd 20 [1]<|zxt afm k Yu 3 aON aOM λyz aRE=>jn λb83=>zxl eTf b83 (⟨yz.wa,yz.wn,yz.wc,yz.ea,yz.en,yz.ec,yz.ha,yz.hn,yz.hc⟩:Hm) 1 0 (hQ.2) (λaDQ aDJ L84 Qk=>?_) (hb:=by simp only[List.length_cons,List.length_nil];omega);refine zD 4<|zW ((k:Int)+1)<|zD 2<|zY hK7 (⟨k+1,(.slice aDQ ((ts++[(⟨yz.wa,yz.wn,yz.wc,yz.ea,yz.en,yz.ec,yz.ha,yz.hn,yz.hc⟩:Hm)])).length aDJ),L84,(ts++[(⟨yz.wa,yz.wn,yz.wc,yz.ea,yz.en,yz.ec,yz.ha,yz.hn,yz.hc⟩:Hm)])⟩) ⟨⟨by dsimp only;omega,by simp only[zM];omega⟩,Qk⟩ [0,2]
  refine zD 8<|bY q0.a.a.a (vO) [] [0] LO ((fq.trans hs9).trans NA) ⟨_,_,rfl,rfl,ts,hQ.2,by omega⟩
 refine jd 7 [0,0]<|xB [2,9] ⟨λ_ _ KE=>?_,λ_ _ KD=>?_,bW⟩
 ·
  refine jc (vs:=[.agg ⟨[.slice qZ n9.length qY]⟩]) [] (HU mY hO) ?_;rintro v13 L13 NC;obtain⟨ava,au8,aHX⟩:=NC.form;subst aHX;refine eP KE [1]<|xB [7,9] ⟨λ_ _ KC=>?_,λ_ _ QC=>?_,bW⟩
  ·
   refine jc (vs:=[(.slice ava (aI S).length au8),zI (n9.length:Int)]) [0] ((eW.frz λro9 hs9 Qs=>(by have:=adu hO (NC.jI Qs);rwa[<-Oe] at this))) ?_;rintro _ C0 ⟨a18,n18,c18,rfl,ar8⟩;refine eE KC [[1]]<|zD 1<|zxo 9 λarz=>jn λb3=>eP arz [1,2]<|zxo 10 λWM=>jd 1 [0]<|kV WM<|zD 1<|zY cX ⟨a18,n18,c18,C0,b3⟩ ar8 [0,1,2]
  refine jn λb3=>eP QC [1,2]<|zxo 7 λWL=>jc (vs:=[(.slice ava (aI S).length au8),zI (n9.length:Int)]) [1] ((eW.frz λro9 hs9 Qs=>(by have:=adu hO (NC.jI Qs);rwa[<-Oe] at this))) ?_;rintro _ C0 ⟨a18,n18,c18,rfl,ar8⟩;refine eE WL [[2]]<|zD 1<|zxo 10 λary=>jd 1 [1]<|kV ary<|zD 1<|zY cX ⟨a18,n18,c18,C0,b3⟩ ar8 [1,0,2]
 refine jn λb3=>eP KD [1]<|zxo 2 λaeZ=>jc (vs:=[.agg ⟨[.slice qZ n9.length qY]⟩]) [] (HU mY hO) ?_;rintro v13 L13 NC;obtain⟨ava,au8,aHX⟩:=NC.form;subst aHX;refine eP aeZ [1,2]<|zxo 7 λarx=>jc (vs:=[(.slice ava (aI S).length au8),zI (n9.length:Int)]) [0] ((eW.frz λro9 hs9 Qs=>(by have:=adu hO (NC.jI Qs);rwa[<-Oe] at this))) ?_;rintro _ C0 ⟨a18,n18,c18,rfl,ar8⟩;refine eE arx [[2]]<|zD 1<|zxo 10 λarw=>jd 1 [1]<|kV arw<|zD 1<|zY cX ⟨a18,n18,c18,C0,b3⟩ ar8 [1,0,2]
def avQ{fa:Option Addr}{S:List (List ax)}(hS:bH ro vS S)(hO:cg S)(hT:kL ro vT ways)(hW:oB S ways)(h3:(aI S).length<=3):eW zT 161 [.agg ⟨[vS,vT,.slice fa 0 fc]⟩] ro [] (λr Y=>∃ta tc,r= .tuple ⟨[.slice ta (dt S ways).length tc,zI 0]⟩):=by
 have hT0:=hT;have mY:=hS;obtain⟨n9,hs,lu⟩:=hS;obtain⟨qZ,qsb,qso,qY,rfl,qsk,qsh,qsl⟩:=hs;obtain⟨mf,ht,jh⟩:=id hT;obtain⟨fP,we,vZ,eL,rfl,v9,nE,nD⟩:=ht;have Oe:=lu.len;have Ww:=jh.len;have mM:=hO.two;have SQ:=hW.two;have Ni:∀(i:Nat) (p:iy),([]:List iy)[i]?=some p->eK ⟨ro,[]⟩ 0 (0+i*6) 6 (oA p):=λ_ _ h=>tP h;refine zE<|zD 2<|jn λb1=>jd 7 [0]<|zxp [.agg ⟨[.slice qZ n9.length qY,.slice fP mf.length eL,.slice fa 0 fc]⟩] (λhs=>Y5 (mY.up hs) hO (hT0.up hs) hW)<|jd 16 [0]<|jc (vs:=[.agg ⟨[.slice qZ n9.length qY,.slice fP mf.length eL,.slice fa 0 fc]⟩]) [] (bbI mY hO hT0 hW h3) ?_;rintro RS Ao ⟨as5,Kj,mX⟩;obtain⟨nu,nq,akw⟩:=Kj.form;subst akw;have htl:=rE hW;refine zD 4<|jf [0] Ao (λAH fq gV=>?_);have aGy:=Kj.jI gV;obtain⟨blN,blM,blJ,blL,aBz,blK,aOR,aOQ⟩:=aGy;simp only[Value.slice.injEq] at aBz;obtain⟨rfl,_,rfl⟩:=aBz;refine zD 4<|wN<|iE [1,1,1,1,0,1,0,0] [] (λ(zz:Nat×Value×Cells×(List Value))=>[(2,zS),(3,zI 0),(5,zz.2.1),(6,.slice nu as5.length nq),(7,zI (zz.1:Int))]) (λzz=>[.l zz.2.2.1,zxc b1 28 [.slice qZ n9.length qY,.slice fP mf.length eL,.slice fa 0 fc]]) (λzz=>(zz.1<=as5.length/\zz.2.2.2.length=zz.1)/\bJ zz.2.1 1 45 ri zz.2.2.2 zz.2.2.1) (λzz=>as5.length-zz.1) (⟨0,zS,[],[]⟩) ⟨⟨Nat.zero_le _,rfl⟩,bJ.nil _ _ _⟩ [0,1] ?_;rintro⟨k,vO,LO,ts⟩ hQ K1 cX rest;dsimp only at hQ;refine zD 8<|zJ 18 ((k:Int) <(as5.length:Int)) (λh4=>?_) λh4=>?_
 ·
  refine zD 8<|zxs as5 k nq 3 aOR λOB Ik=>zD 1<|jl 0 (aOQ _ _ Ik)<|jn λb27=>gC (sz:=1) (ps:=ts) (qs:=[(.slice OB.wa OB.wn OB.wc:Value)]) (enc:=ri) (w:= .slice (some ⟨b27,0,none⟩) 1 1) [1] [0] [(b27,.cells ⟨([(.slice OB.wa OB.wn OB.wc:Value)].map ri).flatten⟩ 45 (0,0))] (hQ.2) (λs _ hZ=>de [(.slice OB.wa OB.wn OB.wc:Value)] (hZ _ (.head _)) (by intro p hp;rfl)) (by intro p hp;rw[List.mem_singleton] at hp;subst hp;exact aG rfl) (by simp only[List.length_cons,List.length_nil];omega) (λv28 L28 Qm=>?_);obtain⟨amA,amu,aH7⟩:=Qm.form;subst aH7;refine zD 4<|zW ((k:Int)+1)<|zD 2<|zY cX (⟨k+1,(.slice amA ((ts++[(.slice OB.wa OB.wn OB.wc:Value)])).length amu),L28,(ts++[(.slice OB.wa OB.wn OB.wc:Value)])⟩) ⟨⟨by dsimp only;omega,by simp only[zM];omega⟩,Qm⟩ [0,2]
 refine zD 9 ?_;obtain⟨oa,oc,he⟩:=hQ.2.form;exact bY q0.a (.tuple ⟨[vO,zI 0]⟩) [] [] [] fq ⟨_,_,rfl,rfl,oa,oc,by rw[he,show (dt S ways).length=ts.length by omega]⟩
end Go.L
