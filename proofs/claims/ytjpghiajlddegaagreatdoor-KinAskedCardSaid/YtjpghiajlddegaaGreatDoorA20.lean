/- Part 20 of the proof: a program logic, contracts, a theorem on goroutines. -/
import Derived.Test.YtjpghiajlddegaaGreatDoorA19
set_option maxRecDepth 100000
set_option linter.all false
namespace Go.L
open Go Go.Conc Go.Proofs
variable {n:Int} {κ:Type} {z l z1:List Value} {b i j bE sz r dep by1:Nat} {K:aT} {fs:List eR} {ag:Bool}
def TV:List bM:=[⟨(bs [102,111,111,100]),-1⟩,⟨(bs [98,114,101,97,100]),0⟩,⟨(bs [99,108,111,116,104]),-1⟩,⟨(bs [104,97,116,115]),2⟩]
def B4:List cw:=[⟨(bs [98,97,107,101,114]),1,-1,[]⟩,⟨(bs [98,111,110,110,101,116,115]),-1,3,[]⟩,⟨(bs [99,111,110,102,101,99,116,105,111,110,101,114]),0,-1,[0]⟩,⟨(bs [104,97,116,116,101,114]),3,-1,[]⟩,⟨(bs [109,101,114,99,101,114]),2,-1,[3]⟩,⟨(bs [109,105,108,108,105,110,101,114]),-1,1,[]⟩]
def Mw:List aI:=[⟨(bs [115,109,105,116,104]),0,1,0,false⟩,⟨(bs [97,110,110,97]),0,2,3,false⟩,⟨(bs [115,109,121,116,104]),1,1,2,false⟩]
def Mx:List aI:=[⟨(bs [115,109,121,116,104]),0,2,0,false⟩,⟨(bs [115,109,105,116,104]),1,1,-1,false⟩,⟨(bs [98,101,110]),0,1,4,false⟩]
abbrev aY(n:Int):aT where
 ways:=[[⟨1,0,0,0,0,0,0⟩,⟨2,0,0,0,0,0,0⟩]]
 cs:=TV
 hd:=B4
 rules:=[⟨(bs [121]),(bs [105])⟩]
 before:=Mw
 after:=Mx
 gone:=1
 new:=1
 ai:=n
 facts:=[]
 str:=[[⟨1,0⟩,⟨2,0⟩],[⟨1,0⟩]]
abbrev dF(dW fO b9 fA dK dv dt:Nat)(n:Int):List Value:=[.slice (some ⟨dW,0,none⟩) 2 2,.slice (some ⟨fO,0,none⟩) 1 1,zS,.slice (some ⟨b9,0,none⟩) 4 4,.slice (some ⟨fA,0,none⟩) 6 6,.slice (some ⟨dK,0,none⟩) 1 1,.slice (some ⟨dv,0,none⟩) 3 3,.slice (some ⟨dt,0,none⟩) 3 3,zI 1,zI 1,zI n,zS]
abbrev dH(dW mQ mb fO oC b9 fA jH lf dK dv dt:Nat):Cells:=[(dW,.cells ⟨[.slice (some ⟨mQ,0,none⟩) 2 2,.slice (some ⟨mb,0,none⟩) 1 1]⟩ 71 (0,0)),(mQ,.cells ⟨[zI 1,zI 0,zI 2,zI 0]⟩ 70 (0,0)),(mb,.cells ⟨[zI 1,zI 0]⟩ 70 (0,0)),(fO,.cells ⟨[.slice (some ⟨oC,0,none⟩) 2 2]⟩ 78 (0,0)),(oC,.cells ⟨[zI 1,zI 0,zI 0,zI 0,zI 0,zI 0,zI 0,zI 2,zI 0,zI 0,zI 0,zI 0,zI 0,zI 0]⟩ 74 (0,0)),(b9,.cells ⟨[.string (bs [102,111,111,100]),zI (-1),.string (bs [98,114,101,97,100]),zI 0,.string (bs [99,108,111,116,104]),zI (-1),.string (bs [104,97,116,115]),zI 2]⟩ 130 (0,0)),(fA,.cells ⟨[.string (bs [98,97,107,101,114]),zI 1,zI (-1),zS,.string (bs [98,111,110,110,101,116,115]),zI (-1),zI 3,zS,.string (bs [99,111,110,102,101,99,116,105,111,110,101,114]),zI 0,zI (-1),.slice (some ⟨jH,0,none⟩) 1 1,.string (bs [104,97,116,116,101,114]),zI 3,zI (-1),zS,.string (bs [109,101,114,99,101,114]),zI 2,zI (-1),.slice (some ⟨lf,0,none⟩) 1 1,.string (bs [109,105,108,108,105,110,101,114]),zI (-1),zI 1,zS]⟩ 133 (0,0)),(jH,.cells ⟨[zI 0]⟩ 3 (0,0)),(lf,.cells ⟨[zI 3]⟩ 3 (0,0)),(dK,.cells ⟨[.string (bs [121]),.string (bs [105])]⟩ 81 (0,0)),(dv,.cells ⟨[.string (bs [115,109,105,116,104]),zI 0,zI 1,zI 0,.bool false,.string (bs [97,110,110,97]),zI 0,zI 2,zI 3,.bool false,.string (bs [115,109,121,116,104]),zI 1,zI 1,zI 2,.bool false]⟩ 86 (0,0)),(dt,.cells ⟨[.string (bs [115,109,121,116,104]),zI 0,zI 2,zI 0,.bool false,.string (bs [115,109,105,116,104]),zI 1,zI 1,zI (-1),.bool false,.string (bs [98,101,110]),zI 0,zI 1,zI 4,.bool false]⟩ 86 (0,0))]
abbrev agR(jH lf:Nat):List bA:=[⟨(bs [98,97,107,101,114]),1,-1,zS⟩,⟨(bs [98,111,110,110,101,116,115]),-1,3,zS⟩,⟨(bs [99,111,110,102,101,99,116,105,111,110,101,114]),0,-1,.slice (some ⟨jH,0,none⟩) 1 1⟩,⟨(bs [104,97,116,116,101,114]),3,-1,zS⟩,⟨(bs [109,101,114,99,101,114]),2,-1,.slice (some ⟨lf,0,none⟩) 1 1⟩,⟨(bs [109,105,108,108,105,110,101,114]),-1,1,zS⟩]
theorem dN{ro:Nat→Option Obj}{dW mQ mb fO oC b9 fA jH lf dK dv dt:Nat}(hk:Knows ro (dH dW mQ mb fO oC b9 fA jH lf dK dv dt)):gG ro (dF dW fO b9 fA dK dv dt n) (aY n):=
 ⟨_,_,_,_,_,_,_,_,none,0,agR jH lf,rfl,
  ⟨[.slice (some ⟨mQ,0,none⟩) 2 2,.slice (some ⟨mb,0,none⟩) 1 1],cb (enc:=gN) (T:=71) [.slice (some ⟨mQ,0,none⟩) 2 2,.slice (some ⟨mb,0,none⟩) 1 1] (hk _ (.head _)) (fun _ _=>rfl),
   .cons (cb (enc:=cH) (T:=70) [⟨1,0⟩,⟨2,0⟩] (hk _ (.tail _ (.head _))) (fun _ _=>rfl)) (.cons (cb (enc:=cH) (T:=70) [⟨1,0⟩] (hk _ (.tail _ (.tail _ (.head _)))) (fun _ _=>rfl)) .nil)⟩,
  ⟨[.slice (some ⟨oC,0,none⟩) 2 2],cb (enc:=gN) (T:=78) [.slice (some ⟨oC,0,none⟩) 2 2] (hk _ (.tail _ (.tail _ (.tail _ (.head _))))) (fun _ _=>rfl),
   .cons (cb (enc:=kB) (T:=74) [⟨1,0,0,0,0,0,0⟩,⟨2,0,0,0,0,0,0⟩] (hk _ (.tail _ (.tail _ (.tail _ (.tail _ (.head _)))))) (fun _ _=>rfl)) .nil⟩,
  ⟨cb (enc:=oL) (T:=130) TV (hk _ (.tail _ (.tail _ (.tail _ (.tail _ (.tail _ (.head _))))))) (fun _ _=>rfl),cb (enc:=lZ) (T:=133) (agR jH lf) (hk _ (.tail _ (.tail _ (.tail _ (.tail _ (.tail _ (.tail _ (.head _)))))))) (fun _ _=>rfl),
   .cons ⟨rfl,rfl,rfl,bL.nil _ _ _ _ _⟩ (.cons ⟨rfl,rfl,rfl,bL.nil _ _ _ _ _⟩ (.cons ⟨rfl,rfl,rfl,cb (enc:=db) (T:=3) [0] (hk _ (.tail _ (.tail _ (.tail _ (.tail _ (.tail _ (.tail _ (.tail _ (.head _))))))))) (fun _ _=>rfl)⟩ (.cons ⟨rfl,rfl,rfl,bL.nil _ _ _ _ _⟩ (.cons ⟨rfl,rfl,rfl,cb (enc:=db) (T:=3) [3] (hk _ (.tail _ (.tail _ (.tail _ (.tail _ (.tail _ (.tail _ (.tail _ (.tail _ (.head _)))))))))) (fun _ _=>rfl)⟩ (.cons ⟨rfl,rfl,rfl,bL.nil _ _ _ _ _⟩ .nil)))))⟩,
  .cons ⟨rfl,rfl,rfl⟩ (.cons ⟨rfl,rfl,rfl⟩ (.cons ⟨rfl,rfl,rfl⟩ (.cons ⟨rfl,rfl,rfl⟩ (.cons ⟨rfl,rfl,rfl⟩ (.cons ⟨rfl,rfl,rfl⟩ .nil))))),
  cb (enc:=iB) (T:=81) [⟨(bs [121]),(bs [105])⟩] (hk _ (.tail _ (.tail _ (.tail _ (.tail _ (.tail _ (.tail _ (.tail _ (.tail _ (.tail _ (.head _))))))))))) (fun _ _=>rfl),cb (enc:=eJ) (T:=86) Mw (hk _ (.tail _ (.tail _ (.tail _ (.tail _ (.tail _ (.tail _ (.tail _ (.tail _ (.tail _ (.tail _ (.head _)))))))))))) (fun _ _=>rfl),cb (enc:=eJ) (T:=86) Mx (hk _ (.tail _ (.tail _ (.tail _ (.tail _ (.tail _ (.tail _ (.tail _ (.tail _ (.tail _ (.tail _ (.tail _ (.head _))))))))))))) (fun _ _=>rfl),bL.nil _ _ _ _ _⟩
theorem dO(dW fO b9 fA dK dv dt:Nat)(n:Int):Um (aY n) (dF dW fO b9 fA dK dv dt n):=
 ⟨_,_,_,_,_,_,_,_,none,0,rfl,zb rfl rfl rfl rfl rfl rfl rfl rfl⟩
theorem JU{ro:Nat→Option Obj}:eI zT 42 [zI n] ro [] (fun r Y=>∃l,r= .agg ⟨l⟩∧(∀aK,Knows aK Y→gG aK l (aY n))∧Um (aY n) l):=by
 refine bI av [] [] bB<|zD 2<|jn fun b2=>zD 7<|jn fun b9=>jp (vs:=[.string (bs [98,97,107,101,114]),zI 1,zS]) [] [] (fun aE hs hZ=>cIs)<|jp (vs:=[.string (bs [98,111,110,110,101,116,115]),zI 3]) [] [] (fun aE hs hZ=>aFe)<|jn fun jH=>jp (vs:=[.string (bs [99,111,110,102,101,99,116,105,111,110,101,114]),zI 0,.slice (some ⟨jH,0,none⟩) 1 1]) [] [] (fun aE hs hZ=>cIs)<|jp (vs:=[.string (bs [104,97,116,116,101,114]),zI 3,zS]) [] [] (fun aE hs hZ=>cIs)<|jn fun lf=>jp (vs:=[.string (bs [109,101,114,99,101,114]),zI 2,.slice (some ⟨lf,0,none⟩) 1 1]) [] [] (fun aE hs hZ=>cIs)<|jp (vs:=[.string (bs [109,105,108,108,105,110,101,114]),zI 1]) [] [] (fun aE hs hZ=>aFe)<|jn fun fA=>zD 1<|jn fun b3=>jd 6 [0]<|jn fun mQ=>zD 1<|jn fun mb=>jn fun dW=>zD 3<|jn fun oC=>zD 1<|jn fun fO=>zD 1<|jn fun b4=>jd 8 [0,0,6]<|mO [3,4] ⟨fun z1 t2 p7=>?_,fun z4 t5 YL=>?_,trivial⟩
 ·
  refine jn fun dK=>bD p7 [1,2,3,4,5,6,7,8,9,10,11,12]<|jp (vs:=[.string (bs [115,109,105,116,104]),zI 0,zI 1,zI 0]) [] [] (fun aE hs hZ=>j6)<|jp (vs:=[.string (bs [97,110,110,97]),zI 0,zI 2,zI 3]) [] [] (fun aE hs hZ=>j6)<|jp (vs:=[.string (bs [115,109,121,116,104]),zI 1,zI 1,zI 2]) [] [] (fun aE hs hZ=>j6)<|mO [7,8] ⟨fun z7 t8 Tg=>?_,fun z10 t11 BP=>?_,trivial⟩
  ·
   refine jn fun dv=>bD Tg [1,2,3,4,5,6,7,8,9,10,11,12,13]<|jp (vs:=[.string (bs [115,109,121,116,104]),zI 0,zI 2,zI 0]) [] [] (fun aE hs hZ=>j6)<|jp (vs:=[.string (bs [115,109,105,116,104]),zI 1,zI 1,zI (-1)]) [] [] (fun aE hs hZ=>j6)<|jp (vs:=[.string (bs [98,101,110]),zI 0,zI 1,zI 4]) [] [] (fun aE hs hZ=>j6)<|aN 11 fun amt amP LY=>jn fun dt=>bD LY [1,2,3,4,5,6,7,8,9,10,11,12,13,14]<|zD 1<|aN 14 fun awt axn at3=>jd 1 [14]<|dV at3<|zD 2<|aJ q0 (.agg ⟨dF dW fO b9 fA dK dv dt n⟩) [14] [6,8,7,4,5,13,10,12,11,2,1,0] (dH dW mQ mb fO oC b9 fA jH lf dK dv dt) (Sub.refl _) ⟨_,_,rfl,rfl,_,rfl,fun _ hk=>dN hk,dO _ _ _ _ _ _ _ _⟩
  refine jp (vs:=[.string (bs [115,109,121,116,104]),zI 0,zI 2,zI 0]) [] [] (fun aE hs hZ=>j6)<|bD BP [0,1,2,3,4,5,6,7,8,9,10,11,12]<|mO [7,9] ⟨fun z15 t16 Gn=>?_,fun z18 t19 LX=>?_,trivial⟩
  ·
   refine jn fun dv=>bD Gn [1,2,3,4,5,6,7,8,9,10,11,12,13]<|jp (vs:=[.string (bs [115,109,105,116,104]),zI 1,zI 1,zI (-1)]) [] [] (fun aE hs hZ=>j6)<|jp (vs:=[.string (bs [98,101,110]),zI 0,zI 1,zI 4]) [] [] (fun aE hs hZ=>j6)<|aN 11 fun awp axj YM=>jn fun dt=>bD YM [1,2,3,4,5,6,7,8,9,10,11,12,13,14]<|zD 1<|aN 14 fun awo axi afl=>jd 1 [14]<|dV afl<|zD 2<|aJ q0 (.agg ⟨dF dW fO b9 fA dK dv dt n⟩) [14] [6,8,7,4,5,13,10,12,11,2,1,0] (dH dW mQ mb fO oC b9 fA jH lf dK dv dt) (Sub.refl _) ⟨_,_,rfl,rfl,_,rfl,fun _ hk=>dN hk,dO _ _ _ _ _ _ _ _⟩
  refine jp (vs:=[.string (bs [115,109,105,116,104]),zI 1,zI 1,zI (-1)]) [] [] (fun aE hs hZ=>j6)<|bD LX [0,1,2,3,4,5,6,7,8,9,10,11,12]<|mO [7,10] ⟨fun z23 t24 To=>?_,fun z26 t27 Gm=>?_,trivial⟩
  ·
   refine jn fun dv=>bD To [1,2,3,4,5,6,7,8,9,10,11,12,13]<|jp (vs:=[.string (bs [98,101,110]),zI 0,zI 1,zI 4]) [] [] (fun aE hs hZ=>j6)<|aN 11 fun Nm NH Gl=>jn fun dt=>bD Gl [1,2,3,4,5,6,7,8,9,10,11,12,13,14]<|zD 1<|aN 14 fun Uq UB LV=>jd 1 [14]<|dV LV<|zD 2<|aJ q0 (.agg ⟨dF dW fO b9 fA dK dv dt n⟩) [14] [6,8,7,4,5,13,10,12,11,2,1,0] (dH dW mQ mb fO oC b9 fA jH lf dK dv dt) (Sub.refl _) ⟨_,_,rfl,rfl,_,rfl,fun _ hk=>dN hk,dO _ _ _ _ _ _ _ _⟩
  refine jp (vs:=[.string (bs [98,101,110]),zI 0,zI 1,zI 4]) [] [] (fun aE hs hZ=>j6)<|bD Gm [0,1,2,3,4,5,6,7,8,9,10,11,12]<|mO [7,11] ⟨fun z31 t32 afj=>?_,fun z34 t35 LU=>?_,trivial⟩
  ·
   refine jn fun dv=>bD afj [1,2,3,4,5,6,7,8,9,10,11,12,13]<|aN 11 fun aaa aaZ Tn=>jn fun dt=>bD Tn [1,2,3,4,5,6,7,8,9,10,11,12,13,14]<|zD 1<|aN 14 fun amn amK afi=>jd 1 [14]<|dV afi<|zD 2<|aJ q0 (.agg ⟨dF dW fO b9 fA dK dv dt n⟩) [14] [6,8,7,4,5,13,10,12,11,2,1,0] (dH dW mQ mb fO oC b9 fA jH lf dK dv dt) (Sub.refl _) ⟨_,_,rfl,rfl,_,rfl,fun _ hk=>dN hk,dO _ _ _ _ _ _ _ _⟩
  refine jn fun dt=>bD LU [1,2,3,4,5,6,7,8,9,10,11,12,13]<|aN 7 fun amm amJ afh=>jn fun dv=>bD afh [1,2,3,4,5,6,7,8,9,10,11,12,13,14]<|zD 1<|aN 14 fun aml amI afg=>jd 1 [14]<|dV afg<|zD 2<|aJ q0 (.agg ⟨dF dW fO b9 fA dK dv dt n⟩) [14] [6,8,7,4,5,13,10,12,11,2,0,1] (dH dW mQ mb fO oC b9 fA jH lf dK dv dt) (Sub.refl _) ⟨_,_,rfl,rfl,_,rfl,fun _ hk=>dN hk,dO _ _ _ _ _ _ _ _⟩
 refine jp (vs:=[.string (bs [115,109,105,116,104]),zI 0,zI 1,zI 0]) [] [] (fun aE hs hZ=>j6)<|bD YL [0,1,2,3,4,5,6,7,8,9,10,11]<|mO [3,5] ⟨fun z41 t42 aRS=>?_,fun z44 t45 aRQ=>?_,trivial⟩
 ·
  refine jn fun dK=>bD aRS [1,2,3,4,5,6,7,8,9,10,11,12]<|jp (vs:=[.string (bs [97,110,110,97]),zI 0,zI 2,zI 3]) [] [] (fun aE hs hZ=>j6)<|jp (vs:=[.string (bs [115,109,121,116,104]),zI 1,zI 1,zI 2]) [] [] (fun aE hs hZ=>j6)<|mO [7,8] ⟨fun z47 t48 afe=>?_,fun z50 t51 Tm=>?_,trivial⟩
  ·
   refine jn fun dv=>bD afe [1,2,3,4,5,6,7,8,9,10,11,12,13]<|jp (vs:=[.string (bs [115,109,121,116,104]),zI 0,zI 2,zI 0]) [] [] (fun aE hs hZ=>j6)<|jp (vs:=[.string (bs [115,109,105,116,104]),zI 1,zI 1,zI (-1)]) [] [] (fun aE hs hZ=>j6)<|jp (vs:=[.string (bs [98,101,110]),zI 0,zI 1,zI 4]) [] [] (fun aE hs hZ=>j6)<|aN 11 fun Z8 aaY Tl=>jn fun dt=>bD Tl [1,2,3,4,5,6,7,8,9,10,11,12,13,14]<|zD 1<|aN 14 fun Z6 aaX Tk=>jd 1 [14]<|dV Tk<|zD 2<|aJ q0 (.agg ⟨dF dW fO b9 fA dK dv dt n⟩) [14] [6,8,7,4,5,13,10,12,11,2,1,0] (dH dW mQ mb fO oC b9 fA jH lf dK dv dt) (Sub.refl _) ⟨_,_,rfl,rfl,_,rfl,fun _ hk=>dN hk,dO _ _ _ _ _ _ _ _⟩
  refine jp (vs:=[.string (bs [115,109,121,116,104]),zI 0,zI 2,zI 0]) [] [] (fun aE hs hZ=>j6)<|bD Tm [0,1,2,3,4,5,6,7,8,9,10,11,12]<|mO [7,9] ⟨fun z55 t56 Tj=>?_,fun z58 t59 atV=>?_,trivial⟩
  ·
   refine jn fun dv=>bD Tj [1,2,3,4,5,6,7,8,9,10,11,12,13]<|jp (vs:=[.string (bs [115,109,105,116,104]),zI 1,zI 1,zI (-1)]) [] [] (fun aE hs hZ=>j6)<|jp (vs:=[.string (bs [98,101,110]),zI 0,zI 1,zI 4]) [] [] (fun aE hs hZ=>j6)<|aN 11 fun awd aw7 atU=>jn fun dt=>bD atU [1,2,3,4,5,6,7,8,9,10,11,12,13,14]<|zD 1<|aN 14 fun awc aw6 atT=>jd 1 [14]<|dV atT<|zD 2<|aJ q0 (.agg ⟨dF dW fO b9 fA dK dv dt n⟩) [14] [6,8,7,4,5,13,10,12,11,2,1,0] (dH dW mQ mb fO oC b9 fA jH lf dK dv dt) (Sub.refl _) ⟨_,_,rfl,rfl,_,rfl,fun _ hk=>dN hk,dO _ _ _ _ _ _ _ _⟩
  refine jp (vs:=[.string (bs [115,109,105,116,104]),zI 1,zI 1,zI (-1)]) [] [] (fun aE hs hZ=>j6)<|bD atV [0,1,2,3,4,5,6,7,8,9,10,11,12]<|mO [7,10] ⟨fun z63 t64 atS=>?_,fun z66 t67 aRJ=>?_,trivial⟩
  ·
   refine jn fun dv=>bD atS [1,2,3,4,5,6,7,8,9,10,11,12,13]<|jp (vs:=[.string (bs [98,101,110]),zI 0,zI 1,zI 4]) [] [] (fun aE hs hZ=>j6)<|aN 11 fun aUm aUX aRI=>jn fun dt=>bD aRI [1,2,3,4,5,6,7,8,9,10,11,12,13,14]<|zD 1<|aN 14 fun aUl aUW aRH=>jd 1 [14]<|dV aRH<|zD 2<|aJ q0 (.agg ⟨dF dW fO b9 fA dK dv dt n⟩) [14] [6,8,7,4,5,13,10,12,11,2,1,0] (dH dW mQ mb fO oC b9 fA jH lf dK dv dt) (Sub.refl _) ⟨_,_,rfl,rfl,_,rfl,fun _ hk=>dN hk,dO _ _ _ _ _ _ _ _⟩
  refine jp (vs:=[.string (bs [98,101,110]),zI 0,zI 1,zI 4]) [] [] (fun aE hs hZ=>j6)<|bD aRJ [0,1,2,3,4,5,6,7,8,9,10,11,12]<|mO [7,11] ⟨fun z71 t72 aRG=>?_,fun z74 t75 aRF=>?_,trivial⟩
  ·
   refine jn fun dv=>bD aRG [1,2,3,4,5,6,7,8,9,10,11,12,13]<|aN 11 fun aUk aUV aRE=>jn fun dt=>bD aRE [1,2,3,4,5,6,7,8,9,10,11,12,13,14]<|zD 1<|aN 14 fun aUj aUU aRD=>jd 1 [14]<|dV aRD<|zD 2<|aJ q0 (.agg ⟨dF dW fO b9 fA dK dv dt n⟩) [14] [6,8,7,4,5,13,10,12,11,2,1,0] (dH dW mQ mb fO oC b9 fA jH lf dK dv dt) (Sub.refl _) ⟨_,_,rfl,rfl,_,rfl,fun _ hk=>dN hk,dO _ _ _ _ _ _ _ _⟩
  refine jn fun dt=>bD aRF [1,2,3,4,5,6,7,8,9,10,11,12,13]<|aN 7 fun aUi aUT aRC=>jn fun dv=>bD aRC [1,2,3,4,5,6,7,8,9,10,11,12,13,14]<|zD 1<|aN 14 fun aUh aUS aRB=>jd 1 [14]<|dV aRB<|zD 2<|aJ q0 (.agg ⟨dF dW fO b9 fA dK dv dt n⟩) [14] [6,8,7,4,5,13,10,12,11,2,0,1] (dH dW mQ mb fO oC b9 fA jH lf dK dv dt) (Sub.refl _) ⟨_,_,rfl,rfl,_,rfl,fun _ hk=>dN hk,dO _ _ _ _ _ _ _ _⟩
 refine jp (vs:=[.string (bs [97,110,110,97]),zI 0,zI 2,zI 3]) [] [] (fun aE hs hZ=>j6)<|bD aRQ [0,1,2,3,4,5,6,7,8,9,10,11]<|mO [3,6] ⟨fun z81 t82 aRA=>?_,fun z84 t85 aRz=>?_,trivial⟩
 ·
  refine jn fun dK=>bD aRA [1,2,3,4,5,6,7,8,9,10,11,12]<|jp (vs:=[.string (bs [115,109,121,116,104]),zI 1,zI 1,zI 2]) [] [] (fun aE hs hZ=>j6)<|mO [7,8] ⟨fun z87 t88 aRy=>?_,fun z90 t91 aRx=>?_,trivial⟩
  ·
   refine jn fun dv=>bD aRy [1,2,3,4,5,6,7,8,9,10,11,12,13]<|jp (vs:=[.string (bs [115,109,121,116,104]),zI 0,zI 2,zI 0]) [] [] (fun aE hs hZ=>j6)<|jp (vs:=[.string (bs [115,109,105,116,104]),zI 1,zI 1,zI (-1)]) [] [] (fun aE hs hZ=>j6)<|jp (vs:=[.string (bs [98,101,110]),zI 0,zI 1,zI 4]) [] [] (fun aE hs hZ=>j6)<|aN 11 fun aUg aUR aRw=>jn fun dt=>bD aRw [1,2,3,4,5,6,7,8,9,10,11,12,13,14]<|zD 1<|aN 14 fun aUf aUQ aRv=>jd 1 [14]<|dV aRv<|zD 2<|aJ q0 (.agg ⟨dF dW fO b9 fA dK dv dt n⟩) [14] [6,8,7,4,5,13,10,12,11,2,1,0] (dH dW mQ mb fO oC b9 fA jH lf dK dv dt) (Sub.refl _) ⟨_,_,rfl,rfl,_,rfl,fun _ hk=>dN hk,dO _ _ _ _ _ _ _ _⟩
  refine jp (vs:=[.string (bs [115,109,121,116,104]),zI 0,zI 2,zI 0]) [] [] (fun aE hs hZ=>j6)<|bD aRx [0,1,2,3,4,5,6,7,8,9,10,11,12]<|mO [7,9] ⟨fun z95 t96 aRu=>?_,fun z98 t99 aD0=>?_,trivial⟩
  ·
   refine jn fun dv=>bD aRu [1,2,3,4,5,6,7,8,9,10,11,12,13]<|jp (vs:=[.string (bs [115,109,105,116,104]),zI 1,zI 1,zI (-1)]) [] [] (fun aE hs hZ=>j6)<|jp (vs:=[.string (bs [98,101,110]),zI 0,zI 1,zI 4]) [] [] (fun aE hs hZ=>j6)<|aN 11 fun aI3 aLp aDZ=>jn fun dt=>bD aDZ [1,2,3,4,5,6,7,8,9,10,11,12,13,14]<|zD 1<|aN 14 fun aI2 aLo aDY=>jd 1 [14]<|dV aDY<|zD 2<|aJ q0 (.agg ⟨dF dW fO b9 fA dK dv dt n⟩) [14] [6,8,7,4,5,13,10,12,11,2,1,0] (dH dW mQ mb fO oC b9 fA jH lf dK dv dt) (Sub.refl _) ⟨_,_,rfl,rfl,_,rfl,fun _ hk=>dN hk,dO _ _ _ _ _ _ _ _⟩
  refine jp (vs:=[.string (bs [115,109,105,116,104]),zI 1,zI 1,zI (-1)]) [] [] (fun aE hs hZ=>j6)<|bD aD0 [0,1,2,3,4,5,6,7,8,9,10,11,12]<|mO [7,10] ⟨fun aY2 t104 aDX=>?_,fun aY1 t107 aDW=>?_,trivial⟩
  ·
   refine jn fun dv=>bD aDX [1,2,3,4,5,6,7,8,9,10,11,12,13]<|jp (vs:=[.string (bs [98,101,110]),zI 0,zI 1,zI 4]) [] [] (fun aE hs hZ=>j6)<|aN 11 fun aI1 aLn aDV=>jn fun dt=>bD aDV [1,2,3,4,5,6,7,8,9,10,11,12,13,14]<|zD 1<|aN 14 fun aI0 aLm aDU=>jd 1 [14]<|dV aDU<|zD 2<|aJ q0 (.agg ⟨dF dW fO b9 fA dK dv dt n⟩) [14] [6,8,7,4,5,13,10,12,11,2,1,0] (dH dW mQ mb fO oC b9 fA jH lf dK dv dt) (Sub.refl _) ⟨_,_,rfl,rfl,_,rfl,fun _ hk=>dN hk,dO _ _ _ _ _ _ _ _⟩
  refine jp (vs:=[.string (bs [98,101,110]),zI 0,zI 1,zI 4]) [] [] (fun aE hs hZ=>j6)<|bD aDW [0,1,2,3,4,5,6,7,8,9,10,11,12]<|mO [7,11] ⟨fun aYZ t112 aDT=>?_,fun aYY t115 aDS=>?_,trivial⟩
  ·
   refine jn fun dv=>bD aDT [1,2,3,4,5,6,7,8,9,10,11,12,13]<|aN 11 fun aIZ aLl aDR=>jn fun dt=>bD aDR [1,2,3,4,5,6,7,8,9,10,11,12,13,14]<|zD 1<|aN 14 fun aIY aLk aDQ=>jd 1 [14]<|dV aDQ<|zD 2<|aJ q0 (.agg ⟨dF dW fO b9 fA dK dv dt n⟩) [14] [6,8,7,4,5,13,10,12,11,2,1,0] (dH dW mQ mb fO oC b9 fA jH lf dK dv dt) (Sub.refl _) ⟨_,_,rfl,rfl,_,rfl,fun _ hk=>dN hk,dO _ _ _ _ _ _ _ _⟩
  refine jn fun dt=>bD aDS [1,2,3,4,5,6,7,8,9,10,11,12,13]<|aN 7 fun aIX aLj aDP=>jn fun dv=>bD aDP [1,2,3,4,5,6,7,8,9,10,11,12,13,14]<|zD 1<|aN 14 fun aIW aLi aDO=>jd 1 [14]<|dV aDO<|zD 2<|aJ q0 (.agg ⟨dF dW fO b9 fA dK dv dt n⟩) [14] [6,8,7,4,5,13,10,12,11,2,0,1] (dH dW mQ mb fO oC b9 fA jH lf dK dv dt) (Sub.refl _) ⟨_,_,rfl,rfl,_,rfl,fun _ hk=>dN hk,dO _ _ _ _ _ _ _ _⟩
 refine jp (vs:=[.string (bs [115,109,121,116,104]),zI 1,zI 1,zI 2]) [] [] (fun aE hs hZ=>j6)<|bD aRz [0,1,2,3,4,5,6,7,8,9,10,11]<|mO [3,7,8] ⟨fun aYW t122 aDN=>?_,fun aYV t125 aDM=>?_,fun aYU t128 aDL=>?_,trivial⟩
 ·
  refine jn fun dK=>bD aDN [1,2,3,4,5,6,7,8,9,10,11,12]<|mO [7,8] ⟨fun aYT t131 aDK=>?_,fun aYS t134 aDJ=>?_,trivial⟩
  ·
   refine jn fun dv=>bD aDK [1,2,3,4,5,6,7,8,9,10,11,12,13]<|jp (vs:=[.string (bs [115,109,121,116,104]),zI 0,zI 2,zI 0]) [] [] (fun aE hs hZ=>j6)<|jp (vs:=[.string (bs [115,109,105,116,104]),zI 1,zI 1,zI (-1)]) [] [] (fun aE hs hZ=>j6)<|jp (vs:=[.string (bs [98,101,110]),zI 0,zI 1,zI 4]) [] [] (fun aE hs hZ=>j6)<|aN 11 fun aIV aLh aDI=>jn fun dt=>bD aDI [1,2,3,4,5,6,7,8,9,10,11,12,13,14]<|zD 1<|aN 14 fun aIU aLg aDH=>jd 1 [14]<|dV aDH<|zD 2<|aJ q0 (.agg ⟨dF dW fO b9 fA dK dv dt n⟩) [14] [6,8,7,4,5,13,10,12,11,2,1,0] (dH dW mQ mb fO oC b9 fA jH lf dK dv dt) (Sub.refl _) ⟨_,_,rfl,rfl,_,rfl,fun _ hk=>dN hk,dO _ _ _ _ _ _ _ _⟩
  refine jp (vs:=[.string (bs [115,109,121,116,104]),zI 0,zI 2,zI 0]) [] [] (fun aE hs hZ=>j6)<|bD aDJ [0,1,2,3,4,5,6,7,8,9,10,11,12]<|mO [7,9] ⟨fun aYR t139 aDG=>?_,fun aYQ t142 aDF=>?_,trivial⟩
  ·
   refine jn fun dv=>bD aDG [1,2,3,4,5,6,7,8,9,10,11,12,13]<|jp (vs:=[.string (bs [115,109,105,116,104]),zI 1,zI 1,zI (-1)]) [] [] (fun aE hs hZ=>j6)<|jp (vs:=[.string (bs [98,101,110]),zI 0,zI 1,zI 4]) [] [] (fun aE hs hZ=>j6)<|aN 11 fun aIT aLf aDE=>jn fun dt=>bD aDE [1,2,3,4,5,6,7,8,9,10,11,12,13,14]<|zD 1<|aN 14 fun aIS aLe aDD=>jd 1 [14]<|dV aDD<|zD 2<|aJ q0 (.agg ⟨dF dW fO b9 fA dK dv dt n⟩) [14] [6,8,7,4,5,13,10,12,11,2,1,0] (dH dW mQ mb fO oC b9 fA jH lf dK dv dt) (Sub.refl _) ⟨_,_,rfl,rfl,_,rfl,fun _ hk=>dN hk,dO _ _ _ _ _ _ _ _⟩
  refine jp (vs:=[.string (bs [115,109,105,116,104]),zI 1,zI 1,zI (-1)]) [] [] (fun aE hs hZ=>j6)<|bD aDF [0,1,2,3,4,5,6,7,8,9,10,11,12]<|mO [7,10] ⟨fun aYP t147 aDC=>?_,fun aYO t150 aDB=>?_,trivial⟩
  ·
   refine jn fun dv=>bD aDC [1,2,3,4,5,6,7,8,9,10,11,12,13]<|jp (vs:=[.string (bs [98,101,110]),zI 0,zI 1,zI 4]) [] [] (fun aE hs hZ=>j6)<|aN 11 fun aIR aLd aDA=>jn fun dt=>bD aDA [1,2,3,4,5,6,7,8,9,10,11,12,13,14]<|zD 1<|aN 14 fun aIQ aLc aDz=>jd 1 [14]<|dV aDz<|zD 2<|aJ q0 (.agg ⟨dF dW fO b9 fA dK dv dt n⟩) [14] [6,8,7,4,5,13,10,12,11,2,1,0] (dH dW mQ mb fO oC b9 fA jH lf dK dv dt) (Sub.refl _) ⟨_,_,rfl,rfl,_,rfl,fun _ hk=>dN hk,dO _ _ _ _ _ _ _ _⟩
  refine jp (vs:=[.string (bs [98,101,110]),zI 0,zI 1,zI 4]) [] [] (fun aE hs hZ=>j6)<|bD aDB [0,1,2,3,4,5,6,7,8,9,10,11,12]<|mO [7,11] ⟨fun aYN t155 aDy=>?_,fun aYM t158 aDx=>?_,trivial⟩
  ·
   refine jn fun dv=>bD aDy [1,2,3,4,5,6,7,8,9,10,11,12,13]<|aN 11 fun aIP aLb aDw=>jn fun dt=>bD aDw [1,2,3,4,5,6,7,8,9,10,11,12,13,14]<|zD 1<|aN 14 fun aIO aLa aDv=>jd 1 [14]<|dV aDv<|zD 2<|aJ q0 (.agg ⟨dF dW fO b9 fA dK dv dt n⟩) [14] [6,8,7,4,5,13,10,12,11,2,1,0] (dH dW mQ mb fO oC b9 fA jH lf dK dv dt) (Sub.refl _) ⟨_,_,rfl,rfl,_,rfl,fun _ hk=>dN hk,dO _ _ _ _ _ _ _ _⟩
  refine jn fun dt=>bD aDx [1,2,3,4,5,6,7,8,9,10,11,12,13]<|aN 7 fun aIN aK9 aDu=>jn fun dv=>bD aDu [1,2,3,4,5,6,7,8,9,10,11,12,13,14]<|zD 1<|aN 14 fun aIM aK8 aDt=>jd 1 [14]<|dV aDt<|zD 2<|aJ q0 (.agg ⟨dF dW fO b9 fA dK dv dt n⟩) [14] [6,8,7,4,5,13,10,12,11,2,0,1] (dH dW mQ mb fO oC b9 fA jH lf dK dv dt) (Sub.refl _) ⟨_,_,rfl,rfl,_,rfl,fun _ hk=>dN hk,dO _ _ _ _ _ _ _ _⟩
 ·
  refine jn fun dv=>bD aDM [1,2,3,4,5,6,7,8,9,10,11,12]<|mO [3,8] ⟨fun aYL t165 aDs=>?_,fun aYK t168 aDr=>?_,trivial⟩
  ·
   refine jn fun dK=>bD aDs [1,2,3,4,5,6,7,8,9,10,11,12,13]<|jp (vs:=[.string (bs [115,109,121,116,104]),zI 0,zI 2,zI 0]) [] [] (fun aE hs hZ=>j6)<|jp (vs:=[.string (bs [115,109,105,116,104]),zI 1,zI 1,zI (-1)]) [] [] (fun aE hs hZ=>j6)<|jp (vs:=[.string (bs [98,101,110]),zI 0,zI 1,zI 4]) [] [] (fun aE hs hZ=>j6)<|aN 11 fun aIL aK7 aDq=>jn fun dt=>bD aDq [1,2,3,4,5,6,7,8,9,10,11,12,13,14]<|zD 1<|aN 14 fun aIK aK6 aDp=>jd 1 [14]<|dV aDp<|zD 2<|aJ q0 (.agg ⟨dF dW fO b9 fA dK dv dt n⟩) [14] [6,8,7,4,5,13,10,12,11,1,2,0] (dH dW mQ mb fO oC b9 fA jH lf dK dv dt) (Sub.refl _) ⟨_,_,rfl,rfl,_,rfl,fun _ hk=>dN hk,dO _ _ _ _ _ _ _ _⟩
  refine jp (vs:=[.string (bs [115,109,121,116,104]),zI 0,zI 2,zI 0]) [] [] (fun aE hs hZ=>j6)<|bD aDr [0,1,2,3,4,5,6,7,8,9,10,11,12]<|mO [3,9] ⟨fun aYJ t173 aDo=>?_,fun aYI t176 aDn=>?_,trivial⟩
  ·
   refine jn fun dK=>bD aDo [1,2,3,4,5,6,7,8,9,10,11,12,13]<|jp (vs:=[.string (bs [115,109,105,116,104]),zI 1,zI 1,zI (-1)]) [] [] (fun aE hs hZ=>j6)<|jp (vs:=[.string (bs [98,101,110]),zI 0,zI 1,zI 4]) [] [] (fun aE hs hZ=>j6)<|aN 11 fun aIJ aK5 aDm=>jn fun dt=>bD aDm [1,2,3,4,5,6,7,8,9,10,11,12,13,14]<|zD 1<|aN 14 fun aII aK4 aDl=>jd 1 [14]<|dV aDl<|zD 2<|aJ q0 (.agg ⟨dF dW fO b9 fA dK dv dt n⟩) [14] [6,8,7,4,5,13,10,12,11,1,2,0] (dH dW mQ mb fO oC b9 fA jH lf dK dv dt) (Sub.refl _) ⟨_,_,rfl,rfl,_,rfl,fun _ hk=>dN hk,dO _ _ _ _ _ _ _ _⟩
  refine jp (vs:=[.string (bs [115,109,105,116,104]),zI 1,zI 1,zI (-1)]) [] [] (fun aE hs hZ=>j6)<|bD aDn [0,1,2,3,4,5,6,7,8,9,10,11,12]<|mO [3,10] ⟨fun aYH t181 aDk=>?_,fun aYG t184 aDj=>?_,trivial⟩
  ·
   refine jn fun dK=>bD aDk [1,2,3,4,5,6,7,8,9,10,11,12,13]<|jp (vs:=[.string (bs [98,101,110]),zI 0,zI 1,zI 4]) [] [] (fun aE hs hZ=>j6)<|aN 11 fun aIH aK3 aDi=>jn fun dt=>bD aDi [1,2,3,4,5,6,7,8,9,10,11,12,13,14]<|zD 1<|aN 14 fun aIG aK2 aDh=>jd 1 [14]<|dV aDh<|zD 2<|aJ q0 (.agg ⟨dF dW fO b9 fA dK dv dt n⟩) [14] [6,8,7,4,5,13,10,12,11,1,2,0] (dH dW mQ mb fO oC b9 fA jH lf dK dv dt) (Sub.refl _) ⟨_,_,rfl,rfl,_,rfl,fun _ hk=>dN hk,dO _ _ _ _ _ _ _ _⟩
  refine jp (vs:=[.string (bs [98,101,110]),zI 0,zI 1,zI 4]) [] [] (fun aE hs hZ=>j6)<|bD aDj [0,1,2,3,4,5,6,7,8,9,10,11,12]<|mO [3,11] ⟨fun aYF t189 aDg=>?_,fun aYE t192 aDf=>?_,trivial⟩
  ·
   refine jn fun dK=>bD aDg [1,2,3,4,5,6,7,8,9,10,11,12,13]<|aN 11 fun aIF aK1 aDe=>jn fun dt=>bD aDe [1,2,3,4,5,6,7,8,9,10,11,12,13,14]<|zD 1<|aN 14 fun aIE aK0 aDd=>jd 1 [14]<|dV aDd<|zD 2<|aJ q0 (.agg ⟨dF dW fO b9 fA dK dv dt n⟩) [14] [6,8,7,4,5,13,10,12,11,1,2,0] (dH dW mQ mb fO oC b9 fA jH lf dK dv dt) (Sub.refl _) ⟨_,_,rfl,rfl,_,rfl,fun _ hk=>dN hk,dO _ _ _ _ _ _ _ _⟩
  refine jn fun dt=>bD aDf [1,2,3,4,5,6,7,8,9,10,11,12,13]<|aN 3 fun aID aKZ aDc=>jn fun dK=>bD aDc [1,2,3,4,5,6,7,8,9,10,11,12,13,14]<|zD 1<|aN 14 fun aIC aKY aDb=>jd 1 [14]<|dV aDb<|zD 2<|aJ q0 (.agg ⟨dF dW fO b9 fA dK dv dt n⟩) [14] [6,8,7,4,5,13,10,12,11,0,2,1] (dH dW mQ mb fO oC b9 fA jH lf dK dv dt) (Sub.refl _) ⟨_,_,rfl,rfl,_,rfl,fun _ hk=>dN hk,dO _ _ _ _ _ _ _ _⟩
 refine jp (vs:=[.string (bs [115,109,121,116,104]),zI 0,zI 2,zI 0]) [] [] (fun aE hs hZ=>j6)<|bD aDL [0,1,2,3,4,5,6,7,8,9,10,11]<|mO [3,7,9] ⟨fun aYD t199 aDa=>?_,fun aYC t202 aC9=>?_,fun aYB t205 aC8=>?_,trivial⟩
 ·
  refine jn fun dK=>bD aDa [1,2,3,4,5,6,7,8,9,10,11,12]<|mO [7,9] ⟨fun aYA t208 aC7=>?_,fun aYy t211 aC6=>?_,trivial⟩
  ·
   refine jn fun dv=>bD aC7 [1,2,3,4,5,6,7,8,9,10,11,12,13]<|jp (vs:=[.string (bs [115,109,105,116,104]),zI 1,zI 1,zI (-1)]) [] [] (fun aE hs hZ=>j6)<|jp (vs:=[.string (bs [98,101,110]),zI 0,zI 1,zI 4]) [] [] (fun aE hs hZ=>j6)<|aN 11 fun aIB aKX aC5=>jn fun dt=>bD aC5 [1,2,3,4,5,6,7,8,9,10,11,12,13,14]<|zD 1<|aN 14 fun aIA aKW aC4=>jd 1 [14]<|dV aC4<|zD 2<|aJ q0 (.agg ⟨dF dW fO b9 fA dK dv dt n⟩) [14] [6,8,7,4,5,13,10,12,11,2,1,0] (dH dW mQ mb fO oC b9 fA jH lf dK dv dt) (Sub.refl _) ⟨_,_,rfl,rfl,_,rfl,fun _ hk=>dN hk,dO _ _ _ _ _ _ _ _⟩
  refine jp (vs:=[.string (bs [115,109,105,116,104]),zI 1,zI 1,zI (-1)]) [] [] (fun aE hs hZ=>j6)<|bD aC6 [0,1,2,3,4,5,6,7,8,9,10,11,12]<|mO [7,10] ⟨fun aYx t216 aC3=>?_,fun aYw t219 aC2=>?_,trivial⟩
  ·
   refine jn fun dv=>bD aC3 [1,2,3,4,5,6,7,8,9,10,11,12,13]<|jp (vs:=[.string (bs [98,101,110]),zI 0,zI 1,zI 4]) [] [] (fun aE hs hZ=>j6)<|aN 11 fun aIz aKV aC1=>jn fun dt=>bD aC1 [1,2,3,4,5,6,7,8,9,10,11,12,13,14]<|zD 1<|aN 14 fun aIy aKU aC0=>jd 1 [14]<|dV aC0<|zD 2<|aJ q0 (.agg ⟨dF dW fO b9 fA dK dv dt n⟩) [14] [6,8,7,4,5,13,10,12,11,2,1,0] (dH dW mQ mb fO oC b9 fA jH lf dK dv dt) (Sub.refl _) ⟨_,_,rfl,rfl,_,rfl,fun _ hk=>dN hk,dO _ _ _ _ _ _ _ _⟩
  refine jp (vs:=[.string (bs [98,101,110]),zI 0,zI 1,zI 4]) [] [] (fun aE hs hZ=>j6)<|bD aC2 [0,1,2,3,4,5,6,7,8,9,10,11,12]<|mO [7,11] ⟨fun aYv t224 aCZ=>?_,fun aYu t227 aCY=>?_,trivial⟩
  ·
   refine jn fun dv=>bD aCZ [1,2,3,4,5,6,7,8,9,10,11,12,13]<|aN 11 fun aIx aKT aCX=>jn fun dt=>bD aCX [1,2,3,4,5,6,7,8,9,10,11,12,13,14]<|zD 1<|aN 14 fun aIw aKS aCW=>jd 1 [14]<|dV aCW<|zD 2<|aJ q0 (.agg ⟨dF dW fO b9 fA dK dv dt n⟩) [14] [6,8,7,4,5,13,10,12,11,2,1,0] (dH dW mQ mb fO oC b9 fA jH lf dK dv dt) (Sub.refl _) ⟨_,_,rfl,rfl,_,rfl,fun _ hk=>dN hk,dO _ _ _ _ _ _ _ _⟩
  refine jn fun dt=>bD aCY [1,2,3,4,5,6,7,8,9,10,11,12,13]<|aN 7 fun aIv aKR aCV=>jn fun dv=>bD aCV [1,2,3,4,5,6,7,8,9,10,11,12,13,14]<|zD 1<|aN 14 fun aIu aKQ aCU=>jd 1 [14]<|dV aCU<|zD 2<|aJ q0 (.agg ⟨dF dW fO b9 fA dK dv dt n⟩) [14] [6,8,7,4,5,13,10,12,11,2,0,1] (dH dW mQ mb fO oC b9 fA jH lf dK dv dt) (Sub.refl _) ⟨_,_,rfl,rfl,_,rfl,fun _ hk=>dN hk,dO _ _ _ _ _ _ _ _⟩
 ·
  refine jn fun dv=>bD aC9 [1,2,3,4,5,6,7,8,9,10,11,12]<|mO [3,9] ⟨fun aYs t234 aCT=>?_,fun aYr t237 aCS=>?_,trivial⟩
  ·
   refine jn fun dK=>bD aCT [1,2,3,4,5,6,7,8,9,10,11,12,13]<|jp (vs:=[.string (bs [115,109,105,116,104]),zI 1,zI 1,zI (-1)]) [] [] (fun aE hs hZ=>j6)<|jp (vs:=[.string (bs [98,101,110]),zI 0,zI 1,zI 4]) [] [] (fun aE hs hZ=>j6)<|aN 11 fun aIt aKP aCR=>jn fun dt=>bD aCR [1,2,3,4,5,6,7,8,9,10,11,12,13,14]<|zD 1<|aN 14 fun aIs aKO aCQ=>jd 1 [14]<|dV aCQ<|zD 2<|aJ q0 (.agg ⟨dF dW fO b9 fA dK dv dt n⟩) [14] [6,8,7,4,5,13,10,12,11,1,2,0] (dH dW mQ mb fO oC b9 fA jH lf dK dv dt) (Sub.refl _) ⟨_,_,rfl,rfl,_,rfl,fun _ hk=>dN hk,dO _ _ _ _ _ _ _ _⟩
  refine jp (vs:=[.string (bs [115,109,105,116,104]),zI 1,zI 1,zI (-1)]) [] [] (fun aE hs hZ=>j6)<|bD aCS [0,1,2,3,4,5,6,7,8,9,10,11,12]<|mO [3,10] ⟨fun aYp t242 aCP=>?_,fun aYo t245 aCO=>?_,trivial⟩
  ·
   refine jn fun dK=>bD aCP [1,2,3,4,5,6,7,8,9,10,11,12,13]<|jp (vs:=[.string (bs [98,101,110]),zI 0,zI 1,zI 4]) [] [] (fun aE hs hZ=>j6)<|aN 11 fun aIr aKN aCN=>jn fun dt=>bD aCN [1,2,3,4,5,6,7,8,9,10,11,12,13,14]<|zD 1<|aN 14 fun aIq aKM aCM=>jd 1 [14]<|dV aCM<|zD 2<|aJ q0 (.agg ⟨dF dW fO b9 fA dK dv dt n⟩) [14] [6,8,7,4,5,13,10,12,11,1,2,0] (dH dW mQ mb fO oC b9 fA jH lf dK dv dt) (Sub.refl _) ⟨_,_,rfl,rfl,_,rfl,fun _ hk=>dN hk,dO _ _ _ _ _ _ _ _⟩
  refine jp (vs:=[.string (bs [98,101,110]),zI 0,zI 1,zI 4]) [] [] (fun aE hs hZ=>j6)<|bD aCO [0,1,2,3,4,5,6,7,8,9,10,11,12]<|mO [3,11] ⟨fun aYn t250 aCL=>?_,fun aYm t253 aCK=>?_,trivial⟩
  ·
   refine jn fun dK=>bD aCL [1,2,3,4,5,6,7,8,9,10,11,12,13]<|aN 11 fun aIp aKL aCJ=>jn fun dt=>bD aCJ [1,2,3,4,5,6,7,8,9,10,11,12,13,14]<|zD 1<|aN 14 fun aIo aKK aCI=>jd 1 [14]<|dV aCI<|zD 2<|aJ q0 (.agg ⟨dF dW fO b9 fA dK dv dt n⟩) [14] [6,8,7,4,5,13,10,12,11,1,2,0] (dH dW mQ mb fO oC b9 fA jH lf dK dv dt) (Sub.refl _) ⟨_,_,rfl,rfl,_,rfl,fun _ hk=>dN hk,dO _ _ _ _ _ _ _ _⟩
  refine jn fun dt=>bD aCK [1,2,3,4,5,6,7,8,9,10,11,12,13]<|aN 3 fun aIn aKJ aCH=>jn fun dK=>bD aCH [1,2,3,4,5,6,7,8,9,10,11,12,13,14]<|zD 1<|aN 14 fun aIm aKI aCG=>jd 1 [14]<|dV aCG<|zD 2<|aJ q0 (.agg ⟨dF dW fO b9 fA dK dv dt n⟩) [14] [6,8,7,4,5,13,10,12,11,0,2,1] (dH dW mQ mb fO oC b9 fA jH lf dK dv dt) (Sub.refl _) ⟨_,_,rfl,rfl,_,rfl,fun _ hk=>dN hk,dO _ _ _ _ _ _ _ _⟩
 refine jp (vs:=[.string (bs [115,109,105,116,104]),zI 1,zI 1,zI (-1)]) [] [] (fun aE hs hZ=>j6)<|bD aC8 [0,1,2,3,4,5,6,7,8,9,10,11]<|mO [3,7,10] ⟨fun aYl t260 aCF=>?_,fun aYk t263 aCE=>?_,fun aYj t266 aCD=>?_,trivial⟩
 ·
  refine jn fun dK=>bD aCF [1,2,3,4,5,6,7,8,9,10,11,12]<|mO [7,10] ⟨fun aYi t269 aCC=>?_,fun aYh t272 aCB=>?_,trivial⟩
  ·
   refine jn fun dv=>bD aCC [1,2,3,4,5,6,7,8,9,10,11,12,13]<|jp (vs:=[.string (bs [98,101,110]),zI 0,zI 1,zI 4]) [] [] (fun aE hs hZ=>j6)<|aN 11 fun aIl aKH aCA=>jn fun dt=>bD aCA [1,2,3,4,5,6,7,8,9,10,11,12,13,14]<|zD 1<|aN 14 fun aIk aKG aCz=>jd 1 [14]<|dV aCz<|zD 2<|aJ q0 (.agg ⟨dF dW fO b9 fA dK dv dt n⟩) [14] [6,8,7,4,5,13,10,12,11,2,1,0] (dH dW mQ mb fO oC b9 fA jH lf dK dv dt) (Sub.refl _) ⟨_,_,rfl,rfl,_,rfl,fun _ hk=>dN hk,dO _ _ _ _ _ _ _ _⟩
  refine jp (vs:=[.string (bs [98,101,110]),zI 0,zI 1,zI 4]) [] [] (fun aE hs hZ=>j6)<|bD aCB [0,1,2,3,4,5,6,7,8,9,10,11,12]<|mO [7,11] ⟨fun aYg t277 aCy=>?_,fun aYf t280 aCx=>?_,trivial⟩
  ·
   refine jn fun dv=>bD aCy [1,2,3,4,5,6,7,8,9,10,11,12,13]<|aN 11 fun aIj aKF aCw=>jn fun dt=>bD aCw [1,2,3,4,5,6,7,8,9,10,11,12,13,14]<|zD 1<|aN 14 fun aIi aKE aCv=>jd 1 [14]<|dV aCv<|zD 2<|aJ q0 (.agg ⟨dF dW fO b9 fA dK dv dt n⟩) [14] [6,8,7,4,5,13,10,12,11,2,1,0] (dH dW mQ mb fO oC b9 fA jH lf dK dv dt) (Sub.refl _) ⟨_,_,rfl,rfl,_,rfl,fun _ hk=>dN hk,dO _ _ _ _ _ _ _ _⟩
  refine jn fun dt=>bD aCx [1,2,3,4,5,6,7,8,9,10,11,12,13]<|aN 7 fun aIh aKD aCu=>jn fun dv=>bD aCu [1,2,3,4,5,6,7,8,9,10,11,12,13,14]<|zD 1<|aN 14 fun aIg aKC aCt=>jd 1 [14]<|dV aCt<|zD 2<|aJ q0 (.agg ⟨dF dW fO b9 fA dK dv dt n⟩) [14] [6,8,7,4,5,13,10,12,11,2,0,1] (dH dW mQ mb fO oC b9 fA jH lf dK dv dt) (Sub.refl _) ⟨_,_,rfl,rfl,_,rfl,fun _ hk=>dN hk,dO _ _ _ _ _ _ _ _⟩
 ·
  refine jn fun dv=>bD aCE [1,2,3,4,5,6,7,8,9,10,11,12]<|mO [3,10] ⟨fun aYe t287 aCs=>?_,fun aYd t290 aCr=>?_,trivial⟩
  ·
   refine jn fun dK=>bD aCs [1,2,3,4,5,6,7,8,9,10,11,12,13]<|jp (vs:=[.string (bs [98,101,110]),zI 0,zI 1,zI 4]) [] [] (fun aE hs hZ=>j6)<|aN 11 fun aIf aKB aCq=>jn fun dt=>bD aCq [1,2,3,4,5,6,7,8,9,10,11,12,13,14]<|zD 1<|aN 14 fun aIe aKA aCp=>jd 1 [14]<|dV aCp<|zD 2<|aJ q0 (.agg ⟨dF dW fO b9 fA dK dv dt n⟩) [14] [6,8,7,4,5,13,10,12,11,1,2,0] (dH dW mQ mb fO oC b9 fA jH lf dK dv dt) (Sub.refl _) ⟨_,_,rfl,rfl,_,rfl,fun _ hk=>dN hk,dO _ _ _ _ _ _ _ _⟩
  refine jp (vs:=[.string (bs [98,101,110]),zI 0,zI 1,zI 4]) [] [] (fun aE hs hZ=>j6)<|bD aCr [0,1,2,3,4,5,6,7,8,9,10,11,12]<|mO [3,11] ⟨fun aYc t295 aCo=>?_,fun aYb t298 aCn=>?_,trivial⟩
  ·
   refine jn fun dK=>bD aCo [1,2,3,4,5,6,7,8,9,10,11,12,13]<|aN 11 fun aId aKz aCm=>jn fun dt=>bD aCm [1,2,3,4,5,6,7,8,9,10,11,12,13,14]<|zD 1<|aN 14 fun aIc aKy aCl=>jd 1 [14]<|dV aCl<|zD 2<|aJ q0 (.agg ⟨dF dW fO b9 fA dK dv dt n⟩) [14] [6,8,7,4,5,13,10,12,11,1,2,0] (dH dW mQ mb fO oC b9 fA jH lf dK dv dt) (Sub.refl _) ⟨_,_,rfl,rfl,_,rfl,fun _ hk=>dN hk,dO _ _ _ _ _ _ _ _⟩
  refine jn fun dt=>bD aCn [1,2,3,4,5,6,7,8,9,10,11,12,13]<|aN 3 fun aIb aKx aCk=>jn fun dK=>bD aCk [1,2,3,4,5,6,7,8,9,10,11,12,13,14]<|zD 1<|aN 14 fun aIa aKw aCj=>jd 1 [14]<|dV aCj<|zD 2<|aJ q0 (.agg ⟨dF dW fO b9 fA dK dv dt n⟩) [14] [6,8,7,4,5,13,10,12,11,0,2,1] (dH dW mQ mb fO oC b9 fA jH lf dK dv dt) (Sub.refl _) ⟨_,_,rfl,rfl,_,rfl,fun _ hk=>dN hk,dO _ _ _ _ _ _ _ _⟩
 refine jp (vs:=[.string (bs [98,101,110]),zI 0,zI 1,zI 4]) [] [] (fun aE hs hZ=>j6)<|bD aCD [0,1,2,3,4,5,6,7,8,9,10,11]<|mO [3,7,11] ⟨fun aYa t305 aCi=>?_,fun aX9 t308 aCh=>?_,fun aX8 t311 aCg=>?_,trivial⟩
 ·
  refine jn fun dK=>bD aCi [1,2,3,4,5,6,7,8,9,10,11,12]<|mO [7,11] ⟨fun aX7 t314 aCf=>?_,fun aX6 t317 aCe=>?_,trivial⟩
  ·
   refine jn fun dv=>bD aCf [1,2,3,4,5,6,7,8,9,10,11,12,13]<|aN 11 fun aH9 aKv aCd=>jn fun dt=>bD aCd [1,2,3,4,5,6,7,8,9,10,11,12,13,14]<|zD 1<|aN 14 fun aH8 aKu aCc=>jd 1 [14]<|dV aCc<|zD 2<|aJ q0 (.agg ⟨dF dW fO b9 fA dK dv dt n⟩) [14] [6,8,7,4,5,13,10,12,11,2,1,0] (dH dW mQ mb fO oC b9 fA jH lf dK dv dt) (Sub.refl _) ⟨_,_,rfl,rfl,_,rfl,fun _ hk=>dN hk,dO _ _ _ _ _ _ _ _⟩
  refine jn fun dt=>bD aCe [1,2,3,4,5,6,7,8,9,10,11,12,13]<|aN 7 fun aH7 aKt aCb=>jn fun dv=>bD aCb [1,2,3,4,5,6,7,8,9,10,11,12,13,14]<|zD 1<|aN 14 fun aH6 aKs aCa=>jd 1 [14]<|dV aCa<|zD 2<|aJ q0 (.agg ⟨dF dW fO b9 fA dK dv dt n⟩) [14] [6,8,7,4,5,13,10,12,11,2,0,1] (dH dW mQ mb fO oC b9 fA jH lf dK dv dt) (Sub.refl _) ⟨_,_,rfl,rfl,_,rfl,fun _ hk=>dN hk,dO _ _ _ _ _ _ _ _⟩
 ·
  refine jn fun dv=>bD aCh [1,2,3,4,5,6,7,8,9,10,11,12]<|mO [3,11] ⟨fun aX5 t324 aB9=>?_,fun aX4 t327 aB8=>?_,trivial⟩
  ·
   refine jn fun dK=>bD aB9 [1,2,3,4,5,6,7,8,9,10,11,12,13]<|aN 11 fun aH5 aKr aB7=>jn fun dt=>bD aB7 [1,2,3,4,5,6,7,8,9,10,11,12,13,14]<|zD 1<|aN 14 fun aH4 aKq aB6=>jd 1 [14]<|dV aB6<|zD 2<|aJ q0 (.agg ⟨dF dW fO b9 fA dK dv dt n⟩) [14] [6,8,7,4,5,13,10,12,11,1,2,0] (dH dW mQ mb fO oC b9 fA jH lf dK dv dt) (Sub.refl _) ⟨_,_,rfl,rfl,_,rfl,fun _ hk=>dN hk,dO _ _ _ _ _ _ _ _⟩
  refine jn fun dt=>bD aB8 [1,2,3,4,5,6,7,8,9,10,11,12,13]<|aN 3 fun aH3 aKp aB5=>jn fun dK=>bD aB5 [1,2,3,4,5,6,7,8,9,10,11,12,13,14]<|zD 1<|aN 14 fun aH2 aKo aB4=>jd 1 [14]<|dV aB4<|zD 2<|aJ q0 (.agg ⟨dF dW fO b9 fA dK dv dt n⟩) [14] [6,8,7,4,5,13,10,12,11,0,2,1] (dH dW mQ mb fO oC b9 fA jH lf dK dv dt) (Sub.refl _) ⟨_,_,rfl,rfl,_,rfl,fun _ hk=>dN hk,dO _ _ _ _ _ _ _ _⟩
 refine jn fun dt=>bD aCg [1,2,3,4,5,6,7,8,9,10,11,12]<|mO [3,7] ⟨fun aX3 t334 aB3=>?_,fun aX2 t337 aB2=>?_,trivial⟩
 ·
  refine jn fun dK=>bD aB3 [1,2,3,4,5,6,7,8,9,10,11,12,13]<|aN 7 fun aH1 aKn aB1=>jn fun dv=>bD aB1 [1,2,3,4,5,6,7,8,9,10,11,12,13,14]<|zD 1<|aN 14 fun aH0 aKm aB0=>jd 1 [14]<|dV aB0<|zD 2<|aJ q0 (.agg ⟨dF dW fO b9 fA dK dv dt n⟩) [14] [6,8,7,4,5,13,10,12,11,1,0,2] (dH dW mQ mb fO oC b9 fA jH lf dK dv dt) (Sub.refl _) ⟨_,_,rfl,rfl,_,rfl,fun _ hk=>dN hk,dO _ _ _ _ _ _ _ _⟩
 refine jn fun dv=>bD aB2 [1,2,3,4,5,6,7,8,9,10,11,12,13]<|aN 3 fun aHZ aKl aBZ=>jn fun dK=>bD aBZ [1,2,3,4,5,6,7,8,9,10,11,12,13,14]<|zD 1<|aN 14 fun aHY aKk aBY=>jd 1 [14]<|dV aBY<|zD 2<|aJ q0 (.agg ⟨dF dW fO b9 fA dK dv dt n⟩) [14] [6,8,7,4,5,13,10,12,11,0,1,2] (dH dW mQ mb fO oC b9 fA jH lf dK dv dt) (Sub.refl _) ⟨_,_,rfl,rfl,_,rfl,fun _ hk=>dN hk,dO _ _ _ _ _ _ _ _⟩
instance (nc nh i:Nat)(x:cw):Decidable (gI nc nh i x):=by unfold gI;infer_instance
instance (w:ByteArray):Decidable (Script w):=by unfold Script;infer_instance
theorem T7{α:Type}{p:Nat→α→Prop}{l:List α}(h:∀i (hi:i <l.length),p i l[i]):∀(i:Nat) (x:α),l[i]?=some x→p i x:=fun i x hx=>by
 obtain⟨h1,rfl⟩:=List.getElem?_eq_some_iff.1 hx
 exact h i h1
theorem GS:∀(i:Nat) (x:cw),B4[i]?=some x→gI 4 6 i x:=T7 (by decide)
theorem TU:∀(i:Nat) (x:cw),B4[i]?=some x→y5 x.word=true:=T7 (of_decide_eq_true (by kernel_rfl))
theorem agQ:∀(i:Nat) (x:bM),TV[i]?=some x→y5 x.name=true∧ -1≤x.under∧x.under <i:=T7 (of_decide_eq_true (by kernel_rfl))
def asq(hd:List cw)(i:Int):Bool:=decide (i= -1)||(decide (0≤i)&&match hd[i.toNat]? with
 |some x=>decide (0≤x.cls)
 |none=>false)
theorem fg{hd:List cw}{i:Int}(h:asq hd i=true):nJ hd i:=by
 simp only[asq,Bool.or_eq_true,Bool.and_eq_true,decide_eq_true_eq] at h
 rcases h with h| ⟨h1,h2⟩
 ·exact .inl h
 split at h2
 ·rename_i x hx;exact .inr ⟨h1,x,hx,of_decide_eq_true h2⟩
 cases h2
def Oi(p:aI):Bool:=decide (((1≤p.name.size∧p.name.size≤6)∧Script p.name)∧(0≤p.st∧p.st≤1)∧p.bold=false)&&asq B4 p.head
theorem KP{p:aI}(h:Oi p=true):Ei B4 p:=by
 simp only[Oi,Bool.and_eq_true,decide_eq_true_eq] at h
 exact⟨h.1.1,fg h.2,h.1.2⟩
theorem ab1{p:aI}(h:Oi p=true):qV p.name∧nJ B4 p.head:=by
 have:=KP h
 exact⟨⟨this.1.1,this.1.2⟩,this.2.1⟩
theorem WB:∀p∈Mw,Oi p=true:=by decide
theorem WC:∀p∈Mx,Oi p=true:=by decide
abbrev CQ(n:Int)(fs:List eR):aT:={aY n with facts:=fs}
theorem aon(h:0≤n∧n≤4)(hf:fs.length≤3)(h1:∀x∈fs,(0≤x.a∧x.a <3)∧(0≤x.b∧x.b <3))(h2:fs.Pairwise fun x y=>¬(x.a=y.a∧x.b=y.b)):lO (CQ n fs) where
 pO:=⟨rfl,by simp,by simp[AJ],by simp[ajr]⟩
 ways:=⟨(by decide:(1:Nat)≤1),by simp[jo]⟩
 dI:=⟨(by decide:(0:Nat) <4∧4≤6),(by decide:(6:Nat)≤6),GS⟩
 rules:=(by decide:(1:Nat)≤4)
 before:=⟨(by decide:(3:Nat)≤4),fun p hp=>⟨KP (WB p hp),by
  simp only[Mw,List.mem_cons,List.not_mem_nil,or_false] at hp
  rcases hp with rfl|rfl|rfl
  ·exact⟨_,rfl,by simp⟩
  ·exact⟨_,rfl,by simp⟩
  exact⟨_,rfl,by simp⟩⟩⟩
 after:=⟨(by decide:(3:Nat)≤4),fun p hp=>⟨KP (WC p hp),by
  simp only[Mx,List.mem_cons,List.not_mem_nil,or_false] at hp
  rcases hp with rfl|rfl|rfl<;>decide⟩⟩
 yf:=⟨(by decide:(0:Int)≤1∧(1:Int)≤4),(by decide:(0:Int)≤1∧(1:Int)≤4),h⟩
 facts:=⟨by show fs.length≤4;omega,h1⟩
 apart:=h2
theorem aom(hf:fs.length≤3)(h1:∀x∈fs,(0≤x.a∧x.a <3)∧(0≤x.b∧x.b <3)):fU (CQ n fs) where
 rules:=⟨(by decide:(1:Nat)≤4),by
  intro r hr
  rw[List.mem_singleton] at hr;subst hr
  have e:UT ⟨bs [121],bs [105]⟩=true:=by kernel_rfl
  simp only[UT,Bool.and_eq_true,Nat.ble_eq,Bool.not_eq_true'] at e
  exact⟨e.1,e.2.1,Fz e.2.2.1,Fz e.2.2.2.1,e.2.2.2.2⟩⟩
 before:=⟨(by decide:(3:Nat)≤4),fun p hp=>ab1 (WB p hp)⟩
 after:=⟨(by decide:(3:Nat)≤4),fun p hp=>ab1 (WC p hp)⟩
 dI:=⟨(by decide:(0:Nat) <4∧4≤6),(by decide:(6:Nat)≤6),agQ,by simp only[y9];decide,fun i x hx=>⟨TU i x hx,GS i x hx⟩,by simp only[y9,NR];decide⟩
 facts:=⟨by show fs.length≤4;omega,h1⟩
theorem aFd{v0 v1 v3 v4 v5 v6 v7 vb:Value}{fa fb:Option Addr}{fc fn fd:Nat}{g0 g1 g2:Int}{ro:Nat→Option Obj}(hs:∀v∈[v0,v1,(.slice fa 0 fc),v3,v4,v5,v6,v7,zI g0,zI g1,zI g2,(.slice fb fn fd)],single v=true):dL zT 45 [.agg ⟨[v0,v1,(.slice fa 0 fc),v3,v4,v5,v6,v7,zI g0,zI g1,zI g2,vb]⟩,(.slice fb fn fd)] ro (.agg ⟨[v0,v1,(.slice fa 0 fc),v3,v4,v5,v6,v7,zI g0,zI g1,zI g2,(.slice fb fn fd)]⟩):=by
 refine bI av [] [] bB<|zD 2<|jn fun b2=>jn fun b4=>jd 10 [1,1]<|jsx 0 b4 0 [zS,zS,zS,zS,zS,zS,zS,zS,zI 0,zI 0,zI 0,zS] [v0,v1,(.slice fa 0 fc),v3,v4,v5,v6,v7,zI g0,zI g1,zI g2,(.slice fb fn fd)] 38 hs rfl<|zD 2<|aJ q0 (.agg ⟨[v0,v1,(.slice fa 0 fc),v3,v4,v5,v6,v7,zI g0,zI g1,zI g2,(.slice fb fn fd)]⟩) [0] [] [] (Sub.refl _) ⟨_,_,rfl,rfl,rfl,rfl⟩
def ahD[DecidableEq κ](r:Nat)(kv:κ→Value)(k:κ)(F:List (κ×Value))(b:Nat)(L:Cells):Prop:=
 ∃es ck i u,L=[(r,.map es ck)]∧sR kv F es ck∧rI k F 0=some (i,u)∧(es.toList.map (·.born))[i]?=some b
theorem ahD.own[DecidableEq κ]{kv:κ→Value}{k:κ}{F:List (κ×Value)}{L:Cells}(h:ahD r kv k F b L):jO r kv F L:=by
 obtain⟨es,ck,_,_,h1,h2,_⟩:=h
 exact⟨es,ck,h1,h2⟩
def meV(P:Program)(n:Nat)(p:Oper)(e:Env):Option (TypeId×TypeId×Value×Value):=match p.op with
 | .mapEntry T x y=>match ba P T with
  |some ⟨.map K E,_,_,_⟩=>match bu n e x with
   |some m=>match bu n e y with
    |some k=>some (K,E,m,k)
    |none=>none
   |none=>none
  |_=>none
 |_=>none
def esV(n:Nat)(p:Oper)(e:Env):Option (Value×Value×Value):=match p.op with
 | .entryStore _ x y z=>match bu n e x with
  |some m=>match bu n e y with
   |some b=>match bu n e z with
    |some v=>some (m,b,v)
    |none=>none
   |none=>none
  |none=>none
 |_=>none
theorem Ao[DecidableEq κ]{k:κ}{v:Value}:∀ {F:List (κ×Value)} {i:Nat},rI k F i=none→rI k (F++[(k,v)]) i=some (i+F.length,v)
 | [],i,_=>by simp[rI]
 |x::l,i,h=>by
  simp only[rI] at h
  split at h
  ·cases h
  rename_i hk
  rw[List.cons_append,rI,if_neg hk,Ao h,List.length_cons,show i+1+l.length=i+(l.length+1) by omega]
theorem Vn{kv:κ→Value}{k:κ}{v:Value}:∀(es:List MapEntry) (F:List (κ×Value)) (i:Nat) {u:Value},F[i]?=some (k,u)→es.map (fun e=>(e.key,e.val))=F.map (fun x=>(kv x.1,x.2))→(es.modify i fun e=>{e with val:=v}).map (fun e=>(e.key,e.val))=(s9 k v F i).map (fun x=>(kv x.1,x.2))
 | [],[],_,_,h,_=>by simp at h
 | [],_::_,_,_,_,h=>by simp at h
 |_::_,[],_,_,_,h=>by simp at h
 |e::es,x::F,0,_,h1,h=>by
  simp only[List.map_cons,List.cons.injEq,Prod.mk.injEq] at h
  simp at h1;subst h1
  simp[s9,h.2,h.1.1]
 |e::es,x::F,i+1,_,h1,h=>by
  simp only[List.map_cons,List.cons.injEq] at h
  simp at h1
  simp[s9,h.1,Vn es F i h1 h.2]
theorem G5{v:Value}:∀(es:List MapEntry) (i:Nat),(es.modify i fun e=>{e with val:=v}).map (·.born)=es.map (·.born)
 | [],i=>by simp
 |e::es,0=>by simp
 |e::es,i+1=>by simp[G5 es i]
theorem AG{kx:Value}:∀(es:List MapEntry) (i:Nat),(es.modify i fun e=>{e with key:=kx}).map (·.born)=es.map (·.born)
 | [],i=>by simp
 |e::es,0=>by simp
 |e::es,i+1=>by simp[AG es i]
theorem Vo{kv:κ→Value}{k:κ}:∀(es:List MapEntry) (F:List (κ×Value)) (i:Nat) {u:Value},F[i]?=some (k,u)→es.map (fun e=>(e.key,e.val))=F.map (fun x=>(kv x.1,x.2))→(es.modify i fun e=>{e with key:=kv k}).map (fun e=>(e.key,e.val))=F.map (fun x=>(kv x.1,x.2))
 | [],[],_,_,h,_=>by simp at h
 | [],_::_,_,_,_,h=>by simp at h
 |_::_,[],_,_,_,h=>by simp at h
 |e::es,x::F,0,_,h1,h=>by
  simp only[List.map_cons,List.cons.injEq,Prod.mk.injEq] at h
  simp at h1;subst h1
  simp[h.2,h.1.2]
 |e::es,x::F,i+1,_,h1,h=>by
  simp only[List.map_cons,List.cons.injEq] at h
  simp at h1
  simp[h.1,Vo es F i h1 h.2]
theorem WH{es eA:Array MapEntry}{ck:Nat}(h:∀e∈es.toList,e.born <ck)(hb:eA.toList.map (·.born)=es.toList.map (·.born)):∀e∈eA.toList,e.born <ck:=fun e he=>by
 have:e.born∈eA.toList.map (·.born):=List.mem_map_of_mem he
 rw[hb] at this
 obtain⟨e2,h3,h4⟩:=List.mem_map.1 this
 rw[←h4];exact h e2 h3
section
variable {X:Cx} {o:Option JS}
theorem jSk{β:Type}{f:Oper→Env→Option β}{r:β}{Φ:Cells→Prop}(ps:List Nat)(B:Cells)(hv:e9 X.n f o=some r)(hB:dY ps o=some B)
 (hy:∀p e,f p e=some r→(∀c,p.op≠ .defer c)∧∀(R:Cells) (Q:Next→St→Prop) (E:Halt→St→Prop),(∀L',Φ L'→Q .skip ⟨X.ro,L'++R⟩)→bN X.P (execOp (ev X.n e) p) ⟨X.ro,B++R⟩ Q E)
 (hj:∀L',Φ L'→J X (mU ps undef L' o)):J X o:=by
 obtain⟨ops,i,todo,k,e,w,kn,p,rfl,ho,hw,hc⟩:=dz hv
 intro bW
 have hp:=bH hB
 obtain⟨hd,ht⟩:=hy p e hc
 have:ab X.C X.fn X.aC ops (i::todo) (KQ X k) (A X.n e X.D) ⟨X.ro,B++den (dE ps 0 w)⟩:=by
  refine bR X.hC ho hw hd<|ht _ _ _ fun L' pU=>?_
  have:=hj L' pU
  rw[nS ho] at this
  have:=this bW
  simp only[JP,gv] at this
  show ab _ _ _ _ _ _ _ _
  rw[←a8] at this
  exact this
 have hle:(⟨X.ro,B++den (dE ps 0 w)⟩:St).le ⟨X.ro,den w⟩:=⟨[],by rw[List.append_nil];exact hp,fun b o hb=> .inl hb⟩
 exact this.more X.hC hle
theorem jme[DecidableEq κ]{kv:κ→Value}{F:List (κ×Value)}{K E:TypeId}{L:Cells}{d:TypeDesc}(i:Nat)(k:κ)(hk:Qv X.P K kv)(te:TF X.P E d sz bE z ag)(hm:jO r kv F L)
 (hj:∀F1 b c L',(((∃u,rI k F 0=some u)∧F1=F)∨(rI k F 0=none∧F1=F++[(k,Nl z ag)]))→ahD r kv k F1 b L'→J X (mU [i] (.tuple ⟨[c,zI (b:Int)]⟩) L' o))
 (hv:e9 X.n (meV X.P X.n) o=some (K,E,.map (some r),kv k):=by kernel_rfl)(hB:dY [i] o=some L:=by kernel_rfl):J X o:=by
 refine jS (Φ:=fun v L'=>∃F1 b c,(((∃u,rI k F 0=some u)∧F1=F)∨(rI k F 0=none∧F1=F++[(k,Nl z ag)]))∧ahD r kv k F1 b L'∧v= .tuple ⟨[c,zI (b:Int)]⟩) [i] _ hv hB (fun p e hf=>?_) (fun v L' pU=>?_)
 ·unfold meV at hf
  split at hf<;>try (cases hf;done)
  rename_i T x y aB
  split at hf<;>try (cases hf;done)
  rename_i K' E' _ _ _ dR
  split at hf<;>try (cases hf;done)
  rename_i m hx
  split at hf<;>try (cases hf;done)
  rename_i k' hy
  simp only[Option.some.injEq,Prod.mk.injEq] at hf
  obtain⟨rfl,rfl,rfl,rfl⟩:=hf
  obtain⟨beg,tf⟩:=au dR
  refine⟨by rw[aB];simp,fun R Q E hQ=>?_⟩
  obtain⟨es,ck,rfl,BK⟩:=hm
  simp only[execOp,aB,Instr.mapEntry,aa,bh tf,aG hx,aG hy]
  refine cE (.inr (List.mem_append_left _ List.mem_cons_self)) rfl rfl ?_
  simp only[aa]
  refine hk.chk _ _ ?_
  simp only[aa]
  refine hk.find k _ F BK.1 ?_
  cases xf:rI k F 0 with
  |some u=>
   obtain⟨j,u⟩:=u
   have QQ:=qd xf
   simp only[Nat.sub_zero] at QQ
   have h1:(es.toList.map (fun e=>(e.key,e.val)))[j]?=some (kv k,u):=by rw[BK.1];simp[QQ.2]
   simp only[List.getElem?_map,Array.getElem?_toList] at h1
   cases he:es[j]? with
   |none=>rw[he] at h1;cases h1
   |some e1=>
    rw[he] at h1
    simp only[Option.map_some,Option.some.injEq,Prod.mk.injEq] at h1
    simp only[aa,Instr.keyThatStays,he,Option.map_some,Option.getD_some,h1.1,hk.stay,if_true,af]
    refine eC (L:=[]) rfl rfl rfl ?_
    simp only[af]
    refine hQ _ [(r,_)] ⟨F,e1.born,u,.inl ⟨⟨_,xf⟩,rfl⟩,⟨_,_,j,u,rfl,⟨?_,?_,?_⟩,xf,?_⟩,rfl⟩
    ·rw[Array.toList_modify];exact Vo _ _ _ QQ.2 BK.1
    ·rw[Array.toList_modify,AG];exact BK.2.1
    ·exact WH BK.2.2 (by rw[Array.toList_modify,AG])
    rw[Array.toList_modify,AG,List.getElem?_map,Array.getElem?_toList,he];rfl
  |none=>
   simp only[aa,jT te]
   refine eC (L:=[]) rfl rfl rfl ?_
   simp only[af]
   have hlen:es.toList.length=F.length:=by have:=congrArg List.length BK.1;simpa using this
   refine hQ _ [(r,_)] ⟨_,ck,_,.inr ⟨xf,rfl⟩,⟨_,_,F.length,_,rfl,⟨?_,?_,?_⟩,by have:=Ao (v:=Nl z ag) xf;rwa[Nat.zero_add] at this,?_⟩,rfl⟩
   ·simp only[Array.toList_push,List.map_append,BK.1];rfl
   ·simp only[Array.toList_push,List.map_append,List.map_cons,List.map_nil]
    refine List.nodup_append.2 ⟨BK.2.1,by simp,?_⟩
    intro a ha b hb
    obtain⟨e2,h3,rfl⟩:=List.mem_map.1 ha
    have:=BK.2.2 e2 h3
    simp only[List.mem_singleton] at hb
    omega
   ·intro e1 h1
    simp only[Array.toList_push,List.mem_append,List.mem_singleton] at h1
    rcases h1 with h1|rfl
    ·have:=BK.2.2 e1 h1;omega
    exact Nat.lt_succ_self _
   simp only[Array.toList_push,List.map_append,List.map_cons,List.map_nil]
   rw[List.getElem?_append_right (by simp[hlen])]
   simp[hlen]
 obtain⟨F1,b,c,h1,h2,rfl⟩:=pU
 exact hj F1 b c L' h1 h2
theorem jes[DecidableEq κ]{kv:κ→Value}{F:List (κ×Value)}{L:Cells}{k:κ}(i:Nat)(v:Value)(hm:ahD r kv k F b L)(hj:∀L',jO r kv (mf k v F) L'→J X (mU [i] undef L' o))
 (hv:e9 X.n (esV X.n) o=some (.map (some r),zI (b:Int),v):=by kernel_rfl)(hB:dY [i] o=some L:=by kernel_rfl):J X o:=by
 refine jSk (Φ:=jO r kv (mf k v F)) [i] _ hv hB (fun p e hf=>?_) hj
 unfold esV at hf
 split at hf<;>try (cases hf;done)
 rename_i T x y zz aB
 split at hf<;>try (cases hf;done)
 rename_i m hx
 split at hf<;>try (cases hf;done)
 rename_i b' hy
 split at hf<;>try (cases hf;done)
 rename_i v' hz
 simp only[Option.some.injEq,Prod.mk.injEq] at hf
 obtain⟨rfl,rfl,rfl⟩:=hf
 refine⟨by rw[aB];simp,fun R Q E hQ=>?_⟩
 obtain⟨es,ck,j,u,rfl,BK,xf,hb⟩:=hm
 have QQ:=qd xf
 simp only[Nat.sub_zero] at QQ
 simp only[execOp,aB,Instr.entryStore,aa,aG hx,aG hy,aG hz]
 refine cE (.inr (List.mem_append_left _ List.mem_cons_self)) rfl rfl ?_
 have aPO:es.findIdx? (fun e=>(e.born:Int)==(b:Int))=some j:=by
  rw[List.getElem?_map,Array.getElem?_toList] at hb
  obtain⟨e1,he,rfl⟩:=Option.map_eq_some_iff.1 hb
  obtain⟨h1,h2⟩:=Array.getElem?_eq_some_iff.1 he
  refine Array.findIdx?_eq_some_iff_getElem.2 ⟨h1,by simp[h2],fun q hq=>?_⟩
  have lX:=BK.2.1
  have:=List.pairwise_iff_getElem.1 lX q j (by simp;omega) (by simp;omega) hq
  simp only[List.getElem_map,Array.getElem_toList,h2] at this
  simp only[beq_iff_eq]
  omega
 simp only[aa,asInt,asIntOf,af,aPO]
 refine eC (L:=[]) rfl rfl rfl ?_
 show Q .skip _
 refine hQ [(r,_)] ⟨_,_,rfl,?_,?_,?_⟩
 ·rw[Array.toList_modify,mf,xf];exact Vn _ _ _ QQ.2 BK.1
 ·rw[Array.toList_modify,G5];exact BK.2.1
 exact WH BK.2.2 (by rw[Array.toList_modify,G5])
end
abbrev v4(a b c d:Int):Value:= .agg ⟨[zI a,zI b,zI c,zI d]⟩
theorem aE0{P:Program}{T:TypeId}(tf:TF P T (.array 4 3) sz bE z ag)(t3:TF P 3 (.int .i64) 1 by1 z1 false)(a b c d a' b' c' d':Int):
 ZB P (dep+2) T (v4 a b c d) (v4 a' b' c' d') (a==a'&&(b==b'&&(c==c'&&(d==d'&&true)))):=by
 intro α s k Q E
 rw[Op.equalIn]
 simp only[aa,bh tf,cm t3]
 simp only[Std.Legacy.Range.forIn_eq_forIn_range',Std.Legacy.Range.size,Nat.sub_zero,Nat.add_sub_cancel,Nat.div_one,List.range'_succ,List.range'_zero,List.forIn_cons,List.forIn_nil,aa,Nat.zero_add,Nat.mul_one]
 have p (l:List Value) (o:Nat) (v:Value) (h:nth l o=some v):Hj P 3 l o v:=jY t3 h
 rw[p _ 0 (zI a) rfl];simp only[aa]
 rw[p _ 0 (zI a') rfl];simp only[aa]
 rw[nQ t3 a a']
 cases ha:a==a' with
 |false=>simp only[Bool.not_false,if_true,af,aa,Bool.false_and]
 |true=>
 simp only[Bool.not_true,Bool.false_eq_true,if_false,af,Bool.true_and,aa]
 rw[p _ 1 (zI b) rfl];simp only[aa]
 rw[p _ 1 (zI b') rfl];simp only[aa]
 rw[nQ t3 b b']
 cases hb:b==b' with
 |false=>simp only[Bool.not_false,if_true,af,aa,Bool.false_and]
 |true=>
 simp only[Bool.not_true,Bool.false_eq_true,if_false,af,Bool.true_and,aa]
 rw[p _ 2 (zI c) rfl];simp only[aa]
 rw[p _ 2 (zI c') rfl];simp only[aa]
 rw[nQ t3 c c']
 cases hc:c==c' with
 |false=>simp only[Bool.not_false,if_true,af,aa,Bool.false_and]
 |true=>
 simp only[Bool.not_true,Bool.false_eq_true,if_false,af,Bool.true_and,aa]
 rw[p _ 3 (zI d) rfl];simp only[aa]
 rw[p _ 3 (zI d') rfl];simp only[aa]
 rw[nQ t3 d d']
 cases hd:d==d' with
 |false=>simp only[Bool.not_false,if_true,af,aa,Bool.false_and]
 |true=>simp only[Bool.not_true,Bool.false_eq_true,if_false,af,Bool.true_and,aa]
theorem ck4{P:Program}{T:TypeId}(tf:TF P T (.array 4 3) sz bE z ag)(t3:TF P 3 (.int .i64) 1 by1 z1 false)(a b c d:Int):CkD P (dep+2) T (v4 a b c d):=by
 intro bb α K s Q E
 rw[Instr.checkKey]
 simp only[aa,bh tf]
 simp only[Std.Legacy.Range.forIn_eq_forIn_range',Std.Legacy.Range.size,Nat.sub_zero,Nat.add_sub_cancel,Nat.div_one,List.range'_succ,List.range'_zero,List.forIn_cons,List.forIn_nil,aa,Nat.zero_add,cm t3,Nat.zero_mul,Nat.mul_one]
 have p (l:List Value) (o:Nat) (v:Value) (h:nth l o=some v):Hj P 3 l o v:=jY t3 h
 rw[p _ 0 (zI a) rfl];simp only[aa];rw[GU t3 a bb];simp only[af,aa,cm t3,Nat.mul_one]
 rw[p _ 1 (zI b) rfl];simp only[aa];rw[GU t3 b bb];simp only[af,aa,cm t3,Nat.mul_one]
 rw[p _ 2 (zI c) rfl];simp only[aa];rw[GU t3 c bb];simp only[af,aa,cm t3,Nat.mul_one]
 rw[p _ 3 (zI d) rfl];simp only[aa];rw[GU t3 d bb];simp only[af,aa]
abbrev P4:=Int×Int×Int×Int
abbrev Hr(x:P4):Value:=v4 x.1 x.2.1 x.2.2.1 x.2.2.2
theorem adb:Qv zT 122 Hr:=ada (mV Tryz.typeInfo122 Tryz.underlying122 rfl rfl rfl rfl rfl rfl) (fun k=>⟨_,rfl⟩)
 (fun k=>ck4 (dep:=9998) (mV Tryz.typeInfo122 Tryz.underlying122 rfl rfl rfl rfl rfl rfl) mw _ _ _ _)
 (fun a b=>by
  have h:=aE0 (dep:=9998) (mV Tryz.typeInfo122 Tryz.underlying122 rfl rfl rfl rfl rfl rfl) mw a.1 a.2.1 a.2.2.1 a.2.2.2 b.1 b.2.1 b.2.2.1 b.2.2.2
  have e:(a.1==b.1&&(a.2.1==b.2.1&&(a.2.2.1==b.2.2.1&&(a.2.2.2==b.2.2.2&&true))))=decide (a=b):=by
   rcases a with ⟨x,y,z,t⟩;rcases b with ⟨u,v,w,r⟩
   rw[Bool.eq_iff_iff];simp
  rwa[e] at h)
 (fun k=>by simp[Instr.sameBits])
structure iH where
 c:Nat→Nat→Int
abbrev B1(m:iH):List Value:=[zI (m.c 0 0),zI (m.c 0 1),zI (m.c 0 2),zI (m.c 0 3),zI (m.c 1 0),zI (m.c 1 1),zI (m.c 1 2),zI (m.c 1 3),zI (m.c 2 0),zI (m.c 2 1),zI (m.c 2 2),zI (m.c 2 3),zI (m.c 3 0),zI (m.c 3 1),zI (m.c 3 2),zI (m.c 3 3)]
theorem D6{m:iH}{a:Nat}(h:a <4)(k:b <4):nth (B1 m) (0+(a:Int).toNat*4+(b:Int).toNat*1)=some (zI (m.c a b)):=by
 rcases Je h with rfl|rfl|rfl|rfl<;>rcases Je k with rfl|rfl|rfl|rfl<;>rfl
def q5(m:iH)(a b:Nat)(v:Int):iH:=⟨fun i j=>if i=a∧j=b then v else m.c i j⟩
theorem ajR{m:iH}{a:Nat}{v:Int}(h:a <4)(k:b <4):dB (B1 m) (0+(a:Int).toNat*4+(b:Int).toNat*1) [zI v]=B1 (q5 m a b v):=by
 rcases Je h with rfl|rfl|rfl|rfl<;>rcases Je k with rfl|rfl|rfl|rfl<;>rfl
theorem ajS{m:iH}{a:Nat}{v:Value}(h:a <4)(k:b <4):Nat.ble ((0+(a:Int).toNat*4+(b:Int).toNat*1)+[v].length) (B1 m).length=true:=by
 rcases Je h with rfl|rfl|rfl|rfl<;>rcases Je k with rfl|rfl|rfl|rfl<;>rfl
def pI(x:aA):Nat→Int
 |0=>x.w0
 |1=>x.w1
 |2=>x.w2
 |_=>x.w3
def aO(zs:List aA):iH:=⟨fun i j=>((zs.filter fun x=>decide (pI x i=(j:Int)+1)).length:Int)⟩
theorem Mu(zs:List aA)(i j:Nat):0≤(aO zs).c i j∧(aO zs).c i j≤zs.length:=by
 have:=List.length_filter_le (fun x=>decide (pI x i=(j:Int)+1)) zs
 simp only[aO];omega
theorem GR{zs ys:List aA}(h:zs.Perm ys):aO zs=aO ys:=by
 simp only[aO,(h.filter _).length_eq]
theorem Vp{r:bX}{p:Nat→Int}(hp:∀i,0≤p i∧p i≤4)(q:Nat):0≤pI (c8 K r i p) q∧pI (c8 K r i p) q≤4:=match q with
 |0=>hp 0
 |1=>hp 1
 |2=>hp 2
 |_+3=>hp 3
def AO:Prop:=∀ {ro:Nat→Option Obj} {v:Value} {zs:List aA},bL ro v 8 cU zs→zs.length≤100000→(∀x∈zs,∀q,0≤pI x q∧pI x q≤4)→eI zT 47 [v] ro [] (fun r Y=>r= .agg ⟨B1 (aO zs)⟩∧Y=[])
def qJ(m:iH)(n:Int)(i:Nat):Nat→List (List Int)
 |0=>[]
 |j+1=>qJ m n i j++(bif decide (m.c i j=n) then [[(i:Int),(j:Int)]] else [])
def xo(m:iH)(n:Int)(w:Nat):Nat→List (List Int)
 |0=>[]
 |i+1=>xo m n w i++qJ m n i w
theorem Vi{m:iH}(h:m.c i j=n):qJ m n i (j+1)=qJ m n i j++[[(i:Int),(j:Int)]]:=by rw[qJ,decide_eq_true h];rfl
theorem Vj{m:iH}(h:¬m.c i j=n):qJ m n i (j+1)=qJ m n i j:=by rw[qJ,decide_eq_false h];exact List.append_nil _
theorem Bv(m:iH)(n:Int)(i:Nat):∀j,(qJ m n i j).length≤j
 |0=>Nat.le_refl _
 |j+1=>by have:=Bv m n i j;rw[qJ,List.length_append];cases decide (m.c i j=n)<;>simp<;>omega
theorem Jb(m:iH)(n:Int){w:Nat}(hw:w≤4):∀i,(xo m n w i).length≤4*i
 |0=>Nat.le_refl _
 |i+1=>by have:=Jb m n hw i;have:=Bv m n i w;rw[xo,List.length_append];omega
theorem ake{rows:List bX}{ro:Nat→Option Obj}(hK:gG ro l K)(hV:fU K)(hR:rows.length≤2)(hB:mM ro l K rows)(hCt:AO):Hm zT 50 [.agg ⟨l⟩,.func (.func 80) ⟨[]⟩ ⟨[]⟩] ro [] (fun r Y=>∃zs v e,zs.Perm (ek K (cv K) (dC K.gone K.new K.ai) rows)∧r= .tuple ⟨[v,zI e]⟩∧((zs=[]∧v= zS∧e=9∧Y=[])∨(zs≠[]∧e=0∧∀aK,Knows aK Y→LL aK v (xo (aO zs) ((zs.length:Nat):Int) K.after.length K.before.length)))):=by
 obtain⟨v0,v1,v3,v4,v5,v6,v7,vb,fa,fc,hv,rfl,_⟩:=id hK
 refine H2 av [] [] bB fun fr=>zD 2<|jn fun b2=>jd 6 [0]<|arC (vs:=[.agg ⟨[v0,v1,.slice fa 0 fc,v3,v4,v5,v6,v7,zI K.gone,zI K.new,zI K.ai,vb]⟩]) [] (fun _ _ h=>h) (adm hK hV hR hB) ?_
 rintro _ aE Y15 cy ⟨f15,zs,v15,e15,rfl,Ma,hz,ast,he⟩
 have akG:∀x∈zs,(-4≤x.gone∧x.gone≤4)∧(-4≤x.new∧x.new≤4)∧(0≤x.ai∧x.ai≤4):=fun x hx=>by obtain⟨i,r,p,_,_,rfl,_⟩:=oA (hz.mem_iff.1 hx);exact sq hV r i p
 have hzl:zs.length≤1250:=by rw[hz.length_eq];exact sO hV _ _ hR
 have hpr:∀x∈zs,∀q,0≤pI x q∧pI x q≤4:=fun x hx=>by obtain⟨i,r,p,_,hp,rfl,_⟩:=oA (hz.mem_iff.1 hx);exact Vp ((lU hV _).2 p hp)
 obtain⟨d0,d1,d2,d3,d4,d5,d6,d7,d8,d9,dh,hf,p6,nA,hr,Dv,Ie,Jt,bS⟩:=id Ma
 obtain⟨lD,KA,Ky,kK,rfl,Kz,E1,E0⟩:=Dv
 obtain⟨lE,KG,KD,kL,rfl,KE,E4,E3⟩:=Ie
 have F8:=hV.before.1
 have H8:=hV.after.1
 refine zD 7<|jf [0] Y15 (fun ro4 pY ZP=>?_)
 have hZ1:=ast.lq ZP
 obtain⟨Bn,abM,abK,xX,rfl,abL,R6,R5⟩:=hZ1
 refine zD 7<|js 20 (!decide (e15=0)) (fun h5=>?_) (fun h5=>?_)
 ·
  replace h5:=of_decide_eq_false (by simpa using h5)
  have yx:zs=[]∧e15=9:=by rcases he with h| ⟨_,h⟩;exact h;omega
  refine zD 8<|Sx qC.a.a (.tuple ⟨[zS,zI e15]⟩) [1] [] (cy.trans pY) ⟨zs,_,_,hz,rfl,.inl ⟨yx.1,rfl,yx.2,rfl⟩⟩
 replace h5:=of_decide_eq_true (by simpa using h5)
 have yx:zs≠[]∧e15=0:=by rcases he with ⟨_,h⟩|h;omega;exact h
 refine zD 9<|jc (vs:=[.slice Bn zs.length xX]) [] (hCt (show bL _ _ _ _ _ from ⟨Bn,abM,abK,xX,rfl,abL,R6,R5⟩) (by omega) hpr) ?_
 rintro _ _ ⟨rfl,rfl⟩
 refine jg 0 []<|jn fun rJ=>jd 9 [0]<|jl (b:=f15) (off:=0) (m:=13) (vs:=[d0,d1,d2,d3,d4,d5,.slice lD K.before.length kK,.slice lE K.after.length kL,zI K.gone,zI K.new,zI K.ai,d8,d9]) 6 ⟨_,_,_,.inl (pY _ _ hf),rfl⟩<|zD 4<|oU<|oU<|eG [1,1,1,1,1,0,1,0,0] [] (fun(zz:Nat×Value×Cells×(List Value)×Cells)=>[(1,.func (.func 80) ⟨[]⟩ ⟨[]⟩),(4,zS),(5,zI 0),(6,zP f15),(7,.slice Bn zs.length xX),(9,zz.2.1),(10,zP rJ),(29,zI (K.before.length:Int)),(30,zI (zz.1:Int))]) (fun(zz:Nat×Value×Cells×(List Value)×Cells)=>[.l zz.2.2.1,.l zz.2.2.2.2,.b rJ (.cells ⟨[zI ((aO zs).c 0 0),zI ((aO zs).c 0 1),zI ((aO zs).c 0 2),zI ((aO zs).c 0 3),zI ((aO zs).c 1 0),zI ((aO zs).c 1 1),zI ((aO zs).c 1 2),zI ((aO zs).c 1 3),zI ((aO zs).c 2 0),zI ((aO zs).c 2 1),zI ((aO zs).c 2 2),zI ((aO zs).c 2 3),zI ((aO zs).c 3 0),zI ((aO zs).c 3 1),zI ((aO zs).c 3 2),zI ((aO zs).c 3 3)]⟩ 112 (0,0)),.b b2 (.cells ⟨[v0,v1,.slice fa 0 fc,v3,v4,v5,v6,v7,zI K.gone,zI K.new,zI K.ai,vb]⟩ 38 (0,0)),.l fr]) (fun(zz:Nat×Value×Cells×(List Value)×Cells)=>(zz.1≤K.before.length∧zz.2.2.2.1.length=(xo (aO zs) ((zs.length:Nat):Int) K.after.length zz.1).length)∧aD zz.2.1 1 22 gN zz.2.2.2.1 zz.2.2.1∧∀aK,Knows aK zz.2.2.2.2→du (fun w l=>bL aK w 1 db l) zz.2.2.2.1 (xo (aO zs) ((zs.length:Nat):Int) K.after.length zz.1)) (fun(zz:Nat×Value×Cells×(List Value)×Cells)=>K.before.length-zz.1) (⟨0,zS,[],[],[]⟩) ⟨⟨by dsimp only;omega,rfl⟩,aD.nil _ _ _,fun _ _=> .nil⟩ [1,0,2,3,4] ?_
 rintro⟨i,vO,LO,es,Z⟩ hI K1 bU rest
 dsimp only at hI
 have hil:=Jb (aO zs) ((zs.length:Nat):Int) (w:=K.after.length) (by omega) i
 refine zD 5<|zJ 31 ((i:Int) <(K.before.length:Int)) (fun h6=>?_) fun h6=>?_
 ·
  refine zD 15<|jl (b:=f15) (off:=0) (m:=13) (vs:=[d0,d1,d2,d3,d4,d5,.slice lD K.before.length kK,.slice lE K.after.length kL,zI K.gone,zI K.new,zI K.ai,d8,d9]) 7 ⟨_,_,_,.inl (pY _ _ hf),rfl⟩<|zD 4<|eG [1,1,1,1,1,0,1,0,0,1,1,0,0,1,1,0,0] [K1] (fun(zz:Nat×Value×Cells×(List Value)×Cells)=>[(1,.func (.func 80) ⟨[]⟩ ⟨[]⟩),(4,zS),(5,zI 0),(6,zP f15),(7,.slice Bn zs.length xX),(9,zz.2.1),(10,zP rJ),(11,zI (i:Int)),(29,zI (K.before.length:Int)),(30,zI (i:Int)),(38,zI (K.after.length:Int)),(39,zI (zz.1:Int))]) (fun(zz:Nat×Value×Cells×(List Value)×Cells)=>[.l zz.2.2.1,.l zz.2.2.2.2,.b rJ (.cells ⟨[zI ((aO zs).c 0 0),zI ((aO zs).c 0 1),zI ((aO zs).c 0 2),zI ((aO zs).c 0 3),zI ((aO zs).c 1 0),zI ((aO zs).c 1 1),zI ((aO zs).c 1 2),zI ((aO zs).c 1 3),zI ((aO zs).c 2 0),zI ((aO zs).c 2 1),zI ((aO zs).c 2 2),zI ((aO zs).c 2 3),zI ((aO zs).c 3 0),zI ((aO zs).c 3 1),zI ((aO zs).c 3 2),zI ((aO zs).c 3 3)]⟩ 112 (0,0)),.b b2 (.cells ⟨[v0,v1,.slice fa 0 fc,v3,v4,v5,v6,v7,zI K.gone,zI K.new,zI K.ai,vb]⟩ 38 (0,0)),.l fr]) (fun(zz:Nat×Value×Cells×(List Value)×Cells)=>(zz.1≤K.after.length∧zz.2.2.2.1.length=((xo (aO zs) ((zs.length:Nat):Int) K.after.length i)++(qJ (aO zs) ((zs.length:Nat):Int) i zz.1)).length)∧aD zz.2.1 1 22 gN zz.2.2.2.1 zz.2.2.1∧∀aK,Knows aK zz.2.2.2.2→du (fun w l=>bL aK w 1 db l) zz.2.2.2.1 ((xo (aO zs) ((zs.length:Nat):Int) K.after.length i)++(qJ (aO zs) ((zs.length:Nat):Int) i zz.1))) (fun(zz:Nat×Value×Cells×(List Value)×Cells)=>K.after.length-zz.1) (⟨0,vO,LO,es,Z⟩) ⟨⟨by dsimp only;omega,by simpa [qJ] using hI.1.2⟩,hI.2.1,by simpa [qJ] using hI.2.2⟩ [0,1,2,3,4] ?_
  rintro⟨j,vO,LO,es,Z⟩ hJ K2 lL rest
  dsimp only at hJ
  have hjl:=Bv (aO zs) ((zs.length:Nat):Int) i j
  have ZQ:=hJ.1.2
  rw[List.length_append] at ZQ
  refine zD 5<|zJ 40 ((j:Int) <(K.after.length:Int)) (fun h7=>?_) fun h7=>?_
  ·
   refine zD 10 ?_
   have iG:=Mu zs i j
   refine zD 4<|Jn (b:=rJ) (off:=0) (len:=4) (sz:=4) (i:Int) (by omega)<|Jn (b:=rJ) (off:=0+(i:Int).toNat*4) (len:=4) (sz:=1) (j:Int) (by omega)<|oQ (b:=rJ) (off:=0+(i:Int).toNat*4+(j:Int).toNat*1) (m:=1) (vs:=[zI ((aO zs).c i j)]) 0 [2] [(rJ,.cells ⟨[zI ((aO zs).c 0 0),zI ((aO zs).c 0 1),zI ((aO zs).c 0 2),zI ((aO zs).c 0 3),zI ((aO zs).c 1 0),zI ((aO zs).c 1 1),zI ((aO zs).c 1 2),zI ((aO zs).c 1 3),zI ((aO zs).c 2 0),zI ((aO zs).c 2 1),zI ((aO zs).c 2 2),zI ((aO zs).c 2 3),zI ((aO zs).c 3 0),zI ((aO zs).c 3 1),zI ((aO zs).c 3 2),zI ((aO zs).c 3 3)]⟩ 112 (0,0))] (fun s _ hZ=>r8 (hZ _ (.head _)) (D6 (m:=aO zs) (by omega) (by omega)))<|zD 2<|jp (vs:=[zI ((aO zs).c i j),zI (zs.length:Int)]) [] [] (fun aE hs hZ=>aro)<|zD 1<|js 50 (decide (((aO zs).c i j)=(zs.length:Int))) (fun h8=>?_) (fun h8=>?_)
   ·
    refine zD 5<|jn fun b54=>jn fun b55=>jk (sz:=1) (ps:=es) (qs:=[(.slice (some ⟨b54,0,none⟩) 2 2:Value)]) (enc:=gN) (w:= .slice (some ⟨b55,0,none⟩) 1 1) [2] [0] [(b55,.cells ⟨([(.slice (some ⟨b54,0,none⟩) 2 2:Value)].map gN).flatten⟩ 22 (0,0))] (hJ.2.1) (fun s _ hZ=>cg [(.slice (some ⟨b54,0,none⟩) 2 2:Value)] (hZ _ (.head _)) (by intro p hp;rfl)) (by intro p hp;rw[List.mem_singleton] at hp;subst hp;exact aj rfl) (by simp only[List.length_cons,List.length_nil];omega) (fun v56 L56 vq=>?_)
    obtain⟨Xf,Xd,aeO⟩:=vq.form
    subst aeO
    refine zD 3<|ja ((j:Int)+1) (by omega)<|zD 2<|Lh lL (⟨j+1,(.slice Xf ((es++[(.slice (some ⟨b54,0,none⟩) 2 2:Value)])).length Xd),L56,(es++[(.slice (some ⟨b54,0,none⟩) 2 2:Value)]),Z++[(b54,.cells ⟨[zI (i:Int),zI (j:Int)]⟩ 3 (0,0))]⟩) ⟨⟨by dsimp only;omega,by dsimp only;rw[Vi (of_decide_eq_true (by assumption)),←List.append_assoc];simp only[List.length_append,List.length_cons,List.length_nil] at*;omega⟩,vq,fun aK hk=>by dsimp only;rw[Vi (of_decide_eq_true (by assumption)),←List.append_assoc];exact(hJ.2.2 aK hk.left).snoc (cb (enc:=db) (T:=3) [(i:Int),(j:Int)] (hk.right _ (.head _)) (fun _ _=>rfl))⟩ (by dsimp only;omega) [[0],[3,2],[4],[5],[6]] (Sub.refl _)
   refine zD 3<|ja ((j:Int)+1) (by omega)<|zD 2<|bO lL (⟨j+1,vO,LO,es,Z⟩) ⟨⟨by dsimp only;omega,by dsimp only;rw[Vj (of_decide_eq_false (by assumption))];exact hJ.1.2⟩,hJ.2.1,by dsimp only;rw[Vj (of_decide_eq_false (by assumption))];exact hJ.2.2⟩ (by dsimp only;omega) [0,1,2,3,4] (Sub.refl _)
  refine zD 3<|ja ((i:Int)+1) (by omega)<|zD 2<|bO bU (⟨i+1,vO,LO,es,Z⟩) ⟨⟨by dsimp only;omega,by have:=hJ.1.2;rw[show j=K.after.length by omega] at this;exact this⟩,hJ.2.1,by have:=hJ.2.2;rw[show j=K.after.length by omega] at this;exact this⟩ (by dsimp only;omega) [0,1,2,3,4] (Sub.refl _)
 refine zD 9<|aNu qC.a.a (.tuple ⟨[vO,zI 0]⟩) [0,1,4] LO Z (cy.trans pY) ⟨zs,_,_,hz,rfl,.inr ⟨yx.1,rfl,fun aK hk=>⟨es,hI.2.1.lq hk.left,by have:=hI.2.2 aK hk.right;rwa[show i=K.before.length by omega] at this⟩⟩⟩
structure tV where
 f:Bool
 a:Int
 b:Int
 w:Int
def Ir(m:iH)(n:Int)(i j:Nat):Int:=max (m.c i j) (n-m.c i j)
def yK(m:iH)(n:Int)(i:Nat)(s:tV):Nat→tV
 |0=>s
 |j+1=>if Ir m n i j <(yK m n i s j).w then ⟨true,i,j,Ir m n i j⟩ else yK m n i s j
def MK(m:iH)(n:Int)(w:Nat):Nat→tV
 |0=>⟨false,0,0,n⟩
 |i+1=>yK m n i (MK m n w i) w
def Qn(s:tV):Int×Int×Int×Int:=bif s.f then (s.a,s.b,s.w,0) else (0,0,0,11)
theorem ahg{m:iH}{s:tV}{f:Bool}{a b w:Int}(h:(⟨f,a,b,w⟩:tV)=yK m n i s j)(h2:Ir m n i j <w):(⟨true,i,j,Ir m n i j⟩:tV)=yK m n i s (j+1):=by rw[yK,←h,if_pos h2]
theorem T8{m:iH}{s:tV}{f:Bool}{a b w:Int}(h:(⟨f,a,b,w⟩:tV)=yK m n i s j)(h2:¬Ir m n i j <w):(⟨f,a,b,w⟩:tV)=yK m n i s (j+1):=by rw[yK,←h,if_neg h2]
theorem arn{rows:List bX}{ro:Nat→Option Obj}(hK:gG ro l K)(hV:fU K)(hR:rows.length≤2)(hB:mM ro l K rows)(hCt:AO):Hm zT 43 [.agg ⟨l⟩] ro [] (fun r Y=>∃zs v e,zs.Perm (ek K (cv K) (dC K.gone K.new K.ai) rows)∧r= .tuple ⟨[v,zI e]⟩∧((zs=[]∧v= zS∧e=9∧Y=[])∨(zs≠[]∧e=0∧∀aK,Knows aK Y→LL aK v (xo (aO zs) ((zs.length:Nat):Int) K.after.length K.before.length)))):=by
 obtain⟨v0,v1,v3,v4,v5,v6,v7,vb,fa,fc,hv,rfl,_⟩:=id hK
 refine H2 av [] [] bB fun fr=>zD 2<|jn fun b1=>jd 6 [0]<|M8 (vs:=[.agg ⟨[v0,v1,.slice fa 0 fc,v3,v4,v5,v6,v7,zI K.gone,zI K.new,zI K.ai,vb]⟩,.func (.func 80) ⟨[]⟩ ⟨[]⟩]) [] (fun _ _ h=>h) (ake hK hV hR hB hCt) ?_
 rintro _ Y5 ⟨zs,v5,e5,hz,rfl,hcs⟩
 refine zD 6<|Sx qC (.tuple ⟨[v5,zI e5]⟩) [0,2] Y5 (Sub.refl _) ⟨zs,v5,e5,hz,rfl,hcs⟩
theorem azz{rows:List bX}{ro:Nat→Option Obj}(hK:gG ro l K)(hV:fU K)(hR:rows.length≤2)(hB:mM ro l K rows)(hCt:AO):Hm zT 15 [.agg ⟨l⟩] ro [] (fun r Y=>∃zs a b w e,zs.Perm (ek K (cv K) (dC K.gone K.new K.ai) rows)∧Y=[]∧r= .tuple ⟨[zI a,zI b,zI w,zI e]⟩∧((zs=[]∧a=0∧b=0∧w=0∧e=9)∨(zs≠[]∧(a,b,w,e)=Qn (MK (aO zs) ((zs.length:Nat):Int) K.after.length K.before.length)))):=by
 obtain⟨v0,v1,v3,v4,v5,v6,v7,vb,fa,fc,hv,rfl,_⟩:=id hK
 refine H2 av [] [] bB fun fr=>zD 2<|jn fun b1=>jd 8 [0]<|arC (vs:=[.agg ⟨[v0,v1,.slice fa 0 fc,v3,v4,v5,v6,v7,zI K.gone,zI K.new,zI K.ai,vb]⟩]) [] (fun _ _ h=>h) (adm hK hV hR hB) ?_
 rintro _ aE Y14 cy ⟨f14,zs,v14,Mp,rfl,Ma,hz,SU,he⟩
 have akG:∀x∈zs,(-4≤x.gone∧x.gone≤4)∧(-4≤x.new∧x.new≤4)∧(0≤x.ai∧x.ai≤4):=fun x hx=>by obtain⟨i,r,p,_,_,rfl,_⟩:=oA (hz.mem_iff.1 hx);exact sq hV r i p
 have hzl:zs.length≤1250:=by rw[hz.length_eq];exact sO hV _ _ hR
 have hpr:∀x∈zs,∀q,0≤pI x q∧pI x q≤4:=fun x hx=>by obtain⟨i,r,p,_,hp,rfl,_⟩:=oA (hz.mem_iff.1 hx);exact Vp ((lU hV _).2 p hp)
 obtain⟨d0,d1,d2,d3,d4,d5,d6,d7,d8,d9,dh,hf,p6,nA,hr,Dv,Ie,Jt,bS⟩:=id Ma
 obtain⟨lD,KA,Ky,kK,rfl,Kz,E1,E0⟩:=Dv
 obtain⟨lE,KG,KD,kL,rfl,KE,E4,E3⟩:=Ie
 have F8:=hV.before.1
 have H8:=hV.after.1
 refine zD 7<|jf [0] Y14 (fun ro4 pY ZP=>?_)
 have hZ1:=SU.lq ZP
 obtain⟨Bn,abM,abK,xX,rfl,abL,R6,R5⟩:=hZ1
 refine zD 7<|js 20 (!decide (Mp=0)) (fun h5=>?_) (fun h5=>?_)
 ·
  replace h5:=of_decide_eq_false (by simpa using h5)
  have yx:zs=[]∧Mp=9:=by rcases he with h| ⟨_,h⟩;exact h;omega
  refine zD 10<|Sx qC.a.a (.tuple ⟨[zI 0,zI 0,zI 0,zI Mp]⟩) [1] [] (cy.trans pY) ⟨zs,_,_,_,_,hz,rfl,rfl,.inl ⟨yx.1,rfl,rfl,rfl,yx.2⟩⟩
 replace h5:=of_decide_eq_true (by simpa using h5)
 have yx:zs≠[]∧Mp=0:=by rcases he with ⟨_,h⟩|h;omega;exact h
 refine zD 5<|jc (vs:=[.slice Bn zs.length xX]) [] (hCt (show bL _ _ _ _ _ from ⟨Bn,abM,abK,xX,rfl,abL,R6,R5⟩) (by omega) hpr) ?_
 rintro _ _ ⟨rfl,rfl⟩
 refine jg 0 []<|jn fun b8=>jd 16 [0]<|jl (b:=f14) (off:=0) (m:=13) (vs:=[d0,d1,d2,d3,d4,d5,.slice lD K.before.length kK,.slice lE K.after.length kL,zI K.gone,zI K.new,zI K.ai,d8,d9]) 6 ⟨_,_,_,.inl (pY _ _ hf),rfl⟩<|zD 4<|eG [1,1,1,1,1,0,1,0,0] [] (fun(zz:Nat×Bool×Int×Int×Int)=>[(2,zI zz.2.2.1),(3,zI zz.2.2.2.1),(4,zI zz.2.2.2.2),(5,zI Mp),(6,zP f14),(7,.slice Bn zs.length xX),(8,zP b8),(9,.bool zz.2.1),(31,zI (K.before.length:Int)),(32,zI (zz.1:Int))]) (fun(zz:Nat×Bool×Int×Int×Int)=>[.b b8 (.cells ⟨[zI ((aO zs).c 0 0),zI ((aO zs).c 0 1),zI ((aO zs).c 0 2),zI ((aO zs).c 0 3),zI ((aO zs).c 1 0),zI ((aO zs).c 1 1),zI ((aO zs).c 1 2),zI ((aO zs).c 1 3),zI ((aO zs).c 2 0),zI ((aO zs).c 2 1),zI ((aO zs).c 2 2),zI ((aO zs).c 2 3),zI ((aO zs).c 3 0),zI ((aO zs).c 3 1),zI ((aO zs).c 3 2),zI ((aO zs).c 3 3)]⟩ 112 (0,0)),.b b1 (.cells ⟨[v0,v1,.slice fa 0 fc,v3,v4,v5,v6,v7,zI K.gone,zI K.new,zI K.ai,vb]⟩ 38 (0,0)),.l fr]) (fun(zz:Nat×Bool×Int×Int×Int)=>zz.1≤K.before.length∧(⟨zz.2.1,zz.2.2.1,zz.2.2.2.1,zz.2.2.2.2⟩:tV)=(MK (aO zs) ((zs.length:Nat):Int) K.after.length zz.1)) (fun(zz:Nat×Bool×Int×Int×Int)=>K.before.length-zz.1) (⟨0,false,0,0,((zs.length:Nat):Int)⟩) ⟨by dsimp only;omega,rfl⟩ [0,1,2] ?_
 rintro⟨i,qf,qa,qb,qw⟩ hI K1 bU rest
 dsimp only at hI
 refine zD 5<|zJ 33 ((i:Int) <(K.before.length:Int)) (fun h6=>?_) fun h6=>?_
 ·
  refine zD 15<|jl (b:=f14) (off:=0) (m:=13) (vs:=[d0,d1,d2,d3,d4,d5,.slice lD K.before.length kK,.slice lE K.after.length kL,zI K.gone,zI K.new,zI K.ai,d8,d9]) 7 ⟨_,_,_,.inl (pY _ _ hf),rfl⟩<|zD 4<|eG [1,1,1,1,1,0,1,0,0,1,1,0,0,1,1,0,0] [K1] (fun(zz:Nat×Bool×Int×Int×Int)=>[(2,zI zz.2.2.1),(3,zI zz.2.2.2.1),(4,zI zz.2.2.2.2),(5,zI Mp),(6,zP f14),(7,.slice Bn zs.length xX),(8,zP b8),(9,.bool zz.2.1),(10,zI (i:Int)),(31,zI (K.before.length:Int)),(32,zI (i:Int)),(40,zI (K.after.length:Int)),(41,zI (zz.1:Int))]) (fun(zz:Nat×Bool×Int×Int×Int)=>[.b b8 (.cells ⟨[zI ((aO zs).c 0 0),zI ((aO zs).c 0 1),zI ((aO zs).c 0 2),zI ((aO zs).c 0 3),zI ((aO zs).c 1 0),zI ((aO zs).c 1 1),zI ((aO zs).c 1 2),zI ((aO zs).c 1 3),zI ((aO zs).c 2 0),zI ((aO zs).c 2 1),zI ((aO zs).c 2 2),zI ((aO zs).c 2 3),zI ((aO zs).c 3 0),zI ((aO zs).c 3 1),zI ((aO zs).c 3 2),zI ((aO zs).c 3 3)]⟩ 112 (0,0)),.b b1 (.cells ⟨[v0,v1,.slice fa 0 fc,v3,v4,v5,v6,v7,zI K.gone,zI K.new,zI K.ai,vb]⟩ 38 (0,0)),.l fr]) (fun(zz:Nat×Bool×Int×Int×Int)=>zz.1≤K.after.length∧(⟨zz.2.1,zz.2.2.1,zz.2.2.2.1,zz.2.2.2.2⟩:tV)=(yK (aO zs) ((zs.length:Nat):Int) i (MK (aO zs) ((zs.length:Nat):Int) K.after.length i) zz.1)) (fun(zz:Nat×Bool×Int×Int×Int)=>K.after.length-zz.1) (⟨0,qf,qa,qb,qw⟩) ⟨by dsimp only;omega,hI.2⟩ [0,1,2] ?_
  rintro⟨j,qf,qa,qb,qw⟩ hJ K2 lL rest
  dsimp only at hJ
  refine zD 5<|zJ 42 ((j:Int) <(K.after.length:Int)) (fun h7=>?_) fun h7=>?_
  ·
   refine zD 10 ?_
   have iG:=Mu zs i j
   refine zD 3<|Jn (b:=b8) (off:=0) (len:=4) (sz:=4) (i:Int) (by omega)<|Jn (b:=b8) (off:=0+(i:Int).toNat*4) (len:=4) (sz:=1) (j:Int) (by omega)<|oQ (b:=b8) (off:=0+(i:Int).toNat*4+(j:Int).toNat*1) (m:=1) (vs:=[zI ((aO zs).c i j)]) 0 [0] [(b8,.cells ⟨[zI ((aO zs).c 0 0),zI ((aO zs).c 0 1),zI ((aO zs).c 0 2),zI ((aO zs).c 0 3),zI ((aO zs).c 1 0),zI ((aO zs).c 1 1),zI ((aO zs).c 1 2),zI ((aO zs).c 1 3),zI ((aO zs).c 2 0),zI ((aO zs).c 2 1),zI ((aO zs).c 2 2),zI ((aO zs).c 2 3),zI ((aO zs).c 3 0),zI ((aO zs).c 3 1),zI ((aO zs).c 3 2),zI ((aO zs).c 3 3)]⟩ 112 (0,0))] (fun s _ hZ=>r8 (hZ _ (.head _)) (D6 (m:=aO zs) (by omega) (by omega)))<|zD 4<|Jn (b:=b8) (off:=0) (len:=4) (sz:=4) (i:Int) (by omega)<|Jn (b:=b8) (off:=0+(i:Int).toNat*4) (len:=4) (sz:=1) (j:Int) (by omega)<|oQ (b:=b8) (off:=0+(i:Int).toNat*4+(j:Int).toNat*1) (m:=1) (vs:=[zI ((aO zs).c i j)]) 0 [0] [(b8,.cells ⟨[zI ((aO zs).c 0 0),zI ((aO zs).c 0 1),zI ((aO zs).c 0 2),zI ((aO zs).c 0 3),zI ((aO zs).c 1 0),zI ((aO zs).c 1 1),zI ((aO zs).c 1 2),zI ((aO zs).c 1 3),zI ((aO zs).c 2 0),zI ((aO zs).c 2 1),zI ((aO zs).c 2 2),zI ((aO zs).c 2 3),zI ((aO zs).c 3 0),zI ((aO zs).c 3 1),zI ((aO zs).c 3 2),zI ((aO zs).c 3 3)]⟩ 112 (0,0))] (fun s _ hZ=>r8 (hZ _ (.head _)) (D6 (m:=aO zs) (by omega) (by omega)))<|ja ((zs.length:Int)-((aO zs).c i j)) (by omega)<|jmx (k:= .i64) (a:=((aO zs).c i j)) (b:=((zs.length:Int)-((aO zs).c i j)))<|zD 8<|zJ 60 ((max ((aO zs).c i j) ((zs.length:Int)-((aO zs).c i j))) <qw) (fun h8=>?_) fun h8=>?_
   ·
    refine zD 11<|ja ((j:Int)+1) (by omega)<|zD 2<|bO lL (⟨j+1,true,(i:Int),(j:Int),(max ((aO zs).c i j) ((zs.length:Int)-((aO zs).c i j)))⟩) ⟨by dsimp only;omega,ahg hJ.2 (by assumption)⟩ (by dsimp only;omega) [0,1,2] (Sub.refl _)
   refine zD 3<|ja ((j:Int)+1) (by omega)<|zD 2<|bO lL (⟨j+1,qf,qa,qb,qw⟩) ⟨by dsimp only;omega,T8 hJ.2 (by assumption)⟩ (by dsimp only;omega) [0,1,2] (Sub.refl _)
  refine zD 3<|ja ((i:Int)+1) (by omega)<|zD 2<|bO bU (⟨i+1,qf,qa,qb,qw⟩) ⟨by dsimp only;omega,by have:=hJ.2;rw[show j=K.after.length by omega] at this;exact this⟩ (by dsimp only;omega) [0,1,2] (Sub.refl _)
 refine zD 8<|js 67 (!qf) (fun h9=>?_) (fun h9=>?_)
 ·
  try simp only[zB] at h9
  refine zD 9<|Sx qC.a.a (.tuple ⟨[zI 0,zI 0,zI 0,zI 11]⟩) [2] [] (cy.trans pY) ⟨zs,_,_,_,_,hz,rfl,rfl,.inr ⟨yx.1,by have:=hI.2;rw[show i=K.before.length by omega] at this;rw[←this];simp only[Qn];cases qf<;>first|rfl|contradiction|simp_all⟩⟩
 try simp only[zB] at h9
 refine zD 13<|Sx qC.a.a (.tuple ⟨[zI qa,zI qb,zI qw,zI 0]⟩) [2] [] (cy.trans pY) ⟨zs,_,_,_,_,hz,rfl,rfl,.inr ⟨yx.1,by have:=hI.2;rw[show i=K.before.length by omega] at this;rw[←this];simp only[Qn];cases qf<;>first|rfl|contradiction|simp_all⟩⟩
end Go.L
