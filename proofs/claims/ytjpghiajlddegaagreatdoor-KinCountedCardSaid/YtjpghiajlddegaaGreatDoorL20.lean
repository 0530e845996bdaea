/- Part 20 of the proof: a program logic, contracts, a theorem on goroutines. -/
import Derived.Test.YtjpghiajlddegaaGreatDoorL19
set_option maxRecDepth 100000
set_option linter.all false
namespace Go.L
open Go Go.Conc Go.Proofs
variable {n:Int} {κ:Type} {z l z1:List Value} {b i j bu sz r dep by1:Nat} {K:aZ} {fs:List gV} {ag:Bool}
def S3:List bF:=[⟨(bs [102,111,111,100]),-1⟩,⟨(bs [98,114,101,97,100]),0⟩,⟨(bs [99,108,111,116,104]),-1⟩,⟨(bs [104,97,116,115]),2⟩]
def BT:List bZ:=[⟨(bs [98,97,107,101,114]),1,-1,[]⟩,⟨(bs [98,111,110,110,101,116,115]),-1,3,[]⟩,⟨(bs [99,111,110,102,101,99,116,105,111,110,101,114]),0,-1,[0]⟩,⟨(bs [104,97,116,116,101,114]),3,-1,[]⟩,⟨(bs [109,101,114,99,101,114]),2,-1,[3]⟩,⟨(bs [109,105,108,108,105,110,101,114]),-1,1,[]⟩]
def Lq:List aF:=[⟨(bs [115,109,105,116,104]),0,1,0,false⟩,⟨(bs [97,110,110,97]),0,2,3,false⟩,⟨(bs [115,109,121,116,104]),1,1,2,false⟩]
def Lr:List aF:=[⟨(bs [115,109,121,116,104]),0,2,0,false⟩,⟨(bs [115,109,105,116,104]),1,1,-1,false⟩,⟨(bs [98,101,110]),0,1,4,false⟩]
abbrev aS(n:Int):aZ where
 ways:=[[⟨1,0,0,0,0,0,0⟩,⟨2,0,0,0,0,0,0⟩]]
 cs:=S3
 hd:=BT
 rules:=[⟨(bs [121]),(bs [105])⟩]
 before:=Lq
 after:=Lr
 gone:=1
 new:=1
 af:=n
 facts:=[]
 str:=[[⟨1,0⟩,⟨2,0⟩],[⟨1,0⟩]]
abbrev dk(dL fI b9 fg dC c8 cZ:Nat)(n:Int):List Value:=[.slice (some ⟨dL,0,none⟩) 2 2,.slice (some ⟨fI,0,none⟩) 1 1,zS,.slice (some ⟨b9,0,none⟩) 4 4,.slice (some ⟨fg,0,none⟩) 6 6,.slice (some ⟨dC,0,none⟩) 1 1,.slice (some ⟨c8,0,none⟩) 3 3,.slice (some ⟨cZ,0,none⟩) 3 3,zI 1,zI 1,zI n,zS]
abbrev dw(dL mD lX fI og b9 fg jq lM dC c8 cZ:Nat):Cells:=[(dL,.cells ⟨[.slice (some ⟨mD,0,none⟩) 2 2,.slice (some ⟨lX,0,none⟩) 1 1]⟩ 71 (0,0)),(mD,.cells ⟨[zI 1,zI 0,zI 2,zI 0]⟩ 70 (0,0)),(lX,.cells ⟨[zI 1,zI 0]⟩ 70 (0,0)),(fI,.cells ⟨[.slice (some ⟨og,0,none⟩) 2 2]⟩ 78 (0,0)),(og,.cells ⟨[zI 1,zI 0,zI 0,zI 0,zI 0,zI 0,zI 0,zI 2,zI 0,zI 0,zI 0,zI 0,zI 0,zI 0]⟩ 74 (0,0)),(b9,.cells ⟨[.string (bs [102,111,111,100]),zI (-1),.string (bs [98,114,101,97,100]),zI 0,.string (bs [99,108,111,116,104]),zI (-1),.string (bs [104,97,116,115]),zI 2]⟩ 130 (0,0)),(fg,.cells ⟨[.string (bs [98,97,107,101,114]),zI 1,zI (-1),zS,.string (bs [98,111,110,110,101,116,115]),zI (-1),zI 3,zS,.string (bs [99,111,110,102,101,99,116,105,111,110,101,114]),zI 0,zI (-1),.slice (some ⟨jq,0,none⟩) 1 1,.string (bs [104,97,116,116,101,114]),zI 3,zI (-1),zS,.string (bs [109,101,114,99,101,114]),zI 2,zI (-1),.slice (some ⟨lM,0,none⟩) 1 1,.string (bs [109,105,108,108,105,110,101,114]),zI (-1),zI 1,zS]⟩ 133 (0,0)),(jq,.cells ⟨[zI 0]⟩ 3 (0,0)),(lM,.cells ⟨[zI 3]⟩ 3 (0,0)),(dC,.cells ⟨[.string (bs [121]),.string (bs [105])]⟩ 81 (0,0)),(c8,.cells ⟨[.string (bs [115,109,105,116,104]),zI 0,zI 1,zI 0,.bool false,.string (bs [97,110,110,97]),zI 0,zI 2,zI 3,.bool false,.string (bs [115,109,121,116,104]),zI 1,zI 1,zI 2,.bool false]⟩ 86 (0,0)),(cZ,.cells ⟨[.string (bs [115,109,121,116,104]),zI 0,zI 2,zI 0,.bool false,.string (bs [115,109,105,116,104]),zI 1,zI 1,zI (-1),.bool false,.string (bs [98,101,110]),zI 0,zI 1,zI 4,.bool false]⟩ 86 (0,0))]
abbrev afG(jq lM:Nat):List bp:=[⟨(bs [98,97,107,101,114]),1,-1,zS⟩,⟨(bs [98,111,110,110,101,116,115]),-1,3,zS⟩,⟨(bs [99,111,110,102,101,99,116,105,111,110,101,114]),0,-1,.slice (some ⟨jq,0,none⟩) 1 1⟩,⟨(bs [104,97,116,116,101,114]),3,-1,zS⟩,⟨(bs [109,101,114,99,101,114]),2,-1,.slice (some ⟨lM,0,none⟩) 1 1⟩,⟨(bs [109,105,108,108,105,110,101,114]),-1,1,zS⟩]
theorem dE{ro:Nat→Option Obj}{dL mD lX fI og b9 fg jq lM dC c8 cZ:Nat}(hk:Knows ro (dw dL mD lX fI og b9 fg jq lM dC c8 cZ)):gh ro (dk dL fI b9 fg dC c8 cZ n) (aS n):=
 ⟨_,_,_,_,_,_,_,_,none,0,afG jq lM,rfl,
  ⟨[.slice (some ⟨mD,0,none⟩) 2 2,.slice (some ⟨lX,0,none⟩) 1 1],bS (enc:=iQ) (T:=71) [.slice (some ⟨mD,0,none⟩) 2 2,.slice (some ⟨lX,0,none⟩) 1 1] (hk _ (.head _)) (fun _ _=>rfl),
   .cons (bS (enc:=cI) (T:=70) [⟨1,0⟩,⟨2,0⟩] (hk _ (.tail _ (.head _))) (fun _ _=>rfl)) (.cons (bS (enc:=cI) (T:=70) [⟨1,0⟩] (hk _ (.tail _ (.tail _ (.head _)))) (fun _ _=>rfl)) .nil)⟩,
  ⟨[.slice (some ⟨og,0,none⟩) 2 2],bS (enc:=iQ) (T:=78) [.slice (some ⟨og,0,none⟩) 2 2] (hk _ (.tail _ (.tail _ (.tail _ (.head _))))) (fun _ _=>rfl),
   .cons (bS (enc:=mw) (T:=74) [⟨1,0,0,0,0,0,0⟩,⟨2,0,0,0,0,0,0⟩] (hk _ (.tail _ (.tail _ (.tail _ (.tail _ (.head _)))))) (fun _ _=>rfl)) .nil⟩,
  ⟨bS (enc:=oD) (T:=130) S3 (hk _ (.tail _ (.tail _ (.tail _ (.tail _ (.tail _ (.head _))))))) (fun _ _=>rfl),bS (enc:=lK) (T:=133) (afG jq lM) (hk _ (.tail _ (.tail _ (.tail _ (.tail _ (.tail _ (.tail _ (.head _)))))))) (fun _ _=>rfl),
   .cons ⟨rfl,rfl,rfl,bI.nil _ _ _ _ _⟩ (.cons ⟨rfl,rfl,rfl,bI.nil _ _ _ _ _⟩ (.cons ⟨rfl,rfl,rfl,bS (enc:=cJ) (T:=3) [0] (hk _ (.tail _ (.tail _ (.tail _ (.tail _ (.tail _ (.tail _ (.tail _ (.head _))))))))) (fun _ _=>rfl)⟩ (.cons ⟨rfl,rfl,rfl,bI.nil _ _ _ _ _⟩ (.cons ⟨rfl,rfl,rfl,bS (enc:=cJ) (T:=3) [3] (hk _ (.tail _ (.tail _ (.tail _ (.tail _ (.tail _ (.tail _ (.tail _ (.tail _ (.head _)))))))))) (fun _ _=>rfl)⟩ (.cons ⟨rfl,rfl,rfl,bI.nil _ _ _ _ _⟩ .nil)))))⟩,
  .cons ⟨rfl,rfl,rfl⟩ (.cons ⟨rfl,rfl,rfl⟩ (.cons ⟨rfl,rfl,rfl⟩ (.cons ⟨rfl,rfl,rfl⟩ (.cons ⟨rfl,rfl,rfl⟩ (.cons ⟨rfl,rfl,rfl⟩ .nil))))),
  bS (enc:=jo) (T:=81) [⟨(bs [121]),(bs [105])⟩] (hk _ (.tail _ (.tail _ (.tail _ (.tail _ (.tail _ (.tail _ (.tail _ (.tail _ (.tail _ (.head _))))))))))) (fun _ _=>rfl),bS (enc:=eQ) (T:=86) Lq (hk _ (.tail _ (.tail _ (.tail _ (.tail _ (.tail _ (.tail _ (.tail _ (.tail _ (.tail _ (.tail _ (.head _)))))))))))) (fun _ _=>rfl),bS (enc:=eQ) (T:=86) Lr (hk _ (.tail _ (.tail _ (.tail _ (.tail _ (.tail _ (.tail _ (.tail _ (.tail _ (.tail _ (.tail _ (.tail _ (.head _))))))))))))) (fun _ _=>rfl),bI.nil _ _ _ _ _⟩
theorem dF(dL fI b9 fg dC c8 cZ:Nat)(n:Int):YG (aS n) (dk dL fI b9 fg dC c8 cZ n):=
 ⟨_,_,_,_,_,_,_,_,none,0,rfl,EC rfl rfl rfl rfl rfl rfl rfl rfl⟩
theorem Jo{ro:Nat→Option Obj}:eo zT 42 [zI n] ro [] (fun r Y=>∃l,r= .agg ⟨l⟩∧(∀aK,Knows aK Y→gh aK l (aS n))∧YG (aS n) l):=by
 refine bA au [] [] bn<|zD 2<|jn fun b2=>zD 7<|jn fun b9=>jp (vs:=[.string (bs [98,97,107,101,114]),zI 1,zS]) [] [] (fun aA hs hZ=>cIs)<|jp (vs:=[.string (bs [98,111,110,110,101,116,115]),zI 3]) [] [] (fun aA hs hZ=>aD2)<|jn fun jq=>jp (vs:=[.string (bs [99,111,110,102,101,99,116,105,111,110,101,114]),zI 0,.slice (some ⟨jq,0,none⟩) 1 1]) [] [] (fun aA hs hZ=>cIs)<|jp (vs:=[.string (bs [104,97,116,116,101,114]),zI 3,zS]) [] [] (fun aA hs hZ=>cIs)<|jn fun lM=>jp (vs:=[.string (bs [109,101,114,99,101,114]),zI 2,.slice (some ⟨lM,0,none⟩) 1 1]) [] [] (fun aA hs hZ=>cIs)<|jp (vs:=[.string (bs [109,105,108,108,105,110,101,114]),zI 1]) [] [] (fun aA hs hZ=>aD2)<|jn fun fg=>zD 1<|jn fun b3=>jd 6 [0]<|jn fun mD=>zD 1<|jn fun lX=>jn fun dL=>zD 3<|jn fun og=>zD 1<|jn fun fI=>zD 1<|jn fun b4=>jd 8 [0,0,6]<|m8 [3,4] ⟨fun z1 t2 rD=>?_,fun z4 t5 hL6=>?_,trivial⟩
 ·
  refine jn fun dC=>bC rD [1,2,3,4,5,6,7,8,9,10,11,12]<|jp (vs:=[.string (bs [115,109,105,116,104]),zI 0,zI 1,zI 0]) [] [] (fun aA hs hZ=>jT)<|jp (vs:=[.string (bs [97,110,110,97]),zI 0,zI 2,zI 3]) [] [] (fun aA hs hZ=>jT)<|jp (vs:=[.string (bs [115,109,121,116,104]),zI 1,zI 1,zI 2]) [] [] (fun aA hs hZ=>jT)<|m8 [7,8] ⟨fun z7 t8 XU=>?_,fun z10 t11 F5=>?_,trivial⟩
  ·
   refine jn fun c8=>bC XU [1,2,3,4,5,6,7,8,9,10,11,12,13]<|jp (vs:=[.string (bs [115,109,121,116,104]),zI 0,zI 2,zI 0]) [] [] (fun aA hs hZ=>jT)<|jp (vs:=[.string (bs [115,109,105,116,104]),zI 1,zI 1,zI (-1)]) [] [] (fun aA hs hZ=>jT)<|jp (vs:=[.string (bs [98,101,110]),zI 0,zI 1,zI 4]) [] [] (fun aA hs hZ=>jT)<|aN 11 fun ak9 alp KU=>jn fun cZ=>bC KU [1,2,3,4,5,6,7,8,9,10,11,12,13,14]<|zD 1<|aN 14 fun au6 avZ asy=>jd 1 [14]<|eO asy<|zD 2<|aE q0 (.agg ⟨dk dL fI b9 fg dC c8 cZ n⟩) [14] [6,8,7,4,5,13,10,12,11,2,1,0] (dw dL mD lX fI og b9 fg jq lM dC c8 cZ) (Sub.refl _) ⟨_,_,rfl,rfl,_,rfl,fun _ hk=>dE hk,dF _ _ _ _ _ _ _ _⟩
  refine jp (vs:=[.string (bs [115,109,121,116,104]),zI 0,zI 2,zI 0]) [] [] (fun aA hs hZ=>jT)<|bC F5 [0,1,2,3,4,5,6,7,8,9,10,11,12]<|m8 [7,9] ⟨fun z15 t16 KT=>?_,fun z18 t19 SC=>?_,trivial⟩
  ·
   refine jn fun c8=>bC KT [1,2,3,4,5,6,7,8,9,10,11,12,13]<|jp (vs:=[.string (bs [115,109,105,116,104]),zI 1,zI 1,zI (-1)]) [] [] (fun aA hs hZ=>jT)<|jp (vs:=[.string (bs [98,101,110]),zI 0,zI 1,zI 4]) [] [] (fun aA hs hZ=>jT)<|aN 11 fun au2 avV XW=>jn fun cZ=>bC XW [1,2,3,4,5,6,7,8,9,10,11,12,13,14]<|zD 1<|aN 14 fun au1 avU aee=>jd 1 [14]<|eO aee<|zD 2<|aE q0 (.agg ⟨dk dL fI b9 fg dC c8 cZ n⟩) [14] [6,8,7,4,5,13,10,12,11,2,1,0] (dw dL mD lX fI og b9 fg jq lM dC c8 cZ) (Sub.refl _) ⟨_,_,rfl,rfl,_,rfl,fun _ hk=>dE hk,dF _ _ _ _ _ _ _ _⟩
  refine jp (vs:=[.string (bs [115,109,105,116,104]),zI 1,zI 1,zI (-1)]) [] [] (fun aA hs hZ=>jT)<|bC SC [0,1,2,3,4,5,6,7,8,9,10,11,12]<|m8 [7,10] ⟨fun z23 t24 SB=>?_,fun z26 t27 KS=>?_,trivial⟩
  ·
   refine jn fun c8=>bC SB [1,2,3,4,5,6,7,8,9,10,11,12,13]<|jp (vs:=[.string (bs [98,101,110]),zI 0,zI 1,zI 4]) [] [] (fun aA hs hZ=>jT)<|aN 11 fun Tw TK KR=>jn fun cZ=>bC KR [1,2,3,4,5,6,7,8,9,10,11,12,13,14]<|zD 1<|aN 14 fun Zb ZP Sz=>jd 1 [14]<|eO Sz<|zD 2<|aE q0 (.agg ⟨dk dL fI b9 fg dC c8 cZ n⟩) [14] [6,8,7,4,5,13,10,12,11,2,1,0] (dw dL mD lX fI og b9 fg jq lM dC c8 cZ) (Sub.refl _) ⟨_,_,rfl,rfl,_,rfl,fun _ hk=>dE hk,dF _ _ _ _ _ _ _ _⟩
  refine jp (vs:=[.string (bs [98,101,110]),zI 0,zI 1,zI 4]) [] [] (fun aA hs hZ=>jT)<|bC KS [0,1,2,3,4,5,6,7,8,9,10,11,12]<|m8 [7,11] ⟨fun z31 t32 asu=>?_,fun z34 t35 Sx=>?_,trivial⟩
  ·
   refine jn fun c8=>bC asu [1,2,3,4,5,6,7,8,9,10,11,12,13]<|aN 11 fun ak5 alk aec=>jn fun cZ=>bC aec [1,2,3,4,5,6,7,8,9,10,11,12,13,14]<|zD 1<|aN 14 fun auW avP ast=>jd 1 [14]<|eO ast<|zD 2<|aE q0 (.agg ⟨dk dL fI b9 fg dC c8 cZ n⟩) [14] [6,8,7,4,5,13,10,12,11,2,1,0] (dw dL mD lX fI og b9 fg jq lM dC c8 cZ) (Sub.refl _) ⟨_,_,rfl,rfl,_,rfl,fun _ hk=>dE hk,dF _ _ _ _ _ _ _ _⟩
  refine jn fun cZ=>bC Sx [1,2,3,4,5,6,7,8,9,10,11,12,13]<|aN 7 fun auV avO ass=>jn fun c8=>bC ass [1,2,3,4,5,6,7,8,9,10,11,12,13,14]<|zD 1<|aN 14 fun auU avN asr=>jd 1 [14]<|eO asr<|zD 2<|aE q0 (.agg ⟨dk dL fI b9 fg dC c8 cZ n⟩) [14] [6,8,7,4,5,13,10,12,11,2,0,1] (dw dL mD lX fI og b9 fg jq lM dC c8 cZ) (Sub.refl _) ⟨_,_,rfl,rfl,_,rfl,fun _ hk=>dE hk,dF _ _ _ _ _ _ _ _⟩
 refine jp (vs:=[.string (bs [115,109,105,116,104]),zI 0,zI 1,zI 0]) [] [] (fun aA hs hZ=>jT)<|bC hL6 [0,1,2,3,4,5,6,7,8,9,10,11]<|m8 [3,5] ⟨fun z41 t42 aQT=>?_,fun z44 t45 aQR=>?_,trivial⟩
 ·
  refine jn fun dC=>bC aQT [1,2,3,4,5,6,7,8,9,10,11,12]<|jp (vs:=[.string (bs [97,110,110,97]),zI 0,zI 2,zI 3]) [] [] (fun aA hs hZ=>jT)<|jp (vs:=[.string (bs [115,109,121,116,104]),zI 1,zI 1,zI 2]) [] [] (fun aA hs hZ=>jT)<|m8 [7,8] ⟨fun z47 t48 asp=>?_,fun z50 t51 aeb=>?_,trivial⟩
  ·
   refine jn fun c8=>bC asp [1,2,3,4,5,6,7,8,9,10,11,12,13]<|jp (vs:=[.string (bs [115,109,121,116,104]),zI 0,zI 2,zI 0]) [] [] (fun aA hs hZ=>jT)<|jp (vs:=[.string (bs [115,109,105,116,104]),zI 1,zI 1,zI (-1)]) [] [] (fun aA hs hZ=>jT)<|jp (vs:=[.string (bs [98,101,110]),zI 0,zI 1,zI 4]) [] [] (fun aA hs hZ=>jT)<|aN 11 fun ak4 alj aea=>jn fun cZ=>bC aea [1,2,3,4,5,6,7,8,9,10,11,12,13,14]<|zD 1<|aN 14 fun ak3 ali ad9=>jd 1 [14]<|eO ad9<|zD 2<|aE q0 (.agg ⟨dk dL fI b9 fg dC c8 cZ n⟩) [14] [6,8,7,4,5,13,10,12,11,2,1,0] (dw dL mD lX fI og b9 fg jq lM dC c8 cZ) (Sub.refl _) ⟨_,_,rfl,rfl,_,rfl,fun _ hk=>dE hk,dF _ _ _ _ _ _ _ _⟩
  refine jp (vs:=[.string (bs [115,109,121,116,104]),zI 0,zI 2,zI 0]) [] [] (fun aA hs hZ=>jT)<|bC aeb [0,1,2,3,4,5,6,7,8,9,10,11,12]<|m8 [7,9] ⟨fun z55 t56 ad8=>?_,fun z58 t59 asj=>?_,trivial⟩
  ·
   refine jn fun c8=>bC ad8 [1,2,3,4,5,6,7,8,9,10,11,12,13]<|jp (vs:=[.string (bs [115,109,105,116,104]),zI 1,zI 1,zI (-1)]) [] [] (fun aA hs hZ=>jT)<|jp (vs:=[.string (bs [98,101,110]),zI 0,zI 1,zI 4]) [] [] (fun aA hs hZ=>jT)<|aN 11 fun auO avH asi=>jn fun cZ=>bC asi [1,2,3,4,5,6,7,8,9,10,11,12,13,14]<|zD 1<|aN 14 fun auN avG ash=>jd 1 [14]<|eO ash<|zD 2<|aE q0 (.agg ⟨dk dL fI b9 fg dC c8 cZ n⟩) [14] [6,8,7,4,5,13,10,12,11,2,1,0] (dw dL mD lX fI og b9 fg jq lM dC c8 cZ) (Sub.refl _) ⟨_,_,rfl,rfl,_,rfl,fun _ hk=>dE hk,dF _ _ _ _ _ _ _ _⟩
  refine jp (vs:=[.string (bs [115,109,105,116,104]),zI 1,zI 1,zI (-1)]) [] [] (fun aA hs hZ=>jT)<|bC asj [0,1,2,3,4,5,6,7,8,9,10,11,12]<|m8 [7,10] ⟨fun z63 t64 asg=>?_,fun z66 t67 aQI=>?_,trivial⟩
  ·
   refine jn fun c8=>bC asg [1,2,3,4,5,6,7,8,9,10,11,12,13]<|jp (vs:=[.string (bs [98,101,110]),zI 0,zI 1,zI 4]) [] [] (fun aA hs hZ=>jT)<|aN 11 fun aTu aUg aQH=>jn fun cZ=>bC aQH [1,2,3,4,5,6,7,8,9,10,11,12,13,14]<|zD 1<|aN 14 fun aTt aUf aQG=>jd 1 [14]<|eO aQG<|zD 2<|aE q0 (.agg ⟨dk dL fI b9 fg dC c8 cZ n⟩) [14] [6,8,7,4,5,13,10,12,11,2,1,0] (dw dL mD lX fI og b9 fg jq lM dC c8 cZ) (Sub.refl _) ⟨_,_,rfl,rfl,_,rfl,fun _ hk=>dE hk,dF _ _ _ _ _ _ _ _⟩
  refine jp (vs:=[.string (bs [98,101,110]),zI 0,zI 1,zI 4]) [] [] (fun aA hs hZ=>jT)<|bC aQI [0,1,2,3,4,5,6,7,8,9,10,11,12]<|m8 [7,11] ⟨fun z71 t72 aQF=>?_,fun z74 t75 aQE=>?_,trivial⟩
  ·
   refine jn fun c8=>bC aQF [1,2,3,4,5,6,7,8,9,10,11,12,13]<|aN 11 fun aTs aUe aQD=>jn fun cZ=>bC aQD [1,2,3,4,5,6,7,8,9,10,11,12,13,14]<|zD 1<|aN 14 fun aTr aUd aQC=>jd 1 [14]<|eO aQC<|zD 2<|aE q0 (.agg ⟨dk dL fI b9 fg dC c8 cZ n⟩) [14] [6,8,7,4,5,13,10,12,11,2,1,0] (dw dL mD lX fI og b9 fg jq lM dC c8 cZ) (Sub.refl _) ⟨_,_,rfl,rfl,_,rfl,fun _ hk=>dE hk,dF _ _ _ _ _ _ _ _⟩
  refine jn fun cZ=>bC aQE [1,2,3,4,5,6,7,8,9,10,11,12,13]<|aN 7 fun aTq aUc aQB=>jn fun c8=>bC aQB [1,2,3,4,5,6,7,8,9,10,11,12,13,14]<|zD 1<|aN 14 fun aTp aUb aQA=>jd 1 [14]<|eO aQA<|zD 2<|aE q0 (.agg ⟨dk dL fI b9 fg dC c8 cZ n⟩) [14] [6,8,7,4,5,13,10,12,11,2,0,1] (dw dL mD lX fI og b9 fg jq lM dC c8 cZ) (Sub.refl _) ⟨_,_,rfl,rfl,_,rfl,fun _ hk=>dE hk,dF _ _ _ _ _ _ _ _⟩
 refine jp (vs:=[.string (bs [97,110,110,97]),zI 0,zI 2,zI 3]) [] [] (fun aA hs hZ=>jT)<|bC aQR [0,1,2,3,4,5,6,7,8,9,10,11]<|m8 [3,6] ⟨fun z81 t82 aQz=>?_,fun z84 t85 aQy=>?_,trivial⟩
 ·
  refine jn fun dC=>bC aQz [1,2,3,4,5,6,7,8,9,10,11,12]<|jp (vs:=[.string (bs [115,109,121,116,104]),zI 1,zI 1,zI 2]) [] [] (fun aA hs hZ=>jT)<|m8 [7,8] ⟨fun z87 t88 aQx=>?_,fun z90 t91 aQw=>?_,trivial⟩
  ·
   refine jn fun c8=>bC aQx [1,2,3,4,5,6,7,8,9,10,11,12,13]<|jp (vs:=[.string (bs [115,109,121,116,104]),zI 0,zI 2,zI 0]) [] [] (fun aA hs hZ=>jT)<|jp (vs:=[.string (bs [115,109,105,116,104]),zI 1,zI 1,zI (-1)]) [] [] (fun aA hs hZ=>jT)<|jp (vs:=[.string (bs [98,101,110]),zI 0,zI 1,zI 4]) [] [] (fun aA hs hZ=>jT)<|aN 11 fun aTo aUa aQv=>jn fun cZ=>bC aQv [1,2,3,4,5,6,7,8,9,10,11,12,13,14]<|zD 1<|aN 14 fun aTn aT9 aQu=>jd 1 [14]<|eO aQu<|zD 2<|aE q0 (.agg ⟨dk dL fI b9 fg dC c8 cZ n⟩) [14] [6,8,7,4,5,13,10,12,11,2,1,0] (dw dL mD lX fI og b9 fg jq lM dC c8 cZ) (Sub.refl _) ⟨_,_,rfl,rfl,_,rfl,fun _ hk=>dE hk,dF _ _ _ _ _ _ _ _⟩
  refine jp (vs:=[.string (bs [115,109,121,116,104]),zI 0,zI 2,zI 0]) [] [] (fun aA hs hZ=>jT)<|bC aQw [0,1,2,3,4,5,6,7,8,9,10,11,12]<|m8 [7,9] ⟨fun z95 t96 aQt=>?_,fun z98 t99 aCI=>?_,trivial⟩
  ·
   refine jn fun c8=>bC aQt [1,2,3,4,5,6,7,8,9,10,11,12,13]<|jp (vs:=[.string (bs [115,109,105,116,104]),zI 1,zI 1,zI (-1)]) [] [] (fun aA hs hZ=>jT)<|jp (vs:=[.string (bs [98,101,110]),zI 0,zI 1,zI 4]) [] [] (fun aA hs hZ=>jT)<|aN 11 fun aHV aKi aCH=>jn fun cZ=>bC aCH [1,2,3,4,5,6,7,8,9,10,11,12,13,14]<|zD 1<|aN 14 fun aHU aKh aCG=>jd 1 [14]<|eO aCG<|zD 2<|aE q0 (.agg ⟨dk dL fI b9 fg dC c8 cZ n⟩) [14] [6,8,7,4,5,13,10,12,11,2,1,0] (dw dL mD lX fI og b9 fg jq lM dC c8 cZ) (Sub.refl _) ⟨_,_,rfl,rfl,_,rfl,fun _ hk=>dE hk,dF _ _ _ _ _ _ _ _⟩
  refine jp (vs:=[.string (bs [115,109,105,116,104]),zI 1,zI 1,zI (-1)]) [] [] (fun aA hs hZ=>jT)<|bC aCI [0,1,2,3,4,5,6,7,8,9,10,11,12]<|m8 [7,10] ⟨fun aYl t104 aCF=>?_,fun aYk t107 aCE=>?_,trivial⟩
  ·
   refine jn fun c8=>bC aCF [1,2,3,4,5,6,7,8,9,10,11,12,13]<|jp (vs:=[.string (bs [98,101,110]),zI 0,zI 1,zI 4]) [] [] (fun aA hs hZ=>jT)<|aN 11 fun aHT aKg aCD=>jn fun cZ=>bC aCD [1,2,3,4,5,6,7,8,9,10,11,12,13,14]<|zD 1<|aN 14 fun aHS aKf aCC=>jd 1 [14]<|eO aCC<|zD 2<|aE q0 (.agg ⟨dk dL fI b9 fg dC c8 cZ n⟩) [14] [6,8,7,4,5,13,10,12,11,2,1,0] (dw dL mD lX fI og b9 fg jq lM dC c8 cZ) (Sub.refl _) ⟨_,_,rfl,rfl,_,rfl,fun _ hk=>dE hk,dF _ _ _ _ _ _ _ _⟩
  refine jp (vs:=[.string (bs [98,101,110]),zI 0,zI 1,zI 4]) [] [] (fun aA hs hZ=>jT)<|bC aCE [0,1,2,3,4,5,6,7,8,9,10,11,12]<|m8 [7,11] ⟨fun aYi t112 aCB=>?_,fun aYh t115 aCA=>?_,trivial⟩
  ·
   refine jn fun c8=>bC aCB [1,2,3,4,5,6,7,8,9,10,11,12,13]<|aN 11 fun aHR aKe aCz=>jn fun cZ=>bC aCz [1,2,3,4,5,6,7,8,9,10,11,12,13,14]<|zD 1<|aN 14 fun aHQ aKd aCy=>jd 1 [14]<|eO aCy<|zD 2<|aE q0 (.agg ⟨dk dL fI b9 fg dC c8 cZ n⟩) [14] [6,8,7,4,5,13,10,12,11,2,1,0] (dw dL mD lX fI og b9 fg jq lM dC c8 cZ) (Sub.refl _) ⟨_,_,rfl,rfl,_,rfl,fun _ hk=>dE hk,dF _ _ _ _ _ _ _ _⟩
  refine jn fun cZ=>bC aCA [1,2,3,4,5,6,7,8,9,10,11,12,13]<|aN 7 fun aHP aKc aCx=>jn fun c8=>bC aCx [1,2,3,4,5,6,7,8,9,10,11,12,13,14]<|zD 1<|aN 14 fun aHO aKb aCw=>jd 1 [14]<|eO aCw<|zD 2<|aE q0 (.agg ⟨dk dL fI b9 fg dC c8 cZ n⟩) [14] [6,8,7,4,5,13,10,12,11,2,0,1] (dw dL mD lX fI og b9 fg jq lM dC c8 cZ) (Sub.refl _) ⟨_,_,rfl,rfl,_,rfl,fun _ hk=>dE hk,dF _ _ _ _ _ _ _ _⟩
 refine jp (vs:=[.string (bs [115,109,121,116,104]),zI 1,zI 1,zI 2]) [] [] (fun aA hs hZ=>jT)<|bC aQy [0,1,2,3,4,5,6,7,8,9,10,11]<|m8 [3,7,8] ⟨fun aYf t122 aCv=>?_,fun aYe t125 aCu=>?_,fun aYd t128 aCt=>?_,trivial⟩
 ·
  refine jn fun dC=>bC aCv [1,2,3,4,5,6,7,8,9,10,11,12]<|m8 [7,8] ⟨fun aYc t131 aCs=>?_,fun aYb t134 aCr=>?_,trivial⟩
  ·
   refine jn fun c8=>bC aCs [1,2,3,4,5,6,7,8,9,10,11,12,13]<|jp (vs:=[.string (bs [115,109,121,116,104]),zI 0,zI 2,zI 0]) [] [] (fun aA hs hZ=>jT)<|jp (vs:=[.string (bs [115,109,105,116,104]),zI 1,zI 1,zI (-1)]) [] [] (fun aA hs hZ=>jT)<|jp (vs:=[.string (bs [98,101,110]),zI 0,zI 1,zI 4]) [] [] (fun aA hs hZ=>jT)<|aN 11 fun aHN aKa aCq=>jn fun cZ=>bC aCq [1,2,3,4,5,6,7,8,9,10,11,12,13,14]<|zD 1<|aN 14 fun aHM aJ9 aCp=>jd 1 [14]<|eO aCp<|zD 2<|aE q0 (.agg ⟨dk dL fI b9 fg dC c8 cZ n⟩) [14] [6,8,7,4,5,13,10,12,11,2,1,0] (dw dL mD lX fI og b9 fg jq lM dC c8 cZ) (Sub.refl _) ⟨_,_,rfl,rfl,_,rfl,fun _ hk=>dE hk,dF _ _ _ _ _ _ _ _⟩
  refine jp (vs:=[.string (bs [115,109,121,116,104]),zI 0,zI 2,zI 0]) [] [] (fun aA hs hZ=>jT)<|bC aCr [0,1,2,3,4,5,6,7,8,9,10,11,12]<|m8 [7,9] ⟨fun aYa t139 aCo=>?_,fun aX9 t142 aCn=>?_,trivial⟩
  ·
   refine jn fun c8=>bC aCo [1,2,3,4,5,6,7,8,9,10,11,12,13]<|jp (vs:=[.string (bs [115,109,105,116,104]),zI 1,zI 1,zI (-1)]) [] [] (fun aA hs hZ=>jT)<|jp (vs:=[.string (bs [98,101,110]),zI 0,zI 1,zI 4]) [] [] (fun aA hs hZ=>jT)<|aN 11 fun aHL aJ8 aCm=>jn fun cZ=>bC aCm [1,2,3,4,5,6,7,8,9,10,11,12,13,14]<|zD 1<|aN 14 fun aHK aJ7 aCl=>jd 1 [14]<|eO aCl<|zD 2<|aE q0 (.agg ⟨dk dL fI b9 fg dC c8 cZ n⟩) [14] [6,8,7,4,5,13,10,12,11,2,1,0] (dw dL mD lX fI og b9 fg jq lM dC c8 cZ) (Sub.refl _) ⟨_,_,rfl,rfl,_,rfl,fun _ hk=>dE hk,dF _ _ _ _ _ _ _ _⟩
  refine jp (vs:=[.string (bs [115,109,105,116,104]),zI 1,zI 1,zI (-1)]) [] [] (fun aA hs hZ=>jT)<|bC aCn [0,1,2,3,4,5,6,7,8,9,10,11,12]<|m8 [7,10] ⟨fun aX8 t147 aCk=>?_,fun aX7 t150 aCj=>?_,trivial⟩
  ·
   refine jn fun c8=>bC aCk [1,2,3,4,5,6,7,8,9,10,11,12,13]<|jp (vs:=[.string (bs [98,101,110]),zI 0,zI 1,zI 4]) [] [] (fun aA hs hZ=>jT)<|aN 11 fun aHJ aJ6 aCi=>jn fun cZ=>bC aCi [1,2,3,4,5,6,7,8,9,10,11,12,13,14]<|zD 1<|aN 14 fun aHI aJ5 aCh=>jd 1 [14]<|eO aCh<|zD 2<|aE q0 (.agg ⟨dk dL fI b9 fg dC c8 cZ n⟩) [14] [6,8,7,4,5,13,10,12,11,2,1,0] (dw dL mD lX fI og b9 fg jq lM dC c8 cZ) (Sub.refl _) ⟨_,_,rfl,rfl,_,rfl,fun _ hk=>dE hk,dF _ _ _ _ _ _ _ _⟩
  refine jp (vs:=[.string (bs [98,101,110]),zI 0,zI 1,zI 4]) [] [] (fun aA hs hZ=>jT)<|bC aCj [0,1,2,3,4,5,6,7,8,9,10,11,12]<|m8 [7,11] ⟨fun aX5 t155 aCg=>?_,fun aX4 t158 aCf=>?_,trivial⟩
  ·
   refine jn fun c8=>bC aCg [1,2,3,4,5,6,7,8,9,10,11,12,13]<|aN 11 fun aHH aJ4 aCe=>jn fun cZ=>bC aCe [1,2,3,4,5,6,7,8,9,10,11,12,13,14]<|zD 1<|aN 14 fun aHG aJ3 aCd=>jd 1 [14]<|eO aCd<|zD 2<|aE q0 (.agg ⟨dk dL fI b9 fg dC c8 cZ n⟩) [14] [6,8,7,4,5,13,10,12,11,2,1,0] (dw dL mD lX fI og b9 fg jq lM dC c8 cZ) (Sub.refl _) ⟨_,_,rfl,rfl,_,rfl,fun _ hk=>dE hk,dF _ _ _ _ _ _ _ _⟩
  refine jn fun cZ=>bC aCf [1,2,3,4,5,6,7,8,9,10,11,12,13]<|aN 7 fun aHF aJ2 aCc=>jn fun c8=>bC aCc [1,2,3,4,5,6,7,8,9,10,11,12,13,14]<|zD 1<|aN 14 fun aHE aJ1 aCb=>jd 1 [14]<|eO aCb<|zD 2<|aE q0 (.agg ⟨dk dL fI b9 fg dC c8 cZ n⟩) [14] [6,8,7,4,5,13,10,12,11,2,0,1] (dw dL mD lX fI og b9 fg jq lM dC c8 cZ) (Sub.refl _) ⟨_,_,rfl,rfl,_,rfl,fun _ hk=>dE hk,dF _ _ _ _ _ _ _ _⟩
 ·
  refine jn fun c8=>bC aCu [1,2,3,4,5,6,7,8,9,10,11,12]<|m8 [3,8] ⟨fun aX3 t165 aCa=>?_,fun aX2 t168 aB9=>?_,trivial⟩
  ·
   refine jn fun dC=>bC aCa [1,2,3,4,5,6,7,8,9,10,11,12,13]<|jp (vs:=[.string (bs [115,109,121,116,104]),zI 0,zI 2,zI 0]) [] [] (fun aA hs hZ=>jT)<|jp (vs:=[.string (bs [115,109,105,116,104]),zI 1,zI 1,zI (-1)]) [] [] (fun aA hs hZ=>jT)<|jp (vs:=[.string (bs [98,101,110]),zI 0,zI 1,zI 4]) [] [] (fun aA hs hZ=>jT)<|aN 11 fun aHD aJ0 aB8=>jn fun cZ=>bC aB8 [1,2,3,4,5,6,7,8,9,10,11,12,13,14]<|zD 1<|aN 14 fun aHC aJZ aB7=>jd 1 [14]<|eO aB7<|zD 2<|aE q0 (.agg ⟨dk dL fI b9 fg dC c8 cZ n⟩) [14] [6,8,7,4,5,13,10,12,11,1,2,0] (dw dL mD lX fI og b9 fg jq lM dC c8 cZ) (Sub.refl _) ⟨_,_,rfl,rfl,_,rfl,fun _ hk=>dE hk,dF _ _ _ _ _ _ _ _⟩
  refine jp (vs:=[.string (bs [115,109,121,116,104]),zI 0,zI 2,zI 0]) [] [] (fun aA hs hZ=>jT)<|bC aB9 [0,1,2,3,4,5,6,7,8,9,10,11,12]<|m8 [3,9] ⟨fun aX1 t173 aB6=>?_,fun aX0 t176 aB5=>?_,trivial⟩
  ·
   refine jn fun dC=>bC aB6 [1,2,3,4,5,6,7,8,9,10,11,12,13]<|jp (vs:=[.string (bs [115,109,105,116,104]),zI 1,zI 1,zI (-1)]) [] [] (fun aA hs hZ=>jT)<|jp (vs:=[.string (bs [98,101,110]),zI 0,zI 1,zI 4]) [] [] (fun aA hs hZ=>jT)<|aN 11 fun aHB aJY aB4=>jn fun cZ=>bC aB4 [1,2,3,4,5,6,7,8,9,10,11,12,13,14]<|zD 1<|aN 14 fun aHA aJX aB3=>jd 1 [14]<|eO aB3<|zD 2<|aE q0 (.agg ⟨dk dL fI b9 fg dC c8 cZ n⟩) [14] [6,8,7,4,5,13,10,12,11,1,2,0] (dw dL mD lX fI og b9 fg jq lM dC c8 cZ) (Sub.refl _) ⟨_,_,rfl,rfl,_,rfl,fun _ hk=>dE hk,dF _ _ _ _ _ _ _ _⟩
  refine jp (vs:=[.string (bs [115,109,105,116,104]),zI 1,zI 1,zI (-1)]) [] [] (fun aA hs hZ=>jT)<|bC aB5 [0,1,2,3,4,5,6,7,8,9,10,11,12]<|m8 [3,10] ⟨fun aXY t181 aB2=>?_,fun aXX t184 aB1=>?_,trivial⟩
  ·
   refine jn fun dC=>bC aB2 [1,2,3,4,5,6,7,8,9,10,11,12,13]<|jp (vs:=[.string (bs [98,101,110]),zI 0,zI 1,zI 4]) [] [] (fun aA hs hZ=>jT)<|aN 11 fun aHz aJW aB0=>jn fun cZ=>bC aB0 [1,2,3,4,5,6,7,8,9,10,11,12,13,14]<|zD 1<|aN 14 fun aHy aJV aBZ=>jd 1 [14]<|eO aBZ<|zD 2<|aE q0 (.agg ⟨dk dL fI b9 fg dC c8 cZ n⟩) [14] [6,8,7,4,5,13,10,12,11,1,2,0] (dw dL mD lX fI og b9 fg jq lM dC c8 cZ) (Sub.refl _) ⟨_,_,rfl,rfl,_,rfl,fun _ hk=>dE hk,dF _ _ _ _ _ _ _ _⟩
  refine jp (vs:=[.string (bs [98,101,110]),zI 0,zI 1,zI 4]) [] [] (fun aA hs hZ=>jT)<|bC aB1 [0,1,2,3,4,5,6,7,8,9,10,11,12]<|m8 [3,11] ⟨fun aXW t189 aBY=>?_,fun aXV t192 aBX=>?_,trivial⟩
  ·
   refine jn fun dC=>bC aBY [1,2,3,4,5,6,7,8,9,10,11,12,13]<|aN 11 fun aHx aJU aBW=>jn fun cZ=>bC aBW [1,2,3,4,5,6,7,8,9,10,11,12,13,14]<|zD 1<|aN 14 fun aHw aJT aBV=>jd 1 [14]<|eO aBV<|zD 2<|aE q0 (.agg ⟨dk dL fI b9 fg dC c8 cZ n⟩) [14] [6,8,7,4,5,13,10,12,11,1,2,0] (dw dL mD lX fI og b9 fg jq lM dC c8 cZ) (Sub.refl _) ⟨_,_,rfl,rfl,_,rfl,fun _ hk=>dE hk,dF _ _ _ _ _ _ _ _⟩
  refine jn fun cZ=>bC aBX [1,2,3,4,5,6,7,8,9,10,11,12,13]<|aN 3 fun aHv aJS aBU=>jn fun dC=>bC aBU [1,2,3,4,5,6,7,8,9,10,11,12,13,14]<|zD 1<|aN 14 fun aHu aJR aBT=>jd 1 [14]<|eO aBT<|zD 2<|aE q0 (.agg ⟨dk dL fI b9 fg dC c8 cZ n⟩) [14] [6,8,7,4,5,13,10,12,11,0,2,1] (dw dL mD lX fI og b9 fg jq lM dC c8 cZ) (Sub.refl _) ⟨_,_,rfl,rfl,_,rfl,fun _ hk=>dE hk,dF _ _ _ _ _ _ _ _⟩
 refine jp (vs:=[.string (bs [115,109,121,116,104]),zI 0,zI 2,zI 0]) [] [] (fun aA hs hZ=>jT)<|bC aCt [0,1,2,3,4,5,6,7,8,9,10,11]<|m8 [3,7,9] ⟨fun aXU t199 aBS=>?_,fun aXT t202 aBR=>?_,fun aXS t205 aBQ=>?_,trivial⟩
 ·
  refine jn fun dC=>bC aBS [1,2,3,4,5,6,7,8,9,10,11,12]<|m8 [7,9] ⟨fun aXR t208 aBP=>?_,fun aXQ t211 aBO=>?_,trivial⟩
  ·
   refine jn fun c8=>bC aBP [1,2,3,4,5,6,7,8,9,10,11,12,13]<|jp (vs:=[.string (bs [115,109,105,116,104]),zI 1,zI 1,zI (-1)]) [] [] (fun aA hs hZ=>jT)<|jp (vs:=[.string (bs [98,101,110]),zI 0,zI 1,zI 4]) [] [] (fun aA hs hZ=>jT)<|aN 11 fun aHt aJQ aBN=>jn fun cZ=>bC aBN [1,2,3,4,5,6,7,8,9,10,11,12,13,14]<|zD 1<|aN 14 fun aHs aJP aBM=>jd 1 [14]<|eO aBM<|zD 2<|aE q0 (.agg ⟨dk dL fI b9 fg dC c8 cZ n⟩) [14] [6,8,7,4,5,13,10,12,11,2,1,0] (dw dL mD lX fI og b9 fg jq lM dC c8 cZ) (Sub.refl _) ⟨_,_,rfl,rfl,_,rfl,fun _ hk=>dE hk,dF _ _ _ _ _ _ _ _⟩
  refine jp (vs:=[.string (bs [115,109,105,116,104]),zI 1,zI 1,zI (-1)]) [] [] (fun aA hs hZ=>jT)<|bC aBO [0,1,2,3,4,5,6,7,8,9,10,11,12]<|m8 [7,10] ⟨fun aXP t216 aBL=>?_,fun aXO t219 aBK=>?_,trivial⟩
  ·
   refine jn fun c8=>bC aBL [1,2,3,4,5,6,7,8,9,10,11,12,13]<|jp (vs:=[.string (bs [98,101,110]),zI 0,zI 1,zI 4]) [] [] (fun aA hs hZ=>jT)<|aN 11 fun aHr aJO aBJ=>jn fun cZ=>bC aBJ [1,2,3,4,5,6,7,8,9,10,11,12,13,14]<|zD 1<|aN 14 fun aHq aJN aBI=>jd 1 [14]<|eO aBI<|zD 2<|aE q0 (.agg ⟨dk dL fI b9 fg dC c8 cZ n⟩) [14] [6,8,7,4,5,13,10,12,11,2,1,0] (dw dL mD lX fI og b9 fg jq lM dC c8 cZ) (Sub.refl _) ⟨_,_,rfl,rfl,_,rfl,fun _ hk=>dE hk,dF _ _ _ _ _ _ _ _⟩
  refine jp (vs:=[.string (bs [98,101,110]),zI 0,zI 1,zI 4]) [] [] (fun aA hs hZ=>jT)<|bC aBK [0,1,2,3,4,5,6,7,8,9,10,11,12]<|m8 [7,11] ⟨fun aXN t224 aBH=>?_,fun aXM t227 aBG=>?_,trivial⟩
  ·
   refine jn fun c8=>bC aBH [1,2,3,4,5,6,7,8,9,10,11,12,13]<|aN 11 fun aHp aJM aBF=>jn fun cZ=>bC aBF [1,2,3,4,5,6,7,8,9,10,11,12,13,14]<|zD 1<|aN 14 fun aHo aJL aBE=>jd 1 [14]<|eO aBE<|zD 2<|aE q0 (.agg ⟨dk dL fI b9 fg dC c8 cZ n⟩) [14] [6,8,7,4,5,13,10,12,11,2,1,0] (dw dL mD lX fI og b9 fg jq lM dC c8 cZ) (Sub.refl _) ⟨_,_,rfl,rfl,_,rfl,fun _ hk=>dE hk,dF _ _ _ _ _ _ _ _⟩
  refine jn fun cZ=>bC aBG [1,2,3,4,5,6,7,8,9,10,11,12,13]<|aN 7 fun aHn aJK aBD=>jn fun c8=>bC aBD [1,2,3,4,5,6,7,8,9,10,11,12,13,14]<|zD 1<|aN 14 fun aHm aJJ aBC=>jd 1 [14]<|eO aBC<|zD 2<|aE q0 (.agg ⟨dk dL fI b9 fg dC c8 cZ n⟩) [14] [6,8,7,4,5,13,10,12,11,2,0,1] (dw dL mD lX fI og b9 fg jq lM dC c8 cZ) (Sub.refl _) ⟨_,_,rfl,rfl,_,rfl,fun _ hk=>dE hk,dF _ _ _ _ _ _ _ _⟩
 ·
  refine jn fun c8=>bC aBR [1,2,3,4,5,6,7,8,9,10,11,12]<|m8 [3,9] ⟨fun aXK t234 aBB=>?_,fun aXJ t237 aBA=>?_,trivial⟩
  ·
   refine jn fun dC=>bC aBB [1,2,3,4,5,6,7,8,9,10,11,12,13]<|jp (vs:=[.string (bs [115,109,105,116,104]),zI 1,zI 1,zI (-1)]) [] [] (fun aA hs hZ=>jT)<|jp (vs:=[.string (bs [98,101,110]),zI 0,zI 1,zI 4]) [] [] (fun aA hs hZ=>jT)<|aN 11 fun aHl aJI aBz=>jn fun cZ=>bC aBz [1,2,3,4,5,6,7,8,9,10,11,12,13,14]<|zD 1<|aN 14 fun aHk aJH aBy=>jd 1 [14]<|eO aBy<|zD 2<|aE q0 (.agg ⟨dk dL fI b9 fg dC c8 cZ n⟩) [14] [6,8,7,4,5,13,10,12,11,1,2,0] (dw dL mD lX fI og b9 fg jq lM dC c8 cZ) (Sub.refl _) ⟨_,_,rfl,rfl,_,rfl,fun _ hk=>dE hk,dF _ _ _ _ _ _ _ _⟩
  refine jp (vs:=[.string (bs [115,109,105,116,104]),zI 1,zI 1,zI (-1)]) [] [] (fun aA hs hZ=>jT)<|bC aBA [0,1,2,3,4,5,6,7,8,9,10,11,12]<|m8 [3,10] ⟨fun aXI t242 aBx=>?_,fun aXH t245 aBw=>?_,trivial⟩
  ·
   refine jn fun dC=>bC aBx [1,2,3,4,5,6,7,8,9,10,11,12,13]<|jp (vs:=[.string (bs [98,101,110]),zI 0,zI 1,zI 4]) [] [] (fun aA hs hZ=>jT)<|aN 11 fun aHj aJG aBv=>jn fun cZ=>bC aBv [1,2,3,4,5,6,7,8,9,10,11,12,13,14]<|zD 1<|aN 14 fun aHi aJF aBu=>jd 1 [14]<|eO aBu<|zD 2<|aE q0 (.agg ⟨dk dL fI b9 fg dC c8 cZ n⟩) [14] [6,8,7,4,5,13,10,12,11,1,2,0] (dw dL mD lX fI og b9 fg jq lM dC c8 cZ) (Sub.refl _) ⟨_,_,rfl,rfl,_,rfl,fun _ hk=>dE hk,dF _ _ _ _ _ _ _ _⟩
  refine jp (vs:=[.string (bs [98,101,110]),zI 0,zI 1,zI 4]) [] [] (fun aA hs hZ=>jT)<|bC aBw [0,1,2,3,4,5,6,7,8,9,10,11,12]<|m8 [3,11] ⟨fun aXG t250 aBt=>?_,fun aXF t253 aBs=>?_,trivial⟩
  ·
   refine jn fun dC=>bC aBt [1,2,3,4,5,6,7,8,9,10,11,12,13]<|aN 11 fun aHh aJE aBr=>jn fun cZ=>bC aBr [1,2,3,4,5,6,7,8,9,10,11,12,13,14]<|zD 1<|aN 14 fun aHg aJD aBq=>jd 1 [14]<|eO aBq<|zD 2<|aE q0 (.agg ⟨dk dL fI b9 fg dC c8 cZ n⟩) [14] [6,8,7,4,5,13,10,12,11,1,2,0] (dw dL mD lX fI og b9 fg jq lM dC c8 cZ) (Sub.refl _) ⟨_,_,rfl,rfl,_,rfl,fun _ hk=>dE hk,dF _ _ _ _ _ _ _ _⟩
  refine jn fun cZ=>bC aBs [1,2,3,4,5,6,7,8,9,10,11,12,13]<|aN 3 fun aHf aJC aBp=>jn fun dC=>bC aBp [1,2,3,4,5,6,7,8,9,10,11,12,13,14]<|zD 1<|aN 14 fun aHe aJB aBo=>jd 1 [14]<|eO aBo<|zD 2<|aE q0 (.agg ⟨dk dL fI b9 fg dC c8 cZ n⟩) [14] [6,8,7,4,5,13,10,12,11,0,2,1] (dw dL mD lX fI og b9 fg jq lM dC c8 cZ) (Sub.refl _) ⟨_,_,rfl,rfl,_,rfl,fun _ hk=>dE hk,dF _ _ _ _ _ _ _ _⟩
 refine jp (vs:=[.string (bs [115,109,105,116,104]),zI 1,zI 1,zI (-1)]) [] [] (fun aA hs hZ=>jT)<|bC aBQ [0,1,2,3,4,5,6,7,8,9,10,11]<|m8 [3,7,10] ⟨fun aXE t260 aBn=>?_,fun aXD t263 aBm=>?_,fun aXC t266 aBl=>?_,trivial⟩
 ·
  refine jn fun dC=>bC aBn [1,2,3,4,5,6,7,8,9,10,11,12]<|m8 [7,10] ⟨fun aXB t269 aBk=>?_,fun aXA t272 aBj=>?_,trivial⟩
  ·
   refine jn fun c8=>bC aBk [1,2,3,4,5,6,7,8,9,10,11,12,13]<|jp (vs:=[.string (bs [98,101,110]),zI 0,zI 1,zI 4]) [] [] (fun aA hs hZ=>jT)<|aN 11 fun aHd aJA aBi=>jn fun cZ=>bC aBi [1,2,3,4,5,6,7,8,9,10,11,12,13,14]<|zD 1<|aN 14 fun aHc aJz aBh=>jd 1 [14]<|eO aBh<|zD 2<|aE q0 (.agg ⟨dk dL fI b9 fg dC c8 cZ n⟩) [14] [6,8,7,4,5,13,10,12,11,2,1,0] (dw dL mD lX fI og b9 fg jq lM dC c8 cZ) (Sub.refl _) ⟨_,_,rfl,rfl,_,rfl,fun _ hk=>dE hk,dF _ _ _ _ _ _ _ _⟩
  refine jp (vs:=[.string (bs [98,101,110]),zI 0,zI 1,zI 4]) [] [] (fun aA hs hZ=>jT)<|bC aBj [0,1,2,3,4,5,6,7,8,9,10,11,12]<|m8 [7,11] ⟨fun aXz t277 aBg=>?_,fun aXy t280 aBf=>?_,trivial⟩
  ·
   refine jn fun c8=>bC aBg [1,2,3,4,5,6,7,8,9,10,11,12,13]<|aN 11 fun aHb aJy aBe=>jn fun cZ=>bC aBe [1,2,3,4,5,6,7,8,9,10,11,12,13,14]<|zD 1<|aN 14 fun aHa aJx aBd=>jd 1 [14]<|eO aBd<|zD 2<|aE q0 (.agg ⟨dk dL fI b9 fg dC c8 cZ n⟩) [14] [6,8,7,4,5,13,10,12,11,2,1,0] (dw dL mD lX fI og b9 fg jq lM dC c8 cZ) (Sub.refl _) ⟨_,_,rfl,rfl,_,rfl,fun _ hk=>dE hk,dF _ _ _ _ _ _ _ _⟩
  refine jn fun cZ=>bC aBf [1,2,3,4,5,6,7,8,9,10,11,12,13]<|aN 7 fun aG9 aJw aBc=>jn fun c8=>bC aBc [1,2,3,4,5,6,7,8,9,10,11,12,13,14]<|zD 1<|aN 14 fun aG8 aJv aBb=>jd 1 [14]<|eO aBb<|zD 2<|aE q0 (.agg ⟨dk dL fI b9 fg dC c8 cZ n⟩) [14] [6,8,7,4,5,13,10,12,11,2,0,1] (dw dL mD lX fI og b9 fg jq lM dC c8 cZ) (Sub.refl _) ⟨_,_,rfl,rfl,_,rfl,fun _ hk=>dE hk,dF _ _ _ _ _ _ _ _⟩
 ·
  refine jn fun c8=>bC aBm [1,2,3,4,5,6,7,8,9,10,11,12]<|m8 [3,10] ⟨fun aXx t287 aBa=>?_,fun aXw t290 aA9=>?_,trivial⟩
  ·
   refine jn fun dC=>bC aBa [1,2,3,4,5,6,7,8,9,10,11,12,13]<|jp (vs:=[.string (bs [98,101,110]),zI 0,zI 1,zI 4]) [] [] (fun aA hs hZ=>jT)<|aN 11 fun aG7 aJu aA8=>jn fun cZ=>bC aA8 [1,2,3,4,5,6,7,8,9,10,11,12,13,14]<|zD 1<|aN 14 fun aG6 aJt aA7=>jd 1 [14]<|eO aA7<|zD 2<|aE q0 (.agg ⟨dk dL fI b9 fg dC c8 cZ n⟩) [14] [6,8,7,4,5,13,10,12,11,1,2,0] (dw dL mD lX fI og b9 fg jq lM dC c8 cZ) (Sub.refl _) ⟨_,_,rfl,rfl,_,rfl,fun _ hk=>dE hk,dF _ _ _ _ _ _ _ _⟩
  refine jp (vs:=[.string (bs [98,101,110]),zI 0,zI 1,zI 4]) [] [] (fun aA hs hZ=>jT)<|bC aA9 [0,1,2,3,4,5,6,7,8,9,10,11,12]<|m8 [3,11] ⟨fun aXv t295 aA6=>?_,fun aXu t298 aA5=>?_,trivial⟩
  ·
   refine jn fun dC=>bC aA6 [1,2,3,4,5,6,7,8,9,10,11,12,13]<|aN 11 fun aG5 aJs aA4=>jn fun cZ=>bC aA4 [1,2,3,4,5,6,7,8,9,10,11,12,13,14]<|zD 1<|aN 14 fun aG4 aJr aA3=>jd 1 [14]<|eO aA3<|zD 2<|aE q0 (.agg ⟨dk dL fI b9 fg dC c8 cZ n⟩) [14] [6,8,7,4,5,13,10,12,11,1,2,0] (dw dL mD lX fI og b9 fg jq lM dC c8 cZ) (Sub.refl _) ⟨_,_,rfl,rfl,_,rfl,fun _ hk=>dE hk,dF _ _ _ _ _ _ _ _⟩
  refine jn fun cZ=>bC aA5 [1,2,3,4,5,6,7,8,9,10,11,12,13]<|aN 3 fun aG3 aJq aA2=>jn fun dC=>bC aA2 [1,2,3,4,5,6,7,8,9,10,11,12,13,14]<|zD 1<|aN 14 fun aG2 aJp aA1=>jd 1 [14]<|eO aA1<|zD 2<|aE q0 (.agg ⟨dk dL fI b9 fg dC c8 cZ n⟩) [14] [6,8,7,4,5,13,10,12,11,0,2,1] (dw dL mD lX fI og b9 fg jq lM dC c8 cZ) (Sub.refl _) ⟨_,_,rfl,rfl,_,rfl,fun _ hk=>dE hk,dF _ _ _ _ _ _ _ _⟩
 refine jp (vs:=[.string (bs [98,101,110]),zI 0,zI 1,zI 4]) [] [] (fun aA hs hZ=>jT)<|bC aBl [0,1,2,3,4,5,6,7,8,9,10,11]<|m8 [3,7,11] ⟨fun aXt t305 aA0=>?_,fun aXs t308 aAZ=>?_,fun aXr t311 aAY=>?_,trivial⟩
 ·
  refine jn fun dC=>bC aA0 [1,2,3,4,5,6,7,8,9,10,11,12]<|m8 [7,11] ⟨fun aXq t314 aAX=>?_,fun aXp t317 aAW=>?_,trivial⟩
  ·
   refine jn fun c8=>bC aAX [1,2,3,4,5,6,7,8,9,10,11,12,13]<|aN 11 fun aG1 aJo aAV=>jn fun cZ=>bC aAV [1,2,3,4,5,6,7,8,9,10,11,12,13,14]<|zD 1<|aN 14 fun aG0 aJn aAU=>jd 1 [14]<|eO aAU<|zD 2<|aE q0 (.agg ⟨dk dL fI b9 fg dC c8 cZ n⟩) [14] [6,8,7,4,5,13,10,12,11,2,1,0] (dw dL mD lX fI og b9 fg jq lM dC c8 cZ) (Sub.refl _) ⟨_,_,rfl,rfl,_,rfl,fun _ hk=>dE hk,dF _ _ _ _ _ _ _ _⟩
  refine jn fun cZ=>bC aAW [1,2,3,4,5,6,7,8,9,10,11,12,13]<|aN 7 fun aGZ aJm aAT=>jn fun c8=>bC aAT [1,2,3,4,5,6,7,8,9,10,11,12,13,14]<|zD 1<|aN 14 fun aGY aJl aAS=>jd 1 [14]<|eO aAS<|zD 2<|aE q0 (.agg ⟨dk dL fI b9 fg dC c8 cZ n⟩) [14] [6,8,7,4,5,13,10,12,11,2,0,1] (dw dL mD lX fI og b9 fg jq lM dC c8 cZ) (Sub.refl _) ⟨_,_,rfl,rfl,_,rfl,fun _ hk=>dE hk,dF _ _ _ _ _ _ _ _⟩
 ·
  refine jn fun c8=>bC aAZ [1,2,3,4,5,6,7,8,9,10,11,12]<|m8 [3,11] ⟨fun aXo t324 aAR=>?_,fun aXn t327 aAQ=>?_,trivial⟩
  ·
   refine jn fun dC=>bC aAR [1,2,3,4,5,6,7,8,9,10,11,12,13]<|aN 11 fun aGX aJk aAP=>jn fun cZ=>bC aAP [1,2,3,4,5,6,7,8,9,10,11,12,13,14]<|zD 1<|aN 14 fun aGW aJj aAO=>jd 1 [14]<|eO aAO<|zD 2<|aE q0 (.agg ⟨dk dL fI b9 fg dC c8 cZ n⟩) [14] [6,8,7,4,5,13,10,12,11,1,2,0] (dw dL mD lX fI og b9 fg jq lM dC c8 cZ) (Sub.refl _) ⟨_,_,rfl,rfl,_,rfl,fun _ hk=>dE hk,dF _ _ _ _ _ _ _ _⟩
  refine jn fun cZ=>bC aAQ [1,2,3,4,5,6,7,8,9,10,11,12,13]<|aN 3 fun aGV aJi aAN=>jn fun dC=>bC aAN [1,2,3,4,5,6,7,8,9,10,11,12,13,14]<|zD 1<|aN 14 fun aGU aJh aAM=>jd 1 [14]<|eO aAM<|zD 2<|aE q0 (.agg ⟨dk dL fI b9 fg dC c8 cZ n⟩) [14] [6,8,7,4,5,13,10,12,11,0,2,1] (dw dL mD lX fI og b9 fg jq lM dC c8 cZ) (Sub.refl _) ⟨_,_,rfl,rfl,_,rfl,fun _ hk=>dE hk,dF _ _ _ _ _ _ _ _⟩
 refine jn fun cZ=>bC aAY [1,2,3,4,5,6,7,8,9,10,11,12]<|m8 [3,7] ⟨fun aXm t334 aAL=>?_,fun aXl t337 aAK=>?_,trivial⟩
 ·
  refine jn fun dC=>bC aAL [1,2,3,4,5,6,7,8,9,10,11,12,13]<|aN 7 fun aGT aJg aAJ=>jn fun c8=>bC aAJ [1,2,3,4,5,6,7,8,9,10,11,12,13,14]<|zD 1<|aN 14 fun aGS aJf aAI=>jd 1 [14]<|eO aAI<|zD 2<|aE q0 (.agg ⟨dk dL fI b9 fg dC c8 cZ n⟩) [14] [6,8,7,4,5,13,10,12,11,1,0,2] (dw dL mD lX fI og b9 fg jq lM dC c8 cZ) (Sub.refl _) ⟨_,_,rfl,rfl,_,rfl,fun _ hk=>dE hk,dF _ _ _ _ _ _ _ _⟩
 refine jn fun c8=>bC aAK [1,2,3,4,5,6,7,8,9,10,11,12,13]<|aN 3 fun aGR aJe aAH=>jn fun dC=>bC aAH [1,2,3,4,5,6,7,8,9,10,11,12,13,14]<|zD 1<|aN 14 fun aGQ aJd aAG=>jd 1 [14]<|eO aAG<|zD 2<|aE q0 (.agg ⟨dk dL fI b9 fg dC c8 cZ n⟩) [14] [6,8,7,4,5,13,10,12,11,0,1,2] (dw dL mD lX fI og b9 fg jq lM dC c8 cZ) (Sub.refl _) ⟨_,_,rfl,rfl,_,rfl,fun _ hk=>dE hk,dF _ _ _ _ _ _ _ _⟩
instance (nc nh i:Nat)(x:bZ):Decidable (gB nc nh i x):=by unfold gB;infer_instance
instance (w:ByteArray):Decidable (Script w):=by unfold Script;infer_instance
theorem Td{α:Type}{p:Nat→α→Prop}{l:List α}(h:∀i (hi:i <l.length),p i l[i]):∀(i:Nat) (x:α),l[i]?=some x→p i x:=fun i x hx=>by
 obtain⟨h1,rfl⟩:=List.getElem?_eq_some_iff.1 hx
 exact h i h1
theorem Gx:∀(i:Nat) (x:bZ),BT[i]?=some x→gB 4 6 i x:=Td (by decide)
theorem S2:∀(i:Nat) (x:bZ),BT[i]?=some x→yU x.word=true:=Td (of_decide_eq_true (by kernel_rfl))
theorem afF:∀(i:Nat) (x:bF),S3[i]?=some x→yU x.name=true∧ -1≤x.under∧x.under <i:=Td (of_decide_eq_true (by kernel_rfl))
def aqP(hd:List bZ)(i:Int):Bool:=decide (i= -1)||(decide (0≤i)&&match hd[i.toNat]? with
 |some x=>decide (0≤x.cls)
 |none=>false)
theorem eZ{hd:List bZ}{i:Int}(h:aqP hd i=true):ny hd i:=by
 simp only[aqP,Bool.or_eq_true,Bool.and_eq_true,decide_eq_true_eq] at h
 rcases h with h| ⟨h1,h2⟩
 ·exact .inl h
 split at h2
 ·rename_i x hx;exact .inr ⟨h1,x,hx,of_decide_eq_true h2⟩
 cases h2
def Np(p:aF):Bool:=decide (((1≤p.name.size∧p.name.size≤6)∧Script p.name)∧(0≤p.st∧p.st≤1)∧p.bold=false)&&aqP BT p.head
theorem Kc{p:aF}(h:Np p=true):Ee BT p:=by
 simp only[Np,Bool.and_eq_true,decide_eq_true_eq] at h
 exact⟨h.1.1,eZ h.2,h.1.2⟩
theorem aaQ{p:aF}(h:Np p=true):qV p.name∧ny BT p.head:=by
 have:=Kc h
 exact⟨⟨this.1.1,this.1.2⟩,this.2.1⟩
theorem VP:∀p∈Lq,Np p=true:=by decide
theorem VQ:∀p∈Lr,Np p=true:=by decide
abbrev CC(n:Int)(fs:List gV):aZ:={aS n with facts:=fs}
theorem amY(h:0≤n∧n≤4)(hf:fs.length≤3)(h1:∀x∈fs,(0≤x.a∧x.a <3)∧(0≤x.b∧x.b <3))(h2:fs.Pairwise fun x y=>¬(x.a=y.a∧x.b=y.b)):n9 (CC n fs) where
 r8:=⟨rfl,by simp,by simp[AA],by simp[aim]⟩
 ways:=⟨(by decide:(1:Nat)≤1),by simp[iR]⟩
 eE:=⟨(by decide:(0:Nat) <4∧4≤6),(by decide:(6:Nat)≤6),Gx⟩
 rules:=(by decide:(1:Nat)≤4)
 before:=⟨(by decide:(3:Nat)≤4),fun p hp=>⟨Kc (VP p hp),by
  simp only[Lq,List.mem_cons,List.not_mem_nil,or_false] at hp
  rcases hp with rfl|rfl|rfl
  ·exact⟨_,rfl,by simp⟩
  ·exact⟨_,rfl,by simp⟩
  exact⟨_,rfl,by simp⟩⟩⟩
 after:=⟨(by decide:(3:Nat)≤4),fun p hp=>⟨Kc (VQ p hp),by
  simp only[Lr,List.mem_cons,List.not_mem_nil,or_false] at hp
  rcases hp with rfl|rfl|rfl<;>decide⟩⟩
 Bt:=⟨(by decide:(0:Int)≤1∧(1:Int)≤4),(by decide:(0:Int)≤1∧(1:Int)≤4),h⟩
 facts:=⟨by show fs.length≤4;omega,h1⟩
 apart:=h2
theorem amX(hf:fs.length≤3)(h1:∀x∈fs,(0≤x.a∧x.a <3)∧(0≤x.b∧x.b <3)):fH (CC n fs) where
 rules:=⟨(by decide:(1:Nat)≤4),by
  intro r hr
  rw[List.mem_singleton] at hr;subst hr
  have e:T4 ⟨bs [121],bs [105]⟩=true:=by kernel_rfl
  simp only[T4,Bool.and_eq_true,Nat.ble_eq,Bool.not_eq_true'] at e
  exact⟨e.1,e.2.1,Fo e.2.2.1,Fo e.2.2.2.1,e.2.2.2.2⟩⟩
 before:=⟨(by decide:(3:Nat)≤4),fun p hp=>aaQ (VP p hp)⟩
 after:=⟨(by decide:(3:Nat)≤4),fun p hp=>aaQ (VQ p hp)⟩
 eE:=⟨(by decide:(0:Nat) <4∧4≤6),(by decide:(6:Nat)≤6),afF,by simp only[yZ];decide,fun i x hx=>⟨S2 i x hx,Gx i x hx⟩,by simp only[yZ,MW];decide⟩
 facts:=⟨by show fs.length≤4;omega,h1⟩
theorem aD0{v0 v1 v3 v4 v5 v6 v7 vb:Value}{fa fb:Option Addr}{fc fn fd:Nat}{g0 g1 g2:Int}{ro:Nat→Option Obj}(hs:∀v∈[v0,v1,(.slice fa 0 fc),v3,v4,v5,v6,v7,zI g0,zI g1,zI g2,(.slice fb fn fd)],single v=true):dz zT 45 [.agg ⟨[v0,v1,(.slice fa 0 fc),v3,v4,v5,v6,v7,zI g0,zI g1,zI g2,vb]⟩,(.slice fb fn fd)] ro (.agg ⟨[v0,v1,(.slice fa 0 fc),v3,v4,v5,v6,v7,zI g0,zI g1,zI g2,(.slice fb fn fd)]⟩):=by
 refine bA au [] [] bn<|zD 2<|jn fun b2=>jn fun b4=>jd 10 [1,1]<|jsx 0 b4 0 [zS,zS,zS,zS,zS,zS,zS,zS,zI 0,zI 0,zI 0,zS] [v0,v1,(.slice fa 0 fc),v3,v4,v5,v6,v7,zI g0,zI g1,zI g2,(.slice fb fn fd)] 38 hs rfl<|zD 2<|aE q0 (.agg ⟨[v0,v1,(.slice fa 0 fc),v3,v4,v5,v6,v7,zI g0,zI g1,zI g2,(.slice fb fn fd)]⟩) [0] [] [] (Sub.refl _) ⟨_,_,rfl,rfl,rfl,rfl⟩
def agp[DecidableEq κ](r:Nat)(kv:κ→Value)(k:κ)(F:List (κ×Value))(b:Nat)(L:Cells):Prop:=
 ∃es ck i u,L=[(r,.map es ck)]∧sO kv F es ck∧rH k F 0=some (i,u)∧(es.toList.map (·.born))[i]?=some b
theorem agp.own[DecidableEq κ]{kv:κ→Value}{k:κ}{F:List (κ×Value)}{L:Cells}(h:agp r kv k F b L):jH r kv F L:=by
 obtain⟨es,ck,_,_,h1,h2,_⟩:=h
 exact⟨es,ck,h1,h2⟩
def meV(P:Program)(n:Nat)(p:Oper)(e:Env):Option (TypeId×TypeId×Value×Value):=match p.op with
 | .mapEntry T x y=>match aV P T with
  |some ⟨.map K E,_,_,_⟩=>match ba n e x with
   |some m=>match ba n e y with
    |some k=>some (K,E,m,k)
    |none=>none
   |none=>none
  |_=>none
 |_=>none
def esV(n:Nat)(p:Oper)(e:Env):Option (Value×Value×Value):=match p.op with
 | .entryStore _ x y z=>match ba n e x with
  |some m=>match ba n e y with
   |some b=>match ba n e z with
    |some v=>some (m,b,v)
    |none=>none
   |none=>none
  |none=>none
 |_=>none
theorem Ae[DecidableEq κ]{k:κ}{v:Value}:∀ {F:List (κ×Value)} {i:Nat},rH k F i=none→rH k (F++[(k,v)]) i=some (i+F.length,v)
 | [],i,_=>by simp[rH]
 |x::l,i,h=>by
  simp only[rH] at h
  split at h
  ·cases h
  rename_i hk
  rw[List.cons_append,rH,if_neg hk,Ae h,List.length_cons,show i+1+l.length=i+(l.length+1) by omega]
theorem UF{kv:κ→Value}{k:κ}{v:Value}:∀(es:List MapEntry) (F:List (κ×Value)) (i:Nat) {u:Value},F[i]?=some (k,u)→es.map (fun e=>(e.key,e.val))=F.map (fun x=>(kv x.1,x.2))→(es.modify i fun e=>{e with val:=v}).map (fun e=>(e.key,e.val))=(td k v F i).map (fun x=>(kv x.1,x.2))
 | [],[],_,_,h,_=>by simp at h
 | [],_::_,_,_,_,h=>by simp at h
 |_::_,[],_,_,_,h=>by simp at h
 |e::es,x::F,0,_,h1,h=>by
  simp only[List.map_cons,List.cons.injEq,Prod.mk.injEq] at h
  simp at h1;subst h1
  simp[td,h.2,h.1.1]
 |e::es,x::F,i+1,_,h1,h=>by
  simp only[List.map_cons,List.cons.injEq] at h
  simp at h1
  simp[td,h.1,UF es F i h1 h.2]
theorem GK{v:Value}:∀(es:List MapEntry) (i:Nat),(es.modify i fun e=>{e with val:=v}).map (·.born)=es.map (·.born)
 | [],i=>by simp
 |e::es,0=>by simp
 |e::es,i+1=>by simp[GK es i]
theorem Ax{kx:Value}:∀(es:List MapEntry) (i:Nat),(es.modify i fun e=>{e with key:=kx}).map (·.born)=es.map (·.born)
 | [],i=>by simp
 |e::es,0=>by simp
 |e::es,i+1=>by simp[Ax es i]
theorem UG{kv:κ→Value}{k:κ}:∀(es:List MapEntry) (F:List (κ×Value)) (i:Nat) {u:Value},F[i]?=some (k,u)→es.map (fun e=>(e.key,e.val))=F.map (fun x=>(kv x.1,x.2))→(es.modify i fun e=>{e with key:=kv k}).map (fun e=>(e.key,e.val))=F.map (fun x=>(kv x.1,x.2))
 | [],[],_,_,h,_=>by simp at h
 | [],_::_,_,_,_,h=>by simp at h
 |_::_,[],_,_,_,h=>by simp at h
 |e::es,x::F,0,_,h1,h=>by
  simp only[List.map_cons,List.cons.injEq,Prod.mk.injEq] at h
  simp at h1;subst h1
  simp[h.2,h.1.2]
 |e::es,x::F,i+1,_,h1,h=>by
  simp only[List.map_cons,List.cons.injEq] at h
  simp at h1
  simp[h.1,UG es F i h1 h.2]
theorem VU{es dV:Array MapEntry}{ck:Nat}(h:∀e∈es.toList,e.born <ck)(hb:dV.toList.map (·.born)=es.toList.map (·.born)):∀e∈dV.toList,e.born <ck:=fun e he=>by
 have:e.born∈dV.toList.map (·.born):=List.mem_map_of_mem he
 rw[hb] at this
 obtain⟨e2,h3,h4⟩:=List.mem_map.1 this
 rw[←h4];exact h e2 h3
section
variable {X:Cx} {o:Option JS}
theorem jSk{β:Type}{f:Oper→Env→Option β}{r:β}{Φ:Cells→Prop}(ps:List Nat)(B:Cells)(hv:eR X.n f o=some r)(hB:dN ps o=some B)
 (hy:∀p e,f p e=some r→(∀c,p.op≠ .defer c)∧∀(R:Cells) (Q:Next→St→Prop) (E:Halt→St→Prop),(∀L',Φ L'→Q .skip ⟨X.ro,L'++R⟩)→bG X.P (execOp (ev X.n e) p) ⟨X.ro,B++R⟩ Q E)
 (hj:∀L',Φ L'→J X (mH ps undef L' o)):J X o:=by
 obtain⟨ops,i,todo,k,e,w,kn,p,rfl,ho,hw,hc⟩:=db hv
 intro bP
 have hp:=bB hB
 obtain⟨hd,ht⟩:=hy p e hc
 have:ab X.C X.fn X.ay ops (i::todo) (KQ X k) (A X.n e X.D) ⟨X.ro,B++den (dj ps 0 w)⟩:=by
  refine bJ X.hC ho hw hd<|ht _ _ _ fun L' pR=>?_
  have:=hj L' pR
  rw[nG ho] at this
  have:=this bP
  simp only[JP,fY] at this
  show ab _ _ _ _ _ _ _ _
  rw[←aU] at this
  exact this
 have hle:(⟨X.ro,B++den (dj ps 0 w)⟩:St).le ⟨X.ro,den w⟩:=⟨[],by rw[List.append_nil];exact hp,fun b o hb=> .inl hb⟩
 exact this.more X.hC hle
theorem jme[DecidableEq κ]{kv:κ→Value}{F:List (κ×Value)}{K E:TypeId}{L:Cells}{d:TypeDesc}(i:Nat)(k:κ)(hk:PJ X.P K kv)(te:TF X.P E d sz bu z ag)(hm:jH r kv F L)
 (hj:∀F1 b c L',(((∃u,rH k F 0=some u)∧F1=F)∨(rH k F 0=none∧F1=F++[(k,Mt z ag)]))→agp r kv k F1 b L'→J X (mH [i] (.tuple ⟨[c,zI (b:Int)]⟩) L' o))
 (hv:eR X.n (meV X.P X.n) o=some (K,E,.map (some r),kv k):=by kernel_rfl)(hB:dN [i] o=some L:=by kernel_rfl):J X o:=by
 refine jS (Φ:=fun v L'=>∃F1 b c,(((∃u,rH k F 0=some u)∧F1=F)∨(rH k F 0=none∧F1=F++[(k,Mt z ag)]))∧agp r kv k F1 b L'∧v= .tuple ⟨[c,zI (b:Int)]⟩) [i] _ hv hB (fun p e hf=>?_) (fun v L' pR=>?_)
 ·unfold meV at hf
  split at hf<;>try (cases hf;done)
  rename_i T x y ax
  split at hf<;>try (cases hf;done)
  rename_i K' E' _ _ _ dI
  split at hf<;>try (cases hf;done)
  rename_i m hx
  split at hf<;>try (cases hf;done)
  rename_i k' hy
  simp only[Option.some.injEq,Prod.mk.injEq] at hf
  obtain⟨rfl,rfl,rfl,rfl⟩:=hf
  obtain⟨bdD,tf⟩:=ar dI
  refine⟨by rw[ax];simp,fun R Q E hQ=>?_⟩
  obtain⟨es,ck,rfl,BC⟩:=hm
  simp only[execOp,ax,Instr.mapEntry,aa,aW tf,aC hx,aC hy]
  refine cq (.inr (List.mem_append_left _ List.mem_cons_self)) rfl rfl ?_
  simp only[aa]
  refine hk.chk _ _ ?_
  simp only[aa]
  refine hk.find k _ F BC.1 ?_
  cases xo:rH k F 0 with
  |some u=>
   obtain⟨j,u⟩:=u
   have P6:=p7 xo
   simp only[Nat.sub_zero] at P6
   have h1:(es.toList.map (fun e=>(e.key,e.val)))[j]?=some (kv k,u):=by rw[BC.1];simp[P6.2]
   simp only[List.getElem?_map,Array.getElem?_toList] at h1
   cases he:es[j]? with
   |none=>rw[he] at h1;cases h1
   |some e1=>
    rw[he] at h1
    simp only[Option.map_some,Option.some.injEq,Prod.mk.injEq] at h1
    simp only[aa,Instr.keyThatStays,he,Option.map_some,Option.getD_some,h1.1,hk.stay,if_true,ae]
    refine dX (L:=[]) rfl rfl rfl ?_
    simp only[ae]
    refine hQ _ [(r,_)] ⟨F,e1.born,u,.inl ⟨⟨_,xo⟩,rfl⟩,⟨_,_,j,u,rfl,⟨?_,?_,?_⟩,xo,?_⟩,rfl⟩
    ·rw[Array.toList_modify];exact UG _ _ _ P6.2 BC.1
    ·rw[Array.toList_modify,Ax];exact BC.2.1
    ·exact VU BC.2.2 (by rw[Array.toList_modify,Ax])
    rw[Array.toList_modify,Ax,List.getElem?_map,Array.getElem?_toList,he];rfl
  |none=>
   simp only[aa,jK te]
   refine dX (L:=[]) rfl rfl rfl ?_
   simp only[ae]
   have hlen:es.toList.length=F.length:=by have:=congrArg List.length BC.1;simpa using this
   refine hQ _ [(r,_)] ⟨_,ck,_,.inr ⟨xo,rfl⟩,⟨_,_,F.length,_,rfl,⟨?_,?_,?_⟩,by have:=Ae (v:=Mt z ag) xo;rwa[Nat.zero_add] at this,?_⟩,rfl⟩
   ·simp only[Array.toList_push,List.map_append,BC.1];rfl
   ·simp only[Array.toList_push,List.map_append,List.map_cons,List.map_nil]
    refine List.nodup_append.2 ⟨BC.2.1,by simp,?_⟩
    intro a ha b hb
    obtain⟨e2,h3,rfl⟩:=List.mem_map.1 ha
    have:=BC.2.2 e2 h3
    simp only[List.mem_singleton] at hb
    omega
   ·intro e1 h1
    simp only[Array.toList_push,List.mem_append,List.mem_singleton] at h1
    rcases h1 with h1|rfl
    ·have:=BC.2.2 e1 h1;omega
    exact Nat.lt_succ_self _
   simp only[Array.toList_push,List.map_append,List.map_cons,List.map_nil]
   rw[List.getElem?_append_right (by simp[hlen])]
   simp[hlen]
 obtain⟨F1,b,c,h1,h2,rfl⟩:=pR
 exact hj F1 b c L' h1 h2
theorem jes[DecidableEq κ]{kv:κ→Value}{F:List (κ×Value)}{L:Cells}{k:κ}(i:Nat)(v:Value)(hm:agp r kv k F b L)(hj:∀L',jH r kv (lO k v F) L'→J X (mH [i] undef L' o))
 (hv:eR X.n (esV X.n) o=some (.map (some r),zI (b:Int),v):=by kernel_rfl)(hB:dN [i] o=some L:=by kernel_rfl):J X o:=by
 refine jSk (Φ:=jH r kv (lO k v F)) [i] _ hv hB (fun p e hf=>?_) hj
 unfold esV at hf
 split at hf<;>try (cases hf;done)
 rename_i T x y zz ax
 split at hf<;>try (cases hf;done)
 rename_i m hx
 split at hf<;>try (cases hf;done)
 rename_i b' hy
 split at hf<;>try (cases hf;done)
 rename_i v' hz
 simp only[Option.some.injEq,Prod.mk.injEq] at hf
 obtain⟨rfl,rfl,rfl⟩:=hf
 refine⟨by rw[ax];simp,fun R Q E hQ=>?_⟩
 obtain⟨es,ck,j,u,rfl,BC,xo,hb⟩:=hm
 have P6:=p7 xo
 simp only[Nat.sub_zero] at P6
 simp only[execOp,ax,Instr.entryStore,aa,aC hx,aC hy,aC hz]
 refine cq (.inr (List.mem_append_left _ List.mem_cons_self)) rfl rfl ?_
 have aOI:es.findIdx? (fun e=>(e.born:Int)==(b:Int))=some j:=by
  rw[List.getElem?_map,Array.getElem?_toList] at hb
  obtain⟨e1,he,rfl⟩:=Option.map_eq_some_iff.1 hb
  obtain⟨h1,h2⟩:=Array.getElem?_eq_some_iff.1 he
  refine Array.findIdx?_eq_some_iff_getElem.2 ⟨h1,by simp[h2],fun q hq=>?_⟩
  have lI:=BC.2.1
  have:=List.pairwise_iff_getElem.1 lI q j (by simp;omega) (by simp;omega) hq
  simp only[List.getElem_map,Array.getElem_toList,h2] at this
  simp only[beq_iff_eq]
  omega
 simp only[aa,asInt,asIntOf,ae,aOI]
 refine dX (L:=[]) rfl rfl rfl ?_
 show Q .skip _
 refine hQ [(r,_)] ⟨_,_,rfl,?_,?_,?_⟩
 ·rw[Array.toList_modify,lO,xo];exact UF _ _ _ P6.2 BC.1
 ·rw[Array.toList_modify,GK];exact BC.2.1
 exact VU BC.2.2 (by rw[Array.toList_modify,GK])
end
abbrev v4(a b c d:Int):Value:= .agg ⟨[zI a,zI b,zI c,zI d]⟩
theorem aDN{P:Program}{T:TypeId}(tf:TF P T (.array 4 3) sz bu z ag)(t3:TF P 3 (.int .i64) 1 by1 z1 false)(a b c d a' b' c' d':Int):
 YH P (dep+2) T (v4 a b c d) (v4 a' b' c' d') (a==a'&&(b==b'&&(c==c'&&(d==d'&&true)))):=by
 intro α s k Q E
 rw[Op.equalIn]
 simp only[aa,aW tf,bW t3]
 simp only[Std.Legacy.Range.forIn_eq_forIn_range',Std.Legacy.Range.size,Nat.sub_zero,Nat.add_sub_cancel,Nat.div_one,List.range'_succ,List.range'_zero,List.forIn_cons,List.forIn_nil,aa,Nat.zero_add,Nat.mul_one]
 have p (l:List Value) (o:Nat) (v:Value) (h:nth l o=some v):GY P 3 l o v:=jO t3 h
 rw[p _ 0 (zI a) rfl];simp only[aa]
 rw[p _ 0 (zI a') rfl];simp only[aa]
 rw[nF t3 a a']
 cases ha:a==a' with
 |false=>simp only[Bool.not_false,if_true,ae,aa,Bool.false_and]
 |true=>
 simp only[Bool.not_true,Bool.false_eq_true,if_false,ae,Bool.true_and,aa]
 rw[p _ 1 (zI b) rfl];simp only[aa]
 rw[p _ 1 (zI b') rfl];simp only[aa]
 rw[nF t3 b b']
 cases hb:b==b' with
 |false=>simp only[Bool.not_false,if_true,ae,aa,Bool.false_and]
 |true=>
 simp only[Bool.not_true,Bool.false_eq_true,if_false,ae,Bool.true_and,aa]
 rw[p _ 2 (zI c) rfl];simp only[aa]
 rw[p _ 2 (zI c') rfl];simp only[aa]
 rw[nF t3 c c']
 cases hc:c==c' with
 |false=>simp only[Bool.not_false,if_true,ae,aa,Bool.false_and]
 |true=>
 simp only[Bool.not_true,Bool.false_eq_true,if_false,ae,Bool.true_and,aa]
 rw[p _ 3 (zI d) rfl];simp only[aa]
 rw[p _ 3 (zI d') rfl];simp only[aa]
 rw[nF t3 d d']
 cases hd:d==d' with
 |false=>simp only[Bool.not_false,if_true,ae,aa,Bool.false_and]
 |true=>simp only[Bool.not_true,Bool.false_eq_true,if_false,ae,Bool.true_and,aa]
theorem ck4{P:Program}{T:TypeId}(tf:TF P T (.array 4 3) sz bu z ag)(t3:TF P 3 (.int .i64) 1 by1 z1 false)(a b c d:Int):CkD P (dep+2) T (v4 a b c d):=by
 intro bb α K s Q E
 rw[Instr.checkKey]
 simp only[aa,aW tf]
 simp only[Std.Legacy.Range.forIn_eq_forIn_range',Std.Legacy.Range.size,Nat.sub_zero,Nat.add_sub_cancel,Nat.div_one,List.range'_succ,List.range'_zero,List.forIn_cons,List.forIn_nil,aa,Nat.zero_add,bW t3,Nat.zero_mul,Nat.mul_one]
 have p (l:List Value) (o:Nat) (v:Value) (h:nth l o=some v):GY P 3 l o v:=jO t3 h
 rw[p _ 0 (zI a) rfl];simp only[aa];rw[Gy t3 a bb];simp only[ae,aa,bW t3,Nat.mul_one]
 rw[p _ 1 (zI b) rfl];simp only[aa];rw[Gy t3 b bb];simp only[ae,aa,bW t3,Nat.mul_one]
 rw[p _ 2 (zI c) rfl];simp only[aa];rw[Gy t3 c bb];simp only[ae,aa,bW t3,Nat.mul_one]
 rw[p _ 3 (zI d) rfl];simp only[aa];rw[Gy t3 d bb];simp only[ae,aa]
abbrev P4:=Int×Int×Int×Int
abbrev G3(x:P4):Value:=v4 x.1 x.2.1 x.2.2.1 x.2.2.2
theorem abY:PJ zT 122 G3:=abX (mI Tryz.typeInfo122 Tryz.underlying122 rfl rfl rfl rfl rfl rfl) (fun k=>⟨_,rfl⟩)
 (fun k=>ck4 (dep:=9998) (mI Tryz.typeInfo122 Tryz.underlying122 rfl rfl rfl rfl rfl rfl) lY _ _ _ _)
 (fun a b=>by
  have h:=aDN (dep:=9998) (mI Tryz.typeInfo122 Tryz.underlying122 rfl rfl rfl rfl rfl rfl) lY a.1 a.2.1 a.2.2.1 a.2.2.2 b.1 b.2.1 b.2.2.1 b.2.2.2
  have e:(a.1==b.1&&(a.2.1==b.2.1&&(a.2.2.1==b.2.2.1&&(a.2.2.2==b.2.2.2&&true))))=decide (a=b):=by
   rcases a with ⟨x,y,z,t⟩;rcases b with ⟨u,v,w,r⟩
   rw[Bool.eq_iff_iff];simp
  rwa[e] at h)
 (fun k=>by simp[Instr.sameBits])
structure iX where
 c:Nat→Nat→Int
abbrev BQ(m:iX):List Value:=[zI (m.c 0 0),zI (m.c 0 1),zI (m.c 0 2),zI (m.c 0 3),zI (m.c 1 0),zI (m.c 1 1),zI (m.c 1 2),zI (m.c 1 3),zI (m.c 2 0),zI (m.c 2 1),zI (m.c 2 2),zI (m.c 2 3),zI (m.c 3 0),zI (m.c 3 1),zI (m.c 3 2),zI (m.c 3 3)]
theorem DV{m:iX}{a:Nat}(h:a <4)(k:b <4):nth (BQ m) (0+(a:Int).toNat*4+(b:Int).toNat*1)=some (zI (m.c a b)):=by
 rcases Kq h with rfl|rfl|rfl|rfl<;>rcases Kq k with rfl|rfl|rfl|rfl<;>rfl
def q5(m:iX)(a b:Nat)(v:Int):iX:=⟨fun i j=>if i=a∧j=b then v else m.c i j⟩
theorem aiM{m:iX}{a:Nat}{v:Int}(h:a <4)(k:b <4):de (BQ m) (0+(a:Int).toNat*4+(b:Int).toNat*1) [zI v]=BQ (q5 m a b v):=by
 rcases Kq h with rfl|rfl|rfl|rfl<;>rcases Kq k with rfl|rfl|rfl|rfl<;>rfl
theorem aiN{m:iX}{a:Nat}{v:Value}(h:a <4)(k:b <4):Nat.ble ((0+(a:Int).toNat*4+(b:Int).toNat*1)+[v].length) (BQ m).length=true:=by
 rcases Kq h with rfl|rfl|rfl|rfl<;>rcases Kq k with rfl|rfl|rfl|rfl<;>rfl
def pI(x:av):Nat→Int
 |0=>x.w0
 |1=>x.w1
 |2=>x.w2
 |_=>x.w3
def aJ(zs:List av):iX:=⟨fun i j=>((zs.filter fun x=>decide (pI x i=(j:Int)+1)).length:Int)⟩
theorem S1(zs:List av)(i j:Nat):0≤(aJ zs).c i j∧(aJ zs).c i j≤zs.length:=by
 have:=List.length_filter_le (fun x=>decide (pI x i=(j:Int)+1)) zs
 simp only[aJ];omega
theorem Po{zs ys:List av}(h:zs.Perm ys):aJ zs=aJ ys:=by
 simp only[aJ,(h.filter _).length_eq]
theorem UH{r:bK}{p:Nat→Int}(hp:∀i,0≤p i∧p i≤4)(q:Nat):0≤pI (dv K r i p) q∧pI (dv K r i p) q≤4:=match q with
 |0=>hp 0
 |1=>hp 1
 |2=>hp 2
 |_+3=>hp 3
def AF:Prop:=∀ {ro:Nat→Option Obj} {v:Value} {zs:List av},bI ro v 8 cN zs→zs.length≤100000→(∀x∈zs,∀q,0≤pI x q∧pI x q≤4)→eo zT 47 [v] ro [] (fun r Y=>r= .agg ⟨BQ (aJ zs)⟩∧Y=[])
def qJ(m:iX)(n:Int)(i:Nat):Nat→List (List Int)
 |0=>[]
 |j+1=>qJ m n i j++(bif decide (m.c i j=n) then [[(i:Int),(j:Int)]] else [])
def xw(m:iX)(n:Int)(w:Nat):Nat→List (List Int)
 |0=>[]
 |i+1=>xw m n w i++qJ m n i w
theorem UA{m:iX}(h:m.c i j=n):qJ m n i (j+1)=qJ m n i j++[[(i:Int),(j:Int)]]:=by rw[qJ,decide_eq_true h];rfl
theorem UB{m:iX}(h:¬m.c i j=n):qJ m n i (j+1)=qJ m n i j:=by rw[qJ,decide_eq_false h];exact List.append_nil _
theorem Bj(m:iX)(n:Int)(i:Nat):∀j,(qJ m n i j).length≤j
 |0=>Nat.le_refl _
 |j+1=>by have:=Bj m n i j;rw[qJ,List.length_append];cases decide (m.c i j=n)<;>simp<;>omega
theorem IF(m:iX)(n:Int){w:Nat}(hw:w≤4):∀i,(xw m n w i).length≤4*i
 |0=>Nat.le_refl _
 |i+1=>by have:=IF m n hw i;have:=Bj m n i w;rw[xw,List.length_append];omega
theorem ajc{rows:List bK}{ro:Nat→Option Obj}(hK:gh ro l K)(hV:fH K)(hR:rows.length≤2)(hB:iK ro l K rows)(hCt:AF):B4 zT 50 [.agg ⟨l⟩,.func (.func 80) ⟨[]⟩ ⟨[]⟩] ro [] (fun r Y=>∃zs v e,zs.Perm (eW K (dg K) (di K.gone K.new K.af) rows)∧r= .tuple ⟨[v,zI e]⟩∧((zs=[]∧v= zS∧e=9∧Y=[])∨(zs≠[]∧e=0∧∀aK,Knows aK Y→LL aK v (xw (aJ zs) ((zs.length:Nat):Int) K.after.length K.before.length)))):=by
 obtain⟨v0,v1,v3,v4,v5,v6,v7,vb,fa,fc,hv,rfl,_⟩:=id hK
 refine zo au [] [] bn fun fr=>zD 2<|jn fun b2=>jd 6 [0]<|acj (vs:=[.agg ⟨[v0,v1,.slice fa 0 fc,v3,v4,v5,v6,v7,zI K.gone,zI K.new,zI K.af,vb]⟩]) [] (fun _ _ h=>h) (N0 hK hV hR hB) ?_
 rintro _ aA Y15 bV ⟨f15,zs,v15,e15,rfl,HL,hz,aqS,he⟩
 have XA:∀x∈zs,(-4≤x.gone∧x.gone≤4)∧(-4≤x.new∧x.new≤4)∧(0≤x.af∧x.af≤4):=fun x hx=>by obtain⟨i,r,p,_,_,rfl,_⟩:=kS (hz.mem_iff.1 hx);exact lG hV r i p
 have Xs:zs.length≤1250:=by rw[hz.length_eq];exact qj hV _ _ hR
 have hpr:∀x∈zs,∀q,0≤pI x q∧pI x q≤4:=fun x hx=>by obtain⟨i,r,p,_,hp,rfl,_⟩:=kS (hz.mem_iff.1 hx);exact UH ((lE hV _).2 p hp)
 obtain⟨d0,d1,d2,d3,d4,d5,d6,d7,d8,d9,dh,hf,rC,oe,hr,Dm,HK,I0,bL⟩:=id HL
 obtain⟨k9,J2,J0,kz,rfl,J1,EN,EM⟩:=Dm
 obtain⟨ld,J5,J3,kA,rfl,J4,EP,EO⟩:=HK
 have FR:=hV.before.1
 have HE:=hV.after.1
 refine zD 7<|jf [0] Y15 (fun ro4 oB P5=>?_)
 have hZ1:=aqS.ma P5
 obtain⟨u1,Q9,Q7,ri,rfl,Q8,ET,ES⟩:=hZ1
 refine zD 7<|js 20 (!decide (e15=0)) (fun h5=>?_) (fun h5=>?_)
 ·
  replace h5:=of_decide_eq_false (by simpa using h5)
  have qn:zs=[]∧e15=9:=by rcases he with h| ⟨_,h⟩;exact h;omega
  refine zD 8<|UZ qC.a.a (.tuple ⟨[zS,zI e15]⟩) [1] [] (bV.trans oB) ⟨zs,_,_,hz,rfl,.inl ⟨qn.1,rfl,qn.2,rfl⟩⟩
 replace h5:=of_decide_eq_true (by simpa using h5)
 have qn:zs≠[]∧e15=0:=by rcases he with ⟨_,h⟩|h;omega;exact h
 refine zD 9<|jc (vs:=[.slice u1 zs.length ri]) [] (hCt (show bI _ _ _ _ _ from ⟨u1,Q9,Q7,ri,rfl,Q8,ET,ES⟩) (by omega) hpr) ?_
 rintro _ _ ⟨rfl,rfl⟩
 refine jg 0 []<|jn fun rI=>jd 9 [0]<|jl (b:=f15) (off:=0) (m:=13) (vs:=[d0,d1,d2,d3,d4,d5,.slice k9 K.before.length kz,.slice ld K.after.length kA,zI K.gone,zI K.new,zI K.af,d8,d9]) 6 ⟨_,_,_,.inl (oB _ _ hf),rfl⟩<|zD 4<|pQ<|pQ<|ez [1,1,1,1,1,0,1,0,0] [] (fun(zz:Nat×Value×Cells×(List Value)×Cells)=>[(1,.func (.func 80) ⟨[]⟩ ⟨[]⟩),(4,zS),(5,zI 0),(6,zP f15),(7,.slice u1 zs.length ri),(9,zz.2.1),(10,zP rI),(29,zI (K.before.length:Int)),(30,zI (zz.1:Int))]) (fun(zz:Nat×Value×Cells×(List Value)×Cells)=>[.l zz.2.2.1,.l zz.2.2.2.2,.b rI (.cells ⟨[zI ((aJ zs).c 0 0),zI ((aJ zs).c 0 1),zI ((aJ zs).c 0 2),zI ((aJ zs).c 0 3),zI ((aJ zs).c 1 0),zI ((aJ zs).c 1 1),zI ((aJ zs).c 1 2),zI ((aJ zs).c 1 3),zI ((aJ zs).c 2 0),zI ((aJ zs).c 2 1),zI ((aJ zs).c 2 2),zI ((aJ zs).c 2 3),zI ((aJ zs).c 3 0),zI ((aJ zs).c 3 1),zI ((aJ zs).c 3 2),zI ((aJ zs).c 3 3)]⟩ 112 (0,0)),.b b2 (.cells ⟨[v0,v1,.slice fa 0 fc,v3,v4,v5,v6,v7,zI K.gone,zI K.new,zI K.af,vb]⟩ 38 (0,0)),.l fr]) (fun(zz:Nat×Value×Cells×(List Value)×Cells)=>(zz.1≤K.before.length∧zz.2.2.2.1.length=(xw (aJ zs) ((zs.length:Nat):Int) K.after.length zz.1).length)∧az zz.2.1 1 22 iQ zz.2.2.2.1 zz.2.2.1∧∀aK,Knows aK zz.2.2.2.2→dD (fun w l=>bI aK w 1 cJ l) zz.2.2.2.1 (xw (aJ zs) ((zs.length:Nat):Int) K.after.length zz.1)) (fun(zz:Nat×Value×Cells×(List Value)×Cells)=>K.before.length-zz.1) (⟨0,zS,[],[],[]⟩) ⟨⟨by dsimp only;omega,rfl⟩,az.nil _ _ _,fun _ _=> .nil⟩ [1,0,2,3,4] ?_
 rintro⟨i,vO,LO,es,Z⟩ hI K1 bM rest
 dsimp only at hI
 have hil:=IF (aJ zs) ((zs.length:Nat):Int) (w:=K.after.length) (by omega) i
 refine zD 5<|zJ 31 ((i:Int) <(K.before.length:Int)) (fun h6=>?_) fun h6=>?_
 ·
  refine zD 15<|jl (b:=f15) (off:=0) (m:=13) (vs:=[d0,d1,d2,d3,d4,d5,.slice k9 K.before.length kz,.slice ld K.after.length kA,zI K.gone,zI K.new,zI K.af,d8,d9]) 7 ⟨_,_,_,.inl (oB _ _ hf),rfl⟩<|zD 4<|ez [1,1,1,1,1,0,1,0,0,1,1,0,0,1,1,0,0] [K1] (fun(zz:Nat×Value×Cells×(List Value)×Cells)=>[(1,.func (.func 80) ⟨[]⟩ ⟨[]⟩),(4,zS),(5,zI 0),(6,zP f15),(7,.slice u1 zs.length ri),(9,zz.2.1),(10,zP rI),(11,zI (i:Int)),(29,zI (K.before.length:Int)),(30,zI (i:Int)),(38,zI (K.after.length:Int)),(39,zI (zz.1:Int))]) (fun(zz:Nat×Value×Cells×(List Value)×Cells)=>[.l zz.2.2.1,.l zz.2.2.2.2,.b rI (.cells ⟨[zI ((aJ zs).c 0 0),zI ((aJ zs).c 0 1),zI ((aJ zs).c 0 2),zI ((aJ zs).c 0 3),zI ((aJ zs).c 1 0),zI ((aJ zs).c 1 1),zI ((aJ zs).c 1 2),zI ((aJ zs).c 1 3),zI ((aJ zs).c 2 0),zI ((aJ zs).c 2 1),zI ((aJ zs).c 2 2),zI ((aJ zs).c 2 3),zI ((aJ zs).c 3 0),zI ((aJ zs).c 3 1),zI ((aJ zs).c 3 2),zI ((aJ zs).c 3 3)]⟩ 112 (0,0)),.b b2 (.cells ⟨[v0,v1,.slice fa 0 fc,v3,v4,v5,v6,v7,zI K.gone,zI K.new,zI K.af,vb]⟩ 38 (0,0)),.l fr]) (fun(zz:Nat×Value×Cells×(List Value)×Cells)=>(zz.1≤K.after.length∧zz.2.2.2.1.length=((xw (aJ zs) ((zs.length:Nat):Int) K.after.length i)++(qJ (aJ zs) ((zs.length:Nat):Int) i zz.1)).length)∧az zz.2.1 1 22 iQ zz.2.2.2.1 zz.2.2.1∧∀aK,Knows aK zz.2.2.2.2→dD (fun w l=>bI aK w 1 cJ l) zz.2.2.2.1 ((xw (aJ zs) ((zs.length:Nat):Int) K.after.length i)++(qJ (aJ zs) ((zs.length:Nat):Int) i zz.1))) (fun(zz:Nat×Value×Cells×(List Value)×Cells)=>K.after.length-zz.1) (⟨0,vO,LO,es,Z⟩) ⟨⟨by dsimp only;omega,by simpa [qJ] using hI.1.2⟩,hI.2.1,by simpa [qJ] using hI.2.2⟩ [0,1,2,3,4] ?_
  rintro⟨j,vO,LO,es,Z⟩ hJ K2 mo rest
  dsimp only at hJ
  have hjl:=Bj (aJ zs) ((zs.length:Nat):Int) i j
  have YV:=hJ.1.2
  rw[List.length_append] at YV
  refine zD 5<|zJ 40 ((j:Int) <(K.after.length:Int)) (fun h7=>?_) fun h7=>?_
  ·
   refine zD 10 ?_
   have ir:=S1 zs i j
   refine zD 4<|IS (b:=rI) (off:=0) (len:=4) (sz:=4) (i:Int) (by omega)<|IS (b:=rI) (off:=0+(i:Int).toNat*4) (len:=4) (sz:=1) (j:Int) (by omega)<|oJ (b:=rI) (off:=0+(i:Int).toNat*4+(j:Int).toNat*1) (m:=1) (vs:=[zI ((aJ zs).c i j)]) 0 [2] [(rI,.cells ⟨[zI ((aJ zs).c 0 0),zI ((aJ zs).c 0 1),zI ((aJ zs).c 0 2),zI ((aJ zs).c 0 3),zI ((aJ zs).c 1 0),zI ((aJ zs).c 1 1),zI ((aJ zs).c 1 2),zI ((aJ zs).c 1 3),zI ((aJ zs).c 2 0),zI ((aJ zs).c 2 1),zI ((aJ zs).c 2 2),zI ((aJ zs).c 2 3),zI ((aJ zs).c 3 0),zI ((aJ zs).c 3 1),zI ((aJ zs).c 3 2),zI ((aJ zs).c 3 3)]⟩ 112 (0,0))] (fun s _ hZ=>rY (hZ _ (.head _)) (DV (m:=aJ zs) (by omega) (by omega)))<|zD 2<|jp (vs:=[zI ((aJ zs).c i j),zI (zs.length:Int)]) [] [] (fun aA hs hZ=>apR)<|zD 1<|js 50 (decide (((aJ zs).c i j)=(zs.length:Int))) (fun h8=>?_) (fun h8=>?_)
   ·
    refine zD 5<|jn fun b54=>jn fun b55=>ku (sz:=1) (ps:=es) (qs:=[(.slice (some ⟨b54,0,none⟩) 2 2:Value)]) (enc:=iQ) (w:= .slice (some ⟨b55,0,none⟩) 1 1) [2] [0] [(b55,.cells ⟨([(.slice (some ⟨b54,0,none⟩) 2 2:Value)].map iQ).flatten⟩ 22 (0,0))] (hJ.2.1) (fun s _ hZ=>bX [(.slice (some ⟨b54,0,none⟩) 2 2:Value)] (hZ _ (.head _)) (by intro p hp;rfl)) (by intro p hp;rw[List.mem_singleton] at hp;subst hp;exact an rfl) (by simp only[List.length_cons,List.length_nil];omega) (fun v56 L56 vq=>?_)
    obtain⟨Wj,Wi,adH⟩:=vq.form
    subst adH
    refine zD 3<|ja ((j:Int)+1) (by omega)<|zD 2<|N3 mo (⟨j+1,(.slice Wj ((es++[(.slice (some ⟨b54,0,none⟩) 2 2:Value)])).length Wi),L56,(es++[(.slice (some ⟨b54,0,none⟩) 2 2:Value)]),Z++[(b54,.cells ⟨[zI (i:Int),zI (j:Int)]⟩ 3 (0,0))]⟩) ⟨⟨by dsimp only;omega,by dsimp only;rw[UA (of_decide_eq_true (by assumption)),←List.append_assoc];simp only[List.length_append,List.length_cons,List.length_nil] at*;omega⟩,vq,fun aK hk=>by dsimp only;rw[UA (of_decide_eq_true (by assumption)),←List.append_assoc];exact(hJ.2.2 aK hk.left).snoc (bS (enc:=cJ) (T:=3) [(i:Int),(j:Int)] (hk.right _ (.head _)) (fun _ _=>rfl))⟩ (by dsimp only;omega) [[0],[3,2],[4],[5],[6]] (Sub.refl _)
   refine zD 3<|ja ((j:Int)+1) (by omega)<|zD 2<|bO mo (⟨j+1,vO,LO,es,Z⟩) ⟨⟨by dsimp only;omega,by dsimp only;rw[UB (of_decide_eq_false (by assumption))];exact hJ.1.2⟩,hJ.2.1,by dsimp only;rw[UB (of_decide_eq_false (by assumption))];exact hJ.2.2⟩ (by dsimp only;omega) [0,1,2,3,4] (Sub.refl _)
  refine zD 3<|ja ((i:Int)+1) (by omega)<|zD 2<|bO bM (⟨i+1,vO,LO,es,Z⟩) ⟨⟨by dsimp only;omega,by have:=hJ.1.2;rw[show j=K.after.length by omega] at this;exact this⟩,hJ.2.1,by have:=hJ.2.2;rw[show j=K.after.length by omega] at this;exact this⟩ (by dsimp only;omega) [0,1,2,3,4] (Sub.refl _)
 refine zD 9<|aMs qC.a.a (.tuple ⟨[vO,zI 0]⟩) [0,1,4] LO Z (bV.trans oB) ⟨zs,_,_,hz,rfl,.inr ⟨qn.1,rfl,fun aK hk=>⟨es,hI.2.1.ma hk.left,by have:=hI.2.2 aK hk.right;rwa[show i=K.before.length by omega] at this⟩⟩⟩
structure DF where
 f:Bool
 a:Int
 b:Int
 w:Int
def af0(m:iX)(n:Int)(i j:Nat):Int:=max (m.c i j) (n-m.c i j)
def HT(m:iX)(n:Int)(i:Nat)(s:DF):Nat→DF
 |0=>s
 |j+1=>if af0 m n i j <(HT m n i s j).w then ⟨true,i,j,af0 m n i j⟩ else HT m n i s j
def af1(m:iX)(n:Int)(w:Nat):Nat→DF
 |0=>⟨false,0,0,n⟩
 |i+1=>HT m n i (af1 m n w i) w
def akT(s:DF):Int×Int×Int×Int:=bif s.f then (s.a,s.b,s.w,0) else (0,0,0,11)
theorem atp{m:iX}{s:DF}{f:Bool}{a b w:Int}(h:(⟨f,a,b,w⟩:DF)=HT m n i s j)(h2:af0 m n i j <w):(⟨true,i,j,af0 m n i j⟩:DF)=HT m n i s (j+1):=by rw[HT,←h,if_pos h2]
theorem atq{m:iX}{s:DF}{f:Bool}{a b w:Int}(h:(⟨f,a,b,w⟩:DF)=HT m n i s j)(h2:¬af0 m n i j <w):(⟨f,a,b,w⟩:DF)=HT m n i s (j+1):=by rw[HT,←h,if_neg h2]
theorem apQ{rows:List bK}{ro:Nat→Option Obj}(hK:gh ro l K)(hV:fH K)(hR:rows.length≤2)(hB:iK ro l K rows)(hCt:AF):B4 zT 43 [.agg ⟨l⟩] ro [] (fun r Y=>∃zs v e,zs.Perm (eW K (dg K) (di K.gone K.new K.af) rows)∧r= .tuple ⟨[v,zI e]⟩∧((zs=[]∧v= zS∧e=9∧Y=[])∨(zs≠[]∧e=0∧∀aK,Knows aK Y→LL aK v (xw (aJ zs) ((zs.length:Nat):Int) K.after.length K.before.length)))):=by
 obtain⟨v0,v1,v3,v4,v5,v6,v7,vb,fa,fc,hv,rfl,_⟩:=id hK
 refine zo au [] [] bn fun fr=>zD 2<|jn fun b1=>jd 6 [0]<|Kx (vs:=[.agg ⟨[v0,v1,.slice fa 0 fc,v3,v4,v5,v6,v7,zI K.gone,zI K.new,zI K.af,vb]⟩,.func (.func 80) ⟨[]⟩ ⟨[]⟩]) [] (fun _ _ h=>h) (ajc hK hV hR hB hCt) ?_
 rintro _ Y5 ⟨zs,v5,e5,hz,rfl,hcs⟩
 refine zD 6<|UZ qC (.tuple ⟨[v5,zI e5]⟩) [0,2] Y5 (Sub.refl _) ⟨zs,v5,e5,hz,rfl,hcs⟩
theorem aMl{rows:List bK}{ro:Nat→Option Obj}(hK:gh ro l K)(hV:fH K)(hR:rows.length≤2)(hB:iK ro l K rows)(hCt:AF):B4 zT 15 [.agg ⟨l⟩] ro [] (fun r Y=>∃zs a b w e,zs.Perm (eW K (dg K) (di K.gone K.new K.af) rows)∧Y=[]∧r= .tuple ⟨[zI a,zI b,zI w,zI e]⟩∧((zs=[]∧a=0∧b=0∧w=0∧e=9)∨(zs≠[]∧(a,b,w,e)=akT (af1 (aJ zs) ((zs.length:Nat):Int) K.after.length K.before.length)))):=by
 obtain⟨v0,v1,v3,v4,v5,v6,v7,vb,fa,fc,hv,rfl,_⟩:=id hK
 refine zo au [] [] bn fun fr=>zD 2<|jn fun b1=>jd 8 [0]<|acj (vs:=[.agg ⟨[v0,v1,.slice fa 0 fc,v3,v4,v5,v6,v7,zI K.gone,zI K.new,zI K.af,vb]⟩]) [] (fun _ _ h=>h) (N0 hK hV hR hB) ?_
 rintro _ aA Y14 bV ⟨f14,zs,v14,Ak,rfl,HL,hz,FQ,he⟩
 have XA:∀x∈zs,(-4≤x.gone∧x.gone≤4)∧(-4≤x.new∧x.new≤4)∧(0≤x.af∧x.af≤4):=fun x hx=>by obtain⟨i,r,p,_,_,rfl,_⟩:=kS (hz.mem_iff.1 hx);exact lG hV r i p
 have Xs:zs.length≤1250:=by rw[hz.length_eq];exact qj hV _ _ hR
 have hpr:∀x∈zs,∀q,0≤pI x q∧pI x q≤4:=fun x hx=>by obtain⟨i,r,p,_,hp,rfl,_⟩:=kS (hz.mem_iff.1 hx);exact UH ((lE hV _).2 p hp)
 obtain⟨d0,d1,d2,d3,d4,d5,d6,d7,d8,d9,dh,hf,rC,oe,hr,Dm,HK,I0,bL⟩:=id HL
 obtain⟨k9,J2,J0,kz,rfl,J1,EN,EM⟩:=Dm
 obtain⟨ld,J5,J3,kA,rfl,J4,EP,EO⟩:=HK
 have FR:=hV.before.1
 have HE:=hV.after.1
 refine zD 7<|jf [0] Y14 (fun ro4 oB P5=>?_)
 have hZ1:=FQ.ma P5
 obtain⟨u1,Q9,Q7,ri,rfl,Q8,ET,ES⟩:=hZ1
 refine zD 7<|js 20 (!decide (Ak=0)) (fun h5=>?_) (fun h5=>?_)
 ·
  replace h5:=of_decide_eq_false (by simpa using h5)
  have qn:zs=[]∧Ak=9:=by rcases he with h| ⟨_,h⟩;exact h;omega
  refine zD 10<|UZ qC.a.a (.tuple ⟨[zI 0,zI 0,zI 0,zI Ak]⟩) [1] [] (bV.trans oB) ⟨zs,_,_,_,_,hz,rfl,rfl,.inl ⟨qn.1,rfl,rfl,rfl,qn.2⟩⟩
 replace h5:=of_decide_eq_true (by simpa using h5)
 have qn:zs≠[]∧Ak=0:=by rcases he with ⟨_,h⟩|h;omega;exact h
 refine zD 5<|jc (vs:=[.slice u1 zs.length ri]) [] (hCt (show bI _ _ _ _ _ from ⟨u1,Q9,Q7,ri,rfl,Q8,ET,ES⟩) (by omega) hpr) ?_
 rintro _ _ ⟨rfl,rfl⟩
 refine jg 0 []<|jn fun b8=>jd 16 [0]<|jl (b:=f14) (off:=0) (m:=13) (vs:=[d0,d1,d2,d3,d4,d5,.slice k9 K.before.length kz,.slice ld K.after.length kA,zI K.gone,zI K.new,zI K.af,d8,d9]) 6 ⟨_,_,_,.inl (oB _ _ hf),rfl⟩<|zD 4<|ez [1,1,1,1,1,0,1,0,0] [] (fun(zz:Nat×Bool×Int×Int×Int)=>[(2,zI zz.2.2.1),(3,zI zz.2.2.2.1),(4,zI zz.2.2.2.2),(5,zI Ak),(6,zP f14),(7,.slice u1 zs.length ri),(8,zP b8),(9,.bool zz.2.1),(31,zI (K.before.length:Int)),(32,zI (zz.1:Int))]) (fun(zz:Nat×Bool×Int×Int×Int)=>[.b b8 (.cells ⟨[zI ((aJ zs).c 0 0),zI ((aJ zs).c 0 1),zI ((aJ zs).c 0 2),zI ((aJ zs).c 0 3),zI ((aJ zs).c 1 0),zI ((aJ zs).c 1 1),zI ((aJ zs).c 1 2),zI ((aJ zs).c 1 3),zI ((aJ zs).c 2 0),zI ((aJ zs).c 2 1),zI ((aJ zs).c 2 2),zI ((aJ zs).c 2 3),zI ((aJ zs).c 3 0),zI ((aJ zs).c 3 1),zI ((aJ zs).c 3 2),zI ((aJ zs).c 3 3)]⟩ 112 (0,0)),.b b1 (.cells ⟨[v0,v1,.slice fa 0 fc,v3,v4,v5,v6,v7,zI K.gone,zI K.new,zI K.af,vb]⟩ 38 (0,0)),.l fr]) (fun(zz:Nat×Bool×Int×Int×Int)=>zz.1≤K.before.length∧(⟨zz.2.1,zz.2.2.1,zz.2.2.2.1,zz.2.2.2.2⟩:DF)=(af1 (aJ zs) ((zs.length:Nat):Int) K.after.length zz.1)) (fun(zz:Nat×Bool×Int×Int×Int)=>K.before.length-zz.1) (⟨0,false,0,0,((zs.length:Nat):Int)⟩) ⟨by dsimp only;omega,rfl⟩ [0,1,2] ?_
 rintro⟨i,qf,qa,qb,qw⟩ hI K1 bM rest
 dsimp only at hI
 refine zD 5<|zJ 33 ((i:Int) <(K.before.length:Int)) (fun h6=>?_) fun h6=>?_
 ·
  refine zD 15<|jl (b:=f14) (off:=0) (m:=13) (vs:=[d0,d1,d2,d3,d4,d5,.slice k9 K.before.length kz,.slice ld K.after.length kA,zI K.gone,zI K.new,zI K.af,d8,d9]) 7 ⟨_,_,_,.inl (oB _ _ hf),rfl⟩<|zD 4<|ez [1,1,1,1,1,0,1,0,0,1,1,0,0,1,1,0,0] [K1] (fun(zz:Nat×Bool×Int×Int×Int)=>[(2,zI zz.2.2.1),(3,zI zz.2.2.2.1),(4,zI zz.2.2.2.2),(5,zI Ak),(6,zP f14),(7,.slice u1 zs.length ri),(8,zP b8),(9,.bool zz.2.1),(10,zI (i:Int)),(31,zI (K.before.length:Int)),(32,zI (i:Int)),(40,zI (K.after.length:Int)),(41,zI (zz.1:Int))]) (fun(zz:Nat×Bool×Int×Int×Int)=>[.b b8 (.cells ⟨[zI ((aJ zs).c 0 0),zI ((aJ zs).c 0 1),zI ((aJ zs).c 0 2),zI ((aJ zs).c 0 3),zI ((aJ zs).c 1 0),zI ((aJ zs).c 1 1),zI ((aJ zs).c 1 2),zI ((aJ zs).c 1 3),zI ((aJ zs).c 2 0),zI ((aJ zs).c 2 1),zI ((aJ zs).c 2 2),zI ((aJ zs).c 2 3),zI ((aJ zs).c 3 0),zI ((aJ zs).c 3 1),zI ((aJ zs).c 3 2),zI ((aJ zs).c 3 3)]⟩ 112 (0,0)),.b b1 (.cells ⟨[v0,v1,.slice fa 0 fc,v3,v4,v5,v6,v7,zI K.gone,zI K.new,zI K.af,vb]⟩ 38 (0,0)),.l fr]) (fun(zz:Nat×Bool×Int×Int×Int)=>zz.1≤K.after.length∧(⟨zz.2.1,zz.2.2.1,zz.2.2.2.1,zz.2.2.2.2⟩:DF)=(HT (aJ zs) ((zs.length:Nat):Int) i (af1 (aJ zs) ((zs.length:Nat):Int) K.after.length i) zz.1)) (fun(zz:Nat×Bool×Int×Int×Int)=>K.after.length-zz.1) (⟨0,qf,qa,qb,qw⟩) ⟨by dsimp only;omega,hI.2⟩ [0,1,2] ?_
  rintro⟨j,qf,qa,qb,qw⟩ hJ K2 mo rest
  dsimp only at hJ
  refine zD 5<|zJ 42 ((j:Int) <(K.after.length:Int)) (fun h7=>?_) fun h7=>?_
  ·
   refine zD 10 ?_
   have ir:=S1 zs i j
   refine zD 3<|IS (b:=b8) (off:=0) (len:=4) (sz:=4) (i:Int) (by omega)<|IS (b:=b8) (off:=0+(i:Int).toNat*4) (len:=4) (sz:=1) (j:Int) (by omega)<|oJ (b:=b8) (off:=0+(i:Int).toNat*4+(j:Int).toNat*1) (m:=1) (vs:=[zI ((aJ zs).c i j)]) 0 [0] [(b8,.cells ⟨[zI ((aJ zs).c 0 0),zI ((aJ zs).c 0 1),zI ((aJ zs).c 0 2),zI ((aJ zs).c 0 3),zI ((aJ zs).c 1 0),zI ((aJ zs).c 1 1),zI ((aJ zs).c 1 2),zI ((aJ zs).c 1 3),zI ((aJ zs).c 2 0),zI ((aJ zs).c 2 1),zI ((aJ zs).c 2 2),zI ((aJ zs).c 2 3),zI ((aJ zs).c 3 0),zI ((aJ zs).c 3 1),zI ((aJ zs).c 3 2),zI ((aJ zs).c 3 3)]⟩ 112 (0,0))] (fun s _ hZ=>rY (hZ _ (.head _)) (DV (m:=aJ zs) (by omega) (by omega)))<|zD 4<|IS (b:=b8) (off:=0) (len:=4) (sz:=4) (i:Int) (by omega)<|IS (b:=b8) (off:=0+(i:Int).toNat*4) (len:=4) (sz:=1) (j:Int) (by omega)<|oJ (b:=b8) (off:=0+(i:Int).toNat*4+(j:Int).toNat*1) (m:=1) (vs:=[zI ((aJ zs).c i j)]) 0 [0] [(b8,.cells ⟨[zI ((aJ zs).c 0 0),zI ((aJ zs).c 0 1),zI ((aJ zs).c 0 2),zI ((aJ zs).c 0 3),zI ((aJ zs).c 1 0),zI ((aJ zs).c 1 1),zI ((aJ zs).c 1 2),zI ((aJ zs).c 1 3),zI ((aJ zs).c 2 0),zI ((aJ zs).c 2 1),zI ((aJ zs).c 2 2),zI ((aJ zs).c 2 3),zI ((aJ zs).c 3 0),zI ((aJ zs).c 3 1),zI ((aJ zs).c 3 2),zI ((aJ zs).c 3 3)]⟩ 112 (0,0))] (fun s _ hZ=>rY (hZ _ (.head _)) (DV (m:=aJ zs) (by omega) (by omega)))<|ja ((zs.length:Int)-((aJ zs).c i j)) (by omega)<|jmx (k:= .i64) (a:=((aJ zs).c i j)) (b:=((zs.length:Int)-((aJ zs).c i j)))<|zD 8<|zJ 60 ((max ((aJ zs).c i j) ((zs.length:Int)-((aJ zs).c i j))) <qw) (fun h8=>?_) fun h8=>?_
   ·
    refine zD 11<|ja ((j:Int)+1) (by omega)<|zD 2<|bO mo (⟨j+1,true,(i:Int),(j:Int),(max ((aJ zs).c i j) ((zs.length:Int)-((aJ zs).c i j)))⟩) ⟨by dsimp only;omega,atp hJ.2 (by assumption)⟩ (by dsimp only;omega) [0,1,2] (Sub.refl _)
   refine zD 3<|ja ((j:Int)+1) (by omega)<|zD 2<|bO mo (⟨j+1,qf,qa,qb,qw⟩) ⟨by dsimp only;omega,atq hJ.2 (by assumption)⟩ (by dsimp only;omega) [0,1,2] (Sub.refl _)
  refine zD 3<|ja ((i:Int)+1) (by omega)<|zD 2<|bO bM (⟨i+1,qf,qa,qb,qw⟩) ⟨by dsimp only;omega,by have:=hJ.2;rw[show j=K.after.length by omega] at this;exact this⟩ (by dsimp only;omega) [0,1,2] (Sub.refl _)
 refine zD 8<|js 67 (!qf) (fun h9=>?_) (fun h9=>?_)
 ·
  try simp only[zB] at h9
  refine zD 9<|UZ qC.a.a (.tuple ⟨[zI 0,zI 0,zI 0,zI 11]⟩) [2] [] (bV.trans oB) ⟨zs,_,_,_,_,hz,rfl,rfl,.inr ⟨qn.1,by have:=hI.2;rw[show i=K.before.length by omega] at this;rw[←this];simp only[akT];cases qf<;>first|rfl|contradiction|simp_all⟩⟩
 try simp only[zB] at h9
 refine zD 13<|UZ qC.a.a (.tuple ⟨[zI qa,zI qb,zI qw,zI 0]⟩) [2] [] (bV.trans oB) ⟨zs,_,_,_,_,hz,rfl,rfl,.inr ⟨qn.1,by have:=hI.2;rw[show i=K.before.length by omega] at this;rw[←this];simp only[akT];cases qf<;>first|rfl|contradiction|simp_all⟩⟩
end Go.L
