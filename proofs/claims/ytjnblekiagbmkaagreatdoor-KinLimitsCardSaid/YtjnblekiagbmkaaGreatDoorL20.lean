/- Part 20 of the proof: a program logic, contracts, a theorem on goroutines. -/
import Derived.Test.YtjnblekiagbmkaaGreatDoorL19
set_option maxRecDepth 100000
set_option linter.all false
namespace Go.L
open Go Go.Conc Go.Proofs
variable {κ:Type} {l z z1:List Value} {n:Int} {b bu sz r i dep by1:Nat} {K:bk} {fs:List iD} {ag:Bool}
theorem ajt{x:ay}{ro:Nat→Option Obj}:dL zT 69 [.agg ⟨[zI x.past,zI x.w0,zI x.w1,zI x.w2,zI x.w3,zI x.gone,zI x.new,zI x.af]⟩] ro (zI x.af):=by
 refine bC au [] [] bn<|zD 2<|jn fun b1=>jd 9 [0]<|aF q0 (zI x.af) [] [] [] (Sub.refl _) ⟨_,_,rfl,rfl,rfl,rfl⟩
theorem ack{rows:List bU}{ro:Nat→Option Obj}(hK:gV ro l K)(hV:gT K)(hR:rows.length≤2)(hB:mT ro l K rows):G0 zT 68 [.agg ⟨l⟩,.func (.func 69) ⟨[]⟩ ⟨[]⟩] ro [] (fun r Y=>∃zs a b e,zs.Perm (gB K (eP K) (eY K.gone K.new K.af) rows)∧Y=[]∧r= .tuple ⟨[.agg ⟨[zI a,zI b]⟩,zI e]⟩∧((zs=[]∧a=0∧b=0∧e=9)∨(zs≠[]∧a=tS (zs.map fun x=>x.af)∧b=By (zs.map fun x=>x.af)∧e=0))):=by
 obtain⟨v0,v1,v3,v4,v5,v6,v7,vb,fa,fc,hv,rfl,_⟩:=id hK
 refine HC au [] [] bn fun fr=>zD 2<|jn fun b2=>jn fun b4=>jd 5 [1]<|aqy (vs:=[.agg ⟨[v0,v1,.slice fa 0 fc,v3,v4,v5,v6,v7,zI K.gone,zI K.new,zI K.af,vb]⟩]) [] (fun _ _ h=>h) (acs hK hV hR hB) ?_
 rintro _ aA Y14 bW ⟨f14,zs,v14,LD,rfl,Le,hz,Sf,he⟩
 have ajT:∀x∈zs,(-4≤x.gone∧x.gone≤4)∧(-4≤x.new∧x.new≤4)∧(0≤x.af∧x.af≤4):=fun x hx=>by obtain⟨i,r,p,_,_,rfl,_⟩:=qu (hz.mem_iff.1 hx);exact sL hV r i p
 have hzl:zs.length≤1250:=by rw[hz.length_eq];exact wD hV _ _ hR
 refine zD 7<|jf [0] Y14 (fun ro4 qD Zd=>?_)
 have hZ1:=Sf.nv Zd
 obtain⟨Bm,aa0,aaY,yf,rfl,aaZ,Rj,Ri⟩:=hZ1
 refine zD 7<|js 19 (!decide (LD=0)) (fun h5=>?_) (fun h5=>?_)
 ·
  replace h5:=of_decide_eq_false (by simpa using h5)
  have xK:zs=[]∧LD=9:=by rcases he with h| ⟨_,h⟩;exact h;omega
  refine jd 9 [0]<|aqw qC.a.a (.tuple ⟨[.agg ⟨[zI 0,zI 0]⟩,zI LD]⟩) [0] [2] [] (bW.trans qD) ⟨zs,_,_,_,hz,rfl,rfl,.inl ⟨xK.1,rfl,rfl,xK.2⟩⟩
 replace h5:=of_decide_eq_true (by simpa using h5)
 have xK:zs≠[]∧LD=0:=by rcases he with ⟨_,h⟩|h;omega;exact h
 have hzp:0 <zs.length:=List.length_pos_iff.2 xK.1
 refine zD 14<|qB<|eN [1,1,1,1,0,1,0,0] [] (fun(zz:Nat×Value×Cells)=>[(1,.func (.func 69) ⟨[]⟩ ⟨[]⟩),(4,zP b4),(5,zI 0),(9,zz.2.1),(22,.slice Bm zs.length yf),(23,zI (zs.length:Int)),(24,zI (zz.1:Int))]) (fun(zz:Nat×Value×Cells)=>[.l zz.2.2,.b b4 (.cells ⟨[zI 0,zI 0]⟩ 94 (0,0)),.b b2 (.cells ⟨[v0,v1,.slice fa 0 fc,v3,v4,v5,v6,v7,zI K.gone,zI K.new,zI K.af,vb]⟩ 40 (0,0)),.l fr]) (fun(zz:Nat×Value×Cells)=>zz.1≤zs.length∧az zz.2.1 1 3 cS ((zs.take zz.1).map fun x=>x.af) zz.2.2) (fun(zz:Nat×Value×Cells)=>zs.length-zz.1) (⟨0,zS,[]⟩) ⟨by dsimp only;omega,az.nil _ _ _⟩ [0,1,2,3] ?_
 rintro⟨k,vS,LS⟩ hI K1 bF rest
 dsimp only at hI
 refine zD 5<|zJ 25 ((k:Int) <(zs.length:Int)) (fun h6=>?_) fun h6=>?_
 ·
  refine zD 6 ?_
  obtain⟨Qt,RZ⟩:=zG zs k
  refine iW yf 8 Rj RZ<|jl 0 (Ri _ _ RZ)<|jn fun Qp=>jd 6 [0,0]<|jp (vs:=[.agg ⟨[zI Qt.past,zI Qt.w0,zI Qt.w1,zI Qt.w2,zI Qt.w3,zI Qt.gone,zI Qt.new,zI Qt.af]⟩]) [] [] (fun aA hs hZ=>(ajt (x:=Qt)))<|jn fun b32=>k8 (sz:=1) (ps:=((zs.take k).map fun x=>x.af)) (qs:=[Qt.af]) (enc:=cS) (w:= .slice (some ⟨b32,0,none⟩) 1 1) [2] [0] [(b32,.cells ⟨([Qt.af].map cS).flatten⟩ 3 (0,0))] (hI.2) (fun s _ hZ=>cb [Qt.af] (hZ _ (.head _)) (by intro p hp;rfl)) (fun p _=>ar rfl) (by simp only[List.length_map,List.length_take,List.length_cons,List.length_nil];omega) (fun v33 L33 adm=>?_)
  obtain⟨aJE,aJf,aPV⟩:=adm.form
  subst aPV
  refine zD 3<|ja ((k:Int)+1) (by omega)<|zD 2<|bI bF (⟨k+1,(.slice aJE ((((zs.take k).map fun x=>x.af)++[Qt.af])).length aJf),L33⟩) ⟨by dsimp only;omega,by rw[jB RZ,List.map_append];exact adm⟩ (by dsimp only;omega) [0,3,4,5] (Sub.refl _)
 refine zD 5<|jp (vs:=[vS]) [0] LS (fun aA hs hZ=>amt (hI.2.nv hZ) ⟨by simp only[List.length_map,List.length_take];omega,by simp only[List.length_map,List.length_take];omega⟩) ?_
 refine jd 4 [1]<|aqw qC.a.a (.tuple ⟨[.agg ⟨[zI (tS ((zs.take k).map fun x=>x.af)),zI (By ((zs.take k).map fun x=>x.af))]⟩,zI 0]⟩) [1] [3] [] (bW.trans qD) ⟨zs,_,_,_,hz,rfl,rfl,.inr ⟨xK.1,by rw[show k=zs.length by omega,List.take_length],by rw[show k=zs.length by omega,List.take_length],rfl⟩⟩
theorem aqm{rows:List bU}{ro:Nat→Option Obj}(hK:gV ro l K)(hV:gT K)(hR:rows.length≤2)(hB:mT ro l K rows):G0 zT 31 [.agg ⟨l⟩] ro [] (fun r Y=>∃zs a b e,zs.Perm (gB K (eP K) (eY K.gone K.new K.af) rows)∧Y=[]∧r= .tuple ⟨[.agg ⟨[zI a,zI b]⟩,zI e]⟩∧((zs=[]∧a=0∧b=0∧e=9)∨(zs≠[]∧a=tS (zs.map fun x=>x.af)∧b=By (zs.map fun x=>x.af)∧e=0))):=by
 obtain⟨v0,v1,v3,v4,v5,v6,v7,vb,fa,fc,hv,rfl,_⟩:=id hK
 refine HC au [] [] bn fun fr=>zD 2<|jn fun b1=>jn fun b2=>jd 5 [1]<|KE (vs:=[.agg ⟨[v0,v1,.slice fa 0 fc,v3,v4,v5,v6,v7,zI K.gone,zI K.new,zI K.af,vb]⟩,.func (.func 69) ⟨[]⟩ ⟨[]⟩]) [] (fun _ _ h=>h) (ack hK hV hR hB) ?_
 rintro _ _ ⟨zs,a5,c5,e5,hz,rfl,rfl,he⟩
 refine jg 0 []<|jd 6 [0]<|aqw qC (.tuple ⟨[.agg ⟨[zI a5,zI c5]⟩,zI e5]⟩) [0] [2] [] (Sub.refl _) ⟨zs,_,_,_,hz,rfl,rfl,he⟩
theorem aql{a b:Int}{ro:Nat→Option Obj}:dL zT 67 [zI a,zI b] ro (.bool (decide (a=b))):=by
 refine bC au [] [] bn<|zD 12<|aF q0 (.bool (decide (a=b))) [] [] [] (Sub.refl _) ⟨_,_,rfl,rfl,rfl,rfl⟩
theorem aEI{a b:Int}{s:Bool}{ro:Nat→Option Obj}:dL zT 34 [zI a,zI b,.bool s] ro (.agg ⟨[zI a,zI b,.bool s]⟩):=by
 refine bC au [] [] bn<|zD 2<|jn fun b6=>jd 10 [0]<|aF q0 (.agg ⟨[zI a,zI b,.bool s]⟩) [0] [] [] (Sub.refl _) ⟨_,_,rfl,rfl,rfl,rfl⟩
theorem kz{w:ByteArray}{a b c:Int}{ro:Nat→Option Obj}:dL zT 65 [.string w,zI a,zI b,zI c] ro (.agg ⟨[.string w,zI a,zI b,zI c,.bool false]⟩):=by
 refine bC au [] [] bn<|zD 2<|jn fun b8=>jd 11 [0]<|aF q0 (.agg ⟨[.string w,zI a,zI b,zI c,.bool false]⟩) [0] [] [] (Sub.refl _) ⟨_,_,rfl,rfl,rfl,rfl⟩
theorem aEJ{w:ByteArray}{a:Int}{ro:Nat→Option Obj}:dL zT 64 [.string w,zI a] ro (.agg ⟨[.string w,zI (-1),zI a,(zS)]⟩):=by
 refine bC au [] [] bn<|zD 2<|jn fun b4=>jd 9 [0]<|aF q0 (.agg ⟨[.string w,zI (-1),zI a,zS]⟩) [0] [] [] (Sub.refl _) ⟨_,_,rfl,rfl,rfl,rfl⟩
theorem cIs{w:ByteArray}{a:Int}{va:Option Addr}{vn vc:Nat}{ro:Nat→Option Obj}:dL zT 63 [.string w,zI a,(.slice va vn vc)] ro (.agg ⟨[.string w,zI a,zI (-1),(.slice va vn vc)]⟩):=by
 refine bC au [] [] bn<|zD 2<|jn fun b6=>jd 10 [0]<|aF q0 (.agg ⟨[.string w,zI a,zI (-1),(.slice va vn vc)]⟩) [0] [] [] (Sub.refl _) ⟨_,_,rfl,rfl,rfl,rfl⟩
def Te:List bG:=[⟨(bs [102,111,111,100]),-1⟩,⟨(bs [98,114,101,97,100]),0⟩,⟨(bs [99,108,111,116,104]),-1⟩,⟨(bs [104,97,116,115]),2⟩]
def B1:List bY:=[⟨(bs [98,97,107,101,114]),1,-1,[]⟩,⟨(bs [98,111,110,110,101,116,115]),-1,3,[]⟩,⟨(bs [99,111,110,102,101,99,116,105,111,110,101,114]),0,-1,[0]⟩,⟨(bs [104,97,116,116,101,114]),3,-1,[]⟩,⟨(bs [109,101,114,99,101,114]),2,-1,[3]⟩,⟨(bs [109,105,108,108,105,110,101,114]),-1,1,[]⟩]
def LQ:List aE:=[⟨(bs [115,109,105,116,104]),0,1,0,false⟩,⟨(bs [97,110,110,97]),0,2,3,false⟩,⟨(bs [115,109,121,116,104]),1,1,2,false⟩]
def LU:List aE:=[⟨(bs [115,109,121,116,104]),0,2,0,false⟩,⟨(bs [115,109,105,116,104]),1,1,-1,false⟩,⟨(bs [98,101,110]),0,1,4,false⟩]
abbrev aS(n:Int):bk where
 ways:=[[⟨1,0,0,0,0,0,0⟩,⟨2,0,0,0,0,0,0⟩]]
 cs:=Te
 hd:=B1
 rules:=[⟨(bs [121]),(bs [105])⟩]
 before:=LQ
 after:=LU
 gone:=1
 new:=1
 af:=n
 facts:=[]
 str:=[[⟨1,0⟩,⟨2,0⟩],[⟨1,0⟩]]
abbrev dB(dW gh b9 fy dJ da c8:Nat)(n:Int):List Value:=[.slice (some ⟨dW,0,none⟩) 2 2,.slice (some ⟨gh,0,none⟩) 1 1,zS,.slice (some ⟨b9,0,none⟩) 4 4,.slice (some ⟨fy,0,none⟩) 6 6,.slice (some ⟨dJ,0,none⟩) 1 1,.slice (some ⟨da,0,none⟩) 3 3,.slice (some ⟨c8,0,none⟩) 3 3,zI 1,zI 1,zI n,zS]
abbrev dG(dW mW mB gh oG b9 fy jP mg dJ da c8:Nat):Cells:=[(dW,.cells ⟨[.slice (some ⟨mW,0,none⟩) 2 2,.slice (some ⟨mB,0,none⟩) 1 1]⟩ 55 (0,0)),(mW,.cells ⟨[zI 1,zI 0,zI 2,zI 0]⟩ 54 (0,0)),(mB,.cells ⟨[zI 1,zI 0]⟩ 54 (0,0)),(gh,.cells ⟨[.slice (some ⟨oG,0,none⟩) 2 2]⟩ 62 (0,0)),(oG,.cells ⟨[zI 1,zI 0,zI 0,zI 0,zI 0,zI 0,zI 0,zI 2,zI 0,zI 0,zI 0,zI 0,zI 0,zI 0]⟩ 58 (0,0)),(b9,.cells ⟨[.string (bs [102,111,111,100]),zI (-1),.string (bs [98,114,101,97,100]),zI 0,.string (bs [99,108,111,116,104]),zI (-1),.string (bs [104,97,116,115]),zI 2]⟩ 114 (0,0)),(fy,.cells ⟨[.string (bs [98,97,107,101,114]),zI 1,zI (-1),zS,.string (bs [98,111,110,110,101,116,115]),zI (-1),zI 3,zS,.string (bs [99,111,110,102,101,99,116,105,111,110,101,114]),zI 0,zI (-1),.slice (some ⟨jP,0,none⟩) 1 1,.string (bs [104,97,116,116,101,114]),zI 3,zI (-1),zS,.string (bs [109,101,114,99,101,114]),zI 2,zI (-1),.slice (some ⟨mg,0,none⟩) 1 1,.string (bs [109,105,108,108,105,110,101,114]),zI (-1),zI 1,zS]⟩ 117 (0,0)),(jP,.cells ⟨[zI 0]⟩ 3 (0,0)),(mg,.cells ⟨[zI 3]⟩ 3 (0,0)),(dJ,.cells ⟨[.string (bs [121]),.string (bs [105])]⟩ 65 (0,0)),(da,.cells ⟨[.string (bs [115,109,105,116,104]),zI 0,zI 1,zI 0,.bool false,.string (bs [97,110,110,97]),zI 0,zI 2,zI 3,.bool false,.string (bs [115,109,121,116,104]),zI 1,zI 1,zI 2,.bool false]⟩ 70 (0,0)),(c8,.cells ⟨[.string (bs [115,109,121,116,104]),zI 0,zI 2,zI 0,.bool false,.string (bs [115,109,105,116,104]),zI 1,zI 1,zI (-1),.bool false,.string (bs [98,101,110]),zI 0,zI 1,zI 4,.bool false]⟩ 70 (0,0))]
abbrev af3(jP mg:Nat):List bp:=[⟨(bs [98,97,107,101,114]),1,-1,zS⟩,⟨(bs [98,111,110,110,101,116,115]),-1,3,zS⟩,⟨(bs [99,111,110,102,101,99,116,105,111,110,101,114]),0,-1,.slice (some ⟨jP,0,none⟩) 1 1⟩,⟨(bs [104,97,116,116,101,114]),3,-1,zS⟩,⟨(bs [109,101,114,99,101,114]),2,-1,.slice (some ⟨mg,0,none⟩) 1 1⟩,⟨(bs [109,105,108,108,105,110,101,114]),-1,1,zS⟩]
theorem dM{ro:Nat→Option Obj}{dW mW mB gh oG b9 fy jP mg dJ da c8:Nat}(hk:Knows ro (dG dW mW mB gh oG b9 fy jP mg dJ da c8)):gV ro (dB dW gh b9 fy dJ da c8 n) (aS n):=
 ⟨_,_,_,_,_,_,_,_,none,0,af3 jP mg,rfl,
  ⟨[.slice (some ⟨mW,0,none⟩) 2 2,.slice (some ⟨mB,0,none⟩) 1 1],bR (enc:=jz) (T:=55) [.slice (some ⟨mW,0,none⟩) 2 2,.slice (some ⟨mB,0,none⟩) 1 1] (hk _ (.head _)) (fun _ _=>rfl),
   .cons (bR (enc:=cI) (T:=54) [⟨1,0⟩,⟨2,0⟩] (hk _ (.tail _ (.head _))) (fun _ _=>rfl)) (.cons (bR (enc:=cI) (T:=54) [⟨1,0⟩] (hk _ (.tail _ (.tail _ (.head _)))) (fun _ _=>rfl)) .nil)⟩,
  ⟨[.slice (some ⟨oG,0,none⟩) 2 2],bR (enc:=jz) (T:=62) [.slice (some ⟨oG,0,none⟩) 2 2] (hk _ (.tail _ (.tail _ (.tail _ (.head _))))) (fun _ _=>rfl),
   .cons (bR (enc:=mO) (T:=58) [⟨1,0,0,0,0,0,0⟩,⟨2,0,0,0,0,0,0⟩] (hk _ (.tail _ (.tail _ (.tail _ (.tail _ (.head _)))))) (fun _ _=>rfl)) .nil⟩,
  ⟨bR (enc:=oP) (T:=114) Te (hk _ (.tail _ (.tail _ (.tail _ (.tail _ (.tail _ (.head _))))))) (fun _ _=>rfl),bR (enc:=me) (T:=117) (af3 jP mg) (hk _ (.tail _ (.tail _ (.tail _ (.tail _ (.tail _ (.tail _ (.head _)))))))) (fun _ _=>rfl),
   .cons ⟨rfl,rfl,rfl,bK.nil _ _ _ _ _⟩ (.cons ⟨rfl,rfl,rfl,bK.nil _ _ _ _ _⟩ (.cons ⟨rfl,rfl,rfl,bR (enc:=cS) (T:=3) [0] (hk _ (.tail _ (.tail _ (.tail _ (.tail _ (.tail _ (.tail _ (.tail _ (.head _))))))))) (fun _ _=>rfl)⟩ (.cons ⟨rfl,rfl,rfl,bK.nil _ _ _ _ _⟩ (.cons ⟨rfl,rfl,rfl,bR (enc:=cS) (T:=3) [3] (hk _ (.tail _ (.tail _ (.tail _ (.tail _ (.tail _ (.tail _ (.tail _ (.tail _ (.head _)))))))))) (fun _ _=>rfl)⟩ (.cons ⟨rfl,rfl,rfl,bK.nil _ _ _ _ _⟩ .nil)))))⟩,
  .cons ⟨rfl,rfl,rfl⟩ (.cons ⟨rfl,rfl,rfl⟩ (.cons ⟨rfl,rfl,rfl⟩ (.cons ⟨rfl,rfl,rfl⟩ (.cons ⟨rfl,rfl,rfl⟩ (.cons ⟨rfl,rfl,rfl⟩ .nil))))),
  bR (enc:=jO) (T:=65) [⟨(bs [121]),(bs [105])⟩] (hk _ (.tail _ (.tail _ (.tail _ (.tail _ (.tail _ (.tail _ (.tail _ (.tail _ (.tail _ (.head _))))))))))) (fun _ _=>rfl),bR (enc:=e8) (T:=70) LQ (hk _ (.tail _ (.tail _ (.tail _ (.tail _ (.tail _ (.tail _ (.tail _ (.tail _ (.tail _ (.tail _ (.head _)))))))))))) (fun _ _=>rfl),bR (enc:=e8) (T:=70) LU (hk _ (.tail _ (.tail _ (.tail _ (.tail _ (.tail _ (.tail _ (.tail _ (.tail _ (.tail _ (.tail _ (.tail _ (.head _))))))))))))) (fun _ _=>rfl),bK.nil _ _ _ _ _⟩
theorem dN(dW gh b9 fy dJ da c8:Nat)(n:Int):qI (aS n) (dB dW gh b9 fy dJ da c8 n):=
 ⟨_,_,_,_,_,_,_,_,none,0,rfl,EE rfl rfl rfl rfl rfl rfl rfl rfl⟩
theorem Jt{ro:Nat→Option Obj}:eG zT 29 [zI n] ro [] (fun r Y=>∃l,r= .agg ⟨l⟩∧(∀aL,Knows aL Y→gV aL l (aS n))∧qI (aS n) l):=by
 refine bC au [] [] bn<|zD 2<|jn fun b2=>zD 7<|jn fun b9=>jp (vs:=[.string (bs [98,97,107,101,114]),zI 1,zS]) [] [] (fun aA hs hZ=>cIs)<|jp (vs:=[.string (bs [98,111,110,110,101,116,115]),zI 3]) [] [] (fun aA hs hZ=>aEJ)<|jn fun jP=>jp (vs:=[.string (bs [99,111,110,102,101,99,116,105,111,110,101,114]),zI 0,.slice (some ⟨jP,0,none⟩) 1 1]) [] [] (fun aA hs hZ=>cIs)<|jp (vs:=[.string (bs [104,97,116,116,101,114]),zI 3,zS]) [] [] (fun aA hs hZ=>cIs)<|jn fun mg=>jp (vs:=[.string (bs [109,101,114,99,101,114]),zI 2,.slice (some ⟨mg,0,none⟩) 1 1]) [] [] (fun aA hs hZ=>cIs)<|jp (vs:=[.string (bs [109,105,108,108,105,110,101,114]),zI 1]) [] [] (fun aA hs hZ=>aEJ)<|jn fun fy=>zD 1<|jn fun b3=>jd 6 [0]<|jn fun mW=>zD 1<|jn fun mB=>jn fun dW=>zD 3<|jn fun oG=>zD 1<|jn fun gh=>zD 1<|jn fun b4=>jd 8 [0,0,6]<|lD [3,4] ⟨fun z1 t2 qG=>?_,fun z4 t5 X9=>?_,trivial⟩
 ·
  refine jn fun dJ=>bw qG [1,2,3,4,5,6,7,8,9,10,11,12]<|jp (vs:=[.string (bs [115,109,105,116,104]),zI 0,zI 1,zI 0]) [] [] (fun aA hs hZ=>kz)<|jp (vs:=[.string (bs [97,110,110,97]),zI 0,zI 2,zI 3]) [] [] (fun aA hs hZ=>kz)<|jp (vs:=[.string (bs [115,109,121,116,104]),zI 1,zI 1,zI 2]) [] [] (fun aA hs hZ=>kz)<|lD [7,8] ⟨fun z7 t8 X7=>?_,fun z10 t11 F5=>?_,trivial⟩
  ·
   refine jn fun da=>bw X7 [1,2,3,4,5,6,7,8,9,10,11,12,13]<|jp (vs:=[.string (bs [115,109,121,116,104]),zI 0,zI 2,zI 0]) [] [] (fun aA hs hZ=>kz)<|jp (vs:=[.string (bs [115,109,105,116,104]),zI 1,zI 1,zI (-1)]) [] [] (fun aA hs hZ=>kz)<|jp (vs:=[.string (bs [98,101,110]),zI 0,zI 1,zI 4]) [] [] (fun aA hs hZ=>kz)<|aH 11 fun alz alT F4=>jn fun c8=>bw F4 [1,2,3,4,5,6,7,8,9,10,11,12,13,14]<|zD 1<|aH 14 fun avT awS atj=>jd 1 [14]<|cM atj<|zD 2<|aF q0 (.agg ⟨dB dW gh b9 fy dJ da c8 n⟩) [14] [6,8,7,4,5,13,10,12,11,2,1,0] (dG dW mW mB gh oG b9 fy jP mg dJ da c8) (Sub.refl _) ⟨_,_,rfl,rfl,_,rfl,fun _ hk=>dM hk,dN _ _ _ _ _ _ _ _⟩
  refine jp (vs:=[.string (bs [115,109,121,116,104]),zI 0,zI 2,zI 0]) [] [] (fun aA hs hZ=>kz)<|bw F5 [0,1,2,3,4,5,6,7,8,9,10,11,12]<|lD [7,9] ⟨fun z15 t16 Lc=>?_,fun z18 t19 SM=>?_,trivial⟩
  ·
   refine jn fun da=>bw Lc [1,2,3,4,5,6,7,8,9,10,11,12,13]<|jp (vs:=[.string (bs [115,109,105,116,104]),zI 1,zI 1,zI (-1)]) [] [] (fun aA hs hZ=>kz)<|jp (vs:=[.string (bs [98,101,110]),zI 0,zI 1,zI 4]) [] [] (fun aA hs hZ=>kz)<|aH 11 fun avP awO Ya=>jn fun c8=>bw Ya [1,2,3,4,5,6,7,8,9,10,11,12,13,14]<|zD 1<|aH 14 fun avO awN SL=>jd 1 [14]<|cM SL<|zD 2<|aF q0 (.agg ⟨dB dW gh b9 fy dJ da c8 n⟩) [14] [6,8,7,4,5,13,10,12,11,2,1,0] (dG dW mW mB gh oG b9 fy jP mg dJ da c8) (Sub.refl _) ⟨_,_,rfl,rfl,_,rfl,fun _ hk=>dM hk,dN _ _ _ _ _ _ _ _⟩
  refine jp (vs:=[.string (bs [115,109,105,116,104]),zI 1,zI 1,zI (-1)]) [] [] (fun aA hs hZ=>kz)<|bw SM [0,1,2,3,4,5,6,7,8,9,10,11,12]<|lD [7,10] ⟨fun z23 t24 La=>?_,fun z26 t27 F3=>?_,trivial⟩
  ·
   refine jn fun da=>bw La [1,2,3,4,5,6,7,8,9,10,11,12,13]<|jp (vs:=[.string (bs [98,101,110]),zI 0,zI 1,zI 4]) [] [] (fun aA hs hZ=>kz)<|aH 11 fun TJ TX K0=>jn fun c8=>bw K0 [1,2,3,4,5,6,7,8,9,10,11,12,13,14]<|zD 1<|aH 14 fun Zs aad SJ=>jd 1 [14]<|cM SJ<|zD 2<|aF q0 (.agg ⟨dB dW gh b9 fy dJ da c8 n⟩) [14] [6,8,7,4,5,13,10,12,11,2,1,0] (dG dW mW mB gh oG b9 fy jP mg dJ da c8) (Sub.refl _) ⟨_,_,rfl,rfl,_,rfl,fun _ hk=>dM hk,dN _ _ _ _ _ _ _ _⟩
  refine jp (vs:=[.string (bs [98,101,110]),zI 0,zI 1,zI 4]) [] [] (fun aA hs hZ=>kz)<|bw F3 [0,1,2,3,4,5,6,7,8,9,10,11,12]<|lD [7,11] ⟨fun z31 t32 aev=>?_,fun z34 t35 KZ=>?_,trivial⟩
  ·
   refine jn fun da=>bw aev [1,2,3,4,5,6,7,8,9,10,11,12,13]<|aH 11 fun Zr aac SI=>jn fun c8=>bw SI [1,2,3,4,5,6,7,8,9,10,11,12,13,14]<|zD 1<|aH 14 fun avI awH ate=>jd 1 [14]<|cM ate<|zD 2<|aF q0 (.agg ⟨dB dW gh b9 fy dJ da c8 n⟩) [14] [6,8,7,4,5,13,10,12,11,2,1,0] (dG dW mW mB gh oG b9 fy jP mg dJ da c8) (Sub.refl _) ⟨_,_,rfl,rfl,_,rfl,fun _ hk=>dM hk,dN _ _ _ _ _ _ _ _⟩
  refine jn fun c8=>bw KZ [1,2,3,4,5,6,7,8,9,10,11,12,13]<|aH 7 fun avH awG atd=>jn fun da=>bw atd [1,2,3,4,5,6,7,8,9,10,11,12,13,14]<|zD 1<|aH 14 fun avG awF aeu=>jd 1 [14]<|cM aeu<|zD 2<|aF q0 (.agg ⟨dB dW gh b9 fy dJ da c8 n⟩) [14] [6,8,7,4,5,13,10,12,11,2,0,1] (dG dW mW mB gh oG b9 fy jP mg dJ da c8) (Sub.refl _) ⟨_,_,rfl,rfl,_,rfl,fun _ hk=>dM hk,dN _ _ _ _ _ _ _ _⟩
 refine jp (vs:=[.string (bs [115,109,105,116,104]),zI 0,zI 1,zI 0]) [] [] (fun aA hs hZ=>kz)<|bw X9 [0,1,2,3,4,5,6,7,8,9,10,11]<|lD [3,5] ⟨fun z41 t42 atb=>?_,fun z44 t45 as9=>?_,trivial⟩
 ·
  refine jn fun dJ=>bw atb [1,2,3,4,5,6,7,8,9,10,11,12]<|jp (vs:=[.string (bs [97,110,110,97]),zI 0,zI 2,zI 3]) [] [] (fun aA hs hZ=>kz)<|jp (vs:=[.string (bs [115,109,121,116,104]),zI 1,zI 1,zI 2]) [] [] (fun aA hs hZ=>kz)<|lD [7,8] ⟨fun z47 t48 aet=>?_,fun z50 t51 SH=>?_,trivial⟩
  ·
   refine jn fun da=>bw aet [1,2,3,4,5,6,7,8,9,10,11,12,13]<|jp (vs:=[.string (bs [115,109,121,116,104]),zI 0,zI 2,zI 0]) [] [] (fun aA hs hZ=>kz)<|jp (vs:=[.string (bs [115,109,105,116,104]),zI 1,zI 1,zI (-1)]) [] [] (fun aA hs hZ=>kz)<|jp (vs:=[.string (bs [98,101,110]),zI 0,zI 1,zI 4]) [] [] (fun aA hs hZ=>kz)<|aH 11 fun als alN aes=>jn fun c8=>bw aes [1,2,3,4,5,6,7,8,9,10,11,12,13,14]<|zD 1<|aH 14 fun alr alM aer=>jd 1 [14]<|cM aer<|zD 2<|aF q0 (.agg ⟨dB dW gh b9 fy dJ da c8 n⟩) [14] [6,8,7,4,5,13,10,12,11,2,1,0] (dG dW mW mB gh oG b9 fy jP mg dJ da c8) (Sub.refl _) ⟨_,_,rfl,rfl,_,rfl,fun _ hk=>dM hk,dN _ _ _ _ _ _ _ _⟩
  refine jp (vs:=[.string (bs [115,109,121,116,104]),zI 0,zI 2,zI 0]) [] [] (fun aA hs hZ=>kz)<|bw SH [0,1,2,3,4,5,6,7,8,9,10,11,12]<|lD [7,9] ⟨fun z55 t56 SG=>?_,fun z58 t59 aeo=>?_,trivial⟩
  ·
   refine jn fun da=>bw SG [1,2,3,4,5,6,7,8,9,10,11,12,13]<|jp (vs:=[.string (bs [115,109,105,116,104]),zI 1,zI 1,zI (-1)]) [] [] (fun aA hs hZ=>kz)<|jp (vs:=[.string (bs [98,101,110]),zI 0,zI 1,zI 4]) [] [] (fun aA hs hZ=>kz)<|aH 11 fun alo alJ aen=>jn fun c8=>bw aen [1,2,3,4,5,6,7,8,9,10,11,12,13,14]<|zD 1<|aH 14 fun avy awx as2=>jd 1 [14]<|cM as2<|zD 2<|aF q0 (.agg ⟨dB dW gh b9 fy dJ da c8 n⟩) [14] [6,8,7,4,5,13,10,12,11,2,1,0] (dG dW mW mB gh oG b9 fy jP mg dJ da c8) (Sub.refl _) ⟨_,_,rfl,rfl,_,rfl,fun _ hk=>dM hk,dN _ _ _ _ _ _ _ _⟩
  refine jp (vs:=[.string (bs [115,109,105,116,104]),zI 1,zI 1,zI (-1)]) [] [] (fun aA hs hZ=>kz)<|bw aeo [0,1,2,3,4,5,6,7,8,9,10,11,12]<|lD [7,10] ⟨fun z63 t64 as0=>?_,fun z66 t67 aRp=>?_,trivial⟩
  ·
   refine jn fun da=>bw as0 [1,2,3,4,5,6,7,8,9,10,11,12,13]<|jp (vs:=[.string (bs [98,101,110]),zI 0,zI 1,zI 4]) [] [] (fun aA hs hZ=>kz)<|aH 11 fun aT8 aUY aRo=>jn fun c8=>bw aRo [1,2,3,4,5,6,7,8,9,10,11,12,13,14]<|zD 1<|aH 14 fun aT7 aUX asY=>jd 1 [14]<|cM asY<|zD 2<|aF q0 (.agg ⟨dB dW gh b9 fy dJ da c8 n⟩) [14] [6,8,7,4,5,13,10,12,11,2,1,0] (dG dW mW mB gh oG b9 fy jP mg dJ da c8) (Sub.refl _) ⟨_,_,rfl,rfl,_,rfl,fun _ hk=>dM hk,dN _ _ _ _ _ _ _ _⟩
  refine jp (vs:=[.string (bs [98,101,110]),zI 0,zI 1,zI 4]) [] [] (fun aA hs hZ=>kz)<|bw aRp [0,1,2,3,4,5,6,7,8,9,10,11,12]<|lD [7,11] ⟨fun z71 t72 asX=>?_,fun z74 t75 asW=>?_,trivial⟩
  ·
   refine jn fun da=>bw asX [1,2,3,4,5,6,7,8,9,10,11,12,13]<|aH 11 fun avx aww asV=>jn fun c8=>bw asV [1,2,3,4,5,6,7,8,9,10,11,12,13,14]<|zD 1<|aH 14 fun avw awv asU=>jd 1 [14]<|cM asU<|zD 2<|aF q0 (.agg ⟨dB dW gh b9 fy dJ da c8 n⟩) [14] [6,8,7,4,5,13,10,12,11,2,1,0] (dG dW mW mB gh oG b9 fy jP mg dJ da c8) (Sub.refl _) ⟨_,_,rfl,rfl,_,rfl,fun _ hk=>dM hk,dN _ _ _ _ _ _ _ _⟩
  refine jn fun c8=>bw asW [1,2,3,4,5,6,7,8,9,10,11,12,13]<|aH 7 fun avv awu asT=>jn fun da=>bw asT [1,2,3,4,5,6,7,8,9,10,11,12,13,14]<|zD 1<|aH 14 fun avu awt asS=>jd 1 [14]<|cM asS<|zD 2<|aF q0 (.agg ⟨dB dW gh b9 fy dJ da c8 n⟩) [14] [6,8,7,4,5,13,10,12,11,2,0,1] (dG dW mW mB gh oG b9 fy jP mg dJ da c8) (Sub.refl _) ⟨_,_,rfl,rfl,_,rfl,fun _ hk=>dM hk,dN _ _ _ _ _ _ _ _⟩
 refine jp (vs:=[.string (bs [97,110,110,97]),zI 0,zI 2,zI 3]) [] [] (fun aA hs hZ=>kz)<|bw as9 [0,1,2,3,4,5,6,7,8,9,10,11]<|lD [3,6] ⟨fun z81 t82 asR=>?_,fun z84 t85 asQ=>?_,trivial⟩
 ·
  refine jn fun dJ=>bw asR [1,2,3,4,5,6,7,8,9,10,11,12]<|jp (vs:=[.string (bs [115,109,121,116,104]),zI 1,zI 1,zI 2]) [] [] (fun aA hs hZ=>kz)<|lD [7,8] ⟨fun z87 t88 asP=>?_,fun z90 t91 asO=>?_,trivial⟩
  ·
   refine jn fun da=>bw asP [1,2,3,4,5,6,7,8,9,10,11,12,13]<|jp (vs:=[.string (bs [115,109,121,116,104]),zI 0,zI 2,zI 0]) [] [] (fun aA hs hZ=>kz)<|jp (vs:=[.string (bs [115,109,105,116,104]),zI 1,zI 1,zI (-1)]) [] [] (fun aA hs hZ=>kz)<|jp (vs:=[.string (bs [98,101,110]),zI 0,zI 1,zI 4]) [] [] (fun aA hs hZ=>kz)<|aH 11 fun aT0 aUQ aRj=>jn fun c8=>bw aRj [1,2,3,4,5,6,7,8,9,10,11,12,13,14]<|zD 1<|aH 14 fun aTZ aUP aRi=>jd 1 [14]<|cM aRi<|zD 2<|aF q0 (.agg ⟨dB dW gh b9 fy dJ da c8 n⟩) [14] [6,8,7,4,5,13,10,12,11,2,1,0] (dG dW mW mB gh oG b9 fy jP mg dJ da c8) (Sub.refl _) ⟨_,_,rfl,rfl,_,rfl,fun _ hk=>dM hk,dN _ _ _ _ _ _ _ _⟩
  refine jp (vs:=[.string (bs [115,109,121,116,104]),zI 0,zI 2,zI 0]) [] [] (fun aA hs hZ=>kz)<|bw asO [0,1,2,3,4,5,6,7,8,9,10,11,12]<|lD [7,9] ⟨fun z95 t96 asN=>?_,fun z98 t99 aeC=>?_,trivial⟩
  ·
   refine jn fun da=>bw asN [1,2,3,4,5,6,7,8,9,10,11,12,13]<|jp (vs:=[.string (bs [115,109,105,116,104]),zI 1,zI 1,zI (-1)]) [] [] (fun aA hs hZ=>kz)<|jp (vs:=[.string (bs [98,101,110]),zI 0,zI 1,zI 4]) [] [] (fun aA hs hZ=>kz)<|aH 11 fun anS aox aeB=>jn fun c8=>bw aeB [1,2,3,4,5,6,7,8,9,10,11,12,13,14]<|zD 1<|aH 14 fun anR aow aeA=>jd 1 [14]<|cM aeA<|zD 2<|aF q0 (.agg ⟨dB dW gh b9 fy dJ da c8 n⟩) [14] [6,8,7,4,5,13,10,12,11,2,1,0] (dG dW mW mB gh oG b9 fy jP mg dJ da c8) (Sub.refl _) ⟨_,_,rfl,rfl,_,rfl,fun _ hk=>dM hk,dN _ _ _ _ _ _ _ _⟩
  refine jp (vs:=[.string (bs [115,109,105,116,104]),zI 1,zI 1,zI (-1)]) [] [] (fun aA hs hZ=>kz)<|bw aeC [0,1,2,3,4,5,6,7,8,9,10,11,12]<|lD [7,10] ⟨fun aY7 t104 aez=>?_,fun aY6 t107 aDu=>?_,trivial⟩
  ·
   refine jn fun da=>bw aez [1,2,3,4,5,6,7,8,9,10,11,12,13]<|jp (vs:=[.string (bs [98,101,110]),zI 0,zI 1,zI 4]) [] [] (fun aA hs hZ=>kz)<|aH 11 fun aIv aKX aDt=>jn fun c8=>bw aDt [1,2,3,4,5,6,7,8,9,10,11,12,13,14]<|zD 1<|aH 14 fun aIu aKW aDs=>jd 1 [14]<|cM aDs<|zD 2<|aF q0 (.agg ⟨dB dW gh b9 fy dJ da c8 n⟩) [14] [6,8,7,4,5,13,10,12,11,2,1,0] (dG dW mW mB gh oG b9 fy jP mg dJ da c8) (Sub.refl _) ⟨_,_,rfl,rfl,_,rfl,fun _ hk=>dM hk,dN _ _ _ _ _ _ _ _⟩
  refine jp (vs:=[.string (bs [98,101,110]),zI 0,zI 1,zI 4]) [] [] (fun aA hs hZ=>kz)<|bw aDu [0,1,2,3,4,5,6,7,8,9,10,11,12]<|lD [7,11] ⟨fun aY5 t112 aDr=>?_,fun aY4 t115 aDq=>?_,trivial⟩
  ·
   refine jn fun da=>bw aDr [1,2,3,4,5,6,7,8,9,10,11,12,13]<|aH 11 fun aIt aKV aDp=>jn fun c8=>bw aDp [1,2,3,4,5,6,7,8,9,10,11,12,13,14]<|zD 1<|aH 14 fun aIs aKU aDo=>jd 1 [14]<|cM aDo<|zD 2<|aF q0 (.agg ⟨dB dW gh b9 fy dJ da c8 n⟩) [14] [6,8,7,4,5,13,10,12,11,2,1,0] (dG dW mW mB gh oG b9 fy jP mg dJ da c8) (Sub.refl _) ⟨_,_,rfl,rfl,_,rfl,fun _ hk=>dM hk,dN _ _ _ _ _ _ _ _⟩
  refine jn fun c8=>bw aDq [1,2,3,4,5,6,7,8,9,10,11,12,13]<|aH 7 fun aIr aKT aDn=>jn fun da=>bw aDn [1,2,3,4,5,6,7,8,9,10,11,12,13,14]<|zD 1<|aH 14 fun aIq aKS aDm=>jd 1 [14]<|cM aDm<|zD 2<|aF q0 (.agg ⟨dB dW gh b9 fy dJ da c8 n⟩) [14] [6,8,7,4,5,13,10,12,11,2,0,1] (dG dW mW mB gh oG b9 fy jP mg dJ da c8) (Sub.refl _) ⟨_,_,rfl,rfl,_,rfl,fun _ hk=>dM hk,dN _ _ _ _ _ _ _ _⟩
 refine jp (vs:=[.string (bs [115,109,121,116,104]),zI 1,zI 1,zI 2]) [] [] (fun aA hs hZ=>kz)<|bw asQ [0,1,2,3,4,5,6,7,8,9,10,11]<|lD [3,7,8] ⟨fun aY2 t122 aDl=>?_,fun aY1 t125 aDk=>?_,fun aY0 t128 aDj=>?_,trivial⟩
 ·
  refine jn fun dJ=>bw aDl [1,2,3,4,5,6,7,8,9,10,11,12]<|lD [7,8] ⟨fun aYZ t131 aDi=>?_,fun aYY t134 aDh=>?_,trivial⟩
  ·
   refine jn fun da=>bw aDi [1,2,3,4,5,6,7,8,9,10,11,12,13]<|jp (vs:=[.string (bs [115,109,121,116,104]),zI 0,zI 2,zI 0]) [] [] (fun aA hs hZ=>kz)<|jp (vs:=[.string (bs [115,109,105,116,104]),zI 1,zI 1,zI (-1)]) [] [] (fun aA hs hZ=>kz)<|jp (vs:=[.string (bs [98,101,110]),zI 0,zI 1,zI 4]) [] [] (fun aA hs hZ=>kz)<|aH 11 fun aIp aKR aDg=>jn fun c8=>bw aDg [1,2,3,4,5,6,7,8,9,10,11,12,13,14]<|zD 1<|aH 14 fun aIo aKQ aDf=>jd 1 [14]<|cM aDf<|zD 2<|aF q0 (.agg ⟨dB dW gh b9 fy dJ da c8 n⟩) [14] [6,8,7,4,5,13,10,12,11,2,1,0] (dG dW mW mB gh oG b9 fy jP mg dJ da c8) (Sub.refl _) ⟨_,_,rfl,rfl,_,rfl,fun _ hk=>dM hk,dN _ _ _ _ _ _ _ _⟩
  refine jp (vs:=[.string (bs [115,109,121,116,104]),zI 0,zI 2,zI 0]) [] [] (fun aA hs hZ=>kz)<|bw aDh [0,1,2,3,4,5,6,7,8,9,10,11,12]<|lD [7,9] ⟨fun aYX t139 aDe=>?_,fun aYW t142 aDd=>?_,trivial⟩
  ·
   refine jn fun da=>bw aDe [1,2,3,4,5,6,7,8,9,10,11,12,13]<|jp (vs:=[.string (bs [115,109,105,116,104]),zI 1,zI 1,zI (-1)]) [] [] (fun aA hs hZ=>kz)<|jp (vs:=[.string (bs [98,101,110]),zI 0,zI 1,zI 4]) [] [] (fun aA hs hZ=>kz)<|aH 11 fun aIn aKP aDc=>jn fun c8=>bw aDc [1,2,3,4,5,6,7,8,9,10,11,12,13,14]<|zD 1<|aH 14 fun aIm aKO aDb=>jd 1 [14]<|cM aDb<|zD 2<|aF q0 (.agg ⟨dB dW gh b9 fy dJ da c8 n⟩) [14] [6,8,7,4,5,13,10,12,11,2,1,0] (dG dW mW mB gh oG b9 fy jP mg dJ da c8) (Sub.refl _) ⟨_,_,rfl,rfl,_,rfl,fun _ hk=>dM hk,dN _ _ _ _ _ _ _ _⟩
  refine jp (vs:=[.string (bs [115,109,105,116,104]),zI 1,zI 1,zI (-1)]) [] [] (fun aA hs hZ=>kz)<|bw aDd [0,1,2,3,4,5,6,7,8,9,10,11,12]<|lD [7,10] ⟨fun aYV t147 aDa=>?_,fun aYU t150 aC9=>?_,trivial⟩
  ·
   refine jn fun da=>bw aDa [1,2,3,4,5,6,7,8,9,10,11,12,13]<|jp (vs:=[.string (bs [98,101,110]),zI 0,zI 1,zI 4]) [] [] (fun aA hs hZ=>kz)<|aH 11 fun aIl aKN aC8=>jn fun c8=>bw aC8 [1,2,3,4,5,6,7,8,9,10,11,12,13,14]<|zD 1<|aH 14 fun aIk aKM aC7=>jd 1 [14]<|cM aC7<|zD 2<|aF q0 (.agg ⟨dB dW gh b9 fy dJ da c8 n⟩) [14] [6,8,7,4,5,13,10,12,11,2,1,0] (dG dW mW mB gh oG b9 fy jP mg dJ da c8) (Sub.refl _) ⟨_,_,rfl,rfl,_,rfl,fun _ hk=>dM hk,dN _ _ _ _ _ _ _ _⟩
  refine jp (vs:=[.string (bs [98,101,110]),zI 0,zI 1,zI 4]) [] [] (fun aA hs hZ=>kz)<|bw aC9 [0,1,2,3,4,5,6,7,8,9,10,11,12]<|lD [7,11] ⟨fun aYS t155 aC6=>?_,fun aYR t158 aC5=>?_,trivial⟩
  ·
   refine jn fun da=>bw aC6 [1,2,3,4,5,6,7,8,9,10,11,12,13]<|aH 11 fun aIj aKL aC4=>jn fun c8=>bw aC4 [1,2,3,4,5,6,7,8,9,10,11,12,13,14]<|zD 1<|aH 14 fun aIi aKK aC3=>jd 1 [14]<|cM aC3<|zD 2<|aF q0 (.agg ⟨dB dW gh b9 fy dJ da c8 n⟩) [14] [6,8,7,4,5,13,10,12,11,2,1,0] (dG dW mW mB gh oG b9 fy jP mg dJ da c8) (Sub.refl _) ⟨_,_,rfl,rfl,_,rfl,fun _ hk=>dM hk,dN _ _ _ _ _ _ _ _⟩
  refine jn fun c8=>bw aC5 [1,2,3,4,5,6,7,8,9,10,11,12,13]<|aH 7 fun aIh aKJ aC2=>jn fun da=>bw aC2 [1,2,3,4,5,6,7,8,9,10,11,12,13,14]<|zD 1<|aH 14 fun aIg aKI aC1=>jd 1 [14]<|cM aC1<|zD 2<|aF q0 (.agg ⟨dB dW gh b9 fy dJ da c8 n⟩) [14] [6,8,7,4,5,13,10,12,11,2,0,1] (dG dW mW mB gh oG b9 fy jP mg dJ da c8) (Sub.refl _) ⟨_,_,rfl,rfl,_,rfl,fun _ hk=>dM hk,dN _ _ _ _ _ _ _ _⟩
 ·
  refine jn fun da=>bw aDk [1,2,3,4,5,6,7,8,9,10,11,12]<|lD [3,8] ⟨fun aYQ t165 aC0=>?_,fun aYP t168 aCZ=>?_,trivial⟩
  ·
   refine jn fun dJ=>bw aC0 [1,2,3,4,5,6,7,8,9,10,11,12,13]<|jp (vs:=[.string (bs [115,109,121,116,104]),zI 0,zI 2,zI 0]) [] [] (fun aA hs hZ=>kz)<|jp (vs:=[.string (bs [115,109,105,116,104]),zI 1,zI 1,zI (-1)]) [] [] (fun aA hs hZ=>kz)<|jp (vs:=[.string (bs [98,101,110]),zI 0,zI 1,zI 4]) [] [] (fun aA hs hZ=>kz)<|aH 11 fun aIf aKH aCY=>jn fun c8=>bw aCY [1,2,3,4,5,6,7,8,9,10,11,12,13,14]<|zD 1<|aH 14 fun aIe aKG aCX=>jd 1 [14]<|cM aCX<|zD 2<|aF q0 (.agg ⟨dB dW gh b9 fy dJ da c8 n⟩) [14] [6,8,7,4,5,13,10,12,11,1,2,0] (dG dW mW mB gh oG b9 fy jP mg dJ da c8) (Sub.refl _) ⟨_,_,rfl,rfl,_,rfl,fun _ hk=>dM hk,dN _ _ _ _ _ _ _ _⟩
  refine jp (vs:=[.string (bs [115,109,121,116,104]),zI 0,zI 2,zI 0]) [] [] (fun aA hs hZ=>kz)<|bw aCZ [0,1,2,3,4,5,6,7,8,9,10,11,12]<|lD [3,9] ⟨fun aYN t173 aCW=>?_,fun aYM t176 aCV=>?_,trivial⟩
  ·
   refine jn fun dJ=>bw aCW [1,2,3,4,5,6,7,8,9,10,11,12,13]<|jp (vs:=[.string (bs [115,109,105,116,104]),zI 1,zI 1,zI (-1)]) [] [] (fun aA hs hZ=>kz)<|jp (vs:=[.string (bs [98,101,110]),zI 0,zI 1,zI 4]) [] [] (fun aA hs hZ=>kz)<|aH 11 fun aId aKF aCU=>jn fun c8=>bw aCU [1,2,3,4,5,6,7,8,9,10,11,12,13,14]<|zD 1<|aH 14 fun aIc aKE aCT=>jd 1 [14]<|cM aCT<|zD 2<|aF q0 (.agg ⟨dB dW gh b9 fy dJ da c8 n⟩) [14] [6,8,7,4,5,13,10,12,11,1,2,0] (dG dW mW mB gh oG b9 fy jP mg dJ da c8) (Sub.refl _) ⟨_,_,rfl,rfl,_,rfl,fun _ hk=>dM hk,dN _ _ _ _ _ _ _ _⟩
  refine jp (vs:=[.string (bs [115,109,105,116,104]),zI 1,zI 1,zI (-1)]) [] [] (fun aA hs hZ=>kz)<|bw aCV [0,1,2,3,4,5,6,7,8,9,10,11,12]<|lD [3,10] ⟨fun aYK t181 aCS=>?_,fun aYJ t184 aCR=>?_,trivial⟩
  ·
   refine jn fun dJ=>bw aCS [1,2,3,4,5,6,7,8,9,10,11,12,13]<|jp (vs:=[.string (bs [98,101,110]),zI 0,zI 1,zI 4]) [] [] (fun aA hs hZ=>kz)<|aH 11 fun aIb aKD aCQ=>jn fun c8=>bw aCQ [1,2,3,4,5,6,7,8,9,10,11,12,13,14]<|zD 1<|aH 14 fun aIa aKC aCP=>jd 1 [14]<|cM aCP<|zD 2<|aF q0 (.agg ⟨dB dW gh b9 fy dJ da c8 n⟩) [14] [6,8,7,4,5,13,10,12,11,1,2,0] (dG dW mW mB gh oG b9 fy jP mg dJ da c8) (Sub.refl _) ⟨_,_,rfl,rfl,_,rfl,fun _ hk=>dM hk,dN _ _ _ _ _ _ _ _⟩
  refine jp (vs:=[.string (bs [98,101,110]),zI 0,zI 1,zI 4]) [] [] (fun aA hs hZ=>kz)<|bw aCR [0,1,2,3,4,5,6,7,8,9,10,11,12]<|lD [3,11] ⟨fun aYI t189 aCO=>?_,fun aYH t192 aCN=>?_,trivial⟩
  ·
   refine jn fun dJ=>bw aCO [1,2,3,4,5,6,7,8,9,10,11,12,13]<|aH 11 fun aH9 aKB aCM=>jn fun c8=>bw aCM [1,2,3,4,5,6,7,8,9,10,11,12,13,14]<|zD 1<|aH 14 fun aH8 aKA aCL=>jd 1 [14]<|cM aCL<|zD 2<|aF q0 (.agg ⟨dB dW gh b9 fy dJ da c8 n⟩) [14] [6,8,7,4,5,13,10,12,11,1,2,0] (dG dW mW mB gh oG b9 fy jP mg dJ da c8) (Sub.refl _) ⟨_,_,rfl,rfl,_,rfl,fun _ hk=>dM hk,dN _ _ _ _ _ _ _ _⟩
  refine jn fun c8=>bw aCN [1,2,3,4,5,6,7,8,9,10,11,12,13]<|aH 3 fun aH7 aKz aCK=>jn fun dJ=>bw aCK [1,2,3,4,5,6,7,8,9,10,11,12,13,14]<|zD 1<|aH 14 fun aH6 aKy aCJ=>jd 1 [14]<|cM aCJ<|zD 2<|aF q0 (.agg ⟨dB dW gh b9 fy dJ da c8 n⟩) [14] [6,8,7,4,5,13,10,12,11,0,2,1] (dG dW mW mB gh oG b9 fy jP mg dJ da c8) (Sub.refl _) ⟨_,_,rfl,rfl,_,rfl,fun _ hk=>dM hk,dN _ _ _ _ _ _ _ _⟩
 refine jp (vs:=[.string (bs [115,109,121,116,104]),zI 0,zI 2,zI 0]) [] [] (fun aA hs hZ=>kz)<|bw aDj [0,1,2,3,4,5,6,7,8,9,10,11]<|lD [3,7,9] ⟨fun aYG t199 aCI=>?_,fun aYE t202 aCH=>?_,fun aYD t205 aCG=>?_,trivial⟩
 ·
  refine jn fun dJ=>bw aCI [1,2,3,4,5,6,7,8,9,10,11,12]<|lD [7,9] ⟨fun aYC t208 aCF=>?_,fun aYB t211 aCE=>?_,trivial⟩
  ·
   refine jn fun da=>bw aCF [1,2,3,4,5,6,7,8,9,10,11,12,13]<|jp (vs:=[.string (bs [115,109,105,116,104]),zI 1,zI 1,zI (-1)]) [] [] (fun aA hs hZ=>kz)<|jp (vs:=[.string (bs [98,101,110]),zI 0,zI 1,zI 4]) [] [] (fun aA hs hZ=>kz)<|aH 11 fun aH5 aKx aCD=>jn fun c8=>bw aCD [1,2,3,4,5,6,7,8,9,10,11,12,13,14]<|zD 1<|aH 14 fun aH4 aKw aCC=>jd 1 [14]<|cM aCC<|zD 2<|aF q0 (.agg ⟨dB dW gh b9 fy dJ da c8 n⟩) [14] [6,8,7,4,5,13,10,12,11,2,1,0] (dG dW mW mB gh oG b9 fy jP mg dJ da c8) (Sub.refl _) ⟨_,_,rfl,rfl,_,rfl,fun _ hk=>dM hk,dN _ _ _ _ _ _ _ _⟩
  refine jp (vs:=[.string (bs [115,109,105,116,104]),zI 1,zI 1,zI (-1)]) [] [] (fun aA hs hZ=>kz)<|bw aCE [0,1,2,3,4,5,6,7,8,9,10,11,12]<|lD [7,10] ⟨fun aYA t216 aCB=>?_,fun aYz t219 aCA=>?_,trivial⟩
  ·
   refine jn fun da=>bw aCB [1,2,3,4,5,6,7,8,9,10,11,12,13]<|jp (vs:=[.string (bs [98,101,110]),zI 0,zI 1,zI 4]) [] [] (fun aA hs hZ=>kz)<|aH 11 fun aH3 aKv aCz=>jn fun c8=>bw aCz [1,2,3,4,5,6,7,8,9,10,11,12,13,14]<|zD 1<|aH 14 fun aH2 aKu aCy=>jd 1 [14]<|cM aCy<|zD 2<|aF q0 (.agg ⟨dB dW gh b9 fy dJ da c8 n⟩) [14] [6,8,7,4,5,13,10,12,11,2,1,0] (dG dW mW mB gh oG b9 fy jP mg dJ da c8) (Sub.refl _) ⟨_,_,rfl,rfl,_,rfl,fun _ hk=>dM hk,dN _ _ _ _ _ _ _ _⟩
  refine jp (vs:=[.string (bs [98,101,110]),zI 0,zI 1,zI 4]) [] [] (fun aA hs hZ=>kz)<|bw aCA [0,1,2,3,4,5,6,7,8,9,10,11,12]<|lD [7,11] ⟨fun aYy t224 aCx=>?_,fun aYx t227 aCw=>?_,trivial⟩
  ·
   refine jn fun da=>bw aCx [1,2,3,4,5,6,7,8,9,10,11,12,13]<|aH 11 fun aH1 aKt aCv=>jn fun c8=>bw aCv [1,2,3,4,5,6,7,8,9,10,11,12,13,14]<|zD 1<|aH 14 fun aH0 aKs aCu=>jd 1 [14]<|cM aCu<|zD 2<|aF q0 (.agg ⟨dB dW gh b9 fy dJ da c8 n⟩) [14] [6,8,7,4,5,13,10,12,11,2,1,0] (dG dW mW mB gh oG b9 fy jP mg dJ da c8) (Sub.refl _) ⟨_,_,rfl,rfl,_,rfl,fun _ hk=>dM hk,dN _ _ _ _ _ _ _ _⟩
  refine jn fun c8=>bw aCw [1,2,3,4,5,6,7,8,9,10,11,12,13]<|aH 7 fun aHZ aKr aCt=>jn fun da=>bw aCt [1,2,3,4,5,6,7,8,9,10,11,12,13,14]<|zD 1<|aH 14 fun aHY aKq aCs=>jd 1 [14]<|cM aCs<|zD 2<|aF q0 (.agg ⟨dB dW gh b9 fy dJ da c8 n⟩) [14] [6,8,7,4,5,13,10,12,11,2,0,1] (dG dW mW mB gh oG b9 fy jP mg dJ da c8) (Sub.refl _) ⟨_,_,rfl,rfl,_,rfl,fun _ hk=>dM hk,dN _ _ _ _ _ _ _ _⟩
 ·
  refine jn fun da=>bw aCH [1,2,3,4,5,6,7,8,9,10,11,12]<|lD [3,9] ⟨fun aYw t234 aCr=>?_,fun aYv t237 aCq=>?_,trivial⟩
  ·
   refine jn fun dJ=>bw aCr [1,2,3,4,5,6,7,8,9,10,11,12,13]<|jp (vs:=[.string (bs [115,109,105,116,104]),zI 1,zI 1,zI (-1)]) [] [] (fun aA hs hZ=>kz)<|jp (vs:=[.string (bs [98,101,110]),zI 0,zI 1,zI 4]) [] [] (fun aA hs hZ=>kz)<|aH 11 fun aHX aKp aCp=>jn fun c8=>bw aCp [1,2,3,4,5,6,7,8,9,10,11,12,13,14]<|zD 1<|aH 14 fun aHW aKo aCo=>jd 1 [14]<|cM aCo<|zD 2<|aF q0 (.agg ⟨dB dW gh b9 fy dJ da c8 n⟩) [14] [6,8,7,4,5,13,10,12,11,1,2,0] (dG dW mW mB gh oG b9 fy jP mg dJ da c8) (Sub.refl _) ⟨_,_,rfl,rfl,_,rfl,fun _ hk=>dM hk,dN _ _ _ _ _ _ _ _⟩
  refine jp (vs:=[.string (bs [115,109,105,116,104]),zI 1,zI 1,zI (-1)]) [] [] (fun aA hs hZ=>kz)<|bw aCq [0,1,2,3,4,5,6,7,8,9,10,11,12]<|lD [3,10] ⟨fun aYu t242 aCn=>?_,fun aYt t245 aCm=>?_,trivial⟩
  ·
   refine jn fun dJ=>bw aCn [1,2,3,4,5,6,7,8,9,10,11,12,13]<|jp (vs:=[.string (bs [98,101,110]),zI 0,zI 1,zI 4]) [] [] (fun aA hs hZ=>kz)<|aH 11 fun aHV aKn aCl=>jn fun c8=>bw aCl [1,2,3,4,5,6,7,8,9,10,11,12,13,14]<|zD 1<|aH 14 fun aHU aKm aCk=>jd 1 [14]<|cM aCk<|zD 2<|aF q0 (.agg ⟨dB dW gh b9 fy dJ da c8 n⟩) [14] [6,8,7,4,5,13,10,12,11,1,2,0] (dG dW mW mB gh oG b9 fy jP mg dJ da c8) (Sub.refl _) ⟨_,_,rfl,rfl,_,rfl,fun _ hk=>dM hk,dN _ _ _ _ _ _ _ _⟩
  refine jp (vs:=[.string (bs [98,101,110]),zI 0,zI 1,zI 4]) [] [] (fun aA hs hZ=>kz)<|bw aCm [0,1,2,3,4,5,6,7,8,9,10,11,12]<|lD [3,11] ⟨fun aYs t250 aCj=>?_,fun aYr t253 aCi=>?_,trivial⟩
  ·
   refine jn fun dJ=>bw aCj [1,2,3,4,5,6,7,8,9,10,11,12,13]<|aH 11 fun aHT aKl aCh=>jn fun c8=>bw aCh [1,2,3,4,5,6,7,8,9,10,11,12,13,14]<|zD 1<|aH 14 fun aHS aKk aCg=>jd 1 [14]<|cM aCg<|zD 2<|aF q0 (.agg ⟨dB dW gh b9 fy dJ da c8 n⟩) [14] [6,8,7,4,5,13,10,12,11,1,2,0] (dG dW mW mB gh oG b9 fy jP mg dJ da c8) (Sub.refl _) ⟨_,_,rfl,rfl,_,rfl,fun _ hk=>dM hk,dN _ _ _ _ _ _ _ _⟩
  refine jn fun c8=>bw aCi [1,2,3,4,5,6,7,8,9,10,11,12,13]<|aH 3 fun aHR aKj aCf=>jn fun dJ=>bw aCf [1,2,3,4,5,6,7,8,9,10,11,12,13,14]<|zD 1<|aH 14 fun aHQ aKi aCe=>jd 1 [14]<|cM aCe<|zD 2<|aF q0 (.agg ⟨dB dW gh b9 fy dJ da c8 n⟩) [14] [6,8,7,4,5,13,10,12,11,0,2,1] (dG dW mW mB gh oG b9 fy jP mg dJ da c8) (Sub.refl _) ⟨_,_,rfl,rfl,_,rfl,fun _ hk=>dM hk,dN _ _ _ _ _ _ _ _⟩
 refine jp (vs:=[.string (bs [115,109,105,116,104]),zI 1,zI 1,zI (-1)]) [] [] (fun aA hs hZ=>kz)<|bw aCG [0,1,2,3,4,5,6,7,8,9,10,11]<|lD [3,7,10] ⟨fun aYq t260 aCd=>?_,fun aYo t263 aCc=>?_,fun aYn t266 aCb=>?_,trivial⟩
 ·
  refine jn fun dJ=>bw aCd [1,2,3,4,5,6,7,8,9,10,11,12]<|lD [7,10] ⟨fun aYm t269 aCa=>?_,fun aYl t272 aB9=>?_,trivial⟩
  ·
   refine jn fun da=>bw aCa [1,2,3,4,5,6,7,8,9,10,11,12,13]<|jp (vs:=[.string (bs [98,101,110]),zI 0,zI 1,zI 4]) [] [] (fun aA hs hZ=>kz)<|aH 11 fun aHP aKh aB8=>jn fun c8=>bw aB8 [1,2,3,4,5,6,7,8,9,10,11,12,13,14]<|zD 1<|aH 14 fun aHO aKg aB7=>jd 1 [14]<|cM aB7<|zD 2<|aF q0 (.agg ⟨dB dW gh b9 fy dJ da c8 n⟩) [14] [6,8,7,4,5,13,10,12,11,2,1,0] (dG dW mW mB gh oG b9 fy jP mg dJ da c8) (Sub.refl _) ⟨_,_,rfl,rfl,_,rfl,fun _ hk=>dM hk,dN _ _ _ _ _ _ _ _⟩
  refine jp (vs:=[.string (bs [98,101,110]),zI 0,zI 1,zI 4]) [] [] (fun aA hs hZ=>kz)<|bw aB9 [0,1,2,3,4,5,6,7,8,9,10,11,12]<|lD [7,11] ⟨fun aYk t277 aB6=>?_,fun aYj t280 aB5=>?_,trivial⟩
  ·
   refine jn fun da=>bw aB6 [1,2,3,4,5,6,7,8,9,10,11,12,13]<|aH 11 fun aHN aKf aB4=>jn fun c8=>bw aB4 [1,2,3,4,5,6,7,8,9,10,11,12,13,14]<|zD 1<|aH 14 fun aHM aKe aB3=>jd 1 [14]<|cM aB3<|zD 2<|aF q0 (.agg ⟨dB dW gh b9 fy dJ da c8 n⟩) [14] [6,8,7,4,5,13,10,12,11,2,1,0] (dG dW mW mB gh oG b9 fy jP mg dJ da c8) (Sub.refl _) ⟨_,_,rfl,rfl,_,rfl,fun _ hk=>dM hk,dN _ _ _ _ _ _ _ _⟩
  refine jn fun c8=>bw aB5 [1,2,3,4,5,6,7,8,9,10,11,12,13]<|aH 7 fun aHL aKd aB2=>jn fun da=>bw aB2 [1,2,3,4,5,6,7,8,9,10,11,12,13,14]<|zD 1<|aH 14 fun aHK aKc aB1=>jd 1 [14]<|cM aB1<|zD 2<|aF q0 (.agg ⟨dB dW gh b9 fy dJ da c8 n⟩) [14] [6,8,7,4,5,13,10,12,11,2,0,1] (dG dW mW mB gh oG b9 fy jP mg dJ da c8) (Sub.refl _) ⟨_,_,rfl,rfl,_,rfl,fun _ hk=>dM hk,dN _ _ _ _ _ _ _ _⟩
 ·
  refine jn fun da=>bw aCc [1,2,3,4,5,6,7,8,9,10,11,12]<|lD [3,10] ⟨fun aYi t287 aB0=>?_,fun aYh t290 aBZ=>?_,trivial⟩
  ·
   refine jn fun dJ=>bw aB0 [1,2,3,4,5,6,7,8,9,10,11,12,13]<|jp (vs:=[.string (bs [98,101,110]),zI 0,zI 1,zI 4]) [] [] (fun aA hs hZ=>kz)<|aH 11 fun aHJ aKb aBY=>jn fun c8=>bw aBY [1,2,3,4,5,6,7,8,9,10,11,12,13,14]<|zD 1<|aH 14 fun aHI aKa aBX=>jd 1 [14]<|cM aBX<|zD 2<|aF q0 (.agg ⟨dB dW gh b9 fy dJ da c8 n⟩) [14] [6,8,7,4,5,13,10,12,11,1,2,0] (dG dW mW mB gh oG b9 fy jP mg dJ da c8) (Sub.refl _) ⟨_,_,rfl,rfl,_,rfl,fun _ hk=>dM hk,dN _ _ _ _ _ _ _ _⟩
  refine jp (vs:=[.string (bs [98,101,110]),zI 0,zI 1,zI 4]) [] [] (fun aA hs hZ=>kz)<|bw aBZ [0,1,2,3,4,5,6,7,8,9,10,11,12]<|lD [3,11] ⟨fun aYg t295 aBW=>?_,fun aYf t298 aBV=>?_,trivial⟩
  ·
   refine jn fun dJ=>bw aBW [1,2,3,4,5,6,7,8,9,10,11,12,13]<|aH 11 fun aHH aJ9 aBU=>jn fun c8=>bw aBU [1,2,3,4,5,6,7,8,9,10,11,12,13,14]<|zD 1<|aH 14 fun aHG aJ8 aBT=>jd 1 [14]<|cM aBT<|zD 2<|aF q0 (.agg ⟨dB dW gh b9 fy dJ da c8 n⟩) [14] [6,8,7,4,5,13,10,12,11,1,2,0] (dG dW mW mB gh oG b9 fy jP mg dJ da c8) (Sub.refl _) ⟨_,_,rfl,rfl,_,rfl,fun _ hk=>dM hk,dN _ _ _ _ _ _ _ _⟩
  refine jn fun c8=>bw aBV [1,2,3,4,5,6,7,8,9,10,11,12,13]<|aH 3 fun aHF aJ7 aBS=>jn fun dJ=>bw aBS [1,2,3,4,5,6,7,8,9,10,11,12,13,14]<|zD 1<|aH 14 fun aHE aJ6 aBR=>jd 1 [14]<|cM aBR<|zD 2<|aF q0 (.agg ⟨dB dW gh b9 fy dJ da c8 n⟩) [14] [6,8,7,4,5,13,10,12,11,0,2,1] (dG dW mW mB gh oG b9 fy jP mg dJ da c8) (Sub.refl _) ⟨_,_,rfl,rfl,_,rfl,fun _ hk=>dM hk,dN _ _ _ _ _ _ _ _⟩
 refine jp (vs:=[.string (bs [98,101,110]),zI 0,zI 1,zI 4]) [] [] (fun aA hs hZ=>kz)<|bw aCb [0,1,2,3,4,5,6,7,8,9,10,11]<|lD [3,7,11] ⟨fun aYe t305 aBQ=>?_,fun aYd t308 aBP=>?_,fun aYc t311 aBO=>?_,trivial⟩
 ·
  refine jn fun dJ=>bw aBQ [1,2,3,4,5,6,7,8,9,10,11,12]<|lD [7,11] ⟨fun aYb t314 aBN=>?_,fun aYa t317 aBM=>?_,trivial⟩
  ·
   refine jn fun da=>bw aBN [1,2,3,4,5,6,7,8,9,10,11,12,13]<|aH 11 fun aHD aJ5 aBL=>jn fun c8=>bw aBL [1,2,3,4,5,6,7,8,9,10,11,12,13,14]<|zD 1<|aH 14 fun aHC aJ4 aBK=>jd 1 [14]<|cM aBK<|zD 2<|aF q0 (.agg ⟨dB dW gh b9 fy dJ da c8 n⟩) [14] [6,8,7,4,5,13,10,12,11,2,1,0] (dG dW mW mB gh oG b9 fy jP mg dJ da c8) (Sub.refl _) ⟨_,_,rfl,rfl,_,rfl,fun _ hk=>dM hk,dN _ _ _ _ _ _ _ _⟩
  refine jn fun c8=>bw aBM [1,2,3,4,5,6,7,8,9,10,11,12,13]<|aH 7 fun aHB aJ3 aBJ=>jn fun da=>bw aBJ [1,2,3,4,5,6,7,8,9,10,11,12,13,14]<|zD 1<|aH 14 fun aHA aJ2 aBI=>jd 1 [14]<|cM aBI<|zD 2<|aF q0 (.agg ⟨dB dW gh b9 fy dJ da c8 n⟩) [14] [6,8,7,4,5,13,10,12,11,2,0,1] (dG dW mW mB gh oG b9 fy jP mg dJ da c8) (Sub.refl _) ⟨_,_,rfl,rfl,_,rfl,fun _ hk=>dM hk,dN _ _ _ _ _ _ _ _⟩
 ·
  refine jn fun da=>bw aBP [1,2,3,4,5,6,7,8,9,10,11,12]<|lD [3,11] ⟨fun aX9 t324 aBH=>?_,fun aX8 t327 aBG=>?_,trivial⟩
  ·
   refine jn fun dJ=>bw aBH [1,2,3,4,5,6,7,8,9,10,11,12,13]<|aH 11 fun aHz aJ1 aBF=>jn fun c8=>bw aBF [1,2,3,4,5,6,7,8,9,10,11,12,13,14]<|zD 1<|aH 14 fun aHy aJ0 aBE=>jd 1 [14]<|cM aBE<|zD 2<|aF q0 (.agg ⟨dB dW gh b9 fy dJ da c8 n⟩) [14] [6,8,7,4,5,13,10,12,11,1,2,0] (dG dW mW mB gh oG b9 fy jP mg dJ da c8) (Sub.refl _) ⟨_,_,rfl,rfl,_,rfl,fun _ hk=>dM hk,dN _ _ _ _ _ _ _ _⟩
  refine jn fun c8=>bw aBG [1,2,3,4,5,6,7,8,9,10,11,12,13]<|aH 3 fun aHx aJZ aBD=>jn fun dJ=>bw aBD [1,2,3,4,5,6,7,8,9,10,11,12,13,14]<|zD 1<|aH 14 fun aHw aJY aBC=>jd 1 [14]<|cM aBC<|zD 2<|aF q0 (.agg ⟨dB dW gh b9 fy dJ da c8 n⟩) [14] [6,8,7,4,5,13,10,12,11,0,2,1] (dG dW mW mB gh oG b9 fy jP mg dJ da c8) (Sub.refl _) ⟨_,_,rfl,rfl,_,rfl,fun _ hk=>dM hk,dN _ _ _ _ _ _ _ _⟩
 refine jn fun c8=>bw aBO [1,2,3,4,5,6,7,8,9,10,11,12]<|lD [3,7] ⟨fun aX7 t334 aBB=>?_,fun aX6 t337 aBA=>?_,trivial⟩
 ·
  refine jn fun dJ=>bw aBB [1,2,3,4,5,6,7,8,9,10,11,12,13]<|aH 7 fun aHv aJX aBz=>jn fun da=>bw aBz [1,2,3,4,5,6,7,8,9,10,11,12,13,14]<|zD 1<|aH 14 fun aHu aJW aBy=>jd 1 [14]<|cM aBy<|zD 2<|aF q0 (.agg ⟨dB dW gh b9 fy dJ da c8 n⟩) [14] [6,8,7,4,5,13,10,12,11,1,0,2] (dG dW mW mB gh oG b9 fy jP mg dJ da c8) (Sub.refl _) ⟨_,_,rfl,rfl,_,rfl,fun _ hk=>dM hk,dN _ _ _ _ _ _ _ _⟩
 refine jn fun da=>bw aBA [1,2,3,4,5,6,7,8,9,10,11,12,13]<|aH 3 fun aHt aJV aBx=>jn fun dJ=>bw aBx [1,2,3,4,5,6,7,8,9,10,11,12,13,14]<|zD 1<|aH 14 fun aHs aJU aBw=>jd 1 [14]<|cM aBw<|zD 2<|aF q0 (.agg ⟨dB dW gh b9 fy dJ da c8 n⟩) [14] [6,8,7,4,5,13,10,12,11,0,1,2] (dG dW mW mB gh oG b9 fy jP mg dJ da c8) (Sub.refl _) ⟨_,_,rfl,rfl,_,rfl,fun _ hk=>dM hk,dN _ _ _ _ _ _ _ _⟩
instance (nc nh i:Nat)(x:bY):Decidable (gY nc nh i x):=by unfold gY;infer_instance
instance (w:ByteArray):Decidable (Script w):=by unfold Script;infer_instance
theorem Tp{α:Type}{p:Nat→α→Prop}{l:List α}(h:∀i (hi:i <l.length),p i l[i]):∀(i:Nat) (x:α),l[i]?=some x→p i x:=fun i x hx=>by
 obtain⟨h1,rfl⟩:=List.getElem?_eq_some_iff.1 hx
 exact h i h1
theorem Gw:∀(i:Nat) (x:bY),B1[i]?=some x→gY 4 6 i x:=Tp (by decide)
theorem Td:∀(i:Nat) (x:bY),B1[i]?=some x→y7 x.word=true:=Tp (of_decide_eq_true (by kernel_rfl))
theorem af2:∀(i:Nat) (x:bG),Te[i]?=some x→y7 x.name=true∧ -1≤x.under∧x.under <i:=Tp (of_decide_eq_true (by kernel_rfl))
def arl(hd:List bY)(i:Int):Bool:=decide (i= -1)||(decide (0≤i)&&match hd[i.toNat]? with
 |some x=>decide (0≤x.cls)
 |none=>false)
theorem fu{hd:List bY}{i:Int}(h:arl hd i=true):nO hd i:=by
 simp only[arl,Bool.or_eq_true,Bool.and_eq_true,decide_eq_true_eq] at h
 rcases h with h| ⟨h1,h2⟩
 ·exact .inl h
 split at h2
 ·rename_i x hx;exact .inr ⟨h1,x,hx,of_decide_eq_true h2⟩
 cases h2
def NC(p:aE):Bool:=decide (((1≤p.name.size∧p.name.size≤6)∧Script p.name)∧(0≤p.st∧p.st≤1)∧p.bold=false)&&arl B1 p.head
theorem Kl{p:aE}(h:NC p=true):Eg B1 p:=by
 simp only[NC,Bool.and_eq_true,decide_eq_true_eq] at h
 exact⟨h.1.1,fu h.2,h.1.2⟩
theorem abb{p:aE}(h:NC p=true):ri p.name∧nO B1 p.head:=by
 have:=Kl h
 exact⟨⟨this.1.1,this.1.2⟩,this.2.1⟩
theorem VW:∀p∈LQ,NC p=true:=by decide
theorem VX:∀p∈LU,NC p=true:=by decide
abbrev CN(n:Int)(fs:List iD):bk:={aS n with facts:=fs}
theorem anr(h:0≤n∧n≤4)(hf:fs.length≤3)(h1:∀x∈fs,(0≤x.a∧x.a <3)∧(0≤x.b∧x.b <3))(h2:fs.Pairwise fun x y=>¬(x.a=y.a∧x.b=y.b)):oD (CN n fs) where
 sG:=⟨rfl,by simp,by simp[AE],by simp[aiE]⟩
 ways:=⟨(by decide:(1:Nat)≤1),by simp[jA]⟩
 eO:=⟨(by decide:(0:Nat) <4∧4≤6),(by decide:(6:Nat)≤6),Gw⟩
 rules:=(by decide:(1:Nat)≤4)
 before:=⟨(by decide:(3:Nat)≤4),fun p hp=>⟨Kl (VW p hp),by
  simp only[LQ,List.mem_cons,List.not_mem_nil,or_false] at hp
  rcases hp with rfl|rfl|rfl
  ·exact⟨_,rfl,by simp⟩
  ·exact⟨_,rfl,by simp⟩
  exact⟨_,rfl,by simp⟩⟩⟩
 after:=⟨(by decide:(3:Nat)≤4),fun p hp=>⟨Kl (VX p hp),by
  simp only[LU,List.mem_cons,List.not_mem_nil,or_false] at hp
  rcases hp with rfl|rfl|rfl<;>decide⟩⟩
 BC:=⟨(by decide:(0:Int)≤1∧(1:Int)≤4),(by decide:(0:Int)≤1∧(1:Int)≤4),h⟩
 facts:=⟨by show fs.length≤4;omega,h1⟩
 apart:=h2
theorem anq(hf:fs.length≤3)(h1:∀x∈fs,(0≤x.a∧x.a <3)∧(0≤x.b∧x.b <3)):gT (CN n fs) where
 rules:=⟨(by decide:(1:Nat)≤4),by
  intro r hr
  rw[List.mem_singleton] at hr;subst hr
  have e:Ue ⟨bs [121],bs [105]⟩=true:=by kernel_rfl
  simp only[Ue,Bool.and_eq_true,Nat.ble_eq,Bool.not_eq_true'] at e
  exact⟨e.1,e.2.1,Fo e.2.2.1,Fo e.2.2.2.1,e.2.2.2.2⟩⟩
 before:=⟨(by decide:(3:Nat)≤4),fun p hp=>abb (VW p hp)⟩
 after:=⟨(by decide:(3:Nat)≤4),fun p hp=>abb (VX p hp)⟩
 eO:=⟨(by decide:(0:Nat) <4∧4≤6),(by decide:(6:Nat)≤6),af2,by simp only[zc];decide,fun i x hx=>⟨Td i x hx,Gw i x hx⟩,by simp only[zc,Na];decide⟩
 facts:=⟨by show fs.length≤4;omega,h1⟩
theorem aEH{v0 v1 v3 v4 v5 v6 v7 vb:Value}{fa fb:Option Addr}{fc fn fd:Nat}{g0 g1 g2:Int}{ro:Nat→Option Obj}(hs:∀v∈[v0,v1,(.slice fa 0 fc),v3,v4,v5,v6,v7,zI g0,zI g1,zI g2,(.slice fb fn fd)],single v=true):dL zT 33 [.agg ⟨[v0,v1,(.slice fa 0 fc),v3,v4,v5,v6,v7,zI g0,zI g1,zI g2,vb]⟩,(.slice fb fn fd)] ro (.agg ⟨[v0,v1,(.slice fa 0 fc),v3,v4,v5,v6,v7,zI g0,zI g1,zI g2,(.slice fb fn fd)]⟩):=by
 refine bC au [] [] bn<|zD 2<|jn fun b2=>jn fun b4=>jd 10 [1,1]<|xH 0 b4 0 [zS,zS,zS,zS,zS,zS,zS,zS,zI 0,zI 0,zI 0,zS] [v0,v1,(.slice fa 0 fc),v3,v4,v5,v6,v7,zI g0,zI g1,zI g2,(.slice fb fn fd)] 40 hs rfl<|zD 2<|aF q0 (.agg ⟨[v0,v1,(.slice fa 0 fc),v3,v4,v5,v6,v7,zI g0,zI g1,zI g2,(.slice fb fn fd)]⟩) [0] [] [] (Sub.refl _) ⟨_,_,rfl,rfl,rfl,rfl⟩
def agL[DecidableEq κ](r:Nat)(kv:κ→Value)(k:κ)(F:List (κ×Value))(b:Nat)(L:Cells):Prop:=
 ∃es ck i u,L=[(r,.map es ck)]∧td kv F es ck∧rX k F 0=some (i,u)∧(es.toList.map (·.born))[i]?=some b
theorem agL.own[DecidableEq κ]{kv:κ→Value}{k:κ}{F:List (κ×Value)}{L:Cells}(h:agL r kv k F b L):j6 r kv F L:=by
 obtain⟨es,ck,_,_,h1,h2,_⟩:=h
 exact⟨es,ck,h1,h2⟩
def meV(P:Program)(n:Nat)(p:Oper)(e:Env):Option (TypeId×TypeId×Value×Value):=match p.op with
 | .mapEntry T x y=>match aV P T with
  |some ⟨.map K E,_,_,_⟩=>match a8 n e x with
   |some m=>match a8 n e y with
    |some k=>some (K,E,m,k)
    |none=>none
   |none=>none
  |_=>none
 |_=>none
def esV(n:Nat)(p:Oper)(e:Env):Option (Value×Value×Value):=match p.op with
 | .entryStore _ x y z=>match a8 n e x with
  |some m=>match a8 n e y with
   |some b=>match a8 n e z with
    |some v=>some (m,b,v)
    |none=>none
   |none=>none
  |none=>none
 |_=>none
theorem Aj[DecidableEq κ]{k:κ}{v:Value}:∀ {F:List (κ×Value)} {i:Nat},rX k F i=none→rX k (F++[(k,v)]) i=some (i+F.length,v)
 | [],i,_=>by simp[rX]
 |x::l,i,h=>by
  simp only[rX] at h
  split at h
  ·cases h
  rename_i hk
  rw[List.cons_append,rX,if_neg hk,Aj h,List.length_cons,show i+1+l.length=i+(l.length+1) by omega]
theorem UL{kv:κ→Value}{k:κ}{v:Value}:∀(es:List MapEntry) (F:List (κ×Value)) (i:Nat) {u:Value},F[i]?=some (k,u)→es.map (fun e=>(e.key,e.val))=F.map (fun x=>(kv x.1,x.2))→(es.modify i fun e=>{e with val:=v}).map (fun e=>(e.key,e.val))=(tD k v F i).map (fun x=>(kv x.1,x.2))
 | [],[],_,_,h,_=>by simp at h
 | [],_::_,_,_,_,h=>by simp at h
 |_::_,[],_,_,_,h=>by simp at h
 |e::es,x::F,0,_,h1,h=>by
  simp only[List.map_cons,List.cons.injEq,Prod.mk.injEq] at h
  simp at h1;subst h1
  simp[tD,h.2,h.1.1]
 |e::es,x::F,i+1,_,h1,h=>by
  simp only[List.map_cons,List.cons.injEq] at h
  simp at h1
  simp[tD,h.1,UL es F i h1 h.2]
theorem GJ{v:Value}:∀(es:List MapEntry) (i:Nat),(es.modify i fun e=>{e with val:=v}).map (·.born)=es.map (·.born)
 | [],i=>by simp
 |e::es,0=>by simp
 |e::es,i+1=>by simp[GJ es i]
theorem AA{kx:Value}:∀(es:List MapEntry) (i:Nat),(es.modify i fun e=>{e with key:=kx}).map (·.born)=es.map (·.born)
 | [],i=>by simp
 |e::es,0=>by simp
 |e::es,i+1=>by simp[AA es i]
theorem UN{kv:κ→Value}{k:κ}:∀(es:List MapEntry) (F:List (κ×Value)) (i:Nat) {u:Value},F[i]?=some (k,u)→es.map (fun e=>(e.key,e.val))=F.map (fun x=>(kv x.1,x.2))→(es.modify i fun e=>{e with key:=kv k}).map (fun e=>(e.key,e.val))=F.map (fun x=>(kv x.1,x.2))
 | [],[],_,_,h,_=>by simp at h
 | [],_::_,_,_,_,h=>by simp at h
 |_::_,[],_,_,_,h=>by simp at h
 |e::es,x::F,0,_,h1,h=>by
  simp only[List.map_cons,List.cons.injEq,Prod.mk.injEq] at h
  simp at h1;subst h1
  simp[h.2,h.1.2]
 |e::es,x::F,i+1,_,h1,h=>by
  simp only[List.map_cons,List.cons.injEq] at h
  simp at h1
  simp[h.1,UN es F i h1 h.2]
theorem V0{es eo:Array MapEntry}{ck:Nat}(h:∀e∈es.toList,e.born <ck)(hb:eo.toList.map (·.born)=es.toList.map (·.born)):∀e∈eo.toList,e.born <ck:=fun e he=>by
 have:e.born∈eo.toList.map (·.born):=List.mem_map_of_mem he
 rw[hb] at this
 obtain⟨e2,h3,h4⟩:=List.mem_map.1 this
 rw[←h4];exact h e2 h3
section
variable {X:Cx} {o:Option JS}
theorem jSk{β:Type}{f:Oper→Env→Option β}{r:β}{Φ:Cells→Prop}(ps:List Nat)(B:Cells)(hv:e9 X.n f o=some r)(hB:dY ps o=some B)
 (hy:∀p e,f p e=some r→(∀c,p.op≠ .defer c)∧∀(R:Cells) (Q:Next→St→Prop) (E:Halt→St→Prop),(∀L',Φ L'→Q .skip ⟨X.ro,L'++R⟩)→bH X.P (execOp (ev X.n e) p) ⟨X.ro,B++R⟩ Q E)
 (hj:∀L',Φ L'→J X (mZ ps undef L' o)):J X o:=by
 obtain⟨ops,i,todo,k,e,w,kn,p,rfl,ho,hw,hc⟩:=dc hv
 intro bO
 have hp:=bB hB
 obtain⟨hd,ht⟩:=hy p e hc
 have:ab X.C X.fn X.ax ops (i::todo) (KQ X k) (A X.n e X.D) ⟨X.ro,B++den (dA ps 0 w)⟩:=by
  refine bL X.hC ho hw hd<|ht _ _ _ fun L' p6=>?_
  have:=hj L' p6
  rw[nW ho] at this
  have:=this bO
  simp only[JP,gI] at this
  show ab _ _ _ _ _ _ _ _
  rw[←aU] at this
  exact this
 have hle:(⟨X.ro,B++den (dA ps 0 w)⟩:St).le ⟨X.ro,den w⟩:=⟨[],by rw[List.append_nil];exact hp,fun b o hb=> .inl hb⟩
 exact this.more X.hC hle
theorem jme[DecidableEq κ]{kv:κ→Value}{F:List (κ×Value)}{K E:TypeId}{L:Cells}{d:TypeDesc}(i:Nat)(k:κ)(hk:PZ X.P K kv)(te:TF X.P E d sz bu z ag)(hm:j6 r kv F L)
 (hj:∀F1 b c L',(((∃u,rX k F 0=some u)∧F1=F)∨(rX k F 0=none∧F1=F++[(k,MG z ag)]))→agL r kv k F1 b L'→J X (mZ [i] (.tuple ⟨[c,zI (b:Int)]⟩) L' o))
 (hv:e9 X.n (meV X.P X.n) o=some (K,E,.map (some r),kv k):=by kernel_rfl)(hB:dY [i] o=some L:=by kernel_rfl):J X o:=by
 refine jS (Φ:=fun v L'=>∃F1 b c,(((∃u,rX k F 0=some u)∧F1=F)∨(rX k F 0=none∧F1=F++[(k,MG z ag)]))∧agL r kv k F1 b L'∧v= .tuple ⟨[c,zI (b:Int)]⟩) [i] _ hv hB (fun p e hf=>?_) (fun v L' p6=>?_)
 ·unfold meV at hf
  split at hf<;>try (cases hf;done)
  rename_i T x y aw
  split at hf<;>try (cases hf;done)
  rename_i K' E' _ _ _ dQ
  split at hf<;>try (cases hf;done)
  rename_i m hx
  split at hf<;>try (cases hf;done)
  rename_i k' hy
  simp only[Option.some.injEq,Prod.mk.injEq] at hf
  obtain⟨rfl,rfl,rfl,rfl⟩:=hf
  obtain⟨ber,tf⟩:=an dQ
  refine⟨by rw[aw];simp,fun R Q E hQ=>?_⟩
  obtain⟨es,ck,rfl,yV⟩:=hm
  simp only[execOp,aw,Instr.mapEntry,aa,aW tf,aC hx,aC hy]
  refine cq (.inr (List.mem_append_left _ List.mem_cons_self)) rfl rfl ?_
  simp only[aa]
  refine hk.chk _ _ ?_
  simp only[aa]
  refine hk.find k _ F yV.1 ?_
  cases xB:rX k F 0 with
  |some u=>
   obtain⟨j,u⟩:=u
   have Qh:=qj xB
   simp only[Nat.sub_zero] at Qh
   have h1:(es.toList.map (fun e=>(e.key,e.val)))[j]?=some (kv k,u):=by rw[yV.1];simp[Qh.2]
   simp only[List.getElem?_map,Array.getElem?_toList] at h1
   cases he:es[j]? with
   |none=>rw[he] at h1;cases h1
   |some e1=>
    rw[he] at h1
    simp only[Option.map_some,Option.some.injEq,Prod.mk.injEq] at h1
    simp only[aa,Instr.keyThatStays,he,Option.map_some,Option.getD_some,h1.1,hk.stay,if_true,ae]
    refine ez (L:=[]) rfl rfl rfl ?_
    simp only[ae]
    refine hQ _ [(r,_)] ⟨F,e1.born,u,.inl ⟨⟨_,xB⟩,rfl⟩,⟨_,_,j,u,rfl,⟨?_,?_,?_⟩,xB,?_⟩,rfl⟩
    ·rw[Array.toList_modify];exact UN _ _ _ Qh.2 yV.1
    ·rw[Array.toList_modify,AA];exact yV.2.1
    ·exact V0 yV.2.2 (by rw[Array.toList_modify,AA])
    rw[Array.toList_modify,AA,List.getElem?_map,Array.getElem?_toList,he];rfl
  |none=>
   simp only[aa,j9 te]
   refine ez (L:=[]) rfl rfl rfl ?_
   simp only[ae]
   have hlen:es.toList.length=F.length:=by have:=congrArg List.length yV.1;simpa using this
   refine hQ _ [(r,_)] ⟨_,ck,_,.inr ⟨xB,rfl⟩,⟨_,_,F.length,_,rfl,⟨?_,?_,?_⟩,by have:=Aj (v:=MG z ag) xB;rwa[Nat.zero_add] at this,?_⟩,rfl⟩
   ·simp only[Array.toList_push,List.map_append,yV.1];rfl
   ·simp only[Array.toList_push,List.map_append,List.map_cons,List.map_nil]
    refine List.nodup_append.2 ⟨yV.2.1,by simp,?_⟩
    intro a ha b hb
    obtain⟨e2,h3,rfl⟩:=List.mem_map.1 ha
    have:=yV.2.2 e2 h3
    simp only[List.mem_singleton] at hb
    omega
   ·intro e1 h1
    simp only[Array.toList_push,List.mem_append,List.mem_singleton] at h1
    rcases h1 with h1|rfl
    ·have:=yV.2.2 e1 h1;omega
    exact Nat.lt_succ_self _
   simp only[Array.toList_push,List.map_append,List.map_cons,List.map_nil]
   rw[List.getElem?_append_right (by simp[hlen])]
   simp[hlen]
 obtain⟨F1,b,c,h1,h2,rfl⟩:=p6
 exact hj F1 b c L' h1 h2
theorem jes[DecidableEq κ]{kv:κ→Value}{F:List (κ×Value)}{L:Cells}{k:κ}(i:Nat)(v:Value)(hm:agL r kv k F b L)(hj:∀L',j6 r kv (mi k v F) L'→J X (mZ [i] undef L' o))
 (hv:e9 X.n (esV X.n) o=some (.map (some r),zI (b:Int),v):=by kernel_rfl)(hB:dY [i] o=some L:=by kernel_rfl):J X o:=by
 refine jSk (Φ:=j6 r kv (mi k v F)) [i] _ hv hB (fun p e hf=>?_) hj
 unfold esV at hf
 split at hf<;>try (cases hf;done)
 rename_i T x y zz aw
 split at hf<;>try (cases hf;done)
 rename_i m hx
 split at hf<;>try (cases hf;done)
 rename_i b' hy
 split at hf<;>try (cases hf;done)
 rename_i v' hz
 simp only[Option.some.injEq,Prod.mk.injEq] at hf
 obtain⟨rfl,rfl,rfl⟩:=hf
 refine⟨by rw[aw];simp,fun R Q E hQ=>?_⟩
 obtain⟨es,ck,j,u,rfl,yV,xB,hb⟩:=hm
 have Qh:=qj xB
 simp only[Nat.sub_zero] at Qh
 simp only[execOp,aw,Instr.entryStore,aa,aC hx,aC hy,aC hz]
 refine cq (.inr (List.mem_append_left _ List.mem_cons_self)) rfl rfl ?_
 have aPs:es.findIdx? (fun e=>(e.born:Int)==(b:Int))=some j:=by
  rw[List.getElem?_map,Array.getElem?_toList] at hb
  obtain⟨e1,he,rfl⟩:=Option.map_eq_some_iff.1 hb
  obtain⟨h1,h2⟩:=Array.getElem?_eq_some_iff.1 he
  refine Array.findIdx?_eq_some_iff_getElem.2 ⟨h1,by simp[h2],fun q hq=>?_⟩
  have ma:=yV.2.1
  have:=List.pairwise_iff_getElem.1 ma q j (by simp;omega) (by simp;omega) hq
  simp only[List.getElem_map,Array.getElem_toList,h2] at this
  simp only[beq_iff_eq]
  omega
 simp only[aa,asInt,asIntOf,ae,aPs]
 refine ez (L:=[]) rfl rfl rfl ?_
 show Q .skip _
 refine hQ [(r,_)] ⟨_,_,rfl,?_,?_,?_⟩
 ·rw[Array.toList_modify,mi,xB];exact UL _ _ _ Qh.2 yV.1
 ·rw[Array.toList_modify,GJ];exact yV.2.1
 exact V0 yV.2.2 (by rw[Array.toList_modify,GJ])
end
abbrev v4(a b c d:Int):Value:= .agg ⟨[zI a,zI b,zI c,zI d]⟩
theorem aEu{P:Program}{T:TypeId}(tf:TF P T (.array 4 3) sz bu z ag)(t3:TF P 3 (.int .i64) 1 by1 z1 false)(a b c d a' b' c' d':Int):
 YQ P (dep+2) T (v4 a b c d) (v4 a' b' c' d') (a==a'&&(b==b'&&(c==c'&&(d==d'&&true)))):=by
 intro α s k Q E
 rw[Op.equalIn]
 simp only[aa,aW tf,bV t3]
 simp only[Std.Legacy.Range.forIn_eq_forIn_range',Std.Legacy.Range.size,Nat.sub_zero,Nat.add_sub_cancel,Nat.div_one,List.range'_succ,List.range'_zero,List.forIn_cons,List.forIn_nil,aa,Nat.zero_add,Nat.mul_one]
 have p (l:List Value) (o:Nat) (v:Value) (h:nth l o=some v):GX P 3 l o v:=kp t3 h
 rw[p _ 0 (zI a) rfl];simp only[aa]
 rw[p _ 0 (zI a') rfl];simp only[aa]
 rw[nV t3 a a']
 cases ha:a==a' with
 |false=>simp only[Bool.not_false,if_true,ae,aa,Bool.false_and]
 |true=>
 simp only[Bool.not_true,Bool.false_eq_true,if_false,ae,Bool.true_and,aa]
 rw[p _ 1 (zI b) rfl];simp only[aa]
 rw[p _ 1 (zI b') rfl];simp only[aa]
 rw[nV t3 b b']
 cases hb:b==b' with
 |false=>simp only[Bool.not_false,if_true,ae,aa,Bool.false_and]
 |true=>
 simp only[Bool.not_true,Bool.false_eq_true,if_false,ae,Bool.true_and,aa]
 rw[p _ 2 (zI c) rfl];simp only[aa]
 rw[p _ 2 (zI c') rfl];simp only[aa]
 rw[nV t3 c c']
 cases hc:c==c' with
 |false=>simp only[Bool.not_false,if_true,ae,aa,Bool.false_and]
 |true=>
 simp only[Bool.not_true,Bool.false_eq_true,if_false,ae,Bool.true_and,aa]
 rw[p _ 3 (zI d) rfl];simp only[aa]
 rw[p _ 3 (zI d') rfl];simp only[aa]
 rw[nV t3 d d']
 cases hd:d==d' with
 |false=>simp only[Bool.not_false,if_true,ae,aa,Bool.false_and]
 |true=>simp only[Bool.not_true,Bool.false_eq_true,if_false,ae,Bool.true_and,aa]
theorem ck4{P:Program}{T:TypeId}(tf:TF P T (.array 4 3) sz bu z ag)(t3:TF P 3 (.int .i64) 1 by1 z1 false)(a b c d:Int):CkD P (dep+2) T (v4 a b c d):=by
 intro bb α K s Q E
 rw[Instr.checkKey]
 simp only[aa,aW tf]
 simp only[Std.Legacy.Range.forIn_eq_forIn_range',Std.Legacy.Range.size,Nat.sub_zero,Nat.add_sub_cancel,Nat.div_one,List.range'_succ,List.range'_zero,List.forIn_cons,List.forIn_nil,aa,Nat.zero_add,bV t3,Nat.zero_mul,Nat.mul_one]
 have p (l:List Value) (o:Nat) (v:Value) (h:nth l o=some v):GX P 3 l o v:=kp t3 h
 rw[p _ 0 (zI a) rfl];simp only[aa];rw[Gx t3 a bb];simp only[ae,aa,bV t3,Nat.mul_one]
 rw[p _ 1 (zI b) rfl];simp only[aa];rw[Gx t3 b bb];simp only[ae,aa,bV t3,Nat.mul_one]
 rw[p _ 2 (zI c) rfl];simp only[aa];rw[Gx t3 c bb];simp only[ae,aa,bV t3,Nat.mul_one]
 rw[p _ 3 (zI d) rfl];simp only[aa];rw[Gx t3 d bb];simp only[ae,aa]
abbrev P4:=Int×Int×Int×Int
abbrev G3(x:P4):Value:=v4 x.1 x.2.1 x.2.2.1 x.2.2.2
theorem ach:PZ zT 89 G3:=acg (m8 Tryz.typeInfo89 Tryz.underlying89 rfl rfl rfl rfl rfl rfl) (fun k=>⟨_,rfl⟩)
 (fun k=>ck4 (dep:=9998) (m8 Tryz.typeInfo89 Tryz.underlying89 rfl rfl rfl rfl rfl rfl) mC _ _ _ _)
 (fun a b=>by
  have h:=aEu (dep:=9998) (m8 Tryz.typeInfo89 Tryz.underlying89 rfl rfl rfl rfl rfl rfl) mC a.1 a.2.1 a.2.2.1 a.2.2.2 b.1 b.2.1 b.2.2.1 b.2.2.2
  have e:(a.1==b.1&&(a.2.1==b.2.1&&(a.2.2.1==b.2.2.1&&(a.2.2.2==b.2.2.2&&true))))=decide (a=b):=by
   rcases a with ⟨x,y,z,t⟩;rcases b with ⟨u,v,w,r⟩
   rw[Bool.eq_iff_iff];simp
  rwa[e] at h)
 (fun k=>by simp[Instr.sameBits])
structure jH where
 c:Nat→Nat→Int
abbrev BY(m:jH):List Value:=[zI (m.c 0 0),zI (m.c 0 1),zI (m.c 0 2),zI (m.c 0 3),zI (m.c 1 0),zI (m.c 1 1),zI (m.c 1 2),zI (m.c 1 3),zI (m.c 2 0),zI (m.c 2 1),zI (m.c 2 2),zI (m.c 2 3),zI (m.c 3 0),zI (m.c 3 1),zI (m.c 3 2),zI (m.c 3 3)]
theorem DX{m:jH}{a:Nat}(h:a <4)(k:b <4):nth (BY m) (0+(a:Int).toNat*4+(b:Int).toNat*1)=some (zI (m.c a b)):=by
 rcases Kz h with rfl|rfl|rfl|rfl<;>rcases Kz k with rfl|rfl|rfl|rfl<;>rfl
def rq(m:jH)(a b:Nat)(v:Int):jH:=⟨fun i j=>if i=a∧j=b then v else m.c i j⟩
theorem ai5{m:jH}{a:Nat}{v:Int}(h:a <4)(k:b <4):dz (BY m) (0+(a:Int).toNat*4+(b:Int).toNat*1) [zI v]=BY (rq m a b v):=by
 rcases Kz h with rfl|rfl|rfl|rfl<;>rcases Kz k with rfl|rfl|rfl|rfl<;>rfl
theorem ai6{m:jH}{a:Nat}{v:Value}(h:a <4)(k:b <4):Nat.ble ((0+(a:Int).toNat*4+(b:Int).toNat*1)+[v].length) (BY m).length=true:=by
 rcases Kz h with rfl|rfl|rfl|rfl<;>rcases Kz k with rfl|rfl|rfl|rfl<;>rfl
def pI(x:ay):Nat→Int
 |0=>x.w0
 |1=>x.w1
 |2=>x.w2
 |_=>x.w3
def aK(zs:List ay):jH:=⟨fun i j=>((zs.filter fun x=>decide (pI x i=(j:Int)+1)).length:Int)⟩
theorem Tc(zs:List ay)(i j:Nat):0≤(aK zs).c i j∧(aK zs).c i j≤zs.length:=by
 have:=List.length_filter_le (fun x=>decide (pI x i=(j:Int)+1)) zs
 simp only[aK];omega
theorem PB{zs ys:List ay}(h:zs.Perm ys):aK zs=aK ys:=by
 simp only[aK,(h.filter _).length_eq]
theorem UO{r:bU}{p:Nat→Int}(hp:∀i,0≤p i∧p i≤4)(q:Nat):0≤pI (dS K r i p) q∧pI (dS K r i p) q≤4:=match q with
 |0=>hp 0
 |1=>hp 1
 |2=>hp 2
 |_+3=>hp 3
def AI:Prop:=∀ {ro:Nat→Option Obj} {v:Value} {zs:List ay},bK ro v 8 cN zs→zs.length≤100000→(∀x∈zs,∀q,0≤pI x q∧pI x q≤4)→eG zT 74 [v] ro [] (fun r Y=>r= .agg ⟨BY (aK zs)⟩∧Y=[])
def qU(m:jH)(n:Int)(i:Nat):Nat→List (List Int)
 |0=>[]
 |j+1=>qU m n i j++(bif decide (m.c i j=n) then [[(i:Int),(j:Int)]] else [])
def xG(m:jH)(n:Int)(w:Nat):Nat→List (List Int)
 |0=>[]
 |i+1=>xG m n w i++qU m n i w
theorem UG{m:jH}{j:Nat}(h:m.c i j=n):qU m n i (j+1)=qU m n i j++[[(i:Int),(j:Int)]]:=by rw[qU,decide_eq_true h];rfl
theorem UH{m:jH}{j:Nat}(h:¬m.c i j=n):qU m n i (j+1)=qU m n i j:=by rw[qU,decide_eq_false h];exact List.append_nil _
theorem Bu(m:jH)(n:Int)(i:Nat):∀j,(qU m n i j).length≤j
 |0=>Nat.le_refl _
 |j+1=>by have:=Bu m n i j;rw[qU,List.length_append];cases decide (m.c i j=n)<;>simp<;>omega
theorem IM(m:jH)(n:Int){w:Nat}(hw:w≤4):∀i,(xG m n w i).length≤4*i
 |0=>Nat.le_refl _
 |i+1=>by have:=IM m n hw i;have:=Bu m n i w;rw[xG,List.length_append];omega
theorem aju{rows:List bU}{ro:Nat→Option Obj}(hK:gV ro l K)(hV:gT K)(hR:rows.length≤2)(hB:mT ro l K rows)(hCt:AI):G0 zT 66 [.agg ⟨l⟩,.func (.func 67) ⟨[]⟩ ⟨[]⟩] ro [] (fun r Y=>∃zs v e,zs.Perm (gB K (eP K) (eY K.gone K.new K.af) rows)∧r= .tuple ⟨[v,zI e]⟩∧((zs=[]∧v= zS∧e=9∧Y=[])∨(zs≠[]∧e=0∧∀aL,Knows aL Y→LL aL v (xG (aK zs) ((zs.length:Nat):Int) K.after.length K.before.length)))):=by
 obtain⟨v0,v1,v3,v4,v5,v6,v7,vb,fa,fc,hv,rfl,_⟩:=id hK
 refine HC au [] [] bn fun fr=>zD 2<|jn fun b2=>jd 6 [0]<|aqy (vs:=[.agg ⟨[v0,v1,.slice fa 0 fc,v3,v4,v5,v6,v7,zI K.gone,zI K.new,zI K.af,vb]⟩]) [] (fun _ _ h=>h) (acs hK hV hR hB) ?_
 rintro _ aA Y15 bW ⟨f15,zs,v15,e15,rfl,Le,hz,arp,he⟩
 have ajT:∀x∈zs,(-4≤x.gone∧x.gone≤4)∧(-4≤x.new∧x.new≤4)∧(0≤x.af∧x.af≤4):=fun x hx=>by obtain⟨i,r,p,_,_,rfl,_⟩:=qu (hz.mem_iff.1 hx);exact sL hV r i p
 have hzl:zs.length≤1250:=by rw[hz.length_eq];exact wD hV _ _ hR
 have hpr:∀x∈zs,∀q,0≤pI x q∧pI x q≤4:=fun x hx=>by obtain⟨i,r,p,_,hp,rfl,_⟩:=qu (hz.mem_iff.1 hx);exact UO ((lX hV _).2 p hp)
 obtain⟨d0,d1,d2,d3,d4,d5,d6,d7,d8,d9,dh,hf,rO,oF,hr,Ds,HQ,I6,bM⟩:=id Le
 obtain⟨lK,J8,J6,kT,rfl,J7,EP,EO⟩:=Ds
 obtain⟨lL,Kb,J9,kU,rfl,Ka,ET,ES⟩:=HQ
 have FP:=hV.before.1
 have HK:=hV.after.1
 refine zD 7<|jf [0] Y15 (fun ro4 qD Zd=>?_)
 have hZ1:=arp.nv Zd
 obtain⟨Bm,aa0,aaY,yf,rfl,aaZ,Rj,Ri⟩:=hZ1
 refine zD 7<|js 20 (!decide (e15=0)) (fun h5=>?_) (fun h5=>?_)
 ·
  replace h5:=of_decide_eq_false (by simpa using h5)
  have xK:zs=[]∧e15=9:=by rcases he with h| ⟨_,h⟩;exact h;omega
  refine zD 8<|RI qC.a.a (.tuple ⟨[zS,zI e15]⟩) [1] [] (bW.trans qD) ⟨zs,_,_,hz,rfl,.inl ⟨xK.1,rfl,xK.2,rfl⟩⟩
 replace h5:=of_decide_eq_true (by simpa using h5)
 have xK:zs≠[]∧e15=0:=by rcases he with ⟨_,h⟩|h;omega;exact h
 refine zD 9<|jc (vs:=[.slice Bm zs.length yf]) [] (hCt (show bK _ _ _ _ _ from ⟨Bm,aa0,aaY,yf,rfl,aaZ,Rj,Ri⟩) (by omega) hpr) ?_
 rintro _ _ ⟨rfl,rfl⟩
 refine jg 0 []<|jn fun rY=>jd 9 [0]<|jl (b:=f15) (off:=0) (m:=13) (vs:=[d0,d1,d2,d3,d4,d5,.slice lK K.before.length kT,.slice lL K.after.length kU,zI K.gone,zI K.new,zI K.af,d8,d9]) 6 ⟨_,_,_,.inl (qD _ _ hf),rfl⟩<|zD 4<|qB<|qB<|eN [1,1,1,1,1,0,1,0,0] [] (fun(zz:Nat×Value×Cells×(List Value)×Cells)=>[(1,.func (.func 67) ⟨[]⟩ ⟨[]⟩),(4,zS),(5,zI 0),(6,zP f15),(7,.slice Bm zs.length yf),(9,zz.2.1),(10,zP rY),(29,zI (K.before.length:Int)),(30,zI (zz.1:Int))]) (fun(zz:Nat×Value×Cells×(List Value)×Cells)=>[.l zz.2.2.1,.l zz.2.2.2.2,.b rY (.cells ⟨[zI ((aK zs).c 0 0),zI ((aK zs).c 0 1),zI ((aK zs).c 0 2),zI ((aK zs).c 0 3),zI ((aK zs).c 1 0),zI ((aK zs).c 1 1),zI ((aK zs).c 1 2),zI ((aK zs).c 1 3),zI ((aK zs).c 2 0),zI ((aK zs).c 2 1),zI ((aK zs).c 2 2),zI ((aK zs).c 2 3),zI ((aK zs).c 3 0),zI ((aK zs).c 3 1),zI ((aK zs).c 3 2),zI ((aK zs).c 3 3)]⟩ 167 (0,0)),.b b2 (.cells ⟨[v0,v1,.slice fa 0 fc,v3,v4,v5,v6,v7,zI K.gone,zI K.new,zI K.af,vb]⟩ 40 (0,0)),.l fr]) (fun(zz:Nat×Value×Cells×(List Value)×Cells)=>(zz.1≤K.before.length∧zz.2.2.2.1.length=(xG (aK zs) ((zs.length:Nat):Int) K.after.length zz.1).length)∧az zz.2.1 1 22 jz zz.2.2.2.1 zz.2.2.1∧∀aL,Knows aL zz.2.2.2.2→dK (fun w l=>bK aL w 1 cS l) zz.2.2.2.1 (xG (aK zs) ((zs.length:Nat):Int) K.after.length zz.1)) (fun(zz:Nat×Value×Cells×(List Value)×Cells)=>K.before.length-zz.1) (⟨0,zS,[],[],[]⟩) ⟨⟨by dsimp only;omega,rfl⟩,az.nil _ _ _,fun _ _=> .nil⟩ [1,0,2,3,4] ?_
 rintro⟨i,vO,LO,es,Z⟩ hI K1 bF rest
 dsimp only at hI
 have hil:=IM (aK zs) ((zs.length:Nat):Int) (w:=K.after.length) (by omega) i
 refine zD 5<|zJ 31 ((i:Int) <(K.before.length:Int)) (fun h6=>?_) fun h6=>?_
 ·
  refine zD 15<|jl (b:=f15) (off:=0) (m:=13) (vs:=[d0,d1,d2,d3,d4,d5,.slice lK K.before.length kT,.slice lL K.after.length kU,zI K.gone,zI K.new,zI K.af,d8,d9]) 7 ⟨_,_,_,.inl (qD _ _ hf),rfl⟩<|zD 4<|eN [1,1,1,1,1,0,1,0,0,1,1,0,0,1,1,0,0] [K1] (fun(zz:Nat×Value×Cells×(List Value)×Cells)=>[(1,.func (.func 67) ⟨[]⟩ ⟨[]⟩),(4,zS),(5,zI 0),(6,zP f15),(7,.slice Bm zs.length yf),(9,zz.2.1),(10,zP rY),(11,zI (i:Int)),(29,zI (K.before.length:Int)),(30,zI (i:Int)),(38,zI (K.after.length:Int)),(39,zI (zz.1:Int))]) (fun(zz:Nat×Value×Cells×(List Value)×Cells)=>[.l zz.2.2.1,.l zz.2.2.2.2,.b rY (.cells ⟨[zI ((aK zs).c 0 0),zI ((aK zs).c 0 1),zI ((aK zs).c 0 2),zI ((aK zs).c 0 3),zI ((aK zs).c 1 0),zI ((aK zs).c 1 1),zI ((aK zs).c 1 2),zI ((aK zs).c 1 3),zI ((aK zs).c 2 0),zI ((aK zs).c 2 1),zI ((aK zs).c 2 2),zI ((aK zs).c 2 3),zI ((aK zs).c 3 0),zI ((aK zs).c 3 1),zI ((aK zs).c 3 2),zI ((aK zs).c 3 3)]⟩ 167 (0,0)),.b b2 (.cells ⟨[v0,v1,.slice fa 0 fc,v3,v4,v5,v6,v7,zI K.gone,zI K.new,zI K.af,vb]⟩ 40 (0,0)),.l fr]) (fun(zz:Nat×Value×Cells×(List Value)×Cells)=>(zz.1≤K.after.length∧zz.2.2.2.1.length=((xG (aK zs) ((zs.length:Nat):Int) K.after.length i)++(qU (aK zs) ((zs.length:Nat):Int) i zz.1)).length)∧az zz.2.1 1 22 jz zz.2.2.2.1 zz.2.2.1∧∀aL,Knows aL zz.2.2.2.2→dK (fun w l=>bK aL w 1 cS l) zz.2.2.2.1 ((xG (aK zs) ((zs.length:Nat):Int) K.after.length i)++(qU (aK zs) ((zs.length:Nat):Int) i zz.1))) (fun(zz:Nat×Value×Cells×(List Value)×Cells)=>K.after.length-zz.1) (⟨0,vO,LO,es,Z⟩) ⟨⟨by dsimp only;omega,by simpa [qU] using hI.1.2⟩,hI.2.1,by simpa [qU] using hI.2.2⟩ [0,1,2,3,4] ?_
  rintro⟨j,vO,LO,es,Z⟩ hJ K2 mL rest
  dsimp only at hJ
  have hjl:=Bu (aK zs) ((zs.length:Nat):Int) i j
  have Ze:=hJ.1.2
  rw[List.length_append] at Ze
  refine zD 5<|zJ 40 ((j:Int) <(K.after.length:Int)) (fun h7=>?_) fun h7=>?_
  ·
   refine zD 10 ?_
   have iO:=Tc zs i j
   refine zD 4<|IZ (b:=rY) (off:=0) (len:=4) (sz:=4) (i:Int) (by omega)<|IZ (b:=rY) (off:=0+(i:Int).toNat*4) (len:=4) (sz:=1) (j:Int) (by omega)<|oV (b:=rY) (off:=0+(i:Int).toNat*4+(j:Int).toNat*1) (m:=1) (vs:=[zI ((aK zs).c i j)]) 0 [2] [(rY,.cells ⟨[zI ((aK zs).c 0 0),zI ((aK zs).c 0 1),zI ((aK zs).c 0 2),zI ((aK zs).c 0 3),zI ((aK zs).c 1 0),zI ((aK zs).c 1 1),zI ((aK zs).c 1 2),zI ((aK zs).c 1 3),zI ((aK zs).c 2 0),zI ((aK zs).c 2 1),zI ((aK zs).c 2 2),zI ((aK zs).c 2 3),zI ((aK zs).c 3 0),zI ((aK zs).c 3 1),zI ((aK zs).c 3 2),zI ((aK zs).c 3 3)]⟩ 167 (0,0))] (fun s _ hZ=>sC (hZ _ (.head _)) (DX (m:=aK zs) (by omega) (by omega)))<|zD 2<|jp (vs:=[zI ((aK zs).c i j),zI (zs.length:Int)]) [] [] (fun aA hs hZ=>aql)<|zD 1<|js 50 (decide (((aK zs).c i j)=(zs.length:Int))) (fun h8=>?_) (fun h8=>?_)
   ·
    refine zD 5<|jn fun b54=>jn fun b55=>k8 (sz:=1) (ps:=es) (qs:=[(.slice (some ⟨b54,0,none⟩) 2 2:Value)]) (enc:=jz) (w:= .slice (some ⟨b55,0,none⟩) 1 1) [2] [0] [(b55,.cells ⟨([(.slice (some ⟨b54,0,none⟩) 2 2:Value)].map jz).flatten⟩ 22 (0,0))] (hJ.2.1) (fun s _ hZ=>cb [(.slice (some ⟨b54,0,none⟩) 2 2:Value)] (hZ _ (.head _)) (by intro p hp;rfl)) (by intro p hp;rw[List.mem_singleton] at hp;subst hp;exact ar rfl) (by simp only[List.length_cons,List.length_nil];omega) (fun v56 L56 vL=>?_)
    obtain⟨Ws,Wq,ad0⟩:=vL.form
    subst ad0
    refine zD 3<|ja ((j:Int)+1) (by omega)<|zD 2<|Oi mL (⟨j+1,(.slice Ws ((es++[(.slice (some ⟨b54,0,none⟩) 2 2:Value)])).length Wq),L56,(es++[(.slice (some ⟨b54,0,none⟩) 2 2:Value)]),Z++[(b54,.cells ⟨[zI (i:Int),zI (j:Int)]⟩ 3 (0,0))]⟩) ⟨⟨by dsimp only;omega,by dsimp only;rw[UG (of_decide_eq_true (by assumption)),←List.append_assoc];simp only[List.length_append,List.length_cons,List.length_nil] at*;omega⟩,vL,fun aL hk=>by dsimp only;rw[UG (of_decide_eq_true (by assumption)),←List.append_assoc];exact(hJ.2.2 aL hk.left).snoc (bR (enc:=cS) (T:=3) [(i:Int),(j:Int)] (hk.right _ (.head _)) (fun _ _=>rfl))⟩ (by dsimp only;omega) [[0],[3,2],[4],[5],[6]] (Sub.refl _)
   refine zD 3<|ja ((j:Int)+1) (by omega)<|zD 2<|bI mL (⟨j+1,vO,LO,es,Z⟩) ⟨⟨by dsimp only;omega,by dsimp only;rw[UH (of_decide_eq_false (by assumption))];exact hJ.1.2⟩,hJ.2.1,by dsimp only;rw[UH (of_decide_eq_false (by assumption))];exact hJ.2.2⟩ (by dsimp only;omega) [0,1,2,3,4] (Sub.refl _)
  refine zD 3<|ja ((i:Int)+1) (by omega)<|zD 2<|bI bF (⟨i+1,vO,LO,es,Z⟩) ⟨⟨by dsimp only;omega,by have:=hJ.1.2;rw[show j=K.after.length by omega] at this;exact this⟩,hJ.2.1,by have:=hJ.2.2;rw[show j=K.after.length by omega] at this;exact this⟩ (by dsimp only;omega) [0,1,2,3,4] (Sub.refl _)
 refine zD 9<|aNb qC.a.a (.tuple ⟨[vO,zI 0]⟩) [0,1,4] LO Z (bW.trans qD) ⟨zs,_,_,hz,rfl,.inr ⟨xK.1,rfl,fun aL hk=>⟨es,hI.2.1.nv hk.left,by have:=hI.2.2 aL hk.right;rwa[show i=K.before.length by omega] at this⟩⟩⟩
end Go.L
