/- Part 13 of the proof: a program logic, contracts, a theorem on goroutines. -/
import Derived.Test.YtjnblekiagbmkaaGreatDoorL12
set_option maxRecDepth 100000
set_option linter.all false
namespace Go.L
open Go Go.Conc Go.Proofs
variable {l:List Value} {K:bk} {b i sz:Nat} {fs:List iD} {α:Type} {hd:List bY} {x:aE} {vp:Value} {r:Int}
structure eE where
 a:Int
 b:Int
 c:Int
 d:Int
 e:Int
 f:Int
abbrev oz(x:eE):List Value:=[zI x.a,zI x.b,zI x.c,zI x.d,zI x.e,zI x.f]
def qI(K:bk)(l:List Value):Prop:=∃v0 v1 v3 v4 v5 v6 v7 vb fa fc,l=[v0,v1,.slice fa 0 fc,v3,v4,v5,v6,v7,zI K.gone,zI K.new,zI K.af,vb]∧∀v∈[v0,v1,v3,v4,v5,v6,v7,vb],single v=true
theorem qI.all(h:qI K l):∀v∈l,single v=true:=by
 obtain⟨v0,v1,v3,v4,v5,v6,v7,vb,fa,fc,rfl,h⟩:=h
 simp only[List.mem_cons,List.not_mem_nil,or_false] at h ⊢
 rintro v (rfl|rfl|rfl|rfl|rfl|rfl|rfl|rfl|rfl|rfl|rfl|rfl)<;>first|rfl|exact h _ (by simp)
theorem lY{v:Value}{T:TypeId}{enc:α→List Value}{ps:List α}{L:Cells}(h:az v sz T enc ps L):single v=true:=by
 obtain⟨a,c,rfl⟩:=h.form;rfl
theorem ki{v:Value}{enc:α→List Value}{ps:List α}{ro:Nat→Option Obj}(h:bK ro v sz enc ps):single v=true:=by
 obtain⟨a,b,o,c,rfl,_⟩:=h;rfl
theorem EE{a b c d e f g h:Value}(h1:single a=true)(h2:single b=true)(h3:single c=true)(h4:single d=true)(h5:single e=true)(h6:single f=true)(h7:single g=true)(h8:single h=true):∀v∈[a,b,c,d,e,f,g,h],single v=true:=by
 simp only[List.mem_cons,List.not_mem_nil,or_false]
 rintro v (rfl|rfl|rfl|rfl|rfl|rfl|rfl|rfl)<;>assumption
theorem gV.L{ro:Nat→Option Obj}(h:gV ro l K):qI K l:=by
 obtain⟨v0,v1,v3,v4,v5,v6,v7,vb,fa,fc,hv,rfl,⟨_,h0,_⟩,⟨_,h1,_⟩,⟨h3,h4,_⟩,_,h5,h6,h7,hb⟩:=h
 exact⟨_,_,_,_,_,_,_,_,_,_,rfl,EE (ki h0) (ki h1) (ki h3) (ki h4) (ki h5) (ki h6) (ki h7) (ki hb)⟩
theorem oS{P:Prop}{p:α}(h:([]:List α)[i]?=some p):P:=by simp at h
theorem fq{l:List α}{a:α}(h:l[i]?=some a):l.take (i+1)=l.take i++[a]:=by
 rw[List.take_succ,h];rfl
theorem xj{β:Type}{R:α→β→Prop}{ws:List α}{ls:List β}{w:α}{l:β}(h:dK R ws (ls.take i))(hl:ls[i]?=some l) (hr:R w l):dK R (ws++[w]) (ls.take (i+1)):=by
 rw[fq hl];exact h.snoc hr
set_option maxHeartbeats 2000000 in
theorem iF {ro:Nat→Option Obj} (hK:gV ro l K) (hO:oD K):eG zT 6 [.agg ⟨l⟩] ro [] (fun r Y=>∃(l':List Value) (Z:Cells),r= .agg ⟨l'⟩∧qI K l'∧(∀aL,Sub ro aL→Knows aL Z→gV aL l' K)∧Y=Z):=by
 obtain⟨vS,vT,vc,vh,vr,vb,va,vf,fa,fc,hv,rfl,hS,hT,rO,oF,hr,hb,ha,hf⟩:=hK
 obtain⟨jm,hs,fY⟩:=id hS
 obtain⟨jV,ht,fO⟩:=id hT
 obtain⟨hc,hh,F7⟩:=id rO
 obtain⟨mU,Uq,Uo,mj,rfl,Up,Nu,Nt⟩:=hs
 obtain⟨fg,AP,AN,eA,rfl,AO,tq,tk⟩:=ht
 obtain⟨eL,AR,AQ,eF,rfl,Da,yR,yQ⟩:=hc
 obtain⟨dR,uZ,uY,dD,rfl,xu,qM,qL⟩:=hh
 obtain⟨mr,J3,J2,mo,rfl,Nv,Iy,Ix⟩:=hr
 obtain⟨rV,Y0,YY,rE,rfl,YZ,W6,W5⟩:=hb
 obtain⟨rF,W9,W7,qN,rfl,W8,Us,Ur⟩:=ha
 obtain⟨n8,Hv,Hu,mG,rfl,Mu,Bj,Bi⟩:=hf
 have CE:=hO.rules
 have qE:=hO.before.1
 have ON:=hO.after.1
 have OM:=hO.facts.1
 have OL:=hO.ways.1
 have HM:=fY.len
 have D7:=fO.len
 have XW:=hO.sG.two
 have hl9:=hO.eO.nh
 have P5:∀(i:Nat) (p:eE),([]:List eE)[i]?=some p→cg ⟨ro,[]⟩ 0 (0+i*6) 6 (oz p):=fun _ _ h=>oS h
 refine bC au [] [] bn<|zD 2<|jn fun b1=>jn fun b2=>zD 3<|jn fun b6=>jd 3 [2]<|k8 (sz:=6) (ps:=[]) (qs:=([]:List eE)) (enc:=oz) (w:= .slice fa 0 fc) [0] [] [] (cD (b:=b6) (T:=251)) (fun s he _=>⟨fa,0,0,fc,rfl,(fun _ h=>absurd h (Nat.not_lt_zero _)),fun i p hp=>(P5 i p hp).ext he⟩) (fun p _=>ar rfl) (by simp<;>omega) (fun v10 L10 ads=>?_)
 rw[List.nil_append] at ads
 obtain⟨QC,Qy,aP3⟩:=ads.form
 subst aP3
 refine zD 1<|jn fun b3=>jd 8 [0]<|qB<|qB<|eN [1,1,0,1,0,0] [] (fun(zz:Nat×Value×Cells×(List Value)×Cells)=>[(1,zP b1),(2,zP b2),(3,zP b3),(4,zI (zz.1:Int))]) (fun(zz:Nat×Value×Cells×(List Value)×Cells)=>[.b b3 (.cells ⟨[zz.2.1,zS,(.slice QC (([]:List eE)).length Qy)]⟩ 31 (0,0)),.l zz.2.2.1,.l zz.2.2.2.2,.l L10,.b b2 (.cells ⟨[zS,zS,zS,zS,zS,zS,zS,zS,zI 0,zI 0,zI 0,zS]⟩ 40 (0,0)),.b b1 (.cells ⟨[.slice mU jm.length mj,.slice fg jV.length eA,.slice fa 0 fc,.slice eL K.cs.length eF,.slice dR hv.length dD,.slice mr K.rules.length mo,.slice rV K.before.length rE,.slice rF K.after.length qN,zI K.gone,zI K.new,zI K.af,.slice n8 K.facts.length mG]⟩ 40 (0,0))]) (fun(zz:Nat×Value×Cells×(List Value)×Cells)=>(zz.1≤jm.length∧zz.2.2.2.1.length=zz.1)∧az zz.2.1 1 55 jz zz.2.2.2.1 zz.2.2.1∧∀aL,Knows aL zz.2.2.2.2→dK (fun w l=>bK aL w 2 cI l) zz.2.2.2.1 (K.str.take zz.1)) (fun(zz:Nat×Value×Cells×(List Value)×Cells)=>jm.length-zz.1) (⟨0,zS,[],[],[]⟩) ⟨⟨by omega,rfl⟩,az.nil _ _ _,fun _ _=> .nil⟩ [2,1,0,3,4,5] ?_
 rintro⟨i,v0,L0,ps,Z⟩ hI K1 bF rest
 dsimp only at hI
 refine jd 11 [5]<|zJ 18 ((i:Int) <(jm.length:Int)) (fun h1=>?_) fun h1=>?_
 ·
  refine jd 13 [0,5] ?_
  obtain⟨oE,jZ⟩:=zG jm i
  refine iW mj 1 Nu jZ ?_
  obtain⟨l31,aAz,h31⟩:=fY.get jZ
  obtain bcN:=hO.sG.len _ (List.mem_of_getElem? aAz)
  obtain⟨axY,aLX,aLU,axX,rfl,baK,aLW,aLV⟩:=h31
  refine jl 0 (Nt _ _ jZ)<|aH 3 fun AY A6 Ad=>jn fun mB=>bw Ad [1,2,3,4,5,6]<|aH 11 fun rZ si qG=>k8 (sz:=2) (ps:=[]) (qs:=l31) (enc:=cI) (w:= .slice axY l31.length axX) [0] [] [] (cD (b:=mB) (T:=54)) (fun s he _=>⟨axY,aLX,aLU,axX,rfl,aLW,fun i p hp=>(aLV i p hp).ext he⟩) (fun p _=>ar rfl) (by simp<;>omega) (fun v32 L32 Sc=>?_)
  rw[List.nil_append] at Sc
  obtain⟨QB,Qx,asj⟩:=Sc.form
  subst asj
  refine iM qG [[6],[1]]<|aH 12 fun tw tz rP=>jn fun b33=>bw rP [1,2,3,4,5,6,7]<|aH 13 fun AX A5 BO=>k8 (sz:=1) (ps:=ps) (qs:=[((.slice QB (l31).length Qx):Value)]) (enc:=jz) (w:= .slice (some ⟨b33,0,none⟩) 1 1) [3] [0] [(b33,.cells ⟨([((.slice QB (l31).length Qx):Value)].map jz).flatten⟩ 55 (0,0))] (hI.2.1) (fun s _ hZ=>cb [((.slice QB (l31).length Qx):Value)] (hZ _ (.head _)) (by intro p hp;rfl)) (by intro p hp;rw[List.mem_singleton] at hp;subst hp;exact ar rfl) (by simp<;>omega) (fun v34 L34 adl=>?_)
  obtain⟨aom,aoc,asi⟩:=adl.form
  subst asi
  refine iM BO [[7]]<|zD 2<|aH 16 fun Zq aab X9=>jd 1 [3]<|iM X9 []<|zD 3<|ja ((i:Int)+1) (by omega)<|zD 2<|Oi bF (⟨i+1,(.slice aom ((ps++[((.slice QB (l31).length Qx):Value)])).length aoc),L34,(ps++[((.slice QB (l31).length Qx):Value)]),L32++Z⟩) ⟨⟨by dsimp only;omega,by simp only[List.length_append,List.length_cons,List.length_nil];omega⟩,adl,fun aL hk=>xj (hI.2.2 aL hk.right) aAz (Sc.nv hk.left)⟩ (by omega) [[3],[0],[2,4],[5],[6],[7]] (Sub.refl _)
 refine zD 8<|qB<|qB<|eN [1,1,1,0,1,0,0] [] (fun(zz:Nat×Value×Cells×(List Value)×Cells)=>[(1,zP b1),(2,zP b2),(3,zP b3),(5,zI (zz.1:Int))]) (fun(zz:Nat×Value×Cells×(List Value)×Cells)=>[.b b3 (.cells ⟨[v0,zz.2.1,(.slice QC (([]:List eE)).length Qy)]⟩ 31 (0,0)),.l zz.2.2.1,.l zz.2.2.2.2,.l L0,.l Z,.l L10,.b b2 (.cells ⟨[zS,zS,zS,zS,zS,zS,zS,zS,zI 0,zI 0,zI 0,zS]⟩ 40 (0,0)),.b b1 (.cells ⟨[.slice mU jm.length mj,.slice fg jV.length eA,.slice fa 0 fc,.slice eL K.cs.length eF,.slice dR hv.length dD,.slice mr K.rules.length mo,.slice rV K.before.length rE,.slice rF K.after.length qN,zI K.gone,zI K.new,zI K.af,.slice n8 K.facts.length mG]⟩ 40 (0,0))]) (fun(zz:Nat×Value×Cells×(List Value)×Cells)=>(zz.1≤jV.length∧zz.2.2.2.1.length=zz.1)∧az zz.2.1 1 62 jz zz.2.2.2.1 zz.2.2.1∧∀aL,Knows aL zz.2.2.2.2→dK (fun w l=>bK aL w 7 mO l) zz.2.2.2.1 (K.ways.take zz.1)) (fun(zz:Nat×Value×Cells×(List Value)×Cells)=>jV.length-zz.1) (⟨0,zS,[],[],[]⟩) ⟨⟨by omega,rfl⟩,az.nil _ _ _,fun _ _=> .nil⟩ [2,1,0,3,4,5,6,7] ?_
 rintro⟨j,v1,L1,qs,Z1⟩ hG K7 hK7 rest
 dsimp only at hG
 refine jd 10 [7]<|zJ 42 ((j:Int) <(jV.length:Int)) (fun h7=>?_) fun h7=>?_
 ·
  refine jd 11 [0,7] ?_
  obtain⟨x52,BG⟩:=zG jV j
  refine iW eA 1 tq BG<|zD 1 ?_
  obtain⟨l54,aAx,h54⟩:=fO.get BG
  obtain bcL:=(hO.ways.2 _ (List.mem_of_getElem? aAx)).1.2
  obtain⟨axV,aLJ,aLG,axU,rfl,baG,aLI,aLH⟩:=h54
  refine jl 0 (tk _ _ BG)<|aH 2 fun Zo Z8 hL8=>jn fun b47=>bw hL8 [1,2,3,4,5,6,7,8]<|aH 10 fun Zn Z6 X7=>k8 (sz:=7) (ps:=[]) (qs:=l54) (enc:=mO) (w:= .slice axV l54.length axU) [0] [] [] (cD (b:=b47) (T:=58)) (fun s he _=>⟨axV,aLJ,aLG,axU,rfl,aLI,fun i p hp=>(aLH i p hp).ext he⟩) (fun p _=>ar rfl) (by simp<;>omega) (fun v55 L55 Sb=>?_)
  rw[List.nil_append] at Sb
  obtain⟨ZU,ZN,aPQ⟩:=Sb.form
  subst aPQ
  refine iM X7 [[8],[1]]<|zD 1<|aH 12 fun H5 Ia vN=>jn fun b57=>bw vN [1,2,3,4,5,6,7,8,9]<|aH 13 fun MH M0 F6=>k8 (sz:=1) (ps:=qs) (qs:=[((.slice ZU (l54).length ZN):Value)]) (enc:=jz) (w:= .slice (some ⟨b57,0,none⟩) 1 1) [3] [0] [(b57,.cells ⟨([((.slice ZU (l54).length ZN):Value)].map jz).flatten⟩ 62 (0,0))] (hG.2.1) (fun s _ hZ=>cb [((.slice ZU (l54).length ZN):Value)] (hZ _ (.head _)) (by intro p hp;rfl)) (by intro p hp;rw[List.mem_singleton] at hp;subst hp;exact ar rfl) (by simp<;>omega) (fun v58 L58 adg=>?_)
  obtain⟨ah2,ahY,Sr⟩:=adg.form
  subst Sr
  refine iM F6 [[9]]<|zD 1<|aH 15 fun TK TY F5=>jd 1 [3]<|cM F5<|zD 3<|ja ((j:Int)+1) (by omega)<|zD 2<|Oi hK7 (⟨j+1,(.slice ah2 ((qs++[((.slice ZU (l54).length ZN):Value)])).length ahY),L58,(qs++[((.slice ZU (l54).length ZN):Value)]),L55++Z1⟩) ⟨⟨by dsimp only;omega,by simp only[List.length_append,List.length_cons,List.length_nil];omega⟩,adg,fun aL hk=>xj (hG.2.2 aL hk.right) aAx (Sb.nv hk.left)⟩ (by omega) [[3],[0],[2,4],[5],[6],[7],[8],[9]] (Sub.refl _)
 refine zD 3<|HD [1,1,1,1,1] [] (fun(zz:(Option Addr)×Nat×(Option Addr)×Nat×(List bp)×Cells×Value×Cells)=>[(1,zP b1),(2,zP b2)]) (fun(zz:(Option Addr)×Nat×(Option Addr)×Nat×(List bp)×Cells×Value×Cells)=>[.b b1 (.cells ⟨[v0,v1,(.slice QC (([]:List eE)).length Qy),(.slice zz.1 K.cs.length zz.2.1),(.slice zz.2.2.1 zz.2.2.2.2.1.length zz.2.2.2.1),zz.2.2.2.2.2.2.1,.slice rV K.before.length rE,.slice rF K.after.length qN,zI K.gone,zI K.new,zI K.af,.slice n8 K.facts.length mG]⟩ 40 (0,0)),.l zz.2.2.2.2.2.2.2,.l zz.2.2.2.2.2.1,.b b3 (.cells ⟨[v0,v1,(.slice QC (([]:List eE)).length Qy)]⟩ 31 (0,0)),.l L1,.l Z1,.l L0,.l Z,.l L10,.b b2 (.cells ⟨[zS,zS,zS,zS,zS,zS,zS,zS,zI 0,zI 0,zI 0,zS]⟩ 40 (0,0))]) (fun(zz:(Option Addr)×Nat×(Option Addr)×Nat×(List bp)×Cells×Value×Cells)=>dK dC zz.2.2.2.2.1 K.hd∧(∀aL,Sub ro aL→Knows aL zz.2.2.2.2.2.1→jT aL (.slice zz.1 K.cs.length zz.2.1) (.slice zz.2.2.1 zz.2.2.2.2.1.length zz.2.2.2.1) K.cs zz.2.2.2.2.1 K.hd)∧az zz.2.2.2.2.2.2.1 2 65 jO K.rules zz.2.2.2.2.2.2.2) ?_ (fun K13 Yc=>?_)
 ·
  rintro⟨ta,tc,ua,uc,hw,ZT,vR,LR⟩ hJ rest
  dsimp only at hJ
  refine zD 1<|HD [1,1,1,1,1,1] [] (fun(zz:Value×Cells×Value×Cells×Value×Cells)=>[(1,zP b1),(2,zP b2)]) (fun(zz:Value×Cells×Value×Cells×Value×Cells)=>[.b b1 (.cells ⟨[v0,v1,(.slice QC (([]:List eE)).length Qy),(.slice ta K.cs.length tc),(.slice ua hw.length uc),vR,zz.1,zz.2.2.1,zI K.gone,zI K.new,zI K.af,zz.2.2.2.2.1]⟩ 40 (0,0)),.l zz.2.1,.l zz.2.2.2.1,.l zz.2.2.2.2.2,.l LR,.l ZT,.b b3 (.cells ⟨[v0,v1,(.slice QC (([]:List eE)).length Qy)]⟩ 31 (0,0)),.l L1,.l Z1,.l L0,.l Z,.l L10,.b b2 (.cells ⟨[zS,zS,zS,zS,zS,zS,zS,zS,zI 0,zI 0,zI 0,zS]⟩ 40 (0,0))]) (fun(zz:Value×Cells×Value×Cells×Value×Cells)=>az zz.1 5 70 e8 K.before zz.2.1∧az zz.2.2.1 5 70 e8 K.after zz.2.2.2.1∧az zz.2.2.2.2.1 3 75 wo K.facts zz.2.2.2.2.2) ?_ (fun K14 Yb=>?_)
  ·
   rintro⟨vB,LB,vA,LA,vF,LF⟩ hM rest
   dsimp only at hM
   refine jd 3 [0] ?_
   obtain⟨aJO,aJp,aP1⟩:=hI.2.1.form
   subst aP1
   obtain⟨JE,Ho,xC⟩:=hG.2.1.form
   subst xC
   obtain⟨aJN,aJo,Su⟩:=hJ.2.2.form
   subst Su
   obtain⟨aJM,aJn,asm⟩:=hM.1.form
   subst asm
   obtain⟨za,y8,OY⟩:=hM.2.1.form
   subst OY
   obtain⟨aop,ah0,Ss⟩:=hM.2.2.form
   subst Ss
   refine jd 3 [12]<|aF q0 (.agg ⟨[(.slice aJO (ps).length aJp),(.slice JE (qs).length Ho),(.slice QC (([]:List eE)).length Qy),(.slice ta K.cs.length tc),(.slice ua hw.length uc),(.slice aJN (K.rules).length aJo),(.slice aJM (K.before).length aJn),(.slice za (K.after).length y8),zI K.gone,zI K.new,zI K.af,(.slice aop (K.facts).length ah0)]⟩) [12] [1,2,3,4,5,7,8,9,10,11] (LB++(LA++(LF++(LR++(ZT++(L1++(Z1++(L0++(Z++L10))))))))) (Sub.refl _) ⟨_,_,rfl,rfl,_,_,rfl,⟨_,_,_,_,_,_,_,_,_,_,rfl,EE (lY hI.2.1) (lY hG.2.1) rfl rfl (lY hJ.2.2) (lY hM.1) (lY hM.2.1) (lY hM.2.2)⟩,fun aL qD hk=>⟨_,_,_,_,_,_,_,_,_,_,hw,rfl,⟨_,hI.2.1.nv hk.right.right.right.right.right.right.right.left,by have:=hI.2.2 aL hk.right.right.right.right.right.right.right.right.left;rwa[List.take_of_length_le (by omega)] at this⟩,⟨_,hG.2.1.nv hk.right.right.right.right.right.left,by have:=hG.2.2 aL hk.right.right.right.right.right.right.left;rwa[List.take_of_length_le (by omega)] at this⟩,hJ.2.1 aL qD hk.right.right.right.right.left,hJ.1,hJ.2.2.nv hk.right.right.right.left,hM.1.nv hk.left,hM.2.1.nv hk.right.left,hM.2.2.nv hk.right.right.left⟩,rfl⟩
  refine jd 7 [0,0,0]<|lD [2,6] ⟨fun z15 t16 Lc=>?_,fun z18 t19 SM=>?_,trivial⟩
  ·
   refine jc (vs:=[.slice rV K.before.length rE]) [] (pZ (show bK _ _ _ _ _ from ⟨rV,Y0,YY,rE,rfl,YZ,W6,W5⟩) (by omega)) ?_
   rintro v73 L73 ⟨_,Se,rfl⟩
   refine bw Lc [1,2,3,4,5,6,7,8,9,10]<|zD 1<|lD [5,6] ⟨fun z21 t22 aex=>?_,fun z24 t25 O4=>?_,trivial⟩
   ·
    refine jc (vs:=[.slice rF K.after.length qN]) [] (pZ (show bK _ _ _ _ _ from ⟨rF,W9,W7,qN,rfl,W8,Us,Ur⟩) (by omega)) ?_
    rintro v76 L76 ⟨_,OB,rfl⟩
    refine bw aex [1,2,3,4,5,6,7,8,9,10,11]<|aH 6 fun Zu aaf SK=>jn fun b77=>bw SK [1,2,3,4,5,6,7,8,9,10,11,12]<|aH 9 fun Zt aae F3=>k8 (sz:=3) (ps:=[]) (qs:=K.facts) (enc:=wo) (w:= .slice n8 K.facts.length mG) [0] [] [] (cD (b:=b77) (T:=75)) (fun s he _=>⟨n8,Hv,Hu,mG,rfl,Bj,fun i p hp=>(Bi i p hp).ext he⟩) (fun p _=>ar rfl) (by simp<;>omega) (fun v80 L80 p9=>?_)
    rw[List.nil_append] at p9
    obtain⟨ZR,ZL,adZ⟩:=p9.form
    subst adZ
    refine iM F3 []<|aH 11 (fun TJ TX K0=>?_)
    obtain⟨aon,aod,ad4⟩:=Se.form
    subst ad4
    refine jd 1 [3]<|cM K0<|zD 1<|aH 13 (fun Zs aad SJ=>?_)
    obtain⟨aJI,aJj,aPY⟩:=OB.form
    subst aPY
    refine jd 1 [3]<|cM SJ<|zD 1<|aH 15 fun alw alQ O3=>jd 1 [3]<|cM O3<|zD 1<|bI Yb ⟨(.slice aon (K.before).length aod),L73,(.slice aJI (K.after).length aJj),L76,(.slice ZR (K.facts).length ZL),L80⟩ ⟨Se,OB,p9⟩ Nat.zero_lt_one [3,2,1,0,4,5,6,7,8,9,10,11,12] (Sub.refl _)
   refine jn fun b77=>bw O4 [1,2,3,4,5,6,7,8,9,10,11]<|aH 5 fun alv alP aew=>jc (vs:=[.slice rF K.after.length qN]) [] (pZ (show bK _ _ _ _ _ from ⟨rF,W9,W7,qN,rfl,W8,Us,Ur⟩) (by omega)) ?_
   rintro v76 L76 ⟨_,OB,rfl⟩
   refine bw aew [1,2,3,4,5,6,7,8,9,10,11,12]<|aH 9 fun avL awK aev=>k8 (sz:=3) (ps:=[]) (qs:=K.facts) (enc:=wo) (w:= .slice n8 K.facts.length mG) [1] [] [] (cD (b:=b77) (T:=75)) (fun s he _=>⟨n8,Hv,Hu,mG,rfl,Bj,fun i p hp=>(Bi i p hp).ext he⟩) (fun p _=>ar rfl) (by simp<;>omega) (fun v80 L80 p9=>?_)
   rw[List.nil_append] at p9
   obtain⟨ZR,ZL,adZ⟩:=p9.form
   subst adZ
   refine iM aev []<|aH 11 (fun avK awJ atg=>?_)
   obtain⟨QB,Qx,asj⟩:=Se.form
   subst asj
   refine jd 1 [3]<|cM atg<|zD 1<|aH 13 (fun avJ awI atf=>?_)
   obtain⟨aom,aoc,asi⟩:=OB.form
   subst asi
   refine jd 1 [3]<|cM atf<|zD 1<|aH 15 fun alu alO KZ=>jd 1 [3]<|cM KZ<|zD 1<|bI Yb ⟨(.slice QB (K.before).length Qx),L73,(.slice aom (K.after).length aoc),L76,(.slice ZR (K.facts).length ZL),L80⟩ ⟨Se,OB,p9⟩ Nat.zero_lt_one [3,2,1,0,4,5,6,7,8,9,10,11,12] (Sub.refl _)
  refine jn fun b77=>bw SM [1,2,3,4,5,6,7,8,9,10]<|aH 2 fun Zr aac SI=>jc (vs:=[.slice rV K.before.length rE]) [] (pZ (show bK _ _ _ _ _ from ⟨rV,Y0,YY,rE,rfl,YZ,W6,W5⟩) (by omega)) ?_
  rintro v73 L73 ⟨_,Se,rfl⟩
  refine bw SI [1,2,3,4,5,6,7,8,9,10,11]<|zD 1<|aH 5 fun avI awH ate=>jc (vs:=[.slice rF K.after.length qN]) [] (pZ (show bK _ _ _ _ _ from ⟨rF,W9,W7,qN,rfl,W8,Us,Ur⟩) (by omega)) ?_
  rintro v76 L76 ⟨_,OB,rfl⟩
  refine bw ate [1,2,3,4,5,6,7,8,9,10,11,12]<|aH 9 fun avH awG atd=>k8 (sz:=3) (ps:=[]) (qs:=K.facts) (enc:=wo) (w:= .slice n8 K.facts.length mG) [2] [] [] (cD (b:=b77) (T:=75)) (fun s he _=>⟨n8,Hv,Hu,mG,rfl,Bj,fun i p hp=>(Bi i p hp).ext he⟩) (fun p _=>ar rfl) (by simp<;>omega) (fun v80 L80 p9=>?_)
  rw[List.nil_append] at p9
  obtain⟨ZR,ZL,adZ⟩:=p9.form
  subst adZ
  refine iM atd []<|aH 11 (fun avG awF aeu=>?_)
  obtain⟨aok,aoa,asg⟩:=Se.form
  subst asg
  refine jd 1 [3]<|cM aeu<|zD 1<|aH 13 (fun aUl aVb atc=>?_)
  obtain⟨aJB,aJc,aPT⟩:=OB.form
  subst aPT
  refine jd 1 [3]<|cM atc<|zD 1<|aH 15 fun aUk aVa aRs=>jd 1 [3]<|cM aRs<|zD 1<|bI Yb ⟨(.slice aok (K.before).length aoa),L73,(.slice aJB (K.after).length aJc),L76,(.slice ZR (K.facts).length ZL),L80⟩ ⟨Se,OB,p9⟩ Nat.zero_lt_one [3,2,1,0,4,5,6,7,8,9,10,11,12] (Sub.refl _)
 refine jd 7 [0,7,7]<|lD [3,4] ⟨fun z43 t44 akp=>?_,fun z46 t47 as7=>?_,trivial⟩
 ·
  refine jc [] (Fw hO.eO rO oF) ?_
  rintro _ auk ⟨aqR,aSK,aQY,aSI,aQl,_,rfl,acU,acT,rfl⟩
  refine bw akp [1,2,3,4,5,6,7,8]<|aH 4 fun avF awE aet=>jn fun b64=>bw aet [1,2,3,4,5,6,7,8,9]<|aH 7 fun aUe aU4 as6=>k8 (sz:=2) (ps:=[]) (qs:=K.rules) (enc:=jO) (w:= .slice mr K.rules.length mo) [0] [] [] (cD (b:=b64) (T:=65)) (fun s he _=>⟨mr,J3,J2,mo,rfl,Iy,fun i p hp=>(Ix i p hp).ext he⟩) (fun p _=>ar rfl) (by simp<;>omega) (fun v67 L67 yy=>?_)
  rw[List.nil_append] at yy
  obtain⟨aog,an6,asb⟩:=yy.form
  subst asb
  refine iM as6 [[2]]<|aH 9 (fun avE awD as5=>?_)
  obtain⟨ah3,ahZ,ad1⟩:=hI.2.1.form
  subst ad1
  obtain⟨aZx,aZu,aPR⟩:=hG.2.1.form
  subst aPR
  refine jd 1 [9]<|cM as5<|zD 1<|aH 11 fun avD awC SH=>jd 1 [9]<|cM SH<|zD 1<|aH 13 fun als alN aes=>jd 1 [9]<|cM aes<|zD 1<|bI Yc ⟨_,_,_,_,aqR,auk,(.slice aog (K.rules).length an6),L67⟩ ⟨acU,acT,yy⟩ Nat.zero_lt_one [9,0,1,2,3,4,5,6,7,8] (Sub.refl _)
 refine jn fun b64=>bw as7 [1,2,3,4,5,6,7,8]<|aH 3 fun alr alM aer=>jc [] (Fw hO.eO rO oF) ?_
 rintro _ auk ⟨aqR,aSK,aQY,aSI,aQl,_,rfl,acU,acT,rfl⟩
 refine bw aer [1,2,3,4,5,6,7,8,9]<|aH 7 fun avC awB aeq=>k8 (sz:=2) (ps:=[]) (qs:=K.rules) (enc:=jO) (w:= .slice mr K.rules.length mo) [1] [] [] (cD (b:=b64) (T:=65)) (fun s he _=>⟨mr,J3,J2,mo,rfl,Iy,fun i p hp=>(Ix i p hp).ext he⟩) (fun p _=>ar rfl) (by simp<;>omega) (fun v67 L67 yy=>?_)
 rw[List.nil_append] at yy
 obtain⟨aog,an6,asb⟩:=yy.form
 subst asb
 refine iM aeq [[2]]<|aH 9 (fun alq alL aep=>?_)
 obtain⟨aoh,an7,ase⟩:=hI.2.1.form
 subst ase
 obtain⟨ah2,ahY,Sr⟩:=hG.2.1.form
 subst Sr
 refine jd 1 [9]<|cM aep<|zD 1<|aH 11 fun alp alK SG=>jd 1 [9]<|cM SG<|zD 1<|aH 13 fun avB awA as4=>jd 1 [9]<|cM as4<|zD 1<|bI Yc ⟨_,_,_,_,aqR,auk,(.slice aog (K.rules).length an6),L67⟩ ⟨acU,acT,yy⟩ Nat.zero_lt_one [9,0,1,2,3,4,5,6,7,8] (Sub.refl _)
def hqw:ByteArray:=bs [72,81,87]
def kindOf(r:Int):Int:=if 97≤r∧r≤122 then 1 else if (65≤r∧r≤90)∧Oj hqw (UInt8.ofNat (IntKind.u8.wrap r).toNat) <0 then 2 else 0
theorem aEw:EF zT 279 Extern.BytealgIndexByte.indexByte:=⟨Tryz.f279,Tryz.func279,by kernel_rfl,by kernel_rfl,by kernel_rfl,by kernel_rfl⟩
theorem Xy{a:ByteArray}{b:Int}{ro:Nat→Option Obj}:dL zT 271 [.string a,.int .u8 b] ro (zI (Oj a (b).toNat.toUInt8)):=by
 refine bC au [] [] bn<|zD 8<|jib (a:=a) (b:=b) aEw<|zD 3<|aF q0 (zI (Oj a (b).toNat.toUInt8)) [] [] [] (Sub.refl _) ⟨_,_,rfl,rfl,rfl,rfl⟩
theorem Xz{a:ByteArray}{b:Int}{ro:Nat→Option Obj}:dL zT 254 [.string a,.int .u8 b] ro (zI (Oj a (b).toNat.toUInt8)):=by
 refine bC au [] [] bn<|zD 8<|jp (vs:=[.string a,.int .u8 b]) [] [] (fun aA hs hZ=>Xy)<|zD 3<|aF q0 (zI (Oj a (b).toNat.toUInt8)) [] [] [] (Sub.refl _) ⟨_,_,rfl,rfl,rfl,rfl⟩
theorem aqz{a:ByteArray}{ro:Nat→Option Obj}(hr:0≤r∧r <128):dL zT 230 [.string a,.int .i32 r] ro (zI (Oj a (IntKind.u8.wrap r).toNat.toUInt8)):=by
 refine bC au [] [] bn<|zD 10<|jj 3 [(0,.string a),(1,.int .i32 r),(4,zI 0),(166,.bool ((decide (0≤r))&&(decide (r <128))))] (fun gZ=>?_) (fun hj=>?_)
 rotate_left
 refine js 163 (decide (0≤r)) (fun h1=>?_) (fun h1=>?_)
 ·
  have gD:=h1
  replace gD:=of_decide_eq_true gD
  refine zD 3<|jw 166 (.bool ((decide (0≤r))&&(decide (r <128)))) (w:= .bool (decide (r <128))) (by rw[h1]<;>rfl) ?_
  exact hj _ (by kernel_rfl) (by kernel_rfl)
 ·
  have gD:=h1
  replace gD:=of_decide_eq_false gD
  refine zD 3<|jw 166 (.bool ((decide (0≤r))&&(decide (r <128)))) (w:= .bool false) (by rw[h1]<;>rfl) ?_
  exact hj _ (by kernel_rfl) (by kernel_rfl)
 refine zD 2<|js 160 ((decide (0≤r))&&(decide (r <128))) (fun h2=>?_) (fun h2=>?_)
 ·
  try simp only[zB] at h2
  refine zD 6<|jp (vs:=[.string a,.int .u8 (IntKind.u8.wrap r)]) [] [] (fun aA hs hZ=>Xz)<|zD 3<|aF q0 (zI (Oj a ((IntKind.u8.wrap r)).toNat.toUInt8)) [] [] [] (Sub.refl _) ⟨_,_,rfl,rfl,rfl,rfl⟩
 try simp only[zB] at h2
 exfalso;omega
theorem akh{a:ByteArray}{ro:Nat→Option Obj}(hr:0≤r∧r <128):dL zT 209 [.string a,.int .i32 r] ro (.bool (decide (Oj a (IntKind.u8.wrap r).toNat.toUInt8≥0))):=by
 refine bC au [] [] bn<|zD 8<|jp (vs:=[.string a,.int .i32 r]) [] [] (fun aA hs hZ=>aqz (by omega))<|zD 4<|aF q0 (.bool (decide ((Oj a (IntKind.u8.wrap r).toNat.toUInt8)≥0))) [] [] [] (Sub.refl _) ⟨_,_,rfl,rfl,rfl,rfl⟩
theorem amg{ro:Nat→Option Obj}:dL zT 183 [.int .i32 r] ro (zI (kindOf r)):=by
 refine bC au [] [] bn<|zD 11<|jj 3 [(0,.int .i32 r),(2,zI 0),(9,.bool ((decide (r≥97))&&(decide (r≤122))))] (fun gZ=>?_) (fun hj=>?_)
 rotate_left
 refine js 6 (decide (r≥97)) (fun h1=>?_) (fun h1=>?_)
 ·
  have gD:=h1
  replace gD:=of_decide_eq_true gD
  refine zD 3<|jw 9 (.bool ((decide (r≥97))&&(decide (r≤122)))) (w:= .bool (decide (r≤122))) (by rw[h1]<;>rfl) ?_
  exact hj _ (by kernel_rfl) (by kernel_rfl)
 ·
  have gD:=h1
  replace gD:=of_decide_eq_false gD
  refine zD 3<|jw 9 (.bool ((decide (r≥97))&&(decide (r≤122)))) (w:= .bool false) (by rw[h1]<;>rfl) ?_
  exact hj _ (by kernel_rfl) (by kernel_rfl)
 refine zD 2<|js 3 ((decide (r≥97))&&(decide (r≤122))) (fun h2=>?_) (fun h2=>?_)
 ·
  try simp only[zB] at h2
  refine zD 6<|aF q0 (zI 1) [] [] [] (Sub.refl _) ⟨_,_,rfl,rfl,by simp only[kindOf,hqw];congr 1;(try simp at*);(repeat' split)<;>omega,rfl⟩
 try simp only[zB] at h2
 refine zD 6<|jj 3 [(0,.int .i32 r),(2,zI 0),(16,.bool ((decide (r≥65))&&(decide (r≤90))))] (fun gZ=>?_) (fun hj=>?_)
 rotate_left
 refine js 13 (decide (r≥65)) (fun h3=>?_) (fun h3=>?_)
 ·
  have vP:=h3
  replace vP:=of_decide_eq_true vP
  refine zD 3<|jw 16 (.bool ((decide (r≥65))&&(decide (r≤90)))) (w:= .bool (decide (r≤90))) (by rw[h3]<;>rfl) ?_
  exact hj _ (by kernel_rfl) (by kernel_rfl)
 ·
  have vP:=h3
  replace vP:=of_decide_eq_false vP
  refine zD 3<|jw 16 (.bool ((decide (r≥65))&&(decide (r≤90)))) (w:= .bool false) (by rw[h3]<;>rfl) ?_
  exact hj _ (by kernel_rfl) (by kernel_rfl)
 refine zD 1<|jj 4 [(2,zI 0),(21,.bool (((decide (r≥65))&&(decide (r≤90)))&&(!(decide (Oj (bs [72,81,87]) (IntKind.u8.wrap r).toNat.toUInt8≥0)))))] (fun gZ=>?_) (fun hj=>?_)
 rotate_left
 refine js 17 ((decide (r≥65))&&(decide (r≤90))) (fun h4=>?_) (fun h4=>?_)
 ·
  have xN:=h4
  try simp only[zB] at xN
  refine zD 1<|jp (vs:=[.string (bs [72,81,87]),.int .i32 r]) [] [] (fun aA hs hZ=>akh (by omega))<|zD 2<|jw 21 (.bool (((decide (r≥65))&&(decide (r≤90)))&&(!(decide (Oj (bs [72,81,87]) (IntKind.u8.wrap r).toNat.toUInt8≥0))))) (w:= .bool (!(decide (Oj (bs [72,81,87]) (IntKind.u8.wrap r).toNat.toUInt8≥0)))) (by rw[h4]<;>rfl) ?_
  exact hj _ (by kernel_rfl) (by kernel_rfl)
 ·
  have xN:=h4
  try simp only[zB] at xN
  refine zD 4<|jw 21 (.bool (((decide (r≥65))&&(decide (r≤90)))&&(!(decide (Oj (bs [72,81,87]) (IntKind.u8.wrap r).toNat.toUInt8≥0))))) (w:= .bool false) (by rw[h4]<;>rfl) ?_
  exact hj _ (by kernel_rfl) (by kernel_rfl)
 refine zD 2<|js 10 (((decide (r≥65))&&(decide (r≤90)))&&(!(decide (Oj (bs [72,81,87]) (IntKind.u8.wrap r).toNat.toUInt8≥0)))) (fun h5=>?_) (fun h5=>?_)
 ·
  try simp only[zB] at h5
  refine zD 6<|aF q0 (zI 2) [] [] [] (Sub.refl _) ⟨_,_,rfl,rfl,by simp only[kindOf,hqw];congr 1;(try simp at*);(repeat' split)<;>omega,rfl⟩
 try simp only[zB] at h5
 refine zD 7<|aF q0 (zI 0) [] [] [] (Sub.refl _) ⟨_,_,rfl,rfl,by simp only[kindOf,hqw];congr 1;(try simp at*);(repeat' split)<;>omega,rfl⟩
theorem aca:((List.range 256).all fun n=> !Fu (UInt8.ofNat n)||decide (kindOf (n:Int)=1))=true:=by kernel_rfl
theorem ab9:((List.range 256).all fun n=> !E5 (UInt8.ofNat n)||decide (kindOf (n:Int)=2))=true:=by kernel_rfl
def Wi(w:ByteArray)(k:Int):Prop:=∀b∈w.data.toList,b.toNat <128∧kindOf (b.toNat:Int)=k
theorem Nl{w:ByteArray}(h:Script w):∃k:Int,(k=1∨k=2)∧Wi w k:=by
 have hb:∀b:UInt8,UInt8.ofNat b.toNat=b:=fun b=>by simp
 rcases h with h|h
 ·refine⟨1,.inl rfl,fun b my=>?_⟩
  have h1:=h b my
  have h2:=List.all_eq_true.1 aca b.toNat (List.mem_range.2 b.toNat_lt)
  rw[hb,h1] at h2
  simp only[Fu,Bool.and_eq_true,Nat.ble_eq] at h1
  exact⟨by omega,by simpa using h2⟩
 refine⟨2,.inr rfl,fun b my=>?_⟩
 have h1:=h b my
 have h2:=List.all_eq_true.1 ab9 b.toNat (List.mem_range.2 b.toNat_lt)
 rw[hb,h1] at h2
 simp only[E5,Bool.and_eq_true,Nat.ble_eq] at h1
 exact⟨by omega,by simpa using h2⟩
theorem ai0{w:ByteArray}{k:Int}{ro:Nat→Option Obj}(hs:1≤w.size∧w.size≤6)(hk:k=1∨k=2)(hK:Wi w k):dL zT 142 [.string w] ro (zI 0):=by
 refine bC au [] [] bn<|zD 11<|zJ 9 ((w.size:Int)=0) (fun h1=>?_) fun h1=>?_
 ·
  exfalso;omega
 refine zD 9<|zJ 12 ((w.size:Int)>6) (fun h2=>?_) fun h2=>?_
 ·
  exfalso;omega
 refine zD 10<|jn fun r14=>zD 2<|eN [1,1,1,1,0,1,0,0] [] (fun(zz:Nat×Int)=>[(3,zI zz.2),(14,zP r14)]) (fun(zz:Nat×Int)=>[.b r14 (.stringIter w zz.1)]) (fun(zz:Nat×Int)=>zz.1≤w.data.toList.length∧(zz.2=0∨zz.2=k)) (fun(zz:Nat×Int)=>w.data.toList.length-zz.1) (⟨0,0⟩) ⟨by omega,.inl rfl⟩ [0] ?_
 rintro⟨p,sc⟩ hI K1 bF rest
 dsimp only at hI
 refine zD 2 ?_
 cases OD:w.data.toList[p]? with
 |some y5=>
  refine jnA r14 0 OD (hK _ (List.mem_of_getElem? OD)).1<|zD 7 ?_
  have Vq:=(hK _ (List.mem_of_getElem? OD)).2
  refine zD 7<|jp (vs:=[.int .i32 (y5.toNat:Int)]) [] [] (fun aA hs hZ=>amg)<|zD 8<|zJ 21 (sc=0) (fun h3=>?_) fun h3=>?_
  ·
   refine zD 10<|jj 4 [(3,zI (kindOf (y5.toNat:Int))),(14,zP r14),(29,.bool ((decide ((kindOf (y5.toNat:Int))=0))||(!decide ((kindOf (y5.toNat:Int))=(kindOf (y5.toNat:Int))))))] (fun gZ=>?_) (fun hj=>?_)
   rotate_left
   refine js 25 (decide ((kindOf (y5.toNat:Int))=0)) (fun h4=>?_) (fun h4=>?_)
   ·
    have xN:=h4
    replace xN:=of_decide_eq_true xN
    refine zD 4<|jw 29 (.bool ((decide ((kindOf (y5.toNat:Int))=0))||(!decide ((kindOf (y5.toNat:Int))=(kindOf (y5.toNat:Int)))))) (w:= .bool true) (by rw[h4]<;>rfl) ?_
    exact hj _ (by kernel_rfl) (by kernel_rfl)
   ·
    have xN:=h4
    replace xN:=of_decide_eq_false xN
    refine zD 4<|jw 29 (.bool ((decide ((kindOf (y5.toNat:Int))=0))||(!decide ((kindOf (y5.toNat:Int))=(kindOf (y5.toNat:Int)))))) (w:= .bool (!decide ((kindOf (y5.toNat:Int))=(kindOf (y5.toNat:Int))))) (by rw[h4]<;>rfl) ?_
    exact hj _ (by kernel_rfl) (by kernel_rfl)
   refine zD 1<|js 29 ((decide ((kindOf (y5.toNat:Int))=0))||(!decide ((kindOf (y5.toNat:Int))=(kindOf (y5.toNat:Int))))) (fun h5=>?_) (fun h5=>?_)
   ·
    try simp only[zB] at h5
    exfalso;omega
   try simp only[zB] at h5
   refine zD 2<|bI bF (⟨p+1,(kindOf (y5.toNat:Int))⟩) ⟨by have:=(List.getElem?_eq_some_iff.1 OD).1;dsimp only;omega,by dsimp only;omega⟩ (by have:=(List.getElem?_eq_some_iff.1 OD).1;dsimp only;omega) [0] (Sub.refl _)
  refine zD 7<|jj 4 [(3,zI sc),(14,zP r14),(29,.bool ((decide ((kindOf (y5.toNat:Int))=0))||(!decide ((kindOf (y5.toNat:Int))=sc))))] (fun gZ=>?_) (fun hj=>?_)
  rotate_left
  refine js 25 (decide ((kindOf (y5.toNat:Int))=0)) (fun h6=>?_) (fun h6=>?_)
  ·
   have h6g:=h6
   replace h6g:=of_decide_eq_true h6g
   refine zD 4<|jw 29 (.bool ((decide ((kindOf (y5.toNat:Int))=0))||(!decide ((kindOf (y5.toNat:Int))=sc)))) (w:= .bool true) (by rw[h6]<;>rfl) ?_
   exact hj _ (by kernel_rfl) (by kernel_rfl)
  ·
   have h6g:=h6
   replace h6g:=of_decide_eq_false h6g
   refine zD 4<|jw 29 (.bool ((decide ((kindOf (y5.toNat:Int))=0))||(!decide ((kindOf (y5.toNat:Int))=sc)))) (w:= .bool (!decide ((kindOf (y5.toNat:Int))=sc))) (by rw[h6]<;>rfl) ?_
   exact hj _ (by kernel_rfl) (by kernel_rfl)
  refine zD 1<|js 29 ((decide ((kindOf (y5.toNat:Int))=0))||(!decide ((kindOf (y5.toNat:Int))=sc))) (fun h7=>?_) (fun h7=>?_)
  ·
   try simp only[zB] at h7
   exfalso;omega
  try simp only[zB] at h7
  refine zD 2<|bI bF (⟨p+1,sc⟩) ⟨by have:=(List.getElem?_eq_some_iff.1 OD).1;dsimp only;omega,by dsimp only;omega⟩ (by have:=(List.getElem?_eq_some_iff.1 OD).1;dsimp only;omega) [0] (Sub.refl _)
 |none=>
  refine jnZ r14 0 OD<|zD 10<|aF q0 (zI 0) [] [] [] (Sub.refl _) ⟨_,_,rfl,rfl,rfl,rfl⟩
def mC:=(m8 Tryz.typeInfo3 Tryz.underlying3 rfl rfl rfl rfl rfl rfl:TF zT 3 _ 1 8 _ false)
theorem afF(a b c d:Int)(dep:Nat):YQ zT (dep+2) 54 (.agg ⟨[zI a,zI b]⟩) (.agg ⟨[zI c,zI d]⟩) (a==c&&(b==d&&true)):=
 ug (m8 Tryz.typeInfo54 Tryz.underlying54 rfl rfl rfl rfl rfl rfl) Tryz.stoodInHeld54 (.cons (by decide) (kp mC rfl) (kp mC rfl) (nV mC _ _) (.cons (by decide) (kp mC rfl) (kp mC rfl) (nV mC _ _) .nil))
theorem wj(a b c d:Int):EqV zT 54 (.agg ⟨[zI a,zI b]⟩) (.agg ⟨[zI c,zI d]⟩) (a==c&&(b==d&&true)):=Ly (afF a b c d _)
theorem atN(a b c d e f:Int):EqV zT 132 (.agg ⟨[zI a,zI b,zI c]⟩) (.agg ⟨[zI d,zI e,zI f]⟩) (a==d&&(b==e&&(c==f&&true)&&true)):=
 Ly (ug (m8 Tryz.typeInfo132 Tryz.underlying132 rfl rfl rfl rfl rfl rfl) Tryz.stoodInHeld132 (.cons (by decide) (kp mC rfl) (kp mC rfl) (nV mC _ _) (.cons (by decide) (E1 (m8 Tryz.typeInfo54 Tryz.underlying54 rfl rfl rfl rfl rfl rfl) rfl) (E1 (m8 Tryz.typeInfo54 Tryz.underlying54 rfl rfl rfl rfl rfl rfl) rfl) (afF _ _ _ _ _) .nil)))
theorem Fa:nX zT 54:=Tryz.eqGuardType54
theorem ayF:nX zT 132:=Tryz.eqGuardType132
def Bo(n l:Int)(y:ah):Bool:=n==y.n&&(l==y.l&&true)
theorem Ru{w:ByteArray}{ro:Nat→Option Obj}(hs:1≤w.size∧w.size≤6)(h:Script w):dL zT 142 [.string w] ro (zI 0):=by
 obtain⟨k,h1,h2⟩:=Nl h
 exact ai0 hs h1 h2
theorem zu{ro:Nat→Option Obj}:dL zT 49 [zI 0] ro (.tuple ⟨[]⟩):=by
 refine bC au [] [] bn<|zD 7<|aF q0 (.tuple ⟨[]⟩) [] [] [] (Sub.refl _) ⟨_,_,rfl,rfl,rfl,rfl⟩
theorem U5{ro:Nat→Option Obj}:dL zT 48 [.agg ⟨[.string x.name,zI x.st,zI x.no,zI x.head,.bool x.bold]⟩] ro (.agg ⟨[zI x.st,zI x.no,zI 0]⟩):=by
 refine bC au [] [] bn<|zD 2<|jn fun b1=>jn fun b2=>jd 12 [1,1,0]<|aF q0 (.agg ⟨[zI x.st,zI x.no,zI 0]⟩) [0] [] [] (Sub.refl _) ⟨_,_,rfl,rfl,rfl,rfl⟩
theorem acv{v:Value}{ps:List ah}{n l:Int}{ro:Nat→Option Obj}(hp:bK ro v 2 cI ps)(hn:ps.length≤1000):dL zT 184 [v,.agg ⟨[zI n,zI l]⟩] ro (zI (cQ (Bo n l) ps 0)):=by
 obtain⟨P6,qpb,qpo,Iz,rfl,qpk,W0,WZ⟩:=hp
 refine bC au [] [] bn<|zD 2<|jn fun b3=>zD 10<|eN [1,0,1,0,0] [] (fun(zz:Nat)=>[(0,.slice P6 ps.length Iz),(3,zP b3),(7,zI (ps.length:Int)),(8,zI (zz:Int))]) (fun(zz:Nat)=>[.b b3 (.cells ⟨[zI n,zI l]⟩ 54 (0,0))]) (fun(zz:Nat)=>zz≤ps.length∧cQ (Bo n l) ps 0=cQ (Bo n l) (ps.drop zz) zz) (fun(zz:Nat)=>ps.length-zz) 0 ⟨by omega,rfl⟩ [0] ?_
 rintro k hI K1 bF rest
 refine zD 5<|zJ 9 ((k:Int) <(ps.length:Int)) (fun h1=>?_) fun h1=>?_
 ·
  refine jd 14 [0] ?_
  obtain⟨fU,eI⟩:=zG ps k
  refine iW Iz 2 W0 eI<|jl 0 (WZ _ _ eI)<|jeq Fa (wj n l fU.n fU.l)<|zD 1<|js 16 (n==fU.n&&(l==fU.l&&true)) (fun h2=>?_) (fun h2=>?_)
  ·
   refine zD 7<|aF q0 (zI (k:Int)) [] [] [] (Sub.refl _) ⟨_,_,rfl,rfl,by rw[hI.2,jN eI,show Bo n l fU=true from (by assumption)];rfl,rfl⟩
  refine zD 3<|ja ((k:Int)+1) (by omega)<|zD 2<|bI bF (k+1) ⟨by omega,by rw[hI.2,jN eI,show Bo n l fU=false from (by assumption)];rfl⟩ (by omega) [0] (Sub.refl _)
 refine zD 7<|aF q0 (zI (-1)) [] [] [] (Sub.refl _) ⟨_,_,rfl,rfl,by rw[hI.2,qk (by omega)],rfl⟩
theorem IW{v:Value}{ps:List ah}{n l:Int}{ro:Nat→Option Obj}(hp:bK ro v 2 cI ps)(hn:ps.length≤1000):dL zT 143 [v,.agg ⟨[zI n,zI l]⟩] ro (.bool (decide (cQ (Bo n l) ps 0≥0))):=by
 obtain⟨P6,qpb,qpo,Iz,rfl,qpk,W0,WZ⟩:=hp
 refine bC au [] [] bn<|zD 2<|jn fun b3=>jd 6 [0]<|jp (vs:=[.slice P6 ps.length Iz,.agg ⟨[zI n,zI l]⟩]) [] [] (fun aA hs hZ=>acv ((show bK _ _ _ _ _ from ⟨P6,qpb,qpo,Iz,rfl,qpk,W0,WZ⟩).up hs) (by first|omega| (simp only[List.length_set,List.length_append,List.length_cons,List.length_nil];omega))) ?_
 refine zD 4<|aF q0 (.bool (decide ((cQ (Bo n l) ps 0)≥0))) [] [] [] (Sub.refl _) ⟨_,_,rfl,rfl,rfl,rfl⟩
theorem Vt{i:Int}(h:nO hd i): -1≤i∧i <hd.length:=by
 rcases h with h| ⟨h0,x,h1,_⟩
 ·omega
 have:=(List.getElem?_eq_some_iff.1 h1).1
 omega
theorem OW{hv:List bp}{i:Int}{x:bp}(h:dK dC hv hd)(hi:nO hd i)(h0:i≥0)(hx:hv[i.toNat]?=some x):0≤x.cls:=by
 rcases hi with hi| ⟨_,y,h1,h2⟩
 ·omega
 obtain⟨z,h3,h4⟩:=h.get hx
 rw[h1] at h3;cases h3
 rw[h4.2.1];exact h2
theorem IC{S:List (List ah)}{l:List ah}(h:ali S hd x)(hl:S[x.st.toNat]?=some l):cQ (Bo x.no 0) l 0≥0:=by
 obtain⟨l',h1,h2⟩:=h.2
 rw[h1] at hl;cases hl
 have key:∀(l:List ah) (k:Nat),(⟨x.no,0⟩:ah)∈l→cQ (Bo x.no 0) l k≥0:=by
  intro l
  induction l with
  |nil=>intro k h;cases h
  |cons y l ih=>
   intro k h
   simp only[cQ]
   cases hx:Bo x.no 0 y with
   |true=>simp
   |false=>
    simp only[cond_false]
    rcases List.mem_cons.1 h with rfl|h
    ·simp[Bo] at hx
    exact ih _ h
 exact key _ 0 h2
theorem acn{ro:Nat→Option Obj}(hK:gV ro l K)(hO:oD K)(hx:ali K.str K.hd x):dL zT 118 [.agg ⟨l⟩,.agg ⟨[.string x.name,zI x.st,zI x.no,zI x.head,.bool x.bold]⟩,.bool true] ro (zI 0):=by
 obtain⟨vS,vT,vc,vh,vr,vb,va,vf,fa,fc,hv,rfl,hS,hT,rO,oF,hr,hb,ha,hf⟩:=hK
 obtain⟨jm,hs,fY⟩:=id hS
 obtain⟨jV,ht,fO⟩:=id hT
 obtain⟨hc,hh,F7⟩:=id rO
 obtain⟨mU,Uq,Uo,mj,rfl,Up,Nu,Nt⟩:=hs
 obtain⟨fg,AP,AN,eA,rfl,AO,tq,tk⟩:=ht
 obtain⟨eL,AR,AQ,eF,rfl,Da,yR,yQ⟩:=hc
 obtain⟨dR,uZ,uY,dD,rfl,xu,qM,qL⟩:=hh
 obtain⟨mr,J3,J2,mo,rfl,Nv,Iy,Ix⟩:=hr
 obtain⟨rV,Y0,YY,rE,rfl,YZ,W6,W5⟩:=hb
 obtain⟨rF,W9,W7,qN,rfl,W8,Us,Ur⟩:=ha
 obtain⟨n8,Hv,Hu,mG,rfl,Mu,Bj,Bi⟩:=hf
 have CE:=hO.rules
 have qE:=hO.before.1
 have ON:=hO.after.1
 have OM:=hO.facts.1
 have OL:=hO.ways.1
 have HM:=fY.len
 have D7:=fO.len
 have XW:=hO.sG.two
 have hl9:=hO.eO.nh
 have P5:∀(i:Nat) (p:eE),([]:List eE)[i]?=some p→cg ⟨ro,[]⟩ 0 (0+i*6) 6 (oz p):=fun _ _ h=>oS h
 have hNm:=hx.1.1
 have hNs:=hNm.1
 have hHd:=hx.1.2.1
 have hHl:=Vt hHd
 have hSt:=hx.1.2.2.1
 have hBd:=hx.1.2.2.2
 have hlen:=oF.len
 refine bC au [] [] bn<|zD 2<|jn fun b3=>jn fun b4=>jd 7 [0]<|jp (vs:=[.string x.name]) [] [] (fun aA hs hZ=>(Ru (by omega) hNm.2))<|jd 27 [1,0,1]<|ja ((hv.length:Int)-1) (by omega)<|jp (vs:=[zI x.head,zI (-1),zI ((hv.length:Int)-1)]) [] [] (fun aA hs hZ=>gA)<|zD 3<|js 19 (!(jb x.head (-1) ((hv.length:Int)-1))) (fun h1=>?_) (fun h1=>?_)
 ·
  try simp only[zB] at h1
  exfalso;simp only[jb,Bool.and_eq_false_iff,decide_eq_false_iff_not] at h1;omega
 try simp only[zB] at h1
 refine jd 7 [0]<|js 33 (decide (x.head≥0)) (fun h2=>?_) (fun h2=>?_)
 ·
  have mz:=h2
  replace mz:=of_decide_eq_true mz
  refine jd 5 [1,0] ?_
  obtain⟨DL,xy⟩:=zG hv (x.head.toNat)
  refine Mw x.head dD 4 qM xy (by omega)<|zD 1<|jl 1 (qL _ _ xy)<|zD 4<|zJ 29 (DL.cls=(-1)) (fun h3=>?_) fun h3=>?_
  ·
   exfalso;have:=OW oF hHd (by omega) xy;omega
  refine jd 8 [0]<|ja ((jm.length:Int)-1) (by omega)<|jp (vs:=[zI x.st,zI 0,zI ((jm.length:Int)-1)]) [] [] (fun aA hs hZ=>gA)<|zD 3<|js 44 (!(jb x.st 0 ((jm.length:Int)-1))) (fun h4=>?_) (fun h4=>?_)
  ·
   try simp only[zB] at h4
   exfalso;simp only[jb,Bool.and_eq_false_iff,decide_eq_false_iff_not] at h4;omega
  try simp only[zB] at h4
  refine jd 7 [0] ?_
  obtain⟨x57,Dg⟩:=zG jm (x.st.toNat)
  refine Mw x.st mj 1 Nu Dg (by omega) ?_
  obtain⟨l58,adL,h58⟩:=fY.get Dg
  obtain aO6:=hO.sG.len _ (List.mem_of_getElem? adL)
  obtain⟨aa2,apk,apg,aa1,rfl,api,apj,aph⟩:=h58
  refine jl 0 (Nt _ _ Dg)<|jd 1 [0]<|jp (vs:=[.agg ⟨[.string x.name,zI x.st,zI x.no,zI x.head,.bool x.bold]⟩]) [] [] (fun aA hs hZ=>(U5 (x:=(⟨x.name,x.st,x.no,x.head,x.bold⟩:aE))))<|zD 1<|jp (vs:=[.slice aa2 l58.length aa1,.agg ⟨[zI x.no,zI 0]⟩]) [] [] (fun aA hs hZ=>IW ((show bK _ _ _ _ _ from ⟨aa2,apk,apg,aa1,rfl,api,apj,aph⟩).up hs) (by first|omega| (simp only[List.length_set,List.length_append,List.length_cons,List.length_nil];omega))) ?_
  refine zD 4<|js 44 (!(decide (cQ (Bo x.no 0) l58 0≥0))) (fun h5=>?_) (fun h5=>?_)
  ·
   try simp only[zB] at h5
   exfalso;have:=IC hx adL;omega
  try simp only[zB] at h5
  refine jd 20 [0]<|js 74 x.bold (fun h6=>?_) (fun h6=>?_)
  ·
   exfalso;rw[hBd] at h6;cases h6
  refine zD 7<|aF q0 (zI 0) [] [] [] (Sub.refl _) ⟨_,_,rfl,rfl,rfl,rfl⟩
 have mz:=h2
 replace mz:=of_decide_eq_false mz
 refine jd 20 [0]<|ja ((jm.length:Int)-1) (by omega)<|jp (vs:=[zI x.st,zI 0,zI ((jm.length:Int)-1)]) [] [] (fun aA hs hZ=>gA)<|zD 3<|js 44 (!(jb x.st 0 ((jm.length:Int)-1))) (fun h7=>?_) (fun h7=>?_)
 ·
  try simp only[zB] at h7
  exfalso;simp only[jb,Bool.and_eq_false_iff,decide_eq_false_iff_not] at h7;omega
 try simp only[zB] at h7
 refine jd 7 [0] ?_
 obtain⟨x57,Dg⟩:=zG jm (x.st.toNat)
 refine Mw x.st mj 1 Nu Dg (by omega) ?_
 obtain⟨l58,adL,h58⟩:=fY.get Dg
 obtain aO6:=hO.sG.len _ (List.mem_of_getElem? adL)
 obtain⟨aa2,apk,apg,aa1,rfl,api,apj,aph⟩:=h58
 refine jl 0 (Nt _ _ Dg)<|jd 1 [0]<|jp (vs:=[.agg ⟨[.string x.name,zI x.st,zI x.no,zI x.head,.bool x.bold]⟩]) [] [] (fun aA hs hZ=>(U5 (x:=(⟨x.name,x.st,x.no,x.head,x.bold⟩:aE))))<|zD 1<|jp (vs:=[.slice aa2 l58.length aa1,.agg ⟨[zI x.no,zI 0]⟩]) [] [] (fun aA hs hZ=>IW ((show bK _ _ _ _ _ from ⟨aa2,apk,apg,aa1,rfl,api,apj,aph⟩).up hs) (by first|omega| (simp only[List.length_set,List.length_append,List.length_cons,List.length_nil];omega))) ?_
 refine zD 4<|js 44 (!(decide (cQ (Bo x.no 0) l58 0≥0))) (fun h8=>?_) (fun h8=>?_)
 ·
  try simp only[zB] at h8
  exfalso;have:=IC hx adL;omega
 try simp only[zB] at h8
 refine jd 20 [0]<|js 74 x.bold (fun h9=>?_) (fun h9=>?_)
 ·
  exfalso;rw[hBd] at h9;cases h9
 refine zD 7<|aF q0 (zI 0) [] [] [] (Sub.refl _) ⟨_,_,rfl,rfl,rfl,rfl⟩
theorem aco{ro:Nat→Option Obj}(hK:gV ro l K)(hO:oD K)(hx:aFv K.hd x):dL zT 118 [.agg ⟨l⟩,.agg ⟨[.string x.name,zI x.st,zI x.no,zI x.head,.bool x.bold]⟩,.bool false] ro (zI 0):=by
 obtain⟨vS,vT,vc,vh,vr,vb,va,vf,fa,fc,hv,rfl,hS,hT,rO,oF,hr,hb,ha,hf⟩:=hK
 obtain⟨jm,hs,fY⟩:=id hS
 obtain⟨jV,ht,fO⟩:=id hT
 obtain⟨hc,hh,F7⟩:=id rO
 obtain⟨mU,Uq,Uo,mj,rfl,Up,Nu,Nt⟩:=hs
 obtain⟨fg,AP,AN,eA,rfl,AO,tq,tk⟩:=ht
 obtain⟨eL,AR,AQ,eF,rfl,Da,yR,yQ⟩:=hc
 obtain⟨dR,uZ,uY,dD,rfl,xu,qM,qL⟩:=hh
 obtain⟨mr,J3,J2,mo,rfl,Nv,Iy,Ix⟩:=hr
 obtain⟨rV,Y0,YY,rE,rfl,YZ,W6,W5⟩:=hb
 obtain⟨rF,W9,W7,qN,rfl,W8,Us,Ur⟩:=ha
 obtain⟨n8,Hv,Hu,mG,rfl,Mu,Bj,Bi⟩:=hf
 have CE:=hO.rules
 have qE:=hO.before.1
 have ON:=hO.after.1
 have OM:=hO.facts.1
 have OL:=hO.ways.1
 have HM:=fY.len
 have D7:=fO.len
 have XW:=hO.sG.two
 have hl9:=hO.eO.nh
 have P5:∀(i:Nat) (p:eE),([]:List eE)[i]?=some p→cg ⟨ro,[]⟩ 0 (0+i*6) 6 (oz p):=fun _ _ h=>oS h
 have hNm:=hx.1.1
 have hNs:=hNm.1
 have hHd:=hx.1.2.1
 have hHl:=Vt hHd
 have hSt:=hx.1.2.2.1
 have hBd:=hx.1.2.2.2
 have hlen:=oF.len
 have hNo:=hx.2
 refine bC au [] [] bn<|zD 2<|jn fun b3=>jn fun b4=>jd 7 [0]<|jp (vs:=[.string x.name]) [] [] (fun aA hs hZ=>(Ru (by omega) hNm.2))<|jd 27 [1,0,1]<|ja ((hv.length:Int)-1) (by omega)<|jp (vs:=[zI x.head,zI (-1),zI ((hv.length:Int)-1)]) [] [] (fun aA hs hZ=>gA)<|zD 3<|js 19 (!(jb x.head (-1) ((hv.length:Int)-1))) (fun h1=>?_) (fun h1=>?_)
 ·
  try simp only[zB] at h1
  exfalso;simp only[jb,Bool.and_eq_false_iff,decide_eq_false_iff_not] at h1;omega
 try simp only[zB] at h1
 refine jd 7 [0]<|js 33 (decide (x.head≥0)) (fun h2=>?_) (fun h2=>?_)
 ·
  have mz:=h2
  replace mz:=of_decide_eq_true mz
  refine jd 5 [1,0] ?_
  obtain⟨DL,xy⟩:=zG hv (x.head.toNat)
  refine Mw x.head dD 4 qM xy (by omega)<|zD 1<|jl 1 (qL _ _ xy)<|zD 4<|zJ 29 (DL.cls=(-1)) (fun h3=>?_) fun h3=>?_
  ·
   exfalso;have:=OW oF hHd (by omega) xy;omega
  refine jd 8 [0]<|ja ((jm.length:Int)-1) (by omega)<|jp (vs:=[zI x.st,zI 0,zI ((jm.length:Int)-1)]) [] [] (fun aA hs hZ=>gA)<|zD 3<|js 44 (!(jb x.st 0 ((jm.length:Int)-1))) (fun h4=>?_) (fun h4=>?_)
  ·
   try simp only[zB] at h4
   exfalso;simp only[jb,Bool.and_eq_false_iff,decide_eq_false_iff_not] at h4;omega
  try simp only[zB] at h4
  refine jd 25 [0]<|jp (vs:=[zI x.no,zI 1,zI 40]) [] [] (fun aA hs hZ=>gA)<|zD 4<|js 65 (!(jb x.no 1 40)) (fun h5=>?_) (fun h5=>?_)
  ·
   try simp only[zB] at h5
   exfalso;simp only[jb,Bool.and_eq_false_iff,decide_eq_false_iff_not] at h5;omega
  try simp only[zB] at h5
  refine jd 7 [0]<|js 74 x.bold (fun h6=>?_) (fun h6=>?_)
  ·
   exfalso;rw[hBd] at h6;cases h6
  refine zD 7<|aF q0 (zI 0) [] [] [] (Sub.refl _) ⟨_,_,rfl,rfl,rfl,rfl⟩
 have mz:=h2
 replace mz:=of_decide_eq_false mz
 refine jd 20 [0]<|ja ((jm.length:Int)-1) (by omega)<|jp (vs:=[zI x.st,zI 0,zI ((jm.length:Int)-1)]) [] [] (fun aA hs hZ=>gA)<|zD 3<|js 44 (!(jb x.st 0 ((jm.length:Int)-1))) (fun h7=>?_) (fun h7=>?_)
 ·
  try simp only[zB] at h7
  exfalso;simp only[jb,Bool.and_eq_false_iff,decide_eq_false_iff_not] at h7;omega
 try simp only[zB] at h7
 refine jd 25 [0]<|jp (vs:=[zI x.no,zI 1,zI 40]) [] [] (fun aA hs hZ=>gA)<|zD 4<|js 65 (!(jb x.no 1 40)) (fun h8=>?_) (fun h8=>?_)
 ·
  try simp only[zB] at h8
  exfalso;simp only[jb,Bool.and_eq_false_iff,decide_eq_false_iff_not] at h8;omega
 try simp only[zB] at h8
 refine jd 7 [0]<|js 74 x.bold (fun h9=>?_) (fun h9=>?_)
 ·
  exfalso;rw[hBd] at h9;cases h9
 refine zD 7<|aF q0 (zI 0) [] [] [] (Sub.refl _) ⟨_,_,rfl,rfl,rfl,rfl⟩
theorem gV.up{ro aL:Nat→Option Obj}(h:gV ro l K)(hs:Sub ro aL):gV aL l K:=by
 obtain⟨vS,vT,vc,vh,vr,vb,va,vf,fa,fc,hv,rfl,h1,h2,h3,h4,h5,h6,h7,h8⟩:=h
 exact⟨_,_,_,_,_,_,_,_,_,_,_,rfl,h1.up hs,h2.up hs,h3.up hs,h4,h5.up hs,h6.up hs,h7.up hs,h8.up hs⟩
theorem acp{ro:Nat→Option Obj}(hK:gV ro l K)(hO:oD K)(hp:bK ro vp 5 e8 K.before):dL zT 79 [.agg ⟨l⟩,vp,.bool true] ro (zI 0):=by
 have Vz:=hK
 obtain⟨vS,vT,vc,vh,vr,vb,va,vf,fa,fc,hv,rfl,hS,hT,rO,oF,hr,hb,ha,hf⟩:=hK
 obtain⟨jm,hs,fY⟩:=id hS
 obtain⟨jV,ht,fO⟩:=id hT
 obtain⟨hc,hh,F7⟩:=id rO
 obtain⟨mU,Uq,Uo,mj,rfl,Up,Nu,Nt⟩:=hs
 obtain⟨fg,AP,AN,eA,rfl,AO,tq,tk⟩:=ht
 obtain⟨eL,AR,AQ,eF,rfl,Da,yR,yQ⟩:=hc
 obtain⟨dR,uZ,uY,dD,rfl,xu,qM,qL⟩:=hh
 obtain⟨mr,J3,J2,mo,rfl,Nv,Iy,Ix⟩:=hr
 obtain⟨rV,Y0,YY,rE,rfl,YZ,W6,W5⟩:=hb
 obtain⟨rF,W9,W7,qN,rfl,W8,Us,Ur⟩:=ha
 obtain⟨n8,Hv,Hu,mG,rfl,Mu,Bj,Bi⟩:=hf
 have CE:=hO.rules
 have qE:=hO.before.1
 have ON:=hO.after.1
 have OM:=hO.facts.1
 have OL:=hO.ways.1
 have HM:=fY.len
 have D7:=fO.len
 have XW:=hO.sG.two
 have hl9:=hO.eO.nh
 have P5:∀(i:Nat) (p:eE),([]:List eE)[i]?=some p→cg ⟨ro,[]⟩ 0 (0+i*6) 6 (oz p):=fun _ _ h=>oS h
 obtain⟨P6,qpb,qpo,Iz,rfl,qpk,W0,WZ⟩:=hp
 refine bC au [] [] bn<|zD 2<|jn fun b3=>zD 9<|zJ 12 ((K.before.length:Int)>4) (fun h1=>?_) fun h1=>?_
 ·
  exfalso;omega
 refine zD 10<|eN [1,1,0,1,0,0] [] (fun(zz:Nat)=>[(2,.bool true),(3,zP b3),(13,.slice P6 K.before.length Iz),(14,zI (K.before.length:Int)),(15,zI (zz:Int))]) (fun(zz:Nat)=>[.b b3 (.cells ⟨[.slice mU jm.length mj,.slice fg jV.length eA,.slice fa 0 fc,.slice eL K.cs.length eF,.slice dR hv.length dD,.slice mr K.rules.length mo,.slice rV K.before.length rE,.slice rF K.after.length qN,zI K.gone,zI K.new,zI K.af,.slice n8 K.facts.length mG]⟩ 40 (0,0))]) (fun(zz:Nat)=>zz≤K.before.length) (fun(zz:Nat)=>K.before.length-zz) 0 (by omega) [0] ?_
 rintro k hI K1 bF rest
 refine zD 5<|zJ 16 ((k:Int) <(K.before.length:Int)) (fun h2=>?_) fun h2=>?_
 ·
  refine zD 6 ?_
  obtain⟨TO,FC⟩:=zG K.before k
  refine iW Iz 5 W0 FC<|jl 0 (WZ _ _ FC)<|jn fun b8=>jd 7 [0,1,0]<|jp (vs:=[.agg ⟨[.slice mU jm.length mj,.slice fg jV.length eA,.slice fa 0 fc,.slice eL K.cs.length eF,.slice dR hv.length dD,.slice mr K.rules.length mo,.slice rV K.before.length rE,.slice rF K.after.length qN,zI K.gone,zI K.new,zI K.af,.slice n8 K.facts.length mG]⟩,.agg ⟨[.string TO.name,zI TO.st,zI TO.no,zI TO.head,.bool TO.bold]⟩,.bool true]) [] [] (fun aA hs hZ=>(acn (x:=TO) (Vz.up hs) hO (hO.before.2 _ (List.mem_of_getElem? FC))))<|zD 10<|ja ((k:Int)+1) (by omega)<|zD 2<|bI bF (k+1) (by omega) (by omega) [1] (Sub.refl _)
 refine zD 7<|aF q0 (zI 0) [] [] [] (Sub.refl _) ⟨_,_,rfl,rfl,rfl,rfl⟩
theorem acr{ro:Nat→Option Obj}(hK:gV ro l K)(hO:oD K)(hp:bK ro vp 5 e8 K.after):dL zT 79 [.agg ⟨l⟩,vp,.bool false] ro (zI 0):=by
 have Vz:=hK
 obtain⟨vS,vT,vc,vh,vr,vb,va,vf,fa,fc,hv,rfl,hS,hT,rO,oF,hr,hb,ha,hf⟩:=hK
 obtain⟨jm,hs,fY⟩:=id hS
 obtain⟨jV,ht,fO⟩:=id hT
 obtain⟨hc,hh,F7⟩:=id rO
 obtain⟨mU,Uq,Uo,mj,rfl,Up,Nu,Nt⟩:=hs
 obtain⟨fg,AP,AN,eA,rfl,AO,tq,tk⟩:=ht
 obtain⟨eL,AR,AQ,eF,rfl,Da,yR,yQ⟩:=hc
 obtain⟨dR,uZ,uY,dD,rfl,xu,qM,qL⟩:=hh
 obtain⟨mr,J3,J2,mo,rfl,Nv,Iy,Ix⟩:=hr
 obtain⟨rV,Y0,YY,rE,rfl,YZ,W6,W5⟩:=hb
 obtain⟨rF,W9,W7,qN,rfl,W8,Us,Ur⟩:=ha
 obtain⟨n8,Hv,Hu,mG,rfl,Mu,Bj,Bi⟩:=hf
 have CE:=hO.rules
 have qE:=hO.before.1
 have ON:=hO.after.1
 have OM:=hO.facts.1
 have OL:=hO.ways.1
 have HM:=fY.len
 have D7:=fO.len
 have XW:=hO.sG.two
 have hl9:=hO.eO.nh
 have P5:∀(i:Nat) (p:eE),([]:List eE)[i]?=some p→cg ⟨ro,[]⟩ 0 (0+i*6) 6 (oz p):=fun _ _ h=>oS h
 obtain⟨P6,qpb,qpo,Iz,rfl,qpk,W0,WZ⟩:=hp
 refine bC au [] [] bn<|zD 2<|jn fun b3=>zD 9<|zJ 12 ((K.after.length:Int)>4) (fun h1=>?_) fun h1=>?_
 ·
  exfalso;omega
 refine zD 10<|eN [1,1,0,1,0,0] [] (fun(zz:Nat)=>[(2,.bool false),(3,zP b3),(13,.slice P6 K.after.length Iz),(14,zI (K.after.length:Int)),(15,zI (zz:Int))]) (fun(zz:Nat)=>[.b b3 (.cells ⟨[.slice mU jm.length mj,.slice fg jV.length eA,.slice fa 0 fc,.slice eL K.cs.length eF,.slice dR hv.length dD,.slice mr K.rules.length mo,.slice rV K.before.length rE,.slice rF K.after.length qN,zI K.gone,zI K.new,zI K.af,.slice n8 K.facts.length mG]⟩ 40 (0,0))]) (fun(zz:Nat)=>zz≤K.after.length) (fun(zz:Nat)=>K.after.length-zz) 0 (by omega) [0] ?_
 rintro k hI K1 bF rest
 refine zD 5<|zJ 16 ((k:Int) <(K.after.length:Int)) (fun h2=>?_) fun h2=>?_
 ·
  refine zD 6 ?_
  obtain⟨TO,FC⟩:=zG K.after k
  refine iW Iz 5 W0 FC<|jl 0 (WZ _ _ FC)<|jn fun b8=>jd 7 [0,1,0]<|jp (vs:=[.agg ⟨[.slice mU jm.length mj,.slice fg jV.length eA,.slice fa 0 fc,.slice eL K.cs.length eF,.slice dR hv.length dD,.slice mr K.rules.length mo,.slice rV K.before.length rE,.slice rF K.after.length qN,zI K.gone,zI K.new,zI K.af,.slice n8 K.facts.length mG]⟩,.agg ⟨[.string TO.name,zI TO.st,zI TO.no,zI TO.head,.bool TO.bold]⟩,.bool false]) [] [] (fun aA hs hZ=>(aco (x:=TO) (Vz.up hs) hO (hO.after.2 _ (List.mem_of_getElem? FC))))<|zD 10<|ja ((k:Int)+1) (by omega)<|zD 2<|bI bF (k+1) (by omega) (by omega) [1] (Sub.refl _)
 refine zD 7<|aF q0 (zI 0) [] [] [] (Sub.refl _) ⟨_,_,rfl,rfl,rfl,rfl⟩
theorem ap6{x y:iD}{ro:Nat→Option Obj}(hb:ro b=some (.cells ⟨[zI y.a,zI y.b,.bool y.same]⟩ 75 (0,0))):dL zT 120 [.agg ⟨[zI x.a,zI x.b,.bool x.same]⟩,zP b] ro (.bool (decide (x.a=y.a)&&decide (x.b=y.b))):=by
 refine bC au [] [] bn<|zD 2<|jn fun b2=>jd 7 [0]<|jl (b:=b) (off:=0) (m:=3) (vs:=[zI y.a,zI y.b,.bool y.same]) 0 ⟨_,_,_,.inl hb,rfl⟩<|zD 2<|jj 6 [(3,.bool false),(15,.bool ((decide (x.a=y.a))&&(decide (x.b=y.b))))] (fun gZ=>?_) (fun hj=>?_)
 rotate_left
 refine js 9 (decide (x.a=y.a)) (fun h1=>?_) (fun h1=>?_)
 ·
  have gD:=h1
  replace gD:=of_decide_eq_true gD
  refine jd 3 [0]<|jl (b:=b) (off:=0) (m:=3) (vs:=[zI y.a,zI y.b,.bool y.same]) 1 ⟨_,_,_,.inl hb,rfl⟩<|zD 2<|jw 15 (.bool ((decide (x.a=y.a))&&(decide (x.b=y.b)))) (w:= .bool (decide (x.b=y.b))) (by rw[h1]<;>rfl) ?_
  exact hj _ (by kernel_rfl) (by kernel_rfl)
 ·
  have gD:=h1
  replace gD:=of_decide_eq_false gD
  refine zD 6<|jw 15 (.bool ((decide (x.a=y.a))&&(decide (x.b=y.b)))) (w:= .bool false) (by rw[h1]<;>rfl) ?_
  exact hj _ (by kernel_rfl) (by kernel_rfl)
 refine zD 3<|aF q0 (.bool ((decide (x.a=y.a))&&(decide (x.b=y.b)))) [] [] [] (Sub.refl _) ⟨_,_,rfl,rfl,rfl,rfl⟩
def C3(x y:iD):Bool:=decide (y.a=x.a)&&decide (y.b=x.b)
theorem BT{p:α→Bool}:∀ {l:List α} {k:Nat},(∀y∈l,p y=false)→cQ p l k= -1
 | [],_,_=>rfl
 |x::l,k,h=>by simp only[cQ,h x (List.mem_cons_self ..),cond_false];exact BT fun y hy=>h y (List.mem_cons_of_mem _ hy)
theorem afr{x:iD}(h:fs.Pairwise fun x y=>¬(x.a=y.a∧x.b=y.b))(hx:fs[i]?=some x):cQ (C3 x) (fs.take i) 0 <0:=by
 rw[BT]
 ·omega
 intro y hy
 obtain⟨j,hj⟩:=List.getElem?_of_mem hy
 rw[List.getElem?_take] at hj
 split at hj
 ·rename_i yW
  have:=pU h yW hj hx
  simp only[C3,Bool.and_eq_false_iff,decide_eq_false_iff_not]
  by_cases h1:y.a=x.a
  ·exact .inr fun h2=>this ⟨h1,h2⟩
  exact .inl h1
 cases hj
theorem aqp{v:Value}{x:iD}{ro:Nat→Option Obj}(hf:bK ro v 3 wo fs)(hn:fs.length≤1000)(hb:ro b=some (.cells ⟨[zI x.a,zI x.b,.bool x.same]⟩ 75 (0,0))):dL zT 144 [v,.func (.func 120) ⟨[]⟩ ⟨[zP b]⟩] ro (zI (cQ (C3 x) fs 0)):=by
 obtain⟨n8,Hv,Hu,mG,rfl,Mu,Bj,Bi⟩:=hf
 refine bC au [] [] bn<|zD 12<|eN [1,0,1,0,0] [] (fun(zz:Nat)=>[(0,.slice n8 fs.length mG),(1,.func (.func 120) ⟨[]⟩ ⟨[zP b]⟩),(7,zI (fs.length:Int)),(8,zI (zz:Int))]) (fun(zz:Nat)=>[]) (fun(zz:Nat)=>zz≤fs.length∧cQ (C3 x) fs 0=cQ (C3 x) (fs.drop zz) zz) (fun(zz:Nat)=>fs.length-zz) 0 ⟨by omega,rfl⟩ [] ?_
 rintro k hI K1 bF rest
 refine zD 5<|zJ 9 ((k:Int) <(fs.length:Int)) (fun h1=>?_) fun h1=>?_
 ·
  refine zD 14 ?_
  obtain⟨fU,eI⟩:=zG fs k
  refine iW mG 3 Bj eI<|jl 0 (Bi _ _ eI)<|jp (vs:=[.agg ⟨[zI fU.a,zI fU.b,.bool fU.same]⟩,zP b]) [] [] (fun aA hs hZ=>(ap6 (hs _ _ hb)))<|zD 1<|js 16 (C3 x fU) (fun h2=>?_) (fun h2=>?_)
  ·
   refine zD 7<|aF q0 (zI (k:Int)) [] [] [] (Sub.refl _) ⟨_,_,rfl,rfl,by rw[hI.2,jN eI,show C3 x fU=true from (by assumption)];rfl,rfl⟩
  refine zD 3<|ja ((k:Int)+1) (by omega)<|zD 2<|bI bF (k+1) ⟨by omega,by rw[hI.2,jN eI,show C3 x fU=false from (by assumption)];rfl⟩ (by omega) [] (Sub.refl _)
 refine zD 7<|aF q0 (zI (-1)) [] [] [] (Sub.refl _) ⟨_,_,rfl,rfl,by rw[hI.2,qk (by omega)],rfl⟩
theorem ajw{v:Value}{x:iD}{ro:Nat→Option Obj}(hf:bK ro v 3 wo fs)(hn:fs.length≤1000)(hb:ro b=some (.cells ⟨[zI x.a,zI x.b,.bool x.same]⟩ 75 (0,0))):dL zT 119 [v,.func (.func 120) ⟨[]⟩ ⟨[zP b]⟩] ro (.bool (decide (cQ (C3 x) fs 0≥0))):=by
 obtain⟨n8,Hv,Hu,mG,rfl,Mu,Bj,Bi⟩:=hf
 refine bC au [] [] bn<|zD 8<|jp (vs:=[.slice n8 fs.length mG,.func (.func 120) ⟨[]⟩ ⟨[zP b]⟩]) [] [] (fun aA hs hZ=>aqp ((show bK _ _ _ _ _ from ⟨n8,Hv,Hu,mG,rfl,Mu,Bj,Bi⟩).up hs) (by first|omega| (simp only[List.length_set,List.length_append,List.length_cons,List.length_nil];omega)) (hs _ _ hb)) ?_
 refine zD 4<|aF q0 (.bool (decide ((cQ (C3 x) fs 0)≥0))) [] [] [] (Sub.refl _) ⟨_,_,rfl,rfl,rfl,rfl⟩
theorem ay6{x:iD}{ro:Nat→Option Obj}(hK:gV ro l K)(hO:oD K)(hp:bK ro vp 3 wo fs)(hn:fs.length≤1000)(hx:(0≤x.a∧x.a <K.before.length)∧(0≤x.b∧x.b <K.after.length))(hw:cQ (C3 x) fs 0 <0):dL zT 81 [.agg ⟨l⟩,vp,.agg ⟨[zI x.a,zI x.b,.bool x.same]⟩] ro (zI 0):=by
 obtain⟨vS,vT,vc,vh,vr,vb,va,vf,fa,fc,hv,rfl,hS,hT,rO,oF,hr,hb,ha,hf⟩:=hK
 obtain⟨jm,hs,fY⟩:=id hS
 obtain⟨jV,ht,fO⟩:=id hT
 obtain⟨hc,hh,F7⟩:=id rO
 obtain⟨mU,Uq,Uo,mj,rfl,Up,Nu,Nt⟩:=hs
 obtain⟨fg,AP,AN,eA,rfl,AO,tq,tk⟩:=ht
 obtain⟨eL,AR,AQ,eF,rfl,Da,yR,yQ⟩:=hc
 obtain⟨dR,uZ,uY,dD,rfl,xu,qM,qL⟩:=hh
 obtain⟨mr,J3,J2,mo,rfl,Nv,Iy,Ix⟩:=hr
 obtain⟨rV,Y0,YY,rE,rfl,YZ,W6,W5⟩:=hb
 obtain⟨rF,W9,W7,qN,rfl,W8,Us,Ur⟩:=ha
 obtain⟨n8,Hv,Hu,mG,rfl,Mu,Bj,Bi⟩:=hf
 have CE:=hO.rules
 have qE:=hO.before.1
 have ON:=hO.after.1
 have OM:=hO.facts.1
 have OL:=hO.ways.1
 have HM:=fY.len
 have D7:=fO.len
 have XW:=hO.sG.two
 have hl9:=hO.eO.nh
 have P5:∀(i:Nat) (p:eE),([]:List eE)[i]?=some p→cg ⟨ro,[]⟩ 0 (0+i*6) 6 (oz p):=fun _ _ h=>oS h
 obtain⟨P6,qpb,qpo,Iz,rfl,qpk,W0,WZ⟩:=hp
 refine bC au [] [] bn<|zD 2<|jn fun b3=>jn fun b5=>jd 12 [0,1]<|ja ((K.before.length:Int)-1) (by omega)<|jp (vs:=[zI x.a,zI 0,zI ((K.before.length:Int)-1)]) [] [] (fun aA hs hZ=>gA)<|zD 3<|js 7 (!(jb x.a 0 ((K.before.length:Int)-1))) (fun h1=>?_) (fun h1=>?_)
 ·
  try simp only[zB] at h1
  exfalso;simp only[jb,Bool.and_eq_false_iff,decide_eq_false_iff_not] at h1;omega
 try simp only[zB] at h1
 refine jd 7 [0,1]<|ja ((K.after.length:Int)-1) (by omega)<|jp (vs:=[zI x.b,zI 0,zI ((K.after.length:Int)-1)]) [] [] (fun aA hs hZ=>gA)<|zD 3<|js 7 (!(jb x.b 0 ((K.after.length:Int)-1))) (fun h2=>?_) (fun h2=>?_)
 ·
  try simp only[zB] at h2
  exfalso;simp only[jb,Bool.and_eq_false_iff,decide_eq_false_iff_not] at h2;omega
 try simp only[zB] at h2
 refine zD 5<|jp (vs:=[.slice P6 fs.length Iz,.func (.func 120) ⟨[]⟩ ⟨[zP b5]⟩]) [0] [(b5,.cells ⟨[zI x.a,zI x.b,.bool x.same]⟩ 75 (0,0))] (fun aA hs hZ=>ajw ((show bK _ _ _ _ _ from ⟨P6,qpb,qpo,Iz,rfl,qpk,W0,WZ⟩).up hs) (by first|omega| (simp only[List.length_set,List.length_append,List.length_cons,List.length_nil];omega)) hZ.head) ?_
 refine zD 2<|js 24 (decide (cQ (C3 x) fs 0≥0)) (fun h3=>?_) (fun h3=>?_)
 ·
  exfalso;have:=of_decide_eq_true h3;omega
 refine zD 7<|aF q0 (zI 0) [] [] [] (Sub.refl _) ⟨_,_,rfl,rfl,rfl,rfl⟩
theorem awV{w:ByteArray}{ro:Nat→Option Obj}(hs:1≤w.size∧w.size≤12)(hc:cH w (bs [99,108,97,115,115])=false)(hf:cH w (bs [102,105,110,105,115])=false)(hK:∀b∈w.data.toList,97≤b.toNat∧b.toNat≤122):dL zT 173 [.string w] ro (.bool true):=by
 refine bC au [] [] bn<|zD 11<|jj 4 [(0,.string w),(2,.bool false),(12,.bool ((decide ((w.size:Int)=0))||(decide ((w.size:Int)>12))))] (fun gZ=>?_) (fun hj=>?_)
 rotate_left
 refine js 8 (decide ((w.size:Int)=0)) (fun h1=>?_) (fun h1=>?_)
 ·
  have gD:=h1
  replace gD:=of_decide_eq_true gD
  refine zD 4<|jw 12 (.bool ((decide ((w.size:Int)=0))||(decide ((w.size:Int)>12)))) (w:= .bool true) (by rw[h1]<;>rfl) ?_
  exact hj _ (by kernel_rfl) (by kernel_rfl)
 ·
  have gD:=h1
  replace gD:=of_decide_eq_false gD
  refine zD 4<|jw 12 (.bool ((decide ((w.size:Int)=0))||(decide ((w.size:Int)>12)))) (w:= .bool (decide ((w.size:Int)>12))) (by rw[h1]<;>rfl) ?_
  exact hj _ (by kernel_rfl) (by kernel_rfl)
 refine zD 1<|jj 3 [(0,.string w),(2,.bool false),(16,.bool (((decide ((w.size:Int)=0))||(decide ((w.size:Int)>12)))||(cH w (bs [99,108,97,115,115]))))] (fun gZ=>?_) (fun hj=>?_)
 rotate_left
 refine js 13 ((decide ((w.size:Int)=0))||(decide ((w.size:Int)>12))) (fun h2=>?_) (fun h2=>?_)
 ·
  have mz:=h2
  try simp only[zB] at mz
  refine zD 3<|jw 16 (.bool (((decide ((w.size:Int)=0))||(decide ((w.size:Int)>12)))||(cH w (bs [99,108,97,115,115])))) (w:= .bool true) (by rw[h2]<;>rfl) ?_
  exact hj _ (by kernel_rfl) (by kernel_rfl)
 ·
  have mz:=h2
  try simp only[zB] at mz
  refine zD 3<|jw 16 (.bool (((decide ((w.size:Int)=0))||(decide ((w.size:Int)>12)))||(cH w (bs [99,108,97,115,115])))) (w:= .bool (cH w (bs [99,108,97,115,115]))) (by rw[h2]<;>rfl) ?_
  exact hj _ (by kernel_rfl) (by kernel_rfl)
 refine zD 1<|jj 3 [(0,.string w),(2,.bool false),(20,.bool ((((decide ((w.size:Int)=0))||(decide ((w.size:Int)>12)))||(cH w (bs [99,108,97,115,115])))||(cH w (bs [102,105,110,105,115]))))] (fun gZ=>?_) (fun hj=>?_)
 rotate_left
 refine js 17 (((decide ((w.size:Int)=0))||(decide ((w.size:Int)>12)))||(cH w (bs [99,108,97,115,115]))) (fun h3=>?_) (fun h3=>?_)
 ·
  have vP:=h3
  try simp only[zB] at vP
  refine zD 3<|jw 20 (.bool ((((decide ((w.size:Int)=0))||(decide ((w.size:Int)>12)))||(cH w (bs [99,108,97,115,115])))||(cH w (bs [102,105,110,105,115])))) (w:= .bool true) (by rw[h3]<;>rfl) ?_
  exact hj _ (by kernel_rfl) (by kernel_rfl)
 ·
  have vP:=h3
  try simp only[zB] at vP
  refine zD 3<|jw 20 (.bool ((((decide ((w.size:Int)=0))||(decide ((w.size:Int)>12)))||(cH w (bs [99,108,97,115,115])))||(cH w (bs [102,105,110,105,115])))) (w:= .bool (cH w (bs [102,105,110,105,115]))) (by rw[h3]<;>rfl) ?_
  exact hj _ (by kernel_rfl) (by kernel_rfl)
 refine zD 1<|js 20 ((((decide ((w.size:Int)=0))||(decide ((w.size:Int)>12)))||(cH w (bs [99,108,97,115,115])))||(cH w (bs [102,105,110,105,115]))) (fun h4=>?_) (fun h4=>?_)
 ·
  try simp only[zB] at h4
  exfalso;simp only[hc,hf,Bool.or_false,Bool.or_eq_true,decide_eq_true_eq,Bool.false_eq_true,or_false] at h4;omega
 try simp only[zB] at h4
 refine zD 6<|jn fun r22=>zD 2<|eN [1,1,0,1,0,0] [] (fun(zz:Nat)=>[(22,zP r22)]) (fun(zz:Nat)=>[.b r22 (.stringIter w zz)]) (fun(zz:Nat)=>zz≤w.data.toList.length) (fun(zz:Nat)=>w.data.toList.length-zz) 0 (by omega) [0] ?_
 rintro p hI K1 bF rest
 refine zD 2 ?_
 cases XU:w.data.toList[p]? with
 |some uW=>
  refine jnA r22 0 XU (by have:=hK _ (List.mem_of_getElem? XU);omega) ?_
  refine zD 7 ?_
  have Vq:=hK _ (List.mem_of_getElem? XU)
  refine zD 9<|jj 3 [(22,zP r22),(31,.bool ((decide ((uW.toNat:Int) <97))||(decide ((uW.toNat:Int)>122))))] (fun gZ=>?_) (fun hj=>?_)
  rotate_left
  refine js 28 (decide ((uW.toNat:Int) <97)) (fun h5=>?_) (fun h5=>?_)
  ·
   have Lg:=h5
   replace Lg:=of_decide_eq_true Lg
   refine zD 3<|jw 31 (.bool ((decide ((uW.toNat:Int) <97))||(decide ((uW.toNat:Int)>122)))) (w:= .bool true) (by rw[h5]<;>rfl) ?_
   exact hj _ (by kernel_rfl) (by kernel_rfl)
  ·
   have Lg:=h5
   replace Lg:=of_decide_eq_false Lg
   refine zD 3<|jw 31 (.bool ((decide ((uW.toNat:Int) <97))||(decide ((uW.toNat:Int)>122)))) (w:= .bool (decide ((uW.toNat:Int)>122))) (by rw[h5]<;>rfl) ?_
   exact hj _ (by kernel_rfl) (by kernel_rfl)
  refine zD 1<|js 31 ((decide ((uW.toNat:Int) <97))||(decide ((uW.toNat:Int)>122))) (fun h6=>?_) (fun h6=>?_)
  ·
   try simp only[zB] at h6
   exfalso;omega
  try simp only[zB] at h6
  refine zD 2<|bI bF (p+1) (by have:=(List.getElem?_eq_some_iff.1 XU).1;omega) (by have:=(List.getElem?_eq_some_iff.1 XU).1;omega) [0] (Sub.refl _)
 |none=>
  refine jnZ r22 0 XU<|zD 10<|aF q0 (.bool true) [] [] [] (Sub.refl _) ⟨_,_,rfl,rfl,rfl,rfl⟩
def Dx(x y:bG):Bool:=cH y.name x.name
theorem aoH{x y:bG}{ro:Nat→Option Obj}(hb:ro b=some (.cells ⟨[.string x.name,zI x.under]⟩ 114 (0,0))):dL zT 175 [.agg ⟨[.string y.name,zI y.under]⟩,zP b] ro (.bool (cH y.name x.name)):=by
 refine bC au [] [] bn<|zD 2<|jn fun b2=>jd 7 [0]<|jl (b:=b) (off:=0) (m:=2) (vs:=[.string x.name,zI x.under]) 0 ⟨_,_,_,.inl hb,rfl⟩<|zD 4<|aF q0 (.bool (cH y.name x.name)) [] [] [] (Sub.refl _) ⟨_,_,rfl,rfl,rfl,rfl⟩
theorem aoG{v:Value}{fs:List bG}{x:bG}{ro:Nat→Option Obj}(hf:bK ro v 2 oP fs)(hn:fs.length≤1000)(hb:ro b=some (.cells ⟨[.string x.name,zI x.under]⟩ 114 (0,0))):dL zT 202 [v,.func (.func 175) ⟨[]⟩ ⟨[zP b]⟩] ro (zI (cQ (Dx x) fs 0)):=by
 obtain⟨n8,Hv,Hu,mG,rfl,Mu,Bj,Bi⟩:=hf
 refine bC au [] [] bn<|zD 12<|eN [1,0,1,0,0] [] (fun(zz:Nat)=>[(0,.slice n8 fs.length mG),(1,.func (.func 175) ⟨[]⟩ ⟨[zP b]⟩),(7,zI (fs.length:Int)),(8,zI (zz:Int))]) (fun(zz:Nat)=>[]) (fun(zz:Nat)=>zz≤fs.length∧cQ (Dx x) fs 0=cQ (Dx x) (fs.drop zz) zz) (fun(zz:Nat)=>fs.length-zz) 0 ⟨by omega,rfl⟩ [] ?_
 rintro k hI K1 bF rest
 refine zD 5<|zJ 9 ((k:Int) <(fs.length:Int)) (fun h1=>?_) fun h1=>?_
 ·
  refine zD 14 ?_
  obtain⟨fU,eI⟩:=zG fs k
  refine iW mG 2 Bj eI<|jl 0 (Bi _ _ eI)<|jp (vs:=[.agg ⟨[.string fU.name,zI fU.under]⟩,zP b]) [] [] (fun aA hs hZ=>(aoH (y:=fU) (hs _ _ hb)))<|zD 1<|js 16 (Dx x fU) (fun h2=>?_) (fun h2=>?_)
  ·
   refine zD 7<|aF q0 (zI (k:Int)) [] [] [] (Sub.refl _) ⟨_,_,rfl,rfl,by rw[hI.2,jN eI,show Dx x fU=true from (by assumption)];rfl,rfl⟩
  refine zD 3<|ja ((k:Int)+1) (by omega)<|zD 2<|bI bF (k+1) ⟨by omega,by rw[hI.2,jN eI,show Dx x fU=false from (by assumption)];rfl⟩ (by omega) [] (Sub.refl _)
 refine zD 7<|aF q0 (zI (-1)) [] [] [] (Sub.refl _) ⟨_,_,rfl,rfl,by rw[hI.2,qk (by omega)],rfl⟩
theorem aia{v:Value}{fs:List bG}{x:bG}{ro:Nat→Option Obj}(hf:bK ro v 2 oP fs)(hn:fs.length≤1000)(hb:ro b=some (.cells ⟨[.string x.name,zI x.under]⟩ 114 (0,0))):dL zT 174 [v,.func (.func 175) ⟨[]⟩ ⟨[zP b]⟩] ro (.bool (decide (cQ (Dx x) fs 0≥0))):=by
 obtain⟨n8,Hv,Hu,mG,rfl,Mu,Bj,Bi⟩:=hf
 refine bC au [] [] bn<|zD 8<|jp (vs:=[.slice n8 fs.length mG,.func (.func 175) ⟨[]⟩ ⟨[zP b]⟩]) [] [] (fun aA hs hZ=>aoG ((show bK _ _ _ _ _ from ⟨n8,Hv,Hu,mG,rfl,Mu,Bj,Bi⟩).up hs) (by first|omega| (simp only[List.length_set,List.length_append,List.length_cons,List.length_nil];omega)) (hs _ _ hb)) ?_
 refine zD 4<|aF q0 (.bool (decide ((cQ (Dx x) fs 0)≥0))) [] [] [] (Sub.refl _) ⟨_,_,rfl,rfl,rfl,rfl⟩
def Zg(x y:bp):Bool:=cH y.word x.word
theorem aw3{x y:bp}{ro:Nat→Option Obj}(hb:ro b=some (.cells ⟨[.string x.word,zI x.cls,zI x.n5,x.eg]⟩ 117 (0,0))):dL zT 178 [.agg ⟨[.string y.word,zI y.cls,zI y.n5,y.eg]⟩,zP b] ro (.bool (cH y.word x.word)):=by
 refine bC au [] [] bn<|zD 2<|jn fun b2=>jd 7 [0]<|jl (b:=b) (off:=0) (m:=4) (vs:=[.string x.word,zI x.cls,zI x.n5,x.eg]) 0 ⟨_,_,_,.inl hb,rfl⟩<|zD 4<|aF q0 (.bool (cH y.word x.word)) [] [] [] (Sub.refl _) ⟨_,_,rfl,rfl,rfl,rfl⟩
theorem aw2{v:Value}{fs:List bp}{x:bp}{ro:Nat→Option Obj}(hf:bK ro v 4 me fs)(hn:fs.length≤1000)(hb:ro b=some (.cells ⟨[.string x.word,zI x.cls,zI x.n5,x.eg]⟩ 117 (0,0))):dL zT 203 [v,.func (.func 178) ⟨[]⟩ ⟨[zP b]⟩] ro (zI (cQ (Zg x) fs 0)):=by
 obtain⟨n8,Hv,Hu,mG,rfl,Mu,Bj,Bi⟩:=hf
 refine bC au [] [] bn<|zD 12<|eN [1,0,1,0,0] [] (fun(zz:Nat)=>[(0,.slice n8 fs.length mG),(1,.func (.func 178) ⟨[]⟩ ⟨[zP b]⟩),(7,zI (fs.length:Int)),(8,zI (zz:Int))]) (fun(zz:Nat)=>[]) (fun(zz:Nat)=>zz≤fs.length∧cQ (Zg x) fs 0=cQ (Zg x) (fs.drop zz) zz) (fun(zz:Nat)=>fs.length-zz) 0 ⟨by omega,rfl⟩ [] ?_
 rintro k hI K1 bF rest
 refine zD 5<|zJ 9 ((k:Int) <(fs.length:Int)) (fun h1=>?_) fun h1=>?_
 ·
  refine zD 14 ?_
  obtain⟨fU,eI⟩:=zG fs k
  refine iW mG 4 Bj eI<|jl 0 (Bi _ _ eI)<|jp (vs:=[.agg ⟨[.string fU.word,zI fU.cls,zI fU.n5,fU.eg]⟩,zP b]) [] [] (fun aA hs hZ=>(aw3 (y:=fU) (hs _ _ hb)))<|zD 1<|js 16 (Zg x fU) (fun h2=>?_) (fun h2=>?_)
  ·
   refine zD 7<|aF q0 (zI (k:Int)) [] [] [] (Sub.refl _) ⟨_,_,rfl,rfl,by rw[hI.2,jN eI,show Zg x fU=true from (by assumption)];rfl,rfl⟩
  refine zD 3<|ja ((k:Int)+1) (by omega)<|zD 2<|bI bF (k+1) ⟨by omega,by rw[hI.2,jN eI,show Zg x fU=false from (by assumption)];rfl⟩ (by omega) [] (Sub.refl _)
 refine zD 7<|aF q0 (zI (-1)) [] [] [] (Sub.refl _) ⟨_,_,rfl,rfl,by rw[hI.2,qk (by omega)],rfl⟩
theorem aoD{v:Value}{fs:List bp}{x:bp}{ro:Nat→Option Obj}(hf:bK ro v 4 me fs)(hn:fs.length≤1000)(hb:ro b=some (.cells ⟨[.string x.word,zI x.cls,zI x.n5,x.eg]⟩ 117 (0,0))):dL zT 177 [v,.func (.func 178) ⟨[]⟩ ⟨[zP b]⟩] ro (.bool (decide (cQ (Zg x) fs 0≥0))):=by
 obtain⟨n8,Hv,Hu,mG,rfl,Mu,Bj,Bi⟩:=hf
 refine bC au [] [] bn<|zD 8<|jp (vs:=[.slice n8 fs.length mG,.func (.func 178) ⟨[]⟩ ⟨[zP b]⟩]) [] [] (fun aA hs hZ=>aw2 ((show bK _ _ _ _ _ from ⟨n8,Hv,Hu,mG,rfl,Mu,Bj,Bi⟩).up hs) (by first|omega| (simp only[List.length_set,List.length_append,List.length_cons,List.length_nil];omega)) (hs _ _ hb)) ?_
 refine zD 4<|aF q0 (.bool (decide ((cQ (Zg x) fs 0)≥0))) [] [] [] (Sub.refl _) ⟨_,_,rfl,rfl,rfl,rfl⟩
end Go.L
