/- Part 12 of the proof: a program logic, contracts, a theorem on goroutines. -/
import Derived.Test.YtjnblekiagbmkaaGreatDoorL11
set_option maxRecDepth 100000
set_option linter.all false
namespace Go.L
open Go Go.Conc Go.Proofs
variable {hd:List bY} {aL:Nat→Option Obj} {k i nc nh:Nat} {al xs:List Int} {α β:Type} {cs:List bG} {vd vc vh:Value}
def lG(i:Nat)(k:Nat)(al:List Int):Prop:=al.length≤k∧al.Pairwise (· < ·)∧∀y∈al,0≤y∧y <k∧y≠i
theorem pU{l:List α}{R:α→α→Prop}(h:l.Pairwise R){j:Nat}{a b:α}(G9:i <j)(ha:l[i]?=some a) (hb:l[j]?=some b):R a b:=by
 obtain⟨h1,rfl⟩:=List.getElem?_eq_some_iff.1 ha
 obtain⟨h2,rfl⟩:=List.getElem?_eq_some_iff.1 hb
 exact List.pairwise_iff_getElem.1 h i j h1 h2 G9
theorem aa5{l:List α}{f:α→β}{R:β→β→Prop}(h:∀(i j:Nat) (a b:α),i <j→l[i]?=some a→l[j]?=some b→R (f a) (f b)):(l.map f).Pairwise R:=by
 rw[List.pairwise_map,List.pairwise_iff_getElem]
 exact fun i j hi hj G9=>h i j _ _ G9 (List.getElem?_eq_getElem hi) (List.getElem?_eq_getElem hj)
theorem QK{a b:ByteArray}(h:cH a b=false):cH b a=false:=by
 cases h2:cH b a with
 |false=>rfl
 |true=>rw[A7.1 h2,A7.2 rfl] at h;cases h
theorem Wu{Ki kG:List Int}{hv:List bp}{Z:Cells}(hc:nP Ki cs)(hp:Ki.Perm (dw nu.length))(hn:0 <cs.length∧cs.length≤3)(hh:mS kG cs.length hv hd Z i)(hi:i=kG.length)(h4:kG.length≤4)(hs:kG.Pairwise (· < ·))(hm:∀x∈kG,0≤x∧x <oY.length):wH cs hd:=by
 obtain⟨g1,g2,g3,g4,_⟩:=hh
 have iX:∀y∈Ki,0≤y∧y <nu.length:=fun y hy=>pS (hp.mem_iff.1 hy)
 have ma:Ki.Pairwise (· ≠·):=(hp.pairwise_iff (fun h=>Ne.symm h)).2 ((rz _).imp fun h=>by omega)
 refine⟨hn,by omega,fun k c hk=>?_,aa5 fun a b x y Eb hx hy=>?_,fun k x hk=>?_,aa5 fun a b x y Eb hx hy=>?_⟩
 ·obtain⟨⟨y,h1,h2⟩,h3⟩:=hc k c hk
  exact⟨List.mem_of_getElem? h2,h3⟩
 ·obtain⟨⟨p,p1,p2⟩,_⟩:=hc a x hx
  obtain⟨⟨q,q1,q2⟩,_⟩:=hc b y hy
  have Vi:=pU ma Eb p1 q1
  have hp0:=iX p (List.mem_of_getElem? p1)
  have Vh:=iX q (List.mem_of_getElem? q1)
  rcases Nat.lt_trichotomy p.toNat q.toNat with h|h|h
  ·exact pU Cm h p2 q2
  ·exact absurd (show p=q by omega) Vi
  exact QK (pU Cm h q2 p2)
 ·obtain⟨⟨w,h1,h2⟩,h3⟩:=g4 k x hk
  have:hd.length=kG.length:=by omega
  rw[this]
  exact⟨List.mem_of_getElem? h2,h3⟩
 obtain⟨⟨p,p1,p2⟩,_⟩:=g4 a x hx
 obtain⟨⟨q,q1,q2⟩,_⟩:=g4 b y hy
 have Vi:=pU hs Eb p1 q1
 have hp0:=hm p (List.mem_of_getElem? p1)
 exact pU Tg (show p.toNat <q.toNat by omega) p2 q2
theorem lG.step(h:lG i k al):lG i (k+1) al:=⟨by have:=h.1;omega,h.2.1,fun y hy=>by have:=h.2.2 y hy;omega⟩
theorem lG.snoc(h:lG i k al)(hk:(k:Int)≠i):lG i (k+1) (al++[(k:Int)]):=by
 refine⟨by have:=h.1;simp;omega,List.pairwise_append.2 ⟨h.2.1,List.pairwise_singleton _ _,fun a ha b hb=>?_⟩,qt (fun y hy=>by have:=h.2.2 y hy;omega) (by omega)⟩
 rw[List.mem_singleton] at hb;subst hb
 exact(h.2.2 a ha).2.1
theorem adX{r:Int}{w:ByteArray}(h:0≤r∧r <nh∧r≠i)(h4:0 <nc):gY nc nh i ⟨w,-1,r,[]⟩:=
 have h1:=h.1
 have h2:=h.2.1
 have h3:=h.2.2
 ⟨⟨by simp,by simp<;>omega⟩,⟨by simp<;>omega,by simpa using h2,by simpa using h3⟩,⟨by simp,by simp,by simp⟩,fun _=>⟨rfl,rfl⟩,fun h=>by simp at h;omega⟩
theorem I7{c:Int}{w:ByteArray}(hc:0≤c∧c <nc)(h:lG i k al)(hk:k≤nh)(hi:i <nh):gY nc nh i ⟨w,c,-1,al⟩:=
 ⟨⟨by simp<;>omega,by simpa using hc.2⟩,⟨by simp,by simp<;>omega,by simp<;>omega⟩,⟨by have:=h.1;simp<;>omega,h.2.1,fun y hy=>by have:=h.2.2 y hy;simp<;>omega⟩,fun hh=>by simp at hh,fun _ hh=>by simp at hh;omega⟩
theorem adY{w:ByteArray}(h:lG i k al)(hk:k≤nh)(hi:i <nh)(ee:(al.length:Int)>0):gY nc nh i ⟨w,-1,-1,al⟩:=
 ⟨⟨by simp,by simp<;>omega⟩,⟨by simp,by simp<;>omega,by simp<;>omega⟩,⟨by have:=h.1;simp<;>omega,h.2.1,fun y hy=>by have:=h.2.2 y hy;simp<;>omega⟩,fun hh=>by simp at hh,fun _ _ hh=>by simp at hh;subst hh;simp at ee⟩
set_option maxHeartbeats 1000000 in
theorem akT {d:Nat} {X:Cells} {ro:Nat→Option Obj} (hN:Dn ro vd xs) (hD:bD vd xs d X):eG zT 11 [zP d,zI 3,zI 4] ro X (fun r Y=>∃(cs:List bG) (hv:List bp) (hd:List bY) (vc vh:Value) (Z X':Cells),r= .agg ⟨[vc,vh]⟩∧wH cs hd∧dK dC hv hd∧(∀aL,Knows aL Z→jT aL vc vh cs hv hd)∧Y=Z++X'∧bD vd xs d X'):=by
 refine bC au [.l X] [] bn<|zD 2<|jn fun b6=>zD 3<|jn fun b7=>zD 4<|jc [] (acm) ?_
 rintro v16 L16 ⟨_,aOT,rfl⟩
 refine DY aOT<|jc (vs:=[zP d,zI (nu.length:Int)]) [3] (afV hN hD (by first|omega|decide)) ?_
 rintro v18 _ ⟨Ki,L18,X18,XS,Oz,rfl,Lf⟩
 refine jg 0 [.l L18,.l X18]<|zD 7<|jc (vs:=[zP d,zI 1,zI 3]) [1] (uF hN Lf (by omega) (by omega)) ?_
 rintro _ X21 ⟨w21,rfl,ajP,p7,aRU⟩
 refine zD 3<|qB<|eN [1,1,1,0,1,0,0] [] (fun(zz:Int×Value×Cells×(List bG)×Cells)=>[(0,zP d),(2,zI 4),(6,zP b6),(7,zP b7),(8,v18),(9,zI zz.1)]) (fun(zz:Int×Value×Cells×(List bG)×Cells)=>[.l zz.2.2.1,.l zz.2.2.2.2,.b b7 (.cells ⟨[zz.2.1,zS]⟩ 35 (0,0)),.l L18,.b b6 (.cells ⟨[zS,zS]⟩ 35 (0,0))]) (fun(zz:Int×Value×Cells×(List bG)×Cells)=>(0≤zz.1∧zz.2.2.2.1.length+zz.1=w21)∧az zz.2.1 2 114 oP zz.2.2.2.1 zz.2.2.1∧nP Ki zz.2.2.2.1∧bD vd xs d zz.2.2.2.2) (fun(zz:Int×Value×Cells×(List bG)×Cells)=>zz.1.toNat) (⟨w21,zS,[],[],X21⟩) ⟨by simp only[List.length_nil];omega,az.nil _ _ _,(fun i c h=>by simp at h),aRU⟩ [0,1,4,2,5] ?_
 rintro⟨j,vC,LC,cs,X⟩ hI K1 bF rest
 dsimp only at hI
 have hlen:Ki.length=9:=by rw[Oz.length_eq,lI];rfl
 refine zD 6<|zJ 23 (j>0) (fun h1=>?_) fun h1=>?_
 ·
  refine jd 10 [2,2]<|DY hI.2.1 ?_
  obtain⟨x33,acL⟩:=zG Ki (cs.length)
  refine Y3 1 XS acL fun b33 aQL=>oV 0 [3] L18 (fun s _ hZ=>cv XS aQL hZ acL)<|jd 3 [2]<|DY hI.2.1<|ja ((cs.length:Int)-1) (by omega)<|aH 2 fun AY A6 Ad=>jc [] (acm) ?_
  rintro v28 L28 ⟨_,az5,rfl⟩
  refine bw Ad [1,2,3,4,5] ?_
  obtain⟨x35,RV⟩:=zG nu (x33.toNat) (by have:=pS (Oz.mem_iff.1 (List.mem_of_getElem? acL));omega)
  refine p5 x33 1 az5 RV (Int.toNat_of_nonneg (show 0≤x33∧x33 <((nu).length:Int) from (pS (Oz.mem_iff.1 (List.mem_of_getElem? acL)))).1).symm fun b35 aQJ=>oV 0 [0] L28 (fun s _ hZ=>cv az5 aQJ hZ RV)<|aH 16 fun rZ si qG=>jc (vs:=[zP d,zI (-1),zI ((cs.length:Int)-1)]) [2] (uF hN hI.2.2.2 (by omega) (by omega)) ?_
  rintro _ X42 ⟨w42,rfl,bb6,RU,aRO⟩
  refine iM qG [[1],[3],[4],[3],[3]]<|zD 1<|aH 18 fun tw tz rP=>jn fun c8=>bw rP [1,2,3,4,5,6]<|aH 19 fun AX A5 BO=>k8 (sz:=2) (ps:=cs) (qs:=[(⟨x35,w42⟩:bG)]) (enc:=oP) (w:= .slice (some ⟨c8,0,none⟩) 1 1) [3] [0] [(c8,.cells ⟨([(⟨x35,w42⟩:bG)].map oP).flatten⟩ 114 (0,0))] (hI.2.1) (fun s _ hZ=>cb [(⟨x35,w42⟩:bG)] (hZ _ (.head _)) (by intro p hp;rfl)) (fun p _=>ar rfl) (by simp<;>omega) (fun v45 L45 adi=>?_)
  obtain⟨aoj,an9,asf⟩:=adi.form
  subst asf
  refine iM BO [[3],[4],[5],[4]]<|zD 1<|aH 21 fun Zq aab X9=>jd 1 [4]<|cM X9<|zD 3<|ja (j-1) (by omega)<|zD 2<|bI bF (⟨j-1,(.slice aoj ((cs++[(⟨x35,w42⟩:bG)])).length an9),L45,(cs++[(⟨x35,w42⟩:bG)]),X42⟩) ⟨by simp only[List.length_append,List.length_cons,List.length_nil];omega,adi,nP.snoc hI.2.2.1 acL RV (by omega),aRO⟩ (by omega) [0,2,4,5,6] (Sub.refl _)
 refine zD 5<|jc [] (acB) ?_
 rintro v48 L48 ⟨_,aOK,rfl⟩
 refine DY aOK<|zD 2<|jc (vs:=[zP d,zI 4]) [2] (Dw hN hI.2.2.2 (by omega)) ?_
 rintro _ X52 ⟨w52,rfl,bb5,BG,aRN⟩
 refine jc (vs:=[zP d,zI (oY.length:Int),zI w52]) [0] (aED hN aRN (by first|omega|decide)) ?_
 rintro v53 _ ⟨kG,L53,X53,arn,bcX,vK,adH,rfl,aku⟩
 refine jg 0 [.l L53,.l X53]<|zD 5<|DY arn<|zD 8<|qB<|qB<|eN [1,1,1,1,1,1,0,1,0,0] [] (fun(zz:Nat×Value×Cells×(List bp)×(List bY)×Cells×Cells)=>[(0,zP d),(6,zP b6),(7,zP b7),(10,v53),(11,zI (kG.length:Int)),(12,zI (zz.1:Int))]) (fun(zz:Nat×Value×Cells×(List bp)×(List bY)×Cells×Cells)=>[.l zz.2.2.1,.l zz.2.2.2.2.2.1,.l zz.2.2.2.2.2.2,.l LC,.b b7 (.cells ⟨[vC,zz.2.1]⟩ 35 (0,0)),.l L53,.b b6 (.cells ⟨[zS,zS]⟩ 35 (0,0))]) (fun(zz:Nat×Value×Cells×(List bp)×(List bY)×Cells×Cells)=>zz.1≤kG.length∧az zz.2.1 4 117 me zz.2.2.2.1 zz.2.2.1∧mS kG cs.length zz.2.2.2.1 zz.2.2.2.2.1 zz.2.2.2.2.2.1 zz.1∧bD vd xs d zz.2.2.2.2.2.2) (fun(zz:Nat×Value×Cells×(List bp)×(List bY)×Cells×Cells)=>kG.length-zz.1) (⟨0,zS,[],[],[],[],X53⟩) ⟨by omega,az.nil _ _ _,⟨fun _ _=> .nil,rfl,rfl,(fun k x h=>by simp at h),.nil⟩,aku⟩ [1,0,3,5,6,2,8] ?_
 rintro⟨i,vH,LH,hv,hd,Z,X⟩ hJ K7 hK7 rest
 dsimp only at hJ
 have hll:=hJ.2.2.1.2.2.1
 have Qb:kG.length≤4:=by omega
 have iO:cs.length≤3:=by omega
 refine zD 7<|zJ 58 ((i:Int) <(kG.length:Int)) (fun h7=>?_) fun h7=>?_
 ·
  refine zD 5<|HD [1,1,1,1,1,1,0,1,0,0,1,0,0,1] [K7] (fun(zz:Nat×Int×Int×ByteArray×Cells)=>[(0,zP d),(6,zP b6),(7,zP b7),(10,v53),(11,zI (kG.length:Int)),(12,zI (i:Int)),(13,zP zz.1)]) (fun(zz:Nat×Int×Int×ByteArray×Cells)=>[.b zz.1 (.cells ⟨[.string zz.2.2.2.1,zI zz.2.1,zI (-1),zS]⟩ 117 (0,0)),.l LH,.l Z,.l zz.2.2.2.2,.l LC,.b b7 (.cells ⟨[vC,vH]⟩ 35 (0,0)),.l L53,.b b6 (.cells ⟨[zS,zS]⟩ 35 (0,0))]) (fun(zz:Nat×Int×Int×ByteArray×Cells)=>kG[i]?=some zz.2.2.1∧oY[zz.2.2.1.toNat]?=some zz.2.2.2.1∧(0≤zz.2.1∧zz.2.1 <cs.length)∧bD vd xs d zz.2.2.2.2) ?_ (fun K8 hK8=>?_)
  ·
   rintro⟨yZ,w,y,x,X⟩ Ql rest
   dsimp only at Ql
   refine zD 2<|HD [1,1,1,1,1,1,0,1,0,0,1,0,0,1,0,1] [K7] (fun(zz:Bool×Cells)=>[(0,zP d),(6,zP b6),(7,zP b7),(10,v53),(11,zI (kG.length:Int)),(12,zI (i:Int)),(13,zP yZ),(80,.bool zz.1)]) (fun(zz:Bool×Cells)=>[.b yZ (.cells ⟨[.string x,zI w,zI (-1),zS]⟩ 117 (0,0)),.l LH,.l Z,.l zz.2,.l LC,.b b7 (.cells ⟨[vC,vH]⟩ 35 (0,0)),.l L53,.b b6 (.cells ⟨[zS,zS]⟩ 35 (0,0))]) (fun(zz:Bool×Cells)=>(zz.1=true→1 <kG.length)∧bD vd xs d zz.2) ?_ (fun K9 hK9=>?_)
   ·
    rintro⟨q,X⟩ hJ3 rest
    dsimp only at hJ3
    refine js 80 q (fun h8=>?_) (fun h8=>?_)
    ·
     subst h8
     have hgt:=hJ3.1 rfl
     refine zD 4<|ja ((i:Int)+1) (by omega)<|zD 2<|ja ((kG.length:Int)-2) (by omega)<|zD 2<|aH 5 fun H5 Ia vN=>jc (vs:=[zP d,zI ((kG.length:Int)-2)]) [3] (Dw hN hJ3.2 (by omega)) ?_
     rintro _ X86 ⟨w86,rfl,bb3,bbV,aRH⟩
     refine iM vN []<|ja (((i:Int)+1)+w86) (by omega)<|jrm (k:= .i64) (a:=(((i:Int)+1)+w86)) (b:=(kG.length:Int)) 3 (by omega)<|aH 10 fun MH M0 F6=>jd 1 [1]<|iM F6 []<|zD 1<|aH 12 fun TK TY F5=>jd 1 [1]<|cM F5<|jd 6 [5,1]<|jn fun b95=>k8 (sz:=4) (ps:=hv) (qs:=[(⟨x,(-1),(Int.tmod (((i:Int)+1)+w86) (kG.length:Int)),zS⟩:bp)]) (enc:=me) (w:= .slice (some ⟨b95,0,none⟩) 1 1) [3] [0] [(b95,.cells ⟨([(⟨x,(-1),(Int.tmod (((i:Int)+1)+w86) (kG.length:Int)),zS⟩:bp)].map me).flatten⟩ 117 (0,0))] (hJ.2.1) (fun s _ hZ=>cb [(⟨x,(-1),(Int.tmod (((i:Int)+1)+w86) (kG.length:Int)),zS⟩:bp)] (hZ _ (.head _)) (by intro p hp;rfl)) (by intro p hp;rw[List.mem_singleton] at hp;subst hp;exact ar rfl) (by simp<;>omega) (fun v96 L96 ada=>?_)
     obtain⟨aJs,aI3,aPJ⟩:=ada.form
     subst aPJ
     refine jd 6 [6]<|ja ((i:Int)+1) (by omega)<|zD 2<|bI hK7 (⟨i+1,(.slice aJs ((hv++[(⟨x,(-1),(Int.tmod (((i:Int)+1)+w86) (kG.length:Int)),zS⟩:bp)])).length aI3),L96,(hv++[(⟨x,(-1),(Int.tmod (((i:Int)+1)+w86) (kG.length:Int)),zS⟩:bp)]),_,Z,X86⟩) ⟨by omega,ada,(by have:=mS.snoc (A:=[]) hJ.2.2.1 (h0:=⟨rfl,rfl,rfl⟩) (hV:=⟨x,-1,(Int.tmod (((i:Int)+1)+w86) (kG.length:Int)),zS⟩) (x:=⟨x,-1,(Int.tmod (((i:Int)+1)+w86) (kG.length:Int)),[]⟩) (fun ro _=>⟨rfl,rfl,rfl,bK.nil _ _ _ _ _⟩) Ql.1 Ql.2.1 (adX (ai3 ⟨by omega,by omega⟩ ⟨by omega,by omega⟩) (by omega));simpa only[List.nil_append] using this),aRH⟩ (by omega) [0,4,2,5,6,7,8] (Sub.refl _)
    subst h8
    refine zD 8<|qB<|eN [1,1,1,1,1,1,0,1,0,0,1,0,0,1,1,0,1,0,0] [K7] (fun(zz:Nat×Value×Cells×(List Int)×Cells)=>[(0,zP d),(6,zP b6),(7,zP b7),(10,v53),(11,zI (kG.length:Int)),(12,zI (i:Int)),(13,zP yZ),(14,zI (zz.1:Int))]) (fun(zz:Nat×Value×Cells×(List Int)×Cells)=>[.l zz.2.2.1,.l zz.2.2.2.2,.b yZ (.cells ⟨[.string x,zI w,zI (-1),zz.2.1]⟩ 117 (0,0)),.l LH,.l Z,.l LC,.b b7 (.cells ⟨[vC,vH]⟩ 35 (0,0)),.l L53,.b b6 (.cells ⟨[zS,zS]⟩ 35 (0,0))]) (fun(zz:Nat×Value×Cells×(List Int)×Cells)=>(zz.1≤kG.length∧zz.2.2.2.1.length≤zz.1)∧az zz.2.1 1 3 cS zz.2.2.2.1 zz.2.2.1∧lG i zz.1 zz.2.2.2.1∧bD vd xs d zz.2.2.2.2) (fun(zz:Nat×Value×Cells×(List Int)×Cells)=>kG.length-zz.1) (⟨0,zS,[],[],X⟩) ⟨by simp,az.nil _ _ _,⟨by simp,by simp,by simp⟩,hJ3.2⟩ [0,4,1,2,3,5,6,7,8] ?_
    rintro⟨k,vA,LA,al,X⟩ hK K13 Yc rest
    dsimp only at hK
    obtain⟨qa,qc,rfl⟩:=hK.2.1.form
    refine zD 7<|zJ 100 ((k:Int) <(kG.length:Int)) (fun AU=>?_) fun AU=>?_
    ·
     refine zD 10<|js 106 (!decide ((k:Int)=(i:Int))) (fun wX=>?_) (fun wX=>?_)
     ·
      have ae5:=wX
      replace ae5:=of_decide_eq_false (by simpa using ae5)
      refine zD 1<|jc (vs:=[zP d,zI 4]) [1] (sZ hN hK.2.2.2 (by omega)) ?_
      rintro _ aFs ⟨aI1,rfl,ana⟩
      refine zD 2<|js 109 aI1 (fun O7=>?_) (fun O7=>?_)
      ·
       subst O7
       refine jd 5 [2]<|jn fun aE9=>k8 (sz:=1) (ps:=al) (qs:=[(k:Int)]) (enc:=cS) (w:= .slice (some ⟨aE9,0,none⟩) 1 1) [2] [0] [(aE9,.cells ⟨([(k:Int)].map cS).flatten⟩ 3 (0,0))] (hK.2.1) (fun s _ hZ=>cb [(k:Int)] (hZ _ (.head _)) (by intro p hp;rfl)) (fun p _=>ar rfl) (by simp<;>omega) (fun aZK aTO Vm=>?_)
       obtain⟨awi,awb,aAY⟩:=Vm.form
       subst aAY
       refine jd 5 [3]<|ja ((k:Int)+1) (by omega)<|zD 2<|bI Yc (⟨k+1,(.slice awi ((al++[(k:Int)])).length awb),aTO,(al++[(k:Int)]),aFs⟩) ⟨by simp only[List.length_append,List.length_cons,List.length_nil];omega,Vm,lG.snoc hK.2.2.1 (by omega),ana⟩ (by omega) [0,2,3,4,5,6,7,8,9] (Sub.refl _)
      subst O7
      refine zD 4<|ja ((k:Int)+1) (by omega)<|zD 2<|bI Yc (⟨k+1,(.slice qa al.length qc),LA,al,aFs⟩) ⟨by dsimp only;omega,hK.2.1,lG.step hK.2.2.1,ana⟩ (by omega) [1,0,2,3,4,5,6,7,8] (Sub.refl _)
     have ae5:=wX
     replace ae5:=of_decide_eq_true (by simpa using ae5)
     refine zD 8<|ja ((k:Int)+1) (by omega)<|zD 2<|bI Yc (⟨k+1,(.slice qa al.length qc),LA,al,X⟩) ⟨by dsimp only;omega,hK.2.1,lG.step hK.2.2.1,hK.2.2.2⟩ (by omega) [0,1,2,3,4,5,6,7,8] (Sub.refl _)
    refine jd 10 [2]<|js 120 (decide ((al.length:Int)>0)) (fun Gb=>?_) (fun Gb=>?_)
    ·
     have vV:=Gb
     replace vV:=of_decide_eq_true vV
     refine zD 1<|jc (vs:=[zP d,zI 4]) [1] (sZ hN hK.2.2.2 (by omega)) ?_
     rintro _ aFr ⟨aIY,rfl,am9⟩
     refine zD 2<|js 123 aIY (fun Lh=>?_) (fun Lh=>?_)
     ·
      subst Lh
      refine jd 9 [2,6,2]<|jn fun Mf=>k8 (sz:=4) (ps:=hv) (qs:=[(⟨x,(-1),-1,(.slice qa al.length qc)⟩:bp)]) (enc:=me) (w:= .slice (some ⟨Mf,0,none⟩) 1 1) [4] [0] [(Mf,.cells ⟨([(⟨x,(-1),-1,(.slice qa al.length qc)⟩:bp)].map me).flatten⟩ 117 (0,0))] (hJ.2.1) (fun s _ hZ=>cb [(⟨x,(-1),-1,(.slice qa al.length qc)⟩:bp)] (hZ _ (.head _)) (by intro p hp;rfl)) (by intro p hp;rw[List.mem_singleton] at hp;subst hp;exact ar rfl) (by simp<;>omega) (fun awn agI qV=>?_)
      obtain⟨MP,MO,OZ⟩:=qV.form
      subst OZ
      refine jd 5 [7]<|ja ((i:Int)+1) (by omega)<|zD 2<|Oi hK7 (⟨i+1,(.slice MP ((hv++[(⟨x,(-1),-1,(.slice qa al.length qc)⟩:bp)])).length MO),agI,(hv++[(⟨x,(-1),-1,(.slice qa al.length qc)⟩:bp)]),_,LA++Z,aFr⟩) ⟨by omega,qV,mS.snoc (A:=LA) hJ.2.2.1 (h0:=⟨rfl,rfl,rfl⟩) (x:=⟨x,_,-1,al⟩) (fun ro hk=>⟨rfl,rfl,rfl,hK.2.1.nv hk⟩) Ql.1 Ql.2.1 (adY hK.2.2.1 (by omega) (by omega) (by assumption)),am9⟩ (by omega) [[0],[3,5],[2],[6],[7],[8],[9]] (Sub.refl _)
     subst Lh
     refine jd 6 [6,2]<|jn fun Mf=>k8 (sz:=4) (ps:=hv) (qs:=[(⟨x,w,-1,(.slice qa al.length qc)⟩:bp)]) (enc:=me) (w:= .slice (some ⟨Mf,0,none⟩) 1 1) [4] [0] [(Mf,.cells ⟨([(⟨x,w,-1,(.slice qa al.length qc)⟩:bp)].map me).flatten⟩ 117 (0,0))] (hJ.2.1) (fun s _ hZ=>cb [(⟨x,w,-1,(.slice qa al.length qc)⟩:bp)] (hZ _ (.head _)) (by intro p hp;rfl)) (by intro p hp;rw[List.mem_singleton] at hp;subst hp;exact ar rfl) (by simp<;>omega) (fun awn agI qV=>?_)
     obtain⟨MP,MO,OZ⟩:=qV.form
     subst OZ
     refine jd 5 [7]<|ja ((i:Int)+1) (by omega)<|zD 2<|Oi hK7 (⟨i+1,(.slice MP ((hv++[(⟨x,w,-1,(.slice qa al.length qc)⟩:bp)])).length MO),agI,(hv++[(⟨x,w,-1,(.slice qa al.length qc)⟩:bp)]),_,LA++Z,aFr⟩) ⟨by omega,qV,mS.snoc (A:=LA) hJ.2.2.1 (h0:=⟨rfl,rfl,rfl⟩) (x:=⟨x,_,-1,al⟩) (fun ro hk=>⟨rfl,rfl,rfl,hK.2.1.nv hk⟩) Ql.1 Ql.2.1 (I7 (by omega) hK.2.2.1 (by omega) (by omega)),am9⟩ (by omega) [[0],[3,5],[2],[6],[7],[8],[9]] (Sub.refl _)
    have vV:=Gb
    replace vV:=of_decide_eq_false vV
    refine jd 10 [6,2]<|jn fun Mf=>k8 (sz:=4) (ps:=hv) (qs:=[(⟨x,w,-1,(.slice qa al.length qc)⟩:bp)]) (enc:=me) (w:= .slice (some ⟨Mf,0,none⟩) 1 1) [4] [0] [(Mf,.cells ⟨([(⟨x,w,-1,(.slice qa al.length qc)⟩:bp)].map me).flatten⟩ 117 (0,0))] (hJ.2.1) (fun s _ hZ=>cb [(⟨x,w,-1,(.slice qa al.length qc)⟩:bp)] (hZ _ (.head _)) (by intro p hp;rfl)) (by intro p hp;rw[List.mem_singleton] at hp;subst hp;exact ar rfl) (by simp<;>omega) (fun awn agI qV=>?_)
    obtain⟨MP,MO,OZ⟩:=qV.form
    subst OZ
    refine jd 5 [7]<|ja ((i:Int)+1) (by omega)<|zD 2<|Oi hK7 (⟨i+1,(.slice MP ((hv++[(⟨x,w,-1,(.slice qa al.length qc)⟩:bp)])).length MO),agI,(hv++[(⟨x,w,-1,(.slice qa al.length qc)⟩:bp)]),_,LA++Z,X⟩) ⟨by omega,qV,mS.snoc (A:=LA) hJ.2.2.1 (h0:=⟨rfl,rfl,rfl⟩) (x:=⟨x,_,-1,al⟩) (fun ro hk=>⟨rfl,rfl,rfl,hK.2.1.nv hk⟩) Ql.1 Ql.2.1 (I7 (by omega) hK.2.2.1 (by omega) (by omega)),hK.2.2.2⟩ (by omega) [[0],[2,5],[3],[6],[7],[8],[9]] (Sub.refl _)
   refine zD 4<|js 77 (decide ((kG.length:Int)>1)) (fun h17=>?_) (fun h17=>?_)
   ·
    have vQ:=h17
    replace vQ:=of_decide_eq_true vQ
    refine zD 1<|jc (vs:=[zP d,zI 3]) [3] (sZ hN Ql.2.2.2 (by omega)) ?_
    rintro _ X79 ⟨w79,rfl,aRJ⟩
    refine zD 2<|bI hK9 ⟨w79,X79⟩ ⟨fun _=>by omega,aRJ⟩ Nat.zero_lt_one [1,2,3,0,4,5,6,7] (Sub.refl _)
   have vQ:=h17
   replace vQ:=of_decide_eq_false vQ
   refine zD 4<|bI hK9 ⟨false,X⟩ ⟨(fun h=>by cases h),Ql.2.2.2⟩ Nat.zero_lt_one [0,1,2,3,4,5,6,7] (Sub.refl _)
  refine zD 3 ?_
  obtain⟨x64,KM⟩:=zG kG i
  refine Y3 1 arn KM fun b64 aQz=>oV 0 [5] L53 (fun s _ hZ=>cv arn aQz hZ KM)<|jd 3 [4]<|DY hI.2.1<|ja ((cs.length:Int)-1) (by omega)<|lD [0,14] ⟨fun z14 t15 HR=>?_,fun z17 t18 SN=>?_,trivial⟩
  ·
   refine jc [] (acB) ?_
   rintro v61 L61 ⟨_,adz,rfl⟩
   refine bw HR [1,2,3,4,5,6,7] ?_
   obtain⟨x66,FA⟩:=zG oY (x64.toNat) (by have:=adH _ (List.mem_of_getElem? KM);omega)
   refine p5 x64 1 adz FA (Int.toNat_of_nonneg (show 0≤x64∧x64 <((oY).length:Int) from (adH _ (List.mem_of_getElem? KM))).1).symm fun b66 asD=>oV 0 [0] L61 (fun s _ hZ=>cv adz asD hZ FA)<|lD [12,14] ⟨fun z20 t21 SL=>?_,fun z23 t24 La=>?_,trivial⟩
   ·
    refine jc (vs:=[zP d,zI ((cs.length:Int)-1)]) [3] (Dw hN hJ.2.2.2 (by omega)) ?_
    rintro _ X73 ⟨w73,rfl,azp,XG,aeH⟩
    refine iM SL [[1],[5],[6]]<|zD 1<|aH 14 fun alx alR O4=>jn fun yZ=>bw O4 [1,2,3,4,5,6,7,8]<|aH 15 fun Zu aaf SK=>jd 1 [0]<|cM SK<|zD 1<|bI hK8 ⟨yZ,w73,_,x66,X73⟩ ⟨KM,FA,(by dsimp only;omega),aeH⟩ Nat.zero_lt_one [0,3,4,1,5,6,7,8] (Sub.refl _)
   refine jn fun yZ=>bw La [1,2,3,4,5,6,7,8]<|aH 12 fun Zt aae F3=>jc (vs:=[zP d,zI ((cs.length:Int)-1)]) [4] (Dw hN hJ.2.2.2 (by omega)) ?_
   rintro _ X73 ⟨w73,rfl,azp,XG,aeH⟩
   refine iM F3 [[2],[6],[7]]<|zD 1<|aH 15 fun TJ TX K0=>jd 1 [1]<|cM K0<|zD 1<|bI hK8 ⟨yZ,w73,_,x66,X73⟩ ⟨KM,FA,(by dsimp only;omega),aeH⟩ Nat.zero_lt_one [1,3,4,0,5,6,7,8] (Sub.refl _)
  refine jn fun yZ=>bw SN [1,2,3,4,5,6,7]<|aH 0 fun Zs aad SJ=>jc [] (acB) ?_
  rintro v61 L61 ⟨_,adz,rfl⟩
  refine bw SJ [1,2,3,4,5,6,7,8] ?_
  obtain⟨x66,FA⟩:=zG oY (x64.toNat) (by have:=adH _ (List.mem_of_getElem? KM);omega)
  refine p5 x64 1 adz FA (Int.toNat_of_nonneg (show 0≤x64∧x64 <((oY).length:Int) from (adH _ (List.mem_of_getElem? KM))).1).symm fun b66 asD=>oV 0 [0] L61 (fun s _ hZ=>cv adz asD hZ FA)<|aH 12 fun alw alQ O3=>jc (vs:=[zP d,zI ((cs.length:Int)-1)]) [4] (Dw hN hJ.2.2.2 (by omega)) ?_
  rintro _ X73 ⟨w73,rfl,azp,XG,aeH⟩
  refine iM O3 [[1],[6],[7]]<|zD 1<|aH 15 fun alv alP aew=>jd 1 [2]<|cM aew<|zD 1<|bI hK8 ⟨yZ,w73,_,x66,X73⟩ ⟨KM,FA,(by dsimp only;omega),aeH⟩ Nat.zero_lt_one [2,3,4,0,5,6,7,8] (Sub.refl _)
 refine jd 5 [4] ?_
 obtain⟨ZV,ZO,ad3⟩:=hI.2.1.form
 subst ad3
 obtain⟨aJF,aJg,aPW⟩:=hJ.2.1.form
 subst aPW
 refine jd 3 [6]<|aF q0 (.agg ⟨[(.slice ZV (cs).length ZO),(.slice aJF (hv).length aJg)]⟩) [6] [3,0,1,2] (LC++(LH++(Z++X))) (Sub.refl _) ⟨_,_,rfl,rfl,cs,hv,hd,_,_,LC++(LH++Z),X,rfl,Wu hI.2.2.1 Oz (by omega) hJ.2.2.1 (by omega) (by omega) vK adH,hJ.2.2.1.2.2.2.2,fun aA hk=>⟨hI.2.1.nv hk.left,hJ.2.1.nv hk.right.left,hJ.2.2.1.1 aA hk.right.right⟩,by simp only[List.append_assoc],hJ.2.2.2⟩
abbrev jz(x:Value):List Value:=[x]
structure ah where
 n:Int
 l:Int
abbrev cI(x:ah):List Value:=[zI x.n,zI x.l]
def aiE(x y:ah):Prop:=x.n <y.n∨(x.n=y.n∧x.l <y.l)
def AE(x:ah):Prop:=(1≤x.n∧x.n≤9)∧0≤x.l∧x.l≤4
structure eZ(S:List (List ah)):Prop where
 two:S.length=2
 len:∀l∈S,l.length≤4
 ok:∀l∈S,∀x∈l,AE x
 asc:∀l∈S,l.Pairwise aiE
def yh:List (List ah):=[[⟨1,0⟩,⟨2,0⟩],[⟨1,0⟩,⟨3,0⟩]]
def cK(ro:Nat→Option Obj)(v:Value)(S:List (List ah)):Prop:=∃ws,bK ro v 1 jz ws∧dK (fun w l=>bK ro w 2 cI l) ws S
def nM(ro:Nat→Option Obj)(v:Value)(ways:List (List aM)):Prop:=∃ws,bK ro v 1 jz ws∧dK (fun w l=>bK ro w 7 mO l) ws ways
theorem cK.up{ro:Nat→Option Obj}{v:Value}{S:List (List ah)}(h:cK ro v S)(hs:Sub ro aL):cK aL v S:=by
 obtain⟨ws,h1,h2⟩:=h
 exact⟨ws,h1.up hs,h2.imp fun _ _ k=>k.up hs⟩
theorem nM.up{ro:Nat→Option Obj}{v:Value}{w:List (List aM)}(h:nM ro v w)(hs:Sub ro aL):nM aL v w:=by
 obtain⟨ws,h1,h2⟩:=h
 exact⟨ws,h1.up hs,h2.imp fun _ _ k=>k.up hs⟩
theorem jT.up{ro:Nat→Option Obj}{hv:List bp}(h:jT ro vc vh cs hv hd)(hs:Sub ro aL):jT aL vc vh cs hv hd:=
 ⟨h.1.up hs,h.2.1.up hs,h.2.2.imp fun _ _ k=>⟨k.1,k.2.1,k.2.2.1,k.2.2.2.up hs⟩⟩
structure bk where
 ways:List (List aM)
 cs:List bG
 hd:List bY
 rules:List cG
 before:List aE
 after:List aE
 gone:Int
 new:Int
 af:Int
 facts:List iD
 str:List (List ah)
def gV(ro:Nat→Option Obj)(l:List Value)(k:bk):Prop:=∃(vS vT vc vh vr vb va vf:Value) (fa:Option Addr) (fc:Nat) (hv:List bp),
 l=[vS,vT,.slice fa 0 fc,vc,vh,vr,vb,va,zI k.gone,zI k.new,zI k.af,vf]∧cK ro vS k.str∧nM ro vT k.ways∧jT ro vc vh k.cs hv k.hd∧dK dC hv k.hd∧
 bK ro vr 2 jO k.rules∧bK ro vb 5 e8 k.before∧bK ro va 5 e8 k.after∧bK ro vf 3 wo k.facts
def nO(hd:List bY)(i:Int):Prop:=i= -1∨(0≤i∧∃x,hd[i.toNat]?=some x∧0≤x.cls)
def AF(hd:List bY)(p:aE):Prop:=Mn p.name∧nO hd p.head∧(0≤p.st∧p.st≤1)∧p.bold=false
def agC(hd:List bY)(p:aE):Prop:=AF hd p∧(p.st=0→p.no=1∨p.no=2)∧(p.st=1→p.no=1∨p.no=3)
def agD(hd:List bY)(p:aE):Prop:=AF hd p∧1≤p.no∧p.no≤3
def Eg(hd:List bY)(p:aE):Prop:=((1≤p.name.size∧p.name.size≤6)∧Script p.name)∧nO hd p.head∧(0≤p.st∧p.st≤1)∧p.bold=false
def ali(S:List (List ah))(hd:List bY)(p:aE):Prop:=Eg hd p∧∃l,S[p.st.toNat]?=some l∧(⟨p.no,0⟩:ah)∈l
def aFv(hd:List bY)(p:aE):Prop:=Eg hd p∧1≤p.no∧p.no≤40
structure Wd(cs:List bG)(hd:List bY):Prop where
 nc:0 <cs.length∧cs.length≤6
 nh:hd.length≤6
 Ab:∀(i:Nat) (x:bY),hd[i]?=some x→gY cs.length hd.length i x
structure oD(k:bk):Prop where
 sG:eZ k.str
 ways:k.ways.length≤1∧∀l∈k.ways,(1≤l.length∧l.length≤2)∧∀c∈l,jA c
 eO:Wd k.cs k.hd
 rules:k.rules.length≤4
 before:k.before.length≤4∧∀p∈k.before,ali k.str k.hd p
 after:k.after.length≤4∧∀p∈k.after,aFv k.hd p
 BC:(0≤k.gone∧k.gone≤4)∧(0≤k.new∧k.new≤4)∧(0≤k.af∧k.af≤4)
 facts:k.facts.length≤4∧(∀x∈k.facts,(0≤x.a∧x.a <k.before.length)∧(0≤x.b∧x.b <k.after.length))
 apart:k.facts.Pairwise fun x y=>¬(x.a=y.a∧x.b=y.b)
structure PY(k:bk):Prop where
 ways:k.ways.length≤1∧∀l∈k.ways,(1≤l.length∧l.length≤2)∧∀c∈l,jA c
 eO:wH k.cs k.hd
 rules:k.rules.length≤2∧∀r∈k.rules,GW r
 before:k.before.length≤3∧∀p∈k.before,agC k.hd p
 after:k.after.length≤3∧∀p∈k.after,agD k.hd p
 BC:(0≤k.gone∧k.gone≤4)∧(0≤k.new∧k.new≤4)∧(0≤k.af∧k.af≤4)
 facts:k.facts.length≤2∧(∀x∈k.facts,(0≤x.a∧x.a <k.before.length)∧(0≤x.b∧x.b <k.after.length))
 apart:k.facts.Pairwise fun x y=>¬(x.a=y.a∧x.b=y.b)
 str:k.str=yh
theorem Xe:eZ yh where
 two:=rfl
 len:=by simp[yh]
 ok:=by simp[yh,AE]
 asc:=by simp[yh,aiE]
theorem AF.c{p:aE}(h:AF hd p):Eg hd p:=⟨⟨⟨h.1.1.1,by have:=h.1.1.2;omega⟩,h.1.2⟩,h.2⟩
theorem PY.c{k:bk}(h:PY k):oD k where
 sG:=by rw[h.str];exact Xe
 ways:=h.ways
 eO:=⟨⟨h.eO.nc.1,by have:=h.eO.nc.2;omega⟩,by have:=h.eO.nh;omega,fun i x hx=>(h.eO.Ab i x hx).2⟩
 rules:=by have:=h.rules.1;omega
 before:=⟨by have:=h.before.1;omega,fun p hp=>by
  obtain⟨h1,h2,h3⟩:=h.before.2 p hp
  refine⟨h1.c,?_⟩
  rw[h.str]
  have h4:=h1.2.2.1
  rcases(by omega:p.st=0∨p.st=1) with e|e
  ·rw[e];exact⟨_,rfl,by rcases h2 e with e2|e2<;>simp[e2]⟩
  rw[e];exact⟨_,rfl,by rcases h3 e with e2|e2<;>simp[e2]⟩⟩
 after:=⟨by have:=h.after.1;omega,fun p hp=>by
  obtain⟨h1,h2,h3⟩:=h.after.2 p hp
  exact⟨h1.c,h2,by omega⟩⟩
 BC:=h.BC
 facts:=⟨by have:=h.facts.1;omega,h.facts.2⟩
 apart:=h.apart
theorem wW{hv:List bp}(h:dK dC hv hd){i:Int}(k:i= -1∨TG hv i):nO hd i:=by
 rcases k with k| ⟨k0,x,k1,k2⟩
 ·exact .inl k
 obtain⟨y,h1,h2⟩:=h.get k1
 exact .inr ⟨k0,y,h1,h2.2.1▸k2⟩
theorem QJ{ro:Nat→Option Obj}{b c e:Nat}(h1:ro b=some (.cells ⟨[zI 1,zI 0,zI 2,zI 0]⟩ 54 (0,0)))(h2:ro c=some (.cells ⟨[zI 1,zI 0,zI 3,zI 0]⟩ 54 (0,0)))
 (h3:ro e=some (.cells ⟨[.slice (some ⟨b,0,none⟩) 2 2,.slice (some ⟨c,0,none⟩) 2 2]⟩ 55 (0,0))):cK ro (.slice (some ⟨e,0,none⟩) 2 2) yh:=
 ⟨_,bR [_,_] h3 (fun _ _=>rfl),.cons (bR [(⟨1,0⟩:ah),⟨2,0⟩] h1 (fun _ _=>rfl)) (.cons (bR [(⟨1,0⟩:ah),⟨3,0⟩] h2 (fun _ _=>rfl)) .nil)⟩
def AG(nb na:Nat)(fs:List iD):Prop:=(∀x∈fs,(0≤x.a∧x.a <nb)∧(0≤x.b∧x.b <na))∧fs.Pairwise fun x y=>¬(x.a=y.a∧x.b=y.b)
theorem AG.snoc{nb na:Nat}{fs:List iD}(h:AG nb na fs){x:iD}(ha:0≤x.a∧x.a <nb)(hb:0≤x.b∧x.b <na)(hn:TW fs x.a x.b=false):AG nb na (fs++[x]):=by
 refine⟨qt h.1 ⟨ha,hb⟩,List.pairwise_append.2 ⟨h.2,List.pairwise_singleton _ _,fun y hy z hz e=>?_⟩⟩
 rw[List.mem_singleton] at hz;subst hz
 have:=List.any_eq_false.1 hn y hy
 simp[e.1,e.2] at this
theorem apY{w u:Int}(h:w∈[1,2,4,u])(hu:0≤u∧u≤4):0≤w∧w≤4:=by
 simp only[List.mem_cons,List.not_mem_nil,or_false] at h
 omega
theorem QN{ro:Nat→Option Obj}:nM ro (zS) []:=⟨[],bK.nil _ _ _ _ _,.nil⟩
set_option maxHeartbeats 2000000 in
theorem aSA {d:Nat} {X:Cells} {ro:Nat→Option Obj} (hN:Dn ro vd xs) (hD:bD vd xs d X):FnG zT 5 [zP d,zI 3,zI 2] ro X (fun r aA Y=>∃(K:bk) (l:List Value),r= .agg ⟨l⟩∧PY K∧gV aA l K∧bD vd xs d Y):=by
 refine azb (hm:=au) [.l X] [] bn<|zD 2<|jn fun b6=>zD 4<|jc [1] (akT hN hD) ?_
 rintro _ _ ⟨kO,j5,Sv,ah0,aZt,Z18,X18,rfl,FZ,BN,aQ2,rfl,Lf⟩
 refine jg 0 [.l Z18,.l X18]<|jf [0] Z18 (fun AM bW jC=>?_)
 have rO:=aQ2 _ jC
 obtain⟨hc,hh,cY⟩:=id rO
 obtain⟨eL,AR,AQ,eF,rfl,Da,yR,yQ⟩:=hc
 obtain⟨dR,uZ,uY,dD,rfl,xu,qM,qL⟩:=hh
 refine zD 2<|jn fun b21=>zD 2<|jn fun mB=>jn fun dW=>zD 3<|jn fun b7=>jd 5 [0]<|jf [1,2,3] ((dW,.cells ⟨[.slice (some ⟨b21,0,none⟩) 2 2,.slice (some ⟨mB,0,none⟩) 2 2]⟩ 55 (0,0))::((mB,.cells ⟨[zI 1,zI 0,zI 3,zI 0]⟩ 54 (0,0))::[(b21,.cells ⟨[zI 1,zI 0,zI 2,zI 0]⟩ 54 (0,0))])) (fun ro6 kX Zc=>?_)
 have aQ3:=QJ (Zc _ (.tail _ (.tail _ (.head _)))) (Zc _ (.tail _ (.head _))) (Zc _ (.head _))
 refine zD 1<|jc (vs:=[zP d,zI 2]) [1] (sZ (hN.up (bW.trans kX)) Lf (by omega)) ?_
 rintro _ X30 ⟨w30,rfl,akv⟩
 refine zD 1<|HD [1,1,1] [] (fun(zz:Value×Cells×(List (List aM))×Cells)=>[(0,zP d),(1,zI 3),(2,zI 2),(6,zP b6),(7,zP b7)]) (fun(zz:Value×Cells×(List (List aM))×Cells)=>[.l zz.2.1,.l zz.2.2.2,.b b7 (.cells ⟨[.slice (some ⟨dW,0,none⟩) 2 2,zz.1,zS,.slice eL kO.length eF,.slice dR j5.length dD,zS,zS,zS,zI 0,zI 0,zI 0,zS]⟩ 40 (0,0)),.b b6 (.cells ⟨[zS,zS,zS,zS,zS,zS,zS,zS,zI 0,zI 0,zI 0,zS]⟩ 40 (0,0))]) (fun(zz:Value×Cells×(List (List aM))×Cells)=>(∀kB,Knows kB zz.2.1→nM kB zz.1 zz.2.2.1)∧(zz.2.2.1.length≤1∧∀l∈zz.2.2.1,(1≤l.length∧l.length≤2)∧∀c∈l,jA c)∧bD vd xs d zz.2.2.2) ?_ (fun K1 bF=>?_)
 ·
  rintro⟨vT,LT,ways,X⟩ Ql rest
  dsimp only at Ql
  refine zD 2<|jf [0] LT (fun ro9 rK hk8=>?_)
  have aBs:=Ql.1 _ hk8
  obtain⟨Qu,ht,_⟩:=id aBs
  obtain⟨fg,AP,AN,eA,rfl,AO,tq,tk⟩:=ht
  refine zD 1<|jc (vs:=[zP d,zI 2]) [0] (atY (hN.up ((bW.trans kX).trans rK)) Ql.2.2 (by decide)) ?_
  rintro v60 _ ⟨Kh,L60,X60,KT,bcW,ac6,rfl,aRL⟩
  refine jg 0 [.l L60,.l X60]<|zD 8<|qB<|eN [1,1,1,1,0,1,0,0] [] (fun(zz:Nat×Value×Cells×(List cG))=>[(0,zP d),(1,zI 3),(2,zI 2),(6,zP b6),(7,zP b7),(8,v60),(9,zI (zz.1:Int))]) (fun(zz:Nat×Value×Cells×(List cG))=>[.l zz.2.2.1,.l X60,.b b7 (.cells ⟨[.slice (some ⟨dW,0,none⟩) 2 2,.slice fg Qu.length eA,zS,.slice eL kO.length eF,.slice dR j5.length dD,zz.2.1,zS,zS,zI 0,zI 0,zI 0,zS]⟩ 40 (0,0)),.l L60,.b b6 (.cells ⟨[zS,zS,zS,zS,zS,zS,zS,zS,zI 0,zI 0,zI 0,zS]⟩ 40 (0,0))]) (fun(zz:Nat×Value×Cells×(List cG))=>(zz.1≤Kh.length∧zz.2.2.2.length≤zz.1)∧az zz.2.1 2 65 jO zz.2.2.2 zz.2.2.1∧∀r∈zz.2.2.2,GW r) (fun(zz:Nat×Value×Cells×(List cG))=>Kh.length-zz.1) (⟨0,zS,[],[]⟩) ⟨by simp,az.nil _ _ _,(fun _ h=>by cases h)⟩ [0,2,3,1,4] ?_
  rintro⟨i,vR,LR,rs⟩ hR K2 mL rest
  dsimp only at hR
  refine zD 5<|DY KT<|zD 2<|zJ 64 ((i:Int) <(Kh.length:Int)) (fun Zk=>?_) fun Zk=>?_
  ·
   refine zD 8 ?_
   obtain⟨Qs,XH⟩:=zG Kh i
   refine Y3 2 KT XH fun b69 asC=>zD 1<|oV 0 [3] L60 (fun s _ hZ=>cv KT asC hZ XH)<|zD 2 ?_
   obtain⟨x74,azo⟩:=zG Kh i
   refine Y3 2 KT azo fun b74 aQx=>zD 1<|oV 1 [3] L60 (fun s _ hZ=>cv KT aQx hZ azo)<|zD 2<|js 77 (!(cH Qs.f x74.t)) (fun O8=>?_) (fun O8=>?_)
   ·
    try simp only[zB] at O8
    refine jd 6 [2] ?_
    obtain⟨DK,RQ⟩:=zG Kh i
    refine Y3 2 KT RQ fun b82 aQu=>oV 0 [3] L60 (fun s _ hZ=>cv KT aQu hZ RQ)<|aH 6 fun rZ si qG=>jn fun b84=>bw qG [1,2,3,4,5]<|aH 7 fun tw tz rP=>k8 (sz:=2) (ps:=rs) (qs:=[(⟨DK.f,DK.t⟩:cG)]) (enc:=jO) (w:= .slice (some ⟨b84,0,none⟩) 1 1) [1] [0] [(b84,.cells ⟨([(⟨DK.f,DK.t⟩:cG)].map jO).flatten⟩ 65 (0,0))] (hR.2.1) (fun s _ hZ=>cb [(⟨DK.f,DK.t⟩:cG)] (hZ _ (.head _)) (by intro p hp;rfl)) (fun p _=>ar rfl) (by simp<;>omega) (fun v85 L85 ade=>?_)
    obtain⟨aJu,aI5,aPL⟩:=ade.form
    subst aPL
    refine iM rP []<|zD 1<|aH 9 fun AX A5 BO=>jd 1 [3]<|cM BO<|zD 3<|ja ((i:Int)+1) (by omega)<|zD 2<|bI mL (⟨i+1,(.slice aJu ((rs++[(⟨DK.f,DK.t⟩:cG)])).length aI5),L85,(rs++[(⟨DK.f,DK.t⟩:cG)])⟩) ⟨by simp only[List.length_append,List.length_cons,List.length_nil];omega,ade,qt hR.2.2 (ac6 _ (List.mem_of_getElem? RQ))⟩ (by omega) [0,2,3,4,5] (Sub.refl _)
   try simp only[zB] at O8
   refine zD 4<|ja ((i:Int)+1) (by omega)<|zD 2<|bI mL (⟨i+1,vR,LR,rs⟩) ⟨by dsimp only;omega,hR.2⟩ (by omega) [0,1,2,3,4] (Sub.refl _)
  refine zD 4<|jf [0] LR (fun aZ6 iN aPl=>?_)
  have hRU:=hR.2.1.nv aPl
  refine jd 3 [1]<|jn fun rY=>jd 7 [0]<|jc (vs:=[zP d,zI 3]) [1] (Dw (hN.up (((bW.trans kX).trans rK).trans iN)) aRL (by omega)) ?_
  rintro _ X92 ⟨w92,rfl,bb0,bbU,aRG⟩
  refine zD 3<|qB<|eN [1,1,1,1,1,1,0,1,0,0] [] (fun(zz:Int×Value×Cells×(List aE)×Cells)=>[(0,zP d),(1,zI 3),(2,zI 2),(6,zP b6),(7,zP b7),(10,zP rY),(11,zI zz.1)]) (fun(zz:Int×Value×Cells×(List aE)×Cells)=>[.l zz.2.2.1,.l zz.2.2.2.2,.b rY (.cells ⟨[zI 2,zI 0,zI 0,.slice eL kO.length eF,.slice dR j5.length dD,zS,zS]⟩ 67 (0,0)),.b b7 (.cells ⟨[.slice (some ⟨dW,0,none⟩) 2 2,.slice fg Qu.length eA,zS,.slice eL kO.length eF,.slice dR j5.length dD,vR,zz.2.1,zS,zI 0,zI 0,zI 0,zS]⟩ 40 (0,0)),.b b6 (.cells ⟨[zS,zS,zS,zS,zS,zS,zS,zS,zI 0,zI 0,zI 0,zS]⟩ 40 (0,0))]) (fun(zz:Int×Value×Cells×(List aE)×Cells)=>(0≤zz.1∧zz.2.2.2.1.length+zz.1≤3)∧az zz.2.1 5 70 e8 zz.2.2.2.1 zz.2.2.1∧(∀p∈zz.2.2.2.1,agC Sv p)∧bD vd xs d zz.2.2.2.2) (fun(zz:Int×Value×Cells×(List aE)×Cells)=>zz.1.toNat) (⟨w92,zS,[],[],X92⟩) ⟨by simp only[List.length_nil];omega,az.nil _ _ _,(fun _ h=>by cases h),aRG⟩ [0,1,2,3,5] ?_
  rintro⟨j,vB,LB,uG,X⟩ hB K6 hK6 rest
  dsimp only at hB
  refine zD 6<|zJ 94 (j>0) (fun SP=>?_) fun SP=>?_
  ·
   refine zD 5<|HD [1,1,1,1,1,1,0,1,0,0,1,0,0,1] [K6] (fun(zz:Nat×aE×Cells)=>[(0,zP d),(1,zI 3),(2,zI 2),(6,zP b6),(7,zP b7),(10,zP rY),(11,zI j),(12,zP zz.1)]) (fun(zz:Nat×aE×Cells)=>[.b zz.1 (.cells ⟨[.string zz.2.1.name,zI zz.2.1.st,zI zz.2.1.no,zI zz.2.1.head,.bool zz.2.1.bold]⟩ 70 (0,0)),.l LB,.l zz.2.2,.b rY (.cells ⟨[zI 2,zI 0,zI 0,.slice eL kO.length eF,.slice dR j5.length dD,zS,zS]⟩ 67 (0,0)),.b b7 (.cells ⟨[.slice (some ⟨dW,0,none⟩) 2 2,.slice fg Qu.length eA,zS,.slice eL kO.length eF,.slice dR j5.length dD,vR,vB,zS,zI 0,zI 0,zI 0,zS]⟩ 40 (0,0)),.b b6 (.cells ⟨[zS,zS,zS,zS,zS,zS,zS,zS,zI 0,zI 0,zI 0,zS]⟩ 40 (0,0))]) (fun(zz:Nat×aE×Cells)=>(Mn zz.2.1.name∧nO Sv zz.2.1.head∧(0≤zz.2.1.st∧zz.2.1.st≤1))∧bD vd xs d zz.2.2) ?_ (fun K7 hK7=>?_)
   ·
    rintro⟨jP,pp,X⟩ aeG rest
    dsimp only at aeG
    refine zD 3<|jc (vs:=[zP d,zI 1,zI 2]) [2] (uF (hN.up (((bW.trans kX).trans rK).trans iN)) aeG.2 (by omega) (by omega)) ?_
    rintro _ aTr ⟨aI2,rfl,aWC,aWs,anb⟩
    refine jd 10 [1,1]<|HD [1,1,1,1,1,1,0,1,0,0,1,0,0,1,1,1] [K6] (fun(zz:Int×Cells)=>[(0,zP d),(1,zI 3),(2,zI 2),(6,zP b6),(7,zP b7),(10,zP rY),(11,zI j),(12,zP jP)]) (fun(zz:Int×Cells)=>[.b jP (.cells ⟨[.string pp.name,zI pp.st,zI zz.1,zI pp.head,.bool pp.bold]⟩ 70 (0,0)),.l LB,.l zz.2,.b rY (.cells ⟨[zI 2,zI 0,zI 0,.slice eL kO.length eF,.slice dR j5.length dD,zS,zS]⟩ 67 (0,0)),.b b7 (.cells ⟨[.slice (some ⟨dW,0,none⟩) 2 2,.slice fg Qu.length eA,zS,.slice eL kO.length eF,.slice dR j5.length dD,vR,vB,zS,zI 0,zI 0,zI 0,zS]⟩ 40 (0,0)),.b b6 (.cells ⟨[zS,zS,zS,zS,zS,zS,zS,zS,zI 0,zI 0,zI 0,zS]⟩ 40 (0,0))]) (fun(zz:Int×Cells)=>((pp.st=0→zz.1=1∨zz.1=2)∧(pp.st=1→zz.1=1∨zz.1=3))∧bD vd xs d zz.2) ?_ (fun K8 hK8=>?_)
    ·
     rintro⟨q,X⟩ akt rest
     dsimp only at akt
     refine jd 7 [0]<|HD [1,1,1,1,1,1,0,1,0,0,1,0,0,1,1,1,1,0,1] [K6] (fun(zz:Bool×Cells)=>[(0,zP d),(1,zI 3),(2,zI 2),(6,zP b6),(7,zP b7),(10,zP rY),(11,zI j),(12,zP jP),(120,.bool zz.1)]) (fun(zz:Bool×Cells)=>[.b jP (.cells ⟨[.string pp.name,zI pp.st,zI q,zI pp.head,.bool false]⟩ 70 (0,0)),.l LB,.l zz.2,.b rY (.cells ⟨[zI 2,zI 0,zI 0,.slice eL kO.length eF,.slice dR j5.length dD,zS,zS]⟩ 67 (0,0)),.b b7 (.cells ⟨[.slice (some ⟨dW,0,none⟩) 2 2,.slice fg Qu.length eA,zS,.slice eL kO.length eF,.slice dR j5.length dD,vR,vB,zS,zI 0,zI 0,zI 0,zS]⟩ 40 (0,0)),.b b6 (.cells ⟨[zS,zS,zS,zS,zS,zS,zS,zS,zI 0,zI 0,zI 0,zS]⟩ 40 (0,0))]) (fun(zz:Bool×Cells)=>(zz.1=true→0 <uG.length)∧bD vd xs d zz.2) ?_ (fun K9 hK9=>?_)
     ·
      rintro⟨g,X⟩ aeF rest
      dsimp only at aeF
      refine HD [1,1,1,1,1,1,0,1,0,0,1,0,0,1,1,1,1,1] [K6] (fun(zz:aE×Cells)=>[(0,zP d),(1,zI 3),(2,zI 2),(6,zP b6),(7,zP b7),(10,zP rY),(11,zI j),(12,zP jP)]) (fun(zz:aE×Cells)=>[.b jP (.cells ⟨[.string zz.1.name,zI zz.1.st,zI zz.1.no,zI zz.1.head,.bool zz.1.bold]⟩ 70 (0,0)),.l LB,.l zz.2,.b rY (.cells ⟨[zI 2,zI 0,zI 0,.slice eL kO.length eF,.slice dR j5.length dD,zS,zS]⟩ 67 (0,0)),.b b7 (.cells ⟨[.slice (some ⟨dW,0,none⟩) 2 2,.slice fg Qu.length eA,zS,.slice eL kO.length eF,.slice dR j5.length dD,vR,vB,zS,zI 0,zI 0,zI 0,zS]⟩ 40 (0,0)),.b b6 (.cells ⟨[zS,zS,zS,zS,zS,zS,zS,zS,zI 0,zI 0,zI 0,zS]⟩ 40 (0,0))]) (fun(zz:aE×Cells)=>agC Sv zz.1∧bD vd xs d zz.2) ?_ (fun K10 aDD=>?_)
      ·
       rintro⟨p2,X⟩ atp rest
       dsimp only at atp
       refine jd 4 [4,0]<|jn fun aE8=>k8 (sz:=5) (ps:=uG) (qs:=[(⟨p2.name,p2.st,p2.no,p2.head,p2.bold⟩:aE)]) (enc:=e8) (w:= .slice (some ⟨aE8,0,none⟩) 1 1) [2] [0] [(aE8,.cells ⟨([(⟨p2.name,p2.st,p2.no,p2.head,p2.bold⟩:aE)].map e8).flatten⟩ 70 (0,0))] (hB.2.1) (fun s _ hZ=>cb [(⟨p2.name,p2.st,p2.no,p2.head,p2.bold⟩:aE)] (hZ _ (.head _)) (by intro p hp;rfl)) (fun p _=>ar rfl) (by simp<;>omega) (fun aZJ aTM Vl=>?_)
       obtain⟨awh,awa,aAX⟩:=Vl.form
       subst aAX
       refine jd 5 [5]<|ja (j-1) (by omega)<|zD 2<|bI hK6 (⟨j-1,(.slice awh ((uG++[(⟨p2.name,p2.st,p2.no,p2.head,p2.bold⟩:aE)])).length awa),aTM,(uG++[(⟨p2.name,p2.st,p2.no,p2.head,p2.bold⟩:aE)]),X⟩) ⟨by simp only[List.length_append,List.length_cons,List.length_nil];omega,Vl,qt hB.2.2.1 atp.1,atp.2⟩ (by omega) [0,3,4,5,6] (Sub.refl _)
      refine js 120 g (fun VC=>?_) (fun VC=>?_)
      ·
       subst VC
       refine jd 7 [4,4]<|DY hB.2.1<|ja ((uG.length:Int)-1) (by omega)<|aH 7 fun MH M0 F6=>jc (vs:=[zP d,zI ((uG.length:Int)-1)]) [2] (Dw (hN.up (((bW.trans kX).trans rK).trans iN)) aeF.2 (by omega)) ?_
       rintro _ aTo ⟨ZK,rfl,aWB,acQ,aDS⟩
       refine iM F6 [[4],[4]] ?_
       obtain⟨aIM,acP⟩:=zG uG (ZK.toNat) (by have:=aeF.1 rfl;omega)
       refine p5 ZK 5 hB.2.1 acP (Int.toNat_of_nonneg (show 0≤ZK∧ZK <((uG).length:Int) from (by have:=aeF.1 rfl;omega)).1).symm (fun beA aBi=>?_)
       refine oV 0 [2] LB (fun s _ hZ=>cv hB.2.1 aBi hZ acP)<|aH 10 fun TK TY F5=>jd 1 [1]<|cM F5<|zD 1<|bI aDD ⟨aIM,aTo⟩ ⟨hB.2.2.1 _ (List.mem_of_getElem? acP),aDS⟩ Nat.zero_lt_one [1,2,0,3,4,5] (Sub.refl _)
      subst VC
      refine zD 2<|bI aDD ⟨⟨pp.name,pp.st,q,pp.head,false⟩,X⟩ ⟨⟨⟨aeG.1.1,aeG.1.2.1,aeG.1.2.2,rfl⟩,akt.1⟩,aeF.2⟩ Nat.zero_lt_one [0,1,2,3,4,5] (Sub.refl _)
     refine jd 3 [4]<|DY hB.2.1<|zD 2<|js 117 (decide ((uG.length:Int)>0)) (fun Jb=>?_) (fun Jb=>?_)
     ·
      have ae0:=Jb
      replace ae0:=of_decide_eq_true ae0
      refine zD 1<|jc (vs:=[zP d,zI 5]) [2] (sZ (hN.up (((bW.trans kX).trans rK).trans iN)) akt.2 (by omega)) ?_
      rintro _ aTp ⟨aIZ,rfl,aDT⟩
      refine zD 2<|bI hK9 ⟨aIZ,aTp⟩ ⟨fun _=>by omega,aDT⟩ Nat.zero_lt_one [1,2,0,3,4,5] (Sub.refl _)
     have ae0:=Jb
     replace ae0:=of_decide_eq_false ae0
     refine zD 4<|bI hK9 ⟨false,X⟩ ⟨(fun h=>by cases h),akt.2⟩ Nat.zero_lt_one [0,1,2,3,4,5] (Sub.refl _)
    refine zJ 107 (pp.st=1) (fun Ec=>?_) fun Ec=>?_
    ·
     refine zD 3<|jn fun aFa=>Y6 (vs:=[zP d,.slice (some ⟨aFa,0,none⟩) 2 2]) [1] [0] [(aFa,.cells ⟨([1,3].map cS).flatten⟩ 3 (0,0))] (fun aA hs hZ=>afW ((hN.up (((bW.trans kX).trans rK).trans iN)).up hs) anb (bR [1,3] hZ.head (by intro p hp;rfl)) (by simp)) ?_
     rintro _ aTq ⟨aI0,rfl,azv,aDU⟩
     refine jd 3 [2]<|bI hK8 ⟨aI0,aTq⟩ ⟨⟨(fun h=>by omega),(fun _=>by simpa using azv)⟩,aDU⟩ Nat.zero_lt_one [2,3,0,4,5,6] (Sub.refl _)
    refine zD 2<|bI hK8 ⟨aI2,aTr⟩ ⟨⟨(fun _=>by dsimp only;omega),(fun h=>by omega)⟩,anb⟩ Nat.zero_lt_one [1,2,0,3,4,5] (Sub.refl _)
   refine jd 4 [2]<|lD [3,5] ⟨fun z13 t14 ati=>?_,fun z16 t17 aey=>?_,trivial⟩
   ·
    refine jc [1] (VQ (hN.up (((bW.trans kX).trans rK).trans iN)) hB.2.2.2) ?_
    rintro _ aTs ⟨ahV,rfl,Ve,VB⟩
    refine iM ati [[2]]<|lD [4,5] ⟨fun z19 t20 Ya=>?_,fun z22 t23 ath=>?_,trivial⟩
    ·
     refine jc (vs:=[zP d,.agg ⟨[zI 2,zI 0,zI 0,.slice eL kO.length eF,.slice dR j5.length dD,zS,zS]⟩,.string ahV]) [0] (xb (hN.up (((bW.trans kX).trans rK).trans iN)) VB ((((show bK _ _ _ _ _ from ⟨dR,uZ,uY,dD,rfl,xu,qM,qL⟩).up kX).up rK).up iN) (by have:=BN.len;have:=FZ.nh;omega)) ?_
     rintro _ agy ⟨av6,rfl,OF,Ow,OQ,O6⟩
     refine cM Ya<|aH 5 fun avM awL La=>jn fun jP=>cM La<|aH 6 fun alx alR O4=>jd 1 [0]<|cM O4<|zD 1<|bI hK7 ⟨jP,_,agy⟩ ⟨⟨OF▸Ve,wW BN OQ,Ow⟩,O6⟩ Nat.zero_lt_one [0,2,1,3,4,5] (Sub.refl _)
    refine jn fun jP=>bw ath [1,2,3,4,5]<|aH 4 fun Zu aaf SK=>jc (vs:=[zP d,.agg ⟨[zI 2,zI 0,zI 0,.slice eL kO.length eF,.slice dR j5.length dD,zS,zS]⟩,.string ahV]) [1] (xb (hN.up (((bW.trans kX).trans rK).trans iN)) VB ((((show bK _ _ _ _ _ from ⟨dR,uZ,uY,dD,rfl,xu,qM,qL⟩).up kX).up rK).up iN) (by have:=BN.len;have:=FZ.nh;omega)) ?_
    rintro _ agy ⟨av6,rfl,OF,Ow,OQ,O6⟩
    refine cM SK<|aH 6 fun Zt aae F3=>jd 1 [1]<|cM F3<|zD 1<|bI hK7 ⟨jP,_,agy⟩ ⟨⟨OF▸Ve,wW BN OQ,Ow⟩,O6⟩ Nat.zero_lt_one [1,2,0,3,4,5] (Sub.refl _)
   refine jn fun jP=>bw aey [1,2,3,4,5]<|aH 3 fun TJ TX K0=>jc [2] (VQ (hN.up (((bW.trans kX).trans rK).trans iN)) hB.2.2.2) ?_
   rintro _ aTs ⟨ahV,rfl,Ve,VB⟩
   refine iM K0 [[3]]<|aH 4 fun Zs aad SJ=>jc (vs:=[zP d,.agg ⟨[zI 2,zI 0,zI 0,.slice eL kO.length eF,.slice dR j5.length dD,zS,zS]⟩,.string ahV]) [0] (xb (hN.up (((bW.trans kX).trans rK).trans iN)) VB ((((show bK _ _ _ _ _ from ⟨dR,uZ,uY,dD,rfl,xu,qM,qL⟩).up kX).up rK).up iN) (by have:=BN.len;have:=FZ.nh;omega)) ?_
   rintro _ agy ⟨av6,rfl,OF,Ow,OQ,O6⟩
   refine cM SJ<|aH 6 fun alw alQ O3=>jd 1 [1]<|cM O3<|zD 1<|bI hK7 ⟨jP,_,agy⟩ ⟨⟨OF▸Ve,wW BN OQ,Ow⟩,O6⟩ Nat.zero_lt_one [1,2,0,3,4,5] (Sub.refl _)
  refine zD 7<|jc (vs:=[zP d,zI 3]) [1] (Dw (hN.up (((bW.trans kX).trans rK).trans iN)) hB.2.2.2 (by omega)) ?_
  rintro _ aTn ⟨aIX,rfl,aWA,aWr,aDR⟩
  refine zD 3<|qB<|eN [1,1,1,1,1,1,1,0,1,0,0] [] (fun(zz:Int×Value×Cells×(List aE)×Cells)=>[(0,zP d),(2,zI 2),(6,zP b6),(7,zP b7),(10,zP rY),(13,zI zz.1)]) (fun(zz:Int×Value×Cells×(List aE)×Cells)=>[.l zz.2.2.1,.l zz.2.2.2.2,.l LB,.b rY (.cells ⟨[zI 2,zI 0,zI 0,.slice eL kO.length eF,.slice dR j5.length dD,zS,zS]⟩ 67 (0,0)),.b b7 (.cells ⟨[.slice (some ⟨dW,0,none⟩) 2 2,.slice fg Qu.length eA,zS,.slice eL kO.length eF,.slice dR j5.length dD,vR,vB,zz.2.1,zI 0,zI 0,zI 0,zS]⟩ 40 (0,0)),.b b6 (.cells ⟨[zS,zS,zS,zS,zS,zS,zS,zS,zI 0,zI 0,zI 0,zS]⟩ 40 (0,0))]) (fun(zz:Int×Value×Cells×(List aE)×Cells)=>(0≤zz.1∧zz.2.2.2.1.length+zz.1≤3)∧az zz.2.1 5 70 e8 zz.2.2.2.1 zz.2.2.1∧(∀p∈zz.2.2.2.1,agD Sv p)∧bD vd xs d zz.2.2.2.2) (fun(zz:Int×Value×Cells×(List aE)×Cells)=>zz.1.toNat) (⟨aIX,zS,[],[],aTn⟩) ⟨by simp only[List.length_nil];omega,az.nil _ _ _,(fun _ h=>by cases h),aDR⟩ [0,1,2,3,4,5] ?_
  rintro⟨j,vA,LA,Ju,X⟩ hA K32 aRw rest
  dsimp only at hA
  refine zD 6<|zJ 141 (j>0) (fun h35=>?_) fun h35=>?_
  ·
   refine zD 5<|HD [1,1,1,1,1,1,1,0,1,0,0,1,0,0,1] [K32] (fun(zz:Nat×aE×Cells)=>[(0,zP d),(2,zI 2),(6,zP b6),(7,zP b7),(10,zP rY),(13,zI j),(14,zP zz.1)]) (fun(zz:Nat×aE×Cells)=>[.b zz.1 (.cells ⟨[.string zz.2.1.name,zI zz.2.1.st,zI zz.2.1.no,zI zz.2.1.head,.bool zz.2.1.bold]⟩ 70 (0,0)),.l LA,.l zz.2.2,.l LB,.b rY (.cells ⟨[zI 2,zI 0,zI 0,.slice eL kO.length eF,.slice dR j5.length dD,zS,zS]⟩ 67 (0,0)),.b b7 (.cells ⟨[.slice (some ⟨dW,0,none⟩) 2 2,.slice fg Qu.length eA,zS,.slice eL kO.length eF,.slice dR j5.length dD,vR,vB,vA,zI 0,zI 0,zI 0,zS]⟩ 40 (0,0)),.b b6 (.cells ⟨[zS,zS,zS,zS,zS,zS,zS,zS,zI 0,zI 0,zI 0,zS]⟩ 40 (0,0))]) (fun(zz:Nat×aE×Cells)=>(Mn zz.2.1.name∧nO Sv zz.2.1.head∧(0≤zz.2.1.st∧zz.2.1.st≤1))∧bD vd xs d zz.2.2) ?_ (fun K33 atm=>?_)
   ·
    rintro⟨V9,pp,X⟩ aeE rest
    dsimp only at aeE
    refine zD 3<|jc (vs:=[zP d,zI 1,zI 3]) [2] (uF (hN.up (((bW.trans kX).trans rK).trans iN)) aeE.2 (by omega) (by omega)) ?_
    rintro _ aTl ⟨av4,rfl,aWz,aWq,am8⟩
    refine jd 7 [1,1]<|HD [1,1,1,1,1,1,1,0,1,0,0,1,0,0,1,1,0,1] [K32] (fun(zz:Bool×Cells)=>[(0,zP d),(2,zI 2),(6,zP b6),(7,zP b7),(10,zP rY),(13,zI j),(14,zP V9),(161,.bool zz.1)]) (fun(zz:Bool×Cells)=>[.b V9 (.cells ⟨[.string pp.name,zI pp.st,zI av4,zI pp.head,.bool false]⟩ 70 (0,0)),.l LA,.l zz.2,.l LB,.b rY (.cells ⟨[zI 2,zI 0,zI 0,.slice eL kO.length eF,.slice dR j5.length dD,zS,zS]⟩ 67 (0,0)),.b b7 (.cells ⟨[.slice (some ⟨dW,0,none⟩) 2 2,.slice fg Qu.length eA,zS,.slice eL kO.length eF,.slice dR j5.length dD,vR,vB,vA,zI 0,zI 0,zI 0,zS]⟩ 40 (0,0)),.b b6 (.cells ⟨[zS,zS,zS,zS,zS,zS,zS,zS,zI 0,zI 0,zI 0,zS]⟩ 40 (0,0))]) (fun(zz:Bool×Cells)=>(zz.1=true→0 <uG.length)∧bD vd xs d zz.2) ?_ (fun K34 aDz=>?_)
    ·
     rintro⟨g,X⟩ aeD rest
     dsimp only at aeD
     refine HD [1,1,1,1,1,1,1,0,1,0,0,1,0,0,1,1,1] [K32] (fun(zz:aE×Cells)=>[(0,zP d),(2,zI 2),(6,zP b6),(7,zP b7),(10,zP rY),(13,zI j),(14,zP V9)]) (fun(zz:aE×Cells)=>[.b V9 (.cells ⟨[.string zz.1.name,zI zz.1.st,zI zz.1.no,zI zz.1.head,.bool zz.1.bold]⟩ 70 (0,0)),.l LA,.l zz.2,.l LB,.b rY (.cells ⟨[zI 2,zI 0,zI 0,.slice eL kO.length eF,.slice dR j5.length dD,zS,zS]⟩ 67 (0,0)),.b b7 (.cells ⟨[.slice (some ⟨dW,0,none⟩) 2 2,.slice fg Qu.length eA,zS,.slice eL kO.length eF,.slice dR j5.length dD,vR,vB,vA,zI 0,zI 0,zI 0,zS]⟩ 40 (0,0)),.b b6 (.cells ⟨[zS,zS,zS,zS,zS,zS,zS,zS,zI 0,zI 0,zI 0,zS]⟩ 40 (0,0))]) (fun(zz:aE×Cells)=>agD Sv zz.1∧bD vd xs d zz.2) ?_ (fun K35 atl=>?_)
     ·
      rintro⟨p2,X⟩ atn rest
      dsimp only at atn
      refine jd 4 [5,0]<|jn fun aE6=>k8 (sz:=5) (ps:=Ju) (qs:=[(⟨p2.name,p2.st,p2.no,p2.head,p2.bold⟩:aE)]) (enc:=e8) (w:= .slice (some ⟨aE6,0,none⟩) 1 1) [2] [0] [(aE6,.cells ⟨([(⟨p2.name,p2.st,p2.no,p2.head,p2.bold⟩:aE)].map e8).flatten⟩ 70 (0,0))] (hA.2.1) (fun s _ hZ=>cb [(⟨p2.name,p2.st,p2.no,p2.head,p2.bold⟩:aE)] (hZ _ (.head _)) (by intro p hp;rfl)) (fun p _=>ar rfl) (by simp<;>omega) (fun aZI aTL Vk=>?_)
      obtain⟨awg,av9,aAW⟩:=Vk.form
      subst aAW
      refine jd 5 [6]<|ja (j-1) (by omega)<|zD 2<|bI aRw (⟨j-1,(.slice awg ((Ju++[(⟨p2.name,p2.st,p2.no,p2.head,p2.bold⟩:aE)])).length av9),aTL,(Ju++[(⟨p2.name,p2.st,p2.no,p2.head,p2.bold⟩:aE)]),X⟩) ⟨by simp only[List.length_append,List.length_cons,List.length_nil];omega,Vk,qt hA.2.2.1 atn.1,atn.2⟩ (by omega) [0,3,4,5,6,7] (Sub.refl _)
     refine js 161 g (fun h36=>?_) (fun h36=>?_)
     ·
      subst h36
      refine jd 8 [5,5]<|DY hB.2.1<|ja ((uG.length:Int)-1) (by omega)<|aH 7 fun alu alO KZ=>jc (vs:=[zP d,zI ((uG.length:Int)-1)]) [2] (Dw (hN.up (((bW.trans kX).trans rK).trans iN)) aeD.2 (by omega)) ?_
      rintro _ bfe ⟨ZJ,rfl,aWy,aWp,aDP⟩
      refine iM KZ [[5],[5]] ?_
      obtain⟨C1,Oo⟩:=zG uG (ZJ.toNat) (by have:=aeD.1 rfl;omega)
      refine p5 ZJ 5 hB.2.1 Oo (Int.toNat_of_nonneg (show 0≤ZJ∧ZJ <((uG).length:Int) from (by have:=aeD.1 rfl;omega)).1).symm (fun bex aBf=>?_)
      refine oV 0 [3] LB (fun s _ hZ=>cv hB.2.1 aBf hZ Oo)<|aH 10 fun Zr aac SI=>jd 1 [1]<|cM SI<|zD 5<|jc (vs:=[zP d,zI 3]) [0] (sZ (hN.up (((bW.trans kX).trans rK).trans iN)) aDP (by omega)) ?_
      rintro _ aTi ⟨aIU,rfl,am7⟩
      refine zD 1<|HD [1,1,1,1,1,1,1,0,1,0,0,1,0,0,1,1,2,1,0,1,1] [K32,K35] (fun(zz:Int×Cells)=>[(0,zP d),(2,zI 2),(6,zP b6),(7,zP b7),(10,zP rY),(13,zI j),(14,zP V9)]) (fun(zz:Int×Cells)=>[.b V9 (.cells ⟨[.string C1.name,zI C1.st,zI zz.1,zI C1.head,.bool C1.bold]⟩ 70 (0,0)),.l LA,.l zz.2,.l LB,.b rY (.cells ⟨[zI 2,zI 0,zI 0,.slice eL kO.length eF,.slice dR j5.length dD,zS,zS]⟩ 67 (0,0)),.b b7 (.cells ⟨[.slice (some ⟨dW,0,none⟩) 2 2,.slice fg Qu.length eA,zS,.slice eL kO.length eF,.slice dR j5.length dD,vR,vB,vA,zI 0,zI 0,zI 0,zS]⟩ 40 (0,0)),.b b6 (.cells ⟨[zS,zS,zS,zS,zS,zS,zS,zS,zI 0,zI 0,zI 0,zS]⟩ 40 (0,0))]) (fun(zz:Int×Cells)=>(1≤zz.1∧zz.1≤3)∧bD vd xs d zz.2) ?_ (fun K38 aDy=>?_)
      ·
       rintro⟨q,X⟩ aks rest
       dsimp only at aks
       have hO:=hB.2.2.1 _ (List.mem_of_getElem? Oo)
       have hO2:=hO.1.2.2.1
       have hO3:=hO.2
       refine zD 3<|jc (vs:=[zP d,zI 4]) [2] (sZ (hN.up (((bW.trans kX).trans rK).trans iN)) aks.2 (by omega)) ?_
       rintro _ aFp ⟨aIS,rfl,am6⟩
       refine zD 1<|js 178 aIS (fun Zj=>?_) (fun Zj=>?_)
       ·
        subst Zj
        refine jd 5 [1]<|bI atl ⟨⟨C1.name,C1.st,q,-1,C1.bold⟩,aFp⟩ ⟨⟨⟨hO.1.1,.inl rfl,hO.1.2.2.1,hO.1.2.2.2⟩,aks.1⟩,am6⟩ Nat.zero_lt_one [1,2,0,3,4,5,6] (Sub.refl _)
       subst Zj
       refine zD 2<|bI atl ⟨⟨C1.name,C1.st,q,C1.head,C1.bold⟩,aFp⟩ ⟨⟨⟨hO.1.1,hO.1.2.1,hO.1.2.2.1,hO.1.2.2.2⟩,aks.1⟩,am6⟩ Nat.zero_lt_one [1,2,0,3,4,5,6] (Sub.refl _)
      refine js 173 aIU (fun h40=>?_) (fun h40=>?_)
      ·
       subst h40
       have hO:=hB.2.2.1 _ (List.mem_of_getElem? Oo)
       have hO2:=hO.1.2.2.1
       have hO3:=hO.2
       refine zD 3<|jc (vs:=[zP d,zI 1,zI 3]) [0] (uF (hN.up (((bW.trans kX).trans rK).trans iN)) am7 (by omega) (by omega)) ?_
       rintro _ aTh ⟨aIT,rfl,aWx,aWo,aDO⟩
       refine jd 3 [1]<|bI aDy ⟨aIT,aTh⟩ ⟨by dsimp only;omega,aDO⟩ Nat.zero_lt_one [1,2,0,3,4,5,6] (Sub.refl _)
      subst h40
      have hO:=hB.2.2.1 _ (List.mem_of_getElem? Oo)
      have hO2:=hO.1.2.2.1
      have hO3:=hO.2
      refine zD 2<|bI aDy ⟨C1.no,aTi⟩ ⟨by dsimp only;omega,am7⟩ Nat.zero_lt_one [1,2,0,3,4,5,6] (Sub.refl _)
     subst h36
     refine zD 2<|bI atl ⟨⟨pp.name,pp.st,av4,pp.head,false⟩,X⟩ ⟨⟨⟨aeE.1.1,aeE.1.2.1,aeE.1.2.2,rfl⟩,by dsimp only;omega⟩,aeD.2⟩ Nat.zero_lt_one [0,1,2,3,4,5,6] (Sub.refl _)
    refine jd 3 [5]<|DY hB.2.1<|zD 2<|js 157 (decide ((uG.length:Int)>0)) (fun h41=>?_) (fun h41=>?_)
    ·
     have aeN:=h41
     replace aeN:=of_decide_eq_true aeN
     refine zD 1<|jc (vs:=[zP d,zI 3]) [0] (sZ (hN.up (((bW.trans kX).trans rK).trans iN)) am8 (by omega)) ?_
     rintro _ aTk ⟨aIW,rfl,aDQ⟩
     refine zD 3<|bI aDz ⟨!aIW,aTk⟩ ⟨fun _=>by omega,aDQ⟩ Nat.zero_lt_one [1,2,0,3,4,5,6] (Sub.refl _)
    have aeN:=h41
    replace aeN:=of_decide_eq_false aeN
    refine zD 5<|bI aDz ⟨false,aTl⟩ ⟨(fun h=>by cases h),am8⟩ Nat.zero_lt_one [1,2,0,3,4,5,6] (Sub.refl _)
   refine jd 4 [3]<|lD [3,5] ⟨fun z39 t40 atc=>?_,fun z42 t43 ata=>?_,trivial⟩
   ·
    refine jc [1] (VQ (hN.up (((bW.trans kX).trans rK).trans iN)) hA.2.2.2) ?_
    rintro _ aTm ⟨ahU,rfl,Vd,VA⟩
    refine iM atc [[3]]<|lD [4,5] ⟨fun z45 t46 as8=>?_,fun z48 t49 as6=>?_,trivial⟩
    ·
     refine jc (vs:=[zP d,.agg ⟨[zI 2,zI 0,zI 0,.slice eL kO.length eF,.slice dR j5.length dD,zS,zS]⟩,.string ahU]) [0] (xb (hN.up (((bW.trans kX).trans rK).trans iN)) VA ((((show bK _ _ _ _ _ from ⟨dR,uZ,uY,dD,rfl,xu,qM,qL⟩).up kX).up rK).up iN) (by have:=BN.len;have:=FZ.nh;omega)) ?_
     rintro _ agx ⟨av5,rfl,OE,Ov,OP,O5⟩
     refine cM as8<|aH 5 fun avE awD as5=>jn fun V9=>cM as5<|aH 6 fun avD awC SH=>jd 1 [0]<|cM SH<|zD 1<|bI atm ⟨V9,_,agx⟩ ⟨⟨OE▸Vd,wW BN OP,Ov⟩,O5⟩ Nat.zero_lt_one [0,2,1,3,4,5,6] (Sub.refl _)
    refine jn fun V9=>bw as6 [1,2,3,4,5,6]<|aH 4 fun als alN aes=>jc (vs:=[zP d,.agg ⟨[zI 2,zI 0,zI 0,.slice eL kO.length eF,.slice dR j5.length dD,zS,zS]⟩,.string ahU]) [1] (xb (hN.up (((bW.trans kX).trans rK).trans iN)) VA ((((show bK _ _ _ _ _ from ⟨dR,uZ,uY,dD,rfl,xu,qM,qL⟩).up kX).up rK).up iN) (by have:=BN.len;have:=FZ.nh;omega)) ?_
    rintro _ agx ⟨av5,rfl,OE,Ov,OP,O5⟩
    refine cM aes<|aH 6 fun alr alM aer=>jd 1 [1]<|cM aer<|zD 1<|bI atm ⟨V9,_,agx⟩ ⟨⟨OE▸Vd,wW BN OP,Ov⟩,O5⟩ Nat.zero_lt_one [1,2,0,3,4,5,6] (Sub.refl _)
   refine jn fun V9=>bw ata [1,2,3,4,5,6]<|aH 3 fun avC awB aeq=>jc [2] (VQ (hN.up (((bW.trans kX).trans rK).trans iN)) hA.2.2.2) ?_
   rintro _ aTm ⟨ahU,rfl,Vd,VA⟩
   refine iM aeq [[4]]<|aH 4 fun alq alL aep=>jc (vs:=[zP d,.agg ⟨[zI 2,zI 0,zI 0,.slice eL kO.length eF,.slice dR j5.length dD,zS,zS]⟩,.string ahU]) [0] (xb (hN.up (((bW.trans kX).trans rK).trans iN)) VA ((((show bK _ _ _ _ _ from ⟨dR,uZ,uY,dD,rfl,xu,qM,qL⟩).up kX).up rK).up iN) (by have:=BN.len;have:=FZ.nh;omega)) ?_
   rintro _ agx ⟨av5,rfl,OE,Ov,OP,O5⟩
   refine cM aep<|aH 6 fun alp alK SG=>jd 1 [1]<|cM SG<|zD 1<|bI atm ⟨V9,_,agx⟩ ⟨⟨OE▸Vd,wW BN OP,Ov⟩,O5⟩ Nat.zero_lt_one [1,2,0,3,4,5,6] (Sub.refl _)
  refine zD 4<|jf [2,0] (LB++LA) (fun aZ1 vK aAE=>?_)
  have hb:=hB.2.1.nv (Knows.left aAE)
  have ha:=hA.2.1.nv (Knows.right aAE)
  have hBF:=hb
  have hAF:=ha
  obtain⟨rV,Y0,YY,rE,rfl,YZ,W6,W5⟩:=hb
  obtain⟨rF,W9,W7,qN,rfl,W8,Us,Ur⟩:=ha
  refine zD 2<|jc (vs:=[zP d,zI 4]) [0] (Dw (hN.up ((((bW.trans kX).trans rK).trans iN).trans vK)) hA.2.2.2 (by omega)) ?_
  rintro _ bfd ⟨ahT,rfl,aWw,aWn,aDN⟩
  refine jn fun aE5=>Y6 (vs:=[zP d,.slice (some ⟨aE5,0,none⟩) 4 4]) [1] [0] [(aE5,.cells ⟨([1,2,4,ahT].map cS).flatten⟩ 3 (0,0))] (fun aA hs hZ=>afW ((hN.up ((((bW.trans kX).trans rK).trans iN).trans vK)).up hs) aDN (bR [1,2,4,ahT] hZ.head (by intro p hp;rfl)) (by simp)) ?_
  rintro _ bfc ⟨ZI,rfl,azt,aDM⟩
  refine zD 2<|jc (vs:=[zP d,zI 4]) [0] (Dw (hN.up ((((bW.trans kX).trans rK).trans iN).trans vK)) aDM (by omega)) ?_
  rintro _ bfb ⟨ahS,rfl,aWv,aWm,aDL⟩
  refine jn fun aE4=>Y6 (vs:=[zP d,.slice (some ⟨aE4,0,none⟩) 4 4]) [1] [0] [(aE4,.cells ⟨([1,2,4,ahS].map cS).flatten⟩ 3 (0,0))] (fun aA hs hZ=>afW ((hN.up ((((bW.trans kX).trans rK).trans iN).trans vK)).up hs) aDL (bR [1,2,4,ahS] hZ.head (by intro p hp;rfl)) (by simp)) ?_
  rintro _ bfa ⟨ZH,rfl,azs,aDK⟩
  refine zD 2<|jc (vs:=[zP d,zI 4]) [0] (Dw (hN.up ((((bW.trans kX).trans rK).trans iN).trans vK)) aDK (by omega)) ?_
  rintro _ be9 ⟨ahR,rfl,aWu,aWl,aDJ⟩
  refine jn fun aE3=>Y6 (vs:=[zP d,.slice (some ⟨aE3,0,none⟩) 4 4]) [1] [0] [(aE3,.cells ⟨([1,2,4,ahR].map cS).flatten⟩ 3 (0,0))] (fun aA hs hZ=>afW ((hN.up ((((bW.trans kX).trans rK).trans iN).trans vK)).up hs) aDJ (bR [1,2,4,ahR] hZ.head (by intro p hp;rfl)) (by simp)) ?_
  rintro _ be8 ⟨ZF,rfl,azr,aDI⟩
  refine jd 6 [5,5,5] ?_
  have AT:=apY azt (by omega:0≤ahT∧ahT≤4)
  have Ad:=apY azs (by omega:0≤ahS∧ahS≤4)
  have qG:=apY azr (by omega:0≤ahR∧ahR≤4)
  refine zD 6<|jc (vs:=[zP d,zI 2]) [0] (Dw (hN.up ((((bW.trans kX).trans rK).trans iN).trans vK)) aDI (by omega)) ?_
  rintro _ aTg ⟨aIR,rfl,aWt,aWk,aDH⟩
  refine zD 3<|qB<|eN [1,1,1,1,1,1,1,1,1,0,1,0,0] [] (fun(zz:Int×Value×Cells×(List iD)×Cells)=>[(0,zP d),(6,zP b6),(7,zP b7),(15,zI zz.1)]) (fun(zz:Int×Value×Cells×(List iD)×Cells)=>[.l zz.2.2.1,.l zz.2.2.2.2,.b rY (.cells ⟨[zI 2,zI 0,zI 0,.slice eL kO.length eF,.slice dR j5.length dD,zS,zS]⟩ 67 (0,0)),.b b7 (.cells ⟨[.slice (some ⟨dW,0,none⟩) 2 2,.slice fg Qu.length eA,zS,.slice eL kO.length eF,.slice dR j5.length dD,vR,.slice rV uG.length rE,.slice rF Ju.length qN,zI ZI,zI ZH,zI ZF,zz.2.1]⟩ 40 (0,0)),.b b6 (.cells ⟨[zS,zS,zS,zS,zS,zS,zS,zS,zI 0,zI 0,zI 0,zS]⟩ 40 (0,0))]) (fun(zz:Int×Value×Cells×(List iD)×Cells)=>(0≤zz.1∧zz.2.2.2.1.length+zz.1≤2)∧az zz.2.1 3 75 wo zz.2.2.2.1 zz.2.2.1∧AG uG.length Ju.length zz.2.2.2.1∧bD vd xs d zz.2.2.2.2) (fun(zz:Int×Value×Cells×(List iD)×Cells)=>zz.1.toNat) (⟨aIR,zS,[],[],aTg⟩) ⟨by simp only[List.length_nil];omega,az.nil _ _ _,⟨(fun _ h=>by cases h),List.Pairwise.nil⟩,aDH⟩ [0,1,5,6,7] ?_
  rintro⟨j,vF,LF,fs,X⟩ hF K58 aDx rest
  dsimp only at hF
  have arG:=hB.1
  have aWL:=hA.1
  refine zD 6<|jj 5 [(0,zP d),(6,zP b6),(7,zP b7),(15,zI j),(214,.bool ((decide (j>0))&&(decide ((uG.length:Int)>0))))] (fun gZ=>?_) (fun hj=>?_)
  rotate_left
  refine js 209 (decide (j>0)) (fun h56=>?_) (fun h56=>?_)
  ·
   have aeM:=h56
   replace aeM:=of_decide_eq_true aeM
   refine jd 5 [3]<|jw 214 (.bool ((decide (j>0))&&(decide ((uG.length:Int)>0)))) (w:= .bool (decide ((uG.length:Int)>0))) (by rw[h56]<;>rfl) ?_
   exact hj _ (by kernel_rfl) (by kernel_rfl)
  ·
   have aeM:=h56
   replace aeM:=of_decide_eq_false aeM
   refine zD 5<|jw 214 (.bool ((decide (j>0))&&(decide ((uG.length:Int)>0)))) (w:= .bool false) (by rw[h56]<;>rfl) ?_
   exact hj _ (by kernel_rfl) (by kernel_rfl)
  refine zD 1<|jj 5 [(0,zP d),(6,zP b6),(7,zP b7),(15,zI j),(220,.bool (((decide (j>0))&&(decide ((uG.length:Int)>0)))&&(decide ((Ju.length:Int)>0))))] (fun gZ=>?_) (fun hj=>?_)
  rotate_left
  refine js 215 ((decide (j>0))&&(decide ((uG.length:Int)>0))) (fun h57=>?_) (fun h57=>?_)
  ·
   have atv:=h57
   try simp only[zB] at atv
   refine jd 5 [3]<|jw 220 (.bool (((decide (j>0))&&(decide ((uG.length:Int)>0)))&&(decide ((Ju.length:Int)>0)))) (w:= .bool (decide ((Ju.length:Int)>0))) (by rw[h57]<;>rfl) ?_
   exact hj _ (by kernel_rfl) (by kernel_rfl)
  ·
   have atv:=h57
   try simp only[zB] at atv
   refine zD 5<|jw 220 (.bool (((decide (j>0))&&(decide ((uG.length:Int)>0)))&&(decide ((Ju.length:Int)>0)))) (w:= .bool false) (by rw[h57]<;>rfl) ?_
   exact hj _ (by kernel_rfl) (by kernel_rfl)
  refine zD 1<|js 220 (((decide (j>0))&&(decide ((uG.length:Int)>0)))&&(decide ((Ju.length:Int)>0))) (fun h58=>?_) (fun h58=>?_)
  ·
   try simp only[zB] at h58
   refine jd 8 [3]<|jc (vs:=[zP d,.agg ⟨[.slice (some ⟨dW,0,none⟩) 2 2,.slice fg Qu.length eA,zS,.slice eL kO.length eF,.slice dR j5.length dD,vR,.slice rV uG.length rE,.slice rF Ju.length qN,zI ZI,zI ZH,zI ZF,vF]⟩]) [1] (aSx (hN.up ((((bW.trans kX).trans rK).trans iN).trans vK)) hF.2.2.2 (show bK _ _ _ _ _ from ⟨rV,Y0,YY,rE,rfl,YZ,W6,W5⟩) (show bK _ _ _ _ _ from ⟨rF,W9,W7,qN,rfl,W8,Us,Ur⟩) (by omega)) ?_
   rintro _ aFo ⟨pM,rfl,aW0,aWZ,am5⟩
   refine jn fun b16=>jd 6 [0,4,0]<|jp (vs:=[.agg ⟨[.slice (some ⟨dW,0,none⟩) 2 2,.slice fg Qu.length eA,zS,.slice eL kO.length eF,.slice dR j5.length dD,vR,.slice rV uG.length rE,.slice rF Ju.length qN,zI ZI,zI ZH,zI ZF,vF]⟩,.agg ⟨[zI pM.a,zI pM.b,.bool pM.same]⟩]) [2] LF (fun aA hs hZ=>ay2 (x:=⟨pM.a,pM.b,pM.same⟩) (hF.2.1.nv hZ) (by omega))<|zD 2<|js 229 (!(TW fs pM.a pM.b)) (fun h59=>?_) (fun h59=>?_)
   ·
    try simp only[zB] at h59
    refine jd 5 [4,0]<|jn fun aE2=>k8 (sz:=3) (ps:=fs) (qs:=[(⟨pM.a,pM.b,pM.same⟩:iD)]) (enc:=wo) (w:= .slice (some ⟨aE2,0,none⟩) 1 1) [3] [0] [(aE2,.cells ⟨([(⟨pM.a,pM.b,pM.same⟩:iD)].map wo).flatten⟩ 75 (0,0))] (hF.2.1) (fun s _ hZ=>cb [(⟨pM.a,pM.b,pM.same⟩:iD)] (hZ _ (.head _)) (by intro p hp;rfl)) (fun p _=>ar rfl) (by simp<;>omega) (fun aZG aTK Vj=>?_)
    obtain⟨awf,av8,aAV⟩:=Vj.form
    subst aAV
    refine jd 5 [5]<|ja (j-1) (by omega)<|zD 2<|bI aDx (⟨j-1,(.slice awf ((fs++[(⟨pM.a,pM.b,pM.same⟩:iD)])).length av8),aTK,(fs++[(⟨pM.a,pM.b,pM.same⟩:iD)]),aFo⟩) ⟨by simp only[List.length_append,List.length_cons,List.length_nil];omega,Vj,AG.snoc hF.2.2.1 (by dsimp only;omega) (by dsimp only;omega) (by assumption),am5⟩ (by omega) [0,3,4,5,6] (Sub.refl _)
   try simp only[zB] at h59
   refine zD 4<|ja (j-1) (by omega)<|zD 2<|bI aDx (⟨j-1,vF,LF,fs,aFo⟩) ⟨by dsimp only;omega,hF.2.1,hF.2.2.1,am5⟩ (by omega) [2,1,3,4,5] (Sub.refl _)
  try simp only[zB] at h58
  refine zD 4<|jf [0] LF (fun aZ0 R5 aPj=>?_)
  have hFA:=hF.2.1.nv aPj
  refine jd 1 [2] ?_
  obtain⟨aJy,aI9,aPP⟩:=hR.2.1.form
  subst aPP
  obtain⟨aJx,aI8,aPO⟩:=hF.2.1.form
  subst aPO
  refine jd 3 [3]<|aF q0.a.a.a.a.a.a (.agg ⟨[.slice (some ⟨dW,0,none⟩) 2 2,.slice fg Qu.length eA,zS,.slice eL kO.length eF,.slice dR j5.length dD,(.slice aJy (rs).length aI9),.slice rV uG.length rE,.slice rF Ju.length qN,zI ZI,zI ZH,zI ZF,(.slice aJx (fs).length aI8)]⟩) [3] [0] X (Sub.refl _) ⟨_,_,X,rfl,rfl,(((((bW.trans kX).trans rK).trans iN).trans vK).trans R5),⟨ways,kO,Sv,rs,uG,Ju,ZI,ZH,ZF,fs,yh⟩,_,rfl,⟨Ql.2.1,FZ,⟨by dsimp only;omega,hR.2.2⟩,⟨by dsimp only;omega,hB.2.2.1⟩,⟨by dsimp only;omega,hA.2.2.1⟩,⟨AT,Ad,qG⟩,⟨by dsimp only;omega,hF.2.2.1.1⟩,hF.2.2.1.2,rfl⟩,⟨_,_,_,_,_,_,_,_,none,0,j5,rfl,(aQ3.up (((rK.trans iN).trans vK).trans R5)),(aBs.up ((iN.trans vK).trans R5)),(rO.up ((((kX.trans rK).trans iN).trans vK).trans R5)),BN,(hRU.up (vK.trans R5)),(hBF.up R5),(hAF.up R5),hFA⟩,hF.2.2.2⟩
 refine js 30 w30 (fun h65=>?_) (fun h65=>?_)
 ·
  subst h65
  refine jd 7 [1]<|aH 4 fun avA awz as3=>jc [0] (aEC (hN.up (bW.trans kX)) akv) ?_
  rintro _ X35 ⟨uu,rfl,azq,aRP⟩
  refine iM as3 [[1]]<|aH 5 fun avz awy aeo=>jn fun dJ=>bw aeo [1,2,3]<|zD 1<|aH 7 fun alo alJ aen=>jn fun b38=>bw aen [1,2,3,4]<|aH 8 fun avy awx as2=>aNn (E:=62) (sz:=1) jz (qs:=[(.slice (some ⟨dJ,0,none⟩) 1 1:Value)]) (w:= .slice (some ⟨b38,0,none⟩) 1 1) [0] [(b38,.cells ⟨([(.slice (some ⟨dJ,0,none⟩) 1 1:Value)].map jz).flatten⟩ 62 (0,0))] (fun s _ hZ=>cb [(.slice (some ⟨dJ,0,none⟩) 1 1:Value)] (hZ _ (.head _)) (by intro p hp;rfl)) (by intro p hp;rw[List.mem_singleton] at hp;subst hp;exact ar rfl) (by simp<;>omega) (fun v39 L39 BI=>?_)
  obtain⟨awe,av7,ad2⟩:=BI.form
  subst ad2
  refine bw as2 [1,2,3,4,5]<|zD 2<|aH 11 fun aUd aU3 aRr=>jd 1 [4]<|iM aRr []<|zD 4<|jc (vs:=[zP d,zI 2]) [3] (sZ (hN.up (bW.trans kX)) aRP (by omega)) ?_
  rintro _ X43 ⟨w43,rfl,aDG⟩
  refine zD 1<|js 43 w43 (fun h71=>?_) (fun h71=>?_)
  ·
   subst h71
   refine jd 8 [4,4]<|Y3 1 BI (show ([(.slice (some ⟨dJ,0,none⟩) 1 1:Value)])[0]?=some (.slice (some ⟨dJ,0,none⟩) 1 1:Value) from rfl) fun b50 aQC=>zD 1<|oV 0 [1] L39 (fun s _ hZ=>cv BI aQC hZ (show ([(.slice (some ⟨dJ,0,none⟩) 1 1:Value)])[0]?=some (.slice (some ⟨dJ,0,none⟩) 1 1:Value) from rfl))<|zD 1<|aH 10 fun aUc aU2 as1=>jc [0] (aEC (hN.up (bW.trans kX)) aDG) ?_
   rintro _ X54 ⟨uX,rfl,aNR,aRM⟩
   refine iM as1 [[1],[4],[4]]<|aH 11 fun aUb aU1 as0=>jn fun b55=>bw as0 [1,2,3,4,5,6]<|aH 12 fun aUa aU0 aRq=>k8 (sz:=7) (ps:=[(⟨uu.k,uu.st,uu.ot,uu.fn,uu.fl,uu.tn,uu.tl⟩:aM)]) (qs:=[(⟨uX.k,uX.st,uX.ot,uX.fn,uX.fl,uX.tn,uX.tl⟩:aM)]) (enc:=mO) (w:= .slice (some ⟨b55,0,none⟩) 1 1) [4] [0] [(b55,.cells ⟨([(⟨uX.k,uX.st,uX.ot,uX.fn,uX.fl,uX.tn,uX.tl⟩:aM)].map mO).flatten⟩ 58 (0,0))] (E3 (b:=dJ) (T:=58) [(⟨uu.k,uu.st,uu.ot,uu.fn,uu.fl,uu.tn,uu.tl⟩:aM)] rfl (by intro p hp;rfl)) (fun s _ hZ=>cb [(⟨uX.k,uX.st,uX.ot,uX.fn,uX.fl,uX.tn,uX.tl⟩:aM)] (hZ _ (.head _)) (by intro p hp;rfl)) (fun p _=>ar rfl) (by simp<;>omega) (fun v56 L56 vL=>?_)
   obtain⟨Ws,Wq,ad0⟩:=vL.form
   subst ad0
   refine iM aRq [[5],[5]]<|Y3 1 BI (show ([(.slice (some ⟨dJ,0,none⟩) 1 1:Value)])[0]?=some (.slice (some ⟨dJ,0,none⟩) 1 1:Value) from rfl) fun b57 aQB=>zD 1<|aH 15 fun aT9 aUZ asZ=>P7 3 0 [(.slice Ws (([(⟨uu.k,uu.st,uu.ot,uu.fn,uu.fl,uu.tn,uu.tl⟩:aM)]++[(⟨uX.k,uX.st,uX.ot,uX.fn,uX.fl,uX.tn,uX.tl⟩:aM)])).length Wq)] ((.slice Ws (([(⟨uu.k,uu.st,uu.ot,uu.fn,uu.fl,uu.tn,uu.tl⟩:aM)]++[(⟨uX.k,uX.st,uX.ot,uX.fn,uX.fl,uX.tn,uX.tl⟩:aM)])).length Wq):Value) BI aQB (show ([(.slice (some ⟨dJ,0,none⟩) 1 1:Value)])[0]?=some (.slice (some ⟨dJ,0,none⟩) 1 1:Value) from rfl) rfl rfl (Nat.le_of_ble_eq_true rfl) fun L76 aOI=>iM asZ []<|zD 1<|Oi bF ⟨(.slice awe ([(.slice (some ⟨dJ,0,none⟩) 1 1:Value)]).length av7),L76++L56,[[uu,uX]],X54⟩ ⟨fun _ hk=>⟨_,aOI.nv hk.left,.cons (vL.nv hk.right) .nil⟩,⟨by simp,by simpa using ⟨azq,aNR⟩⟩,aRM⟩ Nat.zero_lt_one [[0,1],[3],[5],[6]] (Sub.refl _)
  subst h71
  refine zD 2<|Oi bF ⟨(.slice awe ([(.slice (some ⟨dJ,0,none⟩) 1 1:Value)]).length av7),L39++[(dJ,.cells ⟨[zI uu.k,zI uu.st,zI uu.ot,zI uu.fn,zI uu.fl,zI uu.tn,zI uu.tl]⟩ 58 (0,0))],[[uu]],X43⟩ ⟨fun _ hk=>⟨_,BI.nv hk.left,.cons (bR [uu] (hk.right _ (.head _)) (fun _ _=>rfl)) .nil⟩,⟨by simp,by simpa using azq⟩,aDG⟩ Nat.zero_lt_one [[1,3],[0],[4],[5]] (Sub.refl _)
 subst h65
 refine zD 2<|qB<|bI bF ⟨zS,[],[],X30⟩ ⟨fun _ _=>QN,⟨by simp,by simp⟩,akv⟩ Nat.zero_lt_one [0,1,2,3] (Sub.refl _)
theorem aSz{ro:Nat→Option Obj}(hl:bK ro vd 1 cS xs):eG zT 4 [vd] ro [] (fun r Y=>∃d,r= zP d∧bD vd xs d Y):=by
 obtain⟨fL,rD,rC,eV,rfl,tH,lJ,mE⟩:=hl
 refine bC au [] [] bn<|zD 8<|jn fun b5=>zD 3<|aF q0 (zP b5) [] [0] [(b5,.cells ⟨[.slice fL xs.length eV,zI 0,zU 11400714819323198485]⟩ 51 (0,0))] (Sub.refl _) ⟨_,_,rfl,rfl,_,rfl,0,_,Nat.zero_le _,rfl⟩
theorem dK.set{R:α→β→Prop}{l:List α}{m:List β}(h:dK R l m){a:α}{b:β}(hb:m[k]?=some b) (hr:R a b):dK R (l.set k a) m:=by
 induction h generalizing k with
 |nil=>simp at hb
 |cons h1 h2 ih=>
  cases k with
  |zero=>simp at hb;subst hb;exact .cons hr h2
  |succ k=>exact .cons h1 (ih (by simpa using hb))
theorem dK.mem{R:α→β→Prop}{l:List α}{m:List β}(h:dK R l m){a:α}(ha:a∈l):∃b∈m,R a b:=by
 obtain⟨i,hi⟩:=List.getElem?_of_mem ha
 obtain⟨b,hb,hr⟩:=h.get hi
 exact⟨b,List.mem_of_getElem? hb,hr⟩
theorem mI{ro:Nat→Option Obj}{hv:List bp}(h:dK (rj ro) hv hd):∀p∈hv,∀c∈me p,single c=true:=fun p hp=>by
 obtain⟨y,_,h1⟩:=h.mem hp
 obtain⟨w,c,s,a⟩:=p
 obtain⟨_,_,_,_,e,_⟩:=h1.2.2.2
 dsimp only at e
 subst e
 exact ar rfl
theorem Pv{ro:Nat→Option Obj}{hw:List bp}{Z L:Cells}{v:Value}{x x':bp}{y:bY}(h:∀aL,Sub ro aL→Knows aL Z→dK (rj aL) hw hd)(hS:dK dC hw hd)(hx:hw[k]?=some x) (lO:hw[k]?=some x') (hy:hd[k]?=some y) (ho:az v 1 3 cS y.eg L):
 (∀aL,Sub ro aL→Knows aL (L++Z)→dK (rj aL) (hw.set k ⟨x'.word,x'.cls,x'.n5,v⟩) hd)∧dK dC (hw.set k ⟨x'.word,x'.cls,x'.n5,v⟩) hd:=by
 rw[hx] at lO;cases lO
 obtain⟨y',h1,h2⟩:=hS.get hx
 rw[hy] at h1;cases h1
 exact⟨fun aL hs hk=>(h aL hs hk.right).set hy ⟨h2.1,h2.2.1,h2.2.2,ho.nv hk.left⟩,hS.set hy h2⟩
theorem Yo{l m:List α}{a:α}(h:l.drop k=m.drop k):(l.set k a).drop (k+1)=m.drop (k+1):=by
 have h1:=congrArg (List.drop 1) h
 rw[List.drop_drop,List.drop_drop] at h1
 rw[List.drop_set_of_lt (by omega)]
 exact h1
theorem afR{l m:List α}{a:α}(h:l.drop k=m.drop k)(ha:l[k]?=some a):m[k]?=some a:=by
 have h1:=congrArg (fun q=>q[0]?) h
 simp only[List.getElem?_drop,Nat.add_zero] at h1
 rw[←h1];exact ha
theorem Fw{hv:List bp}{ro:Nat→Option Obj}(hT:Wd cs hd)(hR:jT ro vc vh cs hv hd)(hS:dK dC hv hd):eG zT 21 [.agg ⟨[vc,vh]⟩] ro [] (fun r Y=>∃(hw:List bp) (ca ha:Option Addr) (cc hc:Nat) (Z:Cells),r= .agg ⟨[.slice ca cs.length cc,.slice ha hw.length hc]⟩∧dK dC hw hd∧(∀aL,Sub ro aL→Knows aL Z→jT aL (.slice ca cs.length cc) (.slice ha hw.length hc) cs hw hd)∧Y=Z):=by
 obtain⟨hc,hh,cY⟩:=id hR
 obtain⟨eL,AR,AQ,eF,rfl,Da,yR,yQ⟩:=hc
 obtain⟨dR,uZ,uY,dD,rfl,xu,qM,qL⟩:=hh
 have hlen:=hS.len
 have hnh:=hT.nh
 have CC:=hT.nc
 refine bC au [] [] bn<|zD 2<|jn fun b1=>jn fun b2=>zD 2<|HD [1,1] [] (fun(zz:Value×Cells×Value×Cells)=>[(1,zP b1),(2,zP b2)]) (fun(zz:Value×Cells×Value×Cells)=>[.b b1 (.cells ⟨[zz.1,zz.2.2.1]⟩ 35 (0,0)),.l zz.2.1,.l zz.2.2.2,.b b2 (.cells ⟨[zS,zS]⟩ 35 (0,0))]) (fun(zz:Value×Cells×Value×Cells)=>az zz.1 2 114 oP cs zz.2.1∧az zz.2.2.1 4 117 me hv zz.2.2.2) ?_ (fun K1 bF=>?_)
 ·
  rintro⟨vC,LC,vH,LH⟩ hJ rest
  dsimp only at hJ
  refine zD 6<|qB<|eN [1,1,0,1,0,0] [] (fun(zz:Nat×Value×Cells×(List bp)×Cells)=>[(1,zP b1),(2,zP b2),(3,zI (zz.1:Int))]) (fun(zz:Nat×Value×Cells×(List bp)×Cells)=>[.b b1 (.cells ⟨[vC,zz.2.1]⟩ 35 (0,0)),.l zz.2.2.1,.l zz.2.2.2.2,.l LC,.b b2 (.cells ⟨[zS,zS]⟩ 35 (0,0))]) (fun(zz:Nat×Value×Cells×(List bp)×Cells)=>(zz.1≤zz.2.2.2.1.length∧zz.2.2.2.1.length=hv.length∧zz.2.2.2.1.drop zz.1=hv.drop zz.1)∧az zz.2.1 4 117 me zz.2.2.2.1 zz.2.2.1∧(∀aL,Sub ro aL→Knows aL zz.2.2.2.2→dK (rj aL) zz.2.2.2.1 hd)∧dK dC zz.2.2.2.1 hd) (fun(zz:Nat×Value×Cells×(List bp)×Cells)=>hv.length-zz.1) (⟨0,vH,LH,hv,[]⟩) ⟨⟨by omega,rfl,rfl⟩,hJ.2,fun _ hs _=>(hR.up hs).2.2,hS⟩ [1,3,0,2,4] ?_
  rintro⟨k,vH,LH,hw,Z⟩ hI K2 mL rest
  dsimp only at hI
  refine jd 6 [0]<|DY hI.2.1<|zD 2<|zJ 18 ((k:Int) <(hw.length:Int)) (fun h1=>?_) fun h1=>?_
  ·
   refine jd 11 [0,0] ?_
   obtain⟨x27,HH⟩:=zG hw k
   refine Y3 4 hI.2.1 HH fun b27 aQO=>zD 1<|oV 3 [1] LH (fun s _ hZ=>cv hI.2.1 aQO hZ HH)<|aH 9 (fun rZ si qG=>?_)
   obtain⟨y27,aqF,aOs⟩:=hR.2.2.get (afR hI.1.2.2 HH)
   have aWY:=(hT.Ab _ _ aqF).2.2.1.1
   refine jc (vs:=[x27.eg]) [] (acy aOs.2.2.2 (by omega)) ?_
   rintro v30 L30 ⟨_,BJ,rfl⟩
   refine bw qG [1,2,3,4,5] ?_
   obtain⟨x31,ajN⟩:=zG hw k
   refine Y3 4 hI.2.1 ajN fun gh aQM=>zD 1<|aH 12 (fun tw tz rP=>?_)
   obtain⟨va4,vc4,he4⟩:=BJ.form
   subst he4
   refine P7 2 3 [(.slice va4 (y27.eg).length vc4)] (⟨x31.word,x31.cls,x31.n5,(.slice va4 (y27.eg).length vc4)⟩:bp) hI.2.1 aQM ajN rfl rfl (Nat.le_of_ble_eq_true rfl) fun L5 ho6=>iM rP []<|zD 3<|ja ((k:Int)+1) (by omega)<|zD 2<|Oi mL (⟨k+1,vH,L5,(hw.set k (⟨x31.word,x31.cls,x31.n5,(.slice va4 (y27.eg).length vc4)⟩:bp)),L30++Z⟩) ⟨⟨by rw[List.length_set];omega,by rw[List.length_set];exact hI.1.2.1,Yo hI.1.2.2⟩,ho6,(Pv hI.2.2.1 hI.2.2.2 HH ajN aqF BJ).1,(Pv hI.2.2.1 hI.2.2.2 HH ajN aqF BJ).2⟩ (by omega) [[2],[0],[1,3],[4],[5]] (Sub.refl _)
  refine jd 5 [0] ?_
  obtain⟨QA,Qw,OX⟩:=hJ.1.form
  subst OX
  obtain⟨va8,vc8,he8⟩:=hI.2.1.form
  subst he8
  refine jd 3 [4]<|aF q0 (.agg ⟨[(.slice QA (cs).length Qw),(.slice va8 (hw).length vc8)]⟩) [4] [1,2,3] (LH++(Z++LC)) (Sub.refl _) ⟨_,_,rfl,rfl,hw,_,_,_,_,_,rfl,hI.2.2.2,fun aL hs hk=>⟨hJ.1.nv hk.right.right,hI.2.1.nv hk.left,hI.2.2.1 aL hs hk.right.left⟩,rfl⟩
 refine jd 5 [1,1]<|lD [0,4] ⟨fun z5 t6 O2=>?_,fun z8 t9 vN=>?_,trivial⟩
 ·
  refine jn fun b4=>bw O2 [1,2]<|lD [3,4] ⟨fun z11 t12 F4=>?_,fun z14 t15 HR=>?_,trivial⟩
  ·
   refine k8 (sz:=2) (ps:=[]) (qs:=cs) (enc:=oP) (w:= .slice eL cs.length eF) [0] [] [] (cD (b:=b4) (T:=114)) (fun s he _=>⟨eL,AR,AQ,eF,rfl,yR,fun i p hp=>(yQ i p hp).ext he⟩) (fun p _=>ar rfl) (by simp<;>omega) (fun v7 L7 iI=>?_)
   rw[List.nil_append] at iI
   obtain⟨QA,Qw,OX⟩:=iI.form
   subst OX
   refine iM F4 [[2]]<|zD 1<|aH 4 fun aly alS Lc=>jn fun b8=>bw Lc [1,2,3]<|aH 7 fun avS awR aey=>k8 (sz:=4) (ps:=[]) (qs:=hv) (enc:=me) (w:= .slice dR hv.length dD) [0] [] [] (cD (b:=b8) (T:=117)) (fun s he _=>⟨dR,uZ,uY,dD,rfl,qM,fun i p hp=>(qL i p hp).ext he⟩) (mI cY) (by simp only[List.length_nil,Nat.zero_add];omega) (fun v11 L11 qd=>?_)
   rw[List.nil_append] at qd
   obtain⟨ZW,ZP,ad5⟩:=qd.form
   subst ad5
   refine iM aey []<|aH 9 fun avR awQ SN=>jd 1 [3]<|cM SN<|zD 1<|aH 11 fun avQ awP SM=>jd 1 [3]<|cM SM<|zD 1<|bI bF ⟨(.slice QA (cs).length Qw),L7,(.slice ZW (hv).length ZP),L11⟩ ⟨iI,qd⟩ Nat.zero_lt_one [3,1,0,2] (Sub.refl _)
  refine jn fun b8=>bw HR [1,2,3]<|aH 3 fun avP awO Ya=>k8 (sz:=2) (ps:=[]) (qs:=cs) (enc:=oP) (w:= .slice eL cs.length eF) [1] [] [] (cD (b:=b4) (T:=114)) (fun s he _=>⟨eL,AR,AQ,eF,rfl,yR,fun i p hp=>(yQ i p hp).ext he⟩) (fun p _=>ar rfl) (by simp<;>omega) (fun v7 L7 iI=>?_)
  rw[List.nil_append] at iI
  obtain⟨QA,Qw,OX⟩:=iI.form
  subst OX
  refine iM Ya [[3]]<|zD 1<|aH 7 fun avO awN SL=>k8 (sz:=4) (ps:=[]) (qs:=hv) (enc:=me) (w:= .slice dR hv.length dD) [1] [] [] (cD (b:=b8) (T:=117)) (fun s he _=>⟨dR,uZ,uY,dD,rfl,qM,fun i p hp=>(qL i p hp).ext he⟩) (mI cY) (by simp only[List.length_nil,Nat.zero_add];omega) (fun v11 L11 qd=>?_)
  rw[List.nil_append] at qd
  obtain⟨ZW,ZP,ad5⟩:=qd.form
  subst ad5
  refine iM SL []<|aH 9 fun avN awM aex=>jd 1 [3]<|cM aex<|zD 1<|aH 11 fun aUm aVc ath=>jd 1 [3]<|cM ath<|zD 1<|bI bF ⟨(.slice QA (cs).length Qw),L7,(.slice ZW (hv).length ZP),L11⟩ ⟨iI,qd⟩ Nat.zero_lt_one [3,1,0,2] (Sub.refl _)
 refine jn fun b8=>bw vN [1,2]<|aH 0 fun avM awL La=>jn fun b4=>bw La [1,2,3]<|aH 3 fun alx alR O4=>k8 (sz:=2) (ps:=[]) (qs:=cs) (enc:=oP) (w:= .slice eL cs.length eF) [0] [] [] (cD (b:=b4) (T:=114)) (fun s he _=>⟨eL,AR,AQ,eF,rfl,yR,fun i p hp=>(yQ i p hp).ext he⟩) (fun p _=>ar rfl) (by simp<;>omega) (fun v7 L7 iI=>?_)
 rw[List.nil_append] at iI
 obtain⟨QA,Qw,OX⟩:=iI.form
 subst OX
 refine iM O4 [[3]]<|zD 1<|aH 7 fun Zu aaf SK=>k8 (sz:=4) (ps:=[]) (qs:=hv) (enc:=me) (w:= .slice dR hv.length dD) [1] [] [] (cD (b:=b8) (T:=117)) (fun s he _=>⟨dR,uZ,uY,dD,rfl,qM,fun i p hp=>(qL i p hp).ext he⟩) (mI cY) (by simp only[List.length_nil,Nat.zero_add];omega) (fun v11 L11 qd=>?_)
 rw[List.nil_append] at qd
 obtain⟨ZW,ZP,ad5⟩:=qd.form
 subst ad5
 refine iM SK []<|aH 9 fun Zt aae F3=>jd 1 [3]<|cM F3<|zD 1<|aH 11 fun TJ TX K0=>jd 1 [3]<|cM K0<|zD 1<|bI bF ⟨(.slice QA (cs).length Qw),L7,(.slice ZW (hv).length ZP),L11⟩ ⟨iI,qd⟩ Nat.zero_lt_one [3,1,0,2] (Sub.refl _)
end Go.L
