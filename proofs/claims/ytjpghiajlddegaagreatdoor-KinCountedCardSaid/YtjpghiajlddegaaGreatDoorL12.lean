/- Part 12 of the proof: a program logic, contracts, a theorem on goroutines. -/
import Derived.Test.YtjpghiajlddegaaGreatDoorL11
set_option maxRecDepth 100000
set_option linter.all false
namespace Go.L
open Go Go.Conc Go.Proofs
variable {hd:List bZ} {i k nc nh:Nat} {aK:Nat→Option Obj} {α β:Type} {al xs:List Int} {cs:List bF} {vd:Value}
def kY(i:Nat)(k:Nat)(al:List Int):Prop:=al.length≤k∧al.Pairwise (· < ·)∧∀y∈al,0≤y∧y <k∧y≠i
theorem pG{l:List α}{R:α→α→Prop}(h:l.Pairwise R){j:Nat}{a b:α}(G9:i <j)(ha:l[i]?=some a) (hb:l[j]?=some b):R a b:=by
 obtain⟨h1,rfl⟩:=List.getElem?_eq_some_iff.1 ha
 obtain⟨h2,rfl⟩:=List.getElem?_eq_some_iff.1 hb
 exact List.pairwise_iff_getElem.1 h i j h1 h2 G9
theorem aaK{l:List α}{f:α→β}{R:β→β→Prop}(h:∀(i j:Nat) (a b:α),i <j→l[i]?=some a→l[j]?=some b→R (f a) (f b)):(l.map f).Pairwise R:=by
 rw[List.pairwise_map,List.pairwise_iff_getElem]
 exact fun i j hi hj G9=>h i j _ _ G9 (List.getElem?_eq_getElem hi) (List.getElem?_eq_getElem hj)
theorem Qx{a b:ByteArray}(h:cH a b=false):cH b a=false:=by
 cases h2:cH b a with
 |false=>rfl
 |true=>rw[AZ.1 h2,AZ.2 rfl] at h;cases h
theorem Wl{J9 jY:List Int}{hv:List bp}{Z:Cells}(hc:nz J9 cs)(hp:J9.Perm (dc mT.length))(hn:0 <cs.length∧cs.length≤3)(hh:mA jY cs.length hv hd Z i)(hi:i=jY.length)(h4:jY.length≤4)(hs:jY.Pairwise (· < ·))(hm:∀x∈jY,0≤x∧x <oL.length):wj cs hd:=by
 obtain⟨g1,g2,g3,g4,_⟩:=hh
 have iE:∀y∈J9,0≤y∧y <mT.length:=fun y hy=>pE (hp.mem_iff.1 hy)
 have lI:J9.Pairwise (· ≠·):=(hp.pairwise_iff (fun h=>Ne.symm h)).2 ((q7 _).imp fun h=>by omega)
 refine⟨hn,by omega,fun k c hk=>?_,aaK fun a b x y Ea hx hy=>?_,fun k x hk=>?_,aaK fun a b x y Ea hx hy=>?_⟩
 ·obtain⟨⟨y,h1,h2⟩,h3⟩:=hc k c hk
  exact⟨List.mem_of_getElem? h2,h3⟩
 ·obtain⟨⟨p,p1,p2⟩,_⟩:=hc a x hx
  obtain⟨⟨q,q1,q2⟩,_⟩:=hc b y hy
  have Vb:=pG lI Ea p1 q1
  have hp0:=iE p (List.mem_of_getElem? p1)
  have Va:=iE q (List.mem_of_getElem? q1)
  rcases Nat.lt_trichotomy p.toNat q.toNat with h|h|h
  ·exact pG Cb h p2 q2
  ·exact absurd (show p=q by omega) Vb
  exact Qx (pG Cb h q2 p2)
 ·obtain⟨⟨w,h1,h2⟩,h3⟩:=g4 k x hk
  have:hd.length=jY.length:=by omega
  rw[this]
  exact⟨List.mem_of_getElem? h2,h3⟩
 obtain⟨⟨p,p1,p2⟩,_⟩:=g4 a x hx
 obtain⟨⟨q,q1,q2⟩,_⟩:=g4 b y hy
 have Vb:=pG hs Ea p1 q1
 have hp0:=hm p (List.mem_of_getElem? p1)
 exact pG S5 (show p.toNat <q.toNat by omega) p2 q2
theorem kY.step(h:kY i k al):kY i (k+1) al:=⟨by have:=h.1;omega,h.2.1,fun y hy=>by have:=h.2.2 y hy;omega⟩
theorem kY.snoc(h:kY i k al)(hk:(k:Int)≠i):kY i (k+1) (al++[(k:Int)]):=by
 refine⟨by have:=h.1;simp;omega,List.pairwise_append.2 ⟨h.2.1,List.pairwise_singleton _ _,fun a ha b hb=>?_⟩,qi (fun y hy=>by have:=h.2.2 y hy;omega) (by omega)⟩
 rw[List.mem_singleton] at hb;subst hb
 exact(h.2.2 a ha).2.1
theorem adE{r:Int}{w:ByteArray}(h:0≤r∧r <nh∧r≠i)(h4:0 <nc):gB nc nh i ⟨w,-1,r,[]⟩:=
 have h1:=h.1
 have h2:=h.2.1
 have h3:=h.2.2
 ⟨⟨by simp,by simp<;>omega⟩,⟨by simp<;>omega,by simpa using h2,by simpa using h3⟩,⟨by simp,by simp,by simp⟩,fun _=>⟨rfl,rfl⟩,fun h=>by simp at h;omega⟩
theorem I1{c:Int}{w:ByteArray}(hc:0≤c∧c <nc)(h:kY i k al)(hk:k≤nh)(hi:i <nh):gB nc nh i ⟨w,c,-1,al⟩:=
 ⟨⟨by simp<;>omega,by simpa using hc.2⟩,⟨by simp,by simp<;>omega,by simp<;>omega⟩,⟨by have:=h.1;simp<;>omega,h.2.1,fun y hy=>by have:=h.2.2 y hy;simp<;>omega⟩,fun hh=>by simp at hh,fun _ hh=>by simp at hh;omega⟩
theorem adF{w:ByteArray}(h:kY i k al)(hk:k≤nh)(hi:i <nh)(dP:(al.length:Int)>0):gB nc nh i ⟨w,-1,-1,al⟩:=
 ⟨⟨by simp,by simp<;>omega⟩,⟨by simp,by simp<;>omega,by simp<;>omega⟩,⟨by have:=h.1;simp<;>omega,h.2.1,fun y hy=>by have:=h.2.2 y hy;simp<;>omega⟩,fun hh=>by simp at hh,fun _ _ hh=>by simp at hh;subst hh;simp at dP⟩
set_option maxHeartbeats 1000000 in
theorem akz {d:Nat} {X:Cells} {ro:Nat→Option Obj} (hN:Dn ro vd xs) (hD:bD vd xs d X):eo zT 25 [zP d,zI 3,zI 4] ro X (fun r Y=>∃(cs:List bF) (hv:List bp) (hd:List bZ) (vc vh:Value) (Z X':Cells),r= .agg ⟨[vc,vh]⟩∧wj cs hd∧dD dq hv hd∧(∀aK,Knows aK Z→jz aK vc vh cs hv hd)∧Y=Z++X'∧bD vd xs d X'):=by
 refine bA au [.l X] [] bn<|zD 2<|jn fun b6=>zD 3<|jn fun b7=>zD 4<|jc [] (ab4) ?_
 rintro v16 L16 ⟨_,aN7,rfl⟩
 refine DX aN7<|jc (vs:=[zP d,zI (mT.length:Int)]) [3] (afy hN hD (by first|omega|decide)) ?_
 rintro v18 _ ⟨J9,L18,X18,XH,Og,rfl,ON⟩
 refine jg 0 [.l L18,.l X18]<|zD 7<|jc (vs:=[zP d,zI 1,zI 3]) [1] (An hN ON (by omega) (by omega)) ?_
 rintro _ X21 ⟨w21,rfl,ajz,pS,aRn⟩
 refine zD 3<|pQ<|ez [1,1,1,0,1,0,0] [] (fun(zz:Int×Value×Cells×(List bF)×Cells)=>[(0,zP d),(2,zI 4),(6,zP b6),(7,zP b7),(8,v18),(9,zI zz.1)]) (fun(zz:Int×Value×Cells×(List bF)×Cells)=>[.l zz.2.2.1,.l zz.2.2.2.2,.b b7 (.cells ⟨[zz.2.1,zS]⟩ 33 (0,0)),.l L18,.b b6 (.cells ⟨[zS,zS]⟩ 33 (0,0))]) (fun(zz:Int×Value×Cells×(List bF)×Cells)=>(0≤zz.1∧zz.2.2.2.1.length+zz.1=w21)∧az zz.2.1 2 130 oD zz.2.2.2.1 zz.2.2.1∧nz J9 zz.2.2.2.1∧bD vd xs d zz.2.2.2.2) (fun(zz:Int×Value×Cells×(List bF)×Cells)=>zz.1.toNat) (⟨w21,zS,[],[],X21⟩) ⟨by simp only[List.length_nil];omega,az.nil _ _ _,(fun i c h=>by simp at h),aRn⟩ [0,1,4,2,5] ?_
 rintro⟨j,vC,LC,cs,X⟩ hI K1 bM rest
 dsimp only at hI
 have hlen:J9.length=9:=by rw[Og.length_eq,k7];rfl
 refine zD 6<|zJ 23 (j>0) (fun h1=>?_) fun h1=>?_
 ·
  refine jd 10 [2,2]<|DX hI.2.1 ?_
  obtain⟨x33,acu⟩:=zG J9 (cs.length)
  refine YP 1 XH acu fun b33 aP0=>oJ 0 [3] L18 (fun s _ hZ=>cv XH aP0 hZ acu)<|jd 3 [2]<|DX hI.2.1<|ja ((cs.length:Int)-1) (by omega)<|aN 2 fun CM CY BG=>jc [] (ab4) ?_
  rintro v28 L28 ⟨_,azd,rfl⟩
  refine bC BG [1,2,3,4,5] ?_
  obtain⟨x35,RL⟩:=zG mT (x33.toNat) (by have:=pE (Og.mem_iff.1 (List.mem_of_getElem? acu));omega)
  refine pP x33 1 azd RL (Int.toNat_of_nonneg (show 0≤x33∧x33 <((mT).length:Int) from (pE (Og.mem_iff.1 (List.mem_of_getElem? acu)))).1).symm fun b35 aPY=>oJ 0 [0] L28 (fun s _ hZ=>cv azd aPY hZ RL)<|aN 16 fun sW sZ rD=>jc (vs:=[zP d,zI (-1),zI ((cs.length:Int)-1)]) [2] (An hN hI.2.2.2 (by omega) (by omega)) ?_
  rintro _ X42 ⟨w42,rfl,bbk,RJ,aRh⟩
  refine iS rD [[1],[3],[4],[3],[3]]<|zD 1<|aN 18 fun uv uw sB=>jn fun cZ=>bC sB [1,2,3,4,5,6]<|aN 19 fun CL CX Dp=>ku (sz:=2) (ps:=cs) (qs:=[(⟨x35,w42⟩:bF)]) (enc:=oD) (w:= .slice (some ⟨cZ,0,none⟩) 1 1) [3] [0] [(cZ,.cells ⟨([(⟨x35,w42⟩:bF)].map oD).flatten⟩ 130 (0,0))] (hI.2.1) (fun s _ hZ=>bX [(⟨x35,w42⟩:bF)] (hZ _ (.head _)) (by intro p hp;rfl)) (fun p _=>an rfl) (by simp<;>omega) (fun v45 L45 acZ=>?_)
  obtain⟨anP,anF,arI⟩:=acZ.form
  subst arI
  refine iS Dp [[3],[4],[5],[4]]<|zD 1<|aN 21 fun ahq ahP hL6=>jd 1 [4]<|eO hL6<|zD 3<|ja (j-1) (by omega)<|zD 2<|bO bM (⟨j-1,(.slice anP ((cs++[(⟨x35,w42⟩:bF)])).length anF),L45,(cs++[(⟨x35,w42⟩:bF)]),X42⟩) ⟨by simp only[List.length_append,List.length_cons,List.length_nil];omega,acZ,nz.snoc hI.2.2.1 acu RL (by omega),aRh⟩ (by omega) [0,2,4,5,6] (Sub.refl _)
 refine zD 5<|jc [] (aci) ?_
 rintro v48 L48 ⟨_,aNY,rfl⟩
 refine DX aNY<|zD 2<|jc (vs:=[zP d,zI 4]) [2] (Du hN hI.2.2.2 (by omega)) ?_
 rintro _ X52 ⟨w52,rfl,bbj,Bx,aRg⟩
 refine jc (vs:=[zP d,zI (oL.length:Int),zI w52]) [0] (aDW hN aRg (by first|omega|decide)) ?_
 rintro v53 _ ⟨jY,L53,X53,aqQ,bcd,vo,ado,rfl,akc⟩
 refine jg 0 [.l L53,.l X53]<|zD 5<|DX aqQ<|zD 8<|pQ<|pQ<|ez [1,1,1,1,1,1,0,1,0,0] [] (fun(zz:Nat×Value×Cells×(List bp)×(List bZ)×Cells×Cells)=>[(0,zP d),(6,zP b6),(7,zP b7),(10,v53),(11,zI (jY.length:Int)),(12,zI (zz.1:Int))]) (fun(zz:Nat×Value×Cells×(List bp)×(List bZ)×Cells×Cells)=>[.l zz.2.2.1,.l zz.2.2.2.2.2.1,.l zz.2.2.2.2.2.2,.l LC,.b b7 (.cells ⟨[vC,zz.2.1]⟩ 33 (0,0)),.l L53,.b b6 (.cells ⟨[zS,zS]⟩ 33 (0,0))]) (fun(zz:Nat×Value×Cells×(List bp)×(List bZ)×Cells×Cells)=>zz.1≤jY.length∧az zz.2.1 4 133 lK zz.2.2.2.1 zz.2.2.1∧mA jY cs.length zz.2.2.2.1 zz.2.2.2.2.1 zz.2.2.2.2.2.1 zz.1∧bD vd xs d zz.2.2.2.2.2.2) (fun(zz:Nat×Value×Cells×(List bp)×(List bZ)×Cells×Cells)=>jY.length-zz.1) (⟨0,zS,[],[],[],[],X53⟩) ⟨by omega,az.nil _ _ _,⟨fun _ _=> .nil,rfl,rfl,(fun k x h=>by simp at h),.nil⟩,akc⟩ [1,0,3,5,6,2,8] ?_
 rintro⟨i,vH,LH,hv,hd,Z,X⟩ hJ K7 hK7 rest
 dsimp only at hJ
 have hll:=hJ.2.2.1.2.2.1
 have PY:jY.length≤4:=by omega
 have ir:cs.length≤3:=by omega
 refine zD 7<|zJ 58 ((i:Int) <(jY.length:Int)) (fun h7=>?_) fun h7=>?_
 ·
  refine zD 5<|IT [1,1,1,1,1,1,0,1,0,0,1,0,0,1] [K7] (fun(zz:Nat×Int×Int×ByteArray×Cells)=>[(0,zP d),(6,zP b6),(7,zP b7),(10,v53),(11,zI (jY.length:Int)),(12,zI (i:Int)),(13,zP zz.1)]) (fun(zz:Nat×Int×Int×ByteArray×Cells)=>[.b zz.1 (.cells ⟨[.string zz.2.2.2.1,zI zz.2.1,zI (-1),zS]⟩ 133 (0,0)),.l LH,.l Z,.l zz.2.2.2.2,.l LC,.b b7 (.cells ⟨[vC,vH]⟩ 33 (0,0)),.l L53,.b b6 (.cells ⟨[zS,zS]⟩ 33 (0,0))]) (fun(zz:Nat×Int×Int×ByteArray×Cells)=>jY[i]?=some zz.2.2.1∧oL[zz.2.2.1.toNat]?=some zz.2.2.2.1∧(0≤zz.2.1∧zz.2.1 <cs.length)∧bD vd xs d zz.2.2.2.2) ?_ (fun K8 hK8=>?_)
  ·
   rintro⟨yP,w,y,x,X⟩ Qa rest
   dsimp only at Qa
   refine zD 2<|IT [1,1,1,1,1,1,0,1,0,0,1,0,0,1,0,1] [K7] (fun(zz:Bool×Cells)=>[(0,zP d),(6,zP b6),(7,zP b7),(10,v53),(11,zI (jY.length:Int)),(12,zI (i:Int)),(13,zP yP),(80,.bool zz.1)]) (fun(zz:Bool×Cells)=>[.b yP (.cells ⟨[.string x,zI w,zI (-1),zS]⟩ 133 (0,0)),.l LH,.l Z,.l zz.2,.l LC,.b b7 (.cells ⟨[vC,vH]⟩ 33 (0,0)),.l L53,.b b6 (.cells ⟨[zS,zS]⟩ 33 (0,0))]) (fun(zz:Bool×Cells)=>(zz.1=true→1 <jY.length)∧bD vd xs d zz.2) ?_ (fun K9 hK9=>?_)
   ·
    rintro⟨q,X⟩ hJ3 rest
    dsimp only at hJ3
    refine js 80 q (fun h8=>?_) (fun h8=>?_)
    ·
     subst h8
     have hgt:=hJ3.1 rfl
     refine zD 4<|ja ((i:Int)+1) (by omega)<|zD 2<|ja ((jY.length:Int)-2) (by omega)<|zD 2<|aN 5 fun HY H4 yt=>jc (vs:=[zP d,zI ((jY.length:Int)-2)]) [3] (Du hN hJ3.2 (by omega)) ?_
     rintro _ X86 ⟨w86,rfl,bbh,bbb,aRa⟩
     refine iS yt []<|ja (((i:Int)+1)+w86) (by omega)<|jrm (k:= .i64) (a:=(((i:Int)+1)+w86)) (b:=(jY.length:Int)) 3 (by omega)<|aN 10 fun Mu ML F6=>jd 1 [1]<|iS F6 []<|zD 1<|aN 12 fun Tx TN F5=>jd 1 [1]<|eO F5<|jd 6 [5,1]<|jn fun b95=>ku (sz:=4) (ps:=hv) (qs:=[(⟨x,(-1),(Int.tmod (((i:Int)+1)+w86) (jY.length:Int)),zS⟩:bp)]) (enc:=lK) (w:= .slice (some ⟨b95,0,none⟩) 1 1) [3] [0] [(b95,.cells ⟨([(⟨x,(-1),(Int.tmod (((i:Int)+1)+w86) (jY.length:Int)),zS⟩:bp)].map lK).flatten⟩ 133 (0,0))] (hJ.2.1) (fun s _ hZ=>bX [(⟨x,(-1),(Int.tmod (((i:Int)+1)+w86) (jY.length:Int)),zS⟩:bp)] (hZ _ (.head _)) (by intro p hp;rfl)) (by intro p hp;rw[List.mem_singleton] at hp;subst hp;exact an rfl) (by simp<;>omega) (fun v96 L96 acT=>?_)
     obtain⟨aIM,aIo,aOZ⟩:=acT.form
     subst aOZ
     refine jd 6 [6]<|ja ((i:Int)+1) (by omega)<|zD 2<|bO hK7 (⟨i+1,(.slice aIM ((hv++[(⟨x,(-1),(Int.tmod (((i:Int)+1)+w86) (jY.length:Int)),zS⟩:bp)])).length aIo),L96,(hv++[(⟨x,(-1),(Int.tmod (((i:Int)+1)+w86) (jY.length:Int)),zS⟩:bp)]),_,Z,X86⟩) ⟨by omega,acT,(by have:=mA.snoc (A:=[]) hJ.2.2.1 (h0:=⟨rfl,rfl,rfl⟩) (hV:=⟨x,-1,(Int.tmod (((i:Int)+1)+w86) (jY.length:Int)),zS⟩) (x:=⟨x,-1,(Int.tmod (((i:Int)+1)+w86) (jY.length:Int)),[]⟩) (fun ro _=>⟨rfl,rfl,rfl,bI.nil _ _ _ _ _⟩) Qa.1 Qa.2.1 (adE (aiK ⟨by omega,by omega⟩ ⟨by omega,by omega⟩) (by omega));simpa only[List.nil_append] using this),aRa⟩ (by omega) [0,4,2,5,6,7,8] (Sub.refl _)
    subst h8
    refine zD 8<|pQ<|ez [1,1,1,1,1,1,0,1,0,0,1,0,0,1,1,0,1,0,0] [K7] (fun(zz:Nat×Value×Cells×(List Int)×Cells)=>[(0,zP d),(6,zP b6),(7,zP b7),(10,v53),(11,zI (jY.length:Int)),(12,zI (i:Int)),(13,zP yP),(14,zI (zz.1:Int))]) (fun(zz:Nat×Value×Cells×(List Int)×Cells)=>[.l zz.2.2.1,.l zz.2.2.2.2,.b yP (.cells ⟨[.string x,zI w,zI (-1),zz.2.1]⟩ 133 (0,0)),.l LH,.l Z,.l LC,.b b7 (.cells ⟨[vC,vH]⟩ 33 (0,0)),.l L53,.b b6 (.cells ⟨[zS,zS]⟩ 33 (0,0))]) (fun(zz:Nat×Value×Cells×(List Int)×Cells)=>(zz.1≤jY.length∧zz.2.2.2.1.length≤zz.1)∧az zz.2.1 1 3 cJ zz.2.2.2.1 zz.2.2.1∧kY i zz.1 zz.2.2.2.1∧bD vd xs d zz.2.2.2.2) (fun(zz:Nat×Value×Cells×(List Int)×Cells)=>jY.length-zz.1) (⟨0,zS,[],[],X⟩) ⟨by simp,az.nil _ _ _,⟨by simp,by simp,by simp⟩,hJ3.2⟩ [0,4,1,2,3,5,6,7,8] ?_
    rintro⟨k,vA,LA,al,X⟩ hK K13 XY rest
    dsimp only at hK
    obtain⟨qa,qc,rfl⟩:=hK.2.1.form
    refine zD 7<|zJ 100 ((k:Int) <(jY.length:Int)) (fun Cu=>?_) fun Cu=>?_
    ·
     refine zD 10<|js 106 (!decide ((k:Int)=(i:Int))) (fun xD=>?_) (fun xD=>?_)
     ·
      have Gc:=xD
      replace Gc:=of_decide_eq_false (by simpa using Gc)
      refine zD 1<|jc (vs:=[zP d,zI 4]) [1] (sJ hN hK.2.2.2 (by omega)) ?_
      rintro _ aEL ⟨aIm,rfl,amH⟩
      refine zD 2<|js 109 aIm (fun OS=>?_) (fun OS=>?_)
      ·
       subst OS
       refine jd 5 [2]<|jn fun aEs=>ku (sz:=1) (ps:=al) (qs:=[(k:Int)]) (enc:=cJ) (w:= .slice (some ⟨aEs,0,none⟩) 1 1) [2] [0] [(aEs,.cells ⟨([(k:Int)].map cJ).flatten⟩ 3 (0,0))] (hK.2.1) (fun s _ hZ=>bX [(k:Int)] (hZ _ (.head _)) (by intro p hp;rfl)) (fun p _=>an rfl) (by simp<;>omega) (fun aYZ aTg Vg=>?_)
       obtain⟨avv,avo,az8⟩:=Vg.form
       subst az8
       refine jd 5 [3]<|ja ((k:Int)+1) (by omega)<|zD 2<|bO XY (⟨k+1,(.slice avv ((al++[(k:Int)])).length avo),aTg,(al++[(k:Int)]),aEL⟩) ⟨by simp only[List.length_append,List.length_cons,List.length_nil];omega,Vg,kY.snoc hK.2.2.1 (by omega),amH⟩ (by omega) [0,2,3,4,5,6,7,8,9] (Sub.refl _)
      subst OS
      refine zD 4<|ja ((k:Int)+1) (by omega)<|zD 2<|bO XY (⟨k+1,(.slice qa al.length qc),LA,al,aEL⟩) ⟨by dsimp only;omega,hK.2.1,kY.step hK.2.2.1,amH⟩ (by omega) [1,0,2,3,4,5,6,7,8] (Sub.refl _)
     have Gc:=xD
     replace Gc:=of_decide_eq_true (by simpa using Gc)
     refine zD 8<|ja ((k:Int)+1) (by omega)<|zD 2<|bO XY (⟨k+1,(.slice qa al.length qc),LA,al,X⟩) ⟨by dsimp only;omega,hK.2.1,kY.step hK.2.2.1,hK.2.2.2⟩ (by omega) [0,1,2,3,4,5,6,7,8] (Sub.refl _)
    refine jd 10 [2]<|js 120 (decide ((al.length:Int)>0)) (fun Ga=>?_) (fun Ga=>?_)
    ·
     have vw:=Ga
     replace vw:=of_decide_eq_true vw
     refine zD 1<|jc (vs:=[zP d,zI 4]) [1] (sJ hN hK.2.2.2 (by omega)) ?_
     rintro _ aEK ⟨aIj,rfl,amG⟩
     refine zD 2<|js 123 aIj (fun SE=>?_) (fun SE=>?_)
     ·
      subst SE
      refine jd 9 [2,6,2]<|jn fun LN=>ku (sz:=4) (ps:=hv) (qs:=[(⟨x,(-1),-1,(.slice qa al.length qc)⟩:bp)]) (enc:=lK) (w:= .slice (some ⟨LN,0,none⟩) 1 1) [4] [0] [(LN,.cells ⟨([(⟨x,(-1),-1,(.slice qa al.length qc)⟩:bp)].map lK).flatten⟩ 133 (0,0))] (hJ.2.1) (fun s _ hZ=>bX [(⟨x,(-1),-1,(.slice qa al.length qc)⟩:bp)] (hZ _ (.head _)) (by intro p hp;rfl)) (by intro p hp;rw[List.mem_singleton] at hp;subst hp;exact an rfl) (by simp<;>omega) (fun avA agl qK=>?_)
      obtain⟨MC,MB,OH⟩:=qK.form
      subst OH
      refine jd 5 [7]<|ja ((i:Int)+1) (by omega)<|zD 2<|N3 hK7 (⟨i+1,(.slice MC ((hv++[(⟨x,(-1),-1,(.slice qa al.length qc)⟩:bp)])).length MB),agl,(hv++[(⟨x,(-1),-1,(.slice qa al.length qc)⟩:bp)]),_,LA++Z,aEK⟩) ⟨by omega,qK,mA.snoc (A:=LA) hJ.2.2.1 (h0:=⟨rfl,rfl,rfl⟩) (x:=⟨x,_,-1,al⟩) (fun ro hk=>⟨rfl,rfl,rfl,hK.2.1.ma hk⟩) Qa.1 Qa.2.1 (adF hK.2.2.1 (by omega) (by omega) (by assumption)),amG⟩ (by omega) [[0],[3,5],[2],[6],[7],[8],[9]] (Sub.refl _)
     subst SE
     refine jd 6 [6,2]<|jn fun LN=>ku (sz:=4) (ps:=hv) (qs:=[(⟨x,w,-1,(.slice qa al.length qc)⟩:bp)]) (enc:=lK) (w:= .slice (some ⟨LN,0,none⟩) 1 1) [4] [0] [(LN,.cells ⟨([(⟨x,w,-1,(.slice qa al.length qc)⟩:bp)].map lK).flatten⟩ 133 (0,0))] (hJ.2.1) (fun s _ hZ=>bX [(⟨x,w,-1,(.slice qa al.length qc)⟩:bp)] (hZ _ (.head _)) (by intro p hp;rfl)) (by intro p hp;rw[List.mem_singleton] at hp;subst hp;exact an rfl) (by simp<;>omega) (fun avA agl qK=>?_)
     obtain⟨MC,MB,OH⟩:=qK.form
     subst OH
     refine jd 5 [7]<|ja ((i:Int)+1) (by omega)<|zD 2<|N3 hK7 (⟨i+1,(.slice MC ((hv++[(⟨x,w,-1,(.slice qa al.length qc)⟩:bp)])).length MB),agl,(hv++[(⟨x,w,-1,(.slice qa al.length qc)⟩:bp)]),_,LA++Z,aEK⟩) ⟨by omega,qK,mA.snoc (A:=LA) hJ.2.2.1 (h0:=⟨rfl,rfl,rfl⟩) (x:=⟨x,_,-1,al⟩) (fun ro hk=>⟨rfl,rfl,rfl,hK.2.1.ma hk⟩) Qa.1 Qa.2.1 (I1 (by omega) hK.2.2.1 (by omega) (by omega)),amG⟩ (by omega) [[0],[3,5],[2],[6],[7],[8],[9]] (Sub.refl _)
    have vw:=Ga
    replace vw:=of_decide_eq_false vw
    refine jd 10 [6,2]<|jn fun LN=>ku (sz:=4) (ps:=hv) (qs:=[(⟨x,w,-1,(.slice qa al.length qc)⟩:bp)]) (enc:=lK) (w:= .slice (some ⟨LN,0,none⟩) 1 1) [4] [0] [(LN,.cells ⟨([(⟨x,w,-1,(.slice qa al.length qc)⟩:bp)].map lK).flatten⟩ 133 (0,0))] (hJ.2.1) (fun s _ hZ=>bX [(⟨x,w,-1,(.slice qa al.length qc)⟩:bp)] (hZ _ (.head _)) (by intro p hp;rfl)) (by intro p hp;rw[List.mem_singleton] at hp;subst hp;exact an rfl) (by simp<;>omega) (fun avA agl qK=>?_)
    obtain⟨MC,MB,OH⟩:=qK.form
    subst OH
    refine jd 5 [7]<|ja ((i:Int)+1) (by omega)<|zD 2<|N3 hK7 (⟨i+1,(.slice MC ((hv++[(⟨x,w,-1,(.slice qa al.length qc)⟩:bp)])).length MB),agl,(hv++[(⟨x,w,-1,(.slice qa al.length qc)⟩:bp)]),_,LA++Z,X⟩) ⟨by omega,qK,mA.snoc (A:=LA) hJ.2.2.1 (h0:=⟨rfl,rfl,rfl⟩) (x:=⟨x,_,-1,al⟩) (fun ro hk=>⟨rfl,rfl,rfl,hK.2.1.ma hk⟩) Qa.1 Qa.2.1 (I1 (by omega) hK.2.2.1 (by omega) (by omega)),hK.2.2.2⟩ (by omega) [[0],[2,5],[3],[6],[7],[8],[9]] (Sub.refl _)
   refine zD 4<|js 77 (decide ((jY.length:Int)>1)) (fun h17=>?_) (fun h17=>?_)
   ·
    have F8:=h17
    replace F8:=of_decide_eq_true F8
    refine zD 1<|jc (vs:=[zP d,zI 3]) [3] (sJ hN Qa.2.2.2 (by omega)) ?_
    rintro _ X79 ⟨w79,rfl,aRc⟩
    refine zD 2<|bO hK9 ⟨w79,X79⟩ ⟨fun _=>by omega,aRc⟩ Nat.zero_lt_one [1,2,3,0,4,5,6,7] (Sub.refl _)
   have F8:=h17
   replace F8:=of_decide_eq_false F8
   refine zD 4<|bO hK9 ⟨false,X⟩ ⟨(fun h=>by cases h),Qa.2.2.2⟩ Nat.zero_lt_one [0,1,2,3,4,5,6,7] (Sub.refl _)
  refine zD 3 ?_
  obtain⟨x64,KC⟩:=zG jY i
  refine YP 1 aqQ KC fun b64 aPO=>oJ 0 [5] L53 (fun s _ hZ=>cv aqQ aPO hZ KC)<|jd 3 [4]<|DX hI.2.1<|ja ((cs.length:Int)-1) (by omega)<|m8 [0,14] ⟨fun z14 t15 OM=>?_,fun z17 t18 aef=>?_,trivial⟩
  ·
   refine jc [] (aci) ?_
   rintro v61 L61 ⟨_,adg,rfl⟩
   refine bC OM [1,2,3,4,5,6,7] ?_
   obtain⟨x66,FB⟩:=zG oL (x64.toNat) (by have:=ado _ (List.mem_of_getElem? KC);omega)
   refine pP x64 1 adg FB (Int.toNat_of_nonneg (show 0≤x64∧x64 <((oL).length:Int) from (ado _ (List.mem_of_getElem? KC))).1).symm fun b66 ar6=>oJ 0 [0] L61 (fun s _ hZ=>cv adg ar6 hZ FB)<|m8 [12,14] ⟨fun z20 t21 aee=>?_,fun z23 t24 SB=>?_,trivial⟩
   ·
    refine jc (vs:=[zP d,zI ((cs.length:Int)-1)]) [3] (Du hN hJ.2.2.2 (by omega)) ?_
    rintro _ X73 ⟨w73,rfl,ayw,Xu,ael⟩
    refine iS aee [[1],[5],[6]]<|zD 1<|aN 14 fun ak7 aln OL=>jn fun yP=>bC OL [1,2,3,4,5,6,7,8]<|aN 15 fun Zd ZR SA=>jd 1 [0]<|eO SA<|zD 1<|bO hK8 ⟨yP,w73,_,x66,X73⟩ ⟨KC,FB,(by dsimp only;omega),ael⟩ Nat.zero_lt_one [0,3,4,1,5,6,7,8] (Sub.refl _)
   refine jn fun yP=>bC SB [1,2,3,4,5,6,7,8]<|aN 12 fun Zc ZQ KS=>jc (vs:=[zP d,zI ((cs.length:Int)-1)]) [4] (Du hN hJ.2.2.2 (by omega)) ?_
   rintro _ X73 ⟨w73,rfl,ayw,Xu,ael⟩
   refine iS KS [[2],[6],[7]]<|zD 1<|aN 15 fun Tw TK KR=>jd 1 [1]<|eO KR<|zD 1<|bO hK8 ⟨yP,w73,_,x66,X73⟩ ⟨KC,FB,(by dsimp only;omega),ael⟩ Nat.zero_lt_one [1,3,4,0,5,6,7,8] (Sub.refl _)
  refine jn fun yP=>bC aef [1,2,3,4,5,6,7]<|aN 0 fun Zb ZP Sz=>jc [] (aci) ?_
  rintro v61 L61 ⟨_,adg,rfl⟩
  refine bC Sz [1,2,3,4,5,6,7,8] ?_
  obtain⟨x66,FB⟩:=zG oL (x64.toNat) (by have:=ado _ (List.mem_of_getElem? KC);omega)
  refine pP x64 1 adg FB (Int.toNat_of_nonneg (show 0≤x64∧x64 <((oL).length:Int) from (ado _ (List.mem_of_getElem? KC))).1).symm fun b66 ar6=>oJ 0 [0] L61 (fun s _ hZ=>cv adg ar6 hZ FB)<|aN 12 fun ak6 alm XV=>jc (vs:=[zP d,zI ((cs.length:Int)-1)]) [4] (Du hN hJ.2.2.2 (by omega)) ?_
  rintro _ X73 ⟨w73,rfl,ayw,Xu,ael⟩
  refine iS XV [[1],[6],[7]]<|zD 1<|aN 15 fun auY avR asv=>jd 1 [2]<|eO asv<|zD 1<|bO hK8 ⟨yP,w73,_,x66,X73⟩ ⟨KC,FB,(by dsimp only;omega),ael⟩ Nat.zero_lt_one [2,3,4,0,5,6,7,8] (Sub.refl _)
 refine jd 5 [4] ?_
 obtain⟨ZF,Zy,adL⟩:=hI.2.1.form
 subst adL
 obtain⟨aIY,aIA,aPb⟩:=hJ.2.1.form
 subst aPb
 refine jd 3 [6]<|aE q0 (.agg ⟨[(.slice ZF (cs).length Zy),(.slice aIY (hv).length aIA)]⟩) [6] [3,0,1,2] (LC++(LH++(Z++X))) (Sub.refl _) ⟨_,_,rfl,rfl,cs,hv,hd,_,_,LC++(LH++Z),X,rfl,Wl hI.2.2.1 Og (by omega) hJ.2.2.1 (by omega) (by omega) vo ado,hJ.2.2.1.2.2.2.2,fun aA hk=>⟨hI.2.1.ma hk.left,hJ.2.1.ma hk.right.left,hJ.2.2.1.1 aA hk.right.right⟩,by simp only[List.append_assoc],hJ.2.2.2⟩
abbrev iQ(x:Value):List Value:=[x]
structure ah where
 n:Int
 l:Int
abbrev cI(x:ah):List Value:=[zI x.n,zI x.l]
def aim(x y:ah):Prop:=x.n <y.n∨(x.n=y.n∧x.l <y.l)
def AA(x:ah):Prop:=(1≤x.n∧x.n≤9)∧0≤x.l∧x.l≤4
structure eP(S:List (List ah)):Prop where
 two:S.length=2
 len:∀l∈S,l.length≤4
 ok:∀l∈S,∀x∈l,AA x
 asc:∀l∈S,l.Pairwise aim
def xY:List (List ah):=[[⟨1,0⟩,⟨2,0⟩],[⟨1,0⟩,⟨3,0⟩]]
def cL(ro:Nat→Option Obj)(v:Value)(S:List (List ah)):Prop:=∃ws,bI ro v 1 iQ ws∧dD (fun w l=>bI ro w 2 cI l) ws S
def nu(ro:Nat→Option Obj)(v:Value)(ways:List (List aL)):Prop:=∃ws,bI ro v 1 iQ ws∧dD (fun w l=>bI ro w 7 mw l) ws ways
theorem cL.up{ro:Nat→Option Obj}{v:Value}{S:List (List ah)}(h:cL ro v S)(hs:Sub ro aK):cL aK v S:=by
 obtain⟨ws,h1,h2⟩:=h
 exact⟨ws,h1.up hs,h2.imp fun _ _ k=>k.up hs⟩
theorem nu.up{ro:Nat→Option Obj}{v:Value}{w:List (List aL)}(h:nu ro v w)(hs:Sub ro aK):nu aK v w:=by
 obtain⟨ws,h1,h2⟩:=h
 exact⟨ws,h1.up hs,h2.imp fun _ _ k=>k.up hs⟩
theorem jz.up{ro:Nat→Option Obj}{vc vh:Value}{hv:List bp}(h:jz ro vc vh cs hv hd)(hs:Sub ro aK):jz aK vc vh cs hv hd:=
 ⟨h.1.up hs,h.2.1.up hs,h.2.2.imp fun _ _ k=>⟨k.1,k.2.1,k.2.2.1,k.2.2.2.up hs⟩⟩
structure aZ where
 ways:List (List aL)
 cs:List bF
 hd:List bZ
 rules:List cG
 before:List aF
 after:List aF
 gone:Int
 new:Int
 af:Int
 facts:List gV
 str:List (List ah)
def gh(ro:Nat→Option Obj)(l:List Value)(k:aZ):Prop:=∃(vS vT vc vh vr vb va vf:Value) (fa:Option Addr) (fc:Nat) (hv:List bp),
 l=[vS,vT,.slice fa 0 fc,vc,vh,vr,vb,va,zI k.gone,zI k.new,zI k.af,vf]∧cL ro vS k.str∧nu ro vT k.ways∧jz ro vc vh k.cs hv k.hd∧dD dq hv k.hd∧
 bI ro vr 2 jo k.rules∧bI ro vb 5 eQ k.before∧bI ro va 5 eQ k.after∧bI ro vf 3 vM k.facts
def ny(hd:List bZ)(i:Int):Prop:=i= -1∨(0≤i∧∃x,hd[i.toNat]?=some x∧0≤x.cls)
def AB(hd:List bZ)(p:aF):Prop:=LZ p.name∧ny hd p.head∧(0≤p.st∧p.st≤1)∧p.bold=false
def age(hd:List bZ)(p:aF):Prop:=AB hd p∧(p.st=0→p.no=1∨p.no=2)∧(p.st=1→p.no=1∨p.no=3)
def agf(hd:List bZ)(p:aF):Prop:=AB hd p∧1≤p.no∧p.no≤3
def Ee(hd:List bZ)(p:aF):Prop:=((1≤p.name.size∧p.name.size≤6)∧Script p.name)∧ny hd p.head∧(0≤p.st∧p.st≤1)∧p.bold=false
def akY(S:List (List ah))(hd:List bZ)(p:aF):Prop:=Ee hd p∧∃l,S[p.st.toNat]?=some l∧(⟨p.no,0⟩:ah)∈l
def aEO(hd:List bZ)(p:aF):Prop:=Ee hd p∧1≤p.no∧p.no≤40
structure V7(cs:List bF)(hd:List bZ):Prop where
 nc:0 <cs.length∧cs.length≤6
 nh:hd.length≤6
 zx:∀(i:Nat) (x:bZ),hd[i]?=some x→gB cs.length hd.length i x
structure n9(k:aZ):Prop where
 r8:eP k.str
 ways:k.ways.length≤1∧∀l∈k.ways,(1≤l.length∧l.length≤2)∧∀c∈l,iR c
 eE:V7 k.cs k.hd
 rules:k.rules.length≤4
 before:k.before.length≤4∧∀p∈k.before,akY k.str k.hd p
 after:k.after.length≤4∧∀p∈k.after,aEO k.hd p
 Bt:(0≤k.gone∧k.gone≤4)∧(0≤k.new∧k.new≤4)∧(0≤k.af∧k.af≤4)
 facts:k.facts.length≤4∧(∀x∈k.facts,(0≤x.a∧x.a <k.before.length)∧(0≤x.b∧x.b <k.after.length))
 apart:k.facts.Pairwise fun x y=>¬(x.a=y.a∧x.b=y.b)
structure PI(k:aZ):Prop where
 ways:k.ways.length≤1∧∀l∈k.ways,(1≤l.length∧l.length≤2)∧∀c∈l,iR c
 eE:wj k.cs k.hd
 rules:k.rules.length≤2∧∀r∈k.rules,GX r
 before:k.before.length≤4∧∀p∈k.before,age k.hd p
 after:k.after.length≤4∧∀p∈k.after,agf k.hd p
 Bt:(0≤k.gone∧k.gone≤4)∧(0≤k.new∧k.new≤4)∧(0≤k.af∧k.af≤4)
 facts:k.facts.length≤4∧(∀x∈k.facts,(0≤x.a∧x.a <k.before.length)∧(0≤x.b∧x.b <k.after.length))
 apart:k.facts.Pairwise fun x y=>¬(x.a=y.a∧x.b=y.b)
 str:k.str=xY
theorem W5:eP xY where
 two:=rfl
 len:=by simp[xY]
 ok:=by simp[xY,AA]
 asc:=by simp[xY,aim]
theorem AB.c{p:aF}(h:AB hd p):Ee hd p:=⟨⟨⟨h.1.1.1,by have:=h.1.1.2;omega⟩,h.1.2⟩,h.2⟩
theorem PI.c{k:aZ}(h:PI k):n9 k where
 r8:=by rw[h.str];exact W5
 ways:=h.ways
 eE:=⟨⟨h.eE.nc.1,by have:=h.eE.nc.2;omega⟩,by have:=h.eE.nh;omega,fun i x hx=>(h.eE.zx i x hx).2⟩
 rules:=by have:=h.rules.1;omega
 before:=⟨by have:=h.before.1;omega,fun p hp=>by
  obtain⟨h1,h2,h3⟩:=h.before.2 p hp
  refine⟨h1.c,?_⟩
  rw[h.str]
  have h4:=h1.2.2.1
  rcases(by omega:p.st=0∨p.st=1) with e|e
  ·rw[e];exact⟨_,rfl,by rcases h2 e with e2|e2<;>simp[e2]⟩
  rw[e];exact⟨_,rfl,by rcases h3 e with e2|e2<;>simp[e2]⟩⟩
 after:=⟨by have:=h.after.1;omega,fun p hp=>by
  obtain⟨h1,h2,h3⟩:=h.after.2 p hp
  exact⟨h1.c,h2,by omega⟩⟩
 Bt:=h.Bt
 facts:=⟨by have:=h.facts.1;omega,h.facts.2⟩
 apart:=h.apart
theorem wI{hv:List bp}(h:dD dq hv hd){i:Int}(k:i= -1∨Tu hv i):ny hd i:=by
 rcases k with k| ⟨k0,x,k1,k2⟩
 ·exact .inl k
 obtain⟨y,h1,h2⟩:=h.get k1
 exact .inr ⟨k0,y,h1,h2.2.1▸k2⟩
theorem Qw{ro:Nat→Option Obj}{b c e:Nat}(h1:ro b=some (.cells ⟨[zI 1,zI 0,zI 2,zI 0]⟩ 70 (0,0)))(h2:ro c=some (.cells ⟨[zI 1,zI 0,zI 3,zI 0]⟩ 70 (0,0)))
 (h3:ro e=some (.cells ⟨[.slice (some ⟨b,0,none⟩) 2 2,.slice (some ⟨c,0,none⟩) 2 2]⟩ 71 (0,0))):cL ro (.slice (some ⟨e,0,none⟩) 2 2) xY:=
 ⟨_,bS [_,_] h3 (fun _ _=>rfl),.cons (bS [(⟨1,0⟩:ah),⟨2,0⟩] h1 (fun _ _=>rfl)) (.cons (bS [(⟨1,0⟩:ah),⟨3,0⟩] h2 (fun _ _=>rfl)) .nil)⟩
def AD(nb na:Nat)(fs:List gV):Prop:=(∀x∈fs,(0≤x.a∧x.a <nb)∧(0≤x.b∧x.b <na))∧fs.Pairwise fun x y=>¬(x.a=y.a∧x.b=y.b)
theorem AD.snoc{nb na:Nat}{fs:List gV}(h:AD nb na fs){x:gV}(ha:0≤x.a∧x.a <nb)(hb:0≤x.b∧x.b <na)(hn:TJ fs x.a x.b=false):AD nb na (fs++[x]):=by
 refine⟨qi h.1 ⟨ha,hb⟩,List.pairwise_append.2 ⟨h.2,List.pairwise_singleton _ _,fun y hy z hz e=>?_⟩⟩
 rw[List.mem_singleton] at hz;subst hz
 have:=List.any_eq_false.1 hn y hy
 simp[e.1,e.2] at this
theorem apt{w u:Int}(h:w∈[1,2,4,u])(hu:0≤u∧u≤4):0≤w∧w≤4:=by
 simp only[List.mem_cons,List.not_mem_nil,or_false] at h
 omega
theorem Qz{ro:Nat→Option Obj}:nu ro (zS) []:=⟨[],bI.nil _ _ _ _ _,.nil⟩
set_option maxHeartbeats 2000000 in
theorem aR4 {d:Nat} {X:Cells} {np nf:Int} {ro:Nat→Option Obj} (hN:Dn ro vd xs) (hD:bD vd xs d X) (hnp:0≤np∧np≤4) (hnf:0≤nf∧nf≤4):FnG zT 7 [zP d,zI np,zI nf] ro X (fun r aA Y=>∃(K:aZ) (l:List Value),r= .agg ⟨l⟩∧PI K∧(K.facts.length:Int)≤nf∧gh aA l K∧bD vd xs d Y):=by
 refine ayi (hm:=au) [.l X] [] bn<|zD 2<|jn fun b6=>zD 4<|jc [1] (akz hN hD) ?_
 rintro _ _ ⟨ki,jF,Sj,ahG,aYI,Z18,X18,rfl,F4,BF,aQh,rfl,ON⟩
 refine jg 0 [.l Z18,.l X18]<|jf [0] Z18 (fun AI bV iT=>?_)
 have rC:=aQh _ iT
 obtain⟨hc,hh,cX⟩:=id rC
 obtain⟨eC,AO,AN,ek,rfl,C5,yI,yH⟩:=hc
 obtain⟨dJ,uK,uJ,dr,rfl,wZ,qB,qA⟩:=hh
 refine zD 2<|jn fun b21=>zD 2<|jn fun lX=>jn fun dL=>zD 3<|jn fun b7=>jd 5 [0]<|jf [1,2,3] ((dL,.cells ⟨[.slice (some ⟨b21,0,none⟩) 2 2,.slice (some ⟨lX,0,none⟩) 2 2]⟩ 71 (0,0))::((lX,.cells ⟨[zI 1,zI 0,zI 3,zI 0]⟩ 70 (0,0))::[(b21,.cells ⟨[zI 1,zI 0,zI 2,zI 0]⟩ 70 (0,0))])) (fun ro6 kD YU=>?_)
 have aQi:=Qw (YU _ (.tail _ (.tail _ (.head _)))) (YU _ (.tail _ (.head _))) (YU _ (.head _))
 refine zD 1<|jc (vs:=[zP d,zI 2]) [1] (sJ (hN.up (bV.trans kD)) ON (by omega)) ?_
 rintro _ X30 ⟨w30,rfl,aCU⟩
 refine zD 1<|IT [1,1,1] [] (fun(zz:Value×Cells×(List (List aL))×Cells)=>[(0,zP d),(1,zI np),(2,zI nf),(6,zP b6),(7,zP b7)]) (fun(zz:Value×Cells×(List (List aL))×Cells)=>[.l zz.2.1,.l zz.2.2.2,.b b7 (.cells ⟨[.slice (some ⟨dL,0,none⟩) 2 2,zz.1,zS,.slice eC ki.length ek,.slice dJ jF.length dr,zS,zS,zS,zI 0,zI 0,zI 0,zS]⟩ 38 (0,0)),.b b6 (.cells ⟨[zS,zS,zS,zS,zS,zS,zS,zS,zI 0,zI 0,zI 0,zS]⟩ 38 (0,0))]) (fun(zz:Value×Cells×(List (List aL))×Cells)=>(∀lB,Knows lB zz.2.1→nu lB zz.1 zz.2.2.1)∧(zz.2.2.1.length≤1∧∀l∈zz.2.2.1,(1≤l.length∧l.length≤2)∧∀c∈l,iR c)∧bD vd xs d zz.2.2.2) ?_ (fun K1 bM=>?_)
 ·
  rintro⟨vT,LT,ways,X⟩ Qa rest
  dsimp only at Qa
  refine zD 2<|jf [0] LT (fun ro9 ry hk8=>?_)
  have aAC:=Qa.1 _ hk8
  obtain⟨Qi,ht,_⟩:=id aAC
  obtain⟨eT,AM,AJ,dY,rfl,AK,sS,sR⟩:=ht
  refine zD 1<|jc (vs:=[zP d,zI 2]) [0] (atb (hN.up ((bV.trans kD).trans ry)) Qa.2.2 (by decide)) ?_
  rintro v60 _ ⟨J8,L60,X60,KL,bcc,acP,rfl,aRe⟩
  refine jg 0 [.l L60,.l X60]<|zD 8<|pQ<|ez [1,1,1,1,0,1,0,0] [] (fun(zz:Nat×Value×Cells×(List cG))=>[(0,zP d),(1,zI np),(2,zI nf),(6,zP b6),(7,zP b7),(8,v60),(9,zI (zz.1:Int))]) (fun(zz:Nat×Value×Cells×(List cG))=>[.l zz.2.2.1,.l X60,.b b7 (.cells ⟨[.slice (some ⟨dL,0,none⟩) 2 2,.slice eT Qi.length dY,zS,.slice eC ki.length ek,.slice dJ jF.length dr,zz.2.1,zS,zS,zI 0,zI 0,zI 0,zS]⟩ 38 (0,0)),.l L60,.b b6 (.cells ⟨[zS,zS,zS,zS,zS,zS,zS,zS,zI 0,zI 0,zI 0,zS]⟩ 38 (0,0))]) (fun(zz:Nat×Value×Cells×(List cG))=>(zz.1≤J8.length∧zz.2.2.2.length≤zz.1)∧az zz.2.1 2 81 jo zz.2.2.2 zz.2.2.1∧∀r∈zz.2.2.2,GX r) (fun(zz:Nat×Value×Cells×(List cG))=>J8.length-zz.1) (⟨0,zS,[],[]⟩) ⟨by simp,az.nil _ _ _,(fun _ h=>by cases h)⟩ [0,2,3,1,4] ?_
  rintro⟨i,vR,LR,rs⟩ hR K2 mo rest
  dsimp only at hR
  refine zD 5<|DX KL<|zD 2<|zJ 64 ((i:Int) <(J8.length:Int)) (fun Qb=>?_) fun Qb=>?_
  ·
   refine zD 8 ?_
   obtain⟨Qh,Xv⟩:=zG J8 i
   refine YP 2 KL Xv fun b69 ar5=>zD 1<|oJ 0 [3] L60 (fun s _ hZ=>cv KL ar5 hZ Xv)<|zD 2 ?_
   obtain⟨x74,ayv⟩:=zG J8 i
   refine YP 2 KL ayv fun b74 aPM=>zD 1<|oJ 1 [3] L60 (fun s _ hZ=>cv KL aPM hZ ayv)<|zD 2<|js 77 (!(cH Qh.f x74.t)) (fun OT=>?_) (fun OT=>?_)
   ·
    try simp only[zB] at OT
    refine jd 6 [2] ?_
    obtain⟨DI,RF⟩:=zG J8 i
    refine YP 2 KL RF fun b82 aPJ=>oJ 0 [3] L60 (fun s _ hZ=>cv KL aPJ hZ RF)<|aN 6 fun sW sZ rD=>jn fun b84=>bC rD [1,2,3,4,5]<|aN 7 fun uv uw sB=>ku (sz:=2) (ps:=rs) (qs:=[(⟨DI.f,DI.t⟩:cG)]) (enc:=jo) (w:= .slice (some ⟨b84,0,none⟩) 1 1) [1] [0] [(b84,.cells ⟨([(⟨DI.f,DI.t⟩:cG)].map jo).flatten⟩ 81 (0,0))] (hR.2.1) (fun s _ hZ=>bX [(⟨DI.f,DI.t⟩:cG)] (hZ _ (.head _)) (by intro p hp;rfl)) (fun p _=>an rfl) (by simp<;>omega) (fun v85 L85 acV=>?_)
    obtain⟨aIO,aIq,aO1⟩:=acV.form
    subst aO1
    refine iS sB []<|zD 1<|aN 9 fun CL CX Dp=>jd 1 [3]<|eO Dp<|zD 3<|ja ((i:Int)+1) (by omega)<|zD 2<|bO mo (⟨i+1,(.slice aIO ((rs++[(⟨DI.f,DI.t⟩:cG)])).length aIq),L85,(rs++[(⟨DI.f,DI.t⟩:cG)])⟩) ⟨by simp only[List.length_append,List.length_cons,List.length_nil];omega,acV,qi hR.2.2 (acP _ (List.mem_of_getElem? RF))⟩ (by omega) [0,2,3,4,5] (Sub.refl _)
   try simp only[zB] at OT
   refine zD 4<|ja ((i:Int)+1) (by omega)<|zD 2<|bO mo (⟨i+1,vR,LR,rs⟩) ⟨by dsimp only;omega,hR.2⟩ (by omega) [0,1,2,3,4] (Sub.refl _)
  refine zD 4<|jf [0] LR (fun aZl iq aOB=>?_)
  have hRU:=hR.2.1.ma aOB
  refine jd 3 [1]<|jn fun rI=>jd 7 [0]<|jc (vs:=[zP d,zI np]) [1] (Du (hN.up (((bV.trans kD).trans ry).trans iq)) aRe (by omega)) ?_
  rintro _ X92 ⟨w92,rfl,bbg,bba,aQ9⟩
  refine zD 3<|pQ<|ez [1,1,1,1,1,1,0,1,0,0] [] (fun(zz:Int×Value×Cells×(List aF)×Cells)=>[(0,zP d),(1,zI np),(2,zI nf),(6,zP b6),(7,zP b7),(10,zP rI),(11,zI zz.1)]) (fun(zz:Int×Value×Cells×(List aF)×Cells)=>[.l zz.2.2.1,.l zz.2.2.2.2,.b rI (.cells ⟨[zI 2,zI 0,zI 0,.slice eC ki.length ek,.slice dJ jF.length dr,zS,zS]⟩ 83 (0,0)),.b b7 (.cells ⟨[.slice (some ⟨dL,0,none⟩) 2 2,.slice eT Qi.length dY,zS,.slice eC ki.length ek,.slice dJ jF.length dr,vR,zz.2.1,zS,zI 0,zI 0,zI 0,zS]⟩ 38 (0,0)),.b b6 (.cells ⟨[zS,zS,zS,zS,zS,zS,zS,zS,zI 0,zI 0,zI 0,zS]⟩ 38 (0,0))]) (fun(zz:Int×Value×Cells×(List aF)×Cells)=>(0≤zz.1∧zz.2.2.2.1.length+zz.1≤4)∧az zz.2.1 5 86 eQ zz.2.2.2.1 zz.2.2.1∧(∀p∈zz.2.2.2.1,age Sj p)∧bD vd xs d zz.2.2.2.2) (fun(zz:Int×Value×Cells×(List aF)×Cells)=>zz.1.toNat) (⟨w92,zS,[],[],X92⟩) ⟨by simp only[List.length_nil];omega,az.nil _ _ _,(fun _ h=>by cases h),aQ9⟩ [0,1,2,3,5] ?_
  rintro⟨j,vB,LB,uo,X⟩ hB K6 hK6 rest
  dsimp only at hB
  refine zD 6<|zJ 94 (j>0) (fun h18=>?_) fun h18=>?_
  ·
   refine zD 5<|IT [1,1,1,1,1,1,0,1,0,0,1,0,0,1] [K6] (fun(zz:Nat×aF×Cells)=>[(0,zP d),(1,zI np),(2,zI nf),(6,zP b6),(7,zP b7),(10,zP rI),(11,zI j),(12,zP zz.1)]) (fun(zz:Nat×aF×Cells)=>[.b zz.1 (.cells ⟨[.string zz.2.1.name,zI zz.2.1.st,zI zz.2.1.no,zI zz.2.1.head,.bool zz.2.1.bold]⟩ 86 (0,0)),.l LB,.l zz.2.2,.b rI (.cells ⟨[zI 2,zI 0,zI 0,.slice eC ki.length ek,.slice dJ jF.length dr,zS,zS]⟩ 83 (0,0)),.b b7 (.cells ⟨[.slice (some ⟨dL,0,none⟩) 2 2,.slice eT Qi.length dY,zS,.slice eC ki.length ek,.slice dJ jF.length dr,vR,vB,zS,zI 0,zI 0,zI 0,zS]⟩ 38 (0,0)),.b b6 (.cells ⟨[zS,zS,zS,zS,zS,zS,zS,zS,zI 0,zI 0,zI 0,zS]⟩ 38 (0,0))]) (fun(zz:Nat×aF×Cells)=>(LZ zz.2.1.name∧ny Sj zz.2.1.head∧(0≤zz.2.1.st∧zz.2.1.st≤1))∧bD vd xs d zz.2.2) ?_ (fun K7 hK7=>?_)
   ·
    rintro⟨jq,pp,X⟩ aek rest
    dsimp only at aek
    refine zD 3<|jc (vs:=[zP d,zI 1,zI 2]) [2] (An (hN.up (((bV.trans kD).trans ry).trans iq)) aek.2 (by omega) (by omega)) ?_
    rintro _ aST ⟨aIn,rfl,aVY,aVO,amI⟩
    refine jd 10 [1,1]<|IT [1,1,1,1,1,1,0,1,0,0,1,0,0,1,1,1] [K6] (fun(zz:Int×Cells)=>[(0,zP d),(1,zI np),(2,zI nf),(6,zP b6),(7,zP b7),(10,zP rI),(11,zI j),(12,zP jq)]) (fun(zz:Int×Cells)=>[.b jq (.cells ⟨[.string pp.name,zI pp.st,zI zz.1,zI pp.head,.bool pp.bold]⟩ 86 (0,0)),.l LB,.l zz.2,.b rI (.cells ⟨[zI 2,zI 0,zI 0,.slice eC ki.length ek,.slice dJ jF.length dr,zS,zS]⟩ 83 (0,0)),.b b7 (.cells ⟨[.slice (some ⟨dL,0,none⟩) 2 2,.slice eT Qi.length dY,zS,.slice eC ki.length ek,.slice dJ jF.length dr,vR,vB,zS,zI 0,zI 0,zI 0,zS]⟩ 38 (0,0)),.b b6 (.cells ⟨[zS,zS,zS,zS,zS,zS,zS,zS,zI 0,zI 0,zI 0,zS]⟩ 38 (0,0))]) (fun(zz:Int×Cells)=>((pp.st=0→zz.1=1∨zz.1=2)∧(pp.st=1→zz.1=1∨zz.1=3))∧bD vd xs d zz.2) ?_ (fun K8 hK8=>?_)
    ·
     rintro⟨q,X⟩ akb rest
     dsimp only at akb
     refine jd 7 [0]<|IT [1,1,1,1,1,1,0,1,0,0,1,0,0,1,1,1,1,0,1] [K6] (fun(zz:Bool×Cells)=>[(0,zP d),(1,zI np),(2,zI nf),(6,zP b6),(7,zP b7),(10,zP rI),(11,zI j),(12,zP jq),(120,.bool zz.1)]) (fun(zz:Bool×Cells)=>[.b jq (.cells ⟨[.string pp.name,zI pp.st,zI q,zI pp.head,.bool false]⟩ 86 (0,0)),.l LB,.l zz.2,.b rI (.cells ⟨[zI 2,zI 0,zI 0,.slice eC ki.length ek,.slice dJ jF.length dr,zS,zS]⟩ 83 (0,0)),.b b7 (.cells ⟨[.slice (some ⟨dL,0,none⟩) 2 2,.slice eT Qi.length dY,zS,.slice eC ki.length ek,.slice dJ jF.length dr,vR,vB,zS,zI 0,zI 0,zI 0,zS]⟩ 38 (0,0)),.b b6 (.cells ⟨[zS,zS,zS,zS,zS,zS,zS,zS,zI 0,zI 0,zI 0,zS]⟩ 38 (0,0))]) (fun(zz:Bool×Cells)=>(zz.1=true→0 <uo.length)∧bD vd xs d zz.2) ?_ (fun K9 hK9=>?_)
     ·
      rintro⟨g,X⟩ aej rest
      dsimp only at aej
      refine IT [1,1,1,1,1,1,0,1,0,0,1,0,0,1,1,1,1,1] [K6] (fun(zz:aF×Cells)=>[(0,zP d),(1,zI np),(2,zI nf),(6,zP b6),(7,zP b7),(10,zP rI),(11,zI j),(12,zP jq)]) (fun(zz:aF×Cells)=>[.b jq (.cells ⟨[.string zz.1.name,zI zz.1.st,zI zz.1.no,zI zz.1.head,.bool zz.1.bold]⟩ 86 (0,0)),.l LB,.l zz.2,.b rI (.cells ⟨[zI 2,zI 0,zI 0,.slice eC ki.length ek,.slice dJ jF.length dr,zS,zS]⟩ 83 (0,0)),.b b7 (.cells ⟨[.slice (some ⟨dL,0,none⟩) 2 2,.slice eT Qi.length dY,zS,.slice eC ki.length ek,.slice dJ jF.length dr,vR,vB,zS,zI 0,zI 0,zI 0,zS]⟩ 38 (0,0)),.b b6 (.cells ⟨[zS,zS,zS,zS,zS,zS,zS,zS,zI 0,zI 0,zI 0,zS]⟩ 38 (0,0))]) (fun(zz:aF×Cells)=>age Sj zz.1∧bD vd xs d zz.2) ?_ (fun K10 aCQ=>?_)
      ·
       rintro⟨p2,X⟩ asD rest
       dsimp only at asD
       refine jd 4 [4,0]<|jn fun aEr=>ku (sz:=5) (ps:=uo) (qs:=[(⟨p2.name,p2.st,p2.no,p2.head,p2.bold⟩:aF)]) (enc:=eQ) (w:= .slice (some ⟨aEr,0,none⟩) 1 1) [2] [0] [(aEr,.cells ⟨([(⟨p2.name,p2.st,p2.no,p2.head,p2.bold⟩:aF)].map eQ).flatten⟩ 86 (0,0))] (hB.2.1) (fun s _ hZ=>bX [(⟨p2.name,p2.st,p2.no,p2.head,p2.bold⟩:aF)] (hZ _ (.head _)) (by intro p hp;rfl)) (fun p _=>an rfl) (by simp<;>omega) (fun aYY aTe Vf=>?_)
       obtain⟨avu,avn,az7⟩:=Vf.form
       subst az7
       refine jd 5 [5]<|ja (j-1) (by omega)<|zD 2<|bO hK6 (⟨j-1,(.slice avu ((uo++[(⟨p2.name,p2.st,p2.no,p2.head,p2.bold⟩:aF)])).length avn),aTe,(uo++[(⟨p2.name,p2.st,p2.no,p2.head,p2.bold⟩:aF)]),X⟩) ⟨by simp only[List.length_append,List.length_cons,List.length_nil];omega,Vf,qi hB.2.2.1 asD.1,asD.2⟩ (by omega) [0,3,4,5,6] (Sub.refl _)
      refine js 120 g (fun h19=>?_) (fun h19=>?_)
      ·
       subst h19
       refine jd 7 [4,4]<|DX hB.2.1<|ja ((uo.length:Int)-1) (by omega)<|aN 7 fun Mu ML F6=>jc (vs:=[zP d,zI ((uo.length:Int)-1)]) [2] (Du (hN.up (((bV.trans kD).trans ry).trans iq)) aej.2 (by omega)) ?_
       rintro _ aSQ ⟨Zt,rfl,aVX,acz,aC7⟩
       refine iS F6 [[4],[4]] ?_
       obtain⟨aH7,acy⟩:=zG uo (Zt.toNat) (by have:=aej.1 rfl;omega)
       refine pP Zt 5 hB.2.1 acy (Int.toNat_of_nonneg (show 0≤Zt∧Zt <((uo).length:Int) from (by have:=aej.1 rfl;omega)).1).symm (fun bdM aAs=>?_)
       refine oJ 0 [2] LB (fun s _ hZ=>cv hB.2.1 aAs hZ acy)<|aN 10 fun Tx TN F5=>jd 1 [1]<|eO F5<|zD 1<|bO aCQ ⟨aH7,aSQ⟩ ⟨hB.2.2.1 _ (List.mem_of_getElem? acy),aC7⟩ Nat.zero_lt_one [1,2,0,3,4,5] (Sub.refl _)
      subst h19
      refine zD 2<|bO aCQ ⟨⟨pp.name,pp.st,q,pp.head,false⟩,X⟩ ⟨⟨⟨aek.1.1,aek.1.2.1,aek.1.2.2,rfl⟩,akb.1⟩,aej.2⟩ Nat.zero_lt_one [0,1,2,3,4,5] (Sub.refl _)
     refine jd 3 [4]<|DX hB.2.1<|zD 2<|js 117 (decide ((uo.length:Int)>0)) (fun I6=>?_) (fun I6=>?_)
     ·
      have aeD:=I6
      replace aeD:=of_decide_eq_true aeD
      refine zD 1<|jc (vs:=[zP d,zI 5]) [2] (sJ (hN.up (((bV.trans kD).trans ry).trans iq)) akb.2 (by omega)) ?_
      rintro _ aSR ⟨aIk,rfl,aC8⟩
      refine zD 2<|bO hK9 ⟨aIk,aSR⟩ ⟨fun _=>by omega,aC8⟩ Nat.zero_lt_one [1,2,0,3,4,5] (Sub.refl _)
     have aeD:=I6
     replace aeD:=of_decide_eq_false aeD
     refine zD 4<|bO hK9 ⟨false,X⟩ ⟨(fun h=>by cases h),akb.2⟩ Nat.zero_lt_one [0,1,2,3,4,5] (Sub.refl _)
    refine zJ 107 (pp.st=1) (fun Eb=>?_) fun Eb=>?_
    ·
     refine zD 3<|jn fun aEt=>YQ (vs:=[zP d,.slice (some ⟨aEt,0,none⟩) 2 2]) [1] [0] [(aEt,.cells ⟨([1,3].map cJ).flatten⟩ 3 (0,0))] (fun aA hs hZ=>afz ((hN.up (((bV.trans kD).trans ry).trans iq)).up hs) amI (bS [1,3] hZ.head (by intro p hp;rfl)) (by simp)) ?_
     rintro _ aSS ⟨aIl,rfl,ayC,aC9⟩
     refine jd 3 [2]<|bO hK8 ⟨aIl,aSS⟩ ⟨⟨(fun h=>by omega),(fun _=>by simpa using ayC)⟩,aC9⟩ Nat.zero_lt_one [2,3,0,4,5,6] (Sub.refl _)
    refine zD 2<|bO hK8 ⟨aIn,aST⟩ ⟨⟨(fun _=>by dsimp only;omega),(fun h=>by omega)⟩,amI⟩ Nat.zero_lt_one [1,2,0,3,4,5] (Sub.refl _)
   refine jd 4 [2]<|m8 [3,5] ⟨fun z13 t14 asx=>?_,fun z16 t17 aeg=>?_,trivial⟩
   ·
    refine jc [1] (VJ (hN.up (((bV.trans kD).trans ry).trans iq)) hB.2.2.2) ?_
    rintro _ aSU ⟨ahB,rfl,U7,Vw⟩
    refine iS asx [[2]]<|m8 [4,5] ⟨fun z19 t20 XW=>?_,fun z22 t23 asw=>?_,trivial⟩
    ·
     refine jc (vs:=[zP d,.agg ⟨[zI 2,zI 0,zI 0,.slice eC ki.length ek,.slice dJ jF.length dr,zS,zS]⟩,.string ahB]) [0] (wN (hN.up (((bV.trans kD).trans ry).trans iq)) Vw ((((show bI _ _ _ _ _ from ⟨dJ,uK,uJ,dr,rfl,wZ,qB,qA⟩).up kD).up ry).up iq) (by have:=BF.len;have:=F4.nh;omega)) ?_
     rintro _ aga ⟨avj,rfl,Om,Od,OA,OP⟩
     refine eO XW<|aN 5 fun auZ avS SB=>jn fun jq=>eO SB<|aN 6 fun ak7 aln OL=>jd 1 [0]<|eO OL<|zD 1<|bO hK7 ⟨jq,_,aga⟩ ⟨⟨Om▸U7,wI BF OA,Od⟩,OP⟩ Nat.zero_lt_one [0,2,1,3,4,5] (Sub.refl _)
    refine jn fun jq=>bC asw [1,2,3,4,5]<|aN 4 fun Zd ZR SA=>jc (vs:=[zP d,.agg ⟨[zI 2,zI 0,zI 0,.slice eC ki.length ek,.slice dJ jF.length dr,zS,zS]⟩,.string ahB]) [1] (wN (hN.up (((bV.trans kD).trans ry).trans iq)) Vw ((((show bI _ _ _ _ _ from ⟨dJ,uK,uJ,dr,rfl,wZ,qB,qA⟩).up kD).up ry).up iq) (by have:=BF.len;have:=F4.nh;omega)) ?_
    rintro _ aga ⟨avj,rfl,Om,Od,OA,OP⟩
    refine eO SA<|aN 6 fun Zc ZQ KS=>jd 1 [1]<|eO KS<|zD 1<|bO hK7 ⟨jq,_,aga⟩ ⟨⟨Om▸U7,wI BF OA,Od⟩,OP⟩ Nat.zero_lt_one [1,2,0,3,4,5] (Sub.refl _)
   refine jn fun jq=>bC aeg [1,2,3,4,5]<|aN 3 fun Tw TK KR=>jc [2] (VJ (hN.up (((bV.trans kD).trans ry).trans iq)) hB.2.2.2) ?_
   rintro _ aSU ⟨ahB,rfl,U7,Vw⟩
   refine iS KR [[3]]<|aN 4 fun Zb ZP Sz=>jc (vs:=[zP d,.agg ⟨[zI 2,zI 0,zI 0,.slice eC ki.length ek,.slice dJ jF.length dr,zS,zS]⟩,.string ahB]) [0] (wN (hN.up (((bV.trans kD).trans ry).trans iq)) Vw ((((show bI _ _ _ _ _ from ⟨dJ,uK,uJ,dr,rfl,wZ,qB,qA⟩).up kD).up ry).up iq) (by have:=BF.len;have:=F4.nh;omega)) ?_
   rintro _ aga ⟨avj,rfl,Om,Od,OA,OP⟩
   refine eO Sz<|aN 6 fun ak6 alm XV=>jd 1 [1]<|eO XV<|zD 1<|bO hK7 ⟨jq,_,aga⟩ ⟨⟨Om▸U7,wI BF OA,Od⟩,OP⟩ Nat.zero_lt_one [1,2,0,3,4,5] (Sub.refl _)
  refine zD 7<|jc (vs:=[zP d,zI np]) [1] (Du (hN.up (((bV.trans kD).trans ry).trans iq)) hB.2.2.2 (by omega)) ?_
  rintro _ aSP ⟨aIi,rfl,aVW,aVN,aC6⟩
  refine zD 3<|pQ<|ez [1,1,1,1,1,1,1,0,1,0,0] [] (fun(zz:Int×Value×Cells×(List aF)×Cells)=>[(0,zP d),(2,zI nf),(6,zP b6),(7,zP b7),(10,zP rI),(13,zI zz.1)]) (fun(zz:Int×Value×Cells×(List aF)×Cells)=>[.l zz.2.2.1,.l zz.2.2.2.2,.l LB,.b rI (.cells ⟨[zI 2,zI 0,zI 0,.slice eC ki.length ek,.slice dJ jF.length dr,zS,zS]⟩ 83 (0,0)),.b b7 (.cells ⟨[.slice (some ⟨dL,0,none⟩) 2 2,.slice eT Qi.length dY,zS,.slice eC ki.length ek,.slice dJ jF.length dr,vR,vB,zz.2.1,zI 0,zI 0,zI 0,zS]⟩ 38 (0,0)),.b b6 (.cells ⟨[zS,zS,zS,zS,zS,zS,zS,zS,zI 0,zI 0,zI 0,zS]⟩ 38 (0,0))]) (fun(zz:Int×Value×Cells×(List aF)×Cells)=>(0≤zz.1∧zz.2.2.2.1.length+zz.1≤4)∧az zz.2.1 5 86 eQ zz.2.2.2.1 zz.2.2.1∧(∀p∈zz.2.2.2.1,agf Sj p)∧bD vd xs d zz.2.2.2.2) (fun(zz:Int×Value×Cells×(List aF)×Cells)=>zz.1.toNat) (⟨aIi,zS,[],[],aSP⟩) ⟨by simp only[List.length_nil];omega,az.nil _ _ _,(fun _ h=>by cases h),aC6⟩ [0,1,2,3,4,5] ?_
  rintro⟨j,vA,LA,Jp,X⟩ hA K32 aQ0 rest
  dsimp only at hA
  refine zD 6<|zJ 141 (j>0) (fun h35=>?_) fun h35=>?_
  ·
   refine zD 5<|IT [1,1,1,1,1,1,1,0,1,0,0,1,0,0,1] [K32] (fun(zz:Nat×aF×Cells)=>[(0,zP d),(2,zI nf),(6,zP b6),(7,zP b7),(10,zP rI),(13,zI j),(14,zP zz.1)]) (fun(zz:Nat×aF×Cells)=>[.b zz.1 (.cells ⟨[.string zz.2.1.name,zI zz.2.1.st,zI zz.2.1.no,zI zz.2.1.head,.bool zz.2.1.bold]⟩ 86 (0,0)),.l LA,.l zz.2.2,.l LB,.b rI (.cells ⟨[zI 2,zI 0,zI 0,.slice eC ki.length ek,.slice dJ jF.length dr,zS,zS]⟩ 83 (0,0)),.b b7 (.cells ⟨[.slice (some ⟨dL,0,none⟩) 2 2,.slice eT Qi.length dY,zS,.slice eC ki.length ek,.slice dJ jF.length dr,vR,vB,vA,zI 0,zI 0,zI 0,zS]⟩ 38 (0,0)),.b b6 (.cells ⟨[zS,zS,zS,zS,zS,zS,zS,zS,zI 0,zI 0,zI 0,zS]⟩ 38 (0,0))]) (fun(zz:Nat×aF×Cells)=>(LZ zz.2.1.name∧ny Sj zz.2.1.head∧(0≤zz.2.1.st∧zz.2.1.st≤1))∧bD vd xs d zz.2.2) ?_ (fun K33 asB=>?_)
   ·
    rintro⟨V3,pp,X⟩ aei rest
    dsimp only at aei
    refine zD 3<|jc (vs:=[zP d,zI 1,zI 3]) [2] (An (hN.up (((bV.trans kD).trans ry).trans iq)) aei.2 (by omega) (by omega)) ?_
    rintro _ aSN ⟨avh,rfl,aVV,aVM,amF⟩
    refine jd 7 [1,1]<|IT [1,1,1,1,1,1,1,0,1,0,0,1,0,0,1,1,0,1] [K32] (fun(zz:Bool×Cells)=>[(0,zP d),(2,zI nf),(6,zP b6),(7,zP b7),(10,zP rI),(13,zI j),(14,zP V3),(161,.bool zz.1)]) (fun(zz:Bool×Cells)=>[.b V3 (.cells ⟨[.string pp.name,zI pp.st,zI avh,zI pp.head,.bool false]⟩ 86 (0,0)),.l LA,.l zz.2,.l LB,.b rI (.cells ⟨[zI 2,zI 0,zI 0,.slice eC ki.length ek,.slice dJ jF.length dr,zS,zS]⟩ 83 (0,0)),.b b7 (.cells ⟨[.slice (some ⟨dL,0,none⟩) 2 2,.slice eT Qi.length dY,zS,.slice eC ki.length ek,.slice dJ jF.length dr,vR,vB,vA,zI 0,zI 0,zI 0,zS]⟩ 38 (0,0)),.b b6 (.cells ⟨[zS,zS,zS,zS,zS,zS,zS,zS,zI 0,zI 0,zI 0,zS]⟩ 38 (0,0))]) (fun(zz:Bool×Cells)=>(zz.1=true→0 <uo.length)∧bD vd xs d zz.2) ?_ (fun K34 aCL=>?_)
    ·
     rintro⟨g,X⟩ aeh rest
     dsimp only at aeh
     refine IT [1,1,1,1,1,1,1,0,1,0,0,1,0,0,1,1,1] [K32] (fun(zz:aF×Cells)=>[(0,zP d),(2,zI nf),(6,zP b6),(7,zP b7),(10,zP rI),(13,zI j),(14,zP V3)]) (fun(zz:aF×Cells)=>[.b V3 (.cells ⟨[.string zz.1.name,zI zz.1.st,zI zz.1.no,zI zz.1.head,.bool zz.1.bold]⟩ 86 (0,0)),.l LA,.l zz.2,.l LB,.b rI (.cells ⟨[zI 2,zI 0,zI 0,.slice eC ki.length ek,.slice dJ jF.length dr,zS,zS]⟩ 83 (0,0)),.b b7 (.cells ⟨[.slice (some ⟨dL,0,none⟩) 2 2,.slice eT Qi.length dY,zS,.slice eC ki.length ek,.slice dJ jF.length dr,vR,vB,vA,zI 0,zI 0,zI 0,zS]⟩ 38 (0,0)),.b b6 (.cells ⟨[zS,zS,zS,zS,zS,zS,zS,zS,zI 0,zI 0,zI 0,zS]⟩ 38 (0,0))]) (fun(zz:aF×Cells)=>agf Sj zz.1∧bD vd xs d zz.2) ?_ (fun K35 asA=>?_)
     ·
      rintro⟨p2,X⟩ asC rest
      dsimp only at asC
      refine jd 4 [5,0]<|jn fun aEp=>ku (sz:=5) (ps:=Jp) (qs:=[(⟨p2.name,p2.st,p2.no,p2.head,p2.bold⟩:aF)]) (enc:=eQ) (w:= .slice (some ⟨aEp,0,none⟩) 1 1) [2] [0] [(aEp,.cells ⟨([(⟨p2.name,p2.st,p2.no,p2.head,p2.bold⟩:aF)].map eQ).flatten⟩ 86 (0,0))] (hA.2.1) (fun s _ hZ=>bX [(⟨p2.name,p2.st,p2.no,p2.head,p2.bold⟩:aF)] (hZ _ (.head _)) (by intro p hp;rfl)) (fun p _=>an rfl) (by simp<;>omega) (fun aYX aTd Ve=>?_)
      obtain⟨avt,avm,az6⟩:=Ve.form
      subst az6
      refine jd 5 [6]<|ja (j-1) (by omega)<|zD 2<|bO aQ0 (⟨j-1,(.slice avt ((Jp++[(⟨p2.name,p2.st,p2.no,p2.head,p2.bold⟩:aF)])).length avm),aTd,(Jp++[(⟨p2.name,p2.st,p2.no,p2.head,p2.bold⟩:aF)]),X⟩) ⟨by simp only[List.length_append,List.length_cons,List.length_nil];omega,Ve,qi hA.2.2.1 asC.1,asC.2⟩ (by omega) [0,3,4,5,6,7] (Sub.refl _)
     refine js 161 g (fun h36=>?_) (fun h36=>?_)
     ·
      subst h36
      refine jd 8 [5,5]<|DX hB.2.1<|ja ((uo.length:Int)-1) (by omega)<|aN 7 fun auX avQ Sx=>jc (vs:=[zP d,zI ((uo.length:Int)-1)]) [2] (Du (hN.up (((bV.trans kD).trans ry).trans iq)) aeh.2 (by omega)) ?_
      rintro _ bev ⟨Zs,rfl,aVU,aVL,aC4⟩
      refine iS Sx [[5],[5]] ?_
      obtain⟨CU,N8⟩:=zG uo (Zs.toNat) (by have:=aeh.1 rfl;omega)
      refine pP Zs 5 hB.2.1 N8 (Int.toNat_of_nonneg (show 0≤Zs∧Zs <((uo).length:Int) from (by have:=aeh.1 rfl;omega)).1).symm (fun bdJ aAp=>?_)
      refine oJ 0 [3] LB (fun s _ hZ=>cv hB.2.1 aAp hZ N8)<|aN 10 fun ak5 alk aec=>jd 1 [1]<|eO aec<|zD 5<|jc (vs:=[zP d,zI 3]) [0] (sJ (hN.up (((bV.trans kD).trans ry).trans iq)) aC4 (by omega)) ?_
      rintro _ aSK ⟨aIf,rfl,amE⟩
      refine zD 1<|IT [1,1,1,1,1,1,1,0,1,0,0,1,0,0,1,1,2,1,0,1,1] [K32,K35] (fun(zz:Int×Cells)=>[(0,zP d),(2,zI nf),(6,zP b6),(7,zP b7),(10,zP rI),(13,zI j),(14,zP V3)]) (fun(zz:Int×Cells)=>[.b V3 (.cells ⟨[.string CU.name,zI CU.st,zI zz.1,zI CU.head,.bool CU.bold]⟩ 86 (0,0)),.l LA,.l zz.2,.l LB,.b rI (.cells ⟨[zI 2,zI 0,zI 0,.slice eC ki.length ek,.slice dJ jF.length dr,zS,zS]⟩ 83 (0,0)),.b b7 (.cells ⟨[.slice (some ⟨dL,0,none⟩) 2 2,.slice eT Qi.length dY,zS,.slice eC ki.length ek,.slice dJ jF.length dr,vR,vB,vA,zI 0,zI 0,zI 0,zS]⟩ 38 (0,0)),.b b6 (.cells ⟨[zS,zS,zS,zS,zS,zS,zS,zS,zI 0,zI 0,zI 0,zS]⟩ 38 (0,0))]) (fun(zz:Int×Cells)=>(1≤zz.1∧zz.1≤3)∧bD vd xs d zz.2) ?_ (fun K38 aCK=>?_)
      ·
       rintro⟨q,X⟩ aka rest
       dsimp only at aka
       have hO:=hB.2.2.1 _ (List.mem_of_getElem? N8)
       have hO2:=hO.1.2.2.1
       have hO3:=hO.2
       refine zD 3<|jc (vs:=[zP d,zI 4]) [2] (sJ (hN.up (((bV.trans kD).trans ry).trans iq)) aka.2 (by omega)) ?_
       rintro _ aEI ⟨aId,rfl,amD⟩
       refine zD 1<|js 178 aId (fun Y0=>?_) (fun Y0=>?_)
       ·
        subst Y0
        refine jd 5 [1]<|bO asA ⟨⟨CU.name,CU.st,q,-1,CU.bold⟩,aEI⟩ ⟨⟨⟨hO.1.1,.inl rfl,hO.1.2.2.1,hO.1.2.2.2⟩,aka.1⟩,amD⟩ Nat.zero_lt_one [1,2,0,3,4,5,6] (Sub.refl _)
       subst Y0
       refine zD 2<|bO asA ⟨⟨CU.name,CU.st,q,CU.head,CU.bold⟩,aEI⟩ ⟨⟨⟨hO.1.1,hO.1.2.1,hO.1.2.2.1,hO.1.2.2.2⟩,aka.1⟩,amD⟩ Nat.zero_lt_one [1,2,0,3,4,5,6] (Sub.refl _)
      refine js 173 aIf (fun h40=>?_) (fun h40=>?_)
      ·
       subst h40
       have hO:=hB.2.2.1 _ (List.mem_of_getElem? N8)
       have hO2:=hO.1.2.2.1
       have hO3:=hO.2
       refine zD 3<|jc (vs:=[zP d,zI 1,zI 3]) [0] (An (hN.up (((bV.trans kD).trans ry).trans iq)) amE (by omega) (by omega)) ?_
       rintro _ aSJ ⟨aIe,rfl,aVT,aVK,aC3⟩
       refine jd 3 [1]<|bO aCK ⟨aIe,aSJ⟩ ⟨by dsimp only;omega,aC3⟩ Nat.zero_lt_one [1,2,0,3,4,5,6] (Sub.refl _)
      subst h40
      have hO:=hB.2.2.1 _ (List.mem_of_getElem? N8)
      have hO2:=hO.1.2.2.1
      have hO3:=hO.2
      refine zD 2<|bO aCK ⟨CU.no,aSK⟩ ⟨by dsimp only;omega,amE⟩ Nat.zero_lt_one [1,2,0,3,4,5,6] (Sub.refl _)
     subst h36
     refine zD 2<|bO asA ⟨⟨pp.name,pp.st,avh,pp.head,false⟩,X⟩ ⟨⟨⟨aei.1.1,aei.1.2.1,aei.1.2.2,rfl⟩,by dsimp only;omega⟩,aeh.2⟩ Nat.zero_lt_one [0,1,2,3,4,5,6] (Sub.refl _)
    refine jd 3 [5]<|DX hB.2.1<|zD 2<|js 157 (decide ((uo.length:Int)>0)) (fun h41=>?_) (fun h41=>?_)
    ·
     have aeq:=h41
     replace aeq:=of_decide_eq_true aeq
     refine zD 1<|jc (vs:=[zP d,zI 3]) [0] (sJ (hN.up (((bV.trans kD).trans ry).trans iq)) amF (by omega)) ?_
     rintro _ aSM ⟨aIh,rfl,aC5⟩
     refine zD 3<|bO aCL ⟨!aIh,aSM⟩ ⟨fun _=>by omega,aC5⟩ Nat.zero_lt_one [1,2,0,3,4,5,6] (Sub.refl _)
    have aeq:=h41
    replace aeq:=of_decide_eq_false aeq
    refine zD 5<|bO aCL ⟨false,aSN⟩ ⟨(fun h=>by cases h),amF⟩ Nat.zero_lt_one [1,2,0,3,4,5,6] (Sub.refl _)
   refine jd 4 [3]<|m8 [3,5] ⟨fun z39 t40 asq=>?_,fun z42 t43 aQS=>?_,trivial⟩
   ·
    refine jc [1] (VJ (hN.up (((bV.trans kD).trans ry).trans iq)) hA.2.2.2) ?_
    rintro _ aSO ⟨ahA,rfl,U6,Vv⟩
    refine iS asq [[3]]<|m8 [4,5] ⟨fun z45 t46 aQQ=>?_,fun z48 t49 aso=>?_,trivial⟩
    ·
     refine jc (vs:=[zP d,.agg ⟨[zI 2,zI 0,zI 0,.slice eC ki.length ek,.slice dJ jF.length dr,zS,zS]⟩,.string ahA]) [0] (wN (hN.up (((bV.trans kD).trans ry).trans iq)) Vv ((((show bI _ _ _ _ _ from ⟨dJ,uK,uJ,dr,rfl,wZ,qB,qA⟩).up kD).up ry).up iq) (by have:=BF.len;have:=F4.nh;omega)) ?_
     rintro _ af9 ⟨avi,rfl,Ol,Oc,Oz,OO⟩
     refine eO aQQ<|aN 5 fun auT avM asn=>jn fun V3=>eO asn<|aN 6 fun auS avL aeb=>jd 1 [0]<|eO aeb<|zD 1<|bO asB ⟨V3,_,af9⟩ ⟨⟨Ol▸U6,wI BF Oz,Oc⟩,OO⟩ Nat.zero_lt_one [0,2,1,3,4,5,6] (Sub.refl _)
    refine jn fun V3=>bC aso [1,2,3,4,5,6]<|aN 4 fun ak4 alj aea=>jc (vs:=[zP d,.agg ⟨[zI 2,zI 0,zI 0,.slice eC ki.length ek,.slice dJ jF.length dr,zS,zS]⟩,.string ahA]) [1] (wN (hN.up (((bV.trans kD).trans ry).trans iq)) Vv ((((show bI _ _ _ _ _ from ⟨dJ,uK,uJ,dr,rfl,wZ,qB,qA⟩).up kD).up ry).up iq) (by have:=BF.len;have:=F4.nh;omega)) ?_
    rintro _ af9 ⟨avi,rfl,Ol,Oc,Oz,OO⟩
    refine eO aea<|aN 6 fun ak3 ali ad9=>jd 1 [1]<|eO ad9<|zD 1<|bO asB ⟨V3,_,af9⟩ ⟨⟨Ol▸U6,wI BF Oz,Oc⟩,OO⟩ Nat.zero_lt_one [1,2,0,3,4,5,6] (Sub.refl _)
   refine jn fun V3=>bC aQS [1,2,3,4,5,6]<|aN 3 fun auR avK asm=>jc [2] (VJ (hN.up (((bV.trans kD).trans ry).trans iq)) hA.2.2.2) ?_
   rintro _ aSO ⟨ahA,rfl,U6,Vv⟩
   refine iS asm [[4]]<|aN 4 fun auQ avJ asl=>jc (vs:=[zP d,.agg ⟨[zI 2,zI 0,zI 0,.slice eC ki.length ek,.slice dJ jF.length dr,zS,zS]⟩,.string ahA]) [0] (wN (hN.up (((bV.trans kD).trans ry).trans iq)) Vv ((((show bI _ _ _ _ _ from ⟨dJ,uK,uJ,dr,rfl,wZ,qB,qA⟩).up kD).up ry).up iq) (by have:=BF.len;have:=F4.nh;omega)) ?_
   rintro _ af9 ⟨avi,rfl,Ol,Oc,Oz,OO⟩
   refine eO asl<|aN 6 fun auP avI ad8=>jd 1 [1]<|eO ad8<|zD 1<|bO asB ⟨V3,_,af9⟩ ⟨⟨Ol▸U6,wI BF Oz,Oc⟩,OO⟩ Nat.zero_lt_one [1,2,0,3,4,5,6] (Sub.refl _)
  refine zD 4<|jf [2,0] (LB++LA) (fun aZg vo azO=>?_)
  have hb:=hB.2.1.ma (Knows.left azO)
  have ha:=hA.2.1.ma (Knows.right azO)
  have hBF:=hb
  have hAF:=ha
  obtain⟨pF,WV,WT,oZ,rfl,WU,Uj,Ui⟩:=hb
  obtain⟨pd,Um,Uk,oN,rfl,Ul,Q6,Q5⟩:=ha
  refine zD 2<|jc (vs:=[zP d,zI 4]) [0] (Du (hN.up ((((bV.trans kD).trans ry).trans iq).trans vo)) hA.2.2.2 (by omega)) ?_
  rintro _ beu ⟨ahz,rfl,aVS,aVJ,aC2⟩
  refine jn fun aEo=>YQ (vs:=[zP d,.slice (some ⟨aEo,0,none⟩) 4 4]) [1] [0] [(aEo,.cells ⟨([1,2,4,ahz].map cJ).flatten⟩ 3 (0,0))] (fun aA hs hZ=>afz ((hN.up ((((bV.trans kD).trans ry).trans iq).trans vo)).up hs) aC2 (bS [1,2,4,ahz] hZ.head (by intro p hp;rfl)) (by simp)) ?_
  rintro _ bet ⟨Zr,rfl,ayA,aC1⟩
  refine zD 2<|jc (vs:=[zP d,zI 4]) [0] (Du (hN.up ((((bV.trans kD).trans ry).trans iq).trans vo)) aC1 (by omega)) ?_
  rintro _ bes ⟨ahy,rfl,aVR,aVI,aC0⟩
  refine jn fun aEn=>YQ (vs:=[zP d,.slice (some ⟨aEn,0,none⟩) 4 4]) [1] [0] [(aEn,.cells ⟨([1,2,4,ahy].map cJ).flatten⟩ 3 (0,0))] (fun aA hs hZ=>afz ((hN.up ((((bV.trans kD).trans ry).trans iq).trans vo)).up hs) aC0 (bS [1,2,4,ahy] hZ.head (by intro p hp;rfl)) (by simp)) ?_
  rintro _ ber ⟨Zq,rfl,ayz,aCZ⟩
  refine zD 2<|jc (vs:=[zP d,zI 4]) [0] (Du (hN.up ((((bV.trans kD).trans ry).trans iq).trans vo)) aCZ (by omega)) ?_
  rintro _ bep ⟨ahx,rfl,aVQ,aVH,aCY⟩
  refine jn fun aEm=>YQ (vs:=[zP d,.slice (some ⟨aEm,0,none⟩) 4 4]) [1] [0] [(aEm,.cells ⟨([1,2,4,ahx].map cJ).flatten⟩ 3 (0,0))] (fun aA hs hZ=>afz ((hN.up ((((bV.trans kD).trans ry).trans iq).trans vo)).up hs) aCY (bS [1,2,4,ahx] hZ.head (by intro p hp;rfl)) (by simp)) ?_
  rintro _ beo ⟨Zo,rfl,ayy,aCX⟩
  refine jd 6 [5,5,5] ?_
  have AQ:=apt ayA (by omega:0≤ahz∧ahz≤4)
  have BG:=apt ayz (by omega:0≤ahy∧ahy≤4)
  have rD:=apt ayy (by omega:0≤ahx∧ahx≤4)
  refine zD 6<|jc (vs:=[zP d,zI nf]) [0] (Du (hN.up ((((bV.trans kD).trans ry).trans iq).trans vo)) aCX (by omega)) ?_
  rintro _ aSI ⟨aIc,rfl,aVP,aVG,aCW⟩
  refine zD 3<|pQ<|ez [1,1,1,1,1,1,1,1,1,0,1,0,0] [] (fun(zz:Int×Value×Cells×(List gV)×Cells)=>[(0,zP d),(6,zP b6),(7,zP b7),(15,zI zz.1)]) (fun(zz:Int×Value×Cells×(List gV)×Cells)=>[.l zz.2.2.1,.l zz.2.2.2.2,.b rI (.cells ⟨[zI 2,zI 0,zI 0,.slice eC ki.length ek,.slice dJ jF.length dr,zS,zS]⟩ 83 (0,0)),.b b7 (.cells ⟨[.slice (some ⟨dL,0,none⟩) 2 2,.slice eT Qi.length dY,zS,.slice eC ki.length ek,.slice dJ jF.length dr,vR,.slice pF uo.length oZ,.slice pd Jp.length oN,zI Zr,zI Zq,zI Zo,zz.2.1]⟩ 38 (0,0)),.b b6 (.cells ⟨[zS,zS,zS,zS,zS,zS,zS,zS,zI 0,zI 0,zI 0,zS]⟩ 38 (0,0))]) (fun(zz:Int×Value×Cells×(List gV)×Cells)=>(0≤zz.1∧zz.2.2.2.1.length+zz.1≤nf)∧az zz.2.1 3 57 vM zz.2.2.2.1 zz.2.2.1∧AD uo.length Jp.length zz.2.2.2.1∧bD vd xs d zz.2.2.2.2) (fun(zz:Int×Value×Cells×(List gV)×Cells)=>zz.1.toNat) (⟨aIc,zS,[],[],aSI⟩) ⟨by simp only[List.length_nil];omega,az.nil _ _ _,⟨(fun _ h=>by cases h),List.Pairwise.nil⟩,aCW⟩ [0,1,5,6,7] ?_
  rintro⟨j,vF,LF,fs,X⟩ hF K58 aCJ rest
  dsimp only at hF
  have aq7:=hB.1
  have aV6:=hA.1
  refine zD 6<|jj 5 [(0,zP d),(6,zP b6),(7,zP b7),(15,zI j),(214,.bool ((decide (j>0))&&(decide ((uo.length:Int)>0))))] (fun gD=>?_) (fun hj=>?_)
  rotate_left
  refine js 209 (decide (j>0)) (fun h56=>?_) (fun h56=>?_)
  ·
   have aep:=h56
   replace aep:=of_decide_eq_true aep
   refine jd 5 [3]<|jw 214 (.bool ((decide (j>0))&&(decide ((uo.length:Int)>0)))) (w:= .bool (decide ((uo.length:Int)>0))) (by rw[h56]<;>rfl) ?_
   exact hj _ (by kernel_rfl) (by kernel_rfl)
  ·
   have aep:=h56
   replace aep:=of_decide_eq_false aep
   refine zD 5<|jw 214 (.bool ((decide (j>0))&&(decide ((uo.length:Int)>0)))) (w:= .bool false) (by rw[h56]<;>rfl) ?_
   exact hj _ (by kernel_rfl) (by kernel_rfl)
  refine zD 1<|jj 5 [(0,zP d),(6,zP b6),(7,zP b7),(15,zI j),(220,.bool (((decide (j>0))&&(decide ((uo.length:Int)>0)))&&(decide ((Jp.length:Int)>0))))] (fun gD=>?_) (fun hj=>?_)
  rotate_left
  refine js 215 ((decide (j>0))&&(decide ((uo.length:Int)>0))) (fun h57=>?_) (fun h57=>?_)
  ·
   have asI:=h57
   try simp only[zB] at asI
   refine jd 5 [3]<|jw 220 (.bool (((decide (j>0))&&(decide ((uo.length:Int)>0)))&&(decide ((Jp.length:Int)>0)))) (w:= .bool (decide ((Jp.length:Int)>0))) (by rw[h57]<;>rfl) ?_
   exact hj _ (by kernel_rfl) (by kernel_rfl)
  ·
   have asI:=h57
   try simp only[zB] at asI
   refine zD 5<|jw 220 (.bool (((decide (j>0))&&(decide ((uo.length:Int)>0)))&&(decide ((Jp.length:Int)>0)))) (w:= .bool false) (by rw[h57]<;>rfl) ?_
   exact hj _ (by kernel_rfl) (by kernel_rfl)
  refine zD 1<|js 220 (((decide (j>0))&&(decide ((uo.length:Int)>0)))&&(decide ((Jp.length:Int)>0))) (fun h58=>?_) (fun h58=>?_)
  ·
   try simp only[zB] at h58
   refine jd 8 [3]<|jc (vs:=[zP d,.agg ⟨[.slice (some ⟨dL,0,none⟩) 2 2,.slice eT Qi.length dY,zS,.slice eC ki.length ek,.slice dJ jF.length dr,vR,.slice pF uo.length oZ,.slice pd Jp.length oN,zI Zr,zI Zq,zI Zo,vF]⟩]) [1] (aR1 (hN.up ((((bV.trans kD).trans ry).trans iq).trans vo)) hF.2.2.2 (show bI _ _ _ _ _ from ⟨pF,WV,WT,oZ,rfl,WU,Uj,Ui⟩) (show bI _ _ _ _ _ from ⟨pd,Um,Uk,oN,rfl,Ul,Q6,Q5⟩) (by omega)) ?_
   rintro _ aEH ⟨pn,rfl,aWl,aWk,amC⟩
   refine jn fun b16=>jd 6 [0,4,0]<|jp (vs:=[.agg ⟨[.slice (some ⟨dL,0,none⟩) 2 2,.slice eT Qi.length dY,zS,.slice eC ki.length ek,.slice dJ jF.length dr,vR,.slice pF uo.length oZ,.slice pd Jp.length oN,zI Zr,zI Zq,zI Zo,vF]⟩,.agg ⟨[zI pn.a,zI pn.b,.bool pn.same]⟩]) [2] LF (fun aA hs hZ=>ax8 (x:=⟨pn.a,pn.b,pn.same⟩) (hF.2.1.ma hZ) (by omega))<|zD 2<|js 229 (!(TJ fs pn.a pn.b)) (fun h59=>?_) (fun h59=>?_)
   ·
    try simp only[zB] at h59
    refine jd 5 [4,0]<|jn fun aEl=>ku (sz:=3) (ps:=fs) (qs:=[(⟨pn.a,pn.b,pn.same⟩:gV)]) (enc:=vM) (w:= .slice (some ⟨aEl,0,none⟩) 1 1) [3] [0] [(aEl,.cells ⟨([(⟨pn.a,pn.b,pn.same⟩:gV)].map vM).flatten⟩ 57 (0,0))] (hF.2.1) (fun s _ hZ=>bX [(⟨pn.a,pn.b,pn.same⟩:gV)] (hZ _ (.head _)) (by intro p hp;rfl)) (fun p _=>an rfl) (by simp<;>omega) (fun aYV aTc Vd=>?_)
    obtain⟨avs,avl,az5⟩:=Vd.form
    subst az5
    refine jd 5 [5]<|ja (j-1) (by omega)<|zD 2<|bO aCJ (⟨j-1,(.slice avs ((fs++[(⟨pn.a,pn.b,pn.same⟩:gV)])).length avl),aTc,(fs++[(⟨pn.a,pn.b,pn.same⟩:gV)]),aEH⟩) ⟨by simp only[List.length_append,List.length_cons,List.length_nil];omega,Vd,AD.snoc hF.2.2.1 (by dsimp only;omega) (by dsimp only;omega) (by assumption),amC⟩ (by omega) [0,3,4,5,6] (Sub.refl _)
   try simp only[zB] at h59
   refine zD 4<|ja (j-1) (by omega)<|zD 2<|bO aCJ (⟨j-1,vF,LF,fs,aEH⟩) ⟨by dsimp only;omega,hF.2.1,hF.2.2.1,amC⟩ (by omega) [2,1,3,4,5] (Sub.refl _)
  try simp only[zB] at h58
  refine zD 4<|jf [0] LF (fun aZf RP aOy=>?_)
  have hFA:=hF.2.1.ma aOy
  refine jd 1 [2] ?_
  obtain⟨aIS,aIu,aO5⟩:=hR.2.1.form
  subst aO5
  obtain⟨aIR,aIt,aO4⟩:=hF.2.1.form
  subst aO4
  refine jd 3 [3]<|aE q0.a.a.a.a.a.a (.agg ⟨[.slice (some ⟨dL,0,none⟩) 2 2,.slice eT Qi.length dY,zS,.slice eC ki.length ek,.slice dJ jF.length dr,(.slice aIS (rs).length aIu),.slice pF uo.length oZ,.slice pd Jp.length oN,zI Zr,zI Zq,zI Zo,(.slice aIR (fs).length aIt)]⟩) [3] [0] X (Sub.refl _) ⟨_,_,X,rfl,rfl,(((((bV.trans kD).trans ry).trans iq).trans vo).trans RP),⟨ways,ki,Sj,rs,uo,Jp,Zr,Zq,Zo,fs,xY⟩,_,rfl,⟨Qa.2.1,F4,⟨by dsimp only;omega,hR.2.2⟩,⟨by dsimp only;omega,hB.2.2.1⟩,⟨by dsimp only;omega,hA.2.2.1⟩,⟨AQ,BG,rD⟩,⟨by dsimp only;omega,hF.2.2.1.1⟩,hF.2.2.1.2,rfl⟩,(by dsimp only;omega),⟨_,_,_,_,_,_,_,_,none,0,jF,rfl,(aQi.up (((ry.trans iq).trans vo).trans RP)),(aAC.up ((iq.trans vo).trans RP)),(rC.up ((((kD.trans ry).trans iq).trans vo).trans RP)),BF,(hRU.up (vo.trans RP)),(hBF.up RP),(hAF.up RP),hFA⟩,hF.2.2.2⟩
 refine js 30 w30 (fun h65=>?_) (fun h65=>?_)
 ·
  subst h65
  refine jd 7 [1]<|aN 4 fun aTB aUn aQN=>jc [0] (aDV (hN.up (bV.trans kD)) aCU) ?_
  rintro _ X35 ⟨tZ,rfl,ayx,aRi⟩
  refine iS aQN [[1]]<|aN 5 fun aTA aUm asj=>jn fun dC=>bC asj [1,2,3]<|zD 1<|aN 7 fun auO avH asi=>jn fun b38=>bC asi [1,2,3,4]<|aN 8 fun auN avG ash=>aME (E:=78) (sz:=1) iQ (qs:=[(.slice (some ⟨dC,0,none⟩) 1 1:Value)]) (w:= .slice (some ⟨b38,0,none⟩) 1 1) [0] [(b38,.cells ⟨([(.slice (some ⟨dC,0,none⟩) 1 1:Value)].map iQ).flatten⟩ 78 (0,0))] (fun s _ hZ=>bX [(.slice (some ⟨dC,0,none⟩) 1 1:Value)] (hZ _ (.head _)) (by intro p hp;rfl)) (by intro p hp;rw[List.mem_singleton] at hp;subst hp;exact an rfl) (by simp<;>omega) (fun v39 L39 Bz=>?_)
  obtain⟨avr,avk,adJ⟩:=Bz.form
  subst adJ
  refine bC ash [1,2,3,4,5]<|zD 2<|aN 11 fun aTz aUl aQM=>jd 1 [4]<|iS aQM []<|zD 4<|jc (vs:=[zP d,zI 2]) [3] (sJ (hN.up (bV.trans kD)) aRi (by omega)) ?_
  rintro _ X43 ⟨w43,rfl,aCT⟩
  refine zD 1<|js 43 w43 (fun h71=>?_) (fun h71=>?_)
  ·
   subst h71
   refine jd 8 [4,4]<|YP 1 Bz (show ([(.slice (some ⟨dC,0,none⟩) 1 1:Value)])[0]?=some (.slice (some ⟨dC,0,none⟩) 1 1:Value) from rfl) fun b50 aPR=>zD 1<|oJ 0 [1] L39 (fun s _ hZ=>cv Bz aPR hZ (show ([(.slice (some ⟨dC,0,none⟩) 1 1:Value)])[0]?=some (.slice (some ⟨dC,0,none⟩) 1 1:Value) from rfl))<|zD 1<|aN 10 fun aTy aUk aQL=>jc [0] (aDV (hN.up (bV.trans kD)) aCT) ?_
   rintro _ X54 ⟨uI,rfl,aM8,aRf⟩
   refine iS aQL [[1],[4],[4]]<|aN 11 fun aTx aUj asg=>jn fun b55=>bC asg [1,2,3,4,5,6]<|aN 12 fun aTw aUi aQK=>ku (sz:=7) (ps:=[(⟨tZ.k,tZ.st,tZ.ot,tZ.fn,tZ.fl,tZ.tn,tZ.tl⟩:aL)]) (qs:=[(⟨uI.k,uI.st,uI.ot,uI.fn,uI.fl,uI.tn,uI.tl⟩:aL)]) (enc:=mw) (w:= .slice (some ⟨b55,0,none⟩) 1 1) [4] [0] [(b55,.cells ⟨([(⟨uI.k,uI.st,uI.ot,uI.fn,uI.fl,uI.tn,uI.tl⟩:aL)].map mw).flatten⟩ 74 (0,0))] (E3 (b:=dC) (T:=74) [(⟨tZ.k,tZ.st,tZ.ot,tZ.fn,tZ.fl,tZ.tn,tZ.tl⟩:aL)] rfl (by intro p hp;rfl)) (fun s _ hZ=>bX [(⟨uI.k,uI.st,uI.ot,uI.fn,uI.fl,uI.tn,uI.tl⟩:aL)] (hZ _ (.head _)) (by intro p hp;rfl)) (fun p _=>an rfl) (by simp<;>omega) (fun v56 L56 vq=>?_)
   obtain⟨Wj,Wi,adH⟩:=vq.form
   subst adH
   refine iS aQK [[5],[5]]<|YP 1 Bz (show ([(.slice (some ⟨dC,0,none⟩) 1 1:Value)])[0]?=some (.slice (some ⟨dC,0,none⟩) 1 1:Value) from rfl) fun b57 aPQ=>zD 1<|aN 15 fun aTv aUh aQJ=>PT 3 0 [(.slice Wj (([(⟨tZ.k,tZ.st,tZ.ot,tZ.fn,tZ.fl,tZ.tn,tZ.tl⟩:aL)]++[(⟨uI.k,uI.st,uI.ot,uI.fn,uI.fl,uI.tn,uI.tl⟩:aL)])).length Wi)] ((.slice Wj (([(⟨tZ.k,tZ.st,tZ.ot,tZ.fn,tZ.fl,tZ.tn,tZ.tl⟩:aL)]++[(⟨uI.k,uI.st,uI.ot,uI.fn,uI.fl,uI.tn,uI.tl⟩:aL)])).length Wi):Value) Bz aPQ (show ([(.slice (some ⟨dC,0,none⟩) 1 1:Value)])[0]?=some (.slice (some ⟨dC,0,none⟩) 1 1:Value) from rfl) rfl rfl (Nat.le_of_ble_eq_true rfl) fun L76 aNW=>iS aQJ []<|zD 1<|N3 bM ⟨(.slice avr ([(.slice (some ⟨dC,0,none⟩) 1 1:Value)]).length avk),L76++L56,[[tZ,uI]],X54⟩ ⟨fun _ hk=>⟨_,aNW.ma hk.left,.cons (vq.ma hk.right) .nil⟩,⟨by simp,by simpa using ⟨ayx,aM8⟩⟩,aRf⟩ Nat.zero_lt_one [[0,1],[3],[5],[6]] (Sub.refl _)
  subst h71
  refine zD 2<|N3 bM ⟨(.slice avr ([(.slice (some ⟨dC,0,none⟩) 1 1:Value)]).length avk),L39++[(dC,.cells ⟨[zI tZ.k,zI tZ.st,zI tZ.ot,zI tZ.fn,zI tZ.fl,zI tZ.tn,zI tZ.tl]⟩ 74 (0,0))],[[tZ]],X43⟩ ⟨fun _ hk=>⟨_,Bz.ma hk.left,.cons (bS [tZ] (hk.right _ (.head _)) (fun _ _=>rfl)) .nil⟩,⟨by simp,by simpa using ayx⟩,aCT⟩ Nat.zero_lt_one [[1,3],[0],[4],[5]] (Sub.refl _)
 subst h65
 refine zD 2<|pQ<|bO bM ⟨zS,[],[],X30⟩ ⟨fun _ _=>Qz,⟨by simp,by simp⟩,aCU⟩ Nat.zero_lt_one [0,1,2,3] (Sub.refl _)
theorem aR3{ro:Nat→Option Obj}(hl:bI ro vd 1 cJ xs):eo zT 8 [vd] ro [] (fun r Y=>∃d,r= zP d∧bD vd xs d Y):=by
 obtain⟨fp,rh,q9,eJ,rfl,tq,k8,me⟩:=hl
 refine bA au [] [] bn<|zD 8<|jn fun b5=>zD 3<|aE q0 (zP b5) [] [0] [(b5,.cells ⟨[.slice fp xs.length eJ,zI 0,zU 11400714819323198485]⟩ 93 (0,0))] (Sub.refl _) ⟨_,_,rfl,rfl,_,rfl,0,_,Nat.zero_le _,rfl⟩
theorem dD.mem{R:α→β→Prop}{l:List α}{m:List β}(h:dD R l m){a:α}(ha:a∈l):∃b∈m,R a b:=by
 obtain⟨i,hi⟩:=List.getElem?_of_mem ha
 obtain⟨b,hb,hr⟩:=h.get hi
 exact⟨b,List.mem_of_getElem? hb,hr⟩
theorem mi{ro:Nat→Option Obj}{hv:List bp}(h:dD (qW ro) hv hd):∀p∈hv,∀c∈lK p,single c=true:=fun p hp=>by
 obtain⟨y,_,h1⟩:=h.mem hp
 obtain⟨w,c,s,a⟩:=p
 obtain⟨_,_,_,_,e,_⟩:=h1.2.2.2
 dsimp only at e
 subst e
 exact an rfl
structure ei where
 a:Int
 b:Int
 c:Int
 d:Int
 e:Int
 f:Int
abbrev n5(x:ei):List Value:=[zI x.a,zI x.b,zI x.c,zI x.d,zI x.e,zI x.f]
def YG(K:aZ)(l:List Value):Prop:=∃v0 v1 v3 v4 v5 v6 v7 vb fa fc,l=[v0,v1,.slice fa 0 fc,v3,v4,v5,v6,v7,zI K.gone,zI K.new,zI K.af,vb]∧∀v∈[v0,v1,v3,v4,v5,v6,v7,vb],single v=true
theorem YG.all{K:aZ}{l:List Value}(h:YG K l):∀v∈l,single v=true:=by
 obtain⟨v0,v1,v3,v4,v5,v6,v7,vb,fa,fc,rfl,h⟩:=h
 simp only[List.mem_cons,List.not_mem_nil,or_false] at h ⊢
 rintro v (rfl|rfl|rfl|rfl|rfl|rfl|rfl|rfl|rfl|rfl|rfl|rfl)<;>first|rfl|exact h _ (by simp)
theorem jM{v:Value}{sz:Nat}{enc:α→List Value}{ps:List α}{ro:Nat→Option Obj}(h:bI ro v sz enc ps):single v=true:=by
 obtain⟨a,b,o,c,rfl,_⟩:=h;rfl
theorem EC{a b c d e f g h:Value}(h1:single a=true)(h2:single b=true)(h3:single c=true)(h4:single d=true)(h5:single e=true)(h6:single f=true)(h7:single g=true)(h8:single h=true):∀v∈[a,b,c,d,e,f,g,h],single v=true:=by
 simp only[List.mem_cons,List.not_mem_nil,or_false]
 rintro v (rfl|rfl|rfl|rfl|rfl|rfl|rfl|rfl)<;>assumption
theorem gh.L{ro:Nat→Option Obj}{l:List Value}{K:aZ}(h:gh ro l K):YG K l:=by
 obtain⟨v0,v1,v3,v4,v5,v6,v7,vb,fa,fc,hv,rfl,⟨_,h0,_⟩,⟨_,h1,_⟩,⟨h3,h4,_⟩,_,h5,h6,h7,hb⟩:=h
 exact⟨_,_,_,_,_,_,_,_,_,_,rfl,EC (jM h0) (jM h1) (jM h3) (jM h4) (jM h5) (jM h6) (jM h7) (jM hb)⟩
theorem oG{P:Prop}{p:α}(h:([]:List α)[i]?=some p):P:=by simp at h
theorem eY{l:List α}{a:α}(h:l[i]?=some a):l.take (i+1)=l.take i++[a]:=by
 rw[List.take_succ,h];rfl
theorem wT{R:α→β→Prop}{ws:List α}{ls:List β}{w:α}{l:β}(h:dD R ws (ls.take i))(hl:ls[i]?=some l) (hr:R w l):dD R (ws++[w]) (ls.take (i+1)):=by
 rw[eY hl];exact h.snoc hr
end Go.L
