/- Part 12 of the proof: a program logic, contracts, a theorem on goroutines. -/
import Derived.Test.YtjpghiajlddegaaGreatDoorA11
set_option maxRecDepth 100000
set_option linter.all false
namespace Go.L
open Go Go.Conc Go.Proofs
variable {hd:List cw} {α β:Type} {i k nc nh sz:Nat} {aK:Nat→Option Obj} {al xs:List Int} {cs:List bM} {vd vc vh:Value}
def lh(i:Nat)(k:Nat)(al:List Int):Prop:=al.length≤k∧al.Pairwise (· < ·)∧∀y∈al,0≤y∧y <k∧y≠i
theorem pN{l:List α}{R:α→α→Prop}(h:l.Pairwise R){j:Nat}{a b:α}(HA:i <j)(ha:l[i]?=some a) (hb:l[j]?=some b):R a b:=by
 obtain⟨h1,rfl⟩:=List.getElem?_eq_some_iff.1 ha
 obtain⟨h2,rfl⟩:=List.getElem?_eq_some_iff.1 hb
 exact List.pairwise_iff_getElem.1 h i j h1 h2 HA
theorem abV{l:List α}{f:α→β}{R:β→β→Prop}(h:∀(i j:Nat) (a b:α),i <j→l[i]?=some a→l[j]?=some b→R (f a) (f b)):(l.map f).Pairwise R:=by
 rw[List.pairwise_map,List.pairwise_iff_getElem]
 exact fun i j hi hj HA=>h i j _ _ HA (List.getElem?_eq_getElem hi) (List.getElem?_eq_getElem hj)
theorem Rn{a b:ByteArray}(h:cQ a b=false):cQ b a=false:=by
 cases h2:cQ b a with
 |false=>rfl
 |true=>rw[A6.1 h2,A6.2 rfl] at h;cases h
theorem Xh{KM kg:List Int}{hv:List bA}{Z:Cells}(hc:nK KM cs)(hp:KM.Perm (dA nj.length))(hn:0 <cs.length∧cs.length≤3)(hh:mL kg cs.length hv hd Z i)(hi:i=kg.length)(h4:kg.length≤4)(hs:kg.Pairwise (· < ·))(hm:∀x∈kg,0≤x∧x <oS.length):wh cs hd:=by
 obtain⟨g1,g2,g3,g4,_⟩:=hh
 have iS:∀y∈KM,0≤y∧y <nj.length:=fun y hy=>pM (hp.mem_iff.1 hy)
 have lX:KM.Pairwise (· ≠·):=(hp.pairwise_iff (fun h=>Ne.symm h)).2 ((q9 _).imp fun h=>by omega)
 refine⟨hn,by omega,fun k c hk=>?_,abV fun a b x y Ee hx hy=>?_,fun k x hk=>?_,abV fun a b x y Ee hx hy=>?_⟩
 ·obtain⟨⟨y,h1,h2⟩,h3⟩:=hc k c hk
  exact⟨List.mem_of_getElem? h2,h3⟩
 ·obtain⟨⟨p,p1,p2⟩,_⟩:=hc a x hx
  obtain⟨⟨q,q1,q2⟩,_⟩:=hc b y hy
  have VS:=pN lX Ee p1 q1
  have hp0:=iS p (List.mem_of_getElem? p1)
  have VQ:=iS q (List.mem_of_getElem? q1)
  rcases Nat.lt_trichotomy p.toNat q.toNat with h|h|h
  ·exact pN Cm h p2 q2
  ·exact absurd (show p=q by omega) VS
  exact Rn (pN Cm h q2 p2)
 ·obtain⟨⟨w,h1,h2⟩,h3⟩:=g4 k x hk
  have:hd.length=kg.length:=by omega
  rw[this]
  exact⟨List.mem_of_getElem? h2,h3⟩
 obtain⟨⟨p,p1,p2⟩,_⟩:=g4 a x hx
 obtain⟨⟨q,q1,q2⟩,_⟩:=g4 b y hy
 have VS:=pN hs Ee p1 q1
 have hp0:=hm p (List.mem_of_getElem? p1)
 exact pN TX (show p.toNat <q.toNat by omega) p2 q2
theorem lh.step(h:lh i k al):lh i (k+1) al:=⟨by have:=h.1;omega,h.2.1,fun y hy=>by have:=h.2.2 y hy;omega⟩
theorem lh.snoc(h:lh i k al)(hk:(k:Int)≠i):lh i (k+1) (al++[(k:Int)]):=by
 refine⟨by have:=h.1;simp;omega,List.pairwise_append.2 ⟨h.2.1,List.pairwise_singleton _ _,fun a ha b hb=>?_⟩,ql (fun y hy=>by have:=h.2.2 y hy;omega) (by omega)⟩
 rw[List.mem_singleton] at hb;subst hb
 exact(h.2.2 a ha).2.1
theorem aeL{r:Int}{w:ByteArray}(h:0≤r∧r <nh∧r≠i)(h4:0 <nc):gI nc nh i ⟨w,-1,r,[]⟩:=
 have h1:=h.1
 have h2:=h.2.1
 have h3:=h.2.2
 ⟨⟨by simp,by simp<;>omega⟩,⟨by simp<;>omega,by simpa using h2,by simpa using h3⟩,⟨by simp,by simp,by simp⟩,fun _=>⟨rfl,rfl⟩,fun h=>by simp at h;omega⟩
theorem Ju{c:Int}{w:ByteArray}(hc:0≤c∧c <nc)(h:lh i k al)(hk:k≤nh)(hi:i <nh):gI nc nh i ⟨w,c,-1,al⟩:=
 ⟨⟨by simp<;>omega,by simpa using hc.2⟩,⟨by simp,by simp<;>omega,by simp<;>omega⟩,⟨by have:=h.1;simp<;>omega,h.2.1,fun y hy=>by have:=h.2.2 y hy;simp<;>omega⟩,fun hh=>by simp at hh,fun _ hh=>by simp at hh;omega⟩
theorem aeM{w:ByteArray}(h:lh i k al)(hk:k≤nh)(hi:i <nh)(eg:(al.length:Int)>0):gI nc nh i ⟨w,-1,-1,al⟩:=
 ⟨⟨by simp,by simp<;>omega⟩,⟨by simp,by simp<;>omega,by simp<;>omega⟩,⟨by have:=h.1;simp<;>omega,h.2.1,fun y hy=>by have:=h.2.2 y hy;simp<;>omega⟩,fun hh=>by simp at hh,fun _ _ hh=>by simp at hh;subst hh;simp at eg⟩
set_option maxHeartbeats 1000000 in
theorem alH {d:Nat} {X:Cells} {ro:Nat→Option Obj} (hN:Dn ro vd xs) (hD:bJ vd xs d X):eI zT 25 [zP d,zI 3,zI 4] ro X (fun r Y=>∃(cs:List bM) (hv:List bA) (hd:List cw) (vc vh:Value) (Z X':Cells),r= .agg ⟨[vc,vh]⟩∧wh cs hd∧du dj hv hd∧(∀aK,Knows aK Z→iX aK vc vh cs hv hd)∧Y=Z++X'∧bJ vd xs d X'):=by
 refine bI av [.l X] [] bB<|zD 2<|jn fun b6=>zD 3<|jn fun b7=>zD 4<|jc [] (adh) ?_
 rintro v16 L16 ⟨_,aPc,rfl⟩
 refine D7 aPc<|jc (vs:=[zP d,zI (nj.length:Int)]) [3] (agJ hN hD (by first|omega|decide)) ?_
 rintro v18 _ ⟨KM,L18,X18,YA,Pf,rfl,PE⟩
 refine jg 0 [.l L18,.l X18]<|zD 7<|jc (vs:=[zP d,zI 1,zI 3]) [1] (Ax hN PE (by omega) (by omega)) ?_
 rintro _ X21 ⟨w21,rfl,akC,pW,aSj⟩
 refine zD 3<|oU<|eG [1,1,1,0,1,0,0] [] (fun(zz:Int×Value×Cells×(List bM)×Cells)=>[(0,zP d),(2,zI 4),(6,zP b6),(7,zP b7),(8,v18),(9,zI zz.1)]) (fun(zz:Int×Value×Cells×(List bM)×Cells)=>[.l zz.2.2.1,.l zz.2.2.2.2,.b b7 (.cells ⟨[zz.2.1,zS]⟩ 33 (0,0)),.l L18,.b b6 (.cells ⟨[zS,zS]⟩ 33 (0,0))]) (fun(zz:Int×Value×Cells×(List bM)×Cells)=>(0≤zz.1∧zz.2.2.2.1.length+zz.1=w21)∧aD zz.2.1 2 130 oL zz.2.2.2.1 zz.2.2.1∧nK KM zz.2.2.2.1∧bJ vd xs d zz.2.2.2.2) (fun(zz:Int×Value×Cells×(List bM)×Cells)=>zz.1.toNat) (⟨w21,zS,[],[],X21⟩) ⟨by simp only[List.length_nil];omega,aD.nil _ _ _,(fun i c h=>by simp at h),aSj⟩ [0,1,4,2,5] ?_
 rintro⟨j,vC,LC,cs,X⟩ hI K1 bU rest
 dsimp only at hI
 have hlen:KM.length=9:=by rw[Pf.length_eq,lA];rfl
 refine zD 6<|zJ 23 (j>0) (fun h1=>?_) fun h1=>?_
 ·
  refine jd 10 [2,2]<|D7 hI.2.1 ?_
  obtain⟨x33,adF⟩:=zG KM (cs.length)
  refine ZJ 1 YA adF fun b33 aQ2=>oQ 0 [3] L18 (fun s _ hZ=>cG YA aQ2 hZ adF)<|jd 3 [2]<|D7 hI.2.1<|ja ((cs.length:Int)-1) (by omega)<|aN 2 fun AY A5 Ah=>jc [] (adh) ?_
  rintro v28 L28 ⟨_,aAy,rfl⟩
  refine bD Ah [1,2,3,4,5] ?_
  obtain⟨x35,SI⟩:=zG nj (x33.toNat) (by have:=pM (Pf.mem_iff.1 (List.mem_of_getElem? adF));omega)
  refine pS x33 1 aAy SI (Int.toNat_of_nonneg (show 0≤x33∧x33 <((nj).length:Int) from (pM (Pf.mem_iff.1 (List.mem_of_getElem? adF)))).1).symm fun b35 aQ0=>oQ 0 [0] L28 (fun s _ hZ=>cG aAy aQ0 hZ SI)<|aN 16 fun qZ q6 p7=>jc (vs:=[zP d,zI (-1),zI ((cs.length:Int)-1)]) [2] (Ax hN hI.2.2.2 (by omega) (by omega)) ?_
  rintro _ X42 ⟨w42,rfl,bbU,SH,aSd⟩
  refine gX p7 [[1],[3],[4],[3],[3]]<|zD 1<|aN 18 fun rK rR qz=>jn fun dt=>bD qz [1,2,3,4,5,6]<|aN 19 fun yY y8 Ag=>jk (sz:=2) (ps:=cs) (qs:=[(⟨x35,w42⟩:bM)]) (enc:=oL) (w:= .slice (some ⟨dt,0,none⟩) 1 1) [3] [0] [(dt,.cells ⟨([(⟨x35,w42⟩:bM)].map oL).flatten⟩ 130 (0,0))] (hI.2.1) (fun s _ hZ=>cg [(⟨x35,w42⟩:bM)] (hZ _ (.head _)) (by intro p hp;rfl)) (fun p _=>aj rfl) (by simp<;>omega) (fun v45 L45 ad9=>?_)
  obtain⟨apa,ao0,atg⟩:=ad9.form
  subst atg
  refine gX Ag [[3],[4],[5],[4]]<|zD 1<|aN 21 fun Z5 aaW YL=>jd 1 [4]<|dV YL<|zD 3<|ja (j-1) (by omega)<|zD 2<|bO bU (⟨j-1,(.slice apa ((cs++[(⟨x35,w42⟩:bM)])).length ao0),L45,(cs++[(⟨x35,w42⟩:bM)]),X42⟩) ⟨by simp only[List.length_append,List.length_cons,List.length_nil];omega,ad9,nK.snoc hI.2.2.1 adF SI (by omega),aSd⟩ (by omega) [0,2,4,5,6] (Sub.refl _)
 refine zD 5<|jc [] (adw) ?_
 rintro v48 L48 ⟨_,aO3,rfl⟩
 refine D7 aO3<|zD 2<|jc (vs:=[zP d,zI 4]) [2] (DD hN hI.2.2.2 (by omega)) ?_
 rintro _ X52 ⟨w52,rfl,bbT,vi,aSc⟩
 refine jc (vs:=[zP d,zI (oS.length:Int),zI w52]) [0] (aE9 hN aSc (by first|omega|decide)) ?_
 rintro v53 _ ⟨kg,L53,X53,asr,bcM,vo,aev,rfl,ali⟩
 refine jg 0 [.l L53,.l X53]<|zD 5<|D7 asr<|zD 8<|oU<|oU<|eG [1,1,1,1,1,1,0,1,0,0] [] (fun(zz:Nat×Value×Cells×(List bA)×(List cw)×Cells×Cells)=>[(0,zP d),(6,zP b6),(7,zP b7),(10,v53),(11,zI (kg.length:Int)),(12,zI (zz.1:Int))]) (fun(zz:Nat×Value×Cells×(List bA)×(List cw)×Cells×Cells)=>[.l zz.2.2.1,.l zz.2.2.2.2.2.1,.l zz.2.2.2.2.2.2,.l LC,.b b7 (.cells ⟨[vC,zz.2.1]⟩ 33 (0,0)),.l L53,.b b6 (.cells ⟨[zS,zS]⟩ 33 (0,0))]) (fun(zz:Nat×Value×Cells×(List bA)×(List cw)×Cells×Cells)=>zz.1≤kg.length∧aD zz.2.1 4 133 lZ zz.2.2.2.1 zz.2.2.1∧mL kg cs.length zz.2.2.2.1 zz.2.2.2.2.1 zz.2.2.2.2.2.1 zz.1∧bJ vd xs d zz.2.2.2.2.2.2) (fun(zz:Nat×Value×Cells×(List bA)×(List cw)×Cells×Cells)=>kg.length-zz.1) (⟨0,zS,[],[],[],[],X53⟩) ⟨by omega,aD.nil _ _ _,⟨fun _ _=> .nil,rfl,rfl,(fun k x h=>by simp at h),.nil⟩,ali⟩ [1,0,3,5,6,2,8] ?_
 rintro⟨i,vH,LH,hv,hd,Z,X⟩ hJ K7 ZV rest
 dsimp only at hJ
 have hll:=hJ.2.2.1.2.2.1
 have QJ:kg.length≤4:=by omega
 have iG:cs.length≤3:=by omega
 refine zD 7<|zJ 58 ((i:Int) <(kg.length:Int)) (fun h7=>?_) fun h7=>?_
 ·
  refine zD 5<|Hs [1,1,1,1,1,1,0,1,0,0,1,0,0,1] [K7] (fun(zz:Nat×Int×Int×ByteArray×Cells)=>[(0,zP d),(6,zP b6),(7,zP b7),(10,v53),(11,zI (kg.length:Int)),(12,zI (i:Int)),(13,zP zz.1)]) (fun(zz:Nat×Int×Int×ByteArray×Cells)=>[.b zz.1 (.cells ⟨[.string zz.2.2.2.1,zI zz.2.1,zI (-1),zS]⟩ 133 (0,0)),.l LH,.l Z,.l zz.2.2.2.2,.l LC,.b b7 (.cells ⟨[vC,vH]⟩ 33 (0,0)),.l L53,.b b6 (.cells ⟨[zS,zS]⟩ 33 (0,0))]) (fun(zz:Nat×Int×Int×ByteArray×Cells)=>kg[i]?=some zz.2.2.1∧oS[zz.2.2.1.toNat]?=some zz.2.2.2.1∧(0≤zz.2.1∧zz.2.1 <cs.length)∧bJ vd xs d zz.2.2.2.2) ?_ (fun K8 hK8=>?_)
  ·
   rintro⟨yW,w,y,x,X⟩ QV rest
   dsimp only at QV
   refine zD 2<|Hs [1,1,1,1,1,1,0,1,0,0,1,0,0,1,0,1] [K7] (fun(zz:Bool×Cells)=>[(0,zP d),(6,zP b6),(7,zP b7),(10,v53),(11,zI (kg.length:Int)),(12,zI (i:Int)),(13,zP yW),(80,.bool zz.1)]) (fun(zz:Bool×Cells)=>[.b yW (.cells ⟨[.string x,zI w,zI (-1),zS]⟩ 133 (0,0)),.l LH,.l Z,.l zz.2,.l LC,.b b7 (.cells ⟨[vC,vH]⟩ 33 (0,0)),.l L53,.b b6 (.cells ⟨[zS,zS]⟩ 33 (0,0))]) (fun(zz:Bool×Cells)=>(zz.1=true→1 <kg.length)∧bJ vd xs d zz.2) ?_ (fun K9 hK9=>?_)
   ·
    rintro⟨q,X⟩ hJ3 rest
    dsimp only at hJ3
    refine js 80 q (fun h8=>?_) (fun h8=>?_)
    ·
     subst h8
     have hgt:=hJ3.1 rfl
     refine zD 4<|ja ((i:Int)+1) (by omega)<|zD 2<|ja ((kg.length:Int)-2) (by omega)<|zD 2<|aN 5 fun Ek EG vw=>jc (vs:=[zP d,zI ((kg.length:Int)-2)]) [3] (DD hN hJ3.2 (by omega)) ?_
     rintro _ X86 ⟨w86,rfl,bbR,bbL,aR6⟩
     refine gX vw []<|ja (((i:Int)+1)+w86) (by omega)<|jrm (k:= .i64) (a:=(((i:Int)+1)+w86)) (b:=(kg.length:Int)) 3 (by omega)<|aN 10 fun Iw IB BQ=>jd 1 [1]<|gX BQ []<|zD 1<|aN 12 fun Nn NI BP=>jd 1 [1]<|dV BP<|jd 6 [5,1]<|jn fun b95=>jk (sz:=4) (ps:=hv) (qs:=[(⟨x,(-1),(Int.tmod (((i:Int)+1)+w86) (kg.length:Int)),zS⟩:bA)]) (enc:=lZ) (w:= .slice (some ⟨b95,0,none⟩) 1 1) [3] [0] [(b95,.cells ⟨([(⟨x,(-1),(Int.tmod (((i:Int)+1)+w86) (kg.length:Int)),zS⟩:bA)].map lZ).flatten⟩ 133 (0,0))] (hJ.2.1) (fun s _ hZ=>cg [(⟨x,(-1),(Int.tmod (((i:Int)+1)+w86) (kg.length:Int)),zS⟩:bA)] (hZ _ (.head _)) (by intro p hp;rfl)) (by intro p hp;rw[List.mem_singleton] at hp;subst hp;exact aj rfl) (by simp<;>omega) (fun v96 L96 ad3=>?_)
     obtain⟨aJR,aJv,aP6⟩:=ad3.form
     subst aP6
     refine jd 6 [6]<|ja ((i:Int)+1) (by omega)<|zD 2<|bO ZV (⟨i+1,(.slice aJR ((hv++[(⟨x,(-1),(Int.tmod (((i:Int)+1)+w86) (kg.length:Int)),zS⟩:bA)])).length aJv),L96,(hv++[(⟨x,(-1),(Int.tmod (((i:Int)+1)+w86) (kg.length:Int)),zS⟩:bA)]),_,Z,X86⟩) ⟨by omega,ad3,(by have:=mL.snoc (A:=[]) hJ.2.2.1 (h0:=⟨rfl,rfl,rfl⟩) (hV:=⟨x,-1,(Int.tmod (((i:Int)+1)+w86) (kg.length:Int)),zS⟩) (x:=⟨x,-1,(Int.tmod (((i:Int)+1)+w86) (kg.length:Int)),[]⟩) (fun ro _=>⟨rfl,rfl,rfl,bL.nil _ _ _ _ _⟩) QV.1 QV.2.1 (aeL (ajP ⟨by omega,by omega⟩ ⟨by omega,by omega⟩) (by omega));simpa only[List.nil_append] using this),aR6⟩ (by omega) [0,4,2,5,6,7,8] (Sub.refl _)
    subst h8
    refine zD 8<|oU<|eG [1,1,1,1,1,1,0,1,0,0,1,0,0,1,1,0,1,0,0] [K7] (fun(zz:Nat×Value×Cells×(List Int)×Cells)=>[(0,zP d),(6,zP b6),(7,zP b7),(10,v53),(11,zI (kg.length:Int)),(12,zI (i:Int)),(13,zP yW),(14,zI (zz.1:Int))]) (fun(zz:Nat×Value×Cells×(List Int)×Cells)=>[.l zz.2.2.1,.l zz.2.2.2.2,.b yW (.cells ⟨[.string x,zI w,zI (-1),zz.2.1]⟩ 133 (0,0)),.l LH,.l Z,.l LC,.b b7 (.cells ⟨[vC,vH]⟩ 33 (0,0)),.l L53,.b b6 (.cells ⟨[zS,zS]⟩ 33 (0,0))]) (fun(zz:Nat×Value×Cells×(List Int)×Cells)=>(zz.1≤kg.length∧zz.2.2.2.1.length≤zz.1)∧aD zz.2.1 1 3 db zz.2.2.2.1 zz.2.2.1∧lh i zz.1 zz.2.2.2.1∧bJ vd xs d zz.2.2.2.2) (fun(zz:Nat×Value×Cells×(List Int)×Cells)=>kg.length-zz.1) (⟨0,zS,[],[],X⟩) ⟨by simp,aD.nil _ _ _,⟨by simp,by simp,by simp⟩,hJ3.2⟩ [0,4,1,2,3,5,6,7,8] ?_
    rintro⟨k,vA,LA,al,X⟩ hK K13 LZ rest
    dsimp only at hK
    obtain⟨qa,qc,rfl⟩:=hK.2.1.form
    refine zD 7<|zJ 100 ((k:Int) <(kg.length:Int)) (fun HH=>?_) fun HH=>?_
    ·
     refine zD 10<|js 106 (!decide ((k:Int)=(i:Int))) (fun AV=>?_) (fun AV=>?_)
     ·
      have afU:=AV
      replace afU:=of_decide_eq_false (by simpa using afU)
      refine zD 1<|jc (vs:=[zP d,zI 4]) [1] (sM hN hK.2.2.2 (by omega)) ?_
      rintro _ aFW ⟨aJt,rfl,an8⟩
      refine zD 2<|js 109 aJt (fun PI=>?_) (fun PI=>?_)
      ·
       subst PI
       refine jd 5 [2]<|jn fun aFD=>jk (sz:=1) (ps:=al) (qs:=[(k:Int)]) (enc:=db) (w:= .slice (some ⟨aFD,0,none⟩) 1 1) [2] [0] [(aFD,.cells ⟨([(k:Int)].map db).flatten⟩ 3 (0,0))] (hK.2.1) (fun s _ hZ=>cg [(k:Int)] (hZ _ (.head _)) (by intro p hp;rfl)) (fun p _=>aj rfl) (by simp<;>omega) (fun aZE aT8 VW=>?_)
       obtain⟨awS,awL,aBr⟩:=VW.form
       subst aBr
       refine jd 5 [3]<|ja ((k:Int)+1) (by omega)<|zD 2<|bO LZ (⟨k+1,(.slice awS ((al++[(k:Int)])).length awL),aT8,(al++[(k:Int)]),aFW⟩) ⟨by simp only[List.length_append,List.length_cons,List.length_nil];omega,VW,lh.snoc hK.2.2.1 (by omega),an8⟩ (by omega) [0,2,3,4,5,6,7,8,9] (Sub.refl _)
      subst PI
      refine zD 4<|ja ((k:Int)+1) (by omega)<|zD 2<|bO LZ (⟨k+1,(.slice qa al.length qc),LA,al,aFW⟩) ⟨by dsimp only;omega,hK.2.1,lh.step hK.2.2.1,an8⟩ (by omega) [1,0,2,3,4,5,6,7,8] (Sub.refl _)
     have afU:=AV
     replace afU:=of_decide_eq_true (by simpa using afU)
     refine zD 8<|ja ((k:Int)+1) (by omega)<|zD 2<|bO LZ (⟨k+1,(.slice qa al.length qc),LA,al,X⟩) ⟨by dsimp only;omega,hK.2.1,lh.step hK.2.2.1,hK.2.2.2⟩ (by omega) [0,1,2,3,4,5,6,7,8] (Sub.refl _)
    refine jd 10 [2]<|js 120 (decide ((al.length:Int)>0)) (fun Dw=>?_) (fun Dw=>?_)
    ·
     have Gu:=Dw
     replace Gu:=of_decide_eq_true Gu
     refine zD 1<|jc (vs:=[zP d,zI 4]) [1] (sM hN hK.2.2.2 (by omega)) ?_
     rintro _ aFV ⟨aJq,rfl,an7⟩
     refine zD 2<|js 123 aJq (fun Ii=>?_) (fun Ii=>?_)
     ·
      subst Ii
      refine jd 9 [2,6,2]<|jn fun MH=>jk (sz:=4) (ps:=hv) (qs:=[(⟨x,(-1),-1,(.slice qa al.length qc)⟩:bA)]) (enc:=lZ) (w:= .slice (some ⟨MH,0,none⟩) 1 1) [4] [0] [(MH,.cells ⟨([(⟨x,(-1),-1,(.slice qa al.length qc)⟩:bA)].map lZ).flatten⟩ 133 (0,0))] (hJ.2.1) (fun s _ hZ=>cg [(⟨x,(-1),-1,(.slice qa al.length qc)⟩:bA)] (hZ _ (.head _)) (by intro p hp;rfl)) (by intro p hp;rw[List.mem_singleton] at hp;subst hp;exact aj rfl) (by simp<;>omega) (fun awZ ahA qK=>?_)
      obtain⟨Nx,Nv,Pz⟩:=qK.form
      subst Pz
      refine jd 5 [7]<|ja ((i:Int)+1) (by omega)<|zD 2<|Lh ZV (⟨i+1,(.slice Nx ((hv++[(⟨x,(-1),-1,(.slice qa al.length qc)⟩:bA)])).length Nv),ahA,(hv++[(⟨x,(-1),-1,(.slice qa al.length qc)⟩:bA)]),_,LA++Z,aFV⟩) ⟨by omega,qK,mL.snoc (A:=LA) hJ.2.2.1 (h0:=⟨rfl,rfl,rfl⟩) (x:=⟨x,_,-1,al⟩) (fun ro hk=>⟨rfl,rfl,rfl,hK.2.1.lq hk⟩) QV.1 QV.2.1 (aeM hK.2.2.1 (by omega) (by omega) (by assumption)),an7⟩ (by omega) [[0],[3,5],[2],[6],[7],[8],[9]] (Sub.refl _)
     subst Ii
     refine jd 6 [6,2]<|jn fun MH=>jk (sz:=4) (ps:=hv) (qs:=[(⟨x,w,-1,(.slice qa al.length qc)⟩:bA)]) (enc:=lZ) (w:= .slice (some ⟨MH,0,none⟩) 1 1) [4] [0] [(MH,.cells ⟨([(⟨x,w,-1,(.slice qa al.length qc)⟩:bA)].map lZ).flatten⟩ 133 (0,0))] (hJ.2.1) (fun s _ hZ=>cg [(⟨x,w,-1,(.slice qa al.length qc)⟩:bA)] (hZ _ (.head _)) (by intro p hp;rfl)) (by intro p hp;rw[List.mem_singleton] at hp;subst hp;exact aj rfl) (by simp<;>omega) (fun awZ ahA qK=>?_)
     obtain⟨Nx,Nv,Pz⟩:=qK.form
     subst Pz
     refine jd 5 [7]<|ja ((i:Int)+1) (by omega)<|zD 2<|Lh ZV (⟨i+1,(.slice Nx ((hv++[(⟨x,w,-1,(.slice qa al.length qc)⟩:bA)])).length Nv),ahA,(hv++[(⟨x,w,-1,(.slice qa al.length qc)⟩:bA)]),_,LA++Z,aFV⟩) ⟨by omega,qK,mL.snoc (A:=LA) hJ.2.2.1 (h0:=⟨rfl,rfl,rfl⟩) (x:=⟨x,_,-1,al⟩) (fun ro hk=>⟨rfl,rfl,rfl,hK.2.1.lq hk⟩) QV.1 QV.2.1 (Ju (by omega) hK.2.2.1 (by omega) (by omega)),an7⟩ (by omega) [[0],[3,5],[2],[6],[7],[8],[9]] (Sub.refl _)
    have Gu:=Dw
    replace Gu:=of_decide_eq_false Gu
    refine jd 10 [6,2]<|jn fun MH=>jk (sz:=4) (ps:=hv) (qs:=[(⟨x,w,-1,(.slice qa al.length qc)⟩:bA)]) (enc:=lZ) (w:= .slice (some ⟨MH,0,none⟩) 1 1) [4] [0] [(MH,.cells ⟨([(⟨x,w,-1,(.slice qa al.length qc)⟩:bA)].map lZ).flatten⟩ 133 (0,0))] (hJ.2.1) (fun s _ hZ=>cg [(⟨x,w,-1,(.slice qa al.length qc)⟩:bA)] (hZ _ (.head _)) (by intro p hp;rfl)) (by intro p hp;rw[List.mem_singleton] at hp;subst hp;exact aj rfl) (by simp<;>omega) (fun awZ ahA qK=>?_)
    obtain⟨Nx,Nv,Pz⟩:=qK.form
    subst Pz
    refine jd 5 [7]<|ja ((i:Int)+1) (by omega)<|zD 2<|Lh ZV (⟨i+1,(.slice Nx ((hv++[(⟨x,w,-1,(.slice qa al.length qc)⟩:bA)])).length Nv),ahA,(hv++[(⟨x,w,-1,(.slice qa al.length qc)⟩:bA)]),_,LA++Z,X⟩) ⟨by omega,qK,mL.snoc (A:=LA) hJ.2.2.1 (h0:=⟨rfl,rfl,rfl⟩) (x:=⟨x,_,-1,al⟩) (fun ro hk=>⟨rfl,rfl,rfl,hK.2.1.lq hk⟩) QV.1 QV.2.1 (Ju (by omega) hK.2.2.1 (by omega) (by omega)),hK.2.2.2⟩ (by omega) [[0],[2,5],[3],[6],[7],[8],[9]] (Sub.refl _)
   refine zD 4<|js 77 (decide ((kg.length:Int)>1)) (fun YQ=>?_) (fun YQ=>?_)
   ·
    have Gt:=YQ
    replace Gt:=of_decide_eq_true Gt
    refine zD 1<|jc (vs:=[zP d,zI 3]) [3] (sM hN QV.2.2.2 (by omega)) ?_
    rintro _ X79 ⟨w79,rfl,aR8⟩
    refine zD 2<|bO hK9 ⟨w79,X79⟩ ⟨fun _=>by omega,aR8⟩ Nat.zero_lt_one [1,2,3,0,4,5,6,7] (Sub.refl _)
   have Gt:=YQ
   replace Gt:=of_decide_eq_false Gt
   refine zD 4<|bO hK9 ⟨false,X⟩ ⟨(fun h=>by cases h),QV.2.2.2⟩ Nat.zero_lt_one [0,1,2,3,4,5,6,7] (Sub.refl _)
  refine zD 3 ?_
  obtain⟨x64,Lq⟩:=zG kg i
  refine ZJ 1 asr Lq fun b64 aQQ=>oQ 0 [5] L53 (fun s _ hZ=>cG asr aQQ hZ Lq)<|jd 3 [4]<|D7 hI.2.1<|ja ((cs.length:Int)-1) (by omega)<|mO [0,14] ⟨fun z14 t15 PD=>?_,fun z17 t18 afm=>?_,trivial⟩
  ·
   refine jc [] (adw) ?_
   rintro v61 L61 ⟨_,aen,rfl⟩
   refine bD PD [1,2,3,4,5,6,7] ?_
   obtain⟨x66,FL⟩:=zG oS (x64.toNat) (by have:=aev _ (List.mem_of_getElem? Lq);omega)
   refine pS x64 1 aen FL (Int.toNat_of_nonneg (show 0≤x64∧x64 <((oS).length:Int) from (aev _ (List.mem_of_getElem? Lq))).1).symm fun b66 atG=>oQ 0 [0] L61 (fun s _ hZ=>cG aen atG hZ FL)<|mO [12,14] ⟨fun z20 t21 afl=>?_,fun z23 t24 To=>?_,trivial⟩
   ·
    refine jc (vs:=[zP d,zI ((cs.length:Int)-1)]) [3] (DD hN hJ.2.2.2 (by omega)) ?_
    rintro _ X73 ⟨w73,rfl,azQ,Yn,afs⟩
    refine gX afl [[1],[5],[6]]<|zD 1<|aN 14 fun amr amN Ig=>jn fun yW=>bD Ig [1,2,3,4,5,6,7,8]<|aN 15 fun Us UD LW=>jd 1 [0]<|dV LW<|zD 1<|bO hK8 ⟨yW,w73,_,x66,X73⟩ ⟨Lq,FL,(by dsimp only;omega),afs⟩ Nat.zero_lt_one [0,3,4,1,5,6,7,8] (Sub.refl _)
   refine jn fun yW=>bD To [1,2,3,4,5,6,7,8]<|aN 12 fun Ur UC Gm=>jc (vs:=[zP d,zI ((cs.length:Int)-1)]) [4] (DD hN hJ.2.2.2 (by omega)) ?_
   rintro _ X73 ⟨w73,rfl,azQ,Yn,afs⟩
   refine gX Gm [[2],[6],[7]]<|zD 1<|aN 15 fun Nm NH Gl=>jd 1 [1]<|dV Gl<|zD 1<|bO hK8 ⟨yW,w73,_,x66,X73⟩ ⟨Lq,FL,(by dsimp only;omega),afs⟩ Nat.zero_lt_one [1,3,4,0,5,6,7,8] (Sub.refl _)
  refine jn fun yW=>bD afm [1,2,3,4,5,6,7]<|aN 0 fun Uq UB LV=>jc [] (adw) ?_
  rintro v61 L61 ⟨_,aen,rfl⟩
  refine bD LV [1,2,3,4,5,6,7,8] ?_
  obtain⟨x66,FL⟩:=zG oS (x64.toNat) (by have:=aev _ (List.mem_of_getElem? Lq);omega)
  refine pS x64 1 aen FL (Int.toNat_of_nonneg (show 0≤x64∧x64 <((oS).length:Int) from (aev _ (List.mem_of_getElem? Lq))).1).symm fun b66 atG=>oQ 0 [0] L61 (fun s _ hZ=>cG aen atG hZ FL)<|aN 12 fun aab aa0 PC=>jc (vs:=[zP d,zI ((cs.length:Int)-1)]) [4] (DD hN hJ.2.2.2 (by omega)) ?_
  rintro _ X73 ⟨w73,rfl,azQ,Yn,afs⟩
  refine gX PC [[1],[6],[7]]<|zD 1<|aN 15 fun amq amM afk=>jd 1 [2]<|dV afk<|zD 1<|bO hK8 ⟨yW,w73,_,x66,X73⟩ ⟨Lq,FL,(by dsimp only;omega),afs⟩ Nat.zero_lt_one [2,3,4,0,5,6,7,8] (Sub.refl _)
 refine jd 5 [4] ?_
 obtain⟨aaC,aav,aeR⟩:=hI.2.1.form
 subst aeR
 obtain⟨aJ5,aJJ,aQh⟩:=hJ.2.1.form
 subst aQh
 refine jd 3 [6]<|aJ q0 (.agg ⟨[(.slice aaC (cs).length aav),(.slice aJ5 (hv).length aJJ)]⟩) [6] [3,0,1,2] (LC++(LH++(Z++X))) (Sub.refl _) ⟨_,_,rfl,rfl,cs,hv,hd,_,_,LC++(LH++Z),X,rfl,Xh hI.2.2.1 Pf (by omega) hJ.2.2.1 (by omega) (by omega) vo aev,hJ.2.2.1.2.2.2.2,fun aE hk=>⟨hI.2.1.lq hk.left,hJ.2.1.lq hk.right.left,hJ.2.2.1.1 aE hk.right.right⟩,by simp only[List.append_assoc],hJ.2.2.2⟩
abbrev gN(x:Value):List Value:=[x]
structure ah where
 n:Int
 l:Int
abbrev cH(x:ah):List Value:=[zI x.n,zI x.l]
def ajr(x y:ah):Prop:=x.n <y.n∨(x.n=y.n∧x.l <y.l)
def AJ(x:ah):Prop:=(1≤x.n∧x.n≤9)∧0≤x.l∧x.l≤4
structure e8(S:List (List ah)):Prop where
 two:S.length=2
 len:∀l∈S,l.length≤4
 ok:∀l∈S,∀x∈l,AJ x
 asc:∀l∈S,l.Pairwise ajr
def xZ:List (List ah):=[[⟨1,0⟩,⟨2,0⟩],[⟨1,0⟩,⟨3,0⟩]]
def cS(ro:Nat→Option Obj)(v:Value)(S:List (List ah)):Prop:=∃ws,bL ro v 1 gN ws∧du (fun w l=>bL ro w 2 cH l) ws S
def nH(ro:Nat→Option Obj)(v:Value)(ways:List (List aQ)):Prop:=∃ws,bL ro v 1 gN ws∧du (fun w l=>bL ro w 7 kB l) ws ways
theorem cS.up{ro:Nat→Option Obj}{v:Value}{S:List (List ah)}(h:cS ro v S)(hs:Sub ro aK):cS aK v S:=by
 obtain⟨ws,h1,h2⟩:=h
 exact⟨ws,h1.up hs,h2.imp fun _ _ k=>k.up hs⟩
theorem nH.up{ro:Nat→Option Obj}{v:Value}{w:List (List aQ)}(h:nH ro v w)(hs:Sub ro aK):nH aK v w:=by
 obtain⟨ws,h1,h2⟩:=h
 exact⟨ws,h1.up hs,h2.imp fun _ _ k=>k.up hs⟩
theorem iX.up{ro:Nat→Option Obj}{hv:List bA}(h:iX ro vc vh cs hv hd)(hs:Sub ro aK):iX aK vc vh cs hv hd:=
 ⟨h.1.up hs,h.2.1.up hs,h.2.2.imp fun _ _ k=>⟨k.1,k.2.1,k.2.2.1,k.2.2.2.up hs⟩⟩
structure aT where
 ways:List (List aQ)
 cs:List bM
 hd:List cw
 rules:List cP
 before:List aI
 after:List aI
 gone:Int
 new:Int
 ai:Int
 facts:List eR
 str:List (List ah)
def gG(ro:Nat→Option Obj)(l:List Value)(k:aT):Prop:=∃(vS vT vc vh vr vb va vf:Value) (fa:Option Addr) (fc:Nat) (hv:List bA),
 l=[vS,vT,.slice fa 0 fc,vc,vh,vr,vb,va,zI k.gone,zI k.new,zI k.ai,vf]∧cS ro vS k.str∧nH ro vT k.ways∧iX ro vc vh k.cs hv k.hd∧du dj hv k.hd∧
 bL ro vr 2 iB k.rules∧bL ro vb 5 eJ k.before∧bL ro va 5 eJ k.after∧bL ro vf 3 oK k.facts
def nJ(hd:List cw)(i:Int):Prop:=i= -1∨(0≤i∧∃x,hd[i.toNat]?=some x∧0≤x.cls)
def AK(hd:List cw)(p:aI):Prop:=MS p.name∧nJ hd p.head∧(0≤p.st∧p.st≤1)∧p.bold=false
def aht(hd:List cw)(p:aI):Prop:=AK hd p∧(p.st=0→p.no=1∨p.no=2)∧(p.st=1→p.no=1∨p.no=3)
def ahu(hd:List cw)(p:aI):Prop:=AK hd p∧1≤p.no∧p.no≤3
def Ei(hd:List cw)(p:aI):Prop:=((1≤p.name.size∧p.name.size≤6)∧Script p.name)∧nJ hd p.head∧(0≤p.st∧p.st≤1)∧p.bold=false
def al9(S:List (List ah))(hd:List cw)(p:aI):Prop:=Ei hd p∧∃l,S[p.st.toNat]?=some l∧(⟨p.no,0⟩:ah)∈l
def aFZ(hd:List cw)(p:aI):Prop:=Ei hd p∧1≤p.no∧p.no≤40
structure WY(cs:List bM)(hd:List cw):Prop where
 nc:0 <cs.length∧cs.length≤6
 nh:hd.length≤6
 Ad:∀(i:Nat) (x:cw),hd[i]?=some x→gI cs.length hd.length i x
structure lO(k:aT):Prop where
 pO:e8 k.str
 ways:k.ways.length≤1∧∀l∈k.ways,(1≤l.length∧l.length≤2)∧∀c∈l,jo c
 dI:WY k.cs k.hd
 rules:k.rules.length≤4
 before:k.before.length≤4∧∀p∈k.before,al9 k.str k.hd p
 after:k.after.length≤4∧∀p∈k.after,aFZ k.hd p
 yf:(0≤k.gone∧k.gone≤4)∧(0≤k.new∧k.new≤4)∧(0≤k.ai∧k.ai≤4)
 facts:k.facts.length≤4∧(∀x∈k.facts,(0≤x.a∧x.a <k.before.length)∧(0≤x.b∧x.b <k.after.length))
 apart:k.facts.Pairwise fun x y=>¬(x.a=y.a∧x.b=y.b)
structure Qu(k:aT):Prop where
 ways:k.ways.length≤1∧∀l∈k.ways,(1≤l.length∧l.length≤2)∧∀c∈l,jo c
 dI:wh k.cs k.hd
 rules:k.rules.length≤2∧∀r∈k.rules,Hi r
 before:k.before.length≤4∧∀p∈k.before,aht k.hd p
 after:k.after.length≤4∧∀p∈k.after,ahu k.hd p
 yf:(0≤k.gone∧k.gone≤4)∧(0≤k.new∧k.new≤4)∧(0≤k.ai∧k.ai≤4)
 facts:k.facts.length≤4∧(∀x∈k.facts,(0≤x.a∧x.a <k.before.length)∧(0≤x.b∧x.b <k.after.length))
 apart:k.facts.Pairwise fun x y=>¬(x.a=y.a∧x.b=y.b)
 str:k.str=xZ
theorem XT:e8 xZ where
 two:=rfl
 len:=by simp[xZ]
 ok:=by simp[xZ,AJ]
 asc:=by simp[xZ,ajr]
theorem AK.c{p:aI}(h:AK hd p):Ei hd p:=⟨⟨⟨h.1.1.1,by have:=h.1.1.2;omega⟩,h.1.2⟩,h.2⟩
theorem Qu.c{k:aT}(h:Qu k):lO k where
 pO:=by rw[h.str];exact XT
 ways:=h.ways
 dI:=⟨⟨h.dI.nc.1,by have:=h.dI.nc.2;omega⟩,by have:=h.dI.nh;omega,fun i x hx=>(h.dI.Ad i x hx).2⟩
 rules:=by have:=h.rules.1;omega
 before:=⟨by have:=h.before.1;omega,fun p hp=>by
  obtain⟨h1,h2,h3⟩:=h.before.2 p hp
  refine⟨h1.c,?_⟩
  rw[h.str]
  have h4:=h1.2.2.1
  rcases(by omega:p.st=0∨p.st=1) with e|e
  ·rw[e];exact⟨_,rfl,by rcases h2 e with e2|e2<;>simp[e2]⟩
  rw[e];exact⟨_,rfl,by rcases h3 e with e2|e2<;>simp[e2]⟩⟩
 after:=⟨by have:=h.after.1;omega,fun p hp=>by
  obtain⟨h1,h2,h3⟩:=h.after.2 p hp
  exact⟨h1.c,h2,by omega⟩⟩
 yf:=h.yf
 facts:=⟨by have:=h.facts.1;omega,h.facts.2⟩
 apart:=h.apart
theorem wH{hv:List bA}(h:du dj hv hd){i:Int}(k:i= -1∨Uo hv i):nJ hd i:=by
 rcases k with k| ⟨k0,x,k1,k2⟩
 ·exact .inl k
 obtain⟨y,h1,h2⟩:=h.get k1
 exact .inr ⟨k0,y,h1,h2.2.1▸k2⟩
theorem Rm{ro:Nat→Option Obj}{b c e:Nat}(h1:ro b=some (.cells ⟨[zI 1,zI 0,zI 2,zI 0]⟩ 70 (0,0)))(h2:ro c=some (.cells ⟨[zI 1,zI 0,zI 3,zI 0]⟩ 70 (0,0)))
 (h3:ro e=some (.cells ⟨[.slice (some ⟨b,0,none⟩) 2 2,.slice (some ⟨c,0,none⟩) 2 2]⟩ 71 (0,0))):cS ro (.slice (some ⟨e,0,none⟩) 2 2) xZ:=
 ⟨_,cb [_,_] h3 (fun _ _=>rfl),.cons (cb [(⟨1,0⟩:ah),⟨2,0⟩] h1 (fun _ _=>rfl)) (.cons (cb [(⟨1,0⟩:ah),⟨3,0⟩] h2 (fun _ _=>rfl)) .nil)⟩
def AM(nb na:Nat)(fs:List eR):Prop:=(∀x∈fs,(0≤x.a∧x.a <nb)∧(0≤x.b∧x.b <na))∧fs.Pairwise fun x y=>¬(x.a=y.a∧x.b=y.b)
theorem AM.snoc{nb na:Nat}{fs:List eR}(h:AM nb na fs){x:eR}(ha:0≤x.a∧x.a <nb)(hb:0≤x.b∧x.b <na)(hn:xk fs x.a x.b=false):AM nb na (fs++[x]):=by
 refine⟨ql h.1 ⟨ha,hb⟩,List.pairwise_append.2 ⟨h.2,List.pairwise_singleton _ _,fun y hy z hz e=>?_⟩⟩
 rw[List.mem_singleton] at hz;subst hz
 have:=List.any_eq_false.1 hn y hy
 simp[e.1,e.2] at this
theorem aqZ{w u:Int}(h:w∈[1,2,4,u])(hu:0≤u∧u≤4):0≤w∧w≤4:=by
 simp only[List.mem_cons,List.not_mem_nil,or_false] at h
 omega
theorem Rp{ro:Nat→Option Obj}:nH ro (zS) []:=⟨[],bL.nil _ _ _ _ _,.nil⟩
set_option maxHeartbeats 2000000 in
theorem aSZ {d:Nat} {X:Cells} {np nf:Int} {ro:Nat→Option Obj} (hN:Dn ro vd xs) (hD:bJ vd xs d X) (hnp:0≤np∧np≤4) (hnf:0≤nf∧nf≤4):FnG zT 7 [zP d,zI np,zI nf] ro X (fun r aE Y=>∃(K:aT) (l:List Value),r= .agg ⟨l⟩∧Qu K∧(K.facts.length:Int)≤nf∧gG aE l K∧bJ vd xs d Y):=by
 refine azC (hm:=av) [.l X] [] bB<|zD 2<|jn fun b6=>zD 4<|jc [1] (alH hN hD) ?_
 rintro _ _ ⟨kD,jN,S7,Xe,aZp,Z18,X18,rfl,Gk,BO,aRi,rfl,PE⟩
 refine jg 0 [.l Z18,.l X18]<|jf [0] Z18 (fun AR cy ju=>?_)
 have p6:=aRi _ ju
 obtain⟨hc,hh,dr⟩:=id p6
 obtain⟨eE,zk,zi,ep,rfl,Cq,xW,xV⟩:=hc
 obtain⟨dM,uy,ux,dq,rfl,wA,qv,qu⟩:=hh
 refine zD 2<|jn fun b21=>zD 2<|jn fun mb=>jn fun dW=>zD 3<|jn fun b7=>jd 5 [0]<|jf [1,2,3] ((dW,.cells ⟨[.slice (some ⟨b21,0,none⟩) 2 2,.slice (some ⟨mb,0,none⟩) 2 2]⟩ 71 (0,0))::((mb,.cells ⟨[zI 1,zI 0,zI 3,zI 0]⟩ 70 (0,0))::[(b21,.cells ⟨[zI 1,zI 0,zI 2,zI 0]⟩ 70 (0,0))])) (fun ro6 kN ZO=>?_)
 have aRj:=Rm (ZO _ (.tail _ (.tail _ (.head _)))) (ZO _ (.tail _ (.head _))) (ZO _ (.head _))
 refine zD 1<|jc (vs:=[zP d,zI 2]) [1] (sM (hN.up (cy.trans kN)) PE (by omega)) ?_
 rintro _ X30 ⟨w30,rfl,aEc⟩
 refine zD 1<|Hs [1,1,1] [] (fun(zz:Value×Cells×(List (List aQ))×Cells)=>[(0,zP d),(1,zI np),(2,zI nf),(6,zP b6),(7,zP b7)]) (fun(zz:Value×Cells×(List (List aQ))×Cells)=>[.l zz.2.1,.l zz.2.2.2,.b b7 (.cells ⟨[.slice (some ⟨dW,0,none⟩) 2 2,zz.1,zS,.slice eE kD.length ep,.slice dM jN.length dq,zS,zS,zS,zI 0,zI 0,zI 0,zS]⟩ 38 (0,0)),.b b6 (.cells ⟨[zS,zS,zS,zS,zS,zS,zS,zS,zI 0,zI 0,zI 0,zS]⟩ 38 (0,0))]) (fun(zz:Value×Cells×(List (List aQ))×Cells)=>(∀lR,Knows lR zz.2.1→nH lR zz.1 zz.2.2.1)∧(zz.2.2.1.length≤1∧∀l∈zz.2.2.1,(1≤l.length∧l.length≤2)∧∀c∈l,jo c)∧bJ vd xs d zz.2.2.2) ?_ (fun K1 bU=>?_)
 ·
  rintro⟨vT,LT,ways,X⟩ QV rest
  dsimp only at QV
  refine zD 2<|jf [0] LT (fun ro9 rz hk8=>?_)
  have aBV:=QV.1 _ hk8
  obtain⟨Q6,ht,_⟩:=id aBV
  obtain⟨eY,zh,zf,ee,rfl,zg,rH,rG⟩:=ht
  refine zD 1<|jc (vs:=[zP d,zI 2]) [0] (auH (hN.up ((cy.trans kN).trans rz)) QV.2.2 (by decide)) ?_
  rintro v60 _ ⟨KL,L60,X60,Lz,bcL,adZ,rfl,aSa⟩
  refine jg 0 [.l L60,.l X60]<|zD 8<|oU<|eG [1,1,1,1,0,1,0,0] [] (fun(zz:Nat×Value×Cells×(List cP))=>[(0,zP d),(1,zI np),(2,zI nf),(6,zP b6),(7,zP b7),(8,v60),(9,zI (zz.1:Int))]) (fun(zz:Nat×Value×Cells×(List cP))=>[.l zz.2.2.1,.l X60,.b b7 (.cells ⟨[.slice (some ⟨dW,0,none⟩) 2 2,.slice eY Q6.length ee,zS,.slice eE kD.length ep,.slice dM jN.length dq,zz.2.1,zS,zS,zI 0,zI 0,zI 0,zS]⟩ 38 (0,0)),.l L60,.b b6 (.cells ⟨[zS,zS,zS,zS,zS,zS,zS,zS,zI 0,zI 0,zI 0,zS]⟩ 38 (0,0))]) (fun(zz:Nat×Value×Cells×(List cP))=>(zz.1≤KL.length∧zz.2.2.2.length≤zz.1)∧aD zz.2.1 2 81 iB zz.2.2.2 zz.2.2.1∧∀r∈zz.2.2.2,Hi r) (fun(zz:Nat×Value×Cells×(List cP))=>KL.length-zz.1) (⟨0,zS,[],[]⟩) ⟨by simp,aD.nil _ _ _,(fun _ h=>by cases h)⟩ [0,2,3,1,4] ?_
  rintro⟨i,vR,LR,rs⟩ hR K2 lL rest
  dsimp only at hR
  refine zD 5<|D7 Lz<|zD 2<|zJ 64 ((i:Int) <(KL.length:Int)) (fun ZZ=>?_) fun ZZ=>?_
  ·
   refine zD 8 ?_
   obtain⟨Q4,Yo⟩:=zG KL i
   refine ZJ 2 Lz Yo fun b69 atF=>zD 1<|oQ 0 [3] L60 (fun s _ hZ=>cG Lz atF hZ Yo)<|zD 2 ?_
   obtain⟨x74,azP⟩:=zG KL i
   refine ZJ 2 Lz azP fun b74 aQO=>zD 1<|oQ 1 [3] L60 (fun s _ hZ=>cG Lz aQO hZ azP)<|zD 2<|js 77 (!(cQ Q4.f x74.t)) (fun YR=>?_) (fun YR=>?_)
   ·
    try simp only[zB] at YR
    refine jd 6 [2] ?_
    obtain⟨DO,SE⟩:=zG KL i
    refine ZJ 2 Lz SE fun b82 aQL=>oQ 0 [3] L60 (fun s _ hZ=>cG Lz aQL hZ SE)<|aN 6 fun qZ q6 p7=>jn fun b84=>bD p7 [1,2,3,4,5]<|aN 7 fun rK rR qz=>jk (sz:=2) (ps:=rs) (qs:=[(⟨DO.f,DO.t⟩:cP)]) (enc:=iB) (w:= .slice (some ⟨b84,0,none⟩) 1 1) [1] [0] [(b84,.cells ⟨([(⟨DO.f,DO.t⟩:cP)].map iB).flatten⟩ 81 (0,0))] (hR.2.1) (fun s _ hZ=>cg [(⟨DO.f,DO.t⟩:cP)] (hZ _ (.head _)) (by intro p hp;rfl)) (fun p _=>aj rfl) (by simp<;>omega) (fun v85 L85 ad5=>?_)
    obtain⟨aJT,aJx,aP8⟩:=ad5.form
    subst aP8
    refine gX qz []<|zD 1<|aN 9 fun yY y8 Ag=>jd 1 [3]<|dV Ag<|zD 3<|ja ((i:Int)+1) (by omega)<|zD 2<|bO lL (⟨i+1,(.slice aJT ((rs++[(⟨DO.f,DO.t⟩:cP)])).length aJx),L85,(rs++[(⟨DO.f,DO.t⟩:cP)])⟩) ⟨by simp only[List.length_append,List.length_cons,List.length_nil];omega,ad5,ql hR.2.2 (adZ _ (List.mem_of_getElem? SE))⟩ (by omega) [0,2,3,4,5] (Sub.refl _)
   try simp only[zB] at YR
   refine zD 4<|ja ((i:Int)+1) (by omega)<|zD 2<|bO lL (⟨i+1,vR,LR,rs⟩) ⟨by dsimp only;omega,hR.2⟩ (by omega) [0,1,2,3,4] (Sub.refl _)
  refine zD 4<|jf [0] LR (fun aZ0 iF aPI=>?_)
  have hRU:=hR.2.1.lq aPI
  refine jd 3 [1]<|jn fun rJ=>jd 7 [0]<|jc (vs:=[zP d,zI np]) [1] (DD (hN.up (((cy.trans kN).trans rz).trans iF)) aSa (by omega)) ?_
  rintro _ X92 ⟨w92,rfl,bbQ,bbK,aR5⟩
  refine zD 3<|oU<|eG [1,1,1,1,1,1,0,1,0,0] [] (fun(zz:Int×Value×Cells×(List aI)×Cells)=>[(0,zP d),(1,zI np),(2,zI nf),(6,zP b6),(7,zP b7),(10,zP rJ),(11,zI zz.1)]) (fun(zz:Int×Value×Cells×(List aI)×Cells)=>[.l zz.2.2.1,.l zz.2.2.2.2,.b rJ (.cells ⟨[zI 2,zI 0,zI 0,.slice eE kD.length ep,.slice dM jN.length dq,zS,zS]⟩ 83 (0,0)),.b b7 (.cells ⟨[.slice (some ⟨dW,0,none⟩) 2 2,.slice eY Q6.length ee,zS,.slice eE kD.length ep,.slice dM jN.length dq,vR,zz.2.1,zS,zI 0,zI 0,zI 0,zS]⟩ 38 (0,0)),.b b6 (.cells ⟨[zS,zS,zS,zS,zS,zS,zS,zS,zI 0,zI 0,zI 0,zS]⟩ 38 (0,0))]) (fun(zz:Int×Value×Cells×(List aI)×Cells)=>(0≤zz.1∧zz.2.2.2.1.length+zz.1≤4)∧aD zz.2.1 5 86 eJ zz.2.2.2.1 zz.2.2.1∧(∀p∈zz.2.2.2.1,aht S7 p)∧bJ vd xs d zz.2.2.2.2) (fun(zz:Int×Value×Cells×(List aI)×Cells)=>zz.1.toNat) (⟨w92,zS,[],[],X92⟩) ⟨by simp only[List.length_nil];omega,aD.nil _ _ _,(fun _ h=>by cases h),aR5⟩ [0,1,2,3,5] ?_
  rintro⟨j,vB,LB,uo,X⟩ hB K6 hK6 rest
  dsimp only at hB
  refine zD 6<|zJ 94 (j>0) (fun Ts=>?_) fun Ts=>?_
  ·
   refine zD 5<|Hs [1,1,1,1,1,1,0,1,0,0,1,0,0,1] [K6] (fun(zz:Nat×aI×Cells)=>[(0,zP d),(1,zI np),(2,zI nf),(6,zP b6),(7,zP b7),(10,zP rJ),(11,zI j),(12,zP zz.1)]) (fun(zz:Nat×aI×Cells)=>[.b zz.1 (.cells ⟨[.string zz.2.1.name,zI zz.2.1.st,zI zz.2.1.no,zI zz.2.1.head,.bool zz.2.1.bold]⟩ 86 (0,0)),.l LB,.l zz.2.2,.b rJ (.cells ⟨[zI 2,zI 0,zI 0,.slice eE kD.length ep,.slice dM jN.length dq,zS,zS]⟩ 83 (0,0)),.b b7 (.cells ⟨[.slice (some ⟨dW,0,none⟩) 2 2,.slice eY Q6.length ee,zS,.slice eE kD.length ep,.slice dM jN.length dq,vR,vB,zS,zI 0,zI 0,zI 0,zS]⟩ 38 (0,0)),.b b6 (.cells ⟨[zS,zS,zS,zS,zS,zS,zS,zS,zI 0,zI 0,zI 0,zS]⟩ 38 (0,0))]) (fun(zz:Nat×aI×Cells)=>(MS zz.2.1.name∧nJ S7 zz.2.1.head∧(0≤zz.2.1.st∧zz.2.1.st≤1))∧bJ vd xs d zz.2.2) ?_ (fun K7 ZV=>?_)
   ·
    rintro⟨jH,pp,X⟩ afr rest
    dsimp only at afr
    refine zD 3<|jc (vs:=[zP d,zI 1,zI 2]) [2] (Ax (hN.up (((cy.trans kN).trans rz).trans iF)) afr.2 (by omega) (by omega)) ?_
    rintro _ aTL ⟨aJu,rfl,aWx,aWl,an9⟩
    refine jd 10 [1,1]<|Hs [1,1,1,1,1,1,0,1,0,0,1,0,0,1,1,1] [K6] (fun(zz:Int×Cells)=>[(0,zP d),(1,zI np),(2,zI nf),(6,zP b6),(7,zP b7),(10,zP rJ),(11,zI j),(12,zP jH)]) (fun(zz:Int×Cells)=>[.b jH (.cells ⟨[.string pp.name,zI pp.st,zI zz.1,zI pp.head,.bool pp.bold]⟩ 86 (0,0)),.l LB,.l zz.2,.b rJ (.cells ⟨[zI 2,zI 0,zI 0,.slice eE kD.length ep,.slice dM jN.length dq,zS,zS]⟩ 83 (0,0)),.b b7 (.cells ⟨[.slice (some ⟨dW,0,none⟩) 2 2,.slice eY Q6.length ee,zS,.slice eE kD.length ep,.slice dM jN.length dq,vR,vB,zS,zI 0,zI 0,zI 0,zS]⟩ 38 (0,0)),.b b6 (.cells ⟨[zS,zS,zS,zS,zS,zS,zS,zS,zI 0,zI 0,zI 0,zS]⟩ 38 (0,0))]) (fun(zz:Int×Cells)=>((pp.st=0→zz.1=1∨zz.1=2)∧(pp.st=1→zz.1=1∨zz.1=3))∧bJ vd xs d zz.2) ?_ (fun K8 hK8=>?_)
    ·
     rintro⟨q,X⟩ alh rest
     dsimp only at alh
     refine jd 7 [0]<|Hs [1,1,1,1,1,1,0,1,0,0,1,0,0,1,1,1,1,0,1] [K6] (fun(zz:Bool×Cells)=>[(0,zP d),(1,zI np),(2,zI nf),(6,zP b6),(7,zP b7),(10,zP rJ),(11,zI j),(12,zP jH),(120,.bool zz.1)]) (fun(zz:Bool×Cells)=>[.b jH (.cells ⟨[.string pp.name,zI pp.st,zI q,zI pp.head,.bool false]⟩ 86 (0,0)),.l LB,.l zz.2,.b rJ (.cells ⟨[zI 2,zI 0,zI 0,.slice eE kD.length ep,.slice dM jN.length dq,zS,zS]⟩ 83 (0,0)),.b b7 (.cells ⟨[.slice (some ⟨dW,0,none⟩) 2 2,.slice eY Q6.length ee,zS,.slice eE kD.length ep,.slice dM jN.length dq,vR,vB,zS,zI 0,zI 0,zI 0,zS]⟩ 38 (0,0)),.b b6 (.cells ⟨[zS,zS,zS,zS,zS,zS,zS,zS,zI 0,zI 0,zI 0,zS]⟩ 38 (0,0))]) (fun(zz:Bool×Cells)=>(zz.1=true→0 <uo.length)∧bJ vd xs d zz.2) ?_ (fun K9 hK9=>?_)
     ·
      rintro⟨g,X⟩ afq rest
      dsimp only at afq
      refine Hs [1,1,1,1,1,1,0,1,0,0,1,0,0,1,1,1,1,1] [K6] (fun(zz:aI×Cells)=>[(0,zP d),(1,zI np),(2,zI nf),(6,zP b6),(7,zP b7),(10,zP rJ),(11,zI j),(12,zP jH)]) (fun(zz:aI×Cells)=>[.b jH (.cells ⟨[.string zz.1.name,zI zz.1.st,zI zz.1.no,zI zz.1.head,.bool zz.1.bold]⟩ 86 (0,0)),.l LB,.l zz.2,.b rJ (.cells ⟨[zI 2,zI 0,zI 0,.slice eE kD.length ep,.slice dM jN.length dq,zS,zS]⟩ 83 (0,0)),.b b7 (.cells ⟨[.slice (some ⟨dW,0,none⟩) 2 2,.slice eY Q6.length ee,zS,.slice eE kD.length ep,.slice dM jN.length dq,vR,vB,zS,zI 0,zI 0,zI 0,zS]⟩ 38 (0,0)),.b b6 (.cells ⟨[zS,zS,zS,zS,zS,zS,zS,zS,zI 0,zI 0,zI 0,zS]⟩ 38 (0,0))]) (fun(zz:aI×Cells)=>aht S7 zz.1∧bJ vd xs d zz.2) ?_ (fun K10 aD8=>?_)
      ·
       rintro⟨p2,X⟩ aua rest
       dsimp only at aua
       refine jd 4 [4,0]<|jn fun aFC=>jk (sz:=5) (ps:=uo) (qs:=[(⟨p2.name,p2.st,p2.no,p2.head,p2.bold⟩:aI)]) (enc:=eJ) (w:= .slice (some ⟨aFC,0,none⟩) 1 1) [2] [0] [(aFC,.cells ⟨([(⟨p2.name,p2.st,p2.no,p2.head,p2.bold⟩:aI)].map eJ).flatten⟩ 86 (0,0))] (hB.2.1) (fun s _ hZ=>cg [(⟨p2.name,p2.st,p2.no,p2.head,p2.bold⟩:aI)] (hZ _ (.head _)) (by intro p hp;rfl)) (fun p _=>aj rfl) (by simp<;>omega) (fun aZD aT6 VV=>?_)
       obtain⟨awR,awK,aBq⟩:=VV.form
       subst aBq
       refine jd 5 [5]<|ja (j-1) (by omega)<|zD 2<|bO hK6 (⟨j-1,(.slice awR ((uo++[(⟨p2.name,p2.st,p2.no,p2.head,p2.bold⟩:aI)])).length awK),aT6,(uo++[(⟨p2.name,p2.st,p2.no,p2.head,p2.bold⟩:aI)]),X⟩) ⟨by simp only[List.length_append,List.length_cons,List.length_nil];omega,VV,ql hB.2.2.1 aua.1,aua.2⟩ (by omega) [0,3,4,5,6] (Sub.refl _)
      refine js 120 g (fun Wh=>?_) (fun Wh=>?_)
      ·
       subst Wh
       refine jd 7 [4,4]<|D7 hB.2.1<|ja ((uo.length:Int)-1) (by omega)<|aN 7 fun Iw IB BQ=>jc (vs:=[zP d,zI ((uo.length:Int)-1)]) [2] (DD (hN.up (((cy.trans kN).trans rz).trans iF)) afq.2 (by omega)) ?_
       rintro _ aTI ⟨aar,rfl,aWw,adK,aEp⟩
       refine gX BQ [[4],[4]] ?_
       obtain⟨aJe,adJ⟩:=zG uo (aar.toNat) (by have:=afq.1 rfl;omega)
       refine pS aar 5 hB.2.1 adJ (Int.toNat_of_nonneg (show 0≤aar∧aar <((uo).length:Int) from (by have:=afq.1 rfl;omega)).1).symm (fun bep aBL=>?_)
       refine oQ 0 [2] LB (fun s _ hZ=>cG hB.2.1 aBL hZ adJ)<|aN 10 fun Nn NI BP=>jd 1 [1]<|dV BP<|zD 1<|bO aD8 ⟨aJe,aTI⟩ ⟨hB.2.2.1 _ (List.mem_of_getElem? adJ),aEp⟩ Nat.zero_lt_one [1,2,0,3,4,5] (Sub.refl _)
      subst Wh
      refine zD 2<|bO aD8 ⟨⟨pp.name,pp.st,q,pp.head,false⟩,X⟩ ⟨⟨⟨afr.1.1,afr.1.2.1,afr.1.2.2,rfl⟩,alh.1⟩,afq.2⟩ Nat.zero_lt_one [0,1,2,3,4,5] (Sub.refl _)
     refine jd 3 [4]<|D7 hB.2.1<|zD 2<|js 117 (decide ((uo.length:Int)>0)) (fun Ef=>?_) (fun Ef=>?_)
     ·
      have Gp:=Ef
      replace Gp:=of_decide_eq_true Gp
      refine zD 1<|jc (vs:=[zP d,zI 5]) [2] (sM (hN.up (((cy.trans kN).trans rz).trans iF)) alh.2 (by omega)) ?_
      rintro _ aTJ ⟨aJr,rfl,aEq⟩
      refine zD 2<|bO hK9 ⟨aJr,aTJ⟩ ⟨fun _=>by omega,aEq⟩ Nat.zero_lt_one [1,2,0,3,4,5] (Sub.refl _)
     have Gp:=Ef
     replace Gp:=of_decide_eq_false Gp
     refine zD 4<|bO hK9 ⟨false,X⟩ ⟨(fun h=>by cases h),alh.2⟩ Nat.zero_lt_one [0,1,2,3,4,5] (Sub.refl _)
    refine zJ 107 (pp.st=1) (fun AU=>?_) fun AU=>?_
    ·
     refine zD 3<|jn fun aFE=>ZK (vs:=[zP d,.slice (some ⟨aFE,0,none⟩) 2 2]) [1] [0] [(aFE,.cells ⟨([1,3].map db).flatten⟩ 3 (0,0))] (fun aE hs hZ=>agK ((hN.up (((cy.trans kN).trans rz).trans iF)).up hs) an9 (cb [1,3] hZ.head (by intro p hp;rfl)) (by simp)) ?_
     rintro _ aTK ⟨aJs,rfl,azW,aEr⟩
     refine jd 3 [2]<|bO hK8 ⟨aJs,aTK⟩ ⟨⟨(fun h=>by omega),(fun _=>by simpa using azW)⟩,aEr⟩ Nat.zero_lt_one [2,3,0,4,5,6] (Sub.refl _)
    refine zD 2<|bO hK8 ⟨aJu,aTL⟩ ⟨⟨(fun _=>by dsimp only;omega),(fun h=>by omega)⟩,an9⟩ Nat.zero_lt_one [1,2,0,3,4,5] (Sub.refl _)
   refine jd 4 [2]<|mO [3,5] ⟨fun z13 t14 at2=>?_,fun z16 t17 afn=>?_,trivial⟩
   ·
    refine jc [1] (Ww (hN.up (((cy.trans kN).trans rz).trans iF)) hB.2.2.2) ?_
    rintro _ aTM ⟨aiJ,rfl,VM,We⟩
    refine gX at2 [[2]]<|mO [4,5] ⟨fun z19 t20 YM=>?_,fun z22 t23 at1=>?_,trivial⟩
    ·
     refine jc (vs:=[zP d,.agg ⟨[zI 2,zI 0,zI 0,.slice eE kD.length ep,.slice dM jN.length dq,zS,zS]⟩,.string aiJ]) [0] (wM (hN.up (((cy.trans kN).trans rz).trans iF)) We ((((show bL _ _ _ _ _ from ⟨dM,uy,ux,dq,rfl,wA,qv,qu⟩).up kN).up rz).up iF) (by have:=BO.len;have:=Gk.nh;omega)) ?_
     rintro _ ahp ⟨awG,rfl,Pn,Pc,Pu,PH⟩
     refine dV YM<|aN 5 fun awm axg To=>jn fun jH=>dV To<|aN 6 fun amr amN Ig=>jd 1 [0]<|dV Ig<|zD 1<|bO ZV ⟨jH,_,ahp⟩ ⟨⟨Pn▸VM,wH BO Pu,Pc⟩,PH⟩ Nat.zero_lt_one [0,2,1,3,4,5] (Sub.refl _)
    refine jn fun jH=>bD at1 [1,2,3,4,5]<|aN 4 fun Us UD LW=>jc (vs:=[zP d,.agg ⟨[zI 2,zI 0,zI 0,.slice eE kD.length ep,.slice dM jN.length dq,zS,zS]⟩,.string aiJ]) [1] (wM (hN.up (((cy.trans kN).trans rz).trans iF)) We ((((show bL _ _ _ _ _ from ⟨dM,uy,ux,dq,rfl,wA,qv,qu⟩).up kN).up rz).up iF) (by have:=BO.len;have:=Gk.nh;omega)) ?_
    rintro _ ahp ⟨awG,rfl,Pn,Pc,Pu,PH⟩
    refine dV LW<|aN 6 fun Ur UC Gm=>jd 1 [1]<|dV Gm<|zD 1<|bO ZV ⟨jH,_,ahp⟩ ⟨⟨Pn▸VM,wH BO Pu,Pc⟩,PH⟩ Nat.zero_lt_one [1,2,0,3,4,5] (Sub.refl _)
   refine jn fun jH=>bD afn [1,2,3,4,5]<|aN 3 fun Nm NH Gl=>jc [2] (Ww (hN.up (((cy.trans kN).trans rz).trans iF)) hB.2.2.2) ?_
   rintro _ aTM ⟨aiJ,rfl,VM,We⟩
   refine gX Gl [[3]]<|aN 4 fun Uq UB LV=>jc (vs:=[zP d,.agg ⟨[zI 2,zI 0,zI 0,.slice eE kD.length ep,.slice dM jN.length dq,zS,zS]⟩,.string aiJ]) [0] (wM (hN.up (((cy.trans kN).trans rz).trans iF)) We ((((show bL _ _ _ _ _ from ⟨dM,uy,ux,dq,rfl,wA,qv,qu⟩).up kN).up rz).up iF) (by have:=BO.len;have:=Gk.nh;omega)) ?_
   rintro _ ahp ⟨awG,rfl,Pn,Pc,Pu,PH⟩
   refine dV LV<|aN 6 fun aab aa0 PC=>jd 1 [1]<|dV PC<|zD 1<|bO ZV ⟨jH,_,ahp⟩ ⟨⟨Pn▸VM,wH BO Pu,Pc⟩,PH⟩ Nat.zero_lt_one [1,2,0,3,4,5] (Sub.refl _)
  refine zD 7<|jc (vs:=[zP d,zI np]) [1] (DD (hN.up (((cy.trans kN).trans rz).trans iF)) hB.2.2.2 (by omega)) ?_
  rintro _ aTH ⟨aJp,rfl,aWv,aWk,aEo⟩
  refine zD 3<|oU<|eG [1,1,1,1,1,1,1,0,1,0,0] [] (fun(zz:Int×Value×Cells×(List aI)×Cells)=>[(0,zP d),(2,zI nf),(6,zP b6),(7,zP b7),(10,zP rJ),(13,zI zz.1)]) (fun(zz:Int×Value×Cells×(List aI)×Cells)=>[.l zz.2.2.1,.l zz.2.2.2.2,.l LB,.b rJ (.cells ⟨[zI 2,zI 0,zI 0,.slice eE kD.length ep,.slice dM jN.length dq,zS,zS]⟩ 83 (0,0)),.b b7 (.cells ⟨[.slice (some ⟨dW,0,none⟩) 2 2,.slice eY Q6.length ee,zS,.slice eE kD.length ep,.slice dM jN.length dq,vR,vB,zz.2.1,zI 0,zI 0,zI 0,zS]⟩ 38 (0,0)),.b b6 (.cells ⟨[zS,zS,zS,zS,zS,zS,zS,zS,zI 0,zI 0,zI 0,zS]⟩ 38 (0,0))]) (fun(zz:Int×Value×Cells×(List aI)×Cells)=>(0≤zz.1∧zz.2.2.2.1.length+zz.1≤4)∧aD zz.2.1 5 86 eJ zz.2.2.2.1 zz.2.2.1∧(∀p∈zz.2.2.2.1,ahu S7 p)∧bJ vd xs d zz.2.2.2.2) (fun(zz:Int×Value×Cells×(List aI)×Cells)=>zz.1.toNat) (⟨aJp,zS,[],[],aTH⟩) ⟨by simp only[List.length_nil];omega,aD.nil _ _ _,(fun _ h=>by cases h),aEo⟩ [0,1,2,3,4,5] ?_
  rintro⟨j,vA,LA,JV,X⟩ hA K32 aRW rest
  dsimp only at hA
  refine zD 6<|zJ 141 (j>0) (fun h35=>?_) fun h35=>?_
  ·
   refine zD 5<|Hs [1,1,1,1,1,1,1,0,1,0,0,1,0,0,1] [K32] (fun(zz:Nat×aI×Cells)=>[(0,zP d),(2,zI nf),(6,zP b6),(7,zP b7),(10,zP rJ),(13,zI j),(14,zP zz.1)]) (fun(zz:Nat×aI×Cells)=>[.b zz.1 (.cells ⟨[.string zz.2.1.name,zI zz.2.1.st,zI zz.2.1.no,zI zz.2.1.head,.bool zz.2.1.bold]⟩ 86 (0,0)),.l LA,.l zz.2.2,.l LB,.b rJ (.cells ⟨[zI 2,zI 0,zI 0,.slice eE kD.length ep,.slice dM jN.length dq,zS,zS]⟩ 83 (0,0)),.b b7 (.cells ⟨[.slice (some ⟨dW,0,none⟩) 2 2,.slice eY Q6.length ee,zS,.slice eE kD.length ep,.slice dM jN.length dq,vR,vB,vA,zI 0,zI 0,zI 0,zS]⟩ 38 (0,0)),.b b6 (.cells ⟨[zS,zS,zS,zS,zS,zS,zS,zS,zI 0,zI 0,zI 0,zS]⟩ 38 (0,0))]) (fun(zz:Nat×aI×Cells)=>(MS zz.2.1.name∧nJ S7 zz.2.1.head∧(0≤zz.2.1.st∧zz.2.1.st≤1))∧bJ vd xs d zz.2.2) ?_ (fun K33 at6=>?_)
   ·
    rintro⟨WS,pp,X⟩ afp rest
    dsimp only at afp
    refine zD 3<|jc (vs:=[zP d,zI 1,zI 3]) [2] (Ax (hN.up (((cy.trans kN).trans rz).trans iF)) afp.2 (by omega) (by omega)) ?_
    rintro _ aTF ⟨awE,rfl,aWu,aWj,an6⟩
    refine jd 7 [1,1]<|Hs [1,1,1,1,1,1,1,0,1,0,0,1,0,0,1,1,0,1] [K32] (fun(zz:Bool×Cells)=>[(0,zP d),(2,zI nf),(6,zP b6),(7,zP b7),(10,zP rJ),(13,zI j),(14,zP WS),(161,.bool zz.1)]) (fun(zz:Bool×Cells)=>[.b WS (.cells ⟨[.string pp.name,zI pp.st,zI awE,zI pp.head,.bool false]⟩ 86 (0,0)),.l LA,.l zz.2,.l LB,.b rJ (.cells ⟨[zI 2,zI 0,zI 0,.slice eE kD.length ep,.slice dM jN.length dq,zS,zS]⟩ 83 (0,0)),.b b7 (.cells ⟨[.slice (some ⟨dW,0,none⟩) 2 2,.slice eY Q6.length ee,zS,.slice eE kD.length ep,.slice dM jN.length dq,vR,vB,vA,zI 0,zI 0,zI 0,zS]⟩ 38 (0,0)),.b b6 (.cells ⟨[zS,zS,zS,zS,zS,zS,zS,zS,zI 0,zI 0,zI 0,zS]⟩ 38 (0,0))]) (fun(zz:Bool×Cells)=>(zz.1=true→0 <uo.length)∧bJ vd xs d zz.2) ?_ (fun K34 aD3=>?_)
    ·
     rintro⟨g,X⟩ afo rest
     dsimp only at afo
     refine Hs [1,1,1,1,1,1,1,0,1,0,0,1,0,0,1,1,1] [K32] (fun(zz:aI×Cells)=>[(0,zP d),(2,zI nf),(6,zP b6),(7,zP b7),(10,zP rJ),(13,zI j),(14,zP WS)]) (fun(zz:aI×Cells)=>[.b WS (.cells ⟨[.string zz.1.name,zI zz.1.st,zI zz.1.no,zI zz.1.head,.bool zz.1.bold]⟩ 86 (0,0)),.l LA,.l zz.2,.l LB,.b rJ (.cells ⟨[zI 2,zI 0,zI 0,.slice eE kD.length ep,.slice dM jN.length dq,zS,zS]⟩ 83 (0,0)),.b b7 (.cells ⟨[.slice (some ⟨dW,0,none⟩) 2 2,.slice eY Q6.length ee,zS,.slice eE kD.length ep,.slice dM jN.length dq,vR,vB,vA,zI 0,zI 0,zI 0,zS]⟩ 38 (0,0)),.b b6 (.cells ⟨[zS,zS,zS,zS,zS,zS,zS,zS,zI 0,zI 0,zI 0,zS]⟩ 38 (0,0))]) (fun(zz:aI×Cells)=>ahu S7 zz.1∧bJ vd xs d zz.2) ?_ (fun K35 at5=>?_)
     ·
      rintro⟨p2,X⟩ at7 rest
      dsimp only at at7
      refine jd 4 [5,0]<|jn fun aFA=>jk (sz:=5) (ps:=JV) (qs:=[(⟨p2.name,p2.st,p2.no,p2.head,p2.bold⟩:aI)]) (enc:=eJ) (w:= .slice (some ⟨aFA,0,none⟩) 1 1) [2] [0] [(aFA,.cells ⟨([(⟨p2.name,p2.st,p2.no,p2.head,p2.bold⟩:aI)].map eJ).flatten⟩ 86 (0,0))] (hA.2.1) (fun s _ hZ=>cg [(⟨p2.name,p2.st,p2.no,p2.head,p2.bold⟩:aI)] (hZ _ (.head _)) (by intro p hp;rfl)) (fun p _=>aj rfl) (by simp<;>omega) (fun aZC aT5 VU=>?_)
      obtain⟨awQ,awJ,aBp⟩:=VU.form
      subst aBp
      refine jd 5 [6]<|ja (j-1) (by omega)<|zD 2<|bO aRW (⟨j-1,(.slice awQ ((JV++[(⟨p2.name,p2.st,p2.no,p2.head,p2.bold⟩:aI)])).length awJ),aT5,(JV++[(⟨p2.name,p2.st,p2.no,p2.head,p2.bold⟩:aI)]),X⟩) ⟨by simp only[List.length_append,List.length_cons,List.length_nil];omega,VU,ql hA.2.2.1 at7.1,at7.2⟩ (by omega) [0,3,4,5,6,7] (Sub.refl _)
     refine js 161 g (fun h36=>?_) (fun h36=>?_)
     ·
      subst h36
      refine jd 8 [5,5]<|D7 hB.2.1<|ja ((uo.length:Int)-1) (by omega)<|aN 7 fun amo amL LU=>jc (vs:=[zP d,zI ((uo.length:Int)-1)]) [2] (DD (hN.up (((cy.trans kN).trans rz).trans iF)) afo.2 (by omega)) ?_
      rintro _ be5 ⟨aaq,rfl,aWt,aWi,aEm⟩
      refine gX LU [[5],[5]] ?_
      obtain⟨C3,O7⟩:=zG uo (aaq.toNat) (by have:=afo.1 rfl;omega)
      refine pS aaq 5 hB.2.1 O7 (Int.toNat_of_nonneg (show 0≤aaq∧aaq <((uo).length:Int) from (by have:=afo.1 rfl;omega)).1).symm (fun bem aBI=>?_)
      refine oQ 0 [3] LB (fun s _ hZ=>cG hB.2.1 aBI hZ O7)<|aN 10 fun aaa aaZ Tn=>jd 1 [1]<|dV Tn<|zD 5<|jc (vs:=[zP d,zI 3]) [0] (sM (hN.up (((cy.trans kN).trans rz).trans iF)) aEm (by omega)) ?_
      rintro _ aTC ⟨aJm,rfl,an5⟩
      refine zD 1<|Hs [1,1,1,1,1,1,1,0,1,0,0,1,0,0,1,1,2,1,0,1,1] [K32,K35] (fun(zz:Int×Cells)=>[(0,zP d),(2,zI nf),(6,zP b6),(7,zP b7),(10,zP rJ),(13,zI j),(14,zP WS)]) (fun(zz:Int×Cells)=>[.b WS (.cells ⟨[.string C3.name,zI C3.st,zI zz.1,zI C3.head,.bool C3.bold]⟩ 86 (0,0)),.l LA,.l zz.2,.l LB,.b rJ (.cells ⟨[zI 2,zI 0,zI 0,.slice eE kD.length ep,.slice dM jN.length dq,zS,zS]⟩ 83 (0,0)),.b b7 (.cells ⟨[.slice (some ⟨dW,0,none⟩) 2 2,.slice eY Q6.length ee,zS,.slice eE kD.length ep,.slice dM jN.length dq,vR,vB,vA,zI 0,zI 0,zI 0,zS]⟩ 38 (0,0)),.b b6 (.cells ⟨[zS,zS,zS,zS,zS,zS,zS,zS,zI 0,zI 0,zI 0,zS]⟩ 38 (0,0))]) (fun(zz:Int×Cells)=>(1≤zz.1∧zz.1≤3)∧bJ vd xs d zz.2) ?_ (fun K38 aD2=>?_)
      ·
       rintro⟨q,X⟩ alg rest
       dsimp only at alg
       have hO:=hB.2.2.1 _ (List.mem_of_getElem? O7)
       have hO2:=hO.1.2.2.1
       have hO3:=hO.2
       refine zD 3<|jc (vs:=[zP d,zI 4]) [2] (sM (hN.up (((cy.trans kN).trans rz).trans iF)) alg.2 (by omega)) ?_
       rintro _ aFT ⟨aJk,rfl,an4⟩
       refine zD 1<|js 178 aJk (fun ZX=>?_) (fun ZX=>?_)
       ·
        subst ZX
        refine jd 5 [1]<|bO at5 ⟨⟨C3.name,C3.st,q,-1,C3.bold⟩,aFT⟩ ⟨⟨⟨hO.1.1,.inl rfl,hO.1.2.2.1,hO.1.2.2.2⟩,alg.1⟩,an4⟩ Nat.zero_lt_one [1,2,0,3,4,5,6] (Sub.refl _)
       subst ZX
       refine zD 2<|bO at5 ⟨⟨C3.name,C3.st,q,C3.head,C3.bold⟩,aFT⟩ ⟨⟨⟨hO.1.1,hO.1.2.1,hO.1.2.2.1,hO.1.2.2.2⟩,alg.1⟩,an4⟩ Nat.zero_lt_one [1,2,0,3,4,5,6] (Sub.refl _)
      refine js 173 aJm (fun h40=>?_) (fun h40=>?_)
      ·
       subst h40
       have hO:=hB.2.2.1 _ (List.mem_of_getElem? O7)
       have hO2:=hO.1.2.2.1
       have hO3:=hO.2
       refine zD 3<|jc (vs:=[zP d,zI 1,zI 3]) [0] (Ax (hN.up (((cy.trans kN).trans rz).trans iF)) an5 (by omega) (by omega)) ?_
       rintro _ aTB ⟨aJl,rfl,aWs,aWh,aEl⟩
       refine jd 3 [1]<|bO aD2 ⟨aJl,aTB⟩ ⟨by dsimp only;omega,aEl⟩ Nat.zero_lt_one [1,2,0,3,4,5,6] (Sub.refl _)
      subst h40
      have hO:=hB.2.2.1 _ (List.mem_of_getElem? O7)
      have hO2:=hO.1.2.2.1
      have hO3:=hO.2
      refine zD 2<|bO aD2 ⟨C3.no,aTC⟩ ⟨by dsimp only;omega,an5⟩ Nat.zero_lt_one [1,2,0,3,4,5,6] (Sub.refl _)
     subst h36
     refine zD 2<|bO at5 ⟨⟨pp.name,pp.st,awE,pp.head,false⟩,X⟩ ⟨⟨⟨afp.1.1,afp.1.2.1,afp.1.2.2,rfl⟩,by dsimp only;omega⟩,afo.2⟩ Nat.zero_lt_one [0,1,2,3,4,5,6] (Sub.refl _)
    refine jd 3 [5]<|D7 hB.2.1<|zD 2<|js 157 (decide ((uo.length:Int)>0)) (fun h41=>?_) (fun h41=>?_)
    ·
     have afz:=h41
     replace afz:=of_decide_eq_true afz
     refine zD 1<|jc (vs:=[zP d,zI 3]) [0] (sM (hN.up (((cy.trans kN).trans rz).trans iF)) an6 (by omega)) ?_
     rintro _ aTE ⟨aJo,rfl,aEn⟩
     refine zD 3<|bO aD3 ⟨!aJo,aTE⟩ ⟨fun _=>by omega,aEn⟩ Nat.zero_lt_one [1,2,0,3,4,5,6] (Sub.refl _)
    have afz:=h41
    replace afz:=of_decide_eq_false afz
    refine zD 5<|bO aD3 ⟨false,aTF⟩ ⟨(fun h=>by cases h),an6⟩ Nat.zero_lt_one [1,2,0,3,4,5,6] (Sub.refl _)
   refine jd 4 [3]<|mO [3,5] ⟨fun z39 t40 aff=>?_,fun z42 t43 aRR=>?_,trivial⟩
   ·
    refine jc [1] (Ww (hN.up (((cy.trans kN).trans rz).trans iF)) hA.2.2.2) ?_
    rintro _ aTG ⟨aiI,rfl,VL,Wd⟩
    refine gX aff [[3]]<|mO [4,5] ⟨fun z45 t46 aRP=>?_,fun z48 t49 afd=>?_,trivial⟩
    ·
     refine jc (vs:=[zP d,.agg ⟨[zI 2,zI 0,zI 0,.slice eE kD.length ep,.slice dM jN.length dq,zS,zS]⟩,.string aiI]) [0] (wM (hN.up (((cy.trans kN).trans rz).trans iF)) Wd ((((show bL _ _ _ _ _ from ⟨dM,uy,ux,dq,rfl,wA,qv,qu⟩).up kN).up rz).up iF) (by have:=BO.len;have:=Gk.nh;omega)) ?_
     rintro _ aho ⟨awF,rfl,Pm,Pb,Pt,PG⟩
     refine dV aRP<|aN 5 fun amk amH afc=>jn fun WS=>dV afc<|aN 6 fun amj amG Tm=>jd 1 [0]<|dV Tm<|zD 1<|bO at6 ⟨WS,_,aho⟩ ⟨⟨Pm▸VL,wH BO Pt,Pb⟩,PG⟩ Nat.zero_lt_one [0,2,1,3,4,5,6] (Sub.refl _)
    refine jn fun WS=>bD afd [1,2,3,4,5,6]<|aN 4 fun Z8 aaY Tl=>jc (vs:=[zP d,.agg ⟨[zI 2,zI 0,zI 0,.slice eE kD.length ep,.slice dM jN.length dq,zS,zS]⟩,.string aiI]) [1] (wM (hN.up (((cy.trans kN).trans rz).trans iF)) Wd ((((show bL _ _ _ _ _ from ⟨dM,uy,ux,dq,rfl,wA,qv,qu⟩).up kN).up rz).up iF) (by have:=BO.len;have:=Gk.nh;omega)) ?_
    rintro _ aho ⟨awF,rfl,Pm,Pb,Pt,PG⟩
    refine dV Tl<|aN 6 fun Z6 aaX Tk=>jd 1 [1]<|dV Tk<|zD 1<|bO at6 ⟨WS,_,aho⟩ ⟨⟨Pm▸VL,wH BO Pt,Pb⟩,PG⟩ Nat.zero_lt_one [1,2,0,3,4,5,6] (Sub.refl _)
   refine jn fun WS=>bD aRR [1,2,3,4,5,6]<|aN 3 fun ami amF afb=>jc [2] (Ww (hN.up (((cy.trans kN).trans rz).trans iF)) hA.2.2.2) ?_
   rintro _ aTG ⟨aiI,rfl,VL,Wd⟩
   refine gX afb [[4]]<|aN 4 fun amh amE afa=>jc (vs:=[zP d,.agg ⟨[zI 2,zI 0,zI 0,.slice eE kD.length ep,.slice dM jN.length dq,zS,zS]⟩,.string aiI]) [0] (wM (hN.up (((cy.trans kN).trans rz).trans iF)) Wd ((((show bL _ _ _ _ _ from ⟨dM,uy,ux,dq,rfl,wA,qv,qu⟩).up kN).up rz).up iF) (by have:=BO.len;have:=Gk.nh;omega)) ?_
   rintro _ aho ⟨awF,rfl,Pm,Pb,Pt,PG⟩
   refine dV afa<|aN 6 fun amg amD Tj=>jd 1 [1]<|dV Tj<|zD 1<|bO at6 ⟨WS,_,aho⟩ ⟨⟨Pm▸VL,wH BO Pt,Pb⟩,PG⟩ Nat.zero_lt_one [1,2,0,3,4,5,6] (Sub.refl _)
  refine zD 4<|jf [2,0] (LB++LA) (fun aZV vo aA7=>?_)
  have hb:=hB.2.1.lq (Knows.left aA7)
  have ha:=hA.2.1.lq (Knows.right aA7)
  have hBF:=hb
  have hAF:=ha
  obtain⟨mN,QE,QB,mA,rfl,QC,Ob,Oa⟩:=hb
  obtain⟨mi,M5,M3,lS,rfl,M4,KC,KB⟩:=ha
  refine zD 2<|jc (vs:=[zP d,zI 4]) [0] (DD (hN.up ((((cy.trans kN).trans rz).trans iF).trans vo)) hA.2.2.2 (by omega)) ?_
  rintro _ be4 ⟨aiH,rfl,aWr,aWg,aEk⟩
  refine jn fun aFz=>ZK (vs:=[zP d,.slice (some ⟨aFz,0,none⟩) 4 4]) [1] [0] [(aFz,.cells ⟨([1,2,4,aiH].map db).flatten⟩ 3 (0,0))] (fun aE hs hZ=>agK ((hN.up ((((cy.trans kN).trans rz).trans iF).trans vo)).up hs) aEk (cb [1,2,4,aiH] hZ.head (by intro p hp;rfl)) (by simp)) ?_
  rintro _ be3 ⟨aap,rfl,azU,aEj⟩
  refine zD 2<|jc (vs:=[zP d,zI 4]) [0] (DD (hN.up ((((cy.trans kN).trans rz).trans iF).trans vo)) aEj (by omega)) ?_
  rintro _ be2 ⟨aiG,rfl,aWq,aWf,aEi⟩
  refine jn fun aFy=>ZK (vs:=[zP d,.slice (some ⟨aFy,0,none⟩) 4 4]) [1] [0] [(aFy,.cells ⟨([1,2,4,aiG].map db).flatten⟩ 3 (0,0))] (fun aE hs hZ=>agK ((hN.up ((((cy.trans kN).trans rz).trans iF).trans vo)).up hs) aEi (cb [1,2,4,aiG] hZ.head (by intro p hp;rfl)) (by simp)) ?_
  rintro _ be1 ⟨aao,rfl,azT,aEh⟩
  refine zD 2<|jc (vs:=[zP d,zI 4]) [0] (DD (hN.up ((((cy.trans kN).trans rz).trans iF).trans vo)) aEh (by omega)) ?_
  rintro _ be0 ⟨aiF,rfl,aWp,aWe,aEg⟩
  refine jn fun aFx=>ZK (vs:=[zP d,.slice (some ⟨aFx,0,none⟩) 4 4]) [1] [0] [(aFx,.cells ⟨([1,2,4,aiF].map db).flatten⟩ 3 (0,0))] (fun aE hs hZ=>agK ((hN.up ((((cy.trans kN).trans rz).trans iF).trans vo)).up hs) aEg (cb [1,2,4,aiF] hZ.head (by intro p hp;rfl)) (by simp)) ?_
  rintro _ beZ ⟨aam,rfl,azS,aEf⟩
  refine jd 6 [5,5,5] ?_
  have AT:=aqZ azU (by omega:0≤aiH∧aiH≤4)
  have Ah:=aqZ azT (by omega:0≤aiG∧aiG≤4)
  have p7:=aqZ azS (by omega:0≤aiF∧aiF≤4)
  refine zD 6<|jc (vs:=[zP d,zI nf]) [0] (DD (hN.up ((((cy.trans kN).trans rz).trans iF).trans vo)) aEf (by omega)) ?_
  rintro _ aTA ⟨aJj,rfl,aWo,aWd,aEe⟩
  refine zD 3<|oU<|eG [1,1,1,1,1,1,1,1,1,0,1,0,0] [] (fun(zz:Int×Value×Cells×(List eR)×Cells)=>[(0,zP d),(6,zP b6),(7,zP b7),(15,zI zz.1)]) (fun(zz:Int×Value×Cells×(List eR)×Cells)=>[.l zz.2.2.1,.l zz.2.2.2.2,.b rJ (.cells ⟨[zI 2,zI 0,zI 0,.slice eE kD.length ep,.slice dM jN.length dq,zS,zS]⟩ 83 (0,0)),.b b7 (.cells ⟨[.slice (some ⟨dW,0,none⟩) 2 2,.slice eY Q6.length ee,zS,.slice eE kD.length ep,.slice dM jN.length dq,vR,.slice mN uo.length mA,.slice mi JV.length lS,zI aap,zI aao,zI aam,zz.2.1]⟩ 38 (0,0)),.b b6 (.cells ⟨[zS,zS,zS,zS,zS,zS,zS,zS,zI 0,zI 0,zI 0,zS]⟩ 38 (0,0))]) (fun(zz:Int×Value×Cells×(List eR)×Cells)=>(0≤zz.1∧zz.2.2.2.1.length+zz.1≤nf)∧aD zz.2.1 3 57 oK zz.2.2.2.1 zz.2.2.1∧AM uo.length JV.length zz.2.2.2.1∧bJ vd xs d zz.2.2.2.2) (fun(zz:Int×Value×Cells×(List eR)×Cells)=>zz.1.toNat) (⟨aJj,zS,[],[],aTA⟩) ⟨by simp only[List.length_nil];omega,aD.nil _ _ _,⟨(fun _ h=>by cases h),List.Pairwise.nil⟩,aEe⟩ [0,1,5,6,7] ?_
  rintro⟨j,vF,LF,fs,X⟩ hF K58 aD1 rest
  dsimp only at hF
  have asI:=hB.1
  have aWG:=hA.1
  refine zD 6<|jj 5 [(0,zP d),(6,zP b6),(7,zP b7),(15,zI j),(214,.bool ((decide (j>0))&&(decide ((uo.length:Int)>0))))] (fun gJ=>?_) (fun hj=>?_)
  rotate_left
  refine js 209 (decide (j>0)) (fun h56=>?_) (fun h56=>?_)
  ·
   have afy:=h56
   replace afy:=of_decide_eq_true afy
   refine jd 5 [3]<|jw 214 (.bool ((decide (j>0))&&(decide ((uo.length:Int)>0)))) (w:= .bool (decide ((uo.length:Int)>0))) (by rw[h56]<;>rfl) ?_
   exact hj _ (by kernel_rfl) (by kernel_rfl)
  ·
   have afy:=h56
   replace afy:=of_decide_eq_false afy
   refine zD 5<|jw 214 (.bool ((decide (j>0))&&(decide ((uo.length:Int)>0)))) (w:= .bool false) (by rw[h56]<;>rfl) ?_
   exact hj _ (by kernel_rfl) (by kernel_rfl)
  refine zD 1<|jj 5 [(0,zP d),(6,zP b6),(7,zP b7),(15,zI j),(220,.bool (((decide (j>0))&&(decide ((uo.length:Int)>0)))&&(decide ((JV.length:Int)>0))))] (fun gJ=>?_) (fun hj=>?_)
  rotate_left
  refine js 215 ((decide (j>0))&&(decide ((uo.length:Int)>0))) (fun h57=>?_) (fun h57=>?_)
  ·
   have auf:=h57
   try simp only[zB] at auf
   refine jd 5 [3]<|jw 220 (.bool (((decide (j>0))&&(decide ((uo.length:Int)>0)))&&(decide ((JV.length:Int)>0)))) (w:= .bool (decide ((JV.length:Int)>0))) (by rw[h57]<;>rfl) ?_
   exact hj _ (by kernel_rfl) (by kernel_rfl)
  ·
   have auf:=h57
   try simp only[zB] at auf
   refine zD 5<|jw 220 (.bool (((decide (j>0))&&(decide ((uo.length:Int)>0)))&&(decide ((JV.length:Int)>0)))) (w:= .bool false) (by rw[h57]<;>rfl) ?_
   exact hj _ (by kernel_rfl) (by kernel_rfl)
  refine zD 1<|js 220 (((decide (j>0))&&(decide ((uo.length:Int)>0)))&&(decide ((JV.length:Int)>0))) (fun h58=>?_) (fun h58=>?_)
  ·
   try simp only[zB] at h58
   refine jd 8 [3]<|jc (vs:=[zP d,.agg ⟨[.slice (some ⟨dW,0,none⟩) 2 2,.slice eY Q6.length ee,zS,.slice eE kD.length ep,.slice dM jN.length dq,vR,.slice mN uo.length mA,.slice mi JV.length lS,zI aap,zI aao,zI aam,vF]⟩]) [1] (aSW (hN.up ((((cy.trans kN).trans rz).trans iF).trans vo)) hF.2.2.2 (show bL _ _ _ _ _ from ⟨mN,QE,QB,mA,rfl,QC,Ob,Oa⟩) (show bL _ _ _ _ _ from ⟨mi,M5,M3,lS,rfl,M4,KC,KB⟩) (by omega)) ?_
   rintro _ aFS ⟨pF,rfl,aWU,aWT,an3⟩
   refine jn fun b16=>jd 6 [0,4,0]<|jp (vs:=[.agg ⟨[.slice (some ⟨dW,0,none⟩) 2 2,.slice eY Q6.length ee,zS,.slice eE kD.length ep,.slice dM jN.length dq,vR,.slice mN uo.length mA,.slice mi JV.length lS,zI aap,zI aao,zI aam,vF]⟩,.agg ⟨[zI pF.a,zI pF.b,.bool pF.same]⟩]) [2] LF (fun aE hs hZ=>anp (x:=⟨pF.a,pF.b,pF.same⟩) (hF.2.1.lq hZ) (by omega))<|zD 2<|js 229 (!(xk fs pF.a pF.b)) (fun h59=>?_) (fun h59=>?_)
   ·
    try simp only[zB] at h59
    refine jd 5 [4,0]<|jn fun aFw=>jk (sz:=3) (ps:=fs) (qs:=[(⟨pF.a,pF.b,pF.same⟩:eR)]) (enc:=oK) (w:= .slice (some ⟨aFw,0,none⟩) 1 1) [3] [0] [(aFw,.cells ⟨([(⟨pF.a,pF.b,pF.same⟩:eR)].map oK).flatten⟩ 57 (0,0))] (hF.2.1) (fun s _ hZ=>cg [(⟨pF.a,pF.b,pF.same⟩:eR)] (hZ _ (.head _)) (by intro p hp;rfl)) (fun p _=>aj rfl) (by simp<;>omega) (fun aZA aT4 VT=>?_)
    obtain⟨awP,awI,aBo⟩:=VT.form
    subst aBo
    refine jd 5 [5]<|ja (j-1) (by omega)<|zD 2<|bO aD1 (⟨j-1,(.slice awP ((fs++[(⟨pF.a,pF.b,pF.same⟩:eR)])).length awI),aT4,(fs++[(⟨pF.a,pF.b,pF.same⟩:eR)]),aFS⟩) ⟨by simp only[List.length_append,List.length_cons,List.length_nil];omega,VT,AM.snoc hF.2.2.1 (by dsimp only;omega) (by dsimp only;omega) (by assumption),an3⟩ (by omega) [0,3,4,5,6] (Sub.refl _)
   try simp only[zB] at h59
   refine zD 4<|ja (j-1) (by omega)<|zD 2<|bO aD1 (⟨j-1,vF,LF,fs,aFS⟩) ⟨by dsimp only;omega,hF.2.1,hF.2.2.1,an3⟩ (by omega) [2,1,3,4,5] (Sub.refl _)
  try simp only[zB] at h58
  refine zD 4<|jf [0] LF (fun aZU SM aPF=>?_)
  have hFA:=hF.2.1.lq aPF
  refine jd 1 [2] ?_
  obtain⟨aJY,aJC,aQd⟩:=hR.2.1.form
  subst aQd
  obtain⟨aJX,aJB,aQc⟩:=hF.2.1.form
  subst aQc
  refine jd 3 [3]<|aJ q0.a.a.a.a.a.a (.agg ⟨[.slice (some ⟨dW,0,none⟩) 2 2,.slice eY Q6.length ee,zS,.slice eE kD.length ep,.slice dM jN.length dq,(.slice aJY (rs).length aJC),.slice mN uo.length mA,.slice mi JV.length lS,zI aap,zI aao,zI aam,(.slice aJX (fs).length aJB)]⟩) [3] [0] X (Sub.refl _) ⟨_,_,X,rfl,rfl,(((((cy.trans kN).trans rz).trans iF).trans vo).trans SM),⟨ways,kD,S7,rs,uo,JV,aap,aao,aam,fs,xZ⟩,_,rfl,⟨QV.2.1,Gk,⟨by dsimp only;omega,hR.2.2⟩,⟨by dsimp only;omega,hB.2.2.1⟩,⟨by dsimp only;omega,hA.2.2.1⟩,⟨AT,Ah,p7⟩,⟨by dsimp only;omega,hF.2.2.1.1⟩,hF.2.2.1.2,rfl⟩,(by dsimp only;omega),⟨_,_,_,_,_,_,_,_,none,0,jN,rfl,(aRj.up (((rz.trans iF).trans vo).trans SM)),(aBV.up ((iF.trans vo).trans SM)),(p6.up ((((kN.trans rz).trans iF).trans vo).trans SM)),BO,(hRU.up (vo.trans SM)),(hBF.up SM),(hAF.up SM),hFA⟩,hF.2.2.2⟩
 refine js 30 w30 (fun h65=>?_) (fun h65=>?_)
 ·
  subst h65
  refine jd 7 [1]<|aN 4 fun aUt aU4 aRO=>jc [0] (aE8 (hN.up (cy.trans kN)) aEc) ?_
  rintro _ X35 ⟨tY,rfl,azR,aSe⟩
  refine gX aRO [[1]]<|aN 5 fun aUs aU3 atV=>jn fun dK=>bD atV [1,2,3]<|zD 1<|aN 7 fun awd aw7 atU=>jn fun b38=>bD atU [1,2,3,4]<|aN 8 fun awc aw6 atT=>aNH (E:=78) (sz:=1) gN (qs:=[(.slice (some ⟨dK,0,none⟩) 1 1:Value)]) (w:= .slice (some ⟨b38,0,none⟩) 1 1) [0] [(b38,.cells ⟨([(.slice (some ⟨dK,0,none⟩) 1 1:Value)].map gN).flatten⟩ 78 (0,0))] (fun s _ hZ=>cg [(.slice (some ⟨dK,0,none⟩) 1 1:Value)] (hZ _ (.head _)) (by intro p hp;rfl)) (by intro p hp;rw[List.mem_singleton] at hp;subst hp;exact aj rfl) (by simp<;>omega) (fun v39 L39 BH=>?_)
  obtain⟨awO,awH,aeQ⟩:=BH.form
  subst aeQ
  refine bD atT [1,2,3,4,5]<|zD 2<|aN 11 fun aUr aU2 aRN=>jd 1 [4]<|gX aRN []<|zD 4<|jc (vs:=[zP d,zI 2]) [3] (sM (hN.up (cy.trans kN)) aSe (by omega)) ?_
  rintro _ X43 ⟨w43,rfl,aEb⟩
  refine zD 1<|js 43 w43 (fun h71=>?_) (fun h71=>?_)
  ·
   subst h71
   refine jd 8 [4,4]<|ZJ 1 BH (show ([(.slice (some ⟨dK,0,none⟩) 1 1:Value)])[0]?=some (.slice (some ⟨dK,0,none⟩) 1 1:Value) from rfl) fun b50 aQT=>zD 1<|oQ 0 [1] L39 (fun s _ hZ=>cG BH aQT hZ (show ([(.slice (some ⟨dK,0,none⟩) 1 1:Value)])[0]?=some (.slice (some ⟨dK,0,none⟩) 1 1:Value) from rfl))<|zD 1<|aN 10 fun aUq aU1 aRM=>jc [0] (aE8 (hN.up (cy.trans kN)) aEb) ?_
   rintro _ X54 ⟨uJ,rfl,aOb,aSb⟩
   refine gX aRM [[1],[4],[4]]<|aN 11 fun aUp aU0 atS=>jn fun b55=>bD atS [1,2,3,4,5,6]<|aN 12 fun aUo aUZ aRL=>jk (sz:=7) (ps:=[(⟨tY.k,tY.st,tY.ot,tY.fn,tY.fl,tY.tn,tY.tl⟩:aQ)]) (qs:=[(⟨uJ.k,uJ.st,uJ.ot,uJ.fn,uJ.fl,uJ.tn,uJ.tl⟩:aQ)]) (enc:=kB) (w:= .slice (some ⟨b55,0,none⟩) 1 1) [4] [0] [(b55,.cells ⟨([(⟨uJ.k,uJ.st,uJ.ot,uJ.fn,uJ.fl,uJ.tn,uJ.tl⟩:aQ)].map kB).flatten⟩ 74 (0,0))] (Fe (b:=dK) (T:=74) [(⟨tY.k,tY.st,tY.ot,tY.fn,tY.fl,tY.tn,tY.tl⟩:aQ)] rfl (by intro p hp;rfl)) (fun s _ hZ=>cg [(⟨uJ.k,uJ.st,uJ.ot,uJ.fn,uJ.fl,uJ.tn,uJ.tl⟩:aQ)] (hZ _ (.head _)) (by intro p hp;rfl)) (fun p _=>aj rfl) (by simp<;>omega) (fun v56 L56 vq=>?_)
   obtain⟨Xf,Xd,aeO⟩:=vq.form
   subst aeO
   refine gX aRL [[5],[5]]<|ZJ 1 BH (show ([(.slice (some ⟨dK,0,none⟩) 1 1:Value)])[0]?=some (.slice (some ⟨dK,0,none⟩) 1 1:Value) from rfl) fun b57 aQS=>zD 1<|aN 15 fun aUn aUY aRK=>QF 3 0 [(.slice Xf (([(⟨tY.k,tY.st,tY.ot,tY.fn,tY.fl,tY.tn,tY.tl⟩:aQ)]++[(⟨uJ.k,uJ.st,uJ.ot,uJ.fn,uJ.fl,uJ.tn,uJ.tl⟩:aQ)])).length Xd)] ((.slice Xf (([(⟨tY.k,tY.st,tY.ot,tY.fn,tY.fl,tY.tn,tY.tl⟩:aQ)]++[(⟨uJ.k,uJ.st,uJ.ot,uJ.fn,uJ.fl,uJ.tn,uJ.tl⟩:aQ)])).length Xd):Value) BH aQS (show ([(.slice (some ⟨dK,0,none⟩) 1 1:Value)])[0]?=some (.slice (some ⟨dK,0,none⟩) 1 1:Value) from rfl) rfl rfl (Nat.le_of_ble_eq_true rfl) fun Zz aO1=>gX aRK []<|zD 1<|Lh bU ⟨(.slice awO ([(.slice (some ⟨dK,0,none⟩) 1 1:Value)]).length awH),Zz++L56,[[tY,uJ]],X54⟩ ⟨fun _ hk=>⟨_,aO1.lq hk.left,.cons (vq.lq hk.right) .nil⟩,⟨by simp,by simpa using ⟨azR,aOb⟩⟩,aSb⟩ Nat.zero_lt_one [[0,1],[3],[5],[6]] (Sub.refl _)
  subst h71
  refine zD 2<|Lh bU ⟨(.slice awO ([(.slice (some ⟨dK,0,none⟩) 1 1:Value)]).length awH),L39++[(dK,.cells ⟨[zI tY.k,zI tY.st,zI tY.ot,zI tY.fn,zI tY.fl,zI tY.tn,zI tY.tl]⟩ 74 (0,0))],[[tY]],X43⟩ ⟨fun _ hk=>⟨_,BH.lq hk.left,.cons (cb [tY] (hk.right _ (.head _)) (fun _ _=>rfl)) .nil⟩,⟨by simp,by simpa using azR⟩,aEb⟩ Nat.zero_lt_one [[1,3],[0],[4],[5]] (Sub.refl _)
 subst h65
 refine zD 2<|oU<|bO bU ⟨zS,[],[],X30⟩ ⟨fun _ _=>Rp,⟨by simp,by simp⟩,aEc⟩ Nat.zero_lt_one [0,1,2,3] (Sub.refl _)
theorem aSY{ro:Nat→Option Obj}(hl:bL ro vd 1 db xs):eI zT 8 [vd] ro [] (fun r Y=>∃d,r= zP d∧bJ vd xs d Y):=by
 obtain⟨fC,rj,ri,eV,rfl,tj,lB,mz⟩:=hl
 refine bI av [] [] bB<|zD 8<|jn fun b5=>zD 3<|aJ q0 (zP b5) [] [0] [(b5,.cells ⟨[.slice fC xs.length eV,zI 0,zU 11400714819323198485]⟩ 93 (0,0))] (Sub.refl _) ⟨_,_,rfl,rfl,_,rfl,0,_,Nat.zero_le _,rfl⟩
theorem du.set{R:α→β→Prop}{l:List α}{m:List β}(h:du R l m){a:α}{b:β}(hb:m[k]?=some b) (hr:R a b):du R (l.set k a) m:=by
 induction h generalizing k with
 |nil=>simp at hb
 |cons h1 h2 ih=>
  cases k with
  |zero=>simp at hb;subst hb;exact .cons hr h2
  |succ k=>exact .cons h1 (ih (by simpa using hb))
theorem du.mem{R:α→β→Prop}{l:List α}{m:List β}(h:du R l m){a:α}(ha:a∈l):∃b∈m,R a b:=by
 obtain⟨i,hi⟩:=List.getElem?_of_mem ha
 obtain⟨b,hb,hr⟩:=h.get hi
 exact⟨b,List.mem_of_getElem? hb,hr⟩
theorem mC{ro:Nat→Option Obj}{hv:List bA}(h:du (qW ro) hv hd):∀p∈hv,∀c∈lZ p,single c=true:=fun p hp=>by
 obtain⟨y,_,h1⟩:=h.mem hp
 obtain⟨w,c,s,a⟩:=p
 obtain⟨_,_,_,_,e,_⟩:=h1.2.2.2
 dsimp only at e
 subst e
 exact aj rfl
theorem P6{ro:Nat→Option Obj}{hw:List bA}{Z L:Cells}{v:Value}{x x':bA}{y:cw}(h:∀aK,Sub ro aK→Knows aK Z→du (qW aK) hw hd)(hS:du dj hw hd)(hx:hw[k]?=some x) (lH:hw[k]?=some x') (hy:hd[k]?=some y) (ho:aD v 1 3 db y.ei L):
 (∀aK,Sub ro aK→Knows aK (L++Z)→du (qW aK) (hw.set k ⟨x'.word,x'.cls,x'.nY,v⟩) hd)∧du dj (hw.set k ⟨x'.word,x'.cls,x'.nY,v⟩) hd:=by
 rw[hx] at lH;cases lH
 obtain⟨y',h1,h2⟩:=hS.get hx
 rw[hy] at h1;cases h1
 exact⟨fun aK hs hk=>(h aK hs hk.right).set hy ⟨h2.1,h2.2.1,h2.2.2,ho.lq hk.left⟩,hS.set hy h2⟩
theorem Y3{l m:List α}{a:α}(h:l.drop k=m.drop k):(l.set k a).drop (k+1)=m.drop (k+1):=by
 have h1:=congrArg (List.drop 1) h
 rw[List.drop_drop,List.drop_drop] at h1
 rw[List.drop_set_of_lt (by omega)]
 exact h1
theorem agF{l m:List α}{a:α}(h:l.drop k=m.drop k)(ha:l[k]?=some a):m[k]?=some a:=by
 have h1:=congrArg (fun q=>q[0]?) h
 simp only[List.getElem?_drop,Nat.add_zero] at h1
 rw[←h1];exact ha
theorem tE{hv:List bA}{ro:Nat→Option Obj}(hT:WY cs hd)(hR:iX ro vc vh cs hv hd)(hS:du dj hv hd):eI zT 48 [.agg ⟨[vc,vh]⟩] ro [] (fun r Y=>∃(hw:List bA) (ca ha:Option Addr) (cc hc:Nat) (Z:Cells),r= .agg ⟨[.slice ca cs.length cc,.slice ha hw.length hc]⟩∧du dj hw hd∧(∀aK,Sub ro aK→Knows aK Z→iX aK (.slice ca cs.length cc) (.slice ha hw.length hc) cs hw hd)∧Y=Z):=by
 obtain⟨hc,hh,dr⟩:=id hR
 obtain⟨eE,zk,zi,ep,rfl,Cq,xW,xV⟩:=hc
 obtain⟨dM,uy,ux,dq,rfl,wA,qv,qu⟩:=hh
 have hlen:=hS.len
 have hnh:=hT.nh
 have CE:=hT.nc
 refine bI av [] [] bB<|zD 2<|jn fun b1=>jn fun b2=>zD 2<|Hs [1,1] [] (fun(zz:Value×Cells×Value×Cells)=>[(1,zP b1),(2,zP b2)]) (fun(zz:Value×Cells×Value×Cells)=>[.b b1 (.cells ⟨[zz.1,zz.2.2.1]⟩ 33 (0,0)),.l zz.2.1,.l zz.2.2.2,.b b2 (.cells ⟨[zS,zS]⟩ 33 (0,0))]) (fun(zz:Value×Cells×Value×Cells)=>aD zz.1 2 130 oL cs zz.2.1∧aD zz.2.2.1 4 133 lZ hv zz.2.2.2) ?_ (fun K1 bU=>?_)
 ·
  rintro⟨vC,LC,vH,LH⟩ hJ rest
  dsimp only at hJ
  refine zD 6<|oU<|eG [1,1,0,1,0,0] [] (fun(zz:Nat×Value×Cells×(List bA)×Cells)=>[(1,zP b1),(2,zP b2),(3,zI (zz.1:Int))]) (fun(zz:Nat×Value×Cells×(List bA)×Cells)=>[.b b1 (.cells ⟨[vC,zz.2.1]⟩ 33 (0,0)),.l zz.2.2.1,.l zz.2.2.2.2,.l LC,.b b2 (.cells ⟨[zS,zS]⟩ 33 (0,0))]) (fun(zz:Nat×Value×Cells×(List bA)×Cells)=>(zz.1≤zz.2.2.2.1.length∧zz.2.2.2.1.length=hv.length∧zz.2.2.2.1.drop zz.1=hv.drop zz.1)∧aD zz.2.1 4 133 lZ zz.2.2.2.1 zz.2.2.1∧(∀aK,Sub ro aK→Knows aK zz.2.2.2.2→du (qW aK) zz.2.2.2.1 hd)∧du dj zz.2.2.2.1 hd) (fun(zz:Nat×Value×Cells×(List bA)×Cells)=>hv.length-zz.1) (⟨0,vH,LH,hv,[]⟩) ⟨⟨by omega,rfl,rfl⟩,hJ.2,fun _ hs _=>(hR.up hs).2.2,hS⟩ [1,3,0,2,4] ?_
  rintro⟨k,vH,LH,hw,Z⟩ hI K2 lL rest
  dsimp only at hI
  refine jd 6 [0]<|D7 hI.2.1<|zD 2<|zJ 18 ((k:Int) <(hw.length:Int)) (fun h1=>?_) fun h1=>?_
  ·
   refine jd 11 [0,0] ?_
   obtain⟨x27,H5⟩:=zG hw k
   refine ZJ 4 hI.2.1 H5 fun b27 aQ5=>zD 1<|oQ 3 [1] LH (fun s _ hZ=>cG hI.2.1 aQ5 hZ H5)<|aN 9 (fun qZ q6 p7=>?_)
   obtain⟨y27,arJ,aOL⟩:=hR.2.2.get (agF hI.1.2.2 H5)
   have aWS:=(hT.Ad _ _ arJ).2.2.1.1
   refine jc (vs:=[x27.ei]) [] (ads aOL.2.2.2 (by omega)) ?_
   rintro v30 L30 ⟨_,BI,rfl⟩
   refine bD p7 [1,2,3,4,5] ?_
   obtain⟨x31,akA⟩:=zG hw k
   refine ZJ 4 hI.2.1 akA fun fO aQ3=>zD 1<|aN 12 (fun rK rR qz=>?_)
   obtain⟨va4,vc4,he4⟩:=BI.form
   subst he4
   refine QF 2 3 [(.slice va4 (y27.ei).length vc4)] (⟨x31.word,x31.cls,x31.nY,(.slice va4 (y27.ei).length vc4)⟩:bA) hI.2.1 aQ3 akA rfl rfl (Nat.le_of_ble_eq_true rfl) fun L5 ho6=>gX qz []<|zD 3<|ja ((k:Int)+1) (by omega)<|zD 2<|Lh lL (⟨k+1,vH,L5,(hw.set k (⟨x31.word,x31.cls,x31.nY,(.slice va4 (y27.ei).length vc4)⟩:bA)),L30++Z⟩) ⟨⟨by rw[List.length_set];omega,by rw[List.length_set];exact hI.1.2.1,Y3 hI.1.2.2⟩,ho6,(P6 hI.2.2.1 hI.2.2.2 H5 akA arJ BI).1,(P6 hI.2.2.1 hI.2.2.2 H5 akA arJ BI).2⟩ (by omega) [[2],[0],[1,3],[4],[5]] (Sub.refl _)
  refine jd 5 [0] ?_
  obtain⟨Nw,Nu,LI⟩:=hJ.1.form
  subst LI
  obtain⟨va8,vc8,he8⟩:=hI.2.1.form
  subst he8
  refine jd 3 [4]<|aJ q0 (.agg ⟨[(.slice Nw (cs).length Nu),(.slice va8 (hw).length vc8)]⟩) [4] [1,2,3] (LH++(Z++LC)) (Sub.refl _) ⟨_,_,rfl,rfl,hw,_,_,_,_,_,rfl,hI.2.2.2,fun aK hs hk=>⟨hJ.1.lq hk.right.right,hI.2.1.lq hk.left,hI.2.2.1 aK hs hk.right.left⟩,rfl⟩
 refine jd 5 [1,1]<|mO [0,4] ⟨fun z5 t6 Ti=>?_,fun z8 t9 vw=>?_,trivial⟩
 ·
  refine jn fun b4=>bD Ti [1,2]<|mO [3,4] ⟨fun z11 t12 LY=>?_,fun z14 t15 PD=>?_,trivial⟩
  ·
   refine jk (sz:=2) (ps:=[]) (qs:=cs) (enc:=oL) (w:= .slice eE cs.length ep) [0] [] [] (bC (b:=b4) (T:=130)) (fun s he _=>⟨eE,zk,zi,ep,rfl,xW,fun i p hp=>(xV i p hp).ext he⟩) (fun p _=>aj rfl) (by simp<;>omega) (fun v7 L7 iz=>?_)
   rw[List.nil_append] at iz
   obtain⟨Nw,Nu,LI⟩:=iz.form
   subst LI
   refine gX LY [[2]]<|zD 1<|aN 4 fun ams amO Gn=>jn fun b8=>bD Gn [1,2,3]<|aN 7 fun aws axm afn=>jk (sz:=4) (ps:=[]) (qs:=hv) (enc:=lZ) (w:= .slice dM hv.length dq) [0] [] [] (bC (b:=b8) (T:=133)) (fun s he _=>⟨dM,uy,ux,dq,rfl,qv,fun i p hp=>(qu i p hp).ext he⟩) (mC dr) (by simp only[List.length_nil,Nat.zero_add];omega) (fun v11 L11 pZ=>?_)
   rw[List.nil_append] at pZ
   obtain⟨aaF,aax,aeT⟩:=pZ.form
   subst aeT
   refine gX afn []<|aN 9 fun awr axl afm=>jd 1 [3]<|dV afm<|zD 1<|aN 11 fun awq axk LX=>jd 1 [3]<|dV LX<|zD 1<|bO bU ⟨(.slice Nw (cs).length Nu),L7,(.slice aaF (hv).length aax),L11⟩ ⟨iz,pZ⟩ Nat.zero_lt_one [3,1,0,2] (Sub.refl _)
  refine jn fun b8=>bD PD [1,2,3]<|aN 3 fun awp axj YM=>jk (sz:=2) (ps:=[]) (qs:=cs) (enc:=oL) (w:= .slice eE cs.length ep) [1] [] [] (bC (b:=b4) (T:=130)) (fun s he _=>⟨eE,zk,zi,ep,rfl,xW,fun i p hp=>(xV i p hp).ext he⟩) (fun p _=>aj rfl) (by simp<;>omega) (fun v7 L7 iz=>?_)
  rw[List.nil_append] at iz
  obtain⟨Nw,Nu,LI⟩:=iz.form
  subst LI
  refine gX YM [[3]]<|zD 1<|aN 7 fun awo axi afl=>jk (sz:=4) (ps:=[]) (qs:=hv) (enc:=lZ) (w:= .slice dM hv.length dq) [1] [] [] (bC (b:=b8) (T:=133)) (fun s he _=>⟨dM,uy,ux,dq,rfl,qv,fun i p hp=>(qu i p hp).ext he⟩) (mC dr) (by simp only[List.length_nil,Nat.zero_add];omega) (fun v11 L11 pZ=>?_)
  rw[List.nil_append] at pZ
  obtain⟨aaF,aax,aeT⟩:=pZ.form
  subst aeT
  refine gX afl []<|aN 9 fun awn axh Tp=>jd 1 [3]<|dV Tp<|zD 1<|aN 11 fun aUu aU5 at1=>jd 1 [3]<|dV at1<|zD 1<|bO bU ⟨(.slice Nw (cs).length Nu),L7,(.slice aaF (hv).length aax),L11⟩ ⟨iz,pZ⟩ Nat.zero_lt_one [3,1,0,2] (Sub.refl _)
 refine jn fun b8=>bD vw [1,2]<|aN 0 fun awm axg To=>jn fun b4=>bD To [1,2,3]<|aN 3 fun amr amN Ig=>jk (sz:=2) (ps:=[]) (qs:=cs) (enc:=oL) (w:= .slice eE cs.length ep) [0] [] [] (bC (b:=b4) (T:=130)) (fun s he _=>⟨eE,zk,zi,ep,rfl,xW,fun i p hp=>(xV i p hp).ext he⟩) (fun p _=>aj rfl) (by simp<;>omega) (fun v7 L7 iz=>?_)
 rw[List.nil_append] at iz
 obtain⟨Nw,Nu,LI⟩:=iz.form
 subst LI
 refine gX Ig [[3]]<|zD 1<|aN 7 fun Us UD LW=>jk (sz:=4) (ps:=[]) (qs:=hv) (enc:=lZ) (w:= .slice dM hv.length dq) [1] [] [] (bC (b:=b8) (T:=133)) (fun s he _=>⟨dM,uy,ux,dq,rfl,qv,fun i p hp=>(qu i p hp).ext he⟩) (mC dr) (by simp only[List.length_nil,Nat.zero_add];omega) (fun v11 L11 pZ=>?_)
 rw[List.nil_append] at pZ
 obtain⟨aaF,aax,aeT⟩:=pZ.form
 subst aeT
 refine gX LW []<|aN 9 fun Ur UC Gm=>jd 1 [3]<|dV Gm<|zD 1<|aN 11 fun Nm NH Gl=>jd 1 [3]<|dV Gl<|zD 1<|bO bU ⟨(.slice Nw (cs).length Nu),L7,(.slice aaF (hv).length aax),L11⟩ ⟨iz,pZ⟩ Nat.zero_lt_one [3,1,0,2] (Sub.refl _)
structure cX where
 a:Int
 b:Int
 c:Int
 d:Int
 e:Int
 f:Int
abbrev mH(x:cX):List Value:=[zI x.a,zI x.b,zI x.c,zI x.d,zI x.e,zI x.f]
def Um(K:aT)(l:List Value):Prop:=∃v0 v1 v3 v4 v5 v6 v7 vb fa fc,l=[v0,v1,.slice fa 0 fc,v3,v4,v5,v6,v7,zI K.gone,zI K.new,zI K.ai,vb]∧∀v∈[v0,v1,v3,v4,v5,v6,v7,vb],single v=true
theorem Um.all{K:aT}{l:List Value}(h:Um K l):∀v∈l,single v=true:=by
 obtain⟨v0,v1,v3,v4,v5,v6,v7,vb,fa,fc,rfl,h⟩:=h
 simp only[List.mem_cons,List.not_mem_nil,or_false] at h ⊢
 rintro v (rfl|rfl|rfl|rfl|rfl|rfl|rfl|rfl|rfl|rfl|rfl|rfl)<;>first|rfl|exact h _ (by simp)
theorem eZ{v:Value}{T:TypeId}{enc:α→List Value}{ps:List α}{L:Cells}(h:aD v sz T enc ps L):single v=true:=by
 obtain⟨a,c,rfl⟩:=h.form;rfl
theorem jV{v:Value}{enc:α→List Value}{ps:List α}{ro:Nat→Option Obj}(h:bL ro v sz enc ps):single v=true:=by
 obtain⟨a,b,o,c,rfl,_⟩:=h;rfl
theorem zb{a b c d e f g h:Value}(h1:single a=true)(h2:single b=true)(h3:single c=true)(h4:single d=true)(h5:single e=true)(h6:single f=true)(h7:single g=true)(h8:single h=true):∀v∈[a,b,c,d,e,f,g,h],single v=true:=by
 simp only[List.mem_cons,List.not_mem_nil,or_false]
 rintro v (rfl|rfl|rfl|rfl|rfl|rfl|rfl|rfl)<;>assumption
theorem gG.L{ro:Nat→Option Obj}{l:List Value}{K:aT}(h:gG ro l K):Um K l:=by
 obtain⟨v0,v1,v3,v4,v5,v6,v7,vb,fa,fc,hv,rfl,⟨_,h0,_⟩,⟨_,h1,_⟩,⟨h3,h4,_⟩,_,h5,h6,h7,hb⟩:=h
 exact⟨_,_,_,_,_,_,_,_,_,_,rfl,zb (jV h0) (jV h1) (jV h3) (jV h4) (jV h5) (jV h6) (jV h7) (jV hb)⟩
theorem n9{P:Prop}{p:α}(h:([]:List α)[i]?=some p):P:=by simp at h
theorem fu{l:List α}{a:α}(h:l[i]?=some a):l.take (i+1)=l.take i++[a]:=by
 rw[List.take_succ,h];rfl
theorem pE{R:α→β→Prop}{ws:List α}{ls:List β}{w:α}{l:β}(h:du R ws (ls.take i))(hl:ls[i]?=some l) (hr:R w l):du R (ws++[w]) (ls.take (i+1)):=by
 rw[fu hl];exact h.snoc hr
end Go.L
