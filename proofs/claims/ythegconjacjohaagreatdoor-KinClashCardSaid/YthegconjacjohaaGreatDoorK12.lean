/- Part 12 of the proof. -/
import Derived.Test.YthegconjacjohaaGreatDoorK11
set_option maxRecDepth 100000
set_option linter.all false
namespace Go.L
open Go Go.Conc Go.Proofs
variable {K:aC} {xs:List Int} {vd:Value}
theorem ang:((List.range 5).all fun N=>(dt N).all fun m=>(List.range N).all fun i=>hasB m (i:Int)==(decide (bQ (fun y=>decide (y=(i:Int))) (fB m 4) 0≥0)==true))=true:=by kernel_rfl
theorem afM{m:Int}(h:K.facts.length≤4)(hm:m∈dt K.facts.length):GU m K.facts 0=iE K.facts (fB m 4) true K.facts.length:=
 Yh fun i hi=>eq_of_beq (List.all_eq_true.1 (List.all_eq_true.1 (List.all_eq_true.1 ang K.facts.length (List.mem_range.2 (by omega))) m hm) i (List.mem_range.2 hi))
def AX(K:aC)(s:List Int):Bool:=decide (cm (BK K s true)=0)
theorem abr{m:Int}(h:K.facts.length≤4)(hm:m∈dt K.facts.length):(!zw K (cH K) m)=AX K (fB m 4):=by
 rw[IB h,afM h hm,AX,Bool.eq_iff_iff,Bool.not_eq_true',decide_eq_false_iff_not,decide_eq_true_eq]
 show ¬0 <cm (BK K (fB m 4) true)↔_
 omega
def wS(K:aC):Option (List Int):=(((List.range (K.facts.length+1)).map fun k=>ek K.facts.length k 0 (K.facts.length+1)).flatten).find? (AX K)
def zu(K:aC)(rows:List bD):Option Int:=(dt K.facts.length).find? fun m=> !zw K rows m
theorem S6(h:K.facts.length≤4):wS K=(zu K (cH K)).map fun m=>fB m 4:=by
 rw[wS,Gj _ h,Dd,zu]
 congr 1
 exact Od fun m hm=>(abr h hm).symm
theorem aaG:((List.range 5).all fun N=>(List.range 4).all fun n=>(ek N (n+1) 0 (N+1)).all fun s=>(List.range (n+1)).all fun i=>(ek N n 0 (N+1)).any fun t=>D9 t (s.take i++s.drop (i+1)))=true:=by kernel_rfl
theorem aaH{N n i:Nat}{s:List Int}(hN:N≤4)(hn:n≤3)(hs:s∈ek N (n+1) 0 (N+1))(hi:i <n+1):s.take i++s.drop (i+1)∈ek N n 0 (N+1):=by
 have h:=List.all_eq_true.1 (List.all_eq_true.1 (List.all_eq_true.1 (List.all_eq_true.1 aaG N (List.mem_range.2 (by omega))) n (List.mem_range.2 (by omega))) s hs) i (List.mem_range.2 hi)
 obtain⟨t,ht,e⟩:=List.any_eq_true.1 h
 rwa[Bs.1 e] at ht
theorem an7{l:List Value}{rows:List bD}{ro:Nat→Option Obj}(hK:fx ro l K)(hV:ee K)(hR:rows.length≤2)(hB:gN ro l K rows)(hn4:K.facts.length≤4):dG zT 8 [.agg ⟨l⟩] ro [] (fun r Y=>∃v e,r= .tuple ⟨[v,zI e]⟩∧((∃m,m∈dt K.facts.length∧zu K rows=some m∧aw v 1 3 cy (fB m 4) Y∧e=0)∨(zu K rows=none∧v= zS∧e=11∧Y=[]))):=by
 obtain⟨v0,v1,v3,v4,v5,v6,v7,vb,fa,fc,hv,rfl,_⟩:=hK
 have JO:=Lh hn4
 have R5:=JO.1
 refine zE<|zD 2<|jn fun b1=>jd 6 [0]<|jc (vs:=[.agg ⟨[v0,v1,.slice fa 0 fc,v3,v4,v5,v6,v7,zI K.gone,zI K.new,zI K.af,vb]⟩]) [] (hB _ (Sub.refl _)) ?_
 rintro _ TU ⟨f10,rfl,We⟩
 refine zD 5<|jf [0] TU (fun yN bZ iL=>?_)
 have Ao:=We _ bZ iL
 refine zD 13<|jc (vs:=[zP f10]) [] (ajT Ao hV hn4) ?_
 rintro v17 Ts ⟨_,qt,rfl⟩
 refine BQ qt<|zD 3<|dw [1,1,1,0,1,0,0] [] (fun(zz:Nat)=>[(4,zP f10),(17,v17),(18,zI ((dt K.facts.length).length:Int)),(19,zI (zz:Int))]) (fun zz=>[.l Ts,.b b1 (.cells ⟨[v0,v1,.slice fa 0 fc,v3,v4,v5,v6,v7,zI K.gone,zI K.new,zI K.af,vb]⟩ 38 (0,0))]) (fun zz=>zz≤(dt K.facts.length).length∧zu K rows=((dt K.facts.length).drop zz).find? (fun m=> !zw K rows m)) (fun zz=>(dt K.facts.length).length-zz) 0 ⟨Nat.zero_le _,rfl⟩ [0,1] ?_
 rintro k hI K1 bG rest
 refine zD 5<|zJ 20 ((k:Int) <((dt K.facts.length).length:Int)) (fun h4=>?_) fun h4=>?_
 ·
  refine zD 6 ?_
  obtain⟨tH,ko⟩:=zG ((dt K.facts.length)) k (by first|omega| (simp only[List.length_set,zM];omega))
  refine Af 1 qt ko fun b21 aiz=>ki 0 [0] Ts (fun s _ hZ=>bh qt aiz hZ ko)<|zD 6<|jc (vs:=[zP f10,.int .u8 tH]) [] (ayP Ao hV (by omega)) ?_
  rintro _ _ ⟨rfl,rfl⟩
  refine jg 0 []<|zD 2<|js 26 (!(zw K rows tH)) (fun h5=>?_) (fun h5=>?_)
  ·
   refine zD 4<|jc (vs:=[.int .u8 tH]) [] (SQ) ?_
   rintro v28 L28 ⟨_,VA,rfl⟩
   refine zD 4<|aK q0.a (.tuple ⟨[v28,zI 0]⟩) [] [0] L28 bZ ⟨_,_,rfl,rfl,_,_,rfl,.inl ⟨_,zL ko,by rw[hI.2,xG ko];simp only[*,cond_true],VA,rfl⟩⟩
  refine zD 3<|ja ((k:Int)+1) (by omega)<|zD 2<|bF bG (k+1) ⟨by omega,by rw[hI.2,xG ko];simp only[*,cond_false]⟩ (by omega) [0,1] (Sub.refl _)
 refine zD 8<|aK q0.a (.tuple ⟨[zS,zI 11]⟩) [] [] [] bZ ⟨_,_,rfl,rfl,_,_,rfl,.inr ⟨by rw[hI.2,H8 (by omega)],rfl,rfl,rfl⟩⟩
theorem WL{r:Value}{Y:Cells}(h4:K.facts.length≤4)(h:∃v e,r= .tuple ⟨[v,zI e]⟩∧((∃m,m∈dt K.facts.length∧zu K (cH K)=some m∧aw v 1 3 cy (fB m 4) Y∧e=0)∨(zu K (cH K)=none∧v= zS∧e=11∧Y=[]))):
 ∃v e S,r= .tuple ⟨[v,zI e]⟩∧aw v 1 3 cy S Y∧((wS K=some S∧e=0)∨(wS K=none∧S=[]∧e=11)):=by
 obtain⟨v,e,rfl,⟨m,hm,hw,ho,rfl⟩| ⟨hw,rfl,rfl,rfl⟩⟩:=h
 ·exact⟨v,_,_,rfl,ho,.inl ⟨by rw[S6 h4,hw];rfl,rfl⟩⟩
 exact⟨_,_,[],rfl,aw.nil _ _ _,.inr ⟨by rw[S6 h4,hw];rfl,rfl,rfl⟩⟩
theorem Ug{N n i:Nat}{s:List Int}(hN:N≤4)(hn:n≤4)(hs:s∈ek N n 0 (N+1))(hi:i <n):s.take i++s.drop (i+1)∈ek N (n-1) 0 (N+1):=by
 cases n with
 |zero=>exact absurd hi (Nat.not_lt_zero _)
 |succ n=>exact aaH hN (by omega) hs hi
theorem ay2{W:List (List Int)}{j q:Nat}{a b c:List Int}(ha:W[j]?=some a) (hb:W[j]?=some b) (hc:W[j]?=some c):b.take ((q:Nat):Int).toNat++c.drop (((q:Nat):Int)+1).toNat=a.take q++a.drop (q+1):=by
 obtain rfl:=Option.some.inj (ha.symm.trans hb)
 obtain rfl:=Option.some.inj (ha.symm.trans hc)
 rw[Int.toNat_natCast,show ((q:Int)+1).toNat=q+1 by omega]
theorem jcO{X:Cx}{o:Option JS}{α:Type}{v:Value}{sz:Nat}{enc:α→List Value}{ps:List α}{lo:Int}(hs:bB X.ro v sz enc ps)(hl:0≤lo∧lo≤ps.length)(hj:∀v',bB X.ro v' sz enc (ps.drop lo.toNat)→J X (jR v' o))(hv:dC X.n (aeI X.P X.n) o=some (v,some lo,none,sz):=by kernel_rfl):J X o:=by
 obtain⟨a,b,off,cap,rfl,h2,h3,h4⟩:=id hs
 have hp:=bB.part hs (l:=lo.toNat) (h:=ps.length) (by omega) (Nat.le_refl _)
 rw[List.take_length] at hp
 refine Ru hv (fun s p e _ hf=>?_) (hj _ hp)
 obtain⟨T,x,y,z,E,s1,bE,zz,ag,d,Ap,z2,ag2,az,tf,p9,hx,hy,hz⟩:=MN hf
 obtain⟨y,k,rfl,EJ⟩:=ma hy
 have hz:=xw hz;subst hz
 rcases p with ⟨dst,op,ty,pos,cY,g⟩
 dsimp only at az;subst az
 intro s0 ops i sr rest hw s' mT todo Q hk
 refine bR X.hC sr hw (by simp) ?_
 have hb:(0:Int)≤(ps.length:Int)∧(ps.length:Int)≤(cap:Int):=by omega
 have fL:0≤lo∧lo≤(ps.length:Int):=hl
 rw[←aX] at hk
 simp only[execOp,Option.map_some,Option.map_none,Instr.sliceAt,Instr.slice,aF (aZ (rest:=rest) hx),aF (aZ (rest:=rest) EJ),aa,a8 tf,Instr.sliceBounds,Instr.sliceBound,asIntOf,ae,hb,fL,and_self,if_true,cu p9]
 exact hk
theorem avt{ro:Nat→Option Obj}(hN:Dn ro vd xs):asK zT 3 [vd] ro (fun r Y=>r= .bool true∧Y=[]):=by
 have hN0:=hN
 obtain⟨hl,hxn⟩:=hN
 obtain⟨fy,rX,rV,eO,rfl,tT,lN,mC⟩:=hl
 refine aEC ar (by kernel_rfl) [] aW fun fr=>zD 7<|jc (vs:=[.slice fy xs.length eO]) [] (aUV hN0.1) ?_
 rintro _ X16 ⟨d16,rfl,ai5⟩
 refine jcG (vs:=[zP d16,zI 3,zI 4]) [0] (aUW hN0 ai5 (by decide) (by decide)) ?_
 rintro _ aG X18 bZ ⟨K,l,rfl,hO,uR,hK,Sq⟩
 obtain⟨v0,v1,v3,v4,v5,v6,v7,vb,va,vc,hv,rfl,_,_,_,_,_,hb,ha,hf⟩:=id hK
 obtain⟨mw,Qv,Qt,mo,rfl,Qu,O6,O5⟩:=hb
 obtain⟨lO,M9,M7,lH,rfl,M8,KH,KG⟩:=ha
 obtain⟨gP,vY,vX,fP,rfl,AM,qQ,qP⟩:=hf
 have hC:=hO.c
 have hV:=hO.v
 have aw3:=hO.ug
 have HO:=hV.before.1
 have LV:=hV.after.1
 have hf4:K.facts.length≤4:=hC.facts.1
 refine jn fun b3=>jsx 0 b3 0 zO [v0,v1,.slice va 0 vc,v3,v4,v5,.slice mw K.before.length mo,.slice lO K.after.length lH,zI K.gone,zI K.new,zI K.af,.slice gP K.facts.length fP] 38 hK.L.all rfl<|jd 4 [0]<|jc (vs:=[.agg ⟨[v0,v1,.slice va 0 vc,v3,v4,v5,.slice mw K.before.length mo,.slice lO K.after.length lH,zI K.gone,zI K.new,zI K.af,.slice gP K.facts.length fP]⟩]) [] (an7 hK hV (ox hC) (zy hK hC hV) hf4) ?_
 rintro _ YW hWp
 obtain⟨vW,eW,S,rfl,hoW,hW⟩:=WL hf4 hWp
 refine zD 12<|dw [1,1,1,0,1,0,0] [] (fun(zz:Nat)=>[(3,zP b3),(4,vW),(5,zI eW),(6,zI (zz:Int))]) (fun zz=>[.l YW,.b b3 (.cells ⟨[v0,v1,.slice va 0 vc,v3,v4,v5,.slice mw K.before.length mo,.slice lO K.after.length lH,zI K.gone,zI K.new,zI K.af,.slice gP K.facts.length fP]⟩ 38 (0,0)),.l X18,.l fr]) (fun zz=>zz≤K.facts.length+1∧wS K=(Gv K.facts.length zz).find? (AX K)∧∀m,m <zz→∀s∈ek K.facts.length m 0 (K.facts.length+1),AX K s=false) (fun zz=>K.facts.length+1-zz) 0 ⟨Nat.zero_le _,rfl,fun m h=>absurd h (Nat.not_lt_zero _)⟩ (zN 0 4) ?_
 rintro n hI K1 bG rest
 refine jd 9 [1]<|zJ 27 ((n:Int)≤(K.facts.length:Int)) (fun h2=>?_) fun h2=>?_
 ·
  refine jd 10 [1]<|jc (vs:=[zI (K.facts.length:Int),zI (n:Int)]) [] (agl (n:=K.facts.length) (k:=n) (by omega)) ?_
  rintro v34 Y34 aiX
  refine zD 5<|jf [0] Y34 (fun ro5 BR hk4=>?_)
  obtain⟨es,htS,aiC⟩:=aiX _ hk4
  obtain⟨aCz,bbj,bbh,aa8,rfl,bbi,amS,amR⟩:=htS
  have VI:=aiC.len
  have hcn:=Gk (n:=K.facts.length) (by omega) n 0 (K.facts.length+1) (by omega) (by omega) (by omega)
  replace hK:=hK.up BR
  refine zD 2<|dw [1,1,1,0,1,0,0,1,0,0,1,1,0,0] [K1] (fun(zz:Nat)=>[(3,zP b3),(4,vW),(5,zI eW),(6,zI (n:Int)),(7,.slice aCz es.length aa8),(8,zI (zz:Int))]) (fun zz=>[.l YW,.b b3 (.cells ⟨[v0,v1,.slice va 0 vc,v3,v4,v5,.slice mw K.before.length mo,.slice lO K.after.length lH,zI K.gone,zI K.new,zI K.af,.slice gP K.facts.length fP]⟩ 38 (0,0)),.l X18,.l fr]) (fun zz=>zz≤(ek K.facts.length n 0 (K.facts.length+1)).length∧wS K=((ek K.facts.length n 0 (K.facts.length+1)).drop zz++Gv K.facts.length (n+1)).find? (AX K)∧∀s∈(ek K.facts.length n 0 (K.facts.length+1)).take zz,AX K s=false) (fun zz=>(ek K.facts.length n 0 (K.facts.length+1)).length-zz) 0 ⟨Nat.zero_le _,by rw[hI.2.1,Uz (by omega)];rfl,fun s hs=>by cases hs⟩ (zN 0 4) ?_
  rintro j hJ K2 jV rest
  refine zD 8<|zJ 38 ((j:Int) <(es.length:Int)) (fun h6=>?_) fun h6=>?_
  ·
   refine jd 9 [1] ?_
   obtain⟨sJ,sa⟩:=zG es j
   refine gX aa8 1 amS sa ?_
   obtain⟨O7,VE,h46⟩:=aiC.get sa
   obtain bdC:=nA (zL VE)
   obtain⟨aDg,aN2,aNY,aDf,rfl,aN0,aN1,aNZ⟩:=h46
   refine jl 0 (amR _ _ sa)<|aS 5 fun oP oR nK=>jc (vs:=[.agg ⟨[v0,v1,.slice va 0 vc,v3,v4,v5,.slice mw K.before.length mo,.slice lO K.after.length lH,zI K.gone,zI K.new,zI K.af,.slice gP K.facts.length fP]⟩,.slice aDg O7.length aDf,.bool true]) [] (arn (b:=true) hK hC (show bB _ _ _ _ _ from ⟨aDg,aN2,aNY,aDf,rfl,aN0,aN1,aNZ⟩) (by omega)) ?_
   rintro _ _ ⟨aO2,aO1,aO0,aOZ,aOY,aOX,aOW,aOU,aOV,aOT,aVX,Z47,rfl,aFD,aGh,rfl⟩
   refine jg 0 [.l aVX,.l Z47]<|eG nK (zN 2 4)<|aS 6 fun qU qV pK=>Pa (vs:=[.agg ⟨[aO2,aO1,.slice aOV 0 aOT,aO0,aOZ,aOY,aOX,aOW,zI K.gone,zI K.new,zI K.af,aOU]⟩]) [0,1] (fun _ _ h=>h) ((Ae.frz fun ro9 Y6 hk9=>Hf (K:=BK K O7 true) (aGh _ Y6 (Knows.right hk9) _ _ (aFD.jF (Knows.left hk9))) hC.kp hV.kp)) ?_
   rintro _ _ ⟨rfl,rfl⟩
   refine jg 0 []<|gx pK []<|zD 20<|zJ 54 ((cm (BK K O7 true):Int)>0) (fun h9=>?_) fun h9=>?_
   ·
    have CW:AX K O7=false:=decide_eq_false (by omega)
    refine zD 4<|ja ((j:Int)+1) (by omega)<|zD 2<|bF jV (j+1) ⟨by omega,by rw[hJ.2.1,ZH VE,CW];rfl,fun s hs=>by rw[dP VE] at hs;rcases List.mem_append.1 hs with h|h;exact hJ.2.2 s h;rw[List.mem_singleton.1 h];exact CW⟩ (by omega) (zN 0 4) (Sub.refl _)
   have CW:AX K O7=true:=decide_eq_true (by omega)
   have hwl:wS K=some O7:=by rw[hJ.2.1,ZH VE,CW];rfl
   obtain⟨hS,he0⟩:S=O7∧eW=0:=by rcases hW with ⟨h,e⟩| ⟨h,_⟩;rw[hwl] at h;exact⟨(Option.some.inj h).symm,e⟩;rw[hwl] at h;cases h
   have hSl:S.length=O7.length:=by rw[hS]
   refine zD 8<|dw [1,1,1,0,1,0,0,1,0,0,1,1,0,0,1,0,0,1,1,1,0,1,0,0] [K1,K2] (fun(zz:Nat)=>[(3,zP b3),(4,vW),(5,zI eW),(6,zI (n:Int)),(7,.slice aCz es.length aa8),(8,zI (j:Int)),(11,zI (zz:Int))]) (fun zz=>[.l YW,.b b3 (.cells ⟨[v0,v1,.slice va 0 vc,v3,v4,v5,.slice mw K.before.length mo,.slice lO K.after.length lH,zI K.gone,zI K.new,zI K.af,.slice gP K.facts.length fP]⟩ 38 (0,0)),.l X18,.l fr]) (fun zz=>zz≤n) (fun zz=>n-zz) 0 (Nat.zero_le _) (zN 0 4) ?_
   rintro q hQ K5 hK5 rest
   refine zD 7<|zJ 57 ((q:Int) <(n:Int)) (fun EV=>?_) fun EV=>?_
   ·
    refine zD 8 ?_
    obtain⟨x62,Vl⟩:=zG es j
    refine gX aa8 1 amS Vl ?_
    obtain⟨l63,aF9,h63⟩:=aiC.get Vl
    obtain bdB:=nA (zL aF9)
    obtain⟨aNP,aNO,aNJ,aNN,rfl,aNL,aNM,aNK⟩:=h63
    refine jl 0 (amR _ _ Vl)<|zD 1<|jcH (hi:=(q:Int)) (show bB _ _ _ _ _ from ⟨aNP,aNO,aNJ,aNN,rfl,aNL,aNM,aNK⟩) (by omega) (fun v65 aQO=>?_)
    obtain⟨aqW,aCQ,aCM,aqV,rfl,aCO,aCP,aCN⟩:=aQO
    refine zD 2 ?_
    obtain⟨Ty,JI⟩:=zG es j
    refine gX aa8 1 amS JI ?_
    obtain⟨l70,aF8,h70⟩:=aiC.get JI
    obtain bdA:=nA (zL aF8)
    obtain⟨aNI,aNH,aNC,aNG,rfl,aNE,aNF,aND⟩:=h70
    refine jl 0 (amR _ _ JI)<|zD 1<|ja ((q:Int)+1) (by omega)<|jcO (lo:=((q:Int)+1)) (show bB _ _ _ _ _ from ⟨aNI,aNH,aNC,aNG,rfl,aNE,aNF,aND⟩) (by omega) (fun v73 aQN=>?_)
    obtain⟨aqU,aCL,aCI,aqT,rfl,aXf,aCK,aCJ⟩:=aQN
    refine aS 6 fun aap aaD V5=>jc (vs:=[.slice aqW ((((l63).take (q:Int).toNat)).length) aqV]) [] (Rs (show bB _ _ _ _ _ from ⟨aqW,aCQ,aCM,aqV,rfl,aCO,aCP,aCN⟩) (by simp only[List.length_take];omega)) ?_
    rintro v66 L66 ⟨_,aRf,rfl⟩
    refine eG V5 (zN 1 4)<|aS 14 fun ady aej N1=>iK (sz:=1) (ps:=((l63).take (q:Int).toNat)) (qs:=((l70).drop ((q:Int)+1).toNat)) (enc:=cy) (w:= .slice aqU ((((l70).drop ((q:Int)+1).toNat)).length) aqT) [0] [] [] (aRf) (fun s he _=>⟨aqU,aCL,aCI,aqT,rfl,aCK,fun i p hp=>(aCJ i p hp).ext he⟩) (fun p _=>ai rfl) (by simp only[List.length_take,List.length_drop];omega) (fun v74 L74 ahF=>?_)
    rw[ay2 VE aF9 aF8] at ahF
    refine gx N1 [[],[]]<|zD 4<|jf [0] L74 (fun aNa ahr ab2=>?_)
    have htL:=ahF.jF ab2
    obtain⟨aCB,aNn,aNj,aCA,rfl,aNl,aNm,aNk⟩:=htL
    have hlL:(O7.take q++O7.drop (q+1)).length≤100:=by simp only[List.length_append,List.length_take,List.length_drop];omega
    refine jd 2 [1]<|jc (vs:=[.agg ⟨[v0,v1,.slice va 0 vc,v3,v4,v5,.slice mw K.before.length mo,.slice lO K.after.length lH,zI K.gone,zI K.new,zI K.af,.slice gP K.facts.length fP]⟩,.slice aCB ((O7.take q++O7.drop (q+1)).length) aCA,.bool true]) [] (arn (b:=true) (hK.up ahr) hC (show bB _ _ _ _ _ from ⟨aCB,aNn,aNj,aCA,rfl,aNl,aNm,aNk⟩) hlL) ?_
    rintro _ _ ⟨aOS,aOR,aOQ,aOP,aOO,aON,aOM,aOK,aOL,aOJ,aVW,Z78,rfl,aFC,aGg,rfl⟩
    refine jg 0 [.l aVW,.l Z78]<|Pa (vs:=[.agg ⟨[aOS,aOR,.slice aOL 0 aOJ,aOQ,aOP,aOO,aON,aOM,zI K.gone,zI K.new,zI K.af,aOK]⟩]) [0,1] (fun _ _ h=>h) ((Ae.frz fun ro9 Y6 hk9=>Hf (K:=BK K (O7.take q++O7.drop (q+1)) true) (aGg _ Y6 (Knows.right hk9) _ _ (aFC.jF (Knows.left hk9))) hC.kp hV.kp)) ?_
    rintro _ _ ⟨rfl,rfl⟩
    refine jg 0 []<|zD 15<|zJ 87 ((cm (BK K (O7.take q++O7.drop (q+1)) true):Int)=0) (fun JY=>?_) fun JY=>?_
    ·
     exfalso;have hz:=of_decide_eq_false (hI.2.2 (n-1) (by omega) (O7.take q++O7.drop (q+1)) (Ug (by omega) (by omega) (zL VE) (by omega)));omega
    refine zD 4<|ja ((q:Int)+1) (by omega)<|zD 2<|bF hK5 (q+1) (by omega) (by omega) (zN 0 4) ahr
   refine zD 7<|js 90 (decide (eW=0)) (fun h17=>?_) (fun h17=>?_)
   ·
    have wE:=h17
    replace wE:=of_decide_eq_true wE
    refine zD 3 ?_
    obtain⟨x94,awa⟩:=zG es j
    refine gX aa8 1 amS awa ?_
    obtain⟨l95,aF7,h95⟩:=aiC.get awa
    obtain bdz:=nA (zL aF7)
    obtain⟨aDe,aNB,aNx,aDd,rfl,aNz,aNA,aNy⟩:=h95
    refine jl 0 (amR _ _ awa)<|jp (vs:=[vW,.slice aDe l95.length aDd]) [0] YW (fun aG hs hZ=>akg (hoW.jF hZ) ((show bB _ _ _ _ _ from ⟨aDe,aNB,aNx,aDd,rfl,aNz,aNA,aNy⟩).up hs) (by omega) (by omega))<|zD 2<|js 98 (D9 S l95) (fun h18=>?_) (fun h18=>?_)
    ·
     refine Pa [] (fun _ _ h=>h) (XZ) ?_
     rintro _ _ ⟨rfl,rfl⟩
     refine jg 0 []<|zD 4<|O9 qC.a.a (.bool true) [3] [] (bZ.trans BR) ⟨rfl,rfl⟩
    exfalso;have hee:D9 S l95=true:=Bs.2 (by rw[hS];exact Option.some.inj (VE.symm.trans aF7));have dI:D9 S l95=false:=(by assumption);rw[hee] at dI;cases dI
   have wE:=h17
   replace wE:=of_decide_eq_false wE
   exfalso;omega
  refine zD 4<|ja ((n:Int)+1) (by omega)<|zD 2<|bF bG (n+1) ⟨by omega,by have h3:=hJ.2.1;rwa[List.drop_eq_nil_of_le (by omega),List.nil_append] at h3,fun m hm s hs=>by rcases Nat.lt_succ_iff_lt_or_eq.1 hm with h|rfl;exact hI.2.2 m h s hs;exact hJ.2.2 s (by rw[List.take_of_length_le (by omega)];exact hs)⟩ (by omega) (zN 0 4) BR
 refine zD 3 ?_
 have hwn:wS K=none:=by rw[hI.2.1,aaW (by omega)];rfl
 obtain⟨hS,he0⟩:S=[]∧eW=11:=by rcases hW with ⟨h,e⟩| ⟨h,e⟩;rw[hwn] at h;cases h;exact e
 have hSl:S.length=0:=by rw[hS];rfl
 refine zD 4<|js 103 (decide (eW=11)) (fun ZA=>?_) (fun ZA=>?_)
 ·
  have ajq:=ZA
  replace ajq:=of_decide_eq_true ajq
  refine zD 1<|BQ hoW<|zD 3<|js 108 (decide ((S.length:Int)=0)) (fun h20=>?_) (fun h20=>?_)
  ·
   have HW:=h20
   replace HW:=of_decide_eq_true HW
   refine Pa [] (fun _ _ h=>h) (XZ) ?_
   rintro _ _ ⟨rfl,rfl⟩
   refine jg 0 []<|zD 4<|O9 qC.a (.bool true) [3] [] bZ ⟨rfl,rfl⟩
  have HW:=h20
  replace HW:=of_decide_eq_false HW
  exfalso;omega
 have ajq:=ZA
 replace ajq:=of_decide_eq_false ajq
 exfalso;omega
theorem G9(W:World)(hN:Dn (fun b=>W.heap[b]?) vd xs) {Post:Value→World→Prop}
 (Sm:∀w:World,(∀(b:Nat) (o:Obj),W.heap[b]?=some o→w.heap[b]?=some o)→w.os=W.os→w.output=W.output→Post (.bool true) w):
 ∃N last o w' t',runNT zT (N+1) (solo (G (Frame.enter zT 3 ⟨[vd]⟩ .normal) []) W) #[]=(.ended o w',t')∧runN zT N (solo (G (Frame.enter zT 3 ⟨[vd]⟩ .normal) []) W)= .next last∧step zT last= .ended o w'∧Good zT Post last o w' t':=by
 have ha:aR ⟨fun b=>W.heap[b]?,[]⟩ W:=⟨fun _ _ h=>h,(fun _ _ h=>(by cases h)),by simp,(fun _ _ h=>(by cases h))⟩
 exact aev ha (avt hN _ _ _ fun v Y w pG pJ tJ EO=>by
  obtain⟨rfl,rfl⟩:=pG
  exact Sm w (fun b o hb=>pJ.ro b o hb) tJ EO)
end Go.L
