/- Part 7 of the proof. -/
import Derived.Test.YtknkndglfcfhkaaGreatDoorW6
set_option maxRecDepth 100000
set_option linter.all false
namespace Go.L
open Go Go.Conc Go.Proofs
variable {ro aJ:Nat→Option Obj} {rs:List aY} {hd:List cd} {cs:List bP} {k b i many b1 b2 bE b3 bl bm bt br bg n b4:Nat} {f t x na nb:ByteArray} {vl vc vh vp c11 c0 c1 c5 c6 c7 vt:Value} {l:List Value} {xs ys:List ByteArray} {p:ByteArray×ByteArray} {fs:List bZ} {K:aB} {Stop:Cells→Prop} {α:Type} {af gone new lo hi:Int}
theorem ZL{i:Int}(h:mb hd i): -1≤i∧i <hd.length:=by
 rcases h with h| ⟨h0,x,h1,_⟩
 ·omega
 have:=(List.getElem?_eq_some_iff.1 h1).1
 omega
theorem SI{hv:List bB}{i:Int}{x:bB}(h:dA dw hv hd)(hi:mb hd i)(h0:i≥0)(hx:hv[i.toNat]?=some x):0≤x.cls:=by
 rcases hi with hi| ⟨_,y,h1,h2⟩
 ·omega
 obtain⟨z,h3,h4⟩:=h.get hx
 rw[h1] at h3;cases h3
 rw[h4.2.1];exact h2
theorem Ma{S:List (List aj)}{x:ah}{l:List aj}(h:aqj S hd x)(hl:S[x.st.toNat]?=some l):cw (CU x.no 0) l 0≥0:=by
 obtain⟨l',h1,h2⟩:=h.2
 rw[h1] at hl;cases hl
 have key:∀(l:List aj) (k:Nat),(⟨x.no,0⟩:aj)∈l→cw (CU x.no 0) l k≥0:=by
  intro l
  induction l with
  |nil=>intro k h;cases h
  |cons y l ih=>
   intro k h
   simp only[cw]
   cases hx:CU x.no 0 y with
   |true=>simp
   |false=>
    simp only[cond_false]
    rcases List.mem_cons.1 h with rfl|h
    ·simp[CU] at hx
    exact ih _ h
 exact key _ 0 h2
theorem agY{x:ah}(hK:fP ro l K)(hO:j6 K)(hx:aqj K.str K.hd x):dK zT 123 [.agg ⟨l⟩,.agg ⟨[.string x.name,zI x.st,zI x.no,zI x.head,.bool x.bold]⟩,.bool true] ro (zI 0):=by
 obtain⟨vS,vT,vc,vh,vr,vb,va,vf,fa,fc,hv,rfl,hS,hT,px,n6,hr,hb,ha,hf⟩:=hK
 obtain⟨ij,hs,fw⟩:=id hS
 obtain⟨iS,ht,e8⟩:=id hT
 obtain⟨hc,hh,ED⟩:=id px
 obtain⟨mB,U5,U3,lq,rfl,U4,NW,NU⟩:=hs
 obtain⟨dX,AK,AI,dB,rfl,AJ,sD,sC⟩:=ht
 obtain⟨dc,AN,AM,cY,rfl,CN,yH,yG⟩:=hc
 obtain⟨cF,rH,rG,cy,rfl,tv,pw,pn⟩:=hh
 obtain⟨kY,JD,JC,kX,rfl,P3,GY,GX⟩:=hr
 obtain⟨j7,Kb,J9,jZ,rfl,Ka,JF,JE⟩:=hb
 obtain⟨nv,N7,N2,nq,rfl,N3,LX,LW⟩:=ha
 obtain⟨jY,Ek,Ej,iP,rfl,LV,wA,wz⟩:=hf
 have Dl:=hO.rules
 have rq:=hO.before.1
 have Qe:=hO.after.1
 have Qd:=hO.facts.1
 have Qc:=hO.ways.1
 have JK:=fw.len
 have Fj:=e8.len
 have ZH:=hO.pX.two
 have hl9:=hO.di.nh
 have P2:∀(i:Nat) (p:dj),([]:List dj)[i]?=some p→cE ⟨ro,[]⟩ 0 (0+i*6) 6 (mZ p):=fun _ _ h=>oQ h
 have hNm:=hx.1.1
 have hNs:=hNm.1
 have hHd:=hx.1.2.1
 have hHl:=ZL hHd
 have hSt:=hx.1.2.2.1
 have hBd:=hx.1.2.2.2
 have hlen:=n6.len
 refine zE<|zD 2<|jn fun b3=>jn fun b4=>jd 7 [0]<|jp (vs:=[.string x.name]) [] [] (fun aH hs hZ=>(Vl (by omega) hNm.2))<|jd 27 [1,0,1]<|ja ((hv.length:Int)-1) (by omega)<|jp (vs:=[zI x.head,zI (-1),zI ((hv.length:Int)-1)]) [] [] (fun aH hs hZ=>fq)<|zD 3<|js 19 (!(iL x.head (-1) ((hv.length:Int)-1))) (fun h1=>?_) (fun h1=>?_)
 ·
  try simp only[zB] at h1
  exfalso;simp only[iL,Bool.and_eq_false_iff,decide_eq_false_iff_not] at h1;omega
 try simp only[zB] at h1
 refine jd 7 [0]<|js 33 (decide (x.head≥0)) (fun h2=>?_) (fun h2=>?_)
 ·
  have mI:=h2
  replace mI:=of_decide_eq_true mI
  refine jd 5 [1,0] ?_
  obtain⟨FI,yy⟩:=zG hv (x.head.toNat)
  refine P6 x.head cy 4 pw yy (by omega)<|zD 1<|jl 1 (pn _ _ yy)<|zD 4<|zJ 29 (FI.cls=(-1)) (fun h3=>?_) fun h3=>?_
  ·
   exfalso;have:=SI n6 hHd (by omega) yy;omega
  refine jd 8 [0]<|ja ((ij.length:Int)-1) (by omega)<|jp (vs:=[zI x.st,zI 0,zI ((ij.length:Int)-1)]) [] [] (fun aH hs hZ=>fq)<|zD 3<|js 44 (!(iL x.st 0 ((ij.length:Int)-1))) (fun h4=>?_) (fun h4=>?_)
  ·
   try simp only[zB] at h4
   exfalso;simp only[iL,Bool.and_eq_false_iff,decide_eq_false_iff_not] at h4;omega
  try simp only[zB] at h4
  refine jd 7 [0] ?_
  obtain⟨x57,Fa⟩:=zG ij (x.st.toNat)
  refine P6 x.st lq 1 NW Fa (by omega) ?_
  obtain⟨l58,aih,h58⟩:=fw.get Fa
  obtain aQt:=hO.pX.len _ (zL aih)
  obtain⟨afr,auE,auA,afq,rfl,auC,auD,auB⟩:=h58
  refine jl 0 (NU _ _ Fa)<|jd 1 [0]<|jp (vs:=[.agg ⟨[.string x.name,zI x.st,zI x.no,zI x.head,.bool x.bold]⟩]) [] [] (fun aH hs hZ=>(Zq (x:=(⟨x.name,x.st,x.no,x.head,x.bold⟩:ah))))<|zD 1<|jp (vs:=[.slice afr l58.length afq,.agg ⟨[zI x.no,zI 0]⟩]) [] [] (fun aH hs hZ=>MA ((show bD _ _ _ _ _ from ⟨afr,auE,auA,afq,rfl,auC,auD,auB⟩).up hs) (by first|omega| (simp only[List.length_set,zM];omega))) ?_
  refine zD 4<|js 44 (!(decide (cw (CU x.no 0) l58 0≥0))) (fun h5=>?_) (fun h5=>?_)
  ·
   try simp only[zB] at h5
   exfalso;have:=Ma hx aih;omega
  try simp only[zB] at h5
  refine jd 20 [0]<|js 74 x.bold (fun h6=>?_) (fun h6=>?_)
  ·
   exfalso;rw[hBd] at h6;cases h6
  refine zD 7<|zX (zI 0) ⟨rfl,rfl⟩
 have mI:=h2
 replace mI:=of_decide_eq_false mI
 refine jd 20 [0]<|ja ((ij.length:Int)-1) (by omega)<|jp (vs:=[zI x.st,zI 0,zI ((ij.length:Int)-1)]) [] [] (fun aH hs hZ=>fq)<|zD 3<|js 44 (!(iL x.st 0 ((ij.length:Int)-1))) (fun h7=>?_) (fun h7=>?_)
 ·
  try simp only[zB] at h7
  exfalso;simp only[iL,Bool.and_eq_false_iff,decide_eq_false_iff_not] at h7;omega
 try simp only[zB] at h7
 refine jd 7 [0] ?_
 obtain⟨x57,Fa⟩:=zG ij (x.st.toNat)
 refine P6 x.st lq 1 NW Fa (by omega) ?_
 obtain⟨l58,aih,h58⟩:=fw.get Fa
 obtain aQt:=hO.pX.len _ (zL aih)
 obtain⟨afr,auE,auA,afq,rfl,auC,auD,auB⟩:=h58
 refine jl 0 (NU _ _ Fa)<|jd 1 [0]<|jp (vs:=[.agg ⟨[.string x.name,zI x.st,zI x.no,zI x.head,.bool x.bold]⟩]) [] [] (fun aH hs hZ=>(Zq (x:=(⟨x.name,x.st,x.no,x.head,x.bold⟩:ah))))<|zD 1<|jp (vs:=[.slice afr l58.length afq,.agg ⟨[zI x.no,zI 0]⟩]) [] [] (fun aH hs hZ=>MA ((show bD _ _ _ _ _ from ⟨afr,auE,auA,afq,rfl,auC,auD,auB⟩).up hs) (by first|omega| (simp only[List.length_set,zM];omega))) ?_
 refine zD 4<|js 44 (!(decide (cw (CU x.no 0) l58 0≥0))) (fun h8=>?_) (fun h8=>?_)
 ·
  try simp only[zB] at h8
  exfalso;have:=Ma hx aih;omega
 try simp only[zB] at h8
 refine jd 20 [0]<|js 74 x.bold (fun h9=>?_) (fun h9=>?_)
 ·
  exfalso;rw[hBd] at h9;cases h9
 refine zD 7<|zX (zI 0) ⟨rfl,rfl⟩
theorem agZ{x:ah}(hK:fP ro l K)(hO:j6 K)(hx:aI8 K.hd x):dK zT 123 [.agg ⟨l⟩,.agg ⟨[.string x.name,zI x.st,zI x.no,zI x.head,.bool x.bold]⟩,.bool false] ro (zI 0):=by
 obtain⟨vS,vT,vc,vh,vr,vb,va,vf,fa,fc,hv,rfl,hS,hT,px,n6,hr,hb,ha,hf⟩:=hK
 obtain⟨ij,hs,fw⟩:=id hS
 obtain⟨iS,ht,e8⟩:=id hT
 obtain⟨hc,hh,ED⟩:=id px
 obtain⟨mB,U5,U3,lq,rfl,U4,NW,NU⟩:=hs
 obtain⟨dX,AK,AI,dB,rfl,AJ,sD,sC⟩:=ht
 obtain⟨dc,AN,AM,cY,rfl,CN,yH,yG⟩:=hc
 obtain⟨cF,rH,rG,cy,rfl,tv,pw,pn⟩:=hh
 obtain⟨kY,JD,JC,kX,rfl,P3,GY,GX⟩:=hr
 obtain⟨j7,Kb,J9,jZ,rfl,Ka,JF,JE⟩:=hb
 obtain⟨nv,N7,N2,nq,rfl,N3,LX,LW⟩:=ha
 obtain⟨jY,Ek,Ej,iP,rfl,LV,wA,wz⟩:=hf
 have Dl:=hO.rules
 have rq:=hO.before.1
 have Qe:=hO.after.1
 have Qd:=hO.facts.1
 have Qc:=hO.ways.1
 have JK:=fw.len
 have Fj:=e8.len
 have ZH:=hO.pX.two
 have hl9:=hO.di.nh
 have P2:∀(i:Nat) (p:dj),([]:List dj)[i]?=some p→cE ⟨ro,[]⟩ 0 (0+i*6) 6 (mZ p):=fun _ _ h=>oQ h
 have hNm:=hx.1.1
 have hNs:=hNm.1
 have hHd:=hx.1.2.1
 have hHl:=ZL hHd
 have hSt:=hx.1.2.2.1
 have hBd:=hx.1.2.2.2
 have hlen:=n6.len
 have hNo:=hx.2
 refine zE<|zD 2<|jn fun b3=>jn fun b4=>jd 7 [0]<|jp (vs:=[.string x.name]) [] [] (fun aH hs hZ=>(Vl (by omega) hNm.2))<|jd 27 [1,0,1]<|ja ((hv.length:Int)-1) (by omega)<|jp (vs:=[zI x.head,zI (-1),zI ((hv.length:Int)-1)]) [] [] (fun aH hs hZ=>fq)<|zD 3<|js 19 (!(iL x.head (-1) ((hv.length:Int)-1))) (fun h1=>?_) (fun h1=>?_)
 ·
  try simp only[zB] at h1
  exfalso;simp only[iL,Bool.and_eq_false_iff,decide_eq_false_iff_not] at h1;omega
 try simp only[zB] at h1
 refine jd 7 [0]<|js 33 (decide (x.head≥0)) (fun h2=>?_) (fun h2=>?_)
 ·
  have mI:=h2
  replace mI:=of_decide_eq_true mI
  refine jd 5 [1,0] ?_
  obtain⟨FI,yy⟩:=zG hv (x.head.toNat)
  refine P6 x.head cy 4 pw yy (by omega)<|zD 1<|jl 1 (pn _ _ yy)<|zD 4<|zJ 29 (FI.cls=(-1)) (fun h3=>?_) fun h3=>?_
  ·
   exfalso;have:=SI n6 hHd (by omega) yy;omega
  refine jd 8 [0]<|ja ((ij.length:Int)-1) (by omega)<|jp (vs:=[zI x.st,zI 0,zI ((ij.length:Int)-1)]) [] [] (fun aH hs hZ=>fq)<|zD 3<|js 44 (!(iL x.st 0 ((ij.length:Int)-1))) (fun h4=>?_) (fun h4=>?_)
  ·
   try simp only[zB] at h4
   exfalso;simp only[iL,Bool.and_eq_false_iff,decide_eq_false_iff_not] at h4;omega
  try simp only[zB] at h4
  refine jd 25 [0]<|jp (vs:=[zI x.no,zI 1,zI 40]) [] [] (fun aH hs hZ=>fq)<|zD 4<|js 65 (!(iL x.no 1 40)) (fun h5=>?_) (fun h5=>?_)
  ·
   try simp only[zB] at h5
   exfalso;simp only[iL,Bool.and_eq_false_iff,decide_eq_false_iff_not] at h5;omega
  try simp only[zB] at h5
  refine jd 7 [0]<|js 74 x.bold (fun h6=>?_) (fun h6=>?_)
  ·
   exfalso;rw[hBd] at h6;cases h6
  refine zD 7<|zX (zI 0) ⟨rfl,rfl⟩
 have mI:=h2
 replace mI:=of_decide_eq_false mI
 refine jd 20 [0]<|ja ((ij.length:Int)-1) (by omega)<|jp (vs:=[zI x.st,zI 0,zI ((ij.length:Int)-1)]) [] [] (fun aH hs hZ=>fq)<|zD 3<|js 44 (!(iL x.st 0 ((ij.length:Int)-1))) (fun h7=>?_) (fun h7=>?_)
 ·
  try simp only[zB] at h7
  exfalso;simp only[iL,Bool.and_eq_false_iff,decide_eq_false_iff_not] at h7;omega
 try simp only[zB] at h7
 refine jd 25 [0]<|jp (vs:=[zI x.no,zI 1,zI 40]) [] [] (fun aH hs hZ=>fq)<|zD 4<|js 65 (!(iL x.no 1 40)) (fun h8=>?_) (fun h8=>?_)
 ·
  try simp only[zB] at h8
  exfalso;simp only[iL,Bool.and_eq_false_iff,decide_eq_false_iff_not] at h8;omega
 try simp only[zB] at h8
 refine jd 7 [0]<|js 74 x.bold (fun h9=>?_) (fun h9=>?_)
 ·
  exfalso;rw[hBd] at h9;cases h9
 refine zD 7<|zX (zI 0) ⟨rfl,rfl⟩
theorem fP.up(h:fP ro l K)(hs:Sub ro aJ):fP aJ l K:=by
 obtain⟨vS,vT,vc,vh,vr,vb,va,vf,fa,fc,hv,rfl,h1,h2,h3,h4,h5,h6,h7,h8⟩:=h
 exact⟨_,_,_,_,_,_,_,_,_,_,_,rfl,h1.up hs,h2.up hs,h3.up hs,h4,h5.up hs,h6.up hs,h7.up hs,h8.up hs⟩
theorem ag0(hK:fP ro l K)(hO:j6 K)(hp:bD ro vp 5 cb K.before):dK zT 98 [.agg ⟨l⟩,vp,.bool true] ro (zI 0):=by
 have ZS:=hK
 obtain⟨vS,vT,vc,vh,vr,vb,va,vf,fa,fc,hv,rfl,hS,hT,px,n6,hr,hb,ha,hf⟩:=hK
 obtain⟨ij,hs,fw⟩:=id hS
 obtain⟨iS,ht,e8⟩:=id hT
 obtain⟨hc,hh,ED⟩:=id px
 obtain⟨mB,U5,U3,lq,rfl,U4,NW,NU⟩:=hs
 obtain⟨dX,AK,AI,dB,rfl,AJ,sD,sC⟩:=ht
 obtain⟨dc,AN,AM,cY,rfl,CN,yH,yG⟩:=hc
 obtain⟨cF,rH,rG,cy,rfl,tv,pw,pn⟩:=hh
 obtain⟨kY,JD,JC,kX,rfl,P3,GY,GX⟩:=hr
 obtain⟨j7,Kb,J9,jZ,rfl,Ka,JF,JE⟩:=hb
 obtain⟨nv,N7,N2,nq,rfl,N3,LX,LW⟩:=ha
 obtain⟨jY,Ek,Ej,iP,rfl,LV,wA,wz⟩:=hf
 have Dl:=hO.rules
 have rq:=hO.before.1
 have Qe:=hO.after.1
 have Qd:=hO.facts.1
 have Qc:=hO.ways.1
 have JK:=fw.len
 have Fj:=e8.len
 have ZH:=hO.pX.two
 have hl9:=hO.di.nh
 have P2:∀(i:Nat) (p:dj),([]:List dj)[i]?=some p→cE ⟨ro,[]⟩ 0 (0+i*6) 6 (mZ p):=fun _ _ h=>oQ h
 obtain⟨T3,qpb,qpo,LU,rfl,qpk,qph,qpl⟩:=hp
 refine zE<|zD 2<|jn fun b3=>zD 9<|zJ 12 ((K.before.length:Int)>4) (fun h1=>?_) fun h1=>?_
 ·
  exfalso;omega
 refine zD 10<|dV [1,1,0,1,0,0] [] (fun(zz:Nat)=>[(2,.bool true),(3,zP b3),(13,.slice T3 K.before.length LU),(14,zI (K.before.length:Int)),(15,zI (zz:Int))]) (fun zz=>[.b b3 (.cells ⟨[.slice mB ij.length lq,.slice dX iS.length dB,.slice fa 0 fc,.slice dc K.cs.length cY,.slice cF hv.length cy,.slice kY K.rules.length kX,.slice j7 K.before.length jZ,.slice nv K.after.length nq,zI K.gone,zI K.new,zI K.af,.slice jY K.facts.length iP]⟩ 40 (0,0))]) (fun zz=>zz≤K.before.length) (fun zz=>K.before.length-zz) 0 (by omega) [0] ?_
 rintro k hI K1 bO rest
 refine zD 5<|zJ 16 ((k:Int) <(K.before.length:Int)) (fun h2=>?_) fun h2=>?_
 ·
  refine zD 6 ?_
  obtain⟨XW,HM⟩:=zG K.before k
  refine iz LU 5 qph HM<|jl 0 (qpl _ _ HM)<|jn fun b8=>jd 7 [0,1,0]<|jp (vs:=[.agg ⟨[.slice mB ij.length lq,.slice dX iS.length dB,.slice fa 0 fc,.slice dc K.cs.length cY,.slice cF hv.length cy,.slice kY K.rules.length kX,.slice j7 K.before.length jZ,.slice nv K.after.length nq,zI K.gone,zI K.new,zI K.af,.slice jY K.facts.length iP]⟩,.agg ⟨[.string XW.name,zI XW.st,zI XW.no,zI XW.head,.bool XW.bold]⟩,.bool true]) [] [] (fun aH hs hZ=>(agY (x:=XW) (ZS.up hs) hO (hO.before.2 _ (zL HM))))<|zD 10<|ja ((k:Int)+1) (by omega)<|zD 2<|bA bO (k+1) (by omega) (by omega) [1] (Sub.refl _)
 refine zD 7<|zX (zI 0) ⟨rfl,rfl⟩
theorem ag1(hK:fP ro l K)(hO:j6 K)(hp:bD ro vp 5 cb K.after):dK zT 98 [.agg ⟨l⟩,vp,.bool false] ro (zI 0):=by
 have ZS:=hK
 obtain⟨vS,vT,vc,vh,vr,vb,va,vf,fa,fc,hv,rfl,hS,hT,px,n6,hr,hb,ha,hf⟩:=hK
 obtain⟨ij,hs,fw⟩:=id hS
 obtain⟨iS,ht,e8⟩:=id hT
 obtain⟨hc,hh,ED⟩:=id px
 obtain⟨mB,U5,U3,lq,rfl,U4,NW,NU⟩:=hs
 obtain⟨dX,AK,AI,dB,rfl,AJ,sD,sC⟩:=ht
 obtain⟨dc,AN,AM,cY,rfl,CN,yH,yG⟩:=hc
 obtain⟨cF,rH,rG,cy,rfl,tv,pw,pn⟩:=hh
 obtain⟨kY,JD,JC,kX,rfl,P3,GY,GX⟩:=hr
 obtain⟨j7,Kb,J9,jZ,rfl,Ka,JF,JE⟩:=hb
 obtain⟨nv,N7,N2,nq,rfl,N3,LX,LW⟩:=ha
 obtain⟨jY,Ek,Ej,iP,rfl,LV,wA,wz⟩:=hf
 have Dl:=hO.rules
 have rq:=hO.before.1
 have Qe:=hO.after.1
 have Qd:=hO.facts.1
 have Qc:=hO.ways.1
 have JK:=fw.len
 have Fj:=e8.len
 have ZH:=hO.pX.two
 have hl9:=hO.di.nh
 have P2:∀(i:Nat) (p:dj),([]:List dj)[i]?=some p→cE ⟨ro,[]⟩ 0 (0+i*6) 6 (mZ p):=fun _ _ h=>oQ h
 obtain⟨T3,qpb,qpo,LU,rfl,qpk,qph,qpl⟩:=hp
 refine zE<|zD 2<|jn fun b3=>zD 9<|zJ 12 ((K.after.length:Int)>4) (fun h1=>?_) fun h1=>?_
 ·
  exfalso;omega
 refine zD 10<|dV [1,1,0,1,0,0] [] (fun(zz:Nat)=>[(2,.bool false),(3,zP b3),(13,.slice T3 K.after.length LU),(14,zI (K.after.length:Int)),(15,zI (zz:Int))]) (fun zz=>[.b b3 (.cells ⟨[.slice mB ij.length lq,.slice dX iS.length dB,.slice fa 0 fc,.slice dc K.cs.length cY,.slice cF hv.length cy,.slice kY K.rules.length kX,.slice j7 K.before.length jZ,.slice nv K.after.length nq,zI K.gone,zI K.new,zI K.af,.slice jY K.facts.length iP]⟩ 40 (0,0))]) (fun zz=>zz≤K.after.length) (fun zz=>K.after.length-zz) 0 (by omega) [0] ?_
 rintro k hI K1 bO rest
 refine zD 5<|zJ 16 ((k:Int) <(K.after.length:Int)) (fun h2=>?_) fun h2=>?_
 ·
  refine zD 6 ?_
  obtain⟨XW,HM⟩:=zG K.after k
  refine iz LU 5 qph HM<|jl 0 (qpl _ _ HM)<|jn fun b8=>jd 7 [0,1,0]<|jp (vs:=[.agg ⟨[.slice mB ij.length lq,.slice dX iS.length dB,.slice fa 0 fc,.slice dc K.cs.length cY,.slice cF hv.length cy,.slice kY K.rules.length kX,.slice j7 K.before.length jZ,.slice nv K.after.length nq,zI K.gone,zI K.new,zI K.af,.slice jY K.facts.length iP]⟩,.agg ⟨[.string XW.name,zI XW.st,zI XW.no,zI XW.head,.bool XW.bold]⟩,.bool false]) [] [] (fun aH hs hZ=>(agZ (x:=XW) (ZS.up hs) hO (hO.after.2 _ (zL HM))))<|zD 10<|ja ((k:Int)+1) (by omega)<|zD 2<|bA bO (k+1) (by omega) (by omega) [1] (Sub.refl _)
 refine zD 7<|zX (zI 0) ⟨rfl,rfl⟩
theorem avu{x y:bZ}(hb:ro b=some (.cells ⟨[zI y.a,zI y.b,.bool y.same]⟩ 58 (0,0))):dK zT 125 [.agg ⟨[zI x.a,zI x.b,.bool x.same]⟩,zP b] ro (.bool (decide (x.a=y.a)&&decide (x.b=y.b))):=by
 refine zE<|zD 2<|jn fun b2=>jd 7 [0]<|jl (b:=b) (off:=0) (m:=3) (vs:=[zI y.a,zI y.b,.bool y.same]) 0 ⟨_,_,_,.inl hb,rfl⟩<|zD 2<|jj 6 [(3,.bool false),(15,.bool ((decide (x.a=y.a))&&(decide (x.b=y.b))))] (fun gp=>?_) (fun hj=>?_)
 rotate_left
 refine js 9 (decide (x.a=y.a)) (fun h1=>?_) (fun h1=>?_)
 ·
  have gh:=h1
  replace gh:=of_decide_eq_true gh
  refine jd 3 [0]<|jl (b:=b) (off:=0) (m:=3) (vs:=[zI y.a,zI y.b,.bool y.same]) 1 ⟨_,_,_,.inl hb,rfl⟩<|zD 2<|jw 15 (.bool ((decide (x.a=y.a))&&(decide (x.b=y.b)))) (w:= .bool (decide (x.b=y.b))) (by rw[h1]<;>rfl) ?_
  exact zK hj
 ·
  have gh:=h1
  replace gh:=of_decide_eq_false gh
  refine zD 6<|jw 15 (.bool ((decide (x.a=y.a))&&(decide (x.b=y.b)))) (w:= .bool false) (by rw[h1]<;>rfl) ?_
  exact zK hj
 refine zD 3<|zX (.bool ((decide (x.a=y.a))&&(decide (x.b=y.b)))) ⟨rfl,rfl⟩
def EY(x y:bZ):Bool:=decide (y.a=x.a)&&decide (y.b=x.b)
theorem Dv{p:α→Bool}:∀ {l:List α} {k:Nat},(∀y∈l,p y=false)→cw p l k= -1
 | [],_,_=>rfl
 |x::l,k,h=>by simp only[cw,h x (List.mem_cons_self ..),cond_false];exact Dv fun y hy=>h y (List.mem_cons_of_mem _ hy)
theorem aj8{x:bZ}(h:fs.Pairwise fun x y=>¬(x.a=y.a∧x.b=y.b))(hx:fs[i]?=some x):cw (EY x) (fs.take i) 0 <0:=by
 rw[Dv]
 ·omega
 intro y hy
 obtain⟨j,hj⟩:=List.getElem?_of_mem hy
 rw[List.getElem?_take] at hj
 split at hj
 ·rename_i AS
  have:=qB h AS hj hx
  simp only[EY,Bool.and_eq_false_iff,decide_eq_false_iff_not]
  by_cases h1:y.a=x.a
  ·exact .inr fun h2=>this ⟨h1,h2⟩
  exact .inl h1
 cases hj
theorem avL{v:Value}{x:bZ}(hf:bD ro v 3 nz fs)(hn:fs.length≤1000)(hb:ro b=some (.cells ⟨[zI x.a,zI x.b,.bool x.same]⟩ 58 (0,0))):dK zT 168 [v,.func (.func 125) ⟨[]⟩ ⟨[zP b]⟩] ro (zI (cw (EY x) fs 0)):=by
 obtain⟨jY,Ek,Ej,iP,rfl,LV,wA,wz⟩:=hf
 refine zE<|zD 12<|dV [1,0,1,0,0] [] (fun(zz:Nat)=>[(0,.slice jY fs.length iP),(1,.func (.func 125) ⟨[]⟩ ⟨[zP b]⟩),(7,zI (fs.length:Int)),(8,zI (zz:Int))]) (fun zz=>[]) (fun zz=>zz≤fs.length∧cw (EY x) fs 0=cw (EY x) (fs.drop zz) zz) (fun zz=>fs.length-zz) 0 ⟨by omega,rfl⟩ [] ?_
 rintro k hI K1 bO rest
 refine zD 5<|zJ 9 ((k:Int) <(fs.length:Int)) (fun h1=>?_) fun h1=>?_
 ·
  refine zD 14 ?_
  obtain⟨fL,eH⟩:=zG fs k
  refine iz iP 3 wA eH<|jl 0 (wz _ _ eH)<|jp (vs:=[.agg ⟨[zI fL.a,zI fL.b,.bool fL.same]⟩,zP b]) [] [] (fun aH hs hZ=>(avu (hs _ _ hb)))<|zD 1<|js 16 (EY x fL) (fun h2=>?_) (fun h2=>?_)
  ·
   refine zD 7<|zX (zI (k:Int)) ⟨by rw[hI.2,jO eH,show EY x fL=true from (by assumption)];rfl,rfl⟩
  refine zD 3<|ja ((k:Int)+1) (by omega)<|zD 2<|bA bO (k+1) ⟨by omega,by rw[hI.2,jO eH,show EY x fL=false from (by assumption)];rfl⟩ (by omega) [] (Sub.refl _)
 refine zD 7<|zX (zI (-1)) ⟨by rw[hI.2,qX (by omega)],rfl⟩
theorem aok{v:Value}{x:bZ}(hf:bD ro v 3 nz fs)(hn:fs.length≤1000)(hb:ro b=some (.cells ⟨[zI x.a,zI x.b,.bool x.same]⟩ 58 (0,0))):dK zT 124 [v,.func (.func 125) ⟨[]⟩ ⟨[zP b]⟩] ro (.bool (decide (cw (EY x) fs 0≥0))):=by
 obtain⟨jY,Ek,Ej,iP,rfl,LV,wA,wz⟩:=hf
 refine zE<|zD 8<|jp (vs:=[.slice jY fs.length iP,.func (.func 125) ⟨[]⟩ ⟨[zP b]⟩]) [] [] (fun aH hs hZ=>avL ((show bD _ _ _ _ _ from ⟨jY,Ek,Ej,iP,rfl,LV,wA,wz⟩).up hs) (by first|omega| (simp only[List.length_set,zM];omega)) (hs _ _ hb)) ?_
 refine zD 4<|zX (.bool (decide ((cw (EY x) fs 0)≥0))) ⟨rfl,rfl⟩
theorem aEL{x:bZ}(hK:fP ro l K)(hO:j6 K)(hp:bD ro vp 3 nz fs)(hn:fs.length≤1000)(hx:(0≤x.a∧x.a <K.before.length)∧(0≤x.b∧x.b <K.after.length))(hw:cw (EY x) fs 0 <0):dK zT 99 [.agg ⟨l⟩,vp,.agg ⟨[zI x.a,zI x.b,.bool x.same]⟩] ro (zI 0):=by
 obtain⟨vS,vT,vc,vh,vr,vb,va,vf,fa,fc,hv,rfl,hS,hT,px,n6,hr,hb,ha,hf⟩:=hK
 obtain⟨ij,hs,fw⟩:=id hS
 obtain⟨iS,ht,e8⟩:=id hT
 obtain⟨hc,hh,ED⟩:=id px
 obtain⟨mB,U5,U3,lq,rfl,U4,NW,NU⟩:=hs
 obtain⟨dX,AK,AI,dB,rfl,AJ,sD,sC⟩:=ht
 obtain⟨dc,AN,AM,cY,rfl,CN,yH,yG⟩:=hc
 obtain⟨cF,rH,rG,cy,rfl,tv,pw,pn⟩:=hh
 obtain⟨kY,JD,JC,kX,rfl,P3,GY,GX⟩:=hr
 obtain⟨j7,Kb,J9,jZ,rfl,Ka,JF,JE⟩:=hb
 obtain⟨nv,N7,N2,nq,rfl,N3,LX,LW⟩:=ha
 obtain⟨jY,Ek,Ej,iP,rfl,LV,wA,wz⟩:=hf
 have Dl:=hO.rules
 have rq:=hO.before.1
 have Qe:=hO.after.1
 have Qd:=hO.facts.1
 have Qc:=hO.ways.1
 have JK:=fw.len
 have Fj:=e8.len
 have ZH:=hO.pX.two
 have hl9:=hO.di.nh
 have P2:∀(i:Nat) (p:dj),([]:List dj)[i]?=some p→cE ⟨ro,[]⟩ 0 (0+i*6) 6 (mZ p):=fun _ _ h=>oQ h
 obtain⟨T3,qpb,qpo,LU,rfl,qpk,qph,qpl⟩:=hp
 refine zE<|zD 2<|jn fun b3=>jn fun b5=>jd 12 [0,1]<|ja ((K.before.length:Int)-1) (by omega)<|jp (vs:=[zI x.a,zI 0,zI ((K.before.length:Int)-1)]) [] [] (fun aH hs hZ=>fq)<|zD 3<|js 7 (!(iL x.a 0 ((K.before.length:Int)-1))) (fun h1=>?_) (fun h1=>?_)
 ·
  try simp only[zB] at h1
  exfalso;simp only[iL,Bool.and_eq_false_iff,decide_eq_false_iff_not] at h1;omega
 try simp only[zB] at h1
 refine jd 7 [0,1]<|ja ((K.after.length:Int)-1) (by omega)<|jp (vs:=[zI x.b,zI 0,zI ((K.after.length:Int)-1)]) [] [] (fun aH hs hZ=>fq)<|zD 3<|js 7 (!(iL x.b 0 ((K.after.length:Int)-1))) (fun h2=>?_) (fun h2=>?_)
 ·
  try simp only[zB] at h2
  exfalso;simp only[iL,Bool.and_eq_false_iff,decide_eq_false_iff_not] at h2;omega
 try simp only[zB] at h2
 refine zD 5<|jp (vs:=[.slice T3 fs.length LU,.func (.func 125) ⟨[]⟩ ⟨[zP b5]⟩]) [0] [(b5,.cells ⟨[zI x.a,zI x.b,.bool x.same]⟩ 58 (0,0))] (fun aH hs hZ=>aok ((show bD _ _ _ _ _ from ⟨T3,qpb,qpo,LU,rfl,qpk,qph,qpl⟩).up hs) (by first|omega| (simp only[List.length_set,zM];omega)) hZ.head) ?_
 refine zD 2<|js 24 (decide (cw (EY x) fs 0≥0)) (fun h3=>?_) (fun h3=>?_)
 ·
  exfalso;have:=of_decide_eq_true h3;omega
 refine zD 7<|zX (zI 0) ⟨rfl,rfl⟩
theorem aCx{w:ByteArray}(hs:1≤w.size∧w.size≤12)(hc:cQ w (bs [99,108,97,115,115])=false)(hf:cQ w (bs [102,105,110,105,115])=false)(hK:∀b∈w.data.toList,97≤b.toNat∧b.toNat≤122):dK zT 197 [.string w] ro (.bool true):=by
 refine zE<|zD 11<|jj 4 [(0,.string w),(2,.bool false),(12,.bool ((decide ((w.size:Int)=0))||(decide ((w.size:Int)>12))))] (fun gp=>?_) (fun hj=>?_)
 rotate_left
 refine js 8 (decide ((w.size:Int)=0)) (fun h1=>?_) (fun h1=>?_)
 ·
  have gh:=h1
  replace gh:=of_decide_eq_true gh
  refine zD 4<|jw 12 (.bool ((decide ((w.size:Int)=0))||(decide ((w.size:Int)>12)))) (w:= .bool true) (by rw[h1]<;>rfl) ?_
  exact zK hj
 ·
  have gh:=h1
  replace gh:=of_decide_eq_false gh
  refine zD 4<|jw 12 (.bool ((decide ((w.size:Int)=0))||(decide ((w.size:Int)>12)))) (w:= .bool (decide ((w.size:Int)>12))) (by rw[h1]<;>rfl) ?_
  exact zK hj
 refine zD 1<|jj 3 [(0,.string w),(2,.bool false),(16,.bool (((decide ((w.size:Int)=0))||(decide ((w.size:Int)>12)))||(cQ w (bs [99,108,97,115,115]))))] (fun gp=>?_) (fun hj=>?_)
 rotate_left
 refine js 13 ((decide ((w.size:Int)=0))||(decide ((w.size:Int)>12))) (fun h2=>?_) (fun h2=>?_)
 ·
  have mI:=h2
  try simp only[zB] at mI
  refine zD 3<|jw 16 (.bool (((decide ((w.size:Int)=0))||(decide ((w.size:Int)>12)))||(cQ w (bs [99,108,97,115,115])))) (w:= .bool true) (by rw[h2]<;>rfl) ?_
  exact zK hj
 ·
  have mI:=h2
  try simp only[zB] at mI
  refine zD 3<|jw 16 (.bool (((decide ((w.size:Int)=0))||(decide ((w.size:Int)>12)))||(cQ w (bs [99,108,97,115,115])))) (w:= .bool (cQ w (bs [99,108,97,115,115]))) (by rw[h2]<;>rfl) ?_
  exact zK hj
 refine zD 1<|jj 3 [(0,.string w),(2,.bool false),(20,.bool ((((decide ((w.size:Int)=0))||(decide ((w.size:Int)>12)))||(cQ w (bs [99,108,97,115,115])))||(cQ w (bs [102,105,110,105,115]))))] (fun gp=>?_) (fun hj=>?_)
 rotate_left
 refine js 17 (((decide ((w.size:Int)=0))||(decide ((w.size:Int)>12)))||(cQ w (bs [99,108,97,115,115]))) (fun h3=>?_) (fun h3=>?_)
 ·
  have xd:=h3
  try simp only[zB] at xd
  refine zD 3<|jw 20 (.bool ((((decide ((w.size:Int)=0))||(decide ((w.size:Int)>12)))||(cQ w (bs [99,108,97,115,115])))||(cQ w (bs [102,105,110,105,115])))) (w:= .bool true) (by rw[h3]<;>rfl) ?_
  exact zK hj
 ·
  have xd:=h3
  try simp only[zB] at xd
  refine zD 3<|jw 20 (.bool ((((decide ((w.size:Int)=0))||(decide ((w.size:Int)>12)))||(cQ w (bs [99,108,97,115,115])))||(cQ w (bs [102,105,110,105,115])))) (w:= .bool (cQ w (bs [102,105,110,105,115]))) (by rw[h3]<;>rfl) ?_
  exact zK hj
 refine zD 1<|js 20 ((((decide ((w.size:Int)=0))||(decide ((w.size:Int)>12)))||(cQ w (bs [99,108,97,115,115])))||(cQ w (bs [102,105,110,105,115]))) (fun h4=>?_) (fun h4=>?_)
 ·
  try simp only[zB] at h4
  exfalso;simp only[hc,hf,Bool.or_false,Bool.or_eq_true,decide_eq_true_eq,Bool.false_eq_true,or_false] at h4;omega
 try simp only[zB] at h4
 refine zD 6<|jn fun r22=>zD 2<|dV [1,1,0,1,0,0] [] (fun(zz:Nat)=>[(22,zP r22)]) (fun zz=>[.b r22 (.stringIter w zz)]) (fun zz=>zz≤w.data.toList.length) (fun zz=>w.data.toList.length-zz) 0 (by omega) [0] ?_
 rintro p hI K1 bO rest
 refine zD 2 ?_
 cases ace:w.data.toList[p]? with
 |some vI=>
  refine jnA r22 0 ace (by have:=hK _ (zL ace);omega) ?_
  refine zD 7 ?_
  have ZI:=hK _ (zL ace)
  refine zD 9<|jj 3 [(22,zP r22),(31,.bool ((decide ((vI.toNat:Int) <97))||(decide ((vI.toNat:Int)>122))))] (fun gp=>?_) (fun hj=>?_)
  rotate_left
  refine js 28 (decide ((vI.toNat:Int) <97)) (fun h5=>?_) (fun h5=>?_)
  ·
   have O9:=h5
   replace O9:=of_decide_eq_true O9
   refine zD 3<|jw 31 (.bool ((decide ((vI.toNat:Int) <97))||(decide ((vI.toNat:Int)>122)))) (w:= .bool true) (by rw[h5]<;>rfl) ?_
   exact zK hj
  ·
   have O9:=h5
   replace O9:=of_decide_eq_false O9
   refine zD 3<|jw 31 (.bool ((decide ((vI.toNat:Int) <97))||(decide ((vI.toNat:Int)>122)))) (w:= .bool (decide ((vI.toNat:Int)>122))) (by rw[h5]<;>rfl) ?_
   exact zK hj
  refine zD 1<|js 31 ((decide ((vI.toNat:Int) <97))||(decide ((vI.toNat:Int)>122))) (fun h6=>?_) (fun h6=>?_)
  ·
   try simp only[zB] at h6
   exfalso;omega
  try simp only[zB] at h6
  refine zD 2<|bA bO (p+1) (by have:=(List.getElem?_eq_some_iff.1 ace).1;omega) (by have:=(List.getElem?_eq_some_iff.1 ace).1;omega) [0] (Sub.refl _)
 |none=>
  refine jnZ r22 0 ace<|zD 10<|zX (.bool true) ⟨rfl,rfl⟩
def Fy(x y:bP):Bool:=cQ y.name x.name
theorem at0{x y:bP}(hb:ro b=some (.cells ⟨[.string x.name,zI x.under]⟩ 142 (0,0))):dK zT 199 [.agg ⟨[.string y.name,zI y.under]⟩,zP b] ro (.bool (cQ y.name x.name)):=by
 refine zE<|zD 2<|jn fun b2=>jd 7 [0]<|jl (b:=b) (off:=0) (m:=2) (vs:=[.string x.name,zI x.under]) 0 ⟨_,_,_,.inl hb,rfl⟩<|zD 4<|zX (.bool (cQ y.name x.name)) ⟨rfl,rfl⟩
theorem atZ{v:Value}{fs:List bP}{x:bP}(hf:bD ro v 2 pN fs)(hn:fs.length≤1000)(hb:ro b=some (.cells ⟨[.string x.name,zI x.under]⟩ 142 (0,0))):dK zT 222 [v,.func (.func 199) ⟨[]⟩ ⟨[zP b]⟩] ro (zI (cw (Fy x) fs 0)):=by
 obtain⟨jY,Ek,Ej,iP,rfl,LV,wA,wz⟩:=hf
 refine zE<|zD 12<|dV [1,0,1,0,0] [] (fun(zz:Nat)=>[(0,.slice jY fs.length iP),(1,.func (.func 199) ⟨[]⟩ ⟨[zP b]⟩),(7,zI (fs.length:Int)),(8,zI (zz:Int))]) (fun zz=>[]) (fun zz=>zz≤fs.length∧cw (Fy x) fs 0=cw (Fy x) (fs.drop zz) zz) (fun zz=>fs.length-zz) 0 ⟨by omega,rfl⟩ [] ?_
 rintro k hI K1 bO rest
 refine zD 5<|zJ 9 ((k:Int) <(fs.length:Int)) (fun h1=>?_) fun h1=>?_
 ·
  refine zD 14 ?_
  obtain⟨fL,eH⟩:=zG fs k
  refine iz iP 2 wA eH<|jl 0 (wz _ _ eH)<|jp (vs:=[.agg ⟨[.string fL.name,zI fL.under]⟩,zP b]) [] [] (fun aH hs hZ=>(at0 (y:=fL) (hs _ _ hb)))<|zD 1<|js 16 (Fy x fL) (fun h2=>?_) (fun h2=>?_)
  ·
   refine zD 7<|zX (zI (k:Int)) ⟨by rw[hI.2,jO eH,show Fy x fL=true from (by assumption)];rfl,rfl⟩
  refine zD 3<|ja ((k:Int)+1) (by omega)<|zD 2<|bA bO (k+1) ⟨by omega,by rw[hI.2,jO eH,show Fy x fL=false from (by assumption)];rfl⟩ (by omega) [] (Sub.refl _)
 refine zD 7<|zX (zI (-1)) ⟨by rw[hI.2,qX (by omega)],rfl⟩
theorem amU{v:Value}{fs:List bP}{x:bP}(hf:bD ro v 2 pN fs)(hn:fs.length≤1000)(hb:ro b=some (.cells ⟨[.string x.name,zI x.under]⟩ 142 (0,0))):dK zT 198 [v,.func (.func 199) ⟨[]⟩ ⟨[zP b]⟩] ro (.bool (decide (cw (Fy x) fs 0≥0))):=by
 obtain⟨jY,Ek,Ej,iP,rfl,LV,wA,wz⟩:=hf
 refine zE<|zD 8<|jp (vs:=[.slice jY fs.length iP,.func (.func 199) ⟨[]⟩ ⟨[zP b]⟩]) [] [] (fun aH hs hZ=>atZ ((show bD _ _ _ _ _ from ⟨jY,Ek,Ej,iP,rfl,LV,wA,wz⟩).up hs) (by first|omega| (simp only[List.length_set,zM];omega)) (hs _ _ hb)) ?_
 refine zD 4<|zX (.bool (decide ((cw (Fy x) fs 0)≥0))) ⟨rfl,rfl⟩
def hdP(x y:bB):Bool:=cQ y.word x.word
theorem aCF{x y:bB}(hb:ro b=some (.cells ⟨[.string x.word,zI x.cls,zI x.oL,x.ee]⟩ 145 (0,0))):dK zT 202 [.agg ⟨[.string y.word,zI y.cls,zI y.oL,y.ee]⟩,zP b] ro (.bool (cQ y.word x.word)):=by
 refine zE<|zD 2<|jn fun b2=>jd 7 [0]<|jl (b:=b) (off:=0) (m:=4) (vs:=[.string x.word,zI x.cls,zI x.oL,x.ee]) 0 ⟨_,_,_,.inl hb,rfl⟩<|zD 4<|zX (.bool (cQ y.word x.word)) ⟨rfl,rfl⟩
theorem aCE{v:Value}{fs:List bB}{x:bB}(hf:bD ro v 4 mw fs)(hn:fs.length≤1000)(hb:ro b=some (.cells ⟨[.string x.word,zI x.cls,zI x.oL,x.ee]⟩ 145 (0,0))):dK zT 223 [v,.func (.func 202) ⟨[]⟩ ⟨[zP b]⟩] ro (zI (cw (hdP x) fs 0)):=by
 obtain⟨jY,Ek,Ej,iP,rfl,LV,wA,wz⟩:=hf
 refine zE<|zD 12<|dV [1,0,1,0,0] [] (fun(zz:Nat)=>[(0,.slice jY fs.length iP),(1,.func (.func 202) ⟨[]⟩ ⟨[zP b]⟩),(7,zI (fs.length:Int)),(8,zI (zz:Int))]) (fun zz=>[]) (fun zz=>zz≤fs.length∧cw (hdP x) fs 0=cw (hdP x) (fs.drop zz) zz) (fun zz=>fs.length-zz) 0 ⟨by omega,rfl⟩ [] ?_
 rintro k hI K1 bO rest
 refine zD 5<|zJ 9 ((k:Int) <(fs.length:Int)) (fun h1=>?_) fun h1=>?_
 ·
  refine zD 14 ?_
  obtain⟨fL,eH⟩:=zG fs k
  refine iz iP 4 wA eH<|jl 0 (wz _ _ eH)<|jp (vs:=[.agg ⟨[.string fL.word,zI fL.cls,zI fL.oL,fL.ee]⟩,zP b]) [] [] (fun aH hs hZ=>(aCF (y:=fL) (hs _ _ hb)))<|zD 1<|js 16 (hdP x fL) (fun h2=>?_) (fun h2=>?_)
  ·
   refine zD 7<|zX (zI (k:Int)) ⟨by rw[hI.2,jO eH,show hdP x fL=true from (by assumption)];rfl,rfl⟩
  refine zD 3<|ja ((k:Int)+1) (by omega)<|zD 2<|bA bO (k+1) ⟨by omega,by rw[hI.2,jO eH,show hdP x fL=false from (by assumption)];rfl⟩ (by omega) [] (Sub.refl _)
 refine zD 7<|zX (zI (-1)) ⟨by rw[hI.2,qX (by omega)],rfl⟩
theorem atW{v:Value}{fs:List bB}{x:bB}(hf:bD ro v 4 mw fs)(hn:fs.length≤1000)(hb:ro b=some (.cells ⟨[.string x.word,zI x.cls,zI x.oL,x.ee]⟩ 145 (0,0))):dK zT 201 [v,.func (.func 202) ⟨[]⟩ ⟨[zP b]⟩] ro (.bool (decide (cw (hdP x) fs 0≥0))):=by
 obtain⟨jY,Ek,Ej,iP,rfl,LV,wA,wz⟩:=hf
 refine zE<|zD 8<|jp (vs:=[.slice jY fs.length iP,.func (.func 202) ⟨[]⟩ ⟨[zP b]⟩]) [] [] (fun aH hs hZ=>aCE ((show bD _ _ _ _ _ from ⟨jY,Ek,Ej,iP,rfl,LV,wA,wz⟩).up hs) (by first|omega| (simp only[List.length_set,zM];omega)) (hs _ _ hb)) ?_
 refine zD 4<|zX (.bool (decide ((cw (hdP x) fs 0)≥0))) ⟨rfl,rfl⟩
def A3(w:ByteArray):Bool:=Nat.ble 1 w.size&&(Nat.ble w.size 12&&(!cQ w (bs [99,108,97,115,115])&&(!cQ w (bs [102,105,110,105,115])&&w.data.toList.all fun b=>Nat.ble 97 b.toNat&&Nat.ble b.toNat 122)))
theorem aa2:∀w∈nN,A3 w=true:=List.all_eq_true.1 (by kernel_rfl)
theorem acS:∀w∈pU,A3 w=true:=List.all_eq_true.1 (by kernel_rfl)
theorem aeJ{w:ByteArray}(h:A3 w=true):dK zT 197 [.string w] ro (.bool true):=by
 simp only[A3,Bool.and_eq_true,Nat.ble_eq,Bool.not_eq_true',List.all_eq_true] at h
 exact aCx ⟨h.1,h.2.1⟩ h.2.2.1 h.2.2.2.1 h.2.2.2.2
structure lM(cs:List bP)(hd:List cd):Prop where
 nc:0 <cs.length∧cs.length≤6
 nh:hd.length≤6
 cls:∀(i:Nat) (c:bP),cs[i]?=some c→A3 c.name=true∧ -1≤c.under∧c.under <i
 names:(cs.map (·.name)).Pairwise fun a b=>cQ a b=false
 BI:∀(i:Nat) (x:cd),hd[i]?=some x→A3 x.word=true∧gN cs.length hd.length i x
 words:(hd.map (·.word)).Pairwise fun a b=>cQ a b=false∧strLt b a=false
theorem xI.v(h:xI cs hd):lM cs hd:=
 ⟨⟨h.nc.1,by have:=h.nc.2;omega⟩,by have:=h.nh;omega,fun i c hc=>⟨aa2 _ (h.cls i c hc).1,(h.cls i c hc).2⟩,h.names,fun i x hx=>⟨acS _ (h.BI i x hx).1,(h.BI i x hx).2⟩,h.words⟩
theorem Tj{p:α→α→Bool}{l:List α}{x:α}(h:l.Pairwise fun y x=>p x y=false)(hx:l[i]?=some x):cw (p x) (l.take i) 0 <0:=by
 rw[Dv]
 ·omega
 intro y hy
 obtain⟨j,hj⟩:=List.getElem?_of_mem hy
 rw[List.getElem?_take] at hj
 split at hj
 ·rename_i AS
  exact qB h AS hj hx
 cases hj
theorem ap0{x:bP}(h:lM cs hd)(hx:cs[i]?=some x):cw (Fy x) (cs.take i) 0 <0:=
 Tj (p:=Fy) (List.pairwise_map.1 h.names) hx
theorem Qu{hv:List bB}(h:dA dw hv hd):hv.map (·.word)=hd.map (·.word):=by
 induction h with
 |nil=>rfl
 |cons h1 _ ih=>simp only[List.map_cons,h1.1,ih]
theorem axT{hv:List bB}{x:bB}(h:lM cs hd)(hs:dA dw hv hd)(hx:hv[i]?=some x):cw (hdP x) (hv.take i) 0 <0:=
 Tj (p:=hdP) ((List.pairwise_map.1 (Qu hs▸h.words)).imp fun h=>h.1) hx
theorem aG0{hv:List bB}{j:Nat}{x y:bB}(h:lM cs hd)(hs:dA dw hv hd)(JM:j <i)(hx:hv[i]?=some x) (hy:hv[j]?=some y):strLt x.word y.word=false:=
 (qB (List.pairwise_map.1 (Qu hs▸h.words)) JM hy hx).2
theorem aeZ{nc nh:Nat}{x:bB}{y:cd}(h:gN nc nh i y)(hr:sg ro x y):
 (-1≤x.cls∧x.cls <nc)∧(-1≤x.oL∧x.oL <nh∧x.oL≠i)∧(y.ee.length≤nh∧y.ee.Pairwise (· < ·)∧∀z∈y.ee,0≤z∧z <nh∧z≠i)∧(x.oL≠ -1→x.cls= -1∧y.ee.length=0)∧(x.oL= -1→x.cls= -1→y.ee.length≠0):=by
 rw[hr.2.1,hr.2.2.1]
 exact⟨h.1,h.2.1,h.2.2.1,fun a=>⟨(h.2.2.2.1 a).1,by rw[(h.2.2.2.1 a).2];rfl⟩,fun a b c=>h.2.2.2.2 a b (List.eq_nil_of_length_eq_zero c)⟩
theorem at2{v:Value}(hc:bD ro v 2 pN cs)(hT:lM cs hd)(hi:i <cs.length):dK zT 163 [v,zI (i:Int)] ro (zI 0):=by
 obtain⟨dc,AN,AM,cY,rfl,CN,yH,yG⟩:=hc
 have EA:=hT.nc
 refine zE<|zD 8 ?_
 obtain⟨x8,hx8⟩:=zG cs i
 refine iz cY 2 yH hx8<|jl 0 (yG _ _ hx8)<|jn fun b5=>jd 5 [0] ?_
 have iR:=hT.cls _ _ hx8
 have hcn:cw (Fy x8) (cs.take (i:Int).toNat) 0 <0:=ap0 hT hx8
 have htk:(cs.take (i:Int).toNat).length≤cs.length:=by rw[List.length_take];omega
 refine jd 3 [0]<|jp (vs:=[.string x8.name]) [] [] (fun aH hs hZ=>(aeJ iR.1))<|zD 8<|jcH (hi:=(i:Int)) (show bD _ _ _ _ _ from ⟨dc,AN,AM,cY,rfl,CN,yH,yG⟩) (by omega) (fun v18 awu=>?_)
 obtain⟨arc,aDt,aDp,arb,rfl,aDr,aDs,aDq⟩:=awu
 refine zD 1<|jp (vs:=[.slice arc ((((cs).take (i:Int).toNat)).length) arb,.func (.func 199) ⟨[]⟩ ⟨[zP b5]⟩]) [0] [(b5,.cells ⟨[.string x8.name,zI x8.under]⟩ 142 (0,0))] (fun aH hs hZ=>amU (x:=x8) ((show bD _ _ _ _ _ from ⟨arc,aDt,aDp,arb,rfl,aDr,aDs,aDq⟩).up hs) (by first|omega| (simp only[List.length_set,zM];omega)) hZ.head) ?_
 refine zD 2<|js 15 (decide (cw (Fy x8) ((cs).take (i:Int).toNat) 0≥0)) (fun h1=>?_) (fun h1=>?_)
 ·
  exfalso;have:=of_decide_eq_true h1;omega
 refine jd 7 [0]<|ja ((cs.length:Int)-1) (by omega)<|jp (vs:=[zI x8.under,zI (-1),zI ((cs.length:Int)-1)]) [] [] (fun aH hs hZ=>jv)<|zD 3<|js 21 (!(iL x8.under (-1) ((cs.length:Int)-1))) (fun h2=>?_) (fun h2=>?_)
 ·
  try simp only[zB] at h2
  exfalso;simp only[iL,Bool.and_eq_false_iff,decide_eq_false_iff_not] at h2;omega
 try simp only[zB] at h2
 refine jd 9 [0]<|zJ 29 (x8.under≥(i:Int)) (fun h3=>?_) fun h3=>?_
 ·
  exfalso;omega
 refine zD 7<|zX (zI 0) ⟨rfl,rfl⟩
theorem aCD{hv:List bB}(hR:jA ro vc vh cs hv hd)(n6:dA dw hv hd)(hT:lM cs hd)(hi:i <hv.length):dK zT 164 [.agg ⟨[vc,vh]⟩,zI (i:Int)] ro (zI 0):=by
 obtain⟨hc,hh,dq⟩:=id hR
 obtain⟨dc,AN,AM,cY,rfl,CN,yH,yG⟩:=hc
 obtain⟨cF,rH,rG,cy,rfl,tv,pw,pn⟩:=hh
 have EA:=hT.nc
 have hnh:=hT.nh
 have hlen:=n6.len
 refine zE<|zD 2<|jn fun b2=>jd 9 [0,0] ?_
 obtain⟨fL,eH⟩:=zG hv i
 refine iz cy 4 pw eH<|jl 0 (pn _ _ eH)<|aQ 7 fun EV EZ AV=>jn fun b6=>eo AV [1]<|zD 1<|aQ 9 fun y4 ze wZ=>jsx 0 b6 0 [.string ByteArray.empty,zI 0,zI 0,zS] [.string fL.word,zI fL.cls,zI fL.oL,fL.ee] 145 (mV dq _ (zL eH)) rfl<|fp wZ<|zD 4 ?_
 obtain⟨FH,aE2,awA⟩:=dq.get eH
 obtain⟨fC,sG,sE,eO,hqe,ui,lP,mP⟩:=awA.2.2.2
 have aPi:=(hT.BI _ _ aE2).1
 have hsh:=aeZ (hT.BI _ _ aE2).2 awA
 obtain⟨bH,oS,JH,eT,hs5⟩:=hsh
 have hwb:A3 fL.word=true:=by rw[awA.1];exact aPi
 have hcn:cw (hdP fL) (hv.take (i:Int).toNat) 0 <0:=axT hT n6 eH
 have htk:(hv.take (i:Int).toNat).length≤hv.length:=by rw[List.length_take];omega
 refine jmw 0 [.b b6 (.cells ⟨[.string fL.word,zI fL.cls,zI fL.oL,.slice fC FH.ee.length eO]⟩ 145 (0,0))] (L:=[(b6,.cells ⟨[.string fL.word,zI fL.cls,zI fL.oL,fL.ee]⟩ 145 (0,0))]) (by rw[hqe];rfl) ?_
 refine jd 3 [0]<|jp (vs:=[.string fL.word]) [] [] (fun aH hs hZ=>(aeJ hwb))<|zD 8<|jcH (hi:=(i:Int)) (show bD _ _ _ _ _ from ⟨cF,rH,rG,cy,rfl,tv,pw,pn⟩) (by omega) (fun v24 aPF=>?_)
 obtain⟨ara,aDo,aDk,aq9,rfl,aDm,aDn,aDl⟩:=aPF
 refine zD 1<|jp (vs:=[.slice ara ((((hv).take (i:Int).toNat)).length) aq9,.func (.func 202) ⟨[]⟩ ⟨[zP b6]⟩]) [0] [(b6,.cells ⟨[.string fL.word,zI fL.cls,zI fL.oL,.slice fC FH.ee.length eO]⟩ 145 (0,0))] (fun aH hs hZ=>atW (x:=fL) ((show bD _ _ _ _ _ from ⟨ara,aDo,aDk,aq9,rfl,aDm,aDn,aDl⟩).up hs) (by first|omega| (simp only[List.length_set,zM];omega)) (by rw[hqe];exact hZ.head)) ?_
 refine zD 2<|js 21 (decide (cw (hdP fL) ((hv).take (i:Int).toNat) 0≥0)) (fun h3=>?_) (fun h3=>?_)
 ·
  exfalso;have:=of_decide_eq_true h3;omega
 refine zD 6<|js 2 (decide ((i:Int)>0)) (fun h4=>?_) (fun h4=>?_)
 ·
  have yP:=h4
  replace yP:=of_decide_eq_true yP
  refine jd 4 [0]<|ja ((i:Int)-1) (by omega) ?_
  obtain⟨x36,Ab⟩:=zG hv (((i:Int)-1).toNat)
  refine P6 ((i:Int)-1) cy 4 pw Ab (by omega)<|zD 1<|jl 0 (pn _ _ Ab)<|zD 4<|js 27 (strLt fL.word x36.word) (fun h5=>?_) (fun h5=>?_)
  ·
   exfalso;rw[aG0 hT n6 (by omega) eH Ab] at h5;cases h5
  refine jd 9 [0,1]<|ja ((cs.length:Int)-1) (by omega)<|jp (vs:=[zI fL.cls,zI (-1),zI ((cs.length:Int)-1)]) [] [] (fun aH hs hZ=>jv)<|zD 3<|js 41 (!(iL fL.cls (-1) ((cs.length:Int)-1))) (fun h6=>?_) (fun h6=>?_)
  ·
   try simp only[zB] at h6
   exfalso;simp only[iL,Bool.and_eq_false_iff,decide_eq_false_iff_not] at h6;omega
  try simp only[zB] at h6
  refine jd 6 [0]<|ja ((hv.length:Int)-1) (by omega)<|jp (vs:=[zI fL.oL,zI (-1),zI ((hv.length:Int)-1)]) [] [] (fun aH hs hZ=>jv)<|zD 3<|js 41 (!(iL fL.oL (-1) ((hv.length:Int)-1))) (fun h7=>?_) (fun h7=>?_)
  ·
   try simp only[zB] at h7
   exfalso;simp only[iL,Bool.and_eq_false_iff,decide_eq_false_iff_not] at h7;omega
  try simp only[zB] at h7
  refine jd 9 [0]<|zJ 57 (fL.oL=(i:Int)) (fun h8=>?_) fun h8=>?_
  ·
   exfalso;omega
  refine jd 11 [0]<|dV [1,1,1,0,1,0,0] [] (fun(zz:Nat)=>[(1,zI (i:Int)),(5,.slice cF hv.length cy),(6,zP b6),(63,.slice fC FH.ee.length eO),(64,zI (FH.ee.length:Int)),(65,zI (zz:Int))]) (fun zz=>[.b b6 (.cells ⟨[.string fL.word,zI fL.cls,zI fL.oL,.slice fC FH.ee.length eO]⟩ 145 (0,0))]) (fun zz=>zz≤FH.ee.length) (fun zz=>FH.ee.length-zz) 0 (by omega) [0] ?_
  rintro k hI K3 hK3 rest
  refine zD 5<|zJ 66 ((k:Int) <(FH.ee.length:Int)) (fun h9=>?_) fun h9=>?_
  ·
   refine zD 7 ?_
   obtain⟨x68,OI⟩:=zG FH.ee k
   refine iz eO 1 lP OI<|jl 0 (mP _ _ OI)<|zD 5 ?_
   have aR8:=JH.2.2 _ (zL OI)
   refine zD 4<|ja ((hv.length:Int)-1) (by omega)<|jp (vs:=[zI x68,zI 0,zI ((hv.length:Int)-1)]) [] [] (fun aH hs hZ=>jv)<|zD 3<|js 70 (!(iL x68 0 ((hv.length:Int)-1))) (fun Iz=>?_) (fun Iz=>?_)
   ·
    try simp only[zB] at Iz
    exfalso;simp only[iL,Bool.and_eq_false_iff,decide_eq_false_iff_not] at Iz;omega
   try simp only[zB] at Iz
   refine zD 8<|zJ 77 (x68=(i:Int)) (fun S0=>?_) fun S0=>?_
   ·
    exfalso;omega
   refine zD 6<|js 84 (decide ((k:Int)>0)) (fun JU=>?_) (fun JU=>?_)
   ·
    have ajL:=JU
    replace ajL:=of_decide_eq_true ajL
    refine jd 4 [0]<|ja ((k:Int)-1) (by omega) ?_
    obtain⟨x90,VE⟩:=zG FH.ee (((k:Int)-1).toNat)
    refine P6 ((k:Int)-1) eO 1 lP VE (by omega)<|jl 0 (mP _ _ VE)<|zD 4<|zJ 81 (x68≤x90) (fun Cn=>?_) fun Cn=>?_
    ·
     exfalso;have:=qB JH.2.1 (show ((k:Int)-1).toNat <k by omega) VE OI;omega
    refine zD 3<|ja ((k:Int)+1) (by omega)<|zD 2<|bA hK3 (k+1) (by omega) (by omega) [0] (Sub.refl _)
   have ajL:=JU
   replace ajL:=of_decide_eq_false ajL
   refine zD 14<|ja ((k:Int)+1) (by omega)<|zD 2<|bA hK3 (k+1) (by omega) (by omega) [0] (Sub.refl _)
  refine jd 9 [0]<|js 98 (!decide (fL.oL=(-1))) (fun h14=>?_) (fun h14=>?_)
  ·
   have ajJ:=h14
   replace ajJ:=of_decide_eq_false (by simpa using ajJ)
   refine jd 4 [0]<|js 102 (!decide (fL.cls=(-1))) (fun Ft=>?_) (fun Ft=>?_)
   ·
    have Iy:=Ft
    replace Iy:=of_decide_eq_false (by simpa using Iy)
    refine zD 29 ?_
    exfalso;omega
   have Iy:=Ft
   replace Iy:=of_decide_eq_true (by simpa using Iy)
   refine jd 7 [0]<|js 109 (decide ((FH.ee.length:Int)>0)) (fun WN=>?_) (fun WN=>?_)
   ·
    have ajI:=WN
    replace ajI:=of_decide_eq_true ajI
    refine zD 22 ?_
    exfalso;omega
   have ajI:=WN
   replace ajI:=of_decide_eq_false ajI
   refine jd 4 [0]<|js 113 (decide (fL.oL=(-1))) (fun h17=>?_) (fun h17=>?_)
   ·
    have Ix:=h17
    replace Ix:=of_decide_eq_true Ix
    refine jd 5 [0]<|js 118 (decide (fL.cls=(-1))) (fun SZ=>?_) (fun SZ=>?_)
    ·
     have ajH:=SZ
     replace ajH:=of_decide_eq_true ajH
     refine jd 7 [0]<|zJ 124 ((FH.ee.length:Int)=0) (fun ZZ=>?_) fun ZZ=>?_
     ·
      exfalso;(try simp only[Bool.or_eq_true,Bool.and_eq_true,decide_eq_true_eq,Bool.not_eq_true',decide_eq_false_iff_not] at ZZ);omega
     refine zD 7<|zX (zI 0) ⟨rfl,rfl⟩
    have ajH:=SZ
    replace ajH:=of_decide_eq_false ajH
    refine zD 14<|zX (zI 0) ⟨rfl,rfl⟩
   have Ix:=h17
   replace Ix:=of_decide_eq_false Ix
   refine zD 19<|zX (zI 0) ⟨rfl,rfl⟩
  have ajJ:=h14
  replace ajJ:=of_decide_eq_true (by simpa using ajJ)
  refine jd 15 [0]<|js 113 (decide (fL.oL=(-1))) (fun h20=>?_) (fun h20=>?_)
  ·
   have ajG:=h20
   replace ajG:=of_decide_eq_true ajG
   refine jd 5 [0]<|js 118 (decide (fL.cls=(-1))) (fun h21=>?_) (fun h21=>?_)
   ·
    have ajF:=h21
    replace ajF:=of_decide_eq_true ajF
    refine jd 7 [0]<|zJ 124 ((FH.ee.length:Int)=0) (fun AW=>?_) fun AW=>?_
    ·
     exfalso;(try simp only[Bool.or_eq_true,Bool.and_eq_true,decide_eq_true_eq,Bool.not_eq_true',decide_eq_false_iff_not] at AW);omega
    refine zD 7<|zX (zI 0) ⟨rfl,rfl⟩
   have ajF:=h21
   replace ajF:=of_decide_eq_false ajF
   refine zD 14<|zX (zI 0) ⟨rfl,rfl⟩
  have ajG:=h20
  replace ajG:=of_decide_eq_false ajG
  refine zD 19<|zX (zI 0) ⟨rfl,rfl⟩
 have yP:=h4
 replace yP:=of_decide_eq_false yP
 refine jd 21 [0,1]<|ja ((cs.length:Int)-1) (by omega)<|jp (vs:=[zI fL.cls,zI (-1),zI ((cs.length:Int)-1)]) [] [] (fun aH hs hZ=>jv)<|zD 3<|js 41 (!(iL fL.cls (-1) ((cs.length:Int)-1))) (fun vN=>?_) (fun vN=>?_)
 ·
  try simp only[zB] at vN
  exfalso;simp only[iL,Bool.and_eq_false_iff,decide_eq_false_iff_not] at vN;omega
 try simp only[zB] at vN
 refine jd 6 [0]<|ja ((hv.length:Int)-1) (by omega)<|jp (vs:=[zI fL.oL,zI (-1),zI ((hv.length:Int)-1)]) [] [] (fun aH hs hZ=>jv)<|zD 3<|js 41 (!(iL fL.oL (-1) ((hv.length:Int)-1))) (fun ZY=>?_) (fun ZY=>?_)
 ·
  try simp only[zB] at ZY
  exfalso;simp only[iL,Bool.and_eq_false_iff,decide_eq_false_iff_not] at ZY;omega
 try simp only[zB] at ZY
 refine jd 9 [0]<|zJ 57 (fL.oL=(i:Int)) (fun h25=>?_) fun h25=>?_
 ·
  exfalso;omega
 refine jd 11 [0]<|dV [1,1,1,0,1,0,0] [] (fun(zz:Nat)=>[(1,zI (i:Int)),(5,.slice cF hv.length cy),(6,zP b6),(63,.slice fC FH.ee.length eO),(64,zI (FH.ee.length:Int)),(65,zI (zz:Int))]) (fun zz=>[.b b6 (.cells ⟨[.string fL.word,zI fL.cls,zI fL.oL,.slice fC FH.ee.length eO]⟩ 145 (0,0))]) (fun zz=>zz≤FH.ee.length) (fun zz=>FH.ee.length-zz) 0 (by omega) [0] ?_
 rintro k hI K4 hK4 rest
 refine zD 5<|zJ 66 ((k:Int) <(FH.ee.length:Int)) (fun SY=>?_) fun SY=>?_
 ·
  refine zD 7 ?_
  obtain⟨x68,OI⟩:=zG FH.ee k
  refine iz eO 1 lP OI<|jl 0 (mP _ _ OI)<|zD 5 ?_
  have aR8:=JH.2.2 _ (zL OI)
  refine zD 4<|ja ((hv.length:Int)-1) (by omega)<|jp (vs:=[zI x68,zI 0,zI ((hv.length:Int)-1)]) [] [] (fun aH hs hZ=>jv)<|zD 3<|js 70 (!(iL x68 0 ((hv.length:Int)-1))) (fun ZX=>?_) (fun ZX=>?_)
  ·
   try simp only[zB] at ZX
   exfalso;simp only[iL,Bool.and_eq_false_iff,decide_eq_false_iff_not] at ZX;omega
  try simp only[zB] at ZX
  refine zD 8<|zJ 77 (x68=(i:Int)) (fun SX=>?_) fun SX=>?_
  ·
   exfalso;omega
  refine zD 6<|js 84 (decide ((k:Int)>0)) (fun h29=>?_) (fun h29=>?_)
  ·
   have ajD:=h29
   replace ajD:=of_decide_eq_true ajD
   refine jd 4 [0]<|ja ((k:Int)-1) (by omega) ?_
   obtain⟨x90,VE⟩:=zG FH.ee (((k:Int)-1).toNat)
   refine P6 ((k:Int)-1) eO 1 lP VE (by omega)<|jl 0 (mP _ _ VE)<|zD 4<|zJ 81 (x68≤x90) (fun ZW=>?_) fun ZW=>?_
   ·
    exfalso;have:=qB JH.2.1 (show ((k:Int)-1).toNat <k by omega) VE OI;omega
   refine zD 3<|ja ((k:Int)+1) (by omega)<|zD 2<|bA hK4 (k+1) (by omega) (by omega) [0] (Sub.refl _)
  have ajD:=h29
  replace ajD:=of_decide_eq_false ajD
  refine zD 14<|ja ((k:Int)+1) (by omega)<|zD 2<|bA hK4 (k+1) (by omega) (by omega) [0] (Sub.refl _)
 refine jd 9 [0]<|js 98 (!decide (fL.oL=(-1))) (fun ZV=>?_) (fun ZV=>?_)
 ·
  have ajC:=ZV
  replace ajC:=of_decide_eq_false (by simpa using ajC)
  refine jd 4 [0]<|js 102 (!decide (fL.cls=(-1))) (fun h32=>?_) (fun h32=>?_)
  ·
   have ajB:=h32
   replace ajB:=of_decide_eq_false (by simpa using ajB)
   refine zD 29 ?_
   exfalso;omega
  have ajB:=h32
  replace ajB:=of_decide_eq_true (by simpa using ajB)
  refine jd 7 [0]<|js 109 (decide ((FH.ee.length:Int)>0)) (fun h33=>?_) (fun h33=>?_)
  ·
   have ajA:=h33
   replace ajA:=of_decide_eq_true ajA
   refine zD 22 ?_
   exfalso;omega
  have ajA:=h33
  replace ajA:=of_decide_eq_false ajA
  refine jd 4 [0]<|js 113 (decide (fL.oL=(-1))) (fun h34=>?_) (fun h34=>?_)
  ·
   have ajz:=h34
   replace ajz:=of_decide_eq_true ajz
   refine jd 5 [0]<|js 118 (decide (fL.cls=(-1))) (fun WM=>?_) (fun WM=>?_)
   ·
    have ajy:=WM
    replace ajy:=of_decide_eq_true ajy
    refine jd 7 [0]<|zJ 124 ((FH.ee.length:Int)=0) (fun ZU=>?_) fun ZU=>?_
    ·
     exfalso;(try simp only[Bool.or_eq_true,Bool.and_eq_true,decide_eq_true_eq,Bool.not_eq_true',decide_eq_false_iff_not] at ZU);omega
    refine zD 7<|zX (zI 0) ⟨rfl,rfl⟩
   have ajy:=WM
   replace ajy:=of_decide_eq_false ajy
   refine zD 14<|zX (zI 0) ⟨rfl,rfl⟩
  have ajz:=h34
  replace ajz:=of_decide_eq_false ajz
  refine zD 19<|zX (zI 0) ⟨rfl,rfl⟩
 have ajC:=ZV
 replace ajC:=of_decide_eq_true (by simpa using ajC)
 refine jd 15 [0]<|js 113 (decide (fL.oL=(-1))) (fun h37=>?_) (fun h37=>?_)
 ·
  have ajx:=h37
  replace ajx:=of_decide_eq_true ajx
  refine jd 5 [0]<|js 118 (decide (fL.cls=(-1))) (fun h38=>?_) (fun h38=>?_)
  ·
   have ajw:=h38
   replace ajw:=of_decide_eq_true ajw
   refine jd 7 [0]<|zJ 124 ((FH.ee.length:Int)=0) (fun Uf=>?_) fun Uf=>?_
   ·
    exfalso;(try simp only[Bool.or_eq_true,Bool.and_eq_true,decide_eq_true_eq,Bool.not_eq_true',decide_eq_false_iff_not] at Uf);omega
   refine zD 7<|zX (zI 0) ⟨rfl,rfl⟩
  have ajw:=h38
  replace ajw:=of_decide_eq_false ajw
  refine zD 14<|zX (zI 0) ⟨rfl,rfl⟩
 have ajx:=h37
 replace ajx:=of_decide_eq_false ajx
 refine zD 19<|zX (zI 0) ⟨rfl,rfl⟩
theorem Yj{hv:List bB}(hR:jA ro vc vh cs hv hd)(n6:dA dw hv hd)(hT:lM cs hd):dK zT 121 [.agg ⟨[vc,vh]⟩] ro (zI 0):=by
 obtain⟨hc,hh,dq⟩:=id hR
 obtain⟨dc,AN,AM,cY,rfl,CN,yH,yG⟩:=hc
 obtain⟨cF,rH,rG,cy,rfl,tv,pw,pn⟩:=hh
 have EA:=hT.nc
 have hnh:=hT.nh
 have hlen:=n6.len
 refine zE<|zD 2<|jn fun b1=>jd 10 [0]<|jj 5 [(1,zP b1),(2,zI 0),(16,.bool ((decide ((cs.length:Int)>6))||(decide ((hv.length:Int)>6))))] (fun gp=>?_) (fun hj=>?_)
 rotate_left
 refine js 11 (decide ((cs.length:Int)>6)) (fun h1=>?_) (fun h1=>?_)
 ·
  have gh:=h1
  replace gh:=of_decide_eq_true gh
  refine zD 5<|jw 16 (.bool ((decide ((cs.length:Int)>6))||(decide ((hv.length:Int)>6)))) (w:= .bool true) (by rw[h1]<;>rfl) ?_
  exact zK hj
 ·
  have gh:=h1
  replace gh:=of_decide_eq_false gh
  refine jd 5 [0]<|jw 16 (.bool ((decide ((cs.length:Int)>6))||(decide ((hv.length:Int)>6)))) (w:= .bool (decide ((hv.length:Int)>6))) (by rw[h1]<;>rfl) ?_
  exact zK hj
 refine zD 1<|js 16 ((decide ((cs.length:Int)>6))||(decide ((hv.length:Int)>6))) (fun h2=>?_) (fun h2=>?_)
 ·
  try simp only[zB] at h2
  exfalso;omega
 try simp only[zB] at h2
 refine jd 11 [0]<|dV [1,1,0,1,0,0] [] (fun(zz:Nat)=>[(1,zP b1),(19,zI (cs.length:Int)),(20,zI (zz:Int))]) (fun zz=>[.b b1 (.cells ⟨[.slice dc cs.length cY,.slice cF hv.length cy]⟩ 35 (0,0))]) (fun zz=>zz≤cs.length) (fun zz=>cs.length-zz) 0 (by omega) [0] ?_
 rintro k hI K1 bO rest
 refine zD 5<|zJ 21 ((k:Int) <(cs.length:Int)) (fun h3=>?_) fun h3=>?_
 ·
  refine jd 14 [0]<|jp (vs:=[.slice dc cs.length cY,zI (k:Int)]) [] [] (fun aH hs hZ=>at2 ((show bD _ _ _ _ _ from ⟨dc,AN,AM,cY,rfl,CN,yH,yG⟩).up hs) hT (by omega))<|zD 10<|ja ((k:Int)+1) (by omega)<|zD 2<|bA bO (k+1) (by omega) (by omega) [0] (Sub.refl _)
 refine jd 11 [0]<|dV [1,1,1,0,1,0,0] [] (fun(zz:Nat)=>[(1,zP b1),(33,zI (hv.length:Int)),(34,zI (zz:Int))]) (fun zz=>[.b b1 (.cells ⟨[.slice dc cs.length cY,.slice cF hv.length cy]⟩ 35 (0,0))]) (fun zz=>zz≤hv.length) (fun zz=>hv.length-zz) 0 (by omega) [0] ?_
 rintro j hJ K2 mr rest
 refine zD 5<|zJ 35 ((j:Int) <(hv.length:Int)) (fun h4=>?_) fun h4=>?_
 ·
  refine jd 13 [0]<|jp (vs:=[.agg ⟨[.slice dc cs.length cY,.slice cF hv.length cy]⟩,zI (j:Int)]) [] [] (fun aH hs hZ=>(aCD (hR.up hs) n6 hT (by omega)))<|zD 10<|ja ((j:Int)+1) (by omega)<|zD 2<|bA mr (j+1) (by omega) (by omega) [0] (Sub.refl _)
 refine zD 7<|zX (zI 0) ⟨rfl,rfl⟩
theorem at3{hv:List bB}(hR:jA ro vc vh cs hv hd)(n6:dA dw hv hd)(hT:lM cs hd):dK zT 96 [.agg ⟨[vc,vh]⟩] ro (zI 0):=by
 obtain⟨hc,hh,dq⟩:=id hR
 obtain⟨dc,AN,AM,cY,rfl,CN,yH,yG⟩:=hc
 obtain⟨cF,rH,rG,cy,rfl,tv,pw,pn⟩:=hh
 have EA:=hT.nc
 have hnh:=hT.nh
 have hlen:=n6.len
 refine zE<|zD 2<|jn fun b1=>jd 5 [0]<|jp (vs:=[.agg ⟨[.slice dc cs.length cY,.slice cF hv.length cy]⟩]) [] [] (fun aH hs hZ=>(Yj (hR.up hs) n6 hT))<|zD 3<|zX (zI 0) ⟨rfl,rfl⟩
def KH(a b:ByteArray):Int:=bif strLt a b then-1 else bif !(strLt a b||cQ a b) then 1 else 0
def Px:List ByteArray→List ByteArray→Int
 | [],[]=>0
 | [],_::_=> -1
 |_::_,[]=>1
 |x::xs,y::ys=>if KH x y=0 then Px xs ys else KH x y
theorem aal{y:ByteArray}(hx:xs[k]?=some x) (hy:ys[k]?=some y):Px (xs.drop k) (ys.drop k)=if KH x y=0 then Px (xs.drop (k+1)) (ys.drop (k+1)) else KH x y:=by rw[eX hx,eX hy];rfl
theorem akI(hx:xs[k]?=some x) (hy:¬k <ys.length):Px (xs.drop k) (ys.drop k)=1:=by rw[eX hx,eE hy];rfl
theorem Tw(hx:¬k <xs.length):Px (xs.drop k) (ys.drop k)=if k <ys.length then-1 else 0:=by
 rw[eE hx]
 split
 ·rename_i h
  rw[List.drop_eq_getElem_cons h];rfl
 rename_i h
 rw[eE h];rfl
def qD(s p:ByteArray):Bool:=decide (s.size≥p.size)&&cQ (s.extract 0 p.size) p
structure ar where
 h:Int
 n:Int
 l:Int
abbrev cN(x:ar):List Value:=[zI x.h,zI x.n,zI x.l]
def mh(h n l:Int)(y:ar):Bool:=h==y.h&&(n==y.n&&(l==y.l&&true)&&true)
theorem aIp{a:ByteArray}:dK zT 273 [.string a] ro (.bool false):=by
 refine zE<|zD 12<|zX (.bool (!(cQ a a))) ⟨by rw[qi.2 rfl];rfl,rfl⟩
theorem aTy{a b:ByteArray}:dK zT 249 [.string a,.string b] ro (zI (KH a b)):=by
 refine zE<|zD 7<|jp (vs:=[.string a]) [] [] (fun aH hs hZ=>aIp)<|zD 5<|jp (vs:=[.string b]) [] [] (fun aH hs hZ=>aIp)<|zD 23<|js 16 (strLt a b) (fun h1=>?_) (fun h1=>?_)
 ·
  refine zD 6<|zX (zI (-1)) ⟨by simp_all[KH],rfl⟩
 refine zD 9<|js 19 (!(strLt a b||cQ a b)) (fun h2=>?_) (fun h2=>?_)
 ·
  try simp only[zB] at h2
  refine zD 6<|zX (zI 1) ⟨by simp_all[KH],rfl⟩
 try simp only[zB] at h2
 refine zD 7<|zX (zI 0) ⟨by simp_all[KH],rfl⟩
theorem aMI{v w:Value}(hv:bD ro v 1 qd xs)(hw:bD ro w 1 qd ys)(hx:xs.length≤1000)(hy:ys.length≤1000):dK zT 228 [v,w] ro (zI (Px xs ys)):=by
 obtain⟨NR,qvb,qvo,Cj,rfl,qvk,Q9,Q8⟩:=hv
 obtain⟨U2,qwb,qwo,NQ,rfl,qwk,qwh,qwl⟩:=hw
 refine zE<|zD 12<|dV [1,0,1,0,0] [] (fun(zz:Nat)=>[(0,.slice NR xs.length Cj),(1,.slice U2 ys.length NQ),(9,.slice NR xs.length Cj),(10,zI (xs.length:Int)),(11,zI (zz:Int))]) (fun zz=>[]) (fun zz=>(zz≤xs.length∧zz≤ys.length)∧Px xs ys=Px (xs.drop zz) (ys.drop zz)) (fun zz=>xs.length-zz) 0 ⟨by omega,rfl⟩ [] ?_
 rintro k hI K1 bO rest
 refine zD 5<|zJ 12 ((k:Int) <(xs.length:Int)) (fun h1=>?_) fun h1=>?_
 ·
  refine zD 7 ?_
  obtain⟨fL,eH⟩:=zG xs k
  refine iz Cj 1 Q9 eH<|jl 0 (Q8 _ _ eH)<|zD 11<|zJ 19 ((k:Int)≥(ys.length:Int)) (fun h2=>?_) fun h2=>?_
  ·
   refine zD 6<|zX (zI 1) ⟨by rw[hI.2,akI eH (by omega)],rfl⟩
  refine zD 6 ?_
  obtain⟨sU,uF⟩:=zG ys k
  refine iz NQ 1 qwh uF<|jl 0 (qwl _ _ uF)<|zD 6<|jp (vs:=[.string fL,.string sU]) [] [] (fun aH hs hZ=>aTy)<|zD 7<|js 28 (!decide ((KH fL sU)=0)) (fun h3=>?_) (fun h3=>?_)
  ·
   replace h3:=of_decide_eq_false (by simpa using h3)
   refine zD 7<|zX (zI (KH fL sU)) ⟨by rw[hI.2,aal eH uF,if_neg (by omega)],rfl⟩
  replace h3:=of_decide_eq_true (by simpa using h3)
  refine zD 3<|ja ((k:Int)+1) (by omega)<|zD 2<|bA bO (k+1) ⟨by omega,by rw[hI.2,aal eH uF,if_pos (by omega)]⟩ (by omega) [] (Sub.refl _)
 refine zD 11<|zJ 35 ((xs.length:Int) <(ys.length:Int)) (fun h4=>?_) fun h4=>?_
 ·
  refine zD 6<|zX (zI (-1)) ⟨by rw[hI.2,Tw (by omega),if_pos (by omega)],rfl⟩
 refine zD 7<|zX (zI 0) ⟨by rw[hI.2,Tw (by omega),if_neg (by omega)],rfl⟩
theorem acm{a b:ByteArray}(hn:a.size≤1000∧b.size≤1000):dK zT 298 [.string a,.string b] ro (.bool (qD a b)):=by
 refine zE<|zD 12<|js 10 (decide ((a.size:Int)≥(b.size:Int))) (fun h1=>?_) (fun h1=>?_)
 ·
  have gh:=h1
  replace gh:=of_decide_eq_true gh
  refine zD 3<|jtH (b:=a) (hi:=(b.size:Int)) (by omega)<|zD 6<|zX (.bool (cQ (a.extract 0 (b.size:Int).toNat) b)) ⟨by simp_all[qD]<;>(intro;omega),rfl⟩
 have gh:=h1
 replace gh:=of_decide_eq_false gh
 refine zD 10<|zX (.bool false) ⟨by simp_all[qD]<;>(intro;omega),rfl⟩
theorem acn{a b:ByteArray}(hn:a.size≤1000∧b.size≤1000):dK zT 290 [.string a,.string b] ro (.bool (qD a b)):=by
 refine zE<|zD 8<|jp (vs:=[.string a,.string b]) [] [] (fun aH hs hZ=>(acm (by omega)))<|zD 3<|zX (.bool (qD a b)) ⟨rfl,rfl⟩
theorem ag8{v:Value}{ps:List ar}{h n l:Int}(hp:bD ro v 3 cN ps)(hn:ps.length≤1000):dK zT 102 [v,.agg ⟨[zI h,zI n,zI l]⟩] ro (zI (cw (mh h n l) ps 0)):=by
 obtain⟨T3,qpb,qpo,LU,rfl,qpk,qph,qpl⟩:=hp
 refine zE<|zD 2<|jn fun b3=>zD 10<|dV [1,0,1,0,0] [] (fun(zz:Nat)=>[(0,.slice T3 ps.length LU),(3,zP b3),(7,zI (ps.length:Int)),(8,zI (zz:Int))]) (fun zz=>[.b b3 (.cells ⟨[zI h,zI n,zI l]⟩ 158 (0,0))]) (fun zz=>zz≤ps.length∧cw (mh h n l) ps 0=cw (mh h n l) (ps.drop zz) zz) (fun zz=>ps.length-zz) 0 ⟨by omega,rfl⟩ [0] ?_
 rintro k hI K1 bO rest
 refine zD 5<|zJ 9 ((k:Int) <(ps.length:Int)) (fun h1=>?_) fun h1=>?_
 ·
  refine jd 14 [0] ?_
  obtain⟨fL,eH⟩:=zG ps k
  refine iz LU 3 qph eH<|jl 0 (qpl _ _ eH)<|jeq aEl (azb h n l fL.h fL.n fL.l)<|zD 1<|js 16 (h==fL.h&&(n==fL.n&&(l==fL.l&&true)&&true)) (fun h2=>?_) (fun h2=>?_)
  ·
   refine zD 7<|zX (zI (k:Int)) ⟨by rw[hI.2,jO eH,show mh h n l fL=true from (by assumption)];rfl,rfl⟩
  refine zD 3<|ja ((k:Int)+1) (by omega)<|zD 2<|bA bO (k+1) ⟨by omega,by rw[hI.2,jO eH,show mh h n l fL=false from (by assumption)];rfl⟩ (by omega) [0] (Sub.refl _)
 refine zD 7<|zX (zI (-1)) ⟨by rw[hI.2,qX (by omega)],rfl⟩
theorem MB{v:Value}{ps:List ar}{h n l:Int}(hp:bD ro v 3 cN ps)(hn:ps.length≤1000):dK zT 75 [v,.agg ⟨[zI h,zI n,zI l]⟩] ro (.bool (decide (cw (mh h n l) ps 0≥0))):=by
 obtain⟨T3,qpb,qpo,LU,rfl,qpk,qph,qpl⟩:=hp
 refine zE<|zD 2<|jn fun b3=>jd 6 [0]<|jp (vs:=[.slice T3 ps.length LU,.agg ⟨[zI h,zI n,zI l]⟩]) [] [] (fun aH hs hZ=>ag8 ((show bD _ _ _ _ _ from ⟨T3,qpb,qpo,LU,rfl,qpk,qph,qpl⟩).up hs) (by first|omega| (simp only[List.length_set,zM];omega))) ?_
 refine zD 4<|zX (.bool (decide ((cw (mh h n l) ps 0)≥0))) ⟨rfl,rfl⟩
theorem agh{v:Value}{ws:List ByteArray}(hv:bD ro v 1 qd ws)(hn:ws.length≤1000)(hW:∀w∈ws,(1≤w.size∧w.size≤6)∧Script w):dK zT 204 [v] ro (zI 0):=by
 obtain⟨NR,qvb,qvo,Cj,rfl,qvk,Q9,Q8⟩:=hv
 refine zE<|zD 12<|dV [1,0,1,0,0] [] (fun(zz:Nat)=>[(6,.slice NR ws.length Cj),(7,zI (ws.length:Int)),(8,zI (zz:Int))]) (fun zz=>[]) (fun zz=>zz≤ws.length) (fun zz=>ws.length-zz) 0 (by omega) [] ?_
 rintro k hI K1 bO rest
 refine zD 5<|zJ 9 ((k:Int) <(ws.length:Int)) (fun h1=>?_) fun h1=>?_
 ·
  refine zD 6 ?_
  obtain⟨x10,sL⟩:=zG ws k
  refine iz Cj 1 Q9 sL<|jl 0 (Q8 _ _ sL)<|zD 5<|jp (vs:=[.string x10]) [] [] (fun aH hs hZ=>(Vl (hW _ (zL sL)).1 (hW _ (zL sL)).2))<|zD 10<|ja ((k:Int)+1) (by omega)<|zD 2<|bA bO (k+1) (by omega) (by omega) [] (Sub.refl _)
 refine zD 7<|zX (zI 0) ⟨rfl,rfl⟩
def yj(w:ByteArray):Prop:=∀b∈w.data.toList,b.toNat <128∧kindOf (b.toNat:Int)=1
def an0(w:ByteArray):Bool:=w.data.toList.all fun b=>Nat.blt b.toNat 128&&decide (kindOf (b.toNat:Int)=1)
theorem Ht{w:ByteArray}(h:an0 w=true):yj w:=fun b hb=>by
 have:=List.all_eq_true.1 h b hb
 simp only[Bool.and_eq_true,Nat.blt_eq,decide_eq_true_eq] at this
 exact this
def Yt(r:aY):Bool:=(Nat.ble 1 r.f.size&&Nat.ble r.f.size 2)&&(Nat.ble r.t.size 2&&(an0 r.f&&(an0 r.t&& !cQ r.f r.t)))
theorem abc:(aso.all fun f=>toW.all fun t=>Yt ⟨f,t⟩)=true:=by kernel_rfl
structure sb(r:aY):Prop where
 f1:1≤r.f.size∧r.f.size≤2
 t1:r.t.size≤2
 fl:yj r.f
 tl:yj r.t
 ne:cQ r.f r.t=false
theorem aue{r:aY}(h:DN r):sb r:=by
 have:=List.all_eq_true.1 (List.all_eq_true.1 abc r.f h.1) r.t h.2
 simp only[Yt,Bool.and_eq_true,Nat.ble_eq,Bool.not_eq_true'] at this
 exact⟨this.1,this.2.1,Ht this.2.2.1,Ht this.2.2.2.1,this.2.2.2.2⟩
theorem aEp{r:Int}:dK zT 243 [.int .i32 r] ro (.bool (!decide (kindOf r=1))):=by
 refine zE<|zD 7<|jp (vs:=[.int .i32 r]) [] [] (fun aH hs hZ=>arj)<|zD 4<|zX (.bool (!decide ((kindOf r)=1))) ⟨rfl,rfl⟩
theorem aMH{w:ByteArray}(hK:yj w):dK zT 281 [.string w,.func (.func 243) ⟨[]⟩ ⟨[]⟩,.bool true] ro (zI (-1)):=by
 refine zE<|zD 8<|jn fun r10=>zD 2<|dV [1,0,1,0,0] [] (fun(zz:Nat)=>[(1,.func (.func 243) ⟨[]⟩ ⟨[]⟩),(2,.bool true),(10,zP r10)]) (fun zz=>[.b r10 (.stringIter w zz)]) (fun zz=>zz≤w.data.toList.length) (fun zz=>w.data.toList.length-zz) 0 (by omega) [0] ?_
 rintro p hI K1 bO rest
 refine zD 2 ?_
 cases acf:w.data.toList[p]? with
 |some x11=>
  refine jnA r10 0 acf (hK _ (zL acf)).1<|zD 14 ?_
  have ZI:=(hK _ (zL acf)).2
  refine zD 3<|jp (vs:=[.int .i32 (x11.toNat:Int)]) [] [] (fun aH hs hZ=>aEp)<|zD 1<|je (.bool ((!decide (kindOf (x11.toNat:Int)=1))==true)) rfl<|zD 1<|js 19 ((!decide (kindOf (x11.toNat:Int)=1))==true) (fun h1=>?_) (fun h1=>?_)
  ·
   exfalso;rw[ZI] at h1;cases h1
  refine zD 2<|bA bO (p+1) (by have:=(List.getElem?_eq_some_iff.1 acf).1;omega) (by have:=(List.getElem?_eq_some_iff.1 acf).1;omega) [0] (Sub.refl _)
 |none=>
  refine jnZ r10 0 acf<|zD 10<|zX (zI (-1)) ⟨rfl,rfl⟩
theorem aCT{w:ByteArray}(hK:yj w):dK zT 264 [.string w,.func (.func 243) ⟨[]⟩ ⟨[]⟩] ro (zI (-1)):=by
 refine zE<|zD 8<|jp (vs:=[.string w,.func (.func 243) ⟨[]⟩ ⟨[]⟩,.bool true]) [] [] (fun aH hs hZ=>(aMH hK))<|zD 3<|zX (zI (-1)) ⟨rfl,rfl⟩
theorem aCV{w:ByteArray}(hK:yj w):dK zT 242 [.string w,.func (.func 243) ⟨[]⟩ ⟨[]⟩] ro (.bool false):=by
 refine zE<|zD 8<|jp (vs:=[.string w,.func (.func 243) ⟨[]⟩ ⟨[]⟩]) [] [] (fun aH hs hZ=>(aCT hK))<|zD 4<|zX (.bool false) ⟨rfl,rfl⟩
theorem RM{w:ByteArray}(hK:yj w)(hn:w.size≤1000):dK zT 224 [.string w,zI lo,zI hi] ro (.bool (decide (lo≤w.size)&&decide ((w.size:Int)≤hi))):=by
 refine zE<|zD 11<|jj 5 [(0,.string w),(6,.bool false),(16,.bool ((decide (lo≤(w.size:Int)))&&(decide ((w.size:Int)≤hi))))] (fun gp=>?_) (fun hj=>?_)
 rotate_left
 refine js 11 (decide (lo≤(w.size:Int))) (fun h1=>?_) (fun h1=>?_)
 ·
  have gh:=h1
  replace gh:=of_decide_eq_true gh
  refine zD 5<|jw 16 (.bool ((decide (lo≤(w.size:Int)))&&(decide ((w.size:Int)≤hi)))) (w:= .bool (decide ((w.size:Int)≤hi))) (by rw[h1]<;>rfl) ?_
  exact zK hj
 ·
  have gh:=h1
  replace gh:=of_decide_eq_false gh
  refine zD 5<|jw 16 (.bool ((decide (lo≤(w.size:Int)))&&(decide ((w.size:Int)≤hi)))) (w:= .bool false) (by rw[h1]<;>rfl) ?_
  exact zK hj
 refine zD 1<|jj 4 [(6,.bool false),(21,.bool (((decide (lo≤(w.size:Int)))&&(decide ((w.size:Int)≤hi)))&&true))] (fun gp=>?_) (fun hj=>?_)
 rotate_left
 refine js 17 ((decide (lo≤(w.size:Int)))&&(decide ((w.size:Int)≤hi))) (fun h2=>?_) (fun h2=>?_)
 ·
  have mI:=h2
  try simp only[zB] at mI
  refine zD 1<|jp (vs:=[.string w,.func (.func 243) ⟨[]⟩ ⟨[]⟩]) [] [] (fun aH hs hZ=>(aCV hK))<|zD 2<|jw 21 (.bool (((decide (lo≤(w.size:Int)))&&(decide ((w.size:Int)≤hi)))&&true)) (w:= .bool true) (by rw[h2]<;>rfl) ?_
  exact zK hj
 ·
  have mI:=h2
  try simp only[zB] at mI
  refine zD 4<|jw 21 (.bool (((decide (lo≤(w.size:Int)))&&(decide ((w.size:Int)≤hi)))&&true)) (w:= .bool false) (by rw[h2]<;>rfl) ?_
  exact zK hj
 refine zD 3<|zX (.bool (((decide (lo≤(w.size:Int)))&&(decide ((w.size:Int)≤hi)))&&true)) ⟨by simp_all,rfl⟩
theorem Mn{w:ByteArray}(hK:yj w)(h1:lo≤w.size)(h2:(w.size:Int)≤hi)(h3:w.size≤1000):dK zT 224 [.string w,zI lo,zI hi] ro (.bool true):=by
 have:=RM (ro:=ro) hK h3 (lo:=lo) (hi:=hi)
 rw[decide_eq_true h1,decide_eq_true h2] at this
 exact this
theorem abJ{v:Value}(hv:bD ro v 2 gG rs)(hn:rs.length≤4)(hR:∀r∈rs,sb r):dK zT 203 [v] ro (zI 0):=by
 obtain⟨NR,qvb,qvo,Cj,rfl,qvk,Q9,Q8⟩:=hv
 refine zE<|zD 11<|zJ 7 ((rs.length:Int)>4) (fun h1=>?_) fun h1=>?_
 ·
  exfalso;omega
 refine zD 10<|dV [1,1,0,1,0,0] [] (fun(zz:Nat)=>[(8,.slice NR rs.length Cj),(9,zI (rs.length:Int)),(10,zI (zz:Int))]) (fun zz=>[]) (fun zz=>zz≤rs.length) (fun zz=>rs.length-zz) 0 (by omega) [] ?_
 rintro k hI K1 bO rest
 refine zD 5<|zJ 11 ((k:Int) <(rs.length:Int)) (fun h2=>?_) fun h2=>?_
 ·
  refine zD 6 ?_
  obtain⟨tU,qJ⟩:=zG rs k
  refine iz Cj 2 Q9 qJ<|jl 0 (Q8 _ _ qJ)<|jn fun b4=>jd 3 [0] ?_
  have hrp:=(hR _ (zL qJ))
  have hrf:=hrp.f1
  have hrt:=hrp.t1
  refine jd 3 [0]<|jp (vs:=[.string tU.f,zI 1,zI 2]) [] [] (fun aH hs hZ=>(Mn hrp.fl (by omega) (by omega) (by omega)))<|jd 4 [0]<|jp (vs:=[.string tU.t,zI 0,zI 2]) [] [] (fun aH hs hZ=>(Mn hrp.tl (by omega) (by omega) (by omega)))<|jd 10 [0,0]<|js 30 (cQ tU.f tU.t) (fun h3=>?_) (fun h3=>?_)
  ·
   exfalso;rw[hrp.ne] at h3;cases h3
  refine zD 3<|ja ((k:Int)+1) (by omega)<|zD 2<|bA bO (k+1) (by omega) (by omega) [] (Sub.refl _)
 refine zD 7<|zX (zI 0) ⟨rfl,rfl⟩
def vw:List Int→Int
 | []=>0
 |x::xs=>xs.foldl min x
def C5:List Int→Int
 | []=>0
 |x::xs=>xs.foldl max x
theorem avf{xs:List Int}{x:Int}(h:xs[0]?=some x):vw xs=(xs.drop 1).foldl min x:=by
 cases xs with
 |nil=>cases h
 |cons y l=>simp at h;subst h;rfl
theorem avg{xs:List Int}{x:Int}(h:xs[0]?=some x):C5 xs=(xs.drop 1).foldl max x:=by
 cases xs with
 |nil=>cases h
 |cons y l=>simp at h;subst h;rfl
def pY(l:List Int):Int:=(l.filter fun x=>decide (x>0)).length
theorem Me{l:List Int}{x:Int}(h:l[k]?=some x):pY (l.take (k+1))=pY (l.take k)+if x>0 then 1 else 0:=by
 rw[eA h,pY,List.filter_append,pY]
 by_cases hx:x>0<;>simp[hx]
structure ak where
 past:Int
 w0:Int
 w1:Int
 w2:Int
 w3:Int
 gone:Int
 new:Int
 af:Int
abbrev cW(x:ak):List Value:=[zI x.past,zI x.w0,zI x.w1,zI x.w2,zI x.w3,zI x.gone,zI x.new,zI x.af]
def cm(g n m:Int)(x:ak):Bool:=decide (x.gone≤g)&&(decide (x.new≤n)&&decide (x.af≤m))
def hasB(f i:Int):Bool:=decide (Kj .u8 (aT .u8 f i) 1=1)
theorem aMF{v:Value}{xs:List Int}(hl:bD ro v 1 cB xs)(hn:0 <xs.length∧xs.length≤1000000):dK zT 110 [v] ro (zI (vw xs)):=by
 obtain⟨fC,sG,sE,eO,rfl,ui,lP,mP⟩:=hl
 refine zE<|zD 11<|zJ 7 ((xs.length:Int) <1) (fun h1=>?_) fun h1=>?_
 ·
  exfalso;omega
 refine zD 5 ?_
 obtain⟨x10,sL⟩:=zG xs 0
 refine iz eO 1 lP sL<|jl 0 (mP _ _ sL)<|zD 8<|dV [1,1,1,0,1,0,0] [] (fun(zz:Nat×Int)=>[(0,.slice fC xs.length eO),(2,zI 0),(3,zI zz.2),(4,zI (zz.1:Int))]) (fun zz=>[]) (fun zz=>(1≤zz.1∧zz.1≤xs.length)∧vw xs=(xs.drop zz.1).foldl min zz.2) (fun zz=>xs.length-zz.1) (⟨1,x10⟩) ⟨by dsimp only;omega,avf sL⟩ [] ?_
 rintro⟨k,m⟩ hI K1 bO rest
 dsimp only at hI
 refine zD 8<|zJ 15 ((k:Int) <(xs.length:Int)) (fun h2=>?_) fun h2=>?_
 ·
  refine zD 8 ?_
  obtain⟨y6,qI⟩:=zG xs k
  refine iz eO 1 lP qI<|jl 0 (mP _ _ qI)<|jmn (k:= .i64) (a:=m) (b:=y6)<|zD 4<|ja ((k:Int)+1) (by omega)<|zD 2<|bA bO (⟨k+1,(min m y6)⟩) ⟨by dsimp only;omega,by rw[hI.2,eX qI];rfl⟩ (by dsimp only;omega) [] (Sub.refl _)
 refine zD 8<|zX (zI m) ⟨by rw[hI.2,eE (by omega)];rfl,rfl⟩
theorem aMG{v:Value}{xs:List Int}(hl:bD ro v 1 cB xs)(hn:0 <xs.length∧xs.length≤1000000):dK zT 111 [v] ro (zI (C5 xs)):=by
 obtain⟨fC,sG,sE,eO,rfl,ui,lP,mP⟩:=hl
 refine zE<|zD 11<|zJ 7 ((xs.length:Int) <1) (fun h1=>?_) fun h1=>?_
 ·
  exfalso;omega
 refine zD 5 ?_
 obtain⟨x10,sL⟩:=zG xs 0
 refine iz eO 1 lP sL<|jl 0 (mP _ _ sL)<|zD 8<|dV [1,1,1,0,1,0,0] [] (fun(zz:Nat×Int)=>[(0,.slice fC xs.length eO),(2,zI 0),(3,zI zz.2),(4,zI (zz.1:Int))]) (fun zz=>[]) (fun zz=>(1≤zz.1∧zz.1≤xs.length)∧C5 xs=(xs.drop zz.1).foldl max zz.2) (fun zz=>xs.length-zz.1) (⟨1,x10⟩) ⟨by dsimp only;omega,avg sL⟩ [] ?_
 rintro⟨k,m⟩ hI K1 bO rest
 dsimp only at hI
 refine zD 8<|zJ 15 ((k:Int) <(xs.length:Int)) (fun h2=>?_) fun h2=>?_
 ·
  refine zD 8 ?_
  obtain⟨y6,qI⟩:=zG xs k
  refine iz eO 1 lP qI<|jl 0 (mP _ _ qI)<|jmx (k:= .i64) (a:=m) (b:=y6)<|zD 4<|ja ((k:Int)+1) (by omega)<|zD 2<|bA bO (⟨k+1,(max m y6)⟩) ⟨by dsimp only;omega,by rw[hI.2,eX qI];rfl⟩ (by dsimp only;omega) [] (Sub.refl _)
 refine zD 8<|zX (zI m) ⟨by rw[hI.2,eE (by omega)];rfl,rfl⟩
theorem arz{v:Value}{xs:List Int}(hl:bD ro v 1 cB xs)(hn:0 <xs.length∧xs.length≤1000000):dK zT 86 [v] ro (.agg ⟨[zI (vw xs),zI (C5 xs)]⟩):=by
 obtain⟨fC,sG,sE,eO,rfl,ui,lP,mP⟩:=hl
 refine zE<|zD 2<|jn fun b2=>zD 4<|jp (vs:=[.slice fC xs.length eO]) [] [] (fun aH hs hZ=>aMF ((show bD _ _ _ _ _ from ⟨fC,sG,sE,eO,rfl,ui,lP,mP⟩).up hs) (by omega))<|zD 1<|jp (vs:=[.slice fC xs.length eO]) [] [] (fun aH hs hZ=>aMG ((show bD _ _ _ _ _ from ⟨fC,sG,sE,eO,rfl,ui,lP,mP⟩).up hs) (by omega))<|jd 4 [0]<|zR (.agg ⟨[zI (vw xs),zI (C5 xs)]⟩) [0] [] [] ⟨rfl,rfl⟩
theorem aoi{x:ak}:dK zT 85 [.agg ⟨[zI x.past,zI x.w0,zI x.w1,zI x.w2,zI x.w3,zI x.gone,zI x.new,zI x.af]⟩] ro (.bool true):=by
 refine zE<|zD 2<|jn fun b1=>zD 7<|zX (.bool true) ⟨rfl,rfl⟩
theorem ag6{f:Nat}{x:ak}{c2 c3 c4:Value}(hf:ro f=some (.cells ⟨[c0,c1,c2,c3,c4,c5,c6,c7,zI gone,zI new,zI af,c11,vt]⟩ 150 (0,0))):dK zT 77 [zP f,.agg ⟨[zI x.past,zI x.w0,zI x.w1,zI x.w2,zI x.w3,zI x.gone,zI x.new,zI x.af]⟩] ro (.bool (cm gone new af x)):=by
 refine zE<|zD 2<|jn fun b3=>jd 10 [0]<|jl (b:=f) (off:=0) (m:=13) (vs:=[c0,c1,c2,c3,c4,c5,c6,c7,zI gone,zI new,zI af,c11,vt]) 8 ⟨_,_,_,.inl hf,rfl⟩<|zD 2<|js 8 (decide (x.gone≤gone)) (fun h1=>?_) (fun h1=>?_)
 ·
  have gh:=h1
  replace gh:=of_decide_eq_true gh
  refine jd 6 [0]<|jl (b:=f) (off:=0) (m:=13) (vs:=[c0,c1,c2,c3,c4,c5,c6,c7,zI gone,zI new,zI af,c11,vt]) 9 ⟨_,_,_,.inl hf,rfl⟩<|zD 3<|js 18 (decide (x.new≤new)) (fun h2=>?_) (fun h2=>?_)
  ·
   have mI:=h2
   replace mI:=of_decide_eq_true mI
   refine jd 6 [0]<|jl (b:=f) (off:=0) (m:=13) (vs:=[c0,c1,c2,c3,c4,c5,c6,c7,zI gone,zI new,zI af,c11,vt]) 10 ⟨_,_,_,.inl hf,rfl⟩<|zD 5<|zX (.bool (decide (x.af≤af))) ⟨by simp_all[cm]<;>(intros;omega),rfl⟩
  have mI:=h2
  replace mI:=of_decide_eq_false mI
  refine zD 12<|zX (.bool false) ⟨by simp_all[cm]<;>(intros;omega),rfl⟩
 have gh:=h1
 replace gh:=of_decide_eq_false gh
 refine zD 22<|zX (.bool false) ⟨by simp_all[cm]<;>(intros;omega),rfl⟩
theorem avN{f i:Int}(hi:0≤i∧i≤8):dK zT 94 [.int .u8 f,zI i] ro (.bool (hasB f i)):=by
 refine zE<|zD 8<|jsr (k:= .u8) (k':= .i64) (a:=f) (b:=i) 105 (by omega)<|zD 5<|zX (.bool (decide ((Kj .u8 (aT .u8 f i) 1)=1))) ⟨rfl,rfl⟩
theorem avw{p0 p1 p2 p3:Int}:dK zT 120 [.agg ⟨[zI p0,zI p1,zI p2,zI p3]⟩] ro (zI (pY [p0,p1,p2,p3])):=by
 refine zE<|zD 2<|jn fun b1=>jd 13 [0]<|dV [1,1,0,1,0,0] [] (fun(zz:Nat×Int)=>[(2,zI 0),(3,zI zz.2),(6,.agg ⟨[zI p0,zI p1,zI p2,zI p3]⟩),(7,zI (zz.1:Int))]) (fun zz=>[]) (fun zz=>zz.1≤4∧zz.2=pY ([p0,p1,p2,p3].take zz.1)∧(0≤zz.2∧zz.2≤zz.1)) (fun zz=>4-zz.1) (⟨0,0⟩) ⟨by omega,rfl,by omega⟩ [] ?_
 rintro⟨k,n⟩ hI K1 bO rest
 dsimp only at hI
 refine zD 5<|zJ 8 ((k:Int) <4) (fun h1=>?_) fun h1=>?_
 ·
  refine zD 6 ?_
  obtain⟨x9,hx9⟩:=zG ([p0,p1,p2,p3]:List Int) k (show k <4 from by omega)
  refine jai (l:=[zI p0,zI p1,zI p2,zI p3]) (k:Int) 4 1 false (by omega) (v:= zI x9) (show nth _ (k*1)=_ by rw[Nat.mul_one];exact aN7 hx9) ?_
  refine zD 7<|zJ 11 (x9>0) (fun h2=>?_) fun h2=>?_
  ·
   refine zD 3<|ja (n+1) (by omega)<|zD 3<|ja ((k:Int)+1) (by omega)<|zD 2<|bA bO (⟨k+1,(n+1)⟩) ⟨by dsimp only;omega,by rw[Me hx9,if_pos (by assumption),hI.2.1],by dsimp only;omega⟩ (by dsimp only;omega) [] (Sub.refl _)
  refine zD 3<|ja ((k:Int)+1) (by omega)<|zD 2<|bA bO (⟨k+1,n⟩) ⟨by dsimp only;omega,by rw[Me hx9,if_neg (by assumption),hI.2.1,Int.add_zero],by dsimp only;omega⟩ (by dsimp only;omega) [] (Sub.refl _)
 refine zD 8<|zX (zI n) ⟨by rw[hI.2.1,show k=4 by omega];rfl,rfl⟩
theorem rO{xs:List α}{a:Option Addr}{o:Nat}(h:∀k,k <xs.length→a=some ⟨b,o,none⟩)(hn:a.isNone=true):xs=[]:=by
 cases xs with
 |nil=>rfl
 |cons x l=>rw[h 0 (by simp)] at hn;cases hn
theorem aub{v:Value}(hl:bD ro v 1 qd xs)(hn:xs.length≤1000):eg zT 247 [v] ro [] (fun r Y=>∃L,ay r 1 9 qd xs L∧Y=L):=by
 obtain⟨fC,sG,sE,eO,rfl,ui,lP,mP⟩:=hl
 refine zE<|zD 8<|jsn 99 (a:=fC) (l:=xs.length) (c:=eO)<|zD 1<|js 4 (fC.isNone) (fun h1=>?_) (fun h1=>?_)
 ·
  refine zD 6<|zX (zS) ⟨[],by rw[rO lP (by assumption)];exact ay.nil _ _ _,rfl⟩
 refine zD 4<|jn fun b5=>zD 1<|iC (sz:=1) (ps:=[]) (qs:=xs) (enc:=qd) (w:= .slice fC xs.length eO) [0] [] [] (bC (b:=b5) (T:=9)) (fun s he _=>⟨fC,sG,sE,eO,rfl,lP,fun i p hp=>(mP i p hp).ext he⟩) (fun p _=>ai rfl) (by simp<;>omega) (fun v7 L7 iI=>?_)
 rw[List.nil_append] at iI
 obtain⟨Ut,Un,SJ⟩:=iI.form
 subst SJ
 refine zD 3<|zR ((.slice Ut (xs).length Un)) [] [0] L7 ⟨_,iI,rfl⟩
theorem aOu{f:Nat}{c2 c3 c4:Value}(hx:bD ro c11 3 nz fs)(hf:ro f=some (.cells ⟨[c0,c1,c2,c3,c4,c5,c6,c7,zI gone,zI new,zI af,c11,vt]⟩ 150 (0,0)))(hn:fs.length≤7):dK zT 42 [zP f] ro (.int .u8 (IntKind.u8.wrap (dG .u8 1 (fs.length:Int)-1))):=by
 obtain⟨qxa,qxb,qxo,qxc,rfl,qxk,qxh,qxl⟩:=hx
 refine zE<|zD 10<|jl (b:=f) (off:=0) (m:=13) (vs:=[c0,c1,c2,c3,c4,c5,c6,c7,zI gone,zI new,zI af,.slice qxa fs.length qxc,vt]) 11 ⟨_,_,_,.inl hf,rfl⟩<|zD 1<|jsh (k:= .u8) (k':= .i64) (a:=1) (b:=(fs.length:Int)) 105 (by omega)<|zD 4<|zX (.int .u8 (IntKind.u8.wrap ((dG .u8 1 (fs.length:Int))-1))) ⟨rfl,rfl⟩
theorem yb{r:Value}{A B:Prop}(h:(r= .bool true∧A)∨(r= .bool false∧B)):∃c,r= .bool c∧(c=true→A)∧(c=false→B):=by
 rcases h with ⟨rfl,h⟩| ⟨rfl,h⟩
 ·exact⟨true,rfl,fun _=>h,nofun⟩
 exact⟨false,rfl,nofun,fun _=>h⟩
def qA(w f t:ByteArray)(i:Nat):ByteArray:=w.extract 0 (i:Int).toNat++t++w.extract ((i:Int)+(f.size:Int)).toNat w.size
def mO(w f t:ByteArray)(i:Nat):Option ByteArray:=if qD (w.extract i w.size) f=true∧1≤(qA w f t i).size∧(qA w f t i).size≤12 then some (qA w f t i) else none
def tk(w f t:ByteArray)(k:Nat):List ByteArray:=(List.range k).filterMap (mO w f t)
def u2(w f t:ByteArray):List ByteArray:=tk w f t (w.size+1)
theorem CE(w f t:ByteArray)(k:Nat):tk w f t (k+1)=tk w f t k++(mO w f t k).toList:=by
 rw[tk,tk,List.range_succ,List.filterMap_append]
 cases h:mO w f t k<;>simp[h]
theorem afb(w f t:ByteArray)(h:k≤n):∃l,tk w f t n=tk w f t k++l:=by
 induction n with
 |zero=>exact⟨[],by rw[show k=0 by omega];simp⟩
 |succ n ih=>
  by_cases hk:k=n+1
  ·exact⟨[],by rw[hk];simp⟩
  obtain⟨l,hl⟩:=ih (by omega)
  exact⟨l++(mO w f t n).toList,by rw[CE,hl,List.append_assoc]⟩
theorem Q5{w:ByteArray}(hk:k <n)(h:mO w f t k=some x):(tk w f t n)[(tk w f t k).length]?=some x∧(tk w f t (k+1)).length=(tk w f t k).length+1:=by
 obtain⟨l,hl⟩:=afb w f t (k:=k+1) (n:=n) hk
 rw[hl,CE,h]
 constructor
 ·rw[List.append_assoc,List.getElem?_append_right (Nat.le_refl _)];simp
 simp
theorem Yx{w:ByteArray}(h:mO w f t k=none):(tk w f t (k+1)).length=(tk w f t k).length:=by
 rw[CE,h];simp
abbrev ast(l:List ByteArray):(Nat→Option Obj)→Nat→List Value→Cells→Prop:=fun _ k vs LL=>∃x,l[k]?=some x∧vs=[.string x]∧LL=[]
theorem yj.ext{w:ByteArray}(h:yj w)(i j:Nat):yj (w.extract i j):=by
 intro b hb
 refine h b ?_
 have:(w.extract i j).data.toList=(w.data.extract i j).toList:=by simp[ByteArray.data_extract]
 rw[this,Array.toList_extract] at hb
 simp only[List.extract_eq_drop_take] at hb
 exact List.mem_of_mem_drop (List.mem_of_mem_take hb)
theorem yj.app{v w:ByteArray}(h:yj v)(k:yj w):yj (v++w):=by
 intro b hb
 have:(v++w).data.toList=v.data.toList++w.data.toList:=by simp[ByteArray.data_append]
 rw[this] at hb
 exact(List.mem_append.1 hb).elim (h b) (k b)
theorem Ls{w:ByteArray}(hw:yj w)(ht:yj t):yj (qA w f t i):=((hw.ext _ _).app ht).app (hw.ext _ _)
theorem Rf{a b:ByteArray}(h:qD a b=true):b.size≤a.size:=by
 unfold qD at h
 simp only[Bool.and_eq_true,decide_eq_true_eq] at h
 omega
def agF(w:ByteArray):Bool:=decide ((1:Int)≤w.size)&&decide ((w.size:Int)≤12)
theorem UW{w:ByteArray}(h:qD (w.extract (k:Int).toNat w.size) f=false):mO w f t k=none:=if_neg fun x=>by
 have h1:qD (w.extract k w.size) f=false:=h
 rw[h1] at x;cases x.1
theorem abe{w:ByteArray}(h:agF (qA w f t k)=false):mO w f t k=none:=if_neg fun x=>by
 simp only[agF,Bool.and_eq_false_iff,decide_eq_false_iff_not] at h
 omega
theorem UU{w:ByteArray}(h:qD (w.extract (k:Int).toNat w.size) f=true)(h2:agF (qA w f t k)=true):mO w f t k=some (qA w f t k):=if_pos ⟨h,by
 simp only[agF,Bool.and_eq_true,decide_eq_true_eq] at h2
 omega⟩
theorem UT{w:ByteArray}(h:w.size≤100∧f.size≤100∧t.size≤100):(qA w f t k).size≤1000:=by
 simp only[qA,ByteArray.size_append,ByteArray.size_extract];omega
theorem am6{w:ByteArray}(hk:k≤w.size)(h:mO w f t k=some (qA w f t k)):(tk w f t k).length <(u2 w f t).length∧(u2 w f t)[(tk w f t k).length]?=some (qA w f t k):=by
 have:=(Q5 (n:=w.size+1) (by omega) h).1
 exact⟨(List.getElem?_eq_some_iff.1 this).1,this⟩
theorem W7(w:ByteArray)(a b:Nat):(w.extract a b).size≤w.size:=by simp;omega
theorem akc(w:ByteArray)(i:Nat)(h:i≤w.size):(w.extract i w.size).size=w.size-i:=by simp
theorem anO{w:ByteArray}(g1:ro b1=some (.cells ⟨[.string w]⟩ 299 (0,0)))(g2:ro b2=some (.cells ⟨[.string f]⟩ 9 (0,0)))(g3:ro b3=some (.cells ⟨[.string t]⟩ 9 (0,0)))(hw:yj w)(ht:yj t)(hn:w.size≤100∧f.size≤100∧t.size≤100):ItX zT 289 [] [zP b1,zP b2,zP b3] ro [] (u2 w f t).length (ast (u2 w f t)) (fun Z=>Z=[]):=by
 intro bl aH Inv Stop hs hy B hB
 replace g1:=hs _ _ g1
 replace g2:=hs _ _ g2
 replace g3:=hs _ _ g3
 refine zC [.l B]<|zD 2<|jl (b:=b1) (off:=0) (m:=1) (vs:=[.string w]) 0 ⟨_,_,_,.inl g1,rfl⟩<|zD 1<|ja ((w.size:Int)+1) (by omega)<|zD 3<|dV [1,0,0] [] (fun(zz:Nat×Cells)=>[(0,(.func (.yield bl) #[] #[])),(1,zP b1),(2,zP b2),(3,zP b3),(9,zI ((w.size:Int)+1)),(10,zI (zz.1:Int))]) (fun zz=>[.l zz.2]) (fun zz=>zz.1≤w.size+1∧Inv (tk w f t zz.1).length zz.2) (fun zz=>w.size+1-zz.1) (⟨0,B⟩) ⟨by dsimp only;omega,hB⟩ [0] ?_
 rintro⟨k,B⟩ hI K1 bO rest
 dsimp only at hI
 refine zD 5<|zJ 11 ((k:Int) <((w.size:Int)+1)) (fun h1=>?_) fun h1=>?_
 ·
  refine zD 11 ?_
  have vL:=W7 w (k:Int).toNat w.size
  refine zD 1<|jl (b:=b1) (off:=0) (m:=1) (vs:=[.string w]) 0 ⟨_,_,_,.inl g1,rfl⟩<|zD 1<|jtL (b:=w) (lo:=(k:Int)) (by omega)<|jl (b:=b2) (off:=0) (m:=1) (vs:=[.string f]) 0 ⟨_,_,_,.inl g2,rfl⟩<|jp (vs:=[.string (w.extract (k:Int).toNat w.size),.string f]) [] [] (fun aH hs hZ=>(acn (by omega)))<|zD 2<|js 18 (!(qD (w.extract (k:Int).toNat w.size) f)) (fun h2=>?_) (fun h2=>?_)
  ·
   try simp only[zB] at h2
   refine zD 3<|ja ((k:Int)+1) (by omega)<|zD 2<|bA bO (⟨k+1,B⟩) ⟨by dsimp only;omega,by dsimp only;rw[Yx (UW (by assumption))];exact hI.2⟩ (by dsimp only;omega) [0] (Sub.refl _)
  try simp only[zB] at h2
  refine zD 3 ?_
  have FZ:=W7 w 0 (k:Int).toNat
  have he3:=W7 w ((k:Int)+(f.size:Int)).toNat w.size
  have he4:(w.extract 0 (k:Int).toNat++t).size=_:=ByteArray.size_append
  have hpr:qD (w.extract (k:Int).toNat w.size) f=true:=by assumption
  have Qb:=Rf hpr
  rw[akc _ _ (by omega)] at Qb
  refine zD 1<|jl (b:=b1) (off:=0) (m:=1) (vs:=[.string w]) 0 ⟨_,_,_,.inl g1,rfl⟩<|zD 1<|jtH (b:=w) (hi:=(k:Int)) (by omega)<|jl (b:=b3) (off:=0) (m:=1) (vs:=[.string t]) 0 ⟨_,_,_,.inl g3,rfl⟩<|jsa (a:=(w.extract 0 (k:Int).toNat)) (b:=t) 299 (by omega)<|jl (b:=b1) (off:=0) (m:=1) (vs:=[.string w]) 0 ⟨_,_,_,.inl g1,rfl⟩<|zD 1<|jl (b:=b2) (off:=0) (m:=1) (vs:=[.string f]) 0 ⟨_,_,_,.inl g2,rfl⟩<|zD 1<|ja ((k:Int)+(f.size:Int)) (by omega)<|jtL (b:=w) (lo:=((k:Int)+(f.size:Int))) (by omega)<|jsa (a:=((w.extract 0 (k:Int).toNat)++t)) (b:=(w.extract ((k:Int)+(f.size:Int)).toNat w.size)) 299 (by omega)<|zD 5<|jp (vs:=[.string (((w.extract 0 (k:Int).toNat)++t)++(w.extract ((k:Int)+(f.size:Int)).toNat w.size)),zI 1,zI 12]) [] [] (fun aH hs hZ=>(RM (Ls (i:=k) hw ht) (UT hn)))<|zD 1<|js 33 (agF (qA w f t k)) (fun h3=>?_) (fun h3=>?_)
  ·
   have hry:=UU (t:=t) hpr (by assumption)
   have T6:=am6 (by omega) hry
   refine zD 2<|jyc [0] (hy (tk w f t k).length _ [] B aH T6.1 ⟨_,T6.2,rfl,rfl⟩ hI.2 (Sub.refl _)) (Sub.refl _) ?_
   intro v4 Y4 hy4
   obtain⟨c4,rfl,hc4,hd4⟩:=yb hy4
   refine zD 3<|js 38 (!c4) (fun h5=>?_) (fun h5=>?_)
   ·
    try simp only[zB] at h5
    refine zD 2<|zR (.tuple ⟨[]⟩) [] [0] Y4 ⟨[],Y4,rfl,rfl,.inr (hd4 (by simp_all))⟩
   try simp only[zB] at h5
   refine zD 3<|ja ((k:Int)+1) (by omega)<|zD 2<|bA bO (⟨k+1,Y4⟩) ⟨by dsimp only;omega,by dsimp only;rw[(Q5 (n:=k+1) (by omega) hry).2];exact hc4 (by assumption)⟩ (by dsimp only;omega) [0] (Sub.refl _)
  refine zD 9<|ja ((k:Int)+1) (by omega)<|zD 2<|bA bO (⟨k+1,B⟩) ⟨by dsimp only;omega,by dsimp only;rw[Yx (abe (by assumption))];exact hI.2⟩ (by dsimp only;omega) [0] (Sub.refl _)
 refine zD 2<|zR (.tuple ⟨[]⟩) [] [0] B ⟨[],B,rfl,rfl,.inl (by have:=hI.2;rwa[show k=w.size+1 by omega] at this)⟩
def nU(rs:List aY):List (ByteArray×ByteArray):=rs.flatMap fun r=>[(r.f,r.t),(r.t,r.f)]
abbrev eP2(x:ByteArray×ByteArray):List Value:=[.string x.1,.string x.2]
def iT(w:ByteArray)(ps:List (ByteArray×ByteArray)):List ByteArray:=ps.flatMap fun p=>u2 w p.1 p.2
def j9(w:ByteArray)(rs:List aY):List ByteArray:=iT w (nU rs)
theorem Mg:∀(rs:List aY),(nU rs).length=2*rs.length
 | []=>rfl
 |r::rs=>by have:=Mg rs;simp only[nU,List.flatMap_cons,zM] at this ⊢;omega
theorem Ro:∀ {rs:List aY} {k q:Nat} {r:aY} {p:ByteArray×ByteArray},rs[k]?=some r→[(r.f,r.t),(r.t,r.f)][q]?=some p→(nU rs)[2*k+q]?=some p
 | [],_,_,_,_,h,_=>by simp at h
 |r::rs,0,q,_,p,h,h2=>by
  simp only[List.getElem?_cons_zero,Option.some.injEq] at h;subst h
  simp only[nU,List.flatMap_cons,Nat.mul_zero,Nat.zero_add]
  rw[List.getElem?_append_left (by have:=(List.getElem?_eq_some_iff.1 h2).1;exact this)];exact h2
 |r::rs,k+1,q,_,p,h,h2=>by
  have:=Ro (rs:=rs) (k:=k) (by simpa using h) h2
  simp only[nU,List.flatMap_cons]
  rw[List.getElem?_append_right (by simp;omega)]
  rw[show 2*(k+1)+q- [(r.f,r.t),(r.t,r.f)].length=2*k+q by simp;omega];exact this
theorem Gv{w:ByteArray}{ps:List (ByteArray×ByteArray)}(h:ps[k]?=some p):iT w (ps.take (k+1))=iT w (ps.take k)++u2 w p.1 p.2:=by
 rw[iT,eA h,List.flatMap_append];simp[iT]
theorem amM{w:ByteArray}{ps:List (ByteArray×ByteArray)}{j:Nat}(h:ps[k]?=some p) (hx:(u2 w p.1 p.2)[j]?=some x):(iT w (ps.take k)).length+j <(iT w ps).length∧(iT w ps)[(iT w (ps.take k)).length+j]?=some x:=by
 have e:iT w ps=iT w (ps.take (k+1))++iT w (ps.drop (k+1)):=by rw[iT,iT,iT,←List.flatMap_append,List.take_append_drop]
 have hj:=(List.getElem?_eq_some_iff.1 hx).1
 have:(iT w ps)[(iT w (ps.take k)).length+j]?=some x:=by
  rw[e,Gv h,List.append_assoc,List.getElem?_append_right (by omega),List.getElem?_append_left (by omega),show (iT w (ps.take k)).length+j-(iT w (ps.take k)).length=j by omega]
  exact hx
 exact⟨(List.getElem?_eq_some_iff.1 this).1,this⟩
theorem anv{r:aY}{q:Nat}(h:sb r)(hp: [(r.f,r.t),(r.t,r.f)][q]?=some p):yj p.2∧(p.1.size≤100∧p.2.size≤100):=by
 have:=zL hp
 have h1:=h.f1;have h2:=h.t1
 simp only[List.mem_cons,List.not_mem_nil,or_false] at this
 rcases this with rfl|rfl
 ·exact⟨h.tl,by dsimp only;omega,by dsimp only;omega⟩
 exact⟨h.fl,by dsimp only;omega,by dsimp only;omega⟩
theorem abK{w:ByteArray}:eg zT 272 [.string w,.string f,.string t] ro [] (fun r Y=>∃b3 b4 b5,r= .func (.func 289) ⟨[]⟩ ⟨[zP b3,zP b4,zP b5]⟩∧Y=[(b3,.cells ⟨[.string w]⟩ 299 (0,0)),(b4,.cells ⟨[.string f]⟩ 9 (0,0)),(b5,.cells ⟨[.string t]⟩ 9 (0,0))]):=by
 refine zE<|zD 2<|jn fun b3=>jn fun b4=>jn fun b5=>zD 8<|zR (.func (.func 289) ⟨[]⟩ ⟨[zP b3,zP b4,zP b5]⟩) [] [2,1,0] ((b3,.cells ⟨[.string w]⟩ 299 (0,0))::((b4,.cells ⟨[.string f]⟩ 9 (0,0))::[(b5,.cells ⟨[.string t]⟩ 9 (0,0))])) ⟨_,_,_,rfl,rfl⟩
theorem au9{w:ByteArray}(hl:bD ro vl 2 gG rs):eg zT 248 [.string w,vl] ro [] (fun r Y=>∃b2 b3,r= .func (.func 271) ⟨[]⟩ ⟨[zP b3,zP b2]⟩∧Y=[(b2,.cells ⟨[.string w]⟩ 299 (0,0)),(b3,.cells ⟨[vl]⟩ 36 (0,0))]):=by
 obtain⟨fC,sG,sE,eO,rfl,ui,lP,mP⟩:=hl
 refine zE<|zD 2<|jn fun b2=>jn fun b3=>zD 8<|zR (.func (.func 271) ⟨[]⟩ ⟨[zP b3,zP b2]⟩) [] [1,0] ((b2,.cells ⟨[.string w]⟩ 299 (0,0))::[(b3,.cells ⟨[.slice fC rs.length eO]⟩ 36 (0,0))]) ⟨_,_,rfl,rfl⟩
theorem anN{w:ByteArray}(g1:ro b1=some (.cells ⟨[vl]⟩ 36 (0,0)))(hl:bD ro vl 2 gG rs)(hR:∀r∈rs,sb r)(g2:ro b2=some (.cells ⟨[.string w]⟩ 299 (0,0)))(hw:yj w)(hn:w.size≤100)(hq:rs.length≤100):ItX zT 271 [] [zP b1,zP b2] ro [] (j9 w rs).length (ast (j9 w rs)) (fun Z=>Z=[]):=by
 intro bl aH Inv Stop hs hy B hB
 replace g1:=hs _ _ g1
 replace g2:=hs _ _ g2
 replace hl:=hl.up hs
 obtain⟨fC,sG,sE,eO,rfl,ui,lP,mP⟩:=hl
 refine aop av [.l B] [] bp<|zD 2<|jn fun b3=>jf [0] [(b3,.cells ⟨[(.func (.yield bl) #[] #[])]⟩ 366 (0,0))] fun zo bH iQ=>zD 3<|jl (b:=b1) (off:=0) (m:=1) (vs:=[.slice fC rs.length eO]) 0 ⟨_,_,_,.inl (bH _ _ g1),rfl⟩<|zD 4<|nY<|aES [1,1,0,0] [] (fun(zz:Nat×(List Nat)×Cells)=>[(2,zP b2),(3,zP b3),(9,.slice fC rs.length eO),(10,zI (rs.length:Int)),(11,zI (zz.1:Int))]) (fun zz=>[.l (mk zz.2.1),.l zz.2.2]) (fun zz=>(zz.2.1.map ek)) (fun zz=>zz.1≤rs.length∧Inv (iT w ((nU rs).take (2*zz.1))).length zz.2.2) (fun zz=>rs.length-zz.1) (⟨0,[],B⟩) ⟨by dsimp only;omega,hB⟩ [0,1] ?_
 rintro⟨k,uV,B⟩ hI K1 bO rest
 dsimp only at hI
 refine zD 5<|zJ 12 ((k:Int) <(rs.length:Int)) (fun h4=>?_) fun h4=>?_
 ·
  refine zD 6 ?_
  obtain⟨x13,aoF⟩:=zG rs k
  refine iz eO 2 lP aoF<|jl 0 ((mP _ _ aoF).ext (oD bH))<|jn fun b5=>jd 14 [0,0,0,0,0]<|jn fun j8=>zD 4<|aES [1,1,0,0,1,1,0,0,1,1,0,0] [K1] (fun(zz:Nat×(List Nat)×Cells)=>[(2,zP b2),(3,zP b3),(9,.slice fC rs.length eO),(10,zI (rs.length:Int)),(11,zI (k:Int)),(25,.slice (some ⟨j8,0,none⟩) 2 2),(26,zI 2),(27,zI (zz.1:Int))]) (fun zz=>[.l (mk zz.2.1),.l zz.2.2,.b j8 (.cells ⟨[.string x13.f,.string x13.t,.string x13.t,.string x13.f]⟩ 367 (0,0))]) (fun zz=>(zz.2.1.map ek)) (fun zz=>zz.1≤2∧Inv (iT w ((nU rs).take (2*k+zz.1))).length zz.2.2) (fun zz=>2-zz.1) (⟨0,uV,B⟩) ⟨by dsimp only;omega,hI.2⟩ [2,3,0] ?_
  rintro⟨q,uV,B⟩ hJ K2 mr rest
  dsimp only at hJ
  refine zD 5<|zJ 28 ((q:Int) <2) (fun h5=>?_) fun h5=>?_
  ·
   refine zD 6 ?_
   obtain⟨EW,Bw⟩:=zG ([(x13.f,x13.t),(x13.t,x13.f)]:List _) q (show q <2 from by omega)
   refine iz (a:=(some ⟨j8,0,none⟩)) (b:=j8) (off:=0) 2 2 (fun _ _=>rfl) Bw<|mT (m:=2) 0 [2] [(j8,.cells ⟨([(x13.f,x13.t),(x13.t,x13.f)].map eP2).flatten⟩ 367 (0,0))] (fun s _ hZ=>xS (hZ _ (.head _)) (by intro p hp;rfl) Bw) ?_
   refine jn fun b7=>jd 3 [0] ?_
   have hpx:=Ro aoF Bw
   have hpk:=anv (hR _ (zL aoF)) Bw
   refine zD 1<|jl (b:=b2) (off:=0) (m:=1) (vs:=[.string w]) 0 ⟨_,_,_,.inl (bH _ _ g2),rfl⟩<|jd 4 [0,0]<|jc (vs:=[.string w,.string EW.1,.string EW.2]) [] (abK) ?_
   rintro _ _ ⟨arp,aro,arn,rfl,rfl⟩
   refine jg 0 [.b arp (.cells ⟨[.string w]⟩ 299 (0,0)),.b aro (.cells ⟨[.string EW.1]⟩ 9 (0,0)),.b arn (.cells ⟨[.string EW.2]⟩ 9 (0,0))]<|jf [0,1,2] ((arp,.cells ⟨[.string w]⟩ 299 (0,0))::((aro,.cells ⟨[.string EW.1]⟩ 9 (0,0))::[(arn,.cells ⟨[.string EW.2]⟩ 9 (0,0))])) fun ro8 Ac hk7=>zD 2<|jrf [] (anO (hk7 _ (.head _)) (hk7 _ (.tail _ (.head _))) (hk7 _ (.tail _ (.tail _ (.head _)))) hw hpk.1 ⟨hn,hpk.2⟩) (by rintro _ _ _ _ ⟨_,_,rfl,_⟩;rfl) (fun(zz:Cells)=>[.l zz]) (fun kk=>(fun(zz:Cells)=>Inv ((iT w ((nU rs).take (2*k+q))).length+kk) zz)) (fun jump=>(fun(zz:Cells)=>jump= .ret∧Stop zz)) B (show Inv (_+0) _ from hJ.2) [2] ?_ ?_ ?_
   ·
    rintro bl9 bd9 kk9 vs9 LL9 B ro9 hk9 axz hL hs9
    obtain⟨x9,hx9,rfl,rfl⟩:=axz
    have hu:=amM hpx hx9
    refine zD 3<|jbg<|zD 3<|jl (b:=b3) (off:=0) (m:=1) (vs:=[(.func (.yield bl) #[] #[])]) 0 ⟨_,_,_,.inl (hs9 _ _ (Ac _ _ (iQ _ (.head _)))),rfl⟩<|zD 1<|jyc [1] (hy ((iT w ((nU rs).take (2*k+q))).length+kk9) _ [] B ro9 hu.1 ⟨_,hu.2,rfl,rfl⟩ hL ((bH.trans Ac).trans hs9)) (Sub.refl _) ?_
    intro v10 Y10 aO6
    obtain⟨c10,rfl,ax2,axV⟩:=yb aO6
    refine zD 2<|js 41 (!c10) (fun S0=>?_) (fun S0=>?_)
    ·
     try simp only[zB] at S0
     refine zD 2<|jys qy0 (Sub.refl _) .ret Y10 ⟨rfl,axV (by simp_all)⟩ [1,0]
    try simp only[zB] at S0
    refine zD 2<|jyn qy0 (Sub.refl _) Y10 (ax2 (by simp_all)) [1,0]
   ·
    rintro bd9 B Z9 hL hZ9
    subst hZ9
    refine zD 1<|ja ((q:Int)+1) (by omega)<|zD 2<|jnD mr (⟨q+1,(bd9::uV),B⟩) ⟨by dsimp only;omega,by dsimp only;rw[←Nat.add_assoc,Gv hpx,List.length_append];exact hL⟩ (by dsimp only;omega) [[0,4],[2],[5]] Ac
   rintro bd9 B Z9 jump hS hZ9
   obtain⟨rfl,hS⟩:=hS
   subst hZ9
   exact jrM qm0.a.w.w.a.m (.tuple ⟨[]⟩) [0,4] [] [1] B (bH.trans Ac) ⟨[],B,rfl,rfl,.inr hS⟩
  refine zD 3<|ja ((k:Int)+1) (by omega)<|zD 2<|jnD bO (⟨k+1,uV,B⟩) ⟨by dsimp only;omega,by have:=hJ.2;dsimp only;rwa[show 2*(k+1)=2*k+q by omega]⟩ (by dsimp only;omega) [[0],[1]] (Sub.refl _)
 refine zD 2<|jrM qm0.a.w (.tuple ⟨[]⟩) [0] [] [0] B bH ⟨[],B,rfl,rfl,.inl (by have:=hI.2;rwa[show k=rs.length by omega,List.take_of_length_le (by rw[Mg];exact Nat.le_refl _)] at this)⟩
instance:LawfulBEq ByteArray where
 eq_of_beq:=fun h=>by rw[PJ] at h;exact of_decide_eq_true h
 rfl:=fun {a}=>by rw[PJ];exact decide_eq_true rfl
def dd(l:List ByteArray):List ByteArray:=l.foldl (fun a x=>if x∈a then a else a++[x]) []
theorem F6(l:List ByteArray)(x:ByteArray):dd (l++[x])=if x∈dd l then dd l else dd l++[x]:=by rw[dd,List.foldl_append];rfl
theorem azj(a:List ByteArray):∀b:List ByteArray,∃r,dd (a++b)=dd a++r:=by
 intro b
 induction b generalizing a with
 |nil=>exact⟨[],by simp⟩
 |cons x b ih=>
  obtain⟨r,hr⟩:=ih (a++[x])
  rw[show a++x::b=(a++[x])++b by simp,hr,F6]
  split
  ·exact⟨r,rfl⟩
  exact⟨x::r,by simp⟩
abbrev kvS:ByteArray→Value:=fun a=> .string a
def mF(m:List ByteArray):List (ByteArray×Value):=m.map fun x=>(x,.bool true)
theorem WV(k:ByteArray):∀(m:List ByteArray) (i:Nat),(sV k (mF m) i).map (·.2)=if k∈m then some (.bool true) else none
 | [],_=>rfl
 |x::m,i=>by
  simp only[mF,List.map_cons,sV]
  by_cases h:k=x
  ·simp[h]
  have:=WV k m (i+1)
  simp only[mF] at this
  simp[h,this]
theorem aEx{k:ByteArray}{m:List ByteArray}:R3 (.bool false) false k (mF m)= .bool (decide (k∈m)):=by
 simp only[R3,lkM,WV]
 by_cases h:k∈m<;>simp[h]
theorem atJ{k:ByteArray}{m:List ByteArray}(h:decide (k∈m)=false):mA k (.bool true) (mF m)=mF (m++[k]):=by
 have h:=of_decide_eq_false h
 have:=WV k m 0
 rw[if_neg h] at this
 simp only[mA]
 cases hf:sV k (mF m) 0 with
 |none=>simp[mF]
 |some x=>rw[hf] at this;cases this
theorem akC{l:List ByteArray}(hx:l[k]?=some x) (h:decide (x∈dd (l.take k))=true):dd (l.take (k+1))=dd (l.take k):=by
 rw[eA hx,F6,if_pos (of_decide_eq_true h)]
theorem Xe{l:List ByteArray}(hx:l[k]?=some x) (h:decide (x∈dd (l.take k))=false):dd (l.take (k+1))=dd (l.take k)++[x]:=by
 rw[eA hx,F6,if_neg (of_decide_eq_false h)]
theorem azk{l:List ByteArray}(hx:l[k]?=some x) (h:decide (x∈dd (l.take k))=false):∃r,dd l=dd (l.take k)++[x]++r:=by
 obtain⟨r,hr⟩:=azj (l.take (k+1)) (l.drop (k+1))
 rw[List.take_append_drop,Xe hx h] at hr
 exact⟨r,hr⟩
def Ay(rs:List aY)(to:ByteArray):Nat→ByteArray→List ByteArray→List (List ByteArray)
 |0,w,b=>if cQ w to=true then [b++[w]] else []
 |n+1,w,b=>(dd (j9 w rs)).flatMap fun s=>Ay rs to n s (b++[w])
theorem PB{to:ByteArray}:∀ {n:Nat} {w:ByteArray} {b x:List ByteArray},x∈Ay rs to n w b→x.length=b.length+n+1
 |0,w,b,x,h=>by
  simp only[Ay] at h
  split at h
  ·rw[List.mem_singleton] at h;subst h;simp
  cases h
 |n+1,w,b,x,h=>by
  simp only[Ay,List.mem_flatMap] at h
  obtain⟨s,_,h2⟩:=h
  have:=PB h2
  simp at this;omega
theorem amL{w:ByteArray}(hR:∀r∈rs,sb r)(hw:yj w)(h:x∈j9 w rs):yj x∧x.size≤12:=by
 simp only[j9,iT,nU,List.mem_flatMap,u2,tk,List.mem_filterMap,List.mem_range] at h
 obtain⟨p,⟨r,hr,hp⟩,i,_,hi⟩:=h
 have ht:yj p.2:=by
  simp only[List.mem_cons,List.not_mem_nil,or_false] at hp
  rcases hp with rfl|rfl
  ·exact(hR r hr).tl
  exact(hR r hr).fl
 simp only[mO] at hi
 split at hi
 ·rename_i hc
  cases hi
  exact⟨Ls hw ht,hc.2.2⟩
 cases hi
abbrev apP(L:List (List ByteArray)):(Nat→Option Obj)→Nat→List Value→Cells→Prop:=fun _ k vs LL=>∃x v,L[k]?=some x∧vs=[v]∧ay v 1 9 qd x LL
structure alB(ro:Nat→Option Obj)(bl:Nat)(rs:List aY)(to:ByteArray)(many bm bt bE br bg:Nat)(vl:Value):Prop where
 m:ro bm=some (.cells ⟨[zI (many:Int)]⟩ 3 (0,0))
 t:ro bt=some (.cells ⟨[.string to]⟩ 299 (0,0))
 y:ro bE=some (.cells ⟨[.func (.yield bl) #[] #[]]⟩ 333 (0,0))
 r:ro br=some (.cells ⟨[vl]⟩ 36 (0,0))
 g:ro bg=some (.cells ⟨[.func (.func 246) ⟨[]⟩ ⟨[zP bm,zP bt,zP bE,zP br,zP bg]⟩]⟩ 334 (0,0))
 l:bD ro vl 2 gG rs
theorem alB.up{to:ByteArray}(h:alB ro bl rs to many bm bt bE br bg vl)(hs:Sub ro aJ):alB aJ bl rs to many bm bt bE br bg vl:=
 ⟨hs _ _ h.m,hs _ _ h.t,hs _ _ h.y,hs _ _ h.r,hs _ _ h.g,h.l.up hs⟩
def asR(bl:Nat)(rs:List aY)(to:ByteArray)(many bm bt bE br bg:Nat)(vl:Value)(L:List (List ByteArray))(Inv:Nat→Cells→Prop)(Stop:Cells→Prop)(n:Nat):Prop:=
 ∀(ro:Nat→Option Obj) (w:ByteArray) (b:List ByteArray) (v:Value) (p:Nat) (B:Cells),alB ro bl rs to many bm bt bE br bg vl→bD ro v 1 qd b→b.length+n=many→yj w→w.size≤100→Part L p (Ay rs to n w b)→Inv p B→YOK zT bl ro L.length (apP L) Inv Stop→
  eg zT 246 [.string w,v,zP bm,zP bt,zP bE,zP br,zP bg] ro B (fun r Y=>∃c,r= .bool c∧(c=true→Inv (p+(Ay rs to n w b).length) Y)∧(c=false→Stop Y))
theorem avb{w:ByteArray}{b:List ByteArray}{v:Value}{p:Nat}{B:Cells}{to:ByteArray}{L:List (List ByteArray)}{Inv:Nat→Cells→Prop}(ih:∀m,m <n→asR bl rs to many bm bt bE br bg vl L Inv Stop m)(hR:∀r∈rs,sb r)(hq:rs.length≤100)(ZG:many≤100)(SL:alB ro bl rs to many bm bt bE br bg vl)(hb:bD ro v 1 qd b)(hbn:b.length+n=many)(hw:yj w)(sM:w.size≤100)(hP:Part L p (Ay rs to n w b))(hB:Inv p B)(hy:YOK zT bl ro L.length (apP L) Inv Stop):eg zT 246 [.string w,v,zP bm,zP bt,zP bE,zP br,zP bg] ro B (fun r Y=>∃c,r= .bool c∧(c=true→Inv (p+(Ay rs to n w b).length) Y)∧(c=false→Stop Y)):=by
 obtain⟨gm,gt,gy,gl,gg,hl⟩:=id SL
 obtain⟨fC,sG,sE,eO,rfl,ui,lP,mP⟩:=hl
 obtain⟨aDx,aM4,aM0,aDw,rfl,aM2,aM3,aM1⟩:=hb
 refine aop av [.l B] [] bp<|zD 2<|jn fun b9=>zD 4<|jc (vs:=[.slice aDx b.length aDw]) [] (aub (show bD _ _ _ _ _ from ⟨aDx,aM4,aM0,aDw,rfl,aM2,aM3,aM1⟩) (by first|omega| (simp only[List.length_set,zM];omega))) ?_
 rintro v14 L14 ⟨_,VV,rfl⟩
 refine zD 1<|jn fun b16=>iC (sz:=1) (ps:=b) (qs:=[w]) (enc:=qd) (w:= .slice (some ⟨b16,0,none⟩) 1 1) [1] [0] [(b16,.cells ⟨([w].map qd).flatten⟩ 9 (0,0))] (VV) (fun s _ hZ=>bL [w] (hZ _ (.head _)) (by intro p hp;rfl)) (fun p _=>ai rfl) (by simp only[List.length_cons,List.length_nil];omega) (fun v17 L17 VT=>?_)
 obtain⟨yo,yn,Ku⟩:=VT.form
 subst Ku
 refine jn fun lL=>jd 7 [0,0]<|jl (b:=bm) (off:=0) (m:=1) (vs:=[zI (many:Int)]) 0 ⟨_,_,_,.inl gm,rfl⟩<|zD 2<|zJ 21 (((b++[w]).length:Int)>(many:Int)) (fun h1=>?_) fun h1=>?_
 ·
  refine zD 2 ?_
  obtain rfl:n=0:=by simp only[zM] at*;omega
  refine zD 2<|jl (b:=bt) (off:=0) (m:=1) (vs:=[.string to]) 0 ⟨_,_,_,.inl gt,rfl⟩<|zD 2<|js 25 (!(cQ w to)) (fun h2=>?_) (fun h2=>?_)
  ·
   have mI:=h2
   try simp only[zB] at mI
   refine jd 7 [3]<|jrM qm0 (.bool true) [] [3] [4] B (Sub.refl _) ⟨_,rfl,(fun _=>by rw[show Ay rs to 0 w b=[] from if_neg (by simp_all)];exact hB),nofun⟩
  have mI:=h2
  try simp only[zB] at mI
  have ait:Ay rs to 0 w b=[b++[w]]:=if_pos (by simp_all)
  have hel:=Part.get (i:=0) (x:=b++[w]) hP (by rw[ait];rfl)
  refine jl (b:=bE) (off:=0) (m:=1) (vs:=[(.func (.yield bl) #[] #[])]) 0 ⟨_,_,_,.inl gy,rfl⟩<|jd 1 [0]<|jyc [1,4] (hy p [(.slice yo ((b++[w])).length yn)] L17 B ro hel.1 ⟨_,_,hel.2,rfl,VT⟩ hB (Sub.refl _)) (Sub.refl _) ?_
  intro v28 Y28 aO4
  obtain⟨c28,rfl,aRC,aRq⟩:=yb aO4
  refine jd 4 [3]<|jrM qm0 (.bool c28) [] [3] [0] Y28 (Sub.refl _) ⟨_,rfl,(fun h=>by rw[ait];exact aRC h),aRq⟩
 refine zD 3 ?_
 obtain⟨m,rfl⟩:∃m,n=m+1:=⟨n-1,by simp only[zM] at*;omega⟩
 refine zD 1<|jmk kvS fun r30 L30 aGk=>jn fun Uh=>jd 5 [0]<|jf [2,0,3] ((lL,.cells ⟨[(.slice yo ((b++[w])).length yn)]⟩ 99 (0,0))::((Uh,.cells ⟨[(.map (some r30))]⟩ 336 (0,0))::L17)) (fun ro5 JH hk4=>?_)
 have vM:=VT.jL hk4.tail.tail
 replace SL:=SL.up JH
 replace hy:=hy.up JH
 refine zD 1<|jl (b:=br) (off:=0) (m:=1) (vs:=[.slice fC rs.length eO]) 0 ⟨_,_,_,.inl (JH _ _ gl),rfl⟩<|jc (vs:=[.string w,.slice fC rs.length eO]) [] (au9 ((show bD _ _ _ _ _ from ⟨fC,sG,sE,eO,rfl,ui,lP,mP⟩).up JH)) ?_
 rintro _ _ ⟨ars,arq,rfl,rfl⟩
 refine jg 0 [.b ars (.cells ⟨[.string w]⟩ 299 (0,0)),.b arq (.cells ⟨[.slice fC rs.length eO]⟩ 36 (0,0))]<|jf [0,1] ((ars,.cells ⟨[.string w]⟩ 299 (0,0))::[(arq,.cells ⟨[.slice fC rs.length eO]⟩ 36 (0,0))]) fun ro8 Ac hk7=>zD 2<|jrf [] (anN (hk7 _ (.tail _ (.head _))) (SL.l.up Ac) hR (hk7 _ (.head _)) hw sM hq) (by rintro _ _ _ _ ⟨_,_,rfl,_⟩;rfl) (fun(zz:Bool×Cells×Cells)=>[.b b9 (.cells ⟨[.bool zz.1]⟩ 4 (0,0)),.l zz.2.1,.l zz.2.2]) (fun kk=>(fun(zz:Bool×Cells×Cells)=>Inv (p+((dd ((j9 w rs).take kk)).flatMap fun s=>Ay rs to m s (b++[w])).length) zz.2.2∧j5 r30 kvS (mF (dd ((j9 w rs).take kk))) zz.2.1)) (fun jump=>(fun(zz:Bool×Cells×Cells)=>jump= .ret∧(zz.1=false∧Stop zz.2.2))) (⟨false,L30,B⟩) ⟨hB,aGk⟩ [2,0,3] ?_ ?_ ?_
 ·
  rintro bl9 bd9 kk9 vs9 LL9 ⟨rv,Lm,B⟩ ro9 hk9 axz hL hs9
  obtain⟨x9,hx9,rfl,rfl⟩:=axz
  have hue:=amL hR hw (zL hx9)
  refine zD 3<|jbg<|zD 4<|jl (b:=Uh) (off:=0) (m:=1) (vs:=[(.map (some r30))]) 0 ⟨_,_,_,.inl (hs9 _ _ (Ac _ _ (hk4 _ (.tail _ (.head _))))),rfl⟩<|zD 1<|jlu (kv:=kvS) (F:=(mF (dd ((j9 w rs).take kk9)))) (r:=r30) (K:=299) x9 (.bool false) false [2] Lm (Zj (T:=299) (by kernel_rfl)) (fun s _ hZ=>hL.2.has hZ)<|jw 37 (.bool (decide (x9∈(dd ((j9 w rs).take kk9))))) aEx<|zD 1<|js 37 (decide (x9∈(dd ((j9 w rs).take kk9)))) (fun Iz=>?_) (fun Iz=>?_)
  ·
   refine zD 2<|jyn qy0 (Sub.refl _) ⟨rv,Lm,B⟩ ⟨by rw[akC hx9 (by assumption)];exact hL.1,by rw[akC hx9 (by assumption)];exact hL.2⟩ (zN 0 4)
  have tG:decide (x9∈dd ((j9 w rs).take kk9))=false:=by assumption
  obtain⟨rr,hrr⟩:=azk hx9 tG
  have aFR:=Part.flat (G:=fun s=>Ay rs to m s (b++[w])) hP hrr
  refine zD 4<|jl (b:=Uh) (off:=0) (m:=1) (vs:=[(.map (some r30))]) 0 ⟨_,_,_,.inl (hs9 _ _ (Ac _ _ (hk4 _ (.tail _ (.head _))))),rfl⟩<|zD 1<|jmu (kv:=kvS) (F:=(mF (dd ((j9 w rs).take kk9)))) (r:=r30) (K:=299) 2 x9 (.bool true) (Zj (T:=299) (by kernel_rfl)) hL.2 fun aJa aie=>zD 3<|jl (b:=bg) (off:=0) (m:=1) (vs:=[.func (.func 246) ⟨[]⟩ ⟨[zP bm,zP bt,zP bE,zP br,zP bg]⟩]) 0 ⟨_,_,_,.inl (hs9 _ _ (Ac _ _ (JH _ _ gg))),rfl⟩<|zD 1<|jl (b:=lL) (off:=0) (m:=1) (vs:=[(.slice yo ((b++[w])).length yn)]) 0 ⟨_,_,_,.inl (hs9 _ _ (Ac _ _ (hk4 _ (.head _)))),rfl⟩<|jc (vs:=[.string x9,(.slice yo ((b++[w])).length yn),zP bm,zP bt,zP bE,zP br,zP bg]) [3] (ih m (by omega) _ _ _ _ (p+((dd ((j9 w rs).take kk9)).flatMap fun s=>Ay rs to m s (b++[w])).length) _ (SL.up (Ac.trans hs9)) (vM.up (Ac.trans hs9)) (by simp only[zM];omega) hue.1 (by omega) aFR hL.1 (hy.up (Ac.trans hs9))) ?_
  rintro _ Y43 ⟨c43,rfl,aRz,aRn⟩
  refine zD 2<|js 44 (!c43) (fun JU=>?_) (fun JU=>?_)
  ·
   try simp only[zB] at JU
   refine jd 6 [3]<|jys qy0 (Sub.refl _) .ret ⟨false,aJa,Y43⟩ ⟨rfl,rfl,aRn (by simp_all)⟩ [2,3,1,0]
  try simp only[zB] at JU
  refine zD 2<|jyn qy0 (Sub.refl _) ⟨rv,aJa,Y43⟩ ⟨by rw[Xe hx9 tG,List.flatMap_append,List.length_append,←Nat.add_assoc];have:=aRz (by simp_all);simpa using this,by rw[Xe hx9 tG,←atJ tG];exact aie⟩ [2,3,1,0]
 ·
  rintro bd9 ⟨rv,Lm,B⟩ Z9 hL hZ9
  subst hZ9
  refine jd 5 [2]<|jrM qm0.a.a.m (.bool true) [0] [1] [3] B (JH.trans Ac) ⟨_,rfl,(fun _=>by have:=hL.1;rwa[List.take_of_length_le (Nat.le_refl _)] at this),nofun⟩
 rintro bd9 ⟨rv,Lm,B⟩ Z9 jump hS hZ9
 obtain⟨rfl,hS⟩:=hS
 obtain⟨rfl,hS⟩:=hS
 subst hZ9
 exact jrM qm0.a.a.m (.bool false) [0] [1] [3] B (JH.trans Ac) ⟨_,rfl,nofun,fun _=>hS⟩
theorem aEq{to:ByteArray}{L:List (List ByteArray)}{Inv:Nat→Cells→Prop}(hR:∀r∈rs,sb r)(hq:rs.length≤100)(ZG:many≤100):∀n,asR bl rs to many bm bt bE br bg vl L Inv Stop n:=by
 intro n
 induction n using Nat.strongRecOn with
 |_ n ih=>exact fun ro w b v p B hc hb hbn hw sM hP hB hy=>avb ih hR hq ZG hc hb hbn hw sM hP hB hy
theorem abL{w to:ByteArray}(g1:ro b1=some (.cells ⟨[zI (many:Int)]⟩ 3 (0,0)))(g2:ro b2=some (.cells ⟨[.string to]⟩ 299 (0,0)))(g3:ro b3=some (.cells ⟨[vl]⟩ 36 (0,0)))(g4:ro b4=some (.cells ⟨[.string w]⟩ 299 (0,0)))(hl:bD ro vl 2 gG rs)(hR:∀r∈rs,sb r)(hw:yj w)(sM:w.size≤100)(hq:rs.length≤100)(ZG:many≤100):ItX zT 245 [] [zP b1,zP b2,zP b3,zP b4] ro [] (Ay rs to many w []).length (apP (Ay rs to many w [])) (fun Z=>Z=[]):=by
 intro bl aH Inv Stop hs hy B hB
 replace g1:=hs _ _ g1
 replace g2:=hs _ _ g2
 replace g3:=hs _ _ g3
 replace g4:=hs _ _ g4
 replace hl:=hl.up hs
 have hlr:=hl
 obtain⟨fC,sG,sE,eO,rfl,ui,lP,mP⟩:=hl
 refine zC [.l B]<|zD 2<|jn fun b5=>zD 3<|jn fun b6=>jd 8 [0,0]<|jl (b:=b4) (off:=0) (m:=1) (vs:=[.string w]) 0 ⟨_,_,_,.inl g4,rfl⟩<|jf [1,0] ((b5,.cells ⟨[(.func (.yield bl) #[] #[])]⟩ 333 (0,0))::[(b6,.cells ⟨[.func (.func 246) ⟨[]⟩ ⟨[zP b1,zP b2,zP b5,zP b3,zP b6]⟩]⟩ 334 (0,0))]) fun zo bH iQ=>jc (vs:=[.string w,zS,zP b1,zP b2,zP b5,zP b3,zP b6]) [0] (aEq hR hq ZG many _ _ _ _ 0 _ ⟨bH _ _ g1,bH _ _ g2,iQ _ (.head _),bH _ _ g3,iQ _ (.tail _ (.head _)),hlr.up bH⟩ (bD.nil _ _ _ _ _) (by simp) hw sM ⟨[],[],by simp,rfl⟩ hB (YOK.up hy bH)) ?_
 rintro _ Y10 ⟨c10,rfl,ax2,axV⟩
 refine zD 1<|aO q0.a (.tuple ⟨[]⟩) [] [0] Y10 bH ⟨_,_,rfl,rfl,[],Y10,rfl,rfl,by cases c10 with|true=>exact .inl (by simpa using ax2 rfl)|false=>exact .inr (axV rfl)⟩
theorem agi{w to:ByteArray}{many:Int}(hl:bD ro vl 2 gG rs):eg zT 227 [.string w,vl,.string to,zI many] ro [] (fun r Y=>∃b4 b5 b6 b7,r= .func (.func 245) ⟨[]⟩ ⟨[zP b7,zP b6,zP b5,zP b4]⟩∧Y=[(b4,.cells ⟨[.string w]⟩ 299 (0,0)),(b5,.cells ⟨[vl]⟩ 36 (0,0)),(b6,.cells ⟨[.string to]⟩ 299 (0,0)),(b7,.cells ⟨[zI many]⟩ 3 (0,0))]):=by
 obtain⟨fC,sG,sE,eO,rfl,ui,lP,mP⟩:=hl
 refine zE<|zD 2<|jn fun b4=>jn fun b5=>jn fun b6=>jn fun b7=>zD 8<|zR (.func (.func 245) ⟨[]⟩ ⟨[zP b7,zP b6,zP b5,zP b4]⟩) [] [3,2,1,0] ((b4,.cells ⟨[.string w]⟩ 299 (0,0))::((b5,.cells ⟨[.slice fC rs.length eO]⟩ 36 (0,0))::((b6,.cells ⟨[.string to]⟩ 299 (0,0))::[(b7,.cells ⟨[zI many]⟩ 3 (0,0))]))) ⟨_,_,_,_,rfl,rfl⟩
theorem avc{L:List (List ByteArray)}(hit:ItX zT 245 [] [zP b1,zP b2,zP b3,zP b4] ro [] L.length (apP L) (fun Z=>Z=[]))(hL:∀x∈L,x.length≤1000):eg zT 226 [.func (.func 245) ⟨[]⟩ ⟨[zP b1,zP b2,zP b3,zP b4]⟩,.func (.func 228) ⟨[]⟩ ⟨[]⟩] ro [] (fun r Y=>∃v,r= .tuple ⟨[v,.bool (decide (0 <L.length))]⟩∧∃ps,ay v 1 9 qd ps Y∧(0 <L.length→ps∈L)):=by
 refine aop av [] [] bp<|zD 2<|jn fun b3=>zD 2<|jf [0] [(b3,.cells ⟨[.func (.func 228) ⟨[]⟩ ⟨[]⟩]⟩ 325 (0,0))] fun zo bH iQ=>zD 3<|jn fun b6=>zD 3<|jn fun b7=>jd 8 [0]<|nY<|jrf [] (hit.up bH) (by rintro _ _ _ _ ⟨_,_,_,rfl,_⟩;rfl) (fun(zz:Value×(List ByteArray)×Cells×Bool)=>[.b b6 (.cells ⟨[zz.1]⟩ 99 (0,0)),.b b7 (.cells ⟨[.bool zz.2.2.2]⟩ 4 (0,0)),.l zz.2.2.1]) (fun kk=>(fun(zz:Value×(List ByteArray)×Cells×Bool)=>ay zz.1 1 9 qd zz.2.1 zz.2.2.1∧zz.2.2.2=decide (0 <kk)∧(0 <kk→zz.2.1∈L)∧zz.2.1.length≤1000)) (fun jump=>(fun(zz:Value×(List ByteArray)×Cells×Bool)=>False)) (⟨zS,[],[],false⟩) ⟨ay.nil _ _ _,rfl,nofun,by simp⟩ [2,1,0] ?_ ?_ ?_
 ·
  rintro bl4 bd4 kk4 vs4 LL4 ⟨v,ps,Lb,sm⟩ ro4 hk4 axA hI eT
  obtain⟨x4,v4,hx4,rfl,ho4⟩:=axA
  have hxl:=hL _ (zL hx4)
  have Qb:=hI.2.2.2
  refine zD 3<|jbg<|jd 6 [2]<|js 13 (!sm) (fun h5=>?_) (fun h5=>?_)
  ·
   have O9:=h5
   try simp only[zB] at O9
   refine zD 10 ?_
   obtain⟨va6,vc6,he6⟩:=ho4.form
   subst he6
   refine jd 3 [1,2]<|jyn qy0 (Sub.refl _) ⟨(.slice va6 (x4).length vc6),x4,LL4,true⟩ ⟨ho4,rfl,fun _=>zL hx4,hxl⟩ [0,1,2,4]
  have O9:=h5
  try simp only[zB] at O9
  refine jl (b:=b3) (off:=0) (m:=1) (vs:=[.func (.func 228) ⟨[]⟩ ⟨[]⟩]) 0 ⟨_,_,_,.inl (eT _ _ (iQ _ (.head _))),rfl⟩<|jd 2 [1]<|jp (vs:=[v4,v]) [4,3] (LL4++Lb) (fun aH hs hZ=>aMI (ho4.jL hZ.left) (hI.1.jL hZ.right) (by first|omega| (simp only[List.length_set,zM];omega)) (by first|omega| (simp only[List.length_set,zM];omega))) ?_
  refine zD 3<|zJ 19 ((Px x4 ps) <0) (fun h7=>?_) fun h7=>?_
  ·
   refine zD 3 ?_
   obtain⟨va8,vc8,he8⟩:=ho4.form
   subst he8
   refine jd 3 [1,2]<|jyn qy0 (Sub.refl _) ⟨(.slice va8 (x4).length vc8),x4,LL4,true⟩ ⟨ho4,rfl,fun _=>zL hx4,hxl⟩ [0,1,2,4]
  refine zD 2<|jyn qy0 (Sub.refl _) ⟨v,ps,Lb,sm⟩ ⟨hI.1,by have:=hI.2.1;simp_all,fun _=>hI.2.2.1 (by have:=hI.2.1;simp_all),Qb⟩ (zN 0 4)
 ·
  rintro bd4 ⟨v,ps,Lb,sm⟩ Z4 hI hZ4
  subst hZ4
  refine jd 8 [2,3]<|jrM qm0.a.m (.tuple ⟨[v,.bool sm]⟩) [0] [] [3] Lb bH ⟨v,by rw[←hI.2.1],ps,hI.1,hI.2.2.1⟩
 rintro bd4 ⟨v,ps,Lb,sm⟩ Z4 jump hS hZ4
 exact hS.elim
abbrev eBy(x:Int):List Value:=[.int .u8 x]
theorem aIc:EF zT 294 (Extern.BytealgMakeNoZero.makeNoZero #[3] #[355]):=⟨Tryz.f294,Tryz.func294,by kernel_rfl,by kernel_rfl,by kernel_rfl,by kernel_rfl⟩
def atQ:=(nB Tryz.typeInfo355 Tryz.underlying355 rfl rfl rfl rfl rfl rfl:TF zT 355 _ 1 24 _ false)
theorem afL{T:TypeId}:ay (.slice (some ⟨b,0,none⟩) 0 l.length) 1 T eBy ([]:List Int) [(b,.cells ⟨l⟩ T (0,0))]:= .inr ⟨b,l,l.length,rfl,rfl,by simp,by simp,by simp,by simp⟩
theorem anx{v:Value}{T:TypeId}{c:Int}{L:Cells}(h:ay v 1 T eBy [c] L):∃b l cap,cap≠0∧v= .slice (some ⟨b,0,none⟩) 1 cap∧L=[(b,.cells ⟨.int .u8 c::l⟩ T (0,0))]:=by
 rcases h with ⟨_,h,_⟩| ⟨b,l,cap,h1,h2,h3,h4,_,h6⟩
 ·cases h
 simp only[List.length_cons,List.length_nil] at h1 h4 h6
 cases l with
 |nil=>simp at h3;omega
 |cons x l=>
  simp at h6;subst h6
  exact⟨b,l,cap,by omega,h1,h2⟩
def acP(n:Int):ByteArray:=⟨#[n.toNat.toUInt8]⟩
theorem aId:EF zT 293 Extern.AbiNoEscape.same:=⟨Tryz.f293,Tryz.func293,by kernel_rfl,by kernel_rfl,by kernel_rfl,by kernel_rfl⟩
theorem aIC{v:Value}:eg zT 282 [zP b] ro [(b,.cells ⟨[.pointer none,v]⟩ 357 (0,0))] (fun r Y=>Y=[(b,.cells ⟨[zP b,v]⟩ 357 (0,0))]):=by
 refine zC [.b b (.cells ⟨[.pointer none,v]⟩ 357 (0,0))]<|jd 12 [0]<|jmo [0] [0,0] [(b,.cells ⟨[.pointer none,v]⟩ 357 (0,0))] (zP b)<|jg 0 [.b b (.cells ⟨[.pointer none,v]⟩ 357 (0,0))]<|aOB (v:= zP b) aId<|jmo [0] [0,0] [(b,.cells ⟨[.pointer none,v]⟩ 357 (0,0))] (zP b)<|jg 0 [.b b (.cells ⟨[.pointer none,v]⟩ 357 (0,0))]<|jd 4 [0]<|zR (.tuple ⟨[]⟩) [] [0] [(b,.cells ⟨[zP b,v]⟩ 357 (0,0))] rfl
theorem aIB{v:Value}:eg zT 282 [zP b] ro [(b,.cells ⟨[zP b,v]⟩ 357 (0,0))] (fun r Y=>Y=[(b,.cells ⟨[zP b,v]⟩ 357 (0,0))]):=by
 refine zC [.b b (.cells ⟨[zP b,v]⟩ 357 (0,0))]<|jd 16 [0,0]<|jpn (b:=b)<|jg 0 []<|zD 3<|zR (.tuple ⟨[]⟩) [] [0] [(b,.cells ⟨[zP b,v]⟩ 357 (0,0))] rfl
theorem aIv:eg zT 283 [zP b,zI 1] ro [(b,.cells ⟨[zP b,zS]⟩ 357 (0,0))] (fun r Y=>∃v L,ay v 1 5 eBy ([]:List Int) L∧Y=(b,.cells ⟨[zP b,v]⟩ 357 (0,0))::L):=by
 refine zC [.b b (.cells ⟨[zP b,zS]⟩ 357 (0,0))]<|jd 6 [0]<|jcp (c:=0)<|jd 8 [0]<|aQ 8 fun EV EZ AV=>jnz (n:=1) aIc rfl atQ (by omega) fun bb lz hlz=>jg 0 [.b bb (.cells ⟨lz⟩ 5 (0,0))]<|eo AV [1]<|js0 (a:=⟨bb,0,none⟩) (l:=1) (c:=lz.length)<|jd 9 [1]<|jmo [] [] [] (zI 0)<|jg 0 []<|jd 8 [1]<|zR (.tuple ⟨[]⟩) [] [1,0] ((b,.cells ⟨[zP b,(.slice (some ⟨bb,0,none⟩) 0 lz.length)]⟩ 357 (0,0))::[(bb,.cells ⟨lz⟩ 5 (0,0))]) ⟨_,_,afL,rfl⟩
theorem aIA:eg zT 265 [zP b,zI 1] ro [(b,.cells ⟨[.pointer none,zS]⟩ 357 (0,0))] (fun r Y=>∃v L,ay v 1 5 eBy ([]:List Int) L∧Y=(b,.cells ⟨[zP b,v]⟩ 357 (0,0))::L):=by
 refine zC [.b b (.cells ⟨[.pointer none,zS]⟩ 357 (0,0))]<|zD 3<|jc (vs:=[zP b]) [0] (aIC (v:= zS)) ?_
 rintro _ _ rfl
 refine jg 0 [.b b (.cells ⟨[zP b,zS]⟩ 357 (0,0))]<|jd 15 [0]<|jcp (c:=0)<|jd 13 [0]<|jc (vs:=[zP b,zI 1]) [0] (aIv) ?_
 rintro _ _ ⟨v,L,hv,rfl⟩
 refine jg 0 [.b b (.cells ⟨[zP b,v]⟩ 357 (0,0)),.l L]<|zD 1<|zR (.tuple ⟨[]⟩) [] [0,1] ((b,.cells ⟨[zP b,v]⟩ 357 (0,0))::L) ⟨v,L,hv,rfl⟩
theorem aID{v:Value}{L:Cells}{c:Int}(ho:ay v 1 5 eBy ([]:List Int) L):eg zT 267 [zP b,.int .u8 c] ro ((b,.cells ⟨[zP b,v]⟩ 357 (0,0))::L) (fun r Y=>∃v' L',ay v' 1 5 eBy [c] L'∧Y=(b,.cells ⟨[zP b,v']⟩ 357 (0,0))::L'):=by
 refine zC [.b b (.cells ⟨[zP b,v]⟩ 357 (0,0)),.l L]<|zD 7<|jc (vs:=[zP b]) [0] (aIB (v:=v)) ?_
 rintro _ _ rfl
 refine jg 0 [.b b (.cells ⟨[zP b,v]⟩ 357 (0,0))]<|jd 9 [0]<|jn fun AX=>iC (sz:=1) (ps:=[]) (qs:=[c]) (enc:=eBy) (w:= .slice (some ⟨AX,0,none⟩) 1 1) [2] [0] [(AX,.cells ⟨([c].map eBy).flatten⟩ 5 (0,0))] (ho) (fun s _ hZ=>bL [c] (hZ _ (.head _)) (by intro p hp;rfl)) (fun p _=>ai rfl) (by simp) (fun v14 L14 uK=>?_)
 rw[List.nil_append] at uK
 obtain⟨A5,za,tH⟩:=uK.form
 subst tH
 refine jd 9 [2]<|zR (.nilIface) [] [2,0] ((b,.cells ⟨[zP b,(.slice A5 ([c]).length za)]⟩ 357 (0,0))::L14) ⟨_,_,uK,rfl⟩
theorem aTE{bb cap:Nat}{c:Int}(oU:cap≠0):eg zT 268 [zP b] ro [(b,.cells ⟨[zP b,.slice (some ⟨bb,0,none⟩) 1 cap]⟩ 357 (0,0)),(bb,.cells ⟨.int .u8 c::l⟩ 5 (0,0))] (fun r Y=>r= .string (acP c)):=by
 refine zC [.b b (.cells ⟨[zP b,.slice (some ⟨bb,0,none⟩) 1 cap]⟩ 357 (0,0)),.b bb (.cells ⟨.int .u8 c::l⟩ 5 (0,0))]<|jd 15 [0,0]<|aQ 4 fun EV EZ AV=>jsd (a:=⟨bb,0,none⟩) (l:=1) oU<|jg 0 []<|eo AV [0,1]<|aQ 10 fun y4 ze wZ=>jus (b:=bb) (E:=5) [1] c l fun L9=>fJ wZ [[1]]<|zD 3<|zX (.string (acP c)) rfl
def uw(u:UInt8):ByteArray:=⟨#[u]⟩
theorem apN{u:UInt8}(h:u.toNat <128):Value.string (Utf8.encode (u.toNat:Int))= .string (uw u):=by
 have hv:Utf8.valid (u.toNat:Int)=true:=by simp only[Utf8.valid];simp;omega
 simp only[Utf8.encode,hv,if_true,Int.toNat_natCast,if_pos (show u.toNat <0x80 from h),uw]
 simp
theorem aHN{u:UInt8}(hu:(97≤u.toNat∧u.toNat≤122)):dK zT 244 [.string (uw u)] ro (.string (uw u)):=by
 have uI:(uw u).size=1:=rfl
 refine zE<|zD 15<|dV [1,1,0,1,0,0] [] (fun(zz:Nat×Bool)=>[(0,.string (uw u)),(2,.string (bs [])),(3,.bool true),(4,.bool zz.2),(5,zI (zz.1:Int))]) (fun zz=>[]) (fun zz=>(zz.1=0∧zz.2=false)∨(zz.1=1∧zz.2=false)) (fun zz=>1-zz.1) (⟨0,false⟩) (.inl ⟨rfl,rfl⟩) [] ?_
 rintro⟨i,q⟩ hI K1 bO rest
 dsimp only at hI
 refine zD 8<|zJ 14 ((i:Int) <((uw u).size:Int)) (fun h1=>?_) fun h1=>?_
 ·
  refine zD 5 ?_
  obtain⟨hi0,ZB⟩:i=0∧q=false:=by rcases hI with h|h;exact h;omega
  refine jw 5 (zI 0) (show Value.int .i64 (i:Int)= zI 0 by rw[hi0];rfl) ?_
  refine jw 4 (.bool false) (show Value.bool q= .bool false by rw[ZB])<|zD 12<|zJ 21 ((u.toNat:Int)≥128) (fun h2=>?_) fun h2=>?_
  ·
   exfalso;omega
  refine zD 8<|js 26 (decide (65≤(u.toNat:Int))) (fun h3=>?_) (fun h3=>?_)
  ·
   have xd:=h3
   replace xd:=of_decide_eq_true xd
   refine zD 11<|bA bO (⟨1,decide ((u.toNat:Int)≤90)⟩) (.inr ⟨rfl,decide_eq_false (by omega)⟩) (by dsimp only;omega) [] (Sub.refl _)
  have xd:=h3
  replace xd:=of_decide_eq_false xd
  exfalso;omega
 refine zD 4 ?_
 obtain⟨hi1,hq1⟩:i=1∧q=false:=by rcases hI with h|h;omega;exact h
 refine jw 4 (.bool false) (show Value.bool q= .bool false by rw[hq1])<|zD 17<|zX (.string (uw u)) ⟨rfl,rfl⟩
theorem aHM{u:UInt8}(hu:(65≤u.toNat∧u.toNat≤90)):dK zT 244 [.string (uw u)] ro (.string (acP (IntKind.u8.wrap ((u.toNat:Int)+32)))):=by
 have uI:(uw u).size=1:=rfl
 refine zE<|zD 15<|dV [1,1,0,1,0,0] [] (fun(zz:Nat×Bool)=>[(0,.string (uw u)),(2,.string (bs [])),(3,.bool true),(4,.bool zz.2),(5,zI (zz.1:Int))]) (fun zz=>[]) (fun zz=>(zz.1=0∧zz.2=false)∨(zz.1=1∧zz.2=true)) (fun zz=>1-zz.1) (⟨0,false⟩) (.inl ⟨rfl,rfl⟩) [] ?_
 rintro⟨i,q⟩ hI K1 bO rest
 dsimp only at hI
 refine zD 8<|zJ 14 ((i:Int) <((uw u).size:Int)) (fun h1=>?_) fun h1=>?_
 ·
  refine zD 5 ?_
  obtain⟨hi0,ZB⟩:i=0∧q=false:=by rcases hI with h|h;exact h;omega
  refine jw 5 (zI 0) (show Value.int .i64 (i:Int)= zI 0 by rw[hi0];rfl) ?_
  refine jw 4 (.bool false) (show Value.bool q= .bool false by rw[ZB])<|zD 12<|zJ 21 ((u.toNat:Int)≥128) (fun h2=>?_) fun h2=>?_
  ·
   exfalso;omega
  refine zD 8<|js 26 (decide (65≤(u.toNat:Int))) (fun h3=>?_) (fun h3=>?_)
  ·
   have xd:=h3
   replace xd:=of_decide_eq_true xd
   refine zD 11<|bA bO (⟨1,decide ((u.toNat:Int)≤90)⟩) (.inr ⟨rfl,decide_eq_true (by omega)⟩) (by dsimp only;omega) [] (Sub.refl _)
  have xd:=h3
  replace xd:=of_decide_eq_false xd
  exfalso;omega
 refine zD 4 ?_
 obtain⟨hi1,hq1⟩:i=1∧q=true:=by rcases hI with h|h;omega;exact h
 refine jw 4 (.bool true) (show Value.bool q= .bool true by rw[hq1])<|zD 14<|jn fun b7=>zD 9<|jc (vs:=[zP b7,zI 1]) [0] (aIA) ?_
 rintro _ _ ⟨v,L,hv,rfl⟩
 refine jg 0 [.b b7 (.cells ⟨[zP b7,v]⟩ 357 (0,0)),.l L]<|zD 7<|dV [1,1,1,0,1,0,1,1,1,1,0,1,0,0] [] (fun(zz:Nat×Int×Value×Cells×(List Int))=>[(0,.string (uw u)),(2,.string (bs [])),(7,zP b7),(8,zI zz.2.1),(9,zI (zz.1:Int))]) (fun zz=>[.b b7 (.cells ⟨[zP b7,zz.2.2.1]⟩ 357 (0,0)),.l zz.2.2.2.1]) (fun zz=>ay zz.2.2.1 1 5 eBy zz.2.2.2.2 zz.2.2.2.1∧((zz.1=0∧zz.2.1=0∧zz.2.2.2.2=[])∨(zz.1=1∧zz.2.1=1∧zz.2.2.2.2=[(IntKind.u8.wrap ((u.toNat:Int)+32))]))) (fun zz=>1-zz.1) (⟨0,0,v,L,[]⟩) ⟨hv,.inl ⟨rfl,rfl,rfl⟩⟩ [0,1] ?_
 rintro⟨j,p,v,L,xs⟩ hJ K2 mr rest
 dsimp only at hJ
 refine zD 8<|zJ 41 ((j:Int) <((uw u).size:Int)) (fun h4=>?_) fun h4=>?_
 ·
  refine zD 5 ?_
  obtain⟨hj0,hp0,HO⟩:j=0∧p=0∧xs=[]:=by rcases hJ.2 with h|h;exact h;omega
  refine jw 9 (zI 0) (show Value.int .i64 (j:Int)= zI 0 by rw[hj0];rfl) ?_
  refine jw 8 (zI 0) (show Value.int .i64 p= zI 0 by rw[hp0])<|zD 11<|js 49 (decide (65≤(u.toNat:Int))) (fun h5=>?_) (fun h5=>?_)
  ·
   have O9:=h5
   replace O9:=of_decide_eq_true O9
   refine zD 4<|zJ 52 ((u.toNat:Int)≤90) (fun h6=>?_) fun h6=>?_
   ·
    refine zD 19<|jc (vs:=[zP b7,.int .u8 (IntKind.u8.wrap ((u.toNat:Int)+32))]) [0,1] (aID (by have:=hJ.1;rwa[HO] at this)) ?_
    rintro _ _ ⟨v2,L2,JI,rfl⟩
    refine jg 0 [.b b7 (.cells ⟨[zP b7,v2]⟩ 357 (0,0)),.l L2]<|zD 11<|bA mr (⟨1,1,v2,L2,[(IntKind.u8.wrap ((u.toNat:Int)+32))]⟩) ⟨JI,.inr ⟨rfl,rfl,rfl⟩⟩ (by dsimp only;omega) [0,1] (Sub.refl _)
   exfalso;omega
  have O9:=h5
  replace O9:=of_decide_eq_false O9
  exfalso;omega
 refine zD 4 ?_
 obtain⟨hj1,hp1,hx1⟩:j=1∧p=1∧xs=[(IntKind.u8.wrap ((u.toNat:Int)+32))]:=by rcases hJ.2 with h|h;omega;exact h
 refine jw 8 (zI 1) (show Value.int .i64 p= zI 1 by rw[hp1])<|zD 9 ?_
 obtain⟨bb,lz,cap,oU,rfl,rfl⟩:=anx (by have:=hJ.1;rwa[hx1] at this)
 refine zD 1<|jc (vs:=[zP b7]) [0,1] (aTE (bb:=bb) (l:=lz) (c:=(IntKind.u8.wrap ((u.toNat:Int)+32))) oU) ?_
 rintro _ Yz rfl
 refine zD 3<|zX (.string (acP (IntKind.u8.wrap ((u.toNat:Int)+32)))) ⟨rfl,rfl⟩
def agA(u:UInt8):ByteArray:=if u.toNat <97 then acP (IntKind.u8.wrap ((u.toNat:Int)+32)) else uw u
theorem aS5{u:UInt8}(h:Hx u=true∨Hf u=true):dK zT 244 [.string (uw u)] ro (.string (agA u)):=by
 unfold agA
 rcases h with h|h
 ·simp only[Hx,Bool.and_eq_true,Nat.ble_eq] at h
  rw[if_neg (by omega)]
  exact aHN (by omega)
 simp only[Hf,Bool.and_eq_true,Nat.ble_eq] at h
 rw[if_pos (by omega)]
 exact aHM (by omega)
def uqN(rs:List aY)(a to:ByteArray):Nat→Nat→Option Nat
 |0,_=>none
 |f+1,m=>bif decide (0 <(Ay rs to m a []).length) then some m else uqN rs a to f (m+1)
def uq(rs:List aY)(a to:ByteArray):Option Nat:=uqN rs a to 3 0
def iZ(c:UInt8):ByteArray:=if c.toNat=67 then bs [99,104] else if c.toNat=74 then bs [106,117] else if c.toNat=89 then bs [106,97] else if c.toNat=88 then bs [115,104] else if c.toNat <97 then bs [c.toNat+32] else bs [c.toNat]
def E7:List UInt8→ByteArray→ByteArray
 | [],a=>a
 |c::l,a=>E7 l (a++iZ c)
def keyOf(w:ByteArray):ByteArray:=E7 w.data.toList (bs [])
theorem an9{l:List UInt8}{c:UInt8}{a:ByteArray}(h:l[k]?=some c):E7 (l.drop k) a=E7 (l.drop (k+1)) (a++iZ c):=by rw[eX h];rfl
theorem agN{l:List UInt8}{a:ByteArray}(h:l[k]?=none):E7 (l.drop k) a=a:=by rw[eE (by rw[List.getElem?_eq_none_iff] at h;omega)];rfl
def qt(rs:List aY)(a b:ByteArray):Int:=match uq rs (keyOf a) (keyOf b) with
 |none=>2
 |some 0=>1
 |some _=>3
structure ri(w:ByteArray):Prop where
 n:1≤w.size∧w.size≤6
 s:Script w
def R6(c:UInt8):Prop:=Hx c=true∨Hf c=true
theorem ri.let{w:ByteArray}(h:ri w):∀c∈w.data.toList,R6 c:=fun c hc=>h.s.elim (fun k=> .inl (k c hc)) fun k=> .inr (k c hc)
theorem aa1:((List.range 256).all fun n=> !(Hx (UInt8.ofNat n)||Hf (UInt8.ofNat n))||(an0 (iZ (UInt8.ofNat n))&&(Nat.ble 1 (iZ (UInt8.ofNat n)).size&&Nat.ble (iZ (UInt8.ofNat n)).size 2)))=true:=by kernel_rfl
theorem GJ{c:UInt8}(h:R6 c):yj (iZ c)∧1≤(iZ c).size∧(iZ c).size≤2:=by
 have h2:=List.all_eq_true.1 aa1 c.toNat (List.mem_range.2 c.toNat_lt)
 have hb:UInt8.ofNat c.toNat=c:=by simp
 rw[hb] at h2
 have h3:(Hx c||Hf c)=true:=by rcases h with h|h<;>simp[h]
 rw[h3] at h2
 simp only[Bool.not_true,Bool.false_or,Bool.and_eq_true,Nat.ble_eq] at h2
 exact⟨Ht h2.1,h2.2⟩
theorem Zk:∀ {l:List UInt8} {a:ByteArray},(∀c∈l,R6 c)→yj a→yj (E7 l a)∧(E7 l a).size≤a.size+2*l.length
 | [],a,_,ha=>⟨ha,by simp[E7]⟩
 |c::l,a,h,ha=>by
  have h1:=GJ (h c (by simp))
  obtain⟨h2,h3⟩:=Zk (l:=l) (a:=a++iZ c) (fun x hx=>h x (by simp[hx])) (ha.app h1.1)
  refine⟨h2,?_⟩
  simp only[E7,ByteArray.size_append,List.length_cons] at h3 ⊢
  omega
theorem Hz{w:ByteArray}(h:ri w):yj (keyOf w)∧(keyOf w).size≤12:=by
 have h1:=Zk (l:=w.data.toList) (a:=bs []) h.let (fun b hb=>by cases hb)
 have h2:w.data.toList.length=w.size:=Array.length_toList
 have h3:=h.n
 exact⟨h1.1,by have:=h1.2;have e:(bs []).size=0:=rfl;unfold keyOf;omega⟩
theorem anZ{c:UInt8}(h:R6 c)(h1:¬(c.toNat:Int)=67)(h2:¬(c.toNat:Int)=74)(h3:¬(c.toNat:Int)=89)(h4:¬(c.toNat:Int)=88):agA c=iZ c:=by
 simp only[agA,iZ,if_neg (show ¬c.toNat=67 by omega),if_neg (show ¬c.toNat=74 by omega),if_neg (show ¬c.toNat=89 by omega),if_neg (show ¬c.toNat=88 by omega)]
 split
 ·simp only[acP,bs]
  rw[sX .u8 rfl _ (by omega) (by simp[IntKind.bits];omega),show ((c.toNat:Int)+32).toNat=c.toNat+32 by omega]
  rfl
 simp[uw,bs]
theorem let_128{c:UInt8}(h:R6 c):c.toNat <128:=by
 rcases h with h|h
 ·simp only[Hx,Bool.and_eq_true,Nat.ble_eq] at h;omega
 simp only[Hf,Bool.and_eq_true,Nat.ble_eq] at h;omega
theorem ava{c:UInt8}(h:R6 c):dK zT 225 [.int .i32 (c.toNat:Int)] ro (.string (iZ c)):=by
 refine zE<|zD 29<|zJ 5 ((c.toNat:Int)=67) (fun h1=>?_) fun h1=>?_
 ·
  refine zD 8<|zX (.string (bs [99,104])) ⟨by rw[iZ,if_pos (by omega)]<;>rfl,rfl⟩
 refine zD 8<|zJ 7 ((c.toNat:Int)=74) (fun h2=>?_) fun h2=>?_
 ·
  refine zD 17<|jsa (a:=(bs [106])) (b:=(bs [117])) 9 (by decide)<|zD 3<|zX (.string ((bs [106])++(bs [117]))) ⟨by rw[iZ,if_neg (by omega),if_pos (by omega)]<;>rfl,rfl⟩
 refine zD 8<|zJ 9 ((c.toNat:Int)=89) (fun h3=>?_) fun h3=>?_
 ·
  refine zD 16<|jsa (a:=(bs [106])) (b:=(bs [97])) 9 (by decide)<|zD 3<|zX (.string ((bs [106])++(bs [97]))) ⟨by rw[iZ,if_neg (by omega),if_neg (by omega),if_pos (by omega)]<;>rfl,rfl⟩
 refine zD 7<|zJ 11 ((c.toNat:Int)=88) (fun h4=>?_) fun h4=>?_
 ·
  refine zD 8<|zX (.string (bs [115,104])) ⟨by rw[iZ,if_neg (by omega),if_neg (by omega),if_neg (by omega),if_pos (by omega)]<;>rfl,rfl⟩
 refine zD 6<|je (.string (uw c)) (apN (let_128 h))<|jp (vs:=[.string (uw c)]) [] [] (fun aH hs hZ=>(aS5 h))<|zD 3<|zX (.string (agA c)) ⟨by rw[anZ h (by omega) (by omega) (by omega) (by omega)],rfl⟩
theorem anR{w to:ByteArray}(hl:bD ro vl 2 gG rs)(hR:∀r∈rs,sb r)(hw:yj w)(sM:w.size≤100)(hq:rs.length≤100):eg zT 206 [.string w,vl,.string to] ro [] (fun r Y=>(∃n v ps,uq rs w to=some n∧r= .tuple ⟨[v,.bool true]⟩∧ay v 1 9 qd ps Y∧ps.length=n+1)∨(uq rs w to=none∧r= .tuple ⟨[zS,.bool false]⟩∧Y=[])):=by
 obtain⟨fC,sG,sE,eO,rfl,ui,lP,mP⟩:=hl
 refine zE<|zD 11<|dV [1,0,1,0,0] [] (fun(zz:Nat)=>[(0,.string w),(1,.slice fC rs.length eO),(2,.string to),(11,zI (zz:Int))]) (fun zz=>[]) (fun zz=>zz≤3∧uq rs w to=uqN rs w to (3-zz) zz) (fun zz=>3-zz) 0 ⟨by omega,rfl⟩ [] ?_
 rintro k hI K1 bO rest
 refine zD 5<|zJ 12 ((k:Int) <3) (fun h1=>?_) fun h1=>?_
 ·
  refine zD 15<|jc (vs:=[.string w,.slice fC rs.length eO,.string to,zI (k:Int)]) [] (agi (show bD _ _ _ _ _ from ⟨fC,sG,sE,eO,rfl,ui,lP,mP⟩)) ?_
  rintro _ _ ⟨agy,agx,agw,agv,rfl,rfl⟩
  refine jg 0 [.b agy (.cells ⟨[.string w]⟩ 299 (0,0)),.b agx (.cells ⟨[.slice fC rs.length eO]⟩ 36 (0,0)),.b agw (.cells ⟨[.string to]⟩ 299 (0,0)),.b agv (.cells ⟨[zI (k:Int)]⟩ 3 (0,0))]<|jf (zN 0 4) ((agy,.cells ⟨[.string w]⟩ 299 (0,0))::((agx,.cells ⟨[.slice fC rs.length eO]⟩ 36 (0,0))::((agw,.cells ⟨[.string to]⟩ 299 (0,0))::[(agv,.cells ⟨[zI (k:Int)]⟩ 3 (0,0))]))) fun ro4 oS hk3=>jc (vs:=[.func (.func 245) ⟨[]⟩ ⟨[zP agv,zP agw,zP agx,zP agy]⟩,.func (.func 228) ⟨[]⟩ ⟨[]⟩]) [] (avc (abL (hk3 _ (.tail _ (.tail _ (.tail _ (.head _))))) (hk3 _ (.tail _ (.tail _ (.head _)))) (hk3 _ (.tail _ (.head _))) (hk3 _ (.head _)) ((show bD _ _ _ _ _ from ⟨fC,sG,sE,eO,rfl,ui,lP,mP⟩).up oS) hR hw sM hq (by omega)) (fun x hx=>by have:=PB hx;simp at this;omega)) ?_
  rintro _ L20 ⟨v20,rfl,aNS,aQf,aw1⟩
  refine zD 10<|js 23 (decide (0 <(Ay rs to k w []).length)) (fun h5=>?_) (fun h5=>?_)
  ·
   refine zD 8<|aO q0.a (.tuple ⟨[v20,.bool true]⟩) [] [0] L20 oS ⟨_,_,rfl,rfl,.inl ⟨k,v20,aNS,by rw[hI.2,show 3-k=(3-(k+1))+1 by omega,uqN,h5];rfl,rfl,aQf,by have:=PB (aw1 (of_decide_eq_true h5));simpa using this⟩⟩
  refine zD 3<|ja ((k:Int)+1) (by omega)<|zD 2<|bA bO (k+1) ⟨by omega,by rw[hI.2,show 3-k=(3-(k+1))+1 by omega,uqN,h5];rfl⟩ (by omega) [] oS
 refine zD 8<|zX (.tuple ⟨[zS,.bool false]⟩) (.inr ⟨by rw[hI.2,show 3-k=0 by omega];rfl,rfl,rfl⟩)
theorem avo{c:UInt8}(h:R6 c):c.toNat <128:=by
 rcases h with h|h
 ·simp only[Hx,Bool.and_eq_true,Nat.ble_eq] at h;omega
 simp only[Hf,Bool.and_eq_true,Nat.ble_eq] at h;omega
theorem avd{w to:ByteArray}(hl:bD ro vl 2 gG rs)(hR:∀r∈rs,sb r)(hw:yj w)(sM:w.size≤100)(hq:rs.length≤100):eg zT 206 [.string w,vl,.string to] ro [] (fun r Y=>∃v ps ok,r= .tuple ⟨[v,.bool ok]⟩∧ay v 1 9 qd ps Y∧(ok=true→uq rs w to=some (ps.length-1)∧1≤ps.length)∧(ok=false→uq rs w to=none)):=by
 refine(anR hl hR hw sM hq).mono fun _ _ h=>?_
 rcases h with ⟨n,v,ps,h1,h2,h3,h4⟩| ⟨h1,h2,h3⟩
 ·exact⟨v,ps,true,h2,h3,fun _=>⟨by rw[h4];exact h1,by omega⟩,nofun⟩
 subst h3;exact⟨_,[],false,h2,ay.nil _ _ _,nofun,fun _=>h1⟩
def uN(rs:List aY)(a b:ByteArray):Int:=match uq rs a b with
 |some n=>n
 |none=>0
def uE(rs:List aY)(a b:ByteArray):Int:=match uq rs a b with
 |some _=>0
 |none=>11
theorem aqG{a to:ByteArray}:∀ {f m n:Nat},uqN rs a to f m=some n→n <m+f
 |0,_,_,h=>by cases h
 |f+1,m,n,h=>by
  simp only[uqN] at h
  cases hd:decide (0 <(Ay rs to m a []).length) with
  |true=>rw[hd] at h;simp only[cond_true,Option.some.injEq] at h;omega
  |false=>rw[hd] at h;simp only[cond_false] at h;have:=aqG h;omega
theorem nOf{w:ByteArray}(hw:ri w):dK zT 205 [.string w] ro (.string (keyOf w)):=by
 refine zE<|zD 12<|jn fun r7=>zD 2<|dV [1,1,0,1,0,0] [] (fun(zz:Nat×ByteArray)=>[(2,.string (bs [])),(3,.string zz.2),(7,zP r7)]) (fun zz=>[.b r7 (.stringIter w zz.1)]) (fun zz=>(zz.1≤w.data.toList.length∧zz.2.size≤2*zz.1)∧keyOf w=E7 (w.data.toList.drop zz.1) zz.2) (fun zz=>w.data.toList.length-zz.1) (⟨0,(bs [])⟩) ⟨⟨by omega,Nat.le_refl _⟩,rfl⟩ [0] ?_
 rintro⟨p,a⟩ hI K1 bO rest
 dsimp only at hI
 refine zD 2 ?_
 cases hn8:w.data.toList[p]? with
 |some x8=>
  refine jnA r7 0 hn8 (avo (hw.let _ (zL hn8)))<|zD 11 ?_
  have hso:=GJ (hw.let _ (zL hn8))
  have hlen:w.data.toList.length=w.size:=Array.length_toList
  have hwn:=hw.n
  refine zD 3<|jp (vs:=[.int .i32 (x8.toNat:Int)]) [] [] (fun aH hs hZ=>(ava (hw.let _ (zL hn8))))<|jsa (a:=a) (b:=(iZ x8)) 9 (by omega)<|zD 2<|bA bO (⟨p+1,(a++iZ x8)⟩) ⟨⟨by have:=(List.getElem?_eq_some_iff.1 hn8).1;dsimp only;omega,by dsimp only;rw[ByteArray.size_append];omega⟩,by rw[hI.2,an9 hn8]⟩ (by have:=(List.getElem?_eq_some_iff.1 hn8).1;dsimp only;omega) [0] (Sub.refl _)
 |none=>
  refine jnZ r7 0 hn8<|zD 11<|zX (.string a) ⟨by rw[hI.2,agN hn8],rfl⟩
theorem anQ(hl:bD ro vl 2 gG rs)(hR:∀r∈rs,sb r)(hq:rs.length≤4)(FW:ri na)(Dh:ri nb):eg zT 165 [vl,.string na,.string nb] ro [] (fun r Y=>∃v ps e,r= .tuple ⟨[v,zI e]⟩∧ay v 1 9 qd ps Y∧ps.length≤3∧((e=0∧uq rs (keyOf na) (keyOf nb)=some (ps.length-1)∧1≤ps.length)∨(e=11∧uq rs (keyOf na) (keyOf nb)=none))):=by
 obtain⟨fC,sG,sE,eO,rfl,ui,lP,mP⟩:=hl
 refine zE<|zD 9<|jp (vs:=[.slice fC rs.length eO]) [] [] (fun aH hs hZ=>abJ ((show bD _ _ _ _ _ from ⟨fC,sG,sE,eO,rfl,ui,lP,mP⟩).up hs) (by omega) hR)<|zD 14<|jn fun Jm=>jp (vs:=[.slice (some ⟨Jm,0,none⟩) 2 2]) [0] [(Jm,.cells ⟨([na,nb].map qd).flatten⟩ 9 (0,0))] (fun aH hs hZ=>agh (bK [na,nb] hZ.head (by intro p hp;rfl)) (by first|omega| (simp only[List.length_set,zM];omega)) (by intro x hx;simp only[List.mem_cons,List.not_mem_nil,or_false] at hx;rcases hx with rfl|rfl;exact⟨FW.n,FW.s⟩;exact⟨Dh.n,Dh.s⟩)) ?_
 refine zD 12<|jp (vs:=[.string na]) [] [] (fun aH hs hZ=>(nOf FW))<|zD 2<|jp (vs:=[.string nb]) [] [] (fun aH hs hZ=>(nOf Dh))<|jc (vs:=[.string (keyOf na),.slice fC rs.length eO,.string (keyOf nb)]) [] (avd (show bD _ _ _ _ _ from ⟨fC,sG,sE,eO,rfl,ui,lP,mP⟩) hR (Hz FW).1 (by have:=(Hz FW).2;omega) (by omega)) ?_
 rintro _ L30 ⟨v30,aNR,aN1,rfl,Df,av4,aOT⟩
 refine zD 12<|js 34 (!aN1) (fun h1=>?_) (fun h1=>?_)
 ·
  try simp only[zB] at h1
  refine zD 7<|zX (.tuple ⟨[zS,zI 11]⟩) ⟨_,[],_,rfl,ay.nil _ _ _,by simp,.inr ⟨rfl,aOT (by simp_all)⟩⟩
 try simp only[zB] at h1
 refine zD 9<|zR (.tuple ⟨[v30,zI 0]⟩) [] [0] L30 ⟨_,aNR,_,rfl,Df,by have:=aqG (av4 (by simp_all)).1;have:=(av4 (by simp_all)).2;omega,.inl ⟨rfl,av4 (by simp_all)⟩⟩
theorem aEo(hl:bD ro vl 2 gG rs)(hR:∀r∈rs,sb r)(hq:rs.length≤4)(FW:ri na)(Dh:ri nb):dK zT 122 [vl,.string na,.string nb] ro (.tuple ⟨[zI (uN rs (keyOf na) (keyOf nb)),zI (uE rs (keyOf na) (keyOf nb))]⟩):=by
 obtain⟨fC,sG,sE,eO,rfl,ui,lP,mP⟩:=hl
 refine zE<|zD 10<|jc (vs:=[.slice fC rs.length eO,.string na,.string nb]) [] (anQ (show bD _ _ _ _ _ from ⟨fC,sG,sE,eO,rfl,ui,lP,mP⟩) hR hq FW Dh) ?_
 rintro _ L14 ⟨v14,aDY,Pq,rfl,VV,bbd,tH⟩
 refine zD 12<|js 18 (!decide (Pq=0)) (fun h1=>?_) (fun h1=>?_)
 ·
  replace h1:=of_decide_eq_false (by simpa using h1)
  refine zD 8<|zX (.tuple ⟨[zI 0,zI Pq]⟩) ⟨by rcases tH with ⟨h1,h2,h3⟩| ⟨h1,h2⟩<;>simp only[uN,uE,h2]<;>(subst h1;simp_all<;>omega),rfl⟩
 replace h1:=of_decide_eq_true (by simpa using h1)
 refine zD 5<|yJ VV<|ja ((aDY.length:Int)-1) (by omega)<|zD 4<|zX (.tuple ⟨[zI ((aDY.length:Int)-1),zI 0]⟩) ⟨by rcases tH with ⟨h1,h2,h3⟩| ⟨h1,h2⟩<;>simp only[uN,uE,h2]<;>(subst h1;simp_all<;>omega),rfl⟩
theorem RL(hl:bD ro vl 2 gG rs)(hR:∀r∈rs,sb r)(hq:rs.length≤4)(FW:ri na)(Dh:ri nb):dK zT 97 [vl,.string na,.string nb] ro (.tuple ⟨[zI (qt rs na nb),zI 0]⟩):=by
 obtain⟨fC,sG,sE,eO,rfl,ui,lP,mP⟩:=hl
 refine zE<|zD 10<|jp (vs:=[.slice fC rs.length eO,.string na,.string nb]) [] [] (fun aH hs hZ=>aEo ((show bD _ _ _ _ _ from ⟨fC,sG,sE,eO,rfl,ui,lP,mP⟩).up hs) hR hq FW Dh)<|zD 14<|zJ 17 ((uE rs (keyOf na) (keyOf nb))=11) (fun h1=>?_) fun h1=>?_
 ·
  refine zD 7<|zX (.tuple ⟨[zI 2,zI 0]⟩) ⟨by simp only[uN,uE,qt] at*;rcases huq:uq rs (keyOf na) (keyOf nb) with _|_|n<;>simp_all<;>omega,rfl⟩
 refine zD 7<|js 20 (!decide ((uE rs (keyOf na) (keyOf nb))=0)) (fun h2=>?_) (fun h2=>?_)
 ·
  replace h2:=of_decide_eq_false (by simpa using h2)
  refine zD 8<|zX (.tuple ⟨[zI 0,zI (uE rs (keyOf na) (keyOf nb))]⟩) ⟨by simp only[uN,uE,qt] at*;rcases huq:uq rs (keyOf na) (keyOf nb) with _|_|n<;>simp_all<;>omega,rfl⟩
 replace h2:=of_decide_eq_true (by simpa using h2)
 refine zD 7<|zJ 24 ((uN rs (keyOf na) (keyOf nb))=0) (fun h3=>?_) fun h3=>?_
 ·
  refine zD 7<|zX (.tuple ⟨[zI 1,zI 0]⟩) ⟨by simp only[uN,uE,qt] at*;rcases huq:uq rs (keyOf na) (keyOf nb) with _|_|n<;>simp_all<;>omega,rfl⟩
 refine zD 8<|zX (.tuple ⟨[zI 3,zI 0]⟩) ⟨by simp only[uN,uE,qt] at*;rcases huq:uq rs (keyOf na) (keyOf nb) with _|_|n<;>simp_all<;>omega,rfl⟩
abbrev Ug(x:Int):List Value:=[.int .u8 x]
structure bI where
 c:Nat→Nat→Bool
abbrev BZ(x:bI):List Value:=[.bool (x.c 0 0),.bool (x.c 0 1),.bool (x.c 0 2),.bool (x.c 0 3),.bool (x.c 1 0),.bool (x.c 1 1),.bool (x.c 1 2),.bool (x.c 1 3),.bool (x.c 2 0),.bool (x.c 2 1),.bool (x.c 2 2),.bool (x.c 2 3),.bool (x.c 3 0),.bool (x.c 3 1),.bool (x.c 3 2),.bool (x.c 3 3)]
def m9(cs:List bP):Nat→List Int
 |0=>[]
 |k+1=>m9 cs k++[match cs[k]? with
  |some c=>if 0≤c.under then MG .u8 (MG .u8 0 (dG .u8 1 k)) ((m9 cs k)[c.under.toNat]?.getD 0) else MG .u8 0 (dG .u8 1 k)
  |none=>0]
theorem pe(cs:List bP):∀k,(m9 cs k).length=k
 |0=>rfl
 |k+1=>by simp[m9,pe cs k]
theorem ap1{c:bP}{y:Int}(h:cs[k]?=some c) (hu:0≤c.under) (hy:(m9 cs k)[c.under.toNat]?=some y):m9 cs (k+1)=m9 cs k++[MG .u8 (MG .u8 0 (dG .u8 1 k)) y]:=by
 simp only[m9,h,if_pos hu,hy,Option.getD_some]
theorem ap2{c:bP}(h:cs[k]?=some c) (hu:¬0≤c.under):m9 cs (k+1)=m9 cs k++[MG .u8 0 (dG .u8 1 k)]:=by
 simp only[m9,h,if_neg hu]
def agz(s:Int):Nat→Int
 |0=> -1
 |k+1=>bif hasB s k then k else agz s k
def wK(cs:List bP)(a b:Int):Int:=agz (Kj .u8 ((m9 cs cs.length)[a.toNat]?.getD 0) ((m9 cs cs.length)[b.toNat]?.getD 0)) cs.length
def aam(hd:List cd)(h:Int):Int:=match hd[h.toNat]? with
 |some x=>x.cls
 |none=>0
def jz(K:aB)(x y:ah):Bool:=decide (qt K.rules x.name y.name=2)
def kG(K:aB)(x y:ah):Bool:=if (x.head <0∨y.head <0)∨x.head=y.head then false else decide (wK K.cs (aam K.hd x.head) (aam K.hd y.head) <0)
def yq(on:Int)(a b:Int):List bZ→Nat→Bool
 | [],_=>false
 |x::l,k=>(((hasB on k&&decide (x.a=a))&&decide (x.b=b))&& !x.same)||yq on a b l (k+1)
def dv(K:aB)(on:Int)(a b:Nat):Bool:=match K.before[a]?,K.after[b]? with
 |some x,some y=> !jz K x y&&(!kG K x y&& !yq on a b K.facts 0)
 |_,_=>false
structure eR(K:aB):Prop where
 rules:K.rules.length≤4∧∀r∈K.rules,sb r
 before:K.before.length≤4∧∀p∈K.before,ri p.name∧mb K.hd p.head
 after:K.after.length≤4∧∀p∈K.after,ri p.name∧mb K.hd p.head
 di:lM K.cs K.hd
 facts:K.facts.length≤4∧∀x∈K.facts,(0≤x.a∧x.a <K.before.length)∧(0≤x.b∧x.b <K.after.length)
def pO(ro:Nat→Option Obj)(f:Nat)(K:aB)(rows:List bI):Prop:=∃(c0 c1 c2 vc vh vr vb va vf vt:Value) (hv:List bB),
 ro f=some (.cells ⟨[c0,c1,c2,vc,vh,vr,vb,va,zI K.gone,zI K.new,zI K.af,vf,vt]⟩ 150 (0,0))∧jA ro vc vh K.cs hv K.hd∧dA dw hv K.hd∧
 bD ro vr 2 gG K.rules∧bD ro vb 5 cb K.before∧bD ro va 5 cb K.after∧bD ro vf 3 nz K.facts∧bD ro vt 16 BZ rows
theorem pO.up{f:Nat}{rows:List bI}(h:pO ro f K rows)(hs:Sub ro aJ):pO aJ f K rows:=by
 obtain⟨c0,c1,c2,vc,vh,vr,vb,va,vf,vt,hv,h1,h2,h3,h4,h5,h6,h7,h8⟩:=h
 exact⟨c0,c1,c2,vc,vh,vr,vb,va,vf,vt,hv,hs _ _ h1,h2.up hs,h3,h4.up hs,h5.up hs,h6.up hs,h7.up hs,h8.up hs⟩
theorem aMr{f i:Int}(hi:0≤i∧i≤8):dK zT 325 [.int .u8 f,zI i] ro (.bool (hasB f i)):=by
 refine zE<|zD 8<|jsr (k:= .u8) (k':= .i64) (a:=f) (b:=i) 414 (by omega)<|zD 5<|zX (.bool (decide ((Kj .u8 (aT .u8 f i) 1)=1))) ⟨rfl,rfl⟩
theorem aCy{f i:Int}(hi:0≤i∧i≤8):dK zT 326 [.int .u8 f,zI i] ro (.int .u8 (MG .u8 f (dG .u8 1 i))):=by
 refine zE<|zD 8<|jsh (k:= .u8) (k':= .i64) (a:=1) (b:=i) 414 (by omega)<|zD 4<|zX (.int .u8 (MG .u8 f (dG .u8 1 i))) ⟨rfl,rfl⟩
theorem at4{hv:List bB}(hR:jA ro vc vh cs hv hd)(n6:dA dw hv hd)(hT:lM cs hd):eg zT 324 [.agg ⟨[vc,vh]⟩] ro [] (fun r Y=>∃b vS LS vE,r= .tuple ⟨[zP b,zI 0]⟩∧ay vS 1 414 Ug (m9 cs cs.length) LS∧Y=(b,.cells ⟨[vc,vh,vS,vE]⟩ 418 (0,0))::LS):=by
 obtain⟨hc,hh,dq⟩:=id hR
 obtain⟨dc,AN,AM,cY,rfl,CN,yH,yG⟩:=hc
 obtain⟨cF,rH,rG,cy,rfl,tv,pw,pn⟩:=hh
 have EA:=hT.nc
 have hnh:=hT.nh
 have hlen:=n6.len
 refine zE<|zD 2<|jn fun b1=>jd 7 [0]<|jp (vs:=[.agg ⟨[.slice dc cs.length cY,.slice cF hv.length cy]⟩]) [] [] (fun aH hs hZ=>(Yj (hR.up hs) n6 hT))<|jd 13 [0]<|jn fun AB=>jd 11 [1]<|nY<|dV [1,1,1,0,1,0,0] [] (fun(zz:Nat×Value×Cells)=>[(1,zP b1),(2,.pointer none),(3,zI 0),(5,zP AB),(20,.slice dc cs.length cY),(21,zI (cs.length:Int)),(22,zI (zz.1:Int))]) (fun zz=>[.l zz.2.2,.b AB (.cells ⟨[.slice dc cs.length cY,.slice cF hv.length cy,zz.2.1,zS]⟩ 418 (0,0)),.b b1 (.cells ⟨[.slice dc cs.length cY,.slice cF hv.length cy]⟩ 35 (0,0))]) (fun zz=>zz.1≤cs.length∧ay zz.2.1 1 414 Ug (m9 cs zz.1) zz.2.2) (fun zz=>cs.length-zz.1) (⟨0,zS,[]⟩) ⟨by dsimp only;omega,ay.nil _ _ _⟩ [0,1,2] ?_
 rintro⟨k,vS,LS⟩ hI K1 bO rest
 dsimp only at hI
 refine zD 5<|zJ 23 ((k:Int) <(cs.length:Int)) (fun h1=>?_) fun h1=>?_
 ·
  refine zD 7 ?_
  obtain⟨y5,lB⟩:=zG cs k
  refine iz cY 2 yH lB<|jl 0 (yG _ _ lB)<|jn fun b7=>jd 4 [0] ?_
  have iR:=hT.cls _ _ lB
  have MI:=pe cs k
  refine zD 2<|jp (vs:=[.int .u8 0,zI (k:Int)]) [] [] (fun aH hs hZ=>(aCy (by omega)))<|jd 9 [0]<|zJ 31 (y5.under≥0) (fun h2=>?_) fun h2=>?_
  ·
   refine jd 9 [2,0] ?_
   obtain⟨FI,yy⟩:=zG ((m9 cs k)) (y5.under.toNat) (by first|omega| (simp only[List.length_set,zM];omega))
   refine pZ y5.under 1 hI.2 yy (Int.toNat_of_nonneg (show 0≤y5.under∧y5.under <(((m9 cs k)).length:Int) from (by have:=iR.2;simp only[pe];omega)).1).symm (fun b39 aRQ=>?_)
   refine mT 0 [1] LS (fun s _ hZ=>bR hI.2 aRQ hZ yy)<|jd 10 [2]<|jn fun b48=>iC (sz:=1) (ps:=(m9 cs k)) (qs:=[(MG .u8 (MG .u8 0 (dG .u8 1 (k:Int))) FI)]) (enc:=Ug) (w:= .slice (some ⟨b48,0,none⟩) 1 1) [2] [0] [(b48,.cells ⟨([(MG .u8 (MG .u8 0 (dG .u8 1 (k:Int))) FI)].map Ug).flatten⟩ 414 (0,0))] (hI.2) (fun s _ hZ=>bL [(MG .u8 (MG .u8 0 (dG .u8 1 (k:Int))) FI)] (hZ _ (.head _)) (by intro p hp;rfl)) (fun p _=>ai rfl) (by simp only[pe,List.length_cons,List.length_nil];omega) (fun v49 L49 HY=>?_)
   obtain⟨aeh,ad7,V6⟩:=HY.form
   subst V6
   refine jd 5 [3]<|ja ((k:Int)+1) (by omega)<|zD 2<|bA bO (⟨k+1,(.slice aeh (((m9 cs k)++[(MG .u8 (MG .u8 0 (dG .u8 1 (k:Int))) FI)])).length ad7),L49⟩) ⟨by dsimp only;omega,by rw[ap1 lB (by omega) yy];exact HY⟩ (by dsimp only;omega) [0,3,4] (Sub.refl _)
  refine jd 9 [2]<|jn fun b48=>iC (sz:=1) (ps:=(m9 cs k)) (qs:=[(MG .u8 0 (dG .u8 1 (k:Int)))]) (enc:=Ug) (w:= .slice (some ⟨b48,0,none⟩) 1 1) [2] [0] [(b48,.cells ⟨([(MG .u8 0 (dG .u8 1 (k:Int)))].map Ug).flatten⟩ 414 (0,0))] (hI.2) (fun s _ hZ=>bL [(MG .u8 0 (dG .u8 1 (k:Int)))] (hZ _ (.head _)) (by intro p hp;rfl)) (fun p _=>ai rfl) (by simp only[pe,List.length_cons,List.length_nil];omega) (fun v49 L49 HY=>?_)
  obtain⟨aeh,ad7,V6⟩:=HY.form
  subst V6
  refine jd 5 [3]<|ja ((k:Int)+1) (by omega)<|zD 2<|bA bO (⟨k+1,(.slice aeh (((m9 cs k)++[(MG .u8 0 (dG .u8 1 (k:Int)))])).length ad7),L49⟩) ⟨by dsimp only;omega,by rw[ap2 lB (by omega)];exact HY⟩ (by dsimp only;omega) [0,3,4] (Sub.refl _)
 refine jd 11 [2]<|nY<|dV [1,1,1,1,0,1,0,0] [] (fun(zz:Nat×Value×Cells×(List Value))=>[(2,.pointer none),(3,zI 0),(5,zP AB),(54,.slice cF hv.length cy),(55,zI (hv.length:Int)),(56,zI (zz.1:Int))]) (fun zz=>[.l zz.2.2.1,.b AB (.cells ⟨[.slice dc cs.length cY,.slice cF hv.length cy,vS,zz.2.1]⟩ 418 (0,0)),.l LS,.b b1 (.cells ⟨[.slice dc cs.length cY,.slice cF hv.length cy]⟩ 35 (0,0))]) (fun zz=>(zz.1≤hv.length∧zz.2.2.2.length≤zz.1)∧ay zz.2.1 1 428 gz zz.2.2.2 zz.2.2.1) (fun zz=>hv.length-zz.1) (⟨0,zS,[],[]⟩) ⟨⟨by omega,Nat.le_refl _⟩,ay.nil _ _ _⟩ [0,2,1,3] ?_
 rintro⟨j,vE,LE,es⟩ hJ K2 mr rest
 dsimp only at hJ
 refine zD 5<|zJ 57 ((j:Int) <(hv.length:Int)) (fun h3=>?_) fun h3=>?_
 ·
  refine zD 6 ?_
  obtain⟨Gg,aoC⟩:=zG hv j
  refine iz cy 4 pw aoC<|jl 0 (pn _ _ aoC)<|jn fun lL=>jsx 0 lL 0 [.string ByteArray.empty,zI 0,zI 0,zS] [.string Gg.word,zI Gg.cls,zI Gg.oL,Gg.ee] 145 (mV dq _ (zL aoC)) rfl<|zD 3 ?_
  obtain⟨y58,baq,aPL⟩:=dq.get aoC
  obtain⟨fC,sG,sE,eO,hqe,ui,lP,mP⟩:=aPL.2.2.2
  refine jmw 0 [.b lL (.cells ⟨[.string Gg.word,zI Gg.cls,zI Gg.oL,.slice fC y58.ee.length eO]⟩ 145 (0,0))] (L:=[(lL,.cells ⟨[.string Gg.word,zI Gg.cls,zI Gg.oL,Gg.ee]⟩ 145 (0,0))]) (by rw[hqe];rfl) ?_
  refine jd 6 [0]<|js 73 (!decide (Gg.oL=(-1))) (fun h4=>?_) (fun h4=>?_)
  ·
   replace h4:=of_decide_eq_false (by simpa using h4)
   refine jd 11 [2,0]<|aQ 9 fun qp qv oV=>jn fun b86=>eo oV (zN 1 5)<|aQ 10 fun sq su qR=>iC (sz:=1) (ps:=es) (qs:=[(.iface 421 (.agg ⟨[zI Gg.oL]⟩):Value)]) (enc:=gz) (w:= .slice (some ⟨b86,0,none⟩) 1 1) [2] [0] [(b86,.cells ⟨([(.iface 421 (.agg ⟨[zI Gg.oL]⟩):Value)].map gz).flatten⟩ 428 (0,0))] (hJ.2) (fun s _ hZ=>bL [(.iface 421 (.agg ⟨[zI Gg.oL]⟩):Value)] (hZ _ (.head _)) (by intro p hp;rfl)) (by intro p hp;rw[List.mem_singleton] at hp;subst hp;exact ai rfl) (by simp only[List.length_cons,List.length_nil];omega) (fun v87 L87 ahP=>?_)
   obtain⟨aLS,aLz,aQ6⟩:=ahP.form
   subst aQ6
   refine fJ qR [[2]]<|zD 2<|aQ 13 fun AZ A9 BK=>jd 1 [3]<|fJ BK []<|zD 2<|ja ((j:Int)+1) (by omega)<|zD 2<|bA mr (⟨j+1,(.slice aLS ((es++[(.iface 421 (.agg ⟨[zI Gg.oL]⟩):Value)])).length aLz),L87,(es++[(.iface 421 (.agg ⟨[zI Gg.oL]⟩):Value)])⟩) ⟨⟨by dsimp only;omega,by simp only[zM];omega⟩,ahP⟩ (by dsimp only;omega) [0,3,4,5] (Sub.refl _)
  replace h4:=of_decide_eq_true (by simpa using h4)
  refine jd 8 [0]<|js 90 (!decide (Gg.cls=(-1))) (fun h8=>?_) (fun h8=>?_)
  ·
   replace h8:=of_decide_eq_false (by simpa using h8)
   refine jd 13 [2,0,0]<|aQ 11 fun aaM aaY Wm=>jn fun aIM=>eo Wm (zN 1 5)<|aQ 12 fun amy amR Wl=>iC (sz:=1) (ps:=es) (qs:=[(.iface 423 (.agg ⟨[zI Gg.cls,.slice fC y58.ee.length eO]⟩):Value)]) (enc:=gz) (w:= .slice (some ⟨aIM,0,none⟩) 1 1) [2] [0] [(aIM,.cells ⟨([(.iface 423 (.agg ⟨[zI Gg.cls,.slice fC y58.ee.length eO]⟩):Value)].map gz).flatten⟩ 428 (0,0))] (hJ.2) (fun s _ hZ=>bL [(.iface 423 (.agg ⟨[zI Gg.cls,.slice fC y58.ee.length eO]⟩):Value)] (hZ _ (.head _)) (by intro p hp;rfl)) (by intro p hp;rw[List.mem_singleton] at hp;subst hp;exact ai rfl) (by simp only[List.length_cons,List.length_nil];omega) (fun aYk aUy ZE=>?_)
   obtain⟨aBU,aBR,aGV⟩:=ZE.form
   subst aGV
   refine fJ Wl [[2],[2]]<|zD 2<|aQ 15 fun aaL aaX hL8=>jd 1 [3]<|fJ hL8 []<|zD 2<|ja ((j:Int)+1) (by omega)<|zD 2<|bA mr (⟨j+1,(.slice aBU ((es++[(.iface 423 (.agg ⟨[zI Gg.cls,.slice fC y58.ee.length eO]⟩):Value)])).length aBR),aUy,(es++[(.iface 423 (.agg ⟨[zI Gg.cls,.slice fC y58.ee.length eO]⟩):Value)])⟩) ⟨⟨by dsimp only;omega,by simp only[zM];omega⟩,ZE⟩ (by dsimp only;omega) [0,3,4,5] (Sub.refl _)
  replace h8:=of_decide_eq_true (by simpa using h8)
  refine jd 11 [2,0]<|aQ 9 fun Uk Uy SQ=>jn fun b69=>eo SQ (zN 1 5)<|aQ 10 fun DW Ef uO=>iC (sz:=1) (ps:=es) (qs:=[(.iface 425 (.agg ⟨[.slice fC y58.ee.length eO]⟩):Value)]) (enc:=gz) (w:= .slice (some ⟨b69,0,none⟩) 1 1) [2] [0] [(b69,.cells ⟨([(.iface 425 (.agg ⟨[.slice fC y58.ee.length eO]⟩):Value)].map gz).flatten⟩ 428 (0,0))] (hJ.2) (fun s _ hZ=>bL [(.iface 425 (.agg ⟨[.slice fC y58.ee.length eO]⟩):Value)] (hZ _ (.head _)) (by intro p hp;rfl)) (by intro p hp;rw[List.mem_singleton] at hp;subst hp;exact ai rfl) (by simp only[List.length_cons,List.length_nil];omega) (fun v70 L70 ahQ=>?_)
  obtain⟨aLU,aLB,aQ8⟩:=ahQ.form
  subst aQ8
  refine fJ uO [[2]]<|zD 2<|aQ 13 fun DV Ee xa=>jd 1 [3]<|fJ xa []<|zD 2<|ja ((j:Int)+1) (by omega)<|zD 2<|bA mr (⟨j+1,(.slice aLU ((es++[(.iface 425 (.agg ⟨[.slice fC y58.ee.length eO]⟩):Value)])).length aLB),L70,(es++[(.iface 425 (.agg ⟨[.slice fC y58.ee.length eO]⟩):Value)])⟩) ⟨⟨by dsimp only;omega,by simp only[zM];omega⟩,ahQ⟩ (by dsimp only;omega) [0,3,4,5] (Sub.refl _)
 refine zD 9<|zR (.tuple ⟨[zP AB,zI 0]⟩) [] [1,2] ((AB,.cells ⟨[.slice dc cs.length cY,.slice cF hv.length cy,vS,vE]⟩ 418 (0,0))::LS) ⟨_,_,LS,_,rfl,by have:=hI.2;rwa[show k=cs.length by omega] at this,rfl⟩
end Go.L
