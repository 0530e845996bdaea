/- Part 12 of the proof. -/
import Derived.Test.YtknkndglfcfhkaaGreatDoorV11
set_option maxRecDepth 100000
set_option linter.all false
namespace Go.L
open Go Go.Conc Go.Proofs
variable {xs:List Int} {vd:Value}
theorem aEC{ro:Nat→Option Obj}(hN:Dn ro vd xs):asB zT 5 [vd] ro (fun r Y=>r= .bool true∧Y=[]):=by
 have hN0:=hN
 obtain⟨hl,hxn⟩:=hN
 obtain⟨fA,rQ,rP,eP,rfl,tQ,lJ,mE⟩:=hl
 refine aEV au (by kernel_rfl) [] ba fun fr=>zD 7<|jc (vs:=[.slice fA xs.length eP]) [] (aUA hN0.1) ?_
 rintro _ X16 ⟨d16,rfl,ai8⟩
 refine jcG (vs:=[zP d16,zI 3,zI 1]) [0] (aUB hN0 ai8 (by decide) (by decide)) ?_
 rintro _ aI X18 bZ ⟨K,l,rfl,hO,uR,hK,Sa⟩
 obtain⟨v0,v1,v3,v4,v5,v6,v7,vb,va,vc,hv,rfl,_,_,_,_,_,hb,ha,hf⟩:=id hK
 obtain⟨lh,O6,O4,kY,rfl,O5,Nk,Nj⟩:=hb
 obtain⟨kS,KU,KS,kA,rfl,KT,JF,JE⟩:=ha
 obtain⟨jA,BJ,BI,gY,rfl,I9,uM,uL⟩:=hf
 have hC:=hO.c
 have hV:=hO.v
 have awW:=hO.ud
 have BO:=hV.before.1
 have Mg:=hV.after.1
 refine jn fun b3=>jsx 0 b3 0 zO [v0,v1,.slice va 0 vc,v3,v4,v5,.slice lh K.before.length kY,.slice kS K.after.length kA,zI K.gone,zI K.new,zI K.af,.slice jA K.facts.length gY] 40 hK.L.all rfl<|jd 4 [0]<|NJ (vs:=[.agg ⟨[v0,v1,.slice va 0 vc,v3,v4,v5,.slice lh K.before.length kY,.slice kS K.after.length kA,zI K.gone,zI K.new,zI K.af,.slice jA K.facts.length gY]⟩]) [] (fun _ _ h=>h) (((avE hK hV (mC hC) (sj hK hC hV)).mono fun _ _ h=>ack h)) ?_
 rintro _ Y21 ⟨zB,v21,eB,hzB,rfl,W,hLB,hB⟩
 refine zD 5<|jf [0] Y21 (fun ro4 mw Pe=>?_)
 obtain⟨es,htB,sb⟩:=hLB _ Pe
 obtain⟨aaL,aNr,aNp,oN,rfl,aNq,sU,sS⟩:=htB
 replace hK:=hK.up mw
 refine jd 4 [0]<|NJ (vs:=[.agg ⟨[v0,v1,.slice va 0 vc,v3,v4,v5,.slice lh K.before.length kY,.slice kS K.after.length kA,zI K.gone,zI K.new,zI K.af,.slice jA K.facts.length gY]⟩]) [] (fun _ _ h=>h) (avx hK hV (mC hC) (sj hK hC hV)) ?_
 rintro _ _ ⟨z1,V9,gb1,ge1,hz1,rfl,rfl,pq⟩
 refine jg 0 []<|zD 3<|jn fun b6=>jd 5 [0] ?_
 have n1:=(hzB.trans hz1.symm).length_eq
 have hel:=sb.len
 have qB:(zB.length=0∧W.length=0∧eB=9)∨(0 <zB.length∧eB=0):=by rcases hB with ⟨h,h2,e⟩| ⟨e,x,hx,_⟩;exact .inl ⟨by rw[h];rfl,by rw[h2];rfl,e⟩;exact .inr ⟨List.length_pos_of_mem hx,e⟩
 have q1:(z1.length=0∧ge1=9)∨(0 <z1.length∧ge1=0):=by rcases pq with ⟨h,_,_,e⟩| ⟨h,_,_,e⟩;exact .inl ⟨by rw[h];rfl,e⟩;exact .inr ⟨List.length_pos_iff.2 h,e⟩
 have hee:ge1=eB∧(eB=0∨eB=9):=by omega
 refine zD 5<|js 32 (!decide (eB=ge1)) (fun h5=>?_) (fun h5=>?_)
 ·
  have EO:=h5
  replace EO:=of_decide_eq_false (by simpa using EO)
  exfalso;omega
 have EO:=h5
 replace EO:=of_decide_eq_true (by simpa using EO)
 refine zD 4<|js 35 (!decide (eB=0)) (fun h6=>?_) (fun h6=>?_)
 ·
  replace h6:=of_decide_eq_false (by simpa using h6)
  refine zD 7<|js 39 (decide (eB=ge1)) (fun h7=>?_) (fun h7=>?_)
  ·
   have h7g:=h7
   replace h7g:=of_decide_eq_true h7g
   refine zD 4<|js 43 (decide (eB=9)) (fun h8=>?_) (fun h8=>?_)
   ·
    have h8g:=h8
    replace h8g:=of_decide_eq_true h8g
    refine zD 5<|js 48 (decide ((es.length:Int)=0)) (fun h9=>?_) (fun h9=>?_)
    ·
     have h9g:=h9
     replace h9g:=of_decide_eq_true h9g
     refine NJ [] (fun _ _ h=>h) (XJ) ?_
     rintro _ _ ⟨rfl,rfl⟩
     refine jg 0 []<|zD 4<|O8 qC.a.a (.bool true) [3] [] (bZ.trans mw) ⟨rfl,rfl⟩
    have h9g:=h9
    replace h9g:=of_decide_eq_false h9g
    exfalso;omega
   have h8g:=h8
   replace h8g:=of_decide_eq_false h8g
   exfalso;omega
  have h7g:=h7
  replace h7g:=of_decide_eq_false h7g
  exfalso;omega
 replace h6:=of_decide_eq_true (by simpa using h6)
 refine zD 4 ?_
 obtain⟨_,x,hxz,hmn,rfl⟩:eB=0∧∃x,x∈zB∧(∀y∈zB,x.gone≤y.gone)∧W=cq x 4:=by rcases hB with ⟨_,_,h⟩|h;omega;exact h
 have hxa:=hzB.mem_iff.1 hxz
 obtain⟨_,y2,_,_⟩:z1≠[]∧V9=qe (z1.map fun x=>x.gone)∧gb1=vZ (z1.map fun x=>x.gone)∧ge1=0:=by rcases pq with ⟨_,_,_,h⟩|h;omega;exact h
 have hga:V9=x.gone:=y2.trans (auV hzB hz1 hxz hmn)
 have hf4:=hC.facts.1
 obtain⟨A,B,EM⟩:=akL hf4 BO hxa
 have hcn:=akN hxa
 have Rx:=anb EM
 have N0:=lX x 4
 refine jd 8 [1,0]<|ja ((K.before.length:Int)-V9) (by omega)<|zD 2<|js 59 (!decide ((es.length:Int)=((K.before.length:Int)-V9))) (fun Jo=>?_) (fun Jo=>?_)
 ·
  replace Jo:=of_decide_eq_false (by simpa using Jo)
  exfalso;omega
 replace Jo:=of_decide_eq_true (by simpa using Jo)
 refine jd 5 [1]<|jc (vs:=[.agg ⟨[v0,v1,.slice va 0 vc,v3,v4,v5,.slice lh K.before.length kY,.slice kS K.after.length kA,zI K.gone,zI K.new,zI K.af,.slice jA K.facts.length gY]⟩]) [] (agR hK hC) ?_
 rintro _ _ ⟨F8,F7,F6,F5,F4,F3,FZ,aBC,FY,FX,ala,Z61,rfl,aQd,Vo,axd,rfl⟩
 have aFq:=W7.all (K:=K) ⟨F8,F7,F6,F5,F4,F3,FZ,aBC,FY,FX,rfl,aQd⟩
 refine jg 0 [.l ala,.l Z61]<|jn (fun b8=>?_)
 obtain⟨TW,TP,VB⟩:=Vo.form
 subst VB
 refine jsx 0 b8 0 zO [F8,F7,.slice FY 0 FX,F6,F5,F4,F3,FZ,zI K.gone,zI K.new,zI K.af,(.slice TW (K.facts).length TP)] 40 aFq rfl<|jd 12 [0]<|nY<|dP [1,1,1,1,1,1,1,1,0,1,0,0] [] (fun(zz:Nat×Value×Cells)=>[(3,zP b3),(4,.slice aaL es.length oN),(6,zP b6),(8,zP b8),(9,zI (zz.1:Int))]) (fun zz=>[.l zz.2.2,.b b8 (.cells ⟨[F8,F7,.slice FY 0 FX,F6,F5,F4,F3,FZ,zI K.gone,zI K.new,zI K.af,zz.2.1]⟩ 40 (0,0)),.l ala,.l Z61,.b b6 (.cells ⟨[zI V9,zI gb1]⟩ 65 (0,0)),.b b3 (.cells ⟨[v0,v1,.slice va 0 vc,v3,v4,v5,.slice lh K.before.length kY,.slice kS K.after.length kA,zI K.gone,zI K.new,zI K.af,.slice jA K.facts.length gY]⟩ 40 (0,0)),.l X18,.l fr]) (fun zz=>zz.1≤(cq x 4).length∧ax zz.2.1 3 58 mX (qP ((cq x 4).take zz.1)) zz.2.2) (fun zz=>(cq x 4).length-zz.1) (⟨0,zS,[]⟩) ⟨Nat.zero_le _,ax.nil _ _ _⟩ (zN 0 8) ?_
 rintro⟨i,vF,LF⟩ hF K1 bH rest
 dsimp only at hF
 have htl:(qP ((cq x 4).take i)).length≤4:=by rw[qP,List.length_map,List.length_take];omega
 refine zD 8<|zJ 66 ((i:Int) <(es.length:Int)) (fun BQ=>?_) fun BQ=>?_
 ·
  refine zD 9 ?_
  obtain⟨x71,avV⟩:=zG es i
  refine ek oN 1 sU avV ?_
  obtain⟨l72,aRm,h72⟩:=sb.get avV
  obtain aQu:=EM.is _ _ aRm
  obtain aYv:l72.length=2:=by rw[aQu.1];rfl
  obtain⟨bbW,bbV,bbQ,bbU,rfl,bbS,bbT,bbR⟩:=h72
  refine jl 0 (sS _ _ avV)<|zD 3<|js 6 (!decide ((l72.length:Int)=2)) (fun yo=>?_) (fun yo=>?_)
  ·
   have H2:=yo
   replace H2:=of_decide_eq_false (by simpa using H2)
   exfalso;omega
  have H2:=yo
  replace H2:=of_decide_eq_true (by simpa using H2)
  refine zD 2 ?_
  obtain⟨x78,avU⟩:=zG es i
  refine ek oN 1 sU avU ?_
  obtain⟨l79,aRl,h79⟩:=sb.get avU
  obtain aFH:=EM.is _ _ aRl
  obtain aYu:l79.length=2:=by rw[aFH.1];rfl
  obtain⟨bbP,bbO,bbM,aND,rfl,bbN,aNC,aNB⟩:=h79
  refine jl 0 (sS _ _ avU) ?_
  obtain⟨x80,avT⟩:=zG l79 0
  refine ek aND 1 aNC avT<|jl 0 (aNB _ _ avT)<|zD 3<|js 15 (decide (x80 <0)) (fun Sd=>?_) (fun Sd=>?_)
  ·
   have H0:=Sd
   replace H0:=of_decide_eq_true H0
   exfalso;have e80:=pr0 aFH.1 avT;omega
  have H0:=Sd
  replace H0:=of_decide_eq_false H0
  refine zD 2 ?_
  obtain⟨x87,avS⟩:=zG es i
  refine ek oN 1 sU avS ?_
  obtain⟨l88,aRk,h88⟩:=sb.get avS
  obtain aFG:=EM.is _ _ aRk
  obtain aYt:l88.length=2:=by rw[aFG.1];rfl
  obtain⟨bbL,bbK,bbI,aNA,rfl,bbJ,aNz,aNy⟩:=h88
  refine jl 0 (sS _ _ avS) ?_
  obtain⟨x89,avR⟩:=zG l88 0
  refine ek aNA 1 aNz avR<|jl 0 (aNy _ _ avR)<|jd 6 [5]<|js 27 (decide (x89≥(K.before.length:Int))) (fun HZ=>?_) (fun HZ=>?_)
  ·
   have wE:=HZ
   replace wE:=of_decide_eq_true wE
   exfalso;have e89:=pr0 aFG.1 avR;omega
  have wE:=HZ
  replace wE:=of_decide_eq_false wE
  refine zD 2 ?_
  obtain⟨x99,U5⟩:=zG es i
  refine ek oN 1 sU U5 ?_
  obtain⟨aEJ,aGv,aT7⟩:=sb.get U5
  obtain arw:=EM.is _ _ aGv
  obtain aQs:aEJ.length=2:=by rw[arw.1];rfl
  obtain⟨aXa,aW9,aW7,aDV,rfl,aW8,aDU,aDT⟩:=aT7
  refine jl 0 (sS _ _ U5) ?_
  obtain⟨aLO,ahm⟩:=zG aEJ 1
  refine ek aDV 1 aDU ahm<|jl 0 (aDT _ _ ahm)<|zD 3<|js 36 (decide (aLO <0)) (fun Ob=>?_) (fun Ob=>?_)
  ·
   have HY:=Ob
   replace HY:=of_decide_eq_true HY
   exfalso;have bfK:=pr1 arw.1 ahm;omega
  have HY:=Ob
  replace HY:=of_decide_eq_false HY
  refine zD 2 ?_
  obtain⟨baf,ahl⟩:=zG es i
  refine ek oN 1 sU ahl ?_
  obtain⟨aEI,aGu,aT6⟩:=sb.get ahl
  obtain arv:=EM.is _ _ aGu
  obtain aQr:aEI.length=2:=by rw[arv.1];rfl
  obtain⟨aW6,aW5,aW3,aDS,rfl,aW4,aDR,aDQ⟩:=aT6
  refine jl 0 (sS _ _ ahl) ?_
  obtain⟨aLN,ahk⟩:=zG aEI 1
  refine ek aDS 1 aDR ahk<|jl 0 (aDQ _ _ ahk)<|jd 6 [5]<|js 48 (decide (aLN≥(K.after.length:Int))) (fun V3=>?_) (fun V3=>?_)
  ·
   have wD:=V3
   replace wD:=of_decide_eq_true wD
   exfalso;have bfJ:=pr1 arv.1 ahk;omega
  have wD:=V3
  replace wD:=of_decide_eq_false wD
  refine zD 3<|js 51 (decide ((i:Int)>0)) (fun V2=>?_) (fun V2=>?_)
  ·
   have HX:=V2
   replace HX:=of_decide_eq_true HX
   refine zD 2 ?_
   obtain⟨bae,ahi⟩:=zG es i
   refine ek oN 1 sU ahi ?_
   obtain⟨aEH,aGt,aT5⟩:=sb.get ahi
   obtain aru:=EM.is _ _ aGt
   obtain aQq:aEH.length=2:=by rw[aru.1];rfl
   obtain⟨aW2,aW1,aWZ,aDP,rfl,aW0,aDO,aDN⟩:=aT5
   refine jl 0 (sS _ _ ahi) ?_
   obtain⟨Ef,Hm⟩:=zG aEH 0
   refine ek aDP 1 aDO Hm<|jl 0 (aDN _ _ Hm)<|zD 2<|ja ((i:Int)-1) (by omega) ?_
   obtain⟨baa,ahf⟩:=zG es (((i:Int)-1).toNat)
   refine NI ((i:Int)-1) oN 1 sU ahf (by omega) ?_
   obtain⟨aEG,aGr,aT4⟩:=sb.get ahf
   obtain art:=EM.is _ _ aGr
   obtain aQp:aEG.length=2:=by rw[art.1];rfl
   obtain⟨aWY,aWX,aWV,aDM,rfl,aWW,aDL,aDK⟩:=aT4
   refine jl 0 (sS _ _ ahf) ?_
   obtain⟨aLL,ahe⟩:=zG aEG 0
   refine ek aDM 1 aDL ahe<|jl 0 (aDK _ _ ahe)<|zD 4<|zJ 136 (Ef≤aLL) (fun Tx=>?_) fun Tx=>?_
   ·
    exfalso;have bfI:=pr0 aru.1 Hm;have bfH:=pr0 art.1 ahe;have:=EM.up _ i (show ((i:Int)-1).toNat <i by omega) (by omega);omega
   refine zD 8<|dP [1,1,1,1,1,1,1,1,0,1,0,0,1,0,0,1,0,1,0,0] [K1] (fun(zz:Nat)=>[(3,zP b3),(4,.slice aaL es.length oN),(6,zP b6),(8,zP b8),(9,zI (i:Int)),(10,zI (zz:Int))]) (fun zz=>[.l LF,.b b8 (.cells ⟨[F8,F7,.slice FY 0 FX,F6,F5,F4,F3,FZ,zI K.gone,zI K.new,zI K.af,vF]⟩ 40 (0,0)),.l ala,.l Z61,.b b6 (.cells ⟨[zI V9,zI gb1]⟩ 65 (0,0)),.b b3 (.cells ⟨[v0,v1,.slice va 0 vc,v3,v4,v5,.slice lh K.before.length kY,.slice kS K.after.length kA,zI K.gone,zI K.new,zI K.af,.slice jA K.facts.length gY]⟩ 40 (0,0)),.l X18,.l fr]) (fun zz=>zz≤i) (fun zz=>i-zz) 0 (by omega) (zN 0 8) ?_
   rintro j hJ K2 mr rest
   refine zD 7<|zJ 139 ((j:Int) <(i:Int)) (fun h20=>?_) fun h20=>?_
   ·
    refine zD 8 ?_
    obtain⟨aLK,Hl⟩:=zG es j
    refine ek oN 1 sU Hl ?_
    obtain⟨ags,aib,ayw⟩:=sb.get Hl
    obtain Rv:=EM.is _ _ aib
    obtain aws:ags.length=2:=by rw[Rv.1];rfl
    obtain⟨aDH,aDG,aDE,ae8,rfl,aDF,ae7,ae6⟩:=ayw
    refine jl 0 (sS _ _ Hl) ?_
    obtain⟨asO,Hk⟩:=zG ags 1
    refine ek ae8 1 ae7 Hk<|jl 0 (ae6 _ _ Hk)<|zD 2 ?_
    obtain⟨aLJ,DM⟩:=zG es i
    refine ek oN 1 sU DM ?_
    obtain⟨agq,aia,ayv⟩:=sb.get DM
    obtain Ru:=EM.is _ _ aia
    obtain awr:agq.length=2:=by rw[Ru.1];rfl
    obtain⟨aDD,aDC,aDA,ae5,rfl,aDB,ae4,ae3⟩:=ayv
    refine jl 0 (sS _ _ DM) ?_
    obtain⟨asN,Hj⟩:=zG agq 1
    refine ek ae5 1 ae4 Hj<|jl 0 (ae3 _ _ Hj)<|zD 2<|zJ 154 (asO=asN) (fun V1=>?_) fun V1=>?_
    ·
     exfalso;have aUx:=pr1 Rv.1 Hk;have aUw:=pr1 Ru.1 Hj;exact EM.apart j i (by omega) (by omega) (by omega)
    refine zD 4<|ja ((j:Int)+1) (by omega)<|zD 2<|bI mr (j+1) (by omega) (by omega) (zN 0 8) (Sub.refl _)
   refine jd 7 [5] ?_
   obtain⟨aLI,Hi⟩:=zG es i
   refine ek oN 1 sU Hi ?_
   obtain⟨agp,ah9,ayu⟩:=sb.get Hi
   obtain wy:=EM.is _ _ ah9
   obtain awq:agp.length=2:=by rw[wy.1];rfl
   obtain⟨aDz,aDy,aDw,ae1,rfl,aDx,ae0,aeZ⟩:=ayu
   refine jl 0 (sS _ _ Hi) ?_
   obtain⟨asM,A1⟩:=zG agp 0
   refine ek ae1 1 ae0 A1<|jl 0 (aeZ _ _ A1)<|zD 2 ?_
   obtain⟨aLH,Hh⟩:=zG es i
   refine ek oN 1 sU Hh ?_
   obtain⟨ago,ah8,ayt⟩:=sb.get Hh
   obtain Rt:=EM.is _ _ ah8
   obtain awp:ago.length=2:=by rw[Rt.1];rfl
   obtain⟨aDv,aDu,aDs,aeY,rfl,aDt,aeX,aeW⟩:=ayt
   refine jl 0 (sS _ _ Hh) ?_
   obtain⟨Ar,td⟩:=zG ago 1
   refine ek aeY 1 aeX td<|jl 0 (aeW _ _ td)<|aV 13 (fun pW pZ oU=>?_)
   rw[wy.1] at A1
   rw[Rt.1] at td
   obtain rfl:(A i:Int)=asM:=by simpa using A1
   obtain rfl:(B i:Int)=Ar:=by simpa using td
   refine jc (vs:=[.agg ⟨[v0,v1,.slice va 0 vc,v3,v4,v5,.slice lh K.before.length kY,.slice kS K.after.length kA,zI K.gone,zI K.new,zI K.af,.slice jA K.facts.length gY]⟩,zI (A i:Int),zI (B i:Int)]) [] (agX (a:=A i) (b:=B i) hK hV (sj hK hC hV) wy.2.1 wy.2.2.1) ?_
   rintro _ YP ⟨vP,rfl,hoP⟩
   have hc0:(dN K (aC K) (A i) (B i) 3).length=0:=by rw[wy.2.2.2];rfl
   refine eH oU (zN 1 8)<|zD 13<|DL hoP<|zD 3<|zJ 178 (((dN K (aC K) (A i) (B i) 3).length:Int)>0) (fun Ai=>?_) fun Ai=>?_
   ·
    exfalso;omega
   refine jd 7 [2] ?_
   obtain⟨aLG,Hf⟩:=zG es i
   refine ek oN 1 sU Hf ?_
   obtain⟨agn,RM,ays⟩:=sb.get Hf
   obtain ahw:=EM.is _ _ RM
   obtain awo:agn.length=2:=by rw[ahw.1];rfl
   obtain⟨aDp,aDo,aDm,aeT,rfl,aDn,aeS,aeR⟩:=ays
   refine jl 0 (sS _ _ Hf) ?_
   obtain⟨FK,He⟩:=zG agn 0
   refine ek aeT 1 aeS He<|jl 0 (aeR _ _ He)<|zD 2 ?_
   obtain⟨aLF,Hd⟩:=zG es i
   refine ek oN 1 sU Hd ?_
   obtain⟨agm,RL,ayr⟩:=sb.get Hd
   obtain ahv:=EM.is _ _ RL
   obtain awn:agm.length=2:=by rw[ahv.1];rfl
   obtain⟨aDk,aDj,aDh,aeQ,rfl,aDi,aeP,aeO⟩:=ayr
   refine jl 0 (sS _ _ Hd) ?_
   obtain⟨FJ,Hc⟩:=zG agm 1
   refine ek aeQ 1 aeP Hc<|jl 0 (aeO _ _ Hc)<|jp (vs:=[zI FK,zI FJ,.bool true]) [] [] (fun aI hs hZ=>apD)<|aV 15 fun rI rK qu=>jn fun S1=>eH qu (zN 1 9)<|aV 16 fun An Ay Ba=>iC (sz:=3) (ps:=(qP ((cq x 4).take i))) (qs:=[(⟨FK,FJ,true⟩:cu)]) (enc:=mX) (w:= .slice (some ⟨S1,0,none⟩) 1 1) [2] [0] [(S1,.cells ⟨([(⟨FK,FJ,true⟩:cu)].map mX).flatten⟩ 58 (0,0))] (hF.2) (fun s _ hZ=>bK [(⟨FK,FJ,true⟩:cu)] (hZ _ (.head _)) (by intro p hp;rfl)) (fun p _=>aj rfl) (by simp only[zM];omega) (fun aMN azq A4=>?_)
   obtain⟨adH,adB,ait⟩:=A4.form
   subst ait
   refine gM Ba [[],[],[],[]]<|zD 1<|aV 18 fun ZY aai VN=>jd 1 [3]<|gq VN<|zD 3<|ja ((i:Int)+1) (by omega)<|zD 2<|bI bH (⟨i+1,(.slice adH (((qP ((cq x 4).take i))++[(⟨FK,FJ,true⟩:cu)])).length adB),azq⟩) ⟨by dsimp only;omega,by dsimp only;rw[PM RM RL He Hc];exact A4⟩ (by dsimp only;omega) [0,3,4,5,6,7,8,9] (Sub.refl _)
  have HX:=V2
  replace HX:=of_decide_eq_false HX
  refine zD 25<|dP [1,1,1,1,1,1,1,1,0,1,0,0,1,0,0,1,0,1,0,0] [K1] (fun(zz:Nat)=>[(3,zP b3),(4,.slice aaL es.length oN),(6,zP b6),(8,zP b8),(9,zI (i:Int)),(10,zI (zz:Int))]) (fun zz=>[.l LF,.b b8 (.cells ⟨[F8,F7,.slice FY 0 FX,F6,F5,F4,F3,FZ,zI K.gone,zI K.new,zI K.af,vF]⟩ 40 (0,0)),.l ala,.l Z61,.b b6 (.cells ⟨[zI V9,zI gb1]⟩ 65 (0,0)),.b b3 (.cells ⟨[v0,v1,.slice va 0 vc,v3,v4,v5,.slice lh K.before.length kY,.slice kS K.after.length kA,zI K.gone,zI K.new,zI K.af,.slice jA K.facts.length gY]⟩ 40 (0,0)),.l X18,.l fr]) (fun zz=>zz≤i) (fun zz=>i-zz) 0 (by omega) (zN 0 8) ?_
  rintro j hJ K7 Y6 rest
  refine zD 7<|zJ 139 ((j:Int) <(i:Int)) (fun Tw=>?_) fun Tw=>?_
  ·
   refine zD 8 ?_
   obtain⟨aLK,Hl⟩:=zG es j
   refine ek oN 1 sU Hl ?_
   obtain⟨ags,aib,ayw⟩:=sb.get Hl
   obtain Rv:=EM.is _ _ aib
   obtain aws:ags.length=2:=by rw[Rv.1];rfl
   obtain⟨aDH,aDG,aDE,ae8,rfl,aDF,ae7,ae6⟩:=ayw
   refine jl 0 (sS _ _ Hl) ?_
   obtain⟨asO,Hk⟩:=zG ags 1
   refine ek ae8 1 ae7 Hk<|jl 0 (ae6 _ _ Hk)<|zD 2 ?_
   obtain⟨aLJ,DM⟩:=zG es i
   refine ek oN 1 sU DM ?_
   obtain⟨agq,aia,ayv⟩:=sb.get DM
   obtain Ru:=EM.is _ _ aia
   obtain awr:agq.length=2:=by rw[Ru.1];rfl
   obtain⟨aDD,aDC,aDA,ae5,rfl,aDB,ae4,ae3⟩:=ayv
   refine jl 0 (sS _ _ DM) ?_
   obtain⟨asN,Hj⟩:=zG agq 1
   refine ek ae5 1 ae4 Hj<|jl 0 (ae3 _ _ Hj)<|zD 2<|zJ 154 (asO=asN) (fun Oa=>?_) fun Oa=>?_
   ·
    exfalso;have aUx:=pr1 Rv.1 Hk;have aUw:=pr1 Ru.1 Hj;exact EM.apart j i (by omega) (by omega) (by omega)
   refine zD 4<|ja ((j:Int)+1) (by omega)<|zD 2<|bI Y6 (j+1) (by omega) (by omega) (zN 0 8) (Sub.refl _)
  refine jd 7 [5] ?_
  obtain⟨aLI,Hi⟩:=zG es i
  refine ek oN 1 sU Hi ?_
  obtain⟨agp,ah9,ayu⟩:=sb.get Hi
  obtain wy:=EM.is _ _ ah9
  obtain awq:agp.length=2:=by rw[wy.1];rfl
  obtain⟨aDz,aDy,aDw,ae1,rfl,aDx,ae0,aeZ⟩:=ayu
  refine jl 0 (sS _ _ Hi) ?_
  obtain⟨asM,A1⟩:=zG agp 0
  refine ek ae1 1 ae0 A1<|jl 0 (aeZ _ _ A1)<|zD 2 ?_
  obtain⟨aLH,Hh⟩:=zG es i
  refine ek oN 1 sU Hh ?_
  obtain⟨ago,ah8,ayt⟩:=sb.get Hh
  obtain Rt:=EM.is _ _ ah8
  obtain awp:ago.length=2:=by rw[Rt.1];rfl
  obtain⟨aDv,aDu,aDs,aeY,rfl,aDt,aeX,aeW⟩:=ayt
  refine jl 0 (sS _ _ Hh) ?_
  obtain⟨Ar,td⟩:=zG ago 1
  refine ek aeY 1 aeX td<|jl 0 (aeW _ _ td)<|aV 13 (fun TD TZ VL=>?_)
  rw[wy.1] at A1
  rw[Rt.1] at td
  obtain rfl:(A i:Int)=asM:=by simpa using A1
  obtain rfl:(B i:Int)=Ar:=by simpa using td
  refine jc (vs:=[.agg ⟨[v0,v1,.slice va 0 vc,v3,v4,v5,.slice lh K.before.length kY,.slice kS K.after.length kA,zI K.gone,zI K.new,zI K.af,.slice jA K.facts.length gY]⟩,zI (A i:Int),zI (B i:Int)]) [] (agX (a:=A i) (b:=B i) hK hV (sj hK hC hV) wy.2.1 wy.2.2.1) ?_
  rintro _ YP ⟨vP,rfl,hoP⟩
  have hc0:(dN K (aC K) (A i) (B i) 3).length=0:=by rw[wy.2.2.2];rfl
  refine eH VL (zN 1 8)<|zD 13<|DL hoP<|zD 3<|zJ 178 (((dN K (aC K) (A i) (B i) 3).length:Int)>0) (fun N9=>?_) fun N9=>?_
  ·
   exfalso;omega
  refine jd 7 [2] ?_
  obtain⟨aLG,Hf⟩:=zG es i
  refine ek oN 1 sU Hf ?_
  obtain⟨agn,RM,ays⟩:=sb.get Hf
  obtain ahw:=EM.is _ _ RM
  obtain awo:agn.length=2:=by rw[ahw.1];rfl
  obtain⟨aDp,aDo,aDm,aeT,rfl,aDn,aeS,aeR⟩:=ays
  refine jl 0 (sS _ _ Hf) ?_
  obtain⟨FK,He⟩:=zG agn 0
  refine ek aeT 1 aeS He<|jl 0 (aeR _ _ He)<|zD 2 ?_
  obtain⟨aLF,Hd⟩:=zG es i
  refine ek oN 1 sU Hd ?_
  obtain⟨agm,RL,ayr⟩:=sb.get Hd
  obtain ahv:=EM.is _ _ RL
  obtain awn:agm.length=2:=by rw[ahv.1];rfl
  obtain⟨aDk,aDj,aDh,aeQ,rfl,aDi,aeP,aeO⟩:=ayr
  refine jl 0 (sS _ _ Hd) ?_
  obtain⟨FJ,Hc⟩:=zG agm 1
  refine ek aeQ 1 aeP Hc<|jl 0 (aeO _ _ Hc)<|jp (vs:=[zI FK,zI FJ,.bool true]) [] [] (fun aI hs hZ=>apD)<|aV 15 fun TB TY R9=>jn fun S1=>eH R9 (zN 1 9)<|aV 16 fun Dj Ds uv=>iC (sz:=3) (ps:=(qP ((cq x 4).take i))) (qs:=[(⟨FK,FJ,true⟩:cu)]) (enc:=mX) (w:= .slice (some ⟨S1,0,none⟩) 1 1) [2] [0] [(S1,.cells ⟨([(⟨FK,FJ,true⟩:cu)].map mX).flatten⟩ 58 (0,0))] (hF.2) (fun s _ hZ=>bK [(⟨FK,FJ,true⟩:cu)] (hZ _ (.head _)) (by intro p hp;rfl)) (fun p _=>aj rfl) (by simp only[zM];omega) (fun aMN azq A4=>?_)
  obtain⟨adH,adB,ait⟩:=A4.form
  subst ait
  refine gM uv [[],[],[],[]]<|zD 1<|aV 18 fun FD Gc zi=>jd 1 [3]<|gq zi<|zD 3<|ja ((i:Int)+1) (by omega)<|zD 2<|bI bH (⟨i+1,(.slice adH (((qP ((cq x 4).take i))++[(⟨FK,FJ,true⟩:cu)])).length adB),azq⟩) ⟨by dsimp only;omega,by dsimp only;rw[PM RM RL He Hc];exact A4⟩ (by dsimp only;omega) [0,3,4,5,6,7,8,9] (Sub.refl _)
 refine zD 8<|dP [1,1,1,1,1,1,1,1,1,0,1,0,0] [] (fun(zz:Nat)=>[(3,zP b3),(4,.slice aaL es.length oN),(6,zP b6),(8,zP b8),(13,zI (zz:Int))]) (fun zz=>[.l LF,.b b8 (.cells ⟨[F8,F7,.slice FY 0 FX,F6,F5,F4,F3,FZ,zI K.gone,zI K.new,zI K.af,vF]⟩ 40 (0,0)),.l ala,.l Z61,.b b6 (.cells ⟨[zI V9,zI gb1]⟩ 65 (0,0)),.b b3 (.cells ⟨[v0,v1,.slice va 0 vc,v3,v4,v5,.slice lh K.before.length kY,.slice kS K.after.length kA,zI K.gone,zI K.new,zI K.af,.slice jA K.facts.length gY]⟩ 40 (0,0)),.l X18,.l fr]) (fun zz=>zz≤K.facts.length) (fun zz=>K.facts.length-zz) 0 (by omega) (zN 0 8) ?_
 rintro m hM K12 ai1 rest
 refine jd 9 [5]<|zJ 201 ((m:Int) <(K.facts.length:Int)) (fun h34=>?_) fun h34=>?_
 ·
  refine jd 9 [5] ?_
  obtain⟨aLE,ahb⟩:=zG K.facts m
  refine ek gY 3 uM ahb<|zD 1<|jl 2 ((uL _ _ ahb).ext (n5 mw))<|zD 1<|js 6 aLE.same (fun h35=>?_) (fun h35=>?_)
  ·
   refine jd 4 [5] ?_
   obtain⟨aA2,aha⟩:=zG K.facts m
   refine ek gY 3 uM aha<|zD 1<|jl 0 ((uL _ _ aha).ext (n5 mw))<|jd 3 [5] ?_
   obtain⟨aA1,ag9⟩:=zG K.facts m
   refine ek gY 3 uM ag9<|zD 1<|jl 1 ((uL _ _ ag9).ext (n5 mw))<|jp (vs:=[.slice aaL es.length oN,zI aA2.a,zI aA1.b]) [] [] (fun aI hs hZ=>ami ((show bD _ _ _ _ _ from ⟨aaL,aNr,aNp,oN,rfl,aNq,sU,sS⟩).up hs) (sb.imp fun _ _ h=>h.up hs) (by omega) (fun l hl=>by rw[Cu hl];decide)) ?_
   refine zD 3<|js 226 (!(uV (cq x 4) aA2.a aA1.b)) (fun V0=>?_) (fun V0=>?_)
   ·
    try simp only[zB] at V0
    exfalso;have hz:=apF hf4 BO hC.facts.2 hxa ahb aha ag9 (by assumption);simp[hz] at V0
   try simp only[zB] at V0
   refine zD 4<|ja ((m:Int)+1) (by omega)<|zD 2<|bI ai1 (m+1) (by omega) (by omega) (zN 0 8) (Sub.refl _)
  refine zD 21<|ja ((m:Int)+1) (by omega)<|zD 2<|bI ai1 (m+1) (by omega) (by omega) (zN 0 8) (Sub.refl _)
 refine jd 11 [4,1]<|jf [0,3] (LF++Z61) (fun ba6 awf aGy=>?_)
 have hFt:=hF.2
 rw[List.take_of_length_le (by omega)] at hFt
 have hKx:=axd _ awf (Knows.right aGy) _ _ V9 (hFt.kg (Knows.left aGy))
 replace hK:=hK.up awf
 have hCx:jv (nS K x V9):=by rw[hga];exact hC.bst EM (by omega)
 have hVx:eE (nS K x V9):=by rw[hga];exact hV.bst EM
 have awu:0 <cH (nS K x V9):=by rw[hga];exact WE hf4 BO hxa
 refine jd 1 [0]<|NJ (vs:=[.agg ⟨[F8,F7,.slice FY 0 FX,F6,F5,F4,F3,FZ,zI V9,zI K.new,zI K.af,vF]⟩]) [] (fun _ _ h=>h) (Q9 (K:=nS K x V9) hKx hCx hVx) ?_
 rintro _ _ ⟨rfl,rfl⟩
 refine jg 0 []<|zD 15<|js 241 (decide ((cH (nS K x V9):Int)>0)) (fun h40=>?_) (fun h40=>?_)
 ·
  have ajd:=h40
  replace ajd:=of_decide_eq_true ajd
  refine NJ [] (fun _ _ h=>h) (XJ) ?_
  rintro _ _ ⟨rfl,rfl⟩
  refine jg 0 []<|zD 4<|O8 qC.a.a.a (.bool true) [5] [] ((bZ.trans mw).trans awf) ⟨rfl,rfl⟩
 have ajd:=h40
 replace ajd:=of_decide_eq_false ajd
 exfalso;omega
theorem G2(W:World)(hN:Dn (fun b=>W.heap[b]?) vd xs) {Post:Value→World→Prop}
 (R8:∀w:World,(∀(b:Nat) (o:Obj),W.heap[b]?=some o→w.heap[b]?=some o)→w.os=W.os→w.output=W.output→Post (.bool true) w):
 ∃N last o w' t',runNT zT (N+1) (solo (G (Frame.enter zT 5 ⟨[vd]⟩ .normal) []) W) #[]=(.ended o w',t')∧runN zT N (solo (G (Frame.enter zT 5 ⟨[vd]⟩ .normal) []) W)= .next last∧step zT last= .ended o w'∧Good zT Post last o w' t':=by
 have ha:aR ⟨fun b=>W.heap[b]?,[]⟩ W:=⟨fun _ _ h=>h,(fun _ _ h=>(by cases h)),by simp,(fun _ _ h=>(by cases h))⟩
 exact ad3 ha (aEC hN _ _ _ fun v Y w qj pF tG EI=>by
  obtain⟨rfl,rfl⟩:=qj
  exact R8 w (fun b o hb=>pF.ro b o hb) tG EI)
end Go.L
