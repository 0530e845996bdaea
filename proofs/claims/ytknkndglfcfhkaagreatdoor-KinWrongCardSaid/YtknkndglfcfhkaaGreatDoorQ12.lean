/- Part 12 of the proof. -/
import Derived.Test.YtknkndglfcfhkaaGreatDoorQ11
set_option maxRecDepth 100000
set_option linter.all false
namespace Go.L
open Go Go.Conc Go.Proofs
variable {xs:List Int} {vd:Value}
theorem TS{K:aB}{r:Value}{Y:Cells}(h4:K.facts.length≤4)(h:∃v e,r= .tuple ⟨[v,zI e]⟩∧((∃m,m∈fq K.facts.length∧pY K (cS K)=some m∧aw v 1 3 cm (iD m 4) Y∧e=0)∨(pY K (cS K)=none∧v= zS∧e=11∧Y=[]))):
 ∃v e S,r= .tuple ⟨[v,zI e]⟩∧aw v 1 3 cm S Y∧((vz K=some S∧e=0)∨(vz K=none∧S=[]∧e=11)):=by
 obtain⟨v,e,rfl,⟨m,hm,hw,ho,rfl⟩| ⟨hw,rfl,rfl,rfl⟩⟩:=h
 ·exact⟨v,_,_,rfl,ho,.inl ⟨by rw[Po h4,hw];rfl,rfl⟩⟩
 exact⟨_,_,[],rfl,aw.nil _ _ _,.inr ⟨by rw[Po h4,hw];rfl,rfl,rfl⟩⟩
def Gh(N n:Nat):List (List Int):=(((List.range (N+1)).drop n).map fun k=>fR N k 0 (N+1)).flatten
theorem Ut{N n:Nat}(h:n≤N):Gh N n=fR N n 0 (N+1)++Gh N (n+1):=by
 rw[Gh,eB (x:=n) (by rw[List.getElem?_range (by omega)])];rfl
theorem aaK{N n:Nat}(h:¬n≤N):Gh N n=[]:=by
 rw[Gh,List.drop_eq_nil_of_le (by rw[List.length_range];omega)];rfl
theorem Zt{l m:List (List Int)}{p:List Int→Bool}{j:Nat}{x:List Int}(h:l[j]?=some x):(l.drop j++m).find? p=bif p x then some x else (l.drop (j+1)++m).find? p:=by
 rw[eB h,List.cons_append,List.find?_cons];cases p x<;>rfl
theorem BU.frz{P:Program}{f:FuncId}{args:List Value}{ro:Nat→Option Obj}{L:Cells}{Φ:Value→Cells→Prop}(h:∀aG,Sub ro aG→Knows aG L→BU P f args aG [] Φ):BU P f args ro L Φ:=fun fr=>Wd asq fun hw=>by
 obtain⟨aD,h1,h2,h3⟩:=N3 (s:=⟨ro,fr⟩) (X:=L) (rw:=L++fr) (.refl _) hw
 intro main T hT c cs g1 g2
 exact(asq _ _ hT).mono _ _ _ h3 (h aD h1 h2 fr main T hT c cs (fun v s' ⟨v',Y,e,⟨R,r1,r2⟩,pz⟩=>g1 v s' ⟨v',Y,e,⟨R,r1,fun b o hb=>r2 b o (h1 b o hb)⟩,pz⟩) (fun ch s' ⟨_,_,e,_⟩=>by cases e))
theorem au8{ro:Nat→Option Obj}(hN:Dn ro vd xs):asy zT 6 [vd] ro (fun r Y=>r= .bool true∧Y=[]):=by
 have hN0:=hN
 obtain⟨hl,hxn⟩:=hN
 obtain⟨fw,rQ,rP,eL,rfl,tO,lM,mC⟩:=hl
 refine aEa ar (by kernel_rfl) [] aW fun fr=>zD 7<|jc (vs:=[.slice fw xs.length eL]) [] (aTD hN0.1) ?_
 rintro _ X16 ⟨d16,rfl,aiN⟩
 refine jcG (vs:=[zP d16,zI 3,zI 4]) [0] (aTE hN0 aiN (by decide) (by decide)) ?_
 rintro _ aG X18 cg ⟨K,l,rfl,hO,uM,hK,Sd⟩
 obtain⟨v0,v1,v3,v4,v5,v6,v7,vb,va,vc,hv,rfl,_,_,_,_,_,hb,ha,hf⟩:=id hK
 obtain⟨mw,O0,OY,mo,rfl,OZ,MS,MQ⟩:=hb
 obtain⟨lP,Ko,Kl,lG,rfl,Km,Jn,Jm⟩:=ha
 obtain⟨gX,v9,vZ,fT,rfl,AH,qL,qK⟩:=hf
 have hC:=hO.c
 have hV:=hO.v
 have awI:=hO.tZ
 have HB:=hV.before.1
 have Ll:=hV.after.1
 have hf4:K.facts.length≤4:=hC.facts.1
 refine jn fun b3=>jsx 0 b3 0 zO [v0,v1,.slice va 0 vc,v3,v4,v5,.slice mw K.before.length mo,.slice lP K.after.length lG,zI K.gone,zI K.new,zI K.af,.slice gX K.facts.length fT] 40 hK.L.all rfl<|jd 4 [0]<|jc (vs:=[.agg ⟨[v0,v1,.slice va 0 vc,v3,v4,v5,.slice mw K.before.length mo,.slice lP K.after.length lG,zI K.gone,zI K.new,zI K.af,.slice gX K.facts.length fT]⟩]) [] (anz hK hV (oA hC) (Aa hK hC hV) hf4) ?_
 rintro _ YW hWp
 obtain⟨vW,eW,S,rfl,hoW,hW⟩:=TS hf4 hWp
 refine zD 12<|dB [1,1,1,0,1,0,0] [] (fun(zz:Nat)=>[(3,zP b3),(4,vW),(5,zI eW),(6,zI (zz:Int))]) (fun zz=>[.l YW,.b b3 (.cells ⟨[v0,v1,.slice va 0 vc,v3,v4,v5,.slice mw K.before.length mo,.slice lP K.after.length lG,zI K.gone,zI K.new,zI K.af,.slice gX K.facts.length fT]⟩ 40 (0,0)),.l X18,.l fr]) (fun zz=>zz≤K.facts.length+1∧vz K=(Gh K.facts.length zz).find? (Lx K)) (fun zz=>K.facts.length+1-zz) 0 ⟨Nat.zero_le _,rfl⟩ (zN 0 4) ?_
 rintro n hI K1 bF rest
 refine jd 9 [1]<|zJ 23 ((n:Int)≤(K.facts.length:Int)) (fun h2=>?_) fun h2=>?_
 ·
  refine jd 10 [1]<|jc (vs:=[zI (K.facts.length:Int),zI (n:Int)]) [] (af7 (n:=K.facts.length) (k:=n) (by omega)) ?_
  rintro v30 Y30 NT
  refine zD 5<|jf [0] Y30 (fun ro5 BO hk4=>?_)
  obtain⟨es,htS,axP⟩:=NT _ hk4
  obtain⟨aMC,aZX,aZV,aud,rfl,aZW,aCj,aCi⟩:=htS
  have hel:=axP.len
  have hcn:=F6 (n:=K.facts.length) (by omega) n 0 (K.facts.length+1) (by omega) (by omega) (by omega)
  replace hK:=hK.up BO
  refine zD 2<|dB [1,1,1,0,1,0,0,1,0,0,1,1,0,0] [K1] (fun(zz:Nat)=>[(3,zP b3),(4,vW),(5,zI eW),(6,zI (n:Int)),(7,.slice aMC es.length aud),(8,zI (zz:Int))]) (fun zz=>[.l YW,.b b3 (.cells ⟨[v0,v1,.slice va 0 vc,v3,v4,v5,.slice mw K.before.length mo,.slice lP K.after.length lG,zI K.gone,zI K.new,zI K.af,.slice gX K.facts.length fT]⟩ 40 (0,0)),.l X18,.l fr]) (fun zz=>zz≤(fR K.facts.length n 0 (K.facts.length+1)).length∧vz K=((fR K.facts.length n 0 (K.facts.length+1)).drop zz++Gh K.facts.length (n+1)).find? (Lx K)) (fun zz=>(fR K.facts.length n 0 (K.facts.length+1)).length-zz) 0 ⟨Nat.zero_le _,by rw[hI.2,Ut (by omega)];rfl⟩ (zN 0 4) ?_
  rintro j hJ K2 kL rest
  refine zD 8<|zJ 34 ((j:Int) <(es.length:Int)) (fun h6=>?_) fun h6=>?_
  ·
   refine jd 9 [1] ?_
   obtain⟨x41,Vi⟩:=zG es j
   refine gY aud 1 aCj Vi ?_
   obtain⟨l42,aol,h42⟩:=axP.get Vi
   obtain bcd:=sJ (zL aol)
   obtain⟨aCN,aMY,aMU,aCM,rfl,aMW,aMX,aMV⟩:=h42
   refine jl 0 (aCi _ _ Vi)<|aS 5 fun oh ov mZ=>jc (vs:=[.agg ⟨[v0,v1,.slice va 0 vc,v3,v4,v5,.slice mw K.before.length mo,.slice lP K.after.length lG,zI K.gone,zI K.new,zI K.af,.slice gX K.facts.length fT]⟩,.slice aCN l42.length aCM,.bool false]) [] (aD3 (b:=false) hK hC (show bC _ _ _ _ _ from ⟨aCN,aMY,aMU,aCM,rfl,aMW,aMX,aMV⟩) (by omega)) ?_
   rintro _ _ ⟨o0,o1,o3,o4,o5,o6,o7,ob,oa,oc,aUF,Z43,rfl,hoF,hkF,rfl⟩
   refine jg 0 [.l aUF,.l Z43]<|eo mZ (zN 2 4)<|aS 6 fun pX p6 oZ=>Tq (vs:=[.agg ⟨[o0,o1,.slice oa 0 oc,o3,o4,o5,o6,o7,zI K.gone,zI K.new,zI K.af,ob]⟩]) [0,1] (fun _ _ h=>h) ((BU.frz fun ro9 hs9 hk9=>Rf (K:=Ti K l42 false) (hkF _ hs9 (Knows.right hk9) _ _ (hoF.jW (Knows.left hk9))) hC.kp hV.kp)) ?_
   rintro _ _ ⟨rfl,rfl⟩
   refine jg 0 []<|gx oZ []<|zD 19<|zJ 50 ((cF (Ti K l42 false):Int)>0) (fun h9=>?_) fun h9=>?_
   ·
    have RZ:Lx K l42=true:=decide_eq_true (by omega)
    have hwl:vz K=some l42:=by rw[hJ.2,Zt aol,RZ];rfl
    obtain⟨hS,he0⟩:S=l42∧eW=0:=by rcases hW with ⟨h,e⟩| ⟨h,_⟩;rw[hwl] at h;exact⟨(Option.some.inj h).symm,e⟩;rw[hwl] at h;cases h
    have hSl:S.length=l42.length:=by rw[hS]
    refine zD 6<|js 53 (decide (eW=0)) (fun EH=>?_) (fun EH=>?_)
    ·
     have HM:=EH
     replace HM:=of_decide_eq_true HM
     refine zD 3 ?_
     obtain⟨x57,qS⟩:=zG es j
     refine gY aud 1 aCj qS ?_
     obtain⟨l58,RM,h58⟩:=axP.get qS
     obtain bcc:=sJ (zL RM)
     obtain⟨Qk,ae1,aeX,Qj,rfl,aeZ,ae0,aeY⟩:=h58
     refine jl 0 (aCi _ _ qS)<|jp (vs:=[vW,.slice Qk l58.length Qj]) [0] YW (fun aG hs hZ=>Zz (hoW.jW hZ) ((show bC _ _ _ _ _ from ⟨Qk,ae1,aeX,Qj,rfl,aeZ,ae0,aeY⟩).up hs) (by omega) (by omega))<|zD 2<|js 61 (DX S l58) (fun V5=>?_) (fun V5=>?_)
     ·
      refine Tq [] (fun _ _ h=>h) (XP) ?_
      rintro _ _ ⟨rfl,rfl⟩
      refine jg 0 []<|zD 4<|Tp qC.a.a (.bool true) [3] [] (cg.trans BO) ⟨rfl,rfl⟩
     exfalso;have hee:DX S l58=true:=Fp.2 (by rw[hS];exact Option.some.inj (aol.symm.trans RM));have dH:DX S l58=false:=(by assumption);rw[hee] at dH;cases dH
    have HM:=EH
    replace HM:=of_decide_eq_false HM
    exfalso;omega
   have RZ:Lx K l42=false:=decide_eq_false (by omega)
   refine zD 4<|ja ((j:Int)+1) (by omega)<|zD 2<|bE kL (j+1) ⟨by omega,by rw[hJ.2,Zt aol,RZ];rfl⟩ (by omega) (zN 0 4) (Sub.refl _)
  refine zD 4<|ja ((n:Int)+1) (by omega)<|zD 2<|bE bF (n+1) ⟨by omega,by have h3:=hJ.2;rwa[List.drop_eq_nil_of_le (by omega),List.nil_append] at h3⟩ (by omega) (zN 0 4) BO
 refine zD 3 ?_
 have hwn:vz K=none:=by rw[hI.2,aaK (by omega)];rfl
 obtain⟨hS,he0⟩:S=[]∧eW=11:=by rcases hW with ⟨h,e⟩| ⟨h,e⟩;rw[hwn] at h;cases h;exact e
 have hSl:S.length=0:=by rw[hS];rfl
 refine zD 4<|js 66 (decide (eW=11)) (fun zp=>?_) (fun zp=>?_)
 ·
  have HL:=zp
  replace HL:=of_decide_eq_true HL
  refine zD 1<|CG hoW<|zD 3<|js 71 (decide ((S.length:Int)=0)) (fun uU=>?_) (fun uU=>?_)
  ·
   have HK:=uU
   replace HK:=of_decide_eq_true HK
   refine Tq [] (fun _ _ h=>h) (XP) ?_
   rintro _ _ ⟨rfl,rfl⟩
   refine jg 0 []<|zD 4<|Tp qC.a (.bool true) [3] [] cg ⟨rfl,rfl⟩
  have HK:=uU
  replace HK:=of_decide_eq_false HK
  exfalso;omega
 have HL:=zp
 replace HL:=of_decide_eq_false HL
 exfalso;omega
theorem GX(W:World)(hN:Dn (fun b=>W.heap[b]?) vd xs) {Post:Value→World→Prop}
 (R9:∀w:World,(∀(b:Nat) (o:Obj),W.heap[b]?=some o→w.heap[b]?=some o)→w.os=W.os→w.output=W.output→Post (.bool true) w):
 ∃N last o w' t',runNT zT (N+1) (solo (G (Frame.enter zT 6 ⟨[vd]⟩ .normal) []) W) #[]=(.ended o w',t')∧runN zT N (solo (G (Frame.enter zT 6 ⟨[vd]⟩ .normal) []) W)= .next last∧step zT last= .ended o w'∧Good zT Post last o w' t':=by
 have ha:aR ⟨fun b=>W.heap[b]?,[]⟩ W:=⟨fun _ _ h=>h,(fun _ _ h=>(by cases h)),by simp,(fun _ _ h=>(by cases h))⟩
 exact aeh ha (au8 hN _ _ _ fun v Y w pz pF tE EA=>by
  obtain⟨rfl,rfl⟩:=pz
  exact R9 w (fun b o hb=>pF.ro b o hb) tE EA)
end Go.L
