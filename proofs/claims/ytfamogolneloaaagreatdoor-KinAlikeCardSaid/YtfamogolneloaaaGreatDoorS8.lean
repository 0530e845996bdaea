/- Part 8 of the proof. -/
import Derived.Test.YtfamogolneloaaaGreatDoorS7
set_option maxRecDepth 100000
set_option linter.all false
namespace Go.L
open Go Go.Conc Go.Proofs
variable {K:aE} {p:Nat→Int} {f b k n past bD b1 b2 bl bf br bg bt bo b3 b4:Nat} {l:List dc} {hd:List cz} {fi ca:List Value} {Stop:Cells→Prop} {x y:aj} {cs:List bQ} {α:Type} {g:FuncId} {xs:List Int}
theorem Xv{s:Int}{j:Int}(h:0≤j):aeU s (j+1).toNat=bif hasB s j then j else aeU s j.toNat:=by
 obtain⟨m,rfl⟩:=Int.eq_ofNat_of_zero_le h
 rfl
theorem WJ{on a b:Int}{x:dc}(h:l[k]?=some x):Cf on a b (l.drop k) k=((((hasB on k&&decide (x.a=a))&&decide (x.b=b))&& !x.same)||Cf on a b (l.drop (k+1)) (k+1)):=by rw[fI h];rfl
theorem adu{on a b:Int}(h:¬k <l.length):Cf on a b (l.drop k) k=false:=by rw[eO h];rfl
theorem Yf{hv:List bC}{h:Int}{x:bC}(hS:dD dO hv hd)(hT:lR cs hd)(hk:mi hd h)(h0:0≤h)(hx:hv[h.toNat]?=some x):YF hd h=x.cls∧0≤x.cls∧x.cls <cs.length:=by
 obtain⟨y,hy,hs⟩:=hS.get hx
 rcases hk with rfl| ⟨_,z,hz,hc⟩
 ·omega
 rw[hy] at hz;cases hz
 have:=(hT.Bg _ _ hy).2.1
 exact⟨by simp[YF,hy,hs.2.1],hs.2.1▸hc,by rw[hs.2.1];exact this.2⟩
theorem Ye{hv:List bC}{h:Int}(hS:dD dO hv hd)(hk:mi hd h)(h0:0≤h):h <hv.length:=by
 rcases hk with rfl| ⟨_,z,hz,_⟩
 ·omega
 have:=(List.getElem?_eq_some_iff.1 hz).1
 rw[hS.len];omega
theorem asb{vc vh:Value}{hv:List bC}{a b:Int}{ro:Nat→Option Obj}(hR:jY ro vc vh cs hv hd)(oP:dD dO hv hd)(hT:lR cs hd)(ha:0≤a∧a <cs.length)(hb:0≤b∧b <cs.length):dz zT 332 [.agg ⟨[vc,vh]⟩,zI a,zI b] ro (.tuple ⟨[zI (GU cs a b),zI 0]⟩):=by
 obtain⟨hc,hh,dk⟩:=id hR
 obtain⟨dj,AP,AO,de,rfl,DW,yU,yT⟩:=hc
 obtain⟨cK,sr,sq,cA,rfl,tN,py,px⟩:=hh
 have Ec:=hT.nc
 have hnh:=hT.nh
 have hlen:=oP.len
 have IJ:=oW cs cs.length
 refine bG av [] [] bh<|zD 2<|jn fun b3=>jd 6 [0]<|jc (vs:=[.agg ⟨[.slice dj cs.length de,.slice cK hv.length cA]⟩]) [] (asm hR oP hT) ?_
 rintro _ _ ⟨bT,vS,LS,vE,rfl,hS,rfl⟩
 refine jg 0 [.b bT (.cells ⟨[.slice dj cs.length de,.slice cK hv.length cA,vS,vE]⟩ 426 (0,0)),.l LS]<|zD 5<|jf [0,1] ((bT,.cells ⟨[.slice dj cs.length de,.slice cK hv.length cA,vS,vE]⟩ 426 (0,0))::LS) (fun yn bB iN=>?_)
 have hSS:=hS.kJ iN.tail
 obtain⟨aBj,bdn,bdl,alI,rfl,bdm,aBi,aBh⟩:=hSS
 refine jd 17 [0]<|ja ((cs.length:Int)-1) (by omega)<|jp (vs:=[zI a,zI 0,zI ((cs.length:Int)-1)]) [] [] (fun aC hs hZ=>jC)<|zD 3<|js 20 (!(iC a 0 ((cs.length:Int)-1))) (fun h4=>?_) (fun h4=>?_)
 ·
  try simp only[zB] at h4
  exfalso;simp only[iC,Bool.not_eq_true',Bool.and_eq_false_iff,decide_eq_false_iff_not] at h4;omega
 try simp only[zB] at h4
 refine jd 6 [0]<|ja ((cs.length:Int)-1) (by omega)<|jp (vs:=[zI b,zI 0,zI ((cs.length:Int)-1)]) [] [] (fun aC hs hZ=>jC)<|zD 3<|js 20 (!(iC b 0 ((cs.length:Int)-1))) (fun h5=>?_) (fun h5=>?_)
 ·
  try simp only[zB] at h5
  exfalso;simp only[iC,Bool.not_eq_true',Bool.and_eq_false_iff,decide_eq_false_iff_not] at h5;omega
 try simp only[zB] at h5
 refine jd 8 [0]<|ja ((cs.length:Int)-1) (by omega)<|zD 3<|ek [1,1,1,0,1,0,0] [] (fun(zz:Int)=>[(1,zI a),(2,zI b),(8,zP bT),(10,zI zz)]) (fun(zz:Int)=>[.b b3 (.cells ⟨[.slice dj cs.length de,.slice cK hv.length cA]⟩ 35 (0,0))]) (fun(zz:Int)=>(-1≤zz∧zz <cs.length)∧GU cs a b=aeU (Uo .u8 ((nt cs cs.length)[a.toNat]?.getD 0) ((nt cs cs.length)[b.toNat]?.getD 0)) (zz+1).toNat) (fun(zz:Int)=>(zz+1).toNat) ((cs.length:Int)-1) ⟨by omega,by rw[GU,show ((cs.length:Int)-1+1).toNat=cs.length by omega]⟩ [0] ?_
 rintro j hI K1 bM rest
 refine zD 6<|zJ 40 (j≥0) (fun h6=>?_) fun h6=>?_
 ·
  refine zD 9<|jl (b:=bT) (off:=0) (m:=4) (vs:=[.slice dj cs.length de,.slice cK hv.length cA,.slice aBj ((nt cs cs.length).length) alI,vE]) 2 ⟨_,_,_,.inl (iN _ (.head _)),rfl⟩<|zD 1 ?_
  obtain⟨x48,G4⟩:=zG ((nt cs cs.length)) (a.toNat) (by simp only[oW];omega)
  refine OB a alI 1 aBi G4 (Int.toNat_of_nonneg (show 0≤a∧a <(((nt cs cs.length)).length:Int) from (by simp only[oW];omega)).1).symm ?_
  refine jl 0 (aBh _ _ G4)<|zD 3<|jl (b:=bT) (off:=0) (m:=4) (vs:=[.slice dj cs.length de,.slice cK hv.length cA,.slice aBj ((nt cs cs.length).length) alI,vE]) 2 ⟨_,_,_,.inl (iN _ (.head _)),rfl⟩<|zD 1 ?_
  obtain⟨Ze,QL⟩:=zG ((nt cs cs.length)) (b.toNat)
  refine OB b alI 1 aBi QL (by omega)<|jl 0 (aBh _ _ QL)<|zD 2<|jp (vs:=[.int .u8 (Uo .u8 x48 Ze),zI j]) [] [] (fun aC hs hZ=>(aOy (by omega)))<|zD 1<|js 59 (hasB (Uo .u8 x48 Ze) j) (fun h7=>?_) (fun h7=>?_)
  ·
   refine zD 8<|aH q0.a (.tuple ⟨[zI j,zI 0]⟩) [] [] [] bB ⟨_,_,rfl,rfl,by rw[hI.2,Xv (by omega),G4,QL,Option.getD_some,Option.getD_some,show hasB _ _=true from (by assumption)];rfl,rfl⟩
  refine zD 4<|ja (j-1) (by omega)<|zD 2<|bA bM (j-1) ⟨by omega,by rw[hI.2,Xv (by omega),G4,QL,Option.getD_some,Option.getD_some,show hasB _ _=false from (by assumption),show j-1+1=j by omega];rfl⟩ (by omega) [0] (Sub.refl _)
 refine zD 8<|aH q0.a (.tuple ⟨[zI (-1),zI 0]⟩) [] [] [] bB ⟨_,_,rfl,rfl,by rw[hI.2,show j= -1 by omega];rfl,rfl⟩
theorem aCx{ro:Nat→Option Obj}:dz zT 163 [] ro (.agg ⟨[.iface 292 (.agg ⟨[]⟩),.iface 293 (.agg ⟨[]⟩),.iface 294 (.agg ⟨[]⟩)]⟩):=by
 refine bG av [] [] bh<|zD 2<|jn fun b0=>jd 13 [0]<|aH q0 (.agg ⟨[.iface 292 (.agg ⟨[]⟩),.iface 293 (.agg ⟨[]⟩),.iface 294 (.agg ⟨[]⟩)]⟩) [0] [] [] (Sub.refl _) ⟨_,_,rfl,rfl,rfl,rfl⟩
theorem atI{rows:List bE}{a:Nat}{on:Int}{ro:Nat→Option Obj}(hF:pM ro f K rows)(hV:eZ K)(ha:K.before[a]?=some x) (hb:K.after[b]?=some y):dz zT 328 [.agg ⟨[]⟩,zP f,zI (a:Int),zI (b:Int),.int .u8 on] ro (.bool (Ab K x y)):=by
 obtain⟨c0,c1,c2,vc,vh,vr,vb,va,vf,vt,hv,hf,p7,oP,hr,C7,Hr,EZ,bW⟩:=id hF
 obtain⟨hc,hh,dk⟩:=id p7
 obtain⟨dj,AP,AO,de,rfl,DW,yU,yT⟩:=hc
 obtain⟨cK,sr,sq,cA,rfl,tN,py,px⟩:=hh
 obtain⟨mH,MM,ML,mG,rfl,PM,Kl,Kk⟩:=hr
 obtain⟨kO,Jf,Jd,j9,rfl,Je,EH,EG⟩:=C7
 obtain⟨kP,Ji,Jg,kg,rfl,Jh,EJ,EI⟩:=Hr
 obtain⟨mI,TX,TV,lE,rfl,TW,MO,MN⟩:=EZ
 obtain⟨nW,EE,ED,nE,rfl,PI,MK,MJ⟩:=bW
 have SW:=hV.rules.1
 have Ai:=hV.before.1
 have Ed:=hV.after.1
 have hnf:=hV.facts.1
 have Lj:=(List.getElem?_eq_some_iff.1 ha).1
 have E1:=(List.getElem?_eq_some_iff.1 hb).1
 refine bG av [] [] bh<|zD 2<|jn fun b5=>zD 8<|jl (b:=f) (off:=0) (m:=13) (vs:=[c0,c1,c2,.slice dj K.cs.length de,.slice cK hv.length cA,.slice mH K.rules.length mG,.slice kO K.before.length j9,.slice kP K.after.length kg,zI K.gone,zI K.new,zI K.af,.slice mI K.facts.length lE,.slice nW rows.length nE]) 5 ⟨_,_,_,.inl hf,rfl⟩<|zD 4<|jl (b:=f) (off:=0) (m:=13) (vs:=[c0,c1,c2,.slice dj K.cs.length de,.slice cK hv.length cA,.slice mH K.rules.length mG,.slice kO K.before.length j9,.slice kP K.after.length kg,zI K.gone,zI K.new,zI K.af,.slice mI K.facts.length lE,.slice nW rows.length nE]) 6 ⟨_,_,_,.inl hf,rfl⟩<|zD 1 ?_
 obtain⟨yJ,lH⟩:=zG K.before a
 refine iM j9 5 EH lH<|zD 1<|jl 0 (EG _ _ lH)<|zD 4<|jl (b:=f) (off:=0) (m:=13) (vs:=[c0,c1,c2,.slice dj K.cs.length de,.slice cK hv.length cA,.slice mH K.rules.length mG,.slice kO K.before.length j9,.slice kP K.after.length kg,zI K.gone,zI K.new,zI K.af,.slice mI K.facts.length lE,.slice nW rows.length nE]) 7 ⟨_,_,_,.inl hf,rfl⟩<|zD 1 ?_
 obtain⟨Zg,Nq⟩:=zG K.after b
 refine iM kg 5 EJ Nq<|zD 1<|jl 0 (EI _ _ Nq)<|jp (vs:=[.slice mH K.rules.length mG,.string yJ.name,.string Zg.name]) [] [] (fun aC hs hZ=>Ql ((show bH _ _ _ _ _ from ⟨mH,MM,ML,mG,rfl,PM,Kl,Kk⟩).up hs) hV.rules.2 SW (hV.before.2 _ (List.mem_of_getElem? lH)).1 (hV.after.2 _ (List.mem_of_getElem? Nq)).1)<|zD 9<|jp (vs:=[zI 0]) [] [] (fun aC hs hZ=>A4)<|zD 8<|aH q0 (.bool (decide ((FT K.rules yJ.name Zg.name)=2))) [] [] [] (Sub.refl _) ⟨_,_,rfl,rfl,by rw[ha] at lH;cases lH;rw[hb] at Nq;cases Nq;rfl,rfl⟩
theorem afv{rows:List bE}{a:Nat}{on:Int}{ro:Nat→Option Obj}(hF:pM ro f K rows)(hV:eZ K)(ha:K.before[a]?=some x) (hb:K.after[b]?=some y):dz zT 330 [.agg ⟨[]⟩,zP f,zI (a:Int),zI (b:Int),.int .u8 on] ro (.bool (uL K x y)):=by
 obtain⟨c0,c1,c2,vc,vh,vr,vb,va,vf,vt,hv,hf,p7,oP,hr,C7,Hr,EZ,bW⟩:=id hF
 obtain⟨hc,hh,dk⟩:=id p7
 obtain⟨dj,AP,AO,de,rfl,DW,yU,yT⟩:=hc
 obtain⟨cK,sr,sq,cA,rfl,tN,py,px⟩:=hh
 obtain⟨mH,MM,ML,mG,rfl,PM,Kl,Kk⟩:=hr
 obtain⟨kO,Jf,Jd,j9,rfl,Je,EH,EG⟩:=C7
 obtain⟨kP,Ji,Jg,kg,rfl,Jh,EJ,EI⟩:=Hr
 obtain⟨mI,TX,TV,lE,rfl,TW,MO,MN⟩:=EZ
 obtain⟨nW,EE,ED,nE,rfl,PI,MK,MJ⟩:=bW
 have SW:=hV.rules.1
 have Ai:=hV.before.1
 have Ed:=hV.after.1
 have hnf:=hV.facts.1
 have Lj:=(List.getElem?_eq_some_iff.1 ha).1
 have E1:=(List.getElem?_eq_some_iff.1 hb).1
 refine bG av [] [] bh<|zD 2<|jn fun b5=>zD 8<|jl (b:=f) (off:=0) (m:=13) (vs:=[c0,c1,c2,.slice dj K.cs.length de,.slice cK hv.length cA,.slice mH K.rules.length mG,.slice kO K.before.length j9,.slice kP K.after.length kg,zI K.gone,zI K.new,zI K.af,.slice mI K.facts.length lE,.slice nW rows.length nE]) 6 ⟨_,_,_,.inl hf,rfl⟩<|zD 1 ?_
 obtain⟨yK,qG⟩:=zG K.before a
 refine iM j9 5 EH qG<|zD 1<|jl 3 (EG _ _ qG)<|zD 4<|jl (b:=f) (off:=0) (m:=13) (vs:=[c0,c1,c2,.slice dj K.cs.length de,.slice cK hv.length cA,.slice mH K.rules.length mG,.slice kO K.before.length j9,.slice kP K.after.length kg,zI K.gone,zI K.new,zI K.af,.slice mI K.facts.length lE,.slice nW rows.length nE]) 7 ⟨_,_,_,.inl hf,rfl⟩<|zD 1 ?_
 obtain⟨gi,jv⟩:=zG K.after b
 refine iM kg 5 EJ jv<|zD 1<|jl 3 (EI _ _ jv)<|zD 9<|jj 3 [(1,zP f),(10,.bool false),(11,zI yK.head),(12,zI gi.head),(38,.bool ((decide (yK.head <0))||(decide (gi.head <0))))] (fun ia=>?_) (fun hj=>?_)
 rotate_left
 refine js 35 (decide (yK.head <0)) (fun h1=>?_) (fun h1=>?_)
 ·
  have gD:=h1
  replace gD:=of_decide_eq_true gD
  refine zD 3<|jw 38 (.bool ((decide (yK.head <0))||(decide (gi.head <0)))) (w:= .bool true) (by rw[h1]<;>rfl) ?_
  exact hj _ (by kernel_rfl) (by kernel_rfl)
 ·
  have gD:=h1
  replace gD:=of_decide_eq_false gD
  refine zD 3<|jw 38 (.bool ((decide (yK.head <0))||(decide (gi.head <0)))) (w:= .bool (decide (gi.head <0))) (by rw[h1]<;>rfl) ?_
  exact hj _ (by kernel_rfl) (by kernel_rfl)
 refine zD 1<|jj 4 [(1,zP f),(10,.bool false),(11,zI yK.head),(12,zI gi.head),(43,.bool (((decide (yK.head <0))||(decide (gi.head <0)))||(decide (yK.head=gi.head))))] (fun ia=>?_) (fun hj=>?_)
 rotate_left
 refine js 39 ((decide (yK.head <0))||(decide (gi.head <0))) (fun h2=>?_) (fun h2=>?_)
 ·
  have mM:=h2
  try simp only[zB] at mM
  refine zD 4<|jw 43 (.bool (((decide (yK.head <0))||(decide (gi.head <0)))||(decide (yK.head=gi.head)))) (w:= .bool true) (by rw[h2]<;>rfl) ?_
  exact hj _ (by kernel_rfl) (by kernel_rfl)
 ·
  have mM:=h2
  try simp only[zB] at mM
  refine zD 4<|jw 43 (.bool (((decide (yK.head <0))||(decide (gi.head <0)))||(decide (yK.head=gi.head)))) (w:= .bool (decide (yK.head=gi.head))) (by rw[h2]<;>rfl) ?_
  exact hj _ (by kernel_rfl) (by kernel_rfl)
 refine zD 1<|js 43 (((decide (yK.head <0))||(decide (gi.head <0)))||(decide (yK.head=gi.head))) (fun h3=>?_) (fun h3=>?_)
 ·
  try simp only[zB] at h3
  refine zD 6<|aH q0 (.bool false) [] [] [] (Sub.refl _) ⟨_,_,rfl,rfl,by rw[ha] at qG;cases qG;rw[hb] at jv;cases jv;rw[uL,if_pos (by omega)],rfl⟩
 try simp only[zB] at h3
 refine zD 8<|jl (b:=f) (off:=0) (m:=13) (vs:=[c0,c1,c2,.slice dj K.cs.length de,.slice cK hv.length cA,.slice mH K.rules.length mG,.slice kO K.before.length j9,.slice kP K.after.length kg,zI K.gone,zI K.new,zI K.af,.slice mI K.facts.length lE,.slice nW rows.length nE]) 3 ⟨_,_,_,.inl hf,rfl⟩<|zD 5<|jl (b:=f) (off:=0) (m:=13) (vs:=[c0,c1,c2,.slice dj K.cs.length de,.slice cK hv.length cA,.slice mH K.rules.length mG,.slice kO K.before.length j9,.slice kP K.after.length kg,zI K.gone,zI K.new,zI K.af,.slice mI K.facts.length lE,.slice nW rows.length nE]) 4 ⟨_,_,_,.inl hf,rfl⟩<|zD 1 ?_
 obtain⟨x57,EP⟩:=zG hv (yK.head.toNat) (by have:=Ye oP (hV.before.2 _ (List.mem_of_getElem? qG)).2 (by omega);omega)
 refine OB yK.head cA 4 py EP (Int.toNat_of_nonneg (show 0≤yK.head∧yK.head <((hv).length:Int) from (by have:=Ye oP (hV.before.2 _ (List.mem_of_getElem? qG)).2 (by omega);omega)).1).symm ?_
 refine zD 1<|jl 1 (px _ _ EP)<|zD 5<|jl (b:=f) (off:=0) (m:=13) (vs:=[c0,c1,c2,.slice dj K.cs.length de,.slice cK hv.length cA,.slice mH K.rules.length mG,.slice kO K.before.length j9,.slice kP K.after.length kg,zI K.gone,zI K.new,zI K.af,.slice mI K.facts.length lE,.slice nW rows.length nE]) 4 ⟨_,_,_,.inl hf,rfl⟩<|zD 1 ?_
 obtain⟨x67,am2⟩:=zG hv (gi.head.toNat) (by have:=Ye oP (hV.after.2 _ (List.mem_of_getElem? jv)).2 (by omega);omega)
 refine OB gi.head cA 4 py am2 (Int.toNat_of_nonneg (show 0≤gi.head∧gi.head <((hv).length:Int) from (by have:=Ye oP (hV.after.2 _ (List.mem_of_getElem? jv)).2 (by omega);omega)).1).symm ?_
 refine zD 1<|jl 1 (px _ _ am2)<|jp (vs:=[.agg ⟨[.slice dj K.cs.length de,.slice cK hv.length cA]⟩,zI x57.cls,zI x67.cls]) [] [] (fun aC hs hZ=>asb (p7.up hs) oP hV.dH (Yf oP hV.dH (hV.before.2 _ (List.mem_of_getElem? qG)).2 (by omega) EP).2 (Yf oP hV.dH (hV.after.2 _ (List.mem_of_getElem? jv)).2 (by omega) am2).2)<|zD 9<|jp (vs:=[zI 0]) [] [] (fun aC hs hZ=>A4)<|zD 8<|aH q0 (.bool (decide ((GU K.cs x57.cls x67.cls) <0))) [] [] [] (Sub.refl _) ⟨_,_,rfl,rfl,by rw[ha] at qG;cases qG;rw[hb] at jv;cases jv;rw[uL,if_neg (by omega),(Yf oP hV.dH (hV.before.2 _ (List.mem_of_getElem? ha)).2 (by omega) EP).1,(Yf oP hV.dH (hV.after.2 _ (List.mem_of_getElem? hb)).2 (by omega) am2).1],rfl⟩
theorem amx{rows:List bE}{a:Nat}{on:Int}{ro:Nat→Option Obj}(hF:pM ro f K rows)(hV:eZ K):dz zT 336 [.agg ⟨[]⟩,zP f,zI (a:Int),zI (b:Int),.int .u8 on] ro (.bool (Cf on a b K.facts 0)):=by
 obtain⟨c0,c1,c2,vc,vh,vr,vb,va,vf,vt,hv,hf,p7,oP,hr,C7,Hr,EZ,bW⟩:=id hF
 obtain⟨hc,hh,dk⟩:=id p7
 obtain⟨dj,AP,AO,de,rfl,DW,yU,yT⟩:=hc
 obtain⟨cK,sr,sq,cA,rfl,tN,py,px⟩:=hh
 obtain⟨mH,MM,ML,mG,rfl,PM,Kl,Kk⟩:=hr
 obtain⟨kO,Jf,Jd,j9,rfl,Je,EH,EG⟩:=C7
 obtain⟨kP,Ji,Jg,kg,rfl,Jh,EJ,EI⟩:=Hr
 obtain⟨mI,TX,TV,lE,rfl,TW,MO,MN⟩:=EZ
 obtain⟨nW,EE,ED,nE,rfl,PI,MK,MJ⟩:=bW
 have SW:=hV.rules.1
 have Ai:=hV.before.1
 have Ed:=hV.after.1
 have hnf:=hV.facts.1
 refine bG av [] [] bh<|zD 2<|jn fun b5=>zD 9<|jl (b:=f) (off:=0) (m:=13) (vs:=[c0,c1,c2,.slice dj K.cs.length de,.slice cK hv.length cA,.slice mH K.rules.length mG,.slice kO K.before.length j9,.slice kP K.after.length kg,zI K.gone,zI K.new,zI K.af,.slice mI K.facts.length lE,.slice nW rows.length nE]) 11 ⟨_,_,_,.inl hf,rfl⟩<|zD 4<|ek [1,0,1,0,0] [] (fun(zz:Nat)=>[(2,zI (a:Int)),(3,zI (b:Int)),(4,.int .u8 on),(17,.slice mI K.facts.length lE),(18,zI (K.facts.length:Int)),(19,zI (zz:Int))]) (fun(zz:Nat)=>[]) (fun(zz:Nat)=>zz≤K.facts.length∧Cf on a b K.facts 0=Cf on a b (K.facts.drop zz) zz) (fun(zz:Nat)=>K.facts.length-zz) 0 ⟨by omega,rfl⟩ [] ?_
 rintro k hI K1 bM rest
 refine zD 5<|zJ 20 ((k:Int) <(K.facts.length:Int)) (fun h1=>?_) fun h1=>?_
 ·
  refine zD 7 ?_
  obtain⟨sI,ux⟩:=zG K.facts k
  refine iM lE 3 MO ux<|jl 0 (MN _ _ ux)<|jn fun iD=>jd 7 [0]<|jp (vs:=[.int .u8 on,zI (k:Int)]) [] [] (fun aC hs hZ=>(at4 (by omega)))<|zD 1<|jj 5 [(2,zI (a:Int)),(3,zI (b:Int)),(4,.int .u8 on),(12,zP iD),(17,.slice mI K.facts.length lE),(18,zI (K.facts.length:Int)),(19,zI (k:Int)),(32,.bool ((hasB on (k:Int))&&(decide (sI.a=(a:Int)))))] (fun ia=>?_) (fun hj=>?_)
  rotate_left
  refine js 27 (hasB on (k:Int)) (fun h2=>?_) (fun h2=>?_)
  ·
   refine jd 5 [0]<|jw 32 (.bool ((hasB on (k:Int))&&(decide (sI.a=(a:Int))))) (w:= .bool (decide (sI.a=(a:Int)))) (by rw[h2]<;>rfl) ?_
   exact hj _ (by kernel_rfl) (by kernel_rfl)
  ·
   refine zD 5<|jw 32 (.bool ((hasB on (k:Int))&&(decide (sI.a=(a:Int))))) (w:= .bool false) (by rw[h2]<;>rfl) ?_
   exact hj _ (by kernel_rfl) (by kernel_rfl)
  refine zD 1<|jj 5 [(2,zI (a:Int)),(3,zI (b:Int)),(4,.int .u8 on),(12,zP iD),(17,.slice mI K.facts.length lE),(18,zI (K.facts.length:Int)),(19,zI (k:Int)),(38,.bool (((hasB on (k:Int))&&(decide (sI.a=(a:Int))))&&(decide (sI.b=(b:Int)))))] (fun ia=>?_) (fun hj=>?_)
  rotate_left
  refine js 33 ((hasB on (k:Int))&&(decide (sI.a=(a:Int)))) (fun h3=>?_) (fun h3=>?_)
  ·
   have wP:=h3
   try simp only[zB] at wP
   refine jd 5 [0]<|jw 38 (.bool (((hasB on (k:Int))&&(decide (sI.a=(a:Int))))&&(decide (sI.b=(b:Int))))) (w:= .bool (decide (sI.b=(b:Int)))) (by rw[h3]<;>rfl) ?_
   exact hj _ (by kernel_rfl) (by kernel_rfl)
  ·
   have wP:=h3
   try simp only[zB] at wP
   refine zD 5<|jw 38 (.bool (((hasB on (k:Int))&&(decide (sI.a=(a:Int))))&&(decide (sI.b=(b:Int))))) (w:= .bool false) (by rw[h3]<;>rfl) ?_
   exact hj _ (by kernel_rfl) (by kernel_rfl)
  refine zD 1<|jj 4 [(2,zI (a:Int)),(3,zI (b:Int)),(4,.int .u8 on),(17,.slice mI K.facts.length lE),(18,zI (K.facts.length:Int)),(19,zI (k:Int)),(43,.bool ((((hasB on (k:Int))&&(decide (sI.a=(a:Int))))&&(decide (sI.b=(b:Int))))&&(!sI.same)))] (fun ia=>?_) (fun hj=>?_)
  rotate_left
  refine js 39 (((hasB on (k:Int))&&(decide (sI.a=(a:Int))))&&(decide (sI.b=(b:Int)))) (fun h4=>?_) (fun h4=>?_)
  ·
   have yz:=h4
   try simp only[zB] at yz
   refine jd 4 [0]<|jw 43 (.bool ((((hasB on (k:Int))&&(decide (sI.a=(a:Int))))&&(decide (sI.b=(b:Int))))&&(!sI.same))) (w:= .bool (!sI.same)) (by rw[h4]<;>rfl) ?_
   exact hj _ (by kernel_rfl) (by kernel_rfl)
  ·
   have yz:=h4
   try simp only[zB] at yz
   refine zD 4<|jw 43 (.bool ((((hasB on (k:Int))&&(decide (sI.a=(a:Int))))&&(decide (sI.b=(b:Int))))&&(!sI.same))) (w:= .bool false) (by rw[h4]<;>rfl) ?_
   exact hj _ (by kernel_rfl) (by kernel_rfl)
  refine zD 1<|js 43 ((((hasB on (k:Int))&&(decide (sI.a=(a:Int))))&&(decide (sI.b=(b:Int))))&&(!sI.same)) (fun h5=>?_) (fun h5=>?_)
  ·
   refine zD 6<|aH q0 (.bool true) [] [] [] (Sub.refl _) ⟨_,_,rfl,rfl,by rw[hI.2,WJ ux,show (((hasB on k&&decide (sI.a=a))&&decide (sI.b=b))&& !sI.same)=true from (by assumption)];rfl,rfl⟩
  refine zD 3<|ja ((k:Int)+1) (by omega)<|zD 2<|bA bM (k+1) ⟨by omega,by rw[hI.2,WJ ux,show (((hasB on k&&decide (sI.a=a))&&decide (sI.b=b))&& !sI.same)=false from (by assumption)];rfl⟩ (by omega) [] (Sub.refl _)
 refine zD 7<|aH q0 (.bool false) [] [] [] (Sub.refl _) ⟨_,_,rfl,rfl,by rw[hI.2,adu (by omega)],rfl⟩
theorem aCz{rows:List bE}{a:Nat}{on:Int}{ro:Nat→Option Obj}(hF:pM ro f K rows)(hV:eZ K)(ha:K.before[a]?=some x) (hb:K.after[b]?=some y):dz zT 126 [zP f,zI (a:Int),zI (b:Int),.int .u8 on] ro (.bool (dw K on a b)):=by
 refine bG av [] [] bh<|zD 7<|jp [] [] (fun aC hs hZ=>aCx)<|zD 3<|ek [1,0,1,0,0] [] (fun(zz:Nat)=>[(0,zP f),(1,zI (a:Int)),(2,zI (b:Int)),(3,.int .u8 on),(11,.agg ⟨[.iface 292 (.agg ⟨[]⟩),.iface 293 (.agg ⟨[]⟩),.iface 294 (.agg ⟨[]⟩)]⟩),(12,zI (zz:Int))]) (fun(zz:Nat)=>[]) (fun(zz:Nat)=>zz≤3∧(1≤zz→Ab K x y=false)∧(2≤zz→uL K x y=false)∧(3≤zz→Cf on a b K.facts 0=false)) (fun(zz:Nat)=>3-zz) 0 ⟨by omega,nofun,nofun,nofun⟩ [] ?_
 rintro k hI K1 bM rest
 refine zD 5<|zJ 13 ((k:Int) <3) (fun h1=>?_) fun h1=>?_
 ·
  refine zD 6 ?_
  obtain rfl|rfl|rfl:k=0∨k=1∨k=2:=by omega
  ·
   refine zD 10<|jpI (vs:=[.agg ⟨[]⟩,zP f,zI (a:Int),zI (b:Int),.int .u8 on]) (fun aC hs=>atI (hF.up hs) hV ha hb)<|zD 1<|js 20 (Ab K x y) (fun h2=>?_) (fun h2=>?_)
   ·
    refine zD 6<|aH q0 (.bool false) [] [] [] (Sub.refl _) ⟨_,_,rfl,rfl,by simp only[dw,ha,hb];simp[*],rfl⟩
   refine zD 6<|bA bM 1 ⟨by omega,(fun _=>by assumption),nofun,nofun⟩ (by omega) [] (Sub.refl _)
  ·
   refine zD 10<|jpI (vs:=[.agg ⟨[]⟩,zP f,zI (a:Int),zI (b:Int),.int .u8 on]) (fun aC hs=>afv (hF.up hs) hV ha hb)<|zD 1<|js 20 (uL K x y) (fun h3=>?_) (fun h3=>?_)
   ·
    refine zD 6<|aH q0 (.bool false) [] [] [] (Sub.refl _) ⟨_,_,rfl,rfl,by simp only[dw,ha,hb];simp[*],rfl⟩
   refine zD 6<|bA bM 2 ⟨by omega,(fun _=>hI.2.1 (by omega)),(fun _=>by assumption),nofun⟩ (by omega) [] (Sub.refl _)
  refine zD 10<|jpI (vs:=[.agg ⟨[]⟩,zP f,zI (a:Int),zI (b:Int),.int .u8 on]) (fun aC hs=>amx (hF.up hs) hV)<|zD 1<|js 20 (Cf on a b K.facts 0) (fun h4=>?_) (fun h4=>?_)
  ·
   refine zD 6<|aH q0 (.bool false) [] [] [] (Sub.refl _) ⟨_,_,rfl,rfl,by simp only[dw,ha,hb];simp[*],rfl⟩
  refine zD 6<|bA bM 3 ⟨by omega,(fun _=>hI.2.1 (by omega)),(fun _=>hI.2.2.1 (by omega)),(fun _=>by assumption)⟩ (by omega) [] (Sub.refl _)
 refine zD 7<|aH q0 (.bool true) [] [] [] (Sub.refl _) ⟨_,_,rfl,rfl,by simp only[dw,ha,hb,hI.2.1 (by omega),hI.2.2.1 (by omega),hI.2.2.2 (by omega)];rfl,rfl⟩
abbrev eP4(p:Nat→Int):List Value:=[zI (p 0),zI (p 1),zI (p 2),zI (p 3)]
abbrev pL(p:Nat→Int):List Int:=[p 0,p 1,p 2,p 3]
def iF(p:Nat→Int)(a:Nat)(v:Int):Nat→Int:=fun i=>if i=a then v else p i
theorem y8{a:Nat}(h:a <4):a=0∨a=1∨a=2∨a=3:=by omega
theorem as6{a:Nat}(h:a <4):nth (eP4 p) (0+(a:Int).toNat*1)=some (zI (p a)):=by
 rcases y8 h with rfl|rfl|rfl|rfl<;>rfl
theorem as5{a:Nat}{v:Int}(h:a <4):dI (eP4 p) (0+(a:Int).toNat*1) [zI v]=eP4 (iF p a v):=by
 rcases y8 h with rfl|rfl|rfl|rfl<;>rfl
theorem as7{a:Nat}{v:Value}(h:a <4):Nat.ble ((0+(a:Int).toNat*1)+[v].length) (eP4 p).length=true:=by
 rcases y8 h with rfl|rfl|rfl|rfl<;>rfl
theorem WN{r:bE}{a:Nat}(h:a <4)(k:b <4):nth (Dm r) (0+(a:Int).toNat*4+(b:Int).toNat*1)=some (.bool (r.c a b)):=by
 rcases y8 h with rfl|rfl|rfl|rfl<;>rcases y8 k with rfl|rfl|rfl|rfl<;>rfl
def jo(r:bE)(a b:Nat)(v:Bool):bE:=⟨fun i j=>if i=a∧j=b then v else r.c i j⟩
theorem WM{r:bE}{a:Nat}{v:Bool}(h:a <4)(k:b <4):dI (Dm r) (0+(a:Int).toNat*4+(b:Int).toNat*1) [.bool v]=Dm (jo r a b v):=by
 rcases y8 h with rfl|rfl|rfl|rfl<;>rcases y8 k with rfl|rfl|rfl|rfl<;>rfl
theorem WO{r:bE}{a:Nat}{v:Value}(h:a <4)(k:b <4):Nat.ble ((0+(a:Int).toNat*4+(b:Int).toNat*1)+[v].length) (Dm r).length=true:=by
 rcases y8 h with rfl|rfl|rfl|rfl<;>rcases y8 k with rfl|rfl|rfl|rfl<;>rfl
def lT(on:Int)(p:Nat→Int):List dc→Nat→Bool
 | [],_=>true
 |x::l,k=>bif (hasB on k&&x.same)&& !decide (p x.a.toNat=x.b+1) then false else lT on p l (k+1)
theorem xC{on:Int}{x:dc}(h:l[k]?=some x):lT on p (l.drop k) k=bif (hasB on k&&x.same)&& !decide (p x.a.toNat=x.b+1) then false else lT on p (l.drop (k+1)) (k+1):=by rw[fI h];rfl
theorem TH{on:Int}(h:¬k <l.length):lT on p (l.drop k) k=true:=by rw[eO h];rfl
def qN(p:Nat→Int)(a:Nat)(v:Int):Bool:=decide (bP (fun y=>decide (v=y)) ((pL p).take a) 0≥0)
theorem alo{ro:Nat→Option Obj}{T:TypeId}(h:ro b=some (.cells ⟨eP4 p⟩ T (0,0)))(hn:n≤4):bH ro (.slice (some ⟨b,0,none⟩) n 4) 1 cq ((pL p).take n):=by
 have:=bH.part (bF (enc:=cq) (T:=T) (pL p) h (fun _ _=>rfl)) (l:=0) (h:=n) (by omega) (by simpa using hn)
 simpa [dY] using this
theorem afD{v:Value}{n:Int}{ro:Nat→Option Obj}(hl:bH ro v 1 cq xs)(hn:xs.length≤1000000):dz zT 67 [v,zI n] ro (zI (bP (fun y=>decide (n=y)) xs 0)):=by
 obtain⟨fL,sj,si,fp,rfl,tZ,lU,mS⟩:=hl
 refine bG av [] [] bh<|zD 12<|ek [1,0,1,0,0] [] (fun(zz:Nat)=>[(0,.slice fL xs.length fp),(1,zI n),(7,zI (xs.length:Int)),(8,zI (zz:Int))]) (fun(zz:Nat)=>[]) (fun(zz:Nat)=>zz≤xs.length∧bP (fun y=>decide (n=y)) xs 0=bP (fun y=>decide (n=y)) (xs.drop zz) zz) (fun(zz:Nat)=>xs.length-zz) 0 ⟨by omega,rfl⟩ [] ?_
 rintro k hI K1 bM rest
 refine zD 5<|zJ 9 ((k:Int) <(xs.length:Int)) (fun h1=>?_) fun h1=>?_
 ·
  refine zD 14 ?_
  obtain⟨eF,dK⟩:=zG xs k
  refine iM fp 1 lU dK<|jl 0 (mS _ _ dK)<|zD 2<|zJ 16 (n=eF) (fun h2=>?_) fun h2=>?_
  ·
   refine zD 7<|aH q0 (zI (k:Int)) [] [] [] (Sub.refl _) ⟨_,_,rfl,rfl,by rw[hI.2,gM dK];simp[*],rfl⟩
  refine zD 3<|ja ((k:Int)+1) (by omega)<|zD 2<|bA bM (k+1) ⟨by omega,by rw[hI.2,gM dK];simp[*]⟩ (by omega) [] (Sub.refl _)
 refine zD 7<|aH q0 (zI (-1)) [] [] [] (Sub.refl _) ⟨_,_,rfl,rfl,by rw[hI.2,nn (by omega)],rfl⟩
theorem aQ1{v:Value}{n:Int}{ro:Nat→Option Obj}(hl:bH ro v 1 cq xs)(hn:xs.length≤1000000):dz zT 130 [v,zI n] ro (.bool (decide (bP (fun y=>decide (n=y)) xs 0≥0))):=by
 obtain⟨fL,sj,si,fp,rfl,tZ,lU,mS⟩:=hl
 refine bG av [] [] bh<|zD 8<|jp (vs:=[.slice fL xs.length fp,zI n]) [] [] (fun aC hs hZ=>afD ((show bH _ _ _ _ _ from ⟨fL,sj,si,fp,rfl,tZ,lU,mS⟩).up hs) (by first|omega| (simp only[List.length_set,List.length_append,List.length_cons,List.length_nil];omega))) ?_
 refine zD 4<|aH q0 (.bool (decide ((bP (fun y=>decide (n=y)) xs 0)≥0))) [] [] [] (Sub.refl _) ⟨_,_,rfl,rfl,rfl,rfl⟩
theorem atJ{rows:List bE}{on:Int}{ro:Nat→Option Obj}(hF:pM ro f K rows)(hV:eZ K)(g1:ro b1=some (.cells ⟨[zP f]⟩ 104 (0,0)))(g2:ro b2=some (.cells ⟨[.int .u8 on]⟩ 120 (0,0))):dz zT 127 [.agg ⟨[zI (p 0),zI (p 1),zI (p 2),zI (p 3)]⟩,zP b1,zP b2] ro (.bool (lT on p K.facts 0)):=by
 obtain⟨c0,c1,c2,vc,vh,vr,vb,va,vf,vt,hv,hf,p7,oP,hr,C7,Hr,EZ,bW⟩:=id hF
 obtain⟨hc,hh,dk⟩:=id p7
 obtain⟨dj,AP,AO,de,rfl,DW,yU,yT⟩:=hc
 obtain⟨cK,sr,sq,cA,rfl,tN,py,px⟩:=hh
 obtain⟨mH,MM,ML,mG,rfl,PM,Kl,Kk⟩:=hr
 obtain⟨kO,Jf,Jd,j9,rfl,Je,EH,EG⟩:=C7
 obtain⟨kP,Ji,Jg,kg,rfl,Jh,EJ,EI⟩:=Hr
 obtain⟨mI,TX,TV,lE,rfl,TW,MO,MN⟩:=EZ
 obtain⟨nW,EE,ED,nE,rfl,PI,MK,MJ⟩:=bW
 have SW:=hV.rules.1
 have Ai:=hV.before.1
 have Ed:=hV.after.1
 have hnf:=hV.facts.1
 refine bG av [] [] bh<|zD 2<|jn fun b3=>zD 5<|jl (b:=b1) (off:=0) (m:=1) (vs:=[zP f]) 0 ⟨_,_,_,.inl g1,rfl⟩<|zD 3<|jl (b:=f) (off:=0) (m:=13) (vs:=[c0,c1,c2,.slice dj K.cs.length de,.slice cK hv.length cA,.slice mH K.rules.length mG,.slice kO K.before.length j9,.slice kP K.after.length kg,zI K.gone,zI K.new,zI K.af,.slice mI K.facts.length lE,.slice nW rows.length nE]) 11 ⟨_,_,_,.inl hf,rfl⟩<|zD 4<|ek [1,0,1,0,0] [] (fun(zz:Nat)=>[(2,zP b2),(3,zP b3),(11,.slice mI K.facts.length lE),(12,zI (K.facts.length:Int)),(13,zI (zz:Int))]) (fun(zz:Nat)=>[.b b3 (.cells ⟨[zI (p 0),zI (p 1),zI (p 2),zI (p 3)]⟩ 113 (0,0))]) (fun(zz:Nat)=>zz≤K.facts.length∧lT on p K.facts 0=lT on p (K.facts.drop zz) zz) (fun(zz:Nat)=>K.facts.length-zz) 0 ⟨by omega,rfl⟩ [0] ?_
 rintro k hI K1 bM rest
 refine zD 5<|zJ 14 ((k:Int) <(K.facts.length:Int)) (fun h1=>?_) fun h1=>?_
 ·
  refine zD 7 ?_
  obtain⟨BS,mZ⟩:=zG K.facts k
  refine iM lE 3 MO mZ<|jl 0 (MN _ _ mZ)<|jn fun b6=>jd 4 [0] ?_
  have hf4:=(hV.facts.2 _ (List.mem_of_getElem? mZ)).1
  have hf5:=(hV.facts.2 _ (List.mem_of_getElem? mZ)).2
  have hae:BS.a=(BS.a.toNat:Int):=by omega
  refine zD 1<|jl (b:=b2) (off:=0) (m:=1) (vs:=[.int .u8 on]) 0 ⟨_,_,_,.inl g2,rfl⟩<|zD 1<|jp (vs:=[.int .u8 on,zI (k:Int)]) [] [] (fun aC hs hZ=>(at4 (by omega)))<|zD 1<|js 3 (hasB on (k:Int)) (fun h2=>?_) (fun h2=>?_)
  ·
   refine jd 4 [0]<|js 7 BS.same (fun h3=>?_) (fun h3=>?_)
   ·
    refine jd 2 [0]<|GY (b:=b3) (off:=0) (len:=4) (sz:=1) BS.a (by omega)<|mY (b:=b3) (off:=0+BS.a.toNat*1) (m:=1) (vs:=[zI (p BS.a.toNat)]) 0 [1] [(b3,.cells ⟨[zI (p 0),zI (p 1),zI (p 2),zI (p 3)]⟩ 113 (0,0))] (fun s _ hZ=>oI (hZ _ (.head _)) (by rw[hae];exact as6 (by omega))) ?_
    refine jd 2 [0]<|ja (BS.b+1) (by omega)<|zD 3<|js 34 (!decide ((p BS.a.toNat)=(BS.b+1))) (fun h4=>?_) (fun h4=>?_)
    ·
     replace h4:=of_decide_eq_false (by simpa using h4)
     refine zD 6<|aH q0 (.bool false) [] [] [] (Sub.refl _) ⟨_,_,rfl,rfl,by rw[hI.2,xC mZ];simp only[h2,h3,decide_eq_false h4,Bool.and_true,Bool.true_and,Bool.not_false,Bool.not_true,Bool.and_false,Bool.false_and,cond_true,cond_false],rfl⟩
    replace h4:=of_decide_eq_true (by simpa using h4)
    refine zD 3<|ja ((k:Int)+1) (by omega)<|zD 2<|bA bM (k+1) ⟨by omega,by rw[hI.2,xC mZ];simp only[h2,h3,decide_eq_true h4,Bool.and_true,Bool.true_and,Bool.not_false,Bool.not_true,Bool.and_false,Bool.false_and,cond_true,cond_false]⟩ (by omega) [1] (Sub.refl _)
   refine zD 13<|ja ((k:Int)+1) (by omega)<|zD 2<|bA bM (k+1) ⟨by omega,by rw[hI.2,xC mZ];simp only[h2,h3,Bool.and_true,Bool.true_and,Bool.not_false,Bool.not_true,Bool.and_false,Bool.false_and,cond_true,cond_false]⟩ (by omega) [1] (Sub.refl _)
  refine zD 17<|ja ((k:Int)+1) (by omega)<|zD 2<|bA bM (k+1) ⟨by omega,by rw[hI.2,xC mZ];simp only[h2,Bool.and_true,Bool.true_and,Bool.not_false,Bool.not_true,Bool.and_false,Bool.false_and,cond_true,cond_false]⟩ (by omega) [1] (Sub.refl _)
 refine zD 7<|aH q0 (.bool true) [] [] [] (Sub.refl _) ⟨_,_,rfl,rfl,by rw[hI.2,TH (by omega)],rfl⟩
def iU(K:aE)(on:Int):Nat→Nat→(Nat→Int)→List (Nat→Int)
 |0,_,p=>bif lT on p K.facts 0 then [p] else []
 |n+1,a,p=>iU K on n (a+1) p++(List.range K.after.length).flatMap fun b=>bif !dw K on a b||qN p a ((b:Int)+1) then [] else iU K on n (a+1) (iF p a ((b:Int)+1))
def nM(K:aE)(on:Int)(n a:Nat)(p:Nat→Int)(b:Nat):List (Nat→Int):=bif !dw K on a b||qN p a ((b:Int)+1) then [] else iU K on n (a+1) (iF p a ((b:Int)+1))
theorem qT(K:aE)(on:Int)(n a:Nat)(p:Nat→Int):iU K on (n+1) a p=iU K on n (a+1) p++(List.range K.after.length).flatMap (nM K on n a p):=rfl
theorem Part.left{L x y:List α}{p:Nat}(h:Part L p (x++y)):Part L p x:=by
 obtain⟨a,b,rfl,h2⟩:=h
 exact⟨a,y++b,by simp,h2⟩
theorem Part.right{L x y:List α}{p:Nat}(h:Part L p (x++y)):Part L (p+x.length) y:=by
 obtain⟨a,b,rfl,rfl⟩:=h
 exact⟨a++x,b,by simp,by simp⟩
theorem ZL{j:Nat}(h:j <n):∃r,List.range n=List.range j++[j]++r:=by
 refine⟨(List.range n).drop (j+1),?_⟩
 have h1:(List.range n).take (j+1)=List.range (j+1):=by rw[List.take_range,Nat.min_eq_left h]
 rw[←List.range_succ,←h1,List.take_append_drop]
theorem Yj{q:Nat→Int}{a:Nat}{v:Int}(ha:a <4)(h:∀i,i≠a→q i=p i):qN q a v=qN p a v:=by
 have:(pL q).take a=(pL p).take a:=by
  rcases y8 ha with rfl|rfl|rfl|rfl
  ·rfl
  ·simp[h 0 (by omega)]
  ·simp[h 0 (by omega),h 1 (by omega)]
  simp[h 0 (by omega),h 1 (by omega),h 2 (by omega)]
 simp only[qN,this]
theorem Wk{q:Nat→Int}{a:Nat}{v:Int}(h:∀i,i≠a→q i=p i):iF q a v=iF p a v:=by
 funext i
 simp only[iF]
 split
 ·rfl
 rename_i hi;exact h i hi
abbrev ePs(L:List (Nat→Int)):(Nat→Option Obj)→Nat→List Value→Cells→Prop:=fun _ k vs LL=>∃p,L[k]?=some p∧vs=[.agg ⟨eP4 p⟩]∧LL=[]
structure ajY(ro:Nat→Option Obj)(bl f:Nat)(K:aE)(on:Int)(bf br bD bg bt bo:Nat):Prop where
 f:ro bf=some (.cells ⟨[zP f]⟩ 104 (0,0))
 r:ro br=some (.cells ⟨[.func (.func 127) ⟨[]⟩ ⟨[zP bf,zP bo]⟩]⟩ 221 (0,0))
 y:ro bD=some (.cells ⟨[.func (.yield bl) #[] #[]]⟩ 221 (0,0))
 g:ro bg=some (.cells ⟨[.func (.func 129) ⟨[]⟩ ⟨[zP bf,zP br,zP bD,zP bg,zP bt]⟩]⟩ 222 (0,0))
 t:ro bt=some (.cells ⟨Dm ⟨dw K on⟩⟩ 159 (0,0))
 o:ro bo=some (.cells ⟨[.int .u8 on]⟩ 120 (0,0))
def aq9(bl f:Nat)(K:aE)(rows:List bE)(on:Int)(bf br bD bg bt bo:Nat)(L:List (Nat→Int))(Inv:Nat→Cells→Prop)(Stop:Cells→Prop)(n:Nat):Prop:=
 ∀(ro:Nat→Option Obj) (a:Nat) (p:Nat→Int) (q:Nat) (B:Cells),ajY ro bl f K on bf br bD bg bt bo→pM ro f K rows→a+n=K.before.length→Part L q (iU K on n a p)→Inv q B→YOK zT bl ro L.length (ePs L) Inv Stop→
  eV zT 129 [.agg ⟨eP4 p⟩,zI (a:Int),zP bf,zP br,zP bD,zP bg,zP bt] ro B (fun r Y=>∃c,r= .bool c∧(c=true→Inv (q+(iU K on n a p).length) Y)∧(c=false→Stop Y))
theorem at5{a q:Nat}{on:Int}{B:Cells}{L:List (Nat→Int)}{Inv:Nat→Cells→Prop}{rows:List bE}{ro:Nat→Option Obj}(ih:∀m,m <n→aq9 bl f K rows on bf br bD bg bt bo L Inv Stop m)(hV:eZ K)(oO:ajY ro bl f K on bf br bD bg bt bo)(hF:pM ro f K rows)(han:a+n=K.before.length)(hP:Part L q (iU K on n a p))(hB:Inv q B)(hy:YOK zT bl ro L.length (ePs L) Inv Stop):eV zT 129 [.agg ⟨[zI (p 0),zI (p 1),zI (p 2),zI (p 3)]⟩,zI (a:Int),zP bf,zP br,zP bD,zP bg,zP bt] ro B (fun r Y=>∃c,r= .bool c∧(c=true→Inv (q+(iU K on n a p).length) Y)∧(c=false→Stop Y)):=by
 obtain⟨gf,gr,gy,gg,gt,go⟩:=id oO
 obtain⟨c0,c1,c2,vc,vh,vr,vb,va,vf,vt,hv,hf,p7,oP,hr,C7,Hr,EZ,bW⟩:=id hF
 obtain⟨hc,hh,dk⟩:=id p7
 obtain⟨dj,AP,AO,de,rfl,DW,yU,yT⟩:=hc
 obtain⟨cK,sr,sq,cA,rfl,tN,py,px⟩:=hh
 obtain⟨mH,MM,ML,mG,rfl,PM,Kl,Kk⟩:=hr
 obtain⟨kO,Jf,Jd,j9,rfl,Je,EH,EG⟩:=C7
 obtain⟨kP,Ji,Jg,kg,rfl,Jh,EJ,EI⟩:=Hr
 obtain⟨mI,TX,TV,lE,rfl,TW,MO,MN⟩:=EZ
 obtain⟨nW,EE,ED,nE,rfl,PI,MK,MJ⟩:=bW
 have SW:=hV.rules.1
 have Ai:=hV.before.1
 have Ed:=hV.after.1
 have hnf:=hV.facts.1
 refine bG av [.l B] [] bh<|zD 2<|jn fun b7=>zD 6<|jl (b:=bf) (off:=0) (m:=1) (vs:=[zP f]) 0 ⟨_,_,_,.inl gf,rfl⟩<|zD 3<|jl (b:=f) (off:=0) (m:=13) (vs:=[c0,c1,c2,.slice dj K.cs.length de,.slice cK hv.length cA,.slice mH K.rules.length mG,.slice kO K.before.length j9,.slice kP K.after.length kg,zI K.gone,zI K.new,zI K.af,.slice mI K.facts.length lE,.slice nW rows.length nE]) 6 ⟨_,_,_,.inl hf,rfl⟩<|zD 3<|zJ 18 ((a:Int)=(K.before.length:Int)) (fun h1=>?_) fun h1=>?_
 ·
  refine zD 2 ?_
  obtain rfl:n=0:=by omega
  refine zD 1<|jl (b:=br) (off:=0) (m:=1) (vs:=[.func (.func 127) ⟨[]⟩ ⟨[zP bf,zP bo]⟩]) 0 ⟨_,_,_,.inl gr,rfl⟩<|jd 1 [0]<|jp (vs:=[.agg ⟨[zI (p 0),zI (p 1),zI (p 2),zI (p 3)]⟩,zP bf,zP bo]) [] [] (fun aC hs hZ=>atJ (hF.up hs) hV (hs _ _ gf) (hs _ _ go))<|zD 2<|js 23 (!(lT on p K.facts 0)) (fun h2=>?_) (fun h2=>?_)
  ·
   have mM:=h2
   try simp only[zB] at mM
   refine zD 7<|aH q0 (.bool true) [] [1] B (Sub.refl _) ⟨_,_,rfl,rfl,_,rfl,(fun _=>by rw[show iU K on 0 a p=[] by simp only[iU,show lT on p K.facts 0=false by simpa using h2];rfl];exact hB),nofun⟩
  have mM:=h2
  try simp only[zB] at mM
  have agY:iU K on 0 a p=[p]:=by simp only[iU,show lT on p K.facts 0=true by simpa using h2];rfl
  have Yc:=Part.get (i:=0) (x:=p) hP (by rw[agY];rfl)
  refine jl (b:=bD) (off:=0) (m:=1) (vs:=[(.func (.yield bl) #[] #[])]) 0 ⟨_,_,_,.inl gy,rfl⟩<|jd 1 [0]<|jyc [1] (hy q [.agg ⟨[zI (p 0),zI (p 1),zI (p 2),zI (p 3)]⟩] [] B ro Yc.1 ⟨_,Yc.2,rfl,rfl⟩ hB (Sub.refl _)) (Sub.refl _) ?_
  intro v26 Y26 aRf
  obtain⟨c26,rfl,aTZ,aTM⟩:=yb aRf
  refine zD 4<|aH q0 (.bool c26) [] [0] Y26 (Sub.refl _) ⟨_,_,rfl,rfl,_,rfl,(fun h=>by rw[agY];exact aTZ h),aTM⟩
 refine zD 4 ?_
 obtain⟨m,rfl⟩:∃m,n=m+1:=⟨n-1,by omega⟩
 rw[qT] at hP
 refine zD 1<|jl (b:=bg) (off:=0) (m:=1) (vs:=[.func (.func 129) ⟨[]⟩ ⟨[zP bf,zP br,zP bD,zP bg,zP bt]⟩]) 0 ⟨_,_,_,.inl gg,rfl⟩<|jd 2 [0]<|ja ((a:Int)+1) (by omega)<|jc (vs:=[.agg ⟨[zI (p 0),zI (p 1),zI (p 2),zI (p 3)]⟩,zI ((a:Int)+1),zP bf,zP br,zP bD,zP bg,zP bt]) [1] (ih m (by omega) _ (a+1) p q _ oO hF (by omega) (Part.left hP) hB hy) ?_
 rintro _ Y32 ⟨c32,rfl,aTW,aTJ⟩
 refine zD 2<|js 33 (!c32) (fun h3=>?_) (fun h3=>?_)
 ·
  try simp only[zB] at h3
  refine zD 6<|aH q0 (.bool false) [] [0] Y32 (Sub.refl _) ⟨_,_,rfl,rfl,_,rfl,nofun,fun _=>aTJ (by simp_all)⟩
 try simp only[zB] at h3
 refine zD 5<|jl (b:=bf) (off:=0) (m:=1) (vs:=[zP f]) 0 ⟨_,_,_,.inl gf,rfl⟩<|zD 3<|jl (b:=f) (off:=0) (m:=13) (vs:=[c0,c1,c2,.slice dj K.cs.length de,.slice cK hv.length cA,.slice mH K.rules.length mG,.slice kO K.before.length j9,.slice kP K.after.length kg,zI K.gone,zI K.new,zI K.af,.slice mI K.facts.length lE,.slice nW rows.length nE]) 7 ⟨_,_,_,.inl hf,rfl⟩<|zD 4<|ek [1,1,1,0,1,0,0] [] (fun(zz:Nat×(Nat→Int)×Cells)=>[(1,zI (a:Int)),(5,zP bg),(6,zP bt),(7,zP b7),(39,zI (K.after.length:Int)),(40,zI (zz.1:Int))]) (fun(zz:Nat×(Nat→Int)×Cells)=>[.b b7 (.cells ⟨[zI (zz.2.1 0),zI (zz.2.1 1),zI (zz.2.1 2),zI (zz.2.1 3)]⟩ 113 (0,0)),.l zz.2.2]) (fun(zz:Nat×(Nat→Int)×Cells)=>zz.1≤K.after.length∧Inv (q+(iU K on m (a+1) p).length+((List.range zz.1).flatMap (nM K on m a p)).length) zz.2.2∧∀i,i≠a→zz.2.1 i=p i) (fun(zz:Nat×(Nat→Int)×Cells)=>K.after.length-zz.1) (⟨0,p,Y32⟩) ⟨by dsimp only;omega,by have:=aTW (by simp_all);simpa using this,fun _ _=>rfl⟩ [1,0] ?_
 rintro⟨j,pp,B⟩ hJ K1 bM rest
 dsimp only at hJ
 refine zD 5<|zJ 41 ((j:Int) <(K.after.length:Int)) (fun h4=>?_) fun h4=>?_
 ·
  refine zD 11 ?_
  have ha4:a <4:=by omega
  have hj4:j <4:=by omega
  obtain⟨rr,hrr⟩:=ZL (show j <K.after.length by omega)
  have hPj:=Part.flat (Part.right hP) hrr
  refine zD 3<|GY (b:=bt) (off:=0) (len:=4) (sz:=4) (a:Int) (by omega)<|GY (b:=bt) (off:=0+(a:Int).toNat*4) (len:=4) (sz:=1) (j:Int) (by omega)<|jl (b:=bt) (off:=0+(a:Int).toNat*4+(j:Int).toNat*1) (m:=1) (vs:=[.bool (dw K on a j)]) 0 (oI (.inl gt) (WN (r:=⟨dw K on⟩) ha4 hj4))<|zD 2<|js 49 (!(dw K on a j)) (fun h5=>?_) (fun h5=>?_)
  ·
   have NM:=h5
   try simp only[zB] at NM
   refine zD 10<|ja ((j:Int)+1) (by omega)<|zD 2<|bA bM (⟨j+1,pp,B⟩) ⟨by dsimp only;omega,by dsimp only;rw[List.range_succ,List.flatMap_append,List.length_append,List.flatMap_singleton,←Nat.add_assoc];rw[show nM K on m a p j=[] by simp only[nM,h5];rfl];exact hJ.2.1,hJ.2.2⟩ (by dsimp only;omega) [0,1] (Sub.refl _)
  have NM:=h5
  try simp only[zB] at NM
  refine zD 1<|jah (b:=b7) (off:=0) (len:=4) (a:Int) (by omega)<|zD 1<|ja ((j:Int)+1) (by omega)<|jp (vs:=[(.slice (some ⟨b7,0,none⟩) (a:Int).toNat 4),zI ((j:Int)+1)]) [0] [(b7,.cells ⟨[zI (pp 0),zI (pp 1),zI (pp 2),zI (pp 3)]⟩ 113 (0,0))] (fun aC hs hZ=>aQ1 (alo hZ.head (by omega)) (by rw[List.length_take];omega)) ?_
  refine zD 2<|js 55 (qN pp a ((j:Int)+1)) (fun h6=>?_) (fun h6=>?_)
  ·
   refine zD 3<|ja ((j:Int)+1) (by omega)<|zD 2<|bA bM (⟨j+1,pp,B⟩) ⟨by dsimp only;omega,by dsimp only;rw[List.range_succ,List.flatMap_append,List.length_append,List.flatMap_singleton,←Nat.add_assoc];rw[show nM K on m a p j=[] by simp only[nM,←Yj ha4 hJ.2.2,h5,h6];rfl];exact hJ.2.1,hJ.2.2⟩ (by dsimp only;omega) [0,1] (Sub.refl _)
  have hg0:nM K on m a p j=iU K on m (a+1) (iF p a ((j:Int)+1)):=by simp only[nM,←Yj ha4 hJ.2.2,h5,h6];rfl
  have hPg:Part L (q+(iU K on m (a+1) p).length+((List.range j).flatMap (nM K on m a p)).length) (iU K on m (a+1) (iF pp a ((j:Int)+1))):=by rw[Wk hJ.2.2,←hg0];exact hPj
  refine zD 6<|ja ((j:Int)+1) (by omega)<|GY (b:=b7) (off:=0) (len:=4) (sz:=1) (a:Int) (by omega)<|jsx 0 b7 (0+(a:Int).toNat*1) [zI (pp 0),zI (pp 1),zI (pp 2),zI (pp 3)] [zI ((j:Int)+1)] 113 (by intro v hv;rw[List.mem_singleton] at hv;subst hv;rfl) (as7 (p:=pp) ha4) ?_
  refine jmw 0 [.b b7 (.cells ⟨[zI ((iF pp a ((j:Int)+1)) 0),zI ((iF pp a ((j:Int)+1)) 1),zI ((iF pp a ((j:Int)+1)) 2),zI ((iF pp a ((j:Int)+1)) 3)]⟩ 113 (0,0))] (L:=[(b7,.cells ⟨dI [zI (pp 0),zI (pp 1),zI (pp 2),zI (pp 3)] (0+(a:Int).toNat*1) [zI ((j:Int)+1)]⟩ 113 (0,0))]) (by rw[as5 ha4];rfl) ?_
  refine zD 3<|jl (b:=bg) (off:=0) (m:=1) (vs:=[.func (.func 129) ⟨[]⟩ ⟨[zP bf,zP br,zP bD,zP bg,zP bt]⟩]) 0 ⟨_,_,_,.inl gg,rfl⟩<|jd 2 [0]<|ja ((a:Int)+1) (by omega)<|jc (vs:=[.agg ⟨[zI ((iF pp a ((j:Int)+1)) 0),zI ((iF pp a ((j:Int)+1)) 1),zI ((iF pp a ((j:Int)+1)) 2),zI ((iF pp a ((j:Int)+1)) 3)]⟩,zI ((a:Int)+1),zP bf,zP br,zP bD,zP bg,zP bt]) [1] (ih m (by omega) _ (a+1) _ (q+(iU K on m (a+1) p).length+((List.range j).flatMap (nM K on m a p)).length) _ oO hF (by omega) hPg hJ.2.1 hy) ?_
  rintro _ Y64 ⟨YK,rfl,aTT,aTH⟩
  refine zD 2<|js 65 (!YK) (fun h7=>?_) (fun h7=>?_)
  ·
   try simp only[zB] at h7
   refine zD 6<|aH q0 (.bool false) [] [0] Y64 (Sub.refl _) ⟨_,_,rfl,rfl,_,rfl,nofun,fun _=>aTH (by simp_all)⟩
  try simp only[zB] at h7
  refine zD 3<|ja ((j:Int)+1) (by omega)<|zD 2<|bA bM (⟨j+1,(iF pp a ((j:Int)+1)),Y64⟩) ⟨by dsimp only;omega,by dsimp only;rw[List.range_succ,List.flatMap_append,List.length_append,List.flatMap_singleton,←Nat.add_assoc];rw[hg0,←Wk hJ.2.2];exact aTT (by simp_all),(fun i hi=>by simp only[iF,if_neg hi];exact hJ.2.2 i hi)⟩ (by dsimp only;omega) [1,0] (Sub.refl _)
 refine zD 7<|aH q0 (.bool true) [] [1] B (Sub.refl _) ⟨_,_,rfl,rfl,_,rfl,(fun _=>by rw[qT,List.length_append,←Nat.add_assoc];have:=hJ.2.1;rwa[show j=K.after.length by omega] at this),nofun⟩
theorem aCy(hV:eZ K){rows:List bE}{on:Int}{L:List (Nat→Int)}{Inv:Nat→Cells→Prop}:∀n,aq9 bl f K rows on bf br bD bg bt bo L Inv Stop n:=by
 intro n
 induction n using Nat.strongRecOn with
 |_ n ih=>exact fun ro a p q B hc hF han hP hB hy=>at5 ih hV hc hF han hP hB hy
def aN(K:aE)(on:Int):List (Nat→Int):=iU K on K.before.length 0 fun _=>0
theorem Yu{on:Int}{a:Nat}(h:¬a <K.before.length∨¬b <K.after.length):dw K on a b=false:=by
 rcases h with h|h
 ·simp[dw,List.getElem?_eq_none (Nat.le_of_not_lt h)]
 simp only[dw,List.getElem?_eq_none (Nat.le_of_not_lt h)]
 split
 ·rename_i h1;cases h1
 rfl
def E9(K:aE)(on:Int)(i j:Nat)(r:bE):Prop:=∀x y,r.c x y=((decide (x <i)||(decide (x=i)&&decide (y <j)))&&dw K on x y)
theorem E9.set{on:Int}{i j:Nat}{r:bE}(h:E9 K on i j r):E9 K on i (j+1) (jo r i j (dw K on i j)):=fun x y=>by
 simp only[jo]
 split
 ·rename_i hx;obtain⟨rfl,rfl⟩:=hx;simp
 rename_i hx
 rw[h x y]
 congr 2
 by_cases e:x=i
 ·subst e
  have:y≠j:=fun e2=>hx ⟨rfl,e2⟩
  simp only[decide_true,Bool.true_and]
  congr 1
  exact propext (by omega)
 simp[e]
theorem E9.nxt{on:Int}{i:Nat}{r:bE}(h:E9 K on i K.after.length r):E9 K on (i+1) 0 r:=fun x y=>by
 rw[h x y]
 by_cases hy:y <K.after.length
 ·congr 1
  simp only[hy,decide_true,Bool.and_true,Nat.not_lt_zero,decide_false,Bool.and_false,Bool.or_false]
  rw[Bool.eq_iff_iff];simp;omega
 rw[Yu (.inr hy)];simp
theorem E9.fin{on:Int}{r:bE}(h:E9 K on K.before.length 0 r):r=⟨dw K on⟩:=by
 rcases r with ⟨c⟩
 congr 1
 funext x y
 have:=h x y
 dsimp only at this
 rw[this]
 by_cases hx:x <K.before.length
 ·simp[hx]
 rw[Yu (.inl hx)];simp
theorem alS{a:Nat}(h:a <4):nth (eP4 p) ((a:Int).toNat*1)=some (zI (p a)):=by
 rcases y8 h with rfl|rfl|rfl|rfl<;>rfl
theorem ady{r:bE}{a:Nat}{j:Int}(h:a <4)(k:0≤j∧j <4):nth (Dm r) (0+(a:Int).toNat*4+j.toNat*1)=some (.bool (r.c a j.toNat)):=by
 obtain⟨m,rfl⟩:=Int.eq_ofNat_of_zero_le k.1
 exact WN h (by omega)
def wu(r:bE)(p:Nat→Int):Nat→Int
 |0=>0
 |k+1=>wu r p k+bif decide (p k>0)&& !r.c k (p k-1).toNat then 1 else 0
def cu(K:aE)(r:bE)(past:Nat)(p:Nat→Int):ai:=⟨past,p 0,p 1,p 2,p 3,K.before.length-qy (pL p),K.after.length-qy (pL p),wu r p 4⟩
theorem Xa(p:Nat→Int):0≤qy (pL p)∧qy (pL p)≤4:=by
 have:=List.length_filter_le (fun x=>decide (x>0)) (pL p)
 simp only[qy]
 exact⟨by omega,by simp only[List.length_cons,List.length_nil] at this;omega⟩
theorem XJ{rows:List bE}{on:Int}{ro:Nat→Option Obj}(hF:pM ro f K rows)(hV:eZ K)(g1:ro b1=some (.cells ⟨[zP f]⟩ 104 (0,0)))(g2:ro b2=some (.cells ⟨[.func (.func 127) ⟨[]⟩ ⟨[zP b1,zP b4]⟩]⟩ 221 (0,0)))(g3:ro b3=some (.cells ⟨Dm ⟨dw K on⟩⟩ 159 (0,0)))(g4:ro b4=some (.cells ⟨[.int .u8 on]⟩ 120 (0,0))):ItX zT 128 [] [zP b1,zP b2,zP b3] ro [] (aN K on).length (ePs (aN K on)) (fun Z=>Z=[]):=by
 intro bl aC Inv Stop hs hy B hB
 replace g1:=hs _ _ g1
 replace g2:=hs _ _ g2
 replace g3:=hs _ _ g3
 replace g4:=hs _ _ g4
 replace hF:=hF.up hs
 refine bG av [.l B] [] bh<|zD 2<|jn fun b4=>zD 3<|jn fun b5=>jd 9 [0,0]<|jf [1,0] ((b4,.cells ⟨[(.func (.yield bl) #[] #[])]⟩ 221 (0,0))::[(b5,.cells ⟨[.func (.func 129) ⟨[]⟩ ⟨[zP b1,zP b2,zP b4,zP b5,zP b3]⟩]⟩ 222 (0,0))]) fun yn bB iN=>jc (vs:=[.agg ⟨[zI 0,zI 0,zI 0,zI 0]⟩,zI 0,zP b1,zP b2,zP b4,zP b5,zP b3]) [0] (aCy (K:=K) hV (on:=on) _ _ 0 (fun _=>0) 0 _ ⟨(bB _ _ g1),(bB _ _ g2),iN _ (.head _),iN _ (.tail _ (.head _)),(bB _ _ g3),bB _ _ g4⟩ (hF.up bB) (Nat.zero_add _) ⟨[],[],by simp[aN],rfl⟩ hB (YOK.up hy bB)) ?_
 rintro _ Y9 ⟨c9,rfl,hc9,hd9⟩
 refine zD 1<|aH q0.a (.tuple ⟨[]⟩) [] [0] Y9 bB ⟨_,_,rfl,rfl,[],Y9,rfl,rfl,by cases c9 with|true=>exact .inl (by simpa [aN] using hc9 rfl)|false=>exact .inr (hd9 rfl)⟩
theorem KU{rows:List bE}{on:Int}{ro:Nat→Option Obj}(hF:pM ro f K rows)(hV:eZ K):eV zT 94 [zP f,.int .u8 on] ro [] (fun r Y=>∃b1 b2 b3 b4,r= .func (.func 128) ⟨[]⟩ ⟨[zP b1,zP b2,zP b3]⟩∧Y=[(b1,.cells ⟨[zP f]⟩ 104 (0,0)),(b2,.cells ⟨[.func (.func 127) ⟨[]⟩ ⟨[zP b1,zP b4]⟩]⟩ 221 (0,0)),(b3,.cells ⟨Dm ⟨dw K on⟩⟩ 159 (0,0)),(b4,.cells ⟨[.int .u8 on]⟩ 120 (0,0))]):=by
 obtain⟨c0,c1,c2,vc,vh,vr,vb,va,vf,vt,hv,hf,p7,oP,hr,C7,Hr,EZ,bW⟩:=id hF
 obtain⟨hc,hh,dk⟩:=id p7
 obtain⟨dj,AP,AO,de,rfl,DW,yU,yT⟩:=hc
 obtain⟨cK,sr,sq,cA,rfl,tN,py,px⟩:=hh
 obtain⟨mH,MM,ML,mG,rfl,PM,Kl,Kk⟩:=hr
 obtain⟨kO,Jf,Jd,j9,rfl,Je,EH,EG⟩:=C7
 obtain⟨kP,Ji,Jg,kg,rfl,Jh,EJ,EI⟩:=Hr
 obtain⟨mI,TX,TV,lE,rfl,TW,MO,MN⟩:=EZ
 obtain⟨nW,EE,ED,nE,rfl,PI,MK,MJ⟩:=bW
 have SW:=hV.rules.1
 have Ai:=hV.before.1
 have Ed:=hV.after.1
 have hnf:=hV.facts.1
 refine bG av [] [] bh<|zD 2<|jn fun b2=>jn fun b3=>zD 4<|jn fun b5=>jd 8 [2]<|jl (b:=f) (off:=0) (m:=13) (vs:=[c0,c1,c2,.slice dj K.cs.length de,.slice cK hv.length cA,.slice mH K.rules.length mG,.slice kO K.before.length j9,.slice kP K.after.length kg,zI K.gone,zI K.new,zI K.af,.slice mI K.facts.length lE,.slice nW rows.length nE]) 6 ⟨_,_,_,.inl hf,rfl⟩<|zD 4<|ek [1,1,0,1,0,0] [] (fun(zz:Nat×bE)=>[(2,zP b2),(3,zP b3),(4,.nilFunc),(5,zP b5),(14,zI (K.before.length:Int)),(15,zI (zz.1:Int))]) (fun(zz:Nat×bE)=>[.b b5 (.cells ⟨[.bool (zz.2.c 0 0),.bool (zz.2.c 0 1),.bool (zz.2.c 0 2),.bool (zz.2.c 0 3),.bool (zz.2.c 1 0),.bool (zz.2.c 1 1),.bool (zz.2.c 1 2),.bool (zz.2.c 1 3),.bool (zz.2.c 2 0),.bool (zz.2.c 2 1),.bool (zz.2.c 2 2),.bool (zz.2.c 2 3),.bool (zz.2.c 3 0),.bool (zz.2.c 3 1),.bool (zz.2.c 3 2),.bool (zz.2.c 3 3)]⟩ 159 (0,0)),.b b3 (.cells ⟨[.int .u8 on]⟩ 120 (0,0)),.b b2 (.cells ⟨[zP f]⟩ 104 (0,0))]) (fun(zz:Nat×bE)=>zz.1≤K.before.length∧E9 K on zz.1 0 zz.2) (fun(zz:Nat×bE)=>K.before.length-zz.1) (⟨0,⟨fun _ _=>false⟩⟩) ⟨by dsimp only;omega,fun x y=>by simp⟩ [0,1,2] ?_
 rintro⟨i,r⟩ hI K1 bM rest
 dsimp only at hI
 refine zD 5<|zJ 16 ((i:Int) <(K.before.length:Int)) (fun h1=>?_) fun h1=>?_
 ·
  refine jd 15 [2]<|jl (b:=f) (off:=0) (m:=13) (vs:=[c0,c1,c2,.slice dj K.cs.length de,.slice cK hv.length cA,.slice mH K.rules.length mG,.slice kO K.before.length j9,.slice kP K.after.length kg,zI K.gone,zI K.new,zI K.af,.slice mI K.facts.length lE,.slice nW rows.length nE]) 7 ⟨_,_,_,.inl hf,rfl⟩<|zD 4<|ek [1,1,0,1,0,0,1,1,0,0,1,1,0,0] [K1] (fun(zz:Nat×bE)=>[(2,zP b2),(3,zP b3),(4,.nilFunc),(5,zP b5),(6,zI (i:Int)),(14,zI (K.before.length:Int)),(15,zI (i:Int)),(23,zI (K.after.length:Int)),(24,zI (zz.1:Int))]) (fun(zz:Nat×bE)=>[.b b5 (.cells ⟨[.bool (zz.2.c 0 0),.bool (zz.2.c 0 1),.bool (zz.2.c 0 2),.bool (zz.2.c 0 3),.bool (zz.2.c 1 0),.bool (zz.2.c 1 1),.bool (zz.2.c 1 2),.bool (zz.2.c 1 3),.bool (zz.2.c 2 0),.bool (zz.2.c 2 1),.bool (zz.2.c 2 2),.bool (zz.2.c 2 3),.bool (zz.2.c 3 0),.bool (zz.2.c 3 1),.bool (zz.2.c 3 2),.bool (zz.2.c 3 3)]⟩ 159 (0,0)),.b b3 (.cells ⟨[.int .u8 on]⟩ 120 (0,0)),.b b2 (.cells ⟨[zP f]⟩ 104 (0,0))]) (fun(zz:Nat×bE)=>zz.1≤K.after.length∧E9 K on i zz.1 zz.2) (fun(zz:Nat×bE)=>K.after.length-zz.1) (⟨0,r⟩) ⟨by dsimp only;omega,hI.2⟩ [0,1,2] ?_
  rintro⟨j,r⟩ hJ K2 lI rest
  dsimp only at hJ
  refine zD 5<|zJ 25 ((j:Int) <(K.after.length:Int)) (fun h2=>?_) fun h2=>?_
  ·
   refine zD 9 ?_
   obtain⟨x,ha⟩:∃x,K.before[i]?=some x:=⟨_,List.getElem?_eq_getElem (by omega)⟩
   obtain⟨y,hb⟩:∃y,K.after[j]?=some y:=⟨_,List.getElem?_eq_getElem (by omega)⟩
   refine jd 7 [2,1]<|GY (b:=b5) (off:=0) (len:=4) (sz:=4) (i:Int) (by omega)<|jp (vs:=[zP f,zI (i:Int),zI (j:Int),.int .u8 on]) [] [] (fun aC hs hZ=>aCz (hF.up hs) hV ha hb)<|GY (b:=b5) (off:=0+(i:Int).toNat*4) (len:=4) (sz:=1) (j:Int) (by omega)<|aM 9 fun rZ r8 p8=>jsx 0 b5 (0+(i:Int).toNat*4+(j:Int).toNat*1) [.bool (r.c 0 0),.bool (r.c 0 1),.bool (r.c 0 2),.bool (r.c 0 3),.bool (r.c 1 0),.bool (r.c 1 1),.bool (r.c 1 2),.bool (r.c 1 3),.bool (r.c 2 0),.bool (r.c 2 1),.bool (r.c 2 2),.bool (r.c 2 3),.bool (r.c 3 0),.bool (r.c 3 1),.bool (r.c 3 2),.bool (r.c 3 3)] [.bool (dw K on i j)] 159 (by intro v hv;rw[List.mem_singleton] at hv;subst hv;rfl) (WO (r:=r) (by omega) (by omega)) ?_
   refine jmw 0 [.b b5 (.cells ⟨[.bool ((jo r i j (dw K on i j)).c 0 0),.bool ((jo r i j (dw K on i j)).c 0 1),.bool ((jo r i j (dw K on i j)).c 0 2),.bool ((jo r i j (dw K on i j)).c 0 3),.bool ((jo r i j (dw K on i j)).c 1 0),.bool ((jo r i j (dw K on i j)).c 1 1),.bool ((jo r i j (dw K on i j)).c 1 2),.bool ((jo r i j (dw K on i j)).c 1 3),.bool ((jo r i j (dw K on i j)).c 2 0),.bool ((jo r i j (dw K on i j)).c 2 1),.bool ((jo r i j (dw K on i j)).c 2 2),.bool ((jo r i j (dw K on i j)).c 2 3),.bool ((jo r i j (dw K on i j)).c 3 0),.bool ((jo r i j (dw K on i j)).c 3 1),.bool ((jo r i j (dw K on i j)).c 3 2),.bool ((jo r i j (dw K on i j)).c 3 3)]⟩ 159 (0,0))] (L:=[(b5,.cells ⟨dI [.bool (r.c 0 0),.bool (r.c 0 1),.bool (r.c 0 2),.bool (r.c 0 3),.bool (r.c 1 0),.bool (r.c 1 1),.bool (r.c 1 2),.bool (r.c 1 3),.bool (r.c 2 0),.bool (r.c 2 1),.bool (r.c 2 2),.bool (r.c 2 3),.bool (r.c 3 0),.bool (r.c 3 1),.bool (r.c 3 2),.bool (r.c 3 3)] (0+(i:Int).toNat*4+(j:Int).toNat*1) [.bool (dw K on i j)]⟩ 159 (0,0))]) (by rw[WM (by omega) (by omega)];rfl) ?_
   refine gY p8 []<|zD 2<|ja ((j:Int)+1) (by omega)<|zD 2<|bA lI (⟨j+1,(jo r i j (dw K on i j))⟩) ⟨by dsimp only;omega,hJ.2.set⟩ (by dsimp only;omega) [0,1,2] (Sub.refl _)
  refine zD 3<|ja ((i:Int)+1) (by omega)<|zD 2<|bA bM (⟨i+1,r⟩) ⟨by dsimp only;omega,E9.nxt (by have:=hJ.2;rwa[show j=K.after.length by omega] at this)⟩ (by dsimp only;omega) [0,1,2] (Sub.refl _)
 refine zD 5<|jn fun b8=>jd 8 [0]<|aH q0 (.func (.func 128) ⟨[]⟩ ⟨[zP b2,zP b8,zP b5]⟩) [] [3,0,1,2] ((b2,.cells ⟨[zP f]⟩ 104 (0,0))::((b8,.cells ⟨[.func (.func 127) ⟨[]⟩ ⟨[zP b2,zP b3]⟩]⟩ 221 (0,0))::((b5,.cells ⟨[.bool (r.c 0 0),.bool (r.c 0 1),.bool (r.c 0 2),.bool (r.c 0 3),.bool (r.c 1 0),.bool (r.c 1 1),.bool (r.c 1 2),.bool (r.c 1 3),.bool (r.c 2 0),.bool (r.c 2 1),.bool (r.c 2 2),.bool (r.c 2 3),.bool (r.c 3 0),.bool (r.c 3 1),.bool (r.c 3 2),.bool (r.c 3 3)]⟩ 159 (0,0))::[(b3,.cells ⟨[.int .u8 on]⟩ 120 (0,0))]))) (Sub.refl _) ⟨_,_,rfl,rfl,_,_,_,_,rfl,by have e:=E9.fin (K:=K) (on:=on) (r:=r) (by have:=hI.2;rwa[show i=K.before.length by omega] at this);subst e;rfl⟩
theorem ap1{rows:List bE}{I9:bE}{ro:Nat→Option Obj}(hF:pM ro f K rows)(hV:eZ K)(C2:rows[past]?=some I9) (hp:∀i,0≤p i∧p i≤4):dz zT 95 [zP f,zI (past:Int),.agg ⟨[zI (p 0),zI (p 1),zI (p 2),zI (p 3)]⟩] ro (.agg ⟨cy (cu K I9 past p)⟩):=by
 obtain⟨c0,c1,c2,vc,vh,vr,vb,va,vf,vt,hv,hf,p7,oP,hr,C7,Hr,EZ,bW⟩:=id hF
 obtain⟨hc,hh,dk⟩:=id p7
 obtain⟨dj,AP,AO,de,rfl,DW,yU,yT⟩:=hc
 obtain⟨cK,sr,sq,cA,rfl,tN,py,px⟩:=hh
 obtain⟨mH,MM,ML,mG,rfl,PM,Kl,Kk⟩:=hr
 obtain⟨kO,Jf,Jd,j9,rfl,Je,EH,EG⟩:=C7
 obtain⟨kP,Ji,Jg,kg,rfl,Jh,EJ,EI⟩:=Hr
 obtain⟨mI,TX,TV,lE,rfl,TW,MO,MN⟩:=EZ
 obtain⟨nW,EE,ED,nE,rfl,PI,MK,MJ⟩:=bW
 have SW:=hV.rules.1
 have Ai:=hV.before.1
 have Ed:=hV.after.1
 have hnf:=hV.facts.1
 have hpc:=Xa p
 have SU:=(List.getElem?_eq_some_iff.1 C2).1
 refine bG av [] [] bh<|zD 2<|jn fun b5=>jn fun b6=>jd 4 [1]<|jp (vs:=[.agg ⟨[zI (p 0),zI (p 1),zI (p 2),zI (p 3)]⟩]) [] [] (fun aC hs hZ=>(atK (p0:=p 0) (p1:=p 1) (p2:=p 2) (p3:=p 3)))<|jd 10 [1]<|jl (b:=f) (off:=0) (m:=13) (vs:=[c0,c1,c2,.slice dj K.cs.length de,.slice cK hv.length cA,.slice mH K.rules.length mG,.slice kO K.before.length j9,.slice kP K.after.length kg,zI K.gone,zI K.new,zI K.af,.slice mI K.facts.length lE,.slice nW rows.length nE]) 6 ⟨_,_,_,.inl hf,rfl⟩<|zD 2<|ja ((K.before.length:Int)-(qy (pL p))) (by omega)<|zD 4<|jl (b:=f) (off:=0) (m:=13) (vs:=[c0,c1,c2,.slice dj K.cs.length de,.slice cK hv.length cA,.slice mH K.rules.length mG,.slice kO K.before.length j9,.slice kP K.after.length kg,zI K.gone,zI K.new,zI K.af,.slice mI K.facts.length lE,.slice nW rows.length nE]) 7 ⟨_,_,_,.inl hf,rfl⟩<|zD 2<|ja ((K.after.length:Int)-(qy (pL p))) (by omega)<|zD 1<|aM 19 fun B4 Cc yy=>jn fun b8=>bI yy [1,2]<|aM 20 fun B3 Cb zp=>jd 1 [0]<|eo zp<|jd 8 [2]<|ek [1,1,1,0,1,0,0] [] (fun(zz:Nat×Int)=>[(0,zP f),(1,zI (past:Int)),(6,zP b6),(8,zP b8),(32,.agg ⟨[zI (p 0),zI (p 1),zI (p 2),zI (p 3)]⟩),(33,zI (zz.1:Int))]) (fun(zz:Nat×Int)=>[.b b8 (.cells ⟨[zI (past:Int),zI (p 0),zI (p 1),zI (p 2),zI (p 3),zI ((K.before.length:Int)-(qy (pL p))),zI ((K.after.length:Int)-(qy (pL p))),zI zz.2]⟩ 115 (0,0)),.b b6 (.cells ⟨[zI 0,zI 0,zI 0,zI 0,zI 0,zI 0,zI 0,zI 0]⟩ 115 (0,0))]) (fun(zz:Nat×Int)=>zz.1≤4∧zz.2=wu I9 p zz.1∧(0≤zz.2∧zz.2≤zz.1)) (fun(zz:Nat×Int)=>4-zz.1) (⟨0,0⟩) ⟨by dsimp only;omega,rfl,by dsimp only;omega⟩ [0,1] ?_
 rintro⟨k,m⟩ hI K3 hK3 rest
 dsimp only at hI
 refine zD 5<|zJ 34 ((k:Int) <4) (fun h3=>?_) fun h3=>?_
 ·
  refine zD 7<|jai (l:=[zI (p 0),zI (p 1),zI (p 2),zI (p 3)]) (k:Int) 4 1 false (by omega) (v:= zI (p k)) (show nth (eP4 p) _=_ from alS (by omega))<|zD 4 ?_
  have hpk:=hp k
  refine zD 4<|js 39 (decide ((p k)>0)) (fun h4=>?_) (fun h4=>?_)
  ·
   have yz:=h4
   replace yz:=of_decide_eq_true yz
   refine zD 3<|jl (b:=f) (off:=0) (m:=13) (vs:=[c0,c1,c2,.slice dj K.cs.length de,.slice cK hv.length cA,.slice mH K.rules.length mG,.slice kO K.before.length j9,.slice kP K.after.length kg,zI K.gone,zI K.new,zI K.af,.slice mI K.facts.length lE,.slice nW rows.length nE]) 12 ⟨_,_,_,.inl hf,rfl⟩<|zD 3<|ja ((p k)-1) (by omega) ?_
   obtain⟨x48,G4⟩:=zG rows past
   refine iM nE 16 MK G4<|GY (b:=EE) (off:=ED+past*16+0) (len:=4) (sz:=4) (k:Int) (by omega)<|GY (b:=EE) (off:=ED+past*16+0+(k:Int).toNat*4) (len:=4) (sz:=1) ((p k)-1) (by omega)<|jl (b:=EE) (off:=ED+past*16+0+(k:Int).toNat*4+((p k)-1).toNat*1) (m:=1) (vs:=[.bool (x48.c k ((p k)-1).toNat)]) 0 (show cF ⟨ro,[]⟩ EE (ED+past*16+0+(k:Int).toNat*4+((p k)-1).toNat*1) 1 [.bool (x48.c k ((p k)-1).toNat)] from by have:=adL (MJ _ _ G4) (ady (r:=x48) (a:=k) (j:=(p k)-1) (by omega) (by omega));simpa [Nat.add_assoc] using this) ?_
   refine zD 3<|js 53 (!(x48.c k ((p k)-1).toNat)) (fun h5=>?_) (fun h5=>?_)
   ·
    try simp only[zB] at h5
    refine jd 4 [0]<|ja (m+1) (by omega)<|jd 4 [0]<|ja ((k:Int)+1) (by omega)<|zD 2<|bA hK3 (⟨k+1,(m+1)⟩) ⟨by dsimp only;omega,by dsimp only;rw[wu,hI.2.1];rw[C2] at G4;cases G4;simp only[decide_eq_true yz,h5,Bool.not_false,Bool.not_true,Bool.and_true,Bool.and_false,cond_true,cond_false,Int.add_zero],by dsimp only;omega⟩ (by dsimp only;omega) [0,1] (Sub.refl _)
   try simp only[zB] at h5
   refine zD 3<|ja ((k:Int)+1) (by omega)<|zD 2<|bA hK3 (⟨k+1,m⟩) ⟨by dsimp only;omega,by dsimp only;rw[wu,hI.2.1];rw[C2] at G4;cases G4;simp only[decide_eq_true yz,h5,Bool.not_false,Bool.not_true,Bool.and_true,Bool.and_false,cond_true,cond_false,Int.add_zero],by dsimp only;omega⟩ (by dsimp only;omega) [0,1] (Sub.refl _)
  have yz:=h4
  replace yz:=of_decide_eq_false yz
  refine zD 18<|ja ((k:Int)+1) (by omega)<|zD 2<|bA hK3 (⟨k+1,m⟩) ⟨by dsimp only;omega,by dsimp only;rw[wu,hI.2.1];simp only[decide_eq_false yz,Bool.false_and,cond_false,Int.add_zero],by dsimp only;omega⟩ (by dsimp only;omega) [0,1] (Sub.refl _)
 refine jd 8 [0,1]<|aH q0 (.agg ⟨[zI (past:Int),zI (p 0),zI (p 1),zI (p 2),zI (p 3),zI ((K.before.length:Int)-(qy (pL p))),zI ((K.after.length:Int)-(qy (pL p))),zI m]⟩) [1] [] [] (Sub.refl _) ⟨_,_,rfl,rfl,by rw[hI.2.1,show k=4 by omega];rfl,rfl⟩
def xv(v:Value)(xs:List ai)(Y:Cells):Prop:=∃ys,ys.Perm xs∧az v 8 115 cy ys Y
def gJ(xs:List ai):Prop:=∀x∈xs,0≤x.past∧x.past≤1000
theorem gJ.perm{xs ys:List ai}(h:gJ xs)(hp:ys.Perm xs):gJ ys:=fun x hx=>h x (hp.mem_iff.1 hx)
theorem FD{x:Int}(h:0≤x∧x≤1000000000):IntKind.i64.wrap (aT .u64 (IntKind.u64.wrap x) 1)=x / 2:=by
 have h1:IntKind.u64.wrap x=x:=sN .u64 rfl _ (by omega) (by simp[IntKind.bits];omega)
 rw[h1]
 have h2:aT .u64 x 1=x / 2:=by
  show x.fdiv 2=x / 2
  exact Int.fdiv_eq_ediv_of_nonneg _ (by decide)
 rw[h2,kL _ (by omega)]
theorem amP{x y:ai}{ro:Nat→Option Obj}(hx:0≤x.past∧x.past≤1000)(hy:0≤y.past∧y.past≤1000):dz zT 110 [.agg ⟨[zI x.past,zI x.w0,zI x.w1,zI x.w2,zI x.w3,zI x.gone,zI x.new,zI x.af]⟩,.agg ⟨[zI y.past,zI y.w0,zI y.w1,zI y.w2,zI y.w3,zI y.gone,zI y.new,zI y.af]⟩] ro (zI (x.past-y.past)):=by
 refine bG av [] [] bh<|zD 2<|jn fun b2=>jn fun b3=>jd 8 [1,0]<|ja (x.past-y.past) (by omega)<|zD 3<|aH q0 (zI (x.past-y.past)) [] [] [] (Sub.refl _) ⟨_,_,rfl,rfl,rfl,rfl⟩
theorem aAF{v:Value}{xs:List ai}{L:Cells}{a b:Int}{ro:Nat→Option Obj}(ho:az v 8 115 cy xs L)(hN:xs.length≤100000)(hP:gJ xs)(BX:0≤a∧a≤b∧b≤xs.length):eV zT 169 [v,zI a,zI b,.func (.func 110) ⟨[]⟩ ⟨[]⟩] ro L (fun r Y=>xv v xs Y):=by
 refine bG av [.l L] [] bh<|zD 3<|ja (a+1) (by omega)<|zD 3<|ek [1,0,0] [] (fun(zz:Int×(List ai)×Cells)=>[(0,v),(1,zI a),(2,zI b),(3,.func (.func 110) ⟨[]⟩ ⟨[]⟩),(8,zI zz.1)]) (fun(zz:Int×(List ai)×Cells)=>[.l zz.2.2]) (fun(zz:Int×(List ai)×Cells)=>(a+1≤zz.1)∧az v 8 115 cy zz.2.1 zz.2.2∧zz.2.1.Perm xs) (fun(zz:Int×(List ai)×Cells)=>(b-zz.1).toNat) (⟨(a+1),xs,L⟩) ⟨by dsimp only;omega,ho,.refl _⟩ [0] ?_
 rintro⟨i,ys,L⟩ hI K1 bM rest
 dsimp only at hI
 have XT:=hI.2.2.length_eq
 have hyp:=hP.perm hI.2.2
 refine zD 7<|zJ 14 (i <b) (fun h1=>?_) fun h1=>?_
 ·
  refine zD 10<|ek [1,0,0,1,0,0,1,0,0] [K1] (fun(zz:Int×(List ai)×Cells)=>[(0,v),(1,zI a),(2,zI b),(3,.func (.func 110) ⟨[]⟩ ⟨[]⟩),(8,zI i),(9,zI zz.1)]) (fun(zz:Int×(List ai)×Cells)=>[.l zz.2.2]) (fun(zz:Int×(List ai)×Cells)=>(a≤zz.1∧zz.1≤i)∧az v 8 115 cy zz.2.1 zz.2.2∧zz.2.1.Perm xs) (fun(zz:Int×(List ai)×Cells)=>(zz.1-a).toNat) (⟨i,ys,L⟩) ⟨by dsimp only;omega,hI.2⟩ [0] ?_
  rintro⟨j,ys,L⟩ hJ K2 lI rest
  dsimp only at hJ
  have XT:=hJ.2.2.length_eq
  have hyp:=hP.perm hJ.2.2
  refine zD 7<|js 3 (decide (j>a)) (fun h2=>?_) (fun h2=>?_)
  ·
   have mM:=h2
   replace mM:=of_decide_eq_true mM
   refine zD 3 ?_
   obtain⟨yJ,lH⟩:=zG ys (j.toNat) (by first|omega| (simp only[List.length_set];omega))
   refine pW j 8 hJ.2.1 lH (Int.toNat_of_nonneg (show 0≤j∧j <((ys).length:Int) from (by first|omega| (simp only[List.length_set];omega))).1).symm (fun dA ahi=>?_)
   refine mY 0 [0] L (fun s _ hZ=>bU hJ.2.1 ahi hZ lH)<|zD 2<|ja (j-1) (by omega) ?_
   obtain⟨gi,jv⟩:=zG ys ((j-1).toNat) (by first|omega| (simp only[List.length_set];omega))
   refine pW (j-1) 8 hJ.2.1 jv (Int.toNat_of_nonneg (show 0≤(j-1)∧(j-1) <((ys).length:Int) from (by first|omega| (simp only[List.length_set];omega))).1).symm (fun b30 NA=>?_)
   refine mY 0 [0] L (fun s _ hZ=>bU hJ.2.1 NA hZ jv)<|aM 14 fun rZ r8 p8=>jp (vs:=[.agg ⟨[zI yJ.past,zI yJ.w0,zI yJ.w1,zI yJ.w2,zI yJ.w3,zI yJ.gone,zI yJ.new,zI yJ.af]⟩,.agg ⟨[zI gi.past,zI gi.w0,zI gi.w1,zI gi.w2,zI gi.w3,zI gi.gone,zI gi.new,zI gi.af]⟩]) [] [] (fun aC hs hZ=>(amP (x:=yJ) (y:=gi) (hyp _ (List.mem_of_getElem? lH)) (hyp _ (List.mem_of_getElem? jv))))<|bI p8 [0]<|zD 3<|zJ 34 ((yJ.past-gi.past) <0) (fun h4=>?_) fun h4=>?_
   ·
    refine zD 9<|ja (j-1) (by omega)<|zD 2<|ja (j-1) (by omega) ?_
    obtain⟨x3,EU⟩:=zG ys ((j-1).toNat) (by first|omega| (simp only[List.length_set];omega))
    refine pW (j-1) 8 hJ.2.1 EU (Int.toNat_of_nonneg (show 0≤(j-1)∧(j-1) <((ys).length:Int) from (by first|omega| (simp only[List.length_set];omega))).1).symm (fun b45 ahh=>?_)
    refine mY 0 [0] L (fun s _ hZ=>bU hJ.2.1 ahh hZ EU)<|zD 2 ?_
    obtain⟨I0,ET⟩:=zG ys (j.toNat) (by first|omega| (simp only[List.length_set];omega))
    refine pW j 8 hJ.2.1 ET (Int.toNat_of_nonneg (show 0≤j∧j <((ys).length:Int) from (by first|omega| (simp only[List.length_set];omega))).1).symm (fun b49 ahg=>?_)
    refine mY 0 [0] L (fun s _ hZ=>bU hJ.2.1 ahg hZ ET) ?_
    obtain⟨x51,ES⟩:=zG ys (j.toNat) (by first|omega| (simp only[List.length_set];omega))
    refine pW j 8 hJ.2.1 ES (Int.toNat_of_nonneg (show 0≤j∧j <((ys).length:Int) from (by first|omega| (simp only[List.length_set];omega))).1).symm (fun b51 ahf=>?_)
    refine aM 15 fun sL sR rn=>QG 0 0 [zI x3.past,zI x3.w0,zI x3.w1,zI x3.w2,zI x3.w3,zI x3.gone,zI x3.new,zI x3.af] x3 hJ.2.1 ahf ES rfl rfl (Nat.le_of_ble_eq_true rfl) fun L6 ho7=>gY rn [] ?_
    obtain⟨x52,C1⟩:=zG ((ys.set j.toNat x3)) ((j-1).toNat) (by first|omega| (simp only[List.length_set];omega))
    refine pW (j-1) 8 ho7 C1 (Int.toNat_of_nonneg (show 0≤(j-1)∧(j-1) <(((ys.set j.toNat x3)).length:Int) from (by first|omega| (simp only[List.length_set];omega))).1).symm (fun b52 ahe=>?_)
    refine aM 17 fun B2 Ca C8=>QG 0 0 [zI I0.past,zI I0.w0,zI I0.w1,zI I0.w2,zI I0.w3,zI I0.gone,zI I0.new,zI I0.af] I0 ho7 ahe C1 rfl rfl (Nat.le_of_ble_eq_true rfl) fun L9 agC=>eo C8<|zD 3<|ja (j-1) (by omega)<|zD 2<|bA lI (⟨(j-1),((ys.set j.toNat x3).set ((j-1).toNat) I0),L9⟩) ⟨by dsimp only;omega,agC,(nX ET EU).trans hJ.2.2⟩ (by dsimp only;omega) [0] (Sub.refl _)
   refine zD 4<|ja (i+1) (by omega)<|zD 2<|bA bM (⟨(i+1),ys,L⟩) ⟨by dsimp only;omega,hJ.2⟩ (by dsimp only;omega) [0] (Sub.refl _)
  have mM:=h2
  replace mM:=of_decide_eq_false mM
  refine zD 18<|ja (i+1) (by omega)<|zD 2<|bA bM (⟨(i+1),ys,L⟩) ⟨by dsimp only;omega,hJ.2⟩ (by dsimp only;omega) [0] (Sub.refl _)
 refine zD 2<|aH q0 (.tuple ⟨[]⟩) [] [0] L (Sub.refl _) ⟨_,_,rfl,rfl,ys,hI.2.2,hI.2.1⟩
def aIV(n:Nat):Prop:=∀(ro:Nat→Option Obj) (v:Value) (xs:List ai) (L:Cells) (a m b:Int),az v 8 115 cy xs L→xs.length≤100000→gJ xs→(0≤a∧a <m∧m <b∧b≤xs.length)→(b-a).toNat=n→
 eV zT 170 [v,zI a,zI m,zI b,.func (.func 110) ⟨[]⟩ ⟨[]⟩] ro L (fun _ Y=>xv v xs Y)
theorem adw{v:Value}{xs:List ai}{L:Cells}{a b n:Int}{ro:Nat→Option Obj}(ho:az v 8 115 cy xs L)(hN:xs.length≤100000)(hP:gJ xs)(BX:(0≤a∧0≤b∧0≤n)∧a+n≤xs.length∧b+n≤xs.length∧a≠b):eV zT 230 [v,zI a,zI b,zI n,.func (.func 110) ⟨[]⟩ ⟨[]⟩] ro L (fun r Y=>xv v xs Y):=by
 refine bG av [.l L] [] bh<|zD 5<|ek [1,0,0] [] (fun(zz:Int×(List ai)×Cells)=>[(0,v),(1,zI a),(2,zI b),(3,zI n),(10,zI zz.1)]) (fun(zz:Int×(List ai)×Cells)=>[.l zz.2.2]) (fun(zz:Int×(List ai)×Cells)=>(0≤zz.1∧zz.1≤n)∧az v 8 115 cy zz.2.1 zz.2.2∧zz.2.1.Perm xs) (fun(zz:Int×(List ai)×Cells)=>(n-zz.1).toNat) (⟨0,xs,L⟩) ⟨by dsimp only;omega,ho,.refl _⟩ [0] ?_
 rintro⟨i,ys,L⟩ hI K1 bM rest
 dsimp only at hI
 have XT:=hI.2.2.length_eq
 have hyp:=hP.perm hI.2.2
 refine zD 7<|zJ 13 (i <n) (fun h1=>?_) fun h1=>?_
 ·
  refine zD 8<|ja (a+i) (by omega)<|zD 3<|ja (b+i) (by omega)<|zD 3<|ja (b+i) (by omega) ?_
  obtain⟨Zh,aut⟩:=zG ys ((b+i).toNat) (by first|omega| (simp only[List.length_set];omega))
  refine pW (b+i) 8 hI.2.1 aut (Int.toNat_of_nonneg (show 0≤(b+i)∧(b+i) <((ys).length:Int) from (by first|omega| (simp only[List.length_set];omega))).1).symm (fun b28 aUj=>?_)
  refine mY 0 [0] L (fun s _ hZ=>bU hI.2.1 aUj hZ aut)<|zD 3<|ja (a+i) (by omega) ?_
  obtain⟨Zg,Nq⟩:=zG ys ((a+i).toNat) (by first|omega| (simp only[List.length_set];omega))
  refine pW (a+i) 8 hI.2.1 Nq (Int.toNat_of_nonneg (show 0≤(a+i)∧(a+i) <((ys).length:Int) from (by first|omega| (simp only[List.length_set];omega))).1).symm (fun b34 aUg=>?_)
  refine mY 0 [0] L (fun s _ hZ=>bU hI.2.1 aUg hZ Nq) ?_
  obtain⟨x36,zd⟩:=zG ys ((a+i).toNat) (by first|omega| (simp only[List.length_set];omega))
  refine pW (a+i) 8 hI.2.1 zd (Int.toNat_of_nonneg (show 0≤(a+i)∧(a+i) <((ys).length:Int) from (by first|omega| (simp only[List.length_set];omega))).1).symm (fun dg awk=>?_)
  refine aM 21 fun B3 Cb zp=>QG 0 0 [zI Zh.past,zI Zh.w0,zI Zh.w1,zI Zh.w2,zI Zh.w3,zI Zh.gone,zI Zh.new,zI Zh.af] Zh hI.2.1 awk zd rfl rfl (Nat.le_of_ble_eq_true rfl) fun L3 ho4=>gY zp [] ?_
  obtain⟨x37,aay⟩:=zG ((ys.set ((a+i).toNat) Zh)) ((b+i).toNat) (by first|omega| (simp only[List.length_set];omega))
  refine pW (b+i) 8 ho4 aay (Int.toNat_of_nonneg (show 0≤(b+i)∧(b+i) <(((ys.set ((a+i).toNat) Zh)).length:Int) from (by first|omega| (simp only[List.length_set];omega))).1).symm (fun b37 aUe=>?_)
  refine aM 23 fun rZ r8 p8=>QG 0 0 [zI Zg.past,zI Zg.w0,zI Zg.w1,zI Zg.w2,zI Zg.w3,zI Zg.gone,zI Zg.new,zI Zg.af] Zg ho4 aUe aay rfl rfl (Nat.le_of_ble_eq_true rfl) fun L6 ho7=>eo p8<|zD 3<|ja (i+1) (by omega)<|zD 2<|bA bM (⟨(i+1),((ys.set ((a+i).toNat) Zh).set ((b+i).toNat) Zg),L6⟩) ⟨by dsimp only;omega,ho7,(nX Nq aut).trans hI.2.2⟩ (by dsimp only;omega) [0] (Sub.refl _)
 refine zD 2<|aH q0 (.tuple ⟨[]⟩) [] [0] L (Sub.refl _) ⟨_,_,rfl,rfl,ys,hI.2.2,hI.2.1⟩
theorem aOL{v:Value}{xs:List ai}{L:Cells}{a m b:Int}{ro:Nat→Option Obj}(ho:az v 8 115 cy xs L)(hN:xs.length≤100000)(hP:gJ xs)(BX:0≤a∧a <m∧m <b∧b≤xs.length):eV zT 202 [v,zI a,zI m,zI b,.func (.func 110) ⟨[]⟩ ⟨[]⟩] ro L (fun r Y=>xv v xs Y):=by
 refine bG av [.l L] [] bh<|zD 4<|ja (m-a) (by omega)<|zD 6<|ja (b-m) (by omega)<|zD 4<|ek [1,1,0,0,0] [] (fun(zz:Int×Int×(List ai)×Cells)=>[(0,v),(2,zI m),(4,.func (.func 110) ⟨[]⟩ ⟨[]⟩),(10,zI zz.1),(11,zI zz.2.1)]) (fun(zz:Int×Int×(List ai)×Cells)=>[.l zz.2.2.2]) (fun(zz:Int×Int×(List ai)×Cells)=>((0 <zz.1∧zz.1≤m-a)∧0 <zz.2.1∧zz.2.1≤b-m)∧az v 8 115 cy zz.2.2.1 zz.2.2.2∧zz.2.2.1.Perm xs) (fun(zz:Int×Int×(List ai)×Cells)=>(zz.1+zz.2.1).toNat) (⟨(m-a),(b-m),xs,L⟩) ⟨by dsimp only;omega,ho,.refl _⟩ [0] ?_
 rintro⟨i,j,ys,L⟩ hI K1 bM rest
 dsimp only at hI
 have XT:=hI.2.2.length_eq
 have hyp:=hP.perm hI.2.2
 refine zD 7<|js 20 (!decide (i=j)) (fun h1=>?_) (fun h1=>?_)
 ·
  replace h1:=of_decide_eq_false (by simpa using h1)
  refine zD 9<|zJ 23 (i>j) (fun h2=>?_) fun h2=>?_
  ·
   refine zD 6<|ja (m-i) (by omega)<|zD 3<|jc (vs:=[v,zI (m-i),zI m,zI j,.func (.func 110) ⟨[]⟩ ⟨[]⟩]) [0] (adw hI.2.1 (by omega) hyp (by omega)) ?_
   rintro bcL Y31 ⟨aL9,auW,aSm⟩
   have aZn:=auW.length_eq
   have aZg:=gJ.perm hyp auW
   refine zD 4<|ja (i-j) (by omega)<|zD 2<|bA bM (⟨(i-j),j,aL9,Y31⟩) ⟨by dsimp only;omega,aSm,(auW.trans hI.2.2)⟩ (by dsimp only;omega) [0] (Sub.refl _)
  refine zD 6<|ja (m-i) (by omega)<|zD 2<|ja (m+j) (by omega)<|zD 1<|ja ((m+j)-i) (by omega)<|zD 2<|jc (vs:=[v,zI (m-i),zI ((m+j)-i),zI i,.func (.func 110) ⟨[]⟩ ⟨[]⟩]) [0] (adw hI.2.1 (by omega) hyp (by omega)) ?_
  rintro bcJ Y46 ⟨aL7,auU,aSi⟩
  have aZl:=auU.length_eq
  have aZe:=gJ.perm hyp auU
  refine zD 4<|ja (j-i) (by omega)<|zD 2<|bA bM (⟨i,(j-i),aL7,Y46⟩) ⟨by dsimp only;omega,aSi,(auU.trans hI.2.2)⟩ (by dsimp only;omega) [0] (Sub.refl _)
 replace h1:=of_decide_eq_true (by simpa using h1)
 refine zD 6<|ja (m-i) (by omega)<|zD 3<|jc (vs:=[v,zI (m-i),zI m,zI i,.func (.func 110) ⟨[]⟩ ⟨[]⟩]) [0] (adw hI.2.1 (by omega) hyp (by omega)) ?_
 rintro bcI Y57 ⟨bbX,auS,anb⟩
 have aZk:=auS.length_eq
 have aZd:=gJ.perm hyp auS
 refine zD 1<|aH q0 (.tuple ⟨[]⟩) [] [0] Y57 (Sub.refl _) ⟨_,_,rfl,rfl,_,(auS.trans hI.2.2),anb⟩
theorem aAC{v:Value}{xs:List ai}{L:Cells}{a m b:Int}{ro:Nat→Option Obj}(ih:∀k,k <n→aIV k)(ho:az v 8 115 cy xs L)(hN:xs.length≤100000)(hP:gJ xs)(BX:0≤a∧a <m∧m <b∧b≤xs.length)(hn:(b-a).toNat=n):eV zT 170 [v,zI a,zI m,zI b,.func (.func 110) ⟨[]⟩ ⟨[]⟩] ro L (fun r Y=>xv v xs Y):=by
 refine bG av [.l L] [] bh<|zD 5<|ja (m-a) (by omega)<|zD 2<|zJ 28 ((m-a)=1) (fun h1=>?_) fun h1=>?_
 ·
  refine zD 13<|ek [0,1,0,1,1,0,0,0] [] (fun(zz:Int×Int)=>[(0,v),(1,zI a),(2,zI m),(3,zI b),(4,.func (.func 110) ⟨[]⟩ ⟨[]⟩),(10,zI zz.1),(11,zI zz.2)]) (fun(zz:Int×Int)=>[.l L]) (fun(zz:Int×Int)=>(m≤zz.1∧zz.1≤zz.2)∧zz.2≤b) (fun(zz:Int×Int)=>(zz.2-zz.1).toNat) (⟨m,b⟩) (by dsimp only;omega) [0] ?_
  rintro⟨i,j⟩ hI K1 bM rest
  dsimp only at hI
  refine zD 7<|zJ 33 (i <j) (fun h2=>?_) fun h2=>?_
  ·
   refine zD 7<|ja (i+j) (by omega)<|zD 6 ?_
   have hh:=FD (x:=i+j) (by omega)
   refine zD 4 ?_
   obtain⟨x43,auq⟩:=zG xs ((IntKind.i64.wrap (aT .u64 (IntKind.u64.wrap (i+j)) 1)).toNat) (by first|omega| (simp only[List.length_set];omega))
   refine pW (IntKind.i64.wrap (aT .u64 (IntKind.u64.wrap (i+j)) 1)) 8 ho auq (Int.toNat_of_nonneg (show 0≤(IntKind.i64.wrap (aT .u64 (IntKind.u64.wrap (i+j)) 1))∧(IntKind.i64.wrap (aT .u64 (IntKind.u64.wrap (i+j)) 1)) <((xs).length:Int) from (by first|omega| (simp only[List.length_set];omega))).1).symm (fun b43 aUa=>?_)
   refine mY 0 [0] L (fun s _ hZ=>bU ho aUa hZ auq)<|zD 2 ?_
   obtain⟨x47,Ut⟩:=zG xs (a.toNat) (by first|omega| (simp only[List.length_set];omega))
   refine pW a 8 ho Ut (Int.toNat_of_nonneg (show 0≤a∧a <((xs).length:Int) from (by first|omega| (simp only[List.length_set];omega))).1).symm (fun b47 aT9=>?_)
   refine mY 0 [0] L (fun s _ hZ=>bU ho aT9 hZ Ut)<|aM 9 fun B3 Cb zp=>jp (vs:=[.agg ⟨[zI x43.past,zI x43.w0,zI x43.w1,zI x43.w2,zI x43.w3,zI x43.gone,zI x43.new,zI x43.af]⟩,.agg ⟨[zI x47.past,zI x47.w0,zI x47.w1,zI x47.w2,zI x47.w3,zI x47.gone,zI x47.new,zI x47.af]⟩]) [] [] (fun aC hs hZ=>(amP (x:=x43) (y:=x47) (hP _ (List.mem_of_getElem? auq)) (hP _ (List.mem_of_getElem? Ut))))<|bI zp [0]<|zD 2<|zJ 50 ((x43.past-x47.past) <0) (fun h4=>?_) fun h4=>?_
   ·
    refine zD 3<|ja ((IntKind.i64.wrap (aT .u64 (IntKind.u64.wrap (i+j)) 1))+1) (by omega)<|zD 2<|bA bM (⟨((IntKind.i64.wrap (aT .u64 (IntKind.u64.wrap (i+j)) 1))+1),j⟩) (by dsimp only;omega) (by dsimp only;omega) [0] (Sub.refl _)
   refine zD 5<|bA bM (⟨i,(IntKind.i64.wrap (aT .u64 (IntKind.u64.wrap (i+j)) 1))⟩) (by dsimp only;omega) (by dsimp only;omega) [0] (Sub.refl _)
  refine zD 9<|ek [0,1,0,1,1,1,0,1,0,0] [] (fun(zz:Int×(List ai)×Cells)=>[(0,v),(1,zI a),(2,zI m),(3,zI b),(4,.func (.func 110) ⟨[]⟩ ⟨[]⟩),(10,zI i),(13,zI zz.1)]) (fun(zz:Int×(List ai)×Cells)=>[.l zz.2.2]) (fun(zz:Int×(List ai)×Cells)=>a≤zz.1∧az v 8 115 cy zz.2.1 zz.2.2∧zz.2.1.Perm xs) (fun(zz:Int×(List ai)×Cells)=>(i-zz.1).toNat) (⟨a,xs,L⟩) ⟨by dsimp only;omega,ho,.refl _⟩ [0] ?_
  rintro⟨k,ys,L⟩ hJ K3 hK3 rest
  dsimp only at hJ
  have XT:=hJ.2.2.length_eq
  have hyp:=hP.perm hJ.2.2
  refine zD 5<|ja (i-1) (by omega)<|zD 2<|zJ 58 (k <(i-1)) (fun h5=>?_) fun h5=>?_
  ·
   refine zD 9<|ja (k+1) (by omega)<|zD 2<|ja (k+1) (by omega) ?_
   obtain⟨OP,Nm⟩:=zG ys ((k+1).toNat) (by first|omega| (simp only[List.length_set];omega))
   refine pW (k+1) 8 hJ.2.1 Nm (Int.toNat_of_nonneg (show 0≤(k+1)∧(k+1) <((ys).length:Int) from (by first|omega| (simp only[List.length_set];omega))).1).symm (fun b69 ahd=>?_)
   refine mY 0 [0] L (fun s _ hZ=>bU hJ.2.1 ahd hZ Nm)<|zD 2 ?_
   obtain⟨x73,aax⟩:=zG ys (k.toNat) (by first|omega| (simp only[List.length_set];omega))
   refine pW k 8 hJ.2.1 aax (Int.toNat_of_nonneg (show 0≤k∧k <((ys).length:Int) from (by first|omega| (simp only[List.length_set];omega))).1).symm (fun b73 aT6=>?_)
   refine mY 0 [0] L (fun s _ hZ=>bU hJ.2.1 aT6 hZ aax) ?_
   obtain⟨x75,Us⟩:=zG ys (k.toNat) (by first|omega| (simp only[List.length_set];omega))
   refine pW k 8 hJ.2.1 Us (Int.toNat_of_nonneg (show 0≤k∧k <((ys).length:Int) from (by first|omega| (simp only[List.length_set];omega))).1).symm (fun b75 aT5=>?_)
   refine aM 15 fun sL sR rn=>QG 0 0 [zI OP.past,zI OP.w0,zI OP.w1,zI OP.w2,zI OP.w3,zI OP.gone,zI OP.new,zI OP.af] OP hJ.2.1 aT5 Us rfl rfl (Nat.le_of_ble_eq_true rfl) fun L7 ho8=>gY rn [] ?_
   obtain⟨x76,aCT⟩:=zG ((ys.set k.toNat OP)) ((k+1).toNat) (by first|omega| (simp only[List.length_set];omega))
   refine pW (k+1) 8 ho8 aCT (Int.toNat_of_nonneg (show 0≤(k+1)∧(k+1) <(((ys.set k.toNat OP)).length:Int) from (by first|omega| (simp only[List.length_set];omega))).1).symm (fun b76 aT4=>?_)
   refine aM 17 fun B2 Ca C8=>QG 0 0 [zI x73.past,zI x73.w0,zI x73.w1,zI x73.w2,zI x73.w3,zI x73.gone,zI x73.new,zI x73.af] x73 ho8 aT4 aCT rfl rfl (Nat.le_of_ble_eq_true rfl) fun L10 au4=>eo C8<|zD 3<|ja (k+1) (by omega)<|zD 2<|bA hK3 (⟨(k+1),((ys.set k.toNat OP).set ((k+1).toNat) x73),L10⟩) ⟨by dsimp only;omega,au4,(nX aax Nm).trans hJ.2.2⟩ (by dsimp only;omega) [0] (Sub.refl _)
  refine zD 3<|aH q0 (.tuple ⟨[]⟩) [] [0] L (Sub.refl _) ⟨_,_,rfl,rfl,_,hJ.2.2,hJ.2.1⟩
 refine zD 7<|ja (b-m) (by omega)<|zD 2<|zJ 80 ((b-m)=1) (fun BY=>?_) fun BY=>?_
 ·
  refine zD 13<|ek [1,0,1,0,1,1,0,0,0] [] (fun(zz:Int×Int)=>[(0,v),(1,zI a),(2,zI m),(3,zI b),(4,.func (.func 110) ⟨[]⟩ ⟨[]⟩),(14,zI zz.1),(15,zI zz.2)]) (fun(zz:Int×Int)=>[.l L]) (fun(zz:Int×Int)=>(a≤zz.1∧zz.1≤zz.2)∧zz.2≤m) (fun(zz:Int×Int)=>(zz.2-zz.1).toNat) (⟨a,m⟩) (by dsimp only;omega) [0] ?_
  rintro⟨i,j⟩ hI K6 hK6 rest
  dsimp only at hI
  refine zD 7<|zJ 85 (i <j) (fun Ap=>?_) fun Ap=>?_
  ·
   refine zD 7<|ja (i+j) (by omega)<|zD 6 ?_
   have hh:=FD (x:=i+j) (by omega)
   refine zD 4 ?_
   obtain⟨x95,aun⟩:=zG xs (m.toNat) (by first|omega| (simp only[List.length_set];omega))
   refine pW m 8 ho aun (Int.toNat_of_nonneg (show 0≤m∧m <((xs).length:Int) from (by first|omega| (simp only[List.length_set];omega))).1).symm (fun b95 aT3=>?_)
   refine mY 0 [0] L (fun s _ hZ=>bU ho aT3 hZ aun)<|zD 2 ?_
   obtain⟨x99,aum⟩:=zG xs ((IntKind.i64.wrap (aT .u64 (IntKind.u64.wrap (i+j)) 1)).toNat) (by first|omega| (simp only[List.length_set];omega))
   refine pW (IntKind.i64.wrap (aT .u64 (IntKind.u64.wrap (i+j)) 1)) 8 ho aum (Int.toNat_of_nonneg (show 0≤(IntKind.i64.wrap (aT .u64 (IntKind.u64.wrap (i+j)) 1))∧(IntKind.i64.wrap (aT .u64 (IntKind.u64.wrap (i+j)) 1)) <((xs).length:Int) from (by first|omega| (simp only[List.length_set];omega))).1).symm (fun b99 aT2=>?_)
   refine mY 0 [0] L (fun s _ hZ=>bU ho aT2 hZ aum)<|aM 9 fun akZ alf U5=>jp (vs:=[.agg ⟨[zI x95.past,zI x95.w0,zI x95.w1,zI x95.w2,zI x95.w3,zI x95.gone,zI x95.new,zI x95.af]⟩,.agg ⟨[zI x99.past,zI x99.w0,zI x99.w1,zI x99.w2,zI x99.w3,zI x99.gone,zI x99.new,zI x99.af]⟩]) [] [] (fun aC hs hZ=>(amP (x:=x95) (y:=x99) (hP _ (List.mem_of_getElem? aun)) (hP _ (List.mem_of_getElem? aum))))<|bI U5 [0]<|zD 3<|js 103 (!(decide ((x95.past-x99.past) <0))) (fun HE=>?_) (fun HE=>?_)
   ·
    try simp only[zB] at HE
    refine zD 3<|ja ((IntKind.i64.wrap (aT .u64 (IntKind.u64.wrap (i+j)) 1))+1) (by omega)<|zD 2<|bA hK6 (⟨((IntKind.i64.wrap (aT .u64 (IntKind.u64.wrap (i+j)) 1))+1),j⟩) (by dsimp only;omega) (by dsimp only;omega) [0] (Sub.refl _)
   try simp only[zB] at HE
   refine zD 5<|bA hK6 (⟨i,(IntKind.i64.wrap (aT .u64 (IntKind.u64.wrap (i+j)) 1))⟩) (by dsimp only;omega) (by dsimp only;omega) [0] (Sub.refl _)
  refine zD 9<|ek [1,0,1,0,1,1,1,0,1,0,0] [] (fun(zz:Int×(List ai)×Cells)=>[(0,v),(1,zI a),(2,zI m),(3,zI b),(4,.func (.func 110) ⟨[]⟩ ⟨[]⟩),(14,zI i),(17,zI zz.1)]) (fun(zz:Int×(List ai)×Cells)=>[.l zz.2.2]) (fun(zz:Int×(List ai)×Cells)=>(a≤i∧zz.1≤m)∧az v 8 115 cy zz.2.1 zz.2.2∧zz.2.1.Perm xs) (fun(zz:Int×(List ai)×Cells)=>(zz.1-i).toNat) (⟨m,xs,L⟩) ⟨by dsimp only;omega,ho,.refl _⟩ [0] ?_
  rintro⟨k,ys,L⟩ hJ K8 hK8 rest
  dsimp only at hJ
  have XT:=hJ.2.2.length_eq
  have hyp:=hP.perm hJ.2.2
  refine zD 7<|zJ 110 (k>i) (fun NN=>?_) fun NN=>?_
  ·
   refine zD 9<|ja (k-1) (by omega)<|zD 2<|ja (k-1) (by omega) ?_
   obtain⟨B5,afN⟩:=zG ys ((k-1).toNat) (by first|omega| (simp only[List.length_set];omega))
   refine pW (k-1) 8 hJ.2.1 afN (Int.toNat_of_nonneg (show 0≤(k-1)∧(k-1) <((ys).length:Int) from (by first|omega| (simp only[List.length_set];omega))).1).symm (fun bhs aE5=>?_)
   refine mY 0 [0] L (fun s _ hZ=>bU hJ.2.1 aE5 hZ afN)<|zD 2 ?_
   obtain⟨I3,afM⟩:=zG ys (k.toNat) (by first|omega| (simp only[List.length_set];omega))
   refine pW k 8 hJ.2.1 afM (Int.toNat_of_nonneg (show 0≤k∧k <((ys).length:Int) from (by first|omega| (simp only[List.length_set];omega))).1).symm (fun bhr aE4=>?_)
   refine mY 0 [0] L (fun s _ hZ=>bU hJ.2.1 aE4 hZ afM) ?_
   obtain⟨bb5,ap7⟩:=zG ys (k.toNat) (by first|omega| (simp only[List.length_set];omega))
   refine pW k 8 hJ.2.1 ap7 (Int.toNat_of_nonneg (show 0≤k∧k <((ys).length:Int) from (by first|omega| (simp only[List.length_set];omega))).1).symm (fun bhq aE3=>?_)
   refine aM 15 fun ab4 acW hL9=>QG 0 0 [zI B5.past,zI B5.w0,zI B5.w1,zI B5.w2,zI B5.w3,zI B5.gone,zI B5.new,zI B5.af] B5 hJ.2.1 aE3 ap7 rfl rfl (Nat.le_of_ble_eq_true rfl) fun L18 aDV=>gY hL9 [] ?_
   obtain⟨bb4,XU⟩:=zG ((ys.set k.toNat B5)) ((k-1).toNat) (by first|omega| (simp only[List.length_set];omega))
   refine pW (k-1) 8 aDV XU (Int.toNat_of_nonneg (show 0≤(k-1)∧(k-1) <(((ys.set k.toNat B5)).length:Int) from (by first|omega| (simp only[List.length_set];omega))).1).symm (fun Oj aE2=>?_)
   refine aM 17 fun JM JV zq=>QG 0 0 [zI I3.past,zI I3.w0,zI I3.w1,zI I3.w2,zI I3.w3,zI I3.gone,zI I3.new,zI I3.af] I3 aDV aE2 XU rfl rfl (Nat.le_of_ble_eq_true rfl) fun L21 aSp=>eo zq<|zD 3<|ja (k-1) (by omega)<|zD 2<|bA hK8 (⟨(k-1),((ys.set k.toNat B5).set ((k-1).toNat) I3),L21⟩) ⟨by dsimp only;omega,aSp,(nX afM afN).trans hJ.2.2⟩ (by dsimp only;omega) [0] (Sub.refl _)
  refine zD 3<|aH q0 (.tuple ⟨[]⟩) [] [0] L (Sub.refl _) ⟨_,_,rfl,rfl,_,hJ.2.2,hJ.2.1⟩
 refine zD 6<|ja (a+b) (by omega)<|zD 6 ?_
 have bfB:=FD (x:=a+b) (by omega)
 refine zD 3<|ja ((IntKind.i64.wrap (aT .u64 (IntKind.u64.wrap (a+b)) 1))+m) (by omega)<|zD 14<|A6 [1,1,1,1,1,1] [] (fun(zz:Int×Int)=>[(0,v),(1,zI a),(2,zI m),(3,zI b),(4,.func (.func 110) ⟨[]⟩ ⟨[]⟩),(18,zI (IntKind.i64.wrap (aT .u64 (IntKind.u64.wrap (a+b)) 1))),(19,zI ((IntKind.i64.wrap (aT .u64 (IntKind.u64.wrap (a+b)) 1))+m)),(20,zI zz.1),(21,zI zz.2)]) (fun(zz:Int×Int)=>[.l L]) (fun(zz:Int×Int)=>(a≤zz.1∧zz.1≤zz.2)∧zz.2≤b∧a≤((IntKind.i64.wrap (aT .u64 (IntKind.u64.wrap (a+b)) 1))+m)-zz.2∧((IntKind.i64.wrap (aT .u64 (IntKind.u64.wrap (a+b)) 1))+m)-zz.1≤b) ?_ (fun K11 aHm=>?_)
 ·
  rintro⟨s0,r0⟩ hC rest
  dsimp only at hC
  refine zD 3<|ja (((IntKind.i64.wrap (aT .u64 (IntKind.u64.wrap (a+b)) 1))+m)-1) (by omega)<|zD 4<|ek [1,1,1,1,1,1,1,0,0,0] [] (fun(zz:Int×Int)=>[(0,v),(1,zI a),(2,zI m),(3,zI b),(4,.func (.func 110) ⟨[]⟩ ⟨[]⟩),(18,zI (IntKind.i64.wrap (aT .u64 (IntKind.u64.wrap (a+b)) 1))),(19,zI ((IntKind.i64.wrap (aT .u64 (IntKind.u64.wrap (a+b)) 1))+m)),(20,zI zz.1),(21,zI zz.2),(22,zI (((IntKind.i64.wrap (aT .u64 (IntKind.u64.wrap (a+b)) 1))+m)-1))]) (fun(zz:Int×Int)=>[.l L]) (fun(zz:Int×Int)=>(a≤zz.1∧zz.1≤zz.2)∧zz.2≤b∧a≤((IntKind.i64.wrap (aT .u64 (IntKind.u64.wrap (a+b)) 1))+m)-zz.2∧((IntKind.i64.wrap (aT .u64 (IntKind.u64.wrap (a+b)) 1))+m)-zz.1≤b) (fun(zz:Int×Int)=>(zz.2-zz.1).toNat) (⟨s0,r0⟩) hC [0] ?_
  rintro⟨sx,r⟩ hK K12 aHl rest
  dsimp only at hK
  refine zD 7<|zJ 151 (sx <r) (fun Ao=>?_) fun Ao=>?_
  ·
   refine zD 7<|ja (sx+r) (by omega)<|zD 6 ?_
   have hsr:=FD (x:=sx+r) (by omega)
   refine zD 5<|ja ((((IntKind.i64.wrap (aT .u64 (IntKind.u64.wrap (a+b)) 1))+m)-1)-(IntKind.i64.wrap (aT .u64 (IntKind.u64.wrap (sx+r)) 1))) (by omega) ?_
   obtain⟨I2,afK⟩:=zG xs (((((IntKind.i64.wrap (aT .u64 (IntKind.u64.wrap (a+b)) 1))+m)-1)-(IntKind.i64.wrap (aT .u64 (IntKind.u64.wrap (sx+r)) 1))).toNat) (by first|omega| (simp only[List.length_set];omega))
   refine pW ((((IntKind.i64.wrap (aT .u64 (IntKind.u64.wrap (a+b)) 1))+m)-1)-(IntKind.i64.wrap (aT .u64 (IntKind.u64.wrap (sx+r)) 1))) 8 ho afK (Int.toNat_of_nonneg (show 0≤((((IntKind.i64.wrap (aT .u64 (IntKind.u64.wrap (a+b)) 1))+m)-1)-(IntKind.i64.wrap (aT .u64 (IntKind.u64.wrap (sx+r)) 1)))∧((((IntKind.i64.wrap (aT .u64 (IntKind.u64.wrap (a+b)) 1))+m)-1)-(IntKind.i64.wrap (aT .u64 (IntKind.u64.wrap (sx+r)) 1))) <((xs).length:Int) from (by first|omega| (simp only[List.length_set];omega))).1).symm (fun bhp aE1=>?_)
   refine mY 0 [0] L (fun s _ hZ=>bU ho aE1 hZ afK)<|zD 2 ?_
   obtain⟨I1,afJ⟩:=zG xs ((IntKind.i64.wrap (aT .u64 (IntKind.u64.wrap (sx+r)) 1)).toNat) (by first|omega| (simp only[List.length_set];omega))
   refine pW (IntKind.i64.wrap (aT .u64 (IntKind.u64.wrap (sx+r)) 1)) 8 ho afJ (Int.toNat_of_nonneg (show 0≤(IntKind.i64.wrap (aT .u64 (IntKind.u64.wrap (sx+r)) 1))∧(IntKind.i64.wrap (aT .u64 (IntKind.u64.wrap (sx+r)) 1)) <((xs).length:Int) from (by first|omega| (simp only[List.length_set];omega))).1).symm (fun bho aE0=>?_)
   refine mY 0 [0] L (fun s _ hZ=>bU ho aE0 hZ afJ)<|aM 11 fun ao1 apl NI=>jp (vs:=[.agg ⟨[zI I2.past,zI I2.w0,zI I2.w1,zI I2.w2,zI I2.w3,zI I2.gone,zI I2.new,zI I2.af]⟩,.agg ⟨[zI I1.past,zI I1.w0,zI I1.w1,zI I1.w2,zI I1.w3,zI I1.gone,zI I1.new,zI I1.af]⟩]) [] [] (fun aC hs hZ=>(amP (x:=I2) (y:=I1) (hP _ (List.mem_of_getElem? afK)) (hP _ (List.mem_of_getElem? afJ))))<|bI NI [0]<|zD 3<|js 171 (!(decide ((I2.past-I1.past) <0))) (fun h25=>?_) (fun h25=>?_)
   ·
    try simp only[zB] at h25
    refine zD 3<|ja ((IntKind.i64.wrap (aT .u64 (IntKind.u64.wrap (sx+r)) 1))+1) (by omega)<|zD 2<|bA aHl (⟨((IntKind.i64.wrap (aT .u64 (IntKind.u64.wrap (sx+r)) 1))+1),r⟩) (by dsimp only;omega) (by dsimp only;omega) [0] (Sub.refl _)
   try simp only[zB] at h25
   refine zD 5<|bA aHl (⟨sx,(IntKind.i64.wrap (aT .u64 (IntKind.u64.wrap (sx+r)) 1))⟩) (by dsimp only;omega) (by dsimp only;omega) [0] (Sub.refl _)
  refine zD 6<|ja (((IntKind.i64.wrap (aT .u64 (IntKind.u64.wrap (a+b)) 1))+m)-sx) (by omega)<|zD 9<|jj 4 [(0,v),(1,zI a),(2,zI m),(3,zI b),(4,.func (.func 110) ⟨[]⟩ ⟨[]⟩),(18,zI (IntKind.i64.wrap (aT .u64 (IntKind.u64.wrap (a+b)) 1))),(20,zI sx),(24,zI (((IntKind.i64.wrap (aT .u64 (IntKind.u64.wrap (a+b)) 1))+m)-sx)),(185,.bool ((decide (sx <m))&&(decide (m <(((IntKind.i64.wrap (aT .u64 (IntKind.u64.wrap (a+b)) 1))+m)-sx)))))] (fun ia=>?_) (fun hj=>?_)
  rotate_left
  refine js 181 (decide (sx <m)) (fun h26=>?_) (fun h26=>?_)
  ·
   have aim:=h26
   replace aim:=of_decide_eq_true aim
   refine zD 4<|jw 185 (.bool ((decide (sx <m))&&(decide (m <(((IntKind.i64.wrap (aT .u64 (IntKind.u64.wrap (a+b)) 1))+m)-sx))))) (w:= .bool (decide (m <(((IntKind.i64.wrap (aT .u64 (IntKind.u64.wrap (a+b)) 1))+m)-sx)))) (by rw[h26]<;>rfl) ?_
   exact hj _ (by kernel_rfl) (by kernel_rfl)
  ·
   have aim:=h26
   replace aim:=of_decide_eq_false aim
   refine zD 4<|jw 185 (.bool ((decide (sx <m))&&(decide (m <(((IntKind.i64.wrap (aT .u64 (IntKind.u64.wrap (a+b)) 1))+m)-sx))))) (w:= .bool false) (by rw[h26]<;>rfl) ?_
   exact hj _ (by kernel_rfl) (by kernel_rfl)
  refine zD 1<|A6 [1,1,1,1,1,1,1,1,1,1] [] (fun(zz:(List ai)×Cells)=>[(0,v),(1,zI a),(3,zI b),(4,.func (.func 110) ⟨[]⟩ ⟨[]⟩),(18,zI (IntKind.i64.wrap (aT .u64 (IntKind.u64.wrap (a+b)) 1))),(20,zI sx),(24,zI (((IntKind.i64.wrap (aT .u64 (IntKind.u64.wrap (a+b)) 1))+m)-sx))]) (fun(zz:(List ai)×Cells)=>[.l zz.2]) (fun(zz:(List ai)×Cells)=>zz.1.Perm xs∧az v 8 115 cy zz.1 zz.2) ?_ (fun K14 aaX=>?_)
  ·
   rintro⟨ys,L⟩ hA rest
   dsimp only at hA
   have XT:=hA.1.length_eq
   have hyp:=hP.perm hA.1
   refine zD 7<|jj 4 [(0,v),(1,zI a),(3,zI b),(4,.func (.func 110) ⟨[]⟩ ⟨[]⟩),(18,zI (IntKind.i64.wrap (aT .u64 (IntKind.u64.wrap (a+b)) 1))),(20,zI sx),(24,zI (((IntKind.i64.wrap (aT .u64 (IntKind.u64.wrap (a+b)) 1))+m)-sx)),(199,.bool ((decide (a <sx))&&(decide (sx <(IntKind.i64.wrap (aT .u64 (IntKind.u64.wrap (a+b)) 1))))))] (fun ia=>?_) (fun hj=>?_)
   rotate_left
   refine js 195 (decide (a <sx)) (fun h27=>?_) (fun h27=>?_)
   ·
    have ail:=h27
    replace ail:=of_decide_eq_true ail
    refine zD 4<|jw 199 (.bool ((decide (a <sx))&&(decide (sx <(IntKind.i64.wrap (aT .u64 (IntKind.u64.wrap (a+b)) 1)))))) (w:= .bool (decide (sx <(IntKind.i64.wrap (aT .u64 (IntKind.u64.wrap (a+b)) 1))))) (by rw[h27]<;>rfl) ?_
    exact hj _ (by kernel_rfl) (by kernel_rfl)
   ·
    have ail:=h27
    replace ail:=of_decide_eq_false ail
    refine zD 4<|jw 199 (.bool ((decide (a <sx))&&(decide (sx <(IntKind.i64.wrap (aT .u64 (IntKind.u64.wrap (a+b)) 1)))))) (w:= .bool false) (by rw[h27]<;>rfl) ?_
    exact hj _ (by kernel_rfl) (by kernel_rfl)
   refine zD 1<|A6 [1,1,1,1,1,1,1,1,1,1,1] [] (fun(zz:(List ai)×Cells)=>[(0,v),(3,zI b),(4,.func (.func 110) ⟨[]⟩ ⟨[]⟩),(18,zI (IntKind.i64.wrap (aT .u64 (IntKind.u64.wrap (a+b)) 1))),(24,zI (((IntKind.i64.wrap (aT .u64 (IntKind.u64.wrap (a+b)) 1))+m)-sx))]) (fun(zz:(List ai)×Cells)=>[.l zz.2]) (fun(zz:(List ai)×Cells)=>zz.1.Perm xs∧az v 8 115 cy zz.1 zz.2) ?_ (fun K15 aHk=>?_)
   ·
    rintro⟨ys,L⟩ hB rest
    dsimp only at hB
    have XT:=hB.1.length_eq
    have hyp:=hP.perm hB.1
    refine zD 6<|jj 4 [(0,v),(3,zI b),(4,.func (.func 110) ⟨[]⟩ ⟨[]⟩),(18,zI (IntKind.i64.wrap (aT .u64 (IntKind.u64.wrap (a+b)) 1))),(24,zI (((IntKind.i64.wrap (aT .u64 (IntKind.u64.wrap (a+b)) 1))+m)-sx)),(213,.bool ((decide ((IntKind.i64.wrap (aT .u64 (IntKind.u64.wrap (a+b)) 1)) <(((IntKind.i64.wrap (aT .u64 (IntKind.u64.wrap (a+b)) 1))+m)-sx)))&&(decide ((((IntKind.i64.wrap (aT .u64 (IntKind.u64.wrap (a+b)) 1))+m)-sx) <b))))] (fun ia=>?_) (fun hj=>?_)
    rotate_left
    refine js 209 (decide ((IntKind.i64.wrap (aT .u64 (IntKind.u64.wrap (a+b)) 1)) <(((IntKind.i64.wrap (aT .u64 (IntKind.u64.wrap (a+b)) 1))+m)-sx))) (fun h28=>?_) (fun h28=>?_)
    ·
     have aik:=h28
     replace aik:=of_decide_eq_true aik
     refine zD 4<|jw 213 (.bool ((decide ((IntKind.i64.wrap (aT .u64 (IntKind.u64.wrap (a+b)) 1)) <(((IntKind.i64.wrap (aT .u64 (IntKind.u64.wrap (a+b)) 1))+m)-sx)))&&(decide ((((IntKind.i64.wrap (aT .u64 (IntKind.u64.wrap (a+b)) 1))+m)-sx) <b)))) (w:= .bool (decide ((((IntKind.i64.wrap (aT .u64 (IntKind.u64.wrap (a+b)) 1))+m)-sx) <b))) (by rw[h28]<;>rfl) ?_
     exact hj _ (by kernel_rfl) (by kernel_rfl)
    ·
     have aik:=h28
     replace aik:=of_decide_eq_false aik
     refine zD 4<|jw 213 (.bool ((decide ((IntKind.i64.wrap (aT .u64 (IntKind.u64.wrap (a+b)) 1)) <(((IntKind.i64.wrap (aT .u64 (IntKind.u64.wrap (a+b)) 1))+m)-sx)))&&(decide ((((IntKind.i64.wrap (aT .u64 (IntKind.u64.wrap (a+b)) 1))+m)-sx) <b)))) (w:= .bool false) (by rw[h28]<;>rfl) ?_
     exact hj _ (by kernel_rfl) (by kernel_rfl)
    refine zD 1<|js 213 ((decide ((IntKind.i64.wrap (aT .u64 (IntKind.u64.wrap (a+b)) 1)) <(((IntKind.i64.wrap (aT .u64 (IntKind.u64.wrap (a+b)) 1))+m)-sx)))&&(decide ((((IntKind.i64.wrap (aT .u64 (IntKind.u64.wrap (a+b)) 1))+m)-sx) <b))) (fun h29=>?_) (fun h29=>?_)
    ·
     try simp only[zB] at h29
     refine zD 7<|jc (vs:=[v,zI (IntKind.i64.wrap (aT .u64 (IntKind.u64.wrap (a+b)) 1)),zI (((IntKind.i64.wrap (aT .u64 (IntKind.u64.wrap (a+b)) 1))+m)-sx),zI b,.func (.func 110) ⟨[]⟩ ⟨[]⟩]) [0] (ih _ (show (b-(IntKind.i64.wrap (aT .u64 (IntKind.u64.wrap (a+b)) 1))).toNat <n by omega) _ _ _ _ _ _ _ hB.2 (by omega) hyp (by omega) rfl) ?_
     rintro aYp aWF ⟨aXJ,af9,aDR⟩
     have aQ9:=af9.length_eq
     have aQ5:=gJ.perm hyp af9
     refine zD 1<|aH q0 (.tuple ⟨[]⟩) [] [0] aWF (Sub.refl _) ⟨_,_,rfl,rfl,_,(af9.trans hB.1),aDR⟩
    try simp only[zB] at h29
    refine zD 2<|aH q0 (.tuple ⟨[]⟩) [] [0] L (Sub.refl _) ⟨_,_,rfl,rfl,_,hB.1,hB.2⟩
   refine js 199 ((decide (a <sx))&&(decide (sx <(IntKind.i64.wrap (aT .u64 (IntKind.u64.wrap (a+b)) 1))))) (fun h30=>?_) (fun h30=>?_)
   ·
    try simp only[zB] at h30
    refine zD 7<|jc (vs:=[v,zI a,zI sx,zI (IntKind.i64.wrap (aT .u64 (IntKind.u64.wrap (a+b)) 1)),.func (.func 110) ⟨[]⟩ ⟨[]⟩]) [0] (ih _ (show ((IntKind.i64.wrap (aT .u64 (IntKind.u64.wrap (a+b)) 1))-a).toNat <n by omega) _ _ _ _ _ _ _ hA.2 (by omega) hyp (by omega) rfl) ?_
    rintro aYq aWG ⟨azy,aga,aDT⟩
    have aRa:=aga.length_eq
    have aQ6:=gJ.perm hyp aga
    refine zD 1<|bA aHk ⟨azy,aWG⟩ ⟨(aga.trans hA.1),aDT⟩ Nat.zero_lt_one [0] (Sub.refl _)
   try simp only[zB] at h30
   refine zD 2<|bA aHk ⟨ys,L⟩ ⟨hA.1,hA.2⟩ Nat.zero_lt_one [0] (Sub.refl _)
  refine js 185 ((decide (sx <m))&&(decide (m <(((IntKind.i64.wrap (aT .u64 (IntKind.u64.wrap (a+b)) 1))+m)-sx)))) (fun h31=>?_) (fun h31=>?_)
  ·
   try simp only[zB] at h31
   refine zD 7<|jc (vs:=[v,zI sx,zI m,zI (((IntKind.i64.wrap (aT .u64 (IntKind.u64.wrap (a+b)) 1))+m)-sx),.func (.func 110) ⟨[]⟩ ⟨[]⟩]) [0] (aOL ho (by omega) hP (by omega)) ?_
   rintro aYr aWH ⟨azz,agb,aDU⟩
   have aRb:=agb.length_eq
   have aQ7:=gJ.perm hP agb
   refine zD 1<|bA aaX ⟨azz,aWH⟩ ⟨(agb.trans (.refl _)),aDU⟩ Nat.zero_lt_one [0] (Sub.refl _)
  try simp only[zB] at h31
  refine zD 2<|bA aaX ⟨xs,L⟩ ⟨(.refl _),ho⟩ Nat.zero_lt_one [0] (Sub.refl _)
 refine zJ 140 (m>(IntKind.i64.wrap (aT .u64 (IntKind.u64.wrap (a+b)) 1))) (fun h32=>?_) fun h32=>?_
 ·
  refine zD 5<|ja (((IntKind.i64.wrap (aT .u64 (IntKind.u64.wrap (a+b)) 1))+m)-b) (by omega)<|zD 6<|bA aHm ⟨(((IntKind.i64.wrap (aT .u64 (IntKind.u64.wrap (a+b)) 1))+m)-b),(IntKind.i64.wrap (aT .u64 (IntKind.u64.wrap (a+b)) 1))⟩ (by dsimp only;omega) Nat.zero_lt_one [0] (Sub.refl _)
 refine zD 10<|bA aHm ⟨a,m⟩ (by dsimp only;omega) Nat.zero_lt_one [0] (Sub.refl _)
theorem aOK:∀n,aIV n:=by
 intro n
 induction n using Nat.strongRecOn with
 |_ n ih=>exact fun ro v xs L a m b ho hN hP BX hn=>aAC ih ho hN hP BX hn
theorem apv{v:Value}{xs:List ai}{L:Cells}{a m b:Int}{ro:Nat→Option Obj}(ho:az v 8 115 cy xs L)(hN:xs.length≤100000)(hP:gJ xs)(BX:0≤a∧a <m∧m <b∧b≤xs.length):eV zT 170 [v,zI a,zI m,zI b,.func (.func 110) ⟨[]⟩ ⟨[]⟩] ro L (fun _ Y=>xv v xs Y):=
 aOK _ ro v xs L a m b ho hN hP BX rfl
theorem aAD{v:Value}{xs:List ai}{L:Cells}{n:Int}{ro:Nat→Option Obj}(ho:az v 8 115 cy xs L)(hN:xs.length≤100000)(hP:gJ xs)(hn:n=xs.length):eV zT 150 [v,zI n,.func (.func 110) ⟨[]⟩ ⟨[]⟩] ro L (fun r Y=>xv v xs Y):=by
 refine bG av [.l L] [] bh<|zD 12<|ek [1,1,0,0,0] [] (fun(zz:Int×Int×(List ai)×Cells)=>[(0,v),(1,zI n),(2,.func (.func 110) ⟨[]⟩ ⟨[]⟩),(6,zI 20),(7,zI zz.1),(8,zI zz.2.1)]) (fun(zz:Int×Int×(List ai)×Cells)=>[.l zz.2.2.2]) (fun(zz:Int×Int×(List ai)×Cells)=>(zz.2.1=zz.1+20∧0≤zz.1∧zz.1≤n)∧az v 8 115 cy zz.2.2.1 zz.2.2.2∧zz.2.2.1.Perm xs) (fun(zz:Int×Int×(List ai)×Cells)=>(n-zz.1).toNat) (⟨0,20,xs,L⟩) ⟨by dsimp only;omega,ho,.refl _⟩ [0] ?_
 rintro⟨a,b,ys,L⟩ hI K1 bM rest
 dsimp only at hI
 have XT:=hI.2.2.length_eq
 have hyp:=hP.perm hI.2.2
 refine zD 7<|zJ 13 (b≤n) (fun h1=>?_) fun h1=>?_
 ·
  refine zD 9<|jc (vs:=[v,zI a,zI b,.func (.func 110) ⟨[]⟩ ⟨[]⟩]) [0] (aAF hI.2.1 (by omega) hyp (by omega)) ?_
  rintro bcN Y18 ⟨aMb,QT,aaH⟩
  have aZp:=QT.length_eq
  have aZi:=gJ.perm hyp QT
  refine zD 9<|ja (b+20) (by omega)<|zD 2<|bA bM (⟨b,(b+20),aMb,Y18⟩) ⟨by dsimp only;omega,aaH,(QT.trans hI.2.2)⟩ (by dsimp only;omega) [0] (Sub.refl _)
 refine zD 8<|jc (vs:=[v,zI a,zI n,.func (.func 110) ⟨[]⟩ ⟨[]⟩]) [0] (aAF hI.2.1 (by omega) hyp (by omega)) ?_
 rintro bcM Y27 ⟨bbY,auY,aSn⟩
 have aZo:=auY.length_eq
 have aZh:=gJ.perm hyp auY
 refine zD 2<|ek [1,1,1,1,0,0] [] (fun(zz:Int×(List ai)×Cells)=>[(0,v),(1,zI n),(2,.func (.func 110) ⟨[]⟩ ⟨[]⟩),(6,zI zz.1)]) (fun(zz:Int×(List ai)×Cells)=>[.l zz.2.2]) (fun(zz:Int×(List ai)×Cells)=>(20≤zz.1∧zz.1≤1000000)∧az v 8 115 cy zz.2.1 zz.2.2∧zz.2.1.Perm xs) (fun(zz:Int×(List ai)×Cells)=>(n-zz.1).toNat) (⟨20,_,_⟩) ⟨by dsimp only;omega,aSn,auY.trans hI.2.2⟩ [0] ?_
 rintro⟨bz,ys,L⟩ hJ K2 lI rest
 dsimp only at hJ
 have XT:=hJ.2.2.length_eq
 have hyp:=hP.perm hJ.2.2
 refine zD 7<|zJ 30 (bz <n) (fun h2=>?_) fun h2=>?_
 ·
  refine zD 6<|ja (2*bz) (by omega)<|zD 5<|ek [1,1,1,1,0,0,1,0,1,0,0,0] [K2] (fun(zz:Int×Int×(List ai)×Cells)=>[(0,v),(1,zI n),(2,.func (.func 110) ⟨[]⟩ ⟨[]⟩),(6,zI bz),(7,zI zz.1),(8,zI zz.2.1)]) (fun(zz:Int×Int×(List ai)×Cells)=>[.l zz.2.2.2]) (fun(zz:Int×Int×(List ai)×Cells)=>(zz.2.1=zz.1+2*bz∧0≤zz.1∧zz.1≤n)∧az v 8 115 cy zz.2.2.1 zz.2.2.2∧zz.2.2.1.Perm xs) (fun(zz:Int×Int×(List ai)×Cells)=>(n-zz.1).toNat) (⟨0,(2*bz),ys,L⟩) ⟨by dsimp only;omega,hJ.2⟩ [0] ?_
  rintro⟨a,b,ys,L⟩ hK K3 hK3 rest
  dsimp only at hK
  have XT:=hK.2.2.length_eq
  have hyp:=hP.perm hK.2.2
  refine zD 7<|zJ 35 (b≤n) (fun h3=>?_) fun h3=>?_
  ·
   refine zD 9<|ja (a+bz) (by omega)<|zD 2<|jc (vs:=[v,zI a,zI (a+bz),zI b,.func (.func 110) ⟨[]⟩ ⟨[]⟩]) [0] (apv hK.2.1 (by omega) hyp (by omega)) ?_
   rintro bcK Y43 ⟨aL8,auV,aSj⟩
   have aZm:=auV.length_eq
   have aZf:=gJ.perm hyp auV
   refine zD 9<|ja (2*bz) (by omega)<|ja (b+(2*bz)) (by omega)<|zD 2<|bA hK3 (⟨b,(b+(2*bz)),aL8,Y43⟩) ⟨by dsimp only;omega,aSj,(auV.trans hK.2.2)⟩ (by dsimp only;omega) [0] (Sub.refl _)
  refine zD 7<|ja (a+bz) (by omega)<|zD 8<|zJ 54 ((a+bz) <n) (fun h4=>?_) fun h4=>?_
  ·
   refine zD 7<|jc (vs:=[v,zI a,zI (a+bz),zI n,.func (.func 110) ⟨[]⟩ ⟨[]⟩]) [0] (apv hK.2.1 (by omega) hyp (by omega)) ?_
   rintro bcH Y60 ⟨aL6,UE,wH⟩
   have aZj:=UE.length_eq
   have aZc:=gJ.perm hyp UE
   refine zD 3<|ja (bz*2) (by omega)<|zD 2<|bA lI (⟨(bz*2),aL6,Y60⟩) ⟨by dsimp only;omega,wH,(UE.trans hK.2.2)⟩ (by dsimp only;omega) [0] (Sub.refl _)
  refine zD 4<|ja (bz*2) (by omega)<|zD 2<|bA lI (⟨(bz*2),ys,L⟩) ⟨by dsimp only;omega,hK.2.1,hK.2.2⟩ (by dsimp only;omega) [0] (Sub.refl _)
 refine zD 2<|aH q0 (.tuple ⟨[]⟩) [] [0] L (Sub.refl _) ⟨_,_,rfl,rfl,_,hJ.2.2,hJ.2.1⟩
theorem Pz{v:Value}{xs:List ai}{L:Cells}{ro:Nat→Option Obj}(ho:az v 8 115 cy xs L)(hN:xs.length≤100000)(hP:gJ xs):eV zT 109 [v,.func (.func 110) ⟨[]⟩ ⟨[]⟩] ro L (fun r Y=>xv v xs Y):=by
 refine bG av [.l L] [] bh<|zD 3<|A5 ho<|zD 1<|jc (vs:=[v,zI (xs.length:Int),.func (.func 110) ⟨[]⟩ ⟨[]⟩]) [0] (aAD ho (by omega) hP rfl) ?_
 rintro rv8 Y8 ⟨ys8,hp8,ho8⟩
 have beG:=hp8.length_eq
 have beF:=gJ.perm hP hp8
 refine zD 1<|aH q0 (.tuple ⟨[]⟩) [] [0] Y8 (Sub.refl _) ⟨_,_,rfl,rfl,_,hp8,ho8⟩
open Go.ConcR (KK wgBlock WgAt stA smA rd wr)
def ajL(o:Oper):Array TypeId:=match o.op with
 | .call c=>c.argTypes
 | .go c=>c.argTypes
 | .defer c=>c.argTypes
 |_=> #[]
noncomputable def kE:rY:=axi zT 77 2
theorem aCC:kE.cl.OK zT 194 where
 ff:=by kernel_rfl
 fn:=⟨(Tryz.prog.funcs[107]?).getD default,by kernel_rfl,by kernel_rfl,by kernel_rfl⟩
 bf:=⟨by kernel_rfl,by kernel_rfl,by kernel_rfl⟩
 enter:=fun p1 p2=>by kernel_rfl
 op0:=by kernel_rfl
 rest:=⟨1,by kernel_rfl⟩
 size:=by kernel_rfl
 op:=⟨by kernel_rfl,by kernel_rfl,ajL kE.cl.oc,by kernel_rfl⟩
theorem at6:∀v,v <2→∀W,∃k,Ic zT 194 v (Frame.enter zT 104 #[zP W,zI 1] .normal)=some (List.replicate k W):=by
 intro v hv W
 match v,hv with
 |0,_=>exact⟨7,by kernel_rfl⟩
 |1,_=>exact⟨4,by kernel_rfl⟩
theorem amO:∀W,∃k,xS zT 194 2 (Frame.enter zT 106 #[zP W] .deferred)=some (List.replicate k W):=fun W=>⟨27,by kernel_rfl⟩
theorem amN:∀W,∃k,BC zT 194 2 (Frame.enter zT 108 #[zP W] .normal)=some (List.replicate k W):=fun W=>⟨164,by kernel_rfl⟩
noncomputable def nO(Wg Ch:Nat)(ig:Os)(cB:Array (Nat×ByteArray)):ep (List ai):=⟨zT,194,Wg,Ch,2,zS,ig,cB,fun l v X=>az v 8 115 cy l X⟩
theorem HI(K:aE)(on:Int)(hb:K.after.length≤4):∀(n a:Nat) (p:Nat→Int),(∀i,0≤p i∧p i≤4)→(iU K on n a p).length≤5^n∧∀q∈iU K on n a p,∀i,0≤q i∧q i≤4
 |0,a,p,hp=>by
  simp only[iU]
  cases lT on p K.facts 0 with
  |true=>exact⟨by simp,fun q hq=>by simp only[cond_true,List.mem_singleton] at hq;subst hq;exact hp⟩
  |false=>exact⟨by simp,fun q hq=>by simp at hq⟩
 |n+1,a,p,hp=>by
  obtain⟨h1,h2⟩:=HI K on hb n (a+1) p hp
  have hg:∀b,b <K.after.length→(nM K on n a p b).length≤5^n∧∀q∈nM K on n a p b,∀i,0≤q i∧q i≤4:=fun b cN=>by
   simp only[nM]
   cases !dw K on a b||qN p a ((b:Int)+1) with
   |true=>exact⟨by simp,fun q hq=>by simp at hq⟩
   |false=>
    simp only[cond_false]
    refine HI K on hb n (a+1) _ fun i=>?_
    simp only[iF]
    split
    ·omega
    exact hp i
  rw[qT]
  refine⟨?_,fun q hq=>?_⟩
  ·rw[List.length_append,List.length_flatMap]
   have:((List.range K.after.length).map fun b=>(nM K on n a p b).length).sum≤K.after.length*5^n:=by
    have key:∀l:List Nat,(∀b∈l,b <K.after.length)→(l.map fun b=>(nM K on n a p b).length).sum≤l.length*5^n:=by
     intro l
     induction l with
     |nil=>intro _;simp
     |cons b l ih=>
      intro hl
      have:=ih fun x hx=>hl x (List.mem_cons_of_mem _ hx)
      have:=(hg b (hl b List.mem_cons_self)).1
      simp only[List.map_cons,List.sum_cons,List.length_cons,Nat.succ_mul]
      omega
    have:=key (List.range K.after.length) fun b hb=>List.mem_range.1 hb
    simpa using this
   have h5:K.after.length*5^n≤4*5^n:=Nat.mul_le_mul_right _ hb
   rw[Nat.pow_succ]
   omega
  rcases List.mem_append.1 hq with hq|hq
  ·exact h2 q hq
  obtain⟨b,mL,hq⟩:=List.mem_flatMap.1 hq
  exact(hg b (List.mem_range.1 mL)).2 q hq
theorem gx(hV:eZ K)(on:Int):(aN K on).length≤625∧∀q∈aN K on,∀i,0≤q i∧q i≤4:=by
 obtain⟨h1,h2⟩:=HI K on hV.after.1 K.before.length 0 (fun _=>0) fun _=>by omega
 refine⟨Nat.le_trans h1 ?_,h2⟩
 have:=Nat.pow_le_pow_right (n:=5) (by omega) hV.before.1
 omega
abbrev pV(b:Nat):Value:= zP b
noncomputable def EL(f i:Nat):Array Oper:=cS (codeOf zT f) i
noncomputable def aWa(f i:Nat):Code:=((codeOf zT f)[i]?).getD .skip
def mP(K:aE)(on:Int)(keep:ai→Bool)(r:bE)(past:Nat):List ai:=((aN K on).map (cu K r past)).filter keep
noncomputable def YM(f:Nat):Code:=(((Tryz.prog.funcs[f]?).getD default).body).getD .skip
theorem jL{l:List α}{x:α}(h:l[k]?=some x):l.take (k+1)=l.take k++[x]:=by rw[List.take_succ,h];rfl
theorem axc:gR [YM 105]=[.region 0 (EL 105 0) false,.region 1 (EL 105 1) false,.region 2 (EL 105 2) false,aWa 105 3,.region 7 (EL 105 4) false]:=by kernel_rfl
theorem aCt{rows:List bE}{on:Int}{I9:bE}{keep:ai→Bool}{ro:Nat→Option Obj}{Wg Ch:Nat}{ig:Os}{cB:Array (Nat×ByteArray)}{b5 b7 b9:Nat}(hV:eZ K)(hF:pM ro f K rows)(C2:rows[past]?=some I9) (Hm:BZ zT g=true)
 (iE:∀aK,Sub ro aK→∀p∈aN K on,dz zT g (fi++[.agg ⟨cy (cu K I9 past p)⟩]++ca) aK (.bool (keep (cu K I9 past p))))
 (g3:ro b3=some (.cells ⟨[pV f]⟩ 104 (0,0))) (g4:ro b4=some (.cells ⟨[.int .u8 on]⟩ 120 (0,0))) (g9:ro b9=some (.cells ⟨[zI (past:Int)]⟩ 3 (0,0))) (g5:ro b5=some (.cells ⟨[.func (.func g) ⟨fi⟩ ⟨ca⟩]⟩ 116 (0,0))) (g7:ro b7=some (.cells ⟨[.chan (some Ch)]⟩ 185 (0,0))):
 e9 zT false ((nO Wg Ch ig cB).JK (mP K on keep I9 past)) (born zT {target:= .fn (.func 105) ⟨[pV Wg,pV b3,pV b4,pV b9,pV b5,pV b7]⟩,args:= #[]}) ⟨ro,[]⟩:=by
 have hT:Closed zT false (e9 zT false ((nO Wg Ch ig cB).JK (mP K on keep I9 past))):=ez _ _ _
 refine aAv (fn:=(Tryz.prog.funcs[105]?).getD default) (c:=YM 105) (n:=26) (by kernel_rfl) (by kernel_rfl) (by kernel_rfl) (by kernel_rfl) (by rfl)<|qp hT axc fun l1 Ee=>?_
 refine asf hT (a:=eX (EL 105 0) 0) (f:=106) (xs:= #[.tmp 0]) (vs:=[pV Wg]) (ats:=ajL (eX (EL 105 0) 0)) (by kernel_rfl) (by kernel_rfl) (by kernel_rfl) (by decide) rfl<|qp hT Ee fun l2 rj=>?_
 refine vM av hT<|jn fun b6=>zD 1<|x5<|qp hT rj fun l3 Q6=>?_
 refine vM av hT<|jl (b:=b3) (off:=0) (m:=1) (vs:=[pV f]) 0 ⟨_,_,_,.inl g3,rfl⟩<|jl (b:=b4) (off:=0) (m:=1) (vs:=[.int .u8 on]) 0 ⟨_,_,_,.inl g4,rfl⟩<|jc [] (KU (on:=on) hF hV) ?_
 rintro _ _ ⟨q1,q2,q3,q4,rfl,rfl⟩
 refine jf [0] [(q1,.cells ⟨[pV f]⟩ 104 (0,0)),(q2,.cells ⟨[.func (.func 127) ⟨[]⟩ ⟨[pV q1,pV q4]⟩]⟩ 221 (0,0)),(q3,.cells ⟨Dm ⟨dw K on⟩⟩ 159 (0,0)),(q4,.cells ⟨[.int .u8 on]⟩ 120 (0,0))] fun aC bB hk1=>zD 1<|aAt<|apq hT Q6 fun l4 Q5=>?_
 refine aAu av hT ?_
 have Db:=hF.up bB
 refine zD 1<|oL ?_
 refine jrf [] (XJ (on:=on) Db hV (hk1 _ (.head _)) (hk1 _ (.tail _ (.head _))) (hk1 _ (.tail _ (.tail _ (.head _)))) (hk1 _ (.tail _ (.tail _ (.tail _ (.head _)))))) (by rintro _ _ _ _ ⟨_,_,rfl,_⟩;rfl)
  (fun(zz:Value×Cells)=>[.b b6 (.cells ⟨[zz.1]⟩ 108 (0,0)),.l zz.2]) (fun kk=>(fun(zz:Value×Cells)=>az zz.1 8 115 cy ((((aN K on).take kk).map (cu K I9 past)).filter keep) zz.2)) (fun jump=>(fun(zz:Value×Cells)=>False)) (⟨zS,[]⟩) (az.nil _ _ _) [1,0] ?_ ?_ ?_
 ·rintro bl bd kk vs LL ⟨v,Lb⟩ kK iN ⟨p,hp,rfl,rfl⟩ hI nJ
  dsimp only at hI
  have aDF:=List.mem_of_getElem? hp
  have hp4:=(gx hV on).2 p aDF
  have af2:=Sub.trans bB nJ
  have hlen:((((aN K on).take kk).map (cu K I9 past)).filter keep).length≤625:=by
   refine Nat.le_trans (List.length_filter_le _ _) ?_
   rw[List.length_map,List.length_take]
   have:=(gx hV on).1
   omega
  refine zD 1<|jn fun iD=>jd 2 [0]<|jbI 1<|zD 3<|jl (b:=b3) (off:=0) (m:=1) (vs:=[pV f]) 0 ⟨_,_,_,.inl (af2 _ _ g3),rfl⟩<|jl (b:=b9) (off:=0) (m:=1) (vs:=[zI (past:Int)]) 0 ⟨_,_,_,.inl (af2 _ _ g9),rfl⟩<|jd 1 [0]<|jp (vs:=[pV f,zI (past:Int),.agg ⟨eP4 p⟩]) [] [] (fun yn hs hZ=>ap1 (hF.up (Sub.trans af2 hs)) hV C2 hp4)<|jn fun Ar=>jd 4 [0]<|jl (b:=b5) (off:=0) (m:=1) (vs:=[.func (.func g) ⟨fi⟩ ⟨ca⟩]) 0 ⟨_,_,_,.inl (af2 _ _ g5),rfl⟩<|jd 1 [0]<|jpF (f:=g) (V:= .bool (keep (cu K I9 past p))) (vs:=fi++[Value.agg ⟨cy (cu K I9 past p)⟩]++ca) [] [] Hm (fun yn hs hZ=>iE _ (Sub.trans af2 hs) p aDF)<|zD 1<|js 19 (keep (cu K I9 past p)) (fun h5=>?_) (fun h5=>?_)
  ·refine jd 4 [3,0]<|jn fun nD=>jT (sz:=8) (ps:=(((aN K on).take kk).map (cu K I9 past)).filter keep) (qs:=[cu K I9 past p]) (enc:=cy) (w:= .slice (some ⟨nD,0,none⟩) 1 1) [5] [0] [(nD,.cells ⟨([cu K I9 past p].map cy).flatten⟩ 115 (0,0))] hI (fun s _ hZ=>bN [cu K I9 past p] (hZ _ (.head _)) (by intro p hp;rfl)) (fun p _=>ar rfl) (by simp only[List.length_cons,List.length_nil];omega) (fun v23 L23 zh=>?_)
   obtain⟨va,vc,he⟩:=zh.form
   subst he
   refine jd 2 [5]<|jyn ZQ (Sub.refl _) ⟨.slice va _ vc,L23⟩ (by dsimp only;rw[jL hp,List.map_append,List.filter_append,List.map_cons,List.map_nil,List.filter_cons_of_pos h5,List.filter_nil];exact zh) [4,5,0]
  refine zD 2<|jyn ZQ (Sub.refl _) ⟨v,Lb⟩ (by dsimp only;rw[jL hp,List.map_append,List.filter_append,List.map_cons,List.map_nil,List.filter_cons_of_neg (by rw[h5];simp),List.filter_nil,List.append_nil];exact hI) [2,3,4]
 ·rintro bd ⟨v,Lb⟩ Z hI rfl
  dsimp only at hI
  rw[List.take_length] at hI
  refine aAs<|qp hT Q5 fun l5 Q4=>?_
  have:=gG Q4
  subst this
  show TT _ _ (.inRegion (EL 105 4) (0::[1,2])::[]) _ _ _ _ _
  refine tLd hT (.chan (some Ch)) (a:=eX (EL 105 4) 0) (x:= .tmp 5) (U:=185) (q:=b7) (by kernel_rfl) (by kernel_rfl) (by kernel_rfl) (by kernel_rfl) (by decide) rfl (fun _ _ _ _=> .inl (bB _ _ g7))<|aOw hT v (a:=eX (EL 105 4) 1) (x:= .tmp 6) (U:=108) (q:=b6) (by kernel_rfl) (by kernel_rfl) (by kernel_rfl) (by kernel_rfl) (by decide) rfl [2] 108<|aAn (E:=nO Wg Ch ig cB) (a:=eX (EL 105 4) 2) (sc:= .tmp 24) (sv:= .tmp 25) (v:=v) (Y:=Lb) [3] (by kernel_rfl) (by kernel_rfl) (fun ρ=>by kernel_rfl) (by decide) rfl hI<|Wx (ez _ _ _)<|asa (E:=nO Wg Ch ig cB) (fn:=(Tryz.prog.funcs[105]?).getD default) (dn:=106) (bd:=bd) (by kernel_rfl) (by kernel_rfl) (by kernel_rfl) (amO Wg).choose_spec xD [0] rfl rfl
 rintro bd ⟨v,Lb⟩ Z jump hS hZ
 exact hS.elim
theorem f26:gR [YM 77]=[.region 0 kE.o0 false,.region 1 kE.o1 false,.region 2 kE.o2 false,.region 3 kE.o3 false,.block 0 (.loop kE.lb),.region 9 kE.o9 false,.region 10 kE.o10 false,.region 11 kE.o11 false,.block 2 (.loop kE.rb),.region 15 (EL 77 9) false,.region 16 (EL 77 10) false,.ret]:=by kernel_rfl
theorem aHU:gR [kE.lb]=[.region 4 kE.o4 false,.cond (.tmp 19) .skip (.exit 0),.block 1 kE.D9,.region 8 kE.o8 false]:=by kernel_rfl
theorem aVX:gR [kE.D9]=[.region 5 kE.o5 false,.region 6 kE.o6 false,.region 7 kE.o7 false]:=by kernel_rfl
theorem aHT:gR [kE.rb]=[.region 12 kE.CH false,.cond (.tmp 27) .skip (.exit 2),.block 3 kE.uU]:=by kernel_rfl
theorem aVW:gR [kE.uU]=[.region 13 kE.o13 false,.region 14 kE.o14 false]:=by kernel_rfl
def iO(K:aE)(on:Int)(keep:ai→Bool)(rows:List bE)(n:Nat):List (List ai):=(List.range n).map fun i=>mP K on keep ((rows[i]?).getD ⟨fun _ _=>false⟩) i
theorem OW{on:Int}{keep:ai→Bool}{rows:List bE}{r:bE}(h:rows[n]?=some r):iO K on keep rows (n+1)=iO K on keep rows n++[mP K on keep r n]:=by
 simp only[iO,List.range_succ,List.map_append,List.map_cons,List.map_nil,h,Option.getD_some]
theorem yL(K:aE)(on:Int)(keep:ai→Bool)(rows:List bE)(n:Nat):(iO K on keep rows n).length=n:=by simp[iO]
def cJ(K:aE)(on:Int)(keep:ai→Bool)(rows:List bE):List ai:=(iO K on keep rows rows.length).flatten
theorem lL(hV:eZ K)(on:Int)(keep:ai→Bool){rows:List bE}(hR:rows.length≤2):(cJ K on keep rows).length≤1250:=by
 have h1:∀r i,(mP K on keep r i).length≤625:=fun r i=>Nat.le_trans (List.length_filter_le _ _) (by rw[List.length_map];exact(gx hV on).1)
 have key:∀n,(iO K on keep rows n).flatten.length≤n*625:=by
  intro n
  induction n with
  |zero=>simp[iO]
  |succ n ih=>
   have:=h1 ((rows[n]?).getD ⟨fun _ _=>false⟩) n
   simp only[iO,List.range_succ,List.map_append,List.map_cons,List.map_nil,List.flatten_append,List.length_append,List.flatten_cons,List.flatten_nil,List.append_nil] at ih ⊢
   omega
 have:=key rows.length
 have h2:rows.length*625≤2*625:=Nat.mul_le_mul_right _ hR
 exact Nat.le_trans this h2
theorem abD{on:Int}{keep:ai→Bool}{rows:List bE}(hR:rows.length≤2):gJ (cJ K on keep rows):=by
 intro x hx
 obtain⟨l,hl,hx⟩:=List.mem_flatten.1 hx
 obtain⟨i,hi,rfl⟩:=List.mem_map.1 hl
 have hi:=List.mem_range.1 hi
 obtain⟨p,_,rfl⟩:=List.mem_map.1 (List.mem_filter.1 hx).1
 simp only[cu]
 omega
theorem aiG(a:List (List α))(o:List α)(b:List (List α))(zs:List α):((zs++o)++(a++b).flatten).Perm (zs++(a++o::b).flatten):=by
 simp only[List.flatten_append,List.flatten_cons,List.append_assoc]
 refine .append_left _ ?_
 rw[←List.append_assoc,←List.append_assoc]
 exact .append_right _ List.perm_append_comm
theorem aCB{rows:List bE}{on:Int}{keep:ai→Bool}{ro:Nat→Option Obj}{fr:Cells}(hV:eZ K)(hF:pM ro f K rows)(hR:rows.length≤2)(Hm:BZ zT g=true)
 (iE:∀i r,rows[i]?=some r→∀aK,Sub ro aK→∀p∈aN K on,dz zT g (fi++[.agg ⟨cy (cu K r i p)⟩]++ca) aK (.bool (keep (cu K r i p)))):
 Fn (C0 zT) zT 77 ⟨[pV f,.int .u8 on,.func (.func g) ⟨fi⟩ ⟨ca⟩]⟩ ⟨ro,fr⟩ (fun en s'=>∃v Y zs,en= .returned v∧s'=⟨ro,Y++fr⟩∧zs.Perm (cJ K on keep rows)∧az v 8 115 cy zs Y):=by
 rintro main T ⟨rfl,ig,cB,Post,rfl⟩ cl N6 kr _
 have hT:=sV zT ig cB Post
 obtain⟨c0,c1,c2,vc,vh,vr,vb,va,vf,vt,hv,hf,p7,oP,hr,C7,Hr,EZ,bW⟩:=id hF
 obtain⟨nW,EE,ED,nE,rfl,PI,MK,MJ⟩:=bW
 refine ar9 (fn:=(Tryz.prog.funcs[77]?).getD default) (c:=YM 77) (n:=35) (by kernel_rfl) (by kernel_rfl) (by kernel_rfl) (by rfl)<|qp hT f26 fun l1 Ee=>?_
 refine vM av hT<|jn fun b3=>jn fun b4=>jn fun b5=>zD 2<|x5<|qp hT Ee fun l2 rj=>?_
 show TT _ _ (.inRegion kE.o1 (0::[1,2])::_) _ _ _ _ _
 refine aAo hT (a:=kE.a1) (f:=fun q=> .chan (some q)) (ob:= .chan 0 #[] false 0 0 false) (by kernel_rfl) (by kernel_rfl) (fun e q=>by kernel_rfl) (by decide) rfl fun Ch=>?_
 refine vM av hT<|jn fun b7=>jd 2 [0]<|x5<|qp hT rj fun l3 Q6=>?_
 show TT _ _ (.inRegion kE.o2 (0::[])::_) _ _ _ _ _
 refine aAo hT (a:=kE.a2) (f:=fun q=> zP q) (ob:=wgBlock 194 0 0) (by kernel_rfl) (by kernel_rfl) (fun e q=>by kernel_rfl) (by decide) rfl fun Wg=>?_
 refine Wx hT<|ase (E:=nO Wg Ch ig cB) (Q:=Good zT Post) (tm:=false) 0 2 ((b7,.cells ⟨[.chan (some Ch)]⟩ 185 (0,0))::(b5,.cells ⟨[.func (.func g) ⟨fi⟩ ⟨ca⟩]⟩ 116 (0,0))::(b4,.cells ⟨[.int .u8 on]⟩ 120 (0,0))::(b3,.cells ⟨[pV f]⟩ 104 (0,0))::fr) hT (fun L aC hl eg U4=>?_)
 have h7:=hl.kn _ (.head _)
 have h5:=hl.kn _ (.tail _ (.head _))
 have h4:=hl.kn _ (.tail _ (.tail _ (.head _)))
 have h3:=hl.kn _ (.tail _ (.tail _ (.tail _ (.head _))))
 dsimp only at h7 h5 h4 h3
 have hM:∀pend os,Closed zT true (TM (nO Wg Ch ig cB) L (Good zT Post) pend false os 0):=fun pend os=>fD (E:=nO Wg Ch ig cB) false os (fun e=>(by cases e))
 have hC:∀os,Closed zT true (TM (nO Wg Ch ig cB) L (Good zT Post) 0 true os 0):=fun os=>fD (E:=nO Wg Ch ig cB) true os (fun _=>rfl)
 refine qp (hM 0 []) Q6 fun l4 Q5=>?_
 refine vM av (hM 0 [])<|jl (b:=b3) (off:=0) (m:=1) (vs:=[pV f]) 0 ⟨_,_,_,.inl h3,rfl⟩<|zD 2<|jl (b:=f) (off:=0) (m:=13) (vs:=[c0,c1,c2,vc,vh,vr,vb,va,zI K.gone,zI K.new,zI K.af,vf,.slice nW rows.length nE]) 12 ⟨_,_,_,.inl (hl.sub _ _ hf),rfl⟩<|zD 3<|x5<|Mu (hM 0 []) Q5 fun l5 Q4=>?_
 refine apo (hM 0 []) (rest:=[]) rfl fun l6 Ju=>?_
 have:=gG Ju
 subst this
 have loop:∀m i kK,m+i=rows.length→Sub aC kK→(∀kK rest,Sub aC kK→TT (TM (nO Wg Ch ig cB) L (Good zT Post) 0 false (iO K on keep rows rows.length) 0) (fr0 77 .normal) (l5.map .code++[]) (cl::N6) 35 [] kK (some ⟨.fin .normal,[(7,pV b7),(8,pV Wg)]++rest,[],⟨[],[]⟩⟩))→
  ∀rest,TT (TM (nO Wg Ch ig cB) L (Good zT Post) 0 false (iO K on keep rows i) 0) (fr0 77 .normal) ([kE.lb].map .code++(.inLoop kE.lb::(.inBlock 0::(l5.map .code++[])))) (cl::N6) 35 [] kK (some ⟨.fin .normal,[(3,pV b3),(4,pV b4),(5,pV b5),(7,pV b7),(8,pV Wg),(17,zI (rows.length:Int)),(18,zI (i:Int))]++rest,[],⟨[],[]⟩⟩):=by
  intro m
  induction m with
  |zero=>
   intro i kK hi hs qL rest
   refine qp (hM 0 _) aHU fun m1 hm1=>?_
   refine vM av (hM 0 _)<|zD 2<|x5<|Wy (hM 0 _) (t:=false) (q:=decide ((i:Int) <(rows.length:Int))) hm1 (by simp;omega) fun m2 Fy=>?_
   refine apr (hM 0 _) (k':=l5.map .code++[]) (by rw[qV];simp[exitTo]) ?_
   have:i=rows.length:=by omega
   subst this
   exact tSt (hM 0 _) [(7,pV b7),(8,pV Wg)] [] [] fun rest=>qL kK rest hs
  |succ m ih=>
   intro i kK hi hs qL rest
   obtain⟨r,C2⟩:∃r,rows[i]?=some r:=⟨_,List.getElem?_eq_getElem (by omega)⟩
   refine qp (hM 0 _) aHU fun m1 hm1=>?_
   refine vM av (hM 0 _)<|zD 2<|x5<|Wy (hM 0 _) (t:=true) (q:=decide ((i:Int) <(rows.length:Int))) hm1 (by simp;omega) fun m2 Fy=>?_
   refine apm (hM 0 _)<|Mu (hM 0 _) Fy fun m3 hm3=>?_
   refine qp (hM 0 _) aVX fun m4 hm4=>?_
   refine vM av (hM 0 _)<|zD 1<|jn fun b9=>jd 2 [0]<|x5<|qp (hM 0 _) hm4 fun m5 hm5=>?_
   show TT _ _ (.inRegion kE.o6 [0]::_) _ _ _ _ _
   refine aOz (E:=nO Wg Ch ig cB) (a:=kE.a6) (f:=104) (x:= .tmp 8) (ats:=ajL kE.a6) ?_ (by kernel_rfl) (by kernel_rfl) (by kernel_rfl) (lj (by kernel_rfl)) (by decide) rfl (by show _ <2;rw[yL];omega) (by show Ic zT 194 _ _=_;rw[yL];exact(at6 i (by omega) Wg).choose_spec) xD
   refine qp (hM 1 _) hm5 fun m6 hm6=>?_
   have:=gG hm6
   subst this
   show TT _ _ (.inRegion kE.o7 (0::[1])::_) _ _ _ _ _
   refine aAl (hM 1 _) (a:=eX kE.o7 0) (.func (.func 105) ⟨[]⟩ ⟨[pV Wg,pV b3,pV b4,pV b9,pV b5,pV b7]⟩) (by kernel_rfl) (by kernel_rfl) (by decide) rfl<|tGo (E:=nO Wg Ch ig cB) (mP K on keep r i) (a:=kE.a7) (f:=105) (y:= .tmp 22) (ca:=[pV Wg,pV b3,pV b4,pV b9,pV b5,pV b7]) (ats:=ajL kE.a7) [(b9,.cells ⟨[zI (i:Int)]⟩ 3 (0,0))] (by kernel_rfl) (by kernel_rfl) (by kernel_rfl) (by decide) rfl (fun yn IK X9=>⟨?_,?_⟩)
   ·have Ap:=Sub.trans hs IK
    have h03:=Sub.trans hl.sub Ap
    exact aCt hV (hF.up h03) C2 Hm (fun aK nF=>iE i r C2 aK (Sub.trans h03 nF)) (Ap _ _ h3) (Ap _ _ h4) (X9 _ (.head _)) (Ap _ _ h5) (Ap _ _ h7)
   rw[←OW C2]
   refine Wx (hM 0 _) (aps (hM 0 _) ?_)
   refine qp (hM 0 _) hm3 fun m7 hm7=>?_
   have:=gG hm7
   subst this
   refine vM av (hM 0 _)<|ja ((i:Int)+1) (by omega)<|zD 2<|x5<|ac7 (hM 0 _)<|tSt (hM 0 _) [(3,pV b3),(4,pV b4),(5,pV b5),(7,pV b7),(8,pV Wg),(17,zI (rows.length:Int)),(18,zI ((i+1:Nat):Int))] [] [] fun rest=>ih (i+1) yn (by omega) (Sub.trans hs IK) qL rest
 refine tSt (hM 0 _) [(3,pV b3),(4,pV b4),(5,pV b5),(7,pV b7),(8,pV Wg),(17,zI (rows.length:Int)),(18,zI (((0:Nat)):Int))] [] [] fun rest=>loop rows.length 0 aC (by omega) (Sub.refl _) (fun kK rest nJ=>?_) rest
 refine qp (hM 0 _) Q4 fun l7 Fz=>?_
 show TT _ _ (.inRegion kE.o9 (0::[1])::_) _ _ _ _ _
 refine aAl (hM 0 _) (a:=eX kE.o9 0) (.func (.func 107) ⟨[]⟩ ⟨[pV Wg,pV b7]⟩) (by kernel_rfl) (by kernel_rfl) (by decide) rfl<|asi (E:=nO Wg Ch ig cB) (a:=kE.a9) (f:=107) (y:= .tmp 24) (ca:=[pV Wg,pV b7]) (ats:=ajL kE.a9) [] (by kernel_rfl) (by kernel_rfl) (by kernel_rfl) (by decide) rfl (fun yn IK _=>?_)
 have Ap:=Sub.trans nJ IK
 refine⟨alk (E:=nO Wg Ch ig cB) (x:=kE.cl) aCC (amN Wg).choose_spec xD (q:=b7) (t:=185) (fz:=(0,0)) (a:=eX kE.cl.q1 0) (y:= .tmp 1) (U:=185) (Ap _ _ h7) (by kernel_rfl) (by kernel_rfl) (by kernel_rfl) (by kernel_rfl) (by kernel_rfl) (by kernel_rfl),?_⟩
 refine Wx (hC _)<|qp (hC _) Fz fun l8 hl8=>?_
 refine vM av (hC _)<|zD 2<|x5<|qp (hC _) hl8 fun l9 hl9=>?_
 refine vM av (hC _)<|jl (b:=b7) (off:=0) (m:=1) (vs:=[.chan (some Ch)]) 0 ⟨_,_,_,.inl (Ap _ _ h7),rfl⟩<|zD 1<|x5<|Mu (hC _) hl9 fun l10 avr=>?_
 refine apo (hC _) (rest:=[]) rfl fun l11 avq=>?_
 have:=gG avq
 subst this
 have hlen:=lL hV on keep hR
 have recv:∀m (os:List (List ai)) (v:Value) (L1:Cells) (zs:List ai),os.length=m→az v 8 115 cy zs L1→(zs++os.flatten).Perm (cJ K on keep rows)→∀rest,
  TT (TM (nO Wg Ch ig cB) L (Good zT Post) 0 true os 0) (fr0 77 .normal) ([kE.rb].map .code++(.inLoop kE.rb::(.inBlock 2::(l10.map .code++[])))) (cl::N6) 35 [] yn (some ⟨.fin .normal,[(10,v),(25,.chan (some Ch))]++rest,[.l L1],⟨[],[]⟩⟩):=by
  intro m
  induction m with
  |zero=>
   intro os v L1 zs tO ho hp rest
   have tO:=List.eq_nil_of_length_eq_zero tO
   subst tO
   refine qp (hC _) aHT fun m1 hm1=>?_
   show TT _ _ (.inRegion kE.CH (0::[1])::_) _ _ _ _ _
   refine apn (E:=nO Wg Ch ig cB) (a:=kE.Sv) (rc:= .tmp 25) (z:= zS) hl Ap U4 (by kernel_rfl) (by kernel_rfl) (fun ρ=>by kernel_rfl) (by decide) rfl (fun a' oo b' v' Y he _=>by simp at he) fun _=>?_
   refine vM av hT<|zD 2<|x5<|Wy hT (t:=false) (q:=false) hm1 rfl fun m2 Fy=>?_
   refine apr hT (k':=l10.map .code++[]) (by rw[qV];simp[exitTo]) ?_
   refine qp hT avr fun m3 hm3=>?_
   refine vM av hT<|zD 1 ?_
   have hp':zs.Perm (cJ K on keep rows):=by simpa using hp
   refine jc (vs:=[v,.func (.func 110) ⟨[]⟩ ⟨[]⟩]) [1] (Pz ho (by rw[hp'.length_eq];omega) ((abD hR).perm hp')) ?_
   rintro _ Y ⟨ys,hys,hoY⟩
   refine zD 1<|x5<|qp hT hm3 fun m4 hm4=>?_
   refine vM av hT<|zD 3<|x5<|apq hT hm4 fun m5 hm5=>?_
   refine aOv av hT (fn:=(Tryz.prog.funcs[77]?).getD default) v [] [0,1] (Y++((b7,.cells ⟨[.chan (some Ch)]⟩ 185 (0,0))::(b5,.cells ⟨[.func (.func g) ⟨fi⟩ ⟨ca⟩]⟩ 116 (0,0))::(b4,.cells ⟨[.int .u8 on]⟩ 120 (0,0))::(b3,.cells ⟨[pV f]⟩ 104 (0,0))::fr)) (by kernel_rfl)<|hT.mono _ ⟨ro,Y++fr⟩ _ (dZ (J:=[(b7,.cells ⟨[.chan (some Ch)]⟩ 185 (0,0)),(b5,.cells ⟨[.func (.func g) ⟨fi⟩ ⟨ca⟩]⟩ 116 (0,0)),(b4,.cells ⟨[.int .u8 on]⟩ 120 (0,0)),(b3,.cells ⟨[pV f]⟩ 104 (0,0))]) ?_ (Sub.refl _)) (kr v _ ⟨v,Y,ys,rfl,rfl,hys.trans hp',hoY⟩)
   rw[List.append_assoc]
   exact .append_left _ (List.perm_append_comm (l₁:=[_,_,_,_]))
  |succ m ih=>
   intro os v L1 zs tO ho hp rest
   refine qp (hC _) aHT fun m1 hm1=>?_
   show TT _ _ (.inRegion kE.CH (0::[1])::_) _ _ _ _ _
   refine apn (E:=nO Wg Ch ig cB) (a:=kE.Sv) (rc:= .tmp 25) (z:= zS) hl Ap U4 (by kernel_rfl) (by kernel_rfl) (fun ρ=>by kernel_rfl) (by decide) rfl (fun a' oo b' v' Y he oM=>?_) fun he=>by simp[he] at tO
   subst he
   have oM:az v' 8 115 cy oo Y:=oM
   refine vM av (hC _)<|zD 2<|x5<|Wy (hC _) (t:=true) (q:=true) hm1 rfl fun m2 Fy=>?_
   refine apm (hC _)<|Mu (hC _) Fy fun m3 hm3=>?_
   have:=gG hm3
   subst this
   refine qp (hC _) aVW fun m4 hm4=>?_
   refine vM av (hC _)<|zD 3<|x5<|qp (hC _) hm4 fun m5 hm5=>?_
   have:=gG hm5
   subst this
   refine vM av (hC _)<|zD 2 ?_
   have SV:((zs++oo)++(a'++b').flatten).Perm (cJ K on keep rows):=(aiG a' oo b' zs).trans hp
   have hlz:zs.length+oo.length≤1250:=by
    have:=SV.length_eq
    simp only[List.length_append] at this
    omega
   refine jT (sz:=8) (ps:=zs) (qs:=oo) (enc:=cy) (w:=v') [1] [0] Y ho (fun s _ hZ=>oM.sl hZ) (fun p _=>ar rfl) (by omega) fun v23 L23 zh=>zD 2<|x5<|aps (hC _) (ac7 (hC _) ?_)
   exact tSt (hC _) [(10,v23),(25,.chan (some Ch))] [.l L23] [0] fun rest=>ih (a'++b') v23 L23 (zs++oo) (by simp at tO ⊢;omega) zh SV rest
 refine tGe<|tSt (hC _) [(10,zS),(25,.chan (some Ch))] [.l []] [0] fun rest=>recv rows.length (iO K on keep rows rows.length) (zS) [] [] (yL _ _ _ _ _) (az.nil _ _ _) (by simp[cJ]) rest
theorem afr{rows:List bE}{on:Int}{keep:ai→Bool}{ro:Nat→Option Obj}(hV:eZ K)(hF:pM ro f K rows)(hR:rows.length≤2)(Hm:BZ zT g=true)
 (iE:∀i r,rows[i]?=some r→∀aK,Sub ro aK→∀p∈aN K on,dz zT g (fi++[.agg ⟨cy (cu K r i p)⟩]++ca) aK (.bool (keep (cu K r i p)))):
 B1 zT 77 [pV f,.int .u8 on,.func (.func g) ⟨fi⟩ ⟨ca⟩] ro [] (fun v Y=>∃zs,zs.Perm (cJ K on keep rows)∧az v 8 115 cy zs Y):=
 fun fr=>Fn.mono (aCB (fr:=fr) hV hF hR Hm iE) fun en s' ⟨v,Y,zs,h1,h2,h3,h4⟩=>⟨v,Y,h1,by rw[h2];exact St.le_refl _,zs,h3,h4⟩
theorem XI{rows:List bE}{on:Int}{ro:Nat→Option Obj}(hV:eZ K)(hF:pM ro f K rows)(hR:rows.length≤2):
 B1 zT 50 [pV f,.int .u8 on] ro [] (fun v Y=>∃zs,zs.Perm (cJ K on (bZ K.gone K.new K.af) rows)∧az v 8 115 cy zs Y):=by
 refine za av [] [] bh fun fr=>zD 10<|KZ (vs:=[pV f,.int .u8 on,.func (.func 91) ⟨[pV f]⟩ ⟨[]⟩]) [] (fun _ _ h=>h) (afr (keep:=bZ K.gone K.new K.af) hV hF hR (by kernel_rfl) fun i r hr aK hs p hp=>?_) ?_
 ·obtain⟨c0,c1,c2,vc,vh,vr,vb,va,vf,vt,hv,hf,_⟩:=hF.up hs
  exact afm hf
 rintro v Y ⟨zs,hz,ho⟩
 refine zD 3<|II qC v [0,1] Y (Sub.refl _) ⟨zs,hz,ho⟩
theorem axt{x:Int}(h:0≤x∧x≤4):iC x 0 4=true:=by simp only[iC,Bool.and_eq_true,decide_eq_true_eq];omega
theorem aeC:rS (bs [97]):=⟨by decide,.inl (by decide)⟩
def ajW(ro:Nat→Option Obj)(v:Value)(W:List (List Int)):Prop:=∃ws,bH ro v 1 gT ws∧dD (fun w l=>bH ro w 1 cq l) ws W
def q6(ro:Nat→Option Obj)(l:List Value)(W:List (List Int)):Prop:=∀aC,Sub ro aC→eV zT 118 [.agg ⟨l.take 3⟩] aC [] (fun r Y=>∃a n c,r= .tuple ⟨[.slice a n c,zI 0]⟩∧n=W.length∧∀kK,Knows kK Y→ajW kK (.slice a n c) W)
theorem at7{l:List Value}{W:List (List Int)}{ro:Nat→Option Obj}(hK:fU ro l K)(hO:ko K)(hV:eZ K)(hW:1≤W.length∧W.length≤4)(h76:q6 ro l W):eV zT 84 [.agg ⟨l⟩] ro [] (fun r Y=>∃a n c,r= .slice a n c∧n=W.length∧∀kK,Knows kK Y→ajW kK r W):=by
 have Yl:=hK
 obtain⟨vS,vT,vc,vh,vr,vb,va,vf,fa,fc,hv,rfl,hS,hT,p7,oP,hr,hb,ha,hf⟩:=hK
 obtain⟨jE,hs,fY⟩:=id hS
 obtain⟨j5,ht,fN⟩:=id hT
 obtain⟨hc,hh,Hy⟩:=id p7
 have vy:=hr
 have vo:=hb
 have ha0:=ha
 have hf0:=hf
 obtain⟨nA,W6,W0,mE,rfl,W5,PK,PJ⟩:=hs
 obtain⟨eG,AN,AK,dR,rfl,AM,s9,s8⟩:=ht
 obtain⟨dj,AP,AO,de,rfl,DW,yU,yT⟩:=hc
 obtain⟨cK,sr,sq,cA,rfl,tN,py,px⟩:=hh
 obtain⟨mH,MM,ML,mG,rfl,PM,Kl,Kk⟩:=hr
 obtain⟨pz,SL,SJ,oZ,rfl,SK,MQ,MP⟩:=hb
 obtain⟨pE,SO,SM,pd,rfl,SN,PO,PN⟩:=ha
 obtain⟨lV,Cs,Cr,kA,rfl,Fs,v9,vZ⟩:=hf
 have Ee:=hO.rules
 have rj:=hO.before.1
 have Q6:=hO.after.1
 have Q5:=hO.facts.1
 have Q4:=hO.ways.1
 have Ju:=fY.len
 have Fz:=fN.len
 have hl8:=hO.qx.two
 have hl9:=hO.dH.nh
 have SH:∀(i:Nat) (p:eW),([]:List eW)[i]?=some p→cF ⟨ro,[]⟩ 0 (0+i*6) 6 (oV p):=fun _ _ h=>pQ h
 have hgl:=hO.uu
 refine bG av [] [] bh<|zD 2<|jn fun b1=>jd 6 [0]<|jc (vs:=[.agg ⟨[.slice nA jE.length mE,.slice eG j5.length dR,.slice fa 0 fc]⟩]) [] (h76 _ (Sub.refl _)) ?_
 rintro _ Y10 ⟨a10,n10,c10,rfl,aSx,afW⟩
 refine zD 9<|jp (vs:=[zI 0]) [] [] (fun aC hs hZ=>A4)<|zD 10<|zJ 15 ((n10:Int)=0) (fun h1=>?_) fun h1=>?_
 ·
  exfalso;omega
 refine zD 8<|zJ 20 ((n10:Int)>4) (fun h2=>?_) fun h2=>?_
 ·
  exfalso;omega
 refine jd 6 [1]<|jp (vs:=[.agg ⟨[.slice dj K.cs.length de,.slice cK hv.length cA]⟩]) [] [] (fun aC hs hZ=>asl (p7.up hs) oP hV.dH)<|jp (vs:=[zI 0]) [] [] (fun aC hs hZ=>A4)<|jd 5 [1]<|jp (vs:=[.slice mH K.rules.length mG,.string (bs [97]),.string (bs [97])]) [] [] (fun aC hs hZ=>Ql (vy.up hs) hV.rules.2 hV.rules.1 aeC aeC)<|zD 8<|jp (vs:=[zI 0]) [] [] (fun aC hs hZ=>A4)<|jd 6 [1,1]<|jp (vs:=[.agg ⟨[.slice nA jE.length mE,.slice eG j5.length dR,.slice fa 0 fc,.slice dj K.cs.length de,.slice cK hv.length cA,.slice mH K.rules.length mG,.slice pz K.before.length oZ,.slice pE K.after.length pd,zI K.gone,zI K.new,zI K.af,.slice lV K.facts.length kA]⟩,.slice pz K.before.length oZ,.bool true]) [] [] (fun aC hs hZ=>afj (Yl.up hs) hO (vo.up hs))<|jp (vs:=[zI 0]) [] [] (fun aC hs hZ=>A4)<|jd 6 [1,1]<|jp (vs:=[.agg ⟨[.slice nA jE.length mE,.slice eG j5.length dR,.slice fa 0 fc,.slice dj K.cs.length de,.slice cK hv.length cA,.slice mH K.rules.length mG,.slice pz K.before.length oZ,.slice pE K.after.length pd,zI K.gone,zI K.new,zI K.af,.slice lV K.facts.length kA]⟩,.slice pE K.after.length pd,.bool false]) [] [] (fun aC hs hZ=>afk (Yl.up hs) hO (ha0.up hs))<|jp (vs:=[zI 0]) [] [] (fun aC hs hZ=>A4)<|jd 6 [1]<|jp (vs:=[zI K.gone,zI 0,zI 4]) [] [] (fun aC hs hZ=>eR)<|zD 2<|jj 5 [(1,zP b1),(2,zS),(3,.slice a10 n10 c10),(56,.bool ((!(iC K.gone 0 4))||(!(iC K.new 0 4))))] (fun ia=>?_) (fun hj=>?_)
 rotate_left
 refine js 51 (!(iC K.gone 0 4)) (fun h3=>?_) (fun h3=>?_)
 ·
  have wP:=h3
  try simp only[zB] at wP
  refine zD 5<|jw 56 (.bool ((!(iC K.gone 0 4))||(!(iC K.new 0 4)))) (w:= .bool true) (by rw[h3]<;>rfl) ?_
  exact hj _ (by kernel_rfl) (by kernel_rfl)
 ·
  have wP:=h3
  try simp only[zB] at wP
  refine jd 2 [1]<|jp (vs:=[zI K.new,zI 0,zI 4]) [] [] (fun aC hs hZ=>eR)<|zD 2<|jw 56 (.bool ((!(iC K.gone 0 4))||(!(iC K.new 0 4)))) (w:= .bool (!(iC K.new 0 4))) (by rw[h3]<;>rfl) ?_
  exact hj _ (by kernel_rfl) (by kernel_rfl)
 refine zD 1<|jj 5 [(1,zP b1),(2,zS),(3,.slice a10 n10 c10),(62,.bool (((!(iC K.gone 0 4))||(!(iC K.new 0 4)))||(!(iC K.af 0 4))))] (fun ia=>?_) (fun hj=>?_)
 rotate_left
 refine js 57 ((!(iC K.gone 0 4))||(!(iC K.new 0 4))) (fun h4=>?_) (fun h4=>?_)
 ·
  have yz:=h4
  try simp only[zB] at yz
  refine zD 5<|jw 62 (.bool (((!(iC K.gone 0 4))||(!(iC K.new 0 4)))||(!(iC K.af 0 4)))) (w:= .bool true) (by rw[h4]<;>rfl) ?_
  exact hj _ (by kernel_rfl) (by kernel_rfl)
 ·
  have yz:=h4
  try simp only[zB] at yz
  refine jd 2 [1]<|jp (vs:=[zI K.af,zI 0,zI 4]) [] [] (fun aC hs hZ=>eR)<|zD 2<|jw 62 (.bool (((!(iC K.gone 0 4))||(!(iC K.new 0 4)))||(!(iC K.af 0 4)))) (w:= .bool (!(iC K.af 0 4))) (by rw[h4]<;>rfl) ?_
  exact hj _ (by kernel_rfl) (by kernel_rfl)
 refine zD 1<|js 62 (((!(iC K.gone 0 4))||(!(iC K.new 0 4)))||(!(iC K.af 0 4))) (fun h5=>?_) (fun h5=>?_)
 ·
  try simp only[zB] at h5
  exfalso;simp[axt hgl.1,axt hgl.2.1,axt hgl.2.2] at h5
 try simp only[zB] at h5
 refine jd 10 [1]<|zJ 67 ((K.facts.length:Int)>4) (fun h6=>?_) fun h6=>?_
 ·
  exfalso;omega
 refine jd 11 [1]<|ek [1,1,1,1,1,1,1,1,1,1,1,0,1,0,0] [] (fun(zz:Nat)=>[(1,zP b1),(2,zS),(3,.slice a10 n10 c10),(70,.slice lV K.facts.length kA),(71,zI (K.facts.length:Int)),(72,zI (zz:Int))]) (fun(zz:Nat)=>[.b b1 (.cells ⟨[.slice nA jE.length mE,.slice eG j5.length dR,.slice fa 0 fc,.slice dj K.cs.length de,.slice cK hv.length cA,.slice mH K.rules.length mG,.slice pz K.before.length oZ,.slice pE K.after.length pd,zI K.gone,zI K.new,zI K.af,.slice lV K.facts.length kA]⟩ 40 (0,0)),.l Y10]) (fun(zz:Nat)=>zz≤K.facts.length) (fun(zz:Nat)=>K.facts.length-zz) 0 (by omega) [1,0] ?_
 rintro k hI K1 bM rest
 refine zD 5<|zJ 73 ((k:Int) <(K.facts.length:Int)) (fun h7=>?_) fun h7=>?_
 ·
  refine zD 7 ?_
  obtain⟨x75,Us⟩:=zG K.facts k
  refine iM kA 3 v9 Us<|jl 0 (vZ _ _ Us)<|jn fun b6=>jd 8 [0,1,1]<|jcH (hi:=(k:Int)) (show bH _ _ _ _ _ from ⟨lV,Cs,Cr,kA,rfl,Fs,v9,vZ⟩) (by omega) (fun v81 aRM=>?_)
  obtain⟨apC,aAX,aAT,apB,rfl,aAV,aAW,aAU⟩:=aRM
  refine jd 1 [0]<|jp (vs:=[.agg ⟨[.slice nA jE.length mE,.slice eG j5.length dR,.slice fa 0 fc,.slice dj K.cs.length de,.slice cK hv.length cA,.slice mH K.rules.length mG,.slice pz K.before.length oZ,.slice pE K.after.length pd,zI K.gone,zI K.new,zI K.af,.slice lV K.facts.length kA]⟩,.slice apC ((((K.facts).take (k:Int).toNat)).length) apB,.agg ⟨[zI x75.a,zI x75.b,.bool x75.same]⟩]) [] [] (fun aC hs hZ=>aCA (Yl.up hs) hO ((show bH _ _ _ _ _ from ⟨apC,aAX,aAT,apB,rfl,aAV,aAW,aAU⟩).up hs) (by simp only[List.length_take,List.length_drop];omega) (hO.facts.2 _ (List.mem_of_getElem? Us)) (aiN hO.apart Us)) ?_
  refine jp (vs:=[zI 0]) [] [] (fun aC hs hZ=>A4)<|zD 2<|ja ((k:Int)+1) (by omega)<|zD 2<|bA bM (k+1) (by omega) (by omega) [1,2] (Sub.refl _)
 refine zD 8<|aH q0 (.slice a10 n10 c10) [] [1] Y10 (Sub.refl _) ⟨_,_,rfl,rfl,_,_,_,rfl,aSx,afW⟩
def ir(ro:Nat→Option Obj)(l:List Value)(K:aE)(rows:List bE):Prop:=∀aC,Sub ro aC→eV zT 43 [.agg ⟨l⟩] aC [] (fun r Y=>∃f,r= .tuple ⟨[pV f,zI 0]⟩∧∀kK,Sub aC kK→Knows kK Y→pM kK f K rows)
def aR(K:aE):Int:=IntKind.u8.wrap (dJ .u8 1 (K.facts.length:Int)-1)
theorem QC{rows:List bE}{ro:Nat→Option Obj}(hV:eZ K)(hF:pM ro f K rows):dz zT 51 [pV f] ro (.int .u8 (aR K)):=by
 obtain⟨c0,c1,c2,vc,vh,vr,vb,va,vf,vt,hv,hf,p7,oP,hr,C7,Hr,EZ,bW⟩:=hF
 exact aQE EZ hf (by have:=hV.facts.1;omega)
theorem afe{l:List Value}{rows:List bE}{ro:Nat→Option Obj}(hK:fU ro l K)(hV:eZ K)(hR:rows.length≤2)(hB:ir ro l K rows):
 B1 zT 15 [.agg ⟨l⟩] ro [] (fun r Y=>r= .tuple ⟨[zI ((cJ K (aR K) (bZ K.gone K.new K.af) rows).length:Int),zI 0]⟩∧Y=[]):=by
 obtain⟨v0,v1,v3,v4,v5,v6,v7,vb,fa,fc,hv,rfl,_⟩:=hK
 refine za av [] [] bh fun fr=>zD 2<|jn fun b1=>jd 6 [0]<|jc (vs:=[Value.agg ⟨[v0,v1,.slice fa 0 fc,v3,v4,v5,v6,v7,zI K.gone,zI K.new,zI K.af,vb]⟩]) [] (hB _ (Sub.refl _)) ?_
 rintro _ Y ⟨f,rfl,hF⟩
 refine jf [0] Y (fun aC hs hk=>?_)
 have Db:=hF aC hs hk
 refine zD 18<|jp (vs:=[pV f]) [] [] (fun yn IK hZ=>QC hV (Db.up IK))<|KZ (vs:=[pV f,.int .u8 (aR K)]) [] (fun _ _ h=>h) (XI hV Db hR) ?_
 rintro v Y2 ⟨zs,hz,ho⟩
 obtain⟨a,c,rfl⟩:=ho.form
 refine zD 5<|II qC.a (.tuple ⟨[zI (zs.length:Int),zI 0]⟩) [2] [] hs ⟨by rw[hz.length_eq],rfl⟩
theorem eS{on:Int}{keep:ai→Bool}{rows:List bE}{x:ai}(h:x∈cJ K on keep rows):∃i r p,rows[i]?=some r∧p∈aN K on∧x=cu K r i p∧keep x=true:=by
 obtain⟨l,hl,hx⟩:=List.mem_flatten.1 h
 obtain⟨i,hi,rfl⟩:=List.mem_map.1 hl
 have hi:=List.mem_range.1 hi
 obtain⟨h1,h2⟩:=List.mem_filter.1 hx
 obtain⟨p,hp,rfl⟩:=List.mem_map.1 h1
 rw[List.getElem?_eq_getElem hi] at h2 ⊢
 exact⟨i,rows[i],p,List.getElem?_eq_getElem hi,hp,rfl,h2⟩
theorem Xr(r:bE)(p:Nat→Int):∀k,0≤wu r p k∧wu r p k≤k
 |0=>by simp[wu]
 |k+1=>by
  have:=Xr r p k
  simp only[wu]
  cases decide (p k>0)&& !r.c k (p k-1).toNat with
  |true=>simp only[cond_true];omega
  |false=>simp only[cond_false];omega
theorem kU(hV:eZ K)(r:bE)(i:Nat)(p:Nat→Int):(-4≤(cu K r i p).gone∧(cu K r i p).gone≤4)∧(-4≤(cu K r i p).new∧(cu K r i p).new≤4)∧(0≤(cu K r i p).af∧(cu K r i p).af≤4):=by
 have h1:=Xa p
 have h2:=Xr r p 4
 have h3:=hV.before.1
 have h4:=hV.after.1
 simp only[cu]
 omega
def F8(x:ai):Int:=x.gone+x.new+x.af
theorem at1{l:List Value}{rows:List bE}{ro:Nat→Option Obj}(hK:fU ro l K)(hV:eZ K)(hR:rows.length≤2)(hB:ir ro l K rows):B1 zT 36 [.agg ⟨l⟩] ro [] (fun r Y=>∃zs,zs.Perm (cJ K (aR K) (fun _=>true) rows)∧Y=[]∧((zs=[]∧r= .tuple ⟨[zI 0,zI 9]⟩)∨(zs≠[]∧r= .tuple ⟨[zI (vg (zs.map F8)),zI 0]⟩))):=by
 obtain⟨v0,v1,v3,v4,v5,v6,v7,vb,fa,fc,hv,rfl,_⟩:=hK
 refine za av [] [] bh fun fr=>zD 2<|jn fun b1=>jd 6 [0]<|jc (vs:=[.agg ⟨[v0,v1,.slice fa 0 fc,v3,v4,v5,v6,v7,zI K.gone,zI K.new,zI K.af,vb]⟩]) [] (hB _ (Sub.refl _)) ?_
 rintro _ Y12 ⟨f12,rfl,awL⟩
 refine zD 5<|jf [0] Y12 (fun yn bB iN=>?_)
 have Db:=awL _ bB iN
 refine zD 13<|jp (vs:=[zP f12]) [] [] (fun aC hs hZ=>QC hV (Db.up hs))<|KZ (vs:=[zP f12,.int .u8 (aR K),.func (.func 78) ⟨[]⟩ ⟨[]⟩]) [] (fun _ _ h=>h) (afr (keep:=fun _=>true) hV Db hR (by kernel_rfl) (fun i r hr aK hs p hp=>amH)) ?_
 rintro v21 Y21 ⟨zs,amZ,aDS⟩
 have Jr:∀x∈zs,(-4≤x.gone∧x.gone≤4)∧(-4≤x.new∧x.new≤4)∧(0≤x.af∧x.af≤4):=fun x hx=>by obtain⟨i,r,p,_,_,rfl,_⟩:=eS (amZ.mem_iff.1 hx);exact kU hV r i p
 have Up:zs.length≤1250:=by rw[amZ.length_eq];exact lL hV _ _ hR
 refine zD 6<|A5 aDS<|zD 1<|jf [0] Y21 (fun ro6 fA OF=>?_)
 have U1:=aDS.kJ OF
 obtain⟨mT,Cv,Ct,lX,rfl,Cu,yW,yV⟩:=U1
 refine zD 1<|zJ 24 ((zs.length:Int)=0) (fun h7=>?_) fun h7=>?_
 ·
  refine zD 7<|II qC.a.a (.tuple ⟨[zI 0,zI 9]⟩) [1] [] (bB.trans fA) ⟨zs,amZ,rfl,.inl ⟨List.eq_nil_of_length_eq_zero (by omega),rfl⟩⟩
 refine zD 14<|oL<|ek [1,1,1,1,1,1,0,1,0,0] [] (fun(zz:Nat×Value×Cells)=>[(2,zI 0),(3,zI 0),(7,zz.2.1),(25,.slice mT zs.length lX),(26,zI (zs.length:Int)),(27,zI (zz.1:Int))]) (fun(zz:Nat×Value×Cells)=>[.l zz.2.2,.b b1 (.cells ⟨[v0,v1,.slice fa 0 fc,v3,v4,v5,v6,v7,zI K.gone,zI K.new,zI K.af,vb]⟩ 40 (0,0)),.l fr]) (fun(zz:Nat×Value×Cells)=>zz.1≤zs.length∧az zz.2.1 1 3 cq ((zs.take zz.1).map F8) zz.2.2) (fun(zz:Nat×Value×Cells)=>zs.length-zz.1) (⟨0,zS,[]⟩) ⟨by dsimp only;omega,az.nil _ _ _⟩ [0,1,2] ?_
 rintro⟨k,vS,LS⟩ hI K1 bM rest
 dsimp only at hI
 refine zD 5<|zJ 28 ((k:Int) <(zs.length:Int)) (fun h8=>?_) fun h8=>?_
 ·
  refine zD 6 ?_
  obtain⟨Ez,ze⟩:=zG zs k
  refine iM lX 8 yW ze<|jl 0 (yV _ _ ze)<|jn fun b9=>jd 2 [0] ?_
  have hg:=Jr _ (List.mem_of_getElem? ze)
  refine jd 6 [0,0]<|ja (Ez.gone+Ez.new) (by omega)<|jd 2 [0]<|ja ((Ez.gone+Ez.new)+Ez.af) (by omega)<|jn fun dE=>jT (sz:=1) (ps:=((zs.take k).map F8)) (qs:=[((Ez.gone+Ez.new)+Ez.af)]) (enc:=cq) (w:= .slice (some ⟨dE,0,none⟩) 1 1) [2] [0] [(dE,.cells ⟨([((Ez.gone+Ez.new)+Ez.af)].map cq).flatten⟩ 3 (0,0))] (hI.2) (fun s _ hZ=>bN [((Ez.gone+Ez.new)+Ez.af)] (hZ _ (.head _)) (by intro p hp;rfl)) (fun p _=>ar rfl) (by simp only[List.length_map,List.length_take,List.length_cons,List.length_nil];omega) (fun v41 L41 agk=>?_)
  obtain⟨arQ,arG,avT⟩:=agk.form
  subst avT
  refine zD 3<|ja ((k:Int)+1) (by omega)<|zD 2<|bA bM (⟨k+1,(.slice arQ ((((zs.take k).map F8)++[((Ez.gone+Ez.new)+Ez.af)])).length arG),L41⟩) ⟨by dsimp only;omega,by rw[jL ze,List.map_append];exact agk⟩ (by dsimp only;omega) [0,3,4] (Sub.refl _)
 refine zD 5<|jp (vs:=[vS]) [0] LS (fun aC hs hZ=>apZ (hI.2.kJ hZ) ⟨by simp only[List.length_map,List.length_take];omega,by simp only[List.length_map,List.length_take];omega⟩) ?_
 refine zD 5<|II qC.a.a (.tuple ⟨[zI (vg ((zs.take k).map F8)),zI 0]⟩) [2] [] (bB.trans fA) ⟨zs,amZ,rfl,.inr ⟨fun e=>by subst e;simp at*,by rw[show k=zs.length by omega,List.take_length]⟩⟩
end Go.L
