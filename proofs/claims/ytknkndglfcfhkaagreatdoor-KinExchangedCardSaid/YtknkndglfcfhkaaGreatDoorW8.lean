/- Part 8 of the proof. -/
import Derived.Test.YtknkndglfcfhkaaGreatDoorW7
set_option maxRecDepth 100000
set_option linter.all false
namespace Go.L
open Go Go.Conc Go.Proofs
variable {ro:Nat→Option Obj} {K:aB} {p:Nat→Int} {f b k n past bE b1 b2 bl bf br bg bt bo b3 b4:Nat} {l:List bZ} {hd:List cd} {fi ca:List Value} {Stop:Cells→Prop} {x y:ah} {cs:List bP} {α:Type} {g:FuncId} {xs:List Int}
theorem Za{s:Int}{j:Int}(h:0≤j):agz s (j+1).toNat=bif hasB s j then j else agz s j.toNat:=by
 obtain⟨m,rfl⟩:=Int.eq_ofNat_of_zero_le h
 rfl
theorem Ys{on a b:Int}{x:bZ}(h:l[k]?=some x):yq on a b (l.drop k) k=((((hasB on k&&decide (x.a=a))&&decide (x.b=b))&& !x.same)||yq on a b (l.drop (k+1)) (k+1)):=by rw[eX h];rfl
theorem ae3{on a b:Int}(h:¬k <l.length):yq on a b (l.drop k) k=false:=by rw[eE h];rfl
theorem ZN{hv:List bB}{h:Int}{x:bB}(hS:dA dw hv hd)(hT:lM cs hd)(hk:mb hd h)(h0:0≤h)(hx:hv[h.toNat]?=some x):aam hd h=x.cls∧0≤x.cls∧x.cls <cs.length:=by
 obtain⟨y,hy,hs⟩:=hS.get hx
 rcases hk with rfl| ⟨_,z,hz,hc⟩
 ·omega
 rw[hy] at hz;cases hz
 have:=(hT.BI _ _ hy).2.1
 exact⟨by simp[aam,hy,hs.2.1],hs.2.1▸hc,by rw[hs.2.1];exact this.2⟩
theorem ZM{hv:List bB}{h:Int}(hS:dA dw hv hd)(hk:mb hd h)(h0:0≤h):h <hv.length:=by
 rcases hk with rfl| ⟨_,z,hz,_⟩
 ·omega
 have:=(List.getElem?_eq_some_iff.1 hz).1
 rw[hS.len];omega
theorem atV{vc vh:Value}{hv:List bB}{a b:Int}(hR:jA ro vc vh cs hv hd)(n6:dA dw hv hd)(hT:lM cs hd)(ha:0≤a∧a <cs.length)(hb:0≤b∧b <cs.length):dK zT 323 [.agg ⟨[vc,vh]⟩,zI a,zI b] ro (.tuple ⟨[zI (wK cs a b),zI 0]⟩):=by
 obtain⟨hc,hh,dq⟩:=id hR
 obtain⟨dc,AN,AM,cY,rfl,CN,yH,yG⟩:=hc
 obtain⟨cF,rH,rG,cy,rfl,tv,pw,pn⟩:=hh
 have EA:=hT.nc
 have hnh:=hT.nh
 have hlen:=n6.len
 have MI:=pe cs cs.length
 refine zE<|zD 2<|jn fun b3=>jd 6 [0]<|jc (vs:=[.agg ⟨[.slice dc cs.length cY,.slice cF hv.length cy]⟩]) [] (at4 hR n6 hT) ?_
 rintro _ _ ⟨bT,vS,LS,vE,rfl,hS,rfl⟩
 refine jg 0 [.b bT (.cells ⟨[.slice dc cs.length cY,.slice cF hv.length cy,vS,vE]⟩ 418 (0,0)),.l LS]<|zD 5<|jf [0,1] ((bT,.cells ⟨[.slice dc cs.length cY,.slice cF hv.length cy,vS,vE]⟩ 418 (0,0))::LS) (fun zo bH iQ=>?_)
 have hSS:=hS.jL iQ.tail
 obtain⟨aDA,aY1,aYZ,ank,rfl,aY0,aDz,aDy⟩:=hSS
 refine jd 17 [0]<|ja ((cs.length:Int)-1) (by omega)<|jp (vs:=[zI a,zI 0,zI ((cs.length:Int)-1)]) [] [] (fun aH hs hZ=>jv)<|zD 3<|js 20 (!(iL a 0 ((cs.length:Int)-1))) (fun h4=>?_) (fun h4=>?_)
 ·
  try simp only[zB] at h4
  exfalso;simp only[iL,Bool.not_eq_true',Bool.and_eq_false_iff,decide_eq_false_iff_not] at h4;omega
 try simp only[zB] at h4
 refine jd 6 [0]<|ja ((cs.length:Int)-1) (by omega)<|jp (vs:=[zI b,zI 0,zI ((cs.length:Int)-1)]) [] [] (fun aH hs hZ=>jv)<|zD 3<|js 20 (!(iL b 0 ((cs.length:Int)-1))) (fun h5=>?_) (fun h5=>?_)
 ·
  try simp only[zB] at h5
  exfalso;simp only[iL,Bool.not_eq_true',Bool.and_eq_false_iff,decide_eq_false_iff_not] at h5;omega
 try simp only[zB] at h5
 refine jd 8 [0]<|ja ((cs.length:Int)-1) (by omega)<|zD 3<|dV [1,1,1,0,1,0,0] [] (fun(zz:Int)=>[(1,zI a),(2,zI b),(8,zP bT),(10,zI zz)]) (fun zz=>[.b b3 (.cells ⟨[.slice dc cs.length cY,.slice cF hv.length cy]⟩ 35 (0,0))]) (fun zz=>(-1≤zz∧zz <cs.length)∧wK cs a b=agz (Kj .u8 ((m9 cs cs.length)[a.toNat]?.getD 0) ((m9 cs cs.length)[b.toNat]?.getD 0)) (zz+1).toNat) (fun zz=>(zz+1).toNat) ((cs.length:Int)-1) ⟨by omega,by rw[wK,show ((cs.length:Int)-1+1).toNat=cs.length by omega]⟩ [0] ?_
 rintro j hI K1 bO rest
 refine zD 6<|zJ 40 (j≥0) (fun h6=>?_) fun h6=>?_
 ·
  refine zD 9<|jl (b:=bT) (off:=0) (m:=4) (vs:=[.slice dc cs.length cY,.slice cF hv.length cy,.slice aDA ((m9 cs cs.length).length) ank,vE]) 2 ⟨_,_,_,.inl (iQ _ (.head _)),rfl⟩<|zD 1 ?_
  obtain⟨x48,HJ⟩:=zG ((m9 cs cs.length)) (a.toNat) (by simp only[pe];omega)
  refine P6 a ank 1 aDz HJ (Int.toNat_of_nonneg (show 0≤a∧a <(((m9 cs cs.length)).length:Int) from (by simp only[pe];omega)).1).symm ?_
  refine jl 0 (aDy _ _ HJ)<|zD 3<|jl (b:=bT) (off:=0) (m:=4) (vs:=[.slice dc cs.length cY,.slice cF hv.length cy,.slice aDA ((m9 cs cs.length).length) ank,vE]) 2 ⟨_,_,_,.inl (iQ _ (.head _)),rfl⟩<|zD 1 ?_
  obtain⟨x55,Sk⟩:=zG ((m9 cs cs.length)) (b.toNat)
  refine P6 b ank 1 aDz Sk (by omega)<|jl 0 (aDy _ _ Sk)<|zD 2<|jp (vs:=[.int .u8 (Kj .u8 x48 x55),zI j]) [] [] (fun aH hs hZ=>(aMr (by omega)))<|zD 1<|js 59 (hasB (Kj .u8 x48 x55) j) (fun h7=>?_) (fun h7=>?_)
  ·
   refine zD 8<|aO q0.a (.tuple ⟨[zI j,zI 0]⟩) [] [] [] bH ⟨_,_,rfl,rfl,by rw[hI.2,Za (by omega),HJ,Sk,Option.getD_some,Option.getD_some,show hasB _ _=true from (by assumption)];rfl,rfl⟩
  refine zD 4<|ja (j-1) (by omega)<|zD 2<|bA bO (j-1) ⟨by omega,by rw[hI.2,Za (by omega),HJ,Sk,Option.getD_some,Option.getD_some,show hasB _ _=false from (by assumption),show j-1+1=j by omega];rfl⟩ (by omega) [0] (Sub.refl _)
 refine zD 8<|aO q0.a (.tuple ⟨[zI (-1),zI 0]⟩) [] [] [] bH ⟨_,_,rfl,rfl,by rw[hI.2,show j= -1 by omega];rfl,rfl⟩
theorem arB:dK zT 44 [] ro (.agg ⟨[.iface 166 (.agg ⟨[]⟩),.iface 167 (.agg ⟨[]⟩),.iface 168 (.agg ⟨[]⟩)]⟩):=by
 refine zE<|zD 2<|jn fun b0=>jd 13 [0]<|zR (.agg ⟨[.iface 166 (.agg ⟨[]⟩),.iface 167 (.agg ⟨[]⟩),.iface 168 (.agg ⟨[]⟩)]⟩) [0] [] [] ⟨rfl,rfl⟩
theorem agV{rows:List bI}{a:Nat}{on:Int}(hF:pO ro f K rows)(hV:eR K)(ha:K.before[a]?=some x) (hb:K.after[b]?=some y):dK zT 319 [.agg ⟨[]⟩,zP f,zI (a:Int),zI (b:Int),.int .u8 on] ro (.bool (jz K x y)):=by
 obtain⟨c0,c1,c2,vc,vh,vr,vb,va,vf,vt,hv,hf,px,n6,hr,Fq,Kw,MK,bW⟩:=id hF
 obtain⟨hc,hh,dq⟩:=id px
 obtain⟨dc,AN,AM,cY,rfl,CN,yH,yG⟩:=hc
 obtain⟨cF,rH,rG,cy,rfl,tv,pw,pn⟩:=hh
 obtain⟨kY,JD,JC,kX,rfl,P3,GY,GX⟩:=hr
 obtain⟨lQ,N1,NZ,kZ,rfl,N0,G0,GZ⟩:=Fq
 obtain⟨lR,N6,N4,k7,rfl,N5,G2,G1⟩:=Kw
 obtain⟨mC,U8,U6,lu,rfl,U7,NY,NX⟩:=MK
 obtain⟨nS,E3,E1,nu,rfl,Ra,NT,NS⟩:=bW
 have T7:=hV.rules.1
 have Dh:=hV.before.1
 have FW:=hV.after.1
 have hnf:=hV.facts.1
 have MQ:=(List.getElem?_eq_some_iff.1 ha).1
 have Fp:=(List.getElem?_eq_some_iff.1 hb).1
 refine zE<|zD 2<|jn fun b5=>zD 8<|jl (b:=f) (off:=0) (m:=13) (vs:=[c0,c1,c2,.slice dc K.cs.length cY,.slice cF hv.length cy,.slice kY K.rules.length kX,.slice lQ K.before.length kZ,.slice lR K.after.length k7,zI K.gone,zI K.new,zI K.af,.slice mC K.facts.length lu,.slice nS rows.length nu]) 5 ⟨_,_,_,.inl hf,rfl⟩<|zD 4<|jl (b:=f) (off:=0) (m:=13) (vs:=[c0,c1,c2,.slice dc K.cs.length cY,.slice cF hv.length cy,.slice kY K.rules.length kX,.slice lQ K.before.length kZ,.slice lR K.after.length k7,zI K.gone,zI K.new,zI K.af,.slice mC K.facts.length lu,.slice nS rows.length nu]) 6 ⟨_,_,_,.inl hf,rfl⟩<|zD 1 ?_
 obtain⟨y5,lB⟩:=zG K.before a
 refine iz kZ 5 G0 lB<|zD 1<|jl 0 (GZ _ _ lB)<|zD 4<|jl (b:=f) (off:=0) (m:=13) (vs:=[c0,c1,c2,.slice dc K.cs.length cY,.slice cF hv.length cy,.slice kY K.rules.length kX,.slice lQ K.before.length kZ,.slice lR K.after.length k7,zI K.gone,zI K.new,zI K.af,.slice mC K.facts.length lu,.slice nS rows.length nu]) 7 ⟨_,_,_,.inl hf,rfl⟩<|zD 1 ?_
 obtain⟨x34,OM⟩:=zG K.after b
 refine iz k7 5 G2 OM<|zD 1<|jl 0 (G1 _ _ OM)<|jp (vs:=[.slice kY K.rules.length kX,.string y5.name,.string x34.name]) [] [] (fun aH hs hZ=>RL ((show bD _ _ _ _ _ from ⟨kY,JD,JC,kX,rfl,P3,GY,GX⟩).up hs) hV.rules.2 T7 (hV.before.2 _ (zL lB)).1 (hV.after.2 _ (zL OM)).1)<|zD 9<|jp (vs:=[zI 0]) [] [] (fun aH hs hZ=>Bu)<|zD 8<|zX (.bool (decide ((qt K.rules y5.name x34.name)=2))) ⟨by rw[ha] at lB;cases lB;rw[hb] at OM;cases OM;rfl,rfl⟩
theorem Sb{rows:List bI}{a:Nat}{on:Int}(hF:pO ro f K rows)(hV:eR K)(ha:K.before[a]?=some x) (hb:K.after[b]?=some y):dK zT 321 [.agg ⟨[]⟩,zP f,zI (a:Int),zI (b:Int),.int .u8 on] ro (.bool (kG K x y)):=by
 obtain⟨c0,c1,c2,vc,vh,vr,vb,va,vf,vt,hv,hf,px,n6,hr,Fq,Kw,MK,bW⟩:=id hF
 obtain⟨hc,hh,dq⟩:=id px
 obtain⟨dc,AN,AM,cY,rfl,CN,yH,yG⟩:=hc
 obtain⟨cF,rH,rG,cy,rfl,tv,pw,pn⟩:=hh
 obtain⟨kY,JD,JC,kX,rfl,P3,GY,GX⟩:=hr
 obtain⟨lQ,N1,NZ,kZ,rfl,N0,G0,GZ⟩:=Fq
 obtain⟨lR,N6,N4,k7,rfl,N5,G2,G1⟩:=Kw
 obtain⟨mC,U8,U6,lu,rfl,U7,NY,NX⟩:=MK
 obtain⟨nS,E3,E1,nu,rfl,Ra,NT,NS⟩:=bW
 have T7:=hV.rules.1
 have Dh:=hV.before.1
 have FW:=hV.after.1
 have hnf:=hV.facts.1
 have MQ:=(List.getElem?_eq_some_iff.1 ha).1
 have Fp:=(List.getElem?_eq_some_iff.1 hb).1
 refine zE<|zD 2<|jn fun b5=>zD 8<|jl (b:=f) (off:=0) (m:=13) (vs:=[c0,c1,c2,.slice dc K.cs.length cY,.slice cF hv.length cy,.slice kY K.rules.length kX,.slice lQ K.before.length kZ,.slice lR K.after.length k7,zI K.gone,zI K.new,zI K.af,.slice mC K.facts.length lu,.slice nS rows.length nu]) 6 ⟨_,_,_,.inl hf,rfl⟩<|zD 1 ?_
 obtain⟨y6,qI⟩:=zG K.before a
 refine iz kZ 5 G0 qI<|zD 1<|jl 3 (GZ _ _ qI)<|zD 4<|jl (b:=f) (off:=0) (m:=13) (vs:=[c0,c1,c2,.slice dc K.cs.length cY,.slice cF hv.length cy,.slice kY K.rules.length kX,.slice lQ K.before.length kZ,.slice lR K.after.length k7,zI K.gone,zI K.new,zI K.af,.slice mC K.facts.length lu,.slice nS rows.length nu]) 7 ⟨_,_,_,.inl hf,rfl⟩<|zD 1 ?_
 obtain⟨oI,jk⟩:=zG K.after b
 refine iz k7 5 G2 jk<|zD 1<|jl 3 (G1 _ _ jk)<|zD 9<|jj 3 [(1,zP f),(10,.bool false),(11,zI y6.head),(12,zI oI.head),(38,.bool ((decide (y6.head <0))||(decide (oI.head <0))))] (fun gp=>?_) (fun hj=>?_)
 rotate_left
 refine js 35 (decide (y6.head <0)) (fun h1=>?_) (fun h1=>?_)
 ·
  have gh:=h1
  replace gh:=of_decide_eq_true gh
  refine zD 3<|jw 38 (.bool ((decide (y6.head <0))||(decide (oI.head <0)))) (w:= .bool true) (by rw[h1]<;>rfl) ?_
  exact zK hj
 ·
  have gh:=h1
  replace gh:=of_decide_eq_false gh
  refine zD 3<|jw 38 (.bool ((decide (y6.head <0))||(decide (oI.head <0)))) (w:= .bool (decide (oI.head <0))) (by rw[h1]<;>rfl) ?_
  exact zK hj
 refine zD 1<|jj 4 [(1,zP f),(10,.bool false),(11,zI y6.head),(12,zI oI.head),(43,.bool (((decide (y6.head <0))||(decide (oI.head <0)))||(decide (y6.head=oI.head))))] (fun gp=>?_) (fun hj=>?_)
 rotate_left
 refine js 39 ((decide (y6.head <0))||(decide (oI.head <0))) (fun h2=>?_) (fun h2=>?_)
 ·
  have mI:=h2
  try simp only[zB] at mI
  refine zD 4<|jw 43 (.bool (((decide (y6.head <0))||(decide (oI.head <0)))||(decide (y6.head=oI.head)))) (w:= .bool true) (by rw[h2]<;>rfl) ?_
  exact zK hj
 ·
  have mI:=h2
  try simp only[zB] at mI
  refine zD 4<|jw 43 (.bool (((decide (y6.head <0))||(decide (oI.head <0)))||(decide (y6.head=oI.head)))) (w:= .bool (decide (y6.head=oI.head))) (by rw[h2]<;>rfl) ?_
  exact zK hj
 refine zD 1<|js 43 (((decide (y6.head <0))||(decide (oI.head <0)))||(decide (y6.head=oI.head))) (fun h3=>?_) (fun h3=>?_)
 ·
  try simp only[zB] at h3
  refine zD 6<|zX (.bool false) ⟨by rw[ha] at qI;cases qI;rw[hb] at jk;cases jk;rw[kG,if_pos (by omega)],rfl⟩
 try simp only[zB] at h3
 refine zD 8<|jl (b:=f) (off:=0) (m:=13) (vs:=[c0,c1,c2,.slice dc K.cs.length cY,.slice cF hv.length cy,.slice kY K.rules.length kX,.slice lQ K.before.length kZ,.slice lR K.after.length k7,zI K.gone,zI K.new,zI K.af,.slice mC K.facts.length lu,.slice nS rows.length nu]) 3 ⟨_,_,_,.inl hf,rfl⟩<|zD 5<|jl (b:=f) (off:=0) (m:=13) (vs:=[c0,c1,c2,.slice dc K.cs.length cY,.slice cF hv.length cy,.slice kY K.rules.length kX,.slice lQ K.before.length kZ,.slice lR K.after.length k7,zI K.gone,zI K.new,zI K.af,.slice mC K.facts.length lu,.slice nS rows.length nu]) 4 ⟨_,_,_,.inl hf,rfl⟩<|zD 1 ?_
 obtain⟨x57,Fa⟩:=zG hv (y6.head.toNat) (by have:=ZM n6 (hV.before.2 _ (zL qI)).2 (by omega);omega)
 refine P6 y6.head cy 4 pw Fa (Int.toNat_of_nonneg (show 0≤y6.head∧y6.head <((hv).length:Int) from (by have:=ZM n6 (hV.before.2 _ (zL qI)).2 (by omega);omega)).1).symm ?_
 refine zD 1<|jl 1 (pn _ _ Fa)<|zD 5<|jl (b:=f) (off:=0) (m:=13) (vs:=[c0,c1,c2,.slice dc K.cs.length cY,.slice cF hv.length cy,.slice kY K.rules.length kX,.slice lQ K.before.length kZ,.slice lR K.after.length k7,zI K.gone,zI K.new,zI K.af,.slice mC K.facts.length lu,.slice nS rows.length nu]) 4 ⟨_,_,_,.inl hf,rfl⟩<|zD 1 ?_
 obtain⟨x67,aoA⟩:=zG hv (oI.head.toNat) (by have:=ZM n6 (hV.after.2 _ (zL jk)).2 (by omega);omega)
 refine P6 oI.head cy 4 pw aoA (Int.toNat_of_nonneg (show 0≤oI.head∧oI.head <((hv).length:Int) from (by have:=ZM n6 (hV.after.2 _ (zL jk)).2 (by omega);omega)).1).symm ?_
 refine zD 1<|jl 1 (pn _ _ aoA)<|jp (vs:=[.agg ⟨[.slice dc K.cs.length cY,.slice cF hv.length cy]⟩,zI x57.cls,zI x67.cls]) [] [] (fun aH hs hZ=>atV (px.up hs) n6 hV.di (ZN n6 hV.di (hV.before.2 _ (zL qI)).2 (by omega) Fa).2 (ZN n6 hV.di (hV.after.2 _ (zL jk)).2 (by omega) aoA).2)<|zD 9<|jp (vs:=[zI 0]) [] [] (fun aH hs hZ=>Bu)<|zD 8<|zX (.bool (decide ((wK K.cs x57.cls x67.cls) <0))) ⟨by rw[ha] at qI;cases qI;rw[hb] at jk;cases jk;rw[kG,if_neg (by omega),(ZN n6 hV.di (hV.before.2 _ (zL ha)).2 (by omega) Fa).1,(ZN n6 hV.di (hV.after.2 _ (zL hb)).2 (by omega) aoA).1],rfl⟩
theorem Zo{rows:List bI}{a:Nat}{on:Int}(hF:pO ro f K rows)(hV:eR K):dK zT 327 [.agg ⟨[]⟩,zP f,zI (a:Int),zI (b:Int),.int .u8 on] ro (.bool (yq on a b K.facts 0)):=by
 obtain⟨c0,c1,c2,vc,vh,vr,vb,va,vf,vt,hv,hf,px,n6,hr,Fq,Kw,MK,bW⟩:=id hF
 obtain⟨hc,hh,dq⟩:=id px
 obtain⟨dc,AN,AM,cY,rfl,CN,yH,yG⟩:=hc
 obtain⟨cF,rH,rG,cy,rfl,tv,pw,pn⟩:=hh
 obtain⟨kY,JD,JC,kX,rfl,P3,GY,GX⟩:=hr
 obtain⟨lQ,N1,NZ,kZ,rfl,N0,G0,GZ⟩:=Fq
 obtain⟨lR,N6,N4,k7,rfl,N5,G2,G1⟩:=Kw
 obtain⟨mC,U8,U6,lu,rfl,U7,NY,NX⟩:=MK
 obtain⟨nS,E3,E1,nu,rfl,Ra,NT,NS⟩:=bW
 have T7:=hV.rules.1
 have Dh:=hV.before.1
 have FW:=hV.after.1
 have hnf:=hV.facts.1
 refine zE<|zD 2<|jn fun b5=>zD 9<|jl (b:=f) (off:=0) (m:=13) (vs:=[c0,c1,c2,.slice dc K.cs.length cY,.slice cF hv.length cy,.slice kY K.rules.length kX,.slice lQ K.before.length kZ,.slice lR K.after.length k7,zI K.gone,zI K.new,zI K.af,.slice mC K.facts.length lu,.slice nS rows.length nu]) 11 ⟨_,_,_,.inl hf,rfl⟩<|zD 4<|dV [1,0,1,0,0] [] (fun(zz:Nat)=>[(2,zI (a:Int)),(3,zI (b:Int)),(4,.int .u8 on),(17,.slice mC K.facts.length lu),(18,zI (K.facts.length:Int)),(19,zI (zz:Int))]) (fun zz=>[]) (fun zz=>zz≤K.facts.length∧yq on a b K.facts 0=yq on a b (K.facts.drop zz) zz) (fun zz=>K.facts.length-zz) 0 ⟨by omega,rfl⟩ [] ?_
 rintro k hI K1 bO rest
 refine zD 5<|zJ 20 ((k:Int) <(K.facts.length:Int)) (fun h1=>?_) fun h1=>?_
 ·
  refine zD 7 ?_
  obtain⟨sU,uF⟩:=zG K.facts k
  refine iz lu 3 NY uF<|jl 0 (NX _ _ uF)<|jn fun qn=>jd 7 [0]<|jp (vs:=[.int .u8 on,zI (k:Int)]) [] [] (fun aH hs hZ=>(avN (by omega)))<|zD 1<|jj 5 [(2,zI (a:Int)),(3,zI (b:Int)),(4,.int .u8 on),(12,zP qn),(17,.slice mC K.facts.length lu),(18,zI (K.facts.length:Int)),(19,zI (k:Int)),(32,.bool ((hasB on (k:Int))&&(decide (sU.a=(a:Int)))))] (fun gp=>?_) (fun hj=>?_)
  rotate_left
  refine js 27 (hasB on (k:Int)) (fun h2=>?_) (fun h2=>?_)
  ·
   refine jd 5 [0]<|jw 32 (.bool ((hasB on (k:Int))&&(decide (sU.a=(a:Int))))) (w:= .bool (decide (sU.a=(a:Int)))) (by rw[h2]<;>rfl) ?_
   exact zK hj
  ·
   refine zD 5<|jw 32 (.bool ((hasB on (k:Int))&&(decide (sU.a=(a:Int))))) (w:= .bool false) (by rw[h2]<;>rfl) ?_
   exact zK hj
  refine zD 1<|jj 5 [(2,zI (a:Int)),(3,zI (b:Int)),(4,.int .u8 on),(12,zP qn),(17,.slice mC K.facts.length lu),(18,zI (K.facts.length:Int)),(19,zI (k:Int)),(38,.bool (((hasB on (k:Int))&&(decide (sU.a=(a:Int))))&&(decide (sU.b=(b:Int)))))] (fun gp=>?_) (fun hj=>?_)
  rotate_left
  refine js 33 ((hasB on (k:Int))&&(decide (sU.a=(a:Int)))) (fun h3=>?_) (fun h3=>?_)
  ·
   have xd:=h3
   try simp only[zB] at xd
   refine jd 5 [0]<|jw 38 (.bool (((hasB on (k:Int))&&(decide (sU.a=(a:Int))))&&(decide (sU.b=(b:Int))))) (w:= .bool (decide (sU.b=(b:Int)))) (by rw[h3]<;>rfl) ?_
   exact zK hj
  ·
   have xd:=h3
   try simp only[zB] at xd
   refine zD 5<|jw 38 (.bool (((hasB on (k:Int))&&(decide (sU.a=(a:Int))))&&(decide (sU.b=(b:Int))))) (w:= .bool false) (by rw[h3]<;>rfl) ?_
   exact zK hj
  refine zD 1<|jj 4 [(2,zI (a:Int)),(3,zI (b:Int)),(4,.int .u8 on),(17,.slice mC K.facts.length lu),(18,zI (K.facts.length:Int)),(19,zI (k:Int)),(43,.bool ((((hasB on (k:Int))&&(decide (sU.a=(a:Int))))&&(decide (sU.b=(b:Int))))&&(!sU.same)))] (fun gp=>?_) (fun hj=>?_)
  rotate_left
  refine js 39 (((hasB on (k:Int))&&(decide (sU.a=(a:Int))))&&(decide (sU.b=(b:Int)))) (fun h4=>?_) (fun h4=>?_)
  ·
   have yP:=h4
   try simp only[zB] at yP
   refine jd 4 [0]<|jw 43 (.bool ((((hasB on (k:Int))&&(decide (sU.a=(a:Int))))&&(decide (sU.b=(b:Int))))&&(!sU.same))) (w:= .bool (!sU.same)) (by rw[h4]<;>rfl) ?_
   exact zK hj
  ·
   have yP:=h4
   try simp only[zB] at yP
   refine zD 4<|jw 43 (.bool ((((hasB on (k:Int))&&(decide (sU.a=(a:Int))))&&(decide (sU.b=(b:Int))))&&(!sU.same))) (w:= .bool false) (by rw[h4]<;>rfl) ?_
   exact zK hj
  refine zD 1<|js 43 ((((hasB on (k:Int))&&(decide (sU.a=(a:Int))))&&(decide (sU.b=(b:Int))))&&(!sU.same)) (fun h5=>?_) (fun h5=>?_)
  ·
   refine zD 6<|zX (.bool true) ⟨by rw[hI.2,Ys uF,show (((hasB on k&&decide (sU.a=a))&&decide (sU.b=b))&& !sU.same)=true from (by assumption)];rfl,rfl⟩
  refine zD 3<|ja ((k:Int)+1) (by omega)<|zD 2<|bA bO (k+1) ⟨by omega,by rw[hI.2,Ys uF,show (((hasB on k&&decide (sU.a=a))&&decide (sU.b=b))&& !sU.same)=false from (by assumption)];rfl⟩ (by omega) [] (Sub.refl _)
 refine zD 7<|zX (.bool false) ⟨by rw[hI.2,ae3 (by omega)],rfl⟩
theorem aEK{rows:List bI}{a:Nat}{on:Int}(hF:pO ro f K rows)(hV:eR K)(ha:K.before[a]?=some x) (hb:K.after[b]?=some y):dK zT 115 [zP f,zI (a:Int),zI (b:Int),.int .u8 on] ro (.bool (dv K on a b)):=by
 refine zE<|zD 7<|jp [] [] (fun aH hs hZ=>arB)<|zD 3<|dV [1,0,1,0,0] [] (fun(zz:Nat)=>[(0,zP f),(1,zI (a:Int)),(2,zI (b:Int)),(3,.int .u8 on),(11,.agg ⟨[.iface 166 (.agg ⟨[]⟩),.iface 167 (.agg ⟨[]⟩),.iface 168 (.agg ⟨[]⟩)]⟩),(12,zI (zz:Int))]) (fun zz=>[]) (fun zz=>zz≤3∧(1≤zz→jz K x y=false)∧(2≤zz→kG K x y=false)∧(3≤zz→yq on a b K.facts 0=false)) (fun zz=>3-zz) 0 ⟨by omega,nofun,nofun,nofun⟩ [] ?_
 rintro k hI K1 bO rest
 refine zD 5<|zJ 13 ((k:Int) <3) (fun h1=>?_) fun h1=>?_
 ·
  refine zD 6 ?_
  obtain rfl|rfl|rfl:k=0∨k=1∨k=2:=by omega
  ·
   refine zD 10<|jpI (vs:=[.agg ⟨[]⟩,zP f,zI (a:Int),zI (b:Int),.int .u8 on]) (fun aH hs=>agV (hF.up hs) hV ha hb)<|zD 1<|js 20 (jz K x y) (fun h2=>?_) (fun h2=>?_)
   ·
    refine zD 6<|zX (.bool false) ⟨by simp only[dv,ha,hb];simp[*],rfl⟩
   refine zD 6<|bA bO 1 ⟨by omega,(fun _=>by assumption),nofun,nofun⟩ (by omega) [] (Sub.refl _)
  ·
   refine zD 10<|jpI (vs:=[.agg ⟨[]⟩,zP f,zI (a:Int),zI (b:Int),.int .u8 on]) (fun aH hs=>Sb (hF.up hs) hV ha hb)<|zD 1<|js 20 (kG K x y) (fun h3=>?_) (fun h3=>?_)
   ·
    refine zD 6<|zX (.bool false) ⟨by simp only[dv,ha,hb];simp[*],rfl⟩
   refine zD 6<|bA bO 2 ⟨by omega,(fun _=>hI.2.1 (by omega)),(fun _=>by assumption),nofun⟩ (by omega) [] (Sub.refl _)
  refine zD 10<|jpI (vs:=[.agg ⟨[]⟩,zP f,zI (a:Int),zI (b:Int),.int .u8 on]) (fun aH hs=>Zo (hF.up hs) hV)<|zD 1<|js 20 (yq on a b K.facts 0) (fun h4=>?_) (fun h4=>?_)
  ·
   refine zD 6<|zX (.bool false) ⟨by simp only[dv,ha,hb];simp[*],rfl⟩
  refine zD 6<|bA bO 3 ⟨by omega,(fun _=>hI.2.1 (by omega)),(fun _=>hI.2.2.1 (by omega)),(fun _=>by assumption)⟩ (by omega) [] (Sub.refl _)
 refine zD 7<|zX (.bool true) ⟨by simp only[dv,ha,hb,hI.2.1 (by omega),hI.2.2.1 (by omega),hI.2.2.2 (by omega)];rfl,rfl⟩
abbrev eP4(p:Nat→Int):List Value:=[zI (p 0),zI (p 1),zI (p 2),zI (p 3)]
abbrev pL(p:Nat→Int):List Int:=[p 0,p 1,p 2,p 3]
def iq(p:Nat→Int)(a:Nat)(v:Int):Nat→Int:=fun i=>if i=a then v else p i
theorem AO{a:Nat}(h:a <4):a=0∨a=1∨a=2∨a=3:=by omega
theorem auW{a:Nat}(h:a <4):nth (eP4 p) (0+(a:Int).toNat*1)=some (zI (p a)):=by
 rcases AO h with rfl|rfl|rfl|rfl<;>rfl
theorem auV{a:Nat}{v:Int}(h:a <4):dE (eP4 p) (0+(a:Int).toNat*1) [zI v]=eP4 (iq p a v):=by
 rcases AO h with rfl|rfl|rfl|rfl<;>rfl
theorem auX{a:Nat}{v:Value}(h:a <4):Nat.ble ((0+(a:Int).toNat*1)+[v].length) (eP4 p).length=true:=by
 rcases AO h with rfl|rfl|rfl|rfl<;>rfl
theorem Yv{r:bI}{a:Nat}(h:a <4)(k:b <4):nth (BZ r) (0+(a:Int).toNat*4+(b:Int).toNat*1)=some (.bool (r.c a b)):=by
 rcases AO h with rfl|rfl|rfl|rfl<;>rcases AO k with rfl|rfl|rfl|rfl<;>rfl
def iY(r:bI)(a b:Nat)(v:Bool):bI:=⟨fun i j=>if i=a∧j=b then v else r.c i j⟩
theorem Yu{r:bI}{a:Nat}{v:Bool}(h:a <4)(k:b <4):dE (BZ r) (0+(a:Int).toNat*4+(b:Int).toNat*1) [.bool v]=BZ (iY r a b v):=by
 rcases AO h with rfl|rfl|rfl|rfl<;>rcases AO k with rfl|rfl|rfl|rfl<;>rfl
theorem Yw{r:bI}{a:Nat}{v:Value}(h:a <4)(k:b <4):Nat.ble ((0+(a:Int).toNat*4+(b:Int).toNat*1)+[v].length) (BZ r).length=true:=by
 rcases AO h with rfl|rfl|rfl|rfl<;>rcases AO k with rfl|rfl|rfl|rfl<;>rfl
def lO(on:Int)(p:Nat→Int):List bZ→Nat→Bool
 | [],_=>true
 |x::l,k=>bif (hasB on k&&x.same)&& !decide (p x.a.toNat=x.b+1) then false else lO on p l (k+1)
theorem xQ{on:Int}{x:bZ}(h:l[k]?=some x):lO on p (l.drop k) k=bif (hasB on k&&x.same)&& !decide (p x.a.toNat=x.b+1) then false else lO on p (l.drop (k+1)) (k+1):=by rw[eX h];rfl
theorem US{on:Int}(h:¬k <l.length):lO on p (l.drop k) k=true:=by rw[eE h];rfl
def qP(p:Nat→Int)(a:Nat)(v:Int):Bool:=decide (cw (fun y=>decide (v=y)) ((pL p).take a) 0≥0)
theorem amY{T:TypeId}(h:ro b=some (.cells ⟨eP4 p⟩ T (0,0)))(hn:n≤4):bD ro (.slice (some ⟨b,0,none⟩) n 4) 1 cB ((pL p).take n):=by
 have:=bD.part (bK (enc:=cB) (T:=T) (pL p) h (fun _ _=>rfl)) (l:=0) (h:=n) (by omega) (by simpa using hn)
 simpa [dO] using this
theorem av1{v:Value}{n:Int}(hl:bD ro v 1 cB xs)(hn:xs.length≤1000000):dK zT 162 [v,zI n] ro (zI (cw (fun y=>decide (n=y)) xs 0)):=by
 obtain⟨fC,sG,sE,eO,rfl,ui,lP,mP⟩:=hl
 refine zE<|zD 12<|dV [1,0,1,0,0] [] (fun(zz:Nat)=>[(0,.slice fC xs.length eO),(1,zI n),(7,zI (xs.length:Int)),(8,zI (zz:Int))]) (fun zz=>[]) (fun zz=>zz≤xs.length∧cw (fun y=>decide (n=y)) xs 0=cw (fun y=>decide (n=y)) (xs.drop zz) zz) (fun zz=>xs.length-zz) 0 ⟨by omega,rfl⟩ [] ?_
 rintro k hI K1 bO rest
 refine zD 5<|zJ 9 ((k:Int) <(xs.length:Int)) (fun h1=>?_) fun h1=>?_
 ·
  refine zD 14 ?_
  obtain⟨fL,eH⟩:=zG xs k
  refine iz eO 1 lP eH<|jl 0 (mP _ _ eH)<|zD 2<|zJ 16 (n=fL) (fun h2=>?_) fun h2=>?_
  ·
   refine zD 7<|zX (zI (k:Int)) ⟨by rw[hI.2,jO eH];simp[*],rfl⟩
  refine zD 3<|ja ((k:Int)+1) (by omega)<|zD 2<|bA bO (k+1) ⟨by omega,by rw[hI.2,jO eH];simp[*]⟩ (by omega) [] (Sub.refl _)
 refine zD 7<|zX (zI (-1)) ⟨by rw[hI.2,qX (by omega)],rfl⟩
theorem aOR{v:Value}{n:Int}(hl:bD ro v 1 cB xs)(hn:xs.length≤1000000):dK zT 119 [v,zI n] ro (.bool (decide (cw (fun y=>decide (n=y)) xs 0≥0))):=by
 obtain⟨fC,sG,sE,eO,rfl,ui,lP,mP⟩:=hl
 refine zE<|zD 8<|jp (vs:=[.slice fC xs.length eO,zI n]) [] [] (fun aH hs hZ=>av1 ((show bD _ _ _ _ _ from ⟨fC,sG,sE,eO,rfl,ui,lP,mP⟩).up hs) (by first|omega| (simp only[List.length_set,zM];omega))) ?_
 refine zD 4<|zX (.bool (decide ((cw (fun y=>decide (n=y)) xs 0)≥0))) ⟨rfl,rfl⟩
theorem avv{rows:List bI}{on:Int}(hF:pO ro f K rows)(hV:eR K)(g1:ro b1=some (.cells ⟨[zP f]⟩ 100 (0,0)))(g2:ro b2=some (.cells ⟨[.int .u8 on]⟩ 105 (0,0))):dK zT 116 [.agg ⟨[zI (p 0),zI (p 1),zI (p 2),zI (p 3)]⟩,zP b1,zP b2] ro (.bool (lO on p K.facts 0)):=by
 obtain⟨c0,c1,c2,vc,vh,vr,vb,va,vf,vt,hv,hf,px,n6,hr,Fq,Kw,MK,bW⟩:=id hF
 obtain⟨hc,hh,dq⟩:=id px
 obtain⟨dc,AN,AM,cY,rfl,CN,yH,yG⟩:=hc
 obtain⟨cF,rH,rG,cy,rfl,tv,pw,pn⟩:=hh
 obtain⟨kY,JD,JC,kX,rfl,P3,GY,GX⟩:=hr
 obtain⟨lQ,N1,NZ,kZ,rfl,N0,G0,GZ⟩:=Fq
 obtain⟨lR,N6,N4,k7,rfl,N5,G2,G1⟩:=Kw
 obtain⟨mC,U8,U6,lu,rfl,U7,NY,NX⟩:=MK
 obtain⟨nS,E3,E1,nu,rfl,Ra,NT,NS⟩:=bW
 have T7:=hV.rules.1
 have Dh:=hV.before.1
 have FW:=hV.after.1
 have hnf:=hV.facts.1
 refine zE<|zD 2<|jn fun b3=>zD 5<|jl (b:=b1) (off:=0) (m:=1) (vs:=[zP f]) 0 ⟨_,_,_,.inl g1,rfl⟩<|zD 3<|jl (b:=f) (off:=0) (m:=13) (vs:=[c0,c1,c2,.slice dc K.cs.length cY,.slice cF hv.length cy,.slice kY K.rules.length kX,.slice lQ K.before.length kZ,.slice lR K.after.length k7,zI K.gone,zI K.new,zI K.af,.slice mC K.facts.length lu,.slice nS rows.length nu]) 11 ⟨_,_,_,.inl hf,rfl⟩<|zD 4<|dV [1,0,1,0,0] [] (fun(zz:Nat)=>[(2,zP b2),(3,zP b3),(11,.slice mC K.facts.length lu),(12,zI (K.facts.length:Int)),(13,zI (zz:Int))]) (fun zz=>[.b b3 (.cells ⟨[zI (p 0),zI (p 1),zI (p 2),zI (p 3)]⟩ 126 (0,0))]) (fun zz=>zz≤K.facts.length∧lO on p K.facts 0=lO on p (K.facts.drop zz) zz) (fun zz=>K.facts.length-zz) 0 ⟨by omega,rfl⟩ [0] ?_
 rintro k hI K1 bO rest
 refine zD 5<|zJ 14 ((k:Int) <(K.facts.length:Int)) (fun h1=>?_) fun h1=>?_
 ·
  refine zD 7 ?_
  obtain⟨Cg,mU⟩:=zG K.facts k
  refine iz lu 3 NY mU<|jl 0 (NX _ _ mU)<|jn fun b6=>jd 4 [0] ?_
  have hf4:=(hV.facts.2 _ (zL mU)).1
  have hf5:=(hV.facts.2 _ (zL mU)).2
  have hae:Cg.a=(Cg.a.toNat:Int):=by omega
  refine zD 1<|jl (b:=b2) (off:=0) (m:=1) (vs:=[.int .u8 on]) 0 ⟨_,_,_,.inl g2,rfl⟩<|zD 1<|jp (vs:=[.int .u8 on,zI (k:Int)]) [] [] (fun aH hs hZ=>(avN (by omega)))<|zD 1<|js 3 (hasB on (k:Int)) (fun h2=>?_) (fun h2=>?_)
  ·
   refine jd 4 [0]<|js 7 Cg.same (fun h3=>?_) (fun h3=>?_)
   ·
    refine jd 2 [0]<|ME (b:=b3) (off:=0) (len:=4) (sz:=1) Cg.a (by omega)<|mT (b:=b3) (off:=0+Cg.a.toNat*1) (m:=1) (vs:=[zI (p Cg.a.toNat)]) 0 [1] [(b3,.cells ⟨[zI (p 0),zI (p 1),zI (p 2),zI (p 3)]⟩ 126 (0,0))] (fun s _ hZ=>tt (hZ _ (.head _)) (by rw[hae];exact auW (by omega))) ?_
    refine jd 2 [0]<|ja (Cg.b+1) (by omega)<|zD 3<|js 34 (!decide ((p Cg.a.toNat)=(Cg.b+1))) (fun h4=>?_) (fun h4=>?_)
    ·
     replace h4:=of_decide_eq_false (by simpa using h4)
     refine zD 6<|zX (.bool false) ⟨by rw[hI.2,xQ mU];simp only[h2,h3,decide_eq_false h4,Bool.and_true,Bool.true_and,Bool.not_false,Bool.not_true,Bool.and_false,Bool.false_and,cond_true,cond_false],rfl⟩
    replace h4:=of_decide_eq_true (by simpa using h4)
    refine zD 3<|ja ((k:Int)+1) (by omega)<|zD 2<|bA bO (k+1) ⟨by omega,by rw[hI.2,xQ mU];simp only[h2,h3,decide_eq_true h4,Bool.and_true,Bool.true_and,Bool.not_false,Bool.not_true,Bool.and_false,Bool.false_and,cond_true,cond_false]⟩ (by omega) [1] (Sub.refl _)
   refine zD 13<|ja ((k:Int)+1) (by omega)<|zD 2<|bA bO (k+1) ⟨by omega,by rw[hI.2,xQ mU];simp only[h2,h3,Bool.and_true,Bool.true_and,Bool.not_false,Bool.not_true,Bool.and_false,Bool.false_and,cond_true,cond_false]⟩ (by omega) [1] (Sub.refl _)
  refine zD 17<|ja ((k:Int)+1) (by omega)<|zD 2<|bA bO (k+1) ⟨by omega,by rw[hI.2,xQ mU];simp only[h2,Bool.and_true,Bool.true_and,Bool.not_false,Bool.not_true,Bool.and_false,Bool.false_and,cond_true,cond_false]⟩ (by omega) [1] (Sub.refl _)
 refine zD 7<|zX (.bool true) ⟨by rw[hI.2,US (by omega)],rfl⟩
def iJ(K:aB)(on:Int):Nat→Nat→(Nat→Int)→List (Nat→Int)
 |0,_,p=>bif lO on p K.facts 0 then [p] else []
 |n+1,a,p=>iJ K on n (a+1) p++(List.range K.after.length).flatMap fun b=>bif !dv K on a b||qP p a ((b:Int)+1) then [] else iJ K on n (a+1) (iq p a ((b:Int)+1))
def nG(K:aB)(on:Int)(n a:Nat)(p:Nat→Int)(b:Nat):List (Nat→Int):=bif !dv K on a b||qP p a ((b:Int)+1) then [] else iJ K on n (a+1) (iq p a ((b:Int)+1))
theorem qU(K:aB)(on:Int)(n a:Nat)(p:Nat→Int):iJ K on (n+1) a p=iJ K on n (a+1) p++(List.range K.after.length).flatMap (nG K on n a p):=rfl
theorem Part.left{L x y:List α}{p:Nat}(h:Part L p (x++y)):Part L p x:=by
 obtain⟨a,b,rfl,h2⟩:=h
 exact⟨a,y++b,by simp,h2⟩
theorem Part.right{L x y:List α}{p:Nat}(h:Part L p (x++y)):Part L (p+x.length) y:=by
 obtain⟨a,b,rfl,rfl⟩:=h
 exact⟨a++x,b,by simp,by simp⟩
theorem abj{j:Nat}(h:j <n):∃r,List.range n=List.range j++[j]++r:=by
 refine⟨(List.range n).drop (j+1),?_⟩
 have h1:(List.range n).take (j+1)=List.range (j+1):=by rw[List.take_range,Nat.min_eq_left h]
 rw[←List.range_succ,←h1,List.take_append_drop]
theorem ZR{q:Nat→Int}{a:Nat}{v:Int}(ha:a <4)(h:∀i,i≠a→q i=p i):qP q a v=qP p a v:=by
 have:(pL q).take a=(pL p).take a:=by
  rcases AO ha with rfl|rfl|rfl|rfl
  ·rfl
  ·simp[h 0 (by omega)]
  ·simp[h 0 (by omega),h 1 (by omega)]
  simp[h 0 (by omega),h 1 (by omega),h 2 (by omega)]
 simp only[qP,this]
theorem XZ{q:Nat→Int}{a:Nat}{v:Int}(h:∀i,i≠a→q i=p i):iq q a v=iq p a v:=by
 funext i
 simp only[iq]
 split
 ·rfl
 rename_i hi;exact h i hi
abbrev ePs(L:List (Nat→Int)):(Nat→Option Obj)→Nat→List Value→Cells→Prop:=fun _ k vs LL=>∃p,L[k]?=some p∧vs=[.agg ⟨eP4 p⟩]∧LL=[]
structure alr(ro:Nat→Option Obj)(bl f:Nat)(K:aB)(on:Int)(bf br bE bg bt bo:Nat):Prop where
 f:ro bf=some (.cells ⟨[zP f]⟩ 100 (0,0))
 r:ro br=some (.cells ⟨[.func (.func 116) ⟨[]⟩ ⟨[zP bf,zP bo]⟩]⟩ 218 (0,0))
 y:ro bE=some (.cells ⟨[.func (.yield bl) #[] #[]]⟩ 218 (0,0))
 g:ro bg=some (.cells ⟨[.func (.func 118) ⟨[]⟩ ⟨[zP bf,zP br,zP bE,zP bg,zP bt]⟩]⟩ 219 (0,0))
 t:ro bt=some (.cells ⟨BZ ⟨dv K on⟩⟩ 153 (0,0))
 o:ro bo=some (.cells ⟨[.int .u8 on]⟩ 105 (0,0))
def asP(bl f:Nat)(K:aB)(rows:List bI)(on:Int)(bf br bE bg bt bo:Nat)(L:List (Nat→Int))(Inv:Nat→Cells→Prop)(Stop:Cells→Prop)(n:Nat):Prop:=
 ∀(ro:Nat→Option Obj) (a:Nat) (p:Nat→Int) (q:Nat) (B:Cells),alr ro bl f K on bf br bE bg bt bo→pO ro f K rows→a+n=K.before.length→Part L q (iJ K on n a p)→Inv q B→YOK zT bl ro L.length (ePs L) Inv Stop→
  eg zT 118 [.agg ⟨eP4 p⟩,zI (a:Int),zP bf,zP br,zP bE,zP bg,zP bt] ro B (fun r Y=>∃c,r= .bool c∧(c=true→Inv (q+(iJ K on n a p).length) Y)∧(c=false→Stop Y))
theorem avO{a q:Nat}{on:Int}{B:Cells}{L:List (Nat→Int)}{Inv:Nat→Cells→Prop}{rows:List bI}(ih:∀m,m <n→asP bl f K rows on bf br bE bg bt bo L Inv Stop m)(hV:eR K)(oU:alr ro bl f K on bf br bE bg bt bo)(hF:pO ro f K rows)(han:a+n=K.before.length)(hP:Part L q (iJ K on n a p))(hB:Inv q B)(hy:YOK zT bl ro L.length (ePs L) Inv Stop):eg zT 118 [.agg ⟨[zI (p 0),zI (p 1),zI (p 2),zI (p 3)]⟩,zI (a:Int),zP bf,zP br,zP bE,zP bg,zP bt] ro B (fun r Y=>∃c,r= .bool c∧(c=true→Inv (q+(iJ K on n a p).length) Y)∧(c=false→Stop Y)):=by
 obtain⟨gf,gr,gy,gg,gt,go⟩:=id oU
 obtain⟨c0,c1,c2,vc,vh,vr,vb,va,vf,vt,hv,hf,px,n6,hr,Fq,Kw,MK,bW⟩:=id hF
 obtain⟨hc,hh,dq⟩:=id px
 obtain⟨dc,AN,AM,cY,rfl,CN,yH,yG⟩:=hc
 obtain⟨cF,rH,rG,cy,rfl,tv,pw,pn⟩:=hh
 obtain⟨kY,JD,JC,kX,rfl,P3,GY,GX⟩:=hr
 obtain⟨lQ,N1,NZ,kZ,rfl,N0,G0,GZ⟩:=Fq
 obtain⟨lR,N6,N4,k7,rfl,N5,G2,G1⟩:=Kw
 obtain⟨mC,U8,U6,lu,rfl,U7,NY,NX⟩:=MK
 obtain⟨nS,E3,E1,nu,rfl,Ra,NT,NS⟩:=bW
 have T7:=hV.rules.1
 have Dh:=hV.before.1
 have FW:=hV.after.1
 have hnf:=hV.facts.1
 refine zC [.l B]<|zD 2<|jn fun b7=>zD 6<|jl (b:=bf) (off:=0) (m:=1) (vs:=[zP f]) 0 ⟨_,_,_,.inl gf,rfl⟩<|zD 3<|jl (b:=f) (off:=0) (m:=13) (vs:=[c0,c1,c2,.slice dc K.cs.length cY,.slice cF hv.length cy,.slice kY K.rules.length kX,.slice lQ K.before.length kZ,.slice lR K.after.length k7,zI K.gone,zI K.new,zI K.af,.slice mC K.facts.length lu,.slice nS rows.length nu]) 6 ⟨_,_,_,.inl hf,rfl⟩<|zD 3<|zJ 18 ((a:Int)=(K.before.length:Int)) (fun h1=>?_) fun h1=>?_
 ·
  refine zD 2 ?_
  obtain rfl:n=0:=by omega
  refine zD 1<|jl (b:=br) (off:=0) (m:=1) (vs:=[.func (.func 116) ⟨[]⟩ ⟨[zP bf,zP bo]⟩]) 0 ⟨_,_,_,.inl gr,rfl⟩<|jd 1 [0]<|jp (vs:=[.agg ⟨[zI (p 0),zI (p 1),zI (p 2),zI (p 3)]⟩,zP bf,zP bo]) [] [] (fun aH hs hZ=>avv (hF.up hs) hV (hs _ _ gf) (hs _ _ go))<|zD 2<|js 23 (!(lO on p K.facts 0)) (fun h2=>?_) (fun h2=>?_)
  ·
   have mI:=h2
   try simp only[zB] at mI
   refine zD 7<|zR (.bool true) [] [1] B ⟨_,rfl,(fun _=>by rw[show iJ K on 0 a p=[] by simp only[iJ,show lO on p K.facts 0=false by simpa using h2];rfl];exact hB),nofun⟩
  have mI:=h2
  try simp only[zB] at mI
  have ait:iJ K on 0 a p=[p]:=by simp only[iJ,show lO on p K.facts 0=true by simpa using h2];rfl
  have hel:=Part.get (i:=0) (x:=p) hP (by rw[ait];rfl)
  refine jl (b:=bE) (off:=0) (m:=1) (vs:=[(.func (.yield bl) #[] #[])]) 0 ⟨_,_,_,.inl gy,rfl⟩<|jd 1 [0]<|jyc [1] (hy q [.agg ⟨[zI (p 0),zI (p 1),zI (p 2),zI (p 3)]⟩] [] B ro hel.1 ⟨_,hel.2,rfl,rfl⟩ hB (Sub.refl _)) (Sub.refl _) ?_
  intro v26 Y26 aO5
  obtain⟨c26,rfl,aRD,aRr⟩:=yb aO5
  refine zD 4<|zR (.bool c26) [] [0] Y26 ⟨_,rfl,(fun h=>by rw[ait];exact aRD h),aRr⟩
 refine zD 4 ?_
 obtain⟨m,rfl⟩:∃m,n=m+1:=⟨n-1,by omega⟩
 rw[qU] at hP
 refine zD 1<|jl (b:=bg) (off:=0) (m:=1) (vs:=[.func (.func 118) ⟨[]⟩ ⟨[zP bf,zP br,zP bE,zP bg,zP bt]⟩]) 0 ⟨_,_,_,.inl gg,rfl⟩<|jd 2 [0]<|ja ((a:Int)+1) (by omega)<|jc (vs:=[.agg ⟨[zI (p 0),zI (p 1),zI (p 2),zI (p 3)]⟩,zI ((a:Int)+1),zP bf,zP br,zP bE,zP bg,zP bt]) [1] (ih m (by omega) _ (a+1) p q _ oU hF (by omega) (Part.left hP) hB hy) ?_
 rintro _ Y32 ⟨c32,rfl,aRA,aRo⟩
 refine zD 2<|js 33 (!c32) (fun h3=>?_) (fun h3=>?_)
 ·
  try simp only[zB] at h3
  refine zD 6<|zR (.bool false) [] [0] Y32 ⟨_,rfl,nofun,fun _=>aRo (by simp_all)⟩
 try simp only[zB] at h3
 refine zD 5<|jl (b:=bf) (off:=0) (m:=1) (vs:=[zP f]) 0 ⟨_,_,_,.inl gf,rfl⟩<|zD 3<|jl (b:=f) (off:=0) (m:=13) (vs:=[c0,c1,c2,.slice dc K.cs.length cY,.slice cF hv.length cy,.slice kY K.rules.length kX,.slice lQ K.before.length kZ,.slice lR K.after.length k7,zI K.gone,zI K.new,zI K.af,.slice mC K.facts.length lu,.slice nS rows.length nu]) 7 ⟨_,_,_,.inl hf,rfl⟩<|zD 4<|dV [1,1,1,0,1,0,0] [] (fun(zz:Nat×(Nat→Int)×Cells)=>[(1,zI (a:Int)),(5,zP bg),(6,zP bt),(7,zP b7),(39,zI (K.after.length:Int)),(40,zI (zz.1:Int))]) (fun zz=>[.b b7 (.cells ⟨[zI (zz.2.1 0),zI (zz.2.1 1),zI (zz.2.1 2),zI (zz.2.1 3)]⟩ 126 (0,0)),.l zz.2.2]) (fun zz=>zz.1≤K.after.length∧Inv (q+(iJ K on m (a+1) p).length+((List.range zz.1).flatMap (nG K on m a p)).length) zz.2.2∧∀i,i≠a→zz.2.1 i=p i) (fun zz=>K.after.length-zz.1) (⟨0,p,Y32⟩) ⟨by dsimp only;omega,by have:=aRA (by simp_all);simpa using this,fun _ _=>rfl⟩ [1,0] ?_
 rintro⟨j,pp,B⟩ hJ K1 bO rest
 dsimp only at hJ
 refine zD 5<|zJ 41 ((j:Int) <(K.after.length:Int)) (fun h4=>?_) fun h4=>?_
 ·
  refine zD 11 ?_
  have ha4:a <4:=by omega
  have hj4:j <4:=by omega
  obtain⟨rr,hrr⟩:=abj (show j <K.after.length by omega)
  have hPj:=Part.flat (Part.right hP) hrr
  refine zD 3<|ME (b:=bt) (off:=0) (len:=4) (sz:=4) (a:Int) (by omega)<|ME (b:=bt) (off:=0+(a:Int).toNat*4) (len:=4) (sz:=1) (j:Int) (by omega)<|jl (b:=bt) (off:=0+(a:Int).toNat*4+(j:Int).toNat*1) (m:=1) (vs:=[.bool (dv K on a j)]) 0 (tt (.inl gt) (Yv (r:=⟨dv K on⟩) ha4 hj4))<|zD 2<|js 49 (!(dv K on a j)) (fun h5=>?_) (fun h5=>?_)
  ·
   have O9:=h5
   try simp only[zB] at O9
   refine zD 10<|ja ((j:Int)+1) (by omega)<|zD 2<|bA bO (⟨j+1,pp,B⟩) ⟨by dsimp only;omega,by dsimp only;rw[List.range_succ,List.flatMap_append,List.length_append,List.flatMap_singleton,←Nat.add_assoc];rw[show nG K on m a p j=[] by simp only[nG,h5];rfl];exact hJ.2.1,hJ.2.2⟩ (by dsimp only;omega) [0,1] (Sub.refl _)
  have O9:=h5
  try simp only[zB] at O9
  refine zD 1<|jah (b:=b7) (off:=0) (len:=4) (a:Int) (by omega)<|zD 1<|ja ((j:Int)+1) (by omega)<|jp (vs:=[(.slice (some ⟨b7,0,none⟩) (a:Int).toNat 4),zI ((j:Int)+1)]) [0] [(b7,.cells ⟨[zI (pp 0),zI (pp 1),zI (pp 2),zI (pp 3)]⟩ 126 (0,0))] (fun aH hs hZ=>aOR (amY hZ.head (by omega)) (by rw[List.length_take];omega)) ?_
  refine zD 2<|js 55 (qP pp a ((j:Int)+1)) (fun h6=>?_) (fun h6=>?_)
  ·
   refine zD 3<|ja ((j:Int)+1) (by omega)<|zD 2<|bA bO (⟨j+1,pp,B⟩) ⟨by dsimp only;omega,by dsimp only;rw[List.range_succ,List.flatMap_append,List.length_append,List.flatMap_singleton,←Nat.add_assoc];rw[show nG K on m a p j=[] by simp only[nG,←ZR ha4 hJ.2.2,h5,h6];rfl];exact hJ.2.1,hJ.2.2⟩ (by dsimp only;omega) [0,1] (Sub.refl _)
  have hg0:nG K on m a p j=iJ K on m (a+1) (iq p a ((j:Int)+1)):=by simp only[nG,←ZR ha4 hJ.2.2,h5,h6];rfl
  have hPg:Part L (q+(iJ K on m (a+1) p).length+((List.range j).flatMap (nG K on m a p)).length) (iJ K on m (a+1) (iq pp a ((j:Int)+1))):=by rw[XZ hJ.2.2,←hg0];exact hPj
  refine zD 6<|ja ((j:Int)+1) (by omega)<|ME (b:=b7) (off:=0) (len:=4) (sz:=1) (a:Int) (by omega)<|jsx 0 b7 (0+(a:Int).toNat*1) [zI (pp 0),zI (pp 1),zI (pp 2),zI (pp 3)] [zI ((j:Int)+1)] 126 (by intro v hv;rw[List.mem_singleton] at hv;subst hv;rfl) (auX (p:=pp) ha4) ?_
  refine jmw 0 [.b b7 (.cells ⟨[zI ((iq pp a ((j:Int)+1)) 0),zI ((iq pp a ((j:Int)+1)) 1),zI ((iq pp a ((j:Int)+1)) 2),zI ((iq pp a ((j:Int)+1)) 3)]⟩ 126 (0,0))] (L:=[(b7,.cells ⟨dE [zI (pp 0),zI (pp 1),zI (pp 2),zI (pp 3)] (0+(a:Int).toNat*1) [zI ((j:Int)+1)]⟩ 126 (0,0))]) (by rw[auV ha4];rfl) ?_
  refine zD 3<|jl (b:=bg) (off:=0) (m:=1) (vs:=[.func (.func 118) ⟨[]⟩ ⟨[zP bf,zP br,zP bE,zP bg,zP bt]⟩]) 0 ⟨_,_,_,.inl gg,rfl⟩<|jd 2 [0]<|ja ((a:Int)+1) (by omega)<|jc (vs:=[.agg ⟨[zI ((iq pp a ((j:Int)+1)) 0),zI ((iq pp a ((j:Int)+1)) 1),zI ((iq pp a ((j:Int)+1)) 2),zI ((iq pp a ((j:Int)+1)) 3)]⟩,zI ((a:Int)+1),zP bf,zP br,zP bE,zP bg,zP bt]) [1] (ih m (by omega) _ (a+1) _ (q+(iJ K on m (a+1) p).length+((List.range j).flatMap (nG K on m a p)).length) _ oU hF (by omega) hPg hJ.2.1 hy) ?_
  rintro _ Y64 ⟨c64,rfl,aRy,aRm⟩
  refine zD 2<|js 65 (!c64) (fun h7=>?_) (fun h7=>?_)
  ·
   try simp only[zB] at h7
   refine zD 6<|zR (.bool false) [] [0] Y64 ⟨_,rfl,nofun,fun _=>aRm (by simp_all)⟩
  try simp only[zB] at h7
  refine zD 3<|ja ((j:Int)+1) (by omega)<|zD 2<|bA bO (⟨j+1,(iq pp a ((j:Int)+1)),Y64⟩) ⟨by dsimp only;omega,by dsimp only;rw[List.range_succ,List.flatMap_append,List.length_append,List.flatMap_singleton,←Nat.add_assoc];rw[hg0,←XZ hJ.2.2];exact aRy (by simp_all),(fun i hi=>by simp only[iq,if_neg hi];exact hJ.2.2 i hi)⟩ (by dsimp only;omega) [1,0] (Sub.refl _)
 refine zD 7<|zR (.bool true) [] [1] B ⟨_,rfl,(fun _=>by rw[qU,List.length_append,←Nat.add_assoc];have:=hJ.2.1;rwa[show j=K.after.length by omega] at this),nofun⟩
theorem aEJ(hV:eR K){rows:List bI}{on:Int}{L:List (Nat→Int)}{Inv:Nat→Cells→Prop}:∀n,asP bl f K rows on bf br bE bg bt bo L Inv Stop n:=by
 intro n
 induction n using Nat.strongRecOn with
 |_ n ih=>exact fun ro a p q B hc hF han hP hB hy=>avO ih hV hc hF han hP hB hy
def aK(K:aB)(on:Int):List (Nat→Int):=iJ K on K.before.length 0 fun _=>0
theorem aab{on:Int}{a:Nat}(h:¬a <K.before.length∨¬b <K.after.length):dv K on a b=false:=by
 rcases h with h|h
 ·simp[dv,List.getElem?_eq_none (Nat.le_of_not_lt h)]
 simp only[dv,List.getElem?_eq_none (Nat.le_of_not_lt h)]
 split
 ·rename_i h1;cases h1
 rfl
def FA(K:aB)(on:Int)(i j:Nat)(r:bI):Prop:=∀x y,r.c x y=((decide (x <i)||(decide (x=i)&&decide (y <j)))&&dv K on x y)
theorem FA.set{on:Int}{i j:Nat}{r:bI}(h:FA K on i j r):FA K on i (j+1) (iY r i j (dv K on i j)):=fun x y=>by
 simp only[iY]
 split
 ·rename_i hx;obtain⟨rfl,rfl⟩:=hx;simp
 rename_i hx
 rw[h x y]
 congr 2
 by_cases e:x=i
 ·subst e
  have:y≠j:=fun e2=>hx ⟨rfl,e2⟩
  simp only[decide_true,Bool.true_and]
  congr 1
  exact propext (by omega)
 simp[e]
theorem FA.nxt{on:Int}{i:Nat}{r:bI}(h:FA K on i K.after.length r):FA K on (i+1) 0 r:=fun x y=>by
 rw[h x y]
 by_cases hy:y <K.after.length
 ·congr 1
  simp only[hy,decide_true,Bool.and_true,Nat.not_lt_zero,decide_false,Bool.and_false,Bool.or_false]
  rw[Bool.eq_iff_iff];simp;omega
 rw[aab (.inr hy)];simp
theorem FA.fin{on:Int}{r:bI}(h:FA K on K.before.length 0 r):r=⟨dv K on⟩:=by
 rcases r with ⟨c⟩
 congr 1
 funext x y
 have:=h x y
 dsimp only at this
 rw[this]
 by_cases hx:x <K.before.length
 ·simp[hx]
 rw[aab (.inl hx)];simp
theorem anw{a:Nat}(h:a <4):nth (eP4 p) ((a:Int).toNat*1)=some (zI (p a)):=by
 rcases AO h with rfl|rfl|rfl|rfl<;>rfl
theorem ae6{r:bI}{a:Nat}{j:Int}(h:a <4)(k:0≤j∧j <4):nth (BZ r) (0+(a:Int).toNat*4+j.toNat*1)=some (.bool (r.c a j.toNat)):=by
 obtain⟨m,rfl⟩:=Int.eq_ofNat_of_zero_le k.1
 exact Yv h (by omega)
def wH(r:bI)(p:Nat→Int):Nat→Int
 |0=>0
 |k+1=>wH r p k+bif decide (p k>0)&& !r.c k (p k-1).toNat then 1 else 0
def cu(K:aB)(r:bI)(past:Nat)(p:Nat→Int):ak:=⟨past,p 0,p 1,p 2,p 3,K.before.length-pY (pL p),K.after.length-pY (pL p),wH r p 4⟩
theorem YK(p:Nat→Int):0≤pY (pL p)∧pY (pL p)≤4:=by
 have:=List.length_filter_le (fun x=>decide (x>0)) (pL p)
 simp only[pY]
 exact⟨by omega,by simp only[List.length_cons,List.length_nil] at this;omega⟩
theorem Zp{rows:List bI}{on:Int}(hF:pO ro f K rows)(hV:eR K)(g1:ro b1=some (.cells ⟨[zP f]⟩ 100 (0,0)))(g2:ro b2=some (.cells ⟨[.func (.func 116) ⟨[]⟩ ⟨[zP b1,zP b4]⟩]⟩ 218 (0,0)))(g3:ro b3=some (.cells ⟨BZ ⟨dv K on⟩⟩ 153 (0,0)))(g4:ro b4=some (.cells ⟨[.int .u8 on]⟩ 105 (0,0))):ItX zT 117 [] [zP b1,zP b2,zP b3] ro [] (aK K on).length (ePs (aK K on)) (fun Z=>Z=[]):=by
 intro bl aH Inv Stop hs hy B hB
 replace g1:=hs _ _ g1
 replace g2:=hs _ _ g2
 replace g3:=hs _ _ g3
 replace g4:=hs _ _ g4
 replace hF:=hF.up hs
 refine zC [.l B]<|zD 2<|jn fun b4=>zD 3<|jn fun b5=>jd 9 [0,0]<|jf [1,0] ((b4,.cells ⟨[(.func (.yield bl) #[] #[])]⟩ 218 (0,0))::[(b5,.cells ⟨[.func (.func 118) ⟨[]⟩ ⟨[zP b1,zP b2,zP b4,zP b5,zP b3]⟩]⟩ 219 (0,0))]) fun zo bH iQ=>jc (vs:=[.agg ⟨[zI 0,zI 0,zI 0,zI 0]⟩,zI 0,zP b1,zP b2,zP b4,zP b5,zP b3]) [0] (aEJ (K:=K) hV (on:=on) _ _ 0 (fun _=>0) 0 _ ⟨(bH _ _ g1),(bH _ _ g2),iQ _ (.head _),iQ _ (.tail _ (.head _)),(bH _ _ g3),bH _ _ g4⟩ (hF.up bH) (Nat.zero_add _) ⟨[],[],by simp[aK],rfl⟩ hB (YOK.up hy bH)) ?_
 rintro _ Y9 ⟨c9,rfl,hc9,hd9⟩
 refine zD 1<|aO q0.a (.tuple ⟨[]⟩) [] [0] Y9 bH ⟨_,_,rfl,rfl,[],Y9,rfl,rfl,by cases c9 with|true=>exact .inl (by simpa [aK] using hc9 rfl)|false=>exact .inr (hd9 rfl)⟩
theorem Mz{rows:List bI}{on:Int}(hF:pO ro f K rows)(hV:eR K):eg zT 92 [zP f,.int .u8 on] ro [] (fun r Y=>∃b1 b2 b3 b4,r= .func (.func 117) ⟨[]⟩ ⟨[zP b1,zP b2,zP b3]⟩∧Y=[(b1,.cells ⟨[zP f]⟩ 100 (0,0)),(b2,.cells ⟨[.func (.func 116) ⟨[]⟩ ⟨[zP b1,zP b4]⟩]⟩ 218 (0,0)),(b3,.cells ⟨BZ ⟨dv K on⟩⟩ 153 (0,0)),(b4,.cells ⟨[.int .u8 on]⟩ 105 (0,0))]):=by
 obtain⟨c0,c1,c2,vc,vh,vr,vb,va,vf,vt,hv,hf,px,n6,hr,Fq,Kw,MK,bW⟩:=id hF
 obtain⟨hc,hh,dq⟩:=id px
 obtain⟨dc,AN,AM,cY,rfl,CN,yH,yG⟩:=hc
 obtain⟨cF,rH,rG,cy,rfl,tv,pw,pn⟩:=hh
 obtain⟨kY,JD,JC,kX,rfl,P3,GY,GX⟩:=hr
 obtain⟨lQ,N1,NZ,kZ,rfl,N0,G0,GZ⟩:=Fq
 obtain⟨lR,N6,N4,k7,rfl,N5,G2,G1⟩:=Kw
 obtain⟨mC,U8,U6,lu,rfl,U7,NY,NX⟩:=MK
 obtain⟨nS,E3,E1,nu,rfl,Ra,NT,NS⟩:=bW
 have T7:=hV.rules.1
 have Dh:=hV.before.1
 have FW:=hV.after.1
 have hnf:=hV.facts.1
 refine zE<|zD 2<|jn fun b2=>jn fun b3=>zD 4<|jn fun b5=>jd 8 [2]<|jl (b:=f) (off:=0) (m:=13) (vs:=[c0,c1,c2,.slice dc K.cs.length cY,.slice cF hv.length cy,.slice kY K.rules.length kX,.slice lQ K.before.length kZ,.slice lR K.after.length k7,zI K.gone,zI K.new,zI K.af,.slice mC K.facts.length lu,.slice nS rows.length nu]) 6 ⟨_,_,_,.inl hf,rfl⟩<|zD 4<|dV [1,1,0,1,0,0] [] (fun(zz:Nat×bI)=>[(2,zP b2),(3,zP b3),(4,.nilFunc),(5,zP b5),(14,zI (K.before.length:Int)),(15,zI (zz.1:Int))]) (fun zz=>[.b b5 (.cells ⟨[.bool (zz.2.c 0 0),.bool (zz.2.c 0 1),.bool (zz.2.c 0 2),.bool (zz.2.c 0 3),.bool (zz.2.c 1 0),.bool (zz.2.c 1 1),.bool (zz.2.c 1 2),.bool (zz.2.c 1 3),.bool (zz.2.c 2 0),.bool (zz.2.c 2 1),.bool (zz.2.c 2 2),.bool (zz.2.c 2 3),.bool (zz.2.c 3 0),.bool (zz.2.c 3 1),.bool (zz.2.c 3 2),.bool (zz.2.c 3 3)]⟩ 153 (0,0)),.b b3 (.cells ⟨[.int .u8 on]⟩ 105 (0,0)),.b b2 (.cells ⟨[zP f]⟩ 100 (0,0))]) (fun zz=>zz.1≤K.before.length∧FA K on zz.1 0 zz.2) (fun zz=>K.before.length-zz.1) (⟨0,⟨fun _ _=>false⟩⟩) ⟨by dsimp only;omega,fun x y=>by simp⟩ [0,1,2] ?_
 rintro⟨i,r⟩ hI K1 bO rest
 dsimp only at hI
 refine zD 5<|zJ 16 ((i:Int) <(K.before.length:Int)) (fun h1=>?_) fun h1=>?_
 ·
  refine jd 15 [2]<|jl (b:=f) (off:=0) (m:=13) (vs:=[c0,c1,c2,.slice dc K.cs.length cY,.slice cF hv.length cy,.slice kY K.rules.length kX,.slice lQ K.before.length kZ,.slice lR K.after.length k7,zI K.gone,zI K.new,zI K.af,.slice mC K.facts.length lu,.slice nS rows.length nu]) 7 ⟨_,_,_,.inl hf,rfl⟩<|zD 4<|dV [1,1,0,1,0,0,1,1,0,0,1,1,0,0] [K1] (fun(zz:Nat×bI)=>[(2,zP b2),(3,zP b3),(4,.nilFunc),(5,zP b5),(6,zI (i:Int)),(14,zI (K.before.length:Int)),(15,zI (i:Int)),(23,zI (K.after.length:Int)),(24,zI (zz.1:Int))]) (fun zz=>[.b b5 (.cells ⟨[.bool (zz.2.c 0 0),.bool (zz.2.c 0 1),.bool (zz.2.c 0 2),.bool (zz.2.c 0 3),.bool (zz.2.c 1 0),.bool (zz.2.c 1 1),.bool (zz.2.c 1 2),.bool (zz.2.c 1 3),.bool (zz.2.c 2 0),.bool (zz.2.c 2 1),.bool (zz.2.c 2 2),.bool (zz.2.c 2 3),.bool (zz.2.c 3 0),.bool (zz.2.c 3 1),.bool (zz.2.c 3 2),.bool (zz.2.c 3 3)]⟩ 153 (0,0)),.b b3 (.cells ⟨[.int .u8 on]⟩ 105 (0,0)),.b b2 (.cells ⟨[zP f]⟩ 100 (0,0))]) (fun zz=>zz.1≤K.after.length∧FA K on i zz.1 zz.2) (fun zz=>K.after.length-zz.1) (⟨0,r⟩) ⟨by dsimp only;omega,hI.2⟩ [0,1,2] ?_
  rintro⟨j,r⟩ hJ K2 mr rest
  dsimp only at hJ
  refine zD 5<|zJ 25 ((j:Int) <(K.after.length:Int)) (fun h2=>?_) fun h2=>?_
  ·
   refine zD 9 ?_
   obtain⟨x,ha⟩:∃x,K.before[i]?=some x:=⟨_,List.getElem?_eq_getElem (by omega)⟩
   obtain⟨y,hb⟩:∃y,K.after[j]?=some y:=⟨_,List.getElem?_eq_getElem (by omega)⟩
   refine jd 7 [2,1]<|ME (b:=b5) (off:=0) (len:=4) (sz:=4) (i:Int) (by omega)<|jp (vs:=[zP f,zI (i:Int),zI (j:Int),.int .u8 on]) [] [] (fun aH hs hZ=>aEK (hF.up hs) hV ha hb)<|ME (b:=b5) (off:=0+(i:Int).toNat*4) (len:=4) (sz:=1) (j:Int) (by omega)<|aQ 9 fun qp qv oV=>jsx 0 b5 (0+(i:Int).toNat*4+(j:Int).toNat*1) [.bool (r.c 0 0),.bool (r.c 0 1),.bool (r.c 0 2),.bool (r.c 0 3),.bool (r.c 1 0),.bool (r.c 1 1),.bool (r.c 1 2),.bool (r.c 1 3),.bool (r.c 2 0),.bool (r.c 2 1),.bool (r.c 2 2),.bool (r.c 2 3),.bool (r.c 3 0),.bool (r.c 3 1),.bool (r.c 3 2),.bool (r.c 3 3)] [.bool (dv K on i j)] 153 (by intro v hv;rw[List.mem_singleton] at hv;subst hv;rfl) (Yw (r:=r) (by omega) (by omega)) ?_
   refine jmw 0 [.b b5 (.cells ⟨[.bool ((iY r i j (dv K on i j)).c 0 0),.bool ((iY r i j (dv K on i j)).c 0 1),.bool ((iY r i j (dv K on i j)).c 0 2),.bool ((iY r i j (dv K on i j)).c 0 3),.bool ((iY r i j (dv K on i j)).c 1 0),.bool ((iY r i j (dv K on i j)).c 1 1),.bool ((iY r i j (dv K on i j)).c 1 2),.bool ((iY r i j (dv K on i j)).c 1 3),.bool ((iY r i j (dv K on i j)).c 2 0),.bool ((iY r i j (dv K on i j)).c 2 1),.bool ((iY r i j (dv K on i j)).c 2 2),.bool ((iY r i j (dv K on i j)).c 2 3),.bool ((iY r i j (dv K on i j)).c 3 0),.bool ((iY r i j (dv K on i j)).c 3 1),.bool ((iY r i j (dv K on i j)).c 3 2),.bool ((iY r i j (dv K on i j)).c 3 3)]⟩ 153 (0,0))] (L:=[(b5,.cells ⟨dE [.bool (r.c 0 0),.bool (r.c 0 1),.bool (r.c 0 2),.bool (r.c 0 3),.bool (r.c 1 0),.bool (r.c 1 1),.bool (r.c 1 2),.bool (r.c 1 3),.bool (r.c 2 0),.bool (r.c 2 1),.bool (r.c 2 2),.bool (r.c 2 3),.bool (r.c 3 0),.bool (r.c 3 1),.bool (r.c 3 2),.bool (r.c 3 3)] (0+(i:Int).toNat*4+(j:Int).toNat*1) [.bool (dv K on i j)]⟩ 153 (0,0))]) (by rw[Yu (by omega) (by omega)];rfl) ?_
   refine fJ oV []<|zD 2<|ja ((j:Int)+1) (by omega)<|zD 2<|bA mr (⟨j+1,(iY r i j (dv K on i j))⟩) ⟨by dsimp only;omega,hJ.2.set⟩ (by dsimp only;omega) [0,1,2] (Sub.refl _)
  refine zD 3<|ja ((i:Int)+1) (by omega)<|zD 2<|bA bO (⟨i+1,r⟩) ⟨by dsimp only;omega,FA.nxt (by have:=hJ.2;rwa[show j=K.after.length by omega] at this)⟩ (by dsimp only;omega) [0,1,2] (Sub.refl _)
 refine zD 5<|jn fun b8=>jd 8 [0]<|zR (.func (.func 117) ⟨[]⟩ ⟨[zP b2,zP b8,zP b5]⟩) [] [3,0,1,2] ((b2,.cells ⟨[zP f]⟩ 100 (0,0))::((b8,.cells ⟨[.func (.func 116) ⟨[]⟩ ⟨[zP b2,zP b3]⟩]⟩ 218 (0,0))::((b5,.cells ⟨[.bool (r.c 0 0),.bool (r.c 0 1),.bool (r.c 0 2),.bool (r.c 0 3),.bool (r.c 1 0),.bool (r.c 1 1),.bool (r.c 1 2),.bool (r.c 1 3),.bool (r.c 2 0),.bool (r.c 2 1),.bool (r.c 2 2),.bool (r.c 2 3),.bool (r.c 3 0),.bool (r.c 3 1),.bool (r.c 3 2),.bool (r.c 3 3)]⟩ 153 (0,0))::[(b3,.cells ⟨[.int .u8 on]⟩ 105 (0,0))]))) ⟨_,_,_,_,rfl,by have e:=FA.fin (K:=K) (on:=on) (r:=r) (by have:=hI.2;rwa[show i=K.before.length by omega] at this);subst e;rfl⟩
theorem arC{rows:List bI}{J5:bI}(hF:pO ro f K rows)(hV:eR K)(De:rows[past]?=some J5) (hp:∀i,0≤p i∧p i≤4):dK zT 93 [zP f,zI (past:Int),.agg ⟨[zI (p 0),zI (p 1),zI (p 2),zI (p 3)]⟩] ro (.agg ⟨cW (cu K J5 past p)⟩):=by
 obtain⟨c0,c1,c2,vc,vh,vr,vb,va,vf,vt,hv,hf,px,n6,hr,Fq,Kw,MK,bW⟩:=id hF
 obtain⟨hc,hh,dq⟩:=id px
 obtain⟨dc,AN,AM,cY,rfl,CN,yH,yG⟩:=hc
 obtain⟨cF,rH,rG,cy,rfl,tv,pw,pn⟩:=hh
 obtain⟨kY,JD,JC,kX,rfl,P3,GY,GX⟩:=hr
 obtain⟨lQ,N1,NZ,kZ,rfl,N0,G0,GZ⟩:=Fq
 obtain⟨lR,N6,N4,k7,rfl,N5,G2,G1⟩:=Kw
 obtain⟨mC,U8,U6,lu,rfl,U7,NY,NX⟩:=MK
 obtain⟨nS,E3,E1,nu,rfl,Ra,NT,NS⟩:=bW
 have T7:=hV.rules.1
 have Dh:=hV.before.1
 have FW:=hV.after.1
 have hnf:=hV.facts.1
 have hpc:=YK p
 have Qb:=(List.getElem?_eq_some_iff.1 De).1
 refine zE<|zD 2<|jn fun b5=>jn fun b6=>jd 4 [1]<|jp (vs:=[.agg ⟨[zI (p 0),zI (p 1),zI (p 2),zI (p 3)]⟩]) [] [] (fun aH hs hZ=>(avw (p0:=p 0) (p1:=p 1) (p2:=p 2) (p3:=p 3)))<|jd 10 [1]<|jl (b:=f) (off:=0) (m:=13) (vs:=[c0,c1,c2,.slice dc K.cs.length cY,.slice cF hv.length cy,.slice kY K.rules.length kX,.slice lQ K.before.length kZ,.slice lR K.after.length k7,zI K.gone,zI K.new,zI K.af,.slice mC K.facts.length lu,.slice nS rows.length nu]) 6 ⟨_,_,_,.inl hf,rfl⟩<|zD 2<|ja ((K.before.length:Int)-(pY (pL p))) (by omega)<|zD 4<|jl (b:=f) (off:=0) (m:=13) (vs:=[c0,c1,c2,.slice dc K.cs.length cY,.slice cF hv.length cy,.slice kY K.rules.length kX,.slice lQ K.before.length kZ,.slice lR K.after.length k7,zI K.gone,zI K.new,zI K.af,.slice mC K.facts.length lu,.slice nS rows.length nu]) 7 ⟨_,_,_,.inl hf,rfl⟩<|zD 2<|ja ((K.after.length:Int)-(pY (pL p))) (by omega)<|zD 1<|aQ 19 fun EV EZ AV=>jn fun b8=>eo AV [1,2]<|aQ 20 fun y4 ze wZ=>jd 1 [0]<|fp wZ<|jd 8 [2]<|dV [1,1,1,0,1,0,0] [] (fun(zz:Nat×Int)=>[(0,zP f),(1,zI (past:Int)),(6,zP b6),(8,zP b8),(32,.agg ⟨[zI (p 0),zI (p 1),zI (p 2),zI (p 3)]⟩),(33,zI (zz.1:Int))]) (fun zz=>[.b b8 (.cells ⟨[zI (past:Int),zI (p 0),zI (p 1),zI (p 2),zI (p 3),zI ((K.before.length:Int)-(pY (pL p))),zI ((K.after.length:Int)-(pY (pL p))),zI zz.2]⟩ 128 (0,0)),.b b6 (.cells ⟨[zI 0,zI 0,zI 0,zI 0,zI 0,zI 0,zI 0,zI 0]⟩ 128 (0,0))]) (fun zz=>zz.1≤4∧zz.2=wH J5 p zz.1∧(0≤zz.2∧zz.2≤zz.1)) (fun zz=>4-zz.1) (⟨0,0⟩) ⟨by dsimp only;omega,rfl,by dsimp only;omega⟩ [0,1] ?_
 rintro⟨k,m⟩ hI K3 hK3 rest
 dsimp only at hI
 refine zD 5<|zJ 34 ((k:Int) <4) (fun h3=>?_) fun h3=>?_
 ·
  refine zD 7<|jai (l:=[zI (p 0),zI (p 1),zI (p 2),zI (p 3)]) (k:Int) 4 1 false (by omega) (v:= zI (p k)) (show nth (eP4 p) _=_ from anw (by omega))<|zD 4 ?_
  have hpk:=hp k
  refine zD 4<|js 39 (decide ((p k)>0)) (fun h4=>?_) (fun h4=>?_)
  ·
   have yP:=h4
   replace yP:=of_decide_eq_true yP
   refine zD 3<|jl (b:=f) (off:=0) (m:=13) (vs:=[c0,c1,c2,.slice dc K.cs.length cY,.slice cF hv.length cy,.slice kY K.rules.length kX,.slice lQ K.before.length kZ,.slice lR K.after.length k7,zI K.gone,zI K.new,zI K.af,.slice mC K.facts.length lu,.slice nS rows.length nu]) 12 ⟨_,_,_,.inl hf,rfl⟩<|zD 3<|ja ((p k)-1) (by omega) ?_
   obtain⟨x48,HJ⟩:=zG rows past
   refine iz nu 16 NT HJ<|ME (b:=E3) (off:=E1+past*16+0) (len:=4) (sz:=4) (k:Int) (by omega)<|ME (b:=E3) (off:=E1+past*16+0+(k:Int).toNat*4) (len:=4) (sz:=1) ((p k)-1) (by omega)<|jl (b:=E3) (off:=E1+past*16+0+(k:Int).toNat*4+((p k)-1).toNat*1) (m:=1) (vs:=[.bool (x48.c k ((p k)-1).toNat)]) 0 (show cE ⟨ro,[]⟩ E3 (E1+past*16+0+(k:Int).toNat*4+((p k)-1).toNat*1) 1 [.bool (x48.c k ((p k)-1).toNat)] from by have:=afi (NS _ _ HJ) (ae6 (r:=x48) (a:=k) (j:=(p k)-1) (by omega) (by omega));simpa [Nat.add_assoc] using this) ?_
   refine zD 3<|js 53 (!(x48.c k ((p k)-1).toNat)) (fun h5=>?_) (fun h5=>?_)
   ·
    try simp only[zB] at h5
    refine jd 4 [0]<|ja (m+1) (by omega)<|jd 4 [0]<|ja ((k:Int)+1) (by omega)<|zD 2<|bA hK3 (⟨k+1,(m+1)⟩) ⟨by dsimp only;omega,by dsimp only;rw[wH,hI.2.1];rw[De] at HJ;cases HJ;simp only[decide_eq_true yP,h5,Bool.not_false,Bool.not_true,Bool.and_true,Bool.and_false,cond_true,cond_false,Int.add_zero],by dsimp only;omega⟩ (by dsimp only;omega) [0,1] (Sub.refl _)
   try simp only[zB] at h5
   refine zD 3<|ja ((k:Int)+1) (by omega)<|zD 2<|bA hK3 (⟨k+1,m⟩) ⟨by dsimp only;omega,by dsimp only;rw[wH,hI.2.1];rw[De] at HJ;cases HJ;simp only[decide_eq_true yP,h5,Bool.not_false,Bool.not_true,Bool.and_true,Bool.and_false,cond_true,cond_false,Int.add_zero],by dsimp only;omega⟩ (by dsimp only;omega) [0,1] (Sub.refl _)
  have yP:=h4
  replace yP:=of_decide_eq_false yP
  refine zD 18<|ja ((k:Int)+1) (by omega)<|zD 2<|bA hK3 (⟨k+1,m⟩) ⟨by dsimp only;omega,by dsimp only;rw[wH,hI.2.1];simp only[decide_eq_false yP,Bool.false_and,cond_false,Int.add_zero],by dsimp only;omega⟩ (by dsimp only;omega) [0,1] (Sub.refl _)
 refine jd 8 [0,1]<|zR (.agg ⟨[zI (past:Int),zI (p 0),zI (p 1),zI (p 2),zI (p 3),zI ((K.before.length:Int)-(pY (pL p))),zI ((K.after.length:Int)-(pY (pL p))),zI m]⟩) [1] [] [] ⟨by rw[hI.2.1,show k=4 by omega];rfl,rfl⟩
def xJ(v:Value)(xs:List ak)(Y:Cells):Prop:=∃ys,ys.Perm xs∧ay v 8 128 cW ys Y
def gB(xs:List ak):Prop:=∀x∈xs,0≤x.past∧x.past≤1000
theorem gB.perm{xs ys:List ak}(h:gB xs)(hp:ys.Perm xs):gB ys:=fun x hx=>h x (hp.mem_iff.1 hx)
theorem F4{x:Int}(h:0≤x∧x≤1000000000):IntKind.i64.wrap (aT .u64 (IntKind.u64.wrap x) 1)=x / 2:=by
 have h1:IntKind.u64.wrap x=x:=sX .u64 rfl _ (by omega) (by simp[IntKind.bits];omega)
 rw[h1]
 have h2:aT .u64 x 1=x / 2:=by
  show x.fdiv 2=x / 2
  exact Int.fdiv_eq_ediv_of_nonneg _ (by decide)
 rw[h2,kJ _ (by omega)]
theorem aon{x y:ak}(hx:0≤x.past∧x.past≤1000)(hy:0≤y.past∧y.past≤1000):dK zT 109 [.agg ⟨[zI x.past,zI x.w0,zI x.w1,zI x.w2,zI x.w3,zI x.gone,zI x.new,zI x.af]⟩,.agg ⟨[zI y.past,zI y.w0,zI y.w1,zI y.w2,zI y.w3,zI y.gone,zI y.new,zI y.af]⟩] ro (zI (x.past-y.past)):=by
 refine zE<|zD 2<|jn fun b2=>jn fun b3=>jd 8 [1,0]<|ja (x.past-y.past) (by omega)<|zD 3<|zX (zI (x.past-y.past)) ⟨rfl,rfl⟩
theorem aCU{v:Value}{xs:List ak}{L:Cells}{a b:Int}(ho:ay v 8 128 cW xs L)(hN:xs.length≤100000)(hP:gB xs)(xZ:0≤a∧a≤b∧b≤xs.length):eg zT 190 [v,zI a,zI b,.func (.func 109) ⟨[]⟩ ⟨[]⟩] ro L (fun r Y=>xJ v xs Y):=by
 refine zC [.l L]<|zD 3<|ja (a+1) (by omega)<|zD 3<|dV [1,0,0] [] (fun(zz:Int×(List ak)×Cells)=>[(0,v),(1,zI a),(2,zI b),(3,.func (.func 109) ⟨[]⟩ ⟨[]⟩),(8,zI zz.1)]) (fun zz=>[.l zz.2.2]) (fun zz=>(a+1≤zz.1)∧ay v 8 128 cW zz.2.1 zz.2.2∧zz.2.1.Perm xs) (fun zz=>(b-zz.1).toNat) (⟨(a+1),xs,L⟩) ⟨by dsimp only;omega,ho,.refl _⟩ [0] ?_
 rintro⟨i,ys,L⟩ hI K1 bO rest
 dsimp only at hI
 have Zx:=hI.2.2.length_eq
 have hyp:=hP.perm hI.2.2
 refine zD 7<|zJ 14 (i <b) (fun h1=>?_) fun h1=>?_
 ·
  refine zD 10<|dV [1,0,0,1,0,0,1,0,0] [K1] (fun(zz:Int×(List ak)×Cells)=>[(0,v),(1,zI a),(2,zI b),(3,.func (.func 109) ⟨[]⟩ ⟨[]⟩),(8,zI i),(9,zI zz.1)]) (fun zz=>[.l zz.2.2]) (fun zz=>(a≤zz.1∧zz.1≤i)∧ay v 8 128 cW zz.2.1 zz.2.2∧zz.2.1.Perm xs) (fun zz=>(zz.1-a).toNat) (⟨i,ys,L⟩) ⟨by dsimp only;omega,hI.2⟩ [0] ?_
  rintro⟨j,ys,L⟩ hJ K2 mr rest
  dsimp only at hJ
  have Zx:=hJ.2.2.length_eq
  have hyp:=hP.perm hJ.2.2
  refine zD 7<|js 3 (decide (j>a)) (fun h2=>?_) (fun h2=>?_)
  ·
   have mI:=h2
   replace mI:=of_decide_eq_true mI
   refine zD 3 ?_
   obtain⟨y5,lB⟩:=zG ys (j.toNat) (by first|omega| (simp only[List.length_set];omega))
   refine pZ j 8 hJ.2.1 lB (Int.toNat_of_nonneg (show 0≤j∧j <((ys).length:Int) from (by first|omega| (simp only[List.length_set];omega))).1).symm (fun j8 aiM=>?_)
   refine mT 0 [0] L (fun s _ hZ=>bR hJ.2.1 aiM hZ lB)<|zD 2<|ja (j-1) (by omega) ?_
   obtain⟨oI,jk⟩:=zG ys ((j-1).toNat) (by first|omega| (simp only[List.length_set];omega))
   refine pZ (j-1) 8 hJ.2.1 jk (Int.toNat_of_nonneg (show 0≤(j-1)∧(j-1) <((ys).length:Int) from (by first|omega| (simp only[List.length_set];omega))).1).symm (fun b30 Wd=>?_)
   refine mT 0 [0] L (fun s _ hZ=>bR hJ.2.1 Wd hZ jk)<|aQ 14 fun qp qv oV=>jp (vs:=[.agg ⟨[zI y5.past,zI y5.w0,zI y5.w1,zI y5.w2,zI y5.w3,zI y5.gone,zI y5.new,zI y5.af]⟩,.agg ⟨[zI oI.past,zI oI.w0,zI oI.w1,zI oI.w2,zI oI.w3,zI oI.gone,zI oI.new,zI oI.af]⟩]) [] [] (fun aH hs hZ=>(aon (x:=y5) (y:=oI) (hyp _ (zL lB)) (hyp _ (zL jk))))<|eo oV [0]<|zD 3<|zJ 34 ((y5.past-oI.past) <0) (fun h4=>?_) fun h4=>?_
   ·
    refine zD 9<|ja (j-1) (by omega)<|zD 2<|ja (j-1) (by omega) ?_
    obtain⟨ym,Fe⟩:=zG ys ((j-1).toNat) (by first|omega| (simp only[List.length_set];omega))
    refine pZ (j-1) 8 hJ.2.1 Fe (Int.toNat_of_nonneg (show 0≤(j-1)∧(j-1) <((ys).length:Int) from (by first|omega| (simp only[List.length_set];omega))).1).symm (fun b45 aiL=>?_)
    refine mT 0 [0] L (fun s _ hZ=>bR hJ.2.1 aiL hZ Fe)<|zD 2 ?_
    obtain⟨J0,Fc⟩:=zG ys (j.toNat) (by first|omega| (simp only[List.length_set];omega))
    refine pZ j 8 hJ.2.1 Fc (Int.toNat_of_nonneg (show 0≤j∧j <((ys).length:Int) from (by first|omega| (simp only[List.length_set];omega))).1).symm (fun b49 aiK=>?_)
    refine mT 0 [0] L (fun s _ hZ=>bR hJ.2.1 aiK hZ Fc) ?_
    obtain⟨x51,Fb⟩:=zG ys (j.toNat) (by first|omega| (simp only[List.length_set];omega))
    refine pZ j 8 hJ.2.1 Fb (Int.toNat_of_nonneg (show 0≤j∧j <((ys).length:Int) from (by first|omega| (simp only[List.length_set];omega))).1).symm (fun b51 aiJ=>?_)
    refine aQ 15 fun sq su qR=>MC 0 0 [zI ym.past,zI ym.w0,zI ym.w1,zI ym.w2,zI ym.w3,zI ym.gone,zI ym.new,zI ym.af] ym hJ.2.1 aiJ Fb rfl rfl (Nat.le_of_ble_eq_true rfl) fun L6 VU=>fJ qR [] ?_
    obtain⟨x52,wO⟩:=zG ((ys.set j.toNat ym)) ((j-1).toNat) (by first|omega| (simp only[List.length_set];omega))
    refine pZ (j-1) 8 VU wO (Int.toNat_of_nonneg (show 0≤(j-1)∧(j-1) <(((ys.set j.toNat ym)).length:Int) from (by first|omega| (simp only[List.length_set];omega))).1).symm (fun b52 aiI=>?_)
    refine aQ 17 fun AZ A9 BK=>MC 0 0 [zI J0.past,zI J0.w0,zI J0.w1,zI J0.w2,zI J0.w3,zI J0.gone,zI J0.new,zI J0.af] J0 VU aiI wO rfl rfl (Nat.le_of_ble_eq_true rfl) fun L9 VX=>fp BK<|zD 3<|ja (j-1) (by omega)<|zD 2<|bA mr (⟨(j-1),((ys.set j.toNat ym).set ((j-1).toNat) J0),L9⟩) ⟨by dsimp only;omega,VX,(nT Fc Fe).trans hJ.2.2⟩ (by dsimp only;omega) [0] (Sub.refl _)
   refine zD 4<|ja (i+1) (by omega)<|zD 2<|bA bO (⟨(i+1),ys,L⟩) ⟨by dsimp only;omega,hJ.2⟩ (by dsimp only;omega) [0] (Sub.refl _)
  have mI:=h2
  replace mI:=of_decide_eq_false mI
  refine zD 18<|ja (i+1) (by omega)<|zD 2<|bA bO (⟨(i+1),ys,L⟩) ⟨by dsimp only;omega,hJ.2⟩ (by dsimp only;omega) [0] (Sub.refl _)
 refine zD 2<|zR (.tuple ⟨[]⟩) [] [0] L ⟨ys,hI.2.2,hI.2.1⟩
def aI6(n:Nat):Prop:=∀(ro:Nat→Option Obj) (v:Value) (xs:List ak) (L:Cells) (a m b:Int),ay v 8 128 cW xs L→xs.length≤100000→gB xs→(0≤a∧a <m∧m <b∧b≤xs.length)→(b-a).toNat=n→
 eg zT 191 [v,zI a,zI m,zI b,.func (.func 109) ⟨[]⟩ ⟨[]⟩] ro L (fun _ Y=>xJ v xs Y)
theorem ae4{v:Value}{xs:List ak}{L:Cells}{a b n:Int}(ho:ay v 8 128 cW xs L)(hN:xs.length≤100000)(hP:gB xs)(xZ:(0≤a∧0≤b∧0≤n)∧a+n≤xs.length∧b+n≤xs.length∧a≠b):eg zT 241 [v,zI a,zI b,zI n,.func (.func 109) ⟨[]⟩ ⟨[]⟩] ro L (fun r Y=>xJ v xs Y):=by
 refine zC [.l L]<|zD 5<|dV [1,0,0] [] (fun(zz:Int×(List ak)×Cells)=>[(0,v),(1,zI a),(2,zI b),(3,zI n),(10,zI zz.1)]) (fun zz=>[.l zz.2.2]) (fun zz=>(0≤zz.1∧zz.1≤n)∧ay v 8 128 cW zz.2.1 zz.2.2∧zz.2.1.Perm xs) (fun zz=>(n-zz.1).toNat) (⟨0,xs,L⟩) ⟨by dsimp only;omega,ho,.refl _⟩ [0] ?_
 rintro⟨i,ys,L⟩ hI K1 bO rest
 dsimp only at hI
 have Zx:=hI.2.2.length_eq
 have hyp:=hP.perm hI.2.2
 refine zD 7<|zJ 13 (i <n) (fun h1=>?_) fun h1=>?_
 ·
  refine zD 8<|ja (a+i) (by omega)<|zD 3<|ja (b+i) (by omega)<|zD 3<|ja (b+i) (by omega) ?_
  obtain⟨x28,awg⟩:=zG ys ((b+i).toNat) (by first|omega| (simp only[List.length_set];omega))
  refine pZ (b+i) 8 hI.2.1 awg (Int.toNat_of_nonneg (show 0≤(b+i)∧(b+i) <((ys).length:Int) from (by first|omega| (simp only[List.length_set];omega))).1).symm (fun b28 aRY=>?_)
  refine mT 0 [0] L (fun s _ hZ=>bR hI.2.1 aRY hZ awg)<|zD 3<|ja (a+i) (by omega) ?_
  obtain⟨x34,OM⟩:=zG ys ((a+i).toNat) (by first|omega| (simp only[List.length_set];omega))
  refine pZ (a+i) 8 hI.2.1 OM (Int.toNat_of_nonneg (show 0≤(a+i)∧(a+i) <((ys).length:Int) from (by first|omega| (simp only[List.length_set];omega))).1).symm (fun b34 aRU=>?_)
  refine mT 0 [0] L (fun s _ hZ=>bR hI.2.1 aRU hZ OM) ?_
  obtain⟨x36,Ab⟩:=zG ys ((a+i).toNat) (by first|omega| (simp only[List.length_set];omega))
  refine pZ (a+i) 8 hI.2.1 Ab (Int.toNat_of_nonneg (show 0≤(a+i)∧(a+i) <((ys).length:Int) from (by first|omega| (simp only[List.length_set];omega))).1).symm (fun ng ayd=>?_)
  refine aQ 21 fun y4 ze wZ=>MC 0 0 [zI x28.past,zI x28.w0,zI x28.w1,zI x28.w2,zI x28.w3,zI x28.gone,zI x28.new,zI x28.af] x28 hI.2.1 ayd Ab rfl rfl (Nat.le_of_ble_eq_true rfl) fun L3 ho4=>fJ wZ [] ?_
  obtain⟨x37,ab3⟩:=zG ((ys.set ((a+i).toNat) x28)) ((b+i).toNat) (by first|omega| (simp only[List.length_set];omega))
  refine pZ (b+i) 8 ho4 ab3 (Int.toNat_of_nonneg (show 0≤(b+i)∧(b+i) <(((ys.set ((a+i).toNat) x28)).length:Int) from (by first|omega| (simp only[List.length_set];omega))).1).symm (fun b37 aRS=>?_)
  refine aQ 23 fun qp qv oV=>MC 0 0 [zI x34.past,zI x34.w0,zI x34.w1,zI x34.w2,zI x34.w3,zI x34.gone,zI x34.new,zI x34.af] x34 ho4 aRS ab3 rfl rfl (Nat.le_of_ble_eq_true rfl) fun L6 VU=>fp oV<|zD 3<|ja (i+1) (by omega)<|zD 2<|bA bO (⟨(i+1),((ys.set ((a+i).toNat) x28).set ((b+i).toNat) x34),L6⟩) ⟨by dsimp only;omega,VU,(nT OM awg).trans hI.2.2⟩ (by dsimp only;omega) [0] (Sub.refl _)
 refine zD 2<|zR (.tuple ⟨[]⟩) [] [0] L ⟨ys,hI.2.2,hI.2.1⟩
theorem aME{v:Value}{xs:List ak}{L:Cells}{a m b:Int}(ho:ay v 8 128 cW xs L)(hN:xs.length≤100000)(hP:gB xs)(xZ:0≤a∧a <m∧m <b∧b≤xs.length):eg zT 220 [v,zI a,zI m,zI b,.func (.func 109) ⟨[]⟩ ⟨[]⟩] ro L (fun r Y=>xJ v xs Y):=by
 refine zC [.l L]<|zD 4<|ja (m-a) (by omega)<|zD 6<|ja (b-m) (by omega)<|zD 4<|dV [1,1,0,0,0] [] (fun(zz:Int×Int×(List ak)×Cells)=>[(0,v),(2,zI m),(4,.func (.func 109) ⟨[]⟩ ⟨[]⟩),(10,zI zz.1),(11,zI zz.2.1)]) (fun zz=>[.l zz.2.2.2]) (fun zz=>((0 <zz.1∧zz.1≤m-a)∧0 <zz.2.1∧zz.2.1≤b-m)∧ay v 8 128 cW zz.2.2.1 zz.2.2.2∧zz.2.2.1.Perm xs) (fun zz=>(zz.1+zz.2.1).toNat) (⟨(m-a),(b-m),xs,L⟩) ⟨by dsimp only;omega,ho,.refl _⟩ [0] ?_
 rintro⟨i,j,ys,L⟩ hI K1 bO rest
 dsimp only at hI
 have Zx:=hI.2.2.length_eq
 have hyp:=hP.perm hI.2.2
 refine zD 7<|js 20 (!decide (i=j)) (fun h1=>?_) (fun h1=>?_)
 ·
  replace h1:=of_decide_eq_false (by simpa using h1)
  refine zD 9<|zJ 23 (i>j) (fun h2=>?_) fun h2=>?_
  ·
   refine zD 6<|ja (m-i) (by omega)<|zD 3<|jc (vs:=[v,zI (m-i),zI m,zI j,.func (.func 109) ⟨[]⟩ ⟨[]⟩]) [0] (ae4 hI.2.1 (by omega) hyp (by omega)) ?_
   rintro aYv Y31 ⟨aLe,awH,aQb⟩
   have aV4:=awH.length_eq
   have aVX:=gB.perm hyp awH
   refine zD 4<|ja (i-j) (by omega)<|zD 2<|bA bO (⟨(i-j),j,aLe,Y31⟩) ⟨by dsimp only;omega,aQb,(awH.trans hI.2.2)⟩ (by dsimp only;omega) [0] (Sub.refl _)
  refine zD 6<|ja (m-i) (by omega)<|zD 2<|ja (m+j) (by omega)<|zD 1<|ja ((m+j)-i) (by omega)<|zD 2<|jc (vs:=[v,zI (m-i),zI ((m+j)-i),zI i,.func (.func 109) ⟨[]⟩ ⟨[]⟩]) [0] (ae4 hI.2.1 (by omega) hyp (by omega)) ?_
  rintro aYt Y46 ⟨aLc,awF,aP7⟩
  have aV2:=awF.length_eq
  have aVV:=gB.perm hyp awF
  refine zD 4<|ja (j-i) (by omega)<|zD 2<|bA bO (⟨i,(j-i),aLc,Y46⟩) ⟨by dsimp only;omega,aP7,(awF.trans hI.2.2)⟩ (by dsimp only;omega) [0] (Sub.refl _)
 replace h1:=of_decide_eq_true (by simpa using h1)
 refine zD 6<|ja (m-i) (by omega)<|zD 3<|jc (vs:=[v,zI (m-i),zI m,zI i,.func (.func 109) ⟨[]⟩ ⟨[]⟩]) [0] (ae4 hI.2.1 (by omega) hyp (by omega)) ?_
 rintro aYs Y57 ⟨aXK,awD,aoN⟩
 have aV1:=awD.length_eq
 have aVU:=gB.perm hyp awD
 refine zD 1<|zR (.tuple ⟨[]⟩) [] [0] Y57 ⟨_,(awD.trans hI.2.2),aoN⟩
theorem aCR{v:Value}{xs:List ak}{L:Cells}{a m b:Int}(ih:∀k,k <n→aI6 k)(ho:ay v 8 128 cW xs L)(hN:xs.length≤100000)(hP:gB xs)(xZ:0≤a∧a <m∧m <b∧b≤xs.length)(hn:(b-a).toNat=n):eg zT 191 [v,zI a,zI m,zI b,.func (.func 109) ⟨[]⟩ ⟨[]⟩] ro L (fun r Y=>xJ v xs Y):=by
 refine zC [.l L]<|zD 5<|ja (m-a) (by omega)<|zD 2<|zJ 28 ((m-a)=1) (fun h1=>?_) fun h1=>?_
 ·
  refine zD 13<|dV [0,1,0,1,1,0,0,0] [] (fun(zz:Int×Int)=>[(0,v),(1,zI a),(2,zI m),(3,zI b),(4,.func (.func 109) ⟨[]⟩ ⟨[]⟩),(10,zI zz.1),(11,zI zz.2)]) (fun zz=>[.l L]) (fun zz=>(m≤zz.1∧zz.1≤zz.2)∧zz.2≤b) (fun zz=>(zz.2-zz.1).toNat) (⟨m,b⟩) (by dsimp only;omega) [0] ?_
  rintro⟨i,j⟩ hI K1 bO rest
  dsimp only at hI
  refine zD 7<|zJ 33 (i <j) (fun h2=>?_) fun h2=>?_
  ·
   refine zD 7<|ja (i+j) (by omega)<|zD 6 ?_
   have hh:=F4 (x:=i+j) (by omega)
   refine zD 4 ?_
   obtain⟨x43,awd⟩:=zG xs ((IntKind.i64.wrap (aT .u64 (IntKind.u64.wrap (i+j)) 1)).toNat) (by first|omega| (simp only[List.length_set];omega))
   refine pZ (IntKind.i64.wrap (aT .u64 (IntKind.u64.wrap (i+j)) 1)) 8 ho awd (Int.toNat_of_nonneg (show 0≤(IntKind.i64.wrap (aT .u64 (IntKind.u64.wrap (i+j)) 1))∧(IntKind.i64.wrap (aT .u64 (IntKind.u64.wrap (i+j)) 1)) <((xs).length:Int) from (by first|omega| (simp only[List.length_set];omega))).1).symm (fun b43 aRP=>?_)
   refine mT 0 [0] L (fun s _ hZ=>bR ho aRP hZ awd)<|zD 2 ?_
   obtain⟨KU,HK⟩:=zG xs (a.toNat) (by first|omega| (simp only[List.length_set];omega))
   refine pZ a 8 ho HK (Int.toNat_of_nonneg (show 0≤a∧a <((xs).length:Int) from (by first|omega| (simp only[List.length_set];omega))).1).symm (fun b47 ayb=>?_)
   refine mT 0 [0] L (fun s _ hZ=>bR ho ayb hZ HK)<|aQ 9 fun y4 ze wZ=>jp (vs:=[.agg ⟨[zI x43.past,zI x43.w0,zI x43.w1,zI x43.w2,zI x43.w3,zI x43.gone,zI x43.new,zI x43.af]⟩,.agg ⟨[zI KU.past,zI KU.w0,zI KU.w1,zI KU.w2,zI KU.w3,zI KU.gone,zI KU.new,zI KU.af]⟩]) [] [] (fun aH hs hZ=>(aon (x:=x43) (y:=KU) (hP _ (zL awd)) (hP _ (zL HK))))<|eo wZ [0]<|zD 2<|zJ 50 ((x43.past-KU.past) <0) (fun h4=>?_) fun h4=>?_
   ·
    refine zD 3<|ja ((IntKind.i64.wrap (aT .u64 (IntKind.u64.wrap (i+j)) 1))+1) (by omega)<|zD 2<|bA bO (⟨((IntKind.i64.wrap (aT .u64 (IntKind.u64.wrap (i+j)) 1))+1),j⟩) (by dsimp only;omega) (by dsimp only;omega) [0] (Sub.refl _)
   refine zD 5<|bA bO (⟨i,(IntKind.i64.wrap (aT .u64 (IntKind.u64.wrap (i+j)) 1))⟩) (by dsimp only;omega) (by dsimp only;omega) [0] (Sub.refl _)
  refine zD 9<|dV [0,1,0,1,1,1,0,1,0,0] [] (fun(zz:Int×(List ak)×Cells)=>[(0,v),(1,zI a),(2,zI m),(3,zI b),(4,.func (.func 109) ⟨[]⟩ ⟨[]⟩),(10,zI i),(13,zI zz.1)]) (fun zz=>[.l zz.2.2]) (fun zz=>a≤zz.1∧ay v 8 128 cW zz.2.1 zz.2.2∧zz.2.1.Perm xs) (fun zz=>(i-zz.1).toNat) (⟨a,xs,L⟩) ⟨by dsimp only;omega,ho,.refl _⟩ [0] ?_
  rintro⟨k,ys,L⟩ hJ K3 hK3 rest
  dsimp only at hJ
  have Zx:=hJ.2.2.length_eq
  have hyp:=hP.perm hJ.2.2
  refine zD 5<|ja (i-1) (by omega)<|zD 2<|zJ 58 (k <(i-1)) (fun h5=>?_) fun h5=>?_
  ·
   refine zD 9<|ja (k+1) (by omega)<|zD 2<|ja (k+1) (by omega) ?_
   obtain⟨Qo,OH⟩:=zG ys ((k+1).toNat) (by first|omega| (simp only[List.length_set];omega))
   refine pZ (k+1) 8 hJ.2.1 OH (Int.toNat_of_nonneg (show 0≤(k+1)∧(k+1) <((ys).length:Int) from (by first|omega| (simp only[List.length_set];omega))).1).symm (fun b69 aiH=>?_)
   refine mT 0 [0] L (fun s _ hZ=>bR hJ.2.1 aiH hZ OH)<|zD 2 ?_
   obtain⟨x73,ab2⟩:=zG ys (k.toNat) (by first|omega| (simp only[List.length_set];omega))
   refine pZ k 8 hJ.2.1 ab2 (Int.toNat_of_nonneg (show 0≤k∧k <((ys).length:Int) from (by first|omega| (simp only[List.length_set];omega))).1).symm (fun b73 aRK=>?_)
   refine mT 0 [0] L (fun s _ hZ=>bR hJ.2.1 aRK hZ ab2) ?_
   obtain⟨x75,VF⟩:=zG ys (k.toNat) (by first|omega| (simp only[List.length_set];omega))
   refine pZ k 8 hJ.2.1 VF (Int.toNat_of_nonneg (show 0≤k∧k <((ys).length:Int) from (by first|omega| (simp only[List.length_set];omega))).1).symm (fun b75 aRJ=>?_)
   refine aQ 15 fun sq su qR=>MC 0 0 [zI Qo.past,zI Qo.w0,zI Qo.w1,zI Qo.w2,zI Qo.w3,zI Qo.gone,zI Qo.new,zI Qo.af] Qo hJ.2.1 aRJ VF rfl rfl (Nat.le_of_ble_eq_true rfl) fun L7 ho8=>fJ qR [] ?_
   obtain⟨x76,aE3⟩:=zG ((ys.set k.toNat Qo)) ((k+1).toNat) (by first|omega| (simp only[List.length_set];omega))
   refine pZ (k+1) 8 ho8 aE3 (Int.toNat_of_nonneg (show 0≤(k+1)∧(k+1) <(((ys.set k.toNat Qo)).length:Int) from (by first|omega| (simp only[List.length_set];omega))).1).symm (fun b76 aRI=>?_)
   refine aQ 17 fun AZ A9 BK=>MC 0 0 [zI x73.past,zI x73.w0,zI x73.w1,zI x73.w2,zI x73.w3,zI x73.gone,zI x73.new,zI x73.af] x73 ho8 aRI aE3 rfl rfl (Nat.le_of_ble_eq_true rfl) fun L10 awQ=>fp BK<|zD 3<|ja (k+1) (by omega)<|zD 2<|bA hK3 (⟨(k+1),((ys.set k.toNat Qo).set ((k+1).toNat) x73),L10⟩) ⟨by dsimp only;omega,awQ,(nT ab2 OH).trans hJ.2.2⟩ (by dsimp only;omega) [0] (Sub.refl _)
  refine zD 3<|zR (.tuple ⟨[]⟩) [] [0] L ⟨_,hJ.2.2,hJ.2.1⟩
 refine zD 7<|ja (b-m) (by omega)<|zD 2<|zJ 80 ((b-m)=1) (fun JU=>?_) fun JU=>?_
 ·
  refine zD 13<|dV [1,0,1,0,1,1,0,0,0] [] (fun(zz:Int×Int)=>[(0,v),(1,zI a),(2,zI m),(3,zI b),(4,.func (.func 109) ⟨[]⟩ ⟨[]⟩),(14,zI zz.1),(15,zI zz.2)]) (fun zz=>[.l L]) (fun zz=>(a≤zz.1∧zz.1≤zz.2)∧zz.2≤m) (fun zz=>(zz.2-zz.1).toNat) (⟨a,m⟩) (by dsimp only;omega) [0] ?_
  rintro⟨i,j⟩ hI K6 hK6 rest
  dsimp only at hI
  refine zD 7<|zJ 85 (i <j) (fun Cn=>?_) fun Cn=>?_
  ·
   refine zD 7<|ja (i+j) (by omega)<|zD 6 ?_
   have hh:=F4 (x:=i+j) (by omega)
   refine zD 4 ?_
   obtain⟨x95,awb⟩:=zG xs (m.toNat) (by first|omega| (simp only[List.length_set];omega))
   refine pZ m 8 ho awb (Int.toNat_of_nonneg (show 0≤m∧m <((xs).length:Int) from (by first|omega| (simp only[List.length_set];omega))).1).symm (fun b95 aRH=>?_)
   refine mT 0 [0] L (fun s _ hZ=>bR ho aRH hZ awb)<|zD 2 ?_
   obtain⟨x99,av9⟩:=zG xs ((IntKind.i64.wrap (aT .u64 (IntKind.u64.wrap (i+j)) 1)).toNat) (by first|omega| (simp only[List.length_set];omega))
   refine pZ (IntKind.i64.wrap (aT .u64 (IntKind.u64.wrap (i+j)) 1)) 8 ho av9 (Int.toNat_of_nonneg (show 0≤(IntKind.i64.wrap (aT .u64 (IntKind.u64.wrap (i+j)) 1))∧(IntKind.i64.wrap (aT .u64 (IntKind.u64.wrap (i+j)) 1)) <((xs).length:Int) from (by first|omega| (simp only[List.length_set];omega))).1).symm (fun b99 aRG=>?_)
   refine mT 0 [0] L (fun s _ hZ=>bR ho aRG hZ av9)<|aQ 9 fun amy amR Wl=>jp (vs:=[.agg ⟨[zI x95.past,zI x95.w0,zI x95.w1,zI x95.w2,zI x95.w3,zI x95.gone,zI x95.new,zI x95.af]⟩,.agg ⟨[zI x99.past,zI x99.w0,zI x99.w1,zI x99.w2,zI x99.w3,zI x99.gone,zI x99.new,zI x99.af]⟩]) [] [] (fun aH hs hZ=>(aon (x:=x95) (y:=x99) (hP _ (zL awb)) (hP _ (zL av9))))<|eo Wl [0]<|zD 3<|js 103 (!(decide ((x95.past-x99.past) <0))) (fun Ft=>?_) (fun Ft=>?_)
   ·
    try simp only[zB] at Ft
    refine zD 3<|ja ((IntKind.i64.wrap (aT .u64 (IntKind.u64.wrap (i+j)) 1))+1) (by omega)<|zD 2<|bA hK6 (⟨((IntKind.i64.wrap (aT .u64 (IntKind.u64.wrap (i+j)) 1))+1),j⟩) (by dsimp only;omega) (by dsimp only;omega) [0] (Sub.refl _)
   try simp only[zB] at Ft
   refine zD 5<|bA hK6 (⟨i,(IntKind.i64.wrap (aT .u64 (IntKind.u64.wrap (i+j)) 1))⟩) (by dsimp only;omega) (by dsimp only;omega) [0] (Sub.refl _)
  refine zD 9<|dV [1,0,1,0,1,1,1,0,1,0,0] [] (fun(zz:Int×(List ak)×Cells)=>[(0,v),(1,zI a),(2,zI m),(3,zI b),(4,.func (.func 109) ⟨[]⟩ ⟨[]⟩),(14,zI i),(17,zI zz.1)]) (fun zz=>[.l zz.2.2]) (fun zz=>(a≤i∧zz.1≤m)∧ay v 8 128 cW zz.2.1 zz.2.2∧zz.2.1.Perm xs) (fun zz=>(zz.1-i).toNat) (⟨m,xs,L⟩) ⟨by dsimp only;omega,ho,.refl _⟩ [0] ?_
  rintro⟨k,ys,L⟩ hJ K8 Ue rest
  dsimp only at hJ
  have Zx:=hJ.2.2.length_eq
  have hyp:=hP.perm hJ.2.2
  refine zD 7<|zJ 110 (k>i) (fun WN=>?_) fun WN=>?_
  ·
   refine zD 9<|ja (k-1) (by omega)<|zD 2<|ja (k-1) (by omega) ?_
   obtain⟨Cr,aht⟩:=zG ys ((k-1).toNat) (by first|omega| (simp only[List.length_set];omega))
   refine pZ (k-1) 8 hJ.2.1 aht (Int.toNat_of_nonneg (show 0≤(k-1)∧(k-1) <((ys).length:Int) from (by first|omega| (simp only[List.length_set];omega))).1).symm (fun bc4 aHi=>?_)
   refine mT 0 [0] L (fun s _ hZ=>bR hJ.2.1 aHi hZ aht)<|zD 2 ?_
   obtain⟨J3,ahs⟩:=zG ys (k.toNat) (by first|omega| (simp only[List.length_set];omega))
   refine pZ k 8 hJ.2.1 ahs (Int.toNat_of_nonneg (show 0≤k∧k <((ys).length:Int) from (by first|omega| (simp only[List.length_set];omega))).1).symm (fun bc3 aHh=>?_)
   refine mT 0 [0] L (fun s _ hZ=>bR hJ.2.1 aHh hZ ahs) ?_
   obtain⟨aXR,arF⟩:=zG ys (k.toNat) (by first|omega| (simp only[List.length_set];omega))
   refine pZ k 8 hJ.2.1 arF (Int.toNat_of_nonneg (show 0≤k∧k <((ys).length:Int) from (by first|omega| (simp only[List.length_set];omega))).1).symm (fun bc2 aHg=>?_)
   refine aQ 15 fun Uk Uy SQ=>MC 0 0 [zI Cr.past,zI Cr.w0,zI Cr.w1,zI Cr.w2,zI Cr.w3,zI Cr.gone,zI Cr.new,zI Cr.af] Cr hJ.2.1 aHg arF rfl rfl (Nat.le_of_ble_eq_true rfl) fun L18 aF8=>fJ SQ [] ?_
   obtain⟨aXQ,Zy⟩:=zG ((ys.set k.toNat Cr)) ((k-1).toNat) (by first|omega| (simp only[List.length_set];omega))
   refine pZ (k-1) 8 aF8 Zy (Int.toNat_of_nonneg (show 0≤(k-1)∧(k-1) <(((ys.set k.toNat Cr)).length:Int) from (by first|omega| (simp only[List.length_set];omega))).1).symm (fun PM aHf=>?_)
   refine aQ 17 fun DW Ef uO=>MC 0 0 [zI J3.past,zI J3.w0,zI J3.w1,zI J3.w2,zI J3.w3,zI J3.gone,zI J3.new,zI J3.af] J3 aF8 aHf Zy rfl rfl (Nat.le_of_ble_eq_true rfl) fun L21 aQe=>fp uO<|zD 3<|ja (k-1) (by omega)<|zD 2<|bA Ue (⟨(k-1),((ys.set k.toNat Cr).set ((k-1).toNat) J3),L21⟩) ⟨by dsimp only;omega,aQe,(nT ahs aht).trans hJ.2.2⟩ (by dsimp only;omega) [0] (Sub.refl _)
  refine zD 3<|zR (.tuple ⟨[]⟩) [] [0] L ⟨_,hJ.2.2,hJ.2.1⟩
 refine zD 6<|ja (a+b) (by omega)<|zD 6 ?_
 have bbf:=F4 (x:=a+b) (by omega)
 refine zD 3<|ja ((IntKind.i64.wrap (aT .u64 (IntKind.u64.wrap (a+b)) 1))+m) (by omega)<|zD 14<|yK [1,1,1,1,1,1] [] (fun(zz:Int×Int)=>[(0,v),(1,zI a),(2,zI m),(3,zI b),(4,.func (.func 109) ⟨[]⟩ ⟨[]⟩),(18,zI (IntKind.i64.wrap (aT .u64 (IntKind.u64.wrap (a+b)) 1))),(19,zI ((IntKind.i64.wrap (aT .u64 (IntKind.u64.wrap (a+b)) 1))+m)),(20,zI zz.1),(21,zI zz.2)]) (fun zz=>[.l L]) (fun zz=>(a≤zz.1∧zz.1≤zz.2)∧zz.2≤b∧a≤((IntKind.i64.wrap (aT .u64 (IntKind.u64.wrap (a+b)) 1))+m)-zz.2∧((IntKind.i64.wrap (aT .u64 (IntKind.u64.wrap (a+b)) 1))+m)-zz.1≤b) ?_ (fun K11 aHw=>?_)
 ·
  rintro⟨s0,r0⟩ hC rest
  dsimp only at hC
  refine zD 3<|ja (((IntKind.i64.wrap (aT .u64 (IntKind.u64.wrap (a+b)) 1))+m)-1) (by omega)<|zD 4<|dV [1,1,1,1,1,1,1,0,0,0] [] (fun(zz:Int×Int)=>[(0,v),(1,zI a),(2,zI m),(3,zI b),(4,.func (.func 109) ⟨[]⟩ ⟨[]⟩),(18,zI (IntKind.i64.wrap (aT .u64 (IntKind.u64.wrap (a+b)) 1))),(19,zI ((IntKind.i64.wrap (aT .u64 (IntKind.u64.wrap (a+b)) 1))+m)),(20,zI zz.1),(21,zI zz.2),(22,zI (((IntKind.i64.wrap (aT .u64 (IntKind.u64.wrap (a+b)) 1))+m)-1))]) (fun zz=>[.l L]) (fun zz=>(a≤zz.1∧zz.1≤zz.2)∧zz.2≤b∧a≤((IntKind.i64.wrap (aT .u64 (IntKind.u64.wrap (a+b)) 1))+m)-zz.2∧((IntKind.i64.wrap (aT .u64 (IntKind.u64.wrap (a+b)) 1))+m)-zz.1≤b) (fun zz=>(zz.2-zz.1).toNat) (⟨s0,r0⟩) hC [0] ?_
  rintro⟨sx,r⟩ hK K12 aHv rest
  dsimp only at hK
  refine zD 7<|zJ 151 (sx <r) (fun vN=>?_) fun vN=>?_
  ·
   refine zD 7<|ja (sx+r) (by omega)<|zD 6 ?_
   have hsr:=F4 (x:=sx+r) (by omega)
   refine zD 5<|ja ((((IntKind.i64.wrap (aT .u64 (IntKind.u64.wrap (a+b)) 1))+m)-1)-(IntKind.i64.wrap (aT .u64 (IntKind.u64.wrap (sx+r)) 1))) (by omega) ?_
   obtain⟨J2,ahq⟩:=zG xs (((((IntKind.i64.wrap (aT .u64 (IntKind.u64.wrap (a+b)) 1))+m)-1)-(IntKind.i64.wrap (aT .u64 (IntKind.u64.wrap (sx+r)) 1))).toNat) (by first|omega| (simp only[List.length_set];omega))
   refine pZ ((((IntKind.i64.wrap (aT .u64 (IntKind.u64.wrap (a+b)) 1))+m)-1)-(IntKind.i64.wrap (aT .u64 (IntKind.u64.wrap (sx+r)) 1))) 8 ho ahq (Int.toNat_of_nonneg (show 0≤((((IntKind.i64.wrap (aT .u64 (IntKind.u64.wrap (a+b)) 1))+m)-1)-(IntKind.i64.wrap (aT .u64 (IntKind.u64.wrap (sx+r)) 1)))∧((((IntKind.i64.wrap (aT .u64 (IntKind.u64.wrap (a+b)) 1))+m)-1)-(IntKind.i64.wrap (aT .u64 (IntKind.u64.wrap (sx+r)) 1))) <((xs).length:Int) from (by first|omega| (simp only[List.length_set];omega))).1).symm (fun bc1 aHe=>?_)
   refine mT 0 [0] L (fun s _ hZ=>bR ho aHe hZ ahq)<|zD 2 ?_
   obtain⟨J1,ahp⟩:=zG xs ((IntKind.i64.wrap (aT .u64 (IntKind.u64.wrap (sx+r)) 1)).toNat) (by first|omega| (simp only[List.length_set];omega))
   refine pZ (IntKind.i64.wrap (aT .u64 (IntKind.u64.wrap (sx+r)) 1)) 8 ho ahp (Int.toNat_of_nonneg (show 0≤(IntKind.i64.wrap (aT .u64 (IntKind.u64.wrap (sx+r)) 1))∧(IntKind.i64.wrap (aT .u64 (IntKind.u64.wrap (sx+r)) 1)) <((xs).length:Int) from (by first|omega| (simp only[List.length_set];omega))).1).symm (fun bc0 aHd=>?_)
   refine mT 0 [0] L (fun s _ hZ=>bR ho aHd hZ ahp)<|aQ 11 fun aqz aqS O4=>jp (vs:=[.agg ⟨[zI J2.past,zI J2.w0,zI J2.w1,zI J2.w2,zI J2.w3,zI J2.gone,zI J2.new,zI J2.af]⟩,.agg ⟨[zI J1.past,zI J1.w0,zI J1.w1,zI J1.w2,zI J1.w3,zI J1.gone,zI J1.new,zI J1.af]⟩]) [] [] (fun aH hs hZ=>(aon (x:=J2) (y:=J1) (hP _ (zL ahq)) (hP _ (zL ahp))))<|eo O4 [0]<|zD 3<|js 171 (!(decide ((J2.past-J1.past) <0))) (fun h25=>?_) (fun h25=>?_)
   ·
    try simp only[zB] at h25
    refine zD 3<|ja ((IntKind.i64.wrap (aT .u64 (IntKind.u64.wrap (sx+r)) 1))+1) (by omega)<|zD 2<|bA aHv (⟨((IntKind.i64.wrap (aT .u64 (IntKind.u64.wrap (sx+r)) 1))+1),r⟩) (by dsimp only;omega) (by dsimp only;omega) [0] (Sub.refl _)
   try simp only[zB] at h25
   refine zD 5<|bA aHv (⟨sx,(IntKind.i64.wrap (aT .u64 (IntKind.u64.wrap (sx+r)) 1))⟩) (by dsimp only;omega) (by dsimp only;omega) [0] (Sub.refl _)
  refine zD 6<|ja (((IntKind.i64.wrap (aT .u64 (IntKind.u64.wrap (a+b)) 1))+m)-sx) (by omega)<|zD 9<|jj 4 [(0,v),(1,zI a),(2,zI m),(3,zI b),(4,.func (.func 109) ⟨[]⟩ ⟨[]⟩),(18,zI (IntKind.i64.wrap (aT .u64 (IntKind.u64.wrap (a+b)) 1))),(20,zI sx),(24,zI (((IntKind.i64.wrap (aT .u64 (IntKind.u64.wrap (a+b)) 1))+m)-sx)),(185,.bool ((decide (sx <m))&&(decide (m <(((IntKind.i64.wrap (aT .u64 (IntKind.u64.wrap (a+b)) 1))+m)-sx)))))] (fun gp=>?_) (fun hj=>?_)
  rotate_left
  refine js 181 (decide (sx <m)) (fun SY=>?_) (fun SY=>?_)
  ·
   have Iv:=SY
   replace Iv:=of_decide_eq_true Iv
   refine zD 4<|jw 185 (.bool ((decide (sx <m))&&(decide (m <(((IntKind.i64.wrap (aT .u64 (IntKind.u64.wrap (a+b)) 1))+m)-sx))))) (w:= .bool (decide (m <(((IntKind.i64.wrap (aT .u64 (IntKind.u64.wrap (a+b)) 1))+m)-sx)))) (by rw[SY]<;>rfl) ?_
   exact zK hj
  ·
   have Iv:=SY
   replace Iv:=of_decide_eq_false Iv
   refine zD 4<|jw 185 (.bool ((decide (sx <m))&&(decide (m <(((IntKind.i64.wrap (aT .u64 (IntKind.u64.wrap (a+b)) 1))+m)-sx))))) (w:= .bool false) (by rw[SY]<;>rfl) ?_
   exact zK hj
  refine zD 1<|yK [1,1,1,1,1,1,1,1,1,1] [] (fun(zz:(List ak)×Cells)=>[(0,v),(1,zI a),(3,zI b),(4,.func (.func 109) ⟨[]⟩ ⟨[]⟩),(18,zI (IntKind.i64.wrap (aT .u64 (IntKind.u64.wrap (a+b)) 1))),(20,zI sx),(24,zI (((IntKind.i64.wrap (aT .u64 (IntKind.u64.wrap (a+b)) 1))+m)-sx))]) (fun zz=>[.l zz.2]) (fun zz=>zz.1.Perm xs∧ay v 8 128 cW zz.1 zz.2) ?_ (fun K14 Kz=>?_)
  ·
   rintro⟨ys,L⟩ hA rest
   dsimp only at hA
   have Zx:=hA.1.length_eq
   have hyp:=hP.perm hA.1
   refine zD 7<|jj 4 [(0,v),(1,zI a),(3,zI b),(4,.func (.func 109) ⟨[]⟩ ⟨[]⟩),(18,zI (IntKind.i64.wrap (aT .u64 (IntKind.u64.wrap (a+b)) 1))),(20,zI sx),(24,zI (((IntKind.i64.wrap (aT .u64 (IntKind.u64.wrap (a+b)) 1))+m)-sx)),(199,.bool ((decide (a <sx))&&(decide (sx <(IntKind.i64.wrap (aT .u64 (IntKind.u64.wrap (a+b)) 1))))))] (fun gp=>?_) (fun hj=>?_)
   rotate_left
   refine js 195 (decide (a <sx)) (fun ZX=>?_) (fun ZX=>?_)
   ·
    have KC:=ZX
    replace KC:=of_decide_eq_true KC
    refine zD 4<|jw 199 (.bool ((decide (a <sx))&&(decide (sx <(IntKind.i64.wrap (aT .u64 (IntKind.u64.wrap (a+b)) 1)))))) (w:= .bool (decide (sx <(IntKind.i64.wrap (aT .u64 (IntKind.u64.wrap (a+b)) 1))))) (by rw[ZX]<;>rfl) ?_
    exact zK hj
   ·
    have KC:=ZX
    replace KC:=of_decide_eq_false KC
    refine zD 4<|jw 199 (.bool ((decide (a <sx))&&(decide (sx <(IntKind.i64.wrap (aT .u64 (IntKind.u64.wrap (a+b)) 1)))))) (w:= .bool false) (by rw[ZX]<;>rfl) ?_
    exact zK hj
   refine zD 1<|yK [1,1,1,1,1,1,1,1,1,1,1] [] (fun(zz:(List ak)×Cells)=>[(0,v),(3,zI b),(4,.func (.func 109) ⟨[]⟩ ⟨[]⟩),(18,zI (IntKind.i64.wrap (aT .u64 (IntKind.u64.wrap (a+b)) 1))),(24,zI (((IntKind.i64.wrap (aT .u64 (IntKind.u64.wrap (a+b)) 1))+m)-sx))]) (fun zz=>[.l zz.2]) (fun zz=>zz.1.Perm xs∧ay v 8 128 cW zz.1 zz.2) ?_ (fun K15 aHu=>?_)
   ·
    rintro⟨ys,L⟩ hB rest
    dsimp only at hB
    have Zx:=hB.1.length_eq
    have hyp:=hP.perm hB.1
    refine zD 6<|jj 4 [(0,v),(3,zI b),(4,.func (.func 109) ⟨[]⟩ ⟨[]⟩),(18,zI (IntKind.i64.wrap (aT .u64 (IntKind.u64.wrap (a+b)) 1))),(24,zI (((IntKind.i64.wrap (aT .u64 (IntKind.u64.wrap (a+b)) 1))+m)-sx)),(213,.bool ((decide ((IntKind.i64.wrap (aT .u64 (IntKind.u64.wrap (a+b)) 1)) <(((IntKind.i64.wrap (aT .u64 (IntKind.u64.wrap (a+b)) 1))+m)-sx)))&&(decide ((((IntKind.i64.wrap (aT .u64 (IntKind.u64.wrap (a+b)) 1))+m)-sx) <b))))] (fun gp=>?_) (fun hj=>?_)
    rotate_left
    refine js 209 (decide ((IntKind.i64.wrap (aT .u64 (IntKind.u64.wrap (a+b)) 1)) <(((IntKind.i64.wrap (aT .u64 (IntKind.u64.wrap (a+b)) 1))+m)-sx))) (fun SX=>?_) (fun SX=>?_)
    ·
     have Iu:=SX
     replace Iu:=of_decide_eq_true Iu
     refine zD 4<|jw 213 (.bool ((decide ((IntKind.i64.wrap (aT .u64 (IntKind.u64.wrap (a+b)) 1)) <(((IntKind.i64.wrap (aT .u64 (IntKind.u64.wrap (a+b)) 1))+m)-sx)))&&(decide ((((IntKind.i64.wrap (aT .u64 (IntKind.u64.wrap (a+b)) 1))+m)-sx) <b)))) (w:= .bool (decide ((((IntKind.i64.wrap (aT .u64 (IntKind.u64.wrap (a+b)) 1))+m)-sx) <b))) (by rw[SX]<;>rfl) ?_
     exact zK hj
    ·
     have Iu:=SX
     replace Iu:=of_decide_eq_false Iu
     refine zD 4<|jw 213 (.bool ((decide ((IntKind.i64.wrap (aT .u64 (IntKind.u64.wrap (a+b)) 1)) <(((IntKind.i64.wrap (aT .u64 (IntKind.u64.wrap (a+b)) 1))+m)-sx)))&&(decide ((((IntKind.i64.wrap (aT .u64 (IntKind.u64.wrap (a+b)) 1))+m)-sx) <b)))) (w:= .bool false) (by rw[SX]<;>rfl) ?_
     exact zK hj
    refine zD 1<|js 213 ((decide ((IntKind.i64.wrap (aT .u64 (IntKind.u64.wrap (a+b)) 1)) <(((IntKind.i64.wrap (aT .u64 (IntKind.u64.wrap (a+b)) 1))+m)-sx)))&&(decide ((((IntKind.i64.wrap (aT .u64 (IntKind.u64.wrap (a+b)) 1))+m)-sx) <b))) (fun h29=>?_) (fun h29=>?_)
    ·
     try simp only[zB] at h29
     refine zD 7<|jc (vs:=[v,zI (IntKind.i64.wrap (aT .u64 (IntKind.u64.wrap (a+b)) 1)),zI (((IntKind.i64.wrap (aT .u64 (IntKind.u64.wrap (a+b)) 1))+m)-sx),zI b,.func (.func 109) ⟨[]⟩ ⟨[]⟩]) [0] (ih _ (show (b-(IntKind.i64.wrap (aT .u64 (IntKind.u64.wrap (a+b)) 1))).toNat <n by omega) _ _ _ _ _ _ _ hB.2 (by omega) hyp (by omega) rfl) ?_
     rintro aU9 aTW ⟨aUM,ahL,aF4⟩
     have aOZ:=ahL.length_eq
     have aOV:=gB.perm hyp ahL
     refine zD 1<|zR (.tuple ⟨[]⟩) [] [0] aTW ⟨_,(ahL.trans hB.1),aF4⟩
    try simp only[zB] at h29
    refine zD 2<|zR (.tuple ⟨[]⟩) [] [0] L ⟨_,hB.1,hB.2⟩
   refine js 199 ((decide (a <sx))&&(decide (sx <(IntKind.i64.wrap (aT .u64 (IntKind.u64.wrap (a+b)) 1))))) (fun ZW=>?_) (fun ZW=>?_)
   ·
    try simp only[zB] at ZW
    refine zD 7<|jc (vs:=[v,zI a,zI sx,zI (IntKind.i64.wrap (aT .u64 (IntKind.u64.wrap (a+b)) 1)),.func (.func 109) ⟨[]⟩ ⟨[]⟩]) [0] (ih _ (show ((IntKind.i64.wrap (aT .u64 (IntKind.u64.wrap (a+b)) 1))-a).toNat <n by omega) _ _ _ _ _ _ _ hA.2 (by omega) hyp (by omega) rfl) ?_
    rintro aVa aTX ⟨aBG,ahM,aF6⟩
    have aO0:=ahM.length_eq
    have aOW:=gB.perm hyp ahM
    refine zD 1<|bA aHu ⟨aBG,aTX⟩ ⟨(ahM.trans hA.1),aF6⟩ Nat.zero_lt_one [0] (Sub.refl _)
   try simp only[zB] at ZW
   refine zD 2<|bA aHu ⟨ys,L⟩ ⟨hA.1,hA.2⟩ Nat.zero_lt_one [0] (Sub.refl _)
  refine js 185 ((decide (sx <m))&&(decide (m <(((IntKind.i64.wrap (aT .u64 (IntKind.u64.wrap (a+b)) 1))+m)-sx)))) (fun ZV=>?_) (fun ZV=>?_)
  ·
   try simp only[zB] at ZV
   refine zD 7<|jc (vs:=[v,zI sx,zI m,zI (((IntKind.i64.wrap (aT .u64 (IntKind.u64.wrap (a+b)) 1))+m)-sx),.func (.func 109) ⟨[]⟩ ⟨[]⟩]) [0] (aME ho (by omega) hP (by omega)) ?_
   rintro aVb aTY ⟨aBH,ahN,aF7⟩
   have aO1:=ahN.length_eq
   have aOX:=gB.perm hP ahN
   refine zD 1<|bA Kz ⟨aBH,aTY⟩ ⟨(ahN.trans (.refl _)),aF7⟩ Nat.zero_lt_one [0] (Sub.refl _)
  try simp only[zB] at ZV
  refine zD 2<|bA Kz ⟨xs,L⟩ ⟨(.refl _),ho⟩ Nat.zero_lt_one [0] (Sub.refl _)
 refine zJ 140 (m>(IntKind.i64.wrap (aT .u64 (IntKind.u64.wrap (a+b)) 1))) (fun h32=>?_) fun h32=>?_
 ·
  refine zD 5<|ja (((IntKind.i64.wrap (aT .u64 (IntKind.u64.wrap (a+b)) 1))+m)-b) (by omega)<|zD 6<|bA aHw ⟨(((IntKind.i64.wrap (aT .u64 (IntKind.u64.wrap (a+b)) 1))+m)-b),(IntKind.i64.wrap (aT .u64 (IntKind.u64.wrap (a+b)) 1))⟩ (by dsimp only;omega) Nat.zero_lt_one [0] (Sub.refl _)
 refine zD 10<|bA aHw ⟨a,m⟩ (by dsimp only;omega) Nat.zero_lt_one [0] (Sub.refl _)
theorem aMD:∀n,aI6 n:=by
 intro n
 induction n using Nat.strongRecOn with
 |_ n ih=>exact fun ro v xs L a m b ho hN hP xZ hn=>aCR ih ho hN hP xZ hn
theorem aq1{v:Value}{xs:List ak}{L:Cells}{a m b:Int}(ho:ay v 8 128 cW xs L)(hN:xs.length≤100000)(hP:gB xs)(xZ:0≤a∧a <m∧m <b∧b≤xs.length):eg zT 191 [v,zI a,zI m,zI b,.func (.func 109) ⟨[]⟩ ⟨[]⟩] ro L (fun _ Y=>xJ v xs Y):=
 aMD _ ro v xs L a m b ho hN hP xZ rfl
theorem aCS{v:Value}{xs:List ak}{L:Cells}{n:Int}(ho:ay v 8 128 cW xs L)(hN:xs.length≤100000)(hP:gB xs)(hn:n=xs.length):eg zT 150 [v,zI n,.func (.func 109) ⟨[]⟩ ⟨[]⟩] ro L (fun r Y=>xJ v xs Y):=by
 refine zC [.l L]<|zD 12<|dV [1,1,0,0,0] [] (fun(zz:Int×Int×(List ak)×Cells)=>[(0,v),(1,zI n),(2,.func (.func 109) ⟨[]⟩ ⟨[]⟩),(6,zI 20),(7,zI zz.1),(8,zI zz.2.1)]) (fun zz=>[.l zz.2.2.2]) (fun zz=>(zz.2.1=zz.1+20∧0≤zz.1∧zz.1≤n)∧ay v 8 128 cW zz.2.2.1 zz.2.2.2∧zz.2.2.1.Perm xs) (fun zz=>(n-zz.1).toNat) (⟨0,20,xs,L⟩) ⟨by dsimp only;omega,ho,.refl _⟩ [0] ?_
 rintro⟨a,b,ys,L⟩ hI K1 bO rest
 dsimp only at hI
 have Zx:=hI.2.2.length_eq
 have hyp:=hP.perm hI.2.2
 refine zD 7<|zJ 13 (b≤n) (fun h1=>?_) fun h1=>?_
 ·
  refine zD 9<|jc (vs:=[v,zI a,zI b,.func (.func 109) ⟨[]⟩ ⟨[]⟩]) [0] (aCU hI.2.1 (by omega) hyp (by omega)) ?_
  rintro aYx Y18 ⟨aLg,Ss,Sv⟩
  have aV6:=Ss.length_eq
  have aVZ:=gB.perm hyp Ss
  refine zD 9<|ja (b+20) (by omega)<|zD 2<|bA bO (⟨b,(b+20),aLg,Y18⟩) ⟨by dsimp only;omega,Sv,(Ss.trans hI.2.2)⟩ (by dsimp only;omega) [0] (Sub.refl _)
 refine zD 8<|jc (vs:=[v,zI a,zI n,.func (.func 109) ⟨[]⟩ ⟨[]⟩]) [0] (aCU hI.2.1 (by omega) hyp (by omega)) ?_
 rintro aYw Y27 ⟨aXL,awJ,aQc⟩
 have aV5:=awJ.length_eq
 have aVY:=gB.perm hyp awJ
 refine zD 2<|dV [1,1,1,1,0,0] [] (fun(zz:Int×(List ak)×Cells)=>[(0,v),(1,zI n),(2,.func (.func 109) ⟨[]⟩ ⟨[]⟩),(6,zI zz.1)]) (fun zz=>[.l zz.2.2]) (fun zz=>(20≤zz.1∧zz.1≤1000000)∧ay v 8 128 cW zz.2.1 zz.2.2∧zz.2.1.Perm xs) (fun zz=>(n-zz.1).toNat) (⟨20,_,_⟩) ⟨by dsimp only;omega,aQc,awJ.trans hI.2.2⟩ [0] ?_
 rintro⟨bz,ys,L⟩ hJ K2 mr rest
 dsimp only at hJ
 have Zx:=hJ.2.2.length_eq
 have hyp:=hP.perm hJ.2.2
 refine zD 7<|zJ 30 (bz <n) (fun h2=>?_) fun h2=>?_
 ·
  refine zD 6<|ja (2*bz) (by omega)<|zD 5<|dV [1,1,1,1,0,0,1,0,1,0,0,0] [K2] (fun(zz:Int×Int×(List ak)×Cells)=>[(0,v),(1,zI n),(2,.func (.func 109) ⟨[]⟩ ⟨[]⟩),(6,zI bz),(7,zI zz.1),(8,zI zz.2.1)]) (fun zz=>[.l zz.2.2.2]) (fun zz=>(zz.2.1=zz.1+2*bz∧0≤zz.1∧zz.1≤n)∧ay v 8 128 cW zz.2.2.1 zz.2.2.2∧zz.2.2.1.Perm xs) (fun zz=>(n-zz.1).toNat) (⟨0,(2*bz),ys,L⟩) ⟨by dsimp only;omega,hJ.2⟩ [0] ?_
  rintro⟨a,b,ys,L⟩ hK K3 hK3 rest
  dsimp only at hK
  have Zx:=hK.2.2.length_eq
  have hyp:=hP.perm hK.2.2
  refine zD 7<|zJ 35 (b≤n) (fun h3=>?_) fun h3=>?_
  ·
   refine zD 9<|ja (a+bz) (by omega)<|zD 2<|jc (vs:=[v,zI a,zI (a+bz),zI b,.func (.func 109) ⟨[]⟩ ⟨[]⟩]) [0] (aq1 hK.2.1 (by omega) hyp (by omega)) ?_
   rintro aYu Y43 ⟨aLd,awG,aP8⟩
   have aV3:=awG.length_eq
   have aVW:=gB.perm hyp awG
   refine zD 9<|ja (2*bz) (by omega)<|ja (b+(2*bz)) (by omega)<|zD 2<|bA hK3 (⟨b,(b+(2*bz)),aLd,Y43⟩) ⟨by dsimp only;omega,aP8,(awG.trans hK.2.2)⟩ (by dsimp only;omega) [0] (Sub.refl _)
  refine zD 7<|ja (a+bz) (by omega)<|zD 8<|zJ 54 ((a+bz) <n) (fun h4=>?_) fun h4=>?_
  ·
   refine zD 7<|jc (vs:=[v,zI a,zI (a+bz),zI n,.func (.func 109) ⟨[]⟩ ⟨[]⟩]) [0] (aq1 hK.2.1 (by omega) hyp (by omega)) ?_
   rintro aYr Y60 ⟨aLb,VS,wU⟩
   have aV0:=VS.length_eq
   have aVT:=gB.perm hyp VS
   refine zD 3<|ja (bz*2) (by omega)<|zD 2<|bA mr (⟨(bz*2),aLb,Y60⟩) ⟨by dsimp only;omega,wU,(VS.trans hK.2.2)⟩ (by dsimp only;omega) [0] (Sub.refl _)
  refine zD 4<|ja (bz*2) (by omega)<|zD 2<|bA mr (⟨(bz*2),ys,L⟩) ⟨by dsimp only;omega,hK.2.1,hK.2.2⟩ (by dsimp only;omega) [0] (Sub.refl _)
 refine zD 2<|zR (.tuple ⟨[]⟩) [] [0] L ⟨_,hJ.2.2,hJ.2.1⟩
theorem Q1{v:Value}{xs:List ak}{L:Cells}(ho:ay v 8 128 cW xs L)(hN:xs.length≤100000)(hP:gB xs):eg zT 108 [v,.func (.func 109) ⟨[]⟩ ⟨[]⟩] ro L (fun r Y=>xJ v xs Y):=by
 refine zC [.l L]<|zD 3<|yJ ho<|zD 1<|jc (vs:=[v,zI (xs.length:Int),.func (.func 109) ⟨[]⟩ ⟨[]⟩]) [0] (aCS ho (by omega) hP rfl) ?_
 rintro rv8 Y8 ⟨ys8,hp8,ho8⟩
 have ban:=hp8.length_eq
 have bam:=gB.perm hP hp8
 refine zD 1<|zR (.tuple ⟨[]⟩) [] [0] Y8 ⟨_,hp8,ho8⟩
open Go.ConcR (KK wgBlock WgAt stA smA rd wr)
def ald(o:Oper):Array TypeId:=match o.op with
 | .call c=>c.argTypes
 | .go c=>c.argTypes
 | .defer c=>c.argTypes
 |_=> #[]
noncomputable def kE:sj:=azf zT 76 2
theorem aEN:kE.cl.OK zT 210 where
 ff:=by kernel_rfl
 fn:=⟨(Tryz.prog.funcs[106]?).getD default,by kernel_rfl,by kernel_rfl,by kernel_rfl⟩
 bf:=⟨by kernel_rfl,by kernel_rfl,by kernel_rfl⟩
 enter:=fun p1 p2=>by kernel_rfl
 op0:=by kernel_rfl
 rest:=⟨1,by kernel_rfl⟩
 size:=by kernel_rfl
 op:=⟨by kernel_rfl,by kernel_rfl,ald kE.cl.oc,by kernel_rfl⟩
theorem avP:∀v,v <2→∀W,∃k,I7 zT 210 v (Frame.enter zT 103 #[zP W,zI 1] .normal)=some (List.replicate k W):=by
 intro v hv W
 match v,hv with
 |0,_=>exact⟨7,by kernel_rfl⟩
 |1,_=>exact⟨4,by kernel_rfl⟩
theorem aom:∀W,∃k,yd zT 210 2 (Frame.enter zT 105 #[zP W] .deferred)=some (List.replicate k W):=fun W=>⟨27,by kernel_rfl⟩
theorem aol:∀W,∃k,B2 zT 210 2 (Frame.enter zT 107 #[zP W] .normal)=some (List.replicate k W):=fun W=>⟨164,by kernel_rfl⟩
noncomputable def nI(Wg Ch:Nat)(gP:Os)(cD:Array (Nat×ByteArray)):dW (List ak):=⟨zT,210,Wg,Ch,2,zS,gP,cD,fun l v X=>ay v 8 128 cW l X⟩
theorem IB(K:aB)(on:Int)(hb:K.after.length≤4):∀(n a:Nat) (p:Nat→Int),(∀i,0≤p i∧p i≤4)→(iJ K on n a p).length≤5^n∧∀q∈iJ K on n a p,∀i,0≤q i∧q i≤4
 |0,a,p,hp=>by
  simp only[iJ]
  cases lO on p K.facts 0 with
  |true=>exact⟨by simp,fun q hq=>by simp only[cond_true,List.mem_singleton] at hq;subst hq;exact hp⟩
  |false=>exact⟨by simp,fun q hq=>by simp at hq⟩
 |n+1,a,p,hp=>by
  obtain⟨h1,h2⟩:=IB K on hb n (a+1) p hp
  have hg:∀b,b <K.after.length→(nG K on n a p b).length≤5^n∧∀q∈nG K on n a p b,∀i,0≤q i∧q i≤4:=fun b cP=>by
   simp only[nG]
   cases !dv K on a b||qP p a ((b:Int)+1) with
   |true=>exact⟨by simp,fun q hq=>by simp at hq⟩
   |false=>
    simp only[cond_false]
    refine IB K on hb n (a+1) _ fun i=>?_
    simp only[iq]
    split
    ·omega
    exact hp i
  rw[qU]
  refine⟨?_,fun q hq=>?_⟩
  ·rw[List.length_append,List.length_flatMap]
   have:((List.range K.after.length).map fun b=>(nG K on n a p b).length).sum≤K.after.length*5^n:=by
    have key:∀l:List Nat,(∀b∈l,b <K.after.length)→(l.map fun b=>(nG K on n a p b).length).sum≤l.length*5^n:=by
     intro l
     induction l with
     |nil=>intro _;simp
     |cons b l ih=>
      intro hl
      have:=ih fun x hx=>hl x (List.mem_cons_of_mem _ hx)
      have:=(hg b (hl b List.mem_cons_self)).1
      simp only[List.map_cons,List.sum_cons,List.length_cons,Nat.succ_mul]
      omega
    have:=key (List.range K.after.length) fun b hb=>List.mem_range.1 hb
    simpa using this
   have h5:K.after.length*5^n≤4*5^n:=Nat.mul_le_mul_right _ hb
   rw[Nat.pow_succ]
   omega
  rcases List.mem_append.1 hq with hq|hq
  ·exact h2 q hq
  obtain⟨b,mH,hq⟩:=List.mem_flatMap.1 hq
  exact(hg b (List.mem_range.1 mH)).2 q hq
theorem kz(hV:eR K)(on:Int):(aK K on).length≤625∧∀q∈aK K on,∀i,0≤q i∧q i≤4:=by
 obtain⟨h1,h2⟩:=IB K on hV.after.1 K.before.length 0 (fun _=>0) fun _=>by omega
 refine⟨Nat.le_trans h1 ?_,h2⟩
 have:=Nat.pow_le_pow_right (n:=5) (by omega) hV.before.1
 omega
abbrev pV(b:Nat):Value:= zP b
noncomputable def E5(f i:Nat):Array Oper:=cT (codeOf zT f) i
noncomputable def aTs(f i:Nat):Code:=((codeOf zT f)[i]?).getD .skip
def nC(K:aB)(on:Int)(keep:ak→Bool)(r:bI)(past:Nat):List ak:=((aK K on).map (cu K r past)).filter keep
noncomputable def aat(f:Nat):Code:=(((Tryz.prog.funcs[f]?).getD default).body).getD .skip
theorem iF{l:List α}{x:α}(h:l[k]?=some x):l.take (k+1)=l.take k++[x]:=by rw[List.take_succ,h];rfl
theorem ay7:gJ [aat 104]=[.region 0 (E5 104 0) false,.region 1 (E5 104 1) false,.region 2 (E5 104 2) false,aTs 104 3,.region 7 (E5 104 4) false]:=by kernel_rfl
theorem aEH{rows:List bI}{on:Int}{J5:bI}{keep:ak→Bool}{Wg Ch:Nat}{gP:Os}{cD:Array (Nat×ByteArray)}{b5 b7 b9:Nat}(hV:eR K)(hF:pO ro f K rows)(De:rows[past]?=some J5) (Ia:Co zT g=true)
 (ib:∀aJ,Sub ro aJ→∀p∈aK K on,dK zT g (fi++[.agg ⟨cW (cu K J5 past p)⟩]++ca) aJ (.bool (keep (cu K J5 past p))))
 (g3:ro b3=some (.cells ⟨[pV f]⟩ 100 (0,0))) (g4:ro b4=some (.cells ⟨[.int .u8 on]⟩ 105 (0,0))) (g9:ro b9=some (.cells ⟨[zI (past:Int)]⟩ 3 (0,0))) (g5:ro b5=some (.cells ⟨[.func (.func g) ⟨fi⟩ ⟨ca⟩]⟩ 163 (0,0))) (g7:ro b7=some (.cells ⟨[.chan (some Ch)]⟩ 202 (0,0))):
 eJ zT false ((nI Wg Ch gP cD).KP (nC K on keep J5 past)) (born zT {target:= .fn (.func 104) ⟨[pV Wg,pV b3,pV b4,pV b9,pV b5,pV b7]⟩,args:= #[]}) ⟨ro,[]⟩:=by
 have hT:Closed zT false (eJ zT false ((nI Wg Ch gP cD).KP (nC K on keep J5 past))):=dY _ _ _
 refine aCJ (fn:=(Tryz.prog.funcs[104]?).getD default) (c:=aat 104) (n:=26) (by kernel_rfl) (by kernel_rfl) (by kernel_rfl) (by kernel_rfl) (by rfl)<|qx hT ay7 fun l1 Dl=>?_
 refine atY hT (a:=eG (E5 104 0) 0) (f:=105) (xs:= #[.tmp 0]) (vs:=[pV Wg]) (ats:=ald (eG (E5 104 0) 0)) (by kernel_rfl) (by kernel_rfl) (by kernel_rfl) (by decide) rfl<|qx hT Dl fun l2 rq=>?_
 refine wj av hT<|jn fun b6=>zD 1<|yp<|qx hT rq fun l3 Qe=>?_
 refine wj av hT<|jl (b:=b3) (off:=0) (m:=1) (vs:=[pV f]) 0 ⟨_,_,_,.inl g3,rfl⟩<|jl (b:=b4) (off:=0) (m:=1) (vs:=[.int .u8 on]) 0 ⟨_,_,_,.inl g4,rfl⟩<|jc [] (Mz (on:=on) hF hV) ?_
 rintro _ _ ⟨q1,q2,q3,q4,rfl,rfl⟩
 refine jf [0] [(q1,.cells ⟨[pV f]⟩ 100 (0,0)),(q2,.cells ⟨[.func (.func 116) ⟨[]⟩ ⟨[pV q1,pV q4]⟩]⟩ 218 (0,0)),(q3,.cells ⟨BZ ⟨dv K on⟩⟩ 153 (0,0)),(q4,.cells ⟨[.int .u8 on]⟩ 105 (0,0))] fun aH bH hk1=>zD 1<|aCH<|aqW hT Qe fun l4 Qd=>?_
 refine aCI av hT ?_
 have Fs:=hF.up bH
 refine zD 1<|nY ?_
 refine jrf [] (Zp (on:=on) Fs hV (hk1 _ (.head _)) (hk1 _ (.tail _ (.head _))) (hk1 _ (.tail _ (.tail _ (.head _)))) (hk1 _ (.tail _ (.tail _ (.tail _ (.head _)))))) (by rintro _ _ _ _ ⟨_,_,rfl,_⟩;rfl)
  (fun(zz:Value×Cells)=>[.b b6 (.cells ⟨[zz.1]⟩ 103 (0,0)),.l zz.2]) (fun kk=>(fun(zz:Value×Cells)=>ay zz.1 8 128 cW ((((aK K on).take kk).map (cu K J5 past)).filter keep) zz.2)) (fun jump=>(fun(zz:Value×Cells)=>False)) (⟨zS,[]⟩) (ay.nil _ _ _) [1,0] ?_ ?_ ?_
 ·rintro bl bd kk vs LL ⟨v,Lb⟩ jW iQ ⟨p,hp,rfl,rfl⟩ hI oS
  dsimp only at hI
  have aFP:=zL hp
  have hp4:=(kz hV on).2 p aFP
  have ahF:=Sub.trans bH oS
  have hlen:((((aK K on).take kk).map (cu K J5 past)).filter keep).length≤625:=by
   refine Nat.le_trans (List.length_filter_le _ _) ?_
   rw[List.length_map,List.length_take]
   have:=(kz hV on).1
   omega
  refine zD 1<|jn fun qn=>jd 2 [0]<|jbI 1<|zD 3<|jl (b:=b3) (off:=0) (m:=1) (vs:=[pV f]) 0 ⟨_,_,_,.inl (ahF _ _ g3),rfl⟩<|jl (b:=b9) (off:=0) (m:=1) (vs:=[zI (past:Int)]) 0 ⟨_,_,_,.inl (ahF _ _ g9),rfl⟩<|jd 1 [0]<|jp (vs:=[pV f,zI (past:Int),.agg ⟨eP4 p⟩]) [] [] (fun zo hs hZ=>arC (hF.up (Sub.trans ahF hs)) hV De hp4)<|jn fun AX=>jd 4 [0]<|jl (b:=b5) (off:=0) (m:=1) (vs:=[.func (.func g) ⟨fi⟩ ⟨ca⟩]) 0 ⟨_,_,_,.inl (ahF _ _ g5),rfl⟩<|jd 1 [0]<|jpF (f:=g) (V:= .bool (keep (cu K J5 past p))) (vs:=fi++[Value.agg ⟨cW (cu K J5 past p)⟩]++ca) [] [] Ia (fun zo hs hZ=>ib _ (Sub.trans ahF hs) p aFP)<|zD 1<|js 19 (keep (cu K J5 past p)) (fun h5=>?_) (fun h5=>?_)
  ·refine jd 4 [3,0]<|jn fun PK=>iC (sz:=8) (ps:=(((aK K on).take kk).map (cu K J5 past)).filter keep) (qs:=[cu K J5 past p]) (enc:=cW) (w:= .slice (some ⟨PK,0,none⟩) 1 1) [5] [0] [(PK,.cells ⟨([cu K J5 past p].map cW).flatten⟩ 128 (0,0))] hI (fun s _ hZ=>bL [cu K J5 past p] (hZ _ (.head _)) (by intro p hp;rfl)) (fun p _=>ai rfl) (by simp only[List.length_cons,List.length_nil];omega) (fun v23 L23 Af=>?_)
   obtain⟨va,vc,he⟩:=Af.form
   subst he
   refine jd 2 [5]<|jyn qy0 (Sub.refl _) ⟨.slice va _ vc,L23⟩ (by dsimp only;rw[iF hp,List.map_append,List.filter_append,List.map_cons,List.map_nil,List.filter_cons_of_pos h5,List.filter_nil];exact Af) [4,5,0]
  refine zD 2<|jyn qy0 (Sub.refl _) ⟨v,Lb⟩ (by dsimp only;rw[iF hp,List.map_append,List.filter_append,List.map_cons,List.map_nil,List.filter_cons_of_neg (by rw[h5];simp),List.filter_nil,List.append_nil];exact hI) [2,3,4]
 ·rintro bd ⟨v,Lb⟩ Z hI rfl
  dsimp only at hI
  rw[List.take_length] at hI
  refine aCG<|qx hT Qd fun l5 Qc=>?_
  have:=gv Qc
  subst this
  show TT _ _ (.inRegion (E5 104 4) (0::[1,2])::[]) _ _ _ _ _
  refine tLd hT (.chan (some Ch)) (a:=eG (E5 104 4) 0) (x:= .tmp 5) (U:=202) (q:=b7) (by kernel_rfl) (by kernel_rfl) (by kernel_rfl) (by kernel_rfl) (by decide) rfl (fun _ _ _ _=> .inl (bH _ _ g7))<|aMp hT v (a:=eG (E5 104 4) 1) (x:= .tmp 6) (U:=103) (q:=b6) (by kernel_rfl) (by kernel_rfl) (by kernel_rfl) (by kernel_rfl) (by decide) rfl [2] 103<|aCB (E:=nI Wg Ch gP cD) (a:=eG (E5 104 4) 2) (sc:= .tmp 24) (sv:= .tmp 25) (v:=v) (Y:=Lb) [3] (by kernel_rfl) (by kernel_rfl) (fun ρ=>by kernel_rfl) (by decide) rfl hI<|Yh (dY _ _ _)<|atU (E:=nI Wg Ch gP cD) (fn:=(Tryz.prog.funcs[104]?).getD default) (dn:=105) (bd:=bd) (by kernel_rfl) (by kernel_rfl) (by kernel_rfl) (aom Wg).choose_spec xR [0] rfl rfl
 rintro bd ⟨v,Lb⟩ Z jump hS hZ
 exact hS.elim
theorem f26:gJ [aat 76]=[.region 0 kE.o0 false,.region 1 kE.o1 false,.region 2 kE.o2 false,.region 3 kE.o3 false,.block 0 (.loop kE.lb),.region 9 kE.o9 false,.region 10 kE.o10 false,.region 11 kE.o11 false,.block 2 (.loop kE.rb),.region 15 (E5 76 9) false,.region 16 (E5 76 10) false,.ret]:=by kernel_rfl
theorem aH2:gJ [kE.lb]=[.region 4 kE.o4 false,.cond (.tmp 19) .skip (.exit 0),.block 1 kE.Ew,.region 8 kE.o8 false]:=by kernel_rfl
theorem aTg:gJ [kE.Ew]=[.region 5 kE.o5 false,.region 6 kE.o6 false,.region 7 kE.o7 false]:=by kernel_rfl
theorem aH1:gJ [kE.rb]=[.region 12 kE.CY false,.cond (.tmp 27) .skip (.exit 2),.block 3 kE.u4]:=by kernel_rfl
theorem aTf:gJ [kE.u4]=[.region 13 kE.o13 false,.region 14 kE.o14 false]:=by kernel_rfl
def iE(K:aB)(on:Int)(keep:ak→Bool)(rows:List bI)(n:Nat):List (List ak):=(List.range n).map fun i=>nC K on keep ((rows[i]?).getD ⟨fun _ _=>false⟩) i
theorem Qt{on:Int}{keep:ak→Bool}{rows:List bI}{r:bI}(h:rows[n]?=some r):iE K on keep rows (n+1)=iE K on keep rows n++[nC K on keep r n]:=by
 simp only[iE,List.range_succ,List.map_append,List.map_cons,List.map_nil,h,Option.getD_some]
theorem y8(K:aB)(on:Int)(keep:ak→Bool)(rows:List bI)(n:Nat):(iE K on keep rows n).length=n:=by simp[iE]
def cX(K:aB)(on:Int)(keep:ak→Bool)(rows:List bI):List ak:=(iE K on keep rows rows.length).flatten
theorem q9(hV:eR K)(on:Int)(keep:ak→Bool){rows:List bI}(hR:rows.length≤2):(cX K on keep rows).length≤1250:=by
 have h1:∀r i,(nC K on keep r i).length≤625:=fun r i=>Nat.le_trans (List.length_filter_le _ _) (by rw[List.length_map];exact(kz hV on).1)
 have key:∀n,(iE K on keep rows n).flatten.length≤n*625:=by
  intro n
  induction n with
  |zero=>simp[iE]
  |succ n ih=>
   have:=h1 ((rows[n]?).getD ⟨fun _ _=>false⟩) n
   simp only[iE,List.range_succ,List.map_append,List.map_cons,List.map_nil,List.flatten_append,List.length_append,List.flatten_cons,List.flatten_nil,List.append_nil] at ih ⊢
   omega
 have:=key rows.length
 have h2:rows.length*625≤2*625:=Nat.mul_le_mul_right _ hR
 exact Nat.le_trans this h2
theorem ac7{on:Int}{keep:ak→Bool}{rows:List bI}(hR:rows.length≤2):gB (cX K on keep rows):=by
 intro x hx
 obtain⟨l,hl,hx⟩:=List.mem_flatten.1 hx
 obtain⟨i,hi,rfl⟩:=List.mem_map.1 hl
 have hi:=List.mem_range.1 hi
 obtain⟨p,_,rfl⟩:=List.mem_map.1 (List.mem_filter.1 hx).1
 simp only[cu]
 omega
theorem aj0(a:List (List α))(o:List α)(b:List (List α))(zs:List α):((zs++o)++(a++b).flatten).Perm (zs++(a++o::b).flatten):=by
 simp only[List.flatten_append,List.flatten_cons,List.append_assoc]
 refine .append_left _ ?_
 rw[←List.append_assoc,←List.append_assoc]
 exact .append_right _ List.perm_append_comm
theorem aEM{rows:List bI}{on:Int}{keep:ak→Bool}{fr:Cells}(hV:eR K)(hF:pO ro f K rows)(hR:rows.length≤2)(Ia:Co zT g=true)
 (ib:∀i r,rows[i]?=some r→∀aJ,Sub ro aJ→∀p∈aK K on,dK zT g (fi++[.agg ⟨cW (cu K r i p)⟩]++ca) aJ (.bool (keep (cu K r i p)))):
 Fn (C0 zT) zT 76 ⟨[pV f,.int .u8 on,.func (.func g) ⟨fi⟩ ⟨ca⟩]⟩ ⟨ro,fr⟩ (fun en s'=>∃v Y zs,en= .returned v∧s'=⟨ro,Y++fr⟩∧zs.Perm (cX K on keep rows)∧ay v 8 128 cW zs Y):=by
 rintro main T ⟨rfl,gP,cD,Post,rfl⟩ cl Pu kr _
 have hT:=tb zT gP cD Post
 obtain⟨c0,c1,c2,vc,vh,vr,vb,va,vf,vt,hv,hf,px,n6,hr,Fq,Kw,MK,bW⟩:=id hF
 obtain⟨nS,E3,E1,nu,rfl,Ra,NT,NS⟩:=bW
 refine atT (fn:=(Tryz.prog.funcs[76]?).getD default) (c:=aat 76) (n:=35) (by kernel_rfl) (by kernel_rfl) (by kernel_rfl) (by rfl)<|qx hT f26 fun l1 Dl=>?_
 refine wj av hT<|jn fun b3=>jn fun b4=>jn fun b5=>zD 2<|yp<|qx hT Dl fun l2 rq=>?_
 show TT _ _ (.inRegion kE.o1 (0::[1,2])::_) _ _ _ _ _
 refine aCC hT (a:=kE.a1) (f:=fun q=> .chan (some q)) (ob:= .chan 0 #[] false 0 0 false) (by kernel_rfl) (by kernel_rfl) (fun e q=>by kernel_rfl) (by decide) rfl fun Ch=>?_
 refine wj av hT<|jn fun b7=>jd 2 [0]<|yp<|qx hT rq fun l3 Qe=>?_
 show TT _ _ (.inRegion kE.o2 (0::[])::_) _ _ _ _ _
 refine aCC hT (a:=kE.a2) (f:=fun q=> zP q) (ob:=wgBlock 210 0 0) (by kernel_rfl) (by kernel_rfl) (fun e q=>by kernel_rfl) (by decide) rfl fun Wg=>?_
 refine Yh hT<|atX (E:=nI Wg Ch gP cD) (Q:=Good zT Post) (tm:=false) 0 2 ((b7,.cells ⟨[.chan (some Ch)]⟩ 202 (0,0))::(b5,.cells ⟨[.func (.func g) ⟨fi⟩ ⟨ca⟩]⟩ 163 (0,0))::(b4,.cells ⟨[.int .u8 on]⟩ 105 (0,0))::(b3,.cells ⟨[pV f]⟩ 100 (0,0))::fr) hT (fun L aH hl dR Wk=>?_)
 have h7:=hl.kn _ (.head _)
 have h5:=hl.kn _ (.tail _ (.head _))
 have h4:=hl.kn _ (.tail _ (.tail _ (.head _)))
 have h3:=hl.kn _ (.tail _ (.tail _ (.tail _ (.head _))))
 dsimp only at h7 h5 h4 h3
 have hM:∀pend os,Closed zT true (TM (nI Wg Ch gP cD) L (Good zT Post) pend false os 0):=fun pend os=>fg (E:=nI Wg Ch gP cD) false os (fun e=>(by cases e))
 have hC:∀os,Closed zT true (TM (nI Wg Ch gP cD) L (Good zT Post) 0 true os 0):=fun os=>fg (E:=nI Wg Ch gP cD) true os (fun _=>rfl)
 refine qx (hM 0 []) Qe fun l4 Qd=>?_
 refine wj av (hM 0 [])<|jl (b:=b3) (off:=0) (m:=1) (vs:=[pV f]) 0 ⟨_,_,_,.inl h3,rfl⟩<|zD 2<|jl (b:=f) (off:=0) (m:=13) (vs:=[c0,c1,c2,vc,vh,vr,vb,va,zI K.gone,zI K.new,zI K.af,vf,.slice nS rows.length nu]) 12 ⟨_,_,_,.inl (hl.sub _ _ hf),rfl⟩<|zD 3<|yp<|NC (hM 0 []) Qd fun l5 Qc=>?_
 refine aqV (hM 0 []) (rest:=[]) rfl fun l6 JK=>?_
 have:=gv JK
 subst this
 have loop:∀m i jW,m+i=rows.length→Sub aH jW→(∀jW rest,Sub aH jW→TT (TM (nI Wg Ch gP cD) L (Good zT Post) 0 false (iE K on keep rows rows.length) 0) (fr0 76 .normal) (l5.map .code++[]) (cl::Pu) 35 [] jW (some ⟨.fin .normal,[(7,pV b7),(8,pV Wg)]++rest,[],⟨[],[]⟩⟩))→
  ∀rest,TT (TM (nI Wg Ch gP cD) L (Good zT Post) 0 false (iE K on keep rows i) 0) (fr0 76 .normal) ([kE.lb].map .code++(.inLoop kE.lb::(.inBlock 0::(l5.map .code++[])))) (cl::Pu) 35 [] jW (some ⟨.fin .normal,[(3,pV b3),(4,pV b4),(5,pV b5),(7,pV b7),(8,pV Wg),(17,zI (rows.length:Int)),(18,zI (i:Int))]++rest,[],⟨[],[]⟩⟩):=by
  intro m
  induction m with
  |zero=>
   intro i jW hi hs qN rest
   refine qx (hM 0 _) aH2 fun m1 hm1=>?_
   refine wj av (hM 0 _)<|zD 2<|yp<|Yi (hM 0 _) (t:=false) (q:=decide ((i:Int) <(rows.length:Int))) hm1 (by simp;omega) fun m2 FX=>?_
   refine aqX (hM 0 _) (k':=l5.map .code++[]) (by rw[qY];simp[exitTo]) ?_
   have:i=rows.length:=by omega
   subst this
   exact tSt (hM 0 _) [(7,pV b7),(8,pV Wg)] [] [] fun rest=>qN jW rest hs
  |succ m ih=>
   intro i jW hi hs qN rest
   obtain⟨r,De⟩:∃r,rows[i]?=some r:=⟨_,List.getElem?_eq_getElem (by omega)⟩
   refine qx (hM 0 _) aH2 fun m1 hm1=>?_
   refine wj av (hM 0 _)<|zD 2<|yp<|Yi (hM 0 _) (t:=true) (q:=decide ((i:Int) <(rows.length:Int))) hm1 (by simp;omega) fun m2 FX=>?_
   refine aqT (hM 0 _)<|NC (hM 0 _) FX fun m3 hm3=>?_
   refine qx (hM 0 _) aTg fun m4 hm4=>?_
   refine wj av (hM 0 _)<|zD 1<|jn fun b9=>jd 2 [0]<|yp<|qx (hM 0 _) hm4 fun m5 hm5=>?_
   show TT _ _ (.inRegion kE.o6 [0]::_) _ _ _ _ _
   refine aMs (E:=nI Wg Ch gP cD) (a:=kE.a6) (f:=103) (x:= .tmp 8) (ats:=ald kE.a6) ?_ (by kernel_rfl) (by kernel_rfl) (by kernel_rfl) (k9 (by kernel_rfl)) (by decide) rfl (by show _ <2;rw[y8];omega) (by show I7 zT 210 _ _=_;rw[y8];exact(avP i (by omega) Wg).choose_spec) xR
   refine qx (hM 1 _) hm5 fun m6 hm6=>?_
   have:=gv hm6
   subst this
   show TT _ _ (.inRegion kE.o7 (0::[1])::_) _ _ _ _ _
   refine aCz (hM 1 _) (a:=eG kE.o7 0) (.func (.func 104) ⟨[]⟩ ⟨[pV Wg,pV b3,pV b4,pV b9,pV b5,pV b7]⟩) (by kernel_rfl) (by kernel_rfl) (by decide) rfl<|tGo (E:=nI Wg Ch gP cD) (nC K on keep r i) (a:=kE.a7) (f:=104) (y:= .tmp 22) (ca:=[pV Wg,pV b3,pV b4,pV b9,pV b5,pV b7]) (ats:=ald kE.a7) [(b9,.cells ⟨[zI (i:Int)]⟩ 3 (0,0))] (by kernel_rfl) (by kernel_rfl) (by kernel_rfl) (by decide) rfl (fun zo JH hk3=>⟨?_,?_⟩)
   ·have Cn:=Sub.trans hs JH
    have h03:=Sub.trans hl.sub Cn
    exact aEH hV (hF.up h03) De Ia (fun aJ ny=>ib i r De aJ (Sub.trans h03 ny)) (Cn _ _ h3) (Cn _ _ h4) (hk3 _ (.head _)) (Cn _ _ h5) (Cn _ _ h7)
   rw[←Qt De]
   refine Yh (hM 0 _) (aqY (hM 0 _) ?_)
   refine qx (hM 0 _) hm3 fun m7 hm7=>?_
   have:=gv hm7
   subst this
   refine wj av (hM 0 _)<|ja ((i:Int)+1) (by omega)<|zD 2<|yp<|aeL (hM 0 _)<|tSt (hM 0 _) [(3,pV b3),(4,pV b4),(5,pV b5),(7,pV b7),(8,pV Wg),(17,zI (rows.length:Int)),(18,zI ((i+1:Nat):Int))] [] [] fun rest=>ih (i+1) zo (by omega) (Sub.trans hs JH) qN rest
 refine tSt (hM 0 _) [(3,pV b3),(4,pV b4),(5,pV b5),(7,pV b7),(8,pV Wg),(17,zI (rows.length:Int)),(18,zI (((0:Nat)):Int))] [] [] fun rest=>loop rows.length 0 aH (by omega) (Sub.refl _) (fun jW rest oS=>?_) rest
 refine qx (hM 0 _) Qc fun l7 Fj=>?_
 show TT _ _ (.inRegion kE.o9 (0::[1])::_) _ _ _ _ _
 refine aCz (hM 0 _) (a:=eG kE.o9 0) (.func (.func 106) ⟨[]⟩ ⟨[pV Wg,pV b7]⟩) (by kernel_rfl) (by kernel_rfl) (by decide) rfl<|at1 (E:=nI Wg Ch gP cD) (a:=kE.a9) (f:=106) (y:= .tmp 24) (ca:=[pV Wg,pV b7]) (ats:=ald kE.a9) [] (by kernel_rfl) (by kernel_rfl) (by kernel_rfl) (by decide) rfl (fun zo JH _=>?_)
 have Cn:=Sub.trans oS JH
 refine⟨amV (E:=nI Wg Ch gP cD) (x:=kE.cl) aEN (aol Wg).choose_spec xR (q:=b7) (t:=202) (fz:=(0,0)) (a:=eG kE.cl.q1 0) (y:= .tmp 1) (U:=202) (Cn _ _ h7) (by kernel_rfl) (by kernel_rfl) (by kernel_rfl) (by kernel_rfl) (by kernel_rfl) (by kernel_rfl),?_⟩
 refine Yh (hC _)<|qx (hC _) Fj fun l8 ZH=>?_
 refine wj av (hC _)<|zD 2<|yp<|qx (hC _) ZH fun l9 hl9=>?_
 refine wj av (hC _)<|jl (b:=b7) (off:=0) (m:=1) (vs:=[.chan (some Ch)]) 0 ⟨_,_,_,.inl (Cn _ _ h7),rfl⟩<|zD 1<|yp<|NC (hC _) hl9 fun l10 axc=>?_
 refine aqV (hC _) (rest:=[]) rfl fun l11 axb=>?_
 have:=gv axb
 subst this
 have hlen:=q9 hV on keep hR
 have recv:∀m (os:List (List ak)) (v:Value) (L1:Cells) (zs:List ak),os.length=m→ay v 8 128 cW zs L1→(zs++os.flatten).Perm (cX K on keep rows)→∀rest,
  TT (TM (nI Wg Ch gP cD) L (Good zT Post) 0 true os 0) (fr0 76 .normal) ([kE.rb].map .code++(.inLoop kE.rb::(.inBlock 2::(l10.map .code++[])))) (cl::Pu) 35 [] zo (some ⟨.fin .normal,[(10,v),(25,.chan (some Ch))]++rest,[.l L1],⟨[],[]⟩⟩):=by
  intro m
  induction m with
  |zero=>
   intro os v L1 zs tV ho hp rest
   have tV:=List.eq_nil_of_length_eq_zero tV
   subst tV
   refine qx (hC _) aH1 fun m1 hm1=>?_
   show TT _ _ (.inRegion kE.CY (0::[1])::_) _ _ _ _ _
   refine aqU (E:=nI Wg Ch gP cD) (a:=kE.TQ) (rc:= .tmp 25) (z:= zS) hl Cn Wk (by kernel_rfl) (by kernel_rfl) (fun ρ=>by kernel_rfl) (by decide) rfl (fun a' oo b' v' Y he _=>by simp at he) fun _=>?_
   refine wj av hT<|zD 2<|yp<|Yi hT (t:=false) (q:=false) hm1 rfl fun m2 FX=>?_
   refine aqX hT (k':=l10.map .code++[]) (by rw[qY];simp[exitTo]) ?_
   refine qx hT axc fun m3 hm3=>?_
   refine wj av hT<|zD 1 ?_
   have hp':zs.Perm (cX K on keep rows):=by simpa using hp
   refine jc (vs:=[v,.func (.func 109) ⟨[]⟩ ⟨[]⟩]) [1] (Q1 ho (by rw[hp'.length_eq];omega) ((ac7 hR).perm hp')) ?_
   rintro _ Y ⟨ys,hys,hoY⟩
   refine zD 1<|yp<|qx hT hm3 fun m4 hm4=>?_
   refine wj av hT<|zD 3<|yp<|aqW hT hm4 fun m5 hm5=>?_
   refine aMo av hT (fn:=(Tryz.prog.funcs[76]?).getD default) v [] [0,1] (Y++((b7,.cells ⟨[.chan (some Ch)]⟩ 202 (0,0))::(b5,.cells ⟨[.func (.func g) ⟨fi⟩ ⟨ca⟩]⟩ 163 (0,0))::(b4,.cells ⟨[.int .u8 on]⟩ 105 (0,0))::(b3,.cells ⟨[pV f]⟩ 100 (0,0))::fr)) (by kernel_rfl)<|hT.mono _ ⟨ro,Y++fr⟩ _ (dP (J:=[(b7,.cells ⟨[.chan (some Ch)]⟩ 202 (0,0)),(b5,.cells ⟨[.func (.func g) ⟨fi⟩ ⟨ca⟩]⟩ 163 (0,0)),(b4,.cells ⟨[.int .u8 on]⟩ 105 (0,0)),(b3,.cells ⟨[pV f]⟩ 100 (0,0))]) ?_ (Sub.refl _)) (kr v _ ⟨v,Y,ys,rfl,rfl,hys.trans hp',hoY⟩)
   rw[List.append_assoc]
   exact .append_left _ (List.perm_append_comm (l₁:=[_,_,_,_]))
  |succ m ih=>
   intro os v L1 zs tV ho hp rest
   refine qx (hC _) aH1 fun m1 hm1=>?_
   show TT _ _ (.inRegion kE.CY (0::[1])::_) _ _ _ _ _
   refine aqU (E:=nI Wg Ch gP cD) (a:=kE.TQ) (rc:= .tmp 25) (z:= zS) hl Cn Wk (by kernel_rfl) (by kernel_rfl) (fun ρ=>by kernel_rfl) (by decide) rfl (fun a' oo b' v' Y he oR=>?_) fun he=>by simp[he] at tV
   subst he
   have oR:ay v' 8 128 cW oo Y:=oR
   refine wj av (hC _)<|zD 2<|yp<|Yi (hC _) (t:=true) (q:=true) hm1 rfl fun m2 FX=>?_
   refine aqT (hC _)<|NC (hC _) FX fun m3 hm3=>?_
   have:=gv hm3
   subst this
   refine qx (hC _) aTf fun m4 hm4=>?_
   refine wj av (hC _)<|zD 3<|yp<|qx (hC _) hm4 fun m5 hm5=>?_
   have:=gv hm5
   subst this
   refine wj av (hC _)<|zD 2 ?_
   have OS:((zs++oo)++(a'++b').flatten).Perm (cX K on keep rows):=(aj0 a' oo b' zs).trans hp
   have hlz:zs.length+oo.length≤1250:=by
    have:=OS.length_eq
    simp only[List.length_append] at this
    omega
   refine iC (sz:=8) (ps:=zs) (qs:=oo) (enc:=cW) (w:=v') [1] [0] Y ho (fun s _ hZ=>oR.sl hZ) (fun p _=>ai rfl) (by omega) fun v23 L23 Af=>zD 2<|yp<|aqY (hC _) (aeL (hC _) ?_)
   exact tSt (hC _) [(10,v23),(25,.chan (some Ch))] [.l L23] [0] fun rest=>ih (a'++b') v23 L23 (zs++oo) (by simp at tV ⊢;omega) Af OS rest
 refine tGe<|tSt (hC _) [(10,zS),(25,.chan (some Ch))] [.l []] [0] fun rest=>recv rows.length (iE K on keep rows rows.length) (zS) [] [] (y8 _ _ _ _ _) (ay.nil _ _ _) (by simp[cX]) rest
theorem ag9{rows:List bI}{on:Int}{keep:ak→Bool}(hV:eR K)(hF:pO ro f K rows)(hR:rows.length≤2)(Ia:Co zT g=true)
 (ib:∀i r,rows[i]?=some r→∀aJ,Sub ro aJ→∀p∈aK K on,dK zT g (fi++[.agg ⟨cW (cu K r i p)⟩]++ca) aJ (.bool (keep (cu K r i p)))):
 Gb zT 76 [pV f,.int .u8 on,.func (.func g) ⟨fi⟩ ⟨ca⟩] ro [] (fun v Y=>∃zs,zs.Perm (cX K on keep rows)∧ay v 8 128 cW zs Y):=
 fun fr=>Fn.mono (aEM (fr:=fr) hV hF hR Ia ib) fun en s' ⟨v,Y,zs,h1,h2,h3,h4⟩=>⟨v,Y,h1,by rw[h2];exact St.le_refl _,zs,h3,h4⟩
theorem Zn{rows:List bI}{on:Int}(hV:eR K)(hF:pO ro f K rows)(hR:rows.length≤2):
 Gb zT 41 [pV f,.int .u8 on] ro [] (fun v Y=>∃zs,zs.Perm (cX K on (cm K.gone K.new K.af) rows)∧ay v 8 128 cW zs Y):=by
 refine HD av [] [] bp fun fr=>zD 10<|P7 (vs:=[pV f,.int .u8 on,.func (.func 77) ⟨[pV f]⟩ ⟨[]⟩]) [] (fun _ _ h=>h) (ag9 (keep:=cm K.gone K.new K.af) hV hF hR (by kernel_rfl) fun i r hr aJ hs p hp=>?_) ?_
 ·obtain⟨c0,c1,c2,vc,vh,vr,vb,va,vf,vt,hv,hf,_⟩:=hF.up hs
  exact ag6 hf
 rintro v Y ⟨zs,hz,ho⟩
 refine zD 3<|Vz qC v [0,1] Y (Sub.refl _) ⟨zs,hz,ho⟩
theorem azu{x:Int}(h:0≤x∧x≤4):iL x 0 4=true:=by simp only[iL,Bool.and_eq_true,decide_eq_true_eq];omega
theorem agf:ri (bs [97]):=⟨by decide,.inl (by decide)⟩
def alp(ro:Nat→Option Obj)(v:Value)(W:List (List Int)):Prop:=∃ws,bD ro v 1 gz ws∧dA (fun w l=>bD ro w 1 cB l) ws W
def rh(ro:Nat→Option Obj)(l:List Value)(W:List (List Int)):Prop:=∀aH,Sub ro aH→eg zT 95 [.agg ⟨l.take 3⟩] aH [] (fun r Y=>∃a n c,r= .tuple ⟨[.slice a n c,zI 0]⟩∧n=W.length∧∀jW,Knows jW Y→alp jW (.slice a n c) W)
theorem avT{l:List Value}{W:List (List Int)}(hK:fP ro l K)(hO:j6 K)(hV:eR K)(hW:1≤W.length∧W.length≤4)(h76:rh ro l W):eg zT 71 [.agg ⟨l⟩] ro [] (fun r Y=>∃a n c,r= .slice a n c∧n=W.length∧∀jW,Knows jW Y→alp jW r W):=by
 have ZS:=hK
 obtain⟨vS,vT,vc,vh,vr,vb,va,vf,fa,fc,hv,rfl,hS,hT,px,n6,hr,hb,ha,hf⟩:=hK
 obtain⟨ij,hs,fw⟩:=id hS
 obtain⟨iS,ht,e8⟩:=id hT
 obtain⟨hc,hh,ED⟩:=id px
 have vJ:=hr
 have vx:=hb
 have ha0:=ha
 have hf0:=hf
 obtain⟨mB,U5,U3,lq,rfl,U4,NW,NU⟩:=hs
 obtain⟨dX,AK,AI,dB,rfl,AJ,sD,sC⟩:=ht
 obtain⟨dc,AN,AM,cY,rfl,CN,yH,yG⟩:=hc
 obtain⟨cF,rH,rG,cy,rfl,tv,pw,pn⟩:=hh
 obtain⟨kY,JD,JC,kX,rfl,P3,GY,GX⟩:=hr
 obtain⟨j7,Kb,J9,jZ,rfl,Ka,JF,JE⟩:=hb
 obtain⟨nv,N7,N2,nq,rfl,N3,LX,LW⟩:=ha
 obtain⟨jY,Ek,Ej,iP,rfl,LV,wA,wz⟩:=hf
 have Dl:=hO.rules
 have rq:=hO.before.1
 have Qe:=hO.after.1
 have Qd:=hO.facts.1
 have Qc:=hO.ways.1
 have JK:=fw.len
 have Fj:=e8.len
 have ZH:=hO.pX.two
 have hl9:=hO.di.nh
 have P2:∀(i:Nat) (p:dj),([]:List dj)[i]?=some p→cE ⟨ro,[]⟩ 0 (0+i*6) 6 (mZ p):=fun _ _ h=>oQ h
 have hgl:=hO.pF
 refine zE<|zD 2<|jn fun b1=>jd 6 [0]<|jc (vs:=[.agg ⟨[.slice mB ij.length lq,.slice dX iS.length dB,.slice fa 0 fc]⟩]) [] (h76 _ (Sub.refl _)) ?_
 rintro _ Y10 ⟨a10,n10,c10,rfl,aQm,ahA⟩
 refine zD 9<|jp (vs:=[zI 0]) [] [] (fun aH hs hZ=>Bu)<|zD 10<|zJ 15 ((n10:Int)=0) (fun h1=>?_) fun h1=>?_
 ·
  exfalso;omega
 refine zD 8<|zJ 20 ((n10:Int)>4) (fun h2=>?_) fun h2=>?_
 ·
  exfalso;omega
 refine jd 6 [1]<|jp (vs:=[.agg ⟨[.slice dc K.cs.length cY,.slice cF hv.length cy]⟩]) [] [] (fun aH hs hZ=>at3 (px.up hs) n6 hV.di)<|jp (vs:=[zI 0]) [] [] (fun aH hs hZ=>Bu)<|jd 5 [1]<|jp (vs:=[.slice kY K.rules.length kX,.string (bs [97]),.string (bs [97])]) [] [] (fun aH hs hZ=>RL (vJ.up hs) hV.rules.2 hV.rules.1 agf agf)<|zD 8<|jp (vs:=[zI 0]) [] [] (fun aH hs hZ=>Bu)<|jd 6 [1,1]<|jp (vs:=[.agg ⟨[.slice mB ij.length lq,.slice dX iS.length dB,.slice fa 0 fc,.slice dc K.cs.length cY,.slice cF hv.length cy,.slice kY K.rules.length kX,.slice j7 K.before.length jZ,.slice nv K.after.length nq,zI K.gone,zI K.new,zI K.af,.slice jY K.facts.length iP]⟩,.slice j7 K.before.length jZ,.bool true]) [] [] (fun aH hs hZ=>ag0 (ZS.up hs) hO (vx.up hs))<|jp (vs:=[zI 0]) [] [] (fun aH hs hZ=>Bu)<|jd 6 [1,1]<|jp (vs:=[.agg ⟨[.slice mB ij.length lq,.slice dX iS.length dB,.slice fa 0 fc,.slice dc K.cs.length cY,.slice cF hv.length cy,.slice kY K.rules.length kX,.slice j7 K.before.length jZ,.slice nv K.after.length nq,zI K.gone,zI K.new,zI K.af,.slice jY K.facts.length iP]⟩,.slice nv K.after.length nq,.bool false]) [] [] (fun aH hs hZ=>ag1 (ZS.up hs) hO (ha0.up hs))<|jp (vs:=[zI 0]) [] [] (fun aH hs hZ=>Bu)<|jd 6 [1]<|jp (vs:=[zI K.gone,zI 0,zI 4]) [] [] (fun aH hs hZ=>fq)<|zD 2<|jj 5 [(1,zP b1),(2,zS),(3,.slice a10 n10 c10),(56,.bool ((!(iL K.gone 0 4))||(!(iL K.new 0 4))))] (fun gp=>?_) (fun hj=>?_)
 rotate_left
 refine js 51 (!(iL K.gone 0 4)) (fun h3=>?_) (fun h3=>?_)
 ·
  have xd:=h3
  try simp only[zB] at xd
  refine zD 5<|jw 56 (.bool ((!(iL K.gone 0 4))||(!(iL K.new 0 4)))) (w:= .bool true) (by rw[h3]<;>rfl) ?_
  exact zK hj
 ·
  have xd:=h3
  try simp only[zB] at xd
  refine jd 2 [1]<|jp (vs:=[zI K.new,zI 0,zI 4]) [] [] (fun aH hs hZ=>fq)<|zD 2<|jw 56 (.bool ((!(iL K.gone 0 4))||(!(iL K.new 0 4)))) (w:= .bool (!(iL K.new 0 4))) (by rw[h3]<;>rfl) ?_
  exact zK hj
 refine zD 1<|jj 5 [(1,zP b1),(2,zS),(3,.slice a10 n10 c10),(62,.bool (((!(iL K.gone 0 4))||(!(iL K.new 0 4)))||(!(iL K.af 0 4))))] (fun gp=>?_) (fun hj=>?_)
 rotate_left
 refine js 57 ((!(iL K.gone 0 4))||(!(iL K.new 0 4))) (fun h4=>?_) (fun h4=>?_)
 ·
  have yP:=h4
  try simp only[zB] at yP
  refine zD 5<|jw 62 (.bool (((!(iL K.gone 0 4))||(!(iL K.new 0 4)))||(!(iL K.af 0 4)))) (w:= .bool true) (by rw[h4]<;>rfl) ?_
  exact zK hj
 ·
  have yP:=h4
  try simp only[zB] at yP
  refine jd 2 [1]<|jp (vs:=[zI K.af,zI 0,zI 4]) [] [] (fun aH hs hZ=>fq)<|zD 2<|jw 62 (.bool (((!(iL K.gone 0 4))||(!(iL K.new 0 4)))||(!(iL K.af 0 4)))) (w:= .bool (!(iL K.af 0 4))) (by rw[h4]<;>rfl) ?_
  exact zK hj
 refine zD 1<|js 62 (((!(iL K.gone 0 4))||(!(iL K.new 0 4)))||(!(iL K.af 0 4))) (fun h5=>?_) (fun h5=>?_)
 ·
  try simp only[zB] at h5
  exfalso;simp[azu hgl.1,azu hgl.2.1,azu hgl.2.2] at h5
 try simp only[zB] at h5
 refine jd 10 [1]<|zJ 67 ((K.facts.length:Int)>4) (fun h6=>?_) fun h6=>?_
 ·
  exfalso;omega
 refine jd 11 [1]<|dV [1,1,1,1,1,1,1,1,1,1,1,0,1,0,0] [] (fun(zz:Nat)=>[(1,zP b1),(2,zS),(3,.slice a10 n10 c10),(70,.slice jY K.facts.length iP),(71,zI (K.facts.length:Int)),(72,zI (zz:Int))]) (fun zz=>[.b b1 (.cells ⟨[.slice mB ij.length lq,.slice dX iS.length dB,.slice fa 0 fc,.slice dc K.cs.length cY,.slice cF hv.length cy,.slice kY K.rules.length kX,.slice j7 K.before.length jZ,.slice nv K.after.length nq,zI K.gone,zI K.new,zI K.af,.slice jY K.facts.length iP]⟩ 40 (0,0)),.l Y10]) (fun zz=>zz≤K.facts.length) (fun zz=>K.facts.length-zz) 0 (by omega) [1,0] ?_
 rintro k hI K1 bO rest
 refine zD 5<|zJ 73 ((k:Int) <(K.facts.length:Int)) (fun h7=>?_) fun h7=>?_
 ·
  refine zD 7 ?_
  obtain⟨x75,VF⟩:=zG K.facts k
  refine iz iP 3 wA VF<|jl 0 (wz _ _ VF)<|jn fun b6=>jd 8 [0,1,1]<|jcH (hi:=(k:Int)) (show bD _ _ _ _ _ from ⟨jY,Ek,Ej,iP,rfl,LV,wA,wz⟩) (by omega) (fun v81 aPC=>?_)
  obtain⟨aq8,aDe,aDa,aq7,rfl,aDc,aDd,aDb⟩:=aPC
  refine jd 1 [0]<|jp (vs:=[.agg ⟨[.slice mB ij.length lq,.slice dX iS.length dB,.slice fa 0 fc,.slice dc K.cs.length cY,.slice cF hv.length cy,.slice kY K.rules.length kX,.slice j7 K.before.length jZ,.slice nv K.after.length nq,zI K.gone,zI K.new,zI K.af,.slice jY K.facts.length iP]⟩,.slice aq8 ((((K.facts).take (k:Int).toNat)).length) aq7,.agg ⟨[zI x75.a,zI x75.b,.bool x75.same]⟩]) [] [] (fun aH hs hZ=>aEL (ZS.up hs) hO ((show bD _ _ _ _ _ from ⟨aq8,aDe,aDa,aq7,rfl,aDc,aDd,aDb⟩).up hs) (by simp only[List.length_take,List.length_drop];omega) (hO.facts.2 _ (zL VF)) (aj8 hO.apart VF)) ?_
  refine jp (vs:=[zI 0]) [] [] (fun aH hs hZ=>Bu)<|zD 2<|ja ((k:Int)+1) (by omega)<|zD 2<|bA bO (k+1) (by omega) (by omega) [1,2] (Sub.refl _)
 refine zD 8<|zR (.slice a10 n10 c10) [] [1] Y10 ⟨_,_,_,rfl,aQm,ahA⟩
def jR(ro:Nat→Option Obj)(l:List Value)(K:aB)(rows:List bI):Prop:=∀aH,Sub ro aH→eg zT 40 [.agg ⟨l⟩] aH [] (fun r Y=>∃f,r= .tuple ⟨[pV f,zI 0]⟩∧∀jW,Sub aH jW→Knows jW Y→pO jW f K rows)
def aF(K:aB):Int:=IntKind.u8.wrap (dG .u8 1 (K.facts.length:Int)-1)
theorem Ey{rows:List bI}(hV:eR K)(hF:pO ro f K rows):dK zT 42 [pV f] ro (.int .u8 (aF K)):=by
 obtain⟨c0,c1,c2,vc,vh,vr,vb,va,vf,vt,hv,hf,px,n6,hr,Fq,Kw,MK,bW⟩:=hF
 exact aOu MK hf (by have:=hV.facts.1;omega)
theorem agS{l:List Value}{rows:List bI}(hK:fP ro l K)(hV:eR K)(hR:rows.length≤2)(hB:jR ro l K rows):
 Gb zT 12 [.agg ⟨l⟩] ro [] (fun r Y=>r= .tuple ⟨[zI ((cX K (aF K) (cm K.gone K.new K.af) rows).length:Int),zI 0]⟩∧Y=[]):=by
 obtain⟨v0,v1,v3,v4,v5,v6,v7,vb,fa,fc,hv,rfl,_⟩:=hK
 refine HD av [] [] bp fun fr=>zD 2<|jn fun b1=>jd 6 [0]<|jc (vs:=[Value.agg ⟨[v0,v1,.slice fa 0 fc,v3,v4,v5,v6,v7,zI K.gone,zI K.new,zI K.af,vb]⟩]) [] (hB _ (Sub.refl _)) ?_
 rintro _ Y ⟨f,rfl,hF⟩
 refine jf [0] Y (fun aH hs hk=>?_)
 have Fs:=hF aH hs hk
 refine zD 18<|jp (vs:=[pV f]) [] [] (fun zo JH hZ=>Ey hV (Fs.up JH))<|P7 (vs:=[pV f,.int .u8 (aF K)]) [] (fun _ _ h=>h) (Zn hV Fs hR) ?_
 rintro v Y2 ⟨zs,hz,ho⟩
 obtain⟨a,c,rfl⟩:=ho.form
 refine zD 5<|Vz qC.a (.tuple ⟨[zI (zs.length:Int),zI 0]⟩) [2] [] hs ⟨by rw[hz.length_eq],rfl⟩
theorem iM{on:Int}{keep:ak→Bool}{rows:List bI}{x:ak}(h:x∈cX K on keep rows):∃i r p,rows[i]?=some r∧p∈aK K on∧x=cu K r i p∧keep x=true:=by
 obtain⟨l,hl,hx⟩:=List.mem_flatten.1 h
 obtain⟨i,hi,rfl⟩:=List.mem_map.1 hl
 have hi:=List.mem_range.1 hi
 obtain⟨h1,h2⟩:=List.mem_filter.1 hx
 obtain⟨p,hp,rfl⟩:=List.mem_map.1 h1
 rw[List.getElem?_eq_getElem hi] at h2 ⊢
 exact⟨i,rows[i],p,List.getElem?_eq_getElem hi,hp,rfl,h2⟩
theorem Y0(r:bI)(p:Nat→Int):∀k,0≤wH r p k∧wH r p k≤k
 |0=>by simp[wH]
 |k+1=>by
  have:=Y0 r p k
  simp only[wH]
  cases decide (p k>0)&& !r.c k (p k-1).toNat with
  |true=>simp only[cond_true];omega
  |false=>simp only[cond_false];omega
theorem qj(hV:eR K)(r:bI)(i:Nat)(p:Nat→Int):(-4≤(cu K r i p).gone∧(cu K r i p).gone≤4)∧(-4≤(cu K r i p).new∧(cu K r i p).new≤4)∧(0≤(cu K r i p).af∧(cu K r i p).af≤4):=by
 have h1:=YK p
 have h2:=Y0 r p 4
 have h3:=hV.before.1
 have h4:=hV.after.1
 simp only[cu]
 omega
def GF(x:ak):Int:=x.gone+x.new+x.af
theorem avK{l:List Value}{rows:List bI}(hK:fP ro l K)(hV:eR K)(hR:rows.length≤2)(hB:jR ro l K rows):Gb zT 48 [.agg ⟨l⟩] ro [] (fun r Y=>∃zs,zs.Perm (cX K (aF K) (fun _=>true) rows)∧Y=[]∧((zs=[]∧r= .tuple ⟨[zI 0,zI 9]⟩)∨(zs≠[]∧r= .tuple ⟨[zI (vw (zs.map GF)),zI 0]⟩))):=by
 obtain⟨v0,v1,v3,v4,v5,v6,v7,vb,fa,fc,hv,rfl,_⟩:=hK
 refine HD av [] [] bp fun fr=>zD 2<|jn fun b1=>jd 6 [0]<|jc (vs:=[.agg ⟨[v0,v1,.slice fa 0 fc,v3,v4,v5,v6,v7,zI K.gone,zI K.new,zI K.af,vb]⟩]) [] (hB _ (Sub.refl _)) ?_
 rintro _ Y12 ⟨f12,rfl,ayI⟩
 refine zD 5<|jf [0] Y12 (fun zo bH iQ=>?_)
 have Fs:=ayI _ bH iQ
 refine zD 13<|jp (vs:=[zP f12]) [] [] (fun aH hs hZ=>Ey hV (Fs.up hs))<|P7 (vs:=[zP f12,.int .u8 (aF K),.func (.func 85) ⟨[]⟩ ⟨[]⟩]) [] (fun _ _ h=>h) (ag9 (keep:=fun _=>true) hV Fs hR (by kernel_rfl) (fun i r hr aJ hs p hp=>aoi)) ?_
 rintro v21 Y21 ⟨zs,aoy,aF5⟩
 have VN:∀x∈zs,(-4≤x.gone∧x.gone≤4)∧(-4≤x.new∧x.new≤4)∧(0≤x.af∧x.af≤4):=fun x hx=>by obtain⟨i,r,p,_,_,rfl,_⟩:=iM (aoy.mem_iff.1 hx);exact qj hV r i p
 have hzl:zs.length≤1250:=by rw[aoy.length_eq];exact q9 hV _ _ hR
 refine zD 6<|yJ aF5<|zD 1<|jf [0] Y21 (fun ro6 eT Qf=>?_)
 have hZ1:=aF5.jL Qf
 obtain⟨yt,Vb,U9,vv,rfl,Va,N9,N8⟩:=hZ1
 refine zD 1<|zJ 24 ((zs.length:Int)=0) (fun h7=>?_) fun h7=>?_
 ·
  refine zD 7<|Vz qC.a.a (.tuple ⟨[zI 0,zI 9]⟩) [1] [] (bH.trans eT) ⟨zs,aoy,rfl,.inl ⟨List.eq_nil_of_length_eq_zero (by omega),rfl⟩⟩
 refine zD 14<|nY<|dV [1,1,1,1,1,1,0,1,0,0] [] (fun(zz:Nat×Value×Cells)=>[(2,zI 0),(3,zI 0),(7,zz.2.1),(25,.slice yt zs.length vv),(26,zI (zs.length:Int)),(27,zI (zz.1:Int))]) (fun zz=>[.l zz.2.2,.b b1 (.cells ⟨[v0,v1,.slice fa 0 fc,v3,v4,v5,v6,v7,zI K.gone,zI K.new,zI K.af,vb]⟩ 40 (0,0)),.l fr]) (fun zz=>zz.1≤zs.length∧ay zz.2.1 1 3 cB ((zs.take zz.1).map GF) zz.2.2) (fun zz=>zs.length-zz.1) (⟨0,zS,[]⟩) ⟨by dsimp only;omega,ay.nil _ _ _⟩ [0,1,2] ?_
 rintro⟨k,vS,LS⟩ hI K1 bO rest
 dsimp only at hI
 refine zD 5<|zJ 28 ((k:Int) <(zs.length:Int)) (fun h8=>?_) fun h8=>?_
 ·
  refine zD 6 ?_
  obtain⟨EW,Bw⟩:=zG zs k
  refine iz vv 8 N9 Bw<|jl 0 (N8 _ _ Bw)<|jn fun b9=>jd 2 [0] ?_
  have hg:=VN _ (zL Bw)
  refine jd 6 [0,0]<|ja (EW.gone+EW.new) (by omega)<|jd 2 [0]<|ja ((EW.gone+EW.new)+EW.af) (by omega)<|jn fun rD=>iC (sz:=1) (ps:=((zs.take k).map GF)) (qs:=[((EW.gone+EW.new)+EW.af)]) (enc:=cB) (w:= .slice (some ⟨rD,0,none⟩) 1 1) [2] [0] [(rD,.cells ⟨([((EW.gone+EW.new)+EW.af)].map cB).flatten⟩ 3 (0,0))] (hI.2) (fun s _ hZ=>bL [((EW.gone+EW.new)+EW.af)] (hZ _ (.head _)) (by intro p hp;rfl)) (fun p _=>ai rfl) (by simp only[List.length_map,List.length_take,List.length_cons,List.length_nil];omega) (fun v41 L41 qL=>?_)
  obtain⟨Gu,Gr,Ie⟩:=qL.form
  subst Ie
  refine zD 3<|ja ((k:Int)+1) (by omega)<|zD 2<|bA bO (⟨k+1,(.slice Gu ((((zs.take k).map GF)++[((EW.gone+EW.new)+EW.af)])).length Gr),L41⟩) ⟨by dsimp only;omega,by rw[iF Bw,List.map_append];exact qL⟩ (by dsimp only;omega) [0,3,4] (Sub.refl _)
 refine zD 5<|jp (vs:=[vS]) [0] LS (fun aH hs hZ=>arz (hI.2.jL hZ) ⟨by simp only[List.length_map,List.length_take];omega,by simp only[List.length_map,List.length_take];omega⟩) ?_
 refine zD 5<|Vz qC.a.a (.tuple ⟨[zI (vw ((zs.take k).map GF)),zI 0]⟩) [2] [] (bH.trans eT) ⟨zs,aoy,rfl,.inr ⟨fun e=>by subst e;simp at*,by rw[show k=zs.length by omega,List.take_length]⟩⟩
end Go.L
