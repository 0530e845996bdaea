/- Part 9 of the proof. -/
import Derived.Test.YtknkndglfcfhkaaGreatDoorU8
set_option maxRecDepth 100000
set_option linter.all false
namespace Go.L
open Go Go.Conc Go.Proofs
variable {ro aI:Nat→Option Obj} {ways:List (List aN)} {l:List Value} {K:aC} {W:List (List Int)} {Z Z2 LM B LE:Cells} {b i k b1 ck bl b2 b3 s rm j IC ck0 r1 en ec:Nat} {F:Nat→Nat→Bool} {Stop:Cells→Prop} {κ α:Type} {seen:List Nat} {n c5 c6:Int} {xs:List Int}
theorem awT{x:Int}(h:0≤x∧x≤4):iy x 0 4=true:=by simp only[iy,Bool.and_eq_true,decide_eq_true_eq];omega
theorem aeq:q5 (bs [97]):=⟨by decide,.inl (by decide)⟩
def ajl(ro:Nat→Option Obj)(v:Value)(W:List (List Int)):Prop:=∃ws,bI ro v 1 gv ws∧dq (fun w l=>bI ro w 1 cz l) ws W
def qt(ro:Nat→Option Obj)(l:List Value)(W:List (List Int)):Prop:=∀aH,Sub ro aH→dR zT 95 [.agg ⟨l.take 3⟩] aH [] (fun r Y=>∃a n c,r= .tuple ⟨[.slice a n c,zI 0]⟩∧n=W.length∧∀kU,Knows kU Y→ajl kU (.slice a n c) W)
theorem atH(hK:fP ro l K)(hO:ju K)(hV:eN K)(hW:1≤W.length∧W.length≤4)(h76:qt ro l W):dR zT 71 [.agg ⟨l⟩] ro [] (fun r Y=>∃a n c,r= .slice a n c∧n=W.length∧∀kU,Knows kU Y→ajl kU r W):=by
 have X4:=hK
 obtain⟨vS,vT,vc,vh,vr,vb,va,vf,fa,fc,hv,rfl,hS,hT,p7,nv,hr,hb,ha,hf⟩:=hK
 obtain⟨gR,hs,e8⟩:=id hS
 obtain⟨iF,ht,eT⟩:=id hT
 obtain⟨hc,hh,Dv⟩:=id p7
 have uR:=hr
 have uK:=hb
 have ha0:=ha
 have hf0:=hf
 obtain⟨lX,TA,Ty,kX,rfl,Tz,Mp,Mo⟩:=hs
 obtain⟨eO,Ac,Aa,dP,rfl,Ab,rR,rQ⟩:=ht
 obtain⟨ei,Ae,Ad,dW,rfl,De,yq,yp⟩:=hc
 obtain⟨dG,uD,uC,dr,rfl,wP,qB,qA⟩:=hh
 obtain⟨kH,Ik,Ij,kG,rfl,Ou,FW,FV⟩:=hr
 obtain⟨lB,Ox,Ov,lf,rfl,Ow,Mt,Ms⟩:=hb
 obtain⟨kR,JZ,JX,kK,rfl,JY,IS,IQ⟩:=ha
 obtain⟨jK,Dd,Dc,iV,rfl,JW,xJ,xI⟩:=hf
 have Ca:=hO.rules
 have qy:=hO.before.1
 have OG:=hO.after.1
 have OF:=hO.facts.1
 have OE:=hO.ways.1
 have Iq:=e8.len
 have Ei:=eT.len
 have XN:=hO.oD.two
 have hl9:=hO.cZ.nh
 have Ot:∀(i:Nat) (p:c8),([]:List c8)[i]?=some p→cv ⟨ro,[]⟩ 0 (0+i*6) 6 (mB p):=fun _ _ h=>n6 h
 have hgl:=hO.tJ
 refine zE<|zD 2<|jn fun b1=>jd 6 [0]<|jc (vs:=[.agg ⟨[.slice lX gR.length kX,.slice eO iF.length dP,.slice fa 0 fc]⟩]) [] (h76 _ (Sub.refl _)) ?_
 rintro _ Y10 ⟨a10,n10,c10,rfl,aNr,afG⟩
 refine zD 9<|jp (vs:=[zI 0]) [] [] (fun aH hs hZ=>Av)<|zD 10<|zJ 15 ((n10:Int)=0) (fun h1=>?_) fun h1=>?_
 ·
  exfalso;omega
 refine zD 8<|zJ 20 ((n10:Int)>4) (fun h2=>?_) fun h2=>?_
 ·
  exfalso;omega
 refine jd 6 [1]<|jp (vs:=[.agg ⟨[.slice ei K.cs.length dW,.slice dG hv.length dr]⟩]) [] [] (fun aH hs hZ=>arO (p7.up hs) nv hV.cZ)<|jp (vs:=[zI 0]) [] [] (fun aH hs hZ=>Av)<|jd 5 [1]<|jp (vs:=[.slice kH K.rules.length kG,.string (bs [97]),.string (bs [97])]) [] [] (fun aH hs hZ=>Qc (uR.up hs) hV.rules.2 hV.rules.1 aeq aeq)<|zD 8<|jp (vs:=[zI 0]) [] [] (fun aH hs hZ=>Av)<|jd 6 [1,1]<|jp (vs:=[.agg ⟨[.slice lX gR.length kX,.slice eO iF.length dP,.slice fa 0 fc,.slice ei K.cs.length dW,.slice dG hv.length dr,.slice kH K.rules.length kG,.slice lB K.before.length lf,.slice kR K.after.length kK,zI K.gone,zI K.new,zI K.af,.slice jK K.facts.length iV]⟩,.slice lB K.before.length lf,.bool true]) [] [] (fun aH hs hZ=>ae9 (X4.up hs) hO (uK.up hs))<|jp (vs:=[zI 0]) [] [] (fun aH hs hZ=>Av)<|jd 6 [1,1]<|jp (vs:=[.agg ⟨[.slice lX gR.length kX,.slice eO iF.length dP,.slice fa 0 fc,.slice ei K.cs.length dW,.slice dG hv.length dr,.slice kH K.rules.length kG,.slice lB K.before.length lf,.slice kR K.after.length kK,zI K.gone,zI K.new,zI K.af,.slice jK K.facts.length iV]⟩,.slice kR K.after.length kK,.bool false]) [] [] (fun aH hs hZ=>afa (X4.up hs) hO (ha0.up hs))<|jp (vs:=[zI 0]) [] [] (fun aH hs hZ=>Av)<|jd 6 [1]<|jp (vs:=[zI K.gone,zI 0,zI 4]) [] [] (fun aH hs hZ=>eY)<|zD 2<|jj 5 [(1,zP b1),(2,zS),(3,.slice a10 n10 c10),(56,.bool ((!(iy K.gone 0 4))||(!(iy K.new 0 4))))] (fun gB=>?_) (fun hj=>?_)
 rotate_left
 refine js 51 (!(iy K.gone 0 4)) (fun h3=>?_) (fun h3=>?_)
 ·
  have vK:=h3
  try simp only[zB] at vK
  refine zD 5<|jw 56 (.bool ((!(iy K.gone 0 4))||(!(iy K.new 0 4)))) (w:= .bool true) (by rw[h3]<;>rfl) ?_
  exact zK hj
 ·
  have vK:=h3
  try simp only[zB] at vK
  refine jd 2 [1]<|jp (vs:=[zI K.new,zI 0,zI 4]) [] [] (fun aH hs hZ=>eY)<|zD 2<|jw 56 (.bool ((!(iy K.gone 0 4))||(!(iy K.new 0 4)))) (w:= .bool (!(iy K.new 0 4))) (by rw[h3]<;>rfl) ?_
  exact zK hj
 refine zD 1<|jj 5 [(1,zP b1),(2,zS),(3,.slice a10 n10 c10),(62,.bool (((!(iy K.gone 0 4))||(!(iy K.new 0 4)))||(!(iy K.af 0 4))))] (fun gB=>?_) (fun hj=>?_)
 rotate_left
 refine js 57 ((!(iy K.gone 0 4))||(!(iy K.new 0 4))) (fun h4=>?_) (fun h4=>?_)
 ·
  have xQ:=h4
  try simp only[zB] at xQ
  refine zD 5<|jw 62 (.bool (((!(iy K.gone 0 4))||(!(iy K.new 0 4)))||(!(iy K.af 0 4)))) (w:= .bool true) (by rw[h4]<;>rfl) ?_
  exact zK hj
 ·
  have xQ:=h4
  try simp only[zB] at xQ
  refine jd 2 [1]<|jp (vs:=[zI K.af,zI 0,zI 4]) [] [] (fun aH hs hZ=>eY)<|zD 2<|jw 62 (.bool (((!(iy K.gone 0 4))||(!(iy K.new 0 4)))||(!(iy K.af 0 4)))) (w:= .bool (!(iy K.af 0 4))) (by rw[h4]<;>rfl) ?_
  exact zK hj
 refine zD 1<|js 62 (((!(iy K.gone 0 4))||(!(iy K.new 0 4)))||(!(iy K.af 0 4))) (fun h5=>?_) (fun h5=>?_)
 ·
  try simp only[zB] at h5
  exfalso;simp[awT hgl.1,awT hgl.2.1,awT hgl.2.2] at h5
 try simp only[zB] at h5
 refine jd 10 [1]<|zJ 67 ((K.facts.length:Int)>4) (fun h6=>?_) fun h6=>?_
 ·
  exfalso;omega
 refine jd 11 [1]<|dS [1,1,1,1,1,1,1,1,1,1,1,0,1,0,0] [] (fun(zz:Nat)=>[(1,zP b1),(2,zS),(3,.slice a10 n10 c10),(70,.slice jK K.facts.length iV),(71,zI (K.facts.length:Int)),(72,zI (zz:Int))]) (fun zz=>[.b b1 (.cells ⟨[.slice lX gR.length kX,.slice eO iF.length dP,.slice fa 0 fc,.slice ei K.cs.length dW,.slice dG hv.length dr,.slice kH K.rules.length kG,.slice lB K.before.length lf,.slice kR K.after.length kK,zI K.gone,zI K.new,zI K.af,.slice jK K.facts.length iV]⟩ 40 (0,0)),.l Y10]) (fun zz=>zz≤K.facts.length) (fun zz=>K.facts.length-zz) 0 (by omega) [1,0] ?_
 rintro k hI K1 bL rest
 refine zD 5<|zJ 73 ((k:Int) <(K.facts.length:Int)) (fun h7=>?_) fun h7=>?_
 ·
  refine zD 7 ?_
  obtain⟨x75,Uk⟩:=zG K.facts k
  refine iB iV 3 xJ Uk<|jl 0 (xI _ _ Uk)<|jn fun b6=>jd 8 [0,1,1]<|jcH (hi:=(k:Int)) (show bI _ _ _ _ _ from ⟨jK,Dd,Dc,iV,rfl,JW,xJ,xI⟩) (by omega) (fun v81 aMJ=>?_)
  obtain⟨ao9,aAe,aAa,ao8,rfl,aAc,aAd,aAb⟩:=aMJ
  refine jd 1 [0]<|jp (vs:=[.agg ⟨[.slice lX gR.length kX,.slice eO iF.length dP,.slice fa 0 fc,.slice ei K.cs.length dW,.slice dG hv.length dr,.slice kH K.rules.length kG,.slice lB K.before.length lf,.slice kR K.after.length kK,zI K.gone,zI K.new,zI K.af,.slice jK K.facts.length iV]⟩,.slice ao9 ((((K.facts).take (k:Int).toNat)).length) ao8,.agg ⟨[zI x75.a,zI x75.b,.bool x75.same]⟩]) [] [] (fun aH hs hZ=>aBN (X4.up hs) hO ((show bI _ _ _ _ _ from ⟨ao9,aAe,aAa,ao8,rfl,aAc,aAd,aAb⟩).up hs) (by simp only[List.length_take,List.length_drop];omega) (hO.facts.2 _ (zL Uk)) (aic hO.apart Uk)) ?_
  refine jp (vs:=[zI 0]) [] [] (fun aH hs hZ=>Av)<|zD 2<|ja ((k:Int)+1) (by omega)<|zD 2<|bJ bL (k+1) (by omega) (by omega) [1,2] (Sub.refl _)
 refine zD 8<|zR (.slice a10 n10 c10) [] [1] Y10 ⟨_,_,_,rfl,aNr,afG⟩
def jE(ro:Nat→Option Obj)(l:List Value)(K:aC)(rows:List bG):Prop:=∀aH,Sub ro aH→dR zT 40 [.agg ⟨l⟩] aH [] (fun r Y=>∃f,r= .tuple ⟨[pV f,zI 0]⟩∧∀kU,Sub aH kU→Knows kU Y→oL kU f K rows)
def aD(K:aC):Int:=IntKind.u8.wrap (dz .u8 1 (K.facts.length:Int)-1)
theorem Dq{f:Nat}{rows:List bG}(hV:eN K)(hF:oL ro f K rows):dD zT 42 [pV f] ro (.int .u8 (aD K)):=by
 obtain⟨c0,c1,c2,vc,vh,vr,vb,va,vf,vt,hv,hf,p7,nv,hr,Ek,I7,KG,bS⟩:=hF
 exact aLB KG hf (by have:=hV.facts.1;omega)
theorem ae3{rows:List bG}(hK:fP ro l K)(hV:eN K)(hR:rows.length≤2)(hB:jE ro l K rows):
 Fb zT 12 [.agg ⟨l⟩] ro [] (fun r Y=>r= .tuple ⟨[zI ((cW K (aD K) (cE K.gone K.new K.af) rows).length:Int),zI 0]⟩∧Y=[]):=by
 obtain⟨v0,v1,v3,v4,v5,v6,v7,vb,fa,fc,hv,rfl,_⟩:=hK
 refine GD au [] [] bn fun fr=>zD 2<|jn fun b1=>jd 6 [0]<|jc (vs:=[Value.agg ⟨[v0,v1,.slice fa 0 fc,v3,v4,v5,v6,v7,zI K.gone,zI K.new,zI K.af,vb]⟩]) [] (hB _ (Sub.refl _)) ?_
 rintro _ Y ⟨f,rfl,hF⟩
 refine jf [0] Y (fun aH hs hk=>?_)
 have En:=hF aH hs hk
 refine zD 18<|jp (vs:=[pV f]) [] [] (fun za Dr hZ=>Dq hV (En.up Dr))<|Sq (vs:=[pV f,.int .u8 (aD K)]) [] (fun _ _ h=>h) (Xn hV En hR) ?_
 rintro v Y2 ⟨zs,hz,ho⟩
 obtain⟨a,c,rfl⟩:=ho.form
 refine zD 5<|Ub qC.a (.tuple ⟨[zI (zs.length:Int),zI 0]⟩) [2] [] hs ⟨by rw[hz.length_eq],rfl⟩
theorem iz{on:Int}{keep:aj→Bool}{rows:List bG}{x:aj}(h:x∈cW K on keep rows):∃i r p,rows[i]?=some r∧p∈aO K on∧x=cq K r i p∧keep x=true:=by
 obtain⟨l,hl,hx⟩:=List.mem_flatten.1 h
 obtain⟨i,hi,rfl⟩:=List.mem_map.1 hl
 have hi:=List.mem_range.1 hi
 obtain⟨h1,h2⟩:=List.mem_filter.1 hx
 obtain⟨p,hp,rfl⟩:=List.mem_map.1 h1
 rw[List.getElem?_eq_getElem hi] at h2 ⊢
 exact⟨i,rows[i],p,List.getElem?_eq_getElem hi,hp,rfl,h2⟩
theorem W8(r:bG)(p:Nat→Int):∀k,0≤BP r p k∧BP r p k≤k
 |0=>by simp[BP]
 |k+1=>by
  have:=W8 r p k
  simp only[BP]
  cases decide (p k>0)&& !r.c k (p k-1).toNat with
  |true=>simp only[cond_true];omega
  |false=>simp only[cond_false];omega
theorem pn(hV:eN K)(r:bG)(i:Nat)(p:Nat→Int):(-4≤(cq K r i p).gone∧(cq K r i p).gone≤4)∧(-4≤(cq K r i p).new∧(cq K r i p).new≤4)∧(0≤(cq K r i p).af∧(cq K r i p).af≤4):=by
 have h1:=WN p
 have h2:=W8 r p 4
 have h3:=hV.before.1
 have h4:=hV.after.1
 simp only[cq]
 omega
def FE(x:aj):Int:=x.gone+x.new+x.af
theorem atz{rows:List bG}(hK:fP ro l K)(hV:eN K)(hR:rows.length≤2)(hB:jE ro l K rows):Fb zT 48 [.agg ⟨l⟩] ro [] (fun r Y=>∃zs,zs.Perm (cW K (aD K) (fun _=>true) rows)∧Y=[]∧((zs=[]∧r= .tuple ⟨[zI 0,zI 9]⟩)∨(zs≠[]∧r= .tuple ⟨[zI (uG (zs.map FE)),zI 0]⟩))):=by
 obtain⟨v0,v1,v3,v4,v5,v6,v7,vb,fa,fc,hv,rfl,_⟩:=hK
 refine GD au [] [] bn fun fr=>zD 2<|jn fun b1=>jd 6 [0]<|jc (vs:=[.agg ⟨[v0,v1,.slice fa 0 fc,v3,v4,v5,v6,v7,zI K.gone,zI K.new,zI K.af,vb]⟩]) [] (hB _ (Sub.refl _)) ?_
 rintro _ Y12 ⟨f12,rfl,awb⟩
 refine zD 5<|jf [0] Y12 (fun za bX iI=>?_)
 have En:=awb _ bX iI
 refine zD 13<|jp (vs:=[zP f12]) [] [] (fun aH hs hZ=>Dq hV (En.up hs))<|Sq (vs:=[zP f12,.int .u8 (aD K),.func (.func 85) ⟨[]⟩ ⟨[]⟩]) [] (fun _ _ h=>h) (afi (keep:=fun _=>true) hV En hR (by kernel_rfl) (fun i r hr aI hs p hp=>amg)) ?_
 rintro v21 Y21 ⟨zs,amx,aCR⟩
 have Uv:∀x∈zs,(-4≤x.gone∧x.gone≤4)∧(-4≤x.new∧x.new≤4)∧(0≤x.af∧x.af≤4):=fun x hx=>by obtain⟨i,r,p,_,_,rfl,_⟩:=iz (amx.mem_iff.1 hx);exact pn hV r i p
 have hzl:zs.length≤1250:=by rw[amx.length_eq];exact qp hV _ _ hR
 refine zD 6<|B0 aCR<|zD 1<|jf [0] Y21 (fun ro6 j5 XP=>?_)
 have hZ1:=aCR.kQ XP
 obtain⟨xw,TJ,TG,uF,rfl,TH,MB,MA⟩:=hZ1
 refine zD 1<|zJ 24 ((zs.length:Int)=0) (fun h7=>?_) fun h7=>?_
 ·
  refine zD 7<|Ub qC.a.a (.tuple ⟨[zI 0,zI 9]⟩) [1] [] (bX.trans j5) ⟨zs,amx,rfl,.inl ⟨List.eq_nil_of_length_eq_zero (by omega),rfl⟩⟩
 refine zD 14<|oR<|dS [1,1,1,1,1,1,0,1,0,0] [] (fun(zz:Nat×Value×Cells)=>[(2,zI 0),(3,zI 0),(7,zz.2.1),(25,.slice xw zs.length uF),(26,zI (zs.length:Int)),(27,zI (zz.1:Int))]) (fun zz=>[.l zz.2.2,.b b1 (.cells ⟨[v0,v1,.slice fa 0 fc,v3,v4,v5,v6,v7,zI K.gone,zI K.new,zI K.af,vb]⟩ 40 (0,0)),.l fr]) (fun zz=>zz.1≤zs.length∧ay zz.2.1 1 3 cz ((zs.take zz.1).map FE) zz.2.2) (fun zz=>zs.length-zz.1) (⟨0,zS,[]⟩) ⟨by dsimp only;omega,ay.nil _ _ _⟩ [0,1,2] ?_
 rintro⟨k,vS,LS⟩ hI K1 bL rest
 dsimp only at hI
 refine zD 5<|zJ 28 ((k:Int) <(zs.length:Int)) (fun h8=>?_) fun h8=>?_
 ·
  refine zD 6 ?_
  obtain⟨DN,Aw⟩:=zG zs k
  refine iB uF 8 MB Aw<|jl 0 (MA _ _ Aw)<|jn fun b9=>jd 2 [0] ?_
  have hg:=Uv _ (zL Aw)
  refine jd 6 [0,0]<|ja (DN.gone+DN.new) (by omega)<|jd 2 [0]<|ja ((DN.gone+DN.new)+DN.af) (by omega)<|jn fun qH=>iC (sz:=1) (ps:=((zs.take k).map FE)) (qs:=[((DN.gone+DN.new)+DN.af)]) (enc:=cz) (w:= .slice (some ⟨qH,0,none⟩) 1 1) [2] [0] [(qH,.cells ⟨([((DN.gone+DN.new)+DN.af)].map cz).flatten⟩ 3 (0,0))] (hI.2) (fun s _ hZ=>bN [((DN.gone+DN.new)+DN.af)] (hZ _ (.head _)) (by intro p hp;rfl)) (fun p _=>ai rfl) (by simp only[List.length_map,List.length_take,List.length_cons,List.length_nil];omega) (fun v41 L41 pW=>?_)
  obtain⟨Ft,Fp,G9⟩:=pW.form
  subst G9
  refine zD 3<|ja ((k:Int)+1) (by omega)<|zD 2<|bJ bL (⟨k+1,(.slice Ft ((((zs.take k).map FE)++[((DN.gone+DN.new)+DN.af)])).length Fp),L41⟩) ⟨by dsimp only;omega,by rw[jh Aw,List.map_append];exact pW⟩ (by dsimp only;omega) [0,3,4] (Sub.refl _)
 refine zD 5<|jp (vs:=[vS]) [0] LS (fun aH hs hZ=>apw (hI.2.kQ hZ) ⟨by simp only[List.length_map,List.length_take];omega,by simp only[List.length_map,List.length_take];omega⟩) ?_
 refine zD 5<|Ub qC.a.a (.tuple ⟨[zI (uG ((zs.take k).map FE)),zI 0]⟩) [2] [] (bX.trans j5) ⟨zs,amx,rfl,.inr ⟨fun e=>by subst e;simp at*,by rw[show k=zs.length by omega,List.take_length]⟩⟩
def aSd(ro:Nat→Option Obj)(f:Nat)(l:List Value)(rows:List bG):Prop:=∃vt,ro f=some (.cells ⟨l++[vt]⟩ 150 (0,0))∧bI ro vt 16 AS rows
def AU(ways:List (List aN))(w:List Int):List (List aN):=List.zipWith (fun l n=>(l.take (n.toNat+1)).drop n.toNat) ways w
theorem anR{w:List Int}{l:List aN}(h1:ways[k]?=some l) (h2:w[k]?=some n):(AU ways w)[k]?=some ((l.take (n.toNat+1)).drop n.toNat):=by
 simp only[AU,List.getElem?_zipWith,h1,h2]
def j8(K:aC)(qv:List Int→aA→List an)(w:List Int):bG:=⟨fun i j=>match K.before[i]?,K.after[j]? with
 |some x,some y=>decide (cb (oO y.st y.no 0) (qv w x) 0≥0)
 |_,_=>false⟩
def Ez(F:Nat→Nat→Bool)(i j:Nat)(r:bG):Prop:=∀x y,r.c x y=((decide (x <i)||(decide (x=i)&&decide (y <j)))&&F x y)
theorem Ez.set{r:bG}(h:Ez F i j r):Ez F i (j+1) (iL r i j (F i j)):=fun x y=>by
 simp only[iL]
 split
 ·rename_i hx;obtain⟨rfl,rfl⟩:=hx;simp
 rename_i hx
 rw[h x y]
 congr 2
 by_cases e:x=i
 ·subst e
  have:y≠j:=fun e2=>hx ⟨rfl,e2⟩
  simp only[decide_true,Bool.true_and]
  congr 1
  exact propext (by omega)
 simp[e]
theorem Ez.nxt{n:Nat}{r:bG}(hF:∀x y,n≤y→F x y=false)(h:Ez F i n r):Ez F (i+1) 0 r:=fun x y=>by
 rw[h x y]
 by_cases hy:y <n
 ·congr 1
  simp only[hy,decide_true,Bool.and_true,Nat.not_lt_zero,decide_false,Bool.and_false,Bool.or_false]
  rw[Bool.eq_iff_iff];simp;omega
 rw[hF x y (by omega)];simp
theorem Ez.fin{n:Nat}{r:bG}(hF:∀x y,n≤x→F x y=false)(h:Ez F n 0 r):r=⟨F⟩:=by
 rcases r with ⟨c⟩
 congr 1
 funext x y
 have:=h x y
 dsimp only at this
 rw[this]
 by_cases hx:x <n
 ·simp[hx]
 rw[hF x y (by omega)];simp
theorem ar2{qv:List Int→aA→List an}{w:List Int}(x y:Nat)(h:K.before.length≤x):(j8 K qv w).c x y=false:=by simp only[j8,List.getElem?_eq_none h]
theorem ar1{qv:List Int→aA→List an}{w:List Int}(x y:Nat)(h:K.after.length≤y):(j8 K qv w).c x y=false:=by
 simp only[j8,List.getElem?_eq_none h]
 split
 ·rename_i h1;cases h1
 rfl
structure VJ(K:aC)(W:List (List Int)):Prop where
 n:1≤W.length∧W.length≤2
 len:∀w∈W,w.length=K.ways.length
 rng:∀w∈W,∀(k:Nat) (l:List aN) (n:Int),K.ways[k]?=some l→w[k]?=some n→0≤n∧n <l.length
def xj(ro:Nat→Option Obj)(l:List Value)(K:aC)(W:List (List Int))(qv:List Int→aA→List an):Prop:=∀w∈W,∀x∈K.before,(qv w x).length≤1000∧∀aH,Sub ro aH→∀v vS vT vU r,l=vS::vT::vU::r→nF aH v (AU K.ways w)→
 dR zT 72 [.agg ⟨[vS,v,vU]⟩,.agg ⟨[zI x.st,zI x.no,zI 0]⟩] aH [] (fun r Y=>∃a n c,r= .tuple ⟨[.slice a n c,zI 0]⟩∧∀kU,Knows kU Y→bI kU (.slice a n c) 3 cH (qv w x))
theorem atI{qv:List Int→aA→List an}(hK:fP ro l K)(hO:ju K)(hV:eN K)(hW:VJ K W)(h76:qt ro l W)(h47:xj ro l K W qv):dR zT 40 [.agg ⟨l⟩] ro [] (fun r Y=>∃f,r= .tuple ⟨[pV f,zI 0]⟩∧∀kU,Sub ro kU→Knows kU Y→oL kU f K (W.map (j8 K qv))∧aSd kU f l (W.map (j8 K qv))):=by
 have X4:=hK
 obtain⟨vS,vT,vc,vh,vr,vb,va,vf,fa,fc,hv,rfl,hS,hT,p7,nv,hr,hb,ha,hf⟩:=hK
 obtain⟨gR,hs,e8⟩:=id hS
 obtain⟨iF,ht,eT⟩:=id hT
 obtain⟨hc,hh,Dv⟩:=id p7
 have uR:=hr
 have uK:=hb
 have ha0:=ha
 have hf0:=hf
 obtain⟨lX,TA,Ty,kX,rfl,Tz,Mp,Mo⟩:=hs
 obtain⟨eO,Ac,Aa,dP,rfl,Ab,rR,rQ⟩:=ht
 obtain⟨ei,Ae,Ad,dW,rfl,De,yq,yp⟩:=hc
 obtain⟨dG,uD,uC,dr,rfl,wP,qB,qA⟩:=hh
 obtain⟨kH,Ik,Ij,kG,rfl,Ou,FW,FV⟩:=hr
 obtain⟨lB,Ox,Ov,lf,rfl,Ow,Mt,Ms⟩:=hb
 obtain⟨kR,JZ,JX,kK,rfl,JY,IS,IQ⟩:=ha
 obtain⟨jK,Dd,Dc,iV,rfl,JW,xJ,xI⟩:=hf
 have Ca:=hO.rules
 have qy:=hO.before.1
 have OG:=hO.after.1
 have OF:=hO.facts.1
 have OE:=hO.ways.1
 have Iq:=e8.len
 have Ei:=eT.len
 have XN:=hO.oD.two
 have hl9:=hO.cZ.nh
 have Ot:∀(i:Nat) (p:c8),([]:List c8)[i]?=some p→cv ⟨ro,[]⟩ 0 (0+i*6) 6 (mB p):=fun _ _ h=>n6 h
 have hWn:=hW.n
 refine aLE au 70 [] [] bn<|zD 2<|jn fun b1=>jn fun b2=>jn fun b3=>zD 4<|jdf (f:=70) (ca:=[zP b2,zP b3])<|jd 5 [2]<|jn fun H5=>jd 6 [2,3]<|jc (vs:=[.agg ⟨[.slice lX gR.length kX,.slice eO iF.length dP,.slice fa 0 fc,.slice ei K.cs.length dW,.slice dG hv.length dr,.slice kH K.rules.length kG,.slice lB K.before.length lf,.slice kR K.after.length kK,zI K.gone,zI K.new,zI K.af,.slice jK K.facts.length iV]⟩]) [] (atH X4 hO hV ⟨hW.n.1,by have:=hW.n.2;omega⟩ h76) ?_
 rintro _ Y21 ⟨a21,n21,c21,rfl,aZi,amF⟩
 refine zD 2<|jf [0] Y21 (fun za bX iI=>?_)
 obtain⟨wsW,hWs,ap9⟩:=amF _ iI
 obtain⟨qWa,qWb,qWo,qWc,heW,qWk,qWh,qWl⟩:=hWs
 simp only[Value.slice.injEq] at heW
 obtain⟨rfl,rfl,rfl⟩:=heW
 have hlW:=ap9.len
 refine zD 2<|oR<|dS [1,1,1,0,1,0,0] [] (fun(zz:Nat×Value×Cells)=>[(1,zP b1),(2,zP b2),(3,zP b3),(21,.slice a21 wsW.length c21),(22,zI (wsW.length:Int)),(23,zI (zz.1:Int))]) (fun zz=>[.l zz.2.2,.b H5 (.cells ⟨[.slice lX gR.length kX,.slice eO iF.length dP,.slice fa 0 fc,.slice ei K.cs.length dW,.slice dG hv.length dr,.slice kH K.rules.length kG,.slice lB K.before.length lf,.slice kR K.after.length kK,zI K.gone,zI K.new,zI K.af,.slice jK K.facts.length iV,zz.2.1]⟩ 150 (0,0)),.b b1 (.cells ⟨[.slice lX gR.length kX,.slice eO iF.length dP,.slice fa 0 fc,.slice ei K.cs.length dW,.slice dG hv.length dr,.slice kH K.rules.length kG,.slice lB K.before.length lf,.slice kR K.after.length kK,zI K.gone,zI K.new,zI K.af,.slice jK K.facts.length iV]⟩ 40 (0,0)),.b b2 (.cells ⟨[zP H5]⟩ 100 (0,0)),.b b3 (.cells ⟨[zI 0]⟩ 46 (0,0))]) (fun zz=>zz.1≤wsW.length∧ay zz.2.1 16 153 AS ((W.take zz.1).map (j8 K qv)) zz.2.2) (fun zz=>wsW.length-zz.1) (⟨0,zS,[]⟩) ⟨by dsimp only;omega,ay.nil _ _ _⟩ [0,1,4,3,2] ?_
 rintro⟨k,vR,LR⟩ hI K1 bL rest
 dsimp only at hI
 refine zD 5<|zJ 24 ((k:Int) <(wsW.length:Int)) (fun h4=>?_) fun h4=>?_
 ·
  refine zD 6 ?_
  obtain⟨x5,k8⟩:=zG wsW k
  refine iB c21 1 qWh k8 ?_
  obtain⟨vv,aDi,h26⟩:=ap9.get k8
  obtain⟨aKt,aXw,aXu,aAG,rfl,aXv,aKs,aKr⟩:=h26
  refine jl 0 (qWl _ _ k8)<|zD 3 ?_
  have hwm:=zL aDi
  have hwl:=hW.len _ hwm
  refine jd 8 [2,2]<|jn fun b6=>jd 10 [0]<|oR<|dS [1,1,1,0,1,0,0,1,1,0,0,1,1,0,1,0,0] [K1] (fun(zz:Nat×Value×Cells×(List Value))=>[(1,zP b1),(2,zP b2),(3,zP b3),(6,zP b6),(21,.slice a21 wsW.length c21),(22,zI (wsW.length:Int)),(23,zI (k:Int)),(34,.slice aKt vv.length aAG),(35,zI (vv.length:Int)),(36,zI (zz.1:Int))]) (fun zz=>[.l zz.2.2.1,.b b6 (.cells ⟨[.slice lX gR.length kX,zz.2.1,.slice fa 0 fc]⟩ 31 (0,0)),.l LR,.b H5 (.cells ⟨[.slice lX gR.length kX,.slice eO iF.length dP,.slice fa 0 fc,.slice ei K.cs.length dW,.slice dG hv.length dr,.slice kH K.rules.length kG,.slice lB K.before.length lf,.slice kR K.after.length kK,zI K.gone,zI K.new,zI K.af,.slice jK K.facts.length iV,vR]⟩ 150 (0,0)),.b b1 (.cells ⟨[.slice lX gR.length kX,.slice eO iF.length dP,.slice fa 0 fc,.slice ei K.cs.length dW,.slice dG hv.length dr,.slice kH K.rules.length kG,.slice lB K.before.length lf,.slice kR K.after.length kK,zI K.gone,zI K.new,zI K.af,.slice jK K.facts.length iV]⟩ 40 (0,0)),.b b2 (.cells ⟨[zP H5]⟩ 100 (0,0)),.b b3 (.cells ⟨[zI 0]⟩ 46 (0,0))]) (fun zz=>(zz.1≤vv.length∧zz.2.2.2.length=zz.1)∧ay zz.2.1 1 87 gv zz.2.2.2 zz.2.2.1∧dq (fun w l=>bI za w 7 kA l) zz.2.2.2 ((AU K.ways vv).take zz.1)) (fun zz=>vv.length-zz.1) (⟨0,zS,[],[]⟩) ⟨⟨by dsimp only;omega,rfl⟩,ay.nil _ _ _,(by simp only[List.take_zero];exact dq.nil)⟩ (zN 0 7) ?_
  rintro⟨j,vT,LT,es⟩ hJ K2 mb rest
  dsimp only at hJ
  refine zD 5<|zJ 37 ((j:Int) <(vv.length:Int)) (fun h5=>?_) fun h5=>?_
  ·
   refine zD 7 ?_
   obtain⟨EH,xB⟩:=zG vv j
   refine iB aAG 1 aKs xB<|jl 0 (aKr _ _ xB)<|jd 10 [1,4] ?_
   obtain⟨x47,Ul⟩:=zG iF j
   refine iB dP 1 rR Ul<|zD 1 ?_
   obtain⟨l49,auU,h49⟩:=eT.get Ul
   obtain hwr:=hW.rng _ hwm _ _ _ auU xB
   obtain aZn:=(hO.ways.2 _ (zL auU)).1.2
   obtain⟨aKk,aKj,aKe,aKi,rfl,aKg,aKh,aKf⟩:=h49
   refine jl 0 ((rQ _ _ Ul).ext (tT bX))<|zD 2<|ja (EH+1) (by omega)<|jcB (lo:=EH) (hi:=(EH+1)) ((show bI _ _ _ _ _ from ⟨aKk,aKj,aKe,aKi,rfl,aKg,aKh,aKf⟩).up bX) (by omega) (fun v53 vD=>?_)
   obtain⟨JU,aAj,aAf,JR,rfl,aAh,aAi,aAg⟩:=vD
   refine zD 1<|aS 14 fun q9 ri p8=>jn fun b55=>ez p8 (zN 1 7)<|aS 15 fun rY sb qE=>iC (sz:=1) (ps:=es) (qs:=[(.slice JU (((((l49).take (EH+1).toNat).drop EH.toNat)).length) JR:Value)]) (enc:=gv) (w:= .slice (some ⟨b55,0,none⟩) 1 1) [1] [0] [(b55,.cells ⟨([(.slice JU (((((l49).take (EH+1).toNat).drop EH.toNat)).length) JR:Value)].map gv).flatten⟩ 87 (0,0))] (hJ.2.1) (fun s _ hZ=>bN [(.slice JU (((((l49).take (EH+1).toNat).drop EH.toNat)).length) JR:Value)] (hZ _ (.head _)) (by intro p hp;rfl)) (by intro p hp;rw[List.mem_singleton] at hp;subst hp;exact ai rfl) (by simp<;>omega) (fun v56 L56 vG=>?_)
   obtain⟨Y3,Y0,agH⟩:=vG.form
   subst agH
   refine fS qE [[],[5]]<|zD 1<|aS 17 fun Bo Bu Cc=>jd 1 [2]<|fT Cc<|zD 2<|ja ((j:Int)+1) (by omega)<|zD 2<|bJ mb (⟨j+1,(.slice Y3 ((es++[(.slice JU (((((l49).take (EH+1).toNat).drop EH.toNat)).length) JR:Value)])).length Y0),L56,(es++[(.slice JU (((((l49).take (EH+1).toNat).drop EH.toNat)).length) JR:Value)])⟩) ⟨⟨by dsimp only;omega,by simp only[zM];omega⟩,vG,by rw[jh (anR auU xB)];exact hJ.2.2.snoc (by rw[show EH.toNat+1=(EH+1).toNat by omega];exact⟨JU,aAj,aAf,JR,rfl,aAh,aAi,aAg⟩)⟩ (by dsimp only;omega) [0,2,3,4,5,6,7] (Sub.refl _)
  refine zD 3 ?_
  have hS6:dq (fun w l=>bI za w 7 kA l) es (AU K.ways vv):=by have:=hJ.2.2;rwa[List.take_of_length_le (by simp only[AU,List.length_zipWith];omega)] at this
  refine zD 1<|jn fun b9=>jd 10 [5]<|dS [1,1,1,0,1,0,0,1,1,0,0,1,1,1,1,0,1,0,0] [K1] (fun(zz:Nat×bG)=>[(1,zP b1),(2,zP b2),(3,zP b3),(6,zP b6),(9,zP b9),(21,.slice a21 wsW.length c21),(22,zI (wsW.length:Int)),(23,zI (k:Int)),(60,.slice lB K.before.length lf),(61,zI (K.before.length:Int)),(62,zI (zz.1:Int))]) (fun zz=>[.b b9 (.cells ⟨[.bool (zz.2.c 0 0),.bool (zz.2.c 0 1),.bool (zz.2.c 0 2),.bool (zz.2.c 0 3),.bool (zz.2.c 1 0),.bool (zz.2.c 1 1),.bool (zz.2.c 1 2),.bool (zz.2.c 1 3),.bool (zz.2.c 2 0),.bool (zz.2.c 2 1),.bool (zz.2.c 2 2),.bool (zz.2.c 2 3),.bool (zz.2.c 3 0),.bool (zz.2.c 3 1),.bool (zz.2.c 3 2),.bool (zz.2.c 3 3)]⟩ 153 (0,0)),.l LT,.b b6 (.cells ⟨[.slice lX gR.length kX,vT,.slice fa 0 fc]⟩ 31 (0,0)),.l LR,.b H5 (.cells ⟨[.slice lX gR.length kX,.slice eO iF.length dP,.slice fa 0 fc,.slice ei K.cs.length dW,.slice dG hv.length dr,.slice kH K.rules.length kG,.slice lB K.before.length lf,.slice kR K.after.length kK,zI K.gone,zI K.new,zI K.af,.slice jK K.facts.length iV,vR]⟩ 150 (0,0)),.b b1 (.cells ⟨[.slice lX gR.length kX,.slice eO iF.length dP,.slice fa 0 fc,.slice ei K.cs.length dW,.slice dG hv.length dr,.slice kH K.rules.length kG,.slice lB K.before.length lf,.slice kR K.after.length kK,zI K.gone,zI K.new,zI K.af,.slice jK K.facts.length iV]⟩ 40 (0,0)),.b b2 (.cells ⟨[zP H5]⟩ 100 (0,0)),.b b3 (.cells ⟨[zI 0]⟩ 46 (0,0))]) (fun zz=>zz.1≤K.before.length∧Ez (j8 K qv vv).c zz.1 0 zz.2) (fun zz=>K.before.length-zz.1) (⟨0,⟨fun _ _=>false⟩⟩) ⟨by dsimp only;omega,fun x y=>by simp⟩ (zN 0 8) ?_
  rintro⟨i,r⟩ hQ K6 hK6 rest
  dsimp only at hQ
  refine zD 5<|zJ 63 ((i:Int) <(K.before.length:Int)) (fun h9=>?_) fun h9=>?_
  ·
   refine zD 7 ?_
   obtain⟨OQ,afu⟩:=zG K.before i
   refine iB lf 5 Mt afu<|jl 0 ((Ms _ _ afu).ext (tT bX))<|jn fun SI=>jd 7 [0,3,0]<|jp (vs:=[.agg ⟨[.string OQ.name,zI OQ.st,zI OQ.no,zI OQ.head,.bool OQ.bold]⟩]) [] [] (fun aH hs hZ=>Xq)<|aS 3 fun aku akR Ra=>OA (vs:=[.agg ⟨[.slice lX gR.length kX,vT,.slice fa 0 fc]⟩,.agg ⟨[zI OQ.st,zI OQ.no,zI 0]⟩]) [] [2] LT (fun aH hs hZ=>(h47 _ hwm _ (zL afu)).2 _ (bX.trans hs) _ _ _ _ _ rfl ⟨_,hJ.2.1.kQ hZ,hS6.imp fun _ _ k=>k.up hs⟩) ?_
   rintro _ Y71 ⟨a71,n71,c71,rfl,aMk⟩
   refine ez Ra (zN 1 9)<|zD 9<|jp (vs:=[zI 0]) [] [] (fun aH hs hZ=>Av)<|jf [0] Y71 (fun aWQ aCs aNS=>?_)
   obtain⟨qPa,qPb,qPo,qPc,heP,qPk,qPh,qPl⟩:=aMk _ aNS
   simp only[Value.slice.injEq] at heP
   obtain⟨rfl,rfl,rfl⟩:=heP
   refine jd 9 [6]<|dS [1,1,1,0,1,0,0,1,1,0,0,1,1,1,1,0,1,0,0,1,1,0,0,1,1,1,1,0,0] [K1,K6] (fun(zz:Nat×bG)=>[(1,zP b1),(2,zP b2),(3,zP b3),(6,zP b6),(9,zP b9),(10,zI (i:Int)),(12,.slice a71 ((qv vv OQ).length) c71),(21,.slice a21 wsW.length c21),(22,zI (wsW.length:Int)),(23,zI (k:Int)),(60,.slice lB K.before.length lf),(61,zI (K.before.length:Int)),(62,zI (i:Int)),(77,.slice kR K.after.length kK),(78,zI (K.after.length:Int)),(79,zI (zz.1:Int))]) (fun zz=>[.b b9 (.cells ⟨[.bool (zz.2.c 0 0),.bool (zz.2.c 0 1),.bool (zz.2.c 0 2),.bool (zz.2.c 0 3),.bool (zz.2.c 1 0),.bool (zz.2.c 1 1),.bool (zz.2.c 1 2),.bool (zz.2.c 1 3),.bool (zz.2.c 2 0),.bool (zz.2.c 2 1),.bool (zz.2.c 2 2),.bool (zz.2.c 2 3),.bool (zz.2.c 3 0),.bool (zz.2.c 3 1),.bool (zz.2.c 3 2),.bool (zz.2.c 3 3)]⟩ 153 (0,0)),.b SI (.cells ⟨[.string OQ.name,zI OQ.st,zI OQ.no,zI OQ.head,.bool OQ.bold]⟩ 55 (0,0)),.l LT,.b b6 (.cells ⟨[.slice lX gR.length kX,vT,.slice fa 0 fc]⟩ 31 (0,0)),.l LR,.b H5 (.cells ⟨[.slice lX gR.length kX,.slice eO iF.length dP,.slice fa 0 fc,.slice ei K.cs.length dW,.slice dG hv.length dr,.slice kH K.rules.length kG,.slice lB K.before.length lf,.slice kR K.after.length kK,zI K.gone,zI K.new,zI K.af,.slice jK K.facts.length iV,vR]⟩ 150 (0,0)),.b b1 (.cells ⟨[.slice lX gR.length kX,.slice eO iF.length dP,.slice fa 0 fc,.slice ei K.cs.length dW,.slice dG hv.length dr,.slice kH K.rules.length kG,.slice lB K.before.length lf,.slice kR K.after.length kK,zI K.gone,zI K.new,zI K.af,.slice jK K.facts.length iV]⟩ 40 (0,0)),.b b2 (.cells ⟨[zP H5]⟩ 100 (0,0)),.b b3 (.cells ⟨[zI 0]⟩ 46 (0,0))]) (fun zz=>zz.1≤K.after.length∧Ez (j8 K qv vv).c i zz.1 zz.2) (fun zz=>K.after.length-zz.1) (⟨0,r⟩) ⟨by dsimp only;omega,hQ.2⟩ [1,0,2,3,4,5,6,7,8] ?_
   rintro⟨j,r⟩ hU K8 hK8 rest
   dsimp only at hU
   refine zD 5<|zJ 80 ((j:Int) <(K.after.length:Int)) (fun h14=>?_) fun h14=>?_
   ·
    refine zD 7 ?_
    obtain⟨EG,Uj⟩:=zG K.after j
    refine iB kK 5 IS Uj<|jl 0 ((IQ _ _ Uj).ext (tT (bX.trans aCs)))<|jn fun H6=>jd 3 [0] ?_
    have hRW:(j8 K qv vv).c i j=decide (cb (oO EG.st EG.no 0) (qv vv OQ) 0≥0):=by simp only[j8,afu,Uj]
    refine jd 5 [0]<|Kz (b:=b9) (off:=0) (len:=4) (sz:=4) (i:Int) (by omega)<|jp (vs:=[.agg ⟨[.string EG.name,zI EG.st,zI EG.no,zI EG.head,.bool EG.bold]⟩]) [] [] (fun aH hs hZ=>Xq)<|jp (vs:=[.slice a71 ((qv vv OQ).length) c71,.agg ⟨[zI EG.st,zI EG.no,zI 0]⟩]) [] [] (fun aH hs hZ=>Kx ((show bI _ _ _ _ _ from ⟨a71,qPb,qPo,c71,rfl,qPk,qPh,qPl⟩).up hs) (h47 _ hwm _ (zL afu)).1)<|Kz (b:=b9) (off:=0+(i:Int).toNat*4) (len:=4) (sz:=1) (j:Int) (by omega)<|aS 8 fun YS Ze UY=>jsx 1 b9 (0+(i:Int).toNat*4+(j:Int).toNat*1) [.bool (r.c 0 0),.bool (r.c 0 1),.bool (r.c 0 2),.bool (r.c 0 3),.bool (r.c 1 0),.bool (r.c 1 1),.bool (r.c 1 2),.bool (r.c 1 3),.bool (r.c 2 0),.bool (r.c 2 1),.bool (r.c 2 2),.bool (r.c 2 3),.bool (r.c 3 0),.bool (r.c 3 1),.bool (r.c 3 2),.bool (r.c 3 3)] [.bool (decide (cb (oO EG.st EG.no 0) (qv vv OQ) 0≥0))] 153 (by intro v hv;rw[List.mem_singleton] at hv;subst hv;rfl) (Wy (r:=r) (by omega) (by omega)) ?_
    refine jmw 0 [.b b9 (.cells ⟨[.bool ((iL r i j ((j8 K qv vv).c i j)).c 0 0),.bool ((iL r i j ((j8 K qv vv).c i j)).c 0 1),.bool ((iL r i j ((j8 K qv vv).c i j)).c 0 2),.bool ((iL r i j ((j8 K qv vv).c i j)).c 0 3),.bool ((iL r i j ((j8 K qv vv).c i j)).c 1 0),.bool ((iL r i j ((j8 K qv vv).c i j)).c 1 1),.bool ((iL r i j ((j8 K qv vv).c i j)).c 1 2),.bool ((iL r i j ((j8 K qv vv).c i j)).c 1 3),.bool ((iL r i j ((j8 K qv vv).c i j)).c 2 0),.bool ((iL r i j ((j8 K qv vv).c i j)).c 2 1),.bool ((iL r i j ((j8 K qv vv).c i j)).c 2 2),.bool ((iL r i j ((j8 K qv vv).c i j)).c 2 3),.bool ((iL r i j ((j8 K qv vv).c i j)).c 3 0),.bool ((iL r i j ((j8 K qv vv).c i j)).c 3 1),.bool ((iL r i j ((j8 K qv vv).c i j)).c 3 2),.bool ((iL r i j ((j8 K qv vv).c i j)).c 3 3)]⟩ 153 (0,0))] (L:=[(b9,.cells ⟨dw [.bool (r.c 0 0),.bool (r.c 0 1),.bool (r.c 0 2),.bool (r.c 0 3),.bool (r.c 1 0),.bool (r.c 1 1),.bool (r.c 1 2),.bool (r.c 1 3),.bool (r.c 2 0),.bool (r.c 2 1),.bool (r.c 2 2),.bool (r.c 2 3),.bool (r.c 3 0),.bool (r.c 3 1),.bool (r.c 3 2),.bool (r.c 3 3)] (0+(i:Int).toNat*4+(j:Int).toNat*1) [.bool (decide (cb (oO EG.st EG.no 0) (qv vv OQ) 0≥0))]⟩ 153 (0,0))]) (by rw[Ww (by omega) (by omega),hRW];rfl) ?_
    refine fS UY []<|zD 2<|ja ((j:Int)+1) (by omega)<|zD 2<|bJ hK8 (⟨j+1,(iL r i j ((j8 K qv vv).c i j))⟩) ⟨by dsimp only;omega,hU.2.set⟩ (by dsimp only;omega) [0,2,3,4,5,6,7,8,9] (Sub.refl _)
   refine zD 3<|ja ((i:Int)+1) (by omega)<|zD 2<|bJ hK6 (⟨i+1,r⟩) ⟨by dsimp only;omega,Ez.nxt (fun x y h=>ar1 x y h) (by have:=hU.2;rwa[show j=K.after.length by omega] at this)⟩ (by dsimp only;omega) [0,2,3,4,5,6,7,8] aCs
  refine jd 9 [6,6,4,0]<|aS 6 fun Fc FA tS=>jn fun aFT=>ez tS (zN 1 8)<|aS 7 fun Jn Jv Cj=>iC (sz:=16) (ps:=((W.take k).map (j8 K qv))) (qs:=[(r:bG)]) (enc:=AS) (w:= .slice (some ⟨aFT,0,none⟩) 1 1) [4] [0] [(aFT,.cells ⟨([(r:bG)].map AS).flatten⟩ 153 (0,0))] (hI.2) (fun s _ hZ=>bN [(r:bG)] (hZ _ (.head _)) (by intro p hp;rfl)) (fun p _=>ai rfl) (by simp only[List.length_map,List.length_take,List.length_cons,List.length_nil];omega) (fun aWt aSc XK=>?_)
  obtain⟨ay4,ayX,aDJ⟩:=XK.form
  subst aDJ
  refine fS Cj [[7],[7]]<|zD 2<|aS 10 fun OP O9 Ci=>jd 1 [5]<|fS Ci []<|zD 2<|ja ((k:Int)+1) (by omega)<|zD 2<|bJ bL (⟨k+1,(.slice ay4 ((((W.take k).map (j8 K qv))++[(r:bG)])).length ayX),aSc⟩) ⟨by dsimp only;omega,by rw[jh aDi,List.map_append];have e:=Ez.fin (fun x y h=>ar2 x y h) (by have:=hQ.2;rwa[show i=K.before.length by omega] at this);subst e;exact XK⟩ (by dsimp only;omega) [0,5,6,7,8] (Sub.refl _)
 refine jd 9 [3,3,4]<|jrD (g:=70) (ca:=[zP b2,zP b3]) ⟨rfl,rfl⟩ (.tuple ⟨[zP H5,zI 0]⟩) [3,4] [1,0] ((H5,.cells ⟨[.slice lX gR.length kX,.slice eO iF.length dP,.slice fa 0 fc,.slice ei K.cs.length dW,.slice dG hv.length dr,.slice kH K.rules.length kG,.slice lB K.before.length lf,.slice kR K.after.length kK,zI K.gone,zI K.new,zI K.af,.slice jK K.facts.length iV,vR]⟩ 150 (0,0))::LR) 9 bX ⟨_,_,rfl,rfl,H5,rfl,fun kU hs hk=>by have hvt:=hI.2;rw[List.take_of_length_le (by omega)] at hvt;exact⟨⟨_,_,_,_,_,_,_,_,_,_,hv,hk _ (.head _),p7.up hs,nv,uR.up hs,uK.up hs,ha0.up hs,hf0.up hs,hvt.kQ hk.tail⟩,⟨_,hk _ (.head _),hvt.kQ hk.tail⟩⟩⟩
theorem Se.v(h:Se K):eN K where
 rules:=⟨by have:=h.rules.1;omega,fun r hr=>arX (h.rules.2 r hr)⟩
 before:=⟨by have:=h.before.1;omega,fun p hp=>by
  obtain⟨h1,h2,_⟩:=(h.before.2 p hp).1
  exact⟨⟨⟨h1.1.1,by have:=h1.1.2;omega⟩,h1.2⟩,h2⟩⟩
 after:=⟨by have:=h.after.1;omega,fun p hp=>by
  obtain⟨h1,h2,_⟩:=(h.after.2 p hp).1
  exact⟨⟨⟨h1.1.1,by have:=h1.1.2;omega⟩,h1.2⟩,h2⟩⟩
 cZ:=h.cZ.v
 facts:=⟨by have:=h.facts.1;omega,h.facts.2⟩
theorem qt.up(h:qt ro l W)(hs:Sub ro aI):qt aI l W:=fun aH h1=>h aH (hs.trans h1)
theorem xj.up{qv:List Int→aA→List an}(h:xj ro l K W qv)(hs:Sub ro aI):xj aI l K W qv:=fun w hw x hx=>⟨(h w hw x hx).1,fun aH h1=>(h w hw x hx).2 aH (hs.trans h1)⟩
theorem an8{qv:List Int→aA→List an}(hK:fP ro l K)(hO:ju K)(hV:eN K)(hW:VJ K W)(h76:qt ro l W)(h47:xj ro l K W qv):jE ro l K (W.map (j8 K qv)):=
 fun aH hs=>(atI (hK.up hs) hO hV hW (h76.up hs) (h47.up hs)).mono fun _ _ ⟨f,e,h⟩=>⟨f,e,fun kU h1 h2=>(h kU h1 h2).1⟩
def qG(a b:Int):Int:=if a <b then-1 else if a>b then 1 else 0
def orL:List Int→Int
 | []=>0
 |x::l=>if x=0 then orL l else x
theorem ad2{l:List Int}{x:Int}(h:l[k]?=some x):orL (l.drop k)=if x=0 then orL (l.drop (k+1)) else x:=by rw[fo h];rfl
theorem aly{l:List Int}(h:¬k <l.length):orL (l.drop k)=0:=by rw[eo h];rfl
def aa8(x y:ah):Int:=orL [qG x.n y.n,qG x.l y.l]
theorem anW{x y:ah}(h:alr x y):aa8 x y <0:=by
 rcases h with h| ⟨h1,h2⟩
 ·have e:qG x.n y.n= -1:=if_pos h
  simp[aa8,orL,e]
 have e:qG x.n y.n=0:=by simp only[qG];rw[if_neg (by omega),if_neg (by omega)]
 have e2:qG x.l y.l= -1:=if_pos h2
 simp[aa8,orL,e,e2]
theorem aER{a:Int}:dD zT 151 [zI a] ro (.bool false):=by
 refine zE<|zD 12<|zX (.bool (!decide (a=a))) ⟨by simp,rfl⟩
theorem awu{a b:Int}:dD zT 112 [zI a,zI b] ro (zI (qG a b)):=by
 refine zE<|zD 7<|jp (vs:=[zI a]) [] [] (fun aH hs hZ=>aER)<|zD 5<|jp (vs:=[zI b]) [] [] (fun aH hs hZ=>aER)<|zD 23<|zJ 16 (a <b) (fun h1=>?_) fun h1=>?_
 ·
  refine zD 6<|zX (zI (-1)) ⟨by simp only[qG];first|rw[if_pos (by omega)]|rw[if_neg (by omega),if_pos (by omega)]|rw[if_neg (by omega),if_neg (by omega)],rfl⟩
 refine zD 9<|zJ 19 (a>b) (fun h2=>?_) fun h2=>?_
 ·
  refine zD 6<|zX (zI 1) ⟨by simp only[qG];first|rw[if_pos (by omega)]|rw[if_neg (by omega),if_pos (by omega)]|rw[if_neg (by omega),if_neg (by omega)],rfl⟩
 refine zD 7<|zX (zI 0) ⟨by simp only[qG];first|rw[if_pos (by omega)]|rw[if_neg (by omega),if_pos (by omega)]|rw[if_neg (by omega),if_neg (by omega)],rfl⟩
theorem gOr{v:Value}(hl:bI ro v 1 cz xs)(hn:xs.length≤1000):dD zT 183 [v] ro (zI (orL xs)):=by
 obtain⟨fu,ry,rq,eI,rfl,tx,lv,mj⟩:=hl
 refine zE<|zD 16<|dS [1,1,0,1,0,0] [] (fun(zz:Nat)=>[(3,zI 0),(6,.slice fu xs.length eI),(7,zI (xs.length:Int)),(8,zI (zz:Int))]) (fun zz=>[]) (fun zz=>zz≤xs.length∧orL xs=orL (xs.drop zz)) (fun zz=>xs.length-zz) 0 ⟨by omega,rfl⟩ [] ?_
 rintro k hI K1 bL rest
 refine zD 5<|zJ 9 ((k:Int) <(xs.length:Int)) (fun h1=>?_) fun h1=>?_
 ·
  refine zD 6 ?_
  obtain⟨x10,rD⟩:=zG xs k
  refine iB eI 1 lv rD<|jl 0 (mj _ _ rD)<|zD 8<|js 14 (!decide (x10=0)) (fun h2=>?_) (fun h2=>?_)
  ·
   replace h2:=of_decide_eq_false (by simpa using h2)
   refine zD 7<|zX (zI x10) ⟨by rw[hI.2,ad2 rD,if_neg (by simp_all)],rfl⟩
  replace h2:=of_decide_eq_true (by simpa using h2)
  refine zD 3<|ja ((k:Int)+1) (by omega)<|zD 2<|bJ bL (k+1) ⟨by omega,by rw[hI.2,ad2 rD,if_pos (by simp_all)]⟩ (by omega) [] (Sub.refl _)
 refine zD 8<|zX (zI 0) ⟨by rw[hI.2,aly (by omega)],rfl⟩
theorem aqp{x y:ah}:dD zT 184 [.agg ⟨[zI x.n,zI x.l]⟩,.agg ⟨[zI y.n,zI y.l]⟩] ro (zI (aa8 x y)):=by
 refine zE<|zD 2<|jn fun b2=>jn fun b3=>jd 12 [1,0,1,0]<|jp (vs:=[zI x.n,zI y.n]) [] [] (fun aH hs hZ=>awu)<|jp (vs:=[zI x.l,zI y.l]) [] [] (fun aH hs hZ=>awu)<|aS 10 fun DM DW Bh=>jn fun H6=>ez Bh [1,2]<|jp (vs:=[.slice (some ⟨H6,0,none⟩) 2 2]) [0] [(H6,.cells ⟨([(qG x.n y.n),(qG x.l y.l)].map cz).flatten⟩ 3 (0,0))] (fun aH hs hZ=>gOr (bC [(qG x.n y.n),(qG x.l y.l)] hZ.head (by intro p hp;rfl)) (by first|omega| (simp only[List.length_set,zM];omega))) ?_
 refine zD 3<|zX (zI (orL [(qG x.n y.n),(qG x.l y.l)])) ⟨rfl,rfl⟩
theorem AG{lo hi:Int}:dD zT 170 [zI n,zI lo,zI hi] ro (.bool (iy n lo hi)):=by
 refine zE<|zD 10<|jj 4 [(6,.bool false),(14,.bool ((decide (lo≤n))&&(decide (n≤hi))))] (fun gB=>?_) (fun hj=>?_)
 rotate_left
 refine js 10 (decide (lo≤n)) (fun h1=>?_) (fun h1=>?_)
 ·
  have fQ:=h1
  replace fQ:=of_decide_eq_true fQ
  refine zD 4<|jw 14 (.bool ((decide (lo≤n))&&(decide (n≤hi)))) (w:= .bool (decide (n≤hi))) (by rw[h1]<;>rfl) ?_
  exact zK hj
 ·
  have fQ:=h1
  replace fQ:=of_decide_eq_false fQ
  refine zD 4<|jw 14 (.bool ((decide (lo≤n))&&(decide (n≤hi)))) (w:= .bool false) (by rw[h1]<;>rfl) ?_
  exact zK hj
 refine zD 3<|zX (.bool ((decide (lo≤n))&&(decide (n≤hi)))) ⟨rfl,rfl⟩
theorem awp{x:ah}(hx:A7 x):dD zT 172 [.agg ⟨[zI x.n,zI x.l]⟩] ro (.bool true):=by
 obtain⟨⟨hx1,hx2⟩,hx3,hx4⟩:=hx
 refine zE<|zD 2<|jn fun b1=>jd 6 [0]<|jp (vs:=[zI x.n,zI 1,zI 40]) [] [] (fun aH hs hZ=>AG)<|zD 1<|jj 4 [(2,.bool false),(10,.bool ((iy x.n 1 40)&&(iy x.l 0 4)))] (fun gB=>?_) (fun hj=>?_)
 rotate_left
 refine js 6 (iy x.n 1 40) (fun h1=>?_) (fun h1=>?_)
 ·
  refine jd 2 [0]<|jp (vs:=[zI x.l,zI 0,zI 4]) [] [] (fun aH hs hZ=>AG)<|zD 1<|jw 10 (.bool ((iy x.n 1 40)&&(iy x.l 0 4))) (w:= .bool (iy x.l 0 4)) (by rw[h1]<;>rfl) ?_
  exact zK hj
 ·
  refine zD 4<|jw 10 (.bool ((iy x.n 1 40)&&(iy x.l 0 4))) (w:= .bool false) (by rw[h1]<;>rfl) ?_
  exact zK hj
 refine zD 3<|zX (.bool ((iy x.n 1 40)&&(iy x.l 0 4))) ⟨by simp only[iy,Value.bool.injEq,Bool.and_eq_true,decide_eq_true_eq];omega,rfl⟩
theorem awv{v:Value}{S:List (List ah)}(hS:cS ro v S)(hO:eQ S):dD zT 169 [.agg ⟨[v]⟩] ro (zI 0):=by
 obtain⟨ws,ht,dc⟩:=hS
 obtain⟨eO,Ac,Aa,dP,rfl,Ab,rR,rQ⟩:=ht
 have hln:=dc.len
 have I0:=hO.two
 refine zE<|zD 2<|jn fun b1=>jd 10 [0]<|zJ 10 ((ws.length:Int)=0) (fun h1=>?_) fun h1=>?_
 ·
  exfalso;omega
 refine jd 10 [0]<|zJ 14 ((ws.length:Int)>3) (fun h2=>?_) fun h2=>?_
 ·
  exfalso;omega
 refine jd 11 [0]<|dS [1,1,1,0,1,0,0] [] (fun(zz:Nat)=>[(16,.slice eO ws.length dP),(17,zI (ws.length:Int)),(18,zI (zz:Int))]) (fun zz=>[.b b1 (.cells ⟨[.slice eO ws.length dP]⟩ 27 (0,0))]) (fun zz=>zz≤ws.length) (fun zz=>ws.length-zz) 0 (by omega) [0] ?_
 rintro k hI K1 bL rest
 refine zD 5<|zJ 19 ((k:Int) <(ws.length:Int)) (fun h3=>?_) fun h3=>?_
 ·
  refine zD 6 ?_
  obtain⟨x20,Nf⟩:=zG ws k
  refine iB dP 1 rR Nf ?_
  obtain⟨l21,auW,h21⟩:=dc.get Nf
  obtain aZp:=hO.len _ (zL auW)
  obtain aMx:=hO.ok _ (zL auW)
  obtain amF:=hO.asc _ (zL auW)
  obtain⟨aAO,aXz,aXx,alo,rfl,aXy,aAN,aAM⟩:=h21
  refine jl 0 (rQ _ _ Nf)<|zD 9<|zJ 24 ((l21.length:Int)>8) (fun h4=>?_) fun h4=>?_
  ·
   exfalso;omega
  refine zD 9<|dS [1,1,1,0,1,0,0,1,1,0,0,1,1,1,0,0] [K1] (fun(zz:Nat)=>[(4,.slice aAO l21.length alo),(16,.slice eO ws.length dP),(17,zI (ws.length:Int)),(18,zI (k:Int)),(25,.slice aAO l21.length alo),(26,zI (l21.length:Int)),(27,zI (zz:Int))]) (fun zz=>[.b b1 (.cells ⟨[.slice eO ws.length dP]⟩ 27 (0,0))]) (fun zz=>zz≤l21.length) (fun zz=>l21.length-zz) 0 (by omega) [0] ?_
  rintro i hJ K2 mb rest
  refine zD 5<|zJ 28 ((i:Int) <(l21.length:Int)) (fun h5=>?_) fun h5=>?_
  ·
   refine zD 7 ?_
   obtain⟨nT,iO⟩:=zG l21 i
   refine iB alo 2 aAN iO<|jl 0 (aAM _ _ iO)<|jn fun b6=>jd 7 [0,0]<|jp (vs:=[.agg ⟨[zI nT.n,zI nT.l]⟩]) [] [] (fun aH hs hZ=>(awp (x:=nT) (aMx _ (zL iO))))<|zD 9<|js 2 (decide ((i:Int)>0)) (fun h6=>?_) (fun h6=>?_)
   ·
    have h6g:=h6
    replace h6g:=of_decide_eq_true h6g
    refine zD 2<|ja ((i:Int)-1) (by omega) ?_
    obtain⟨x41,at0⟩:=zG l21 (((i:Int)-1).toNat)
    refine Oz ((i:Int)-1) alo 2 aAN at0 (by omega)<|jl 0 (aAM _ _ at0)<|jd 1 [0]<|jp (vs:=[.agg ⟨[zI x41.n,zI x41.l]⟩,.agg ⟨[zI nT.n,zI nT.l]⟩]) [] [] (fun aH hs hZ=>(aqp (x:=x41) (y:=nT)))<|zD 3<|zJ 46 ((aa8 x41 nT)≥0) (fun h7=>?_) fun h7=>?_
    ·
     exfalso;have:=anW (pK amF (show ((i:Int)-1).toNat <i by omega) at0 iO);simp_all;omega
    refine zD 3<|ja ((i:Int)+1) (by omega)<|zD 2<|bJ mb (i+1) (by omega) (by omega) [1] (Sub.refl _)
   have h6g:=h6
   replace h6g:=of_decide_eq_false h6g
   refine zD 13<|ja ((i:Int)+1) (by omega)<|zD 2<|bJ mb (i+1) (by omega) (by omega) [1] (Sub.refl _)
  refine zD 3<|ja ((k:Int)+1) (by omega)<|zD 2<|bJ bL (k+1) (by omega) (by omega) [0] (Sub.refl _)
 refine zD 7<|zX (zI 0) ⟨rfl,rfl⟩
abbrev oF(x:an):Value:= .agg ⟨cH x⟩
instance:DecidableEq an:=fun x y=>match x,y with
 | ⟨a,b,c⟩,⟨d,e,f⟩=>if h:a=d∧b=e∧c=f then isTrue (by obtain⟨rfl,rfl,rfl⟩:=h;rfl) else isFalse fun k=>h (by cases k;exact⟨rfl,rfl,rfl⟩)
def mo(s:Int)(x:ah):an:=⟨s,x.n,x.l⟩
def QC(S:List (List ah)):Nat→List an
 |0=>[]
 |k+1=>QC S k++(match S[k]? with
  |some l=>l.map (mo k)
  |none=>[])
def bF(S:List (List ah)):List an:=QC S S.length
theorem aug{S:List (List ah)}{l:List ah}(h:S[k]?=some l):QC S (k+1)=QC S k++l.map (mo k):=by simp only[QC,h]
theorem EU{S:List (List ah)}{x:an}:∀ {k:Nat},x∈QC S k↔∃j l p,j <k∧S[j]?=some l∧p∈l∧x=mo j p
 |0=>by simp[QC]
 |k+1=>by
  simp only[QC,List.mem_append,EU (k:=k)]
  constructor
  ·rintro(⟨j,l,p,h1,h2⟩|h)
   ·exact⟨j,l,p,by omega,h2⟩
   split at h
   ·rename_i l hl
    obtain⟨p,hp,rfl⟩:=List.mem_map.1 h
    exact⟨k,l,p,by omega,hl,hp,rfl⟩
   cases h
  rintro⟨j,l,p,h1,h2,h3,rfl⟩
  by_cases hj:j=k
  ·subst hj;rw[h2];exact .inr (List.mem_map_of_mem h3)
  exact .inl ⟨j,l,p,by omega,h2,h3,rfl⟩
theorem G2{S:List (List ah)}{l:List ah}{p:ah}(h1:S[j]?=some l) (h2:p∈l):mo j p∈bF S:=EU.2 ⟨j,l,p,(List.getElem?_eq_some_iff.1 h1).1,h1,h2,rfl⟩
theorem Uq{S:List (List ah)}(hO:eQ S):∀k,(QC S k).Nodup
 |0=>List.nodup_nil
 |k+1=>by
  simp only[QC]
  refine List.nodup_append.2 ⟨Uq hO k,?_,fun x hx y hy e=>?_⟩
  ·split
   ·rename_i l hl
    refine List.pairwise_map.2 ((hO.asc l (zL hl)).imp fun {a b} h e=>?_)
    simp only[mo,an.mk.injEq] at e
    rcases h with h|h<;>omega
   exact List.nodup_nil
  subst e
  obtain⟨j,l,p,h1,_,_,rfl⟩:=EU.1 hx
  split at hy
  ·obtain⟨q,_,hq⟩:=List.mem_map.1 hy
   simp only[mo,an.mk.injEq] at hq
   omega
  cases hy
theorem Nh{S:List (List ah)}(hO:eQ S):∀k,(QC S k).length≤4*k
 |0=>by simp[QC]
 |k+1=>by
  have:=Nh hO k
  simp only[QC,List.length_append]
  split
  ·rename_i l hl
   have:=hO.len l (zL hl)
   rw[List.length_map];omega
  simp;omega
theorem tQ{S:List (List ah)}(hO:eQ S):(bF S).length≤8:=by
 have:=Nh hO S.length
 have:=hO.two
 unfold bF;omega
theorem aFb(a b:an):EqD zT 10000 158 (oF a) (oF b) (decide (a=b)):=by
 have h:=(tW (mN Tryz.typeInfo158 Tryz.underlying158 rfl rfl rfl rfl rfl rfl) Tryz.stoodInHeld158 (.cons (by decide) (jR mh rfl) (jR mh rfl) (nO mh _ _) (.cons (by decide) (Gc (mN Tryz.typeInfo79 Tryz.underlying79 rfl rfl rfl rfl rfl rfl) rfl) (Gc (mN Tryz.typeInfo79 Tryz.underlying79 rfl rfl rfl rfl rfl rfl) rfl) (aiq _ _ _ _ 9997) .nil)):EqD zT 10000 158 (oF a) (oF b) _)
 have e:(a.h==b.h&&((a.n==b.n&&(a.l==b.l&&true))&&true))=decide (a=b):=by
  rcases a with ⟨x,y,z⟩;rcases b with ⟨u,v,w⟩
  rw[Bool.eq_iff_iff];simp
 rwa[e] at h
theorem aQ1(a:an):CkD zT 10000 158 (oF a):=
 RP (mN Tryz.typeInfo158 Tryz.underlying158 rfl rfl rfl rfl rfl rfl) (.cons (by decide) (jR mh rfl) (HK mh _) (.cons (by decide) (Gc (mN Tryz.typeInfo79 Tryz.underlying79 rfl rfl rfl rfl rfl rfl) rfl) (RP (dep:=9998) (mN Tryz.typeInfo79 Tryz.underlying79 rfl rfl rfl rfl rfl rfl) (.cons (by decide) (jR mh rfl) (HK mh _) (.cons (by decide) (jR mh rfl) (HK mh _) .nil))) .nil))
theorem Dp:Sf zT 158 oF:=ae1 (mN Tryz.typeInfo158 Tryz.underlying158 rfl rfl rfl rfl rfl rfl) (fun k=>⟨_,rfl⟩) aQ1 aFb (fun k=>by simp[Instr.sameBits])
def MV(Z:Cells)(F:List (an×Value))(g:an→an):Prop:=∀aI,Knows aI Z→∀x∈F,bI aI x.2 3 cH [g x.1]
theorem Ho[DecidableEq κ]{k:κ}:∀ {F:List (κ×Value)} {i:Nat},k∈F.map (·.1)→∃j v,rV k F i=some (j,v)
 | [],_,h=>by cases h
 |x::F,i,h=>by
  simp only[rV]
  split
  ·exact⟨_,_,rfl⟩
  rename_i hk
  refine Ho ?_
  rcases List.mem_cons.1 h with h|h
  ·exact absurd h hk
  exact h
theorem Xf[DecidableEq κ]{k:κ}{F:List (κ×Value)}(h:k∈F.map (·.1)):∃v,lkM k F=some v∧(k,v)∈F:=by
 obtain⟨j,v,h1⟩:=Ho (i:=0) h
 exact⟨v,by simp[lkM,h1],zL (qg h1).2⟩
theorem acC[DecidableEq κ]{k:κ}{v:Value}{F:List (κ×Value)}(h:k∉F.map (·.1)):lV k v F=F++[(k,v)]:=by
 have:rV k F 0=none:=by
  cases hf:rV k F 0 with
  |none=>rfl
  |some y=>exact absurd (List.mem_map_of_mem (f:=(·.1)) (zL (qg (j:=y.1) (v:=y.2) hf).2)) h
 simp only[lV,this]
theorem O2[DecidableEq κ]{k:κ}{v:Value}{F:List (κ×Value)}(h:k∈F.map (·.1))(hn:(F.map (·.1)).Nodup):(lV k v F).map (·.1)=F.map (·.1)∧∀x∈lV k v F,x=(k,v)∨(x∈F∧x.1≠k):=by
 obtain⟨j,u,h1⟩:=Ho (i:=0) h
 have h2:=(qg h1).2
 rw[Nat.sub_zero] at h2
 obtain⟨hj,SC⟩:=List.getElem?_eq_some_iff.1 h2
 simp only[lV,h1,EL]
 refine⟨?_,fun x hx=>?_⟩
 ·rw[List.map_set]
  refine List.ext_getElem? fun i=>?_
  rw[List.getElem?_set]
  split
  ·rename_i hi;subst hi;simp[h2,hj,SC]
  rfl
 obtain⟨i,hi⟩:=List.getElem?_of_mem hx
 rw[List.getElem?_set] at hi
 split at hi
 ·cases hi;exact .inl rfl
 rename_i Is
 refine .inr ⟨zL hi,fun e=>Is ?_⟩
 obtain⟨hi1,QV⟩:=List.getElem?_eq_some_iff.1 hi
 exact(List.getElem_inj (xs:=F.map (·.1)) (h₀:=by simpa using hj) (h₁:=by simpa using hi1) hn).1 (by simp[SC,QV,e])
theorem MV.set{F:List (an×Value)}{g:an→an}(h:MV Z F g){k y:an}{v:Value}(hk:k∈F.map (·.1))(hn:(F.map (·.1)).Nodup)(hv:∀aI,Knows aI Z2→bI aI v 3 cH [y]):MV (Z++Z2) (lV k v F) (fun x=>if x=k then y else g x):=fun aI hr x hx=>by
 rcases(O2 hk hn).2 x hx with rfl| ⟨h1,h2⟩
 ·simp only[if_true];exact hv aI hr.right
 simp only[h2,if_false];exact h aI hr.left x h1
theorem MV.add{F:List (an×Value)}{g:an→an}(h:MV Z F g){k:an}{v:Value}(hv:∀aI,Knows aI Z2→bI aI v 3 cH [g k]):MV (Z++Z2) (F++[(k,v)]) g:=fun aI hr x hx=>by
 rcases List.mem_append.1 hx with h1|h1
 ·exact h aI hr.left x h1
 rw[List.mem_singleton] at h1;subst h1;exact hv aI hr.right
theorem aE3{v:Value}(hl:bI ro v 1 cz xs)(hn:xs.length≤1000):dR zT 177 [v] ro [] (fun r Y=>ay r 1 3 cz xs Y):=by
 obtain⟨fu,ry,rq,eI,rfl,tx,lv,mj⟩:=hl
 refine zE<|zD 8<|jsn 22 (a:=fu) (l:=xs.length) (c:=eI)<|zD 1<|js 4 (fu.isNone) (fun h1=>?_) (fun h1=>?_)
 ·
  refine zD 6<|zX (zS) (by rw[qO lv (by assumption)];exact ay.nil _ _ _)
 refine zD 4<|jn fun b5=>zD 1<|iC (sz:=1) (ps:=[]) (qs:=xs) (enc:=cz) (w:= .slice fu xs.length eI) [0] [] [] (bA (b:=b5) (T:=3)) (fun s he _=>⟨fu,ry,rq,eI,rfl,lv,fun i p hp=>(mj i p hp).ext he⟩) (fun p _=>ai rfl) (by simp<;>omega) (fun v7 L7 ir=>?_)
 rw[List.nil_append] at ir
 obtain⟨SW,SP,Q4⟩:=ir.form
 subst Q4
 refine zD 3<|zR ((.slice SW (xs).length SP)) [] [0] L7 ir
theorem aQE{v:Value}{xs:List ah}(hl:bI ro v 2 cG xs)(hn:xs.length≤1000):dR zT 211 [v] ro [] (fun r Y=>ay r 2 79 cG xs Y):=by
 obtain⟨fu,ry,rq,eI,rfl,tx,lv,mj⟩:=hl
 refine zE<|zD 8<|jsn 80 (a:=fu) (l:=xs.length) (c:=eI)<|zD 1<|js 4 (fu.isNone) (fun h1=>?_) (fun h1=>?_)
 ·
  refine zD 6<|zX (zS) (by rw[qO lv (by assumption)];exact ay.nil _ _ _)
 refine zD 4<|jn fun b5=>zD 1<|iC (sz:=2) (ps:=[]) (qs:=xs) (enc:=cG) (w:= .slice fu xs.length eI) [0] [] [] (bA (b:=b5) (T:=79)) (fun s he _=>⟨fu,ry,rq,eI,rfl,lv,fun i p hp=>(mj i p hp).ext he⟩) (fun p _=>ai rfl) (by simp<;>omega) (fun v7 L7 ir=>?_)
 rw[List.nil_append] at ir
 obtain⟨SW,SP,Q4⟩:=ir.form
 subst Q4
 refine zD 3<|zR ((.slice SW (xs).length SP)) [] [0] L7 ir
theorem aQF{v:Value}{xs:List an}(hl:bI ro v 3 cH xs)(hn:xs.length≤1000):dR zT 128 [v] ro [] (fun r Y=>ay r 3 158 cH xs Y):=by
 obtain⟨fu,ry,rq,eI,rfl,tx,lv,mj⟩:=hl
 refine zE<|zD 8<|jsn 154 (a:=fu) (l:=xs.length) (c:=eI)<|zD 1<|js 4 (fu.isNone) (fun h1=>?_) (fun h1=>?_)
 ·
  refine zD 6<|zX (zS) (by rw[qO lv (by assumption)];exact ay.nil _ _ _)
 refine zD 4<|jn fun b5=>zD 1<|iC (sz:=3) (ps:=[]) (qs:=xs) (enc:=cH) (w:= .slice fu xs.length eI) [0] [] [] (bA (b:=b5) (T:=158)) (fun s he _=>⟨fu,ry,rq,eI,rfl,lv,fun i p hp=>(mj i p hp).ext he⟩) (fun p _=>ai rfl) (by simp<;>omega) (fun v7 L7 ir=>?_)
 rw[List.nil_append] at ir
 obtain⟨SW,SP,Q4⟩:=ir.form
 subst Q4
 refine zD 3<|zR ((.slice SW (xs).length SP)) [] [0] L7 ir
theorem anD{v:Value}{S:List (List ah)}(hS:cS ro v S)(hO:eQ S):dR zT 180 [.agg ⟨[v]⟩] ro [] (fun r Y=>∃a n c,r= .agg ⟨[.slice a n c]⟩∧∀aI,Knows aI Y→cS aI (.slice a n c) S):=by
 obtain⟨ws,ht,dc⟩:=hS
 obtain⟨eO,Ac,Aa,dP,rfl,Ab,rR,rQ⟩:=ht
 have hln:=dc.len
 have I0:=hO.two
 refine zE<|zD 2<|jn fun b1=>jn fun b2=>zD 4<|jn fun b3=>jd 11 [0,2]<|oR<|oR<|dS [1,1,0,1,0,0] [] (fun(zz:Nat×Value×Cells×(List Value)×Cells)=>[(2,zP b2),(3,zP b3),(8,.slice eO ws.length dP),(9,zI (ws.length:Int)),(10,zI (zz.1:Int))]) (fun zz=>[.b b3 (.cells ⟨[zz.2.1]⟩ 27 (0,0)),.l zz.2.2.1,.l zz.2.2.2.2,.b b2 (.cells ⟨[zS]⟩ 27 (0,0)),.b b1 (.cells ⟨[.slice eO ws.length dP]⟩ 27 (0,0))]) (fun zz=>(zz.1≤ws.length∧zz.2.2.2.1.length=zz.1)∧ay zz.2.1 1 80 gv zz.2.2.2.1 zz.2.2.1∧∀aI,Knows aI zz.2.2.2.2→dq (fun w l=>bI aI w 2 cG l) zz.2.2.2.1 (S.take zz.1)) (fun zz=>ws.length-zz.1) (⟨0,zS,[],[],[]⟩) ⟨⟨by dsimp only;omega,rfl⟩,ay.nil _ _ _,fun _ _=> .nil⟩ [2,1,0,3,4] ?_
 rintro⟨k,vO,LO,es,Z⟩ hI K1 bL rest
 dsimp only at hI
 refine zD 5<|zJ 11 ((k:Int) <(ws.length:Int)) (fun h1=>?_) fun h1=>?_
 ·
  refine zD 6 ?_
  obtain⟨s8,pS⟩:=zG ws k
  refine iB dP 1 rR pS ?_
  obtain⟨l13,aDl,Bi⟩:=dc.get pS
  obtain aDa:=hO.len _ (zL aDl)
  obtain⟨aAX,aKX,aKT,aAW,rfl,aKV,aKW,aKU⟩:=Bi
  refine jl 0 (rQ _ _ pS)<|jd 6 [0]<|aS 3 fun zl zt yR=>jc (vs:=[.slice aAX l13.length aAW]) [] (aQE (show bI _ _ _ _ _ from ⟨aAX,aKX,aKT,aAW,rfl,aKV,aKW,aKU⟩) (by first|omega| (simp only[List.length_set,zM];omega))) ?_
  rintro v17 L17 B5
  obtain⟨xq,xp,I5⟩:=B5.form
  subst I5
  refine ez yR (zN 1 5)<|aS 4 fun q9 ri p8=>jn fun y5=>ez p8 (zN 1 6)<|aS 5 fun rY sb qE=>iC (sz:=1) (ps:=es) (qs:=[((.slice xq (l13).length xp):Value)]) (enc:=gv) (w:= .slice (some ⟨y5,0,none⟩) 1 1) [3] [0] [(y5,.cells ⟨([((.slice xq (l13).length xp):Value)].map gv).flatten⟩ 80 (0,0))] (hI.2.1) (fun s _ hZ=>bN [((.slice xq (l13).length xp):Value)] (hZ _ (.head _)) (by intro p hp;rfl)) (by intro p hp;rw[List.mem_singleton] at hp;subst hp;exact ai rfl) (by simp<;>omega) (fun v19 L19 af6=>?_)
  obtain⟨aJm,aI2,aOr⟩:=af6.form
  subst aOr
  refine fS qE []<|zD 1<|aS 7 fun Bo Bu Cc=>jd 1 [3]<|fT Cc<|zD 2<|ja ((k:Int)+1) (by omega)<|zD 2<|M5 bL (⟨k+1,(.slice aJm ((es++[((.slice xq (l13).length xp):Value)])).length aI2),L19,(es++[((.slice xq (l13).length xp):Value)]),L17++Z⟩) ⟨⟨by dsimp only;omega,by simp only[zM];omega⟩,af6,fun aI hk=>py (hI.2.2 aI hk.right) aDl (B5.kQ hk.left)⟩ (by dsimp only;omega) [[3],[0],[2,4],[5],[6]] (Sub.refl _)
 refine jd 5 [0] ?_
 obtain⟨va6,vc6,he6⟩:=hI.2.1.form
 subst he6
 refine jd 3 [3]<|zR (.agg ⟨[(.slice va6 (es).length vc6)]⟩) [3] [1,2] (LO++Z) ⟨_,_,_,rfl,fun aI hk=>⟨es,hI.2.1.kQ hk.left,by have:=hI.2.2 aI hk.right;rwa[List.take_of_length_le (by omega)] at this⟩⟩
theorem Ya{v:Value}{S:List (List ah)}(hS:cS ro v S)(hO:eQ S):dR zT 171 [.agg ⟨[v]⟩] ro [] (fun r Y=>ay r 3 158 cH (bF S) Y):=by
 obtain⟨ws,ht,dc⟩:=hS
 obtain⟨eO,Ac,Aa,dP,rfl,Ab,rR,rQ⟩:=ht
 have hln:=dc.len
 have I0:=hO.two
 refine zE<|zD 2<|jn fun b1=>jd 15 [0]<|oR<|dS [1,1,0,1,0,0] [] (fun(zz:Nat×Value×Cells)=>[(2,zS),(3,zz.2.1),(9,.slice eO ws.length dP),(10,zI (ws.length:Int)),(11,zI (zz.1:Int))]) (fun zz=>[.l zz.2.2,.b b1 (.cells ⟨[.slice eO ws.length dP]⟩ 27 (0,0))]) (fun zz=>zz.1≤ws.length∧ay zz.2.1 3 158 cH (QC S zz.1) zz.2.2) (fun zz=>ws.length-zz.1) (⟨0,zS,[]⟩) ⟨by dsimp only;omega,ay.nil _ _ _⟩ [0,1] ?_
 rintro⟨k,vO,LO⟩ hI K1 bL rest
 dsimp only at hI
 refine zD 5<|zJ 12 ((k:Int) <(ws.length:Int)) (fun h1=>?_) fun h1=>?_
 ·
  refine zD 7 ?_
  obtain⟨fD,eC⟩:=zG ws k
  refine iB dP 1 rR eC ?_
  obtain⟨Qr,aaE,NB⟩:=dc.get eC
  obtain aNF:=hO.len _ (zL aaE)
  obtain⟨asE,aKS,aKQ,adJ,rfl,aKR,asD,asC⟩:=NB
  refine jl 0 (rQ _ _ eC)<|zD 10<|dS [1,1,0,1,0,0,1,1,0,0,1,1,0,0] [K1] (fun(zz:Nat×Value×Cells)=>[(2,zS),(3,zz.2.1),(4,zI (k:Int)),(9,.slice eO ws.length dP),(10,zI (ws.length:Int)),(11,zI (k:Int)),(16,.slice asE Qr.length adJ),(17,zI (Qr.length:Int)),(18,zI (zz.1:Int))]) (fun zz=>[.l zz.2.2,.b b1 (.cells ⟨[.slice eO ws.length dP]⟩ 27 (0,0))]) (fun zz=>zz.1≤Qr.length∧ay zz.2.1 3 158 cH (QC S k++(Qr.take zz.1).map (mo k)) zz.2.2) (fun zz=>Qr.length-zz.1) (⟨0,vO,LO⟩) ⟨by dsimp only;omega,by simpa using hI.2⟩ [0,1] ?_
  rintro⟨i,vO,LO⟩ hJ K2 mb rest
  dsimp only at hJ
  refine zD 5<|zJ 19 ((i:Int) <(Qr.length:Int)) (fun h2=>?_) fun h2=>?_
  ·
   refine zD 6 ?_
   obtain⟨x20,Nf⟩:=zG Qr i
   refine iB adJ 2 asD Nf<|jl 0 (asC _ _ Nf)<|jn fun b7=>jd 7 [0,0]<|jn fun b26=>iC (sz:=3) (ps:=(QC S k++(Qr.take i).map (mo k))) (qs:=[(⟨(k:Int),x20.n,x20.l⟩:an)]) (enc:=cH) (w:= .slice (some ⟨b26,0,none⟩) 1 1) [2] [0] [(b26,.cells ⟨([(⟨(k:Int),x20.n,x20.l⟩:an)].map cH).flatten⟩ 158 (0,0))] (hJ.2) (fun s _ hZ=>bN [(⟨(k:Int),x20.n,x20.l⟩:an)] (hZ _ (.head _)) (by intro p hp;rfl)) (fun p _=>ai rfl) (by have:=Nh hO k;simp only[List.length_append,List.length_map,List.length_take,List.length_cons,List.length_nil];omega) (fun v27 L27 af4=>?_)
   obtain⟨aJj,aIZ,aOp⟩:=af4.form
   subst aOp
   refine zD 3<|ja ((i:Int)+1) (by omega)<|zD 2<|bJ mb (⟨i+1,(.slice aJj (((QC S k++(Qr.take i).map (mo k))++[(⟨(k:Int),x20.n,x20.l⟩:an)])).length aIZ),L27⟩) ⟨by dsimp only;omega,by rw[ee Nf,List.map_append,←List.append_assoc];exact af4⟩ (by dsimp only;omega) [0,3] (Sub.refl _)
  refine zD 3<|ja ((k:Int)+1) (by omega)<|zD 2<|bJ bL (⟨k+1,vO,LO⟩) ⟨by dsimp only;omega,by rw[aug aaE];have:=hJ.2;rwa[List.take_of_length_le (by omega)] at this⟩ (by dsimp only;omega) [0,1] (Sub.refl _)
 refine zD 8<|zR (vO) [] [0] LO (by have:=hI.2;rwa[show k=S.length by omega] at this)
theorem S2{l:List α}{x:α}(hn:l.Nodup)(h:l[k]?=some x):x∉l.take k:=fun hx=>by
 obtain⟨hk,he⟩:=List.getElem?_eq_some_iff.1 h
 obtain⟨i,hi⟩:=List.getElem?_of_mem hx
 have hik:i <k:=by have:=(List.getElem?_eq_some_iff.1 hi).1;rw[List.length_take] at this;omega
 rw[List.getElem?_take_of_lt hik] at hi
 obtain⟨hi1,QV⟩:=List.getElem?_eq_some_iff.1 hi
 have:=(List.getElem_inj (h₀:=hi1) (h₁:=hk) hn).1 (QV.trans he.symm)
 omega
def xz(n:Int):Bool:= !decide (Int.tmod n 2=0)
def Ep(n:Int):Bool:=decide (Int.tmod n 2=0)
theorem qV{p:α→Bool}{l:List α}{x:α}(h:l[i]?=some x):(l.take (i+1)).filter p=(l.take i).filter p++bif p x then [x] else []:=by
 rw[ee h,List.filter_append]
 cases hp:p x<;>simp[hp]
def qS(l:List ah):List (List ah):=[l.filter fun x=>xz x.n,l.filter fun x=>Ep x.n]
theorem agX{l h:List ah}{x:ah}(hh:h∈qS l)(hx:x∈h):x∈l:=by
 simp only[qS,List.mem_cons,List.not_mem_nil,or_false] at hh
 rcases hh with rfl|rfl<;>exact(List.mem_filter.1 hx).1
theorem agY{l h:List ah}(hh:h∈qS l):h.length≤l.length:=by
 simp only[qS,List.mem_cons,List.not_mem_nil,or_false] at hh
 rcases hh with rfl|rfl<;>exact List.length_filter_le _ _
def IM(s:Int)(h:List ah):List (an×an):=(h.zip h.reverse).map fun p=>(mo s p.1,mo s p.2)
def acD(s:Int)(l:List ah):List (an×an):=(qS l).flatMap (IM s)
def JA(s:Int)(l:List ah):List (an×an):=l.map fun x=>(mo s x,⟨s,if xz x.n=true then x.n+1 else x.n-1,x.l⟩)
def rn(l:List ah):Int:=match l[l.length-1]? with
 |some y=>y.n+Int.tmod y.n 2
 |none=>0
def Ky(s o:Int)(l:List ah)(r:Int):List (an×an):=l.map fun x=>(mo s x,⟨o,x.n+r,x.l⟩)
def gU(u:List (an×an))(x:an):an:=u.foldl (fun y p=>if x=p.1 then p.2 else y) x
theorem anA(u:List (an×an))(a b:an):gU (u++[(a,b)])=fun x=>if x=a then b else gU u x:=by
 funext x;simp only[gU,List.foldl_append,List.foldl_cons,List.foldl_nil]
theorem ak5{s:Int}{h:List ah}{x y:ah}(hx:h[i]?=some x) (hy:h[(((h.length:Int)-1)-(i:Int)).toNat]?=some y):(IM s h)[i]?=some (mo s x,mo s y):=by
 have hi:=(List.getElem?_eq_some_iff.1 hx).1
 have h2:h.reverse[i]?=some y:=by rw[List.getElem?_reverse hi,←hy];congr 1;omega
 have:=(List.getElem?_zip_eq_some (z:=(x,y))).2 ⟨hx,h2⟩
 simp only[IM,List.getElem?_map,this];rfl
theorem adj(s:Int)(h:List ah):(IM s h).length=h.length:=by simp[IM]
theorem aeE{β:Type}{f:α→β}{l:List α}{x:α}(h:l[i]?=some x):(l.map f)[i]?=some (f x):=by rw[List.getElem?_map,h];rfl
theorem anH{β:Type}{f:α→List β}{l:List α}{x:α}(h:l[i]?=some x):(l.take (i+1)).flatMap f=(l.take i).flatMap f++f x:=by rw[ee h,List.flatMap_append,List.flatMap_singleton]
theorem MV.upd{S:List (List ah)}(hO:eQ S){F:List (an×Value)}{u:List (an×an)}{l:List ah}{x:ah}{y:an}{T:TypeId}(h:MV Z F (gU u))(hk:F.map (·.1)=bF S)(hl:S[s]?=some l) (hx:x∈l):
 MV (Z++[(b,.cells ⟨cH y⟩ T (0,0))]) (lV (mo s x) (.slice (some ⟨b,0,none⟩) 1 1) F) (gU (u++[(mo s x,y)]))∧(lV (mo s x) (.slice (some ⟨b,0,none⟩) 1 1) F).map (·.1)=bF S:=by
 have hm:mo s x∈F.map (·.1):=by rw[hk];exact G2 hl hx
 have hn:(F.map (·.1)).Nodup:=by rw[hk];exact Uq hO _
 rw[anA]
 exact⟨h.set hm hn fun aI hk=>bC [y] (hk _ (.head _)) (fun _ _=>rfl),(O2 hm hn).1.trans hk⟩
theorem Pn{S:List (List ah)}(hO:eQ S){F:List (an×Value)}{x:an}{T:TypeId}(h:MV Z F id)(hk:F.map (·.1)=(bF S).take k)(hx:(bF S)[k]?=some x):
 MV (Z++[(b,.cells ⟨cH x⟩ T (0,0))]) (lV x (.slice (some ⟨b,0,none⟩) 1 1) F) id∧(lV x (.slice (some ⟨b,0,none⟩) 1 1) F).map (·.1)=(bF S).take (k+1):=by
 have:x∉F.map (·.1):=by rw[hk];exact S2 (Uq hO _) hx
 rw[acC this]
 exact⟨h.add fun aI hk=>bC [x] (hk _ (.head _)) (fun _ _=>rfl),by rw[List.map_append,hk,ee hx];rfl⟩
theorem KU{v:Value}{S:List (List ah)}(hS:cS ro v S)(hO:eQ S):dR zT 181 [.agg ⟨[v]⟩] ro [] (fun r Y=>∃rm F LM Z,r= .map (some rm)∧Y=LM++Z∧jJ rm oF F LM∧F.map (·.1)=bF S∧MV Z F id):=by
 have xP:=hS
 obtain⟨ws,ht,dc⟩:=hS
 obtain⟨eO,Ac,Aa,dP,rfl,Ab,rR,rQ⟩:=ht
 have hln:=dc.len
 have I0:=hO.two
 have hhl:=tQ hO
 refine zE<|zD 2<|jn fun b1=>zD 4<|jmk oF fun r6 L6 hm6=>jd 6 [1]<|jc (vs:=[.agg ⟨[.slice eO ws.length dP]⟩]) [] (Ya xP hO) ?_
 rintro v8 L8 ho8
 refine B0 ho8<|zD 1<|jf [0] L8 (fun za bX iI=>?_)
 have hzh:=ho8.kQ iI
 obtain⟨aJ6,aW1,aWZ,az8,rfl,aW0,aJ5,aJ4⟩:=hzh
 refine zD 2<|oR<|dS [1,1,0,1,0,0] [] (fun(zz:Nat×(List (an×Value))×Cells×Cells)=>[(2,(.map none)),(3,(.map (some r6))),(8,.slice aJ6 ((bF S).length) az8),(9,zI ((bF S).length:Int)),(10,zI (zz.1:Int))]) (fun(zz:Nat×(List (an×Value))×Cells×Cells)=>[.l zz.2.2.1,.l zz.2.2.2,.b b1 (.cells ⟨[.slice eO ws.length dP]⟩ 27 (0,0))]) (fun(zz:Nat×(List (an×Value))×Cells×Cells)=>zz.1≤(bF S).length∧jJ r6 oF zz.2.1 zz.2.2.1∧zz.2.1.map (·.1)=(bF S).take zz.1∧MV zz.2.2.2 zz.2.1 id) (fun(zz:Nat×(List (an×Value))×Cells×Cells)=>(bF S).length-zz.1) (⟨0,[],L6,[]⟩) ⟨by dsimp only;omega,hm6,rfl,fun _ _ _ h=>(by cases h)⟩ [1,0,2] ?_
 rintro⟨k,F,LM,Z⟩ hI K1 bL rest
 dsimp only at hI
 refine zD 5<|zJ 11 ((k:Int) <((bF S).length:Int)) (fun h4=>?_) fun h4=>?_
 ·
  refine zD 6 ?_
  obtain⟨s8,pS⟩:=zG ((bF S)) k
  refine iB az8 3 aJ5 pS<|jl 0 (aJ4 _ _ pS)<|jn fun b5=>jd 6 [0,0,0]<|jn fun b17=>jmu (kv:=oF) (F:=F) (r:=r6) (K:=158) 2 s8 (.slice (some ⟨b17,0,none⟩) 1 1) Dp hI.2.1 fun Lm5 hm5=>zD 2<|ja ((k:Int)+1) (by omega)<|zD 2<|M5 bL (⟨k+1,_,Lm5,Z++[(b17,.cells ⟨[zI s8.h,zI s8.n,zI s8.l]⟩ 158 (0,0))]⟩) ⟨by dsimp only;omega,hm5,(Pn (T:=158) hO hI.2.2.2 hI.2.2.1 pS).2,(Pn (T:=158) hO hI.2.2.2 hI.2.2.1 pS).1⟩ (by dsimp only;omega) [[0],[3,1],[4]] (Sub.refl _)
 refine zD 8<|aM q0.a ((.map (some r6))) [] [0,1] (LM++Z) bX ⟨_,_,rfl,rfl,_,F,LM,Z,rfl,rfl,hI.2.1,by rw[hI.2.2.1,List.take_of_length_le (by omega)],hI.2.2.2⟩
theorem gAt{h l:Int}:dD zT 254 [zI h,zI n,zI l] ro (.agg ⟨[zI h,zI n,zI l]⟩):=by
 refine zE<|zD 2<|jn fun b6=>jd 11 [0]<|zR (.agg ⟨[zI h,zI n,zI l]⟩) [0] [] [] ⟨rfl,rfl⟩
theorem aEQ{x:ah}:dD zT 252 [.agg ⟨[zI x.n,zI x.l]⟩] ro (.bool (xz x.n)):=by
 refine zE<|zD 2<|jn fun b1=>jd 11 [0]<|zX (.bool (!decide ((Int.tmod x.n 2)=0))) ⟨rfl,rfl⟩
theorem ahW{v:Value}{l:List ah}(hl:bI ro v 2 cG l)(hn:l.length≤4):dR zT 251 [v,.func (.func 252) ⟨[]⟩ ⟨[]⟩] ro [] (fun r Y=>ay r 2 79 cG (l.filter fun x=>xz x.n) Y):=by
 obtain⟨fu,ry,rq,eI,rfl,tx,lv,mj⟩:=hl
 refine zE<|zD 16<|oR<|dS [1,1,0,1,0,0] [] (fun(zz:Nat×Value×Cells)=>[(1,.func (.func 252) ⟨[]⟩ ⟨[]⟩),(4,zS),(5,zz.2.1),(8,.slice fu l.length eI),(9,zI (l.length:Int)),(10,zI (zz.1:Int))]) (fun zz=>[.l zz.2.2]) (fun zz=>zz.1≤l.length∧ay zz.2.1 2 79 cG ((l.take zz.1).filter fun x=>xz x.n) zz.2.2) (fun zz=>l.length-zz.1) (⟨0,zS,[]⟩) ⟨by dsimp only;omega,ay.nil _ _ _⟩ [0] ?_
 rintro⟨k,vO,LO⟩ hI K1 bL rest
 dsimp only at hI
 refine zD 5<|zJ 11 ((k:Int) <(l.length:Int)) (fun h1=>?_) fun h1=>?_
 ·
  refine zD 6 ?_
  obtain⟨s8,pS⟩:=zG l k
  refine iB eI 2 lv pS<|jl 0 (mj _ _ pS)<|jn fun b7=>jd 6 [0,0]<|jp (vs:=[.agg ⟨[zI s8.n,zI s8.l]⟩]) [] [] (fun aH hs hZ=>(aEQ (x:=s8)))<|zD 1<|js 16 (xz s8.n) (fun h2=>?_) (fun h2=>?_)
  ·
   refine jd 4 [0]<|jn fun H5=>iC (sz:=2) (ps:=((l.take k).filter fun x=>xz x.n)) (qs:=[(⟨s8.n,s8.l⟩:ah)]) (enc:=cG) (w:= .slice (some ⟨H5,0,none⟩) 1 1) [2] [0] [(H5,.cells ⟨([(⟨s8.n,s8.l⟩:ah)].map cG).flatten⟩ 79 (0,0))] (hI.2) (fun s _ hZ=>bN [(⟨s8.n,s8.l⟩:ah)] (hZ _ (.head _)) (by intro p hp;rfl)) (fun p _=>ai rfl) (by have:=List.length_filter_le (fun x:ah=>xz x.n) (l.take k);rw[List.length_take] at this;simp only[List.length_cons,List.length_nil];omega) (fun v20 L20 G0=>?_)
   obtain⟨arq,are,avv⟩:=G0.form
   subst avv
   refine zD 3<|ja ((k:Int)+1) (by omega)<|zD 2<|bJ bL (⟨k+1,(.slice arq ((((l.take k).filter fun x=>xz x.n)++[(⟨s8.n,s8.l⟩:ah)])).length are),L20⟩) ⟨by dsimp only;omega,by rw[qV pS,show xz s8.n=true from (by assumption)];exact G0⟩ (by dsimp only;omega) [0] (Sub.refl _)
  refine zD 3<|ja ((k:Int)+1) (by omega)<|zD 2<|bJ bL (⟨k+1,vO,LO⟩) ⟨by dsimp only;omega,by rw[qV pS,show xz s8.n=false from (by assumption)];simpa using hI.2⟩ (by dsimp only;omega) [1] (Sub.refl _)
 refine zD 8<|zR (vO) [] [0] LO (by have:=hI.2;rwa[List.take_of_length_le (by omega)] at this)
theorem aEX{x:ah}:dD zT 253 [.agg ⟨[zI x.n,zI x.l]⟩] ro (.bool (Ep x.n)):=by
 refine zE<|zD 2<|jn fun b1=>jd 11 [0]<|zX (.bool (decide ((Int.tmod x.n 2)=0))) ⟨rfl,rfl⟩
theorem ahV{v:Value}{l:List ah}(hl:bI ro v 2 cG l)(hn:l.length≤4):dR zT 251 [v,.func (.func 253) ⟨[]⟩ ⟨[]⟩] ro [] (fun r Y=>ay r 2 79 cG (l.filter fun x=>Ep x.n) Y):=by
 obtain⟨fu,ry,rq,eI,rfl,tx,lv,mj⟩:=hl
 refine zE<|zD 16<|oR<|dS [1,1,0,1,0,0] [] (fun(zz:Nat×Value×Cells)=>[(1,.func (.func 253) ⟨[]⟩ ⟨[]⟩),(4,zS),(5,zz.2.1),(8,.slice fu l.length eI),(9,zI (l.length:Int)),(10,zI (zz.1:Int))]) (fun zz=>[.l zz.2.2]) (fun zz=>zz.1≤l.length∧ay zz.2.1 2 79 cG ((l.take zz.1).filter fun x=>Ep x.n) zz.2.2) (fun zz=>l.length-zz.1) (⟨0,zS,[]⟩) ⟨by dsimp only;omega,ay.nil _ _ _⟩ [0] ?_
 rintro⟨k,vO,LO⟩ hI K1 bL rest
 dsimp only at hI
 refine zD 5<|zJ 11 ((k:Int) <(l.length:Int)) (fun h1=>?_) fun h1=>?_
 ·
  refine zD 6 ?_
  obtain⟨s8,pS⟩:=zG l k
  refine iB eI 2 lv pS<|jl 0 (mj _ _ pS)<|jn fun b7=>jd 6 [0,0]<|jp (vs:=[.agg ⟨[zI s8.n,zI s8.l]⟩]) [] [] (fun aH hs hZ=>(aEX (x:=s8)))<|zD 1<|js 16 (Ep s8.n) (fun h2=>?_) (fun h2=>?_)
  ·
   refine jd 4 [0]<|jn fun H5=>iC (sz:=2) (ps:=((l.take k).filter fun x=>Ep x.n)) (qs:=[(⟨s8.n,s8.l⟩:ah)]) (enc:=cG) (w:= .slice (some ⟨H5,0,none⟩) 1 1) [2] [0] [(H5,.cells ⟨([(⟨s8.n,s8.l⟩:ah)].map cG).flatten⟩ 79 (0,0))] (hI.2) (fun s _ hZ=>bN [(⟨s8.n,s8.l⟩:ah)] (hZ _ (.head _)) (by intro p hp;rfl)) (fun p _=>ai rfl) (by have:=List.length_filter_le (fun x:ah=>Ep x.n) (l.take k);rw[List.length_take] at this;simp only[List.length_cons,List.length_nil];omega) (fun v20 L20 G0=>?_)
   obtain⟨arq,are,avv⟩:=G0.form
   subst avv
   refine zD 3<|ja ((k:Int)+1) (by omega)<|zD 2<|bJ bL (⟨k+1,(.slice arq ((((l.take k).filter fun x=>Ep x.n)++[(⟨s8.n,s8.l⟩:ah)])).length are),L20⟩) ⟨by dsimp only;omega,by rw[qV pS,show Ep s8.n=true from (by assumption)];exact G0⟩ (by dsimp only;omega) [0] (Sub.refl _)
  refine zD 3<|ja ((k:Int)+1) (by omega)<|zD 2<|bJ bL (⟨k+1,vO,LO⟩) ⟨by dsimp only;omega,by rw[qV pS,show Ep s8.n=false from (by assumption)];simpa using hI.2⟩ (by dsimp only;omega) [1] (Sub.refl _)
 refine zD 8<|zR (vO) [] [0] LO (by have:=hI.2;rwa[List.take_of_length_le (by omega)] at this)
theorem X7{v:Value}{S:List (List ah)}{l:List ah}{ck c2 c3 c4:Int}{F:List (an×Value)}(hS:cS ro v S)(hO:eQ S)(hl:S[s]?=some l) (hm:jJ rm oF F LM) (hk:F.map (·.1)=bF S) (hM:MV Z F id):dR zT 230 [.agg ⟨[v]⟩,.agg ⟨[zI ck,zI (s:Int),zI c2,zI c3,zI c4,zI c5,zI c6]⟩,(.map (some rm))] ro (LM++Z) (fun r Y=>∃F' L' Z',r= zI 0∧Y=L'++Z'∧jJ rm oF F' L'∧F'.map (·.1)=bF S∧MV Z' F' (gU (acD (s:Int) l))):=by
 obtain⟨ws,ht,dc⟩:=hS
 obtain⟨eO,Ac,Aa,dP,rfl,Ab,rR,rQ⟩:=ht
 have hln:=dc.len
 have I0:=hO.two
 have KD:=(List.getElem?_eq_some_iff.1 hl).1
 have hlm:=zL hl
 have hll:=hO.len _ hlm
 refine zC [.l LM,.l Z]<|zD 2<|jn fun b3=>jn fun b4=>zD 4<|GF [1,0,1] [] (fun(zz:Nat×Value×Value×Cells×Cells)=>[(2,(.map (some rm))),(4,zP b4),(6,zI 0),(25,.slice (some ⟨zz.1,0,none⟩) 2 2),(26,zI 2),(27,zI 0)]) (fun zz=>[.b zz.1 (.cells ⟨[zz.2.1,zz.2.2.1]⟩ 80 (0,0)),.l zz.2.2.2.1,.l zz.2.2.2.2,.l LM,.l Z,.b b4 (.cells ⟨[zI ck,zI (s:Int),zI c2,zI c3,zI c4,zI c5,zI c6]⟩ 83 (0,0)),.b b3 (.cells ⟨[.slice eO ws.length dP]⟩ 27 (0,0))]) (fun zz=>ay zz.2.1 2 79 cG (l.filter fun x=>xz x.n) zz.2.2.2.1∧ay zz.2.2.1 2 79 cG (l.filter fun x=>Ep x.n) zz.2.2.2.2) ?_ (fun K1 bL=>?_)
 ·
  rintro⟨nQ,v1,v2,L1,L2⟩ hC rest
  dsimp only at hC
  refine jf [0,1,2] ((nQ,.cells ⟨[v1,v2]⟩ 80 (0,0))::(L1++L2)) (fun za bX iI=>?_)
  have hhv:=bC (enc:=gv) (T:=80) [v1,v2] (iI _ (.head _)) (fun _ _=>rfl)
  have aDs:dq (fun w l=>bI za w 2 cG l) [v1,v2] (qS l):= .cons (hC.1.kQ (Knows.left (Knows.tail iI))) (.cons (hC.2.kQ (Knows.right (Knows.tail iI))) .nil)
  have hvl: [v1,v2].length=2:=rfl
  obtain⟨qga,qgb,qgo,qgc,QZ,qgk,qgh,qgl⟩:=hhv
  simp only[Value.slice.injEq] at QZ
  obtain⟨rfl,_,rfl⟩:=QZ
  refine zD 1<|dS [1,0,1,0,0] [] (fun(zz:Nat×(List (an×Value))×Cells×Cells)=>[(2,(.map (some rm))),(4,zP b4),(6,zI 0),(25,.slice (some ⟨nQ,0,none⟩) 2 2),(26,zI 2),(27,zI (zz.1:Int))]) (fun(zz:Nat×(List (an×Value))×Cells×Cells)=>[.l zz.2.2.1,.l zz.2.2.2,.b b4 (.cells ⟨[zI ck,zI (s:Int),zI c2,zI c3,zI c4,zI c5,zI c6]⟩ 83 (0,0)),.b b3 (.cells ⟨[.slice eO ws.length dP]⟩ 27 (0,0))]) (fun(zz:Nat×(List (an×Value))×Cells×Cells)=>zz.1≤2∧jJ rm oF zz.2.1 zz.2.2.1∧zz.2.1.map (·.1)=bF S∧MV zz.2.2.2 zz.2.1 (gU (((qS l).take zz.1).flatMap (IM (s:Int))))) (fun(zz:Nat×(List (an×Value))×Cells×Cells)=>2-zz.1) (⟨0,F,LM,Z⟩) ⟨by dsimp only;omega,hm,hk,hM⟩ (zN 0 4) ?_
  rintro⟨k,F,LM,Z⟩ hI K2 mb rest
  dsimp only at hI
  refine zD 5<|zJ 28 ((k:Int) <2) (fun h4=>?_) fun h4=>?_
  ·
   refine zD 6 ?_
   obtain⟨DN,Aw⟩:=zG ([v1,v2]) k
   refine iB 2 1 qgh Aw ?_
   obtain⟨T8,auV,h30⟩:=aDs.get Aw
   obtain aC7:T8.length≤4:=by have:=agY (zL auV);omega
   obtain⟨aAE,aXq,aXo,alk,rfl,aXp,aAD,aAC⟩:=h30
   refine jl 0 (qgl _ _ Aw)<|zD 9<|dS [1,0,1,0,0,1,1,0,0,1,1,0,0] [K2] (fun(zz:Nat×(List (an×Value))×Cells×Cells)=>[(2,(.map (some rm))),(4,zP b4),(6,zI 0),(8,.slice aAE T8.length alk),(25,.slice (some ⟨nQ,0,none⟩) 2 2),(26,zI 2),(27,zI (k:Int)),(31,.slice aAE T8.length alk),(32,zI (T8.length:Int)),(33,zI (zz.1:Int))]) (fun(zz:Nat×(List (an×Value))×Cells×Cells)=>[.l zz.2.2.1,.l zz.2.2.2,.b b4 (.cells ⟨[zI ck,zI (s:Int),zI c2,zI c3,zI c4,zI c5,zI c6]⟩ 83 (0,0)),.b b3 (.cells ⟨[.slice eO ws.length dP]⟩ 27 (0,0))]) (fun(zz:Nat×(List (an×Value))×Cells×Cells)=>zz.1≤T8.length∧jJ rm oF zz.2.1 zz.2.2.1∧zz.2.1.map (·.1)=bF S∧MV zz.2.2.2 zz.2.1 (gU (((qS l).take k).flatMap (IM (s:Int))++(IM (s:Int) T8).take zz.1))) (fun(zz:Nat×(List (an×Value))×Cells×Cells)=>T8.length-zz.1) (⟨0,F,LM,Z⟩) ⟨by dsimp only;omega,hI.2.1,hI.2.2.1,by simpa using hI.2.2.2⟩ (zN 0 4) ?_
   rintro⟨i,F,LM,Z⟩ hJ K3 X3 rest
   dsimp only at hJ
   refine zD 5<|zJ 34 ((i:Int) <(T8.length:Int)) (fun h5=>?_) fun h5=>?_
   ·
    refine zD 7 ?_
    obtain⟨x36,yG⟩:=zG T8 i
    refine iB alk 2 aAD yG<|jl 0 (aAC _ _ yG)<|jn fun rX=>jd 14 [0,3,0,3]<|ja ((T8.length:Int)-1) (by omega)<|zD 1<|ja (((T8.length:Int)-1)-(i:Int)) (by omega) ?_
    obtain⟨x51,Eb⟩:=zG T8 (((((T8.length:Int)-1)-(i:Int))).toNat)
    refine Oz (((T8.length:Int)-1)-(i:Int)) alk 2 aAD Eb (by omega)<|jl 0 (aAC _ _ Eb)<|zD 1<|aS 16 fun rY sb qE=>jn fun b54=>ez qE (zN 1 5)<|aS 17 fun Bo Bu Cc=>jmu (kv:=oF) (F:=F) (r:=rm) (K:=158) 2 (mo (s:Int) x36) (.slice (some ⟨b54,0,none⟩) 1 1) Dp hJ.2.1 fun Lm8 hm8=>fT Cc<|zD 2<|ja ((i:Int)+1) (by omega)<|zD 2 ?_
    have hup:=MV.upd (T:=158) (b:=b54) (y:=mo s x51) hO hJ.2.2.2 hJ.2.2.1 hl (agX (zL auV) (zL yG))
    exact M5 X3 (⟨i+1,_,Lm8,Z++[(b54,.cells ⟨[zI (s:Int),zI x51.n,zI x51.l]⟩ 158 (0,0))]⟩) ⟨by dsimp only;omega,hm8,hup.2,by rw[ee (ak5 yG Eb),←List.append_assoc];exact hup.1⟩ (by dsimp only;omega) [[0],[3,1],[4],[5]] (Sub.refl _)
   refine zD 3<|ja ((k:Int)+1) (by omega)<|zD 2<|bJ mb (⟨k+1,F,LM,Z⟩) ⟨by dsimp only;omega,hJ.2.1,hJ.2.2.1,by have:=hJ.2.2.2;rw[List.take_of_length_le (l:=IM (s:Int) T8) (by rw[adj];omega)] at this;rw[anH auV];exact this⟩ (by dsimp only;omega) (zN 0 4) (Sub.refl _)
  refine zD 7<|aM q0.a (zI 0) [] [0,1] (LM++Z) bX ⟨_,_,rfl,rfl,F,LM,Z,rfl,rfl,hI.2.1,hI.2.2.1,by have:=hI.2.2.2;rwa[show k=2 by omega] at this⟩
 refine jd 5 [1,0] ?_
 obtain⟨zn,afz⟩:=zG ws s
 refine iB dP 1 rR afz ?_
 obtain⟨l16,aDk,U3⟩:=dc.get afz
 obtain aZr:=hO.len _ (zL aDk)
 obtain agK:l16=l:=Option.some.inj (aDk.symm.trans hl)
 obtain⟨aAV,aKP,aKL,aAU,rfl,aKN,aKO,aKM⟩:=U3
 refine jl 0 (rQ _ _ afz)<|jd 4 [1,0] ?_
 obtain⟨rP,tN⟩:=zG ws s
 refine iB dP 1 rR tN ?_
 obtain⟨l23,aDj,E5⟩:=dc.get tN
 obtain aZo:=hO.len _ (zL aDj)
 obtain avu:l23=l:=Option.some.inj (aDj.symm.trans hl)
 obtain⟨aAL,aKy,aKu,aAK,rfl,aKw,aKx,aKv⟩:=E5
 refine jl 0 (rQ _ _ tN)<|zD 1<|aS 6 fun abZ acJ hL6=>jc (vs:=[.slice aAV l16.length aAU,.func (.func 252) ⟨[]⟩ ⟨[]⟩]) [] (ahW (show bI _ _ _ _ _ from ⟨aAV,aKP,aKL,aAU,rfl,aKN,aKO,aKM⟩) (by omega)) ?_
 rintro v17 L17 B5
 obtain⟨xq,xp,am1⟩:=B5.form
 subst am1
 refine ez hL6 (zN 1 4)<|aS 13 fun aku akR Ra=>jc (vs:=[.slice aAL l23.length aAK,.func (.func 253) ⟨[]⟩ ⟨[]⟩]) [] (ahV (show bI _ _ _ _ _ from ⟨aAL,aKy,aKu,aAK,rfl,aKw,aKx,aKv⟩) (by omega)) ?_
 rintro v24 L24 aCP
 obtain⟨acz,acs,aN9⟩:=aCP.form
 subst aN9
 refine ez Ra (zN 1 5)<|aS 14 fun YT Zf hL8=>jn fun nQ=>ez hL8 (zN 1 6)<|zD 2<|bJ bL ⟨nQ,(.slice xq (l16.filter fun x=>xz x.n).length xp),(.slice acz (l23.filter fun x=>Ep x.n).length acs),L17,L24⟩ ⟨by rw[←agK];exact B5,by rw[←avu];exact aCP⟩ Nat.zero_lt_one [0,2,1,5,6,3,4] (Sub.refl _)
theorem Wm{s:Int}{l:List ah}{x:ah}(h:l[i]?=some x):(JA s l)[i]?=some (mo s x,⟨s,if xz x.n=true then x.n+1 else x.n-1,x.l⟩):=aeE h
theorem amr{s o r:Int}{l:List ah}{x:ah}(h:l[i]?=some x):(Ky s o l r)[i]?=some (mo s x,⟨o,x.n+r,x.l⟩):=aeE h
theorem raise_at{l:List ah}{x:ah}(h:l[(((l.length:Int)-1)).toNat]?=some x):rn l=x.n+Int.tmod x.n 2:=by
 have:l[l.length-1]?=some x:=by rw[←h];congr 1;omega
 simp only[rn,this]
theorem ZD{l:List ah}(h:¬(l.length:Int)>0):rn l=0:=by
 have:l=[]:=List.eq_nil_of_length_eq_zero (by omega)
 subst this;rfl
theorem tm2(h:1≤n∧n≤9):0≤Int.tmod n 2∧Int.tmod n 2≤1:=by
 rw[Int.tmod_eq_emod_of_nonneg (by omega)]
 omega
theorem ady{l:List ah}(h:∀x∈l,A7 x):0≤rn l∧rn l≤10:=by
 unfold rn
 split
 ·rename_i y hy
  have h1:=(h y (zL hy)).1
  have:=tm2 h1
  omega
 omega
theorem Ri{v:Value}{S:List (List ah)}{l:List ah}{ck c2 c3 c4:Int}{F:List (an×Value)}(hS:cS ro v S)(hO:eQ S)(hl:S[s]?=some l) (hm:jJ rm oF F LM) (hk:F.map (·.1)=bF S) (hM:MV Z F id):dR zT 231 [.agg ⟨[v]⟩,.agg ⟨[zI ck,zI (s:Int),zI c2,zI c3,zI c4,zI c5,zI c6]⟩,(.map (some rm))] ro (LM++Z) (fun r Y=>∃F' L' Z',r= zI 0∧Y=L'++Z'∧jJ rm oF F' L'∧F'.map (·.1)=bF S∧MV Z' F' (gU (JA (s:Int) l))):=by
 obtain⟨ws,ht,dc⟩:=hS
 obtain⟨eO,Ac,Aa,dP,rfl,Ab,rR,rQ⟩:=ht
 have hln:=dc.len
 have I0:=hO.two
 have KD:=(List.getElem?_eq_some_iff.1 hl).1
 have hlm:=zL hl
 have hll:=hO.len _ hlm
 refine zC [.l LM,.l Z]<|zD 2<|jn fun b3=>jn fun b4=>jd 9 [1,0] ?_
 obtain⟨fD,eC⟩:=zG ws s
 refine iB dP 1 rR eC ?_
 obtain⟨Qr,aaE,NB⟩:=dc.get eC
 obtain aNF:=hO.len _ (zL aaE)
 obtain Nm:Qr=l:=Option.some.inj (aaE.symm.trans hl)
 obtain aMA:=hO.ok _ (zL aaE)
 obtain⟨asE,aKS,aKQ,adJ,rfl,aKR,asD,asC⟩:=NB
 refine jl 0 (rQ _ _ eC)<|zD 4<|dS [1,0,1,0,0] [] (fun(zz:Nat×(List (an×Value))×Cells×Cells)=>[(2,(.map (some rm))),(4,zP b4),(6,zI 0),(15,.slice asE Qr.length adJ),(16,zI (Qr.length:Int)),(17,zI (zz.1:Int))]) (fun(zz:Nat×(List (an×Value))×Cells×Cells)=>[.l zz.2.2.1,.l zz.2.2.2,.b b4 (.cells ⟨[zI ck,zI (s:Int),zI c2,zI c3,zI c4,zI c5,zI c6]⟩ 83 (0,0)),.b b3 (.cells ⟨[.slice eO ws.length dP]⟩ 27 (0,0))]) (fun(zz:Nat×(List (an×Value))×Cells×Cells)=>zz.1≤Qr.length∧jJ rm oF zz.2.1 zz.2.2.1∧zz.2.1.map (·.1)=bF S∧MV zz.2.2.2 zz.2.1 (gU ((JA (s:Int) l).take zz.1))) (fun(zz:Nat×(List (an×Value))×Cells×Cells)=>Qr.length-zz.1) (⟨0,F,LM,Z⟩) ⟨by dsimp only;omega,hm,hk,hM⟩ [2,3,0,1] ?_
 rintro⟨i,F,LM,Z⟩ hI K1 bL rest
 dsimp only at hI
 refine zD 5<|zJ 18 ((i:Int) <(Qr.length:Int)) (fun h1=>?_) fun h1=>?_
 ·
  refine zD 6 ?_
  obtain⟨EI,xC⟩:=zG Qr i
  refine iB adJ 2 asD xC<|jl 0 (asC _ _ xC)<|jn fun b8=>jd 3 [0] ?_
  have I1:=aMA _ (zL xC)
  have aMZ:=I1.1.1
  have aMY:=I1.1.2
  refine jd 3 [0]<|ja (EI.n-1) (by omega)<|jd 6 [0]<|jp (vs:=[.agg ⟨[zI EI.n,zI EI.l]⟩]) [] [] (fun aH hs hZ=>(aEQ (x:=EI)))<|zD 1<|js 25 (xz EI.n) (fun h2=>?_) (fun h2=>?_)
  ·
   refine jd 4 [0]<|ja (EI.n+1) (by omega)<|jd 13 [3,0,3,0]<|jp (vs:=[zI (s:Int),zI (EI.n+1),zI EI.l]) [] [] (fun aH hs hZ=>gAt)<|aS 11 fun zl zt yR=>jn fun qH=>ez yR (zN 1 5)<|aS 12 fun q9 ri p8=>jmu (kv:=oF) (F:=F) (r:=rm) (K:=158) 2 (mo (s:Int) EI) (.slice (some ⟨qH,0,none⟩) 1 1) Dp hI.2.1 fun Lm5 hm5=>fT p8<|zD 2<|ja ((i:Int)+1) (by omega)<|zD 2 ?_
   have hup:=MV.upd (T:=158) (b:=qH) (y:=⟨s,EI.n+1,EI.l⟩) hO hI.2.2.2 hI.2.2.1 hl (by rw[←Nm];exact zL xC)
   exact M5 bL (⟨i+1,_,Lm5,Z++[(qH,.cells ⟨[zI (s:Int),zI (EI.n+1),zI EI.l]⟩ 158 (0,0))]⟩) ⟨by dsimp only;omega,hm5,hup.2,by rw[ee (Wm (by rw[←Nm];exact xC))];rw[if_pos (by assumption)];exact hup.1⟩ (by dsimp only;omega) [[0],[3,1],[4],[5]] (Sub.refl _)
  refine jd 13 [3,0,3,0]<|jp (vs:=[zI (s:Int),zI (EI.n-1),zI EI.l]) [] [] (fun aH hs hZ=>gAt)<|aS 11 fun rY sb qE=>jn fun qH=>ez qE (zN 1 5)<|aS 12 fun Bo Bu Cc=>jmu (kv:=oF) (F:=F) (r:=rm) (K:=158) 2 (mo (s:Int) EI) (.slice (some ⟨qH,0,none⟩) 1 1) Dp hI.2.1 fun Lm8 hm8=>fT Cc<|zD 2<|ja ((i:Int)+1) (by omega)<|zD 2 ?_
  have hup:=MV.upd (T:=158) (b:=qH) (y:=⟨s,EI.n-1,EI.l⟩) hO hI.2.2.2 hI.2.2.1 hl (by rw[←Nm];exact zL xC)
  exact M5 bL (⟨i+1,_,Lm8,Z++[(qH,.cells ⟨[zI (s:Int),zI (EI.n-1),zI EI.l]⟩ 158 (0,0))]⟩) ⟨by dsimp only;omega,hm8,hup.2,by rw[ee (Wm (by rw[←Nm];exact xC))];rw[if_neg (by rw[show xz EI.n=false from (by assumption)];decide)];exact hup.1⟩ (by dsimp only;omega) [[0],[3,1],[4],[5]] (Sub.refl _)
 refine zD 7<|zR (zI 0) [] [0,1] (LM++Z) ⟨F,LM,Z,rfl,rfl,hI.2.1,hI.2.2.1,by have:=hI.2.2.2;rwa[List.take_of_length_le (by simp only[JA,List.length_map];rw[←Nm];omega)] at this⟩
theorem anC{v:Value}{S:List (List ah)}{o:Nat}{l lo:List ah}{ck c3 c4:Int}{F:List (an×Value)}(hS:cS ro v S)(hO:eQ S)(hl:S[s]?=some l) (hm:jJ rm oF F LM) (hk:F.map (·.1)=bF S) (hM:MV Z F id) (AA:S[o]?=some lo):dR zT 233 [.agg ⟨[v]⟩,.agg ⟨[zI ck,zI (s:Int),zI (o:Int),zI c3,zI c4,zI c5,zI c6]⟩,(.map (some rm))] ro (LM++Z) (fun r Y=>∃F' L' Z',r= zI 0∧Y=L'++Z'∧jJ rm oF F' L'∧F'.map (·.1)=bF S∧MV Z' F' (gU (Ky (s:Int) (o:Int) l (rn lo)))):=by
 obtain⟨ws,ht,dc⟩:=hS
 obtain⟨eO,Ac,Aa,dP,rfl,Ab,rR,rQ⟩:=ht
 have hln:=dc.len
 have I0:=hO.two
 have KD:=(List.getElem?_eq_some_iff.1 hl).1
 have hlm:=zL hl
 have hll:=hO.len _ hlm
 have hso:=(List.getElem?_eq_some_iff.1 AA).1
 have aDb:=zL AA
 have hr:=ady (hO.ok _ aDb)
 have aZv:=hO.len _ aDb
 refine zC [.l LM,.l Z]<|zD 2<|jn fun b3=>jn fun b4=>jd 8 [1,0] ?_
 obtain⟨V2,GL⟩:=zG ws s
 refine iB dP 1 rR GL ?_
 obtain⟨l18,auY,h18⟩:=dc.get GL
 obtain aZq:=hO.len _ (zL auY)
 obtain Nl:l18=l:=Option.some.inj (auY.symm.trans hl)
 obtain jI:=hO.ok _ (zL auY)
 obtain⟨aAR,aXC,aXA,asB,rfl,aXB,aKF,aKE⟩:=h18
 refine jl 0 (rQ _ _ GL)<|jd 4 [1,0] ?_
 obtain⟨uP,sJ⟩:=zG ws o
 refine iB dP 1 rR sJ ?_
 obtain⟨T9,UE,h24⟩:=dc.get sJ
 obtain aC9:=hO.len _ (zL UE)
 obtain UN:T9=lo:=Option.some.inj (UE.symm.trans AA)
 obtain aCh:=hO.ok _ (zL UE)
 obtain⟨asA,aAJ,aAH,adI,rfl,aAI,aln,alm⟩:=h24
 refine jl 0 (rQ _ _ sJ)<|zD 10<|ja ((l18.length:Int)+(T9.length:Int)) (by omega)<|zD 2<|zJ 30 (((l18.length:Int)+(T9.length:Int))>8) (fun h1=>?_) fun h1=>?_
 ·
  exfalso;omega
 refine zD 18<|GF [1,1,1,1,1] [] (fun(zz:Int)=>[(2,(.map (some rm))),(4,zP b4),(6,zI 0),(7,.slice aAR l18.length asB),(9,zI zz)]) (fun zz=>[.l LM,.l Z,.b b4 (.cells ⟨[zI ck,zI (s:Int),zI (o:Int),zI c3,zI c4,zI c5,zI c6]⟩ 83 (0,0)),.b b3 (.cells ⟨[.slice eO ws.length dP]⟩ 27 (0,0))]) (fun zz=>zz=rn lo) ?_ (fun K1 bL=>?_)
 ·
  rintro q hQ rest
  refine zD 8<|dS [1,1,1,1,1,0,1,0,0] [] (fun(zz:Nat×(List (an×Value))×Cells×Cells)=>[(2,(.map (some rm))),(4,zP b4),(9,zI q),(49,.slice aAR l18.length asB),(50,zI (l18.length:Int)),(51,zI (zz.1:Int))]) (fun(zz:Nat×(List (an×Value))×Cells×Cells)=>[.l zz.2.2.1,.l zz.2.2.2,.b b4 (.cells ⟨[zI ck,zI (s:Int),zI (o:Int),zI c3,zI c4,zI c5,zI c6]⟩ 83 (0,0)),.b b3 (.cells ⟨[.slice eO ws.length dP]⟩ 27 (0,0))]) (fun(zz:Nat×(List (an×Value))×Cells×Cells)=>zz.1≤l18.length∧jJ rm oF zz.2.1 zz.2.2.1∧zz.2.1.map (·.1)=bF S∧MV zz.2.2.2 zz.2.1 (gU ((Ky (s:Int) (o:Int) l (rn lo)).take zz.1))) (fun(zz:Nat×(List (an×Value))×Cells×Cells)=>l18.length-zz.1) (⟨0,F,LM,Z⟩) ⟨by dsimp only;omega,hm,hk,hM⟩ (zN 0 4) ?_
  rintro⟨i,F,LM,Z⟩ hI K2 mb rest
  dsimp only at hI
  refine zD 5<|zJ 52 ((i:Int) <(l18.length:Int)) (fun h2=>?_) fun h2=>?_
  ·
   refine zD 6 ?_
   obtain⟨x53,afv⟩:=zG l18 i
   refine iB asB 2 aKF afv<|jl 0 (aKE _ _ afv)<|jn fun wz=>jd 4 [0] ?_
   have I1:=jI _ (zL afv)
   have aMZ:=I1.1.1
   have aMY:=I1.1.2
   refine jd 4 [0]<|ja (x53.n+q) (by omega)<|zD 2<|zJ 59 ((x53.n+q)>40) (fun h3=>?_) fun h3=>?_
   ·
    exfalso;omega
   refine jd 13 [3,0,3,0]<|ja (x53.n+q) (by omega)<|jd 2 [0]<|jp (vs:=[zI (o:Int),zI (x53.n+q),zI x53.l]) [] [] (fun aH hs hZ=>gAt)<|aS 14 fun q9 ri p8=>jn fun b74=>ez p8 (zN 1 5)<|aS 15 fun rY sb qE=>jmu (kv:=oF) (F:=F) (r:=rm) (K:=158) 2 (mo (s:Int) x53) (.slice (some ⟨b74,0,none⟩) 1 1) Dp hI.2.1 fun Lm6 hm6=>fT qE<|zD 2<|ja ((i:Int)+1) (by omega)<|zD 2 ?_
   have hup:=MV.upd (T:=158) (b:=b74) (y:=⟨o,x53.n+q,x53.l⟩) hO hI.2.2.2 hI.2.2.1 hl (by rw[←Nl];exact zL afv)
   exact M5 mb (⟨i+1,_,Lm6,Z++[(b74,.cells ⟨[zI (o:Int),zI (x53.n+q),zI x53.l]⟩ 158 (0,0))]⟩) ⟨by dsimp only;omega,hm6,hup.2,by rw[ee (amr (by rw[←Nl];exact afv))];have e:=hup.1;rw[hQ] at e ⊢;exact e⟩ (by dsimp only;omega) [[0],[3,1],[4],[5]] (Sub.refl _)
  refine zD 7<|zR (zI 0) [] [0,1] (LM++Z) ⟨F,LM,Z,rfl,rfl,hI.2.1,hI.2.2.1,by have:=hI.2.2.2;rwa[List.take_of_length_le (by simp only[Ky,List.length_map];rw[←Nl];omega)] at this⟩
 refine zJ 34 ((T9.length:Int)>0) (fun h7=>?_) fun h7=>?_
 ·
  refine zD 4<|ja ((T9.length:Int)-1) (by omega) ?_
  obtain⟨x38,Nc⟩:=zG T9 ((((T9.length:Int)-1)).toNat)
  refine Oz ((T9.length:Int)-1) adI 2 aln Nc (by omega)<|zD 1<|jl 0 (alm _ _ Nc)<|zD 2<|ja ((T9.length:Int)-1) (by omega) ?_
  obtain⟨YU,IY⟩:=zG T9 ((((T9.length:Int)-1)).toNat)
  refine Oz ((T9.length:Int)-1) adI 2 aln IY (by omega)<|zD 1<|jl 0 (alm _ _ IY)<|zD 1<|ja (x38.n+(Int.tmod YU.n 2)) (by have h1:=(aCh _ (zL Nc)).1;have h2:=(aCh _ (zL IY)).1;have:=tm2 h2;omega) ?_
  refine zD 2 ?_
  have hra:=raise_at Nc
  rw[UN] at hra
  exact bJ bL (x38.n+(Int.tmod YU.n 2)) (by rw[←UN];have e:x38=YU:=Option.some.inj (Nc.symm.trans IY);subst e;exact(raise_at Nc).symm) Nat.zero_lt_one [2,3,0,1] (Sub.refl _)
 refine zD 2<|bJ bL 0 (by rw[←UN];exact(ZD (by omega)).symm) Nat.zero_lt_one [2,3,0,1] (Sub.refl _)
def awD(S:List (List ah))(c:aN):List (an×an):=
 if c.k=1 then acD c.st (S[c.st.toNat]?.getD []) else if c.k=2 then JA c.st (S[c.st.toNat]?.getD []) else Ky c.st c.ot (S[c.st.toNat]?.getD []) (rn (S[c.ot.toNat]?.getD []))
def yA(S:List (List ah))(c:aN)(x:an):an:=gU (awD S c) x
theorem pE{l:List α}(h:l.length=2):∃a b,l=[a,b]:=by
 match l,h with
 | [a,b],_=>exact⟨a,b,rfl⟩
theorem Rj:dD zT 209 [] ro (.agg ⟨[.nilFunc,.func (.func 230) ⟨[]⟩ ⟨[]⟩,.func (.func 231) ⟨[]⟩ ⟨[]⟩,.func (.func 232) ⟨[]⟩ ⟨[]⟩,.func (.func 233) ⟨[]⟩ ⟨[]⟩,.func (.func 234) ⟨[]⟩ ⟨[]⟩,.func (.func 235) ⟨[]⟩ ⟨[]⟩,.func (.func 236) ⟨[]⟩ ⟨[]⟩]⟩):=by
 refine zE<|zD 2<|jn fun b0=>jd 7 [0]<|zR (.agg ⟨[.nilFunc,.func (.func 230) ⟨[]⟩ ⟨[]⟩,.func (.func 231) ⟨[]⟩ ⟨[]⟩,.func (.func 232) ⟨[]⟩ ⟨[]⟩,.func (.func 233) ⟨[]⟩ ⟨[]⟩,.func (.func 234) ⟨[]⟩ ⟨[]⟩,.func (.func 235) ⟨[]⟩ ⟨[]⟩,.func (.func 236) ⟨[]⟩ ⟨[]⟩]⟩) [0] [] [] ⟨rfl,rfl⟩
theorem aE2{v:Value}{S:List (List ah)}(hS:cS ro v S)(hO:eQ S):dR zT 176 [.agg ⟨[v]⟩,.agg ⟨[zI 1,zI 0,zI 0,zI 0,zI 0,zI 0,zI 0]⟩] ro [] (fun r Y=>∃rm F LM Z,r= .tuple ⟨[.map (some rm),zI 0]⟩∧Y=LM++Z∧jJ rm oF F LM∧F.map (·.1)=bF S∧MV Z F (yA S ⟨1,0,0,0,0,0,0⟩)):=by
 obtain⟨p,q,rfl⟩:=pE hO.two
 have xP:=hS
 obtain⟨ws,ht,dc⟩:=hS
 obtain⟨w1,w2,rfl⟩:=pE (dc.len.trans hO.two)
 obtain⟨eO,Ac,Aa,dP,rfl,Ab,rR,rQ⟩:=ht
 refine zE<|zD 2<|jn fun b2=>jn fun b3=>jd 8 [0]<|jp (vs:=[zI 1,zI 1,zI 7]) [] [] (fun aH hs hZ=>AG)<|jd 18 [1,0]<|jp (vs:=[zI 0,zI 0,zI 1]) [] [] (fun aH hs hZ=>AG)<|jd 70 [0,0,0,0,0,0]<|jne Gl (v9 0 0 0 0)<|zD 3<|js 73 (!(0==0&&(0==0&&true))) (fun h1=>?_) (fun h1=>?_)
 ·
  have fQ:=h1
  try simp only[zB] at fQ
  exact absurd fQ (by decide)
 have fQ:=h1
 try simp only[zB] at fQ
 refine jd 6 [0]<|jne Gl (v9 0 0 0 0)<|zD 3<|js 82 (!(0==0&&(0==0&&true))) (fun h2=>?_) (fun h2=>?_)
 ·
  exact absurd h2 (by decide)
 refine jd 5 [1]<|jc (vs:=[.agg ⟨[.slice eO 2 dP]⟩]) [] (KU (xP) hO) ?_
 rintro _ _ ⟨rm,F,LM,Z,rfl,rfl,hmM,hkM,hMM⟩
 refine jg 0 [.l LM,.l Z]<|jd 10 [2,3,2]<|jp [] [] (fun aH hs hZ=>Rj)<|zD 1<|aS 7 fun DM DW Bh=>jc (vs:=[.agg ⟨[.slice eO 2 dP]⟩,.agg ⟨[zI 1,zI 0,zI 0,zI 0,zI 0,zI 0,zI 0]⟩,(.map (some rm))]) [0,1] (X7 (s:=0) xP hO rfl hmM hkM hMM) ?_
 rintro _ _ ⟨F2,Ok,Z2,rfl,rfl,EY,iI,hM2⟩
 refine jg 0 [.l Ok,.l Z2]<|fS Bh [[2]]<|zD 16<|zR (.tuple ⟨[(.map (some rm)),zI 0]⟩) [] [0,1] (Ok++Z2) ⟨rm,F2,Ok,Z2,rfl,rfl,EY,iI,hM2⟩
theorem aE1{v:Value}{S:List (List ah)}(hS:cS ro v S)(hO:eQ S):dR zT 176 [.agg ⟨[v]⟩,.agg ⟨[zI 2,zI 0,zI 0,zI 0,zI 0,zI 0,zI 0]⟩] ro [] (fun r Y=>∃rm F LM Z,r= .tuple ⟨[.map (some rm),zI 0]⟩∧Y=LM++Z∧jJ rm oF F LM∧F.map (·.1)=bF S∧MV Z F (yA S ⟨2,0,0,0,0,0,0⟩)):=by
 obtain⟨p,q,rfl⟩:=pE hO.two
 have xP:=hS
 obtain⟨ws,ht,dc⟩:=hS
 obtain⟨w1,w2,rfl⟩:=pE (dc.len.trans hO.two)
 obtain⟨eO,Ac,Aa,dP,rfl,Ab,rR,rQ⟩:=ht
 refine zE<|zD 2<|jn fun b2=>jn fun b3=>jd 8 [0]<|jp (vs:=[zI 2,zI 1,zI 7]) [] [] (fun aH hs hZ=>AG)<|jd 18 [1,0]<|jp (vs:=[zI 0,zI 0,zI 1]) [] [] (fun aH hs hZ=>AG)<|jd 70 [0,0,0,0,0,0]<|jne Gl (v9 0 0 0 0)<|zD 3<|js 73 (!(0==0&&(0==0&&true))) (fun h1=>?_) (fun h1=>?_)
 ·
  have fQ:=h1
  try simp only[zB] at fQ
  exact absurd fQ (by decide)
 have fQ:=h1
 try simp only[zB] at fQ
 refine jd 6 [0]<|jne Gl (v9 0 0 0 0)<|zD 3<|js 82 (!(0==0&&(0==0&&true))) (fun h2=>?_) (fun h2=>?_)
 ·
  exact absurd h2 (by decide)
 refine jd 5 [1]<|jc (vs:=[.agg ⟨[.slice eO 2 dP]⟩]) [] (KU (xP) hO) ?_
 rintro _ _ ⟨rm,F,LM,Z,rfl,rfl,hmM,hkM,hMM⟩
 refine jg 0 [.l LM,.l Z]<|jd 10 [2,3,2]<|jp [] [] (fun aH hs hZ=>Rj)<|zD 1<|aS 7 fun DM DW Bh=>jc (vs:=[.agg ⟨[.slice eO 2 dP]⟩,.agg ⟨[zI 2,zI 0,zI 0,zI 0,zI 0,zI 0,zI 0]⟩,(.map (some rm))]) [0,1] (Ri (s:=0) xP hO rfl hmM hkM hMM) ?_
 rintro _ _ ⟨F2,Ok,Z2,rfl,rfl,EY,iI,hM2⟩
 refine jg 0 [.l Ok,.l Z2]<|fS Bh [[2]]<|zD 16<|zR (.tuple ⟨[(.map (some rm)),zI 0]⟩) [] [0,1] (Ok++Z2) ⟨rm,F2,Ok,Z2,rfl,rfl,EY,iI,hM2⟩
theorem aE0{v:Value}{S:List (List ah)}(hS:cS ro v S)(hO:eQ S):dR zT 176 [.agg ⟨[v]⟩,.agg ⟨[zI 1,zI 1,zI 0,zI 0,zI 0,zI 0,zI 0]⟩] ro [] (fun r Y=>∃rm F LM Z,r= .tuple ⟨[.map (some rm),zI 0]⟩∧Y=LM++Z∧jJ rm oF F LM∧F.map (·.1)=bF S∧MV Z F (yA S ⟨1,1,0,0,0,0,0⟩)):=by
 obtain⟨p,q,rfl⟩:=pE hO.two
 have xP:=hS
 obtain⟨ws,ht,dc⟩:=hS
 obtain⟨w1,w2,rfl⟩:=pE (dc.len.trans hO.two)
 obtain⟨eO,Ac,Aa,dP,rfl,Ab,rR,rQ⟩:=ht
 refine zE<|zD 2<|jn fun b2=>jn fun b3=>jd 8 [0]<|jp (vs:=[zI 1,zI 1,zI 7]) [] [] (fun aH hs hZ=>AG)<|jd 18 [1,0]<|jp (vs:=[zI 1,zI 0,zI 1]) [] [] (fun aH hs hZ=>AG)<|jd 70 [0,0,0,0,0,0]<|jne Gl (v9 0 0 0 0)<|zD 3<|js 73 (!(0==0&&(0==0&&true))) (fun h1=>?_) (fun h1=>?_)
 ·
  have fQ:=h1
  try simp only[zB] at fQ
  exact absurd fQ (by decide)
 have fQ:=h1
 try simp only[zB] at fQ
 refine jd 6 [0]<|jne Gl (v9 0 0 0 0)<|zD 3<|js 82 (!(0==0&&(0==0&&true))) (fun h2=>?_) (fun h2=>?_)
 ·
  exact absurd h2 (by decide)
 refine jd 5 [1]<|jc (vs:=[.agg ⟨[.slice eO 2 dP]⟩]) [] (KU (xP) hO) ?_
 rintro _ _ ⟨rm,F,LM,Z,rfl,rfl,hmM,hkM,hMM⟩
 refine jg 0 [.l LM,.l Z]<|jd 10 [2,3,2]<|jp [] [] (fun aH hs hZ=>Rj)<|zD 1<|aS 7 fun DM DW Bh=>jc (vs:=[.agg ⟨[.slice eO 2 dP]⟩,.agg ⟨[zI 1,zI 1,zI 0,zI 0,zI 0,zI 0,zI 0]⟩,(.map (some rm))]) [0,1] (X7 (s:=1) xP hO rfl hmM hkM hMM) ?_
 rintro _ _ ⟨F2,Ok,Z2,rfl,rfl,EY,iI,hM2⟩
 refine jg 0 [.l Ok,.l Z2]<|fS Bh [[2]]<|zD 16<|zR (.tuple ⟨[(.map (some rm)),zI 0]⟩) [] [0,1] (Ok++Z2) ⟨rm,F2,Ok,Z2,rfl,rfl,EY,iI,hM2⟩
theorem aEZ{v:Value}{S:List (List ah)}(hS:cS ro v S)(hO:eQ S):dR zT 176 [.agg ⟨[v]⟩,.agg ⟨[zI 2,zI 1,zI 0,zI 0,zI 0,zI 0,zI 0]⟩] ro [] (fun r Y=>∃rm F LM Z,r= .tuple ⟨[.map (some rm),zI 0]⟩∧Y=LM++Z∧jJ rm oF F LM∧F.map (·.1)=bF S∧MV Z F (yA S ⟨2,1,0,0,0,0,0⟩)):=by
 obtain⟨p,q,rfl⟩:=pE hO.two
 have xP:=hS
 obtain⟨ws,ht,dc⟩:=hS
 obtain⟨w1,w2,rfl⟩:=pE (dc.len.trans hO.two)
 obtain⟨eO,Ac,Aa,dP,rfl,Ab,rR,rQ⟩:=ht
 refine zE<|zD 2<|jn fun b2=>jn fun b3=>jd 8 [0]<|jp (vs:=[zI 2,zI 1,zI 7]) [] [] (fun aH hs hZ=>AG)<|jd 18 [1,0]<|jp (vs:=[zI 1,zI 0,zI 1]) [] [] (fun aH hs hZ=>AG)<|jd 70 [0,0,0,0,0,0]<|jne Gl (v9 0 0 0 0)<|zD 3<|js 73 (!(0==0&&(0==0&&true))) (fun h1=>?_) (fun h1=>?_)
 ·
  have fQ:=h1
  try simp only[zB] at fQ
  exact absurd fQ (by decide)
 have fQ:=h1
 try simp only[zB] at fQ
 refine jd 6 [0]<|jne Gl (v9 0 0 0 0)<|zD 3<|js 82 (!(0==0&&(0==0&&true))) (fun h2=>?_) (fun h2=>?_)
 ·
  exact absurd h2 (by decide)
 refine jd 5 [1]<|jc (vs:=[.agg ⟨[.slice eO 2 dP]⟩]) [] (KU (xP) hO) ?_
 rintro _ _ ⟨rm,F,LM,Z,rfl,rfl,hmM,hkM,hMM⟩
 refine jg 0 [.l LM,.l Z]<|jd 10 [2,3,2]<|jp [] [] (fun aH hs hZ=>Rj)<|zD 1<|aS 7 fun DM DW Bh=>jc (vs:=[.agg ⟨[.slice eO 2 dP]⟩,.agg ⟨[zI 2,zI 1,zI 0,zI 0,zI 0,zI 0,zI 0]⟩,(.map (some rm))]) [0,1] (Ri (s:=1) xP hO rfl hmM hkM hMM) ?_
 rintro _ _ ⟨F2,Ok,Z2,rfl,rfl,EY,iI,hM2⟩
 refine jg 0 [.l Ok,.l Z2]<|fS Bh [[2]]<|zD 16<|zR (.tuple ⟨[(.map (some rm)),zI 0]⟩) [] [0,1] (Ok++Z2) ⟨rm,F2,Ok,Z2,rfl,rfl,EY,iI,hM2⟩
theorem aEY{v:Value}{S:List (List ah)}(hS:cS ro v S)(hO:eQ S):dR zT 176 [.agg ⟨[v]⟩,.agg ⟨[zI 4,zI 1,zI 0,zI 0,zI 0,zI 0,zI 0]⟩] ro [] (fun r Y=>∃rm F LM Z,r= .tuple ⟨[.map (some rm),zI 0]⟩∧Y=LM++Z∧jJ rm oF F LM∧F.map (·.1)=bF S∧MV Z F (yA S ⟨4,1,0,0,0,0,0⟩)):=by
 obtain⟨p,q,rfl⟩:=pE hO.two
 have xP:=hS
 obtain⟨ws,ht,dc⟩:=hS
 obtain⟨w1,w2,rfl⟩:=pE (dc.len.trans hO.two)
 obtain⟨eO,Ac,Aa,dP,rfl,Ab,rR,rQ⟩:=ht
 refine zE<|zD 2<|jn fun b2=>jn fun b3=>jd 8 [0]<|jp (vs:=[zI 4,zI 1,zI 7]) [] [] (fun aH hs hZ=>AG)<|jd 18 [1,0]<|jp (vs:=[zI 1,zI 0,zI 1]) [] [] (fun aH hs hZ=>AG)<|jd 33 [0,0,0,0]<|jp (vs:=[zI 0,zI 0,zI 1]) [] [] (fun aH hs hZ=>AG)<|jd 36 [0,0,0]<|jne Gl (v9 0 0 0 0)<|zD 3<|js 73 (!(0==0&&(0==0&&true))) (fun h1=>?_) (fun h1=>?_)
 ·
  have fQ:=h1
  try simp only[zB] at fQ
  exact absurd fQ (by decide)
 have fQ:=h1
 try simp only[zB] at fQ
 refine jd 6 [0]<|jne Gl (v9 0 0 0 0)<|zD 3<|js 82 (!(0==0&&(0==0&&true))) (fun h2=>?_) (fun h2=>?_)
 ·
  exact absurd h2 (by decide)
 refine jd 5 [1]<|jc (vs:=[.agg ⟨[.slice eO 2 dP]⟩]) [] (KU (xP) hO) ?_
 rintro _ _ ⟨rm,F,LM,Z,rfl,rfl,hmM,hkM,hMM⟩
 refine jg 0 [.l LM,.l Z]<|jd 10 [2,3,2]<|jp [] [] (fun aH hs hZ=>Rj)<|zD 1<|aS 7 fun DM DW Bh=>jc (vs:=[.agg ⟨[.slice eO 2 dP]⟩,.agg ⟨[zI 4,zI 1,zI 0,zI 0,zI 0,zI 0,zI 0]⟩,(.map (some rm))]) [0,1] (anC (s:=1) (o:=0) xP hO rfl hmM hkM hMM rfl) ?_
 rintro _ _ ⟨F2,Ok,Z2,rfl,rfl,EY,iI,hM2⟩
 refine jg 0 [.l Ok,.l Z2]<|fS Bh [[2]]<|zD 16<|zR (.tuple ⟨[(.map (some rm)),zI 0]⟩) [] [0,1] (Ok++Z2) ⟨rm,F2,Ok,Z2,rfl,rfl,EY,iI,hM2⟩
def aab(n:Nat):Int:=if n=0 then 0 else if n <2 then 1 else if n <4 then 2 else if n <8 then 3 else 4
theorem aws:∀ {n:Nat},n≤12→dD zT 161 [zU (n:Int)] ro (zI (aab n))
 |0,_=>by refine bD au [] [] bn (zD 35 (ja 0 (by decide) (zD 3 ?_)));exact aM q0 (zI 0) [] [] [] (Sub.refl _) ⟨_,_,rfl,rfl,rfl,rfl⟩
 |1,_=>by refine bD au [] [] bn (zD 35 (ja 1 (by decide) (zD 3 ?_)));exact aM q0 (zI 1) [] [] [] (Sub.refl _) ⟨_,_,rfl,rfl,rfl,rfl⟩
 |2,_=>by refine bD au [] [] bn (zD 35 (ja 2 (by decide) (zD 3 ?_)));exact aM q0 (zI 2) [] [] [] (Sub.refl _) ⟨_,_,rfl,rfl,rfl,rfl⟩
 |3,_=>by refine bD au [] [] bn (zD 35 (ja 2 (by decide) (zD 3 ?_)));exact aM q0 (zI 2) [] [] [] (Sub.refl _) ⟨_,_,rfl,rfl,rfl,rfl⟩
 |4,_=>by refine bD au [] [] bn (zD 35 (ja 3 (by decide) (zD 3 ?_)));exact aM q0 (zI 3) [] [] [] (Sub.refl _) ⟨_,_,rfl,rfl,rfl,rfl⟩
 |5,_=>by refine bD au [] [] bn (zD 35 (ja 3 (by decide) (zD 3 ?_)));exact aM q0 (zI 3) [] [] [] (Sub.refl _) ⟨_,_,rfl,rfl,rfl,rfl⟩
 |6,_=>by refine bD au [] [] bn (zD 35 (ja 3 (by decide) (zD 3 ?_)));exact aM q0 (zI 3) [] [] [] (Sub.refl _) ⟨_,_,rfl,rfl,rfl,rfl⟩
 |7,_=>by refine bD au [] [] bn (zD 35 (ja 3 (by decide) (zD 3 ?_)));exact aM q0 (zI 3) [] [] [] (Sub.refl _) ⟨_,_,rfl,rfl,rfl,rfl⟩
 |8,_=>by refine bD au [] [] bn (zD 35 (ja 4 (by decide) (zD 3 ?_)));exact aM q0 (zI 4) [] [] [] (Sub.refl _) ⟨_,_,rfl,rfl,rfl,rfl⟩
 |9,_=>by refine bD au [] [] bn (zD 35 (ja 4 (by decide) (zD 3 ?_)));exact aM q0 (zI 4) [] [] [] (Sub.refl _) ⟨_,_,rfl,rfl,rfl,rfl⟩
 |10,_=>by refine bD au [] [] bn (zD 35 (ja 4 (by decide) (zD 3 ?_)));exact aM q0 (zI 4) [] [] [] (Sub.refl _) ⟨_,_,rfl,rfl,rfl,rfl⟩
 |11,_=>by refine bD au [] [] bn (zD 35 (ja 4 (by decide) (zD 3 ?_)));exact aM q0 (zI 4) [] [] [] (Sub.refl _) ⟨_,_,rfl,rfl,rfl,rfl⟩
 |12,_=>by refine bD au [] [] bn (zD 35 (ja 4 (by decide) (zD 3 ?_)));exact aM q0 (zI 4) [] [] [] (Sub.refl _) ⟨_,_,rfl,rfl,rfl,rfl⟩
 |n+13,h=>absurd h (by omega)
theorem aca{n:Nat}(h:n≤1000):Value.int .u64 (IntKind.u64.wrap (n:Int))= zU (n:Int):=by
 rw[r5 .u64 rfl _ (by omega) (by simp[IntKind.bits];omega)]
def Oe(v:Value)(xs:List ah)(Y:Cells):Prop:=∃ys,ys.Perm xs∧ay v 2 79 cG ys Y
theorem awt{n:Nat}(h:n≤12):dD zT 114 [zU (n:Int)] ro (zI (aab n)):=by
 refine zE<|zD 10<|jp (vs:=[zU (n:Int)]) [] [] (fun aH hs hZ=>(aws h))<|zD 3<|zX (zI (aab n)) ⟨rfl,rfl⟩
theorem aQC{v:Value}{xs:List ah}{L:Cells}{a b:Int}(ho:ay v 2 79 cG xs L)(hN:xs.length≤1000)(zh:0≤a∧a≤b∧b≤xs.length):dR zT 255 [v,zI a,zI b,.func (.func 184) ⟨[]⟩ ⟨[]⟩] ro L (fun r Y=>Oe v xs Y):=by
 refine zC [.l L]<|zD 3<|ja (a+1) (by omega)<|zD 3<|dS [1,0,0] [] (fun(zz:Int×(List ah)×Cells)=>[(0,v),(1,zI a),(2,zI b),(3,.func (.func 184) ⟨[]⟩ ⟨[]⟩),(8,zI zz.1)]) (fun zz=>[.l zz.2.2]) (fun zz=>(a+1≤zz.1)∧ay v 2 79 cG zz.2.1 zz.2.2∧zz.2.1.Perm xs) (fun zz=>(b-zz.1).toNat) (⟨(a+1),xs,L⟩) ⟨by dsimp only;omega,ho,.refl _⟩ [0] ?_
 rintro⟨i,ys,L⟩ hI K1 bL rest
 dsimp only at hI
 have Xw:=hI.2.2.length_eq
 refine zD 7<|zJ 14 (i <b) (fun h1=>?_) fun h1=>?_
 ·
  refine zD 10<|dS [1,0,0,1,0,0,1,0,0] [K1] (fun(zz:Int×(List ah)×Cells)=>[(0,v),(1,zI a),(2,zI b),(3,.func (.func 184) ⟨[]⟩ ⟨[]⟩),(8,zI i),(9,zI zz.1)]) (fun zz=>[.l zz.2.2]) (fun zz=>(a≤zz.1∧zz.1≤i)∧ay v 2 79 cG zz.2.1 zz.2.2∧zz.2.1.Perm xs) (fun zz=>(zz.1-a).toNat) (⟨i,ys,L⟩) ⟨by dsimp only;omega,hI.2⟩ [0] ?_
  rintro⟨j,ys,L⟩ hJ K2 mb rest
  dsimp only at hJ
  have Xw:=hJ.2.2.length_eq
  refine zD 7<|js 3 (decide (j>a)) (fun h2=>?_) (fun h2=>?_)
  ·
   have me:=h2
   replace me:=of_decide_eq_true me
   refine zD 3 ?_
   obtain⟨x5,k8⟩:=zG ys (j.toNat) (by first|omega| (simp only[List.length_set];omega))
   refine pP j 2 hJ.2.1 k8 (Int.toNat_of_nonneg (show 0≤j∧j <((ys).length:Int) from (by first|omega| (simp only[List.length_set];omega))).1).symm (fun nQ agW=>?_)
   refine oH 0 [0] L (fun s _ hZ=>cw hJ.2.1 agW hZ k8)<|zD 2<|ja (j-1) (by omega) ?_
   obtain⟨nT,iO⟩:=zG ys ((j-1).toNat) (by first|omega| (simp only[List.length_set];omega))
   refine pP (j-1) 2 hJ.2.1 iO (Int.toNat_of_nonneg (show 0≤(j-1)∧(j-1) <((ys).length:Int) from (by first|omega| (simp only[List.length_set];omega))).1).symm (fun b30 UR=>?_)
   refine oH 0 [0] L (fun s _ hZ=>cw hJ.2.1 UR hZ iO)<|aS 14 fun q9 ri p8=>jp (vs:=[.agg ⟨[zI x5.n,zI x5.l]⟩,.agg ⟨[zI nT.n,zI nT.l]⟩]) [] [] (fun aH hs hZ=>(aqp (x:=x5) (y:=nT)))<|ez p8 [0]<|zD 3<|zJ 34 ((aa8 x5 nT) <0) (fun h4=>?_) fun h4=>?_
   ·
    refine zD 9<|ja (j-1) (by omega)<|zD 2<|ja (j-1) (by omega) ?_
    obtain⟨xo,Ed⟩:=zG ys ((j-1).toNat) (by first|omega| (simp only[List.length_set];omega))
    refine pP (j-1) 2 hJ.2.1 Ed (Int.toNat_of_nonneg (show 0≤(j-1)∧(j-1) <((ys).length:Int) from (by first|omega| (simp only[List.length_set];omega))).1).symm (fun b45 agV=>?_)
    refine oH 0 [0] L (fun s _ hZ=>cw hJ.2.1 agV hZ Ed)<|zD 2 ?_
    obtain⟨IF,Ec⟩:=zG ys (j.toNat) (by first|omega| (simp only[List.length_set];omega))
    refine pP j 2 hJ.2.1 Ec (Int.toNat_of_nonneg (show 0≤j∧j <((ys).length:Int) from (by first|omega| (simp only[List.length_set];omega))).1).symm (fun b49 agS=>?_)
    refine oH 0 [0] L (fun s _ hZ=>cw hJ.2.1 agS hZ Ec) ?_
    obtain⟨x51,Eb⟩:=zG ys (j.toNat) (by first|omega| (simp only[List.length_set];omega))
    refine pP j 2 hJ.2.1 Eb (Int.toNat_of_nonneg (show 0≤j∧j <((ys).length:Int) from (by first|omega| (simp only[List.length_set];omega))).1).symm (fun b51 agR=>?_)
    refine aS 15 fun rY sb qE=>So 0 0 [zI xo.n,zI xo.l] (⟨xo.n,xo.l⟩:ah) hJ.2.1 agR Eb rfl rfl (Nat.le_of_ble_eq_true rfl) fun L6 ho7=>fS qE [] ?_
    obtain⟨x52,vy⟩:=zG ((ys.set j.toNat (⟨xo.n,xo.l⟩:ah))) ((j-1).toNat) (by first|omega| (simp only[List.length_set];omega))
    refine pP (j-1) 2 ho7 vy (Int.toNat_of_nonneg (show 0≤(j-1)∧(j-1) <(((ys.set j.toNat (⟨xo.n,xo.l⟩:ah))).length:Int) from (by first|omega| (simp only[List.length_set];omega))).1).symm (fun b52 agQ=>?_)
    refine aS 17 fun Bo Bu Cc=>So 0 0 [zI IF.n,zI IF.l] (⟨IF.n,IF.l⟩:ah) ho7 agQ vy rfl rfl (Nat.le_of_ble_eq_true rfl) fun L9 agh=>fT Cc<|zD 3<|ja (j-1) (by omega)<|zD 2<|bJ mb (⟨(j-1),((ys.set j.toNat (⟨xo.n,xo.l⟩:ah)).set ((j-1).toNat) (⟨IF.n,IF.l⟩:ah)),L9⟩) ⟨by dsimp only;omega,agh,(nj Ec Ed).trans hJ.2.2⟩ (by dsimp only;omega) [0] (Sub.refl _)
   refine zD 4<|ja (i+1) (by omega)<|zD 2<|bJ bL (⟨(i+1),ys,L⟩) ⟨by dsimp only;omega,hJ.2⟩ (by dsimp only;omega) [0] (Sub.refl _)
  have me:=h2
  replace me:=of_decide_eq_false me
  refine zD 18<|ja (i+1) (by omega)<|zD 2<|bJ bL (⟨(i+1),ys,L⟩) ⟨by dsimp only;omega,hJ.2⟩ (by dsimp only;omega) [0] (Sub.refl _)
 refine zD 2<|zR (.tuple ⟨[]⟩) [] [0] L ⟨ys,hI.2.2,hI.2.1⟩
theorem aQA{v:Value}{xs:List ah}{L:Cells}{lim:Int}(ho:ay v 2 79 cG xs L)(hN:xs.length≤12):dR zT 237 [v,zI 0,zI (xs.length:Int),zI lim,.func (.func 184) ⟨[]⟩ ⟨[]⟩] ro L (fun r Y=>Oe v xs Y):=by
 refine zC [.l L]<|zD 9<|dS [1,1,0,0] [] (fun(zz:Nat)=>[(0,v),(1,zI 0),(2,zI (xs.length:Int)),(3,zI lim),(4,.func (.func 184) ⟨[]⟩ ⟨[]⟩),(10,.bool true),(11,.bool true)]) (fun zz=>[.l L]) (fun zz=>True) (fun zz=>zz) 0 trivial [0] ?_
 rintro z hI K1 bL rest
 refine zD 5<|ja ((xs.length:Int)-0) (by omega)<|zD 8<|zJ 25 (((xs.length:Int)-0)≤12) (fun h1=>?_) fun h1=>?_
 ·
  refine zD 7<|jc (vs:=[v,zI 0,zI (xs.length:Int),.func (.func 184) ⟨[]⟩ ⟨[]⟩]) [0] (aQC ho (by omega) (by omega)) ?_
  rintro azX Y30 ⟨aIo,auv,B4⟩
  refine zD 2<|zR (.tuple ⟨[]⟩) [] [0] Y30 ⟨_,auv,B4⟩
 exfalso;omega
theorem ahT{v:Value}{xs:List ah}{L:Cells}(ho:ay v 2 79 cG xs L)(hN:xs.length≤12):dR zT 210 [v,.func (.func 184) ⟨[]⟩ ⟨[]⟩] ro L (fun r Y=>Oe v xs Y):=by
 refine zC [.l L]<|zD 3<|B0 ho<|zD 6<|je (zU (xs.length:Int)) (aca (by omega))<|jp (vs:=[zU (xs.length:Int)]) [] [] (fun aH hs hZ=>(awt (by omega)))<|zD 1<|jc (vs:=[v,zI 0,zI (xs.length:Int),zI (aab xs.length),.func (.func 184) ⟨[]⟩ ⟨[]⟩]) [0] (aQA ho (by omega)) ?_
 rintro azY Y13 ⟨aIq,aaw,UA⟩
 refine zD 1<|zR (.tuple ⟨[]⟩) [] [0] Y13 ⟨_,aaw,UA⟩
theorem aEU{v:Value}{xs:List an}{L:Cells}(ho:ay v 3 158 cH xs L)(hN:xs.length≤1):dR zT 212 [v,zI 0,zI (xs.length:Int),.func (.func 130) ⟨[]⟩ ⟨[]⟩] ro L (fun r Y=>ay v 3 158 cH xs Y):=by
 refine zC [.l L]<|zD 7<|dS [1,0,0] [] (fun(zz:Nat)=>[(0,v),(1,zI 0),(2,zI (xs.length:Int)),(3,.func (.func 130) ⟨[]⟩ ⟨[]⟩),(8,zI (0+1))]) (fun zz=>[.l L]) (fun zz=>True) (fun zz=>zz) 0 trivial [0] ?_
 rintro z hI K1 bL rest
 refine zD 7<|zJ 14 ((0+1) <(xs.length:Int)) (fun h1=>?_) fun h1=>?_
 ·
  exfalso;omega
 refine zD 2<|zR (.tuple ⟨[]⟩) [] [0] L ho
theorem aEP{v:Value}{xs:List an}{L:Cells}{lim:Int}(ho:ay v 3 158 cH xs L)(hN:xs.length≤1):dR zT 182 [v,zI 0,zI (xs.length:Int),zI lim,.func (.func 130) ⟨[]⟩ ⟨[]⟩] ro L (fun r Y=>ay v 3 158 cH xs Y):=by
 refine zC [.l L]<|zD 9<|dS [1,1,0,0] [] (fun(zz:Nat)=>[(0,v),(1,zI 0),(2,zI (xs.length:Int)),(3,zI lim),(4,.func (.func 130) ⟨[]⟩ ⟨[]⟩),(10,.bool true),(11,.bool true)]) (fun zz=>[.l L]) (fun zz=>True) (fun zz=>zz) 0 trivial [0] ?_
 rintro z hI K1 bL rest
 refine zD 5<|ja ((xs.length:Int)-0) (by omega)<|zD 8<|zJ 25 (((xs.length:Int)-0)≤12) (fun h1=>?_) fun h1=>?_
 ·
  refine zD 7<|jc (vs:=[v,zI 0,zI (xs.length:Int),.func (.func 130) ⟨[]⟩ ⟨[]⟩]) [0] (aEU ho (by omega)) ?_
  rintro azX Y30 B4
  refine zD 2<|zR (.tuple ⟨[]⟩) [] [0] Y30 B4
 exfalso;omega
theorem awr{v:Value}{xs:List an}{L:Cells}(ho:ay v 3 158 cH xs L)(hN:xs.length≤1):dR zT 129 [v,.func (.func 130) ⟨[]⟩ ⟨[]⟩] ro L (fun r Y=>ay v 3 158 cH xs Y):=by
 refine zC [.l L]<|zD 3<|B0 ho<|zD 6<|je (zU (xs.length:Int)) (aca (by omega))<|jp (vs:=[zU (xs.length:Int)]) [] [] (fun aH hs hZ=>(awt (by omega)))<|zD 1<|jc (vs:=[v,zI 0,zI (xs.length:Int),zI (aab xs.length),.func (.func 130) ⟨[]⟩ ⟨[]⟩]) [0] (aEP ho (by omega)) ?_
 rintro azY Y13 UA
 refine zD 1<|zR (.tuple ⟨[]⟩) [] [0] Y13 UA
theorem ahX{v:Value}{xs:List an}{L:Cells}(ho:ay v 3 158 cH xs L)(hN:xs.length≤1):dR zT 131 [v] ro L (fun r Y=>v=r∧L=Y):=by
 refine zC [.l L]<|zD 8<|B0 ho<|zD 2<|zJ 8 ((xs.length:Int) <2) (fun h1=>?_) fun h1=>?_
 ·
  refine zD 7<|zR (v) [] [0] L ⟨rfl,rfl⟩
 exfalso;omega
theorem X9{v:Value}{xs:List an}(hl:bI ro v 3 cH xs)(hN:xs.length≤1):dR zT 101 [v] ro [] (fun r Y=>ay r 3 158 cH xs Y):=by
 obtain⟨fu,ry,rq,eI,rfl,tx,lv,mj⟩:=hl
 refine zE<|zD 7<|jc (vs:=[.slice fu xs.length eI]) [] (aQF (show bI _ _ _ _ _ from ⟨fu,ry,rq,eI,rfl,tx,lv,mj⟩) (by first|omega| (simp only[List.length_set,zM];omega))) ?_
 rintro v5 L5 ho5
 obtain⟨va5,vc5,he5⟩:=ho5.form
 subst he5
 refine zD 5<|jc (vs:=[(.slice va5 (xs).length vc5),.func (.func 130) ⟨[]⟩ ⟨[]⟩]) [0] (awr ho5 (by omega)) ?_
 rintro rv7 Y7 ho7
 refine zD 4<|jc (vs:=[(.slice va5 (xs).length vc5)]) [0] (ahX ho7 (by omega)) ?_
 rintro _ _ ⟨rfl,rfl⟩
 refine zD 3<|zR ((.slice va5 (xs).length vc5)) [] [0] Y7 ho7
theorem MV.put{F:List (an×Value)}{g:an→an}(h:MV Z F g){k:an}{v:Value}(hv:∀aI,Knows aI Z2→bI aI v 3 cH [g k]):MV (Z++Z2) (lV k v F) g:=by
 have h1:∀x∈lV k v F,x=(k,v)∨x∈F:=fun x hx=>by
  unfold lV at hx
  split at hx
  ·rw[EL] at hx
   obtain⟨i,hi⟩:=List.getElem?_of_mem hx
   rw[List.getElem?_set] at hi
   split at hi
   ·split at hi
    ·cases hi;exact .inl rfl
    cases hi
   exact .inr (zL hi)
  rcases List.mem_append.1 hx with h|h
  ·exact .inr h
  exact .inl (List.mem_singleton.1 h)
 intro aI hr x hx
 rcases h1 x hx with rfl|hx
 ·exact hv aI hr.right
 exact h aI hr.left x hx
theorem O1[DecidableEq κ]{k x:κ}{v:Value}{F:List (κ×Value)}(h:x=k∨x∈F.map (·.1)):x∈(lV k v F).map (·.1):=by
 unfold lV
 split
 ·rename_i i u hf
  have yN:=(qg hf).2
  rw[Nat.sub_zero] at yN
  have hs:((F.set i (k,v)).map (·.1))=F.map (·.1):=by
   rw[List.map_set]
   refine List.ext_getElem? fun j=>?_
   rw[List.getElem?_set]
   split
   ·rename_i hj;subst hj;simp[yN,(List.getElem?_eq_some_iff.1 yN).1,(List.getElem?_eq_some_iff.1 yN).2]
   rfl
  rw[EL,hs]
  rcases h with rfl|h
  ·exact List.mem_map_of_mem (f:=(·.1)) (zL yN)
  exact h
 rw[List.map_append]
 rcases h with rfl|h
 ·exact List.mem_append_right _ (by simp)
 exact List.mem_append_left _ h
def Seen(es:Array MapEntry)(seen:List Nat)(F:List (an×Value)):Prop:=∀e∈es.toList,e∈cI es seen∨∃k,e.key=oF k∧k∈F.map (·.1)
theorem Seen.start{es:Array MapEntry}{F:List (an×Value)}:Seen es [] F:=fun e he=> .inl (by rw[BX];exact he)
theorem Seen.step{es:Array MapEntry}{F0 F:List (an×Value)}(h:Seen es seen F)(hE:sY oF F0 es ck){e:MapEntry}(he:e∈cI es seen){k:an}(hk:e.key=oF k){v:Value}:Seen es (seen++[e.born]) (lV k v F):=fun x hx=>by
 rcases h x hx with h1| ⟨q,h1,h2⟩
 ·rcases T6 hE he h1 with rfl|h2
  ·exact .inr ⟨k,hk,O1 (.inl rfl)⟩
  exact .inl h2
 exact .inr ⟨q,h1,O1 (.inr h2)⟩
theorem al6{a b:an}(h:oF a=oF b):a=b:=by
 rcases a with ⟨x,y,z⟩;rcases b with ⟨d,e,f⟩
 simp only[oF,cH,Value.agg.injEq,Array.mk.injEq,List.cons.injEq,Value.int.injEq] at h
 simp[h.1.2,h.2.1.2,h.2.2.1.2]
theorem Seen.fin{es:Array MapEntry}{F0 F:List (an×Value)}(h:Seen es seen F)(hl:cI es seen=[])(hE:sY oF F0 es ck){k:an}(hk:k∈F0.map (·.1)):k∈F.map (·.1):=by
 obtain⟨⟨k',v⟩,h1,rfl⟩:=List.mem_map.1 hk
 have:(oF k',v)∈es.toList.map (fun e=>(e.key,e.val)):=by rw[hE.1];exact List.mem_map_of_mem (f:=fun x:an×Value=>(oF x.1,x.2)) h1
 obtain⟨e,h2,h3⟩:=List.mem_map.1 this
 simp only[Prod.mk.injEq] at h3
 rcases h e h2 with h4| ⟨q,h4,h5⟩
 ·rw[hl] at h4;cases h4
 have:=al6 (h3.1.symm.trans h4);subst this;exact h5
structure Sc(ro:Nat→Option Obj)(r:Nat)(H:List an)(g:an→an)(es:Array MapEntry)(ck:Nat)(F:List (an×Value)):Prop where
 m:ro r=some (.map es ck)
 e:sY oF F es ck
 k:F.map (·.1)=H
 v:∀x∈F,bI ro x.2 3 cH [g x.1]
theorem Gh{a x:α}(h: [a][j]?=some x):x=a∧j=0:=by
 cases j with
 |zero=>simp at h;exact⟨h.symm,rfl⟩
 |succ j=>simp at h
theorem aqn{Bm:Array MapEntry}{F1:List (an×Value)}{r2 ck2:Nat}{Es:Array MapEntry}{F2:List (an×Value)}{H:List an}{g:an→an}(Iw:Sc ro r1 H id Bm IC F1)(hP2:Sc ro r2 H g Es ck2 F2):dR zT 179 [(.map (some r1)),(.map (some r2))] ro [] (fun r Y=>∃rm F LM Z,r= .map (some rm)∧Y=LM++Z∧jJ rm oF F LM∧(∀h∈H,h∈F.map (·.1))∧MV Z F g):=by
 refine zE<|zD 6<|jmk oF fun FU L11 ago=>zD 6<|jmR Iw.m fun r13=>jg 0 [.b r13 (uo r1 IC [])]<|zD 2<|oR<|dS [1,1,0,1,0,0] [] (fun(zz:(List Nat)×(List (an×Value))×Cells×Cells)=>[(1,(.map (some r2))),(4,(.map none)),(5,(.map (some FU))),(13,zP r13)]) (fun(zz:(List Nat)×(List (an×Value))×Cells×Cells)=>[.b r13 (uo r1 IC zz.1),.l zz.2.2.1,.l zz.2.2.2]) (fun(zz:(List Nat)×(List (an×Value))×Cells×Cells)=>jJ FU oF zz.2.1 zz.2.2.1∧Seen Bm zz.1 zz.2.1∧MV zz.2.2.2 zz.2.1 g) (fun(zz:(List Nat)×(List (an×Value))×Cells×Cells)=>(cI Bm zz.1).length) (⟨[],[],L11,[]⟩) ⟨ago,Seen.start,fun _ _ _ h=>(by cases h)⟩ [1,2,0] ?_
 rintro⟨seen,F,LM,Z⟩ hI K1 bL rest
 dsimp only at hI
 refine zD 2<|jmN (it:=r13) (kv:=oF) (seen:=seen) 0 Iw.m Iw.e (fun Oy v14 NR aDA uJ amX aMB=>?_) (fun aL2=>?_)
 ·
  have hkH:Oy∈H:=by rw[←Iw.k];exact List.mem_map_of_mem (f:=(·.1)) aDA
  have hvv:bI ro v14 3 cH [Oy]:=Iw.v _ aDA
  obtain⟨Ml,qvb,qvo,Be,rfl,qvk,PC,PB⟩:=hvv
  refine jg 0 [.b r13 (uo r1 IC (seen++[NR.born]))]<|zD 8<|jmE (it:=r13) 0 Iw.m Iw.e uJ amX aMB<|jg 0 [.b r13 (uo r1 IC (seen++[NR.born]))]<|zD 2<|jn fun b6=>jd 15 [0]<|oR<|dS [1,1,0,1,0,0,1,1,0,1,1,0,1,0,0] [K1] (fun(zz:Nat×Value×Cells)=>[(1,(.map (some r2))),(4,(.map none)),(5,(.map (some FU))),(6,zP b6),(8,zz.2.1),(13,zP r13),(19,.slice Ml ([Oy].length) Be),(20,zI ([Oy].length:Int)),(21,zI (zz.1:Int))]) (fun zz=>[.l zz.2.2,.b b6 (.cells ⟨[zI Oy.h,zI Oy.n,zI Oy.l]⟩ 158 (0,0)),.b r13 (uo r1 IC (seen++[NR.born])),.l LM,.l Z]) (fun zz=>zz.1≤[Oy].length∧ay zz.2.1 3 158 cH ([g Oy].take zz.1) zz.2.2) (fun zz=>[Oy].length-zz.1) (⟨0,zS,[]⟩) ⟨by simp,ay.nil _ _ _⟩ (zN 0 5) ?_
  rintro⟨i,vO,LO⟩ hJ K2 mb rest
  dsimp only at hJ
  have SB: [Oy].length=1:=rfl
  refine zD 5<|zJ 22 ((i:Int) <([Oy].length:Int)) (fun h1=>?_) fun h1=>?_
  ·
   refine zD 6 ?_
   obtain⟨uP,sJ⟩:=zG ([Oy]) i
   refine iB Be 3 PC sJ<|jl 0 (PB _ _ sJ)<|jn fun rX=>jd 2 [0] ?_
   obtain⟨hxe,hj0⟩:=Gh sJ
   refine jd 4 [0]<|jlu (kv:=oF) (F:=F2) (r:=r2) (K:=158) uP (zS) false [] [] Dp (fun s he _=>⟨_,_,he _ _ (.inl hP2.m),hP2.e⟩) ?_
   obtain⟨w28,aMn,auO⟩:=Xf (k:=uP) (F:=F2) (by rw[hP2.k,hxe];exact hkH)
   have hww:bI ro w28 3 cH [g uP]:=hP2.v _ auO
   obtain⟨Tx,qwb,qwo,Mk,rfl,qwk,qwh,qwl⟩:=hww
   refine jw 28 (.slice Tx ([g uP].length) Mk) (show Qn (zS) false uP F2=_ from by simp only[Qn,aMn];rfl) ?_
   refine iC (sz:=3) (ps:=([g Oy].take i)) (qs:=[g uP]) (enc:=cH) (w:= .slice Tx ([g uP].length) Mk) [1] [] [] (hJ.2) (fun s he _=>⟨Tx,qwb,qwo,Mk,rfl,qwh,fun i p hp=>(qwl i p hp).ext he⟩) (fun p _=>ai rfl) (by simp only[List.length_take,List.length_cons,List.length_nil];omega) (fun v29 L29 GZ=>?_)
   obtain⟨acy,acr,agJ⟩:=GZ.form
   subst agJ
   refine zD 3<|ja ((i:Int)+1) (by omega)<|zD 2<|bJ mb (⟨i+1,(.slice acy ((([g Oy].take i)++[g uP])).length acr),L29⟩) ⟨by dsimp only;omega,by have:=GZ;rw[hj0] at this ⊢;rw[hxe] at this;exact this⟩ (by dsimp only;omega) [0,2,3,4,5] (Sub.refl _)
  refine jd 6 [1]<|aS 3 fun q9 ri p8=>OA (vs:=[vO]) [] [0] LO (fun aH hs hZ=>X9 (hJ.2.kQ hZ) (by simp only[List.length_take,List.length_cons,List.length_nil];omega)) ?_
  rintro v34 L34 aNg
  refine ez p8 (zN 1 5)<|aS 4 fun rY sb qE=>jmu (kv:=oF) (F:=F) (r:=FU) (K:=158) 4 Oy (v34) Dp hI.1 fun Lm4 hm4=>fT qE<|zD 1<|M5 bL (⟨(seen++[NR.born]),_,Lm4,Z++L34⟩) ⟨hm4,hI.2.1.step Iw.e uJ amX,hI.2.2.put fun aI hk=>(by have:=aNg;rw[show ([g Oy].take i)=[g Oy] from List.take_of_length_le (by simp;omega)] at this;exact this.kQ hk)⟩ (Gx uJ) [[4],[0],[5,1]] (Sub.refl _)
 refine jg 0 [.b r13 (uo r1 IC seen)]<|zD 11<|zR ((.map (some FU))) [] [1,2] (LM++Z) ⟨FU,F,LM,Z,rfl,rfl,hI.1,fun h hh=>hI.2.1.fin aL2 Iw.e (by rw[Iw.k];exact hh),hI.2.2⟩
theorem aeF{kv:κ→Value}{F:List (κ×Value)}{es:Array MapEntry}(h:sY kv F es ck):es.toList.length=F.length:=by
 have:=congrArg List.length h.1
 simpa using this
theorem ahZ{Bm:Array MapEntry}{F1:List (an×Value)}{H:List an}{g:an→an}(Iw:Sc ro r1 H g Bm IC F1)(hn:H.length≤8)(hS:∀x∈F1,(g x.1).h=0∨(g x.1).h=1):dR zT 178 [(.map (some r1)),zI 2] ro [] (fun r Y=>∃a n c,r= .agg ⟨[.slice a n c]⟩):=by
 refine zE<|zD 2<|jn fun b4=>zD 4<|jmS (E:=80) (z:= zS) fun zi=>jg 0 [.b zi (.cells ⟨[zS,zS]⟩ 80 (0,0))]<|zD 1<|jn fun b5=>jd 6 [0]<|jmR Iw.m fun ZE=>jg 0 [.b ZE (uo r1 IC [])]<|zD 2<|oR<|oR<|dS [1,1,0,1,0,0] [] (fun(zz:(List Nat)×Value×Cells×(List ah)×Value×Cells×(List ah))=>[(4,zP b4),(5,zP b5),(16,zP ZE)]) (fun zz=>[.b ZE (uo r1 IC zz.1),.b zi (.cells ⟨[zz.2.1,zz.2.2.2.2.1]⟩ 80 (0,0)),.l zz.2.2.1,.l zz.2.2.2.2.2.1,.b b5 (.cells ⟨[.slice (some ⟨zi,0,none⟩) 2 2]⟩ 27 (0,0)),.b b4 (.cells ⟨[zS]⟩ 27 (0,0))]) (fun zz=>zz.2.2.2.1.length+zz.2.2.2.2.2.2.length+(cI Bm zz.1).length≤8∧ay zz.2.1 2 79 cG zz.2.2.2.1 zz.2.2.1∧ay zz.2.2.2.2.1 2 79 cG zz.2.2.2.2.2.2 zz.2.2.2.2.2.1) (fun zz=>(cI Bm zz.1).length) (⟨[],zS,[],[],zS,[],[]⟩) ⟨by rw[BX,aeF Iw.e];have:=congrArg List.length Iw.k;simp at this ⊢;omega,ay.nil _ _ _,ay.nil _ _ _⟩ [2,4,1,0,3,5] ?_
 rintro⟨seen,w0,L0,p0,w1,L1,p1⟩ hI K1 bL rest
 dsimp only at hI
 refine zD 2<|jmN (it:=ZE) (kv:=oF) (seen:=seen) 0 Iw.m Iw.e (fun k17 v17 e17 am1 I5 aaF aMz=>?_) (fun aYm=>?_)
 ·
  have hvv:bI ro v17 3 cH [g k17]:=Iw.v _ am1
  obtain⟨Ml,qvb,qvo,Be,rfl,qvk,PC,PB⟩:=hvv
  have hsg:(g k17).h=0∨(g k17).h=1:=hS _ am1
  have cK:=Gx I5
  refine jg 0 [.b ZE (uo r1 IC (seen++[e17.born]))]<|zD 8<|jmE (it:=ZE) 0 Iw.m Iw.e I5 aaF aMz<|jg 0 [.b ZE (uo r1 IC (seen++[e17.born]))]<|zD 10<|dS [1,1,0,1,0,0,1,1,0,1,1,0,0] [K1] (fun(zz:Nat×Value×Cells×(List ah)×Value×Cells×(List ah))=>[(4,zP b4),(5,zP b5),(16,zP ZE),(21,.slice Ml ([g k17].length) Be),(22,zI ([g k17].length:Int)),(23,zI (zz.1:Int))]) (fun zz=>[.b ZE (uo r1 IC (seen++[e17.born])),.b zi (.cells ⟨[zz.2.1,zz.2.2.2.2.1]⟩ 80 (0,0)),.l zz.2.2.1,.l zz.2.2.2.2.2.1,.b b5 (.cells ⟨[.slice (some ⟨zi,0,none⟩) 2 2]⟩ 27 (0,0)),.b b4 (.cells ⟨[zS]⟩ 27 (0,0))]) (fun zz=>(zz.1≤1∧zz.2.2.2.1.length+zz.2.2.2.2.2.2.length+(cI Bm (seen++[e17.born])).length+(1-zz.1)≤8)∧ay zz.2.1 2 79 cG zz.2.2.2.1 zz.2.2.1∧ay zz.2.2.2.2.1 2 79 cG zz.2.2.2.2.2.2 zz.2.2.2.2.2.1) (fun zz=>1-zz.1) (⟨0,w0,L0,p0,w1,L1,p1⟩) ⟨by dsimp only;omega,hI.2⟩ (zN 0 6) ?_
  rintro⟨i,w0,L0,p0,w1,L1,p1⟩ hJ K2 mb rest
  dsimp only at hJ
  have SB: [g k17].length=1:=rfl
  refine zD 5<|zJ 24 ((i:Int) <([g k17].length:Int)) (fun h1=>?_) fun h1=>?_
  ·
   refine zD 6 ?_
   obtain⟨x5,k8⟩:=zG ([g k17]) i
   refine iB Be 3 PC k8<|jl 0 (PB _ _ k8) ?_
   obtain⟨hxe,hi0⟩:=Gh k8;rw[←hxe] at hsg;obtain⟨xh,xn,xl⟩:=x5;dsimp only at hsg;rcases hsg with rfl|rfl
   ·
    refine jn fun b9=>jd 11 [0,5,0,5,0]<|jd 4 [2,0]<|aS 12 fun q9 ri p8=>jn fun b39=>ez p8 (zN 1 7)<|aS 13 fun rY sb qE=>iC (sz:=2) (ps:=p0) (qs:=[(⟨xn,xl⟩:ah)]) (enc:=cG) (w:= .slice (some ⟨b39,0,none⟩) 1 1) [4] [0] [(b39,.cells ⟨([(⟨xn,xl⟩:ah)].map cG).flatten⟩ 79 (0,0))] (hJ.2.1) (fun s _ hZ=>bN [(⟨xn,xl⟩:ah)] (hZ _ (.head _)) (by intro p hp;rfl)) (fun p _=>ai rfl) (by simp only[List.length_cons,List.length_nil];omega) (fun v40 L40 GX=>?_)
    obtain⟨aro,arc,avs⟩:=GX.form
    subst avs
    refine fS qE [[2],[6],[2],[6]]<|zD 1<|aS 15 fun Bo Bu Cc=>jd 1 [4]<|fT Cc<|zD 2<|ja ((i:Int)+1) (by omega)<|zD 2<|bJ mb (⟨i+1,(.slice aro ((p0++[(⟨xn,xl⟩:ah)])).length arc),L40,(p0++[(⟨xn,xl⟩:ah)]),w1,L1,p1⟩) ⟨by simp only[zM];omega,GX,hJ.2.2⟩ (by dsimp only;omega) [3,4,0,5,6,7] (Sub.refl _)
   refine jn fun b9=>jd 11 [0,5,0,5,0]<|jd 4 [2,0]<|aS 12 fun abZ acJ hL6=>jn fun b39=>ez hL6 (zN 1 7)<|aS 13 fun aku akR Ra=>iC (sz:=2) (ps:=p1) (qs:=[(⟨xn,xl⟩:ah)]) (enc:=cG) (w:= .slice (some ⟨b39,0,none⟩) 1 1) [5] [0] [(b39,.cells ⟨([(⟨xn,xl⟩:ah)].map cG).flatten⟩ 79 (0,0))] (hJ.2.2) (fun s _ hZ=>bN [(⟨xn,xl⟩:ah)] (hZ _ (.head _)) (by intro p hp;rfl)) (fun p _=>ai rfl) (by simp only[List.length_cons,List.length_nil];omega) (fun v40 L40 GX=>?_)
   obtain⟨aro,arc,avs⟩:=GX.form
   subst avs
   refine fS Ra [[2],[6],[2],[6]]<|zD 1<|aS 15 fun YT Zf hL8=>jd 1 [4]<|fT hL8<|zD 2<|ja ((i:Int)+1) (by omega)<|zD 2<|bJ mb (⟨i+1,w0,L0,p0,(.slice aro ((p1++[(⟨xn,xl⟩:ah)])).length arc),L40,(p1++[(⟨xn,xl⟩:ah)])⟩) ⟨by simp only[zM];omega,hJ.2.1,GX⟩ (by dsimp only;omega) [3,4,5,0,6,7] (Sub.refl _)
  refine zD 2<|bJ bL (⟨(seen++[e17.born]),w0,L0,p0,w1,L1,p1⟩) ⟨by dsimp only;omega,hJ.2⟩ cK (zN 0 6) (Sub.refl _)
 refine jg 0 [.b ZE (uo r1 IC seen)]<|jd 14 [4]<|dS [1,1,1,0,1,0,0] [] (fun(zz:Nat×Value×Cells×(List ah)×Value×Cells×(List ah))=>[(4,zP b4),(5,zP b5),(44,.slice (some ⟨zi,0,none⟩) 2 2),(45,zI 2),(46,zI (zz.1:Int))]) (fun zz=>[.b zi (.cells ⟨[zz.2.1,zz.2.2.2.2.1]⟩ 80 (0,0)),.l zz.2.2.1,.l zz.2.2.2.2.2.1,.b b5 (.cells ⟨[.slice (some ⟨zi,0,none⟩) 2 2]⟩ 27 (0,0)),.b b4 (.cells ⟨[zS]⟩ 27 (0,0))]) (fun zz=>(zz.1≤2∧zz.2.2.2.1.length≤8∧zz.2.2.2.2.2.2.length≤8)∧ay zz.2.1 2 79 cG zz.2.2.2.1 zz.2.2.1∧ay zz.2.2.2.2.1 2 79 cG zz.2.2.2.2.2.2 zz.2.2.2.2.2.1) (fun zz=>2-zz.1) (⟨0,w0,L0,p0,w1,L1,p1⟩) ⟨by dsimp only;omega,hI.2⟩ (zN 1 5) ?_
 rintro⟨k,w0,L0,p0,w1,L1,p1⟩ hQ K9 hK9 rest
 dsimp only at hQ
 refine zD 5<|zJ 47 ((k:Int) <2) (fun h8=>?_) fun h8=>?_
 ·
  refine zD 6 ?_
  rcases(show k=0∨k=1 by omega) with hk0|hk0
  ·
   refine jw 46 (zI 0) (show Value.int .i64 (k:Int)= zI 0 by rw[hk0];rfl) ?_
   refine jd 6 [0]<|jc (vs:=[w0,.func (.func 184) ⟨[]⟩ ⟨[]⟩]) [1] (ahT hQ.2.1 (by omega)) ?_
   rintro aJW Y51 ⟨aqX,aur,auC⟩
   refine zD 5 ?_
   have hle:=aur.length_eq
   exact bJ hK9 (⟨1,w0,Y51,aqX,w1,L1,p1⟩) ⟨by dsimp only;omega,auC,hQ.2.2⟩ (by dsimp only;omega) [1,0,2,3,4] (Sub.refl _)
  refine jw 46 (zI 1) (show Value.int .i64 (k:Int)= zI 1 by rw[hk0];rfl) ?_
  refine jd 6 [0]<|jc (vs:=[w1,.func (.func 184) ⟨[]⟩ ⟨[]⟩]) [2] (ahT hQ.2.2 (by omega)) ?_
  rintro aJW Y51 ⟨aqX,aur,auC⟩
  refine zD 5 ?_
  have hle:=aur.length_eq
  exact bJ hK9 (⟨2,w0,L0,p0,w1,Y51,aqX⟩) ⟨by dsimp only;omega,hQ.2.1,auC⟩ (by dsimp only;omega) [1,2,0,3,4] (Sub.refl _)
 refine jd 8 [3,4]<|zR (.agg ⟨[.slice (some ⟨zi,0,none⟩) 2 2]⟩) [4] [] [] ⟨_,_,_,rfl⟩
structure VL where
 a:Option Addr
 n:Nat
 c:Nat
 ea:Option Addr
 en:Nat
 ec:Nat
 r:Nat
abbrev aiA(t:VL):List Value:=[.slice t.a t.n t.c,.slice t.ea t.en t.ec,.map (some t.r)]
structure TrD where
 ways:List Int
 g:an→an
def aRR(ro:Nat→Option Obj)(r:Nat)(H:List an)(g:an→an):Prop:=∃es ck F,ro r=some (.map es ck)∧sY oF F es ck∧(∀h∈H,h∈F.map (·.1))∧∀y∈F,bI ro y.2 3 cH [g y.1]
def TrR(H:List an)(ro:Nat→Option Obj)(t:VL)(x:TrD):Prop:=bI ro (.slice t.a t.n t.c) 1 cz x.ways∧aRR ro t.r H x.g
def TrO(H:List an)(LL:Cells)(t:VL)(x:TrD):Prop:=∀aI,Knows aI LL→TrR H aI t x
abbrev anM(H:List an)(L:List TrD):(Nat→Option Obj)→Nat→List Value→Cells→Prop:=fun _ k vs LL=>∃x t,L[k]?=some x∧vs=[.agg ⟨aiA t⟩]∧TrO H LL t x
def arA(S:List (List ah))(l:List aN)(i:Nat):TrD:=⟨[(i:Int)],match l[i]? with
 |some c=>yA S c
 |none=>id⟩
def da(S:List (List ah)):List (List aN)→List TrD
 | []=>[⟨[],id⟩]
 |l::_=>(List.range l.length).map (arA S l)
theorem Jp{S:List (List ah)}{l:List aN}{c:aN}(h:l[i]?=some c):(da S [l])[i]?=some ⟨[(i:Int)],yA S c⟩:=by
 have hi:=(List.getElem?_eq_some_iff.1 h).1
 simp only[da,List.getElem?_map,List.getElem?_range hi,Option.map_some,arA,h]
structure xZ(ways:List (List aN)):Prop where
 one:ways.length≤1
 ok:∀l∈ways,(1≤l.length∧l.length≤3)∧∀c∈l,jb c
theorem aFo{c:aN}(h:jb c):1≤c.k∧c.k≤7:=by
 simp only[jb,List.mem_cons,List.not_mem_nil,or_false] at h
 rcases h with rfl|rfl|rfl|rfl|rfl<;>simp
theorem aqm{x:an}:∀(u:List (an×an)) (y:an),u.foldl (fun y p=>if x=p.1 then p.2 else y) y=y∨∃p∈u,u.foldl (fun y p=>if x=p.1 then p.2 else y) y=p.2
 | [],y=> .inl rfl
 |p::u,y=>by
  simp only[List.foldl_cons]
  rcases aqm (x:=x) u (if x=p.1 then p.2 else y) with h| ⟨q,hq,h⟩
  ·rw[h]
   split
   ·exact .inr ⟨p,by simp,rfl⟩
   exact .inl rfl
  exact .inr ⟨q,by simp[hq],h⟩
theorem awq{u:List (an×an)}{x:an}:gU u x=x∨∃p∈u,gU u x=p.2:=aqm u x
theorem aeu{S:List (List ah)}{c:aN}(hc:jb c){x:an}(hx:x.h=0∨x.h=1):(yA S c x).h=0∨(yA S c x).h=1:=by
 rcases awq (u:=awD S c) (x:=x) with h| ⟨p,hp,h⟩
 ·rw[yA,h];exact hx
 rw[yA,h]
 simp only[jb,List.mem_cons,List.not_mem_nil,or_false] at hc
 rcases hc with rfl|rfl|rfl|rfl|rfl<;>simp[awD,acD,JA,Ky,IM,mo] at hp
 ·obtain⟨_,_,_,_,_,rfl⟩:=hp;exact .inl rfl
 ·obtain⟨_,_,rfl⟩:=hp;exact .inl rfl
 ·obtain⟨_,_,_,_,_,rfl⟩:=hp;exact .inr rfl
 ·obtain⟨_,_,rfl⟩:=hp;exact .inr rfl
 obtain⟨_,_,rfl⟩:=hp;exact .inl rfl
theorem QJ{S:List (List ah)}(hO:eQ S){x:an}(hx:x∈bF S):x.h=0∨x.h=1:=by
 obtain⟨j,l,p,h1,_,_,rfl⟩:=EU.1 hx
 have:=hO.two
 simp only[mo];omega
theorem Sc.up{r:Nat}{H:List an}{g:an→an}{es:Array MapEntry}{F:List (an×Value)}(h:Sc ro r H g es ck F)(hs:Sub ro aI):Sc aI r H g es ck F:=⟨hs _ _ h.m,h.e,h.k,fun x hx=>(h.v x hx).up hs⟩
theorem aQD{v:Value}{S:List (List ah)}{c:aN}(hc:jb c)(hS:cS ro v S)(hO:eQ S):dR zT 176 [.agg ⟨[v]⟩,.agg ⟨kA c⟩] ro [] (fun r Y=>∃rm F LM Z,r= .tuple ⟨[.map (some rm),zI 0]⟩∧Y=LM++Z∧jJ rm oF F LM∧F.map (·.1)=bF S∧MV Z F (yA S c)):=by
 simp only[jb,List.mem_cons,List.not_mem_nil,or_false] at hc
 rcases hc with rfl|rfl|rfl|rfl|rfl
 ·exact aE2 hS hO
 ·exact aE1 hS hO
 ·exact aE0 hS hO
 ·exact aEZ hS hO
 exact aEY hS hO
def Jh(ro:Nat→Option Obj)(b:Nat)(S:List (List ah))(ways:List (List aN)):Prop:=∃vS vT vH fa fc,ro b=some (.cells ⟨[vS,vT,.slice fa 0 fc,vH]⟩ 195 (0,0))∧cS ro vS S∧nF ro vT ways∧bI ro vH 3 cH (bF S)
theorem Jh.up{S:List (List ah)}(h:Jh ro b S ways)(hs:Sub ro aI):Jh aI b S ways:=by
 obtain⟨vS,vT,vH,fa,fc,h1,h2,h3,h4⟩:=h
 exact⟨vS,vT,vH,fa,fc,hs _ _ h1,h2.up hs,h3.up hs,h4.up hs⟩
theorem aww{vS vT:Value}{fa:Option Addr}{fc:Nat}{S:List (List ah)}(hS:cS ro vS S)(hO:eQ S)(hT:nF ro vT ways)(hW:xZ ways):dR zT 126 [.agg ⟨[vS,vT,.slice fa 0 fc]⟩] ro [] (fun r Y=>∃b vH LH,r= .tuple ⟨[zP b,zI 0]⟩∧Y=(b,.cells ⟨[vS,vT,.slice fa 0 fc,vH]⟩ 195 (0,0))::LH∧ay vH 3 158 cH (bF S) LH):=by
 have xP:=hS
 obtain⟨gR,hs,e8⟩:=hS
 obtain⟨lX,TA,Ty,kX,rfl,Tz,Mp,Mo⟩:=hs
 obtain⟨iF,ht,eT⟩:=id hT
 obtain⟨eO,Ac,Aa,dP,rfl,Ab,rR,rQ⟩:=ht
 have Iq:=e8.len
 have Ei:=eT.len
 have I0:=hO.two
 have Az:=hW.one
 have Ot:∀(i:Nat) (p:c8),([]:List c8)[i]?=some p→cv ⟨ro,[]⟩ 0 (0+i*6) 6 (mB p):=fun _ _ h=>n6 h
 refine zE<|zD 2<|jn fun b1=>jd 8 [0]<|jp (vs:=[.agg ⟨[.slice lX gR.length kX]⟩]) [] [] (fun aH hs hZ=>awv (xP.up hs) hO)<|jd 17 [0]<|zJ 21 ((iF.length:Int)>3) (fun h1=>?_) fun h1=>?_
 ·
  exfalso;omega
 refine jd 11 [0]<|dS [1,1,1,0,1,0,0] [] (fun(zz:Nat)=>[(1,zP b1),(23,.slice eO iF.length dP),(24,zI (iF.length:Int)),(25,zI (zz:Int))]) (fun zz=>[.b b1 (.cells ⟨[.slice lX gR.length kX,.slice eO iF.length dP,.slice fa 0 fc]⟩ 31 (0,0))]) (fun zz=>zz≤iF.length) (fun zz=>iF.length-zz) 0 (by omega) [0] ?_
 rintro k hI K1 bL rest
 refine zD 5<|zJ 26 ((k:Int) <(iF.length:Int)) (fun h2=>?_) fun h2=>?_
 ·
  refine zD 6 ?_
  obtain⟨x27,IZ⟩:=zG iF k
  refine iB dP 1 rR IZ ?_
  obtain⟨l28,aNI,h28⟩:=eT.get IZ
  obtain auO:=hW.ok _ (zL aNI)
  obtain⟨aAF,aXt,aXr,asz,rfl,aXs,aKq,aKp⟩:=h28
  refine jl 0 (rQ _ _ IZ)<|jn fun b6=>jd 10 [0,0]<|zJ 32 ((l28.length:Int)=0) (fun h3=>?_) fun h3=>?_
  ·
   exfalso;omega
  refine jd 10 [0]<|zJ 36 ((l28.length:Int)>3) (fun h4=>?_) fun h4=>?_
  ·
   exfalso;omega
  refine jd 10 [0]<|dS [1,1,1,0,1,0,0,1,1,0,0,1,1,1,1,0,0] [K1] (fun(zz:Nat)=>[(1,zP b1),(23,.slice eO iF.length dP),(24,zI (iF.length:Int)),(25,zI (k:Int)),(38,.slice aAF l28.length asz),(39,zI (l28.length:Int)),(40,zI (zz:Int))]) (fun zz=>[.b b6 (.cells ⟨[.slice aAF l28.length asz]⟩ 87 (0,0)),.b b1 (.cells ⟨[.slice lX gR.length kX,.slice eO iF.length dP,.slice fa 0 fc]⟩ 31 (0,0))]) (fun zz=>zz≤l28.length) (fun zz=>l28.length-zz) 0 (by omega) [0,1] ?_
  rintro i hJ K2 mb rest
  refine zD 5<|zJ 41 ((i:Int) <(l28.length:Int)) (fun h5=>?_) fun h5=>?_
  ·
   refine zD 6 ?_
   obtain⟨x42,Um⟩:=zG l28 i
   refine iB asz 7 aKq Um<|jl 0 (aKp _ _ Um)<|jn fun b8=>jd 3 [0] ?_
   have XW:=aFo (auO.2 _ (zL Um))
   refine jd 3 [0]<|jp (vs:=[zI x42.k,zI 1,zI 7]) [] [] (fun aH hs hZ=>AG)<|zD 2<|js 47 (!(iy x42.k 1 7)) (fun h6=>?_) (fun h6=>?_)
   ·
    try simp only[zB] at h6
    exfalso;simp only[iy,Bool.and_eq_false_iff,decide_eq_false_iff_not] at h6;omega
   try simp only[zB] at h6
   refine zD 3<|ja ((i:Int)+1) (by omega)<|zD 2<|bJ mb (i+1) (by omega) (by omega) [1,2] (Sub.refl _)
  refine zD 3<|ja ((k:Int)+1) (by omega)<|zD 2<|bJ bL (k+1) (by omega) (by omega) [1] (Sub.refl _)
 refine jd 17 [0,0,0]<|aS 3 fun q9 ri p8=>jc (vs:=[.agg ⟨[.slice lX gR.length kX]⟩]) [] (Ya xP hO) ?_
 rintro v57 L57 amN
 obtain⟨akK,akI,agG⟩:=amN.form
 subst agG
 refine ez p8 [1]<|zD 1<|aS 5 fun rY sb qE=>jn fun b59=>ez qE [1,2]<|jd 11 [2]<|dS [1,1,1,1,1,1,0,1,0,0] [] (fun(zz:Nat)=>[(1,zP b1),(9,zP b59),(61,.slice fa 0 fc),(62,zI 0),(63,zI 0)]) (fun zz=>[.b b59 (.cells ⟨[.slice lX gR.length kX,.slice eO iF.length dP,.slice fa 0 fc,(.slice akK (bF S).length akI)]⟩ 195 (0,0)),.l L57,.b b1 (.cells ⟨[.slice lX gR.length kX,.slice eO iF.length dP,.slice fa 0 fc]⟩ 31 (0,0))]) (fun zz=>True) (fun zz=>zz) 0 trivial [0,1,2] ?_
 rintro z hQ K5 hK5 rest
 refine zD 14<|zR (.tuple ⟨[zP b59,zI 0]⟩) [] [0,1] ((b59,.cells ⟨[.slice lX gR.length kX,.slice eO iF.length dP,.slice fa 0 fc,(.slice akK (bF S).length akI)]⟩ 195 (0,0))::L57) ⟨_,_,_,rfl,rfl,amN⟩
structure abz(ro:Nat→Option Obj)(bl b b1 b2 b3:Nat):Prop where
 t:ro b1=some (.cells ⟨[zP b]⟩ 190 (0,0))
 y:ro b2=some (.cells ⟨[.func (.yield bl) #[] #[]]⟩ 269 (0,0))
 g:ro b3=some (.cells ⟨[.func (.func 174) ⟨[]⟩ ⟨[zP b1,zP b2,zP b3]⟩]⟩ 269 (0,0))
theorem abz.up(h:abz ro bl b b1 b2 b3)(hs:Sub ro aI):abz aI bl b b1 b2 b3:=⟨hs _ _ h.t,hs _ _ h.y,hs _ _ h.g⟩
theorem aEW{t:VL}{S:List (List ah)}(Iv:Jh ro b S ways):dD zT 175 [zP b,.agg ⟨[.slice t.a t.n t.c,.slice t.ea t.en t.ec,(.map (some t.r))]⟩] ro (.bool true):=by
 obtain⟨vS,vT,vH,fa,fc,gb,hS,hT,hHs⟩:=Iv
 have xP:=hS
 obtain⟨gR,hs,e8⟩:=hS
 obtain⟨lX,TA,Ty,kX,rfl,Tz,Mp,Mo⟩:=hs
 obtain⟨iF,ht,eT⟩:=id hT
 obtain⟨eO,Ac,Aa,dP,rfl,Ab,rR,rQ⟩:=ht
 have Iq:=e8.len
 have Ei:=eT.len
 have Ot:∀(i:Nat) (p:c8),([]:List c8)[i]?=some p→cv ⟨ro,[]⟩ 0 (0+i*6) 6 (mB p):=fun _ _ h=>n6 h
 refine zE<|zD 2<|jn fun b3=>zD 9<|jl (b:=b) (off:=0) (m:=4) (vs:=[.slice lX gR.length kX,.slice eO iF.length dP,.slice fa 0 fc,vH]) 2 ⟨_,_,_,.inl gb,rfl⟩<|zD 4<|dS [1,0,1,0,0] [] (fun(zz:Nat)=>[(3,zP b3),(11,.slice fa 0 fc),(12,zI 0),(13,zI 0)]) (fun zz=>[.b b3 (.cells ⟨[.slice t.a t.n t.c,.slice t.ea t.en t.ec,(.map (some t.r))]⟩ 199 (0,0))]) (fun zz=>True) (fun zz=>zz) 0 trivial [0] ?_
 rintro z hI K1 bL rest
 refine zD 12<|zX (.bool true) ⟨rfl,rfl⟩
theorem ahS:dR zT 127 [zP b] ro [] (fun r Y=>∃b1,r= .func (.func 173) ⟨[]⟩ ⟨[zP b1]⟩∧Y=[(b1,.cells ⟨[zP b]⟩ 190 (0,0))]):=by
 refine zE<|zD 2<|jn fun b1=>zD 8<|zR (.func (.func 173) ⟨[]⟩ ⟨[zP b1]⟩) [] [0] [(b1,.cells ⟨[zP b]⟩ 190 (0,0))] ⟨_,rfl,rfl⟩
theorem ahU{S:List (List ah)}{L:List TrD}{Inv:Nat→Cells→Prop}{t:VL}{x:TrD}{LL:Cells}(Iv:Jh ro b S ways)(hC:abz ro bl b b1 b2 b3)(hn:t.n=ways.length)(hx:L[k]?=some x) (hR:TrO (bF S) LL t x) (hB:Inv k B) (hy:YOK zT bl ro L.length (anM (bF S) L) Inv Stop):dR zT 174 [.agg ⟨[.slice t.a t.n t.c,.slice t.ea t.en t.ec,(.map (some t.r))]⟩,zP b1,zP b2,zP b3] ro (LL++B) (fun r Y=>∃c,r= .bool c∧(c=true→Inv (k+1) Y)∧(c=false→Stop Y)):=by
 have anh:=Iv
 obtain⟨vS,vT,vH,fa,fc,gb,hS,hT,hHs⟩:=Iv
 have xP:=hS
 obtain⟨gR,hs,e8⟩:=hS
 obtain⟨lX,TA,Ty,kX,rfl,Tz,Mp,Mo⟩:=hs
 obtain⟨iF,ht,eT⟩:=id hT
 obtain⟨eO,Ac,Aa,dP,rfl,Ab,rR,rQ⟩:=ht
 have Iq:=e8.len
 have Ei:=eT.len
 have Ot:∀(i:Nat) (p:c8),([]:List c8)[i]?=some p→cv ⟨ro,[]⟩ 0 (0+i*6) 6 (mB p):=fun _ _ h=>n6 h
 refine zC [.l LL,.l B]<|zD 2<|jn fun b4=>jd 13 [0]<|jl (b:=b1) (off:=0) (m:=1) (vs:=[zP b]) 0 ⟨_,_,_,.inl hC.t,rfl⟩<|zD 3<|jl (b:=b) (off:=0) (m:=4) (vs:=[.slice lX gR.length kX,.slice eO iF.length dP,.slice fa 0 fc,vH]) 1 ⟨_,_,_,.inl gb,rfl⟩<|zD 3<|zJ 21 ((t.n:Int)=(iF.length:Int)) (fun h1=>?_) fun h1=>?_
 ·
  refine zD 3<|jl (b:=b1) (off:=0) (m:=1) (vs:=[zP b]) 0 ⟨_,_,_,.inl hC.t,rfl⟩<|jd 1 [0]<|jp (vs:=[zP b,.agg ⟨[.slice t.a t.n t.c,.slice t.ea t.en t.ec,(.map (some t.r))]⟩]) [] [] (fun aH hs hZ=>aEW (t:=t) (anh.up hs))<|zD 2<|jl (b:=b2) (off:=0) (m:=1) (vs:=[(.func (.yield bl) #[] #[])]) 0 ⟨_,_,_,.inl hC.y,rfl⟩<|jd 1 [0]<|jyc [1,2] (hy k [.agg ⟨[.slice t.a t.n t.c,.slice t.ea t.en t.ec,(.map (some t.r))]⟩] LL B ro (List.getElem?_eq_some_iff.1 hx).1 ⟨x,t,hx,rfl,hR⟩ hB (Sub.refl _)) (Sub.refl _) ?_
  intro v29 Y29 aMb
  obtain⟨c29,rfl,aON,aOA⟩:=yb aMb
  refine zD 4<|zR (.bool c29) [] [0] Y29 ⟨_,rfl,aON,aOA⟩
 exfalso;omega
theorem aQz{S:List (List ah)}{l:List aN}{Inv:Nat→Cells→Prop}{ea:Option Addr}{r0:Nat}{es0:Array MapEntry}{F0:List (an×Value)}(Iv:Jh ro b S [l])(hO:eQ S)(hW:xZ [l])(hC:abz ro bl b b1 b2 b3)(hE:∀aI,Knows aI LE→cS aI (.slice ea en ec) S)(hE0:sY oF F0 es0 ck0)(hk0:F0.map (·.1)=bF S)(hM0:MV Z F0 id)(hB:Inv 0 B)(hy:YOK zT bl ro (da S [l]).length (anM (bF S) (da S [l])) Inv Stop):dR zT 174 [.agg ⟨[zS,.slice ea en ec,(.map (some r0))]⟩,zP b1,zP b2,zP b3] ro (LE++(r0,.map es0 ck0)::(Z++B)) (fun r Y=>∃c,r= .bool c∧(c=true→Inv l.length Y)∧(c=false→Stop Y)):=by
 have anh:=Iv
 obtain⟨vS,vT,vH,fa,fc,gb,hS,hT,hHs⟩:=Iv
 have xP:=hS
 obtain⟨gR,hs,e8⟩:=hS
 obtain⟨w1,w2,rfl⟩:=pE (e8.len.trans hO.two)
 obtain⟨lX,TA,Ty,kX,rfl,Tz,Mp,Mo⟩:=hs
 obtain⟨iF,ht,eT⟩:=id hT
 obtain⟨eO,Ac,Aa,dP,rfl,Ab,rR,rQ⟩:=ht
 have Ei:=eT.len
 have Ot:∀(i:Nat) (p:c8),([]:List c8)[i]?=some p→cv ⟨ro,[]⟩ 0 (0+i*6) 6 (mB p):=fun _ _ h=>n6 h
 refine zC [.l LE,.b r0 (.map es0 ck0),.l Z,.l B]<|zD 2<|jn fun b4=>zD 1<|jf [1,2,3] (LE++((r0,.map es0 ck0)::Z)) (fun za bX iI=>?_)
 have hE1:=hE _ (Knows.left iI)
 have Iw:Sc za r0 (bF S) id es0 ck0 F0:=⟨Knows.right iI _ (.head _),hE0,hk0,hM0 _ (Knows.tail (Knows.right iI))⟩
 refine jd 12 [0]<|jl (b:=b1) (off:=0) (m:=1) (vs:=[zP b]) 0 ⟨_,_,_,.inl (bX _ _ hC.t),rfl⟩<|zD 3<|jl (b:=b) (off:=0) (m:=4) (vs:=[.slice lX 2 kX,.slice eO iF.length dP,.slice fa 0 fc,vH]) 1 ⟨_,_,_,.inl (bX _ _ gb),rfl⟩<|zD 3<|zJ 21 (0=(iF.length:Int)) (fun h4=>?_) fun h4=>?_
 ·
  exfalso;simp at Ei;omega
 refine zD 4 ?_
 have XN:iF.length=1:=Ei
 refine zD 1<|jl (b:=b1) (off:=0) (m:=1) (vs:=[zP b]) 0 ⟨_,_,_,.inl (bX _ _ hC.t),rfl⟩<|zD 3<|jl (b:=b) (off:=0) (m:=4) (vs:=[.slice lX 2 kX,.slice eO iF.length dP,.slice fa 0 fc,vH]) 1 ⟨_,_,_,.inl (bX _ _ gb),rfl⟩<|zD 1 ?_
 obtain⟨x37,aap⟩:=zG iF 0
 refine iB dP 1 rR aap<|zD 1 ?_
 obtain⟨l39,aDh,h39⟩:=eT.get aap
 obtain aNB:=hW.ok _ (zL aDh)
 obtain agI:l39=l:=Option.some.inj (aDh.symm.trans rfl)
 obtain⟨aKn,aXn,aXl,aAB,rfl,aXm,aKm,aKl⟩:=h39
 refine jl 0 ((rQ _ _ aap).ext (tT bX))<|zD 4<|dS [1,1,1,0,1,0,0] [] (fun(zz:Nat×Cells)=>[(1,zP b1),(3,zP b3),(4,zP b4),(39,.slice aKn l39.length aAB),(40,zI (l39.length:Int)),(41,zI (zz.1:Int))]) (fun zz=>[.l zz.2,.b b4 (.cells ⟨[zS,.slice ea en ec,(.map (some r0))]⟩ 199 (0,0))]) (fun zz=>zz.1≤l39.length∧Inv zz.1 zz.2) (fun zz=>l39.length-zz.1) (⟨0,B⟩) ⟨by dsimp only;omega,hB⟩ [1,0] ?_
 rintro⟨i,B⟩ hI K1 bL rest
 dsimp only at hI
 refine zD 5<|zJ 42 ((i:Int) <(l39.length:Int)) (fun h5=>?_) fun h5=>?_
 ·
  refine zD 7 ?_
  obtain⟨YU,IY⟩:=zG l39 i
  refine iB aAB 7 aKm IY<|jl 0 ((aKl _ _ IY).ext (tT bX))<|jn fun b8=>jd 4 [0] ?_
  have hco:=aNB.2 _ (zL IY)
  refine jd 4 [2,0]<|jc (vs:=[.agg ⟨[.slice ea en ec]⟩,.agg ⟨[zI YU.k,zI YU.st,zI YU.ot,zI YU.fn,zI YU.fl,zI YU.tn,zI YU.tl]⟩]) [] (aQD (c:=YU) hco (hE1.up (Sub.refl _)) hO) ?_
  rintro _ _ ⟨r9,F9,LM9,Z9,rfl,rfl,hm9,hk9,hM9⟩
  obtain⟨es9,ck9,rfl,hE9⟩:=hm9
  refine jg 0 [.b r9 (.map es9 ck9),.l Z9]<|zD 5<|jf [0,1] ((r9,.map es9 ck9)::Z9) (fun ro8 yH hk7=>?_)
  have hP2:Sc ro8 r9 (bF S) (yA S YU) es9 ck9 F9:=⟨hk7 _ (.head _),hE9,hk9,hM9 _ (Knows.tail hk7)⟩
  refine zD 11<|jl (b:=b3) (off:=0) (m:=1) (vs:=[.func (.func 174) ⟨[]⟩ ⟨[zP b1,zP b2,zP b3]⟩]) 0 ⟨_,_,_,.inl (yH _ _ (bX _ _ hC.g)),rfl⟩<|jd 4 [2]<|jl (b:=b1) (off:=0) (m:=1) (vs:=[zP b]) 0 ⟨_,_,_,.inl (yH _ _ (bX _ _ hC.t)),rfl⟩<|zD 4<|jl (b:=b) (off:=0) (m:=4) (vs:=[.slice lX 2 kX,.slice eO iF.length dP,.slice fa 0 fc,vH]) 0 ⟨_,_,_,.inl (yH _ _ (bX _ _ gb)),rfl⟩<|jd 4 [2]<|ET [3,5] ⟨fun z2 t3 qE=>?_,fun z5 t6 Ra=>?_,trivial⟩
  ·
   refine jc (vs:=[zS]) [] (aE3 (bI.nil _ _ _ _ _) (by simp)) ?_
   rintro v58 L58 age
   obtain⟨SY,SR,G8⟩:=age.form
   subst G8
   refine ez qE [1,2,3]<|aS 5 fun YT Zf hL8=>jn fun b60=>ez hL8 (zN 1 4)<|aS 6 fun YS Ze UY=>iC (sz:=1) (ps:=([]:List Int)) (qs:=[(i:Int)]) (enc:=cz) (w:= .slice (some ⟨b60,0,none⟩) 1 1) [1] [0] [(b60,.cells ⟨([(i:Int)].map cz).flatten⟩ 3 (0,0))] (age) (fun s _ hZ=>bN [(i:Int)] (hZ _ (.head _)) (by intro p hp;rfl)) (fun p _=>ai rfl) (by simp only[List.length_cons,List.length_nil];omega) (fun v61 L61 GS=>?_)
   obtain⟨acw,aco,avn⟩:=GS.form
   subst avn
   refine fS UY [[4],[],[],[]]<|aS 15 fun Fc FA tS=>jc (vs:=[(.map (some r9)),zI 2]) [] (ahZ (hP2.up (Sub.refl _)) (tQ hO) (fun x hx=>aeu hco (QJ hO (by rw[←hk9];exact List.mem_map_of_mem (f:=(·.1)) hx)))) ?_
   rintro _ L70 ⟨a70,n70,c70,rfl⟩
   refine ez tS (zN 1 5)<|aS 19 fun Jn Jv Cj=>jc (vs:=[(.map (some r0)),(.map (some r9))]) [] (aqn (Iw.up yH) (hP2.up (Sub.refl _))) ?_
   rintro _ _ ⟨r74,F74,aRX,Z74,rfl,rfl,auN,au8,avY⟩
   obtain⟨NN,N1,rfl,awd⟩:=auN
   refine jg 0 [.b r74 (.map NN N1),.l Z74]<|ez Cj (zN 2 6)<|zD 1<|aS 21 fun OP O9 Ci=>jc (vs:=[.agg ⟨[(.slice acw ((([]:List Int)++[(i:Int)])).length aco),.slice a70 n70 c70,(.map (some r74))]⟩,zP b1,zP b2,zP b3]) [3,0,1,6] ((show dR _ _ _ _ (L61++(r74,.map NN N1)::(Z74++B)) _ from by have:=ahU (t:=⟨acw,((([]:List Int)++[(i:Int)])).length,aco,a70,n70,c70,r74⟩) (LL:=L61++(r74,.map NN N1)::Z74) (anh.up (bX.trans yH)) (hC.up (bX.trans yH)) rfl (Jp (by rw[←agI];exact IY)) (fun aI hk=>⟨by simpa using GS.kQ (Knows.left hk),NN,N1,F74,(Knows.right hk) _ (.head _),awd,au8,fun y hy=>avY aI (Knows.tail (Knows.right hk)) y hy⟩) hI.2 (hy.up (bX.trans yH));rwa[List.append_assoc,List.cons_append] at this)) ?_
   rintro _ Y76 ⟨c76,rfl,avI,avC⟩
   refine fS Ci [[],[]]<|zD 2<|js 77 (!c76) (fun NB=>?_) (fun NB=>?_)
   ·
    try simp only[zB] at NB
    refine zD 6<|aM q0.a.a (.bool false) [] [0] Y76 (bX.trans yH) ⟨_,_,rfl,rfl,_,rfl,nofun,fun _=>avC (by simp_all)⟩
   try simp only[zB] at NB
   refine zD 3<|ja ((i:Int)+1) (by omega)<|zD 2<|bJ bL (⟨i+1,Y76⟩) ⟨by dsimp only;omega,avI (by simp_all)⟩ (by dsimp only;omega) [0,4] yH
  refine jn fun b60=>ez Ra [1,2,3]<|aS 3 fun ayC azv Nx=>jc (vs:=[zS]) [] (aE3 (bI.nil _ _ _ _ _) (by simp)) ?_
  rintro v58 L58 age
  obtain⟨SY,SR,G8⟩:=age.form
  subst G8
  refine ez Nx (zN 1 4)<|aS 6 fun aSs aST aPP=>iC (sz:=1) (ps:=([]:List Int)) (qs:=[(i:Int)]) (enc:=cz) (w:= .slice (some ⟨b60,0,none⟩) 1 1) [0] [1] [(b60,.cells ⟨([(i:Int)].map cz).flatten⟩ 3 (0,0))] (age) (fun s _ hZ=>bN [(i:Int)] (hZ _ (.head _)) (by intro p hp;rfl)) (fun p _=>ai rfl) (by simp only[List.length_cons,List.length_nil];omega) (fun v61 L61 GS=>?_)
  obtain⟨acw,aco,avn⟩:=GS.form
  subst avn
  refine fS aPP [[4],[],[],[]]<|aS 15 fun aSr aSS ahi=>jc (vs:=[(.map (some r9)),zI 2]) [] (ahZ (hP2.up (Sub.refl _)) (tQ hO) (fun x hx=>aeu hco (QJ hO (by rw[←hk9];exact List.mem_map_of_mem (f:=(·.1)) hx)))) ?_
  rintro _ L70 ⟨a70,n70,c70,rfl⟩
  refine ez ahi (zN 1 5)<|aS 19 fun ayB azu Em=>jc (vs:=[(.map (some r0)),(.map (some r9))]) [] (aqn (Iw.up yH) (hP2.up (Sub.refl _))) ?_
  rintro _ _ ⟨r74,F74,aRX,Z74,rfl,rfl,auN,au8,avY⟩
  obtain⟨NN,N1,rfl,awd⟩:=auN
  refine jg 0 [.b r74 (.map NN N1),.l Z74]<|ez Em (zN 2 6)<|zD 1<|aS 21 fun V0 Wc Cg=>jc (vs:=[.agg ⟨[(.slice acw ((([]:List Int)++[(i:Int)])).length aco),.slice a70 n70 c70,(.map (some r74))]⟩,zP b1,zP b2,zP b3]) [3,0,1,6] ((show dR _ _ _ _ (L61++(r74,.map NN N1)::(Z74++B)) _ from by have:=ahU (t:=⟨acw,((([]:List Int)++[(i:Int)])).length,aco,a70,n70,c70,r74⟩) (LL:=L61++(r74,.map NN N1)::Z74) (anh.up (bX.trans yH)) (hC.up (bX.trans yH)) rfl (Jp (by rw[←agI];exact IY)) (fun aI hk=>⟨by simpa using GS.kQ (Knows.left hk),NN,N1,F74,(Knows.right hk) _ (.head _),awd,au8,fun y hy=>avY aI (Knows.tail (Knows.right hk)) y hy⟩) hI.2 (hy.up (bX.trans yH));rwa[List.append_assoc,List.cons_append] at this)) ?_
  rintro _ Y76 ⟨c76,rfl,avI,avC⟩
  refine fS Cg [[],[]]<|zD 2<|js 77 (!c76) (fun KP=>?_) (fun KP=>?_)
  ·
   try simp only[zB] at KP
   refine zD 6<|aM q0.a.a (.bool false) [] [0] Y76 (bX.trans yH) ⟨_,_,rfl,rfl,_,rfl,nofun,fun _=>avC (by simp_all)⟩
  try simp only[zB] at KP
  refine zD 3<|ja ((i:Int)+1) (by omega)<|zD 2<|bJ bL (⟨i+1,Y76⟩) ⟨by dsimp only;omega,avI (by simp_all)⟩ (by dsimp only;omega) [0,4] yH
 refine zD 7<|aM q0.a (.bool true) [] [0] B bX ⟨_,_,rfl,rfl,_,rfl,(fun _=>by have:=hI.2;rwa[show i=l.length by rw[←agI];omega] at this),nofun⟩
theorem aEV{S:List (List ah)}{Inv:Nat→Cells→Prop}{ea:Option Addr}{r0:Nat}{es0:Array MapEntry}{F0:List (an×Value)}(Iv:Jh ro b S ways)(hO:eQ S)(hW:xZ ways)(hC:abz ro bl b b1 b2 b3)(hE:∀aI,Knows aI LE→cS aI (.slice ea en ec) S)(hE0:sY oF F0 es0 ck0)(hk0:F0.map (·.1)=bF S)(hM0:MV Z F0 id)(hB:Inv 0 B)(hy:YOK zT bl ro (da S ways).length (anM (bF S) (da S ways)) Inv Stop):
 dR zT 174 [.agg ⟨[zS,.slice ea en ec,.map (some r0)]⟩,zP b1,zP b2,zP b3] ro (LE++(r0,.map es0 ck0)::(Z++B)) (fun r Y=>∃c,r= .bool c∧(c=true→Inv (da S ways).length Y)∧(c=false→Stop Y)):=by
 match ways,hW with
 | [],_=>
  have:=ahU (t:=⟨none,0,0,ea,en,ec,r0⟩) (x:=⟨[],id⟩) (k:=0) (LL:=LE++(r0,.map es0 ck0)::Z) Iv hC rfl rfl (fun aI hk=>⟨bI.nil _ _ _ _ _,es0,ck0,F0,(Knows.right hk) _ (.head _),hE0,fun h hh=>by rw[hk0];exact hh,hM0 _ (Knows.tail (Knows.right hk))⟩) hB hy
  rwa[List.append_assoc,List.cons_append] at this
 | [l],hW=>
  refine(aQz Iv hO hW hC hE hE0 hk0 hM0 hB hy).mono fun _ _ ⟨c,h1,h2,h3⟩=>⟨c,h1,fun h=>?_,h3⟩
  rw[show (da S [l]).length=l.length by simp[da]]
  exact h2 h
 |_::_::_,hW=>exact absurd hW.one (by simp)
theorem aaT{S:List (List ah)}(g1:ro b1=some (.cells ⟨[zP b]⟩ 190 (0,0)))(Iv:Jh ro b S ways)(hO:eQ S)(hW:xZ ways):ItX zT 173 [] [zP b1] ro [] (da S ways).length (anM (bF S) (da S ways)) (fun Z=>Z=[]):=by
 intro bl aH Inv Stop hs hy B hB
 replace g1:=hs _ _ g1
 replace Iv:=Iv.up hs
 have aPr:=Iv
 obtain⟨vS,vT,vH,fa,fc,gb,hS,hT,hHs⟩:=Iv
 have xP:=hS
 obtain⟨gR,pU,e8⟩:=hS
 obtain⟨ale,aW8,aW4,ald,rfl,aW6,aW7,aW5⟩:=pU
 obtain⟨iF,ht,eT⟩:=id hT
 obtain⟨eO,Ac,Aa,dP,rfl,Ab,rR,rQ⟩:=ht
 have Ot:∀(i:Nat) (p:c8),([]:List c8)[i]?=some p→cv ⟨aH,[]⟩ 0 (0+i*6) 6 (mB p):=fun _ _ h=>n6 h
 refine zC [.l B]<|zD 2<|jn fun b2=>zD 3<|jn fun b3=>jd 5 [0]<|jf [1,0] ((b2,.cells ⟨[(.func (.yield bl) #[] #[])]⟩ 269 (0,0))::[(b3,.cells ⟨[.func (.func 174) ⟨[]⟩ ⟨[zP b1,zP b2,zP b3]⟩]⟩ 269 (0,0))]) fun za bX iI=>zD 2<|jl (b:=b3) (off:=0) (m:=1) (vs:=[.func (.func 174) ⟨[]⟩ ⟨[zP b1,zP b2,zP b3]⟩]) 0 ⟨_,_,_,.inl (iI _ (.tail _ (.head _))),rfl⟩<|jl (b:=b1) (off:=0) (m:=1) (vs:=[zP b]) 0 ⟨_,_,_,.inl (bX _ _ g1),rfl⟩<|zD 3<|jl (b:=b) (off:=0) (m:=4) (vs:=[.slice ale gR.length ald,.slice eO iF.length dP,.slice fa 0 fc,vH]) 0 ⟨_,_,_,.inl (bX _ _ gb),rfl⟩<|jl (b:=b1) (off:=0) (m:=1) (vs:=[zP b]) 0 ⟨_,_,_,.inl (bX _ _ g1),rfl⟩<|zD 3<|jl (b:=b) (off:=0) (m:=4) (vs:=[.slice ale gR.length ald,.slice eO iF.length dP,.slice fa 0 fc,vH]) 0 ⟨_,_,_,.inl (bX _ _ gb),rfl⟩<|aS 6 fun DM DW Bh=>jc (vs:=[.agg ⟨[.slice ale gR.length ald]⟩]) [] (anD (xP.up bX) hO) ?_
 rintro _ L11 ⟨a11,n11,c11,rfl,aP3⟩
 refine ez Bh [1]<|aS 12 fun zl zt yR=>jc (vs:=[.agg ⟨[.slice ale gR.length ald]⟩]) [] (KU (xP.up bX) hO) ?_
 rintro _ _ ⟨r17,F17,bbN,Z17,rfl,rfl,agn,aaF,aPB⟩
 obtain⟨aQQ,aQ3,rfl,aP2⟩:=agn
 refine jg 0 [.b r17 (.map aQQ aQ3),.l Z17]<|ez yR [2,3]<|zD 1<|aS 14 fun q9 ri p8=>jc (vs:=[.agg ⟨[zS,.slice a11 n11 c11,(.map (some r17))]⟩,zP b1,zP b2,zP b3]) [2,0,1,3] (aEV (aPr.up bX) hO hW ⟨(bX _ _ g1),iI _ (.head _),iI _ (.tail _ (.head _))⟩ aP3 aP2 aaF aPB hB (YOK.up hy bX)) ?_
 rintro _ Y19 ⟨c19,rfl,aOQ,aOD⟩
 refine fS p8 [[],[]]<|zD 1<|aM q0.a (.tuple ⟨[]⟩) [] [0] Y19 bX ⟨_,_,rfl,rfl,[],Y19,rfl,rfl,by cases c19 with|true=>exact .inl (aOQ rfl)|false=>exact .inr (aOD rfl)⟩
end Go.L
