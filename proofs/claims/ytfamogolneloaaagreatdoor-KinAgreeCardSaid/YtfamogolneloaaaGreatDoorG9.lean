/- Part 9 of the proof. -/
import Derived.Test.YtfamogolneloaaaGreatDoorG8
set_option maxRecDepth 100000
set_option linter.all false
namespace Go.L
open Go Go.Conc Go.Proofs
open Go.ConcR (KK wgBlock WgAt stA smA rd wr)
variable {K:aM} {l fi ca:List Value} {W:List (List Int)} {Z Z2 LM:Cells} {F:Nat→Nat→Bool} {α κ:Type} {i k n f s rm j HW r1:Nat} {seen:List Nat} {xs:List Int} {ck c5 c6:Int}
theorem f26:gN [Xk 77]=[.region 0 kE.o0 false,.region 1 kE.o1 false,.region 2 kE.o2 false,.region 3 kE.o3 false,.block 0 (.loop kE.lb),.region 9 kE.o9 false,.region 10 kE.o10 false,.region 11 kE.o11 false,.block 2 (.loop kE.rb),.region 15 (DX 77 9) false,.region 16 (DX 77 10) false,.ret]:=by kernel_rfl
theorem aFE:gN [kE.lb]=[.region 4 kE.o4 false,.cond (.tmp 19) .skip (.exit 0),.block 1 kE.Dd,.region 8 kE.o8 false]:=by kernel_rfl
theorem aTV:gN [kE.Dd]=[.region 5 kE.o5 false,.region 6 kE.o6 false,.region 7 kE.o7 false]:=by kernel_rfl
theorem aFD:gN [kE.rb]=[.region 12 kE.BV false,.cond (.tmp 27) .skip (.exit 2),.block 3 kE.ux]:=by kernel_rfl
theorem aTU:gN [kE.ux]=[.region 13 kE.o13 false,.region 14 kE.o14 false]:=by kernel_rfl
def iT(K:aM)(on:Int)(keep:ai→Bool)(rows:List bH)(n:Nat):List (List ai):=(List.range n).map fun i=>oh K on keep ((rows[i]?).getD ⟨fun _ _=>false⟩) i
theorem NA{on:Int}{keep:ai→Bool}{rows:List bH}{r:bH}(h:rows[n]?=some r):iT K on keep rows (n+1)=iT K on keep rows n++[oh K on keep r n]:=by
 simp only[iT,List.range_succ,List.map_append,List.map_cons,List.map_nil,h,Option.getD_some]
theorem yf(K:aM)(on:Int)(keep:ai→Bool)(rows:List bH)(n:Nat):(iT K on keep rows n).length=n:=by simp[iT]
def dc(K:aM)(on:Int)(keep:ai→Bool)(rows:List bH):List ai:=(iT K on keep rows rows.length).flatten
theorem lj(hV:fy K)(on:Int)(keep:ai→Bool){rows:List bH}(hR:rows.length≤2):(dc K on keep rows).length≤1250:=by
 have h1:∀r i,(oh K on keep r i).length≤625:=fun r i=>Nat.le_trans (List.length_filter_le _ _) (by rw[List.length_map];exact(gp hV on).1)
 have key:∀n,(iT K on keep rows n).flatten.length≤n*625:=by
  intro n
  induction n with
  |zero=>simp[iT]
  |succ n ih=>
   have:=h1 ((rows[n]?).getD ⟨fun _ _=>false⟩) n
   simp only[iT,List.range_succ,List.map_append,List.map_cons,List.map_nil,List.flatten_append,List.length_append,List.flatten_cons,List.flatten_nil,List.append_nil] at ih ⊢
   omega
 have:=key rows.length
 have h2:rows.length*625≤2*625:=Nat.mul_le_mul_right _ hR
 exact Nat.le_trans this h2
theorem aab{on:Int}{keep:ai→Bool}{rows:List bH}(hR:rows.length≤2):gF (dc K on keep rows):=by
 intro x hx
 obtain⟨l,hl,hx⟩:=List.mem_flatten.1 hx
 obtain⟨i,hi,rfl⟩:=List.mem_map.1 hl
 have hi:=List.mem_range.1 hi
 obtain⟨p,_,rfl⟩:=List.mem_map.1 (List.mem_filter.1 hx).1
 simp only[cW]
 omega
theorem agA(a:List (List α))(o:List α)(b:List (List α))(zs:List α):((zs++o)++(a++b).flatten).Perm (zs++(a++o::b).flatten):=by
 simp only[List.flatten_append,List.flatten_cons,List.append_assoc]
 refine .append_left _ ?_
 rw[←List.append_assoc,←List.append_assoc]
 exact .append_right _ List.perm_append_comm
theorem az7{rows:List bH}{on:Int}{g:FuncId}{keep:ai→Bool}{ro:Nat→Option Obj}{fr:Cells}(hV:fy K)(hF:pd ro f K rows)(hR:rows.length≤2)(Gy:Bq zT g=true)
 (iv:∀i r,rows[i]?=some r→∀aI,Sub ro aI→∀p∈bp K on,de zT g (fi++[.agg ⟨cm (cW K r i p)⟩]++ca) aI (.bool (keep (cW K r i p)))):
 Fn (C0 zT) zT 77 ⟨[pV f,.int .u8 on,.func (.func g) ⟨fi⟩ ⟨ca⟩]⟩ ⟨ro,fr⟩ (fun en s'=>∃v Y zs,en= .returned v∧s'=⟨ro,Y++fr⟩∧zs.Perm (dc K on keep rows)∧aA v 8 115 cm zs Y):=by
 rintro main T ⟨rfl,gV,cu,Post,rfl⟩ cl MM kr _
 have hT:=sw zT gV cu Post
 obtain⟨c0,c1,c2,vc,vh,vr,vb,va,vf,vt,hv,hf,rh,oF,hr,Ci,GD,Ix,bS⟩:=id hF
 obtain⟨nF,DM,DL,ng,rfl,Oj,La,K0⟩:=bS
 refine apY (fn:=(Tryz.prog.funcs[77]?).getD default) (c:=Xk 77) (n:=35) (by kernel_rfl) (by kernel_rfl) (by kernel_rfl) (by rfl)<|pY hT f26 fun l1 Dh=>?_
 refine vq au hT<|jn fun b3=>jn fun b4=>jn fun b5=>zD 2<|xC<|pY hT Dh fun l2 qO=>?_
 show TT _ _ (.inRegion kE.o1 (0::[1,2])::_) _ _ _ _ _
 refine axW hT (a:=kE.a1) (f:=fun q=> .chan (some q)) (ob:= .chan 0 #[] false 0 0 false) (by kernel_rfl) (by kernel_rfl) (fun e q=>by kernel_rfl) (by decide) rfl fun Ch=>?_
 refine vq au hT<|jn fun b7=>jd 2 [0]<|xC<|pY hT qO fun l3 PN=>?_
 show TT _ _ (.inRegion kE.o2 (0::[])::_) _ _ _ _ _
 refine axW hT (a:=kE.a2) (f:=fun q=> zP q) (ob:=wgBlock 194 0 0) (by kernel_rfl) (by kernel_rfl) (fun e q=>by kernel_rfl) (by decide) rfl fun Wg=>?_
 refine U7 hT<|ap2 (E:=nz Wg Ch gV cu) (Q:=Good zT Post) (tm:=false) 0 2 ((b7,.cells ⟨[.chan (some Ch)]⟩ 185 (0,0))::(b5,.cells ⟨[.func (.func g) ⟨fi⟩ ⟨ca⟩]⟩ 116 (0,0))::(b4,.cells ⟨[.int .u8 on]⟩ 120 (0,0))::(b3,.cells ⟨[pV f]⟩ 104 (0,0))::fr) hT (fun L aB hl dR TN=>?_)
 have h7:=hl.kn _ (.head _)
 have h5:=hl.kn _ (.tail _ (.head _))
 have h4:=hl.kn _ (.tail _ (.tail _ (.head _)))
 have h3:=hl.kn _ (.tail _ (.tail _ (.tail _ (.head _))))
 dsimp only at h7 h5 h4 h3
 have hM:∀pend os,Closed zT true (TM (nz Wg Ch gV cu) L (Good zT Post) pend false os 0):=fun pend os=>fw (E:=nz Wg Ch gV cu) false os (fun e=>(by cases e))
 have hC:∀os,Closed zT true (TM (nz Wg Ch gV cu) L (Good zT Post) 0 true os 0):=fun os=>fw (E:=nz Wg Ch gV cu) true os (fun _=>rfl)
 refine pY (hM 0 []) PN fun l4 PM=>?_
 refine vq au (hM 0 [])<|jl (b:=b3) (off:=0) (m:=1) (vs:=[pV f]) 0 ⟨_,_,_,.inl h3,rfl⟩<|zD 2<|jl (b:=f) (off:=0) (m:=13) (vs:=[c0,c1,c2,vc,vh,vr,vb,va,zI K.gone,zI K.new,zI K.af,vf,.slice nF rows.length ng]) 12 ⟨_,_,_,.inl (hl.sub _ _ hf),rfl⟩<|zD 3<|xC<|KL (hM 0 []) PM fun l5 PK=>?_
 refine anl (hM 0 []) (rest:=[]) rfl fun l6 Iu=>?_
 have:=gB Iu
 subst this
 have loop:∀m i lT,m+i=rows.length→Sub aB lT→(∀lT rest,Sub aB lT→TT (TM (nz Wg Ch gV cu) L (Good zT Post) 0 false (iT K on keep rows rows.length) 0) (ZA 77 .normal) (l5.map .code++[]) (cl::MM) 35 [] lT (some ⟨.fin .normal,[(7,pV b7),(8,pV Wg)]++rest,[],⟨[],[]⟩⟩))→
  ∀rest,TT (TM (nz Wg Ch gV cu) L (Good zT Post) 0 false (iT K on keep rows i) 0) (ZA 77 .normal) ([kE.lb].map .code++(.inLoop kE.lb::(.inBlock 0::(l5.map .code++[])))) (cl::MM) 35 [] lT (some ⟨.fin .normal,[(3,pV b3),(4,pV b4),(5,pV b5),(7,pV b7),(8,pV Wg),(17,zI (rows.length:Int)),(18,zI (i:Int))]++rest,[],⟨[],[]⟩⟩):=by
  intro m
  induction m with
  |zero=>
   intro i lT hi hs qp rest
   refine pY (hM 0 _) aFE fun m1 hm1=>?_
   refine vq au (hM 0 _)<|zD 2<|xC<|U8 (hM 0 _) (t:=false) (q:=decide ((i:Int) <(rows.length:Int))) hm1 (by simp;omega) fun m2 EN=>?_
   refine ann (hM 0 _) (k':=l5.map .code++[]) (by rw[qA];simp[exitTo]) ?_
   have:i=rows.length:=by omega
   subst this
   exact tSt (hM 0 _) [(7,pV b7),(8,pV Wg)] [] [] fun rest=>qp lT rest hs
  |succ m ih=>
   intro i lT hi hs qp rest
   obtain⟨r,Cb⟩:∃r,rows[i]?=some r:=⟨_,List.getElem?_eq_getElem (by omega)⟩
   refine pY (hM 0 _) aFE fun m1 hm1=>?_
   refine vq au (hM 0 _)<|zD 2<|xC<|U8 (hM 0 _) (t:=true) (q:=decide ((i:Int) <(rows.length:Int))) hm1 (by simp;omega) fun m2 EN=>?_
   refine anj (hM 0 _)<|KL (hM 0 _) EN fun m3 hm3=>?_
   refine pY (hM 0 _) aTV fun m4 hm4=>?_
   refine vq au (hM 0 _)<|zD 1<|jn fun b9=>jd 2 [0]<|xC<|pY (hM 0 _) hm4 fun m5 hm5=>?_
   show TT _ _ (.inRegion kE.o6 [0]::_) _ _ _ _ _
   refine aMj (E:=nz Wg Ch gV cu) (a:=kE.a6) (f:=104) (x:= .tmp 8) (ats:=ahF kE.a6) ?_ (by kernel_rfl) (by kernel_rfl) (by kernel_rfl) (kU (by kernel_rfl)) (by decide) rfl (by show _ <2;rw[yf];omega) (by show Hf zT 194 _ _=_;rw[yf];exact(arQ i (by omega) Wg).choose_spec) wV
   refine pY (hM 1 _) hm5 fun m6 hm6=>?_
   have:=gB hm6
   subst this
   show TT _ _ (.inRegion kE.o7 (0::[1])::_) _ _ _ _ _
   refine axT (hM 1 _) (a:=eI kE.o7 0) (.func (.func 105) ⟨[]⟩ ⟨[pV Wg,pV b3,pV b4,pV b9,pV b5,pV b7]⟩) (by kernel_rfl) (by kernel_rfl) (by decide) rfl<|tGo (E:=nz Wg Ch gV cu) (oh K on keep r i) (a:=kE.a7) (f:=105) (y:= .tmp 22) (ca:=[pV Wg,pV b3,pV b4,pV b9,pV b5,pV b7]) (ats:=ahF kE.a7) [(b9,.cells ⟨[zI (i:Int)]⟩ 3 (0,0))] (by kernel_rfl) (by kernel_rfl) (by kernel_rfl) (by decide) rfl (fun yp HH PO=>⟨?_,?_⟩)
   ·have xe:=Sub.trans hs HH
    have h03:=Sub.trans hl.sub xe
    exact azZ hV (hF.up h03) Cb Gy (fun aI ni=>iv i r Cb aI (Sub.trans h03 ni)) (xe _ _ h3) (xe _ _ h4) (PO _ (.head _)) (xe _ _ h5) (xe _ _ h7)
   rw[←NA Cb]
   refine U7 (hM 0 _) (ano (hM 0 _) ?_)
   refine pY (hM 0 _) hm3 fun m7 hm7=>?_
   have:=gB hm7
   subst this
   refine vq au (hM 0 _)<|ja ((i:Int)+1) (by omega)<|zD 2<|xC<|abt (hM 0 _)<|tSt (hM 0 _) [(3,pV b3),(4,pV b4),(5,pV b5),(7,pV b7),(8,pV Wg),(17,zI (rows.length:Int)),(18,zI ((i+1:Nat):Int))] [] [] fun rest=>ih (i+1) yp (by omega) (Sub.trans hs HH) qp rest
 refine tSt (hM 0 _) [(3,pV b3),(4,pV b4),(5,pV b5),(7,pV b7),(8,pV Wg),(17,zI (rows.length:Int)),(18,zI (((0:Nat)):Int))] [] [] fun rest=>loop rows.length 0 aB (by omega) (Sub.refl _) (fun lT rest n6=>?_) rest
 refine pY (hM 0 _) PK fun l7 EO=>?_
 show TT _ _ (.inRegion kE.o9 (0::[1])::_) _ _ _ _ _
 refine axT (hM 0 _) (a:=eI kE.o9 0) (.func (.func 107) ⟨[]⟩ ⟨[pV Wg,pV b7]⟩) (by kernel_rfl) (by kernel_rfl) (by decide) rfl<|ap6 (E:=nz Wg Ch gV cu) (a:=kE.a9) (f:=107) (y:= .tmp 24) (ca:=[pV Wg,pV b7]) (ats:=ahF kE.a9) [] (by kernel_rfl) (by kernel_rfl) (by kernel_rfl) (by decide) rfl (fun yp HH _=>?_)
 have xe:=Sub.trans n6 HH
 refine⟨ajt (E:=nz Wg Ch gV cu) (x:=kE.cl) az8 (akV Wg).choose_spec wV (q:=b7) (t:=185) (fz:=(0,0)) (a:=eI kE.cl.q1 0) (y:= .tmp 1) (U:=185) (xe _ _ h7) (by kernel_rfl) (by kernel_rfl) (by kernel_rfl) (by kernel_rfl) (by kernel_rfl) (by kernel_rfl),?_⟩
 refine U7 (hC _)<|pY (hC _) EO fun l8 Zf=>?_
 refine vq au (hC _)<|zD 2<|xC<|pY (hC _) Zf fun l9 hl9=>?_
 refine vq au (hC _)<|jl (b:=b7) (off:=0) (m:=1) (vs:=[.chan (some Ch)]) 0 ⟨_,_,_,.inl (xe _ _ h7),rfl⟩<|zD 1<|xC<|KL (hC _) hl9 fun l10 as8=>?_
 refine anl (hC _) (rest:=[]) rfl fun l11 as7=>?_
 have:=gB as7
 subst this
 have hlen:=lj hV on keep hR
 have recv:∀m (os:List (List ai)) (v:Value) (L1:Cells) (zs:List ai),os.length=m→aA v 8 115 cm zs L1→(zs++os.flatten).Perm (dc K on keep rows)→∀rest,
  TT (TM (nz Wg Ch gV cu) L (Good zT Post) 0 true os 0) (ZA 77 .normal) ([kE.rb].map .code++(.inLoop kE.rb::(.inBlock 2::(l10.map .code++[])))) (cl::MM) 35 [] yp (some ⟨.fin .normal,[(10,v),(25,.chan (some Ch))]++rest,[.l L1],⟨[],[]⟩⟩):=by
  intro m
  induction m with
  |zero=>
   intro os v L1 zs tq ho hp rest
   have tq:=List.eq_nil_of_length_eq_zero tq
   subst tq
   refine pY (hC _) aFD fun m1 hm1=>?_
   show TT _ _ (.inRegion kE.BV (0::[1])::_) _ _ _ _ _
   refine ank (E:=nz Wg Ch gV cu) (a:=kE.QW) (rc:= .tmp 25) (z:= zS) hl xe TN (by kernel_rfl) (by kernel_rfl) (fun ρ=>by kernel_rfl) (by decide) rfl (fun a' oo b' v' Y he _=>by simp at he) fun _=>?_
   refine vq au hT<|zD 2<|xC<|U8 hT (t:=false) (q:=false) hm1 rfl fun m2 EN=>?_
   refine ann hT (k':=l10.map .code++[]) (by rw[qA];simp[exitTo]) ?_
   refine pY hT as8 fun m3 hm3=>?_
   refine vq au hT<|zD 1 ?_
   have hp':zs.Perm (dc K on keep rows):=by simpa using hp
   refine jc (vs:=[v,.func (.func 110) ⟨[]⟩ ⟨[]⟩]) [1] (Oc ho (by rw[hp'.length_eq];omega) ((aab hR).perm hp')) ?_
   rintro _ Y ⟨ys,hys,hoY⟩
   refine zD 1<|xC<|pY hT hm3 fun m4 hm4=>?_
   refine vq au hT<|zD 3<|xC<|anm hT hm4 fun m5 hm5=>?_
   refine aMf au hT (fn:=(Tryz.prog.funcs[77]?).getD default) v [] [0,1] (Y++((b7,.cells ⟨[.chan (some Ch)]⟩ 185 (0,0))::(b5,.cells ⟨[.func (.func g) ⟨fi⟩ ⟨ca⟩]⟩ 116 (0,0))::(b4,.cells ⟨[.int .u8 on]⟩ 120 (0,0))::(b3,.cells ⟨[pV f]⟩ 104 (0,0))::fr)) (by kernel_rfl)<|hT.mono _ ⟨ro,Y++fr⟩ _ (dL (J:=[(b7,.cells ⟨[.chan (some Ch)]⟩ 185 (0,0)),(b5,.cells ⟨[.func (.func g) ⟨fi⟩ ⟨ca⟩]⟩ 116 (0,0)),(b4,.cells ⟨[.int .u8 on]⟩ 120 (0,0)),(b3,.cells ⟨[pV f]⟩ 104 (0,0))]) ?_ (Sub.refl _)) (kr v _ ⟨v,Y,ys,rfl,rfl,hys.trans hp',hoY⟩)
   rw[List.append_assoc]
   exact .append_left _ (List.perm_append_comm (l₁:=[_,_,_,_]))
  |succ m ih=>
   intro os v L1 zs tq ho hp rest
   refine pY (hC _) aFD fun m1 hm1=>?_
   show TT _ _ (.inRegion kE.BV (0::[1])::_) _ _ _ _ _
   refine ank (E:=nz Wg Ch gV cu) (a:=kE.QW) (rc:= .tmp 25) (z:= zS) hl xe TN (by kernel_rfl) (by kernel_rfl) (fun ρ=>by kernel_rfl) (by decide) rfl (fun a' oo b' v' Y he oC=>?_) fun he=>by simp[he] at tq
   subst he
   have oC:aA v' 8 115 cm oo Y:=oC
   refine vq au (hC _)<|zD 2<|xC<|U8 (hC _) (t:=true) (q:=true) hm1 rfl fun m2 EN=>?_
   refine anj (hC _)<|KL (hC _) EN fun m3 hm3=>?_
   have:=gB hm3
   subst this
   refine pY (hC _) aTU fun m4 hm4=>?_
   refine vq au (hC _)<|zD 3<|xC<|pY (hC _) hm4 fun m5 hm5=>?_
   have:=gB hm5
   subst this
   refine vq au (hC _)<|zD 2 ?_
   have Ri:((zs++oo)++(a'++b').flatten).Perm (dc K on keep rows):=(agA a' oo b' zs).trans hp
   have hlz:zs.length+oo.length≤1250:=by
    have:=Ri.length_eq
    simp only[List.length_append] at this
    omega
   refine kL (sz:=8) (ps:=zs) (qs:=oo) (enc:=cm) (w:=v') [1] [0] Y ho (fun s _ hZ=>oC.sl hZ) (fun p _=>ar rfl) (by omega) fun v23 L23 yM=>zD 2<|xC<|ano (hC _) (abt (hC _) ?_)
   exact tSt (hC _) [(10,v23),(25,.chan (some Ch))] [.l L23] [0] fun rest=>ih (a'++b') v23 L23 (zs++oo) (by simp at tq ⊢;omega) yM Ri rest
 refine tGe<|tSt (hC _) [(10,zS),(25,.chan (some Ch))] [.l []] [0] fun rest=>recv rows.length (iT K on keep rows rows.length) (zS) [] [] (yf _ _ _ _ _) (aA.nil _ _ _) (by simp[dc]) rest
theorem adP{rows:List bH}{on:Int}{g:FuncId}{keep:ai→Bool}{ro:Nat→Option Obj}(hV:fy K)(hF:pd ro f K rows)(hR:rows.length≤2)(Gy:Bq zT g=true)
 (iv:∀i r,rows[i]?=some r→∀aI,Sub ro aI→∀p∈bp K on,de zT g (fi++[.agg ⟨cm (cW K r i p)⟩]++ca) aI (.bool (keep (cW K r i p)))):
 Bs zT 77 [pV f,.int .u8 on,.func (.func g) ⟨fi⟩ ⟨ca⟩] ro [] (fun v Y=>∃zs,zs.Perm (dc K on keep rows)∧aA v 8 115 cm zs Y):=
 fun fr=>Fn.mono (az7 (fr:=fr) hV hF hR Gy iv) fun en s' ⟨v,Y,zs,h1,h2,h3,h4⟩=>⟨v,Y,h1,by rw[h2];exact St.le_refl _,zs,h3,h4⟩
theorem V7{rows:List bH}{on:Int}{ro:Nat→Option Obj}(hV:fy K)(hF:pd ro f K rows)(hR:rows.length≤2):
 Bs zT 50 [pV f,.int .u8 on] ro [] (fun v Y=>∃zs,zs.Perm (dc K on (cP K.gone K.new K.af) rows)∧aA v 8 115 cm zs Y):=by
 refine yG au [] [] a8 fun fr=>zD 10<|Gd (vs:=[pV f,.int .u8 on,.func (.func 91) ⟨[pV f]⟩ ⟨[]⟩]) [] (fun _ _ h=>h) (adP (keep:=cP K.gone K.new K.af) hV hF hR (by kernel_rfl) fun i r hr aI hs p hp=>?_) ?_
 ·obtain⟨c0,c1,c2,vc,vh,vr,vb,va,vf,vt,hv,hf,_⟩:=hF.up hs
  exact adJ hf
 rintro v Y ⟨zs,hz,ho⟩
 refine zD 3<|HG qC v [0,1] Y (Sub.refl _) ⟨zs,hz,ho⟩
theorem au8{x:Int}(h:0≤x∧x≤4):iu x 0 4=true:=by simp only[iu,Bool.and_eq_true,decide_eq_true_eq];omega
theorem acT:rC (bs [97]):=⟨by decide,.inl (by decide)⟩
def ahQ(ro:Nat→Option Obj)(v:Value)(W:List (List Int)):Prop:=∃ws,bE ro v 1 ir ws∧dj (fun w l=>bE ro w 1 cv l) ws W
def qI(ro:Nat→Option Obj)(l:List Value)(W:List (List Int)):Prop:=∀aB,Sub ro aB→eE zT 118 [.agg ⟨l.take 3⟩] aB [] (fun r Y=>∃a n c,r= .tuple ⟨[.slice a n c,zI 0]⟩∧n=W.length∧∀lT,Knows lT Y→ahQ lT (.slice a n c) W)
theorem arR{ro:Nat→Option Obj}(hK:gk ro l K)(hO:mz K)(hV:fy K)(hW:1≤W.length∧W.length≤4)(h76:qI ro l W):eE zT 84 [.agg ⟨l⟩] ro [] (fun r Y=>∃a n c,r= .slice a n c∧n=W.length∧∀lT,Knows lT Y→ahQ lT r W):=by
 have WN:=hK
 obtain⟨vS,vT,vc,vh,vr,vb,va,vf,fa,fc,hv,rfl,hS,hT,rh,oF,hr,hb,ha,hf⟩:=hK
 obtain⟨jk,hs,fT⟩:=id hS
 obtain⟨jO,ht,fK⟩:=id hT
 obtain⟨hc,hh,GI⟩:=id rh
 have u7:=hr
 have uW:=hb
 have ha0:=ha
 have hf0:=hf
 obtain⟨mZ,Vw,Vu,mh,rfl,Vv,Ol,Ok⟩:=hs
 obtain⟨fp,Bd,Bb,ep,rfl,Bc,tk,tj⟩:=ht
 obtain⟨eL,Bh,Bg,eH,rfl,DO,zb,za⟩:=hc
 obtain⟨dN,u4,u3,dD,rfl,xD,qV,qU⟩:=hh
 obtain⟨mj,Ld,Lc,mi,rfl,Om,Jh,Jg⟩:=hr
 obtain⟨mI,Rc,Ra,mA,rfl,Rb,Oq,Oo⟩:=hb
 obtain⟨mB,Ov,Ot,mr,rfl,Ou,Ni,Nh⟩:=ha
 obtain⟨jW,Bf,Be,iQ,rfl,DN,u6,u5⟩:=hf
 have Dh:=hO.rules
 have qO:=hO.before.1
 have PN:=hO.after.1
 have PM:=hO.facts.1
 have PK:=hO.ways.1
 have Iu:=fT.len
 have EO:=fK.len
 have Zf:=hO.rN.two
 have hl9:=hO.ee.nh
 have Q8:∀(i:Nat) (p:eG),([]:List eG)[i]?=some p→cy ⟨ro,[]⟩ 0 (0+i*6) 6 (oL p):=fun _ _ h=>pn h
 have hgl:=hO.yE
 refine bA au [] [] a8<|zD 2<|jn fun b1=>jd 6 [0]<|jc (vs:=[.agg ⟨[.slice mZ jk.length mh,.slice fp jO.length ep,.slice fa 0 fc]⟩]) [] (h76 _ (Sub.refl _)) ?_
 rintro _ Y10 ⟨a10,n10,c10,rfl,aQf,aed⟩
 refine zD 9<|jp (vs:=[zI 0]) [] [] (fun aB hs hZ=>An)<|zD 10<|zJ 15 ((n10:Int)=0) (fun h1=>?_) fun h1=>?_
 ·
  exfalso;omega
 refine zD 8<|zJ 20 ((n10:Int)>4) (fun h2=>?_) fun h2=>?_
 ·
  exfalso;omega
 refine jd 6 [1]<|jp (vs:=[.agg ⟨[.slice eL K.cs.length eH,.slice dN hv.length dD]⟩]) [] [] (fun aB hs hZ=>ap8 (rh.up hs) oF hV.ee)<|jp (vs:=[zI 0]) [] [] (fun aB hs hZ=>An)<|jd 5 [1]<|jp (vs:=[.slice mj K.rules.length mi,.string (bs [97]),.string (bs [97])]) [] [] (fun aB hs hZ=>O0 (u7.up hs) hV.rules.2 hV.rules.1 acT acT)<|zD 8<|jp (vs:=[zI 0]) [] [] (fun aB hs hZ=>An)<|jd 6 [1,1]<|jp (vs:=[.agg ⟨[.slice mZ jk.length mh,.slice fp jO.length ep,.slice fa 0 fc,.slice eL K.cs.length eH,.slice dN hv.length dD,.slice mj K.rules.length mi,.slice mI K.before.length mA,.slice mB K.after.length mr,zI K.gone,zI K.new,zI K.af,.slice jW K.facts.length iQ]⟩,.slice mI K.before.length mA,.bool true]) [] [] (fun aB hs hZ=>adF (WN.up hs) hO (uW.up hs))<|jp (vs:=[zI 0]) [] [] (fun aB hs hZ=>An)<|jd 6 [1,1]<|jp (vs:=[.agg ⟨[.slice mZ jk.length mh,.slice fp jO.length ep,.slice fa 0 fc,.slice eL K.cs.length eH,.slice dN hv.length dD,.slice mj K.rules.length mi,.slice mI K.before.length mA,.slice mB K.after.length mr,zI K.gone,zI K.new,zI K.af,.slice jW K.facts.length iQ]⟩,.slice mB K.after.length mr,.bool false]) [] [] (fun aB hs hZ=>adG (WN.up hs) hO (ha0.up hs))<|jp (vs:=[zI 0]) [] [] (fun aB hs hZ=>An)<|jd 6 [1]<|jp (vs:=[zI K.gone,zI 0,zI 4]) [] [] (fun aB hs hZ=>eB)<|zD 2<|jj 5 [(1,zP b1),(2,zS),(3,.slice a10 n10 c10),(56,.bool ((!(iu K.gone 0 4))||(!(iu K.new 0 4))))] (fun gT=>?_) (fun hj=>?_)
 rotate_left
 refine js 51 (!(iu K.gone 0 4)) (fun h3=>?_) (fun h3=>?_)
 ·
  have v9:=h3
  try simp only[zB] at v9
  refine zD 5<|jw 56 (.bool ((!(iu K.gone 0 4))||(!(iu K.new 0 4)))) (w:= .bool true) (by rw[h3]<;>rfl) ?_
  exact hj _ (by kernel_rfl) (by kernel_rfl)
 ·
  have v9:=h3
  try simp only[zB] at v9
  refine jd 2 [1]<|jp (vs:=[zI K.new,zI 0,zI 4]) [] [] (fun aB hs hZ=>eB)<|zD 2<|jw 56 (.bool ((!(iu K.gone 0 4))||(!(iu K.new 0 4)))) (w:= .bool (!(iu K.new 0 4))) (by rw[h3]<;>rfl) ?_
  exact hj _ (by kernel_rfl) (by kernel_rfl)
 refine zD 1<|jj 5 [(1,zP b1),(2,zS),(3,.slice a10 n10 c10),(62,.bool (((!(iu K.gone 0 4))||(!(iu K.new 0 4)))||(!(iu K.af 0 4))))] (fun gT=>?_) (fun hj=>?_)
 rotate_left
 refine js 57 ((!(iu K.gone 0 4))||(!(iu K.new 0 4))) (fun h4=>?_) (fun h4=>?_)
 ·
  have xV:=h4
  try simp only[zB] at xV
  refine zD 5<|jw 62 (.bool (((!(iu K.gone 0 4))||(!(iu K.new 0 4)))||(!(iu K.af 0 4)))) (w:= .bool true) (by rw[h4]<;>rfl) ?_
  exact hj _ (by kernel_rfl) (by kernel_rfl)
 ·
  have xV:=h4
  try simp only[zB] at xV
  refine jd 2 [1]<|jp (vs:=[zI K.af,zI 0,zI 4]) [] [] (fun aB hs hZ=>eB)<|zD 2<|jw 62 (.bool (((!(iu K.gone 0 4))||(!(iu K.new 0 4)))||(!(iu K.af 0 4)))) (w:= .bool (!(iu K.af 0 4))) (by rw[h4]<;>rfl) ?_
  exact hj _ (by kernel_rfl) (by kernel_rfl)
 refine zD 1<|js 62 (((!(iu K.gone 0 4))||(!(iu K.new 0 4)))||(!(iu K.af 0 4))) (fun h5=>?_) (fun h5=>?_)
 ·
  try simp only[zB] at h5
  exfalso;simp[au8 hgl.1,au8 hgl.2.1,au8 hgl.2.2] at h5
 try simp only[zB] at h5
 refine jd 10 [1]<|zJ 67 ((K.facts.length:Int)>4) (fun h6=>?_) fun h6=>?_
 ·
  exfalso;omega
 refine jd 11 [1]<|dW [1,1,1,1,1,1,1,1,1,1,1,0,1,0,0] [] (fun(zz:Nat)=>[(1,zP b1),(2,zS),(3,.slice a10 n10 c10),(70,.slice jW K.facts.length iQ),(71,zI (K.facts.length:Int)),(72,zI (zz:Int))]) (fun(zz:Nat)=>[.b b1 (.cells ⟨[.slice mZ jk.length mh,.slice fp jO.length ep,.slice fa 0 fc,.slice eL K.cs.length eH,.slice dN hv.length dD,.slice mj K.rules.length mi,.slice mI K.before.length mA,.slice mB K.after.length mr,zI K.gone,zI K.new,zI K.af,.slice jW K.facts.length iQ]⟩ 40 (0,0)),.l Y10]) (fun(zz:Nat)=>zz≤K.facts.length) (fun(zz:Nat)=>K.facts.length-zz) 0 (by omega) [1,0] ?_
 rintro k hI K1 bK rest
 refine zD 5<|zJ 73 ((k:Int) <(K.facts.length:Int)) (fun h7=>?_) fun h7=>?_
 ·
  refine zD 7 ?_
  obtain⟨x75,S5⟩:=zG K.facts k
  refine iK iQ 3 u6 S5<|jl 0 (u5 _ _ S5)<|jn fun b6=>jd 8 [0,1,1]<|jcH (hi:=(k:Int)) (show bE _ _ _ _ _ from ⟨jW,Bf,Be,iQ,rfl,DN,u6,u5⟩) (by omega) (fun v81 aPw=>?_)
  obtain⟨anz,ayt,ayp,anx,rfl,ayr,ays,ayq⟩:=aPw
  refine jd 1 [0]<|jp (vs:=[.agg ⟨[.slice mZ jk.length mh,.slice fp jO.length ep,.slice fa 0 fc,.slice eL K.cs.length eH,.slice dN hv.length dD,.slice mj K.rules.length mi,.slice mI K.before.length mA,.slice mB K.after.length mr,zI K.gone,zI K.new,zI K.af,.slice jW K.facts.length iQ]⟩,.slice anz ((((K.facts).take (k:Int).toNat)).length) anx,.agg ⟨[zI x75.a,zI x75.b,.bool x75.same]⟩]) [] [] (fun aB hs hZ=>az6 (WN.up hs) hO ((show bE _ _ _ _ _ from ⟨anz,ayt,ayp,anx,rfl,ayr,ays,ayq⟩).up hs) (by simp only[List.length_take,List.length_drop];omega) (hO.facts.2 _ (List.mem_of_getElem? S5)) (agG hO.apart S5)) ?_
  refine jp (vs:=[zI 0]) [] [] (fun aB hs hZ=>An)<|zD 2<|ja ((k:Int)+1) (by omega)<|zD 2<|bO bK (k+1) (by omega) (by omega) [1,2] (Sub.refl _)
 refine zD 8<|aE q0 (.slice a10 n10 c10) [] [1] Y10 (Sub.refl _) ⟨_,_,rfl,rfl,_,_,_,rfl,aQf,aed⟩
def gZ(ro:Nat→Option Obj)(l:List Value)(K:aM)(rows:List bH):Prop:=∀aB,Sub ro aB→eE zT 43 [.agg ⟨l⟩] aB [] (fun r Y=>∃f,r= .tuple ⟨[pV f,zI 0]⟩∧∀lT,Sub aB lT→Knows lT Y→pd lT f K rows)
def bF(K:aM):Int:=IntKind.u8.wrap (dv .u8 1 (K.facts.length:Int)-1)
theorem Pg{rows:List bH}{ro:Nat→Option Obj}(hV:fy K)(hF:pd ro f K rows):de zT 51 [pV f] ro (.int .u8 (bF K)):=by
 obtain⟨c0,c1,c2,vc,vh,vr,vb,va,vf,vt,hv,hf,rh,oF,hr,Ci,GD,Ix,bS⟩:=hF
 exact aOn Ix hf (by have:=hV.facts.1;omega)
theorem adA{rows:List bH}{ro:Nat→Option Obj}(hK:gk ro l K)(hV:fy K)(hR:rows.length≤2)(hB:gZ ro l K rows):
 Bs zT 15 [.agg ⟨l⟩] ro [] (fun r Y=>r= .tuple ⟨[zI ((dc K (bF K) (cP K.gone K.new K.af) rows).length:Int),zI 0]⟩∧Y=[]):=by
 obtain⟨v0,v1,v3,v4,v5,v6,v7,vb,fa,fc,hv,rfl,_⟩:=hK
 refine yG au [] [] a8 fun fr=>zD 2<|jn fun b1=>jd 6 [0]<|jc (vs:=[Value.agg ⟨[v0,v1,.slice fa 0 fc,v3,v4,v5,v6,v7,zI K.gone,zI K.new,zI K.af,vb]⟩]) [] (hB _ (Sub.refl _)) ?_
 rintro _ Y ⟨f,rfl,hF⟩
 refine jf [0] Y (fun aB hs hk=>?_)
 have Bo:=hF aB hs hk
 refine zD 18<|jp (vs:=[pV f]) [] [] (fun yp HH hZ=>Pg hV (Bo.up HH))<|Gd (vs:=[pV f,.int .u8 (bF K)]) [] (fun _ _ h=>h) (V7 hV Bo hR) ?_
 rintro v Y2 ⟨zs,hz,ho⟩
 obtain⟨a,c,rfl⟩:=ho.form
 refine zD 5<|HG qC.a (.tuple ⟨[zI (zs.length:Int),zI 0]⟩) [2] [] hs ⟨by rw[hz.length_eq],rfl⟩
theorem eR{on:Int}{keep:ai→Bool}{rows:List bH}{x:ai}(h:x∈dc K on keep rows):∃i r p,rows[i]?=some r∧p∈bp K on∧x=cW K r i p∧keep x=true:=by
 obtain⟨l,hl,hx⟩:=List.mem_flatten.1 h
 obtain⟨i,hi,rfl⟩:=List.mem_map.1 hl
 have hi:=List.mem_range.1 hi
 obtain⟨h1,h2⟩:=List.mem_filter.1 hx
 obtain⟨p,hp,rfl⟩:=List.mem_map.1 h1
 rw[List.getElem?_eq_getElem hi] at h2 ⊢
 exact⟨i,rows[i],p,List.getElem?_eq_getElem hi,hp,rfl,h2⟩
theorem VS(r:bH)(p:Nat→Int):∀k,0≤Ij r p k∧Ij r p k≤k
 |0=>by simp[Ij]
 |k+1=>by
  have:=VS r p k
  simp only[Ij]
  cases decide (p k>0)&& !r.c k (p k-1).toNat with
  |true=>simp only[cond_true];omega
  |false=>simp only[cond_false];omega
theorem kI(hV:fy K)(r:bH)(i:Nat)(p:Nat→Int):(-4≤(cW K r i p).gone∧(cW K r i p).gone≤4)∧(-4≤(cW K r i p).new∧(cW K r i p).new≤4)∧(0≤(cW K r i p).af∧(cW K r i p).af≤4):=by
 have h1:=VA p
 have h2:=VS r p 4
 have h3:=hV.before.1
 have h4:=hV.after.1
 simp only[cW]
 omega
def Fe(x:ai):Int:=x.gone+x.new+x.af
theorem arM{rows:List bH}{ro:Nat→Option Obj}(hK:gk ro l K)(hV:fy K)(hR:rows.length≤2)(hB:gZ ro l K rows):Bs zT 36 [.agg ⟨l⟩] ro [] (fun r Y=>∃zs,zs.Perm (dc K (bF K) (fun _=>true) rows)∧Y=[]∧((zs=[]∧r= .tuple ⟨[zI 0,zI 9]⟩)∨(zs≠[]∧r= .tuple ⟨[zI (uR (zs.map Fe)),zI 0]⟩))):=by
 obtain⟨v0,v1,v3,v4,v5,v6,v7,vb,fa,fc,hv,rfl,_⟩:=hK
 refine yG au [] [] a8 fun fr=>zD 2<|jn fun b1=>jd 6 [0]<|jc (vs:=[.agg ⟨[v0,v1,.slice fa 0 fc,v3,v4,v5,v6,v7,zI K.gone,zI K.new,zI K.af,vb]⟩]) [] (hB _ (Sub.refl _)) ?_
 rintro _ Y12 ⟨f12,rfl,auv⟩
 refine zD 5<|jf [0] Y12 (fun yp bW iL=>?_)
 have Bo:=auv _ bW iL
 refine zD 13<|jp (vs:=[zP f12]) [] [] (fun aB hs hZ=>Pg hV (Bo.up hs))<|Gd (vs:=[zP f12,.int .u8 (bF K),.func (.func 78) ⟨[]⟩ ⟨[]⟩]) [] (fun _ _ h=>h) (adP (keep:=fun _=>true) hV Bo hR (by kernel_rfl) (fun i r hr aI hs p hp=>akP)) ?_
 rintro v21 Y21 ⟨zs,ak7,aBc⟩
 have Ir:∀x∈zs,(-4≤x.gone∧x.gone≤4)∧(-4≤x.new∧x.new≤4)∧(0≤x.af∧x.af≤4):=fun x hx=>by obtain⟨i,r,p,_,_,rfl,_⟩:=eR (ak7.mem_iff.1 hx);exact kI hV r i p
 have S1:zs.length≤1250:=by rw[ak7.length_eq];exact lj hV _ _ hR
 refine zD 6<|Ao aBc<|zD 1<|jf [0] Y21 (fun ro6 ky Wz=>?_)
 have TH:=aBc.lR Wz
 obtain⟨mJ,BN,BL,lH,rfl,BM,yt,yq⟩:=TH
 refine zD 1<|zJ 24 ((zs.length:Int)=0) (fun h7=>?_) fun h7=>?_
 ·
  refine zD 7<|HG qC.a.a (.tuple ⟨[zI 0,zI 9]⟩) [1] [] (bW.trans ky) ⟨zs,ak7,rfl,.inl ⟨List.eq_nil_of_length_eq_zero (by omega),rfl⟩⟩
 refine zD 14<|pE<|dW [1,1,1,1,1,1,0,1,0,0] [] (fun(zz:Nat×Value×Cells)=>[(2,zI 0),(3,zI 0),(7,zz.2.1),(25,.slice mJ zs.length lH),(26,zI (zs.length:Int)),(27,zI (zz.1:Int))]) (fun(zz:Nat×Value×Cells)=>[.l zz.2.2,.b b1 (.cells ⟨[v0,v1,.slice fa 0 fc,v3,v4,v5,v6,v7,zI K.gone,zI K.new,zI K.af,vb]⟩ 40 (0,0)),.l fr]) (fun(zz:Nat×Value×Cells)=>zz.1≤zs.length∧aA zz.2.1 1 3 cv ((zs.take zz.1).map Fe) zz.2.2) (fun(zz:Nat×Value×Cells)=>zs.length-zz.1) (⟨0,zS,[]⟩) ⟨by dsimp only;omega,aA.nil _ _ _⟩ [0,1,2] ?_
 rintro⟨k,vS,LS⟩ hI K1 bK rest
 dsimp only at hI
 refine zD 5<|zJ 28 ((k:Int) <(zs.length:Int)) (fun h8=>?_) fun h8=>?_
 ·
  refine zD 6 ?_
  obtain⟨DC,Ap⟩:=zG zs k
  refine iK lH 8 yt Ap<|jl 0 (yq _ _ Ap)<|jn fun b9=>jd 2 [0] ?_
  have hg:=Ir _ (List.mem_of_getElem? Ap)
  refine jd 6 [0,0]<|ja (DC.gone+DC.new) (by omega)<|jd 2 [0]<|ja ((DC.gone+DC.new)+DC.af) (by omega)<|jn fun dk=>kL (sz:=1) (ps:=((zs.take k).map Fe)) (qs:=[((DC.gone+DC.new)+DC.af)]) (enc:=cv) (w:= .slice (some ⟨dk,0,none⟩) 1 1) [2] [0] [(dk,.cells ⟨([((DC.gone+DC.new)+DC.af)].map cv).flatten⟩ 3 (0,0))] (hI.2) (fun s _ hZ=>cb [((DC.gone+DC.new)+DC.af)] (hZ _ (.head _)) (by intro p hp;rfl)) (fun p _=>ar rfl) (by simp only[List.length_map,List.length_take,List.length_cons,List.length_nil];omega) (fun v41 L41 aeA=>?_)
  obtain⟨apG,apw,atz⟩:=aeA.form
  subst atz
  refine zD 3<|ja ((k:Int)+1) (by omega)<|zD 2<|bO bK (⟨k+1,(.slice apG ((((zs.take k).map Fe)++[((DC.gone+DC.new)+DC.af)])).length apw),L41⟩) ⟨by dsimp only;omega,by rw[jz Ap,List.map_append];exact aeA⟩ (by dsimp only;omega) [0,3,4] (Sub.refl _)
 refine zD 5<|jp (vs:=[vS]) [0] LS (fun aB hs hZ=>anW (hI.2.lR hZ) ⟨by simp only[List.length_map,List.length_take];omega,by simp only[List.length_map,List.length_take];omega⟩) ?_
 refine zD 5<|HG qC.a.a (.tuple ⟨[zI (uR ((zs.take k).map Fe)),zI 0]⟩) [2] [] (bW.trans ky) ⟨zs,ak7,rfl,.inr ⟨fun e=>by subst e;simp at*,by rw[show k=zs.length by omega,List.take_length]⟩⟩
def AR(ways:List (List aL))(w:List Int):List (List aL):=List.zipWith (fun l n=>(l.take (n.toNat+1)).drop n.toNat) ways w
theorem amn{ways:List (List aL)}{w:List Int}{l:List aL}{n:Int}(h1:ways[k]?=some l) (h2:w[k]?=some n):(AR ways w)[k]?=some ((l.take (n.toNat+1)).drop n.toNat):=by
 simp only[AR,List.getElem?_zipWith,h1,h2]
def lD(K:aM)(qN:List Int→aG→List ak)(w:List Int):bH:=⟨fun i j=>match K.before[i]?,K.after[j]? with
 |some x,some y=>decide (bG (pg y.st y.no 0) (qN w x) 0≥0)
 |_,_=>false⟩
def Es(F:Nat→Nat→Bool)(i j:Nat)(r:bH):Prop:=∀x y,r.c x y=((decide (x <i)||(decide (x=i)&&decide (y <j)))&&F x y)
theorem Es.set{r:bH}(h:Es F i j r):Es F i (j+1) (iU r i j (F i j)):=fun x y=>by
 simp only[iU]
 split
 ·rename_i hx;obtain⟨rfl,rfl⟩:=hx;simp
 rename_i hx
 rw[h x y]
 congr 2
 by_cases e:x=i
 ·subst e
  have:y≠j:=fun e2=>hx ⟨rfl,e2⟩
  simp only[decide_true,Bool.true_and]
  congr 1
  exact propext (by omega)
 simp[e]
theorem Es.nxt{r:bH}(hF:∀x y,n≤y→F x y=false)(h:Es F i n r):Es F (i+1) 0 r:=fun x y=>by
 rw[h x y]
 by_cases hy:y <n
 ·congr 1
  simp only[hy,decide_true,Bool.and_true,Nat.not_lt_zero,decide_false,Bool.and_false,Bool.or_false]
  rw[Bool.eq_iff_iff];simp;omega
 rw[hF x y (by omega)];simp
theorem Es.fin{r:bH}(hF:∀x y,n≤x→F x y=false)(h:Es F n 0 r):r=⟨F⟩:=by
 rcases r with ⟨c⟩
 congr 1
 funext x y
 have:=h x y
 dsimp only at this
 rw[this]
 by_cases hx:x <n
 ·simp[hx]
 rw[hF x y (by omega)];simp
theorem aqk{qN:List Int→aG→List ak}{w:List Int}(x y:Nat)(h:K.before.length≤x):(lD K qN w).c x y=false:=by simp only[lD,List.getElem?_eq_none h]
theorem aqj{qN:List Int→aG→List ak}{w:List Int}(x y:Nat)(h:K.after.length≤y):(lD K qN w).c x y=false:=by
 simp only[lD,List.getElem?_eq_none h]
 split
 ·rename_i h1;cases h1
 rfl
structure UD(K:aM)(W:List (List Int)):Prop where
 n:1≤W.length∧W.length≤2
 len:∀w∈W,w.length=K.ways.length
 rng:∀w∈W,∀(k:Nat) (l:List aL) (n:Int),K.ways[k]?=some l→w[k]?=some n→0≤n∧n <l.length
def xy(ro:Nat→Option Obj)(l:List Value)(K:aM)(W:List (List Int))(qN:List Int→aG→List ak):Prop:=∀w∈W,∀x∈K.before,(qN w x).length≤1000∧∀aB,Sub ro aB→∀v vS vT vU r,l=vS::vT::vU::r→nU aB v (AR K.ways w)→
 eE zT 85 [.agg ⟨[vS,v,vU]⟩,.agg ⟨[zI x.st,zI x.no,zI 0]⟩] aB [] (fun r Y=>∃a n c,r= .tuple ⟨[.slice a n c,zI 0]⟩∧∀lT,Knows lT Y→bE lT (.slice a n c) 3 cE (qN w x))
theorem arS{qN:List Int→aG→List ak}{ro:Nat→Option Obj}(hK:gk ro l K)(hO:mz K)(hV:fy K)(hW:UD K W)(h76:qI ro l W)(h47:xy ro l K W qN):eE zT 43 [.agg ⟨l⟩] ro [] (fun r Y=>∃f,r= .tuple ⟨[pV f,zI 0]⟩∧∀lT,Sub ro lT→Knows lT Y→pd lT f K (W.map (lD K qN))):=by
 have WN:=hK
 obtain⟨vS,vT,vc,vh,vr,vb,va,vf,fa,fc,hv,rfl,hS,hT,rh,oF,hr,hb,ha,hf⟩:=hK
 obtain⟨jk,hs,fT⟩:=id hS
 obtain⟨jO,ht,fK⟩:=id hT
 obtain⟨hc,hh,GI⟩:=id rh
 have u7:=hr
 have uW:=hb
 have ha0:=ha
 have hf0:=hf
 obtain⟨mZ,Vw,Vu,mh,rfl,Vv,Ol,Ok⟩:=hs
 obtain⟨fp,Bd,Bb,ep,rfl,Bc,tk,tj⟩:=ht
 obtain⟨eL,Bh,Bg,eH,rfl,DO,zb,za⟩:=hc
 obtain⟨dN,u4,u3,dD,rfl,xD,qV,qU⟩:=hh
 obtain⟨mj,Ld,Lc,mi,rfl,Om,Jh,Jg⟩:=hr
 obtain⟨mI,Rc,Ra,mA,rfl,Rb,Oq,Oo⟩:=hb
 obtain⟨mB,Ov,Ot,mr,rfl,Ou,Ni,Nh⟩:=ha
 obtain⟨jW,Bf,Be,iQ,rfl,DN,u6,u5⟩:=hf
 have Dh:=hO.rules
 have qO:=hO.before.1
 have PN:=hO.after.1
 have PM:=hO.facts.1
 have PK:=hO.ways.1
 have Iu:=fT.len
 have EO:=fK.len
 have Zf:=hO.rN.two
 have hl9:=hO.ee.nh
 have Q8:∀(i:Nat) (p:eG),([]:List eG)[i]?=some p→cy ⟨ro,[]⟩ 0 (0+i*6) 6 (oL p):=fun _ _ h=>pn h
 have hWn:=hW.n
 refine aOq au 83 [] [] a8<|zD 2<|jn fun b1=>jn fun b2=>jn fun b3=>zD 4<|jdf (f:=83) (ca:=[zP b2,zP b3])<|jd 5 [2]<|jn fun Hu=>jd 6 [2,3]<|jc (vs:=[.agg ⟨[.slice mZ jk.length mh,.slice fp jO.length ep,.slice fa 0 fc,.slice eL K.cs.length eH,.slice dN hv.length dD,.slice mj K.rules.length mi,.slice mI K.before.length mA,.slice mB K.after.length mr,zI K.gone,zI K.new,zI K.af,.slice jW K.facts.length iQ]⟩]) [] (arR WN hO hV ⟨hW.n.1,by have:=hW.n.2;omega⟩ h76) ?_
 rintro _ Y21 ⟨a21,n21,c21,rfl,bea,alf⟩
 refine zD 2<|jf [0] Y21 (fun yp bW iL=>?_)
 obtain⟨wsW,hWs,aou⟩:=alf _ iL
 obtain⟨qWa,qWb,qWo,qWc,heW,qWk,qWh,qWl⟩:=hWs
 simp only[Value.slice.injEq] at heW
 obtain⟨rfl,rfl,rfl⟩:=heW
 have hlW:=aou.len
 refine zD 2<|pE<|dW [1,1,1,0,1,0,0] [] (fun(zz:Nat×Value×Cells)=>[(1,zP b1),(2,zP b2),(3,zP b3),(21,.slice a21 wsW.length c21),(22,zI (wsW.length:Int)),(23,zI (zz.1:Int))]) (fun(zz:Nat×Value×Cells)=>[.l zz.2.2,.b Hu (.cells ⟨[.slice mZ jk.length mh,.slice fp jO.length ep,.slice fa 0 fc,.slice eL K.cs.length eH,.slice dN hv.length dD,.slice mj K.rules.length mi,.slice mI K.before.length mA,.slice mB K.after.length mr,zI K.gone,zI K.new,zI K.af,.slice jW K.facts.length iQ,zz.2.1]⟩ 128 (0,0)),.b b1 (.cells ⟨[.slice mZ jk.length mh,.slice fp jO.length ep,.slice fa 0 fc,.slice eL K.cs.length eH,.slice dN hv.length dD,.slice mj K.rules.length mi,.slice mI K.before.length mA,.slice mB K.after.length mr,zI K.gone,zI K.new,zI K.af,.slice jW K.facts.length iQ]⟩ 40 (0,0)),.b b2 (.cells ⟨[zP Hu]⟩ 104 (0,0)),.b b3 (.cells ⟨[zI 0]⟩ 46 (0,0))]) (fun(zz:Nat×Value×Cells)=>zz.1≤wsW.length∧aA zz.2.1 16 159 Cv ((W.take zz.1).map (lD K qN)) zz.2.2) (fun(zz:Nat×Value×Cells)=>wsW.length-zz.1) (⟨0,zS,[]⟩) ⟨by dsimp only;omega,aA.nil _ _ _⟩ [0,1,4,3,2] ?_
 rintro⟨k,vR,LR⟩ hI K1 bK rest
 dsimp only at hI
 refine zD 5<|zJ 24 ((k:Int) <(wsW.length:Int)) (fun h4=>?_) fun h4=>?_
 ·
  refine zD 6 ?_
  obtain⟨yd,lf⟩:=zG wsW k
  refine iK c21 1 qWh lf ?_
  obtain⟨vM,aBF,Zv⟩:=aou.get lf
  obtain⟨aNe,bcf,bcc,ayZ,rfl,bcd,aNd,aNc⟩:=Zv
  refine jl 0 (qWl _ _ lf)<|zD 3 ?_
  have hwm:=List.mem_of_getElem? aBF
  have hwl:=hW.len _ hwm
  refine jd 8 [2,2]<|jn fun b6=>jd 10 [0]<|pE<|dW [1,1,1,0,1,0,0,1,1,0,0,1,1,0,1,0,0] [K1] (fun(zz:Nat×Value×Cells×(List Value))=>[(1,zP b1),(2,zP b2),(3,zP b3),(6,zP b6),(21,.slice a21 wsW.length c21),(22,zI (wsW.length:Int)),(23,zI (k:Int)),(34,.slice aNe vM.length ayZ),(35,zI (vM.length:Int)),(36,zI (zz.1:Int))]) (fun(zz:Nat×Value×Cells×(List Value))=>[.l zz.2.2.1,.b b6 (.cells ⟨[.slice mZ jk.length mh,zz.2.1,.slice fa 0 fc]⟩ 31 (0,0)),.l LR,.b Hu (.cells ⟨[.slice mZ jk.length mh,.slice fp jO.length ep,.slice fa 0 fc,.slice eL K.cs.length eH,.slice dN hv.length dD,.slice mj K.rules.length mi,.slice mI K.before.length mA,.slice mB K.after.length mr,zI K.gone,zI K.new,zI K.af,.slice jW K.facts.length iQ,vR]⟩ 128 (0,0)),.b b1 (.cells ⟨[.slice mZ jk.length mh,.slice fp jO.length ep,.slice fa 0 fc,.slice eL K.cs.length eH,.slice dN hv.length dD,.slice mj K.rules.length mi,.slice mI K.before.length mA,.slice mB K.after.length mr,zI K.gone,zI K.new,zI K.af,.slice jW K.facts.length iQ]⟩ 40 (0,0)),.b b2 (.cells ⟨[zP Hu]⟩ 104 (0,0)),.b b3 (.cells ⟨[zI 0]⟩ 46 (0,0))]) (fun(zz:Nat×Value×Cells×(List Value))=>(zz.1≤vM.length∧zz.2.2.2.length=zz.1)∧aA zz.2.1 1 81 ir zz.2.2.2 zz.2.2.1∧dj (fun w l=>bE yp w 7 mV l) zz.2.2.2 ((AR K.ways vM).take zz.1)) (fun(zz:Nat×Value×Cells×(List Value))=>vM.length-zz.1) (⟨0,zS,[],[]⟩) ⟨⟨by dsimp only;omega,rfl⟩,aA.nil _ _ _,(by simp only[List.take_zero];exact dj.nil)⟩ [0,1,2,3,4,5,6] ?_
  rintro⟨j,vT,LT,es⟩ hJ K2 lg rest
  dsimp only at hJ
  refine zD 5<|zJ 37 ((j:Int) <(vM.length:Int)) (fun h5=>?_) fun h5=>?_
  ·
   refine zD 7 ?_
   obtain⟨EA,xG⟩:=zG vM j
   refine iK ayZ 1 aNd xG<|jl 0 (aNc _ _ xG)<|jd 10 [1,4] ?_
   obtain⟨x47,S6⟩:=zG jO j
   refine iK ep 1 tk S6<|zD 1 ?_
   obtain⟨l49,as1,h49⟩:=fK.get S6
   obtain hwr:=hW.rng _ hwm _ _ _ as1 xG
   obtain beg:=(hO.ways.2 _ (List.mem_of_getElem? as1)).1.2
   obtain⟨aM2,aM1,aMW,aM0,rfl,aMY,aMZ,aMX⟩:=h49
   refine jl 0 ((tj _ _ S6).ext (ub bW))<|zD 2<|ja (EA+1) (by omega)<|jcB (lo:=EA) (hi:=(EA+1)) ((show bE _ _ _ _ _ from ⟨aM2,aM1,aMW,aM0,rfl,aMY,aMZ,aMX⟩).up bW) (by omega) (fun v53 vY=>?_)
   obtain⟨Jf,ayy,ayu,Je,rfl,ayw,ayx,ayv⟩:=vY
   refine zD 1<|aO 14 fun tv tx rY=>jn fun b55=>bI rY [1,2,3,4,5,6,7]<|aO 15 fun uM uO sR=>kL (sz:=1) (ps:=es) (qs:=[(.slice Jf (((((l49).take (EA+1).toNat).drop EA.toNat)).length) Je:Value)]) (enc:=ir) (w:= .slice (some ⟨b55,0,none⟩) 1 1) [1] [0] [(b55,.cells ⟨([(.slice Jf (((((l49).take (EA+1).toNat).drop EA.toNat)).length) Je:Value)].map ir).flatten⟩ 81 (0,0))] (hJ.2.1) (fun s _ hZ=>cb [(.slice Jf (((((l49).take (EA+1).toNat).drop EA.toNat)).length) Je:Value)] (hZ _ (.head _)) (by intro p hp;rfl)) (by intro p hp;rw[List.mem_singleton] at hp;subst hp;exact ar rfl) (by simp<;>omega) (fun v56 L56 qm=>?_)
   obtain⟨NG,NC,Tw⟩:=qm.form
   subst Tw
   refine jA sR [[],[5]]<|zD 1<|aO 17 fun Dx DG Ef=>jd 1 [2]<|e8 Ef<|zD 2<|ja ((j:Int)+1) (by omega)<|zD 2<|bO lg (⟨j+1,(.slice NG ((es++[(.slice Jf (((((l49).take (EA+1).toNat).drop EA.toNat)).length) Je:Value)])).length NC),L56,(es++[(.slice Jf (((((l49).take (EA+1).toNat).drop EA.toNat)).length) Je:Value)])⟩) ⟨⟨by dsimp only;omega,by simp only[List.length_append,List.length_cons,List.length_nil];omega⟩,qm,by rw[jz (amn as1 xG)];exact hJ.2.2.snoc (by rw[show EA.toNat+1=(EA+1).toNat by omega];exact⟨Jf,ayy,ayu,Je,rfl,ayw,ayx,ayv⟩)⟩ (by dsimp only;omega) [0,2,3,4,5,6,7] (Sub.refl _)
  refine zD 3 ?_
  have hS6:dj (fun w l=>bE yp w 7 mV l) es (AR K.ways vM):=by have:=hJ.2.2;rwa[List.take_of_length_le (by simp only[AR,List.length_zipWith];omega)] at this
  refine zD 1<|jn fun b9=>jd 10 [5]<|dW [1,1,1,0,1,0,0,1,1,0,0,1,1,1,1,0,1,0,0] [K1] (fun(zz:Nat×bH)=>[(1,zP b1),(2,zP b2),(3,zP b3),(6,zP b6),(9,zP b9),(21,.slice a21 wsW.length c21),(22,zI (wsW.length:Int)),(23,zI (k:Int)),(60,.slice mI K.before.length mA),(61,zI (K.before.length:Int)),(62,zI (zz.1:Int))]) (fun(zz:Nat×bH)=>[.b b9 (.cells ⟨[.bool (zz.2.c 0 0),.bool (zz.2.c 0 1),.bool (zz.2.c 0 2),.bool (zz.2.c 0 3),.bool (zz.2.c 1 0),.bool (zz.2.c 1 1),.bool (zz.2.c 1 2),.bool (zz.2.c 1 3),.bool (zz.2.c 2 0),.bool (zz.2.c 2 1),.bool (zz.2.c 2 2),.bool (zz.2.c 2 3),.bool (zz.2.c 3 0),.bool (zz.2.c 3 1),.bool (zz.2.c 3 2),.bool (zz.2.c 3 3)]⟩ 159 (0,0)),.l LT,.b b6 (.cells ⟨[.slice mZ jk.length mh,vT,.slice fa 0 fc]⟩ 31 (0,0)),.l LR,.b Hu (.cells ⟨[.slice mZ jk.length mh,.slice fp jO.length ep,.slice fa 0 fc,.slice eL K.cs.length eH,.slice dN hv.length dD,.slice mj K.rules.length mi,.slice mI K.before.length mA,.slice mB K.after.length mr,zI K.gone,zI K.new,zI K.af,.slice jW K.facts.length iQ,vR]⟩ 128 (0,0)),.b b1 (.cells ⟨[.slice mZ jk.length mh,.slice fp jO.length ep,.slice fa 0 fc,.slice eL K.cs.length eH,.slice dN hv.length dD,.slice mj K.rules.length mi,.slice mI K.before.length mA,.slice mB K.after.length mr,zI K.gone,zI K.new,zI K.af,.slice jW K.facts.length iQ]⟩ 40 (0,0)),.b b2 (.cells ⟨[zP Hu]⟩ 104 (0,0)),.b b3 (.cells ⟨[zI 0]⟩ 46 (0,0))]) (fun(zz:Nat×bH)=>zz.1≤K.before.length∧Es (lD K qN vM).c zz.1 0 zz.2) (fun(zz:Nat×bH)=>K.before.length-zz.1) (⟨0,⟨fun _ _=>false⟩⟩) ⟨by dsimp only;omega,fun x y=>by simp⟩ [0,1,2,3,4,5,6,7] ?_
  rintro⟨i,r⟩ hQ K6 hK6 rest
  dsimp only at hQ
  refine zD 5<|zJ 63 ((i:Int) <(K.before.length:Int)) (fun h9=>?_) fun h9=>?_
  ·
   refine zD 7 ?_
   obtain⟨Nw,ad1⟩:=zG K.before i
   refine iK mA 5 Oq ad1<|jl 0 ((Oo _ _ ad1).ext (ub bW))<|jn fun Ry=>jd 7 [0,3,0]<|jp (vs:=[.agg ⟨[.string Nw.name,zI Nw.st,zI Nw.no,zI Nw.head,.bool Nw.bold]⟩]) [] [] (fun aB hs hZ=>Wa)<|aO 3 fun ai0 ajo TO=>jcL (vs:=[.agg ⟨[.slice mZ jk.length mh,vT,.slice fa 0 fc]⟩,.agg ⟨[zI Nw.st,zI Nw.no,zI 0]⟩]) [] [2] LT (fun aB hs hZ=>(h47 _ hwm _ (List.mem_of_getElem? ad1)).2 _ (bW.trans hs) _ _ _ _ _ rfl ⟨_,hJ.2.1.lR hZ,hS6.imp fun _ _ k=>k.up hs⟩) ?_
   rintro _ Y71 ⟨a71,n71,c71,rfl,aO8⟩
   refine bI TO [1,2,3,4,5,6,7,8,9]<|zD 9<|jp (vs:=[zI 0]) [] [] (fun aB hs hZ=>An)<|jf [0] Y71 (fun bbv aAM aQE=>?_)
   obtain⟨qPa,qPb,qPo,qPc,heP,qPk,qPh,qPl⟩:=aO8 _ aQE
   simp only[Value.slice.injEq] at heP
   obtain⟨rfl,rfl,rfl⟩:=heP
   refine jd 9 [6]<|dW [1,1,1,0,1,0,0,1,1,0,0,1,1,1,1,0,1,0,0,1,1,0,0,1,1,1,1,0,0] [K1,K6] (fun(zz:Nat×bH)=>[(1,zP b1),(2,zP b2),(3,zP b3),(6,zP b6),(9,zP b9),(10,zI (i:Int)),(12,.slice a71 ((qN vM Nw).length) c71),(21,.slice a21 wsW.length c21),(22,zI (wsW.length:Int)),(23,zI (k:Int)),(60,.slice mI K.before.length mA),(61,zI (K.before.length:Int)),(62,zI (i:Int)),(77,.slice mB K.after.length mr),(78,zI (K.after.length:Int)),(79,zI (zz.1:Int))]) (fun(zz:Nat×bH)=>[.b b9 (.cells ⟨[.bool (zz.2.c 0 0),.bool (zz.2.c 0 1),.bool (zz.2.c 0 2),.bool (zz.2.c 0 3),.bool (zz.2.c 1 0),.bool (zz.2.c 1 1),.bool (zz.2.c 1 2),.bool (zz.2.c 1 3),.bool (zz.2.c 2 0),.bool (zz.2.c 2 1),.bool (zz.2.c 2 2),.bool (zz.2.c 2 3),.bool (zz.2.c 3 0),.bool (zz.2.c 3 1),.bool (zz.2.c 3 2),.bool (zz.2.c 3 3)]⟩ 159 (0,0)),.b Ry (.cells ⟨[.string Nw.name,zI Nw.st,zI Nw.no,zI Nw.head,.bool Nw.bold]⟩ 44 (0,0)),.l LT,.b b6 (.cells ⟨[.slice mZ jk.length mh,vT,.slice fa 0 fc]⟩ 31 (0,0)),.l LR,.b Hu (.cells ⟨[.slice mZ jk.length mh,.slice fp jO.length ep,.slice fa 0 fc,.slice eL K.cs.length eH,.slice dN hv.length dD,.slice mj K.rules.length mi,.slice mI K.before.length mA,.slice mB K.after.length mr,zI K.gone,zI K.new,zI K.af,.slice jW K.facts.length iQ,vR]⟩ 128 (0,0)),.b b1 (.cells ⟨[.slice mZ jk.length mh,.slice fp jO.length ep,.slice fa 0 fc,.slice eL K.cs.length eH,.slice dN hv.length dD,.slice mj K.rules.length mi,.slice mI K.before.length mA,.slice mB K.after.length mr,zI K.gone,zI K.new,zI K.af,.slice jW K.facts.length iQ]⟩ 40 (0,0)),.b b2 (.cells ⟨[zP Hu]⟩ 104 (0,0)),.b b3 (.cells ⟨[zI 0]⟩ 46 (0,0))]) (fun(zz:Nat×bH)=>zz.1≤K.after.length∧Es (lD K qN vM).c i zz.1 zz.2) (fun(zz:Nat×bH)=>K.after.length-zz.1) (⟨0,r⟩) ⟨by dsimp only;omega,hQ.2⟩ [1,0,2,3,4,5,6,7,8] ?_
   rintro⟨j,r⟩ hU K8 hK8 rest
   dsimp only at hU
   refine zD 5<|zJ 80 ((j:Int) <(K.after.length:Int)) (fun Qb=>?_) fun Qb=>?_
   ·
    refine zD 7 ?_
    obtain⟨Ez,S4⟩:=zG K.after j
    refine iK mr 5 Ni S4<|jl 0 ((Nh _ _ S4).ext (ub (bW.trans aAM)))<|jn fun me=>jd 3 [0] ?_
    have hRW:(lD K qN vM).c i j=decide (bG (pg Ez.st Ez.no 0) (qN vM Nw) 0≥0):=by simp only[lD,ad1,S4]
    refine jd 5 [0]<|Gc (b:=b9) (off:=0) (len:=4) (sz:=4) (i:Int) (by omega)<|jp (vs:=[.agg ⟨[.string Ez.name,zI Ez.st,zI Ez.no,zI Ez.head,.bool Ez.bold]⟩]) [] [] (fun aB hs hZ=>Wa)<|jp (vs:=[.slice a71 ((qN vM Nw).length) c71,.agg ⟨[zI Ez.st,zI Ez.no,zI 0]⟩]) [] [] (fun aB hs hZ=>JM ((show bE _ _ _ _ _ from ⟨a71,qPb,qPo,c71,rfl,qPk,qPh,qPl⟩).up hs) (h47 _ hwm _ (List.mem_of_getElem? ad1)).1)<|Gc (b:=b9) (off:=0+(i:Int).toNat*4) (len:=4) (sz:=1) (j:Int) (by omega)<|aO 8 fun aaF abj Zo=>jsx 1 b9 (0+(i:Int).toNat*4+(j:Int).toNat*1) [.bool (r.c 0 0),.bool (r.c 0 1),.bool (r.c 0 2),.bool (r.c 0 3),.bool (r.c 1 0),.bool (r.c 1 1),.bool (r.c 1 2),.bool (r.c 1 3),.bool (r.c 2 0),.bool (r.c 2 1),.bool (r.c 2 2),.bool (r.c 2 3),.bool (r.c 3 0),.bool (r.c 3 1),.bool (r.c 3 2),.bool (r.c 3 3)] [.bool (decide (bG (pg Ez.st Ez.no 0) (qN vM Nw) 0≥0))] 159 (by intro v hv;rw[List.mem_singleton] at hv;subst hv;rfl) (Vm (r:=r) (by omega) (by omega)) ?_
    refine jmw 0 [.b b9 (.cells ⟨[.bool ((iU r i j ((lD K qN vM).c i j)).c 0 0),.bool ((iU r i j ((lD K qN vM).c i j)).c 0 1),.bool ((iU r i j ((lD K qN vM).c i j)).c 0 2),.bool ((iU r i j ((lD K qN vM).c i j)).c 0 3),.bool ((iU r i j ((lD K qN vM).c i j)).c 1 0),.bool ((iU r i j ((lD K qN vM).c i j)).c 1 1),.bool ((iU r i j ((lD K qN vM).c i j)).c 1 2),.bool ((iU r i j ((lD K qN vM).c i j)).c 1 3),.bool ((iU r i j ((lD K qN vM).c i j)).c 2 0),.bool ((iU r i j ((lD K qN vM).c i j)).c 2 1),.bool ((iU r i j ((lD K qN vM).c i j)).c 2 2),.bool ((iU r i j ((lD K qN vM).c i j)).c 2 3),.bool ((iU r i j ((lD K qN vM).c i j)).c 3 0),.bool ((iU r i j ((lD K qN vM).c i j)).c 3 1),.bool ((iU r i j ((lD K qN vM).c i j)).c 3 2),.bool ((iU r i j ((lD K qN vM).c i j)).c 3 3)]⟩ 159 (0,0))] (L:=[(b9,.cells ⟨du [.bool (r.c 0 0),.bool (r.c 0 1),.bool (r.c 0 2),.bool (r.c 0 3),.bool (r.c 1 0),.bool (r.c 1 1),.bool (r.c 1 2),.bool (r.c 1 3),.bool (r.c 2 0),.bool (r.c 2 1),.bool (r.c 2 2),.bool (r.c 2 3),.bool (r.c 3 0),.bool (r.c 3 1),.bool (r.c 3 2),.bool (r.c 3 3)] (0+(i:Int).toNat*4+(j:Int).toNat*1) [.bool (decide (bG (pg Ez.st Ez.no 0) (qN vM Nw) 0≥0))]⟩ 159 (0,0))]) (by rw[Vk (by omega) (by omega),hRW];rfl) ?_
    refine jA Zo []<|zD 2<|ja ((j:Int)+1) (by omega)<|zD 2<|bO hK8 (⟨j+1,(iU r i j ((lD K qN vM).c i j))⟩) ⟨by dsimp only;omega,hU.2.set⟩ (by dsimp only;omega) [0,2,3,4,5,6,7,8,9] (Sub.refl _)
   refine zD 3<|ja ((i:Int)+1) (by omega)<|zD 2<|bO hK6 (⟨i+1,r⟩) ⟨by dsimp only;omega,Es.nxt (fun x y h=>aqj x y h) (by have:=hU.2;rwa[show j=K.after.length by omega] at this)⟩ (by dsimp only;omega) [0,2,3,4,5,6,7,8] aAM
  refine jd 9 [6,6,4,0]<|aO 6 fun IN IV yS=>jn fun aGp=>bI yS [1,2,3,4,5,6,7,8]<|aO 7 fun Nv NR GH=>kL (sz:=16) (ps:=((W.take k).map (lD K qN))) (qs:=[(r:bH)]) (enc:=Cv) (w:= .slice (some ⟨aGp,0,none⟩) 1 1) [4] [0] [(aGp,.cells ⟨([(r:bH)].map Cv).flatten⟩ 159 (0,0))] (hI.2) (fun s _ hZ=>cb [(r:bH)] (hZ _ (.head _)) (by intro p hp;rfl)) (fun p _=>ar rfl) (by simp only[List.length_map,List.length_take,List.length_cons,List.length_nil];omega) (fun ba9 aVl Ww=>?_)
  obtain⟨axl,axe,aB6⟩:=Ww.form
  subst aB6
  refine jA GH [[7],[7]]<|zD 2<|aO 10 fun UQ U2 GG=>jd 1 [5]<|jA GG []<|zD 2<|ja ((k:Int)+1) (by omega)<|zD 2<|bO bK (⟨k+1,(.slice axl ((((W.take k).map (lD K qN))++[(r:bH)])).length axe),aVl⟩) ⟨by dsimp only;omega,by rw[jz aBF,List.map_append];have e:=Es.fin (fun x y h=>aqk x y h) (by have:=hQ.2;rwa[show i=K.before.length by omega] at this);subst e;exact Ww⟩ (by dsimp only;omega) [0,5,6,7,8] (Sub.refl _)
 refine jd 9 [3,3,4]<|jrD (g:=83) (ca:=[zP b2,zP b3]) ⟨rfl,rfl⟩ (.tuple ⟨[zP Hu,zI 0]⟩) [3,4] [1,0] ((Hu,.cells ⟨[.slice mZ jk.length mh,.slice fp jO.length ep,.slice fa 0 fc,.slice eL K.cs.length eH,.slice dN hv.length dD,.slice mj K.rules.length mi,.slice mI K.before.length mA,.slice mB K.after.length mr,zI K.gone,zI K.new,zI K.af,.slice jW K.facts.length iQ,vR]⟩ 128 (0,0))::LR) 9 bW ⟨_,_,rfl,rfl,Hu,rfl,fun lT hs hk=>⟨_,_,_,_,_,_,_,_,_,_,hv,hk _ (.head _),rh.up hs,oF,u7.up hs,uW.up hs,ha0.up hs,hf0.up hs,by have:=hI.2;rw[List.take_of_length_le (by omega)] at this;exact this.lR hk.tail⟩⟩
theorem Q1.v(h:Q1 K):fy K where
 rules:=⟨by have:=h.rules.1;omega,fun r hr=>aqh (h.rules.2 r hr)⟩
 before:=⟨by have:=h.before.1;omega,fun p hp=>by
  obtain⟨h1,h2,_⟩:=(h.before.2 p hp).1
  exact⟨⟨⟨h1.1.1,by have:=h1.1.2;omega⟩,h1.2⟩,h2⟩⟩
 after:=⟨by have:=h.after.1;omega,fun p hp=>by
  obtain⟨h1,h2,_⟩:=(h.after.2 p hp).1
  exact⟨⟨⟨h1.1.1,by have:=h1.1.2;omega⟩,h1.2⟩,h2⟩⟩
 ee:=h.ee.v
 facts:=⟨by have:=h.facts.1;omega,h.facts.2⟩
theorem qI.up{ro aI:Nat→Option Obj}(h:qI ro l W)(hs:Sub ro aI):qI aI l W:=fun aB h1=>h aB (hs.trans h1)
theorem xy.up{ro aI:Nat→Option Obj}{qN:List Int→aG→List ak}(h:xy ro l K W qN)(hs:Sub ro aI):xy aI l K W qN:=fun w hw x hx=>⟨(h w hw x hx).1,fun aB h1=>(h w hw x hx).2 aB (hs.trans h1)⟩
theorem amF{qN:List Int→aG→List ak}{ro:Nat→Option Obj}(hK:gk ro l K)(hO:mz K)(hV:fy K)(hW:UD K W)(h76:qI ro l W)(h47:xy ro l K W qN):gZ ro l K (W.map (lD K qN)):=
 fun aB hs=>arS (hK.up hs) hO hV hW (h76.up hs) (h47.up hs)
def qS(a b:Int):Int:=if a <b then-1 else if a>b then 1 else 0
def orL:List Int→Int
 | []=>0
 |x::l=>if x=0 then orL l else x
theorem acv{l:List Int}{x:Int}(h:l[k]?=some x):orL (l.drop k)=if x=0 then orL (l.drop (k+1)) else x:=by rw[fN h];rfl
theorem aj2{l:List Int}(h:¬k <l.length):orL (l.drop k)=0:=by rw[eA h];rfl
def ZL(x y:ah):Int:=orL [qS x.n y.n,qS x.l y.l]
theorem amt{x y:ah}(h:ajW x y):ZL x y <0:=by
 rcases h with h| ⟨h1,h2⟩
 ·have e:qS x.n y.n= -1:=if_pos h
  simp[ZL,orL,e]
 have e:qS x.n y.n=0:=by simp only[qS];rw[if_neg (by omega),if_neg (by omega)]
 have e2:qS x.l y.l= -1:=if_pos h2
 simp[ZL,orL,e,e2]
theorem aFn{a:Int}{ro:Nat→Option Obj}:de zT 181 [zI a] ro (.bool false):=by
 refine bA au [] [] a8<|zD 12<|aE q0 (.bool (!decide (a=a))) [] [] [] (Sub.refl _) ⟨_,_,rfl,rfl,by simp,rfl⟩
theorem auN{a b:Int}{ro:Nat→Option Obj}:de zT 153 [zI a,zI b] ro (zI (qS a b)):=by
 refine bA au [] [] a8<|zD 7<|jp (vs:=[zI a]) [] [] (fun aB hs hZ=>aFn)<|zD 5<|jp (vs:=[zI b]) [] [] (fun aB hs hZ=>aFn)<|zD 23<|zJ 16 (a <b) (fun h1=>?_) fun h1=>?_
 ·
  refine zD 6<|aE q0 (zI (-1)) [] [] [] (Sub.refl _) ⟨_,_,rfl,rfl,by simp only[qS];first|rw[if_pos (by omega)]|rw[if_neg (by omega),if_pos (by omega)]|rw[if_neg (by omega),if_neg (by omega)],rfl⟩
 refine zD 9<|zJ 19 (a>b) (fun h2=>?_) fun h2=>?_
 ·
  refine zD 6<|aE q0 (zI 1) [] [] [] (Sub.refl _) ⟨_,_,rfl,rfl,by simp only[qS];first|rw[if_pos (by omega)]|rw[if_neg (by omega),if_pos (by omega)]|rw[if_neg (by omega),if_neg (by omega)],rfl⟩
 refine zD 7<|aE q0 (zI 0) [] [] [] (Sub.refl _) ⟨_,_,rfl,rfl,by simp only[qS];first|rw[if_pos (by omega)]|rw[if_neg (by omega),if_pos (by omega)]|rw[if_neg (by omega),if_neg (by omega)],rfl⟩
theorem gOr{v:Value}{ro:Nat→Option Obj}(hl:bE ro v 1 cv xs)(hn:xs.length≤1000):de zT 200 [v] ro (zI (orL xs)):=by
 obtain⟨fI,rM,rK,eX,rfl,tG,lG,mH⟩:=hl
 refine bA au [] [] a8<|zD 16<|dW [1,1,0,1,0,0] [] (fun(zz:Nat)=>[(3,zI 0),(6,.slice fI xs.length eX),(7,zI (xs.length:Int)),(8,zI (zz:Int))]) (fun(zz:Nat)=>[]) (fun(zz:Nat)=>zz≤xs.length∧orL xs=orL (xs.drop zz)) (fun(zz:Nat)=>xs.length-zz) 0 ⟨by omega,rfl⟩ [] ?_
 rintro k hI K1 bK rest
 refine zD 5<|zJ 9 ((k:Int) <(xs.length:Int)) (fun h1=>?_) fun h1=>?_
 ·
  refine zD 6 ?_
  obtain⟨x10,rQ⟩:=zG xs k
  refine iK eX 1 lG rQ<|jl 0 (mH _ _ rQ)<|zD 8<|js 14 (!decide (x10=0)) (fun h2=>?_) (fun h2=>?_)
  ·
   replace h2:=of_decide_eq_false (by simpa using h2)
   refine zD 7<|aE q0 (zI x10) [] [] [] (Sub.refl _) ⟨_,_,rfl,rfl,by rw[hI.2,acv rQ,if_neg (by simp_all)],rfl⟩
  replace h2:=of_decide_eq_true (by simpa using h2)
  refine zD 3<|ja ((k:Int)+1) (by omega)<|zD 2<|bO bK (k+1) ⟨by omega,by rw[hI.2,acv rQ,if_pos (by simp_all)]⟩ (by omega) [] (Sub.refl _)
 refine zD 8<|aE q0 (zI 0) [] [] [] (Sub.refl _) ⟨_,_,rfl,rfl,by rw[hI.2,aj2 (by omega)],rfl⟩
theorem aoJ{x y:ah}{ro:Nat→Option Obj}:de zT 201 [.agg ⟨[zI x.n,zI x.l]⟩,.agg ⟨[zI y.n,zI y.l]⟩] ro (zI (ZL x y)):=by
 refine bA au [] [] a8<|zD 2<|jn fun b2=>jn fun b3=>jd 12 [1,0,1,0]<|jp (vs:=[zI x.n,zI y.n]) [] [] (fun aB hs hZ=>auN)<|jp (vs:=[zI x.l,zI y.l]) [] [] (fun aB hs hZ=>auN)<|aO 10 fun Dz DJ Bn=>jn fun me=>bI Bn [1,2]<|jp (vs:=[.slice (some ⟨me,0,none⟩) 2 2]) [0] [(me,.cells ⟨([(qS x.n y.n),(qS x.l y.l)].map cv).flatten⟩ 3 (0,0))] (fun aB hs hZ=>gOr (bQ [(qS x.n y.n),(qS x.l y.l)] hZ.head (by intro p hp;rfl)) (by first|omega| (simp only[List.length_set,List.length_append,List.length_cons,List.length_nil];omega))) ?_
 refine zD 3<|aE q0 (zI (orL [(qS x.n y.n),(qS x.l y.l)])) [] [] [] (Sub.refl _) ⟨_,_,rfl,rfl,rfl,rfl⟩
theorem AA{n lo hi:Int}{ro:Nat→Option Obj}:de zT 188 [zI n,zI lo,zI hi] ro (.bool (iu n lo hi)):=by
 refine bA au [] [] a8<|zD 10<|jj 4 [(6,.bool false),(14,.bool ((decide (lo≤n))&&(decide (n≤hi))))] (fun gT=>?_) (fun hj=>?_)
 rotate_left
 refine js 10 (decide (lo≤n)) (fun h1=>?_) (fun h1=>?_)
 ·
  have gx:=h1
  replace gx:=of_decide_eq_true gx
  refine zD 4<|jw 14 (.bool ((decide (lo≤n))&&(decide (n≤hi)))) (w:= .bool (decide (n≤hi))) (by rw[h1]<;>rfl) ?_
  exact hj _ (by kernel_rfl) (by kernel_rfl)
 ·
  have gx:=h1
  replace gx:=of_decide_eq_false gx
  refine zD 4<|jw 14 (.bool ((decide (lo≤n))&&(decide (n≤hi)))) (w:= .bool false) (by rw[h1]<;>rfl) ?_
  exact hj _ (by kernel_rfl) (by kernel_rfl)
 refine zD 3<|aE q0 (.bool ((decide (lo≤n))&&(decide (n≤hi)))) [] [] [] (Sub.refl _) ⟨_,_,rfl,rfl,rfl,rfl⟩
theorem auI{x:ah}{ro:Nat→Option Obj}(hx:A3 x):de zT 190 [.agg ⟨[zI x.n,zI x.l]⟩] ro (.bool true):=by
 obtain⟨⟨hx1,hx2⟩,hx3,hx4⟩:=hx
 refine bA au [] [] a8<|zD 2<|jn fun b1=>jd 6 [0]<|jp (vs:=[zI x.n,zI 1,zI 40]) [] [] (fun aB hs hZ=>AA)<|zD 1<|jj 4 [(2,.bool false),(10,.bool ((iu x.n 1 40)&&(iu x.l 0 4)))] (fun gT=>?_) (fun hj=>?_)
 rotate_left
 refine js 6 (iu x.n 1 40) (fun h1=>?_) (fun h1=>?_)
 ·
  refine jd 2 [0]<|jp (vs:=[zI x.l,zI 0,zI 4]) [] [] (fun aB hs hZ=>AA)<|zD 1<|jw 10 (.bool ((iu x.n 1 40)&&(iu x.l 0 4))) (w:= .bool (iu x.l 0 4)) (by rw[h1]<;>rfl) ?_
  exact hj _ (by kernel_rfl) (by kernel_rfl)
 ·
  refine zD 4<|jw 10 (.bool ((iu x.n 1 40)&&(iu x.l 0 4))) (w:= .bool false) (by rw[h1]<;>rfl) ?_
  exact hj _ (by kernel_rfl) (by kernel_rfl)
 refine zD 3<|aE q0 (.bool ((iu x.n 1 40)&&(iu x.l 0 4))) [] [] [] (Sub.refl _) ⟨_,_,rfl,rfl,by simp only[iu,Value.bool.injEq,Bool.and_eq_true,decide_eq_true_eq];omega,rfl⟩
theorem auO{v:Value}{S:List (List ah)}{ro:Nat→Option Obj}(hS:cR ro v S)(hO:e9 S):de zT 187 [.agg ⟨[v]⟩] ro (zI 0):=by
 obtain⟨ws,ht,cY⟩:=hS
 obtain⟨fp,Bd,Bb,ep,rfl,Bc,tk,tj⟩:=ht
 have hln:=cY.len
 have Iq:=hO.two
 refine bA au [] [] a8<|zD 2<|jn fun b1=>jd 10 [0]<|zJ 10 ((ws.length:Int)=0) (fun h1=>?_) fun h1=>?_
 ·
  exfalso;omega
 refine jd 10 [0]<|zJ 14 ((ws.length:Int)>3) (fun h2=>?_) fun h2=>?_
 ·
  exfalso;omega
 refine jd 11 [0]<|dW [1,1,1,0,1,0,0] [] (fun(zz:Nat)=>[(16,.slice fp ws.length ep),(17,zI (ws.length:Int)),(18,zI (zz:Int))]) (fun(zz:Nat)=>[.b b1 (.cells ⟨[.slice fp ws.length ep]⟩ 27 (0,0))]) (fun(zz:Nat)=>zz≤ws.length) (fun(zz:Nat)=>ws.length-zz) 0 (by omega) [0] ?_
 rintro k hI K1 bK rest
 refine zD 5<|zJ 19 ((k:Int) <(ws.length:Int)) (fun h3=>?_) fun h3=>?_
 ·
  refine zD 6 ?_
  obtain⟨x20,Mg⟩:=zG ws k
  refine iK ep 1 tk Mg ?_
  obtain⟨l21,as3,h21⟩:=cY.get Mg
  obtain bej:=hO.len _ (List.mem_of_getElem? as3)
  obtain aPk:=hO.ok _ (List.mem_of_getElem? as3)
  obtain alf:=hO.asc _ (List.mem_of_getElem? as3)
  obtain⟨ay7,bci,bcg,ajT,rfl,bch,ay6,ay5⟩:=h21
  refine jl 0 (tj _ _ Mg)<|zD 9<|zJ 24 ((l21.length:Int)>8) (fun h4=>?_) fun h4=>?_
  ·
   exfalso;omega
  refine zD 9<|dW [1,1,1,0,1,0,0,1,1,0,0,1,1,1,0,0] [K1] (fun(zz:Nat)=>[(4,.slice ay7 l21.length ajT),(16,.slice fp ws.length ep),(17,zI (ws.length:Int)),(18,zI (k:Int)),(25,.slice ay7 l21.length ajT),(26,zI (l21.length:Int)),(27,zI (zz:Int))]) (fun(zz:Nat)=>[.b b1 (.cells ⟨[.slice fp ws.length ep]⟩ 27 (0,0))]) (fun(zz:Nat)=>zz≤l21.length) (fun(zz:Nat)=>l21.length-zz) 0 (by omega) [0] ?_
  rintro i hJ K2 lg rest
  refine zD 5<|zJ 28 ((i:Int) <(l21.length:Int)) (fun h5=>?_) fun h5=>?_
  ·
   refine zD 7 ?_
   obtain⟨oP,ki⟩:=zG l21 i
   refine iK ajT 2 ay6 ki<|jl 0 (ay5 _ _ ki)<|jn fun b6=>jd 7 [0,0]<|jp (vs:=[.agg ⟨[zI oP.n,zI oP.l]⟩]) [] [] (fun aB hs hZ=>(auI (x:=oP) (aPk _ (List.mem_of_getElem? ki))))<|zD 9<|js 2 (decide ((i:Int)>0)) (fun h6=>?_) (fun h6=>?_)
   ·
    have h6g:=h6
    replace h6g:=of_decide_eq_true h6g
    refine zD 2<|ja ((i:Int)-1) (by omega) ?_
    obtain⟨x41,ar7⟩:=zG l21 (((i:Int)-1).toNat)
    refine Nk ((i:Int)-1) ajT 2 ay6 ar7 (by omega)<|jl 0 (ay5 _ _ ar7)<|jd 1 [0]<|jp (vs:=[.agg ⟨[zI x41.n,zI x41.l]⟩,.agg ⟨[zI oP.n,zI oP.l]⟩]) [] [] (fun aB hs hZ=>(aoJ (x:=x41) (y:=oP)))<|zD 3<|zJ 46 ((ZL x41 oP)≥0) (fun h7=>?_) fun h7=>?_
    ·
     exfalso;have:=amt (p8 alf (show ((i:Int)-1).toNat <i by omega) ar7 ki);simp_all;omega
    refine zD 3<|ja ((i:Int)+1) (by omega)<|zD 2<|bO lg (i+1) (by omega) (by omega) [1] (Sub.refl _)
   have h6g:=h6
   replace h6g:=of_decide_eq_false h6g
   refine zD 13<|ja ((i:Int)+1) (by omega)<|zD 2<|bO lg (i+1) (by omega) (by omega) [1] (Sub.refl _)
  refine zD 3<|ja ((k:Int)+1) (by omega)<|zD 2<|bO bK (k+1) (by omega) (by omega) [0] (Sub.refl _)
 refine zD 7<|aE q0 (zI 0) [] [] [] (Sub.refl _) ⟨_,_,rfl,rfl,rfl,rfl⟩
abbrev oU(x:ak):Value:= .agg ⟨cE x⟩
instance:DecidableEq ak:=fun x y=>match x,y with
 | ⟨a,b,c⟩,⟨d,e,f⟩=>if h:a=d∧b=e∧c=f then isTrue (by obtain⟨rfl,rfl,rfl⟩:=h;rfl) else isFalse fun k=>h (by cases k;exact⟨rfl,rfl,rfl⟩)
def mL(s:Int)(x:ah):ak:=⟨s,x.n,x.l⟩
def Ps(S:List (List ah)):Nat→List ak
 |0=>[]
 |k+1=>Ps S k++(match S[k]? with
  |some l=>l.map (mL k)
  |none=>[])
def bC(S:List (List ah)):List ak:=Ps S S.length
theorem asp{S:List (List ah)}{l:List ah}(h:S[k]?=some l):Ps S (k+1)=Ps S k++l.map (mL k):=by simp only[Ps,h]
theorem EK{S:List (List ah)}{x:ak}:∀ {k:Nat},x∈Ps S k↔∃j l p,j <k∧S[j]?=some l∧p∈l∧x=mL j p
 |0=>by simp[Ps]
 |k+1=>by
  simp only[Ps,List.mem_append,EK (k:=k)]
  constructor
  ·rintro(⟨j,l,p,h1,h2⟩|h)
   ·exact⟨j,l,p,by omega,h2⟩
   split at h
   ·rename_i l hl
    obtain⟨p,hp,rfl⟩:=List.mem_map.1 h
    exact⟨k,l,p,by omega,hl,hp,rfl⟩
   cases h
  rintro⟨j,l,p,h1,h2,h3,rfl⟩
  by_cases hj:j=k
  ·subst hj;rw[h2];exact .inr (List.mem_map_of_mem h3)
  exact .inl ⟨j,l,p,by omega,h2,h3,rfl⟩
theorem Gu{S:List (List ah)}{l:List ah}{p:ah}(h1:S[j]?=some l) (h2:p∈l):mL j p∈bC S:=EK.2 ⟨j,l,p,(List.getElem?_eq_some_iff.1 h1).1,h1,h2,rfl⟩
theorem Ta{S:List (List ah)}(hO:e9 S):∀k,(Ps S k).Nodup
 |0=>List.nodup_nil
 |k+1=>by
  simp only[Ps]
  refine List.nodup_append.2 ⟨Ta hO k,?_,fun x hx y hy e=>?_⟩
  ·split
   ·rename_i l hl
    refine List.pairwise_map.2 ((hO.asc l (List.mem_of_getElem? hl)).imp fun {a b} h e=>?_)
    simp only[mL,ak.mk.injEq] at e
    rcases h with h|h<;>omega
   exact List.nodup_nil
  subst e
  obtain⟨j,l,p,h1,_,_,rfl⟩:=EK.1 hx
  split at hy
  ·obtain⟨q,_,hq⟩:=List.mem_map.1 hy
   simp only[mL,ak.mk.injEq] at hq
   omega
  cases hy
theorem Mi{S:List (List ah)}(hO:e9 S):∀k,(Ps S k).length≤4*k
 |0=>by simp[Ps]
 |k+1=>by
  have:=Mi hO k
  simp only[Ps,List.length_append]
  split
  ·rename_i l hl
   have:=hO.len l (List.mem_of_getElem? hl)
   rw[List.length_map];omega
  simp;omega
theorem tY{S:List (List ah)}(hO:e9 S):(bC S).length≤8:=by
 have:=Mi hO S.length
 have:=hO.two
 unfold bC;omega
theorem aFH(a b:ak):EqD zT 10000 164 (oU a) (oU b) (decide (a=b)):=by
 have h:=(uf (nn Tryz.typeInfo164 Tryz.underlying164 rfl rfl rfl rfl rfl rfl) Tryz.stoodInHeld164 (.cons (by decide) (j9 mE rfl) (j9 mE rfl) (n8 mE _ _) (.cons (by decide) (FG (nn Tryz.typeInfo73 Tryz.underlying73 rfl rfl rfl rfl rfl rfl) rfl) (FG (nn Tryz.typeInfo73 Tryz.underlying73 rfl rfl rfl rfl rfl rfl) rfl) (agV _ _ _ _ 9997) .nil)):EqD zT 10000 164 (oU a) (oU b) _)
 have e:(a.h==b.h&&((a.n==b.n&&(a.l==b.l&&true))&&true))=decide (a=b):=by
  rcases a with ⟨x,y,z⟩;rcases b with ⟨u,v,w⟩
  rw[Bool.eq_iff_iff];simp
 rwa[e] at h
theorem aUa(a:ak):CkD zT 10000 164 (oU a):=
 QH (nn Tryz.typeInfo164 Tryz.underlying164 rfl rfl rfl rfl rfl rfl) (.cons (by decide) (j9 mE rfl) (Hb mE _) (.cons (by decide) (FG (nn Tryz.typeInfo73 Tryz.underlying73 rfl rfl rfl rfl rfl rfl) rfl) (QH (dep:=9998) (nn Tryz.typeInfo73 Tryz.underlying73 rfl rfl rfl rfl rfl rfl) (.cons (by decide) (j9 mE rfl) (Hb mE _) (.cons (by decide) (j9 mE rfl) (Hb mE _) .nil))) .nil))
theorem De:Q3 zT 164 oU:=adu (nn Tryz.typeInfo164 Tryz.underlying164 rfl rfl rfl rfl rfl rfl) (fun k=>⟨_,rfl⟩) aUa aFH (fun k=>by simp[Instr.sameBits])
def MV(Z:Cells)(F:List (ak×Value))(g:ak→ak):Prop:=∀aI,Knows aI Z→∀x∈F,bE aI x.2 3 cE [g x.1]
theorem GQ[DecidableEq κ]{k:κ}:∀ {F:List (κ×Value)} {i:Nat},k∈F.map (·.1)→∃j v,sa k F i=some (j,v)
 | [],_,h=>by cases h
 |x::F,i,h=>by
  simp only[sa]
  split
  ·exact⟨_,_,rfl⟩
  rename_i hk
  refine GQ ?_
  rcases List.mem_cons.1 h with h|h
  ·exact absurd h hk
  exact h
theorem VZ[DecidableEq κ]{k:κ}{F:List (κ×Value)}(h:k∈F.map (·.1)):∃v,lkM k F=some v∧(k,v)∈F:=by
 obtain⟨j,v,h1⟩:=GQ (i:=0) h
 exact⟨v,by simp[lkM,h1],List.mem_of_getElem? (qz h1).2⟩
theorem abc[DecidableEq κ]{k:κ}{v:Value}{F:List (κ×Value)}(h:k∉F.map (·.1)):mg k v F=F++[(k,v)]:=by
 have:sa k F 0=none:=by
  cases hf:sa k F 0 with
  |none=>rfl
  |some y=>exact absurd (List.mem_map_of_mem (f:=(·.1)) (List.mem_of_getElem? (qz (j:=y.1) (v:=y.2) hf).2)) h
 simp only[mg,this]
theorem NK[DecidableEq κ]{k:κ}{v:Value}{F:List (κ×Value)}(h:k∈F.map (·.1))(hn:(F.map (·.1)).Nodup):(mg k v F).map (·.1)=F.map (·.1)∧∀x∈mg k v F,x=(k,v)∨(x∈F∧x.1≠k):=by
 obtain⟨j,u,h1⟩:=GQ (i:=0) h
 have h2:=(qz h1).2
 rw[Nat.sub_zero] at h2
 obtain⟨hj,Rp⟩:=List.getElem?_eq_some_iff.1 h2
 simp only[mg,h1,EE]
 refine⟨?_,fun x hx=>?_⟩
 ·rw[List.map_set]
  refine List.ext_getElem? fun i=>?_
  rw[List.getElem?_set]
  split
  ·rename_i hi;subst hi;simp[h2,hj,Rp]
  rfl
 obtain⟨i,hi⟩:=List.getElem?_of_mem hx
 rw[List.getElem?_set] at hi
 split at hi
 ·cases hi;exact .inl rfl
 rename_i HM
 refine .inr ⟨List.mem_of_getElem? hi,fun e=>HM ?_⟩
 obtain⟨hi1,Tu⟩:=List.getElem?_eq_some_iff.1 hi
 exact(List.getElem_inj (xs:=F.map (·.1)) (h₀:=by simpa using hj) (h₁:=by simpa using hi1) hn).1 (by simp[Rp,Tu,e])
theorem MV.set{F:List (ak×Value)}{g:ak→ak}(h:MV Z F g){k y:ak}{v:Value}(hk:k∈F.map (·.1))(hn:(F.map (·.1)).Nodup)(hv:∀aI,Knows aI Z2→bE aI v 3 cE [y]):MV (Z++Z2) (mg k v F) (fun x=>if x=k then y else g x):=fun aI hr x hx=>by
 rcases(NK hk hn).2 x hx with rfl| ⟨h1,h2⟩
 ·simp only[if_true];exact hv aI hr.right
 simp only[h2,if_false];exact h aI hr.left x h1
theorem MV.add{F:List (ak×Value)}{g:ak→ak}(h:MV Z F g){k:ak}{v:Value}(hv:∀aI,Knows aI Z2→bE aI v 3 cE [g k]):MV (Z++Z2) (F++[(k,v)]) g:=fun aI hr x hx=>by
 rcases List.mem_append.1 hx with h1|h1
 ·exact h aI hr.left x h1
 rw[List.mem_singleton] at h1;subst h1;exact hv aI hr.right
theorem aFz{v:Value}{ro:Nat→Option Obj}(hl:bE ro v 1 cv xs)(hn:xs.length≤1000):eE zT 101 [v] ro [] (fun r Y=>aA r 1 3 cv xs Y):=by
 obtain⟨fI,rM,rK,eX,rfl,tG,lG,mH⟩:=hl
 refine bA au [] [] a8<|zD 8<|jsn 22 (a:=fI) (l:=xs.length) (c:=eX)<|zD 1<|js 4 (fI.isNone) (fun h1=>?_) (fun h1=>?_)
 ·
  refine zD 6<|aE q0 (zS) [] [] [] (Sub.refl _) ⟨_,_,rfl,rfl,by rw[q6 lG (by assumption)];exact aA.nil _ _ _⟩
 refine zD 4<|jn fun b5=>zD 1<|kL (sz:=1) (ps:=[]) (qs:=xs) (enc:=cv) (w:= .slice fI xs.length eX) [0] [] [] (cJ (b:=b5) (T:=3)) (fun s he _=>⟨fI,rM,rK,eX,rfl,lG,fun i p hp=>(mH i p hp).ext he⟩) (fun p _=>ar rfl) (by simp<;>omega) (fun v7 L7 iG=>?_)
 rw[List.nil_append] at iG
 obtain⟨RM,RG,PY⟩:=iG.form
 subst PY
 refine zD 3<|aE q0 ((.slice RM (xs).length RG)) [] [0] L7 (Sub.refl _) ⟨_,_,rfl,rfl,iG⟩
theorem aTN{v:Value}{xs:List ah}{ro:Nat→Option Obj}(hl:bE ro v 2 cO xs)(hn:xs.length≤1000):eE zT 97 [v] ro [] (fun r Y=>aA r 2 73 cO xs Y):=by
 obtain⟨fI,rM,rK,eX,rfl,tG,lG,mH⟩:=hl
 refine bA au [] [] a8<|zD 8<|jsn 74 (a:=fI) (l:=xs.length) (c:=eX)<|zD 1<|js 4 (fI.isNone) (fun h1=>?_) (fun h1=>?_)
 ·
  refine zD 6<|aE q0 (zS) [] [] [] (Sub.refl _) ⟨_,_,rfl,rfl,by rw[q6 lG (by assumption)];exact aA.nil _ _ _⟩
 refine zD 4<|jn fun b5=>zD 1<|kL (sz:=2) (ps:=[]) (qs:=xs) (enc:=cO) (w:= .slice fI xs.length eX) [0] [] [] (cJ (b:=b5) (T:=73)) (fun s he _=>⟨fI,rM,rK,eX,rfl,lG,fun i p hp=>(mH i p hp).ext he⟩) (fun p _=>ar rfl) (by simp<;>omega) (fun v7 L7 iG=>?_)
 rw[List.nil_append] at iG
 obtain⟨RM,RG,PY⟩:=iG.form
 subst PY
 refine zD 3<|aE q0 ((.slice RM (xs).length RG)) [] [0] L7 (Sub.refl _) ⟨_,_,rfl,rfl,iG⟩
theorem aTO{v:Value}{xs:List ak}{ro:Nat→Option Obj}(hl:bE ro v 3 cE xs)(hn:xs.length≤1000):eE zT 159 [v] ro [] (fun r Y=>aA r 3 164 cE xs Y):=by
 obtain⟨fI,rM,rK,eX,rfl,tG,lG,mH⟩:=hl
 refine bA au [] [] a8<|zD 8<|jsn 160 (a:=fI) (l:=xs.length) (c:=eX)<|zD 1<|js 4 (fI.isNone) (fun h1=>?_) (fun h1=>?_)
 ·
  refine zD 6<|aE q0 (zS) [] [] [] (Sub.refl _) ⟨_,_,rfl,rfl,by rw[q6 lG (by assumption)];exact aA.nil _ _ _⟩
 refine zD 4<|jn fun b5=>zD 1<|kL (sz:=3) (ps:=[]) (qs:=xs) (enc:=cE) (w:= .slice fI xs.length eX) [0] [] [] (cJ (b:=b5) (T:=164)) (fun s he _=>⟨fI,rM,rK,eX,rfl,lG,fun i p hp=>(mH i p hp).ext he⟩) (fun p _=>ar rfl) (by simp<;>omega) (fun v7 L7 iG=>?_)
 rw[List.nil_append] at iG
 obtain⟨RM,RG,PY⟩:=iG.form
 subst PY
 refine zD 3<|aE q0 ((.slice RM (xs).length RG)) [] [0] L7 (Sub.refl _) ⟨_,_,rfl,rfl,iG⟩
theorem al7{v:Value}{S:List (List ah)}{ro:Nat→Option Obj}(hS:cR ro v S)(hO:e9 S):eE zT 197 [.agg ⟨[v]⟩] ro [] (fun r Y=>∃a n c,r= .agg ⟨[.slice a n c]⟩∧∀aI,Knows aI Y→cR aI (.slice a n c) S):=by
 obtain⟨ws,ht,cY⟩:=hS
 obtain⟨fp,Bd,Bb,ep,rfl,Bc,tk,tj⟩:=ht
 have hln:=cY.len
 have Iq:=hO.two
 refine bA au [] [] a8<|zD 2<|jn fun b1=>jn fun b2=>zD 4<|jn fun b3=>jd 11 [0,2]<|pE<|pE<|dW [1,1,0,1,0,0] [] (fun(zz:Nat×Value×Cells×(List Value)×Cells)=>[(2,zP b2),(3,zP b3),(8,.slice fp ws.length ep),(9,zI (ws.length:Int)),(10,zI (zz.1:Int))]) (fun(zz:Nat×Value×Cells×(List Value)×Cells)=>[.b b3 (.cells ⟨[zz.2.1]⟩ 27 (0,0)),.l zz.2.2.1,.l zz.2.2.2.2,.b b2 (.cells ⟨[zS]⟩ 27 (0,0)),.b b1 (.cells ⟨[.slice fp ws.length ep]⟩ 27 (0,0))]) (fun(zz:Nat×Value×Cells×(List Value)×Cells)=>(zz.1≤ws.length∧zz.2.2.2.1.length=zz.1)∧aA zz.2.1 1 74 ir zz.2.2.2.1 zz.2.2.1∧∀aI,Knows aI zz.2.2.2.2→dj (fun w l=>bE aI w 2 cO l) zz.2.2.2.1 (S.take zz.1)) (fun(zz:Nat×Value×Cells×(List Value)×Cells)=>ws.length-zz.1) (⟨0,zS,[],[],[]⟩) ⟨⟨by dsimp only;omega,rfl⟩,aA.nil _ _ _,fun _ _=> .nil⟩ [2,1,0,3,4] ?_
 rintro⟨k,vO,LO,es,Z⟩ hI K1 bK rest
 dsimp only at hI
 refine zD 5<|zJ 11 ((k:Int) <(ws.length:Int)) (fun h1=>?_) fun h1=>?_
 ·
  refine zD 6 ?_
  obtain⟨th,qk⟩:=zG ws k
  refine iK ep 1 tk qk ?_
  obtain⟨l13,aBI,xe⟩:=cY.get qk
  obtain aBv:=hO.len _ (List.mem_of_getElem? aBI)
  obtain⟨azg,aNI,aNE,azf,rfl,aNG,aNH,aNF⟩:=xe
  refine jl 0 (tj _ _ qk)<|jd 6 [0]<|aO 3 fun Dy DI Ck=>jc (vs:=[.slice azg l13.length azf]) [] (aTN (show bE _ _ _ _ _ from ⟨azg,aNI,aNE,azf,rfl,aNG,aNH,aNF⟩) (by first|omega| (simp only[List.length_set,List.length_append,List.length_cons,List.length_nil];omega))) ?_
  rintro v17 L17 Cd
  obtain⟨zr,zp,PZ⟩:=Cd.form
  subst PZ
  refine bI Ck [1,2,3,4,5]<|aO 4 fun tv tx rY=>jn fun fE=>bI rY [1,2,3,4,5,6]<|aO 5 fun uM uO sR=>kL (sz:=1) (ps:=es) (qs:=[((.slice zr (l13).length zp):Value)]) (enc:=ir) (w:= .slice (some ⟨fE,0,none⟩) 1 1) [3] [0] [(fE,.cells ⟨([((.slice zr (l13).length zp):Value)].map ir).flatten⟩ 74 (0,0))] (hI.2.1) (fun s _ hZ=>cb [((.slice zr (l13).length zp):Value)] (hZ _ (.head _)) (by intro p hp;rfl)) (by intro p hp;rw[List.mem_singleton] at hp;subst hp;exact ar rfl) (by simp<;>omega) (fun v19 L19 aeG=>?_)
  obtain⟨aKV,aKw,aRi⟩:=aeG.form
  subst aRi
  refine jA sR []<|zD 1<|aO 7 fun Dx DG Ef=>jd 1 [3]<|e8 Ef<|zD 2<|ja ((k:Int)+1) (by omega)<|zD 2<|Nl bK (⟨k+1,(.slice aKV ((es++[((.slice zr (l13).length zp):Value)])).length aKw),L19,(es++[((.slice zr (l13).length zp):Value)]),L17++Z⟩) ⟨⟨by dsimp only;omega,by simp only[List.length_append,List.length_cons,List.length_nil];omega⟩,aeG,fun aI hk=>xw (hI.2.2 aI hk.right) aBI (Cd.lR hk.left)⟩ (by dsimp only;omega) [[3],[0],[2,4],[5],[6]] (Sub.refl _)
 refine jd 5 [0] ?_
 obtain⟨va6,vc6,he6⟩:=hI.2.1.form
 subst he6
 refine jd 3 [3]<|aE q0 (.agg ⟨[(.slice va6 (es).length vc6)]⟩) [3] [1,2] (LO++Z) (Sub.refl _) ⟨_,_,rfl,rfl,_,_,_,rfl,fun aI hk=>⟨es,hI.2.1.lR hk.left,by have:=hI.2.2 aI hk.right;rwa[List.take_of_length_le (by omega)] at this⟩⟩
theorem WU{v:Value}{S:List (List ah)}{ro:Nat→Option Obj}(hS:cR ro v S)(hO:e9 S):eE zT 189 [.agg ⟨[v]⟩] ro [] (fun r Y=>aA r 3 164 cE (bC S) Y):=by
 obtain⟨ws,ht,cY⟩:=hS
 obtain⟨fp,Bd,Bb,ep,rfl,Bc,tk,tj⟩:=ht
 have hln:=cY.len
 have Iq:=hO.two
 refine bA au [] [] a8<|zD 2<|jn fun b1=>jd 15 [0]<|pE<|dW [1,1,0,1,0,0] [] (fun(zz:Nat×Value×Cells)=>[(2,zS),(3,zz.2.1),(9,.slice fp ws.length ep),(10,zI (ws.length:Int)),(11,zI (zz.1:Int))]) (fun(zz:Nat×Value×Cells)=>[.l zz.2.2,.b b1 (.cells ⟨[.slice fp ws.length ep]⟩ 27 (0,0))]) (fun(zz:Nat×Value×Cells)=>zz.1≤ws.length∧aA zz.2.1 3 164 cE (Ps S zz.1) zz.2.2) (fun(zz:Nat×Value×Cells)=>ws.length-zz.1) (⟨0,zS,[]⟩) ⟨by dsimp only;omega,aA.nil _ _ _⟩ [0,1] ?_
 rintro⟨k,vO,LO⟩ hI K1 bK rest
 dsimp only at hI
 refine zD 5<|zJ 12 ((k:Int) <(ws.length:Int)) (fun h1=>?_) fun h1=>?_
 ·
  refine zD 7 ?_
  obtain⟨dZ,dw⟩:=zG ws k
  refine iK ep 1 tk dw ?_
  obtain⟨Pe,Zg,GK⟩:=cY.get dw
  obtain aQr:=hO.len _ (List.mem_of_getElem? Zg)
  obtain⟨aqM,aND,aNB,acb,rfl,aNC,aqL,aqK⟩:=GK
  refine jl 0 (tj _ _ dw)<|zD 10<|dW [1,1,0,1,0,0,1,1,0,0,1,1,0,0] [K1] (fun(zz:Nat×Value×Cells)=>[(2,zS),(3,zz.2.1),(4,zI (k:Int)),(9,.slice fp ws.length ep),(10,zI (ws.length:Int)),(11,zI (k:Int)),(16,.slice aqM Pe.length acb),(17,zI (Pe.length:Int)),(18,zI (zz.1:Int))]) (fun(zz:Nat×Value×Cells)=>[.l zz.2.2,.b b1 (.cells ⟨[.slice fp ws.length ep]⟩ 27 (0,0))]) (fun(zz:Nat×Value×Cells)=>zz.1≤Pe.length∧aA zz.2.1 3 164 cE (Ps S k++(Pe.take zz.1).map (mL k)) zz.2.2) (fun(zz:Nat×Value×Cells)=>Pe.length-zz.1) (⟨0,vO,LO⟩) ⟨by dsimp only;omega,by simpa using hI.2⟩ [0,1] ?_
  rintro⟨i,vO,LO⟩ hJ K2 lg rest
  dsimp only at hJ
  refine zD 5<|zJ 19 ((i:Int) <(Pe.length:Int)) (fun h2=>?_) fun h2=>?_
  ·
   refine zD 6 ?_
   obtain⟨x20,Mg⟩:=zG Pe i
   refine iK acb 2 aqL Mg<|jl 0 (aqK _ _ Mg)<|jn fun b7=>jd 7 [0,0]<|jn fun b26=>kL (sz:=3) (ps:=(Ps S k++(Pe.take i).map (mL k))) (qs:=[(⟨(k:Int),x20.n,x20.l⟩:ak)]) (enc:=cE) (w:= .slice (some ⟨b26,0,none⟩) 1 1) [2] [0] [(b26,.cells ⟨([(⟨(k:Int),x20.n,x20.l⟩:ak)].map cE).flatten⟩ 164 (0,0))] (hJ.2) (fun s _ hZ=>cb [(⟨(k:Int),x20.n,x20.l⟩:ak)] (hZ _ (.head _)) (by intro p hp;rfl)) (fun p _=>ar rfl) (by have:=Mi hO k;simp only[List.length_append,List.length_map,List.length_take,List.length_cons,List.length_nil];omega) (fun v27 L27 aeE=>?_)
   obtain⟨aKR,aKs,aRf⟩:=aeE.form
   subst aRf
   refine zD 3<|ja ((i:Int)+1) (by omega)<|zD 2<|bO lg (⟨i+1,(.slice aKR (((Ps S k++(Pe.take i).map (mL k))++[(⟨(k:Int),x20.n,x20.l⟩:ak)])).length aKs),L27⟩) ⟨by dsimp only;omega,by rw[fx Mg,List.map_append,←List.append_assoc];exact aeE⟩ (by dsimp only;omega) [0,3] (Sub.refl _)
  refine zD 3<|ja ((k:Int)+1) (by omega)<|zD 2<|bO bK (⟨k+1,vO,LO⟩) ⟨by dsimp only;omega,by rw[asp Zg];have:=hJ.2;rwa[List.take_of_length_le (by omega)] at this⟩ (by dsimp only;omega) [0,1] (Sub.refl _)
 refine zD 8<|aE q0 (vO) [] [0] LO (Sub.refl _) ⟨_,_,rfl,rfl,by have:=hI.2;rwa[show k=S.length by omega] at this⟩
theorem RR{l:List α}{x:α}(hn:l.Nodup)(h:l[k]?=some x):x∉l.take k:=fun hx=>by
 obtain⟨hk,he⟩:=List.getElem?_eq_some_iff.1 h
 obtain⟨i,hi⟩:=List.getElem?_of_mem hx
 have hik:i <k:=by have:=(List.getElem?_eq_some_iff.1 hi).1;rw[List.length_take] at this;omega
 rw[List.getElem?_take_of_lt hik] at hi
 obtain⟨hi1,Tu⟩:=List.getElem?_eq_some_iff.1 hi
 have:=(List.getElem_inj (h₀:=hi1) (h₁:=hk) hn).1 (Tu.trans he.symm)
 omega
def xE(n:Int):Bool:= !decide (Int.tmod n 2=0)
def Ei(n:Int):Bool:=decide (Int.tmod n 2=0)
theorem rk{p:α→Bool}{l:List α}{x:α}(h:l[i]?=some x):(l.take (i+1)).filter p=(l.take i).filter p++bif p x then [x] else []:=by
 rw[fx h,List.filter_append]
 cases hp:p x<;>simp[hp]
def q9(l:List ah):List (List ah):=[l.filter fun x=>xE x.n,l.filter fun x=>Ei x.n]
theorem afu{l h:List ah}{x:ah}(hh:h∈q9 l)(hx:x∈h):x∈l:=by
 simp only[q9,List.mem_cons,List.not_mem_nil,or_false] at hh
 rcases hh with rfl|rfl<;>exact(List.mem_filter.1 hx).1
theorem afv{l h:List ah}(hh:h∈q9 l):h.length≤l.length:=by
 simp only[q9,List.mem_cons,List.not_mem_nil,or_false] at hh
 rcases hh with rfl|rfl<;>exact List.length_filter_le _ _
def H5(s:Int)(h:List ah):List (ak×ak):=(h.zip h.reverse).map fun p=>(mL s p.1,mL s p.2)
def abd(s:Int)(l:List ah):List (ak×ak):=(q9 l).flatMap (H5 s)
def I0(s:Int)(l:List ah):List (ak×ak):=l.map fun x=>(mL s x,⟨s,if xE x.n=true then x.n+1 else x.n-1,x.l⟩)
def rJ(l:List ah):Int:=match l[l.length-1]? with
 |some y=>y.n+Int.tmod y.n 2
 |none=>0
def JN(s o:Int)(l:List ah)(r:Int):List (ak×ak):=l.map fun x=>(mL s x,⟨o,x.n+r,x.l⟩)
def gU(u:List (ak×ak))(x:ak):ak:=u.foldl (fun y p=>if x=p.1 then p.2 else y) x
theorem al4(u:List (ak×ak))(a b:ak):gU (u++[(a,b)])=fun x=>if x=a then b else gU u x:=by
 funext x;simp only[gU,List.foldl_append,List.foldl_cons,List.foldl_nil]
theorem ajD{s:Int}{h:List ah}{x y:ah}(hx:h[i]?=some x) (hy:h[(((h.length:Int)-1)-(i:Int)).toNat]?=some y):(H5 s h)[i]?=some (mL s x,mL s y):=by
 have hi:=(List.getElem?_eq_some_iff.1 hx).1
 have h2:h.reverse[i]?=some y:=by rw[List.getElem?_reverse hi,←hy];congr 1;omega
 have:=(List.getElem?_zip_eq_some (z:=(x,y))).2 ⟨hx,h2⟩
 simp only[H5,List.getElem?_map,this];rfl
theorem abR(s:Int)(h:List ah):(H5 s h).length=h.length:=by simp[H5]
theorem ac5{β:Type}{f:α→β}{l:List α}{x:α}(h:l[i]?=some x):(l.map f)[i]?=some (f x):=by rw[List.getElem?_map,h];rfl
theorem amb{β:Type}{f:α→List β}{l:List α}{x:α}(h:l[i]?=some x):(l.take (i+1)).flatMap f=(l.take i).flatMap f++f x:=by rw[fx h,List.flatMap_append,List.flatMap_singleton]
theorem MV.upd{S:List (List ah)}(hO:e9 S){F:List (ak×Value)}{u:List (ak×ak)}{l:List ah}{x:ah}{y:ak}{b:Nat}{T:TypeId}(h:MV Z F (gU u))(hk:F.map (·.1)=bC S)(hl:S[s]?=some l) (hx:x∈l):
 MV (Z++[(b,.cells ⟨cE y⟩ T (0,0))]) (mg (mL s x) (.slice (some ⟨b,0,none⟩) 1 1) F) (gU (u++[(mL s x,y)]))∧(mg (mL s x) (.slice (some ⟨b,0,none⟩) 1 1) F).map (·.1)=bC S:=by
 have hm:mL s x∈F.map (·.1):=by rw[hk];exact Gu hl hx
 have hn:(F.map (·.1)).Nodup:=by rw[hk];exact Ta hO _
 rw[al4]
 exact⟨h.set hm hn fun aI hk=>bQ [y] (hk _ (.head _)) (fun _ _=>rfl),(NK hm hn).1.trans hk⟩
theorem N3{S:List (List ah)}(hO:e9 S){F:List (ak×Value)}{x:ak}{b:Nat}{T:TypeId}(h:MV Z F id)(hk:F.map (·.1)=(bC S).take k)(hx:(bC S)[k]?=some x):
 MV (Z++[(b,.cells ⟨cE x⟩ T (0,0))]) (mg x (.slice (some ⟨b,0,none⟩) 1 1) F) id∧(mg x (.slice (some ⟨b,0,none⟩) 1 1) F).map (·.1)=(bC S).take (k+1):=by
 have:x∉F.map (·.1):=by rw[hk];exact RR (Ta hO _) hx
 rw[abc this]
 exact⟨h.add fun aI hk=>bQ [x] (hk _ (.head _)) (fun _ _=>rfl),by rw[List.map_append,hk,fx hx];rfl⟩
theorem J7{v:Value}{S:List (List ah)}{ro:Nat→Option Obj}(hS:cR ro v S)(hO:e9 S):eE zT 198 [.agg ⟨[v]⟩] ro [] (fun r Y=>∃rm F LM Z,r= .map (some rm)∧Y=LM++Z∧jV rm oU F LM∧F.map (·.1)=bC S∧MV Z F id):=by
 have xU:=hS
 obtain⟨ws,ht,cY⟩:=hS
 obtain⟨fp,Bd,Bb,ep,rfl,Bc,tk,tj⟩:=ht
 have hln:=cY.len
 have Iq:=hO.two
 have hhl:=tY hO
 refine bA au [] [] a8<|zD 2<|jn fun b1=>zD 4<|jmk oU fun r6 L6 hm6=>jd 6 [1]<|jc (vs:=[.agg ⟨[.slice fp ws.length ep]⟩]) [] (WU xU hO) ?_
 rintro v8 L8 ho8
 refine Ao ho8<|zD 1<|jf [0] L8 (fun yp bW iL=>?_)
 have hzh:=ho8.lR iL
 obtain⟨aML,bbF,bbD,ayn,rfl,bbE,aMK,aMJ⟩:=hzh
 refine zD 2<|pE<|dW [1,1,0,1,0,0] [] (fun(zz:Nat×(List (ak×Value))×Cells×Cells)=>[(2,(.map none)),(3,(.map (some r6))),(8,.slice aML ((bC S).length) ayn),(9,zI ((bC S).length:Int)),(10,zI (zz.1:Int))]) (fun(zz:Nat×(List (ak×Value))×Cells×Cells)=>[.l zz.2.2.1,.l zz.2.2.2,.b b1 (.cells ⟨[.slice fp ws.length ep]⟩ 27 (0,0))]) (fun(zz:Nat×(List (ak×Value))×Cells×Cells)=>zz.1≤(bC S).length∧jV r6 oU zz.2.1 zz.2.2.1∧zz.2.1.map (·.1)=(bC S).take zz.1∧MV zz.2.2.2 zz.2.1 id) (fun(zz:Nat×(List (ak×Value))×Cells×Cells)=>(bC S).length-zz.1) (⟨0,[],L6,[]⟩) ⟨by dsimp only;omega,hm6,rfl,fun _ _ _ h=>(by cases h)⟩ [1,0,2] ?_
 rintro⟨k,F,LM,Z⟩ hI K1 bK rest
 dsimp only at hI
 refine zD 5<|zJ 11 ((k:Int) <((bC S).length:Int)) (fun h4=>?_) fun h4=>?_
 ·
  refine zD 6 ?_
  obtain⟨th,qk⟩:=zG ((bC S)) k
  refine iK ayn 3 aMK qk<|jl 0 (aMJ _ _ qk)<|jn fun b5=>jd 6 [0,0,0]<|jn fun b17=>jmu (kv:=oU) (F:=F) (r:=r6) (K:=164) 2 th (.slice (some ⟨b17,0,none⟩) 1 1) De hI.2.1 fun Lm5 hm5=>zD 2<|ja ((k:Int)+1) (by omega)<|zD 2<|Nl bK (⟨k+1,_,Lm5,Z++[(b17,.cells ⟨[zI th.h,zI th.n,zI th.l]⟩ 164 (0,0))]⟩) ⟨by dsimp only;omega,hm5,(N3 (T:=164) hO hI.2.2.2 hI.2.2.1 qk).2,(N3 (T:=164) hO hI.2.2.2 hI.2.2.1 qk).1⟩ (by dsimp only;omega) [[0],[3,1],[4]] (Sub.refl _)
 refine zD 8<|aE q0.a ((.map (some r6))) [] [0,1] (LM++Z) bW ⟨_,_,rfl,rfl,_,F,LM,Z,rfl,rfl,hI.2.1,by rw[hI.2.2.1,List.take_of_length_le (by omega)],hI.2.2.2⟩
theorem gAt{h n l:Int}{ro:Nat→Option Obj}:de zT 263 [zI h,zI n,zI l] ro (.agg ⟨[zI h,zI n,zI l]⟩):=by
 refine bA au [] [] a8<|zD 2<|jn fun b6=>jd 11 [0]<|aE q0 (.agg ⟨[zI h,zI n,zI l]⟩) [0] [] [] (Sub.refl _) ⟨_,_,rfl,rfl,rfl,rfl⟩
theorem aFm{x:ah}{ro:Nat→Option Obj}:de zT 261 [.agg ⟨[zI x.n,zI x.l]⟩] ro (.bool (xE x.n)):=by
 refine bA au [] [] a8<|zD 2<|jn fun b1=>jd 11 [0]<|aE q0 (.bool (!decide ((Int.tmod x.n 2)=0))) [] [] [] (Sub.refl _) ⟨_,_,rfl,rfl,rfl,rfl⟩
theorem ags{v:Value}{l:List ah}{ro:Nat→Option Obj}(hl:bE ro v 2 cO l)(hn:l.length≤4):eE zT 260 [v,.func (.func 261) ⟨[]⟩ ⟨[]⟩] ro [] (fun r Y=>aA r 2 73 cO (l.filter fun x=>xE x.n) Y):=by
 obtain⟨fI,rM,rK,eX,rfl,tG,lG,mH⟩:=hl
 refine bA au [] [] a8<|zD 16<|pE<|dW [1,1,0,1,0,0] [] (fun(zz:Nat×Value×Cells)=>[(1,.func (.func 261) ⟨[]⟩ ⟨[]⟩),(4,zS),(5,zz.2.1),(8,.slice fI l.length eX),(9,zI (l.length:Int)),(10,zI (zz.1:Int))]) (fun(zz:Nat×Value×Cells)=>[.l zz.2.2]) (fun(zz:Nat×Value×Cells)=>zz.1≤l.length∧aA zz.2.1 2 73 cO ((l.take zz.1).filter fun x=>xE x.n) zz.2.2) (fun(zz:Nat×Value×Cells)=>l.length-zz.1) (⟨0,zS,[]⟩) ⟨by dsimp only;omega,aA.nil _ _ _⟩ [0] ?_
 rintro⟨k,vO,LO⟩ hI K1 bK rest
 dsimp only at hI
 refine zD 5<|zJ 11 ((k:Int) <(l.length:Int)) (fun h1=>?_) fun h1=>?_
 ·
  refine zD 6 ?_
  obtain⟨th,qk⟩:=zG l k
  refine iK eX 2 lG qk<|jl 0 (mH _ _ qk)<|jn fun b7=>jd 6 [0,0]<|jp (vs:=[.agg ⟨[zI th.n,zI th.l]⟩]) [] [] (fun aB hs hZ=>(aFm (x:=th)))<|zD 1<|js 16 (xE th.n) (fun h2=>?_) (fun h2=>?_)
  ·
   refine jd 4 [0]<|jn fun Hu=>kL (sz:=2) (ps:=((l.take k).filter fun x=>xE x.n)) (qs:=[(⟨th.n,th.l⟩:ah)]) (enc:=cO) (w:= .slice (some ⟨Hu,0,none⟩) 1 1) [2] [0] [(Hu,.cells ⟨([(⟨th.n,th.l⟩:ah)].map cO).flatten⟩ 73 (0,0))] (hI.2) (fun s _ hZ=>cb [(⟨th.n,th.l⟩:ah)] (hZ _ (.head _)) (by intro p hp;rfl)) (fun p _=>ar rfl) (by have:=List.length_filter_le (fun x:ah=>xE x.n) (l.take k);rw[List.length_take] at this;simp only[List.length_cons,List.length_nil];omega) (fun v20 L20 Gt=>?_)
   obtain⟨apK,apA,atE⟩:=Gt.form
   subst atE
   refine zD 3<|ja ((k:Int)+1) (by omega)<|zD 2<|bO bK (⟨k+1,(.slice apK ((((l.take k).filter fun x=>xE x.n)++[(⟨th.n,th.l⟩:ah)])).length apA),L20⟩) ⟨by dsimp only;omega,by rw[rk qk,show xE th.n=true from (by assumption)];exact Gt⟩ (by dsimp only;omega) [0] (Sub.refl _)
  refine zD 3<|ja ((k:Int)+1) (by omega)<|zD 2<|bO bK (⟨k+1,vO,LO⟩) ⟨by dsimp only;omega,by rw[rk qk,show xE th.n=false from (by assumption)];simpa using hI.2⟩ (by dsimp only;omega) [1] (Sub.refl _)
 refine zD 8<|aE q0 (vO) [] [0] LO (Sub.refl _) ⟨_,_,rfl,rfl,by have:=hI.2;rwa[List.take_of_length_le (by omega)] at this⟩
theorem aFt{x:ah}{ro:Nat→Option Obj}:de zT 262 [.agg ⟨[zI x.n,zI x.l]⟩] ro (.bool (Ei x.n)):=by
 refine bA au [] [] a8<|zD 2<|jn fun b1=>jd 11 [0]<|aE q0 (.bool (decide ((Int.tmod x.n 2)=0))) [] [] [] (Sub.refl _) ⟨_,_,rfl,rfl,rfl,rfl⟩
theorem agq{v:Value}{l:List ah}{ro:Nat→Option Obj}(hl:bE ro v 2 cO l)(hn:l.length≤4):eE zT 260 [v,.func (.func 262) ⟨[]⟩ ⟨[]⟩] ro [] (fun r Y=>aA r 2 73 cO (l.filter fun x=>Ei x.n) Y):=by
 obtain⟨fI,rM,rK,eX,rfl,tG,lG,mH⟩:=hl
 refine bA au [] [] a8<|zD 16<|pE<|dW [1,1,0,1,0,0] [] (fun(zz:Nat×Value×Cells)=>[(1,.func (.func 262) ⟨[]⟩ ⟨[]⟩),(4,zS),(5,zz.2.1),(8,.slice fI l.length eX),(9,zI (l.length:Int)),(10,zI (zz.1:Int))]) (fun(zz:Nat×Value×Cells)=>[.l zz.2.2]) (fun(zz:Nat×Value×Cells)=>zz.1≤l.length∧aA zz.2.1 2 73 cO ((l.take zz.1).filter fun x=>Ei x.n) zz.2.2) (fun(zz:Nat×Value×Cells)=>l.length-zz.1) (⟨0,zS,[]⟩) ⟨by dsimp only;omega,aA.nil _ _ _⟩ [0] ?_
 rintro⟨k,vO,LO⟩ hI K1 bK rest
 dsimp only at hI
 refine zD 5<|zJ 11 ((k:Int) <(l.length:Int)) (fun h1=>?_) fun h1=>?_
 ·
  refine zD 6 ?_
  obtain⟨th,qk⟩:=zG l k
  refine iK eX 2 lG qk<|jl 0 (mH _ _ qk)<|jn fun b7=>jd 6 [0,0]<|jp (vs:=[.agg ⟨[zI th.n,zI th.l]⟩]) [] [] (fun aB hs hZ=>(aFt (x:=th)))<|zD 1<|js 16 (Ei th.n) (fun h2=>?_) (fun h2=>?_)
  ·
   refine jd 4 [0]<|jn fun Hu=>kL (sz:=2) (ps:=((l.take k).filter fun x=>Ei x.n)) (qs:=[(⟨th.n,th.l⟩:ah)]) (enc:=cO) (w:= .slice (some ⟨Hu,0,none⟩) 1 1) [2] [0] [(Hu,.cells ⟨([(⟨th.n,th.l⟩:ah)].map cO).flatten⟩ 73 (0,0))] (hI.2) (fun s _ hZ=>cb [(⟨th.n,th.l⟩:ah)] (hZ _ (.head _)) (by intro p hp;rfl)) (fun p _=>ar rfl) (by have:=List.length_filter_le (fun x:ah=>Ei x.n) (l.take k);rw[List.length_take] at this;simp only[List.length_cons,List.length_nil];omega) (fun v20 L20 Gt=>?_)
   obtain⟨apK,apA,atE⟩:=Gt.form
   subst atE
   refine zD 3<|ja ((k:Int)+1) (by omega)<|zD 2<|bO bK (⟨k+1,(.slice apK ((((l.take k).filter fun x=>Ei x.n)++[(⟨th.n,th.l⟩:ah)])).length apA),L20⟩) ⟨by dsimp only;omega,by rw[rk qk,show Ei th.n=true from (by assumption)];exact Gt⟩ (by dsimp only;omega) [0] (Sub.refl _)
  refine zD 3<|ja ((k:Int)+1) (by omega)<|zD 2<|bO bK (⟨k+1,vO,LO⟩) ⟨by dsimp only;omega,by rw[rk qk,show Ei th.n=false from (by assumption)];simpa using hI.2⟩ (by dsimp only;omega) [1] (Sub.refl _)
 refine zD 8<|aE q0 (vO) [] [0] LO (Sub.refl _) ⟨_,_,rfl,rfl,by have:=hI.2;rwa[List.take_of_length_le (by omega)] at this⟩
theorem WS{v:Value}{S:List (List ah)}{l:List ah}{c2 c3 c4:Int}{F:List (ak×Value)}{ro:Nat→Option Obj}(hS:cR ro v S)(hO:e9 S)(hl:S[s]?=some l) (hm:jV rm oU F LM) (hk:F.map (·.1)=bC S) (hM:MV Z F id):eE zT 240 [.agg ⟨[v]⟩,.agg ⟨[zI ck,zI (s:Int),zI c2,zI c3,zI c4,zI c5,zI c6]⟩,(.map (some rm))] ro (LM++Z) (fun r Y=>∃F' L' Z',r= zI 0∧Y=L'++Z'∧jV rm oU F' L'∧F'.map (·.1)=bC S∧MV Z' F' (gU (abd (s:Int) l))):=by
 obtain⟨ws,ht,cY⟩:=hS
 obtain⟨fp,Bd,Bb,ep,rfl,Bc,tk,tj⟩:=ht
 have hln:=cY.len
 have Iq:=hO.two
 have JV:=(List.getElem?_eq_some_iff.1 hl).1
 have hlm:=List.mem_of_getElem? hl
 have hll:=hO.len _ hlm
 refine bA au [.l LM,.l Z] [] a8<|zD 2<|jn fun b3=>jn fun b4=>zD 4<|JO [1,0,1] [] (fun(zz:Nat×Value×Value×Cells×Cells)=>[(2,(.map (some rm))),(4,zP b4),(6,zI 0),(25,.slice (some ⟨zz.1,0,none⟩) 2 2),(26,zI 2),(27,zI 0)]) (fun(zz:Nat×Value×Value×Cells×Cells)=>[.b zz.1 (.cells ⟨[zz.2.1,zz.2.2.1]⟩ 74 (0,0)),.l zz.2.2.2.1,.l zz.2.2.2.2,.l LM,.l Z,.b b4 (.cells ⟨[zI ck,zI (s:Int),zI c2,zI c3,zI c4,zI c5,zI c6]⟩ 77 (0,0)),.b b3 (.cells ⟨[.slice fp ws.length ep]⟩ 27 (0,0))]) (fun(zz:Nat×Value×Value×Cells×Cells)=>aA zz.2.1 2 73 cO (l.filter fun x=>xE x.n) zz.2.2.2.1∧aA zz.2.2.1 2 73 cO (l.filter fun x=>Ei x.n) zz.2.2.2.2) ?_ (fun K1 bK=>?_)
 ·
  rintro⟨dP,v1,v2,L1,L2⟩ hC rest
  dsimp only at hC
  refine jf [0,1,2] ((dP,.cells ⟨[v1,v2]⟩ 74 (0,0))::(L1++L2)) (fun yp bW iL=>?_)
  have hhv:=bQ (enc:=ir) (T:=74) [v1,v2] (iL _ (.head _)) (fun _ _=>rfl)
  have aBP:dj (fun w l=>bE yp w 2 cO l) [v1,v2] (q9 l):= .cons (hC.1.lR (Knows.left (Knows.tail iL))) (.cons (hC.2.lR (Knows.right (Knows.tail iL))) .nil)
  have hvl: [v1,v2].length=2:=rfl
  obtain⟨qga,qgb,qgo,qgc,PU,qgk,qgh,qgl⟩:=hhv
  simp only[Value.slice.injEq] at PU
  obtain⟨rfl,_,rfl⟩:=PU
  refine zD 1<|dW [1,0,1,0,0] [] (fun(zz:Nat×(List (ak×Value))×Cells×Cells)=>[(2,(.map (some rm))),(4,zP b4),(6,zI 0),(25,.slice (some ⟨dP,0,none⟩) 2 2),(26,zI 2),(27,zI (zz.1:Int))]) (fun(zz:Nat×(List (ak×Value))×Cells×Cells)=>[.l zz.2.2.1,.l zz.2.2.2,.b b4 (.cells ⟨[zI ck,zI (s:Int),zI c2,zI c3,zI c4,zI c5,zI c6]⟩ 77 (0,0)),.b b3 (.cells ⟨[.slice fp ws.length ep]⟩ 27 (0,0))]) (fun(zz:Nat×(List (ak×Value))×Cells×Cells)=>zz.1≤2∧jV rm oU zz.2.1 zz.2.2.1∧zz.2.1.map (·.1)=bC S∧MV zz.2.2.2 zz.2.1 (gU (((q9 l).take zz.1).flatMap (H5 (s:Int))))) (fun(zz:Nat×(List (ak×Value))×Cells×Cells)=>2-zz.1) (⟨0,F,LM,Z⟩) ⟨by dsimp only;omega,hm,hk,hM⟩ [0,1,2,3] ?_
  rintro⟨k,F,LM,Z⟩ hI K2 lg rest
  dsimp only at hI
  refine zD 5<|zJ 28 ((k:Int) <2) (fun h4=>?_) fun h4=>?_
  ·
   refine zD 6 ?_
   obtain⟨DC,Ap⟩:=zG ([v1,v2]) k
   refine iK 2 1 qgh Ap ?_
   obtain⟨SS,as2,Zt⟩:=aBP.get Ap
   obtain aBs:SS.length≤4:=by have:=afv (List.mem_of_getElem? as2);omega
   obtain⟨ayX,bb8,bb6,ajQ,rfl,bb7,ayW,ayV⟩:=Zt
   refine jl 0 (qgl _ _ Ap)<|zD 9<|dW [1,0,1,0,0,1,1,0,0,1,1,0,0] [K2] (fun(zz:Nat×(List (ak×Value))×Cells×Cells)=>[(2,(.map (some rm))),(4,zP b4),(6,zI 0),(8,.slice ayX SS.length ajQ),(25,.slice (some ⟨dP,0,none⟩) 2 2),(26,zI 2),(27,zI (k:Int)),(31,.slice ayX SS.length ajQ),(32,zI (SS.length:Int)),(33,zI (zz.1:Int))]) (fun(zz:Nat×(List (ak×Value))×Cells×Cells)=>[.l zz.2.2.1,.l zz.2.2.2,.b b4 (.cells ⟨[zI ck,zI (s:Int),zI c2,zI c3,zI c4,zI c5,zI c6]⟩ 77 (0,0)),.b b3 (.cells ⟨[.slice fp ws.length ep]⟩ 27 (0,0))]) (fun(zz:Nat×(List (ak×Value))×Cells×Cells)=>zz.1≤SS.length∧jV rm oU zz.2.1 zz.2.2.1∧zz.2.1.map (·.1)=bC S∧MV zz.2.2.2 zz.2.1 (gU (((q9 l).take k).flatMap (H5 (s:Int))++(H5 (s:Int) SS).take zz.1))) (fun(zz:Nat×(List (ak×Value))×Cells×Cells)=>SS.length-zz.1) (⟨0,F,LM,Z⟩) ⟨by dsimp only;omega,hI.2.1,hI.2.2.1,by simpa using hI.2.2.2⟩ [0,1,2,3] ?_
   rintro⟨i,F,LM,Z⟩ hJ K3 hK3 rest
   dsimp only at hJ
   refine zD 5<|zJ 34 ((i:Int) <(SS.length:Int)) (fun h5=>?_) fun h5=>?_
   ·
    refine zD 7 ?_
    obtain⟨x36,yJ⟩:=zG SS i
    refine iK ajQ 2 ayW yJ<|jl 0 (ayV _ _ yJ)<|jn fun lP=>jd 14 [0,3,0,3]<|ja ((SS.length:Int)-1) (by omega)<|zD 1<|ja (((SS.length:Int)-1)-(i:Int)) (by omega) ?_
    obtain⟨x51,D7⟩:=zG SS (((((SS.length:Int)-1)-(i:Int))).toNat)
    refine Nk (((SS.length:Int)-1)-(i:Int)) ajQ 2 ayW D7 (by omega)<|jl 0 (ayV _ _ D7)<|zD 1<|aO 16 fun uM uO sR=>jn fun QS=>bI sR [1,2,3,4,5]<|aO 17 fun Dx DG Ef=>jmu (kv:=oU) (F:=F) (r:=rm) (K:=164) 2 (mL (s:Int) x36) (.slice (some ⟨QS,0,none⟩) 1 1) De hJ.2.1 fun Lm8 hm8=>e8 Ef<|zD 2<|ja ((i:Int)+1) (by omega)<|zD 2 ?_
    have hup:=MV.upd (T:=164) (b:=QS) (y:=mL s x51) hO hJ.2.2.2 hJ.2.2.1 hl (afu (List.mem_of_getElem? as2) (List.mem_of_getElem? yJ))
    exact Nl hK3 (⟨i+1,_,Lm8,Z++[(QS,.cells ⟨[zI (s:Int),zI x51.n,zI x51.l]⟩ 164 (0,0))]⟩) ⟨by dsimp only;omega,hm8,hup.2,by rw[fx (ajD yJ D7),←List.append_assoc];exact hup.1⟩ (by dsimp only;omega) [[0],[3,1],[4],[5]] (Sub.refl _)
   refine zD 3<|ja ((k:Int)+1) (by omega)<|zD 2<|bO lg (⟨k+1,F,LM,Z⟩) ⟨by dsimp only;omega,hJ.2.1,hJ.2.2.1,by have:=hJ.2.2.2;rw[List.take_of_length_le (l:=H5 (s:Int) SS) (by rw[abR];omega)] at this;rw[amb as2];exact this⟩ (by dsimp only;omega) [0,1,2,3] (Sub.refl _)
  refine zD 7<|aE q0.a (zI 0) [] [0,1] (LM++Z) bW ⟨_,_,rfl,rfl,F,LM,Z,rfl,rfl,hI.2.1,hI.2.2.1,by have:=hI.2.2.2;rwa[show k=2 by omega] at this⟩
 refine jd 5 [1,0] ?_
 obtain⟨zm,ad6⟩:=zG ws s
 refine iK ep 1 tk ad6 ?_
 obtain⟨l16,aBH,IA⟩:=cY.get ad6
 obtain bel:=hO.len _ (List.mem_of_getElem? aBH)
 obtain atF:l16=l:=Option.some.inj (aBH.symm.trans hl)
 obtain⟨aze,aNA,aNw,azd,rfl,aNy,aNz,aNx⟩:=IA
 refine jl 0 (tj _ _ ad6)<|jd 4 [1,0] ?_
 obtain⟨r8,tU⟩:=zG ws s
 refine iK ep 1 tk tU ?_
 obtain⟨l23,aBG,EU⟩:=cY.get tU
 obtain bei:=hO.len _ (List.mem_of_getElem? aBG)
 obtain atD:l23=l:=Option.some.inj (aBG.symm.trans hl)
 obtain⟨ay4,aNj,aNf,ay3,rfl,aNh,aNi,aNg⟩:=EU
 refine jl 0 (tj _ _ tU)<|zD 1<|aO 6 fun ai1 ajp hL6=>jc (vs:=[.slice aze l16.length azd,.func (.func 261) ⟨[]⟩ ⟨[]⟩]) [] (ags (show bE _ _ _ _ _ from ⟨aze,aNA,aNw,azd,rfl,aNy,aNz,aNx⟩) (by omega)) ?_
 rintro v17 L17 Cd
 obtain⟨zr,zp,alA⟩:=Cd.form
 subst alA
 refine bI hL6 [1,2,3,4]<|aO 13 fun ai0 ajo TO=>jc (vs:=[.slice ay4 l23.length ay3,.func (.func 262) ⟨[]⟩ ⟨[]⟩]) [] (agq (show bE _ _ _ _ _ from ⟨ay4,aNj,aNf,ay3,rfl,aNh,aNi,aNg⟩) (by omega)) ?_
 rintro v24 L24 aBa
 obtain⟨apJ,apz,aQV⟩:=aBa.form
 subst aQV
 refine bI TO [1,2,3,4,5]<|aO 14 fun aaG abk hL8=>jn fun dP=>bI hL8 [1,2,3,4,5,6]<|zD 2<|bO bK ⟨dP,(.slice zr (l16.filter fun x=>xE x.n).length zp),(.slice apJ (l23.filter fun x=>Ei x.n).length apz),L17,L24⟩ ⟨by rw[←atF];exact Cd,by rw[←atD];exact aBa⟩ Nat.zero_lt_one [0,2,1,5,6,3,4] (Sub.refl _)
theorem Va{s:Int}{l:List ah}{x:ah}(h:l[i]?=some x):(I0 s l)[i]?=some (mL s x,⟨s,if xE x.n=true then x.n+1 else x.n-1,x.l⟩):=ac5 h
theorem ak0{s o r:Int}{l:List ah}{x:ah}(h:l[i]?=some x):(JN s o l r)[i]?=some (mL s x,⟨o,x.n+r,x.l⟩):=ac5 h
theorem raise_at{l:List ah}{x:ah}(h:l[(((l.length:Int)-1)).toNat]?=some x):rJ l=x.n+Int.tmod x.n 2:=by
 have:l[l.length-1]?=some x:=by rw[←h];congr 1;omega
 simp only[rJ,this]
theorem Ye{l:List ah}(h:¬(l.length:Int)>0):rJ l=0:=by
 have:l=[]:=List.eq_nil_of_length_eq_zero (by omega)
 subst this;rfl
theorem tm2{n:Int}(h:1≤n∧n≤9):0≤Int.tmod n 2∧Int.tmod n 2≤1:=by
 rw[Int.tmod_eq_emod_of_nonneg (by omega)]
 omega
theorem ab4{l:List ah}(h:∀x∈l,A3 x):0≤rJ l∧rJ l≤10:=by
 unfold rJ
 split
 ·rename_i y hy
  have h1:=(h y (List.mem_of_getElem? hy)).1
  have:=tm2 h1
  omega
 omega
theorem Qg{v:Value}{S:List (List ah)}{l:List ah}{c2 c3 c4:Int}{F:List (ak×Value)}{ro:Nat→Option Obj}(hS:cR ro v S)(hO:e9 S)(hl:S[s]?=some l) (hm:jV rm oU F LM) (hk:F.map (·.1)=bC S) (hM:MV Z F id):eE zT 241 [.agg ⟨[v]⟩,.agg ⟨[zI ck,zI (s:Int),zI c2,zI c3,zI c4,zI c5,zI c6]⟩,(.map (some rm))] ro (LM++Z) (fun r Y=>∃F' L' Z',r= zI 0∧Y=L'++Z'∧jV rm oU F' L'∧F'.map (·.1)=bC S∧MV Z' F' (gU (I0 (s:Int) l))):=by
 obtain⟨ws,ht,cY⟩:=hS
 obtain⟨fp,Bd,Bb,ep,rfl,Bc,tk,tj⟩:=ht
 have hln:=cY.len
 have Iq:=hO.two
 have JV:=(List.getElem?_eq_some_iff.1 hl).1
 have hlm:=List.mem_of_getElem? hl
 have hll:=hO.len _ hlm
 refine bA au [.l LM,.l Z] [] a8<|zD 2<|jn fun b3=>jn fun b4=>jd 9 [1,0] ?_
 obtain⟨dZ,dw⟩:=zG ws s
 refine iK ep 1 tk dw ?_
 obtain⟨Pe,Zg,GK⟩:=cY.get dw
 obtain aQr:=hO.len _ (List.mem_of_getElem? Zg)
 obtain Ty:Pe=l:=Option.some.inj (Zg.symm.trans hl)
 obtain aPn:=hO.ok _ (List.mem_of_getElem? Zg)
 obtain⟨aqM,aND,aNB,acb,rfl,aNC,aqL,aqK⟩:=GK
 refine jl 0 (tj _ _ dw)<|zD 4<|dW [1,0,1,0,0] [] (fun(zz:Nat×(List (ak×Value))×Cells×Cells)=>[(2,(.map (some rm))),(4,zP b4),(6,zI 0),(15,.slice aqM Pe.length acb),(16,zI (Pe.length:Int)),(17,zI (zz.1:Int))]) (fun(zz:Nat×(List (ak×Value))×Cells×Cells)=>[.l zz.2.2.1,.l zz.2.2.2,.b b4 (.cells ⟨[zI ck,zI (s:Int),zI c2,zI c3,zI c4,zI c5,zI c6]⟩ 77 (0,0)),.b b3 (.cells ⟨[.slice fp ws.length ep]⟩ 27 (0,0))]) (fun(zz:Nat×(List (ak×Value))×Cells×Cells)=>zz.1≤Pe.length∧jV rm oU zz.2.1 zz.2.2.1∧zz.2.1.map (·.1)=bC S∧MV zz.2.2.2 zz.2.1 (gU ((I0 (s:Int) l).take zz.1))) (fun(zz:Nat×(List (ak×Value))×Cells×Cells)=>Pe.length-zz.1) (⟨0,F,LM,Z⟩) ⟨by dsimp only;omega,hm,hk,hM⟩ [2,3,0,1] ?_
 rintro⟨i,F,LM,Z⟩ hI K1 bK rest
 dsimp only at hI
 refine zD 5<|zJ 18 ((i:Int) <(Pe.length:Int)) (fun h1=>?_) fun h1=>?_
 ·
  refine zD 6 ?_
  obtain⟨EB,xH⟩:=zG Pe i
  refine iK acb 2 aqL xH<|jl 0 (aqK _ _ xH)<|jn fun b8=>jd 3 [0] ?_
  have Is:=aPn _ (List.mem_of_getElem? xH)
  have aPM:=Is.1.1
  have aPL:=Is.1.2
  refine jd 3 [0]<|ja (EB.n-1) (by omega)<|jd 6 [0]<|jp (vs:=[.agg ⟨[zI EB.n,zI EB.l]⟩]) [] [] (fun aB hs hZ=>(aFm (x:=EB)))<|zD 1<|js 25 (xE EB.n) (fun h2=>?_) (fun h2=>?_)
  ·
   refine jd 4 [0]<|ja (EB.n+1) (by omega)<|jd 13 [3,0,3,0]<|jp (vs:=[zI (s:Int),zI (EB.n+1),zI EB.l]) [] [] (fun aB hs hZ=>gAt)<|aO 11 fun Dy DI Ck=>jn fun dk=>bI Ck [1,2,3,4,5]<|aO 12 fun tv tx rY=>jmu (kv:=oU) (F:=F) (r:=rm) (K:=164) 2 (mL (s:Int) EB) (.slice (some ⟨dk,0,none⟩) 1 1) De hI.2.1 fun Lm5 hm5=>e8 rY<|zD 2<|ja ((i:Int)+1) (by omega)<|zD 2 ?_
   have hup:=MV.upd (T:=164) (b:=dk) (y:=⟨s,EB.n+1,EB.l⟩) hO hI.2.2.2 hI.2.2.1 hl (by rw[←Ty];exact List.mem_of_getElem? xH)
   exact Nl bK (⟨i+1,_,Lm5,Z++[(dk,.cells ⟨[zI (s:Int),zI (EB.n+1),zI EB.l]⟩ 164 (0,0))]⟩) ⟨by dsimp only;omega,hm5,hup.2,by rw[fx (Va (by rw[←Ty];exact xH))];rw[if_pos (by assumption)];exact hup.1⟩ (by dsimp only;omega) [[0],[3,1],[4],[5]] (Sub.refl _)
  refine jd 13 [3,0,3,0]<|jp (vs:=[zI (s:Int),zI (EB.n-1),zI EB.l]) [] [] (fun aB hs hZ=>gAt)<|aO 11 fun uM uO sR=>jn fun dk=>bI sR [1,2,3,4,5]<|aO 12 fun Dx DG Ef=>jmu (kv:=oU) (F:=F) (r:=rm) (K:=164) 2 (mL (s:Int) EB) (.slice (some ⟨dk,0,none⟩) 1 1) De hI.2.1 fun Lm8 hm8=>e8 Ef<|zD 2<|ja ((i:Int)+1) (by omega)<|zD 2 ?_
  have hup:=MV.upd (T:=164) (b:=dk) (y:=⟨s,EB.n-1,EB.l⟩) hO hI.2.2.2 hI.2.2.1 hl (by rw[←Ty];exact List.mem_of_getElem? xH)
  exact Nl bK (⟨i+1,_,Lm8,Z++[(dk,.cells ⟨[zI (s:Int),zI (EB.n-1),zI EB.l]⟩ 164 (0,0))]⟩) ⟨by dsimp only;omega,hm8,hup.2,by rw[fx (Va (by rw[←Ty];exact xH))];rw[if_neg (by rw[show xE EB.n=false from (by assumption)];decide)];exact hup.1⟩ (by dsimp only;omega) [[0],[3,1],[4],[5]] (Sub.refl _)
 refine zD 7<|aE q0 (zI 0) [] [0,1] (LM++Z) (Sub.refl _) ⟨_,_,rfl,rfl,F,LM,Z,rfl,rfl,hI.2.1,hI.2.2.1,by have:=hI.2.2.2;rwa[List.take_of_length_le (by simp only[I0,List.length_map];rw[←Ty];omega)] at this⟩
theorem al6{v:Value}{S:List (List ah)}{o:Nat}{l lo:List ah}{c3 c4:Int}{F:List (ak×Value)}{ro:Nat→Option Obj}(hS:cR ro v S)(hO:e9 S)(hl:S[s]?=some l) (hm:jV rm oU F LM) (hk:F.map (·.1)=bC S) (hM:MV Z F id) (Aw:S[o]?=some lo):eE zT 243 [.agg ⟨[v]⟩,.agg ⟨[zI ck,zI (s:Int),zI (o:Int),zI c3,zI c4,zI c5,zI c6]⟩,(.map (some rm))] ro (LM++Z) (fun r Y=>∃F' L' Z',r= zI 0∧Y=L'++Z'∧jV rm oU F' L'∧F'.map (·.1)=bC S∧MV Z' F' (gU (JN (s:Int) (o:Int) l (rJ lo)))):=by
 obtain⟨ws,ht,cY⟩:=hS
 obtain⟨fp,Bd,Bb,ep,rfl,Bc,tk,tj⟩:=ht
 have hln:=cY.len
 have Iq:=hO.two
 have JV:=(List.getElem?_eq_some_iff.1 hl).1
 have hlm:=List.mem_of_getElem? hl
 have hll:=hO.len _ hlm
 have hso:=(List.getElem?_eq_some_iff.1 Aw).1
 have aBw:=List.mem_of_getElem? Aw
 have hr:=ab4 (hO.ok _ aBw)
 have bep:=hO.len _ aBw
 refine bA au [.l LM,.l Z] [] a8<|zD 2<|jn fun b3=>jn fun b4=>jd 8 [1,0] ?_
 obtain⟨US,Gj⟩:=zG ws s
 refine iK ep 1 tk Gj ?_
 obtain⟨l18,as5,TW⟩:=cY.get Gj
 obtain bek:=hO.len _ (List.mem_of_getElem? as5)
 obtain Tx:l18=l:=Option.some.inj (as5.symm.trans hl)
 obtain jU:=hO.ok _ (List.mem_of_getElem? as5)
 obtain⟨aza,bcl,bcj,aqJ,rfl,bck,aNq,aNp⟩:=TW
 refine jl 0 (tj _ _ Gj)<|jd 4 [1,0] ?_
 obtain⟨u1,sM⟩:=zG ws o
 refine iK ep 1 tk sM ?_
 obtain⟨SU,Tq,h24⟩:=cY.get sM
 obtain aBu:=hO.len _ (List.mem_of_getElem? Tq)
 obtain afi:SU=lo:=Option.some.inj (Tq.symm.trans Aw)
 obtain aAB:=hO.ok _ (List.mem_of_getElem? Tq)
 obtain⟨aqI,ay2,ay0,aca,rfl,ay1,ajS,ajR⟩:=h24
 refine jl 0 (tj _ _ sM)<|zD 10<|ja ((l18.length:Int)+(SU.length:Int)) (by omega)<|zD 2<|zJ 30 (((l18.length:Int)+(SU.length:Int))>8) (fun h1=>?_) fun h1=>?_
 ·
  exfalso;omega
 refine zD 18<|JO [1,1,1,1,1] [] (fun(zz:Int)=>[(2,(.map (some rm))),(4,zP b4),(6,zI 0),(7,.slice aza l18.length aqJ),(9,zI zz)]) (fun(zz:Int)=>[.l LM,.l Z,.b b4 (.cells ⟨[zI ck,zI (s:Int),zI (o:Int),zI c3,zI c4,zI c5,zI c6]⟩ 77 (0,0)),.b b3 (.cells ⟨[.slice fp ws.length ep]⟩ 27 (0,0))]) (fun(zz:Int)=>zz=rJ lo) ?_ (fun K1 bK=>?_)
 ·
  rintro q hQ rest
  refine zD 8<|dW [1,1,1,1,1,0,1,0,0] [] (fun(zz:Nat×(List (ak×Value))×Cells×Cells)=>[(2,(.map (some rm))),(4,zP b4),(9,zI q),(49,.slice aza l18.length aqJ),(50,zI (l18.length:Int)),(51,zI (zz.1:Int))]) (fun(zz:Nat×(List (ak×Value))×Cells×Cells)=>[.l zz.2.2.1,.l zz.2.2.2,.b b4 (.cells ⟨[zI ck,zI (s:Int),zI (o:Int),zI c3,zI c4,zI c5,zI c6]⟩ 77 (0,0)),.b b3 (.cells ⟨[.slice fp ws.length ep]⟩ 27 (0,0))]) (fun(zz:Nat×(List (ak×Value))×Cells×Cells)=>zz.1≤l18.length∧jV rm oU zz.2.1 zz.2.2.1∧zz.2.1.map (·.1)=bC S∧MV zz.2.2.2 zz.2.1 (gU ((JN (s:Int) (o:Int) l (rJ lo)).take zz.1))) (fun(zz:Nat×(List (ak×Value))×Cells×Cells)=>l18.length-zz.1) (⟨0,F,LM,Z⟩) ⟨by dsimp only;omega,hm,hk,hM⟩ [0,1,2,3] ?_
  rintro⟨i,F,LM,Z⟩ hI K2 lg rest
  dsimp only at hI
  refine zD 5<|zJ 52 ((i:Int) <(l18.length:Int)) (fun h2=>?_) fun h2=>?_
  ·
   refine zD 6 ?_
   obtain⟨x53,ad2⟩:=zG l18 i
   refine iK aqJ 2 aNq ad2<|jl 0 (aNp _ _ ad2)<|jn fun jJ=>jd 4 [0] ?_
   have Is:=jU _ (List.mem_of_getElem? ad2)
   have aPM:=Is.1.1
   have aPL:=Is.1.2
   refine jd 4 [0]<|ja (x53.n+q) (by omega)<|zD 2<|zJ 59 ((x53.n+q)>40) (fun h3=>?_) fun h3=>?_
   ·
    exfalso;omega
   refine jd 13 [3,0,3,0]<|ja (x53.n+q) (by omega)<|jd 2 [0]<|jp (vs:=[zI (o:Int),zI (x53.n+q),zI x53.l]) [] [] (fun aB hs hZ=>gAt)<|aO 14 fun tv tx rY=>jn fun b74=>bI rY [1,2,3,4,5]<|aO 15 fun uM uO sR=>jmu (kv:=oU) (F:=F) (r:=rm) (K:=164) 2 (mL (s:Int) x53) (.slice (some ⟨b74,0,none⟩) 1 1) De hI.2.1 fun Lm6 hm6=>e8 sR<|zD 2<|ja ((i:Int)+1) (by omega)<|zD 2 ?_
   have hup:=MV.upd (T:=164) (b:=b74) (y:=⟨o,x53.n+q,x53.l⟩) hO hI.2.2.2 hI.2.2.1 hl (by rw[←Tx];exact List.mem_of_getElem? ad2)
   exact Nl lg (⟨i+1,_,Lm6,Z++[(b74,.cells ⟨[zI (o:Int),zI (x53.n+q),zI x53.l]⟩ 164 (0,0))]⟩) ⟨by dsimp only;omega,hm6,hup.2,by rw[fx (ak0 (by rw[←Tx];exact ad2))];have e:=hup.1;rw[hQ] at e ⊢;exact e⟩ (by dsimp only;omega) [[0],[3,1],[4],[5]] (Sub.refl _)
  refine zD 7<|aE q0 (zI 0) [] [0,1] (LM++Z) (Sub.refl _) ⟨_,_,rfl,rfl,F,LM,Z,rfl,rfl,hI.2.1,hI.2.2.1,by have:=hI.2.2.2;rwa[List.take_of_length_le (by simp only[JN,List.length_map];rw[←Tx];omega)] at this⟩
 refine zJ 34 ((SU.length:Int)>0) (fun h7=>?_) fun h7=>?_
 ·
  refine zD 4<|ja ((SU.length:Int)-1) (by omega) ?_
  obtain⟨x38,Me⟩:=zG SU ((((SU.length:Int)-1)).toNat)
  refine Nk ((SU.length:Int)-1) aca 2 ajS Me (by omega)<|zD 1<|jl 0 (ajR _ _ Me)<|zD 2<|ja ((SU.length:Int)-1) (by omega) ?_
  obtain⟨XF,Io⟩:=zG SU ((((SU.length:Int)-1)).toNat)
  refine Nk ((SU.length:Int)-1) aca 2 ajS Io (by omega)<|zD 1<|jl 0 (ajR _ _ Io)<|zD 1<|ja (x38.n+(Int.tmod XF.n 2)) (by have h1:=(aAB _ (List.mem_of_getElem? Me)).1;have h2:=(aAB _ (List.mem_of_getElem? Io)).1;have:=tm2 h2;omega) ?_
  refine zD 2 ?_
  have hra:=raise_at Me
  rw[afi] at hra
  exact bO bK (x38.n+(Int.tmod XF.n 2)) (by rw[←afi];have e:x38=XF:=Option.some.inj (Me.symm.trans Io);subst e;exact(raise_at Me).symm) Nat.zero_lt_one [2,3,0,1] (Sub.refl _)
 refine zD 2<|bO bK 0 (by rw[←afi];exact(Ye (by omega)).symm) Nat.zero_lt_one [2,3,0,1] (Sub.refl _)
def auV(S:List (List ah))(c:aL):List (ak×ak):=
 if c.k=1 then abd c.st (S[c.st.toNat]?.getD []) else if c.k=2 then I0 c.st (S[c.st.toNat]?.getD []) else JN c.st c.ot (S[c.st.toNat]?.getD []) (rJ (S[c.ot.toNat]?.getD []))
def yB(S:List (List ah))(c:aL)(x:ak):ak:=gU (auV S c) x
theorem pX{l:List α}(h:l.length=2):∃a b,l=[a,b]:=by
 match l,h with
 | [a,b],_=>exact⟨a,b,rfl⟩
theorem Qh{ro:Nat→Option Obj}:de zT 220 [] ro (.agg ⟨[.nilFunc,.func (.func 240) ⟨[]⟩ ⟨[]⟩,.func (.func 241) ⟨[]⟩ ⟨[]⟩,.func (.func 242) ⟨[]⟩ ⟨[]⟩,.func (.func 243) ⟨[]⟩ ⟨[]⟩,.func (.func 244) ⟨[]⟩ ⟨[]⟩,.func (.func 245) ⟨[]⟩ ⟨[]⟩,.func (.func 246) ⟨[]⟩ ⟨[]⟩]⟩):=by
 refine bA au [] [] a8<|zD 2<|jn fun b0=>jd 7 [0]<|aE q0 (.agg ⟨[.nilFunc,.func (.func 240) ⟨[]⟩ ⟨[]⟩,.func (.func 241) ⟨[]⟩ ⟨[]⟩,.func (.func 242) ⟨[]⟩ ⟨[]⟩,.func (.func 243) ⟨[]⟩ ⟨[]⟩,.func (.func 244) ⟨[]⟩ ⟨[]⟩,.func (.func 245) ⟨[]⟩ ⟨[]⟩,.func (.func 246) ⟨[]⟩ ⟨[]⟩]⟩) [0] [] [] (Sub.refl _) ⟨_,_,rfl,rfl,rfl,rfl⟩
theorem aFy{v:Value}{S:List (List ah)}{ro:Nat→Option Obj}(hS:cR ro v S)(hO:e9 S):eE zT 194 [.agg ⟨[v]⟩,.agg ⟨[zI 1,zI 0,zI 0,zI 0,zI 0,zI 0,zI 0]⟩] ro [] (fun r Y=>∃rm F LM Z,r= .tuple ⟨[.map (some rm),zI 0]⟩∧Y=LM++Z∧jV rm oU F LM∧F.map (·.1)=bC S∧MV Z F (yB S ⟨1,0,0,0,0,0,0⟩)):=by
 obtain⟨p,q,rfl⟩:=pX hO.two
 have xU:=hS
 obtain⟨ws,ht,cY⟩:=hS
 obtain⟨w1,w2,rfl⟩:=pX (cY.len.trans hO.two)
 obtain⟨fp,Bd,Bb,ep,rfl,Bc,tk,tj⟩:=ht
 refine bA au [] [] a8<|zD 2<|jn fun b2=>jn fun b3=>jd 8 [0]<|jp (vs:=[zI 1,zI 1,zI 7]) [] [] (fun aB hs hZ=>AA)<|jd 18 [1,0]<|jp (vs:=[zI 0,zI 0,zI 1]) [] [] (fun aB hs hZ=>AA)<|jd 70 [0,0,0,0,0,0]<|jne FQ (wy 0 0 0 0)<|zD 3<|js 73 (!(0==0&&(0==0&&true))) (fun h1=>?_) (fun h1=>?_)
 ·
  have gx:=h1
  try simp only[zB] at gx
  exact absurd gx (by decide)
 have gx:=h1
 try simp only[zB] at gx
 refine jd 6 [0]<|jne FQ (wy 0 0 0 0)<|zD 3<|js 82 (!(0==0&&(0==0&&true))) (fun h2=>?_) (fun h2=>?_)
 ·
  exact absurd h2 (by decide)
 refine jd 5 [1]<|jc (vs:=[.agg ⟨[.slice fp 2 ep]⟩]) [] (J7 (xU) hO) ?_
 rintro _ _ ⟨rm,F,LM,Z,rfl,rfl,hmM,hkM,hMM⟩
 refine jg 0 [.l LM,.l Z]<|jd 10 [2,3,2]<|jp [] [] (fun aB hs hZ=>Qh)<|zD 1<|aO 7 fun Dz DJ Bn=>jc (vs:=[.agg ⟨[.slice fp 2 ep]⟩,.agg ⟨[zI 1,zI 0,zI 0,zI 0,zI 0,zI 0,zI 0]⟩,(.map (some rm))]) [0,1] (WS (s:=0) xU hO rfl hmM hkM hMM) ?_
 rintro _ _ ⟨F2,Nb,Z2,rfl,rfl,EN,iL,hM2⟩
 refine jg 0 [.l Nb,.l Z2]<|jA Bn [[2]]<|zD 16<|aE q0 (.tuple ⟨[(.map (some rm)),zI 0]⟩) [] [0,1] (Nb++Z2) (Sub.refl _) ⟨_,_,rfl,rfl,rm,F2,Nb,Z2,rfl,rfl,EN,iL,hM2⟩
theorem aFx{v:Value}{S:List (List ah)}{ro:Nat→Option Obj}(hS:cR ro v S)(hO:e9 S):eE zT 194 [.agg ⟨[v]⟩,.agg ⟨[zI 2,zI 0,zI 0,zI 0,zI 0,zI 0,zI 0]⟩] ro [] (fun r Y=>∃rm F LM Z,r= .tuple ⟨[.map (some rm),zI 0]⟩∧Y=LM++Z∧jV rm oU F LM∧F.map (·.1)=bC S∧MV Z F (yB S ⟨2,0,0,0,0,0,0⟩)):=by
 obtain⟨p,q,rfl⟩:=pX hO.two
 have xU:=hS
 obtain⟨ws,ht,cY⟩:=hS
 obtain⟨w1,w2,rfl⟩:=pX (cY.len.trans hO.two)
 obtain⟨fp,Bd,Bb,ep,rfl,Bc,tk,tj⟩:=ht
 refine bA au [] [] a8<|zD 2<|jn fun b2=>jn fun b3=>jd 8 [0]<|jp (vs:=[zI 2,zI 1,zI 7]) [] [] (fun aB hs hZ=>AA)<|jd 18 [1,0]<|jp (vs:=[zI 0,zI 0,zI 1]) [] [] (fun aB hs hZ=>AA)<|jd 70 [0,0,0,0,0,0]<|jne FQ (wy 0 0 0 0)<|zD 3<|js 73 (!(0==0&&(0==0&&true))) (fun h1=>?_) (fun h1=>?_)
 ·
  have gx:=h1
  try simp only[zB] at gx
  exact absurd gx (by decide)
 have gx:=h1
 try simp only[zB] at gx
 refine jd 6 [0]<|jne FQ (wy 0 0 0 0)<|zD 3<|js 82 (!(0==0&&(0==0&&true))) (fun h2=>?_) (fun h2=>?_)
 ·
  exact absurd h2 (by decide)
 refine jd 5 [1]<|jc (vs:=[.agg ⟨[.slice fp 2 ep]⟩]) [] (J7 (xU) hO) ?_
 rintro _ _ ⟨rm,F,LM,Z,rfl,rfl,hmM,hkM,hMM⟩
 refine jg 0 [.l LM,.l Z]<|jd 10 [2,3,2]<|jp [] [] (fun aB hs hZ=>Qh)<|zD 1<|aO 7 fun Dz DJ Bn=>jc (vs:=[.agg ⟨[.slice fp 2 ep]⟩,.agg ⟨[zI 2,zI 0,zI 0,zI 0,zI 0,zI 0,zI 0]⟩,(.map (some rm))]) [0,1] (Qg (s:=0) xU hO rfl hmM hkM hMM) ?_
 rintro _ _ ⟨F2,Nb,Z2,rfl,rfl,EN,iL,hM2⟩
 refine jg 0 [.l Nb,.l Z2]<|jA Bn [[2]]<|zD 16<|aE q0 (.tuple ⟨[(.map (some rm)),zI 0]⟩) [] [0,1] (Nb++Z2) (Sub.refl _) ⟨_,_,rfl,rfl,rm,F2,Nb,Z2,rfl,rfl,EN,iL,hM2⟩
theorem aFw{v:Value}{S:List (List ah)}{ro:Nat→Option Obj}(hS:cR ro v S)(hO:e9 S):eE zT 194 [.agg ⟨[v]⟩,.agg ⟨[zI 1,zI 1,zI 0,zI 0,zI 0,zI 0,zI 0]⟩] ro [] (fun r Y=>∃rm F LM Z,r= .tuple ⟨[.map (some rm),zI 0]⟩∧Y=LM++Z∧jV rm oU F LM∧F.map (·.1)=bC S∧MV Z F (yB S ⟨1,1,0,0,0,0,0⟩)):=by
 obtain⟨p,q,rfl⟩:=pX hO.two
 have xU:=hS
 obtain⟨ws,ht,cY⟩:=hS
 obtain⟨w1,w2,rfl⟩:=pX (cY.len.trans hO.two)
 obtain⟨fp,Bd,Bb,ep,rfl,Bc,tk,tj⟩:=ht
 refine bA au [] [] a8<|zD 2<|jn fun b2=>jn fun b3=>jd 8 [0]<|jp (vs:=[zI 1,zI 1,zI 7]) [] [] (fun aB hs hZ=>AA)<|jd 18 [1,0]<|jp (vs:=[zI 1,zI 0,zI 1]) [] [] (fun aB hs hZ=>AA)<|jd 70 [0,0,0,0,0,0]<|jne FQ (wy 0 0 0 0)<|zD 3<|js 73 (!(0==0&&(0==0&&true))) (fun h1=>?_) (fun h1=>?_)
 ·
  have gx:=h1
  try simp only[zB] at gx
  exact absurd gx (by decide)
 have gx:=h1
 try simp only[zB] at gx
 refine jd 6 [0]<|jne FQ (wy 0 0 0 0)<|zD 3<|js 82 (!(0==0&&(0==0&&true))) (fun h2=>?_) (fun h2=>?_)
 ·
  exact absurd h2 (by decide)
 refine jd 5 [1]<|jc (vs:=[.agg ⟨[.slice fp 2 ep]⟩]) [] (J7 (xU) hO) ?_
 rintro _ _ ⟨rm,F,LM,Z,rfl,rfl,hmM,hkM,hMM⟩
 refine jg 0 [.l LM,.l Z]<|jd 10 [2,3,2]<|jp [] [] (fun aB hs hZ=>Qh)<|zD 1<|aO 7 fun Dz DJ Bn=>jc (vs:=[.agg ⟨[.slice fp 2 ep]⟩,.agg ⟨[zI 1,zI 1,zI 0,zI 0,zI 0,zI 0,zI 0]⟩,(.map (some rm))]) [0,1] (WS (s:=1) xU hO rfl hmM hkM hMM) ?_
 rintro _ _ ⟨F2,Nb,Z2,rfl,rfl,EN,iL,hM2⟩
 refine jg 0 [.l Nb,.l Z2]<|jA Bn [[2]]<|zD 16<|aE q0 (.tuple ⟨[(.map (some rm)),zI 0]⟩) [] [0,1] (Nb++Z2) (Sub.refl _) ⟨_,_,rfl,rfl,rm,F2,Nb,Z2,rfl,rfl,EN,iL,hM2⟩
theorem aFv{v:Value}{S:List (List ah)}{ro:Nat→Option Obj}(hS:cR ro v S)(hO:e9 S):eE zT 194 [.agg ⟨[v]⟩,.agg ⟨[zI 2,zI 1,zI 0,zI 0,zI 0,zI 0,zI 0]⟩] ro [] (fun r Y=>∃rm F LM Z,r= .tuple ⟨[.map (some rm),zI 0]⟩∧Y=LM++Z∧jV rm oU F LM∧F.map (·.1)=bC S∧MV Z F (yB S ⟨2,1,0,0,0,0,0⟩)):=by
 obtain⟨p,q,rfl⟩:=pX hO.two
 have xU:=hS
 obtain⟨ws,ht,cY⟩:=hS
 obtain⟨w1,w2,rfl⟩:=pX (cY.len.trans hO.two)
 obtain⟨fp,Bd,Bb,ep,rfl,Bc,tk,tj⟩:=ht
 refine bA au [] [] a8<|zD 2<|jn fun b2=>jn fun b3=>jd 8 [0]<|jp (vs:=[zI 2,zI 1,zI 7]) [] [] (fun aB hs hZ=>AA)<|jd 18 [1,0]<|jp (vs:=[zI 1,zI 0,zI 1]) [] [] (fun aB hs hZ=>AA)<|jd 70 [0,0,0,0,0,0]<|jne FQ (wy 0 0 0 0)<|zD 3<|js 73 (!(0==0&&(0==0&&true))) (fun h1=>?_) (fun h1=>?_)
 ·
  have gx:=h1
  try simp only[zB] at gx
  exact absurd gx (by decide)
 have gx:=h1
 try simp only[zB] at gx
 refine jd 6 [0]<|jne FQ (wy 0 0 0 0)<|zD 3<|js 82 (!(0==0&&(0==0&&true))) (fun h2=>?_) (fun h2=>?_)
 ·
  exact absurd h2 (by decide)
 refine jd 5 [1]<|jc (vs:=[.agg ⟨[.slice fp 2 ep]⟩]) [] (J7 (xU) hO) ?_
 rintro _ _ ⟨rm,F,LM,Z,rfl,rfl,hmM,hkM,hMM⟩
 refine jg 0 [.l LM,.l Z]<|jd 10 [2,3,2]<|jp [] [] (fun aB hs hZ=>Qh)<|zD 1<|aO 7 fun Dz DJ Bn=>jc (vs:=[.agg ⟨[.slice fp 2 ep]⟩,.agg ⟨[zI 2,zI 1,zI 0,zI 0,zI 0,zI 0,zI 0]⟩,(.map (some rm))]) [0,1] (Qg (s:=1) xU hO rfl hmM hkM hMM) ?_
 rintro _ _ ⟨F2,Nb,Z2,rfl,rfl,EN,iL,hM2⟩
 refine jg 0 [.l Nb,.l Z2]<|jA Bn [[2]]<|zD 16<|aE q0 (.tuple ⟨[(.map (some rm)),zI 0]⟩) [] [0,1] (Nb++Z2) (Sub.refl _) ⟨_,_,rfl,rfl,rm,F2,Nb,Z2,rfl,rfl,EN,iL,hM2⟩
theorem aFu{v:Value}{S:List (List ah)}{ro:Nat→Option Obj}(hS:cR ro v S)(hO:e9 S):eE zT 194 [.agg ⟨[v]⟩,.agg ⟨[zI 4,zI 1,zI 0,zI 0,zI 0,zI 0,zI 0]⟩] ro [] (fun r Y=>∃rm F LM Z,r= .tuple ⟨[.map (some rm),zI 0]⟩∧Y=LM++Z∧jV rm oU F LM∧F.map (·.1)=bC S∧MV Z F (yB S ⟨4,1,0,0,0,0,0⟩)):=by
 obtain⟨p,q,rfl⟩:=pX hO.two
 have xU:=hS
 obtain⟨ws,ht,cY⟩:=hS
 obtain⟨w1,w2,rfl⟩:=pX (cY.len.trans hO.two)
 obtain⟨fp,Bd,Bb,ep,rfl,Bc,tk,tj⟩:=ht
 refine bA au [] [] a8<|zD 2<|jn fun b2=>jn fun b3=>jd 8 [0]<|jp (vs:=[zI 4,zI 1,zI 7]) [] [] (fun aB hs hZ=>AA)<|jd 18 [1,0]<|jp (vs:=[zI 1,zI 0,zI 1]) [] [] (fun aB hs hZ=>AA)<|jd 33 [0,0,0,0]<|jp (vs:=[zI 0,zI 0,zI 1]) [] [] (fun aB hs hZ=>AA)<|jd 36 [0,0,0]<|jne FQ (wy 0 0 0 0)<|zD 3<|js 73 (!(0==0&&(0==0&&true))) (fun h1=>?_) (fun h1=>?_)
 ·
  have gx:=h1
  try simp only[zB] at gx
  exact absurd gx (by decide)
 have gx:=h1
 try simp only[zB] at gx
 refine jd 6 [0]<|jne FQ (wy 0 0 0 0)<|zD 3<|js 82 (!(0==0&&(0==0&&true))) (fun h2=>?_) (fun h2=>?_)
 ·
  exact absurd h2 (by decide)
 refine jd 5 [1]<|jc (vs:=[.agg ⟨[.slice fp 2 ep]⟩]) [] (J7 (xU) hO) ?_
 rintro _ _ ⟨rm,F,LM,Z,rfl,rfl,hmM,hkM,hMM⟩
 refine jg 0 [.l LM,.l Z]<|jd 10 [2,3,2]<|jp [] [] (fun aB hs hZ=>Qh)<|zD 1<|aO 7 fun Dz DJ Bn=>jc (vs:=[.agg ⟨[.slice fp 2 ep]⟩,.agg ⟨[zI 4,zI 1,zI 0,zI 0,zI 0,zI 0,zI 0]⟩,(.map (some rm))]) [0,1] (al6 (s:=1) (o:=0) xU hO rfl hmM hkM hMM rfl) ?_
 rintro _ _ ⟨F2,Nb,Z2,rfl,rfl,EN,iL,hM2⟩
 refine jg 0 [.l Nb,.l Z2]<|jA Bn [[2]]<|zD 16<|aE q0 (.tuple ⟨[(.map (some rm)),zI 0]⟩) [] [0,1] (Nb++Z2) (Sub.refl _) ⟨_,_,rfl,rfl,rm,F2,Nb,Z2,rfl,rfl,EN,iL,hM2⟩
def YE(n:Nat):Int:=if n=0 then 0 else if n <2 then 1 else if n <4 then 2 else if n <8 then 3 else 4
theorem auL{ro:Nat→Option Obj}:∀ {n:Nat},n≤12→de zT 180 [zU (n:Int)] ro (zI (YE n))
 |0,_=>by refine bA au [] [] a8 (zD 35 (ja 0 (by decide) (zD 3 ?_)));exact aE q0 (zI 0) [] [] [] (Sub.refl _) ⟨_,_,rfl,rfl,rfl,rfl⟩
 |1,_=>by refine bA au [] [] a8 (zD 35 (ja 1 (by decide) (zD 3 ?_)));exact aE q0 (zI 1) [] [] [] (Sub.refl _) ⟨_,_,rfl,rfl,rfl,rfl⟩
 |2,_=>by refine bA au [] [] a8 (zD 35 (ja 2 (by decide) (zD 3 ?_)));exact aE q0 (zI 2) [] [] [] (Sub.refl _) ⟨_,_,rfl,rfl,rfl,rfl⟩
 |3,_=>by refine bA au [] [] a8 (zD 35 (ja 2 (by decide) (zD 3 ?_)));exact aE q0 (zI 2) [] [] [] (Sub.refl _) ⟨_,_,rfl,rfl,rfl,rfl⟩
 |4,_=>by refine bA au [] [] a8 (zD 35 (ja 3 (by decide) (zD 3 ?_)));exact aE q0 (zI 3) [] [] [] (Sub.refl _) ⟨_,_,rfl,rfl,rfl,rfl⟩
 |5,_=>by refine bA au [] [] a8 (zD 35 (ja 3 (by decide) (zD 3 ?_)));exact aE q0 (zI 3) [] [] [] (Sub.refl _) ⟨_,_,rfl,rfl,rfl,rfl⟩
 |6,_=>by refine bA au [] [] a8 (zD 35 (ja 3 (by decide) (zD 3 ?_)));exact aE q0 (zI 3) [] [] [] (Sub.refl _) ⟨_,_,rfl,rfl,rfl,rfl⟩
 |7,_=>by refine bA au [] [] a8 (zD 35 (ja 3 (by decide) (zD 3 ?_)));exact aE q0 (zI 3) [] [] [] (Sub.refl _) ⟨_,_,rfl,rfl,rfl,rfl⟩
 |8,_=>by refine bA au [] [] a8 (zD 35 (ja 4 (by decide) (zD 3 ?_)));exact aE q0 (zI 4) [] [] [] (Sub.refl _) ⟨_,_,rfl,rfl,rfl,rfl⟩
 |9,_=>by refine bA au [] [] a8 (zD 35 (ja 4 (by decide) (zD 3 ?_)));exact aE q0 (zI 4) [] [] [] (Sub.refl _) ⟨_,_,rfl,rfl,rfl,rfl⟩
 |10,_=>by refine bA au [] [] a8 (zD 35 (ja 4 (by decide) (zD 3 ?_)));exact aE q0 (zI 4) [] [] [] (Sub.refl _) ⟨_,_,rfl,rfl,rfl,rfl⟩
 |11,_=>by refine bA au [] [] a8 (zD 35 (ja 4 (by decide) (zD 3 ?_)));exact aE q0 (zI 4) [] [] [] (Sub.refl _) ⟨_,_,rfl,rfl,rfl,rfl⟩
 |12,_=>by refine bA au [] [] a8 (zD 35 (ja 4 (by decide) (zD 3 ?_)));exact aE q0 (zI 4) [] [] [] (Sub.refl _) ⟨_,_,rfl,rfl,rfl,rfl⟩
 |n+13,h=>absurd h (by omega)
theorem aaP(h:n≤1000):Value.int .u64 (IntKind.u64.wrap (n:Int))= zU (n:Int):=by
 rw[sg .u64 rfl _ (by omega) (by simp[IntKind.bits];omega)]
def M5(v:Value)(xs:List ah)(Y:Cells):Prop:=∃ys,ys.Perm xs∧aA v 2 73 cO ys Y
theorem auM{ro:Nat→Option Obj}(h:n≤12):de zT 152 [zU (n:Int)] ro (zI (YE n)):=by
 refine bA au [] [] a8<|zD 10<|jp (vs:=[zU (n:Int)]) [] [] (fun aB hs hZ=>(auL h))<|zD 3<|aE q0 (zI (YE n)) [] [] [] (Sub.refl _) ⟨_,_,rfl,rfl,rfl,rfl⟩
theorem aTL{v:Value}{xs:List ah}{L:Cells}{a b:Int}{ro:Nat→Option Obj}(ho:aA v 2 73 cO xs L)(hN:xs.length≤1000)(Bm:0≤a∧a≤b∧b≤xs.length):eE zT 264 [v,zI a,zI b,.func (.func 201) ⟨[]⟩ ⟨[]⟩] ro L (fun r Y=>M5 v xs Y):=by
 refine bA au [.l L] [] a8<|zD 3<|ja (a+1) (by omega)<|zD 3<|dW [1,0,0] [] (fun(zz:Int×(List ah)×Cells)=>[(0,v),(1,zI a),(2,zI b),(3,.func (.func 201) ⟨[]⟩ ⟨[]⟩),(8,zI zz.1)]) (fun(zz:Int×(List ah)×Cells)=>[.l zz.2.2]) (fun(zz:Int×(List ah)×Cells)=>(a+1≤zz.1)∧aA v 2 73 cO zz.2.1 zz.2.2∧zz.2.1.Perm xs) (fun(zz:Int×(List ah)×Cells)=>(b-zz.1).toNat) (⟨(a+1),xs,L⟩) ⟨by dsimp only;omega,ho,.refl _⟩ [0] ?_
 rintro⟨i,ys,L⟩ hI K1 bK rest
 dsimp only at hI
 have Wi:=hI.2.2.length_eq
 refine zD 7<|zJ 14 (i <b) (fun h1=>?_) fun h1=>?_
 ·
  refine zD 10<|dW [1,0,0,1,0,0,1,0,0] [K1] (fun(zz:Int×(List ah)×Cells)=>[(0,v),(1,zI a),(2,zI b),(3,.func (.func 201) ⟨[]⟩ ⟨[]⟩),(8,zI i),(9,zI zz.1)]) (fun(zz:Int×(List ah)×Cells)=>[.l zz.2.2]) (fun(zz:Int×(List ah)×Cells)=>(a≤zz.1∧zz.1≤i)∧aA v 2 73 cO zz.2.1 zz.2.2∧zz.2.1.Perm xs) (fun(zz:Int×(List ah)×Cells)=>(zz.1-a).toNat) (⟨i,ys,L⟩) ⟨by dsimp only;omega,hI.2⟩ [0] ?_
  rintro⟨j,ys,L⟩ hJ K2 lg rest
  dsimp only at hJ
  have Wi:=hJ.2.2.length_eq
  refine zD 7<|js 3 (decide (j>a)) (fun h2=>?_) (fun h2=>?_)
  ·
   have my:=h2
   replace my:=of_decide_eq_true my
   refine zD 3 ?_
   obtain⟨yd,lf⟩:=zG ys (j.toNat) (by first|omega| (simp only[List.length_set];omega))
   refine qh j 2 hJ.2.1 lf (Int.toNat_of_nonneg (show 0≤j∧j <((ys).length:Int) from (by first|omega| (simp only[List.length_set];omega))).1).symm (fun dP afs=>?_)
   refine oQ 0 [0] L (fun s _ hZ=>cD hJ.2.1 afs hZ lf)<|zD 2<|ja (j-1) (by omega) ?_
   obtain⟨oP,ki⟩:=zG ys ((j-1).toNat) (by first|omega| (simp only[List.length_set];omega))
   refine qh (j-1) 2 hJ.2.1 ki (Int.toNat_of_nonneg (show 0≤(j-1)∧(j-1) <((ys).length:Int) from (by first|omega| (simp only[List.length_set];omega))).1).symm (fun b30 TD=>?_)
   refine oQ 0 [0] L (fun s _ hZ=>cD hJ.2.1 TD hZ ki)<|aO 14 fun tv tx rY=>jp (vs:=[.agg ⟨[zI yd.n,zI yd.l]⟩,.agg ⟨[zI oP.n,zI oP.l]⟩]) [] [] (fun aB hs hZ=>(aoJ (x:=yd) (y:=oP)))<|bI rY [0]<|zD 3<|zJ 34 ((ZL yd oP) <0) (fun h4=>?_) fun h4=>?_
   ·
    refine zD 9<|ja (j-1) (by omega)<|zD 2<|ja (j-1) (by omega) ?_
    obtain⟨xB,D9⟩:=zG ys ((j-1).toNat) (by first|omega| (simp only[List.length_set];omega))
    refine qh (j-1) 2 hJ.2.1 D9 (Int.toNat_of_nonneg (show 0≤(j-1)∧(j-1) <((ys).length:Int) from (by first|omega| (simp only[List.length_set];omega))).1).symm (fun b45 afr=>?_)
    refine oQ 0 [0] L (fun s _ hZ=>cD hJ.2.1 afr hZ D9)<|zD 2 ?_
    obtain⟨HX,D8⟩:=zG ys (j.toNat) (by first|omega| (simp only[List.length_set];omega))
    refine qh j 2 hJ.2.1 D8 (Int.toNat_of_nonneg (show 0≤j∧j <((ys).length:Int) from (by first|omega| (simp only[List.length_set];omega))).1).symm (fun b49 afq=>?_)
    refine oQ 0 [0] L (fun s _ hZ=>cD hJ.2.1 afq hZ D8) ?_
    obtain⟨x51,D7⟩:=zG ys (j.toNat) (by first|omega| (simp only[List.length_set];omega))
    refine qh j 2 hJ.2.1 D7 (Int.toNat_of_nonneg (show 0≤j∧j <((ys).length:Int) from (by first|omega| (simp only[List.length_set];omega))).1).symm (fun b51 afp=>?_)
    refine aO 15 fun uM uO sR=>Re 0 0 [zI xB.n,zI xB.l] (⟨xB.n,xB.l⟩:ah) hJ.2.1 afp D7 rfl rfl (Nat.le_of_ble_eq_true rfl) fun L6 Za=>jA sR [] ?_
    obtain⟨x52,Ca⟩:=zG ((ys.set j.toNat (⟨xB.n,xB.l⟩:ah))) ((j-1).toNat) (by first|omega| (simp only[List.length_set];omega))
    refine qh (j-1) 2 Za Ca (Int.toNat_of_nonneg (show 0≤(j-1)∧(j-1) <(((ys.set j.toNat (⟨xB.n,xB.l⟩:ah))).length:Int) from (by first|omega| (simp only[List.length_set];omega))).1).symm (fun b52 afo=>?_)
    refine aO 17 fun Dx DG Ef=>Re 0 0 [zI HX.n,zI HX.l] (⟨HX.n,HX.l⟩:ah) Za afo Ca rfl rfl (Nat.le_of_ble_eq_true rfl) fun L9 aeS=>e8 Ef<|zD 3<|ja (j-1) (by omega)<|zD 2<|bO lg (⟨(j-1),((ys.set j.toNat (⟨xB.n,xB.l⟩:ah)).set ((j-1).toNat) (⟨HX.n,HX.l⟩:ah)),L9⟩) ⟨by dsimp only;omega,aeS,(nG D8 D9).trans hJ.2.2⟩ (by dsimp only;omega) [0] (Sub.refl _)
   refine zD 4<|ja (i+1) (by omega)<|zD 2<|bO bK (⟨(i+1),ys,L⟩) ⟨by dsimp only;omega,hJ.2⟩ (by dsimp only;omega) [0] (Sub.refl _)
  have my:=h2
  replace my:=of_decide_eq_false my
  refine zD 18<|ja (i+1) (by omega)<|zD 2<|bO bK (⟨(i+1),ys,L⟩) ⟨by dsimp only;omega,hJ.2⟩ (by dsimp only;omega) [0] (Sub.refl _)
 refine zD 2<|aE q0 (.tuple ⟨[]⟩) [] [0] L (Sub.refl _) ⟨_,_,rfl,rfl,ys,hI.2.2,hI.2.1⟩
theorem aTJ{v:Value}{xs:List ah}{L:Cells}{lim:Int}{ro:Nat→Option Obj}(ho:aA v 2 73 cO xs L)(hN:xs.length≤12):eE zT 247 [v,zI 0,zI (xs.length:Int),zI lim,.func (.func 201) ⟨[]⟩ ⟨[]⟩] ro L (fun r Y=>M5 v xs Y):=by
 refine bA au [.l L] [] a8<|zD 9<|dW [1,1,0,0] [] (fun(zz:Nat)=>[(0,v),(1,zI 0),(2,zI (xs.length:Int)),(3,zI lim),(4,.func (.func 201) ⟨[]⟩ ⟨[]⟩),(10,.bool true),(11,.bool true)]) (fun(zz:Nat)=>[.l L]) (fun(zz:Nat)=>True) (fun(zz:Nat)=>zz) 0 trivial [0] ?_
 rintro z hI K1 bK rest
 refine zD 5<|ja ((xs.length:Int)-0) (by omega)<|zD 8<|zJ 25 (((xs.length:Int)-0)≤12) (fun h1=>?_) fun h1=>?_
 ·
  refine zD 7<|jc (vs:=[v,zI 0,zI (xs.length:Int),.func (.func 201) ⟨[]⟩ ⟨[]⟩]) [0] (aTL ho (by omega) (by omega)) ?_
  rintro ayf Y30 ⟨aJP,asE,vZ⟩
  refine zD 2<|aE q0 (.tuple ⟨[]⟩) [] [0] Y30 (Sub.refl _) ⟨_,_,rfl,rfl,_,asE,vZ⟩
 exfalso;omega
theorem ago{v:Value}{xs:List ah}{L:Cells}{ro:Nat→Option Obj}(ho:aA v 2 73 cO xs L)(hN:xs.length≤12):eE zT 221 [v,.func (.func 201) ⟨[]⟩ ⟨[]⟩] ro L (fun r Y=>M5 v xs Y):=by
 refine bA au [.l L] [] a8<|zD 3<|Ao ho<|zD 6<|je (zU (xs.length:Int)) (aaP (by omega))<|jp (vs:=[zU (xs.length:Int)]) [] [] (fun aB hs hZ=>(auM (by omega)))<|zD 1<|jc (vs:=[v,zI 0,zI (xs.length:Int),zI (YE xs.length),.func (.func 201) ⟨[]⟩ ⟨[]⟩]) [0] (aTJ ho (by omega)) ?_
 rintro ayg Y13 ⟨aJR,Y3,Tn⟩
 refine zD 1<|aE q0 (.tuple ⟨[]⟩) [] [0] Y13 (Sub.refl _) ⟨_,_,rfl,rfl,_,Y3,Tn⟩
theorem aFq{v:Value}{xs:List ak}{L:Cells}{ro:Nat→Option Obj}(ho:aA v 3 164 cE xs L)(hN:xs.length≤1):eE zT 222 [v,zI 0,zI (xs.length:Int),.func (.func 161) ⟨[]⟩ ⟨[]⟩] ro L (fun r Y=>aA v 3 164 cE xs Y):=by
 refine bA au [.l L] [] a8<|zD 7<|dW [1,0,0] [] (fun(zz:Nat)=>[(0,v),(1,zI 0),(2,zI (xs.length:Int)),(3,.func (.func 161) ⟨[]⟩ ⟨[]⟩),(8,zI (0+1))]) (fun(zz:Nat)=>[.l L]) (fun(zz:Nat)=>True) (fun(zz:Nat)=>zz) 0 trivial [0] ?_
 rintro z hI K1 bK rest
 refine zD 7<|zJ 14 ((0+1) <(xs.length:Int)) (fun h1=>?_) fun h1=>?_
 ·
  exfalso;omega
 refine zD 2<|aE q0 (.tuple ⟨[]⟩) [] [0] L (Sub.refl _) ⟨_,_,rfl,rfl,ho⟩
theorem aFl{v:Value}{xs:List ak}{L:Cells}{lim:Int}{ro:Nat→Option Obj}(ho:aA v 3 164 cE xs L)(hN:xs.length≤1):eE zT 199 [v,zI 0,zI (xs.length:Int),zI lim,.func (.func 161) ⟨[]⟩ ⟨[]⟩] ro L (fun r Y=>aA v 3 164 cE xs Y):=by
 refine bA au [.l L] [] a8<|zD 9<|dW [1,1,0,0] [] (fun(zz:Nat)=>[(0,v),(1,zI 0),(2,zI (xs.length:Int)),(3,zI lim),(4,.func (.func 161) ⟨[]⟩ ⟨[]⟩),(10,.bool true),(11,.bool true)]) (fun(zz:Nat)=>[.l L]) (fun(zz:Nat)=>True) (fun(zz:Nat)=>zz) 0 trivial [0] ?_
 rintro z hI K1 bK rest
 refine zD 5<|ja ((xs.length:Int)-0) (by omega)<|zD 8<|zJ 25 (((xs.length:Int)-0)≤12) (fun h1=>?_) fun h1=>?_
 ·
  refine zD 7<|jc (vs:=[v,zI 0,zI (xs.length:Int),.func (.func 161) ⟨[]⟩ ⟨[]⟩]) [0] (aFq ho (by omega)) ?_
  rintro ayf Y30 vZ
  refine zD 2<|aE q0 (.tuple ⟨[]⟩) [] [0] Y30 (Sub.refl _) ⟨_,_,rfl,rfl,vZ⟩
 exfalso;omega
theorem auK{v:Value}{xs:List ak}{L:Cells}{ro:Nat→Option Obj}(ho:aA v 3 164 cE xs L)(hN:xs.length≤1):eE zT 160 [v,.func (.func 161) ⟨[]⟩ ⟨[]⟩] ro L (fun r Y=>aA v 3 164 cE xs Y):=by
 refine bA au [.l L] [] a8<|zD 3<|Ao ho<|zD 6<|je (zU (xs.length:Int)) (aaP (by omega))<|jp (vs:=[zU (xs.length:Int)]) [] [] (fun aB hs hZ=>(auM (by omega)))<|zD 1<|jc (vs:=[v,zI 0,zI (xs.length:Int),zI (YE xs.length),.func (.func 161) ⟨[]⟩ ⟨[]⟩]) [0] (aFl ho (by omega)) ?_
 rintro ayg Y13 Tn
 refine zD 1<|aE q0 (.tuple ⟨[]⟩) [] [0] Y13 (Sub.refl _) ⟨_,_,rfl,rfl,Tn⟩
theorem agt{v:Value}{xs:List ak}{L:Cells}{ro:Nat→Option Obj}(ho:aA v 3 164 cE xs L)(hN:xs.length≤1):eE zT 162 [v] ro L (fun r Y=>v=r∧L=Y):=by
 refine bA au [.l L] [] a8<|zD 8<|Ao ho<|zD 2<|zJ 8 ((xs.length:Int) <2) (fun h1=>?_) fun h1=>?_
 ·
  refine zD 7<|aE q0 (v) [] [0] L (Sub.refl _) ⟨_,_,rfl,rfl,rfl,rfl⟩
 exfalso;omega
theorem WT{v:Value}{xs:List ak}{ro:Nat→Option Obj}(hl:bE ro v 3 cE xs)(hN:xs.length≤1):eE zT 123 [v] ro [] (fun r Y=>aA r 3 164 cE xs Y):=by
 obtain⟨fI,rM,rK,eX,rfl,tG,lG,mH⟩:=hl
 refine bA au [] [] a8<|zD 7<|jc (vs:=[.slice fI xs.length eX]) [] (aTO (show bE _ _ _ _ _ from ⟨fI,rM,rK,eX,rfl,tG,lG,mH⟩) (by first|omega| (simp only[List.length_set,List.length_append,List.length_cons,List.length_nil];omega))) ?_
 rintro v5 L5 ho5
 obtain⟨va5,vc5,he5⟩:=ho5.form
 subst he5
 refine zD 5<|jc (vs:=[(.slice va5 (xs).length vc5),.func (.func 161) ⟨[]⟩ ⟨[]⟩]) [0] (auK ho5 (by omega)) ?_
 rintro rv7 Y7 Za
 refine zD 4<|jc (vs:=[(.slice va5 (xs).length vc5)]) [0] (agt Za (by omega)) ?_
 rintro _ _ ⟨rfl,rfl⟩
 refine zD 3<|aE q0 ((.slice va5 (xs).length vc5)) [] [0] Y7 (Sub.refl _) ⟨_,_,rfl,rfl,Za⟩
theorem MV.put{F:List (ak×Value)}{g:ak→ak}(h:MV Z F g){k:ak}{v:Value}(hv:∀aI,Knows aI Z2→bE aI v 3 cE [g k]):MV (Z++Z2) (mg k v F) g:=by
 have h1:∀x∈mg k v F,x=(k,v)∨x∈F:=fun x hx=>by
  unfold mg at hx
  split at hx
  ·rw[EE] at hx
   obtain⟨i,hi⟩:=List.getElem?_of_mem hx
   rw[List.getElem?_set] at hi
   split at hi
   ·split at hi
    ·cases hi;exact .inl rfl
    cases hi
   exact .inr (List.mem_of_getElem? hi)
  rcases List.mem_append.1 hx with h|h
  ·exact .inr h
  exact .inl (List.mem_singleton.1 h)
 intro aI hr x hx
 rcases h1 x hx with rfl|hx
 ·exact hv aI hr.right
 exact h aI hr.left x hx
theorem NJ[DecidableEq κ]{k x:κ}{v:Value}{F:List (κ×Value)}(h:x=k∨x∈F.map (·.1)):x∈(mg k v F).map (·.1):=by
 unfold mg
 split
 ·rename_i i u hf
  have yO:=(qz hf).2
  rw[Nat.sub_zero] at yO
  have hs:((F.set i (k,v)).map (·.1))=F.map (·.1):=by
   rw[List.map_set]
   refine List.ext_getElem? fun j=>?_
   rw[List.getElem?_set]
   split
   ·rename_i hj;subst hj;simp[yO,(List.getElem?_eq_some_iff.1 yO).1,(List.getElem?_eq_some_iff.1 yO).2]
   rfl
  rw[EE,hs]
  rcases h with rfl|h
  ·exact List.mem_map_of_mem (f:=(·.1)) (List.mem_of_getElem? yO)
  exact h
 rw[List.map_append]
 rcases h with rfl|h
 ·exact List.mem_append_right _ (by simp)
 exact List.mem_append_left _ h
def Seen(es:Array MapEntry)(seen:List Nat)(F:List (ak×Value)):Prop:=∀e∈es.toList,e∈cF es seen∨∃k,e.key=oU k∧k∈F.map (·.1)
theorem Seen.start{es:Array MapEntry}{F:List (ak×Value)}:Seen es [] F:=fun e he=> .inl (by rw[B7];exact he)
theorem Seen.step{es:Array MapEntry}{ck:Nat}{F0 F:List (ak×Value)}(h:Seen es seen F)(hE:tb oU F0 es ck){e:MapEntry}(he:e∈cF es seen){k:ak}(hk:e.key=oU k){v:Value}:Seen es (seen++[e.born]) (mg k v F):=fun x hx=>by
 rcases h x hx with h1| ⟨q,h1,h2⟩
 ·rcases SR hE he h1 with rfl|h2
  ·exact .inr ⟨k,hk,NJ (.inl rfl)⟩
  exact .inl h2
 exact .inr ⟨q,h1,NJ (.inr h2)⟩
theorem akB{a b:ak}(h:oU a=oU b):a=b:=by
 rcases a with ⟨x,y,z⟩;rcases b with ⟨d,e,f⟩
 simp only[oU,cE,Value.agg.injEq,Array.mk.injEq,List.cons.injEq,Value.int.injEq] at h
 simp[h.1.2,h.2.1.2,h.2.2.1.2]
theorem Seen.fin{es:Array MapEntry}{ck:Nat}{F0 F:List (ak×Value)}(h:Seen es seen F)(hl:cF es seen=[])(hE:tb oU F0 es ck){k:ak}(hk:k∈F0.map (·.1)):k∈F.map (·.1):=by
 obtain⟨⟨k',v⟩,h1,rfl⟩:=List.mem_map.1 hk
 have:(oU k',v)∈es.toList.map (fun e=>(e.key,e.val)):=by rw[hE.1];exact List.mem_map_of_mem (f:=fun x:ak×Value=>(oU x.1,x.2)) h1
 obtain⟨e,h2,h3⟩:=List.mem_map.1 this
 simp only[Prod.mk.injEq] at h3
 rcases h e h2 with h4| ⟨q,h4,h5⟩
 ·rw[hl] at h4;cases h4
 have:=akB (h3.1.symm.trans h4);subst this;exact h5
structure QZ(ro:Nat→Option Obj)(r:Nat)(H:List ak)(g:ak→ak)(es:Array MapEntry)(ck:Nat)(F:List (ak×Value)):Prop where
 m:ro r=some (.map es ck)
 e:tb oU F es ck
 k:F.map (·.1)=H
 v:∀x∈F,bE ro x.2 3 cE [g x.1]
theorem FM{a x:α}(h: [a][j]?=some x):x=a∧j=0:=by
 cases j with
 |zero=>simp at h;exact⟨h.symm,rfl⟩
 |succ j=>simp at h
theorem aoH{Br:Array MapEntry}{F1:List (ak×Value)}{r2 ZN:Nat}{Ej:Array MapEntry}{F2:List (ak×Value)}{H:List ak}{g:ak→ak}{ro:Nat→Option Obj}(HR:QZ ro r1 H id Br HW F1)(hP2:QZ ro r2 H g Ej ZN F2):eE zT 196 [(.map (some r1)),(.map (some r2))] ro [] (fun r Y=>∃rm F LM Z,r= .map (some rm)∧Y=LM++Z∧jV rm oU F LM∧(∀h∈H,h∈F.map (·.1))∧MV Z F g):=by
 refine bA au [] [] a8<|zD 6<|jmk oU fun Fx L11 aeZ=>zD 6<|jmR HR.m fun r13=>jg 0 [.b r13 (uB r1 HW [])]<|zD 2<|pE<|dW [1,1,0,1,0,0] [] (fun(zz:(List Nat)×(List (ak×Value))×Cells×Cells)=>[(1,(.map (some r2))),(4,(.map none)),(5,(.map (some Fx))),(13,zP r13)]) (fun(zz:(List Nat)×(List (ak×Value))×Cells×Cells)=>[.b r13 (uB r1 HW zz.1),.l zz.2.2.1,.l zz.2.2.2]) (fun(zz:(List Nat)×(List (ak×Value))×Cells×Cells)=>jV Fx oU zz.2.1 zz.2.2.1∧Seen Br zz.1 zz.2.1∧MV zz.2.2.2 zz.2.1 g) (fun(zz:(List Nat)×(List (ak×Value))×Cells×Cells)=>(cF Br zz.1).length) (⟨[],[],L11,[]⟩) ⟨aeZ,Seen.start,fun _ _ _ h=>(by cases h)⟩ [1,2,0] ?_
 rintro⟨seen,F,LM,Z⟩ hI K1 bK rest
 dsimp only at hI
 refine zD 2<|jmN (it:=r13) (kv:=oU) (seen:=seen) 0 HR.m HR.e (fun Nj v14 MI aBX xK alv aPo=>?_) (fun aOQ=>?_)
 ·
  have hkH:Nj∈H:=by rw[←HR.k];exact List.mem_map_of_mem (f:=(·.1)) aBX
  have hvv:bE ro v14 3 cE [Nj]:=HR.v _ aBX
  obtain⟨KZ,qvb,qvo,Ba,rfl,qvk,Oi,Oh⟩:=hvv
  refine jg 0 [.b r13 (uB r1 HW (seen++[MI.born]))]<|zD 8<|jmE (it:=r13) 0 HR.m HR.e xK alv aPo<|jg 0 [.b r13 (uB r1 HW (seen++[MI.born]))]<|zD 2<|jn fun b6=>jd 15 [0]<|pE<|dW [1,1,0,1,0,0,1,1,0,1,1,0,1,0,0] [K1] (fun(zz:Nat×Value×Cells)=>[(1,(.map (some r2))),(4,(.map none)),(5,(.map (some Fx))),(6,zP b6),(8,zz.2.1),(13,zP r13),(19,.slice KZ ([Nj].length) Ba),(20,zI ([Nj].length:Int)),(21,zI (zz.1:Int))]) (fun(zz:Nat×Value×Cells)=>[.l zz.2.2,.b b6 (.cells ⟨[zI Nj.h,zI Nj.n,zI Nj.l]⟩ 164 (0,0)),.b r13 (uB r1 HW (seen++[MI.born])),.l LM,.l Z]) (fun(zz:Nat×Value×Cells)=>zz.1≤[Nj].length∧aA zz.2.1 3 164 cE ([g Nj].take zz.1) zz.2.2) (fun(zz:Nat×Value×Cells)=>[Nj].length-zz.1) (⟨0,zS,[]⟩) ⟨by simp,aA.nil _ _ _⟩ [0,1,2,3,4] ?_
  rintro⟨i,vO,LO⟩ hJ K2 lg rest
  dsimp only at hJ
  have Ro: [Nj].length=1:=rfl
  refine zD 5<|zJ 22 ((i:Int) <([Nj].length:Int)) (fun h1=>?_) fun h1=>?_
  ·
   refine zD 6 ?_
   obtain⟨u1,sM⟩:=zG ([Nj]) i
   refine iK Ba 3 Oi sM<|jl 0 (Oh _ _ sM)<|jn fun lP=>jd 2 [0] ?_
   obtain⟨hxe,hj0⟩:=FM sM
   refine jd 4 [0]<|jlu (kv:=oU) (F:=F2) (r:=r2) (K:=164) u1 (zS) false [] [] De (fun s he _=>⟨_,_,he _ _ (.inl hP2.m),hP2.e⟩) ?_
   obtain⟨w28,aPb,asV⟩:=VZ (k:=u1) (F:=F2) (by rw[hP2.k,hxe];exact hkH)
   have hww:bE ro w28 3 cE [g u1]:=hP2.v _ asV
   obtain⟨Sw,qwb,qwo,KY,rfl,qwk,qwh,qwl⟩:=hww
   refine jw 28 (.slice Sw ([g u1].length) KY) (show Pb (zS) false u1 F2=_ from by simp only[Pb,aPb];rfl) ?_
   refine kL (sz:=3) (ps:=([g Nj].take i)) (qs:=[g u1]) (enc:=cE) (w:= .slice Sw ([g u1].length) KY) [1] [] [] (hJ.2) (fun s he _=>⟨Sw,qwb,qwo,KY,rfl,qwh,fun i p hp=>(qwl i p hp).ext he⟩) (fun p _=>ar rfl) (by simp only[List.length_take,List.length_cons,List.length_nil];omega) (fun v29 L29 Gs=>?_)
   obtain⟨aba,aa4,afh⟩:=Gs.form
   subst afh
   refine zD 3<|ja ((i:Int)+1) (by omega)<|zD 2<|bO lg (⟨i+1,(.slice aba ((([g Nj].take i)++[g u1])).length aa4),L29⟩) ⟨by dsimp only;omega,by have:=Gs;rw[hj0] at this ⊢;rw[hxe] at this;exact this⟩ (by dsimp only;omega) [0,2,3,4,5] (Sub.refl _)
  refine jd 6 [1]<|aO 3 fun tv tx rY=>jcL (vs:=[vO]) [] [0] LO (fun aB hs hZ=>WT (hJ.2.lR hZ) (by simp only[List.length_take,List.length_cons,List.length_nil];omega)) ?_
  rintro v34 L34 aP3
  refine bI rY [1,2,3,4,5]<|aO 4 fun uM uO sR=>jmu (kv:=oU) (F:=F) (r:=Fx) (K:=164) 4 Nj (v34) De hI.1 fun Lm4 hm4=>e8 sR<|zD 1<|Nl bK (⟨(seen++[MI.born]),_,Lm4,Z++L34⟩) ⟨hm4,hI.2.1.step HR.e xK alv,hI.2.2.put fun aI hk=>(by have:=aP3;rw[show ([g Nj].take i)=[g Nj] from List.take_of_length_le (by simp;omega)] at this;exact this.lR hk)⟩ (F6 xK) [[4],[0],[5,1]] (Sub.refl _)
 refine jg 0 [.b r13 (uB r1 HW seen)]<|zD 11<|aE q0 ((.map (some Fx))) [] [1,2] (LM++Z) (Sub.refl _) ⟨_,_,rfl,rfl,Fx,F,LM,Z,rfl,rfl,hI.1,fun h hh=>hI.2.1.fin aOQ HR.e (by rw[HR.k];exact hh),hI.2.2⟩
theorem ac6{kv:κ→Value}{F:List (κ×Value)}{es:Array MapEntry}{ck:Nat}(h:tb kv F es ck):es.toList.length=F.length:=by
 have:=congrArg List.length h.1
 simpa using this
theorem agv{Br:Array MapEntry}{F1:List (ak×Value)}{H:List ak}{g:ak→ak}{ro:Nat→Option Obj}(HR:QZ ro r1 H g Br HW F1)(hn:H.length≤8)(hS:∀x∈F1,(g x.1).h=0∨(g x.1).h=1):eE zT 195 [(.map (some r1)),zI 2] ro [] (fun r Y=>∃a n c,r= .agg ⟨[.slice a n c]⟩):=by
 refine bA au [] [] a8<|zD 2<|jn fun b4=>zD 4<|jmS (E:=74) (z:= zS) fun zi=>jg 0 [.b zi (.cells ⟨[zS,zS]⟩ 74 (0,0))]<|zD 1<|jn fun b5=>jd 6 [0]<|jmR HR.m fun Yf=>jg 0 [.b Yf (uB r1 HW [])]<|zD 2<|pE<|pE<|dW [1,1,0,1,0,0] [] (fun(zz:(List Nat)×Value×Cells×(List ah)×Value×Cells×(List ah))=>[(4,zP b4),(5,zP b5),(16,zP Yf)]) (fun(zz:(List Nat)×Value×Cells×(List ah)×Value×Cells×(List ah))=>[.b Yf (uB r1 HW zz.1),.b zi (.cells ⟨[zz.2.1,zz.2.2.2.2.1]⟩ 74 (0,0)),.l zz.2.2.1,.l zz.2.2.2.2.2.1,.b b5 (.cells ⟨[.slice (some ⟨zi,0,none⟩) 2 2]⟩ 27 (0,0)),.b b4 (.cells ⟨[zS]⟩ 27 (0,0))]) (fun(zz:(List Nat)×Value×Cells×(List ah)×Value×Cells×(List ah))=>zz.2.2.2.1.length+zz.2.2.2.2.2.2.length+(cF Br zz.1).length≤8∧aA zz.2.1 2 73 cO zz.2.2.2.1 zz.2.2.1∧aA zz.2.2.2.2.1 2 73 cO zz.2.2.2.2.2.2 zz.2.2.2.2.2.1) (fun(zz:(List Nat)×Value×Cells×(List ah)×Value×Cells×(List ah))=>(cF Br zz.1).length) (⟨[],zS,[],[],zS,[],[]⟩) ⟨by rw[B7,ac6 HR.e];have:=congrArg List.length HR.k;simp at this ⊢;omega,aA.nil _ _ _,aA.nil _ _ _⟩ [2,4,1,0,3,5] ?_
 rintro⟨seen,w0,L0,p0,w1,L1,p1⟩ hI K1 bK rest
 dsimp only at hI
 refine zD 2<|jmN (it:=Yf) (kv:=oU) (seen:=seen) 0 HR.m HR.e (fun k17 v17 e17 alA PZ Zh aPm=>?_) (fun bc5=>?_)
 ·
  have hvv:bE ro v17 3 cE [g k17]:=HR.v _ alA
  obtain⟨KZ,qvb,qvo,Ba,rfl,qvk,Oi,Oh⟩:=hvv
  have hsg:(g k17).h=0∨(g k17).h=1:=hS _ alA
  have cG:=F6 PZ
  refine jg 0 [.b Yf (uB r1 HW (seen++[e17.born]))]<|zD 8<|jmE (it:=Yf) 0 HR.m HR.e PZ Zh aPm<|jg 0 [.b Yf (uB r1 HW (seen++[e17.born]))]<|zD 10<|dW [1,1,0,1,0,0,1,1,0,1,1,0,0] [K1] (fun(zz:Nat×Value×Cells×(List ah)×Value×Cells×(List ah))=>[(4,zP b4),(5,zP b5),(16,zP Yf),(21,.slice KZ ([g k17].length) Ba),(22,zI ([g k17].length:Int)),(23,zI (zz.1:Int))]) (fun(zz:Nat×Value×Cells×(List ah)×Value×Cells×(List ah))=>[.b Yf (uB r1 HW (seen++[e17.born])),.b zi (.cells ⟨[zz.2.1,zz.2.2.2.2.1]⟩ 74 (0,0)),.l zz.2.2.1,.l zz.2.2.2.2.2.1,.b b5 (.cells ⟨[.slice (some ⟨zi,0,none⟩) 2 2]⟩ 27 (0,0)),.b b4 (.cells ⟨[zS]⟩ 27 (0,0))]) (fun(zz:Nat×Value×Cells×(List ah)×Value×Cells×(List ah))=>(zz.1≤1∧zz.2.2.2.1.length+zz.2.2.2.2.2.2.length+(cF Br (seen++[e17.born])).length+(1-zz.1)≤8)∧aA zz.2.1 2 73 cO zz.2.2.2.1 zz.2.2.1∧aA zz.2.2.2.2.1 2 73 cO zz.2.2.2.2.2.2 zz.2.2.2.2.2.1) (fun(zz:Nat×Value×Cells×(List ah)×Value×Cells×(List ah))=>1-zz.1) (⟨0,w0,L0,p0,w1,L1,p1⟩) ⟨by dsimp only;omega,hI.2⟩ [0,1,2,3,4,5] ?_
  rintro⟨i,w0,L0,p0,w1,L1,p1⟩ hJ K2 lg rest
  dsimp only at hJ
  have Ro: [g k17].length=1:=rfl
  refine zD 5<|zJ 24 ((i:Int) <([g k17].length:Int)) (fun h1=>?_) fun h1=>?_
  ·
   refine zD 6 ?_
   obtain⟨yd,lf⟩:=zG ([g k17]) i
   refine iK Ba 3 Oi lf<|jl 0 (Oh _ _ lf) ?_
   obtain⟨hxe,hi0⟩:=FM lf;rw[←hxe] at hsg;obtain⟨xh,xn,xl⟩:=yd;dsimp only at hsg;rcases hsg with rfl|rfl
   ·
    refine jn fun b9=>jd 11 [0,5,0,5,0]<|jd 4 [2,0]<|aO 12 fun tv tx rY=>jn fun b39=>bI rY [1,2,3,4,5,6,7]<|aO 13 fun uM uO sR=>kL (sz:=2) (ps:=p0) (qs:=[(⟨xn,xl⟩:ah)]) (enc:=cO) (w:= .slice (some ⟨b39,0,none⟩) 1 1) [4] [0] [(b39,.cells ⟨([(⟨xn,xl⟩:ah)].map cO).flatten⟩ 73 (0,0))] (hJ.2.1) (fun s _ hZ=>cb [(⟨xn,xl⟩:ah)] (hZ _ (.head _)) (by intro p hp;rfl)) (fun p _=>ar rfl) (by simp only[List.length_cons,List.length_nil];omega) (fun v40 L40 Gr=>?_)
    obtain⟨apH,apx,atA⟩:=Gr.form
    subst atA
    refine jA sR [[2],[6],[2],[6]]<|zD 1<|aO 15 fun Dx DG Ef=>jd 1 [4]<|e8 Ef<|zD 2<|ja ((i:Int)+1) (by omega)<|zD 2<|bO lg (⟨i+1,(.slice apH ((p0++[(⟨xn,xl⟩:ah)])).length apx),L40,(p0++[(⟨xn,xl⟩:ah)]),w1,L1,p1⟩) ⟨by simp only[List.length_append,List.length_cons,List.length_nil];omega,Gr,hJ.2.2⟩ (by dsimp only;omega) [3,4,0,5,6,7] (Sub.refl _)
   refine jn fun b9=>jd 11 [0,5,0,5,0]<|jd 4 [2,0]<|aO 12 fun ai1 ajp hL6=>jn fun b39=>bI hL6 [1,2,3,4,5,6,7]<|aO 13 fun ai0 ajo TO=>kL (sz:=2) (ps:=p1) (qs:=[(⟨xn,xl⟩:ah)]) (enc:=cO) (w:= .slice (some ⟨b39,0,none⟩) 1 1) [5] [0] [(b39,.cells ⟨([(⟨xn,xl⟩:ah)].map cO).flatten⟩ 73 (0,0))] (hJ.2.2) (fun s _ hZ=>cb [(⟨xn,xl⟩:ah)] (hZ _ (.head _)) (by intro p hp;rfl)) (fun p _=>ar rfl) (by simp only[List.length_cons,List.length_nil];omega) (fun v40 L40 Gr=>?_)
   obtain⟨apH,apx,atA⟩:=Gr.form
   subst atA
   refine jA TO [[2],[6],[2],[6]]<|zD 1<|aO 15 fun aaG abk hL8=>jd 1 [4]<|e8 hL8<|zD 2<|ja ((i:Int)+1) (by omega)<|zD 2<|bO lg (⟨i+1,w0,L0,p0,(.slice apH ((p1++[(⟨xn,xl⟩:ah)])).length apx),L40,(p1++[(⟨xn,xl⟩:ah)])⟩) ⟨by simp only[List.length_append,List.length_cons,List.length_nil];omega,hJ.2.1,Gr⟩ (by dsimp only;omega) [3,4,5,0,6,7] (Sub.refl _)
  refine zD 2<|bO bK (⟨(seen++[e17.born]),w0,L0,p0,w1,L1,p1⟩) ⟨by dsimp only;omega,hJ.2⟩ cG [0,1,2,3,4,5] (Sub.refl _)
 refine jg 0 [.b Yf (uB r1 HW seen)]<|jd 14 [4]<|dW [1,1,1,0,1,0,0] [] (fun(zz:Nat×Value×Cells×(List ah)×Value×Cells×(List ah))=>[(4,zP b4),(5,zP b5),(44,.slice (some ⟨zi,0,none⟩) 2 2),(45,zI 2),(46,zI (zz.1:Int))]) (fun(zz:Nat×Value×Cells×(List ah)×Value×Cells×(List ah))=>[.b zi (.cells ⟨[zz.2.1,zz.2.2.2.2.1]⟩ 74 (0,0)),.l zz.2.2.1,.l zz.2.2.2.2.2.1,.b b5 (.cells ⟨[.slice (some ⟨zi,0,none⟩) 2 2]⟩ 27 (0,0)),.b b4 (.cells ⟨[zS]⟩ 27 (0,0))]) (fun(zz:Nat×Value×Cells×(List ah)×Value×Cells×(List ah))=>(zz.1≤2∧zz.2.2.2.1.length≤8∧zz.2.2.2.2.2.2.length≤8)∧aA zz.2.1 2 73 cO zz.2.2.2.1 zz.2.2.1∧aA zz.2.2.2.2.1 2 73 cO zz.2.2.2.2.2.2 zz.2.2.2.2.2.1) (fun(zz:Nat×Value×Cells×(List ah)×Value×Cells×(List ah))=>2-zz.1) (⟨0,w0,L0,p0,w1,L1,p1⟩) ⟨by dsimp only;omega,hI.2⟩ [1,2,3,4,5] ?_
 rintro⟨k,w0,L0,p0,w1,L1,p1⟩ hQ K9 hK9 rest
 dsimp only at hQ
 refine zD 5<|zJ 47 ((k:Int) <2) (fun h8=>?_) fun h8=>?_
 ·
  refine zD 6 ?_
  rcases(show k=0∨k=1 by omega) with hk0|hk0
  ·
   refine jw 46 (zI 0) (show Value.int .i64 (k:Int)= zI 0 by rw[hk0];rfl) ?_
   refine jd 6 [0]<|jc (vs:=[w0,.func (.func 201) ⟨[]⟩ ⟨[]⟩]) [1] (ago hQ.2.1 (by omega)) ?_
   rintro aMB Y51 ⟨ape,asA,asK⟩
   refine zD 5 ?_
   have hle:=asA.length_eq
   exact bO hK9 (⟨1,w0,Y51,ape,w1,L1,p1⟩) ⟨by dsimp only;omega,asK,hQ.2.2⟩ (by dsimp only;omega) [1,0,2,3,4] (Sub.refl _)
  refine jw 46 (zI 1) (show Value.int .i64 (k:Int)= zI 1 by rw[hk0];rfl) ?_
  refine jd 6 [0]<|jc (vs:=[w1,.func (.func 201) ⟨[]⟩ ⟨[]⟩]) [2] (ago hQ.2.2 (by omega)) ?_
  rintro aMB Y51 ⟨ape,asA,asK⟩
  refine zD 5 ?_
  have hle:=asA.length_eq
  exact bO hK9 (⟨2,w0,L0,p0,w1,Y51,ape⟩) ⟨by dsimp only;omega,hQ.2.1,asK⟩ (by dsimp only;omega) [1,2,0,3,4] (Sub.refl _)
 refine jd 8 [3,4]<|aE q0 (.agg ⟨[.slice (some ⟨zi,0,none⟩) 2 2]⟩) [4] [] [] (Sub.refl _) ⟨_,_,rfl,rfl,_,_,_,rfl⟩
end Go.L
