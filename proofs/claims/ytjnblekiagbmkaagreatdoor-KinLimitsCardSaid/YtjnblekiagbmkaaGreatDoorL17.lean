/- Part 17 of the proof: a program logic, contracts, a theorem on goroutines. -/
import Derived.Test.YtjnblekiagbmkaaGreatDoorL16
set_option maxRecDepth 100000
set_option linter.all false
namespace Go.L
open Go Go.Conc Go.Proofs
open Go.ConcR (KK wgBlock WgAt stA smA rd wr)
variable {K:bk} {l fi ca:List Value} {W:List (List Int)} {F:Nat→Nat→Bool} {κ:Type} {f k:Nat} {n:Int} {xs:List Int} {Z2:Cells}
theorem f26:gQ [V1 26]=[.region 0 kE.o0 false,.region 1 kE.o1 false,.region 2 kE.o2 false,.region 3 kE.o3 false,.block 0 (.loop kE.lb),.region 9 kE.o9 false,.region 10 kE.o10 false,.region 11 kE.o11 false,.block 2 (.loop kE.rb),.region 15 (Dc 26 9) false,.region 16 (Dc 26 10) false,.ret]:=by kernel_rfl
theorem aEq:gQ [kE.lb]=[.region 4 kE.o4 false,.cond (.tmp 19) .skip (.exit 0),.block 1 kE.Cy,.region 8 kE.o8 false]:=by kernel_rfl
theorem aSo:gQ [kE.Cy]=[.region 5 kE.o5 false,.region 6 kE.o6 false,.region 7 kE.o7 false]:=by kernel_rfl
theorem aEp:gQ [kE.rb]=[.region 12 kE.Bs false,.cond (.tmp 27) .skip (.exit 2),.block 3 kE.ux]:=by kernel_rfl
theorem aSn:gQ [kE.ux]=[.region 13 kE.o13 false,.region 14 kE.o14 false]:=by kernel_rfl
def jE(K:bk)(on:Int)(keep:ay→Bool)(rows:List bU)(n:Nat):List (List ay):=(List.range n).map fun i=>qK K on keep ((rows[i]?).getD ⟨fun _ _=>false⟩) i
theorem MM{on:Int}{keep:ay→Bool}{rows:List bU}{n:Nat}{r:bU}(h:rows[n]?=some r):jE K on keep rows (n+1)=jE K on keep rows n++[qK K on keep r n]:=by
 simp only[jE,List.range_succ,List.map_append,List.map_cons,List.map_nil,h,Option.getD_some]
theorem xZ(K:bk)(on:Int)(keep:ay→Bool)(rows:List bU)(n:Nat):(jE K on keep rows n).length=n:=by simp[jE]
def gB(K:bk)(on:Int)(keep:ay→Bool)(rows:List bU):List ay:=(jE K on keep rows rows.length).flatten
theorem wD(hV:gT K)(on:Int)(keep:ay→Bool){rows:List bU}(hR:rows.length≤2):(gB K on keep rows).length≤1250:=by
 have h1:∀r i,(qK K on keep r i).length≤625:=fun r i=>Nat.le_trans (List.length_filter_le _ _) (by rw[List.length_map];exact(lX hV on).1)
 have key:∀n,(jE K on keep rows n).flatten.length≤n*625:=by
  intro n
  induction n with
  |zero=>simp[jE]
  |succ n ih=>
   have:=h1 ((rows[n]?).getD ⟨fun _ _=>false⟩) n
   simp only[jE,List.range_succ,List.map_append,List.map_cons,List.map_nil,List.flatten_append,List.length_append,List.flatten_cons,List.flatten_nil,List.append_nil] at ih ⊢
   omega
 have:=key rows.length
 have h2:rows.length*625≤2*625:=Nat.mul_le_mul_right _ hR
 exact Nat.le_trans this h2
theorem YJ{on:Int}{keep:ay→Bool}{rows:List bU}(hR:rows.length≤2):gJ (gB K on keep rows):=by
 intro x hx
 obtain⟨l,hl,hx⟩:=List.mem_flatten.1 hx
 obtain⟨i,hi,rfl⟩:=List.mem_map.1 hl
 have hi:=List.mem_range.1 hi
 obtain⟨p,_,rfl⟩:=List.mem_map.1 (List.mem_filter.1 hx).1
 simp only[dS]
 omega
theorem afm{α:Type}(a:List (List α))(o:List α)(b:List (List α))(zs:List α):((zs++o)++(a++b).flatten).Perm (zs++(a++o::b).flatten):=by
 simp only[List.flatten_append,List.flatten_cons,List.append_assoc]
 refine .append_left _ ?_
 rw[←List.append_assoc,←List.append_assoc]
 exact .append_right _ List.perm_append_comm
theorem ay7{rows:List bU}{on:Int}{g:FuncId}{keep:ay→Bool}{ro:Nat→Option Obj}{fr:Cells}(hV:gT K)(hF:pF ro f K rows)(hR:rows.length≤2)(FU:AV zT g=true)
 (iy:∀i r,rows[i]?=some r→∀aL,Sub ro aL→∀p∈dH K on,dL zT g (fi++[.agg ⟨cN (dS K r i p)⟩]++ca) aL (.bool (keep (dS K r i p)))):
 Fn (C0 zT) zT 26 ⟨[pV f,.int .u8 on,.func (.func g) ⟨fi⟩ ⟨ca⟩]⟩ ⟨ro,fr⟩ (fun en s'=>∃v Y zs,en= .returned v∧s'=⟨ro,Y++fr⟩∧zs.Perm (gB K on keep rows)∧az v 8 91 cN zs Y):=by
 rintro main T ⟨rfl,ia,bZ,Post,rfl⟩ cl LN kr _
 have hT:=sr zT ia bZ Post
 obtain⟨c0,c1,c2,vc,vh,vr,vb,va,vf,vt,hv,hf,rO,oF,hr,Ds,HQ,I6,bM⟩:=id hF
 obtain⟨nz,C9,C8,mX,rfl,Ns,J1,J0⟩:=bM
 refine aoA (fn:=(Tryz.prog.funcs[26]?).getD default) (c:=V1 26) (n:=35) (by kernel_rfl) (by kernel_rfl) (by kernel_rfl) (by rfl)<|pP hT f26 fun l1 CE=>?_
 refine u9 au hT<|jn fun b3=>jn fun b4=>jn fun b5=>zD 2<|xq<|pP hT CE fun l2 qE=>?_
 show TT _ _ (.inRegion kE.o1 (0::[1,2])::_) _ _ _ _ _
 refine aw0 hT (a:=kE.a1) (f:=fun q=> .chan (some q)) (ob:= .chan 0 #[] false 0 0 false) (by kernel_rfl) (by kernel_rfl) (fun e q=>by kernel_rfl) (by decide) rfl fun Ch=>?_
 refine u9 au hT<|jn fun b7=>jd 2 [0]<|xq<|pP hT qE fun l3 ON=>?_
 show TT _ _ (.inRegion kE.o2 (0::[])::_) _ _ _ _ _
 refine aw0 hT (a:=kE.a2) (f:=fun q=> zP q) (ob:=wgBlock 145 0 0) (by kernel_rfl) (by kernel_rfl) (fun e q=>by kernel_rfl) (by decide) rfl fun Wg=>?_
 refine T4 hT<|aoE (E:=nj Wg Ch ia bZ) (Q:=Good zT Post) (tm:=false) 0 2 ((b7,.cells ⟨[.chan (some Ch)]⟩ 136 (0,0))::(b5,.cells ⟨[.func (.func g) ⟨fi⟩ ⟨ca⟩]⟩ 92 (0,0))::(b4,.cells ⟨[.int .u8 on]⟩ 85 (0,0))::(b3,.cells ⟨[pV f]⟩ 80 (0,0))::fr) hT (fun L aA hl ee SF=>?_)
 have h7:=hl.kn _ (.head _)
 have h5:=hl.kn _ (.tail _ (.head _))
 have h4:=hl.kn _ (.tail _ (.tail _ (.head _)))
 have h3:=hl.kn _ (.tail _ (.tail _ (.tail _ (.head _))))
 dsimp only at h7 h5 h4 h3
 have hM:∀pend os,Closed zT true (TM (nj Wg Ch ia bZ) L (Good zT Post) pend false os 0):=fun pend os=>fp (E:=nj Wg Ch ia bZ) false os (fun e=>(by cases e))
 have hC:∀os,Closed zT true (TM (nj Wg Ch ia bZ) L (Good zT Post) 0 true os 0):=fun os=>fp (E:=nj Wg Ch ia bZ) true os (fun _=>rfl)
 refine pP (hM 0 []) ON fun l4 OM=>?_
 refine u9 au (hM 0 [])<|jl (b:=b3) (off:=0) (m:=1) (vs:=[pV f]) 0 ⟨_,_,_,.inl h3,rfl⟩<|zD 2<|jl (b:=f) (off:=0) (m:=13) (vs:=[c0,c1,c2,vc,vh,vr,vb,va,zI K.gone,zI K.new,zI K.af,vf,.slice nz rows.length mX]) 12 ⟨_,_,_,.inl (hl.sub _ _ hf),rfl⟩<|zD 3<|xq<|JJ (hM 0 []) OM fun l5 OL=>?_
 refine alW (hM 0 []) (rest:=[]) rfl fun l6 HM=>?_
 have:=gG HM
 subst this
 have loop:∀m i kB,m+i=rows.length→Sub aA kB→(∀kB rest,Sub aA kB→TT (TM (nj Wg Ch ia bZ) L (Good zT Post) 0 false (jE K on keep rows rows.length) 0) (Yh 26 .normal) (l5.map .code++[]) (cl::LN) 35 [] kB (some ⟨.fin .normal,[(7,pV b7),(8,pV Wg)]++rest,[],⟨[],[]⟩⟩))→
  ∀rest,TT (TM (nj Wg Ch ia bZ) L (Good zT Post) 0 false (jE K on keep rows i) 0) (Yh 26 .normal) ([kE.lb].map .code++(.inLoop kE.lb::(.inBlock 0::(l5.map .code++[])))) (cl::LN) 35 [] kB (some ⟨.fin .normal,[(3,pV b3),(4,pV b4),(5,pV b5),(7,pV b7),(8,pV Wg),(17,zI (rows.length:Int)),(18,zI (i:Int))]++rest,[],⟨[],[]⟩⟩):=by
  intro m
  induction m with
  |zero=>
   intro i kB hi hs qe rest
   refine pP (hM 0 _) aEq fun m1 hm1=>?_
   refine u9 au (hM 0 _)<|zD 2<|xq<|T5 (hM 0 _) (t:=false) (q:=decide ((i:Int) <(rows.length:Int))) hm1 (by simp;omega) fun m2 D6=>?_
   refine alY (hM 0 _) (k':=l5.map .code++[]) (by rw[ql];simp[exitTo]) ?_
   have:i=rows.length:=by omega
   subst this
   exact tSt (hM 0 _) [(7,pV b7),(8,pV Wg)] [] [] fun rest=>qe kB rest hs
  |succ m ih=>
   intro i kB hi hs qe rest
   obtain⟨r,BH⟩:∃r,rows[i]?=some r:=⟨_,List.getElem?_eq_getElem (by omega)⟩
   refine pP (hM 0 _) aEq fun m1 hm1=>?_
   refine u9 au (hM 0 _)<|zD 2<|xq<|T5 (hM 0 _) (t:=true) (q:=decide ((i:Int) <(rows.length:Int))) hm1 (by simp;omega) fun m2 D6=>?_
   refine alU (hM 0 _)<|JJ (hM 0 _) D6 fun m3 hm3=>?_
   refine pP (hM 0 _) aSo fun m4 hm4=>?_
   refine u9 au (hM 0 _)<|zD 1<|jn fun b9=>jd 2 [0]<|xq<|pP (hM 0 _) hm4 fun m5 hm5=>?_
   show TT _ _ (.inRegion kE.o6 [0]::_) _ _ _ _ _
   refine aK7 (E:=nj Wg Ch ia bZ) (a:=kE.a6) (f:=52) (x:= .tmp 8) (ats:=agm kE.a6) ?_ (by kernel_rfl) (by kernel_rfl) (by kernel_rfl) (kY (by kernel_rfl)) (by decide) rfl (by show _ <2;rw[xZ];omega) (by show GB zT 145 _ _=_;rw[xZ];exact(aqt i (by omega) Wg).choose_spec) wO
   refine pP (hM 1 _) hm5 fun m6 hm6=>?_
   have:=gG hm6
   subst this
   show TT _ _ (.inRegion kE.o7 (0::[1])::_) _ _ _ _ _
   refine awX (hM 1 _) (a:=eH kE.o7 0) (.func (.func 53) ⟨[]⟩ ⟨[pV Wg,pV b3,pV b4,pV b9,pV b5,pV b7]⟩) (by kernel_rfl) (by kernel_rfl) (by decide) rfl<|tGo (E:=nj Wg Ch ia bZ) (qK K on keep r i) (a:=kE.a7) (f:=53) (y:= .tmp 22) (ca:=[pV Wg,pV b3,pV b4,pV b9,pV b5,pV b7]) (ats:=agm kE.a7) [(b9,.cells ⟨[zI (i:Int)]⟩ 3 (0,0))] (by kernel_rfl) (by kernel_rfl) (by kernel_rfl) (by decide) rfl (fun AM G4 Zd=>⟨?_,?_⟩)
   ·have wX:=Sub.trans hs G4
    have h03:=Sub.trans hl.sub wX
    exact ay1 hV (hF.up h03) BH FU (fun aL mY=>iy i r BH aL (Sub.trans h03 mY)) (wX _ _ h3) (wX _ _ h4) (Zd _ (.head _)) (wX _ _ h5) (wX _ _ h7)
   rw[←MM BH]
   refine T4 (hM 0 _) (alZ (hM 0 _) ?_)
   refine pP (hM 0 _) hm3 fun m7 hm7=>?_
   have:=gG hm7
   subst this
   refine u9 au (hM 0 _)<|ja ((i:Int)+1) (by omega)<|zD 2<|xq<|aak (hM 0 _)<|tSt (hM 0 _) [(3,pV b3),(4,pV b4),(5,pV b5),(7,pV b7),(8,pV Wg),(17,zI (rows.length:Int)),(18,zI ((i+1:Nat):Int))] [] [] fun rest=>ih (i+1) AM (by omega) (Sub.trans hs G4) qe rest
 refine tSt (hM 0 _) [(3,pV b3),(4,pV b4),(5,pV b5),(7,pV b7),(8,pV Wg),(17,zI (rows.length:Int)),(18,zI (((0:Nat)):Int))] [] [] fun rest=>loop rows.length 0 aA (by omega) (Sub.refl _) (fun kB rest qD=>?_) rest
 refine pP (hM 0 _) OL fun l7 D7=>?_
 show TT _ _ (.inRegion kE.o9 (0::[1])::_) _ _ _ _ _
 refine awX (hM 0 _) (a:=eH kE.o9 0) (.func (.func 57) ⟨[]⟩ ⟨[pV Wg,pV b7]⟩) (by kernel_rfl) (by kernel_rfl) (by decide) rfl<|aoI (E:=nj Wg Ch ia bZ) (a:=kE.a9) (f:=57) (y:= .tmp 24) (ca:=[pV Wg,pV b7]) (ats:=agm kE.a9) [] (by kernel_rfl) (by kernel_rfl) (by kernel_rfl) (by decide) rfl (fun AM G4 _=>?_)
 have wX:=Sub.trans qD G4
 refine⟨aib (E:=nj Wg Ch ia bZ) (x:=kE.cl) ay8 (ajx Wg).choose_spec wO (q:=b7) (t:=136) (fz:=(0,0)) (a:=eH kE.cl.q1 0) (y:= .tmp 1) (U:=136) (wX _ _ h7) (by kernel_rfl) (by kernel_rfl) (by kernel_rfl) (by kernel_rfl) (by kernel_rfl) (by kernel_rfl),?_⟩
 refine T4 (hC _)<|pP (hC _) D7 fun l8 XW=>?_
 refine u9 au (hC _)<|zD 2<|xq<|pP (hC _) XW fun l9 hl9=>?_
 refine u9 au (hC _)<|jl (b:=b7) (off:=0) (m:=1) (vs:=[.chan (some Ch)]) 0 ⟨_,_,_,.inl (wX _ _ h7),rfl⟩<|zD 1<|xq<|JJ (hC _) hl9 fun l10 arP=>?_
 refine alW (hC _) (rest:=[]) rfl fun l11 arO=>?_
 have:=gG arO
 subst this
 have hlen:=wD hV on keep hR
 have recv:∀m (os:List (List ay)) (v:Value) (L1:Cells) (zs:List ay),os.length=m→az v 8 91 cN zs L1→(zs++os.flatten).Perm (gB K on keep rows)→∀rest,
  TT (TM (nj Wg Ch ia bZ) L (Good zT Post) 0 true os 0) (Yh 26 .normal) ([kE.rb].map .code++(.inLoop kE.rb::(.inBlock 2::(l10.map .code++[])))) (cl::LN) 35 [] AM (some ⟨.fin .normal,[(10,v),(25,.chan (some Ch))]++rest,[.l L1],⟨[],[]⟩⟩):=by
  intro m
  induction m with
  |zero=>
   intro os v L1 zs tt ho hp rest
   have tt:=List.eq_nil_of_length_eq_zero tt
   subst tt
   refine pP (hC _) aEp fun m1 hm1=>?_
   show TT _ _ (.inRegion kE.Bs (0::[1])::_) _ _ _ _ _
   refine alV (E:=nj Wg Ch ia bZ) (a:=kE.PU) (rc:= .tmp 25) (z:= zS) hl wX SF (by kernel_rfl) (by kernel_rfl) (fun ρ=>by kernel_rfl) (by decide) rfl (fun a' oo b' v' Y he _=>by simp at he) fun _=>?_
   refine u9 au hT<|zD 2<|xq<|T5 hT (t:=false) (q:=false) hm1 rfl fun m2 D6=>?_
   refine alY hT (k':=l10.map .code++[]) (by rw[ql];simp[exitTo]) ?_
   refine pP hT arP fun m3 hm3=>?_
   refine u9 au hT<|zD 1 ?_
   have hp':zs.Perm (gB K on keep rows):=by simpa using hp
   refine jc (vs:=[v,.func (.func 60) ⟨[]⟩ ⟨[]⟩]) [1] (Nm ho (by rw[hp'.length_eq];omega) ((YJ hR).perm hp')) ?_
   rintro _ Y ⟨ys,hys,hoY⟩
   refine zD 1<|xq<|pP hT hm3 fun m4 hm4=>?_
   refine u9 au hT<|zD 3<|xq<|alX hT hm4 fun m5 hm5=>?_
   refine aK3 au hT (fn:=(Tryz.prog.funcs[26]?).getD default) v [] [0,1] (Y++((b7,.cells ⟨[.chan (some Ch)]⟩ 136 (0,0))::(b5,.cells ⟨[.func (.func g) ⟨fi⟩ ⟨ca⟩]⟩ 92 (0,0))::(b4,.cells ⟨[.int .u8 on]⟩ 85 (0,0))::(b3,.cells ⟨[pV f]⟩ 80 (0,0))::fr)) (by kernel_rfl)<|hT.mono _ ⟨ro,Y++fr⟩ _ (dP (J:=[(b7,.cells ⟨[.chan (some Ch)]⟩ 136 (0,0)),(b5,.cells ⟨[.func (.func g) ⟨fi⟩ ⟨ca⟩]⟩ 92 (0,0)),(b4,.cells ⟨[.int .u8 on]⟩ 85 (0,0)),(b3,.cells ⟨[pV f]⟩ 80 (0,0))]) ?_ (Sub.refl _)) (kr v _ ⟨v,Y,ys,rfl,rfl,hys.trans hp',hoY⟩)
   rw[List.append_assoc]
   exact .append_left _ (List.perm_append_comm (l₁:=[_,_,_,_]))
  |succ m ih=>
   intro os v L1 zs tt ho hp rest
   refine pP (hC _) aEp fun m1 hm1=>?_
   show TT _ _ (.inRegion kE.Bs (0::[1])::_) _ _ _ _ _
   refine alV (E:=nj Wg Ch ia bZ) (a:=kE.PU) (rc:= .tmp 25) (z:= zS) hl wX SF (by kernel_rfl) (by kernel_rfl) (fun ρ=>by kernel_rfl) (by decide) rfl (fun a' oo b' v' Y he oe=>?_) fun he=>by simp[he] at tt
   subst he
   have oe:az v' 8 91 cN oo Y:=oe
   refine u9 au (hC _)<|zD 2<|xq<|T5 (hC _) (t:=true) (q:=true) hm1 rfl fun m2 D6=>?_
   refine alU (hC _)<|JJ (hC _) D6 fun m3 hm3=>?_
   have:=gG hm3
   subst this
   refine pP (hC _) aSn fun m4 hm4=>?_
   refine u9 au (hC _)<|zD 3<|xq<|pP (hC _) hm4 fun m5 hm5=>?_
   have:=gG hm5
   subst this
   refine u9 au (hC _)<|zD 2 ?_
   have Qc:((zs++oo)++(a'++b').flatten).Perm (gB K on keep rows):=(afm a' oo b' zs).trans hp
   have hlz:zs.length+oo.length≤1250:=by
    have:=Qc.length_eq
    simp only[List.length_append] at this
    omega
   refine k8 (sz:=8) (ps:=zs) (qs:=oo) (enc:=cN) (w:=v') [1] [0] Y ho (fun s _ hZ=>oe.sl hZ) (fun p _=>ar rfl) (by omega) fun v23 L23 yz=>zD 2<|xq<|alZ (hC _) (aak (hC _) ?_)
   exact tSt (hC _) [(10,v23),(25,.chan (some Ch))] [.l L23] [0] fun rest=>ih (a'++b') v23 L23 (zs++oo) (by simp at tt ⊢;omega) yz Qc rest
 refine tGe<|tSt (hC _) [(10,zS),(25,.chan (some Ch))] [.l []] [0] fun rest=>recv rows.length (jE K on keep rows rows.length) (zS) [] [] (xZ _ _ _ _ _) (az.nil _ _ _) (by simp[gB]) rest
theorem acx{rows:List bU}{on:Int}{g:FuncId}{keep:ay→Bool}{ro:Nat→Option Obj}(hV:gT K)(hF:pF ro f K rows)(hR:rows.length≤2)(FU:AV zT g=true)
 (iy:∀i r,rows[i]?=some r→∀aL,Sub ro aL→∀p∈dH K on,dL zT g (fi++[.agg ⟨cN (dS K r i p)⟩]++ca) aL (.bool (keep (dS K r i p)))):
 G0 zT 26 [pV f,.int .u8 on,.func (.func g) ⟨fi⟩ ⟨ca⟩] ro [] (fun v Y=>∃zs,zs.Perm (gB K on keep rows)∧az v 8 91 cN zs Y):=
 fun fr=>Fn.mono (ay7 (fr:=fr) hV hF hR FU iy) fun en s' ⟨v,Y,zs,h1,h2,h3,h4⟩=>⟨v,Y,h1,by rw[h2];exact St.le_refl _,zs,h3,h4⟩
theorem U2{rows:List bU}{on:Int}{ro:Nat→Option Obj}(hV:gT K)(hF:pF ro f K rows)(hR:rows.length≤2):
 G0 zT 24 [pV f,.int .u8 on] ro [] (fun v Y=>∃zs,zs.Perm (gB K on (eY K.gone K.new K.af) rows)∧az v 8 91 cN zs Y):=by
 refine HC au [] [] bn fun fr=>zD 10<|KE (vs:=[pV f,.int .u8 on,.func (.func 51) ⟨[pV f]⟩ ⟨[]⟩]) [] (fun _ _ h=>h) (acx (keep:=eY K.gone K.new K.af) hV hF hR (by kernel_rfl) fun i r hr aL hs p hp=>?_) ?_
 ·obtain⟨c0,c1,c2,vc,vh,vr,vb,va,vf,vt,hv,hf,_⟩:=hF.up hs
  exact acu hf
 rintro v Y ⟨zs,hz,ho⟩
 refine zD 3<|RI qC v [0,1] Y (Sub.refl _) ⟨zs,hz,ho⟩
theorem at4{x:Int}(h:0≤x∧x≤4):jb x 0 4=true:=by simp only[jb,Bool.and_eq_true,decide_eq_true_eq];omega
theorem abH:ri (bs [97]):=⟨by decide,.inl (by decide)⟩
def agz(ro:Nat→Option Obj)(v:Value)(W:List (List Int)):Prop:=∃ws,bK ro v 1 jz ws∧dK (fun w l=>bK ro w 1 cS l) ws W
def qv(ro:Nat→Option Obj)(l:List Value)(W:List (List Int)):Prop:=∀aA,Sub ro aA→eG zT 76 [.agg ⟨l.take 3⟩] aA [] (fun r Y=>∃a n c,r= .tuple ⟨[.slice a n c,zI 0]⟩∧n=W.length∧∀kB,Knows kB Y→agz kB (.slice a n c) W)
theorem aqu{ro:Nat→Option Obj}(hK:gV ro l K)(hO:oD K)(hV:gT K)(hW:1≤W.length∧W.length≤4)(h76:qv ro l W):eG zT 46 [.agg ⟨l⟩] ro [] (fun r Y=>∃a n c,r= .slice a n c∧n=W.length∧∀kB,Knows kB Y→agz kB r W):=by
 have Vz:=hK
 obtain⟨vS,vT,vc,vh,vr,vb,va,vf,fa,fc,hv,rfl,hS,hT,rO,oF,hr,hb,ha,hf⟩:=hK
 obtain⟨jm,hs,fY⟩:=id hS
 obtain⟨jV,ht,fO⟩:=id hT
 obtain⟨hc,hh,F7⟩:=id rO
 have u1:=hr
 have uQ:=hb
 have ha0:=ha
 have hf0:=hf
 obtain⟨mU,Uq,Uo,mj,rfl,Up,Nu,Nt⟩:=hs
 obtain⟨fg,AP,AN,eA,rfl,AO,tq,tk⟩:=ht
 obtain⟨eL,AR,AQ,eF,rfl,Da,yR,yQ⟩:=hc
 obtain⟨dR,uZ,uY,dD,rfl,xu,qM,qL⟩:=hh
 obtain⟨mr,J3,J2,mo,rfl,Nv,Iy,Ix⟩:=hr
 obtain⟨rV,Y0,YY,rE,rfl,YZ,W6,W5⟩:=hb
 obtain⟨rF,W9,W7,qN,rfl,W8,Us,Ur⟩:=ha
 obtain⟨n8,Hv,Hu,mG,rfl,Mu,Bj,Bi⟩:=hf
 have CE:=hO.rules
 have qE:=hO.before.1
 have ON:=hO.after.1
 have OM:=hO.facts.1
 have OL:=hO.ways.1
 have HM:=fY.len
 have D7:=fO.len
 have XW:=hO.sG.two
 have hl9:=hO.eO.nh
 have P5:∀(i:Nat) (p:eE),([]:List eE)[i]?=some p→cg ⟨ro,[]⟩ 0 (0+i*6) 6 (oz p):=fun _ _ h=>oS h
 have hgl:=hO.BC
 refine bC au [] [] bn<|zD 2<|jn fun b1=>jd 6 [0]<|jc (vs:=[.agg ⟨[.slice mU jm.length mj,.slice fg jV.length eA,.slice fa 0 fc]⟩]) [] (h76 _ (Sub.refl _)) ?_
 rintro _ Zm ⟨a10,n10,c10,rfl,aOZ,acV⟩
 refine zD 9<|jp (vs:=[zI 0]) [] [] (fun aA hs hZ=>zu)<|zD 10<|zJ 15 ((n10:Int)=0) (fun h1=>?_) fun h1=>?_
 ·
  exfalso;omega
 refine zD 8<|zJ 20 ((n10:Int)>4) (fun h2=>?_) fun h2=>?_
 ·
  exfalso;omega
 refine jd 6 [1]<|jp (vs:=[.agg ⟨[.slice eL K.cs.length eF,.slice dR hv.length dD]⟩]) [] [] (fun aA hs hZ=>aoK (rO.up hs) oF hV.eO)<|jp (vs:=[zI 0]) [] [] (fun aA hs hZ=>zu)<|jd 5 [1]<|jp (vs:=[.slice mr K.rules.length mo,.string (bs [97]),.string (bs [97])]) [] [] (fun aA hs hZ=>NZ (u1.up hs) hV.rules.2 hV.rules.1 abH abH)<|zD 8<|jp (vs:=[zI 0]) [] [] (fun aA hs hZ=>zu)<|jd 6 [1,1]<|jp (vs:=[.agg ⟨[.slice mU jm.length mj,.slice fg jV.length eA,.slice fa 0 fc,.slice eL K.cs.length eF,.slice dR hv.length dD,.slice mr K.rules.length mo,.slice rV K.before.length rE,.slice rF K.after.length qN,zI K.gone,zI K.new,zI K.af,.slice n8 K.facts.length mG]⟩,.slice rV K.before.length rE,.bool true]) [] [] (fun aA hs hZ=>acp (Vz.up hs) hO (uQ.up hs))<|jp (vs:=[zI 0]) [] [] (fun aA hs hZ=>zu)<|jd 6 [1,1]<|jp (vs:=[.agg ⟨[.slice mU jm.length mj,.slice fg jV.length eA,.slice fa 0 fc,.slice eL K.cs.length eF,.slice dR hv.length dD,.slice mr K.rules.length mo,.slice rV K.before.length rE,.slice rF K.after.length qN,zI K.gone,zI K.new,zI K.af,.slice n8 K.facts.length mG]⟩,.slice rF K.after.length qN,.bool false]) [] [] (fun aA hs hZ=>acr (Vz.up hs) hO (ha0.up hs))<|jp (vs:=[zI 0]) [] [] (fun aA hs hZ=>zu)<|jd 6 [1]<|jp (vs:=[zI K.gone,zI 0,zI 4]) [] [] (fun aA hs hZ=>gA)<|zD 2<|jj 5 [(1,zP b1),(2,zS),(3,.slice a10 n10 c10),(56,.bool ((!(jb K.gone 0 4))||(!(jb K.new 0 4))))] (fun gZ=>?_) (fun hj=>?_)
 rotate_left
 refine js 51 (!(jb K.gone 0 4)) (fun h3=>?_) (fun h3=>?_)
 ·
  have vP:=h3
  try simp only[zB] at vP
  refine zD 5<|jw 56 (.bool ((!(jb K.gone 0 4))||(!(jb K.new 0 4)))) (w:= .bool true) (by rw[h3]<;>rfl) ?_
  exact hj _ (by kernel_rfl) (by kernel_rfl)
 ·
  have vP:=h3
  try simp only[zB] at vP
  refine jd 2 [1]<|jp (vs:=[zI K.new,zI 0,zI 4]) [] [] (fun aA hs hZ=>gA)<|zD 2<|jw 56 (.bool ((!(jb K.gone 0 4))||(!(jb K.new 0 4)))) (w:= .bool (!(jb K.new 0 4))) (by rw[h3]<;>rfl) ?_
  exact hj _ (by kernel_rfl) (by kernel_rfl)
 refine zD 1<|jj 5 [(1,zP b1),(2,zS),(3,.slice a10 n10 c10),(62,.bool (((!(jb K.gone 0 4))||(!(jb K.new 0 4)))||(!(jb K.af 0 4))))] (fun gZ=>?_) (fun hj=>?_)
 rotate_left
 refine js 57 ((!(jb K.gone 0 4))||(!(jb K.new 0 4))) (fun h4=>?_) (fun h4=>?_)
 ·
  have xN:=h4
  try simp only[zB] at xN
  refine zD 5<|jw 62 (.bool (((!(jb K.gone 0 4))||(!(jb K.new 0 4)))||(!(jb K.af 0 4)))) (w:= .bool true) (by rw[h4]<;>rfl) ?_
  exact hj _ (by kernel_rfl) (by kernel_rfl)
 ·
  have xN:=h4
  try simp only[zB] at xN
  refine jd 2 [1]<|jp (vs:=[zI K.af,zI 0,zI 4]) [] [] (fun aA hs hZ=>gA)<|zD 2<|jw 62 (.bool (((!(jb K.gone 0 4))||(!(jb K.new 0 4)))||(!(jb K.af 0 4)))) (w:= .bool (!(jb K.af 0 4))) (by rw[h4]<;>rfl) ?_
  exact hj _ (by kernel_rfl) (by kernel_rfl)
 refine zD 1<|js 62 (((!(jb K.gone 0 4))||(!(jb K.new 0 4)))||(!(jb K.af 0 4))) (fun h5=>?_) (fun h5=>?_)
 ·
  try simp only[zB] at h5
  exfalso;simp[at4 hgl.1,at4 hgl.2.1,at4 hgl.2.2] at h5
 try simp only[zB] at h5
 refine jd 10 [1]<|zJ 67 ((K.facts.length:Int)>4) (fun h6=>?_) fun h6=>?_
 ·
  exfalso;omega
 refine jd 11 [1]<|eN [1,1,1,1,1,1,1,1,1,1,1,0,1,0,0] [] (fun(zz:Nat)=>[(1,zP b1),(2,zS),(3,.slice a10 n10 c10),(70,.slice n8 K.facts.length mG),(71,zI (K.facts.length:Int)),(72,zI (zz:Int))]) (fun(zz:Nat)=>[.b b1 (.cells ⟨[.slice mU jm.length mj,.slice fg jV.length eA,.slice fa 0 fc,.slice eL K.cs.length eF,.slice dR hv.length dD,.slice mr K.rules.length mo,.slice rV K.before.length rE,.slice rF K.after.length qN,zI K.gone,zI K.new,zI K.af,.slice n8 K.facts.length mG]⟩ 40 (0,0)),.l Zm]) (fun(zz:Nat)=>zz≤K.facts.length) (fun(zz:Nat)=>K.facts.length-zz) 0 (by omega) [1,0] ?_
 rintro k hI K1 bF rest
 refine zD 5<|zJ 73 ((k:Int) <(K.facts.length:Int)) (fun h7=>?_) fun h7=>?_
 ·
  refine zD 7 ?_
  obtain⟨x75,RR⟩:=zG K.facts k
  refine iW mG 3 Bj RR<|jl 0 (Bi _ _ RR)<|jn fun b6=>jd 8 [0,1,1]<|jcH (hi:=(k:Int)) (show bK _ _ _ _ _ from ⟨n8,Hv,Hu,mG,rfl,Mu,Bj,Bi⟩) (by omega) (fun v81 aOh=>?_)
  obtain⟨al6,axx,axt,al5,rfl,axv,axw,axu⟩:=aOh
  refine jd 1 [0]<|jp (vs:=[.agg ⟨[.slice mU jm.length mj,.slice fg jV.length eA,.slice fa 0 fc,.slice eL K.cs.length eF,.slice dR hv.length dD,.slice mr K.rules.length mo,.slice rV K.before.length rE,.slice rF K.after.length qN,zI K.gone,zI K.new,zI K.af,.slice n8 K.facts.length mG]⟩,.slice al6 ((((K.facts).take (k:Int).toNat)).length) al5,.agg ⟨[zI x75.a,zI x75.b,.bool x75.same]⟩]) [] [] (fun aA hs hZ=>ay6 (Vz.up hs) hO ((show bK _ _ _ _ _ from ⟨al6,axx,axt,al5,rfl,axv,axw,axu⟩).up hs) (by simp only[List.length_take,List.length_drop];omega) (hO.facts.2 _ (List.mem_of_getElem? RR)) (afr hO.apart RR)) ?_
  refine jp (vs:=[zI 0]) [] [] (fun aA hs hZ=>zu)<|zD 2<|ja ((k:Int)+1) (by omega)<|zD 2<|bI bF (k+1) (by omega) (by omega) [1,2] (Sub.refl _)
 refine zD 8<|aF q0 (.slice a10 n10 c10) [] [1] Zm (Sub.refl _) ⟨_,_,rfl,rfl,_,_,_,rfl,aOZ,acV⟩
def mT(ro:Nat→Option Obj)(l:List Value)(K:bk)(rows:List bU):Prop:=∀aA,Sub ro aA→eG zT 23 [.agg ⟨l⟩] aA [] (fun r Y=>∃f,r= .tuple ⟨[pV f,zI 0]⟩∧∀kB,Sub aA kB→Knows kB Y→pF kB f K rows)
def eP(K:bk):Int:=IntKind.u8.wrap (dE .u8 1 (K.facts.length:Int)-1)
theorem Og{rows:List bU}{ro:Nat→Option Obj}(hV:gT K)(hF:pF ro f K rows):dL zT 25 [pV f] ro (.int .u8 (eP K)):=by
 obtain⟨c0,c1,c2,vc,vh,vr,vb,va,vf,vt,hv,hf,rO,oF,hr,Ds,HQ,I6,bM⟩:=hF
 exact aM5 I6 hf (by have:=hV.facts.1;omega)
theorem acj{rows:List bU}{ro:Nat→Option Obj}(hK:gV ro l K)(hV:gT K)(hR:rows.length≤2)(hB:mT ro l K rows):
 G0 zT 8 [.agg ⟨l⟩] ro [] (fun r Y=>r= .tuple ⟨[zI ((gB K (eP K) (eY K.gone K.new K.af) rows).length:Int),zI 0]⟩∧Y=[]):=by
 obtain⟨v0,v1,v3,v4,v5,v6,v7,vb,fa,fc,hv,rfl,_⟩:=hK
 refine HC au [] [] bn fun fr=>zD 2<|jn fun b1=>jd 6 [0]<|jc (vs:=[Value.agg ⟨[v0,v1,.slice fa 0 fc,v3,v4,v5,v6,v7,zI K.gone,zI K.new,zI K.af,vb]⟩]) [] (hB _ (Sub.refl _)) ?_
 rintro _ Y ⟨f,rfl,hF⟩
 refine jf [0] Y (fun aA hs hk=>?_)
 have Le:=hF aA hs hk
 refine zD 18<|jp (vs:=[pV f]) [] [] (fun AM G4 hZ=>Og hV (Le.up G4))<|KE (vs:=[pV f,.int .u8 (eP K)]) [] (fun _ _ h=>h) (U2 hV Le hR) ?_
 rintro v Y2 ⟨zs,hz,ho⟩
 obtain⟨a,c,rfl⟩:=ho.form
 refine zD 5<|RI qC.a (.tuple ⟨[zI (zs.length:Int),zI 0]⟩) [2] [] hs ⟨by rw[hz.length_eq],rfl⟩
theorem qu{on:Int}{keep:ay→Bool}{rows:List bU}{x:ay}(h:x∈gB K on keep rows):∃i r p,rows[i]?=some r∧p∈dH K on∧x=dS K r i p∧keep x=true:=by
 obtain⟨l,hl,hx⟩:=List.mem_flatten.1 h
 obtain⟨i,hi,rfl⟩:=List.mem_map.1 hl
 have hi:=List.mem_range.1 hi
 obtain⟨h1,h2⟩:=List.mem_filter.1 hx
 obtain⟨p,hp,rfl⟩:=List.mem_map.1 h1
 rw[List.getElem?_eq_getElem hi] at h2 ⊢
 exact⟨i,rows[i],p,List.getElem?_eq_getElem hi,hp,rfl,h2⟩
theorem UK(r:bU)(p:Nat→Int):∀k,0≤Hz r p k∧Hz r p k≤k
 |0=>by simp[Hz]
 |k+1=>by
  have:=UK r p k
  simp only[Hz]
  cases decide (p k>0)&& !r.c k (p k-1).toNat with
  |true=>simp only[cond_true];omega
  |false=>simp only[cond_false];omega
theorem sL(hV:gT K)(r:bU)(i:Nat)(p:Nat→Int):(-4≤(dS K r i p).gone∧(dS K r i p).gone≤4)∧(-4≤(dS K r i p).new∧(dS K r i p).new≤4)∧(0≤(dS K r i p).af∧(dS K r i p).af≤4):=by
 have h1:=Uw p
 have h2:=UK r p 4
 have h3:=hV.before.1
 have h4:=hV.after.1
 simp only[dS]
 omega
def C6(x:ay):Int:=x.gone+x.new+x.af
theorem aqn{rows:List bU}{ro:Nat→Option Obj}(hK:gV ro l K)(hV:gT K)(hR:rows.length≤2)(hB:mT ro l K rows):G0 zT 9 [.agg ⟨l⟩] ro [] (fun r Y=>∃zs,zs.Perm (gB K (eP K) (fun _=>true) rows)∧Y=[]∧((zs=[]∧r= .tuple ⟨[zI 0,zI 9]⟩)∨(zs≠[]∧r= .tuple ⟨[zI (tS (zs.map C6)),zI 0]⟩))):=by
 obtain⟨v0,v1,v3,v4,v5,v6,v7,vb,fa,fc,hv,rfl,_⟩:=hK
 refine HC au [] [] bn fun fr=>zD 2<|jn fun b1=>jd 6 [0]<|jc (vs:=[.agg ⟨[v0,v1,.slice fa 0 fc,v3,v4,v5,v6,v7,zI K.gone,zI K.new,zI K.af,vb]⟩]) [] (hB _ (Sub.refl _)) ?_
 rintro _ Y12 ⟨f12,rfl,aRC⟩
 refine zD 5<|jf [0] Y12 (fun AM bW jC=>?_)
 have Le:=aRC _ bW jC
 refine zD 13<|jp (vs:=[zP f12]) [] [] (fun aA hs hZ=>Og hV (Le.up hs))<|KE (vs:=[zP f12,.int .u8 (eP K),.func (.func 27) ⟨[]⟩ ⟨[]⟩]) [] (fun _ _ h=>h) (acx (keep:=fun _=>true) hV Le hR (by kernel_rfl) (fun i r hr aL hs p hp=>ajv)) ?_
 rintro v21 Y21 ⟨zs,ajI,az8⟩
 have ajT:∀x∈zs,(-4≤x.gone∧x.gone≤4)∧(-4≤x.new∧x.new≤4)∧(0≤x.af∧x.af≤4):=fun x hx=>by obtain⟨i,r,p,_,_,rfl,_⟩:=qu (ajI.mem_iff.1 hx);exact sL hV r i p
 have hzl:zs.length≤1250:=by rw[ajI.length_eq];exact wD hV _ _ hR
 refine zD 6<|DY az8<|zD 1<|jf [0] Y21 (fun ro6 kX Zc=>?_)
 have hZ1:=az8.nv Zc
 obtain⟨Bm,aa0,aaY,yf,rfl,aaZ,Rj,Ri⟩:=hZ1
 refine zD 1<|zJ 24 ((zs.length:Int)=0) (fun h7=>?_) fun h7=>?_
 ·
  refine zD 7<|RI qC.a.a (.tuple ⟨[zI 0,zI 9]⟩) [1] [] (bW.trans kX) ⟨zs,ajI,rfl,.inl ⟨List.eq_nil_of_length_eq_zero (by omega),rfl⟩⟩
 refine zD 14<|qB<|eN [1,1,1,1,1,1,0,1,0,0] [] (fun(zz:Nat×Value×Cells)=>[(2,zI 0),(3,zI 0),(7,zz.2.1),(25,.slice Bm zs.length yf),(26,zI (zs.length:Int)),(27,zI (zz.1:Int))]) (fun(zz:Nat×Value×Cells)=>[.l zz.2.2,.b b1 (.cells ⟨[v0,v1,.slice fa 0 fc,v3,v4,v5,v6,v7,zI K.gone,zI K.new,zI K.af,vb]⟩ 40 (0,0)),.l fr]) (fun(zz:Nat×Value×Cells)=>zz.1≤zs.length∧az zz.2.1 1 3 cS ((zs.take zz.1).map C6) zz.2.2) (fun(zz:Nat×Value×Cells)=>zs.length-zz.1) (⟨0,zS,[]⟩) ⟨by dsimp only;omega,az.nil _ _ _⟩ [0,1,2] ?_
 rintro⟨k,vS,LS⟩ hI K1 bF rest
 dsimp only at hI
 refine zD 5<|zJ 28 ((k:Int) <(zs.length:Int)) (fun h8=>?_) fun h8=>?_
 ·
  refine zD 6 ?_
  obtain⟨CZ,zv⟩:=zG zs k
  refine iW yf 8 Rj zv<|jl 0 (Ri _ _ zv)<|jn fun b9=>jd 2 [0] ?_
  have hg:=ajT _ (List.mem_of_getElem? zv)
  refine jd 6 [0,0]<|ja (CZ.gone+CZ.new) (by omega)<|jd 2 [0]<|ja ((CZ.gone+CZ.new)+CZ.af) (by omega)<|jn fun da=>k8 (sz:=1) (ps:=((zs.take k).map C6)) (qs:=[((CZ.gone+CZ.new)+CZ.af)]) (enc:=cS) (w:= .slice (some ⟨da,0,none⟩) 1 1) [2] [0] [(da,.cells ⟨([((CZ.gone+CZ.new)+CZ.af)].map cS).flatten⟩ 3 (0,0))] (hI.2) (fun s _ hZ=>cb [((CZ.gone+CZ.new)+CZ.af)] (hZ _ (.head _)) (by intro p hp;rfl)) (fun p _=>ar rfl) (by simp only[List.length_map,List.length_take,List.length_cons,List.length_nil];omega) (fun v41 L41 adk=>?_)
  obtain⟨aok,aoa,asg⟩:=adk.form
  subst asg
  refine zD 3<|ja ((k:Int)+1) (by omega)<|zD 2<|bI bF (⟨k+1,(.slice aok ((((zs.take k).map C6)++[((CZ.gone+CZ.new)+CZ.af)])).length aoa),L41⟩) ⟨by dsimp only;omega,by rw[jB zv,List.map_append];exact adk⟩ (by dsimp only;omega) [0,3,4] (Sub.refl _)
 refine zD 5<|jp (vs:=[vS]) [0] LS (fun aA hs hZ=>amt (hI.2.nv hZ) ⟨by simp only[List.length_map,List.length_take];omega,by simp only[List.length_map,List.length_take];omega⟩) ?_
 refine zD 5<|RI qC.a.a (.tuple ⟨[zI (tS ((zs.take k).map C6)),zI 0]⟩) [2] [] (bW.trans kX) ⟨zs,ajI,rfl,.inr ⟨fun e=>by subst e;simp at*,by rw[show k=zs.length by omega,List.take_length]⟩⟩
def As(ways:List (List aM))(w:List Int):List (List aM):=List.zipWith (fun l n=>(l.take (n.toNat+1)).drop n.toNat) ways w
theorem akV{ways:List (List aM)}{w:List Int}{l:List aM}(h1:ways[k]?=some l) (h2:w[k]?=some n):(As ways w)[k]?=some ((l.take (n.toNat+1)).drop n.toNat):=by
 simp only[As,List.getElem?_zipWith,h1,h2]
def lH(K:bk)(qA:List Int→aE→List aj)(w:List Int):bU:=⟨fun i j=>match K.before[i]?,K.after[j]? with
 |some x,some y=>decide (cQ (oR y.st y.no 0) (qA w x) 0≥0)
 |_,_=>false⟩
def DC(F:Nat→Nat→Bool)(i j:Nat)(r:bU):Prop:=∀x y,r.c x y=((decide (x <i)||(decide (x=i)&&decide (y <j)))&&F x y)
theorem DC.set{i j:Nat}{r:bU}(h:DC F i j r):DC F i (j+1) (iT r i j (F i j)):=fun x y=>by
 simp only[iT]
 split
 ·rename_i hx;obtain⟨rfl,rfl⟩:=hx;simp
 rename_i hx
 rw[h x y]
 congr 2
 by_cases e:x=i
 ·subst e
  have:y≠j:=fun e2=>hx ⟨rfl,e2⟩
  simp only[decide_true,Bool.true_and]
  congr 1
  exact propext (by omega)
 simp[e]
theorem DC.nxt{n i:Nat}{r:bU}(hF:∀x y,n≤y→F x y=false)(h:DC F i n r):DC F (i+1) 0 r:=fun x y=>by
 rw[h x y]
 by_cases hy:y <n
 ·congr 1
  simp only[hy,decide_true,Bool.and_true,Nat.not_lt_zero,decide_false,Bool.and_false,Bool.or_false]
  rw[Bool.eq_iff_iff];simp;omega
 rw[hF x y (by omega)];simp
theorem DC.fin{n:Nat}{r:bU}(hF:∀x y,n≤x→F x y=false)(h:DC F n 0 r):r=⟨F⟩:=by
 rcases r with ⟨c⟩
 congr 1
 funext x y
 have:=h x y
 dsimp only at this
 rw[this]
 by_cases hx:x <n
 ·simp[hx]
 rw[hF x y (by omega)];simp
theorem aoV{qA:List Int→aE→List aj}{w:List Int}(x y:Nat)(h:K.before.length≤x):(lH K qA w).c x y=false:=by simp only[lH,List.getElem?_eq_none h]
theorem aoU{qA:List Int→aE→List aj}{w:List Int}(x y:Nat)(h:K.after.length≤y):(lH K qA w).c x y=false:=by
 simp only[lH,List.getElem?_eq_none h]
 split
 ·rename_i h1;cases h1
 rfl
structure Tv(K:bk)(W:List (List Int)):Prop where
 n:1≤W.length∧W.length≤2
 len:∀w∈W,w.length=K.ways.length
 rng:∀w∈W,∀(k:Nat) (l:List aM) (n:Int),K.ways[k]?=some l→w[k]?=some n→0≤n∧n <l.length
def xk(ro:Nat→Option Obj)(l:List Value)(K:bk)(W:List (List Int))(qA:List Int→aE→List aj):Prop:=∀w∈W,∀x∈K.before,(qA w x).length≤1000∧∀aA,Sub ro aA→∀v vS vT vU r,l=vS::vT::vU::r→nM aA v (As K.ways w)→
 eG zT 47 [.agg ⟨[vS,v,vU]⟩,.agg ⟨[zI x.st,zI x.no,zI 0]⟩] aA [] (fun r Y=>∃a n c,r= .tuple ⟨[.slice a n c,zI 0]⟩∧∀kB,Knows kB Y→bK kB (.slice a n c) 3 cw (qA w x))
theorem aqv{qA:List Int→aE→List aj}{ro:Nat→Option Obj}(hK:gV ro l K)(hO:oD K)(hV:gT K)(hW:Tv K W)(h76:qv ro l W)(h47:xk ro l K W qA):eG zT 23 [.agg ⟨l⟩] ro [] (fun r Y=>∃f,r= .tuple ⟨[pV f,zI 0]⟩∧∀kB,Sub ro kB→Knows kB Y→pF kB f K (W.map (lH K qA))):=by
 have Vz:=hK
 obtain⟨vS,vT,vc,vh,vr,vb,va,vf,fa,fc,hv,rfl,hS,hT,rO,oF,hr,hb,ha,hf⟩:=hK
 obtain⟨jm,hs,fY⟩:=id hS
 obtain⟨jV,ht,fO⟩:=id hT
 obtain⟨hc,hh,F7⟩:=id rO
 have u1:=hr
 have uQ:=hb
 have ha0:=ha
 have hf0:=hf
 obtain⟨mU,Uq,Uo,mj,rfl,Up,Nu,Nt⟩:=hs
 obtain⟨fg,AP,AN,eA,rfl,AO,tq,tk⟩:=ht
 obtain⟨eL,AR,AQ,eF,rfl,Da,yR,yQ⟩:=hc
 obtain⟨dR,uZ,uY,dD,rfl,xu,qM,qL⟩:=hh
 obtain⟨mr,J3,J2,mo,rfl,Nv,Iy,Ix⟩:=hr
 obtain⟨rV,Y0,YY,rE,rfl,YZ,W6,W5⟩:=hb
 obtain⟨rF,W9,W7,qN,rfl,W8,Us,Ur⟩:=ha
 obtain⟨n8,Hv,Hu,mG,rfl,Mu,Bj,Bi⟩:=hf
 have CE:=hO.rules
 have qE:=hO.before.1
 have ON:=hO.after.1
 have OM:=hO.facts.1
 have OL:=hO.ways.1
 have HM:=fY.len
 have D7:=fO.len
 have XW:=hO.sG.two
 have hl9:=hO.eO.nh
 have P5:∀(i:Nat) (p:eE),([]:List eE)[i]?=some p→cg ⟨ro,[]⟩ 0 (0+i*6) 6 (oz p):=fun _ _ h=>oS h
 have hWn:=hW.n
 refine aM8 au 45 [] [] bn<|zD 2<|jn fun b1=>jn fun b2=>jn fun b3=>zD 4<|jdf (f:=45) (ca:=[zP b2,zP b3])<|jd 5 [2]<|jn fun GR=>jd 6 [2,3]<|jc (vs:=[.agg ⟨[.slice mU jm.length mj,.slice fg jV.length eA,.slice fa 0 fc,.slice eL K.cs.length eF,.slice dR hv.length dD,.slice mr K.rules.length mo,.slice rV K.before.length rE,.slice rF K.after.length qN,zI K.gone,zI K.new,zI K.af,.slice n8 K.facts.length mG]⟩]) [] (aqu Vz hO hV ⟨hW.n.1,by have:=hW.n.2;omega⟩ h76) ?_
 rintro _ Y21 ⟨a21,n21,c21,rfl,bcH,ajP⟩
 refine zD 2<|jf [0] Y21 (fun AM bW jC=>?_)
 obtain⟨YT,hWs,am2⟩:=ajP _ jC
 obtain⟨qWa,qWb,qWo,qWc,heW,qWk,qWh,qWl⟩:=hWs
 simp only[Value.slice.injEq] at heW
 obtain⟨rfl,rfl,rfl⟩:=heW
 have hlW:=am2.len
 refine zD 2<|qB<|eN [1,1,1,0,1,0,0] [] (fun(zz:Nat×Value×Cells)=>[(1,zP b1),(2,zP b2),(3,zP b3),(21,.slice a21 YT.length c21),(22,zI (YT.length:Int)),(23,zI (zz.1:Int))]) (fun(zz:Nat×Value×Cells)=>[.l zz.2.2,.b GR (.cells ⟨[.slice mU jm.length mj,.slice fg jV.length eA,.slice fa 0 fc,.slice eL K.cs.length eF,.slice dR hv.length dD,.slice mr K.rules.length mo,.slice rV K.before.length rE,.slice rF K.after.length qN,zI K.gone,zI K.new,zI K.af,.slice n8 K.facts.length mG,zz.2.1]⟩ 124 (0,0)),.b b1 (.cells ⟨[.slice mU jm.length mj,.slice fg jV.length eA,.slice fa 0 fc,.slice eL K.cs.length eF,.slice dR hv.length dD,.slice mr K.rules.length mo,.slice rV K.before.length rE,.slice rF K.after.length qN,zI K.gone,zI K.new,zI K.af,.slice n8 K.facts.length mG]⟩ 40 (0,0)),.b b2 (.cells ⟨[zP GR]⟩ 80 (0,0)),.b b3 (.cells ⟨[zI 0]⟩ 44 (0,0))]) (fun(zz:Nat×Value×Cells)=>zz.1≤YT.length∧az zz.2.1 16 127 BX ((W.take zz.1).map (lH K qA)) zz.2.2) (fun(zz:Nat×Value×Cells)=>YT.length-zz.1) (⟨0,zS,[]⟩) ⟨by dsimp only;omega,az.nil _ _ _⟩ [0,1,4,3,2] ?_
 rintro⟨k,vR,LR⟩ hI K1 bF rest
 dsimp only at hI
 refine zD 5<|zJ 24 ((k:Int) <(YT.length:Int)) (fun h4=>?_) fun h4=>?_
 ·
  refine zD 6 ?_
  obtain⟨xX,lq⟩:=zG YT k
  refine iW c21 1 qWh lq ?_
  obtain⟨vD,aAA,Ye⟩:=am2.get lq
  obtain⟨aL2,baT,baR,ax3,rfl,baS,aL1,aL0⟩:=Ye
  refine jl 0 (qWl _ _ lq)<|zD 3 ?_
  have hwm:=List.mem_of_getElem? aAA
  have hwl:=hW.len _ hwm
  refine jd 8 [2,2]<|jn fun b6=>jd 10 [0]<|qB<|eN [1,1,1,0,1,0,0,1,1,0,0,1,1,0,1,0,0] [K1] (fun(zz:Nat×Value×Cells×(List Value))=>[(1,zP b1),(2,zP b2),(3,zP b3),(6,zP b6),(21,.slice a21 YT.length c21),(22,zI (YT.length:Int)),(23,zI (k:Int)),(34,.slice aL2 vD.length ax3),(35,zI (vD.length:Int)),(36,zI (zz.1:Int))]) (fun(zz:Nat×Value×Cells×(List Value))=>[.l zz.2.2.1,.b b6 (.cells ⟨[.slice mU jm.length mj,zz.2.1,.slice fa 0 fc]⟩ 31 (0,0)),.l LR,.b GR (.cells ⟨[.slice mU jm.length mj,.slice fg jV.length eA,.slice fa 0 fc,.slice eL K.cs.length eF,.slice dR hv.length dD,.slice mr K.rules.length mo,.slice rV K.before.length rE,.slice rF K.after.length qN,zI K.gone,zI K.new,zI K.af,.slice n8 K.facts.length mG,vR]⟩ 124 (0,0)),.b b1 (.cells ⟨[.slice mU jm.length mj,.slice fg jV.length eA,.slice fa 0 fc,.slice eL K.cs.length eF,.slice dR hv.length dD,.slice mr K.rules.length mo,.slice rV K.before.length rE,.slice rF K.after.length qN,zI K.gone,zI K.new,zI K.af,.slice n8 K.facts.length mG]⟩ 40 (0,0)),.b b2 (.cells ⟨[zP GR]⟩ 80 (0,0)),.b b3 (.cells ⟨[zI 0]⟩ 44 (0,0))]) (fun(zz:Nat×Value×Cells×(List Value))=>(zz.1≤vD.length∧zz.2.2.2.length=zz.1)∧az zz.2.1 1 62 jz zz.2.2.2 zz.2.2.1∧dK (fun w l=>bK AM w 7 mO l) zz.2.2.2 ((As K.ways vD).take zz.1)) (fun(zz:Nat×Value×Cells×(List Value))=>vD.length-zz.1) (⟨0,zS,[],[]⟩) ⟨⟨by dsimp only;omega,rfl⟩,az.nil _ _ _,(by simp only[List.take_zero];exact dK.nil)⟩ [0,1,2,3,4,5,6] ?_
  rintro⟨j,vT,LT,es⟩ hJ K2 mL rest
  dsimp only at hJ
  refine zD 5<|zJ 37 ((j:Int) <(vD.length:Int)) (fun h5=>?_) fun h5=>?_
  ·
   refine zD 7 ?_
   obtain⟨DL,xy⟩:=zG vD j
   refine iW ax3 1 aL1 xy<|jl 0 (aL0 _ _ xy)<|jd 10 [1,4] ?_
   obtain⟨Zy,RS⟩:=zG jV j
   refine iW eA 1 tq RS<|zD 1 ?_
   obtain⟨l49,arJ,h49⟩:=fO.get RS
   obtain hwr:=hW.rng _ hwm _ _ _ arJ xy
   obtain bcM:=(hO.ways.2 _ (List.mem_of_getElem? arJ)).1.2
   obtain⟨aLQ,aLP,aLK,aLO,rfl,aLM,aLN,aLL⟩:=h49
   refine jl 0 ((tk _ _ RS).ext (ud bW))<|zD 2<|ja (DL+1) (by omega)<|jcB (lo:=DL) (hi:=(DL+1)) ((show bK _ _ _ _ _ from ⟨aLQ,aLP,aLK,aLO,rfl,aLM,aLN,aLL⟩).up bW) (by omega) (fun v53 vK=>?_)
   obtain⟨Iw,axC,axy,Iv,rfl,axA,axB,axz⟩:=vK
   refine zD 1<|aH 14 fun rZ si qG=>jn fun b55=>bw qG [1,2,3,4,5,6,7]<|aH 15 fun tw tz rP=>k8 (sz:=1) (ps:=es) (qs:=[(.slice Iw (((((l49).take (DL+1).toNat).drop DL.toNat)).length) Iv:Value)]) (enc:=jz) (w:= .slice (some ⟨b55,0,none⟩) 1 1) [1] [0] [(b55,.cells ⟨([(.slice Iw (((((l49).take (DL+1).toNat).drop DL.toNat)).length) Iv:Value)].map jz).flatten⟩ 62 (0,0))] (hJ.2.1) (fun s _ hZ=>cb [(.slice Iw (((((l49).take (DL+1).toNat).drop DL.toNat)).length) Iv:Value)] (hZ _ (.head _)) (by intro p hp;rfl)) (by intro p hp;rw[List.mem_singleton] at hp;subst hp;exact ar rfl) (by simp<;>omega) (fun v56 L56 vL=>?_)
   obtain⟨Ws,Wq,ad0⟩:=vL.form
   subst ad0
   refine iM rP [[],[5]]<|zD 1<|aH 17 fun AX A5 BO=>jd 1 [2]<|cM BO<|zD 2<|ja ((j:Int)+1) (by omega)<|zD 2<|bI mL (⟨j+1,(.slice Ws ((es++[(.slice Iw (((((l49).take (DL+1).toNat).drop DL.toNat)).length) Iv:Value)])).length Wq),L56,(es++[(.slice Iw (((((l49).take (DL+1).toNat).drop DL.toNat)).length) Iv:Value)])⟩) ⟨⟨by dsimp only;omega,by simp only[List.length_append,List.length_cons,List.length_nil];omega⟩,vL,by rw[jB (akV arJ xy)];exact hJ.2.2.snoc (by rw[show DL.toNat+1=(DL+1).toNat by omega];exact⟨Iw,axC,axy,Iv,rfl,axA,axB,axz⟩)⟩ (by dsimp only;omega) [0,2,3,4,5,6,7] (Sub.refl _)
  refine zD 3 ?_
  have hS6:dK (fun w l=>bK AM w 7 mO l) es (As K.ways vD):=by have:=hJ.2.2;rwa[List.take_of_length_le (by simp only[As,List.length_zipWith];omega)] at this
  refine zD 1<|jn fun b9=>jd 10 [5]<|eN [1,1,1,0,1,0,0,1,1,0,0,1,1,1,1,0,1,0,0] [K1] (fun(zz:Nat×bU)=>[(1,zP b1),(2,zP b2),(3,zP b3),(6,zP b6),(9,zP b9),(21,.slice a21 YT.length c21),(22,zI (YT.length:Int)),(23,zI (k:Int)),(60,.slice rV K.before.length rE),(61,zI (K.before.length:Int)),(62,zI (zz.1:Int))]) (fun(zz:Nat×bU)=>[.b b9 (.cells ⟨[.bool (zz.2.c 0 0),.bool (zz.2.c 0 1),.bool (zz.2.c 0 2),.bool (zz.2.c 0 3),.bool (zz.2.c 1 0),.bool (zz.2.c 1 1),.bool (zz.2.c 1 2),.bool (zz.2.c 1 3),.bool (zz.2.c 2 0),.bool (zz.2.c 2 1),.bool (zz.2.c 2 2),.bool (zz.2.c 2 3),.bool (zz.2.c 3 0),.bool (zz.2.c 3 1),.bool (zz.2.c 3 2),.bool (zz.2.c 3 3)]⟩ 127 (0,0)),.l LT,.b b6 (.cells ⟨[.slice mU jm.length mj,vT,.slice fa 0 fc]⟩ 31 (0,0)),.l LR,.b GR (.cells ⟨[.slice mU jm.length mj,.slice fg jV.length eA,.slice fa 0 fc,.slice eL K.cs.length eF,.slice dR hv.length dD,.slice mr K.rules.length mo,.slice rV K.before.length rE,.slice rF K.after.length qN,zI K.gone,zI K.new,zI K.af,.slice n8 K.facts.length mG,vR]⟩ 124 (0,0)),.b b1 (.cells ⟨[.slice mU jm.length mj,.slice fg jV.length eA,.slice fa 0 fc,.slice eL K.cs.length eF,.slice dR hv.length dD,.slice mr K.rules.length mo,.slice rV K.before.length rE,.slice rF K.after.length qN,zI K.gone,zI K.new,zI K.af,.slice n8 K.facts.length mG]⟩ 40 (0,0)),.b b2 (.cells ⟨[zP GR]⟩ 80 (0,0)),.b b3 (.cells ⟨[zI 0]⟩ 44 (0,0))]) (fun(zz:Nat×bU)=>zz.1≤K.before.length∧DC (lH K qA vD).c zz.1 0 zz.2) (fun(zz:Nat×bU)=>K.before.length-zz.1) (⟨0,⟨fun _ _=>false⟩⟩) ⟨by dsimp only;omega,fun x y=>by simp⟩ [0,1,2,3,4,5,6,7] ?_
  rintro⟨i,r⟩ hQ K6 hK6 rest
  dsimp only at hQ
  refine zD 5<|zJ 63 ((i:Int) <(K.before.length:Int)) (fun h9=>?_) fun h9=>?_
  ·
   refine zD 7 ?_
   obtain⟨MI,acJ⟩:=zG K.before i
   refine iW rE 5 W6 acJ<|jl 0 ((W5 _ _ acJ).ext (ud bW))<|jn fun Qp=>jd 7 [0,3,0]<|jp (vs:=[.agg ⟨[.string MI.name,zI MI.st,zI MI.no,zI MI.head,.bool MI.bold]⟩]) [] [] (fun aA hs hZ=>U5)<|aH 3 fun Zp aaa O2=>Y6 (vs:=[.agg ⟨[.slice mU jm.length mj,vT,.slice fa 0 fc]⟩,.agg ⟨[zI MI.st,zI MI.no,zI 0]⟩]) [] [2] LT (fun aA hs hZ=>(h47 _ hwm _ (List.mem_of_getElem? acJ)).2 _ (bW.trans hs) _ _ _ _ _ rfl ⟨_,hJ.2.1.nv hZ,hS6.imp fun _ _ k=>k.up hs⟩) ?_
   rintro _ Y71 ⟨a71,n71,c71,rfl,aNQ⟩
   refine bw O2 [1,2,3,4,5,6,7,8,9]<|zD 9<|jp (vs:=[zI 0]) [] [] (fun aA hs hZ=>zu)<|jf [0] Y71 (fun aZ8 azJ aPm=>?_)
   obtain⟨qPa,qPb,qPo,qPc,heP,qPk,qPh,qPl⟩:=aNQ _ aPm
   simp only[Value.slice.injEq] at heP
   obtain⟨rfl,rfl,rfl⟩:=heP
   refine jd 9 [6]<|eN [1,1,1,0,1,0,0,1,1,0,0,1,1,1,1,0,1,0,0,1,1,0,0,1,1,1,1,0,0] [K1,K6] (fun(zz:Nat×bU)=>[(1,zP b1),(2,zP b2),(3,zP b3),(6,zP b6),(9,zP b9),(10,zI (i:Int)),(12,.slice a71 ((qA vD MI).length) c71),(21,.slice a21 YT.length c21),(22,zI (YT.length:Int)),(23,zI (k:Int)),(60,.slice rV K.before.length rE),(61,zI (K.before.length:Int)),(62,zI (i:Int)),(77,.slice rF K.after.length qN),(78,zI (K.after.length:Int)),(79,zI (zz.1:Int))]) (fun(zz:Nat×bU)=>[.b b9 (.cells ⟨[.bool (zz.2.c 0 0),.bool (zz.2.c 0 1),.bool (zz.2.c 0 2),.bool (zz.2.c 0 3),.bool (zz.2.c 1 0),.bool (zz.2.c 1 1),.bool (zz.2.c 1 2),.bool (zz.2.c 1 3),.bool (zz.2.c 2 0),.bool (zz.2.c 2 1),.bool (zz.2.c 2 2),.bool (zz.2.c 2 3),.bool (zz.2.c 3 0),.bool (zz.2.c 3 1),.bool (zz.2.c 3 2),.bool (zz.2.c 3 3)]⟩ 127 (0,0)),.b Qp (.cells ⟨[.string MI.name,zI MI.st,zI MI.no,zI MI.head,.bool MI.bold]⟩ 70 (0,0)),.l LT,.b b6 (.cells ⟨[.slice mU jm.length mj,vT,.slice fa 0 fc]⟩ 31 (0,0)),.l LR,.b GR (.cells ⟨[.slice mU jm.length mj,.slice fg jV.length eA,.slice fa 0 fc,.slice eL K.cs.length eF,.slice dR hv.length dD,.slice mr K.rules.length mo,.slice rV K.before.length rE,.slice rF K.after.length qN,zI K.gone,zI K.new,zI K.af,.slice n8 K.facts.length mG,vR]⟩ 124 (0,0)),.b b1 (.cells ⟨[.slice mU jm.length mj,.slice fg jV.length eA,.slice fa 0 fc,.slice eL K.cs.length eF,.slice dR hv.length dD,.slice mr K.rules.length mo,.slice rV K.before.length rE,.slice rF K.after.length qN,zI K.gone,zI K.new,zI K.af,.slice n8 K.facts.length mG]⟩ 40 (0,0)),.b b2 (.cells ⟨[zP GR]⟩ 80 (0,0)),.b b3 (.cells ⟨[zI 0]⟩ 44 (0,0))]) (fun(zz:Nat×bU)=>zz.1≤K.after.length∧DC (lH K qA vD).c i zz.1 zz.2) (fun(zz:Nat×bU)=>K.after.length-zz.1) (⟨0,r⟩) ⟨by dsimp only;omega,hQ.2⟩ [1,0,2,3,4,5,6,7,8] ?_
   rintro⟨j,r⟩ hU K8 hK8 rest
   dsimp only at hU
   refine zD 5<|zJ 80 ((j:Int) <(K.after.length:Int)) (fun O7=>?_) fun O7=>?_
   ·
    refine zD 7 ?_
    obtain⟨DK,RQ⟩:=zG K.after j
    refine iW qN 5 Us RQ<|jl 0 ((Ur _ _ RQ).ext (ud (bW.trans azJ)))<|jn fun mg=>jd 3 [0] ?_
    have hRW:(lH K qA vD).c i j=decide (cQ (oR DK.st DK.no 0) (qA vD MI) 0≥0):=by simp only[lH,acJ,RQ]
    refine jd 5 [0]<|IZ (b:=b9) (off:=0) (len:=4) (sz:=4) (i:Int) (by omega)<|jp (vs:=[.agg ⟨[.string DK.name,zI DK.st,zI DK.no,zI DK.head,.bool DK.bold]⟩]) [] [] (fun aA hs hZ=>U5)<|jp (vs:=[.slice a71 ((qA vD MI).length) c71,.agg ⟨[zI DK.st,zI DK.no,zI 0]⟩]) [] [] (fun aA hs hZ=>IX ((show bK _ _ _ _ _ from ⟨a71,qPb,qPo,c71,rfl,qPk,qPh,qPl⟩).up hs) (h47 _ hwm _ (List.mem_of_getElem? acJ)).1)<|IZ (b:=b9) (off:=0+(i:Int).toNat*4) (len:=4) (sz:=1) (j:Int) (by omega)<|aH 8 fun Zn Z6 X7=>xH 1 b9 (0+(i:Int).toNat*4+(j:Int).toNat*1) [.bool (r.c 0 0),.bool (r.c 0 1),.bool (r.c 0 2),.bool (r.c 0 3),.bool (r.c 1 0),.bool (r.c 1 1),.bool (r.c 1 2),.bool (r.c 1 3),.bool (r.c 2 0),.bool (r.c 2 1),.bool (r.c 2 2),.bool (r.c 2 3),.bool (r.c 3 0),.bool (r.c 3 1),.bool (r.c 3 2),.bool (r.c 3 3)] [.bool (decide (cQ (oR DK.st DK.no 0) (qA vD MI) 0≥0))] 127 (by intro v hv;rw[List.mem_singleton] at hv;subst hv;rfl) (Uh (r:=r) (by omega) (by omega)) ?_
    refine jmw 0 [.b b9 (.cells ⟨[.bool ((iT r i j ((lH K qA vD).c i j)).c 0 0),.bool ((iT r i j ((lH K qA vD).c i j)).c 0 1),.bool ((iT r i j ((lH K qA vD).c i j)).c 0 2),.bool ((iT r i j ((lH K qA vD).c i j)).c 0 3),.bool ((iT r i j ((lH K qA vD).c i j)).c 1 0),.bool ((iT r i j ((lH K qA vD).c i j)).c 1 1),.bool ((iT r i j ((lH K qA vD).c i j)).c 1 2),.bool ((iT r i j ((lH K qA vD).c i j)).c 1 3),.bool ((iT r i j ((lH K qA vD).c i j)).c 2 0),.bool ((iT r i j ((lH K qA vD).c i j)).c 2 1),.bool ((iT r i j ((lH K qA vD).c i j)).c 2 2),.bool ((iT r i j ((lH K qA vD).c i j)).c 2 3),.bool ((iT r i j ((lH K qA vD).c i j)).c 3 0),.bool ((iT r i j ((lH K qA vD).c i j)).c 3 1),.bool ((iT r i j ((lH K qA vD).c i j)).c 3 2),.bool ((iT r i j ((lH K qA vD).c i j)).c 3 3)]⟩ 127 (0,0))] (L:=[(b9,.cells ⟨dz [.bool (r.c 0 0),.bool (r.c 0 1),.bool (r.c 0 2),.bool (r.c 0 3),.bool (r.c 1 0),.bool (r.c 1 1),.bool (r.c 1 2),.bool (r.c 1 3),.bool (r.c 2 0),.bool (r.c 2 1),.bool (r.c 2 2),.bool (r.c 2 3),.bool (r.c 3 0),.bool (r.c 3 1),.bool (r.c 3 2),.bool (r.c 3 3)] (0+(i:Int).toNat*4+(j:Int).toNat*1) [.bool (decide (cQ (oR DK.st DK.no 0) (qA vD MI) 0≥0))]⟩ 127 (0,0))]) (by rw[Uf (by omega) (by omega),hRW];rfl) ?_
    refine iM X7 []<|zD 2<|ja ((j:Int)+1) (by omega)<|zD 2<|bI hK8 (⟨j+1,(iT r i j ((lH K qA vD).c i j))⟩) ⟨by dsimp only;omega,hU.2.set⟩ (by dsimp only;omega) [0,2,3,4,5,6,7,8,9] (Sub.refl _)
   refine zD 3<|ja ((i:Int)+1) (by omega)<|zD 2<|bI hK6 (⟨i+1,r⟩) ⟨by dsimp only;omega,DC.nxt (fun x y h=>aoU x y h) (by have:=hU.2;rwa[show j=K.after.length by omega] at this)⟩ (by dsimp only;omega) [0,2,3,4,5,6,7,8] azJ
  refine jd 9 [6,6,4,0]<|aH 6 fun H5 Ia vN=>jn fun aFc=>bw vN [1,2,3,4,5,6,7,8]<|aH 7 fun MH M0 F6=>k8 (sz:=16) (ps:=((W.take k).map (lH K qA))) (qs:=[(r:bU)]) (enc:=BX) (w:= .slice (some ⟨aFc,0,none⟩) 1 1) [4] [0] [(aFc,.cells ⟨([(r:bU)].map BX).flatten⟩ 127 (0,0))] (hI.2) (fun s _ hZ=>cb [(r:bU)] (hZ _ (.head _)) (by intro p hp;rfl)) (fun p _=>ar rfl) (by simp only[List.length_map,List.length_take,List.length_cons,List.length_nil];omega) (fun aZM aTQ Vo=>?_)
  obtain⟨awk,awd,aA0⟩:=Vo.form
  subst aA0
  refine iM F6 [[7],[7]]<|zD 2<|aH 10 fun TK TY F5=>jd 1 [5]<|iM F5 []<|zD 2<|ja ((k:Int)+1) (by omega)<|zD 2<|bI bF (⟨k+1,(.slice awk ((((W.take k).map (lH K qA))++[(r:bU)])).length awd),aTQ⟩) ⟨by dsimp only;omega,by rw[jB aAA,List.map_append];have e:=DC.fin (fun x y h=>aoV x y h) (by have:=hQ.2;rwa[show i=K.before.length by omega] at this);subst e;exact Vo⟩ (by dsimp only;omega) [0,5,6,7,8] (Sub.refl _)
 refine jd 9 [3,3,4]<|jrD (g:=45) (ca:=[zP b2,zP b3]) ⟨rfl,rfl⟩ (.tuple ⟨[zP GR,zI 0]⟩) [3,4] [1,0] ((GR,.cells ⟨[.slice mU jm.length mj,.slice fg jV.length eA,.slice fa 0 fc,.slice eL K.cs.length eF,.slice dR hv.length dD,.slice mr K.rules.length mo,.slice rV K.before.length rE,.slice rF K.after.length qN,zI K.gone,zI K.new,zI K.af,.slice n8 K.facts.length mG,vR]⟩ 124 (0,0))::LR) 9 bW ⟨_,_,rfl,rfl,GR,rfl,fun kB hs hk=>⟨_,_,_,_,_,_,_,_,_,_,hv,hk _ (.head _),rO.up hs,oF,u1.up hs,uQ.up hs,ha0.up hs,hf0.up hs,by have:=hI.2;rw[List.take_of_length_le (by omega)] at this;exact this.nv hk.tail⟩⟩
theorem PY.v(h:PY K):gT K where
 rules:=⟨by have:=h.rules.1;omega,fun r hr=>aoT (h.rules.2 r hr)⟩
 before:=⟨by have:=h.before.1;omega,fun p hp=>by
  obtain⟨h1,h2,_⟩:=(h.before.2 p hp).1
  exact⟨⟨⟨h1.1.1,by have:=h1.1.2;omega⟩,h1.2⟩,h2⟩⟩
 after:=⟨by have:=h.after.1;omega,fun p hp=>by
  obtain⟨h1,h2,_⟩:=(h.after.2 p hp).1
  exact⟨⟨⟨h1.1.1,by have:=h1.1.2;omega⟩,h1.2⟩,h2⟩⟩
 eO:=h.eO.v
 facts:=⟨by have:=h.facts.1;omega,h.facts.2⟩
theorem qv.up{ro aL:Nat→Option Obj}(h:qv ro l W)(hs:Sub ro aL):qv aL l W:=fun aA h1=>h aA (hs.trans h1)
theorem xk.up{ro aL:Nat→Option Obj}{qA:List Int→aE→List aj}(h:xk ro l K W qA)(hs:Sub ro aL):xk aL l K W qA:=fun w hw x hx=>⟨(h w hw x hx).1,fun aA h1=>(h w hw x hx).2 aA (hs.trans h1)⟩
theorem alb{qA:List Int→aE→List aj}{ro:Nat→Option Obj}(hK:gV ro l K)(hO:oD K)(hV:gT K)(hW:Tv K W)(h76:qv ro l W)(h47:xk ro l K W qA):mT ro l K (W.map (lH K qA)):=
 fun aA hs=>aqv (hK.up hs) hO hV hW (h76.up hs) (h47.up hs)
theorem filter_mono{α:Type}{p q:α→Bool}(h:∀x,p x=true→q x=true):∀l:List α,(l.filter p).length≤(l.filter q).length
 | []=>Nat.le_refl _
 |x::l=>by
  have:=filter_mono h l
  cases hp:p x with
  |true=>rw[List.filter_cons_of_pos hp,List.filter_cons_of_pos (h x hp)];simpa using this
  |false=>
   rw[List.filter_cons_of_neg (by rw[hp];simp)]
   cases hq:q x with
   |true=>rw[List.filter_cons_of_pos hq];simp only[List.length_cons];omega
   |false=>rw[List.filter_cons_of_neg (by rw[hq];simp)];exact this
theorem YK{on:Int}{keep aci:ay→Bool}{rows:List bU}(h:∀x,keep x=true→aci x=true):(gB K on keep rows).length≤(gB K on aci rows).length:=by
 have key:∀n,(jE K on keep rows n).flatten.length≤(jE K on aci rows n).flatten.length:=by
  intro n
  induction n with
  |zero=>simp[jE]
  |succ n ih=>
   have:=filter_mono h ((dH K on).map (dS K ((rows[n]?).getD ⟨fun _ _=>false⟩) n))
   simp only[jE,List.range_succ,List.map_append,List.map_cons,List.map_nil,List.flatten_append,List.length_append,List.flatten_cons,List.flatten_nil,List.append_nil,qK] at ih ⊢
   omega
 exact key _
theorem RG{g m g' n' m':Int}(h1:g≤g')(h2:n≤n')(h3:m≤m')(x:ay)(h:eY g n m x=true):eY g' n' m' x=true:=by
 simp only[eY,Bool.and_eq_true,decide_eq_true_eq] at h ⊢
 omega
theorem Xx(hV:gT K){on:Int}{rows:List bU}:(gB K on (fun _=>true) rows).length=(gB K on (eY 4 4 4) rows).length:=by
 have e:∀r i,qK K on (fun _=>true) r i=qK K on (eY 4 4 4) r i:=fun r i=>by
  simp only[qK]
  refine List.filter_congr fun x hx=>?_
  obtain⟨p,_,rfl⟩:=List.mem_map.1 hx
  have:=sL hV r i p
  simp only[eY]
  rw[eq_comm,Bool.and_eq_true,Bool.and_eq_true]
  simp only[decide_eq_true_eq]
  omega
 simp only[gB,jE,e]
theorem Jc{K:bk}{g n m:Int}{on:Int}:∀(k a:Nat) (p:Nat→Int),jM {K with gone:=g,new:=n,af:=m} on k a p=jM K on k a p
 |0,_,_=>rfl
 |k+1,a,p=>by
  have ih:=Jc (K:=K) (g:=g) (n:=n) (m:=m) (on:=on) k
  rw[qi,qi,ih]
  have:ng {K with gone:=g,new:=n,af:=m} on k a p=ng K on k a p:=by
   funext b
   simp only[ng,ih]
   rfl
  rw[this]
theorem PT{g m:Int}{on:Int}{keep:ay→Bool}{rows:List bU}:gB {K with gone:=g,new:=n,af:=m} on keep rows=gB K on keep rows:=by
 have h1:dH {K with gone:=g,new:=n,af:=m} on=dH K on:=Jc _ _ _
 have h2:∀r i,qK {K with gone:=g,new:=n,af:=m} on keep r i=qK K on keep r i:=fun r i=>by
  simp only[qK,h1]
  rfl
 simp only[gB,jE,h2]
def qH(a b:Int):Int:=if a <b then-1 else if a>b then 1 else 0
def orL:List Int→Int
 | []=>0
 |x::l=>if x=0 then orL l else x
theorem abi{l:List Int}{x:Int}(h:l[k]?=some x):orL (l.drop k)=if x=0 then orL (l.drop (k+1)) else x:=by rw[gu h];rfl
theorem aiK{l:List Int}(h:¬k <l.length):orL (l.drop k)=0:=by rw[eQ h];rfl
def Yq(x y:ah):Int:=orL [qH x.n y.n,qH x.l y.l]
theorem akZ{x y:ah}(h:aiE x y):Yq x y <0:=by
 rcases h with h| ⟨h1,h2⟩
 ·have e:qH x.n y.n= -1:=if_pos h
  simp[Yq,orL,e]
 have e:qH x.n y.n=0:=by simp only[qH];rw[if_neg (by omega),if_neg (by omega)]
 have e2:qH x.l y.l= -1:=if_pos h2
 simp[Yq,orL,e,e2]
theorem aD9{a:Int}{ro:Nat→Option Obj}:dL zT 172 [zI a] ro (.bool false):=by
 refine bC au [] [] bn<|zD 12<|aF q0 (.bool (!decide (a=a))) [] [] [] (Sub.refl _) ⟨_,_,rfl,rfl,by simp,rfl⟩
theorem atI{a b:Int}{ro:Nat→Option Obj}:dL zT 138 [zI a,zI b] ro (zI (qH a b)):=by
 refine bC au [] [] bn<|zD 7<|jp (vs:=[zI a]) [] [] (fun aA hs hZ=>aD9)<|zD 5<|jp (vs:=[zI b]) [] [] (fun aA hs hZ=>aD9)<|zD 23<|zJ 16 (a <b) (fun h1=>?_) fun h1=>?_
 ·
  refine zD 6<|aF q0 (zI (-1)) [] [] [] (Sub.refl _) ⟨_,_,rfl,rfl,by simp only[qH];first|rw[if_pos (by omega)]|rw[if_neg (by omega),if_pos (by omega)]|rw[if_neg (by omega),if_neg (by omega)],rfl⟩
 refine zD 9<|zJ 19 (a>b) (fun h2=>?_) fun h2=>?_
 ·
  refine zD 6<|aF q0 (zI 1) [] [] [] (Sub.refl _) ⟨_,_,rfl,rfl,by simp only[qH];first|rw[if_pos (by omega)]|rw[if_neg (by omega),if_pos (by omega)]|rw[if_neg (by omega),if_neg (by omega)],rfl⟩
 refine zD 7<|aF q0 (zI 0) [] [] [] (Sub.refl _) ⟨_,_,rfl,rfl,by simp only[qH];first|rw[if_pos (by omega)]|rw[if_neg (by omega),if_pos (by omega)]|rw[if_neg (by omega),if_neg (by omega)],rfl⟩
theorem gOr{v:Value}{ro:Nat→Option Obj}(hl:bK ro v 1 cS xs)(hn:xs.length≤1000):dL zT 159 [v] ro (zI (orL xs)):=by
 obtain⟨fL,rD,rC,eV,rfl,tH,lJ,mE⟩:=hl
 refine bC au [] [] bn<|zD 16<|eN [1,1,0,1,0,0] [] (fun(zz:Nat)=>[(3,zI 0),(6,.slice fL xs.length eV),(7,zI (xs.length:Int)),(8,zI (zz:Int))]) (fun(zz:Nat)=>[]) (fun(zz:Nat)=>zz≤xs.length∧orL xs=orL (xs.drop zz)) (fun(zz:Nat)=>xs.length-zz) 0 ⟨by omega,rfl⟩ [] ?_
 rintro k hI K1 bF rest
 refine zD 5<|zJ 9 ((k:Int) <(xs.length:Int)) (fun h1=>?_) fun h1=>?_
 ·
  refine zD 6 ?_
  obtain⟨x10,rI⟩:=zG xs k
  refine iW eV 1 lJ rI<|jl 0 (mE _ _ rI)<|zD 8<|js 14 (!decide (x10=0)) (fun h2=>?_) (fun h2=>?_)
  ·
   replace h2:=of_decide_eq_false (by simpa using h2)
   refine zD 7<|aF q0 (zI x10) [] [] [] (Sub.refl _) ⟨_,_,rfl,rfl,by rw[hI.2,abi rI,if_neg (by simp_all)],rfl⟩
  replace h2:=of_decide_eq_true (by simpa using h2)
  refine zD 3<|ja ((k:Int)+1) (by omega)<|zD 2<|bI bF (k+1) ⟨by omega,by rw[hI.2,abi rI,if_pos (by simp_all)]⟩ (by omega) [] (Sub.refl _)
 refine zD 8<|aF q0 (zI 0) [] [] [] (Sub.refl _) ⟨_,_,rfl,rfl,by rw[hI.2,aiK (by omega)],rfl⟩
theorem ani{x y:ah}{ro:Nat→Option Obj}:dL zT 160 [.agg ⟨[zI x.n,zI x.l]⟩,.agg ⟨[zI y.n,zI y.l]⟩] ro (zI (Yq x y)):=by
 refine bC au [] [] bn<|zD 2<|jn fun b2=>jn fun b3=>jd 12 [1,0,1,0]<|jp (vs:=[zI x.n,zI y.n]) [] [] (fun aA hs hZ=>atI)<|jp (vs:=[zI x.l,zI y.l]) [] [] (fun aA hs hZ=>atI)<|aH 10 fun CY C4 AT=>jn fun mg=>bw AT [1,2]<|jp (vs:=[.slice (some ⟨mg,0,none⟩) 2 2]) [0] [(mg,.cells ⟨([(qH x.n y.n),(qH x.l y.l)].map cS).flatten⟩ 3 (0,0))] (fun aA hs hZ=>gOr (bR [(qH x.n y.n),(qH x.l y.l)] hZ.head (by intro p hp;rfl)) (by first|omega| (simp only[List.length_set,List.length_append,List.length_cons,List.length_nil];omega))) ?_
 refine zD 3<|aF q0 (zI (orL [(qH x.n y.n),(qH x.l y.l)])) [] [] [] (Sub.refl _) ⟨_,_,rfl,rfl,rfl,rfl⟩
theorem Ae{lo hi:Int}{ro:Nat→Option Obj}:dL zT 146 [zI n,zI lo,zI hi] ro (.bool (jb n lo hi)):=by
 refine bC au [] [] bn<|zD 10<|jj 4 [(6,.bool false),(14,.bool ((decide (lo≤n))&&(decide (n≤hi))))] (fun gZ=>?_) (fun hj=>?_)
 rotate_left
 refine js 10 (decide (lo≤n)) (fun h1=>?_) (fun h1=>?_)
 ·
  have gD:=h1
  replace gD:=of_decide_eq_true gD
  refine zD 4<|jw 14 (.bool ((decide (lo≤n))&&(decide (n≤hi)))) (w:= .bool (decide (n≤hi))) (by rw[h1]<;>rfl) ?_
  exact hj _ (by kernel_rfl) (by kernel_rfl)
 ·
  have gD:=h1
  replace gD:=of_decide_eq_false gD
  refine zD 4<|jw 14 (.bool ((decide (lo≤n))&&(decide (n≤hi)))) (w:= .bool false) (by rw[h1]<;>rfl) ?_
  exact hj _ (by kernel_rfl) (by kernel_rfl)
 refine zD 3<|aF q0 (.bool ((decide (lo≤n))&&(decide (n≤hi)))) [] [] [] (Sub.refl _) ⟨_,_,rfl,rfl,rfl,rfl⟩
theorem atD{x:ah}{ro:Nat→Option Obj}(hx:AE x):dL zT 148 [.agg ⟨[zI x.n,zI x.l]⟩] ro (.bool true):=by
 obtain⟨⟨hx1,hx2⟩,hx3,hx4⟩:=hx
 refine bC au [] [] bn<|zD 2<|jn fun b1=>jd 6 [0]<|jp (vs:=[zI x.n,zI 1,zI 40]) [] [] (fun aA hs hZ=>Ae)<|zD 1<|jj 4 [(2,.bool false),(10,.bool ((jb x.n 1 40)&&(jb x.l 0 4)))] (fun gZ=>?_) (fun hj=>?_)
 rotate_left
 refine js 6 (jb x.n 1 40) (fun h1=>?_) (fun h1=>?_)
 ·
  refine jd 2 [0]<|jp (vs:=[zI x.l,zI 0,zI 4]) [] [] (fun aA hs hZ=>Ae)<|zD 1<|jw 10 (.bool ((jb x.n 1 40)&&(jb x.l 0 4))) (w:= .bool (jb x.l 0 4)) (by rw[h1]<;>rfl) ?_
  exact hj _ (by kernel_rfl) (by kernel_rfl)
 ·
  refine zD 4<|jw 10 (.bool ((jb x.n 1 40)&&(jb x.l 0 4))) (w:= .bool false) (by rw[h1]<;>rfl) ?_
  exact hj _ (by kernel_rfl) (by kernel_rfl)
 refine zD 3<|aF q0 (.bool ((jb x.n 1 40)&&(jb x.l 0 4))) [] [] [] (Sub.refl _) ⟨_,_,rfl,rfl,by simp only[jb,Value.bool.injEq,Bool.and_eq_true,decide_eq_true_eq];omega,rfl⟩
theorem atJ{v:Value}{S:List (List ah)}{ro:Nat→Option Obj}(hS:cK ro v S)(hO:eZ S):dL zT 145 [.agg ⟨[v]⟩] ro (zI 0):=by
 obtain⟨ws,ht,cY⟩:=hS
 obtain⟨fg,AP,AN,eA,rfl,AO,tq,tk⟩:=ht
 have hln:=cY.len
 have HI:=hO.two
 refine bC au [] [] bn<|zD 2<|jn fun b1=>jd 10 [0]<|zJ 10 ((ws.length:Int)=0) (fun h1=>?_) fun h1=>?_
 ·
  exfalso;omega
 refine jd 10 [0]<|zJ 14 ((ws.length:Int)>3) (fun h2=>?_) fun h2=>?_
 ·
  exfalso;omega
 refine jd 11 [0]<|eN [1,1,1,0,1,0,0] [] (fun(zz:Nat)=>[(16,.slice fg ws.length eA),(17,zI (ws.length:Int)),(18,zI (zz:Int))]) (fun(zz:Nat)=>[.b b1 (.cells ⟨[.slice fg ws.length eA]⟩ 27 (0,0))]) (fun(zz:Nat)=>zz≤ws.length) (fun(zz:Nat)=>ws.length-zz) 0 (by omega) [0] ?_
 rintro k hI K1 bF rest
 refine zD 5<|zJ 19 ((k:Int) <(ws.length:Int)) (fun h3=>?_) fun h3=>?_
 ·
  refine zD 6 ?_
  obtain⟨x20,KO⟩:=zG ws k
  refine iW eA 1 tq KO ?_
  obtain⟨l21,arL,h21⟩:=cY.get KO
  obtain bcP:=hO.len _ (List.mem_of_getElem? arL)
  obtain aN5:=hO.ok _ (List.mem_of_getElem? arL)
  obtain ajP:=hO.asc _ (List.mem_of_getElem? arL)
  obtain⟨ayb,baW,baU,aiB,rfl,baV,aya,ax9⟩:=h21
  refine jl 0 (tk _ _ KO)<|zD 9<|zJ 24 ((l21.length:Int)>8) (fun h4=>?_) fun h4=>?_
  ·
   exfalso;omega
  refine zD 9<|eN [1,1,1,0,1,0,0,1,1,0,0,1,1,1,0,0] [K1] (fun(zz:Nat)=>[(4,.slice ayb l21.length aiB),(16,.slice fg ws.length eA),(17,zI (ws.length:Int)),(18,zI (k:Int)),(25,.slice ayb l21.length aiB),(26,zI (l21.length:Int)),(27,zI (zz:Int))]) (fun(zz:Nat)=>[.b b1 (.cells ⟨[.slice fg ws.length eA]⟩ 27 (0,0))]) (fun(zz:Nat)=>zz≤l21.length) (fun(zz:Nat)=>l21.length-zz) 0 (by omega) [0] ?_
  rintro i hJ K2 mL rest
  refine zD 5<|zJ 28 ((i:Int) <(l21.length:Int)) (fun h5=>?_) fun h5=>?_
  ·
   refine zD 7 ?_
   obtain⟨oE,jZ⟩:=zG l21 i
   refine iW aiB 2 aya jZ<|jl 0 (ax9 _ _ jZ)<|jn fun b6=>jd 7 [0,0]<|jp (vs:=[.agg ⟨[zI oE.n,zI oE.l]⟩]) [] [] (fun aA hs hZ=>(atD (x:=oE) (aN5 _ (List.mem_of_getElem? jZ))))<|zD 9<|js 2 (decide ((i:Int)>0)) (fun h6=>?_) (fun h6=>?_)
   ·
    have h6g:=h6
    replace h6g:=of_decide_eq_true h6g
    refine zD 2<|ja ((i:Int)-1) (by omega) ?_
    obtain⟨x41,aqL⟩:=zG l21 (((i:Int)-1).toNat)
    refine Mw ((i:Int)-1) aiB 2 aya aqL (by omega)<|jl 0 (ax9 _ _ aqL)<|jd 1 [0]<|jp (vs:=[.agg ⟨[zI x41.n,zI x41.l]⟩,.agg ⟨[zI oE.n,zI oE.l]⟩]) [] [] (fun aA hs hZ=>(ani (x:=x41) (y:=oE)))<|zD 3<|zJ 46 ((Yq x41 oE)≥0) (fun h7=>?_) fun h7=>?_
    ·
     exfalso;have:=akZ (pU ajP (show ((i:Int)-1).toNat <i by omega) aqL jZ);simp_all;omega
    refine zD 3<|ja ((i:Int)+1) (by omega)<|zD 2<|bI mL (i+1) (by omega) (by omega) [1] (Sub.refl _)
   have h6g:=h6
   replace h6g:=of_decide_eq_false h6g
   refine zD 13<|ja ((i:Int)+1) (by omega)<|zD 2<|bI mL (i+1) (by omega) (by omega) [1] (Sub.refl _)
  refine zD 3<|ja ((k:Int)+1) (by omega)<|zD 2<|bI bF (k+1) (by omega) (by omega) [0] (Sub.refl _)
 refine zD 7<|aF q0 (zI 0) [] [] [] (Sub.refl _) ⟨_,_,rfl,rfl,rfl,rfl⟩
abbrev oK(x:aj):Value:= .agg ⟨cw x⟩
instance:DecidableEq aj:=fun x y=>match x,y with
 | ⟨a,b,c⟩,⟨d,e,f⟩=>if h:a=d∧b=e∧c=f then isTrue (by obtain⟨rfl,rfl,rfl⟩:=h;rfl) else isFalse fun k=>h (by cases k;exact⟨rfl,rfl,rfl⟩)
def mH(s:Int)(x:ah):aj:=⟨s,x.n,x.l⟩
def Ou(S:List (List ah)):Nat→List aj
 |0=>[]
 |k+1=>Ou S k++(match S[k]? with
  |some l=>l.map (mH k)
  |none=>[])
def bA(S:List (List ah)):List aj:=Ou S S.length
theorem aq1{S:List (List ah)}{l:List ah}(h:S[k]?=some l):Ou S (k+1)=Ou S k++l.map (mH k):=by simp only[Ou,h]
theorem DZ{S:List (List ah)}{x:aj}:∀ {k:Nat},x∈Ou S k↔∃j l p,j <k∧S[j]?=some l∧p∈l∧x=mH j p
 |0=>by simp[Ou]
 |k+1=>by
  simp only[Ou,List.mem_append,DZ (k:=k)]
  constructor
  ·rintro(⟨j,l,p,h1,h2⟩|h)
   ·exact⟨j,l,p,by omega,h2⟩
   split at h
   ·rename_i l hl
    obtain⟨p,hp,rfl⟩:=List.mem_map.1 h
    exact⟨k,l,p,by omega,hl,hp,rfl⟩
   cases h
  rintro⟨j,l,p,h1,h2,h3,rfl⟩
  by_cases hj:j=k
  ·subst hj;rw[h2];exact .inr (List.mem_map_of_mem h3)
  exact .inl ⟨j,l,p,by omega,h2,h3,rfl⟩
theorem FO{S:List (List ah)}{j:Nat}{l:List ah}{p:ah}(h1:S[j]?=some l) (h2:p∈l):mH j p∈bA S:=DZ.2 ⟨j,l,p,(List.getElem?_eq_some_iff.1 h1).1,h1,h2,rfl⟩
theorem R3{S:List (List ah)}(hO:eZ S):∀k,(Ou S k).Nodup
 |0=>List.nodup_nil
 |k+1=>by
  simp only[Ou]
  refine List.nodup_append.2 ⟨R3 hO k,?_,fun x hx y hy e=>?_⟩
  ·split
   ·rename_i l hl
    refine List.pairwise_map.2 ((hO.asc l (List.mem_of_getElem? hl)).imp fun {a b} h e=>?_)
    simp only[mH,aj.mk.injEq] at e
    rcases h with h|h<;>omega
   exact List.nodup_nil
  subst e
  obtain⟨j,l,p,h1,_,_,rfl⟩:=DZ.1 hx
  split at hy
  ·obtain⟨q,_,hq⟩:=List.mem_map.1 hy
   simp only[mH,aj.mk.injEq] at hq
   omega
  cases hy
theorem KR{S:List (List ah)}(hO:eZ S):∀k,(Ou S k).length≤4*k
 |0=>by simp[Ou]
 |k+1=>by
  have:=KR hO k
  simp only[Ou,List.length_append]
  split
  ·rename_i l hl
   have:=hO.len l (List.mem_of_getElem? hl)
   rw[List.length_map];omega
  simp;omega
theorem tZ{S:List (List ah)}(hO:eZ S):(bA S).length≤8:=by
 have:=KR hO S.length
 have:=hO.two
 unfold bA;omega
theorem aEt(a b:aj):YQ zT 10000 132 (oK a) (oK b) (decide (a=b)):=by
 have h:=(ug (m8 Tryz.typeInfo132 Tryz.underlying132 rfl rfl rfl rfl rfl rfl) Tryz.stoodInHeld132 (.cons (by decide) (kp mC rfl) (kp mC rfl) (nV mC _ _) (.cons (by decide) (E1 (m8 Tryz.typeInfo54 Tryz.underlying54 rfl rfl rfl rfl rfl rfl) rfl) (E1 (m8 Tryz.typeInfo54 Tryz.underlying54 rfl rfl rfl rfl rfl rfl) rfl) (afF _ _ _ _ 9997) .nil)):YQ zT 10000 132 (oK a) (oK b) _)
 have e:(a.h==b.h&&((a.n==b.n&&(a.l==b.l&&true))&&true))=decide (a=b):=by
  rcases a with ⟨x,y,z⟩;rcases b with ⟨u,v,w⟩
  rw[Bool.eq_iff_iff];simp
 rwa[e] at h
theorem aSE(a:aj):CkD zT 10000 132 (oK a):=
 PG (m8 Tryz.typeInfo132 Tryz.underlying132 rfl rfl rfl rfl rfl rfl) (.cons (by decide) (kp mC rfl) (Gx mC _) (.cons (by decide) (E1 (m8 Tryz.typeInfo54 Tryz.underlying54 rfl rfl rfl rfl rfl rfl) rfl) (PG (dep:=9998) (m8 Tryz.typeInfo54 Tryz.underlying54 rfl rfl rfl rfl rfl rfl) (.cons (by decide) (kp mC rfl) (Gx mC _) (.cons (by decide) (kp mC rfl) (Gx mC _) .nil))) .nil))
theorem Cz:PZ zT 132 oK:=acg (m8 Tryz.typeInfo132 Tryz.underlying132 rfl rfl rfl rfl rfl rfl) (fun k=>⟨_,rfl⟩) aSE aEt (fun k=>by simp[Instr.sameBits])
def MV(Z:Cells)(F:List (aj×Value))(g:aj→aj):Prop:=∀aL,Knows aL Z→∀x∈F,bK aL x.2 3 cw [g x.1]
theorem Gh[DecidableEq κ]{k:κ}:∀ {F:List (κ×Value)} {i:Nat},k∈F.map (·.1)→∃j v,rX k F i=some (j,v)
 | [],_,h=>by cases h
 |x::F,i,h=>by
  simp only[rX]
  split
  ·exact⟨_,_,rfl⟩
  rename_i hk
  refine Gh ?_
  rcases List.mem_cons.1 h with h|h
  ·exact absurd h hk
  exact h
theorem UT[DecidableEq κ]{k:κ}{F:List (κ×Value)}(h:k∈F.map (·.1)):∃v,lkM k F=some v∧(k,v)∈F:=by
 obtain⟨j,v,h1⟩:=Gh (i:=0) h
 exact⟨v,by simp[lkM,h1],List.mem_of_getElem? (qj h1).2⟩
theorem ZX[DecidableEq κ]{k:κ}{v:Value}{F:List (κ×Value)}(h:k∉F.map (·.1)):mi k v F=F++[(k,v)]:=by
 have:rX k F 0=none:=by
  cases hf:rX k F 0 with
  |none=>rfl
  |some y=>exact absurd (List.mem_map_of_mem (f:=(·.1)) (List.mem_of_getElem? (qj (j:=y.1) (v:=y.2) hf).2)) h
 simp only[mi,this]
theorem MS[DecidableEq κ]{k:κ}{v:Value}{F:List (κ×Value)}(h:k∈F.map (·.1))(hn:(F.map (·.1)).Nodup):(mi k v F).map (·.1)=F.map (·.1)∧∀x∈mi k v F,x=(k,v)∨(x∈F∧x.1≠k):=by
 obtain⟨j,u,h1⟩:=Gh (i:=0) h
 have h2:=(qj h1).2
 rw[Nat.sub_zero] at h2
 obtain⟨hj,Qh⟩:=List.getElem?_eq_some_iff.1 h2
 simp only[mi,h1,DR]
 refine⟨?_,fun x hx=>?_⟩
 ·rw[List.map_set]
  refine List.ext_getElem? fun i=>?_
  rw[List.getElem?_set]
  split
  ·rename_i hi;subst hi;simp[h2,hj,Qh]
  rfl
 obtain⟨i,hi⟩:=List.getElem?_of_mem hx
 rw[List.getElem?_set] at hi
 split at hi
 ·cases hi;exact .inl rfl
 rename_i G9
 refine .inr ⟨List.mem_of_getElem? hi,fun e=>G9 ?_⟩
 obtain⟨hi1,Sq⟩:=List.getElem?_eq_some_iff.1 hi
 exact(List.getElem_inj (xs:=F.map (·.1)) (h₀:=by simpa using hj) (h₁:=by simpa using hi1) hn).1 (by simp[Qh,Sq,e])
theorem MV.set{Z:Cells}{F:List (aj×Value)}{g:aj→aj}(h:MV Z F g){k y:aj}{v:Value}(hk:k∈F.map (·.1))(hn:(F.map (·.1)).Nodup)(hv:∀aL,Knows aL Z2→bK aL v 3 cw [y]):MV (Z++Z2) (mi k v F) (fun x=>if x=k then y else g x):=fun aL hr x hx=>by
 rcases(MS hk hn).2 x hx with rfl| ⟨h1,h2⟩
 ·simp only[if_true];exact hv aL hr.right
 simp only[h2,if_false];exact h aL hr.left x h1
theorem MV.add{Z:Cells}{F:List (aj×Value)}{g:aj→aj}(h:MV Z F g){k:aj}{v:Value}(hv:∀aL,Knows aL Z2→bK aL v 3 cw [g k]):MV (Z++Z2) (F++[(k,v)]) g:=fun aL hr x hx=>by
 rcases List.mem_append.1 hx with h1|h1
 ·exact h aL hr.left x h1
 rw[List.mem_singleton] at h1;subst h1;exact hv aL hr.right
theorem aEl{v:Value}{ro:Nat→Option Obj}(hl:bK ro v 1 cS xs)(hn:xs.length≤1000):eG zT 153 [v] ro [] (fun r Y=>az r 1 3 cS xs Y):=by
 obtain⟨fL,rD,rC,eV,rfl,tH,lJ,mE⟩:=hl
 refine bC au [] [] bn<|zD 8<|jsn 22 (a:=fL) (l:=xs.length) (c:=eV)<|zD 1<|js 4 (fL.isNone) (fun h1=>?_) (fun h1=>?_)
 ·
  refine zD 6<|aF q0 (zS) [] [] [] (Sub.refl _) ⟨_,_,rfl,rfl,by rw[qT lJ (by assumption)];exact az.nil _ _ _⟩
 refine zD 4<|jn fun b5=>zD 1<|k8 (sz:=1) (ps:=[]) (qs:=xs) (enc:=cS) (w:= .slice fL xs.length eV) [0] [] [] (cD (b:=b5) (T:=3)) (fun s he _=>⟨fL,rD,rC,eV,rfl,lJ,fun i p hp=>(mE i p hp).ext he⟩) (fun p _=>ar rfl) (by simp<;>omega) (fun v7 L7 iI=>?_)
 rw[List.nil_append] at iI
 obtain⟨QA,Qw,OX⟩:=iI.form
 subst OX
 refine zD 3<|aF q0 ((.slice QA (xs).length Qw)) [] [0] L7 (Sub.refl _) ⟨_,_,rfl,rfl,iI⟩
theorem aSg{v:Value}{xs:List ah}{ro:Nat→Option Obj}(hl:bK ro v 2 cI xs)(hn:xs.length≤1000):eG zT 187 [v] ro [] (fun r Y=>az r 2 54 cI xs Y):=by
 obtain⟨fL,rD,rC,eV,rfl,tH,lJ,mE⟩:=hl
 refine bC au [] [] bn<|zD 8<|jsn 55 (a:=fL) (l:=xs.length) (c:=eV)<|zD 1<|js 4 (fL.isNone) (fun h1=>?_) (fun h1=>?_)
 ·
  refine zD 6<|aF q0 (zS) [] [] [] (Sub.refl _) ⟨_,_,rfl,rfl,by rw[qT lJ (by assumption)];exact az.nil _ _ _⟩
 refine zD 4<|jn fun b5=>zD 1<|k8 (sz:=2) (ps:=[]) (qs:=xs) (enc:=cI) (w:= .slice fL xs.length eV) [0] [] [] (cD (b:=b5) (T:=54)) (fun s he _=>⟨fL,rD,rC,eV,rfl,lJ,fun i p hp=>(mE i p hp).ext he⟩) (fun p _=>ar rfl) (by simp<;>omega) (fun v7 L7 iI=>?_)
 rw[List.nil_append] at iI
 obtain⟨QA,Qw,OX⟩:=iI.form
 subst OX
 refine zD 3<|aF q0 ((.slice QA (xs).length Qw)) [] [0] L7 (Sub.refl _) ⟨_,_,rfl,rfl,iI⟩
theorem aSh{v:Value}{xs:List aj}{ro:Nat→Option Obj}(hl:bK ro v 3 cw xs)(hn:xs.length≤1000):eG zT 123 [v] ro [] (fun r Y=>az r 3 132 cw xs Y):=by
 obtain⟨fL,rD,rC,eV,rfl,tH,lJ,mE⟩:=hl
 refine bC au [] [] bn<|zD 8<|jsn 128 (a:=fL) (l:=xs.length) (c:=eV)<|zD 1<|js 4 (fL.isNone) (fun h1=>?_) (fun h1=>?_)
 ·
  refine zD 6<|aF q0 (zS) [] [] [] (Sub.refl _) ⟨_,_,rfl,rfl,by rw[qT lJ (by assumption)];exact az.nil _ _ _⟩
 refine zD 4<|jn fun b5=>zD 1<|k8 (sz:=3) (ps:=[]) (qs:=xs) (enc:=cw) (w:= .slice fL xs.length eV) [0] [] [] (cD (b:=b5) (T:=132)) (fun s he _=>⟨fL,rD,rC,eV,rfl,lJ,fun i p hp=>(mE i p hp).ext he⟩) (fun p _=>ar rfl) (by simp<;>omega) (fun v7 L7 iI=>?_)
 rw[List.nil_append] at iI
 obtain⟨QA,Qw,OX⟩:=iI.form
 subst OX
 refine zD 3<|aF q0 ((.slice QA (xs).length Qw)) [] [0] L7 (Sub.refl _) ⟨_,_,rfl,rfl,iI⟩
theorem akI{v:Value}{S:List (List ah)}{ro:Nat→Option Obj}(hS:cK ro v S)(hO:eZ S):eG zT 156 [.agg ⟨[v]⟩] ro [] (fun r Y=>∃a n c,r= .agg ⟨[.slice a n c]⟩∧∀aL,Knows aL Y→cK aL (.slice a n c) S):=by
 obtain⟨ws,ht,cY⟩:=hS
 obtain⟨fg,AP,AN,eA,rfl,AO,tq,tk⟩:=ht
 have hln:=cY.len
 have HI:=hO.two
 refine bC au [] [] bn<|zD 2<|jn fun b1=>jn fun b2=>zD 4<|jn fun b3=>jd 11 [0,2]<|qB<|qB<|eN [1,1,0,1,0,0] [] (fun(zz:Nat×Value×Cells×(List Value)×Cells)=>[(2,zP b2),(3,zP b3),(8,.slice fg ws.length eA),(9,zI (ws.length:Int)),(10,zI (zz.1:Int))]) (fun(zz:Nat×Value×Cells×(List Value)×Cells)=>[.b b3 (.cells ⟨[zz.2.1]⟩ 27 (0,0)),.l zz.2.2.1,.l zz.2.2.2.2,.b b2 (.cells ⟨[zS]⟩ 27 (0,0)),.b b1 (.cells ⟨[.slice fg ws.length eA]⟩ 27 (0,0))]) (fun(zz:Nat×Value×Cells×(List Value)×Cells)=>(zz.1≤ws.length∧zz.2.2.2.1.length=zz.1)∧az zz.2.1 1 55 jz zz.2.2.2.1 zz.2.2.1∧∀aL,Knows aL zz.2.2.2.2→dK (fun w l=>bK aL w 2 cI l) zz.2.2.2.1 (S.take zz.1)) (fun(zz:Nat×Value×Cells×(List Value)×Cells)=>ws.length-zz.1) (⟨0,zS,[],[],[]⟩) ⟨⟨by dsimp only;omega,rfl⟩,az.nil _ _ _,fun _ _=> .nil⟩ [2,1,0,3,4] ?_
 rintro⟨k,vO,LO,es,Z⟩ hI K1 bF rest
 dsimp only at hI
 refine zD 5<|zJ 11 ((k:Int) <(ws.length:Int)) (fun h1=>?_) fun h1=>?_
 ·
  refine zD 6 ?_
  obtain⟨tj,p8⟩:=zG ws k
  refine iW eA 1 tq p8 ?_
  obtain⟨l13,aAD,wX⟩:=cY.get p8
  obtain aAq:=hO.len _ (List.mem_of_getElem? aAD)
  obtain⟨ayi,aMr,aMn,ayh,rfl,aMp,aMq,aMo⟩:=wX
  refine jl 0 (tk _ _ p8)<|jd 6 [0]<|aH 3 fun AY A6 Ad=>jc (vs:=[.slice ayi l13.length ayh]) [] (aSg (show bK _ _ _ _ _ from ⟨ayi,aMr,aMn,ayh,rfl,aMp,aMq,aMo⟩) (by first|omega| (simp only[List.length_set,List.length_append,List.length_cons,List.length_nil];omega))) ?_
  rintro v17 L17 BK
  obtain⟨za,y8,OY⟩:=BK.form
  subst OY
  refine bw Ad [1,2,3,4,5]<|aH 4 fun rZ si qG=>jn fun fy=>bw qG [1,2,3,4,5,6]<|aH 5 fun tw tz rP=>k8 (sz:=1) (ps:=es) (qs:=[((.slice za (l13).length y8):Value)]) (enc:=jz) (w:= .slice (some ⟨fy,0,none⟩) 1 1) [3] [0] [(fy,.cells ⟨([((.slice za (l13).length y8):Value)].map jz).flatten⟩ 55 (0,0))] (hI.2.1) (fun s _ hZ=>cb [((.slice za (l13).length y8):Value)] (hZ _ (.head _)) (by intro p hp;rfl)) (by intro p hp;rw[List.mem_singleton] at hp;subst hp;exact ar rfl) (by simp<;>omega) (fun v19 L19 adq=>?_)
  obtain⟨aJL,aJm,aP0⟩:=adq.form
  subst aP0
  refine iM rP []<|zD 1<|aH 7 fun AX A5 BO=>jd 1 [3]<|cM BO<|zD 2<|ja ((k:Int)+1) (by omega)<|zD 2<|Oi bF (⟨k+1,(.slice aJL ((es++[((.slice za (l13).length y8):Value)])).length aJm),L19,(es++[((.slice za (l13).length y8):Value)]),L17++Z⟩) ⟨⟨by dsimp only;omega,by simp only[List.length_append,List.length_cons,List.length_nil];omega⟩,adq,fun aL hk=>xj (hI.2.2 aL hk.right) aAD (BK.nv hk.left)⟩ (by dsimp only;omega) [[3],[0],[2,4],[5],[6]] (Sub.refl _)
 refine jd 5 [0] ?_
 obtain⟨va6,vc6,he6⟩:=hI.2.1.form
 subst he6
 refine jd 3 [3]<|aF q0 (.agg ⟨[(.slice va6 (es).length vc6)]⟩) [3] [1,2] (LO++Z) (Sub.refl _) ⟨_,_,rfl,rfl,_,_,_,rfl,fun aL hk=>⟨es,hI.2.1.nv hk.left,by have:=hI.2.2 aL hk.right;rwa[List.take_of_length_le (by omega)] at this⟩⟩
theorem VF{v:Value}{S:List (List ah)}{ro:Nat→Option Obj}(hS:cK ro v S)(hO:eZ S):eG zT 147 [.agg ⟨[v]⟩] ro [] (fun r Y=>az r 3 132 cw (bA S) Y):=by
 obtain⟨ws,ht,cY⟩:=hS
 obtain⟨fg,AP,AN,eA,rfl,AO,tq,tk⟩:=ht
 have hln:=cY.len
 have HI:=hO.two
 refine bC au [] [] bn<|zD 2<|jn fun b1=>jd 15 [0]<|qB<|eN [1,1,0,1,0,0] [] (fun(zz:Nat×Value×Cells)=>[(2,zS),(3,zz.2.1),(9,.slice fg ws.length eA),(10,zI (ws.length:Int)),(11,zI (zz.1:Int))]) (fun(zz:Nat×Value×Cells)=>[.l zz.2.2,.b b1 (.cells ⟨[.slice fg ws.length eA]⟩ 27 (0,0))]) (fun(zz:Nat×Value×Cells)=>zz.1≤ws.length∧az zz.2.1 3 132 cw (Ou S zz.1) zz.2.2) (fun(zz:Nat×Value×Cells)=>ws.length-zz.1) (⟨0,zS,[]⟩) ⟨by dsimp only;omega,az.nil _ _ _⟩ [0,1] ?_
 rintro⟨k,vO,LO⟩ hI K1 bF rest
 dsimp only at hI
 refine zD 5<|zJ 12 ((k:Int) <(ws.length:Int)) (fun h1=>?_) fun h1=>?_
 ·
  refine zD 7 ?_
  obtain⟨fU,eI⟩:=zG ws k
  refine iW eA 1 tq eI ?_
  obtain⟨Oe,XX,Gb⟩:=cY.get eI
  obtain aPb:=hO.len _ (List.mem_of_getElem? XX)
  obtain⟨apr,aMm,aMk,aa4,rfl,aMl,apq,apo⟩:=Gb
  refine jl 0 (tk _ _ eI)<|zD 10<|eN [1,1,0,1,0,0,1,1,0,0,1,1,0,0] [K1] (fun(zz:Nat×Value×Cells)=>[(2,zS),(3,zz.2.1),(4,zI (k:Int)),(9,.slice fg ws.length eA),(10,zI (ws.length:Int)),(11,zI (k:Int)),(16,.slice apr Oe.length aa4),(17,zI (Oe.length:Int)),(18,zI (zz.1:Int))]) (fun(zz:Nat×Value×Cells)=>[.l zz.2.2,.b b1 (.cells ⟨[.slice fg ws.length eA]⟩ 27 (0,0))]) (fun(zz:Nat×Value×Cells)=>zz.1≤Oe.length∧az zz.2.1 3 132 cw (Ou S k++(Oe.take zz.1).map (mH k)) zz.2.2) (fun(zz:Nat×Value×Cells)=>Oe.length-zz.1) (⟨0,vO,LO⟩) ⟨by dsimp only;omega,by simpa using hI.2⟩ [0,1] ?_
  rintro⟨i,vO,LO⟩ hJ K2 mL rest
  dsimp only at hJ
  refine zD 5<|zJ 19 ((i:Int) <(Oe.length:Int)) (fun h2=>?_) fun h2=>?_
  ·
   refine zD 6 ?_
   obtain⟨x20,KO⟩:=zG Oe i
   refine iW aa4 2 apq KO<|jl 0 (apo _ _ KO)<|jn fun b7=>jd 7 [0,0]<|jn fun b26=>k8 (sz:=3) (ps:=(Ou S k++(Oe.take i).map (mH k))) (qs:=[(⟨(k:Int),x20.n,x20.l⟩:aj)]) (enc:=cw) (w:= .slice (some ⟨b26,0,none⟩) 1 1) [2] [0] [(b26,.cells ⟨([(⟨(k:Int),x20.n,x20.l⟩:aj)].map cw).flatten⟩ 132 (0,0))] (hJ.2) (fun s _ hZ=>cb [(⟨(k:Int),x20.n,x20.l⟩:aj)] (hZ _ (.head _)) (by intro p hp;rfl)) (fun p _=>ar rfl) (by have:=KR hO k;simp only[List.length_append,List.length_map,List.length_take,List.length_cons,List.length_nil];omega) (fun v27 L27 ado=>?_)
   obtain⟨aJH,aJi,aPX⟩:=ado.form
   subst aPX
   refine zD 3<|ja ((i:Int)+1) (by omega)<|zD 2<|bI mL (⟨i+1,(.slice aJH (((Ou S k++(Oe.take i).map (mH k))++[(⟨(k:Int),x20.n,x20.l⟩:aj)])).length aJi),L27⟩) ⟨by dsimp only;omega,by rw[fq KO,List.map_append,←List.append_assoc];exact ado⟩ (by dsimp only;omega) [0,3] (Sub.refl _)
  refine zD 3<|ja ((k:Int)+1) (by omega)<|zD 2<|bI bF (⟨k+1,vO,LO⟩) ⟨by dsimp only;omega,by rw[aq1 XX];have:=hJ.2;rwa[List.take_of_length_le (by omega)] at this⟩ (by dsimp only;omega) [0,1] (Sub.refl _)
 refine zD 8<|aF q0 (vO) [] [0] LO (Sub.refl _) ⟨_,_,rfl,rfl,by have:=hI.2;rwa[show k=S.length by omega] at this⟩
end Go.L
