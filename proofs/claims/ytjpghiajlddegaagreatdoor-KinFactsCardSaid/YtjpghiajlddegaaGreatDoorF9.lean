/- Part 9 of the proof. -/
import Derived.Test.YtjpghiajlddegaaGreatDoorF8
set_option maxRecDepth 100000
set_option linter.all false
namespace Go.L
open Go Go.Conc Go.Proofs
open Go.ConcR (KK wgBlock WgAt stA smA rd wr)
variable {K:aP} {l fi ca:List Value} {W:List (List Int)} {Z Z2 LM:Cells} {α κ:Type} {F:Nat→Nat→Bool} {i k f n s rm j:Nat} {g:FuncId} {seen:List Nat} {xs:List Int} {ck c5 c6:Int}
abbrev pV(b:Nat):Value:= zP b
noncomputable def En(f i:Nat):Array Oper:=cK (codeOf zT f) i
noncomputable def aUY(f i:Nat):Code:=((codeOf zT f)[i]?).getD .skip
def oJ(K:aP)(on:Int)(keep:aw→Bool)(r:bP)(past:Nat):List aw:=((bU K on).map (cY K r past)).filter keep
noncomputable def Ya(f:Nat):Code:=(((Tryz.prog.funcs[f]?).getD default).body).getD .skip
theorem jU{l:List α}{x:α}(h:l[k]?=some x):l.take (k+1)=l.take k++[x]:=by rw[List.take_succ,h];rfl
theorem av1:ir [Ya 104]=[.region 0 (En 104 0) false,.region 1 (En 104 1) false,.region 2 (En 104 2) false,aUY 104 3,.region 7 (En 104 4) false]:=by kernel_rfl
theorem aBg{rows:List bP}{on:Int}{past:Nat}{II:bP}{keep:aw→Bool}{ro:Nat→Option Obj}{Wg Ch:Nat}{iC:Os}{cu:Array (Nat×ByteArray)}{b3 b4 b5 b7 b9:Nat}(hV:gh K)(hF:qd ro f K rows)(Cu:rows[past]?=some II) (Ha:BI zT g=true)
 (iL:∀aF,Sub ro aF→∀p∈bU K on,dO zT g (fi++[.agg ⟨cR (cY K II past p)⟩]++ca) aF (.bool (keep (cY K II past p))))
 (g3:ro b3=some (.cells ⟨[pV f]⟩ 94 (0,0))) (g4:ro b4=some (.cells ⟨[.int .u8 on]⟩ 99 (0,0))) (g9:ro b9=some (.cells ⟨[zI (past:Int)]⟩ 3 (0,0))) (g5:ro b5=some (.cells ⟨[.func (.func g) ⟨fi⟩ ⟨ca⟩]⟩ 155 (0,0))) (g7:ro b7=some (.cells ⟨[.chan (some Ch)]⟩ 191 (0,0))):
 eZ zT false ((nQ Wg Ch iC cu).Jo (oJ K on keep II past)) (born zT {target:= .fn (.func 104) ⟨[pV Wg,pV b3,pV b4,pV b9,pV b5,pV b7]⟩,args:= #[]}) ⟨ro,[]⟩:=by
 have hT:Closed zT false (eZ zT false ((nQ Wg Ch iC cu).Jo (oJ K on keep II past))):=ei _ _ _
 refine azp (fn:=(Tryz.prog.funcs[104]?).getD default) (c:=Ya 104) (n:=26) (by kernel_rfl) (by kernel_rfl) (by kernel_rfl) (by kernel_rfl) (by rfl)<|qo hT av1 fun l1 CE=>?_
 refine aq4 hT (a:=eV (En 104 0) 0) (f:=105) (xs:= #[.tmp 0]) (vs:=[pV Wg]) (ats:=air (eV (En 104 0) 0)) (by kernel_rfl) (by kernel_rfl) (by kernel_rfl) (by decide) rfl<|qo hT CE fun l2 q5=>?_
 refine vZ au hT<|jn fun b6=>zD 1<|xV<|qo hT q5 fun l3 Oa=>?_
 refine vZ au hT<|jl (b:=b3) (off:=0) (m:=1) (vs:=[pV f]) 0 ⟨_,_,_,.inl g3,rfl⟩<|jl (b:=b4) (off:=0) (m:=1) (vs:=[.int .u8 on]) 0 ⟨_,_,_,.inl g4,rfl⟩<|jc [] (Ki (on:=on) hF hV) ?_
 rintro _ _ ⟨q1,q2,q3,q4,rfl,rfl⟩
 refine jf [0] [(q1,.cells ⟨[pV f]⟩ 94 (0,0)),(q2,.cells ⟨[.func (.func 98) ⟨[]⟩ ⟨[pV q1,pV q4]⟩]⟩ 187 (0,0)),(q3,.cells ⟨C2 ⟨dc K on⟩⟩ 139 (0,0)),(q4,.cells ⟨[.int .u8 on]⟩ 99 (0,0))] fun aB cd hk1=>zD 1<|azn<|aop hT Oa fun l4 N9=>?_
 refine azo au hT ?_
 have Jc:=hF.up cd
 refine zD 1<|py ?_
 refine jrf [] (WY (on:=on) Jc hV (hk1 _ (.head _)) (hk1 _ (.tail _ (.head _))) (hk1 _ (.tail _ (.tail _ (.head _)))) (hk1 _ (.tail _ (.tail _ (.tail _ (.head _)))))) (by rintro _ _ _ _ ⟨_,_,rfl,_⟩;rfl)
  (fun(zz:Value×Cells)=>[.b b6 (.cells ⟨[zz.1]⟩ 104 (0,0)),.l zz.2]) (fun kk=>(fun(zz:Value×Cells)=>ax zz.1 8 124 cR ((((bU K on).take kk).map (cY K II past)).filter keep) zz.2)) (fun jump=>(fun(zz:Value×Cells)=>False)) (⟨zS,[]⟩) (ax.nil _ _ _) [1,0] ?_ ?_ ?_
 ·rintro bl bd kk vs LL ⟨v,Lb⟩ kF jW ⟨p,hp,rfl,rfl⟩ hI pe
  dsimp only at hI
  have aCd:=List.mem_of_getElem? hp
  have hp4:=(kO hV on).2 p aCd
  have aeR:=Sub.trans cd pe
  have hlen:((((bU K on).take kk).map (cY K II past)).filter keep).length≤625:=by
   refine Nat.le_trans (List.length_filter_le _ _) ?_
   rw[List.length_map,List.length_take]
   have:=(kO hV on).1
   omega
  refine zD 1<|jn fun kg=>jd 2 [0]<|jbI 1<|zD 3<|jl (b:=b3) (off:=0) (m:=1) (vs:=[pV f]) 0 ⟨_,_,_,.inl (aeR _ _ g3),rfl⟩<|jl (b:=b9) (off:=0) (m:=1) (vs:=[zI (past:Int)]) 0 ⟨_,_,_,.inl (aeR _ _ g9),rfl⟩<|jd 1 [0]<|jp (vs:=[pV f,zI (past:Int),.agg ⟨eP4 p⟩]) [] [] (fun BE hs hZ=>aoX (hF.up (Sub.trans aeR hs)) hV Cu hp4)<|jn fun Ah=>jd 4 [0]<|jl (b:=b5) (off:=0) (m:=1) (vs:=[.func (.func g) ⟨fi⟩ ⟨ca⟩]) 0 ⟨_,_,_,.inl (aeR _ _ g5),rfl⟩<|jd 1 [0]<|jpF (f:=g) (V:= .bool (keep (cY K II past p))) (vs:=fi++[Value.agg ⟨cR (cY K II past p)⟩]++ca) [] [] Ha (fun BE hs hZ=>iL _ (Sub.trans aeR hs) p aCd)<|zD 1<|js 19 (keep (cY K II past p)) (fun h5=>?_) (fun h5=>?_)
  ·refine jd 4 [3,0]<|jn fun nE=>jE (sz:=8) (ps:=(((bU K on).take kk).map (cY K II past)).filter keep) (qs:=[cY K II past p]) (enc:=cR) (w:= .slice (some ⟨nE,0,none⟩) 1 1) [5] [0] [(nE,.cells ⟨([cY K II past p].map cR).flatten⟩ 124 (0,0))] hI (fun s _ hZ=>bS [cY K II past p] (hZ _ (.head _)) (by intro p hp;rfl)) (fun p _=>ai rfl) (by simp only[List.length_cons,List.length_nil];omega) (fun v23 L23 za=>?_)
   obtain⟨va,vc,he⟩:=za.form
   subst he
   refine jd 2 [5]<|jyn Zf (Sub.refl _) ⟨.slice va _ vc,L23⟩ (by dsimp only;rw[jU hp,List.map_append,List.filter_append,List.map_cons,List.map_nil,List.filter_cons_of_pos h5,List.filter_nil];exact za) [4,5,0]
  refine zD 2<|jyn Zf (Sub.refl _) ⟨v,Lb⟩ (by dsimp only;rw[jU hp,List.map_append,List.filter_append,List.map_cons,List.map_nil,List.filter_cons_of_neg (by rw[h5];simp),List.filter_nil,List.append_nil];exact hI) [2,3,4]
 ·rintro bd ⟨v,Lb⟩ Z hI rfl
  dsimp only at hI
  rw[List.take_length] at hI
  refine azm<|qo hT N9 fun l5 N8=>?_
  have:=gX N8
  subst this
  show TT _ _ (.inRegion (En 104 4) (0::[1,2])::[]) _ _ _ _ _
  refine tLd hT (.chan (some Ch)) (a:=eV (En 104 4) 0) (x:= .tmp 5) (U:=191) (q:=b7) (by kernel_rfl) (by kernel_rfl) (by kernel_rfl) (by kernel_rfl) (by decide) rfl (fun _ _ _ _=> .inl (cd _ _ g7))<|aNm hT v (a:=eV (En 104 4) 1) (x:= .tmp 6) (U:=104) (q:=b6) (by kernel_rfl) (by kernel_rfl) (by kernel_rfl) (by kernel_rfl) (by decide) rfl [2] 104<|azh (E:=nQ Wg Ch iC cu) (a:=eV (En 104 4) 2) (sc:= .tmp 24) (sv:= .tmp 25) (v:=v) (Y:=Lb) [3] (by kernel_rfl) (by kernel_rfl) (fun ρ=>by kernel_rfl) (by decide) rfl hI<|VT (ei _ _ _)<|aq0 (E:=nQ Wg Ch iC cu) (fn:=(Tryz.prog.funcs[104]?).getD default) (dn:=105) (bd:=bd) (by kernel_rfl) (by kernel_rfl) (by kernel_rfl) (alD Wg).choose_spec xu [0] rfl rfl
 rintro bd ⟨v,Lb⟩ Z jump hS hZ
 exact hS.elim
theorem f26:ir [Ya 76]=[.region 0 kE.o0 false,.region 1 kE.o1 false,.region 2 kE.o2 false,.region 3 kE.o3 false,.block 0 (.loop kE.lb),.region 9 kE.o9 false,.region 10 kE.o10 false,.region 11 kE.o11 false,.block 2 (.loop kE.rb),.region 15 (En 76 9) false,.region 16 (En 76 10) false,.ret]:=by kernel_rfl
theorem aGM:ir [kE.lb]=[.region 4 kE.o4 false,.cond (.tmp 19) .skip (.exit 0),.block 1 kE.DD,.region 8 kE.o8 false]:=by kernel_rfl
theorem aUL:ir [kE.DD]=[.region 5 kE.o5 false,.region 6 kE.o6 false,.region 7 kE.o7 false]:=by kernel_rfl
theorem aGL:ir [kE.rb]=[.region 12 kE.Ce false,.cond (.tmp 27) .skip (.exit 2),.block 3 kE.uU]:=by kernel_rfl
theorem aUK:ir [kE.uU]=[.region 13 kE.o13 false,.region 14 kE.o14 false]:=by kernel_rfl
def jz(K:aP)(on:Int)(keep:aw→Bool)(rows:List bP)(n:Nat):List (List aw):=(List.range n).map fun i=>oJ K on keep ((rows[i]?).getD ⟨fun _ _=>false⟩) i
theorem Oq{on:Int}{keep:aw→Bool}{rows:List bP}{r:bP}(h:rows[n]?=some r):jz K on keep rows (n+1)=jz K on keep rows n++[oJ K on keep r n]:=by
 simp only[jz,List.range_succ,List.map_append,List.map_cons,List.map_nil,h,Option.getD_some]
theorem yF(K:aP)(on:Int)(keep:aw→Bool)(rows:List bP)(n:Nat):(jz K on keep rows n).length=n:=by simp[jz]
def ep(K:aP)(on:Int)(keep:aw→Bool)(rows:List bP):List aw:=(jz K on keep rows rows.length).flatten
theorem qW(hV:gh K)(on:Int)(keep:aw→Bool){rows:List bP}(hR:rows.length≤2):(ep K on keep rows).length≤1250:=by
 have h1:∀r i,(oJ K on keep r i).length≤625:=fun r i=>Nat.le_trans (List.length_filter_le _ _) (by rw[List.length_map];exact(kO hV on).1)
 have key:∀n,(jz K on keep rows n).flatten.length≤n*625:=by
  intro n
  induction n with
  |zero=>simp[jz]
  |succ n ih=>
   have:=h1 ((rows[n]?).getD ⟨fun _ _=>false⟩) n
   simp only[jz,List.range_succ,List.map_append,List.map_cons,List.map_nil,List.flatten_append,List.length_append,List.flatten_cons,List.flatten_nil,List.append_nil] at ih ⊢
   omega
 have:=key rows.length
 have h2:rows.length*625≤2*625:=Nat.mul_le_mul_right _ hR
 exact Nat.le_trans this h2
theorem aaK{on:Int}{keep:aw→Bool}{rows:List bP}(hR:rows.length≤2):ia (ep K on keep rows):=by
 intro x hx
 obtain⟨l,hl,hx⟩:=List.mem_flatten.1 hx
 obtain⟨i,hi,rfl⟩:=List.mem_map.1 hl
 have hi:=List.mem_range.1 hi
 obtain⟨p,_,rfl⟩:=List.mem_map.1 (List.mem_filter.1 hx).1
 simp only[cY]
 omega
theorem ahq(a:List (List α))(o:List α)(b:List (List α))(zs:List α):((zs++o)++(a++b).flatten).Perm (zs++(a++o::b).flatten):=by
 simp only[List.flatten_append,List.flatten_cons,List.append_assoc]
 refine .append_left _ ?_
 rw[←List.append_assoc,←List.append_assoc]
 exact .append_right _ List.perm_append_comm
theorem aBl{rows:List bP}{on:Int}{keep:aw→Bool}{ro:Nat→Option Obj}{fr:Cells}(hV:gh K)(hF:qd ro f K rows)(hR:rows.length≤2)(Ha:BI zT g=true)
 (iL:∀i r,rows[i]?=some r→∀aF,Sub ro aF→∀p∈bU K on,dO zT g (fi++[.agg ⟨cR (cY K r i p)⟩]++ca) aF (.bool (keep (cY K r i p)))):
 Fn (C0 zT) zT 76 ⟨[pV f,.int .u8 on,.func (.func g) ⟨fi⟩ ⟨ca⟩]⟩ ⟨ro,fr⟩ (fun en s'=>∃v Y zs,en= .returned v∧s'=⟨ro,Y++fr⟩∧zs.Perm (ep K on keep rows)∧ax v 8 124 cR zs Y):=by
 rintro main T ⟨rfl,iC,cu,Post,rfl⟩ cl Nu kr _
 have hT:=sX zT iC cu Post
 obtain⟨c0,c1,c2,vc,vh,vr,vb,va,vf,vt,hv,hf,qj,nN,hr,CI,Hf,I8,bO⟩:=id hF
 obtain⟨nX,Eg,Ef,nF,rfl,Pa,LV,LU⟩:=bO
 refine aqZ (fn:=(Tryz.prog.funcs[76]?).getD default) (c:=Ya 76) (n:=35) (by kernel_rfl) (by kernel_rfl) (by kernel_rfl) (by rfl)<|qo hT f26 fun l1 CE=>?_
 refine vZ au hT<|jn fun b3=>jn fun b4=>jn fun b5=>zD 2<|xV<|qo hT CE fun l2 q5=>?_
 show TT _ _ (.inRegion kE.o1 (0::[1,2])::_) _ _ _ _ _
 refine azi hT (a:=kE.a1) (f:=fun q=> .chan (some q)) (ob:= .chan 0 #[] false 0 0 false) (by kernel_rfl) (by kernel_rfl) (fun e q=>by kernel_rfl) (by decide) rfl fun Ch=>?_
 refine vZ au hT<|jn fun b7=>jd 2 [0]<|xV<|qo hT q5 fun l3 Oa=>?_
 show TT _ _ (.inRegion kE.o2 (0::[])::_) _ _ _ _ _
 refine azi hT (a:=kE.a2) (f:=fun q=> zP q) (ob:=wgBlock 200 0 0) (by kernel_rfl) (by kernel_rfl) (fun e q=>by kernel_rfl) (by decide) rfl fun Wg=>?_
 refine VT hT<|aq3 (E:=nQ Wg Ch iC cu) (Q:=Good zT Post) (tm:=false) 0 2 ((b7,.cells ⟨[.chan (some Ch)]⟩ 191 (0,0))::(b5,.cells ⟨[.func (.func g) ⟨fi⟩ ⟨ca⟩]⟩ 155 (0,0))::(b4,.cells ⟨[.int .u8 on]⟩ 99 (0,0))::(b3,.cells ⟨[pV f]⟩ 94 (0,0))::fr) hT (fun L aB hl eB Un=>?_)
 have h7:=hl.kn _ (.head _)
 have h5:=hl.kn _ (.tail _ (.head _))
 have h4:=hl.kn _ (.tail _ (.tail _ (.head _)))
 have h3:=hl.kn _ (.tail _ (.tail _ (.tail _ (.head _))))
 dsimp only at h7 h5 h4 h3
 have hM:∀pend os,Closed zT true (TM (nQ Wg Ch iC cu) L (Good zT Post) pend false os 0):=fun pend os=>fK (E:=nQ Wg Ch iC cu) false os (fun e=>(by cases e))
 have hC:∀os,Closed zT true (TM (nQ Wg Ch iC cu) L (Good zT Post) 0 true os 0):=fun os=>fK (E:=nQ Wg Ch iC cu) true os (fun _=>rfl)
 refine qo (hM 0 []) Oa fun l4 N9=>?_
 refine vZ au (hM 0 [])<|jl (b:=b3) (off:=0) (m:=1) (vs:=[pV f]) 0 ⟨_,_,_,.inl h3,rfl⟩<|zD 2<|jl (b:=f) (off:=0) (m:=13) (vs:=[c0,c1,c2,vc,vh,vr,vb,va,zI K.gone,zI K.new,zI K.af,vf,.slice nX rows.length nF]) 12 ⟨_,_,_,.inl (hl.sub _ _ hf),rfl⟩<|zD 3<|xV<|Lr (hM 0 []) N9 fun l5 N8=>?_
 refine aoo (hM 0 []) (rest:=[]) rfl fun l6 Il=>?_
 have:=gX Il
 subst this
 have loop:∀m i kF,m+i=rows.length→Sub aB kF→(∀kF rest,Sub aB kF→TT (TM (nQ Wg Ch iC cu) L (Good zT Post) 0 false (jz K on keep rows rows.length) 0) (fr0 76 .normal) (l5.map .code++[]) (cl::Nu) 35 [] kF (some ⟨.fin .normal,[(7,pV b7),(8,pV Wg)]++rest,[],⟨[],[]⟩⟩))→
  ∀rest,TT (TM (nQ Wg Ch iC cu) L (Good zT Post) 0 false (jz K on keep rows i) 0) (fr0 76 .normal) ([kE.lb].map .code++(.inLoop kE.lb::(.inBlock 0::(l5.map .code++[])))) (cl::Nu) 35 [] kF (some ⟨.fin .normal,[(3,pV b3),(4,pV b4),(5,pV b5),(7,pV b7),(8,pV Wg),(17,zI (rows.length:Int)),(18,zI (i:Int))]++rest,[],⟨[],[]⟩⟩):=by
  intro m
  induction m with
  |zero=>
   intro i kF hi hs qJ rest
   refine qo (hM 0 _) aGM fun m1 hm1=>?_
   refine vZ au (hM 0 _)<|zD 2<|xV<|VU (hM 0 _) (t:=false) (q:=decide ((i:Int) <(rows.length:Int))) hm1 (by simp;omega) fun m2 Fo=>?_
   refine aoq (hM 0 _) (k':=l5.map .code++[]) (by rw[qQ];simp[exitTo]) ?_
   have:i=rows.length:=by omega
   subst this
   exact tSt (hM 0 _) [(7,pV b7),(8,pV Wg)] [] [] fun rest=>qJ kF rest hs
  |succ m ih=>
   intro i kF hi hs qJ rest
   obtain⟨r,Cu⟩:∃r,rows[i]?=some r:=⟨_,List.getElem?_eq_getElem (by omega)⟩
   refine qo (hM 0 _) aGM fun m1 hm1=>?_
   refine vZ au (hM 0 _)<|zD 2<|xV<|VU (hM 0 _) (t:=true) (q:=decide ((i:Int) <(rows.length:Int))) hm1 (by simp;omega) fun m2 Fo=>?_
   refine aom (hM 0 _)<|Lr (hM 0 _) Fo fun m3 hm3=>?_
   refine qo (hM 0 _) aUL fun m4 hm4=>?_
   refine vZ au (hM 0 _)<|zD 1<|jn fun b9=>jd 2 [0]<|xV<|qo (hM 0 _) hm4 fun m5 hm5=>?_
   show TT _ _ (.inRegion kE.o6 [0]::_) _ _ _ _ _
   refine aNp (E:=nQ Wg Ch iC cu) (a:=kE.a6) (f:=103) (x:= .tmp 8) (ats:=air kE.a6) ?_ (by kernel_rfl) (by kernel_rfl) (by kernel_rfl) (lN (by kernel_rfl)) (by decide) rfl (by show _ <2;rw[yF];omega) (by show HL zT 200 _ _=_;rw[yF];exact(as3 i (by omega) Wg).choose_spec) xu
   refine qo (hM 1 _) hm5 fun m6 hm6=>?_
   have:=gX hm6
   subst this
   show TT _ _ (.inRegion kE.o7 (0::[1])::_) _ _ _ _ _
   refine azf (hM 1 _) (a:=eV kE.o7 0) (.func (.func 104) ⟨[]⟩ ⟨[pV Wg,pV b3,pV b4,pV b9,pV b5,pV b7]⟩) (by kernel_rfl) (by kernel_rfl) (by decide) rfl<|tGo (E:=nQ Wg Ch iC cu) (oJ K on keep r i) (a:=kE.a7) (f:=104) (y:= .tmp 22) (ca:=[pV Wg,pV b3,pV b4,pV b9,pV b5,pV b7]) (ats:=air kE.a7) [(b9,.cells ⟨[zI (i:Int)]⟩ 3 (0,0))] (by kernel_rfl) (by kernel_rfl) (by kernel_rfl) (by decide) rfl (fun BE Ih Xq=>⟨?_,?_⟩)
   ·have BH:=Sub.trans hs Ih
    have h03:=Sub.trans hl.sub BH
    exact aBg hV (hF.up h03) Cu Ha (fun aF nG=>iL i r Cu aF (Sub.trans h03 nG)) (BH _ _ h3) (BH _ _ h4) (Xq _ (.head _)) (BH _ _ h5) (BH _ _ h7)
   rw[←Oq Cu]
   refine VT (hM 0 _) (aor (hM 0 _) ?_)
   refine qo (hM 0 _) hm3 fun m7 hm7=>?_
   have:=gX hm7
   subst this
   refine vZ au (hM 0 _)<|ja ((i:Int)+1) (by omega)<|zD 2<|xV<|ab9 (hM 0 _)<|tSt (hM 0 _) [(3,pV b3),(4,pV b4),(5,pV b5),(7,pV b7),(8,pV Wg),(17,zI (rows.length:Int)),(18,zI ((i+1:Nat):Int))] [] [] fun rest=>ih (i+1) BE (by omega) (Sub.trans hs Ih) qJ rest
 refine tSt (hM 0 _) [(3,pV b3),(4,pV b4),(5,pV b5),(7,pV b7),(8,pV Wg),(17,zI (rows.length:Int)),(18,zI (((0:Nat)):Int))] [] [] fun rest=>loop rows.length 0 aB (by omega) (Sub.refl _) (fun kF rest pe=>?_) rest
 refine qo (hM 0 _) N8 fun l7 ED=>?_
 show TT _ _ (.inRegion kE.o9 (0::[1])::_) _ _ _ _ _
 refine azf (hM 0 _) (a:=eV kE.o9 0) (.func (.func 106) ⟨[]⟩ ⟨[pV Wg,pV b7]⟩) (by kernel_rfl) (by kernel_rfl) (by decide) rfl<|aq7 (E:=nQ Wg Ch iC cu) (a:=kE.a9) (f:=106) (y:= .tmp 24) (ca:=[pV Wg,pV b7]) (ats:=air kE.a9) [] (by kernel_rfl) (by kernel_rfl) (by kernel_rfl) (by decide) rfl (fun BE Ih _=>?_)
 have BH:=Sub.trans pe Ih
 refine⟨akh (E:=nQ Wg Ch iC cu) (x:=kE.cl) aBm (alC Wg).choose_spec xu (q:=b7) (t:=191) (fz:=(0,0)) (a:=eV kE.cl.q1 0) (y:= .tmp 1) (U:=191) (BH _ _ h7) (by kernel_rfl) (by kernel_rfl) (by kernel_rfl) (by kernel_rfl) (by kernel_rfl) (by kernel_rfl),?_⟩
 refine VT (hC _)<|qo (hC _) ED fun l8 Xo=>?_
 refine vZ au (hC _)<|zD 2<|xV<|qo (hC _) Xo fun l9 hl9=>?_
 refine vZ au (hC _)<|jl (b:=b7) (off:=0) (m:=1) (vs:=[.chan (some Ch)]) 0 ⟨_,_,_,.inl (BH _ _ h7),rfl⟩<|zD 1<|xV<|Lr (hC _) hl9 fun l10 aum=>?_
 refine aoo (hC _) (rest:=[]) rfl fun l11 aul=>?_
 have:=gX aul
 subst this
 have hlen:=qW hV on keep hR
 have recv:∀m (os:List (List aw)) (v:Value) (L1:Cells) (zs:List aw),os.length=m→ax v 8 124 cR zs L1→(zs++os.flatten).Perm (ep K on keep rows)→∀rest,
  TT (TM (nQ Wg Ch iC cu) L (Good zT Post) 0 true os 0) (fr0 76 .normal) ([kE.rb].map .code++(.inLoop kE.rb::(.inBlock 2::(l10.map .code++[])))) (cl::Nu) 35 [] BE (some ⟨.fin .normal,[(10,v),(25,.chan (some Ch))]++rest,[.l L1],⟨[],[]⟩⟩):=by
  intro m
  induction m with
  |zero=>
   intro os v L1 zs tN ho hp rest
   have tN:=List.eq_nil_of_length_eq_zero tN
   subst tN
   refine qo (hC _) aGL fun m1 hm1=>?_
   show TT _ _ (.inRegion kE.Ce (0::[1])::_) _ _ _ _ _
   refine aon (E:=nQ Wg Ch iC cu) (a:=kE.Rx) (rc:= .tmp 25) (z:= zS) hl BH Un (by kernel_rfl) (by kernel_rfl) (fun ρ=>by kernel_rfl) (by decide) rfl (fun a' oo b' v' Y he _=>by simp at he) fun _=>?_
   refine vZ au hT<|zD 2<|xV<|VU hT (t:=false) (q:=false) hm1 rfl fun m2 Fo=>?_
   refine aoq hT (k':=l10.map .code++[]) (by rw[qQ];simp[exitTo]) ?_
   refine qo hT aum fun m3 hm3=>?_
   refine vZ au hT<|zD 1 ?_
   have hp':zs.Perm (ep K on keep rows):=by simpa using hp
   refine jc (vs:=[v,.func (.func 109) ⟨[]⟩ ⟨[]⟩]) [1] (O4 ho (by rw[hp'.length_eq];omega) ((aaK hR).perm hp')) ?_
   rintro _ Y ⟨ys,hys,hoY⟩
   refine zD 1<|xV<|qo hT hm3 fun m4 hm4=>?_
   refine vZ au hT<|zD 3<|xV<|aop hT hm4 fun m5 hm5=>?_
   refine aNl au hT (fn:=(Tryz.prog.funcs[76]?).getD default) v [] [0,1] (Y++((b7,.cells ⟨[.chan (some Ch)]⟩ 191 (0,0))::(b5,.cells ⟨[.func (.func g) ⟨fi⟩ ⟨ca⟩]⟩ 155 (0,0))::(b4,.cells ⟨[.int .u8 on]⟩ 99 (0,0))::(b3,.cells ⟨[pV f]⟩ 94 (0,0))::fr)) (by kernel_rfl)<|hT.mono _ ⟨ro,Y++fr⟩ _ (dY (J:=[(b7,.cells ⟨[.chan (some Ch)]⟩ 191 (0,0)),(b5,.cells ⟨[.func (.func g) ⟨fi⟩ ⟨ca⟩]⟩ 155 (0,0)),(b4,.cells ⟨[.int .u8 on]⟩ 99 (0,0)),(b3,.cells ⟨[pV f]⟩ 94 (0,0))]) ?_ (Sub.refl _)) (kr v _ ⟨v,Y,ys,rfl,rfl,hys.trans hp',hoY⟩)
   rw[List.append_assoc]
   exact .append_left _ (List.perm_append_comm (l₁:=[_,_,_,_]))
  |succ m ih=>
   intro os v L1 zs tN ho hp rest
   refine qo (hC _) aGL fun m1 hm1=>?_
   show TT _ _ (.inRegion kE.Ce (0::[1])::_) _ _ _ _ _
   refine aon (E:=nQ Wg Ch iC cu) (a:=kE.Rx) (rc:= .tmp 25) (z:= zS) hl BH Un (by kernel_rfl) (by kernel_rfl) (fun ρ=>by kernel_rfl) (by decide) rfl (fun a' oo b' v' Y he oQ=>?_) fun he=>by simp[he] at tN
   subst he
   have oQ:ax v' 8 124 cR oo Y:=oQ
   refine vZ au (hC _)<|zD 2<|xV<|VU (hC _) (t:=true) (q:=true) hm1 rfl fun m2 Fo=>?_
   refine aom (hC _)<|Lr (hC _) Fo fun m3 hm3=>?_
   have:=gX hm3
   subst this
   refine qo (hC _) aUK fun m4 hm4=>?_
   refine vZ au (hC _)<|zD 3<|xV<|qo (hC _) hm4 fun m5 hm5=>?_
   have:=gX hm5
   subst this
   refine vZ au (hC _)<|zD 2 ?_
   have RQ:((zs++oo)++(a'++b').flatten).Perm (ep K on keep rows):=(ahq a' oo b' zs).trans hp
   have hlz:zs.length+oo.length≤1250:=by
    have:=RQ.length_eq
    simp only[List.length_append] at this
    omega
   refine jE (sz:=8) (ps:=zs) (qs:=oo) (enc:=cR) (w:=v') [1] [0] Y ho (fun s _ hZ=>oQ.sl hZ) (fun p _=>ai rfl) (by omega) fun v23 L23 za=>zD 2<|xV<|aor (hC _) (ab9 (hC _) ?_)
   exact tSt (hC _) [(10,v23),(25,.chan (some Ch))] [.l L23] [0] fun rest=>ih (a'++b') v23 L23 (zs++oo) (by simp at tN ⊢;omega) za RQ rest
 refine tGe<|tSt (hC _) [(10,zS),(25,.chan (some Ch))] [.l []] [0] fun rest=>recv rows.length (jz K on keep rows rows.length) (zS) [] [] (yF _ _ _ _ _) (ax.nil _ _ _) (by simp[ep]) rest
theorem aes{rows:List bP}{on:Int}{keep:aw→Bool}{ro:Nat→Option Obj}(hV:gh K)(hF:qd ro f K rows)(hR:rows.length≤2)(Ha:BI zT g=true)
 (iL:∀i r,rows[i]?=some r→∀aF,Sub ro aF→∀p∈bU K on,dO zT g (fi++[.agg ⟨cR (cY K r i p)⟩]++ca) aF (.bool (keep (cY K r i p)))):
 EW zT 76 [pV f,.int .u8 on,.func (.func g) ⟨fi⟩ ⟨ca⟩] ro [] (fun v Y=>∃zs,zs.Perm (ep K on keep rows)∧ax v 8 124 cR zs Y):=
 fun fr=>Fn.mono (aBl (fr:=fr) hV hF hR Ha iL) fun en s' ⟨v,Y,zs,h1,h2,h3,h4⟩=>⟨v,Y,h1,by rw[h2];exact St.le_refl _,zs,h3,h4⟩
theorem WV{rows:List bP}{on:Int}{ro:Nat→Option Obj}(hV:gh K)(hF:qd ro f K rows)(hR:rows.length≤2):
 EW zT 40 [pV f,.int .u8 on] ro [] (fun v Y=>∃zs,zs.Perm (ep K on (dA K.gone K.new K.af) rows)∧ax v 8 124 cR zs Y):=by
 refine Ep au [] [] bu fun fr=>zD 10<|Fg (vs:=[pV f,.int .u8 on,.func (.func 73) ⟨[pV f]⟩ ⟨[]⟩]) [] (fun _ _ h=>h) (aes (keep:=dA K.gone K.new K.af) hV hF hR (by kernel_rfl) fun i r hr aF hs p hp=>?_) ?_
 ·obtain⟨c0,c1,c2,vc,vh,vr,vb,va,vf,vt,hv,hf,_⟩:=hF.up hs
  exact aep hf
 rintro v Y ⟨zs,hz,ho⟩
 refine zD 3<|N4 qC v [0,1] Y (Sub.refl _) ⟨zs,hz,ho⟩
theorem awk{x:Int}(h:0≤x∧x≤4):jK x 0 4=true:=by simp only[jK,Bool.and_eq_true,decide_eq_true_eq];omega
theorem adE:rS (bs [97]):=⟨by decide,.inl (by decide)⟩
def aiD(ro:Nat→Option Obj)(v:Value)(W:List (List Int)):Prop:=∃ws,bE ro v 1 gJ ws∧dg (fun w l=>bE ro w 1 cT l) ws W
def qX(ro:Nat→Option Obj)(l:List Value)(W:List (List Int)):Prop:=∀aB,Sub ro aB→eS zT 85 [.agg ⟨l.take 3⟩] aB [] (fun r Y=>∃a n c,r= .tuple ⟨[.slice a n c,zI 0]⟩∧n=W.length∧∀kF,Knows kF Y→aiD kF (.slice a n c) W)
theorem as4{ro:Nat→Option Obj}(hK:gF ro l K)(hO:mH K)(hV:gh K)(hW:1≤W.length∧W.length≤4)(h76:qX ro l W):eS zT 63 [.agg ⟨l⟩] ro [] (fun r Y=>∃a n c,r= .slice a n c∧n=W.length∧∀kF,Knows kF Y→aiD kF r W):=by
 have XE:=hK
 obtain⟨vS,vT,vc,vh,vr,vb,va,vf,fa,fc,hv,rfl,hS,hT,qj,nN,hr,hb,ha,hf⟩:=hK
 obtain⟨iM,hs,fN⟩:=id hS
 obtain⟨jk,ht,fI⟩:=id hT
 obtain⟨hc,hh,DK⟩:=id qj
 have vJ:=hr
 have vx:=hb
 have ha0:=ha
 have hf0:=hf
 obtain⟨mW,S5,S3,lV,rfl,S4,LX,LW⟩:=hs
 obtain⟨fD,AF,AD,eA,rfl,AE,sL,sJ⟩:=ht
 obtain⟨eL,AH,AG,eF,rfl,Dt,yQ,yP⟩:=hc
 obtain⟨dS,vk,vi,dB,rfl,xw,q8,q7⟩:=hh
 obtain⟨lG,Ic,Ib,lF,rfl,NZ,Gc,Gb⟩:=hr
 obtain⟨jV,Pd,Pb,jP,rfl,Pc,N1,N0⟩:=hb
 obtain⟨jC,Mc,Ma,jq,rfl,Mb,JU,JR⟩:=ha
 obtain⟨iA,B5,B4,gR,rfl,IM,xX,xW⟩:=hf
 have CE:=hO.rules
 have q5:=hO.before.1
 have Oa:=hO.after.1
 have N9:=hO.facts.1
 have N8:=hO.ways.1
 have Il:=fN.len
 have ED:=fI.len
 have Xo:=hO.qy.two
 have hl9:=hO.dP.nh
 have NY:∀(i:Nat) (p:cU),([]:List cU)[i]?=some p→cv ⟨ro,[]⟩ 0 (0+i*6) 6 (ny p):=fun _ _ h=>oP h
 have hgl:=hO.y3
 refine bC au [] [] bu<|zD 2<|jn fun b1=>jd 6 [0]<|jc (vs:=[.agg ⟨[.slice mW iM.length lV,.slice fD jk.length eA,.slice fa 0 fc]⟩]) [] (h76 _ (Sub.refl _)) ?_
 rintro _ Y10 ⟨a10,n10,c10,rfl,aRb,aeM⟩
 refine zD 9<|jp (vs:=[zI 0]) [] [] (fun aB hs hZ=>AW)<|zD 10<|zJ 15 ((n10:Int)=0) (fun h1=>?_) fun h1=>?_
 ·
  exfalso;omega
 refine zD 8<|zJ 20 ((n10:Int)>4) (fun h2=>?_) fun h2=>?_
 ·
  exfalso;omega
 refine jd 6 [1]<|jp (vs:=[.agg ⟨[.slice eL K.cs.length eF,.slice dS hv.length dB]⟩]) [] [] (fun aB hs hZ=>aq9 (qj.up hs) nN hV.dP)<|jp (vs:=[zI 0]) [] [] (fun aB hs hZ=>AW)<|jd 5 [1]<|jp (vs:=[.slice lG K.rules.length lF,.string (bs [97]),.string (bs [97])]) [] [] (fun aB hs hZ=>PJ (vJ.up hs) hV.rules.2 hV.rules.1 adE adE)<|zD 8<|jp (vs:=[zI 0]) [] [] (fun aB hs hZ=>AW)<|jd 6 [1,1]<|jp (vs:=[.agg ⟨[.slice mW iM.length lV,.slice fD jk.length eA,.slice fa 0 fc,.slice eL K.cs.length eF,.slice dS hv.length dB,.slice lG K.rules.length lF,.slice jV K.before.length jP,.slice jC K.after.length jq,zI K.gone,zI K.new,zI K.af,.slice iA K.facts.length gR]⟩,.slice jV K.before.length jP,.bool true]) [] [] (fun aB hs hZ=>aem (XE.up hs) hO (vx.up hs))<|jp (vs:=[zI 0]) [] [] (fun aB hs hZ=>AW)<|jd 6 [1,1]<|jp (vs:=[.agg ⟨[.slice mW iM.length lV,.slice fD jk.length eA,.slice fa 0 fc,.slice eL K.cs.length eF,.slice dS hv.length dB,.slice lG K.rules.length lF,.slice jV K.before.length jP,.slice jC K.after.length jq,zI K.gone,zI K.new,zI K.af,.slice iA K.facts.length gR]⟩,.slice jC K.after.length jq,.bool false]) [] [] (fun aB hs hZ=>aen (XE.up hs) hO (ha0.up hs))<|jp (vs:=[zI 0]) [] [] (fun aB hs hZ=>AW)<|jd 6 [1]<|jp (vs:=[zI K.gone,zI 0,zI 4]) [] [] (fun aB hs hZ=>gL)<|zD 2<|jj 5 [(1,zP b1),(2,zS),(3,.slice a10 n10 c10),(56,.bool ((!(jK K.gone 0 4))||(!(jK K.new 0 4))))] (fun gQ=>?_) (fun hj=>?_)
 rotate_left
 refine js 51 (!(jK K.gone 0 4)) (fun h3=>?_) (fun h3=>?_)
 ·
  have wK:=h3
  try simp only[zB] at wK
  refine zD 5<|jw 56 (.bool ((!(jK K.gone 0 4))||(!(jK K.new 0 4)))) (w:= .bool true) (by rw[h3]<;>rfl) ?_
  exact hj _ (by kernel_rfl) (by kernel_rfl)
 ·
  have wK:=h3
  try simp only[zB] at wK
  refine jd 2 [1]<|jp (vs:=[zI K.new,zI 0,zI 4]) [] [] (fun aB hs hZ=>gL)<|zD 2<|jw 56 (.bool ((!(jK K.gone 0 4))||(!(jK K.new 0 4)))) (w:= .bool (!(jK K.new 0 4))) (by rw[h3]<;>rfl) ?_
  exact hj _ (by kernel_rfl) (by kernel_rfl)
 refine zD 1<|jj 5 [(1,zP b1),(2,zS),(3,.slice a10 n10 c10),(62,.bool (((!(jK K.gone 0 4))||(!(jK K.new 0 4)))||(!(jK K.af 0 4))))] (fun gQ=>?_) (fun hj=>?_)
 rotate_left
 refine js 57 ((!(jK K.gone 0 4))||(!(jK K.new 0 4))) (fun h4=>?_) (fun h4=>?_)
 ·
  have yq:=h4
  try simp only[zB] at yq
  refine zD 5<|jw 62 (.bool (((!(jK K.gone 0 4))||(!(jK K.new 0 4)))||(!(jK K.af 0 4)))) (w:= .bool true) (by rw[h4]<;>rfl) ?_
  exact hj _ (by kernel_rfl) (by kernel_rfl)
 ·
  have yq:=h4
  try simp only[zB] at yq
  refine jd 2 [1]<|jp (vs:=[zI K.af,zI 0,zI 4]) [] [] (fun aB hs hZ=>gL)<|zD 2<|jw 62 (.bool (((!(jK K.gone 0 4))||(!(jK K.new 0 4)))||(!(jK K.af 0 4)))) (w:= .bool (!(jK K.af 0 4))) (by rw[h4]<;>rfl) ?_
  exact hj _ (by kernel_rfl) (by kernel_rfl)
 refine zD 1<|js 62 (((!(jK K.gone 0 4))||(!(jK K.new 0 4)))||(!(jK K.af 0 4))) (fun h5=>?_) (fun h5=>?_)
 ·
  try simp only[zB] at h5
  exfalso;simp[awk hgl.1,awk hgl.2.1,awk hgl.2.2] at h5
 try simp only[zB] at h5
 refine jd 10 [1]<|zJ 67 ((K.facts.length:Int)>4) (fun h6=>?_) fun h6=>?_
 ·
  exfalso;omega
 refine jd 11 [1]<|eO [1,1,1,1,1,1,1,1,1,1,1,0,1,0,0] [] (fun(zz:Nat)=>[(1,zP b1),(2,zS),(3,.slice a10 n10 c10),(70,.slice iA K.facts.length gR),(71,zI (K.facts.length:Int)),(72,zI (zz:Int))]) (fun(zz:Nat)=>[.b b1 (.cells ⟨[.slice mW iM.length lV,.slice fD jk.length eA,.slice fa 0 fc,.slice eL K.cs.length eF,.slice dS hv.length dB,.slice lG K.rules.length lF,.slice jV K.before.length jP,.slice jC K.after.length jq,zI K.gone,zI K.new,zI K.af,.slice iA K.facts.length gR]⟩ 38 (0,0)),.l Y10]) (fun(zz:Nat)=>zz≤K.facts.length) (fun(zz:Nat)=>K.facts.length-zz) 0 (by omega) [1,0] ?_
 rintro k hI K1 bG rest
 refine zD 5<|zJ 73 ((k:Int) <(K.facts.length:Int)) (fun h7=>?_) fun h7=>?_
 ·
  refine zD 7 ?_
  obtain⟨x75,TJ⟩:=zG K.facts k
  refine jb gR 3 xX TJ<|jl 0 (xW _ _ TJ)<|jn fun b6=>jd 8 [0,1,1]<|jcH (hi:=(k:Int)) (show bE _ _ _ _ _ from ⟨iA,B5,B4,gR,rfl,IM,xX,xW⟩) (by omega) (fun v81 aQs=>?_)
  obtain⟨aoy,azP,azL,aox,rfl,azN,azO,azM⟩:=aQs
  refine jd 1 [0]<|jp (vs:=[.agg ⟨[.slice mW iM.length lV,.slice fD jk.length eA,.slice fa 0 fc,.slice eL K.cs.length eF,.slice dS hv.length dB,.slice lG K.rules.length lF,.slice jV K.before.length jP,.slice jC K.after.length jq,zI K.gone,zI K.new,zI K.af,.slice iA K.facts.length gR]⟩,.slice aoy ((((K.facts).take (k:Int).toNat)).length) aox,.agg ⟨[zI x75.a,zI x75.b,.bool x75.same]⟩]) [] [] (fun aB hs hZ=>aBk (XE.up hs) hO ((show bE _ _ _ _ _ from ⟨aoy,azP,azL,aox,rfl,azN,azO,azM⟩).up hs) (by simp only[List.length_take,List.length_drop];omega) (hO.facts.2 _ (List.mem_of_getElem? TJ)) (ahv hO.apart TJ)) ?_
  refine jp (vs:=[zI 0]) [] [] (fun aB hs hZ=>AW)<|zD 2<|ja ((k:Int)+1) (by omega)<|zD 2<|bF bG (k+1) (by omega) (by omega) [1,2] (Sub.refl _)
 refine zD 8<|aH q0 (.slice a10 n10 c10) [] [1] Y10 (Sub.refl _) ⟨_,_,rfl,rfl,_,_,_,rfl,aRb,aeM⟩
def lB(ro:Nat→Option Obj)(l:List Value)(K:aP)(rows:List bP):Prop:=∀aB,Sub ro aB→eS zT 34 [.agg ⟨l⟩] aB [] (fun r Y=>∃f,r= .tuple ⟨[pV f,zI 0]⟩∧∀kF,Sub aB kF→Knows kF Y→qd kF f K rows)
def cb(K:aP):Int:=IntKind.u8.wrap (dJ .u8 1 (K.facts.length:Int)-1)
theorem P3{rows:List bP}{ro:Nat→Option Obj}(hV:gh K)(hF:qd ro f K rows):dO zT 37 [pV f] ro (.int .u8 (cb K)):=by
 obtain⟨c0,c1,c2,vc,vh,vr,vb,va,vf,vt,hv,hf,qj,nN,hr,CI,Hf,I8,bO⟩:=hF
 exact aPh I8 hf (by have:=hV.facts.1;omega)
theorem aeh{rows:List bP}{ro:Nat→Option Obj}(hK:gF ro l K)(hV:gh K)(hR:rows.length≤2)(hB:lB ro l K rows):
 EW zT 11 [.agg ⟨l⟩] ro [] (fun r Y=>r= .tuple ⟨[zI ((ep K (cb K) (dA K.gone K.new K.af) rows).length:Int),zI 0]⟩∧Y=[]):=by
 obtain⟨v0,v1,v3,v4,v5,v6,v7,vb,fa,fc,hv,rfl,_⟩:=hK
 refine Ep au [] [] bu fun fr=>zD 2<|jn fun b1=>jd 6 [0]<|jc (vs:=[Value.agg ⟨[v0,v1,.slice fa 0 fc,v3,v4,v5,v6,v7,zI K.gone,zI K.new,zI K.af,vb]⟩]) [] (hB _ (Sub.refl _)) ?_
 rintro _ Y ⟨f,rfl,hF⟩
 refine jf [0] Y (fun aB hs hk=>?_)
 have Jc:=hF aB hs hk
 refine zD 18<|jp (vs:=[pV f]) [] [] (fun BE Ih hZ=>P3 hV (Jc.up Ih))<|Fg (vs:=[pV f,.int .u8 (cb K)]) [] (fun _ _ h=>h) (WV hV Jc hR) ?_
 rintro v Y2 ⟨zs,hz,ho⟩
 obtain⟨a,c,rfl⟩:=ho.form
 refine zD 5<|N4 qC.a (.tuple ⟨[zI (zs.length:Int),zI 0]⟩) [2] [] hs ⟨by rw[hz.length_eq],rfl⟩
theorem nA{on:Int}{keep:aw→Bool}{rows:List bP}{x:aw}(h:x∈ep K on keep rows):∃i r p,rows[i]?=some r∧p∈bU K on∧x=cY K r i p∧keep x=true:=by
 obtain⟨l,hl,hx⟩:=List.mem_flatten.1 h
 obtain⟨i,hi,rfl⟩:=List.mem_map.1 hl
 have hi:=List.mem_range.1 hi
 obtain⟨h1,h2⟩:=List.mem_filter.1 hx
 obtain⟨p,hp,rfl⟩:=List.mem_map.1 h1
 rw[List.getElem?_eq_getElem hi] at h2 ⊢
 exact⟨i,rows[i],p,List.getElem?_eq_getElem hi,hp,rfl,h2⟩
theorem WC(r:bP)(p:Nat→Int):∀k,0≤IY r p k∧IY r p k≤k
 |0=>by simp[IY]
 |k+1=>by
  have:=WC r p k
  simp only[IY]
  cases decide (p k>0)&& !r.c k (p k-1).toNat with
  |true=>simp only[cond_true];omega
  |false=>simp only[cond_false];omega
theorem qg(hV:gh K)(r:bP)(i:Nat)(p:Nat→Int):(-4≤(cY K r i p).gone∧(cY K r i p).gone≤4)∧(-4≤(cY K r i p).new∧(cY K r i p).new≤4)∧(0≤(cY K r i p).af∧(cY K r i p).af≤4):=by
 have h1:=Wj p
 have h2:=WC r p 4
 have h3:=hV.before.1
 have h4:=hV.after.1
 simp only[cY]
 omega
def FU(x:aw):Int:=x.gone+x.new+x.af
theorem asX{rows:List bP}{ro:Nat→Option Obj}(hK:gF ro l K)(hV:gh K)(hR:rows.length≤2)(hB:lB ro l K rows):EW zT 44 [.agg ⟨l⟩] ro [] (fun r Y=>∃zs,zs.Perm (ep K (cb K) (fun _=>true) rows)∧Y=[]∧((zs=[]∧r= .tuple ⟨[zI 0,zI 9]⟩)∨(zs≠[]∧r= .tuple ⟨[zI (vq (zs.map FU)),zI 0]⟩))):=by
 obtain⟨v0,v1,v3,v4,v5,v6,v7,vb,fa,fc,hv,rfl,_⟩:=hK
 refine Ep au [] [] bu fun fr=>zD 2<|jn fun b1=>jd 6 [0]<|jc (vs:=[.agg ⟨[v0,v1,.slice fa 0 fc,v3,v4,v5,v6,v7,zI K.gone,zI K.new,zI K.af,vb]⟩]) [] (hB _ (Sub.refl _)) ?_
 rintro _ Y12 ⟨f12,rfl,aTY⟩
 refine zD 5<|jf [0] Y12 (fun BE cd jW=>?_)
 have Jc:=aTY _ cd jW
 refine zD 13<|jp (vs:=[zP f12]) [] [] (fun aB hs hZ=>P3 hV (Jc.up hs))<|Fg (vs:=[zP f12,.int .u8 (cb K),.func (.func 81) ⟨[]⟩ ⟨[]⟩]) [] (fun _ _ h=>h) (aes (keep:=fun _=>true) hV Jc hR (by kernel_rfl) (fun i r hr aF hs p hp=>alz)) ?_
 rintro v21 Y21 ⟨zs,alO,aCq⟩
 have aeT:∀x∈zs,(-4≤x.gone∧x.gone≤4)∧(-4≤x.new∧x.new≤4)∧(0≤x.af∧x.af≤4):=fun x hx=>by obtain⟨i,r,p,_,_,rfl,_⟩:=nA (alO.mem_iff.1 hx);exact qg hV r i p
 have hzl:zs.length≤1250:=by rw[alO.length_eq];exact qW hV _ _ hR
 refine zD 6<|Fe aCq<|zD 1<|jf [0] Y21 (fun ro6 lL hk5=>?_)
 have hZ1:=aCq.lR hk5
 obtain⟨vo,Tb,S9,s9,rfl,Ta,Mf,Me⟩:=hZ1
 refine zD 1<|zJ 24 ((zs.length:Int)=0) (fun h7=>?_) fun h7=>?_
 ·
  refine zD 7<|N4 qC.a.a (.tuple ⟨[zI 0,zI 9]⟩) [1] [] (cd.trans lL) ⟨zs,alO,rfl,.inl ⟨List.eq_nil_of_length_eq_zero (by omega),rfl⟩⟩
 refine zD 14<|py<|eO [1,1,1,1,1,1,0,1,0,0] [] (fun(zz:Nat×Value×Cells)=>[(2,zI 0),(3,zI 0),(7,zz.2.1),(25,.slice vo zs.length s9),(26,zI (zs.length:Int)),(27,zI (zz.1:Int))]) (fun(zz:Nat×Value×Cells)=>[.l zz.2.2,.b b1 (.cells ⟨[v0,v1,.slice fa 0 fc,v3,v4,v5,v6,v7,zI K.gone,zI K.new,zI K.af,vb]⟩ 38 (0,0)),.l fr]) (fun(zz:Nat×Value×Cells)=>zz.1≤zs.length∧ax zz.2.1 1 3 cT ((zs.take zz.1).map FU) zz.2.2) (fun(zz:Nat×Value×Cells)=>zs.length-zz.1) (⟨0,zS,[]⟩) ⟨by dsimp only;omega,ax.nil _ _ _⟩ [0,1,2] ?_
 rintro⟨k,vS,LS⟩ hI K1 bG rest
 dsimp only at hI
 refine zD 5<|zJ 28 ((k:Int) <(zs.length:Int)) (fun h8=>?_) fun h8=>?_
 ·
  refine zD 6 ?_
  obtain⟨D6,AX⟩:=zG zs k
  refine jb s9 8 Mf AX<|jl 0 (Me _ _ AX)<|jn fun b9=>jd 2 [0] ?_
  have hg:=aeT _ (List.mem_of_getElem? AX)
  refine jd 6 [0,0]<|ja (D6.gone+D6.new) (by omega)<|jd 2 [0]<|ja ((D6.gone+D6.new)+D6.af) (by omega)<|jn fun dE=>jE (sz:=1) (ps:=((zs.take k).map FU)) (qs:=[((D6.gone+D6.new)+D6.af)]) (enc:=cT) (w:= .slice (some ⟨dE,0,none⟩) 1 1) [2] [0] [(dE,.cells ⟨([((D6.gone+D6.new)+D6.af)].map cT).flatten⟩ 3 (0,0))] (hI.2) (fun s _ hZ=>bS [((D6.gone+D6.new)+D6.af)] (hZ _ (.head _)) (by intro p hp;rfl)) (fun p _=>ai rfl) (by simp only[List.length_map,List.length_take,List.length_cons,List.length_nil];omega) (fun v41 L41 afb=>?_)
  obtain⟨abN,abG,afS⟩:=afb.form
  subst afS
  refine zD 3<|ja ((k:Int)+1) (by omega)<|zD 2<|bF bG (⟨k+1,(.slice abN ((((zs.take k).map FU)++[((D6.gone+D6.new)+D6.af)])).length abG),L41⟩) ⟨by dsimp only;omega,by rw[jU AX,List.map_append];exact afb⟩ (by dsimp only;omega) [0,3,4] (Sub.refl _)
 refine zD 5<|jp (vs:=[vS]) [0] LS (fun aB hs hZ=>aoV (hI.2.lR hZ) ⟨by simp only[List.length_map,List.length_take];omega,by simp only[List.length_map,List.length_take];omega⟩) ?_
 refine zD 5<|N4 qC.a.a (.tuple ⟨[zI (vq ((zs.take k).map FU)),zI 0]⟩) [2] [] (cd.trans lL) ⟨zs,alO,rfl,.inr ⟨fun e=>by subst e;simp at*,by rw[show k=zs.length by omega,List.take_length]⟩⟩
def Bm(ways:List (List aM))(w:List Int):List (List aM):=List.zipWith (fun l n=>(l.take (n.toNat+1)).drop n.toNat) ways w
theorem am5{ways:List (List aM)}{w:List Int}{l:List aM}{n:Int}(h1:ways[k]?=some l) (h2:w[k]?=some n):(Bm ways w)[k]?=some ((l.take (n.toNat+1)).drop n.toNat):=by
 simp only[Bm,List.getElem?_zipWith,h1,h2]
def mo(K:aP)(q9:List Int→aI→List ak)(w:List Int):bP:=⟨fun i j=>match K.before[i]?,K.after[j]? with
 |some x,some y=>decide (cX (pK y.st y.no 0) (q9 w x) 0≥0)
 |_,_=>false⟩
def ET(F:Nat→Nat→Bool)(i j:Nat)(r:bP):Prop:=∀x y,r.c x y=((decide (x <i)||(decide (x=i)&&decide (y <j)))&&F x y)
theorem ET.set{r:bP}(h:ET F i j r):ET F i (j+1) (jA r i j (F i j)):=fun x y=>by
 simp only[jA]
 split
 ·rename_i hx;obtain⟨rfl,rfl⟩:=hx;simp
 rename_i hx
 rw[h x y]
 congr 2
 by_cases e:x=i
 ·subst e
  have:y≠j:=fun e2=>hx ⟨rfl,e2⟩
  simp only[decide_true,Bool.true_and]
  congr 1
  exact propext (by omega)
 simp[e]
theorem ET.nxt{r:bP}(hF:∀x y,n≤y→F x y=false)(h:ET F i n r):ET F (i+1) 0 r:=fun x y=>by
 rw[h x y]
 by_cases hy:y <n
 ·congr 1
  simp only[hy,decide_true,Bool.and_true,Nat.not_lt_zero,decide_false,Bool.and_false,Bool.or_false]
  rw[Bool.eq_iff_iff];simp;omega
 rw[hF x y (by omega)];simp
theorem ET.fin{r:bP}(hF:∀x y,n≤x→F x y=false)(h:ET F n 0 r):r=⟨F⟩:=by
 rcases r with ⟨c⟩
 congr 1
 funext x y
 have:=h x y
 dsimp only at this
 rw[this]
 by_cases hx:x <n
 ·simp[hx]
 rw[hF x y (by omega)];simp
theorem arl{q9:List Int→aI→List ak}{w:List Int}(x y:Nat)(h:K.before.length≤x):(mo K q9 w).c x y=false:=by simp only[mo,List.getElem?_eq_none h]
theorem ark{q9:List Int→aI→List ak}{w:List Int}(x y:Nat)(h:K.after.length≤y):(mo K q9 w).c x y=false:=by
 simp only[mo,List.getElem?_eq_none h]
 split
 ·rename_i h1;cases h1
 rfl
structure Vj(K:aP)(W:List (List Int)):Prop where
 n:1≤W.length∧W.length≤2
 len:∀w∈W,w.length=K.ways.length
 rng:∀w∈W,∀(k:Nat) (l:List aM) (n:Int),K.ways[k]?=some l→w[k]?=some n→0≤n∧n <l.length
def xP(ro:Nat→Option Obj)(l:List Value)(K:aP)(W:List (List Int))(q9:List Int→aI→List ak):Prop:=∀w∈W,∀x∈K.before,(q9 w x).length≤1000∧∀aB,Sub ro aB→∀v vS vT vU r,l=vS::vT::vU::r→ou aB v (Bm K.ways w)→
 eS zT 64 [.agg ⟨[vS,v,vU]⟩,.agg ⟨[zI x.st,zI x.no,zI 0]⟩] aB [] (fun r Y=>∃a n c,r= .tuple ⟨[.slice a n c,zI 0]⟩∧∀kF,Knows kF Y→bE kF (.slice a n c) 3 cF (q9 w x))
theorem as5{q9:List Int→aI→List ak}{ro:Nat→Option Obj}(hK:gF ro l K)(hO:mH K)(hV:gh K)(hW:Vj K W)(h76:qX ro l W)(h47:xP ro l K W q9):eS zT 34 [.agg ⟨l⟩] ro [] (fun r Y=>∃f,r= .tuple ⟨[pV f,zI 0]⟩∧∀kF,Sub ro kF→Knows kF Y→qd kF f K (W.map (mo K q9))):=by
 have XE:=hK
 obtain⟨vS,vT,vc,vh,vr,vb,va,vf,fa,fc,hv,rfl,hS,hT,qj,nN,hr,hb,ha,hf⟩:=hK
 obtain⟨iM,hs,fN⟩:=id hS
 obtain⟨jk,ht,fI⟩:=id hT
 obtain⟨hc,hh,DK⟩:=id qj
 have vJ:=hr
 have vx:=hb
 have ha0:=ha
 have hf0:=hf
 obtain⟨mW,S5,S3,lV,rfl,S4,LX,LW⟩:=hs
 obtain⟨fD,AF,AD,eA,rfl,AE,sL,sJ⟩:=ht
 obtain⟨eL,AH,AG,eF,rfl,Dt,yQ,yP⟩:=hc
 obtain⟨dS,vk,vi,dB,rfl,xw,q8,q7⟩:=hh
 obtain⟨lG,Ic,Ib,lF,rfl,NZ,Gc,Gb⟩:=hr
 obtain⟨jV,Pd,Pb,jP,rfl,Pc,N1,N0⟩:=hb
 obtain⟨jC,Mc,Ma,jq,rfl,Mb,JU,JR⟩:=ha
 obtain⟨iA,B5,B4,gR,rfl,IM,xX,xW⟩:=hf
 have CE:=hO.rules
 have q5:=hO.before.1
 have Oa:=hO.after.1
 have N9:=hO.facts.1
 have N8:=hO.ways.1
 have Il:=fN.len
 have ED:=fI.len
 have Xo:=hO.qy.two
 have hl9:=hO.dP.nh
 have NY:∀(i:Nat) (p:cU),([]:List cU)[i]?=some p→cv ⟨ro,[]⟩ 0 (0+i*6) 6 (ny p):=fun _ _ h=>oP h
 have hWn:=hW.n
 refine aPk au 62 [] [] bu<|zD 2<|jn fun b1=>jn fun b2=>jn fun b3=>zD 4<|jdf (f:=62) (ca:=[zP b2,zP b3])<|jd 5 [2]<|jn fun H0=>jd 6 [2,3]<|jc (vs:=[.agg ⟨[.slice mW iM.length lV,.slice fD jk.length eA,.slice fa 0 fc,.slice eL K.cs.length eF,.slice dS hv.length dB,.slice lG K.rules.length lF,.slice jV K.before.length jP,.slice jC K.after.length jq,zI K.gone,zI K.new,zI K.af,.slice iA K.facts.length gR]⟩]) [] (as4 XE hO hV ⟨hW.n.1,by have:=hW.n.2;omega⟩ h76) ?_
 rintro _ Y21 ⟨a21,n21,c21,rfl,beR,alW⟩
 refine zD 2<|jf [0] Y21 (fun BE cd jW=>?_)
 obtain⟨wsW,hWs,apv⟩:=alW _ jW
 obtain⟨qWa,qWb,qWo,qWc,heW,qWk,qWh,qWl⟩:=hWs
 simp only[Value.slice.injEq] at heW
 obtain⟨rfl,rfl,rfl⟩:=heW
 have hlW:=apv.len
 refine zD 2<|py<|eO [1,1,1,0,1,0,0] [] (fun(zz:Nat×Value×Cells)=>[(1,zP b1),(2,zP b2),(3,zP b3),(21,.slice a21 wsW.length c21),(22,zI (wsW.length:Int)),(23,zI (zz.1:Int))]) (fun(zz:Nat×Value×Cells)=>[.l zz.2.2,.b H0 (.cells ⟨[.slice mW iM.length lV,.slice fD jk.length eA,.slice fa 0 fc,.slice eL K.cs.length eF,.slice dS hv.length dB,.slice lG K.rules.length lF,.slice jV K.before.length jP,.slice jC K.after.length jq,zI K.gone,zI K.new,zI K.af,.slice iA K.facts.length gR,zz.2.1]⟩ 116 (0,0)),.b b1 (.cells ⟨[.slice mW iM.length lV,.slice fD jk.length eA,.slice fa 0 fc,.slice eL K.cs.length eF,.slice dS hv.length dB,.slice lG K.rules.length lF,.slice jV K.before.length jP,.slice jC K.after.length jq,zI K.gone,zI K.new,zI K.af,.slice iA K.facts.length gR]⟩ 38 (0,0)),.b b2 (.cells ⟨[zP H0]⟩ 94 (0,0)),.b b3 (.cells ⟨[zI 0]⟩ 42 (0,0))]) (fun(zz:Nat×Value×Cells)=>zz.1≤wsW.length∧ax zz.2.1 16 139 C2 ((W.take zz.1).map (mo K q9)) zz.2.2) (fun(zz:Nat×Value×Cells)=>wsW.length-zz.1) (⟨0,zS,[]⟩) ⟨by dsimp only;omega,ax.nil _ _ _⟩ [0,1,4,3,2] ?_
 rintro⟨k,vR,LR⟩ hI K1 bG rest
 dsimp only at hI
 refine zD 5<|zJ 24 ((k:Int) <(wsW.length:Int)) (fun h4=>?_) fun h4=>?_
 ·
  refine zD 6 ?_
  obtain⟨yD,ma⟩:=zG wsW k
  refine jb c21 1 qWh ma ?_
  obtain⟨wB,aCR,h26⟩:=apv.get ma
  obtain⟨aOe,bcY,bcW,aAh,rfl,bcX,aOd,aOc⟩:=h26
  refine jl 0 (qWl _ _ ma)<|zD 3 ?_
  have hwm:=List.mem_of_getElem? aCR
  have hwl:=hW.len _ hwm
  refine jd 8 [2,2]<|jn fun b6=>jd 10 [0]<|py<|eO [1,1,1,0,1,0,0,1,1,0,0,1,1,0,1,0,0] [K1] (fun(zz:Nat×Value×Cells×(List Value))=>[(1,zP b1),(2,zP b2),(3,zP b3),(6,zP b6),(21,.slice a21 wsW.length c21),(22,zI (wsW.length:Int)),(23,zI (k:Int)),(34,.slice aOe wB.length aAh),(35,zI (wB.length:Int)),(36,zI (zz.1:Int))]) (fun(zz:Nat×Value×Cells×(List Value))=>[.l zz.2.2.1,.b b6 (.cells ⟨[.slice mW iM.length lV,zz.2.1,.slice fa 0 fc]⟩ 29 (0,0)),.l LR,.b H0 (.cells ⟨[.slice mW iM.length lV,.slice fD jk.length eA,.slice fa 0 fc,.slice eL K.cs.length eF,.slice dS hv.length dB,.slice lG K.rules.length lF,.slice jV K.before.length jP,.slice jC K.after.length jq,zI K.gone,zI K.new,zI K.af,.slice iA K.facts.length gR,vR]⟩ 116 (0,0)),.b b1 (.cells ⟨[.slice mW iM.length lV,.slice fD jk.length eA,.slice fa 0 fc,.slice eL K.cs.length eF,.slice dS hv.length dB,.slice lG K.rules.length lF,.slice jV K.before.length jP,.slice jC K.after.length jq,zI K.gone,zI K.new,zI K.af,.slice iA K.facts.length gR]⟩ 38 (0,0)),.b b2 (.cells ⟨[zP H0]⟩ 94 (0,0)),.b b3 (.cells ⟨[zI 0]⟩ 42 (0,0))]) (fun(zz:Nat×Value×Cells×(List Value))=>(zz.1≤wB.length∧zz.2.2.2.length=zz.1)∧ax zz.2.1 1 78 gJ zz.2.2.2 zz.2.2.1∧dg (fun w l=>bE BE w 7 lj l) zz.2.2.2 ((Bm K.ways wB).take zz.1)) (fun(zz:Nat×Value×Cells×(List Value))=>wB.length-zz.1) (⟨0,zS,[],[]⟩) ⟨⟨by dsimp only;omega,rfl⟩,ax.nil _ _ _,(by simp only[List.take_zero];exact dg.nil)⟩ [0,1,2,3,4,5,6] ?_
  rintro⟨j,vT,LT,es⟩ hJ K2 mg rest
  dsimp only at hJ
  refine zD 5<|zJ 37 ((j:Int) <(wB.length:Int)) (fun h5=>?_) fun h5=>?_
  ·
   refine zD 7 ?_
   obtain⟨E3,x3⟩:=zG wB j
   refine jb aAh 1 aOd x3<|jl 0 (aOc _ _ x3)<|jd 10 [1,4] ?_
   obtain⟨x47,TK⟩:=zG jk j
   refine jb eA 1 sL TK<|zD 1 ?_
   obtain⟨l49,aug,h49⟩:=fI.get TK
   obtain hwr:=hW.rng _ hwm _ _ _ aug x3
   obtain beW:=(hO.ways.2 _ (List.mem_of_getElem? aug)).1.2
   obtain⟨aN5,aN4,aNZ,aN3,rfl,aN1,aN2,aN0⟩:=h49
   refine jl 0 ((sJ _ _ TK).ext (uB cd))<|zD 2<|ja (E3+1) (by omega)<|jcB (lo:=E3) (hi:=(E3+1)) ((show bE _ _ _ _ _ from ⟨aN5,aN4,aNZ,aN3,rfl,aN1,aN2,aN0⟩).up cd) (by omega) (fun v53 wG=>?_)
   obtain⟨JO,azU,azQ,JN,rfl,azS,azT,azR⟩:=wG
   refine zD 1<|aD 14 fun rZ r8 qL=>jn fun b55=>ba qL [1,2,3,4,5,6,7]<|aD 15 fun sN sU ri=>jE (sz:=1) (ps:=es) (qs:=[(.slice JO (((((l49).take (E3+1).toNat).drop E3.toNat)).length) JN:Value)]) (enc:=gJ) (w:= .slice (some ⟨b55,0,none⟩) 1 1) [1] [0] [(b55,.cells ⟨([(.slice JO (((((l49).take (E3+1).toNat).drop E3.toNat)).length) JN:Value)].map gJ).flatten⟩ 78 (0,0))] (hJ.2.1) (fun s _ hZ=>bS [(.slice JO (((((l49).take (E3+1).toNat).drop E3.toNat)).length) JN:Value)] (hZ _ (.head _)) (by intro p hp;rfl)) (by intro p hp;rw[List.mem_singleton] at hp;subst hp;exact ai rfl) (by simp<;>omega) (fun v56 L56 qH=>?_)
   obtain⟨Ow,Ou,Uc⟩:=qH.form
   subst Uc
   refine iB ri [[],[5]]<|zD 1<|aD 17 fun Aj Av A5=>jd 1 [2]<|cw A5<|zD 2<|ja ((j:Int)+1) (by omega)<|zD 2<|bF mg (⟨j+1,(.slice Ow ((es++[(.slice JO (((((l49).take (E3+1).toNat).drop E3.toNat)).length) JN:Value)])).length Ou),L56,(es++[(.slice JO (((((l49).take (E3+1).toNat).drop E3.toNat)).length) JN:Value)])⟩) ⟨⟨by dsimp only;omega,by simp only[List.length_append,List.length_cons,List.length_nil];omega⟩,qH,by rw[jU (am5 aug x3)];exact hJ.2.2.snoc (by rw[show E3.toNat+1=(E3+1).toNat by omega];exact⟨JO,azU,azQ,JN,rfl,azS,azT,azR⟩)⟩ (by dsimp only;omega) [0,2,3,4,5,6,7] (Sub.refl _)
  refine zD 3 ?_
  have hS6:dg (fun w l=>bE BE w 7 lj l) es (Bm K.ways wB):=by have:=hJ.2.2;rwa[List.take_of_length_le (by simp only[Bm,List.length_zipWith];omega)] at this
  refine zD 1<|jn fun b9=>jd 10 [5]<|eO [1,1,1,0,1,0,0,1,1,0,0,1,1,1,1,0,1,0,0] [K1] (fun(zz:Nat×bP)=>[(1,zP b1),(2,zP b2),(3,zP b3),(6,zP b6),(9,zP b9),(21,.slice a21 wsW.length c21),(22,zI (wsW.length:Int)),(23,zI (k:Int)),(60,.slice jV K.before.length jP),(61,zI (K.before.length:Int)),(62,zI (zz.1:Int))]) (fun(zz:Nat×bP)=>[.b b9 (.cells ⟨[.bool (zz.2.c 0 0),.bool (zz.2.c 0 1),.bool (zz.2.c 0 2),.bool (zz.2.c 0 3),.bool (zz.2.c 1 0),.bool (zz.2.c 1 1),.bool (zz.2.c 1 2),.bool (zz.2.c 1 3),.bool (zz.2.c 2 0),.bool (zz.2.c 2 1),.bool (zz.2.c 2 2),.bool (zz.2.c 2 3),.bool (zz.2.c 3 0),.bool (zz.2.c 3 1),.bool (zz.2.c 3 2),.bool (zz.2.c 3 3)]⟩ 139 (0,0)),.l LT,.b b6 (.cells ⟨[.slice mW iM.length lV,vT,.slice fa 0 fc]⟩ 29 (0,0)),.l LR,.b H0 (.cells ⟨[.slice mW iM.length lV,.slice fD jk.length eA,.slice fa 0 fc,.slice eL K.cs.length eF,.slice dS hv.length dB,.slice lG K.rules.length lF,.slice jV K.before.length jP,.slice jC K.after.length jq,zI K.gone,zI K.new,zI K.af,.slice iA K.facts.length gR,vR]⟩ 116 (0,0)),.b b1 (.cells ⟨[.slice mW iM.length lV,.slice fD jk.length eA,.slice fa 0 fc,.slice eL K.cs.length eF,.slice dS hv.length dB,.slice lG K.rules.length lF,.slice jV K.before.length jP,.slice jC K.after.length jq,zI K.gone,zI K.new,zI K.af,.slice iA K.facts.length gR]⟩ 38 (0,0)),.b b2 (.cells ⟨[zP H0]⟩ 94 (0,0)),.b b3 (.cells ⟨[zI 0]⟩ 42 (0,0))]) (fun(zz:Nat×bP)=>zz.1≤K.before.length∧ET (mo K q9 wB).c zz.1 0 zz.2) (fun(zz:Nat×bP)=>K.before.length-zz.1) (⟨0,⟨fun _ _=>false⟩⟩) ⟨by dsimp only;omega,fun x y=>by simp⟩ [0,1,2,3,4,5,6,7] ?_
  rintro⟨i,r⟩ hQ K6 hK6 rest
  dsimp only at hQ
  refine zD 5<|zJ 63 ((i:Int) <(K.before.length:Int)) (fun h9=>?_) fun h9=>?_
  ·
   refine zD 7 ?_
   obtain⟨Ok,aeC⟩:=zG K.before i
   refine jb jP 5 N1 aeC<|jl 0 ((N0 _ _ aeC).ext (uB cd))<|jn fun Sa=>jd 7 [0,3,0]<|jp (vs:=[.agg ⟨[.string Ok.name,zI Ok.st,zI Ok.no,zI Ok.head,.bool Ok.bold]⟩]) [] [] (fun aB hs hZ=>W0)<|aD 3 fun abg abY QG=>jcL (vs:=[.agg ⟨[.slice mW iM.length lV,vT,.slice fa 0 fc]⟩,.agg ⟨[zI Ok.st,zI Ok.no,zI 0]⟩]) [] [2] LT (fun aB hs hZ=>(h47 _ hwm _ (List.mem_of_getElem? aeC)).2 _ (cd.trans hs) _ _ _ _ _ rfl ⟨_,hJ.2.1.lR hZ,hS6.imp fun _ _ k=>k.up hs⟩) ?_
   rintro _ Y71 ⟨a71,n71,c71,rfl,aP3⟩
   refine ba QG [1,2,3,4,5,6,7,8,9]<|zD 9<|jp (vs:=[zI 0]) [] [] (fun aB hs hZ=>AW)<|jf [0] Y71 (fun bcj aB0 aRC=>?_)
   obtain⟨qPa,qPb,qPo,qPc,heP,qPk,qPh,qPl⟩:=aP3 _ aRC
   simp only[Value.slice.injEq] at heP
   obtain⟨rfl,rfl,rfl⟩:=heP
   refine jd 9 [6]<|eO [1,1,1,0,1,0,0,1,1,0,0,1,1,1,1,0,1,0,0,1,1,0,0,1,1,1,1,0,0] [K1,K6] (fun(zz:Nat×bP)=>[(1,zP b1),(2,zP b2),(3,zP b3),(6,zP b6),(9,zP b9),(10,zI (i:Int)),(12,.slice a71 ((q9 wB Ok).length) c71),(21,.slice a21 wsW.length c21),(22,zI (wsW.length:Int)),(23,zI (k:Int)),(60,.slice jV K.before.length jP),(61,zI (K.before.length:Int)),(62,zI (i:Int)),(77,.slice jC K.after.length jq),(78,zI (K.after.length:Int)),(79,zI (zz.1:Int))]) (fun(zz:Nat×bP)=>[.b b9 (.cells ⟨[.bool (zz.2.c 0 0),.bool (zz.2.c 0 1),.bool (zz.2.c 0 2),.bool (zz.2.c 0 3),.bool (zz.2.c 1 0),.bool (zz.2.c 1 1),.bool (zz.2.c 1 2),.bool (zz.2.c 1 3),.bool (zz.2.c 2 0),.bool (zz.2.c 2 1),.bool (zz.2.c 2 2),.bool (zz.2.c 2 3),.bool (zz.2.c 3 0),.bool (zz.2.c 3 1),.bool (zz.2.c 3 2),.bool (zz.2.c 3 3)]⟩ 139 (0,0)),.b Sa (.cells ⟨[.string Ok.name,zI Ok.st,zI Ok.no,zI Ok.head,.bool Ok.bold]⟩ 86 (0,0)),.l LT,.b b6 (.cells ⟨[.slice mW iM.length lV,vT,.slice fa 0 fc]⟩ 29 (0,0)),.l LR,.b H0 (.cells ⟨[.slice mW iM.length lV,.slice fD jk.length eA,.slice fa 0 fc,.slice eL K.cs.length eF,.slice dS hv.length dB,.slice lG K.rules.length lF,.slice jV K.before.length jP,.slice jC K.after.length jq,zI K.gone,zI K.new,zI K.af,.slice iA K.facts.length gR,vR]⟩ 116 (0,0)),.b b1 (.cells ⟨[.slice mW iM.length lV,.slice fD jk.length eA,.slice fa 0 fc,.slice eL K.cs.length eF,.slice dS hv.length dB,.slice lG K.rules.length lF,.slice jV K.before.length jP,.slice jC K.after.length jq,zI K.gone,zI K.new,zI K.af,.slice iA K.facts.length gR]⟩ 38 (0,0)),.b b2 (.cells ⟨[zP H0]⟩ 94 (0,0)),.b b3 (.cells ⟨[zI 0]⟩ 42 (0,0))]) (fun(zz:Nat×bP)=>zz.1≤K.after.length∧ET (mo K q9 wB).c i zz.1 zz.2) (fun(zz:Nat×bP)=>K.after.length-zz.1) (⟨0,r⟩) ⟨by dsimp only;omega,hQ.2⟩ [1,0,2,3,4,5,6,7,8] ?_
   rintro⟨j,r⟩ hU K8 hK8 rest
   dsimp only at hU
   refine zD 5<|zJ 80 ((j:Int) <(K.after.length:Int)) (fun h14=>?_) fun h14=>?_
   ·
    refine zD 7 ?_
    obtain⟨E1,TH⟩:=zG K.after j
    refine jb jq 5 JU TH<|jl 0 ((JR _ _ TH).ext (uB (cd.trans aB0)))<|jn fun mT=>jd 3 [0] ?_
    have hRW:(mo K q9 wB).c i j=decide (cX (pK E1.st E1.no 0) (q9 wB Ok) 0≥0):=by simp only[mo,aeC,TH]
    refine jd 5 [0]<|Ig (b:=b9) (off:=0) (len:=4) (sz:=4) (i:Int) (by omega)<|jp (vs:=[.agg ⟨[.string E1.name,zI E1.st,zI E1.no,zI E1.head,.bool E1.bold]⟩]) [] [] (fun aB hs hZ=>W0)<|jp (vs:=[.slice a71 ((q9 wB Ok).length) c71,.agg ⟨[zI E1.st,zI E1.no,zI 0]⟩]) [] [] (fun aB hs hZ=>Kk ((show bE _ _ _ _ _ from ⟨a71,qPb,qPo,c71,rfl,qPk,qPh,qPl⟩).up hs) (h47 _ hwm _ (List.mem_of_getElem? aeC)).1)<|Ig (b:=b9) (off:=0+(i:Int).toNat*4) (len:=4) (sz:=1) (j:Int) (by omega)<|aD 8 fun Ys YG Uo=>yh 1 b9 (0+(i:Int).toNat*4+(j:Int).toNat*1) [.bool (r.c 0 0),.bool (r.c 0 1),.bool (r.c 0 2),.bool (r.c 0 3),.bool (r.c 1 0),.bool (r.c 1 1),.bool (r.c 1 2),.bool (r.c 1 3),.bool (r.c 2 0),.bool (r.c 2 1),.bool (r.c 2 2),.bool (r.c 2 3),.bool (r.c 3 0),.bool (r.c 3 1),.bool (r.c 3 2),.bool (r.c 3 3)] [.bool (decide (cX (pK E1.st E1.no 0) (q9 wB Ok) 0≥0))] 139 (by intro v hv;rw[List.mem_singleton] at hv;subst hv;rfl) (V7 (r:=r) (by omega) (by omega)) ?_
    refine jmw 0 [.b b9 (.cells ⟨[.bool ((jA r i j ((mo K q9 wB).c i j)).c 0 0),.bool ((jA r i j ((mo K q9 wB).c i j)).c 0 1),.bool ((jA r i j ((mo K q9 wB).c i j)).c 0 2),.bool ((jA r i j ((mo K q9 wB).c i j)).c 0 3),.bool ((jA r i j ((mo K q9 wB).c i j)).c 1 0),.bool ((jA r i j ((mo K q9 wB).c i j)).c 1 1),.bool ((jA r i j ((mo K q9 wB).c i j)).c 1 2),.bool ((jA r i j ((mo K q9 wB).c i j)).c 1 3),.bool ((jA r i j ((mo K q9 wB).c i j)).c 2 0),.bool ((jA r i j ((mo K q9 wB).c i j)).c 2 1),.bool ((jA r i j ((mo K q9 wB).c i j)).c 2 2),.bool ((jA r i j ((mo K q9 wB).c i j)).c 2 3),.bool ((jA r i j ((mo K q9 wB).c i j)).c 3 0),.bool ((jA r i j ((mo K q9 wB).c i j)).c 3 1),.bool ((jA r i j ((mo K q9 wB).c i j)).c 3 2),.bool ((jA r i j ((mo K q9 wB).c i j)).c 3 3)]⟩ 139 (0,0))] (L:=[(b9,.cells ⟨dI [.bool (r.c 0 0),.bool (r.c 0 1),.bool (r.c 0 2),.bool (r.c 0 3),.bool (r.c 1 0),.bool (r.c 1 1),.bool (r.c 1 2),.bool (r.c 1 3),.bool (r.c 2 0),.bool (r.c 2 1),.bool (r.c 2 2),.bool (r.c 2 3),.bool (r.c 3 0),.bool (r.c 3 1),.bool (r.c 3 2),.bool (r.c 3 3)] (0+(i:Int).toNat*4+(j:Int).toNat*1) [.bool (decide (cX (pK E1.st E1.no 0) (q9 wB Ok) 0≥0))]⟩ 139 (0,0))]) (by rw[V5 (by omega) (by omega),hRW];rfl) ?_
    refine iB Uo []<|zD 2<|ja ((j:Int)+1) (by omega)<|zD 2<|bF hK8 (⟨j+1,(jA r i j ((mo K q9 wB).c i j))⟩) ⟨by dsimp only;omega,hU.2.set⟩ (by dsimp only;omega) [0,2,3,4,5,6,7,8,9] (Sub.refl _)
   refine zD 3<|ja ((i:Int)+1) (by omega)<|zD 2<|bF hK6 (⟨i+1,r⟩) ⟨by dsimp only;omega,ET.nxt (fun x y h=>ark x y h) (by have:=hU.2;rwa[show j=K.after.length by omega] at this)⟩ (by dsimp only;omega) [0,2,3,4,5,6,7,8] aB0
  refine jd 9 [6,6,4,0]<|aD 6 fun FA FQ wJ=>jn fun aHw=>ba wJ [1,2,3,4,5,6,7,8]<|aD 7 fun Jp Ju zh=>jE (sz:=16) (ps:=((W.take k).map (mo K q9))) (qs:=[(r:bP)]) (enc:=C2) (w:= .slice (some ⟨aHw,0,none⟩) 1 1) [4] [0] [(aHw,.cells ⟨([(r:bP)].map C2).flatten⟩ 139 (0,0))] (hI.2) (fun s _ hZ=>bS [(r:bP)] (hZ _ (.head _)) (by intro p hp;rfl)) (fun p _=>ai rfl) (by simp only[List.length_map,List.length_take,List.length_cons,List.length_nil];omega) (fun bbU aV6 Xm=>?_)
  obtain⟨VF,VD,afZ⟩:=Xm.form
  subst afZ
  refine iB zh [[7],[7]]<|zD 2<|aD 10 fun Oj OH CN=>jd 1 [5]<|iB CN []<|zD 2<|ja ((k:Int)+1) (by omega)<|zD 2<|bF bG (⟨k+1,(.slice VF ((((W.take k).map (mo K q9))++[(r:bP)])).length VD),aV6⟩) ⟨by dsimp only;omega,by rw[jU aCR,List.map_append];have e:=ET.fin (fun x y h=>arl x y h) (by have:=hQ.2;rwa[show i=K.before.length by omega] at this);subst e;exact Xm⟩ (by dsimp only;omega) [0,5,6,7,8] (Sub.refl _)
 refine jd 9 [3,3,4]<|jrD (g:=62) (ca:=[zP b2,zP b3]) ⟨rfl,rfl⟩ (.tuple ⟨[zP H0,zI 0]⟩) [3,4] [1,0] ((H0,.cells ⟨[.slice mW iM.length lV,.slice fD jk.length eA,.slice fa 0 fc,.slice eL K.cs.length eF,.slice dS hv.length dB,.slice lG K.rules.length lF,.slice jV K.before.length jP,.slice jC K.after.length jq,zI K.gone,zI K.new,zI K.af,.slice iA K.facts.length gR,vR]⟩ 116 (0,0))::LR) 9 cd ⟨_,_,rfl,rfl,H0,rfl,fun kF hs hk=>⟨_,_,_,_,_,_,_,_,_,_,hv,hk _ (.head _),qj.up hs,nN,vJ.up hs,vx.up hs,ha0.up hs,hf0.up hs,by have:=hI.2;rw[List.take_of_length_le (by omega)] at this;exact this.lR hk.tail⟩⟩
theorem RB.v(h:RB K):gh K where
 rules:=⟨by have:=h.rules.1;omega,fun r hr=>arj (h.rules.2 r hr)⟩
 before:=⟨by have:=h.before.1;omega,fun p hp=>by
  obtain⟨h1,h2,_⟩:=(h.before.2 p hp).1
  exact⟨⟨⟨h1.1.1,by have:=h1.1.2;omega⟩,h1.2⟩,h2⟩⟩
 after:=⟨by have:=h.after.1;omega,fun p hp=>by
  obtain⟨h1,h2,_⟩:=(h.after.2 p hp).1
  exact⟨⟨⟨h1.1.1,by have:=h1.1.2;omega⟩,h1.2⟩,h2⟩⟩
 dP:=h.dP.v
 facts:=⟨by have:=h.facts.1;omega,h.facts.2⟩
theorem qX.up{ro aF:Nat→Option Obj}(h:qX ro l W)(hs:Sub ro aF):qX aF l W:=fun aB h1=>h aB (hs.trans h1)
theorem xP.up{ro aF:Nat→Option Obj}{q9:List Int→aI→List ak}(h:xP ro l K W q9)(hs:Sub ro aF):xP aF l K W q9:=fun w hw x hx=>⟨(h w hw x hx).1,fun aB h1=>(h w hw x hx).2 aB (hs.trans h1)⟩
theorem ann{q9:List Int→aI→List ak}{ro:Nat→Option Obj}(hK:gF ro l K)(hO:mH K)(hV:gh K)(hW:Vj K W)(h76:qX ro l W)(h47:xP ro l K W q9):lB ro l K (W.map (mo K q9)):=
 fun aB hs=>as5 (hK.up hs) hO hV hW (h76.up hs) (h47.up hs)
def rj(a b:Int):Int:=if a <b then-1 else if a>b then 1 else 0
def orL:List Int→Int
 | []=>0
 |x::l=>if x=0 then orL l else x
theorem adf{l:List Int}{x:Int}(h:l[k]?=some x):orL (l.drop k)=if x=0 then orL (l.drop (k+1)) else x:=by rw[gE h];rfl
theorem akP{l:List Int}(h:¬k <l.length):orL (l.drop k)=0:=by rw[eY h];rfl
def aar(x y:ah):Int:=orL [rj x.n y.n,rj x.l y.l]
theorem am9{x y:ah}(h:akJ x y):aar x y <0:=by
 rcases h with h| ⟨h1,h2⟩
 ·have e:rj x.n y.n= -1:=if_pos h
  simp[aar,orL,e]
 have e:rj x.n y.n=0:=by simp only[rj];rw[if_neg (by omega),if_neg (by omega)]
 have e2:rj x.l y.l= -1:=if_pos h2
 simp[aar,orL,e,e2]
theorem aGv{a:Int}{ro:Nat→Option Obj}:dO zT 133 [zI a] ro (.bool false):=by
 refine bC au [] [] bu<|zD 12<|aH q0 (.bool (!decide (a=a))) [] [] [] (Sub.refl _) ⟨_,_,rfl,rfl,by simp,rfl⟩
theorem avY{a b:Int}{ro:Nat→Option Obj}:dO zT 96 [zI a,zI b] ro (zI (rj a b)):=by
 refine bC au [] [] bu<|zD 7<|jp (vs:=[zI a]) [] [] (fun aB hs hZ=>aGv)<|zD 5<|jp (vs:=[zI b]) [] [] (fun aB hs hZ=>aGv)<|zD 23<|zJ 16 (a <b) (fun h1=>?_) fun h1=>?_
 ·
  refine zD 6<|aH q0 (zI (-1)) [] [] [] (Sub.refl _) ⟨_,_,rfl,rfl,by simp only[rj];first|rw[if_pos (by omega)]|rw[if_neg (by omega),if_pos (by omega)]|rw[if_neg (by omega),if_neg (by omega)],rfl⟩
 refine zD 9<|zJ 19 (a>b) (fun h2=>?_) fun h2=>?_
 ·
  refine zD 6<|aH q0 (zI 1) [] [] [] (Sub.refl _) ⟨_,_,rfl,rfl,by simp only[rj];first|rw[if_pos (by omega)]|rw[if_neg (by omega),if_pos (by omega)]|rw[if_neg (by omega),if_neg (by omega)],rfl⟩
 refine zD 7<|aH q0 (zI 0) [] [] [] (Sub.refl _) ⟨_,_,rfl,rfl,by simp only[rj];first|rw[if_pos (by omega)]|rw[if_neg (by omega),if_pos (by omega)]|rw[if_neg (by omega),if_neg (by omega)],rfl⟩
theorem gOr{v:Value}{ro:Nat→Option Obj}(hl:bE ro v 1 cT xs)(hn:xs.length≤1000):dO zT 175 [v] ro (zI (orL xs)):=by
 obtain⟨fS,sj,si,fe,rfl,tY,mw,nj⟩:=hl
 refine bC au [] [] bu<|zD 16<|eO [1,1,0,1,0,0] [] (fun(zz:Nat)=>[(3,zI 0),(6,.slice fS xs.length fe),(7,zI (xs.length:Int)),(8,zI (zz:Int))]) (fun(zz:Nat)=>[]) (fun(zz:Nat)=>zz≤xs.length∧orL xs=orL (xs.drop zz)) (fun(zz:Nat)=>xs.length-zz) 0 ⟨by omega,rfl⟩ [] ?_
 rintro k hI K1 bG rest
 refine zD 5<|zJ 9 ((k:Int) <(xs.length:Int)) (fun h1=>?_) fun h1=>?_
 ·
  refine zD 6 ?_
  obtain⟨x10,su⟩:=zG xs k
  refine jb fe 1 mw su<|jl 0 (nj _ _ su)<|zD 8<|js 14 (!decide (x10=0)) (fun h2=>?_) (fun h2=>?_)
  ·
   replace h2:=of_decide_eq_false (by simpa using h2)
   refine zD 7<|aH q0 (zI x10) [] [] [] (Sub.refl _) ⟨_,_,rfl,rfl,by rw[hI.2,adf su,if_neg (by simp_all)],rfl⟩
  replace h2:=of_decide_eq_true (by simpa using h2)
  refine zD 3<|ja ((k:Int)+1) (by omega)<|zD 2<|bF bG (k+1) ⟨by omega,by rw[hI.2,adf su,if_pos (by simp_all)]⟩ (by omega) [] (Sub.refl _)
 refine zD 8<|aH q0 (zI 0) [] [] [] (Sub.refl _) ⟨_,_,rfl,rfl,by rw[hI.2,akP (by omega)],rfl⟩
theorem apK{x y:ah}{ro:Nat→Option Obj}:dO zT 176 [.agg ⟨[zI x.n,zI x.l]⟩,.agg ⟨[zI y.n,zI y.l]⟩] ro (zI (aar x y)):=by
 refine bC au [] [] bu<|zD 2<|jn fun b2=>jn fun b3=>jd 12 [1,0,1,0]<|jp (vs:=[zI x.n,zI y.n]) [] [] (fun aB hs hZ=>avY)<|jp (vs:=[zI x.l,zI y.l]) [] [] (fun aB hs hZ=>avY)<|aD 10 fun D5 Eb BG=>jn fun mT=>ba BG [1,2]<|jp (vs:=[.slice (some ⟨mT,0,none⟩) 2 2]) [0] [(mT,.cells ⟨([(rj x.n y.n),(rj x.l y.l)].map cT).flatten⟩ 3 (0,0))] (fun aB hs hZ=>gOr (bV [(rj x.n y.n),(rj x.l y.l)] hZ.head (by intro p hp;rfl)) (by first|omega| (simp only[List.length_set,List.length_append,List.length_cons,List.length_nil];omega))) ?_
 refine zD 3<|aH q0 (zI (orL [(rj x.n y.n),(rj x.l y.l)])) [] [] [] (Sub.refl _) ⟨_,_,rfl,rfl,rfl,rfl⟩
theorem A7{n lo hi:Int}{ro:Nat→Option Obj}:dO zT 162 [zI n,zI lo,zI hi] ro (.bool (jK n lo hi)):=by
 refine bC au [] [] bu<|zD 10<|jj 4 [(6,.bool false),(14,.bool ((decide (lo≤n))&&(decide (n≤hi))))] (fun gQ=>?_) (fun hj=>?_)
 rotate_left
 refine js 10 (decide (lo≤n)) (fun h1=>?_) (fun h1=>?_)
 ·
  have gN:=h1
  replace gN:=of_decide_eq_true gN
  refine zD 4<|jw 14 (.bool ((decide (lo≤n))&&(decide (n≤hi)))) (w:= .bool (decide (n≤hi))) (by rw[h1]<;>rfl) ?_
  exact hj _ (by kernel_rfl) (by kernel_rfl)
 ·
  have gN:=h1
  replace gN:=of_decide_eq_false gN
  refine zD 4<|jw 14 (.bool ((decide (lo≤n))&&(decide (n≤hi)))) (w:= .bool false) (by rw[h1]<;>rfl) ?_
  exact hj _ (by kernel_rfl) (by kernel_rfl)
 refine zD 3<|aH q0 (.bool ((decide (lo≤n))&&(decide (n≤hi)))) [] [] [] (Sub.refl _) ⟨_,_,rfl,rfl,rfl,rfl⟩
theorem avT{x:ah}{ro:Nat→Option Obj}(hx:By x):dO zT 164 [.agg ⟨[zI x.n,zI x.l]⟩] ro (.bool true):=by
 obtain⟨⟨hx1,hx2⟩,hx3,hx4⟩:=hx
 refine bC au [] [] bu<|zD 2<|jn fun b1=>jd 6 [0]<|jp (vs:=[zI x.n,zI 1,zI 40]) [] [] (fun aB hs hZ=>A7)<|zD 1<|jj 4 [(2,.bool false),(10,.bool ((jK x.n 1 40)&&(jK x.l 0 4)))] (fun gQ=>?_) (fun hj=>?_)
 rotate_left
 refine js 6 (jK x.n 1 40) (fun h1=>?_) (fun h1=>?_)
 ·
  refine jd 2 [0]<|jp (vs:=[zI x.l,zI 0,zI 4]) [] [] (fun aB hs hZ=>A7)<|zD 1<|jw 10 (.bool ((jK x.n 1 40)&&(jK x.l 0 4))) (w:= .bool (jK x.l 0 4)) (by rw[h1]<;>rfl) ?_
  exact hj _ (by kernel_rfl) (by kernel_rfl)
 ·
  refine zD 4<|jw 10 (.bool ((jK x.n 1 40)&&(jK x.l 0 4))) (w:= .bool false) (by rw[h1]<;>rfl) ?_
  exact hj _ (by kernel_rfl) (by kernel_rfl)
 refine zD 3<|aH q0 (.bool ((jK x.n 1 40)&&(jK x.l 0 4))) [] [] [] (Sub.refl _) ⟨_,_,rfl,rfl,by simp only[jK,Value.bool.injEq,Bool.and_eq_true,decide_eq_true_eq];omega,rfl⟩
theorem avZ{v:Value}{S:List (List ah)}{ro:Nat→Option Obj}(hS:cP ro v S)(hO:fF S):dO zT 161 [.agg ⟨[v]⟩] ro (zI 0):=by
 obtain⟨ws,ht,dC⟩:=hS
 obtain⟨fD,AF,AD,eA,rfl,AE,sL,sJ⟩:=ht
 have hln:=dC.len
 have I3:=hO.two
 refine bC au [] [] bu<|zD 2<|jn fun b1=>jd 10 [0]<|zJ 10 ((ws.length:Int)=0) (fun h1=>?_) fun h1=>?_
 ·
  exfalso;omega
 refine jd 10 [0]<|zJ 14 ((ws.length:Int)>3) (fun h2=>?_) fun h2=>?_
 ·
  exfalso;omega
 refine jd 11 [0]<|eO [1,1,1,0,1,0,0] [] (fun(zz:Nat)=>[(16,.slice fD ws.length eA),(17,zI (ws.length:Int)),(18,zI (zz:Int))]) (fun(zz:Nat)=>[.b b1 (.cells ⟨[.slice fD ws.length eA]⟩ 25 (0,0))]) (fun(zz:Nat)=>zz≤ws.length) (fun(zz:Nat)=>ws.length-zz) 0 (by omega) [0] ?_
 rintro k hI K1 bG rest
 refine zD 5<|zJ 19 ((k:Int) <(ws.length:Int)) (fun h3=>?_) fun h3=>?_
 ·
  refine zD 6 ?_
  obtain⟨x20,MJ⟩:=zG ws k
  refine jb eA 1 sL MJ ?_
  obtain⟨l21,aui,h21⟩:=dC.get MJ
  obtain beY:=hO.len _ (List.mem_of_getElem? aui)
  obtain aQg:=hO.ok _ (List.mem_of_getElem? aui)
  obtain alW:=hO.asc _ (List.mem_of_getElem? aui)
  obtain⟨aAp,bc1,bcZ,akG,rfl,bc0,aAo,aAn⟩:=h21
  refine jl 0 (sJ _ _ MJ)<|zD 9<|zJ 24 ((l21.length:Int)>8) (fun h4=>?_) fun h4=>?_
  ·
   exfalso;omega
  refine zD 9<|eO [1,1,1,0,1,0,0,1,1,0,0,1,1,1,0,0] [K1] (fun(zz:Nat)=>[(4,.slice aAp l21.length akG),(16,.slice fD ws.length eA),(17,zI (ws.length:Int)),(18,zI (k:Int)),(25,.slice aAp l21.length akG),(26,zI (l21.length:Int)),(27,zI (zz:Int))]) (fun(zz:Nat)=>[.b b1 (.cells ⟨[.slice fD ws.length eA]⟩ 25 (0,0))]) (fun(zz:Nat)=>zz≤l21.length) (fun(zz:Nat)=>l21.length-zz) 0 (by omega) [0] ?_
  rintro i hJ K2 mg rest
  refine zD 5<|zJ 28 ((i:Int) <(l21.length:Int)) (fun h5=>?_) fun h5=>?_
  ·
   refine zD 7 ?_
   obtain⟨oG,jF⟩:=zG l21 i
   refine jb akG 2 aAo jF<|jl 0 (aAn _ _ jF)<|jn fun b6=>jd 7 [0,0]<|jp (vs:=[.agg ⟨[zI oG.n,zI oG.l]⟩]) [] [] (fun aB hs hZ=>(avT (x:=oG) (aQg _ (List.mem_of_getElem? jF))))<|zD 9<|js 2 (decide ((i:Int)>0)) (fun h6=>?_) (fun h6=>?_)
   ·
    have h6g:=h6
    replace h6g:=of_decide_eq_true h6g
    refine zD 2<|ja ((i:Int)-1) (by omega) ?_
    obtain⟨x41,atk⟩:=zG l21 (((i:Int)-1).toNat)
    refine N3 ((i:Int)-1) akG 2 aAo atk (by omega)<|jl 0 (aAn _ _ atk)<|jd 1 [0]<|jp (vs:=[.agg ⟨[zI x41.n,zI x41.l]⟩,.agg ⟨[zI oG.n,zI oG.l]⟩]) [] [] (fun aB hs hZ=>(apK (x:=x41) (y:=oG)))<|zD 3<|zJ 46 ((aar x41 oG)≥0) (fun h7=>?_) fun h7=>?_
    ·
     exfalso;have:=am9 (qx alW (show ((i:Int)-1).toNat <i by omega) atk jF);simp_all;omega
    refine zD 3<|ja ((i:Int)+1) (by omega)<|zD 2<|bF mg (i+1) (by omega) (by omega) [1] (Sub.refl _)
   have h6g:=h6
   replace h6g:=of_decide_eq_false h6g
   refine zD 13<|ja ((i:Int)+1) (by omega)<|zD 2<|bF mg (i+1) (by omega) (by omega) [1] (Sub.refl _)
  refine zD 3<|ja ((k:Int)+1) (by omega)<|zD 2<|bF bG (k+1) (by omega) (by omega) [0] (Sub.refl _)
 refine zD 7<|aH q0 (zI 0) [] [] [] (Sub.refl _) ⟨_,_,rfl,rfl,rfl,rfl⟩
abbrev pq(x:ak):Value:= .agg ⟨cF x⟩
instance:DecidableEq ak:=fun x y=>match x,y with
 | ⟨a,b,c⟩,⟨d,e,f⟩=>if h:a=d∧b=e∧c=f then isTrue (by obtain⟨rfl,rfl,rfl⟩:=h;rfl) else isFalse fun k=>h (by cases k;exact⟨rfl,rfl,rfl⟩)
def nn(s:Int)(x:ah):ak:=⟨s,x.n,x.l⟩
def Qe(S:List (List ah)):Nat→List ak
 |0=>[]
 |k+1=>Qe S k++(match S[k]? with
  |some l=>l.map (nn k)
  |none=>[])
def bB(S:List (List ah)):List ak:=Qe S S.length
theorem atA{S:List (List ah)}{l:List ah}(h:S[k]?=some l):Qe S (k+1)=Qe S k++l.map (nn k):=by simp only[Qe,h]
theorem Fh{S:List (List ah)}{x:ak}:∀ {k:Nat},x∈Qe S k↔∃j l p,j <k∧S[j]?=some l∧p∈l∧x=nn j p
 |0=>by simp[Qe]
 |k+1=>by
  simp only[Qe,List.mem_append,Fh (k:=k)]
  constructor
  ·rintro(⟨j,l,p,h1,h2⟩|h)
   ·exact⟨j,l,p,by omega,h2⟩
   split at h
   ·rename_i l hl
    obtain⟨p,hp,rfl⟩:=List.mem_map.1 h
    exact⟨k,l,p,by omega,hl,hp,rfl⟩
   cases h
  rintro⟨j,l,p,h1,h2,h3,rfl⟩
  by_cases hj:j=k
  ·subst hj;rw[h2];exact .inr (List.mem_map_of_mem h3)
  exact .inl ⟨j,l,p,by omega,h2,h3,rfl⟩
theorem G6{S:List (List ah)}{l:List ah}{p:ah}(h1:S[j]?=some l) (h2:p∈l):nn j p∈bB S:=Fh.2 ⟨j,l,p,(List.getElem?_eq_some_iff.1 h1).1,h1,h2,rfl⟩
theorem TR{S:List (List ah)}(hO:fF S):∀k,(Qe S k).Nodup
 |0=>List.nodup_nil
 |k+1=>by
  simp only[Qe]
  refine List.nodup_append.2 ⟨TR hO k,?_,fun x hx y hy e=>?_⟩
  ·split
   ·rename_i l hl
    refine List.pairwise_map.2 ((hO.asc l (List.mem_of_getElem? hl)).imp fun {a b} h e=>?_)
    simp only[nn,ak.mk.injEq] at e
    rcases h with h|h<;>omega
   exact List.nodup_nil
  subst e
  obtain⟨j,l,p,h1,_,_,rfl⟩:=Fh.1 hx
  split at hy
  ·obtain⟨q,_,hq⟩:=List.mem_map.1 hy
   simp only[nn,ak.mk.injEq] at hq
   omega
  cases hy
theorem ML{S:List (List ah)}(hO:fF S):∀k,(Qe S k).length≤4*k
 |0=>by simp[Qe]
 |k+1=>by
  have:=ML hO k
  simp only[Qe,List.length_append]
  split
  ·rename_i l hl
   have:=hO.len l (List.mem_of_getElem? hl)
   rw[List.length_map];omega
  simp;omega
theorem uz{S:List (List ah)}(hO:fF S):(bB S).length≤8:=by
 have:=ML hO S.length
 have:=hO.two
 unfold bB;omega
theorem aGO(a b:ak):EqD zT 10000 144 (pq a) (pq b) (decide (a=b)):=by
 have h:=(uF (nJ Tryz.typeInfo144 Tryz.underlying144 rfl rfl rfl rfl rfl rfl) Tryz.stoodInHeld144 (.cons (by decide) (kN ng rfl) (kN ng rfl) (oD ng _ _) (.cons (by decide) (Gk (nJ Tryz.typeInfo70 Tryz.underlying70 rfl rfl rfl rfl rfl rfl) rfl) (Gk (nJ Tryz.typeInfo70 Tryz.underlying70 rfl rfl rfl rfl rfl rfl) rfl) (ahI _ _ _ _ 9997) .nil)):EqD zT 10000 144 (pq a) (pq b) _)
 have e:(a.h==b.h&&((a.n==b.n&&(a.l==b.l&&true))&&true))=decide (a=b):=by
  rcases a with ⟨x,y,z⟩;rcases b with ⟨u,v,w⟩
  rw[Bool.eq_iff_iff];simp
 rwa[e] at h
theorem aUZ(a:ak):CkD zT 10000 144 (pq a):=
 Ri (nJ Tryz.typeInfo144 Tryz.underlying144 rfl rfl rfl rfl rfl rfl) (.cons (by decide) (kN ng rfl) (HH ng _) (.cons (by decide) (Gk (nJ Tryz.typeInfo70 Tryz.underlying70 rfl rfl rfl rfl rfl rfl) rfl) (Ri (dep:=9998) (nJ Tryz.typeInfo70 Tryz.underlying70 rfl rfl rfl rfl rfl rfl) (.cons (by decide) (kN ng rfl) (HH ng _) (.cons (by decide) (kN ng rfl) (HH ng _) .nil))) .nil))
theorem DE:RD zT 144 pq:=aee (nJ Tryz.typeInfo144 Tryz.underlying144 rfl rfl rfl rfl rfl rfl) (fun k=>⟨_,rfl⟩) aUZ aGO (fun k=>by simp[Instr.sameBits])
def MV(Z:Cells)(F:List (ak×Value))(g:ak→ak):Prop:=∀aF,Knows aF Z→∀x∈F,bE aF x.2 3 cF [g x.1]
theorem Hs[DecidableEq κ]{k:κ}:∀ {F:List (κ×Value)} {i:Nat},k∈F.map (·.1)→∃j v,sM k F i=some (j,v)
 | [],_,h=>by cases h
 |x::F,i,h=>by
  simp only[sM]
  split
  ·exact⟨_,_,rfl⟩
  rename_i hk
  refine Hs ?_
  rcases List.mem_cons.1 h with h|h
  ·exact absurd h hk
  exact h
theorem WM[DecidableEq κ]{k:κ}{F:List (κ×Value)}(h:k∈F.map (·.1)):∃v,lkM k F=some v∧(k,v)∈F:=by
 obtain⟨j,v,h1⟩:=Hs (i:=0) h
 exact⟨v,by simp[lkM,h1],List.mem_of_getElem? (qO h1).2⟩
theorem abS[DecidableEq κ]{k:κ}{v:Value}{F:List (κ×Value)}(h:k∉F.map (·.1)):mV k v F=F++[(k,v)]:=by
 have:sM k F 0=none:=by
  cases hf:sM k F 0 with
  |none=>rfl
  |some y=>exact absurd (List.mem_map_of_mem (f:=(·.1)) (List.mem_of_getElem? (qO (j:=y.1) (v:=y.2) hf).2)) h
 simp only[mV,this]
theorem Oz[DecidableEq κ]{k:κ}{v:Value}{F:List (κ×Value)}(h:k∈F.map (·.1))(hn:(F.map (·.1)).Nodup):(mV k v F).map (·.1)=F.map (·.1)∧∀x∈mV k v F,x=(k,v)∨(x∈F∧x.1≠k):=by
 obtain⟨j,u,h1⟩:=Hs (i:=0) h
 have h2:=(qO h1).2
 rw[Nat.sub_zero] at h2
 obtain⟨hj,RZ⟩:=List.getElem?_eq_some_iff.1 h2
 simp only[mV,h1,E7]
 refine⟨?_,fun x hx=>?_⟩
 ·rw[List.map_set]
  refine List.ext_getElem? fun i=>?_
  rw[List.getElem?_set]
  split
  ·rename_i hi;subst hi;simp[h2,hj,RZ]
  rfl
 obtain⟨i,hi⟩:=List.getElem?_of_mem hx
 rw[List.getElem?_set] at hi
 split at hi
 ·cases hi;exact .inl rfl
 rename_i Io
 refine .inr ⟨List.mem_of_getElem? hi,fun e=>Io ?_⟩
 obtain⟨hi1,Ua⟩:=List.getElem?_eq_some_iff.1 hi
 exact(List.getElem_inj (xs:=F.map (·.1)) (h₀:=by simpa using hj) (h₁:=by simpa using hi1) hn).1 (by simp[RZ,Ua,e])
theorem MV.set{F:List (ak×Value)}{g:ak→ak}(h:MV Z F g){k y:ak}{v:Value}(hk:k∈F.map (·.1))(hn:(F.map (·.1)).Nodup)(hv:∀aF,Knows aF Z2→bE aF v 3 cF [y]):MV (Z++Z2) (mV k v F) (fun x=>if x=k then y else g x):=fun aF hr x hx=>by
 rcases(Oz hk hn).2 x hx with rfl| ⟨h1,h2⟩
 ·simp only[if_true];exact hv aF hr.right
 simp only[h2,if_false];exact h aF hr.left x h1
theorem MV.add{F:List (ak×Value)}{g:ak→ak}(h:MV Z F g){k:ak}{v:Value}(hv:∀aF,Knows aF Z2→bE aF v 3 cF [g k]):MV (Z++Z2) (F++[(k,v)]) g:=fun aF hr x hx=>by
 rcases List.mem_append.1 hx with h1|h1
 ·exact h aF hr.left x h1
 rw[List.mem_singleton] at h1;subst h1;exact hv aF hr.right
theorem aGH{v:Value}{ro:Nat→Option Obj}(hl:bE ro v 1 cT xs)(hn:xs.length≤1000):eS zT 169 [v] ro [] (fun r Y=>ax r 1 3 cT xs Y):=by
 obtain⟨fS,sj,si,fe,rfl,tY,mw,nj⟩:=hl
 refine bC au [] [] bu<|zD 8<|jsn 22 (a:=fS) (l:=xs.length) (c:=fe)<|zD 1<|js 4 (fS.isNone) (fun h1=>?_) (fun h1=>?_)
 ·
  refine zD 6<|aH q0 (zS) [] [] [] (Sub.refl _) ⟨_,_,rfl,rfl,by rw[rE mw (by assumption)];exact ax.nil _ _ _⟩
 refine zD 4<|jn fun b5=>zD 1<|jE (sz:=1) (ps:=[]) (qs:=xs) (enc:=cT) (w:= .slice fS xs.length fe) [0] [] [] (bw (b:=b5) (T:=3)) (fun s he _=>⟨fS,sj,si,fe,rfl,mw,fun i p hp=>(nj i p hp).ext he⟩) (fun p _=>ai rfl) (by simp<;>omega) (fun v7 L7 iU=>?_)
 rw[List.nil_append] at iU
 obtain⟨So,Sk,QB⟩:=iU.form
 subst QB
 refine zD 3<|aH q0 ((.slice So (xs).length Sk)) [] [0] L7 (Sub.refl _) ⟨_,_,rfl,rfl,iU⟩
theorem aUD{v:Value}{xs:List ah}{ro:Nat→Option Obj}(hl:bE ro v 2 cE xs)(hn:xs.length≤1000):eS zT 203 [v] ro [] (fun r Y=>ax r 2 70 cE xs Y):=by
 obtain⟨fS,sj,si,fe,rfl,tY,mw,nj⟩:=hl
 refine bC au [] [] bu<|zD 8<|jsn 71 (a:=fS) (l:=xs.length) (c:=fe)<|zD 1<|js 4 (fS.isNone) (fun h1=>?_) (fun h1=>?_)
 ·
  refine zD 6<|aH q0 (zS) [] [] [] (Sub.refl _) ⟨_,_,rfl,rfl,by rw[rE mw (by assumption)];exact ax.nil _ _ _⟩
 refine zD 4<|jn fun b5=>zD 1<|jE (sz:=2) (ps:=[]) (qs:=xs) (enc:=cE) (w:= .slice fS xs.length fe) [0] [] [] (bw (b:=b5) (T:=70)) (fun s he _=>⟨fS,sj,si,fe,rfl,mw,fun i p hp=>(nj i p hp).ext he⟩) (fun p _=>ai rfl) (by simp<;>omega) (fun v7 L7 iU=>?_)
 rw[List.nil_append] at iU
 obtain⟨So,Sk,QB⟩:=iU.form
 subst QB
 refine zD 3<|aH q0 ((.slice So (xs).length Sk)) [] [0] L7 (Sub.refl _) ⟨_,_,rfl,rfl,iU⟩
theorem aUE{v:Value}{xs:List ak}{ro:Nat→Option Obj}(hl:bE ro v 3 cF xs)(hn:xs.length≤1000):eS zT 119 [v] ro [] (fun r Y=>ax r 3 144 cF xs Y):=by
 obtain⟨fS,sj,si,fe,rfl,tY,mw,nj⟩:=hl
 refine bC au [] [] bu<|zD 8<|jsn 140 (a:=fS) (l:=xs.length) (c:=fe)<|zD 1<|js 4 (fS.isNone) (fun h1=>?_) (fun h1=>?_)
 ·
  refine zD 6<|aH q0 (zS) [] [] [] (Sub.refl _) ⟨_,_,rfl,rfl,by rw[rE mw (by assumption)];exact ax.nil _ _ _⟩
 refine zD 4<|jn fun b5=>zD 1<|jE (sz:=3) (ps:=[]) (qs:=xs) (enc:=cF) (w:= .slice fS xs.length fe) [0] [] [] (bw (b:=b5) (T:=144)) (fun s he _=>⟨fS,sj,si,fe,rfl,mw,fun i p hp=>(nj i p hp).ext he⟩) (fun p _=>ai rfl) (by simp<;>omega) (fun v7 L7 iU=>?_)
 rw[List.nil_append] at iU
 obtain⟨So,Sk,QB⟩:=iU.form
 subst QB
 refine zD 3<|aH q0 ((.slice So (xs).length Sk)) [] [0] L7 (Sub.refl _) ⟨_,_,rfl,rfl,iU⟩
theorem amQ{v:Value}{S:List (List ah)}{ro:Nat→Option Obj}(hS:cP ro v S)(hO:fF S):eS zT 172 [.agg ⟨[v]⟩] ro [] (fun r Y=>∃a n c,r= .agg ⟨[.slice a n c]⟩∧∀aF,Knows aF Y→cP aF (.slice a n c) S):=by
 obtain⟨ws,ht,dC⟩:=hS
 obtain⟨fD,AF,AD,eA,rfl,AE,sL,sJ⟩:=ht
 have hln:=dC.len
 have I3:=hO.two
 refine bC au [] [] bu<|zD 2<|jn fun b1=>jn fun b2=>zD 4<|jn fun b3=>jd 11 [0,2]<|py<|py<|eO [1,1,0,1,0,0] [] (fun(zz:Nat×Value×Cells×(List Value)×Cells)=>[(2,zP b2),(3,zP b3),(8,.slice fD ws.length eA),(9,zI (ws.length:Int)),(10,zI (zz.1:Int))]) (fun(zz:Nat×Value×Cells×(List Value)×Cells)=>[.b b3 (.cells ⟨[zz.2.1]⟩ 25 (0,0)),.l zz.2.2.1,.l zz.2.2.2.2,.b b2 (.cells ⟨[zS]⟩ 25 (0,0)),.b b1 (.cells ⟨[.slice fD ws.length eA]⟩ 25 (0,0))]) (fun(zz:Nat×Value×Cells×(List Value)×Cells)=>(zz.1≤ws.length∧zz.2.2.2.1.length=zz.1)∧ax zz.2.1 1 71 gJ zz.2.2.2.1 zz.2.2.1∧∀aF,Knows aF zz.2.2.2.2→dg (fun w l=>bE aF w 2 cE l) zz.2.2.2.1 (S.take zz.1)) (fun(zz:Nat×Value×Cells×(List Value)×Cells)=>ws.length-zz.1) (⟨0,zS,[],[],[]⟩) ⟨⟨by dsimp only;omega,rfl⟩,ax.nil _ _ _,fun _ _=> .nil⟩ [2,1,0,3,4] ?_
 rintro⟨k,vO,LO,es,Z⟩ hI K1 bG rest
 dsimp only at hI
 refine zD 5<|zJ 11 ((k:Int) <(ws.length:Int)) (fun h1=>?_) fun h1=>?_
 ·
  refine zD 6 ?_
  obtain⟨tM,qG⟩:=zG ws k
  refine jb eA 1 sL qG ?_
  obtain⟨l13,aCU,BH⟩:=dC.get qG
  obtain aCJ:=hO.len _ (List.mem_of_getElem? aCU)
  obtain⟨aAw,aOD,aOz,aAv,rfl,aOB,aOC,aOA⟩:=BH
  refine jl 0 (sJ _ _ qG)<|jd 6 [0]<|aD 3 fun BK BR A6=>jc (vs:=[.slice aAw l13.length aAv]) [] (aUD (show bE _ _ _ _ _ from ⟨aAw,aOD,aOz,aAv,rfl,aOB,aOC,aOA⟩) (by first|omega| (simp only[List.length_set,List.length_append,List.length_cons,List.length_nil];omega))) ?_
  rintro v17 L17 Cy
  obtain⟨xU,xT,I9⟩:=Cy.form
  subst I9
  refine ba A6 [1,2,3,4,5]<|aD 4 fun rZ r8 qL=>jn fun fQ=>ba qL [1,2,3,4,5,6]<|aD 5 fun sN sU ri=>jE (sz:=1) (ps:=es) (qs:=[((.slice xU (l13).length xT):Value)]) (enc:=gJ) (w:= .slice (some ⟨fQ,0,none⟩) 1 1) [3] [0] [(fQ,.cells ⟨([((.slice xU (l13).length xT):Value)].map gJ).flatten⟩ 71 (0,0))] (hI.2.1) (fun s _ hZ=>bS [((.slice xU (l13).length xT):Value)] (hZ _ (.head _)) (by intro p hp;rfl)) (by intro p hp;rw[List.mem_singleton] at hp;subst hp;exact ai rfl) (by simp<;>omega) (fun v19 L19 afg=>?_)
  obtain⟨aLY,aLG,aSi⟩:=afg.form
  subst aSi
  refine iB ri []<|zD 1<|aD 7 fun Aj Av A5=>jd 1 [3]<|cw A5<|zD 2<|ja ((k:Int)+1) (by omega)<|zD 2<|Km bG (⟨k+1,(.slice aLY ((es++[((.slice xU (l13).length xT):Value)])).length aLG),L19,(es++[((.slice xU (l13).length xT):Value)]),L17++Z⟩) ⟨⟨by dsimp only;omega,by simp only[List.length_append,List.length_cons,List.length_nil];omega⟩,afg,fun aF hk=>ql (hI.2.2 aF hk.right) aCU (Cy.lR hk.left)⟩ (by dsimp only;omega) [[3],[0],[2,4],[5],[6]] (Sub.refl _)
 refine jd 5 [0] ?_
 obtain⟨va6,vc6,he6⟩:=hI.2.1.form
 subst he6
 refine jd 3 [3]<|aH q0 (.agg ⟨[(.slice va6 (es).length vc6)]⟩) [3] [1,2] (LO++Z) (Sub.refl _) ⟨_,_,rfl,rfl,_,_,_,rfl,fun aF hk=>⟨es,hI.2.1.lR hk.left,by have:=hI.2.2 aF hk.right;rwa[List.take_of_length_le (by omega)] at this⟩⟩
theorem XK{v:Value}{S:List (List ah)}{ro:Nat→Option Obj}(hS:cP ro v S)(hO:fF S):eS zT 163 [.agg ⟨[v]⟩] ro [] (fun r Y=>ax r 3 144 cF (bB S) Y):=by
 obtain⟨ws,ht,dC⟩:=hS
 obtain⟨fD,AF,AD,eA,rfl,AE,sL,sJ⟩:=ht
 have hln:=dC.len
 have I3:=hO.two
 refine bC au [] [] bu<|zD 2<|jn fun b1=>jd 15 [0]<|py<|eO [1,1,0,1,0,0] [] (fun(zz:Nat×Value×Cells)=>[(2,zS),(3,zz.2.1),(9,.slice fD ws.length eA),(10,zI (ws.length:Int)),(11,zI (zz.1:Int))]) (fun(zz:Nat×Value×Cells)=>[.l zz.2.2,.b b1 (.cells ⟨[.slice fD ws.length eA]⟩ 25 (0,0))]) (fun(zz:Nat×Value×Cells)=>zz.1≤ws.length∧ax zz.2.1 3 144 cF (Qe S zz.1) zz.2.2) (fun(zz:Nat×Value×Cells)=>ws.length-zz.1) (⟨0,zS,[]⟩) ⟨by dsimp only;omega,ax.nil _ _ _⟩ [0,1] ?_
 rintro⟨k,vO,LO⟩ hI K1 bG rest
 dsimp only at hI
 refine zD 5<|zJ 12 ((k:Int) <(ws.length:Int)) (fun h1=>?_) fun h1=>?_
 ·
  refine zD 7 ?_
  obtain⟨gi,eW⟩:=zG ws k
  refine jb eA 1 sL eW ?_
  obtain⟨P1,Z3,Nb⟩:=dC.get eW
  obtain aRp:=hO.len _ (List.mem_of_getElem? Z3)
  obtain⟨ar0,aOy,aOw,acY,rfl,aOx,arZ,arY⟩:=Nb
  refine jl 0 (sJ _ _ eW)<|zD 10<|eO [1,1,0,1,0,0,1,1,0,0,1,1,0,0] [K1] (fun(zz:Nat×Value×Cells)=>[(2,zS),(3,zz.2.1),(4,zI (k:Int)),(9,.slice fD ws.length eA),(10,zI (ws.length:Int)),(11,zI (k:Int)),(16,.slice ar0 P1.length acY),(17,zI (P1.length:Int)),(18,zI (zz.1:Int))]) (fun(zz:Nat×Value×Cells)=>[.l zz.2.2,.b b1 (.cells ⟨[.slice fD ws.length eA]⟩ 25 (0,0))]) (fun(zz:Nat×Value×Cells)=>zz.1≤P1.length∧ax zz.2.1 3 144 cF (Qe S k++(P1.take zz.1).map (nn k)) zz.2.2) (fun(zz:Nat×Value×Cells)=>P1.length-zz.1) (⟨0,vO,LO⟩) ⟨by dsimp only;omega,by simpa using hI.2⟩ [0,1] ?_
  rintro⟨i,vO,LO⟩ hJ K2 mg rest
  dsimp only at hJ
  refine zD 5<|zJ 19 ((i:Int) <(P1.length:Int)) (fun h2=>?_) fun h2=>?_
  ·
   refine zD 6 ?_
   obtain⟨x20,MJ⟩:=zG P1 i
   refine jb acY 2 arZ MJ<|jl 0 (arY _ _ MJ)<|jn fun b7=>jd 7 [0,0]<|jn fun b26=>jE (sz:=3) (ps:=(Qe S k++(P1.take i).map (nn k))) (qs:=[(⟨(k:Int),x20.n,x20.l⟩:ak)]) (enc:=cF) (w:= .slice (some ⟨b26,0,none⟩) 1 1) [2] [0] [(b26,.cells ⟨([(⟨(k:Int),x20.n,x20.l⟩:ak)].map cF).flatten⟩ 144 (0,0))] (hJ.2) (fun s _ hZ=>bS [(⟨(k:Int),x20.n,x20.l⟩:ak)] (hZ _ (.head _)) (by intro p hp;rfl)) (fun p _=>ai rfl) (by have:=ML hO k;simp only[List.length_append,List.length_map,List.length_take,List.length_cons,List.length_nil];omega) (fun v27 L27 afe=>?_)
   obtain⟨aLV,aLD,aSg⟩:=afe.form
   subst aSg
   refine zD 3<|ja ((i:Int)+1) (by omega)<|zD 2<|bF mg (⟨i+1,(.slice aLV (((Qe S k++(P1.take i).map (nn k))++[(⟨(k:Int),x20.n,x20.l⟩:ak)])).length aLD),L27⟩) ⟨by dsimp only;omega,by rw[fL MJ,List.map_append,←List.append_assoc];exact afe⟩ (by dsimp only;omega) [0,3] (Sub.refl _)
  refine zD 3<|ja ((k:Int)+1) (by omega)<|zD 2<|bF bG (⟨k+1,vO,LO⟩) ⟨by dsimp only;omega,by rw[atA Z3];have:=hJ.2;rwa[List.take_of_length_le (by omega)] at this⟩ (by dsimp only;omega) [0,1] (Sub.refl _)
 refine zD 8<|aH q0 (vO) [] [0] LO (Sub.refl _) ⟨_,_,rfl,rfl,by have:=hI.2;rwa[show k=S.length by omega] at this⟩
theorem Sv{l:List α}{x:α}(hn:l.Nodup)(h:l[k]?=some x):x∉l.take k:=fun hx=>by
 obtain⟨hk,he⟩:=List.getElem?_eq_some_iff.1 h
 obtain⟨i,hi⟩:=List.getElem?_of_mem hx
 have hik:i <k:=by have:=(List.getElem?_eq_some_iff.1 hi).1;rw[List.length_take] at this;omega
 rw[List.getElem?_take_of_lt hik] at hi
 obtain⟨hi1,Ua⟩:=List.getElem?_eq_some_iff.1 hi
 have:=(List.getElem_inj (h₀:=hi1) (h₁:=hk) hn).1 (Ua.trans he.symm)
 omega
def xY(n:Int):Bool:= !decide (Int.tmod n 2=0)
def EK(n:Int):Bool:=decide (Int.tmod n 2=0)
theorem rM{p:α→Bool}{l:List α}{x:α}(h:l[i]?=some x):(l.take (i+1)).filter p=(l.take i).filter p++bif p x then [x] else []:=by
 rw[fL h,List.filter_append]
 cases hp:p x<;>simp[hp]
def rI(l:List ah):List (List ah):=[l.filter fun x=>xY x.n,l.filter fun x=>EK x.n]
theorem aga{l h:List ah}{x:ah}(hh:h∈rI l)(hx:x∈h):x∈l:=by
 simp only[rI,List.mem_cons,List.not_mem_nil,or_false] at hh
 rcases hh with rfl|rfl<;>exact(List.mem_filter.1 hx).1
theorem agb{l h:List ah}(hh:h∈rI l):h.length≤l.length:=by
 simp only[rI,List.mem_cons,List.not_mem_nil,or_false] at hh
 rcases hh with rfl|rfl<;>exact List.length_filter_le _ _
def IJ(s:Int)(h:List ah):List (ak×ak):=(h.zip h.reverse).map fun p=>(nn s p.1,nn s p.2)
def abT(s:Int)(l:List ah):List (ak×ak):=(rI l).flatMap (IJ s)
def Jz(s:Int)(l:List ah):List (ak×ak):=l.map fun x=>(nn s x,⟨s,if xY x.n=true then x.n+1 else x.n-1,x.l⟩)
def sg(l:List ah):Int:=match l[l.length-1]? with
 |some y=>y.n+Int.tmod y.n 2
 |none=>0
def Kl(s o:Int)(l:List ah)(r:Int):List (ak×ak):=l.map fun x=>(nn s x,⟨o,x.n+r,x.l⟩)
def gU(u:List (ak×ak))(x:ak):ak:=u.foldl (fun y p=>if x=p.1 then p.2 else y) x
theorem amN(u:List (ak×ak))(a b:ak):gU (u++[(a,b)])=fun x=>if x=a then b else gU u x:=by
 funext x;simp only[gU,List.foldl_append,List.foldl_cons,List.foldl_nil]
theorem akq{s:Int}{h:List ah}{x y:ah}(hx:h[i]?=some x) (hy:h[(((h.length:Int)-1)-(i:Int)).toNat]?=some y):(IJ s h)[i]?=some (nn s x,nn s y):=by
 have hi:=(List.getElem?_eq_some_iff.1 hx).1
 have h2:h.reverse[i]?=some y:=by rw[List.getElem?_reverse hi,←hy];congr 1;omega
 have:=(List.getElem?_zip_eq_some (z:=(x,y))).2 ⟨hx,h2⟩
 simp only[IJ,List.getElem?_map,this];rfl
theorem acA(s:Int)(h:List ah):(IJ s h).length=h.length:=by simp[IJ]
theorem adR{β:Type}{f:α→β}{l:List α}{x:α}(h:l[i]?=some x):(l.map f)[i]?=some (f x):=by rw[List.getElem?_map,h];rfl
theorem amU{β:Type}{f:α→List β}{l:List α}{x:α}(h:l[i]?=some x):(l.take (i+1)).flatMap f=(l.take i).flatMap f++f x:=by rw[fL h,List.flatMap_append,List.flatMap_singleton]
theorem MV.upd{S:List (List ah)}(hO:fF S){F:List (ak×Value)}{u:List (ak×ak)}{l:List ah}{x:ah}{y:ak}{b:Nat}{T:TypeId}(h:MV Z F (gU u))(hk:F.map (·.1)=bB S)(hl:S[s]?=some l) (hx:x∈l):
 MV (Z++[(b,.cells ⟨cF y⟩ T (0,0))]) (mV (nn s x) (.slice (some ⟨b,0,none⟩) 1 1) F) (gU (u++[(nn s x,y)]))∧(mV (nn s x) (.slice (some ⟨b,0,none⟩) 1 1) F).map (·.1)=bB S:=by
 have hm:nn s x∈F.map (·.1):=by rw[hk];exact G6 hl hx
 have hn:(F.map (·.1)).Nodup:=by rw[hk];exact TR hO _
 rw[amN]
 exact⟨h.set hm hn fun aF hk=>bV [y] (hk _ (.head _)) (fun _ _=>rfl),(Oz hm hn).1.trans hk⟩
theorem OU{S:List (List ah)}(hO:fF S){F:List (ak×Value)}{x:ak}{b:Nat}{T:TypeId}(h:MV Z F id)(hk:F.map (·.1)=(bB S).take k)(hx:(bB S)[k]?=some x):
 MV (Z++[(b,.cells ⟨cF x⟩ T (0,0))]) (mV x (.slice (some ⟨b,0,none⟩) 1 1) F) id∧(mV x (.slice (some ⟨b,0,none⟩) 1 1) F).map (·.1)=(bB S).take (k+1):=by
 have:x∉F.map (·.1):=by rw[hk];exact Sv (TR hO _) hx
 rw[abS this]
 exact⟨h.add fun aF hk=>bV [x] (hk _ (.head _)) (fun _ _=>rfl),by rw[List.map_append,hk,fL hx];rfl⟩
theorem KE{v:Value}{S:List (List ah)}{ro:Nat→Option Obj}(hS:cP ro v S)(hO:fF S):eS zT 173 [.agg ⟨[v]⟩] ro [] (fun r Y=>∃rm F LM Z,r= .map (some rm)∧Y=LM++Z∧kD rm pq F LM∧F.map (·.1)=bB S∧MV Z F id):=by
 have yp:=hS
 obtain⟨ws,ht,dC⟩:=hS
 obtain⟨fD,AF,AD,eA,rfl,AE,sL,sJ⟩:=ht
 have hln:=dC.len
 have I3:=hO.two
 have hhl:=uz hO
 refine bC au [] [] bu<|zD 2<|jn fun b1=>zD 4<|jmk pq fun r6 L6 hm6=>jd 6 [1]<|jc (vs:=[.agg ⟨[.slice fD ws.length eA]⟩]) [] (XK yp hO) ?_
 rintro v8 L8 ho8
 refine Fe ho8<|zD 1<|jf [0] L8 (fun BE cd jW=>?_)
 have hzh:=ho8.lR jW
 obtain⟨aNR,bct,bcr,azJ,rfl,bcs,aNQ,aNP⟩:=hzh
 refine zD 2<|py<|eO [1,1,0,1,0,0] [] (fun(zz:Nat×(List (ak×Value))×Cells×Cells)=>[(2,(.map none)),(3,(.map (some r6))),(8,.slice aNR ((bB S).length) azJ),(9,zI ((bB S).length:Int)),(10,zI (zz.1:Int))]) (fun(zz:Nat×(List (ak×Value))×Cells×Cells)=>[.l zz.2.2.1,.l zz.2.2.2,.b b1 (.cells ⟨[.slice fD ws.length eA]⟩ 25 (0,0))]) (fun(zz:Nat×(List (ak×Value))×Cells×Cells)=>zz.1≤(bB S).length∧kD r6 pq zz.2.1 zz.2.2.1∧zz.2.1.map (·.1)=(bB S).take zz.1∧MV zz.2.2.2 zz.2.1 id) (fun(zz:Nat×(List (ak×Value))×Cells×Cells)=>(bB S).length-zz.1) (⟨0,[],L6,[]⟩) ⟨by dsimp only;omega,hm6,rfl,fun _ _ _ h=>(by cases h)⟩ [1,0,2] ?_
 rintro⟨k,F,LM,Z⟩ hI K1 bG rest
 dsimp only at hI
 refine zD 5<|zJ 11 ((k:Int) <((bB S).length:Int)) (fun h4=>?_) fun h4=>?_
 ·
  refine zD 6 ?_
  obtain⟨tM,qG⟩:=zG ((bB S)) k
  refine jb azJ 3 aNQ qG<|jl 0 (aNP _ _ qG)<|jn fun b5=>jd 6 [0,0,0]<|jn fun b17=>jmu (kv:=pq) (F:=F) (r:=r6) (K:=144) 2 tM (.slice (some ⟨b17,0,none⟩) 1 1) DE hI.2.1 fun Lm5 hm5=>zD 2<|ja ((k:Int)+1) (by omega)<|zD 2<|Km bG (⟨k+1,_,Lm5,Z++[(b17,.cells ⟨[zI tM.h,zI tM.n,zI tM.l]⟩ 144 (0,0))]⟩) ⟨by dsimp only;omega,hm5,(OU (T:=144) hO hI.2.2.2 hI.2.2.1 qG).2,(OU (T:=144) hO hI.2.2.2 hI.2.2.1 qG).1⟩ (by dsimp only;omega) [[0],[3,1],[4]] (Sub.refl _)
 refine zD 8<|aH q0.a ((.map (some r6))) [] [0,1] (LM++Z) cd ⟨_,_,rfl,rfl,_,F,LM,Z,rfl,rfl,hI.2.1,by rw[hI.2.2.1,List.take_of_length_le (by omega)],hI.2.2.2⟩
theorem gAt{h n l:Int}{ro:Nat→Option Obj}:dO zT 246 [zI h,zI n,zI l] ro (.agg ⟨[zI h,zI n,zI l]⟩):=by
 refine bC au [] [] bu<|zD 2<|jn fun b6=>jd 11 [0]<|aH q0 (.agg ⟨[zI h,zI n,zI l]⟩) [0] [] [] (Sub.refl _) ⟨_,_,rfl,rfl,rfl,rfl⟩
theorem aGu{x:ah}{ro:Nat→Option Obj}:dO zT 244 [.agg ⟨[zI x.n,zI x.l]⟩] ro (.bool (xY x.n)):=by
 refine bC au [] [] bu<|zD 2<|jn fun b1=>jd 11 [0]<|aH q0 (.bool (!decide ((Int.tmod x.n 2)=0))) [] [] [] (Sub.refl _) ⟨_,_,rfl,rfl,rfl,rfl⟩
theorem ahi{v:Value}{l:List ah}{ro:Nat→Option Obj}(hl:bE ro v 2 cE l)(hn:l.length≤4):eS zT 243 [v,.func (.func 244) ⟨[]⟩ ⟨[]⟩] ro [] (fun r Y=>ax r 2 70 cE (l.filter fun x=>xY x.n) Y):=by
 obtain⟨fS,sj,si,fe,rfl,tY,mw,nj⟩:=hl
 refine bC au [] [] bu<|zD 16<|py<|eO [1,1,0,1,0,0] [] (fun(zz:Nat×Value×Cells)=>[(1,.func (.func 244) ⟨[]⟩ ⟨[]⟩),(4,zS),(5,zz.2.1),(8,.slice fS l.length fe),(9,zI (l.length:Int)),(10,zI (zz.1:Int))]) (fun(zz:Nat×Value×Cells)=>[.l zz.2.2]) (fun(zz:Nat×Value×Cells)=>zz.1≤l.length∧ax zz.2.1 2 70 cE ((l.take zz.1).filter fun x=>xY x.n) zz.2.2) (fun(zz:Nat×Value×Cells)=>l.length-zz.1) (⟨0,zS,[]⟩) ⟨by dsimp only;omega,ax.nil _ _ _⟩ [0] ?_
 rintro⟨k,vO,LO⟩ hI K1 bG rest
 dsimp only at hI
 refine zD 5<|zJ 11 ((k:Int) <(l.length:Int)) (fun h1=>?_) fun h1=>?_
 ·
  refine zD 6 ?_
  obtain⟨tM,qG⟩:=zG l k
  refine jb fe 2 mw qG<|jl 0 (nj _ _ qG)<|jn fun b7=>jd 6 [0,0]<|jp (vs:=[.agg ⟨[zI tM.n,zI tM.l]⟩]) [] [] (fun aB hs hZ=>(aGu (x:=tM)))<|zD 1<|js 16 (xY tM.n) (fun h2=>?_) (fun h2=>?_)
  ·
   refine jd 4 [0]<|jn fun H0=>jE (sz:=2) (ps:=((l.take k).filter fun x=>xY x.n)) (qs:=[(⟨tM.n,tM.l⟩:ah)]) (enc:=cE) (w:= .slice (some ⟨H0,0,none⟩) 1 1) [2] [0] [(H0,.cells ⟨([(⟨tM.n,tM.l⟩:ah)].map cE).flatten⟩ 70 (0,0))] (hI.2) (fun s _ hZ=>bS [(⟨tM.n,tM.l⟩:ah)] (hZ _ (.head _)) (by intro p hp;rfl)) (fun p _=>ai rfl) (by have:=List.length_filter_le (fun x:ah=>xY x.n) (l.take k);rw[List.length_take] at this;simp only[List.length_cons,List.length_nil];omega) (fun v20 L20 G4=>?_)
   obtain⟨aqK,aqC,auU⟩:=G4.form
   subst auU
   refine zD 3<|ja ((k:Int)+1) (by omega)<|zD 2<|bF bG (⟨k+1,(.slice aqK ((((l.take k).filter fun x=>xY x.n)++[(⟨tM.n,tM.l⟩:ah)])).length aqC),L20⟩) ⟨by dsimp only;omega,by rw[rM qG,show xY tM.n=true from (by assumption)];exact G4⟩ (by dsimp only;omega) [0] (Sub.refl _)
  refine zD 3<|ja ((k:Int)+1) (by omega)<|zD 2<|bF bG (⟨k+1,vO,LO⟩) ⟨by dsimp only;omega,by rw[rM qG,show xY tM.n=false from (by assumption)];simpa using hI.2⟩ (by dsimp only;omega) [1] (Sub.refl _)
 refine zD 8<|aH q0 (vO) [] [0] LO (Sub.refl _) ⟨_,_,rfl,rfl,by have:=hI.2;rwa[List.take_of_length_le (by omega)] at this⟩
theorem aGB{x:ah}{ro:Nat→Option Obj}:dO zT 245 [.agg ⟨[zI x.n,zI x.l]⟩] ro (.bool (EK x.n)):=by
 refine bC au [] [] bu<|zD 2<|jn fun b1=>jd 11 [0]<|aH q0 (.bool (decide ((Int.tmod x.n 2)=0))) [] [] [] (Sub.refl _) ⟨_,_,rfl,rfl,rfl,rfl⟩
theorem ahh{v:Value}{l:List ah}{ro:Nat→Option Obj}(hl:bE ro v 2 cE l)(hn:l.length≤4):eS zT 243 [v,.func (.func 245) ⟨[]⟩ ⟨[]⟩] ro [] (fun r Y=>ax r 2 70 cE (l.filter fun x=>EK x.n) Y):=by
 obtain⟨fS,sj,si,fe,rfl,tY,mw,nj⟩:=hl
 refine bC au [] [] bu<|zD 16<|py<|eO [1,1,0,1,0,0] [] (fun(zz:Nat×Value×Cells)=>[(1,.func (.func 245) ⟨[]⟩ ⟨[]⟩),(4,zS),(5,zz.2.1),(8,.slice fS l.length fe),(9,zI (l.length:Int)),(10,zI (zz.1:Int))]) (fun(zz:Nat×Value×Cells)=>[.l zz.2.2]) (fun(zz:Nat×Value×Cells)=>zz.1≤l.length∧ax zz.2.1 2 70 cE ((l.take zz.1).filter fun x=>EK x.n) zz.2.2) (fun(zz:Nat×Value×Cells)=>l.length-zz.1) (⟨0,zS,[]⟩) ⟨by dsimp only;omega,ax.nil _ _ _⟩ [0] ?_
 rintro⟨k,vO,LO⟩ hI K1 bG rest
 dsimp only at hI
 refine zD 5<|zJ 11 ((k:Int) <(l.length:Int)) (fun h1=>?_) fun h1=>?_
 ·
  refine zD 6 ?_
  obtain⟨tM,qG⟩:=zG l k
  refine jb fe 2 mw qG<|jl 0 (nj _ _ qG)<|jn fun b7=>jd 6 [0,0]<|jp (vs:=[.agg ⟨[zI tM.n,zI tM.l]⟩]) [] [] (fun aB hs hZ=>(aGB (x:=tM)))<|zD 1<|js 16 (EK tM.n) (fun h2=>?_) (fun h2=>?_)
  ·
   refine jd 4 [0]<|jn fun H0=>jE (sz:=2) (ps:=((l.take k).filter fun x=>EK x.n)) (qs:=[(⟨tM.n,tM.l⟩:ah)]) (enc:=cE) (w:= .slice (some ⟨H0,0,none⟩) 1 1) [2] [0] [(H0,.cells ⟨([(⟨tM.n,tM.l⟩:ah)].map cE).flatten⟩ 70 (0,0))] (hI.2) (fun s _ hZ=>bS [(⟨tM.n,tM.l⟩:ah)] (hZ _ (.head _)) (by intro p hp;rfl)) (fun p _=>ai rfl) (by have:=List.length_filter_le (fun x:ah=>EK x.n) (l.take k);rw[List.length_take] at this;simp only[List.length_cons,List.length_nil];omega) (fun v20 L20 G4=>?_)
   obtain⟨aqK,aqC,auU⟩:=G4.form
   subst auU
   refine zD 3<|ja ((k:Int)+1) (by omega)<|zD 2<|bF bG (⟨k+1,(.slice aqK ((((l.take k).filter fun x=>EK x.n)++[(⟨tM.n,tM.l⟩:ah)])).length aqC),L20⟩) ⟨by dsimp only;omega,by rw[rM qG,show EK tM.n=true from (by assumption)];exact G4⟩ (by dsimp only;omega) [0] (Sub.refl _)
  refine zD 3<|ja ((k:Int)+1) (by omega)<|zD 2<|bF bG (⟨k+1,vO,LO⟩) ⟨by dsimp only;omega,by rw[rM qG,show EK tM.n=false from (by assumption)];simpa using hI.2⟩ (by dsimp only;omega) [1] (Sub.refl _)
 refine zD 8<|aH q0 (vO) [] [0] LO (Sub.refl _) ⟨_,_,rfl,rfl,by have:=hI.2;rwa[List.take_of_length_le (by omega)] at this⟩
theorem XI{v:Value}{S:List (List ah)}{l:List ah}{c2 c3 c4:Int}{F:List (ak×Value)}{ro:Nat→Option Obj}(hS:cP ro v S)(hO:fF S)(hl:S[s]?=some l) (hm:kD rm pq F LM) (hk:F.map (·.1)=bB S) (hM:MV Z F id):eS zT 222 [.agg ⟨[v]⟩,.agg ⟨[zI ck,zI (s:Int),zI c2,zI c3,zI c4,zI c5,zI c6]⟩,(.map (some rm))] ro (LM++Z) (fun r Y=>∃F' L' Z',r= zI 0∧Y=L'++Z'∧kD rm pq F' L'∧F'.map (·.1)=bB S∧MV Z' F' (gU (abT (s:Int) l))):=by
 obtain⟨ws,ht,dC⟩:=hS
 obtain⟨fD,AF,AD,eA,rfl,AE,sL,sJ⟩:=ht
 have hln:=dC.len
 have I3:=hO.two
 have Kr:=(List.getElem?_eq_some_iff.1 hl).1
 have hlm:=List.mem_of_getElem? hl
 have hll:=hO.len _ hlm
 refine bC au [.l LM,.l Z] [] bu<|zD 2<|jn fun b3=>jn fun b4=>zD 4<|Ff [1,0,1] [] (fun(zz:Nat×Value×Value×Cells×Cells)=>[(2,(.map (some rm))),(4,zP b4),(6,zI 0),(25,.slice (some ⟨zz.1,0,none⟩) 2 2),(26,zI 2),(27,zI 0)]) (fun(zz:Nat×Value×Value×Cells×Cells)=>[.b zz.1 (.cells ⟨[zz.2.1,zz.2.2.1]⟩ 71 (0,0)),.l zz.2.2.2.1,.l zz.2.2.2.2,.l LM,.l Z,.b b4 (.cells ⟨[zI ck,zI (s:Int),zI c2,zI c3,zI c4,zI c5,zI c6]⟩ 74 (0,0)),.b b3 (.cells ⟨[.slice fD ws.length eA]⟩ 25 (0,0))]) (fun(zz:Nat×Value×Value×Cells×Cells)=>ax zz.2.1 2 70 cE (l.filter fun x=>xY x.n) zz.2.2.2.1∧ax zz.2.2.1 2 70 cE (l.filter fun x=>EK x.n) zz.2.2.2.2) ?_ (fun K1 bG=>?_)
 ·
  rintro⟨eg,v1,v2,L1,L2⟩ hC rest
  dsimp only at hC
  refine jf [0,1,2] ((eg,.cells ⟨[v1,v2]⟩ 71 (0,0))::(L1++L2)) (fun BE cd jW=>?_)
  have hhv:=bV (enc:=gJ) (T:=71) [v1,v2] (jW _ (.head _)) (fun _ _=>rfl)
  have aC1:dg (fun w l=>bE BE w 2 cE l) [v1,v2] (rI l):= .cons (hC.1.lR (Knows.left (Knows.tail jW))) (.cons (hC.2.lR (Knows.right (Knows.tail jW))) .nil)
  have hvl: [v1,v2].length=2:=rfl
  obtain⟨qga,qgb,qgo,qgc,Qx,qgk,qgh,qgl⟩:=hhv
  simp only[Value.slice.injEq] at Qx
  obtain⟨rfl,_,rfl⟩:=Qx
  refine zD 1<|eO [1,0,1,0,0] [] (fun(zz:Nat×(List (ak×Value))×Cells×Cells)=>[(2,(.map (some rm))),(4,zP b4),(6,zI 0),(25,.slice (some ⟨eg,0,none⟩) 2 2),(26,zI 2),(27,zI (zz.1:Int))]) (fun(zz:Nat×(List (ak×Value))×Cells×Cells)=>[.l zz.2.2.1,.l zz.2.2.2,.b b4 (.cells ⟨[zI ck,zI (s:Int),zI c2,zI c3,zI c4,zI c5,zI c6]⟩ 74 (0,0)),.b b3 (.cells ⟨[.slice fD ws.length eA]⟩ 25 (0,0))]) (fun(zz:Nat×(List (ak×Value))×Cells×Cells)=>zz.1≤2∧kD rm pq zz.2.1 zz.2.2.1∧zz.2.1.map (·.1)=bB S∧MV zz.2.2.2 zz.2.1 (gU (((rI l).take zz.1).flatMap (IJ (s:Int))))) (fun(zz:Nat×(List (ak×Value))×Cells×Cells)=>2-zz.1) (⟨0,F,LM,Z⟩) ⟨by dsimp only;omega,hm,hk,hM⟩ [0,1,2,3] ?_
  rintro⟨k,F,LM,Z⟩ hI K2 mg rest
  dsimp only at hI
  refine zD 5<|zJ 28 ((k:Int) <2) (fun h4=>?_) fun h4=>?_
  ·
   refine zD 6 ?_
   obtain⟨D6,AX⟩:=zG ([v1,v2]) k
   refine jb 2 1 qgh AX ?_
   obtain⟨Tw,auh,h30⟩:=aC1.get AX
   obtain aCG:Tw.length≤4:=by have:=agb (List.mem_of_getElem? auh);omega
   obtain⟨aAf,bcS,bcQ,akD,rfl,bcR,aAe,aAd⟩:=h30
   refine jl 0 (qgl _ _ AX)<|zD 9<|eO [1,0,1,0,0,1,1,0,0,1,1,0,0] [K2] (fun(zz:Nat×(List (ak×Value))×Cells×Cells)=>[(2,(.map (some rm))),(4,zP b4),(6,zI 0),(8,.slice aAf Tw.length akD),(25,.slice (some ⟨eg,0,none⟩) 2 2),(26,zI 2),(27,zI (k:Int)),(31,.slice aAf Tw.length akD),(32,zI (Tw.length:Int)),(33,zI (zz.1:Int))]) (fun(zz:Nat×(List (ak×Value))×Cells×Cells)=>[.l zz.2.2.1,.l zz.2.2.2,.b b4 (.cells ⟨[zI ck,zI (s:Int),zI c2,zI c3,zI c4,zI c5,zI c6]⟩ 74 (0,0)),.b b3 (.cells ⟨[.slice fD ws.length eA]⟩ 25 (0,0))]) (fun(zz:Nat×(List (ak×Value))×Cells×Cells)=>zz.1≤Tw.length∧kD rm pq zz.2.1 zz.2.2.1∧zz.2.1.map (·.1)=bB S∧MV zz.2.2.2 zz.2.1 (gU (((rI l).take k).flatMap (IJ (s:Int))++(IJ (s:Int) Tw).take zz.1))) (fun(zz:Nat×(List (ak×Value))×Cells×Cells)=>Tw.length-zz.1) (⟨0,F,LM,Z⟩) ⟨by dsimp only;omega,hI.2.1,hI.2.2.1,by simpa using hI.2.2.2⟩ [0,1,2,3] ?_
   rintro⟨i,F,LM,Z⟩ hJ K3 hK3 rest
   dsimp only at hJ
   refine zD 5<|zJ 34 ((i:Int) <(Tw.length:Int)) (fun h5=>?_) fun h5=>?_
   ·
    refine zD 7 ?_
    obtain⟨x36,y6⟩:=zG Tw i
    refine jb akD 2 aAe y6<|jl 0 (aAd _ _ y6)<|jn fun pH=>jd 14 [0,3,0,3]<|ja ((Tw.length:Int)-1) (by omega)<|zD 1<|ja (((Tw.length:Int)-1)-(i:Int)) (by omega) ?_
    obtain⟨x51,Ew⟩:=zG Tw (((((Tw.length:Int)-1)-(i:Int))).toNat)
    refine N3 (((Tw.length:Int)-1)-(i:Int)) akD 2 aAe Ew (by omega)<|jl 0 (aAd _ _ Ew)<|zD 1<|aD 16 fun sN sU ri=>jn fun Rt=>ba ri [1,2,3,4,5]<|aD 17 fun Aj Av A5=>jmu (kv:=pq) (F:=F) (r:=rm) (K:=144) 2 (nn (s:Int) x36) (.slice (some ⟨Rt,0,none⟩) 1 1) DE hJ.2.1 fun Lm8 hm8=>cw A5<|zD 2<|ja ((i:Int)+1) (by omega)<|zD 2 ?_
    have hup:=MV.upd (T:=144) (b:=Rt) (y:=nn s x51) hO hJ.2.2.2 hJ.2.2.1 hl (aga (List.mem_of_getElem? auh) (List.mem_of_getElem? y6))
    exact Km hK3 (⟨i+1,_,Lm8,Z++[(Rt,.cells ⟨[zI (s:Int),zI x51.n,zI x51.l]⟩ 144 (0,0))]⟩) ⟨by dsimp only;omega,hm8,hup.2,by rw[fL (akq y6 Ew),←List.append_assoc];exact hup.1⟩ (by dsimp only;omega) [[0],[3,1],[4],[5]] (Sub.refl _)
   refine zD 3<|ja ((k:Int)+1) (by omega)<|zD 2<|bF mg (⟨k+1,F,LM,Z⟩) ⟨by dsimp only;omega,hJ.2.1,hJ.2.2.1,by have:=hJ.2.2.2;rw[List.take_of_length_le (l:=IJ (s:Int) Tw) (by rw[acA];omega)] at this;rw[amU auh];exact this⟩ (by dsimp only;omega) [0,1,2,3] (Sub.refl _)
  refine zD 7<|aH q0.a (zI 0) [] [0,1] (LM++Z) cd ⟨_,_,rfl,rfl,F,LM,Z,rfl,rfl,hI.2.1,hI.2.2.1,by have:=hI.2.2.2;rwa[show k=2 by omega] at this⟩
 refine jd 5 [1,0] ?_
 obtain⟨Am,aeH⟩:=zG ws s
 refine jb eA 1 sL aeH ?_
 obtain⟨l16,aCT,Na⟩:=dC.get aeH
 obtain be0:=hO.len _ (List.mem_of_getElem? aCT)
 obtain afW:l16=l:=Option.some.inj (aCT.symm.trans hl)
 obtain⟨aAu,aOv,aOr,aAt,rfl,aOt,aOu,aOs⟩:=Na
 refine jl 0 (sJ _ _ aeH)<|jd 4 [1,0] ?_
 obtain⟨sI,uv⟩:=zG ws s
 refine jb eA 1 sL uv ?_
 obtain⟨l23,aCS,Fu⟩:=dC.get uv
 obtain beX:=hO.len _ (List.mem_of_getElem? aCS)
 obtain auT:l23=l:=Option.some.inj (aCS.symm.trans hl)
 obtain⟨aAm,aOj,aOf,aAl,rfl,aOh,aOi,aOg⟩:=Fu
 refine jl 0 (sJ _ _ uv)<|zD 1<|aD 6 fun Yt YH Uq=>jc (vs:=[.slice aAu l16.length aAt,.func (.func 244) ⟨[]⟩ ⟨[]⟩]) [] (ahi (show bE _ _ _ _ _ from ⟨aAu,aOv,aOr,aAt,rfl,aOt,aOu,aOs⟩) (by omega)) ?_
 rintro v17 L17 Cy
 obtain⟨xU,xT,amg⟩:=Cy.form
 subst amg
 refine ba Uq [1,2,3,4]<|aD 13 fun abg abY QG=>jc (vs:=[.slice aAm l23.length aAl,.func (.func 245) ⟨[]⟩ ⟨[]⟩]) [] (ahh (show bE _ _ _ _ _ from ⟨aAm,aOj,aOf,aAl,rfl,aOh,aOi,aOg⟩) (by omega)) ?_
 rintro v24 L24 aCo
 obtain⟨abP,abI,aRS⟩:=aCo.form
 subst aRS
 refine ba QG [1,2,3,4,5]<|aD 14 fun Sd Su Up=>jn fun eg=>ba Up [1,2,3,4,5,6]<|zD 2<|bF bG ⟨eg,(.slice xU (l16.filter fun x=>xY x.n).length xT),(.slice abP (l23.filter fun x=>EK x.n).length abI),L17,L24⟩ ⟨by rw[←afW];exact Cy,by rw[←auT];exact aCo⟩ Nat.zero_lt_one [0,2,1,5,6,3,4] (Sub.refl _)
theorem VW{s:Int}{l:List ah}{x:ah}(h:l[i]?=some x):(Jz s l)[i]?=some (nn s x,⟨s,if xY x.n=true then x.n+1 else x.n-1,x.l⟩):=adR h
theorem alH{s o r:Int}{l:List ah}{x:ah}(h:l[i]?=some x):(Kl s o l r)[i]?=some (nn s x,⟨o,x.n+r,x.l⟩):=adR h
theorem raise_at{l:List ah}{x:ah}(h:l[(((l.length:Int)-1)).toNat]?=some x):sg l=x.n+Int.tmod x.n 2:=by
 have:l[l.length-1]?=some x:=by rw[←h];congr 1;omega
 simp only[sg,this]
theorem Zd{l:List ah}(h:¬(l.length:Int)>0):sg l=0:=by
 have:l=[]:=List.eq_nil_of_length_eq_zero (by omega)
 subst this;rfl
theorem tm2{n:Int}(h:1≤n∧n≤9):0≤Int.tmod n 2∧Int.tmod n 2≤1:=by
 rw[Int.tmod_eq_emod_of_nonneg (by omega)]
 omega
theorem acN{l:List ah}(h:∀x∈l,By x):0≤sg l∧sg l≤10:=by
 unfold sg
 split
 ·rename_i y hy
  have h1:=(h y (List.mem_of_getElem? hy)).1
  have:=tm2 h1
  omega
 omega
theorem QQ{v:Value}{S:List (List ah)}{l:List ah}{c2 c3 c4:Int}{F:List (ak×Value)}{ro:Nat→Option Obj}(hS:cP ro v S)(hO:fF S)(hl:S[s]?=some l) (hm:kD rm pq F LM) (hk:F.map (·.1)=bB S) (hM:MV Z F id):eS zT 223 [.agg ⟨[v]⟩,.agg ⟨[zI ck,zI (s:Int),zI c2,zI c3,zI c4,zI c5,zI c6]⟩,(.map (some rm))] ro (LM++Z) (fun r Y=>∃F' L' Z',r= zI 0∧Y=L'++Z'∧kD rm pq F' L'∧F'.map (·.1)=bB S∧MV Z' F' (gU (Jz (s:Int) l))):=by
 obtain⟨ws,ht,dC⟩:=hS
 obtain⟨fD,AF,AD,eA,rfl,AE,sL,sJ⟩:=ht
 have hln:=dC.len
 have I3:=hO.two
 have Kr:=(List.getElem?_eq_some_iff.1 hl).1
 have hlm:=List.mem_of_getElem? hl
 have hll:=hO.len _ hlm
 refine bC au [.l LM,.l Z] [] bu<|zD 2<|jn fun b3=>jn fun b4=>jd 9 [1,0] ?_
 obtain⟨gi,eW⟩:=zG ws s
 refine jb eA 1 sL eW ?_
 obtain⟨P1,Z3,Nb⟩:=dC.get eW
 obtain aRp:=hO.len _ (List.mem_of_getElem? Z3)
 obtain MU:P1=l:=Option.some.inj (Z3.symm.trans hl)
 obtain aQj:=hO.ok _ (List.mem_of_getElem? Z3)
 obtain⟨ar0,aOy,aOw,acY,rfl,aOx,arZ,arY⟩:=Nb
 refine jl 0 (sJ _ _ eW)<|zD 4<|eO [1,0,1,0,0] [] (fun(zz:Nat×(List (ak×Value))×Cells×Cells)=>[(2,(.map (some rm))),(4,zP b4),(6,zI 0),(15,.slice ar0 P1.length acY),(16,zI (P1.length:Int)),(17,zI (zz.1:Int))]) (fun(zz:Nat×(List (ak×Value))×Cells×Cells)=>[.l zz.2.2.1,.l zz.2.2.2,.b b4 (.cells ⟨[zI ck,zI (s:Int),zI c2,zI c3,zI c4,zI c5,zI c6]⟩ 74 (0,0)),.b b3 (.cells ⟨[.slice fD ws.length eA]⟩ 25 (0,0))]) (fun(zz:Nat×(List (ak×Value))×Cells×Cells)=>zz.1≤P1.length∧kD rm pq zz.2.1 zz.2.2.1∧zz.2.1.map (·.1)=bB S∧MV zz.2.2.2 zz.2.1 (gU ((Jz (s:Int) l).take zz.1))) (fun(zz:Nat×(List (ak×Value))×Cells×Cells)=>P1.length-zz.1) (⟨0,F,LM,Z⟩) ⟨by dsimp only;omega,hm,hk,hM⟩ [2,3,0,1] ?_
 rintro⟨i,F,LM,Z⟩ hI K1 bG rest
 dsimp only at hI
 refine zD 5<|zJ 18 ((i:Int) <(P1.length:Int)) (fun h1=>?_) fun h1=>?_
 ·
  refine zD 6 ?_
  obtain⟨E4,x5⟩:=zG P1 i
  refine jb acY 2 arZ x5<|jl 0 (arY _ _ x5)<|jn fun b8=>jd 3 [0] ?_
  have I4:=aQj _ (List.mem_of_getElem? x5)
  have aQI:=I4.1.1
  have aQH:=I4.1.2
  refine jd 3 [0]<|ja (E4.n-1) (by omega)<|jd 6 [0]<|jp (vs:=[.agg ⟨[zI E4.n,zI E4.l]⟩]) [] [] (fun aB hs hZ=>(aGu (x:=E4)))<|zD 1<|js 25 (xY E4.n) (fun h2=>?_) (fun h2=>?_)
  ·
   refine jd 4 [0]<|ja (E4.n+1) (by omega)<|jd 13 [3,0,3,0]<|jp (vs:=[zI (s:Int),zI (E4.n+1),zI E4.l]) [] [] (fun aB hs hZ=>gAt)<|aD 11 fun BK BR A6=>jn fun dE=>ba A6 [1,2,3,4,5]<|aD 12 fun rZ r8 qL=>jmu (kv:=pq) (F:=F) (r:=rm) (K:=144) 2 (nn (s:Int) E4) (.slice (some ⟨dE,0,none⟩) 1 1) DE hI.2.1 fun Lm5 hm5=>cw qL<|zD 2<|ja ((i:Int)+1) (by omega)<|zD 2 ?_
   have hup:=MV.upd (T:=144) (b:=dE) (y:=⟨s,E4.n+1,E4.l⟩) hO hI.2.2.2 hI.2.2.1 hl (by rw[←MU];exact List.mem_of_getElem? x5)
   exact Km bG (⟨i+1,_,Lm5,Z++[(dE,.cells ⟨[zI (s:Int),zI (E4.n+1),zI E4.l]⟩ 144 (0,0))]⟩) ⟨by dsimp only;omega,hm5,hup.2,by rw[fL (VW (by rw[←MU];exact x5))];rw[if_pos (by assumption)];exact hup.1⟩ (by dsimp only;omega) [[0],[3,1],[4],[5]] (Sub.refl _)
  refine jd 13 [3,0,3,0]<|jp (vs:=[zI (s:Int),zI (E4.n-1),zI E4.l]) [] [] (fun aB hs hZ=>gAt)<|aD 11 fun sN sU ri=>jn fun dE=>ba ri [1,2,3,4,5]<|aD 12 fun Aj Av A5=>jmu (kv:=pq) (F:=F) (r:=rm) (K:=144) 2 (nn (s:Int) E4) (.slice (some ⟨dE,0,none⟩) 1 1) DE hI.2.1 fun Lm8 hm8=>cw A5<|zD 2<|ja ((i:Int)+1) (by omega)<|zD 2 ?_
  have hup:=MV.upd (T:=144) (b:=dE) (y:=⟨s,E4.n-1,E4.l⟩) hO hI.2.2.2 hI.2.2.1 hl (by rw[←MU];exact List.mem_of_getElem? x5)
  exact Km bG (⟨i+1,_,Lm8,Z++[(dE,.cells ⟨[zI (s:Int),zI (E4.n-1),zI E4.l]⟩ 144 (0,0))]⟩) ⟨by dsimp only;omega,hm8,hup.2,by rw[fL (VW (by rw[←MU];exact x5))];rw[if_neg (by rw[show xY E4.n=false from (by assumption)];decide)];exact hup.1⟩ (by dsimp only;omega) [[0],[3,1],[4],[5]] (Sub.refl _)
 refine zD 7<|aH q0 (zI 0) [] [0,1] (LM++Z) (Sub.refl _) ⟨_,_,rfl,rfl,F,LM,Z,rfl,rfl,hI.2.1,hI.2.2.1,by have:=hI.2.2.2;rwa[List.take_of_length_le (by simp only[Jz,List.length_map];rw[←MU];omega)] at this⟩
theorem amP{v:Value}{S:List (List ah)}{o:Nat}{l lo:List ah}{c3 c4:Int}{F:List (ak×Value)}{ro:Nat→Option Obj}(hS:cP ro v S)(hO:fF S)(hl:S[s]?=some l) (hm:kD rm pq F LM) (hk:F.map (·.1)=bB S) (hM:MV Z F id) (A1:S[o]?=some lo):eS zT 225 [.agg ⟨[v]⟩,.agg ⟨[zI ck,zI (s:Int),zI (o:Int),zI c3,zI c4,zI c5,zI c6]⟩,(.map (some rm))] ro (LM++Z) (fun r Y=>∃F' L' Z',r= zI 0∧Y=L'++Z'∧kD rm pq F' L'∧F'.map (·.1)=bB S∧MV Z' F' (gU (Kl (s:Int) (o:Int) l (sg lo)))):=by
 obtain⟨ws,ht,dC⟩:=hS
 obtain⟨fD,AF,AD,eA,rfl,AE,sL,sJ⟩:=ht
 have hln:=dC.len
 have I3:=hO.two
 have Kr:=(List.getElem?_eq_some_iff.1 hl).1
 have hlm:=List.mem_of_getElem? hl
 have hll:=hO.len _ hlm
 have hso:=(List.getElem?_eq_some_iff.1 A1).1
 have aCK:=List.mem_of_getElem? A1
 have hr:=acN (hO.ok _ aCK)
 have be4:=hO.len _ aCK
 refine bC au [.l LM,.l Z] [] bu<|zD 2<|jn fun b3=>jn fun b4=>jd 8 [1,0] ?_
 obtain⟨Vz,GP⟩:=zG ws s
 refine jb eA 1 sL GP ?_
 obtain⟨l18,auk,UC⟩:=dC.get GP
 obtain beZ:=hO.len _ (List.mem_of_getElem? auk)
 obtain MT:l18=l:=Option.some.inj (auk.symm.trans hl)
 obtain kB:=hO.ok _ (List.mem_of_getElem? auk)
 obtain⟨aAs,bc4,bc2,arX,rfl,bc3,aOq,aOp⟩:=UC
 refine jl 0 (sJ _ _ GP)<|jd 4 [1,0] ?_
 obtain⟨vG,tt⟩:=zG ws o
 refine jb eA 1 sL tt ?_
 obtain⟨Tx,T7,h24⟩:=dC.get tt
 obtain aCI:=hO.len _ (List.mem_of_getElem? T7)
 obtain Ue:Tx=lo:=Option.some.inj (T7.symm.trans A1)
 obtain aBQ:=hO.ok _ (List.mem_of_getElem? T7)
 obtain⟨arW,aAk,aAi,acX,rfl,aAj,akF,akE⟩:=h24
 refine jl 0 (sJ _ _ tt)<|zD 10<|ja ((l18.length:Int)+(Tx.length:Int)) (by omega)<|zD 2<|zJ 30 (((l18.length:Int)+(Tx.length:Int))>8) (fun h1=>?_) fun h1=>?_
 ·
  exfalso;omega
 refine zD 18<|Ff [1,1,1,1,1] [] (fun(zz:Int)=>[(2,(.map (some rm))),(4,zP b4),(6,zI 0),(7,.slice aAs l18.length arX),(9,zI zz)]) (fun(zz:Int)=>[.l LM,.l Z,.b b4 (.cells ⟨[zI ck,zI (s:Int),zI (o:Int),zI c3,zI c4,zI c5,zI c6]⟩ 74 (0,0)),.b b3 (.cells ⟨[.slice fD ws.length eA]⟩ 25 (0,0))]) (fun(zz:Int)=>zz=sg lo) ?_ (fun K1 bG=>?_)
 ·
  rintro q hQ rest
  refine zD 8<|eO [1,1,1,1,1,0,1,0,0] [] (fun(zz:Nat×(List (ak×Value))×Cells×Cells)=>[(2,(.map (some rm))),(4,zP b4),(9,zI q),(49,.slice aAs l18.length arX),(50,zI (l18.length:Int)),(51,zI (zz.1:Int))]) (fun(zz:Nat×(List (ak×Value))×Cells×Cells)=>[.l zz.2.2.1,.l zz.2.2.2,.b b4 (.cells ⟨[zI ck,zI (s:Int),zI (o:Int),zI c3,zI c4,zI c5,zI c6]⟩ 74 (0,0)),.b b3 (.cells ⟨[.slice fD ws.length eA]⟩ 25 (0,0))]) (fun(zz:Nat×(List (ak×Value))×Cells×Cells)=>zz.1≤l18.length∧kD rm pq zz.2.1 zz.2.2.1∧zz.2.1.map (·.1)=bB S∧MV zz.2.2.2 zz.2.1 (gU ((Kl (s:Int) (o:Int) l (sg lo)).take zz.1))) (fun(zz:Nat×(List (ak×Value))×Cells×Cells)=>l18.length-zz.1) (⟨0,F,LM,Z⟩) ⟨by dsimp only;omega,hm,hk,hM⟩ [0,1,2,3] ?_
  rintro⟨i,F,LM,Z⟩ hI K2 mg rest
  dsimp only at hI
  refine zD 5<|zJ 52 ((i:Int) <(l18.length:Int)) (fun h2=>?_) fun h2=>?_
  ·
   refine zD 6 ?_
   obtain⟨x53,aeD⟩:=zG l18 i
   refine jb arX 2 aOq aeD<|jl 0 (aOp _ _ aeD)<|jn fun kg=>jd 4 [0] ?_
   have I4:=kB _ (List.mem_of_getElem? aeD)
   have aQI:=I4.1.1
   have aQH:=I4.1.2
   refine jd 4 [0]<|ja (x53.n+q) (by omega)<|zD 2<|zJ 59 ((x53.n+q)>40) (fun h3=>?_) fun h3=>?_
   ·
    exfalso;omega
   refine jd 13 [3,0,3,0]<|ja (x53.n+q) (by omega)<|jd 2 [0]<|jp (vs:=[zI (o:Int),zI (x53.n+q),zI x53.l]) [] [] (fun aB hs hZ=>gAt)<|aD 14 fun rZ r8 qL=>jn fun b74=>ba qL [1,2,3,4,5]<|aD 15 fun sN sU ri=>jmu (kv:=pq) (F:=F) (r:=rm) (K:=144) 2 (nn (s:Int) x53) (.slice (some ⟨b74,0,none⟩) 1 1) DE hI.2.1 fun Lm6 hm6=>cw ri<|zD 2<|ja ((i:Int)+1) (by omega)<|zD 2 ?_
   have hup:=MV.upd (T:=144) (b:=b74) (y:=⟨o,x53.n+q,x53.l⟩) hO hI.2.2.2 hI.2.2.1 hl (by rw[←MT];exact List.mem_of_getElem? aeD)
   exact Km mg (⟨i+1,_,Lm6,Z++[(b74,.cells ⟨[zI (o:Int),zI (x53.n+q),zI x53.l]⟩ 144 (0,0))]⟩) ⟨by dsimp only;omega,hm6,hup.2,by rw[fL (alH (by rw[←MT];exact aeD))];have e:=hup.1;rw[hQ] at e ⊢;exact e⟩ (by dsimp only;omega) [[0],[3,1],[4],[5]] (Sub.refl _)
  refine zD 7<|aH q0 (zI 0) [] [0,1] (LM++Z) (Sub.refl _) ⟨_,_,rfl,rfl,F,LM,Z,rfl,rfl,hI.2.1,hI.2.2.1,by have:=hI.2.2.2;rwa[List.take_of_length_le (by simp only[Kl,List.length_map];rw[←MT];omega)] at this⟩
 refine zJ 34 ((Tx.length:Int)>0) (fun h7=>?_) fun h7=>?_
 ·
  refine zD 4<|ja ((Tx.length:Int)-1) (by omega) ?_
  obtain⟨x38,MH⟩:=zG Tx ((((Tx.length:Int)-1)).toNat)
  refine N3 ((Tx.length:Int)-1) acX 2 akF MH (by omega)<|zD 1<|jl 0 (akE _ _ MH)<|zD 2<|ja ((Tx.length:Int)-1) (by omega) ?_
  obtain⟨Yu,I1⟩:=zG Tx ((((Tx.length:Int)-1)).toNat)
  refine N3 ((Tx.length:Int)-1) acX 2 akF I1 (by omega)<|zD 1<|jl 0 (akE _ _ I1)<|zD 1<|ja (x38.n+(Int.tmod Yu.n 2)) (by have h1:=(aBQ _ (List.mem_of_getElem? MH)).1;have h2:=(aBQ _ (List.mem_of_getElem? I1)).1;have:=tm2 h2;omega) ?_
  refine zD 2 ?_
  have hra:=raise_at MH
  rw[Ue] at hra
  exact bF bG (x38.n+(Int.tmod Yu.n 2)) (by rw[←Ue];have e:x38=Yu:=Option.some.inj (MH.symm.trans I1);subst e;exact(raise_at MH).symm) Nat.zero_lt_one [2,3,0,1] (Sub.refl _)
 refine zD 2<|bF bG 0 (by rw[←Ue];exact(Zd (by omega)).symm) Nat.zero_lt_one [2,3,0,1] (Sub.refl _)
def av6(S:List (List ah))(c:aM):List (ak×ak):=
 if c.k=1 then abT c.st (S[c.st.toNat]?.getD []) else if c.k=2 then Jz c.st (S[c.st.toNat]?.getD []) else Kl c.st c.ot (S[c.st.toNat]?.getD []) (sg (S[c.ot.toNat]?.getD []))
def yX(S:List (List ah))(c:aM)(x:ak):ak:=gU (av6 S c) x
theorem qn{l:List α}(h:l.length=2):∃a b,l=[a,b]:=by
 match l,h with
 | [a,b],_=>exact⟨a,b,rfl⟩
theorem QS{ro:Nat→Option Obj}:dO zT 201 [] ro (.agg ⟨[.nilFunc,.func (.func 222) ⟨[]⟩ ⟨[]⟩,.func (.func 223) ⟨[]⟩ ⟨[]⟩,.func (.func 224) ⟨[]⟩ ⟨[]⟩,.func (.func 225) ⟨[]⟩ ⟨[]⟩,.func (.func 226) ⟨[]⟩ ⟨[]⟩,.func (.func 227) ⟨[]⟩ ⟨[]⟩,.func (.func 228) ⟨[]⟩ ⟨[]⟩]⟩):=by
 refine bC au [] [] bu<|zD 2<|jn fun b0=>jd 7 [0]<|aH q0 (.agg ⟨[.nilFunc,.func (.func 222) ⟨[]⟩ ⟨[]⟩,.func (.func 223) ⟨[]⟩ ⟨[]⟩,.func (.func 224) ⟨[]⟩ ⟨[]⟩,.func (.func 225) ⟨[]⟩ ⟨[]⟩,.func (.func 226) ⟨[]⟩ ⟨[]⟩,.func (.func 227) ⟨[]⟩ ⟨[]⟩,.func (.func 228) ⟨[]⟩ ⟨[]⟩]⟩) [0] [] [] (Sub.refl _) ⟨_,_,rfl,rfl,rfl,rfl⟩
theorem aGG{v:Value}{S:List (List ah)}{ro:Nat→Option Obj}(hS:cP ro v S)(hO:fF S):eS zT 168 [.agg ⟨[v]⟩,.agg ⟨[zI 1,zI 0,zI 0,zI 0,zI 0,zI 0,zI 0]⟩] ro [] (fun r Y=>∃rm F LM Z,r= .tuple ⟨[.map (some rm),zI 0]⟩∧Y=LM++Z∧kD rm pq F LM∧F.map (·.1)=bB S∧MV Z F (yX S ⟨1,0,0,0,0,0,0⟩)):=by
 obtain⟨p,q,rfl⟩:=qn hO.two
 have yp:=hS
 obtain⟨ws,ht,dC⟩:=hS
 obtain⟨w1,w2,rfl⟩:=qn (dC.len.trans hO.two)
 obtain⟨fD,AF,AD,eA,rfl,AE,sL,sJ⟩:=ht
 refine bC au [] [] bu<|zD 2<|jn fun b2=>jn fun b3=>jd 8 [0]<|jp (vs:=[zI 1,zI 1,zI 7]) [] [] (fun aB hs hZ=>A7)<|jd 18 [1,0]<|jp (vs:=[zI 0,zI 0,zI 1]) [] [] (fun aB hs hZ=>A7)<|jd 70 [0,0,0,0,0,0]<|jne Gt (wU 0 0 0 0)<|zD 3<|js 73 (!(0==0&&(0==0&&true))) (fun h1=>?_) (fun h1=>?_)
 ·
  have gN:=h1
  try simp only[zB] at gN
  exact absurd gN (by decide)
 have gN:=h1
 try simp only[zB] at gN
 refine jd 6 [0]<|jne Gt (wU 0 0 0 0)<|zD 3<|js 82 (!(0==0&&(0==0&&true))) (fun h2=>?_) (fun h2=>?_)
 ·
  exact absurd h2 (by decide)
 refine jd 5 [1]<|jc (vs:=[.agg ⟨[.slice fD 2 eA]⟩]) [] (KE (yp) hO) ?_
 rintro _ _ ⟨rm,F,LM,Z,rfl,rfl,hmM,hkM,hMM⟩
 refine jg 0 [.l LM,.l Z]<|jd 10 [2,3,2]<|jp [] [] (fun aB hs hZ=>QS)<|zD 1<|aD 7 fun D5 Eb BG=>jc (vs:=[.agg ⟨[.slice fD 2 eA]⟩,.agg ⟨[zI 1,zI 0,zI 0,zI 0,zI 0,zI 0,zI 0]⟩,(.map (some rm))]) [0,1] (XI (s:=0) yp hO rfl hmM hkM hMM) ?_
 rintro _ _ ⟨F2,NS,Z2,rfl,rfl,Fo,jW,hM2⟩
 refine jg 0 [.l NS,.l Z2]<|iB BG [[2]]<|zD 16<|aH q0 (.tuple ⟨[(.map (some rm)),zI 0]⟩) [] [0,1] (NS++Z2) (Sub.refl _) ⟨_,_,rfl,rfl,rm,F2,NS,Z2,rfl,rfl,Fo,jW,hM2⟩
theorem aGF{v:Value}{S:List (List ah)}{ro:Nat→Option Obj}(hS:cP ro v S)(hO:fF S):eS zT 168 [.agg ⟨[v]⟩,.agg ⟨[zI 2,zI 0,zI 0,zI 0,zI 0,zI 0,zI 0]⟩] ro [] (fun r Y=>∃rm F LM Z,r= .tuple ⟨[.map (some rm),zI 0]⟩∧Y=LM++Z∧kD rm pq F LM∧F.map (·.1)=bB S∧MV Z F (yX S ⟨2,0,0,0,0,0,0⟩)):=by
 obtain⟨p,q,rfl⟩:=qn hO.two
 have yp:=hS
 obtain⟨ws,ht,dC⟩:=hS
 obtain⟨w1,w2,rfl⟩:=qn (dC.len.trans hO.two)
 obtain⟨fD,AF,AD,eA,rfl,AE,sL,sJ⟩:=ht
 refine bC au [] [] bu<|zD 2<|jn fun b2=>jn fun b3=>jd 8 [0]<|jp (vs:=[zI 2,zI 1,zI 7]) [] [] (fun aB hs hZ=>A7)<|jd 18 [1,0]<|jp (vs:=[zI 0,zI 0,zI 1]) [] [] (fun aB hs hZ=>A7)<|jd 70 [0,0,0,0,0,0]<|jne Gt (wU 0 0 0 0)<|zD 3<|js 73 (!(0==0&&(0==0&&true))) (fun h1=>?_) (fun h1=>?_)
 ·
  have gN:=h1
  try simp only[zB] at gN
  exact absurd gN (by decide)
 have gN:=h1
 try simp only[zB] at gN
 refine jd 6 [0]<|jne Gt (wU 0 0 0 0)<|zD 3<|js 82 (!(0==0&&(0==0&&true))) (fun h2=>?_) (fun h2=>?_)
 ·
  exact absurd h2 (by decide)
 refine jd 5 [1]<|jc (vs:=[.agg ⟨[.slice fD 2 eA]⟩]) [] (KE (yp) hO) ?_
 rintro _ _ ⟨rm,F,LM,Z,rfl,rfl,hmM,hkM,hMM⟩
 refine jg 0 [.l LM,.l Z]<|jd 10 [2,3,2]<|jp [] [] (fun aB hs hZ=>QS)<|zD 1<|aD 7 fun D5 Eb BG=>jc (vs:=[.agg ⟨[.slice fD 2 eA]⟩,.agg ⟨[zI 2,zI 0,zI 0,zI 0,zI 0,zI 0,zI 0]⟩,(.map (some rm))]) [0,1] (QQ (s:=0) yp hO rfl hmM hkM hMM) ?_
 rintro _ _ ⟨F2,NS,Z2,rfl,rfl,Fo,jW,hM2⟩
 refine jg 0 [.l NS,.l Z2]<|iB BG [[2]]<|zD 16<|aH q0 (.tuple ⟨[(.map (some rm)),zI 0]⟩) [] [0,1] (NS++Z2) (Sub.refl _) ⟨_,_,rfl,rfl,rm,F2,NS,Z2,rfl,rfl,Fo,jW,hM2⟩
theorem aGE{v:Value}{S:List (List ah)}{ro:Nat→Option Obj}(hS:cP ro v S)(hO:fF S):eS zT 168 [.agg ⟨[v]⟩,.agg ⟨[zI 1,zI 1,zI 0,zI 0,zI 0,zI 0,zI 0]⟩] ro [] (fun r Y=>∃rm F LM Z,r= .tuple ⟨[.map (some rm),zI 0]⟩∧Y=LM++Z∧kD rm pq F LM∧F.map (·.1)=bB S∧MV Z F (yX S ⟨1,1,0,0,0,0,0⟩)):=by
 obtain⟨p,q,rfl⟩:=qn hO.two
 have yp:=hS
 obtain⟨ws,ht,dC⟩:=hS
 obtain⟨w1,w2,rfl⟩:=qn (dC.len.trans hO.two)
 obtain⟨fD,AF,AD,eA,rfl,AE,sL,sJ⟩:=ht
 refine bC au [] [] bu<|zD 2<|jn fun b2=>jn fun b3=>jd 8 [0]<|jp (vs:=[zI 1,zI 1,zI 7]) [] [] (fun aB hs hZ=>A7)<|jd 18 [1,0]<|jp (vs:=[zI 1,zI 0,zI 1]) [] [] (fun aB hs hZ=>A7)<|jd 70 [0,0,0,0,0,0]<|jne Gt (wU 0 0 0 0)<|zD 3<|js 73 (!(0==0&&(0==0&&true))) (fun h1=>?_) (fun h1=>?_)
 ·
  have gN:=h1
  try simp only[zB] at gN
  exact absurd gN (by decide)
 have gN:=h1
 try simp only[zB] at gN
 refine jd 6 [0]<|jne Gt (wU 0 0 0 0)<|zD 3<|js 82 (!(0==0&&(0==0&&true))) (fun h2=>?_) (fun h2=>?_)
 ·
  exact absurd h2 (by decide)
 refine jd 5 [1]<|jc (vs:=[.agg ⟨[.slice fD 2 eA]⟩]) [] (KE (yp) hO) ?_
 rintro _ _ ⟨rm,F,LM,Z,rfl,rfl,hmM,hkM,hMM⟩
 refine jg 0 [.l LM,.l Z]<|jd 10 [2,3,2]<|jp [] [] (fun aB hs hZ=>QS)<|zD 1<|aD 7 fun D5 Eb BG=>jc (vs:=[.agg ⟨[.slice fD 2 eA]⟩,.agg ⟨[zI 1,zI 1,zI 0,zI 0,zI 0,zI 0,zI 0]⟩,(.map (some rm))]) [0,1] (XI (s:=1) yp hO rfl hmM hkM hMM) ?_
 rintro _ _ ⟨F2,NS,Z2,rfl,rfl,Fo,jW,hM2⟩
 refine jg 0 [.l NS,.l Z2]<|iB BG [[2]]<|zD 16<|aH q0 (.tuple ⟨[(.map (some rm)),zI 0]⟩) [] [0,1] (NS++Z2) (Sub.refl _) ⟨_,_,rfl,rfl,rm,F2,NS,Z2,rfl,rfl,Fo,jW,hM2⟩
theorem aGD{v:Value}{S:List (List ah)}{ro:Nat→Option Obj}(hS:cP ro v S)(hO:fF S):eS zT 168 [.agg ⟨[v]⟩,.agg ⟨[zI 2,zI 1,zI 0,zI 0,zI 0,zI 0,zI 0]⟩] ro [] (fun r Y=>∃rm F LM Z,r= .tuple ⟨[.map (some rm),zI 0]⟩∧Y=LM++Z∧kD rm pq F LM∧F.map (·.1)=bB S∧MV Z F (yX S ⟨2,1,0,0,0,0,0⟩)):=by
 obtain⟨p,q,rfl⟩:=qn hO.two
 have yp:=hS
 obtain⟨ws,ht,dC⟩:=hS
 obtain⟨w1,w2,rfl⟩:=qn (dC.len.trans hO.two)
 obtain⟨fD,AF,AD,eA,rfl,AE,sL,sJ⟩:=ht
 refine bC au [] [] bu<|zD 2<|jn fun b2=>jn fun b3=>jd 8 [0]<|jp (vs:=[zI 2,zI 1,zI 7]) [] [] (fun aB hs hZ=>A7)<|jd 18 [1,0]<|jp (vs:=[zI 1,zI 0,zI 1]) [] [] (fun aB hs hZ=>A7)<|jd 70 [0,0,0,0,0,0]<|jne Gt (wU 0 0 0 0)<|zD 3<|js 73 (!(0==0&&(0==0&&true))) (fun h1=>?_) (fun h1=>?_)
 ·
  have gN:=h1
  try simp only[zB] at gN
  exact absurd gN (by decide)
 have gN:=h1
 try simp only[zB] at gN
 refine jd 6 [0]<|jne Gt (wU 0 0 0 0)<|zD 3<|js 82 (!(0==0&&(0==0&&true))) (fun h2=>?_) (fun h2=>?_)
 ·
  exact absurd h2 (by decide)
 refine jd 5 [1]<|jc (vs:=[.agg ⟨[.slice fD 2 eA]⟩]) [] (KE (yp) hO) ?_
 rintro _ _ ⟨rm,F,LM,Z,rfl,rfl,hmM,hkM,hMM⟩
 refine jg 0 [.l LM,.l Z]<|jd 10 [2,3,2]<|jp [] [] (fun aB hs hZ=>QS)<|zD 1<|aD 7 fun D5 Eb BG=>jc (vs:=[.agg ⟨[.slice fD 2 eA]⟩,.agg ⟨[zI 2,zI 1,zI 0,zI 0,zI 0,zI 0,zI 0]⟩,(.map (some rm))]) [0,1] (QQ (s:=1) yp hO rfl hmM hkM hMM) ?_
 rintro _ _ ⟨F2,NS,Z2,rfl,rfl,Fo,jW,hM2⟩
 refine jg 0 [.l NS,.l Z2]<|iB BG [[2]]<|zD 16<|aH q0 (.tuple ⟨[(.map (some rm)),zI 0]⟩) [] [0,1] (NS++Z2) (Sub.refl _) ⟨_,_,rfl,rfl,rm,F2,NS,Z2,rfl,rfl,Fo,jW,hM2⟩
theorem aGC{v:Value}{S:List (List ah)}{ro:Nat→Option Obj}(hS:cP ro v S)(hO:fF S):eS zT 168 [.agg ⟨[v]⟩,.agg ⟨[zI 4,zI 1,zI 0,zI 0,zI 0,zI 0,zI 0]⟩] ro [] (fun r Y=>∃rm F LM Z,r= .tuple ⟨[.map (some rm),zI 0]⟩∧Y=LM++Z∧kD rm pq F LM∧F.map (·.1)=bB S∧MV Z F (yX S ⟨4,1,0,0,0,0,0⟩)):=by
 obtain⟨p,q,rfl⟩:=qn hO.two
 have yp:=hS
 obtain⟨ws,ht,dC⟩:=hS
 obtain⟨w1,w2,rfl⟩:=qn (dC.len.trans hO.two)
 obtain⟨fD,AF,AD,eA,rfl,AE,sL,sJ⟩:=ht
 refine bC au [] [] bu<|zD 2<|jn fun b2=>jn fun b3=>jd 8 [0]<|jp (vs:=[zI 4,zI 1,zI 7]) [] [] (fun aB hs hZ=>A7)<|jd 18 [1,0]<|jp (vs:=[zI 1,zI 0,zI 1]) [] [] (fun aB hs hZ=>A7)<|jd 33 [0,0,0,0]<|jp (vs:=[zI 0,zI 0,zI 1]) [] [] (fun aB hs hZ=>A7)<|jd 36 [0,0,0]<|jne Gt (wU 0 0 0 0)<|zD 3<|js 73 (!(0==0&&(0==0&&true))) (fun h1=>?_) (fun h1=>?_)
 ·
  have gN:=h1
  try simp only[zB] at gN
  exact absurd gN (by decide)
 have gN:=h1
 try simp only[zB] at gN
 refine jd 6 [0]<|jne Gt (wU 0 0 0 0)<|zD 3<|js 82 (!(0==0&&(0==0&&true))) (fun h2=>?_) (fun h2=>?_)
 ·
  exact absurd h2 (by decide)
 refine jd 5 [1]<|jc (vs:=[.agg ⟨[.slice fD 2 eA]⟩]) [] (KE (yp) hO) ?_
 rintro _ _ ⟨rm,F,LM,Z,rfl,rfl,hmM,hkM,hMM⟩
 refine jg 0 [.l LM,.l Z]<|jd 10 [2,3,2]<|jp [] [] (fun aB hs hZ=>QS)<|zD 1<|aD 7 fun D5 Eb BG=>jc (vs:=[.agg ⟨[.slice fD 2 eA]⟩,.agg ⟨[zI 4,zI 1,zI 0,zI 0,zI 0,zI 0,zI 0]⟩,(.map (some rm))]) [0,1] (amP (s:=1) (o:=0) yp hO rfl hmM hkM hMM rfl) ?_
 rintro _ _ ⟨F2,NS,Z2,rfl,rfl,Fo,jW,hM2⟩
 refine jg 0 [.l NS,.l Z2]<|iB BG [[2]]<|zD 16<|aH q0 (.tuple ⟨[(.map (some rm)),zI 0]⟩) [] [0,1] (NS++Z2) (Sub.refl _) ⟨_,_,rfl,rfl,rm,F2,NS,Z2,rfl,rfl,Fo,jW,hM2⟩
def ZA(n:Nat):Int:=if n=0 then 0 else if n <2 then 1 else if n <4 then 2 else if n <8 then 3 else 4
theorem avW{ro:Nat→Option Obj}:∀ {n:Nat},n≤12→dO zT 132 [zU (n:Int)] ro (zI (ZA n))
 |0,_=>by refine bC au [] [] bu (zD 35 (ja 0 (by decide) (zD 3 ?_)));exact aH q0 (zI 0) [] [] [] (Sub.refl _) ⟨_,_,rfl,rfl,rfl,rfl⟩
 |1,_=>by refine bC au [] [] bu (zD 35 (ja 1 (by decide) (zD 3 ?_)));exact aH q0 (zI 1) [] [] [] (Sub.refl _) ⟨_,_,rfl,rfl,rfl,rfl⟩
 |2,_=>by refine bC au [] [] bu (zD 35 (ja 2 (by decide) (zD 3 ?_)));exact aH q0 (zI 2) [] [] [] (Sub.refl _) ⟨_,_,rfl,rfl,rfl,rfl⟩
 |3,_=>by refine bC au [] [] bu (zD 35 (ja 2 (by decide) (zD 3 ?_)));exact aH q0 (zI 2) [] [] [] (Sub.refl _) ⟨_,_,rfl,rfl,rfl,rfl⟩
 |4,_=>by refine bC au [] [] bu (zD 35 (ja 3 (by decide) (zD 3 ?_)));exact aH q0 (zI 3) [] [] [] (Sub.refl _) ⟨_,_,rfl,rfl,rfl,rfl⟩
 |5,_=>by refine bC au [] [] bu (zD 35 (ja 3 (by decide) (zD 3 ?_)));exact aH q0 (zI 3) [] [] [] (Sub.refl _) ⟨_,_,rfl,rfl,rfl,rfl⟩
 |6,_=>by refine bC au [] [] bu (zD 35 (ja 3 (by decide) (zD 3 ?_)));exact aH q0 (zI 3) [] [] [] (Sub.refl _) ⟨_,_,rfl,rfl,rfl,rfl⟩
 |7,_=>by refine bC au [] [] bu (zD 35 (ja 3 (by decide) (zD 3 ?_)));exact aH q0 (zI 3) [] [] [] (Sub.refl _) ⟨_,_,rfl,rfl,rfl,rfl⟩
 |8,_=>by refine bC au [] [] bu (zD 35 (ja 4 (by decide) (zD 3 ?_)));exact aH q0 (zI 4) [] [] [] (Sub.refl _) ⟨_,_,rfl,rfl,rfl,rfl⟩
 |9,_=>by refine bC au [] [] bu (zD 35 (ja 4 (by decide) (zD 3 ?_)));exact aH q0 (zI 4) [] [] [] (Sub.refl _) ⟨_,_,rfl,rfl,rfl,rfl⟩
 |10,_=>by refine bC au [] [] bu (zD 35 (ja 4 (by decide) (zD 3 ?_)));exact aH q0 (zI 4) [] [] [] (Sub.refl _) ⟨_,_,rfl,rfl,rfl,rfl⟩
 |11,_=>by refine bC au [] [] bu (zD 35 (ja 4 (by decide) (zD 3 ?_)));exact aH q0 (zI 4) [] [] [] (Sub.refl _) ⟨_,_,rfl,rfl,rfl,rfl⟩
 |12,_=>by refine bC au [] [] bu (zD 35 (ja 4 (by decide) (zD 3 ?_)));exact aH q0 (zI 4) [] [] [] (Sub.refl _) ⟨_,_,rfl,rfl,rfl,rfl⟩
 |n+13,h=>absurd h (by omega)
theorem abt(h:n≤1000):Value.int .u64 (IntKind.u64.wrap (n:Int))= zU (n:Int):=by
 rw[sP .u64 rfl _ (by omega) (by simp[IntKind.bits];omega)]
def NM(v:Value)(xs:List ah)(Y:Cells):Prop:=∃ys,ys.Perm xs∧ax v 2 70 cE ys Y
theorem avX{ro:Nat→Option Obj}(h:n≤12):dO zT 95 [zU (n:Int)] ro (zI (ZA n)):=by
 refine bC au [] [] bu<|zD 10<|jp (vs:=[zU (n:Int)]) [] [] (fun aB hs hZ=>(avW h))<|zD 3<|aH q0 (zI (ZA n)) [] [] [] (Sub.refl _) ⟨_,_,rfl,rfl,rfl,rfl⟩
theorem aUB{v:Value}{xs:List ah}{L:Cells}{a b:Int}{ro:Nat→Option Obj}(ho:ax v 2 70 cE xs L)(hN:xs.length≤1000)(Ft:0≤a∧a≤b∧b≤xs.length):eS zT 247 [v,zI a,zI b,.func (.func 176) ⟨[]⟩ ⟨[]⟩] ro L (fun r Y=>NM v xs Y):=by
 refine bC au [.l L] [] bu<|zD 3<|ja (a+1) (by omega)<|zD 3<|eO [1,0,0] [] (fun(zz:Int×(List ah)×Cells)=>[(0,v),(1,zI a),(2,zI b),(3,.func (.func 176) ⟨[]⟩ ⟨[]⟩),(8,zI zz.1)]) (fun(zz:Int×(List ah)×Cells)=>[.l zz.2.2]) (fun(zz:Int×(List ah)×Cells)=>(a+1≤zz.1)∧ax v 2 70 cE zz.2.1 zz.2.2∧zz.2.1.Perm xs) (fun(zz:Int×(List ah)×Cells)=>(b-zz.1).toNat) (⟨(a+1),xs,L⟩) ⟨by dsimp only;omega,ho,.refl _⟩ [0] ?_
 rintro⟨i,ys,L⟩ hI K1 bG rest
 dsimp only at hI
 have Xa:=hI.2.2.length_eq
 refine zD 7<|zJ 14 (i <b) (fun h1=>?_) fun h1=>?_
 ·
  refine zD 10<|eO [1,0,0,1,0,0,1,0,0] [K1] (fun(zz:Int×(List ah)×Cells)=>[(0,v),(1,zI a),(2,zI b),(3,.func (.func 176) ⟨[]⟩ ⟨[]⟩),(8,zI i),(9,zI zz.1)]) (fun(zz:Int×(List ah)×Cells)=>[.l zz.2.2]) (fun(zz:Int×(List ah)×Cells)=>(a≤zz.1∧zz.1≤i)∧ax v 2 70 cE zz.2.1 zz.2.2∧zz.2.1.Perm xs) (fun(zz:Int×(List ah)×Cells)=>(zz.1-a).toNat) (⟨i,ys,L⟩) ⟨by dsimp only;omega,hI.2⟩ [0] ?_
  rintro⟨j,ys,L⟩ hJ K2 mg rest
  dsimp only at hJ
  have Xa:=hJ.2.2.length_eq
  refine zD 7<|js 3 (decide (j>a)) (fun h2=>?_) (fun h2=>?_)
  ·
   have lM:=h2
   replace lM:=of_decide_eq_true lM
   refine zD 3 ?_
   obtain⟨yD,ma⟩:=zG ys (j.toNat) (by first|omega| (simp only[List.length_set];omega))
   refine qD j 2 hJ.2.1 ma (Int.toNat_of_nonneg (show 0≤j∧j <((ys).length:Int) from (by first|omega| (simp only[List.length_set];omega))).1).symm (fun eg af9=>?_)
   refine px 0 [0] L (fun s _ hZ=>cD hJ.2.1 af9 hZ ma)<|zD 2<|ja (j-1) (by omega) ?_
   obtain⟨oG,jF⟩:=zG ys ((j-1).toNat) (by first|omega| (simp only[List.length_set];omega))
   refine qD (j-1) 2 hJ.2.1 jF (Int.toNat_of_nonneg (show 0≤(j-1)∧(j-1) <((ys).length:Int) from (by first|omega| (simp only[List.length_set];omega))).1).symm (fun b30 Ui=>?_)
   refine px 0 [0] L (fun s _ hZ=>cD hJ.2.1 Ui hZ jF)<|aD 14 fun rZ r8 qL=>jp (vs:=[.agg ⟨[zI yD.n,zI yD.l]⟩,.agg ⟨[zI oG.n,zI oG.l]⟩]) [] [] (fun aB hs hZ=>(apK (x:=yD) (y:=oG)))<|ba qL [0]<|zD 3<|zJ 34 ((aar yD oG) <0) (fun h4=>?_) fun h4=>?_
   ·
    refine zD 9<|ja (j-1) (by omega)<|zD 2<|ja (j-1) (by omega) ?_
    obtain⟨xS,Ey⟩:=zG ys ((j-1).toNat) (by first|omega| (simp only[List.length_set];omega))
    refine qD (j-1) 2 hJ.2.1 Ey (Int.toNat_of_nonneg (show 0≤(j-1)∧(j-1) <((ys).length:Int) from (by first|omega| (simp only[List.length_set];omega))).1).symm (fun b45 af8=>?_)
    refine px 0 [0] L (fun s _ hZ=>cD hJ.2.1 af8 hZ Ey)<|zD 2 ?_
    obtain⟨Iy,Ex⟩:=zG ys (j.toNat) (by first|omega| (simp only[List.length_set];omega))
    refine qD j 2 hJ.2.1 Ex (Int.toNat_of_nonneg (show 0≤j∧j <((ys).length:Int) from (by first|omega| (simp only[List.length_set];omega))).1).symm (fun b49 af7=>?_)
    refine px 0 [0] L (fun s _ hZ=>cD hJ.2.1 af7 hZ Ex) ?_
    obtain⟨x51,Ew⟩:=zG ys (j.toNat) (by first|omega| (simp only[List.length_set];omega))
    refine qD j 2 hJ.2.1 Ew (Int.toNat_of_nonneg (show 0≤j∧j <((ys).length:Int) from (by first|omega| (simp only[List.length_set];omega))).1).symm (fun b51 af6=>?_)
    refine aD 15 fun sN sU ri=>RL 0 0 [zI xS.n,zI xS.l] (⟨xS.n,xS.l⟩:ah) hJ.2.1 af6 Ew rfl rfl (Nat.le_of_ble_eq_true rfl) fun L6 ZW=>iB ri [] ?_
    obtain⟨x52,wE⟩:=zG ((ys.set j.toNat (⟨xS.n,xS.l⟩:ah))) ((j-1).toNat) (by first|omega| (simp only[List.length_set];omega))
    refine qD (j-1) 2 ZW wE (Int.toNat_of_nonneg (show 0≤(j-1)∧(j-1) <(((ys.set j.toNat (⟨xS.n,xS.l⟩:ah))).length:Int) from (by first|omega| (simp only[List.length_set];omega))).1).symm (fun b52 af5=>?_)
    refine aD 17 fun Aj Av A5=>RL 0 0 [zI Iy.n,zI Iy.l] (⟨Iy.n,Iy.l⟩:ah) ZW af5 wE rfl rfl (Nat.le_of_ble_eq_true rfl) fun L9 afr=>cw A5<|zD 3<|ja (j-1) (by omega)<|zD 2<|bF mg (⟨(j-1),((ys.set j.toNat (⟨xS.n,xS.l⟩:ah)).set ((j-1).toNat) (⟨Iy.n,Iy.l⟩:ah)),L9⟩) ⟨by dsimp only;omega,afr,(nY Ex Ey).trans hJ.2.2⟩ (by dsimp only;omega) [0] (Sub.refl _)
   refine zD 4<|ja (i+1) (by omega)<|zD 2<|bF bG (⟨(i+1),ys,L⟩) ⟨by dsimp only;omega,hJ.2⟩ (by dsimp only;omega) [0] (Sub.refl _)
  have lM:=h2
  replace lM:=of_decide_eq_false lM
  refine zD 18<|ja (i+1) (by omega)<|zD 2<|bF bG (⟨(i+1),ys,L⟩) ⟨by dsimp only;omega,hJ.2⟩ (by dsimp only;omega) [0] (Sub.refl _)
 refine zD 2<|aH q0 (.tuple ⟨[]⟩) [] [0] L (Sub.refl _) ⟨_,_,rfl,rfl,ys,hI.2.2,hI.2.1⟩
theorem aUz{v:Value}{xs:List ah}{L:Cells}{lim:Int}{ro:Nat→Option Obj}(ho:ax v 2 70 cE xs L)(hN:xs.length≤12):eS zT 229 [v,zI 0,zI (xs.length:Int),zI lim,.func (.func 176) ⟨[]⟩ ⟨[]⟩] ro L (fun r Y=>NM v xs Y):=by
 refine bC au [.l L] [] bu<|zD 9<|eO [1,1,0,0] [] (fun(zz:Nat)=>[(0,v),(1,zI 0),(2,zI (xs.length:Int)),(3,zI lim),(4,.func (.func 176) ⟨[]⟩ ⟨[]⟩),(10,.bool true),(11,.bool true)]) (fun(zz:Nat)=>[.l L]) (fun(zz:Nat)=>True) (fun(zz:Nat)=>zz) 0 trivial [0] ?_
 rintro z hI K1 bG rest
 refine zD 5<|ja ((xs.length:Int)-0) (by omega)<|zD 8<|zJ 25 (((xs.length:Int)-0)≤12) (fun h1=>?_) fun h1=>?_
 ·
  refine zD 7<|jc (vs:=[v,zI 0,zI (xs.length:Int),.func (.func 176) ⟨[]⟩ ⟨[]⟩]) [0] (aUB ho (by omega) (by omega)) ?_
  rintro azB Y30 ⟨aK4,atP,Cw⟩
  refine zD 2<|aH q0 (.tuple ⟨[]⟩) [] [0] Y30 (Sub.refl _) ⟨_,_,rfl,rfl,_,atP,Cw⟩
 exfalso;omega
theorem ahf{v:Value}{xs:List ah}{L:Cells}{ro:Nat→Option Obj}(ho:ax v 2 70 cE xs L)(hN:xs.length≤12):eS zT 202 [v,.func (.func 176) ⟨[]⟩ ⟨[]⟩] ro L (fun r Y=>NM v xs Y):=by
 refine bC au [.l L] [] bu<|zD 3<|Fe ho<|zD 6<|je (zU (xs.length:Int)) (abt (by omega))<|jp (vs:=[zU (xs.length:Int)]) [] [] (fun aB hs hZ=>(avX (by omega)))<|zD 1<|jc (vs:=[v,zI 0,zI (xs.length:Int),zI (ZA xs.length),.func (.func 176) ⟨[]⟩ ⟨[]⟩]) [0] (aUz ho (by omega)) ?_
 rintro azC Y13 ⟨aK6,ZU,T3⟩
 refine zD 1<|aH q0 (.tuple ⟨[]⟩) [] [0] Y13 (Sub.refl _) ⟨_,_,rfl,rfl,_,ZU,T3⟩
theorem aGy{v:Value}{xs:List ak}{L:Cells}{ro:Nat→Option Obj}(ho:ax v 3 144 cF xs L)(hN:xs.length≤1):eS zT 204 [v,zI 0,zI (xs.length:Int),.func (.func 121) ⟨[]⟩ ⟨[]⟩] ro L (fun r Y=>ax v 3 144 cF xs Y):=by
 refine bC au [.l L] [] bu<|zD 7<|eO [1,0,0] [] (fun(zz:Nat)=>[(0,v),(1,zI 0),(2,zI (xs.length:Int)),(3,.func (.func 121) ⟨[]⟩ ⟨[]⟩),(8,zI (0+1))]) (fun(zz:Nat)=>[.l L]) (fun(zz:Nat)=>True) (fun(zz:Nat)=>zz) 0 trivial [0] ?_
 rintro z hI K1 bG rest
 refine zD 7<|zJ 14 ((0+1) <(xs.length:Int)) (fun h1=>?_) fun h1=>?_
 ·
  exfalso;omega
 refine zD 2<|aH q0 (.tuple ⟨[]⟩) [] [0] L (Sub.refl _) ⟨_,_,rfl,rfl,ho⟩
theorem aGt{v:Value}{xs:List ak}{L:Cells}{lim:Int}{ro:Nat→Option Obj}(ho:ax v 3 144 cF xs L)(hN:xs.length≤1):eS zT 174 [v,zI 0,zI (xs.length:Int),zI lim,.func (.func 121) ⟨[]⟩ ⟨[]⟩] ro L (fun r Y=>ax v 3 144 cF xs Y):=by
 refine bC au [.l L] [] bu<|zD 9<|eO [1,1,0,0] [] (fun(zz:Nat)=>[(0,v),(1,zI 0),(2,zI (xs.length:Int)),(3,zI lim),(4,.func (.func 121) ⟨[]⟩ ⟨[]⟩),(10,.bool true),(11,.bool true)]) (fun(zz:Nat)=>[.l L]) (fun(zz:Nat)=>True) (fun(zz:Nat)=>zz) 0 trivial [0] ?_
 rintro z hI K1 bG rest
 refine zD 5<|ja ((xs.length:Int)-0) (by omega)<|zD 8<|zJ 25 (((xs.length:Int)-0)≤12) (fun h1=>?_) fun h1=>?_
 ·
  refine zD 7<|jc (vs:=[v,zI 0,zI (xs.length:Int),.func (.func 121) ⟨[]⟩ ⟨[]⟩]) [0] (aGy ho (by omega)) ?_
  rintro azB Y30 Cw
  refine zD 2<|aH q0 (.tuple ⟨[]⟩) [] [0] Y30 (Sub.refl _) ⟨_,_,rfl,rfl,Cw⟩
 exfalso;omega
theorem avV{v:Value}{xs:List ak}{L:Cells}{ro:Nat→Option Obj}(ho:ax v 3 144 cF xs L)(hN:xs.length≤1):eS zT 120 [v,.func (.func 121) ⟨[]⟩ ⟨[]⟩] ro L (fun r Y=>ax v 3 144 cF xs Y):=by
 refine bC au [.l L] [] bu<|zD 3<|Fe ho<|zD 6<|je (zU (xs.length:Int)) (abt (by omega))<|jp (vs:=[zU (xs.length:Int)]) [] [] (fun aB hs hZ=>(avX (by omega)))<|zD 1<|jc (vs:=[v,zI 0,zI (xs.length:Int),zI (ZA xs.length),.func (.func 121) ⟨[]⟩ ⟨[]⟩]) [0] (aGt ho (by omega)) ?_
 rintro azC Y13 T3
 refine zD 1<|aH q0 (.tuple ⟨[]⟩) [] [0] Y13 (Sub.refl _) ⟨_,_,rfl,rfl,T3⟩
theorem ahj{v:Value}{xs:List ak}{L:Cells}{ro:Nat→Option Obj}(ho:ax v 3 144 cF xs L)(hN:xs.length≤1):eS zT 122 [v] ro L (fun r Y=>v=r∧L=Y):=by
 refine bC au [.l L] [] bu<|zD 8<|Fe ho<|zD 2<|zJ 8 ((xs.length:Int) <2) (fun h1=>?_) fun h1=>?_
 ·
  refine zD 7<|aH q0 (v) [] [0] L (Sub.refl _) ⟨_,_,rfl,rfl,rfl,rfl⟩
 exfalso;omega
theorem XJ{v:Value}{xs:List ak}{ro:Nat→Option Obj}(hl:bE ro v 3 cF xs)(hN:xs.length≤1):eS zT 92 [v] ro [] (fun r Y=>ax r 3 144 cF xs Y):=by
 obtain⟨fS,sj,si,fe,rfl,tY,mw,nj⟩:=hl
 refine bC au [] [] bu<|zD 7<|jc (vs:=[.slice fS xs.length fe]) [] (aUE (show bE _ _ _ _ _ from ⟨fS,sj,si,fe,rfl,tY,mw,nj⟩) (by first|omega| (simp only[List.length_set,List.length_append,List.length_cons,List.length_nil];omega))) ?_
 rintro v5 L5 ho5
 obtain⟨va5,vc5,he5⟩:=ho5.form
 subst he5
 refine zD 5<|jc (vs:=[(.slice va5 (xs).length vc5),.func (.func 121) ⟨[]⟩ ⟨[]⟩]) [0] (avV ho5 (by omega)) ?_
 rintro rv7 Y7 ZW
 refine zD 4<|jc (vs:=[(.slice va5 (xs).length vc5)]) [0] (ahj ZW (by omega)) ?_
 rintro _ _ ⟨rfl,rfl⟩
 refine zD 3<|aH q0 ((.slice va5 (xs).length vc5)) [] [0] Y7 (Sub.refl _) ⟨_,_,rfl,rfl,ZW⟩
theorem MV.put{F:List (ak×Value)}{g:ak→ak}(h:MV Z F g){k:ak}{v:Value}(hv:∀aF,Knows aF Z2→bE aF v 3 cF [g k]):MV (Z++Z2) (mV k v F) g:=by
 have h1:∀x∈mV k v F,x=(k,v)∨x∈F:=fun x hx=>by
  unfold mV at hx
  split at hx
  ·rw[E7] at hx
   obtain⟨i,hi⟩:=List.getElem?_of_mem hx
   rw[List.getElem?_set] at hi
   split at hi
   ·split at hi
    ·cases hi;exact .inl rfl
    cases hi
   exact .inr (List.mem_of_getElem? hi)
  rcases List.mem_append.1 hx with h|h
  ·exact .inr h
  exact .inl (List.mem_singleton.1 h)
 intro aF hr x hx
 rcases h1 x hx with rfl|hx
 ·exact hv aF hr.right
 exact h aF hr.left x hx
theorem Oy[DecidableEq κ]{k x:κ}{v:Value}{F:List (κ×Value)}(h:x=k∨x∈F.map (·.1)):x∈(mV k v F).map (·.1):=by
 unfold mV
 split
 ·rename_i i u hf
  have zd:=(qO hf).2
  rw[Nat.sub_zero] at zd
  have hs:((F.set i (k,v)).map (·.1))=F.map (·.1):=by
   rw[List.map_set]
   refine List.ext_getElem? fun j=>?_
   rw[List.getElem?_set]
   split
   ·rename_i hj;subst hj;simp[zd,(List.getElem?_eq_some_iff.1 zd).1,(List.getElem?_eq_some_iff.1 zd).2]
   rfl
  rw[E7,hs]
  rcases h with rfl|h
  ·exact List.mem_map_of_mem (f:=(·.1)) (List.mem_of_getElem? zd)
  exact h
 rw[List.map_append]
 rcases h with rfl|h
 ·exact List.mem_append_right _ (by simp)
 exact List.mem_append_left _ h
def Seen(es:Array MapEntry)(seen:List Nat)(F:List (ak×Value)):Prop:=∀e∈es.toList,e∈cG es seen∨∃k,e.key=pq k∧k∈F.map (·.1)
theorem Seen.start{es:Array MapEntry}{F:List (ak×Value)}:Seen es [] F:=fun e he=> .inl (by rw[Cr];exact he)
theorem Seen.step{es:Array MapEntry}{ck:Nat}{F0 F:List (ak×Value)}(h:Seen es seen F)(hE:tJ pq F0 es ck){e:MapEntry}(he:e∈cG es seen){k:ak}(hk:e.key=pq k){v:Value}:Seen es (seen++[e.born]) (mV k v F):=fun x hx=>by
 rcases h x hx with h1| ⟨q,h1,h2⟩
 ·rcases Tu hE he h1 with rfl|h2
  ·exact .inr ⟨k,hk,Oy (.inl rfl)⟩
  exact .inl h2
 exact .inr ⟨q,h1,Oy (.inr h2)⟩
theorem aln{a b:ak}(h:pq a=pq b):a=b:=by
 rcases a with ⟨x,y,z⟩;rcases b with ⟨d,e,f⟩
 simp only[pq,cF,Value.agg.injEq,Array.mk.injEq,List.cons.injEq,Value.int.injEq] at h
 simp[h.1.2,h.2.1.2,h.2.2.1.2]
theorem Seen.fin{es:Array MapEntry}{ck:Nat}{F0 F:List (ak×Value)}(h:Seen es seen F)(hl:cG es seen=[])(hE:tJ pq F0 es ck){k:ak}(hk:k∈F0.map (·.1)):k∈F.map (·.1):=by
 obtain⟨⟨k',v⟩,h1,rfl⟩:=List.mem_map.1 hk
 have:(pq k',v)∈es.toList.map (fun e=>(e.key,e.val)):=by rw[hE.1];exact List.mem_map_of_mem (f:=fun x:ak×Value=>(pq x.1,x.2)) h1
 obtain⟨e,h2,h3⟩:=List.mem_map.1 this
 simp only[Prod.mk.injEq] at h3
 rcases h e h2 with h4| ⟨q,h4,h5⟩
 ·rw[hl] at h4;cases h4
 have:=aln (h3.1.symm.trans h4);subst this;exact h5
structure Rz(ro:Nat→Option Obj)(r:Nat)(H:List ak)(g:ak→ak)(es:Array MapEntry)(ck:Nat)(F:List (ak×Value)):Prop where
 m:ro r=some (.map es ck)
 e:tJ pq F es ck
 k:F.map (·.1)=H
 v:∀x∈F,bE ro x.2 3 cF [g x.1]
theorem Gp{a x:α}(h: [a][j]?=some x):x=a∧j=0:=by
 cases j with
 |zero=>simp at h;exact⟨h.symm,rfl⟩
 |succ j=>simp at h
theorem apI{r1 Ix:Nat}{BJ:Array MapEntry}{F1:List (ak×Value)}{r2 ck2:Nat}{EL:Array MapEntry}{F2:List (ak×Value)}{H:List ak}{g:ak→ak}{ro:Nat→Option Obj}(It:Rz ro r1 H id BJ Ix F1)(hP2:Rz ro r2 H g EL ck2 F2):eS zT 171 [(.map (some r1)),(.map (some r2))] ro [] (fun r Y=>∃rm F LM Z,r= .map (some rm)∧Y=LM++Z∧kD rm pq F LM∧(∀h∈H,h∈F.map (·.1))∧MV Z F g):=by
 refine bC au [] [] bu<|zD 6<|jmk pq fun Ga L11 afy=>zD 6<|jmR It.m fun r13=>jg 0 [.b r13 (uZ r1 Ix [])]<|zD 2<|py<|eO [1,1,0,1,0,0] [] (fun(zz:(List Nat)×(List (ak×Value))×Cells×Cells)=>[(1,(.map (some r2))),(4,(.map none)),(5,(.map (some Ga))),(13,zP r13)]) (fun(zz:(List Nat)×(List (ak×Value))×Cells×Cells)=>[.b r13 (uZ r1 Ix zz.1),.l zz.2.2.1,.l zz.2.2.2]) (fun(zz:(List Nat)×(List (ak×Value))×Cells×Cells)=>kD Ga pq zz.2.1 zz.2.2.1∧Seen BJ zz.1 zz.2.1∧MV zz.2.2.2 zz.2.1 g) (fun(zz:(List Nat)×(List (ak×Value))×Cells×Cells)=>(cG BJ zz.1).length) (⟨[],[],L11,[]⟩) ⟨afy,Seen.start,fun _ _ _ h=>(by cases h)⟩ [1,2,0] ?_
 rintro⟨seen,F,LM,Z⟩ hI K1 bG rest
 dsimp only at hI
 refine zD 2<|jmN (it:=r13) (kv:=pq) (seen:=seen) 0 It.m It.e (fun N2 v14 Nq aC9 vw T8 aQk=>?_) (fun aPL=>?_)
 ·
  have hkH:N2∈H:=by rw[←It.k];exact List.mem_map_of_mem (f:=(·.1)) aC9
  have hvv:bE ro v14 3 cF [N2]:=It.v _ aC9
  obtain⟨O9,qvb,qvo,Ee,rfl,qvk,S2,S1⟩:=hvv
  refine jg 0 [.b r13 (uZ r1 Ix (seen++[Nq.born]))]<|zD 8<|jmE (it:=r13) 0 It.m It.e vw T8 aQk<|jg 0 [.b r13 (uZ r1 Ix (seen++[Nq.born]))]<|zD 2<|jn fun b6=>jd 15 [0]<|py<|eO [1,1,0,1,0,0,1,1,0,1,1,0,1,0,0] [K1] (fun(zz:Nat×Value×Cells)=>[(1,(.map (some r2))),(4,(.map none)),(5,(.map (some Ga))),(6,zP b6),(8,zz.2.1),(13,zP r13),(19,.slice O9 ([N2].length) Ee),(20,zI ([N2].length:Int)),(21,zI (zz.1:Int))]) (fun(zz:Nat×Value×Cells)=>[.l zz.2.2,.b b6 (.cells ⟨[zI N2.h,zI N2.n,zI N2.l]⟩ 144 (0,0)),.b r13 (uZ r1 Ix (seen++[Nq.born])),.l LM,.l Z]) (fun(zz:Nat×Value×Cells)=>zz.1≤[N2].length∧ax zz.2.1 3 144 cF ([g N2].take zz.1) zz.2.2) (fun(zz:Nat×Value×Cells)=>[N2].length-zz.1) (⟨0,zS,[]⟩) ⟨by simp,ax.nil _ _ _⟩ [0,1,2,3,4] ?_
  rintro⟨i,vO,LO⟩ hJ K2 mg rest
  dsimp only at hJ
  have RV: [N2].length=1:=rfl
  refine zD 5<|zJ 22 ((i:Int) <([N2].length:Int)) (fun h1=>?_) fun h1=>?_
  ·
   refine zD 6 ?_
   obtain⟨vG,tt⟩:=zG ([N2]) i
   refine jb Ee 3 S2 tt<|jl 0 (S1 _ _ tt)<|jn fun pH=>jd 2 [0] ?_
   obtain⟨hxe,hj0⟩:=Gp tt
   refine jd 4 [0]<|jlu (kv:=pq) (F:=F2) (r:=r2) (K:=144) vG (zS) false [] [] DE (fun s he _=>⟨_,_,he _ _ (.inl hP2.m),hP2.e⟩) ?_
   obtain⟨w28,aP6,at7⟩:=WM (k:=vG) (F:=F2) (by rw[hP2.k,hxe];exact hkH)
   have hww:bE ro w28 3 cF [g vG]:=hP2.v _ at7
   obtain⟨S0,qwb,qwo,LQ,rfl,qwk,qwh,qwl⟩:=hww
   refine jw 28 (.slice S0 ([g vG].length) LQ) (show PX (zS) false vG F2=_ from by simp only[PX,aP6];rfl) ?_
   refine jE (sz:=3) (ps:=([g N2].take i)) (qs:=[g vG]) (enc:=cF) (w:= .slice S0 ([g vG].length) LQ) [1] [] [] (hJ.2) (fun s he _=>⟨S0,qwb,qwo,LQ,rfl,qwh,fun i p hp=>(qwl i p hp).ext he⟩) (fun p _=>ai rfl) (by simp only[List.length_take,List.length_cons,List.length_nil];omega) (fun v29 L29 G3=>?_)
   obtain⟨abO,abH,afV⟩:=G3.form
   subst afV
   refine zD 3<|ja ((i:Int)+1) (by omega)<|zD 2<|bF mg (⟨i+1,(.slice abO ((([g N2].take i)++[g vG])).length abH),L29⟩) ⟨by dsimp only;omega,by have:=G3;rw[hj0] at this ⊢;rw[hxe] at this;exact this⟩ (by dsimp only;omega) [0,2,3,4,5] (Sub.refl _)
  refine jd 6 [1]<|aD 3 fun rZ r8 qL=>jcL (vs:=[vO]) [] [0] LO (fun aB hs hZ=>XJ (hJ.2.lR hZ) (by simp only[List.length_take,List.length_cons,List.length_nil];omega)) ?_
  rintro v34 L34 aQZ
  refine ba qL [1,2,3,4,5]<|aD 4 fun sN sU ri=>jmu (kv:=pq) (F:=F) (r:=Ga) (K:=144) 4 N2 (v34) DE hI.1 fun Lm4 hm4=>cw ri<|zD 1<|Km bG (⟨(seen++[Nq.born]),_,Lm4,Z++L34⟩) ⟨hm4,hI.2.1.step It.e vw T8,hI.2.2.put fun aF hk=>(by have:=aQZ;rw[show ([g N2].take i)=[g N2] from List.take_of_length_le (by simp;omega)] at this;exact this.lR hk)⟩ (GG vw) [[4],[0],[5,1]] (Sub.refl _)
 refine jg 0 [.b r13 (uZ r1 Ix seen)]<|zD 11<|aH q0 ((.map (some Ga))) [] [1,2] (LM++Z) (Sub.refl _) ⟨_,_,rfl,rfl,Ga,F,LM,Z,rfl,rfl,hI.1,fun h hh=>hI.2.1.fin aPL It.e (by rw[It.k];exact hh),hI.2.2⟩
end Go.L
