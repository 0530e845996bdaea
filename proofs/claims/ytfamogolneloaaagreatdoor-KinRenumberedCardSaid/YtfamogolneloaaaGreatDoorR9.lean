/- Part 9 of the proof. -/
import Derived.Test.YtfamogolneloaaaGreatDoorR8
set_option maxRecDepth 100000
set_option linter.all false
namespace Go.L
open Go Go.Conc Go.Proofs
open Go.ConcR (KK wgBlock WgAt stA smA rd wr)
variable {K:aI} {l fi ca:List Value} {W:List (List Int)} {Z Z2 LM:Cells} {α κ:Type} {F:Nat→Nat→Bool} {i k f n s rm j:Nat} {g:FuncId} {seen:List Nat} {xs:List Int} {ck c5 c6:Int}
abbrev pV(b:Nat):Value:= zP b
noncomputable def Es(f i:Nat):Array Oper:=cO (codeOf zT f) i
noncomputable def aVE(f i:Nat):Code:=((codeOf zT f)[i]?).getD .skip
def nz(K:aI)(on:Int)(keep:ai→Bool)(r:bF)(past:Nat):List ai:=((aO K on).map (cw K r past)).filter keep
noncomputable def YB(f:Nat):Code:=(((Tryz.prog.funcs[f]?).getD default).body).getD .skip
theorem jJ{l:List α}{x:α}(h:l[k]?=some x):l.take (k+1)=l.take k++[x]:=by rw[List.take_succ,h];rfl
theorem awv:gP [YB 105]=[.region 0 (Es 105 0) false,.region 1 (Es 105 1) false,.region 2 (Es 105 2) false,aVE 105 3,.region 7 (Es 105 4) false]:=by kernel_rfl
theorem aBH{rows:List bF}{on:Int}{past:Nat}{IT:bF}{keep:ai→Bool}{ro:Nat→Option Obj}{Wg Ch:Nat}{gX:Os}{cz:Array (Nat×ByteArray)}{b3 b4 b5 b7 b9:Nat}(hV:fe K)(hF:pq ro f K rows)(Cp:rows[past]?=some IT) (Hc:BD zT g=true)
 (iB:∀aG,Sub ro aG→∀p∈aO K on,dt zT g (fi++[.agg ⟨cu (cw K IT past p)⟩]++ca) aG (.bool (keep (cw K IT past p))))
 (g3:ro b3=some (.cells ⟨[pV f]⟩ 104 (0,0))) (g4:ro b4=some (.cells ⟨[.int .u8 on]⟩ 120 (0,0))) (g9:ro b9=some (.cells ⟨[zI (past:Int)]⟩ 3 (0,0))) (g5:ro b5=some (.cells ⟨[.func (.func g) ⟨fi⟩ ⟨ca⟩]⟩ 116 (0,0))) (g7:ro b7=some (.cells ⟨[.chan (some Ch)]⟩ 185 (0,0))):
 eS zT false ((nF Wg Ch gX cz).JE (nz K on keep IT past)) (born zT {target:= .fn (.func 105) ⟨[pV Wg,pV b3,pV b4,pV b9,pV b5,pV b7]⟩,args:= #[]}) ⟨ro,[]⟩:=by
 have hT:Closed zT false (eS zT false ((nF Wg Ch gX cz).JE (nz K on keep IT past))):=eg _ _ _
 refine azP (fn:=(Tryz.prog.funcs[105]?).getD default) (c:=YB 105) (n:=26) (by kernel_rfl) (by kernel_rfl) (by kernel_rfl) (by kernel_rfl) (by rfl)<|qi hT awv fun l1 Cw=>?_
 refine arF hT (a:=eP (Es 105 0) 0) (f:=106) (xs:= #[.tmp 0]) (vs:=[pV Wg]) (ats:=ai5 (eP (Es 105 0) 0)) (by kernel_rfl) (by kernel_rfl) (by kernel_rfl) (by decide) rfl<|qi hT Cw fun l2 qS=>?_
 refine vD au hT<|jn fun b6=>zD 1<|xM<|qi hT qS fun l3 Oy=>?_
 refine vD au hT<|jl (b:=b3) (off:=0) (m:=1) (vs:=[pV f]) 0 ⟨_,_,_,.inl g3,rfl⟩<|jl (b:=b4) (off:=0) (m:=1) (vs:=[.int .u8 on]) 0 ⟨_,_,_,.inl g4,rfl⟩<|jc [] (KM (on:=on) hF hV) ?_
 rintro _ _ ⟨q1,q2,q3,q4,rfl,rfl⟩
 refine jf [0] [(q1,.cells ⟨[pV f]⟩ 104 (0,0)),(q2,.cells ⟨[.func (.func 127) ⟨[]⟩ ⟨[pV q1,pV q4]⟩]⟩ 221 (0,0)),(q3,.cells ⟨CX ⟨dk K on⟩⟩ 159 (0,0)),(q4,.cells ⟨[.int .u8 on]⟩ 120 (0,0))] fun aC bY hk1=>zD 1<|azN<|aoV hT Oy fun l4 Ox=>?_
 refine azO au hT ?_
 have CH:=hF.up bY
 refine zD 1<|oH ?_
 refine jrf [] (Xo (on:=on) CH hV (hk1 _ (.head _)) (hk1 _ (.tail _ (.head _))) (hk1 _ (.tail _ (.tail _ (.head _)))) (hk1 _ (.tail _ (.tail _ (.tail _ (.head _)))))) (by rintro _ _ _ _ ⟨_,_,rfl,_⟩;rfl)
  (fun(zz:Value×Cells)=>[.b b6 (.cells ⟨[zz.1]⟩ 108 (0,0)),.l zz.2]) (fun kk=>(fun(zz:Value×Cells)=>az zz.1 8 115 cu ((((aO K on).take kk).map (cw K IT past)).filter keep) zz.2)) (fun jump=>(fun(zz:Value×Cells)=>False)) (⟨zS,[]⟩) (az.nil _ _ _) [1,0] ?_ ?_ ?_
 ·rintro bl bd kk vs LL ⟨v,Lb⟩ mg iU ⟨p,hp,rfl,rfl⟩ hI oU
  dsimp only at hI
  have aCG:=List.mem_of_getElem? hp
  have hp4:=(gi hV on).2 p aCG
  have Nj:=Sub.trans bY oU
  have hlen:((((aO K on).take kk).map (cw K IT past)).filter keep).length≤625:=by
   refine Nat.le_trans (List.length_filter_le _ _) ?_
   rw[List.length_map,List.length_take]
   have:=(gi hV on).1
   omega
  refine zD 1<|jn fun jQ=>jd 2 [0]<|jbI 1<|zD 3<|jl (b:=b3) (off:=0) (m:=1) (vs:=[pV f]) 0 ⟨_,_,_,.inl (Nj _ _ g3),rfl⟩<|jl (b:=b9) (off:=0) (m:=1) (vs:=[zI (past:Int)]) 0 ⟨_,_,_,.inl (Nj _ _ g9),rfl⟩<|jd 1 [0]<|jp (vs:=[pV f,zI (past:Int),.agg ⟨eP4 p⟩]) [] [] (fun yH hs hZ=>apw (hF.up (Sub.trans Nj hs)) hV Cp hp4)<|jn fun Aa=>jd 4 [0]<|jl (b:=b5) (off:=0) (m:=1) (vs:=[.func (.func g) ⟨fi⟩ ⟨ca⟩]) 0 ⟨_,_,_,.inl (Nj _ _ g5),rfl⟩<|jd 1 [0]<|jpF (f:=g) (V:= .bool (keep (cw K IT past p))) (vs:=fi++[Value.agg ⟨cu (cw K IT past p)⟩]++ca) [] [] Hc (fun yH hs hZ=>iB _ (Sub.trans Nj hs) p aCG)<|zD 1<|js 19 (keep (cw K IT past p)) (fun h5=>?_) (fun h5=>?_)
  ·refine jd 4 [3,0]<|jn fun nq=>jq (sz:=8) (ps:=(((aO K on).take kk).map (cw K IT past)).filter keep) (qs:=[cw K IT past p]) (enc:=cu) (w:= .slice (some ⟨nq,0,none⟩) 1 1) [5] [0] [(nq,.cells ⟨([cw K IT past p].map cu).flatten⟩ 115 (0,0))] hI (fun s _ hZ=>bX [cw K IT past p] (hZ _ (.head _)) (by intro p hp;rfl)) (fun p _=>aj rfl) (by simp only[List.length_cons,List.length_nil];omega) (fun v23 L23 y6=>?_)
   obtain⟨va,vc,he⟩:=y6.form
   subst he
   refine jd 2 [5]<|jyn ZF (Sub.refl _) ⟨.slice va _ vc,L23⟩ (by dsimp only;rw[jJ hp,List.map_append,List.filter_append,List.map_cons,List.map_nil,List.filter_cons_of_pos h5,List.filter_nil];exact y6) [4,5,0]
  refine zD 2<|jyn ZF (Sub.refl _) ⟨v,Lb⟩ (by dsimp only;rw[jJ hp,List.map_append,List.filter_append,List.map_cons,List.map_nil,List.filter_cons_of_neg (by rw[h5];simp),List.filter_nil,List.append_nil];exact hI) [2,3,4]
 ·rintro bd ⟨v,Lb⟩ Z hI rfl
  dsimp only at hI
  rw[List.take_length] at hI
  refine azM<|qi hT Ox fun l5 Ow=>?_
  have:=gD Ow
  subst this
  show TT _ _ (.inRegion (Es 105 4) (0::[1,2])::[]) _ _ _ _ _
  refine tLd hT (.chan (some Ch)) (a:=eP (Es 105 4) 0) (x:= .tmp 5) (U:=185) (q:=b7) (by kernel_rfl) (by kernel_rfl) (by kernel_rfl) (by kernel_rfl) (by decide) rfl (fun _ _ _ _=> .inl (bY _ _ g7))<|aNV hT v (a:=eP (Es 105 4) 1) (x:= .tmp 6) (U:=108) (q:=b6) (by kernel_rfl) (by kernel_rfl) (by kernel_rfl) (by kernel_rfl) (by decide) rfl [2] 108<|azH (E:=nF Wg Ch gX cz) (a:=eP (Es 105 4) 2) (sc:= .tmp 24) (sv:= .tmp 25) (v:=v) (Y:=Lb) [3] (by kernel_rfl) (by kernel_rfl) (fun ρ=>by kernel_rfl) (by decide) rfl hI<|We (eg _ _ _)<|arB (E:=nF Wg Ch gX cz) (fn:=(Tryz.prog.funcs[105]?).getD default) (dn:=106) (bd:=bd) (by kernel_rfl) (by kernel_rfl) (by kernel_rfl) (ami Wg).choose_spec xe [0] rfl rfl
 rintro bd ⟨v,Lb⟩ Z jump hS hZ
 exact hS.elim
theorem f26:gP [YB 77]=[.region 0 kE.o0 false,.region 1 kE.o1 false,.region 2 kE.o2 false,.region 3 kE.o3 false,.block 0 (.loop kE.lb),.region 9 kE.o9 false,.region 10 kE.o10 false,.region 11 kE.o11 false,.block 2 (.loop kE.rb),.region 15 (Es 77 9) false,.region 16 (Es 77 10) false,.ret]:=by kernel_rfl
theorem aHj:gP [kE.lb]=[.region 4 kE.o4 false,.cond (.tmp 19) .skip (.exit 0),.block 1 kE.DJ,.region 8 kE.o8 false]:=by kernel_rfl
theorem aVq:gP [kE.DJ]=[.region 5 kE.o5 false,.region 6 kE.o6 false,.region 7 kE.o7 false]:=by kernel_rfl
theorem aHi:gP [kE.rb]=[.region 12 kE.B8 false,.cond (.tmp 27) .skip (.exit 2),.block 3 kE.uK]:=by kernel_rfl
theorem aVp:gP [kE.uK]=[.region 13 kE.o13 false,.region 14 kE.o14 false]:=by kernel_rfl
def iJ(K:aI)(on:Int)(keep:ai→Bool)(rows:List bF)(n:Nat):List (List ai):=(List.range n).map fun i=>nz K on keep ((rows[i]?).getD ⟨fun _ _=>false⟩) i
theorem OM{on:Int}{keep:ai→Bool}{rows:List bF}{r:bF}(h:rows[n]?=some r):iJ K on keep rows (n+1)=iJ K on keep rows n++[nz K on keep r n]:=by
 simp only[iJ,List.range_succ,List.map_append,List.map_cons,List.map_nil,h,Option.getD_some]
theorem yu(K:aI)(on:Int)(keep:ai→Bool)(rows:List bF)(n:Nat):(iJ K on keep rows n).length=n:=by simp[iJ]
def cR(K:aI)(on:Int)(keep:ai→Bool)(rows:List bF):List ai:=(iJ K on keep rows rows.length).flatten
theorem lJ(hV:fe K)(on:Int)(keep:ai→Bool){rows:List bF}(hR:rows.length≤2):(cR K on keep rows).length≤1250:=by
 have h1:∀r i,(nz K on keep r i).length≤625:=fun r i=>Nat.le_trans (List.length_filter_le _ _) (by rw[List.length_map];exact(gi hV on).1)
 have key:∀n,(iJ K on keep rows n).flatten.length≤n*625:=by
  intro n
  induction n with
  |zero=>simp[iJ]
  |succ n ih=>
   have:=h1 ((rows[n]?).getD ⟨fun _ _=>false⟩) n
   simp only[iJ,List.range_succ,List.map_append,List.map_cons,List.map_nil,List.flatten_append,List.length_append,List.flatten_cons,List.flatten_nil,List.append_nil] at ih ⊢
   omega
 have:=key rows.length
 have h2:rows.length*625≤2*625:=Nat.mul_le_mul_right _ hR
 exact Nat.le_trans this h2
theorem abp{on:Int}{keep:ai→Bool}{rows:List bF}(hR:rows.length≤2):gG (cR K on keep rows):=by
 intro x hx
 obtain⟨l,hl,hx⟩:=List.mem_flatten.1 hx
 obtain⟨i,hi,rfl⟩:=List.mem_map.1 hl
 have hi:=List.mem_range.1 hi
 obtain⟨p,_,rfl⟩:=List.mem_map.1 (List.mem_filter.1 hx).1
 simp only[cw]
 omega
theorem ah1(a:List (List α))(o:List α)(b:List (List α))(zs:List α):((zs++o)++(a++b).flatten).Perm (zs++(a++o::b).flatten):=by
 simp only[List.flatten_append,List.flatten_cons,List.append_assoc]
 refine .append_left _ ?_
 rw[←List.append_assoc,←List.append_assoc]
 exact .append_right _ List.perm_append_comm
theorem aBO{rows:List bF}{on:Int}{keep:ai→Bool}{ro:Nat→Option Obj}{fr:Cells}(hV:fe K)(hF:pq ro f K rows)(hR:rows.length≤2)(Hc:BD zT g=true)
 (iB:∀i r,rows[i]?=some r→∀aG,Sub ro aG→∀p∈aO K on,dt zT g (fi++[.agg ⟨cu (cw K r i p)⟩]++ca) aG (.bool (keep (cw K r i p)))):
 Fn (C0 zT) zT 77 ⟨[pV f,.int .u8 on,.func (.func g) ⟨fi⟩ ⟨ca⟩]⟩ ⟨ro,fr⟩ (fun en s'=>∃v Y zs,en= .returned v∧s'=⟨ro,Y++fr⟩∧zs.Perm (cR K on keep rows)∧az v 8 115 cu zs Y):=by
 rintro main T ⟨rfl,gX,cz,Post,rfl⟩ cl NS kr _
 have hT:=sN zT gX cz Post
 obtain⟨c0,c1,c2,vc,vh,vr,vb,va,vf,vt,hv,hf,p9,nC,hr,Cy,Hk,Jo,bU⟩:=id hF
 obtain⟨nM,Ej,Ei,nt,rfl,Py,Mx,Mw⟩:=bU
 refine arA (fn:=(Tryz.prog.funcs[77]?).getD default) (c:=YB 77) (n:=35) (by kernel_rfl) (by kernel_rfl) (by kernel_rfl) (by rfl)<|qi hT f26 fun l1 Cw=>?_
 refine vD au hT<|jn fun b3=>jn fun b4=>jn fun b5=>zD 2<|xM<|qi hT Cw fun l2 qS=>?_
 show TT _ _ (.inRegion kE.o1 (0::[1,2])::_) _ _ _ _ _
 refine azI hT (a:=kE.a1) (f:=fun q=> .chan (some q)) (ob:= .chan 0 #[] false 0 0 false) (by kernel_rfl) (by kernel_rfl) (fun e q=>by kernel_rfl) (by decide) rfl fun Ch=>?_
 refine vD au hT<|jn fun b7=>jd 2 [0]<|xM<|qi hT qS fun l3 Oy=>?_
 show TT _ _ (.inRegion kE.o2 (0::[])::_) _ _ _ _ _
 refine azI hT (a:=kE.a2) (f:=fun q=> zP q) (ob:=wgBlock 194 0 0) (by kernel_rfl) (by kernel_rfl) (fun e q=>by kernel_rfl) (by decide) rfl fun Wg=>?_
 refine We hT<|arE (E:=nF Wg Ch gX cz) (Q:=Good zT Post) (tm:=false) 0 2 ((b7,.cells ⟨[.chan (some Ch)]⟩ 185 (0,0))::(b5,.cells ⟨[.func (.func g) ⟨fi⟩ ⟨ca⟩]⟩ 116 (0,0))::(b4,.cells ⟨[.int .u8 on]⟩ 120 (0,0))::(b3,.cells ⟨[pV f]⟩ 104 (0,0))::fr) hT (fun L aC hl dX UP=>?_)
 have h7:=hl.kn _ (.head _)
 have h5:=hl.kn _ (.tail _ (.head _))
 have h4:=hl.kn _ (.tail _ (.tail _ (.head _)))
 have h3:=hl.kn _ (.tail _ (.tail _ (.tail _ (.head _))))
 dsimp only at h7 h5 h4 h3
 have hM:∀pend os,Closed zT true (TM (nF Wg Ch gX cz) L (Good zT Post) pend false os 0):=fun pend os=>fA (E:=nF Wg Ch gX cz) false os (fun e=>(by cases e))
 have hC:∀os,Closed zT true (TM (nF Wg Ch gX cz) L (Good zT Post) 0 true os 0):=fun os=>fA (E:=nF Wg Ch gX cz) true os (fun _=>rfl)
 refine qi (hM 0 []) Oy fun l4 Ox=>?_
 refine vD au (hM 0 [])<|jl (b:=b3) (off:=0) (m:=1) (vs:=[pV f]) 0 ⟨_,_,_,.inl h3,rfl⟩<|zD 2<|jl (b:=f) (off:=0) (m:=13) (vs:=[c0,c1,c2,vc,vh,vr,vb,va,zI K.gone,zI K.new,zI K.af,vf,.slice nM rows.length nt]) 12 ⟨_,_,_,.inl (hl.sub _ _ hf),rfl⟩<|zD 3<|xM<|Mh (hM 0 []) Ox fun l5 Ow=>?_
 refine aoU (hM 0 []) (rest:=[]) rfl fun l6 Iz=>?_
 have:=gD Iz
 subst this
 have loop:∀m i mg,m+i=rows.length→Sub aC mg→(∀mg rest,Sub aC mg→TT (TM (nF Wg Ch gX cz) L (Good zT Post) 0 false (iJ K on keep rows rows.length) 0) (fr0 77 .normal) (l5.map .code++[]) (cl::NS) 35 [] mg (some ⟨.fin .normal,[(7,pV b7),(8,pV Wg)]++rest,[],⟨[],[]⟩⟩))→
  ∀rest,TT (TM (nF Wg Ch gX cz) L (Good zT Post) 0 false (iJ K on keep rows i) 0) (fr0 77 .normal) ([kE.lb].map .code++(.inLoop kE.lb::(.inBlock 0::(l5.map .code++[])))) (cl::NS) 35 [] mg (some ⟨.fin .normal,[(3,pV b3),(4,pV b4),(5,pV b5),(7,pV b7),(8,pV Wg),(17,zI (rows.length:Int)),(18,zI (i:Int))]++rest,[],⟨[],[]⟩⟩):=by
  intro m
  induction m with
  |zero=>
   intro i mg hi hs qA rest
   refine qi (hM 0 _) aHj fun m1 hm1=>?_
   refine vD au (hM 0 _)<|zD 2<|xM<|Wh (hM 0 _) (t:=false) (q:=decide ((i:Int) <(rows.length:Int))) hm1 (by simp;omega) fun m2 Fc=>?_
   refine aoW (hM 0 _) (k':=l5.map .code++[]) (by rw[qI];simp[exitTo]) ?_
   have:i=rows.length:=by omega
   subst this
   exact tSt (hM 0 _) [(7,pV b7),(8,pV Wg)] [] [] fun rest=>qA mg rest hs
  |succ m ih=>
   intro i mg hi hs qA rest
   obtain⟨r,Cp⟩:∃r,rows[i]?=some r:=⟨_,List.getElem?_eq_getElem (by omega)⟩
   refine qi (hM 0 _) aHj fun m1 hm1=>?_
   refine vD au (hM 0 _)<|zD 2<|xM<|Wh (hM 0 _) (t:=true) (q:=decide ((i:Int) <(rows.length:Int))) hm1 (by simp;omega) fun m2 Fc=>?_
   refine aoS (hM 0 _)<|Mh (hM 0 _) Fc fun m3 hm3=>?_
   refine qi (hM 0 _) aVq fun m4 hm4=>?_
   refine vD au (hM 0 _)<|zD 1<|jn fun b9=>jd 2 [0]<|xM<|qi (hM 0 _) hm4 fun m5 hm5=>?_
   show TT _ _ (.inRegion kE.o6 [0]::_) _ _ _ _ _
   refine aNY (E:=nF Wg Ch gX cz) (a:=kE.a6) (f:=104) (x:= .tmp 8) (ats:=ai5 kE.a6) ?_ (by kernel_rfl) (by kernel_rfl) (by kernel_rfl) (lj (by kernel_rfl)) (by decide) rfl (by show _ <2;rw[yu];omega) (by show HX zT 194 _ _=_;rw[yu];exact(atA i (by omega) Wg).choose_spec) xe
   refine qi (hM 1 _) hm5 fun m6 hm6=>?_
   have:=gD hm6
   subst this
   show TT _ _ (.inRegion kE.o7 (0::[1])::_) _ _ _ _ _
   refine azF (hM 1 _) (a:=eP kE.o7 0) (.func (.func 105) ⟨[]⟩ ⟨[pV Wg,pV b3,pV b4,pV b9,pV b5,pV b7]⟩) (by kernel_rfl) (by kernel_rfl) (by decide) rfl<|tGo (E:=nF Wg Ch gX cz) (nz K on keep r i) (a:=kE.a7) (f:=105) (y:= .tmp 22) (ca:=[pV Wg,pV b3,pV b4,pV b9,pV b5,pV b7]) (ats:=ai5 kE.a7) [(b9,.cells ⟨[zI (i:Int)]⟩ 3 (0,0))] (by kernel_rfl) (by kernel_rfl) (by kernel_rfl) (by decide) rfl (fun yH Iv XS=>⟨?_,?_⟩)
   ·have BC:=Sub.trans hs Iv
    have h03:=Sub.trans hl.sub BC
    exact aBH hV (hF.up h03) Cp Hc (fun aG nu=>iB i r Cp aG (Sub.trans h03 nu)) (BC _ _ h3) (BC _ _ h4) (XS _ (.head _)) (BC _ _ h5) (BC _ _ h7)
   rw[←OM Cp]
   refine We (hM 0 _) (aoX (hM 0 _) ?_)
   refine qi (hM 0 _) hm3 fun m7 hm7=>?_
   have:=gD hm7
   subst this
   refine vD au (hM 0 _)<|ja ((i:Int)+1) (by omega)<|zD 2<|xM<|acO (hM 0 _)<|tSt (hM 0 _) [(3,pV b3),(4,pV b4),(5,pV b5),(7,pV b7),(8,pV Wg),(17,zI (rows.length:Int)),(18,zI ((i+1:Nat):Int))] [] [] fun rest=>ih (i+1) yH (by omega) (Sub.trans hs Iv) qA rest
 refine tSt (hM 0 _) [(3,pV b3),(4,pV b4),(5,pV b5),(7,pV b7),(8,pV Wg),(17,zI (rows.length:Int)),(18,zI (((0:Nat)):Int))] [] [] fun rest=>loop rows.length 0 aC (by omega) (Sub.refl _) (fun mg rest oU=>?_) rest
 refine qi (hM 0 _) Ow fun l7 EE=>?_
 show TT _ _ (.inRegion kE.o9 (0::[1])::_) _ _ _ _ _
 refine azF (hM 0 _) (a:=eP kE.o9 0) (.func (.func 107) ⟨[]⟩ ⟨[pV Wg,pV b7]⟩) (by kernel_rfl) (by kernel_rfl) (by decide) rfl<|arI (E:=nF Wg Ch gX cz) (a:=kE.a9) (f:=107) (y:= .tmp 24) (ca:=[pV Wg,pV b7]) (ats:=ai5 kE.a9) [] (by kernel_rfl) (by kernel_rfl) (by kernel_rfl) (by decide) rfl (fun yH Iv _=>?_)
 have BC:=Sub.trans oU Iv
 refine⟨akN (E:=nF Wg Ch gX cz) (x:=kE.cl) aBP (amh Wg).choose_spec xe (q:=b7) (t:=185) (fz:=(0,0)) (a:=eP kE.cl.q1 0) (y:= .tmp 1) (U:=185) (BC _ _ h7) (by kernel_rfl) (by kernel_rfl) (by kernel_rfl) (by kernel_rfl) (by kernel_rfl) (by kernel_rfl),?_⟩
 refine We (hC _)<|qi (hC _) EE fun l8 XO=>?_
 refine vD au (hC _)<|zD 2<|xM<|qi (hC _) XO fun l9 hl9=>?_
 refine vD au (hC _)<|jl (b:=b7) (off:=0) (m:=1) (vs:=[.chan (some Ch)]) 0 ⟨_,_,_,.inl (BC _ _ h7),rfl⟩<|zD 1<|xM<|Mh (hC _) hl9 fun l10 auT=>?_
 refine aoU (hC _) (rest:=[]) rfl fun l11 auS=>?_
 have:=gD auS
 subst this
 have hlen:=lJ hV on keep hR
 have recv:∀m (os:List (List ai)) (v:Value) (L1:Cells) (zs:List ai),os.length=m→az v 8 115 cu zs L1→(zs++os.flatten).Perm (cR K on keep rows)→∀rest,
  TT (TM (nF Wg Ch gX cz) L (Good zT Post) 0 true os 0) (fr0 77 .normal) ([kE.rb].map .code++(.inLoop kE.rb::(.inBlock 2::(l10.map .code++[])))) (cl::NS) 35 [] yH (some ⟨.fin .normal,[(10,v),(25,.chan (some Ch))]++rest,[.l L1],⟨[],[]⟩⟩):=by
  intro m
  induction m with
  |zero=>
   intro os v L1 zs tH ho hp rest
   have tH:=List.eq_nil_of_length_eq_zero tH
   subst tH
   refine qi (hC _) aHi fun m1 hm1=>?_
   show TT _ _ (.inRegion kE.B8 (0::[1])::_) _ _ _ _ _
   refine aoT (E:=nF Wg Ch gX cz) (a:=kE.Sa) (rc:= .tmp 25) (z:= zS) hl BC UP (by kernel_rfl) (by kernel_rfl) (fun ρ=>by kernel_rfl) (by decide) rfl (fun a' oo b' v' Y he _=>by simp at he) fun _=>?_
   refine vD au hT<|zD 2<|xM<|Wh hT (t:=false) (q:=false) hm1 rfl fun m2 Fc=>?_
   refine aoW hT (k':=l10.map .code++[]) (by rw[qI];simp[exitTo]) ?_
   refine qi hT auT fun m3 hm3=>?_
   refine vD au hT<|zD 1 ?_
   have hp':zs.Perm (cR K on keep rows):=by simpa using hp
   refine jc (vs:=[v,.func (.func 110) ⟨[]⟩ ⟨[]⟩]) [1] (Pq ho (by rw[hp'.length_eq];omega) ((abp hR).perm hp')) ?_
   rintro _ Y ⟨ys,hys,hoY⟩
   refine zD 1<|xM<|qi hT hm3 fun m4 hm4=>?_
   refine vD au hT<|zD 3<|xM<|aoV hT hm4 fun m5 hm5=>?_
   refine aNU au hT (fn:=(Tryz.prog.funcs[77]?).getD default) v [] [0,1] (Y++((b7,.cells ⟨[.chan (some Ch)]⟩ 185 (0,0))::(b5,.cells ⟨[.func (.func g) ⟨fi⟩ ⟨ca⟩]⟩ 116 (0,0))::(b4,.cells ⟨[.int .u8 on]⟩ 120 (0,0))::(b3,.cells ⟨[pV f]⟩ 104 (0,0))::fr)) (by kernel_rfl)<|hT.mono _ ⟨ro,Y++fr⟩ _ (dS (J:=[(b7,.cells ⟨[.chan (some Ch)]⟩ 185 (0,0)),(b5,.cells ⟨[.func (.func g) ⟨fi⟩ ⟨ca⟩]⟩ 116 (0,0)),(b4,.cells ⟨[.int .u8 on]⟩ 120 (0,0)),(b3,.cells ⟨[pV f]⟩ 104 (0,0))]) ?_ (Sub.refl _)) (kr v _ ⟨v,Y,ys,rfl,rfl,hys.trans hp',hoY⟩)
   rw[List.append_assoc]
   exact .append_left _ (List.perm_append_comm (l₁:=[_,_,_,_]))
  |succ m ih=>
   intro os v L1 zs tH ho hp rest
   refine qi (hC _) aHi fun m1 hm1=>?_
   show TT _ _ (.inRegion kE.B8 (0::[1])::_) _ _ _ _ _
   refine aoT (E:=nF Wg Ch gX cz) (a:=kE.Sa) (rc:= .tmp 25) (z:= zS) hl BC UP (by kernel_rfl) (by kernel_rfl) (fun ρ=>by kernel_rfl) (by decide) rfl (fun a' oo b' v' Y he oI=>?_) fun he=>by simp[he] at tH
   subst he
   have oI:az v' 8 115 cu oo Y:=oI
   refine vD au (hC _)<|zD 2<|xM<|Wh (hC _) (t:=true) (q:=true) hm1 rfl fun m2 Fc=>?_
   refine aoS (hC _)<|Mh (hC _) Fc fun m3 hm3=>?_
   have:=gD hm3
   subst this
   refine qi (hC _) aVp fun m4 hm4=>?_
   refine vD au (hC _)<|zD 3<|xM<|qi (hC _) hm4 fun m5 hm5=>?_
   have:=gD hm5
   subst this
   refine vD au (hC _)<|zD 2 ?_
   have Su:((zs++oo)++(a'++b').flatten).Perm (cR K on keep rows):=(ah1 a' oo b' zs).trans hp
   have hlz:zs.length+oo.length≤1250:=by
    have:=Su.length_eq
    simp only[List.length_append] at this
    omega
   refine jq (sz:=8) (ps:=zs) (qs:=oo) (enc:=cu) (w:=v') [1] [0] Y ho (fun s _ hZ=>oI.sl hZ) (fun p _=>aj rfl) (by omega) fun v23 L23 y6=>zD 2<|xM<|aoX (hC _) (acO (hC _) ?_)
   exact tSt (hC _) [(10,v23),(25,.chan (some Ch))] [.l L23] [0] fun rest=>ih (a'++b') v23 L23 (zs++oo) (by simp at tH ⊢;omega) y6 Su rest
 refine tGe<|tSt (hC _) [(10,zS),(25,.chan (some Ch))] [.l []] [0] fun rest=>recv rows.length (iJ K on keep rows rows.length) (zS) [] [] (yu _ _ _ _ _) (az.nil _ _ _) (by simp[cR]) rest
theorem afc{rows:List bF}{on:Int}{keep:ai→Bool}{ro:Nat→Option Obj}(hV:fe K)(hF:pq ro f K rows)(hR:rows.length≤2)(Hc:BD zT g=true)
 (iB:∀i r,rows[i]?=some r→∀aG,Sub ro aG→∀p∈aO K on,dt zT g (fi++[.agg ⟨cu (cw K r i p)⟩]++ca) aG (.bool (keep (cw K r i p)))):
 BF zT 77 [pV f,.int .u8 on,.func (.func g) ⟨fi⟩ ⟨ca⟩] ro [] (fun v Y=>∃zs,zs.Perm (cR K on keep rows)∧az v 8 115 cu zs Y):=
 fun fr=>Fn.mono (aBO (fr:=fr) hV hF hR Hc iB) fun en s' ⟨v,Y,zs,h1,h2,h3,h4⟩=>⟨v,Y,h1,by rw[h2];exact St.le_refl _,zs,h3,h4⟩
theorem Xn{rows:List bF}{on:Int}{ro:Nat→Option Obj}(hV:fe K)(hF:pq ro f K rows)(hR:rows.length≤2):
 BF zT 50 [pV f,.int .u8 on] ro [] (fun v Y=>∃zs,zs.Perm (cR K on (cy K.gone K.new K.af) rows)∧az v 8 115 cu zs Y):=by
 refine yW au [] [] ba fun fr=>zD 10<|Jb (vs:=[pV f,.int .u8 on,.func (.func 91) ⟨[pV f]⟩ ⟨[]⟩]) [] (fun _ _ h=>h) (afc (keep:=cy K.gone K.new K.af) hV hF hR (by kernel_rfl) fun i r hr aG hs p hp=>?_) ?_
 ·obtain⟨c0,c1,c2,vc,vh,vr,vb,va,vf,vt,hv,hf,_⟩:=hF.up hs
  exact ae7 hf
 rintro v Y ⟨zs,hz,ho⟩
 refine zD 3<|Ja qC v [0,1] Y (Sub.refl _) ⟨zs,hz,ho⟩
theorem awP{x:Int}(h:0≤x∧x≤4):iz x 0 4=true:=by simp only[iz,Bool.and_eq_true,decide_eq_true_eq];omega
theorem aeo:rJ (bs [97]):=⟨by decide,.inl (by decide)⟩
def ajh(ro:Nat→Option Obj)(v:Value)(W:List (List Int)):Prop:=∃ws,bE ro v 1 gh ws∧dg (fun w l=>bE ro w 1 cA l) ws W
def qO(ro:Nat→Option Obj)(l:List Value)(W:List (List Int)):Prop:=∀aC,Sub ro aC→eG zT 118 [.agg ⟨l.take 3⟩] aC [] (fun r Y=>∃a n c,r= .tuple ⟨[.slice a n c,zI 0]⟩∧n=W.length∧∀mg,Knows mg Y→ajh mg (.slice a n c) W)
theorem atB{ro:Nat→Option Obj}(hK:fP ro l K)(hO:kV K)(hV:fe K)(hW:1≤W.length∧W.length≤4)(h76:qO ro l W):eG zT 84 [.agg ⟨l⟩] ro [] (fun r Y=>∃a n c,r= .slice a n c∧n=W.length∧∀mg,Knows mg Y→ajh mg r W):=by
 have X9:=hK
 obtain⟨vS,vT,vc,vh,vr,vb,va,vf,fa,fc,hv,rfl,hS,hT,p9,nC,hr,hb,ha,hf⟩:=hK
 obtain⟨iC,hs,fC⟩:=id hS
 obtain⟨iX,ht,fw⟩:=id hT
 obtain⟨hc,hh,DR⟩:=id p9
 have vq:=hr
 have u9:=hb
 have ha0:=ha
 have hf0:=hf
 obtain⟨mD,Tx,Tv,lD,rfl,Tw,Mz,My⟩:=hs
 obtain⟨fg,Av,As,eo,rfl,Au,su,sr⟩:=ht
 obtain⟨eI,Ax,Aw,eB,rfl,Dy,yJ,yI⟩:=hc
 obtain⟨dO,u3,u2,dv,rfl,xg,qV,qU⟩:=hh
 obtain⟨k8,Is,Ir,k7,rfl,Ol,F8,F7⟩:=hr
 obtain⟨lg,ME,MC,k9,rfl,MD,Kc,Kb⟩:=hb
 obtain⟨kD,I5,I0,j7,rfl,I1,Gb,Ga⟩:=ha
 obtain⟨iT,xY,xX,gN,rfl,Dx,sU,sS⟩:=hf
 have Cw:=hO.rules
 have qS:=hO.before.1
 have Oy:=hO.after.1
 have Ox:=hO.facts.1
 have Ow:=hO.ways.1
 have Iz:=fC.len
 have EE:=fw.len
 have XO:=hO.pN.two
 have hl9:=hO.dr.nh
 have Ok:∀(i:Nat) (p:da),([]:List da)[i]?=some p→cB ⟨ro,[]⟩ 0 (0+i*6) 6 (m8 p):=fun _ _ h=>oG h
 have hgl:=hO.v9
 refine bD au [] [] ba<|zD 2<|jn fun b1=>jd 6 [0]<|jc (vs:=[.agg ⟨[.slice mD iC.length lD,.slice fg iX.length eo,.slice fa 0 fc]⟩]) [] (h76 _ (Sub.refl _)) ?_
 rintro _ Y10 ⟨a10,n10,c10,rfl,aRO,afz⟩
 refine zD 9<|jp (vs:=[zI 0]) [] [] (fun aC hs hZ=>AN)<|zD 10<|zJ 15 ((n10:Int)=0) (fun h1=>?_) fun h1=>?_
 ·
  exfalso;omega
 refine zD 8<|zJ 20 ((n10:Int)>4) (fun h2=>?_) fun h2=>?_
 ·
  exfalso;omega
 refine jd 6 [1]<|jp (vs:=[.agg ⟨[.slice eI K.cs.length eB,.slice dO hv.length dv]⟩]) [] [] (fun aC hs hZ=>arK (p9.up hs) nC hV.dr)<|jp (vs:=[zI 0]) [] [] (fun aC hs hZ=>AN)<|jd 5 [1]<|jp (vs:=[.slice k8 K.rules.length k7,.string (bs [97]),.string (bs [97])]) [] [] (fun aC hs hZ=>P8 (vq.up hs) hV.rules.2 hV.rules.1 aeo aeo)<|zD 8<|jp (vs:=[zI 0]) [] [] (fun aC hs hZ=>AN)<|jd 6 [1,1]<|jp (vs:=[.agg ⟨[.slice mD iC.length lD,.slice fg iX.length eo,.slice fa 0 fc,.slice eI K.cs.length eB,.slice dO hv.length dv,.slice k8 K.rules.length k7,.slice lg K.before.length k9,.slice kD K.after.length j7,zI K.gone,zI K.new,zI K.af,.slice iT K.facts.length gN]⟩,.slice lg K.before.length k9,.bool true]) [] [] (fun aC hs hZ=>ae4 (X9.up hs) hO (u9.up hs))<|jp (vs:=[zI 0]) [] [] (fun aC hs hZ=>AN)<|jd 6 [1,1]<|jp (vs:=[.agg ⟨[.slice mD iC.length lD,.slice fg iX.length eo,.slice fa 0 fc,.slice eI K.cs.length eB,.slice dO hv.length dv,.slice k8 K.rules.length k7,.slice lg K.before.length k9,.slice kD K.after.length j7,zI K.gone,zI K.new,zI K.af,.slice iT K.facts.length gN]⟩,.slice kD K.after.length j7,.bool false]) [] [] (fun aC hs hZ=>ae5 (X9.up hs) hO (ha0.up hs))<|jp (vs:=[zI 0]) [] [] (fun aC hs hZ=>AN)<|jd 6 [1]<|jp (vs:=[zI K.gone,zI 0,zI 4]) [] [] (fun aC hs hZ=>eN)<|zD 2<|jj 5 [(1,zP b1),(2,zS),(3,.slice a10 n10 c10),(56,.bool ((!(iz K.gone 0 4))||(!(iz K.new 0 4))))] (fun gV=>?_) (fun hj=>?_)
 rotate_left
 refine js 51 (!(iz K.gone 0 4)) (fun h3=>?_) (fun h3=>?_)
 ·
  have wz:=h3
  try simp only[zB] at wz
  refine zD 5<|jw 56 (.bool ((!(iz K.gone 0 4))||(!(iz K.new 0 4)))) (w:= .bool true) (by rw[h3]<;>rfl) ?_
  exact hj _ (by kernel_rfl) (by kernel_rfl)
 ·
  have wz:=h3
  try simp only[zB] at wz
  refine jd 2 [1]<|jp (vs:=[zI K.new,zI 0,zI 4]) [] [] (fun aC hs hZ=>eN)<|zD 2<|jw 56 (.bool ((!(iz K.gone 0 4))||(!(iz K.new 0 4)))) (w:= .bool (!(iz K.new 0 4))) (by rw[h3]<;>rfl) ?_
  exact hj _ (by kernel_rfl) (by kernel_rfl)
 refine zD 1<|jj 5 [(1,zP b1),(2,zS),(3,.slice a10 n10 c10),(62,.bool (((!(iz K.gone 0 4))||(!(iz K.new 0 4)))||(!(iz K.af 0 4))))] (fun gV=>?_) (fun hj=>?_)
 rotate_left
 refine js 57 ((!(iz K.gone 0 4))||(!(iz K.new 0 4))) (fun h4=>?_) (fun h4=>?_)
 ·
  have ye:=h4
  try simp only[zB] at ye
  refine zD 5<|jw 62 (.bool (((!(iz K.gone 0 4))||(!(iz K.new 0 4)))||(!(iz K.af 0 4)))) (w:= .bool true) (by rw[h4]<;>rfl) ?_
  exact hj _ (by kernel_rfl) (by kernel_rfl)
 ·
  have ye:=h4
  try simp only[zB] at ye
  refine jd 2 [1]<|jp (vs:=[zI K.af,zI 0,zI 4]) [] [] (fun aC hs hZ=>eN)<|zD 2<|jw 62 (.bool (((!(iz K.gone 0 4))||(!(iz K.new 0 4)))||(!(iz K.af 0 4)))) (w:= .bool (!(iz K.af 0 4))) (by rw[h4]<;>rfl) ?_
  exact hj _ (by kernel_rfl) (by kernel_rfl)
 refine zD 1<|js 62 (((!(iz K.gone 0 4))||(!(iz K.new 0 4)))||(!(iz K.af 0 4))) (fun h5=>?_) (fun h5=>?_)
 ·
  try simp only[zB] at h5
  exfalso;simp[awP hgl.1,awP hgl.2.1,awP hgl.2.2] at h5
 try simp only[zB] at h5
 refine jd 10 [1]<|zJ 67 ((K.facts.length:Int)>4) (fun h6=>?_) fun h6=>?_
 ·
  exfalso;omega
 refine jd 11 [1]<|dW [1,1,1,1,1,1,1,1,1,1,1,0,1,0,0] [] (fun(zz:Nat)=>[(1,zP b1),(2,zS),(3,.slice a10 n10 c10),(70,.slice iT K.facts.length gN),(71,zI (K.facts.length:Int)),(72,zI (zz:Int))]) (fun(zz:Nat)=>[.b b1 (.cells ⟨[.slice mD iC.length lD,.slice fg iX.length eo,.slice fa 0 fc,.slice eI K.cs.length eB,.slice dO hv.length dv,.slice k8 K.rules.length k7,.slice lg K.before.length k9,.slice kD K.after.length j7,zI K.gone,zI K.new,zI K.af,.slice iT K.facts.length gN]⟩ 40 (0,0)),.l Y10]) (fun(zz:Nat)=>zz≤K.facts.length) (fun(zz:Nat)=>K.facts.length-zz) 0 (by omega) [1,0] ?_
 rintro k hI K1 bK rest
 refine zD 5<|zJ 73 ((k:Int) <(K.facts.length:Int)) (fun h7=>?_) fun h7=>?_
 ·
  refine zD 7 ?_
  obtain⟨x75,Ue⟩:=zG K.facts k
  refine iA gN 3 sU Ue<|jl 0 (sS _ _ Ue)<|jn fun b6=>jd 8 [0,1,1]<|jcH (hi:=(k:Int)) (show bE _ _ _ _ _ from ⟨iT,xY,xX,gN,rfl,Dx,sU,sS⟩) (by omega) (fun v81 aQ5=>?_)
  obtain⟨ao7,aAf,aAb,ao6,rfl,aAd,aAe,aAc⟩:=aQ5
  refine jd 1 [0]<|jp (vs:=[.agg ⟨[.slice mD iC.length lD,.slice fg iX.length eo,.slice fa 0 fc,.slice eI K.cs.length eB,.slice dO hv.length dv,.slice k8 K.rules.length k7,.slice lg K.before.length k9,.slice kD K.after.length j7,zI K.gone,zI K.new,zI K.af,.slice iT K.facts.length gN]⟩,.slice ao7 ((((K.facts).take (k:Int).toNat)).length) ao6,.agg ⟨[zI x75.a,zI x75.b,.bool x75.same]⟩]) [] [] (fun aC hs hZ=>aBN (X9.up hs) hO ((show bE _ _ _ _ _ from ⟨ao7,aAf,aAb,ao6,rfl,aAd,aAe,aAc⟩).up hs) (by simp only[List.length_take,List.length_drop];omega) (hO.facts.2 _ (List.mem_of_getElem? Ue)) (ah8 hO.apart Ue)) ?_
  refine jp (vs:=[zI 0]) [] [] (fun aC hs hZ=>AN)<|zD 2<|ja ((k:Int)+1) (by omega)<|zD 2<|bJ bK (k+1) (by omega) (by omega) [1,2] (Sub.refl _)
 refine zD 8<|aF q0 (.slice a10 n10 c10) [] [1] Y10 (Sub.refl _) ⟨_,_,rfl,rfl,_,_,_,rfl,aRO,afz⟩
def ia(ro:Nat→Option Obj)(l:List Value)(K:aI)(rows:List bF):Prop:=∀aC,Sub ro aC→eG zT 43 [.agg ⟨l⟩] aC [] (fun r Y=>∃f,r= .tuple ⟨[pV f,zI 0]⟩∧∀mg,Sub aC mg→Knows mg Y→pq mg f K rows)
def aV(K:aI):Int:=IntKind.u8.wrap (dD .u8 1 (K.facts.length:Int)-1)
theorem Qr{rows:List bF}{ro:Nat→Option Obj}(hV:fe K)(hF:pq ro f K rows):dt zT 51 [pV f] ro (.int .u8 (aV K)):=by
 obtain⟨c0,c1,c2,vc,vh,vr,vb,va,vf,vt,hv,hf,p9,nC,hr,Cy,Hk,Jo,bU⟩:=hF
 exact aPX Jo hf (by have:=hV.facts.1;omega)
theorem aeZ{rows:List bF}{ro:Nat→Option Obj}(hK:fP ro l K)(hV:fe K)(hR:rows.length≤2)(hB:ia ro l K rows):
 BF zT 15 [.agg ⟨l⟩] ro [] (fun r Y=>r= .tuple ⟨[zI ((cR K (aV K) (cy K.gone K.new K.af) rows).length:Int),zI 0]⟩∧Y=[]):=by
 obtain⟨v0,v1,v3,v4,v5,v6,v7,vb,fa,fc,hv,rfl,_⟩:=hK
 refine yW au [] [] ba fun fr=>zD 2<|jn fun b1=>jd 6 [0]<|jc (vs:=[Value.agg ⟨[v0,v1,.slice fa 0 fc,v3,v4,v5,v6,v7,zI K.gone,zI K.new,zI K.af,vb]⟩]) [] (hB _ (Sub.refl _)) ?_
 rintro _ Y ⟨f,rfl,hF⟩
 refine jf [0] Y (fun aC hs hk=>?_)
 have CH:=hF aC hs hk
 refine zD 18<|jp (vs:=[pV f]) [] [] (fun yH Iv hZ=>Qr hV (CH.up Iv))<|Jb (vs:=[pV f,.int .u8 (aV K)]) [] (fun _ _ h=>h) (Xn hV CH hR) ?_
 rintro v Y2 ⟨zs,hz,ho⟩
 obtain⟨a,c,rfl⟩:=ho.form
 refine zD 5<|Ja qC.a (.tuple ⟨[zI (zs.length:Int),zI 0]⟩) [2] [] hs ⟨by rw[hz.length_eq],rfl⟩
theorem eR{on:Int}{keep:ai→Bool}{rows:List bF}{x:ai}(h:x∈cR K on keep rows):∃i r p,rows[i]?=some r∧p∈aO K on∧x=cw K r i p∧keep x=true:=by
 obtain⟨l,hl,hx⟩:=List.mem_flatten.1 h
 obtain⟨i,hi,rfl⟩:=List.mem_map.1 hl
 have hi:=List.mem_range.1 hi
 obtain⟨h1,h2⟩:=List.mem_filter.1 hx
 obtain⟨p,hp,rfl⟩:=List.mem_map.1 h1
 rw[List.getElem?_eq_getElem hi] at h2 ⊢
 exact⟨i,rows[i],p,List.getElem?_eq_getElem hi,hp,rfl,h2⟩
theorem W8(r:bF)(p:Nat→Int):∀k,0≤Cb r p k∧Cb r p k≤k
 |0=>by simp[Cb]
 |k+1=>by
  have:=W8 r p k
  simp only[Cb]
  cases decide (p k>0)&& !r.c k (p k-1).toNat with
  |true=>simp only[cond_true];omega
  |false=>simp only[cond_false];omega
theorem kN(hV:fe K)(r:bF)(i:Nat)(p:Nat→Int):(-4≤(cw K r i p).gone∧(cw K r i p).gone≤4)∧(-4≤(cw K r i p).new∧(cw K r i p).new≤4)∧(0≤(cw K r i p).af∧(cw K r i p).af≤4):=by
 have h1:=WL p
 have h2:=W8 r p 4
 have h3:=hV.before.1
 have h4:=hV.after.1
 simp only[cw]
 omega
def FP(x:ai):Int:=x.gone+x.new+x.af
theorem atv{rows:List bF}{ro:Nat→Option Obj}(hK:fP ro l K)(hV:fe K)(hR:rows.length≤2)(hB:ia ro l K rows):BF zT 36 [.agg ⟨l⟩] ro [] (fun r Y=>∃zs,zs.Perm (cR K (aV K) (fun _=>true) rows)∧Y=[]∧((zs=[]∧r= .tuple ⟨[zI 0,zI 9]⟩)∨(zs≠[]∧r= .tuple ⟨[zI (u4 (zs.map FP)),zI 0]⟩))):=by
 obtain⟨v0,v1,v3,v4,v5,v6,v7,vb,fa,fc,hv,rfl,_⟩:=hK
 refine yW au [] [] ba fun fr=>zD 2<|jn fun b1=>jd 6 [0]<|jc (vs:=[.agg ⟨[v0,v1,.slice fa 0 fc,v3,v4,v5,v6,v7,zI K.gone,zI K.new,zI K.af,vb]⟩]) [] (hB _ (Sub.refl _)) ?_
 rintro _ Y12 ⟨f12,rfl,awb⟩
 refine zD 5<|jf [0] Y12 (fun yH bY iU=>?_)
 have CH:=awb _ bY iU
 refine zD 13<|jp (vs:=[zP f12]) [] [] (fun aC hs hZ=>Qr hV (CH.up hs))<|Jb (vs:=[zP f12,.int .u8 (aV K),.func (.func 78) ⟨[]⟩ ⟨[]⟩]) [] (fun _ _ h=>h) (afc (keep:=fun _=>true) hV CH hR (by kernel_rfl) (fun i r hr aG hs p hp=>amb)) ?_
 rintro v21 Y21 ⟨zs,amv,aCU⟩
 have Ji:∀x∈zs,(-4≤x.gone∧x.gone≤4)∧(-4≤x.new∧x.new≤4)∧(0≤x.af∧x.af≤4):=fun x hx=>by obtain⟨i,r,p,_,_,rfl,_⟩:=eR (amv.mem_iff.1 hx);exact kN hV r i p
 have Ua:zs.length≤1250:=by rw[amv.length_eq];exact lJ hV _ _ hR
 refine zD 6<|Co aCU<|zD 1<|jf [0] Y21 (fun ro6 kF XQ=>?_)
 have UL:=aCU.kZ XQ
 obtain⟨mP,B1,BZ,lR,rfl,B0,yL,yK⟩:=UL
 refine zD 1<|zJ 24 ((zs.length:Int)=0) (fun h7=>?_) fun h7=>?_
 ·
  refine zD 7<|Ja qC.a.a (.tuple ⟨[zI 0,zI 9]⟩) [1] [] (bY.trans kF) ⟨zs,amv,rfl,.inl ⟨List.eq_nil_of_length_eq_zero (by omega),rfl⟩⟩
 refine zD 14<|oH<|dW [1,1,1,1,1,1,0,1,0,0] [] (fun(zz:Nat×Value×Cells)=>[(2,zI 0),(3,zI 0),(7,zz.2.1),(25,.slice mP zs.length lR),(26,zI (zs.length:Int)),(27,zI (zz.1:Int))]) (fun(zz:Nat×Value×Cells)=>[.l zz.2.2,.b b1 (.cells ⟨[v0,v1,.slice fa 0 fc,v3,v4,v5,v6,v7,zI K.gone,zI K.new,zI K.af,vb]⟩ 40 (0,0)),.l fr]) (fun(zz:Nat×Value×Cells)=>zz.1≤zs.length∧az zz.2.1 1 3 cA ((zs.take zz.1).map FP) zz.2.2) (fun(zz:Nat×Value×Cells)=>zs.length-zz.1) (⟨0,zS,[]⟩) ⟨by dsimp only;omega,az.nil _ _ _⟩ [0,1,2] ?_
 rintro⟨k,vS,LS⟩ hI K1 bK rest
 dsimp only at hI
 refine zD 5<|zJ 28 ((k:Int) <(zs.length:Int)) (fun h8=>?_) fun h8=>?_
 ·
  refine zD 6 ?_
  obtain⟨Eb,AO⟩:=zG zs k
  refine iA lR 8 yL AO<|jl 0 (yK _ _ AO)<|jn fun b9=>jd 2 [0] ?_
  have hg:=Ji _ (List.mem_of_getElem? AO)
  refine jd 6 [0,0]<|ja (Eb.gone+Eb.new) (by omega)<|jd 2 [0]<|ja ((Eb.gone+Eb.new)+Eb.af) (by omega)<|jn fun dz=>jq (sz:=1) (ps:=((zs.take k).map FP)) (qs:=[((Eb.gone+Eb.new)+Eb.af)]) (enc:=cA) (w:= .slice (some ⟨dz,0,none⟩) 1 1) [2] [0] [(dz,.cells ⟨([((Eb.gone+Eb.new)+Eb.af)].map cA).flatten⟩ 3 (0,0))] (hI.2) (fun s _ hZ=>bX [((Eb.gone+Eb.new)+Eb.af)] (hZ _ (.head _)) (by intro p hp;rfl)) (fun p _=>aj rfl) (by simp only[List.length_map,List.length_take,List.length_cons,List.length_nil];omega) (fun v41 L41 afV=>?_)
  obtain⟨acr,acj,agE⟩:=afV.form
  subst agE
  refine zD 3<|ja ((k:Int)+1) (by omega)<|zD 2<|bJ bK (⟨k+1,(.slice acr ((((zs.take k).map FP)++[((Eb.gone+Eb.new)+Eb.af)])).length acj),L41⟩) ⟨by dsimp only;omega,by rw[jJ AO,List.map_append];exact afV⟩ (by dsimp only;omega) [0,3,4] (Sub.refl _)
 refine zD 5<|jp (vs:=[vS]) [0] LS (fun aC hs hZ=>apu (hI.2.kZ hZ) ⟨by simp only[List.length_map,List.length_take];omega,by simp only[List.length_map,List.length_take];omega⟩) ?_
 refine zD 5<|Ja qC.a.a (.tuple ⟨[zI (u4 ((zs.take k).map FP)),zI 0]⟩) [2] [] (bY.trans kF) ⟨zs,amv,rfl,.inr ⟨fun e=>by subst e;simp at*,by rw[show k=zs.length by omega,List.take_length]⟩⟩
def Ba(ways:List (List aN))(w:List Int):List (List aN):=List.zipWith (fun l n=>(l.take (n.toNat+1)).drop n.toNat) ways w
theorem anL{ways:List (List aN)}{w:List Int}{l:List aN}{n:Int}(h1:ways[k]?=some l) (h2:w[k]?=some n):(Ba ways w)[k]?=some ((l.take (n.toNat+1)).drop n.toNat):=by
 simp only[Ba,List.getElem?_zipWith,h1,h2]
def lf(K:aI)(qX:List Int→ay→List an)(w:List Int):bF:=⟨fun i j=>match K.before[i]?,K.after[j]? with
 |some x,some y=>decide (bN (py y.st y.no 0) (qX w x) 0≥0)
 |_,_=>false⟩
def ES(F:Nat→Nat→Bool)(i j:Nat)(r:bF):Prop:=∀x y,r.c x y=((decide (x <i)||(decide (x=i)&&decide (y <j)))&&F x y)
theorem ES.set{r:bF}(h:ES F i j r):ES F i (j+1) (jk r i j (F i j)):=fun x y=>by
 simp only[jk]
 split
 ·rename_i hx;obtain⟨rfl,rfl⟩:=hx;simp
 rename_i hx
 rw[h x y]
 congr 2
 by_cases e:x=i
 ·subst e
  have:y≠j:=fun e2=>hx ⟨rfl,e2⟩
  simp only[decide_true,Bool.true_and]
  congr 1
  exact propext (by omega)
 simp[e]
theorem ES.nxt{r:bF}(hF:∀x y,n≤y→F x y=false)(h:ES F i n r):ES F (i+1) 0 r:=fun x y=>by
 rw[h x y]
 by_cases hy:y <n
 ·congr 1
  simp only[hy,decide_true,Bool.and_true,Nat.not_lt_zero,decide_false,Bool.and_false,Bool.or_false]
  rw[Bool.eq_iff_iff];simp;omega
 rw[hF x y (by omega)];simp
theorem ES.fin{r:bF}(hF:∀x y,n≤x→F x y=false)(h:ES F n 0 r):r=⟨F⟩:=by
 rcases r with ⟨c⟩
 congr 1
 funext x y
 have:=h x y
 dsimp only at this
 rw[this]
 by_cases hx:x <n
 ·simp[hx]
 rw[hF x y (by omega)];simp
theorem arW{qX:List Int→ay→List an}{w:List Int}(x y:Nat)(h:K.before.length≤x):(lf K qX w).c x y=false:=by simp only[lf,List.getElem?_eq_none h]
theorem arV{qX:List Int→ay→List an}{w:List Int}(x y:Nat)(h:K.after.length≤y):(lf K qX w).c x y=false:=by
 simp only[lf,List.getElem?_eq_none h]
 split
 ·rename_i h1;cases h1
 rfl
structure VH(K:aI)(W:List (List Int)):Prop where
 n:1≤W.length∧W.length≤2
 len:∀w∈W,w.length=K.ways.length
 rng:∀w∈W,∀(k:Nat) (l:List aN) (n:Int),K.ways[k]?=some l→w[k]?=some n→0≤n∧n <l.length
def xH(ro:Nat→Option Obj)(l:List Value)(K:aI)(W:List (List Int))(qX:List Int→ay→List an):Prop:=∀w∈W,∀x∈K.before,(qX w x).length≤1000∧∀aC,Sub ro aC→∀v vS vT vU r,l=vS::vT::vU::r→n5 aC v (Ba K.ways w)→
 eG zT 85 [.agg ⟨[vS,v,vU]⟩,.agg ⟨[zI x.st,zI x.no,zI 0]⟩] aC [] (fun r Y=>∃a n c,r= .tuple ⟨[.slice a n c,zI 0]⟩∧∀mg,Knows mg Y→bE mg (.slice a n c) 3 cJ (qX w x))
theorem atC{qX:List Int→ay→List an}{ro:Nat→Option Obj}(hK:fP ro l K)(hO:kV K)(hV:fe K)(hW:VH K W)(h76:qO ro l W)(h47:xH ro l K W qX):eG zT 43 [.agg ⟨l⟩] ro [] (fun r Y=>∃f,r= .tuple ⟨[pV f,zI 0]⟩∧∀mg,Sub ro mg→Knows mg Y→pq mg f K (W.map (lf K qX))):=by
 have X9:=hK
 obtain⟨vS,vT,vc,vh,vr,vb,va,vf,fa,fc,hv,rfl,hS,hT,p9,nC,hr,hb,ha,hf⟩:=hK
 obtain⟨iC,hs,fC⟩:=id hS
 obtain⟨iX,ht,fw⟩:=id hT
 obtain⟨hc,hh,DR⟩:=id p9
 have vq:=hr
 have u9:=hb
 have ha0:=ha
 have hf0:=hf
 obtain⟨mD,Tx,Tv,lD,rfl,Tw,Mz,My⟩:=hs
 obtain⟨fg,Av,As,eo,rfl,Au,su,sr⟩:=ht
 obtain⟨eI,Ax,Aw,eB,rfl,Dy,yJ,yI⟩:=hc
 obtain⟨dO,u3,u2,dv,rfl,xg,qV,qU⟩:=hh
 obtain⟨k8,Is,Ir,k7,rfl,Ol,F8,F7⟩:=hr
 obtain⟨lg,ME,MC,k9,rfl,MD,Kc,Kb⟩:=hb
 obtain⟨kD,I5,I0,j7,rfl,I1,Gb,Ga⟩:=ha
 obtain⟨iT,xY,xX,gN,rfl,Dx,sU,sS⟩:=hf
 have Cw:=hO.rules
 have qS:=hO.before.1
 have Oy:=hO.after.1
 have Ox:=hO.facts.1
 have Ow:=hO.ways.1
 have Iz:=fC.len
 have EE:=fw.len
 have XO:=hO.pN.two
 have hl9:=hO.dr.nh
 have Ok:∀(i:Nat) (p:da),([]:List da)[i]?=some p→cB ⟨ro,[]⟩ 0 (0+i*6) 6 (m8 p):=fun _ _ h=>oG h
 have hWn:=hW.n
 refine aP0 au 83 [] [] ba<|zD 2<|jn fun b1=>jn fun b2=>jn fun b3=>zD 4<|jdf (f:=83) (ca:=[zP b2,zP b3])<|jd 5 [2]<|jn fun Ie=>jd 6 [2,3]<|jc (vs:=[.agg ⟨[.slice mD iC.length lD,.slice fg iX.length eo,.slice fa 0 fc,.slice eI K.cs.length eB,.slice dO hv.length dv,.slice k8 K.rules.length k7,.slice lg K.before.length k9,.slice kD K.after.length j7,zI K.gone,zI K.new,zI K.af,.slice iT K.facts.length gN]⟩]) [] (atB X9 hO hV ⟨hW.n.1,by have:=hW.n.2;omega⟩ h76) ?_
 rintro _ Y21 ⟨a21,n21,c21,rfl,bfb,amC⟩
 refine zD 2<|jf [0] Y21 (fun yH bY iU=>?_)
 obtain⟨wsW,hWs,ap3⟩:=amC _ iU
 obtain⟨qWa,qWb,qWo,qWc,heW,qWk,qWh,qWl⟩:=hWs
 simp only[Value.slice.injEq] at heW
 obtain⟨rfl,rfl,rfl⟩:=heW
 have hlW:=ap3.len
 refine zD 2<|oH<|dW [1,1,1,0,1,0,0] [] (fun(zz:Nat×Value×Cells)=>[(1,zP b1),(2,zP b2),(3,zP b3),(21,.slice a21 wsW.length c21),(22,zI (wsW.length:Int)),(23,zI (zz.1:Int))]) (fun(zz:Nat×Value×Cells)=>[.l zz.2.2,.b Ie (.cells ⟨[.slice mD iC.length lD,.slice fg iX.length eo,.slice fa 0 fc,.slice eI K.cs.length eB,.slice dO hv.length dv,.slice k8 K.rules.length k7,.slice lg K.before.length k9,.slice kD K.after.length j7,zI K.gone,zI K.new,zI K.af,.slice iT K.facts.length gN,zz.2.1]⟩ 128 (0,0)),.b b1 (.cells ⟨[.slice mD iC.length lD,.slice fg iX.length eo,.slice fa 0 fc,.slice eI K.cs.length eB,.slice dO hv.length dv,.slice k8 K.rules.length k7,.slice lg K.before.length k9,.slice kD K.after.length j7,zI K.gone,zI K.new,zI K.af,.slice iT K.facts.length gN]⟩ 40 (0,0)),.b b2 (.cells ⟨[zP Ie]⟩ 104 (0,0)),.b b3 (.cells ⟨[zI 0]⟩ 46 (0,0))]) (fun(zz:Nat×Value×Cells)=>zz.1≤wsW.length∧az zz.2.1 16 159 CX ((W.take zz.1).map (lf K qX)) zz.2.2) (fun(zz:Nat×Value×Cells)=>wsW.length-zz.1) (⟨0,zS,[]⟩) ⟨by dsimp only;omega,az.nil _ _ _⟩ [0,1,4,3,2] ?_
 rintro⟨k,vR,LR⟩ hI K1 bK rest
 dsimp only at hI
 refine zD 5<|zJ 24 ((k:Int) <(wsW.length:Int)) (fun h4=>?_) fun h4=>?_
 ·
  refine zD 6 ?_
  obtain⟨yq,lH⟩:=zG wsW k
  refine iA c21 1 qWh lH ?_
  obtain⟨we,aDl,h26⟩:=ap3.get lH
  obtain⟨aOP,bdh,bdf,aAH,rfl,bdg,aOO,aON⟩:=h26
  refine jl 0 (qWl _ _ lH)<|zD 3 ?_
  have hwm:=List.mem_of_getElem? aDl
  have hwl:=hW.len _ hwm
  refine jd 8 [2,2]<|jn fun b6=>jd 10 [0]<|oH<|dW [1,1,1,0,1,0,0,1,1,0,0,1,1,0,1,0,0] [K1] (fun(zz:Nat×Value×Cells×(List Value))=>[(1,zP b1),(2,zP b2),(3,zP b3),(6,zP b6),(21,.slice a21 wsW.length c21),(22,zI (wsW.length:Int)),(23,zI (k:Int)),(34,.slice aOP we.length aAH),(35,zI (we.length:Int)),(36,zI (zz.1:Int))]) (fun(zz:Nat×Value×Cells×(List Value))=>[.l zz.2.2.1,.b b6 (.cells ⟨[.slice mD iC.length lD,zz.2.1,.slice fa 0 fc]⟩ 31 (0,0)),.l LR,.b Ie (.cells ⟨[.slice mD iC.length lD,.slice fg iX.length eo,.slice fa 0 fc,.slice eI K.cs.length eB,.slice dO hv.length dv,.slice k8 K.rules.length k7,.slice lg K.before.length k9,.slice kD K.after.length j7,zI K.gone,zI K.new,zI K.af,.slice iT K.facts.length gN,vR]⟩ 128 (0,0)),.b b1 (.cells ⟨[.slice mD iC.length lD,.slice fg iX.length eo,.slice fa 0 fc,.slice eI K.cs.length eB,.slice dO hv.length dv,.slice k8 K.rules.length k7,.slice lg K.before.length k9,.slice kD K.after.length j7,zI K.gone,zI K.new,zI K.af,.slice iT K.facts.length gN]⟩ 40 (0,0)),.b b2 (.cells ⟨[zP Ie]⟩ 104 (0,0)),.b b3 (.cells ⟨[zI 0]⟩ 46 (0,0))]) (fun(zz:Nat×Value×Cells×(List Value))=>(zz.1≤we.length∧zz.2.2.2.length=zz.1)∧az zz.2.1 1 81 gh zz.2.2.2 zz.2.2.1∧dg (fun w l=>bE yH w 7 kT l) zz.2.2.2 ((Ba K.ways we).take zz.1)) (fun(zz:Nat×Value×Cells×(List Value))=>we.length-zz.1) (⟨0,zS,[],[]⟩) ⟨⟨by dsimp only;omega,rfl⟩,az.nil _ _ _,(by simp only[List.take_zero];exact dg.nil)⟩ [0,1,2,3,4,5,6] ?_
  rintro⟨j,vT,LT,es⟩ hJ K2 mr rest
  dsimp only at hJ
  refine zD 5<|zJ 37 ((j:Int) <(we.length:Int)) (fun h5=>?_) fun h5=>?_
  ·
   refine zD 7 ?_
   obtain⟨EZ,xQ⟩:=zG we j
   refine iA aAH 1 aOO xQ<|jl 0 (aON _ _ xQ)<|jd 10 [1,4] ?_
   obtain⟨x47,Je⟩:=zG iX j
   refine iA eo 1 su Je<|zD 1 ?_
   obtain⟨l49,auM,h49⟩:=fw.get Je
   obtain hwr:=hW.rng _ hwm _ _ _ auM xQ
   obtain bfg:=(hO.ways.2 _ (List.mem_of_getElem? auM)).1.2
   obtain⟨aOG,aOF,aOA,aOE,rfl,aOC,aOD,aOB⟩:=h49
   refine jl 0 ((sr _ _ Je).ext (uu bY))<|zD 2<|ja (EZ+1) (by omega)<|jcB (lo:=EZ) (hi:=(EZ+1)) ((show bE _ _ _ _ _ from ⟨aOG,aOF,aOA,aOE,rfl,aOC,aOD,aOB⟩).up bY) (by omega) (fun v53 wq=>?_)
   obtain⟨J9,aAk,aAg,J8,rfl,aAi,aAj,aAh⟩:=wq
   refine zD 1<|aL 14 fun sB sJ q5=>jn fun b55=>bB q5 [1,2,3,4,5,6,7]<|aL 15 fun sA sI qZ=>jq (sz:=1) (ps:=es) (qs:=[(.slice J9 (((((l49).take (EZ+1).toNat).drop EZ.toNat)).length) J8:Value)]) (enc:=gh) (w:= .slice (some ⟨b55,0,none⟩) 1 1) [1] [0] [(b55,.cells ⟨([(.slice J9 (((((l49).take (EZ+1).toNat).drop EZ.toNat)).length) J8:Value)].map gh).flatten⟩ 81 (0,0))] (hJ.2.1) (fun s _ hZ=>bX [(.slice J9 (((((l49).take (EZ+1).toNat).drop EZ.toNat)).length) J8:Value)] (hZ _ (.head _)) (by intro p hp;rfl)) (by intro p hp;rw[List.mem_singleton] at hp;subst hp;exact aj rfl) (by simp<;>omega) (fun v56 L56 qx=>?_)
   obtain⟨OQ,OO,UB⟩:=qx.form
   subst UB
   refine iu qZ [[],[5]]<|zD 1<|aL 17 fun BG BM CC=>jd 1 [2]<|dZ CC<|zD 2<|ja ((j:Int)+1) (by omega)<|zD 2<|bJ mr (⟨j+1,(.slice OQ ((es++[(.slice J9 (((((l49).take (EZ+1).toNat).drop EZ.toNat)).length) J8:Value)])).length OO),L56,(es++[(.slice J9 (((((l49).take (EZ+1).toNat).drop EZ.toNat)).length) J8:Value)])⟩) ⟨⟨by dsimp only;omega,by simp only[List.length_append,List.length_cons,List.length_nil];omega⟩,qx,by rw[jJ (anL auM xQ)];exact hJ.2.2.snoc (by rw[show EZ.toNat+1=(EZ+1).toNat by omega];exact⟨J9,aAk,aAg,J8,rfl,aAi,aAj,aAh⟩)⟩ (by dsimp only;omega) [0,2,3,4,5,6,7] (Sub.refl _)
  refine zD 3 ?_
  have hS6:dg (fun w l=>bE yH w 7 kT l) es (Ba K.ways we):=by have:=hJ.2.2;rwa[List.take_of_length_le (by simp only[Ba,List.length_zipWith];omega)] at this
  refine zD 1<|jn fun b9=>jd 10 [5]<|dW [1,1,1,0,1,0,0,1,1,0,0,1,1,1,1,0,1,0,0] [K1] (fun(zz:Nat×bF)=>[(1,zP b1),(2,zP b2),(3,zP b3),(6,zP b6),(9,zP b9),(21,.slice a21 wsW.length c21),(22,zI (wsW.length:Int)),(23,zI (k:Int)),(60,.slice lg K.before.length k9),(61,zI (K.before.length:Int)),(62,zI (zz.1:Int))]) (fun(zz:Nat×bF)=>[.b b9 (.cells ⟨[.bool (zz.2.c 0 0),.bool (zz.2.c 0 1),.bool (zz.2.c 0 2),.bool (zz.2.c 0 3),.bool (zz.2.c 1 0),.bool (zz.2.c 1 1),.bool (zz.2.c 1 2),.bool (zz.2.c 1 3),.bool (zz.2.c 2 0),.bool (zz.2.c 2 1),.bool (zz.2.c 2 2),.bool (zz.2.c 2 3),.bool (zz.2.c 3 0),.bool (zz.2.c 3 1),.bool (zz.2.c 3 2),.bool (zz.2.c 3 3)]⟩ 159 (0,0)),.l LT,.b b6 (.cells ⟨[.slice mD iC.length lD,vT,.slice fa 0 fc]⟩ 31 (0,0)),.l LR,.b Ie (.cells ⟨[.slice mD iC.length lD,.slice fg iX.length eo,.slice fa 0 fc,.slice eI K.cs.length eB,.slice dO hv.length dv,.slice k8 K.rules.length k7,.slice lg K.before.length k9,.slice kD K.after.length j7,zI K.gone,zI K.new,zI K.af,.slice iT K.facts.length gN,vR]⟩ 128 (0,0)),.b b1 (.cells ⟨[.slice mD iC.length lD,.slice fg iX.length eo,.slice fa 0 fc,.slice eI K.cs.length eB,.slice dO hv.length dv,.slice k8 K.rules.length k7,.slice lg K.before.length k9,.slice kD K.after.length j7,zI K.gone,zI K.new,zI K.af,.slice iT K.facts.length gN]⟩ 40 (0,0)),.b b2 (.cells ⟨[zP Ie]⟩ 104 (0,0)),.b b3 (.cells ⟨[zI 0]⟩ 46 (0,0))]) (fun(zz:Nat×bF)=>zz.1≤K.before.length∧ES (lf K qX we).c zz.1 0 zz.2) (fun(zz:Nat×bF)=>K.before.length-zz.1) (⟨0,⟨fun _ _=>false⟩⟩) ⟨by dsimp only;omega,fun x y=>by simp⟩ [0,1,2,3,4,5,6,7] ?_
  rintro⟨i,r⟩ hQ K6 hK6 rest
  dsimp only at hQ
  refine zD 5<|zJ 63 ((i:Int) <(K.before.length:Int)) (fun h9=>?_) fun h9=>?_
  ·
   refine zD 7 ?_
   obtain⟨JG,Jd⟩:=zG K.before i
   refine iA k9 5 Kc Jd<|jl 0 ((Kb _ _ Jd).ext (uu bY))<|jn fun SH=>jd 7 [0,3,0]<|jp (vs:=[.agg ⟨[.string JG.name,zI JG.st,zI JG.no,zI JG.head,.bool JG.bold]⟩]) [] [] (fun aC hs hZ=>Xq)<|aL 3 fun abV acE Q9=>jcL (vs:=[.agg ⟨[.slice mD iC.length lD,vT,.slice fa 0 fc]⟩,.agg ⟨[zI JG.st,zI JG.no,zI 0]⟩]) [] [2] LT (fun aC hs hZ=>(h47 _ hwm _ (List.mem_of_getElem? Jd)).2 _ (bY.trans hs) _ _ _ _ _ rfl ⟨_,hJ.2.1.kZ hZ,hS6.imp fun _ _ k=>k.up hs⟩) ?_
   rintro _ Y71 ⟨a71,n71,c71,rfl,aQG⟩
   refine bB Q9 [1,2,3,4,5,6,7,8,9]<|zD 9<|jp (vs:=[zI 0]) [] [] (fun aC hs hZ=>AN)<|jf [0] Y71 (fun bcD aCu aSg=>?_)
   obtain⟨qPa,qPb,qPo,qPc,heP,qPk,qPh,qPl⟩:=aQG _ aSg
   simp only[Value.slice.injEq] at heP
   obtain⟨rfl,rfl,rfl⟩:=heP
   refine jd 9 [6]<|dW [1,1,1,0,1,0,0,1,1,0,0,1,1,1,1,0,1,0,0,1,1,0,0,1,1,1,1,0,0] [K1,K6] (fun(zz:Nat×bF)=>[(1,zP b1),(2,zP b2),(3,zP b3),(6,zP b6),(9,zP b9),(10,zI (i:Int)),(12,.slice a71 ((qX we JG).length) c71),(21,.slice a21 wsW.length c21),(22,zI (wsW.length:Int)),(23,zI (k:Int)),(60,.slice lg K.before.length k9),(61,zI (K.before.length:Int)),(62,zI (i:Int)),(77,.slice kD K.after.length j7),(78,zI (K.after.length:Int)),(79,zI (zz.1:Int))]) (fun(zz:Nat×bF)=>[.b b9 (.cells ⟨[.bool (zz.2.c 0 0),.bool (zz.2.c 0 1),.bool (zz.2.c 0 2),.bool (zz.2.c 0 3),.bool (zz.2.c 1 0),.bool (zz.2.c 1 1),.bool (zz.2.c 1 2),.bool (zz.2.c 1 3),.bool (zz.2.c 2 0),.bool (zz.2.c 2 1),.bool (zz.2.c 2 2),.bool (zz.2.c 2 3),.bool (zz.2.c 3 0),.bool (zz.2.c 3 1),.bool (zz.2.c 3 2),.bool (zz.2.c 3 3)]⟩ 159 (0,0)),.b SH (.cells ⟨[.string JG.name,zI JG.st,zI JG.no,zI JG.head,.bool JG.bold]⟩ 44 (0,0)),.l LT,.b b6 (.cells ⟨[.slice mD iC.length lD,vT,.slice fa 0 fc]⟩ 31 (0,0)),.l LR,.b Ie (.cells ⟨[.slice mD iC.length lD,.slice fg iX.length eo,.slice fa 0 fc,.slice eI K.cs.length eB,.slice dO hv.length dv,.slice k8 K.rules.length k7,.slice lg K.before.length k9,.slice kD K.after.length j7,zI K.gone,zI K.new,zI K.af,.slice iT K.facts.length gN,vR]⟩ 128 (0,0)),.b b1 (.cells ⟨[.slice mD iC.length lD,.slice fg iX.length eo,.slice fa 0 fc,.slice eI K.cs.length eB,.slice dO hv.length dv,.slice k8 K.rules.length k7,.slice lg K.before.length k9,.slice kD K.after.length j7,zI K.gone,zI K.new,zI K.af,.slice iT K.facts.length gN]⟩ 40 (0,0)),.b b2 (.cells ⟨[zP Ie]⟩ 104 (0,0)),.b b3 (.cells ⟨[zI 0]⟩ 46 (0,0))]) (fun(zz:Nat×bF)=>zz.1≤K.after.length∧ES (lf K qX we).c i zz.1 zz.2) (fun(zz:Nat×bF)=>K.after.length-zz.1) (⟨0,r⟩) ⟨by dsimp only;omega,hQ.2⟩ [1,0,2,3,4,5,6,7,8] ?_
   rintro⟨j,r⟩ hU K8 hK8 rest
   dsimp only at hU
   refine zD 5<|zJ 80 ((j:Int) <(K.after.length:Int)) (fun h14=>?_) fun h14=>?_
   ·
    refine zD 7 ?_
    obtain⟨EY,Ud⟩:=zG K.after j
    refine iA j7 5 Gb Ud<|jl 0 ((Ga _ _ Ud).ext (uu (bY.trans aCu)))<|jn fun mA=>jd 3 [0] ?_
    have hRW:(lf K qX we).c i j=decide (bN (py EY.st EY.no 0) (qX we JG) 0≥0):=by simp only[lf,Jd,Ud]
    refine jd 5 [0]<|GM (b:=b9) (off:=0) (len:=4) (sz:=4) (i:Int) (by omega)<|jp (vs:=[.agg ⟨[.string EY.name,zI EY.st,zI EY.no,zI EY.head,.bool EY.bold]⟩]) [] [] (fun aC hs hZ=>Xq)<|jp (vs:=[.slice a71 ((qX we JG).length) c71,.agg ⟨[zI EY.st,zI EY.no,zI 0]⟩]) [] [] (fun aC hs hZ=>KO ((show bE _ _ _ _ _ from ⟨a71,qPb,qPo,c71,rfl,qPk,qPh,qPl⟩).up hs) (h47 _ hwm _ (List.mem_of_getElem? Jd)).1)<|GM (b:=b9) (off:=0+(i:Int).toNat*4) (len:=4) (sz:=1) (j:Int) (by omega)<|aL 8 fun YU Zc UQ=>jsx 1 b9 (0+(i:Int).toNat*4+(j:Int).toNat*1) [.bool (r.c 0 0),.bool (r.c 0 1),.bool (r.c 0 2),.bool (r.c 0 3),.bool (r.c 1 0),.bool (r.c 1 1),.bool (r.c 1 2),.bool (r.c 1 3),.bool (r.c 2 0),.bool (r.c 2 1),.bool (r.c 2 2),.bool (r.c 2 3),.bool (r.c 3 0),.bool (r.c 3 1),.bool (r.c 3 2),.bool (r.c 3 3)] [.bool (decide (bN (py EY.st EY.no 0) (qX we JG) 0≥0))] 159 (by intro v hv;rw[List.mem_singleton] at hv;subst hv;rfl) (Ww (r:=r) (by omega) (by omega)) ?_
    refine jmw 0 [.b b9 (.cells ⟨[.bool ((jk r i j ((lf K qX we).c i j)).c 0 0),.bool ((jk r i j ((lf K qX we).c i j)).c 0 1),.bool ((jk r i j ((lf K qX we).c i j)).c 0 2),.bool ((jk r i j ((lf K qX we).c i j)).c 0 3),.bool ((jk r i j ((lf K qX we).c i j)).c 1 0),.bool ((jk r i j ((lf K qX we).c i j)).c 1 1),.bool ((jk r i j ((lf K qX we).c i j)).c 1 2),.bool ((jk r i j ((lf K qX we).c i j)).c 1 3),.bool ((jk r i j ((lf K qX we).c i j)).c 2 0),.bool ((jk r i j ((lf K qX we).c i j)).c 2 1),.bool ((jk r i j ((lf K qX we).c i j)).c 2 2),.bool ((jk r i j ((lf K qX we).c i j)).c 2 3),.bool ((jk r i j ((lf K qX we).c i j)).c 3 0),.bool ((jk r i j ((lf K qX we).c i j)).c 3 1),.bool ((jk r i j ((lf K qX we).c i j)).c 3 2),.bool ((jk r i j ((lf K qX we).c i j)).c 3 3)]⟩ 159 (0,0))] (L:=[(b9,.cells ⟨dC [.bool (r.c 0 0),.bool (r.c 0 1),.bool (r.c 0 2),.bool (r.c 0 3),.bool (r.c 1 0),.bool (r.c 1 1),.bool (r.c 1 2),.bool (r.c 1 3),.bool (r.c 2 0),.bool (r.c 2 1),.bool (r.c 2 2),.bool (r.c 2 3),.bool (r.c 3 0),.bool (r.c 3 1),.bool (r.c 3 2),.bool (r.c 3 3)] (0+(i:Int).toNat*4+(j:Int).toNat*1) [.bool (decide (bN (py EY.st EY.no 0) (qX we JG) 0≥0))]⟩ 159 (0,0))]) (by rw[Wu (by omega) (by omega),hRW];rfl) ?_
    refine iu UQ []<|zD 2<|ja ((j:Int)+1) (by omega)<|zD 2<|bJ hK8 (⟨j+1,(jk r i j ((lf K qX we).c i j))⟩) ⟨by dsimp only;omega,hU.2.set⟩ (by dsimp only;omega) [0,2,3,4,5,6,7,8,9] (Sub.refl _)
   refine zD 3<|ja ((i:Int)+1) (by omega)<|zD 2<|bJ hK6 (⟨i+1,r⟩) ⟨by dsimp only;omega,ES.nxt (fun x y h=>arV x y h) (by have:=hU.2;rwa[show j=K.after.length by omega] at this)⟩ (by dsimp only;omega) [0,2,3,4,5,6,7,8] aCu
  refine jd 9 [6,6,4,0]<|aL 6 fun Ft FL wy=>jn fun aH4=>bB wy [1,2,3,4,5,6,7,8]<|aL 7 fun JF JL CG=>jq (sz:=16) (ps:=((W.take k).map (lf K qX))) (qs:=[(r:bF)]) (enc:=CX) (w:= .slice (some ⟨aH4,0,none⟩) 1 1) [4] [0] [(aH4,.cells ⟨([(r:bF)].map CX).flatten⟩ 159 (0,0))] (hI.2) (fun s _ hZ=>bX [(r:bF)] (hZ _ (.head _)) (by intro p hp;rfl)) (fun p _=>aj rfl) (by simp only[List.length_map,List.length_take,List.length_cons,List.length_nil];omega) (fun bcg aWL XL=>?_)
  obtain⟨ay4,ayX,aDM⟩:=XL.form
  subst aDM
  refine iu CG [[7],[7]]<|zD 2<|aL 10 fun OH O3 CE=>jd 1 [5]<|iu CE []<|zD 2<|ja ((k:Int)+1) (by omega)<|zD 2<|bJ bK (⟨k+1,(.slice ay4 ((((W.take k).map (lf K qX))++[(r:bF)])).length ayX),aWL⟩) ⟨by dsimp only;omega,by rw[jJ aDl,List.map_append];have e:=ES.fin (fun x y h=>arW x y h) (by have:=hQ.2;rwa[show i=K.before.length by omega] at this);subst e;exact XL⟩ (by dsimp only;omega) [0,5,6,7,8] (Sub.refl _)
 refine jd 9 [3,3,4]<|jrD (g:=83) (ca:=[zP b2,zP b3]) ⟨rfl,rfl⟩ (.tuple ⟨[zP Ie,zI 0]⟩) [3,4] [1,0] ((Ie,.cells ⟨[.slice mD iC.length lD,.slice fg iX.length eo,.slice fa 0 fc,.slice eI K.cs.length eB,.slice dO hv.length dv,.slice k8 K.rules.length k7,.slice lg K.before.length k9,.slice kD K.after.length j7,zI K.gone,zI K.new,zI K.af,.slice iT K.facts.length gN,vR]⟩ 128 (0,0))::LR) 9 bY ⟨_,_,rfl,rfl,Ie,rfl,fun mg hs hk=>⟨_,_,_,_,_,_,_,_,_,_,hv,hk _ (.head _),p9.up hs,nC,vq.up hs,u9.up hs,ha0.up hs,hf0.up hs,by have:=hI.2;rw[List.take_of_length_le (by omega)] at this;exact this.kZ hk.tail⟩⟩
theorem Se.v(h:Se K):fe K where
 rules:=⟨by have:=h.rules.1;omega,fun r hr=>arT (h.rules.2 r hr)⟩
 before:=⟨by have:=h.before.1;omega,fun p hp=>by
  obtain⟨h1,h2,_⟩:=(h.before.2 p hp).1
  exact⟨⟨⟨h1.1.1,by have:=h1.1.2;omega⟩,h1.2⟩,h2⟩⟩
 after:=⟨by have:=h.after.1;omega,fun p hp=>by
  obtain⟨h1,h2,_⟩:=(h.after.2 p hp).1
  exact⟨⟨⟨h1.1.1,by have:=h1.1.2;omega⟩,h1.2⟩,h2⟩⟩
 dr:=h.dr.v
 facts:=⟨by have:=h.facts.1;omega,h.facts.2⟩
theorem qO.up{ro aG:Nat→Option Obj}(h:qO ro l W)(hs:Sub ro aG):qO aG l W:=fun aC h1=>h aC (hs.trans h1)
theorem xH.up{ro aG:Nat→Option Obj}{qX:List Int→ay→List an}(h:xH ro l K W qX)(hs:Sub ro aG):xH aG l K W qX:=fun w hw x hx=>⟨(h w hw x hx).1,fun aC h1=>(h w hw x hx).2 aC (hs.trans h1)⟩
theorem an2{qX:List Int→ay→List an}{ro:Nat→Option Obj}(hK:fP ro l K)(hO:kV K)(hV:fe K)(hW:VH K W)(h76:qO ro l W)(h47:xH ro l K W qX):ia ro l K (W.map (lf K qX)):=
 fun aC hs=>atC (hK.up hs) hO hV hW (h76.up hs) (h47.up hs)
def q6(a b:Int):Int:=if a <b then-1 else if a>b then 1 else 0
def orL:List Int→Int
 | []=>0
 |x::l=>if x=0 then orL l else x
theorem adZ{l:List Int}{x:Int}(h:l[k]?=some x):orL (l.drop k)=if x=0 then orL (l.drop (k+1)) else x:=by rw[fF h];rfl
theorem alq{l:List Int}(h:¬k <l.length):orL (l.drop k)=0:=by rw[eL h];rfl
def aa5(x y:ah):Int:=orL [q6 x.n y.n,q6 x.l y.l]
theorem anQ{x y:ah}(h:ali x y):aa5 x y <0:=by
 rcases h with h| ⟨h1,h2⟩
 ·have e:q6 x.n y.n= -1:=if_pos h
  simp[aa5,orL,e]
 have e:q6 x.n y.n=0:=by simp only[q6];rw[if_neg (by omega),if_neg (by omega)]
 have e2:q6 x.l y.l= -1:=if_pos h2
 simp[aa5,orL,e,e2]
theorem aG2{a:Int}{ro:Nat→Option Obj}:dt zT 181 [zI a] ro (.bool false):=by
 refine bD au [] [] ba<|zD 12<|aF q0 (.bool (!decide (a=a))) [] [] [] (Sub.refl _) ⟨_,_,rfl,rfl,by simp,rfl⟩
theorem aws{a b:Int}{ro:Nat→Option Obj}:dt zT 153 [zI a,zI b] ro (zI (q6 a b)):=by
 refine bD au [] [] ba<|zD 7<|jp (vs:=[zI a]) [] [] (fun aC hs hZ=>aG2)<|zD 5<|jp (vs:=[zI b]) [] [] (fun aC hs hZ=>aG2)<|zD 23<|zJ 16 (a <b) (fun h1=>?_) fun h1=>?_
 ·
  refine zD 6<|aF q0 (zI (-1)) [] [] [] (Sub.refl _) ⟨_,_,rfl,rfl,by simp only[q6];first|rw[if_pos (by omega)]|rw[if_neg (by omega),if_pos (by omega)]|rw[if_neg (by omega),if_neg (by omega)],rfl⟩
 refine zD 9<|zJ 19 (a>b) (fun h2=>?_) fun h2=>?_
 ·
  refine zD 6<|aF q0 (zI 1) [] [] [] (Sub.refl _) ⟨_,_,rfl,rfl,by simp only[q6];first|rw[if_pos (by omega)]|rw[if_neg (by omega),if_pos (by omega)]|rw[if_neg (by omega),if_neg (by omega)],rfl⟩
 refine zD 7<|aF q0 (zI 0) [] [] [] (Sub.refl _) ⟨_,_,rfl,rfl,by simp only[q6];first|rw[if_pos (by omega)]|rw[if_neg (by omega),if_pos (by omega)]|rw[if_neg (by omega),if_neg (by omega)],rfl⟩
theorem gOr{v:Value}{ro:Nat→Option Obj}(hl:bE ro v 1 cA xs)(hn:xs.length≤1000):dt zT 200 [v] ro (zI (orL xs)):=by
 obtain⟨fI,rV,rS,eZ,rfl,tR,lQ,mO⟩:=hl
 refine bD au [] [] ba<|zD 16<|dW [1,1,0,1,0,0] [] (fun(zz:Nat)=>[(3,zI 0),(6,.slice fI xs.length eZ),(7,zI (xs.length:Int)),(8,zI (zz:Int))]) (fun(zz:Nat)=>[]) (fun(zz:Nat)=>zz≤xs.length∧orL xs=orL (xs.drop zz)) (fun(zz:Nat)=>xs.length-zz) 0 ⟨by omega,rfl⟩ [] ?_
 rintro k hI K1 bK rest
 refine zD 5<|zJ 9 ((k:Int) <(xs.length:Int)) (fun h1=>?_) fun h1=>?_
 ·
  refine zD 6 ?_
  obtain⟨x10,r5⟩:=zG xs k
  refine iA eZ 1 lQ r5<|jl 0 (mO _ _ r5)<|zD 8<|js 14 (!decide (x10=0)) (fun h2=>?_) (fun h2=>?_)
  ·
   replace h2:=of_decide_eq_false (by simpa using h2)
   refine zD 7<|aF q0 (zI x10) [] [] [] (Sub.refl _) ⟨_,_,rfl,rfl,by rw[hI.2,adZ r5,if_neg (by simp_all)],rfl⟩
  replace h2:=of_decide_eq_true (by simpa using h2)
  refine zD 3<|ja ((k:Int)+1) (by omega)<|zD 2<|bJ bK (k+1) ⟨by omega,by rw[hI.2,adZ r5,if_pos (by simp_all)]⟩ (by omega) [] (Sub.refl _)
 refine zD 8<|aF q0 (zI 0) [] [] [] (Sub.refl _) ⟨_,_,rfl,rfl,by rw[hI.2,alq (by omega)],rfl⟩
theorem aqi{x y:ah}{ro:Nat→Option Obj}:dt zT 201 [.agg ⟨[zI x.n,zI x.l]⟩,.agg ⟨[zI y.n,zI y.l]⟩] ro (zI (aa5 x y)):=by
 refine bD au [] [] ba<|zD 2<|jn fun b2=>jn fun b3=>jd 12 [1,0,1,0]<|jp (vs:=[zI x.n,zI y.n]) [] [] (fun aC hs hZ=>aws)<|jp (vs:=[zI x.l,zI y.l]) [] [] (fun aC hs hZ=>aws)<|aL 10 fun Ea Eg BB=>jn fun mA=>bB BB [1,2]<|jp (vs:=[.slice (some ⟨mA,0,none⟩) 2 2]) [0] [(mA,.cells ⟨([(q6 x.n y.n),(q6 x.l y.l)].map cA).flatten⟩ 3 (0,0))] (fun aC hs hZ=>gOr (bR [(q6 x.n y.n),(q6 x.l y.l)] hZ.head (by intro p hp;rfl)) (by first|omega| (simp only[List.length_set,List.length_append,List.length_cons,List.length_nil];omega))) ?_
 refine zD 3<|aF q0 (zI (orL [(q6 x.n y.n),(q6 x.l y.l)])) [] [] [] (Sub.refl _) ⟨_,_,rfl,rfl,rfl,rfl⟩
theorem AX{n lo hi:Int}{ro:Nat→Option Obj}:dt zT 188 [zI n,zI lo,zI hi] ro (.bool (iz n lo hi)):=by
 refine bD au [] [] ba<|zD 10<|jj 4 [(6,.bool false),(14,.bool ((decide (lo≤n))&&(decide (n≤hi))))] (fun gV=>?_) (fun hj=>?_)
 rotate_left
 refine js 10 (decide (lo≤n)) (fun h1=>?_) (fun h1=>?_)
 ·
  have gv:=h1
  replace gv:=of_decide_eq_true gv
  refine zD 4<|jw 14 (.bool ((decide (lo≤n))&&(decide (n≤hi)))) (w:= .bool (decide (n≤hi))) (by rw[h1]<;>rfl) ?_
  exact hj _ (by kernel_rfl) (by kernel_rfl)
 ·
  have gv:=h1
  replace gv:=of_decide_eq_false gv
  refine zD 4<|jw 14 (.bool ((decide (lo≤n))&&(decide (n≤hi)))) (w:= .bool false) (by rw[h1]<;>rfl) ?_
  exact hj _ (by kernel_rfl) (by kernel_rfl)
 refine zD 3<|aF q0 (.bool ((decide (lo≤n))&&(decide (n≤hi)))) [] [] [] (Sub.refl _) ⟨_,_,rfl,rfl,rfl,rfl⟩
theorem awn{x:ah}{ro:Nat→Option Obj}(hx:Bq x):dt zT 190 [.agg ⟨[zI x.n,zI x.l]⟩] ro (.bool true):=by
 obtain⟨⟨hx1,hx2⟩,hx3,hx4⟩:=hx
 refine bD au [] [] ba<|zD 2<|jn fun b1=>jd 6 [0]<|jp (vs:=[zI x.n,zI 1,zI 40]) [] [] (fun aC hs hZ=>AX)<|zD 1<|jj 4 [(2,.bool false),(10,.bool ((iz x.n 1 40)&&(iz x.l 0 4)))] (fun gV=>?_) (fun hj=>?_)
 rotate_left
 refine js 6 (iz x.n 1 40) (fun h1=>?_) (fun h1=>?_)
 ·
  refine jd 2 [0]<|jp (vs:=[zI x.l,zI 0,zI 4]) [] [] (fun aC hs hZ=>AX)<|zD 1<|jw 10 (.bool ((iz x.n 1 40)&&(iz x.l 0 4))) (w:= .bool (iz x.l 0 4)) (by rw[h1]<;>rfl) ?_
  exact hj _ (by kernel_rfl) (by kernel_rfl)
 ·
  refine zD 4<|jw 10 (.bool ((iz x.n 1 40)&&(iz x.l 0 4))) (w:= .bool false) (by rw[h1]<;>rfl) ?_
  exact hj _ (by kernel_rfl) (by kernel_rfl)
 refine zD 3<|aF q0 (.bool ((iz x.n 1 40)&&(iz x.l 0 4))) [] [] [] (Sub.refl _) ⟨_,_,rfl,rfl,by simp only[iz,Value.bool.injEq,Bool.and_eq_true,decide_eq_true_eq];omega,rfl⟩
theorem awt{v:Value}{S:List (List ah)}{ro:Nat→Option Obj}(hS:cW ro v S)(hO:fp S):dt zT 187 [.agg ⟨[v]⟩] ro (zI 0):=by
 obtain⟨ws,ht,de⟩:=hS
 obtain⟨fg,Av,As,eo,rfl,Au,su,sr⟩:=ht
 have hln:=de.len
 have Jh:=hO.two
 refine bD au [] [] ba<|zD 2<|jn fun b1=>jd 10 [0]<|zJ 10 ((ws.length:Int)=0) (fun h1=>?_) fun h1=>?_
 ·
  exfalso;omega
 refine jd 10 [0]<|zJ 14 ((ws.length:Int)>3) (fun h2=>?_) fun h2=>?_
 ·
  exfalso;omega
 refine jd 11 [0]<|dW [1,1,1,0,1,0,0] [] (fun(zz:Nat)=>[(16,.slice fg ws.length eo),(17,zI (ws.length:Int)),(18,zI (zz:Int))]) (fun(zz:Nat)=>[.b b1 (.cells ⟨[.slice fg ws.length eo]⟩ 27 (0,0))]) (fun(zz:Nat)=>zz≤ws.length) (fun(zz:Nat)=>ws.length-zz) 0 (by omega) [0] ?_
 rintro k hI K1 bK rest
 refine zD 5<|zJ 19 ((k:Int) <(ws.length:Int)) (fun h3=>?_) fun h3=>?_
 ·
  refine zD 6 ?_
  obtain⟨x20,Ng⟩:=zG ws k
  refine iA eo 1 su Ng ?_
  obtain⟨l21,auO,h21⟩:=de.get Ng
  obtain bfi:=hO.len _ (List.mem_of_getElem? auO)
  obtain aQT:=hO.ok _ (List.mem_of_getElem? auO)
  obtain amC:=hO.asc _ (List.mem_of_getElem? auO)
  obtain⟨aAP,bdk,bdi,alf,rfl,bdj,aAO,aAN⟩:=h21
  refine jl 0 (sr _ _ Ng)<|zD 9<|zJ 24 ((l21.length:Int)>8) (fun h4=>?_) fun h4=>?_
  ·
   exfalso;omega
  refine zD 9<|dW [1,1,1,0,1,0,0,1,1,0,0,1,1,1,0,0] [K1] (fun(zz:Nat)=>[(4,.slice aAP l21.length alf),(16,.slice fg ws.length eo),(17,zI (ws.length:Int)),(18,zI (k:Int)),(25,.slice aAP l21.length alf),(26,zI (l21.length:Int)),(27,zI (zz:Int))]) (fun(zz:Nat)=>[.b b1 (.cells ⟨[.slice fg ws.length eo]⟩ 27 (0,0))]) (fun(zz:Nat)=>zz≤l21.length) (fun(zz:Nat)=>l21.length-zz) 0 (by omega) [0] ?_
  rintro i hJ K2 mr rest
  refine zD 5<|zJ 28 ((i:Int) <(l21.length:Int)) (fun h5=>?_) fun h5=>?_
  ·
   refine zD 7 ?_
   obtain⟨ox,ju⟩:=zG l21 i
   refine iA alf 2 aAO ju<|jl 0 (aAN _ _ ju)<|jn fun b6=>jd 7 [0,0]<|jp (vs:=[.agg ⟨[zI ox.n,zI ox.l]⟩]) [] [] (fun aC hs hZ=>(awn (x:=ox) (aQT _ (List.mem_of_getElem? ju))))<|zD 9<|js 2 (decide ((i:Int)>0)) (fun h6=>?_) (fun h6=>?_)
   ·
    have h6g:=h6
    replace h6g:=of_decide_eq_true h6g
    refine zD 2<|ja ((i:Int)-1) (by omega) ?_
    obtain⟨x41,atQ⟩:=zG l21 (((i:Int)-1).toNat)
    refine Oq ((i:Int)-1) alf 2 aAO atQ (by omega)<|jl 0 (aAN _ _ atQ)<|jd 1 [0]<|jp (vs:=[.agg ⟨[zI x41.n,zI x41.l]⟩,.agg ⟨[zI ox.n,zI ox.l]⟩]) [] [] (fun aC hs hZ=>(aqi (x:=x41) (y:=ox)))<|zD 3<|zJ 46 ((aa5 x41 ox)≥0) (fun h7=>?_) fun h7=>?_
    ·
     exfalso;have:=anQ (ql amC (show ((i:Int)-1).toNat <i by omega) atQ ju);simp_all;omega
    refine zD 3<|ja ((i:Int)+1) (by omega)<|zD 2<|bJ mr (i+1) (by omega) (by omega) [1] (Sub.refl _)
   have h6g:=h6
   replace h6g:=of_decide_eq_false h6g
   refine zD 13<|ja ((i:Int)+1) (by omega)<|zD 2<|bJ mr (i+1) (by omega) (by omega) [1] (Sub.refl _)
  refine zD 3<|ja ((k:Int)+1) (by omega)<|zD 2<|bJ bK (k+1) (by omega) (by omega) [0] (Sub.refl _)
 refine zD 7<|aF q0 (zI 0) [] [] [] (Sub.refl _) ⟨_,_,rfl,rfl,rfl,rfl⟩
abbrev pd(x:an):Value:= .agg ⟨cJ x⟩
instance:DecidableEq an:=fun x y=>match x,y with
 | ⟨a,b,c⟩,⟨d,e,f⟩=>if h:a=d∧b=e∧c=f then isTrue (by obtain⟨rfl,rfl,rfl⟩:=h;rfl) else isFalse fun k=>h (by cases k;exact⟨rfl,rfl,rfl⟩)
def mQ(s:Int)(x:ah):an:=⟨s,x.n,x.l⟩
def QB(S:List (List ah)):Nat→List an
 |0=>[]
 |k+1=>QB S k++(match S[k]? with
  |some l=>l.map (mQ k)
  |none=>[])
def bH(S:List (List ah)):List an:=QB S S.length
theorem at6{S:List (List ah)}{l:List ah}(h:S[k]?=some l):QB S (k+1)=QB S k++l.map (mQ k):=by simp only[QB,h]
theorem E9{S:List (List ah)}{x:an}:∀ {k:Nat},x∈QB S k↔∃j l p,j <k∧S[j]?=some l∧p∈l∧x=mQ j p
 |0=>by simp[QB]
 |k+1=>by
  simp only[QB,List.mem_append,E9 (k:=k)]
  constructor
  ·rintro(⟨j,l,p,h1,h2⟩|h)
   ·exact⟨j,l,p,by omega,h2⟩
   split at h
   ·rename_i l hl
    obtain⟨p,hp,rfl⟩:=List.mem_map.1 h
    exact⟨k,l,p,by omega,hl,hp,rfl⟩
   cases h
  rintro⟨j,l,p,h1,h2,h3,rfl⟩
  by_cases hj:j=k
  ·subst hj;rw[h2];exact .inr (List.mem_map_of_mem h3)
  exact .inl ⟨j,l,p,by omega,h2,h3,rfl⟩
theorem G8{S:List (List ah)}{l:List ah}{p:ah}(h1:S[j]?=some l) (h2:p∈l):mQ j p∈bH S:=E9.2 ⟨j,l,p,(List.getElem?_eq_some_iff.1 h1).1,h1,h2,rfl⟩
theorem Uj{S:List (List ah)}(hO:fp S):∀k,(QB S k).Nodup
 |0=>List.nodup_nil
 |k+1=>by
  simp only[QB]
  refine List.nodup_append.2 ⟨Uj hO k,?_,fun x hx y hy e=>?_⟩
  ·split
   ·rename_i l hl
    refine List.pairwise_map.2 ((hO.asc l (List.mem_of_getElem? hl)).imp fun {a b} h e=>?_)
    simp only[mQ,an.mk.injEq] at e
    rcases h with h|h<;>omega
   exact List.nodup_nil
  subst e
  obtain⟨j,l,p,h1,_,_,rfl⟩:=E9.1 hx
  split at hy
  ·obtain⟨q,_,hq⟩:=List.mem_map.1 hy
   simp only[mQ,an.mk.injEq] at hq
   omega
  cases hy
theorem Ni{S:List (List ah)}(hO:fp S):∀k,(QB S k).length≤4*k
 |0=>by simp[QB]
 |k+1=>by
  have:=Ni hO k
  simp only[QB,List.length_append]
  split
  ·rename_i l hl
   have:=hO.len l (List.mem_of_getElem? hl)
   rw[List.length_map];omega
  simp;omega
theorem uo{S:List (List ah)}(hO:fp S):(bH S).length≤8:=by
 have:=Ni hO S.length
 have:=hO.two
 unfold bH;omega
theorem aHm(a b:an):EqD zT 10000 164 (pd a) (pd b) (decide (a=b)):=by
 have h:=(ux (ny Tryz.typeInfo164 Tryz.underlying164 rfl rfl rfl rfl rfl rfl) Tryz.stoodInHeld164 (.cons (by decide) (ku mL rfl) (ku mL rfl) (oh mL _ _) (.cons (by decide) (Gj (ny Tryz.typeInfo73 Tryz.underlying73 rfl rfl rfl rfl rfl rfl) rfl) (Gj (ny Tryz.typeInfo73 Tryz.underlying73 rfl rfl rfl rfl rfl rfl) rfl) (aim _ _ _ _ 9997) .nil)):EqD zT 10000 164 (pd a) (pd b) _)
 have e:(a.h==b.h&&((a.n==b.n&&(a.l==b.l&&true))&&true))=decide (a=b):=by
  rcases a with ⟨x,y,z⟩;rcases b with ⟨u,v,w⟩
  rw[Bool.eq_iff_iff];simp
 rwa[e] at h
theorem aVF(a:an):CkD zT 10000 164 (pd a):=
 RP (ny Tryz.typeInfo164 Tryz.underlying164 rfl rfl rfl rfl rfl rfl) (.cons (by decide) (ku mL rfl) (HT mL _) (.cons (by decide) (Gj (ny Tryz.typeInfo73 Tryz.underlying73 rfl rfl rfl rfl rfl rfl) rfl) (RP (dep:=9998) (ny Tryz.typeInfo73 Tryz.underlying73 rfl rfl rfl rfl rfl rfl) (.cons (by decide) (ku mL rfl) (HT mL _) (.cons (by decide) (ku mL rfl) (HT mL _) .nil))) .nil))
theorem DK:Sf zT 164 pd:=aeX (ny Tryz.typeInfo164 Tryz.underlying164 rfl rfl rfl rfl rfl rfl) (fun k=>⟨_,rfl⟩) aVF aHm (fun k=>by simp[Instr.sameBits])
def MV(Z:Cells)(F:List (an×Value))(g:an→an):Prop:=∀aG,Knows aG Z→∀x∈F,bE aG x.2 3 cJ [g x.1]
theorem Hy[DecidableEq κ]{k:κ}:∀ {F:List (κ×Value)} {i:Nat},k∈F.map (·.1)→∃j v,sw k F i=some (j,v)
 | [],_,h=>by cases h
 |x::F,i,h=>by
  simp only[sw]
  split
  ·exact⟨_,_,rfl⟩
  rename_i hk
  refine Hy ?_
  rcases List.mem_cons.1 h with h|h
  ·exact absurd h hk
  exact h
theorem Xf[DecidableEq κ]{k:κ}{F:List (κ×Value)}(h:k∈F.map (·.1)):∃v,lkM k F=some v∧(k,v)∈F:=by
 obtain⟨j,v,h1⟩:=Hy (i:=0) h
 exact⟨v,by simp[lkM,h1],List.mem_of_getElem? (qH h1).2⟩
theorem acx[DecidableEq κ]{k:κ}{v:Value}{F:List (κ×Value)}(h:k∉F.map (·.1)):mC k v F=F++[(k,v)]:=by
 have:sw k F 0=none:=by
  cases hf:sw k F 0 with
  |none=>rfl
  |some y=>exact absurd (List.mem_map_of_mem (f:=(·.1)) (List.mem_of_getElem? (qH (j:=y.1) (v:=y.2) hf).2)) h
 simp only[mC,this]
theorem OU[DecidableEq κ]{k:κ}{v:Value}{F:List (κ×Value)}(h:k∈F.map (·.1))(hn:(F.map (·.1)).Nodup):(mC k v F).map (·.1)=F.map (·.1)∧∀x∈mC k v F,x=(k,v)∨(x∈F∧x.1≠k):=by
 obtain⟨j,u,h1⟩:=Hy (i:=0) h
 have h2:=(qH h1).2
 rw[Nat.sub_zero] at h2
 obtain⟨hj,SA⟩:=List.getElem?_eq_some_iff.1 h2
 simp only[mC,h1,E4]
 refine⟨?_,fun x hx=>?_⟩
 ·rw[List.map_set]
  refine List.ext_getElem? fun i=>?_
  rw[List.getElem?_set]
  split
  ·rename_i hi;subst hi;simp[h2,hj,SA]
  rfl
 obtain⟨i,hi⟩:=List.getElem?_of_mem hx
 rw[List.getElem?_set] at hi
 split at hi
 ·cases hi;exact .inl rfl
 rename_i IB
 refine .inr ⟨List.mem_of_getElem? hi,fun e=>IB ?_⟩
 obtain⟨hi1,QU⟩:=List.getElem?_eq_some_iff.1 hi
 exact(List.getElem_inj (xs:=F.map (·.1)) (h₀:=by simpa using hj) (h₁:=by simpa using hi1) hn).1 (by simp[SA,QU,e])
theorem MV.set{F:List (an×Value)}{g:an→an}(h:MV Z F g){k y:an}{v:Value}(hk:k∈F.map (·.1))(hn:(F.map (·.1)).Nodup)(hv:∀aG,Knows aG Z2→bE aG v 3 cJ [y]):MV (Z++Z2) (mC k v F) (fun x=>if x=k then y else g x):=fun aG hr x hx=>by
 rcases(OU hk hn).2 x hx with rfl| ⟨h1,h2⟩
 ·simp only[if_true];exact hv aG hr.right
 simp only[h2,if_false];exact h aG hr.left x h1
theorem MV.add{F:List (an×Value)}{g:an→an}(h:MV Z F g){k:an}{v:Value}(hv:∀aG,Knows aG Z2→bE aG v 3 cJ [g k]):MV (Z++Z2) (F++[(k,v)]) g:=fun aG hr x hx=>by
 rcases List.mem_append.1 hx with h1|h1
 ·exact h aG hr.left x h1
 rw[List.mem_singleton] at h1;subst h1;exact hv aG hr.right
theorem aHe{v:Value}{ro:Nat→Option Obj}(hl:bE ro v 1 cA xs)(hn:xs.length≤1000):eG zT 101 [v] ro [] (fun r Y=>az r 1 3 cA xs Y):=by
 obtain⟨fI,rV,rS,eZ,rfl,tR,lQ,mO⟩:=hl
 refine bD au [] [] ba<|zD 8<|jsn 22 (a:=fI) (l:=xs.length) (c:=eZ)<|zD 1<|js 4 (fI.isNone) (fun h1=>?_) (fun h1=>?_)
 ·
  refine zD 6<|aF q0 (zS) [] [] [] (Sub.refl _) ⟨_,_,rfl,rfl,by rw[rn lQ (by assumption)];exact az.nil _ _ _⟩
 refine zD 4<|jn fun b5=>zD 1<|jq (sz:=1) (ps:=[]) (qs:=xs) (enc:=cA) (w:= .slice fI xs.length eZ) [0] [] [] (bA (b:=b5) (T:=3)) (fun s he _=>⟨fI,rV,rS,eZ,rfl,lQ,fun i p hp=>(mO i p hp).ext he⟩) (fun p _=>aj rfl) (by simp<;>omega) (fun v7 L7 iN=>?_)
 rw[List.nil_append] at iN
 obtain⟨SU,SO,Q3⟩:=iN.form
 subst Q3
 refine zD 3<|aF q0 ((.slice SU (xs).length SO)) [] [0] L7 (Sub.refl _) ⟨_,_,rfl,rfl,iN⟩
theorem aVi{v:Value}{xs:List ah}{ro:Nat→Option Obj}(hl:bE ro v 2 cI xs)(hn:xs.length≤1000):eG zT 97 [v] ro [] (fun r Y=>az r 2 73 cI xs Y):=by
 obtain⟨fI,rV,rS,eZ,rfl,tR,lQ,mO⟩:=hl
 refine bD au [] [] ba<|zD 8<|jsn 74 (a:=fI) (l:=xs.length) (c:=eZ)<|zD 1<|js 4 (fI.isNone) (fun h1=>?_) (fun h1=>?_)
 ·
  refine zD 6<|aF q0 (zS) [] [] [] (Sub.refl _) ⟨_,_,rfl,rfl,by rw[rn lQ (by assumption)];exact az.nil _ _ _⟩
 refine zD 4<|jn fun b5=>zD 1<|jq (sz:=2) (ps:=[]) (qs:=xs) (enc:=cI) (w:= .slice fI xs.length eZ) [0] [] [] (bA (b:=b5) (T:=73)) (fun s he _=>⟨fI,rV,rS,eZ,rfl,lQ,fun i p hp=>(mO i p hp).ext he⟩) (fun p _=>aj rfl) (by simp<;>omega) (fun v7 L7 iN=>?_)
 rw[List.nil_append] at iN
 obtain⟨SU,SO,Q3⟩:=iN.form
 subst Q3
 refine zD 3<|aF q0 ((.slice SU (xs).length SO)) [] [0] L7 (Sub.refl _) ⟨_,_,rfl,rfl,iN⟩
theorem aVj{v:Value}{xs:List an}{ro:Nat→Option Obj}(hl:bE ro v 3 cJ xs)(hn:xs.length≤1000):eG zT 159 [v] ro [] (fun r Y=>az r 3 164 cJ xs Y):=by
 obtain⟨fI,rV,rS,eZ,rfl,tR,lQ,mO⟩:=hl
 refine bD au [] [] ba<|zD 8<|jsn 160 (a:=fI) (l:=xs.length) (c:=eZ)<|zD 1<|js 4 (fI.isNone) (fun h1=>?_) (fun h1=>?_)
 ·
  refine zD 6<|aF q0 (zS) [] [] [] (Sub.refl _) ⟨_,_,rfl,rfl,by rw[rn lQ (by assumption)];exact az.nil _ _ _⟩
 refine zD 4<|jn fun b5=>zD 1<|jq (sz:=3) (ps:=[]) (qs:=xs) (enc:=cJ) (w:= .slice fI xs.length eZ) [0] [] [] (bA (b:=b5) (T:=164)) (fun s he _=>⟨fI,rV,rS,eZ,rfl,lQ,fun i p hp=>(mO i p hp).ext he⟩) (fun p _=>aj rfl) (by simp<;>omega) (fun v7 L7 iN=>?_)
 rw[List.nil_append] at iN
 obtain⟨SU,SO,Q3⟩:=iN.form
 subst Q3
 refine zD 3<|aF q0 ((.slice SU (xs).length SO)) [] [0] L7 (Sub.refl _) ⟨_,_,rfl,rfl,iN⟩
theorem anu{v:Value}{S:List (List ah)}{ro:Nat→Option Obj}(hS:cW ro v S)(hO:fp S):eG zT 197 [.agg ⟨[v]⟩] ro [] (fun r Y=>∃a n c,r= .agg ⟨[.slice a n c]⟩∧∀aG,Knows aG Y→cW aG (.slice a n c) S):=by
 obtain⟨ws,ht,de⟩:=hS
 obtain⟨fg,Av,As,eo,rfl,Au,su,sr⟩:=ht
 have hln:=de.len
 have Jh:=hO.two
 refine bD au [] [] ba<|zD 2<|jn fun b1=>jn fun b2=>zD 4<|jn fun b3=>jd 11 [0,2]<|oH<|oH<|dW [1,1,0,1,0,0] [] (fun(zz:Nat×Value×Cells×(List Value)×Cells)=>[(2,zP b2),(3,zP b3),(8,.slice fg ws.length eo),(9,zI (ws.length:Int)),(10,zI (zz.1:Int))]) (fun(zz:Nat×Value×Cells×(List Value)×Cells)=>[.b b3 (.cells ⟨[zz.2.1]⟩ 27 (0,0)),.l zz.2.2.1,.l zz.2.2.2.2,.b b2 (.cells ⟨[zS]⟩ 27 (0,0)),.b b1 (.cells ⟨[.slice fg ws.length eo]⟩ 27 (0,0))]) (fun(zz:Nat×Value×Cells×(List Value)×Cells)=>(zz.1≤ws.length∧zz.2.2.2.1.length=zz.1)∧az zz.2.1 1 74 gh zz.2.2.2.1 zz.2.2.1∧∀aG,Knows aG zz.2.2.2.2→dg (fun w l=>bE aG w 2 cI l) zz.2.2.2.1 (S.take zz.1)) (fun(zz:Nat×Value×Cells×(List Value)×Cells)=>ws.length-zz.1) (⟨0,zS,[],[],[]⟩) ⟨⟨by dsimp only;omega,rfl⟩,az.nil _ _ _,fun _ _=> .nil⟩ [2,1,0,3,4] ?_
 rintro⟨k,vO,LO,es,Z⟩ hI K1 bK rest
 dsimp only at hI
 refine zD 5<|zJ 11 ((k:Int) <(ws.length:Int)) (fun h1=>?_) fun h1=>?_
 ·
  refine zD 6 ?_
  obtain⟨tG,qv⟩:=zG ws k
  refine iA eo 1 su qv ?_
  obtain⟨l13,aDo,BC⟩:=de.get qv
  obtain aDd:=hO.len _ (List.mem_of_getElem? aDo)
  obtain⟨aAY,aPj,aPf,aAX,rfl,aPh,aPi,aPg⟩:=BC
  refine jl 0 (sr _ _ qv)<|jd 6 [0]<|aL 3 fun Ac Aj zd=>jc (vs:=[.slice aAY l13.length aAX]) [] (aVi (show bE _ _ _ _ _ from ⟨aAY,aPj,aPf,aAX,rfl,aPh,aPi,aPg⟩) (by first|omega| (simp only[List.length_set,List.length_append,List.length_cons,List.length_nil];omega))) ?_
  rintro v17 L17 Cs
  obtain⟨xL,xK,Jp⟩:=Cs.form
  subst Jp
  refine bB zd [1,2,3,4,5]<|aL 4 fun sB sJ q5=>jn fun fG=>bB q5 [1,2,3,4,5,6]<|aL 5 fun sA sI qZ=>jq (sz:=1) (ps:=es) (qs:=[((.slice xL (l13).length xK):Value)]) (enc:=gh) (w:= .slice (some ⟨fG,0,none⟩) 1 1) [3] [0] [(fG,.cells ⟨([((.slice xL (l13).length xK):Value)].map gh).flatten⟩ 74 (0,0))] (hI.2.1) (fun s _ hZ=>bX [((.slice xL (l13).length xK):Value)] (hZ _ (.head _)) (by intro p hp;rfl)) (by intro p hp;rw[List.mem_singleton] at hp;subst hp;exact aj rfl) (by simp<;>omega) (fun v19 L19 af0=>?_)
  obtain⟨aMz,aMe,aSP⟩:=af0.form
  subst aSP
  refine iu qZ []<|zD 1<|aL 7 fun BG BM CC=>jd 1 [3]<|dZ CC<|zD 2<|ja ((k:Int)+1) (by omega)<|zD 2<|KR bK (⟨k+1,(.slice aMz ((es++[((.slice xL (l13).length xK):Value)])).length aMe),L19,(es++[((.slice xL (l13).length xK):Value)]),L17++Z⟩) ⟨⟨by dsimp only;omega,by simp only[List.length_append,List.length_cons,List.length_nil];omega⟩,af0,fun aG hk=>qe (hI.2.2 aG hk.right) aDo (Cs.kZ hk.left)⟩ (by dsimp only;omega) [[3],[0],[2,4],[5],[6]] (Sub.refl _)
 refine jd 5 [0] ?_
 obtain⟨va6,vc6,he6⟩:=hI.2.1.form
 subst he6
 refine jd 3 [3]<|aF q0 (.agg ⟨[(.slice va6 (es).length vc6)]⟩) [3] [1,2] (LO++Z) (Sub.refl _) ⟨_,_,rfl,rfl,_,_,_,rfl,fun aG hk=>⟨es,hI.2.1.kZ hk.left,by have:=hI.2.2 aG hk.right;rwa[List.take_of_length_le (by omega)] at this⟩⟩
theorem Yf{v:Value}{S:List (List ah)}{ro:Nat→Option Obj}(hS:cW ro v S)(hO:fp S):eG zT 189 [.agg ⟨[v]⟩] ro [] (fun r Y=>az r 3 164 cJ (bH S) Y):=by
 obtain⟨ws,ht,de⟩:=hS
 obtain⟨fg,Av,As,eo,rfl,Au,su,sr⟩:=ht
 have hln:=de.len
 have Jh:=hO.two
 refine bD au [] [] ba<|zD 2<|jn fun b1=>jd 15 [0]<|oH<|dW [1,1,0,1,0,0] [] (fun(zz:Nat×Value×Cells)=>[(2,zS),(3,zz.2.1),(9,.slice fg ws.length eo),(10,zI (ws.length:Int)),(11,zI (zz.1:Int))]) (fun(zz:Nat×Value×Cells)=>[.l zz.2.2,.b b1 (.cells ⟨[.slice fg ws.length eo]⟩ 27 (0,0))]) (fun(zz:Nat×Value×Cells)=>zz.1≤ws.length∧az zz.2.1 3 164 cJ (QB S zz.1) zz.2.2) (fun(zz:Nat×Value×Cells)=>ws.length-zz.1) (⟨0,zS,[]⟩) ⟨by dsimp only;omega,az.nil _ _ _⟩ [0,1] ?_
 rintro⟨k,vO,LO⟩ hI K1 bK rest
 dsimp only at hI
 refine zD 5<|zJ 12 ((k:Int) <(ws.length:Int)) (fun h1=>?_) fun h1=>?_
 ·
  refine zD 7 ?_
  obtain⟨eA,dE⟩:=zG ws k
  refine iA eo 1 su dE ?_
  obtain⟨Qo,aaz,EH⟩:=de.get dE
  obtain aR2:=hO.len _ (List.mem_of_getElem? aaz)
  obtain⟨asy,aPe,aPc,adH,rfl,aPd,asx,asw⟩:=EH
  refine jl 0 (sr _ _ dE)<|zD 10<|dW [1,1,0,1,0,0,1,1,0,0,1,1,0,0] [K1] (fun(zz:Nat×Value×Cells)=>[(2,zS),(3,zz.2.1),(4,zI (k:Int)),(9,.slice fg ws.length eo),(10,zI (ws.length:Int)),(11,zI (k:Int)),(16,.slice asy Qo.length adH),(17,zI (Qo.length:Int)),(18,zI (zz.1:Int))]) (fun(zz:Nat×Value×Cells)=>[.l zz.2.2,.b b1 (.cells ⟨[.slice fg ws.length eo]⟩ 27 (0,0))]) (fun(zz:Nat×Value×Cells)=>zz.1≤Qo.length∧az zz.2.1 3 164 cJ (QB S k++(Qo.take zz.1).map (mQ k)) zz.2.2) (fun(zz:Nat×Value×Cells)=>Qo.length-zz.1) (⟨0,vO,LO⟩) ⟨by dsimp only;omega,by simpa using hI.2⟩ [0,1] ?_
  rintro⟨i,vO,LO⟩ hJ K2 mr rest
  dsimp only at hJ
  refine zD 5<|zJ 19 ((i:Int) <(Qo.length:Int)) (fun h2=>?_) fun h2=>?_
  ·
   refine zD 6 ?_
   obtain⟨x20,Ng⟩:=zG Qo i
   refine iA adH 2 asx Ng<|jl 0 (asw _ _ Ng)<|jn fun b7=>jd 7 [0,0]<|jn fun b26=>jq (sz:=3) (ps:=(QB S k++(Qo.take i).map (mQ k))) (qs:=[(⟨(k:Int),x20.n,x20.l⟩:an)]) (enc:=cJ) (w:= .slice (some ⟨b26,0,none⟩) 1 1) [2] [0] [(b26,.cells ⟨([(⟨(k:Int),x20.n,x20.l⟩:an)].map cJ).flatten⟩ 164 (0,0))] (hJ.2) (fun s _ hZ=>bX [(⟨(k:Int),x20.n,x20.l⟩:an)] (hZ _ (.head _)) (by intro p hp;rfl)) (fun p _=>aj rfl) (by have:=Ni hO k;simp only[List.length_append,List.length_map,List.length_take,List.length_cons,List.length_nil];omega) (fun v27 L27 afY=>?_)
   obtain⟨aMw,aMb,aSN⟩:=afY.form
   subst aSN
   refine zD 3<|ja ((i:Int)+1) (by omega)<|zD 2<|bJ mr (⟨i+1,(.slice aMw (((QB S k++(Qo.take i).map (mQ k))++[(⟨(k:Int),x20.n,x20.l⟩:an)])).length aMb),L27⟩) ⟨by dsimp only;omega,by rw[eX Ng,List.map_append,←List.append_assoc];exact afY⟩ (by dsimp only;omega) [0,3] (Sub.refl _)
  refine zD 3<|ja ((k:Int)+1) (by omega)<|zD 2<|bJ bK (⟨k+1,vO,LO⟩) ⟨by dsimp only;omega,by rw[at6 aaz];have:=hJ.2;rwa[List.take_of_length_le (by omega)] at this⟩ (by dsimp only;omega) [0,1] (Sub.refl _)
 refine zD 8<|aF q0 (vO) [] [0] LO (Sub.refl _) ⟨_,_,rfl,rfl,by have:=hI.2;rwa[show k=S.length by omega] at this⟩
theorem SZ{l:List α}{x:α}(hn:l.Nodup)(h:l[k]?=some x):x∉l.take k:=fun hx=>by
 obtain⟨hk,he⟩:=List.getElem?_eq_some_iff.1 h
 obtain⟨i,hi⟩:=List.getElem?_of_mem hx
 have hik:i <k:=by have:=(List.getElem?_eq_some_iff.1 hi).1;rw[List.length_take] at this;omega
 rw[List.getElem?_take_of_lt hik] at hi
 obtain⟨hi1,QU⟩:=List.getElem?_eq_some_iff.1 hi
 have:=(List.getElem_inj (h₀:=hi1) (h₁:=hk) hn).1 (QU.trans he.symm)
 omega
def xN(n:Int):Bool:= !decide (Int.tmod n 2=0)
def EJ(n:Int):Bool:=decide (Int.tmod n 2=0)
theorem rD{p:α→Bool}{l:List α}{x:α}(h:l[i]?=some x):(l.take (i+1)).filter p=(l.take i).filter p++bif p x then [x] else []:=by
 rw[eX h,List.filter_append]
 cases hp:p x<;>simp[hp]
def rz(l:List ah):List (List ah):=[l.filter fun x=>xN x.n,l.filter fun x=>EJ x.n]
theorem agS{l h:List ah}{x:ah}(hh:h∈rz l)(hx:x∈h):x∈l:=by
 simp only[rz,List.mem_cons,List.not_mem_nil,or_false] at hh
 rcases hh with rfl|rfl<;>exact(List.mem_filter.1 hx).1
theorem agV{l h:List ah}(hh:h∈rz l):h.length≤l.length:=by
 simp only[rz,List.mem_cons,List.not_mem_nil,or_false] at hh
 rcases hh with rfl|rfl<;>exact List.length_filter_le _ _
def IU(s:Int)(h:List ah):List (an×an):=(h.zip h.reverse).map fun p=>(mQ s p.1,mQ s p.2)
def acy(s:Int)(l:List ah):List (an×an):=(rz l).flatMap (IU s)
def JR(s:Int)(l:List ah):List (an×an):=l.map fun x=>(mQ s x,⟨s,if xN x.n=true then x.n+1 else x.n-1,x.l⟩)
def rR(l:List ah):Int:=match l[l.length-1]? with
 |some y=>y.n+Int.tmod y.n 2
 |none=>0
def KP(s o:Int)(l:List ah)(r:Int):List (an×an):=l.map fun x=>(mQ s x,⟨o,x.n+r,x.l⟩)
def gU(u:List (an×an))(x:an):an:=u.foldl (fun y p=>if x=p.1 then p.2 else y) x
theorem anr(u:List (an×an))(a b:an):gU (u++[(a,b)])=fun x=>if x=a then b else gU u x:=by
 funext x;simp only[gU,List.foldl_append,List.foldl_cons,List.foldl_nil]
theorem akW{s:Int}{h:List ah}{x y:ah}(hx:h[i]?=some x) (hy:h[(((h.length:Int)-1)-(i:Int)).toNat]?=some y):(IU s h)[i]?=some (mQ s x,mQ s y):=by
 have hi:=(List.getElem?_eq_some_iff.1 hx).1
 have h2:h.reverse[i]?=some y:=by rw[List.getElem?_reverse hi,←hy];congr 1;omega
 have:=(List.getElem?_zip_eq_some (z:=(x,y))).2 ⟨hx,h2⟩
 simp only[IU,List.getElem?_map,this];rfl
theorem adf(s:Int)(h:List ah):(IU s h).length=h.length:=by simp[IU]
theorem aeA{β:Type}{f:α→β}{l:List α}{x:α}(h:l[i]?=some x):(l.map f)[i]?=some (f x):=by rw[List.getElem?_map,h];rfl
theorem anz{β:Type}{f:α→List β}{l:List α}{x:α}(h:l[i]?=some x):(l.take (i+1)).flatMap f=(l.take i).flatMap f++f x:=by rw[eX h,List.flatMap_append,List.flatMap_singleton]
theorem MV.upd{S:List (List ah)}(hO:fp S){F:List (an×Value)}{u:List (an×an)}{l:List ah}{x:ah}{y:an}{b:Nat}{T:TypeId}(h:MV Z F (gU u))(hk:F.map (·.1)=bH S)(hl:S[s]?=some l) (hx:x∈l):
 MV (Z++[(b,.cells ⟨cJ y⟩ T (0,0))]) (mC (mQ s x) (.slice (some ⟨b,0,none⟩) 1 1) F) (gU (u++[(mQ s x,y)]))∧(mC (mQ s x) (.slice (some ⟨b,0,none⟩) 1 1) F).map (·.1)=bH S:=by
 have hm:mQ s x∈F.map (·.1):=by rw[hk];exact G8 hl hx
 have hn:(F.map (·.1)).Nodup:=by rw[hk];exact Uj hO _
 rw[anr]
 exact⟨h.set hm hn fun aG hk=>bR [y] (hk _ (.head _)) (fun _ _=>rfl),(OU hm hn).1.trans hk⟩
theorem Pe{S:List (List ah)}(hO:fp S){F:List (an×Value)}{x:an}{b:Nat}{T:TypeId}(h:MV Z F id)(hk:F.map (·.1)=(bH S).take k)(hx:(bH S)[k]?=some x):
 MV (Z++[(b,.cells ⟨cJ x⟩ T (0,0))]) (mC x (.slice (some ⟨b,0,none⟩) 1 1) F) id∧(mC x (.slice (some ⟨b,0,none⟩) 1 1) F).map (·.1)=(bH S).take (k+1):=by
 have:x∉F.map (·.1):=by rw[hk];exact SZ (Uj hO _) hx
 rw[acx this]
 exact⟨h.add fun aG hk=>bR [x] (hk _ (.head _)) (fun _ _=>rfl),by rw[List.map_append,hk,eX hx];rfl⟩
theorem Lg{v:Value}{S:List (List ah)}{ro:Nat→Option Obj}(hS:cW ro v S)(hO:fp S):eG zT 198 [.agg ⟨[v]⟩] ro [] (fun r Y=>∃rm F LM Z,r= .map (some rm)∧Y=LM++Z∧j6 rm pd F LM∧F.map (·.1)=bH S∧MV Z F id):=by
 have yd:=hS
 obtain⟨ws,ht,de⟩:=hS
 obtain⟨fg,Av,As,eo,rfl,Au,su,sr⟩:=ht
 have hln:=de.len
 have Jh:=hO.two
 have hhl:=uo hO
 refine bD au [] [] ba<|zD 2<|jn fun b1=>zD 4<|jmk pd fun r6 L6 hm6=>jd 6 [1]<|jc (vs:=[.agg ⟨[.slice fg ws.length eo]⟩]) [] (Yf yd hO) ?_
 rintro v8 L8 ho8
 refine Co ho8<|zD 1<|jf [0] L8 (fun yH bY iU=>?_)
 have hzh:=ho8.kZ iU
 obtain⟨aOs,bcM,bcK,az9,rfl,bcL,aOr,aOq⟩:=hzh
 refine zD 2<|oH<|dW [1,1,0,1,0,0] [] (fun(zz:Nat×(List (an×Value))×Cells×Cells)=>[(2,(.map none)),(3,(.map (some r6))),(8,.slice aOs ((bH S).length) az9),(9,zI ((bH S).length:Int)),(10,zI (zz.1:Int))]) (fun(zz:Nat×(List (an×Value))×Cells×Cells)=>[.l zz.2.2.1,.l zz.2.2.2,.b b1 (.cells ⟨[.slice fg ws.length eo]⟩ 27 (0,0))]) (fun(zz:Nat×(List (an×Value))×Cells×Cells)=>zz.1≤(bH S).length∧j6 r6 pd zz.2.1 zz.2.2.1∧zz.2.1.map (·.1)=(bH S).take zz.1∧MV zz.2.2.2 zz.2.1 id) (fun(zz:Nat×(List (an×Value))×Cells×Cells)=>(bH S).length-zz.1) (⟨0,[],L6,[]⟩) ⟨by dsimp only;omega,hm6,rfl,fun _ _ _ h=>(by cases h)⟩ [1,0,2] ?_
 rintro⟨k,F,LM,Z⟩ hI K1 bK rest
 dsimp only at hI
 refine zD 5<|zJ 11 ((k:Int) <((bH S).length:Int)) (fun h4=>?_) fun h4=>?_
 ·
  refine zD 6 ?_
  obtain⟨tG,qv⟩:=zG ((bH S)) k
  refine iA az9 3 aOr qv<|jl 0 (aOq _ _ qv)<|jn fun b5=>jd 6 [0,0,0]<|jn fun b17=>jmu (kv:=pd) (F:=F) (r:=r6) (K:=164) 2 tG (.slice (some ⟨b17,0,none⟩) 1 1) DK hI.2.1 fun Lm5 hm5=>zD 2<|ja ((k:Int)+1) (by omega)<|zD 2<|KR bK (⟨k+1,_,Lm5,Z++[(b17,.cells ⟨[zI tG.h,zI tG.n,zI tG.l]⟩ 164 (0,0))]⟩) ⟨by dsimp only;omega,hm5,(Pe (T:=164) hO hI.2.2.2 hI.2.2.1 qv).2,(Pe (T:=164) hO hI.2.2.2 hI.2.2.1 qv).1⟩ (by dsimp only;omega) [[0],[3,1],[4]] (Sub.refl _)
 refine zD 8<|aF q0.a ((.map (some r6))) [] [0,1] (LM++Z) bY ⟨_,_,rfl,rfl,_,F,LM,Z,rfl,rfl,hI.2.1,by rw[hI.2.2.1,List.take_of_length_le (by omega)],hI.2.2.2⟩
theorem gAt{h n l:Int}{ro:Nat→Option Obj}:dt zT 263 [zI h,zI n,zI l] ro (.agg ⟨[zI h,zI n,zI l]⟩):=by
 refine bD au [] [] ba<|zD 2<|jn fun b6=>jd 11 [0]<|aF q0 (.agg ⟨[zI h,zI n,zI l]⟩) [0] [] [] (Sub.refl _) ⟨_,_,rfl,rfl,rfl,rfl⟩
theorem aG1{x:ah}{ro:Nat→Option Obj}:dt zT 261 [.agg ⟨[zI x.n,zI x.l]⟩] ro (.bool (xN x.n)):=by
 refine bD au [] [] ba<|zD 2<|jn fun b1=>jd 11 [0]<|aF q0 (.bool (!decide ((Int.tmod x.n 2)=0))) [] [] [] (Sub.refl _) ⟨_,_,rfl,rfl,rfl,rfl⟩
theorem ahT{v:Value}{l:List ah}{ro:Nat→Option Obj}(hl:bE ro v 2 cI l)(hn:l.length≤4):eG zT 260 [v,.func (.func 261) ⟨[]⟩ ⟨[]⟩] ro [] (fun r Y=>az r 2 73 cI (l.filter fun x=>xN x.n) Y):=by
 obtain⟨fI,rV,rS,eZ,rfl,tR,lQ,mO⟩:=hl
 refine bD au [] [] ba<|zD 16<|oH<|dW [1,1,0,1,0,0] [] (fun(zz:Nat×Value×Cells)=>[(1,.func (.func 261) ⟨[]⟩ ⟨[]⟩),(4,zS),(5,zz.2.1),(8,.slice fI l.length eZ),(9,zI (l.length:Int)),(10,zI (zz.1:Int))]) (fun(zz:Nat×Value×Cells)=>[.l zz.2.2]) (fun(zz:Nat×Value×Cells)=>zz.1≤l.length∧az zz.2.1 2 73 cI ((l.take zz.1).filter fun x=>xN x.n) zz.2.2) (fun(zz:Nat×Value×Cells)=>l.length-zz.1) (⟨0,zS,[]⟩) ⟨by dsimp only;omega,az.nil _ _ _⟩ [0] ?_
 rintro⟨k,vO,LO⟩ hI K1 bK rest
 dsimp only at hI
 refine zD 5<|zJ 11 ((k:Int) <(l.length:Int)) (fun h1=>?_) fun h1=>?_
 ·
  refine zD 6 ?_
  obtain⟨tG,qv⟩:=zG l k
  refine iA eZ 2 lQ qv<|jl 0 (mO _ _ qv)<|jn fun b7=>jd 6 [0,0]<|jp (vs:=[.agg ⟨[zI tG.n,zI tG.l]⟩]) [] [] (fun aC hs hZ=>(aG1 (x:=tG)))<|zD 1<|js 16 (xN tG.n) (fun h2=>?_) (fun h2=>?_)
  ·
   refine jd 4 [0]<|jn fun Ie=>jq (sz:=2) (ps:=((l.take k).filter fun x=>xN x.n)) (qs:=[(⟨tG.n,tG.l⟩:ah)]) (enc:=cI) (w:= .slice (some ⟨Ie,0,none⟩) 1 1) [2] [0] [(Ie,.cells ⟨([(⟨tG.n,tG.l⟩:ah)].map cI).flatten⟩ 73 (0,0))] (hI.2) (fun s _ hZ=>bX [(⟨tG.n,tG.l⟩:ah)] (hZ _ (.head _)) (by intro p hp;rfl)) (fun p _=>aj rfl) (by have:=List.length_filter_le (fun x:ah=>xN x.n) (l.take k);rw[List.length_take] at this;simp only[List.length_cons,List.length_nil];omega) (fun v20 L20 G6=>?_)
   obtain⟨arj,aq8,avo⟩:=G6.form
   subst avo
   refine zD 3<|ja ((k:Int)+1) (by omega)<|zD 2<|bJ bK (⟨k+1,(.slice arj ((((l.take k).filter fun x=>xN x.n)++[(⟨tG.n,tG.l⟩:ah)])).length aq8),L20⟩) ⟨by dsimp only;omega,by rw[rD qv,show xN tG.n=true from (by assumption)];exact G6⟩ (by dsimp only;omega) [0] (Sub.refl _)
  refine zD 3<|ja ((k:Int)+1) (by omega)<|zD 2<|bJ bK (⟨k+1,vO,LO⟩) ⟨by dsimp only;omega,by rw[rD qv,show xN tG.n=false from (by assumption)];simpa using hI.2⟩ (by dsimp only;omega) [1] (Sub.refl _)
 refine zD 8<|aF q0 (vO) [] [0] LO (Sub.refl _) ⟨_,_,rfl,rfl,by have:=hI.2;rwa[List.take_of_length_le (by omega)] at this⟩
theorem aG8{x:ah}{ro:Nat→Option Obj}:dt zT 262 [.agg ⟨[zI x.n,zI x.l]⟩] ro (.bool (EJ x.n)):=by
 refine bD au [] [] ba<|zD 2<|jn fun b1=>jd 11 [0]<|aF q0 (.bool (decide ((Int.tmod x.n 2)=0))) [] [] [] (Sub.refl _) ⟨_,_,rfl,rfl,rfl,rfl⟩
theorem ahS{v:Value}{l:List ah}{ro:Nat→Option Obj}(hl:bE ro v 2 cI l)(hn:l.length≤4):eG zT 260 [v,.func (.func 262) ⟨[]⟩ ⟨[]⟩] ro [] (fun r Y=>az r 2 73 cI (l.filter fun x=>EJ x.n) Y):=by
 obtain⟨fI,rV,rS,eZ,rfl,tR,lQ,mO⟩:=hl
 refine bD au [] [] ba<|zD 16<|oH<|dW [1,1,0,1,0,0] [] (fun(zz:Nat×Value×Cells)=>[(1,.func (.func 262) ⟨[]⟩ ⟨[]⟩),(4,zS),(5,zz.2.1),(8,.slice fI l.length eZ),(9,zI (l.length:Int)),(10,zI (zz.1:Int))]) (fun(zz:Nat×Value×Cells)=>[.l zz.2.2]) (fun(zz:Nat×Value×Cells)=>zz.1≤l.length∧az zz.2.1 2 73 cI ((l.take zz.1).filter fun x=>EJ x.n) zz.2.2) (fun(zz:Nat×Value×Cells)=>l.length-zz.1) (⟨0,zS,[]⟩) ⟨by dsimp only;omega,az.nil _ _ _⟩ [0] ?_
 rintro⟨k,vO,LO⟩ hI K1 bK rest
 dsimp only at hI
 refine zD 5<|zJ 11 ((k:Int) <(l.length:Int)) (fun h1=>?_) fun h1=>?_
 ·
  refine zD 6 ?_
  obtain⟨tG,qv⟩:=zG l k
  refine iA eZ 2 lQ qv<|jl 0 (mO _ _ qv)<|jn fun b7=>jd 6 [0,0]<|jp (vs:=[.agg ⟨[zI tG.n,zI tG.l]⟩]) [] [] (fun aC hs hZ=>(aG8 (x:=tG)))<|zD 1<|js 16 (EJ tG.n) (fun h2=>?_) (fun h2=>?_)
  ·
   refine jd 4 [0]<|jn fun Ie=>jq (sz:=2) (ps:=((l.take k).filter fun x=>EJ x.n)) (qs:=[(⟨tG.n,tG.l⟩:ah)]) (enc:=cI) (w:= .slice (some ⟨Ie,0,none⟩) 1 1) [2] [0] [(Ie,.cells ⟨([(⟨tG.n,tG.l⟩:ah)].map cI).flatten⟩ 73 (0,0))] (hI.2) (fun s _ hZ=>bX [(⟨tG.n,tG.l⟩:ah)] (hZ _ (.head _)) (by intro p hp;rfl)) (fun p _=>aj rfl) (by have:=List.length_filter_le (fun x:ah=>EJ x.n) (l.take k);rw[List.length_take] at this;simp only[List.length_cons,List.length_nil];omega) (fun v20 L20 G6=>?_)
   obtain⟨arj,aq8,avo⟩:=G6.form
   subst avo
   refine zD 3<|ja ((k:Int)+1) (by omega)<|zD 2<|bJ bK (⟨k+1,(.slice arj ((((l.take k).filter fun x=>EJ x.n)++[(⟨tG.n,tG.l⟩:ah)])).length aq8),L20⟩) ⟨by dsimp only;omega,by rw[rD qv,show EJ tG.n=true from (by assumption)];exact G6⟩ (by dsimp only;omega) [0] (Sub.refl _)
  refine zD 3<|ja ((k:Int)+1) (by omega)<|zD 2<|bJ bK (⟨k+1,vO,LO⟩) ⟨by dsimp only;omega,by rw[rD qv,show EJ tG.n=false from (by assumption)];simpa using hI.2⟩ (by dsimp only;omega) [1] (Sub.refl _)
 refine zD 8<|aF q0 (vO) [] [0] LO (Sub.refl _) ⟨_,_,rfl,rfl,by have:=hI.2;rwa[List.take_of_length_le (by omega)] at this⟩
theorem Yd{v:Value}{S:List (List ah)}{l:List ah}{c2 c3 c4:Int}{F:List (an×Value)}{ro:Nat→Option Obj}(hS:cW ro v S)(hO:fp S)(hl:S[s]?=some l) (hm:j6 rm pd F LM) (hk:F.map (·.1)=bH S) (hM:MV Z F id):eG zT 240 [.agg ⟨[v]⟩,.agg ⟨[zI ck,zI (s:Int),zI c2,zI c3,zI c4,zI c5,zI c6]⟩,(.map (some rm))] ro (LM++Z) (fun r Y=>∃F' L' Z',r= zI 0∧Y=L'++Z'∧j6 rm pd F' L'∧F'.map (·.1)=bH S∧MV Z' F' (gU (acy (s:Int) l))):=by
 obtain⟨ws,ht,de⟩:=hS
 obtain⟨fg,Av,As,eo,rfl,Au,su,sr⟩:=ht
 have hln:=de.len
 have Jh:=hO.two
 have KV:=(List.getElem?_eq_some_iff.1 hl).1
 have hlm:=List.mem_of_getElem? hl
 have hll:=hO.len _ hlm
 refine bD au [.l LM,.l Z] [] ba<|zD 2<|jn fun b3=>jn fun b4=>zD 4<|Iu [1,0,1] [] (fun(zz:Nat×Value×Value×Cells×Cells)=>[(2,(.map (some rm))),(4,zP b4),(6,zI 0),(25,.slice (some ⟨zz.1,0,none⟩) 2 2),(26,zI 2),(27,zI 0)]) (fun(zz:Nat×Value×Value×Cells×Cells)=>[.b zz.1 (.cells ⟨[zz.2.1,zz.2.2.1]⟩ 74 (0,0)),.l zz.2.2.2.1,.l zz.2.2.2.2,.l LM,.l Z,.b b4 (.cells ⟨[zI ck,zI (s:Int),zI c2,zI c3,zI c4,zI c5,zI c6]⟩ 77 (0,0)),.b b3 (.cells ⟨[.slice fg ws.length eo]⟩ 27 (0,0))]) (fun(zz:Nat×Value×Value×Cells×Cells)=>az zz.2.1 2 73 cI (l.filter fun x=>xN x.n) zz.2.2.2.1∧az zz.2.2.1 2 73 cI (l.filter fun x=>EJ x.n) zz.2.2.2.2) ?_ (fun K1 bK=>?_)
 ·
  rintro⟨ee,v1,v2,L1,L2⟩ hC rest
  dsimp only at hC
  refine jf [0,1,2] ((ee,.cells ⟨[v1,v2]⟩ 74 (0,0))::(L1++L2)) (fun yH bY iU=>?_)
  have hhv:=bR (enc:=gh) (T:=74) [v1,v2] (iU _ (.head _)) (fun _ _=>rfl)
  have aDv:dg (fun w l=>bE yH w 2 cI l) [v1,v2] (rz l):= .cons (hC.1.kZ (Knows.left (Knows.tail iU))) (.cons (hC.2.kZ (Knows.right (Knows.tail iU))) .nil)
  have hvl: [v1,v2].length=2:=rfl
  obtain⟨qga,qgb,qgo,qgc,QX,qgk,qgh,qgl⟩:=hhv
  simp only[Value.slice.injEq] at QX
  obtain⟨rfl,_,rfl⟩:=QX
  refine zD 1<|dW [1,0,1,0,0] [] (fun(zz:Nat×(List (an×Value))×Cells×Cells)=>[(2,(.map (some rm))),(4,zP b4),(6,zI 0),(25,.slice (some ⟨ee,0,none⟩) 2 2),(26,zI 2),(27,zI (zz.1:Int))]) (fun(zz:Nat×(List (an×Value))×Cells×Cells)=>[.l zz.2.2.1,.l zz.2.2.2,.b b4 (.cells ⟨[zI ck,zI (s:Int),zI c2,zI c3,zI c4,zI c5,zI c6]⟩ 77 (0,0)),.b b3 (.cells ⟨[.slice fg ws.length eo]⟩ 27 (0,0))]) (fun(zz:Nat×(List (an×Value))×Cells×Cells)=>zz.1≤2∧j6 rm pd zz.2.1 zz.2.2.1∧zz.2.1.map (·.1)=bH S∧MV zz.2.2.2 zz.2.1 (gU (((rz l).take zz.1).flatMap (IU (s:Int))))) (fun(zz:Nat×(List (an×Value))×Cells×Cells)=>2-zz.1) (⟨0,F,LM,Z⟩) ⟨by dsimp only;omega,hm,hk,hM⟩ [0,1,2,3] ?_
  rintro⟨k,F,LM,Z⟩ hI K2 mr rest
  dsimp only at hI
  refine zD 5<|zJ 28 ((k:Int) <2) (fun h4=>?_) fun h4=>?_
  ·
   refine zD 6 ?_
   obtain⟨Eb,AO⟩:=zG ([v1,v2]) k
   refine iA 2 1 qgh AO ?_
   obtain⟨T1,auN,h30⟩:=aDv.get AO
   obtain aDa:T1.length≤4:=by have:=agV (List.mem_of_getElem? auN);omega
   obtain⟨aAF,bdb,bc9,alc,rfl,bda,aAE,aAD⟩:=h30
   refine jl 0 (qgl _ _ AO)<|zD 9<|dW [1,0,1,0,0,1,1,0,0,1,1,0,0] [K2] (fun(zz:Nat×(List (an×Value))×Cells×Cells)=>[(2,(.map (some rm))),(4,zP b4),(6,zI 0),(8,.slice aAF T1.length alc),(25,.slice (some ⟨ee,0,none⟩) 2 2),(26,zI 2),(27,zI (k:Int)),(31,.slice aAF T1.length alc),(32,zI (T1.length:Int)),(33,zI (zz.1:Int))]) (fun(zz:Nat×(List (an×Value))×Cells×Cells)=>[.l zz.2.2.1,.l zz.2.2.2,.b b4 (.cells ⟨[zI ck,zI (s:Int),zI c2,zI c3,zI c4,zI c5,zI c6]⟩ 77 (0,0)),.b b3 (.cells ⟨[.slice fg ws.length eo]⟩ 27 (0,0))]) (fun(zz:Nat×(List (an×Value))×Cells×Cells)=>zz.1≤T1.length∧j6 rm pd zz.2.1 zz.2.2.1∧zz.2.1.map (·.1)=bH S∧MV zz.2.2.2 zz.2.1 (gU (((rz l).take k).flatMap (IU (s:Int))++(IU (s:Int) T1).take zz.1))) (fun(zz:Nat×(List (an×Value))×Cells×Cells)=>T1.length-zz.1) (⟨0,F,LM,Z⟩) ⟨by dsimp only;omega,hI.2.1,hI.2.2.1,by simpa using hI.2.2.2⟩ [0,1,2,3] ?_
   rintro⟨i,F,LM,Z⟩ hJ K3 X7 rest
   dsimp only at hJ
   refine zD 5<|zJ 34 ((i:Int) <(T1.length:Int)) (fun h5=>?_) fun h5=>?_
   ·
    refine zD 7 ?_
    obtain⟨x36,yZ⟩:=zG T1 i
    refine iA alc 2 aAE yZ<|jl 0 (aAD _ _ yZ)<|jn fun mb=>jd 14 [0,3,0,3]<|ja ((T1.length:Int)-1) (by omega)<|zD 1<|ja (((T1.length:Int)-1)-(i:Int)) (by omega) ?_
    obtain⟨x51,Ey⟩:=zG T1 (((((T1.length:Int)-1)-(i:Int))).toNat)
    refine Oq (((T1.length:Int)-1)-(i:Int)) alc 2 aAE Ey (by omega)<|jl 0 (aAD _ _ Ey)<|zD 1<|aL 16 fun sA sI qZ=>jn fun R5=>bB qZ [1,2,3,4,5]<|aL 17 fun BG BM CC=>jmu (kv:=pd) (F:=F) (r:=rm) (K:=164) 2 (mQ (s:Int) x36) (.slice (some ⟨R5,0,none⟩) 1 1) DK hJ.2.1 fun Lm8 hm8=>dZ CC<|zD 2<|ja ((i:Int)+1) (by omega)<|zD 2 ?_
    have hup:=MV.upd (T:=164) (b:=R5) (y:=mQ s x51) hO hJ.2.2.2 hJ.2.2.1 hl (agS (List.mem_of_getElem? auN) (List.mem_of_getElem? yZ))
    exact KR X7 (⟨i+1,_,Lm8,Z++[(R5,.cells ⟨[zI (s:Int),zI x51.n,zI x51.l]⟩ 164 (0,0))]⟩) ⟨by dsimp only;omega,hm8,hup.2,by rw[eX (akW yZ Ey),←List.append_assoc];exact hup.1⟩ (by dsimp only;omega) [[0],[3,1],[4],[5]] (Sub.refl _)
   refine zD 3<|ja ((k:Int)+1) (by omega)<|zD 2<|bJ mr (⟨k+1,F,LM,Z⟩) ⟨by dsimp only;omega,hJ.2.1,hJ.2.2.1,by have:=hJ.2.2.2;rw[List.take_of_length_le (l:=IU (s:Int) T1) (by rw[adf];omega)] at this;rw[anz auN];exact this⟩ (by dsimp only;omega) [0,1,2,3] (Sub.refl _)
  refine zD 7<|aF q0.a (zI 0) [] [0,1] (LM++Z) bY ⟨_,_,rfl,rfl,F,LM,Z,rfl,rfl,hI.2.1,hI.2.2.1,by have:=hI.2.2.2;rwa[show k=2 by omega] at this⟩
 refine jd 5 [1,0] ?_
 obtain⟨Ae,afu⟩:=zG ws s
 refine iA eo 1 su afu ?_
 obtain⟨l16,aDn,Ju⟩:=de.get afu
 obtain bfk:=hO.len _ (List.mem_of_getElem? aDn)
 obtain agH:l16=l:=Option.some.inj (aDn.symm.trans hl)
 obtain⟨aAW,aPb,aO7,aAV,rfl,aO9,aPa,aO8⟩:=Ju
 refine jl 0 (sr _ _ afu)<|jd 4 [1,0] ?_
 obtain⟨sq,uh⟩:=zG ws s
 refine iA eo 1 su uh ?_
 obtain⟨l23,aDm,Fj⟩:=de.get uh
 obtain bfh:=hO.len _ (List.mem_of_getElem? aDm)
 obtain avn:l23=l:=Option.some.inj (aDm.symm.trans hl)
 obtain⟨aAM,aOU,aOQ,aAL,rfl,aOS,aOT,aOR⟩:=Fj
 refine jl 0 (sr _ _ uh)<|zD 1<|aL 6 fun abW acF hL6=>jc (vs:=[.slice aAW l16.length aAV,.func (.func 261) ⟨[]⟩ ⟨[]⟩]) [] (ahT (show bE _ _ _ _ _ from ⟨aAW,aPb,aO7,aAV,rfl,aO9,aPa,aO8⟩) (by omega)) ?_
 rintro v17 L17 Cs
 obtain⟨xL,xK,amU⟩:=Cs.form
 subst amU
 refine bB hL6 [1,2,3,4]<|aL 13 fun abV acE Q9=>jc (vs:=[.slice aAM l23.length aAL,.func (.func 262) ⟨[]⟩ ⟨[]⟩]) [] (ahS (show bE _ _ _ _ _ from ⟨aAM,aOU,aOQ,aAL,rfl,aOS,aOT,aOR⟩) (by omega)) ?_
 rintro v24 L24 aCS
 obtain⟨acu,acm,aSw⟩:=aCS.form
 subst aSw
 refine bB Q9 [1,2,3,4,5]<|aL 14 fun YV Zd hL8=>jn fun ee=>bB hL8 [1,2,3,4,5,6]<|zD 2<|bJ bK ⟨ee,(.slice xL (l16.filter fun x=>xN x.n).length xK),(.slice acu (l23.filter fun x=>EJ x.n).length acm),L17,L24⟩ ⟨by rw[←agH];exact Cs,by rw[←avn];exact aCS⟩ Nat.zero_lt_one [0,2,1,5,6,3,4] (Sub.refl _)
theorem Wj{s:Int}{l:List ah}{x:ah}(h:l[i]?=some x):(JR s l)[i]?=some (mQ s x,⟨s,if xN x.n=true then x.n+1 else x.n-1,x.l⟩):=aeA h
theorem amn{s o r:Int}{l:List ah}{x:ah}(h:l[i]?=some x):(KP s o l r)[i]?=some (mQ s x,⟨o,x.n+r,x.l⟩):=aeA h
theorem raise_at{l:List ah}{x:ah}(h:l[(((l.length:Int)-1)).toNat]?=some x):rR l=x.n+Int.tmod x.n 2:=by
 have:l[l.length-1]?=some x:=by rw[←h];congr 1;omega
 simp only[rR,this]
theorem ZD{l:List ah}(h:¬(l.length:Int)>0):rR l=0:=by
 have:l=[]:=List.eq_nil_of_length_eq_zero (by omega)
 subst this;rfl
theorem tm2{n:Int}(h:1≤n∧n≤9):0≤Int.tmod n 2∧Int.tmod n 2≤1:=by
 rw[Int.tmod_eq_emod_of_nonneg (by omega)]
 omega
theorem adw{l:List ah}(h:∀x∈l,Bq x):0≤rR l∧rR l≤10:=by
 unfold rR
 split
 ·rename_i y hy
  have h1:=(h y (List.mem_of_getElem? hy)).1
  have:=tm2 h1
  omega
 omega
theorem Rj{v:Value}{S:List (List ah)}{l:List ah}{c2 c3 c4:Int}{F:List (an×Value)}{ro:Nat→Option Obj}(hS:cW ro v S)(hO:fp S)(hl:S[s]?=some l) (hm:j6 rm pd F LM) (hk:F.map (·.1)=bH S) (hM:MV Z F id):eG zT 241 [.agg ⟨[v]⟩,.agg ⟨[zI ck,zI (s:Int),zI c2,zI c3,zI c4,zI c5,zI c6]⟩,(.map (some rm))] ro (LM++Z) (fun r Y=>∃F' L' Z',r= zI 0∧Y=L'++Z'∧j6 rm pd F' L'∧F'.map (·.1)=bH S∧MV Z' F' (gU (JR (s:Int) l))):=by
 obtain⟨ws,ht,de⟩:=hS
 obtain⟨fg,Av,As,eo,rfl,Au,su,sr⟩:=ht
 have hln:=de.len
 have Jh:=hO.two
 have KV:=(List.getElem?_eq_some_iff.1 hl).1
 have hlm:=List.mem_of_getElem? hl
 have hll:=hO.len _ hlm
 refine bD au [.l LM,.l Z] [] ba<|zD 2<|jn fun b3=>jn fun b4=>jd 9 [1,0] ?_
 obtain⟨eA,dE⟩:=zG ws s
 refine iA eo 1 su dE ?_
 obtain⟨Qo,aaz,EH⟩:=de.get dE
 obtain aR2:=hO.len _ (List.mem_of_getElem? aaz)
 obtain No:Qo=l:=Option.some.inj (aaz.symm.trans hl)
 obtain aQW:=hO.ok _ (List.mem_of_getElem? aaz)
 obtain⟨asy,aPe,aPc,adH,rfl,aPd,asx,asw⟩:=EH
 refine jl 0 (sr _ _ dE)<|zD 4<|dW [1,0,1,0,0] [] (fun(zz:Nat×(List (an×Value))×Cells×Cells)=>[(2,(.map (some rm))),(4,zP b4),(6,zI 0),(15,.slice asy Qo.length adH),(16,zI (Qo.length:Int)),(17,zI (zz.1:Int))]) (fun(zz:Nat×(List (an×Value))×Cells×Cells)=>[.l zz.2.2.1,.l zz.2.2.2,.b b4 (.cells ⟨[zI ck,zI (s:Int),zI c2,zI c3,zI c4,zI c5,zI c6]⟩ 77 (0,0)),.b b3 (.cells ⟨[.slice fg ws.length eo]⟩ 27 (0,0))]) (fun(zz:Nat×(List (an×Value))×Cells×Cells)=>zz.1≤Qo.length∧j6 rm pd zz.2.1 zz.2.2.1∧zz.2.1.map (·.1)=bH S∧MV zz.2.2.2 zz.2.1 (gU ((JR (s:Int) l).take zz.1))) (fun(zz:Nat×(List (an×Value))×Cells×Cells)=>Qo.length-zz.1) (⟨0,F,LM,Z⟩) ⟨by dsimp only;omega,hm,hk,hM⟩ [2,3,0,1] ?_
 rintro⟨i,F,LM,Z⟩ hI K1 bK rest
 dsimp only at hI
 refine zD 5<|zJ 18 ((i:Int) <(Qo.length:Int)) (fun h1=>?_) fun h1=>?_
 ·
  refine zD 6 ?_
  obtain⟨E0,xR⟩:=zG Qo i
  refine iA adH 2 asx xR<|jl 0 (asw _ _ xR)<|jn fun b8=>jd 3 [0] ?_
  have Jj:=aQW _ (List.mem_of_getElem? xR)
  have aRm:=Jj.1.1
  have aRl:=Jj.1.2
  refine jd 3 [0]<|ja (E0.n-1) (by omega)<|jd 6 [0]<|jp (vs:=[.agg ⟨[zI E0.n,zI E0.l]⟩]) [] [] (fun aC hs hZ=>(aG1 (x:=E0)))<|zD 1<|js 25 (xN E0.n) (fun h2=>?_) (fun h2=>?_)
  ·
   refine jd 4 [0]<|ja (E0.n+1) (by omega)<|jd 13 [3,0,3,0]<|jp (vs:=[zI (s:Int),zI (E0.n+1),zI E0.l]) [] [] (fun aC hs hZ=>gAt)<|aL 11 fun Ac Aj zd=>jn fun dz=>bB zd [1,2,3,4,5]<|aL 12 fun sB sJ q5=>jmu (kv:=pd) (F:=F) (r:=rm) (K:=164) 2 (mQ (s:Int) E0) (.slice (some ⟨dz,0,none⟩) 1 1) DK hI.2.1 fun Lm5 hm5=>dZ q5<|zD 2<|ja ((i:Int)+1) (by omega)<|zD 2 ?_
   have hup:=MV.upd (T:=164) (b:=dz) (y:=⟨s,E0.n+1,E0.l⟩) hO hI.2.2.2 hI.2.2.1 hl (by rw[←No];exact List.mem_of_getElem? xR)
   exact KR bK (⟨i+1,_,Lm5,Z++[(dz,.cells ⟨[zI (s:Int),zI (E0.n+1),zI E0.l]⟩ 164 (0,0))]⟩) ⟨by dsimp only;omega,hm5,hup.2,by rw[eX (Wj (by rw[←No];exact xR))];rw[if_pos (by assumption)];exact hup.1⟩ (by dsimp only;omega) [[0],[3,1],[4],[5]] (Sub.refl _)
  refine jd 13 [3,0,3,0]<|jp (vs:=[zI (s:Int),zI (E0.n-1),zI E0.l]) [] [] (fun aC hs hZ=>gAt)<|aL 11 fun sA sI qZ=>jn fun dz=>bB qZ [1,2,3,4,5]<|aL 12 fun BG BM CC=>jmu (kv:=pd) (F:=F) (r:=rm) (K:=164) 2 (mQ (s:Int) E0) (.slice (some ⟨dz,0,none⟩) 1 1) DK hI.2.1 fun Lm8 hm8=>dZ CC<|zD 2<|ja ((i:Int)+1) (by omega)<|zD 2 ?_
  have hup:=MV.upd (T:=164) (b:=dz) (y:=⟨s,E0.n-1,E0.l⟩) hO hI.2.2.2 hI.2.2.1 hl (by rw[←No];exact List.mem_of_getElem? xR)
  exact KR bK (⟨i+1,_,Lm8,Z++[(dz,.cells ⟨[zI (s:Int),zI (E0.n-1),zI E0.l]⟩ 164 (0,0))]⟩) ⟨by dsimp only;omega,hm8,hup.2,by rw[eX (Wj (by rw[←No];exact xR))];rw[if_neg (by rw[show xN E0.n=false from (by assumption)];decide)];exact hup.1⟩ (by dsimp only;omega) [[0],[3,1],[4],[5]] (Sub.refl _)
 refine zD 7<|aF q0 (zI 0) [] [0,1] (LM++Z) (Sub.refl _) ⟨_,_,rfl,rfl,F,LM,Z,rfl,rfl,hI.2.1,hI.2.2.1,by have:=hI.2.2.2;rwa[List.take_of_length_le (by simp only[JR,List.length_map];rw[←No];omega)] at this⟩
theorem ant{v:Value}{S:List (List ah)}{o:Nat}{l lo:List ah}{c3 c4:Int}{F:List (an×Value)}{ro:Nat→Option Obj}(hS:cW ro v S)(hO:fp S)(hl:S[s]?=some l) (hm:j6 rm pd F LM) (hk:F.map (·.1)=bH S) (hM:MV Z F id) (AT:S[o]?=some lo):eG zT 243 [.agg ⟨[v]⟩,.agg ⟨[zI ck,zI (s:Int),zI (o:Int),zI c3,zI c4,zI c5,zI c6]⟩,(.map (some rm))] ro (LM++Z) (fun r Y=>∃F' L' Z',r= zI 0∧Y=L'++Z'∧j6 rm pd F' L'∧F'.map (·.1)=bH S∧MV Z' F' (gU (KP (s:Int) (o:Int) l (rR lo)))):=by
 obtain⟨ws,ht,de⟩:=hS
 obtain⟨fg,Av,As,eo,rfl,Au,su,sr⟩:=ht
 have hln:=de.len
 have Jh:=hO.two
 have KV:=(List.getElem?_eq_some_iff.1 hl).1
 have hlm:=List.mem_of_getElem? hl
 have hll:=hO.len _ hlm
 have hso:=(List.getElem?_eq_some_iff.1 AT).1
 have aDe:=List.mem_of_getElem? AT
 have hr:=adw (hO.ok _ aDe)
 have bfo:=hO.len _ aDe
 refine bD au [.l LM,.l Z] [] ba<|zD 2<|jn fun b3=>jn fun b4=>jd 8 [1,0] ?_
 obtain⟨V0,GS⟩:=zG ws s
 refine iA eo 1 su GS ?_
 obtain⟨l18,auQ,h18⟩:=de.get GS
 obtain bfj:=hO.len _ (List.mem_of_getElem? auQ)
 obtain Nn:l18=l:=Option.some.inj (auQ.symm.trans hl)
 obtain j5:=hO.ok _ (List.mem_of_getElem? auQ)
 obtain⟨aAS,bdn,bdl,asv,rfl,bdm,aO1,aO0⟩:=h18
 refine jl 0 (sr _ _ GS)<|jd 4 [1,0] ?_
 obtain⟨vk,td⟩:=zG ws o
 refine iA eo 1 su td ?_
 obtain⟨T3,Ux,h24⟩:=de.get td
 obtain aDc:=hO.len _ (List.mem_of_getElem? Ux)
 obtain UE:T3=lo:=Option.some.inj (Ux.symm.trans AT)
 obtain aCi:=hO.ok _ (List.mem_of_getElem? Ux)
 obtain⟨asu,aAK,aAI,adG,rfl,aAJ,ale,ald⟩:=h24
 refine jl 0 (sr _ _ td)<|zD 10<|ja ((l18.length:Int)+(T3.length:Int)) (by omega)<|zD 2<|zJ 30 (((l18.length:Int)+(T3.length:Int))>8) (fun h1=>?_) fun h1=>?_
 ·
  exfalso;omega
 refine zD 18<|Iu [1,1,1,1,1] [] (fun(zz:Int)=>[(2,(.map (some rm))),(4,zP b4),(6,zI 0),(7,.slice aAS l18.length asv),(9,zI zz)]) (fun(zz:Int)=>[.l LM,.l Z,.b b4 (.cells ⟨[zI ck,zI (s:Int),zI (o:Int),zI c3,zI c4,zI c5,zI c6]⟩ 77 (0,0)),.b b3 (.cells ⟨[.slice fg ws.length eo]⟩ 27 (0,0))]) (fun(zz:Int)=>zz=rR lo) ?_ (fun K1 bK=>?_)
 ·
  rintro q hQ rest
  refine zD 8<|dW [1,1,1,1,1,0,1,0,0] [] (fun(zz:Nat×(List (an×Value))×Cells×Cells)=>[(2,(.map (some rm))),(4,zP b4),(9,zI q),(49,.slice aAS l18.length asv),(50,zI (l18.length:Int)),(51,zI (zz.1:Int))]) (fun(zz:Nat×(List (an×Value))×Cells×Cells)=>[.l zz.2.2.1,.l zz.2.2.2,.b b4 (.cells ⟨[zI ck,zI (s:Int),zI (o:Int),zI c3,zI c4,zI c5,zI c6]⟩ 77 (0,0)),.b b3 (.cells ⟨[.slice fg ws.length eo]⟩ 27 (0,0))]) (fun(zz:Nat×(List (an×Value))×Cells×Cells)=>zz.1≤l18.length∧j6 rm pd zz.2.1 zz.2.2.1∧zz.2.1.map (·.1)=bH S∧MV zz.2.2.2 zz.2.1 (gU ((KP (s:Int) (o:Int) l (rR lo)).take zz.1))) (fun(zz:Nat×(List (an×Value))×Cells×Cells)=>l18.length-zz.1) (⟨0,F,LM,Z⟩) ⟨by dsimp only;omega,hm,hk,hM⟩ [0,1,2,3] ?_
  rintro⟨i,F,LM,Z⟩ hI K2 mr rest
  dsimp only at hI
  refine zD 5<|zJ 52 ((i:Int) <(l18.length:Int)) (fun h2=>?_) fun h2=>?_
  ·
   refine zD 6 ?_
   obtain⟨x53,afp⟩:=zG l18 i
   refine iA asv 2 aO1 afp<|jl 0 (aO0 _ _ afp)<|jn fun jQ=>jd 4 [0] ?_
   have Jj:=j5 _ (List.mem_of_getElem? afp)
   have aRm:=Jj.1.1
   have aRl:=Jj.1.2
   refine jd 4 [0]<|ja (x53.n+q) (by omega)<|zD 2<|zJ 59 ((x53.n+q)>40) (fun h3=>?_) fun h3=>?_
   ·
    exfalso;omega
   refine jd 13 [3,0,3,0]<|ja (x53.n+q) (by omega)<|jd 2 [0]<|jp (vs:=[zI (o:Int),zI (x53.n+q),zI x53.l]) [] [] (fun aC hs hZ=>gAt)<|aL 14 fun sB sJ q5=>jn fun b74=>bB q5 [1,2,3,4,5]<|aL 15 fun sA sI qZ=>jmu (kv:=pd) (F:=F) (r:=rm) (K:=164) 2 (mQ (s:Int) x53) (.slice (some ⟨b74,0,none⟩) 1 1) DK hI.2.1 fun Lm6 hm6=>dZ qZ<|zD 2<|ja ((i:Int)+1) (by omega)<|zD 2 ?_
   have hup:=MV.upd (T:=164) (b:=b74) (y:=⟨o,x53.n+q,x53.l⟩) hO hI.2.2.2 hI.2.2.1 hl (by rw[←Nn];exact List.mem_of_getElem? afp)
   exact KR mr (⟨i+1,_,Lm6,Z++[(b74,.cells ⟨[zI (o:Int),zI (x53.n+q),zI x53.l]⟩ 164 (0,0))]⟩) ⟨by dsimp only;omega,hm6,hup.2,by rw[eX (amn (by rw[←Nn];exact afp))];have e:=hup.1;rw[hQ] at e ⊢;exact e⟩ (by dsimp only;omega) [[0],[3,1],[4],[5]] (Sub.refl _)
  refine zD 7<|aF q0 (zI 0) [] [0,1] (LM++Z) (Sub.refl _) ⟨_,_,rfl,rfl,F,LM,Z,rfl,rfl,hI.2.1,hI.2.2.1,by have:=hI.2.2.2;rwa[List.take_of_length_le (by simp only[KP,List.length_map];rw[←Nn];omega)] at this⟩
 refine zJ 34 ((T3.length:Int)>0) (fun h7=>?_) fun h7=>?_
 ·
  refine zD 4<|ja ((T3.length:Int)-1) (by omega) ?_
  obtain⟨x38,Nd⟩:=zG T3 ((((T3.length:Int)-1)).toNat)
  refine Oq ((T3.length:Int)-1) adG 2 ale Nd (by omega)<|zD 1<|jl 0 (ald _ _ Nd)<|zD 2<|ja ((T3.length:Int)-1) (by omega) ?_
  obtain⟨YW,Jf⟩:=zG T3 ((((T3.length:Int)-1)).toNat)
  refine Oq ((T3.length:Int)-1) adG 2 ale Jf (by omega)<|zD 1<|jl 0 (ald _ _ Jf)<|zD 1<|ja (x38.n+(Int.tmod YW.n 2)) (by have h1:=(aCi _ (List.mem_of_getElem? Nd)).1;have h2:=(aCi _ (List.mem_of_getElem? Jf)).1;have:=tm2 h2;omega) ?_
  refine zD 2 ?_
  have hra:=raise_at Nd
  rw[UE] at hra
  exact bJ bK (x38.n+(Int.tmod YW.n 2)) (by rw[←UE];have e:x38=YW:=Option.some.inj (Nd.symm.trans Jf);subst e;exact(raise_at Nd).symm) Nat.zero_lt_one [2,3,0,1] (Sub.refl _)
 refine zD 2<|bJ bK 0 (by rw[←UE];exact(ZD (by omega)).symm) Nat.zero_lt_one [2,3,0,1] (Sub.refl _)
def awA(S:List (List ah))(c:aN):List (an×an):=
 if c.k=1 then acy c.st (S[c.st.toNat]?.getD []) else if c.k=2 then JR c.st (S[c.st.toNat]?.getD []) else KP c.st c.ot (S[c.st.toNat]?.getD []) (rR (S[c.ot.toNat]?.getD []))
def yS(S:List (List ah))(c:aN)(x:an):an:=gU (awA S c) x
theorem qh{l:List α}(h:l.length=2):∃a b,l=[a,b]:=by
 match l,h with
 | [a,b],_=>exact⟨a,b,rfl⟩
theorem Rl{ro:Nat→Option Obj}:dt zT 220 [] ro (.agg ⟨[.nilFunc,.func (.func 240) ⟨[]⟩ ⟨[]⟩,.func (.func 241) ⟨[]⟩ ⟨[]⟩,.func (.func 242) ⟨[]⟩ ⟨[]⟩,.func (.func 243) ⟨[]⟩ ⟨[]⟩,.func (.func 244) ⟨[]⟩ ⟨[]⟩,.func (.func 245) ⟨[]⟩ ⟨[]⟩,.func (.func 246) ⟨[]⟩ ⟨[]⟩]⟩):=by
 refine bD au [] [] ba<|zD 2<|jn fun b0=>jd 7 [0]<|aF q0 (.agg ⟨[.nilFunc,.func (.func 240) ⟨[]⟩ ⟨[]⟩,.func (.func 241) ⟨[]⟩ ⟨[]⟩,.func (.func 242) ⟨[]⟩ ⟨[]⟩,.func (.func 243) ⟨[]⟩ ⟨[]⟩,.func (.func 244) ⟨[]⟩ ⟨[]⟩,.func (.func 245) ⟨[]⟩ ⟨[]⟩,.func (.func 246) ⟨[]⟩ ⟨[]⟩]⟩) [0] [] [] (Sub.refl _) ⟨_,_,rfl,rfl,rfl,rfl⟩
theorem aHd{v:Value}{S:List (List ah)}{ro:Nat→Option Obj}(hS:cW ro v S)(hO:fp S):eG zT 194 [.agg ⟨[v]⟩,.agg ⟨[zI 1,zI 0,zI 0,zI 0,zI 0,zI 0,zI 0]⟩] ro [] (fun r Y=>∃rm F LM Z,r= .tuple ⟨[.map (some rm),zI 0]⟩∧Y=LM++Z∧j6 rm pd F LM∧F.map (·.1)=bH S∧MV Z F (yS S ⟨1,0,0,0,0,0,0⟩)):=by
 obtain⟨p,q,rfl⟩:=qh hO.two
 have yd:=hS
 obtain⟨ws,ht,de⟩:=hS
 obtain⟨w1,w2,rfl⟩:=qh (de.len.trans hO.two)
 obtain⟨fg,Av,As,eo,rfl,Au,su,sr⟩:=ht
 refine bD au [] [] ba<|zD 2<|jn fun b2=>jn fun b3=>jd 8 [0]<|jp (vs:=[zI 1,zI 1,zI 7]) [] [] (fun aC hs hZ=>AX)<|jd 18 [1,0]<|jp (vs:=[zI 0,zI 0,zI 1]) [] [] (fun aC hs hZ=>AX)<|jd 70 [0,0,0,0,0,0]<|jne Gu (wJ 0 0 0 0)<|zD 3<|js 73 (!(0==0&&(0==0&&true))) (fun h1=>?_) (fun h1=>?_)
 ·
  have gv:=h1
  try simp only[zB] at gv
  exact absurd gv (by decide)
 have gv:=h1
 try simp only[zB] at gv
 refine jd 6 [0]<|jne Gu (wJ 0 0 0 0)<|zD 3<|js 82 (!(0==0&&(0==0&&true))) (fun h2=>?_) (fun h2=>?_)
 ·
  exact absurd h2 (by decide)
 refine jd 5 [1]<|jc (vs:=[.agg ⟨[.slice fg 2 eo]⟩]) [] (Lg (yd) hO) ?_
 rintro _ _ ⟨rm,F,LM,Z,rfl,rfl,hmM,hkM,hMM⟩
 refine jg 0 [.l LM,.l Z]<|jd 10 [2,3,2]<|jp [] [] (fun aC hs hZ=>Rl)<|zD 1<|aL 7 fun Ea Eg BB=>jc (vs:=[.agg ⟨[.slice fg 2 eo]⟩,.agg ⟨[zI 1,zI 0,zI 0,zI 0,zI 0,zI 0,zI 0]⟩,(.map (some rm))]) [0,1] (Yd (s:=0) yd hO rfl hmM hkM hMM) ?_
 rintro _ _ ⟨F2,Of,Z2,rfl,rfl,Fc,iU,hM2⟩
 refine jg 0 [.l Of,.l Z2]<|iu BB [[2]]<|zD 16<|aF q0 (.tuple ⟨[(.map (some rm)),zI 0]⟩) [] [0,1] (Of++Z2) (Sub.refl _) ⟨_,_,rfl,rfl,rm,F2,Of,Z2,rfl,rfl,Fc,iU,hM2⟩
theorem aHc{v:Value}{S:List (List ah)}{ro:Nat→Option Obj}(hS:cW ro v S)(hO:fp S):eG zT 194 [.agg ⟨[v]⟩,.agg ⟨[zI 2,zI 0,zI 0,zI 0,zI 0,zI 0,zI 0]⟩] ro [] (fun r Y=>∃rm F LM Z,r= .tuple ⟨[.map (some rm),zI 0]⟩∧Y=LM++Z∧j6 rm pd F LM∧F.map (·.1)=bH S∧MV Z F (yS S ⟨2,0,0,0,0,0,0⟩)):=by
 obtain⟨p,q,rfl⟩:=qh hO.two
 have yd:=hS
 obtain⟨ws,ht,de⟩:=hS
 obtain⟨w1,w2,rfl⟩:=qh (de.len.trans hO.two)
 obtain⟨fg,Av,As,eo,rfl,Au,su,sr⟩:=ht
 refine bD au [] [] ba<|zD 2<|jn fun b2=>jn fun b3=>jd 8 [0]<|jp (vs:=[zI 2,zI 1,zI 7]) [] [] (fun aC hs hZ=>AX)<|jd 18 [1,0]<|jp (vs:=[zI 0,zI 0,zI 1]) [] [] (fun aC hs hZ=>AX)<|jd 70 [0,0,0,0,0,0]<|jne Gu (wJ 0 0 0 0)<|zD 3<|js 73 (!(0==0&&(0==0&&true))) (fun h1=>?_) (fun h1=>?_)
 ·
  have gv:=h1
  try simp only[zB] at gv
  exact absurd gv (by decide)
 have gv:=h1
 try simp only[zB] at gv
 refine jd 6 [0]<|jne Gu (wJ 0 0 0 0)<|zD 3<|js 82 (!(0==0&&(0==0&&true))) (fun h2=>?_) (fun h2=>?_)
 ·
  exact absurd h2 (by decide)
 refine jd 5 [1]<|jc (vs:=[.agg ⟨[.slice fg 2 eo]⟩]) [] (Lg (yd) hO) ?_
 rintro _ _ ⟨rm,F,LM,Z,rfl,rfl,hmM,hkM,hMM⟩
 refine jg 0 [.l LM,.l Z]<|jd 10 [2,3,2]<|jp [] [] (fun aC hs hZ=>Rl)<|zD 1<|aL 7 fun Ea Eg BB=>jc (vs:=[.agg ⟨[.slice fg 2 eo]⟩,.agg ⟨[zI 2,zI 0,zI 0,zI 0,zI 0,zI 0,zI 0]⟩,(.map (some rm))]) [0,1] (Rj (s:=0) yd hO rfl hmM hkM hMM) ?_
 rintro _ _ ⟨F2,Of,Z2,rfl,rfl,Fc,iU,hM2⟩
 refine jg 0 [.l Of,.l Z2]<|iu BB [[2]]<|zD 16<|aF q0 (.tuple ⟨[(.map (some rm)),zI 0]⟩) [] [0,1] (Of++Z2) (Sub.refl _) ⟨_,_,rfl,rfl,rm,F2,Of,Z2,rfl,rfl,Fc,iU,hM2⟩
theorem aHb{v:Value}{S:List (List ah)}{ro:Nat→Option Obj}(hS:cW ro v S)(hO:fp S):eG zT 194 [.agg ⟨[v]⟩,.agg ⟨[zI 1,zI 1,zI 0,zI 0,zI 0,zI 0,zI 0]⟩] ro [] (fun r Y=>∃rm F LM Z,r= .tuple ⟨[.map (some rm),zI 0]⟩∧Y=LM++Z∧j6 rm pd F LM∧F.map (·.1)=bH S∧MV Z F (yS S ⟨1,1,0,0,0,0,0⟩)):=by
 obtain⟨p,q,rfl⟩:=qh hO.two
 have yd:=hS
 obtain⟨ws,ht,de⟩:=hS
 obtain⟨w1,w2,rfl⟩:=qh (de.len.trans hO.two)
 obtain⟨fg,Av,As,eo,rfl,Au,su,sr⟩:=ht
 refine bD au [] [] ba<|zD 2<|jn fun b2=>jn fun b3=>jd 8 [0]<|jp (vs:=[zI 1,zI 1,zI 7]) [] [] (fun aC hs hZ=>AX)<|jd 18 [1,0]<|jp (vs:=[zI 1,zI 0,zI 1]) [] [] (fun aC hs hZ=>AX)<|jd 70 [0,0,0,0,0,0]<|jne Gu (wJ 0 0 0 0)<|zD 3<|js 73 (!(0==0&&(0==0&&true))) (fun h1=>?_) (fun h1=>?_)
 ·
  have gv:=h1
  try simp only[zB] at gv
  exact absurd gv (by decide)
 have gv:=h1
 try simp only[zB] at gv
 refine jd 6 [0]<|jne Gu (wJ 0 0 0 0)<|zD 3<|js 82 (!(0==0&&(0==0&&true))) (fun h2=>?_) (fun h2=>?_)
 ·
  exact absurd h2 (by decide)
 refine jd 5 [1]<|jc (vs:=[.agg ⟨[.slice fg 2 eo]⟩]) [] (Lg (yd) hO) ?_
 rintro _ _ ⟨rm,F,LM,Z,rfl,rfl,hmM,hkM,hMM⟩
 refine jg 0 [.l LM,.l Z]<|jd 10 [2,3,2]<|jp [] [] (fun aC hs hZ=>Rl)<|zD 1<|aL 7 fun Ea Eg BB=>jc (vs:=[.agg ⟨[.slice fg 2 eo]⟩,.agg ⟨[zI 1,zI 1,zI 0,zI 0,zI 0,zI 0,zI 0]⟩,(.map (some rm))]) [0,1] (Yd (s:=1) yd hO rfl hmM hkM hMM) ?_
 rintro _ _ ⟨F2,Of,Z2,rfl,rfl,Fc,iU,hM2⟩
 refine jg 0 [.l Of,.l Z2]<|iu BB [[2]]<|zD 16<|aF q0 (.tuple ⟨[(.map (some rm)),zI 0]⟩) [] [0,1] (Of++Z2) (Sub.refl _) ⟨_,_,rfl,rfl,rm,F2,Of,Z2,rfl,rfl,Fc,iU,hM2⟩
theorem aHa{v:Value}{S:List (List ah)}{ro:Nat→Option Obj}(hS:cW ro v S)(hO:fp S):eG zT 194 [.agg ⟨[v]⟩,.agg ⟨[zI 2,zI 1,zI 0,zI 0,zI 0,zI 0,zI 0]⟩] ro [] (fun r Y=>∃rm F LM Z,r= .tuple ⟨[.map (some rm),zI 0]⟩∧Y=LM++Z∧j6 rm pd F LM∧F.map (·.1)=bH S∧MV Z F (yS S ⟨2,1,0,0,0,0,0⟩)):=by
 obtain⟨p,q,rfl⟩:=qh hO.two
 have yd:=hS
 obtain⟨ws,ht,de⟩:=hS
 obtain⟨w1,w2,rfl⟩:=qh (de.len.trans hO.two)
 obtain⟨fg,Av,As,eo,rfl,Au,su,sr⟩:=ht
 refine bD au [] [] ba<|zD 2<|jn fun b2=>jn fun b3=>jd 8 [0]<|jp (vs:=[zI 2,zI 1,zI 7]) [] [] (fun aC hs hZ=>AX)<|jd 18 [1,0]<|jp (vs:=[zI 1,zI 0,zI 1]) [] [] (fun aC hs hZ=>AX)<|jd 70 [0,0,0,0,0,0]<|jne Gu (wJ 0 0 0 0)<|zD 3<|js 73 (!(0==0&&(0==0&&true))) (fun h1=>?_) (fun h1=>?_)
 ·
  have gv:=h1
  try simp only[zB] at gv
  exact absurd gv (by decide)
 have gv:=h1
 try simp only[zB] at gv
 refine jd 6 [0]<|jne Gu (wJ 0 0 0 0)<|zD 3<|js 82 (!(0==0&&(0==0&&true))) (fun h2=>?_) (fun h2=>?_)
 ·
  exact absurd h2 (by decide)
 refine jd 5 [1]<|jc (vs:=[.agg ⟨[.slice fg 2 eo]⟩]) [] (Lg (yd) hO) ?_
 rintro _ _ ⟨rm,F,LM,Z,rfl,rfl,hmM,hkM,hMM⟩
 refine jg 0 [.l LM,.l Z]<|jd 10 [2,3,2]<|jp [] [] (fun aC hs hZ=>Rl)<|zD 1<|aL 7 fun Ea Eg BB=>jc (vs:=[.agg ⟨[.slice fg 2 eo]⟩,.agg ⟨[zI 2,zI 1,zI 0,zI 0,zI 0,zI 0,zI 0]⟩,(.map (some rm))]) [0,1] (Rj (s:=1) yd hO rfl hmM hkM hMM) ?_
 rintro _ _ ⟨F2,Of,Z2,rfl,rfl,Fc,iU,hM2⟩
 refine jg 0 [.l Of,.l Z2]<|iu BB [[2]]<|zD 16<|aF q0 (.tuple ⟨[(.map (some rm)),zI 0]⟩) [] [0,1] (Of++Z2) (Sub.refl _) ⟨_,_,rfl,rfl,rm,F2,Of,Z2,rfl,rfl,Fc,iU,hM2⟩
theorem aG9{v:Value}{S:List (List ah)}{ro:Nat→Option Obj}(hS:cW ro v S)(hO:fp S):eG zT 194 [.agg ⟨[v]⟩,.agg ⟨[zI 4,zI 1,zI 0,zI 0,zI 0,zI 0,zI 0]⟩] ro [] (fun r Y=>∃rm F LM Z,r= .tuple ⟨[.map (some rm),zI 0]⟩∧Y=LM++Z∧j6 rm pd F LM∧F.map (·.1)=bH S∧MV Z F (yS S ⟨4,1,0,0,0,0,0⟩)):=by
 obtain⟨p,q,rfl⟩:=qh hO.two
 have yd:=hS
 obtain⟨ws,ht,de⟩:=hS
 obtain⟨w1,w2,rfl⟩:=qh (de.len.trans hO.two)
 obtain⟨fg,Av,As,eo,rfl,Au,su,sr⟩:=ht
 refine bD au [] [] ba<|zD 2<|jn fun b2=>jn fun b3=>jd 8 [0]<|jp (vs:=[zI 4,zI 1,zI 7]) [] [] (fun aC hs hZ=>AX)<|jd 18 [1,0]<|jp (vs:=[zI 1,zI 0,zI 1]) [] [] (fun aC hs hZ=>AX)<|jd 33 [0,0,0,0]<|jp (vs:=[zI 0,zI 0,zI 1]) [] [] (fun aC hs hZ=>AX)<|jd 36 [0,0,0]<|jne Gu (wJ 0 0 0 0)<|zD 3<|js 73 (!(0==0&&(0==0&&true))) (fun h1=>?_) (fun h1=>?_)
 ·
  have gv:=h1
  try simp only[zB] at gv
  exact absurd gv (by decide)
 have gv:=h1
 try simp only[zB] at gv
 refine jd 6 [0]<|jne Gu (wJ 0 0 0 0)<|zD 3<|js 82 (!(0==0&&(0==0&&true))) (fun h2=>?_) (fun h2=>?_)
 ·
  exact absurd h2 (by decide)
 refine jd 5 [1]<|jc (vs:=[.agg ⟨[.slice fg 2 eo]⟩]) [] (Lg (yd) hO) ?_
 rintro _ _ ⟨rm,F,LM,Z,rfl,rfl,hmM,hkM,hMM⟩
 refine jg 0 [.l LM,.l Z]<|jd 10 [2,3,2]<|jp [] [] (fun aC hs hZ=>Rl)<|zD 1<|aL 7 fun Ea Eg BB=>jc (vs:=[.agg ⟨[.slice fg 2 eo]⟩,.agg ⟨[zI 4,zI 1,zI 0,zI 0,zI 0,zI 0,zI 0]⟩,(.map (some rm))]) [0,1] (ant (s:=1) (o:=0) yd hO rfl hmM hkM hMM rfl) ?_
 rintro _ _ ⟨F2,Of,Z2,rfl,rfl,Fc,iU,hM2⟩
 refine jg 0 [.l Of,.l Z2]<|iu BB [[2]]<|zD 16<|aF q0 (.tuple ⟨[(.map (some rm)),zI 0]⟩) [] [0,1] (Of++Z2) (Sub.refl _) ⟨_,_,rfl,rfl,rm,F2,Of,Z2,rfl,rfl,Fc,iU,hM2⟩
def aaa(n:Nat):Int:=if n=0 then 0 else if n <2 then 1 else if n <4 then 2 else if n <8 then 3 else 4
theorem awq{ro:Nat→Option Obj}:∀ {n:Nat},n≤12→dt zT 180 [zU (n:Int)] ro (zI (aaa n))
 |0,_=>by refine bD au [] [] ba (zD 35 (ja 0 (by decide) (zD 3 ?_)));exact aF q0 (zI 0) [] [] [] (Sub.refl _) ⟨_,_,rfl,rfl,rfl,rfl⟩
 |1,_=>by refine bD au [] [] ba (zD 35 (ja 1 (by decide) (zD 3 ?_)));exact aF q0 (zI 1) [] [] [] (Sub.refl _) ⟨_,_,rfl,rfl,rfl,rfl⟩
 |2,_=>by refine bD au [] [] ba (zD 35 (ja 2 (by decide) (zD 3 ?_)));exact aF q0 (zI 2) [] [] [] (Sub.refl _) ⟨_,_,rfl,rfl,rfl,rfl⟩
 |3,_=>by refine bD au [] [] ba (zD 35 (ja 2 (by decide) (zD 3 ?_)));exact aF q0 (zI 2) [] [] [] (Sub.refl _) ⟨_,_,rfl,rfl,rfl,rfl⟩
 |4,_=>by refine bD au [] [] ba (zD 35 (ja 3 (by decide) (zD 3 ?_)));exact aF q0 (zI 3) [] [] [] (Sub.refl _) ⟨_,_,rfl,rfl,rfl,rfl⟩
 |5,_=>by refine bD au [] [] ba (zD 35 (ja 3 (by decide) (zD 3 ?_)));exact aF q0 (zI 3) [] [] [] (Sub.refl _) ⟨_,_,rfl,rfl,rfl,rfl⟩
 |6,_=>by refine bD au [] [] ba (zD 35 (ja 3 (by decide) (zD 3 ?_)));exact aF q0 (zI 3) [] [] [] (Sub.refl _) ⟨_,_,rfl,rfl,rfl,rfl⟩
 |7,_=>by refine bD au [] [] ba (zD 35 (ja 3 (by decide) (zD 3 ?_)));exact aF q0 (zI 3) [] [] [] (Sub.refl _) ⟨_,_,rfl,rfl,rfl,rfl⟩
 |8,_=>by refine bD au [] [] ba (zD 35 (ja 4 (by decide) (zD 3 ?_)));exact aF q0 (zI 4) [] [] [] (Sub.refl _) ⟨_,_,rfl,rfl,rfl,rfl⟩
 |9,_=>by refine bD au [] [] ba (zD 35 (ja 4 (by decide) (zD 3 ?_)));exact aF q0 (zI 4) [] [] [] (Sub.refl _) ⟨_,_,rfl,rfl,rfl,rfl⟩
 |10,_=>by refine bD au [] [] ba (zD 35 (ja 4 (by decide) (zD 3 ?_)));exact aF q0 (zI 4) [] [] [] (Sub.refl _) ⟨_,_,rfl,rfl,rfl,rfl⟩
 |11,_=>by refine bD au [] [] ba (zD 35 (ja 4 (by decide) (zD 3 ?_)));exact aF q0 (zI 4) [] [] [] (Sub.refl _) ⟨_,_,rfl,rfl,rfl,rfl⟩
 |12,_=>by refine bD au [] [] ba (zD 35 (ja 4 (by decide) (zD 3 ?_)));exact aF q0 (zI 4) [] [] [] (Sub.refl _) ⟨_,_,rfl,rfl,rfl,rfl⟩
 |n+13,h=>absurd h (by omega)
theorem ab5(h:n≤1000):Value.int .u64 (IntKind.u64.wrap (n:Int))= zU (n:Int):=by
 rw[sD .u64 rfl _ (by omega) (by simp[IntKind.bits];omega)]
def N9(v:Value)(xs:List ah)(Y:Cells):Prop:=∃ys,ys.Perm xs∧az v 2 73 cI ys Y
theorem awr{ro:Nat→Option Obj}(h:n≤12):dt zT 152 [zU (n:Int)] ro (zI (aaa n)):=by
 refine bD au [] [] ba<|zD 10<|jp (vs:=[zU (n:Int)]) [] [] (fun aC hs hZ=>(awq h))<|zD 3<|aF q0 (zI (aaa n)) [] [] [] (Sub.refl _) ⟨_,_,rfl,rfl,rfl,rfl⟩
theorem aVg{v:Value}{xs:List ah}{L:Cells}{a b:Int}{ro:Nat→Option Obj}(ho:az v 2 73 cI xs L)(hN:xs.length≤1000)(BA:0≤a∧a≤b∧b≤xs.length):eG zT 264 [v,zI a,zI b,.func (.func 201) ⟨[]⟩ ⟨[]⟩] ro L (fun r Y=>N9 v xs Y):=by
 refine bD au [.l L] [] ba<|zD 3<|ja (a+1) (by omega)<|zD 3<|dW [1,0,0] [] (fun(zz:Int×(List ah)×Cells)=>[(0,v),(1,zI a),(2,zI b),(3,.func (.func 201) ⟨[]⟩ ⟨[]⟩),(8,zI zz.1)]) (fun(zz:Int×(List ah)×Cells)=>[.l zz.2.2]) (fun(zz:Int×(List ah)×Cells)=>(a+1≤zz.1)∧az v 2 73 cI zz.2.1 zz.2.2∧zz.2.1.Perm xs) (fun(zz:Int×(List ah)×Cells)=>(b-zz.1).toNat) (⟨(a+1),xs,L⟩) ⟨by dsimp only;omega,ho,.refl _⟩ [0] ?_
 rintro⟨i,ys,L⟩ hI K1 bK rest
 dsimp only at hI
 have Xw:=hI.2.2.length_eq
 refine zD 7<|zJ 14 (i <b) (fun h1=>?_) fun h1=>?_
 ·
  refine zD 10<|dW [1,0,0,1,0,0,1,0,0] [K1] (fun(zz:Int×(List ah)×Cells)=>[(0,v),(1,zI a),(2,zI b),(3,.func (.func 201) ⟨[]⟩ ⟨[]⟩),(8,zI i),(9,zI zz.1)]) (fun(zz:Int×(List ah)×Cells)=>[.l zz.2.2]) (fun(zz:Int×(List ah)×Cells)=>(a≤zz.1∧zz.1≤i)∧az v 2 73 cI zz.2.1 zz.2.2∧zz.2.1.Perm xs) (fun(zz:Int×(List ah)×Cells)=>(zz.1-a).toNat) (⟨i,ys,L⟩) ⟨by dsimp only;omega,hI.2⟩ [0] ?_
  rintro⟨j,ys,L⟩ hJ K2 mr rest
  dsimp only at hJ
  have Xw:=hJ.2.2.length_eq
  refine zD 7<|js 3 (decide (j>a)) (fun h2=>?_) (fun h2=>?_)
  ·
   have mI:=h2
   replace mI:=of_decide_eq_true mI
   refine zD 3 ?_
   obtain⟨yq,lH⟩:=zG ys (j.toNat) (by first|omega| (simp only[List.length_set];omega))
   refine pP j 2 hJ.2.1 lH (Int.toNat_of_nonneg (show 0≤j∧j <((ys).length:Int) from (by first|omega| (simp only[List.length_set];omega))).1).symm (fun ee agR=>?_)
   refine nS 0 [0] L (fun s _ hZ=>cm hJ.2.1 agR hZ lH)<|zD 2<|ja (j-1) (by omega) ?_
   obtain⟨ox,ju⟩:=zG ys ((j-1).toNat) (by first|omega| (simp only[List.length_set];omega))
   refine pP (j-1) 2 hJ.2.1 ju (Int.toNat_of_nonneg (show 0≤(j-1)∧(j-1) <((ys).length:Int) from (by first|omega| (simp only[List.length_set];omega))).1).symm (fun b30 UI=>?_)
   refine nS 0 [0] L (fun s _ hZ=>cm hJ.2.1 UI hZ ju)<|aL 14 fun sB sJ q5=>jp (vs:=[.agg ⟨[zI yq.n,zI yq.l]⟩,.agg ⟨[zI ox.n,zI ox.l]⟩]) [] [] (fun aC hs hZ=>(aqi (x:=yq) (y:=ox)))<|bB q5 [0]<|zD 3<|zJ 34 ((aa5 yq ox) <0) (fun h4=>?_) fun h4=>?_
   ·
    refine zD 9<|ja (j-1) (by omega)<|zD 2<|ja (j-1) (by omega) ?_
    obtain⟨pJ,xP⟩:=zG ys ((j-1).toNat) (by first|omega| (simp only[List.length_set];omega))
    refine pP (j-1) 2 hJ.2.1 xP (Int.toNat_of_nonneg (show 0≤(j-1)∧(j-1) <((ys).length:Int) from (by first|omega| (simp only[List.length_set];omega))).1).symm (fun b45 agQ=>?_)
    refine nS 0 [0] L (fun s _ hZ=>cm hJ.2.1 agQ hZ xP)<|zD 2 ?_
    obtain⟨IM,Ez⟩:=zG ys (j.toNat) (by first|omega| (simp only[List.length_set];omega))
    refine pP j 2 hJ.2.1 Ez (Int.toNat_of_nonneg (show 0≤j∧j <((ys).length:Int) from (by first|omega| (simp only[List.length_set];omega))).1).symm (fun b49 agP=>?_)
    refine nS 0 [0] L (fun s _ hZ=>cm hJ.2.1 agP hZ Ez) ?_
    obtain⟨x51,Ey⟩:=zG ys (j.toNat) (by first|omega| (simp only[List.length_set];omega))
    refine pP j 2 hJ.2.1 Ey (Int.toNat_of_nonneg (show 0≤j∧j <((ys).length:Int) from (by first|omega| (simp only[List.length_set];omega))).1).symm (fun b51 agO=>?_)
    refine aL 15 fun sA sI qZ=>Oo 0 0 [zI pJ.n,zI pJ.l] (⟨pJ.n,pJ.l⟩:ah) hJ.2.1 agO Ey rfl rfl (Nat.le_of_ble_eq_true rfl) fun L6 Ur=>iu qZ [] ?_
    obtain⟨x52,wm⟩:=zG ((ys.set j.toNat (⟨pJ.n,pJ.l⟩:ah))) ((j-1).toNat) (by first|omega| (simp only[List.length_set];omega))
    refine pP (j-1) 2 Ur wm (Int.toNat_of_nonneg (show 0≤(j-1)∧(j-1) <(((ys.set j.toNat (⟨pJ.n,pJ.l⟩:ah))).length:Int) from (by first|omega| (simp only[List.length_set];omega))).1).symm (fun b52 agN=>?_)
    refine aL 17 fun BG BM CC=>Oo 0 0 [zI IM.n,zI IM.l] (⟨IM.n,IM.l⟩:ah) Ur agN wm rfl rfl (Nat.le_of_ble_eq_true rfl) fun L9 agc=>dZ CC<|zD 3<|ja (j-1) (by omega)<|zD 2<|bJ mr (⟨(j-1),((ys.set j.toNat (⟨pJ.n,pJ.l⟩:ah)).set ((j-1).toNat) (⟨IM.n,IM.l⟩:ah)),L9⟩) ⟨by dsimp only;omega,agc,(nN Ez xP).trans hJ.2.2⟩ (by dsimp only;omega) [0] (Sub.refl _)
   refine zD 4<|ja (i+1) (by omega)<|zD 2<|bJ bK (⟨(i+1),ys,L⟩) ⟨by dsimp only;omega,hJ.2⟩ (by dsimp only;omega) [0] (Sub.refl _)
  have mI:=h2
  replace mI:=of_decide_eq_false mI
  refine zD 18<|ja (i+1) (by omega)<|zD 2<|bJ bK (⟨(i+1),ys,L⟩) ⟨by dsimp only;omega,hJ.2⟩ (by dsimp only;omega) [0] (Sub.refl _)
 refine zD 2<|aF q0 (.tuple ⟨[]⟩) [] [0] L (Sub.refl _) ⟨_,_,rfl,rfl,ys,hI.2.2,hI.2.1⟩
theorem aVe{v:Value}{xs:List ah}{L:Cells}{lim:Int}{ro:Nat→Option Obj}(ho:az v 2 73 cI xs L)(hN:xs.length≤12):eG zT 247 [v,zI 0,zI (xs.length:Int),zI lim,.func (.func 201) ⟨[]⟩ ⟨[]⟩] ro L (fun r Y=>N9 v xs Y):=by
 refine bD au [.l L] [] ba<|zD 9<|dW [1,1,0,0] [] (fun(zz:Nat)=>[(0,v),(1,zI 0),(2,zI (xs.length:Int)),(3,zI lim),(4,.func (.func 201) ⟨[]⟩ ⟨[]⟩),(10,.bool true),(11,.bool true)]) (fun(zz:Nat)=>[.l L]) (fun(zz:Nat)=>True) (fun(zz:Nat)=>zz) 0 trivial [0] ?_
 rintro z hI K1 bK rest
 refine zD 5<|ja ((xs.length:Int)-0) (by omega)<|zD 8<|zJ 25 (((xs.length:Int)-0)≤12) (fun h1=>?_) fun h1=>?_
 ·
  refine zD 7<|jc (vs:=[v,zI 0,zI (xs.length:Int),.func (.func 201) ⟨[]⟩ ⟨[]⟩]) [0] (aVg ho (by omega) (by omega)) ?_
  rintro az1 Y30 ⟨aLy,auo,wx⟩
  refine zD 2<|aF q0 (.tuple ⟨[]⟩) [] [0] Y30 (Sub.refl _) ⟨_,_,rfl,rfl,_,auo,wx⟩
 exfalso;omega
theorem ahQ{v:Value}{xs:List ah}{L:Cells}{ro:Nat→Option Obj}(ho:az v 2 73 cI xs L)(hN:xs.length≤12):eG zT 221 [v,.func (.func 201) ⟨[]⟩ ⟨[]⟩] ro L (fun r Y=>N9 v xs Y):=by
 refine bD au [.l L] [] ba<|zD 3<|Co ho<|zD 6<|je (zU (xs.length:Int)) (ab5 (by omega))<|jp (vs:=[zU (xs.length:Int)]) [] [] (fun aC hs hZ=>(awr (by omega)))<|zD 1<|jc (vs:=[v,zI 0,zI (xs.length:Int),zI (aaa xs.length),.func (.func 201) ⟨[]⟩ ⟨[]⟩]) [0] (aVe ho (by omega)) ?_
 rintro az2 Y13 ⟨aLA,aat,Ut⟩
 refine zD 1<|aF q0 (.tuple ⟨[]⟩) [] [0] Y13 (Sub.refl _) ⟨_,_,rfl,rfl,_,aat,Ut⟩
theorem aG5{v:Value}{xs:List an}{L:Cells}{ro:Nat→Option Obj}(ho:az v 3 164 cJ xs L)(hN:xs.length≤1):eG zT 222 [v,zI 0,zI (xs.length:Int),.func (.func 161) ⟨[]⟩ ⟨[]⟩] ro L (fun r Y=>az v 3 164 cJ xs Y):=by
 refine bD au [.l L] [] ba<|zD 7<|dW [1,0,0] [] (fun(zz:Nat)=>[(0,v),(1,zI 0),(2,zI (xs.length:Int)),(3,.func (.func 161) ⟨[]⟩ ⟨[]⟩),(8,zI (0+1))]) (fun(zz:Nat)=>[.l L]) (fun(zz:Nat)=>True) (fun(zz:Nat)=>zz) 0 trivial [0] ?_
 rintro z hI K1 bK rest
 refine zD 7<|zJ 14 ((0+1) <(xs.length:Int)) (fun h1=>?_) fun h1=>?_
 ·
  exfalso;omega
 refine zD 2<|aF q0 (.tuple ⟨[]⟩) [] [0] L (Sub.refl _) ⟨_,_,rfl,rfl,ho⟩
theorem aG0{v:Value}{xs:List an}{L:Cells}{lim:Int}{ro:Nat→Option Obj}(ho:az v 3 164 cJ xs L)(hN:xs.length≤1):eG zT 199 [v,zI 0,zI (xs.length:Int),zI lim,.func (.func 161) ⟨[]⟩ ⟨[]⟩] ro L (fun r Y=>az v 3 164 cJ xs Y):=by
 refine bD au [.l L] [] ba<|zD 9<|dW [1,1,0,0] [] (fun(zz:Nat)=>[(0,v),(1,zI 0),(2,zI (xs.length:Int)),(3,zI lim),(4,.func (.func 161) ⟨[]⟩ ⟨[]⟩),(10,.bool true),(11,.bool true)]) (fun(zz:Nat)=>[.l L]) (fun(zz:Nat)=>True) (fun(zz:Nat)=>zz) 0 trivial [0] ?_
 rintro z hI K1 bK rest
 refine zD 5<|ja ((xs.length:Int)-0) (by omega)<|zD 8<|zJ 25 (((xs.length:Int)-0)≤12) (fun h1=>?_) fun h1=>?_
 ·
  refine zD 7<|jc (vs:=[v,zI 0,zI (xs.length:Int),.func (.func 161) ⟨[]⟩ ⟨[]⟩]) [0] (aG5 ho (by omega)) ?_
  rintro az1 Y30 wx
  refine zD 2<|aF q0 (.tuple ⟨[]⟩) [] [0] Y30 (Sub.refl _) ⟨_,_,rfl,rfl,wx⟩
 exfalso;omega
theorem awp{v:Value}{xs:List an}{L:Cells}{ro:Nat→Option Obj}(ho:az v 3 164 cJ xs L)(hN:xs.length≤1):eG zT 160 [v,.func (.func 161) ⟨[]⟩ ⟨[]⟩] ro L (fun r Y=>az v 3 164 cJ xs Y):=by
 refine bD au [.l L] [] ba<|zD 3<|Co ho<|zD 6<|je (zU (xs.length:Int)) (ab5 (by omega))<|jp (vs:=[zU (xs.length:Int)]) [] [] (fun aC hs hZ=>(awr (by omega)))<|zD 1<|jc (vs:=[v,zI 0,zI (xs.length:Int),zI (aaa xs.length),.func (.func 161) ⟨[]⟩ ⟨[]⟩]) [0] (aG0 ho (by omega)) ?_
 rintro az2 Y13 Ut
 refine zD 1<|aF q0 (.tuple ⟨[]⟩) [] [0] Y13 (Sub.refl _) ⟨_,_,rfl,rfl,Ut⟩
theorem ahU{v:Value}{xs:List an}{L:Cells}{ro:Nat→Option Obj}(ho:az v 3 164 cJ xs L)(hN:xs.length≤1):eG zT 162 [v] ro L (fun r Y=>v=r∧L=Y):=by
 refine bD au [.l L] [] ba<|zD 8<|Co ho<|zD 2<|zJ 8 ((xs.length:Int) <2) (fun h1=>?_) fun h1=>?_
 ·
  refine zD 7<|aF q0 (v) [] [0] L (Sub.refl _) ⟨_,_,rfl,rfl,rfl,rfl⟩
 exfalso;omega
theorem Ye{v:Value}{xs:List an}{ro:Nat→Option Obj}(hl:bE ro v 3 cJ xs)(hN:xs.length≤1):eG zT 123 [v] ro [] (fun r Y=>az r 3 164 cJ xs Y):=by
 obtain⟨fI,rV,rS,eZ,rfl,tR,lQ,mO⟩:=hl
 refine bD au [] [] ba<|zD 7<|jc (vs:=[.slice fI xs.length eZ]) [] (aVj (show bE _ _ _ _ _ from ⟨fI,rV,rS,eZ,rfl,tR,lQ,mO⟩) (by first|omega| (simp only[List.length_set,List.length_append,List.length_cons,List.length_nil];omega))) ?_
 rintro v5 L5 ho5
 obtain⟨va5,vc5,he5⟩:=ho5.form
 subst he5
 refine zD 5<|jc (vs:=[(.slice va5 (xs).length vc5),.func (.func 161) ⟨[]⟩ ⟨[]⟩]) [0] (awp ho5 (by omega)) ?_
 rintro rv7 Y7 Ur
 refine zD 4<|jc (vs:=[(.slice va5 (xs).length vc5)]) [0] (ahU Ur (by omega)) ?_
 rintro _ _ ⟨rfl,rfl⟩
 refine zD 3<|aF q0 ((.slice va5 (xs).length vc5)) [] [0] Y7 (Sub.refl _) ⟨_,_,rfl,rfl,Ur⟩
theorem MV.put{F:List (an×Value)}{g:an→an}(h:MV Z F g){k:an}{v:Value}(hv:∀aG,Knows aG Z2→bE aG v 3 cJ [g k]):MV (Z++Z2) (mC k v F) g:=by
 have h1:∀x∈mC k v F,x=(k,v)∨x∈F:=fun x hx=>by
  unfold mC at hx
  split at hx
  ·rw[E4] at hx
   obtain⟨i,hi⟩:=List.getElem?_of_mem hx
   rw[List.getElem?_set] at hi
   split at hi
   ·split at hi
    ·cases hi;exact .inl rfl
    cases hi
   exact .inr (List.mem_of_getElem? hi)
  rcases List.mem_append.1 hx with h|h
  ·exact .inr h
  exact .inl (List.mem_singleton.1 h)
 intro aG hr x hx
 rcases h1 x hx with rfl|hx
 ·exact hv aG hr.right
 exact h aG hr.left x hx
theorem OT[DecidableEq κ]{k x:κ}{v:Value}{F:List (κ×Value)}(h:x=k∨x∈F.map (·.1)):x∈(mC k v F).map (·.1):=by
 unfold mC
 split
 ·rename_i i u hf
  have y9:=(qH hf).2
  rw[Nat.sub_zero] at y9
  have hs:((F.set i (k,v)).map (·.1))=F.map (·.1):=by
   rw[List.map_set]
   refine List.ext_getElem? fun j=>?_
   rw[List.getElem?_set]
   split
   ·rename_i hj;subst hj;simp[y9,(List.getElem?_eq_some_iff.1 y9).1,(List.getElem?_eq_some_iff.1 y9).2]
   rfl
  rw[E4,hs]
  rcases h with rfl|h
  ·exact List.mem_map_of_mem (f:=(·.1)) (List.mem_of_getElem? y9)
  exact h
 rw[List.map_append]
 rcases h with rfl|h
 ·exact List.mem_append_right _ (by simp)
 exact List.mem_append_left _ h
def Seen(es:Array MapEntry)(seen:List Nat)(F:List (an×Value)):Prop:=∀e∈es.toList,e∈cK es seen∨∃k,e.key=pd k∧k∈F.map (·.1)
theorem Seen.start{es:Array MapEntry}{F:List (an×Value)}:Seen es [] F:=fun e he=> .inl (by rw[Ck];exact he)
theorem Seen.step{es:Array MapEntry}{ck:Nat}{F0 F:List (an×Value)}(h:Seen es seen F)(hE:tE pd F0 es ck){e:MapEntry}(he:e∈cK es seen){k:an}(hk:e.key=pd k){v:Value}:Seen es (seen++[e.born]) (mC k v F):=fun x hx=>by
 rcases h x hx with h1| ⟨q,h1,h2⟩
 ·rcases TY hE he h1 with rfl|h2
  ·exact .inr ⟨k,hk,OT (.inl rfl)⟩
  exact .inl h2
 exact .inr ⟨q,h1,OT (.inr h2)⟩
theorem alZ{a b:an}(h:pd a=pd b):a=b:=by
 rcases a with ⟨x,y,z⟩;rcases b with ⟨d,e,f⟩
 simp only[pd,cJ,Value.agg.injEq,Array.mk.injEq,List.cons.injEq,Value.int.injEq] at h
 simp[h.1.2,h.2.1.2,h.2.2.1.2]
theorem Seen.fin{es:Array MapEntry}{ck:Nat}{F0 F:List (an×Value)}(h:Seen es seen F)(hl:cK es seen=[])(hE:tE pd F0 es ck){k:an}(hk:k∈F0.map (·.1)):k∈F.map (·.1):=by
 obtain⟨⟨k',v⟩,h1,rfl⟩:=List.mem_map.1 hk
 have:(pd k',v)∈es.toList.map (fun e=>(e.key,e.val)):=by rw[hE.1];exact List.mem_map_of_mem (f:=fun x:an×Value=>(pd x.1,x.2)) h1
 obtain⟨e,h2,h3⟩:=List.mem_map.1 this
 simp only[Prod.mk.injEq] at h3
 rcases h e h2 with h4| ⟨q,h4,h5⟩
 ·rw[hl] at h4;cases h4
 have:=alZ (h3.1.symm.trans h4);subst this;exact h5
structure Sc(ro:Nat→Option Obj)(r:Nat)(H:List an)(g:an→an)(es:Array MapEntry)(ck:Nat)(F:List (an×Value)):Prop where
 m:ro r=some (.map es ck)
 e:tE pd F es ck
 k:F.map (·.1)=H
 v:∀x∈F,bE ro x.2 3 cJ [g x.1]
theorem Gq{a x:α}(h: [a][j]?=some x):x=a∧j=0:=by
 cases j with
 |zero=>simp at h;exact⟨h.symm,rfl⟩
 |succ j=>simp at h
theorem aqg{r1 IL:Nat}{BE:Array MapEntry}{F1:List (an×Value)}{r2 ck2:Nat}{EK:Array MapEntry}{F2:List (an×Value)}{H:List an}{g:an→an}{ro:Nat→Option Obj}(IF:Sc ro r1 H id BE IL F1)(hP2:Sc ro r2 H g EK ck2 F2):eG zT 196 [(.map (some r1)),(.map (some r2))] ro [] (fun r Y=>∃rm F LM Z,r= .map (some rm)∧Y=LM++Z∧j6 rm pd F LM∧(∀h∈H,h∈F.map (·.1))∧MV Z F g):=by
 refine bD au [] [] ba<|zD 6<|jmk pd fun F6 L11 agk=>zD 6<|jmR IF.m fun r13=>jg 0 [.b r13 (uP r1 IL [])]<|zD 2<|oH<|dW [1,1,0,1,0,0] [] (fun(zz:(List Nat)×(List (an×Value))×Cells×Cells)=>[(1,(.map (some r2))),(4,(.map none)),(5,(.map (some F6))),(13,zP r13)]) (fun(zz:(List Nat)×(List (an×Value))×Cells×Cells)=>[.b r13 (uP r1 IL zz.1),.l zz.2.2.1,.l zz.2.2.2]) (fun(zz:(List Nat)×(List (an×Value))×Cells×Cells)=>j6 F6 pd zz.2.1 zz.2.2.1∧Seen BE zz.1 zz.2.1∧MV zz.2.2.2 zz.2.1 g) (fun(zz:(List Nat)×(List (an×Value))×Cells×Cells)=>(cK BE zz.1).length) (⟨[],[],L11,[]⟩) ⟨agk,Seen.start,fun _ _ _ h=>(by cases h)⟩ [1,2,0] ?_
 rintro⟨seen,F,LM,Z⟩ hI K1 bK rest
 dsimp only at hI
 refine zD 2<|jmN (it:=r13) (kv:=pd) (seen:=seen) 0 IF.m IF.e (fun Om v14 NO aDD u7 amQ aQX=>?_) (fun aQo=>?_)
 ·
  have hkH:Om∈H:=by rw[←IF.k];exact List.mem_map_of_mem (f:=(·.1)) aDD
  have hvv:bE ro v14 3 cJ [Om]:=IF.v _ aDD
  obtain⟨Mv,qvb,qvo,Bx,rfl,qvk,Px,Pw⟩:=hvv
  refine jg 0 [.b r13 (uP r1 IL (seen++[NO.born]))]<|zD 8<|jmE (it:=r13) 0 IF.m IF.e u7 amQ aQX<|jg 0 [.b r13 (uP r1 IL (seen++[NO.born]))]<|zD 2<|jn fun b6=>jd 15 [0]<|oH<|dW [1,1,0,1,0,0,1,1,0,1,1,0,1,0,0] [K1] (fun(zz:Nat×Value×Cells)=>[(1,(.map (some r2))),(4,(.map none)),(5,(.map (some F6))),(6,zP b6),(8,zz.2.1),(13,zP r13),(19,.slice Mv ([Om].length) Bx),(20,zI ([Om].length:Int)),(21,zI (zz.1:Int))]) (fun(zz:Nat×Value×Cells)=>[.l zz.2.2,.b b6 (.cells ⟨[zI Om.h,zI Om.n,zI Om.l]⟩ 164 (0,0)),.b r13 (uP r1 IL (seen++[NO.born])),.l LM,.l Z]) (fun(zz:Nat×Value×Cells)=>zz.1≤[Om].length∧az zz.2.1 3 164 cJ ([g Om].take zz.1) zz.2.2) (fun(zz:Nat×Value×Cells)=>[Om].length-zz.1) (⟨0,zS,[]⟩) ⟨by simp,az.nil _ _ _⟩ [0,1,2,3,4] ?_
  rintro⟨i,vO,LO⟩ hJ K2 mr rest
  dsimp only at hJ
  have Sz: [Om].length=1:=rfl
  refine zD 5<|zJ 22 ((i:Int) <([Om].length:Int)) (fun h1=>?_) fun h1=>?_
  ·
   refine zD 6 ?_
   obtain⟨vk,td⟩:=zG ([Om]) i
   refine iA Bx 3 Px td<|jl 0 (Pw _ _ td)<|jn fun mb=>jd 2 [0] ?_
   obtain⟨hxe,hj0⟩:=Gq td
   refine jd 4 [0]<|jlu (kv:=pd) (F:=F2) (r:=r2) (K:=164) vk (zS) false [] [] DK (fun s he _=>⟨_,_,he _ _ (.inl hP2.m),hP2.e⟩) ?_
   obtain⟨w28,aQJ,auG⟩:=Xf (k:=vk) (F:=F2) (by rw[hP2.k,hxe];exact hkH)
   have hww:bE ro w28 3 cJ [g vk]:=hP2.v _ auG
   obtain⟨Tu,qwb,qwo,Mu,rfl,qwk,qwh,qwl⟩:=hww
   refine jw 28 (.slice Tu ([g vk].length) Mu) (show Qj (zS) false vk F2=_ from by simp only[Qj,aQJ];rfl) ?_
   refine jq (sz:=3) (ps:=([g Om].take i)) (qs:=[g vk]) (enc:=cJ) (w:= .slice Tu ([g vk].length) Mu) [1] [] [] (hJ.2) (fun s he _=>⟨Tu,qwb,qwo,Mu,rfl,qwh,fun i p hp=>(qwl i p hp).ext he⟩) (fun p _=>aj rfl) (by simp only[List.length_take,List.length_cons,List.length_nil];omega) (fun v29 L29 G5=>?_)
   obtain⟨acs,ack,agG⟩:=G5.form
   subst agG
   refine zD 3<|ja ((i:Int)+1) (by omega)<|zD 2<|bJ mr (⟨i+1,(.slice acs ((([g Om].take i)++[g vk])).length ack),L29⟩) ⟨by dsimp only;omega,by have:=G5;rw[hj0] at this ⊢;rw[hxe] at this;exact this⟩ (by dsimp only;omega) [0,2,3,4,5] (Sub.refl _)
  refine jd 6 [1]<|aL 3 fun sB sJ q5=>jcL (vs:=[vO]) [] [0] LO (fun aC hs hZ=>Ye (hJ.2.kZ hZ) (by simp only[List.length_take,List.length_cons,List.length_nil];omega)) ?_
  rintro v34 L34 aRD
  refine bB q5 [1,2,3,4,5]<|aL 4 fun sA sI qZ=>jmu (kv:=pd) (F:=F) (r:=F6) (K:=164) 4 Om (v34) DK hI.1 fun Lm4 hm4=>dZ qZ<|zD 1<|KR bK (⟨(seen++[NO.born]),_,Lm4,Z++L34⟩) ⟨hm4,hI.2.1.step IF.e u7 amQ,hI.2.2.put fun aG hk=>(by have:=aRD;rw[show ([g Om].take i)=[g Om] from List.take_of_length_le (by simp;omega)] at this;exact this.kZ hk)⟩ (GH u7) [[4],[0],[5,1]] (Sub.refl _)
 refine jg 0 [.b r13 (uP r1 IL seen)]<|zD 11<|aF q0 ((.map (some F6))) [] [1,2] (LM++Z) (Sub.refl _) ⟨_,_,rfl,rfl,F6,F,LM,Z,rfl,rfl,hI.1,fun h hh=>hI.2.1.fin aQo IF.e (by rw[IF.k];exact hh),hI.2.2⟩
end Go.L
