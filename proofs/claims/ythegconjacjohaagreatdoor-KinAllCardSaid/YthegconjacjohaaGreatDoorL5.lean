/- Part 5 of the proof. -/
import Derived.Test.YthegconjacjohaaGreatDoorL4
set_option maxRecDepth 100000
set_option linter.all false
namespace Go.L
open Go Go.Conc Go.Proofs
open Go.ConcR (KK wgBlock WgAt stA smA rd wr)
variable {ro aF:Nat→Option Obj} {K:aE} {ways:List (List aO)} {l fi ca z z1:List Value} {xs ys:List Int} {k i b n f j b3 ck fc b1 bl b2 s r bL rm sz J6 ck0 dep by1 b9 r1 en ec:Nat} {W:List (List Int)} {α κ β:Type} {Z Z2 LM B LE:Cells} {x y c5 c6:Int} {F:Nat→Nat→Bool} {Stop:Cells→Prop} {T:TypeId} {vS vT:Value} {p:Nat→Int} {g:FuncId} {seen:List Nat} {hd:List cF} {fs:List eY} {ag:Bool}
def aln(o:Oper):Array TypeId:=match o.op with
 | .call c=>c.argTypes
 | .go c=>c.argTypes
 | .defer c=>c.argTypes
 |_=> #[]
noncomputable def kE:sQ:=azF zT 60 2
theorem aFL:kE.cl.OK zT 216 where
 ff:=by kernel_rfl
 fn:=⟨(Tryz.prog.funcs[116]?).getD default,by kernel_rfl,by kernel_rfl,by kernel_rfl⟩
 bf:=⟨by kernel_rfl,by kernel_rfl,by kernel_rfl⟩
 enter:=fun p1 p2=>by kernel_rfl
 op0:=by kernel_rfl
 rest:=⟨1,by kernel_rfl⟩
 size:=by kernel_rfl
 op:=⟨by kernel_rfl,by kernel_rfl,aln kE.cl.oc,by kernel_rfl⟩
theorem awn:∀v,v <2→∀W,∃k,Jg zT 216 v (Frame.enter zT 113 #[zP W,zI 1] .normal)=some (List.replicate k W):=by
 intro v hv W
 match v,hv with
 |0,_=>exact⟨7,by kernel_rfl⟩
 |1,_=>exact⟨4,by kernel_rfl⟩
theorem aoL:∀W,∃k,yD zT 216 2 (Frame.enter zT 115 #[zP W] .deferred)=some (List.replicate k W):=fun W=>⟨27,by kernel_rfl⟩
theorem aoK:∀W,∃k,Cp zT 216 2 (Frame.enter zT 117 #[zP W] .normal)=some (List.replicate k W):=fun W=>⟨164,by kernel_rfl⟩
noncomputable def nP(Wg Ch:Nat)(iC:Os)(cI:Array (Nat×ByteArray)):eg (List aj):=⟨zT,216,Wg,Ch,2,zS,iC,cI,fun l v X=>aA v 8 138 cY l X⟩
theorem IG(K:aE)(on:Int)(hb:K.after.length≤4):∀(n a:Nat) (p:Nat→Int),(∀i,0≤p i∧p i≤4)→(jo K on n a p).length≤5^n∧∀q∈jo K on n a p,∀i,0≤q i∧q i≤4
 |0,a,p,hp=>by
  simp only[jo]
  cases mi on p K.facts 0 with
  |true=>exact⟨by simp,fun q hq=>by simp only[cond_true,List.mem_singleton] at hq;subst hq;exact hp⟩
  |false=>exact⟨by simp,fun q hq=>by simp at hq⟩
 |n+1,a,p,hp=>by
  obtain⟨h1,h2⟩:=IG K on hb n (a+1) p hp
  have hg:∀b,b <K.after.length→(nN K on n a p b).length≤5^n∧∀q∈nN K on n a p b,∀i,0≤q i∧q i≤4:=fun b cO=>by
   simp only[nN]
   cases !dA K on a b||qY p a ((b:Int)+1) with
   |true=>exact⟨by simp,fun q hq=>by simp at hq⟩
   |false=>
    simp only[cond_false]
    refine IG K on hb n (a+1) _ fun i=>?_
    simp only[iQ]
    split
    ·omega
    exact hp i
  rw[q8]
  refine⟨?_,fun q hq=>?_⟩
  ·rw[List.length_append,List.length_flatMap]
   have:((List.range K.after.length).map fun b=>(nN K on n a p b).length).sum≤K.after.length*5^n:=by
    have key:∀l:List Nat,(∀b∈l,b <K.after.length)→(l.map fun b=>(nN K on n a p b).length).sum≤l.length*5^n:=by
     intro l
     induction l with
     |nil=>intro _;simp
     |cons b l ih=>
      intro hl
      have:=ih fun x hx=>hl x (List.mem_cons_of_mem _ hx)
      have:=(hg b (hl b List.mem_cons_self)).1
      simp only[List.map_cons,List.sum_cons,List.length_cons,Nat.succ_mul]
      omega
    have:=key (List.range K.after.length) fun b hb=>List.mem_range.1 hb
    simpa using this
   have h5:K.after.length*5^n≤4*5^n:=Nat.mul_le_mul_right _ hb
   rw[Nat.pow_succ]
   omega
  rcases List.mem_append.1 hq with hq|hq
  ·exact h2 q hq
  obtain⟨b,mN,hq⟩:=List.mem_flatMap.1 hq
  exact(hg b (List.mem_range.1 mN)).2 q hq
theorem jC(hV:fq K)(on:Int):(aY K on).length≤625∧∀q∈aY K on,∀i,0≤q i∧q i≤4:=by
 obtain⟨h1,h2⟩:=IG K on hV.after.1 K.before.length 0 (fun _=>0) fun _=>by omega
 refine⟨Nat.le_trans h1 ?_,h2⟩
 have:=Nat.pow_le_pow_right (n:=5) (by omega) hV.before.1
 omega
abbrev pV(b:Nat):Value:= zP b
noncomputable def FN(f i:Nat):Array Oper:=cW (codeOf zT f) i
noncomputable def aZk(f i:Nat):Code:=((codeOf zT f)[i]?).getD .skip
def nI(K:aE)(on:Int)(keep:aj→Bool)(r:bx)(past:Nat):List aj:=((aY K on).map (bI K r past)).filter keep
noncomputable def aaO(f:Nat):Code:=(((Tryz.prog.funcs[f]?).getD default).body).getD .skip
theorem gH{l:List α}{x:α}(h:l[k]?=some x):l.take (k+1)=l.take k++[x]:=by rw[List.take_succ,h];rfl
theorem azz:iu [aaO 114]=[.region 0 (FN 114 0) false,.region 1 (FN 114 1) false,.region 2 (FN 114 2) false,aZk 114 3,.region 7 (FN 114 4) false]:=by kernel_rfl
theorem aFB{rows:List bx}{on:Int}{past:Nat}{Ki:bx}{keep:aj→Bool}{Wg Ch:Nat}{iC:Os}{cI:Array (Nat×ByteArray)}{b4 b5 b7:Nat}(hV:fq K)(hF:p5 ro f K rows)(D8:rows[past]?=some Ki) (CY:C2 zT g=true)
 (iO:∀aF,Sub ro aF→∀p∈aY K on,dG zT g (fi++[.agg ⟨cY (bI K Ki past p)⟩]++ca) aF (.bool (keep (bI K Ki past p))))
 (g3:ro b3=some (.cells ⟨[pV f]⟩ 106 (0,0))) (g4:ro b4=some (.cells ⟨[.int .u8 on]⟩ 111 (0,0))) (g9:ro b9=some (.cells ⟨[zI (past:Int)]⟩ 3 (0,0))) (g5:ro b5=some (.cells ⟨[.func (.func g) ⟨fi⟩ ⟨ca⟩]⟩ 139 (0,0))) (g7:ro b7=some (.cells ⟨[.chan (some Ch)]⟩ 207 (0,0))):
 fo zT false ((nP Wg Ch iC cI).La (nI K on keep Ki past)) (born zT {target:= .fn (.func 114) ⟨[pV Wg,pV b3,pV b4,pV b9,pV b5,pV b7]⟩,args:= #[]}) ⟨ro,[]⟩:=by
 have hT:Closed zT false (fo zT false ((nP Wg Ch iC cI).La (nI K on keep Ki past))):=ei _ _ _
 refine aC5 (fn:=(Tryz.prog.funcs[114]?).getD default) (c:=aaO 114) (n:=26) (by kernel_rfl) (by kernel_rfl) (by kernel_rfl) (by kernel_rfl) (by rfl)<|qF hT azz fun l1 Fe=>?_
 refine aur hT (a:=eR (FN 114 0) 0) (f:=115) (xs:= #[.tmp 0]) (vs:=[pV Wg]) (ats:=aln (eR (FN 114 0) 0)) (by kernel_rfl) (by kernel_rfl) (by kernel_rfl) (by decide) rfl<|qF hT Fe fun l2 rO=>?_
 refine wO av hT<|jn fun b6=>zD 1<|yM<|qF hT rO fun l3 SR=>?_
 refine wO av hT<|jl (b:=b3) (off:=0) (m:=1) (vs:=[pV f]) 0 ⟨_,_,_,.inl g3,rfl⟩<|jl (b:=b4) (off:=0) (m:=1) (vs:=[.int .u8 on]) 0 ⟨_,_,_,.inl g4,rfl⟩<|jc [] (MI (on:=on) hF hV) ?_
 rintro _ _ ⟨q1,q2,q3,q4,rfl,rfl⟩
 refine jf [0] [(q1,.cells ⟨[pV f]⟩ 106 (0,0)),(q2,.cells ⟨[.func (.func 137) ⟨[]⟩ ⟨[pV q1,pV q4]⟩]⟩ 239 (0,0)),(q3,.cells ⟨Ew ⟨dA K on⟩⟩ 162 (0,0)),(q4,.cells ⟨[.int .u8 on]⟩ 111 (0,0))] fun aJ cu hk1=>zD 1<|aC3<|arp hT SR fun l4 SQ=>?_
 refine aC4 av hT ?_
 have F7:=hF.up cu
 refine zD 1<|my ?_
 refine jrf [] (ZD (on:=on) F7 hV (hk1 _ (.head _)) (hk1 _ (.tail _ (.head _))) (hk1 _ (.tail _ (.tail _ (.head _)))) (hk1 _ (.tail _ (.tail _ (.tail _ (.head _)))))) (by rintro _ _ _ _ ⟨_,_,rfl,_⟩;rfl)
  (fun(zz:Value×Cells)=>[.b b6 (.cells ⟨[zz.1]⟩ 115 (0,0)),.l zz.2]) (fun kk=>(fun(zz:Value×Cells)=>aA zz.1 8 138 cY ((((aY K on).take kk).map (bI K Ki past)).filter keep) zz.2)) (fun jump=>(fun(zz:Value×Cells)=>False)) (⟨zS,[]⟩) (aA.nil _ _ _) [1,0] ?_ ?_ ?_
 ·rintro bl bd kk vs LL ⟨v,Lb⟩ k7 iX ⟨p,hp,rfl,rfl⟩ hI mI
  dsimp only at hI
  have aGE:=zL hp
  have hp4:=(jC hV on).2 p aGE
  have ah8:=Sub.trans cu mI
  have hlen:((((aY K on).take kk).map (bI K Ki past)).filter keep).length≤625:=by
   refine Nat.le_trans (List.length_filter_le _ _) ?_
   rw[List.length_map,List.length_take]
   have:=(jC hV on).1
   omega
  refine zD 1<|jn fun xS=>jd 2 [0]<|jbI 1<|zD 3<|jl (b:=b3) (off:=0) (m:=1) (vs:=[pV f]) 0 ⟨_,_,_,.inl (ah8 _ _ g3),rfl⟩<|jl (b:=b9) (off:=0) (m:=1) (vs:=[zI (past:Int)]) 0 ⟨_,_,_,.inl (ah8 _ _ g9),rfl⟩<|jd 1 [0]<|jp (vs:=[pV f,zI (past:Int),.agg ⟨eP4 p⟩]) [] [] (fun ya hs hZ=>ar1 (hF.up (Sub.trans ah8 hs)) hV D8 hp4)<|jn fun C4=>jd 4 [0]<|jl (b:=b5) (off:=0) (m:=1) (vs:=[.func (.func g) ⟨fi⟩ ⟨ca⟩]) 0 ⟨_,_,_,.inl (ah8 _ _ g5),rfl⟩<|jd 1 [0]<|jpF (f:=g) (V:= .bool (keep (bI K Ki past p))) (vs:=fi++[Value.agg ⟨cY (bI K Ki past p)⟩]++ca) [] [] CY (fun ya hs hZ=>iO _ (Sub.trans ah8 hs) p aGE)<|zD 1<|js 19 (keep (bI K Ki past p)) (fun h5=>?_) (fun h5=>?_)
  ·refine jd 4 [3,0]<|jn fun Qo=>BS (sz:=8) (ps:=(((aY K on).take kk).map (bI K Ki past)).filter keep) (qs:=[bI K Ki past p]) (enc:=cY) (w:= .slice (some ⟨Qo,0,none⟩) 1 1) [5] [0] [(Qo,.cells ⟨([bI K Ki past p].map cY).flatten⟩ 138 (0,0))] hI (fun s _ hZ=>NU [bI K Ki past p] (hZ _ (.head _)) (by intro p hp;rfl)) (fun p _=>bM rfl) (by simp only[List.length_cons,List.length_nil];omega) (fun v23 L23 Ea=>?_)
   obtain⟨va,vc,he⟩:=Ea.form
   subst he
   refine jd 2 [5]<|jyn qy0 (Sub.refl _) ⟨.slice va _ vc,L23⟩ (by dsimp only;rw[gH hp,List.map_append,List.filter_append,List.map_cons,List.map_nil,List.filter_cons_of_pos h5,List.filter_nil];exact Ea) [4,5,0]
  refine zD 2<|jyn qy0 (Sub.refl _) ⟨v,Lb⟩ (by dsimp only;rw[gH hp,List.map_append,List.filter_append,List.map_cons,List.map_nil,List.filter_cons_of_neg (by rw[h5];simp),List.filter_nil,List.append_nil];exact hI) [2,3,4]
 ·rintro bd ⟨v,Lb⟩ Z hI rfl
  dsimp only at hI
  rw[List.take_length] at hI
  refine aC2<|qF hT SQ fun l5 SP=>?_
  have:=gX SP
  subst this
  show TT _ _ (.inRegion (FN 114 4) (0::[1,2])::[]) _ _ _ _ _
  refine tLd hT (.chan (some Ch)) (a:=eR (FN 114 4) 0) (x:= .tmp 5) (U:=207) (q:=b7) (by kernel_rfl) (by kernel_rfl) (by kernel_rfl) (by kernel_rfl) (by decide) rfl (fun _ _ _ _=> .inl (cu _ _ g7))<|aQO hT v (a:=eR (FN 114 4) 1) (x:= .tmp 6) (U:=115) (q:=b6) (by kernel_rfl) (by kernel_rfl) (by kernel_rfl) (by kernel_rfl) (by decide) rfl [2] 115<|aCX (E:=nP Wg Ch iC cI) (a:=eR (FN 114 4) 2) (sc:= .tmp 24) (sv:= .tmp 25) (v:=v) (Y:=Lb) [3] (by kernel_rfl) (by kernel_rfl) (fun ρ=>by kernel_rfl) (by decide) rfl hI<|Yt (ei _ _ _)<|auo (E:=nP Wg Ch iC cI) (fn:=(Tryz.prog.funcs[114]?).getD default) (dn:=115) (bd:=bd) (by kernel_rfl) (by kernel_rfl) (by kernel_rfl) (aoL Wg).choose_spec yd [0] rfl rfl
 rintro bd ⟨v,Lb⟩ Z jump hS hZ
 exact hS.elim
theorem f26:iu [aaO 60]=[.region 0 kE.o0 false,.region 1 kE.o1 false,.region 2 kE.o2 false,.region 3 kE.o3 false,.block 0 (.loop kE.lb),.region 9 kE.o9 false,.region 10 kE.o10 false,.region 11 kE.o11 false,.block 2 (.loop kE.rb),.region 15 (FN 60 9) false,.region 16 (FN 60 10) false,.ret]:=by kernel_rfl
theorem aKB:iu [kE.lb]=[.region 4 kE.o4 false,.cond (.tmp 19) .skip (.exit 0),.block 1 kE.Fa,.region 8 kE.o8 false]:=by kernel_rfl
theorem aY5:iu [kE.Fa]=[.region 5 kE.o5 false,.region 6 kE.o6 false,.region 7 kE.o7 false]:=by kernel_rfl
theorem aKA:iu [kE.rb]=[.region 12 kE.DI false,.cond (.tmp 27) .skip (.exit 2),.block 3 kE.vI]:=by kernel_rfl
theorem aY4:iu [kE.vI]=[.region 13 kE.o13 false,.region 14 kE.o14 false]:=by kernel_rfl
def gP(K:aE)(on:Int)(keep:aj→Bool)(rows:List bx)(n:Nat):List (List aj):=(List.range n).map fun i=>nI K on keep ((rows[i]?).getD ⟨fun _ _=>false⟩) i
theorem Qx{on:Int}{keep:aj→Bool}{rows:List bx}{r:bx}(h:rows[n]?=some r):gP K on keep rows (n+1)=gP K on keep rows n++[nI K on keep r n]:=by
 simp only[gP,List.range_succ,List.map_append,List.map_cons,List.map_nil,h,Option.getD_some]
theorem zy(K:aE)(on:Int)(keep:aj→Bool)(rows:List bx)(n:Nat):(gP K on keep rows n).length=n:=by simp[gP]
def db(K:aE)(on:Int)(keep:aj→Bool)(rows:List bx):List aj:=(gP K on keep rows rows.length).flatten
theorem lX(hV:fq K)(on:Int)(keep:aj→Bool){rows:List bx}(hR:rows.length≤2):(db K on keep rows).length≤1250:=by
 have h1:∀r i,(nI K on keep r i).length≤625:=fun r i=>Nat.le_trans (List.length_filter_le _ _) (by rw[List.length_map];exact(jC hV on).1)
 have key:∀n,(gP K on keep rows n).flatten.length≤n*625:=by
  intro n
  induction n with
  |zero=>simp[gP]
  |succ n ih=>
   have:=h1 ((rows[n]?).getD ⟨fun _ _=>false⟩) n
   simp only[gP,List.range_succ,List.map_append,List.map_cons,List.map_nil,List.flatten_append,List.length_append,List.flatten_cons,List.flatten_nil,List.append_nil] at ih ⊢
   omega
 have:=key rows.length
 have h2:rows.length*625≤2*625:=Nat.mul_le_mul_right _ hR
 exact Nat.le_trans this h2
theorem adz{on:Int}{keep:aj→Bool}{rows:List bx}(hR:rows.length≤2):ia (db K on keep rows):=by
 intro x hx
 obtain⟨l,hl,hx⟩:=List.mem_flatten.1 hx
 obtain⟨i,hi,rfl⟩:=List.mem_map.1 hl
 have hi:=List.mem_range.1 hi
 obtain⟨p,_,rfl⟩:=List.mem_map.1 (List.mem_filter.1 hx).1
 simp only[bI]
 omega
theorem akh(a:List (List α))(o:List α)(b:List (List α))(zs:List α):((zs++o)++(a++b).flatten).Perm (zs++(a++o::b).flatten):=by
 simp only[List.flatten_append,List.flatten_cons,List.append_assoc]
 refine .append_left _ ?_
 rw[←List.append_assoc,←List.append_assoc]
 exact .append_right _ List.perm_append_comm
theorem aFK{rows:List bx}{on:Int}{keep:aj→Bool}{fr:Cells}(hV:fq K)(hF:p5 ro f K rows)(hR:rows.length≤2)(CY:C2 zT g=true)
 (iO:∀i r,rows[i]?=some r→∀aF,Sub ro aF→∀p∈aY K on,dG zT g (fi++[.agg ⟨cY (bI K r i p)⟩]++ca) aF (.bool (keep (bI K r i p)))):
 Fn (C0 zT) zT 60 ⟨[pV f,.int .u8 on,.func (.func g) ⟨fi⟩ ⟨ca⟩]⟩ ⟨ro,fr⟩ (fun en s'=>∃v Y zs,en= .returned v∧s'=⟨ro,Y++fr⟩∧zs.Perm (db K on keep rows)∧aA v 8 138 cY zs Y):=by
 rintro main T ⟨rfl,iC,cI,Post,rfl⟩ cl PA kr _
 have hT:=tJ zT iC cI Post
 obtain⟨c0,c1,c2,vc,vh,vr,vb,va,vf,vt,hv,hf,py,kz,hr,yY,B6,Eg,cg⟩:=id hF
 obtain⟨nX,FJ,FI,nD,rfl,Ro,N5,N4⟩:=cg
 refine aun (fn:=(Tryz.prog.funcs[60]?).getD default) (c:=aaO 60) (n:=35) (by kernel_rfl) (by kernel_rfl) (by kernel_rfl) (by rfl)<|qF hT f26 fun l1 Fe=>?_
 refine wO av hT<|jn fun b3=>jn fun b4=>jn fun b5=>zD 2<|yM<|qF hT Fe fun l2 rO=>?_
 show TT _ _ (.inRegion kE.o1 (0::[1,2])::_) _ _ _ _ _
 refine aCY hT (a:=kE.a1) (f:=fun q=> .chan (some q)) (ob:= .chan 0 #[] false 0 0 false) (by kernel_rfl) (by kernel_rfl) (fun e q=>by kernel_rfl) (by decide) rfl fun Ch=>?_
 refine wO av hT<|jn fun b7=>jd 2 [0]<|yM<|qF hT rO fun l3 SR=>?_
 show TT _ _ (.inRegion kE.o2 (0::[])::_) _ _ _ _ _
 refine aCY hT (a:=kE.a2) (f:=fun q=> zP q) (ob:=wgBlock 216 0 0) (by kernel_rfl) (by kernel_rfl) (fun e q=>by kernel_rfl) (by decide) rfl fun Wg=>?_
 refine Yt hT<|auq (E:=nP Wg Ch iC cI) (Q:=Good zT Post) (tm:=false) 0 2 ((b7,.cells ⟨[.chan (some Ch)]⟩ 207 (0,0))::(b5,.cells ⟨[.func (.func g) ⟨fi⟩ ⟨ca⟩]⟩ 139 (0,0))::(b4,.cells ⟨[.int .u8 on]⟩ 111 (0,0))::(b3,.cells ⟨[pV f]⟩ 106 (0,0))::fr) hT (fun L aJ hl dQ W5=>?_)
 have h7:=hl.kn _ (.head _)
 have h5:=hl.kn _ (.tail _ (.head _))
 have h4:=hl.kn _ (.tail _ (.tail _ (.head _)))
 have h3:=hl.kn _ (.tail _ (.tail _ (.tail _ (.head _))))
 dsimp only at h7 h5 h4 h3
 have hM:∀pend os,Closed zT true (TM (nP Wg Ch iC cI) L (Good zT Post) pend false os 0):=fun pend os=>fI (E:=nP Wg Ch iC cI) false os (fun e=>(by cases e))
 have hC:∀os,Closed zT true (TM (nP Wg Ch iC cI) L (Good zT Post) 0 true os 0):=fun os=>fI (E:=nP Wg Ch iC cI) true os (fun _=>rfl)
 refine qF (hM 0 []) SR fun l4 SQ=>?_
 refine wO av (hM 0 [])<|jl (b:=b3) (off:=0) (m:=1) (vs:=[pV f]) 0 ⟨_,_,_,.inl h3,rfl⟩<|zD 2<|jl (b:=f) (off:=0) (m:=13) (vs:=[c0,c1,c2,vc,vh,vr,vb,va,zI K.gone,zI K.new,zI K.af,vf,.slice nX rows.length nD]) 12 ⟨_,_,_,.inl (hl.sub _ _ hf),rfl⟩<|zD 3<|yM<|NQ (hM 0 []) SQ fun l5 SP=>?_
 refine aro (hM 0 []) (rest:=[]) rfl fun l6 KD=>?_
 have:=gX KD
 subst this
 have loop:∀m i k7,m+i=rows.length→Sub aJ k7→(∀k7 rest,Sub aJ k7→TT (TM (nP Wg Ch iC cI) L (Good zT Post) 0 false (gP K on keep rows rows.length) 0) (fr0 60 .normal) (l5.map .code++[]) (cl::PA) 35 [] k7 (some ⟨.fin .normal,[(7,pV b7),(8,pV Wg)]++rest,[],⟨[],[]⟩⟩))→
  ∀rest,TT (TM (nP Wg Ch iC cI) L (Good zT Post) 0 false (gP K on keep rows i) 0) (fr0 60 .normal) ([kE.lb].map .code++(.inLoop kE.lb::(.inBlock 0::(l5.map .code++[])))) (cl::PA) 35 [] k7 (some ⟨.fin .normal,[(3,pV b3),(4,pV b4),(5,pV b5),(7,pV b7),(8,pV Wg),(17,zI (rows.length:Int)),(18,zI (i:Int))]++rest,[],⟨[],[]⟩⟩):=by
  intro m
  induction m with
  |zero=>
   intro i k7 hi hs qW rest
   refine qF (hM 0 _) aKB fun m1 hm1=>?_
   refine wO av (hM 0 _)<|zD 2<|yM<|Yu (hM 0 _) (t:=false) (q:=decide ((i:Int) <(rows.length:Int))) hm1 (by simp;omega) fun m2 GJ=>?_
   refine arq (hM 0 _) (k':=l5.map .code++[]) (by rw[rj];simp[exitTo]) ?_
   have:i=rows.length:=by omega
   subst this
   exact tSt (hM 0 _) [(7,pV b7),(8,pV Wg)] [] [] fun rest=>qW k7 rest hs
  |succ m ih=>
   intro i k7 hi hs qW rest
   obtain⟨r,D8⟩:∃r,rows[i]?=some r:=⟨_,List.getElem?_eq_getElem (by omega)⟩
   refine qF (hM 0 _) aKB fun m1 hm1=>?_
   refine wO av (hM 0 _)<|zD 2<|yM<|Yu (hM 0 _) (t:=true) (q:=decide ((i:Int) <(rows.length:Int))) hm1 (by simp;omega) fun m2 GJ=>?_
   refine arl (hM 0 _)<|NQ (hM 0 _) GJ fun m3 hm3=>?_
   refine qF (hM 0 _) aY5 fun m4 hm4=>?_
   refine wO av (hM 0 _)<|zD 1<|jn fun b9=>jd 2 [0]<|yM<|qF (hM 0 _) hm4 fun m5 hm5=>?_
   show TT _ _ (.inRegion kE.o6 [0]::_) _ _ _ _ _
   refine aQR (E:=nP Wg Ch iC cI) (a:=kE.a6) (f:=113) (x:= .tmp 8) (ats:=aln kE.a6) ?_ (by kernel_rfl) (by kernel_rfl) (by kernel_rfl) (lI (by kernel_rfl)) (by decide) rfl (by show _ <2;rw[zy];omega) (by show Jg zT 216 _ _=_;rw[zy];exact(awn i (by omega) Wg).choose_spec) yd
   refine qF (hM 1 _) hm5 fun m6 hm6=>?_
   have:=gX hm6
   subst this
   show TT _ _ (.inRegion kE.o7 (0::[1])::_) _ _ _ _ _
   refine aCV (hM 1 _) (a:=eR kE.o7 0) (.func (.func 114) ⟨[]⟩ ⟨[pV Wg,pV b3,pV b4,pV b9,pV b5,pV b7]⟩) (by kernel_rfl) (by kernel_rfl) (by decide) rfl<|tGo (E:=nP Wg Ch iC cI) (nI K on keep r i) (a:=kE.a7) (f:=114) (y:= .tmp 22) (ca:=[pV Wg,pV b3,pV b4,pV b9,pV b5,pV b7]) (ats:=aln kE.a7) [(b9,.cells ⟨[zI (i:Int)]⟩ 3 (0,0))] (by kernel_rfl) (by kernel_rfl) (by kernel_rfl) (by decide) rfl (fun ya JN Im=>⟨?_,?_⟩)
   ·have C1:=Sub.trans hs JN
    have h03:=Sub.trans hl.sub C1
    exact aFB hV (hF.up h03) D8 CY (fun aF nH=>iO i r D8 aF (Sub.trans h03 nH)) (C1 _ _ h3) (C1 _ _ h4) (Im _ (.head _)) (C1 _ _ h5) (C1 _ _ h7)
   rw[←Qx D8]
   refine Yt (hM 0 _) (ars (hM 0 _) ?_)
   refine qF (hM 0 _) hm3 fun m7 hm7=>?_
   have:=gX hm7
   subst this
   refine wO av (hM 0 _)<|zW ((i:Int)+1)<|zD 2<|yM<|aeX (hM 0 _)<|tSt (hM 0 _) [(3,pV b3),(4,pV b4),(5,pV b5),(7,pV b7),(8,pV Wg),(17,zI (rows.length:Int)),(18,zI ((i+1:Nat):Int))] [] [] fun rest=>ih (i+1) ya (by omega) (Sub.trans hs JN) qW rest
 refine tSt (hM 0 _) [(3,pV b3),(4,pV b4),(5,pV b5),(7,pV b7),(8,pV Wg),(17,zI (rows.length:Int)),(18,zI (((0:Nat)):Int))] [] [] fun rest=>loop rows.length 0 aJ (by omega) (Sub.refl _) (fun k7 rest mI=>?_) rest
 refine qF (hM 0 _) SP fun l7 GK=>?_
 show TT _ _ (.inRegion kE.o9 (0::[1])::_) _ _ _ _ _
 refine aCV (hM 0 _) (a:=eR kE.o9 0) (.func (.func 116) ⟨[]⟩ ⟨[pV Wg,pV b7]⟩) (by kernel_rfl) (by kernel_rfl) (by decide) rfl<|auu (E:=nP Wg Ch iC cI) (a:=kE.a9) (f:=116) (y:= .tmp 24) (ca:=[pV Wg,pV b7]) (ats:=aln kE.a9) [] (by kernel_rfl) (by kernel_rfl) (by kernel_rfl) (by decide) rfl (fun ya JN _=>?_)
 have C1:=Sub.trans mI JN
 refine⟨anc (E:=nP Wg Ch iC cI) (x:=kE.cl) aFL (aoK Wg).choose_spec yd (q:=b7) (t:=207) (fz:=(0,0)) (a:=eR kE.cl.q1 0) (y:= .tmp 1) (U:=207) (C1 _ _ h7) (by kernel_rfl) (by kernel_rfl) (by kernel_rfl) (by kernel_rfl) (by kernel_rfl) (by kernel_rfl),?_⟩
 refine Yt (hC _)<|qF (hC _) GK fun l8 hl8=>?_
 refine wO av (hC _)<|zD 2<|yM<|qF (hC _) hl8 fun l9 hl9=>?_
 refine wO av (hC _)<|jl (b:=b7) (off:=0) (m:=1) (vs:=[.chan (some Ch)]) 0 ⟨_,_,_,.inl (C1 _ _ h7),rfl⟩<|zD 1<|yM<|NQ (hC _) hl9 fun l10 axX=>?_
 refine aro (hC _) (rest:=[]) rfl fun l11 axW=>?_
 have:=gX axW
 subst this
 have hlen:=lX hV on keep hR
 have recv:∀m (os:List (List aj)) (v:Value) (L1:Cells) (zs:List aj),os.length=m→aA v 8 138 cY zs L1→(zs++os.flatten).Perm (db K on keep rows)→∀rest,
  TT (TM (nP Wg Ch iC cI) L (Good zT Post) 0 true os 0) (fr0 60 .normal) ([kE.rb].map .code++(.inLoop kE.rb::(.inBlock 2::(l10.map .code++[])))) (cl::PA) 35 [] ya (some ⟨.fin .normal,[(10,v),(25,.chan (some Ch))]++rest,[.l L1],⟨[],[]⟩⟩):=by
  intro m
  induction m with
  |zero=>
   intro os v L1 zs uB ho hp rest
   have uB:=List.eq_nil_of_length_eq_zero uB
   subst uB
   refine qF (hC _) aKA fun m1 hm1=>?_
   show TT _ _ (.inRegion kE.DI (0::[1])::_) _ _ _ _ _
   refine arn (E:=nP Wg Ch iC cI) (a:=kE.T9) (rc:= .tmp 25) (z:= zS) hl C1 W5 (by kernel_rfl) (by kernel_rfl) (fun ρ=>by kernel_rfl) (by decide) rfl (fun a' oo b' v' Y he _=>by simp at he) fun _=>?_
   refine wO av hT<|zD 2<|yM<|Yu hT (t:=false) (q:=false) hm1 rfl fun m2 GJ=>?_
   refine arq hT (k':=l10.map .code++[]) (by rw[rj];simp[exitTo]) ?_
   refine qF hT axX fun m3 hm3=>?_
   refine wO av hT<|zD 1 ?_
   have hp':zs.Perm (db K on keep rows):=by simpa using hp
   refine jc (vs:=[v,.func (.func 119) ⟨[]⟩ ⟨[]⟩]) [1] (Rh ho (by rw[hp'.length_eq];omega) ((adz hR).perm hp')) ?_
   rintro _ Y ⟨ys,hys,hoY⟩
   refine zD 1<|yM<|qF hT hm3 fun m4 hm4=>?_
   refine wO av hT<|zD 3<|yM<|arp hT hm4 fun m5 hm5=>?_
   refine aQN av hT (fn:=(Tryz.prog.funcs[60]?).getD default) v [] [0,1] (Y++((b7,.cells ⟨[.chan (some Ch)]⟩ 207 (0,0))::(b5,.cells ⟨[.func (.func g) ⟨fi⟩ ⟨ca⟩]⟩ 139 (0,0))::(b4,.cells ⟨[.int .u8 on]⟩ 111 (0,0))::(b3,.cells ⟨[pV f]⟩ 106 (0,0))::fr)) (by kernel_rfl)<|hT.mono _ ⟨ro,Y++fr⟩ _ (dY (J:=[(b7,.cells ⟨[.chan (some Ch)]⟩ 207 (0,0)),(b5,.cells ⟨[.func (.func g) ⟨fi⟩ ⟨ca⟩]⟩ 139 (0,0)),(b4,.cells ⟨[.int .u8 on]⟩ 111 (0,0)),(b3,.cells ⟨[pV f]⟩ 106 (0,0))]) ?_ (Sub.refl _)) (kr v _ ⟨v,Y,ys,rfl,rfl,hys.trans hp',hoY⟩)
   rw[List.append_assoc]
   exact .append_left _ (List.perm_append_comm (l₁:=[_,_,_,_]))
  |succ m ih=>
   intro os v L1 zs uB ho hp rest
   refine qF (hC _) aKA fun m1 hm1=>?_
   show TT _ _ (.inRegion kE.DI (0::[1])::_) _ _ _ _ _
   refine arn (E:=nP Wg Ch iC cI) (a:=kE.T9) (rc:= .tmp 25) (z:= zS) hl C1 W5 (by kernel_rfl) (by kernel_rfl) (fun ρ=>by kernel_rfl) (by decide) rfl (fun a' oo b' v' Y he oT=>?_) fun he=>by simp[he] at uB
   subst he
   have oT:aA v' 8 138 cY oo Y:=oT
   refine wO av (hC _)<|zD 2<|yM<|Yu (hC _) (t:=true) (q:=true) hm1 rfl fun m2 GJ=>?_
   refine arl (hC _)<|NQ (hC _) GJ fun m3 hm3=>?_
   have:=gX hm3
   subst this
   refine qF (hC _) aY4 fun m4 hm4=>?_
   refine wO av (hC _)<|zD 3<|yM<|qF (hC _) hm4 fun m5 hm5=>?_
   have:=gX hm5
   subst this
   refine wO av (hC _)<|zD 2 ?_
   have Us:((zs++oo)++(a'++b').flatten).Perm (db K on keep rows):=(akh a' oo b' zs).trans hp
   have hlz:zs.length+oo.length≤1250:=by
    have:=Us.length_eq
    simp only[List.length_append] at this
    omega
   refine BS (sz:=8) (ps:=zs) (qs:=oo) (enc:=cY) (w:=v') [1] [0] Y ho (fun s _ hZ=>oT.sl hZ) (fun p _=>bM rfl) (by omega) fun v23 L23 Ea=>zD 2<|yM<|ars (hC _) (aeX (hC _) ?_)
   exact tSt (hC _) [(10,v23),(25,.chan (some Ch))] [.l L23] [0] fun rest=>ih (a'++b') v23 L23 (zs++oo) (by simp at uB ⊢;omega) Ea Us rest
 refine tGe<|tSt (hC _) [(10,zS),(25,.chan (some Ch))] [.l []] [0] fun rest=>recv rows.length (gP K on keep rows rows.length) (zS) [] [] (zy _ _ _ _ _) (aA.nil _ _ _) (by simp[db]) rest
theorem ahv{rows:List bx}{on:Int}{keep:aj→Bool}(hV:fq K)(hF:p5 ro f K rows)(hR:rows.length≤2)(CY:C2 zT g=true)
 (iO:∀i r,rows[i]?=some r→∀aF,Sub ro aF→∀p∈aY K on,dG zT g (fi++[.agg ⟨cY (bI K r i p)⟩]++ca) aF (.bool (keep (bI K r i p)))):
 Be zT 60 [pV f,.int .u8 on,.func (.func g) ⟨fi⟩ ⟨ca⟩] ro [] (fun v Y=>∃zs,zs.Perm (db K on keep rows)∧aA v 8 138 cY zs Y):=
 fun fr=>Fn.mono (aFK (fr:=fr) hV hF hR CY iO) fun en s' ⟨v,Y,zs,h1,h2,h3,h4⟩=>⟨v,Y,h1,by rw[h2];exact St.le_refl _,zs,h3,h4⟩
theorem ZB{rows:List bx}{on:Int}(hV:fq K)(hF:p5 ro f K rows)(hR:rows.length≤2):
 Be zT 45 [pV f,.int .u8 on] ro [] (fun v Y=>∃zs,zs.Perm (db K on (bV K.gone K.new K.af) rows)∧aA v 8 138 cY zs Y):=by
 refine xk av [] [] bp fun fr=>zD 10<|GF (vs:=[pV f,.int .u8 on,.func (.func 98) ⟨[pV f]⟩ ⟨[]⟩]) [] (fun _ _ h=>h) (ahv (keep:=bV K.gone K.new K.af) hV hF hR (by kernel_rfl) fun i r hr aF hs p hp=>?_) ?_
 ·obtain⟨c0,c1,c2,vc,vh,vr,vb,va,vf,vt,hv,hf,_⟩:=hF.up hs
  exact ahr hf
 rintro v Y ⟨zs,hz,ho⟩
 refine zD 3<|Qd qC v [0,1] Y (Sub.refl _) ⟨zs,hz,ho⟩
theorem azR(h:0≤x∧x≤4):ju x 0 4=true:=by simp only[ju,Bool.and_eq_true,decide_eq_true_eq];omega
theorem agy:sN (bs [97]):=⟨by decide,.inl (by decide)⟩
def alz(ro:Nat→Option Obj)(v:Value)(W:List (List Int)):Prop:=∃ws,bJ ro v 1 gL ws∧dc (fun w l=>bJ ro w 1 aS l) ws W
def rG(ro:Nat→Option Obj)(l:List Value)(W:List (List Int)):Prop:=∀aJ,Sub ro aJ→ee zT 55 [.agg ⟨l.take 3⟩] aJ [] (fun r Y=>∃a n c,r= .tuple ⟨[.slice a n c,zI 0]⟩∧n=W.length∧∀k7,Knows k7 Y→alz k7 (.slice a n c) W)
theorem awo(hK:fO ro l K)(hO:kg K)(hV:fq K)(hW:1≤W.length∧W.length≤4)(h76:rG ro l W):ee zT 88 [.agg ⟨l⟩] ro [] (fun r Y=>∃a n c,r= .slice a n c∧n=W.length∧∀k7,Knows k7 Y→alz k7 r W):=by
 have hK0:=hK
 obtain⟨vS,vT,vc,vh,vr,vb,va,vf,fa,fc,hv,rfl,hS,hT,py,kz,hr,hb,ha,hf⟩:=hK
 obtain⟨jF,hs,fP⟩:=id hS
 obtain⟨iZ,ht,fF⟩:=id hT
 obtain⟨hc,hh,Ix⟩:=id py
 have wG:=hr
 have wA:=hb
 have ha0:=ha
 have hf0:=hf
 obtain⟨mV,VG,VE,mo,rfl,VF,Qa,P9⟩:=hs
 obtain⟨fx,BA,By,ez,rfl,Bz,tx,tw⟩:=ht
 obtain⟨dF,Ak,Aj,dB,rfl,CQ,yP,yO⟩:=hc
 obtain⟨di,uQ,uP,cP,rfl,wF,pM,pK⟩:=hh
 obtain⟨iI,Gu,Gt,iH,rfl,JI,FL,FK⟩:=hr
 obtain⟨nJ,YY,YV,nE,rfl,YW,VI,VH⟩:=hb
 obtain⟨nF,VL,VJ,nB,rfl,VK,Ul,Uk⟩:=ha
 obtain⟨lP,JK,JJ,kO,rfl,N6,CN,CM⟩:=hf
 have Fe:=hO.rules
 have rO:=hO.before.1
 have SR:=hO.after.1
 have SQ:=hO.facts.1
 have SP:=hO.ways.1
 have KD:=fP.len
 have GK:=fF.len
 have hl8:=hO.qM.two
 have hl9:=hO.cR.nh
 have Ui:∀(i:Nat) (p:eN),([]:List eN)[i]?=some p→cK ⟨ro,[]⟩ 0 (0+i*6) 6 (pe p):=fun _ _ h=>p8 h
 have hgl:=hO.Az
 refine zE<|zD 2<|jn fun b1=>jd 6 [0]<|jc (vs:=[.agg ⟨[.slice mV jF.length mo,.slice fx iZ.length ez,.slice fa 0 fc]⟩]) [] (h76 _ (Sub.refl _)) ?_
 rintro _ Y10 ⟨a10,n10,c10,rfl,aVi,ah3⟩
 refine zD 9<|jp (vs:=[zI 0]) [] [] (fun aJ hs hZ=>BR)<|zD 10<|zJ 15 ((n10:Int)=0) (fun h1=>?_) fun h1=>?_
 ·
  exfalso;omega
 refine zD 8<|zJ 20 ((n10:Int)>4) (fun h2=>?_) fun h2=>?_
 ·
  exfalso;omega
 refine jd 6 [1]<|jp (vs:=[.agg ⟨[.slice dF K.cs.length dB,.slice di hv.length cP]⟩]) [] [] (fun aJ hs hZ=>auw (py.up hs) kz hV.cR)<|jp (vs:=[zI 0]) [] [] (fun aJ hs hZ=>BR)<|jd 5 [1]<|jp (vs:=[.slice iI K.rules.length iH,.string (bs [97]),.string (bs [97])]) [] [] (fun aJ hs hZ=>BJ (wG.up hs) hV.rules.2 hV.rules.1 agy agy)<|zD 8<|jp (vs:=[zI 0]) [] [] (fun aJ hs hZ=>BR)<|jd 6 [1,1]<|jp (vs:=[.agg ⟨[.slice mV jF.length mo,.slice fx iZ.length ez,.slice fa 0 fc,.slice dF K.cs.length dB,.slice di hv.length cP,.slice iI K.rules.length iH,.slice nJ K.before.length nE,.slice nF K.after.length nB,zI K.gone,zI K.new,zI K.af,.slice lP K.facts.length kO]⟩,.slice nJ K.before.length nE,.bool true]) [] [] (fun aJ hs hZ=>ahm (hK0.up hs) hO (wA.up hs))<|jp (vs:=[zI 0]) [] [] (fun aJ hs hZ=>BR)<|jd 6 [1,1]<|jp (vs:=[.agg ⟨[.slice mV jF.length mo,.slice fx iZ.length ez,.slice fa 0 fc,.slice dF K.cs.length dB,.slice di hv.length cP,.slice iI K.rules.length iH,.slice nJ K.before.length nE,.slice nF K.after.length nB,zI K.gone,zI K.new,zI K.af,.slice lP K.facts.length kO]⟩,.slice nF K.after.length nB,.bool false]) [] [] (fun aJ hs hZ=>ahn (hK0.up hs) hO (ha0.up hs))<|jp (vs:=[zI 0]) [] [] (fun aJ hs hZ=>BR)<|jd 6 [1]<|jp (vs:=[zI K.gone,zI 0,zI 4]) [] [] (fun aJ hs hZ=>fJ)<|zD 2<|jj 5 [(1,zP b1),(2,zS),(3,.slice a10 n10 c10),(56,.bool ((!(ju K.gone 0 4))||(!(ju K.new 0 4))))] (fun fA=>?_) (fun hj=>?_)
 rotate_left
 refine js 51 (!(ju K.gone 0 4)) (fun h3=>?_) (fun h3=>?_)
 ·
  have uf:=h3
  try simp only[zB] at uf
  refine zD 5<|jw 56 (.bool ((!(ju K.gone 0 4))||(!(ju K.new 0 4)))) (w:= .bool true) (by rw[h3]<;>rfl) ?_
  exact zK hj
 ·
  have uf:=h3
  try simp only[zB] at uf
  refine jd 2 [1]<|jp (vs:=[zI K.new,zI 0,zI 4]) [] [] (fun aJ hs hZ=>fJ)<|zD 2<|jw 56 (.bool ((!(ju K.gone 0 4))||(!(ju K.new 0 4)))) (w:= .bool (!(ju K.new 0 4))) (by rw[h3]<;>rfl) ?_
  exact zK hj
 refine zD 1<|jj 5 [(1,zP b1),(2,zS),(3,.slice a10 n10 c10),(62,.bool (((!(ju K.gone 0 4))||(!(ju K.new 0 4)))||(!(ju K.af 0 4))))] (fun fA=>?_) (fun hj=>?_)
 rotate_left
 refine js 57 ((!(ju K.gone 0 4))||(!(ju K.new 0 4))) (fun h4=>?_) (fun h4=>?_)
 ·
  have zk:=h4
  try simp only[zB] at zk
  refine zD 5<|jw 62 (.bool (((!(ju K.gone 0 4))||(!(ju K.new 0 4)))||(!(ju K.af 0 4)))) (w:= .bool true) (by rw[h4]<;>rfl) ?_
  exact zK hj
 ·
  have zk:=h4
  try simp only[zB] at zk
  refine jd 2 [1]<|jp (vs:=[zI K.af,zI 0,zI 4]) [] [] (fun aJ hs hZ=>fJ)<|zD 2<|jw 62 (.bool (((!(ju K.gone 0 4))||(!(ju K.new 0 4)))||(!(ju K.af 0 4)))) (w:= .bool (!(ju K.af 0 4))) (by rw[h4]<;>rfl) ?_
  exact zK hj
 refine zD 1<|js 62 (((!(ju K.gone 0 4))||(!(ju K.new 0 4)))||(!(ju K.af 0 4))) (fun h5=>?_) (fun h5=>?_)
 ·
  try simp only[zB] at h5
  exfalso;simp[azR hgl.1,azR hgl.2.1,azR hgl.2.2] at h5
 try simp only[zB] at h5
 refine jd 10 [1]<|zJ 67 ((K.facts.length:Int)>4) (fun h6=>?_) fun h6=>?_
 ·
  exfalso;omega
 refine jd 11 [1]<|dH [1,1,1,1,1,1,1,1,1,1,1,0,1,0,0] [] (fun(zz:Nat)=>[(1,zP b1),(2,zS),(3,.slice a10 n10 c10),(70,.slice lP K.facts.length kO),(71,zI (K.facts.length:Int)),(72,zI (zz:Int))]) (fun zz=>[.b b1 (.cells ⟨[.slice mV jF.length mo,.slice fx iZ.length ez,.slice fa 0 fc,.slice dF K.cs.length dB,.slice di hv.length cP,.slice iI K.rules.length iH,.slice nJ K.before.length nE,.slice nF K.after.length nB,zI K.gone,zI K.new,zI K.af,.slice lP K.facts.length kO]⟩ 38 (0,0)),.l Y10]) (fun zz=>zz≤K.facts.length) (fun zz=>K.facts.length-zz) 0 (by omega) [1,0] ?_
 rintro k hI K1 bP rest
 refine zD 5<|zJ 73 ((k:Int) <(K.facts.length:Int)) (fun h7=>?_) fun h7=>?_
 ·
  refine zD 7 ?_
  obtain⟨x75,Wk⟩:=zG K.facts k
  refine fK kO 3 CN Wk<|jl 0 (CM _ _ Wk)<|jn fun b6=>jd 8 [0,1,1]<|jcH (hi:=(k:Int)) (show bJ _ _ _ _ _ from ⟨lP,JK,JJ,kO,rfl,N6,CN,CM⟩) (by omega) (fun v81 aUx=>?_)
  obtain⟨arB,aDD,aDz,arA,rfl,aDB,aDC,aDA⟩:=aUx
  refine jd 1 [0]<|jp (vs:=[.agg ⟨[.slice mV jF.length mo,.slice fx iZ.length ez,.slice fa 0 fc,.slice dF K.cs.length dB,.slice di hv.length cP,.slice iI K.rules.length iH,.slice nJ K.before.length nE,.slice nF K.after.length nB,zI K.gone,zI K.new,zI K.af,.slice lP K.facts.length kO]⟩,.slice arB ((((K.facts).take (k:Int).toNat)).length) arA,.agg ⟨[zI x75.a,zI x75.b,.bool x75.same]⟩]) [] [] (fun aJ hs hZ=>aFJ (hK0.up hs) hO ((show bJ _ _ _ _ _ from ⟨arB,aDD,aDz,arA,rfl,aDB,aDC,aDA⟩).up hs) (by simp only[List.length_take,List.length_drop];omega) (hO.facts.2 _ (zL Wk)) (akp hO.apart Wk)) ?_
  refine jp (vs:=[zI 0]) [] [] (fun aJ hs hZ=>BR)<|zD 2<|zW ((k:Int)+1)<|zD 2<|zY bP (k+1) (by omega) [1,2]
 refine zD 8<|zR (.slice a10 n10 c10) [] [1] Y10 ⟨_,_,_,rfl,aVi,ah3⟩
def gE(ro:Nat→Option Obj)(l:List Value)(K:aE)(rows:List bx):Prop:=∀aJ,Sub ro aJ→ee zT 40 [.agg ⟨l⟩] aJ [] (fun r Y=>∃f,r= .tuple ⟨[pV f,zI 0]⟩∧∀k7,Sub aJ k7→Knows k7 Y→p5 k7 f K rows)
def bw(K:aE):Int:=IntKind.u8.wrap (dZ .u8 1 (K.facts.length:Int)-1)
theorem Sj{rows:List bx}(hV:fq K)(hF:p5 ro f K rows):dG zT 46 [pV f] ro (.int .u8 (bw K)):=by
 obtain⟨c0,c1,c2,vc,vh,vr,vb,va,vf,vt,hv,hf,py,kz,hr,yY,B6,Eg,cg⟩:=hF
 exact aTo Eg hf (by have:=hV.facts.1;omega)
theorem ahg{rows:List bx}(hK:fO ro l K)(hV:fq K)(hR:rows.length≤2)(hB:gE ro l K rows):
 Be zT 10 [.agg ⟨l⟩] ro [] (fun r Y=>r= .tuple ⟨[zI ((db K (bw K) (bV K.gone K.new K.af) rows).length:Int),zI 0]⟩∧Y=[]):=by
 obtain⟨v0,v1,v3,v4,v5,v6,v7,vb,fa,fc,hv,rfl,_⟩:=hK
 refine xk av [] [] bp fun fr=>zD 2<|jn fun b1=>jd 6 [0]<|jc (vs:=[Value.agg ⟨[v0,v1,.slice fa 0 fc,v3,v4,v5,v6,v7,zI K.gone,zI K.new,zI K.af,vb]⟩]) [] (hB _ (Sub.refl _)) ?_
 rintro _ Y ⟨f,rfl,hF⟩
 refine jf [0] Y (fun aJ hs hk=>?_)
 have F7:=hF aJ hs hk
 refine zD 18<|jp (vs:=[pV f]) [] [] (fun ya JN hZ=>Sj hV (F7.up JN))<|GF (vs:=[pV f,.int .u8 (bw K)]) [] (fun _ _ h=>h) (ZB hV F7 hR) ?_
 rintro v Y2 ⟨zs,hz,ho⟩
 obtain⟨a,c,rfl⟩:=ho.form
 refine zD 5<|Qd qC.a (.tuple ⟨[zI (zs.length:Int),zI 0]⟩) [2] [] hs ⟨by rw[hz.length_eq],rfl⟩
theorem fR{on:Int}{keep:aj→Bool}{rows:List bx}{x:aj}(h:x∈db K on keep rows):∃i r p,rows[i]?=some r∧p∈aY K on∧x=bI K r i p∧keep x=true:=by
 obtain⟨l,hl,hx⟩:=List.mem_flatten.1 h
 obtain⟨i,hi,rfl⟩:=List.mem_map.1 hl
 have hi:=List.mem_range.1 hi
 obtain⟨h1,h2⟩:=List.mem_filter.1 hx
 obtain⟨p,hp,rfl⟩:=List.mem_map.1 h1
 rw[List.getElem?_eq_getElem hi] at h2 ⊢
 exact⟨i,rows[i],p,List.getElem?_eq_getElem hi,hp,rfl,h2⟩
theorem Zn(r:bx)(p:Nat→Int):∀k,0≤pP r p k∧pP r p k≤k
 |0=>by simp[pP]
 |k+1=>by
  have:=Zn r p k
  simp only[pP]
  cases decide (p k>0)&& !r.c k (p k-1).toNat with
  |true=>simp only[cond_true];omega
  |false=>simp only[cond_false];omega
theorem ld(hV:fq K)(r:bx)(i:Nat)(p:Nat→Int):(-4≤(bI K r i p).gone∧(bI K r i p).gone≤4)∧(-4≤(bI K r i p).new∧(bI K r i p).new≤4)∧(0≤(bI K r i p).af∧(bI K r i p).af≤4):=by
 have h1:=Za p
 have h2:=Zn r p 4
 have h3:=hV.before.1
 have h4:=hV.after.1
 simp only[bI]
 omega
def nC(x:aj):Int:=x.gone+x.new+x.af
theorem awi{rows:List bx}(hK:fO ro l K)(hV:fq K)(hR:rows.length≤2)(hB:gE ro l K rows):Be zT 16 [.agg ⟨l⟩] ro [] (fun r Y=>∃zs,zs.Perm (db K (bw K) (fun _=>true) rows)∧Y=[]∧((zs=[]∧r= .tuple ⟨[zI 0,zI 9]⟩)∨(zs≠[]∧r= .tuple ⟨[zI (iB (zs.map nC)),zI 0]⟩))):=by
 obtain⟨v0,v1,v3,v4,v5,v6,v7,vb,fa,fc,hv,rfl,_⟩:=hK
 refine xk av [] [] bp fun fr=>zD 2<|jn fun b1=>jd 6 [0]<|jc (vs:=[.agg ⟨[v0,v1,.slice fa 0 fc,v3,v4,v5,v6,v7,zI K.gone,zI K.new,zI K.af,vb]⟩]) [] (hB _ (Sub.refl _)) ?_
 rintro _ Y12 ⟨f12,rfl,azc⟩
 refine zD 5<|jf [0] Y12 (fun ya cu iX=>?_)
 have F7:=azc _ cu iX
 refine zD 13<|jp (vs:=[zP f12]) [] [] (fun aJ hs hZ=>Sj hV (F7.up hs))<|GF (vs:=[zP f12,.int .u8 (bw K),.func (.func 61) ⟨[]⟩ ⟨[]⟩]) [] (fun _ _ h=>h) (ahv (keep:=fun _=>true) hV F7 hR (by kernel_rfl) (fun i r hr aF hs p hp=>aoH)) ?_
 rintro v21 Y21 ⟨zs,aoV,aGR⟩
 have KA:∀x∈zs,(-4≤x.gone∧x.gone≤4)∧(-4≤x.new∧x.new≤4)∧(0≤x.af∧x.af≤4):=fun x hx=>by obtain⟨i,r,p,_,_,rfl,_⟩:=fR (aoV.mem_iff.1 hx);exact ld hV r i p
 have Wh:zs.length≤1250:=by rw[aoV.length_eq];exact lX hV _ _ hR
 refine zD 6<|FP aGR<|zD 1<|jf [0] Y21 (fun ro6 kX Z6=>?_)
 have WY:=aGR.jR Z6
 obtain⟨pN,Hu,Hs,mY,rfl,Ht,An,Am⟩:=WY
 refine zD 1<|zJ 24 ((zs.length:Int)=0) (fun h7=>?_) fun h7=>?_
 ·
  refine zD 7<|Qd qC.a.a (.tuple ⟨[zI 0,zI 9]⟩) [1] [] (cu.trans kX) ⟨zs,aoV,rfl,.inl ⟨List.eq_nil_of_length_eq_zero (by omega),rfl⟩⟩
 refine zD 14<|my<|dH [1,1,1,1,1,1,0,1,0,0] [] (fun(zz:Nat×Value×Cells)=>[(2,zI 0),(3,zI 0),(7,zz.2.1),(25,.slice pN zs.length mY),(26,zI (zs.length:Int)),(27,zI (zz.1:Int))]) (fun zz=>[.l zz.2.2,.b b1 (.cells ⟨[v0,v1,.slice fa 0 fc,v3,v4,v5,v6,v7,zI K.gone,zI K.new,zI K.af,vb]⟩ 38 (0,0)),.l fr]) (fun zz=>zz.1≤zs.length∧aA zz.2.1 1 3 aS ((zs.take zz.1).map nC) zz.2.2) (fun zz=>zs.length-zz.1) (⟨0,zS,[]⟩) ⟨by dsimp only;omega,aA.nil _ _ _⟩ [0,1,2] ?_
 rintro⟨k,vS,LS⟩ hI K1 bP rest
 dsimp only at hI
 refine zD 5<|zJ 28 ((k:Int) <(zs.length:Int)) (fun h8=>?_) fun h8=>?_
 ·
  refine zD 6 ?_
  obtain⟨ND,BV⟩:=zG zs k
  refine fK mY 8 An BV<|jl 0 (Am _ _ BV)<|jn fun b9=>jd 2 [0] ?_
  have hg:=KA _ (zL BV)
  refine jd 6 [0,0]<|zW (ND.gone+ND.new)<|jd 2 [0]<|zW ((ND.gone+ND.new)+ND.af)<|jn fun xR=>cH aS xR ((ND.gone+ND.new)+ND.af) 2 0 hI.2 rfl rfl (by simp only[List.length_map,List.length_take];omega) (fun at1 atO L41 axn=>?_)
  refine zD 3<|zW ((k:Int)+1)<|zD 2<|zF bP (⟨k+1,(.slice at1 ((((zs.take k).map nC)++[((ND.gone+ND.new)+ND.af)])).length atO),L41⟩) (by rw[gH BV,List.map_append];exact axn) [0,3,4]
 refine zD 5<|jp (vs:=[vS]) [0] LS (fun aJ hs hZ=>ZC (hI.2.jR hZ) ⟨by simp only[List.length_map,List.length_take];omega,by simp only[List.length_map,List.length_take];omega⟩) ?_
 refine zD 5<|Qd qC.a.a (.tuple ⟨[zI (iB ((zs.take k).map nC)),zI 0]⟩) [2] [] (cu.trans kX) ⟨zs,aoV,rfl,.inr ⟨fun e=>by subst e;simp at*,by rw[show k=zs.length by omega,List.take_length]⟩⟩
def baK(ro:Nat→Option Obj)(f:Nat)(l:List Value)(rows:List bx):Prop:=∃vt,ro f=some (.cells ⟨l++[vt]⟩ 165 (0,0))∧bJ ro vt 16 Ew rows
def Co(ways:List (List aO))(w:List Int):List (List aO):=List.zipWith (fun l n=>(l.take (n.toNat+1)).drop n.toNat) ways w
theorem aqf{w:List Int}{l:List aO}{n:Int}(h1:ways[k]?=some l) (h2:w[k]?=some n):(Co ways w)[k]?=some ((l.take (n.toNat+1)).drop n.toNat):=by
 simp only[Co,List.getElem?_zipWith,h1,h2]
def lG(K:aE)(rN:List Int→aI→List ak)(w:List Int):bx:=⟨fun i j=>match K.before[i]?,K.after[j]? with
 |some x,some y=>decide (bS (oO y.st y.no 0) (rN w x) 0≥0)
 |_,_=>false⟩
def Gh(F:Nat→Nat→Bool)(i j:Nat)(r:bx):Prop:=∀x y,r.c x y=((decide (x <i)||(decide (x=i)&&decide (y <j)))&&F x y)
theorem Gh.set{r:bx}(h:Gh F i j r):Gh F i (j+1) (jH r i j (F i j)):=fun x y=>by
 simp only[jH]
 split
 ·rename_i hx;obtain⟨rfl,rfl⟩:=hx;simp
 rename_i hx
 rw[h x y]
 congr 2
 by_cases e:x=i
 ·subst e
  have:y≠j:=fun e2=>hx ⟨rfl,e2⟩
  simp only[decide_true,Bool.true_and]
  congr 1
  exact propext (by omega)
 simp[e]
theorem Gh.nxt{r:bx}(hF:∀x y,n≤y→F x y=false)(h:Gh F i n r):Gh F (i+1) 0 r:=fun x y=>by
 rw[h x y]
 by_cases hy:y <n
 ·congr 1
  simp only[hy,decide_true,Bool.and_true,Nat.not_lt_zero,decide_false,Bool.and_false,Bool.or_false]
  rw[Bool.eq_iff_iff];simp;omega
 rw[hF x y (by omega)];simp
theorem Gh.fin{r:bx}(hF:∀x y,n≤x→F x y=false)(h:Gh F n 0 r):r=⟨F⟩:=by
 rcases r with ⟨c⟩
 congr 1
 funext x y
 have:=h x y
 dsimp only at this
 rw[this]
 by_cases hx:x <n
 ·simp[hx]
 rw[hF x y (by omega)];simp
theorem auJ{rN:List Int→aI→List ak}{w:List Int}(x y:Nat)(h:K.before.length≤x):(lG K rN w).c x y=false:=by simp only[lG,List.getElem?_eq_none h]
theorem auI{rN:List Int→aI→List ak}{w:List Int}(x y:Nat)(h:K.after.length≤y):(lG K rN w).c x y=false:=by
 simp only[lG,List.getElem?_eq_none h]
 split
 ·rename_i h1;cases h1
 rfl
structure XZ(K:aE)(W:List (List Int)):Prop where
 n:1≤W.length∧W.length≤2
 len:∀w∈W,w.length=K.ways.length
 rng:∀w∈W,∀(k:Nat) (l:List aO) (n:Int),K.ways[k]?=some l→w[k]?=some n→0≤n∧n <l.length
def yI(ro:Nat→Option Obj)(l:List Value)(K:aE)(W:List (List Int))(rN:List Int→aI→List ak):Prop:=∀w∈W,∀x∈K.before,(rN w x).length≤1000∧∀aJ,Sub ro aJ→∀v vS vT vU r,l=vS::vT::vU::r→oz aJ v (Co K.ways w)→
 ee zT 89 [.agg ⟨[vS,v,vU]⟩,.agg ⟨[zI x.st,zI x.no,zI 0]⟩] aJ [] (fun r Y=>∃a n c,r= .tuple ⟨[.slice a n c,zI 0]⟩∧∀k7,Knows k7 Y→bJ k7 (.slice a n c) 3 bY (rN w x))
theorem awp{rN:List Int→aI→List ak}(hK:fO ro l K)(hO:kg K)(hV:fq K)(hW:XZ K W)(h76:rG ro l W)(h47:yI ro l K W rN):ee zT 40 [.agg ⟨l⟩] ro [] (fun r Y=>∃f,r= .tuple ⟨[pV f,zI 0]⟩∧∀k7,Sub ro k7→Knows k7 Y→p5 k7 f K (W.map (lG K rN))∧baK k7 f l (W.map (lG K rN))):=by
 have hK0:=hK
 obtain⟨vS,vT,vc,vh,vr,vb,va,vf,fa,fc,hv,rfl,hS,hT,py,kz,hr,hb,ha,hf⟩:=hK
 obtain⟨jF,hs,fP⟩:=id hS
 obtain⟨iZ,ht,fF⟩:=id hT
 obtain⟨hc,hh,Ix⟩:=id py
 have wG:=hr
 have wA:=hb
 have ha0:=ha
 have hf0:=hf
 obtain⟨mV,VG,VE,mo,rfl,VF,Qa,P9⟩:=hs
 obtain⟨fx,BA,By,ez,rfl,Bz,tx,tw⟩:=ht
 obtain⟨dF,Ak,Aj,dB,rfl,CQ,yP,yO⟩:=hc
 obtain⟨di,uQ,uP,cP,rfl,wF,pM,pK⟩:=hh
 obtain⟨iI,Gu,Gt,iH,rfl,JI,FL,FK⟩:=hr
 obtain⟨nJ,YY,YV,nE,rfl,YW,VI,VH⟩:=hb
 obtain⟨nF,VL,VJ,nB,rfl,VK,Ul,Uk⟩:=ha
 obtain⟨lP,JK,JJ,kO,rfl,N6,CN,CM⟩:=hf
 have Fe:=hO.rules
 have rO:=hO.before.1
 have SR:=hO.after.1
 have SQ:=hO.facts.1
 have SP:=hO.ways.1
 have KD:=fP.len
 have GK:=fF.len
 have hl8:=hO.qM.two
 have hl9:=hO.cR.nh
 have Ui:∀(i:Nat) (p:eN),([]:List eN)[i]?=some p→cK ⟨ro,[]⟩ 0 (0+i*6) 6 (pe p):=fun _ _ h=>p8 h
 have hWn:=hW.n
 refine aTr av 87 [] [] bp<|zD 2<|jn fun b1=>jn fun b2=>jn fun b3=>zD 4<|jdf (f:=87) (ca:=[zP b2,zP b3])<|jd 5 [2]<|jn fun J8=>jd 6 [2,3]<|jc (vs:=[.agg ⟨[.slice mV jF.length mo,.slice fx iZ.length ez,.slice fa 0 fc,.slice dF K.cs.length dB,.slice di hv.length cP,.slice iI K.rules.length iH,.slice nJ K.before.length nE,.slice nF K.after.length nB,zI K.gone,zI K.new,zI K.af,.slice lP K.facts.length kO]⟩]) [] (awo hK0 hO hV ⟨hW.n.1,by have:=hW.n.2;omega⟩ h76) ?_
 rintro _ Y21 ⟨a21,n21,c21,rfl,bj1,ao0⟩
 refine zD 2<|jf [0] Y21 (fun ya cu iX=>?_)
 obtain⟨wsW,hWs,asC⟩:=ao0 _ iX
 obtain⟨qWa,qWb,qWo,qWc,heW,qWk,qWh,qWl⟩:=hWs
 simp only[Value.slice.injEq] at heW
 obtain⟨rfl,rfl,rfl⟩:=heW
 have hlW:=asC.len
 refine zD 2<|my<|dH [1,1,1,0,1,0,0] [] (fun(zz:Nat×Value×Cells)=>[(1,zP b1),(2,zP b2),(3,zP b3),(21,.slice a21 wsW.length c21),(22,zI (wsW.length:Int)),(23,zI (zz.1:Int))]) (fun zz=>[.l zz.2.2,.b J8 (.cells ⟨[.slice mV jF.length mo,.slice fx iZ.length ez,.slice fa 0 fc,.slice dF K.cs.length dB,.slice di hv.length cP,.slice iI K.rules.length iH,.slice nJ K.before.length nE,.slice nF K.after.length nB,zI K.gone,zI K.new,zI K.af,.slice lP K.facts.length kO,zz.2.1]⟩ 165 (0,0)),.b b1 (.cells ⟨[.slice mV jF.length mo,.slice fx iZ.length ez,.slice fa 0 fc,.slice dF K.cs.length dB,.slice di hv.length cP,.slice iI K.rules.length iH,.slice nJ K.before.length nE,.slice nF K.after.length nB,zI K.gone,zI K.new,zI K.af,.slice lP K.facts.length kO]⟩ 38 (0,0)),.b b2 (.cells ⟨[zP J8]⟩ 106 (0,0)),.b b3 (.cells ⟨[zI 0]⟩ 42 (0,0))]) (fun zz=>zz.1≤wsW.length∧aA zz.2.1 16 162 Ew ((W.take zz.1).map (lG K rN)) zz.2.2) (fun zz=>wsW.length-zz.1) (⟨0,zS,[]⟩) ⟨by dsimp only;omega,aA.nil _ _ _⟩ [0,1,4,3,2] ?_
 rintro⟨k,vR,LR⟩ hI K1 bP rest
 dsimp only at hI
 refine zD 5<|zJ 24 ((k:Int) <(wsW.length:Int)) (fun h4=>?_) fun h4=>?_
 ·
  refine zD 6 ?_
  obtain⟨sS,jU⟩:=zG wsW k
  refine fK c21 1 qWh jU ?_
  obtain⟨xg,aHn,Td⟩:=asC.get jU
  obtain⟨aSj,bh0,bhY,aEe,rfl,bhZ,aSi,aSh⟩:=Td
  refine jl 0 (qWl _ _ jU)<|zD 3 ?_
  have hwm:=zL aHn
  have hwl:=hW.len _ hwm
  refine jd 8 [2,2]<|jn fun b6=>jd 10 [0]<|my<|dH [1,1,1,0,1,0,0,1,1,0,0,1,1,0,1,0,0] [K1] (fun(zz:Nat×Value×Cells×(List Value))=>[(1,zP b1),(2,zP b2),(3,zP b3),(6,zP b6),(21,.slice a21 wsW.length c21),(22,zI (wsW.length:Int)),(23,zI (k:Int)),(34,.slice aSj xg.length aEe),(35,zI (xg.length:Int)),(36,zI (zz.1:Int))]) (fun zz=>[.l zz.2.2.1,.b b6 (.cells ⟨[.slice mV jF.length mo,zz.2.1,.slice fa 0 fc]⟩ 29 (0,0)),.l LR,.b J8 (.cells ⟨[.slice mV jF.length mo,.slice fx iZ.length ez,.slice fa 0 fc,.slice dF K.cs.length dB,.slice di hv.length cP,.slice iI K.rules.length iH,.slice nJ K.before.length nE,.slice nF K.after.length nB,zI K.gone,zI K.new,zI K.af,.slice lP K.facts.length kO,vR]⟩ 165 (0,0)),.b b1 (.cells ⟨[.slice mV jF.length mo,.slice fx iZ.length ez,.slice fa 0 fc,.slice dF K.cs.length dB,.slice di hv.length cP,.slice iI K.rules.length iH,.slice nJ K.before.length nE,.slice nF K.after.length nB,zI K.gone,zI K.new,zI K.af,.slice lP K.facts.length kO]⟩ 38 (0,0)),.b b2 (.cells ⟨[zP J8]⟩ 106 (0,0)),.b b3 (.cells ⟨[zI 0]⟩ 42 (0,0))]) (fun zz=>(zz.1≤xg.length∧zz.2.2.2.length=zz.1)∧aA zz.2.1 1 89 gL zz.2.2.2 zz.2.2.1∧dc (fun w l=>bJ ya w 7 lq l) zz.2.2.2 ((Co K.ways xg).take zz.1)) (fun zz=>xg.length-zz.1) (⟨0,zS,[],[]⟩) ⟨⟨by dsimp only;omega,rfl⟩,aA.nil _ _ _,(by simp only[List.take_zero];exact dc.nil)⟩ (zN 0 7) ?_
  rintro⟨j,vT,LT,es⟩ hJ K2 lL rest
  dsimp only at hJ
  refine zD 5<|zJ 37 ((j:Int) <(xg.length:Int)) (fun h5=>?_) fun h5=>?_
  ·
   refine zD 7 ?_
   obtain⟨P6,yS⟩:=zG xg j
   refine fK aEe 1 aSi yS<|jl 0 (aSh _ _ yS)<|jd 10 [1,4] ?_
   obtain⟨x47,Wl⟩:=zG iZ j
   refine fK ez 1 tx Wl<|zD 1 ?_
   obtain⟨l49,axR,h49⟩:=fF.get Wl
   obtain hwr:=hW.rng _ hwm _ _ _ axR yS
   obtain bj8:=(hO.ways.2 _ (zL axR)).1.2
   obtain⟨aR3,aR2,aRX,aR1,rfl,aRZ,aR0,aRY⟩:=h49
   refine jl 0 ((tw _ _ Wl).ext (gD cu))<|zD 2<|zW (P6+1)<|jcB (lo:=P6) (hi:=(P6+1)) ((show bJ _ _ _ _ _ from ⟨aR3,aR2,aRX,aR1,rfl,aRZ,aR0,aRY⟩).up cu) (by omega) (fun v53 xp=>?_)
   obtain⟨YU,aDI,aDE,YT,rfl,aDG,aDH,aDF⟩:=xp
   refine zD 1<|aP 14 fun tA tH q5=>jn fun b55=>dW q5 (zN 1 7)<|aP 15 fun sR sX qZ=>cH gL b55 (.slice YU (((((l49).take (P6+1).toNat).drop P6.toNat)).length) YT:Value) 1 0 hJ.2.1 rfl rfl (by omega) fun QE QB L56 AH=>eW qZ [[],[5]]<|zD 1<|aP 17 fun Bg Br B7=>jd 1 [2]<|eB B7<|zD 2<|zW ((j:Int)+1)<|zD 2<|zY lL (⟨j+1,(.slice QE ((es++[(.slice YU (((((l49).take (P6+1).toNat).drop P6.toNat)).length) YT:Value)])).length QB),L56,(es++[(.slice YU (((((l49).take (P6+1).toNat).drop P6.toNat)).length) YT:Value)])⟩) ⟨⟨by dsimp only;omega,by simp only[zM];omega⟩,AH,by rw[gH (aqf axR yS)];exact hJ.2.2.snoc (by rw[show P6.toNat+1=(P6+1).toNat by omega];exact⟨YU,aDI,aDE,YT,rfl,aDG,aDH,aDF⟩)⟩ [0,2,3,4,5,6,7]
  refine zD 3 ?_
  have hS6:dc (fun w l=>bJ ya w 7 lq l) es (Co K.ways xg):=by have:=hJ.2.2;rwa[List.take_of_length_le (by simp only[Co,List.length_zipWith];omega)] at this
  refine zD 1<|jn fun b9=>jd 10 [5]<|dH [1,1,1,0,1,0,0,1,1,0,0,1,1,1,1,0,1,0,0] [K1] (fun(zz:Nat×bx)=>[(1,zP b1),(2,zP b2),(3,zP b3),(6,zP b6),(9,zP b9),(21,.slice a21 wsW.length c21),(22,zI (wsW.length:Int)),(23,zI (k:Int)),(60,.slice nJ K.before.length nE),(61,zI (K.before.length:Int)),(62,zI (zz.1:Int))]) (fun zz=>[.b b9 (.cells ⟨[.bool (zz.2.c 0 0),.bool (zz.2.c 0 1),.bool (zz.2.c 0 2),.bool (zz.2.c 0 3),.bool (zz.2.c 1 0),.bool (zz.2.c 1 1),.bool (zz.2.c 1 2),.bool (zz.2.c 1 3),.bool (zz.2.c 2 0),.bool (zz.2.c 2 1),.bool (zz.2.c 2 2),.bool (zz.2.c 2 3),.bool (zz.2.c 3 0),.bool (zz.2.c 3 1),.bool (zz.2.c 3 2),.bool (zz.2.c 3 3)]⟩ 162 (0,0)),.l LT,.b b6 (.cells ⟨[.slice mV jF.length mo,vT,.slice fa 0 fc]⟩ 29 (0,0)),.l LR,.b J8 (.cells ⟨[.slice mV jF.length mo,.slice fx iZ.length ez,.slice fa 0 fc,.slice dF K.cs.length dB,.slice di hv.length cP,.slice iI K.rules.length iH,.slice nJ K.before.length nE,.slice nF K.after.length nB,zI K.gone,zI K.new,zI K.af,.slice lP K.facts.length kO,vR]⟩ 165 (0,0)),.b b1 (.cells ⟨[.slice mV jF.length mo,.slice fx iZ.length ez,.slice fa 0 fc,.slice dF K.cs.length dB,.slice di hv.length cP,.slice iI K.rules.length iH,.slice nJ K.before.length nE,.slice nF K.after.length nB,zI K.gone,zI K.new,zI K.af,.slice lP K.facts.length kO]⟩ 38 (0,0)),.b b2 (.cells ⟨[zP J8]⟩ 106 (0,0)),.b b3 (.cells ⟨[zI 0]⟩ 42 (0,0))]) (fun zz=>zz.1≤K.before.length∧Gh (lG K rN xg).c zz.1 0 zz.2) (fun zz=>K.before.length-zz.1) (⟨0,⟨fun _ _=>false⟩⟩) ⟨by dsimp only;omega,fun x y=>by simp⟩ (zN 0 8) ?_
  rintro⟨i,r⟩ hQ K6 hK6 rest
  dsimp only at hQ
  refine zD 5<|zJ 63 ((i:Int) <(K.before.length:Int)) (fun h9=>?_) fun h9=>?_
  ·
   refine zD 7 ?_
   obtain⟨Qr,ahI⟩:=zG K.before i
   refine fK nE 5 VI ahI<|jl 0 ((VH _ _ ahI).ext (gD cu))<|jn fun KX=>jd 7 [0,3,0]<|jp (vs:=[.agg ⟨[.string Qr.name,zI Qr.st,zI Qr.no,zI Qr.head,.bool Qr.bold]⟩]) [] [] (fun aJ hs hZ=>ZG)<|aP 3 fun aa8 abl O6=>jcL (vs:=[.agg ⟨[.slice mV jF.length mo,vT,.slice fa 0 fc]⟩,.agg ⟨[zI Qr.st,zI Qr.no,zI 0]⟩]) [] [2] LT (fun aJ hs hZ=>(h47 _ hwm _ (zL ahI)).2 _ (cu.trans hs) _ _ _ _ _ rfl ⟨_,hJ.2.1.jR hZ,hS6.imp fun _ _ k=>k.up hs⟩) ?_
   rintro _ Y71 ⟨a71,n71,c71,rfl,aT8⟩
   refine dW O6 (zN 1 9)<|zD 9<|jp (vs:=[zI 0]) [] [] (fun aJ hs hZ=>BR)<|jf [0] Y71 (fun aDo tY acD=>?_)
   obtain⟨qPa,qPb,qPo,qPc,heP,qPk,qPh,qPl⟩:=aT8 _ acD
   simp only[Value.slice.injEq] at heP
   obtain⟨rfl,rfl,rfl⟩:=heP
   refine jd 9 [6]<|dH [1,1,1,0,1,0,0,1,1,0,0,1,1,1,1,0,1,0,0,1,1,0,0,1,1,1,1,0,0] [K1,K6] (fun(zz:Nat×bx)=>[(1,zP b1),(2,zP b2),(3,zP b3),(6,zP b6),(9,zP b9),(10,zI (i:Int)),(12,.slice a71 ((rN xg Qr).length) c71),(21,.slice a21 wsW.length c21),(22,zI (wsW.length:Int)),(23,zI (k:Int)),(60,.slice nJ K.before.length nE),(61,zI (K.before.length:Int)),(62,zI (i:Int)),(77,.slice nF K.after.length nB),(78,zI (K.after.length:Int)),(79,zI (zz.1:Int))]) (fun zz=>[.b b9 (.cells ⟨[.bool (zz.2.c 0 0),.bool (zz.2.c 0 1),.bool (zz.2.c 0 2),.bool (zz.2.c 0 3),.bool (zz.2.c 1 0),.bool (zz.2.c 1 1),.bool (zz.2.c 1 2),.bool (zz.2.c 1 3),.bool (zz.2.c 2 0),.bool (zz.2.c 2 1),.bool (zz.2.c 2 2),.bool (zz.2.c 2 3),.bool (zz.2.c 3 0),.bool (zz.2.c 3 1),.bool (zz.2.c 3 2),.bool (zz.2.c 3 3)]⟩ 162 (0,0)),.b KX (.cells ⟨[.string Qr.name,zI Qr.st,zI Qr.no,zI Qr.head,.bool Qr.bold]⟩ 76 (0,0)),.l LT,.b b6 (.cells ⟨[.slice mV jF.length mo,vT,.slice fa 0 fc]⟩ 29 (0,0)),.l LR,.b J8 (.cells ⟨[.slice mV jF.length mo,.slice fx iZ.length ez,.slice fa 0 fc,.slice dF K.cs.length dB,.slice di hv.length cP,.slice iI K.rules.length iH,.slice nJ K.before.length nE,.slice nF K.after.length nB,zI K.gone,zI K.new,zI K.af,.slice lP K.facts.length kO,vR]⟩ 165 (0,0)),.b b1 (.cells ⟨[.slice mV jF.length mo,.slice fx iZ.length ez,.slice fa 0 fc,.slice dF K.cs.length dB,.slice di hv.length cP,.slice iI K.rules.length iH,.slice nJ K.before.length nE,.slice nF K.after.length nB,zI K.gone,zI K.new,zI K.af,.slice lP K.facts.length kO]⟩ 38 (0,0)),.b b2 (.cells ⟨[zP J8]⟩ 106 (0,0)),.b b3 (.cells ⟨[zI 0]⟩ 42 (0,0))]) (fun zz=>zz.1≤K.after.length∧Gh (lG K rN xg).c i zz.1 zz.2) (fun zz=>K.after.length-zz.1) (⟨0,r⟩) ⟨by dsimp only;omega,hQ.2⟩ [1,0,2,3,4,5,6,7,8] ?_
   rintro⟨j,r⟩ hU K8 hK8 rest
   dsimp only at hU
   refine zD 5<|zJ 80 ((j:Int) <(K.after.length:Int)) (fun IE=>?_) fun IE=>?_
   ·
    refine zD 7 ?_
    obtain⟨Lh,Wj⟩:=zG K.after j
    refine fK nB 5 Ul Wj<|jl 0 ((Uk _ _ Wj).ext (gD (cu.trans tY)))<|jn fun GR=>jd 3 [0] ?_
    have hRW:(lG K rN xg).c i j=decide (bS (oO Lh.st Lh.no 0) (rN xg Qr) 0≥0):=by simp only[lG,ahI,Wj]
    refine jd 5 [0]<|JM (b:=b9) (off:=0) (len:=4) (sz:=4) (i:Int) (by omega)<|jp (vs:=[.agg ⟨[.string Lh.name,zI Lh.st,zI Lh.no,zI Lh.head,.bool Lh.bold]⟩]) [] [] (fun aJ hs hZ=>ZG)<|jp (vs:=[.slice a71 ((rN xg Qr).length) c71,.agg ⟨[zI Lh.st,zI Lh.no,zI 0]⟩]) [] [] (fun aJ hs hZ=>ML ((show bJ _ _ _ _ _ from ⟨a71,qPb,qPo,c71,rfl,qPk,qPh,qPl⟩).up hs) (h47 _ hwm _ (zL ahI)).1)<|JM (b:=b9) (off:=0+(i:Int).toNat*4) (len:=4) (sz:=1) (j:Int) (by omega)<|aP 8 fun UE U2 O5=>jsx 1 b9 (0+(i:Int).toNat*4+(j:Int).toNat*1) [.bool (r.c 0 0),.bool (r.c 0 1),.bool (r.c 0 2),.bool (r.c 0 3),.bool (r.c 1 0),.bool (r.c 1 1),.bool (r.c 1 2),.bool (r.c 1 3),.bool (r.c 2 0),.bool (r.c 2 1),.bool (r.c 2 2),.bool (r.c 2 3),.bool (r.c 3 0),.bool (r.c 3 1),.bool (r.c 3 2),.bool (r.c 3 3)] [.bool (decide (bS (oO Lh.st Lh.no 0) (rN xg Qr) 0≥0))] 162 (by intro v hv;rw[List.mem_singleton] at hv;subst hv;rfl) (YK (r:=r) (by omega) (by omega)) ?_
    refine jmw 0 [.b b9 (.cells ⟨[.bool ((jH r i j ((lG K rN xg).c i j)).c 0 0),.bool ((jH r i j ((lG K rN xg).c i j)).c 0 1),.bool ((jH r i j ((lG K rN xg).c i j)).c 0 2),.bool ((jH r i j ((lG K rN xg).c i j)).c 0 3),.bool ((jH r i j ((lG K rN xg).c i j)).c 1 0),.bool ((jH r i j ((lG K rN xg).c i j)).c 1 1),.bool ((jH r i j ((lG K rN xg).c i j)).c 1 2),.bool ((jH r i j ((lG K rN xg).c i j)).c 1 3),.bool ((jH r i j ((lG K rN xg).c i j)).c 2 0),.bool ((jH r i j ((lG K rN xg).c i j)).c 2 1),.bool ((jH r i j ((lG K rN xg).c i j)).c 2 2),.bool ((jH r i j ((lG K rN xg).c i j)).c 2 3),.bool ((jH r i j ((lG K rN xg).c i j)).c 3 0),.bool ((jH r i j ((lG K rN xg).c i j)).c 3 1),.bool ((jH r i j ((lG K rN xg).c i j)).c 3 2),.bool ((jH r i j ((lG K rN xg).c i j)).c 3 3)]⟩ 162 (0,0))] (L:=[(b9,.cells ⟨dK [.bool (r.c 0 0),.bool (r.c 0 1),.bool (r.c 0 2),.bool (r.c 0 3),.bool (r.c 1 0),.bool (r.c 1 1),.bool (r.c 1 2),.bool (r.c 1 3),.bool (r.c 2 0),.bool (r.c 2 1),.bool (r.c 2 2),.bool (r.c 2 3),.bool (r.c 3 0),.bool (r.c 3 1),.bool (r.c 3 2),.bool (r.c 3 3)] (0+(i:Int).toNat*4+(j:Int).toNat*1) [.bool (decide (bS (oO Lh.st Lh.no 0) (rN xg Qr) 0≥0))]⟩ 162 (0,0))]) (by rw[YI (by omega) (by omega),hRW];rfl) ?_
    refine eW O5 []<|zD 2<|zW ((j:Int)+1)<|zD 2<|zF hK8 (⟨j+1,(jH r i j ((lG K rN xg).c i j))⟩) hU.2.set [0,2,3,4,5,6,7,8,9]
   refine zD 3<|zW ((i:Int)+1)<|zD 2<|bF hK6 (⟨i+1,r⟩) ⟨by dsimp only;omega,Gh.nxt (fun x y h=>auI x y h) (by have:=hU.2;rwa[show j=K.after.length by omega] at this)⟩ (by dsimp only;omega) [0,2,3,4,5,6,7,8] tY
  refine jd 9 [6,6,4,0]<|aP 6 fun GW G9 xv=>jn fun aZP=>dW xv (zN 1 8)<|aP 7 fun Lf Lx Ej=>cH Ew aZP (r:bx) 4 0 hI.2 rfl rfl (by simp only[List.length_map,List.length_take];omega) (fun aCo aCa baJ apd=>?_)
  refine eW Ej [[7],[7]]<|zD 2<|aP 10 fun Le Lu AO=>jd 1 [5]<|eW AO []<|zD 2<|zW ((k:Int)+1)<|zD 2<|zF bP (⟨k+1,(.slice aCo ((((W.take k).map (lG K rN))++[(r:bx)])).length aCa),baJ⟩) (by rw[gH aHn,List.map_append];have e:=Gh.fin (fun x y h=>auJ x y h) (by have:=hQ.2;rwa[show i=K.before.length by omega] at this);subst e;exact apd) [0,5,6,7,8]
 refine jd 9 [3,3,4]<|jrD (g:=87) (ca:=[zP b2,zP b3]) ⟨rfl,rfl⟩ (.tuple ⟨[zP J8,zI 0]⟩) [3,4] [1,0] ((J8,.cells ⟨[.slice mV jF.length mo,.slice fx iZ.length ez,.slice fa 0 fc,.slice dF K.cs.length dB,.slice di hv.length cP,.slice iI K.rules.length iH,.slice nJ K.before.length nE,.slice nF K.after.length nB,zI K.gone,zI K.new,zI K.af,.slice lP K.facts.length kO,vR]⟩ 165 (0,0))::LR) 9 cu ⟨_,_,rfl,rfl,J8,rfl,fun k7 hs hk=>by have hvt:=hI.2;rw[List.take_of_length_le (by omega)] at hvt;exact⟨⟨_,_,_,_,_,_,_,_,_,_,hv,hk _ (.head _),py.up hs,kz,wG.up hs,wA.up hs,ha0.up hs,hf0.up hs,hvt.jR hk.tail⟩,⟨_,hk _ (.head _),hvt.jR hk.tail⟩⟩⟩
theorem Uc.v(h:Uc K):fq K where
 rules:=⟨by have:=h.rules.1;omega,fun r hr=>auG (h.rules.2 r hr)⟩
 before:=⟨by have:=h.before.1;omega,fun p hp=>by
  obtain⟨h1,h2,_⟩:=(h.before.2 p hp).1
  exact⟨⟨⟨h1.1.1,by have:=h1.1.2;omega⟩,h1.2⟩,h2⟩⟩
 after:=⟨by have:=h.after.1;omega,fun p hp=>by
  obtain⟨h1,h2,_⟩:=(h.after.2 p hp).1
  exact⟨⟨⟨h1.1.1,by have:=h1.1.2;omega⟩,h1.2⟩,h2⟩⟩
 cR:=h.cR.v
 facts:=⟨by have:=h.facts.1;omega,h.facts.2⟩
theorem rG.up(h:rG ro l W)(hs:Sub ro aF):rG aF l W:=fun aJ h1=>h aJ (hs.trans h1)
theorem yI.up{rN:List Int→aI→List ak}(h:yI ro l K W rN)(hs:Sub ro aF):yI aF l K W rN:=fun w hw x hx=>⟨(h w hw x hx).1,fun aJ h1=>(h w hw x hx).2 aJ (hs.trans h1)⟩
theorem aqx{rN:List Int→aI→List ak}(hK:fO ro l K)(hO:kg K)(hV:fq K)(hW:XZ K W)(h76:rG ro l W)(h47:yI ro l K W rN):gE ro l K (W.map (lG K rN)):=
 fun aJ hs=>(awp (hK.up hs) hO hV hW (h76.up hs) (h47.up hs)).mono fun _ _ ⟨f,e,h⟩=>⟨f,e,fun k7 h1 h2=>(h k7 h1 h2).1⟩
def rS(a b:Int):Int:=if a <b then-1 else if a>b then 1 else 0
def orL:List Int→Int
 | []=>0
 |x::l=>if x=0 then orL l else x
theorem af8{l:List Int}(h:l[k]?=some x):orL (l.drop k)=if x=0 then orL (l.drop (k+1)) else x:=by rw[fg h];rfl
theorem anS{l:List Int}(h:¬k <l.length):orL (l.drop k)=0:=by rw[eo h];rfl
def ac7(x y:ar):Int:=orL [rS x.n y.n,rS x.l y.l]
theorem aqk{x y:ar}(h:anM x y):ac7 x y <0:=by
 rcases h with h| ⟨h1,h2⟩
 ·have e:rS x.n y.n= -1:=if_pos h
  simp[ac7,orL,e]
 have e:rS x.n y.n=0:=by simp only[rS];rw[if_neg (by omega),if_neg (by omega)]
 have e2:rS x.l y.l= -1:=if_pos h2
 simp[ac7,orL,e,e2]
theorem aKj{a:Int}:dG zT 194 [zI a] ro (.bool false):=by
 refine zE<|zD 12<|zX (.bool (!decide (a=a))) ⟨by simp,rfl⟩
theorem azx{a b:Int}:dG zT 135 [zI a,zI b] ro (zI (rS a b)):=by
 refine zE<|zD 7<|jp (vs:=[zI a]) [] [] (fun aJ hs hZ=>aKj)<|zD 5<|jp (vs:=[zI b]) [] [] (fun aJ hs hZ=>aKj)<|zD 23<|zJ 16 (a <b) (fun h1=>?_) fun h1=>?_
 ·
  refine zD 6<|zX (zI (-1)) ⟨by simp only[rS];first|rw[if_pos (by omega)]|rw[if_neg (by omega),if_pos (by omega)]|rw[if_neg (by omega),if_neg (by omega)],rfl⟩
 refine zD 9<|zJ 19 (a>b) (fun h2=>?_) fun h2=>?_
 ·
  refine zD 6<|zX (zI 1) ⟨by simp only[rS];first|rw[if_pos (by omega)]|rw[if_neg (by omega),if_pos (by omega)]|rw[if_neg (by omega),if_neg (by omega)],rfl⟩
 refine zD 7<|zX (zI 0) ⟨by simp only[rS];first|rw[if_pos (by omega)]|rw[if_neg (by omega),if_pos (by omega)]|rw[if_neg (by omega),if_neg (by omega)],rfl⟩
theorem gOr{v:Value}(hl:bJ ro v 1 aS xs)(hn:xs.length≤1000):dG zT 237 [v] ro (zI (orL xs)):=by
 obtain⟨fU,sg,sb,eZ,rfl,uz,lA,lZ⟩:=hl
 refine zE<|zD 16<|dH [1,1,0,1,0,0] [] (fun(zz:Nat)=>[(3,zI 0),(6,.slice fU xs.length eZ),(7,zI (xs.length:Int)),(8,zI (zz:Int))]) (fun zz=>[]) (fun zz=>zz≤xs.length∧orL xs=orL (xs.drop zz)) (fun zz=>xs.length-zz) 0 ⟨by omega,rfl⟩ [] ?_
 rintro k hI K1 bP rest
 refine zD 5<|zJ 9 ((k:Int) <(xs.length:Int)) (fun h1=>?_) fun h1=>?_
 ·
  refine zD 6 ?_
  obtain⟨x10,pS⟩:=zG xs k
  refine fK eZ 1 lA pS<|jl 0 (lZ _ _ pS)<|zD 8<|js 14 (!decide (x10=0)) (fun h2=>?_) (fun h2=>?_)
  ·
   replace h2:=of_decide_eq_false (by simpa using h2)
   refine zD 7<|zX (zI x10) ⟨by rw[hI.2,af8 pS,if_neg (by simp_all)],rfl⟩
  replace h2:=of_decide_eq_true (by simpa using h2)
  refine zD 3<|zW ((k:Int)+1)<|zD 2<|zY bP (k+1) ⟨by omega,by rw[hI.2,af8 pS,if_pos (by simp_all)]⟩ []
 refine zD 8<|zX (zI 0) ⟨by rw[hI.2,anS (by omega)],rfl⟩
theorem asR{x y:ar}:dG zT 212 [.agg ⟨[zI x.n,zI x.l]⟩,.agg ⟨[zI y.n,zI y.l]⟩] ro (zI (ac7 x y)):=by
 refine zE<|zD 2<|jn fun b2=>jn fun b3=>jd 12 [1,0,1,0]<|jp (vs:=[zI x.n,zI y.n]) [] [] (fun aJ hs hZ=>azx)<|jp (vs:=[zI x.l,zI y.l]) [] [] (fun aJ hs hZ=>azx)<|aP 10 fun C5 Dc Ba=>jn fun GR=>dW Ba [1,2]<|jp (vs:=[.slice (some ⟨GR,0,none⟩) 2 2]) [0] [(GR,.cells ⟨([(rS x.n y.n),(rS x.l y.l)].map aS).flatten⟩ 3 (0,0))] (fun aJ hs hZ=>gOr (bX [(rS x.n y.n),(rS x.l y.l)] hZ.head (by intro p hp;rfl)) (by first|omega| (simp only[List.length_set,zM];omega))) ?_
 refine zD 3<|zX (zI (orL [(rS x.n y.n),(rS x.l y.l)])) ⟨rfl,rfl⟩
theorem B8{n lo hi:Int}:dG zT 198 [zI n,zI lo,zI hi] ro (.bool (ju n lo hi)):=by
 refine zE<|zD 10<|jj 4 [(6,.bool false),(14,.bool ((decide (lo≤n))&&(decide (n≤hi))))] (fun fA=>?_) (fun hj=>?_)
 rotate_left
 refine js 10 (decide (lo≤n)) (fun h1=>?_) (fun h1=>?_)
 ·
  have gM:=h1
  replace gM:=of_decide_eq_true gM
  refine zD 4<|jw 14 (.bool ((decide (lo≤n))&&(decide (n≤hi)))) (w:= .bool (decide (n≤hi))) (by rw[h1]<;>rfl) ?_
  exact zK hj
 ·
  have gM:=h1
  replace gM:=of_decide_eq_false gM
  refine zD 4<|jw 14 (.bool ((decide (lo≤n))&&(decide (n≤hi)))) (w:= .bool false) (by rw[h1]<;>rfl) ?_
  exact zK hj
 refine zD 3<|zX (.bool ((decide (lo≤n))&&(decide (n≤hi)))) ⟨rfl,rfl⟩
theorem azs{x:ar}(hx:CE x):dG zT 200 [.agg ⟨[zI x.n,zI x.l]⟩] ro (.bool true):=by
 obtain⟨⟨D6,H8⟩,BU,hx4⟩:=hx
 refine zE<|zD 2<|jn fun b1=>jd 6 [0]<|jp (vs:=[zI x.n,zI 1,zI 40]) [] [] (fun aJ hs hZ=>B8)<|zD 1<|jj 4 [(2,.bool false),(10,.bool ((ju x.n 1 40)&&(ju x.l 0 4)))] (fun fA=>?_) (fun hj=>?_)
 rotate_left
 refine js 6 (ju x.n 1 40) (fun h1=>?_) (fun h1=>?_)
 ·
  refine jd 2 [0]<|jp (vs:=[zI x.l,zI 0,zI 4]) [] [] (fun aJ hs hZ=>B8)<|zD 1<|jw 10 (.bool ((ju x.n 1 40)&&(ju x.l 0 4))) (w:= .bool (ju x.l 0 4)) (by rw[h1]<;>rfl) ?_
  exact zK hj
 ·
  refine zD 4<|jw 10 (.bool ((ju x.n 1 40)&&(ju x.l 0 4))) (w:= .bool false) (by rw[h1]<;>rfl) ?_
  exact zK hj
 refine zD 3<|zX (.bool ((ju x.n 1 40)&&(ju x.l 0 4))) ⟨by simp only[ju,Value.bool.injEq,Bool.and_eq_true,decide_eq_true_eq];omega,rfl⟩
theorem akb{v:Value}{S:List (List ar)}(hS:cD ro v S)(hO:eF S):dG zT 197 [.agg ⟨[v]⟩] ro (zI 0):=by
 obtain⟨ws,ht,dk⟩:=hS
 obtain⟨fx,BA,By,ez,rfl,Bz,tx,tw⟩:=ht
 have hln:=dk.len
 have Kz:=hO.two
 refine zE<|zD 2<|jn fun b1=>jd 10 [0]<|zJ 10 ((ws.length:Int)=0) (fun h1=>?_) fun h1=>?_
 ·
  exfalso;omega
 refine jd 10 [0]<|zJ 14 ((ws.length:Int)>3) (fun h2=>?_) fun h2=>?_
 ·
  exfalso;omega
 refine jd 11 [0]<|dH [1,1,1,0,1,0,0] [] (fun(zz:Nat)=>[(16,.slice fx ws.length ez),(17,zI (ws.length:Int)),(18,zI (zz:Int))]) (fun zz=>[.b b1 (.cells ⟨[.slice fx ws.length ez]⟩ 25 (0,0))]) (fun zz=>zz≤ws.length) (fun zz=>ws.length-zz) 0 (by omega) [0] ?_
 rintro k hI K1 bP rest
 refine zD 5<|zJ 19 ((k:Int) <(ws.length:Int)) (fun h3=>?_) fun h3=>?_
 ·
  refine zD 6 ?_
  obtain⟨x20,OO⟩:=zG ws k
  refine fK ez 1 tx OO ?_
  obtain⟨l21,axT,h21⟩:=dk.get OO
  obtain bkb:=hO.len _ (zL axT)
  obtain aUj:=hO.ok _ (zL axT)
  obtain ao0:=hO.asc _ (zL axT)
  obtain⟨aEm,bh3,bh1,anJ,rfl,bh2,aEl,aEk⟩:=h21
  refine jl 0 (tw _ _ OO)<|zD 9<|zJ 24 ((l21.length:Int)>8) (fun h4=>?_) fun h4=>?_
  ·
   exfalso;omega
  refine zD 9<|dH [1,1,1,0,1,0,0,1,1,0,0,1,1,1,0,0] [K1] (fun(zz:Nat)=>[(4,.slice aEm l21.length anJ),(16,.slice fx ws.length ez),(17,zI (ws.length:Int)),(18,zI (k:Int)),(25,.slice aEm l21.length anJ),(26,zI (l21.length:Int)),(27,zI (zz:Int))]) (fun zz=>[.b b1 (.cells ⟨[.slice fx ws.length ez]⟩ 25 (0,0))]) (fun zz=>zz≤l21.length) (fun zz=>l21.length-zz) 0 (by omega) [0] ?_
  rintro i hJ K2 lL rest
  refine zD 5<|zJ 28 ((i:Int) <(l21.length:Int)) (fun h5=>?_) fun h5=>?_
  ·
   refine zD 7 ?_
   obtain⟨pw,kS⟩:=zG l21 i
   refine fK anJ 2 aEl kS<|jl 0 (aEk _ _ kS)<|jn fun b6=>jd 7 [0,0]<|jp (vs:=[.agg ⟨[zI pw.n,zI pw.l]⟩]) [] [] (fun aJ hs hZ=>(azs (x:=pw) (aUj _ (zL kS))))<|zD 9<|js 2 (decide ((i:Int)>0)) (fun h6=>?_) (fun h6=>?_)
   ·
    have S9:=h6
    replace S9:=of_decide_eq_true S9
    refine zD 2<|zW ((i:Int)-1) ?_
    obtain⟨x41,awE⟩:=zG l21 (((i:Int)-1).toNat)
    refine CU ((i:Int)-1) anJ 2 aEl awE (by omega)<|jl 0 (aEk _ _ awE)<|jd 1 [0]<|jp (vs:=[.agg ⟨[zI x41.n,zI x41.l]⟩,.agg ⟨[zI pw.n,zI pw.l]⟩]) [] [] (fun aJ hs hZ=>(asR (x:=x41) (y:=pw)))<|zD 3<|zJ 46 ((ac7 x41 pw)≥0) (fun h7=>?_) fun h7=>?_
    ·
     exfalso;have:=aqk (qL ao0 (show ((i:Int)-1).toNat <i by omega) awE kS);simp_all;omega
    refine zD 3<|zW ((i:Int)+1)<|zD 2<|zY lL (i+1) (by omega) [1]
   have S9:=h6
   replace S9:=of_decide_eq_false S9
   refine zD 13<|zW ((i:Int)+1)<|zD 2<|zY lL (i+1) (by omega) [1]
  refine zD 3<|zW ((k:Int)+1)<|zD 2<|zY bP (k+1) (by omega) [0]
 refine zD 7<|zX (zI 0) ⟨rfl,rfl⟩
abbrev oS(x:ak):Value:= .agg ⟨bY x⟩
instance:DecidableEq ak:=fun x y=>match x,y with
 | ⟨a,b,c⟩,⟨d,e,f⟩=>if h:a=d∧b=e∧c=f then isTrue (by obtain⟨rfl,rfl,rfl⟩:=h;rfl) else isFalse fun k=>h (by cases k;exact⟨rfl,rfl,rfl⟩)
def nG(s:Int)(x:ar):ak:=⟨s,x.n,x.l⟩
def Uq(S:List (List ar)):Nat→List ak
 |0=>[]
 |k+1=>Uq S k++(match S[k]? with
  |some l=>l.map (nG k)
  |none=>[])
def bD(S:List (List ar)):List ak:=Uq S S.length
theorem awX{S:List (List ar)}{l:List ar}(h:S[k]?=some l):Uq S (k+1)=Uq S k++l.map (nG k):=by simp only[Uq,h]
theorem GG{S:List (List ar)}{x:ak}:∀ {k:Nat},x∈Uq S k↔∃j l p,j <k∧S[j]?=some l∧p∈l∧x=nG j p
 |0=>by simp[Uq]
 |k+1=>by
  simp only[Uq,List.mem_append,GG (k:=k)]
  constructor
  ·rintro(⟨j,l,p,h1,h2⟩|h)
   ·exact⟨j,l,p,by omega,h2⟩
   split at h
   ·rename_i l hl
    obtain⟨p,hp,rfl⟩:=List.mem_map.1 h
    exact⟨k,l,p,by omega,hl,hp,rfl⟩
   cases h
  rintro⟨j,l,p,h1,h2,h3,rfl⟩
  by_cases hj:j=k
  ·subst hj;rw[h2];exact .inr (List.mem_map_of_mem h3)
  exact .inl ⟨j,l,p,by omega,h2,h3,rfl⟩
theorem Ii{S:List (List ar)}{l:List ar}{p:ar}(h1:S[j]?=some l) (h2:p∈l):nG j p∈bD S:=GG.2 ⟨j,l,p,(List.getElem?_eq_some_iff.1 h1).1,h1,h2,rfl⟩
theorem Wq{S:List (List ar)}(hO:eF S):∀k,(Uq S k).Nodup
 |0=>List.nodup_nil
 |k+1=>by
  simp only[Uq]
  refine List.nodup_append.2 ⟨Wq hO k,?_,fun x hx y hy e=>?_⟩
  ·split
   ·rename_i l hl
    refine List.pairwise_map.2 ((hO.asc l (zL hl)).imp fun {a b} h e=>?_)
    simp only[nG,ak.mk.injEq] at e
    rcases h with h|h<;>omega
   exact List.nodup_nil
  subst e
  obtain⟨j,l,p,h1,_,_,rfl⟩:=GG.1 hx
  split at hy
  ·obtain⟨q,_,hq⟩:=List.mem_map.1 hy
   simp only[nG,ak.mk.injEq] at hq
   omega
  cases hy
theorem OS{S:List (List ar)}(hO:eF S):∀k,(Uq S k).length≤4*k
 |0=>by simp[Uq]
 |k+1=>by
  have:=OS hO k
  simp only[Uq,List.length_append]
  split
  ·rename_i l hl
   have:=hO.len l (zL hl)
   rw[List.length_map];omega
  simp;omega
theorem qV{S:List (List ar)}(hO:eF S):(bD S).length≤8:=by
 have:=OS hO S.length
 have:=hO.two
 unfold bD;omega
theorem aKE(a b:ak):EqD zT 10000 132 (oS a) (oS b) (decide (a=b)):=by
 have h:=(rk (mE Tryz.typeInfo132 Tryz.underlying132 rfl rfl rfl rfl rfl rfl) Tryz.stoodInHeld132 (.cons (by decide) (gR kJ rfl) (gR kJ rfl) (mb kJ _ _) (.cons (by decide) (HC (mE Tryz.typeInfo81 Tryz.underlying81 rfl rfl rfl rfl rfl rfl) rfl) (HC (mE Tryz.typeInfo81 Tryz.underlying81 rfl rfl rfl rfl rfl rfl) rfl) (akE _ _ _ _ 9997) .nil)):EqD zT 10000 132 (oS a) (oS b) _)
 have e:(a.h==b.h&&((a.n==b.n&&(a.l==b.l&&true))&&true))=decide (a=b):=by
  rcases a with ⟨x,y,z⟩;rcases b with ⟨u,v,w⟩
  rw[Bool.eq_iff_iff];simp
 rwa[e] at h
theorem aZl(a:ak):CkD zT 10000 132 (oS a):=
 TS (mE Tryz.typeInfo132 Tryz.underlying132 rfl rfl rfl rfl rfl rfl) (.cons (by decide) (gR kJ rfl) (Jc kJ _) (.cons (by decide) (HC (mE Tryz.typeInfo81 Tryz.underlying81 rfl rfl rfl rfl rfl rfl) rfl) (TS (dep:=9998) (mE Tryz.typeInfo81 Tryz.underlying81 rfl rfl rfl rfl rfl rfl) (.cons (by decide) (gR kJ rfl) (Jc kJ _) (.cons (by decide) (gR kJ rfl) (Jc kJ _) .nil))) .nil))
theorem BQ:Ud zT 132 oS:=ahb (mE Tryz.typeInfo132 Tryz.underlying132 rfl rfl rfl rfl rfl rfl) (fun k=>⟨_,rfl⟩) aZl aKE (fun k=>by simp[Instr.sameBits])
def MV(Z:Cells)(F:List (ak×Value))(g:ak→ak):Prop:=∀aF,Knows aF Z→∀x∈F,bJ aF x.2 3 bY [g x.1]
theorem IL[DecidableEq κ]{k:κ}:∀ {F:List (κ×Value)} {i:Nat},k∈F.map (·.1)→∃j v,tz k F i=some (j,v)
 | [],_,h=>by cases h
 |x::F,i,h=>by
  simp only[tz]
  split
  ·exact⟨_,_,rfl⟩
  rename_i hk
  refine IL ?_
  rcases List.mem_cons.1 h with h|h
  ·exact absurd h hk
  exact h
theorem Ow[DecidableEq κ]{k:κ}{F:List (κ×Value)}(h:k∈F.map (·.1)):∃v,lkM k F=some v∧(k,v)∈F:=by
 obtain⟨j,v,h1⟩:=IL (i:=0) h
 exact⟨v,by simp[lkM,h1],zL (q9 h1).2⟩
theorem aeI[DecidableEq κ]{k:κ}{v:Value}{F:List (κ×Value)}(h:k∉F.map (·.1)):mS k v F=F++[(k,v)]:=by
 have:tz k F 0=none:=by
  cases hf:tz k F 0 with
  |none=>rfl
  |some y=>exact absurd (List.mem_map_of_mem (f:=(·.1)) (zL (q9 (j:=y.1) (v:=y.2) hf).2)) h
 simp only[mS,this]
theorem QH[DecidableEq κ]{k:κ}{v:Value}{F:List (κ×Value)}(h:k∈F.map (·.1))(hn:(F.map (·.1)).Nodup):(mS k v F).map (·.1)=F.map (·.1)∧∀x∈mS k v F,x=(k,v)∨(x∈F∧x.1≠k):=by
 obtain⟨j,u,h1⟩:=IL (i:=0) h
 have h2:=(q9 h1).2
 rw[Nat.sub_zero] at h2
 obtain⟨hj,Uw⟩:=List.getElem?_eq_some_iff.1 h2
 simp only[mS,h1,Gr]
 refine⟨?_,fun x hx=>?_⟩
 ·rw[List.map_set]
  refine List.ext_getElem? fun i=>?_
  rw[List.getElem?_set]
  split
  ·rename_i hi;subst hi;simp[h2,hj,Uw]
  rfl
 obtain⟨i,hi⟩:=List.getElem?_of_mem hx
 rw[List.getElem?_set] at hi
 split at hi
 ·cases hi;exact .inl rfl
 rename_i JU
 refine .inr ⟨zL hi,fun e=>JU ?_⟩
 obtain⟨hi1,O1⟩:=List.getElem?_eq_some_iff.1 hi
 exact(List.getElem_inj (xs:=F.map (·.1)) (h₀:=by simpa using hj) (h₁:=by simpa using hi1) hn).1 (by simp[Uw,O1,e])
theorem MV.set{F:List (ak×Value)}{g:ak→ak}(h:MV Z F g){k y:ak}{v:Value}(hk:k∈F.map (·.1))(hn:(F.map (·.1)).Nodup)(hv:∀aF,Knows aF Z2→bJ aF v 3 bY [y]):MV (Z++Z2) (mS k v F) (fun x=>if x=k then y else g x):=fun aF hr x hx=>by
 rcases(QH hk hn).2 x hx with rfl| ⟨h1,h2⟩
 ·simp only[if_true];exact hv aF hr.right
 simp only[h2,if_false];exact h aF hr.left x h1
theorem MV.add{F:List (ak×Value)}{g:ak→ak}(h:MV Z F g){k:ak}{v:Value}(hv:∀aF,Knows aF Z2→bJ aF v 3 bY [g k]):MV (Z++Z2) (F++[(k,v)]) g:=fun aF hr x hx=>by
 rcases List.mem_append.1 hx with h1|h1
 ·exact h aF hr.left x h1
 rw[List.mem_singleton] at h1;subst h1;exact hv aF hr.right
theorem aKw{v:Value}(hl:bJ ro v 1 aS xs)(hn:xs.length≤1000):ee zT 205 [v] ro [] (fun r Y=>aA r 1 3 aS xs Y):=by
 obtain⟨fU,sg,sb,eZ,rfl,uz,lA,lZ⟩:=hl
 refine zE<|zD 8<|jsn 22 (a:=fU) (l:=xs.length) (c:=eZ)<|zD 1<|js 4 (fU.isNone) (fun h1=>?_) (fun h1=>?_)
 ·
  refine zD 6<|zX (zS) (by rw[sw lA (by assumption)];exact aA.nil _ _ _)
 refine zD 4<|jn fun b5=>zD 1<|BS (sz:=1) (ps:=[]) (qs:=xs) (enc:=aS) (w:= .slice fU xs.length eZ) [0] [] [] (cU (b:=b5) (T:=3)) (fun s he _=>⟨fU,sg,sb,eZ,rfl,lA,fun i p hp=>(lZ i p hp).ext he⟩) (fun p _=>bM rfl) (by simp<;>omega) (fun v7 L7 jk=>?_)
 rw[List.nil_append] at jk
 obtain⟨UT,UP,S0⟩:=jk.form
 subst S0
 refine zD 3<|zR ((.slice UT (xs).length UP)) [] [0] L7 jk
theorem aYX{v:Value}{xs:List ar}(hl:bJ ro v 2 dC xs)(hn:xs.length≤1000):ee zT 244 [v] ro [] (fun r Y=>aA r 2 81 dC xs Y):=by
 obtain⟨fU,sg,sb,eZ,rfl,uz,lA,lZ⟩:=hl
 refine zE<|zD 8<|jsn 82 (a:=fU) (l:=xs.length) (c:=eZ)<|zD 1<|js 4 (fU.isNone) (fun h1=>?_) (fun h1=>?_)
 ·
  refine zD 6<|zX (zS) (by rw[sw lA (by assumption)];exact aA.nil _ _ _)
 refine zD 4<|jn fun b5=>zD 1<|BS (sz:=2) (ps:=[]) (qs:=xs) (enc:=dC) (w:= .slice fU xs.length eZ) [0] [] [] (cU (b:=b5) (T:=81)) (fun s he _=>⟨fU,sg,sb,eZ,rfl,lA,fun i p hp=>(lZ i p hp).ext he⟩) (fun p _=>bM rfl) (by simp<;>omega) (fun v7 L7 jk=>?_)
 rw[List.nil_append] at jk
 obtain⟨UT,UP,S0⟩:=jk.form
 subst S0
 refine zD 3<|zR ((.slice UT (xs).length UP)) [] [0] L7 jk
theorem aYY{v:Value}{xs:List ak}(hl:bJ ro v 3 bY xs)(hn:xs.length≤1000):ee zT 180 [v] ro [] (fun r Y=>aA r 3 132 bY xs Y):=by
 obtain⟨fU,sg,sb,eZ,rfl,uz,lA,lZ⟩:=hl
 refine zE<|zD 8<|jsn 130 (a:=fU) (l:=xs.length) (c:=eZ)<|zD 1<|js 4 (fU.isNone) (fun h1=>?_) (fun h1=>?_)
 ·
  refine zD 6<|zX (zS) (by rw[sw lA (by assumption)];exact aA.nil _ _ _)
 refine zD 4<|jn fun b5=>zD 1<|BS (sz:=3) (ps:=[]) (qs:=xs) (enc:=bY) (w:= .slice fU xs.length eZ) [0] [] [] (cU (b:=b5) (T:=132)) (fun s he _=>⟨fU,sg,sb,eZ,rfl,lA,fun i p hp=>(lZ i p hp).ext he⟩) (fun p _=>bM rfl) (by simp<;>omega) (fun v7 L7 jk=>?_)
 rw[List.nil_append] at jk
 obtain⟨UT,UP,S0⟩:=jk.form
 subst S0
 refine zD 3<|zR ((.slice UT (xs).length UP)) [] [0] L7 jk
theorem apZ{v:Value}{S:List (List ar)}(hS:cD ro v S)(hO:eF S):ee zT 207 [.agg ⟨[v]⟩] ro [] (fun r Y=>∃a n c,r= .agg ⟨[.slice a n c]⟩∧∀aF,Knows aF Y→cD aF (.slice a n c) S):=by
 obtain⟨ws,ht,dk⟩:=hS
 obtain⟨fx,BA,By,ez,rfl,Bz,tx,tw⟩:=ht
 have hln:=dk.len
 have Kz:=hO.two
 refine zE<|zD 2<|jn fun b1=>jn fun b2=>zD 4<|jn fun b3=>jd 11 [0,2]<|my<|my<|dH [1,1,0,1,0,0] [] (fun(zz:Nat×Value×Cells×(List Value)×Cells)=>[(2,zP b2),(3,zP b3),(8,.slice fx ws.length ez),(9,zI (ws.length:Int)),(10,zI (zz.1:Int))]) (fun zz=>[.b b3 (.cells ⟨[zz.2.1]⟩ 25 (0,0)),.l zz.2.2.1,.l zz.2.2.2.2,.b b2 (.cells ⟨[zS]⟩ 25 (0,0)),.b b1 (.cells ⟨[.slice fx ws.length ez]⟩ 25 (0,0))]) (fun zz=>(zz.1≤ws.length∧zz.2.2.2.1.length=zz.1)∧aA zz.2.1 1 82 gL zz.2.2.2.1 zz.2.2.1∧∀aF,Knows aF zz.2.2.2.2→dc (fun w l=>bJ aF w 2 dC l) zz.2.2.2.1 (S.take zz.1)) (fun zz=>ws.length-zz.1) (⟨0,zS,[],[],[]⟩) ⟨⟨by dsimp only;omega,rfl⟩,aA.nil _ _ _,fun _ _=> .nil⟩ [2,1,0,3,4] ?_
 rintro⟨k,vO,LO,es,Z⟩ hI K1 bP rest
 dsimp only at hI
 refine zD 5<|zJ 11 ((k:Int) <(ws.length:Int)) (fun h1=>?_) fun h1=>?_
 ·
  refine zD 6 ?_
  obtain⟨y7,qS⟩:=zG ws k
  refine fK ez 1 tx qS ?_
  obtain⟨l13,aHt,C1⟩:=dk.get qS
  obtain aHb:=hO.len _ (zL aHt)
  obtain⟨aEz,aSI,aSE,aEy,rfl,aSG,aSH,aSF⟩:=C1
  refine jl 0 (tw _ _ qS)<|jd 6 [0]<|aP 3 fun zw Ab yZ=>jc (vs:=[.slice aEz l13.length aEy]) [] (aYX (show bJ _ _ _ _ _ from ⟨aEz,aSI,aSE,aEy,rfl,aSG,aSH,aSF⟩) (by first|omega| (simp only[List.length_set,zM];omega))) ?_
  rintro v17 L17 Eb
  obtain⟨FB,FA,acF⟩:=Eb.form
  subst acF
  refine dW yZ (zN 1 5)<|aP 4 fun tA tH q5=>jn fun Bd=>dW q5 (zN 1 6)<|aP 5 fun sR sX qZ=>cH gL Bd ((.slice FB (l13).length FA):Value) 3 0 hI.2.1 rfl rfl (by omega) fun aPN aPq L19 axs=>eW qZ []<|zD 1<|aP 7 fun Bg Br B7=>jd 1 [3]<|eB B7<|zD 2<|zW ((k:Int)+1)<|zD 2<|zV bP (⟨k+1,(.slice aPN ((es++[((.slice FB (l13).length FA):Value)])).length aPq),L19,(es++[((.slice FB (l13).length FA):Value)]),L17++Z⟩) ⟨⟨by dsimp only;omega,by simp only[zM];omega⟩,axs,fun aF hk=>yH (hI.2.2 aF hk.right) aHt (Eb.jR hk.left)⟩ [[3],[0],[2,4],[5],[6]]
 refine jd 5 [0] ?_
 obtain⟨va6,vc6,he6⟩:=hI.2.1.form
 subst he6
 refine jd 3 [3]<|zR (.agg ⟨[(.slice va6 (es).length vc6)]⟩) [3] [1,2] (LO++Z) ⟨_,_,_,rfl,fun aF hk=>⟨es,hI.2.1.jR hk.left,by have:=hI.2.2 aF hk.right;rwa[List.take_of_length_le (by omega)] at this⟩⟩
theorem aan{v:Value}{S:List (List ar)}(hS:cD ro v S)(hO:eF S):ee zT 199 [.agg ⟨[v]⟩] ro [] (fun r Y=>aA r 3 132 bY (bD S) Y):=by
 obtain⟨ws,ht,dk⟩:=hS
 obtain⟨fx,BA,By,ez,rfl,Bz,tx,tw⟩:=ht
 have hln:=dk.len
 have Kz:=hO.two
 refine zE<|zD 2<|jn fun b1=>jd 15 [0]<|my<|dH [1,1,0,1,0,0] [] (fun(zz:Nat×Value×Cells)=>[(2,zS),(3,zz.2.1),(9,.slice fx ws.length ez),(10,zI (ws.length:Int)),(11,zI (zz.1:Int))]) (fun zz=>[.l zz.2.2,.b b1 (.cells ⟨[.slice fx ws.length ez]⟩ 25 (0,0))]) (fun zz=>zz.1≤ws.length∧aA zz.2.1 3 132 bY (Uq S zz.1) zz.2.2) (fun zz=>ws.length-zz.1) (⟨0,zS,[]⟩) ⟨by dsimp only;omega,aA.nil _ _ _⟩ [0,1] ?_
 rintro⟨k,vO,LO⟩ hI K1 bP rest
 dsimp only at hI
 refine zD 5<|zJ 12 ((k:Int) <(ws.length:Int)) (fun h1=>?_) fun h1=>?_
 ·
  refine zD 7 ?_
  obtain⟨gk,eS⟩:=zG ws k
  refine fK ez 1 tx eS ?_
  obtain⟨Um,acB,xz⟩:=dk.get eS
  obtain aVu:=hO.len _ (zL acB)
  obtain⟨avg,aSD,aSB,afP,rfl,aSC,avf,ave⟩:=xz
  refine jl 0 (tw _ _ eS)<|zD 10<|dH [1,1,0,1,0,0,1,1,0,0,1,1,0,0] [K1] (fun(zz:Nat×Value×Cells)=>[(2,zS),(3,zz.2.1),(4,zI (k:Int)),(9,.slice fx ws.length ez),(10,zI (ws.length:Int)),(11,zI (k:Int)),(16,.slice avg Um.length afP),(17,zI (Um.length:Int)),(18,zI (zz.1:Int))]) (fun zz=>[.l zz.2.2,.b b1 (.cells ⟨[.slice fx ws.length ez]⟩ 25 (0,0))]) (fun zz=>zz.1≤Um.length∧aA zz.2.1 3 132 bY (Uq S k++(Um.take zz.1).map (nG k)) zz.2.2) (fun zz=>Um.length-zz.1) (⟨0,vO,LO⟩) ⟨by dsimp only;omega,by simpa using hI.2⟩ [0,1] ?_
  rintro⟨i,vO,LO⟩ hJ K2 lL rest
  dsimp only at hJ
  refine zD 5<|zJ 19 ((i:Int) <(Um.length:Int)) (fun h2=>?_) fun h2=>?_
  ·
   refine zD 6 ?_
   obtain⟨x20,OO⟩:=zG Um i
   refine fK afP 2 avf OO<|jl 0 (ave _ _ OO)<|jn fun b7=>jd 7 [0,0]<|jn fun b26=>cH bY b26 (⟨(k:Int),x20.n,x20.l⟩:ak) 2 0 hJ.2 rfl rfl (by have:=OS hO k;simp only[List.length_append,List.length_map,List.length_take];omega) (fun aPJ aPm L27 axq=>?_)
   refine zD 3<|zW ((i:Int)+1)<|zD 2<|zF lL (⟨i+1,(.slice aPJ (((Uq S k++(Um.take i).map (nG k))++[(⟨(k:Int),x20.n,x20.l⟩:ak)])).length aPm),L27⟩) (by rw[cG OO,List.map_append,←List.append_assoc];exact axq) [0,3]
  refine zD 3<|zW ((k:Int)+1)<|zD 2<|zF bP (⟨k+1,vO,LO⟩) (by rw[awX acB];have:=hJ.2;rwa[List.take_of_length_le (by omega)] at this) [0,1]
 refine zD 8<|zR (vO) [] [0] LO (by have:=hI.2;rwa[show k=S.length by omega] at this)
theorem U4{l:List α}{x:α}(hn:l.Nodup)(h:l[k]?=some x):x∉l.take k:=fun hx=>by
 obtain⟨hk,he⟩:=List.getElem?_eq_some_iff.1 h
 obtain⟨i,hi⟩:=List.getElem?_of_mem hx
 have hik:i <k:=by have:=(List.getElem?_eq_some_iff.1 hi).1;rw[List.length_take] at this;omega
 rw[List.getElem?_take_of_lt hik] at hi
 obtain⟨hi1,O1⟩:=List.getElem?_eq_some_iff.1 hi
 have:=(List.getElem_inj (h₀:=hi1) (h₁:=hk) hn).1 (O1.trans he.symm)
 omega
def As(n:Int):Bool:= !decide (Int.tmod n 2=0)
def IZ(n:Int):Bool:=decide (Int.tmod n 2=0)
theorem sG{p:α→Bool}{l:List α}{x:α}(h:l[i]?=some x):(l.take (i+1)).filter p=(l.take i).filter p++bif p x then [x] else []:=by
 rw[cG h,List.filter_append]
 cases hp:p x<;>simp[hp]
def sB(l:List ar):List (List ar):=[l.filter fun x=>As x.n,l.filter fun x=>IZ x.n]
theorem aje{l h:List ar}{x:ar}(hh:h∈sB l)(hx:x∈h):x∈l:=by
 simp only[sB,List.mem_cons,List.not_mem_nil,or_false] at hh
 rcases hh with rfl|rfl<;>exact(List.mem_filter.1 hx).1
theorem ajf{l h:List ar}(hh:h∈sB l):h.length≤l.length:=by
 simp only[sB,List.mem_cons,List.not_mem_nil,or_false] at hh
 rcases hh with rfl|rfl<;>exact List.length_filter_le _ _
def Kj(s:Int)(h:List ar):List (ak×ak):=(h.zip h.reverse).map fun p=>(nG s p.1,nG s p.2)
def aeJ(s:Int)(l:List ar):List (ak×ak):=(sB l).flatMap (Kj s)
def LJ(s:Int)(l:List ar):List (ak×ak):=l.map fun x=>(nG s x,⟨s,if As x.n=true then x.n+1 else x.n-1,x.l⟩)
def s8(l:List ar):Int:=match l[l.length-1]? with
 |some y=>y.n+Int.tmod y.n 2
 |none=>0
def MM(s o:Int)(l:List ar)(r:Int):List (ak×ak):=l.map fun x=>(nG s x,⟨o,x.n+r,x.l⟩)
def gU(u:List (ak×ak))(x:ak):ak:=u.foldl (fun y p=>if x=p.1 then p.2 else y) x
theorem apW(u:List (ak×ak))(a b:ak):gU (u++[(a,b)])=fun x=>if x=a then b else gU u x:=by
 funext x;simp only[gU,List.foldl_append,List.foldl_cons,List.foldl_nil]
theorem anp{s:Int}{h:List ar}{x y:ar}(hx:h[i]?=some x) (hy:h[(((h.length:Int)-1)-(i:Int)).toNat]?=some y):(Kj s h)[i]?=some (nG s x,nG s y):=by
 have hi:=(List.getElem?_eq_some_iff.1 hx).1
 have h2:h.reverse[i]?=some y:=by rw[List.getElem?_reverse hi,←hy];congr 1;omega
 have:=(List.getElem?_zip_eq_some (z:=(x,y))).2 ⟨hx,h2⟩
 simp only[Kj,List.getElem?_map,this];rfl
theorem afm(s:Int)(h:List ar):(Kj s h).length=h.length:=by simp[Kj]
theorem agK{f:α→β}{l:List α}{x:α}(h:l[i]?=some x):(l.map f)[i]?=some (f x):=by rw[List.getElem?_map,h];rfl
theorem ap3{f:α→List β}{l:List α}{x:α}(h:l[i]?=some x):(l.take (i+1)).flatMap f=(l.take i).flatMap f++f x:=by rw[cG h,List.flatMap_append,List.flatMap_singleton]
theorem MV.upd{S:List (List ar)}(hO:eF S){F:List (ak×Value)}{u:List (ak×ak)}{l:List ar}{x:ar}{y:ak}(h:MV Z F (gU u))(hk:F.map (·.1)=bD S)(hl:S[s]?=some l) (hx:x∈l):
 MV (Z++[(b,.cells ⟨bY y⟩ T (0,0))]) (mS (nG s x) (.slice (some ⟨b,0,none⟩) 1 1) F) (gU (u++[(nG s x,y)]))∧(mS (nG s x) (.slice (some ⟨b,0,none⟩) 1 1) F).map (·.1)=bD S:=by
 have hm:nG s x∈F.map (·.1):=by rw[hk];exact Ii hl hx
 have hn:(F.map (·.1)).Nodup:=by rw[hk];exact Wq hO _
 rw[apW]
 exact⟨h.set hm hn fun aF hk=>bX [y] (hk _ (.head _)) (fun _ _=>rfl),(QH hm hn).1.trans hk⟩
theorem Q6{S:List (List ar)}(hO:eF S){F:List (ak×Value)}{x:ak}(h:MV Z F id)(hk:F.map (·.1)=(bD S).take k)(hx:(bD S)[k]?=some x):
 MV (Z++[(b,.cells ⟨bY x⟩ T (0,0))]) (mS x (.slice (some ⟨b,0,none⟩) 1 1) F) id∧(mS x (.slice (some ⟨b,0,none⟩) 1 1) F).map (·.1)=(bD S).take (k+1):=by
 have:x∉F.map (·.1):=by rw[hk];exact U4 (Wq hO _) hx
 rw[aeI this]
 exact⟨h.add fun aF hk=>bX [x] (hk _ (.head _)) (fun _ _=>rfl),by rw[List.map_append,hk,cG hx];rfl⟩
theorem M7{v:Value}{S:List (List ar)}(hS:cD ro v S)(hO:eF S):ee zT 208 [.agg ⟨[v]⟩] ro [] (fun r Y=>∃rm F LM Z,r= .map (some rm)∧Y=LM++Z∧j9 rm oS F LM∧F.map (·.1)=bD S∧MV Z F id):=by
 have uC:=hS
 obtain⟨ws,ht,dk⟩:=hS
 obtain⟨fx,BA,By,ez,rfl,Bz,tx,tw⟩:=ht
 have hln:=dk.len
 have Kz:=hO.two
 have hhl:=qV hO
 refine zE<|zD 2<|jn fun b1=>zD 4<|jmk oS fun r6 L6 hm6=>jd 6 [1]<|jc (vs:=[.agg ⟨[.slice fx ws.length ez]⟩]) [] (aan uC hO) ?_
 rintro v8 L8 ho8
 refine FP ho8<|zD 1<|jf [0] L8 (fun ya cu iX=>?_)
 have hzh:=ho8.jR iX
 obtain⟨aRk,bg6,bg4,aDs,rfl,bg5,aRj,aRi⟩:=hzh
 refine zD 2<|my<|dH [1,1,0,1,0,0] [] (fun(zz:Nat×(List (ak×Value))×Cells×Cells)=>[(2,(.map none)),(3,(.map (some r6))),(8,.slice aRk ((bD S).length) aDs),(9,zI ((bD S).length:Int)),(10,zI (zz.1:Int))]) (fun(zz:Nat×(List (ak×Value))×Cells×Cells)=>[.l zz.2.2.1,.l zz.2.2.2,.b b1 (.cells ⟨[.slice fx ws.length ez]⟩ 25 (0,0))]) (fun(zz:Nat×(List (ak×Value))×Cells×Cells)=>zz.1≤(bD S).length∧j9 r6 oS zz.2.1 zz.2.2.1∧zz.2.1.map (·.1)=(bD S).take zz.1∧MV zz.2.2.2 zz.2.1 id) (fun(zz:Nat×(List (ak×Value))×Cells×Cells)=>(bD S).length-zz.1) (⟨0,[],L6,[]⟩) ⟨by dsimp only;omega,hm6,rfl,fun _ _ _ h=>(by cases h)⟩ [1,0,2] ?_
 rintro⟨k,F,LM,Z⟩ hI K1 bP rest
 dsimp only at hI
 refine zD 5<|zJ 11 ((k:Int) <((bD S).length:Int)) (fun h4=>?_) fun h4=>?_
 ·
  refine zD 6 ?_
  obtain⟨y7,qS⟩:=zG ((bD S)) k
  refine fK aDs 3 aRj qS<|jl 0 (aRi _ _ qS)<|jn fun b5=>jd 6 [0,0,0]<|jn fun b17=>jmu (kv:=oS) (F:=F) (r:=r6) (K:=132) 2 y7 (.slice (some ⟨b17,0,none⟩) 1 1) BQ hI.2.1 fun Lm5 hm5=>zD 2<|zW ((k:Int)+1)<|zD 2<|zV bP (⟨k+1,_,Lm5,Z++[(b17,.cells ⟨[zI y7.h,zI y7.n,zI y7.l]⟩ 132 (0,0))]⟩) ⟨by dsimp only;omega,hm5,(Q6 (T:=132) hO hI.2.2.2 hI.2.2.1 qS).2,(Q6 (T:=132) hO hI.2.2.2 hI.2.2.1 qS).1⟩ [[0],[3,1],[4]]
 refine zD 8<|aN q0.a ((.map (some r6))) [] [0,1] (LM++Z) cu ⟨_,_,rfl,rfl,_,F,LM,Z,rfl,rfl,hI.2.1,by rw[hI.2.2.1,List.take_of_length_le (by omega)],hI.2.2.2⟩
theorem gAt{h n l:Int}:dG zT 301 [zI h,zI n,zI l] ro (.agg ⟨[zI h,zI n,zI l]⟩):=by
 refine zE<|zD 2<|jn fun b6=>jd 11 [0]<|zR (.agg ⟨[zI h,zI n,zI l]⟩) [0] [] [] ⟨rfl,rfl⟩
theorem aKi{x:ar}:dG zT 299 [.agg ⟨[zI x.n,zI x.l]⟩] ro (.bool (As x.n)):=by
 refine zE<|zD 2<|jn fun b1=>jd 11 [0]<|zX (.bool (!decide ((Int.tmod x.n 2)=0))) ⟨rfl,rfl⟩
theorem aj9{v:Value}{l:List ar}(hl:bJ ro v 2 dC l)(hn:l.length≤4):ee zT 298 [v,.func (.func 299) ⟨[]⟩ ⟨[]⟩] ro [] (fun r Y=>aA r 2 81 dC (l.filter fun x=>As x.n) Y):=by
 obtain⟨fU,sg,sb,eZ,rfl,uz,lA,lZ⟩:=hl
 refine zE<|zD 16<|my<|dH [1,1,0,1,0,0] [] (fun(zz:Nat×Value×Cells)=>[(1,.func (.func 299) ⟨[]⟩ ⟨[]⟩),(4,zS),(5,zz.2.1),(8,.slice fU l.length eZ),(9,zI (l.length:Int)),(10,zI (zz.1:Int))]) (fun zz=>[.l zz.2.2]) (fun zz=>zz.1≤l.length∧aA zz.2.1 2 81 dC ((l.take zz.1).filter fun x=>As x.n) zz.2.2) (fun zz=>l.length-zz.1) (⟨0,zS,[]⟩) ⟨by dsimp only;omega,aA.nil _ _ _⟩ [0] ?_
 rintro⟨k,vO,LO⟩ hI K1 bP rest
 dsimp only at hI
 refine zD 5<|zJ 11 ((k:Int) <(l.length:Int)) (fun h1=>?_) fun h1=>?_
 ·
  refine zD 6 ?_
  obtain⟨y7,qS⟩:=zG l k
  refine fK eZ 2 lA qS<|jl 0 (lZ _ _ qS)<|jn fun b7=>jd 6 [0,0]<|jp (vs:=[.agg ⟨[zI y7.n,zI y7.l]⟩]) [] [] (fun aJ hs hZ=>(aKi (x:=y7)))<|zD 1<|js 16 (As y7.n) (fun h2=>?_) (fun h2=>?_)
  ·
   refine jd 4 [0]<|jn fun J8=>cH dC J8 (⟨y7.n,y7.l⟩:ar) 2 0 hI.2 rfl rfl (by have:=List.length_filter_le (fun x:ar=>As x.n) (l.take k);rw[List.length_take] at this;omega) (fun at6 atU L20 WE=>?_)
   refine zD 3<|zW ((k:Int)+1)<|zD 2<|zF bP (⟨k+1,(.slice at6 ((((l.take k).filter fun x=>As x.n)++[(⟨y7.n,y7.l⟩:ar)])).length atU),L20⟩) (by rw[sG qS,show As y7.n=true from (by assumption)];exact WE) [0]
  refine zD 3<|zW ((k:Int)+1)<|zD 2<|zF bP (⟨k+1,vO,LO⟩) (by rw[sG qS,show As y7.n=false from (by assumption)];simpa using hI.2) [1]
 refine zD 8<|zR (vO) [] [0] LO (by have:=hI.2;rwa[List.take_of_length_le (by omega)] at this)
theorem aKp{x:ar}:dG zT 300 [.agg ⟨[zI x.n,zI x.l]⟩] ro (.bool (IZ x.n)):=by
 refine zE<|zD 2<|jn fun b1=>jd 11 [0]<|zX (.bool (decide ((Int.tmod x.n 2)=0))) ⟨rfl,rfl⟩
theorem aj8{v:Value}{l:List ar}(hl:bJ ro v 2 dC l)(hn:l.length≤4):ee zT 298 [v,.func (.func 300) ⟨[]⟩ ⟨[]⟩] ro [] (fun r Y=>aA r 2 81 dC (l.filter fun x=>IZ x.n) Y):=by
 obtain⟨fU,sg,sb,eZ,rfl,uz,lA,lZ⟩:=hl
 refine zE<|zD 16<|my<|dH [1,1,0,1,0,0] [] (fun(zz:Nat×Value×Cells)=>[(1,.func (.func 300) ⟨[]⟩ ⟨[]⟩),(4,zS),(5,zz.2.1),(8,.slice fU l.length eZ),(9,zI (l.length:Int)),(10,zI (zz.1:Int))]) (fun zz=>[.l zz.2.2]) (fun zz=>zz.1≤l.length∧aA zz.2.1 2 81 dC ((l.take zz.1).filter fun x=>IZ x.n) zz.2.2) (fun zz=>l.length-zz.1) (⟨0,zS,[]⟩) ⟨by dsimp only;omega,aA.nil _ _ _⟩ [0] ?_
 rintro⟨k,vO,LO⟩ hI K1 bP rest
 dsimp only at hI
 refine zD 5<|zJ 11 ((k:Int) <(l.length:Int)) (fun h1=>?_) fun h1=>?_
 ·
  refine zD 6 ?_
  obtain⟨y7,qS⟩:=zG l k
  refine fK eZ 2 lA qS<|jl 0 (lZ _ _ qS)<|jn fun b7=>jd 6 [0,0]<|jp (vs:=[.agg ⟨[zI y7.n,zI y7.l]⟩]) [] [] (fun aJ hs hZ=>(aKp (x:=y7)))<|zD 1<|js 16 (IZ y7.n) (fun h2=>?_) (fun h2=>?_)
  ·
   refine jd 4 [0]<|jn fun J8=>cH dC J8 (⟨y7.n,y7.l⟩:ar) 2 0 hI.2 rfl rfl (by have:=List.length_filter_le (fun x:ar=>IZ x.n) (l.take k);rw[List.length_take] at this;omega) (fun at6 atU L20 WE=>?_)
   refine zD 3<|zW ((k:Int)+1)<|zD 2<|zF bP (⟨k+1,(.slice at6 ((((l.take k).filter fun x=>IZ x.n)++[(⟨y7.n,y7.l⟩:ar)])).length atU),L20⟩) (by rw[sG qS,show IZ y7.n=true from (by assumption)];exact WE) [0]
  refine zD 3<|zW ((k:Int)+1)<|zD 2<|zF bP (⟨k+1,vO,LO⟩) (by rw[sG qS,show IZ y7.n=false from (by assumption)];simpa using hI.2) [1]
 refine zD 8<|zR (vO) [] [0] LO (by have:=hI.2;rwa[List.take_of_length_le (by omega)] at this)
theorem aam{v:Value}{S:List (List ar)}{l:List ar}{ck c2 c3 c4:Int}{F:List (ak×Value)}(hS:cD ro v S)(hO:eF S)(hl:S[s]?=some l) (hm:j9 rm oS F LM) (hk:F.map (·.1)=bD S) (hM:MV Z F id):ee zT 271 [.agg ⟨[v]⟩,.agg ⟨[zI ck,zI (s:Int),zI c2,zI c3,zI c4,zI c5,zI c6]⟩,(.map (some rm))] ro (LM++Z) (fun r Y=>∃F' L' Z',r= zI 0∧Y=L'++Z'∧j9 rm oS F' L'∧F'.map (·.1)=bD S∧MV Z' F' (gU (aeJ (s:Int) l))):=by
 obtain⟨ws,ht,dk⟩:=hS
 obtain⟨fx,BA,By,ez,rfl,Bz,tx,tw⟩:=ht
 have hln:=dk.len
 have Kz:=hO.two
 have MQ:=(List.getElem?_eq_some_iff.1 hl).1
 have hlm:=zL hl
 have hll:=hO.len _ hlm
 refine zC [.l LM,.l Z]<|zD 2<|jn fun b3=>jn fun b4=>zD 4<|GD [1,0,1] [] (fun(zz:Nat×Value×Value×Cells×Cells)=>[(2,(.map (some rm))),(4,zP b4),(6,zI 0),(25,.slice (some ⟨zz.1,0,none⟩) 2 2),(26,zI 2),(27,zI 0)]) (fun zz=>[.b zz.1 (.cells ⟨[zz.2.1,zz.2.2.1]⟩ 82 (0,0)),.l zz.2.2.2.1,.l zz.2.2.2.2,.l LM,.l Z,.b b4 (.cells ⟨[zI ck,zI (s:Int),zI c2,zI c3,zI c4,zI c5,zI c6]⟩ 85 (0,0)),.b b3 (.cells ⟨[.slice fx ws.length ez]⟩ 25 (0,0))]) (fun zz=>aA zz.2.1 2 81 dC (l.filter fun x=>As x.n) zz.2.2.2.1∧aA zz.2.2.1 2 81 dC (l.filter fun x=>IZ x.n) zz.2.2.2.2) ?_ (fun K1 bP=>?_)
 ·
  rintro⟨oI,v1,v2,L1,L2⟩ hC rest
  dsimp only at hC
  refine jf [0,1,2] ((oI,.cells ⟨[v1,v2]⟩ 82 (0,0))::(L1++L2)) (fun ya cu iX=>?_)
  have hhv:=bX (enc:=gL) (T:=82) [v1,v2] (iX _ (.head _)) (fun _ _=>rfl)
  have aHD:dc (fun w l=>bJ ya w 2 dC l) [v1,v2] (sB l):= .cons (hC.1.jR (Knows.left (Knows.tail iX))) (.cons (hC.2.jR (Knows.right (Knows.tail iX))) .nil)
  have hvl: [v1,v2].length=2:=rfl
  obtain⟨qga,qgb,qgo,qgc,SW,qgk,qgh,qgl⟩:=hhv
  simp only[Value.slice.injEq] at SW
  obtain⟨rfl,_,rfl⟩:=SW
  refine zD 1<|dH [1,0,1,0,0] [] (fun(zz:Nat×(List (ak×Value))×Cells×Cells)=>[(2,(.map (some rm))),(4,zP b4),(6,zI 0),(25,.slice (some ⟨oI,0,none⟩) 2 2),(26,zI 2),(27,zI (zz.1:Int))]) (fun(zz:Nat×(List (ak×Value))×Cells×Cells)=>[.l zz.2.2.1,.l zz.2.2.2,.b b4 (.cells ⟨[zI ck,zI (s:Int),zI c2,zI c3,zI c4,zI c5,zI c6]⟩ 85 (0,0)),.b b3 (.cells ⟨[.slice fx ws.length ez]⟩ 25 (0,0))]) (fun(zz:Nat×(List (ak×Value))×Cells×Cells)=>zz.1≤2∧j9 rm oS zz.2.1 zz.2.2.1∧zz.2.1.map (·.1)=bD S∧MV zz.2.2.2 zz.2.1 (gU (((sB l).take zz.1).flatMap (Kj (s:Int))))) (fun(zz:Nat×(List (ak×Value))×Cells×Cells)=>2-zz.1) (⟨0,F,LM,Z⟩) ⟨by dsimp only;omega,hm,hk,hM⟩ (zN 0 4) ?_
  rintro⟨k,F,LM,Z⟩ hI K2 lL rest
  dsimp only at hI
  refine zD 5<|zJ 28 ((k:Int) <2) (fun h4=>?_) fun h4=>?_
  ·
   refine zD 6 ?_
   obtain⟨ND,BV⟩:=zG ([v1,v2]) k
   refine fK 2 1 qgh BV ?_
   obtain⟨V8,axS,Pd⟩:=aHD.get BV
   obtain aG8:V8.length≤4:=by have:=ajf (zL axS);omega
   obtain⟨aEc,bhU,bhS,anG,rfl,bhT,aEb,aEa⟩:=Pd
   refine jl 0 (qgl _ _ BV)<|zD 9<|dH [1,0,1,0,0,1,1,0,0,1,1,0,0] [K2] (fun(zz:Nat×(List (ak×Value))×Cells×Cells)=>[(2,(.map (some rm))),(4,zP b4),(6,zI 0),(8,.slice aEc V8.length anG),(25,.slice (some ⟨oI,0,none⟩) 2 2),(26,zI 2),(27,zI (k:Int)),(31,.slice aEc V8.length anG),(32,zI (V8.length:Int)),(33,zI (zz.1:Int))]) (fun(zz:Nat×(List (ak×Value))×Cells×Cells)=>[.l zz.2.2.1,.l zz.2.2.2,.b b4 (.cells ⟨[zI ck,zI (s:Int),zI c2,zI c3,zI c4,zI c5,zI c6]⟩ 85 (0,0)),.b b3 (.cells ⟨[.slice fx ws.length ez]⟩ 25 (0,0))]) (fun(zz:Nat×(List (ak×Value))×Cells×Cells)=>zz.1≤V8.length∧j9 rm oS zz.2.1 zz.2.2.1∧zz.2.1.map (·.1)=bD S∧MV zz.2.2.2 zz.2.1 (gU (((sB l).take k).flatMap (Kj (s:Int))++(Kj (s:Int) V8).take zz.1))) (fun(zz:Nat×(List (ak×Value))×Cells×Cells)=>V8.length-zz.1) (⟨0,F,LM,Z⟩) ⟨by dsimp only;omega,hI.2.1,hI.2.2.1,by simpa using hI.2.2.2⟩ (zN 0 4) ?_
   rintro⟨i,F,LM,Z⟩ hJ K3 J0 rest
   dsimp only at hJ
   refine zD 5<|zJ 34 ((i:Int) <(V8.length:Int)) (fun h5=>?_) fun h5=>?_
   ·
    refine zD 7 ?_
    obtain⟨x36,AE⟩:=zG V8 i
    refine fK anG 2 aEb AE<|jl 0 (aEa _ _ AE)<|jn fun pX=>jd 14 [0,3,0,3]<|zW ((V8.length:Int)-1)<|zD 1<|zW (((V8.length:Int)-1)-(i:Int)) ?_
    obtain⟨x51,FU⟩:=zG V8 (((((V8.length:Int)-1)-(i:Int))).toNat)
    refine CU (((V8.length:Int)-1)-(i:Int)) anG 2 aEb FU (by omega)<|jl 0 (aEa _ _ FU)<|zD 1<|aP 16 fun sR sX qZ=>jn fun b54=>dW qZ (zN 1 5)<|aP 17 fun Bg Br B7=>jmu (kv:=oS) (F:=F) (r:=rm) (K:=132) 2 (nG (s:Int) x36) (.slice (some ⟨b54,0,none⟩) 1 1) BQ hJ.2.1 fun Lm8 hm8=>eB B7<|zD 2<|zW ((i:Int)+1)<|zD 2 ?_
    have hup:=MV.upd (T:=132) (b:=b54) (y:=nG s x51) hO hJ.2.2.2 hJ.2.2.1 hl (aje (zL axS) (zL AE))
    exact zV J0 (⟨i+1,_,Lm8,Z++[(b54,.cells ⟨[zI (s:Int),zI x51.n,zI x51.l]⟩ 132 (0,0))]⟩) ⟨by dsimp only;omega,hm8,hup.2,by rw[cG (anp AE FU),←List.append_assoc];exact hup.1⟩ [[0],[3,1],[4],[5]]
   refine zD 3<|zW ((k:Int)+1)<|zD 2<|zF lL (⟨k+1,F,LM,Z⟩) ⟨hJ.2.1,hJ.2.2.1,by have:=hJ.2.2.2;rw[List.take_of_length_le (l:=Kj (s:Int) V8) (by rw[afm];omega)] at this;rw[ap3 axS];exact this⟩ [0,1,2,3]
  refine zD 7<|aN q0.a (zI 0) [] [0,1] (LM++Z) cu ⟨_,_,rfl,rfl,F,LM,Z,rfl,rfl,hI.2.1,hI.2.2.1,by have:=hI.2.2.2;rwa[show k=2 by omega] at this⟩
 refine jd 5 [1,0] ?_
 obtain⟨Bi,ahS⟩:=zG ws s
 refine fK ez 1 tx ahS ?_
 obtain⟨l16,aHr,Ga⟩:=dk.get ahS
 obtain bkd:=hO.len _ (zL aHr)
 obtain ayp:l16=l:=Option.some.inj (aHr.symm.trans hl)
 obtain⟨aEu,aSA,aSw,aEt,rfl,aSy,aSz,aSx⟩:=Ga
 refine jl 0 (tw _ _ ahS)<|jd 4 [1,0] ?_
 obtain⟨gN,ig⟩:=zG ws s
 refine fK ez 1 tx ig ?_
 obtain⟨l23,aHo,CZ⟩:=dk.get ig
 obtain bka:=hO.len _ (zL aHo)
 obtain aWe:l23=l:=Option.some.inj (aHo.symm.trans hl)
 obtain⟨aEj,aSo,aSk,aEi,rfl,aSm,aSn,aSl⟩:=CZ
 refine jl 0 (tw _ _ ig)<|zD 1<|aP 6 fun ad4 aeQ W7=>jc (vs:=[.slice aEu l16.length aEt,.func (.func 299) ⟨[]⟩ ⟨[]⟩]) [] (aj9 (show bJ _ _ _ _ _ from ⟨aEu,aSA,aSw,aEt,rfl,aSy,aSz,aSx⟩) (by omega)) ?_
 rintro v17 L17 Eb
 obtain⟨FB,FA,aps⟩:=Eb.form
 subst aps
 refine dW W7 (zN 1 4)<|aP 13 fun aa8 abl O6=>jc (vs:=[.slice aEj l23.length aEi,.func (.func 300) ⟨[]⟩ ⟨[]⟩]) [] (aj8 (show bJ _ _ _ _ _ from ⟨aEj,aSo,aSk,aEi,rfl,aSm,aSn,aSl⟩) (by omega)) ?_
 rintro v24 L24 aGP
 obtain⟨at5,atT,aVW⟩:=aGP.form
 subst aVW
 refine dW O6 (zN 1 5)<|aP 14 fun UF U3 W6=>jn fun oI=>dW W6 (zN 1 6)<|zD 2<|bF bP ⟨oI,(.slice FB (l16.filter fun x=>As x.n).length FA),(.slice at5 (l23.filter fun x=>IZ x.n).length atT),L17,L24⟩ ⟨by rw[←ayp];exact Eb,by rw[←aWe];exact aGP⟩ Nat.zero_lt_one [0,2,1,5,6,3,4] (Sub.refl _)
theorem Yw{s:Int}{l:List ar}{x:ar}(h:l[i]?=some x):(LJ s l)[i]?=some (nG s x,⟨s,if As x.n=true then x.n+1 else x.n-1,x.l⟩):=agK h
theorem aoP{s o r:Int}{l:List ar}{x:ar}(h:l[i]?=some x):(MM s o l r)[i]?=some (nG s x,⟨o,x.n+r,x.l⟩):=agK h
theorem raise_at{l:List ar}{x:ar}(h:l[(((l.length:Int)-1)).toNat]?=some x):s8 l=x.n+Int.tmod x.n 2:=by
 have:l[l.length-1]?=some x:=by rw[←h];congr 1;omega
 simp only[s8,this]
theorem abJ{l:List ar}(h:¬(l.length:Int)>0):s8 l=0:=by
 have:l=[]:=List.eq_nil_of_length_eq_zero (by omega)
 subst this;rfl
theorem tm2{n:Int}(h:1≤n∧n≤9):0≤Int.tmod n 2∧Int.tmod n 2≤1:=by
 rw[Int.tmod_eq_emod_of_nonneg (by omega)]
 omega
theorem afB{l:List ar}(h:∀x∈l,CE x):0≤s8 l∧s8 l≤10:=by
 unfold s8
 split
 ·rename_i y hy
  have h1:=(h y (zL hy)).1
  have:=tm2 h1
  omega
 omega
theorem Tk{v:Value}{S:List (List ar)}{l:List ar}{ck c2 c3 c4:Int}{F:List (ak×Value)}(hS:cD ro v S)(hO:eF S)(hl:S[s]?=some l) (hm:j9 rm oS F LM) (hk:F.map (·.1)=bD S) (hM:MV Z F id):ee zT 272 [.agg ⟨[v]⟩,.agg ⟨[zI ck,zI (s:Int),zI c2,zI c3,zI c4,zI c5,zI c6]⟩,(.map (some rm))] ro (LM++Z) (fun r Y=>∃F' L' Z',r= zI 0∧Y=L'++Z'∧j9 rm oS F' L'∧F'.map (·.1)=bD S∧MV Z' F' (gU (LJ (s:Int) l))):=by
 obtain⟨ws,ht,dk⟩:=hS
 obtain⟨fx,BA,By,ez,rfl,Bz,tx,tw⟩:=ht
 have hln:=dk.len
 have Kz:=hO.two
 have MQ:=(List.getElem?_eq_some_iff.1 hl).1
 have hlm:=zL hl
 have hll:=hO.len _ hlm
 refine zC [.l LM,.l Z]<|zD 2<|jn fun b3=>jn fun b4=>jd 9 [1,0] ?_
 obtain⟨gk,eS⟩:=zG ws s
 refine fK ez 1 tx eS ?_
 obtain⟨Um,acB,xz⟩:=dk.get eS
 obtain aVu:=hO.len _ (zL acB)
 obtain O2:Um=l:=Option.some.inj (acB.symm.trans hl)
 obtain aUm:=hO.ok _ (zL acB)
 obtain⟨avg,aSD,aSB,afP,rfl,aSC,avf,ave⟩:=xz
 refine jl 0 (tw _ _ eS)<|zD 4<|dH [1,0,1,0,0] [] (fun(zz:Nat×(List (ak×Value))×Cells×Cells)=>[(2,(.map (some rm))),(4,zP b4),(6,zI 0),(15,.slice avg Um.length afP),(16,zI (Um.length:Int)),(17,zI (zz.1:Int))]) (fun(zz:Nat×(List (ak×Value))×Cells×Cells)=>[.l zz.2.2.1,.l zz.2.2.2,.b b4 (.cells ⟨[zI ck,zI (s:Int),zI c2,zI c3,zI c4,zI c5,zI c6]⟩ 85 (0,0)),.b b3 (.cells ⟨[.slice fx ws.length ez]⟩ 25 (0,0))]) (fun(zz:Nat×(List (ak×Value))×Cells×Cells)=>zz.1≤Um.length∧j9 rm oS zz.2.1 zz.2.2.1∧zz.2.1.map (·.1)=bD S∧MV zz.2.2.2 zz.2.1 (gU ((LJ (s:Int) l).take zz.1))) (fun(zz:Nat×(List (ak×Value))×Cells×Cells)=>Um.length-zz.1) (⟨0,F,LM,Z⟩) ⟨by dsimp only;omega,hm,hk,hM⟩ [2,3,0,1] ?_
 rintro⟨i,F,LM,Z⟩ hI K1 bP rest
 dsimp only at hI
 refine zD 5<|zJ 18 ((i:Int) <(Um.length:Int)) (fun h1=>?_) fun h1=>?_
 ·
  refine zD 6 ?_
  obtain⟨Gn,yT⟩:=zG Um i
  refine fK afP 2 avf yT<|jl 0 (ave _ _ yT)<|jn fun b8=>jd 3 [0] ?_
  have KB:=aUm _ (zL yT)
  have aUN:=KB.1.1
  have aUM:=KB.1.2
  refine jd 3 [0]<|zW (Gn.n-1)<|jd 6 [0]<|jp (vs:=[.agg ⟨[zI Gn.n,zI Gn.l]⟩]) [] [] (fun aJ hs hZ=>(aKi (x:=Gn)))<|zD 1<|js 25 (As Gn.n) (fun h2=>?_) (fun h2=>?_)
  ·
   refine jd 4 [0]<|zW (Gn.n+1)<|jd 13 [3,0,3,0]<|jp (vs:=[zI (s:Int),zI (Gn.n+1),zI Gn.l]) [] [] (fun aJ hs hZ=>gAt)<|aP 11 fun zw Ab yZ=>jn fun xR=>dW yZ (zN 1 5)<|aP 12 fun tA tH q5=>jmu (kv:=oS) (F:=F) (r:=rm) (K:=132) 2 (nG (s:Int) Gn) (.slice (some ⟨xR,0,none⟩) 1 1) BQ hI.2.1 fun Lm5 hm5=>eB q5<|zD 2<|zW ((i:Int)+1)<|zD 2 ?_
   have hup:=MV.upd (T:=132) (b:=xR) (y:=⟨s,Gn.n+1,Gn.l⟩) hO hI.2.2.2 hI.2.2.1 hl (by rw[←O2];exact zL yT)
   exact zV bP (⟨i+1,_,Lm5,Z++[(xR,.cells ⟨[zI (s:Int),zI (Gn.n+1),zI Gn.l]⟩ 132 (0,0))]⟩) ⟨by dsimp only;omega,hm5,hup.2,by rw[cG (Yw (by rw[←O2];exact yT))];rw[if_pos (by assumption)];exact hup.1⟩ [[0],[3,1],[4],[5]]
  refine jd 13 [3,0,3,0]<|jp (vs:=[zI (s:Int),zI (Gn.n-1),zI Gn.l]) [] [] (fun aJ hs hZ=>gAt)<|aP 11 fun sR sX qZ=>jn fun xR=>dW qZ (zN 1 5)<|aP 12 fun Bg Br B7=>jmu (kv:=oS) (F:=F) (r:=rm) (K:=132) 2 (nG (s:Int) Gn) (.slice (some ⟨xR,0,none⟩) 1 1) BQ hI.2.1 fun Lm8 hm8=>eB B7<|zD 2<|zW ((i:Int)+1)<|zD 2 ?_
  have hup:=MV.upd (T:=132) (b:=xR) (y:=⟨s,Gn.n-1,Gn.l⟩) hO hI.2.2.2 hI.2.2.1 hl (by rw[←O2];exact zL yT)
  exact zV bP (⟨i+1,_,Lm8,Z++[(xR,.cells ⟨[zI (s:Int),zI (Gn.n-1),zI Gn.l]⟩ 132 (0,0))]⟩) ⟨by dsimp only;omega,hm8,hup.2,by rw[cG (Yw (by rw[←O2];exact yT))];rw[if_neg (by rw[show As Gn.n=false from (by assumption)];decide)];exact hup.1⟩ [[0],[3,1],[4],[5]]
 refine zD 7<|zR (zI 0) [] [0,1] (LM++Z) ⟨F,LM,Z,rfl,rfl,hI.2.1,hI.2.2.1,by have:=hI.2.2.2;rwa[List.take_of_length_le (by simp only[LJ,List.length_map];rw[←O2];omega)] at this⟩
theorem apY{v:Value}{S:List (List ar)}{o:Nat}{l lo:List ar}{ck c3 c4:Int}{F:List (ak×Value)}(hS:cD ro v S)(hO:eF S)(hl:S[s]?=some l) (hm:j9 rm oS F LM) (hk:F.map (·.1)=bD S) (hM:MV Z F id) (B2:S[o]?=some lo):ee zT 274 [.agg ⟨[v]⟩,.agg ⟨[zI ck,zI (s:Int),zI (o:Int),zI c3,zI c4,zI c5,zI c6]⟩,(.map (some rm))] ro (LM++Z) (fun r Y=>∃F' L' Z',r= zI 0∧Y=L'++Z'∧j9 rm oS F' L'∧F'.map (·.1)=bD S∧MV Z' F' (gU (MM (s:Int) (o:Int) l (s8 lo)))):=by
 obtain⟨ws,ht,dk⟩:=hS
 obtain⟨fx,BA,By,ez,rfl,Bz,tx,tw⟩:=ht
 have hln:=dk.len
 have Kz:=hO.two
 have MQ:=(List.getElem?_eq_some_iff.1 hl).1
 have hlm:=zL hl
 have hll:=hO.len _ hlm
 have hso:=(List.getElem?_eq_some_iff.1 B2).1
 have aHd:=zL B2
 have hr:=afB (hO.ok _ aHd)
 have bkh:=hO.len _ aHd
 refine zC [.l LM,.l Z]<|zD 2<|jn fun b3=>jn fun b4=>jd 8 [1,0] ?_
 obtain⟨lF,jV⟩:=zG ws s
 refine fK ez 1 tx jV ?_
 obtain⟨l18,axV,KP⟩:=dk.get jV
 obtain bkc:=hO.len _ (zL axV)
 obtain aiZ:l18=l:=Option.some.inj (axV.symm.trans hl)
 obtain kH:=hO.ok _ (zL axV)
 obtain⟨aEp,bh6,bh4,avd,rfl,bh5,aSv,aSu⟩:=KP
 refine jl 0 (tw _ _ jV)<|jd 4 [1,0] ?_
 obtain⟨A5,tV⟩:=zG ws o
 refine fK ez 1 tx tV ?_
 obtain⟨V9,WL,Qi⟩:=dk.get tV
 obtain aHa:=hO.len _ (zL WL)
 obtain aiY:V9=lo:=Option.some.inj (WL.symm.trans B2)
 obtain aGh:=hO.ok _ (zL WL)
 obtain⟨avc,aEh,aEf,afN,rfl,aEg,anI,anH⟩:=Qi
 refine jl 0 (tw _ _ tV)<|zD 10<|zW ((l18.length:Int)+(V9.length:Int))<|zD 2<|zJ 30 (((l18.length:Int)+(V9.length:Int))>8) (fun h1=>?_) fun h1=>?_
 ·
  exfalso;omega
 refine zD 18<|GD [1,1,1,1,1] [] (fun(zz:Int)=>[(2,(.map (some rm))),(4,zP b4),(6,zI 0),(7,.slice aEp l18.length avd),(9,zI zz)]) (fun zz=>[.l LM,.l Z,.b b4 (.cells ⟨[zI ck,zI (s:Int),zI (o:Int),zI c3,zI c4,zI c5,zI c6]⟩ 85 (0,0)),.b b3 (.cells ⟨[.slice fx ws.length ez]⟩ 25 (0,0))]) (fun zz=>zz=s8 lo) ?_ (fun K1 bP=>?_)
 ·
  rintro q hQ rest
  refine zD 8<|dH [1,1,1,1,1,0,1,0,0] [] (fun(zz:Nat×(List (ak×Value))×Cells×Cells)=>[(2,(.map (some rm))),(4,zP b4),(9,zI q),(49,.slice aEp l18.length avd),(50,zI (l18.length:Int)),(51,zI (zz.1:Int))]) (fun(zz:Nat×(List (ak×Value))×Cells×Cells)=>[.l zz.2.2.1,.l zz.2.2.2,.b b4 (.cells ⟨[zI ck,zI (s:Int),zI (o:Int),zI c3,zI c4,zI c5,zI c6]⟩ 85 (0,0)),.b b3 (.cells ⟨[.slice fx ws.length ez]⟩ 25 (0,0))]) (fun(zz:Nat×(List (ak×Value))×Cells×Cells)=>zz.1≤l18.length∧j9 rm oS zz.2.1 zz.2.2.1∧zz.2.1.map (·.1)=bD S∧MV zz.2.2.2 zz.2.1 (gU ((MM (s:Int) (o:Int) l (s8 lo)).take zz.1))) (fun(zz:Nat×(List (ak×Value))×Cells×Cells)=>l18.length-zz.1) (⟨0,F,LM,Z⟩) ⟨by dsimp only;omega,hm,hk,hM⟩ (zN 0 4) ?_
  rintro⟨i,F,LM,Z⟩ hI K2 lL rest
  dsimp only at hI
  refine zD 5<|zJ 52 ((i:Int) <(l18.length:Int)) (fun h2=>?_) fun h2=>?_
  ·
   refine zD 6 ?_
   obtain⟨x53,ahJ⟩:=zG l18 i
   refine fK avd 2 aSv ahJ<|jl 0 (aSu _ _ ahJ)<|jn fun xS=>jd 4 [0] ?_
   have KB:=kH _ (zL ahJ)
   have aUN:=KB.1.1
   have aUM:=KB.1.2
   refine jd 4 [0]<|zW (x53.n+q)<|zD 2<|zJ 59 ((x53.n+q)>40) (fun h3=>?_) fun h3=>?_
   ·
    exfalso;omega
   refine jd 13 [3,0,3,0]<|zW (x53.n+q)<|jd 2 [0]<|jp (vs:=[zI (o:Int),zI (x53.n+q),zI x53.l]) [] [] (fun aJ hs hZ=>gAt)<|aP 14 fun tA tH q5=>jn fun b74=>dW q5 (zN 1 5)<|aP 15 fun sR sX qZ=>jmu (kv:=oS) (F:=F) (r:=rm) (K:=132) 2 (nG (s:Int) x53) (.slice (some ⟨b74,0,none⟩) 1 1) BQ hI.2.1 fun Lm6 hm6=>eB qZ<|zD 2<|zW ((i:Int)+1)<|zD 2 ?_
   have hup:=MV.upd (T:=132) (b:=b74) (y:=⟨o,x53.n+q,x53.l⟩) hO hI.2.2.2 hI.2.2.1 hl (by rw[←aiZ];exact zL ahJ)
   exact zV lL (⟨i+1,_,Lm6,Z++[(b74,.cells ⟨[zI (o:Int),zI (x53.n+q),zI x53.l]⟩ 132 (0,0))]⟩) ⟨by dsimp only;omega,hm6,hup.2,by rw[cG (aoP (by rw[←aiZ];exact ahJ))];have e:=hup.1;rw[hQ] at e ⊢;exact e⟩ [[0],[3,1],[4],[5]]
  refine zD 7<|zR (zI 0) [] [0,1] (LM++Z) ⟨F,LM,Z,rfl,rfl,hI.2.1,hI.2.2.1,by have:=hI.2.2.2;rwa[List.take_of_length_le (by simp only[MM,List.length_map];rw[←aiZ];omega)] at this⟩
 refine zJ 34 ((V9.length:Int)>0) (fun h7=>?_) fun h7=>?_
 ·
  refine zD 4<|zW ((V9.length:Int)-1) ?_
  obtain⟨x38,OL⟩:=zG V9 ((((V9.length:Int)-1)).toNat)
  refine CU ((V9.length:Int)-1) afN 2 anI OL (by omega)<|zD 1<|jl 0 (anH _ _ OL)<|zD 2<|zW ((V9.length:Int)-1) ?_
  obtain⟨x44,Kx⟩:=zG V9 ((((V9.length:Int)-1)).toNat)
  refine CU ((V9.length:Int)-1) afN 2 anI Kx (by omega)<|zD 1<|jl 0 (anH _ _ Kx)<|zD 1<|ja (x38.n+(Int.tmod x44.n 2)) (by have h1:=(aGh _ (zL OL)).1;have h2:=(aGh _ (zL Kx)).1;have:=tm2 h2;omega) ?_
  refine zD 2 ?_
  have hra:=raise_at OL
  rw[aiY] at hra
  exact bF bP (x38.n+(Int.tmod x44.n 2)) (by rw[←aiY];have e:x38=x44:=Option.some.inj (OL.symm.trans Kx);subst e;exact(raise_at OL).symm) Nat.zero_lt_one [2,3,0,1] (Sub.refl _)
 refine zD 2<|bF bP 0 (by rw[←aiY];exact(abJ (by omega)).symm) Nat.zero_lt_one [2,3,0,1] (Sub.refl _)
def azE(S:List (List ar))(c:aO):List (ak×ak):=
 if c.k=1 then aeJ c.st (S[c.st.toNat]?.getD []) else if c.k=2 then LJ c.st (S[c.st.toNat]?.getD []) else MM c.st c.ot (S[c.st.toNat]?.getD []) (s8 (S[c.ot.toNat]?.getD []))
def m8(S:List (List ar))(c:aO)(x:ak):ak:=gU (azE S c) x
theorem pE{l:List α}(h:l.length=2):∃a b,l=[a,b]:=by
 match l,h with
 | [a,b],_=>exact⟨a,b,rfl⟩
theorem Tl:dG zT 243 [] ro (.agg ⟨[.nilFunc,.func (.func 271) ⟨[]⟩ ⟨[]⟩,.func (.func 272) ⟨[]⟩ ⟨[]⟩,.func (.func 273) ⟨[]⟩ ⟨[]⟩,.func (.func 274) ⟨[]⟩ ⟨[]⟩,.func (.func 275) ⟨[]⟩ ⟨[]⟩,.func (.func 276) ⟨[]⟩ ⟨[]⟩,.func (.func 277) ⟨[]⟩ ⟨[]⟩]⟩):=by
 refine zE<|zD 2<|jn fun b0=>jd 7 [0]<|zR (.agg ⟨[.nilFunc,.func (.func 271) ⟨[]⟩ ⟨[]⟩,.func (.func 272) ⟨[]⟩ ⟨[]⟩,.func (.func 273) ⟨[]⟩ ⟨[]⟩,.func (.func 274) ⟨[]⟩ ⟨[]⟩,.func (.func 275) ⟨[]⟩ ⟨[]⟩,.func (.func 276) ⟨[]⟩ ⟨[]⟩,.func (.func 277) ⟨[]⟩ ⟨[]⟩]⟩) [0] [] [] ⟨rfl,rfl⟩
theorem aKu{v:Value}{S:List (List ar)}(hS:cD ro v S)(hO:eF S):ee zT 204 [.agg ⟨[v]⟩,.agg ⟨[zI 1,zI 0,zI 0,zI 0,zI 0,zI 0,zI 0]⟩] ro [] (fun r Y=>∃rm F LM Z,r= .tuple ⟨[.map (some rm),zI 0]⟩∧Y=LM++Z∧j9 rm oS F LM∧F.map (·.1)=bD S∧MV Z F (m8 S ⟨1,0,0,0,0,0,0⟩)):=by
 obtain⟨p,q,rfl⟩:=pE hO.two
 have uC:=hS
 obtain⟨ws,ht,dk⟩:=hS
 obtain⟨w1,w2,rfl⟩:=pE (dk.len.trans hO.two)
 obtain⟨fx,BA,By,ez,rfl,Bz,tx,tw⟩:=ht
 refine zE<|zD 2<|jn fun b2=>jn fun b3=>jd 8 [0]<|jp (vs:=[zI 1,zI 1,zI 7]) [] [] (fun aJ hs hZ=>B8)<|jd 18 [1,0]<|jp (vs:=[zI 0,zI 0,zI 1]) [] [] (fun aJ hs hZ=>B8)<|jd 70 [0,0,0,0,0,0]<|jne HJ (xI 0 0 0 0)<|zD 3<|js 73 (!(0==0&&(0==0&&true))) (fun h1=>?_) (fun h1=>?_)
 ·
  have gM:=h1
  try simp only[zB] at gM
  exact absurd gM (by decide)
 have gM:=h1
 try simp only[zB] at gM
 refine jd 6 [0]<|jne HJ (xI 0 0 0 0)<|zD 3<|js 82 (!(0==0&&(0==0&&true))) (fun h2=>?_) (fun h2=>?_)
 ·
  exact absurd h2 (by decide)
 refine jd 5 [1]<|jc (vs:=[.agg ⟨[.slice fx 2 ez]⟩]) [] (M7 (uC) hO) ?_
 rintro _ _ ⟨rm,F,LM,Z,rfl,rfl,hmM,hkM,hMM⟩
 refine jg 0 [.l LM,.l Z]<|jd 10 [2,3,2]<|jp [] [] (fun aJ hs hZ=>Tl)<|zD 1<|aP 7 fun C5 Dc Ba=>jc (vs:=[.agg ⟨[.slice fx 2 ez]⟩,.agg ⟨[zI 1,zI 0,zI 0,zI 0,zI 0,zI 0,zI 0]⟩,(.map (some rm))]) [0,1] (aam (s:=0) uC hO rfl hmM hkM hMM) ?_
 rintro _ _ ⟨F2,P0,Z2,rfl,rfl,GJ,iX,hM2⟩
 refine jg 0 [.l P0,.l Z2]<|eW Ba [[2]]<|zD 16<|zR (.tuple ⟨[(.map (some rm)),zI 0]⟩) [] [0,1] (P0++Z2) ⟨rm,F2,P0,Z2,rfl,rfl,GJ,iX,hM2⟩
theorem aKt{v:Value}{S:List (List ar)}(hS:cD ro v S)(hO:eF S):ee zT 204 [.agg ⟨[v]⟩,.agg ⟨[zI 2,zI 0,zI 0,zI 0,zI 0,zI 0,zI 0]⟩] ro [] (fun r Y=>∃rm F LM Z,r= .tuple ⟨[.map (some rm),zI 0]⟩∧Y=LM++Z∧j9 rm oS F LM∧F.map (·.1)=bD S∧MV Z F (m8 S ⟨2,0,0,0,0,0,0⟩)):=by
 obtain⟨p,q,rfl⟩:=pE hO.two
 have uC:=hS
 obtain⟨ws,ht,dk⟩:=hS
 obtain⟨w1,w2,rfl⟩:=pE (dk.len.trans hO.two)
 obtain⟨fx,BA,By,ez,rfl,Bz,tx,tw⟩:=ht
 refine zE<|zD 2<|jn fun b2=>jn fun b3=>jd 8 [0]<|jp (vs:=[zI 2,zI 1,zI 7]) [] [] (fun aJ hs hZ=>B8)<|jd 18 [1,0]<|jp (vs:=[zI 0,zI 0,zI 1]) [] [] (fun aJ hs hZ=>B8)<|jd 70 [0,0,0,0,0,0]<|jne HJ (xI 0 0 0 0)<|zD 3<|js 73 (!(0==0&&(0==0&&true))) (fun h1=>?_) (fun h1=>?_)
 ·
  have gM:=h1
  try simp only[zB] at gM
  exact absurd gM (by decide)
 have gM:=h1
 try simp only[zB] at gM
 refine jd 6 [0]<|jne HJ (xI 0 0 0 0)<|zD 3<|js 82 (!(0==0&&(0==0&&true))) (fun h2=>?_) (fun h2=>?_)
 ·
  exact absurd h2 (by decide)
 refine jd 5 [1]<|jc (vs:=[.agg ⟨[.slice fx 2 ez]⟩]) [] (M7 (uC) hO) ?_
 rintro _ _ ⟨rm,F,LM,Z,rfl,rfl,hmM,hkM,hMM⟩
 refine jg 0 [.l LM,.l Z]<|jd 10 [2,3,2]<|jp [] [] (fun aJ hs hZ=>Tl)<|zD 1<|aP 7 fun C5 Dc Ba=>jc (vs:=[.agg ⟨[.slice fx 2 ez]⟩,.agg ⟨[zI 2,zI 0,zI 0,zI 0,zI 0,zI 0,zI 0]⟩,(.map (some rm))]) [0,1] (Tk (s:=0) uC hO rfl hmM hkM hMM) ?_
 rintro _ _ ⟨F2,P0,Z2,rfl,rfl,GJ,iX,hM2⟩
 refine jg 0 [.l P0,.l Z2]<|eW Ba [[2]]<|zD 16<|zR (.tuple ⟨[(.map (some rm)),zI 0]⟩) [] [0,1] (P0++Z2) ⟨rm,F2,P0,Z2,rfl,rfl,GJ,iX,hM2⟩
theorem aKs{v:Value}{S:List (List ar)}(hS:cD ro v S)(hO:eF S):ee zT 204 [.agg ⟨[v]⟩,.agg ⟨[zI 1,zI 1,zI 0,zI 0,zI 0,zI 0,zI 0]⟩] ro [] (fun r Y=>∃rm F LM Z,r= .tuple ⟨[.map (some rm),zI 0]⟩∧Y=LM++Z∧j9 rm oS F LM∧F.map (·.1)=bD S∧MV Z F (m8 S ⟨1,1,0,0,0,0,0⟩)):=by
 obtain⟨p,q,rfl⟩:=pE hO.two
 have uC:=hS
 obtain⟨ws,ht,dk⟩:=hS
 obtain⟨w1,w2,rfl⟩:=pE (dk.len.trans hO.two)
 obtain⟨fx,BA,By,ez,rfl,Bz,tx,tw⟩:=ht
 refine zE<|zD 2<|jn fun b2=>jn fun b3=>jd 8 [0]<|jp (vs:=[zI 1,zI 1,zI 7]) [] [] (fun aJ hs hZ=>B8)<|jd 18 [1,0]<|jp (vs:=[zI 1,zI 0,zI 1]) [] [] (fun aJ hs hZ=>B8)<|jd 70 [0,0,0,0,0,0]<|jne HJ (xI 0 0 0 0)<|zD 3<|js 73 (!(0==0&&(0==0&&true))) (fun h1=>?_) (fun h1=>?_)
 ·
  have gM:=h1
  try simp only[zB] at gM
  exact absurd gM (by decide)
 have gM:=h1
 try simp only[zB] at gM
 refine jd 6 [0]<|jne HJ (xI 0 0 0 0)<|zD 3<|js 82 (!(0==0&&(0==0&&true))) (fun h2=>?_) (fun h2=>?_)
 ·
  exact absurd h2 (by decide)
 refine jd 5 [1]<|jc (vs:=[.agg ⟨[.slice fx 2 ez]⟩]) [] (M7 (uC) hO) ?_
 rintro _ _ ⟨rm,F,LM,Z,rfl,rfl,hmM,hkM,hMM⟩
 refine jg 0 [.l LM,.l Z]<|jd 10 [2,3,2]<|jp [] [] (fun aJ hs hZ=>Tl)<|zD 1<|aP 7 fun C5 Dc Ba=>jc (vs:=[.agg ⟨[.slice fx 2 ez]⟩,.agg ⟨[zI 1,zI 1,zI 0,zI 0,zI 0,zI 0,zI 0]⟩,(.map (some rm))]) [0,1] (aam (s:=1) uC hO rfl hmM hkM hMM) ?_
 rintro _ _ ⟨F2,P0,Z2,rfl,rfl,GJ,iX,hM2⟩
 refine jg 0 [.l P0,.l Z2]<|eW Ba [[2]]<|zD 16<|zR (.tuple ⟨[(.map (some rm)),zI 0]⟩) [] [0,1] (P0++Z2) ⟨rm,F2,P0,Z2,rfl,rfl,GJ,iX,hM2⟩
theorem aKr{v:Value}{S:List (List ar)}(hS:cD ro v S)(hO:eF S):ee zT 204 [.agg ⟨[v]⟩,.agg ⟨[zI 2,zI 1,zI 0,zI 0,zI 0,zI 0,zI 0]⟩] ro [] (fun r Y=>∃rm F LM Z,r= .tuple ⟨[.map (some rm),zI 0]⟩∧Y=LM++Z∧j9 rm oS F LM∧F.map (·.1)=bD S∧MV Z F (m8 S ⟨2,1,0,0,0,0,0⟩)):=by
 obtain⟨p,q,rfl⟩:=pE hO.two
 have uC:=hS
 obtain⟨ws,ht,dk⟩:=hS
 obtain⟨w1,w2,rfl⟩:=pE (dk.len.trans hO.two)
 obtain⟨fx,BA,By,ez,rfl,Bz,tx,tw⟩:=ht
 refine zE<|zD 2<|jn fun b2=>jn fun b3=>jd 8 [0]<|jp (vs:=[zI 2,zI 1,zI 7]) [] [] (fun aJ hs hZ=>B8)<|jd 18 [1,0]<|jp (vs:=[zI 1,zI 0,zI 1]) [] [] (fun aJ hs hZ=>B8)<|jd 70 [0,0,0,0,0,0]<|jne HJ (xI 0 0 0 0)<|zD 3<|js 73 (!(0==0&&(0==0&&true))) (fun h1=>?_) (fun h1=>?_)
 ·
  have gM:=h1
  try simp only[zB] at gM
  exact absurd gM (by decide)
 have gM:=h1
 try simp only[zB] at gM
 refine jd 6 [0]<|jne HJ (xI 0 0 0 0)<|zD 3<|js 82 (!(0==0&&(0==0&&true))) (fun h2=>?_) (fun h2=>?_)
 ·
  exact absurd h2 (by decide)
 refine jd 5 [1]<|jc (vs:=[.agg ⟨[.slice fx 2 ez]⟩]) [] (M7 (uC) hO) ?_
 rintro _ _ ⟨rm,F,LM,Z,rfl,rfl,hmM,hkM,hMM⟩
 refine jg 0 [.l LM,.l Z]<|jd 10 [2,3,2]<|jp [] [] (fun aJ hs hZ=>Tl)<|zD 1<|aP 7 fun C5 Dc Ba=>jc (vs:=[.agg ⟨[.slice fx 2 ez]⟩,.agg ⟨[zI 2,zI 1,zI 0,zI 0,zI 0,zI 0,zI 0]⟩,(.map (some rm))]) [0,1] (Tk (s:=1) uC hO rfl hmM hkM hMM) ?_
 rintro _ _ ⟨F2,P0,Z2,rfl,rfl,GJ,iX,hM2⟩
 refine jg 0 [.l P0,.l Z2]<|eW Ba [[2]]<|zD 16<|zR (.tuple ⟨[(.map (some rm)),zI 0]⟩) [] [0,1] (P0++Z2) ⟨rm,F2,P0,Z2,rfl,rfl,GJ,iX,hM2⟩
theorem aKq{v:Value}{S:List (List ar)}(hS:cD ro v S)(hO:eF S):ee zT 204 [.agg ⟨[v]⟩,.agg ⟨[zI 4,zI 1,zI 0,zI 0,zI 0,zI 0,zI 0]⟩] ro [] (fun r Y=>∃rm F LM Z,r= .tuple ⟨[.map (some rm),zI 0]⟩∧Y=LM++Z∧j9 rm oS F LM∧F.map (·.1)=bD S∧MV Z F (m8 S ⟨4,1,0,0,0,0,0⟩)):=by
 obtain⟨p,q,rfl⟩:=pE hO.two
 have uC:=hS
 obtain⟨ws,ht,dk⟩:=hS
 obtain⟨w1,w2,rfl⟩:=pE (dk.len.trans hO.two)
 obtain⟨fx,BA,By,ez,rfl,Bz,tx,tw⟩:=ht
 refine zE<|zD 2<|jn fun b2=>jn fun b3=>jd 8 [0]<|jp (vs:=[zI 4,zI 1,zI 7]) [] [] (fun aJ hs hZ=>B8)<|jd 18 [1,0]<|jp (vs:=[zI 1,zI 0,zI 1]) [] [] (fun aJ hs hZ=>B8)<|jd 33 [0,0,0,0]<|jp (vs:=[zI 0,zI 0,zI 1]) [] [] (fun aJ hs hZ=>B8)<|jd 36 [0,0,0]<|jne HJ (xI 0 0 0 0)<|zD 3<|js 73 (!(0==0&&(0==0&&true))) (fun h1=>?_) (fun h1=>?_)
 ·
  have gM:=h1
  try simp only[zB] at gM
  exact absurd gM (by decide)
 have gM:=h1
 try simp only[zB] at gM
 refine jd 6 [0]<|jne HJ (xI 0 0 0 0)<|zD 3<|js 82 (!(0==0&&(0==0&&true))) (fun h2=>?_) (fun h2=>?_)
 ·
  exact absurd h2 (by decide)
 refine jd 5 [1]<|jc (vs:=[.agg ⟨[.slice fx 2 ez]⟩]) [] (M7 (uC) hO) ?_
 rintro _ _ ⟨rm,F,LM,Z,rfl,rfl,hmM,hkM,hMM⟩
 refine jg 0 [.l LM,.l Z]<|jd 10 [2,3,2]<|jp [] [] (fun aJ hs hZ=>Tl)<|zD 1<|aP 7 fun C5 Dc Ba=>jc (vs:=[.agg ⟨[.slice fx 2 ez]⟩,.agg ⟨[zI 4,zI 1,zI 0,zI 0,zI 0,zI 0,zI 0]⟩,(.map (some rm))]) [0,1] (apY (s:=1) (o:=0) uC hO rfl hmM hkM hMM rfl) ?_
 rintro _ _ ⟨F2,P0,Z2,rfl,rfl,GJ,iX,hM2⟩
 refine jg 0 [.l P0,.l Z2]<|eW Ba [[2]]<|zD 16<|zR (.tuple ⟨[(.map (some rm)),zI 0]⟩) [] [0,1] (P0++Z2) ⟨rm,F2,P0,Z2,rfl,rfl,GJ,iX,hM2⟩
def ab6(n:Nat):Int:=if n=0 then 0 else if n <2 then 1 else if n <4 then 2 else if n <8 then 3 else 4
theorem azv:∀ {n:Nat},n≤12→dG zT 193 [zU (n:Int)] ro (zI (ab6 n))
 |0,_=>by refine bK av [] [] bp (zD 35 (ja 0 (by decide) (zD 3 ?_)));exact aN q0 (zI 0) [] [] [] (Sub.refl _) ⟨_,_,rfl,rfl,rfl,rfl⟩
 |1,_=>by refine bK av [] [] bp (zD 35 (ja 1 (by decide) (zD 3 ?_)));exact aN q0 (zI 1) [] [] [] (Sub.refl _) ⟨_,_,rfl,rfl,rfl,rfl⟩
 |2,_=>by refine bK av [] [] bp (zD 35 (ja 2 (by decide) (zD 3 ?_)));exact aN q0 (zI 2) [] [] [] (Sub.refl _) ⟨_,_,rfl,rfl,rfl,rfl⟩
 |3,_=>by refine bK av [] [] bp (zD 35 (ja 2 (by decide) (zD 3 ?_)));exact aN q0 (zI 2) [] [] [] (Sub.refl _) ⟨_,_,rfl,rfl,rfl,rfl⟩
 |4,_=>by refine bK av [] [] bp (zD 35 (ja 3 (by decide) (zD 3 ?_)));exact aN q0 (zI 3) [] [] [] (Sub.refl _) ⟨_,_,rfl,rfl,rfl,rfl⟩
 |5,_=>by refine bK av [] [] bp (zD 35 (ja 3 (by decide) (zD 3 ?_)));exact aN q0 (zI 3) [] [] [] (Sub.refl _) ⟨_,_,rfl,rfl,rfl,rfl⟩
 |6,_=>by refine bK av [] [] bp (zD 35 (ja 3 (by decide) (zD 3 ?_)));exact aN q0 (zI 3) [] [] [] (Sub.refl _) ⟨_,_,rfl,rfl,rfl,rfl⟩
 |7,_=>by refine bK av [] [] bp (zD 35 (ja 3 (by decide) (zD 3 ?_)));exact aN q0 (zI 3) [] [] [] (Sub.refl _) ⟨_,_,rfl,rfl,rfl,rfl⟩
 |8,_=>by refine bK av [] [] bp (zD 35 (ja 4 (by decide) (zD 3 ?_)));exact aN q0 (zI 4) [] [] [] (Sub.refl _) ⟨_,_,rfl,rfl,rfl,rfl⟩
 |9,_=>by refine bK av [] [] bp (zD 35 (ja 4 (by decide) (zD 3 ?_)));exact aN q0 (zI 4) [] [] [] (Sub.refl _) ⟨_,_,rfl,rfl,rfl,rfl⟩
 |10,_=>by refine bK av [] [] bp (zD 35 (ja 4 (by decide) (zD 3 ?_)));exact aN q0 (zI 4) [] [] [] (Sub.refl _) ⟨_,_,rfl,rfl,rfl,rfl⟩
 |11,_=>by refine bK av [] [] bp (zD 35 (ja 4 (by decide) (zD 3 ?_)));exact aN q0 (zI 4) [] [] [] (Sub.refl _) ⟨_,_,rfl,rfl,rfl,rfl⟩
 |12,_=>by refine bK av [] [] bp (zD 35 (ja 4 (by decide) (zD 3 ?_)));exact aN q0 (zI 4) [] [] [] (Sub.refl _) ⟨_,_,rfl,rfl,rfl,rfl⟩
 |n+13,h=>absurd h (by omega)
theorem aeh(h:n≤1000):Value.int .u64 (IntKind.u64.wrap (n:Int))= zU (n:Int):=by
 rw[tC .u64 rfl _ (by omega) (by simp[IntKind.bits];omega)]
def PV(v:Value)(xs:List ar)(Y:Cells):Prop:=∃ys,ys.Perm xs∧aA v 2 81 dC ys Y
theorem azw(h:n≤12):dG zT 134 [zU (n:Int)] ro (zI (ab6 n)):=by
 refine zE<|zD 10<|jp (vs:=[zU (n:Int)]) [] [] (fun aJ hs hZ=>(azv h))<|zD 3<|zX (zI (ab6 n)) ⟨rfl,rfl⟩
theorem aYW{v:Value}{xs:List ar}{L:Cells}{a b:Int}(ho:aA v 2 81 dC xs L)(hN:xs.length≤1000)(Eh:0≤a∧a≤b∧b≤xs.length):ee zT 283 [v,zI a,zI b,.func (.func 212) ⟨[]⟩ ⟨[]⟩] ro L (fun r Y=>PV v xs Y):=by
 refine zC [.l L]<|zD 3<|zW (a+1)<|zD 3<|dH [1,0,0] [] (fun(zz:Int×(List ar)×Cells)=>[(0,v),(1,zI a),(2,zI b),(3,.func (.func 212) ⟨[]⟩ ⟨[]⟩),(8,zI zz.1)]) (fun zz=>[.l zz.2.2]) (fun zz=>(a+1≤zz.1)∧aA v 2 81 dC zz.2.1 zz.2.2∧zz.2.1.Perm xs) (fun zz=>(b-zz.1).toNat) (⟨(a+1),xs,L⟩) ⟨by dsimp only;omega,ho,.refl _⟩ [0] ?_
 rintro⟨i,ys,L⟩ hI K1 bP rest
 dsimp only at hI
 have ZN:=hI.2.2.length_eq
 refine zD 7<|zJ 14 (i <b) (fun h1=>?_) fun h1=>?_
 ·
  refine zD 10<|dH [1,0,0,1,0,0,1,0,0] [K1] (fun(zz:Int×(List ar)×Cells)=>[(0,v),(1,zI a),(2,zI b),(3,.func (.func 212) ⟨[]⟩ ⟨[]⟩),(8,zI i),(9,zI zz.1)]) (fun zz=>[.l zz.2.2]) (fun zz=>(a≤zz.1∧zz.1≤i)∧aA v 2 81 dC zz.2.1 zz.2.2∧zz.2.1.Perm xs) (fun zz=>(zz.1-a).toNat) (⟨i,ys,L⟩) ⟨by dsimp only;omega,hI.2⟩ [0] ?_
  rintro⟨j,ys,L⟩ hJ K2 lL rest
  dsimp only at hJ
  have ZN:=hJ.2.2.length_eq
  refine zD 7<|js 3 (decide (j>a)) (fun h2=>?_) (fun h2=>?_)
  ·
   have mU:=h2
   replace mU:=of_decide_eq_true mU
   refine zD 3 ?_
   obtain⟨sS,jU⟩:=zG ys (j.toNat) (by first|omega| (simp only[List.length_set];omega))
   refine zH j 2 hJ.2.1 jU fun oI ajd=>n7 0 [0] L (fun s _ hZ=>cB hJ.2.1 ajd hZ jU)<|zD 2<|zW (j-1) ?_
   obtain⟨pw,kS⟩:=zG ys ((j-1).toNat) (by first|omega| (simp only[List.length_set];omega))
   refine zH (j-1) 2 hJ.2.1 kS fun b30 WT=>n7 0 [0] L (fun s _ hZ=>cB hJ.2.1 WT hZ kS)<|aP 14 fun tA tH q5=>jp (vs:=[.agg ⟨[zI sS.n,zI sS.l]⟩,.agg ⟨[zI pw.n,zI pw.l]⟩]) [] [] (fun aJ hs hZ=>(asR (x:=sS) (y:=pw)))<|dW q5 [0]<|zD 3<|zJ 34 ((ac7 sS pw) <0) (fun h4=>?_) fun h4=>?_
   ·
    refine zD 9<|zW (j-1)<|zD 2<|zW (j-1) ?_
    obtain⟨yL,FW⟩:=zG ys ((j-1).toNat) (by first|omega| (simp only[List.length_set];omega))
    refine zH (j-1) 2 hJ.2.1 FW fun b45 ajc=>n7 0 [0] L (fun s _ hZ=>cB hJ.2.1 ajc hZ FW)<|zD 2 ?_
    obtain⟨J9,FV⟩:=zG ys (j.toNat) (by first|omega| (simp only[List.length_set];omega))
    refine zH j 2 hJ.2.1 FV fun b49 ajb=>n7 0 [0] L (fun s _ hZ=>cB hJ.2.1 ajb hZ FV) ?_
    obtain⟨x51,FU⟩:=zG ys (j.toNat) (by first|omega| (simp only[List.length_set];omega))
    refine zH j 2 hJ.2.1 FU fun b51 aja=>aP 15 fun sR sX qZ=>Qc 0 0 [zI yL.n,zI yL.l] (⟨yL.n,yL.l⟩:ar) hJ.2.1 aja FU rfl rfl (Nat.le_of_ble_eq_true rfl) fun L6 ho7=>eW qZ [] ?_
    obtain⟨x52,D5⟩:=zG ((ys.set j.toNat (⟨yL.n,yL.l⟩:ar))) ((j-1).toNat) (by first|omega| (simp only[List.length_set];omega))
    refine zH (j-1) 2 ho7 D5 fun b52 ai9=>aP 17 fun Bg Br B7=>Qc 0 0 [zI J9.n,zI J9.l] (⟨J9.n,J9.l⟩:ar) ho7 ai9 D5 rfl rfl (Nat.le_of_ble_eq_true rfl) fun L9 aiv=>eB B7<|zD 3<|zW (j-1)<|zD 2<|zF lL (⟨(j-1),((ys.set j.toNat (⟨yL.n,yL.l⟩:ar)).set ((j-1).toNat) (⟨J9.n,J9.l⟩:ar)),L9⟩) ⟨aiv,(nY FV FW).trans hJ.2.2⟩ [0]
   refine zD 4<|zW (i+1)<|zD 2<|zF bP (⟨(i+1),ys,L⟩) hJ.2 [0]
  have mU:=h2
  replace mU:=of_decide_eq_false mU
  refine zD 18<|zW (i+1)<|zD 2<|zF bP (⟨(i+1),ys,L⟩) hJ.2 [0]
 refine zD 2<|zR (.tuple ⟨[]⟩) [] [0] L ⟨ys,hI.2.2,hI.2.1⟩
theorem aYU{v:Value}{xs:List ar}{L:Cells}{lim:Int}(ho:aA v 2 81 dC xs L)(hN:xs.length≤12):ee zT 249 [v,zI 0,zI (xs.length:Int),zI lim,.func (.func 212) ⟨[]⟩ ⟨[]⟩] ro L (fun r Y=>PV v xs Y):=by
 refine zC [.l L]<|zD 9<|dH [1,1,0,0] [] (fun(zz:Nat)=>[(0,v),(1,zI 0),(2,zI (xs.length:Int)),(3,zI lim),(4,.func (.func 212) ⟨[]⟩ ⟨[]⟩),(10,.bool true),(11,.bool true)]) (fun zz=>[.l L]) (fun zz=>True) (fun zz=>zz) 0 trivial [0] ?_
 rintro z hI K1 bP rest
 refine zD 5<|zW ((xs.length:Int)-0)<|zD 8<|zJ 25 (((xs.length:Int)-0)≤12) (fun h1=>?_) fun h1=>?_
 ·
  refine zD 7<|jc (vs:=[v,zI 0,zI (xs.length:Int),.func (.func 212) ⟨[]⟩ ⟨[]⟩]) [0] (aYW ho (by omega) (by omega)) ?_
  rintro aDi Y30 ⟨aOE,axc,yU⟩
  refine zD 2<|zR (.tuple ⟨[]⟩) [] [0] Y30 ⟨_,axc,yU⟩
 exfalso;omega
theorem aj6{v:Value}{xs:List ar}{L:Cells}(ho:aA v 2 81 dC xs L)(hN:xs.length≤12):ee zT 211 [v,.func (.func 212) ⟨[]⟩ ⟨[]⟩] ro L (fun r Y=>PV v xs Y):=by
 refine zC [.l L]<|zD 3<|FP ho<|zD 6<|je (zU (xs.length:Int)) (aeh (by omega))<|jp (vs:=[zU (xs.length:Int)]) [] [] (fun aJ hs hZ=>(azw (by omega)))<|zD 1<|jc (vs:=[v,zI 0,zI (xs.length:Int),zI (ab6 xs.length),.func (.func 212) ⟨[]⟩ ⟨[]⟩]) [0] (aYU ho (by omega)) ?_
 rintro aDj Y13 ⟨aOG,acr,WH⟩
 refine zD 1<|zR (.tuple ⟨[]⟩) [] [0] Y13 ⟨_,acr,WH⟩
theorem aKm{v:Value}{xs:List ak}{L:Cells}(ho:aA v 3 132 bY xs L)(hN:xs.length≤1):ee zT 262 [v,zI 0,zI (xs.length:Int),.func (.func 182) ⟨[]⟩ ⟨[]⟩] ro L (fun r Y=>aA v 3 132 bY xs Y):=by
 refine zC [.l L]<|zD 7<|dH [1,0,0] [] (fun(zz:Nat)=>[(0,v),(1,zI 0),(2,zI (xs.length:Int)),(3,.func (.func 182) ⟨[]⟩ ⟨[]⟩),(8,zI (0+1))]) (fun zz=>[.l L]) (fun zz=>True) (fun zz=>zz) 0 trivial [0] ?_
 rintro z hI K1 bP rest
 refine zD 7<|zJ 14 ((0+1) <(xs.length:Int)) (fun h1=>?_) fun h1=>?_
 ·
  exfalso;omega
 refine zD 2<|zR (.tuple ⟨[]⟩) [] [0] L ho
theorem aKh{v:Value}{xs:List ak}{L:Cells}{lim:Int}(ho:aA v 3 132 bY xs L)(hN:xs.length≤1):ee zT 236 [v,zI 0,zI (xs.length:Int),zI lim,.func (.func 182) ⟨[]⟩ ⟨[]⟩] ro L (fun r Y=>aA v 3 132 bY xs Y):=by
 refine zC [.l L]<|zD 9<|dH [1,1,0,0] [] (fun(zz:Nat)=>[(0,v),(1,zI 0),(2,zI (xs.length:Int)),(3,zI lim),(4,.func (.func 182) ⟨[]⟩ ⟨[]⟩),(10,.bool true),(11,.bool true)]) (fun zz=>[.l L]) (fun zz=>True) (fun zz=>zz) 0 trivial [0] ?_
 rintro z hI K1 bP rest
 refine zD 5<|zW ((xs.length:Int)-0)<|zD 8<|zJ 25 (((xs.length:Int)-0)≤12) (fun h1=>?_) fun h1=>?_
 ·
  refine zD 7<|jc (vs:=[v,zI 0,zI (xs.length:Int),.func (.func 182) ⟨[]⟩ ⟨[]⟩]) [0] (aKm ho (by omega)) ?_
  rintro aDi Y30 yU
  refine zD 2<|zR (.tuple ⟨[]⟩) [] [0] Y30 yU
 exfalso;omega
theorem azu{v:Value}{xs:List ak}{L:Cells}(ho:aA v 3 132 bY xs L)(hN:xs.length≤1):ee zT 181 [v,.func (.func 182) ⟨[]⟩ ⟨[]⟩] ro L (fun r Y=>aA v 3 132 bY xs Y):=by
 refine zC [.l L]<|zD 3<|FP ho<|zD 6<|je (zU (xs.length:Int)) (aeh (by omega))<|jp (vs:=[zU (xs.length:Int)]) [] [] (fun aJ hs hZ=>(azw (by omega)))<|zD 1<|jc (vs:=[v,zI 0,zI (xs.length:Int),zI (ab6 xs.length),.func (.func 182) ⟨[]⟩ ⟨[]⟩]) [0] (aKh ho (by omega)) ?_
 rintro aDj Y13 WH
 refine zD 1<|zR (.tuple ⟨[]⟩) [] [0] Y13 WH
theorem aka{v:Value}{xs:List ak}{L:Cells}(ho:aA v 3 132 bY xs L)(hN:xs.length≤1):ee zT 183 [v] ro L (fun r Y=>v=r∧L=Y):=by
 refine zC [.l L]<|zD 8<|FP ho<|zD 2<|zJ 8 ((xs.length:Int) <2) (fun h1=>?_) fun h1=>?_
 ·
  refine zD 7<|zR (v) [] [0] L ⟨rfl,rfl⟩
 exfalso;omega
theorem Pg{v:Value}{xs:List ak}(hl:bJ ro v 3 bY xs)(hN:xs.length≤1):ee zT 131 [v] ro [] (fun r Y=>aA r 3 132 bY xs Y):=by
 obtain⟨fU,sg,sb,eZ,rfl,uz,lA,lZ⟩:=hl
 refine zE<|zD 7<|jc (vs:=[.slice fU xs.length eZ]) [] (aYY (show bJ _ _ _ _ _ from ⟨fU,sg,sb,eZ,rfl,uz,lA,lZ⟩) (by first|omega| (simp only[List.length_set,zM];omega))) ?_
 rintro v5 L5 ho5
 obtain⟨va5,vc5,he5⟩:=ho5.form
 subst he5
 refine zD 5<|jc (vs:=[(.slice va5 (xs).length vc5),.func (.func 182) ⟨[]⟩ ⟨[]⟩]) [0] (azu ho5 (by omega)) ?_
 rintro rv7 Y7 ho7
 refine zD 4<|jc (vs:=[(.slice va5 (xs).length vc5)]) [0] (aka ho7 (by omega)) ?_
 rintro _ _ ⟨rfl,rfl⟩
 refine zD 3<|zR ((.slice va5 (xs).length vc5)) [] [0] Y7 ho7
theorem MV.put{F:List (ak×Value)}{g:ak→ak}(h:MV Z F g){k:ak}{v:Value}(hv:∀aF,Knows aF Z2→bJ aF v 3 bY [g k]):MV (Z++Z2) (mS k v F) g:=by
 have h1:∀x∈mS k v F,x=(k,v)∨x∈F:=fun x hx=>by
  unfold mS at hx
  split at hx
  ·rw[Gr] at hx
   obtain⟨i,hi⟩:=List.getElem?_of_mem hx
   rw[List.getElem?_set] at hi
   split at hi
   ·split at hi
    ·cases hi;exact .inl rfl
    cases hi
   exact .inr (zL hi)
  rcases List.mem_append.1 hx with h|h
  ·exact .inr h
  exact .inl (List.mem_singleton.1 h)
 intro aF hr x hx
 rcases h1 x hx with rfl|hx
 ·exact hv aF hr.right
 exact h aF hr.left x hx
theorem QG[DecidableEq κ]{k x:κ}{v:Value}{F:List (κ×Value)}(h:x=k∨x∈F.map (·.1)):x∈(mS k v F).map (·.1):=by
 unfold mS
 split
 ·rename_i i u hf
  have AJ:=(q9 hf).2
  rw[Nat.sub_zero] at AJ
  have hs:((F.set i (k,v)).map (·.1))=F.map (·.1):=by
   rw[List.map_set]
   refine List.ext_getElem? fun j=>?_
   rw[List.getElem?_set]
   split
   ·rename_i hj;subst hj;simp[AJ,(List.getElem?_eq_some_iff.1 AJ).1,(List.getElem?_eq_some_iff.1 AJ).2]
   rfl
  rw[Gr,hs]
  rcases h with rfl|h
  ·exact List.mem_map_of_mem (f:=(·.1)) (zL AJ)
  exact h
 rw[List.map_append]
 rcases h with rfl|h
 ·exact List.mem_append_right _ (by simp)
 exact List.mem_append_left _ h
def Seen(es:Array MapEntry)(seen:List Nat)(F:List (ak×Value)):Prop:=∀e∈es.toList,e∈cQ es seen∨∃k,e.key=oS k∧k∈F.map (·.1)
theorem Seen.start{es:Array MapEntry}{F:List (ak×Value)}:Seen es [] F:=fun e he=> .inl (by rw[DU];exact he)
theorem Seen.step{es:Array MapEntry}{F0 F:List (ak×Value)}(h:Seen es seen F)(hE:uw oS F0 es ck){e:MapEntry}(he:e∈cQ es seen){k:ak}(hk:e.key=oS k){v:Value}:Seen es (seen++[e.born]) (mS k v F):=fun x hx=>by
 rcases h x hx with h1| ⟨q,h1,h2⟩
 ·rcases V7 hE he h1 with rfl|h2
  ·exact .inr ⟨k,hk,QG (.inl rfl)⟩
  exact .inl h2
 exact .inr ⟨q,h1,QG (.inr h2)⟩
theorem aot{a b:ak}(h:oS a=oS b):a=b:=by
 rcases a with ⟨x,y,z⟩;rcases b with ⟨d,e,f⟩
 simp only[oS,bY,Value.agg.injEq,Array.mk.injEq,List.cons.injEq,Value.int.injEq] at h
 simp[h.1.2,h.2.1.2,h.2.2.1.2]
theorem Seen.fin{es:Array MapEntry}{F0 F:List (ak×Value)}(h:Seen es seen F)(hl:cQ es seen=[])(hE:uw oS F0 es ck){k:ak}(hk:k∈F0.map (·.1)):k∈F.map (·.1):=by
 obtain⟨⟨k',v⟩,h1,rfl⟩:=List.mem_map.1 hk
 have:(oS k',v)∈es.toList.map (fun e=>(e.key,e.val)):=by rw[hE.1];exact List.mem_map_of_mem (f:=fun x:ak×Value=>(oS x.1,x.2)) h1
 obtain⟨e,h2,h3⟩:=List.mem_map.1 this
 simp only[Prod.mk.injEq] at h3
 rcases h e h2 with h4| ⟨q,h4,h5⟩
 ·rw[hl] at h4;cases h4
 have:=aot (h3.1.symm.trans h4);subst this;exact h5
structure Ld(ro:Nat→Option Obj)(r:Nat)(H:List ak)(g:ak→ak)(es:Array MapEntry)(ck:Nat)(F:List (ak×Value)):Prop where
 m:ro r=some (.map es ck)
 e:uw oS F es ck
 k:F.map (·.1)=H
 v:∀x∈F,bJ ro x.2 3 bY [g x.1]
theorem mw{a x:α}(h: [a][j]?=some x):x=a∧j=0:=by
 cases j with
 |zero=>simp at h;exact⟨h.symm,rfl⟩
 |succ j=>simp at h
theorem asP{C3:Array MapEntry}{F1:List (ak×Value)}{r2 ck2:Nat}{Bc:Array MapEntry}{F2:List (ak×Value)}{H:List ak}{g:ak→ak}(JZ:Ld ro r1 H id C3 J6 F1)(UA:Ld ro r2 H g Bc ck2 F2):ee zT 206 [(.map (some r1)),(.map (some r2))] ro [] (fun r Y=>∃rm F LM Z,r= .map (some rm)∧Y=LM++Z∧j9 rm oS F LM∧(∀h∈H,h∈F.map (·.1))∧MV Z F g):=by
 refine zE<|zD 6<|jmk oS fun Hq L11 aiC=>zD 6<|jmR JZ.m fun r13=>jg 0 [.b r13 (vQ r1 J6 [])]<|zD 2<|my<|dH [1,1,0,1,0,0] [] (fun(zz:(List Nat)×(List (ak×Value))×Cells×Cells)=>[(1,(.map (some r2))),(4,(.map none)),(5,(.map (some Hq))),(13,zP r13)]) (fun(zz:(List Nat)×(List (ak×Value))×Cells×Cells)=>[.b r13 (vQ r1 J6 zz.1),.l zz.2.2.1,.l zz.2.2.2]) (fun(zz:(List Nat)×(List (ak×Value))×Cells×Cells)=>j9 Hq oS zz.2.1 zz.2.2.1∧Seen C3 zz.1 zz.2.1∧MV zz.2.2.2 zz.2.1 g) (fun(zz:(List Nat)×(List (ak×Value))×Cells×Cells)=>(cQ C3 zz.1).length) (⟨[],[],L11,[]⟩) ⟨aiC,Seen.start,fun _ _ _ h=>(by cases h)⟩ [1,2,0] ?_
 rintro⟨seen,F,LM,Z⟩ hI K1 bP rest
 dsimp only at hI
 refine zD 2<|jmN (it:=r13) (kv:=oS) (seen:=seen) 0 JZ.m JZ.e (fun Qb v14 Cm aHL F4 apn aUn=>?_) (fun aTR=>?_)
 ·
  have hkH:Qb∈H:=by rw[←JZ.k];exact List.mem_map_of_mem (f:=(·.1)) aHL
  have hvv:bJ ro v14 3 bY [Qb]:=JZ.v _ aHL
  obtain⟨Rn,qvb,qvo,FG,rfl,qvk,VD,VC⟩:=hvv
  refine jg 0 [.b r13 (vQ r1 J6 (seen++[Cm.born]))]<|zD 8<|jmE (it:=r13) 0 JZ.m JZ.e F4 apn aUn<|jg 0 [.b r13 (vQ r1 J6 (seen++[Cm.born]))]<|zD 2<|jn fun b6=>jd 15 [0]<|my<|dH [1,1,0,1,0,0,1,1,0,1,1,0,1,0,0] [K1] (fun(zz:Nat×Value×Cells)=>[(1,(.map (some r2))),(4,(.map none)),(5,(.map (some Hq))),(6,zP b6),(8,zz.2.1),(13,zP r13),(19,.slice Rn ([Qb].length) FG),(20,zI ([Qb].length:Int)),(21,zI (zz.1:Int))]) (fun zz=>[.l zz.2.2,.b b6 (.cells ⟨[zI Qb.h,zI Qb.n,zI Qb.l]⟩ 132 (0,0)),.b r13 (vQ r1 J6 (seen++[Cm.born])),.l LM,.l Z]) (fun zz=>zz.1≤[Qb].length∧aA zz.2.1 3 132 bY ([g Qb].take zz.1) zz.2.2) (fun zz=>[Qb].length-zz.1) (⟨0,zS,[]⟩) ⟨by simp,aA.nil _ _ _⟩ (zN 0 5) ?_
  rintro⟨i,vO,LO⟩ hJ K2 lL rest
  dsimp only at hJ
  have MU: [Qb].length=1:=rfl
  refine zD 5<|zJ 22 ((i:Int) <([Qb].length:Int)) (fun h1=>?_) fun h1=>?_
  ·
   refine zD 6 ?_
   obtain⟨A5,tV⟩:=zG ([Qb]) i
   refine fK FG 3 VD tV<|jl 0 (VC _ _ tV)<|jn fun pX=>jd 2 [0] ?_
   obtain⟨hxe,hj0⟩:=mw tV
   refine jd 4 [0]<|jlu (kv:=oS) (F:=F2) (r:=r2) (K:=132) A5 (zS) false [] [] BQ (fun s he _=>⟨_,_,he _ _ (.inl UA.m),UA.e⟩) ?_
   obtain⟨w28,awN,aiB⟩:=Ow (k:=A5) (F:=F2) (by rw[UA.k,hxe];exact hkH)
   have hww:bJ ro w28 3 bY [g A5]:=UA.v _ aiB
   obtain⟨FE,qwb,qwo,yN,rfl,qwk,P8,P7⟩:=hww
   refine jw 28 (.slice FE ([g A5].length) yN) (show Ox (zS) false A5 F2=_ from by simp only[Ox,awN];rfl) ?_
   refine BS (sz:=3) (ps:=([g Qb].take i)) (qs:=[g A5]) (enc:=bY) (w:= .slice FE ([g A5].length) yN) [1] [] [] (hJ.2) (fun s he _=>⟨FE,qwb,qwo,yN,rfl,P8,fun i p hp=>(P7 i p hp).ext he⟩) (fun p _=>bM rfl) (by simp only[List.length_take,List.length_cons,List.length_nil];omega) (fun v29 L29 OW=>?_)
   obtain⟨aeF,aex,ayo⟩:=OW.form
   subst ayo
   refine zD 3<|zW ((i:Int)+1)<|zD 2<|zF lL (⟨i+1,(.slice aeF ((([g Qb].take i)++[g A5])).length aex),L29⟩) (by have:=OW;rw[hj0] at this ⊢;rw[hxe] at this;exact this) [0,2,3,4,5]
  refine jd 6 [1]<|aP 3 fun tA tH q5=>jcL (vs:=[vO]) [] [0] LO (fun aJ hs hZ=>Pg (hJ.2.jR hZ) (by simp only[List.length_take,List.length_cons,List.length_nil];omega)) ?_
  rintro v34 L34 aU6
  refine dW q5 (zN 1 5)<|aP 4 fun sR sX qZ=>jmu (kv:=oS) (F:=F) (r:=Hq) (K:=132) 4 Qb (v34) BQ hI.1 fun Lm4 hm4=>eB qZ<|zD 1<|FQ bP (⟨(seen++[Cm.born]),_,Lm4,Z++L34⟩) ⟨hm4,hI.2.1.step JZ.e F4 apn,hI.2.2.put fun aF hk=>(by have:=aU6;rw[show ([g Qb].take i)=[g Qb] from List.take_of_length_le (by simp;omega)] at this;exact this.jR hk)⟩ (HX F4) [[4],[0],[5,1]] (Sub.refl _)
 refine jg 0 [.b r13 (vQ r1 J6 seen)]<|zD 11<|zR ((.map (some Hq))) [] [1,2] (LM++Z) ⟨Hq,F,LM,Z,rfl,rfl,hI.1,fun h hh=>hI.2.1.fin aTR JZ.e (by rw[JZ.k];exact hh),hI.2.2⟩
theorem agL{kv:κ→Value}{F:List (κ×Value)}{es:Array MapEntry}(h:uw kv F es ck):es.toList.length=F.length:=by
 have:=congrArg List.length h.1
 simpa using this
theorem Xk{C3:Array MapEntry}{F1:List (ak×Value)}{H:List ak}{g:ak→ak}(JZ:Ld ro r1 H g C3 J6 F1)(hn:H.length≤8)(hS:∀x∈F1,(g x.1).h=0∨(g x.1).h=1):ee zT 149 [(.map (some r1)),zI 2] ro [] (fun r Y=>∃a n c,r= .agg ⟨[.slice a n c]⟩):=by
 refine zE<|zD 2<|jn fun b4=>zD 4<|jmS (E:=82) (z:= zS) fun C4=>jg 0 [.b C4 (.cells ⟨[zS,zS]⟩ 82 (0,0))]<|zD 1<|jn fun b5=>jd 6 [0]<|jmR JZ.m fun r16=>jg 0 [.b r16 (vQ r1 J6 [])]<|zD 2<|my<|my<|dH [1,1,0,1,0,0] [] (fun(zz:(List Nat)×Value×Cells×(List ar)×Value×Cells×(List ar))=>[(4,zP b4),(5,zP b5),(16,zP r16)]) (fun zz=>[.b r16 (vQ r1 J6 zz.1),.b C4 (.cells ⟨[zz.2.1,zz.2.2.2.2.1]⟩ 82 (0,0)),.l zz.2.2.1,.l zz.2.2.2.2.2.1,.b b5 (.cells ⟨[.slice (some ⟨C4,0,none⟩) 2 2]⟩ 25 (0,0)),.b b4 (.cells ⟨[zS]⟩ 25 (0,0))]) (fun zz=>zz.2.2.2.1.length+zz.2.2.2.2.2.2.length+(cQ C3 zz.1).length≤8∧aA zz.2.1 2 81 dC zz.2.2.2.1 zz.2.2.1∧aA zz.2.2.2.2.1 2 81 dC zz.2.2.2.2.2.2 zz.2.2.2.2.2.1) (fun zz=>(cQ C3 zz.1).length) (⟨[],zS,[],[],zS,[],[]⟩) ⟨by rw[DU,agL JZ.e];have:=congrArg List.length JZ.k;simp at this ⊢;omega,aA.nil _ _ _,aA.nil _ _ _⟩ [2,4,1,0,3,5] ?_
 rintro⟨seen,w0,L0,p0,w1,L1,p1⟩ hI K1 bP rest
 dsimp only at hI
 refine zD 2<|jmN (it:=r16) (kv:=oS) (seen:=seen) 0 JZ.m JZ.e (fun k17 v17 e17 aps acF acC aUl=>?_) (fun biU=>?_)
 ·
  have hvv:bJ ro v17 3 bY [g k17]:=JZ.v _ aps
  obtain⟨Rn,qvb,qvo,FG,rfl,qvk,VD,VC⟩:=hvv
  have hsg:(g k17).h=0∨(g k17).h=1:=hS _ aps
  have cO:=HX acF
  refine jg 0 [.b r16 (vQ r1 J6 (seen++[e17.born]))]<|zD 8<|jmE (it:=r16) 0 JZ.m JZ.e acF acC aUl<|jg 0 [.b r16 (vQ r1 J6 (seen++[e17.born]))]<|zD 10<|dH [1,1,0,1,0,0,1,1,0,1,1,0,0] [K1] (fun(zz:Nat×Value×Cells×(List ar)×Value×Cells×(List ar))=>[(4,zP b4),(5,zP b5),(16,zP r16),(21,.slice Rn ([g k17].length) FG),(22,zI ([g k17].length:Int)),(23,zI (zz.1:Int))]) (fun zz=>[.b r16 (vQ r1 J6 (seen++[e17.born])),.b C4 (.cells ⟨[zz.2.1,zz.2.2.2.2.1]⟩ 82 (0,0)),.l zz.2.2.1,.l zz.2.2.2.2.2.1,.b b5 (.cells ⟨[.slice (some ⟨C4,0,none⟩) 2 2]⟩ 25 (0,0)),.b b4 (.cells ⟨[zS]⟩ 25 (0,0))]) (fun zz=>(zz.1≤1∧zz.2.2.2.1.length+zz.2.2.2.2.2.2.length+(cQ C3 (seen++[e17.born])).length+(1-zz.1)≤8)∧aA zz.2.1 2 81 dC zz.2.2.2.1 zz.2.2.1∧aA zz.2.2.2.2.1 2 81 dC zz.2.2.2.2.2.2 zz.2.2.2.2.2.1) (fun zz=>1-zz.1) (⟨0,w0,L0,p0,w1,L1,p1⟩) ⟨by dsimp only;omega,hI.2⟩ (zN 0 6) ?_
  rintro⟨i,w0,L0,p0,w1,L1,p1⟩ hJ K2 lL rest
  dsimp only at hJ
  have MU: [g k17].length=1:=rfl
  refine zD 5<|zJ 24 ((i:Int) <([g k17].length:Int)) (fun h1=>?_) fun h1=>?_
  ·
   refine zD 6 ?_
   obtain⟨sS,jU⟩:=zG ([g k17]) i
   refine fK FG 3 VD jU<|jl 0 (VC _ _ jU) ?_
   obtain⟨hxe,hi0⟩:=mw jU;rw[←hxe] at hsg;obtain⟨xh,xn,xl⟩:=sS;dsimp only at hsg;rcases hsg with rfl|rfl
   ·
    refine jn fun b9=>jd 11 [0,5,0,5,0]<|jd 4 [2,0]<|aP 12 fun tA tH q5=>jn fun b39=>dW q5 (zN 1 7)<|aP 13 fun sR sX qZ=>cH dC b39 (⟨xn,xl⟩:ar) 4 0 hJ.2.1 rfl rfl (by omega) fun at2 atP L40 WB=>eW qZ [[2],[6],[2],[6]]<|zD 1<|aP 15 fun Bg Br B7=>jd 1 [4]<|eB B7<|zD 2<|zW ((i:Int)+1)<|zD 2<|zY lL (⟨i+1,(.slice at2 ((p0++[(⟨xn,xl⟩:ar)])).length atP),L40,(p0++[(⟨xn,xl⟩:ar)]),w1,L1,p1⟩) ⟨by simp only[zM];omega,WB,hJ.2.2⟩ [3,4,0,5,6,7]
   refine jn fun b9=>jd 11 [0,5,0,5,0]<|jd 4 [2,0]<|aP 12 fun ad4 aeQ W7=>jn fun b39=>dW W7 (zN 1 7)<|aP 13 fun aa8 abl O6=>cH dC b39 (⟨xn,xl⟩:ar) 5 0 hJ.2.2 rfl rfl (by omega) fun at2 atP L40 WB=>eW O6 [[2],[6],[2],[6]]<|zD 1<|aP 15 fun UF U3 W6=>jd 1 [4]<|eB W6<|zD 2<|zW ((i:Int)+1)<|zD 2<|zY lL (⟨i+1,w0,L0,p0,(.slice at2 ((p1++[(⟨xn,xl⟩:ar)])).length atP),L40,(p1++[(⟨xn,xl⟩:ar)])⟩) ⟨by simp only[zM];omega,hJ.2.1,WB⟩ [3,4,5,0,6,7]
  refine zD 2<|bF bP (⟨(seen++[e17.born]),w0,L0,p0,w1,L1,p1⟩) ⟨by dsimp only;omega,hJ.2⟩ cO (zN 0 6) (Sub.refl _)
 refine jg 0 [.b r16 (vQ r1 J6 seen)]<|jd 14 [4]<|dH [1,1,1,0,1,0,0] [] (fun(zz:Nat×Value×Cells×(List ar)×Value×Cells×(List ar))=>[(4,zP b4),(5,zP b5),(44,.slice (some ⟨C4,0,none⟩) 2 2),(45,zI 2),(46,zI (zz.1:Int))]) (fun zz=>[.b C4 (.cells ⟨[zz.2.1,zz.2.2.2.2.1]⟩ 82 (0,0)),.l zz.2.2.1,.l zz.2.2.2.2.2.1,.b b5 (.cells ⟨[.slice (some ⟨C4,0,none⟩) 2 2]⟩ 25 (0,0)),.b b4 (.cells ⟨[zS]⟩ 25 (0,0))]) (fun zz=>(zz.1≤2∧zz.2.2.2.1.length≤8∧zz.2.2.2.2.2.2.length≤8)∧aA zz.2.1 2 81 dC zz.2.2.2.1 zz.2.2.1∧aA zz.2.2.2.2.1 2 81 dC zz.2.2.2.2.2.2 zz.2.2.2.2.2.1) (fun zz=>2-zz.1) (⟨0,w0,L0,p0,w1,L1,p1⟩) ⟨by dsimp only;omega,hI.2⟩ (zN 1 5) ?_
 rintro⟨k,w0,L0,p0,w1,L1,p1⟩ hQ K9 hK9 rest
 dsimp only at hQ
 refine zD 5<|zJ 47 ((k:Int) <2) (fun h8=>?_) fun h8=>?_
 ·
  refine zD 6 ?_
  rcases(show k=0∨k=1 by omega) with hk0|hk0
  ·
   refine jw 46 (zI 0) (show Value.int .i64 (k:Int)= zI 0 by rw[hk0];rfl) ?_
   refine jd 6 [0]<|jc (vs:=[w0,.func (.func 212) ⟨[]⟩ ⟨[]⟩]) [1] (aj6 hQ.2.1 (by omega)) ?_
   rintro aQ9 Y51 ⟨atp,aw8,axy⟩
   refine zD 5 ?_
   have hle:=aw8.length_eq
   exact zF hK9 (⟨1,w0,Y51,atp,w1,L1,p1⟩) ⟨axy,hQ.2.2⟩ [1,0,2,3,4]
  refine jw 46 (zI 1) (show Value.int .i64 (k:Int)= zI 1 by rw[hk0];rfl) ?_
  refine jd 6 [0]<|jc (vs:=[w1,.func (.func 212) ⟨[]⟩ ⟨[]⟩]) [2] (aj6 hQ.2.2 (by omega)) ?_
  rintro aQ9 Y51 ⟨atp,aw8,axy⟩
  refine zD 5 ?_
  have hle:=aw8.length_eq
  exact zF hK9 (⟨2,w0,L0,p0,w1,Y51,atp⟩) ⟨hQ.2.1,axy⟩ [1,2,0,3,4]
 refine jd 8 [3,4]<|zR (.agg ⟨[.slice (some ⟨C4,0,none⟩) 2 2]⟩) [4] [] [] ⟨_,_,_,rfl⟩
structure TrV where
 a:Option Addr
 n:Nat
 c:Nat
 ea:Option Addr
 en:Nat
 ec:Nat
 r:Nat
abbrev ap9(t:TrV):List Value:=[.slice t.a t.n t.c,.slice t.ea t.en t.ec,.map (some t.r)]
structure TrD where
 ways:List Int
 g:ak→ak
def baj(ro:Nat→Option Obj)(r:Nat)(H:List ak)(g:ak→ak):Prop:=∃es ck F,ro r=some (.map es ck)∧uw oS F es ck∧(∀h∈H,h∈F.map (·.1))∧∀y∈F,bJ ro y.2 3 bY [g y.1]
def TrR(H:List ak)(ro:Nat→Option Obj)(t:TrV)(x:TrD):Prop:=bJ ro (.slice t.a t.n t.c) 1 aS x.ways∧baj ro t.r H x.g
def TrO(H:List ak)(LL:Cells)(t:TrV)(x:TrD):Prop:=∀aF,Knows aF LL→TrR H aF t x
abbrev ap8(H:List ak)(L:List TrD):(Nat→Option Obj)→Nat→List Value→Cells→Prop:=fun _ k vs LL=>∃x t,L[k]?=some x∧vs=[.agg ⟨ap9 t⟩]∧TrO H LL t x
def aui(S:List (List ar))(l:List aO)(i:Nat):TrD:=⟨[(i:Int)],match l[i]? with
 |some c=>m8 S c
 |none=>id⟩
def dg(S:List (List ar)):List (List aO)→List TrD
 | []=>[⟨[],id⟩]
 |l::_=>(List.range l.length).map (aui S l)
theorem Ln{S:List (List ar)}{l:List aO}{c:aO}(h:l[i]?=some c):(dg S [l])[i]?=some ⟨[(i:Int)],m8 S c⟩:=by
 have hi:=(List.getElem?_eq_some_iff.1 h).1
 simp only[dg,List.getElem?_map,List.getElem?_range hi,Option.map_some,aui,h]
structure zu(ways:List (List aO)):Prop where
 one:ways.length≤1
 ok:∀l∈ways,(1≤l.length∧l.length≤3)∧∀c∈l,gv c
theorem aKQ{c:aO}(h:gv c):1≤c.k∧c.k≤7:=by
 simp only[gv,List.mem_cons,List.not_mem_nil,or_false] at h
 rcases h with rfl|rfl|rfl|rfl|rfl<;>simp
theorem asO{x:ak}:∀(u:List (ak×ak)) (y:ak),u.foldl (fun y p=>if x=p.1 then p.2 else y) y=y∨∃p∈u,u.foldl (fun y p=>if x=p.1 then p.2 else y) y=p.2
 | [],y=> .inl rfl
 |p::u,y=>by
  simp only[List.foldl_cons]
  rcases asO (x:=x) u (if x=p.1 then p.2 else y) with h| ⟨q,hq,h⟩
  ·rw[h]
   split
   ·exact .inr ⟨p,by simp,rfl⟩
   exact .inl rfl
  exact .inr ⟨q,by simp[hq],h⟩
theorem azt{u:List (ak×ak)}{x:ak}:gU u x=x∨∃p∈u,gU u x=p.2:=asO u x
theorem VZ{S:List (List ar)}{c:aO}(hc:gv c){x:ak}(hx:x.h=0∨x.h=1):(m8 S c x).h=0∨(m8 S c x).h=1:=by
 rcases azt (u:=azE S c) (x:=x) with h| ⟨p,hp,h⟩
 ·rw[m8,h];exact hx
 rw[m8,h]
 simp only[gv,List.mem_cons,List.not_mem_nil,or_false] at hc
 rcases hc with rfl|rfl|rfl|rfl|rfl<;>simp[azE,aeJ,LJ,MM,Kj,nG] at hp
 ·obtain⟨_,_,_,_,_,rfl⟩:=hp;exact .inl rfl
 ·obtain⟨_,_,rfl⟩:=hp;exact .inl rfl
 ·obtain⟨_,_,_,_,_,rfl⟩:=hp;exact .inr rfl
 ·obtain⟨_,_,rfl⟩:=hp;exact .inr rfl
 obtain⟨_,_,rfl⟩:=hp;exact .inl rfl
theorem Ij{S:List (List ar)}(hO:eF S){x:ak}(hx:x∈bD S):x.h=0∨x.h=1:=by
 obtain⟨j,l,p,h1,_,_,rfl⟩:=GG.1 hx
 have:=hO.two
 simp only[nG];omega
theorem Ld.up{H:List ak}{g:ak→ak}{es:Array MapEntry}{F:List (ak×Value)}(h:Ld ro r H g es ck F)(hs:Sub ro aF):Ld aF r H g es ck F:=⟨hs _ _ h.m,h.e,h.k,fun x hx=>(h.v x hx).up hs⟩
theorem aKv{v:Value}{S:List (List ar)}{c:aO}(hc:gv c)(hS:cD ro v S)(hO:eF S):ee zT 204 [.agg ⟨[v]⟩,.agg ⟨lq c⟩] ro [] (fun r Y=>∃rm F LM Z,r= .tuple ⟨[.map (some rm),zI 0]⟩∧Y=LM++Z∧j9 rm oS F LM∧F.map (·.1)=bD S∧MV Z F (m8 S c)):=by
 simp only[gv,List.mem_cons,List.not_mem_nil,or_false] at hc
 rcases hc with rfl|rfl|rfl|rfl|rfl
 ·exact aKu hS hO
 ·exact aKt hS hO
 ·exact aKs hS hO
 ·exact aKr hS hO
 exact aKq hS hO
def KZ(ro:Nat→Option Obj)(b:Nat)(S:List (List ar))(ways:List (List aO)):Prop:=∃vS vT vH fa fc,ro b=some (.cells ⟨[vS,vT,.slice fa 0 fc,vH]⟩ 233 (0,0))∧cD ro vS S∧oz ro vT ways∧bJ ro vH 3 bY (bD S)
theorem KZ.up{S:List (List ar)}(h:KZ ro b S ways)(hs:Sub ro aF):KZ aF b S ways:=by
 obtain⟨vS,vT,vH,fa,fc,h1,h2,h3,h4⟩:=h
 exact⟨vS,vT,vH,fa,fc,hs _ _ h1,h2.up hs,h3.up hs,h4.up hs⟩
theorem azy{fa:Option Addr}{S:List (List ar)}(hS:cD ro vS S)(hO:eF S)(hT:oz ro vT ways)(hW:zu ways):ee zT 142 [.agg ⟨[vS,vT,.slice fa 0 fc]⟩] ro [] (fun r Y=>∃b vH LH,r= .tuple ⟨[zP b,zI 0]⟩∧Y=(b,.cells ⟨[vS,vT,.slice fa 0 fc,vH]⟩ 233 (0,0))::LH∧aA vH 3 132 bY (bD S) LH):=by
 have uC:=hS
 obtain⟨jF,hs,fP⟩:=hS
 obtain⟨mV,VG,VE,mo,rfl,VF,Qa,P9⟩:=hs
 obtain⟨iZ,ht,fF⟩:=id hT
 obtain⟨fx,BA,By,ez,rfl,Bz,tx,tw⟩:=ht
 have KD:=fP.len
 have GK:=fF.len
 have Kz:=hO.two
 have B1:=hW.one
 have Ui:∀(i:Nat) (p:eN),([]:List eN)[i]?=some p→cK ⟨ro,[]⟩ 0 (0+i*6) 6 (pe p):=fun _ _ h=>p8 h
 refine zE<|zD 2<|jn fun b1=>jd 8 [0]<|jp (vs:=[.agg ⟨[.slice mV jF.length mo]⟩]) [] [] (fun aJ hs hZ=>akb (uC.up hs) hO)<|jd 17 [0]<|zJ 21 ((iZ.length:Int)>3) (fun h1=>?_) fun h1=>?_
 ·
  exfalso;omega
 refine jd 11 [0]<|dH [1,1,1,0,1,0,0] [] (fun(zz:Nat)=>[(1,zP b1),(23,.slice fx iZ.length ez),(24,zI (iZ.length:Int)),(25,zI (zz:Int))]) (fun zz=>[.b b1 (.cells ⟨[.slice mV jF.length mo,.slice fx iZ.length ez,.slice fa 0 fc]⟩ 29 (0,0))]) (fun zz=>zz≤iZ.length) (fun zz=>iZ.length-zz) 0 (by omega) [0] ?_
 rintro k hI K1 bP rest
 refine zD 5<|zJ 26 ((k:Int) <(iZ.length:Int)) (fun h2=>?_) fun h2=>?_
 ·
  refine zD 6 ?_
  obtain⟨x27,Ky⟩:=zG iZ k
  refine fK ez 1 tx Ky ?_
  obtain⟨l28,aVz,Tc⟩:=fF.get Ky
  obtain aiB:=hW.ok _ (zL aVz)
  obtain⟨aEd,bhX,bhV,avb,rfl,bhW,aSg,aSf⟩:=Tc
  refine jl 0 (tw _ _ Ky)<|jn fun b6=>jd 10 [0,0]<|zJ 32 ((l28.length:Int)=0) (fun h3=>?_) fun h3=>?_
  ·
   exfalso;omega
  refine jd 10 [0]<|zJ 36 ((l28.length:Int)>3) (fun h4=>?_) fun h4=>?_
  ·
   exfalso;omega
  refine jd 10 [0]<|dH [1,1,1,0,1,0,0,1,1,0,0,1,1,1,1,0,0] [K1] (fun(zz:Nat)=>[(1,zP b1),(23,.slice fx iZ.length ez),(24,zI (iZ.length:Int)),(25,zI (k:Int)),(38,.slice aEd l28.length avb),(39,zI (l28.length:Int)),(40,zI (zz:Int))]) (fun zz=>[.b b6 (.cells ⟨[.slice aEd l28.length avb]⟩ 89 (0,0)),.b b1 (.cells ⟨[.slice mV jF.length mo,.slice fx iZ.length ez,.slice fa 0 fc]⟩ 29 (0,0))]) (fun zz=>zz≤l28.length) (fun zz=>l28.length-zz) 0 (by omega) [0,1] ?_
  rintro i hJ K2 lL rest
  refine zD 5<|zJ 41 ((i:Int) <(l28.length:Int)) (fun h5=>?_) fun h5=>?_
  ·
   refine zD 6 ?_
   obtain⟨x42,Wm⟩:=zG l28 i
   refine fK avb 7 aSg Wm<|jl 0 (aSf _ _ Wm)<|jn fun b8=>jd 3 [0] ?_
   have WR:=aKQ (aiB.2 _ (zL Wm))
   refine jd 3 [0]<|jp (vs:=[zI x42.k,zI 1,zI 7]) [] [] (fun aJ hs hZ=>B8)<|zD 2<|js 47 (!(ju x42.k 1 7)) (fun h6=>?_) (fun h6=>?_)
   ·
    try simp only[zB] at h6
    exfalso;simp only[ju,Bool.and_eq_false_iff,decide_eq_false_iff_not] at h6;omega
   try simp only[zB] at h6
   refine zD 3<|zW ((i:Int)+1)<|zD 2<|zY lL (i+1) (by omega) [1,2]
  refine zD 3<|zW ((k:Int)+1)<|zD 2<|zY bP (k+1) (by omega) [1]
 refine jd 17 [0,0,0]<|aP 3 fun tA tH q5=>jc (vs:=[.agg ⟨[.slice mV jF.length mo]⟩]) [] (aan uC hO) ?_
 rintro v57 L57 ape
 obtain⟨atX,atK,ayk⟩:=ape.form
 subst ayk
 refine dW q5 [1]<|zD 1<|aP 5 fun sR sX qZ=>jn fun b59=>dW qZ [1,2]<|jd 11 [2]<|dH [1,1,1,1,1,1,0,1,0,0] [] (fun(zz:Nat)=>[(1,zP b1),(9,zP b59),(61,.slice fa 0 fc),(62,zI 0),(63,zI 0)]) (fun zz=>[.b b59 (.cells ⟨[.slice mV jF.length mo,.slice fx iZ.length ez,.slice fa 0 fc,(.slice atX (bD S).length atK)]⟩ 233 (0,0)),.l L57,.b b1 (.cells ⟨[.slice mV jF.length mo,.slice fx iZ.length ez,.slice fa 0 fc]⟩ 29 (0,0))]) (fun zz=>True) (fun zz=>zz) 0 trivial [0,1,2] ?_
 rintro z hQ K5 hK5 rest
 refine zD 14<|zR (.tuple ⟨[zP b59,zI 0]⟩) [] [0,1] ((b59,.cells ⟨[.slice mV jF.length mo,.slice fx iZ.length ez,.slice fa 0 fc,(.slice atX (bD S).length atK)]⟩ 233 (0,0))::L57) ⟨_,_,_,rfl,rfl,ape⟩
structure adG(ro:Nat→Option Obj)(bl b b1 b2 b3:Nat):Prop where
 t:ro b1=some (.cells ⟨[zP b]⟩ 195 (0,0))
 y:ro b2=some (.cells ⟨[.func (.yield bl) #[] #[]]⟩ 307 (0,0))
 g:ro b3=some (.cells ⟨[.func (.func 202) ⟨[]⟩ ⟨[zP b1,zP b2,zP b3]⟩]⟩ 307 (0,0))
theorem adG.up(h:adG ro bl b b1 b2 b3)(hs:Sub ro aF):adG aF bl b b1 b2 b3:=⟨hs _ _ h.t,hs _ _ h.y,hs _ _ h.g⟩
theorem aKo{t:TrV}{S:List (List ar)}(JY:KZ ro b S ways):dG zT 203 [zP b,.agg ⟨[.slice t.a t.n t.c,.slice t.ea t.en t.ec,(.map (some t.r))]⟩] ro (.bool true):=by
 obtain⟨vS,vT,vH,fa,fc,gb,hS,hT,hHs⟩:=JY
 have uC:=hS
 obtain⟨jF,hs,fP⟩:=hS
 obtain⟨mV,VG,VE,mo,rfl,VF,Qa,P9⟩:=hs
 obtain⟨iZ,ht,fF⟩:=id hT
 obtain⟨fx,BA,By,ez,rfl,Bz,tx,tw⟩:=ht
 have KD:=fP.len
 have GK:=fF.len
 have Ui:∀(i:Nat) (p:eN),([]:List eN)[i]?=some p→cK ⟨ro,[]⟩ 0 (0+i*6) 6 (pe p):=fun _ _ h=>p8 h
 refine zE<|zD 2<|jn fun b3=>zD 9<|jl (b:=b) (off:=0) (m:=4) (vs:=[.slice mV jF.length mo,.slice fx iZ.length ez,.slice fa 0 fc,vH]) 2 ⟨_,_,_,.inl gb,rfl⟩<|zD 4<|dH [1,0,1,0,0] [] (fun(zz:Nat)=>[(3,zP b3),(11,.slice fa 0 fc),(12,zI 0),(13,zI 0)]) (fun zz=>[.b b3 (.cells ⟨[.slice t.a t.n t.c,.slice t.ea t.en t.ec,(.map (some t.r))]⟩ 202 (0,0))]) (fun zz=>True) (fun zz=>zz) 0 trivial [0] ?_
 rintro z hI K1 bP rest
 refine zD 12<|zX (.bool true) ⟨rfl,rfl⟩
theorem aj5:ee zT 143 [zP b] ro [] (fun r Y=>∃b1,r= .func (.func 201) ⟨[]⟩ ⟨[zP b1]⟩∧Y=[(b1,.cells ⟨[zP b]⟩ 195 (0,0))]):=by
 refine zE<|zD 2<|jn fun b1=>zD 8<|zR (.func (.func 201) ⟨[]⟩ ⟨[zP b1]⟩) [] [0] [(b1,.cells ⟨[zP b]⟩ 195 (0,0))] ⟨_,rfl,rfl⟩
theorem aj7{S:List (List ar)}{L:List TrD}{Inv:Nat→Cells→Prop}{t:TrV}{x:TrD}{LL:Cells}(JY:KZ ro b S ways)(hC:adG ro bl b b1 b2 b3)(hn:t.n=ways.length)(hx:L[k]?=some x) (hR:TrO (bD S) LL t x) (hB:Inv k B) (hy:YOK zT bl ro L.length (ap8 (bD S) L) Inv Stop):ee zT 202 [.agg ⟨[.slice t.a t.n t.c,.slice t.ea t.en t.ec,(.map (some t.r))]⟩,zP b1,zP b2,zP b3] ro (LL++B) (fun r Y=>∃c,r= .bool c∧(c=true→Inv (k+1) Y)∧(c=false→Stop Y)):=by
 have apD:=JY
 obtain⟨vS,vT,vH,fa,fc,gb,hS,hT,hHs⟩:=JY
 have uC:=hS
 obtain⟨jF,hs,fP⟩:=hS
 obtain⟨mV,VG,VE,mo,rfl,VF,Qa,P9⟩:=hs
 obtain⟨iZ,ht,fF⟩:=id hT
 obtain⟨fx,BA,By,ez,rfl,Bz,tx,tw⟩:=ht
 have KD:=fP.len
 have GK:=fF.len
 have Ui:∀(i:Nat) (p:eN),([]:List eN)[i]?=some p→cK ⟨ro,[]⟩ 0 (0+i*6) 6 (pe p):=fun _ _ h=>p8 h
 refine zC [.l LL,.l B]<|zD 2<|jn fun b4=>jd 13 [0]<|jl (b:=b1) (off:=0) (m:=1) (vs:=[zP b]) 0 ⟨_,_,_,.inl hC.t,rfl⟩<|zD 3<|jl (b:=b) (off:=0) (m:=4) (vs:=[.slice mV jF.length mo,.slice fx iZ.length ez,.slice fa 0 fc,vH]) 1 ⟨_,_,_,.inl gb,rfl⟩<|zD 3<|zJ 21 ((t.n:Int)=(iZ.length:Int)) (fun h1=>?_) fun h1=>?_
 ·
  refine zD 3<|jl (b:=b1) (off:=0) (m:=1) (vs:=[zP b]) 0 ⟨_,_,_,.inl hC.t,rfl⟩<|jd 1 [0]<|jp (vs:=[zP b,.agg ⟨[.slice t.a t.n t.c,.slice t.ea t.en t.ec,(.map (some t.r))]⟩]) [] [] (fun aJ hs hZ=>aKo (t:=t) (apD.up hs))<|zD 2<|jl (b:=b2) (off:=0) (m:=1) (vs:=[(.func (.yield bl) #[] #[])]) 0 ⟨_,_,_,.inl hC.y,rfl⟩<|jd 1 [0]<|jyc [1,2] (hy k [.agg ⟨[.slice t.a t.n t.c,.slice t.ea t.en t.ec,(.map (some t.r))]⟩] LL B ro (List.getElem?_eq_some_iff.1 hx).1 ⟨x,t,hx,rfl,hR⟩ hB (Sub.refl _)) (Sub.refl _) ?_
  intro v29 Y29 aTZ
  obtain⟨c29,rfl,aWC,aWp⟩:=yb aTZ
  refine zD 4<|zR (.bool c29) [] [0] Y29 ⟨_,rfl,aWC,aWp⟩
 exfalso;omega
theorem aYT{S:List (List ar)}{l:List aO}{Inv:Nat→Cells→Prop}{ea:Option Addr}{r0:Nat}{es0:Array MapEntry}{F0:List (ak×Value)}(JY:KZ ro b S [l])(hO:eF S)(hW:zu [l])(hC:adG ro bl b b1 b2 b3)(hE:∀aF,Knows aF LE→cD aF (.slice ea en ec) S)(hE0:uw oS F0 es0 ck0)(hk0:F0.map (·.1)=bD S)(hM0:MV Z F0 id)(hB:Inv 0 B)(hy:YOK zT bl ro (dg S [l]).length (ap8 (bD S) (dg S [l])) Inv Stop):ee zT 202 [.agg ⟨[zS,.slice ea en ec,(.map (some r0))]⟩,zP b1,zP b2,zP b3] ro (LE++(r0,.map es0 ck0)::(Z++B)) (fun r Y=>∃c,r= .bool c∧(c=true→Inv l.length Y)∧(c=false→Stop Y)):=by
 have apD:=JY
 obtain⟨vS,vT,vH,fa,fc,gb,hS,hT,hHs⟩:=JY
 have uC:=hS
 obtain⟨jF,hs,fP⟩:=hS
 obtain⟨w1,w2,rfl⟩:=pE (fP.len.trans hO.two)
 obtain⟨mV,VG,VE,mo,rfl,VF,Qa,P9⟩:=hs
 obtain⟨iZ,ht,fF⟩:=id hT
 obtain⟨fx,BA,By,ez,rfl,Bz,tx,tw⟩:=ht
 have GK:=fF.len
 have Ui:∀(i:Nat) (p:eN),([]:List eN)[i]?=some p→cK ⟨ro,[]⟩ 0 (0+i*6) 6 (pe p):=fun _ _ h=>p8 h
 refine zC [.l LE,.b r0 (.map es0 ck0),.l Z,.l B]<|zD 2<|jn fun b4=>zD 1<|jf [1,2,3] (LE++((r0,.map es0 ck0)::Z)) (fun ya cu iX=>?_)
 have hE1:=hE _ (Knows.left iX)
 have JZ:Ld ya r0 (bD S) id es0 ck0 F0:=⟨Knows.right iX _ (.head _),hE0,hk0,hM0 _ (Knows.tail (Knows.right iX))⟩
 refine jd 12 [0]<|jl (b:=b1) (off:=0) (m:=1) (vs:=[zP b]) 0 ⟨_,_,_,.inl (cu _ _ hC.t),rfl⟩<|zD 3<|jl (b:=b) (off:=0) (m:=4) (vs:=[.slice mV 2 mo,.slice fx iZ.length ez,.slice fa 0 fc,vH]) 1 ⟨_,_,_,.inl (cu _ _ gb),rfl⟩<|zD 3<|zJ 21 (0=(iZ.length:Int)) (fun h4=>?_) fun h4=>?_
 ·
  exfalso;simp at GK;omega
 refine zD 4 ?_
 have hl8:iZ.length=1:=GK
 refine zD 1<|jl (b:=b1) (off:=0) (m:=1) (vs:=[zP b]) 0 ⟨_,_,_,.inl (cu _ _ hC.t),rfl⟩<|zD 3<|jl (b:=b) (off:=0) (m:=4) (vs:=[.slice mV 2 mo,.slice fx iZ.length ez,.slice fa 0 fc,vH]) 1 ⟨_,_,_,.inl (cu _ _ gb),rfl⟩<|zD 1 ?_
 obtain⟨x37,acm⟩:=zG iZ 0
 refine fK ez 1 tx acm<|zD 1 ?_
 obtain⟨l39,aHk,h39⟩:=fF.get acm
 obtain aVr:=hW.ok _ (zL aHk)
 obtain aiX:l39=l:=Option.some.inj (aHk.symm.trans rfl)
 obtain⟨aR6,bhP,bhN,aD5,rfl,bhO,aR5,aR4⟩:=h39
 refine jl 0 ((tw _ _ acm).ext (gD cu))<|zD 4<|dH [1,1,1,0,1,0,0] [] (fun(zz:Nat×Cells)=>[(1,zP b1),(3,zP b3),(4,zP b4),(39,.slice aR6 l39.length aD5),(40,zI (l39.length:Int)),(41,zI (zz.1:Int))]) (fun zz=>[.l zz.2,.b b4 (.cells ⟨[zS,.slice ea en ec,(.map (some r0))]⟩ 202 (0,0))]) (fun zz=>zz.1≤l39.length∧Inv zz.1 zz.2) (fun zz=>l39.length-zz.1) (⟨0,B⟩) ⟨by dsimp only;omega,hB⟩ [1,0] ?_
 rintro⟨i,B⟩ hI K1 bP rest
 dsimp only at hI
 refine zD 5<|zJ 42 ((i:Int) <(l39.length:Int)) (fun h5=>?_) fun h5=>?_
 ·
  refine zD 7 ?_
  obtain⟨x44,Kx⟩:=zG l39 i
  refine fK aD5 7 aR5 Kx<|jl 0 ((aR4 _ _ Kx).ext (gD cu))<|jn fun b8=>jd 4 [0] ?_
  have hco:=aVr.2 _ (zL Kx)
  refine jd 4 [2,0]<|jc (vs:=[.agg ⟨[.slice ea en ec]⟩,.agg ⟨[zI x44.k,zI x44.st,zI x44.ot,zI x44.fn,zI x44.fl,zI x44.tn,zI x44.tl]⟩]) [] (aKv (c:=x44) hco (hE1.up (Sub.refl _)) hO) ?_
  rintro _ _ ⟨r9,F9,LM9,Z9,rfl,rfl,hm9,hk9,hM9⟩
  obtain⟨es9,ck9,rfl,hE9⟩:=hm9
  refine jg 0 [.b r9 (.map es9 ck9),.l Z9]<|zD 5<|jf [0,1] ((r9,.map es9 ck9)::Z9) (fun ro8 AF hk7=>?_)
  have UA:Ld ro8 r9 (bD S) (m8 S x44) es9 ck9 F9:=⟨hk7 _ (.head _),hE9,hk9,hM9 _ (Knows.tail hk7)⟩
  refine zD 11<|jl (b:=b3) (off:=0) (m:=1) (vs:=[.func (.func 202) ⟨[]⟩ ⟨[zP b1,zP b2,zP b3]⟩]) 0 ⟨_,_,_,.inl (AF _ _ (cu _ _ hC.g)),rfl⟩<|jd 4 [2]<|jl (b:=b1) (off:=0) (m:=1) (vs:=[zP b]) 0 ⟨_,_,_,.inl (AF _ _ (cu _ _ hC.t)),rfl⟩<|zD 4<|jl (b:=b) (off:=0) (m:=4) (vs:=[.slice mV 2 mo,.slice fx iZ.length ez,.slice fa 0 fc,vH]) 0 ⟨_,_,_,.inl (AF _ _ (cu _ _ gb)),rfl⟩<|jd 4 [2]<|ze [3,5] ⟨fun z2 t3 qZ=>?_,fun z5 t6 O6=>?_,trivial⟩
  ·
   refine jc (vs:=[zS]) [] (aKw (bJ.nil _ _ _ _ _) (by simp)) ?_
   rintro v58 L58 ais
   obtain⟨am1,amW,aiU⟩:=ais.form
   subst aiU
   refine dW qZ [1,2,3]<|aP 5 fun UF U3 W6=>jn fun b60=>dW W6 (zN 1 4)<|aP 6 fun UE U2 O5=>cH aS b60 (i:Int) 1 0 ais rfl rfl (by simp only[List.length_cons,List.length_nil];omega) (fun aeC aeu L61 Wy=>?_)
   refine eW O5 [[4],[],[],[]]<|aP 15 fun GW G9 xv=>jc (vs:=[(.map (some r9)),zI 2]) [] (Xk (UA.up (Sub.refl _)) (qV hO) (fun x hx=>VZ hco (Ij hO (by rw[←hk9];exact List.mem_map_of_mem (f:=(·.1)) hx)))) ?_
   rintro _ L70 ⟨a70,n70,c70,rfl⟩
   refine dW xv (zN 1 5)<|aP 19 fun Lf Lx Ej=>jc (vs:=[(.map (some r0)),(.map (some r9))]) [] (asP (JZ.up AF) (UA.up (Sub.refl _))) ?_
   rintro _ _ ⟨r74,F74,bap,Z74,rfl,rfl,axJ,ax4,ayQ⟩
   obtain⟨Pu,PG,rfl,aze⟩:=axJ
   refine jg 0 [.b r74 (.map Pu PG),.l Z74]<|dW Ej (zN 2 6)<|zD 1<|aP 21 fun Le Lu AO=>jc (vs:=[.agg ⟨[(.slice aeC ((([]:List Int)++[(i:Int)])).length aeu),.slice a70 n70 c70,(.map (some r74))]⟩,zP b1,zP b2,zP b3]) [3,0,1,6] ((show ee _ _ _ _ (L61++(r74,.map Pu PG)::(Z74++B)) _ from by have:=aj7 (t:=⟨aeC,((([]:List Int)++[(i:Int)])).length,aeu,a70,n70,c70,r74⟩) (LL:=L61++(r74,.map Pu PG)::Z74) (apD.up (cu.trans AF)) (hC.up (cu.trans AF)) rfl (Ln (by rw[←aiX];exact Kx)) (fun aF hk=>⟨by simpa using Wy.jR (Knows.left hk),Pu,PG,F74,(Knows.right hk) _ (.head _),aze,ax4,fun y hy=>ayQ aF (Knows.tail (Knows.right hk)) y hy⟩) hI.2 (hy.up (cu.trans AF));rwa[List.append_assoc,List.cons_append] at this)) ?_
   rintro _ Y76 ⟨c76,rfl,ayz,ayu⟩
   refine eW AO [[],[]]<|zD 2<|js 77 (!c76) (fun xz=>?_) (fun xz=>?_)
   ·
    try simp only[zB] at xz
    refine zD 6<|aN q0.a.a (.bool false) [] [0] Y76 (cu.trans AF) ⟨_,_,rfl,rfl,_,rfl,nofun,fun _=>ayu (by simp_all)⟩
   try simp only[zB] at xz
   refine zD 3<|zW ((i:Int)+1)<|zD 2<|bF bP (⟨i+1,Y76⟩) ⟨by dsimp only;omega,ayz (by simp_all)⟩ (by dsimp only;omega) [0,4] AF
  refine jn fun b60=>dW O6 [1,2,3]<|aP 3 fun aqY ark Pb=>jc (vs:=[zS]) [] (aKw (bJ.nil _ _ _ _ _) (by simp)) ?_
  rintro v58 L58 ais
  obtain⟨am1,amW,aiU⟩:=ais.form
  subst aiU
  refine dW Pb (zN 1 4)<|aP 6 fun bbg bb6 aX2=>cH aS b60 (i:Int) 0 1 ais rfl rfl (by simp only[List.length_cons,List.length_nil];omega) (fun aeC aeu L61 Wy=>?_)
  refine eW aX2 [[4],[],[],[]]<|aP 15 fun bbf bb5 Xc=>jc (vs:=[(.map (some r9)),zI 2]) [] (Xk (UA.up (Sub.refl _)) (qV hO) (fun x hx=>VZ hco (Ij hO (by rw[←hk9];exact List.mem_map_of_mem (f:=(·.1)) hx)))) ?_
  rintro _ L70 ⟨a70,n70,c70,rfl⟩
  refine dW Xc (zN 1 5)<|aP 19 fun aBD aCQ KM=>jc (vs:=[(.map (some r0)),(.map (some r9))]) [] (asP (JZ.up AF) (UA.up (Sub.refl _))) ?_
  rintro _ _ ⟨r74,F74,bap,Z74,rfl,rfl,axJ,ax4,ayQ⟩
  obtain⟨Pu,PG,rfl,aze⟩:=axJ
  refine jg 0 [.b r74 (.map Pu PG),.l Z74]<|dW KM (zN 2 6)<|zD 1<|aP 21 fun ad6 aeS Pa=>jc (vs:=[.agg ⟨[(.slice aeC ((([]:List Int)++[(i:Int)])).length aeu),.slice a70 n70 c70,(.map (some r74))]⟩,zP b1,zP b2,zP b3]) [3,0,1,6] ((show ee _ _ _ _ (L61++(r74,.map Pu PG)::(Z74++B)) _ from by have:=aj7 (t:=⟨aeC,((([]:List Int)++[(i:Int)])).length,aeu,a70,n70,c70,r74⟩) (LL:=L61++(r74,.map Pu PG)::Z74) (apD.up (cu.trans AF)) (hC.up (cu.trans AF)) rfl (Ln (by rw[←aiX];exact Kx)) (fun aF hk=>⟨by simpa using Wy.jR (Knows.left hk),Pu,PG,F74,(Knows.right hk) _ (.head _),aze,ax4,fun y hy=>ayQ aF (Knows.tail (Knows.right hk)) y hy⟩) hI.2 (hy.up (cu.trans AF));rwa[List.append_assoc,List.cons_append] at this)) ?_
  rintro _ Y76 ⟨c76,rfl,ayz,ayu⟩
  refine eW Pa [[],[]]<|zD 2<|js 77 (!c76) (fun GP=>?_) (fun GP=>?_)
  ·
   try simp only[zB] at GP
   refine zD 6<|aN q0.a.a (.bool false) [] [0] Y76 (cu.trans AF) ⟨_,_,rfl,rfl,_,rfl,nofun,fun _=>ayu (by simp_all)⟩
  try simp only[zB] at GP
  refine zD 3<|zW ((i:Int)+1)<|zD 2<|bF bP (⟨i+1,Y76⟩) ⟨by dsimp only;omega,ayz (by simp_all)⟩ (by dsimp only;omega) [0,4] AF
 refine zD 7<|aN q0.a (.bool true) [] [0] B cu ⟨_,_,rfl,rfl,_,rfl,(fun _=>by have:=hI.2;rwa[show i=l.length by rw[←aiX];omega] at this),nofun⟩
theorem aKn{S:List (List ar)}{Inv:Nat→Cells→Prop}{ea:Option Addr}{r0:Nat}{es0:Array MapEntry}{F0:List (ak×Value)}(JY:KZ ro b S ways)(hO:eF S)(hW:zu ways)(hC:adG ro bl b b1 b2 b3)(hE:∀aF,Knows aF LE→cD aF (.slice ea en ec) S)(hE0:uw oS F0 es0 ck0)(hk0:F0.map (·.1)=bD S)(hM0:MV Z F0 id)(hB:Inv 0 B)(hy:YOK zT bl ro (dg S ways).length (ap8 (bD S) (dg S ways)) Inv Stop):
 ee zT 202 [.agg ⟨[zS,.slice ea en ec,.map (some r0)]⟩,zP b1,zP b2,zP b3] ro (LE++(r0,.map es0 ck0)::(Z++B)) (fun r Y=>∃c,r= .bool c∧(c=true→Inv (dg S ways).length Y)∧(c=false→Stop Y)):=by
 match ways,hW with
 | [],_=>
  have:=aj7 (t:=⟨none,0,0,ea,en,ec,r0⟩) (x:=⟨[],id⟩) (k:=0) (LL:=LE++(r0,.map es0 ck0)::Z) JY hC rfl rfl (fun aF hk=>⟨bJ.nil _ _ _ _ _,es0,ck0,F0,(Knows.right hk) _ (.head _),hE0,fun h hh=>by rw[hk0];exact hh,hM0 _ (Knows.tail (Knows.right hk))⟩) hB hy
  rwa[List.append_assoc,List.cons_append] at this
 | [l],hW=>
  refine(aYT JY hO hW hC hE hE0 hk0 hM0 hB hy).mono fun _ _ ⟨c,h1,h2,h3⟩=>⟨c,h1,fun h=>?_,h3⟩
  rw[show (dg S [l]).length=l.length by simp[dg]]
  exact h2 h
 |_::_::_,hW=>exact absurd hW.one (by simp)
theorem acR{S:List (List ar)}(g1:ro b1=some (.cells ⟨[zP b]⟩ 195 (0,0)))(JY:KZ ro b S ways)(hO:eF S)(hW:zu ways):ItX zT 201 [] [zP b1] ro [] (dg S ways).length (ap8 (bD S) (dg S ways)) (fun Z=>Z=[]):=by
 intro bl aJ Inv Stop hs hy B hB
 replace g1:=hs _ _ g1
 replace JY:=JY.up hs
 have aXn:=JY
 obtain⟨vS,vT,vH,fa,fc,gb,hS,hT,hHs⟩:=JY
 have uC:=hS
 obtain⟨jF,mI,fP⟩:=hS
 obtain⟨anz,bhp,bhl,anx,rfl,bhn,bho,bhm⟩:=mI
 obtain⟨iZ,ht,fF⟩:=id hT
 obtain⟨fx,BA,By,ez,rfl,Bz,tx,tw⟩:=ht
 have Ui:∀(i:Nat) (p:eN),([]:List eN)[i]?=some p→cK ⟨aJ,[]⟩ 0 (0+i*6) 6 (pe p):=fun _ _ h=>p8 h
 refine zC [.l B]<|zD 2<|jn fun b2=>zD 3<|jn fun b3=>jd 5 [0]<|jf [1,0] ((b2,.cells ⟨[(.func (.yield bl) #[] #[])]⟩ 307 (0,0))::[(b3,.cells ⟨[.func (.func 202) ⟨[]⟩ ⟨[zP b1,zP b2,zP b3]⟩]⟩ 307 (0,0))]) fun ya cu iX=>zD 2<|jl (b:=b3) (off:=0) (m:=1) (vs:=[.func (.func 202) ⟨[]⟩ ⟨[zP b1,zP b2,zP b3]⟩]) 0 ⟨_,_,_,.inl (iX _ (.tail _ (.head _))),rfl⟩<|jl (b:=b1) (off:=0) (m:=1) (vs:=[zP b]) 0 ⟨_,_,_,.inl (cu _ _ g1),rfl⟩<|zD 3<|jl (b:=b) (off:=0) (m:=4) (vs:=[.slice anz jF.length anx,.slice fx iZ.length ez,.slice fa 0 fc,vH]) 0 ⟨_,_,_,.inl (cu _ _ gb),rfl⟩<|jl (b:=b1) (off:=0) (m:=1) (vs:=[zP b]) 0 ⟨_,_,_,.inl (cu _ _ g1),rfl⟩<|zD 3<|jl (b:=b) (off:=0) (m:=4) (vs:=[.slice anz jF.length anx,.slice fx iZ.length ez,.slice fa 0 fc,vH]) 0 ⟨_,_,_,.inl (cu _ _ gb),rfl⟩<|aP 6 fun C5 Dc Ba=>jc (vs:=[.agg ⟨[.slice anz jF.length anx]⟩]) [] (apZ (uC.up cu) hO) ?_
 rintro _ L11 ⟨a11,n11,c11,rfl,aYe⟩
 refine dW Ba [1]<|aP 12 fun zw Ab yZ=>jc (vs:=[.agg ⟨[.slice anz jF.length anx]⟩]) [] (M7 (uC.up cu) hO) ?_
 rintro _ _ ⟨r17,F17,bm2,Z17,rfl,rfl,axL,acC,aXz⟩
 obtain⟨aY8,aZm,rfl,aYd⟩:=axL
 refine jg 0 [.b r17 (.map aY8 aZm),.l Z17]<|dW yZ [2,3]<|zD 1<|aP 14 fun tA tH q5=>jc (vs:=[.agg ⟨[zS,.slice a11 n11 c11,(.map (some r17))]⟩,zP b1,zP b2,zP b3]) [2,0,1,3] (aKn (aXn.up cu) hO hW ⟨(cu _ _ g1),iX _ (.head _),iX _ (.tail _ (.head _))⟩ aYe aYd acC aXz hB (YOK.up hy cu)) ?_
 rintro _ Y19 ⟨c19,rfl,aWF,aWs⟩
 refine eW q5 [[],[]]<|zD 1<|aN q0.a (.tuple ⟨[]⟩) [] [0] Y19 cu ⟨_,_,rfl,rfl,[],Y19,rfl,rfl,by cases c19 with|true=>exact .inl (aWF rfl)|false=>exact .inr (aWs rfl)⟩
theorem G7{S:List (List ar)}(hW:zu ways):(dg S ways).length≤3:=by
 match ways,hW with
 | [],_=>simp[dg]
 |l::_,hW=>
  have:=(hW.ok l (by simp)).1.2
  simpa [dg] using this
theorem akc{fa:Option Addr}{S:List (List ar)}(hS:cD ro vS S)(hO:eF S)(hT:oz ro vT ways)(hW:zu ways):FnG zT 108 [.agg ⟨[vS,vT,.slice fa 0 fc]⟩] ro [] (fun r aJ Y=>∃b vl ts Lt Z,r= .tuple ⟨[zP b,vl,zI 0]⟩∧KZ aJ b S ways∧Y=Lt++Z∧aA vl 3 202 ap9 ts Lt∧ts.length=(dg S ways).length∧∀aF,Knows aF Z→dc (TrR (bD S) aF) ts (dg S ways)):=by
 have uC:=hS
 obtain⟨jF,hs,fP⟩:=hS
 obtain⟨mV,VG,VE,mo,rfl,VF,Qa,P9⟩:=hs
 obtain⟨iZ,ht,fF⟩:=id hT
 obtain⟨fx,BA,By,ez,rfl,Bz,tx,tw⟩:=ht
 have KD:=fP.len
 have GK:=fF.len
 have Kz:=hO.two
 have B1:=hW.one
 have Ui:∀(i:Nat) (p:eN),([]:List eN)[i]?=some p→cK ⟨ro,[]⟩ 0 (0+i*6) 6 (pe p):=fun _ _ h=>p8 h
 refine aFP (hm:=av) [] [] bp<|zD 2<|jn fun b1=>jd 7 [0]<|jc (vs:=[.agg ⟨[.slice mV jF.length mo,.slice fx iZ.length ez,.slice fa 0 fc]⟩]) [] (azy uC hO hT hW) ?_
 rintro _ _ ⟨KX,aCp,aLH,rfl,rfl,axA⟩
 refine jg 0 [.b KX (.cells ⟨[.slice mV jF.length mo,.slice fx iZ.length ez,.slice fa 0 fc,aCp]⟩ 233 (0,0)),.l aLH]<|zD 5<|jf [0,1] ((KX,.cells ⟨[.slice mV jF.length mo,.slice fx iZ.length ez,.slice fa 0 fc,aCp]⟩ 233 (0,0))::aLH) (fun ya cu iX=>?_)
 have JY:KZ ya KX S ways:=⟨_,_,_,_,_,iX _ (.head _),uC.up cu,hT.up cu,axA.jR (Knows.tail iX)⟩
 refine zD 10 ?_
 have hLn:(dg S ways).length≤3:=G7 hW
 refine zD 1<|jn fun b7=>zD 5<|jc (vs:=[zP KX]) [] (aj5) ?_
 rintro _ _ ⟨arV,rfl,rfl⟩
 refine jg 0 [.b arV (.cells ⟨[zP KX]⟩ 195 (0,0))]<|jf [0] [(arV,.cells ⟨[zP KX]⟩ 195 (0,0))] fun ro6 kX Z6=>zD 2<|my<|my<|jrf [] (acR (Z6 _ (.head _)) (JY.up kX) hO hW) (by rintro _ _ _ _ ⟨_,_,_,rfl,_⟩;rfl) (fun(zz:Value×Cells×(List TrV)×Cells)=>[.b b7 (.cells ⟨[zz.1]⟩ 196 (0,0)),.l zz.2.1,.l zz.2.2.2]) (fun kk=>(fun(zz:Value×Cells×(List TrV)×Cells)=>aA zz.1 3 202 ap9 zz.2.2.1 zz.2.1∧zz.2.2.1.length=kk∧(∀aF,Knows aF zz.2.2.2→dc (TrR (bD S) aF) zz.2.2.1 ((dg S ways).take kk))∧(dg S ways).length≤3)) (fun jump=>(fun(zz:Value×Cells×(List TrV)×Cells)=>False)) (⟨zS,[],[],[]⟩) ⟨aA.nil _ _ _,rfl,fun _ _=> .nil,hLn⟩ [2,0,1] ?_ ?_ ?_
 ·
  rintro bl7 bd7 kk7 vs7 LL7 ⟨vl,Lt,ts,Z⟩ ro7 hk7 aV1 hI px
  obtain⟨x7,t7,hx7,rfl,hR7⟩:=aV1
  dsimp only at hI
  have cv:=(List.getElem?_eq_some_iff.1 hx7).1
  refine zD 1<|jn fun b8=>jd 2 [0]<|aFU<|jd 4 [2,0]<|jn fun Qo=>cH ap9 Qo (⟨t7.a,t7.n,t7.c,t7.ea,t7.en,t7.ec,t7.r⟩:TrV) 4 0 hI.1 rfl rfl (by omega) fun aPM aPp L23 Ea=>jd 2 [4]<|jyn qy0 (Sub.refl _) ⟨(.slice aPM ((ts++[(⟨t7.a,t7.n,t7.c,t7.ea,t7.en,t7.ec,t7.r⟩:TrV)])).length aPp),L23,(ts++[(⟨t7.a,t7.n,t7.c,t7.ea,t7.en,t7.ec,t7.r⟩:TrV)]),LL7++Z⟩ ⟨Ea,by simp only[zM];omega,fun aF hk=>yH (hI.2.2.1 aF (Knows.right hk)) hx7 (hR7 aF (Knows.left hk)),hI.2.2.2⟩ [3,4,0,6,5]
 ·
  rintro bd7 ⟨vl,Lt,ts,Z⟩ Z7 hI hZ7
  dsimp only at hI
  subst hZ7
  refine jd 9 [2]<|aTs qm0.a.a.m (.tuple ⟨[zP KX,vl,zI 0]⟩) [0] [] [2,3] (Lt++Z) (Sub.refl _) ⟨_,_,_,rfl,rfl,(cu.trans kX),KX,vl,ts,Lt,Z,rfl,JY.up kX,rfl,hI.1,hI.2.1,by have:=hI.2.2.1;rwa[List.take_of_length_le (Nat.le_refl _)] at this⟩
 rintro bd7 ⟨vl,Lt,ts,Z⟩ Z7 jump hS hZ7
 exact hS.elim
def wv(t:TrV):Value:= .slice t.a t.n t.c
theorem dc.maps{γ δ:Type}{R:α→β→Prop}{T:γ→δ→Prop}{f:α→γ}{g:β→δ}(h:∀a b,R a b→T (f a) (g b)):∀ {l:List α} {m:List β},dc R l m→dc T (l.map f) (m.map g)
 | [],[],.nil=> .nil
 |_::_,_::_,.cons h1 h2=> .cons (h _ _ h1) (dc.maps h h2)
theorem abR{y:ak}{l:List ak}(h:y∈l):bS (oO y.h y.n y.l) l 0≥0:=by
 have key:∀(l:List ak) (k:Nat),y∈l→bS (oO y.h y.n y.l) l k≥0:=by
  intro l
  induction l with
  |nil=>intro k h;cases h
  |cons x l ih=>
   intro k h
   simp only[bS]
   cases hx:oO y.h y.n y.l x with
   |true=>simp
   |false=>
    simp only[cond_false]
    rcases List.mem_cons.1 h with rfl|h
    ·simp[oO] at hx
    exact ih _ h
 exact key l 0 h
theorem apX{fa:Option Addr}{S:List (List ar)}(hS:cD ro vS S)(hO:eF S)(hT:oz ro vT ways)(hW:zu ways):ee zT 55 [.agg ⟨[vS,vT,.slice fa 0 fc]⟩] ro [] (fun r Y=>∃a n c,r= .tuple ⟨[.slice a n c,zI 0]⟩∧n=((dg S ways).map (·.ways)).length∧∀k7,Knows k7 Y→alz k7 (.slice a n c) ((dg S ways).map (·.ways))):=by
 have uC:=hS
 obtain⟨jF,hs,fP⟩:=hS
 obtain⟨mV,VG,VE,mo,rfl,VF,Qa,P9⟩:=hs
 obtain⟨iZ,ht,fF⟩:=id hT
 obtain⟨fx,BA,By,ez,rfl,Bz,tx,tw⟩:=ht
 have KD:=fP.len
 have GK:=fF.len
 have Kz:=hO.two
 have B1:=hW.one
 have Ui:∀(i:Nat) (p:eN),([]:List eN)[i]?=some p→cK ⟨ro,[]⟩ 0 (0+i*6) 6 (pe p):=fun _ _ h=>p8 h
 have hLn:=G7 (S:=S) hW
 refine zE<|zD 2<|jn fun b1=>jd 6 [0]<|jcG (vs:=[.agg ⟨[.slice mV jF.length mo,.slice fx iZ.length ez,.slice fa 0 fc]⟩]) [] (akc uC hO hT hW) ?_
 rintro _ aJ _ cu ⟨xS,vl,ts,Lt,Z,rfl,JY,rfl,hL,htl,hA⟩
 obtain⟨uS,uT,uH,ua,uc,gb,_,_,hh⟩:=JY
 obtain⟨di,uQ,uP,cP,rfl,wF,pM,pK⟩:=hh
 obtain⟨aPQ,aPt,aWg⟩:=hL.form
 subst aWg
 refine jg 0 [.l Lt,.l Z]<|zD 28<|my<|dH [1,1,1,1,0,1,0,0] [] (fun(zz:Nat×Value×Cells)=>[(2,zS),(3,zI 0),(7,zz.2.1),(19,(.slice aPQ ts.length aPt)),(20,zI (ts.length:Int)),(21,zI (zz.1:Int))]) (fun zz=>[.l zz.2.2,.l Lt,.l Z,.b b1 (.cells ⟨[.slice mV jF.length mo,.slice fx iZ.length ez,.slice fa 0 fc]⟩ 29 (0,0))]) (fun zz=>zz.1≤ts.length∧aA zz.2.1 1 22 gL ((ts.take zz.1).map wv) zz.2.2) (fun zz=>ts.length-zz.1) (⟨0,zS,[]⟩) ⟨by dsimp only;omega,aA.nil _ _ _⟩ (zN 0 4) ?_
 rintro⟨k,vO,LO⟩ hI K1 bP rest
 dsimp only at hI
 refine zD 5<|zJ 22 ((k:Int) <(ts.length:Int)) (fun h2=>?_) fun h2=>?_
 ·
  refine zD 6 ?_
  obtain⟨A5,tV⟩:=zG ts k
  refine Un 3 hL tV fun b23 aW4=>n7 0 [1] Lt (fun s _ hZ=>cB hL aW4 hZ tV)<|jn fun b9=>jd 6 [0,0]<|jn fun b28=>cH gL b28 (.slice A5.a A5.n A5.c:Value) 2 0 hI.2 rfl rfl (by simp only[List.length_map,List.length_take];omega) (fun aeF aex L29 OW=>?_)
  refine zD 3<|zW ((k:Int)+1)<|zD 2<|zF bP (⟨k+1,(.slice aeF ((((ts.take k).map wv)++[(.slice A5.a A5.n A5.c:Value)])).length aex),L29⟩) (by rw[cG tV,List.map_append];exact OW) [0,3,4,5]
 refine zD 3 ?_
 obtain⟨va3,vc3,he3⟩:=hI.2.form
 subst he3
 refine zD 6<|aN q0.a (.tuple ⟨[(.slice va3 (((ts.take k).map wv)).length vc3),zI 0]⟩) [] [0,2] (LO++Z) cu ⟨_,_,rfl,rfl,_,_,_,rfl,by simp only[List.length_map,List.length_take];omega,fun k7 hk=>⟨_,hI.2.jR (Knows.left hk),by rw[List.take_of_length_le (by omega)];exact(hA k7 (Knows.right hk)).maps fun _ _ h=>h.1⟩⟩
theorem azr{fa:Option Addr}{S:List (List ar)}{y:ak}{x:TrD}(hS:cD ro vS S)(hO:eF S)(hT:oz ro vT ways)(hW:zu ways)(hy:y∈bD S)(hLx:dg S ways=[x]):ee zT 89 [.agg ⟨[vS,vT,.slice fa 0 fc]⟩,.agg ⟨[zI y.h,zI y.n,zI y.l]⟩] ro [] (fun r Y=>∃a n c,r= .tuple ⟨[.slice a n c,zI 0]⟩∧∀k7,Knows k7 Y→bJ k7 (.slice a n c) 3 bY [x.g y]):=by
 have uC:=hS
 obtain⟨jF,hs,fP⟩:=hS
 obtain⟨mV,VG,VE,mo,rfl,VF,Qa,P9⟩:=hs
 obtain⟨iZ,ht,fF⟩:=id hT
 obtain⟨fx,BA,By,ez,rfl,Bz,tx,tw⟩:=ht
 have KD:=fP.len
 have GK:=fF.len
 have Kz:=hO.two
 have B1:=hW.one
 have Ui:∀(i:Nat) (p:eN),([]:List eN)[i]?=some p→cK ⟨ro,[]⟩ 0 (0+i*6) 6 (pe p):=fun _ _ h=>p8 h
 have hhl:=qV hO
 have hph:=abR hy
 have Ba:(dg S ways).length=1:=by rw[hLx];rfl
 refine zE<|zD 2<|jn fun b2=>jn fun b3=>jd 6 [1]<|jcG (vs:=[.agg ⟨[.slice mV jF.length mo,.slice fx iZ.length ez,.slice fa 0 fc]⟩]) [] (akc uC hO hT hW) ?_
 rintro _ aJ _ cu ⟨b14,vl,ts,Lt,Z,rfl,JY,rfl,hL,htl,hA⟩
 obtain⟨uS,uT,uH,ua,uc,gb,_,_,hh⟩:=JY
 obtain⟨di,uQ,uP,cP,rfl,wF,pM,pK⟩:=hh
 obtain⟨NK,Kh,F4⟩:=hL.form
 subst F4
 refine jg 0 [.l Lt,.l Z]<|zD 22<|jl (b:=b14) (off:=0) (m:=4) (vs:=[uS,uT,.slice ua 0 uc,.slice di ((bD S).length) cP]) 3 ⟨_,_,_,.inl gb,rfl⟩<|jd 1 [2]<|jp (vs:=[.slice di ((bD S).length) cP,.agg ⟨[zI y.h,zI y.n,zI y.l]⟩]) [] [] (fun aJ hs hZ=>ML ((show bJ _ _ _ _ _ from ⟨di,uQ,uP,cP,rfl,wF,pM,pK⟩).up hs) (by omega))<|zD 2<|js 27 (!(decide (bS (oO y.h y.n y.l) (bD S) 0≥0))) (fun h2=>?_) (fun h2=>?_)
 ·
  exfalso;simp_all
 refine zD 9<|zJ 30 ((ts.length:Int)=0) (fun h3=>?_) fun h3=>?_
 ·
  exfalso;omega
 refine zD 5<|jf [0,1] (Lt++Z) (fun ro6 kX Z6=>?_)
 have hLs:=hL.jR (Knows.left Z6)
 have hAs:=hA _ (Knows.right Z6)
 obtain⟨iI,Gu,Gt,iH,Ur,JI,FL,FK⟩:=hLs
 simp only[Value.slice.injEq] at Ur
 obtain⟨rfl,_,rfl⟩:=Ur
 refine zD 9<|my<|dH [1,1,1,1,1,1,0,1,0,0] [] (fun(zz:Nat×Value×Cells)=>[(3,zP b3),(4,zS),(5,zI 0),(9,zz.2.1),(31,.slice NK ts.length Kh),(32,zI (ts.length:Int)),(33,zI (zz.1:Int))]) (fun zz=>[.l zz.2.2,.b b3 (.cells ⟨[zI y.h,zI y.n,zI y.l]⟩ 132 (0,0)),.b b2 (.cells ⟨[.slice mV jF.length mo,.slice fx iZ.length ez,.slice fa 0 fc]⟩ 29 (0,0))]) (fun zz=>zz.1≤ts.length∧aA zz.2.1 3 132 bY ([x.g y].take zz.1) zz.2.2) (fun zz=>ts.length-zz.1) (⟨0,zS,[]⟩) ⟨by dsimp only;omega,aA.nil _ _ _⟩ [0,1,2] ?_
 rintro⟨k,vO,LO⟩ hI K1 bP rest
 dsimp only at hI
 refine zD 5<|zJ 34 ((k:Int) <(ts.length:Int)) (fun h7=>?_) fun h7=>?_
 ·
  refine zD 6 ?_
  obtain⟨x35,Wn⟩:=zG ts k
  refine fK Kh 3 FL Wn<|jl 0 (FK _ _ Wn)<|jn fun KX=>jd 2 [0] ?_
  obtain⟨q35,aGB,_,blH,blM,F35,aVs,aYc,aVE,aUh⟩:=hAs.get Wn
  obtain⟨hqe,hk0⟩:=mw (by rw[hLx] at aGB;exact aGB)
  replace hqe:=hqe.symm
  subst hqe
  refine jd 5 [0,2]<|jlu (kv:=oS) (F:=F35) (r:=x35.r) (K:=132) y (zS) false [] [] BQ (fun s he _=>⟨_,_,he _ _ (.inl aVs),aYc⟩) ?_
  obtain⟨w41,aUa,aVq⟩:=Ow (k:=y) (F:=F35) (aVE y hy)
  have hww:bJ _ w41 3 bY [x.g y]:=aUh _ aVq
  obtain⟨FE,qwb,qwo,yN,rfl,qwk,P8,P7⟩:=hww
  refine jw 41 (.slice FE ([x.g y].length) yN) (show Ox (zS) false y F35=_ from by simp only[Ox,aUa];rfl) ?_
  refine BS (sz:=3) (ps:=([x.g y].take k)) (qs:=[x.g y]) (enc:=bY) (w:= .slice FE ([x.g y].length) yN) [1] [] [] (hI.2) (fun s he _=>⟨FE,qwb,qwo,yN,rfl,P8,fun i p hp=>(P7 i p hp).ext he⟩) (fun p _=>bM rfl) (by simp only[List.length_take,List.length_cons,List.length_nil];omega) (fun v42 L42 aij=>?_)
  obtain⟨aPG,aPj,aWb⟩:=aij.form
  subst aWb
  refine zD 3<|zW ((k:Int)+1)<|zD 2<|zF bP (⟨k+1,(.slice aPG ((([x.g y].take k)++[x.g y])).length aPj),L42⟩) (by have:=aij;rw[hk0] at this ⊢;exact this) [0,2,3]
 refine zD 5<|jcL (vs:=[vO]) [] [0] LO (fun aJ hs hZ=>Pg (hI.2.jR hZ) (by simp only[List.length_take,List.length_cons,List.length_nil];omega)) ?_
 rintro v45 L45 aGN
 obtain⟨at0,atN,aV9⟩:=aGN.form
 subst aV9
 refine zD 4<|aN q0.a.a (.tuple ⟨[(.slice at0 (([x.g y].take k)).length atN),zI 0]⟩) [] [0] L45 (cu.trans kX) ⟨_,_,rfl,rfl,_,_,_,rfl,fun k7 hk=>by have:=aGN.jR hk;have e: [x.g y].take k=[x.g y]:=List.take_of_length_le (by simp only[List.length_cons,List.length_nil];omega);simpa only[e] using this⟩
def pO(S:List (List ar))(ways:List (List aO))(w:List Int)(x:aI):List ak:=match ways,w with
 |l::_,i::_=>(match l[i.toNat]? with
  |some c=>[m8 S c ⟨x.st,x.no,0⟩]
  |none=>[])
 |_,_=>[⟨x.st,x.no,0⟩]
def WW(K:aE):List (List Int):=(dg K.str K.ways).map (·.ways)
theorem Jz{l:List aO}{w:List Int}(h:K.ways=[l])(hw:w∈WW K):∃(i:Nat) (c:aO),l[i]?=some c∧w=[(i:Int)]:=by
 simp only[WW,h,dg,List.map_map,List.mem_map,List.mem_range,Function.comp,aui] at hw
 obtain⟨i,hi,rfl⟩:=hw
 exact⟨i,l[i],List.getElem?_eq_getElem hi,rfl⟩
theorem kg.wp(h:kg K):zu K.ways:=⟨h.ways.1,fun l hl=>⟨⟨(h.ways.2 l hl).1.1,by have:=(h.ways.2 l hl).1.2;omega⟩,(h.ways.2 l hl).2⟩⟩
theorem Gy(h:kg K):K.ways=[]∨∃l,K.ways=[l]:=by
 have:=h.ways.1
 match hw:K.ways,this with
 | [],_=>exact .inl rfl
 | [l],_=>exact .inr ⟨l,rfl⟩
theorem UO(h:kg K):XZ K (WW K):=by
 rcases Gy h with e| ⟨l,e⟩
 ·exact⟨by simp[WW,e,dg],fun w hw=>by simp[WW,e,dg] at hw;simp[hw,e],fun w hw k l n hl=>by simp[e] at hl⟩
 have hl:=(h.ways.2 l (by simp[e])).1
 refine⟨by simp[WW,e,dg];omega,fun w hw=>?_,fun w hw k l' n hk hn=>?_⟩
 ·obtain⟨i,c,_,rfl⟩:=Jz e hw;simp[e]
 obtain⟨i,c,hi,rfl⟩:=Jz e hw
 rw[e] at hk
 obtain⟨rfl,rfl⟩:=mw hk
 obtain⟨rfl,_⟩:=mw hn
 have:=(List.getElem?_eq_some_iff.1 hi).1
 omega
theorem QJ(hK:fO ro l K)(hO:kg K):rG ro l (WW K):=by
 obtain⟨vS,vT,vc,vh,vr,vb,va,vf,fa,fc,hv,rfl,hS,hT,_⟩:=hK
 intro aJ hs
 exact apX (hS.up hs) hO.qM (hT.up hs) hO.wp
theorem Mv{S:List (List ar)}{x:aI}(h:aqE S hd x):(⟨x.st,x.no,0⟩:ak)∈bD S:=by
 obtain⟨l,h1,h2⟩:=h.2
 have:=Ii h1 h2
 simp only[nG] at this
 rwa[show ((x.st.toNat:Nat):Int)=x.st by have:=h.1.2.2.1;omega] at this
theorem aqe{l:List aO}{c:aO}(h:l[i]?=some c):(l.take ((i:Int).toNat+1)).drop (i:Int).toNat=[c]:=by
 rw[Int.toNat_natCast,cG h,List.drop_append_of_le_length (by have:=(List.getElem?_eq_some_iff.1 h).1;rw[List.length_take];omega),List.drop_eq_nil_of_le (by rw[List.length_take];omega)];rfl
theorem amM(hK:fO ro l K)(hO:kg K):yI ro l K (WW K) (pO K.str K.ways):=by
 obtain⟨vS,vT,vc,vh,vr,vb,va,vf,fa,fc,hv,rfl,hS,hT,_⟩:=hK
 intro w hw x hx
 have hy:=Mv (hO.before.2 x hx)
 have fin:∀(t:TrD),zu (Co K.ways w)→dg K.str (Co K.ways w)=[t]→pO K.str K.ways w x=[t.g ⟨x.st,x.no,0⟩]→(pO K.str K.ways w x).length≤1000∧∀aJ,Sub ro aJ→∀v vS' vT' vU r,[vS,vT,.slice fa 0 fc,vc,vh,vr,vb,va,zI K.gone,zI K.new,zI K.af,vf]=vS'::vT'::vU::r→oz aJ v (Co K.ways w)→
  ee zT 89 [.agg ⟨[vS',v,vU]⟩,.agg ⟨[zI x.st,zI x.no,zI 0]⟩] aJ [] (fun r Y=>∃a n c,r= .tuple ⟨[.slice a n c,zI 0]⟩∧∀k7,Knows k7 Y→bJ k7 (.slice a n c) 3 bY (pO K.str K.ways w x)):=by
  intro t h1 h2 h3
  rw[h3]
  refine⟨by simp,fun aJ hs v vS' vT' vU r he hv=>?_⟩
  simp only[List.cons.injEq] at he
  obtain⟨rfl,_,rfl,_⟩:=he
  exact azr (hS.up hs) hO.qM hv h1 hy h2
 rcases Gy hO with e| ⟨l,e⟩
 ·refine fin ⟨[],id⟩ ?_ ?_ ?_
  ·rw[e];exact⟨by simp[Co],by simp[Co]⟩
  ·rw[e];simp[Co,dg]
  rw[e];rfl
 obtain⟨i,c,hi,rfl⟩:=Jz e hw
 have hc:Co K.ways [(i:Int)]=[[c]]:=by rw[e];simp only[Co,List.zipWith_cons_cons,List.zipWith_nil_right,aqe hi]
 refine fin ⟨[0],m8 K.str c⟩ ?_ ?_ ?_
 ·rw[hc]
  refine⟨by simp,fun l' hl=>?_⟩
  rw[List.mem_singleton] at hl;subst hl
  exact⟨by simp,fun c' ue=>by rw[List.mem_singleton] at ue;subst ue;exact(hO.ways.2 l (by simp[e])).2 _ (zL hi)⟩
 ·rw[hc];rfl
 rw[e];simp only[pO,Int.toNat_natCast,hi]
def ax(K:aE):List bx:=(WW K).map (lG K (pO K.str K.ways))
theorem kM(h:kg K):(ax K).length≤2:=by
 rw[ax,List.length_map];exact(UO h).n.2
theorem tt(hK:fO ro l K)(hO:kg K)(hV:fq K):gE ro l K (ax K):=
 aqx hK hO hV (UO hO) (QJ hK hO) (amM hK hO)
def cZ(K:aE):Nat:=(db K (bw K) (bV K.gone K.new K.af) (ax K)).length
theorem IJ:∀(l:List Int) (a:Int),l.foldl min a≤a∧∀x∈l,l.foldl min a≤x
 | [],a=>⟨Int.le_refl _,fun _ h=>(by cases h)⟩
 |y::l,a=>by
  obtain⟨h1,h2⟩:=IJ l (min a y)
  refine⟨by simp only[List.foldl_cons];omega,fun x hx=>?_⟩
  rcases List.mem_cons.1 hx with rfl|hx
  ·simp only[List.foldl_cons];omega
  exact h2 x hx
theorem Om{l:List Int}(h:x∈l):iB l≤x:=by
 cases l with
 |nil=>cases h
 |cons y l=>
  rcases List.mem_cons.1 h with rfl|h
  ·exact(IJ l _).1
  exact(IJ l _).2 x h
theorem ZE(hK:fO ro l K)(hO:kg K)(hV:fq K):Be zT 16 [.agg ⟨l⟩] ro [] (fun r Y=>∃zs m e,zs.Perm (db K (bw K) (fun _=>true) (ax K))∧Y=[]∧r= .tuple ⟨[zI m,zI e]⟩∧((zs=[]∧m=0∧e=9)∨(zs≠[]∧m=iB (zs.map nC)∧e=0))):=
 fun fr=>Fn.mono (awi hK hV (kM hO) (tt hK hO hV) fr) fun en s' ⟨v,Y,h1,h2,zs,h3,h4,h5⟩=>⟨v,Y,h1,h2,by
  rcases h5 with ⟨h5,h6⟩| ⟨h5,h6⟩
  ·exact⟨zs,0,9,h3,h4,h6,.inl ⟨h5,rfl,rfl⟩⟩
  exact⟨zs,_,0,h3,h4,h6,.inr ⟨h5,rfl,rfl⟩⟩⟩
theorem Si(hK:fO ro l K)(hO:kg K)(hV:fq K):Be zT 10 [.agg ⟨l⟩] ro [] (fun r Y=>r= .tuple ⟨[zI (cZ K:Int),zI 0]⟩∧Y=[]):=ahg hK hV (kM hO) (tt hK hO hV)
def J3:List Int→List Int→Bool
 | [],[]=>true
 |x::l,y::m=>decide (x=y)&&J3 l m
 |_,_=>false
theorem akH:∀ {l m:List Int},¬l.length=m.length→J3 l m=false
 | [],[],h=>absurd rfl h
 | [],_::_,_=>rfl
 |_::_,[],_=>rfl
 |x::l,y::m,h=>by rw[J3,akH (l:=l) (m:=m) (by simpa using h),Bool.and_false]
theorem akI(hx:xs[k]?=some x) (hy:ys[k]?=some y):J3 (xs.drop k) (ys.drop k)=(decide (x=y)&&J3 (xs.drop (k+1)) (ys.drop (k+1))):=by rw[fg hx,fg hy];rfl
theorem ap5(hx:¬k <xs.length)(h:xs.length=ys.length):J3 (xs.drop k) (ys.drop k)=true:=by rw[eo hx,eo (by omega)];rfl
def Gc:List (List Int)→List (List Int)→Bool
 | [],[]=>true
 |x::l,y::m=>J3 x y&&Gc l m
 |_,_=>false
theorem aaz:∀ {l m:List (List Int)},¬l.length=m.length→Gc l m=false
 | [],[],h=>absurd rfl h
 | [],_::_,_=>rfl
 |_::_,[],_=>rfl
 |x::l,y::m,h=>by rw[Gc,aaz (l:=l) (m:=m) (by simpa using h),Bool.and_false]
theorem aaA{xs ys:List (List Int)}{x y:List Int}(hx:xs[k]?=some x) (hy:ys[k]?=some y):Gc (xs.drop k) (ys.drop k)=(J3 x y&&Gc (xs.drop (k+1)) (ys.drop (k+1))):=by rw[fg hx,fg hy];rfl
theorem akG{xs ys:List (List Int)}(hx:¬k <xs.length)(h:xs.length=ys.length):Gc (xs.drop k) (ys.drop k)=true:=by rw[eo hx,eo (by omega)];rfl
def zp:List Int→List Int→Int
 | [],[]=>0
 | [],_::_=> -1
 |_::_,[]=>1
 |x::xs,y::ys=>if rS x y=0 then zp xs ys else rS x y
theorem TR(hx:xs[k]?=some x) (hy:ys[k]?=some y):zp (xs.drop k) (ys.drop k)=if rS x y=0 then zp (xs.drop (k+1)) (ys.drop (k+1)) else rS x y:=by rw[fg hx,fg hy];rfl
theorem ac8(hx:xs[k]?=some x) (hy:¬k <ys.length):zp (xs.drop k) (ys.drop k)=1:=by rw[fg hx,eo hy];rfl
theorem Nn(hx:¬k <xs.length):zp (xs.drop k) (ys.drop k)=if k <ys.length then-1 else 0:=by
 rw[eo hx]
 split
 ·rename_i h
  rw[List.drop_eq_getElem_cons h];rfl
 rename_i h
 rw[eo h];rfl
def m9(f:Int):Nat→List Int
 |0=>[]
 |k+1=>m9 f k++(bif hasB f k then [(k:Int)] else [])
theorem aon{f:Int}(h:hasB f (k:Int)=true):m9 f (k+1)=m9 f k++[(k:Int)]:=by rw[m9,h];rfl
theorem aoo{f:Int}(h:hasB f (k:Int)=false):m9 f (k+1)=m9 f k:=by rw[m9,h];exact List.append_nil _
theorem MH(f:Int)(n:Nat):(m9 f n).length≤n:=by
 induction n with
 |zero=>exact Nat.le_refl _
 |succ n ih=>rw[m9,List.length_append];cases hasB f (n:Int)<;>simp<;>omega
def Ao(f:Int):Int:=([0,1,1,2,1,2,2,3,1,2,2,3,2,3,3,4]:List Int).getD f.toNat 0
theorem Y3{f:Int}(h:0≤f∧f <16):0≤Ao f∧Ao f≤8:=by
 obtain⟨n,rfl⟩:=Int.eq_ofNat_of_zero_le h.1
 have h2:n <16:=by omega
 revert h2
 exact(by decide:∀n:Nat,n <16→0≤Ao (n:Int)∧Ao (n:Int)≤8) n
def TP(x y:Int):Int:=if Ao x-Ao y=0 then zp (m9 x 4) (m9 y 4) else Ao x-Ao y
theorem asY{v w:Value}(hv:bJ ro v 1 aS xs)(hw:bJ ro w 1 aS ys)(hx:xs.length≤1000)(hy:ys.length≤1000):dG zT 13 [v,w] ro (.bool (J3 xs ys)):=by
 obtain⟨Rn,qvb,qvo,FG,rfl,qvk,VD,VC⟩:=hv
 obtain⟨FE,qwb,qwo,yN,rfl,qwk,P8,P7⟩:=hw
 refine zE<|zD 13<|js 10 (!decide ((xs.length:Int)=(ys.length:Int))) (fun h1=>?_) (fun h1=>?_)
 ·
  replace h1:=of_decide_eq_false (by simpa using h1)
  refine zD 6<|zX (.bool false) ⟨by rw[akH (by omega)],rfl⟩
 replace h1:=of_decide_eq_true (by simpa using h1)
 refine zD 8<|dH [1,1,0,1,0,0] [] (fun(zz:Nat)=>[(0,.slice Rn xs.length FG),(1,.slice FE ys.length yN),(5,zI (zz:Int))]) (fun zz=>[]) (fun zz=>zz≤xs.length∧J3 xs ys=J3 (xs.drop zz) (ys.drop zz)) (fun zz=>xs.length-zz) 0 ⟨by omega,rfl⟩ [] ?_
 rintro k hI K1 bP rest
 refine zD 8<|zJ 14 ((k:Int) <(xs.length:Int)) (fun h2=>?_) fun h2=>?_
 ·
  refine zD 8 ?_
  obtain⟨Gn,yT⟩:=zG xs k
  refine fK FG 1 VD yT<|jl 0 (VC _ _ yT)<|zD 2 ?_
  obtain⟨A5,tV⟩:=zG ys k
  refine fK yN 1 P8 tV<|jl 0 (P7 _ _ tV)<|zD 2<|js 25 (!decide (Gn=A5)) (fun h3=>?_) (fun h3=>?_)
  ·
   replace h3:=of_decide_eq_false (by simpa using h3)
   refine zD 6<|zX (.bool false) ⟨by rw[hI.2,akI yT tV,decide_eq_false (by omega),Bool.false_and],rfl⟩
  replace h3:=of_decide_eq_true (by simpa using h3)
  refine zD 4<|zW ((k:Int)+1)<|zD 2<|zY bP (k+1) ⟨by omega,by rw[hI.2,akI yT tV,decide_eq_true (by omega),Bool.true_and]⟩ []
 refine zD 7<|zX (.bool true) ⟨by rw[hI.2,ap5 (by omega) (by omega)],rfl⟩
theorem aTP{v w:Value}(hv:bJ ro v 1 aS xs)(hw:bJ ro w 1 aS ys)(hx:xs.length≤1000)(hy:ys.length≤1000):dG zT 96 [v,w] ro (zI (zp xs ys)):=by
 obtain⟨Rn,qvb,qvo,FG,rfl,qvk,VD,VC⟩:=hv
 obtain⟨FE,qwb,qwo,yN,rfl,qwk,P8,P7⟩:=hw
 refine zE<|zD 12<|dH [1,0,1,0,0] [] (fun(zz:Nat)=>[(0,.slice Rn xs.length FG),(1,.slice FE ys.length yN),(9,.slice Rn xs.length FG),(10,zI (xs.length:Int)),(11,zI (zz:Int))]) (fun zz=>[]) (fun zz=>(zz≤xs.length∧zz≤ys.length)∧zp xs ys=zp (xs.drop zz) (ys.drop zz)) (fun zz=>xs.length-zz) 0 ⟨by omega,rfl⟩ [] ?_
 rintro k hI K1 bP rest
 refine zD 5<|zJ 12 ((k:Int) <(xs.length:Int)) (fun h1=>?_) fun h1=>?_
 ·
  refine zD 7 ?_
  obtain⟨gk,eS⟩:=zG xs k
  refine fK FG 1 VD eS<|jl 0 (VC _ _ eS)<|zD 11<|zJ 19 ((k:Int)≥(ys.length:Int)) (fun h2=>?_) fun h2=>?_
  ·
   refine zD 6<|zX (zI 1) ⟨by rw[hI.2,ac8 eS (by omega)],rfl⟩
  refine zD 6 ?_
  obtain⟨gN,ig⟩:=zG ys k
  refine fK yN 1 P8 ig<|jl 0 (P7 _ _ ig)<|zD 6<|jp (vs:=[zI gk,zI gN]) [] [] (fun aJ hs hZ=>azx)<|zD 7<|js 28 (!decide ((rS gk gN)=0)) (fun h3=>?_) (fun h3=>?_)
  ·
   replace h3:=of_decide_eq_false (by simpa using h3)
   refine zD 7<|zX (zI (rS gk gN)) ⟨by rw[hI.2,TR eS ig,if_neg (by omega)],rfl⟩
  replace h3:=of_decide_eq_true (by simpa using h3)
  refine zD 3<|zW ((k:Int)+1)<|zD 2<|zY bP (k+1) ⟨by omega,by rw[hI.2,TR eS ig,if_pos (by omega)]⟩ []
 refine zD 11<|zJ 35 ((xs.length:Int) <(ys.length:Int)) (fun h4=>?_) fun h4=>?_
 ·
  refine zD 6<|zX (zI (-1)) ⟨by rw[hI.2,Nn (by omega),if_pos (by omega)],rfl⟩
 refine zD 7<|zX (zI 0) ⟨by rw[hI.2,Nn (by omega),if_neg (by omega)],rfl⟩
theorem akq{f:Int}:ee zT 43 [.int .u8 f] ro [] (fun r Y=>∃L,aA r 1 3 aS (m9 f 4) L∧Y=L):=by
 refine zE<|zD 14<|my<|dH [1,1,0,1,0,0] [] (fun(zz:Nat×Value×Cells)=>[(0,.int .u8 f),(2,zS),(3,zz.2.1),(5,zI (zz.1:Int))]) (fun zz=>[.l zz.2.2]) (fun zz=>zz.1≤4∧aA zz.2.1 1 3 aS (m9 f zz.1) zz.2.2) (fun zz=>4-zz.1) (⟨0,zS,[]⟩) ⟨by dsimp only;omega,aA.nil _ _ _⟩ [0] ?_
 rintro⟨k,v,L⟩ hI K1 bP rest
 dsimp only at hI
 have hll:=MH f k
 refine zD 5<|zJ 6 ((k:Int) <4) (fun h1=>?_) fun h1=>?_
 ·
  refine zD 13<|jp (vs:=[.int .u8 f,zI (k:Int)]) [] [] (fun aJ hs hZ=>(awk (by omega)))<|zD 1<|js 10 (hasB f (k:Int)) (fun h2=>?_) (fun h2=>?_)
  ·
   refine zD 4<|jn fun C4=>cH aS C4 (k:Int) 1 0 hI.2 rfl rfl (by omega) fun NK Kh L14 AI=>zD 3<|zW ((k:Int)+1)<|zD 2<|zF bP (⟨k+1,(.slice NK (((m9 f k)++[(k:Int)])).length Kh),L14⟩) (by dsimp only;rw[aon (by assumption)];exact AI) [0]
  refine zD 3<|zW ((k:Int)+1)<|zD 2<|zF bP (⟨k+1,v,L⟩) (by dsimp only;rw[aoo (by assumption)];exact hI.2) [0]
 refine zD 8<|zR (v) [] [0] L ⟨_,(by rw[←show k=4 by omega];exact hI.2),rfl⟩
theorem awe:dG zT 95 [.int .u8 0] ro (zI 0):=by
 refine zE<|zD 12<|zX (zI 0) ⟨rfl,rfl⟩
theorem awd:dG zT 95 [.int .u8 1] ro (zI 1):=by
 refine zE<|zD 12<|zX (zI 1) ⟨rfl,rfl⟩
theorem awc:dG zT 95 [.int .u8 2] ro (zI 1):=by
 refine zE<|zD 12<|zX (zI 1) ⟨rfl,rfl⟩
theorem awb:dG zT 95 [.int .u8 3] ro (zI 2):=by
 refine zE<|zD 12<|zX (zI 2) ⟨rfl,rfl⟩
theorem awa:dG zT 95 [.int .u8 4] ro (zI 1):=by
 refine zE<|zD 12<|zX (zI 1) ⟨rfl,rfl⟩
theorem av9:dG zT 95 [.int .u8 5] ro (zI 2):=by
 refine zE<|zD 12<|zX (zI 2) ⟨rfl,rfl⟩
theorem av8:dG zT 95 [.int .u8 6] ro (zI 2):=by
 refine zE<|zD 12<|zX (zI 2) ⟨rfl,rfl⟩
theorem av7:dG zT 95 [.int .u8 7] ro (zI 3):=by
 refine zE<|zD 12<|zX (zI 3) ⟨rfl,rfl⟩
theorem av6:dG zT 95 [.int .u8 8] ro (zI 1):=by
 refine zE<|zD 12<|zX (zI 1) ⟨rfl,rfl⟩
theorem av5:dG zT 95 [.int .u8 9] ro (zI 2):=by
 refine zE<|zD 12<|zX (zI 2) ⟨rfl,rfl⟩
theorem aoE:dG zT 95 [.int .u8 10] ro (zI 2):=by
 refine zE<|zD 12<|zX (zI 2) ⟨rfl,rfl⟩
theorem aoD:dG zT 95 [.int .u8 11] ro (zI 3):=by
 refine zE<|zD 12<|zX (zI 3) ⟨rfl,rfl⟩
theorem aoC:dG zT 95 [.int .u8 12] ro (zI 2):=by
 refine zE<|zD 12<|zX (zI 2) ⟨rfl,rfl⟩
theorem aoB:dG zT 95 [.int .u8 13] ro (zI 3):=by
 refine zE<|zD 12<|zX (zI 3) ⟨rfl,rfl⟩
theorem aoA:dG zT 95 [.int .u8 14] ro (zI 3):=by
 refine zE<|zD 12<|zX (zI 3) ⟨rfl,rfl⟩
theorem aoz:dG zT 95 [.int .u8 15] ro (zI 4):=by
 refine zE<|zD 12<|zX (zI 4) ⟨rfl,rfl⟩
theorem ar0{f:Int}(h:0≤f∧f <16):dG zT 95 [.int .u8 f] ro (zI (Ao f)):=by
 obtain rfl|rfl|rfl|rfl|rfl|rfl|rfl|rfl|rfl|rfl|rfl|rfl|rfl|rfl|rfl|rfl:=(by omega:f=0∨f=1∨f=2∨f=3∨f=4∨f=5∨f=6∨f=7∨f=8∨f=9∨f=10∨f=11∨f=12∨f=13∨f=14∨f=15)
 ·exact awe
 ·exact awd
 ·exact awc
 ·exact awb
 ·exact awa
 ·exact av9
 ·exact av8
 ·exact av7
 ·exact av6
 ·exact av5
 ·exact aoE
 ·exact aoD
 ·exact aoC
 ·exact aoB
 ·exact aoA
 exact aoz
def LL(ro:Nat→Option Obj)(v:Value)(W:List (List Int)):Prop:=∃ws,bJ ro v 1 gL ws∧dc (fun w l=>bJ ro w 1 aS l) ws W
theorem akP{v w:Value}{ws us:List Value}{U:List (List Int)}(hv:bJ ro v 1 gL ws)(hw:bJ ro w 1 gL us)(ha:dc (fun w l=>bJ ro w 1 aS l) ws W)(hb:dc (fun w l=>bJ ro w 1 aS l) us U)(hx:W.length≤1000)(hy:U.length≤1000)(hW:∀l∈W,l.length≤1000)(hU:∀l∈U,l.length≤1000):dG zT 21 [v,w] ro (.bool (Gc W U)):=by
 obtain⟨Rn,qvb,qvo,FG,rfl,qvk,VD,VC⟩:=hv
 obtain⟨FE,qwb,qwo,yN,rfl,qwk,P8,P7⟩:=hw
 have hla:=ha.len
 have hlb:=hb.len
 refine zE<|zD 13<|js 10 (!decide ((ws.length:Int)=(us.length:Int))) (fun h1=>?_) (fun h1=>?_)
 ·
  replace h1:=of_decide_eq_false (by simpa using h1)
  refine zD 6<|zX (.bool false) ⟨by rw[aaz (by omega)],rfl⟩
 replace h1:=of_decide_eq_true (by simpa using h1)
 refine zD 8<|dH [1,1,0,1,0,0] [] (fun(zz:Nat)=>[(0,.slice Rn ws.length FG),(1,.slice FE us.length yN),(5,zI (zz:Int))]) (fun zz=>[]) (fun zz=>zz≤W.length∧Gc W U=Gc (W.drop zz) (U.drop zz)) (fun zz=>W.length-zz) 0 ⟨by omega,rfl⟩ [] ?_
 rintro k hI K1 bP rest
 refine zD 8<|zJ 14 ((k:Int) <(ws.length:Int)) (fun h2=>?_) fun h2=>?_
 ·
  refine zD 8 ?_
  obtain⟨Gn,yT⟩:=zG ws k
  refine fK FG 1 VD yT ?_
  obtain⟨l20,axU,Xe⟩:=ha.get yT
  obtain axK:=hW _ (zL axU)
  obtain⟨aEo,aSt,aSp,aEn,rfl,aSr,aSs,aSq⟩:=Xe
  refine jl 0 (VC _ _ yT)<|zD 2 ?_
  obtain⟨A5,tV⟩:=zG us k
  refine fK yN 1 P8 tV ?_
  obtain⟨V9,WL,Qi⟩:=hb.get tV
  obtain aHa:=hU _ (zL WL)
  obtain⟨avc,aEh,aEf,afN,rfl,aEg,anI,anH⟩:=Qi
  refine jl 0 (P7 _ _ tV)<|jp (vs:=[.slice aEo l20.length aEn,.slice avc V9.length afN]) [] [] (fun aJ hs hZ=>asY ((show bJ _ _ _ _ _ from ⟨aEo,aSt,aSp,aEn,rfl,aSr,aSs,aSq⟩).up hs) ((show bJ _ _ _ _ _ from ⟨avc,aEh,aEf,afN,rfl,aEg,anI,anH⟩).up hs) axK aHa)<|zD 2<|js 26 (!(J3 l20 V9)) (fun h3=>?_) (fun h3=>?_)
  ·
   try simp only[zB] at h3
   refine zD 6<|zX (.bool false) ⟨by rw[hI.2,aaA axU WL];simp_all,rfl⟩
  try simp only[zB] at h3
  refine zD 4<|zW ((k:Int)+1)<|zD 2<|zY bP (k+1) ⟨by omega,by rw[hI.2,aaA axU WL];simp_all⟩ []
 refine zD 7<|zX (.bool true) ⟨by rw[hI.2,akG (by omega) (by omega)],rfl⟩
theorem Sd{f:Int}:(m9 f 4).length≤1000:=Nat.le_trans (MH f 4) (by decide)
def FR:Nat→List Int→List Int
 |0,ys=>ys
 |j+1,ys=>if TP (ys.getD (j+1) 0) (ys.getD j 0) <0 then FR j ((ys.set (j+1) (ys.getD j 0)).set j (ys.getD (j+1) 0)) else ys
def Hf:Nat→Nat→List Int→List Int
 |0,_,ys=>ys
 |n+1,i,ys=>Hf n (i+1) (FR i ys)
def EX(xs:List Int):List Int:=Hf (xs.length-1) 1 xs
theorem acf{j:Int}(h:¬j>0):FR j.toNat ys=ys:=by rw[show j.toNat=0 by omega];rfl
theorem apU(h:ys[i]?=some x):ys.getD i 0=x:=by rw[List.getD_eq_getElem?_getD,h];rfl
theorem acg{j:Int}(hj:j>0)(hx:ys[j.toNat]?=some x) (hy:ys[(j-1).toNat]?=some y) (h:¬TP x y <0):FR j.toNat ys=ys:=by
 have e:j.toNat=(j-1).toNat+1:=by omega
 rw[e] at hx ⊢
 rw[FR,apU hx,apU hy,if_neg h]
theorem ZK{j x' y':Int}(hj:j>0)(hx:ys[j.toNat]?=some x) (hy:ys[(j-1).toNat]?=some y) (mz:ys[j.toNat]?=some x') (hy':ys[(j-1).toNat]?=some y') (h:TP x y <0):FR j.toNat ys=FR (j-1).toNat ((ys.set j.toNat y').set (j-1).toNat x'):=by
 rw[hx] at mz;rw[hy] at hy';cases mz;cases hy'
 have e:j.toNat=(j-1).toNat+1:=by omega
 rw[e] at hx ⊢
 rw[FR,apU hx,apU hy,if_pos h]
def PW(v:Value)(xs:List Int)(Y:Cells):Prop:=∃ys,ys=EX xs∧aA v 1 111 eU8 ys Y
theorem Vg{i:Int}(h:EX xs=Hf (n-i.toNat) i.toNat ys)(hi:0≤i∧i <n):EX xs=Hf (n-(i+1).toNat) (i+1).toNat (FR i.toNat ys):=by
 rw[h,show n-i.toNat=(n-(i+1).toNat)+1 by omega,show (i+1).toNat=i.toNat+1 by omega];rfl
theorem abq{i:Int}(h:EX xs=Hf (n-i.toNat) i.toNat ys)(hi:¬i <n):ys=EX xs:=by
 rw[h,show n-i.toNat=0 by omega];rfl
theorem aTc(hx:0≤x∧x <16)(hy:0≤y∧y <16):dG zT 94 [.int .u8 x,.int .u8 y] ro (zI (TP x y)):=by
 have hpx:=Y3 hx
 have hpy:=Y3 hy
 refine zE<|zD 8<|jp (vs:=[.int .u8 x]) [] [] (fun aJ hs hZ=>(ar0 hx))<|zD 1<|jp (vs:=[.int .u8 y]) [] [] (fun aJ hs hZ=>(ar0 hy))<|zW ((Ao x)-(Ao y))<|zD 7<|js 12 (!decide (((Ao x)-(Ao y))=0)) (fun h1=>?_) (fun h1=>?_)
 ·
  replace h1:=of_decide_eq_false (by simpa using h1)
  refine zD 7<|zX (zI ((Ao x)-(Ao y))) ⟨by rw[TP,if_neg (by omega)],rfl⟩
 replace h1:=of_decide_eq_true (by simpa using h1)
 refine zD 5<|jc (vs:=[.int .u8 x]) [] (akq) ?_
 rintro v15 L15 ⟨_,aiu,rfl⟩
 refine zD 1<|jc (vs:=[.int .u8 y]) [] (akq) ?_
 rintro v17 L17 ⟨_,Eb,rfl⟩
 refine jp (vs:=[v15,v17]) [1,0] (L15++L17) (fun aJ hs hZ=>aTP (aiu.jR hZ.left) (Eb.jR hZ.right) Sd Sd)<|zD 3<|zX (zI (zp (m9 x 4) (m9 y 4))) ⟨by rw[TP,if_pos (by omega)],rfl⟩
theorem aTb{v:Value}{L:Cells}(ho:aA v 1 111 eU8 xs L)(hN:xs.length≤12)(hM:∀m∈xs,0≤m∧m <16):ee zT 184 [v,zI 0,zI (xs.length:Int),.func (.func 94) ⟨[]⟩ ⟨[]⟩] ro L (fun r Y=>PW v xs Y):=by
 refine zC [.l L]<|zD 7<|dH [1,0,0] [] (fun(zz:Int×(List Int)×Cells)=>[(0,v),(1,zI 0),(2,zI (xs.length:Int)),(3,.func (.func 94) ⟨[]⟩ ⟨[]⟩),(8,zI zz.1)]) (fun zz=>[.l zz.2.2]) (fun zz=>(1≤zz.1)∧aA v 1 111 eU8 zz.2.1 zz.2.2∧zz.2.1.Perm xs∧EX xs=Hf (xs.length-zz.1.toNat) zz.1.toNat zz.2.1) (fun zz=>((xs.length:Int)-zz.1).toNat) (⟨1,xs,L⟩) ⟨by dsimp only;omega,ho,.refl _,rfl⟩ [0] ?_
 rintro⟨i,ys,L⟩ hI K1 bP rest
 dsimp only at hI
 have ZN:=hI.2.2.1.length_eq
 have hym:∀m∈ys,0≤m∧m <16:=fun m hm=>hM m (hI.2.2.1.mem_iff.1 hm)
 refine zD 7<|zJ 14 (i <(xs.length:Int)) (fun h1=>?_) fun h1=>?_
 ·
  refine zD 10<|dH [1,0,0,1,0,0,1,0,0] [K1] (fun(zz:Int×(List Int)×Cells)=>[(0,v),(1,zI 0),(2,zI (xs.length:Int)),(3,.func (.func 94) ⟨[]⟩ ⟨[]⟩),(8,zI i),(9,zI zz.1)]) (fun zz=>[.l zz.2.2]) (fun zz=>(0≤zz.1∧zz.1≤i)∧aA v 1 111 eU8 zz.2.1 zz.2.2∧zz.2.1.Perm xs∧EX xs=Hf (xs.length-(i+1).toNat) (i+1).toNat (FR zz.1.toNat zz.2.1)) (fun zz=>zz.1.toNat) (⟨i,ys,L⟩) ⟨by dsimp only;omega,hI.2.1,hI.2.2.1,Vg hI.2.2.2 (by omega)⟩ [0] ?_
  rintro⟨j,ys,L⟩ hJ K2 lL rest
  dsimp only at hJ
  have ZN:=hJ.2.2.1.length_eq
  have hym:∀m∈ys,0≤m∧m <16:=fun m hm=>hM m (hJ.2.2.1.mem_iff.1 hm)
  refine zD 7<|js 3 (decide (j>0)) (fun h2=>?_) (fun h2=>?_)
  ·
   have mU:=h2
   replace mU:=of_decide_eq_true mU
   refine zD 3 ?_
   obtain⟨sS,jU⟩:=zG ys (j.toNat) (by first|omega| (simp only[List.length_set];omega))
   refine zH j 1 hJ.2.1 jU fun oI ajd=>n7 0 [0] L (fun s _ hZ=>cB hJ.2.1 ajd hZ jU)<|zD 2<|zW (j-1) ?_
   obtain⟨pw,kS⟩:=zG ys ((j-1).toNat) (by first|omega| (simp only[List.length_set];omega))
   refine zH (j-1) 1 hJ.2.1 kS fun b30 WT=>n7 0 [0] L (fun s _ hZ=>cB hJ.2.1 WT hZ kS)<|aP 14 fun tA tH q5=>jp (vs:=[.int .u8 sS,.int .u8 pw]) [] [] (fun aJ hs hZ=>(aTc (hym _ (zL jU)) (hym _ (zL kS))))<|dW q5 [0]<|zD 3<|zJ 34 ((TP sS pw) <0) (fun h4=>?_) fun h4=>?_
   ·
    refine zD 9<|zW (j-1)<|zD 2<|zW (j-1) ?_
    obtain⟨yL,FW⟩:=zG ys ((j-1).toNat) (by first|omega| (simp only[List.length_set];omega))
    refine zH (j-1) 1 hJ.2.1 FW fun b45 ajc=>n7 0 [0] L (fun s _ hZ=>cB hJ.2.1 ajc hZ FW)<|zD 2 ?_
    obtain⟨J9,FV⟩:=zG ys (j.toNat) (by first|omega| (simp only[List.length_set];omega))
    refine zH j 1 hJ.2.1 FV fun b49 ajb=>n7 0 [0] L (fun s _ hZ=>cB hJ.2.1 ajb hZ FV) ?_
    obtain⟨x51,FU⟩:=zG ys (j.toNat) (by first|omega| (simp only[List.length_set];omega))
    refine zH j 1 hJ.2.1 FU fun b51 aja=>aP 15 fun sR sX qZ=>Qc 0 0 [.int .u8 yL] yL hJ.2.1 aja FU rfl rfl (Nat.le_of_ble_eq_true rfl) fun L6 ho7=>eW qZ [] ?_
    obtain⟨x52,D5⟩:=zG ((ys.set j.toNat yL)) ((j-1).toNat) (by first|omega| (simp only[List.length_set];omega))
    refine zH (j-1) 1 ho7 D5 fun b52 ai9=>aP 17 fun Bg Br B7=>Qc 0 0 [.int .u8 J9] J9 ho7 ai9 D5 rfl rfl (Nat.le_of_ble_eq_true rfl) fun L9 aiv=>eB B7<|zD 3<|zW (j-1)<|zD 2<|zF lL (⟨(j-1),((ys.set j.toNat yL).set ((j-1).toNat) J9),L9⟩) ⟨aiv,(nY FV FW).trans hJ.2.2.1,by dsimp only;rw[hJ.2.2.2,ZK (by omega) jU kS FV FW (by assumption)]⟩ [0]
   refine zD 4<|zW (i+1)<|zD 2<|zF bP (⟨(i+1),ys,L⟩) ⟨hJ.2.1,hJ.2.2.1,by dsimp only;rw[hJ.2.2.2,acg (by omega) jU kS (by assumption)]⟩ [0]
  have mU:=h2
  replace mU:=of_decide_eq_false mU
  refine zD 18<|zW (i+1)<|zD 2<|zF bP (⟨(i+1),ys,L⟩) ⟨hJ.2.1,hJ.2.2.1,by dsimp only;rw[hJ.2.2.2,acf (by omega)]⟩ [0]
 refine zD 2<|zR (.tuple ⟨[]⟩) [] [0] L ⟨ys,abq hI.2.2.2 (by omega),hI.2.1⟩
theorem aqC(h:K.facts.length≤3):IntKind.u8.wrap (bw K+1)=((2^K.facts.length:Nat):Int):=by
 unfold bw
 generalize K.facts.length=n at h
 obtain rfl|rfl|rfl|rfl:n=0∨n=1∨n=2∨n=3:=by omega
 all_goals decide
theorem anL(h:n≤3):2^n≤8:=by
 obtain rfl|rfl|rfl|rfl:n=0∨n=1∨n=2∨n=3:=by omega
 all_goals decide
theorem aCu(h:n≤255):Value.int .u8 (IntKind.u8.wrap (n:Int))= .int .u8 (n:Int):=by
 rw[tC .u8 rfl _ (by omega) (by simp[IntKind.bits];omega)]
def qe(n:Nat):List Int:=EX (ek (2^n))
theorem abI(h:n≤8):∀m∈ek n,0≤m∧m <16:=fun m hm=>by have:=qJ hm;omega
theorem aTa{v:Value}{L:Cells}{lim:Int}(ho:aA v 1 111 eU8 xs L)(hN:xs.length≤12)(hM:∀m∈xs,0≤m∧m <16):ee zT 133 [v,zI 0,zI (xs.length:Int),zI lim,.func (.func 94) ⟨[]⟩ ⟨[]⟩] ro L (fun r Y=>PW v xs Y):=by
 refine zC [.l L]<|zD 9<|dH [1,1,0,0] [] (fun(zz:Nat)=>[(0,v),(1,zI 0),(2,zI (xs.length:Int)),(3,zI lim),(4,.func (.func 94) ⟨[]⟩ ⟨[]⟩),(10,.bool true),(11,.bool true)]) (fun zz=>[.l L]) (fun zz=>True) (fun zz=>zz) 0 trivial [0] ?_
 rintro z hI K1 bP rest
 refine zD 5<|zW ((xs.length:Int)-0)<|zD 8<|zJ 25 (((xs.length:Int)-0)≤12) (fun h1=>?_) fun h1=>?_
 ·
  refine zD 7<|jc (vs:=[v,zI 0,zI (xs.length:Int),.func (.func 94) ⟨[]⟩ ⟨[]⟩]) [0] (aTb ho hN hM) ?_
  rintro aDi Y30 ⟨aOE,axc,yU⟩
  refine zD 2<|zR (.tuple ⟨[]⟩) [] [0] Y30 ⟨_,axc,yU⟩
 exfalso;omega
theorem aFl{v:Value}{L:Cells}(ho:aA v 1 111 eU8 xs L)(hN:xs.length≤12)(hM:∀m∈xs,0≤m∧m <16):ee zT 93 [v,.func (.func 94) ⟨[]⟩ ⟨[]⟩] ro L (fun r Y=>PW v xs Y):=by
 refine zC [.l L]<|zD 3<|FP ho<|zD 6<|je (zU (xs.length:Int)) (aeh (by omega))<|jp (vs:=[zU (xs.length:Int)]) [] [] (fun aJ hs hZ=>(azw (by omega)))<|zD 1<|jc (vs:=[v,zI 0,zI (xs.length:Int),zI (ab6 xs.length),.func (.func 94) ⟨[]⟩ ⟨[]⟩]) [0] (aTa ho hN hM) ?_
 rintro aDj Y13 ⟨aOG,acr,WH⟩
 refine zD 1<|zR (.tuple ⟨[]⟩) [] [0] Y13 ⟨_,acr,WH⟩
theorem aKz{rows:List bx}(hF:p5 ro f K rows)(hV:fq K)(hn3:K.facts.length≤3):ee zT 41 [zP f] ro [] (fun r Y=>∃L,aA r 1 111 eU8 (qe K.facts.length) L∧Y=L):=by
 have hp8:=anL hn3
 refine zE<|zD 12<|jp (vs:=[zP f]) [] [] (fun aJ hs hZ=>Sj hV (hF.up hs))<|je (.int .u8 ((2^K.facts.length:Nat):Int)) (congrArg (Value.int .u8) (aqC hn3))<|zD 3<|my<|dH [1,1,0,1,0,0] [] (fun(zz:Nat×Value×Cells)=>[(2,zS),(3,zz.2.1),(7,.int .u8 ((2^K.facts.length:Nat):Int)),(8,.int .u8 (zz.1:Int))]) (fun zz=>[.l zz.2.2]) (fun zz=>zz.1≤2^K.facts.length∧aA zz.2.1 1 111 eU8 (ek zz.1) zz.2.2) (fun zz=>2^K.facts.length-zz.1) (⟨0,zS,[]⟩) ⟨Nat.zero_le _,aA.nil _ _ _⟩ [0] ?_
 rintro⟨k,v,L⟩ hI K1 bP rest
 dsimp only at hI
 have hrl:=mj k
 refine zD 5<|zJ 9 ((k:Int) <((2^K.facts.length:Nat):Int)) (fun h1=>?_) fun h1=>?_
 ·
  refine zD 12<|jn fun C4=>cH eU8 C4 (k:Int) 1 0 hI.2 rfl rfl (by omega) fun NK Kh L14 AI=>zD 3<|je (.int .u8 ((k:Int)+1)) (aCu (n:=k+1) (by omega))<|zD 2<|zF bP (⟨k+1,(.slice NK (((ek k)++[(k:Int)])).length Kh),L14⟩) (by dsimp only;rw[wT];exact AI) [0]
 refine zD 5<|jc (vs:=[v,.func (.func 94) ⟨[]⟩ ⟨[]⟩]) [0] (aFl hI.2 (by rw[mj];omega) (abI (by omega))) ?_
 rintro bgM Y17 ⟨bfN,aUU,Eb⟩
 refine zD 7<|zR (v) [] [0] Y17 ⟨_,by rw[qe,show 2^K.facts.length=k by omega,←aUU];exact Eb,rfl⟩
def KY(K:aE)(rows:List bx)(p:Nat→Int):Nat→Bool
 |0=>false
 |i+1=>KY K rows p i||bV K.gone K.new K.af (bI K ((rows[i]?).getD ⟨fun _ _=>false⟩) i p)
theorem aaY{rows:List bx}{r:bx}(h:rows[i]?=some r):KY K rows p (i+1)=(KY K rows p i||bV K.gone K.new K.af (bI K r i p)):=by rw[KY,h];rfl
theorem aqB{rows:List bx}(h:KY K rows p i=true)(hn:i≤n):KY K rows p n=true:=by
 induction n with
 |zero=>rwa[show i=0 by omega] at h
 |succ n ih=>
  by_cases e:i=n+1
  ·rwa[e] at h
  rw[KY,ih (by omega),Bool.true_or]
def ade(K:aE)(rows:List bx)(on:Int):Bool:=(aY K on).any fun p=>KY K rows p rows.length
theorem alq{f:α→Bool}{l:List α}{x:α}(h:l[k]?=some x) (h1:(l.take k).any f=false) (h2:f x=false):(l.take (k+1)).any f=false:=by
 rw[gH h,List.any_append,h1,List.any_cons,h2];rfl
theorem aY3{rows:List bx}{on:Int}(hF:p5 ro f K rows)(hV:fq K)(hR:rows.length≤1000):ee zT 42 [zP f,.int .u8 on] ro [] (fun r Y=>r= .bool (ade K rows on)∧Y=[]):=by
 obtain⟨c0,c1,c2,vc,vh,vr,vb,va,vf,vt,hv,hf,py,kz,hr,yY,B6,Eg,cg⟩:=id hF
 obtain⟨hc,hh,dk⟩:=id py
 obtain⟨dF,Ak,Aj,dB,rfl,CQ,yP,yO⟩:=hc
 obtain⟨di,uQ,uP,cP,rfl,wF,pM,pK⟩:=hh
 obtain⟨iI,Gu,Gt,iH,rfl,JI,FL,FK⟩:=hr
 obtain⟨fC,Dv,Dt,eO,rfl,Du,wu,wq⟩:=yY
 obtain⟨fD,Dy,Dw,eQ,rfl,Dx,wy,wx⟩:=B6
 obtain⟨fS,Kp,Km,fe,rfl,Ko,wW,wV⟩:=Eg
 obtain⟨nX,FJ,FI,nD,rfl,Ro,N5,N4⟩:=cg
 have MS:=hV.rules.1
 have yV:=hV.before.1
 have Ec:=hV.after.1
 have hnf:=hV.facts.1
 refine aoN av [] [] bp<|zD 2<|jn fun b2=>zD 5<|jn fun b5=>jd 9 [0,1]<|jc (vs:=[zP f,.int .u8 on]) [] (MI (on:=on) hF hV) ?_
 rintro _ _ ⟨q1,q2,q3,q4,rfl,rfl⟩
 refine jg 0 [.b q1 (.cells ⟨[zP f]⟩ 106 (0,0)),.b q2 (.cells ⟨[.func (.func 137) ⟨[]⟩ ⟨[zP q1,zP q4]⟩]⟩ 239 (0,0)),.b q3 (.cells ⟨[.bool (dA K on 0 0),.bool (dA K on 0 1),.bool (dA K on 0 2),.bool (dA K on 0 3),.bool (dA K on 1 0),.bool (dA K on 1 1),.bool (dA K on 1 2),.bool (dA K on 1 3),.bool (dA K on 2 0),.bool (dA K on 2 1),.bool (dA K on 2 2),.bool (dA K on 2 3),.bool (dA K on 3 0),.bool (dA K on 3 1),.bool (dA K on 3 2),.bool (dA K on 3 3)]⟩ 162 (0,0)),.b q4 (.cells ⟨[.int .u8 on]⟩ 111 (0,0))]<|jf [0,1,2,3,5] ((q1,.cells ⟨[zP f]⟩ 106 (0,0))::((q2,.cells ⟨[.func (.func 137) ⟨[]⟩ ⟨[zP q1,zP q4]⟩]⟩ 239 (0,0))::((q3,.cells ⟨[.bool (dA K on 0 0),.bool (dA K on 0 1),.bool (dA K on 0 2),.bool (dA K on 0 3),.bool (dA K on 1 0),.bool (dA K on 1 1),.bool (dA K on 1 2),.bool (dA K on 1 3),.bool (dA K on 2 0),.bool (dA K on 2 1),.bool (dA K on 2 2),.bool (dA K on 2 3),.bool (dA K on 3 0),.bool (dA K on 3 1),.bool (dA K on 3 2),.bool (dA K on 3 3)]⟩ 162 (0,0))::((q4,.cells ⟨[.int .u8 on]⟩ 111 (0,0))::[(b2,.cells ⟨[zP f]⟩ 106 (0,0))])))) fun ya cu iX=>zD 2<|jrf [] (ZD (on:=on) (hF.up cu) hV (iX _ (.head _)) (iX _ (.tail _ (.head _))) (iX _ (.tail _ (.tail _ (.head _)))) (iX _ (.tail _ (.tail _ (.tail _ (.head _)))))) (by rintro _ _ _ _ ⟨_,_,rfl,_⟩;rfl) (fun(zz:Bool)=>[.b b5 (.cells ⟨[.bool zz]⟩ 4 (0,0))]) (fun kk=>(fun(zz:Bool)=>zz=false∧(((aY K on).take kk).any fun p=>KY K rows p rows.length)=false)) (fun jump=>(fun(zz:Bool)=>jump= .exit 0∧zz=true∧ade K rows on=true)) false ⟨rfl,rfl⟩ [0] ?_ ?_ ?_
 ·
  rintro bl4 bd4 kk4 vs4 LL4 bo ro4 hk4 ayi hI kX
  obtain⟨p4,hp4,rfl,rfl⟩:=ayi
  have hpb:=(jC hV on).2 p4 (zL hp4)
  refine zD 1<|jn fun b6=>jd 2 [0]<|aFU<|zD 3<|jl (b:=b2) (off:=0) (m:=1) (vs:=[zP f]) 0 ⟨_,_,_,.inl (kX _ _ (iX _ (.tail _ (.tail _ (.tail _ (.tail _ (.head _))))))),rfl⟩<|zD 2<|jl (b:=f) (off:=0) (m:=13) (vs:=[c0,c1,c2,.slice dF K.cs.length dB,.slice di hv.length cP,.slice iI K.rules.length iH,.slice fC K.before.length eO,.slice fD K.after.length eQ,zI K.gone,zI K.new,zI K.af,.slice fS K.facts.length fe,.slice nX rows.length nD]) 12 ⟨_,_,_,.inl (kX _ _ (cu _ _ hf)),rfl⟩<|zD 4<|aTC [1] [1,0,1,1,0,1,0,3,0,1,0,0] [] (fun(zz:Nat×Bool)=>[(2,zP b2),(4,.bool false),(5,zP b5),(6,zP b6),(16,zI (rows.length:Int)),(17,zI (zz.1:Int))]) (fun zz=>[.b b5 (.cells ⟨[.bool zz.2]⟩ 4 (0,0)),.b b6 (.cells ⟨[zI (p4 0),zI (p4 1),zI (p4 2),zI (p4 3)]⟩ 136 (0,0))]) (fun zz=>zz.1≤rows.length∧zz.2=false∧KY K rows p4 zz.1=false) (fun zz=>rows.length-zz.1) (⟨0,bo⟩) ⟨Nat.zero_le _,hI.1,rfl⟩ [2,0,1] ?_
  rintro⟨i,bo⟩ hJ K1 bP rest
  dsimp only at hJ
  refine zD 5<|zJ 18 ((i:Int) <(rows.length:Int)) (fun h5=>?_) fun h5=>?_
  ·
   refine zD 5 ?_
   obtain⟨r_,D8⟩:∃r_,rows[i]?=some r_:=⟨_,List.getElem?_eq_getElem (by omega)⟩
   refine zD 6<|jl (b:=b2) (off:=0) (m:=1) (vs:=[zP f]) 0 ⟨_,_,_,.inl (kX _ _ (iX _ (.tail _ (.tail _ (.tail _ (.tail _ (.head _))))))),rfl⟩<|jl (b:=b2) (off:=0) (m:=1) (vs:=[zP f]) 0 ⟨_,_,_,.inl (kX _ _ (iX _ (.tail _ (.tail _ (.tail _ (.tail _ (.head _))))))),rfl⟩<|jd 2 [1]<|jp (vs:=[zP f,zI (i:Int),.agg ⟨[zI (p4 0),zI (p4 1),zI (p4 2),zI (p4 3)]⟩]) [] [] (fun aJ hs hZ=>ar1 (hF.up (Sub.trans (cu.trans kX) hs)) hV D8 hpb)<|jp (vs:=[zP f,.agg ⟨[zI ((bI K r_ i p4).past),zI ((bI K r_ i p4).w0),zI ((bI K r_ i p4).w1),zI ((bI K r_ i p4).w2),zI ((bI K r_ i p4).w3),zI ((bI K r_ i p4).gone),zI ((bI K r_ i p4).new),zI ((bI K r_ i p4).af)]⟩]) [] [] (fun aJ hs hZ=>ahr (x:=(bI K r_ i p4)) (hs _ _ (kX _ _ (cu _ _ hf))))<|aP 6 fun zw Ab yZ=>jd 1 [0]<|eB yZ<|jd 5 [0]<|js 26 (bV K.gone K.new K.af (bI K r_ i p4)) (fun h7=>?_) (fun h7=>?_)
   ·
    refine zD 2<|jys qy0 (Sub.refl _) (.exit 0) (bV K.gone K.new K.af (bI K r_ i p4)) ⟨rfl,by assumption,List.any_eq_true.2 ⟨p4,zL hp4,aqB (i:=i+1) (by rw[aaY D8];simp[*]) (by omega)⟩⟩ [2,0]
   refine zD 3<|zW ((i:Int)+1)<|zD 2<|zF bP (⟨i+1,(bV K.gone K.new K.af (bI K r_ i p4))⟩) ⟨by assumption,by dsimp only;rw[aaY D8,hJ.2.2,Bool.false_or];assumption⟩ [0,1,2]
  refine zD 2<|jyn qy0 (Sub.refl _) bo ⟨hJ.2.1,alq hp4 hI.2 (by have:=hJ.2.2;rwa[show i=rows.length by omega] at this)⟩ [2,0]
 ·
  rintro bd4 bo Z4 hI hZ4
  subst hZ4
  refine jd 6 [2]<|jrM qm0.a.m (.bool bo) [0] [] [] [] cu ⟨by have:=hI.2;rw[List.take_of_length_le (Nat.le_refl _)] at this;rw[hI.1,ade,this],rfl⟩
 rintro bd4 bo Z4 jump hS hZ4
 obtain⟨rfl,hS⟩:=hS
 subst hZ4
 refine jd 6 [2]<|jrM qm0.a.m (.bool bo) [0] [] [] [] cu ⟨by rw[hS.1,hS.2],rfl⟩
def iAn(k:IntKind)(a b:Int):Int:=k.wrap (BitVec.ofInt k.bits a&&& ~~~ BitVec.ofInt k.bits b).toNat
theorem avJ:qe 0=[0]:=by kernel_rfl
theorem avI:qe 1=[0,1]:=by kernel_rfl
theorem avH:qe 2=[0,1,2,3]:=by kernel_rfl
theorem avG:qe 3=[0,1,2,4,3,5,6,7]:=by kernel_rfl
theorem agH(h:n≤3):(qe n).length≤8∧∀m∈qe n,0≤m∧m <16:=by
 obtain rfl|rfl|rfl|rfl:n=0∨n=1∨n=2∨n=3:=by omega
 ·rw[avJ];decide
 ·rw[avI];decide
 ·rw[avH];decide
 rw[avG];decide
def NF(K:aE)(rows:List bx):Option Int:=(qe K.facts.length).find? fun m=>ade K rows (iAn .u8 (bw K) m)
theorem aat{p:α→Bool}{l:List α}{x:α}(hx:l[k]?=some x):(l.drop k).find? p=bif p x then some x else (l.drop (k+1)).find? p:=by rw[fg hx,List.find?_cons];cases p x<;>rfl
theorem akj{p:α→Bool}{l:List α}(hx:¬k <l.length):(l.drop k).find? p=none:=by rw[eo hx];rfl
theorem avY{rows:List bx}(hK:fO ro l K)(hV:fq K)(hR:rows.length≤2)(hB:gE ro l K rows)(hn3:K.facts.length≤3):ee zT 51 [.agg ⟨l⟩] ro [] (fun r Y=>∃v e,r= .tuple ⟨[v,zI e]⟩∧((∃m,NF K rows=some m∧aA v 1 3 aS (m9 m 4) Y∧e=0)∨(NF K rows=none∧v= zS∧e=11∧Y=[]))):=by
 obtain⟨v0,v1,v3,v4,v5,v6,v7,vb,fa,fc,hv,rfl,_⟩:=hK
 have SN:=agH hn3
 have Uu:=SN.1
 refine zE<|zD 2<|jn fun b1=>jd 6 [0]<|jc (vs:=[.agg ⟨[v0,v1,.slice fa 0 fc,v3,v4,v5,v6,v7,zI K.gone,zI K.new,zI K.af,vb]⟩]) [] (hB _ (Sub.refl _)) ?_
 rintro _ Y10 ⟨f10,rfl,azd⟩
 refine zD 5<|jf [0] Y10 (fun ya cu iX=>?_)
 have F7:=azd _ cu iX
 refine zD 13<|jc (vs:=[zP f10]) [] (aKz F7 hV hn3) ?_
 rintro v17 L17 ⟨_,Eb,rfl⟩
 refine FP Eb<|zD 3<|dH [1,1,1,0,1,0,0] [] (fun(zz:Nat)=>[(4,zP f10),(17,v17),(18,zI ((qe K.facts.length).length:Int)),(19,zI (zz:Int))]) (fun zz=>[.l L17,.b b1 (.cells ⟨[v0,v1,.slice fa 0 fc,v3,v4,v5,v6,v7,zI K.gone,zI K.new,zI K.af,vb]⟩ 38 (0,0))]) (fun zz=>zz≤(qe K.facts.length).length∧NF K rows=((qe K.facts.length).drop zz).find? (fun m=>ade K rows (iAn .u8 (bw K) m))) (fun zz=>(qe K.facts.length).length-zz) 0 ⟨Nat.zero_le _,rfl⟩ [0,1] ?_
 rintro k hI K1 bP rest
 refine zD 5<|zJ 20 ((k:Int) <((qe K.facts.length).length:Int)) (fun h4=>?_) fun h4=>?_
 ·
  refine zD 6 ?_
  obtain⟨zx,qR⟩:=zG ((qe K.facts.length)) k (by first|omega| (simp only[List.length_set,zM];omega))
  refine Un 1 Eb qR fun b21 aW5=>n7 0 [0] L17 (fun s _ hZ=>cB Eb aW5 hZ qR)<|zD 6<|jp (vs:=[zP f10]) [] [] (fun aJ hs hZ=>Sj hV (F7.up hs))<|zD 1<|je (.int .u8 (iAn .u8 (bw K) zx)) rfl<|jc (vs:=[zP f10,.int .u8 (iAn .u8 (bw K) zx)]) [] (aY3 F7 hV (by omega)) ?_
  rintro _ _ ⟨rfl,rfl⟩
  refine jg 0 []<|zD 1<|js 28 (ade K rows (iAn .u8 (bw K) zx)) (fun h5=>?_) (fun h5=>?_)
  ·
   refine zD 4<|jc (vs:=[.int .u8 zx]) [] (akq) ?_
   rintro v30 L30 ⟨_,yU,rfl⟩
   refine zD 4<|aN q0.a (.tuple ⟨[v30,zI 0]⟩) [] [0] L30 cu ⟨_,_,rfl,rfl,_,_,rfl,.inl ⟨_,by rw[hI.2,aat qR];simp only[*,cond_true],yU,rfl⟩⟩
  refine zD 3<|zW ((k:Int)+1)<|zD 2<|zY bP (k+1) ⟨by omega,by rw[hI.2,aat qR];simp only[*,cond_false]⟩ [0,1]
 refine zD 8<|aN q0.a (.tuple ⟨[zS,zI 11]⟩) [] [] [] cu ⟨_,_,rfl,rfl,_,_,rfl,.inr ⟨by rw[hI.2,akj (by omega)],rfl,rfl,rfl⟩⟩
theorem ahq{rows:List bx}(hF:p5 ro f K rows)(hV:fq K)(hR:rows.length≤2):Be zT 78 [zP f] ro [] (fun r Y=>∃zs v e,r= .tuple ⟨[v,zI e]⟩∧zs.Perm (db K (bw K) (bV K.gone K.new K.af) rows)∧aA v 8 138 cY zs Y∧((zs=[]∧e=9)∨(zs≠[]∧e=0))):=by
 refine xk av [] [] bp fun fr=>zD 9<|jp (vs:=[zP f]) [] [] (fun aJ hs hZ=>Sj hV (hF.up hs))<|GF (vs:=[zP f,.int .u8 (bw K)]) [] (fun _ _ h=>h) (ZB hV hF hR) ?_
 rintro v8 Y8 ⟨zs,hz,ho8⟩
 refine zD 6<|FP ho8<|zD 2<|zJ 11 ((zs.length:Int)=0) (fun h1=>?_) fun h1=>?_
 ·
  refine zD 7<|Qd qC (.tuple ⟨[zS,zI 9]⟩) [1] [] (Sub.refl _) ⟨zs,_,_,rfl,hz,by rw[show zs=[] from List.eq_nil_of_length_eq_zero (by omega)];exact aA.nil _ _ _,.inl ⟨List.eq_nil_of_length_eq_zero (by omega),rfl⟩⟩
 refine zD 9<|Qd qC (.tuple ⟨[v8,zI 0]⟩) [0,1] Y8 (Sub.refl _) ⟨zs,_,_,rfl,hz,ho8,.inr ⟨fun e=>by subst e;simp at*,rfl⟩⟩
theorem MJ{rows:List bx}(hK:fO ro l K)(hV:fq K)(hR:rows.length≤2)(hB:gE ro l K rows):aAg zT 107 [.agg ⟨l⟩] ro [] (fun r aJ Y=>∃f zs v e,r= .tuple ⟨[pV f,v,zI e]⟩∧p5 aJ f K rows∧zs.Perm (db K (bw K) (bV K.gone K.new K.af) rows)∧aA v 8 138 cY zs Y∧((zs=[]∧e=9)∨(zs≠[]∧e=0))):=by
 obtain⟨v0,v1,v3,v4,v5,v6,v7,vb,fa,fc,hv,rfl,_⟩:=hK
 refine aFQ (hm:=av) [] [] bp fun fr=>zD 2<|jn fun b1=>jd 7 [0]<|jc (vs:=[.agg ⟨[v0,v1,.slice fa 0 fc,v3,v4,v5,v6,v7,zI K.gone,zI K.new,zI K.af,vb]⟩]) [] (hB _ (Sub.refl _)) ?_
 rintro _ Y10 ⟨f10,rfl,azd⟩
 refine zD 5<|jf [0] Y10 (fun ya cu iX=>?_)
 have F7:=azd _ cu iX
 refine zD 12<|GF (vs:=[zP f10]) [] (fun _ _ h=>h) (ahq F7 hV hR) ?_
 rintro _ Y18 ⟨zs,v18,e18,rfl,hz,acw,he⟩
 refine zD 16<|aTt qC.a (.tuple ⟨[zP f10,v18,zI e18]⟩) [0,2] Y18 cu ⟨f10,zs,v18,e18,rfl,F7,hz,acw,he⟩
theorem aoF{x:aj}:dG zT 68 [.agg ⟨[zI x.past,zI x.w0,zI x.w1,zI x.w2,zI x.w3,zI x.gone,zI x.new,zI x.af]⟩] ro (zI x.af):=by
 refine zE<|zD 2<|jn fun b1=>jd 9 [0]<|zX (zI x.af) ⟨rfl,rfl⟩
theorem ahh{rows:List bx}(hK:fO ro l K)(hV:fq K)(hR:rows.length≤2)(hB:gE ro l K rows):Be zT 65 [.agg ⟨l⟩,.func (.func 68) ⟨[]⟩ ⟨[]⟩] ro [] (fun r Y=>∃zs a b e,zs.Perm (db K (bw K) (bV K.gone K.new K.af) rows)∧Y=[]∧r= .tuple ⟨[.agg ⟨[zI a,zI b]⟩,zI e]⟩∧((zs=[]∧a=0∧b=0∧e=9)∨(zs≠[]∧a=iB (zs.map fun x=>x.af)∧b=lT (zs.map fun x=>x.af)∧e=0))):=by
 obtain⟨v0,v1,v3,v4,v5,v6,v7,vb,fa,fc,hv,rfl,_⟩:=id hK
 refine xk av [] [] bp fun fr=>zD 2<|jn fun b2=>jn fun b4=>jd 5 [1]<|acb (vs:=[.agg ⟨[v0,v1,.slice fa 0 fc,v3,v4,v5,v6,v7,zI K.gone,zI K.new,zI K.af,vb]⟩]) [] (fun _ _ h=>h) (MJ hK hV hR hB) ?_
 rintro _ aJ Y14 cu ⟨f14,zs,v14,Cm,rfl,F7,hz,Ik,he⟩
 have KA:∀x∈zs,(-4≤x.gone∧x.gone≤4)∧(-4≤x.new∧x.new≤4)∧(0≤x.af∧x.af≤4):=fun x hx=>by obtain⟨i,r,p,_,_,rfl,_⟩:=fR (hz.mem_iff.1 hx);exact ld hV r i p
 have Wh:zs.length≤1250:=by rw[hz.length_eq];exact lX hV _ _ hR
 refine zD 7<|jf [0] Y14 (fun ro4 mI Im=>?_)
 have WY:=Ik.jR Im
 obtain⟨pN,Hu,Hs,mY,rfl,Ht,An,Am⟩:=WY
 refine zD 7<|js 19 (!decide (Cm=0)) (fun h5=>?_) (fun h5=>?_)
 ·
  replace h5:=of_decide_eq_false (by simpa using h5)
  have n9:zs=[]∧Cm=9:=by rcases he with h| ⟨_,h⟩;exact h;omega
  refine jd 9 [0]<|OA qC.a.a (.tuple ⟨[.agg ⟨[zI 0,zI 0]⟩,zI Cm]⟩) [0] [2] [] (cu.trans mI) ⟨zs,_,_,_,hz,rfl,rfl,.inl ⟨n9.1,rfl,rfl,n9.2⟩⟩
 replace h5:=of_decide_eq_true (by simpa using h5)
 have n9:zs≠[]∧Cm=0:=by rcases he with ⟨_,h⟩|h;omega;exact h
 have hzp:0 <zs.length:=List.length_pos_iff.2 n9.1
 refine zD 14<|my<|dH [1,1,1,1,0,1,0,0] [] (fun(zz:Nat×Value×Cells)=>[(1,.func (.func 68) ⟨[]⟩ ⟨[]⟩),(4,zP b4),(5,zI 0),(9,zz.2.1),(22,.slice pN zs.length mY),(23,zI (zs.length:Int)),(24,zI (zz.1:Int))]) (fun zz=>[.l zz.2.2,.b b4 (.cells ⟨[zI 0,zI 0]⟩ 61 (0,0)),.b b2 (.cells ⟨[v0,v1,.slice fa 0 fc,v3,v4,v5,v6,v7,zI K.gone,zI K.new,zI K.af,vb]⟩ 38 (0,0)),.l fr]) (fun zz=>zz.1≤zs.length∧aA zz.2.1 1 3 aS ((zs.take zz.1).map fun x=>x.af) zz.2.2) (fun zz=>zs.length-zz.1) (⟨0,zS,[]⟩) ⟨by dsimp only;omega,aA.nil _ _ _⟩ (zN 0 4) ?_
 rintro⟨k,vS,LS⟩ hI K1 bP rest
 dsimp only at hI
 refine zD 5<|zJ 25 ((k:Int) <(zs.length:Int)) (fun h6=>?_) fun h6=>?_
 ·
  refine zD 6 ?_
  obtain⟨uy,wz⟩:=zG zs k
  refine fK mY 8 An wz<|jl 0 (Am _ _ wz)<|jn fun KX=>jd 6 [0,0]<|jp (vs:=[.agg ⟨[zI uy.past,zI uy.w0,zI uy.w1,zI uy.w2,zI uy.w3,zI uy.gone,zI uy.new,zI uy.af]⟩]) [] [] (fun aJ hs hZ=>(aoF (x:=uy)))<|jn fun b32=>cH aS b32 uy.af 2 0 hI.2 rfl rfl (by simp only[List.length_map,List.length_take];omega) (fun aeD aev L33 Ih=>?_)
  refine zD 3<|zW ((k:Int)+1)<|zD 2<|zF bP (⟨k+1,(.slice aeD ((((zs.take k).map fun x=>x.af)++[uy.af])).length aev),L33⟩) (by rw[gH wz,List.map_append];exact Ih) [0,3,4,5]
 refine zD 5<|jp (vs:=[vS]) [0] LS (fun aJ hs hZ=>ZC (hI.2.jR hZ) ⟨by simp only[List.length_map,List.length_take];omega,by simp only[List.length_map,List.length_take];omega⟩) ?_
 refine jd 4 [1]<|OA qC.a.a (.tuple ⟨[.agg ⟨[zI (iB ((zs.take k).map fun x=>x.af)),zI (lT ((zs.take k).map fun x=>x.af))]⟩,zI 0]⟩) [1] [3] [] (cu.trans mI) ⟨zs,_,_,_,hz,rfl,rfl,.inr ⟨n9.1,by rw[show k=zs.length by omega,List.take_length],by rw[show k=zs.length by omega,List.take_length],rfl⟩⟩
theorem aho{rows:List bx}(hK:fO ro l K)(hV:fq K)(hR:rows.length≤2)(hB:gE ro l K rows):Be zT 20 [.agg ⟨l⟩] ro [] (fun r Y=>∃zs a b e,zs.Perm (db K (bw K) (bV K.gone K.new K.af) rows)∧Y=[]∧r= .tuple ⟨[.agg ⟨[zI a,zI b]⟩,zI e]⟩∧((zs=[]∧a=0∧b=0∧e=9)∨(zs≠[]∧a=iB (zs.map fun x=>x.af)∧b=lT (zs.map fun x=>x.af)∧e=0))):=by
 obtain⟨v0,v1,v3,v4,v5,v6,v7,vb,fa,fc,hv,rfl,_⟩:=id hK
 refine xk av [] [] bp fun fr=>zD 2<|jn fun b1=>jn fun b2=>jd 5 [1]<|GF (vs:=[.agg ⟨[v0,v1,.slice fa 0 fc,v3,v4,v5,v6,v7,zI K.gone,zI K.new,zI K.af,vb]⟩,.func (.func 68) ⟨[]⟩ ⟨[]⟩]) [] (fun _ _ h=>h) (ahh hK hV hR hB) ?_
 rintro _ _ ⟨zs,a5,c5,e5,hz,rfl,rfl,he⟩
 refine jg 0 []<|jd 6 [0]<|OA qC (.tuple ⟨[.agg ⟨[zI a5,zI c5]⟩,zI e5]⟩) [0] [2] [] (Sub.refl _) ⟨zs,_,_,_,hz,rfl,rfl,he⟩
theorem awh{a b:Int}:dG zT 106 [zI a,zI b] ro (.bool (decide (a=b))):=by
 refine zE<|zD 12<|zX (.bool (decide (a=b))) ⟨rfl,rfl⟩
theorem aqo{a b:Int}{s:Bool}:dG zT 53 [zI a,zI b,.bool s] ro (.agg ⟨[zI a,zI b,.bool s]⟩):=by
 refine zE<|zD 2<|jn fun b6=>jd 10 [0]<|zR (.agg ⟨[zI a,zI b,.bool s]⟩) [0] [] [] ⟨rfl,rfl⟩
theorem cAt{w:ByteArray}{a b c:Int}:dG zT 105 [.string w,zI a,zI b,zI c] ro (.agg ⟨[.string w,zI a,zI b,zI c,.bool false]⟩):=by
 refine zE<|zD 2<|jn fun b8=>jd 11 [0]<|zR (.agg ⟨[.string w,zI a,zI b,zI c,.bool false]⟩) [0] [] [] ⟨rfl,rfl⟩
theorem aKS{w:ByteArray}{a:Int}:dG zT 104 [.string w,zI a] ro (.agg ⟨[.string w,zI (-1),zI a,(zS)]⟩):=by
 refine zE<|zD 2<|jn fun b4=>jd 9 [0]<|zR (.agg ⟨[.string w,zI (-1),zI a,zS]⟩) [0] [] [] ⟨rfl,rfl⟩
theorem cIs{w:ByteArray}{a:Int}{va:Option Addr}{vn vc:Nat}:dG zT 103 [.string w,zI a,(.slice va vn vc)] ro (.agg ⟨[.string w,zI a,zI (-1),(.slice va vn vc)]⟩):=by
 refine zE<|zD 2<|jn fun b6=>jd 10 [0]<|zR (.agg ⟨[.string w,zI a,zI (-1),(.slice va vn vc)]⟩) [0] [] [] ⟨rfl,rfl⟩
def XF:List cm:=[⟨(bs [102,111,111,100]),-1⟩,⟨(bs [98,114,101,97,100]),0⟩,⟨(bs [99,108,111,116,104]),-1⟩,⟨(bs [104,97,116,115]),2⟩]
def EA:List cF:=[⟨(bs [98,97,107,101,114]),1,-1,[]⟩,⟨(bs [98,111,110,110,101,116,115]),-1,3,[]⟩,⟨(bs [99,111,110,102,101,99,116,105,111,110,101,114]),0,-1,[0]⟩,⟨(bs [104,97,116,116,101,114]),3,-1,[]⟩,⟨(bs [109,101,114,99,101,114]),2,-1,[3]⟩,⟨(bs [109,105,108,108,105,110,101,114]),-1,1,[]⟩]
def PD:List aI:=[⟨(bs [115,109,105,116,104]),0,1,0,false⟩,⟨(bs [97,110,110,97]),0,2,3,false⟩,⟨(bs [115,109,121,116,104]),1,1,2,false⟩]
def PE:List aI:=[⟨(bs [115,109,121,116,104]),0,2,0,false⟩,⟨(bs [115,109,105,116,104]),1,1,-1,false⟩,⟨(bs [98,101,110]),0,1,4,false⟩]
abbrev aZ(n:Int):aE where
 ways:=[[⟨1,0,0,0,0,0,0⟩,⟨2,0,0,0,0,0,0⟩]]
 cs:=XF
 hd:=EA
 rules:=[⟨(bs [121]),(bs [105])⟩]
 before:=PD
 after:=PE
 gone:=1
 new:=1
 af:=n
 facts:=[]
 str:=[[⟨1,0⟩,⟨2,0⟩],[⟨1,0⟩]]
abbrev Fp(oI J7 b9 Bd tv xR EI:Nat)(n:Int):List Value:=[.slice (some ⟨oI,0,none⟩) 2 2,.slice (some ⟨J7,0,none⟩) 1 1,zS,.slice (some ⟨b9,0,none⟩) 4 4,.slice (some ⟨Bd,0,none⟩) 6 6,.slice (some ⟨tv,0,none⟩) 1 1,.slice (some ⟨xR,0,none⟩) 3 3,.slice (some ⟨EI,0,none⟩) 3 3,zI 1,zI 1,zI n,zS]
abbrev Jb(oI Qo Nt J7 XQ b9 Bd xS GR tv xR EI:Nat):Cells:=[(oI,.cells ⟨[.slice (some ⟨Qo,0,none⟩) 2 2,.slice (some ⟨Nt,0,none⟩) 1 1]⟩ 82 (0,0)),(Qo,.cells ⟨[zI 1,zI 0,zI 2,zI 0]⟩ 81 (0,0)),(Nt,.cells ⟨[zI 1,zI 0]⟩ 81 (0,0)),(J7,.cells ⟨[.slice (some ⟨XQ,0,none⟩) 2 2]⟩ 89 (0,0)),(XQ,.cells ⟨[zI 1,zI 0,zI 0,zI 0,zI 0,zI 0,zI 0,zI 2,zI 0,zI 0,zI 0,zI 0,zI 0,zI 0]⟩ 85 (0,0)),(b9,.cells ⟨[.string (bs [102,111,111,100]),zI (-1),.string (bs [98,114,101,97,100]),zI 0,.string (bs [99,108,111,116,104]),zI (-1),.string (bs [104,97,116,115]),zI 2]⟩ 170 (0,0)),(Bd,.cells ⟨[.string (bs [98,97,107,101,114]),zI 1,zI (-1),zS,.string (bs [98,111,110,110,101,116,115]),zI (-1),zI 3,zS,.string (bs [99,111,110,102,101,99,116,105,111,110,101,114]),zI 0,zI (-1),.slice (some ⟨xS,0,none⟩) 1 1,.string (bs [104,97,116,116,101,114]),zI 3,zI (-1),zS,.string (bs [109,101,114,99,101,114]),zI 2,zI (-1),.slice (some ⟨GR,0,none⟩) 1 1,.string (bs [109,105,108,108,105,110,101,114]),zI (-1),zI 1,zS]⟩ 173 (0,0)),(xS,.cells ⟨[zI 0]⟩ 3 (0,0)),(GR,.cells ⟨[zI 3]⟩ 3 (0,0)),(tv,.cells ⟨[.string (bs [121]),.string (bs [105])]⟩ 92 (0,0)),(xR,.cells ⟨[.string (bs [115,109,105,116,104]),zI 0,zI 1,zI 0,.bool false,.string (bs [97,110,110,97]),zI 0,zI 2,zI 3,.bool false,.string (bs [115,109,121,116,104]),zI 1,zI 1,zI 2,.bool false]⟩ 76 (0,0)),(EI,.cells ⟨[.string (bs [115,109,121,116,104]),zI 0,zI 2,zI 0,.bool false,.string (bs [115,109,105,116,104]),zI 1,zI 1,zI (-1),.bool false,.string (bs [98,101,110]),zI 0,zI 1,zI 4,.bool false]⟩ 76 (0,0))]
abbrev ak3(xS GR:Nat):List bW:=[⟨(bs [98,97,107,101,114]),1,-1,zS⟩,⟨(bs [98,111,110,110,101,116,115]),-1,3,zS⟩,⟨(bs [99,111,110,102,101,99,116,105,111,110,101,114]),0,-1,.slice (some ⟨xS,0,none⟩) 1 1⟩,⟨(bs [104,97,116,116,101,114]),3,-1,zS⟩,⟨(bs [109,101,114,99,101,114]),2,-1,.slice (some ⟨GR,0,none⟩) 1 1⟩,⟨(bs [109,105,108,108,105,110,101,114]),-1,1,zS⟩]
theorem No{oI Qo Nt J7 XQ Bd xS GR tv xR EI:Nat}{n:Int}(hk:Knows ro (Jb oI Qo Nt J7 XQ b9 Bd xS GR tv xR EI)):fO ro (Fp oI J7 b9 Bd tv xR EI n) (aZ n):=
 ⟨_,_,_,_,_,_,_,_,none,0,ak3 xS GR,rfl,
  ⟨[.slice (some ⟨Qo,0,none⟩) 2 2,.slice (some ⟨Nt,0,none⟩) 1 1],bX (enc:=gL) (T:=82) [.slice (some ⟨Qo,0,none⟩) 2 2,.slice (some ⟨Nt,0,none⟩) 1 1] (hk _ (.head _)) (fun _ _=>rfl),
   .cons (bX (enc:=dC) (T:=81) [⟨1,0⟩,⟨2,0⟩] (hk _ (.tail _ (.head _))) (fun _ _=>rfl)) (.cons (bX (enc:=dC) (T:=81) [⟨1,0⟩] (hk _ (.tail _ (.tail _ (.head _)))) (fun _ _=>rfl)) .nil)⟩,
  ⟨[.slice (some ⟨XQ,0,none⟩) 2 2],bX (enc:=gL) (T:=89) [.slice (some ⟨XQ,0,none⟩) 2 2] (hk _ (.tail _ (.tail _ (.tail _ (.head _))))) (fun _ _=>rfl),
   .cons (bX (enc:=lq) (T:=85) [⟨1,0,0,0,0,0,0⟩,⟨2,0,0,0,0,0,0⟩] (hk _ (.tail _ (.tail _ (.tail _ (.tail _ (.head _)))))) (fun _ _=>rfl)) .nil⟩,
  ⟨bX (enc:=rq) (T:=170) XF (hk _ (.tail _ (.tail _ (.tail _ (.tail _ (.tail _ (.head _))))))) (fun _ _=>rfl),bX (enc:=qi) (T:=173) (ak3 xS GR) (hk _ (.tail _ (.tail _ (.tail _ (.tail _ (.tail _ (.tail _ (.head _)))))))) (fun _ _=>rfl),
   .cons ⟨rfl,rfl,rfl,bJ.nil _ _ _ _ _⟩ (.cons ⟨rfl,rfl,rfl,bJ.nil _ _ _ _ _⟩ (.cons ⟨rfl,rfl,rfl,bX (enc:=aS) (T:=3) [0] (hk _ (.tail _ (.tail _ (.tail _ (.tail _ (.tail _ (.tail _ (.tail _ (.head _))))))))) (fun _ _=>rfl)⟩ (.cons ⟨rfl,rfl,rfl,bJ.nil _ _ _ _ _⟩ (.cons ⟨rfl,rfl,rfl,bX (enc:=aS) (T:=3) [3] (hk _ (.tail _ (.tail _ (.tail _ (.tail _ (.tail _ (.tail _ (.tail _ (.tail _ (.head _)))))))))) (fun _ _=>rfl)⟩ (.cons ⟨rfl,rfl,rfl,bJ.nil _ _ _ _ _⟩ .nil)))))⟩,
  .cons ⟨rfl,rfl,rfl⟩ (.cons ⟨rfl,rfl,rfl⟩ (.cons ⟨rfl,rfl,rfl⟩ (.cons ⟨rfl,rfl,rfl⟩ (.cons ⟨rfl,rfl,rfl⟩ (.cons ⟨rfl,rfl,rfl⟩ .nil))))),
  bX (enc:=lE) (T:=92) [⟨(bs [121]),(bs [105])⟩] (hk _ (.tail _ (.tail _ (.tail _ (.tail _ (.tail _ (.tail _ (.tail _ (.tail _ (.tail _ (.head _))))))))))) (fun _ _=>rfl),bX (enc:=fX) (T:=76) PD (hk _ (.tail _ (.tail _ (.tail _ (.tail _ (.tail _ (.tail _ (.tail _ (.tail _ (.tail _ (.tail _ (.head _)))))))))))) (fun _ _=>rfl),bX (enc:=fX) (T:=76) PE (hk _ (.tail _ (.tail _ (.tail _ (.tail _ (.tail _ (.tail _ (.tail _ (.tail _ (.tail _ (.tail _ (.tail _ (.head _))))))))))))) (fun _ _=>rfl),bJ.nil _ _ _ _ _⟩
theorem Np(oI J7 b9 Bd tv xR EI:Nat)(n:Int):adH (aZ n) (Fp oI J7 b9 Bd tv xR EI n):=
 ⟨_,_,_,_,_,_,_,_,none,0,rfl,Hh rfl rfl rfl rfl rfl rfl rfl rfl⟩
theorem Ns{n:Int}:ee zT 49 [zI n] ro [] (fun r Y=>∃l,r= .agg ⟨l⟩∧(∀aF,Knows aF Y→fO aF l (aZ n))∧adH (aZ n) l):=by
 refine zE<|zD 2<|jn fun b2=>zD 7<|jn fun b9=>jp (vs:=[.string (bs [98,97,107,101,114]),zI 1,zS]) [] [] (fun aJ hs hZ=>cIs)<|jp (vs:=[.string (bs [98,111,110,110,101,116,115]),zI 3]) [] [] (fun aJ hs hZ=>aKS)<|jn fun xS=>jp (vs:=[.string (bs [99,111,110,102,101,99,116,105,111,110,101,114]),zI 0,.slice (some ⟨xS,0,none⟩) 1 1]) [] [] (fun aJ hs hZ=>cIs)<|jp (vs:=[.string (bs [104,97,116,116,101,114]),zI 3,zS]) [] [] (fun aJ hs hZ=>cIs)<|jn fun GR=>jp (vs:=[.string (bs [109,101,114,99,101,114]),zI 2,.slice (some ⟨GR,0,none⟩) 1 1]) [] [] (fun aJ hs hZ=>cIs)<|jp (vs:=[.string (bs [109,105,108,108,105,110,101,114]),zI 1]) [] [] (fun aJ hs hZ=>aKS)<|jn fun Bd=>zD 1<|jn fun b3=>jd 6 [0]<|jn fun Qo=>zD 1<|jn fun Nt=>jn fun oI=>zD 3<|jn fun XQ=>zD 1<|jn fun J7=>zD 1<|jn fun b4=>jd 8 [0,0,6]<|jp (vs:=[.string (bs [115,109,105,116,104]),zI 0,zI 1,zI 0]) [] [] (fun aJ hs hZ=>cAt)<|jp (vs:=[.string (bs [97,110,110,97]),zI 0,zI 2,zI 3]) [] [] (fun aJ hs hZ=>cAt)<|jp (vs:=[.string (bs [115,109,121,116,104]),zI 1,zI 1,zI 2]) [] [] (fun aJ hs hZ=>cAt)<|jp (vs:=[.string (bs [115,109,121,116,104]),zI 0,zI 2,zI 0]) [] [] (fun aJ hs hZ=>cAt)<|jp (vs:=[.string (bs [115,109,105,116,104]),zI 1,zI 1,zI (-1)]) [] [] (fun aJ hs hZ=>cAt)<|jp (vs:=[.string (bs [98,101,110]),zI 0,zI 1,zI 4]) [] [] (fun aJ hs hZ=>cAt)<|ze [3,7,11] ⟨fun z1 t2 q5=>?_,fun z4 t5 W7=>?_,fun z7 t8 O5=>?_,trivial⟩
 ·
  refine jn fun tv=>dW q5 (zN 1 12)<|ze [7,11] ⟨fun z10 t11 AO=>?_,fun z13 t14 Xc=>?_,trivial⟩
  ·
   refine jn fun xR=>dW AO (zN 1 13)<|aP 11 fun aBD aCQ KM=>jn fun EI=>dW KM (zN 1 14)<|zD 1<|aP 14 fun ad6 aeS Pa=>jd 1 [14]<|eB Pa<|zD 2<|zR (.agg ⟨Fp oI J7 b9 Bd tv xR EI n⟩) [14] [6,8,7,4,5,13,10,12,11,2,1,0] (Jb oI Qo Nt J7 XQ b9 Bd xS GR tv xR EI) ⟨_,rfl,fun _ hk=>No hk,Np _ _ _ _ _ _ _ _⟩
  refine jn fun EI=>dW Xc (zN 1 13)<|aP 7 fun aqX arj Xb=>jn fun xR=>dW Xb (zN 1 14)<|zD 1<|aP 14 fun aqW ari Xa=>jd 1 [14]<|eB Xa<|zD 2<|zR (.agg ⟨Fp oI J7 b9 Bd tv xR EI n⟩) [14] [6,8,7,4,5,13,10,12,11,2,0,1] (Jb oI Qo Nt J7 XQ b9 Bd xS GR tv xR EI) ⟨_,rfl,fun _ hk=>No hk,Np _ _ _ _ _ _ _ _⟩
 ·
  refine jn fun xR=>dW W7 (zN 1 12)<|ze [3,11] ⟨fun z20 t21 ajy=>?_,fun z23 t24 W9=>?_,trivial⟩
  ·
   refine jn fun tv=>dW ajy (zN 1 13)<|aP 11 fun ad5 aeR KL=>jn fun EI=>dW KL (zN 1 14)<|zD 1<|aP 14 fun Ye Yo Iw=>jd 1 [14]<|eB Iw<|zD 2<|zR (.agg ⟨Fp oI J7 b9 Bd tv xR EI n⟩) [14] [6,8,7,4,5,13,10,12,11,1,2,0] (Jb oI Qo Nt J7 XQ b9 Bd xS GR tv xR EI) ⟨_,rfl,fun _ hk=>No hk,Np _ _ _ _ _ _ _ _⟩
  refine jn fun EI=>dW W9 (zN 1 13)<|aP 3 fun Yd Yn O9=>jn fun tv=>dW O9 (zN 1 14)<|zD 1<|aP 14 fun Yc Ym O8=>jd 1 [14]<|eB O8<|zD 2<|zR (.agg ⟨Fp oI J7 b9 Bd tv xR EI n⟩) [14] [6,8,7,4,5,13,10,12,11,0,2,1] (Jb oI Qo Nt J7 XQ b9 Bd xS GR tv xR EI) ⟨_,rfl,fun _ hk=>No hk,Np _ _ _ _ _ _ _ _⟩
 refine jn fun EI=>dW O5 (zN 1 12)<|ze [3,7] ⟨fun z30 t31 ajv=>?_,fun z33 t34 ay5=>?_,trivial⟩
 ·
  refine jn fun tv=>dW ajv (zN 1 13)<|aP 7 fun aqT are O7=>jn fun xR=>dW O7 (zN 1 14)<|zD 1<|aP 14 fun aqS ard aju=>jd 1 [14]<|eB aju<|zD 2<|zR (.agg ⟨Fp oI J7 b9 Bd tv xR EI n⟩) [14] [6,8,7,4,5,13,10,12,11,1,0,2] (Jb oI Qo Nt J7 XQ b9 Bd xS GR tv xR EI) ⟨_,rfl,fun _ hk=>No hk,Np _ _ _ _ _ _ _ _⟩
 refine jn fun xR=>dW ay5 (zN 1 13)<|aP 3 fun aBx aCK ay4=>jn fun tv=>dW ay4 (zN 1 14)<|zD 1<|aP 14 fun aBw aCJ ajt=>jd 1 [14]<|eB ajt<|zD 2<|zR (.agg ⟨Fp oI J7 b9 Bd tv xR EI n⟩) [14] [6,8,7,4,5,13,10,12,11,0,1,2] (Jb oI Qo Nt J7 XQ b9 Bd xS GR tv xR EI) ⟨_,rfl,fun _ hk=>No hk,Np _ _ _ _ _ _ _ _⟩
instance (nc nh i:Nat)(x:cF):Decidable (iz nc nh i x):=by unfold iz;infer_instance
instance (w:ByteArray):Decidable (Script w):=by unfold Script;infer_instance
theorem XS{p:Nat→α→Prop}{l:List α}(h:∀i (hi:i <l.length),p i l[i]):∀(i:Nat) (x:α),l[i]?=some x→p i x:=fun i x hx=>by
 obtain⟨h1,rfl⟩:=List.getElem?_eq_some_iff.1 hx
 exact h i h1
theorem Ja:∀(i:Nat) (x:cF),EA[i]?=some x→iz 4 6 i x:=XS (by decide)
theorem XE:∀(i:Nat) (x:cF),EA[i]?=some x→Bn x.word=true:=XS (of_decide_eq_true (by kernel_rfl))
theorem ak2:∀(i:Nat) (x:cm),XF[i]?=some x→Bn x.name=true∧ -1≤x.under∧x.under <i:=XS (of_decide_eq_true (by kernel_rfl))
def axw(hd:List cF)(i:Int):Bool:=decide (i= -1)||(decide (0≤i)&&match hd[i.toNat]? with
 |some x=>decide (0≤x.cls)
 |none=>false)
theorem fL{i:Int}(h:axw hd i=true):oB hd i:=by
 simp only[axw,Bool.or_eq_true,Bool.and_eq_true,decide_eq_true_eq] at h
 rcases h with h| ⟨h1,h2⟩
 ·exact .inl h
 split at h2
 ·rename_i x hx;exact .inr ⟨h1,x,hx,of_decide_eq_true h2⟩
 cases h2
def Rw(p:aI):Bool:=decide (((1≤p.name.size∧p.name.size≤6)∧Script p.name)∧(0≤p.st∧p.st≤1)∧p.bold=false)&&axw EA p.head
theorem Od{p:aI}(h:Rw p=true):GU EA p:=by
 simp only[Rw,Bool.and_eq_true,decide_eq_true_eq] at h
 exact⟨h.1.1,fL h.2,h.1.2⟩
theorem afY{p:aI}(h:Rw p=true):sN p.name∧oB EA p.head:=by
 have:=Od h
 exact⟨⟨this.1.1,this.1.2⟩,this.2.1⟩
theorem aaJ:∀p∈PD,Rw p=true:=by decide
theorem aaK:∀p∈PE,Rw p=true:=by decide
abbrev Fq(n:Int)(fs:List eY):aE:={aZ n with facts:=fs}
theorem as1{n:Int}(h:0≤n∧n≤4)(hf:fs.length≤3)(h1:∀x∈fs,(0≤x.a∧x.a <3)∧(0≤x.b∧x.b <3))(h2:fs.Pairwise fun x y=>¬(x.a=y.a∧x.b=y.b)):kg (Fq n fs) where
 qM:=⟨rfl,by simp,by simp[CE],by simp[anM]⟩
 ways:=⟨(by decide:(1:Nat)≤1),by simp[gv]⟩
 cR:=⟨(by decide:(0:Nat) <4∧4≤6),(by decide:(6:Nat)≤6),Ja⟩
 rules:=(by decide:(1:Nat)≤4)
 before:=⟨(by decide:(3:Nat)≤4),fun p hp=>⟨Od (aaJ p hp),by
  simp only[PD,List.mem_cons,List.not_mem_nil,or_false] at hp
  rcases hp with rfl|rfl|rfl
  ·exact⟨_,rfl,by simp⟩
  ·exact⟨_,rfl,by simp⟩
  exact⟨_,rfl,by simp⟩⟩⟩
 after:=⟨(by decide:(3:Nat)≤4),fun p hp=>⟨Od (aaK p hp),by
  simp only[PE,List.mem_cons,List.not_mem_nil,or_false] at hp
  rcases hp with rfl|rfl|rfl<;>decide⟩⟩
 Az:=⟨(by decide:(0:Int)≤1∧(1:Int)≤4),(by decide:(0:Int)≤1∧(1:Int)≤4),h⟩
 facts:=⟨by show fs.length≤4;omega,h1⟩
 apart:=h2
theorem as0{n:Int}(hf:fs.length≤3)(h1:∀x∈fs,(0≤x.a∧x.a <3)∧(0≤x.b∧x.b <3)):fq (Fq n fs) where
 rules:=⟨(by decide:(1:Nat)≤4),by
  intro r hr
  rw[List.mem_singleton] at hr;subst hr
  have e:YH ⟨bs [121],bs [105]⟩=true:=by kernel_rfl
  simp only[YH,Bool.and_eq_true,Nat.ble_eq,Bool.not_eq_true'] at e
  exact⟨e.1,e.2.1,HU e.2.2.1,HU e.2.2.2.1,e.2.2.2.2⟩⟩
 before:=⟨(by decide:(3:Nat)≤4),fun p hp=>afY (aaJ p hp)⟩
 after:=⟨(by decide:(3:Nat)≤4),fun p hp=>afY (aaK p hp)⟩
 cR:=⟨(by decide:(0:Nat) <4∧4≤6),(by decide:(6:Nat)≤6),ak2,by simp only[Bs];decide,fun i x hx=>⟨XE i x hx,Ja i x hx⟩,by simp only[Bs,Q3];decide⟩
 facts:=⟨by show fs.length≤4;omega,h1⟩
theorem aKR{v0 v1 v3 v4 v5 v6 v7 vb:Value}{fa fb:Option Addr}{fn fd:Nat}{g0 g1 g2:Int}(hs:∀v∈[v0,v1,(.slice fa 0 fc),v3,v4,v5,v6,v7,zI g0,zI g1,zI g2,(.slice fb fn fd)],single v=true):dG zT 52 [.agg ⟨[v0,v1,(.slice fa 0 fc),v3,v4,v5,v6,v7,zI g0,zI g1,zI g2,vb]⟩,(.slice fb fn fd)] ro (.agg ⟨[v0,v1,(.slice fa 0 fc),v3,v4,v5,v6,v7,zI g0,zI g1,zI g2,(.slice fb fn fd)]⟩):=by
 refine zE<|zD 2<|jn fun b2=>jn fun b4=>jd 10 [1,1]<|jsx 0 b4 0 zO [v0,v1,(.slice fa 0 fc),v3,v4,v5,v6,v7,zI g0,zI g1,zI g2,(.slice fb fn fd)] 38 hs rfl<|zD 2<|zR (.agg ⟨[v0,v1,(.slice fa 0 fc),v3,v4,v5,v6,v7,zI g0,zI g1,zI g2,(.slice fb fn fd)]⟩) [0] [] [] ⟨rfl,rfl⟩
def alM[DecidableEq κ](r:Nat)(kv:κ→Value)(k:κ)(F:List (κ×Value))(b:Nat)(L:Cells):Prop:=
 ∃es ck i u,L=[(r,.map es ck)]∧uw kv F es ck∧tz k F 0=some (i,u)∧(es.toList.map (·.born))[i]?=some b
theorem alM.own[DecidableEq κ]{kv:κ→Value}{k:κ}{F:List (κ×Value)}{L:Cells}(h:alM r kv k F b L):j9 r kv F L:=by
 obtain⟨es,ck,_,_,h1,h2,_⟩:=h
 exact⟨es,ck,h1,h2⟩
def meV(P:Program)(n:Nat)(p:Oper)(e:Env):Option (TypeId×TypeId×Value×Value):=match p.op with
 | .mapEntry T x y=>match a8 P T with
  |some ⟨.map K E,_,_,_⟩=>match bE n e x with
   |some m=>match bE n e y with
    |some k=>some (K,E,m,k)
    |none=>none
   |none=>none
  |_=>none
 |_=>none
def esV(n:Nat)(p:Oper)(e:Env):Option (Value×Value×Value):=match p.op with
 | .entryStore _ x y z=>match bE n e x with
  |some m=>match bE n e y with
   |some b=>match bE n e z with
    |some v=>some (m,b,v)
    |none=>none
   |none=>none
  |none=>none
 |_=>none
theorem Cd[DecidableEq κ]{k:κ}{v:Value}:∀ {F:List (κ×Value)} {i:Nat},tz k F i=none→tz k (F++[(k,v)]) i=some (i+F.length,v)
 | [],i,_=>by simp[tz]
 |x::l,i,h=>by
  simp only[tz] at h
  split at h
  ·cases h
  rename_i hk
  rw[List.cons_append,tz,if_neg hk,Cd h,List.length_cons,show i+1+l.length=i+(l.length+1) by omega]
theorem Zo{kv:κ→Value}{k:κ}{v:Value}:∀(es:List MapEntry) (F:List (κ×Value)) (i:Nat) {u:Value},F[i]?=some (k,u)→es.map (fun e=>(e.key,e.val))=F.map (fun x=>(kv x.1,x.2))→(es.modify i fun e=>{e with val:=v}).map (fun e=>(e.key,e.val))=(uK k v F i).map (fun x=>(kv x.1,x.2))
 | [],[],_,_,h,_=>by simp at h
 | [],_::_,_,_,_,h=>by simp at h
 |_::_,[],_,_,_,h=>by simp at h
 |e::es,x::F,0,_,h1,h=>by
  simp only[List.map_cons,List.cons.injEq,Prod.mk.injEq] at h
  simp at h1;subst h1
  simp[uK,h.2,h.1.1]
 |e::es,x::F,i+1,_,h1,h=>by
  simp only[List.map_cons,List.cons.injEq] at h
  simp at h1
  simp[uK,h.1,Zo es F i h1 h.2]
theorem Jn{v:Value}:∀(es:List MapEntry) (i:Nat),(es.modify i fun e=>{e with val:=v}).map (·.born)=es.map (·.born)
 | [],i=>by simp
 |e::es,0=>by simp
 |e::es,i+1=>by simp[Jn es i]
theorem Cv{kx:Value}:∀(es:List MapEntry) (i:Nat),(es.modify i fun e=>{e with key:=kx}).map (·.born)=es.map (·.born)
 | [],i=>by simp
 |e::es,0=>by simp
 |e::es,i+1=>by simp[Cv es i]
theorem Zp{kv:κ→Value}{k:κ}:∀(es:List MapEntry) (F:List (κ×Value)) (i:Nat) {u:Value},F[i]?=some (k,u)→es.map (fun e=>(e.key,e.val))=F.map (fun x=>(kv x.1,x.2))→(es.modify i fun e=>{e with key:=kv k}).map (fun e=>(e.key,e.val))=F.map (fun x=>(kv x.1,x.2))
 | [],[],_,_,h,_=>by simp at h
 | [],_::_,_,_,_,h=>by simp at h
 |_::_,[],_,_,_,h=>by simp at h
 |e::es,x::F,0,_,h1,h=>by
  simp only[List.map_cons,List.cons.injEq,Prod.mk.injEq] at h
  simp at h1;subst h1
  simp[h.2,h.1.2]
 |e::es,x::F,i+1,_,h1,h=>by
  simp only[List.map_cons,List.cons.injEq] at h
  simp at h1
  simp[h.1,Zp es F i h1 h.2]
theorem aaN{es eE:Array MapEntry}(h:∀e∈es.toList,e.born <ck)(hb:eE.toList.map (·.born)=es.toList.map (·.born)):∀e∈eE.toList,e.born <ck:=fun e he=>by
 have:e.born∈eE.toList.map (·.born):=List.mem_map_of_mem he
 rw[hb] at this
 obtain⟨e2,h3,h4⟩:=List.mem_map.1 this
 rw[←h4];exact h e2 h3
section
variable {X:Cx} {o:Option JS}
theorem jSk{f:Oper→Env→Option β}{r:β}{Φ:Cells→Prop}(ps:List Nat)(B:Cells)(hv:e8 X.n f o=some r)(hB:dO ps o=some B)
 (hy:∀p e,f p e=some r→(∀c,p.op≠ .defer c)∧∀(R:Cells) (Q:Next→St→Prop) (E:Halt→St→Prop),(∀L',Φ L'→Q .skip ⟨X.ro,L'++R⟩)→bU X.P (execOp (ev X.n e) p) ⟨X.ro,B++R⟩ Q E)
 (hj:∀L',Φ L'→J X (nq ps undef L' o)):J X o:=by
 obtain⟨ops,i,todo,k,e,w,kn,p,rfl,ho,hw,hc⟩:=dJ hv
 intro cv
 have hp:=bO hB
 obtain⟨hd,ht⟩:=hy p e hc
 have:ai X.C X.fn X.aD ops (i::todo) (KQ X k) (A X.n e X.D) ⟨X.ro,B++den (dL ps 0 w)⟩:=by
  refine cd X.hC ho hw hd<|ht _ _ _ fun L' ql=>?_
  have:=hj L' ql
  rw[oH ho] at this
  have:=this cv
  simp only[JP,gZ] at this
  show ai _ _ _ _ _ _ _ _
  rw[←bu] at this
  exact this
 have hle:(⟨X.ro,B++den (dL ps 0 w)⟩:St).le ⟨X.ro,den w⟩:=⟨[],by rw[List.append_nil];exact hp,fun b o hb=> .inl hb⟩
 exact this.more X.hC hle
theorem jme[DecidableEq κ]{kv:κ→Value}{F:List (κ×Value)}{K E:TypeId}{L:Cells}{d:TypeDesc}(i:Nat)(k:κ)(hk:Ud X.P K kv)(te:TF X.P E d sz bL z ag)(hm:j9 r kv F L)
 (hj:∀F1 b c L',(((∃u,tz k F 0=some u)∧F1=F)∨(tz k F 0=none∧F1=F++[(k,NB z ag)]))→alM r kv k F1 b L'→J X (nq [i] (.tuple ⟨[c,zI (b:Int)]⟩) L' o))
 (hv:e8 X.n (meV X.P X.n) o=some (K,E,.map (some r),kv k):=by kernel_rfl)(hB:dO [i] o=some L:=by kernel_rfl):J X o:=by
 refine jS (Φ:=fun v L'=>∃F1 b c,(((∃u,tz k F 0=some u)∧F1=F)∨(tz k F 0=none∧F1=F++[(k,NB z ag)]))∧alM r kv k F1 b L'∧v= .tuple ⟨[c,zI (b:Int)]⟩) [i] _ hv hB (fun p e hf=>?_) (fun v L' ql=>?_)
 ·unfold meV at hf
  split at hf<;>try (cases hf;done)
  rename_i T x y aC
  split at hf<;>try (cases hf;done)
  rename_i K' E' _ _ _ dS
  split at hf<;>try (cases hf;done)
  rename_i m hx
  split at hf<;>try (cases hf;done)
  rename_i k' hy
  simp only[Option.some.injEq,Prod.mk.injEq] at hf
  obtain⟨rfl,rfl,rfl,rfl⟩:=hf
  obtain⟨blV,tf⟩:=ay dS
  refine⟨by rw[aC];simp,fun R Q E hQ=>?_⟩
  obtain⟨es,ck,rfl,Ed⟩:=hm
  simp only[execOp,aC,Instr.mapEntry,ae,bk tf,aH hx,aH hy]
  refine cM (.inr (List.mem_append_left _ List.mem_cons_self)) rfl rfl ?_
  simp only[ae]
  refine hk.chk _ _ ?_
  simp only[ae]
  refine hk.find k _ F Ed.1 ?_
  cases yX:tz k F 0 with
  |some u=>
   obtain⟨j,u⟩:=u
   have Uw:=q9 yX
   simp only[Nat.sub_zero] at Uw
   have h1:(es.toList.map (fun e=>(e.key,e.val)))[j]?=some (kv k,u):=by rw[Ed.1];simp[Uw.2]
   simp only[List.getElem?_map,Array.getElem?_toList] at h1
   cases he:es[j]? with
   |none=>rw[he] at h1;cases h1
   |some e1=>
    rw[he] at h1
    simp only[Option.map_some,Option.some.injEq,Prod.mk.injEq] at h1
    simp only[ae,Instr.keyThatStays,he,Option.map_some,Option.getD_some,h1.1,hk.stay,if_true,ah]
    refine eH (L:=[]) rfl rfl rfl ?_
    simp only[ah]
    refine hQ _ [(r,_)] ⟨F,e1.born,u,.inl ⟨⟨_,yX⟩,rfl⟩,⟨_,_,j,u,rfl,⟨?_,?_,?_⟩,yX,?_⟩,rfl⟩
    ·rw[Array.toList_modify];exact Zp _ _ _ Uw.2 Ed.1
    ·rw[Array.toList_modify,Cv];exact Ed.2.1
    ·exact aaN Ed.2.2 (by rw[Array.toList_modify,Cv])
    rw[Array.toList_modify,Cv,List.getElem?_map,Array.getElem?_toList,he];rfl
  |none=>
   simp only[ae,j5 te]
   refine eH (L:=[]) rfl rfl rfl ?_
   simp only[ah]
   have hlen:es.toList.length=F.length:=by have:=congrArg List.length Ed.1;simpa using this
   refine hQ _ [(r,_)] ⟨_,ck,_,.inr ⟨yX,rfl⟩,⟨_,_,F.length,_,rfl,⟨?_,?_,?_⟩,by have:=Cd (v:=NB z ag) yX;rwa[Nat.zero_add] at this,?_⟩,rfl⟩
   ·simp only[Array.toList_push,List.map_append,Ed.1];rfl
   ·simp only[Array.toList_push,List.map_append,List.map_cons,List.map_nil]
    refine List.nodup_append.2 ⟨Ed.2.1,by simp,?_⟩
    intro a ha b hb
    obtain⟨e2,h3,rfl⟩:=List.mem_map.1 ha
    have:=Ed.2.2 e2 h3
    simp only[List.mem_singleton] at hb
    omega
   ·intro e1 h1
    simp only[Array.toList_push,List.mem_append,List.mem_singleton] at h1
    rcases h1 with h1|rfl
    ·have:=Ed.2.2 e1 h1;omega
    exact Nat.lt_succ_self _
   simp only[Array.toList_push,List.map_append,List.map_cons,List.map_nil]
   rw[List.getElem?_append_right (by simp[hlen])]
   simp[hlen]
 obtain⟨F1,b,c,h1,h2,rfl⟩:=ql
 exact hj F1 b c L' h1 h2
theorem jes[DecidableEq κ]{kv:κ→Value}{F:List (κ×Value)}{L:Cells}{k:κ}(i:Nat)(v:Value)(hm:alM r kv k F b L)(hj:∀L',j9 r kv (mS k v F) L'→J X (nq [i] undef L' o))
 (hv:e8 X.n (esV X.n) o=some (.map (some r),zI (b:Int),v):=by kernel_rfl)(hB:dO [i] o=some L:=by kernel_rfl):J X o:=by
 refine jSk (Φ:=j9 r kv (mS k v F)) [i] _ hv hB (fun p e hf=>?_) hj
 unfold esV at hf
 split at hf<;>try (cases hf;done)
 rename_i T x y zz aC
 split at hf<;>try (cases hf;done)
 rename_i m hx
 split at hf<;>try (cases hf;done)
 rename_i b' hy
 split at hf<;>try (cases hf;done)
 rename_i v' hz
 simp only[Option.some.injEq,Prod.mk.injEq] at hf
 obtain⟨rfl,rfl,rfl⟩:=hf
 refine⟨by rw[aC];simp,fun R Q E hQ=>?_⟩
 obtain⟨es,ck,j,u,rfl,Ed,yX,hb⟩:=hm
 have Uw:=q9 yX
 simp only[Nat.sub_zero] at Uw
 simp only[execOp,aC,Instr.entryStore,ae,aH hx,aH hy,aH hz]
 refine cM (.inr (List.mem_append_left _ List.mem_cons_self)) rfl rfl ?_
 have aVL:es.findIdx? (fun e=>(e.born:Int)==(b:Int))=some j:=by
  rw[List.getElem?_map,Array.getElem?_toList] at hb
  obtain⟨e1,he,rfl⟩:=Option.map_eq_some_iff.1 hb
  obtain⟨h1,h2⟩:=Array.getElem?_eq_some_iff.1 he
  refine Array.findIdx?_eq_some_iff_getElem.2 ⟨h1,by simp[h2],fun q hq=>?_⟩
  have mJ:=Ed.2.1
  have:=List.pairwise_iff_getElem.1 mJ q j (by simp;omega) (by simp;omega) hq
  simp only[List.getElem_map,Array.getElem_toList,h2] at this
  simp only[beq_iff_eq]
  omega
 simp only[ae,asInt,asIntOf,ah,aVL]
 refine eH (L:=[]) rfl rfl rfl ?_
 show Q .skip _
 refine hQ [(r,_)] ⟨_,_,rfl,?_,?_,?_⟩
 ·rw[Array.toList_modify,mS,yX];exact Zo _ _ _ Uw.2 Ed.1
 ·rw[Array.toList_modify,Jn];exact Ed.2.1
 exact aaN Ed.2.2 (by rw[Array.toList_modify,Jn])
end
abbrev v4(a b c d:Int):Value:= .agg ⟨[zI a,zI b,zI c,zI d]⟩
theorem aKF{P:Program}(tf:TF P T (.array 4 3) sz bL z ag)(t3:TF P 3 (.int .i64) 1 by1 z1 false)(a b c d a' b' c' d':Int):
 EqD P (dep+2) T (v4 a b c d) (v4 a' b' c' d') (a==a'&&(b==b'&&(c==c'&&(d==d'&&true)))):=by
 intro α s k Q E
 rw[Op.equalIn]
 simp only[ae,bk tf,cy t3]
 simp only[Std.Legacy.Range.forIn_eq_forIn_range',Std.Legacy.Range.size,Nat.sub_zero,Nat.add_sub_cancel,Nat.div_one,List.range'_succ,List.range'_zero,List.forIn_cons,List.forIn_nil,ae,Nat.zero_add,Nat.mul_one]
 have p (l:List Value) (o:Nat) (v:Value) (h:nth l o=some v):JC P 3 l o v:=gR t3 h
 rw[p _ 0 (zI a) rfl];simp only[ae]
 rw[p _ 0 (zI a') rfl];simp only[ae]
 rw[mb t3 a a']
 cases ha:a==a' with
 |false=>simp only[Bool.not_false,if_true,ah,ae,Bool.false_and]
 |true=>
 simp only[Bool.not_true,Bool.false_eq_true,if_false,ah,Bool.true_and,ae]
 rw[p _ 1 (zI b) rfl];simp only[ae]
 rw[p _ 1 (zI b') rfl];simp only[ae]
 rw[mb t3 b b']
 cases hb:b==b' with
 |false=>simp only[Bool.not_false,if_true,ah,ae,Bool.false_and]
 |true=>
 simp only[Bool.not_true,Bool.false_eq_true,if_false,ah,Bool.true_and,ae]
 rw[p _ 2 (zI c) rfl];simp only[ae]
 rw[p _ 2 (zI c') rfl];simp only[ae]
 rw[mb t3 c c']
 cases hc:c==c' with
 |false=>simp only[Bool.not_false,if_true,ah,ae,Bool.false_and]
 |true=>
 simp only[Bool.not_true,Bool.false_eq_true,if_false,ah,Bool.true_and,ae]
 rw[p _ 3 (zI d) rfl];simp only[ae]
 rw[p _ 3 (zI d') rfl];simp only[ae]
 rw[mb t3 d d']
 cases hd:d==d' with
 |false=>simp only[Bool.not_false,if_true,ah,ae,Bool.false_and]
 |true=>simp only[Bool.not_true,Bool.false_eq_true,if_false,ah,Bool.true_and,ae]
theorem ck4{P:Program}(tf:TF P T (.array 4 3) sz bL z ag)(t3:TF P 3 (.int .i64) 1 by1 z1 false)(a b c d:Int):CkD P (dep+2) T (v4 a b c d):=by
 intro bb α K s Q E
 rw[Instr.checkKey]
 simp only[ae,bk tf]
 simp only[Std.Legacy.Range.forIn_eq_forIn_range',Std.Legacy.Range.size,Nat.sub_zero,Nat.add_sub_cancel,Nat.div_one,List.range'_succ,List.range'_zero,List.forIn_cons,List.forIn_nil,ae,Nat.zero_add,cy t3,Nat.zero_mul,Nat.mul_one]
 have p (l:List Value) (o:Nat) (v:Value) (h:nth l o=some v):JC P 3 l o v:=gR t3 h
 rw[p _ 0 (zI a) rfl];simp only[ae];rw[Jc t3 a bb];simp only[ah,ae,cy t3,Nat.mul_one]
 rw[p _ 1 (zI b) rfl];simp only[ae];rw[Jc t3 b bb];simp only[ah,ae,cy t3,Nat.mul_one]
 rw[p _ 2 (zI c) rfl];simp only[ae];rw[Jc t3 c bb];simp only[ah,ae,cy t3,Nat.mul_one]
 rw[p _ 3 (zI d) rfl];simp only[ae];rw[Jc t3 d bb];simp only[ah,ae]
abbrev P4:=Int×Int×Int×Int
abbrev JL(x:P4):Value:=v4 x.1 x.2.1 x.2.2.1 x.2.2.2
theorem ahc:Ud zT 136 JL:=ahb (mE Tryz.typeInfo136 Tryz.underlying136 rfl rfl rfl rfl rfl rfl) (fun k=>⟨_,rfl⟩)
 (fun k=>ck4 (dep:=9998) (mE Tryz.typeInfo136 Tryz.underlying136 rfl rfl rfl rfl rfl rfl) kJ _ _ _ _)
 (fun a b=>by
  have h:=aKF (dep:=9998) (mE Tryz.typeInfo136 Tryz.underlying136 rfl rfl rfl rfl rfl rfl) kJ a.1 a.2.1 a.2.2.1 a.2.2.2 b.1 b.2.1 b.2.2.1 b.2.2.2
  have e:(a.1==b.1&&(a.2.1==b.2.1&&(a.2.2.1==b.2.2.1&&(a.2.2.2==b.2.2.2&&true))))=decide (a=b):=by
   rcases a with ⟨x,y,z,t⟩;rcases b with ⟨u,v,w,r⟩
   rw[Bool.eq_iff_iff];simp
  rwa[e] at h)
 (fun k=>by simp[Instr.sameBits])
structure fH where
 c:Nat→Nat→Int
abbrev AV(m:fH):List Value:=[zI (m.c 0 0),zI (m.c 0 1),zI (m.c 0 2),zI (m.c 0 3),zI (m.c 1 0),zI (m.c 1 1),zI (m.c 1 2),zI (m.c 1 3),zI (m.c 2 0),zI (m.c 2 1),zI (m.c 2 2),zI (m.c 2 3),zI (m.c 3 0),zI (m.c 3 1),zI (m.c 3 2),zI (m.c 3 3)]
theorem BK{m:fH}{a:Nat}(h:a <4)(k:b <4):nth (AV m) (0+(a:Int).toNat*4+(b:Int).toNat*1)=some (zI (m.c a b)):=by
 rcases BM h with rfl|rfl|rfl|rfl<;>rcases BM k with rfl|rfl|rfl|rfl<;>rfl
def sV(m:fH)(a b:Nat)(v:Int):fH:=⟨fun i j=>if i=a∧j=b then v else m.c i j⟩
theorem aof{m:fH}{a:Nat}{v:Int}(h:a <4)(k:b <4):dK (AV m) (0+(a:Int).toNat*4+(b:Int).toNat*1) [zI v]=AV (sV m a b v):=by
 rcases BM h with rfl|rfl|rfl|rfl<;>rcases BM k with rfl|rfl|rfl|rfl<;>rfl
theorem aog{m:fH}{a:Nat}{v:Value}(h:a <4)(k:b <4):Nat.ble ((0+(a:Int).toNat*4+(b:Int).toNat*1)+[v].length) (AV m).length=true:=by
 rcases BM h with rfl|rfl|rfl|rfl<;>rcases BM k with rfl|rfl|rfl|rfl<;>rfl
def pI(x:aj):Nat→Int
 |0=>x.w0
 |1=>x.w1
 |2=>x.w2
 |_=>x.w3
def az(zs:List aj):fH:=⟨fun i j=>((zs.filter fun x=>decide (pI x i=(j:Int)+1)).length:Int)⟩
theorem Ez(zs:List aj)(i j:Nat):0≤(az zs).c i j∧(az zs).c i j≤zs.length:=by
 have:=List.length_filter_le (fun x=>decide (pI x i=(j:Int)+1)) zs
 simp only[az];omega
theorem I8{zs ys:List aj}(h:zs.Perm ys):az zs=az ys:=by
 simp only[az,(h.filter _).length_eq]
theorem GC{r:bx}(hp:∀i,0≤p i∧p i≤4)(q:Nat):0≤pI (bI K r i p) q∧pI (bI K r i p) q≤4:=match q with
 |0=>hp 0
 |1=>hp 1
 |2=>hp 2
 |_+3=>hp 3
def rJ:Prop:=∀ {ro:Nat→Option Obj} {v:Value} {zs:List aj},bJ ro v 8 cY zs→zs.length≤100000→(∀x∈zs,∀q,0≤pI x q∧pI x q≤4)→ee zT 80 [v] ro [] (fun r Y=>r= .agg ⟨AV (az zs)⟩∧Y=[])
def mZ(m:fH)(n:Int)(i:Nat):Nat→List (List Int)
 |0=>[]
 |j+1=>mZ m n i j++(bif decide (m.c i j=n) then [[(i:Int),(j:Int)]] else [])
def p9(m:fH)(n:Int)(w:Nat):Nat→List (List Int)
 |0=>[]
 |i+1=>p9 m n w i++mZ m n i w
theorem Zj{m:fH}{n:Int}(h:m.c i j=n):mZ m n i (j+1)=mZ m n i j++[[(i:Int),(j:Int)]]:=by rw[mZ,decide_eq_true h];rfl
theorem Zk{m:fH}{n:Int}(h:¬m.c i j=n):mZ m n i (j+1)=mZ m n i j:=by rw[mZ,decide_eq_false h];exact List.append_nil _
theorem DK(m:fH)(n:Int)(i:Nat):∀j,(mZ m n i j).length≤j
 |0=>Nat.le_refl _
 |j+1=>by have:=DK m n i j;rw[mZ,List.length_append];cases decide (m.c i j=n)<;>simp<;>omega
theorem MB(m:fH)(n:Int){w:Nat}(hw:w≤4):∀i,(p9 m n w i).length≤4*i
 |0=>Nat.le_refl _
 |i+1=>by have:=MB m n hw i;have:=DK m n i w;rw[p9,List.length_append];omega
theorem aoG{rows:List bx}(hK:fO ro l K)(hV:fq K)(hR:rows.length≤2)(hB:gE ro l K rows)(hCt:rJ):Be zT 63 [.agg ⟨l⟩,.func (.func 106) ⟨[]⟩ ⟨[]⟩] ro [] (fun r Y=>∃zs v e,zs.Perm (db K (bw K) (bV K.gone K.new K.af) rows)∧r= .tuple ⟨[v,zI e]⟩∧((zs=[]∧v= zS∧e=9∧Y=[])∨(zs≠[]∧e=0∧∀aF,Knows aF Y→LL aF v (p9 (az zs) ((zs.length:Nat):Int) K.after.length K.before.length)))):=by
 obtain⟨v0,v1,v3,v4,v5,v6,v7,vb,fa,fc,hv,rfl,_⟩:=id hK
 refine xk av [] [] bp fun fr=>zD 2<|jn fun b2=>jd 6 [0]<|acb (vs:=[.agg ⟨[v0,v1,.slice fa 0 fc,v3,v4,v5,v6,v7,zI K.gone,zI K.new,zI K.af,vb]⟩]) [] (fun _ _ h=>h) (MJ hK hV hR hB) ?_
 rintro _ aJ Y15 cu ⟨f15,zs,v15,e15,rfl,F7,hz,aiu,he⟩
 have KA:∀x∈zs,(-4≤x.gone∧x.gone≤4)∧(-4≤x.new∧x.new≤4)∧(0≤x.af∧x.af≤4):=fun x hx=>by obtain⟨i,r,p,_,_,rfl,_⟩:=fR (hz.mem_iff.1 hx);exact ld hV r i p
 have Wh:zs.length≤1250:=by rw[hz.length_eq];exact lX hV _ _ hR
 have hpr:∀x∈zs,∀q,0≤pI x q∧pI x q≤4:=fun x hx=>by obtain⟨i,r,p,_,hp,rfl,_⟩:=fR (hz.mem_iff.1 hx);exact GC ((jC hV _).2 p hp)
 obtain⟨d0,d1,d2,d3,d4,d5,d6,d7,d8,d9,dh,hf,py,kz,hr,yY,B6,Eg,cg⟩:=id F7
 obtain⟨fC,Dv,Dt,eO,rfl,Du,wu,wq⟩:=yY
 obtain⟨fD,Dy,Dw,eQ,rfl,Dx,wy,wx⟩:=B6
 have yV:=hV.before.1
 have Ec:=hV.after.1
 refine zD 7<|jf [0] Y15 (fun ro4 mI Im=>?_)
 have WY:=aiu.jR Im
 obtain⟨pN,Hu,Hs,mY,rfl,Ht,An,Am⟩:=WY
 refine zD 7<|js 20 (!decide (e15=0)) (fun h5=>?_) (fun h5=>?_)
 ·
  replace h5:=of_decide_eq_false (by simpa using h5)
  have n9:zs=[]∧e15=9:=by rcases he with h| ⟨_,h⟩;exact h;omega
  refine zD 8<|Qd qC.a.a (.tuple ⟨[zS,zI e15]⟩) [1] [] (cu.trans mI) ⟨zs,_,_,hz,rfl,.inl ⟨n9.1,rfl,n9.2,rfl⟩⟩
 replace h5:=of_decide_eq_true (by simpa using h5)
 have n9:zs≠[]∧e15=0:=by rcases he with ⟨_,h⟩|h;omega;exact h
 refine zD 9<|jc (vs:=[.slice pN zs.length mY]) [] (hCt (show bJ _ _ _ _ _ from ⟨pN,Hu,Hs,mY,rfl,Ht,An,Am⟩) (by omega) hpr) ?_
 rintro _ _ ⟨rfl,rfl⟩
 refine jg 0 []<|jn fun pX=>jd 9 [0]<|jl (b:=f15) (off:=0) (m:=13) (vs:=[d0,d1,d2,d3,d4,d5,.slice fC K.before.length eO,.slice fD K.after.length eQ,zI K.gone,zI K.new,zI K.af,d8,d9]) 6 ⟨_,_,_,.inl (mI _ _ hf),rfl⟩<|zD 4<|my<|my<|dH [1,1,1,1,1,0,1,0,0] [] (fun(zz:Nat×Value×Cells×(List Value)×Cells)=>[(1,.func (.func 106) ⟨[]⟩ ⟨[]⟩),(4,zS),(5,zI 0),(6,zP f15),(7,.slice pN zs.length mY),(9,zz.2.1),(10,zP pX),(29,zI (K.before.length:Int)),(30,zI (zz.1:Int))]) (fun zz=>[.l zz.2.2.1,.l zz.2.2.2.2,.b pX (.cells ⟨[zI ((az zs).c 0 0),zI ((az zs).c 0 1),zI ((az zs).c 0 2),zI ((az zs).c 0 3),zI ((az zs).c 1 0),zI ((az zs).c 1 1),zI ((az zs).c 1 2),zI ((az zs).c 1 3),zI ((az zs).c 2 0),zI ((az zs).c 2 1),zI ((az zs).c 2 2),zI ((az zs).c 2 3),zI ((az zs).c 3 0),zI ((az zs).c 3 1),zI ((az zs).c 3 2),zI ((az zs).c 3 3)]⟩ 158 (0,0)),.b b2 (.cells ⟨[v0,v1,.slice fa 0 fc,v3,v4,v5,v6,v7,zI K.gone,zI K.new,zI K.af,vb]⟩ 38 (0,0)),.l fr]) (fun zz=>(zz.1≤K.before.length∧zz.2.2.2.1.length=(p9 (az zs) ((zs.length:Nat):Int) K.after.length zz.1).length)∧aA zz.2.1 1 22 gL zz.2.2.2.1 zz.2.2.1∧∀aF,Knows aF zz.2.2.2.2→dc (fun w l=>bJ aF w 1 aS l) zz.2.2.2.1 (p9 (az zs) ((zs.length:Nat):Int) K.after.length zz.1)) (fun zz=>K.before.length-zz.1) (⟨0,zS,[],[],[]⟩) ⟨⟨by dsimp only;omega,rfl⟩,aA.nil _ _ _,fun _ _=> .nil⟩ [1,0,2,3,4] ?_
 rintro⟨i,vO,LO,es,Z⟩ hI K1 bP rest
 dsimp only at hI
 have hil:=MB (az zs) ((zs.length:Nat):Int) (w:=K.after.length) (by omega) i
 refine zD 5<|zJ 31 ((i:Int) <(K.before.length:Int)) (fun h6=>?_) fun h6=>?_
 ·
  refine zD 15<|jl (b:=f15) (off:=0) (m:=13) (vs:=[d0,d1,d2,d3,d4,d5,.slice fC K.before.length eO,.slice fD K.after.length eQ,zI K.gone,zI K.new,zI K.af,d8,d9]) 7 ⟨_,_,_,.inl (mI _ _ hf),rfl⟩<|zD 4<|dH [1,1,1,1,1,0,1,0,0,1,1,0,0,1,1,0,0] [K1] (fun(zz:Nat×Value×Cells×(List Value)×Cells)=>[(1,.func (.func 106) ⟨[]⟩ ⟨[]⟩),(4,zS),(5,zI 0),(6,zP f15),(7,.slice pN zs.length mY),(9,zz.2.1),(10,zP pX),(11,zI (i:Int)),(29,zI (K.before.length:Int)),(30,zI (i:Int)),(38,zI (K.after.length:Int)),(39,zI (zz.1:Int))]) (fun zz=>[.l zz.2.2.1,.l zz.2.2.2.2,.b pX (.cells ⟨[zI ((az zs).c 0 0),zI ((az zs).c 0 1),zI ((az zs).c 0 2),zI ((az zs).c 0 3),zI ((az zs).c 1 0),zI ((az zs).c 1 1),zI ((az zs).c 1 2),zI ((az zs).c 1 3),zI ((az zs).c 2 0),zI ((az zs).c 2 1),zI ((az zs).c 2 2),zI ((az zs).c 2 3),zI ((az zs).c 3 0),zI ((az zs).c 3 1),zI ((az zs).c 3 2),zI ((az zs).c 3 3)]⟩ 158 (0,0)),.b b2 (.cells ⟨[v0,v1,.slice fa 0 fc,v3,v4,v5,v6,v7,zI K.gone,zI K.new,zI K.af,vb]⟩ 38 (0,0)),.l fr]) (fun zz=>(zz.1≤K.after.length∧zz.2.2.2.1.length=((p9 (az zs) ((zs.length:Nat):Int) K.after.length i)++(mZ (az zs) ((zs.length:Nat):Int) i zz.1)).length)∧aA zz.2.1 1 22 gL zz.2.2.2.1 zz.2.2.1∧∀aF,Knows aF zz.2.2.2.2→dc (fun w l=>bJ aF w 1 aS l) zz.2.2.2.1 ((p9 (az zs) ((zs.length:Nat):Int) K.after.length i)++(mZ (az zs) ((zs.length:Nat):Int) i zz.1))) (fun zz=>K.after.length-zz.1) (⟨0,vO,LO,es,Z⟩) ⟨⟨by dsimp only;omega,by simpa [mZ] using hI.1.2⟩,hI.2.1,by simpa [mZ] using hI.2.2⟩ (zN 0 5) ?_
  rintro⟨j,vO,LO,es,Z⟩ hJ K2 lL rest
  dsimp only at hJ
  have hjl:=DK (az zs) ((zs.length:Nat):Int) i j
  have Uy:=hJ.1.2
  rw[List.length_append] at Uy
  refine zD 5<|zJ 40 ((j:Int) <(K.after.length:Int)) (fun h7=>?_) fun h7=>?_
  ·
   refine zD 10 ?_
   have iY:=Ez zs i j
   refine zD 4<|JM (b:=pX) (off:=0) (len:=4) (sz:=4) (i:Int) (by omega)<|JM (b:=pX) (off:=0+(i:Int).toNat*4) (len:=4) (sz:=1) (j:Int) (by omega)<|n7 (b:=pX) (off:=0+(i:Int).toNat*4+(j:Int).toNat*1) (m:=1) (vs:=[zI ((az zs).c i j)]) 0 [2] [(pX,.cells ⟨[zI ((az zs).c 0 0),zI ((az zs).c 0 1),zI ((az zs).c 0 2),zI ((az zs).c 0 3),zI ((az zs).c 1 0),zI ((az zs).c 1 1),zI ((az zs).c 1 2),zI ((az zs).c 1 3),zI ((az zs).c 2 0),zI ((az zs).c 2 1),zI ((az zs).c 2 2),zI ((az zs).c 2 3),zI ((az zs).c 3 0),zI ((az zs).c 3 1),zI ((az zs).c 3 2),zI ((az zs).c 3 3)]⟩ 158 (0,0))] (fun s _ hZ=>qI (hZ _ (.head _)) (BK (m:=az zs) (by omega) (by omega)))<|zD 2<|jp (vs:=[zI ((az zs).c i j),zI (zs.length:Int)]) [] [] (fun aJ hs hZ=>awh)<|zD 1<|js 50 (decide (((az zs).c i j)=(zs.length:Int))) (fun h8=>?_) (fun h8=>?_)
   ·
    refine zD 5<|jn fun b54=>jn fun b55=>cH gL b55 (.slice (some ⟨b54,0,none⟩) 2 2:Value) 2 0 hJ.2.1 rfl rfl (by omega) fun QE QB L56 AH=>zD 3<|zW ((j:Int)+1)<|zD 2<|zV lL (⟨j+1,(.slice QE ((es++[(.slice (some ⟨b54,0,none⟩) 2 2:Value)])).length QB),L56,(es++[(.slice (some ⟨b54,0,none⟩) 2 2:Value)]),Z++[(b54,.cells ⟨[zI (i:Int),zI (j:Int)]⟩ 3 (0,0))]⟩) ⟨⟨by dsimp only;omega,by dsimp only;rw[Zj (of_decide_eq_true (by assumption)),←List.append_assoc];simp only[zM] at*;omega⟩,AH,fun aF hk=>by dsimp only;rw[Zj (of_decide_eq_true (by assumption)),←List.append_assoc];exact(hJ.2.2 aF hk.left).snoc (bX (enc:=aS) (T:=3) [(i:Int),(j:Int)] (hk.right _ (.head _)) (fun _ _=>rfl))⟩ [[0],[3,2],[4],[5],[6]]
   refine zD 3<|zW ((j:Int)+1)<|zD 2<|zY lL (⟨j+1,vO,LO,es,Z⟩) ⟨⟨by dsimp only;omega,by dsimp only;rw[Zk (of_decide_eq_false (by assumption))];exact hJ.1.2⟩,hJ.2.1,by dsimp only;rw[Zk (of_decide_eq_false (by assumption))];exact hJ.2.2⟩ [0,1,2,3,4]
  refine zD 3<|zW ((i:Int)+1)<|zD 2<|zY bP (⟨i+1,vO,LO,es,Z⟩) ⟨⟨by dsimp only;omega,by have:=hJ.1.2;rw[show j=K.after.length by omega] at this;exact this⟩,hJ.2.1,by have:=hJ.2.2;rw[show j=K.after.length by omega] at this;exact this⟩ [0,1,2,3,4]
 refine zD 9<|aFR qC.a.a (.tuple ⟨[vO,zI 0]⟩) [0,1,4] LO Z (cu.trans mI) ⟨zs,_,_,hz,rfl,.inr ⟨n9.1,rfl,fun aF hk=>⟨es,hI.2.1.jR hk.left,by have:=hI.2.2 aF hk.right;rwa[show i=K.before.length by omega] at this⟩⟩⟩
structure xZ where
 f:Bool
 a:Int
 b:Int
 w:Int
def adq(m:fH)(n:Int)(i j:Nat):Int:=max (m.c i j) (n-m.c i j)
def Cy(m:fH)(n:Int)(i:Nat)(s:xZ):Nat→xZ
 |0=>s
 |j+1=>if adq m n i j <(Cy m n i s j).w then ⟨true,i,j,adq m n i j⟩ else Cy m n i s j
def adr(m:fH)(n:Int)(w:Nat):Nat→xZ
 |0=>⟨false,0,0,n⟩
 |i+1=>Cy m n i (adr m n w i) w
def XT(s:xZ):Int×Int×Int×Int:=bif s.f then (s.a,s.b,s.w,0) else (0,0,0,11)
theorem az1{m:fH}{n:Int}{s:xZ}{f:Bool}{a b w:Int}(h:(⟨f,a,b,w⟩:xZ)=Cy m n i s j)(h2:adq m n i j <w):(⟨true,i,j,adq m n i j⟩:xZ)=Cy m n i s (j+1):=by rw[Cy,←h,if_pos h2]
theorem alo{m:fH}{n:Int}{s:xZ}{f:Bool}{a b w:Int}(h:(⟨f,a,b,w⟩:xZ)=Cy m n i s j)(h2:¬adq m n i j <w):(⟨f,a,b,w⟩:xZ)=Cy m n i s (j+1):=by rw[Cy,←h,if_neg h2]
theorem awg{rows:List bx}(hK:fO ro l K)(hV:fq K)(hR:rows.length≤2)(hB:gE ro l K rows)(hCt:rJ):Be zT 50 [.agg ⟨l⟩] ro [] (fun r Y=>∃zs v e,zs.Perm (db K (bw K) (bV K.gone K.new K.af) rows)∧r= .tuple ⟨[v,zI e]⟩∧((zs=[]∧v= zS∧e=9∧Y=[])∨(zs≠[]∧e=0∧∀aF,Knows aF Y→LL aF v (p9 (az zs) ((zs.length:Nat):Int) K.after.length K.before.length)))):=by
 obtain⟨v0,v1,v3,v4,v5,v6,v7,vb,fa,fc,hv,rfl,_⟩:=id hK
 refine xk av [] [] bp fun fr=>zD 2<|jn fun b1=>jd 6 [0]<|GF (vs:=[.agg ⟨[v0,v1,.slice fa 0 fc,v3,v4,v5,v6,v7,zI K.gone,zI K.new,zI K.af,vb]⟩,.func (.func 106) ⟨[]⟩ ⟨[]⟩]) [] (fun _ _ h=>h) (aoG hK hV hR hB hCt) ?_
 rintro _ Y5 ⟨zs,v5,e5,hz,rfl,hcs⟩
 refine zD 6<|Qd qC (.tuple ⟨[v5,zI e5]⟩) [0,2] Y5 (Sub.refl _) ⟨zs,v5,e5,hz,rfl,hcs⟩
theorem aTn{rows:List bx}(hK:fO ro l K)(hV:fq K)(hR:rows.length≤2)(hB:gE ro l K rows)(hCt:rJ):Be zT 54 [.agg ⟨l⟩] ro [] (fun r Y=>∃zs a b w e,zs.Perm (db K (bw K) (bV K.gone K.new K.af) rows)∧Y=[]∧r= .tuple ⟨[zI a,zI b,zI w,zI e]⟩∧((zs=[]∧a=0∧b=0∧w=0∧e=9)∨(zs≠[]∧(a,b,w,e)=XT (adr (az zs) ((zs.length:Nat):Int) K.after.length K.before.length)))):=by
 obtain⟨v0,v1,v3,v4,v5,v6,v7,vb,fa,fc,hv,rfl,_⟩:=id hK
 refine xk av [] [] bp fun fr=>zD 2<|jn fun b1=>jd 8 [0]<|acb (vs:=[.agg ⟨[v0,v1,.slice fa 0 fc,v3,v4,v5,v6,v7,zI K.gone,zI K.new,zI K.af,vb]⟩]) [] (fun _ _ h=>h) (MJ hK hV hR hB) ?_
 rintro _ aJ Y14 cu ⟨f14,zs,v14,Cm,rfl,F7,hz,Ik,he⟩
 have KA:∀x∈zs,(-4≤x.gone∧x.gone≤4)∧(-4≤x.new∧x.new≤4)∧(0≤x.af∧x.af≤4):=fun x hx=>by obtain⟨i,r,p,_,_,rfl,_⟩:=fR (hz.mem_iff.1 hx);exact ld hV r i p
 have Wh:zs.length≤1250:=by rw[hz.length_eq];exact lX hV _ _ hR
 have hpr:∀x∈zs,∀q,0≤pI x q∧pI x q≤4:=fun x hx=>by obtain⟨i,r,p,_,hp,rfl,_⟩:=fR (hz.mem_iff.1 hx);exact GC ((jC hV _).2 p hp)
 obtain⟨d0,d1,d2,d3,d4,d5,d6,d7,d8,d9,dh,hf,py,kz,hr,yY,B6,Eg,cg⟩:=id F7
 obtain⟨fC,Dv,Dt,eO,rfl,Du,wu,wq⟩:=yY
 obtain⟨fD,Dy,Dw,eQ,rfl,Dx,wy,wx⟩:=B6
 have yV:=hV.before.1
 have Ec:=hV.after.1
 refine zD 7<|jf [0] Y14 (fun ro4 mI Im=>?_)
 have WY:=Ik.jR Im
 obtain⟨pN,Hu,Hs,mY,rfl,Ht,An,Am⟩:=WY
 refine zD 7<|js 20 (!decide (Cm=0)) (fun h5=>?_) (fun h5=>?_)
 ·
  replace h5:=of_decide_eq_false (by simpa using h5)
  have n9:zs=[]∧Cm=9:=by rcases he with h| ⟨_,h⟩;exact h;omega
  refine zD 10<|Qd qC.a.a (.tuple ⟨[zI 0,zI 0,zI 0,zI Cm]⟩) [1] [] (cu.trans mI) ⟨zs,_,_,_,_,hz,rfl,rfl,.inl ⟨n9.1,rfl,rfl,rfl,n9.2⟩⟩
 replace h5:=of_decide_eq_true (by simpa using h5)
 have n9:zs≠[]∧Cm=0:=by rcases he with ⟨_,h⟩|h;omega;exact h
 refine zD 5<|jc (vs:=[.slice pN zs.length mY]) [] (hCt (show bJ _ _ _ _ _ from ⟨pN,Hu,Hs,mY,rfl,Ht,An,Am⟩) (by omega) hpr) ?_
 rintro _ _ ⟨rfl,rfl⟩
 refine jg 0 []<|jn fun b8=>jd 16 [0]<|jl (b:=f14) (off:=0) (m:=13) (vs:=[d0,d1,d2,d3,d4,d5,.slice fC K.before.length eO,.slice fD K.after.length eQ,zI K.gone,zI K.new,zI K.af,d8,d9]) 6 ⟨_,_,_,.inl (mI _ _ hf),rfl⟩<|zD 4<|dH [1,1,1,1,1,0,1,0,0] [] (fun(zz:Nat×Bool×Int×Int×Int)=>[(2,zI zz.2.2.1),(3,zI zz.2.2.2.1),(4,zI zz.2.2.2.2),(5,zI Cm),(6,zP f14),(7,.slice pN zs.length mY),(8,zP b8),(9,.bool zz.2.1),(31,zI (K.before.length:Int)),(32,zI (zz.1:Int))]) (fun zz=>[.b b8 (.cells ⟨[zI ((az zs).c 0 0),zI ((az zs).c 0 1),zI ((az zs).c 0 2),zI ((az zs).c 0 3),zI ((az zs).c 1 0),zI ((az zs).c 1 1),zI ((az zs).c 1 2),zI ((az zs).c 1 3),zI ((az zs).c 2 0),zI ((az zs).c 2 1),zI ((az zs).c 2 2),zI ((az zs).c 2 3),zI ((az zs).c 3 0),zI ((az zs).c 3 1),zI ((az zs).c 3 2),zI ((az zs).c 3 3)]⟩ 158 (0,0)),.b b1 (.cells ⟨[v0,v1,.slice fa 0 fc,v3,v4,v5,v6,v7,zI K.gone,zI K.new,zI K.af,vb]⟩ 38 (0,0)),.l fr]) (fun zz=>zz.1≤K.before.length∧(⟨zz.2.1,zz.2.2.1,zz.2.2.2.1,zz.2.2.2.2⟩:xZ)=(adr (az zs) ((zs.length:Nat):Int) K.after.length zz.1)) (fun zz=>K.before.length-zz.1) (⟨0,false,0,0,((zs.length:Nat):Int)⟩) ⟨by dsimp only;omega,rfl⟩ [0,1,2] ?_
 rintro⟨i,qf,qa,qb,qw⟩ hI K1 bP rest
 dsimp only at hI
 refine zD 5<|zJ 33 ((i:Int) <(K.before.length:Int)) (fun h6=>?_) fun h6=>?_
 ·
  refine zD 15<|jl (b:=f14) (off:=0) (m:=13) (vs:=[d0,d1,d2,d3,d4,d5,.slice fC K.before.length eO,.slice fD K.after.length eQ,zI K.gone,zI K.new,zI K.af,d8,d9]) 7 ⟨_,_,_,.inl (mI _ _ hf),rfl⟩<|zD 4<|dH [1,1,1,1,1,0,1,0,0,1,1,0,0,1,1,0,0] [K1] (fun(zz:Nat×Bool×Int×Int×Int)=>[(2,zI zz.2.2.1),(3,zI zz.2.2.2.1),(4,zI zz.2.2.2.2),(5,zI Cm),(6,zP f14),(7,.slice pN zs.length mY),(8,zP b8),(9,.bool zz.2.1),(10,zI (i:Int)),(31,zI (K.before.length:Int)),(32,zI (i:Int)),(40,zI (K.after.length:Int)),(41,zI (zz.1:Int))]) (fun zz=>[.b b8 (.cells ⟨[zI ((az zs).c 0 0),zI ((az zs).c 0 1),zI ((az zs).c 0 2),zI ((az zs).c 0 3),zI ((az zs).c 1 0),zI ((az zs).c 1 1),zI ((az zs).c 1 2),zI ((az zs).c 1 3),zI ((az zs).c 2 0),zI ((az zs).c 2 1),zI ((az zs).c 2 2),zI ((az zs).c 2 3),zI ((az zs).c 3 0),zI ((az zs).c 3 1),zI ((az zs).c 3 2),zI ((az zs).c 3 3)]⟩ 158 (0,0)),.b b1 (.cells ⟨[v0,v1,.slice fa 0 fc,v3,v4,v5,v6,v7,zI K.gone,zI K.new,zI K.af,vb]⟩ 38 (0,0)),.l fr]) (fun zz=>zz.1≤K.after.length∧(⟨zz.2.1,zz.2.2.1,zz.2.2.2.1,zz.2.2.2.2⟩:xZ)=(Cy (az zs) ((zs.length:Nat):Int) i (adr (az zs) ((zs.length:Nat):Int) K.after.length i) zz.1)) (fun zz=>K.after.length-zz.1) (⟨0,qf,qa,qb,qw⟩) ⟨by dsimp only;omega,hI.2⟩ [0,1,2] ?_
  rintro⟨j,qf,qa,qb,qw⟩ hJ K2 lL rest
  dsimp only at hJ
  refine zD 5<|zJ 42 ((j:Int) <(K.after.length:Int)) (fun h7=>?_) fun h7=>?_
  ·
   refine zD 10 ?_
   have iY:=Ez zs i j
   refine zD 3<|JM (b:=b8) (off:=0) (len:=4) (sz:=4) (i:Int) (by omega)<|JM (b:=b8) (off:=0+(i:Int).toNat*4) (len:=4) (sz:=1) (j:Int) (by omega)<|n7 (b:=b8) (off:=0+(i:Int).toNat*4+(j:Int).toNat*1) (m:=1) (vs:=[zI ((az zs).c i j)]) 0 [0] [(b8,.cells ⟨[zI ((az zs).c 0 0),zI ((az zs).c 0 1),zI ((az zs).c 0 2),zI ((az zs).c 0 3),zI ((az zs).c 1 0),zI ((az zs).c 1 1),zI ((az zs).c 1 2),zI ((az zs).c 1 3),zI ((az zs).c 2 0),zI ((az zs).c 2 1),zI ((az zs).c 2 2),zI ((az zs).c 2 3),zI ((az zs).c 3 0),zI ((az zs).c 3 1),zI ((az zs).c 3 2),zI ((az zs).c 3 3)]⟩ 158 (0,0))] (fun s _ hZ=>qI (hZ _ (.head _)) (BK (m:=az zs) (by omega) (by omega)))<|zD 4<|JM (b:=b8) (off:=0) (len:=4) (sz:=4) (i:Int) (by omega)<|JM (b:=b8) (off:=0+(i:Int).toNat*4) (len:=4) (sz:=1) (j:Int) (by omega)<|n7 (b:=b8) (off:=0+(i:Int).toNat*4+(j:Int).toNat*1) (m:=1) (vs:=[zI ((az zs).c i j)]) 0 [0] [(b8,.cells ⟨[zI ((az zs).c 0 0),zI ((az zs).c 0 1),zI ((az zs).c 0 2),zI ((az zs).c 0 3),zI ((az zs).c 1 0),zI ((az zs).c 1 1),zI ((az zs).c 1 2),zI ((az zs).c 1 3),zI ((az zs).c 2 0),zI ((az zs).c 2 1),zI ((az zs).c 2 2),zI ((az zs).c 2 3),zI ((az zs).c 3 0),zI ((az zs).c 3 1),zI ((az zs).c 3 2),zI ((az zs).c 3 3)]⟩ 158 (0,0))] (fun s _ hZ=>qI (hZ _ (.head _)) (BK (m:=az zs) (by omega) (by omega)))<|zW ((zs.length:Int)-((az zs).c i j))<|jmx (k:= .i64) (a:=((az zs).c i j)) (b:=((zs.length:Int)-((az zs).c i j)))<|zD 8<|zJ 60 ((max ((az zs).c i j) ((zs.length:Int)-((az zs).c i j))) <qw) (fun h8=>?_) fun h8=>?_
   ·
    refine zD 11<|zW ((j:Int)+1)<|zD 2<|zF lL (⟨j+1,true,(i:Int),(j:Int),(max ((az zs).c i j) ((zs.length:Int)-((az zs).c i j)))⟩) (az1 hJ.2 (by assumption)) [0,1,2]
   refine zD 3<|zW ((j:Int)+1)<|zD 2<|zF lL (⟨j+1,qf,qa,qb,qw⟩) (alo hJ.2 (by assumption)) [0,1,2]
  refine zD 3<|zW ((i:Int)+1)<|zD 2<|zF bP (⟨i+1,qf,qa,qb,qw⟩) (by have:=hJ.2;rw[show j=K.after.length by omega] at this;exact this) [0,1,2]
 refine zD 8<|js 67 (!qf) (fun h9=>?_) (fun h9=>?_)
 ·
  try simp only[zB] at h9
  refine zD 9<|Qd qC.a.a (.tuple ⟨[zI 0,zI 0,zI 0,zI 11]⟩) [2] [] (cu.trans mI) ⟨zs,_,_,_,_,hz,rfl,rfl,.inr ⟨n9.1,by have:=hI.2;rw[show i=K.before.length by omega] at this;rw[←this];simp only[XT];cases qf<;>first|rfl|contradiction|simp_all⟩⟩
 try simp only[zB] at h9
 refine zD 13<|Qd qC.a.a (.tuple ⟨[zI qa,zI qb,zI qw,zI 0]⟩) [2] [] (cu.trans mI) ⟨zs,_,_,_,_,hz,rfl,rfl,.inr ⟨n9.1,by have:=hI.2;rw[show i=K.before.length by omega] at this;rw[←this];simp only[XT];cases qf<;>first|rfl|contradiction|simp_all⟩⟩
end Go.L
