/- Part 11 of the proof: a program logic, contracts, a theorem on goroutines. -/
import Derived.Test.YtjpghiajlddegaaGreatDoorL10
import Derived.KernelRfl
import Derived.Lib.UnsafeStr
import Derived.Test.YtjpghiajlddegaaGreatDoorProg
set_option maxRecDepth 100000
set_option linter.all false
namespace Go.L
open Go Go.Conc
variable {xs:List Int} {α β:Type} {Φ:Value→(Nat→Option Obj)→Cells→Prop} {vd vm s0 s1 s2 t0 t1 ru vb va:Value} {X fr:Cells} {d k i sz b bu:Nat} {oM:Nat→Option Obj} {n many lo hi af gone new:Int} {P:Program} {o:Option JS} {args:List Value} {f:FuncId} {E:TypeId} {nm:ByteArray} {ag:Bool}
def rnM(P:Program):Sem α→List Nat→Cells→List (Nat×Nat)→Option (α×Cells×List (Nat×Nat))
 | .pure a,_,B,q=>some (a,B,q)
 | .load m a k,h::hs,B,q=>match m,a.spot,B[h]? with
  | .plain,none,some (b,.cells c _ _)=>match c[a.off]? with
   |some v=>rnM P (k v) hs B ((a.block,b)::q)
   |none=>none
  |_,_,_=>none
 | .shape r k,h::hs,B,q=>match B[h]? with
  |some (b,o)=>rnM P (k (Obj.shapeOf o)) hs B ((r,b)::q)
  |none=>none
 | .program k,hs,B,q=>rnM P (k P) hs B q
 |_,_,_,_=>none
theorem aos:∀(m:Sem α) {hs:List Nat} {B B':Cells} {q q':List (Nat×Nat)} {v:α},rnM P m hs B q=some (v,B',q')→(∀p∈q',p.1=p.2)→
 (∀p∈q,p∈q')∧B'=B∧∀(s:St) (Q:α→St→Prop) (E:Halt→St→Prop),(∀x∈B,s.has x.1 x.2)→Q v s→bG P m s Q E:=by
 intro m
 induction m with
 |pure a=>intro hs B B' q q' v h _;simp only[rnM,Option.some.injEq,Prod.mk.injEq] at h;obtain⟨rfl,rfl,rfl⟩:=h;exact⟨fun _ h=>h,rfl,fun _ _ _ _ h=>h⟩
 |load m a k ih=>
  intro hs B B' q q' v h hq
  cases hs with
  |nil=>cases h
  |cons j hs=>
   unfold rnM at h
   split at h<;>try (cases h;done)
   rename_i b c t fz Mk hB
   split at h<;>try (cases h;done)
   rename_i u hu
   obtain⟨h1,h2,h3⟩:=ih _ h hq
   have Ea:a.block=b:=hq _ (h1 _ List.mem_cons_self)
   refine⟨fun p hp=>h1 p (List.mem_cons_of_mem _ hp),h2,fun s Q E hs hQ=>⟨rfl,Mk,c,t,fz,u,?_,hu,h3 s Q E hs hQ⟩⟩
   rw[Ea];exact hs _ (List.mem_of_getElem? hB)
 |shape r k ih=>
  intro hs B B' q q' v h hq
  cases hs with
  |nil=>cases h
  |cons j hs=>
   simp only[rnM] at h
   split at h<;>try (cases h;done)
   rename_i b o hB
   obtain⟨h1,h2,h3⟩:=ih _ h hq
   have Ea:r=b:=hq _ (h1 _ List.mem_cons_self)
   refine⟨fun p hp=>h1 p (List.mem_cons_of_mem _ hp),h2,fun s Q E hs hQ=>⟨o,?_,h3 s Q E hs hQ⟩⟩
   rw[Ea];exact hs _ (List.mem_of_getElem? hB)
 |program k ih=>
  intro hs B B' q q' v h hq
  simp only[rnM] at h
  exact ih _ h hq
 |store=>intro hs B B' q q' v h hq;cases hs<;>cases h
 |new=>intro hs B B' q q' v h hq;cases hs<;>cases h
 |freeze=>intro hs B B' q q' v h hq;cases hs<;>cases h
 |frozen=>intro hs B B' q q' v h hq;cases hs<;>cases h
 |getObj=>intro hs B B' q q' v h hq;cases hs<;>cases h
 |setObj=>intro hs B B' q q' v h hq;cases hs<;>cases h
 |choose=>intro hs B B' q q' v h hq;cases hs<;>cases h
 |sys=>intro hs B B' q q' v h hq;cases hs<;>cases h
 |mark=>intro hs B B' q q' v h hq;cases hs<;>cases h
 |halt=>intro hs B B' q q' v h hq;cases hs<;>cases h
def aaj:Op→Option (List Operand)
 | .call ⟨.builtin _,xs,_⟩=>some xs.toList
 |op=>EX op
theorem M6{o:Oper}{xs:List Operand}(h:aaj o.op=some xs){f g:Operand→Value}(hfg:∀x∈xs,f x=g x):execOp f o=execOp g o:=by
 unfold aaj at h
 split at h
 ·rename_i b xs at_ heq
  simp only[Option.some.injEq] at h;subst h
  have:xs.map f=xs.map g:=Array.map_congr_left fun a ha=>hfg a (by simpa using ha)
  simp only[execOp,heq,resolve,this]
 ·exact tt h hfg
def smV(P:Program)(n:Nat)(hs:List Nat)(B:Cells)(p:Oper)(e:Env):Option (Value×List (Nat×Nat)):=match aaj p.op with
 |some xs=>match xq n e xs with
  |some _=>match rnM P (execOp (evj n e) p) hs B [] with
   |some (.value v,_,q)=>some (v,q)
   |_=>none
  |none=>none
 |none=>none
theorem AW{γ:Type}{n:Nat}{f:Oper→Env→Option β}{g:β→γ}:eR n (fun p e=>(f p e).map g) o=(eR n f o).map g:=by
 unfold eR
 split
 ·unfold du
  dsimp only
  split<;>rfl
 ·rfl
def smA(P:Program)(n:Nat)(hs:List Nat)(B:Cells)(p:Oper)(e:Env):Option Value:=(smV P n hs B p e).map (·.1)
def smL(P:Program)(n:Nat)(hs:List Nat)(B:Cells)(p:Oper)(e:Env):Option (List Nat):=(smV P n hs B p e).map fun x=>SK x.2
def smR(P:Program)(n:Nat)(hs:List Nat)(B:Cells)(p:Oper)(e:Env):Option (List Nat):=(smV P n hs B p e).map fun x=>QB x.2
section
variable {X:Cx} {o:Option JS}
theorem jmo(ps hs:List Nat)(B:Cells)(v:Value)(hj:J X (mH ps v B o))(hv:eR X.n (smA X.P X.n hs B) o=some v:=by kernel_rfl)(hq:eR X.n (smL X.P X.n hs B) o=eR X.n (smR X.P X.n hs B) o:=by kernel_rfl)(hB:dN ps o=some B:=by kernel_rfl):J X o:=by
 rw[show smA X.P X.n hs B=fun p e=>(smV X.P X.n hs B p e).map (·.1) from rfl,AW] at hv
 rw[show smL X.P X.n hs B=fun p e=>(smV X.P X.n hs B p e).map (fun x=>SK x.2) from rfl,show smR X.P X.n hs B=fun p e=>(smV X.P X.n hs B p e).map (fun x=>QB x.2) from rfl,AW,AW] at hq
 cases hx:eR X.n (smV X.P X.n hs B) o with
 |none=>rw[hx] at hv;cases hv
 |some x=>
  rcases x with ⟨v',q⟩
  rw[hx] at hv hq
  simp only[Option.map_some,Option.some.injEq] at hv hq
  subst hv
  refine jS (Φ:=fun u L'=>u=v'∧L'=B) ps B hx hB (fun p e hf=>?_) (fun u L' pR=>by obtain⟨rfl,rfl⟩:=pR;exact hj)
  unfold smV at hf
  split at hf<;>try (cases hf;done)
  rename_i xs ax
  split at hf<;>try (cases hf;done)
  rename_i ws P7
  split at hf<;>try (cases hf;done)
  rename_i u B' q2 bN
  simp only[Option.some.injEq,Prod.mk.injEq] at hf
  obtain⟨rfl,rfl⟩:=hf
  refine⟨fun c hc=>?_,fun R Q E hQ=>?_⟩
  ·rw[hc] at ax;cases ax
  ·rw[M6 ax (Lc (f:=ev X.n e) (fun x v h=>aC h) P7)]
   obtain⟨_,_,h3⟩:=aos _ bN (lJ hq)
   exact h3 _ _ _ (fun x hx=> .inr (List.mem_append_left _ hx)) (hQ _ _ ⟨rfl,rfl⟩)
theorem Gt:∀(n t:Nat) (acc:Array Value),(Extern.BytealgMakeNoZero.digits n t acc).size=acc.size+n
 |0,_,_=>rfl
 |n+1,t,acc=>by
  simp only[Extern.BytealgMakeNoZero.digits,Gt n,Array.size_push];omega
theorem jnz{ps rs:Array TypeId}{T:TypeId}{n:Nat}{z:List Value}(ef:EF X.P f (Extern.BytealgMakeNoZero.makeNoZero ps rs))(hT:rs[0]?=some T) (tf:TF X.P T (.slice E) sz bu z ag) (hn:n≤1000)
 (hj:∀b l,n≤l.length→J X (mH [] (.slice (some ⟨b,0,none⟩) n l.length) [(b,.cells ⟨l⟩ E (0,0))] o)) (hv:eR X.n (afa X.n) o=some (f,[.int .i64 (n:Int)]):=by kernel_rfl) (hB:dN [] o=some []:=by kernel_rfl):J X o:=by
 obtain⟨ops,i,todo,k,e,w,kn,p,rfl,ho,hw,hc⟩:=db hv
 obtain⟨xs,at_,ax,hx⟩:=La hc
 intro bP
 rcases p with ⟨dst,op,ty,pos,cS,g⟩
 dsimp only at ax;subst ax
 refine abb X.hC ho hw ef hx ?_
 have eM:Extern.BytealgMakeNoZero.makeNoZero ps rs ⟨[Value.int .i64 (n:Int)]⟩=(do
  let some t:=rs[0]?|stuck "bytealg.MakeNoZero: no result type"
  let .slice elem ←underlying t|stuck "bytealg.MakeNoZero: slice type expected"
  if (n:Int) <0||(n:Int)>2^48 then runtimePanic (.error "makeslice: len out of range")
  let cap ←choose (.appendCap (n:Int).toNat 0 elem)
  askRoom cap
  let bytes ←choose (.extern "internal/bytealg.MakeNoZero.bytes" 0)
  let a ←newRow elem (Extern.BytealgMakeNoZero.digits cap bytes #[])
  pure (.slice (some a) (n:Int).toNat cap)):=rfl
 rw[eM]
 simp only[hT,aW tf]
 rw[if_neg (by simp only[Bool.or_eq_true,decide_eq_true_eq];omega)]
 refine ZU rfl fun q=>?_
 refine rQ ?_
 show (if (Question.extern "internal/bytealg.MakeNoZero.bytes" 0).forced=true then _ else _)
 have key:∀cap bytes,n≤cap→bG X.P (newRow E (Extern.BytealgMakeNoZero.digits cap bytes #[]) >>= fun a=>pure (Value.slice (some a) ((n:Int).toNat) cap)) ⟨X.ro,den w⟩ (fun v s'=>ab X.C X.fn X.ay ops todo (KQ X k) (A X.n (upd dst v e) X.D) s') (fun _ _=>False):=by
  intro cap bytes nV
  rw[iM]
  intro b hb
  have hl:(Extern.BytealgMakeNoZero.digits cap bytes #[]).toList.length=cap:=by
   rw[Array.length_toList,Gt];simp
  have:=hj b (Extern.BytealgMakeNoZero.digits cap bytes #[]).toList (by omega)
  rw[nG ho] at this
  have:=this bP
  simp only[JP,fY,hl,wM] at this
  exact this
 split
 ·exact key _ _ (by show n≤(n:Int).toNat+_;rw[Int.toNat_natCast];exact Nat.le_add_right _ _)
 ·exact fun q2=>key _ _ (by show n≤(n:Int).toNat+_;rw[Int.toNat_natCast];exact Nat.le_add_right _ _)
def sdV(n:Nat)(p:Oper)(e:Env):Option (Addr×Nat×Nat):=match p.op with
 | .call ⟨.builtin .unsafeSliceData,xs,_⟩=>match xq n e xs.toList with
  |some [.slice (some a) l c]=>some (a,l,c)
  |_=>none
 |_=>none
theorem jsd{a:Addr}{l c:Nat}(h:c≠0)(hj:J X (mH [] (.pointer (some a)) [] o))(hv:eR X.n (sdV X.n) o=some (a,l,c):=by kernel_rfl)(hB:dN [] o=some []:=by kernel_rfl):J X o:=by
 refine jS (Φ:=fun u L'=>u= .pointer (some a)∧L'=[]) [] [] hv hB (fun p e hf=>?_) (fun u L' pR=>by obtain⟨rfl,rfl⟩:=pR;exact hj)
 unfold sdV at hf
 split at hf<;>try (cases hf;done)
 rename_i xs at_ ax
 split at hf<;>try (cases hf;done)
 rename_i a' l' c' hx
 simp only[Option.some.injEq,Prod.mk.injEq] at hf
 obtain⟨rfl,rfl,rfl⟩:=hf
 refine⟨by rw[ax];simp,fun R Q E hQ=>?_⟩
 have e1:Builtin.unsafeSliceData_ at_ p.type ⟨[.slice (some a') l' c']⟩=pure (.pointer (some a')):=by
  show (if c'≠0 then _ else _)=_
  rw[if_pos h]
 simp only[execOp,ax,resolve,rF (show uO X.n e xs=_ from hx),ae,invoke,builtin,e1]
 exact hQ _ _ ⟨rfl,rfl⟩
def usV(P:Program)(n:Nat)(p:Oper)(e:Env):Option (Nat×TypeId):=match p.op with
 | .call ⟨.builtin .unsafeString,xs,at_⟩=>match at_[0]? with
  |some pt=>match aV P pt with
   |some ⟨.pointer E,_,_,_⟩=>bif Nat.beq (P.cellsOf E) 1 then (match xq n e xs.toList with
    |some [.pointer (some ⟨b,0,none⟩),.int .i64 1]=>some (b,E)
    |_=>none) else none
   |_=>none
  |none=>none
 |_=>none
theorem jus(ps:List Nat)(x:Int)(l:List Value)(hj:∀L',J X (mH ps (.string ⟨#[x.toNat.toUInt8]⟩) L' o))(hv:eR X.n (usV X.P X.n) o=some (b,E):=by kernel_rfl)(hB:dN ps o=some [(b,.cells ⟨.int .u8 x::l⟩ E (0,0))]:=by kernel_rfl):J X o:=by
 refine jS (Φ:=fun u L'=>u= .string ⟨#[x.toNat.toUInt8]⟩) ps _ hv hB (fun p e hf=>?_) (fun u L' pR=>by subst pR;exact hj L')
 unfold usV at hf
 split at hf<;>try (cases hf;done)
 rename_i xs at_ ax
 split at hf<;>try (cases hf;done)
 rename_i pt hpt
 split at hf<;>try (cases hf;done)
 rename_i E' _ _ _ dI
 cases hc:Nat.beq (X.P.cellsOf E') 1 with
 |false=>rw[hc] at hf;cases hf
 |true=>
  rw[hc] at hf
  simp only[cond_true] at hf
  split at hf<;>try (cases hf;done)
  rename_i b' hx
  simp only[Option.some.injEq,Prod.mk.injEq] at hf
  obtain⟨rfl,rfl⟩:=hf
  have hc:=Nat.eq_of_beq_eq_true hc
  obtain⟨bu,tf⟩:=ar dI
  refine⟨by rw[ax];simp,fun R Q Er hQ=>?_⟩
  have e1:Builtin.unsafeString_ at_ p.type ⟨[.pointer (some ⟨b',0,none⟩),.int .i64 1]⟩=(do
   let n ←asInt (.int .i64 1)
   let some pt:=at_[0]?|stuck "unsafe.String: no argument types"
   if n <0 then runtimePanic (.error "unsafe.String: len out of range")
   if n>IntKind.i64.max then unsupported (.unsafePointer "String: a length above the largest int")
   if n=0 then pure (.string .empty)
   else if ←variablesAt ⟨b',0,none⟩ (←elemOf pt) n.toNat then do
    let s ←loadBytes ⟨b',0,none⟩ .empty n.toNat
    freeze ⟨b',0,none⟩ n.toNat
    pure (.string s)
   else unsupported (.unsafePointer "String: not so many bytes at ptr")):=rfl
  simp only[execOp,ax,resolve,rF (show uO X.n e xs=_ from hx),ae,invoke,builtin,e1]
  simp only[asInt,asIntOf,aa,ae,hpt,show ¬((1:Int) <0) by omega,show ¬((1:Int)>IntKind.i64.max) by decide,show ¬((1:Int)=0) by omega,if_false,elemOf,aW tf,variablesAt,eI]
  have hs:(⟨X.ro,[(b',Obj.cells ⟨Value.int .u8 x::l⟩ E' (0,0))]++R⟩:St).rw=[]++(b',Obj.cells ⟨Value.int .u8 x::l⟩ E' (0,0))::R:=rfl
  have hm:(⟨X.ro,[(b',Obj.cells ⟨Value.int .u8 x::l⟩ E' (0,0))]++R⟩:St).has b' (.cells ⟨Value.int .u8 x::l⟩ E' (0,0)):= .inr (by rw[hs];exact e9)
  refine⟨_,hm,?_⟩
  have azC:=Go.Lib.liesAt_bytes (P:=X.P) hc ((Value.int .u8 x::l).length / X.P.cellsOf E') 1 (by rw[hc];simp)
  have pb:∀ {α β:Type} (a:α) (f:α→Sem β),(Sem.pure a).bind f=f a:=fun _ _=>rfl
  simp only[Obj.shapeOf,List.size_toArray,aa,ae,pb]
  rw[show (1:Int).toNat=1 from rfl,azC]
  simp only[ae,aa,if_true,loadBytes]
  refine⟨rfl,rfl,_,_,_,.int .u8 x,hm,rfl,?_⟩
  simp only[aa,ae]
  refine(if_neg (by omega:¬(1:Nat)=0)).mpr ?_
  refine⟨[],_,R,hs,?_⟩
  exact hQ (.string ⟨#[x.toNat.toUInt8]⟩) [(b',_)] rfl
def pnV(P:Program)(n:Nat)(p:Oper)(e:Env):Option (Nat×Nat):=match p.op with
 | .binOp .neq T x y _=>match aV P T with
  |some ⟨.pointer E,_,_,_⟩=>match aV P E with
   |some te=>bif Nat.blt 0 te.size then (match ba n e x with
    |some (.pointer (some ⟨b,0,none⟩))=>match ba n e y with
     |some (.pointer (some ⟨c,0,none⟩))=>some (b,c)
     |_=>none
    |_=>none) else none
   |none=>none
  |_=>none
 |_=>none
theorem aku{dep:Nat}{t:TypeId}{sz2 Av:Nat}{z z2:List Value}{ag2:Bool}(tf:TF P t (.pointer E) sz bu z ag){d:TypeDesc}(qo:TF P E d sz2 Av z2 ag2)(hs:sz2≠0)(a:Addr):YH P (dep+1) t (.pointer (some a)) (.pointer (some a)) true:=by
 intro α s kk Q Er
 simp only[Op.equalIn,aa,aW tf,bW qo,hs,ne_eq,not_false_eq_true,if_true,sameAddr,beq_self_eq_true,ae]
theorem jpn(hj:J X (mH [] (.bool false) [] o))(hv:eR X.n (pnV X.P X.n) o=some (b,b):=by kernel_rfl)(hB:dN [] o=some []:=by kernel_rfl):J X o:=by
 refine jS (Φ:=fun u L'=>u= .bool false∧L'=[]) [] [] hv hB (fun p e hf=>?_) (fun u L' pR=>by obtain⟨rfl,rfl⟩:=pR;exact hj)
 unfold pnV at hf
 split at hf<;>try (cases hf;done)
 rename_i T x y T2 ax
 split at hf<;>try (cases hf;done)
 rename_i E' _ _ _ dI
 split at hf<;>try (cases hf;done)
 rename_i te tJ
 cases hc:Nat.blt 0 te.size with
 |false=>rw[hc] at hf;cases hf
 |true=>
  rw[hc] at hf
  simp only[cond_true] at hf
  split at hf<;>try (cases hf;done)
  rename_i b' hx
  split at hf<;>try (cases hf;done)
  rename_i c' hy
  simp only[Option.some.injEq,Prod.mk.injEq] at hf
  obtain⟨rfl,rfl⟩:=hf
  obtain⟨bu,tf⟩:=ar dI
  obtain⟨Av,qo⟩:=ar tJ
  have hc:0 <te.size:=by rwa[Nat.blt_eq] at hc
  refine⟨by rw[ax];simp,fun R Q Er hQ=>?_⟩
  have hs:te.size≠0:=by omega
  simp only[execOp,ax,aC hx,aC hy,eqGuard,aa,binOp,Op.equal,Op.maxDepth]
  simp only[Bool.not_true,Bool.false_eq_true,if_false,ae,aa]
  rw[aku (dep:=9999) tf qo hs]
  exact hQ _ _ ⟨rfl,rfl⟩
end
attribute [irreducible] smV smA smL smR sdV usV pnV
section
variable {X:Cx} {o:Option JS}
def s0V(P:Program)(n:Nat)(p:Oper)(e:Env):Option (Addr×Nat×Nat):=match p.op with
 | .slice T x none (some y) none=>match aV P T with
  |some ⟨.slice E,_,_,_⟩=>match aV P E with
   |some _=>match ba n e x with
    |some (.slice (some ⟨b,0,none⟩) l c)=>match ba n e y with
     |some (.int .i64 0)=>some (⟨b,0,none⟩,l,c)
     |_=>none
    |_=>none
   |none=>none
  |_=>none
 |_=>none
theorem js0{a:Addr}{l c:Nat}(hj:J X (jN (.slice (some a) 0 c) o))(hv:du X.n (s0V X.P X.n) o=some (a,l,c):=by kernel_rfl):J X o:=by
 refine jG hv (fun s p e ho hh hf=>?_) hj
 unfold s0V at hf
 split at hf<;>try (cases hf;done)
 rename_i T x y ax
 split at hf<;>try (cases hf;done)
 rename_i E _ _ _ dI
 split at hf<;>try (cases hf;done)
 rename_i te tJ
 split at hf<;>try (cases hf;done)
 rename_i b l' c' hx
 split at hf<;>try (cases hf;done)
 rename_i hy
 simp only[Option.some.injEq,Prod.mk.injEq] at hf
 obtain⟨rfl,rfl,rfl⟩:=hf
 obtain⟨bu,tf⟩:=ar dI
 obtain⟨Av,qo⟩:=ar tJ
 have key:∀s,Yields X.P X.n e p s (.slice (some ⟨b,0,none⟩) 0 c'):=by
  intro s s' mG f hf K E hK
  have hb:(0:Int)≤0∧(0:Int)≤(c':Int):=by omega
  simp only[execOp,ax,Option.map_some,Option.map_none,Instr.sliceAt,Instr.slice,hf _ _ hx,hf _ _ hy,aa,aW tf,Instr.sliceBounds,Instr.sliceBound,asIntOf,ae,hb,and_self,if_true,bW qo]
  have he:(if c'=0 then (some ⟨b,0,none⟩:Option Addr) else some ((⟨b,0,none⟩:Addr).add (0*te.size)))=some ⟨b,0,none⟩:=by
   split
   ·rfl
   ·simp[dG]
  rw[show (0:Int).toNat=0 from rfl,he]
  exact hK
 exact⟨by rw[ax];rfl,fun _=>key _,fun _=>key⟩
end
attribute [irreducible] s0V
section
variable {X:Cx} {o:Option JS}
def cpV(P:Program)(n:Nat)(p:Oper)(e:Env):Option Nat:=match p.op with
 | .call ⟨.builtin .cap,⟨[x]⟩,⟨[T]⟩⟩=>match aV P T with
  |some ⟨.slice _,_,_,_⟩=>match ba n e x with
   |some (.slice _ _ c)=>some c
   |_=>none
  |_=>none
 |_=>none
theorem jcp{c:Nat}(hj:J X (jN (.int .i64 (c:Int)) o))(hv:du X.n (cpV X.P X.n) o=some c:=by kernel_rfl):J X o:=by
 refine jG hv (fun s p e ho hh hf=>?_) hj
 unfold cpV at hf
 split at hf<;>try (cases hf;done)
 rename_i x T ax
 split at hf<;>try (cases hf;done)
 rename_i dI
 split at hf<;>try (cases hf;done)
 rename_i a l c' hx
 simp only[Option.some.injEq] at hf
 subst hf
 obtain⟨bu,tf⟩:=ar dI
 have key:∀s,Yields X.P X.n e p s (.int .i64 (c':Int)):=by
  intro s s' mG f hf K E hK
  simp only[execOp,ax,resolve,invoke,builtin,List.map_toArray,List.map_cons,List.map_nil,hf _ _ hx,ae,aa,Builtin.cap_,List.getElem?_toArray,List.getElem?_cons_zero,aW tf]
  exact hK
 exact⟨by rw[ax];rfl,fun _=>key _,fun _=>key⟩
end
attribute [irreducible] cpV
def tkO(is:List Nat)(o:Option JS):List Sg:=(qE is o).getD []
theorem aMz{X:Cx}{ι:Type}(is:List Nat)(p:List Nat)(Ks:List (Act→St→Prop))(ef:ι→Env)(wf:ι→List Sg)(Inv:ι→Prop)(μ:ι→Nat)(i0:ι)(h0:Inv i0)(ps:List Nat)(hb:∀i,Inv i→∀K,wo X K ef (fun i=>wf i++tkO is o) Inv μ (μ i)→∀rest,J X (stW X.P X.fn p (Ks++[K]) (ef i++rest) (wf i++tkO is o)))
 (h1:ug (oI (ef i0)) o=some (ef i0):=by kernel_rfl)(hd:∀i,YO (oI (ef i)) (ef i)=some (ef i):=by intro _;kernel_rfl)(h2:qE ps o=some (wf i0++tkO is o):=by kernel_rfl)(hp:∀K,HZ X.P X.fn p (Ks++[K])=lpB K (xH o):=by intro _;kernel_rfl):J X o:=
 ez p Ks ef (fun i=>wf i++tkO is o) Inv μ i0 h0 ps hb h1 hd h2 hp
attribute [irreducible] tkO
abbrev RCG(ro:Nat→Option Obj)(Φ:Value→(Nat→Option Obj)→Cells→Prop)(fr:Cells):Ending→St→Prop:=fun en s'=>∃v aK Y,en= .returned v∧Sub ro aK∧(⟨aK,Y++fr⟩:St).le s'∧Φ v aK Y
def atE(P:Program)(f:FuncId)(args:List Value)(ro:Nat→Option Obj)(own:Cells)(Φ:Value→(Nat→Option Obj)→Cells→Prop):Prop:=
 ∀fr,Fn (C0 P) P f ⟨args⟩ ⟨ro,own++fr⟩ (RCG ro Φ fr)
theorem ayk(hm:P.follows .mixedOrders=true){ro:Nat→Option Obj}{L:Cells}(own:List Sg)(kn:Cells)(hk:Knows ro kn)(h:∀fr,J (XC P hm f ro (RCG ro Φ fr)) (ky P f args (own++[.l fr]) kn))(hL:den own=L:=by rfl):atE P f args ro L Φ:=by
 subst hL
 intro fr
 have h:=h fr
 unfold ky at h
 split at h<;>try exact h.elim
 rename_i fn hf
 split at h<;>try exact h.elim
 rename_i c hc
 cases hl:Nat.ble args.length fn.ntmps with
 |false=>rw[hl] at h;exact h.elim
 |true=>
  rw[hl] at h
  have uA:sG P f=fn:=by simp only[sG,hf]
  have:=h hk
  simp only[JP,XC,KQ,uA] at this
  have hd:den (own++[.l fr])=den own++fr:=by rw[kV];rfl
  rw[hd] at this
  exact Jb wQ hf hc hl this
section
variable {X:Cx} {o:Option JS}
theorem acj{vs:List Value}{own:Cells}(ps:List Nat)(hC:∀main T,X.C main T→C0 X.P main T)(hf:atE X.P f vs X.ro own Φ)(hj:∀v aK Y,Sub X.ro aK→Φ v aK Y→J (X.at aK) (mH ps v Y o))(h1:eR X.n (xK X.P X.n) o=some (f,vs):=by kernel_rfl)(h2:dN ps o=some own:=by kernel_rfl):J X o:=by
 obtain⟨ops,i,todo,k,e,w,kn,p,rfl,ho,hw,hc⟩:=db h1
 obtain⟨ff,x,xs,at_,fi,ca,ws,ax,hx,rq,rfl⟩:=qg hc
 intro bP
 rcases p with ⟨dst,op,ty,pos,cS,g⟩
 dsimp only at ax;subst ax
 have hp:=bB h2
 have uA:Fn X.C X.P f ⟨fi++ws++ca⟩ ⟨X.ro,den w⟩ (RCG X.ro Φ (den (dj ps 0 w))):=fun main T hT c cs k1 k2=>
  (X.hC main T hT).mono _ ⟨X.ro,own++den (dj ps 0 w)⟩ _ (dH (J:=[]) (by rw[List.append_nil];exact hp) (Sub.refl _)) (Fn.weaken hC (hf _) main T hT c cs k1 k2)
 refine tE (fi:=⟨fi⟩) (ca:=⟨ca⟩) (ws:=fi++ws++ca) X.hC ho hw hx ff rq (PB fi ws ca) uA (fun v' s' hr=>?_) (fun ch s' hr=>by obtain⟨_,_,_,e,_⟩:=hr;cases e) (fun s' hr=>by obtain⟨_,_,_,e,_⟩:=hr;cases e)
 obtain⟨v,aK,Y,hv,hs,hle,pR⟩:=hr
 cases hv
 have:=hj _ aK Y hs pR
 rw[nG ho] at this
 have:=this (bP.up hs)
 simp only[JP,fY,GZ] at this
 exact this.more X.hC hle
theorem Kw{Φ:Value→Cells→Prop}(hq:QR X (RC oM fr Φ))(v:Value)(hs ps:List Nat)(Y:Cells)(fq:Sub oM X.ro)(hR:Φ v Y)(h1:sD (jD X.P X.n X.fn hs o)=some v:=by kernel_rfl)(h2:Qd (jD X.P X.n X.fn hs o)=Qc (jD X.P X.n X.fn hs o):=by kernel_rfl)(h3:dN ps o=some (Y++fr):=by kernel_rfl)(h4:BK o=true:=by kernel_rfl):J X o:=
 aE hq v hs ps (Y++fr) fq ⟨v,Y,rfl,St.le_refl _,hR⟩ h1 h2 h3 h4
theorem aMs{Φ:Value→Cells→Prop}(hq:QR X (RC oM fr Φ))(v:Value)(ps:List Nat)(A B:Cells)(fq:Sub oM X.ro)(hR:Φ v (A++B))(h1:sD (jD X.P X.n X.fn [] o)=some v:=by kernel_rfl)(h2:Qd (jD X.P X.n X.fn [] o)=Qc (jD X.P X.n X.fn [] o):=by kernel_rfl)(h3:dN ps o=some (A++(B++fr)):=by kernel_rfl)(h4:BK o=true:=by kernel_rfl):J X o:=
 aE hq v [] ps ((A++B)++fr) fq ⟨v,A++B,rfl,St.le_refl _,hR⟩ h1 h2 (by rw[h3,List.append_assoc]) h4
theorem aMr(hq:QR X (RCG oM Φ fr))(v:Value)(ps:List Nat)(Y:Cells)(fq:Sub oM X.ro)(hR:Φ v X.ro Y)(h1:sD (jD X.P X.n X.fn [] o)=some v:=by kernel_rfl)(h2:Qd (jD X.P X.n X.fn [] o)=Qc (jD X.P X.n X.fn [] o):=by kernel_rfl)(h3:dN ps o=some (Y++fr):=by kernel_rfl)(h4:BK o=true:=by kernel_rfl):J X o:=
 aE hq v [] ps (Y++fr) (Sub.refl _) ⟨v,X.ro,Y,rfl,fq,St.le_refl _,hR⟩ h1 h2 h3 h4
end
theorem QL{fn:Func}{c:Code}{R:Ending→St→Prop}{s:St}{os:Os}{out:Array (Nat×ByteArray)}{Post:Value→World→Prop}(hf:P.funcs[f]?=some fn) (hb:fn.body=some c) (hl:Nat.ble args.length fn.ntmps=true) (hi:P.inits.idxOf? f=none)
 (OJ:∀v s0 w,R (.returned v) s0→aP s0 w→w.os=os→w.output=out→Post v w) (IY:∀ch s,¬R (.panicked ch) s)
 (h:Wp (C0 P) f none c (qR P fn R) (A fn.ntmps (fG 0 args) []) s):T0 P os out Post (G (Frame.enter P f ⟨args⟩ .normal) []) s:=by
 have hT:C0 P true (T0 P os out Post):=⟨rfl,os,out,Post,rfl⟩
 have ir:=rR P os out Post
 let b:Frame:={(default:Frame) with fn:=f,kind:= .normal,roundOf:=none}
 have gL:Frame.enter P f ⟨args⟩ .normal=aH b (A fn.ntmps (fG 0 args) []) [.code c]:=by
  rw[←kg args fn.ntmps (Nat.le_of_ble_eq_true hl)]
  simp[Frame.enter,aH,hf,hb,b]
 rw[gL]
 refine h true _ hT b [] [] rfl (by simp[b]) rfl fun e a' s' q=>?_
 have last:∀(todo:List Item),a'.defers=[]→bG P (results fn a'.tmps) s' (fun v s'=>∃s0,s0.le s'∧R (.returned v) s0) (fun _ _=>False)→T0 P os out Post (G {aH b a' todo with mode:= .returning} []) s':=by
  intro todo hd hr
  refine Wn rfl fun w oQ sU Di=>?_
  obtain⟨r,es,bN,hl⟩:=gz _ _ _ _ w #[] hr oQ
  rw[Array.empty_append] at bN
  cases r with
  |ok v w'=>
   obtain⟨s2,ht,s0,hle,hu⟩:=hl
   refine⟨v,w',seen P f es,s2,?_,OJ v s0 w' hu (aP.of_le hle ht.ju) (ht.os.trans sU) (ht.output.trans Di),ht.sub (gY _ _ _)⟩
   simp only[aH,b,G,stepG,unwind,hf,hd,bN,doReturn,hi,GStep.after,Array.append_empty,Bool.not_true,Bool.false_eq_true,if_false]
  |halt _ _=>obtain⟨_,_,hu⟩:=hl;exact hu.elim
 cases e with
 |normal=>exact ir.go rfl rfl (g':=G {aH b a' [] with mode:= .returning} []) (fun w=>by simp[G,stepG,stepG.exec,aH,b]) (last _ q.1 q.2)
 |ret=>exact fun todo=>ir.go rfl rfl (g':=G {aH b a' (.code .ret::todo) with mode:= .returning} []) (fun w=>by simp[G,stepG,stepG.exec,aH,b]) (last _ q.1 q.2)
 |panic ch=>exact(IY _ _ q.2).elim
 |exit id=>exact q.elim
 |goto l=>exact q.elim
 |outgrown=>exact q.elim
def ani(P:Program)(f:FuncId)(args:List Value)(ro:Nat→Option Obj)(Φ:Value→Cells→Prop):Prop:=
 ∀os out (Post:Value→World→Prop),(∀v Y w,Φ v Y→aP ⟨ro,Y⟩ w→w.os=os→w.output=out→Post v w)→T0 P os out Post (G (Frame.enter P f ⟨args⟩ .normal) []) ⟨ro,[]⟩
theorem ayh(hm:P.follows .mixedOrders=true){ro:Nat→Option Obj}{Φ:Value→Cells→Prop}(hi:P.inits.idxOf? f=none)(kn:Cells)(hk:Knows ro kn)(h:∀fr,J (XC P hm f ro (RC ro fr Φ)) (ky P f args [.l fr] kn)):ani P f args ro Φ:=by
 intro os out Post OJ
 have h:=h []
 unfold ky at h
 split at h<;>try exact h.elim
 rename_i fn hf
 split at h<;>try exact h.elim
 rename_i c hc
 cases hl:Nat.ble args.length fn.ntmps with
 |false=>rw[hl] at h;exact h.elim
 |true=>
  rw[hl] at h
  have uA:sG P f=fn:=by simp only[sG,hf]
  have:=h hk
  simp only[JP,XC,KQ,uA] at this
  refine QL hf hc hl hi (fun v s0 w hr oQ sU Di=>?_) (fun ch s hr=>?_) this
  ·obtain⟨v',Y,e,hle,pR⟩:=hr
   cases e
   refine OJ _ Y w pR ?_ sU Di
   have:=aP.of_le hle oQ
   rwa[List.append_nil] at this
  ·obtain⟨v',Y,e,_⟩:=hr;cases e
open Go.Proofs
theorem au:Tryz.prog.follows .mixedOrders=true:=by kernel_rfl
theorem zB:(∀a b:Bool,((a&&b)=true)=(a=true∧b=true))∧(∀a b:Bool,((a||b)=true)=(a=true∨b=true))∧(∀a b:Bool,((a&&b)=false)=(a=false∨b=false))∧(∀a b:Bool,((a||b)=false)=(a=false∧b=false))∧(∀b:Bool,((!b)=true)=(b=false))∧(∀b:Bool,((!b)=false)=(b=true))∧(∀(p:Prop) [Decidable p],(decide p=true)=p)∧(∀(p:Prop) [Decidable p],(decide p=false)=¬p)∧((¬True)=False)∧(∀p:Prop,(p∨False)=p)∧(∀p:Prop,(False∨p)=p):=
 ⟨Bool.and_eq_true,Bool.or_eq_true,by simp,by simp,by simp,by simp,by simp,by simp,by simp,by simp,by simp⟩
@[reducible] noncomputable def zT:Program:=Tryz.prog
abbrev zS:Value:= .slice none 0 0
abbrev zP(b:Nat):Value:= .pointer (some ⟨b,0,none⟩)
abbrev zI(n:Int):Value:= .int .i64 n
abbrev zU(n:Int):Value:= .int .u64 n
theorem zG(l:List α)(k:Nat)(h:k <l.length:=by omega):∃x,l[k]?=some x:=⟨_,List.getElem?_eq_getElem h⟩
theorem zJ{X:Cx}(t:Nat)(p:Prop)[Decidable p](h1:p→J X (M5 t (.bool true) o))(h2:¬p→J X (M5 t (.bool false) o))(hv:Ic t o=some (.bool (decide p)):=by kernel_rfl):J X o:=
 js t (decide p) (fun h=>h1 (of_decide_eq_true h)) (fun h=>h2 (of_decide_eq_false h)) hv
theorem zD{X:Cx}(k:Nat)(h:J X (res (YD X.P X.n k [] o)))(he:lhs (YD X.P X.n k [] o)=rhs (YD X.P X.n k [] o):=by kernel_rfl):J X o:=jd k [] h he
def iH(n lo hi:Int):Bool:=decide (lo≤n)&&decide (n≤hi)
theorem fR{ro:Nat→Option Obj}:dz zT 89 [zI n,zI lo,zI hi] ro (.bool (iH n lo hi)):=by
 refine bA au [] [] bn<|zD 10<|jj 4 [(6,.bool false),(14,.bool ((decide (lo≤n))&&(decide (n≤hi))))] (fun gD=>?_) (fun hj=>?_)
 rotate_left
 refine js 10 (decide (lo≤n)) (fun h1=>?_) (fun h1=>?_)
 ·
  have fS:=h1
  replace fS:=of_decide_eq_true fS
  refine zD 4<|jw 14 (.bool ((decide (lo≤n))&&(decide (n≤hi)))) (w:= .bool (decide (n≤hi))) (by rw[h1]<;>rfl) ?_
  exact hj _ (by kernel_rfl) (by kernel_rfl)
 ·
  have fS:=h1
  replace fS:=of_decide_eq_false fS
  refine zD 4<|jw 14 (.bool ((decide (lo≤n))&&(decide (n≤hi)))) (w:= .bool false) (by rw[h1]<;>rfl) ?_
  exact hj _ (by kernel_rfl) (by kernel_rfl)
 refine zD 3<|aE q0 (.bool ((decide (lo≤n))&&(decide (n≤hi)))) [] [] [] (Sub.refl _) ⟨_,_,rfl,rfl,rfl,rfl⟩
theorem iI{ro:Nat→Option Obj}:dz zT 192 [zI n,zI lo,zI hi] ro (.bool (iH n lo hi)):=by
 refine bA au [] [] bn<|zD 10<|jj 4 [(6,.bool false),(14,.bool ((decide (lo≤n))&&(decide (n≤hi))))] (fun gD=>?_) (fun hj=>?_)
 rotate_left
 refine js 10 (decide (lo≤n)) (fun h1=>?_) (fun h1=>?_)
 ·
  have fS:=h1
  replace fS:=of_decide_eq_true fS
  refine zD 4<|jw 14 (.bool ((decide (lo≤n))&&(decide (n≤hi)))) (w:= .bool (decide (n≤hi))) (by rw[h1]<;>rfl) ?_
  exact hj _ (by kernel_rfl) (by kernel_rfl)
 ·
  have fS:=h1
  replace fS:=of_decide_eq_false fS
  refine zD 4<|jw 14 (.bool ((decide (lo≤n))&&(decide (n≤hi)))) (w:= .bool false) (by rw[h1]<;>rfl) ?_
  exact hj _ (by kernel_rfl) (by kernel_rfl)
 refine zD 3<|aE q0 (.bool ((decide (lo≤n))&&(decide (n≤hi)))) [] [] [] (Sub.refl _) ⟨_,_,rfl,rfl,rfl,rfl⟩
def cQ(p:α→Bool):List α→Nat→Int
 | [],_=> -1
 |x::l,k=>bif p x then k else cQ p l (k+1)
theorem fN{l:List α}{x:α}(h:l[k]?=some x):l.drop k=x::l.drop (k+1):=by
 obtain⟨h1,h2⟩:=List.getElem?_eq_some_iff.1 h
 rw[List.drop_eq_getElem_cons h1,h2]
theorem eF{l:List α}(h:¬k <l.length):l.drop k=[]:=List.drop_eq_nil_of_le (by omega)
theorem jm{p:α→Bool}{l:List α}{x:α}(h:l[k]?=some x):cQ p (l.drop k) k=bif p x then (k:Int) else cQ p (l.drop (k+1)) (k+1):=by rw[fN h];rfl
theorem p8{p:α→Bool}{l:List α}(h:¬k <l.length):cQ p (l.drop k) k= -1:=by rw[eF h];rfl
abbrev cJ(x:Int):List Value:=[zI x]
theorem apW{v:Value}{ro:Nat→Option Obj}(hl:bI ro v 1 cJ xs)(hn:xs.length≤1000000):dz zT 41 [v,zI n] ro (zI (cQ (fun y=>decide (y=n)) xs 0)):=by
 obtain⟨fp,rh,q9,eJ,rfl,tq,k8,me⟩:=hl
 refine bA au [] [] bn<|zD 10<|ez [1,0,1,0,0] [] (fun(zz:Nat)=>[(0,.slice fp xs.length eJ),(1,zI n),(5,zI (zz:Int))]) (fun(zz:Nat)=>[]) (fun(zz:Nat)=>zz≤xs.length∧cQ (fun y=>decide (y=n)) xs 0=cQ (fun y=>decide (y=n)) (xs.drop zz) zz) (fun(zz:Nat)=>xs.length-zz) 0 ⟨by omega,rfl⟩ [] ?_
 rintro k hI K1 bM rest
 refine zD 8<|zJ 9 ((k:Int) <(xs.length:Int)) (fun h1=>?_) fun h1=>?_
 ·
  refine zD 8 ?_
  obtain⟨fC,eA⟩:=zG xs k
  refine ij eJ 1 k8 eA<|jl 0 (me _ _ eA)<|zD 3<|zJ 17 (fC=n) (fun h2=>?_) fun h2=>?_
  ·
   refine zD 7<|aE q0 (zI (k:Int)) [] [] [] (Sub.refl _) ⟨_,_,rfl,rfl,by rw[hI.2,jm eA];simp[*],rfl⟩
  refine zD 4<|ja ((k:Int)+1) (by omega)<|zD 2<|bO bM (k+1) ⟨by omega,by rw[hI.2,jm eA];simp[*]⟩ (by omega) [] (Sub.refl _)
 refine zD 7<|aE q0 (zI (-1)) [] [] [] (Sub.refl _) ⟨_,_,rfl,rfl,by rw[hI.2,p8 (by omega)],rfl⟩
def dc(n:Nat):List Int:=(List.range n).map fun(i:Nat)=>(i:Int)
theorem uZ(n:Nat):dc (n+1)=dc n++[(n:Int)]:=by simp[dc,List.range_succ]
theorem k7(n:Nat):(dc n).length=n:=by simp[dc]
def bD(v:Value)(xs:List Int)(d:Nat)(X:Cells):Prop:=∃(k:Nat) (cA:Int),k≤xs.length∧X=[(d,.cells ⟨[v,zI k,zU cA]⟩ 93 (0,0))]
def Dn(ro:Nat→Option Obj)(v:Value)(xs:List Int):Prop:=bI ro v 1 cJ xs∧xs.length≤4611686018427387904
theorem Dn.up{ro aK:Nat→Option Obj}{v:Value}(h:Dn ro v xs)(hs:Sub ro aK):Dn aK v xs:=⟨h.1.up hs,h.2⟩
theorem toNonzero(h0:¬n <1)(h1:n≤1000000):IntKind.u64.wrap (n+1)≠0:=by
 rw[rK .u64 rfl _ (by omega) (by simp[IntKind.bits];omega)];omega
theorem toRange{w:Int}(h0:¬n <1)(h1:n≤1000000)(hw:0≤w):0≤IntKind.i64.wrap (Int.tmod (aQ .u64 w 16) (IntKind.u64.wrap (n+1)))∧IntKind.i64.wrap (Int.tmod (aQ .u64 w 16) (IntKind.u64.wrap (n+1)))≤n:=by
 have e:IntKind.u64.wrap (n+1)=n+1:=rK .u64 rfl _ (by omega) (by simp[IntKind.bits];omega)
 rw[e]
 have h2:0≤aQ .u64 w 16:=Int.fdiv_nonneg hw (by decide)
 have h3:=Int.tmod_nonneg (n+1) h2
 have h4:=Int.tmod_lt_of_pos (aQ .u64 w 16) (show 0 <n+1 by omega)
 rw[jV _ (by omega)]
 omega
theorem aR2{ro:Nat→Option Obj}(hN:Dn ro vd xs)(hD:bD vd xs d X):eo zT 61 [zP d] ro X (fun r Y=>∃w:Int,r= zU w∧0≤w∧w <18446744073709551616∧bD vd xs d Y):=by
 obtain⟨k,cA,hk,rfl⟩:=hD
 obtain⟨hl,hn⟩:=hN
 obtain⟨fp,rh,q9,eJ,rfl,tq,k8,me⟩:=hl
 refine bA au [.b d (.cells ⟨[.slice fp xs.length eJ,zI (k:Int),zU cA]⟩ 93 (0,0))] [] bn<|jd 19 [0,0]<|aN 13 fun CN CZ AQ=>jd 1 [0]<|iS AQ []<|jd 16 [0,0]<|aN 13 fun CM CY BG=>jd 1 [0]<|iS BG []<|jd 16 [0,0]<|aN 13 fun sW sZ rD=>jd 1 [0]<|iS rD []<|jd 15 [0,0]<|zJ 52 ((k:Int) <(xs.length:Int)) (fun h4=>?_) fun h4=>?_
 ·
  refine jd 16 [0,0,0] ?_
  obtain⟨x66,FB⟩:=zG xs k
  refine ij eJ 1 k8 FB<|jl 0 (me _ _ FB)<|zD 5<|aN 20 fun uv uw sB=>jd 1 [0]<|iS sB []<|jd 6 [0]<|ja ((k:Int)+1) (by omega)<|jd 30 [0,0]<|aE q0 (zU (cO .u64 (IntKind.u64.wrap ((cO .u64 (IntKind.u64.wrap ((cO .u64 (cO .u64 (cO .u64 cA (dt .u64 cA 13)) (aQ .u64 (cO .u64 cA (dt .u64 cA 13)) 7)) (dt .u64 (cO .u64 (cO .u64 cA (dt .u64 cA 13)) (aQ .u64 (cO .u64 cA (dt .u64 cA 13)) 7)) 17))+(IntKind.u64.wrap ((IntKind.u64.wrap x66)*13787848793156543929)))) (aQ .u64 (IntKind.u64.wrap ((cO .u64 (cO .u64 (cO .u64 cA (dt .u64 cA 13)) (aQ .u64 (cO .u64 cA (dt .u64 cA 13)) 7)) (dt .u64 (cO .u64 (cO .u64 cA (dt .u64 cA 13)) (aQ .u64 (cO .u64 cA (dt .u64 cA 13)) 7)) 17))+(IntKind.u64.wrap ((IntKind.u64.wrap x66)*13787848793156543929)))) 30))*10723151780598845931)) (aQ .u64 (IntKind.u64.wrap ((cO .u64 (IntKind.u64.wrap ((cO .u64 (cO .u64 (cO .u64 cA (dt .u64 cA 13)) (aQ .u64 (cO .u64 cA (dt .u64 cA 13)) 7)) (dt .u64 (cO .u64 (cO .u64 cA (dt .u64 cA 13)) (aQ .u64 (cO .u64 cA (dt .u64 cA 13)) 7)) 17))+(IntKind.u64.wrap ((IntKind.u64.wrap x66)*13787848793156543929)))) (aQ .u64 (IntKind.u64.wrap ((cO .u64 (cO .u64 (cO .u64 cA (dt .u64 cA 13)) (aQ .u64 (cO .u64 cA (dt .u64 cA 13)) 7)) (dt .u64 (cO .u64 (cO .u64 cA (dt .u64 cA 13)) (aQ .u64 (cO .u64 cA (dt .u64 cA 13)) 7)) 17))+(IntKind.u64.wrap ((IntKind.u64.wrap x66)*13787848793156543929)))) 30))*10723151780598845931)) 31))) [] [0] [(d,.cells ⟨[.slice fp xs.length eJ,zI ((k:Int)+1),zU (IntKind.u64.wrap ((cO .u64 (cO .u64 (cO .u64 cA (dt .u64 cA 13)) (aQ .u64 (cO .u64 cA (dt .u64 cA 13)) 7)) (dt .u64 (cO .u64 (cO .u64 cA (dt .u64 cA 13)) (aQ .u64 (cO .u64 cA (dt .u64 cA 13)) 7)) 17))+(IntKind.u64.wrap ((IntKind.u64.wrap x66)*13787848793156543929))))]⟩ 93 (0,0))] (Sub.refl _) ⟨_,_,rfl,rfl,_,rfl,(tH _ _).1,(tH _ _).2,k+1,_,(by omega),rfl⟩
 refine jd 28 [0]<|aE q0 (zU (cO .u64 (IntKind.u64.wrap ((cO .u64 (cO .u64 (cO .u64 (cO .u64 cA (dt .u64 cA 13)) (aQ .u64 (cO .u64 cA (dt .u64 cA 13)) 7)) (dt .u64 (cO .u64 (cO .u64 cA (dt .u64 cA 13)) (aQ .u64 (cO .u64 cA (dt .u64 cA 13)) 7)) 17)) (aQ .u64 (cO .u64 (cO .u64 (cO .u64 cA (dt .u64 cA 13)) (aQ .u64 (cO .u64 cA (dt .u64 cA 13)) 7)) (dt .u64 (cO .u64 (cO .u64 cA (dt .u64 cA 13)) (aQ .u64 (cO .u64 cA (dt .u64 cA 13)) 7)) 17)) 30))*10723151780598845931)) (aQ .u64 (IntKind.u64.wrap ((cO .u64 (cO .u64 (cO .u64 (cO .u64 cA (dt .u64 cA 13)) (aQ .u64 (cO .u64 cA (dt .u64 cA 13)) 7)) (dt .u64 (cO .u64 (cO .u64 cA (dt .u64 cA 13)) (aQ .u64 (cO .u64 cA (dt .u64 cA 13)) 7)) 17)) (aQ .u64 (cO .u64 (cO .u64 (cO .u64 cA (dt .u64 cA 13)) (aQ .u64 (cO .u64 cA (dt .u64 cA 13)) 7)) (dt .u64 (cO .u64 (cO .u64 cA (dt .u64 cA 13)) (aQ .u64 (cO .u64 cA (dt .u64 cA 13)) 7)) 17)) 30))*10723151780598845931)) 31))) [] [0] [(d,.cells ⟨[.slice fp xs.length eJ,zI (k:Int),zU (cO .u64 (cO .u64 (cO .u64 cA (dt .u64 cA 13)) (aQ .u64 (cO .u64 cA (dt .u64 cA 13)) 7)) (dt .u64 (cO .u64 (cO .u64 cA (dt .u64 cA 13)) (aQ .u64 (cO .u64 cA (dt .u64 cA 13)) 7)) 17))]⟩ 93 (0,0))] (Sub.refl _) ⟨_,_,rfl,rfl,_,rfl,(tH _ _).1,(tH _ _).2,k,_,(by omega),rfl⟩
theorem Du{ro:Nat→Option Obj}(hN:Dn ro vd xs)(hD:bD vd xs d X)(hn:n≤1000000):eo zT 29 [zP d,zI n] ro X (fun r Y=>∃w:Int,r= zI w∧0≤w∧(w≤n∨w=0)∧bD vd xs d Y):=by
 refine bA au [.l X] [] bn<|zD 10<|zJ 6 (n <1) (fun h1=>?_) fun h1=>?_
 ·
  refine zD 6<|aE q0 (zI 0) [] [0] X (Sub.refl _) ⟨_,_,rfl,rfl,_,rfl,(by omega),(by omega),hD⟩
 refine zD 5<|jc [0] (aR2 hN hD) ?_
 rintro _ X8 ⟨w8,rfl,hw8,hx8,hD8⟩
 refine zD 2<|ja (n+1) (by omega)<|zD 1<|jrm (k:= .u64) (a:=(aQ .u64 w8 16)) (b:=(IntKind.u64.wrap (n+1))) 91 (toNonzero h1 hn)<|zD 4<|aE q0 (zI (IntKind.i64.wrap (Int.tmod (aQ .u64 w8 16) (IntKind.u64.wrap (n+1))))) [] [0] X8 (Sub.refl _) ⟨_,_,rfl,rfl,_,rfl,(toRange h1 hn hw8).1,.inl (toRange h1 hn hw8).2,hD8⟩
theorem An{ro:Nat→Option Obj}(hN:Dn ro vd xs)(hD:bD vd xs d X)(zv: -1000≤lo∧lo≤1000)(hhi: -1000≤hi∧hi≤1000):eo zT 32 [zP d,zI lo,zI hi] ro X (fun r Y=>∃w:Int,r= zI w∧lo≤w∧(w≤hi∨w=lo)∧bD vd xs d Y):=by
 refine bA au [.l X] [] bn<|zD 10<|ja (hi-lo) (by omega)<|jc (vs:=[zP d,zI (hi-lo)]) [0] (Du hN hD (by omega)) ?_
 rintro _ X12 ⟨w12,rfl,bbq,pU,aRp⟩
 refine ja (lo+w12) (by omega)<|zD 3<|aE q0 (zI (lo+w12)) [] [0] X12 (Sub.refl _) ⟨_,_,rfl,rfl,_,rfl,(by omega),(by omega),aRp⟩
theorem sJ{ro:Nat→Option Obj}(hN:Dn ro vd xs)(hD:bD vd xs d X)(hn:0≤n∧n≤1000):eo zT 26 [zP d,zI n] ro X (fun r Y=>∃w:Bool,r= .bool w∧bD vd xs d Y):=by
 refine bA au [.l X] [] bn<|zD 8<|ja (n-1) (by omega)<|jc (vs:=[zP d,zI (n-1)]) [0] (Du hN hD (by omega)) ?_
 rintro _ X8 ⟨w8,rfl,hw8,hx8,hD8⟩
 refine zD 4<|aE q0 (.bool (decide (w8=0))) [] [0] X8 (Sub.refl _) ⟨_,_,rfl,rfl,_,rfl,hD8⟩
def bs(l:List Nat):ByteArray:=⟨(l.map UInt8.ofNat).toArray⟩
abbrev oU(x:ByteArray):List Value:=[.string x]
structure cG where
 f:ByteArray
 t:ByteArray
abbrev jo(x:cG):List Value:=[.string x.f,.string x.t]
structure aF where
 name:ByteArray
 st:Int
 no:Int
 head:Int
 bold:Bool
abbrev eQ(x:aF):List Value:=[.string x.name,.int .i64 x.st,.int .i64 x.no,.int .i64 x.head,.bool x.bold]
structure gV where
 a:Int
 b:Int
 same:Bool
abbrev vM(x:gV):List Value:=[.int .i64 x.a,.int .i64 x.b,.bool x.same]
structure bF where
 name:ByteArray
 under:Int
abbrev oD(x:bF):List Value:=[.string x.name,.int .i64 x.under]
structure aL where
 k:Int
 st:Int
 ot:Int
 fn:Int
 fl:Int
 tn:Int
 tl:Int
abbrev mw(x:aL):List Value:=[.int .i64 x.k,.int .i64 x.st,.int .i64 x.ot,.int .i64 x.fn,.int .i64 x.fl,.int .i64 x.tn,.int .i64 x.tl]
theorem mW{ps:List α}{x y:α}(h1:ps[i]?=some x) (h2:ps[k]?=some y):((ps.set i y).set k x).Perm ps:=by
 obtain⟨a,rfl⟩:=List.getElem?_eq_some_iff.1 h1
 obtain⟨b,rfl⟩:=List.getElem?_eq_some_iff.1 h2
 exact List.set_set_perm a b
theorem afz{ys:List Int}{ro:Nat→Option Obj}(hN:Dn ro vd xs)(hD:bD vd xs d X)(hm:bI ro vm 1 cJ ys)(hy:0 <ys.length∧ys.length≤1000):eo zT 33 [zP d,vm] ro X (fun r Y=>∃w:Int,r= zI w∧w∈ys∧bD vd xs d Y):=by
 obtain⟨qma,qmb,qmo,qmc,rfl,qmk,qmh,qml⟩:=hm
 refine bA au [.l X] [] bn<|zD 10<|ja ((ys.length:Int)-1) (by omega)<|jc (vs:=[zP d,zI ((ys.length:Int)-1)]) [0] (Du hN hD (by omega)) ?_
 rintro _ X10 ⟨w10,rfl,acE,rn,SD⟩
 obtain⟨x11,RM⟩:=zG ys (w10.toNat)
 refine Mj w10 qmc 1 qmh RM (by omega)<|jl 0 (qml _ _ RM)<|zD 3<|aE q0 (zI x11) [] [0] X10 (Sub.refl _) ⟨_,_,rfl,rfl,_,rfl,List.mem_of_getElem? RM,SD⟩
theorem VI{ys:List ByteArray}{ro:Nat→Option Obj}(hN:Dn ro vd xs)(hD:bD vd xs d X)(hm:bI ro vm 1 oU ys)(hy:0 <ys.length∧ys.length≤1000):eo zT 60 [zP d,vm] ro X (fun r Y=>∃w:ByteArray,r= .string w∧w∈ys∧bD vd xs d Y):=by
 obtain⟨qma,qmb,qmo,qmc,rfl,qmk,qmh,qml⟩:=hm
 refine bA au [.l X] [] bn<|zD 10<|ja ((ys.length:Int)-1) (by omega)<|jc (vs:=[zP d,zI ((ys.length:Int)-1)]) [0] (Du hN hD (by omega)) ?_
 rintro _ X10 ⟨w10,rfl,acE,rn,SD⟩
 obtain⟨x11,RM⟩:=zG ys (w10.toNat)
 refine Mj w10 qmc 1 qmh RM (by omega)<|jl 0 (qml _ _ RM)<|zD 3<|aE q0 (.string x11) [] [0] X10 (Sub.refl _) ⟨_,_,rfl,rfl,_,rfl,List.mem_of_getElem? RM,SD⟩
theorem afy{n:Nat}{ro:Nat→Option Obj}(hN:Dn ro vd xs)(hD:bD vd xs d X)(hn:n≤100):eo zT 56 [zP d,zI (n:Int)] ro X (fun r Y=>∃(ps:List Int) (L X':Cells),az r 1 3 cJ ps L∧ps.Perm (dc n)∧Y=L++X'∧bD vd xs d X'):=by
 refine bA au [.l X] [] bn<|zD 14<|pQ<|ez [1,1,0,1,0,0] [] (fun(zz:Nat×Value×Cells)=>[(0,zP d),(1,zI (n:Int)),(4,zS),(5,zz.2.1),(6,zI (zz.1:Int))]) (fun(zz:Nat×Value×Cells)=>[.l zz.2.2,.l X]) (fun(zz:Nat×Value×Cells)=>zz.1≤n∧az zz.2.1 1 3 cJ (dc zz.1) zz.2.2) (fun(zz:Nat×Value×Cells)=>n-zz.1) (⟨0,zS,[]⟩) ⟨by omega,az.nil _ _ _⟩ [0,1] ?_
 rintro⟨k,v,L⟩ hI K1 bM rest
 dsimp only at hI
 refine zD 7<|zJ 12 ((k:Int) <(n:Int)) (fun h1=>?_) fun h1=>?_
 ·
  refine zD 7<|jn fun b17=>ku (sz:=1) (ps:=dc k) (qs:=[(k:Int)]) (enc:=cJ) (w:= .slice (some ⟨b17,0,none⟩) 1 1) [1] [0] [(b17,.cells ⟨([(k:Int)].map cJ).flatten⟩ 3 (0,0))] (hI.2) (fun s _ hZ=>bX [(k:Int)] (hZ _ (.head _)) (by intro p hp;rfl)) (fun p _=>an rfl) (by simp[dc];omega) (fun v18 L18 ac7=>?_)
  obtain⟨anV,ahG,Sf⟩:=ac7.form
  subst Sf
  refine zD 4<|ja ((k:Int)+1) (by omega)<|zD 2<|bO bM (⟨k+1,(.slice anV ((dc k++[(k:Int)])).length ahG),L18⟩) ⟨by omega,by rw[uZ];exact ac7⟩ (by omega) [0,2] (Sub.refl _)
 refine zD 6<|ja ((n:Int)-1) (by omega)<|zD 3<|ez [1,1,1,0,1,0,0] [] (fun(zz:Int×Value×Cells×(List Int)×Cells)=>[(0,zP d),(4,zS),(5,zz.2.1),(7,zI zz.1)]) (fun(zz:Int×Value×Cells×(List Int)×Cells)=>[.l zz.2.2.1,.l zz.2.2.2.2]) (fun(zz:Int×Value×Cells×(List Int)×Cells)=>(-1≤zz.1∧zz.1 <n)∧az zz.2.1 1 3 cJ zz.2.2.2.1 zz.2.2.1∧zz.2.2.2.1.Perm (dc n)∧bD vd xs d zz.2.2.2.2) (fun(zz:Int×Value×Cells×(List Int)×Cells)=>zz.1.toNat) (⟨(n:Int)-1,v,L,dc k,X⟩) ⟨by omega,hI.2,(by rw[show k=n by omega]),hD⟩ [0,1] ?_
 rintro⟨j,v,L,ps,X⟩ KV K2 mo rest
 dsimp only at KV
 have hlen:ps.length=n:=by rw[KV.2.2.1.length_eq,k7]
 refine zD 6<|zJ 22 (j>0) (fun h2=>?_) fun h2=>?_
 ·
  refine zD 8<|jc (vs:=[zP d,zI j]) [1] (Du hN KV.2.2.2 (by omega)) ?_
  rintro _ X27 ⟨w27,rfl,bbm,HB,aRk⟩
  refine zD 6 ?_
  obtain⟨od,jQ⟩:=zG ps (j.toNat)
  refine pP j 1 KV.2.1 jQ (by omega) fun b30 Sn=>oJ 0 [1] L (fun s _ hZ=>cv KV.2.1 Sn hZ jQ)<|zD 8 ?_
  obtain⟨x36,yg⟩:=zG ps (w27.toNat)
  refine pP w27 1 KV.2.1 yg (by omega) fun dC ar7=>oJ 0 [1] L (fun s _ hZ=>cv KV.2.1 ar7 hZ yg) ?_
  obtain⟨x38,KD⟩:=zG ps (j.toNat)
  refine pP j 1 KV.2.1 KD (by omega) fun b38 aPW=>PT 1 0 [zI x36] x36 KV.2.1 aPW KD rfl rfl (Nat.le_of_ble_eq_true rfl) fun L3 ho4=>zD 5 ?_
  obtain⟨x42,RJ⟩:=zG ((ps.set j.toNat x36)) (w27.toNat) (by first|omega| (simp only[List.length_set,List.length_append,List.length_cons,List.length_nil];omega))
  refine pP w27 1 ho4 RJ (by omega) fun b42 aPU=>PT 0 0 [zI od] od ho4 aPU RJ rfl rfl (Nat.le_of_ble_eq_true rfl) fun L5 ho6=>zD 3<|ja (j-1) (by omega)<|zD 2<|bO mo (⟨j-1,v,L5,((ps.set j.toNat x36).set w27.toNat od),X27⟩) ⟨by omega,ho6,(mW jQ yg).trans KV.2.2.1,aRk⟩ (by omega) [0,1] (Sub.refl _)
 refine zD 8<|aE q0 (v) [] [0,1] (L++X) (Sub.refl _) ⟨_,_,rfl,rfl,_,_,_,KV.2.1,KV.2.2.1,rfl,KV.2.2.2⟩
theorem Pb(p:Int→Bool)(k:Nat):(dc (k+1)).filter p=bif p (k:Int) then (dc k).filter p++[(k:Int)] else (dc k).filter p:=by
 rw[uZ,List.filter_append]
 cases h:p (k:Int)<;>simp[h]
theorem pE{n:Nat}{x:Int}(h:x∈dc n):0≤x∧x <n:=by
 simp only[dc,List.mem_map,List.mem_range] at h
 obtain⟨i,h1,rfl⟩:=h
 omega
theorem q7(n:Nat):(dc n).Pairwise (· < ·):=by
 simp only[dc]
 rw[List.pairwise_map]
 exact List.pairwise_lt_range.imp fun h=>by omega
theorem yy(x:Int)(l:List Int)(k:Nat):x∈l→(k:Int)≤cQ (fun y=>decide (y=x)) l k∧∃i,cQ (fun y=>decide (y=x)) l k=k+i∧l[i.toNat]?=some x∧0≤i:=by
 induction l generalizing k with
 |nil=>intro h;cases h
 |cons y l ih=>
  intro h
  by_cases e:y=x
  ·subst e
   simp only[cQ,decide_true,cond_true]
   exact⟨Int.le_refl _,0,by simp,by simp,by simp⟩
  simp only[cQ,e,decide_false,cond_false]
  obtain⟨h1,i,h2,h3,h4⟩:=ih (k+1) ((List.mem_cons.1 h).resolve_left fun e2=>e e2.symm)
  refine⟨by omega,i+1,by rw[h2];omega,?_,by omega⟩
  rw[show (i+1).toNat=i.toNat+1 by omega]
  simpa using h3
theorem aaS{q:List Int}{n:Nat}(hq:q.Perm (dc n)):((dc n).filter fun i=>decide (cQ (fun y=>decide (y=i)) q 0 <many)).length≤many.toNat:=by
 have iE:∀x,x∈dc n→x∈q:=fun x hx=>hq.mem_iff.2 hx
 have h1:(((dc n).filter fun i=>decide (cQ (fun y=>decide (y=i)) q 0 <many)).map fun i=>cQ (fun y=>decide (y=i)) q 0).Nodup:=by
  rw[List.nodup_iff_pairwise_ne,List.pairwise_map]
  refine((q7 n).filter _).imp_of_mem fun {a b} ha hb Ea e=>?_
  obtain⟨_,i,e1,g1,_⟩:=yy a q 0 (iE a ((List.mem_filter.1 ha).1))
  obtain⟨_,j,e2,g2,_⟩:=yy b q 0 (iE b ((List.mem_filter.1 hb).1))
  have:i=j:=by omega
  subst this
  rw[g1] at g2
  cases g2
  omega
 have h2:=wD (l₂:=dc many.toNat) h1 fun x hx=>by
  obtain⟨i,h3,rfl⟩:=List.mem_map.1 hx
  obtain⟨h4,h5⟩:=List.mem_filter.1 h3
  have h6:=of_decide_eq_true h5
  obtain⟨h7,_⟩:=yy i q 0 (iE i h4)
  simp only[dc,List.mem_map,List.mem_range]
  exact⟨(cQ (fun y=>decide (y=i)) q 0).toNat,by omega,by omega⟩
 simpa [k7] using h2
theorem HM(p:α→Bool)(l:List α):(l.filter p).length≤l.length:=List.length_filter_le p l
theorem aDW{n:Nat}{ro:Nat→Option Obj}(hN:Dn ro vd xs)(hD:bD vd xs d X)(hn:n≤100):eo zT 58 [zP d,zI (n:Int),zI many] ro X (fun r Y=>∃(ps:List Int) (L X':Cells),az r 1 3 cJ ps L∧ps.length≤many.toNat∧ps.Pairwise (· < ·)∧(∀x∈ps,0≤x∧x <n)∧Y=L++X'∧bD vd xs d X'):=by
 refine bA au [.l X] [] bn<|zD 8<|jc (vs:=[zP d,zI (n:Int)]) [0] (afy hN hD (by first|omega|decide)) ?_
 rintro v13 _ ⟨WZ,L13,X13,R6,XE,rfl,akd⟩
 refine jg 0 [.l L13,.l X13]<|zD 12<|pQ<|ez [1,1,1,0,1,0,0] [] (fun(zz:Nat×Value×Cells)=>[(1,zI (n:Int)),(2,zI many),(6,zS),(7,v13),(8,zz.2.1),(9,zI (zz.1:Int))]) (fun(zz:Nat×Value×Cells)=>[.l zz.2.2,.l L13,.l X13]) (fun(zz:Nat×Value×Cells)=>zz.1≤n∧az zz.2.1 1 3 cJ ((dc zz.1).filter (fun i=>decide (cQ (fun y=>decide (y=i)) WZ 0 <many))) zz.2.2) (fun(zz:Nat×Value×Cells)=>n-zz.1) (⟨0,zS,[]⟩) ⟨by omega,az.nil _ _ _⟩ [0,1,2] ?_
 rintro⟨k,v,L⟩ hI K1 bM rest
 dsimp only at hI
 have hlen:WZ.length=n:=by rw[XE.length_eq,k7]
 have vv:=HM (fun i=>decide (cQ (fun y=>decide (y=i)) WZ 0 <many)) (dc k)
 rw[k7] at vv
 refine zD 7<|zJ 16 ((k:Int) <(n:Int)) (fun h1=>?_) fun h1=>?_
 ·
  refine zD 8<|jp (vs:=[v13,zI (k:Int)]) [1] L13 (fun aA hs hZ=>apW (R6.ma hZ) (by first|omega| (simp only[List.length_set,List.length_append,List.length_cons,List.length_nil];omega))) ?_
  refine zD 8<|zJ 24 ((cQ (fun y=>decide (y=(k:Int))) WZ 0) <many) (fun h2=>?_) fun h2=>?_
  ·
   refine zD 4<|jn fun b27=>ku (sz:=1) (ps:=((dc k).filter (fun i=>decide (cQ (fun y=>decide (y=i)) WZ 0 <many)))) (qs:=[(k:Int)]) (enc:=cJ) (w:= .slice (some ⟨b27,0,none⟩) 1 1) [1] [0] [(b27,.cells ⟨([(k:Int)].map cJ).flatten⟩ 3 (0,0))] (hI.2) (fun s _ hZ=>bX [(k:Int)] (hZ _ (.head _)) (by intro p hp;rfl)) (fun p _=>an rfl) (by simp only[List.length_cons,List.length_nil];omega) (fun v28 L28 ac3=>?_)
   obtain⟨aIZ,aIB,XQ⟩:=ac3.form
   subst XQ
   refine zD 4<|ja ((k:Int)+1) (by omega)<|zD 2<|bO bM (⟨k+1,(.slice aIZ ((((dc k).filter (fun i=>decide (cQ (fun y=>decide (y=i)) WZ 0 <many)))++[(k:Int)])).length aIB),L28⟩) ⟨by omega,by rw[Pb,decide_eq_true h2];exact ac3⟩ (by omega) [0,2,3] (Sub.refl _)
  refine zD 4<|ja ((k:Int)+1) (by omega)<|zD 2<|bO bM (⟨k+1,v,L⟩) ⟨by omega,by rw[Pb,decide_eq_false h2];exact hI.2⟩ (by omega) [0,1,2] (Sub.refl _)
 refine zD 8<|aE q0 (v) [] [0,2] (L++X13) (Sub.refl _) ⟨_,_,rfl,rfl,_,_,_,hI.2,by rw[show k=n by omega];exact aaS XE,(q7 k).filter _,fun x hx=>by have:=pE ((List.mem_filter.1 hx).1);omega,rfl,akd⟩
def amR:List ByteArray:=[bs [101],bs [121],bs [115,104],bs [97],bs [110,110],bs [116,104],bs [109]]
def toW:List ByteArray:=[bs [],bs [105],bs [115],bs [116],bs [97,101],bs [106],bs [110]]
def GX(r:cG):Prop:=r.f∈amR∧r.t∈toW
def iR(c:aL):Prop:=c∈[(⟨1,0,0,0,0,0,0⟩:aL),⟨2,0,0,0,0,0,0⟩,⟨1,1,0,0,0,0,0⟩,⟨2,1,0,0,0,0,0⟩,⟨4,1,0,0,0,0,0⟩]
theorem qi{p:α→Prop}{l:List α}{x:α}(h:∀y∈l,p y)(hx:p x):∀y∈l++[x],p y:=fun y hy=>by
 rcases List.mem_append.1 hy with h1|h1
 ·exact h y h1
 rw[List.mem_singleton] at h1;subst h1;exact hx
theorem atb{ro:Nat→Option Obj}(hN:Dn ro vd xs)(hD:bD vd xs d X)(hn:0≤many∧many≤100):eo zT 28 [zP d,zI many] ro X (fun r Y=>∃(ps:List cG) (L X':Cells),az r 2 81 jo ps L∧ps.length≤many∧(∀r∈ps,GX r)∧Y=L++X'∧bD vd xs d X'):=by
 refine bA au [.l X] [] bn<|zD 13<|jc (vs:=[zP d,zI many]) [0] (Du hN hD (by omega)) ?_
 rintro _ X10 ⟨w10,rfl,acE,rn,SD⟩
 refine zD 3<|pQ<|ez [1,1,0,1,0,0] [] (fun(zz:Int×Value×Cells×(List cG)×Cells)=>[(0,zP d),(4,zS),(5,zz.2.1),(6,zI zz.1)]) (fun(zz:Int×Value×Cells×(List cG)×Cells)=>[.l zz.2.2.1,.l zz.2.2.2.2]) (fun(zz:Int×Value×Cells×(List cG)×Cells)=>(0≤zz.1∧zz.2.2.2.1.length+zz.1≤many)∧az zz.2.1 2 81 jo zz.2.2.2.1 zz.2.2.1∧(∀r∈zz.2.2.2.1,GX r)∧bD vd xs d zz.2.2.2.2) (fun(zz:Int×Value×Cells×(List cG)×Cells)=>zz.1.toNat) (⟨w10,zS,[],[],X10⟩) ⟨by simp only[List.length_nil];omega,az.nil _ _ _,(fun _ h=>by cases h),SD⟩ [0,1] ?_
 rintro⟨j,v,L,ps,X⟩ hI K1 bM rest
 dsimp only at hI
 refine zD 6<|zJ 12 (j>0) (fun h1=>?_) fun h1=>?_
 ·
  refine zD 7<|jn fun b16=>YQ (vs:=[zP d,.slice (some ⟨b16,0,none⟩) 7 7]) [2] [0] [(b16,.cells ⟨([(bs [101]),(bs [121]),(bs [115,104]),(bs [97]),(bs [110,110]),(bs [116,104]),(bs [109])].map oU).flatten⟩ 9 (0,0))] (fun aA hs hZ=>VI (hN.up hs) hI.2.2.2 (bS [(bs [101]),(bs [121]),(bs [115,104]),(bs [97]),(bs [110,110]),(bs [116,104]),(bs [109])] hZ.head (by intro p hp;rfl)) (by decide)) ?_
  rintro _ X17 ⟨w17,rfl,aNc,aRo⟩
  refine zD 1<|jn fun GS=>YQ (vs:=[zP d,.slice (some ⟨GS,0,none⟩) 7 7]) [1] [0] [(GS,.cells ⟨([(bs []),(bs [105]),(bs [115]),(bs [116]),(bs [97,101]),(bs [106]),(bs [110])].map oU).flatten⟩ 9 (0,0))] (fun aA hs hZ=>VI (hN.up hs) aRo (bS [(bs []),(bs [105]),(bs [115]),(bs [116]),(bs [97,101]),(bs [106]),(bs [110])] hZ.head (by intro p hp;rfl)) (by decide)) ?_
  rintro _ X20 ⟨Zp,rfl,aqn,aem⟩
  refine zD 1<|jn fun b7=>jd 5 [0,0]<|jn fun lX=>ku (sz:=2) (ps:=ps) (qs:=[(⟨w17,Zp⟩:cG)]) (enc:=jo) (w:= .slice (some ⟨lX,0,none⟩) 1 1) [5] [0] [(lX,.cells ⟨([(⟨w17,Zp⟩:cG)].map jo).flatten⟩ 81 (0,0))] (hI.2.1) (fun s _ hZ=>bX [(⟨w17,Zp⟩:cG)] (hZ _ (.head _)) (by intro p hp;rfl)) (fun p _=>an rfl) (by simp<;>omega) (fun v25 L25 ac5=>?_)
  obtain⟨aI2,aIE,aPe⟩:=ac5.form
  subst aPe
  refine zD 4<|ja (j-1) (by omega)<|zD 2<|bO bM (⟨j-1,(.slice aI2 ((ps++[(⟨w17,Zp⟩:cG)])).length aIE),L25,(ps++[(⟨w17,Zp⟩:cG)]),X20⟩) ⟨by simp only[List.length_append,List.length_cons,List.length_nil];omega,ac5,qi hI.2.2.1 ⟨aNc,aqn⟩,aem⟩ (by omega) [0,3] (Sub.refl _)
 refine zD 8<|aE q0 (v) [] [0,1] (L++X) (Sub.refl _) ⟨_,_,rfl,rfl,_,_,_,hI.2.1,(by omega),hI.2.2.1,rfl,hI.2.2.2⟩
theorem aDV{ro:Nat→Option Obj}(hN:Dn ro vd xs)(hD:bD vd xs d X):eo zT 27 [zP d] ro X (fun r Y=>∃w:aL,r= .agg ⟨mw w⟩∧iR w∧bD vd xs d Y):=by
 refine bA au [.l X] [] bn<|zD 2<|jn fun b2=>zD 8<|jn fun b9=>zD 9<|jc (vs:=[zP d,zI 4]) [2] (Du hN hD (by omega)) ?_
 rintro _ X15 ⟨w15,rfl,aNd,acx,asG⟩
 obtain⟨AT,oz⟩:=zG ([(⟨1,0,0,0,0,0,0⟩:aL),(⟨2,0,0,0,0,0,0⟩:aL),(⟨1,1,0,0,0,0,0⟩:aL),(⟨2,1,0,0,0,0,0⟩:aL),(⟨4,1,0,0,0,0,0⟩:aL)]:List _) (w15.toNat) (show w15.toNat <5 from by omega)
 refine Mj (a:=(some ⟨b9,0,none⟩)) (b:=b9) (off:=0) w15 5 7 (fun _ _=>rfl) oz (by omega)<|oJ (m:=7) 0 [1] [(b9,.cells ⟨([(⟨1,0,0,0,0,0,0⟩:aL),(⟨2,0,0,0,0,0,0⟩:aL),(⟨1,1,0,0,0,0,0⟩:aL),(⟨2,1,0,0,0,0,0⟩:aL),(⟨4,1,0,0,0,0,0⟩:aL)].map mw).flatten⟩ 74 (0,0))] (fun s _ hZ=>wA (hZ _ (.head _)) (by intro p hp;rfl) oz) ?_
 refine jd 3 [2]<|aE q0 (.agg ⟨[zI AT.k,zI AT.st,zI AT.ot,zI AT.fn,zI AT.fl,zI AT.tn,zI AT.tl]⟩) [2] [0] X15 (Sub.refl _) ⟨_,_,rfl,rfl,AT,rfl,List.mem_of_getElem? oz,asG⟩
def Fu(b:UInt8):Bool:=Nat.ble 97 b.toNat&&Nat.ble b.toNat 122
def E5(b:UInt8):Bool:=Nat.ble 65 b.toNat&&(Nat.ble b.toNat 90&& !(Nat.beq b.toNat 72||Nat.beq b.toNat 81||Nat.beq b.toNat 87))
def Script(w:ByteArray):Prop:=(∀b∈w.data.toList,Fu b=true)∨(∀b∈w.data.toList,E5 b=true)
def V9(w:ByteArray):Prop:=(0 <w.size∧w.size≤7)∧Script w
def LZ(w:ByteArray):Prop:=(1≤w.size∧w.size≤3)∧Script w
theorem aah{w:ByteArray}(h:(w.data.toList.all Fu||w.data.toList.all E5)=true)(h1:(Nat.blt 0 w.size&&Nat.ble w.size 7)=true):V9 w:=by
 simp only[Bool.or_eq_true,List.all_eq_true] at h
 simp only[Bool.and_eq_true,Nat.blt_eq,Nat.ble_eq] at h1
 exact⟨h1,h⟩
theorem awi{w:ByteArray}(h:w∈[bs [97,101,115],bs [115,104,101,116,97],bs [115,109,105,116,121,104,97],bs [99,104,106,97],bs [97,110,110,101]]):V9 w:=by
 simp only[List.mem_cons,List.not_mem_nil,or_false] at h
 rcases h with rfl|rfl|rfl|rfl|rfl<;>exact aah (by decide) (by decide)
theorem awh{w:ByteArray}(h:w∈[bs [65,69,83],bs [88,69,84,65],bs [83,77,73,84,89,65],bs [67,74,65,88],bs [65,78,78,69]]):V9 w:=by
 simp only[List.mem_cons,List.not_mem_nil,or_false] at h
 rcases h with rfl|rfl|rfl|rfl|rfl<;>exact aah (by decide) (by decide)
def mT:List ByteArray:=[bs [102,111,111,100],bs [98,114,101,97,100],bs [99,108,111,116,104],bs [104,97,116,115],bs [119,111,111,100],bs [105,114,111,110],bs [98,101,101,114],bs [105,110],bs [115,101,101]]
def oL:List ByteArray:=[bs [98,97,107,101,114],bs [98,97,107,101,114,115],bs [98,111,110,110,101,116,115],bs [98,114,101,119,101,114],bs [98,114,117,115,104,101,115],bs [98,117,116,99,104,101,114],bs [99,97,110,100,108,101,115],bs [99,111,111,112,101,114],bs [99,111,111,112,101,114,115],bs [99,117,116,108,101,114],bs [104,97,116,116,101,114],bs [104,111,115,105,101,114],bs [109,101,114,99,101,114],bs [109,105,108,108,105,110,101,114],bs [116,97,105,108,111,114],bs [116,97,110,110,101,114]]
theorem E3{T:TypeId}{n:Nat}{enc:α→List Value}(ps:List α)(hn:ps.length=n)(hl:∀p∈ps,(enc p).length=sz):az (.slice (some ⟨b,0,none⟩) n n) sz T enc ps [(b,.cells ⟨(ps.map enc).flatten⟩ T (0,0))]:=by
 subst hn
 exact .inr ⟨b,_,ps.length,rfl,rfl,jR ps hl,Nat.le_refl _,hl,by rw[←jR ps hl,List.take_length]⟩
theorem Qv{s t w:ByteArray}(h:∀b∈s.data.toList,b∈w.data.toList)(k:∀b∈t.data.toList,b∈w.data.toList):∀b∈(s++t).data.toList,b∈w.data.toList:=fun b hb=>by
 rw[ByteArray.data_append,Array.toList_append,List.mem_append] at hb
 exact hb.elim (h b) (k b)
theorem MU{w:ByteArray}(i j:Nat):∀b∈(w.extract i j).data.toList,b∈w.data.toList:=fun b hb=>by
 rw[ByteArray.data_extract,Array.toList_extract] at hb
 exact List.mem_of_mem_drop (List.mem_of_mem_take (by simpa [List.extract] using hb))
theorem QI{s w:ByteArray}(h:∀b∈s.data.toList,b∈w.data.toList)(hw:Script w):Script s:=hw.imp (fun k b hb=>k b (h b hb)) (fun k b hb=>k b (h b hb))
theorem VJ{ro:Nat→Option Obj}(hN:Dn ro vd xs)(hD:bD vd xs d X):eo zT 31 [zP d,zI 3] ro X (fun r Y=>∃w:ByteArray,r= .string w∧LZ w∧bD vd xs d Y):=by
 refine bA au [.l X] [] bn<|zD 7<|jn fun rI=>YQ (vs:=[zP d,.slice (some ⟨rI,0,none⟩) 5 5]) [1] [0] [(rI,.cells ⟨([(bs [97,101,115]),(bs [115,104,101,116,97]),(bs [115,109,105,116,121,104,97]),(bs [99,104,106,97]),(bs [97,110,110,101])].map oU).flatten⟩ 9 (0,0))] (fun aA hs hZ=>VI (hN.up hs) hD (bS [(bs [97,101,115]),(bs [115,104,101,116,97]),(bs [115,109,105,116,121,104,97]),(bs [99,104,106,97]),(bs [97,110,110,101])] hZ.head (by intro p hp;rfl)) (by decide)) ?_
 rintro _ X11 ⟨w11,rfl,aNf,aRq⟩
 refine zD 6<|jc (vs:=[zP d,zI 3]) [0] (sJ hN aRq (by omega)) ?_
 rintro _ X13 ⟨w13,rfl,akd⟩
 refine zD 1<|IT [1,1,1] [] (fun(zz:ByteArray×Cells)=>[(0,zP d),(1,zI 3),(4,.string (bs [])),(5,.string zz.1)]) (fun(zz:ByteArray×Cells)=>[.l zz.2]) (fun(zz:ByteArray×Cells)=>V9 zz.1∧bD vd xs d zz.2) ?_ (fun K1 bM=>?_)
 ·
  rintro⟨w,X⟩ hJ rest
  dsimp only at hJ
  obtain⟨⟨U8,hw7⟩,rq⟩:=hJ.1
  refine zD 9<|jmn (k:= .i64) (a:=3) (b:=6)<|jc (vs:=[zP d,zI 1,zI (min 3 6)]) [0] (An hN hJ.2 (by omega) (by omega)) ?_
  rintro _ X20 ⟨Zp,rfl,aqn,KG,aem⟩
  refine zD 3<|ez [1,1,1,1,0,1,0,0] [] (fun(zz:Int×ByteArray×Cells)=>[(0,zP d),(4,.string (bs [])),(5,.string w),(6,.string zz.2.1),(7,zI zz.1)]) (fun(zz:Int×ByteArray×Cells)=>[.l zz.2.2]) (fun(zz:Int×ByteArray×Cells)=>(0≤zz.1∧zz.2.1.size+zz.1=Zp)∧(∀b∈zz.2.1.data.toList,b∈w.data.toList)∧bD vd xs d zz.2.2) (fun(zz:Int×ByteArray×Cells)=>zz.1.toNat) (⟨Zp,bs [],X20⟩) ⟨⟨by omega,by simp[bs,ByteArray.size]⟩,(fun _ h=>by simp[bs] at h),aem⟩ [0] ?_
  rintro⟨j,t,Z⟩ hI K2 mo rest
  dsimp only at hI
  refine zD 6<|zJ 22 (j>0) (fun h1=>?_) fun h1=>?_
  ·
   refine zD 9<|ja ((w.size:Int)-1) (by omega)<|jc (vs:=[zP d,zI ((w.size:Int)-1)]) [0] (Du hN hI.2.2 (by omega)) ?_
   rintro _ X29 ⟨w29,rfl,bbl,zp,aRj⟩
   refine zD 7<|ja (w29+1) (by omega)<|jtB (b:=w) (lo:=w29) (hi:=(w29+1)) (by omega)<|jsa (a:=t) (b:=(w.extract w29.toNat (w29+1).toNat)) 9 (by rw[ByteArray.size_extract];omega) ?_
   refine zD 4<|ja (j-1) (by omega)<|zD 2<|bO mo (⟨j-1,(t++(w.extract w29.toNat (w29+1).toNat)),X29⟩) ⟨⟨by omega,by rw[ByteArray.size_append,ByteArray.size_extract];omega⟩,Qv hI.2.1 (MU _ _),aRj⟩ (by omega) [0] (Sub.refl _)
  refine zD 8<|aE q0 (.string t) [] [0] Z (Sub.refl _) ⟨_,_,rfl,rfl,_,rfl,⟨by omega,QI hI.2.1 rq⟩,hI.2.2⟩
 refine js 13 w13 (fun h2=>?_) (fun h2=>?_)
 ·
  subst h2
  refine zD 3<|jn fun lM=>YQ (vs:=[zP d,.slice (some ⟨lM,0,none⟩) 5 5]) [1] [0] [(lM,.cells ⟨([(bs [65,69,83]),(bs [88,69,84,65]),(bs [83,77,73,84,89,65]),(bs [67,74,65,88]),(bs [65,78,78,69])].map oU).flatten⟩ 9 (0,0))] (fun aA hs hZ=>VI (hN.up hs) akd (bS [(bs [65,69,83]),(bs [88,69,84,65]),(bs [83,77,73,84,89,65]),(bs [67,74,65,88]),(bs [65,78,78,69])] hZ.head (by intro p hp;rfl)) (by decide)) ?_
  rintro _ X16 ⟨w16,rfl,ayB,aen⟩
  refine zD 2<|bO bM ⟨w16,X16⟩ ⟨awh ayB,aen⟩ Nat.zero_lt_one [0] (Sub.refl _)
 subst h2
 refine zD 2<|bO bM ⟨w11,X13⟩ ⟨awi aNf,akd⟩ Nat.zero_lt_one [0] (Sub.refl _)
theorem ab4{ro:Nat→Option Obj}:eo zT 57 [] ro [] (fun r Y=>∃L,az r 1 9 oU mT L∧Y=L):=by
 refine bA au [] [] bn<|zD 6<|jn fun b1=>zD 3<|aE q0 (.slice (some ⟨b1,0,none⟩) 9 9) [] [0] [(b1,.cells ⟨[.string (bs [102,111,111,100]),.string (bs [98,114,101,97,100]),.string (bs [99,108,111,116,104]),.string (bs [104,97,116,115]),.string (bs [119,111,111,100]),.string (bs [105,114,111,110]),.string (bs [98,101,101,114]),.string (bs [105,110]),.string (bs [115,101,101])]⟩ 9 (0,0))] (Sub.refl _) ⟨_,_,rfl,rfl,_,E3 mT rfl (by intro p hp;rfl),rfl⟩
theorem aci{ro:Nat→Option Obj}:eo zT 59 [] ro [] (fun r Y=>∃L,az r 1 9 oU oL L∧Y=L):=by
 refine bA au [] [] bn<|zD 6<|jn fun b1=>zD 3<|aE q0 (.slice (some ⟨b1,0,none⟩) 16 16) [] [0] [(b1,.cells ⟨[.string (bs [98,97,107,101,114]),.string (bs [98,97,107,101,114,115]),.string (bs [98,111,110,110,101,116,115]),.string (bs [98,114,101,119,101,114]),.string (bs [98,114,117,115,104,101,115]),.string (bs [98,117,116,99,104,101,114]),.string (bs [99,97,110,100,108,101,115]),.string (bs [99,111,111,112,101,114]),.string (bs [99,111,111,112,101,114,115]),.string (bs [99,117,116,108,101,114]),.string (bs [104,97,116,116,101,114]),.string (bs [104,111,115,105,101,114]),.string (bs [109,101,114,99,101,114]),.string (bs [109,105,108,108,105,110,101,114]),.string (bs [116,97,105,108,111,114]),.string (bs [116,97,110,110,101,114])]⟩ 9 (0,0))] (Sub.refl _) ⟨_,_,rfl,rfl,_,E3 oL rfl (by intro p hp;rfl),rfl⟩
structure bp where
 word:ByteArray
 cls:Int
 nK:Int
 dQ:Value
abbrev lK(x:bp):List Value:=[.string x.word,zI x.cls,zI x.nK,x.dQ]
def Tu(hs:List bp)(i:Int):Prop:=0≤i∧∃h,hs[i.toNat]?=some h∧0≤h.cls
theorem Te{p:α→Bool}{l:List α}{x:α}(h:l[k]?=some x):(l.drop k).any p=(p x||(l.drop (k+1)).any p):=by rw[fN h];rfl
theorem akU{p:α→Bool}{l:List α}(h:¬k <l.length):(l.drop k).any p=false:=by rw[eF h];rfl
def TJ(fs:List gV)(a b:Int):Bool:=fs.any fun y=>decide (y.a=a)&&decide (y.b=b)
theorem wN{vc vh:Value}{hs:List bp}{ro:Nat→Option Obj}(hN:Dn ro vd xs)(hD:bD vd xs d X)(hh:bI ro vh 4 lK hs)(hn:hs.length≤100):eo zT 30 [zP d,.agg ⟨[zI 2,zI 0,zI 0,vc,vh,zS,zS]⟩,.string nm] ro X (fun r Y=>∃w:aF,r= .agg ⟨eQ w⟩∧w.name=nm∧(0≤w.st∧w.st≤1)∧(w.head= -1∨Tu hs w.head)∧bD vd xs d Y):=by
 obtain⟨dJ,uK,uJ,dr,rfl,wZ,qB,qA⟩:=hh
 refine bA au [.l X] [] bn<|zD 2<|jn fun b4=>jn fun b6=>jd 8 [1]<|jc (vs:=[zP d,zI 1]) [2] (Du hN hD (by omega)) ?_
 rintro _ X15 ⟨w15,rfl,aNd,acx,asG⟩
 refine zD 2<|jc (vs:=[zP d,zI 1,zI 3]) [0] (An hN asG (by omega) (by omega)) ?_
 rintro _ X18 ⟨w18,rfl,bbp,bbd,ON⟩
 refine zD 1<|jc (vs:=[zP d,zI 1,zI 3]) [0] (An hN ON (by omega) (by omega)) ?_
 rintro _ X20 ⟨Zp,rfl,aqn,KG,aem⟩
 refine zD 1<|jc (vs:=[zP d,zI 1,zI 40]) [0] (An hN aem (by omega) (by omega)) ?_
 rintro _ X22 ⟨w22,rfl,bbo,tI,aRm⟩
 refine jn fun b23=>YQ (vs:=[zP d,.slice (some ⟨b23,0,none⟩) 3 3]) [1] [0] [(b23,.cells ⟨([w18,Zp,w22].map cJ).flatten⟩ 3 (0,0))] (fun aA hs hZ=>afz (hN.up hs) aRm (bS [w18,Zp,w22] hZ.head (by intro p hp;rfl)) (by simp)) ?_
 rintro _ X24 ⟨w24,rfl,bbn,aRl⟩
 refine zD 1<|jc (vs:=[zP d,zI 4]) [0] (sJ hN aRl (by omega)) ?_
 rintro _ X26 ⟨w26,rfl,aCV⟩
 refine zD 1<|jn fun b7=>jd 12 [0]<|pQ<|ez [1,1,1,0,1,0,0] [] (fun(zz:Nat×Value×Cells×(List Int))=>[(0,zP d),(4,zP b4),(6,zP b6),(7,zP b7),(8,zz.2.1),(9,zI (zz.1:Int))]) (fun(zz:Nat×Value×Cells×(List Int))=>[.l zz.2.2.1,.l X26,.b b7 (.cells ⟨[.string nm,zI w15,zI w24,zI (-1),.bool w26]⟩ 86 (0,0)),.b b6 (.cells ⟨[.string ByteArray.empty,zI 0,zI 0,zI 0,.bool false]⟩ 86 (0,0)),.b b4 (.cells ⟨[zI 2,zI 0,zI 0,vc,.slice dJ hs.length dr,zS,zS]⟩ 83 (0,0))]) (fun(zz:Nat×Value×Cells×(List Int))=>(zz.1≤hs.length∧zz.2.2.2.length≤zz.1)∧az zz.2.1 1 3 cJ zz.2.2.2 zz.2.2.1∧∀i∈zz.2.2.2,Tu hs i) (fun(zz:Nat×Value×Cells×(List Int))=>hs.length-zz.1) (⟨0,zS,[],[]⟩) ⟨⟨by omega,by simp⟩,az.nil _ _ _,(fun _ h=>by cases h)⟩ [0,2,1,4,5] ?_
 rintro⟨k,v,L,ps⟩ hI K1 bM rest
 dsimp only at hI
 refine jd 10 [4]<|zJ 33 ((k:Int) <(hs.length:Int)) (fun h1=>?_) fun h1=>?_
 ·
  refine jd 10 [4] ?_
  obtain⟨x40,aqh⟩:=zG hs k
  refine ij dr 4 qB aqh<|zD 1<|jl 1 (qA _ _ aqh)<|zD 2<|zJ 43 (x40.cls≥0) (fun h2=>?_) fun h2=>?_
  ·
   refine zD 4<|jn fun b46=>ku (sz:=1) (ps:=ps) (qs:=[(k:Int)]) (enc:=cJ) (w:= .slice (some ⟨b46,0,none⟩) 1 1) [1] [0] [(b46,.cells ⟨([(k:Int)].map cJ).flatten⟩ 3 (0,0))] (hI.2.1) (fun s _ hZ=>bX [(k:Int)] (hZ _ (.head _)) (by intro p hp;rfl)) (fun p _=>an rfl) (by simp<;>omega) (fun v47 L47 acY=>?_)
   obtain⟨aIU,aIw,aO8⟩:=acY.form
   subst aO8
   refine zD 4<|ja ((k:Int)+1) (by omega)<|zD 2<|bO bM (⟨k+1,(.slice aIU ((ps++[(k:Int)])).length aIw),L47,(ps++[(k:Int)])⟩) ⟨by simp only[List.length_append,List.length_cons,List.length_nil];omega,acY,qi hI.2.2 ⟨by omega,x40,aqh,by assumption⟩⟩ (by omega) [0,2,3,4,5] (Sub.refl _)
  refine zD 4<|ja ((k:Int)+1) (by omega)<|zD 2<|bO bM (⟨k+1,v,L,ps⟩) ⟨by dsimp only;omega,hI.2⟩ (by omega) [0,1,2,3,4] (Sub.refl _)
 refine zD 6<|DX hI.2.1<|zD 2<|js 51 (decide ((ps.length:Int)>0)) (fun h3=>?_) (fun h3=>?_)
 ·
  have sC:=h3
  replace sC:=of_decide_eq_true sC
  refine zD 1<|jc (vs:=[zP d,zI 4]) [1] (sJ hN aCV (by omega)) ?_
  rintro _ X53 ⟨w53,rfl,akc⟩
  refine zD 3<|js 55 (!w53) (fun h4=>?_) (fun h4=>?_)
  ·
   try simp only[zB] at h4
   refine zD 5<|DX hI.2.1<|ja ((ps.length:Int)-1) (by omega)<|jc (vs:=[zP d,zI ((ps.length:Int)-1)]) [0] (Du hN akc (by omega)) ?_
   rintro _ X61 ⟨w61,rfl,bbi,bbc,aRd⟩
   obtain⟨x62,aqe⟩:=zG ps (w61.toNat)
   refine pP w61 1 hI.2.1 aqe (by omega) fun b62 aPP=>oJ 0 [1] L (fun s _ hZ=>cv hI.2.1 aPP hZ aqe)<|jd 9 [2,2,3]<|aE q0 (.agg ⟨[.string nm,zI w15,zI w24,zI x62,.bool w26]⟩) [3] [0] X61 (Sub.refl _) ⟨_,_,rfl,rfl,⟨_,_,_,_,_⟩,rfl,rfl,(by dsimp only;omega),.inr (hI.2.2 _ (List.mem_of_getElem? aqe)),aRd⟩
  try simp only[zB] at h4
  refine jd 8 [2,3]<|aE q0 (.agg ⟨[.string nm,zI w15,zI w24,zI (-1),.bool w26]⟩) [3] [0] X53 (Sub.refl _) ⟨_,_,rfl,rfl,⟨_,_,_,_,_⟩,rfl,rfl,(by dsimp only;omega),.inl rfl,akc⟩
 have sC:=h3
 replace sC:=of_decide_eq_false sC
 refine jd 13 [2,3]<|aE q0 (.agg ⟨[.string nm,zI w15,zI w24,zI (-1),.bool w26]⟩) [3] [1] X26 (Sub.refl _) ⟨_,_,rfl,rfl,⟨_,_,_,_,_⟩,rfl,rfl,(by dsimp only;omega),.inl rfl,aCV⟩
theorem ax8{vf:Value}{fs:List gV}{x:gV}{ro:Nat→Option Obj}(hf:bI ro vf 3 vM fs)(hn:fs.length≤1000):dz zT 16 [.agg ⟨[s0,s1,s2,t0,t1,ru,vb,va,zI gone,zI new,zI af,vf]⟩,.agg ⟨[zI x.a,zI x.b,.bool x.same]⟩] ro (.bool (TJ fs x.a x.b)):=by
 obtain⟨nO,Hu,Ht,mf,rfl,Mh,Bb,Ba⟩:=hf
 refine bA au [] [] bn<|zD 2<|jn fun b2=>jn fun b3=>zD 8<|ez [1,0,1,0,0] [] (fun(zz:Nat)=>[(2,zP b2),(3,zP b3),(5,zI (zz:Int))]) (fun(zz:Nat)=>[.b b3 (.cells ⟨[zI x.a,zI x.b,.bool x.same]⟩ 57 (0,0)),.b b2 (.cells ⟨[s0,s1,s2,t0,t1,ru,vb,va,zI gone,zI new,zI af,.slice nO fs.length mf]⟩ 38 (0,0))]) (fun(zz:Nat)=>zz≤fs.length∧TJ fs x.a x.b=(fs.drop zz).any (fun y=>decide (y.a=x.a)&&decide (y.b=x.b))) (fun(zz:Nat)=>fs.length-zz) 0 ⟨by omega,rfl⟩ [0,1] ?_
 rintro k hI K1 bM rest
 refine jd 9 [1]<|zJ 10 ((k:Int) <(fs.length:Int)) (fun h1=>?_) fun h1=>?_
 ·
  refine jd 9 [1] ?_
  obtain⟨AT,oz⟩:=zG fs k
  refine ij mf 3 Bb oz<|zD 1<|jl 0 (Ba _ _ oz)<|jd 4 [0]<|js 9 (decide (AT.a=x.a)) (fun h2=>?_) (fun h2=>?_)
  ·
   have kF:=h2
   replace kF:=of_decide_eq_true kF
   refine jd 3 [1] ?_
   obtain⟨qZ,zq⟩:=zG fs k
   refine ij mf 3 Bb zq<|zD 1<|jl 1 (Ba _ _ zq)<|jd 5 [0]<|zJ 32 (qZ.b=x.b) (fun h3=>?_) fun h3=>?_
   ·
    refine zD 6<|aE q0 (.bool true) [] [] [] (Sub.refl _) ⟨_,_,rfl,rfl,by rw[hI.2,Te oz];simp_all,rfl⟩
   refine zD 4<|ja ((k:Int)+1) (by omega)<|zD 2<|bO bM (k+1) ⟨by omega,by rw[hI.2,Te oz];simp_all⟩ (by omega) [0,1] (Sub.refl _)
  have kF:=h2
  replace kF:=of_decide_eq_false kF
  refine zD 15<|ja ((k:Int)+1) (by omega)<|zD 2<|bO bM (k+1) ⟨by omega,by rw[hI.2,Te oz];simp_all⟩ (by omega) [0,1] (Sub.refl _)
 refine zD 7<|aE q0 (.bool false) [] [] [] (Sub.refl _) ⟨_,_,rfl,rfl,by rw[hI.2,akU (by omega)],rfl⟩
theorem aR1{fa:Value}{uo Jp:List aF}{ro:Nat→Option Obj}(hN:Dn ro vd xs)(hD:bD vd xs d X)(hb:bI ro vb 5 eQ uo)(ha:bI ro va 5 eQ Jp)(hn:uo.length≤100∧Jp.length≤100):eo zT 19 [zP d,.agg ⟨[s0,s1,s2,t0,t1,ru,vb,va,zI gone,zI new,zI af,fa]⟩] ro X (fun r Y=>∃x:gV,r= .agg ⟨vM x⟩∧(0≤x.a∧(x.a <uo.length∨x.a=0))∧(0≤x.b∧(x.b <Jp.length∨x.b=0))∧bD vd xs d Y):=by
 obtain⟨pF,WV,WT,oZ,rfl,WU,Uj,Ui⟩:=hb
 obtain⟨pd,Um,Uk,oN,rfl,Ul,Q6,Q5⟩:=ha
 refine bA au [.l X] [] bn<|zD 2<|jn fun b3=>jn fun b4=>jd 7 [1]<|ja ((uo.length:Int)-1) (by omega)<|jd 4 [1]<|ja ((Jp.length:Int)-1) (by omega)<|zD 1<|aN 5 fun CN CZ AQ=>jc (vs:=[zP d,zI ((uo.length:Int)-1)]) [2] (Du hN hD (by omega)) ?_
 rintro _ X10 ⟨w10,rfl,acE,rn,SD⟩
 refine iS AQ [[2],[2]]<|aN 11 fun CM CY BG=>jc (vs:=[zP d,zI ((Jp.length:Int)-1)]) [0] (Du hN SD (by omega)) ?_
 rintro _ X16 ⟨w16,rfl,ayB,oz,aen⟩
 refine iS BG [[2],[2]]<|aN 13 fun sW sZ rD=>jc (vs:=[zP d,zI 2]) [0] (sJ hN aen (by omega)) ?_
 rintro _ X18 ⟨w18,rfl,ON⟩
 refine iS rD [[2],[2]]<|zD 1<|aN 15 fun uv uw sB=>jd 1 [1]<|eO sB<|zD 2<|aE q0 (.agg ⟨[zI w10,zI w16,.bool w18]⟩) [1] [0] X18 (Sub.refl _) ⟨_,_,rfl,rfl,⟨_,_,_⟩,rfl,(by dsimp only;omega),(by dsimp only;omega),ON⟩
inductive dD{α β:Type}(R:α→β→Prop):List α→List β→Prop
 |nil:dD R [] []
 |cons {a:α} {b:β} {l:List α} {m:List β}:R a b→dD R l m→dD R (a::l) (b::m)
theorem dD.snoc{R:α→β→Prop}{l:List α}{m:List β}{a:α}{b:β}(h:dD R l m)(k:R a b):dD R (l++[a]) (m++[b]):=by
 induction h with
 |nil=>exact .cons k .nil
 |cons h1 _ ih=>exact .cons h1 ih
theorem dD.len{R:α→β→Prop}{l:List α}{m:List β}(h:dD R l m):l.length=m.length:=by
 induction h with
 |nil=>rfl
 |cons _ _ ih=>simp[ih]
theorem dD.get{R:α→β→Prop}{l:List α}{m:List β}(h:dD R l m){a:α}(ha:l[i]?=some a):∃b,m[i]?=some b∧R a b:=by
 induction h generalizing i with
 |nil=>simp at ha
 |cons h1 _ ih=>
  cases i with
  |zero=>simp at ha;subst ha;exact⟨_,rfl,h1⟩
  |succ i=>exact ih (by simpa using ha)
theorem dD.imp{R S:α→β→Prop}{l:List α}{m:List β}(h:dD R l m)(k:∀a b,R a b→S a b):dD S l m:=by
 induction h with
 |nil=>exact .nil
 |cons h1 _ ih=>exact .cons (k _ _ h1) ih
structure bZ where
 word:ByteArray
 cls:Int
 nK:Int
 dQ:List Int
def dq(h:bp)(x:bZ):Prop:=h.word=x.word∧h.cls=x.cls∧h.nK=x.nK
def qW(ro:Nat→Option Obj)(h:bp)(x:bZ):Prop:=h.word=x.word∧h.cls=x.cls∧h.nK=x.nK∧bI ro h.dQ 1 cJ x.dQ
def jz(ro:Nat→Option Obj)(vc vh:Value)(cs:List bF)(hv:List bp)(hd:List bZ):Prop:=bI ro vc 2 oD cs∧bI ro vh 4 lK hv∧dD (qW ro) hv hd
def gB(nc nh:Nat)(i:Nat)(x:bZ):Prop:=(-1≤x.cls∧x.cls <nc)∧(-1≤x.nK∧x.nK <nh∧x.nK≠i)∧(x.dQ.length≤nh∧x.dQ.Pairwise (· < ·)∧∀y∈x.dQ,0≤y∧y <nh∧y≠i)∧(x.nK≠ -1→x.cls= -1∧x.dQ=[])∧(x.nK= -1→x.cls= -1→x.dQ≠[])
structure wj(cs:List bF)(hd:List bZ):Prop where
 nc:0 <cs.length∧cs.length≤3
 nh:hd.length≤4
 cls:∀(i:Nat) (c:bF),cs[i]?=some c→c.name∈mT∧ -1≤c.under∧c.under <i
 names:(cs.map (·.name)).Pairwise fun a b=>cH a b=false
 zx:∀(i:Nat) (x:bZ),hd[i]?=some x→x.word∈oL∧gB cs.length hd.length i x
 words:(hd.map (·.word)).Pairwise fun a b=>cH a b=false∧strLt b a=false
def nz(names:List Int)(cs:List bF):Prop:=∀(i:Nat) (c:bF),cs[i]?=some c→(∃y,names[i]?=some y∧mT[y.toNat]?=some c.name)∧ -1≤c.under∧c.under <i
theorem OX{l:List α}{x y:α}(h:(l++[x])[i]?=some y):l[i]?=some y∨(i=l.length∧y=x):=by
 rcases Nat.lt_trichotomy i l.length with h1|h1|h1
 ·rw[List.getElem?_append_left h1] at h;exact .inl h
 ·subst h1;simp at h;exact .inr ⟨rfl,h.symm⟩
 rw[List.getElem?_eq_none (by simp;omega)] at h;cases h
theorem nz.snoc{names:List Int}{cs:List bF}(h:nz names cs){y u:Int}(h1:names[cs.length]?=some y) (h2:mT[y.toNat]?=some nm) (h3: -1≤u∧u <cs.length):nz names (cs++[⟨nm,u⟩]):=fun i c hc=>by
 rcases OX hc with h4| ⟨rfl,rfl⟩
 ·exact h i c h4
 exact⟨⟨y,h1,h2⟩,h3⟩
def mA(ws:List Int)(nc:Nat)(hv:List bp)(hd:List bZ)(Z:Cells)(i:Nat):Prop:=
 (∀ro,Knows ro Z→dD (qW ro) hv hd)∧hd.length=i∧hv.length=i∧(∀(k:Nat) (x:bZ),hd[k]?=some x→(∃w,ws[k]?=some w∧oL[w.toNat]?=some x.word)∧gB nc ws.length k x)∧dD dq hv hd
theorem mA.snoc{ws:List Int}{nc:Nat}{hv:List bp}{hd:List bZ}{Z A:Cells}(h:mA ws nc hv hd Z i){hV:bp}{x:bZ}{w:Int}(h0:dq hV x)(h1:∀ro,Knows ro A→qW ro hV x)(h2:ws[i]?=some w) (h3:oL[w.toNat]?=some x.word) (h4:gB nc ws.length i x):
 mA ws nc (hv++[hV]) (hd++[x]) (A++Z) (i+1):=by
 obtain⟨g1,g2,g3,g4,g5⟩:=h
 refine⟨fun ro hk=>(g1 ro hk.right).snoc (h1 ro hk.left),by simp[g2],by simp[g3],fun k y hy=>?_,g5.snoc h0⟩
 rcases OX hy with h5| ⟨rfl,rfl⟩
 ·exact g4 k y h5
 rw[g2];exact⟨⟨w,h2,h3⟩,h4⟩
theorem aiK{i w:Int}(hi:0≤i∧i <n)(hw:0≤w∧w≤n-2):0≤Int.tmod (i+1+w) n∧Int.tmod (i+1+w) n <n∧Int.tmod (i+1+w) n≠i:=by
 have h1:=Int.tmod_nonneg n (show 0≤i+1+w by omega)
 have h2:=Int.tmod_lt_of_pos (i+1+w) (show 0 <n by omega)
 refine⟨h1,h2,fun h=>?_⟩
 have h3:=Int.tmod_add_mul_tdiv (i+1+w) n
 rw[h] at h3
 have h4:n*(i+1+w).tdiv n=1+w:=by omega
 rcases Int.lt_trichotomy ((i+1+w).tdiv n) 0 with h5|h5|h5
 ·have:n*(i+1+w).tdiv n≤n* -1:=Int.mul_le_mul_of_nonneg_left (by omega) (by omega)
  omega
 ·rw[h5] at h4;omega
 have:n*1≤n*(i+1+w).tdiv n:=Int.mul_le_mul_of_nonneg_left (by omega) (by omega)
 omega
theorem Cb:mT.Pairwise fun a b=>cH a b=false:=by simp only[yZ];decide
theorem S5:oL.Pairwise fun a b=>cH a b=false∧strLt b a=false:=by simp only[yZ,MW];decide
end Go.L
