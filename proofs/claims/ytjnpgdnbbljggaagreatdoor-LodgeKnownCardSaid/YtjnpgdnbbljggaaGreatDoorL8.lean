/- Part 8 of the proof. -/
import Derived.Test.YtjnpgdnbbljggaaGreatDoorL7
import Derived.Conc.Own
import Derived.KernelRfl
import Derived.Lib.UnsafeStr
import Derived.Test.YtjnpgdnbbljggaaGreatDoorProg
set_option maxRecDepth 100000
set_option maxHeartbeats 4000000
set_option linter.all false
namespace Go.L
open Go Go.Conc
variable {ro pE:Nat→Option Obj} {o:Option JS} {α β ι:Type} {f:FuncId} {Φ:Value→(Nat→Option Obj)→Cells→Prop} {v vl:Value} {t x b:ByteArray} {ats:Array TypeId} {i n sz bL b1 many b2 off b3 bl bm bt br bg b4:Nat} {xs ys l:List ByteArray} {args:List Value} {p:ByteArray×ByteArray} {s EH eB:List Frame} {todo:List Nat} {E T:TypeId} {y:Operand} {Stop:Cells→Prop} {fn:Func} {D S r hi:Int} {ca:Array Value} {fr:Cells} {cl:Frame} {ag:Bool}
def rnM(P:Program):Sem α→List Nat→Cells→List (Nat×Nat)→Option (α×Cells×List (Nat×Nat))
 | .pure a,_,B,q=>some (a,B,q)
 | .load m a k,h::hs,B,q=>match m,a.spot,B[h]? with
  | .plain,none,some (b,.cells c _ _)=>match c[a.off]? with
   |some v=>rnM P (k v) hs B ((a.block,b)::q)
   |none=>none
  |_,_,_=>none
 | .shape r k,h::hs,B,q=>match B[h]? with
  |some (b,o)=>rnM P (k (Obj.shapeOf o)) hs B ((r,b)::q)
  |none=>none
 | .program k,hs,B,q=>rnM P (k P) hs B q
 |_,_,_,_=>none
theorem ari{P:Program}:∀(m:Sem α) {hs:List Nat} {B B':Cells} {q q':List (Nat×Nat)} {v:α},rnM P m hs B q=some (v,B',q')→(∀p∈q',p.1=p.2)→
 (∀p∈q,p∈q')∧B'=B∧∀(s:St) (Q:α→St→Prop) (E:Halt→St→Prop),(∀x∈B,s.has x.1 x.2)→Q v s→cu P m s Q E:=by
 intro m
 induction m with
 |pure a=>intro hs B B' q q' v h _;simp only[rnM,Option.some.injEq,Prod.mk.injEq] at h;obtain⟨rfl,rfl,rfl⟩:=h;exact⟨fun _ h=>h,rfl,fun _ _ _ _ h=>h⟩
 |load m a k ih=>
  intro hs B B' q q' v h hq
  cases hs with
  |nil=>cases h
  |cons j hs=>
   unfold rnM at h
   split at h<;>try (cases h;done)
   rename_i b c t fz OH hB
   split at h<;>try (cases h;done)
   rename_i u hu
   obtain⟨h1,h2,h3⟩:=ih _ h hq
   have KX:a.block=b:=hq _ (h1 _ List.mem_cons_self)
   refine⟨fun p hp=>h1 p (List.mem_cons_of_mem _ hp),h2,fun s Q E hs hQ=>⟨rfl,OH,c,t,fz,u,?_,hu,h3 s Q E hs hQ⟩⟩
   left;rw[KX];exact hs _ (List.mem_of_getElem? hB)
 |shape r k ih=>
  intro hs B B' q q' v h hq
  cases hs with
  |nil=>cases h
  |cons j hs=>
   simp only[rnM] at h
   split at h<;>try (cases h;done)
   rename_i b o hB
   obtain⟨h1,h2,h3⟩:=ih _ h hq
   have KX:r=b:=hq _ (h1 _ List.mem_cons_self)
   refine⟨fun p hp=>h1 p (List.mem_cons_of_mem _ hp),h2,fun s Q E hs hQ=>⟨o,?_,h3 s Q E hs hQ⟩⟩
   rw[KX];exact hs _ (List.mem_of_getElem? hB)
 |program k ih=>
  intro hs B B' q q' v h hq
  simp only[rnM] at h
  exact ih _ h hq
 |store=>intro hs B B' q q' v h hq;cases hs<;>cases h
 |new=>intro hs B B' q q' v h hq;cases hs<;>cases h
 |freeze=>intro hs B B' q q' v h hq;cases hs<;>cases h
 |frozen=>intro hs B B' q q' v h hq;cases hs<;>cases h
 |getObj=>intro hs B B' q q' v h hq;cases hs<;>cases h
 |setObj=>intro hs B B' q q' v h hq;cases hs<;>cases h
 |choose=>intro hs B B' q q' v h hq;cases hs<;>cases h
 |sys=>intro hs B B' q q' v h hq;cases hs<;>cases h
 |mark=>intro hs B B' q q' v h hq;cases hs<;>cases h
 |halt=>intro hs B B' q q' v h hq;cases hs<;>cases h
def acE:Op→Option (List Operand)
 | .call ⟨.builtin _,xs,_⟩=>some xs.toList
 |op=>GB op
theorem Py{o:Oper}{xs:List Operand}(h:acE o.op=some xs){f g:Operand→Value}(hfg:∀x∈xs,f x=g x):execOp f o=execOp g o:=by
 unfold acE at h
 split at h
 ·rename_i b xs at_ heq
  simp only[Option.some.injEq] at h;subst h
  have:xs.map f=xs.map g:=Array.map_congr_left fun a ha=>hfg a (by simpa using ha)
  simp only[execOp,heq,resolve,this]
 exact vn h hfg
def smV(P:Program)(n:Nat)(hs:List Nat)(B:Cells)(p:Oper)(e:Env):Option (Value×List (Nat×Nat)):=match acE p.op with
 |some xs=>match ze n e xs with
  |some _=>match rnM P (execOp (evj n e) p) hs B [] with
   |some (.value v,_,q)=>some (v,q)
   |_=>none
  |none=>none
 |none=>none
theorem Cs{γ:Type}{f:Oper→Env→Option β}{g:β→γ}:eJ n (fun p e=>(f p e).map g) o=(eJ n f o).map g:=by
 unfold eJ
 split
 ·unfold dB
  dsimp only
  split<;>rfl
 rfl
def smA(P:Program)(n:Nat)(hs:List Nat)(B:Cells)(p:Oper)(e:Env):Option Value:=(smV P n hs B p e).map (·.1)
def smL(P:Program)(n:Nat)(hs:List Nat)(B:Cells)(p:Oper)(e:Env):Option (List Nat):=(smV P n hs B p e).map fun x=>Vj x.2
def smR(P:Program)(n:Nat)(hs:List Nat)(B:Cells)(p:Oper)(e:Env):Option (List Nat):=(smV P n hs B p e).map fun x=>Tg x.2
section
variable {X:Cx} {o:Option JS}
theorem jmo(ps hs:List Nat)(B:Cells)(v:Value)(hj:J X (ni ps v B o))(hv:eJ X.n (smA X.P X.n hs B) o=some v:=by kernel_rfl)(hq:eJ X.n (smL X.P X.n hs B) o=eJ X.n (smR X.P X.n hs B) o:=by kernel_rfl)(hB:dA ps o=some B:=by kernel_rfl):J X o:=by
 rw[show smA X.P X.n hs B=fun p e=>(smV X.P X.n hs B p e).map (·.1) from rfl,Cs] at hv
 rw[show smL X.P X.n hs B=fun p e=>(smV X.P X.n hs B p e).map (fun x=>Vj x.2) from rfl,show smR X.P X.n hs B=fun p e=>(smV X.P X.n hs B p e).map (fun x=>Tg x.2) from rfl,Cs,Cs] at hq
 cases hx:eJ X.n (smV X.P X.n hs B) o with
 |none=>rw[hx] at hv;cases hv
 |some x=>
  rcases x with ⟨v',q⟩
  rw[hx] at hv hq
  simp only[Option.map_some,Option.some.injEq] at hv hq
  subst hv
  refine jS (Φ:=fun u L'=>u=v'∧L'=B) ps B hx hB (fun p e hf=>?_) (fun u L' pO=>by obtain⟨rfl,rfl⟩:=pO;exact hj)
  unfold smV at hf
  split at hf<;>try (cases hf;done)
  rename_i xs av
  split at hf<;>try (cases hf;done)
  rename_i ws KR
  split at hf<;>try (cases hf;done)
  rename_i u B' q2 bx
  simp only[Option.some.injEq,Prod.mk.injEq] at hf
  obtain⟨rfl,rfl⟩:=hf
  refine⟨fun c hc=>?_,fun R Q E hQ=>?_⟩
  ·rw[hc] at av;cases av
  rw[Py av (NL (f:=ev X.n e) (fun x v h=>aL h) KR)]
  obtain⟨_,_,h3⟩:=ari _ bx (nv hq)
  exact h3 _ _ _ (fun x hx=> .inr (List.mem_append_left _ hx)) (hQ _ _ ⟨rfl,rfl⟩)
theorem HY:∀(n t:Nat) (acc:Array Value),(Extern.BytealgMakeNoZero.digits n t acc).size=acc.size+n
 |0,_,_=>rfl
 |n+1,t,acc=>by
  simp only[Extern.BytealgMakeNoZero.digits,HY n,Array.size_push];omega
theorem jnz{ps rs:Array TypeId}{z:List Value}(ef:EF X.P f (Extern.BytealgMakeNoZero.makeNoZero ps rs))(hT:rs[0]?=some T) (tf:TF X.P T (.slice E) sz bL z ag) (hn:n≤1000)
 (hj:∀b l,n≤l.length→J X (ni [] (.slice (some ⟨b,0,none⟩) n l.length) [(b,.cells ⟨l⟩ E (0,0))] o)) (hv:eJ X.n (ag0 X.n) o=some (f,[.int .i64 (n:Int)]):=by kernel_rfl) (hB:dA [] o=some []:=by kernel_rfl):J X o:=by
 obtain⟨ops,i,todo,k,e,w,kn,p,rfl,ho,hw,hc⟩:=dD hv
 obtain⟨xs,at_,av,hx⟩:=NK hc
 intro bR
 rcases p with ⟨dst,op,ty,pos,dG,g⟩
 dsimp only at av;subst av
 refine ad0 X.hC ho hw ef hx ?_
 have eM:Extern.BytealgMakeNoZero.makeNoZero ps rs ⟨[Value.int .i64 (n:Int)]⟩=(do
  let some t:=rs[0]?|stuck "bytealg.MakeNoZero: no result type"
  let .slice elem ←underlying t|stuck "bytealg.MakeNoZero: slice type expected"
  if (n:Int) <0||(n:Int)>2^48 then runtimePanic (.error "makeslice: len out of range")
  let cap ←choose (.appendCap (n:Int).toNat 0 elem)
  askRoom cap
  let bytes ←choose (.extern "internal/bytealg.MakeNoZero.bytes" 0)
  let a ←newRow elem (Extern.BytealgMakeNoZero.digits cap bytes #[])
  pure (.slice (some a) (n:Int).toNat cap)):=rfl
 rw[eM]
 simp only[hT,a8 tf]
 rw[if_neg (by simp only[Bool.or_eq_true,decide_eq_true_eq];omega)]
 refine ab8 rfl fun q=>?_
 refine oF ?_
 show (if (Question.extern "internal/bytealg.MakeNoZero.bytes" 0).forced=true then _ else _)
 have key:∀cap bytes,n≤cap→cu X.P (newRow E (Extern.BytealgMakeNoZero.digits cap bytes #[]) >>= fun a=>pure (Value.slice (some a) ((n:Int).toNat) cap)) ⟨X.ro,den w⟩ (fun v s'=>ak X.C X.fn X.aF ops todo (KQ X k) (A X.n (upd dst v e) X.D) s') (fun _ _=>False):=by
  intro cap bytes ek
  rw[gF]
  intro b hb
  have hl:(Extern.BytealgMakeNoZero.digits cap bytes #[]).toList.length=cap:=by
   rw[Array.length_toList,HY];simp
  have:=hj b (Extern.BytealgMakeNoZero.digits cap bytes #[]).toList (by omega)
  rw[nV ho] at this
  have:=this bR
  simp only[JP,gA,hl,yL] at this
  exact this
 split
 ·exact key _ _ (by show n≤(n:Int).toNat+_;rw[Int.toNat_natCast];exact Nat.le_add_right _ _)
 exact fun q2=>key _ _ (by show n≤(n:Int).toNat+_;rw[Int.toNat_natCast];exact Nat.le_add_right _ _)
def sdV(n:Nat)(p:Oper)(e:Env):Option (Addr×Nat×Nat):=match p.op with
 | .call ⟨.builtin .unsafeSliceData,xs,_⟩=>match ze n e xs.toList with
  |some [.slice (some a) l c]=>some (a,l,c)
  |_=>none
 |_=>none
theorem jsd{a:Addr}{l c:Nat}(h:c≠0)(hj:J X (ni [] (.pointer (some a)) [] o))(hv:eJ X.n (sdV X.n) o=some (a,l,c):=by kernel_rfl)(hB:dA [] o=some []:=by kernel_rfl):J X o:=by
 refine jS (Φ:=fun u L'=>u= .pointer (some a)∧L'=[]) [] [] hv hB (fun p e hf=>?_) (fun u L' pO=>by obtain⟨rfl,rfl⟩:=pO;exact hj)
 unfold sdV at hf
 split at hf<;>try (cases hf;done)
 rename_i xs at_ av
 split at hf<;>try (cases hf;done)
 rename_i a' l' c' hx
 simp only[Option.some.injEq,Prod.mk.injEq] at hf
 obtain⟨rfl,rfl,rfl⟩:=hf
 refine⟨by rw[av];simp,fun R Q E hQ=>?_⟩
 have e1:Builtin.unsafeSliceData_ at_ p.type ⟨[.slice (some a') l' c']⟩=pure (.pointer (some a')):=by
  show (if c'≠0 then _ else _)=_
  rw[if_pos h]
 simp only[execOp,av,resolve,rC (show tP X.n e xs=_ from hx),aj,invoke,builtin,e1]
 exact hQ _ _ ⟨rfl,rfl⟩
def usV(P:Program)(n:Nat)(p:Oper)(e:Env):Option (Nat×TypeId):=match p.op with
 | .call ⟨.builtin .unsafeString,xs,at_⟩=>match at_[0]? with
  |some pt=>match aY P pt with
   |some ⟨.pointer E,_,_,_⟩=>bif Nat.beq (P.cellsOf E) 1 then (match ze n e xs.toList with
    |some [.pointer (some ⟨b,0,none⟩),.int .i64 1]=>some (b,E)
    |_=>none) else none
   |_=>none
  |none=>none
 |_=>none
theorem jus{b:Nat}(ps:List Nat)(x:Int)(l:List Value)(hj:∀L',J X (ni ps (.string ⟨#[x.toNat.toUInt8]⟩) L' o))(hv:eJ X.n (usV X.P X.n) o=some (b,E):=by kernel_rfl)(hB:dA ps o=some [(b,.cells ⟨.int .u8 x::l⟩ E (0,0))]:=by kernel_rfl):J X o:=by
 refine jS (Φ:=fun u L'=>u= .string ⟨#[x.toNat.toUInt8]⟩) ps _ hv hB (fun p e hf=>?_) (fun u L' pO=>by subst pO;exact hj L')
 unfold usV at hf
 split at hf<;>try (cases hf;done)
 rename_i xs at_ av
 split at hf<;>try (cases hf;done)
 rename_i pt hpt
 split at hf<;>try (cases hf;done)
 rename_i E' _ _ _ dP
 cases hc:Nat.beq (X.P.cellsOf E') 1 with
 |false=>rw[hc] at hf;cases hf
 |true=>
  rw[hc] at hf
  simp only[cond_true] at hf
  split at hf<;>try (cases hf;done)
  rename_i b' hx
  simp only[Option.some.injEq,Prod.mk.injEq] at hf
  obtain⟨rfl,rfl⟩:=hf
  have hc:=Nat.eq_of_beq_eq_true hc
  obtain⟨bL,tf⟩:=aB dP
  refine⟨by rw[av];simp,fun R Q Er hQ=>?_⟩
  have e1:Builtin.unsafeString_ at_ p.type ⟨[.pointer (some ⟨b',0,none⟩),.int .i64 1]⟩=(do
   let n ←asInt (.int .i64 1)
   let some pt:=at_[0]?|stuck "unsafe.String: no argument types"
   if n <0 then runtimePanic (.error "unsafe.String: len out of range")
   if n>IntKind.i64.max then unsupported (.unsafePointer "String: a length above the largest int")
   if n=0 then pure (.string .empty)
   else if ←variablesAt ⟨b',0,none⟩ (←elemOf pt) n.toNat then do
    let s ←loadBytes ⟨b',0,none⟩ .empty n.toNat
    freeze ⟨b',0,none⟩ n.toNat
    pure (.string s)
   else unsupported (.unsafePointer "String: not so many bytes at ptr")):=rfl
  simp only[execOp,av,resolve,rC (show tP X.n e xs=_ from hx),aj,invoke,builtin,e1]
  simp only[asInt,asIntOf,af,aj,hpt,show ¬((1:Int) <0) by omega,show ¬((1:Int)>IntKind.i64.max) by decide,show ¬((1:Int)=0) by omega,if_false,elemOf,a8 tf,variablesAt,eZ]
  have hs:(⟨X.ro,[(b',Obj.cells ⟨Value.int .u8 x::l⟩ E' (0,0))]++R⟩:St).rw=[]++(b',Obj.cells ⟨Value.int .u8 x::l⟩ E' (0,0))::R:=rfl
  have hm:(⟨X.ro,[(b',Obj.cells ⟨Value.int .u8 x::l⟩ E' (0,0))]++R⟩:St).has b' (.cells ⟨Value.int .u8 x::l⟩ E' (0,0)):= .inr (by rw[hs];exact eV)
  refine⟨_,hm,?_⟩
  have aCE:=Go.Lib.liesAt_bytes (P:=X.P) hc ((Value.int .u8 x::l).length / X.P.cellsOf E') 1 (by rw[hc];simp)
  have pb:∀ {α β:Type} (a:α) (f:α→Sem β),(Sem.pure a).bind f=f a:=fun _ _=>rfl
  simp only[Obj.shapeOf,List.size_toArray,af,aj,pb]
  rw[show (1:Int).toNat=1 from rfl,aCE]
  simp only[aj,af,if_true,loadBytes]
  refine⟨rfl,rfl,_,_,_,.int .u8 x,.inl hm,rfl,?_⟩
  simp only[af,aj]
  refine(if_neg (by omega:¬(1:Nat)=0)).mpr ?_
  refine⟨[],_,R,hs,?_⟩
  exact hQ (.string ⟨#[x.toNat.toUInt8]⟩) [(b',_)] rfl
def pnV(P:Program)(n:Nat)(p:Oper)(e:Env):Option (Nat×Nat):=match p.op with
 | .binOp .neq T x y _=>match aY P T with
  |some ⟨.pointer E,_,_,_⟩=>match aY P E with
   |some te=>bif Nat.blt 0 te.size then (match bA n e x with
    |some (.pointer (some ⟨b,0,none⟩))=>match bA n e y with
     |some (.pointer (some ⟨c,0,none⟩))=>some (b,c)
     |_=>none
    |_=>none) else none
   |none=>none
  |_=>none
 |_=>none
theorem amB{P:Program}{dep:Nat}{t:TypeId}{sz2 A9:Nat}{z z2:List Value}{ag2:Bool}(tf:TF P t (.pointer E) sz bL z ag){d:TypeDesc}(qY:TF P E d sz2 A9 z2 ag2)(hs:sz2≠0)(a:Addr):Yw P (dep+1) t (.pointer (some a)) (.pointer (some a)) true:=by
 intro α s kk Q Er
 simp only[Op.equalIn,af,a8 tf,cw qY,hs,ne_eq,not_false_eq_true,if_true,sameAddr,beq_self_eq_true,aj]
theorem jpn{b:Nat}(hj:J X (ni [] (.bool false) [] o))(hv:eJ X.n (pnV X.P X.n) o=some (b,b):=by kernel_rfl)(hB:dA [] o=some []:=by kernel_rfl):J X o:=by
 refine jS (Φ:=fun u L'=>u= .bool false∧L'=[]) [] [] hv hB (fun p e hf=>?_) (fun u L' pO=>by obtain⟨rfl,rfl⟩:=pO;exact hj)
 unfold pnV at hf
 split at hf<;>try (cases hf;done)
 rename_i T x y T2 av
 split at hf<;>try (cases hf;done)
 rename_i E' _ _ _ dP
 split at hf<;>try (cases hf;done)
 rename_i te qx
 cases hc:Nat.blt 0 te.size with
 |false=>rw[hc] at hf;cases hf
 |true=>
  rw[hc] at hf
  simp only[cond_true] at hf
  split at hf<;>try (cases hf;done)
  rename_i b' hx
  split at hf<;>try (cases hf;done)
  rename_i c' hy
  simp only[Option.some.injEq,Prod.mk.injEq] at hf
  obtain⟨rfl,rfl⟩:=hf
  obtain⟨bL,tf⟩:=aB dP
  obtain⟨A9,qY⟩:=aB qx
  have hc:0 <te.size:=by rwa[Nat.blt_eq] at hc
  refine⟨by rw[av];simp,fun R Q Er hQ=>?_⟩
  have hs:te.size≠0:=by omega
  simp only[execOp,av,aL hx,aL hy,eqGuard,af,binOp,Op.equal,Op.maxDepth]
  simp only[Bool.not_true,Bool.false_eq_true,if_false,aj,af]
  rw[amB (dep:=9999) tf qY hs]
  exact hQ _ _ ⟨rfl,rfl⟩
end
attribute [irreducible] smV smA smL smR sdV usV pnV
section
variable {X:Cx} {o:Option JS}
def s0V(P:Program)(n:Nat)(p:Oper)(e:Env):Option (Addr×Nat×Nat):=match p.op with
 | .slice T x none (some y) none=>match aY P T with
  |some ⟨.slice E,_,_,_⟩=>match aY P E with
   |some _=>match bA n e x with
    |some (.slice (some ⟨b,0,none⟩) l c)=>match bA n e y with
     |some (.int .i64 0)=>some (⟨b,0,none⟩,l,c)
     |_=>none
    |_=>none
   |none=>none
  |_=>none
 |_=>none
theorem js0{a:Addr}{l c:Nat}(hj:J X (ku (.slice (some a) 0 c) o))(hv:dB X.n (s0V X.P X.n) o=some (a,l,c):=by kernel_rfl):J X o:=by
 refine jG hv (fun s p e ho hh hf=>?_) hj
 unfold s0V at hf
 split at hf<;>try (cases hf;done)
 rename_i T x y av
 split at hf<;>try (cases hf;done)
 rename_i E _ _ _ dP
 split at hf<;>try (cases hf;done)
 rename_i te qx
 split at hf<;>try (cases hf;done)
 rename_i b l' c' hx
 split at hf<;>try (cases hf;done)
 rename_i hy
 simp only[Option.some.injEq,Prod.mk.injEq] at hf
 obtain⟨rfl,rfl,rfl⟩:=hf
 obtain⟨bL,tf⟩:=aB dP
 obtain⟨A9,qY⟩:=aB qx
 have key:∀s,Yields X.P X.n e p s (.slice (some ⟨b,0,none⟩) 0 c'):=by
  intro s s' kR f hf K E hK
  have hb:(0:Int)≤0∧(0:Int)≤(c':Int):=by omega
  simp only[execOp,av,Option.map_some,Option.map_none,Instr.sliceAt,Instr.slice,hf _ _ hx,hf _ _ hy,af,a8 tf,Instr.sliceBounds,Instr.sliceBound,asIntOf,aj,hb,and_self,if_true,cw qY]
  have he:(if c'=0 then (some ⟨b,0,none⟩:Option Addr) else some ((⟨b,0,none⟩:Addr).add (0*te.size)))=some ⟨b,0,none⟩:=by
   split
   ·rfl
   simp[ee]
  rw[show (0:Int).toNat=0 from rfl,he]
  exact hK
 exact⟨by rw[av];rfl,fun _=>key _,fun _=>key⟩
end
attribute [irreducible] s0V
section
variable {X:Cx} {o:Option JS}
def cpV(P:Program)(n:Nat)(p:Oper)(e:Env):Option Nat:=match p.op with
 | .call ⟨.builtin .cap,⟨[x]⟩,⟨[T]⟩⟩=>match aY P T with
  |some ⟨.slice _,_,_,_⟩=>match bA n e x with
   |some (.slice _ _ c)=>some c
   |_=>none
  |_=>none
 |_=>none
theorem jcp{c:Nat}(hj:J X (ku (.int .i64 (c:Int)) o))(hv:dB X.n (cpV X.P X.n) o=some c:=by kernel_rfl):J X o:=by
 refine jG hv (fun s p e ho hh hf=>?_) hj
 unfold cpV at hf
 split at hf<;>try (cases hf;done)
 rename_i x T av
 split at hf<;>try (cases hf;done)
 rename_i dP
 split at hf<;>try (cases hf;done)
 rename_i a l c' hx
 simp only[Option.some.injEq] at hf
 subst hf
 obtain⟨bL,tf⟩:=aB dP
 have key:∀s,Yields X.P X.n e p s (.int .i64 (c':Int)):=by
  intro s s' kR f hf K E hK
  simp only[execOp,av,resolve,invoke,builtin,List.map_toArray,List.map_cons,List.map_nil,hf _ _ hx,aj,af,Builtin.cap_,List.getElem?_toArray,List.getElem?_cons_zero,a8 tf]
  exact hK
 exact⟨by rw[av];rfl,fun _=>key _,fun _=>key⟩
end
attribute [irreducible] cpV
def tkO(is:List Nat)(o:Option JS):List Sg:=(qk is o).getD []
attribute [irreducible] tkO
abbrev RCG(ro:Nat→Option Obj)(Φ:Value→(Nat→Option Obj)→Cells→Prop)(fr:Cells):Ending→St→Prop:=fun en s'=>∃v aR Y,en= .returned v∧Sub ro aR∧(⟨aR,Y++fr⟩:St).le s'∧Φ v aR Y
def aa9(P:Program)(f:FuncId)(args:List Value)(ro:Nat→Option Obj)(own:Cells)(Φ:Value→(Nat→Option Obj)→Cells→Prop):Prop:=
 ∀fr,Fn (C0L P) P f ⟨args⟩ ⟨ro,own++fr⟩ (RCG ro Φ fr)
theorem aeZ{P:Program}(hm:P.follows .mixedOrders=true){L:Cells}(own:List Sg)(kn:Cells)(hk:Knows ro kn)(h:∀fr,J (XC P hm f ro (RCG ro Φ fr)) (kE P f args (own++[.l fr]) kn))(hL:den own=L:=by rfl):aa9 P f args ro L Φ:=by
 subst hL
 intro fr
 have h:=h fr
 unfold kE at h
 split at h<;>try exact h.elim
 rename_i fn hf
 split at h<;>try exact h.elim
 rename_i c hc
 cases hl:Nat.ble args.length fn.ntmps with
 |false=>rw[hl] at h;exact h.elim
 |true=>
  rw[hl] at h
  have wY:rB P f=fn:=by simp only[rB,hf]
  have:=h hk
  simp only[JP,XC,KQ,wY] at this
  have hd:den (own++[.l fr])=den own++fr:=by rw[mO];rfl
  rw[hd] at this
  exact La vX hf hc hl this
section
variable {X:Cx} {o:Option JS}
theorem tD{vs:List Value}{own:Cells}(ps:List Nat)(hC:∀main T,X.C main T→C0L X.P main T)(hf:aa9 X.P f vs X.ro own Φ)(hj:∀v aR Y,Sub X.ro aR→Φ v aR Y→J (X.at aR) (ni ps v Y o))(h1:eJ X.n (wJ X.P X.n) o=some (f,vs):=by kernel_rfl)(h2:dA ps o=some own:=by kernel_rfl):J X o:=by
 obtain⟨ops,i,todo,k,e,w,kn,p,rfl,ho,hw,hc⟩:=dD h1
 obtain⟨ff,x,xs,at_,fi,ca,ws,av,hx,qS,rfl⟩:=pZ hc
 intro bR
 rcases p with ⟨dst,op,ty,pos,dG,g⟩
 dsimp only at av;subst av
 have hp:=bK h2
 have wY:Fn X.C X.P f ⟨fi++ws++ca⟩ ⟨X.ro,den w⟩ (RCG X.ro Φ (den (dw ps 0 w))):=fun main T hT c cs k1 k2=>
  (X.hC main T hT).mono _ ⟨X.ro,own++den (dw ps 0 w)⟩ _ (dF (J:=[]) (by rw[List.append_nil];exact hp) (Sub.refl _)) (Fn.weaken hC (hf _) main T hT c cs k1 k2)
 refine su (fi:=⟨fi⟩) (ca:=⟨ca⟩) (ws:=fi++ws++ca) X.hC ho hw hx ff qS (Oc fi ws ca) wY (fun v' s' hr=>?_) (fun ch s' hr=>by obtain⟨_,_,_,e,_⟩:=hr;cases e) (fun s' hr=>by obtain⟨_,_,_,e,_⟩:=hr;cases e)
 obtain⟨v,aR,Y,hv,hs,hle,pO⟩:=hr
 cases hv
 have:=hj _ aR Y hs pO
 rw[nV ho] at this
 have:=this (bR.up hs)
 simp only[JP,gA,z9] at this
 exact this.more X.hC hle
theorem asK{Φ:Value→Cells→Prop}(hq:QR X (RC pE fr Φ))(v:Value)(hs ps:List Nat)(Y:Cells)(ib:Sub pE X.ro)(hR:Φ v Y)(h1:rA (g9 X.P X.n X.fn hs o)=some v:=by kernel_rfl)(h2:NP (g9 X.P X.n X.fn hs o)=NO (g9 X.P X.n X.fn hs o):=by kernel_rfl)(h3:dA ps o=some (Y++fr):=by kernel_rfl)(h4:zd o=true:=by kernel_rfl):J X o:=
 aS hq v hs ps (Y++fr) ib ⟨v,Y,rfl,St.le_refl _,hR⟩ h1 h2 h3 h4
theorem aBk(hq:QR X (RCG pE Φ fr))(v:Value)(ps:List Nat)(Y:Cells)(ib:Sub pE X.ro)(hR:Φ v X.ro Y)(h1:rA (g9 X.P X.n X.fn [] o)=some v:=by kernel_rfl)(h2:NP (g9 X.P X.n X.fn [] o)=NO (g9 X.P X.n X.fn [] o):=by kernel_rfl)(h3:dA ps o=some (Y++fr):=by kernel_rfl)(h4:zd o=true:=by kernel_rfl):J X o:=
 aS hq v [] ps (Y++fr) (Sub.refl _) ⟨v,X.ro,Y,rfl,ib,St.le_refl _,hR⟩ h1 h2 h3 h4
end
theorem Tp{P:Program}{c:Code}{R:Ending→St→Prop}{s:St}{os:Os}{out:Array (Nat×ByteArray)}{Post:Value→World→Prop}(hf:P.funcs[f]?=some fn) (hb:fn.body=some c) (hl:Nat.ble args.length fn.ntmps=true) (hi:P.inits.idxOf? f=none)
 (Rl:∀v s0 w,R (.returned v) s0→aZ s0 w→Go.ConcM.OsLater os w.os→w.output=out→Post v w) (tL:∀ch s,¬R (.panicked ch) s)
 (h:Wp (C0L P) f none c (sW P fn R) (A fn.ntmps (ig 0 args) []) s):T0L P os out Post (G (Frame.enter P f ⟨args⟩ .normal) []) s:=by
 have hT:C0L P true (T0L P os out Post):=⟨rfl,os,out,Post,rfl⟩
 have fN:=Ad P os out Post
 let b:Frame:={(default:Frame) with fn:=f,kind:= .normal,roundOf:=none}
 have j8:Frame.enter P f ⟨args⟩ .normal=aW b (A fn.ntmps (ig 0 args) []) [.code c]:=by
  rw[←mN args fn.ntmps (Nat.le_of_ble_eq_true hl)]
  simp[Frame.enter,aW,hf,hb,b]
 rw[j8]
 refine h true _ hT b [] [] rfl (by simp[b]) rfl fun e a' s' q=>?_
 have last:∀(todo:List Item),a'.defers=[]→cu P (results fn a'.tmps) s' (fun v s'=>∃s0,s0.le s'∧R (.returned v) s0) (fun _ _=>False)→T0L P os out Post (G {aW b a' todo with mode:= .returning} []) s':=by
  intro todo hd hr
  refine S8 rfl fun w rU UN BG=>?_
  obtain⟨r,es,bx,hl⟩:=gC _ _ _ _ w #[] hr rU
  rw[Array.empty_append] at bx
  cases r with
  |ok v w'=>
   obtain⟨s2,ht,s0,hle,hu⟩:=hl
   refine⟨v,w',seen P f es,s2,?_,Rl v s0 w' hu (aZ.of_le hle ht.iX) (by rw[ht.os];exact UN) (ht.output.trans BG),ht.sub (iz _ _ _)⟩
   simp only[aW,b,G,stepG,unwind,hf,hd,bx,doReturn,hi,GStep.after,Array.append_empty,Bool.not_true,Bool.false_eq_true,if_false]
  |halt _ _=>obtain⟨_,_,hu⟩:=hl;exact hu.elim
 cases e with
 |normal=>exact fN.go rfl rfl (g':=G {aW b a' [] with mode:= .returning} []) (fun w=>by simp[G,stepG,stepG.exec,aW,b]) (last _ q.1 q.2)
 |ret=>exact fun todo=>fN.go rfl rfl (g':=G {aW b a' (.code .ret::todo) with mode:= .returning} []) (fun w=>by simp[G,stepG,stepG.exec,aW,b]) (last _ q.1 q.2)
 |panic ch=>exact(tL _ _ q.2).elim
 |exit id=>exact q.elim
 |goto l=>exact q.elim
 |outgrown=>exact q.elim
def ap2(P:Program)(f:FuncId)(args:List Value)(ro:Nat→Option Obj)(Φ:Value→Cells→Prop):Prop:=
 ∀os out (Post:Value→World→Prop),(∀v Y w,Φ v Y→aZ ⟨ro,Y⟩ w→Go.ConcM.OsLater os w.os→w.output=out→Post v w)→T0L P os out Post (G (Frame.enter P f ⟨args⟩ .normal) []) ⟨ro,[]⟩
theorem aBg{P:Program}(hm:P.follows .mixedOrders=true){Φ:Value→Cells→Prop}(hi:P.inits.idxOf? f=none)(kn:Cells)(hk:Knows ro kn)(h:∀fr,J (XC P hm f ro (RC ro fr Φ)) (kE P f args [.l fr] kn)):ap2 P f args ro Φ:=by
 intro os out Post Rl
 have h:=h []
 unfold kE at h
 split at h<;>try exact h.elim
 rename_i fn hf
 split at h<;>try exact h.elim
 rename_i c hc
 cases hl:Nat.ble args.length fn.ntmps with
 |false=>rw[hl] at h;exact h.elim
 |true=>
  rw[hl] at h
  have wY:rB P f=fn:=by simp only[rB,hf]
  have:=h hk
  simp only[JP,XC,KQ,wY] at this
  refine Tp hf hc hl hi (fun v s0 w hr rU UN BG=>?_) (fun ch s hr=>?_) this
  ·obtain⟨v',Y,e,hle,pO⟩:=hr
   cases e
   refine Rl _ Y w pO ?_ UN BG
   have:=aZ.of_le hle rU
   rwa[List.append_nil] at this
  obtain⟨v',Y,e,_⟩:=hr;cases e
theorem aMR{X:Cx}(enc:α→List Value){ps:List α}{L:Cells}(b:Nat)(x:α)(i j:Nat)(gK:aK v sz E enc ps L)(hl:(enc x).length=sz)(hs:(enc x).all single=true)(hb:ps.length+1≤1048576)(hj:∀a c L',aK (.slice a (ps++[x]).length c) sz E enc (ps++[x]) L'→J X (T3 [i] (.slice a (ps++[x]).length c) L' o))
 (hv:eJ X.n (apV X.P X.n) o=some (v,.slice (some ⟨b,0,none⟩) 1 1,E,sz):=by kernel_rfl)(h2:dA [i] o=some L:=by kernel_rfl)(h3:dA [j] o=some [(b,.cells ⟨([x].map enc).flatten⟩ E (0,0))]:=by kernel_rfl):J X o:=
 wD [i] [j] _ gK (fun s _ hZ=>gG [x] (hZ _ (.head _)) (by intro p hp;rw[List.mem_singleton] at hp;subst hp;exact hl)) (fun p hp=>by rw[List.mem_singleton] at hp;subst hp;exact aP hs) (by simpa using hb) (fun v' L' h=>by obtain⟨a,c,rfl⟩:=h.form;exact hj a c L' h) hv h2 h3
open Go.ConcR (KK wgBlock WgAt stA smA rd wr)
open Go.ConcM (OsLater)
section
variable {X:Cx} {o:Option JS}
def ldH(P:Program)(n:Nat)(p:Oper)(e:Env):Option Addr:=match p.op with
 | .load T x=>match aY P T with
  |some ⟨_,_,_,false⟩=>match bA n e x with
   |some (.pointer (some a))=>some a
   |_=>none
  |_=>none
 |_=>none
theorem jlh{b:Nat}{l:List Value}{t:TypeId}(h:X.ro b=some (.pending ⟨l⟩ t))(r5:off≠qg)(hl:nth l off=some v)(hj:J X (Ja [] v o))(htt:t≤Fj:=by decide)(hv:dB X.n (ldH X.P X.n) o=some ⟨b,off,none⟩:=by kernel_rfl)(hB:dA [] o=some []:=by kernel_rfl):J X o:=by
 refine jGN hv hB (fun s p e ho hh hf=>?_) hj
 unfold ldH at hf
 split at hf<;>try (cases hf;done)
 rename_i T x av
 split at hf<;>try (cases hf;done)
 rename_i d sz z dP
 split at hf<;>try (cases hf;done)
 rename_i a hx
 simp only[Option.some.injEq] at hf;subst hf
 obtain⟨bL,tf⟩:=aB dP
 refine⟨by rw[av];rfl,fun s0 De yF ops i ho rest hwt s' hs todo Q hk=>lu X.hC ho rest hwt (by rw[av];rfl) (fun s1 cR f hf1 K E hK=>?_) hs hk⟩
 simp only[execOp,av,Instr.loadAt,hf1 _ _ hx,Instr.sureAddr,loadVar,af,aj,kK tf,Bool.false_eq_true,if_false]
 exact⟨rfl,rfl,⟨l⟩,t,(0,0),v,.inr ⟨cR _ _ (De _ _ (.inl h)),r5,htt⟩,by rw[rh] at hl;simpa using hl,hK⟩
end
section
variable {P:Program}
theorem afD(hi:(P.info? T).map (·.size)=some 1)(hv:v.oneCell'=true)(hc:v.cells= #[v]){w:World}{b:Nat}{c:Array Value}{t:TypeId}(hw:w.heap[b]?=some (.cells c t (0,0))) (r5:off <c.size):
 (Instr.storeAt T (.pointer (some ⟨b,off,none⟩)) v).run P w= .ok () (w.setCell ⟨b,off,none⟩ v)∧∀es,(Instr.storeAt T (.pointer (some ⟨b,off,none⟩)) v).events P w es=es.push ⟨.cell ⟨b,off,none⟩,true,false⟩:=by
 have fY:w.cell? ⟨b,off,none⟩=some c[off]:=by simp[World.cell?,hw,r5]
 have aC3:w.frozen? ⟨b,off,none⟩=false:=by simp[World.frozen?,hw]
 have aam:(⟨b,off,none⟩:Addr).add 0=⟨b,off,none⟩:=by unfold Addr.add;split<;>simp_all
 cases hq:P.info? T with
 |none=>simp[hq] at hi
 |some i=>
  have hs:i.size=1:=by simp[hq] at hi;exact hi
  have bE:(store ((⟨b,off,none⟩:Addr).add 0) v).run P w= .ok () (w.setCell ⟨b,off,none⟩ v):=by
   rw[aam,run_store P w _ v _ hv,fY];simp[aC3]
  have KR:∀es,(store ((⟨b,off,none⟩:Addr).add 0) v).events P w es=es.push ⟨.cell ⟨b,off,none⟩,true,false⟩:=fun es=>by
   rw[aam,events_store P w es _ v _ hv,fY]
   simp only[aC3,Bool.false_eq_true,if_false]
   rfl
  refine⟨?_,fun es=>?_⟩
  ·simp[Instr.storeAt,Instr.sureAddr,storeVar,sizeOf,typeInfo,hq,hc,hs,storeCells,bE]
  simp[Instr.storeAt,Instr.sureAddr,storeVar,sizeOf,typeInfo,hq,hc,hs,storeCells,bE,KR]
end
section
variable {ι:Type} {E:de ι} {l1:List ι} {Stop:Goroutine→St→Prop}
def aBS(i:Nat)(ps:List Nat):Option JS→Option JS
 |some ⟨.DC ops base Pl Sl k,e,w,kn⟩=>some ⟨.DC ops base ((i,undef)::Pl) (pending ops i Sl) k,e,dw ps 0 w,⟨[],[]⟩⟩
 |_=>none
def azn(n i:Nat):Option JS→Bool
 |some ⟨.DC ops base Pl Sl _,_,_,_⟩=>(pending ops i Sl).all fun x=>q7 ops n base Pl x.1
 |_=>false
def aBR(P:Program)(n:Nat)(i:Nat)(rest:Env):Option JS→Option (Nat×Nat×Value)
 |some ⟨.DC ops base Pl Sl k,e,w,kn⟩=>match ops[i]? with
  |some p=>match p.op,p.guard with
   | .store T x y,none=>match aY P T with
    |some ⟨_,sz,_,_⟩=>bif Nat.beq sz 1 then (match bA n (bX ops base i Pl++rest) x with
     |some (.pointer (some ⟨b,off,none⟩))=>match bA n (bX ops base i Pl++rest) y with
      |some v=>some (b,off,v)
      |none=>none
     |_=>none) else none
    |_=>none
   |_,_=>none
  |none=>none
 |_=>none
theorem jhs{X:Cx}{rest:Env}(hP:X.P=E.P)(hX:∀m T',X.C m T'→m=false∧T'=mP E l1 Stop)(aBW:X.aF=none)(hnr:(E.P.funcs[X.fn]?).any (·.norace)=false) (hK:LK X i o rest todo) (ps:List Nat) {Y:Cells} {c:List Value}
 (my:X.ro E.Hb=some (.cells ⟨c⟩ E.ht (0,0))) (r5:qg <c.length) (hcs:c.length=E.hc.size) (hce:∀j,j≠qg→c[j]?=E.hc[j]?) (Nw:E.Gd l1 v Y) (hv1:v.oneCell'=true) (hv2:v.cells= #[v])
 (hj:J (X.at (gx X.ro E.Hb E.hole)) (aBS i ps o)) (h1:aBR X.P X.n i rest o=some (E.Hb,qg,v)) (al8:dA ps o=some Y) (aB6:azn X.n i o=true):J X (aex i rest todo o):=by
 unfold aBR at h1
 split at h1<;>try (cases h1;done)
 rename_i ops base Pl Sl k e w kn
 split at h1<;>try (cases h1;done)
 rename_i p hp
 split at h1<;>try (cases h1;done)
 rename_i T x y av hgd
 split at h1<;>try (cases h1;done)
 rename_i d sz z ag dP
 cases ZO:Nat.beq sz 1 with
 |false=>rw[ZO] at h1;cases h1
 |true=>
 rw[ZO] at h1;simp only[cond_true] at h1
 have ZO:=Nat.eq_of_beq_eq_true ZO
 subst ZO
 split at h1<;>try (cases h1;done)
 rename_i b0 off hx
 split at h1<;>try (cases h1;done)
 rename_i v' hy
 simp only[Option.some.injEq,Prod.mk.injEq] at h1
 obtain⟨rfl,rfl,rfl⟩:=h1
 have al8:=bK al8
 dsimp only at al8
 simp only[aex]
 intro bR main T1 hT b yA cs hf hk hb hQ
 obtain⟨rfl,rfl⟩:=hX _ _ hT
 refine D8 l1 Stop rfl fun wd ha=>?_
 have SH:wd.heap[E.Hb]?=some (.cells ⟨c⟩ E.ht (0,0)):=(ha.ro E.Hb _ my).elim (·.1) fun h=>h.elim (fun⟨_,_,_,e,_⟩=>by cases e) fun⟨_,_,e,_⟩=>by cases e
 have nP:(X.P.info? T).map (·.size)=some 1:=by
  obtain⟨bL,tf⟩:=aB dP
  obtain⟨ii,hi1,IS,_⟩:=tf.info
  rw[hi1];simp[IS]
 have hr:=afD (P:=X.P) nP hv1 hv2 SH (by simpa using r5)
 have hw:Region.wanted p (yielded ops (A X.n (bX ops base i Pl++rest) X.D).tmps)=true:=fb _ _ hgd
 have hex:execOp (A X.n (bX ops base i Pl++rest) X.D).eval p=(Instr.storeAt T (.pointer (some ⟨E.Hb,qg,none⟩)) v' >>= fun _=>pure Next.skip):=by
  rw[gQ]
  simp only[execOp,av,aL hx,aL hy]
 have bE:=stepG_none (P:=X.P) (main:=false) (b:=b) (k:=yA) (cs:=cs) (rest:=todo) (a:=A X.n (bX ops base i Pl++rest) X.D) (w:=wd) (w':=wd.setCell ⟨E.Hb,qg,none⟩ v') hp hw hk (by rw[hex];simp[hr.1])
 have hli:listed X.P b.fn (A X.n (bX ops base i Pl++rest) X.D) p wd= #[⟨.cell ⟨E.Hb,qg,none⟩,true,false⟩]:=by
  unfold listed
  rw[hex]
  have:(Instr.storeAt T (.pointer (some ⟨E.Hb,qg,none⟩)) v' >>= fun _=>pure Next.skip).events X.P wd #[]= #[⟨.cell ⟨E.Hb,qg,none⟩,true,false⟩]:=by simp[hr.2,hr.1]
  rw[this,seen_def,hP,hf]
  simp[seenStep,hnr]
 rw[hli] at bE
 rw[aBW] at hb
 rw[←Dw hb,←Dw hb] at bE
 rw[bI] at bE
 rw[hP] at bE
 refine⟨_,_,_,⟨gx X.ro E.Hb E.hole,den (dw ps 0 w)⟩,bE,rfl,.inr ⟨v',Y,den (dw ps 0 w),⟨c⟩,my,by simpa using r5,by simpa using hcs,fun j hj=>by simpa using hce j hj,al8,Nw,rfl,rfl,St.le_refl _⟩,?_⟩
 have qT:∀j u,(j,u)∈pending ops i Sl→q7 ops X.n base Pl j=true:=fun j u A6=>by
  have h:=aB6
  simp only[azn] at h
  exact List.all_eq_true.1 h (j,u) A6
 have hpd:aQ ops i=p.dst:=by simp[aQ,hp]
 have hj:=hj (fun x hx=>by cases hx)
 simp only[aBS,JP] at hj hK
 have key:=hK undef ⟨gx X.ro E.Hb E.hole,den (dw ps 0 w)⟩ (fun j u A6 Xt=>by rw[qT j u A6] at Xt;cases Xt) (fun pf=>?_)
 ·rw[hpd] at key
  exact key _ _ hT b yA cs hf hk (by rw[aBW];exact hb) hQ
 have:=hj ⟨pf.1,(fun j u B A6 hB=>by cases hB)⟩
 rw[z9] at this
 exact this
end
section
variable {ι:Type} {E:de ι} {b:Frame} {yA:List Item} {cs:List Frame} {n:Nat} {D:List Deferred} {ro:Nat→Option Obj} {o:Option JS} {ops:Array Oper} {l1:List ι}
theorem ayh{o1:ι}{os:List ι}{a:Oper}{x:Operand}{k:List Item}(ho:ops[0]?=some a) (hg:a.guard=none) (av:a.op= .call ⟨.value (.func f),#[x],ats⟩) (hf:FF E.P f) (hk:b.kind≠ .early) (hr:b.roundOf=none)
 (aCC:∀cs,∃n,E.pu (E.M.At E.Mu (.ld os.length) cs) n (G (Frame.enter E.P f #[.pointer (some ⟨E.Mu,0,none⟩)] .normal) cs)) (my:ro E.Hb=some E.hole)
 (h:∀l v X,E.Gd l v X→l.length <E.mxl→TT (mP E (l++[o1]) (E.So (E.Stp os) os.length)) b k cs n D (gx ro E.Hb (E.full v)) (bkO X (stO a.dst (.tuple #[]) o)))
 (hx:evO n x o=some (.pointer (some ⟨E.Mu,0,none⟩)):=by kernel_rfl):TT (dg E.P false (E.Stp (o1::os))) b (.inRegion ops [0]::k) cs n D ro o:=by
 rintro e w kn rfl bR
 have hT:=cN E.P false (E.Stp (o1::os))
 refine GL (rest:=[]) hT ho hg hk hr av hf ?_
 have kO:(#[x]:Array Operand).map (A n e D).eval= #[.pointer (some ⟨E.Mu,0,none⟩)]:=by
  rw[gQ]
  simp only[List.map_toArray,List.map_cons,List.map_nil,aL hx]
 rw[kO]
 refine dg.stop ?_
 obtain⟨m,hm⟩:=aCC (aW b (A n e D) (.inRegion ops [0]::k)::cs)
 refine⟨_,cs,m,hm,my,fun l v X Nw Fg=>?_⟩
 rw[iO,ho]
 simp only[Option.bind_some]
 rw[bI]
 have hT1:=nG (E:=E) (l++[o1]) (E.So (E.Stp os) os.length)
 refine mZ hT1 ?_
 have:=h l v X Nw Fg _ _ _ (Sd X _ _ _ _) (fun x hx=>by cases hx)
 rw[gA] at this
 exact this
theorem ajs{os:List ι}{ul:FuncId}(hf:E.P.funcs[f]?=some fn) (yZ:fn.results= #[]) (Co:A8 E.P ul=true)
 (hun:∀cs,∃n,E.pu (E.M.At E.Mu (.ui os.length) cs) n (G (Frame.enter E.P ul #[.pointer (some ⟨E.Mu,0,none⟩)] .deferred) cs)) (my:ro E.Hb=some E.hole) (ps:List Nat) {Y:Cells}
 (hk:dg E.P false (E.Stp os) (G (cl.finish (.tuple #[])) EH) ⟨ro,Y⟩) (hY:dA ps o=some Y:=by kernel_rfl):
 TT (mP E l1 (E.So (E.Stp os) os.length)) (JA f .normal) [] (cl::EH) n [{target:= .fn (.func ul) ⟨[]⟩,args:=⟨[.pointer (some ⟨E.Mu,0,none⟩)]⟩}] ro o:=by
 rintro e w kn rfl bR
 have hT:=nG (E:=E) l1 (E.So (E.Stp os) os.length)
 have hT1:=cN E.P false (E.Stp os)
 refine hT.go rfl rfl (g':=G {aW (JA f .normal) (A n e [{target:= .fn (.func ul) ⟨[]⟩,args:=⟨[.pointer (some ⟨E.Mu,0,none⟩)]⟩}]) [] with mode:= .returning} (cl::EH)) (fun w=>by simp[G,stepG,stepG.exec,aW,JA])<|iQ (C:=CA E.P) (fun _ _ h=>h) hT (.inl rfl) (jH Co) (ds:=[]) rfl ?_
 have Dp:((⟨[.pointer (some ⟨E.Mu,0,none⟩)]⟩:Array Value)++(⟨[]⟩:Array Value))= #[.pointer (some ⟨E.Mu,0,none⟩)]:=by simp
 rw[Dp]
 refine mP.stop ?_
 obtain⟨m,hm⟩:=hun ({aW (JA f .normal) (A n e []) [] with mode:= .returning}::cl::EH)
 refine⟨my,_,_,m,hm,rfl,?_⟩
 have hp:=bK hY
 refine qZ (C:=CA E.P) (fun _ _ h=>h) (T:=dg E.P false (E.Stp os)) hT1 hf (fr:={aW (JA f .normal) (A n e []) [] with mode:= .returning}) rfl rfl rfl rfl (R:=fun en s'=>en= .returned (.tuple #[])∧s'=⟨ro,Y⟩) ?_ (fun v s' hv=>?_)
 ·have h1:∀tm,results fn tm=Sem.pure (.tuple #[]):=by intro tm;simp[results,yZ];rfl
  rw[h1]
  exact⟨⟨ro,Y⟩,dF hp (Sub.refl _),rfl,rfl⟩
 obtain⟨hv,rfl⟩:=hv
 cases hv
 exact hk
theorem ajt{dn:FuncId}{bs:List Nat}(hf:E.P.funcs[b.fn]?=some fn) (yZ:fn.results= #[]) (jN:A8 E.P dn=true) (KS:vV E.P E.ty E.max (Frame.enter E.P dn #[.pointer (some ⟨E.Wg,0,none⟩)] .deferred)=some bs) (hbs:∀b∈bs,b=E.Wg) (hk:b.kind= .deferred) (hr:b.roundOf=none):
 TT (dg E.P false (E.Stp [])) b [] [dR E.P] n [{target:= .fn (.func dn) ⟨[]⟩,args:=⟨[.pointer (some ⟨E.Wg,0,none⟩)]⟩}] ro o:=by
 rintro e w kn rfl bR
 have XJ:=cN E.P false (E.Stp [])
 refine XJ.go rfl rfl (g':=G {aW b (A n e [{target:= .fn (.func dn) ⟨[]⟩,args:=⟨[.pointer (some ⟨E.Wg,0,none⟩)]⟩}]) [] with mode:= .returning} [dR E.P]) (fun w=>by simp[G,stepG,stepG.exec,aW,hr])<|iQ (C:=CA E.P) (fun _ _ h=>h) XJ (.inl rfl) (jH jN) (ds:=[]) rfl<|dg.stop ?_
 have hq:QuitsD E.P 2 0 (G {aW b (A n e []) [] with mode:= .returning} [dR E.P]):=tx rfl rfl hk hf yZ
 exact H4 (E:=E.jK) (c:={aW b (A n e []) [] with mode:= .returning}) (.inl rfl) hq KS hbs
end
section
variable (P:Program) (ty:TypeId)
def sP(nw:Nat)(f:Frame):Bl:=
 yI P ty 300 f [] fun f s=>yU P ty dr true none [(1,0)] f s fun f s=>yI P ty 300 f s fun f s=>
  aa1 (fun v:Nat=>yU P ty (AZ ((v:Int)*KK) 0) false (some (0,.u64,((v+1:Nat):Int)*KK)) [(7,0),(8,0)] f s fun f s=>yI P ty 300 f s fun f s=>
   bif Nat.beq v 0 then yU P ty dr false none [(5,1)] f s fun f s=>yI P ty 300 f s fun f s=>yU P ty dr true none [(2,0)] f s (goR P ty 300)
   else yU P ty dr true none [(2,0)] f s (goR P ty 300)) (List.range (nw+1))
end
section
variable {ι:Type} {E:de ι} {Fin:Goroutine→Prop} {L:Nat→Option Obj} {Q:Machine→Outcome→World→Trace→Prop} {pend nw d0:Nat} {os:List ι} {s:St} {cs:List Frame}
theorem Nz{k:Frame→List Frame→Bl}{fr:Frame}{bs:List Nat}(h:yI E.P E.ty n fr eB k=some bs)(hb:∀b∈bs,b=E.Wg)
 (hk:∀jO dH oC,k jO dH=some oC→(∀b∈oC,b=E.Wg)→TG E Fin L Q pend nw os d0 (G jO (dH++cs)) s):TG E Fin L Q pend nw os d0 (G fr (eB++cs)) s:=
 NB h hb (fun fr eB=>TG E Fin L Q pend nw os d0 (G fr (eB++cs)) s) hk fun fr eB jO dH h1 hT=>Wb rfl rfl (fun w hw=>h1 cs true w (nO E.jK hw)) hT
theorem VA{c:Frame}{f:Frame}{bs:List Nat}(h:sP E.P E.ty nw f=some bs)(hb:∀b∈bs,b=E.Wg)(qm:nw <E.max)
 (hT:TG E Fin L Q 1 nw os 0 (G (c.finish (.tuple #[])) cs) s):TG E Fin L Q 0 nw os 0 (G f (c::cs)) s:=by
 have wZ:∀ {f:Frame} {eB:List Frame} {bs:List Nat},yU E.P E.ty dr true none [(2,0)] f eB (goR E.P E.ty 300)=some bs→(∀b∈bs,b=E.Wg)→TG E Fin L Q 1 nw os 1 (G f (eB++c::cs)) s:=by
  intro f eB bs h hb
  obtain⟨f',s',oC,h1,h2,h3⟩:=dv h hb
  refine Mo (dC:=1) (d':=0) rfl (by omega) fun v hv=>⟨_,_,fun w hw=>⟨w,h3 _ _ w (.inl ⟨rfl,rfl⟩),bQ.refl w,hw⟩,(by intro e he;simp[xX] at he;subst he;exact .inr (.inl rfl)),rfl,rfl,?_⟩
  exact Dq (c:=c) (cs:=cs) h1 true (fun g=>TG E Fin L Q 1 nw os 0 g s) hT fun g g' hg hg' bE hT'=>Wb hg hg' (fun w _=>bE w) hT'
 refine Nz (eB:=[]) h hb fun f1 s1 b1 k1 k2=>?_
 obtain⟨f',s',oC,h1,h2,h3⟩:=dv k1 k2
 refine Mo (dC:=0) (d':=1) rfl (by omega) fun v hv=>⟨_,_,fun w hw=>⟨w,h3 _ _ w (.inl ⟨rfl,rfl⟩),bQ.refl w,hw⟩,(by intro e he;simp[xX] at he;subst he;exact .inl rfl),rfl,rfl,?_⟩
 refine Nz h1 h2 fun f2 s2 b2 k1 k2=>?_
 refine Mo (dC:=1) (d':=1) rfl (by omega) fun v hv=>?_
 obtain⟨a,k3,k4⟩:=we k1 k2 v (List.mem_range.2 (by omega))
 obtain⟨f',s',oC,h1,h2,h3⟩:=dv k3 k4
 refine⟨_,_,fun w hw=>⟨_,h3 _ _ w (.inr ?_),bQ.set w 0 _,?_⟩,(by
  intro e he;simp[xX] at he
  rcases he with rfl|rfl<;>exact mI _ 0 _),rfl,rfl,?_⟩
 ·exact gf E.jK hw
 ·exact Go.ConcR.WgAt.setSt hw _
 refine Nz h1 h2 fun f3 s3 b3 k1 k2=>?_
 cases hz:Nat.beq v 0 with
 |false=>
  rw[hz] at k1;simp only[cond_false] at k1
  exact wZ k1 k2
 |true=>
  rw[hz] at k1;simp only[cond_true] at k1
  obtain⟨f',s',oC,h1,h2,h3⟩:=dv k1 k2
  refine ajp rfl rfl (fun w hw=>h3 _ _ w (.inr (nO E.jK hw)))<|Nz h1 h2 fun f4 s4 b4 k1 k2=>wZ k1 k2
end
section
variable {ι:Type} {E:de ι} {Fin:Goroutine→Prop} {c:Frame} {cs:List Frame}
theorem oO{Stop:Goroutine→Prop}{k:Frame→List Frame→Bl}{fr:Frame}{bs:List Nat}(h:yI E.P E.ty n fr eB k=some bs)(hb:∀b∈bs,b=E.Wg)
 (hk:∀jO dH oC,k jO dH=some oC→(∀b∈oC,b=E.Wg)→Stop (G jO (dH++cs))):E.pw Stop (G fr (eB++cs)):=fw (E:=E.jK) (main:=true) h hb hk
section
variable (hF:Fin (G (c.finish (.tuple #[])) cs)) (fN:∀g g',g.status= .running→g'.status= .running→(∀w,stepG E.P true g w= .go g' w #[])→Fin g'→Fin g)
include hF fN
theorem aaM{f:Frame}{bs:List Nat}(h:ahN E.P E.ty f s=some bs)(hb:∀b∈bs,b=E.Wg):E.Aq Fin (G f (s++c::cs)):=by
 obtain⟨f',s',oC,h1,h2,h3⟩:=dv h hb
 exact⟨rfl,_,fun w=>h3 _ _ w (.inl ⟨rfl,rfl⟩),Dq (c:=c) (cs:=cs) h1 true Fin hF fN⟩
theorem yN{f:Frame}{bs:List Nat}(h:LC E.P E.ty f s=some bs)(hb:∀b∈bs,b=E.Wg):E.Ke Fin (G f (s++c::cs)):=by
 obtain⟨f',s',oC,h1,h2,h3⟩:=dv h hb
 exact⟨rfl,_,fun w=>h3 _ _ w (.inl ⟨rfl,rfl⟩),oO h1 h2 fun _ _ _ k1 k2=>aaM hF fN k1 k2⟩
theorem aaJ{f:Frame}{bs:List Nat}(h:ahA E.P E.ty f s=some bs)(hb:∀b∈bs,b=E.Wg):E.W4 Fin (G f (s++c::cs)):=by
 obtain⟨f',s',oC,h1,h2,h3⟩:=dv h hb
 exact⟨rfl,_,fun w hw=>h3 _ _ w (.inr (gf E.jK hw)),oO h1 h2 fun _ _ _ k1 k2=>yN hF fN k1 k2⟩
theorem aaK{f:Frame}{bs:List Nat}(h:ahC E.P E.ty f s=some bs)(hb:∀b∈bs,b=E.Wg):E.W3 Fin (G f (s++c::cs)):=by
 obtain⟨⟨b1,k1,k2⟩,b2,k3,k4⟩:=sV h hb
 obtain⟨f',s',oC,h1,h2,h3⟩:=dv k3 k4
 refine⟨rfl,rfl,fun w n hw=>?_,_,fun w hw=>h3 _ _ w (.inr (gf E.jK hw)),oO h1 h2 fun _ _ _ k1 k2=>aaJ hF fN k1 k2⟩
 unfold ahV at k1
 split at k1<;>try (cases k1;done)
 rename_i h0
 simp only[Option.some.injEq] at k1;subst k1
 have:=kN h0 k2 (w:=w) (.inr (acy E.jK hw)) (c::cs) true
 simp only[OV.is] at this
 rw[this];rfl
theorem LA{f:Frame}{bs:List Nat}(h:X6 E.P E.ty f s=some bs)(hb:∀b∈bs,b=E.Wg):E.Wr Fin (G f (s++c::cs)):=by
 obtain⟨f',s',oC,h1,h2,h3⟩:=dv h hb
 exact⟨rfl,_,fun w=>h3 _ _ w (.inl ⟨rfl,rfl⟩),oO h1 h2 fun _ _ _ k1 k2=>aaK hF fN k1 k2⟩
end
end
section
variable {P:Program} {b:Frame} {a:Act} {k:List Item} {cs:List Frame} {ops:Array Oper}
theorem aml{main:Bool}{rest:List Nat}{o:Oper}(ho:ops[i]?=some o) (hg:o.guard=none) (hk:b.kind≠ .early) (hb:b.roundOf=none) (av:o.op= .go ⟨.value y,#[],ats⟩) (hy:a.eval y= .func (.func f) #[] ca) (w:World):
 stepG P main (G (aW b a (.inRegion ops (i::rest)::k)) cs) w= .spawn (G (aW b (a.put o.dst undef) (.inRegion ops rest::k)) cs) (born P {target:= .fn (.func f) ca,args:= #[]}) w #[]:=by
 have hw:Region.wanted o (yielded ops a.tmps)=true:=fb o _ hg
 have hx:execOp a.eval o=Sem.pure (.spawn {target:= .fn (.func f) ca,args:= #[]}):=by
  simp only[execOp,av,resolve,hy,Deferred.ofValue]
  show Sem.pure (Next.spawn {target:= .fn (.func f) ca,args:= #[]++Array.map a.eval #[]})=_
  simp
 rw[Dw hb,Dw hb]
 have:=stepG_spawn (P:=P) (main:=main) (b:=b) (a:=a) (k:=k) (cs:=cs) (w:=w) (w':=w) (d:={target:= .fn (.func f) ca,args:= #[]}) ho hw hk (rest:=rest) (by rw[hx];rfl) rfl
 rw[this,listed_none (by rw[hx];rfl)]
end
section
variable {ι:Type} {E:de ι} {Fin:Goroutine→Prop} {Q:Machine→Outcome→World→Trace→Prop} {b:Frame} {yA:List Item} {cs:List Frame} {n:Nat} {D:List Deferred} {ro:Nat→Option Obj} {o:Option JS} {ops:Array Oper} {L:Nat→Option Obj}
structure Su(E:de ι)(L:Nat→Option Obj)(X:Cells)(ro aR:Nat→Option Obj):Prop where
 of:∀q o,L q=some o→(q,o)∈X
 on:∀q o,(q,o)∈X→L q=some o
 sub:Sub ro aR
 kn:Knows aR X
 nd:(X.map (·.1)).Nodup
 ap:∀q o,(q,o)∈X→ro q=none
 hole:aR E.Hb=some E.hole
 roH:ro E.Hb=none
def Sj(E:de ι)(ro:Nat→Option Obj)(X:Cells):Value→Cells→St:=fun v X1=>⟨ro,(E.Hb,E.full v)::(X1++X)⟩
theorem Su.back{X:Cells}{aR roK:Nat→Option Obj}{rwK:Cells}(h:Su E L X ro aR)(hs:Sub aR roK):DZ E L ⟨roK,rwK⟩ (Sj E ro X):=by
 intro l v X1 w Nw hw hL gX hX hHb hLH hnH
 have hKH:roK E.Hb=some E.hole:=hs _ _ h.hole
 have hX1:∀q o,(q,o)∈X1→q≠E.Hb∧ro q=none:=fun q o hq=>by
  have hk:=(hX q o hq).2.2.2
  refine⟨fun e=>hk (.inl (by subst e;show roK _≠none;rw[hKH];simp)),?_⟩
  cases hr:ro q with
  |none=>rfl
  |some y=>exact absurd (.inl (by show roK q≠none;rw[hs _ _ (h.sub _ _ hr)];simp)) hk
 have hXn:∀q o,(q,o)∈X→q≠E.Hb:=fun q o hq e=>by subst e;rw[h.on _ _ hq] at hLH;cases hLH
 refine⟨⟨fun q o hq=>hw.ro q o (hs _ _ (h.sub _ _ hq)),fun q o hq=>?_,fun q o hq=>?_,?_,fun q o hq=>?_⟩,fun q hq=>?_⟩
 ·rcases List.mem_cons.1 hq with hq|hq
  ·cases hq;exact hHb
  rcases List.mem_append.1 hq with hq|hq
  ·exact(hX q o hq).1
  exact hL q o (h.on q o hq)
 ·rcases List.mem_cons.1 hq with hq|hq
  ·cases hq;rfl
  rcases List.mem_append.1 hq with hq|hq
  ·exact(hX q o hq).2.2.1
  rcases hw.ro q o (hs _ _ (h.kn _ hq)) with h1| ⟨c1,c2,t1,rfl,h2,_⟩| ⟨c1,t1,rfl,h2⟩
  ·exact h1.2
  ·have h3:=hL q _ (h.on q _ hq)
   rw[h2] at h3;cases h3
  have h3:=hL q _ (h.on q _ hq)
  rw[h2] at h3
  exact absurd (Nat.le_of_eq (Obj.pending.inj (Option.some.inj h3)).2.symm) (Nat.not_le.2 (Nat.lt_add_of_pos_right (Nat.succ_pos Fj)))
 ·show (((E.Hb,E.full v)::(X1++X)).map (·.1)).Nodup
  rw[List.map_cons,List.nodup_cons,List.map_append,List.nodup_append]
  refine⟨fun hm=>?_,gX,h.nd,fun q hq q' Hj e=>?_⟩
  ·rcases List.mem_append.1 hm with hm|hm
   ·obtain⟨⟨q,o⟩,h1,h2⟩:=List.mem_map.1 hm
    exact(hX1 q o h1).1 h2
   obtain⟨⟨q,o⟩,h1,h2⟩:=List.mem_map.1 hm
   exact hXn q o h1 h2
  subst e
  obtain⟨⟨q1,o1⟩,h1,rfl⟩:=List.mem_map.1 hq
  obtain⟨⟨q2,o2⟩,h2,e2⟩:=List.mem_map.1 Hj
  simp only at e2
  subst e2
  have:=(hX _ _ h1).2.1
  rw[h.on _ _ h2] at this;cases this
 ·rcases List.mem_cons.1 hq with hq|hq
  ·cases hq;exact h.roH
  rcases List.mem_append.1 hq with hq|hq
  ·exact(hX1 q o hq).2
  exact h.ap q o hq
 rcases hq with hq| ⟨o,hq⟩
 ·have hq:ro q≠none:=hq
  cases hr:ro q with
  |none=>exact absurd hr hq
  |some o'=>exact .inr (.inl (.inl (by show roK q≠none;rw[hs _ _ (h.sub _ _ hr)];simp)))
 rcases List.mem_cons.1 hq with hq|hq
 ·cases hq;exact .inr (.inl (.inl (by show roK _≠none;rw[hKH];simp)))
 rcases List.mem_append.1 hq with hq|hq
 ·exact .inr (.inr ⟨o,hq⟩)
 exact .inl (by rw[h.on q o hq];simp)
theorem aju{v0:Value}(iw im ih:Nat)(X:Cells)(fN:Closed E.P true (TL E.P db (fun _=>none) (Ce E.os E.out) Q))(Nw:E.Gd [] v0 [])
 (h:∀L aR,Su E L X ro aR→TT (TG E Fin L Q 0 0 [] 0) b yA cs n D aR (Qv o))
 (hW:dA [iw,im,ih] o=some [(E.Wg,wgBlock E.ty 0 0),(E.Mu,.cells #[.int .i32 0,.int .u32 0] E.tm),(E.Hb,E.full v0)]:=by kernel_rfl)(hX:ajH [iw,im,ih] o=some X:=by kernel_rfl):TT (TL E.P db (fun _=>none) (Ce E.os E.out) Q) b yA cs n D ro o:=by
 rintro e w kn rfl bR
 refine Closed.iX fN rfl fun⟨w0,hw0⟩=>?_
 have hp:=bK hW
 rw[J7,Option.some.injEq] at hX
 have UJ:=hp
 dsimp only at UJ
 rw[hX] at UJ
 have hm:∀x,x∈den w↔x=(E.Wg,wgBlock E.ty 0 0)∨x=(E.Mu,.cells #[.int .i32 0,.int .u32 0] E.tm)∨x=(E.Hb,E.full v0)∨x∈X:=fun x=>by
  rw[UJ.mem_iff]
  simp
 have gX:=(UJ.map (·.1)).nodup_iff.1 hw0.nodup
 simp only[List.cons_append,List.nil_append,List.map_cons,List.nodup_cons,List.mem_cons,not_or] at gX
 obtain⟨⟨aOg,aOf,hW1⟩,⟨aOe,hM1⟩,hH1,UP⟩:=gX
 have vG:∀x∈X,x∈den w:=fun x hx=>(hm x).2 (.inr (.inr (.inr hx)))
 have aDA:=(hm _).2 (.inl rfl)
 have aDC:=(hm _).2 (.inr (.inl rfl))
 have aDJ:=(hm _).2 (.inr (.inr (.inl rfl)))
 have Q6:∀y∈X,y.1≠E.Wg∧y.1≠E.Mu∧y.1≠E.Hb:=fun y hy=>⟨fun e=>hW1 (e▸List.mem_map.2 ⟨_,hy,rfl⟩),fun e=>hM1 (e▸List.mem_map.2 ⟨_,hy,rfl⟩),fun e=>hH1 (e▸List.mem_map.2 ⟨_,hy,rfl⟩)⟩
 let L:Nat→Option Obj:=fun q=>(X.find? fun y=>y.1==q).map (·.2)
 have auI:∀q o,L q=some o→(q,o)∈X:=fun q o hq=>by
  obtain⟨y,hy,rfl⟩:=Option.map_eq_some_iff.1 hq
  obtain⟨h1,h2⟩:=BS hy
  subst h2
  exact h1
 have aQk:∀q o,(q,o)∈X→L q=some o:=fun q o hq=>by
  show (X.find? fun y=>y.1==q).map (·.2)=some o
  rw[EA UP hq];rfl
 have nE:∀q o,(q,o)∈X→ro q=none:=fun q o hq=>hw0.apart q o (vG _ hq)
 have aBQ:Sub ro (St.freeze ⟨ro,X⟩).ro:=fun q o hq=>St.Dt (s:=⟨ro,X⟩) hq fun q o hq=>nE q o hq
 have aBV:ro E.Hb=none:=hw0.apart _ _ aDJ
 have ib:Sub ro (gx (St.freeze ⟨ro,X⟩).ro E.Hb E.hole):=fun q o hq=>by
  have:q≠E.Hb:=fun e=>by subst e;rw[aBV] at hq;cases hq
  rw[jz _ _ this];exact aBQ q o hq
 have aOB:Knows (St.freeze ⟨ro,X⟩).ro X:=fun x hx=>St.Ds (s:=⟨ro,X⟩) (by rcases x with ⟨q,o⟩;exact hx) UP
 have aCF:Su E L X ro (gx (St.freeze ⟨ro,X⟩).ro E.Hb E.hole):=⟨auI,aQk,ib,fun x hx=>by rw[jz _ _ (Q6 x hx).2.2];exact aOB x hx,UP,nE,gI _ _ _,aBV⟩
 have zt:∀q y,(St.freeze ⟨ro,X⟩).ro q=some y→ro q=some y∨(q,y)∈X:=fun q y hq=>by
  simp only[St.freeze] at hq
  split at hq
  ·rename_i z hz
   obtain⟨h1,h2⟩:=BS hz
   cases hq;subst h2
   exact .inr h1
  exact .inl hq
 refine ab6 (E:=E) (Fin:=Fin) (L0:=L) (v0:=v0) (s':=⟨gx (St.freeze ⟨ro,X⟩).ro E.Hb E.hole,[]⟩) rfl ⟨aOg,fun e=>aOf e.symm,fun e=>aOe e.symm⟩ aDA aDC aDJ Nw rfl (fun q x hq=>?_) (fun q o hq=>⟨vG _ (auI _ _ hq),Q6 _ (auI _ _ hq)⟩) ?_
 ·by_cases e:q=E.Hb
  ·subst e
   simp only[gI,Option.some.injEq] at hq
   exact .inl ⟨rfl,hq.symm⟩
  simp only[jz _ _ e] at hq
  rcases zt q x hq with h1|h1
  ·refine .inr ⟨e,fun e=>?_,fun e=>?_,.inl h1⟩
   ·subst e;have:=hw0.apart _ _ aDA;simp only at this;rw[this] at h1;cases h1
   subst e;have:=hw0.apart _ _ aDC;simp only at this;rw[this] at h1;cases h1
  exact .inr ⟨e,(Q6 _ h1).1,(Q6 _ h1).2.1,.inr (vG _ h1)⟩
 exact h L _ aCF _ _ _ (Ax _ _ _ _) (bR.up ib)
theorem aym{nw:Nat}{os:List ι}{a:Oper}{x:Operand}{k:List Item}{bs:List Nat}(h:TT (TG E Fin L Q 1 nw os 0) b k cs n D ro (stO a.dst (.tuple #[]) o))(ho:ops[0]?=some a) (hg:a.guard=none) (av:a.op= .call ⟨.value (.func f),#[x,.const (.int .i64 1)],ats⟩) (hf:FF E.P f) (hk:b.kind≠ .early) (hr:b.roundOf=none) (qm:nw <E.max)
 (aam:sP E.P E.ty nw (Frame.enter E.P f #[.pointer (some ⟨E.Wg,0,none⟩),.int .i64 1] .normal)=some bs) (hbs:∀b∈bs,b=E.Wg) (hx:evO n x o=some (.pointer (some ⟨E.Wg,0,none⟩)):=by kernel_rfl):TT (TG E Fin L Q 0 nw os 0) b (.inRegion ops [0]::k) cs n D ro o:=by
 rintro e w kn rfl bR
 have hT:Closed E.P true (TG E Fin L Q 0 nw os 0):=ug
 have hT1:Closed E.P true (TG E Fin L Q 1 nw os 0):=ug
 refine GL (rest:=[]) hT ho hg hk hr av hf ?_
 have kO:(#[x,.const (.int .i64 1)]:Array Operand).map (A n e D).eval= #[.pointer (some ⟨E.Wg,0,none⟩),.int .i64 1]:=by
  rw[gQ]
  simp only[List.map_toArray,List.map_cons,List.map_nil,aL hx]
  rfl
 rw[kO]
 refine VA (E:=E) aam hbs qm ?_
 rw[iO,ho]
 simp only[Option.bind_some]
 rw[bI]
 exact mZ hT1 (h _ _ _ rfl bR)
theorem aJM{nw:Nat}{os:List ι}(ls:List ι){a:Oper}{ca:List Value}{k:List Item}(L1:Cells)(Fg:(os++ls).length≤E.mxl)(ho:ops[i]?=some a) (hg:a.guard=none) (av:a.op= .go ⟨.value y,#[],ats⟩) (hk:b.kind≠ .early) (hr:b.roundOf=none)
 (h:∀aR,Sub ro aR→Knows aR L1→dg E.P false (E.Stp ls) (born E.P {target:= .fn (.func f) ⟨ca⟩,args:= #[]}) ⟨aR,[]⟩∧TT (TG E Fin L Q 0 (nw+1) (os++ls) 0) b (.inRegion ops todo::k) cs n D aR (Qv (stO a.dst undef o)))
 (hy:evO n y o=some (.func (.func f) ⟨[]⟩ ⟨ca⟩):=by kernel_rfl) (hL:ajH [] o=some L1:=by kernel_rfl):TT (TG E Fin L Q 1 nw os 0) b (.inRegion ops (i::todo)::k) cs n D ro o:=by
 rintro e w kn rfl bR
 have hT1:Closed E.P true (TG E Fin L Q 1 nw os 0):=ug
 refine Closed.iX hT1 rfl fun rU=>?_
 obtain⟨w0,hw0⟩:=rU
 have gX:((den w).map (·.1)).Nodup:=hw0.nodup
 have nE:∀q o,(q,o)∈den w→ro q=none:=hw0.apart
 have ib:Sub ro (St.freeze ⟨ro,den w⟩).ro:=fun q o hq=>St.Dt (s:=⟨ro,den w⟩) hq nE
 have aOC:Knows (St.freeze ⟨ro,den w⟩).ro L1:=fun x hx=>St.Ds (s:=⟨ro,den w⟩) (by rcases x with ⟨q,o⟩;rw[J7,Option.some.injEq] at hL;rw[←hL,Lr] at hx;exact hx) gX
 obtain⟨h1,h2⟩:=h _ ib aOC
 have bE:=fun w'=>aml (P:=E.P) (main:=true) (b:=b) (a:=A n e D) (k:=k) (cs:=cs) (rest:=todo) ho hg hk hr av (by rw[gQ];exact aL hy) w'
 have:=h2 _ _ _ (Ax _ _ _ _) (bR.up ib)
 rw[←bI] at this
 exact TG.mono (St.aau ⟨ro,den w⟩) (YK (E:=E) (ls:=ls) (s:=St.freeze ⟨ro,den w⟩) rfl rfl rfl (fun w' _=>bE w') h1 Fg this)
theorem aqT{nw:Nat}{os:List ι}{a:Oper}{x:Operand}{k:List Item}{X:Cells}{aV:Nat→Option Obj}(hl:Su E L X pE aV)(cR:Sub aV ro)(fN:Closed E.P true (TL E.P db (fun _=>none) (Ce E.os E.out) Q))
 (h:∀l v X1,l.Perm os→E.Gd l v X1→TT (TL E.P db (fun _=>none) (Ce E.os E.out) Q) b k cs n D pE (bkO ((E.Hb,E.full v)::(X1++X)) (stO a.dst (.tuple #[]) (Qv o))))(ho:ops[0]?=some a) (hg:a.guard=none) (av:a.op= .call ⟨.value (.func f),#[x],ats⟩) (hf:FF E.P f) (hk:b.kind≠ .early) (hr:b.roundOf=none)
 (afh:∀(Fin:Goroutine→Prop) (c:Frame) (cs:List Frame),Fin (G (c.finish (.tuple #[])) cs)→(∀g g',g.status= .running→g'.status= .running→(∀w,stepG E.P true g w= .go g' w #[])→Fin g'→Fin g)→E.pw (E.Kd Fin) (G (Frame.enter E.P f #[.pointer (some ⟨E.Wg,0,none⟩)] .normal) (c::cs))) (hx:evO n x o=some (.pointer (some ⟨E.Wg,0,none⟩)):=by kernel_rfl):TT (TG E (VV E Q os (Sj E pE X)) L Q 0 nw os 0) b (.inRegion ops [0]::k) cs n D ro o:=by
 rintro e w kn rfl bR
 have hT:Closed E.P true (TG E (VV E Q os (Sj E pE X)) L Q 0 nw os 0):=ug
 refine GL (rest:=[]) hT ho hg hk hr av hf ?_
 have kO:(#[x]:Array Operand).map (A n e D).eval= #[.pointer (some ⟨E.Wg,0,none⟩)]:=by
  rw[gQ]
  simp only[List.map_toArray,List.map_cons,List.map_nil,aL hx]
 rw[kO]
 refine ajo (hl.back cR)<|afh _ _ _ (fun l v X1 hp Nw=>?_) (fun g g' h1 h2 bE hF l v X1 hp Nw=>fN.go h1 h2 bE (hF l v X1 hp Nw))
 rw[iO,ho]
 simp only[Option.bind_some]
 rw[bI]
 refine mZ fN ?_
 have:=h l v X1 hp Nw
 rw[Ax] at this
 have:=this _ _ _ (Sd _ _ _ _ _) (fun x hx=>by cases hx)
 rw[gA] at this
 simp only[den,List.append_nil] at this
 exact this
end
def aAk(P:Program)(n:Nat)(p:Oper)(e:Env):Option (TypeId×List Value):=match p.op with
 | .makeSlice T x y=>match aY P T with
  |some ⟨.slice E,_,_,_⟩=>match aY P E with
   |some te=>match bA n e x,bA n e y with
    |some (.int .i64 a),some (.int .i64 b)=>bif (decide (a=1)&&decide (b=1))&&(Nat.beq te.size 1&&Nat.ble (mR P E) 65536) then some (E,te.zero) else none
    |_,_=>none
   |none=>none
  |_=>none
 |_=>none
theorem aMO{X:Cx}{z:Value}(hj:∀b,J X (ni [] (.slice (some ⟨b,0,none⟩) 1 1) [(b,.cells ⟨[z]⟩ E (0,0))] o))(hv:eJ X.n (aAk X.P X.n) o=some (E,[z]):=by kernel_rfl)(hB:dA [] o=some []:=by kernel_rfl):J X o:=by
 refine jS (Φ:=fun v L'=>∃b,v= .slice (some ⟨b,0,none⟩) 1 1∧L'=[(b,.cells ⟨[z]⟩ E (0,0))]) [] [] hv hB (fun p e hf=>?_) (fun v L' pO=>?_)
 ·unfold aAk at hf
  split at hf<;>try (cases hf;done)
  rename_i T x y av
  split at hf<;>try (cases hf;done)
  rename_i E' _ _ _ dP
  split at hf<;>try (cases hf;done)
  rename_i te qx
  split at hf<;>try (cases hf;done)
  rename_i a b hx hy
  cases hc:((decide (a=1)&&decide (b=1))&&(Nat.beq te.size 1&&Nat.ble (mR X.P E') 65536)) with
  |false=>rw[hc] at hf;cases hf
  |true=>
   rw[hc] at hf
   simp only[cond_true,Option.some.injEq,Prod.mk.injEq] at hf
   obtain⟨rfl,hz⟩:=hf
   simp only[Bool.and_eq_true,decide_eq_true_eq,Nat.beq_eq,Nat.ble_eq] at hc
   obtain⟨⟨rfl,rfl⟩,nP,hby⟩:=hc
   obtain⟨Yb,tf⟩:=aB dP
   obtain⟨bL,jh⟩:=aB qx
   obtain⟨i,hi,hi1,IS,hi3⟩:=jh.info
   have aai:bL≤65536:=by simp only[mR,hi] at hby;omega
   have U3:¬((bL:Int)*1>2^48):=by omega
   have w2:IntKind.i64.wrap 1=1:=ir 1 (by omega)
   have fN:(I1 [z] te.agg).cells=⟨[z]⟩:=by rw[←hz];exact dQ jh
   have Dp:((Array.range ((1:Int).toNat*1)).map fun x=>(⟨[z]⟩:Array Value)[x % (⟨[z]⟩:Array Value).size]!)=⟨[z]⟩:=by apply Array.ext';simp[Nat.mod_one,List.range,List.range.loop]
   refine⟨by rw[av];simp,fun R Q E hQ=>?_⟩
   simp only[execOp,av,Instr.makeSlice,aL hx,aL hy,asInt,asIntOf,af,a8 tf,aj,kZ hi,IS,w2,U3,show ¬((1:Int) <0) by omega,show ¬((1:Int)>1) by omega,decide_false,Bool.or_self,Bool.false_eq_true,if_false]
   refine oF ?_
   simp only[af,cw jh,nP,show ¬((1:Int).toNat*1=0) by decide,if_false,jY jh,aj,hz,fN,Dp,gF]
   intro b hb
   exact hQ _ _ ⟨b,rfl,rfl⟩
 obtain⟨b,rfl,rfl⟩:=pO
 exact hj b
def ayu(P:Program)(n:Nat)(p:Oper)(e:Env):Option (Nat×Nat×Int×Int×Nat×Nat):=match p.op with
 | .slice T x (some y) (some z) none=>match aY P T with
  |some ⟨.array len E,_,_,_⟩=>match aY P E with
   |some te=>match bA n e x with
    |some (.pointer (some ⟨b,off,none⟩))=>match bA n e y with
     |some (.int _ lo)=>match bA n e z with
      |some (.int _ hi)=>some (b,off,lo,hi,len,te.size)
      |_=>none
     |_=>none
    |_=>none
   |none=>none
  |_=>none
 |_=>none
theorem aMS{X:Cx}{b len:Nat}(lo hi:Int)(hl:(0≤lo∧lo≤hi)∧hi≤len∧lo <len)(hj:J X (ku (.slice (some ⟨b,off+lo.toNat*sz,none⟩) (hi.toNat-lo.toNat) (len-lo.toNat)) o))(hv:dB X.n (ayu X.P X.n) o=some (b,off,lo,hi,len,sz):=by kernel_rfl):J X o:=by
 refine jG hv (fun s p e ho hh hf=>?_) hj
 unfold ayu at hf
 split at hf<;>try (cases hf;done)
 rename_i T x y z av
 split at hf<;>try (cases hf;done)
 rename_i ZB E _ _ _ dP
 split at hf<;>try (cases hf;done)
 rename_i te qx
 split at hf<;>try (cases hf;done)
 rename_i b' adU hx
 split at hf<;>try (cases hf;done)
 rename_i ik lo' hy
 split at hf<;>try (cases hf;done)
 rename_i ik2 Hu hz
 simp only[Option.some.injEq,Prod.mk.injEq] at hf
 obtain⟨rfl,rfl,rfl,rfl,rfl,rfl⟩:=hf
 obtain⟨bL,tf⟩:=aB dP
 obtain⟨A9,qY⟩:=aB qx
 have key:∀s,Yields X.P X.n e p s (.slice (some ⟨b',adU+lo'.toNat*te.size,none⟩) (Hu.toNat-lo'.toNat) (ZB-lo'.toNat)):=by
  intro s s' kR f hf K E hK
  have h1:0≤Hu∧Hu≤(ZB:Int):=by omega
  have h2:0≤lo'∧lo'≤(Hu.toNat:Int):=by omega
  have h3:¬ZB=lo'.toNat:=by omega
  simp only[execOp,av,Option.map_some,Option.map_none,Instr.sliceAt,Instr.sliceBounds,Instr.sliceBound,Instr.sureAddr,hf _ _ hx,hf _ _ hy,hf _ _ hz,asIntOf,af,aj,a8 tf,Option.isSome_none,Bool.false_eq_true,if_false,h1,h2,h3,and_self,if_true,cw qY,ee]
  exact hK
 exact⟨by rw[av];rfl,fun _=>key _,fun _=>key⟩
theorem aBj{X:Cx}(hq:QR X (RCG pE Φ fr))(v:Value)(hs ps:List Nat)(Y:Cells)(ib:Sub pE X.ro)(hR:Φ v X.ro Y)(h1:rA (g9 X.P X.n X.fn hs o)=some v:=by kernel_rfl)(h2:NP (g9 X.P X.n X.fn hs o)=NO (g9 X.P X.n X.fn hs o):=by kernel_rfl)(h3:dA ps o=some (Y++fr):=by kernel_rfl)(h4:zd o=true:=by kernel_rfl):J X o:=
 aS hq v hs ps (Y++fr) (Sub.refl _) ⟨v,X.ro,Y,rfl,ib,St.le_refl _,hR⟩ h1 h2 h3 h4
theorem alE{X:Cx}{aR:Nat→Option Obj}{rest:Env}{o1:Option JS}(hK:LK X i o rest todo)(hj:J (X.at aR) (JH i o o1))(hc:bkL i rest todo o o1=o1:=by kernel_rfl)(h2:PV i o=true:=by kernel_rfl):J (X.at aR) o1:=by
 by_cases cF:o1=none
 ·subst cF
  unfold JH at hj
  split at hj<;>first|exact hj| (rename_i h;cases h)
 obtain⟨ia,base,Pl,Sl,k,e,w,kn,v,w',kn',rfl,rfl⟩:=N5 hc cF
 intro bR
 have hv:(match aQ ia i with
  |some d=>(gM (upd (aQ ia i) v (bX ia base i Pl++rest)) d).getD undef
  |none=>undef)=v∨aQ ia i=none:=by
  cases hd:aQ ia i with
  |none=>exact .inr rfl
  |some d=>left;simp[upd,gM]
 unfold JH at hj
 have hj:=hj bR
 simp only[JP] at hj
 have qT:pending ia i Sl=[]:=by simpa [PV] using h2
 have key:=hK (match aQ ia i with
  |some d=>(gM (upd (aQ ia i) v (bX ia base i Pl++rest)) d).getD undef
  |none=>undef) ⟨aR,den w'⟩ (fun j u A6=>by rw[qT] at A6;cases A6) (fun hpf=>by
   have:=hj (by rw[qT];exact⟨(fun j u h=>by cases h),(fun j u B h=>by cases h)⟩)
   rwa[z9] at this)
 show ak _ _ _ _ _ _ _ _
 rw[z9]
 rcases hv with hv|hv
 ·rw[hv] at key;exact key
 rw[hv] at key ⊢;exact key
open Go.Proofs
theorem qm:Tryz.prog.follows .mixedOrders=true:=by kernel_rfl
abbrev pV(b:Nat):Value:= .pointer (some ⟨b,0,none⟩)
def Oa(o:Oper):Array TypeId:=match o.op with
 | .call c=>c.argTypes
 | .go c=>c.argTypes
 | .defer c=>c.argTypes
 |_=> #[]
noncomputable def kG(f i:Nat):Array Oper:=cX (codeOf Tryz.prog f) i
noncomputable def amM(f i:Nat):Code:=((codeOf Tryz.prog f)[i]?).getD .skip
noncomputable def B5(f:Nat):Code:=(((Tryz.prog.funcs[f]?).getD default).body).getD .skip
theorem FH{k W:Nat}:∀b∈List.replicate k W,b=W:=fun b hb=>(List.mem_replicate.1 hb).2
structure aO where
 (a b c d:Int)
deriving DecidableEq
def aO.at(x:aO):Nat→Int
 |0=>x.a
 |1=>x.b
 |2=>x.c
 |_=>x.d
def eX(x:aO):List Value:=[.int .i64 x.a,.int .i64 x.b,.int .i64 x.c,.int .i64 x.d]
theorem pN{x:aO}{k:Nat}(h:k <4):nth (eX x) (0+((k:Int)).toNat*1)=some (.int .i64 (x.at k)):=by
 rcases k with _|_|_|_|k<;>first|rfl|omega
def Ak(x:aO)(D S:Int):Nat→List Nat→Bool
 |_,[]=>true
 |f,d::ds=>bif decide ((d:Int) <D)&&decide (x.at d=x.at f) then Ak x D S f ds else
  bif (!decide (x.at f= -1)&&decide ((f:Int)>0))&&decide ((d:Int) <D)&&decide ((d:Int)-f <S) then false else Ak x D S d ds
def aj9(x:aO)(D S:Int):Bool:=Ak x D S 0 (List.range' 1 D.toNat)
theorem PQ{x:aO}{k f:Nat}(h:(k:Int)≤D)(hn:n=D.toNat+1-k):Ak x D S f (List.range' k n)=(bif decide ((k:Int) <D)&&decide (x.at k=x.at f) then Ak x D S f (List.range' (k+1) (D.toNat+1-(k+1))) else
 bif (!decide (x.at f= -1)&&decide ((f:Int)>0))&&decide ((k:Int) <D)&&decide ((k:Int)-f <S) then false else Ak x D S k (List.range' (k+1) (D.toNat+1-(k+1)))):=by
 obtain⟨m,rfl⟩:∃m,n=m+1:=⟨n-1,by omega⟩
 rw[List.range'_succ,Ak,show D.toNat+1-(k+1)=m by omega]
theorem adu{x:aO}{k f:Nat}(h:(k:Int)≤D)(hc:(k:Int) <D∧x.at k=x.at f):Ak x D S f (List.range' k (D.toNat+1-k))=Ak x D S f (List.range' (k+1) (D.toNat+1-(k+1))):=by
 rw[PQ h rfl,show (decide ((k:Int) <D)&&decide (x.at k=x.at f))=true by simp[hc.1,hc.2]];rfl
theorem WE{x:aO}{k f:Nat}(h:(k:Int)≤D)(hc:¬((k:Int) <D∧x.at k=x.at f)):Ak x D S f (List.range' k (D.toNat+1-k))=
 bif (!decide (x.at f= -1)&&decide ((f:Int)>0))&&decide ((k:Int) <D)&&decide ((k:Int)-f <S) then false else Ak x D S k (List.range' (k+1) (D.toNat+1-(k+1))):=by
 rw[PQ h rfl,show (decide ((k:Int) <D)&&decide (x.at k=x.at f))=false by cases h1:(decide ((k:Int) <D)&&decide (x.at k=x.at f)) with
  |false=>rfl
  |true=>exact absurd (by simpa using h1) hc];rfl
theorem adw{x:aO}{k f:Nat}(h:(k:Int)≤D)(hc:¬((k:Int) <D∧x.at k=x.at f))(h7:((¬x.at f= -1∧(f:Int)>0)∧(k:Int) <D)∧(k:Int)-f <S):Ak x D S f (List.range' k (D.toNat+1-k))=false:=by
 rw[WE h hc,show ((!decide (x.at f= -1)&&decide ((f:Int)>0))&&decide ((k:Int) <D)&&decide ((k:Int)-f <S))=true by simp only[decide_eq_true h7.2,decide_eq_true h7.1.2,decide_eq_true h7.1.1.2,decide_eq_false h7.1.1.1];rfl];rfl
theorem adx{x:aO}{k f:Nat}(h:(k:Int)≤D)(hc:¬((k:Int) <D∧x.at k=x.at f))(h7:¬(((¬x.at f= -1∧(f:Int)>0)∧(k:Int) <D)∧(k:Int)-f <S)):Ak x D S f (List.range' k (D.toNat+1-k))=Ak x D S k (List.range' (k+1) (D.toNat+1-(k+1))):=by
 rw[WE h hc,show ((!decide (x.at f= -1)&&decide ((f:Int)>0))&&decide ((k:Int) <D)&&decide ((k:Int)-f <S))=false by
  cases h1:((!decide (x.at f= -1)&&decide ((f:Int)>0))&&decide ((k:Int) <D)&&decide ((k:Int)-f <S)) with
  |false=>rfl
  |true=>
   simp only[Bool.and_eq_true,Bool.not_eq_true',decide_eq_true_eq,decide_eq_false_iff_not] at h1
   exact absurd h1 h7];rfl
structure fy where
 (a0 a1 a2 a3 a4 a7 DR:Value)
 (D S:Int)
 (ha:Option Addr)
 (H ek:Nat)
def fy.cells(W:fy)(v:Value):List Value:=[W.a0,W.a1,W.a2,W.a3,W.a4,.int .i64 W.D,.int .i64 W.S,W.a7,.slice W.ha W.H W.ek,v,W.DR]
noncomputable def fx(M:yg Tryz.prog 225 4)(Wg Mu Hb:Nat)(W:fy)(mg:Os)(eg:Array (Nat×ByteArray)):de aO:=
 ⟨Tryz.prog,231,225,Wg,Mu,Hb,4,5000,⟨W.cells (.slice none 0 0)⟩,105,mg,eg,fun l v X=>aK v 4 112 eX l X,M,by decide⟩
structure IA(M:yg Tryz.prog 225 4):Prop where
 lock:∀Mu k cs,∃n,Pure Tryz.prog false (lJ 225 Mu) (M.At Mu (.ld k) cs) n (G (Frame.enter Tryz.prog 131 #[pV Mu] .normal) cs)
 unlock:∀Mu k cs,∃n,Pure Tryz.prog false (lJ 225 Mu) (M.At Mu (.ui k) cs) n (G (Frame.enter Tryz.prog 132 #[pV Mu] .deferred) cs)
section
variable {M:yg Tryz.prog 225 4} {Wg Mu Hb:Nat} {W:fy} {mg:Os} {eg:Array (Nat×ByteArray)}
theorem Vg:(fx M Wg Mu Hb W mg eg).hole= .pending ⟨W.cells (.slice none 0 0)⟩ 105:=rfl
end
theorem amx:jF [B5 130]=[.region 0 (kG 130 0) false,.region 1 (kG 130 1) false,.region 2 (kG 130 2) false,amM 130 3]:=by kernel_rfl
section
variable {M:yg Tryz.prog 225 4} {Wg Mu Hb:Nat} {W:fy} {mg:Os} {eg:Array (Nat×ByteArray)}
theorem aMD(hM:IA M){x:aO}{os:List aO}{L:Cells}
 (h1:ro b1=some (.cells ⟨[pV Hb]⟩ 95 (0,0)))(hH:ro Hb=some (.pending ⟨W.cells (.slice none 0 0)⟩ 105))
 (hk:dg Tryz.prog false ((fx M Wg Mu Hb W mg eg).Stp os) (G (cl.finish (.tuple #[])) EH) ⟨ro,L⟩):
 dg Tryz.prog false ((fx M Wg Mu Hb W mg eg).Stp (x::os)) (G (Frame.enter Tryz.prog 130 ⟨[.agg ⟨eX x⟩,pV Mu,pV b1]⟩ .normal) (cl::EH)) ⟨ro,L⟩:=by
 have hT:=cN Tryz.prog false ((fx M Wg Mu Hb W mg eg).Stp (x::os))
 have cF:b1≠Hb:=fun e=>by subst e;rw[h1] at hH;cases hH
 refine Ms (fn:=(Tryz.prog.funcs[130]?).getD default) (c:=B5 130) (n:=15) (by kernel_rfl) (by kernel_rfl) (by kernel_rfl) (by rfl)<|og hT amx fun l1 OJ=>?_
 refine xg qm hT<|jn fun b3=>jd 1 []<|u7<|og hT OJ fun l2 y6=>?_
 show TT _ _ (.inRegion (kG 130 1) [0]::_) _ _ _ _ _
 refine ayh (E:=fx M Wg Mu Hb W mg eg) (a:=bV (kG 130 1) 0) (f:=131) (x:= .tmp 1) (ats:=Oa (bV (kG 130 1) 0)) (by kernel_rfl) (by kernel_rfl) (by kernel_rfl) (jH (by kernel_rfl)) (by decide) rfl (fun cs=>hM.lock Mu _ cs) hH (fun l v X gK Fg=>?_)
 have gK:aK v 4 112 eX l X:=gK
 have Fg:l.length <5000:=Fg
 have XJ:=nG (E:=fx M Wg Mu Hb W mg eg) (l++[x]) ((fx M Wg Mu Hb W mg eg).So ((fx M Wg Mu Hb W mg eg).Stp os) os.length)
 have g1:gx ro Hb ((fx M Wg Mu Hb W mg eg).full v) b1=some (.cells ⟨[pV Hb]⟩ 95 (0,0)):=by rw[jz _ _ cF];exact h1
 have gH:gx ro Hb ((fx M Wg Mu Hb W mg eg).full v) Hb=some (.cells ⟨W.cells v⟩ 105 (0,0)):=by rw[gI];rfl
 refine og XJ y6 fun l3 hl3=>?_
 show TT _ _ (.inRegion (kG 130 2) [0]::_) _ _ _ _ _
 refine aca XJ (a:=bV (kG 130 2) 0) (f:=132) (xs:= #[.tmp 1]) (vs:=[pV Mu]) (ats:=Oa (bV (kG 130 2) 0)) (by kernel_rfl) (by kernel_rfl) (by kernel_rfl) (by decide) rfl<|Pm XJ hl3 fun l4 hl4=>?_
 have:=kA hl4
 subst this
 refine acb qm XJ<|jd 1 []<|jl (b:=b1) (off:=0) (m:=1) (vs:=[pV Hb]) 0 ⟨_,_,_,.inl g1,rfl⟩<|jl (b:=b1) (off:=0) (m:=1) (vs:=[pV Hb]) 0 ⟨_,_,_,.inl g1,rfl⟩<|jd 2 []<|jl (b:=Hb) (off:=0) (m:=11) (vs:=W.cells v) 9 ⟨_,_,_,.inl gH,rfl⟩<|jd 1 [1]<|dV 6 fun z6 t6 hL6=>jn fun b22=>iv hL6 [1,2,3]<|dV 7 fun z7 t7 hL7=>aMR eX b22 x 1 0 gK rfl rfl (by omega) fun va vc L23 Nl=>wC hL7 [[],[]]<|jd 2 []<|dV 10 fun z10 t10 U7=>jhs (E:=fx M Wg Mu Hb W mg eg) rfl (fun m T' h=>h) rfl (by kernel_rfl) U7 [0] (v:= .slice va (l++[x]).length vc) (Y:=L23) (c:=W.cells v) gH (by show 9 <11;omega) rfl ?_ Nl rfl rfl ?_ (by kernel_rfl) (by kernel_rfl) (by kernel_rfl)
 ·intro j hj
  have hj:j≠9:=hj
  show (W.cells v)[j]?=(⟨W.cells (.slice none 0 0)⟩:Array Value)[j]?
  match j,hj with
  |0,_|1,_|2,_|3,_|4,_|5,_|6,_|7,_|8,_|10,_=>rfl
  |j+11,_=>rfl
 refine jd 1 []<|ayk<|ajs (E:=fx M Wg Mu Hb W mg eg) (fn:=(Tryz.prog.funcs[130]?).getD default) (by kernel_rfl) (by kernel_rfl) (by kernel_rfl) (fun cs=>hM.unlock Mu _ cs) (gI _ _ _) [2] (Y:=L) ?_
 show dg _ _ _ _ ⟨gx (gx ro Hb _) Hb _,_⟩
 have my:gx (gx ro Hb ((fx M Wg Mu Hb W mg eg).full v)) Hb (.pending ⟨W.cells (.slice none 0 0)⟩ 105)=ro:=funext fun q=>by
  by_cases e:q=Hb
  ·subst e;rw[gI,hH]
  rw[jz _ _ e,jz _ _ e]
 rw[Vg]
 erw [my]
 exact hk
end
section
variable {P:Program} {main:Bool} {T T':Goroutine→St→Prop} {b:Frame} {a:Act} {k:List Item} {cs:List Frame} {ops:Array Oper} {s:St}
theorem Zp(hT:Closed P main T){rest:List Nat}{o:Oper}(ho:ops[i]?=some o) (hg:o.guard=none) (hk:b.kind≠ .early) (hb:b.roundOf=none) {fi:Array Value} {xs:Array Operand} (av:o.op= .call ⟨.value y,xs,ats⟩) (hy:a.eval y= .func (.func f) fi ca) (hf:FF P f)
 (h:T (G (Frame.enter P f (fi++xs.map a.eval++ca) .normal) (aW b a (.inRegion ops (i::rest)::k)::cs)) s):T (G (aW b a (.inRegion ops (i::rest)::k)) cs) s:=by
 have iU:(b.kind==CallKind.early)=false:=by simpa using hk
 have hw:Region.wanted o (yielded ops a.tmps)=true:=fb o _ hg
 have vD:cu P (execOp a.eval o) s (fun nx s'=>nx= .enter f (fi++xs.map a.eval++ca)∧s'=s) (fun _ _=>False):=by
  simp only[execOp,av,resolve,hy,Deferred.ofValue,af,aj,invoke]
  exact jZ hf ⟨rfl,rfl⟩
 have gz:∀w,stepG P main (G (aW b a (.inRegion ops (i::rest)::k)) cs) w=stepG.apply P true (aW b a (.inRegion ops (i::rest)::k)) cs none (execOp a.eval o) w:=by
  intro w
  have he:=oQ b a (.inRegion ops (i::rest)::k)
  simp only[aW] at he
  simp only[G,stepG,stepG.exec,aW,ho,Option.map_some,Option.getD_some,hw,if_true,stepG.oper,Frame.oper?,he]
  rw[hb]
 refine hT.step _ _ rfl fun w rU=>?_
 obtain⟨r,es,hr,hl⟩:=gC _ _ _ _ w #[] vD rU
 rw[Array.empty_append] at hr
 have nE:=gz w
 simp only[stepG.apply,if_true,hr] at nE
 simp only[aW,iU,Bool.false_eq_true,if_false] at nE
 cases r with
 |ok nx w'=>
  obtain⟨s',ht,rfl,rfl⟩:=hl
  simp only[GStep.after,Array.append_empty] at nE
  exact⟨_,_,_,_,nE,rfl,ht.sub (iz P b.fn es),h⟩
 |halt hh w'=>
  obtain⟨s',ht,hu⟩:=hl
  exact hu.elim
end
section
variable {P:Program} {main:Bool} {T T':Goroutine→St→Prop} {b:Frame} {k:List Item} {cs:List Frame} {n:Nat} {D:List Deferred} {ro:Nat→Option Obj} {o:Option JS} {ops:Array Oper}
theorem S7(hT:Closed P main T){rest:List Nat}{a:Oper}{fi ca ws:List Value}{xs:Array Operand}(vs:List Value)(ho:ops[i]?=some a) (hg:a.guard=none) (av:a.op= .call ⟨.value y,xs,ats⟩) (hf:FF P f) (hk:b.kind≠ .early) (hr:b.roundOf=none)
 (cK:∀cl L,T' (G (cl.finish (.tuple #[])) cs) ⟨ro,L⟩→T (G (Frame.enter P f ⟨vs⟩ .normal) (cl::cs)) ⟨ro,L⟩)
 (h:TT T' b (.inRegion ops rest::k) cs n D ro (stO a.dst (.tuple #[]) o))
 (hy:evO n y o=some (.func (.func f) ⟨fi⟩ ⟨ca⟩):=by kernel_rfl) (hx:aEo n xs.toList o=some ws:=by kernel_rfl) (hvs:fi++ws++ca=vs:=by rfl):TT T b (.inRegion ops (i::rest)::k) cs n D ro o:=by
 rintro e w kn rfl bR
 refine Zp hT ho hg hk hr av (by rw[gQ];exact aL hy) hf ?_
 have e2:xs.map (A n e D).eval=⟨ws⟩:=by rw[gQ];exact rC hx
 have e3:(⟨fi⟩:Array Value)++xs.map (A n e D).eval++⟨ca⟩=⟨vs⟩:=by rw[e2,←hvs];simp
 rw[e3]
 refine cK _ _ ?_
 rw[iO,ho]
 simp only[Option.bind_some]
 rw[bI]
 exact h _ _ _ rfl bR
theorem ayi(hT:Closed P main T){q:Nat}{a:Oper}{x:Operand}{U:TypeId}{l:List Value}(v:Value)(ho:ops[i]?=some a) (hg:a.guard=none) (av:a.op= .load U x) (hl:ldv P U l 0=some v) (hk:b.kind≠ .early) (hr:b.roundOf=none) (ps:List Nat) (t:TypeId)
 (h:TT T b (.inRegion ops todo::k) cs n D ro (stO a.dst v o)) (hx:evO n x o=some (.pointer (some ⟨q,0,none⟩)):=by kernel_rfl) (hd:dA ps o=some [(q,.cells ⟨l⟩ t (0,0))]:=by kernel_rfl):TT T b (.inRegion ops (i::todo)::k) cs n D ro o:=by
 rintro e w kn rfl bR
 have hb:(⟨ro,den w⟩:St).has q (.cells ⟨l⟩ t (0,0)):= .inr ((bK hd).mem_iff.2 (List.mem_append_left _ (List.mem_singleton.2 rfl)))
 refine xz hT ho (fb _ _ hg) hk hr ?_
 rw[gQ]
 refine Um av hx hb hl _ (Ext.refl _) _ (fun _ _ h=>aL h) _ _ ⟨v,rfl,?_⟩
 rw[bI]
 exact h _ _ _ rfl bR
theorem ayj(hT:Closed P main T)(ps:List Nat)(Y:Cells)(hf:P.funcs[f]?=some fn) (yZ:fn.results= #[])
 (hk:T (G (cl.finish (.tuple #[])) EH) ⟨ro,Y⟩) (h3:dA ps o=some Y:=by kernel_rfl):TT T (JA f .normal) [] (cl::EH) n [] ro o:=by
 rintro e w kn rfl bR
 have hp:=bK h3
 refine hT.go rfl rfl (g':=G {aW (JA f .normal) (A n e []) [] with mode:= .returning} (cl::EH)) (fun w=>by simp[G,stepG,stepG.exec,aW,JA])<|qZ (C:=CA P) (fun _ _ h=>h) (T:=T) hT hf (fr:={aW (JA f .normal) (A n e []) [] with mode:= .returning}) rfl rfl rfl rfl (R:=fun en s'=>en= .returned (.tuple #[])∧s'=⟨ro,Y⟩) ?_ (fun v s' hv=>?_)
 ·have h1:∀tm,results fn tm=Sem.pure (.tuple #[]):=by intro tm;simp[results,yZ];rfl
  rw[h1]
  exact⟨⟨ro,Y⟩,dF hp (Sub.refl _),rfl,rfl⟩
 obtain⟨hv,rfl⟩:=hv
 cases hv
 exact hk
end
theorem aE:Tryz.prog.follows .mixedOrders=true:=by kernel_rfl
theorem zB:(∀a b:Bool,((a&&b)=true)=(a=true∧b=true))∧(∀a b:Bool,((a||b)=true)=(a=true∨b=true))∧(∀a b:Bool,((a&&b)=false)=(a=false∨b=false))∧(∀a b:Bool,((a||b)=false)=(a=false∧b=false))∧(∀b:Bool,((!b)=true)=(b=false))∧(∀b:Bool,((!b)=false)=(b=true))∧(∀(p:Prop) [Decidable p],(decide p=true)=p)∧(∀(p:Prop) [Decidable p],(decide p=false)=¬p)∧((¬True)=False)∧(∀p:Prop,(p∨False)=p)∧(∀p:Prop,(False∨p)=p):=
 ⟨Bool.and_eq_true,Bool.or_eq_true,by simp,by simp,by simp,by simp,by simp,by simp,by simp,by simp,by simp⟩
@[reducible] noncomputable def zT:Program:=Tryz.prog
abbrev zS:Value:= .slice none 0 0
abbrev zP(b:Nat):Value:= .pointer (some ⟨b,0,none⟩)
abbrev zI(n:Int):Value:= .int .i64 n
abbrev zU(n:Int):Value:= .int .u64 n
abbrev zO:List Value:=[zS,zS,zS,zS,zS,zS,zS,zS,zI 0,zI 0,zI 0,zS]
theorem zG(l:List α)(k:Nat)(h:k <l.length:=by first|omega| (simp only[List.length_set];omega)):∃x,l[k]?=some x:=⟨_,List.getElem?_eq_getElem h⟩
theorem zJ{X:Cx}(t:Nat)(p:Prop)[Decidable p](h1:p→J X (Px t (.bool true) o))(h2:¬p→J X (Px t (.bool false) o))(hv:J3 t o=some (.bool (decide p)):=by kernel_rfl):J X o:=
 js t (decide p) (fun h=>h1 (of_decide_eq_true h)) (fun h=>h2 (of_decide_eq_false h)) hv
theorem zD{X:Cx}(k:Nat)(h:J X (res (adv X.P X.n k [] o)))(he:lhs (adv X.P X.n k [] o)=rhs (adv X.P X.n k [] o):=by kernel_rfl):J X o:=jd k [] h he
theorem zL{l:List α}{a:α}(h:l[i]?=some a):a∈l:=List.mem_of_getElem? h
theorem zR{P:Program}{hm:P.follows .mixedOrders=true}{Φ:Value→Cells→Prop}(v:Value)(hs ps:List Nat)(Y:Cells)(hR:Φ v Y)(h1:rA (g9 P (rB P f).ntmps f hs o)=some v:=by kernel_rfl)(h2:NP (g9 P (rB P f).ntmps f hs o)=NO (g9 P (rB P f).ntmps f hs o):=by kernel_rfl)(h3:dA ps o=some Y:=by kernel_rfl)(h4:zd o=true:=by kernel_rfl):J (X0 P hm f ro (RX ro Φ)) o:=
 aS q0 v hs ps Y (Sub.refl _) ⟨_,_,rfl,rfl,hR⟩ h1 h2 h3 h4
theorem zX{P:Program}{hm:P.follows .mixedOrders=true}{Φ:Value→Cells→Prop}(v:Value)(hR:Φ v [])(h1:rA (g9 P (rB P f).ntmps f [] o)=some v:=by kernel_rfl)(h2:NP (g9 P (rB P f).ntmps f [] o)=NO (g9 P (rB P f).ntmps f [] o):=by kernel_rfl)(h3:dA [] o=some []:=by kernel_rfl)(h4:zd o=true:=by kernel_rfl):J (X0 P hm f ro (RX ro Φ)) o:=
 zR v [] [] [] hR h1 h2 h3 h4
theorem zE{Φ:Value→Cells→Prop}(h:J (X0 Tryz.prog aE f ro (RX ro Φ)) (kE Tryz.prog f args [] [])):dX Tryz.prog f args ro [] Φ:=cd aE [] [] bJ h
theorem zC{Φ:Value→Cells→Prop}{L:Cells}(own:List Sg)(h:J (X0 Tryz.prog aE f ro (RX ro Φ)) (kE Tryz.prog f args own []))(hL:den own=L:=by rfl):dX Tryz.prog f args ro L Φ:=cd aE own [] bJ h hL
@[reducible] def zN(a k:Nat):List Nat:=List.range' a k
theorem zM:(∀l m:List α,(l++m).length=l.length+m.length)∧(∀(a:α) (l:List α),(a::l).length=l.length+1)∧([]:List α).length=0:=⟨fun _ _=>List.length_append,fun _ _=>rfl,rfl⟩
theorem zK{X:Cx}{m:Nat}{e:Env}{o':Option JS}(h:∀o',uM 0 [] o'=uM m [] o→pM (mH e) o'=some e→J X o')(h1:uM 0 [] o'=uM m [] o:=by kernel_rfl)(h2:pM (mH e) o'=some e:=by kernel_rfl):J X o':=h o' h1 h2
theorem zY{X:Cx}{K:Act→St→Prop}{ef:ι→Env}{wf:ι→List Sg}{Inv:ι→Prop}{μ:ι→Nat}{m:Nat}(hK:rM X K ef wf Inv μ m)(j:ι)(h:Inv j)(ps:List Nat)(hm:μ j <m:=by first|omega| (dsimp only;omega))
 (h0:MT o=some K:=by kernel_rfl)(h1:pM (mH (ef j)) o=some (ef j):=by kernel_rfl)(h2:qk ps o=some (wf j):=by kernel_rfl):J X o:=eW hK j h hm ps (Sub.refl _) h0 h1 h2
theorem zF{X:Cx}{K:Act→St→Prop}{ef:ι→Env}{wf:ι→List Sg}{A B:ι→Prop}{μ:ι→Nat}{m:Nat}(hK:rM X K ef wf (fun j=>A j∧B j) μ m)(j:ι)(h:B j)(ps:List Nat)(h9:A j:=by dsimp only;omega)(hm:μ j <m:=by first|omega| (dsimp only;omega))
 (h0:MT o=some K:=by kernel_rfl)(h1:pM (mH (ef j)) o=some (ef j):=by kernel_rfl)(h2:qk ps o=some (wf j):=by kernel_rfl):J X o:=eW hK j ⟨h9,h⟩ hm ps (Sub.refl _) h0 h1 h2
theorem zH{X:Cx}{szo:Nat}{T2:TypeId}{enc:α→List Value}{ps:List α}{L:Cells}{x:α}(ix:Int)(sz:Nat)(gK:aK v szo T2 enc ps L)(hx:ps[ix.toNat]?=some x) (hj:∀b,JL v b→J X (ku (.pointer (some ⟨b,ix.toNat*sz,none⟩)) o)) (he:ix=(ix.toNat:Int):=by first|omega| (simp only[List.length_set] at*;omega)) (hv:dB X.n (ixA X.P X.n) o=some (v,ix,sz):=by kernel_rfl):J X o:=QB ix sz gK hx he hj hv
theorem zV{X:Cx}{K:Act→St→Prop}{ef:ι→Env}{wf:ι→List Sg}{Inv:ι→Prop}{μ:ι→Nat}{m:Nat}(hK:rM X K ef wf Inv μ m)(j:ι)(h:Inv j)(ps:List (List Nat))(hm:μ j <m:=by first|omega| (dsimp only;omega))
 (h0:MT o=some K:=by kernel_rfl)(h1:pM (mH (ef j)) o=some (ef j):=by kernel_rfl)(h2:gO ps o=some (Tn (wf j)):=by kernel_rfl):J X o:=Us hK j h hm ps (Sub.refl _) h0 h1 h2
theorem zW{X:Cx}(r:Int)(hj:J X (ku (.int .i64 r) o))(h: -9223372036854775808≤r∧r≤9223372036854775807:=by omega)(hv:dB X.n (aja X.P X.n) o=some (.int .i64 (IntKind.i64.wrap r)):=by kernel_rfl):J X o:=ja r h hj hv
def gY(n lo hi:Int):Bool:=decide (lo≤n)&&decide (n≤hi)
def c9(p:α→Bool):List α→Nat→Int
 | [],_=> -1
 |x::l,k=>bif p x then k else c9 p l (k+1)
theorem kP{l:List α}{k:Nat}{x:α}(h:l[k]?=some x):l.drop k=x::l.drop (k+1):=by
 obtain⟨h1,h2⟩:=List.getElem?_eq_some_iff.1 h
 rw[List.drop_eq_getElem_cons h1,h2]
theorem kD{l:List α}{k:Nat}(h:¬k <l.length):l.drop k=[]:=List.drop_eq_nil_of_le (by omega)
theorem mM{p:α→Bool}{l:List α}{k:Nat}{x:α}(h:l[k]?=some x):c9 p (l.drop k) k=bif p x then (k:Int) else c9 p (l.drop (k+1)) (k+1):=by rw[kP h];rfl
theorem xR{p:α→Bool}{l:List α}{k:Nat}(h:¬k <l.length):c9 p (l.drop k) k= -1:=by rw[kD h];rfl
abbrev dc(x:Int):List Value:=[zI x]
def bs(l:List Nat):ByteArray:=⟨(l.map UInt8.ofNat).toArray⟩
abbrev kT(x:ByteArray):List Value:=[.string x]
structure dK where
 f:ByteArray
 t:ByteArray
variable {rs:List dK}
abbrev kB(x:dK):List Value:=[.string x.f,.string x.t]
structure cE where
 k:Int
 st:Int
 ot:Int
 fn:Int
 fl:Int
 tn:Int
 tl:Int
abbrev nU(x:cE):List Value:=[.int .i64 x.k,.int .i64 x.st,.int .i64 x.ot,.int .i64 x.fn,.int .i64 x.fl,.int .i64 x.tn,.int .i64 x.tl]
theorem CX{ps:List α}{k:Nat}{x y:α}(h1:ps[i]?=some x) (h2:ps[k]?=some y):((ps.set i y).set k x).Perm ps:=by
 obtain⟨a,rfl⟩:=List.getElem?_eq_some_iff.1 h1
 obtain⟨b,rfl⟩:=List.getElem?_eq_some_iff.1 h2
 exact List.set_set_perm a b
def iE(c:cE):Prop:=c∈[(⟨1,0,0,0,0,0,0⟩:cE),⟨2,0,0,0,0,0,0⟩]
def Ay(b:UInt8):Bool:=Nat.ble 97 b.toNat&&Nat.ble b.toNat 122
def E6(b:UInt8):Bool:=Nat.ble 65 b.toNat&&(Nat.ble b.toNat 90&& !(Nat.beq b.toNat 72||Nat.beq b.toNat 81||Nat.beq b.toNat 87))
def Script(w:ByteArray):Prop:=(∀b∈w.data.toList,Ay b=true)∨(∀b∈w.data.toList,E6 b=true)
theorem mE{b:Nat}{enc:α→List Value}(ps:List α)(hn:ps.length=n)(hl:∀p∈ps,(enc p).length=sz):aK (.slice (some ⟨b,0,none⟩) n n) sz T enc ps [(b,.cells ⟨(ps.map enc).flatten⟩ T (0,0))]:=by
 subst hn
 exact .inr ⟨b,_,ps.length,rfl,rfl,lD ps hl,Nat.le_refl _,hl,by rw[←lD ps hl,List.take_length]⟩
inductive iF{α β:Type}(R:α→β→Prop):List α→List β→Prop
 |nil:iF R [] []
 |cons {a:α} {b:β} {l:List α} {m:List β}:R a b→iF R l m→iF R (a::l) (b::m)
theorem iF.snoc{R:α→β→Prop}{l:List α}{m:List β}{a:α}{b:β}(h:iF R l m)(k:R a b):iF R (l++[a]) (m++[b]):=by
 induction h with
 |nil=>exact .cons k .nil
 |cons h1 _ ih=>exact .cons h1 ih
theorem iF.len{R:α→β→Prop}{l:List α}{m:List β}(h:iF R l m):l.length=m.length:=by
 induction h with
 |nil=>rfl
 |cons _ _ ih=>simp[ih]
theorem iF.get{R:α→β→Prop}{l:List α}{m:List β}(h:iF R l m){a:α}(ha:l[i]?=some a):∃b,m[i]?=some b∧R a b:=by
 induction h generalizing i with
 |nil=>simp at ha
 |cons h1 _ ih=>
  cases i with
  |zero=>simp at ha;subst ha;exact⟨_,rfl,h1⟩
  |succ i=>exact ih (by simpa using ha)
theorem iF.imp{R S:α→β→Prop}{l:List α}{m:List β}(h:iF R l m)(k:∀a b,R a b→S a b):iF S l m:=by
 induction h with
 |nil=>exact .nil
 |cons h1 _ ih=>exact .cons (k _ _ h1) ih
theorem Aj{l:List α}{R:α→α→Prop}(h:l.Pairwise R){j:Nat}{a b:α}(IQ:i <j)(ha:l[i]?=some a) (hb:l[j]?=some b):R a b:=by
 obtain⟨h1,rfl⟩:=List.getElem?_eq_some_iff.1 ha
 obtain⟨h2,rfl⟩:=List.getElem?_eq_some_iff.1 hb
 exact List.pairwise_iff_getElem.1 h i j h1 h2 IQ
abbrev w6(x:Value):List Value:=[x]
structure az where
 n:Int
 l:Int
abbrev ez(x:az):List Value:=[zI x.n,zI x.l]
def aka(x y:az):Prop:=x.n <y.n∨(x.n=y.n∧x.l <y.l)
def B8(x:az):Prop:=(1≤x.n∧x.n≤9)∧0≤x.l∧x.l≤4
structure eG(S:List (List az)):Prop where
 two:S.length=1
 len:∀l∈S,l.length≤4
 ok:∀l∈S,∀x∈l,B8 x
 asc:∀l∈S,l.Pairwise aka
def bU(ro:Nat→Option Obj)(v:Value)(S:List (List az)):Prop:=∃ws,cD ro v 1 w6 ws∧iF (fun w l=>cD ro w 2 ez l) ws S
def lG(ro:Nat→Option Obj)(v:Value)(ways:List (List cE)):Prop:=∃ws,cD ro v 1 w6 ws∧iF (fun w l=>cD ro w 7 nU l) ws ways
theorem bU.up{aR:Nat→Option Obj}{S:List (List az)}(h:bU ro v S)(hs:Sub ro aR):bU aR v S:=by
 obtain⟨ws,h1,h2⟩:=h
 exact⟨ws,h1.up hs,h2.imp fun _ _ k=>k.up hs⟩
theorem lG.up{aR:Nat→Option Obj}{w:List (List cE)}(h:lG ro v w)(hs:Sub ro aR):lG aR v w:=by
 obtain⟨ws,h1,h2⟩:=h
 exact⟨ws,h1.up hs,h2.imp fun _ _ k=>k.up hs⟩
structure iD where
 a:Int
 b:Int
 c:Int
 d:Int
 e:Int
 f:Int
abbrev rG(x:iD):List Value:=[zI x.a,zI x.b,zI x.c,zI x.d,zI x.e,zI x.f]
theorem j5{enc:α→List Value}{ps:List α}(h:cD ro v sz enc ps):single v=true:=by
 obtain⟨a,b,o,c,rfl,_⟩:=h;rfl
theorem wz{P:Prop}{p:α}(h:([]:List α)[i]?=some p):P:=by simp at h
theorem eK{l:List α}{a:α}(h:l[i]?=some a):l.take (i+1)=l.take i++[a]:=by
 rw[List.take_succ,h];rfl
theorem yQ{R:α→β→Prop}{ws:List α}{ls:List β}{w:α}{l:β}(h:iF R ws (ls.take i))(hl:ls[i]?=some l) (hr:R w l):iF R (ws++[w]) (ls.take (i+1)):=by
 rw[eK hl];exact h.snoc hr
def hqw:ByteArray:=bs [72,81,87]
def kindOf(r:Int):Int:=if 97≤r∧r≤122 then 1 else if (65≤r∧r≤90)∧QE hqw (UInt8.ofNat (IntKind.u8.wrap r).toNat) <0 then 2 else 0
theorem aEB:EF zT 330 Extern.BytealgIndexByte.indexByte:=⟨Tryz.f330,Tryz.func330,by kernel_rfl,by kernel_rfl,by kernel_rfl,by kernel_rfl⟩
theorem ZI{a:ByteArray}{b:Int}:eR zT 311 [.string a,.int .u8 b] ro (zI (QE a (b).toNat.toUInt8)):=by
 refine zE<|zD 8<|jib (a:=a) (b:=b) aEB<|zD 3<|zX (zI (QE a (b).toNat.toUInt8)) ⟨rfl,rfl⟩
theorem ZJ{a:ByteArray}{b:Int}:eR zT 275 [.string a,.int .u8 b] ro (zI (QE a (b).toNat.toUInt8)):=by
 refine zE<|zD 8<|jp (vs:=[.string a,.int .u8 b]) [] [] (fun aV hs hZ=>ZI)<|zD 3<|zX (zI (QE a (b).toNat.toUInt8)) ⟨rfl,rfl⟩
theorem asM{a:ByteArray}(hr:0≤r∧r <128):eR zT 235 [.string a,.int .i32 r] ro (zI (QE a (IntKind.u8.wrap r).toNat.toUInt8)):=by
 refine zE<|zD 10<|jj 3 [(0,.string a),(1,.int .i32 r),(4,zI 0),(166,.bool ((decide (0≤r))&&(decide (r <128))))] (fun nK=>?_) (fun hj=>?_)
 rotate_left
 refine js 163 (decide (0≤r)) (fun h1=>?_) (fun h1=>?_)
 ·
  have qh:=h1
  replace qh:=of_decide_eq_true qh
  refine zD 3<|jw 166 (.bool ((decide (0≤r))&&(decide (r <128)))) (w:= .bool (decide (r <128))) (by rw[h1]<;>rfl) ?_
  exact zK hj
 ·
  have qh:=h1
  replace qh:=of_decide_eq_false qh
  refine zD 3<|jw 166 (.bool ((decide (0≤r))&&(decide (r <128)))) (w:= .bool false) (by rw[h1]<;>rfl) ?_
  exact zK hj
 refine zD 2<|js 160 ((decide (0≤r))&&(decide (r <128))) (fun h2=>?_) (fun h2=>?_)
 ·
  try simp only[zB] at h2
  refine zD 6<|jp (vs:=[.string a,.int .u8 (IntKind.u8.wrap r)]) [] [] (fun aV hs hZ=>ZJ)<|zD 3<|zX (zI (QE a ((IntKind.u8.wrap r)).toNat.toUInt8)) ⟨rfl,rfl⟩
 try simp only[zB] at h2
 exfalso;omega
theorem amd{a:ByteArray}(hr:0≤r∧r <128):eR zT 205 [.string a,.int .i32 r] ro (.bool (decide (QE a (IntKind.u8.wrap r).toNat.toUInt8≥0))):=by
 refine zE<|zD 8<|jp (vs:=[.string a,.int .i32 r]) [] [] (fun aV hs hZ=>asM (by omega))<|zD 4<|zX (.bool (decide ((QE a (IntKind.u8.wrap r).toNat.toUInt8)≥0))) ⟨rfl,rfl⟩
theorem aob:eR zT 143 [.int .i32 r] ro (zI (kindOf r)):=by
 refine zE<|zD 11<|jj 3 [(0,.int .i32 r),(2,zI 0),(9,.bool ((decide (r≥97))&&(decide (r≤122))))] (fun nK=>?_) (fun hj=>?_)
 rotate_left
 refine js 6 (decide (r≥97)) (fun h1=>?_) (fun h1=>?_)
 ·
  have qh:=h1
  replace qh:=of_decide_eq_true qh
  refine zD 3<|jw 9 (.bool ((decide (r≥97))&&(decide (r≤122)))) (w:= .bool (decide (r≤122))) (by rw[h1]<;>rfl) ?_
  exact zK hj
 ·
  have qh:=h1
  replace qh:=of_decide_eq_false qh
  refine zD 3<|jw 9 (.bool ((decide (r≥97))&&(decide (r≤122)))) (w:= .bool false) (by rw[h1]<;>rfl) ?_
  exact zK hj
 refine zD 2<|js 3 ((decide (r≥97))&&(decide (r≤122))) (fun h2=>?_) (fun h2=>?_)
 ·
  try simp only[zB] at h2
  refine zD 6<|zX (zI 1) ⟨by simp only[kindOf,hqw];congr 1;(try simp at*);(repeat' split)<;>omega,rfl⟩
 try simp only[zB] at h2
 refine zD 6<|jj 3 [(0,.int .i32 r),(2,zI 0),(16,.bool ((decide (r≥65))&&(decide (r≤90))))] (fun nK=>?_) (fun hj=>?_)
 rotate_left
 refine js 13 (decide (r≥65)) (fun h3=>?_) (fun h3=>?_)
 ·
  have vK:=h3
  replace vK:=of_decide_eq_true vK
  refine zD 3<|jw 16 (.bool ((decide (r≥65))&&(decide (r≤90)))) (w:= .bool (decide (r≤90))) (by rw[h3]<;>rfl) ?_
  exact zK hj
 ·
  have vK:=h3
  replace vK:=of_decide_eq_false vK
  refine zD 3<|jw 16 (.bool ((decide (r≥65))&&(decide (r≤90)))) (w:= .bool false) (by rw[h3]<;>rfl) ?_
  exact zK hj
 refine zD 1<|jj 4 [(2,zI 0),(21,.bool (((decide (r≥65))&&(decide (r≤90)))&&(!(decide (QE (bs [72,81,87]) (IntKind.u8.wrap r).toNat.toUInt8≥0)))))] (fun nK=>?_) (fun hj=>?_)
 rotate_left
 refine js 17 ((decide (r≥65))&&(decide (r≤90))) (fun h4=>?_) (fun h4=>?_)
 ·
  have Jz:=h4
  try simp only[zB] at Jz
  refine zD 1<|jp (vs:=[.string (bs [72,81,87]),.int .i32 r]) [] [] (fun aV hs hZ=>amd (by omega))<|zD 2<|jw 21 (.bool (((decide (r≥65))&&(decide (r≤90)))&&(!(decide (QE (bs [72,81,87]) (IntKind.u8.wrap r).toNat.toUInt8≥0))))) (w:= .bool (!(decide (QE (bs [72,81,87]) (IntKind.u8.wrap r).toNat.toUInt8≥0)))) (by rw[h4]<;>rfl) ?_
  exact zK hj
 ·
  have Jz:=h4
  try simp only[zB] at Jz
  refine zD 4<|jw 21 (.bool (((decide (r≥65))&&(decide (r≤90)))&&(!(decide (QE (bs [72,81,87]) (IntKind.u8.wrap r).toNat.toUInt8≥0))))) (w:= .bool false) (by rw[h4]<;>rfl) ?_
  exact zK hj
 refine zD 2<|js 10 (((decide (r≥65))&&(decide (r≤90)))&&(!(decide (QE (bs [72,81,87]) (IntKind.u8.wrap r).toNat.toUInt8≥0)))) (fun h5=>?_) (fun h5=>?_)
 ·
  try simp only[zB] at h5
  refine zD 6<|zX (zI 2) ⟨by simp only[kindOf,hqw];congr 1;(try simp at*);(repeat' split)<;>omega,rfl⟩
 try simp only[zB] at h5
 refine zD 7<|zX (zI 0) ⟨by simp only[kindOf,hqw];congr 1;(try simp at*);(repeat' split)<;>omega,rfl⟩
theorem aeQ:((List.range 256).all fun n=> !Ay (UInt8.ofNat n)||decide (kindOf (n:Int)=1))=true:=by kernel_rfl
theorem aeP:((List.range 256).all fun n=> !E6 (UInt8.ofNat n)||decide (kindOf (n:Int)=2))=true:=by kernel_rfl
def Ys(w:ByteArray)(k:Int):Prop:=∀b∈w.data.toList,b.toNat <128∧kindOf (b.toNat:Int)=k
theorem PA{w:ByteArray}(h:Script w):∃k:Int,(k=1∨k=2)∧Ys w k:=by
 have hb:∀b:UInt8,UInt8.ofNat b.toNat=b:=fun b=>by simp
 rcases h with h|h
 ·refine⟨1,.inl rfl,fun b ju=>?_⟩
  have h1:=h b ju
  have h2:=List.all_eq_true.1 aeQ b.toNat (List.mem_range.2 b.toNat_lt)
  rw[hb,h1] at h2
  simp only[Ay,Bool.and_eq_true,Nat.ble_eq] at h1
  exact⟨by omega,by simpa using h2⟩
 refine⟨2,.inr rfl,fun b ju=>?_⟩
 have h1:=h b ju
 have h2:=List.all_eq_true.1 aeP b.toNat (List.mem_range.2 b.toNat_lt)
 rw[hb,h1] at h2
 simp only[E6,Bool.and_eq_true,Nat.ble_eq] at h1
 exact⟨by omega,by simpa using h2⟩
theorem akB{w:ByteArray}{k:Int}(hs:1≤w.size∧w.size≤6)(hk:k=1∨k=2)(hK:Ys w k):eR zT 103 [.string w] ro (zI 0):=by
 refine zE<|zD 11<|zJ 9 ((w.size:Int)=0) (fun h1=>?_) fun h1=>?_
 ·
  exfalso;omega
 refine zD 9<|zJ 12 ((w.size:Int)>6) (fun h2=>?_) fun h2=>?_
 ·
  exfalso;omega
 refine zD 10<|jn fun r14=>zD 2<|fX [1,1,1,1,0,1,0,0] [] (fun(zz:Nat×Int)=>[(3,zI zz.2),(14,zP r14)]) (fun zz=>[.b r14 (.stringIter w zz.1)]) (fun zz=>zz.1≤w.data.toList.length∧(zz.2=0∨zz.2=k)) (fun zz=>w.data.toList.length-zz.1) (⟨0,0⟩) ⟨by omega,.inl rfl⟩ [0] ?_
 rintro⟨p,sc⟩ hI K1 cz rest
 dsimp only at hI
 refine zD 2 ?_
 cases Q8:w.data.toList[p]? with
 |some Be=>
  refine jnA r14 0 Q8 (hK _ (zL Q8)).1<|zD 7 ?_
  have UT:=(hK _ (zL Q8)).2
  refine zD 7<|jp (vs:=[.int .i32 (Be.toNat:Int)]) [] [] (fun aV hs hZ=>aob)<|zD 8<|zJ 21 (sc=0) (fun h3=>?_) fun h3=>?_
  ·
   refine zD 10<|jj 4 [(3,zI (kindOf (Be.toNat:Int))),(14,zP r14),(29,.bool ((decide ((kindOf (Be.toNat:Int))=0))||(!decide ((kindOf (Be.toNat:Int))=(kindOf (Be.toNat:Int))))))] (fun nK=>?_) (fun hj=>?_)
   rotate_left
   refine js 25 (decide ((kindOf (Be.toNat:Int))=0)) (fun h4=>?_) (fun h4=>?_)
   ·
    have Jz:=h4
    replace Jz:=of_decide_eq_true Jz
    refine zD 4<|jw 29 (.bool ((decide ((kindOf (Be.toNat:Int))=0))||(!decide ((kindOf (Be.toNat:Int))=(kindOf (Be.toNat:Int)))))) (w:= .bool true) (by rw[h4]<;>rfl) ?_
    exact zK hj
   ·
    have Jz:=h4
    replace Jz:=of_decide_eq_false Jz
    refine zD 4<|jw 29 (.bool ((decide ((kindOf (Be.toNat:Int))=0))||(!decide ((kindOf (Be.toNat:Int))=(kindOf (Be.toNat:Int)))))) (w:= .bool (!decide ((kindOf (Be.toNat:Int))=(kindOf (Be.toNat:Int))))) (by rw[h4]<;>rfl) ?_
    exact zK hj
   refine zD 1<|js 29 ((decide ((kindOf (Be.toNat:Int))=0))||(!decide ((kindOf (Be.toNat:Int))=(kindOf (Be.toNat:Int))))) (fun h5=>?_) (fun h5=>?_)
   ·
    try simp only[zB] at h5
    exfalso;omega
   try simp only[zB] at h5
   refine zD 2<|eW cz (⟨p+1,(kindOf (Be.toNat:Int))⟩) ⟨by have:=(List.getElem?_eq_some_iff.1 Q8).1;dsimp only;omega,by dsimp only;omega⟩ (by have:=(List.getElem?_eq_some_iff.1 Q8).1;dsimp only;omega) [0] (Sub.refl _)
  refine zD 7<|jj 4 [(3,zI sc),(14,zP r14),(29,.bool ((decide ((kindOf (Be.toNat:Int))=0))||(!decide ((kindOf (Be.toNat:Int))=sc))))] (fun nK=>?_) (fun hj=>?_)
  rotate_left
  refine js 25 (decide ((kindOf (Be.toNat:Int))=0)) (fun h6=>?_) (fun h6=>?_)
  ·
   have BN:=h6
   replace BN:=of_decide_eq_true BN
   refine zD 4<|jw 29 (.bool ((decide ((kindOf (Be.toNat:Int))=0))||(!decide ((kindOf (Be.toNat:Int))=sc)))) (w:= .bool true) (by rw[h6]<;>rfl) ?_
   exact zK hj
  ·
   have BN:=h6
   replace BN:=of_decide_eq_false BN
   refine zD 4<|jw 29 (.bool ((decide ((kindOf (Be.toNat:Int))=0))||(!decide ((kindOf (Be.toNat:Int))=sc)))) (w:= .bool (!decide ((kindOf (Be.toNat:Int))=sc))) (by rw[h6]<;>rfl) ?_
   exact zK hj
  refine zD 1<|js 29 ((decide ((kindOf (Be.toNat:Int))=0))||(!decide ((kindOf (Be.toNat:Int))=sc))) (fun h7=>?_) (fun h7=>?_)
  ·
   try simp only[zB] at h7
   exfalso;omega
  try simp only[zB] at h7
  refine zD 2<|eW cz (⟨p+1,sc⟩) ⟨by have:=(List.getElem?_eq_some_iff.1 Q8).1;dsimp only;omega,by dsimp only;omega⟩ (by have:=(List.getElem?_eq_some_iff.1 Q8).1;dsimp only;omega) [0] (Sub.refl _)
 |none=>
  refine jnZ r14 0 Q8<|zD 10<|zX (zI 0) ⟨rfl,rfl⟩
def gT:=(fD Tryz.typeInfo3 Tryz.underlying3 rfl rfl rfl rfl rfl rfl:TF zT 3 _ 1 8 _ false)
theorem Ll(a b c d:Int)(dep:Nat):Yw zT (dep+2) 39 (.agg ⟨[zI a,zI b]⟩) (.agg ⟨[zI c,zI d]⟩) (a==c&&(b==d&&true)):=
 kg (fD Tryz.typeInfo39 Tryz.underlying39 rfl rfl rfl rfl rfl rfl) Tryz.stoodInHeld39 (.cons (by decide) (dE gT rfl) (dE gT rfl) (jv gT _ _) (.cons (by decide) (dE gT rfl) (dE gT rfl) (jv gT _ _) .nil))
theorem Lj(a b c d:Int):EqV zT 39 (.agg ⟨[zI a,zI b]⟩) (.agg ⟨[zI c,zI d]⟩) (a==c&&(b==d&&true)):=AV (Ll a b c d _)
theorem avf(a b c d e f:Int):EqV zT 41 (.agg ⟨[zI a,zI b,zI c]⟩) (.agg ⟨[zI d,zI e,zI f]⟩) (a==d&&(b==e&&(c==f&&true)&&true)):=
 AV (kg (fD Tryz.typeInfo41 Tryz.underlying41 rfl rfl rfl rfl rfl rfl) Tryz.stoodInHeld41 (.cons (by decide) (dE gT rfl) (dE gT rfl) (jv gT _ _) (.cons (by decide) (lq (fD Tryz.typeInfo39 Tryz.underlying39 rfl rfl rfl rfl rfl rfl) rfl) (lq (fD Tryz.typeInfo39 Tryz.underlying39 rfl rfl rfl rfl rfl rfl) rfl) (Ll _ _ _ _ _) .nil)))
theorem Zs:n6 zT 39:=Tryz.eqGuardType39
theorem azN:n6 zT 41:=Tryz.eqGuardType41
theorem T5{w:ByteArray}(hs:1≤w.size∧w.size≤6)(h:Script w):eR zT 103 [.string w] ro (zI 0):=by
 obtain⟨k,h1,h2⟩:=PA h
 exact akB hs h1 h2
def JE(a b:ByteArray):Int:=bif strLt a b then-1 else bif !(strLt a b||eF a b) then 1 else 0
def NU:List ByteArray→List ByteArray→Int
 | [],[]=>0
 | [],_::_=> -1
 |_::_,[]=>1
 |x::xs,y::ys=>if JE x y=0 then NU xs ys else JE x y
theorem X5{k:Nat}{y:ByteArray}(hx:xs[k]?=some x) (hy:ys[k]?=some y):NU (xs.drop k) (ys.drop k)=if JE x y=0 then NU (xs.drop (k+1)) (ys.drop (k+1)) else JE x y:=by rw[kP hx,kP hy];rfl
theorem ahv{k:Nat}(hx:xs[k]?=some x) (hy:¬k <ys.length):NU (xs.drop k) (ys.drop k)=1:=by rw[kP hx,kD hy];rfl
theorem R5{k:Nat}(hx:¬k <xs.length):NU (xs.drop k) (ys.drop k)=if k <ys.length then-1 else 0:=by
 rw[kD hx]
 split
 ·rename_i h
  rw[List.drop_eq_getElem_cons h];rfl
 rename_i h
 rw[kD h];rfl
def uu(s p:ByteArray):Bool:=decide (s.size≥p.size)&&eF (s.extract 0 p.size) p
structure ah where
 h:Int
 n:Int
 l:Int
abbrev bW(x:ah):List Value:=[zI x.h,zI x.n,zI x.l]
def pJ(h n l:Int)(y:ah):Bool:=h==y.h&&(n==y.n&&(l==y.l&&true)&&true)
theorem aFe{a:ByteArray}:eR zT 310 [.string a] ro (.bool false):=by
 refine zE<|zD 12<|zX (.bool (!(eF a a))) ⟨by rw[Cz.2 rfl];rfl,rfl⟩
theorem aSa{a:ByteArray}:eR zT 266 [.string a,.string b] ro (zI (JE a b)):=by
 refine zE<|zD 7<|jp (vs:=[.string a]) [] [] (fun aV hs hZ=>aFe)<|zD 5<|jp (vs:=[.string b]) [] [] (fun aV hs hZ=>aFe)<|zD 23<|js 16 (strLt a b) (fun h1=>?_) (fun h1=>?_)
 ·
  refine zD 6<|zX (zI (-1)) ⟨by simp_all[JE],rfl⟩
 refine zD 9<|js 19 (!(strLt a b||eF a b)) (fun h2=>?_) (fun h2=>?_)
 ·
  try simp only[zB] at h2
  refine zD 6<|zX (zI 1) ⟨by simp_all[JE],rfl⟩
 try simp only[zB] at h2
 refine zD 7<|zX (zI 0) ⟨by simp_all[JE],rfl⟩
theorem aJ6{w:Value}(hv:cD ro v 1 kT xs)(hw:cD ro w 1 kT ys)(hx:xs.length≤1000)(hy:ys.length≤1000):eR zT 220 [v,w] ro (zI (NU xs ys)):=by
 obtain⟨TH,qvb,qvo,IG,rfl,qvk,Zb,Za⟩:=hv
 obtain⟨E5,qwb,qwo,A2,rfl,qwk,TE,TD⟩:=hw
 refine zE<|zD 12<|fX [1,0,1,0,0] [] (fun(zz:Nat)=>[(0,.slice TH xs.length IG),(1,.slice E5 ys.length A2),(9,.slice TH xs.length IG),(10,zI (xs.length:Int)),(11,zI (zz:Int))]) (fun zz=>[]) (fun zz=>(zz≤xs.length∧zz≤ys.length)∧NU xs ys=NU (xs.drop zz) (ys.drop zz)) (fun zz=>xs.length-zz) 0 ⟨by omega,rfl⟩ [] ?_
 rintro k hI K1 cz rest
 refine zD 5<|zJ 12 ((k:Int) <(xs.length:Int)) (fun h1=>?_) fun h1=>?_
 ·
  refine zD 7 ?_
  obtain⟨yj,gD⟩:=zG xs k
  refine jq IG 1 Zb gD<|jl 0 (Za _ _ gD)<|zD 11<|zJ 19 ((k:Int)≥(ys.length:Int)) (fun h2=>?_) fun h2=>?_
  ·
   refine zD 6<|zX (zI 1) ⟨by rw[hI.2,ahv gD (by omega)],rfl⟩
  refine zD 6 ?_
  obtain⟨YA,rZ⟩:=zG ys k
  refine jq A2 1 TE rZ<|jl 0 (TD _ _ rZ)<|zD 6<|jp (vs:=[.string yj,.string YA]) [] [] (fun aV hs hZ=>aSa)<|zD 7<|js 28 (!decide ((JE yj YA)=0)) (fun h3=>?_) (fun h3=>?_)
  ·
   replace h3:=of_decide_eq_false (by simpa using h3)
   refine zD 7<|zX (zI (JE yj YA)) ⟨by rw[hI.2,X5 gD rZ,if_neg (by omega)],rfl⟩
  replace h3:=of_decide_eq_true (by simpa using h3)
  refine zD 3<|zW ((k:Int)+1)<|zD 2<|zY cz (k+1) ⟨by omega,by rw[hI.2,X5 gD rZ,if_pos (by omega)]⟩ []
 refine zD 11<|zJ 35 ((xs.length:Int) <(ys.length:Int)) (fun h4=>?_) fun h4=>?_
 ·
  refine zD 6<|zX (zI (-1)) ⟨by rw[hI.2,R5 (by omega),if_pos (by omega)],rfl⟩
 refine zD 7<|zX (zI 0) ⟨by rw[hI.2,R5 (by omega),if_neg (by omega)],rfl⟩
theorem aak{a:ByteArray}(hn:a.size≤1000∧b.size≤1000):eR zT 341 [.string a,.string b] ro (.bool (uu a b)):=by
 refine zE<|zD 12<|js 10 (decide ((a.size:Int)≥(b.size:Int))) (fun h1=>?_) (fun h1=>?_)
 ·
  have qh:=h1
  replace qh:=of_decide_eq_true qh
  refine zD 3<|jtH (b:=a) (hi:=(b.size:Int)) (by omega)<|zD 6<|zX (.bool (eF (a.extract 0 (b.size:Int).toNat) b)) ⟨by simp_all[uu]<;>(intro;omega),rfl⟩
 have qh:=h1
 replace qh:=of_decide_eq_false qh
 refine zD 10<|zX (.bool false) ⟨by simp_all[uu]<;>(intro;omega),rfl⟩
theorem aal{a:ByteArray}(hn:a.size≤1000∧b.size≤1000):eR zT 329 [.string a,.string b] ro (.bool (uu a b)):=by
 refine zE<|zD 8<|jp (vs:=[.string a,.string b]) [] [] (fun aV hs hZ=>(aak (by omega)))<|zD 3<|zX (.bool (uu a b)) ⟨rfl,rfl⟩
theorem QA{ps:List ah}{h n l:Int}(hp:cD ro v 3 bW ps)(hn:ps.length≤1000):eR zT 144 [v,.agg ⟨[zI h,zI n,zI l]⟩] ro (zI (c9 (pJ h n l) ps 0)):=by
 obtain⟨dh,ou,oh,cY,rfl,qa,nD,nC⟩:=hp
 refine zE<|zD 2<|jn fun b3=>zD 10<|fX [1,0,1,0,0] [] (fun(zz:Nat)=>[(0,.slice dh ps.length cY),(3,zP b3),(7,zI (ps.length:Int)),(8,zI (zz:Int))]) (fun zz=>[.b b3 (.cells ⟨[zI h,zI n,zI l]⟩ 41 (0,0))]) (fun zz=>zz≤ps.length∧c9 (pJ h n l) ps 0=c9 (pJ h n l) (ps.drop zz) zz) (fun zz=>ps.length-zz) 0 ⟨by omega,rfl⟩ [0] ?_
 rintro k hI K1 cz rest
 refine zD 5<|zJ 9 ((k:Int) <(ps.length:Int)) (fun h1=>?_) fun h1=>?_
 ·
  refine jd 14 [0] ?_
  obtain⟨yj,gD⟩:=zG ps k
  refine jq cY 3 nD gD<|jl 0 (nC _ _ gD)<|jeq azN (avf h n l yj.h yj.n yj.l)<|zD 1<|js 16 (h==yj.h&&(n==yj.n&&(l==yj.l&&true)&&true)) (fun h2=>?_) (fun h2=>?_)
  ·
   refine zD 7<|zX (zI (k:Int)) ⟨by rw[hI.2,mM gD,show pJ h n l yj=true from (by assumption)];rfl,rfl⟩
  refine zD 3<|zW ((k:Int)+1)<|zD 2<|zY cz (k+1) ⟨by omega,by rw[hI.2,mM gD,show pJ h n l yj=false from (by assumption)];rfl⟩ [0]
 refine zD 7<|zX (zI (-1)) ⟨by rw[hI.2,xR (by omega)],rfl⟩
theorem KG{ps:List ah}{h n l:Int}(hp:cD ro v 3 bW ps)(hn:ps.length≤1000):eR zT 104 [v,.agg ⟨[zI h,zI n,zI l]⟩] ro (.bool (decide (c9 (pJ h n l) ps 0≥0))):=by
 obtain⟨dh,ou,oh,cY,rfl,qa,nD,nC⟩:=hp
 refine zE<|zD 2<|jn fun b3=>jd 6 [0]<|jp (vs:=[.slice dh ps.length cY,.agg ⟨[zI h,zI n,zI l]⟩]) [] [] (fun aV hs hZ=>QA ((show cD _ _ _ _ _ from ⟨dh,ou,oh,cY,rfl,qa,nD,nC⟩).up hs) (by first|omega| (simp only[List.length_set,zM];omega))) ?_
 refine zD 4<|zX (.bool (decide ((c9 (pJ h n l) ps 0)≥0))) ⟨rfl,rfl⟩
theorem aef{ws:List ByteArray}(hv:cD ro v 1 kT ws)(hn:ws.length≤1000)(hW:∀w∈ws,(1≤w.size∧w.size≤6)∧Script w):eR zT 167 [v] ro (zI 0):=by
 obtain⟨TH,qvb,qvo,IG,rfl,qvk,Zb,Za⟩:=hv
 refine zE<|zD 12<|fX [1,0,1,0,0] [] (fun(zz:Nat)=>[(6,.slice TH ws.length IG),(7,zI (ws.length:Int)),(8,zI (zz:Int))]) (fun zz=>[]) (fun zz=>zz≤ws.length) (fun zz=>ws.length-zz) 0 (by omega) [] ?_
 rintro k hI K1 cz rest
 refine zD 5<|zJ 9 ((k:Int) <(ws.length:Int)) (fun h1=>?_) fun h1=>?_
 ·
  refine zD 6 ?_
  obtain⟨x10,Hf⟩:=zG ws k
  refine jq IG 1 Zb Hf<|jl 0 (Za _ _ Hf)<|zD 5<|jp (vs:=[.string x10]) [] [] (fun aV hs hZ=>(T5 (hW _ (zL Hf)).1 (hW _ (zL Hf)).2))<|zD 10<|zW ((k:Int)+1)<|zD 2<|zY cz (k+1) (by omega) []
 refine zD 7<|zX (zI 0) ⟨rfl,rfl⟩
def yR(w:ByteArray):Prop:=∀b∈w.data.toList,b.toNat <128∧kindOf (b.toNat:Int)=1
def akL(w:ByteArray):Bool:=w.data.toList.all fun b=>Nat.blt b.toNat 128&&decide (kindOf (b.toNat:Int)=1)
theorem Uf{w:ByteArray}(h:akL w=true):yR w:=fun b hb=>by
 have:=List.all_eq_true.1 h b hb
 simp only[Bool.and_eq_true,Nat.blt_eq,decide_eq_true_eq] at this
 exact this
structure s8(r:dK):Prop where
 f1:1≤r.f.size∧r.f.size≤2
 t1:r.t.size≤2
 fl:yR r.f
 tl:yR r.t
 ne:eF r.f r.t=false
theorem azR:eR zT 261 [.int .i32 r] ro (.bool (!decide (kindOf r=1))):=by
 refine zE<|zD 7<|jp (vs:=[.int .i32 r]) [] [] (fun aV hs hZ=>aob)<|zD 4<|zX (.bool (!decide ((kindOf r)=1))) ⟨rfl,rfl⟩
theorem aJ5{w:ByteArray}(hK:yR w):eR zT 320 [.string w,.func (.func 261) ⟨[]⟩ ⟨[]⟩,.bool true] ro (zI (-1)):=by
 refine zE<|zD 8<|jn fun r10=>zD 2<|fX [1,0,1,0,0] [] (fun(zz:Nat)=>[(1,.func (.func 261) ⟨[]⟩ ⟨[]⟩),(2,.bool true),(10,zP r10)]) (fun zz=>[.b r10 (.stringIter w zz)]) (fun zz=>zz≤w.data.toList.length) (fun zz=>w.data.toList.length-zz) 0 (by omega) [0] ?_
 rintro p hI K1 cz rest
 refine zD 2 ?_
 cases Z6:w.data.toList[p]? with
 |some x11=>
  refine jnA r10 0 Z6 (hK _ (zL Z6)).1<|zD 14 ?_
  have UT:=(hK _ (zL Z6)).2
  refine zD 3<|jp (vs:=[.int .i32 (x11.toNat:Int)]) [] [] (fun aV hs hZ=>azR)<|zD 1<|je (.bool ((!decide (kindOf (x11.toNat:Int)=1))==true)) rfl<|zD 1<|js 19 ((!decide (kindOf (x11.toNat:Int)=1))==true) (fun h1=>?_) (fun h1=>?_)
  ·
   exfalso;rw[UT] at h1;cases h1
  refine zD 2<|eW cz (p+1) (by have:=(List.getElem?_eq_some_iff.1 Z6).1;omega) (by have:=(List.getElem?_eq_some_iff.1 Z6).1;omega) [0] (Sub.refl _)
 |none=>
  refine jnZ r10 0 Z6<|zD 10<|zX (zI (-1)) ⟨rfl,rfl⟩
theorem ayz{w:ByteArray}(hK:yR w):eR zT 301 [.string w,.func (.func 261) ⟨[]⟩ ⟨[]⟩] ro (zI (-1)):=by
 refine zE<|zD 8<|jp (vs:=[.string w,.func (.func 261) ⟨[]⟩ ⟨[]⟩,.bool true]) [] [] (fun aV hs hZ=>(aJ5 hK))<|zD 3<|zX (zI (-1)) ⟨rfl,rfl⟩
theorem ayA{w:ByteArray}(hK:yR w):eR zT 260 [.string w,.func (.func 261) ⟨[]⟩ ⟨[]⟩] ro (.bool false):=by
 refine zE<|zD 8<|jp (vs:=[.string w,.func (.func 261) ⟨[]⟩ ⟨[]⟩]) [] [] (fun aV hs hZ=>(ayz hK))<|zD 4<|zX (.bool false) ⟨rfl,rfl⟩
theorem Qi{w:ByteArray}{lo:Int}(hK:yR w)(hn:w.size≤1000):eR zT 216 [.string w,zI lo,zI hi] ro (.bool (decide (lo≤w.size)&&decide ((w.size:Int)≤hi))):=by
 refine zE<|zD 11<|jj 5 [(0,.string w),(6,.bool false),(16,.bool ((decide (lo≤(w.size:Int)))&&(decide ((w.size:Int)≤hi))))] (fun nK=>?_) (fun hj=>?_)
 rotate_left
 refine js 11 (decide (lo≤(w.size:Int))) (fun h1=>?_) (fun h1=>?_)
 ·
  have qh:=h1
  replace qh:=of_decide_eq_true qh
  refine zD 5<|jw 16 (.bool ((decide (lo≤(w.size:Int)))&&(decide ((w.size:Int)≤hi)))) (w:= .bool (decide ((w.size:Int)≤hi))) (by rw[h1]<;>rfl) ?_
  exact zK hj
 ·
  have qh:=h1
  replace qh:=of_decide_eq_false qh
  refine zD 5<|jw 16 (.bool ((decide (lo≤(w.size:Int)))&&(decide ((w.size:Int)≤hi)))) (w:= .bool false) (by rw[h1]<;>rfl) ?_
  exact zK hj
 refine zD 1<|jj 4 [(6,.bool false),(21,.bool (((decide (lo≤(w.size:Int)))&&(decide ((w.size:Int)≤hi)))&&true))] (fun nK=>?_) (fun hj=>?_)
 rotate_left
 refine js 17 ((decide (lo≤(w.size:Int)))&&(decide ((w.size:Int)≤hi))) (fun h2=>?_) (fun h2=>?_)
 ·
  have w5:=h2
  try simp only[zB] at w5
  refine zD 1<|jp (vs:=[.string w,.func (.func 261) ⟨[]⟩ ⟨[]⟩]) [] [] (fun aV hs hZ=>(ayA hK))<|zD 2<|jw 21 (.bool (((decide (lo≤(w.size:Int)))&&(decide ((w.size:Int)≤hi)))&&true)) (w:= .bool true) (by rw[h2]<;>rfl) ?_
  exact zK hj
 ·
  have w5:=h2
  try simp only[zB] at w5
  refine zD 4<|jw 21 (.bool (((decide (lo≤(w.size:Int)))&&(decide ((w.size:Int)≤hi)))&&true)) (w:= .bool false) (by rw[h2]<;>rfl) ?_
  exact zK hj
 refine zD 3<|zX (.bool (((decide (lo≤(w.size:Int)))&&(decide ((w.size:Int)≤hi)))&&true)) ⟨by simp_all,rfl⟩
theorem Kr{w:ByteArray}{lo:Int}(hK:yR w)(h1:lo≤w.size)(h2:(w.size:Int)≤hi)(h3:w.size≤1000):eR zT 216 [.string w,zI lo,zI hi] ro (.bool true):=by
 have:=Qi (ro:=ro) hK h3 (lo:=lo) (hi:=hi)
 rw[decide_eq_true h1,decide_eq_true h2] at this
 exact this
theorem Zt(hv:cD ro v 2 kB rs)(hn:rs.length≤4)(hR:∀r∈rs,s8 r):eR zT 166 [v] ro (zI 0):=by
 obtain⟨TH,qvb,qvo,IG,rfl,qvk,Zb,Za⟩:=hv
 refine zE<|zD 11<|zJ 7 ((rs.length:Int)>4) (fun h1=>?_) fun h1=>?_
 ·
  exfalso;omega
 refine zD 10<|fX [1,1,0,1,0,0] [] (fun(zz:Nat)=>[(8,.slice TH rs.length IG),(9,zI (rs.length:Int)),(10,zI (zz:Int))]) (fun zz=>[]) (fun zz=>zz≤rs.length) (fun zz=>rs.length-zz) 0 (by omega) [] ?_
 rintro k hI K1 cz rest
 refine zD 5<|zJ 11 ((k:Int) <(rs.length:Int)) (fun h2=>?_) fun h2=>?_
 ·
  refine zD 6 ?_
  obtain⟨uV,rq⟩:=zG rs k
  refine jq IG 2 Zb rq<|jl 0 (Za _ _ rq)<|jn fun b4=>jd 3 [0] ?_
  have hrp:=(hR _ (zL rq))
  have hrf:=hrp.f1
  have hrt:=hrp.t1
  refine jd 3 [0]<|jp (vs:=[.string uV.f,zI 1,zI 2]) [] [] (fun aV hs hZ=>(Kr hrp.fl (by omega) (by omega) (by omega)))<|jd 4 [0]<|jp (vs:=[.string uV.t,zI 0,zI 2]) [] [] (fun aV hs hZ=>(Kr hrp.tl (by omega) (by omega) (by omega)))<|jd 10 [0,0]<|js 30 (eF uV.f uV.t) (fun h3=>?_) (fun h3=>?_)
  ·
   exfalso;rw[hrp.ne] at h3;cases h3
  refine zD 3<|zW ((k:Int)+1)<|zD 2<|zY cz (k+1) (by omega) []
 refine zD 7<|zX (zI 0) ⟨rfl,rfl⟩
theorem iA{xs:List α}{a:Option Addr}{b o:Nat}(h:∀k,k <xs.length→a=some ⟨b,o,none⟩)(hn:a.isNone=true):xs=[]:=by
 cases xs with
 |nil=>rfl
 |cons x l=>rw[h 0 (by simp)] at hn;cases hn
theorem aq9(hl:cD ro v 1 kT xs)(hn:xs.length≤1000):dX zT 105 [v] ro [] (fun r Y=>∃L,aK r 1 9 kT xs L∧Y=L):=by
 obtain⟨cV,nn,nk,cU,rfl,pG,jR,lh⟩:=hl
 refine zE<|zD 8<|jsn 29 (a:=cV) (l:=xs.length) (c:=cU)<|zD 1<|js 4 (cV.isNone) (fun h1=>?_) (fun h1=>?_)
 ·
  refine zD 6<|zX (zS) ⟨[],by rw[iA jR (by assumption)];exact aK.nil _ _ _,rfl⟩
 refine zD 4<|jn fun b5=>zD 1<|wD (sz:=1) (ps:=[]) (qs:=xs) (enc:=kT) (w:= .slice cV xs.length cU) [0] [] [] (j7 (b:=b5) (T:=9)) (fun s he _=>⟨cV,nn,nk,cU,rfl,jR,fun i p hp=>(lh i p hp).ext he⟩) (fun p _=>aP rfl) (by simp<;>omega) (fun v7 L7 fL=>?_)
 rw[List.nil_append] at fL
 obtain⟨O2,OY,Jv⟩:=fL.form
 subst Jv
 refine zD 3<|zR ((.slice O2 (xs).length OY)) [] [0] L7 ⟨_,fL,rfl⟩
theorem yb{r:Value}{A B:Prop}(h:(r= .bool true∧A)∨(r= .bool false∧B)):∃c,r= .bool c∧(c=true→A)∧(c=false→B):=by
 rcases h with ⟨rfl,h⟩| ⟨rfl,h⟩
 ·exact⟨true,rfl,fun _=>h,nofun⟩
 exact⟨false,rfl,nofun,fun _=>h⟩
def wx(w f t:ByteArray)(i:Nat):ByteArray:=w.extract 0 (i:Int).toNat++t++w.extract ((i:Int)+(f.size:Int)).toNat w.size
def q4(w f t:ByteArray)(i:Nat):Option ByteArray:=if uu (w.extract i w.size) f=true∧1≤(wx w f t i).size∧(wx w f t i).size≤12 then some (wx w f t i) else none
def wU(w f t:ByteArray)(k:Nat):List ByteArray:=(List.range k).filterMap (q4 w f t)
def Ef(w f t:ByteArray):List ByteArray:=wU w f t (w.size+1)
theorem CJ(w f t:ByteArray)(k:Nat):wU w f t (k+1)=wU w f t k++(q4 w f t k).toList:=by
 rw[wU,wU,List.range_succ,List.filterMap_append]
 cases h:q4 w f t k<;>simp[h]
theorem acO(w f t:ByteArray){k:Nat}(h:k≤n):∃l,wU w f t n=wU w f t k++l:=by
 induction n with
 |zero=>exact⟨[],by rw[show k=0 by omega];simp⟩
 |succ n ih=>
  by_cases hk:k=n+1
  ·exact⟨[],by rw[hk];simp⟩
  obtain⟨l,hl⟩:=ih (by omega)
  exact⟨l++(q4 w f t n).toList,by rw[CJ,hl,List.append_assoc]⟩
theorem PC{w f:ByteArray}{k:Nat}(hk:k <n)(h:q4 w f t k=some x):(wU w f t n)[(wU w f t k).length]?=some x∧(wU w f t (k+1)).length=(wU w f t k).length+1:=by
 obtain⟨l,hl⟩:=acO w f t (k:=k+1) (n:=n) hk
 rw[hl,CJ,h]
 constructor
 ·rw[List.append_assoc,List.getElem?_append_right (Nat.le_refl _)];simp
 simp
theorem Wu{w f:ByteArray}{k:Nat}(h:q4 w f t k=none):(wU w f t (k+1)).length=(wU w f t k).length:=by
 rw[CJ,h];simp
abbrev apx(l:List ByteArray):(Nat→Option Obj)→Nat→List Value→Cells→Prop:=fun _ k vs LL=>∃x,l[k]?=some x∧vs=[.string x]∧LL=[]
theorem yR.ext{w:ByteArray}(h:yR w)(i j:Nat):yR (w.extract i j):=by
 intro b hb
 refine h b ?_
 have:(w.extract i j).data.toList=(w.data.extract i j).toList:=by simp[ByteArray.data_extract]
 rw[this,Array.toList_extract] at hb
 simp only[List.extract_eq_drop_take] at hb
 exact List.mem_of_mem_drop (List.mem_of_mem_take hb)
theorem yR.app{v w:ByteArray}(h:yR v)(k:yR w):yR (v++w):=by
 intro b hb
 have:(v++w).data.toList=v.data.toList++w.data.toList:=by simp[ByteArray.data_append]
 rw[this] at hb
 exact(List.mem_append.1 hb).elim (h b) (k b)
theorem J8{w f:ByteArray}(hw:yR w)(ht:yR t):yR (wx w f t i):=((hw.ext _ _).app ht).app (hw.ext _ _)
theorem adt{a:ByteArray}(h:uu a b=true):b.size≤a.size:=by
 unfold uu at h
 simp only[Bool.and_eq_true,decide_eq_true_eq] at h
 omega
def aeF(w:ByteArray):Bool:=decide ((1:Int)≤w.size)&&decide ((w.size:Int)≤12)
theorem Tv{w f:ByteArray}{k:Nat}(h:uu (w.extract (k:Int).toNat w.size) f=false):q4 w f t k=none:=if_neg fun x=>by
 have h1:uu (w.extract k w.size) f=false:=h
 rw[h1] at x;cases x.1
theorem Y0{w f:ByteArray}{k:Nat}(h:aeF (wx w f t k)=false):q4 w f t k=none:=if_neg fun x=>by
 simp only[aeF,Bool.and_eq_false_iff,decide_eq_false_iff_not] at h
 omega
theorem Tu{w f:ByteArray}{k:Nat}(h:uu (w.extract (k:Int).toNat w.size) f=true)(h2:aeF (wx w f t k)=true):q4 w f t k=some (wx w f t k):=if_pos ⟨h,by
 simp only[aeF,Bool.and_eq_true,decide_eq_true_eq] at h2
 omega⟩
theorem Tt{w f:ByteArray}{k:Nat}(h:w.size≤100∧f.size≤100∧t.size≤100):(wx w f t k).size≤1000:=by
 simp only[wx,ByteArray.size_append,ByteArray.size_extract];omega
theorem ajM{w f:ByteArray}{k:Nat}(hk:k≤w.size)(h:q4 w f t k=some (wx w f t k)):(wU w f t k).length <(Ef w f t).length∧(Ef w f t)[(wU w f t k).length]?=some (wx w f t k):=by
 have:=(PC (n:=w.size+1) (by omega) h).1
 exact⟨(List.getElem?_eq_some_iff.1 this).1,this⟩
theorem Vq(w:ByteArray)(a b:Nat):(w.extract a b).size≤w.size:=by simp;omega
theorem agZ(w:ByteArray)(i:Nat)(h:i≤w.size):(w.extract i w.size).size=w.size-i:=by simp
theorem akA{w f:ByteArray}(g1:ro b1=some (.cells ⟨[.string w]⟩ 259 (0,0)))(g2:ro b2=some (.cells ⟨[.string f]⟩ 9 (0,0)))(g3:ro b3=some (.cells ⟨[.string t]⟩ 9 (0,0)))(hw:yR w)(ht:yR t)(hn:w.size≤100∧f.size≤100∧t.size≤100):ItX zT 328 [] [zP b1,zP b2,zP b3] ro [] (Ef w f t).length (apx (Ef w f t)) (fun Z=>Z=[]):=by
 intro bl aV Inv Stop hs hy B hB
 replace g1:=hs _ _ g1
 replace g2:=hs _ _ g2
 replace g3:=hs _ _ g3
 refine zC [.l B]<|zD 2<|jl (b:=b1) (off:=0) (m:=1) (vs:=[.string w]) 0 ⟨_,_,_,.inl g1,rfl⟩<|zD 1<|zW ((w.size:Int)+1)<|zD 3<|fX [1,0,0] [] (fun(zz:Nat×Cells)=>[(0,(.func (.yield bl) #[] #[])),(1,zP b1),(2,zP b2),(3,zP b3),(9,zI ((w.size:Int)+1)),(10,zI (zz.1:Int))]) (fun zz=>[.l zz.2]) (fun zz=>zz.1≤w.size+1∧Inv (wU w f t zz.1).length zz.2) (fun zz=>w.size+1-zz.1) (⟨0,B⟩) ⟨by dsimp only;omega,hB⟩ [0] ?_
 rintro⟨k,B⟩ hI K1 cz rest
 dsimp only at hI
 refine zD 5<|zJ 11 ((k:Int) <((w.size:Int)+1)) (fun h1=>?_) fun h1=>?_
 ·
  refine zD 11 ?_
  have he1:=Vq w (k:Int).toNat w.size
  refine zD 1<|jl (b:=b1) (off:=0) (m:=1) (vs:=[.string w]) 0 ⟨_,_,_,.inl g1,rfl⟩<|zD 1<|jtL (b:=w) (lo:=(k:Int)) (by omega)<|jl (b:=b2) (off:=0) (m:=1) (vs:=[.string f]) 0 ⟨_,_,_,.inl g2,rfl⟩<|jp (vs:=[.string (w.extract (k:Int).toNat w.size),.string f]) [] [] (fun aV hs hZ=>(aal (by omega)))<|zD 2<|js 18 (!(uu (w.extract (k:Int).toNat w.size) f)) (fun h2=>?_) (fun h2=>?_)
  ·
   try simp only[zB] at h2
   refine zD 3<|zW ((k:Int)+1)<|zD 2<|zF cz (⟨k+1,B⟩) (by dsimp only;rw[Wu (Tv (by assumption))];exact hI.2) [0]
  try simp only[zB] at h2
  refine zD 3 ?_
  have SN:=Vq w 0 (k:Int).toNat
  have he3:=Vq w ((k:Int)+(f.size:Int)).toNat w.size
  have he4:(w.extract 0 (k:Int).toNat++t).size=_:=ByteArray.size_append
  have hpr:uu (w.extract (k:Int).toNat w.size) f=true:=by assumption
  have xb:=adt hpr
  rw[agZ _ _ (by omega)] at xb
  refine zD 1<|jl (b:=b1) (off:=0) (m:=1) (vs:=[.string w]) 0 ⟨_,_,_,.inl g1,rfl⟩<|zD 1<|jtH (b:=w) (hi:=(k:Int)) (by omega)<|jl (b:=b3) (off:=0) (m:=1) (vs:=[.string t]) 0 ⟨_,_,_,.inl g3,rfl⟩<|jsa (a:=(w.extract 0 (k:Int).toNat)) (b:=t) 259 (by omega)<|jl (b:=b1) (off:=0) (m:=1) (vs:=[.string w]) 0 ⟨_,_,_,.inl g1,rfl⟩<|zD 1<|jl (b:=b2) (off:=0) (m:=1) (vs:=[.string f]) 0 ⟨_,_,_,.inl g2,rfl⟩<|zD 1<|zW ((k:Int)+(f.size:Int))<|jtL (b:=w) (lo:=((k:Int)+(f.size:Int))) (by omega)<|jsa (a:=((w.extract 0 (k:Int).toNat)++t)) (b:=(w.extract ((k:Int)+(f.size:Int)).toNat w.size)) 259 (by omega)<|zD 5<|jp (vs:=[.string (((w.extract 0 (k:Int).toNat)++t)++(w.extract ((k:Int)+(f.size:Int)).toNat w.size)),zI 1,zI 12]) [] [] (fun aV hs hZ=>(Qi (J8 (i:=k) hw ht) (Tt hn)))<|zD 1<|js 33 (aeF (wx w f t k)) (fun h3=>?_) (fun h3=>?_)
  ·
   have hry:=Tu (t:=t) hpr (by assumption)
   have Fc:=ajM (by omega) hry
   refine zD 2<|jyc [0] (hy (wU w f t k).length _ [] B aV Fc.1 ⟨_,Fc.2,rfl,rfl⟩ hI.2 (Sub.refl _)) (Sub.refl _) ?_
   intro v4 Y4 hy4
   obtain⟨c4,rfl,hc4,hd4⟩:=yb hy4
   refine zD 3<|js 38 (!c4) (fun h5=>?_) (fun h5=>?_)
   ·
    try simp only[zB] at h5
    refine zD 2<|zR (.tuple ⟨[]⟩) [] [0] Y4 ⟨[],Y4,rfl,rfl,.inr (hd4 (by simp_all))⟩
   try simp only[zB] at h5
   refine zD 3<|zW ((k:Int)+1)<|zD 2<|zF cz (⟨k+1,Y4⟩) (by dsimp only;rw[(PC (n:=k+1) (by omega) hry).2];exact hc4 (by assumption)) [0]
  refine zD 9<|zW ((k:Int)+1)<|zD 2<|zF cz (⟨k+1,B⟩) (by dsimp only;rw[Wu (Y0 (by assumption))];exact hI.2) [0]
 refine zD 2<|zR (.tuple ⟨[]⟩) [] [0] B ⟨[],B,rfl,rfl,.inl (by have:=hI.2;rwa[show k=w.size+1 by omega] at this)⟩
def q8(rs:List dK):List (ByteArray×ByteArray):=rs.flatMap fun r=>[(r.f,r.t),(r.t,r.f)]
abbrev eP2(x:ByteArray×ByteArray):List Value:=[.string x.1,.string x.2]
def kI(w:ByteArray)(ps:List (ByteArray×ByteArray)):List ByteArray:=ps.flatMap fun p=>Ef w p.1 p.2
def ub(w:ByteArray)(rs:List dK):List ByteArray:=kI w (q8 rs)
theorem Ko:∀(rs:List dK),(q8 rs).length=2*rs.length
 | []=>rfl
 |r::rs=>by have:=Ko rs;simp only[q8,List.flatMap_cons,zM] at this ⊢;omega
theorem P1:∀ {rs:List dK} {k q:Nat} {r:dK} {p:ByteArray×ByteArray},rs[k]?=some r→[(r.f,r.t),(r.t,r.f)][q]?=some p→(q8 rs)[2*k+q]?=some p
 | [],_,_,_,_,h,_=>by simp at h
 |r::rs,0,q,_,p,h,h2=>by
  simp only[List.getElem?_cons_zero,Option.some.injEq] at h;subst h
  simp only[q8,List.flatMap_cons,Nat.mul_zero,Nat.zero_add]
  rw[List.getElem?_append_left (by have:=(List.getElem?_eq_some_iff.1 h2).1;exact this)];exact h2
 |r::rs,k+1,q,_,p,h,h2=>by
  have:=P1 (rs:=rs) (k:=k) (by simpa using h) h2
  simp only[q8,List.flatMap_cons]
  rw[List.getElem?_append_right (by simp;omega)]
  rw[show 2*(k+1)+q- [(r.f,r.t),(r.t,r.f)].length=2*k+q by simp;omega];exact this
theorem Ge{w:ByteArray}{ps:List (ByteArray×ByteArray)}{k:Nat}(h:ps[k]?=some p):kI w (ps.take (k+1))=kI w (ps.take k)++Ef w p.1 p.2:=by
 rw[kI,eK h,List.flatMap_append];simp[kI]
theorem ajf{w:ByteArray}{ps:List (ByteArray×ByteArray)}{k j:Nat}(h:ps[k]?=some p) (hx:(Ef w p.1 p.2)[j]?=some x):(kI w (ps.take k)).length+j <(kI w ps).length∧(kI w ps)[(kI w (ps.take k)).length+j]?=some x:=by
 have e:kI w ps=kI w (ps.take (k+1))++kI w (ps.drop (k+1)):=by rw[kI,kI,kI,←List.flatMap_append,List.take_append_drop]
 have hj:=(List.getElem?_eq_some_iff.1 hx).1
 have:(kI w ps)[(kI w (ps.take k)).length+j]?=some x:=by
  rw[e,Ge h,List.append_assoc,List.getElem?_append_right (by omega),List.getElem?_append_left (by omega),show (kI w (ps.take k)).length+j-(kI w (ps.take k)).length=j by omega]
  exact hx
 exact⟨(List.getElem?_eq_some_iff.1 this).1,this⟩
theorem akd{r:dK}{q:Nat}(h:s8 r)(hp: [(r.f,r.t),(r.t,r.f)][q]?=some p):yR p.2∧(p.1.size≤100∧p.2.size≤100):=by
 have:=zL hp
 have h1:=h.f1;have h2:=h.t1
 simp only[List.mem_cons,List.not_mem_nil,or_false] at this
 rcases this with rfl|rfl
 ·exact⟨h.tl,by dsimp only;omega,by dsimp only;omega⟩
 exact⟨h.fl,by dsimp only;omega,by dsimp only;omega⟩
theorem Zu{w f:ByteArray}:dX zT 309 [.string w,.string f,.string t] ro [] (fun r Y=>∃b3 b4 b5,r= .func (.func 328) ⟨[]⟩ ⟨[zP b3,zP b4,zP b5]⟩∧Y=[(b3,.cells ⟨[.string w]⟩ 259 (0,0)),(b4,.cells ⟨[.string f]⟩ 9 (0,0)),(b5,.cells ⟨[.string t]⟩ 9 (0,0))]):=by
 refine zE<|zD 2<|jn fun b3=>jn fun b4=>jn fun b5=>zD 8<|zR (.func (.func 328) ⟨[]⟩ ⟨[zP b3,zP b4,zP b5]⟩) [] [2,1,0] ((b3,.cells ⟨[.string w]⟩ 259 (0,0))::((b4,.cells ⟨[.string f]⟩ 9 (0,0))::[(b5,.cells ⟨[.string t]⟩ 9 (0,0))])) ⟨_,_,_,rfl,rfl⟩
theorem arT{w:ByteArray}(hl:cD ro vl 2 kB rs):dX zT 265 [.string w,vl] ro [] (fun r Y=>∃b2 b3,r= .func (.func 308) ⟨[]⟩ ⟨[zP b3,zP b2]⟩∧Y=[(b2,.cells ⟨[.string w]⟩ 259 (0,0)),(b3,.cells ⟨[vl]⟩ 30 (0,0))]):=by
 obtain⟨cV,nn,nk,cU,rfl,pG,jR,lh⟩:=hl
 refine zE<|zD 2<|jn fun b2=>jn fun b3=>zD 8<|zR (.func (.func 308) ⟨[]⟩ ⟨[zP b3,zP b2]⟩) [] [1,0] ((b2,.cells ⟨[.string w]⟩ 259 (0,0))::[(b3,.cells ⟨[.slice cV rs.length cU]⟩ 30 (0,0))]) ⟨_,_,rfl,rfl⟩
theorem akz{w:ByteArray}(g1:ro b1=some (.cells ⟨[vl]⟩ 30 (0,0)))(hl:cD ro vl 2 kB rs)(hR:∀r∈rs,s8 r)(g2:ro b2=some (.cells ⟨[.string w]⟩ 259 (0,0)))(hw:yR w)(hn:w.size≤100)(hq:rs.length≤100):ItX zT 308 [] [zP b1,zP b2] ro [] (ub w rs).length (apx (ub w rs)) (fun Z=>Z=[]):=by
 intro bl aV Inv Stop hs hy B hB
 replace g1:=hs _ _ g1
 replace g2:=hs _ _ g2
 replace hl:=hl.up hs
 obtain⟨cV,nn,nk,cU,rfl,pG,jR,lh⟩:=hl
 refine Uq aE [.l B] [] bJ<|zD 2<|jn fun b3=>jf [0] [(b3,.cells ⟨[(.func (.yield bl) #[] #[])]⟩ 384 (0,0))] fun yW cR fe=>zD 3<|jl (b:=b1) (off:=0) (m:=1) (vs:=[.slice cV rs.length cU]) 0 ⟨_,_,_,.inl (cR _ _ g1),rfl⟩<|zD 4<|BD<|aBo [1,1,0,0] [] (fun(zz:Nat×(List Nat)×Cells)=>[(2,zP b2),(3,zP b3),(9,.slice cV rs.length cU),(10,zI (rs.length:Int)),(11,zI (zz.1:Int))]) (fun zz=>[.l (mk zz.2.1),.l zz.2.2]) (fun zz=>(zz.2.1.map fg)) (fun zz=>zz.1≤rs.length∧Inv (kI w ((q8 rs).take (2*zz.1))).length zz.2.2) (fun zz=>rs.length-zz.1) (⟨0,[],B⟩) ⟨by dsimp only;omega,hB⟩ [0,1] ?_
 rintro⟨k,vZ,B⟩ hI K1 cz rest
 dsimp only at hI
 refine zD 5<|zJ 12 ((k:Int) <(rs.length:Int)) (fun h4=>?_) fun h4=>?_
 ·
  refine zD 6 ?_
  obtain⟨x13,alM⟩:=zG rs k
  refine jq cU 2 jR alM<|jl 0 ((lh _ _ alM).ext (FU cR))<|jn fun b5=>jd 14 [0,0,0,0,0]<|jn fun b25=>zD 4<|aBo [1,1,0,0,1,1,0,0,1,1,0,0] [K1] (fun(zz:Nat×(List Nat)×Cells)=>[(2,zP b2),(3,zP b3),(9,.slice cV rs.length cU),(10,zI (rs.length:Int)),(11,zI (k:Int)),(25,.slice (some ⟨b25,0,none⟩) 2 2),(26,zI 2),(27,zI (zz.1:Int))]) (fun zz=>[.l (mk zz.2.1),.l zz.2.2,.b b25 (.cells ⟨[.string x13.f,.string x13.t,.string x13.t,.string x13.f]⟩ 385 (0,0))]) (fun zz=>(zz.2.1.map fg)) (fun zz=>zz.1≤2∧Inv (kI w ((q8 rs).take (2*k+zz.1))).length zz.2.2) (fun zz=>2-zz.1) (⟨0,vZ,B⟩) ⟨by dsimp only;omega,hI.2⟩ [2,3,0] ?_
  rintro⟨q,vZ,B⟩ hJ K2 oy rest
  dsimp only at hJ
  refine zD 5<|zJ 28 ((q:Int) <2) (fun h5=>?_) fun h5=>?_
  ·
   refine zD 6 ?_
   obtain⟨x29,QN⟩:=zG ([(x13.f,x13.t),(x13.t,x13.f)]:List _) q (show q <2 from by omega)
   refine jq (a:=(some ⟨b25,0,none⟩)) (b:=b25) (off:=0) 2 2 (fun _ _=>rfl) QN<|uD (m:=2) 0 [2] [(b25,.cells ⟨([(x13.f,x13.t),(x13.t,x13.f)].map eP2).flatten⟩ 385 (0,0))] (fun s _ hZ=>jA (hZ _ (.head _)) (by intro p hp;rfl) QN) ?_
   refine jn fun b7=>jd 3 [0] ?_
   have hpx:=P1 alM QN
   have hpk:=akd (hR _ (zL alM)) QN
   refine zD 1<|jl (b:=b2) (off:=0) (m:=1) (vs:=[.string w]) 0 ⟨_,_,_,.inl (cR _ _ g2),rfl⟩<|jd 4 [0,0]<|jc (vs:=[.string w,.string x29.1,.string x29.2]) [] (Zu) ?_
   rintro _ _ ⟨aof,aoe,aod,rfl,rfl⟩
   refine jg 0 [.b aof (.cells ⟨[.string w]⟩ 259 (0,0)),.b aoe (.cells ⟨[.string x29.1]⟩ 9 (0,0)),.b aod (.cells ⟨[.string x29.2]⟩ 9 (0,0))]<|jf [0,1,2] ((aof,.cells ⟨[.string w]⟩ 259 (0,0))::((aoe,.cells ⟨[.string x29.1]⟩ 9 (0,0))::[(aod,.cells ⟨[.string x29.2]⟩ 9 (0,0))])) fun ro8 AE hk7=>zD 2<|jrf [] (akA (hk7 _ (.head _)) (hk7 _ (.tail _ (.head _))) (hk7 _ (.tail _ (.tail _ (.head _)))) hw hpk.1 ⟨hn,hpk.2⟩) (by rintro _ _ _ _ ⟨_,_,rfl,_⟩;rfl) (fun(zz:Cells)=>[.l zz]) (fun kk=>(fun(zz:Cells)=>Inv ((kI w ((q8 rs).take (2*k+q))).length+kk) zz)) (fun jump=>(fun(zz:Cells)=>jump= .ret∧Stop zz)) B (show Inv (_+0) _ from hJ.2) [2] ?_ ?_ ?_
   ·
    rintro bl9 bd9 kk9 vs9 LL9 B ro9 OM aub hL hs9
    obtain⟨x9,hx9,rfl,rfl⟩:=aub
    have hu:=ajf hpx hx9
    refine zD 3<|jbg<|zD 3<|jl (b:=b3) (off:=0) (m:=1) (vs:=[(.func (.yield bl) #[] #[])]) 0 ⟨_,_,_,.inl (hs9 _ _ (AE _ _ (fe _ (.head _)))),rfl⟩<|zD 1<|jyc [1] (hy ((kI w ((q8 rs).take (2*k+q))).length+kk9) _ [] B ro9 hu.1 ⟨_,hu.2,rfl,rfl⟩ hL ((cR.trans AE).trans hs9)) (Sub.refl _) ?_
    intro v10 Y10 aNd
    obtain⟨c10,rfl,auu,aup⟩:=yb aNd
    refine zD 2<|js 41 (!c10) (fun zb=>?_) (fun zb=>?_)
    ·
     try simp only[zB] at zb
     refine zD 2<|jys qy0 (Sub.refl _) .ret Y10 ⟨rfl,aup (by simp_all)⟩ [1,0]
    try simp only[zB] at zb
    refine zD 2<|jyn qy0 (Sub.refl _) Y10 (auu (by simp_all)) [1,0]
   ·
    rintro bd9 B Z9 hL hZ9
    subst hZ9
    refine zD 1<|zW ((q:Int)+1)<|zD 2<|jnD oy (⟨q+1,(bd9::vZ),B⟩) ⟨by dsimp only;omega,by dsimp only;rw[←Nat.add_assoc,Ge hpx,List.length_append];exact hL⟩ (by dsimp only;omega) [[0,4],[2],[5]] AE
   rintro bd9 B Z9 jump hS hZ9
   obtain⟨rfl,hS⟩:=hS
   subst hZ9
   exact jrM Ze.a.w.w.a.m (.tuple ⟨[]⟩) [0,4] [] [1] B (cR.trans AE) ⟨[],B,rfl,rfl,.inr hS⟩
  refine zD 3<|zW ((k:Int)+1)<|zD 2<|jnD cz (⟨k+1,vZ,B⟩) ⟨by dsimp only;omega,by have:=hJ.2;dsimp only;rwa[show 2*(k+1)=2*k+q by omega]⟩ (by dsimp only;omega) [[0],[1]] (Sub.refl _)
 refine zD 2<|jrM Ze.a.w (.tuple ⟨[]⟩) [0] [] [0] B cR ⟨[],B,rfl,rfl,.inl (by have:=hI.2;rwa[show k=rs.length by omega,List.take_of_length_le (by rw[Ko];exact Nat.le_refl _)] at this)⟩
instance:LawfulBEq ByteArray where
 eq_of_beq:=fun h=>by rw[N9] at h;exact of_decide_eq_true h
 rfl:=fun {a}=>by rw[N9];exact decide_eq_true rfl
def dd(l:List ByteArray):List ByteArray:=l.foldl (fun a x=>if x∈a then a else a++[x]) []
theorem NS(l:List ByteArray)(x:ByteArray):dd (l++[x])=if x∈dd l then dd l else dd l++[x]:=by rw[dd,List.foldl_append];rfl
theorem avn(a:List ByteArray):∀b:List ByteArray,∃r,dd (a++b)=dd a++r:=by
 intro b
 induction b generalizing a with
 |nil=>exact⟨[],by simp⟩
 |cons x b ih=>
  obtain⟨r,hr⟩:=ih (a++[x])
  rw[show a++x::b=(a++[x])++b by simp,hr,NS]
  split
  ·exact⟨r,rfl⟩
  exact⟨x::r,by simp⟩
abbrev kvS:ByteArray→Value:=fun a=> .string a
def mF(m:List ByteArray):List (ByteArray×Value):=m.map fun x=>(x,.bool true)
theorem Vk(k:ByteArray):∀(m:List ByteArray) (i:Nat),(oe k (mF m) i).map (·.2)=if k∈m then some (.bool true) else none
 | [],_=>rfl
 |x::m,i=>by
  simp only[mF,List.map_cons,oe]
  by_cases h:k=x
  ·simp[h]
  have:=Vk k m (i+1)
  simp only[mF] at this
  simp[h,this]
theorem aAr{k:ByteArray}{m:List ByteArray}:II (.bool false) false k (mF m)= .bool (decide (k∈m)):=by
 simp only[II,lkM,Vk]
 by_cases h:k∈m<;>simp[h]
theorem aqI{k:ByteArray}{m:List ByteArray}(h:decide (k∈m)=false):eQ k (.bool true) (mF m)=mF (m++[k]):=by
 have h:=of_decide_eq_false h
 have:=Vk k m 0
 rw[if_neg h] at this
 simp only[eQ]
 cases hf:oe k (mF m) 0 with
 |none=>simp[mF]
 |some x=>rw[hf] at this;cases this
theorem ahq{k:Nat}(hx:l[k]?=some x) (h:decide (x∈dd (l.take k))=true):dd (l.take (k+1))=dd (l.take k):=by
 rw[eK hx,NS,if_pos (of_decide_eq_true h)]
theorem Vw{k:Nat}(hx:l[k]?=some x) (h:decide (x∈dd (l.take k))=false):dd (l.take (k+1))=dd (l.take k)++[x]:=by
 rw[eK hx,NS,if_neg (of_decide_eq_false h)]
theorem avo{k:Nat}(hx:l[k]?=some x) (h:decide (x∈dd (l.take k))=false):∃r,dd l=dd (l.take k)++[x]++r:=by
 obtain⟨r,hr⟩:=avn (l.take (k+1)) (l.drop (k+1))
 rw[List.take_append_drop,Vw hx h] at hr
 exact⟨r,hr⟩
def OP(rs:List dK)(to:ByteArray):Nat→ByteArray→List ByteArray→List (List ByteArray)
 |0,w,b=>if eF w to=true then [b++[w]] else []
 |n+1,w,b=>(dd (ub w rs)).flatMap fun s=>OP rs to n s (b++[w])
theorem NX{to:ByteArray}:∀ {n:Nat} {w:ByteArray} {b x:List ByteArray},x∈OP rs to n w b→x.length=b.length+n+1
 |0,w,b,x,h=>by
  simp only[OP] at h
  split at h
  ·rw[List.mem_singleton] at h;subst h;simp
  cases h
 |n+1,w,b,x,h=>by
  simp only[OP,List.mem_flatMap] at h
  obtain⟨s,_,h2⟩:=h
  have:=NX h2
  simp at this;omega
theorem aje{w:ByteArray}(hR:∀r∈rs,s8 r)(hw:yR w)(h:x∈ub w rs):yR x∧x.size≤12:=by
 simp only[ub,kI,q8,List.mem_flatMap,Ef,wU,List.mem_filterMap,List.mem_range] at h
 obtain⟨p,⟨r,hr,hp⟩,i,_,hi⟩:=h
 have ht:yR p.2:=by
  simp only[List.mem_cons,List.not_mem_nil,or_false] at hp
  rcases hp with rfl|rfl
  ·exact(hR r hr).tl
  exact(hR r hr).fl
 simp only[q4] at hi
 split at hi
 ·rename_i hc
  cases hi
  exact⟨J8 hw ht,hc.2.2⟩
 cases hi
abbrev amF(L:List (List ByteArray)):(Nat→Option Obj)→Nat→List Value→Cells→Prop:=fun _ k vs LL=>∃x v,L[k]?=some x∧vs=[v]∧aK v 1 9 kT x LL
structure ain(ro:Nat→Option Obj)(bl:Nat)(rs:List dK)(to:ByteArray)(many bm bt bL br bg:Nat)(vl:Value):Prop where
 m:ro bm=some (.cells ⟨[zI (many:Int)]⟩ 3 (0,0))
 t:ro bt=some (.cells ⟨[.string to]⟩ 259 (0,0))
 y:ro bL=some (.cells ⟨[.func (.yield bl) #[] #[]]⟩ 342 (0,0))
 r:ro br=some (.cells ⟨[vl]⟩ 30 (0,0))
 g:ro bg=some (.cells ⟨[.func (.func 264) ⟨[]⟩ ⟨[zP bm,zP bt,zP bL,zP br,zP bg]⟩]⟩ 343 (0,0))
 l:cD ro vl 2 kB rs
theorem ain.up{aR:Nat→Option Obj}{to:ByteArray}(h:ain ro bl rs to many bm bt bL br bg vl)(hs:Sub ro aR):ain aR bl rs to many bm bt bL br bg vl:=
 ⟨hs _ _ h.m,hs _ _ h.t,hs _ _ h.y,hs _ _ h.r,hs _ _ h.g,h.l.up hs⟩
def ap7(bl:Nat)(rs:List dK)(to:ByteArray)(many bm bt bL br bg:Nat)(vl:Value)(L:List (List ByteArray))(Inv:Nat→Cells→Prop)(Stop:Cells→Prop)(n:Nat):Prop:=
 ∀(ro:Nat→Option Obj) (w:ByteArray) (b:List ByteArray) (v:Value) (p:Nat) (B:Cells),ain ro bl rs to many bm bt bL br bg vl→cD ro v 1 kT b→b.length+n=many→yR w→w.size≤100→Part L p (OP rs to n w b)→Inv p B→YOK zT bl ro L.length (amF L) Inv Stop→
  dX zT 264 [.string w,v,zP bm,zP bt,zP bL,zP br,zP bg] ro B (fun r Y=>∃c,r= .bool c∧(c=true→Inv (p+(OP rs to n w b).length) Y)∧(c=false→Stop Y))
theorem arV{w:ByteArray}{b:List ByteArray}{p:Nat}{B:Cells}{to:ByteArray}{L:List (List ByteArray)}{Inv:Nat→Cells→Prop}(ih:∀m,m <n→ap7 bl rs to many bm bt bL br bg vl L Inv Stop m)(hR:∀r∈rs,s8 r)(hq:rs.length≤100)(Xy:many≤100)(Rh:ain ro bl rs to many bm bt bL br bg vl)(hb:cD ro v 1 kT b)(hbn:b.length+n=many)(hw:yR w)(qS:w.size≤100)(hP:Part L p (OP rs to n w b))(hB:Inv p B)(hy:YOK zT bl ro L.length (amF L) Inv Stop):dX zT 264 [.string w,v,zP bm,zP bt,zP bL,zP br,zP bg] ro B (fun r Y=>∃c,r= .bool c∧(c=true→Inv (p+(OP rs to n w b).length) Y)∧(c=false→Stop Y)):=by
 obtain⟨gm,gt,gy,gl,gg,hl⟩:=id Rh
 obtain⟨cV,nn,nk,cU,rfl,pG,jR,lh⟩:=hl
 obtain⟨ayP,aKB,aKx,ayO,rfl,aKz,aKA,aKy⟩:=hb
 refine Uq aE [.l B] [] bJ<|zD 2<|jn fun b9=>zD 4<|jc (vs:=[.slice ayP b.length ayO]) [] (aq9 (show cD _ _ _ _ _ from ⟨ayP,aKB,aKx,ayO,rfl,aKz,aKA,aKy⟩) (by first|omega| (simp only[List.length_set,zM];omega))) ?_
 rintro v14 L14 ⟨_,atu,rfl⟩
 refine zD 1<|jn fun Iq=>wD (sz:=1) (ps:=b) (qs:=[w]) (enc:=kT) (w:= .slice (some ⟨Iq,0,none⟩) 1 1) [1] [0] [(Iq,.cells ⟨([w].map kT).flatten⟩ 9 (0,0))] (atu) (fun s _ hZ=>gG [w] (hZ _ (.head _)) (by intro p hp;rfl)) (fun p _=>aP rfl) (by simp only[List.length_cons,List.length_nil];omega) (fun v17 L17 UK=>?_)
 obtain⟨E3,E1,aah⟩:=UK.form
 subst aah
 refine jn fun Ba=>jd 7 [0,0]<|jl (b:=bm) (off:=0) (m:=1) (vs:=[zI (many:Int)]) 0 ⟨_,_,_,.inl gm,rfl⟩<|zD 2<|zJ 21 (((b++[w]).length:Int)>(many:Int)) (fun h1=>?_) fun h1=>?_
 ·
  refine zD 2 ?_
  obtain rfl:n=0:=by simp only[zM] at*;omega
  refine zD 2<|jl (b:=bt) (off:=0) (m:=1) (vs:=[.string to]) 0 ⟨_,_,_,.inl gt,rfl⟩<|zD 2<|js 25 (!(eF w to)) (fun h2=>?_) (fun h2=>?_)
  ·
   have w5:=h2
   try simp only[zB] at w5
   refine jd 7 [3]<|jrM Ze (.bool true) [] [3] [4] B (Sub.refl _) ⟨_,rfl,(fun _=>by rw[show OP rs to 0 w b=[] from if_neg (by simp_all)];exact hB),nofun⟩
  have w5:=h2
  try simp only[zB] at w5
  have af4:OP rs to 0 w b=[b++[w]]:=if_pos (by simp_all)
  have hel:=Part.get (i:=0) (x:=b++[w]) hP (by rw[af4];rfl)
  refine jl (b:=bL) (off:=0) (m:=1) (vs:=[(.func (.yield bl) #[] #[])]) 0 ⟨_,_,_,.inl gy,rfl⟩<|jd 1 [0]<|jyc [1,4] (hy p [(.slice E3 ((b++[w])).length E1)] L17 B ro hel.1 ⟨_,_,hel.2,rfl,UK⟩ hB (Sub.refl _)) (Sub.refl _) ?_
  intro v28 Y28 aNb
  obtain⟨c28,rfl,aPH,aPs⟩:=yb aNb
  refine jd 4 [3]<|jrM Ze (.bool c28) [] [3] [0] Y28 (Sub.refl _) ⟨_,rfl,(fun h=>by rw[af4];exact aPH h),aPs⟩
 refine zD 3 ?_
 obtain⟨m,rfl⟩:∃m,n=m+1:=⟨n-1,by simp only[zM] at*;omega⟩
 refine zD 1<|jmk kvS fun uo L30 alY=>jn fun I0=>jd 5 [0]<|jf [2,0,3] ((Ba,.cells ⟨[(.slice E3 ((b++[w])).length E1)]⟩ 29 (0,0))::((I0,.cells ⟨[(.map (some uo))]⟩ 344 (0,0))::L17)) (fun ro5 hs3 hk4=>?_)
 have FT:=UK.n9 hk4.tail.tail
 replace Rh:=Rh.up hs3
 replace hy:=hy.up hs3
 refine zD 1<|jl (b:=br) (off:=0) (m:=1) (vs:=[.slice cV rs.length cU]) 0 ⟨_,_,_,.inl (hs3 _ _ gl),rfl⟩<|jc (vs:=[.string w,.slice cV rs.length cU]) [] (arT ((show cD _ _ _ _ _ from ⟨cV,nn,nk,cU,rfl,pG,jR,lh⟩).up hs3)) ?_
 rintro _ _ ⟨aoh,aog,rfl,rfl⟩
 refine jg 0 [.b aoh (.cells ⟨[.string w]⟩ 259 (0,0)),.b aog (.cells ⟨[.slice cV rs.length cU]⟩ 30 (0,0))]<|jf [0,1] ((aoh,.cells ⟨[.string w]⟩ 259 (0,0))::[(aog,.cells ⟨[.slice cV rs.length cU]⟩ 30 (0,0))]) fun ro8 AE hk7=>zD 2<|jrf [] (akz (hk7 _ (.tail _ (.head _))) (Rh.l.up AE) hR (hk7 _ (.head _)) hw qS hq) (by rintro _ _ _ _ ⟨_,_,rfl,_⟩;rfl) (fun(zz:Bool×Cells×Cells)=>[.b b9 (.cells ⟨[.bool zz.1]⟩ 4 (0,0)),.l zz.2.1,.l zz.2.2]) (fun kk=>(fun(zz:Bool×Cells×Cells)=>Inv (p+((dd ((ub w rs).take kk)).flatMap fun s=>OP rs to m s (b++[w])).length) zz.2.2∧fH uo kvS (mF (dd ((ub w rs).take kk))) zz.2.1)) (fun jump=>(fun(zz:Bool×Cells×Cells)=>jump= .ret∧(zz.1=false∧Stop zz.2.2))) (⟨false,L30,B⟩) ⟨hB,alY⟩ [2,0,3] ?_ ?_ ?_
 ·
  rintro bl9 bd9 kk9 vs9 LL9 ⟨rv,Lm,B⟩ ro9 OM aub hL hs9
  obtain⟨x9,hx9,rfl,rfl⟩:=aub
  have Xq:=aje hR hw (zL hx9)
  refine zD 3<|jbg<|zD 4<|jl (b:=I0) (off:=0) (m:=1) (vs:=[(.map (some uo))]) 0 ⟨_,_,_,.inl (hs9 _ _ (AE _ _ (hk4 _ (.tail _ (.head _))))),rfl⟩<|zD 1<|jlu (kv:=kvS) (F:=(mF (dd ((ub w rs).take kk9)))) (r:=uo) (K:=259) x9 (.bool false) false [2] Lm (Xd (T:=259) (by kernel_rfl)) (fun s _ hZ=>hL.2.has hZ)<|jw 37 (.bool (decide (x9∈(dd ((ub w rs).take kk9))))) aAr<|zD 1<|js 37 (decide (x9∈(dd ((ub w rs).take kk9)))) (fun A7=>?_) (fun A7=>?_)
  ·
   refine zD 2<|jyn qy0 (Sub.refl _) ⟨rv,Lm,B⟩ ⟨by rw[ahq hx9 (by assumption)];exact hL.1,by rw[ahq hx9 (by assumption)];exact hL.2⟩ (zN 0 4)
  have uG:decide (x9∈dd ((ub w rs).take kk9))=false:=by assumption
  obtain⟨rr,hrr⟩:=avo hx9 uG
  have aB7:=Part.flat (G:=fun s=>OP rs to m s (b++[w])) hP hrr
  refine zD 4<|jl (b:=I0) (off:=0) (m:=1) (vs:=[(.map (some uo))]) 0 ⟨_,_,_,.inl (hs9 _ _ (AE _ _ (hk4 _ (.tail _ (.head _))))),rfl⟩<|zD 1<|Ut (kv:=kvS) (F:=(mF (dd ((ub w rs).take kk9)))) (r:=uo) (K:=259) 2 x9 (.bool true) (Xd (T:=259) (by kernel_rfl)) hL.2 fun ang afP=>zD 3<|jl (b:=bg) (off:=0) (m:=1) (vs:=[.func (.func 264) ⟨[]⟩ ⟨[zP bm,zP bt,zP bL,zP br,zP bg]⟩]) 0 ⟨_,_,_,.inl (hs9 _ _ (AE _ _ (hs3 _ _ gg))),rfl⟩<|zD 1<|jl (b:=Ba) (off:=0) (m:=1) (vs:=[(.slice E3 ((b++[w])).length E1)]) 0 ⟨_,_,_,.inl (hs9 _ _ (AE _ _ (hk4 _ (.head _)))),rfl⟩<|jc (vs:=[.string x9,(.slice E3 ((b++[w])).length E1),zP bm,zP bt,zP bL,zP br,zP bg]) [3] (ih m (by omega) _ _ _ _ (p+((dd ((ub w rs).take kk9)).flatMap fun s=>OP rs to m s (b++[w])).length) _ (Rh.up (AE.trans hs9)) (FT.up (AE.trans hs9)) (by simp only[zM];omega) Xq.1 (by omega) aB7 hL.1 (hy.up (AE.trans hs9))) ?_
  rintro _ Y43 ⟨c43,rfl,aPF,aPq⟩
  refine zD 2<|js 44 (!c43) (fun h12=>?_) (fun h12=>?_)
  ·
   try simp only[zB] at h12
   refine jd 6 [3]<|jys qy0 (Sub.refl _) .ret ⟨false,ang,Y43⟩ ⟨rfl,rfl,aPq (by simp_all)⟩ [2,3,1,0]
  try simp only[zB] at h12
  refine zD 2<|jyn qy0 (Sub.refl _) ⟨rv,ang,Y43⟩ ⟨by rw[Vw hx9 uG,List.flatMap_append,List.length_append,←Nat.add_assoc];have:=aPF (by simp_all);simpa using this,by rw[Vw hx9 uG,←aqI uG];exact afP⟩ [2,3,1,0]
 ·
  rintro bd9 ⟨rv,Lm,B⟩ Z9 hL hZ9
  subst hZ9
  refine jd 5 [2]<|jrM Ze.a.a.m (.bool true) [0] [1] [3] B (hs3.trans AE) ⟨_,rfl,(fun _=>by have:=hL.1;rwa[List.take_of_length_le (Nat.le_refl _)] at this),nofun⟩
 rintro bd9 ⟨rv,Lm,B⟩ Z9 jump hS hZ9
 obtain⟨rfl,hS⟩:=hS
 obtain⟨rfl,hS⟩:=hS
 subst hZ9
 exact jrM Ze.a.a.m (.bool false) [0] [1] [3] B (hs3.trans AE) ⟨_,rfl,nofun,fun _=>hS⟩
theorem azS{to:ByteArray}{L:List (List ByteArray)}{Inv:Nat→Cells→Prop}(hR:∀r∈rs,s8 r)(hq:rs.length≤100)(Xy:many≤100):∀n,ap7 bl rs to many bm bt bL br bg vl L Inv Stop n:=by
 intro n
 induction n using Nat.strongRecOn with
 |_ n ih=>exact fun ro w b v p B hc hb hbn hw qS hP hB hy=>arV ih hR hq Xy hc hb hbn hw qS hP hB hy
theorem Zv{w to:ByteArray}(g1:ro b1=some (.cells ⟨[zI (many:Int)]⟩ 3 (0,0)))(g2:ro b2=some (.cells ⟨[.string to]⟩ 259 (0,0)))(g3:ro b3=some (.cells ⟨[vl]⟩ 30 (0,0)))(g4:ro b4=some (.cells ⟨[.string w]⟩ 259 (0,0)))(hl:cD ro vl 2 kB rs)(hR:∀r∈rs,s8 r)(hw:yR w)(qS:w.size≤100)(hq:rs.length≤100)(Xy:many≤100):ItX zT 263 [] [zP b1,zP b2,zP b3,zP b4] ro [] (OP rs to many w []).length (amF (OP rs to many w [])) (fun Z=>Z=[]):=by
 intro bl aV Inv Stop hs hy B hB
 replace g1:=hs _ _ g1
 replace g2:=hs _ _ g2
 replace g3:=hs _ _ g3
 replace g4:=hs _ _ g4
 replace hl:=hl.up hs
 have hlr:=hl
 obtain⟨cV,nn,nk,cU,rfl,pG,jR,lh⟩:=hl
 refine zC [.l B]<|zD 2<|jn fun b5=>zD 3<|jn fun b6=>jd 8 [0,0]<|jl (b:=b4) (off:=0) (m:=1) (vs:=[.string w]) 0 ⟨_,_,_,.inl g4,rfl⟩<|jf [1,0] ((b5,.cells ⟨[(.func (.yield bl) #[] #[])]⟩ 342 (0,0))::[(b6,.cells ⟨[.func (.func 264) ⟨[]⟩ ⟨[zP b1,zP b2,zP b5,zP b3,zP b6]⟩]⟩ 343 (0,0))]) fun yW cR fe=>jc (vs:=[.string w,zS,zP b1,zP b2,zP b5,zP b3,zP b6]) [0] (azS hR hq Xy many _ _ _ _ 0 _ ⟨cR _ _ g1,cR _ _ g2,fe _ (.head _),cR _ _ g3,fe _ (.tail _ (.head _)),hlr.up cR⟩ (cD.nil _ _ _ _ _) (by simp) hw qS ⟨[],[],by simp,rfl⟩ hB (YOK.up hy cR)) ?_
 rintro _ Y10 ⟨c10,rfl,auu,aup⟩
 refine zD 1<|aS q0.a (.tuple ⟨[]⟩) [] [0] Y10 cR ⟨_,_,rfl,rfl,[],Y10,rfl,rfl,by cases c10 with|true=>exact .inl (by simpa using auu rfl)|false=>exact .inr (aup rfl)⟩
theorem aeg{w to:ByteArray}{many:Int}(hl:cD ro vl 2 kB rs):dX zT 219 [.string w,vl,.string to,zI many] ro [] (fun r Y=>∃b4 b5 b6 b7,r= .func (.func 263) ⟨[]⟩ ⟨[zP b7,zP b6,zP b5,zP b4]⟩∧Y=[(b4,.cells ⟨[.string w]⟩ 259 (0,0)),(b5,.cells ⟨[vl]⟩ 30 (0,0)),(b6,.cells ⟨[.string to]⟩ 259 (0,0)),(b7,.cells ⟨[zI many]⟩ 3 (0,0))]):=by
 obtain⟨cV,nn,nk,cU,rfl,pG,jR,lh⟩:=hl
 refine zE<|zD 2<|jn fun b4=>jn fun b5=>jn fun b6=>jn fun b7=>zD 8<|zR (.func (.func 263) ⟨[]⟩ ⟨[zP b7,zP b6,zP b5,zP b4]⟩) [] [3,2,1,0] ((b4,.cells ⟨[.string w]⟩ 259 (0,0))::((b5,.cells ⟨[.slice cV rs.length cU]⟩ 30 (0,0))::((b6,.cells ⟨[.string to]⟩ 259 (0,0))::[(b7,.cells ⟨[zI many]⟩ 3 (0,0))]))) ⟨_,_,_,_,rfl,rfl⟩
theorem arW{L:List (List ByteArray)}(hit:ItX zT 263 [] [zP b1,zP b2,zP b3,zP b4] ro [] L.length (amF L) (fun Z=>Z=[]))(hL:∀x∈L,x.length≤1000):dX zT 218 [.func (.func 263) ⟨[]⟩ ⟨[zP b1,zP b2,zP b3,zP b4]⟩,.func (.func 220) ⟨[]⟩ ⟨[]⟩] ro [] (fun r Y=>∃v,r= .tuple ⟨[v,.bool (decide (0 <L.length))]⟩∧∃ps,aK v 1 9 kT ps Y∧(0 <L.length→ps∈L)):=by
 refine Uq aE [] [] bJ<|zD 2<|jn fun b3=>zD 2<|jf [0] [(b3,.cells ⟨[.func (.func 220) ⟨[]⟩ ⟨[]⟩]⟩ 311 (0,0))] fun yW cR fe=>zD 3<|jn fun b6=>zD 3<|jn fun b7=>jd 8 [0]<|BD<|jrf [] (hit.up cR) (by rintro _ _ _ _ ⟨_,_,_,rfl,_⟩;rfl) (fun(zz:Value×(List ByteArray)×Cells×Bool)=>[.b b6 (.cells ⟨[zz.1]⟩ 29 (0,0)),.b b7 (.cells ⟨[.bool zz.2.2.2]⟩ 4 (0,0)),.l zz.2.2.1]) (fun kk=>(fun(zz:Value×(List ByteArray)×Cells×Bool)=>aK zz.1 1 9 kT zz.2.1 zz.2.2.1∧zz.2.2.2=decide (0 <kk)∧(0 <kk→zz.2.1∈L)∧zz.2.1.length≤1000)) (fun jump=>(fun(zz:Value×(List ByteArray)×Cells×Bool)=>False)) (⟨zS,[],[],false⟩) ⟨aK.nil _ _ _,rfl,nofun,by simp⟩ [2,1,0] ?_ ?_ ?_
 ·
  rintro bl4 bd4 kk4 vs4 LL4 ⟨v,ps,Lb,sm⟩ Tq hk4 UY hI nz
  obtain⟨x4,v4,hx4,rfl,ho4⟩:=UY
  have hxl:=hL _ (zL hx4)
  have xb:=hI.2.2.2
  refine zD 3<|jbg<|jd 6 [2]<|js 13 (!sm) (fun h5=>?_) (fun h5=>?_)
  ·
   have Rn:=h5
   try simp only[zB] at Rn
   refine zD 10 ?_
   obtain⟨va6,vc6,he6⟩:=ho4.form
   subst he6
   refine jd 3 [1,2]<|jyn qy0 (Sub.refl _) ⟨(.slice va6 (x4).length vc6),x4,LL4,true⟩ ⟨ho4,rfl,fun _=>zL hx4,hxl⟩ [0,1,2,4]
  have Rn:=h5
  try simp only[zB] at Rn
  refine jl (b:=b3) (off:=0) (m:=1) (vs:=[.func (.func 220) ⟨[]⟩ ⟨[]⟩]) 0 ⟨_,_,_,.inl (nz _ _ (fe _ (.head _))),rfl⟩<|jd 2 [1]<|jp (vs:=[v4,v]) [4,3] (LL4++Lb) (fun aV hs hZ=>aJ6 (ho4.n9 hZ.left) (hI.1.n9 hZ.right) (by first|omega| (simp only[List.length_set,zM];omega)) (by first|omega| (simp only[List.length_set,zM];omega))) ?_
  refine zD 3<|zJ 19 ((NU x4 ps) <0) (fun h7=>?_) fun h7=>?_
  ·
   refine zD 3 ?_
   obtain⟨va8,vc8,he8⟩:=ho4.form
   subst he8
   refine jd 3 [1,2]<|jyn qy0 (Sub.refl _) ⟨(.slice va8 (x4).length vc8),x4,LL4,true⟩ ⟨ho4,rfl,fun _=>zL hx4,hxl⟩ [0,1,2,4]
  refine zD 2<|jyn qy0 (Sub.refl _) ⟨v,ps,Lb,sm⟩ ⟨hI.1,by have:=hI.2.1;simp_all,fun _=>hI.2.2.1 (by have:=hI.2.1;simp_all),xb⟩ (zN 0 4)
 ·
  rintro bd4 ⟨v,ps,Lb,sm⟩ Z4 hI hZ4
  subst hZ4
  refine jd 8 [2,3]<|jrM Ze.a.m (.tuple ⟨[v,.bool sm]⟩) [0] [] [3] Lb cR ⟨v,by rw[←hI.2.1],ps,hI.1,hI.2.2.1⟩
 rintro bd4 ⟨v,ps,Lb,sm⟩ Z4 jump hS hZ4
 exact hS.elim
end Go.L
