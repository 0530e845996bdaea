/- Part 6 of the proof. -/
import Derived.Test.YtfamogolneloaaaGreatDoorG5
import Derived.KernelRfl
import Derived.Lib.UnsafeStr
import Derived.Test.YtfamogolneloaaaGreatDoorProg
set_option maxRecDepth 100000
set_option linter.all false
namespace Go.L
open Go Go.Conc
variable {xs al:List Int} {α β:Type} {vd vm vc vh s0 s1 s2 t0 t1 ru vb va:Value} {Φ:Value→(Nat→Option Obj)→Cells→Prop} {X fr:Cells} {d i k sz nc b nh bw:Nat} {aI pz:Nat→Option Obj} {n many lo hi af gone new:Int} {P:Program} {o:Option JS} {args:List Value} {f:FuncId} {E:TypeId} {nm:ByteArray} {ag:Bool}
def rnM(P:Program):Sem α→List Nat→Cells→List (Nat×Nat)→Option (α×Cells×List (Nat×Nat))
 | .pure a,_,B,q=>some (a,B,q)
 | .load m a k,h::hs,B,q=>match m,a.spot,B[h]? with
  | .plain,none,some (b,.cells c _ _)=>match c[a.off]? with
   |some v=>rnM P (k v) hs B ((a.block,b)::q)
   |none=>none
  |_,_,_=>none
 | .shape r k,h::hs,B,q=>match B[h]? with
  |some (b,o)=>rnM P (k (Obj.shapeOf o)) hs B ((r,b)::q)
  |none=>none
 | .program k,hs,B,q=>rnM P (k P) hs B q
 |_,_,_,_=>none
theorem aql:∀(m:Sem α) {hs:List Nat} {B B':Cells} {q q':List (Nat×Nat)} {v:α},rnM P m hs B q=some (v,B',q')→(∀p∈q',p.1=p.2)→
 (∀p∈q,p∈q')∧B'=B∧∀(s:St) (Q:α→St→Prop) (E:Halt→St→Prop),(∀x∈B,s.has x.1 x.2)→Q v s→bN P m s Q E:=by
 intro m
 induction m with
 |pure a=>intro hs B B' q q' v h _;simp only[rnM,Option.some.injEq,Prod.mk.injEq] at h;obtain⟨rfl,rfl,rfl⟩:=h;exact⟨fun _ h=>h,rfl,fun _ _ _ _ h=>h⟩
 |load m a k ih=>
  intro hs B B' q q' v h hq
  cases hs with
  |nil=>cases h
  |cons j hs=>
   unfold rnM at h
   split at h<;>try (cases h;done)
   rename_i b c t fz Nm hB
   split at h<;>try (cases h;done)
   rename_i u hu
   obtain⟨h1,h2,h3⟩:=ih _ h hq
   have Bm:a.block=b:=hq _ (h1 _ List.mem_cons_self)
   refine⟨fun p hp=>h1 p (List.mem_cons_of_mem _ hp),h2,fun s Q E hs hQ=>⟨rfl,Nm,c,t,fz,u,?_,hu,h3 s Q E hs hQ⟩⟩
   rw[Bm];exact hs _ (List.mem_of_getElem? hB)
 |shape r k ih=>
  intro hs B B' q q' v h hq
  cases hs with
  |nil=>cases h
  |cons j hs=>
   simp only[rnM] at h
   split at h<;>try (cases h;done)
   rename_i b o hB
   obtain⟨h1,h2,h3⟩:=ih _ h hq
   have Bm:r=b:=hq _ (h1 _ List.mem_cons_self)
   refine⟨fun p hp=>h1 p (List.mem_cons_of_mem _ hp),h2,fun s Q E hs hQ=>⟨o,?_,h3 s Q E hs hQ⟩⟩
   rw[Bm];exact hs _ (List.mem_of_getElem? hB)
 |program k ih=>
  intro hs B B' q q' v h hq
  simp only[rnM] at h
  exact ih _ h hq
 |store=>intro hs B B' q q' v h hq;cases hs<;>cases h
 |new=>intro hs B B' q q' v h hq;cases hs<;>cases h
 |freeze=>intro hs B B' q q' v h hq;cases hs<;>cases h
 |frozen=>intro hs B B' q q' v h hq;cases hs<;>cases h
 |getObj=>intro hs B B' q q' v h hq;cases hs<;>cases h
 |setObj=>intro hs B B' q q' v h hq;cases hs<;>cases h
 |choose=>intro hs B B' q q' v h hq;cases hs<;>cases h
 |sys=>intro hs B B' q q' v h hq;cases hs<;>cases h
 |mark=>intro hs B B' q q' v h hq;cases hs<;>cases h
 |halt=>intro hs B B' q q' v h hq;cases hs<;>cases h
def abL:Op→Option (List Operand)
 | .call ⟨.builtin _,xs,_⟩=>some xs.toList
 |op=>FB op
theorem Oa{o:Oper}{xs:List Operand}(h:abL o.op=some xs){f g:Operand→Value}(hfg:∀x∈xs,f x=g x):execOp f o=execOp g o:=by
 unfold abL at h
 split at h
 ·rename_i b xs at_ heq
  simp only[Option.some.injEq] at h;subst h
  have:xs.map f=xs.map g:=Array.map_congr_left fun a ha=>hfg a (by simpa using ha)
  simp only[execOp,heq,resolve,this]
 exact tH h hfg
def smV(P:Program)(n:Nat)(hs:List Nat)(B:Cells)(p:Oper)(e:Env):Option (Value×List (Nat×Nat)):=match abL p.op with
 |some xs=>match xN n e xs with
  |some _=>match rnM P (execOp (evj n e) p) hs B [] with
   |some (.value v,_,q)=>some (v,q)
   |_=>none
  |none=>none
 |none=>none
theorem Bv{γ:Type}{n:Nat}{f:Oper→Env→Option β}{g:β→γ}:fg n (fun p e=>(f p e).map g) o=(fg n f o).map g:=by
 unfold fg
 split
 ·unfold dE
  dsimp only
  split<;>rfl
 rfl
def smA(P:Program)(n:Nat)(hs:List Nat)(B:Cells)(p:Oper)(e:Env):Option Value:=(smV P n hs B p e).map (·.1)
def smL(P:Program)(n:Nat)(hs:List Nat)(B:Cells)(p:Oper)(e:Env):Option (List Nat):=(smV P n hs B p e).map fun x=>T4 x.2
def smR(P:Program)(n:Nat)(hs:List Nat)(B:Cells)(p:Oper)(e:Env):Option (List Nat):=(smV P n hs B p e).map fun x=>R8 x.2
section
variable {X:Cx} {o:Option JS}
theorem jmo(ps hs:List Nat)(B:Cells)(v:Value)(hj:J X (nj ps v B o))(hv:fg X.n (smA X.P X.n hs B) o=some v:=by kernel_rfl)(hq:fg X.n (smL X.P X.n hs B) o=fg X.n (smR X.P X.n hs B) o:=by kernel_rfl)(hB:dS ps o=some B:=by kernel_rfl):J X o:=by
 rw[show smA X.P X.n hs B=fun p e=>(smV X.P X.n hs B p e).map (·.1) from rfl,Bv] at hv
 rw[show smL X.P X.n hs B=fun p e=>(smV X.P X.n hs B p e).map (fun x=>T4 x.2) from rfl,show smR X.P X.n hs B=fun p e=>(smV X.P X.n hs B p e).map (fun x=>R8 x.2) from rfl,Bv,Bv] at hq
 cases hx:fg X.n (smV X.P X.n hs B) o with
 |none=>rw[hx] at hv;cases hv
 |some x=>
  rcases x with ⟨v',q⟩
  rw[hx] at hv hq
  simp only[Option.map_some,Option.some.injEq] at hv hq
  subst hv
  refine jS (Φ:=fun u L'=>u=v'∧L'=B) ps B hx hB (fun p e hf=>?_) (fun u L' qi=>by obtain⟨rfl,rfl⟩:=qi;exact hj)
  unfold smV at hf
  split at hf<;>try (cases hf;done)
  rename_i xs ay
  split at hf<;>try (cases hf;done)
  rename_i ws Rq
  split at hf<;>try (cases hf;done)
  rename_i u B' q2 bU
  simp only[Option.some.injEq,Prod.mk.injEq] at hf
  obtain⟨rfl,rfl⟩:=hf
  refine⟨fun c hc=>?_,fun R Q E hQ=>?_⟩
  ·rw[hc] at ay;cases ay
  rw[Oa ay (MC (f:=ev X.n e) (fun x v h=>aD h) Rq)]
  obtain⟨_,_,h3⟩:=aql _ bU (lZ hq)
  exact h3 _ _ _ (fun x hx=> .inr (List.mem_append_left _ hx)) (hQ _ _ ⟨rfl,rfl⟩)
theorem G6:∀(n t:Nat) (acc:Array Value),(Extern.BytealgMakeNoZero.digits n t acc).size=acc.size+n
 |0,_,_=>rfl
 |n+1,t,acc=>by
  simp only[Extern.BytealgMakeNoZero.digits,G6 n,Array.size_push];omega
theorem jnz{ps rs:Array TypeId}{T:TypeId}{n:Nat}{z:List Value}(ef:EF X.P f (Extern.BytealgMakeNoZero.makeNoZero ps rs))(hT:rs[0]?=some T) (tf:TF X.P T (.slice E) sz bw z ag) (hn:n≤1000)
 (hj:∀b l,n≤l.length→J X (nj [] (.slice (some ⟨b,0,none⟩) n l.length) [(b,.cells ⟨l⟩ E (0,0))] o)) (hv:fg X.n (agL X.n) o=some (f,[.int .i64 (n:Int)]):=by kernel_rfl) (hB:dS [] o=some []:=by kernel_rfl):J X o:=by
 obtain⟨ops,i,todo,k,e,w,kn,p,rfl,ho,hw,hc⟩:=dr hv
 obtain⟨xs,at_,ay,hx⟩:=MB hc
 intro bV
 rcases p with ⟨dst,op,ty,pos,cZ,g⟩
 dsimp only at ay;subst ay
 refine acJ X.hC ho hw ef hx ?_
 have eM:Extern.BytealgMakeNoZero.makeNoZero ps rs ⟨[Value.int .i64 (n:Int)]⟩=(do
  let some t:=rs[0]?|stuck "bytealg.MakeNoZero: no result type"
  let .slice elem ←underlying t|stuck "bytealg.MakeNoZero: slice type expected"
  if (n:Int) <0||(n:Int)>2^48 then runtimePanic (.error "makeslice: len out of range")
  let cap ←choose (.appendCap (n:Int).toNat 0 elem)
  askRoom cap
  let bytes ←choose (.extern "internal/bytealg.MakeNoZero.bytes" 0)
  let a ←newRow elem (Extern.BytealgMakeNoZero.digits cap bytes #[])
  pure (.slice (some a) (n:Int).toNat cap)):=rfl
 rw[eM]
 simp only[hT,aX tf]
 rw[if_neg (by simp only[Bool.or_eq_true,decide_eq_true_eq];omega)]
 refine abp rfl fun q=>?_
 refine su ?_
 show (if (Question.extern "internal/bytealg.MakeNoZero.bytes" 0).forced=true then _ else _)
 have key:∀cap bytes,n≤cap→bN X.P (newRow E (Extern.BytealgMakeNoZero.digits cap bytes #[]) >>= fun a=>pure (Value.slice (some a) ((n:Int).toNat) cap)) ⟨X.ro,den w⟩ (fun v s'=>ab X.C X.fn X.az ops todo (KQ X k) (A X.n (upd dst v e) X.D) s') (fun _ _=>False):=by
  intro cap bytes oE
  rw[jm]
  intro b hb
  have hl:(Extern.BytealgMakeNoZero.digits cap bytes #[]).toList.length=cap:=by
   rw[Array.length_toList,G6];simp
  have:=hj b (Extern.BytealgMakeNoZero.digits cap bytes #[]).toList (by omega)
  rw[n9 ho] at this
  have:=this bV
  simp only[JP,gE,hl,xk] at this
  exact this
 split
 ·exact key _ _ (by show n≤(n:Int).toNat+_;rw[Int.toNat_natCast];exact Nat.le_add_right _ _)
 exact fun q2=>key _ _ (by show n≤(n:Int).toNat+_;rw[Int.toNat_natCast];exact Nat.le_add_right _ _)
def sdV(n:Nat)(p:Oper)(e:Env):Option (Addr×Nat×Nat):=match p.op with
 | .call ⟨.builtin .unsafeSliceData,xs,_⟩=>match xN n e xs.toList with
  |some [.slice (some a) l c]=>some (a,l,c)
  |_=>none
 |_=>none
theorem jsd{a:Addr}{l c:Nat}(h:c≠0)(hj:J X (nj [] (.pointer (some a)) [] o))(hv:fg X.n (sdV X.n) o=some (a,l,c):=by kernel_rfl)(hB:dS [] o=some []:=by kernel_rfl):J X o:=by
 refine jS (Φ:=fun u L'=>u= .pointer (some a)∧L'=[]) [] [] hv hB (fun p e hf=>?_) (fun u L' qi=>by obtain⟨rfl,rfl⟩:=qi;exact hj)
 unfold sdV at hf
 split at hf<;>try (cases hf;done)
 rename_i xs at_ ay
 split at hf<;>try (cases hf;done)
 rename_i a' l' c' hx
 simp only[Option.some.injEq,Prod.mk.injEq] at hf
 obtain⟨rfl,rfl,rfl⟩:=hf
 refine⟨by rw[ay];simp,fun R Q E hQ=>?_⟩
 have e1:Builtin.unsafeSliceData_ at_ p.type ⟨[.slice (some a') l' c']⟩=pure (.pointer (some a')):=by
  show (if c'≠0 then _ else _)=_
  rw[if_pos h]
 simp only[execOp,ay,resolve,r5 (show ve X.n e xs=_ from hx),ae,invoke,builtin,e1]
 exact hQ _ _ ⟨rfl,rfl⟩
def usV(P:Program)(n:Nat)(p:Oper)(e:Env):Option (Nat×TypeId):=match p.op with
 | .call ⟨.builtin .unsafeString,xs,at_⟩=>match at_[0]? with
  |some pt=>match aW P pt with
   |some ⟨.pointer E,_,_,_⟩=>bif Nat.beq (P.cellsOf E) 1 then (match xN n e xs.toList with
    |some [.pointer (some ⟨b,0,none⟩),.int .i64 1]=>some (b,E)
    |_=>none) else none
   |_=>none
  |none=>none
 |_=>none
theorem jus(ps:List Nat)(x:Int)(l:List Value)(hj:∀L',J X (nj ps (.string ⟨#[x.toNat.toUInt8]⟩) L' o))(hv:fg X.n (usV X.P X.n) o=some (b,E):=by kernel_rfl)(hB:dS ps o=some [(b,.cells ⟨.int .u8 x::l⟩ E (0,0))]:=by kernel_rfl):J X o:=by
 refine jS (Φ:=fun u L'=>u= .string ⟨#[x.toNat.toUInt8]⟩) ps _ hv hB (fun p e hf=>?_) (fun u L' qi=>by subst qi;exact hj L')
 unfold usV at hf
 split at hf<;>try (cases hf;done)
 rename_i xs at_ ay
 split at hf<;>try (cases hf;done)
 rename_i pt hpt
 split at hf<;>try (cases hf;done)
 rename_i E' _ _ _ dM
 cases hc:Nat.beq (X.P.cellsOf E') 1 with
 |false=>rw[hc] at hf;cases hf
 |true=>
  rw[hc] at hf
  simp only[cond_true] at hf
  split at hf<;>try (cases hf;done)
  rename_i b' hx
  simp only[Option.some.injEq,Prod.mk.injEq] at hf
  obtain⟨rfl,rfl⟩:=hf
  have hc:=Nat.eq_of_beq_eq_true hc
  obtain⟨bw,tf⟩:=av dM
  refine⟨by rw[ay];simp,fun R Q Er hQ=>?_⟩
  have e1:Builtin.unsafeString_ at_ p.type ⟨[.pointer (some ⟨b',0,none⟩),.int .i64 1]⟩=(do
   let n ←asInt (.int .i64 1)
   let some pt:=at_[0]?|stuck "unsafe.String: no argument types"
   if n <0 then runtimePanic (.error "unsafe.String: len out of range")
   if n>IntKind.i64.max then unsupported (.unsafePointer "String: a length above the largest int")
   if n=0 then pure (.string .empty)
   else if ←variablesAt ⟨b',0,none⟩ (←elemOf pt) n.toNat then do
    let s ←loadBytes ⟨b',0,none⟩ .empty n.toNat
    freeze ⟨b',0,none⟩ n.toNat
    pure (.string s)
   else unsupported (.unsafePointer "String: not so many bytes at ptr")):=rfl
  simp only[execOp,ay,resolve,r5 (show ve X.n e xs=_ from hx),ae,invoke,builtin,e1]
  simp only[asInt,asIntOf,aa,ae,hpt,show ¬((1:Int) <0) by omega,show ¬((1:Int)>IntKind.i64.max) by decide,show ¬((1:Int)=0) by omega,if_false,elemOf,aX tf,variablesAt,eW]
  have hs:(⟨X.ro,[(b',Obj.cells ⟨Value.int .u8 x::l⟩ E' (0,0))]++R⟩:St).rw=[]++(b',Obj.cells ⟨Value.int .u8 x::l⟩ E' (0,0))::R:=rfl
  have hm:(⟨X.ro,[(b',Obj.cells ⟨Value.int .u8 x::l⟩ E' (0,0))]++R⟩:St).has b' (.cells ⟨Value.int .u8 x::l⟩ E' (0,0)):= .inr (by rw[hs];exact fD)
  refine⟨_,hm,?_⟩
  have aBy:=Go.Lib.liesAt_bytes (P:=X.P) hc ((Value.int .u8 x::l).length / X.P.cellsOf E') 1 (by rw[hc];simp)
  have pb:∀ {α β:Type} (a:α) (f:α→Sem β),(Sem.pure a).bind f=f a:=fun _ _=>rfl
  simp only[Obj.shapeOf,List.size_toArray,aa,ae,pb]
  rw[show (1:Int).toNat=1 from rfl,aBy]
  simp only[ae,aa,if_true,loadBytes]
  refine⟨rfl,rfl,_,_,_,.int .u8 x,hm,rfl,?_⟩
  simp only[aa,ae]
  refine(if_neg (by omega:¬(1:Nat)=0)).mpr ?_
  refine⟨[],_,R,hs,?_⟩
  exact hQ (.string ⟨#[x.toNat.toUInt8]⟩) [(b',_)] rfl
def pnV(P:Program)(n:Nat)(p:Oper)(e:Env):Option (Nat×Nat):=match p.op with
 | .binOp .neq T x y _=>match aW P T with
  |some ⟨.pointer E,_,_,_⟩=>match aW P E with
   |some te=>bif Nat.blt 0 te.size then (match bh n e x with
    |some (.pointer (some ⟨b,0,none⟩))=>match bh n e y with
     |some (.pointer (some ⟨c,0,none⟩))=>some (b,c)
     |_=>none
    |_=>none) else none
   |none=>none
  |_=>none
 |_=>none
theorem ame{dep:Nat}{t:TypeId}{sz2 AX:Nat}{z z2:List Value}{ag2:Bool}(tf:TF P t (.pointer E) sz bw z ag){d:TypeDesc}(qM:TF P E d sz2 AX z2 ag2)(hs:sz2≠0)(a:Addr):EqD P (dep+1) t (.pointer (some a)) (.pointer (some a)) true:=by
 intro α s kk Q Er
 simp only[Op.equalIn,aa,aX tf,cd qM,hs,ne_eq,not_false_eq_true,if_true,sameAddr,beq_self_eq_true,ae]
theorem jpn(hj:J X (nj [] (.bool false) [] o))(hv:fg X.n (pnV X.P X.n) o=some (b,b):=by kernel_rfl)(hB:dS [] o=some []:=by kernel_rfl):J X o:=by
 refine jS (Φ:=fun u L'=>u= .bool false∧L'=[]) [] [] hv hB (fun p e hf=>?_) (fun u L' qi=>by obtain⟨rfl,rfl⟩:=qi;exact hj)
 unfold pnV at hf
 split at hf<;>try (cases hf;done)
 rename_i T x y T2 ay
 split at hf<;>try (cases hf;done)
 rename_i E' _ _ _ dM
 split at hf<;>try (cases hf;done)
 rename_i te tV
 cases hc:Nat.blt 0 te.size with
 |false=>rw[hc] at hf;cases hf
 |true=>
  rw[hc] at hf
  simp only[cond_true] at hf
  split at hf<;>try (cases hf;done)
  rename_i b' hx
  split at hf<;>try (cases hf;done)
  rename_i c' hy
  simp only[Option.some.injEq,Prod.mk.injEq] at hf
  obtain⟨rfl,rfl⟩:=hf
  obtain⟨bw,tf⟩:=av dM
  obtain⟨AX,qM⟩:=av tV
  have hc:0 <te.size:=by rwa[Nat.blt_eq] at hc
  refine⟨by rw[ay];simp,fun R Q Er hQ=>?_⟩
  have hs:te.size≠0:=by omega
  simp only[execOp,ay,aD hx,aD hy,eqGuard,aa,binOp,Op.equal,Op.maxDepth]
  simp only[Bool.not_true,Bool.false_eq_true,if_false,ae,aa]
  rw[ame (dep:=9999) tf qM hs]
  exact hQ _ _ ⟨rfl,rfl⟩
end
attribute [irreducible] smV smA smL smR sdV usV pnV
section
variable {X:Cx} {o:Option JS}
def s0V(P:Program)(n:Nat)(p:Oper)(e:Env):Option (Addr×Nat×Nat):=match p.op with
 | .slice T x none (some y) none=>match aW P T with
  |some ⟨.slice E,_,_,_⟩=>match aW P E with
   |some _=>match bh n e x with
    |some (.slice (some ⟨b,0,none⟩) l c)=>match bh n e y with
     |some (.int .i64 0)=>some (⟨b,0,none⟩,l,c)
     |_=>none
    |_=>none
   |none=>none
  |_=>none
 |_=>none
theorem js0{a:Addr}{l c:Nat}(hj:J X (j8 (.slice (some a) 0 c) o))(hv:dE X.n (s0V X.P X.n) o=some (a,l,c):=by kernel_rfl):J X o:=by
 refine jG hv (fun s p e ho hh hf=>?_) hj
 unfold s0V at hf
 split at hf<;>try (cases hf;done)
 rename_i T x y ay
 split at hf<;>try (cases hf;done)
 rename_i E _ _ _ dM
 split at hf<;>try (cases hf;done)
 rename_i te tV
 split at hf<;>try (cases hf;done)
 rename_i b l' c' hx
 split at hf<;>try (cases hf;done)
 rename_i hy
 simp only[Option.some.injEq,Prod.mk.injEq] at hf
 obtain⟨rfl,rfl,rfl⟩:=hf
 obtain⟨bw,tf⟩:=av dM
 obtain⟨AX,qM⟩:=av tV
 have key:∀s,Yields X.P X.n e p s (.slice (some ⟨b,0,none⟩) 0 c'):=by
  intro s s' ni f hf K E hK
  have hb:(0:Int)≤0∧(0:Int)≤(c':Int):=by omega
  simp only[execOp,ay,Option.map_some,Option.map_none,Instr.sliceAt,Instr.slice,hf _ _ hx,hf _ _ hy,aa,aX tf,Instr.sliceBounds,Instr.sliceBound,asIntOf,ae,hb,and_self,if_true,cd qM]
  have he:(if c'=0 then (some ⟨b,0,none⟩:Option Addr) else some ((⟨b,0,none⟩:Addr).add (0*te.size)))=some ⟨b,0,none⟩:=by
   split
   ·rfl
   simp[dK]
  rw[show (0:Int).toNat=0 from rfl,he]
  exact hK
 exact⟨by rw[ay];rfl,fun _=>key _,fun _=>key⟩
end
attribute [irreducible] s0V
section
variable {X:Cx} {o:Option JS}
def cpV(P:Program)(n:Nat)(p:Oper)(e:Env):Option Nat:=match p.op with
 | .call ⟨.builtin .cap,⟨[x]⟩,⟨[T]⟩⟩=>match aW P T with
  |some ⟨.slice _,_,_,_⟩=>match bh n e x with
   |some (.slice _ _ c)=>some c
   |_=>none
  |_=>none
 |_=>none
theorem jcp{c:Nat}(hj:J X (j8 (.int .i64 (c:Int)) o))(hv:dE X.n (cpV X.P X.n) o=some c:=by kernel_rfl):J X o:=by
 refine jG hv (fun s p e ho hh hf=>?_) hj
 unfold cpV at hf
 split at hf<;>try (cases hf;done)
 rename_i x T ay
 split at hf<;>try (cases hf;done)
 rename_i dM
 split at hf<;>try (cases hf;done)
 rename_i a l c' hx
 simp only[Option.some.injEq] at hf
 subst hf
 obtain⟨bw,tf⟩:=av dM
 have key:∀s,Yields X.P X.n e p s (.int .i64 (c':Int)):=by
  intro s s' ni f hf K E hK
  simp only[execOp,ay,resolve,invoke,builtin,List.map_toArray,List.map_cons,List.map_nil,hf _ _ hx,ae,aa,Builtin.cap_,List.getElem?_toArray,List.getElem?_cons_zero,aX tf]
  exact hK
 exact⟨by rw[ay];rfl,fun _=>key _,fun _=>key⟩
end
attribute [irreducible] cpV
def tkO(is:List Nat)(o:Option JS):List Sg:=(qX is o).getD []
theorem aOz{X:Cx}{ι:Type}(is:List Nat)(p:List Nat)(Ks:List (Act→St→Prop))(ef:ι→Env)(wf:ι→List Sg)(Inv:ι→Prop)(μ:ι→Nat)(i0:ι)(h0:Inv i0)(ps:List Nat)(hb:∀i,Inv i→∀K,wP X K ef (fun i=>wf i++tkO is o) Inv μ (μ i)→∀rest,J X (stW X.P X.fn p (Ks++[K]) (ef i++rest) (wf i++tkO is o)))
 (h1:uz (pw (ef i0)) o=some (ef i0):=by kernel_rfl)(hd:∀i,lkE (pw (ef i)) (ef i)=some (ef i):=by intro _;kernel_rfl)(h2:qX ps o=some (wf i0++tkO is o):=by kernel_rfl)(hp:∀K,IP X.P X.fn p (Ks++[K])=lpB K (xZ o):=by intro _;kernel_rfl):J X o:=
 dW p Ks ef (fun i=>wf i++tkO is o) Inv μ i0 h0 ps hb h1 hd h2 hp
attribute [irreducible] tkO
abbrev RCG(ro:Nat→Option Obj)(Φ:Value→(Nat→Option Obj)→Cells→Prop)(fr:Cells):Ending→St→Prop:=fun en s'=>∃v aI Y,en= .returned v∧Sub ro aI∧(⟨aI,Y++fr⟩:St).le s'∧Φ v aI Y
def avu(P:Program)(f:FuncId)(args:List Value)(ro:Nat→Option Obj)(own:Cells)(Φ:Value→(Nat→Option Obj)→Cells→Prop):Prop:=
 ∀fr,Fn (C0 P) P f ⟨args⟩ ⟨ro,own++fr⟩ (RCG ro Φ fr)
theorem aAd(hm:P.follows .mixedOrders=true){ro:Nat→Option Obj}{L:Cells}(own:List Sg)(kn:Cells)(hk:Knows ro kn)(h:∀fr,J (XC P hm f ro (RCG ro Φ fr)) (kS P f args (own++[.l fr]) kn))(hL:den own=L:=by rfl):avu P f args ro L Φ:=by
 subst hL
 intro fr
 have h:=h fr
 unfold kS at h
 split at h<;>try exact h.elim
 rename_i fn hf
 split at h<;>try exact h.elim
 rename_i c hc
 cases hl:Nat.ble args.length fn.ntmps with
 |false=>rw[hl] at h;exact h.elim
 |true=>
  rw[hl] at h
  have uC:sV P f=fn:=by simp only[sV,hf]
  have:=h hk
  simp only[JP,XC,KQ,uC] at this
  have hd:den (own++[.l fr])=den own++fr:=by rw[lv];rfl
  rw[hd] at this
  exact J9 xq hf hc hl this
section
variable {X:Cx} {o:Option JS}
theorem ak1{vs:List Value}{own:Cells}(ps:List Nat)(hC:∀main T,X.C main T→C0 X.P main T)(hf:avu X.P f vs X.ro own Φ)(hj:∀v aI Y,Sub X.ro aI→Φ v aI Y→J (X.at aI) (nj ps v Y o))(h1:fg X.n (x6 X.P X.n) o=some (f,vs):=by kernel_rfl)(h2:dS ps o=some own:=by kernel_rfl):J X o:=by
 obtain⟨ops,i,todo,k,e,w,kn,p,rfl,ho,hw,hc⟩:=dr h1
 obtain⟨ff,x,xs,at_,fi,ca,ws,ay,hx,rR,rfl⟩:=qE hc
 intro bV
 rcases p with ⟨dst,op,ty,pos,cZ,g⟩
 dsimp only at ay;subst ay
 have hp:=bD h2
 have uC:Fn X.C X.P f ⟨fi++ws++ca⟩ ⟨X.ro,den w⟩ (RCG X.ro Φ (den (dz ps 0 w))):=fun main T hT c cs k1 k2=>
  (X.hC main T hT).mono _ ⟨X.ro,own++den (dz ps 0 w)⟩ _ (dL (J:=[]) (by rw[List.append_nil];exact hp) (Sub.refl _)) (Fn.weaken hC (hf _) main T hT c cs k1 k2)
 refine tR (fi:=⟨fi⟩) (ca:=⟨ca⟩) (ws:=fi++ws++ca) X.hC ho hw hx ff rR (QT fi ws ca) uC (fun v' s' hr=>?_) (fun ch s' hr=>by obtain⟨_,_,_,e,_⟩:=hr;cases e) (fun s' hr=>by obtain⟨_,_,_,e,_⟩:=hr;cases e)
 obtain⟨v,aI,Y,hv,hs,hle,qi⟩:=hr
 cases hv
 have:=hj _ aI Y hs qi
 rw[n9 ho] at this
 have:=this (bV.up hs)
 simp only[JP,gE,HB] at this
 exact this.more X.hC hle
theorem arT{Φ:Value→Cells→Prop}(hq:QR X (RC pz fr Φ))(v:Value)(hs ps:List Nat)(Y:Cells)(fJ:Sub pz X.ro)(hR:Φ v Y)(h1:sS (jQ X.P X.n X.fn hs o)=some v:=by kernel_rfl)(h2:Rw (jQ X.P X.n X.fn hs o)=Rv (jQ X.P X.n X.fn hs o):=by kernel_rfl)(h3:dS ps o=some (Y++fr):=by kernel_rfl)(h4:Cq o=true:=by kernel_rfl):J X o:=
 aE hq v hs ps (Y++fr) fJ ⟨v,Y,rfl,St.le_refl _,hR⟩ h1 h2 h3 h4
theorem aAe{Φ:Value→Cells→Prop}(hq:QR X (RC pz fr Φ))(v:Value)(ps:List Nat)(A B:Cells)(fJ:Sub pz X.ro)(hR:Φ v (A++B))(h1:sS (jQ X.P X.n X.fn [] o)=some v:=by kernel_rfl)(h2:Rw (jQ X.P X.n X.fn [] o)=Rv (jQ X.P X.n X.fn [] o):=by kernel_rfl)(h3:dS ps o=some (A++(B++fr)):=by kernel_rfl)(h4:Cq o=true:=by kernel_rfl):J X o:=
 aE hq v [] ps ((A++B)++fr) fJ ⟨v,A++B,rfl,St.le_refl _,hR⟩ h1 h2 (by rw[h3,List.append_assoc]) h4
theorem aOs(hq:QR X (RCG pz Φ fr))(v:Value)(ps:List Nat)(Y:Cells)(fJ:Sub pz X.ro)(hR:Φ v X.ro Y)(h1:sS (jQ X.P X.n X.fn [] o)=some v:=by kernel_rfl)(h2:Rw (jQ X.P X.n X.fn [] o)=Rv (jQ X.P X.n X.fn [] o):=by kernel_rfl)(h3:dS ps o=some (Y++fr):=by kernel_rfl)(h4:Cq o=true:=by kernel_rfl):J X o:=
 aE hq v [] ps (Y++fr) (Sub.refl _) ⟨v,X.ro,Y,rfl,fJ,St.le_refl _,hR⟩ h1 h2 h3 h4
end
theorem Sj{fn:Func}{c:Code}{R:Ending→St→Prop}{s:St}{os:Os}{out:Array (Nat×ByteArray)}{Post:Value→World→Prop}(hf:P.funcs[f]?=some fn) (hb:fn.body=some c) (hl:Nat.ble args.length fn.ntmps=true) (hi:P.inits.idxOf? f=none)
 (P5:∀v s0 w,R (.returned v) s0→aQ s0 w→w.os=os→w.output=out→Post v w) (HJ:∀ch s,¬R (.panicked ch) s)
 (h:Wp (C0 P) f none c (rq P fn R) (A fn.ntmps (fU 0 args) []) s):T0 P os out Post (G (Frame.enter P f ⟨args⟩ .normal) []) s:=by
 have hT:C0 P true (T0 P os out Post):=⟨rfl,os,out,Post,rfl⟩
 have iM:=sw P os out Post
 let b:Frame:={(default:Frame) with fn:=f,kind:= .normal,roundOf:=none}
 have ij:Frame.enter P f ⟨args⟩ .normal=aJ b (A fn.ntmps (fU 0 args) []) [.code c]:=by
  rw[←kO args fn.ntmps (Nat.le_of_ble_eq_true hl)]
  simp[Frame.enter,aJ,hf,hb,b]
 rw[ij]
 refine h true _ hT b [] [] rfl (by simp[b]) rfl fun e a' s' q=>?_
 have last:∀(todo:List Item),a'.defers=[]→bN P (results fn a'.tmps) s' (fun v s'=>∃s0,s0.le s'∧R (.returned v) s0) (fun _ _=>False)→T0 P os out Post (G {aJ b a' todo with mode:= .returning} []) s':=by
  intro todo hd hr
  refine XO rfl fun w pH tq Ed=>?_
  obtain⟨r,es,bU,hl⟩:=gQ _ _ _ _ w #[] hr pH
  rw[Array.empty_append] at bU
  cases r with
  |ok v w'=>
   obtain⟨s2,ht,s0,hle,hu⟩:=hl
   refine⟨v,w',seen P f es,s2,?_,P5 v s0 w' hu (aQ.of_le hle ht.jK) (ht.os.trans tq) (ht.output.trans Ed),ht.sub (iE _ _ _)⟩
   simp only[aJ,b,G,stepG,unwind,hf,hd,bU,doReturn,hi,GStep.after,Array.append_empty,Bool.not_true,Bool.false_eq_true,if_false]
  |halt _ _=>obtain⟨_,_,hu⟩:=hl;exact hu.elim
 cases e with
 |normal=>exact iM.go rfl rfl (g':=G {aJ b a' [] with mode:= .returning} []) (fun w=>by simp[G,stepG,stepG.exec,aJ,b]) (last _ q.1 q.2)
 |ret=>exact fun todo=>iM.go rfl rfl (g':=G {aJ b a' (.code .ret::todo) with mode:= .returning} []) (fun w=>by simp[G,stepG,stepG.exec,aJ,b]) (last _ q.1 q.2)
 |panic ch=>exact(HJ _ _ q.2).elim
 |exit id=>exact q.elim
 |goto l=>exact q.elim
 |outgrown=>exact q.elim
def ao8(P:Program)(f:FuncId)(args:List Value)(ro:Nat→Option Obj)(Φ:Value→Cells→Prop):Prop:=
 ∀os out (Post:Value→World→Prop),(∀v Y w,Φ v Y→aQ ⟨ro,Y⟩ w→w.os=os→w.output=out→Post v w)→T0 P os out Post (G (Frame.enter P f ⟨args⟩ .normal) []) ⟨ro,[]⟩
theorem aAa(hm:P.follows .mixedOrders=true){ro:Nat→Option Obj}{Φ:Value→Cells→Prop}(hi:P.inits.idxOf? f=none)(kn:Cells)(hk:Knows ro kn)(h:∀fr,J (XC P hm f ro (RC ro fr Φ)) (kS P f args [.l fr] kn)):ao8 P f args ro Φ:=by
 intro os out Post P5
 have h:=h []
 unfold kS at h
 split at h<;>try exact h.elim
 rename_i fn hf
 split at h<;>try exact h.elim
 rename_i c hc
 cases hl:Nat.ble args.length fn.ntmps with
 |false=>rw[hl] at h;exact h.elim
 |true=>
  rw[hl] at h
  have uC:sV P f=fn:=by simp only[sV,hf]
  have:=h hk
  simp only[JP,XC,KQ,uC] at this
  refine Sj hf hc hl hi (fun v s0 w hr pH tq Ed=>?_) (fun ch s hr=>?_) this
  ·obtain⟨v',Y,e,hle,qi⟩:=hr
   cases e
   refine P5 _ Y w qi ?_ tq Ed
   have:=aQ.of_le hle pH
   rwa[List.append_nil] at this
  obtain⟨v',Y,e,_⟩:=hr;cases e
open Go.Proofs
theorem au:Tryz.prog.follows .mixedOrders=true:=by kernel_rfl
theorem zB:(∀a b:Bool,((a&&b)=true)=(a=true∧b=true))∧(∀a b:Bool,((a||b)=true)=(a=true∨b=true))∧(∀a b:Bool,((a&&b)=false)=(a=false∨b=false))∧(∀a b:Bool,((a||b)=false)=(a=false∧b=false))∧(∀b:Bool,((!b)=true)=(b=false))∧(∀b:Bool,((!b)=false)=(b=true))∧(∀(p:Prop) [Decidable p],(decide p=true)=p)∧(∀(p:Prop) [Decidable p],(decide p=false)=¬p)∧((¬True)=False)∧(∀p:Prop,(p∨False)=p)∧(∀p:Prop,(False∨p)=p):=
 ⟨Bool.and_eq_true,Bool.or_eq_true,by simp,by simp,by simp,by simp,by simp,by simp,by simp,by simp,by simp⟩
@[reducible] noncomputable def zT:Program:=Tryz.prog
abbrev zS:Value:= .slice none 0 0
abbrev zP(b:Nat):Value:= .pointer (some ⟨b,0,none⟩)
abbrev zI(n:Int):Value:= .int .i64 n
abbrev zU(n:Int):Value:= .int .u64 n
abbrev zO:List Value:=[zS,zS,zS,zS,zS,zS,zS,zS,zI 0,zI 0,zI 0,zS]
theorem zG(l:List α)(k:Nat)(h:k <l.length:=by omega):∃x,l[k]?=some x:=⟨_,List.getElem?_eq_getElem h⟩
theorem zJ{X:Cx}(t:Nat)(p:Prop)[Decidable p](h1:p→J X (N9 t (.bool true) o))(h2:¬p→J X (N9 t (.bool false) o))(hv:I3 t o=some (.bool (decide p)):=by kernel_rfl):J X o:=
 js t (decide p) (fun h=>h1 (of_decide_eq_true h)) (fun h=>h2 (of_decide_eq_false h)) hv
theorem zD{X:Cx}(k:Nat)(h:J X (res (adv X.P X.n k [] o)))(he:lhs (adv X.P X.n k [] o)=rhs (adv X.P X.n k [] o):=by kernel_rfl):J X o:=jd k [] h he
def iu(n lo hi:Int):Bool:=decide (lo≤n)&&decide (n≤hi)
theorem eB{ro:Nat→Option Obj}:de zT 44 [zI n,zI lo,zI hi] ro (.bool (iu n lo hi)):=by
 refine bA au [] [] a8<|zD 10<|jj 4 [(6,.bool false),(14,.bool ((decide (lo≤n))&&(decide (n≤hi))))] (fun gT=>?_) (fun hj=>?_)
 rotate_left
 refine js 10 (decide (lo≤n)) (fun h1=>?_) (fun h1=>?_)
 ·
  have gx:=h1
  replace gx:=of_decide_eq_true gx
  refine zD 4<|jw 14 (.bool ((decide (lo≤n))&&(decide (n≤hi)))) (w:= .bool (decide (n≤hi))) (by rw[h1]<;>rfl) ?_
  exact hj _ (by kernel_rfl) (by kernel_rfl)
 ·
  have gx:=h1
  replace gx:=of_decide_eq_false gx
  refine zD 4<|jw 14 (.bool ((decide (lo≤n))&&(decide (n≤hi)))) (w:= .bool false) (by rw[h1]<;>rfl) ?_
  exact hj _ (by kernel_rfl) (by kernel_rfl)
 refine zD 3<|aE q0 (.bool ((decide (lo≤n))&&(decide (n≤hi)))) [] [] [] (Sub.refl _) ⟨_,_,rfl,rfl,rfl,rfl⟩
theorem jb{ro:Nat→Option Obj}:de zT 211 [zI n,zI lo,zI hi] ro (.bool (iu n lo hi)):=by
 refine bA au [] [] a8<|zD 10<|jj 4 [(6,.bool false),(14,.bool ((decide (lo≤n))&&(decide (n≤hi))))] (fun gT=>?_) (fun hj=>?_)
 rotate_left
 refine js 10 (decide (lo≤n)) (fun h1=>?_) (fun h1=>?_)
 ·
  have gx:=h1
  replace gx:=of_decide_eq_true gx
  refine zD 4<|jw 14 (.bool ((decide (lo≤n))&&(decide (n≤hi)))) (w:= .bool (decide (n≤hi))) (by rw[h1]<;>rfl) ?_
  exact hj _ (by kernel_rfl) (by kernel_rfl)
 ·
  have gx:=h1
  replace gx:=of_decide_eq_false gx
  refine zD 4<|jw 14 (.bool ((decide (lo≤n))&&(decide (n≤hi)))) (w:= .bool false) (by rw[h1]<;>rfl) ?_
  exact hj _ (by kernel_rfl) (by kernel_rfl)
 refine zD 3<|aE q0 (.bool ((decide (lo≤n))&&(decide (n≤hi)))) [] [] [] (Sub.refl _) ⟨_,_,rfl,rfl,rfl,rfl⟩
def bG(p:α→Bool):List α→Nat→Int
 | [],_=> -1
 |x::l,k=>bif p x then k else bG p l (k+1)
theorem fN{l:List α}{x:α}(h:l[k]?=some x):l.drop k=x::l.drop (k+1):=by
 obtain⟨h1,h2⟩:=List.getElem?_eq_some_iff.1 h
 rw[List.drop_eq_getElem_cons h1,h2]
theorem eA{l:List α}(h:¬k <l.length):l.drop k=[]:=List.drop_eq_nil_of_le (by omega)
theorem gH{p:α→Bool}{l:List α}{x:α}(h:l[k]?=some x):bG p (l.drop k) k=bif p x then (k:Int) else bG p (l.drop (k+1)) (k+1):=by rw[fN h];rfl
theorem mU{p:α→Bool}{l:List α}(h:¬k <l.length):bG p (l.drop k) k= -1:=by rw[eA h];rfl
abbrev cv(x:Int):List Value:=[zI x]
theorem SW{v:Value}{ro:Nat→Option Obj}(hl:bE ro v 1 cv xs)(hn:xs.length≤1000000):de zT 24 [v,zI n] ro (zI (bG (fun y=>decide (y=n)) xs 0)):=by
 obtain⟨fI,rM,rK,eX,rfl,tG,lG,mH⟩:=hl
 refine bA au [] [] a8<|zD 10<|dW [1,0,1,0,0] [] (fun(zz:Nat)=>[(0,.slice fI xs.length eX),(1,zI n),(5,zI (zz:Int))]) (fun(zz:Nat)=>[]) (fun(zz:Nat)=>zz≤xs.length∧bG (fun y=>decide (y=n)) xs 0=bG (fun y=>decide (y=n)) (xs.drop zz) zz) (fun(zz:Nat)=>xs.length-zz) 0 ⟨by omega,rfl⟩ [] ?_
 rintro k hI K1 bK rest
 refine zD 8<|zJ 9 ((k:Int) <(xs.length:Int)) (fun h1=>?_) fun h1=>?_
 ·
  refine zD 8 ?_
  obtain⟨dZ,dw⟩:=zG xs k
  refine iK eX 1 lG dw<|jl 0 (mH _ _ dw)<|zD 3<|zJ 17 (dZ=n) (fun h2=>?_) fun h2=>?_
  ·
   refine zD 7<|aE q0 (zI (k:Int)) [] [] [] (Sub.refl _) ⟨_,_,rfl,rfl,by rw[hI.2,gH dw];simp[*],rfl⟩
  refine zD 4<|ja ((k:Int)+1) (by omega)<|zD 2<|bO bK (k+1) ⟨by omega,by rw[hI.2,gH dw];simp[*]⟩ (by omega) [] (Sub.refl _)
 refine zD 7<|aE q0 (zI (-1)) [] [] [] (Sub.refl _) ⟨_,_,rfl,rfl,by rw[hI.2,mU (by omega)],rfl⟩
def dt(n:Nat):List Int:=(List.range n).map fun(i:Nat)=>(i:Int)
theorem vx(n:Nat):dt (n+1)=dt n++[(n:Int)]:=by simp[dt,List.range_succ]
theorem lF(n:Nat):(dt n).length=n:=by simp[dt]
def bJ(v:Value)(xs:List Int)(d:Nat)(X:Cells):Prop:=∃(k:Nat) (cH:Int),k≤xs.length∧X=[(d,.cells ⟨[v,zI k,zU cH]⟩ 70 (0,0))]
def Dn(ro:Nat→Option Obj)(v:Value)(xs:List Int):Prop:=bE ro v 1 cv xs∧xs.length≤4611686018427387904
theorem Dn.up{ro:Nat→Option Obj}{v:Value}(h:Dn ro v xs)(hs:Sub ro aI):Dn aI v xs:=⟨h.1.up hs,h.2⟩
theorem toNonzero(h0:¬n <1)(h1:n≤1000000):IntKind.u64.wrap (n+1)≠0:=by
 rw[sg .u64 rfl _ (by omega) (by simp[IntKind.bits];omega)];omega
theorem toRange{w:Int}(h0:¬n <1)(h1:n≤1000000)(hw:0≤w):0≤IntKind.i64.wrap (Int.tmod (aR .u64 w 16) (IntKind.u64.wrap (n+1)))∧IntKind.i64.wrap (Int.tmod (aR .u64 w 16) (IntKind.u64.wrap (n+1)))≤n:=by
 have e:IntKind.u64.wrap (n+1)=n+1:=sg .u64 rfl _ (by omega) (by simp[IntKind.bits];omega)
 rw[e]
 have h2:0≤aR .u64 w 16:=Int.fdiv_nonneg hw (by decide)
 have h3:=Int.tmod_nonneg (n+1) h2
 have h4:=Int.tmod_lt_of_pos (aR .u64 w 16) (show 0 <n+1 by omega)
 rw[kz _ (by omega)]
 omega
theorem aT4{ro:Nat→Option Obj}(hN:Dn ro vd xs)(hD:bJ vd xs d X):eE zT 42 [zP d] ro X (fun r Y=>∃w:Int,r= zU w∧0≤w∧w <18446744073709551616∧bJ vd xs d Y):=by
 obtain⟨k,cH,hk,rfl⟩:=hD
 obtain⟨hl,hn⟩:=hN
 obtain⟨fI,rM,rK,eX,rfl,tG,lG,mH⟩:=hl
 refine bA au [.b d (.cells ⟨[.slice fI xs.length eX,zI (k:Int),zU cH]⟩ 70 (0,0))] [] a8<|jd 19 [0,0]<|aO 13 fun Dz DJ Bn=>jd 1 [0]<|jA Bn []<|jd 16 [0,0]<|aO 13 fun Dy DI Ck=>jd 1 [0]<|jA Ck []<|jd 16 [0,0]<|aO 13 fun tv tx rY=>jd 1 [0]<|jA rY []<|jd 15 [0,0]<|zJ 52 ((k:Int) <(xs.length:Int)) (fun h4=>?_) fun h4=>?_
 ·
  refine jd 16 [0,0,0] ?_
  obtain⟨x66,Gh⟩:=zG xs k
  refine iK eX 1 lG Gh<|jl 0 (mH _ _ Gh)<|zD 5<|aO 20 fun uM uO sR=>jd 1 [0]<|jA sR []<|jd 6 [0]<|ja ((k:Int)+1) (by omega)<|jd 30 [0,0]<|aE q0 (zU (cT .u64 (IntKind.u64.wrap ((cT .u64 (IntKind.u64.wrap ((cT .u64 (cT .u64 (cT .u64 cH (dv .u64 cH 13)) (aR .u64 (cT .u64 cH (dv .u64 cH 13)) 7)) (dv .u64 (cT .u64 (cT .u64 cH (dv .u64 cH 13)) (aR .u64 (cT .u64 cH (dv .u64 cH 13)) 7)) 17))+(IntKind.u64.wrap ((IntKind.u64.wrap x66)*13787848793156543929)))) (aR .u64 (IntKind.u64.wrap ((cT .u64 (cT .u64 (cT .u64 cH (dv .u64 cH 13)) (aR .u64 (cT .u64 cH (dv .u64 cH 13)) 7)) (dv .u64 (cT .u64 (cT .u64 cH (dv .u64 cH 13)) (aR .u64 (cT .u64 cH (dv .u64 cH 13)) 7)) 17))+(IntKind.u64.wrap ((IntKind.u64.wrap x66)*13787848793156543929)))) 30))*10723151780598845931)) (aR .u64 (IntKind.u64.wrap ((cT .u64 (IntKind.u64.wrap ((cT .u64 (cT .u64 (cT .u64 cH (dv .u64 cH 13)) (aR .u64 (cT .u64 cH (dv .u64 cH 13)) 7)) (dv .u64 (cT .u64 (cT .u64 cH (dv .u64 cH 13)) (aR .u64 (cT .u64 cH (dv .u64 cH 13)) 7)) 17))+(IntKind.u64.wrap ((IntKind.u64.wrap x66)*13787848793156543929)))) (aR .u64 (IntKind.u64.wrap ((cT .u64 (cT .u64 (cT .u64 cH (dv .u64 cH 13)) (aR .u64 (cT .u64 cH (dv .u64 cH 13)) 7)) (dv .u64 (cT .u64 (cT .u64 cH (dv .u64 cH 13)) (aR .u64 (cT .u64 cH (dv .u64 cH 13)) 7)) 17))+(IntKind.u64.wrap ((IntKind.u64.wrap x66)*13787848793156543929)))) 30))*10723151780598845931)) 31))) [] [0] [(d,.cells ⟨[.slice fI xs.length eX,zI ((k:Int)+1),zU (IntKind.u64.wrap ((cT .u64 (cT .u64 (cT .u64 cH (dv .u64 cH 13)) (aR .u64 (cT .u64 cH (dv .u64 cH 13)) 7)) (dv .u64 (cT .u64 (cT .u64 cH (dv .u64 cH 13)) (aR .u64 (cT .u64 cH (dv .u64 cH 13)) 7)) 17))+(IntKind.u64.wrap ((IntKind.u64.wrap x66)*13787848793156543929))))]⟩ 70 (0,0))] (Sub.refl _) ⟨_,_,rfl,rfl,_,rfl,(tT _ _).1,(tT _ _).2,k+1,_,(by omega),rfl⟩
 refine jd 28 [0]<|aE q0 (zU (cT .u64 (IntKind.u64.wrap ((cT .u64 (cT .u64 (cT .u64 (cT .u64 cH (dv .u64 cH 13)) (aR .u64 (cT .u64 cH (dv .u64 cH 13)) 7)) (dv .u64 (cT .u64 (cT .u64 cH (dv .u64 cH 13)) (aR .u64 (cT .u64 cH (dv .u64 cH 13)) 7)) 17)) (aR .u64 (cT .u64 (cT .u64 (cT .u64 cH (dv .u64 cH 13)) (aR .u64 (cT .u64 cH (dv .u64 cH 13)) 7)) (dv .u64 (cT .u64 (cT .u64 cH (dv .u64 cH 13)) (aR .u64 (cT .u64 cH (dv .u64 cH 13)) 7)) 17)) 30))*10723151780598845931)) (aR .u64 (IntKind.u64.wrap ((cT .u64 (cT .u64 (cT .u64 (cT .u64 cH (dv .u64 cH 13)) (aR .u64 (cT .u64 cH (dv .u64 cH 13)) 7)) (dv .u64 (cT .u64 (cT .u64 cH (dv .u64 cH 13)) (aR .u64 (cT .u64 cH (dv .u64 cH 13)) 7)) 17)) (aR .u64 (cT .u64 (cT .u64 (cT .u64 cH (dv .u64 cH 13)) (aR .u64 (cT .u64 cH (dv .u64 cH 13)) 7)) (dv .u64 (cT .u64 (cT .u64 cH (dv .u64 cH 13)) (aR .u64 (cT .u64 cH (dv .u64 cH 13)) 7)) 17)) 30))*10723151780598845931)) 31))) [] [0] [(d,.cells ⟨[.slice fI xs.length eX,zI (k:Int),zU (cT .u64 (cT .u64 (cT .u64 cH (dv .u64 cH 13)) (aR .u64 (cT .u64 cH (dv .u64 cH 13)) 7)) (dv .u64 (cT .u64 (cT .u64 cH (dv .u64 cH 13)) (aR .u64 (cT .u64 cH (dv .u64 cH 13)) 7)) 17))]⟩ 70 (0,0))] (Sub.refl _) ⟨_,_,rfl,rfl,_,rfl,(tT _ _).1,(tT _ _).2,k,_,(by omega),rfl⟩
theorem Em{ro:Nat→Option Obj}(hN:Dn ro vd xs)(hD:bJ vd xs d X)(hn:n≤1000000):eE zT 10 [zP d,zI n] ro X (fun r Y=>∃w:Int,r= zI w∧0≤w∧(w≤n∨w=0)∧bJ vd xs d Y):=by
 refine bA au [.l X] [] a8<|zD 10<|zJ 6 (n <1) (fun h1=>?_) fun h1=>?_
 ·
  refine zD 6<|aE q0 (zI 0) [] [0] X (Sub.refl _) ⟨_,_,rfl,rfl,_,rfl,(by omega),(by omega),hD⟩
 refine zD 5<|jc [0] (aT4 hN hD) ?_
 rintro _ X8 ⟨w8,rfl,hw8,hx8,hD8⟩
 refine zD 2<|ja (n+1) (by omega)<|zD 1<|jrm (k:= .u64) (a:=(aR .u64 w8 16)) (b:=(IntKind.u64.wrap (n+1))) 68 (toNonzero h1 hn)<|zD 4<|aE q0 (zI (IntKind.i64.wrap (Int.tmod (aR .u64 w8 16) (IntKind.u64.wrap (n+1))))) [] [0] X8 (Sub.refl _) ⟨_,_,rfl,rfl,_,rfl,(toRange h1 hn hw8).1,.inl (toRange h1 hn hw8).2,hD8⟩
theorem AQ{ro:Nat→Option Obj}(hN:Dn ro vd xs)(hD:bJ vd xs d X)(Aw: -1000≤lo∧lo≤1000)(hhi: -1000≤hi∧hi≤1000):eE zT 32 [zP d,zI lo,zI hi] ro X (fun r Y=>∃w:Int,r= zI w∧lo≤w∧(w≤hi∨w=lo)∧bJ vd xs d Y):=by
 refine bA au [.l X] [] a8<|zD 10<|ja (hi-lo) (by omega)<|jc (vs:=[zP d,zI (hi-lo)]) [0] (Em hN hD (by omega)) ?_
 rintro _ X12 ⟨w12,rfl,bdx,qk,aTt⟩
 refine ja (lo+w12) (by omega)<|zD 3<|aE q0 (zI (lo+w12)) [] [0] X12 (Sub.refl _) ⟨_,_,rfl,rfl,_,rfl,(by omega),(by omega),aTt⟩
theorem sY{ro:Nat→Option Obj}(hN:Dn ro vd xs)(hD:bJ vd xs d X)(hn:0≤n∧n≤1000):eE zT 27 [zP d,zI n] ro X (fun r Y=>∃w:Bool,r= .bool w∧bJ vd xs d Y):=by
 refine bA au [.l X] [] a8<|zD 8<|ja (n-1) (by omega)<|jc (vs:=[zP d,zI (n-1)]) [0] (Em hN hD (by omega)) ?_
 rintro _ X8 ⟨w8,rfl,hw8,hx8,hD8⟩
 refine zD 4<|aE q0 (.bool (decide (w8=0))) [] [0] X8 (Sub.refl _) ⟨_,_,rfl,rfl,_,rfl,hD8⟩
def bs(l:List Nat):ByteArray:=⟨(l.map UInt8.ofNat).toArray⟩
abbrev pN(x:ByteArray):List Value:=[.string x]
structure cM where
 f:ByteArray
 t:ByteArray
abbrev jI(x:cM):List Value:=[.string x.f,.string x.t]
structure aG where
 name:ByteArray
 st:Int
 no:Int
 head:Int
 bold:Bool
abbrev fe(x:aG):List Value:=[.string x.name,.int .i64 x.st,.int .i64 x.no,.int .i64 x.head,.bool x.bold]
structure fF where
 a:Int
 b:Int
 same:Bool
variable {fs:List fF}
abbrev wA(x:fF):List Value:=[.int .i64 x.a,.int .i64 x.b,.bool x.same]
structure bM where
 name:ByteArray
 under:Int
variable {cs:List bM}
abbrev oZ(x:bM):List Value:=[.string x.name,.int .i64 x.under]
structure aL where
 k:Int
 st:Int
 ot:Int
 fn:Int
 fl:Int
 tn:Int
 tl:Int
abbrev mV(x:aL):List Value:=[.int .i64 x.k,.int .i64 x.st,.int .i64 x.ot,.int .i64 x.fn,.int .i64 x.fl,.int .i64 x.tn,.int .i64 x.tl]
theorem nG{ps:List α}{x y:α}(h1:ps[i]?=some x) (h2:ps[k]?=some y):((ps.set i y).set k x).Perm ps:=by
 obtain⟨a,rfl⟩:=List.getElem?_eq_some_iff.1 h1
 obtain⟨b,rfl⟩:=List.getElem?_eq_some_iff.1 h2
 exact List.set_set_perm a b
theorem ahe{ys:List Int}{ro:Nat→Option Obj}(hN:Dn ro vd xs)(hD:bJ vd xs d X)(hm:bE ro vm 1 cv ys)(hy:0 <ys.length∧ys.length≤1000):eE zT 33 [zP d,vm] ro X (fun r Y=>∃w:Int,r= zI w∧w∈ys∧bJ vd xs d Y):=by
 obtain⟨qma,qmb,qmo,qmc,rfl,qmk,qmh,qml⟩:=hm
 refine bA au [.l X] [] a8<|zD 10<|ja ((ys.length:Int)-1) (by omega)<|jc (vs:=[zP d,zI ((ys.length:Int)-1)]) [0] (Em hN hD (by omega)) ?_
 rintro _ X10 ⟨w10,rfl,aed,rQ,TV⟩
 obtain⟨x11,S9⟩:=zG ys (w10.toNat)
 refine Nk w10 qmc 1 qmh S9 (by omega)<|jl 0 (qml _ _ S9)<|zD 3<|aE q0 (zI x11) [] [0] X10 (Sub.refl _) ⟨_,_,rfl,rfl,_,rfl,List.mem_of_getElem? S9,TV⟩
theorem W8{ys:List ByteArray}{ro:Nat→Option Obj}(hN:Dn ro vd xs)(hD:bJ vd xs d X)(hm:bE ro vm 1 pN ys)(hy:0 <ys.length∧ys.length≤1000):eE zT 71 [zP d,vm] ro X (fun r Y=>∃w:ByteArray,r= .string w∧w∈ys∧bJ vd xs d Y):=by
 obtain⟨qma,qmb,qmo,qmc,rfl,qmk,qmh,qml⟩:=hm
 refine bA au [.l X] [] a8<|zD 10<|ja ((ys.length:Int)-1) (by omega)<|jc (vs:=[zP d,zI ((ys.length:Int)-1)]) [0] (Em hN hD (by omega)) ?_
 rintro _ X10 ⟨w10,rfl,aed,rQ,TV⟩
 obtain⟨x11,S9⟩:=zG ys (w10.toNat)
 refine Nk w10 qmc 1 qmh S9 (by omega)<|jl 0 (qml _ _ S9)<|zD 3<|aE q0 (.string x11) [] [0] X10 (Sub.refl _) ⟨_,_,rfl,rfl,_,rfl,List.mem_of_getElem? S9,TV⟩
theorem ahd{n:Nat}{ro:Nat→Option Obj}(hN:Dn ro vd xs)(hD:bJ vd xs d X)(hn:n≤100):eE zT 13 [zP d,zI (n:Int)] ro X (fun r Y=>∃(ps:List Int) (L X':Cells),aA r 1 3 cv ps L∧ps.Perm (dt n)∧Y=L++X'∧bJ vd xs d X'):=by
 refine bA au [.l X] [] a8<|zD 14<|pE<|dW [1,1,0,1,0,0] [] (fun(zz:Nat×Value×Cells)=>[(0,zP d),(1,zI (n:Int)),(4,zS),(5,zz.2.1),(6,zI (zz.1:Int))]) (fun(zz:Nat×Value×Cells)=>[.l zz.2.2,.l X]) (fun(zz:Nat×Value×Cells)=>zz.1≤n∧aA zz.2.1 1 3 cv (dt zz.1) zz.2.2) (fun(zz:Nat×Value×Cells)=>n-zz.1) (⟨0,zS,[]⟩) ⟨by omega,aA.nil _ _ _⟩ [0,1] ?_
 rintro⟨k,v,L⟩ hI K1 bK rest
 dsimp only at hI
 refine zD 7<|zJ 12 ((k:Int) <(n:Int)) (fun h1=>?_) fun h1=>?_
 ·
  refine zD 7<|jn fun b17=>kL (sz:=1) (ps:=dt k) (qs:=[(k:Int)]) (enc:=cv) (w:= .slice (some ⟨b17,0,none⟩) 1 1) [1] [0] [(b17,.cells ⟨([(k:Int)].map cv).flatten⟩ 3 (0,0))] (hI.2) (fun s _ hZ=>cb [(k:Int)] (hZ _ (.head _)) (by intro p hp;rfl)) (fun p _=>ar rfl) (by simp[dt];omega) (fun v18 L18 aeH=>?_)
  obtain⟨apL,ajg,Tx⟩:=aeH.form
  subst Tx
  refine zD 4<|ja ((k:Int)+1) (by omega)<|zD 2<|bO bK (⟨k+1,(.slice apL ((dt k++[(k:Int)])).length ajg),L18⟩) ⟨by omega,by rw[vx];exact aeH⟩ (by omega) [0,2] (Sub.refl _)
 refine zD 6<|ja ((n:Int)-1) (by omega)<|zD 3<|dW [1,1,1,0,1,0,0] [] (fun(zz:Int×Value×Cells×(List Int)×Cells)=>[(0,zP d),(4,zS),(5,zz.2.1),(7,zI zz.1)]) (fun(zz:Int×Value×Cells×(List Int)×Cells)=>[.l zz.2.2.1,.l zz.2.2.2.2]) (fun(zz:Int×Value×Cells×(List Int)×Cells)=>(-1≤zz.1∧zz.1 <n)∧aA zz.2.1 1 3 cv zz.2.2.2.1 zz.2.2.1∧zz.2.2.2.1.Perm (dt n)∧bJ vd xs d zz.2.2.2.2) (fun(zz:Int×Value×Cells×(List Int)×Cells)=>zz.1.toNat) (⟨(n:Int)-1,v,L,dt k,X⟩) ⟨by omega,hI.2,(by rw[show k=n by omega]),hD⟩ [0,1] ?_
 rintro⟨j,v,L,ps,X⟩ Mt K2 lg rest
 dsimp only at Mt
 have hlen:ps.length=n:=by rw[Mt.2.2.1.length_eq,lF]
 refine zD 6<|zJ 22 (j>0) (fun h2=>?_) fun h2=>?_
 ·
  refine zD 8<|jc (vs:=[zP d,zI j]) [1] (Em hN Mt.2.2.2 (by omega)) ?_
  rintro _ X27 ⟨w27,rfl,bdt,Ip,aTo⟩
  refine zD 6 ?_
  obtain⟨oP,ki⟩:=zG ps (j.toNat)
  refine qh j 1 Mt.2.1 ki (by omega) fun b30 TD=>oQ 0 [1] L (fun s _ hZ=>cD Mt.2.1 TD hZ ki)<|zD 8 ?_
  obtain⟨x36,yJ⟩:=zG ps (w27.toNat)
  refine qh w27 1 Mt.2.1 yJ (by omega) fun dH atX=>oQ 0 [1] L (fun s _ hZ=>cD Mt.2.1 atX hZ yJ) ?_
  obtain⟨x38,Me⟩:=zG ps (j.toNat)
  refine qh j 1 Mt.2.1 Me (by omega) fun b38 aRZ=>Re 1 0 [zI x36] x36 Mt.2.1 aRZ Me rfl rfl (Nat.le_of_ble_eq_true rfl) fun L3 ho4=>zD 5 ?_
  obtain⟨x42,S7⟩:=zG ((ps.set j.toNat x36)) (w27.toNat) (by first|omega| (simp only[List.length_set,List.length_append,List.length_cons,List.length_nil];omega))
  refine qh w27 1 ho4 S7 (by omega) fun b42 aRX=>Re 0 0 [zI oP] oP ho4 aRX S7 rfl rfl (Nat.le_of_ble_eq_true rfl) fun L5 ho6=>zD 3<|ja (j-1) (by omega)<|zD 2<|bO lg (⟨j-1,v,L5,((ps.set j.toNat x36).set w27.toNat oP),X27⟩) ⟨by omega,ho6,(nG ki yJ).trans Mt.2.2.1,aTo⟩ (by omega) [0,1] (Sub.refl _)
 refine zD 8<|aE q0 (v) [] [0,1] (L++X) (Sub.refl _) ⟨_,_,rfl,rfl,_,_,_,Mt.2.1,Mt.2.2.1,rfl,Mt.2.2.2⟩
theorem Qs(p:Int→Bool)(k:Nat):(dt (k+1)).filter p=bif p (k:Int) then (dt k).filter p++[(k:Int)] else (dt k).filter p:=by
 rw[vx,List.filter_append]
 cases h:p (k:Int)<;>simp[h]
theorem p7{n:Nat}{x:Int}(h:x∈dt n):0≤x∧x <n:=by
 simp only[dt,List.mem_map,List.mem_range] at h
 obtain⟨i,h1,rfl⟩:=h
 omega
theorem rI(n:Nat):(dt n).Pairwise (· < ·):=by
 simp only[dt]
 rw[List.pairwise_map]
 exact List.pairwise_lt_range.imp fun h=>by omega
theorem yW(x:Int)(l:List Int)(k:Nat):x∈l→(k:Int)≤bG (fun y=>decide (y=x)) l k∧∃i,bG (fun y=>decide (y=x)) l k=k+i∧l[i.toNat]?=some x∧0≤i:=by
 induction l generalizing k with
 |nil=>intro h;cases h
 |cons y l ih=>
  intro h
  by_cases e:y=x
  ·subst e
   simp only[bG,decide_true,cond_true]
   exact⟨Int.le_refl _,0,by simp,by simp,by simp⟩
  simp only[bG,e,decide_false,cond_false]
  obtain⟨h1,i,h2,h3,h4⟩:=ih (k+1) ((List.mem_cons.1 h).resolve_left fun e2=>e e2.symm)
  refine⟨by omega,i+1,by rw[h2];omega,?_,by omega⟩
  rw[show (i+1).toNat=i.toNat+1 by omega]
  simpa using h3
theorem acm{q:List Int}{n:Nat}(hq:q.Perm (dt n)):((dt n).filter fun i=>decide (bG (fun y=>decide (y=i)) q 0 <many)).length≤many.toNat:=by
 have iX:∀x,x∈dt n→x∈q:=fun x hx=>hq.mem_iff.2 hx
 have h1:(((dt n).filter fun i=>decide (bG (fun y=>decide (y=i)) q 0 <many)).map fun i=>bG (fun y=>decide (y=i)) q 0).Nodup:=by
  rw[List.nodup_iff_pairwise_ne,List.pairwise_map]
  refine((rI n).filter _).imp_of_mem fun {a b} ha hb Bm e=>?_
  obtain⟨_,i,e1,g1,_⟩:=yW a q 0 (iX a ((List.mem_filter.1 ha).1))
  obtain⟨_,j,e2,g2,_⟩:=yW b q 0 (iX b ((List.mem_filter.1 hb).1))
  have:i=j:=by omega
  subst this
  rw[g1] at g2
  cases g2
  omega
 have h2:=wZ (l₂:=dt many.toNat) h1 fun x hx=>by
  obtain⟨i,h3,rfl⟩:=List.mem_map.1 hx
  obtain⟨h4,h5⟩:=List.mem_filter.1 h3
  have h6:=of_decide_eq_true h5
  obtain⟨h7,_⟩:=yW i q 0 (iX i h4)
  simp only[dt,List.mem_map,List.mem_range]
  exact⟨(bG (fun y=>decide (y=i)) q 0).toNat,by omega,by omega⟩
 simpa [lF] using h2
theorem IC(p:α→Bool)(l:List α):(l.filter p).length≤l.length:=List.length_filter_le p l
theorem aFR{n:Nat}{ro:Nat→Option Obj}(hN:Dn ro vd xs)(hD:bJ vd xs d X)(hn:n≤100):eE zT 69 [zP d,zI (n:Int),zI many] ro X (fun r Y=>∃(ps:List Int) (L X':Cells),aA r 1 3 cv ps L∧ps.length≤many.toNat∧ps.Pairwise (· < ·)∧(∀x∈ps,0≤x∧x <n)∧Y=L++X'∧bJ vd xs d X'):=by
 refine bA au [.l X] [] a8<|zD 8<|jc (vs:=[zP d,zI (n:Int)]) [0] (ahd hN hD (by first|omega|decide)) ?_
 rintro v13 _ ⟨Yl,L13,X13,Tn,Y3,rfl,alX⟩
 refine jg 0 [.l L13,.l X13]<|zD 12<|pE<|dW [1,1,1,0,1,0,0] [] (fun(zz:Nat×Value×Cells)=>[(1,zI (n:Int)),(2,zI many),(6,zS),(7,v13),(8,zz.2.1),(9,zI (zz.1:Int))]) (fun(zz:Nat×Value×Cells)=>[.l zz.2.2,.l L13,.l X13]) (fun(zz:Nat×Value×Cells)=>zz.1≤n∧aA zz.2.1 1 3 cv ((dt zz.1).filter (fun i=>decide (bG (fun y=>decide (y=i)) Yl 0 <many))) zz.2.2) (fun(zz:Nat×Value×Cells)=>n-zz.1) (⟨0,zS,[]⟩) ⟨by omega,aA.nil _ _ _⟩ [0,1,2] ?_
 rintro⟨k,v,L⟩ hI K1 bK rest
 dsimp only at hI
 have hlen:Yl.length=n:=by rw[Y3.length_eq,lF]
 have uV:=IC (fun i=>decide (bG (fun y=>decide (y=i)) Yl 0 <many)) (dt k)
 rw[lF] at uV
 refine zD 7<|zJ 16 ((k:Int) <(n:Int)) (fun h1=>?_) fun h1=>?_
 ·
  refine zD 8<|jp (vs:=[v13,zI (k:Int)]) [1] L13 (fun aB hs hZ=>SW (Tn.lR hZ) (by first|omega| (simp only[List.length_set,List.length_append,List.length_cons,List.length_nil];omega))) ?_
  refine zD 8<|zJ 24 ((bG (fun y=>decide (y=(k:Int))) Yl 0) <many) (fun h2=>?_) fun h2=>?_
  ·
   refine zD 4<|jn fun b27=>kL (sz:=1) (ps:=((dt k).filter (fun i=>decide (bG (fun y=>decide (y=i)) Yl 0 <many)))) (qs:=[(k:Int)]) (enc:=cv) (w:= .slice (some ⟨b27,0,none⟩) 1 1) [1] [0] [(b27,.cells ⟨([(k:Int)].map cv).flatten⟩ 3 (0,0))] (hI.2) (fun s _ hZ=>cb [(k:Int)] (hZ _ (.head _)) (by intro p hp;rfl)) (fun p _=>ar rfl) (by simp only[List.length_cons,List.length_nil];omega) (fun v28 L28 aeD=>?_)
   obtain⟨aKQ,aKr,Zj⟩:=aeD.form
   subst Zj
   refine zD 4<|ja ((k:Int)+1) (by omega)<|zD 2<|bO bK (⟨k+1,(.slice aKQ ((((dt k).filter (fun i=>decide (bG (fun y=>decide (y=i)) Yl 0 <many)))++[(k:Int)])).length aKr),L28⟩) ⟨by omega,by rw[Qs,decide_eq_true h2];exact aeD⟩ (by omega) [0,2,3] (Sub.refl _)
  refine zD 4<|ja ((k:Int)+1) (by omega)<|zD 2<|bO bK (⟨k+1,v,L⟩) ⟨by omega,by rw[Qs,decide_eq_false h2];exact hI.2⟩ (by omega) [0,1,2] (Sub.refl _)
 refine zD 8<|aE q0 (v) [] [0,2] (L++X13) (Sub.refl _) ⟨_,_,rfl,rfl,_,_,_,hI.2,by rw[show k=n by omega];exact acm Y3,(rI k).filter _,fun x hx=>by have:=p7 ((List.mem_filter.1 hx).1);omega,rfl,alX⟩
def aoL:List ByteArray:=[bs [101],bs [121],bs [115,104],bs [97],bs [110,110],bs [116,104],bs [109]]
def toW:List ByteArray:=[bs [],bs [105],bs [115],bs [116],bs [97,101],bs [106],bs [110]]
def Hz(r:cM):Prop:=r.f∈aoL∧r.t∈toW
def jv(c:aL):Prop:=c∈[(⟨1,0,0,0,0,0,0⟩:aL),⟨2,0,0,0,0,0,0⟩,⟨1,1,0,0,0,0,0⟩,⟨2,1,0,0,0,0,0⟩,⟨4,1,0,0,0,0,0⟩]
theorem qH{p:α→Prop}{l:List α}{x:α}(h:∀y∈l,p y)(hx:p x):∀y∈l++[x],p y:=fun y hy=>by
 rcases List.mem_append.1 hy with h1|h1
 ·exact h y h1
 rw[List.mem_singleton] at h1;subst h1;exact hx
theorem au2{ro:Nat→Option Obj}(hN:Dn ro vd xs)(hD:bJ vd xs d X)(hn:0≤many∧many≤100):eE zT 29 [zP d,zI many] ro X (fun r Y=>∃(ps:List cM) (L X':Cells),aA r 2 84 jI ps L∧ps.length≤many∧(∀r∈ps,Hz r)∧Y=L++X'∧bJ vd xs d X'):=by
 refine bA au [.l X] [] a8<|zD 13<|jc (vs:=[zP d,zI many]) [0] (Em hN hD (by omega)) ?_
 rintro _ X10 ⟨w10,rfl,aed,rQ,TV⟩
 refine zD 3<|pE<|dW [1,1,0,1,0,0] [] (fun(zz:Int×Value×Cells×(List cM)×Cells)=>[(0,zP d),(4,zS),(5,zz.2.1),(6,zI zz.1)]) (fun(zz:Int×Value×Cells×(List cM)×Cells)=>[.l zz.2.2.1,.l zz.2.2.2.2]) (fun(zz:Int×Value×Cells×(List cM)×Cells)=>(0≤zz.1∧zz.2.2.2.1.length+zz.1≤many)∧aA zz.2.1 2 84 jI zz.2.2.2.1 zz.2.2.1∧(∀r∈zz.2.2.2.1,Hz r)∧bJ vd xs d zz.2.2.2.2) (fun(zz:Int×Value×Cells×(List cM)×Cells)=>zz.1.toNat) (⟨w10,zS,[],[],X10⟩) ⟨by simp only[List.length_nil];omega,aA.nil _ _ _,(fun _ h=>by cases h),TV⟩ [0,1] ?_
 rintro⟨j,v,L,ps,X⟩ hI K1 bK rest
 dsimp only at hI
 refine zD 6<|zJ 12 (j>0) (fun h1=>?_) fun h1=>?_
 ·
  refine zD 7<|jn fun b16=>jcL (vs:=[zP d,.slice (some ⟨b16,0,none⟩) 7 7]) [2] [0] [(b16,.cells ⟨([(bs [101]),(bs [121]),(bs [115,104]),(bs [97]),(bs [110,110]),(bs [116,104]),(bs [109])].map pN).flatten⟩ 9 (0,0))] (fun aB hs hZ=>W8 (hN.up hs) hI.2.2.2 (bQ [(bs [101]),(bs [121]),(bs [115,104]),(bs [97]),(bs [110,110]),(bs [116,104]),(bs [109])] hZ.head (by intro p hp;rfl)) (by decide)) ?_
  rintro _ X17 ⟨w17,rfl,aPd,aTs⟩
  refine zD 1<|jn fun Hu=>jcL (vs:=[zP d,.slice (some ⟨Hu,0,none⟩) 7 7]) [1] [0] [(Hu,.cells ⟨([(bs []),(bs [105]),(bs [115]),(bs [116]),(bs [97,101]),(bs [106]),(bs [110])].map pN).flatten⟩ 9 (0,0))] (fun aB hs hZ=>W8 (hN.up hs) aTs (bQ [(bs []),(bs [105]),(bs [115]),(bs [116]),(bs [97,101]),(bs [106]),(bs [110])] hZ.head (by intro p hp;rfl)) (by decide)) ?_
  rintro _ X20 ⟨w20,rfl,asf,afS⟩
  refine zD 1<|jn fun b7=>jd 5 [0,0]<|jn fun mD=>kL (sz:=2) (ps:=ps) (qs:=[(⟨w17,w20⟩:cM)]) (enc:=jI) (w:= .slice (some ⟨mD,0,none⟩) 1 1) [5] [0] [(mD,.cells ⟨([(⟨w17,w20⟩:cM)].map jI).flatten⟩ 84 (0,0))] (hI.2.1) (fun s _ hZ=>cb [(⟨w17,w20⟩:cM)] (hZ _ (.head _)) (by intro p hp;rfl)) (fun p _=>ar rfl) (by simp<;>omega) (fun v25 L25 aeF=>?_)
  obtain⟨aKT,aKu,aRh⟩:=aeF.form
  subst aRh
  refine zD 4<|ja (j-1) (by omega)<|zD 2<|bO bK (⟨j-1,(.slice aKT ((ps++[(⟨w17,w20⟩:cM)])).length aKu),L25,(ps++[(⟨w17,w20⟩:cM)]),X20⟩) ⟨by simp only[List.length_append,List.length_cons,List.length_nil];omega,aeF,qH hI.2.2.1 ⟨aPd,asf⟩,afS⟩ (by omega) [0,3] (Sub.refl _)
 refine zD 8<|aE q0 (v) [] [0,1] (L++X) (Sub.refl _) ⟨_,_,rfl,rfl,_,_,_,hI.2.1,(by omega),hI.2.2.1,rfl,hI.2.2.2⟩
theorem aFQ{ro:Nat→Option Obj}(hN:Dn ro vd xs)(hD:bJ vd xs d X):eE zT 28 [zP d] ro X (fun r Y=>∃w:aL,r= .agg ⟨mV w⟩∧jv w∧bJ vd xs d Y):=by
 refine bA au [.l X] [] a8<|zD 2<|jn fun b2=>zD 8<|jn fun b9=>zD 9<|jc (vs:=[zP d,zI 4]) [2] (Em hN hD (by omega)) ?_
 rintro _ X15 ⟨w15,rfl,aPe,ad6,auz⟩
 obtain⟨A8,mO⟩:=zG ([(⟨1,0,0,0,0,0,0⟩:aL),(⟨2,0,0,0,0,0,0⟩:aL),(⟨1,1,0,0,0,0,0⟩:aL),(⟨2,1,0,0,0,0,0⟩:aL),(⟨4,1,0,0,0,0,0⟩:aL)]:List _) (w15.toNat) (show w15.toNat <5 from by omega)
 refine Nk (a:=(some ⟨b9,0,none⟩)) (b:=b9) (off:=0) w15 5 7 (fun _ _=>rfl) mO (by omega)<|oQ (m:=7) 0 [1] [(b9,.cells ⟨([(⟨1,0,0,0,0,0,0⟩:aL),(⟨2,0,0,0,0,0,0⟩:aL),(⟨1,1,0,0,0,0,0⟩:aL),(⟨2,1,0,0,0,0,0⟩:aL),(⟨4,1,0,0,0,0,0⟩:aL)].map mV).flatten⟩ 77 (0,0))] (fun s _ hZ=>wW (hZ _ (.head _)) (by intro p hp;rfl) mO) ?_
 refine jd 3 [2]<|aE q0 (.agg ⟨[zI A8.k,zI A8.st,zI A8.ot,zI A8.fn,zI A8.fl,zI A8.tn,zI A8.tl]⟩) [2] [0] X15 (Sub.refl _) ⟨_,_,rfl,rfl,A8,rfl,List.mem_of_getElem? mO,auz⟩
def F8(b:UInt8):Bool:=Nat.ble 97 b.toNat&&Nat.ble b.toNat 122
def FK(b:UInt8):Bool:=Nat.ble 65 b.toNat&&(Nat.ble b.toNat 90&& !(Nat.beq b.toNat 72||Nat.beq b.toNat 81||Nat.beq b.toNat 87))
def Script(w:ByteArray):Prop:=(∀b∈w.data.toList,F8 b=true)∨(∀b∈w.data.toList,FK b=true)
def XA(w:ByteArray):Prop:=(0 <w.size∧w.size≤7)∧Script w
def M9(w:ByteArray):Prop:=(1≤w.size∧w.size≤3)∧Script w
theorem abJ{w:ByteArray}(h:(w.data.toList.all F8||w.data.toList.all FK)=true)(h1:(Nat.blt 0 w.size&&Nat.ble w.size 7)=true):XA w:=by
 simp only[Bool.or_eq_true,List.all_eq_true] at h
 simp only[Bool.and_eq_true,Nat.blt_eq,Nat.ble_eq] at h1
 exact⟨h1,h⟩
theorem ax7{w:ByteArray}(h:w∈[bs [97,101,115],bs [115,104,101,116,97],bs [115,109,105,116,121,104,97],bs [99,104,106,97],bs [97,110,110,101]]):XA w:=by
 simp only[List.mem_cons,List.not_mem_nil,or_false] at h
 rcases h with rfl|rfl|rfl|rfl|rfl<;>exact abJ (by decide) (by decide)
theorem ax6{w:ByteArray}(h:w∈[bs [65,69,83],bs [88,69,84,65],bs [83,77,73,84,89,65],bs [67,74,65,88],bs [65,78,78,69]]):XA w:=by
 simp only[List.mem_cons,List.not_mem_nil,or_false] at h
 rcases h with rfl|rfl|rfl|rfl|rfl<;>exact abJ (by decide) (by decide)
def nD:List ByteArray:=[bs [102,111,111,100],bs [98,114,101,97,100],bs [99,108,111,116,104],bs [104,97,116,115],bs [119,111,111,100],bs [105,114,111,110],bs [98,101,101,114],bs [105,110],bs [115,101,101]]
def py:List ByteArray:=[bs [98,97,107,101,114],bs [98,97,107,101,114,115],bs [98,111,110,110,101,116,115],bs [98,114,101,119,101,114],bs [98,114,117,115,104,101,115],bs [98,117,116,99,104,101,114],bs [99,97,110,100,108,101,115],bs [99,111,111,112,101,114],bs [99,111,111,112,101,114,115],bs [99,117,116,108,101,114],bs [104,97,116,116,101,114],bs [104,111,115,105,101,114],bs [109,101,114,99,101,114],bs [109,105,108,108,105,110,101,114],bs [116,97,105,108,111,114],bs [116,97,110,110,101,114]]
theorem FI{T:TypeId}{n:Nat}{enc:α→List Value}(ps:List α)(hn:ps.length=n)(hl:∀p∈ps,(enc p).length=sz):aA (.slice (some ⟨b,0,none⟩) n n) sz T enc ps [(b,.cells ⟨(ps.map enc).flatten⟩ T (0,0))]:=by
 subst hn
 exact .inr ⟨b,_,ps.length,rfl,rfl,ko ps hl,Nat.le_refl _,hl,by rw[←ko ps hl,List.take_length]⟩
theorem RZ{s t w:ByteArray}(h:∀b∈s.data.toList,b∈w.data.toList)(k:∀b∈t.data.toList,b∈w.data.toList):∀b∈(s++t).data.toList,b∈w.data.toList:=fun b hb=>by
 rw[ByteArray.data_append,Array.toList_append,List.mem_append] at hb
 exact hb.elim (h b) (k b)
theorem N0{w:ByteArray}(i j:Nat):∀b∈(w.extract i j).data.toList,b∈w.data.toList:=fun b hb=>by
 rw[ByteArray.data_extract,Array.toList_extract] at hb
 exact List.mem_of_mem_drop (List.mem_of_mem_take (by simpa [List.extract] using hb))
theorem Se{s w:ByteArray}(h:∀b∈s.data.toList,b∈w.data.toList)(hw:Script w):Script s:=hw.imp (fun k b hb=>k b (h b hb)) (fun k b hb=>k b (h b hb))
theorem W9{ro:Nat→Option Obj}(hN:Dn ro vd xs)(hD:bJ vd xs d X):eE zT 31 [zP d,zI 3] ro X (fun r Y=>∃w:ByteArray,r= .string w∧M9 w∧bJ vd xs d Y):=by
 refine bA au [.l X] [] a8<|zD 7<|jn fun lP=>jcL (vs:=[zP d,.slice (some ⟨lP,0,none⟩) 5 5]) [1] [0] [(lP,.cells ⟨([(bs [97,101,115]),(bs [115,104,101,116,97]),(bs [115,109,105,116,121,104,97]),(bs [99,104,106,97]),(bs [97,110,110,101])].map pN).flatten⟩ 9 (0,0))] (fun aB hs hZ=>W8 (hN.up hs) hD (bQ [(bs [97,101,115]),(bs [115,104,101,116,97]),(bs [115,109,105,116,121,104,97]),(bs [99,104,106,97]),(bs [97,110,110,101])] hZ.head (by intro p hp;rfl)) (by decide)) ?_
 rintro _ X11 ⟨w11,rfl,aPg,aTu⟩
 refine zD 6<|jc (vs:=[zP d,zI 3]) [0] (sY hN aTu (by omega)) ?_
 rintro _ X13 ⟨w13,rfl,alX⟩
 refine zD 1<|JO [1,1,1] [] (fun(zz:ByteArray×Cells)=>[(0,zP d),(1,zI 3),(4,.string (bs [])),(5,.string zz.1)]) (fun(zz:ByteArray×Cells)=>[.l zz.2]) (fun(zz:ByteArray×Cells)=>XA zz.1∧bJ vd xs d zz.2) ?_ (fun K1 bK=>?_)
 ·
  rintro⟨w,X⟩ hJ rest
  dsimp only at hJ
  obtain⟨⟨Wl,hw7⟩,rR⟩:=hJ.1
  refine zD 9<|jmn (k:= .i64) (a:=3) (b:=6)<|jc (vs:=[zP d,zI 1,zI (min 3 6)]) [0] (AQ hN hJ.2 (by omega) (by omega)) ?_
  rintro _ X20 ⟨w20,rfl,asf,Mg,afS⟩
  refine zD 3<|dW [1,1,1,1,0,1,0,0] [] (fun(zz:Int×ByteArray×Cells)=>[(0,zP d),(4,.string (bs [])),(5,.string w),(6,.string zz.2.1),(7,zI zz.1)]) (fun(zz:Int×ByteArray×Cells)=>[.l zz.2.2]) (fun(zz:Int×ByteArray×Cells)=>(0≤zz.1∧zz.2.1.size+zz.1=w20)∧(∀b∈zz.2.1.data.toList,b∈w.data.toList)∧bJ vd xs d zz.2.2) (fun(zz:Int×ByteArray×Cells)=>zz.1.toNat) (⟨w20,bs [],X20⟩) ⟨⟨by omega,by simp[bs,ByteArray.size]⟩,(fun _ h=>by simp[bs] at h),afS⟩ [0] ?_
  rintro⟨j,t,Z⟩ hI K2 lg rest
  dsimp only at hI
  refine zD 6<|zJ 22 (j>0) (fun h1=>?_) fun h1=>?_
  ·
   refine zD 9<|ja ((w.size:Int)-1) (by omega)<|jc (vs:=[zP d,zI ((w.size:Int)-1)]) [0] (Em hN hI.2.2 (by omega)) ?_
   rintro _ X29 ⟨w29,rfl,bdr,Ap,aTn⟩
   refine zD 7<|ja (w29+1) (by omega)<|jtB (b:=w) (lo:=w29) (hi:=(w29+1)) (by omega)<|jsa (a:=t) (b:=(w.extract w29.toNat (w29+1).toNat)) 9 (by rw[ByteArray.size_extract];omega) ?_
   refine zD 4<|ja (j-1) (by omega)<|zD 2<|bO lg (⟨j-1,(t++(w.extract w29.toNat (w29+1).toNat)),X29⟩) ⟨⟨by omega,by rw[ByteArray.size_append,ByteArray.size_extract];omega⟩,RZ hI.2.1 (N0 _ _),aTn⟩ (by omega) [0] (Sub.refl _)
  refine zD 8<|aE q0 (.string t) [] [0] Z (Sub.refl _) ⟨_,_,rfl,rfl,_,rfl,⟨by omega,Se hI.2.1 rR⟩,hI.2.2⟩
 refine js 13 w13 (fun h2=>?_) (fun h2=>?_)
 ·
  subst h2
  refine zD 3<|jn fun me=>jcL (vs:=[zP d,.slice (some ⟨me,0,none⟩) 5 5]) [1] [0] [(me,.cells ⟨([(bs [65,69,83]),(bs [88,69,84,65]),(bs [83,77,73,84,89,65]),(bs [67,74,65,88]),(bs [65,78,78,69])].map pN).flatten⟩ 9 (0,0))] (fun aB hs hZ=>W8 (hN.up hs) alX (bQ [(bs [65,69,83]),(bs [88,69,84,65]),(bs [83,77,73,84,89,65]),(bs [67,74,65,88]),(bs [65,78,78,69])] hZ.head (by intro p hp;rfl)) (by decide)) ?_
  rintro _ X16 ⟨w16,rfl,aAw,afT⟩
  refine zD 2<|bO bK ⟨w16,X16⟩ ⟨ax6 aAw,afT⟩ Nat.zero_lt_one [0] (Sub.refl _)
 subst h2
 refine zD 2<|bO bK ⟨w11,X13⟩ ⟨ax7 aPg,alX⟩ Nat.zero_lt_one [0] (Sub.refl _)
theorem adC{ro:Nat→Option Obj}:eE zT 68 [] ro [] (fun r Y=>∃L,aA r 1 9 pN nD L∧Y=L):=by
 refine bA au [] [] a8<|zD 6<|jn fun b1=>zD 3<|aE q0 (.slice (some ⟨b1,0,none⟩) 9 9) [] [0] [(b1,.cells ⟨[.string (bs [102,111,111,100]),.string (bs [98,114,101,97,100]),.string (bs [99,108,111,116,104]),.string (bs [104,97,116,115]),.string (bs [119,111,111,100]),.string (bs [105,114,111,110]),.string (bs [98,101,101,114]),.string (bs [105,110]),.string (bs [115,101,101])]⟩ 9 (0,0))] (Sub.refl _) ⟨_,_,rfl,rfl,_,FI nD rfl (by intro p hp;rfl),rfl⟩
theorem adT{ro:Nat→Option Obj}:eE zT 70 [] ro [] (fun r Y=>∃L,aA r 1 9 pN py L∧Y=L):=by
 refine bA au [] [] a8<|zD 6<|jn fun b1=>zD 3<|aE q0 (.slice (some ⟨b1,0,none⟩) 16 16) [] [0] [(b1,.cells ⟨[.string (bs [98,97,107,101,114]),.string (bs [98,97,107,101,114,115]),.string (bs [98,111,110,110,101,116,115]),.string (bs [98,114,101,119,101,114]),.string (bs [98,114,117,115,104,101,115]),.string (bs [98,117,116,99,104,101,114]),.string (bs [99,97,110,100,108,101,115]),.string (bs [99,111,111,112,101,114]),.string (bs [99,111,111,112,101,114,115]),.string (bs [99,117,116,108,101,114]),.string (bs [104,97,116,116,101,114]),.string (bs [104,111,115,105,101,114]),.string (bs [109,101,114,99,101,114]),.string (bs [109,105,108,108,105,110,101,114]),.string (bs [116,97,105,108,111,114]),.string (bs [116,97,110,110,101,114])]⟩ 9 (0,0))] (Sub.refl _) ⟨_,_,rfl,rfl,_,FI py rfl (by intro p hp;rfl),rfl⟩
structure bu where
 word:ByteArray
 cls:Int
 ou:Int
 dX:Value
abbrev ma(x:bu):List Value:=[.string x.word,zI x.cls,zI x.ou,x.dX]
def UN(hs:List bu)(i:Int):Prop:=0≤i∧∃h,hs[i.toNat]?=some h∧0≤h.cls
theorem Uy{p:α→Bool}{l:List α}{x:α}(h:l[k]?=some x):(l.drop k).any p=(p x||(l.drop (k+1)).any p):=by rw[fN h];rfl
theorem amI{p:α→Bool}{l:List α}(h:¬k <l.length):(l.drop k).any p=false:=by rw[eA h];rfl
def C1(fs:List fF)(a b:Int):Bool:=fs.any fun y=>decide (y.a=a)&&decide (y.b=b)
theorem xm{hs:List bu}{ro:Nat→Option Obj}(hN:Dn ro vd xs)(hD:bJ vd xs d X)(hh:bE ro vh 4 ma hs)(hn:hs.length≤100):eE zT 30 [zP d,.agg ⟨[zI 2,zI 0,zI 0,vc,vh,zS,zS]⟩,.string nm] ro X (fun r Y=>∃w:aG,r= .agg ⟨fe w⟩∧w.name=nm∧(0≤w.st∧w.st≤1)∧(w.head= -1∨UN hs w.head)∧bJ vd xs d Y):=by
 obtain⟨dN,u4,u3,dD,rfl,xD,qV,qU⟩:=hh
 refine bA au [.l X] [] a8<|zD 2<|jn fun b4=>jn fun b6=>jd 8 [1]<|jc (vs:=[zP d,zI 1]) [2] (Em hN hD (by omega)) ?_
 rintro _ X15 ⟨w15,rfl,aPe,ad6,auz⟩
 refine zD 2<|jc (vs:=[zP d,zI 1,zI 3]) [0] (AQ hN auz (by omega) (by omega)) ?_
 rintro _ X18 ⟨w18,rfl,bdw,bdj,P8⟩
 refine zD 1<|jc (vs:=[zP d,zI 1,zI 3]) [0] (AQ hN P8 (by omega) (by omega)) ?_
 rintro _ X20 ⟨w20,rfl,asf,Mg,afS⟩
 refine zD 1<|jc (vs:=[zP d,zI 1,zI 40]) [0] (AQ hN afS (by omega) (by omega)) ?_
 rintro _ X22 ⟨w22,rfl,bdv,tU,aTq⟩
 refine jn fun b23=>jcL (vs:=[zP d,.slice (some ⟨b23,0,none⟩) 3 3]) [1] [0] [(b23,.cells ⟨([w18,w20,w22].map cv).flatten⟩ 3 (0,0))] (fun aB hs hZ=>ahe (hN.up hs) aTq (bQ [w18,w20,w22] hZ.head (by intro p hp;rfl)) (by simp)) ?_
 rintro _ X24 ⟨w24,rfl,bdu,aTp⟩
 refine zD 1<|jc (vs:=[zP d,zI 4]) [0] (sY hN aTp (by omega)) ?_
 rintro _ X26 ⟨w26,rfl,aEU⟩
 refine zD 1<|jn fun b7=>jd 12 [0]<|pE<|dW [1,1,1,0,1,0,0] [] (fun(zz:Nat×Value×Cells×(List Int))=>[(0,zP d),(4,zP b4),(6,zP b6),(7,zP b7),(8,zz.2.1),(9,zI (zz.1:Int))]) (fun(zz:Nat×Value×Cells×(List Int))=>[.l zz.2.2.1,.l X26,.b b7 (.cells ⟨[.string nm,zI w15,zI w24,zI (-1),.bool w26]⟩ 44 (0,0)),.b b6 (.cells ⟨[.string ByteArray.empty,zI 0,zI 0,zI 0,.bool false]⟩ 44 (0,0)),.b b4 (.cells ⟨[zI 2,zI 0,zI 0,vc,.slice dN hs.length dD,zS,zS]⟩ 86 (0,0))]) (fun(zz:Nat×Value×Cells×(List Int))=>(zz.1≤hs.length∧zz.2.2.2.length≤zz.1)∧aA zz.2.1 1 3 cv zz.2.2.2 zz.2.2.1∧∀i∈zz.2.2.2,UN hs i) (fun(zz:Nat×Value×Cells×(List Int))=>hs.length-zz.1) (⟨0,zS,[],[]⟩) ⟨⟨by omega,by simp⟩,aA.nil _ _ _,(fun _ h=>by cases h)⟩ [0,2,1,4,5] ?_
 rintro⟨k,v,L,ps⟩ hI K1 bK rest
 dsimp only at hI
 refine jd 10 [4]<|zJ 33 ((k:Int) <(hs.length:Int)) (fun h1=>?_) fun h1=>?_
 ·
  refine jd 10 [4] ?_
  obtain⟨x40,ar8⟩:=zG hs k
  refine iK dD 4 qV ar8<|zD 1<|jl 1 (qU _ _ ar8)<|zD 2<|zJ 43 (x40.cls≥0) (fun h2=>?_) fun h2=>?_
  ·
   refine zD 4<|jn fun b46=>kL (sz:=1) (ps:=ps) (qs:=[(k:Int)]) (enc:=cv) (w:= .slice (some ⟨b46,0,none⟩) 1 1) [1] [0] [(b46,.cells ⟨([(k:Int)].map cv).flatten⟩ 3 (0,0))] (hI.2.1) (fun s _ hZ=>cb [(k:Int)] (hZ _ (.head _)) (by intro p hp;rfl)) (fun p _=>ar rfl) (by simp<;>omega) (fun v47 L47 aex=>?_)
   obtain⟨aKK,aKl,aRa⟩:=aex.form
   subst aRa
   refine zD 4<|ja ((k:Int)+1) (by omega)<|zD 2<|bO bK (⟨k+1,(.slice aKK ((ps++[(k:Int)])).length aKl),L47,(ps++[(k:Int)])⟩) ⟨by simp only[List.length_append,List.length_cons,List.length_nil];omega,aex,qH hI.2.2 ⟨by omega,x40,ar8,by assumption⟩⟩ (by omega) [0,2,3,4,5] (Sub.refl _)
  refine zD 4<|ja ((k:Int)+1) (by omega)<|zD 2<|bO bK (⟨k+1,v,L,ps⟩) ⟨by dsimp only;omega,hI.2⟩ (by omega) [0,1,2,3,4] (Sub.refl _)
 refine zD 6<|Ao hI.2.1<|zD 2<|js 51 (decide ((ps.length:Int)>0)) (fun h3=>?_) (fun h3=>?_)
 ·
  have v9:=h3
  replace v9:=of_decide_eq_true v9
  refine zD 1<|jc (vs:=[zP d,zI 4]) [1] (sY hN aEU (by omega)) ?_
  rintro _ X53 ⟨w53,rfl,alW⟩
  refine zD 3<|js 55 (!w53) (fun h4=>?_) (fun h4=>?_)
  ·
   try simp only[zB] at h4
   refine zD 5<|Ao hI.2.1<|ja ((ps.length:Int)-1) (by omega)<|jc (vs:=[zP d,zI ((ps.length:Int)-1)]) [0] (Em hN alW (by omega)) ?_
   rintro _ X61 ⟨w61,rfl,bdo,bdi,aTh⟩
   obtain⟨x62,ar5⟩:=zG ps (w61.toNat)
   refine qh w61 1 hI.2.1 ar5 (by omega) fun b62 aRS=>oQ 0 [1] L (fun s _ hZ=>cD hI.2.1 aRS hZ ar5)<|jd 9 [2,2,3]<|aE q0 (.agg ⟨[.string nm,zI w15,zI w24,zI x62,.bool w26]⟩) [3] [0] X61 (Sub.refl _) ⟨_,_,rfl,rfl,⟨_,_,_,_,_⟩,rfl,rfl,(by dsimp only;omega),.inr (hI.2.2 _ (List.mem_of_getElem? ar5)),aTh⟩
  try simp only[zB] at h4
  refine jd 8 [2,3]<|aE q0 (.agg ⟨[.string nm,zI w15,zI w24,zI (-1),.bool w26]⟩) [3] [0] X53 (Sub.refl _) ⟨_,_,rfl,rfl,⟨_,_,_,_,_⟩,rfl,rfl,(by dsimp only;omega),.inl rfl,alW⟩
 have v9:=h3
 replace v9:=of_decide_eq_false v9
 refine jd 13 [2,3]<|aE q0 (.agg ⟨[.string nm,zI w15,zI w24,zI (-1),.bool w26]⟩) [3] [1] X26 (Sub.refl _) ⟨_,_,rfl,rfl,⟨_,_,_,_,_⟩,rfl,rfl,(by dsimp only;omega),.inl rfl,aEU⟩
theorem az1{vf:Value}{x:fF}{ro:Nat→Option Obj}(hf:bE ro vf 3 wA fs)(hn:fs.length≤1000):de zT 19 [.agg ⟨[s0,s1,s2,t0,t1,ru,vb,va,zI gone,zI new,zI af,vf]⟩,.agg ⟨[zI x.a,zI x.b,.bool x.same]⟩] ro (.bool (C1 fs x.a x.b)):=by
 obtain⟨jW,Bf,Be,iQ,rfl,DN,u6,u5⟩:=hf
 refine bA au [] [] a8<|zD 2<|jn fun b2=>jn fun b3=>zD 8<|dW [1,0,1,0,0] [] (fun(zz:Nat)=>[(2,zP b2),(3,zP b3),(5,zI (zz:Int))]) (fun(zz:Nat)=>[.b b3 (.cells ⟨[zI x.a,zI x.b,.bool x.same]⟩ 54 (0,0)),.b b2 (.cells ⟨[s0,s1,s2,t0,t1,ru,vb,va,zI gone,zI new,zI af,.slice jW fs.length iQ]⟩ 40 (0,0))]) (fun(zz:Nat)=>zz≤fs.length∧C1 fs x.a x.b=(fs.drop zz).any (fun y=>decide (y.a=x.a)&&decide (y.b=x.b))) (fun(zz:Nat)=>fs.length-zz) 0 ⟨by omega,rfl⟩ [0,1] ?_
 rintro k hI K1 bK rest
 refine jd 9 [1]<|zJ 10 ((k:Int) <(fs.length:Int)) (fun h1=>?_) fun h1=>?_
 ·
  refine jd 9 [1] ?_
  obtain⟨A8,mO⟩:=zG fs k
  refine iK iQ 3 u6 mO<|zD 1<|jl 0 (u5 _ _ mO)<|jd 4 [0]<|js 9 (decide (A8.a=x.a)) (fun h2=>?_) (fun h2=>?_)
  ·
   have my:=h2
   replace my:=of_decide_eq_true my
   refine jd 3 [1] ?_
   obtain⟨RD,YW⟩:=zG fs k
   refine iK iQ 3 u6 YW<|zD 1<|jl 1 (u5 _ _ YW)<|jd 5 [0]<|zJ 32 (RD.b=x.b) (fun h3=>?_) fun h3=>?_
   ·
    refine zD 6<|aE q0 (.bool true) [] [] [] (Sub.refl _) ⟨_,_,rfl,rfl,by rw[hI.2,Uy mO];simp_all,rfl⟩
   refine zD 4<|ja ((k:Int)+1) (by omega)<|zD 2<|bO bK (k+1) ⟨by omega,by rw[hI.2,Uy mO];simp_all⟩ (by omega) [0,1] (Sub.refl _)
  have my:=h2
  replace my:=of_decide_eq_false my
  refine zD 15<|ja ((k:Int)+1) (by omega)<|zD 2<|bO bK (k+1) ⟨by omega,by rw[hI.2,Uy mO];simp_all⟩ (by omega) [0,1] (Sub.refl _)
 refine zD 7<|aE q0 (.bool false) [] [] [] (Sub.refl _) ⟨_,_,rfl,rfl,by rw[hI.2,amI (by omega)],rfl⟩
theorem aT3{fa:Value}{uJ Kt:List aG}{ro:Nat→Option Obj}(hN:Dn ro vd xs)(hD:bJ vd xs d X)(hb:bE ro vb 5 fe uJ)(ha:bE ro va 5 fe Kt)(hn:uJ.length≤100∧Kt.length≤100):eE zT 17 [zP d,.agg ⟨[s0,s1,s2,t0,t1,ru,vb,va,zI gone,zI new,zI af,fa]⟩] ro X (fun r Y=>∃x:fF,r= .agg ⟨wA x⟩∧(0≤x.a∧(x.a <uJ.length∨x.a=0))∧(0≤x.b∧(x.b <Kt.length∨x.b=0))∧bJ vd xs d Y):=by
 obtain⟨mI,Rc,Ra,mA,rfl,Rb,Oq,Oo⟩:=hb
 obtain⟨mB,Ov,Ot,mr,rfl,Ou,Ni,Nh⟩:=ha
 refine bA au [.l X] [] a8<|zD 2<|jn fun b3=>jn fun b4=>jd 7 [1]<|ja ((uJ.length:Int)-1) (by omega)<|jd 4 [1]<|ja ((Kt.length:Int)-1) (by omega)<|zD 1<|aO 5 fun Dz DJ Bn=>jc (vs:=[zP d,zI ((uJ.length:Int)-1)]) [2] (Em hN hD (by omega)) ?_
 rintro _ X10 ⟨w10,rfl,aed,rQ,TV⟩
 refine jA Bn [[2],[2]]<|aO 11 fun Dy DI Ck=>jc (vs:=[zP d,zI ((Kt.length:Int)-1)]) [0] (Em hN TV (by omega)) ?_
 rintro _ X16 ⟨w16,rfl,aAw,mO,afT⟩
 refine jA Ck [[2],[2]]<|aO 13 fun tv tx rY=>jc (vs:=[zP d,zI 2]) [0] (sY hN afT (by omega)) ?_
 rintro _ X18 ⟨w18,rfl,P8⟩
 refine jA rY [[2],[2]]<|zD 1<|aO 15 fun uM uO sR=>jd 1 [1]<|e8 sR<|zD 2<|aE q0 (.agg ⟨[zI w10,zI w16,.bool w18]⟩) [1] [0] X18 (Sub.refl _) ⟨_,_,rfl,rfl,⟨_,_,_⟩,rfl,(by dsimp only;omega),(by dsimp only;omega),P8⟩
inductive dj{α β:Type}(R:α→β→Prop):List α→List β→Prop
 |nil:dj R [] []
 |cons {a:α} {b:β} {l:List α} {m:List β}:R a b→dj R l m→dj R (a::l) (b::m)
theorem dj.snoc{R:α→β→Prop}{l:List α}{m:List β}{a:α}{b:β}(h:dj R l m)(k:R a b):dj R (l++[a]) (m++[b]):=by
 induction h with
 |nil=>exact .cons k .nil
 |cons h1 _ ih=>exact .cons h1 ih
theorem dj.len{R:α→β→Prop}{l:List α}{m:List β}(h:dj R l m):l.length=m.length:=by
 induction h with
 |nil=>rfl
 |cons _ _ ih=>simp[ih]
theorem dj.get{R:α→β→Prop}{l:List α}{m:List β}(h:dj R l m){a:α}(ha:l[i]?=some a):∃b,m[i]?=some b∧R a b:=by
 induction h generalizing i with
 |nil=>simp at ha
 |cons h1 _ ih=>
  cases i with
  |zero=>simp at ha;subst ha;exact⟨_,rfl,h1⟩
  |succ i=>exact ih (by simpa using ha)
theorem dj.imp{R S:α→β→Prop}{l:List α}{m:List β}(h:dj R l m)(k:∀a b,R a b→S a b):dj S l m:=by
 induction h with
 |nil=>exact .nil
 |cons h1 _ ih=>exact .cons (k _ _ h1) ih
structure cq where
 word:ByteArray
 cls:Int
 ou:Int
 dX:List Int
variable {hd:List cq}
def dC(h:bu)(x:cq):Prop:=h.word=x.word∧h.cls=x.cls∧h.ou=x.ou
def rD(ro:Nat→Option Obj)(h:bu)(x:cq):Prop:=h.word=x.word∧h.cls=x.cls∧h.ou=x.ou∧bE ro h.dX 1 cv x.dX
def jM(ro:Nat→Option Obj)(vc vh:Value)(cs:List bM)(hv:List bu)(hd:List cq):Prop:=bE ro vc 2 oZ cs∧bE ro vh 4 ma hv∧dj (rD ro) hv hd
def gR(nc nh:Nat)(i:Nat)(x:cq):Prop:=(-1≤x.cls∧x.cls <nc)∧(-1≤x.ou∧x.ou <nh∧x.ou≠i)∧(x.dX.length≤nh∧x.dX.Pairwise (· < ·)∧∀y∈x.dX,0≤y∧y <nh∧y≠i)∧(x.ou≠ -1→x.cls= -1∧x.dX=[])∧(x.ou= -1→x.cls= -1→x.dX≠[])
structure wN(cs:List bM)(hd:List cq):Prop where
 nc:0 <cs.length∧cs.length≤3
 nh:hd.length≤4
 cls:∀(i:Nat) (c:bM),cs[i]?=some c→c.name∈nD∧ -1≤c.under∧c.under <i
 names:(cs.map (·.name)).Pairwise fun a b=>cN a b=false
 Ay:∀(i:Nat) (x:cq),hd[i]?=some x→x.word∈py∧gR cs.length hd.length i x
 words:(hd.map (·.word)).Pairwise fun a b=>cN a b=false∧strLt b a=false
def nX(names:List Int)(cs:List bM):Prop:=∀(i:Nat) (c:bM),cs[i]?=some c→(∃y,names[i]?=some y∧nD[y.toNat]?=some c.name)∧ -1≤c.under∧c.under <i
theorem Qe{l:List α}{x y:α}(h:(l++[x])[i]?=some y):l[i]?=some y∨(i=l.length∧y=x):=by
 rcases Nat.lt_trichotomy i l.length with h1|h1|h1
 ·rw[List.getElem?_append_left h1] at h;exact .inl h
 ·subst h1;simp at h;exact .inr ⟨rfl,h.symm⟩
 rw[List.getElem?_eq_none (by simp;omega)] at h;cases h
theorem nX.snoc{names:List Int}(h:nX names cs){y u:Int}(h1:names[cs.length]?=some y) (h2:nD[y.toNat]?=some nm) (h3: -1≤u∧u <cs.length):nX names (cs++[⟨nm,u⟩]):=fun i c hc=>by
 rcases Qe hc with h4| ⟨rfl,rfl⟩
 ·exact h i c h4
 exact⟨⟨y,h1,h2⟩,h3⟩
def mY(ws:List Int)(nc:Nat)(hv:List bu)(hd:List cq)(Z:Cells)(i:Nat):Prop:=
 (∀ro,Knows ro Z→dj (rD ro) hv hd)∧hd.length=i∧hv.length=i∧(∀(k:Nat) (x:cq),hd[k]?=some x→(∃w,ws[k]?=some w∧py[w.toNat]?=some x.word)∧gR nc ws.length k x)∧dj dC hv hd
theorem mY.snoc{ws:List Int}{hv:List bu}{Z A:Cells}(h:mY ws nc hv hd Z i){hV:bu}{x:cq}{w:Int}(h0:dC hV x)(h1:∀ro,Knows ro A→rD ro hV x)(h2:ws[i]?=some w) (h3:py[w.toNat]?=some x.word) (h4:gR nc ws.length i x):
 mY ws nc (hv++[hV]) (hd++[x]) (A++Z) (i+1):=by
 obtain⟨g1,g2,g3,g4,g5⟩:=h
 refine⟨fun ro hk=>(g1 ro hk.right).snoc (h1 ro hk.left),by simp[g2],by simp[g3],fun k y hy=>?_,g5.snoc h0⟩
 rcases Qe hy with h5| ⟨rfl,rfl⟩
 ·exact g4 k y h5
 rw[g2];exact⟨⟨w,h2,h3⟩,h4⟩
theorem akk{i w:Int}(hi:0≤i∧i <n)(hw:0≤w∧w≤n-2):0≤Int.tmod (i+1+w) n∧Int.tmod (i+1+w) n <n∧Int.tmod (i+1+w) n≠i:=by
 have h1:=Int.tmod_nonneg n (show 0≤i+1+w by omega)
 have h2:=Int.tmod_lt_of_pos (i+1+w) (show 0 <n by omega)
 refine⟨h1,h2,fun h=>?_⟩
 have h3:=Int.tmod_add_mul_tdiv (i+1+w) n
 rw[h] at h3
 have h4:n*(i+1+w).tdiv n=1+w:=by omega
 rcases Int.lt_trichotomy ((i+1+w).tdiv n) 0 with h5|h5|h5
 ·have:n*(i+1+w).tdiv n≤n* -1:=Int.mul_le_mul_of_nonneg_left (by omega) (by omega)
  omega
 ·rw[h5] at h4;omega
 have:n*1≤n*(i+1+w).tdiv n:=Int.mul_le_mul_of_nonneg_left (by omega) (by omega)
 omega
theorem C2:nD.Pairwise fun a b=>cN a b=false:=by simp only[zu];decide
theorem Un:py.Pairwise fun a b=>cN a b=false∧strLt b a=false:=by simp only[zu,N1];decide
def lB(i:Nat)(k:Nat)(al:List Int):Prop:=al.length≤k∧al.Pairwise (· < ·)∧∀y∈al,0≤y∧y <k∧y≠i
theorem p8{l:List α}{R:α→α→Prop}(h:l.Pairwise R){j:Nat}{a b:α}(HM:i <j)(ha:l[i]?=some a) (hb:l[j]?=some b):R a b:=by
 obtain⟨h1,rfl⟩:=List.getElem?_eq_some_iff.1 ha
 obtain⟨h2,rfl⟩:=List.getElem?_eq_some_iff.1 hb
 exact List.pairwise_iff_getElem.1 h i j h1 h2 HM
theorem acd{l:List α}{f:α→β}{R:β→β→Prop}(h:∀(i j:Nat) (a b:α),i <j→l[i]?=some a→l[j]?=some b→R (f a) (f b)):(l.map f).Pairwise R:=by
 rw[List.pairwise_map,List.pairwise_iff_getElem]
 exact fun i j hi hj HM=>h i j _ _ HM (List.getElem?_eq_getElem hi) (List.getElem?_eq_getElem hj)
theorem R3{a b:ByteArray}(h:cN a b=false):cN b a=false:=by
 cases h2:cN b a with
 |false=>rfl
 |true=>rw[By.1 h2,By.2 rfl] at h;cases h
theorem XL{Lj kF:List Int}{hv:List bu}{Z:Cells}(hc:nX Lj cs)(hp:Lj.Perm (dt nD.length))(hn:0 <cs.length∧cs.length≤3)(hh:mY kF cs.length hv hd Z i)(hi:i=kF.length)(h4:kF.length≤4)(hs:kF.Pairwise (· < ·))(hm:∀x∈kF,0≤x∧x <py.length):wN cs hd:=by
 obtain⟨g1,g2,g3,g4,_⟩:=hh
 have iX:∀y∈Lj,0≤y∧y <nD.length:=fun y hy=>p7 (hp.mem_iff.1 hy)
 have lY:Lj.Pairwise (· ≠·):=(hp.pairwise_iff (fun h=>Ne.symm h)).2 ((rI _).imp fun h=>by omega)
 refine⟨hn,by omega,fun k c hk=>?_,acd fun a b x y Bm hx hy=>?_,fun k x hk=>?_,acd fun a b x y Bm hx hy=>?_⟩
 ·obtain⟨⟨y,h1,h2⟩,h3⟩:=hc k c hk
  exact⟨List.mem_of_getElem? h2,h3⟩
 ·obtain⟨⟨p,p1,p2⟩,_⟩:=hc a x hx
  obtain⟨⟨q,q1,q2⟩,_⟩:=hc b y hy
  have Wo:=p8 lY Bm p1 q1
  have hp0:=iX p (List.mem_of_getElem? p1)
  have Wn:=iX q (List.mem_of_getElem? q1)
  rcases Nat.lt_trichotomy p.toNat q.toNat with h|h|h
  ·exact p8 C2 h p2 q2
  ·exact absurd (show p=q by omega) Wo
  exact R3 (p8 C2 h q2 p2)
 ·obtain⟨⟨w,h1,h2⟩,h3⟩:=g4 k x hk
  have:hd.length=kF.length:=by omega
  rw[this]
  exact⟨List.mem_of_getElem? h2,h3⟩
 obtain⟨⟨p,p1,p2⟩,_⟩:=g4 a x hx
 obtain⟨⟨q,q1,q2⟩,_⟩:=g4 b y hy
 have Wo:=p8 hs Bm p1 q1
 have hp0:=hm p (List.mem_of_getElem? p1)
 exact p8 Un (show p.toNat <q.toNat by omega) p2 q2
theorem lB.step(h:lB i k al):lB i (k+1) al:=⟨by have:=h.1;omega,h.2.1,fun y hy=>by have:=h.2.2 y hy;omega⟩
theorem lB.snoc(h:lB i k al)(hk:(k:Int)≠i):lB i (k+1) (al++[(k:Int)]):=by
 refine⟨by have:=h.1;simp;omega,List.pairwise_append.2 ⟨h.2.1,List.pairwise_singleton _ _,fun a ha b hb=>?_⟩,qH (fun y hy=>by have:=h.2.2 y hy;omega) (by omega)⟩
 rw[List.mem_singleton] at hb;subst hb
 exact(h.2.2 a ha).2.1
theorem afd{r:Int}{w:ByteArray}(h:0≤r∧r <nh∧r≠i)(h4:0 <nc):gR nc nh i ⟨w,-1,r,[]⟩:=
 have h1:=h.1
 have h2:=h.2.1
 have h3:=h.2.2
 ⟨⟨by simp,by simp<;>omega⟩,⟨by simp<;>omega,by simpa using h2,by simpa using h3⟩,⟨by simp,by simp,by simp⟩,fun _=>⟨rfl,rfl⟩,fun h=>by simp at h;omega⟩
theorem JX{c:Int}{w:ByteArray}(hc:0≤c∧c <nc)(h:lB i k al)(hk:k≤nh)(hi:i <nh):gR nc nh i ⟨w,c,-1,al⟩:=
 ⟨⟨by simp<;>omega,by simpa using hc.2⟩,⟨by simp,by simp<;>omega,by simp<;>omega⟩,⟨by have:=h.1;simp<;>omega,h.2.1,fun y hy=>by have:=h.2.2 y hy;simp<;>omega⟩,fun hh=>by simp at hh,fun _ hh=>by simp at hh;omega⟩
theorem afe{w:ByteArray}(h:lB i k al)(hk:k≤nh)(hi:i <nh)(dR:(al.length:Int)>0):gR nc nh i ⟨w,-1,-1,al⟩:=
 ⟨⟨by simp,by simp<;>omega⟩,⟨by simp,by simp<;>omega,by simp<;>omega⟩,⟨by have:=h.1;simp<;>omega,h.2.1,fun y hy=>by have:=h.2.2 y hy;simp<;>omega⟩,fun hh=>by simp at hh,fun _ _ hh=>by simp at hh;subst hh;simp at dR⟩
set_option maxHeartbeats 1000000 in
theorem aml {ro:Nat→Option Obj} (hN:Dn ro vd xs) (hD:bJ vd xs d X):eE zT 26 [zP d,zI 3,zI 4] ro X (fun r Y=>∃(cs:List bM) (hv:List bu) (hd:List cq) (vc vh:Value) (Z X':Cells),r= .agg ⟨[vc,vh]⟩∧wN cs hd∧dj dC hv hd∧(∀aI,Knows aI Z→jM aI vc vh cs hv hd)∧Y=Z++X'∧bJ vd xs d X'):=by
 refine bA au [.l X] [] a8<|zD 2<|jn fun b6=>zD 3<|jn fun b7=>zD 4<|jc [] (adC) ?_
 rintro v16 L16 ⟨_,aP9,rfl⟩
 refine Ao aP9<|jc (vs:=[zP d,zI (nD.length:Int)]) [3] (ahd hN hD (by first|omega|decide)) ?_
 rintro v18 _ ⟨Lj,L18,X18,Zb,Py,rfl,P8⟩
 refine jg 0 [.l L18,.l X18]<|zD 7<|jc (vs:=[zP d,zI 1,zI 3]) [1] (AQ hN P8 (by omega) (by omega)) ?_
 rintro _ X21 ⟨w21,rfl,alf,qj,aTr⟩
 refine zD 3<|pE<|dW [1,1,1,0,1,0,0] [] (fun(zz:Int×Value×Cells×(List bM)×Cells)=>[(0,zP d),(2,zI 4),(6,zP b6),(7,zP b7),(8,v18),(9,zI zz.1)]) (fun(zz:Int×Value×Cells×(List bM)×Cells)=>[.l zz.2.2.1,.l zz.2.2.2.2,.b b7 (.cells ⟨[zz.2.1,zS]⟩ 35 (0,0)),.l L18,.b b6 (.cells ⟨[zS,zS]⟩ 35 (0,0))]) (fun(zz:Int×Value×Cells×(List bM)×Cells)=>(0≤zz.1∧zz.2.2.2.1.length+zz.1=w21)∧aA zz.2.1 2 140 oZ zz.2.2.2.1 zz.2.2.1∧nX Lj zz.2.2.2.1∧bJ vd xs d zz.2.2.2.2) (fun(zz:Int×Value×Cells×(List bM)×Cells)=>zz.1.toNat) (⟨w21,zS,[],[],X21⟩) ⟨by simp only[List.length_nil];omega,aA.nil _ _ _,(fun i c h=>by simp at h),aTr⟩ [0,1,4,2,5] ?_
 rintro⟨j,vC,LC,cs,X⟩ hI K1 bK rest
 dsimp only at hI
 have hlen:Lj.length=9:=by rw[Py.length_eq,lF];rfl
 refine zD 6<|zJ 23 (j>0) (fun h1=>?_) fun h1=>?_
 ·
  refine jd 10 [2,2]<|Ao hI.2.1 ?_
  obtain⟨x33,ad3⟩:=zG Lj (cs.length)
  refine jxo 1 Zb ad3 fun b33 aR3=>oQ 0 [3] L18 (fun s _ hZ=>cD Zb aR3 hZ ad3)<|jd 3 [2]<|Ao hI.2.1<|ja ((cs.length:Int)-1) (by omega)<|aO 2 fun Dy DI Ck=>jc [] (adC) ?_
  rintro v28 L28 ⟨_,aA9,rfl⟩
  refine bI Ck [1,2,3,4,5] ?_
  obtain⟨x35,S8⟩:=zG nD (x33.toNat) (by have:=p7 (Py.mem_iff.1 (List.mem_of_getElem? ad3));omega)
  refine qh x33 1 aA9 S8 (Int.toNat_of_nonneg (show 0≤x33∧x33 <((nD).length:Int) from (p7 (Py.mem_iff.1 (List.mem_of_getElem? ad3)))).1).symm fun b35 aR1=>oQ 0 [0] L28 (fun s _ hZ=>cD aA9 aR1 hZ S8)<|aO 16 fun tv tx rY=>jc (vs:=[zP d,zI (-1),zI ((cs.length:Int)-1)]) [2] (AQ hN hI.2.2.2 (by omega) (by omega)) ?_
  rintro _ X42 ⟨w42,rfl,bdq,S7,aTl⟩
  refine jA rY [[1],[3],[4],[3],[3]]<|zD 1<|aO 18 fun uM uO sR=>jn fun di=>bI sR [1,2,3,4,5,6]<|aO 19 fun Dx DG Ef=>kL (sz:=2) (ps:=cs) (qs:=[(⟨x35,w42⟩:bM)]) (enc:=oZ) (w:= .slice (some ⟨di,0,none⟩) 1 1) [3] [0] [(di,.cells ⟨([(⟨x35,w42⟩:bM)].map oZ).flatten⟩ 140 (0,0))] (hI.2.1) (fun s _ hZ=>cb [(⟨x35,w42⟩:bM)] (hZ _ (.head _)) (by intro p hp;rfl)) (fun p _=>ar rfl) (by simp<;>omega) (fun v45 L45 aey=>?_)
  obtain⟨apF,apv,aty⟩:=aey.form
  subst aty
  refine jA Ef [[3],[4],[5],[4]]<|zD 1<|aO 21 fun ai1 ajp hL6=>jd 1 [4]<|e8 hL6<|zD 3<|ja (j-1) (by omega)<|zD 2<|bO bK (⟨j-1,(.slice apF ((cs++[(⟨x35,w42⟩:bM)])).length apv),L45,(cs++[(⟨x35,w42⟩:bM)]),X42⟩) ⟨by simp only[List.length_append,List.length_cons,List.length_nil];omega,aey,nX.snoc hI.2.2.1 ad3 S8 (by omega),aTl⟩ (by omega) [0,2,4,5,6] (Sub.refl _)
 refine zD 5<|jc [] (adT) ?_
 rintro v48 L48 ⟨_,aPZ,rfl⟩
 refine Ao aPZ<|zD 2<|jc (vs:=[zP d,zI 4]) [2] (Em hN hI.2.2.2 (by omega)) ?_
 rintro _ X52 ⟨w52,rfl,bdp,Ca,aTk⟩
 refine jc (vs:=[zP d,zI (py.length:Int),zI w52]) [0] (aFR hN aTk (by first|omega|decide)) ?_
 rintro v53 _ ⟨kF,L53,X53,asJ,bet,vY,aeX,rfl,alW⟩
 refine jg 0 [.l L53,.l X53]<|zD 5<|Ao asJ<|zD 8<|pE<|pE<|dW [1,1,1,1,1,1,0,1,0,0] [] (fun(zz:Nat×Value×Cells×(List bu)×(List cq)×Cells×Cells)=>[(0,zP d),(6,zP b6),(7,zP b7),(10,v53),(11,zI (kF.length:Int)),(12,zI (zz.1:Int))]) (fun(zz:Nat×Value×Cells×(List bu)×(List cq)×Cells×Cells)=>[.l zz.2.2.1,.l zz.2.2.2.2.2.1,.l zz.2.2.2.2.2.2,.l LC,.b b7 (.cells ⟨[vC,zz.2.1]⟩ 35 (0,0)),.l L53,.b b6 (.cells ⟨[zS,zS]⟩ 35 (0,0))]) (fun(zz:Nat×Value×Cells×(List bu)×(List cq)×Cells×Cells)=>zz.1≤kF.length∧aA zz.2.1 4 143 ma zz.2.2.2.1 zz.2.2.1∧mY kF cs.length zz.2.2.2.1 zz.2.2.2.2.1 zz.2.2.2.2.2.1 zz.1∧bJ vd xs d zz.2.2.2.2.2.2) (fun(zz:Nat×Value×Cells×(List bu)×(List cq)×Cells×Cells)=>kF.length-zz.1) (⟨0,zS,[],[],[],[],X53⟩) ⟨by omega,aA.nil _ _ _,⟨fun _ _=> .nil,rfl,rfl,(fun k x h=>by simp at h),.nil⟩,alW⟩ [1,0,3,5,6,2,8] ?_
 rintro⟨i,vH,LH,hv,hd,Z,X⟩ hJ K7 hK7 rest
 dsimp only at hJ
 have hll:=hJ.2.2.1.2.2.1
 have Px:kF.length≤4:=by omega
 have iM:cs.length≤3:=by omega
 refine zD 7<|zJ 58 ((i:Int) <(kF.length:Int)) (fun h7=>?_) fun h7=>?_
 ·
  refine zD 5<|JO [1,1,1,1,1,1,0,1,0,0,1,0,0,1] [K7] (fun(zz:Nat×Int×Int×ByteArray×Cells)=>[(0,zP d),(6,zP b6),(7,zP b7),(10,v53),(11,zI (kF.length:Int)),(12,zI (i:Int)),(13,zP zz.1)]) (fun(zz:Nat×Int×Int×ByteArray×Cells)=>[.b zz.1 (.cells ⟨[.string zz.2.2.2.1,zI zz.2.1,zI (-1),zS]⟩ 143 (0,0)),.l LH,.l Z,.l zz.2.2.2.2,.l LC,.b b7 (.cells ⟨[vC,vH]⟩ 35 (0,0)),.l L53,.b b6 (.cells ⟨[zS,zS]⟩ 35 (0,0))]) (fun(zz:Nat×Int×Int×ByteArray×Cells)=>kF[i]?=some zz.2.2.1∧py[zz.2.2.1.toNat]?=some zz.2.2.2.1∧(0≤zz.2.1∧zz.2.1 <cs.length)∧bJ vd xs d zz.2.2.2.2) ?_ (fun K8 hK8=>?_)
  ·
   rintro⟨zi,w,y,x,X⟩ Ru rest
   dsimp only at Ru
   refine zD 2<|JO [1,1,1,1,1,1,0,1,0,0,1,0,0,1,0,1] [K7] (fun(zz:Bool×Cells)=>[(0,zP d),(6,zP b6),(7,zP b7),(10,v53),(11,zI (kF.length:Int)),(12,zI (i:Int)),(13,zP zi),(80,.bool zz.1)]) (fun(zz:Bool×Cells)=>[.b zi (.cells ⟨[.string x,zI w,zI (-1),zS]⟩ 143 (0,0)),.l LH,.l Z,.l zz.2,.l LC,.b b7 (.cells ⟨[vC,vH]⟩ 35 (0,0)),.l L53,.b b6 (.cells ⟨[zS,zS]⟩ 35 (0,0))]) (fun(zz:Bool×Cells)=>(zz.1=true→1 <kF.length)∧bJ vd xs d zz.2) ?_ (fun K9 hK9=>?_)
   ·
    rintro⟨q,X⟩ hJ3 rest
    dsimp only at hJ3
    refine js 80 q (fun h8=>?_) (fun h8=>?_)
    ·
     subst h8
     have hgt:=hJ3.1 rfl
     refine zD 4<|ja ((i:Int)+1) (by omega)<|zD 2<|ja ((kF.length:Int)-2) (by omega)<|zD 2<|aO 5 fun IN IV yS=>jc (vs:=[zP d,zI ((kF.length:Int)-2)]) [3] (Em hN hJ3.2 (by omega)) ?_
     rintro _ X86 ⟨w86,rfl,bdn,bdh,aTe⟩
     refine jA yS []<|ja (((i:Int)+1)+w86) (by omega)<|jrm (k:= .i64) (a:=(((i:Int)+1)+w86)) (b:=(kF.length:Int)) 3 (by omega)<|aO 10 fun Nv NR GH=>jd 1 [1]<|jA GH []<|zD 1<|aO 12 fun UQ U2 GG=>jd 1 [1]<|e8 GG<|jd 6 [5,1]<|jn fun b95=>kL (sz:=4) (ps:=hv) (qs:=[(⟨x,(-1),(Int.tmod (((i:Int)+1)+w86) (kF.length:Int)),zS⟩:bu)]) (enc:=ma) (w:= .slice (some ⟨b95,0,none⟩) 1 1) [3] [0] [(b95,.cells ⟨([(⟨x,(-1),(Int.tmod (((i:Int)+1)+w86) (kF.length:Int)),zS⟩:bu)].map ma).flatten⟩ 143 (0,0))] (hJ.2.1) (fun s _ hZ=>cb [(⟨x,(-1),(Int.tmod (((i:Int)+1)+w86) (kF.length:Int)),zS⟩:bu)] (hZ _ (.head _)) (by intro p hp;rfl)) (by intro p hp;rw[List.mem_singleton] at hp;subst hp;exact ar rfl) (by simp<;>omega) (fun v96 L96 aes=>?_)
     obtain⟨aKC,aKd,aQ1⟩:=aes.form
     subst aQ1
     refine jd 6 [6]<|ja ((i:Int)+1) (by omega)<|zD 2<|bO hK7 (⟨i+1,(.slice aKC ((hv++[(⟨x,(-1),(Int.tmod (((i:Int)+1)+w86) (kF.length:Int)),zS⟩:bu)])).length aKd),L96,(hv++[(⟨x,(-1),(Int.tmod (((i:Int)+1)+w86) (kF.length:Int)),zS⟩:bu)]),_,Z,X86⟩) ⟨by omega,aes,(by have:=mY.snoc (A:=[]) hJ.2.2.1 (h0:=⟨rfl,rfl,rfl⟩) (hV:=⟨x,-1,(Int.tmod (((i:Int)+1)+w86) (kF.length:Int)),zS⟩) (x:=⟨x,-1,(Int.tmod (((i:Int)+1)+w86) (kF.length:Int)),[]⟩) (fun ro _=>⟨rfl,rfl,rfl,bE.nil _ _ _ _ _⟩) Ru.1 Ru.2.1 (afd (akk ⟨by omega,by omega⟩ ⟨by omega,by omega⟩) (by omega));simpa only[List.nil_append] using this),aTe⟩ (by omega) [0,4,2,5,6,7,8] (Sub.refl _)
    subst h8
    refine zD 8<|pE<|dW [1,1,1,1,1,1,0,1,0,0,1,0,0,1,1,0,1,0,0] [K7] (fun(zz:Nat×Value×Cells×(List Int)×Cells)=>[(0,zP d),(6,zP b6),(7,zP b7),(10,v53),(11,zI (kF.length:Int)),(12,zI (i:Int)),(13,zP zi),(14,zI (zz.1:Int))]) (fun(zz:Nat×Value×Cells×(List Int)×Cells)=>[.l zz.2.2.1,.l zz.2.2.2.2,.b zi (.cells ⟨[.string x,zI w,zI (-1),zz.2.1]⟩ 143 (0,0)),.l LH,.l Z,.l LC,.b b7 (.cells ⟨[vC,vH]⟩ 35 (0,0)),.l L53,.b b6 (.cells ⟨[zS,zS]⟩ 35 (0,0))]) (fun(zz:Nat×Value×Cells×(List Int)×Cells)=>(zz.1≤kF.length∧zz.2.2.2.1.length≤zz.1)∧aA zz.2.1 1 3 cv zz.2.2.2.1 zz.2.2.1∧lB i zz.1 zz.2.2.2.1∧bJ vd xs d zz.2.2.2.2) (fun(zz:Nat×Value×Cells×(List Int)×Cells)=>kF.length-zz.1) (⟨0,zS,[],[],X⟩) ⟨by simp,aA.nil _ _ _,⟨by simp,by simp,by simp⟩,hJ3.2⟩ [0,4,1,2,3,5,6,7,8] ?_
    rintro⟨k,vA,LA,al,X⟩ hK K13 Zs rest
    dsimp only at hK
    obtain⟨qa,qc,rfl⟩:=hK.2.1.form
    refine zD 7<|zJ 100 ((k:Int) <(kF.length:Int)) (fun Bp=>?_) fun Bp=>?_
    ·
     refine zD 10<|js 106 (!decide ((k:Int)=(i:Int))) (fun xe=>?_) (fun xe=>?_)
     ·
      have agi:=xe
      replace agi:=of_decide_eq_false (by simpa using agi)
      refine zD 1<|jc (vs:=[zP d,zI 4]) [1] (sY hN hK.2.2.2 (by omega)) ?_
      rintro _ aGG ⟨aKb,rfl,aoC⟩
      refine zD 2<|js 109 aKb (fun Qb=>?_) (fun Qb=>?_)
      ·
       subst Qb
       refine jd 5 [2]<|jn fun aGm=>kL (sz:=1) (ps:=al) (qs:=[(k:Int)]) (enc:=cv) (w:= .slice (some ⟨aGm,0,none⟩) 1 1) [2] [0] [(aGm,.cells ⟨([(k:Int)].map cv).flatten⟩ 3 (0,0))] (hK.2.1) (fun s _ hZ=>cb [(k:Int)] (hZ _ (.head _)) (by intro p hp;rfl)) (fun p _=>ar rfl) (by simp<;>omega) (fun ba7 aVj Wu=>?_)
       obtain⟨axj,axc,aB4⟩:=Wu.form
       subst aB4
       refine jd 5 [3]<|ja ((k:Int)+1) (by omega)<|zD 2<|bO Zs (⟨k+1,(.slice axj ((al++[(k:Int)])).length axc),aVj,(al++[(k:Int)]),aGG⟩) ⟨by simp only[List.length_append,List.length_cons,List.length_nil];omega,Wu,lB.snoc hK.2.2.1 (by omega),aoC⟩ (by omega) [0,2,3,4,5,6,7,8,9] (Sub.refl _)
      subst Qb
      refine zD 4<|ja ((k:Int)+1) (by omega)<|zD 2<|bO Zs (⟨k+1,(.slice qa al.length qc),LA,al,aGG⟩) ⟨by dsimp only;omega,hK.2.1,lB.step hK.2.2.1,aoC⟩ (by omega) [1,0,2,3,4,5,6,7,8] (Sub.refl _)
     have agi:=xe
     replace agi:=of_decide_eq_true (by simpa using agi)
     refine zD 8<|ja ((k:Int)+1) (by omega)<|zD 2<|bO Zs (⟨k+1,(.slice qa al.length qc),LA,al,X⟩) ⟨by dsimp only;omega,hK.2.1,lB.step hK.2.2.1,hK.2.2.2⟩ (by omega) [0,1,2,3,4,5,6,7,8] (Sub.refl _)
    refine jd 10 [2]<|js 120 (decide ((al.length:Int)>0)) (fun GK=>?_) (fun GK=>?_)
    ·
     have xM:=GK
     replace xM:=of_decide_eq_true xM
     refine zD 1<|jc (vs:=[zP d,zI 4]) [1] (sY hN hK.2.2.2 (by omega)) ?_
     rintro _ aGF ⟨aJ8,rfl,aoB⟩
     refine zD 2<|js 123 aJ8 (fun IA=>?_) (fun IA=>?_)
     ·
      subst IA
      refine jd 9 [2,6,2]<|jn fun M1=>kL (sz:=4) (ps:=hv) (qs:=[(⟨x,(-1),-1,(.slice qa al.length qc)⟩:bu)]) (enc:=ma) (w:= .slice (some ⟨M1,0,none⟩) 1 1) [4] [0] [(M1,.cells ⟨([(⟨x,(-1),-1,(.slice qa al.length qc)⟩:bu)].map ma).flatten⟩ 143 (0,0))] (hJ.2.1) (fun s _ hZ=>cb [(⟨x,(-1),-1,(.slice qa al.length qc)⟩:bu)] (hZ _ (.head _)) (by intro p hp;rfl)) (by intro p hp;rw[List.mem_singleton] at hp;subst hp;exact ar rfl) (by simp<;>omega) (fun axp ahZ q7=>?_)
      obtain⟨NI,NF,P0⟩:=q7.form
      subst P0
      refine jd 5 [7]<|ja ((i:Int)+1) (by omega)<|zD 2<|Nl hK7 (⟨i+1,(.slice NI ((hv++[(⟨x,(-1),-1,(.slice qa al.length qc)⟩:bu)])).length NF),ahZ,(hv++[(⟨x,(-1),-1,(.slice qa al.length qc)⟩:bu)]),_,LA++Z,aGF⟩) ⟨by omega,q7,mY.snoc (A:=LA) hJ.2.2.1 (h0:=⟨rfl,rfl,rfl⟩) (x:=⟨x,_,-1,al⟩) (fun ro hk=>⟨rfl,rfl,rfl,hK.2.1.lR hk⟩) Ru.1 Ru.2.1 (afe hK.2.2.1 (by omega) (by omega) (by assumption)),aoB⟩ (by omega) [[0],[3,5],[2],[6],[7],[8],[9]] (Sub.refl _)
     subst IA
     refine jd 6 [6,2]<|jn fun M1=>kL (sz:=4) (ps:=hv) (qs:=[(⟨x,w,-1,(.slice qa al.length qc)⟩:bu)]) (enc:=ma) (w:= .slice (some ⟨M1,0,none⟩) 1 1) [4] [0] [(M1,.cells ⟨([(⟨x,w,-1,(.slice qa al.length qc)⟩:bu)].map ma).flatten⟩ 143 (0,0))] (hJ.2.1) (fun s _ hZ=>cb [(⟨x,w,-1,(.slice qa al.length qc)⟩:bu)] (hZ _ (.head _)) (by intro p hp;rfl)) (by intro p hp;rw[List.mem_singleton] at hp;subst hp;exact ar rfl) (by simp<;>omega) (fun axp ahZ q7=>?_)
     obtain⟨NI,NF,P0⟩:=q7.form
     subst P0
     refine jd 5 [7]<|ja ((i:Int)+1) (by omega)<|zD 2<|Nl hK7 (⟨i+1,(.slice NI ((hv++[(⟨x,w,-1,(.slice qa al.length qc)⟩:bu)])).length NF),ahZ,(hv++[(⟨x,w,-1,(.slice qa al.length qc)⟩:bu)]),_,LA++Z,aGF⟩) ⟨by omega,q7,mY.snoc (A:=LA) hJ.2.2.1 (h0:=⟨rfl,rfl,rfl⟩) (x:=⟨x,_,-1,al⟩) (fun ro hk=>⟨rfl,rfl,rfl,hK.2.1.lR hk⟩) Ru.1 Ru.2.1 (JX (by omega) hK.2.2.1 (by omega) (by omega)),aoB⟩ (by omega) [[0],[3,5],[2],[6],[7],[8],[9]] (Sub.refl _)
    have xM:=GK
    replace xM:=of_decide_eq_false xM
    refine jd 10 [6,2]<|jn fun M1=>kL (sz:=4) (ps:=hv) (qs:=[(⟨x,w,-1,(.slice qa al.length qc)⟩:bu)]) (enc:=ma) (w:= .slice (some ⟨M1,0,none⟩) 1 1) [4] [0] [(M1,.cells ⟨([(⟨x,w,-1,(.slice qa al.length qc)⟩:bu)].map ma).flatten⟩ 143 (0,0))] (hJ.2.1) (fun s _ hZ=>cb [(⟨x,w,-1,(.slice qa al.length qc)⟩:bu)] (hZ _ (.head _)) (by intro p hp;rfl)) (by intro p hp;rw[List.mem_singleton] at hp;subst hp;exact ar rfl) (by simp<;>omega) (fun axp ahZ q7=>?_)
    obtain⟨NI,NF,P0⟩:=q7.form
    subst P0
    refine jd 5 [7]<|ja ((i:Int)+1) (by omega)<|zD 2<|Nl hK7 (⟨i+1,(.slice NI ((hv++[(⟨x,w,-1,(.slice qa al.length qc)⟩:bu)])).length NF),ahZ,(hv++[(⟨x,w,-1,(.slice qa al.length qc)⟩:bu)]),_,LA++Z,X⟩) ⟨by omega,q7,mY.snoc (A:=LA) hJ.2.2.1 (h0:=⟨rfl,rfl,rfl⟩) (x:=⟨x,_,-1,al⟩) (fun ro hk=>⟨rfl,rfl,rfl,hK.2.1.lR hk⟩) Ru.1 Ru.2.1 (JX (by omega) hK.2.2.1 (by omega) (by omega)),hK.2.2.2⟩ (by omega) [[0],[2,5],[3],[6],[7],[8],[9]] (Sub.refl _)
   refine zD 4<|js 77 (decide ((kF.length:Int)>1)) (fun Zx=>?_) (fun Zx=>?_)
   ·
    have xL:=Zx
    replace xL:=of_decide_eq_true xL
    refine zD 1<|jc (vs:=[zP d,zI 3]) [3] (sY hN Ru.2.2.2 (by omega)) ?_
    rintro _ X79 ⟨w79,rfl,aTg⟩
    refine zD 2<|bO hK9 ⟨w79,X79⟩ ⟨fun _=>by omega,aTg⟩ Nat.zero_lt_one [1,2,3,0,4,5,6,7] (Sub.refl _)
   have xL:=Zx
   replace xL:=of_decide_eq_false xL
   refine zD 4<|bO hK9 ⟨false,X⟩ ⟨(fun h=>by cases h),Ru.2.2.2⟩ Nat.zero_lt_one [0,1,2,3,4,5,6,7] (Sub.refl _)
  refine zD 3 ?_
  obtain⟨x64,Mc⟩:=zG kF i
  refine jxo 1 asJ Mc fun b64 aRR=>oQ 0 [5] L53 (fun s _ hZ=>cD asJ aRR hZ Mc)<|jd 3 [4]<|Ao hI.2.1<|ja ((cs.length:Int)-1) (by omega)<|nK [0,14] ⟨fun z14 t15 P7=>?_,fun z17 t18 afK=>?_,trivial⟩
  ·
   refine jc [] (adT) ?_
   rintro v61 L61 ⟨_,aeO,rfl⟩
   refine bI P7 [1,2,3,4,5,6,7] ?_
   obtain⟨x66,Gh⟩:=zG py (x64.toNat) (by have:=aeX _ (List.mem_of_getElem? Mc);omega)
   refine qh x64 1 aeO Gh (Int.toNat_of_nonneg (show 0≤x64∧x64 <((py).length:Int) from (aeX _ (List.mem_of_getElem? Mc))).1).symm fun b66 atW=>oQ 0 [0] L61 (fun s _ hZ=>cD aeO atW hZ Gh)<|nK [12,14] ⟨fun z20 t21 afJ=>?_,fun z23 t24 TS=>?_,trivial⟩
   ·
    refine jc (vs:=[zP d,zI ((cs.length:Int)-1)]) [3] (Em hN hJ.2.2.2 (by omega)) ?_
    rintro _ X73 ⟨w73,rfl,aAr,YT,afR⟩
    refine jA afJ [[1],[5],[6]]<|zD 1<|aO 14 fun amZ ang P6=>jn fun zi=>bI P6 [1,2,3,4,5,6,7,8]<|aO 15 fun aaJ abn TR=>jd 1 [0]<|e8 TR<|zD 1<|bO hK8 ⟨zi,w73,_,x66,X73⟩ ⟨Mc,Gh,(by dsimp only;omega),afR⟩ Nat.zero_lt_one [0,3,4,1,5,6,7,8] (Sub.refl _)
   refine jn fun zi=>bI TS [1,2,3,4,5,6,7,8]<|aO 12 fun aaI abm Mq=>jc (vs:=[zP d,zI ((cs.length:Int)-1)]) [4] (Em hN hJ.2.2.2 (by omega)) ?_
   rintro _ X73 ⟨w73,rfl,aAr,YT,afR⟩
   refine jA Mq [[2],[6],[7]]<|zD 1<|aO 15 fun UP U1 Mp=>jd 1 [1]<|e8 Mp<|zD 1<|bO hK8 ⟨zi,w73,_,x66,X73⟩ ⟨Mc,Gh,(by dsimp only;omega),afR⟩ Nat.zero_lt_one [1,3,4,0,5,6,7,8] (Sub.refl _)
  refine jn fun zi=>bI afK [1,2,3,4,5,6,7]<|aO 0 fun aaH abl TQ=>jc [] (adT) ?_
  rintro v61 L61 ⟨_,aeO,rfl⟩
  refine bI TQ [1,2,3,4,5,6,7,8] ?_
  obtain⟨x66,Gh⟩:=zG py (x64.toNat) (by have:=aeX _ (List.mem_of_getElem? Mc);omega)
  refine qh x64 1 aeO Gh (Int.toNat_of_nonneg (show 0≤x64∧x64 <((py).length:Int) from (aeX _ (List.mem_of_getElem? Mc))).1).symm fun b66 atW=>oQ 0 [0] L61 (fun s _ hZ=>cD aeO atW hZ Gh)<|aO 12 fun amY anf Zp=>jc (vs:=[zP d,zI ((cs.length:Int)-1)]) [4] (Em hN hJ.2.2.2 (by omega)) ?_
  rintro _ X73 ⟨w73,rfl,aAr,YT,afR⟩
  refine jA Zp [[1],[6],[7]]<|zD 1<|aO 15 fun awM axG aul=>jd 1 [2]<|e8 aul<|zD 1<|bO hK8 ⟨zi,w73,_,x66,X73⟩ ⟨Mc,Gh,(by dsimp only;omega),afR⟩ Nat.zero_lt_one [2,3,4,0,5,6,7,8] (Sub.refl _)
 refine jd 5 [4] ?_
 obtain⟨aba,aa4,afh⟩:=hI.2.1.form
 subst afh
 obtain⟨aKP,aKq,aRe⟩:=hJ.2.1.form
 subst aRe
 refine jd 3 [6]<|aE q0 (.agg ⟨[(.slice aba (cs).length aa4),(.slice aKP (hv).length aKq)]⟩) [6] [3,0,1,2] (LC++(LH++(Z++X))) (Sub.refl _) ⟨_,_,rfl,rfl,cs,hv,hd,_,_,LC++(LH++Z),X,rfl,XL hI.2.2.1 Py (by omega) hJ.2.2.1 (by omega) (by omega) vY aeX,hJ.2.2.1.2.2.2.2,fun aB hk=>⟨hI.2.1.lR hk.left,hJ.2.1.lR hk.right.left,hJ.2.2.1.1 aB hk.right.right⟩,by simp only[List.append_assoc],hJ.2.2.2⟩
abbrev ir(x:Value):List Value:=[x]
structure ah where
 n:Int
 l:Int
abbrev cO(x:ah):List Value:=[zI x.n,zI x.l]
def ajW(x y:ah):Prop:=x.n <y.n∨(x.n=y.n∧x.l <y.l)
def A3(x:ah):Prop:=(1≤x.n∧x.n≤9)∧0≤x.l∧x.l≤4
structure e9(S:List (List ah)):Prop where
 two:S.length=2
 len:∀l∈S,l.length≤4
 ok:∀l∈S,∀x∈l,A3 x
 asc:∀l∈S,l.Pairwise ajW
def yw:List (List ah):=[[⟨1,0⟩,⟨2,0⟩],[⟨1,0⟩,⟨3,0⟩]]
def cR(ro:Nat→Option Obj)(v:Value)(S:List (List ah)):Prop:=∃ws,bE ro v 1 ir ws∧dj (fun w l=>bE ro w 2 cO l) ws S
def nU(ro:Nat→Option Obj)(v:Value)(ways:List (List aL)):Prop:=∃ws,bE ro v 1 ir ws∧dj (fun w l=>bE ro w 7 mV l) ws ways
theorem cR.up{ro:Nat→Option Obj}{v:Value}{S:List (List ah)}(h:cR ro v S)(hs:Sub ro aI):cR aI v S:=by
 obtain⟨ws,h1,h2⟩:=h
 exact⟨ws,h1.up hs,h2.imp fun _ _ k=>k.up hs⟩
theorem nU.up{ro:Nat→Option Obj}{v:Value}{w:List (List aL)}(h:nU ro v w)(hs:Sub ro aI):nU aI v w:=by
 obtain⟨ws,h1,h2⟩:=h
 exact⟨ws,h1.up hs,h2.imp fun _ _ k=>k.up hs⟩
theorem jM.up{ro:Nat→Option Obj}{hv:List bu}(h:jM ro vc vh cs hv hd)(hs:Sub ro aI):jM aI vc vh cs hv hd:=
 ⟨h.1.up hs,h.2.1.up hs,h.2.2.imp fun _ _ k=>⟨k.1,k.2.1,k.2.2.1,k.2.2.2.up hs⟩⟩
structure aM where
 ways:List (List aL)
 cs:List bM
 hd:List cq
 rules:List cM
 before:List aG
 after:List aG
 gone:Int
 new:Int
 af:Int
 facts:List fF
 str:List (List ah)
def gk(ro:Nat→Option Obj)(l:List Value)(k:aM):Prop:=∃(vS vT vc vh vr vb va vf:Value) (fa:Option Addr) (fc:Nat) (hv:List bu),
 l=[vS,vT,.slice fa 0 fc,vc,vh,vr,vb,va,zI k.gone,zI k.new,zI k.af,vf]∧cR ro vS k.str∧nU ro vT k.ways∧jM ro vc vh k.cs hv k.hd∧dj dC hv k.hd∧
 bE ro vr 2 jI k.rules∧bE ro vb 5 fe k.before∧bE ro va 5 fe k.after∧bE ro vf 3 wA k.facts
def nW(hd:List cq)(i:Int):Prop:=i= -1∨(0≤i∧∃x,hd[i.toNat]?=some x∧0≤x.cls)
def A4(hd:List cq)(p:aG):Prop:=M9 p.name∧nW hd p.head∧(0≤p.st∧p.st≤1)∧p.bold=false
def ahT(hd:List cq)(p:aG):Prop:=A4 hd p∧(p.st=0→p.no=1∨p.no=2)∧(p.st=1→p.no=1∨p.no=3)
def ahU(hd:List cq)(p:aG):Prop:=A4 hd p∧1≤p.no∧p.no≤3
def EX(hd:List cq)(p:aG):Prop:=((1≤p.name.size∧p.name.size≤6)∧Script p.name)∧nW hd p.head∧(0≤p.st∧p.st≤1)∧p.bold=false
def amP(S:List (List ah))(hd:List cq)(p:aG):Prop:=EX hd p∧∃l,S[p.st.toNat]?=some l∧(⟨p.no,0⟩:ah)∈l
def aGJ(hd:List cq)(p:aG):Prop:=EX hd p∧1≤p.no∧p.no≤40
structure Xy(cs:List bM)(hd:List cq):Prop where
 nc:0 <cs.length∧cs.length≤6
 nh:hd.length≤6
 Ay:∀(i:Nat) (x:cq),hd[i]?=some x→gR cs.length hd.length i x
structure mz(k:aM):Prop where
 rN:e9 k.str
 ways:k.ways.length≤1∧∀l∈k.ways,(1≤l.length∧l.length≤2)∧∀c∈l,jv c
 ee:Xy k.cs k.hd
 rules:k.rules.length≤4
 before:k.before.length≤4∧∀p∈k.before,amP k.str k.hd p
 after:k.after.length≤4∧∀p∈k.after,aGJ k.hd p
 yE:(0≤k.gone∧k.gone≤4)∧(0≤k.new∧k.new≤4)∧(0≤k.af∧k.af≤4)
 facts:k.facts.length≤4∧(∀x∈k.facts,(0≤x.a∧x.a <k.before.length)∧(0≤x.b∧x.b <k.after.length))
 apart:k.facts.Pairwise fun x y=>¬(x.a=y.a∧x.b=y.b)
structure Q1(k:aM):Prop where
 ways:k.ways.length≤1∧∀l∈k.ways,(1≤l.length∧l.length≤2)∧∀c∈l,jv c
 ee:wN k.cs k.hd
 rules:k.rules.length≤2∧∀r∈k.rules,Hz r
 before:k.before.length≤4∧∀p∈k.before,ahT k.hd p
 after:k.after.length≤4∧∀p∈k.after,ahU k.hd p
 yE:(0≤k.gone∧k.gone≤4)∧(0≤k.new∧k.new≤4)∧(0≤k.af∧k.af≤4)
 facts:k.facts.length≤4∧(∀x∈k.facts,(0≤x.a∧x.a <k.before.length)∧(0≤x.b∧x.b <k.after.length))
 apart:k.facts.Pairwise fun x y=>¬(x.a=y.a∧x.b=y.b)
 str:k.str=yw
theorem Yn:e9 yw where
 two:=rfl
 len:=by simp[yw]
 ok:=by simp[yw,A3]
 asc:=by simp[yw,ajW]
theorem A4.c{p:aG}(h:A4 hd p):EX hd p:=⟨⟨⟨h.1.1.1,by have:=h.1.1.2;omega⟩,h.1.2⟩,h.2⟩
theorem Q1.c{k:aM}(h:Q1 k):mz k where
 rN:=by rw[h.str];exact Yn
 ways:=h.ways
 ee:=⟨⟨h.ee.nc.1,by have:=h.ee.nc.2;omega⟩,by have:=h.ee.nh;omega,fun i x hx=>(h.ee.Ay i x hx).2⟩
 rules:=by have:=h.rules.1;omega
 before:=⟨by have:=h.before.1;omega,fun p hp=>by
  obtain⟨h1,h2,h3⟩:=h.before.2 p hp
  refine⟨h1.c,?_⟩
  rw[h.str]
  have h4:=h1.2.2.1
  rcases(by omega:p.st=0∨p.st=1) with e|e
  ·rw[e];exact⟨_,rfl,by rcases h2 e with e2|e2<;>simp[e2]⟩
  rw[e];exact⟨_,rfl,by rcases h3 e with e2|e2<;>simp[e2]⟩⟩
 after:=⟨by have:=h.after.1;omega,fun p hp=>by
  obtain⟨h1,h2,h3⟩:=h.after.2 p hp
  exact⟨h1.c,h2,by omega⟩⟩
 yE:=h.yE
 facts:=⟨by have:=h.facts.1;omega,h.facts.2⟩
 apart:=h.apart
theorem xd{hv:List bu}(h:dj dC hv hd){i:Int}(k:i= -1∨UN hv i):nW hd i:=by
 rcases k with k| ⟨k0,x,k1,k2⟩
 ·exact .inl k
 obtain⟨y,h1,h2⟩:=h.get k1
 exact .inr ⟨k0,y,h1,h2.2.1▸k2⟩
theorem R2{ro:Nat→Option Obj}{c e:Nat}(h1:ro b=some (.cells ⟨[zI 1,zI 0,zI 2,zI 0]⟩ 73 (0,0)))(h2:ro c=some (.cells ⟨[zI 1,zI 0,zI 3,zI 0]⟩ 73 (0,0)))
 (h3:ro e=some (.cells ⟨[.slice (some ⟨b,0,none⟩) 2 2,.slice (some ⟨c,0,none⟩) 2 2]⟩ 74 (0,0))):cR ro (.slice (some ⟨e,0,none⟩) 2 2) yw:=
 ⟨_,bQ [_,_] h3 (fun _ _=>rfl),.cons (bQ [(⟨1,0⟩:ah),⟨2,0⟩] h1 (fun _ _=>rfl)) (.cons (bQ [(⟨1,0⟩:ah),⟨3,0⟩] h2 (fun _ _=>rfl)) .nil)⟩
def A5(nb na:Nat)(fs:List fF):Prop:=(∀x∈fs,(0≤x.a∧x.a <nb)∧(0≤x.b∧x.b <na))∧fs.Pairwise fun x y=>¬(x.a=y.a∧x.b=y.b)
theorem A5.snoc{nb na:Nat}(h:A5 nb na fs){x:fF}(ha:0≤x.a∧x.a <nb)(hb:0≤x.b∧x.b <na)(hn:C1 fs x.a x.b=false):A5 nb na (fs++[x]):=by
 refine⟨qH h.1 ⟨ha,hb⟩,List.pairwise_append.2 ⟨h.2,List.pairwise_singleton _ _,fun y hy z hz e=>?_⟩⟩
 rw[List.mem_singleton] at hz;subst hz
 have:=List.any_eq_false.1 hn y hy
 simp[e.1,e.2] at this
theorem arj{w u:Int}(h:w∈[1,2,4,u])(hu:0≤u∧u≤4):0≤w∧w≤4:=by
 simp only[List.mem_cons,List.not_mem_nil,or_false] at h
 omega
theorem R6{ro:Nat→Option Obj}:nU ro (zS) []:=⟨[],bE.nil _ _ _ _ _,.nil⟩
set_option maxHeartbeats 2000000 in
theorem aT6 {np nf:Int} {ro:Nat→Option Obj} (hN:Dn ro vd xs) (hD:bJ vd xs d X) (hnp:0≤np∧np≤4) (hnf:0≤nf∧nf≤4):FnG zT 8 [zP d,zI np,zI nf] ro X (fun r aB Y=>∃(K:aM) (l:List Value),r= .agg ⟨l⟩∧Q1 K∧(K.facts.length:Int)≤nf∧gk aB l K∧bJ vd xs d Y):=by
 refine aAb (hm:=au) [.l X] [] a8<|zD 2<|jn fun b6=>zD 4<|jc [1] (aml hN hD) ?_
 rintro _ _ ⟨kP,jU,Tz,ajg,baR,Z18,X18,rfl,GF,Cj,aSk,rfl,P8⟩
 refine jg 0 [.l Z18,.l X18]<|jf [0] Z18 (fun yp bW iL=>?_)
 have rh:=aSk _ iL
 obtain⟨hc,hh,cY⟩:=id rh
 obtain⟨eL,Bh,Bg,eH,rfl,DO,zb,za⟩:=hc
 obtain⟨dN,u4,u3,dD,rfl,xD,qV,qU⟩:=hh
 refine zD 2<|jn fun b21=>zD 2<|jn fun mD=>jn fun dP=>zD 3<|jn fun b7=>jd 5 [0]<|jf [1,2,3] ((dP,.cells ⟨[.slice (some ⟨b21,0,none⟩) 2 2,.slice (some ⟨mD,0,none⟩) 2 2]⟩ 74 (0,0))::((mD,.cells ⟨[zI 1,zI 0,zI 3,zI 0]⟩ 73 (0,0))::[(b21,.cells ⟨[zI 1,zI 0,zI 2,zI 0]⟩ 73 (0,0))])) (fun ro6 ky Wz=>?_)
 have aSl:=R2 (Wz _ (.tail _ (.tail _ (.head _)))) (Wz _ (.tail _ (.head _))) (Wz _ (.head _))
 refine zD 1<|jc (vs:=[zP d,zI 2]) [1] (sY (hN.up (bW.trans ky)) P8 (by omega)) ?_
 rintro _ X30 ⟨w30,rfl,aET⟩
 refine zD 1<|JO [1,1,1] [] (fun(zz:Value×Cells×(List (List aL))×Cells)=>[(0,zP d),(1,zI np),(2,zI nf),(6,zP b6),(7,zP b7)]) (fun(zz:Value×Cells×(List (List aL))×Cells)=>[.l zz.2.1,.l zz.2.2.2,.b b7 (.cells ⟨[.slice (some ⟨dP,0,none⟩) 2 2,zz.1,zS,.slice eL kP.length eH,.slice dN jU.length dD,zS,zS,zS,zI 0,zI 0,zI 0,zS]⟩ 40 (0,0)),.b b6 (.cells ⟨zO⟩ 40 (0,0))]) (fun(zz:Value×Cells×(List (List aL))×Cells)=>(∀lT,Knows lT zz.2.1→nU lT zz.1 zz.2.2.1)∧(zz.2.2.1.length≤1∧∀l∈zz.2.2.1,(1≤l.length∧l.length≤2)∧∀c∈l,jv c)∧bJ vd xs d zz.2.2.2) ?_ (fun K1 bK=>?_)
 ·
  rintro⟨vT,LT,ways,X⟩ Ru rest
  dsimp only at Ru
  refine zD 2<|jf [0] LT (fun ro9 rS hk8=>?_)
  have aCA:=Ru.1 _ hk8
  obtain⟨RE,ht,_⟩:=id aCA
  obtain⟨fp,Bd,Bb,ep,rfl,Bc,tk,tj⟩:=ht
  refine zD 1<|jc (vs:=[zP d,zI 2]) [0] (au2 (hN.up ((bW.trans ky).trans rS)) Ru.2.2 (by decide)) ?_
  rintro v60 _ ⟨Li,L60,X60,Mj,bes,aeo,rfl,aTi⟩
  refine jg 0 [.l L60,.l X60]<|zD 8<|pE<|dW [1,1,1,1,0,1,0,0] [] (fun(zz:Nat×Value×Cells×(List cM))=>[(0,zP d),(1,zI np),(2,zI nf),(6,zP b6),(7,zP b7),(8,v60),(9,zI (zz.1:Int))]) (fun(zz:Nat×Value×Cells×(List cM))=>[.l zz.2.2.1,.l X60,.b b7 (.cells ⟨[.slice (some ⟨dP,0,none⟩) 2 2,.slice fp RE.length ep,zS,.slice eL kP.length eH,.slice dN jU.length dD,zz.2.1,zS,zS,zI 0,zI 0,zI 0,zS]⟩ 40 (0,0)),.l L60,.b b6 (.cells ⟨zO⟩ 40 (0,0))]) (fun(zz:Nat×Value×Cells×(List cM))=>(zz.1≤Li.length∧zz.2.2.2.length≤zz.1)∧aA zz.2.1 2 84 jI zz.2.2.2 zz.2.2.1∧∀r∈zz.2.2.2,Hz r) (fun(zz:Nat×Value×Cells×(List cM))=>Li.length-zz.1) (⟨0,zS,[],[]⟩) ⟨by simp,aA.nil _ _ _,(fun _ h=>by cases h)⟩ [0,2,3,1,4] ?_
  rintro⟨i,vR,LR,rs⟩ hR K2 lg rest
  dsimp only at hR
  refine zD 5<|Ao Mj<|zD 2<|zJ 64 ((i:Int) <(Li.length:Int)) (fun HS=>?_) fun HS=>?_
  ·
   refine zD 8 ?_
   obtain⟨RB,YU⟩:=zG Li i
   refine jxo 2 Mj YU fun b69 atV=>zD 1<|oQ 0 [3] L60 (fun s _ hZ=>cD Mj atV hZ YU)<|zD 2 ?_
   obtain⟨x74,aAq⟩:=zG Li i
   refine jxo 2 Mj aAq fun b74 aRP=>zD 1<|oQ 1 [3] L60 (fun s _ hZ=>cD Mj aRP hZ aAq)<|zD 2<|js 77 (!(cN RB.f x74.t)) (fun Mu=>?_) (fun Mu=>?_)
   ·
    try simp only[zB] at Mu
    refine jd 6 [2] ?_
    obtain⟨Ez,S4⟩:=zG Li i
    refine jxo 2 Mj S4 fun b82 aRM=>oQ 0 [3] L60 (fun s _ hZ=>cD Mj aRM hZ S4)<|aO 6 fun tv tx rY=>jn fun b84=>bI rY [1,2,3,4,5]<|aO 7 fun uM uO sR=>kL (sz:=2) (ps:=rs) (qs:=[(⟨Ez.f,Ez.t⟩:cM)]) (enc:=jI) (w:= .slice (some ⟨b84,0,none⟩) 1 1) [1] [0] [(b84,.cells ⟨([(⟨Ez.f,Ez.t⟩:cM)].map jI).flatten⟩ 84 (0,0))] (hR.2.1) (fun s _ hZ=>cb [(⟨Ez.f,Ez.t⟩:cM)] (hZ _ (.head _)) (by intro p hp;rfl)) (fun p _=>ar rfl) (by simp<;>omega) (fun v85 L85 aeu=>?_)
    obtain⟨aKE,aKf,aQ3⟩:=aeu.form
    subst aQ3
    refine jA sR []<|zD 1<|aO 9 fun Dx DG Ef=>jd 1 [3]<|e8 Ef<|zD 3<|ja ((i:Int)+1) (by omega)<|zD 2<|bO lg (⟨i+1,(.slice aKE ((rs++[(⟨Ez.f,Ez.t⟩:cM)])).length aKf),L85,(rs++[(⟨Ez.f,Ez.t⟩:cM)])⟩) ⟨by simp only[List.length_append,List.length_cons,List.length_nil];omega,aeu,qH hR.2.2 (aeo _ (List.mem_of_getElem? S4))⟩ (by omega) [0,2,3,4,5] (Sub.refl _)
   try simp only[zB] at Mu
   refine zD 4<|ja ((i:Int)+1) (by omega)<|zD 2<|bO lg (⟨i+1,vR,LR,rs⟩) ⟨by dsimp only;omega,hR.2⟩ (by omega) [0,1,2,3,4] (Sub.refl _)
  refine zD 4<|jf [0] LR (fun bbt iN aQD=>?_)
  have hRU:=hR.2.1.lR aQD
  refine jd 3 [1]<|jn fun lP=>jd 7 [0]<|jc (vs:=[zP d,zI np]) [1] (Em (hN.up (((bW.trans ky).trans rS).trans iN)) aTi (by omega)) ?_
  rintro _ X92 ⟨w92,rfl,bdm,bdg,aTd⟩
  refine zD 3<|pE<|dW [1,1,1,1,1,1,0,1,0,0] [] (fun(zz:Int×Value×Cells×(List aG)×Cells)=>[(0,zP d),(1,zI np),(2,zI nf),(6,zP b6),(7,zP b7),(10,zP lP),(11,zI zz.1)]) (fun(zz:Int×Value×Cells×(List aG)×Cells)=>[.l zz.2.2.1,.l zz.2.2.2.2,.b lP (.cells ⟨[zI 2,zI 0,zI 0,.slice eL kP.length eH,.slice dN jU.length dD,zS,zS]⟩ 86 (0,0)),.b b7 (.cells ⟨[.slice (some ⟨dP,0,none⟩) 2 2,.slice fp RE.length ep,zS,.slice eL kP.length eH,.slice dN jU.length dD,vR,zz.2.1,zS,zI 0,zI 0,zI 0,zS]⟩ 40 (0,0)),.b b6 (.cells ⟨zO⟩ 40 (0,0))]) (fun(zz:Int×Value×Cells×(List aG)×Cells)=>(0≤zz.1∧zz.2.2.2.1.length+zz.1≤4)∧aA zz.2.1 5 44 fe zz.2.2.2.1 zz.2.2.1∧(∀p∈zz.2.2.2.1,ahT Tz p)∧bJ vd xs d zz.2.2.2.2) (fun(zz:Int×Value×Cells×(List aG)×Cells)=>zz.1.toNat) (⟨w92,zS,[],[],X92⟩) ⟨by simp only[List.length_nil];omega,aA.nil _ _ _,(fun _ h=>by cases h),aTd⟩ [0,1,2,3,5] ?_
  rintro⟨j,vB,LB,uJ,X⟩ hB K6 hK6 rest
  dsimp only at hB
  refine zD 6<|zJ 94 (j>0) (fun TW=>?_) fun TW=>?_
  ·
   refine zD 5<|JO [1,1,1,1,1,1,0,1,0,0,1,0,0,1] [K6] (fun(zz:Nat×aG×Cells)=>[(0,zP d),(1,zI np),(2,zI nf),(6,zP b6),(7,zP b7),(10,zP lP),(11,zI j),(12,zP zz.1)]) (fun(zz:Nat×aG×Cells)=>[.b zz.1 (.cells ⟨[.string zz.2.1.name,zI zz.2.1.st,zI zz.2.1.no,zI zz.2.1.head,.bool zz.2.1.bold]⟩ 44 (0,0)),.l LB,.l zz.2.2,.b lP (.cells ⟨[zI 2,zI 0,zI 0,.slice eL kP.length eH,.slice dN jU.length dD,zS,zS]⟩ 86 (0,0)),.b b7 (.cells ⟨[.slice (some ⟨dP,0,none⟩) 2 2,.slice fp RE.length ep,zS,.slice eL kP.length eH,.slice dN jU.length dD,vR,vB,zS,zI 0,zI 0,zI 0,zS]⟩ 40 (0,0)),.b b6 (.cells ⟨zO⟩ 40 (0,0))]) (fun(zz:Nat×aG×Cells)=>(M9 zz.2.1.name∧nW Tz zz.2.1.head∧(0≤zz.2.1.st∧zz.2.1.st≤1))∧bJ vd xs d zz.2.2) ?_ (fun K7 hK7=>?_)
   ·
    rintro⟨jJ,pp,X⟩ afQ rest
    dsimp only at afQ
    refine zD 3<|jc (vs:=[zP d,zI 1,zI 2]) [2] (AQ (hN.up (((bW.trans ky).trans rS).trans iN)) afQ.2 (by omega) (by omega)) ?_
    rintro _ aUX ⟨aKc,rfl,aXZ,aXP,aoD⟩
    refine jd 10 [1,1]<|JO [1,1,1,1,1,1,0,1,0,0,1,0,0,1,1,1] [K6] (fun(zz:Int×Cells)=>[(0,zP d),(1,zI np),(2,zI nf),(6,zP b6),(7,zP b7),(10,zP lP),(11,zI j),(12,zP jJ)]) (fun(zz:Int×Cells)=>[.b jJ (.cells ⟨[.string pp.name,zI pp.st,zI zz.1,zI pp.head,.bool pp.bold]⟩ 44 (0,0)),.l LB,.l zz.2,.b lP (.cells ⟨[zI 2,zI 0,zI 0,.slice eL kP.length eH,.slice dN jU.length dD,zS,zS]⟩ 86 (0,0)),.b b7 (.cells ⟨[.slice (some ⟨dP,0,none⟩) 2 2,.slice fp RE.length ep,zS,.slice eL kP.length eH,.slice dN jU.length dD,vR,vB,zS,zI 0,zI 0,zI 0,zS]⟩ 40 (0,0)),.b b6 (.cells ⟨zO⟩ 40 (0,0))]) (fun(zz:Int×Cells)=>((pp.st=0→zz.1=1∨zz.1=2)∧(pp.st=1→zz.1=1∨zz.1=3))∧bJ vd xs d zz.2) ?_ (fun K8 hK8=>?_)
    ·
     rintro⟨q,X⟩ alV rest
     dsimp only at alV
     refine jd 7 [0]<|JO [1,1,1,1,1,1,0,1,0,0,1,0,0,1,1,1,1,0,1] [K6] (fun(zz:Bool×Cells)=>[(0,zP d),(1,zI np),(2,zI nf),(6,zP b6),(7,zP b7),(10,zP lP),(11,zI j),(12,zP jJ),(120,.bool zz.1)]) (fun(zz:Bool×Cells)=>[.b jJ (.cells ⟨[.string pp.name,zI pp.st,zI q,zI pp.head,.bool false]⟩ 44 (0,0)),.l LB,.l zz.2,.b lP (.cells ⟨[zI 2,zI 0,zI 0,.slice eL kP.length eH,.slice dN jU.length dD,zS,zS]⟩ 86 (0,0)),.b b7 (.cells ⟨[.slice (some ⟨dP,0,none⟩) 2 2,.slice fp RE.length ep,zS,.slice eL kP.length eH,.slice dN jU.length dD,vR,vB,zS,zI 0,zI 0,zI 0,zS]⟩ 40 (0,0)),.b b6 (.cells ⟨zO⟩ 40 (0,0))]) (fun(zz:Bool×Cells)=>(zz.1=true→0 <uJ.length)∧bJ vd xs d zz.2) ?_ (fun K9 hK9=>?_)
     ·
      rintro⟨g,X⟩ afP rest
      dsimp only at afP
      refine JO [1,1,1,1,1,1,0,1,0,0,1,0,0,1,1,1,1,1] [K6] (fun(zz:aG×Cells)=>[(0,zP d),(1,zI np),(2,zI nf),(6,zP b6),(7,zP b7),(10,zP lP),(11,zI j),(12,zP jJ)]) (fun(zz:aG×Cells)=>[.b jJ (.cells ⟨[.string zz.1.name,zI zz.1.st,zI zz.1.no,zI zz.1.head,.bool zz.1.bold]⟩ 44 (0,0)),.l LB,.l zz.2,.b lP (.cells ⟨[zI 2,zI 0,zI 0,.slice eL kP.length eH,.slice dN jU.length dD,zS,zS]⟩ 86 (0,0)),.b b7 (.cells ⟨[.slice (some ⟨dP,0,none⟩) 2 2,.slice fp RE.length ep,zS,.slice eL kP.length eH,.slice dN jU.length dD,vR,vB,zS,zI 0,zI 0,zI 0,zS]⟩ 40 (0,0)),.b b6 (.cells ⟨zO⟩ 40 (0,0))]) (fun(zz:aG×Cells)=>ahT Tz zz.1∧bJ vd xs d zz.2) ?_ (fun K10 aEP=>?_)
      ·
       rintro⟨p2,X⟩ aut rest
       dsimp only at aut
       refine jd 4 [4,0]<|jn fun aGl=>kL (sz:=5) (ps:=uJ) (qs:=[(⟨p2.name,p2.st,p2.no,p2.head,p2.bold⟩:aG)]) (enc:=fe) (w:= .slice (some ⟨aGl,0,none⟩) 1 1) [2] [0] [(aGl,.cells ⟨([(⟨p2.name,p2.st,p2.no,p2.head,p2.bold⟩:aG)].map fe).flatten⟩ 44 (0,0))] (hB.2.1) (fun s _ hZ=>cb [(⟨p2.name,p2.st,p2.no,p2.head,p2.bold⟩:aG)] (hZ _ (.head _)) (by intro p hp;rfl)) (fun p _=>ar rfl) (by simp<;>omega) (fun ba6 aVh Wt=>?_)
       obtain⟨axi,axb,aB3⟩:=Wt.form
       subst aB3
       refine jd 5 [5]<|ja (j-1) (by omega)<|zD 2<|bO hK6 (⟨j-1,(.slice axi ((uJ++[(⟨p2.name,p2.st,p2.no,p2.head,p2.bold⟩:aG)])).length axb),aVh,(uJ++[(⟨p2.name,p2.st,p2.no,p2.head,p2.bold⟩:aG)]),X⟩) ⟨by simp only[List.length_append,List.length_cons,List.length_nil];omega,Wt,qH hB.2.2.1 aut.1,aut.2⟩ (by omega) [0,3,4,5,6] (Sub.refl _)
      refine js 120 g (fun WR=>?_) (fun WR=>?_)
      ·
       subst WR
       refine jd 7 [4,4]<|Ao hB.2.1<|ja ((uJ.length:Int)-1) (by omega)<|aO 7 fun Nv NR GH=>jc (vs:=[zP d,zI ((uJ.length:Int)-1)]) [2] (Em (hN.up (((bW.trans ky).trans rS).trans iN)) afP.2 (by omega)) ?_
       rintro _ aUU ⟨aa0,rfl,aXY,ad8,aE6⟩
       refine jA GH [[4],[4]] ?_
       obtain⟨aJW,ad7⟩:=zG uJ (aa0.toNat) (by have:=afP.1 rfl;omega)
       refine qh aa0 5 hB.2.1 ad7 (Int.toNat_of_nonneg (show 0≤aa0∧aa0 <((uJ).length:Int) from (by have:=afP.1 rfl;omega)).1).symm (fun bf1 aCq=>?_)
       refine oQ 0 [2] LB (fun s _ hZ=>cD hB.2.1 aCq hZ ad7)<|aO 10 fun UQ U2 GG=>jd 1 [1]<|e8 GG<|zD 1<|bO aEP ⟨aJW,aUU⟩ ⟨hB.2.2.1 _ (List.mem_of_getElem? ad7),aE6⟩ Nat.zero_lt_one [1,2,0,3,4,5] (Sub.refl _)
      subst WR
      refine zD 2<|bO aEP ⟨⟨pp.name,pp.st,q,pp.head,false⟩,X⟩ ⟨⟨⟨afQ.1.1,afQ.1.2.1,afQ.1.2.2,rfl⟩,alV.1⟩,afP.2⟩ Nat.zero_lt_one [0,1,2,3,4,5] (Sub.refl _)
     refine jd 3 [4]<|Ao hB.2.1<|zD 2<|js 117 (decide ((uJ.length:Int)>0)) (fun J3=>?_) (fun J3=>?_)
     ·
      have agc:=J3
      replace agc:=of_decide_eq_true agc
      refine zD 1<|jc (vs:=[zP d,zI 5]) [2] (sY (hN.up (((bW.trans ky).trans rS).trans iN)) alV.2 (by omega)) ?_
      rintro _ aUV ⟨aJ9,rfl,aE7⟩
      refine zD 2<|bO hK9 ⟨aJ9,aUV⟩ ⟨fun _=>by omega,aE7⟩ Nat.zero_lt_one [1,2,0,3,4,5] (Sub.refl _)
     have agc:=J3
     replace agc:=of_decide_eq_false agc
     refine zD 4<|bO hK9 ⟨false,X⟩ ⟨(fun h=>by cases h),alV.2⟩ Nat.zero_lt_one [0,1,2,3,4,5] (Sub.refl _)
    refine zJ 107 (pp.st=1) (fun EU=>?_) fun EU=>?_
    ·
     refine zD 3<|jn fun aGn=>jcL (vs:=[zP d,.slice (some ⟨aGn,0,none⟩) 2 2]) [1] [0] [(aGn,.cells ⟨([1,3].map cv).flatten⟩ 3 (0,0))] (fun aB hs hZ=>ahe ((hN.up (((bW.trans ky).trans rS).trans iN)).up hs) aoD (bQ [1,3] hZ.head (by intro p hp;rfl)) (by simp)) ?_
     rintro _ aUW ⟨aKa,rfl,aAx,aE8⟩
     refine jd 3 [2]<|bO hK8 ⟨aKa,aUW⟩ ⟨⟨(fun h=>by omega),(fun _=>by simpa using aAx)⟩,aE8⟩ Nat.zero_lt_one [2,3,0,4,5,6] (Sub.refl _)
    refine zD 2<|bO hK8 ⟨aKc,aUX⟩ ⟨⟨(fun _=>by dsimp only;omega),(fun h=>by omega)⟩,aoD⟩ Nat.zero_lt_one [1,2,0,3,4,5] (Sub.refl _)
   refine jd 4 [2]<|nK [3,5] ⟨fun z13 t14 aun=>?_,fun z16 t17 afL=>?_,trivial⟩
   ·
    refine jc [1] (W9 (hN.up (((bW.trans ky).trans rS).trans iN)) hB.2.2.2) ?_
    rintro _ aUY ⟨ajc,rfl,Wk,WQ⟩
    refine jA aun [[2]]<|nK [4,5] ⟨fun z19 t20 Zq=>?_,fun z22 t23 aum=>?_,trivial⟩
    ·
     refine jc (vs:=[zP d,.agg ⟨[zI 2,zI 0,zI 0,.slice eL kP.length eH,.slice dN jU.length dD,zS,zS]⟩,.string ajc]) [0] (xm (hN.up (((bW.trans ky).trans rS).trans iN)) WQ ((((show bE _ _ _ _ _ from ⟨dN,u4,u3,dD,rfl,xD,qV,qU⟩).up ky).up rS).up iN) (by have:=Cj.len;have:=GF.nh;omega)) ?_
     rintro _ ahP ⟨aw7,rfl,PE,Pu,PT,Qa⟩
     refine e8 Zq<|aO 5 fun awN axH TS=>jn fun jJ=>e8 TS<|aO 6 fun amZ ang P6=>jd 1 [0]<|e8 P6<|zD 1<|bO hK7 ⟨jJ,_,ahP⟩ ⟨⟨PE▸Wk,xd Cj PT,Pu⟩,Qa⟩ Nat.zero_lt_one [0,2,1,3,4,5] (Sub.refl _)
    refine jn fun jJ=>bI aum [1,2,3,4,5]<|aO 4 fun aaJ abn TR=>jc (vs:=[zP d,.agg ⟨[zI 2,zI 0,zI 0,.slice eL kP.length eH,.slice dN jU.length dD,zS,zS]⟩,.string ajc]) [1] (xm (hN.up (((bW.trans ky).trans rS).trans iN)) WQ ((((show bE _ _ _ _ _ from ⟨dN,u4,u3,dD,rfl,xD,qV,qU⟩).up ky).up rS).up iN) (by have:=Cj.len;have:=GF.nh;omega)) ?_
    rintro _ ahP ⟨aw7,rfl,PE,Pu,PT,Qa⟩
    refine e8 TR<|aO 6 fun aaI abm Mq=>jd 1 [1]<|e8 Mq<|zD 1<|bO hK7 ⟨jJ,_,ahP⟩ ⟨⟨PE▸Wk,xd Cj PT,Pu⟩,Qa⟩ Nat.zero_lt_one [1,2,0,3,4,5] (Sub.refl _)
   refine jn fun jJ=>bI afL [1,2,3,4,5]<|aO 3 fun UP U1 Mp=>jc [2] (W9 (hN.up (((bW.trans ky).trans rS).trans iN)) hB.2.2.2) ?_
   rintro _ aUY ⟨ajc,rfl,Wk,WQ⟩
   refine jA Mp [[3]]<|aO 4 fun aaH abl TQ=>jc (vs:=[zP d,.agg ⟨[zI 2,zI 0,zI 0,.slice eL kP.length eH,.slice dN jU.length dD,zS,zS]⟩,.string ajc]) [0] (xm (hN.up (((bW.trans ky).trans rS).trans iN)) WQ ((((show bE _ _ _ _ _ from ⟨dN,u4,u3,dD,rfl,xD,qV,qU⟩).up ky).up rS).up iN) (by have:=Cj.len;have:=GF.nh;omega)) ?_
   rintro _ ahP ⟨aw7,rfl,PE,Pu,PT,Qa⟩
   refine e8 TQ<|aO 6 fun amY anf Zp=>jd 1 [1]<|e8 Zp<|zD 1<|bO hK7 ⟨jJ,_,ahP⟩ ⟨⟨PE▸Wk,xd Cj PT,Pu⟩,Qa⟩ Nat.zero_lt_one [1,2,0,3,4,5] (Sub.refl _)
  refine zD 7<|jc (vs:=[zP d,zI np]) [1] (Em (hN.up (((bW.trans ky).trans rS).trans iN)) hB.2.2.2 (by omega)) ?_
  rintro _ aUT ⟨aJ7,rfl,aXX,aXO,aE5⟩
  refine zD 3<|pE<|dW [1,1,1,1,1,1,1,0,1,0,0] [] (fun(zz:Int×Value×Cells×(List aG)×Cells)=>[(0,zP d),(2,zI nf),(6,zP b6),(7,zP b7),(10,zP lP),(13,zI zz.1)]) (fun(zz:Int×Value×Cells×(List aG)×Cells)=>[.l zz.2.2.1,.l zz.2.2.2.2,.l LB,.b lP (.cells ⟨[zI 2,zI 0,zI 0,.slice eL kP.length eH,.slice dN jU.length dD,zS,zS]⟩ 86 (0,0)),.b b7 (.cells ⟨[.slice (some ⟨dP,0,none⟩) 2 2,.slice fp RE.length ep,zS,.slice eL kP.length eH,.slice dN jU.length dD,vR,vB,zz.2.1,zI 0,zI 0,zI 0,zS]⟩ 40 (0,0)),.b b6 (.cells ⟨zO⟩ 40 (0,0))]) (fun(zz:Int×Value×Cells×(List aG)×Cells)=>(0≤zz.1∧zz.2.2.2.1.length+zz.1≤4)∧aA zz.2.1 5 44 fe zz.2.2.2.1 zz.2.2.1∧(∀p∈zz.2.2.2.1,ahU Tz p)∧bJ vd xs d zz.2.2.2.2) (fun(zz:Int×Value×Cells×(List aG)×Cells)=>zz.1.toNat) (⟨aJ7,zS,[],[],aUT⟩) ⟨by simp only[List.length_nil];omega,aA.nil _ _ _,(fun _ h=>by cases h),aE5⟩ [0,1,2,3,4,5] ?_
  rintro⟨j,vA,LA,Kt,X⟩ hA K32 aS4 rest
  dsimp only at hA
  refine zD 6<|zJ 141 (j>0) (fun h35=>?_) fun h35=>?_
  ·
   refine zD 5<|JO [1,1,1,1,1,1,1,0,1,0,0,1,0,0,1] [K32] (fun(zz:Nat×aG×Cells)=>[(0,zP d),(2,zI nf),(6,zP b6),(7,zP b7),(10,zP lP),(13,zI j),(14,zP zz.1)]) (fun(zz:Nat×aG×Cells)=>[.b zz.1 (.cells ⟨[.string zz.2.1.name,zI zz.2.1.st,zI zz.2.1.no,zI zz.2.1.head,.bool zz.2.1.bold]⟩ 44 (0,0)),.l LA,.l zz.2.2,.l LB,.b lP (.cells ⟨[zI 2,zI 0,zI 0,.slice eL kP.length eH,.slice dN jU.length dD,zS,zS]⟩ 86 (0,0)),.b b7 (.cells ⟨[.slice (some ⟨dP,0,none⟩) 2 2,.slice fp RE.length ep,zS,.slice eL kP.length eH,.slice dN jU.length dD,vR,vB,vA,zI 0,zI 0,zI 0,zS]⟩ 40 (0,0)),.b b6 (.cells ⟨zO⟩ 40 (0,0))]) (fun(zz:Nat×aG×Cells)=>(M9 zz.2.1.name∧nW Tz zz.2.1.head∧(0≤zz.2.1.st∧zz.2.1.st≤1))∧bJ vd xs d zz.2.2) ?_ (fun K33 aur=>?_)
   ·
    rintro⟨Xs,pp,X⟩ afN rest
    dsimp only at afN
    refine zD 3<|jc (vs:=[zP d,zI 1,zI 3]) [2] (AQ (hN.up (((bW.trans ky).trans rS).trans iN)) afN.2 (by omega) (by omega)) ?_
    rintro _ aUR ⟨aw5,rfl,aXW,aXN,aoA⟩
    refine jd 7 [1,1]<|JO [1,1,1,1,1,1,1,0,1,0,0,1,0,0,1,1,0,1] [K32] (fun(zz:Bool×Cells)=>[(0,zP d),(2,zI nf),(6,zP b6),(7,zP b7),(10,zP lP),(13,zI j),(14,zP Xs),(161,.bool zz.1)]) (fun(zz:Bool×Cells)=>[.b Xs (.cells ⟨[.string pp.name,zI pp.st,zI aw5,zI pp.head,.bool false]⟩ 44 (0,0)),.l LA,.l zz.2,.l LB,.b lP (.cells ⟨[zI 2,zI 0,zI 0,.slice eL kP.length eH,.slice dN jU.length dD,zS,zS]⟩ 86 (0,0)),.b b7 (.cells ⟨[.slice (some ⟨dP,0,none⟩) 2 2,.slice fp RE.length ep,zS,.slice eL kP.length eH,.slice dN jU.length dD,vR,vB,vA,zI 0,zI 0,zI 0,zS]⟩ 40 (0,0)),.b b6 (.cells ⟨zO⟩ 40 (0,0))]) (fun(zz:Bool×Cells)=>(zz.1=true→0 <uJ.length)∧bJ vd xs d zz.2) ?_ (fun K34 aEK=>?_)
    ·
     rintro⟨g,X⟩ afM rest
     dsimp only at afM
     refine JO [1,1,1,1,1,1,1,0,1,0,0,1,0,0,1,1,1] [K32] (fun(zz:aG×Cells)=>[(0,zP d),(2,zI nf),(6,zP b6),(7,zP b7),(10,zP lP),(13,zI j),(14,zP Xs)]) (fun(zz:aG×Cells)=>[.b Xs (.cells ⟨[.string zz.1.name,zI zz.1.st,zI zz.1.no,zI zz.1.head,.bool zz.1.bold]⟩ 44 (0,0)),.l LA,.l zz.2,.l LB,.b lP (.cells ⟨[zI 2,zI 0,zI 0,.slice eL kP.length eH,.slice dN jU.length dD,zS,zS]⟩ 86 (0,0)),.b b7 (.cells ⟨[.slice (some ⟨dP,0,none⟩) 2 2,.slice fp RE.length ep,zS,.slice eL kP.length eH,.slice dN jU.length dD,vR,vB,vA,zI 0,zI 0,zI 0,zS]⟩ 40 (0,0)),.b b6 (.cells ⟨zO⟩ 40 (0,0))]) (fun(zz:aG×Cells)=>ahU Tz zz.1∧bJ vd xs d zz.2) ?_ (fun K35 auq=>?_)
     ·
      rintro⟨p2,X⟩ aus rest
      dsimp only at aus
      refine jd 4 [5,0]<|jn fun aGj=>kL (sz:=5) (ps:=Kt) (qs:=[(⟨p2.name,p2.st,p2.no,p2.head,p2.bold⟩:aG)]) (enc:=fe) (w:= .slice (some ⟨aGj,0,none⟩) 1 1) [2] [0] [(aGj,.cells ⟨([(⟨p2.name,p2.st,p2.no,p2.head,p2.bold⟩:aG)].map fe).flatten⟩ 44 (0,0))] (hA.2.1) (fun s _ hZ=>cb [(⟨p2.name,p2.st,p2.no,p2.head,p2.bold⟩:aG)] (hZ _ (.head _)) (by intro p hp;rfl)) (fun p _=>ar rfl) (by simp<;>omega) (fun ba5 aVg Ws=>?_)
      obtain⟨axh,axa,aB2⟩:=Ws.form
      subst aB2
      refine jd 5 [6]<|ja (j-1) (by omega)<|zD 2<|bO aS4 (⟨j-1,(.slice axh ((Kt++[(⟨p2.name,p2.st,p2.no,p2.head,p2.bold⟩:aG)])).length axa),aVg,(Kt++[(⟨p2.name,p2.st,p2.no,p2.head,p2.bold⟩:aG)]),X⟩) ⟨by simp only[List.length_append,List.length_cons,List.length_nil];omega,Ws,qH hA.2.2.1 aus.1,aus.2⟩ (by omega) [0,3,4,5,6,7] (Sub.refl _)
     refine js 161 g (fun h36=>?_) (fun h36=>?_)
     ·
      subst h36
      refine jd 8 [5,5]<|Ao hB.2.1<|ja ((uJ.length:Int)-1) (by omega)<|aO 7 fun awL axF TP=>jc (vs:=[zP d,zI ((uJ.length:Int)-1)]) [2] (Em (hN.up (((bW.trans ky).trans rS).trans iN)) afM.2 (by omega)) ?_
      rintro _ bgG ⟨aaZ,rfl,aXV,aXM,aE3⟩
      refine jA TP [[5],[5]] ?_
      obtain⟨DD,Pp⟩:=zG uJ (aaZ.toNat) (by have:=afM.1 rfl;omega)
      refine qh aaZ 5 hB.2.1 Pp (Int.toNat_of_nonneg (show 0≤aaZ∧aaZ <((uJ).length:Int) from (by have:=afM.1 rfl;omega)).1).symm (fun bfY aCn=>?_)
      refine oQ 0 [3] LB (fun s _ hZ=>cD hB.2.1 aCn hZ Pp)<|aO 10 fun amX ane afH=>jd 1 [1]<|e8 afH<|zD 5<|jc (vs:=[zP d,zI 3]) [0] (sY (hN.up (((bW.trans ky).trans rS).trans iN)) aE3 (by omega)) ?_
      rintro _ aUO ⟨aJ4,rfl,aoz⟩
      refine zD 1<|JO [1,1,1,1,1,1,1,0,1,0,0,1,0,0,1,1,2,1,0,1,1] [K32,K35] (fun(zz:Int×Cells)=>[(0,zP d),(2,zI nf),(6,zP b6),(7,zP b7),(10,zP lP),(13,zI j),(14,zP Xs)]) (fun(zz:Int×Cells)=>[.b Xs (.cells ⟨[.string DD.name,zI DD.st,zI zz.1,zI DD.head,.bool DD.bold]⟩ 44 (0,0)),.l LA,.l zz.2,.l LB,.b lP (.cells ⟨[zI 2,zI 0,zI 0,.slice eL kP.length eH,.slice dN jU.length dD,zS,zS]⟩ 86 (0,0)),.b b7 (.cells ⟨[.slice (some ⟨dP,0,none⟩) 2 2,.slice fp RE.length ep,zS,.slice eL kP.length eH,.slice dN jU.length dD,vR,vB,vA,zI 0,zI 0,zI 0,zS]⟩ 40 (0,0)),.b b6 (.cells ⟨zO⟩ 40 (0,0))]) (fun(zz:Int×Cells)=>(1≤zz.1∧zz.1≤3)∧bJ vd xs d zz.2) ?_ (fun K38 aEJ=>?_)
      ·
       rintro⟨q,X⟩ alU rest
       dsimp only at alU
       have hO:=hB.2.2.1 _ (List.mem_of_getElem? Pp)
       have hO2:=hO.1.2.2.1
       have hO3:=hO.2
       refine zD 3<|jc (vs:=[zP d,zI 4]) [2] (sY (hN.up (((bW.trans ky).trans rS).trans iN)) alU.2 (by omega)) ?_
       rintro _ aGD ⟨aJ2,rfl,aoy⟩
       refine zD 1<|js 178 aJ2 (fun h39=>?_) (fun h39=>?_)
       ·
        subst h39
        refine jd 5 [1]<|bO auq ⟨⟨DD.name,DD.st,q,-1,DD.bold⟩,aGD⟩ ⟨⟨⟨hO.1.1,.inl rfl,hO.1.2.2.1,hO.1.2.2.2⟩,alU.1⟩,aoy⟩ Nat.zero_lt_one [1,2,0,3,4,5,6] (Sub.refl _)
       subst h39
       refine zD 2<|bO auq ⟨⟨DD.name,DD.st,q,DD.head,DD.bold⟩,aGD⟩ ⟨⟨⟨hO.1.1,hO.1.2.1,hO.1.2.2.1,hO.1.2.2.2⟩,alU.1⟩,aoy⟩ Nat.zero_lt_one [1,2,0,3,4,5,6] (Sub.refl _)
      refine js 173 aJ4 (fun h40=>?_) (fun h40=>?_)
      ·
       subst h40
       have hO:=hB.2.2.1 _ (List.mem_of_getElem? Pp)
       have hO2:=hO.1.2.2.1
       have hO3:=hO.2
       refine zD 3<|jc (vs:=[zP d,zI 1,zI 3]) [0] (AQ (hN.up (((bW.trans ky).trans rS).trans iN)) aoz (by omega) (by omega)) ?_
       rintro _ aUN ⟨aJ3,rfl,aXU,aXL,aE2⟩
       refine jd 3 [1]<|bO aEJ ⟨aJ3,aUN⟩ ⟨by dsimp only;omega,aE2⟩ Nat.zero_lt_one [1,2,0,3,4,5,6] (Sub.refl _)
      subst h40
      have hO:=hB.2.2.1 _ (List.mem_of_getElem? Pp)
      have hO2:=hO.1.2.2.1
      have hO3:=hO.2
      refine zD 2<|bO aEJ ⟨DD.no,aUO⟩ ⟨by dsimp only;omega,aoz⟩ Nat.zero_lt_one [1,2,0,3,4,5,6] (Sub.refl _)
     subst h36
     refine zD 2<|bO auq ⟨⟨pp.name,pp.st,aw5,pp.head,false⟩,X⟩ ⟨⟨⟨afN.1.1,afN.1.2.1,afN.1.2.2,rfl⟩,by dsimp only;omega⟩,afM.2⟩ Nat.zero_lt_one [0,1,2,3,4,5,6] (Sub.refl _)
    refine jd 3 [5]<|Ao hB.2.1<|zD 2<|js 157 (decide ((uJ.length:Int)>0)) (fun h41=>?_) (fun h41=>?_)
    ·
     have afY:=h41
     replace afY:=of_decide_eq_true afY
     refine zD 1<|jc (vs:=[zP d,zI 3]) [0] (sY (hN.up (((bW.trans ky).trans rS).trans iN)) aoA (by omega)) ?_
     rintro _ aUQ ⟨aJ6,rfl,aE4⟩
     refine zD 3<|bO aEK ⟨!aJ6,aUQ⟩ ⟨fun _=>by omega,aE4⟩ Nat.zero_lt_one [1,2,0,3,4,5,6] (Sub.refl _)
    have afY:=h41
    replace afY:=of_decide_eq_false afY
    refine zD 5<|bO aEK ⟨false,aUR⟩ ⟨(fun h=>by cases h),aoA⟩ Nat.zero_lt_one [1,2,0,3,4,5,6] (Sub.refl _)
   refine jd 4 [3]<|nK [3,5] ⟨fun z39 t40 aug=>?_,fun z42 t43 aSW=>?_,trivial⟩
   ·
    refine jc [1] (W9 (hN.up (((bW.trans ky).trans rS).trans iN)) hA.2.2.2) ?_
    rintro _ aUS ⟨ajb,rfl,Wj,WO⟩
    refine jA aug [[3]]<|nK [4,5] ⟨fun z45 t46 aSU=>?_,fun z48 t49 aue=>?_,trivial⟩
    ·
     refine jc (vs:=[zP d,.agg ⟨[zI 2,zI 0,zI 0,.slice eL kP.length eH,.slice dN jU.length dD,zS,zS]⟩,.string ajb]) [0] (xm (hN.up (((bW.trans ky).trans rS).trans iN)) WO ((((show bE _ _ _ _ _ from ⟨dN,u4,u3,dD,rfl,xD,qV,qU⟩).up ky).up rS).up iN) (by have:=Cj.len;have:=GF.nh;omega)) ?_
     rintro _ ahO ⟨aw6,rfl,PD,Pt,PS,P9⟩
     refine e8 aSU<|aO 5 fun awH axB aud=>jn fun Xs=>e8 aud<|aO 6 fun awG axA afG=>jd 1 [0]<|e8 afG<|zD 1<|bO aur ⟨Xs,_,ahO⟩ ⟨⟨PD▸Wj,xd Cj PS,Pt⟩,P9⟩ Nat.zero_lt_one [0,2,1,3,4,5,6] (Sub.refl _)
    refine jn fun Xs=>bI aue [1,2,3,4,5,6]<|aO 4 fun amW anc afF=>jc (vs:=[zP d,.agg ⟨[zI 2,zI 0,zI 0,.slice eL kP.length eH,.slice dN jU.length dD,zS,zS]⟩,.string ajb]) [1] (xm (hN.up (((bW.trans ky).trans rS).trans iN)) WO ((((show bE _ _ _ _ _ from ⟨dN,u4,u3,dD,rfl,xD,qV,qU⟩).up ky).up rS).up iN) (by have:=Cj.len;have:=GF.nh;omega)) ?_
    rintro _ ahO ⟨aw6,rfl,PD,Pt,PS,P9⟩
    refine e8 afF<|aO 6 fun amV anb afE=>jd 1 [1]<|e8 afE<|zD 1<|bO aur ⟨Xs,_,ahO⟩ ⟨⟨PD▸Wj,xd Cj PS,Pt⟩,P9⟩ Nat.zero_lt_one [1,2,0,3,4,5,6] (Sub.refl _)
   refine jn fun Xs=>bI aSW [1,2,3,4,5,6]<|aO 3 fun awF axz auc=>jc [2] (W9 (hN.up (((bW.trans ky).trans rS).trans iN)) hA.2.2.2) ?_
   rintro _ aUS ⟨ajb,rfl,Wj,WO⟩
   refine jA auc [[4]]<|aO 4 fun awE axy aub=>jc (vs:=[zP d,.agg ⟨[zI 2,zI 0,zI 0,.slice eL kP.length eH,.slice dN jU.length dD,zS,zS]⟩,.string ajb]) [0] (xm (hN.up (((bW.trans ky).trans rS).trans iN)) WO ((((show bE _ _ _ _ _ from ⟨dN,u4,u3,dD,rfl,xD,qV,qU⟩).up ky).up rS).up iN) (by have:=Cj.len;have:=GF.nh;omega)) ?_
   rintro _ ahO ⟨aw6,rfl,PD,Pt,PS,P9⟩
   refine e8 aub<|aO 6 fun awD axx afD=>jd 1 [1]<|e8 afD<|zD 1<|bO aur ⟨Xs,_,ahO⟩ ⟨⟨PD▸Wj,xd Cj PS,Pt⟩,P9⟩ Nat.zero_lt_one [1,2,0,3,4,5,6] (Sub.refl _)
  refine zD 4<|jf [2,0] (LB++LA) (fun bbo vY aBK=>?_)
  have hb:=hB.2.1.lR (Knows.left aBK)
  have ha:=hA.2.1.lR (Knows.right aBK)
  have hBF:=hb
  have hAF:=ha
  obtain⟨mI,Rc,Ra,mA,rfl,Rb,Oq,Oo⟩:=hb
  obtain⟨mB,Ov,Ot,mr,rfl,Ou,Ni,Nh⟩:=ha
  refine zD 2<|jc (vs:=[zP d,zI 4]) [0] (Em (hN.up ((((bW.trans ky).trans rS).trans iN).trans vY)) hA.2.2.2 (by omega)) ?_
  rintro _ bgF ⟨aja,rfl,aXT,aXK,aE1⟩
  refine jn fun aGi=>jcL (vs:=[zP d,.slice (some ⟨aGi,0,none⟩) 4 4]) [1] [0] [(aGi,.cells ⟨([1,2,4,aja].map cv).flatten⟩ 3 (0,0))] (fun aB hs hZ=>ahe ((hN.up ((((bW.trans ky).trans rS).trans iN).trans vY)).up hs) aE1 (bQ [1,2,4,aja] hZ.head (by intro p hp;rfl)) (by simp)) ?_
  rintro _ bgE ⟨aaY,rfl,aAv,aE0⟩
  refine zD 2<|jc (vs:=[zP d,zI 4]) [0] (Em (hN.up ((((bW.trans ky).trans rS).trans iN).trans vY)) aE0 (by omega)) ?_
  rintro _ bgD ⟨ai9,rfl,aXS,aXJ,aEZ⟩
  refine jn fun aGh=>jcL (vs:=[zP d,.slice (some ⟨aGh,0,none⟩) 4 4]) [1] [0] [(aGh,.cells ⟨([1,2,4,ai9].map cv).flatten⟩ 3 (0,0))] (fun aB hs hZ=>ahe ((hN.up ((((bW.trans ky).trans rS).trans iN).trans vY)).up hs) aEZ (bQ [1,2,4,ai9] hZ.head (by intro p hp;rfl)) (by simp)) ?_
  rintro _ bgC ⟨aaX,rfl,aAu,aEY⟩
  refine zD 2<|jc (vs:=[zP d,zI 4]) [0] (Em (hN.up ((((bW.trans ky).trans rS).trans iN).trans vY)) aEY (by omega)) ?_
  rintro _ bgB ⟨ai8,rfl,aXR,aXI,aEX⟩
  refine jn fun aGg=>jcL (vs:=[zP d,.slice (some ⟨aGg,0,none⟩) 4 4]) [1] [0] [(aGg,.cells ⟨([1,2,4,ai8].map cv).flatten⟩ 3 (0,0))] (fun aB hs hZ=>ahe ((hN.up ((((bW.trans ky).trans rS).trans iN).trans vY)).up hs) aEX (bQ [1,2,4,ai8] hZ.head (by intro p hp;rfl)) (by simp)) ?_
  rintro _ bgA ⟨aaV,rfl,aAt,aEW⟩
  refine jd 6 [5,5,5] ?_
  have Bn:=arj aAv (by omega:0≤aja∧aja≤4)
  have Ck:=arj aAu (by omega:0≤ai9∧ai9≤4)
  have rY:=arj aAt (by omega:0≤ai8∧ai8≤4)
  refine zD 6<|jc (vs:=[zP d,zI nf]) [0] (Em (hN.up ((((bW.trans ky).trans rS).trans iN).trans vY)) aEW (by omega)) ?_
  rintro _ aUM ⟨aJ1,rfl,aXQ,aXH,aEV⟩
  refine zD 3<|pE<|dW [1,1,1,1,1,1,1,1,1,0,1,0,0] [] (fun(zz:Int×Value×Cells×(List fF)×Cells)=>[(0,zP d),(6,zP b6),(7,zP b7),(15,zI zz.1)]) (fun(zz:Int×Value×Cells×(List fF)×Cells)=>[.l zz.2.2.1,.l zz.2.2.2.2,.b lP (.cells ⟨[zI 2,zI 0,zI 0,.slice eL kP.length eH,.slice dN jU.length dD,zS,zS]⟩ 86 (0,0)),.b b7 (.cells ⟨[.slice (some ⟨dP,0,none⟩) 2 2,.slice fp RE.length ep,zS,.slice eL kP.length eH,.slice dN jU.length dD,vR,.slice mI uJ.length mA,.slice mB Kt.length mr,zI aaY,zI aaX,zI aaV,zz.2.1]⟩ 40 (0,0)),.b b6 (.cells ⟨zO⟩ 40 (0,0))]) (fun(zz:Int×Value×Cells×(List fF)×Cells)=>(0≤zz.1∧zz.2.2.2.1.length+zz.1≤nf)∧aA zz.2.1 3 54 wA zz.2.2.2.1 zz.2.2.1∧A5 uJ.length Kt.length zz.2.2.2.1∧bJ vd xs d zz.2.2.2.2) (fun(zz:Int×Value×Cells×(List fF)×Cells)=>zz.1.toNat) (⟨aJ1,zS,[],[],aUM⟩) ⟨by simp only[List.length_nil];omega,aA.nil _ _ _,⟨(fun _ h=>by cases h),List.Pairwise.nil⟩,aEV⟩ [0,1,5,6,7] ?_
  rintro⟨j,vF,LF,fs,X⟩ hF K58 aEI rest
  dsimp only at hF
  have asY:=hB.1
  have aYb:=hA.1
  refine zD 6<|jj 5 [(0,zP d),(6,zP b6),(7,zP b7),(15,zI j),(214,.bool ((decide (j>0))&&(decide ((uJ.length:Int)>0))))] (fun gT=>?_) (fun hj=>?_)
  rotate_left
  refine js 209 (decide (j>0)) (fun h56=>?_) (fun h56=>?_)
  ·
   have afX:=h56
   replace afX:=of_decide_eq_true afX
   refine jd 5 [3]<|jw 214 (.bool ((decide (j>0))&&(decide ((uJ.length:Int)>0)))) (w:= .bool (decide ((uJ.length:Int)>0))) (by rw[h56]<;>rfl) ?_
   exact hj _ (by kernel_rfl) (by kernel_rfl)
  ·
   have afX:=h56
   replace afX:=of_decide_eq_false afX
   refine zD 5<|jw 214 (.bool ((decide (j>0))&&(decide ((uJ.length:Int)>0)))) (w:= .bool false) (by rw[h56]<;>rfl) ?_
   exact hj _ (by kernel_rfl) (by kernel_rfl)
  refine zD 1<|jj 5 [(0,zP d),(6,zP b6),(7,zP b7),(15,zI j),(220,.bool (((decide (j>0))&&(decide ((uJ.length:Int)>0)))&&(decide ((Kt.length:Int)>0))))] (fun gT=>?_) (fun hj=>?_)
  rotate_left
  refine js 215 ((decide (j>0))&&(decide ((uJ.length:Int)>0))) (fun h57=>?_) (fun h57=>?_)
  ·
   have auB:=h57
   try simp only[zB] at auB
   refine jd 5 [3]<|jw 220 (.bool (((decide (j>0))&&(decide ((uJ.length:Int)>0)))&&(decide ((Kt.length:Int)>0)))) (w:= .bool (decide ((Kt.length:Int)>0))) (by rw[h57]<;>rfl) ?_
   exact hj _ (by kernel_rfl) (by kernel_rfl)
  ·
   have auB:=h57
   try simp only[zB] at auB
   refine zD 5<|jw 220 (.bool (((decide (j>0))&&(decide ((uJ.length:Int)>0)))&&(decide ((Kt.length:Int)>0)))) (w:= .bool false) (by rw[h57]<;>rfl) ?_
   exact hj _ (by kernel_rfl) (by kernel_rfl)
  refine zD 1<|js 220 (((decide (j>0))&&(decide ((uJ.length:Int)>0)))&&(decide ((Kt.length:Int)>0))) (fun h58=>?_) (fun h58=>?_)
  ·
   try simp only[zB] at h58
   refine jd 8 [3]<|jc (vs:=[zP d,.agg ⟨[.slice (some ⟨dP,0,none⟩) 2 2,.slice fp RE.length ep,zS,.slice eL kP.length eH,.slice dN jU.length dD,vR,.slice mI uJ.length mA,.slice mB Kt.length mr,zI aaY,zI aaX,zI aaV,vF]⟩]) [1] (aT3 (hN.up ((((bW.trans ky).trans rS).trans iN).trans vY)) hF.2.2.2 (show bE _ _ _ _ _ from ⟨mI,Rc,Ra,mA,rfl,Rb,Oq,Oo⟩) (show bE _ _ _ _ _ from ⟨mB,Ov,Ot,mr,rfl,Ou,Ni,Nh⟩) (by omega)) ?_
   rintro _ aGC ⟨pW,rfl,aYp,aYo,aox⟩
   refine jn fun b16=>jd 6 [0,4,0]<|jp (vs:=[.agg ⟨[.slice (some ⟨dP,0,none⟩) 2 2,.slice fp RE.length ep,zS,.slice eL kP.length eH,.slice dN jU.length dD,vR,.slice mI uJ.length mA,.slice mB Kt.length mr,zI aaY,zI aaX,zI aaV,vF]⟩,.agg ⟨[zI pW.a,zI pW.b,.bool pW.same]⟩]) [2] LF (fun aB hs hZ=>az1 (x:=⟨pW.a,pW.b,pW.same⟩) (hF.2.1.lR hZ) (by omega))<|zD 2<|js 229 (!(C1 fs pW.a pW.b)) (fun h59=>?_) (fun h59=>?_)
   ·
    try simp only[zB] at h59
    refine jd 5 [4,0]<|jn fun aGf=>kL (sz:=3) (ps:=fs) (qs:=[(⟨pW.a,pW.b,pW.same⟩:fF)]) (enc:=wA) (w:= .slice (some ⟨aGf,0,none⟩) 1 1) [3] [0] [(aGf,.cells ⟨([(⟨pW.a,pW.b,pW.same⟩:fF)].map wA).flatten⟩ 54 (0,0))] (hF.2.1) (fun s _ hZ=>cb [(⟨pW.a,pW.b,pW.same⟩:fF)] (hZ _ (.head _)) (by intro p hp;rfl)) (fun p _=>ar rfl) (by simp<;>omega) (fun ba3 aVf Wq=>?_)
    obtain⟨axg,aw9,aB1⟩:=Wq.form
    subst aB1
    refine jd 5 [5]<|ja (j-1) (by omega)<|zD 2<|bO aEI (⟨j-1,(.slice axg ((fs++[(⟨pW.a,pW.b,pW.same⟩:fF)])).length aw9),aVf,(fs++[(⟨pW.a,pW.b,pW.same⟩:fF)]),aGC⟩) ⟨by simp only[List.length_append,List.length_cons,List.length_nil];omega,Wq,A5.snoc hF.2.2.1 (by dsimp only;omega) (by dsimp only;omega) (by assumption),aox⟩ (by omega) [0,3,4,5,6] (Sub.refl _)
   try simp only[zB] at h59
   refine zD 4<|ja (j-1) (by omega)<|zD 2<|bO aEI (⟨j-1,vF,LF,fs,aGC⟩) ⟨by dsimp only;omega,hF.2.1,hF.2.2.1,aox⟩ (by omega) [2,1,3,4,5] (Sub.refl _)
  try simp only[zB] at h58
  refine zD 4<|jf [0] LF (fun bbn Tb aQz=>?_)
  have hFA:=hF.2.1.lR aQz
  refine jd 1 [2] ?_
  obtain⟨aKI,aKj,aQ7⟩:=hR.2.1.form
  subst aQ7
  obtain⟨aKH,aKi,aQ6⟩:=hF.2.1.form
  subst aQ6
  refine jd 3 [3]<|aE q0.a.a.a.a.a.a (.agg ⟨[.slice (some ⟨dP,0,none⟩) 2 2,.slice fp RE.length ep,zS,.slice eL kP.length eH,.slice dN jU.length dD,(.slice aKI (rs).length aKj),.slice mI uJ.length mA,.slice mB Kt.length mr,zI aaY,zI aaX,zI aaV,(.slice aKH (fs).length aKi)]⟩) [3] [0] X (Sub.refl _) ⟨_,_,X,rfl,rfl,(((((bW.trans ky).trans rS).trans iN).trans vY).trans Tb),⟨ways,kP,Tz,rs,uJ,Kt,aaY,aaX,aaV,fs,yw⟩,_,rfl,⟨Ru.2.1,GF,⟨by dsimp only;omega,hR.2.2⟩,⟨by dsimp only;omega,hB.2.2.1⟩,⟨by dsimp only;omega,hA.2.2.1⟩,⟨Bn,Ck,rY⟩,⟨by dsimp only;omega,hF.2.2.1.1⟩,hF.2.2.1.2,rfl⟩,(by dsimp only;omega),⟨_,_,_,_,_,_,_,_,none,0,jU,rfl,(aSl.up (((rS.trans iN).trans vY).trans Tb)),(aCA.up ((iN.trans vY).trans Tb)),(rh.up ((((ky.trans rS).trans iN).trans vY).trans Tb)),Cj,(hRU.up (vY.trans Tb)),(hBF.up Tb),(hAF.up Tb),hFA⟩,hF.2.2.2⟩
 refine js 30 w30 (fun h65=>?_) (fun h65=>?_)
 ·
  subst h65
  refine jd 7 [1]<|aO 4 fun aVE aWn aSR=>jc [0] (aFQ (hN.up (bW.trans ky)) aET) ?_
  rintro _ X35 ⟨uu,rfl,aAs,aTm⟩
  refine jA aSR [[1]]<|aO 5 fun aVD aWm aua=>jn fun dH=>bI aua [1,2,3]<|zD 1<|aO 7 fun awC axw at7=>jn fun b38=>bI at7 [1,2,3,4]<|aO 8 fun awB axv at6=>aOE (E:=81) (sz:=1) ir (qs:=[(.slice (some ⟨dH,0,none⟩) 1 1:Value)]) (w:= .slice (some ⟨b38,0,none⟩) 1 1) [0] [(b38,.cells ⟨([(.slice (some ⟨dH,0,none⟩) 1 1:Value)].map ir).flatten⟩ 81 (0,0))] (fun s _ hZ=>cb [(.slice (some ⟨dH,0,none⟩) 1 1:Value)] (hZ _ (.head _)) (by intro p hp;rfl)) (by intro p hp;rw[List.mem_singleton] at hp;subst hp;exact ar rfl) (by simp<;>omega) (fun v39 L39 Cc=>?_)
  obtain⟨axf,aw8,afg⟩:=Cc.form
  subst afg
  refine bI at6 [1,2,3,4,5]<|zD 2<|aO 11 fun aVC aWl aSQ=>jd 1 [4]<|jA aSQ []<|zD 4<|jc (vs:=[zP d,zI 2]) [3] (sY (hN.up (bW.trans ky)) aTm (by omega)) ?_
  rintro _ X43 ⟨w43,rfl,aES⟩
  refine zD 1<|js 43 w43 (fun h71=>?_) (fun h71=>?_)
  ·
   subst h71
   refine jd 8 [4,4]<|jxo 1 Cc (show ([(.slice (some ⟨dH,0,none⟩) 1 1:Value)])[0]?=some (.slice (some ⟨dH,0,none⟩) 1 1:Value) from rfl) fun b50 aRU=>zD 1<|oQ 0 [1] L39 (fun s _ hZ=>cD Cc aRU hZ (show ([(.slice (some ⟨dH,0,none⟩) 1 1:Value)])[0]?=some (.slice (some ⟨dH,0,none⟩) 1 1:Value) from rfl))<|zD 1<|aO 10 fun aVB aWk aSP=>jc [0] (aFQ (hN.up (bW.trans ky)) aES) ?_
   rintro _ X54 ⟨u2,rfl,aO9,aTj⟩
   refine jA aSP [[1],[4],[4]]<|aO 11 fun aVA aWj at5=>jn fun b55=>bI at5 [1,2,3,4,5,6]<|aO 12 fun aVz aWi aSO=>kL (sz:=7) (ps:=[(⟨uu.k,uu.st,uu.ot,uu.fn,uu.fl,uu.tn,uu.tl⟩:aL)]) (qs:=[(⟨u2.k,u2.st,u2.ot,u2.fn,u2.fl,u2.tn,u2.tl⟩:aL)]) (enc:=mV) (w:= .slice (some ⟨b55,0,none⟩) 1 1) [4] [0] [(b55,.cells ⟨([(⟨u2.k,u2.st,u2.ot,u2.fn,u2.fl,u2.tn,u2.tl⟩:aL)].map mV).flatten⟩ 77 (0,0))] (FI (b:=dH) (T:=77) [(⟨uu.k,uu.st,uu.ot,uu.fn,uu.fl,uu.tn,uu.tl⟩:aL)] rfl (by intro p hp;rfl)) (fun s _ hZ=>cb [(⟨u2.k,u2.st,u2.ot,u2.fn,u2.fl,u2.tn,u2.tl⟩:aL)] (hZ _ (.head _)) (by intro p hp;rfl)) (fun p _=>ar rfl) (by simp<;>omega) (fun v56 L56 qm=>?_)
   obtain⟨NG,NC,Tw⟩:=qm.form
   subst Tw
   refine jA aSO [[5],[5]]<|jxo 1 Cc (show ([(.slice (some ⟨dH,0,none⟩) 1 1:Value)])[0]?=some (.slice (some ⟨dH,0,none⟩) 1 1:Value) from rfl) fun b57 aRT=>zD 1<|aO 15 fun aVy aWh aSN=>Re 3 0 [(.slice NG (([(⟨uu.k,uu.st,uu.ot,uu.fn,uu.fl,uu.tn,uu.tl⟩:aL)]++[(⟨u2.k,u2.st,u2.ot,u2.fn,u2.fl,u2.tn,u2.tl⟩:aL)])).length NC)] ((.slice NG (([(⟨uu.k,uu.st,uu.ot,uu.fn,uu.fl,uu.tn,uu.tl⟩:aL)]++[(⟨u2.k,u2.st,u2.ot,u2.fn,u2.fl,u2.tn,u2.tl⟩:aL)])).length NC):Value) Cc aRT (show ([(.slice (some ⟨dH,0,none⟩) 1 1:Value)])[0]?=some (.slice (some ⟨dH,0,none⟩) 1 1:Value) from rfl) rfl rfl (Nat.le_of_ble_eq_true rfl) fun L76 aPX=>jA aSN []<|zD 1<|Nl bK ⟨(.slice axf ([(.slice (some ⟨dH,0,none⟩) 1 1:Value)]).length aw8),L76++L56,[[uu,u2]],X54⟩ ⟨fun _ hk=>⟨_,aPX.lR hk.left,.cons (qm.lR hk.right) .nil⟩,⟨by simp,by simpa using ⟨aAs,aO9⟩⟩,aTj⟩ Nat.zero_lt_one [[0,1],[3],[5],[6]] (Sub.refl _)
  subst h71
  refine zD 2<|Nl bK ⟨(.slice axf ([(.slice (some ⟨dH,0,none⟩) 1 1:Value)]).length aw8),L39++[(dH,.cells ⟨[zI uu.k,zI uu.st,zI uu.ot,zI uu.fn,zI uu.fl,zI uu.tn,zI uu.tl]⟩ 77 (0,0))],[[uu]],X43⟩ ⟨fun _ hk=>⟨_,Cc.lR hk.left,.cons (bQ [uu] (hk.right _ (.head _)) (fun _ _=>rfl)) .nil⟩,⟨by simp,by simpa using aAs⟩,aES⟩ Nat.zero_lt_one [[1,3],[0],[4],[5]] (Sub.refl _)
 subst h65
 refine zD 2<|pE<|bO bK ⟨zS,[],[],X30⟩ ⟨fun _ _=>R6,⟨by simp,by simp⟩,aET⟩ Nat.zero_lt_one [0,1,2,3] (Sub.refl _)
theorem aT5{ro:Nat→Option Obj}(hl:bE ro vd 1 cv xs):eE zT 7 [vd] ro [] (fun r Y=>∃d,r= zP d∧bJ vd xs d Y):=by
 obtain⟨fI,rM,rK,eX,rfl,tG,lG,mH⟩:=hl
 refine bA au [] [] a8<|zD 8<|jn fun b5=>zD 3<|aE q0 (zP b5) [] [0] [(b5,.cells ⟨[.slice fI xs.length eX,zI 0,zU 11400714819323198485]⟩ 70 (0,0))] (Sub.refl _) ⟨_,_,rfl,rfl,_,rfl,0,_,Nat.zero_le _,rfl⟩
theorem dj.mem{R:α→β→Prop}{l:List α}{m:List β}(h:dj R l m){a:α}(ha:a∈l):∃b∈m,R a b:=by
 obtain⟨i,hi⟩:=List.getElem?_of_mem ha
 obtain⟨b,hb,hr⟩:=h.get hi
 exact⟨b,List.mem_of_getElem? hb,hr⟩
theorem mP{ro:Nat→Option Obj}{hv:List bu}(h:dj (rD ro) hv hd):∀p∈hv,∀c∈ma p,single c=true:=fun p hp=>by
 obtain⟨y,_,h1⟩:=h.mem hp
 obtain⟨w,c,s,a⟩:=p
 obtain⟨_,_,_,_,e,_⟩:=h1.2.2.2
 dsimp only at e
 subst e
 exact ar rfl
structure eG where
 a:Int
 b:Int
 c:Int
 d:Int
 e:Int
 f:Int
abbrev oL(x:eG):List Value:=[zI x.a,zI x.b,zI x.c,zI x.d,zI x.e,zI x.f]
def aai(K:aM)(l:List Value):Prop:=∃v0 v1 v3 v4 v5 v6 v7 vb fa fc,l=[v0,v1,.slice fa 0 fc,v3,v4,v5,v6,v7,zI K.gone,zI K.new,zI K.af,vb]∧∀v∈[v0,v1,v3,v4,v5,v6,v7,vb],single v=true
theorem aai.all{K:aM}{l:List Value}(h:aai K l):∀v∈l,single v=true:=by
 obtain⟨v0,v1,v3,v4,v5,v6,v7,vb,fa,fc,rfl,h⟩:=h
 simp only[List.mem_cons,List.not_mem_nil,or_false] at h ⊢
 rintro v (rfl|rfl|rfl|rfl|rfl|rfl|rfl|rfl|rfl|rfl|rfl|rfl)<;>first|rfl|exact h _ (by simp)
theorem j7{v:Value}{enc:α→List Value}{ps:List α}{ro:Nat→Option Obj}(h:bE ro v sz enc ps):single v=true:=by
 obtain⟨a,b,o,c,rfl,_⟩:=h;rfl
theorem Fo{a b c d e f g h:Value}(h1:single a=true)(h2:single b=true)(h3:single c=true)(h4:single d=true)(h5:single e=true)(h6:single f=true)(h7:single g=true)(h8:single h=true):∀v∈[a,b,c,d,e,f,g,h],single v=true:=by
 simp only[List.mem_cons,List.not_mem_nil,or_false]
 rintro v (rfl|rfl|rfl|rfl|rfl|rfl|rfl|rfl)<;>assumption
theorem gk.L{ro:Nat→Option Obj}{l:List Value}{K:aM}(h:gk ro l K):aai K l:=by
 obtain⟨v0,v1,v3,v4,v5,v6,v7,vb,fa,fc,hv,rfl,⟨_,h0,_⟩,⟨_,h1,_⟩,⟨h3,h4,_⟩,_,h5,h6,h7,hb⟩:=h
 exact⟨_,_,_,_,_,_,_,_,_,_,rfl,Fo (j7 h0) (j7 h1) (j7 h3) (j7 h4) (j7 h5) (j7 h6) (j7 h7) (j7 hb)⟩
theorem pn{P:Prop}{p:α}(h:([]:List α)[i]?=some p):P:=by simp at h
theorem fx{l:List α}{a:α}(h:l[i]?=some a):l.take (i+1)=l.take i++[a]:=by
 rw[List.take_succ,h];rfl
theorem xw{R:α→β→Prop}{ws:List α}{ls:List β}{w:α}{l:β}(h:dj R ws (ls.take i))(hl:ls[i]?=some l) (hr:R w l):dj R (ws++[w]) (ls.take (i+1)):=by
 rw[fx hl];exact h.snoc hr
end Go.L
