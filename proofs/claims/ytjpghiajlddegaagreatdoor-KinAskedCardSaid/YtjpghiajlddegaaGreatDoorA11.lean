/- Part 11 of the proof: a program logic, contracts, a theorem on goroutines. -/
import Derived.Test.YtjpghiajlddegaaGreatDoorA10
import Derived.KernelRfl
import Derived.Lib.UnsafeStr
import Derived.Test.YtjpghiajlddegaaGreatDoorProg
set_option maxRecDepth 100000
set_option linter.all false
namespace Go.L
open Go Go.Conc
variable {xs ys:List Int} {α β:Type} {Φ:Value→(Nat→Option Obj)→Cells→Prop} {vd vm s0 s1 s2 t0 t1 ru vb va:Value} {X fr:Cells} {d k i sz b bE:Nat} {oT:Nat→Option Obj} {n many lo hi ai gone new:Int} {P:Program} {o:Option JS} {args:List Value} {f:FuncId} {E:TypeId} {nm:ByteArray} {ag:Bool}
def rnM(P:Program):Sem α→List Nat→Cells→List (Nat×Nat)→Option (α×Cells×List (Nat×Nat))
 | .pure a,_,B,q=>some (a,B,q)
 | .load m a k,h::hs,B,q=>match m,a.spot,B[h]? with
  | .plain,none,some (b,.cells c _ _)=>match c[a.off]? with
   |some v=>rnM P (k v) hs B ((a.block,b)::q)
   |none=>none
  |_,_,_=>none
 | .shape r k,h::hs,B,q=>match B[h]? with
  |some (b,o)=>rnM P (k (Obj.shapeOf o)) hs B ((r,b)::q)
  |none=>none
 | .program k,hs,B,q=>rnM P (k P) hs B q
 |_,_,_,_=>none
theorem apQ:∀(m:Sem α) {hs:List Nat} {B B':Cells} {q q':List (Nat×Nat)} {v:α},rnM P m hs B q=some (v,B',q')→(∀p∈q',p.1=p.2)→
 (∀p∈q,p∈q')∧B'=B∧∀(s:St) (Q:α→St→Prop) (E:Halt→St→Prop),(∀x∈B,s.has x.1 x.2)→Q v s→bN P m s Q E:=by
 intro m
 induction m with
 |pure a=>intro hs B B' q q' v h _;simp only[rnM,Option.some.injEq,Prod.mk.injEq] at h;obtain⟨rfl,rfl,rfl⟩:=h;exact⟨fun _ h=>h,rfl,fun _ _ _ _ h=>h⟩
 |load m a k ih=>
  intro hs B B' q q' v h hq
  cases hs with
  |nil=>cases h
  |cons j hs=>
   unfold rnM at h
   split at h<;>try (cases h;done)
   rename_i b c t fz M9 hB
   split at h<;>try (cases h;done)
   rename_i u hu
   obtain⟨h1,h2,h3⟩:=ih _ h hq
   have Ee:a.block=b:=hq _ (h1 _ List.mem_cons_self)
   refine⟨fun p hp=>h1 p (List.mem_cons_of_mem _ hp),h2,fun s Q E hs hQ=>⟨rfl,M9,c,t,fz,u,?_,hu,h3 s Q E hs hQ⟩⟩
   rw[Ee];exact hs _ (List.mem_of_getElem? hB)
 |shape r k ih=>
  intro hs B B' q q' v h hq
  cases hs with
  |nil=>cases h
  |cons j hs=>
   simp only[rnM] at h
   split at h<;>try (cases h;done)
   rename_i b o hB
   obtain⟨h1,h2,h3⟩:=ih _ h hq
   have Ee:r=b:=hq _ (h1 _ List.mem_cons_self)
   refine⟨fun p hp=>h1 p (List.mem_cons_of_mem _ hp),h2,fun s Q E hs hQ=>⟨o,?_,h3 s Q E hs hQ⟩⟩
   rw[Ee];exact hs _ (List.mem_of_getElem? hB)
 |program k ih=>
  intro hs B B' q q' v h hq
  simp only[rnM] at h
  exact ih _ h hq
 |store=>intro hs B B' q q' v h hq;cases hs<;>cases h
 |new=>intro hs B B' q q' v h hq;cases hs<;>cases h
 |freeze=>intro hs B B' q q' v h hq;cases hs<;>cases h
 |frozen=>intro hs B B' q q' v h hq;cases hs<;>cases h
 |getObj=>intro hs B B' q q' v h hq;cases hs<;>cases h
 |setObj=>intro hs B B' q q' v h hq;cases hs<;>cases h
 |choose=>intro hs B B' q q' v h hq;cases hs<;>cases h
 |sys=>intro hs B B' q q' v h hq;cases hs<;>cases h
 |mark=>intro hs B B' q q' v h hq;cases hs<;>cases h
 |halt=>intro hs B B' q q' v h hq;cases hs<;>cases h
def abm:Op→Option (List Operand)
 | .call ⟨.builtin _,xs,_⟩=>some xs.toList
 |op=>E8 op
theorem N1{o:Oper}{xs:List Operand}(h:abm o.op=some xs){f g:Operand→Value}(hfg:∀x∈xs,f x=g x):execOp f o=execOp g o:=by
 unfold abm at h
 split at h
 ·rename_i b xs at_ heq
  simp only[Option.some.injEq] at h;subst h
  have:xs.map f=xs.map g:=Array.map_congr_left fun a ha=>hfg a (by simpa using ha)
  simp only[execOp,heq,resolve,this]
 ·exact tk h hfg
def smV(P:Program)(n:Nat)(hs:List Nat)(B:Cells)(p:Oper)(e:Env):Option (Value×List (Nat×Nat)):=match abm p.op with
 |some xs=>match xg n e xs with
  |some _=>match rnM P (execOp (evj n e) p) hs B [] with
   |some (.value v,_,q)=>some (v,q)
   |_=>none
  |none=>none
 |none=>none
theorem A2{γ:Type}{n:Nat}{f:Oper→Env→Option β}{g:β→γ}:e9 n (fun p e=>(f p e).map g) o=(e9 n f o).map g:=by
 unfold e9
 split
 ·unfold dG
  dsimp only
  split<;>rfl
 ·rfl
def smA(P:Program)(n:Nat)(hs:List Nat)(B:Cells)(p:Oper)(e:Env):Option Value:=(smV P n hs B p e).map (·.1)
def smL(P:Program)(n:Nat)(hs:List Nat)(B:Cells)(p:Oper)(e:Env):Option (List Nat):=(smV P n hs B p e).map fun x=>Ty x.2
def smR(P:Program)(n:Nat)(hs:List Nat)(B:Cells)(p:Oper)(e:Env):Option (List Nat):=(smV P n hs B p e).map fun x=>Rs x.2
section
variable {X:Cx} {o:Option JS}
theorem jmo(ps hs:List Nat)(B:Cells)(v:Value)(hj:J X (mU ps v B o))(hv:e9 X.n (smA X.P X.n hs B) o=some v:=by kernel_rfl)(hq:e9 X.n (smL X.P X.n hs B) o=e9 X.n (smR X.P X.n hs B) o:=by kernel_rfl)(hB:dY ps o=some B:=by kernel_rfl):J X o:=by
 rw[show smA X.P X.n hs B=fun p e=>(smV X.P X.n hs B p e).map (·.1) from rfl,A2] at hv
 rw[show smL X.P X.n hs B=fun p e=>(smV X.P X.n hs B p e).map (fun x=>Ty x.2) from rfl,show smR X.P X.n hs B=fun p e=>(smV X.P X.n hs B p e).map (fun x=>Rs x.2) from rfl,A2,A2] at hq
 cases hx:e9 X.n (smV X.P X.n hs B) o with
 |none=>rw[hx] at hv;cases hv
 |some x=>
  rcases x with ⟨v',q⟩
  rw[hx] at hv hq
  simp only[Option.map_some,Option.some.injEq] at hv hq
  subst hv
  refine jS (Φ:=fun u L'=>u=v'∧L'=B) ps B hx hB (fun p e hf=>?_) (fun u L' pU=>by obtain⟨rfl,rfl⟩:=pU;exact hj)
  unfold smV at hf
  split at hf<;>try (cases hf;done)
  rename_i xs aB
  split at hf<;>try (cases hf;done)
  rename_i ws QS
  split at hf<;>try (cases hf;done)
  rename_i u B' q2 bV
  simp only[Option.some.injEq,Prod.mk.injEq] at hf
  obtain⟨rfl,rfl⟩:=hf
  refine⟨fun c hc=>?_,fun R Q E hQ=>?_⟩
  ·rw[hc] at aB;cases aB
  ·rw[N1 aB (Mk (f:=ev X.n e) (fun x v h=>aG h) QS)]
   obtain⟨_,_,h3⟩:=apQ _ bV (lY hq)
   exact h3 _ _ _ (fun x hx=> .inr (List.mem_append_left _ hx)) (hQ _ _ ⟨rfl,rfl⟩)
theorem GM:∀(n t:Nat) (acc:Array Value),(Extern.BytealgMakeNoZero.digits n t acc).size=acc.size+n
 |0,_,_=>rfl
 |n+1,t,acc=>by
  simp only[Extern.BytealgMakeNoZero.digits,GM n,Array.size_push];omega
theorem jnz{ps rs:Array TypeId}{T:TypeId}{n:Nat}{z:List Value}(ef:EF X.P f (Extern.BytealgMakeNoZero.makeNoZero ps rs))(hT:rs[0]?=some T) (tf:TF X.P T (.slice E) sz bE z ag) (hn:n≤1000)
 (hj:∀b l,n≤l.length→J X (mU [] (.slice (some ⟨b,0,none⟩) n l.length) [(b,.cells ⟨l⟩ E (0,0))] o)) (hv:e9 X.n (agl X.n) o=some (f,[.int .i64 (n:Int)]):=by kernel_rfl) (hB:dY [] o=some []:=by kernel_rfl):J X o:=by
 obtain⟨ops,i,todo,k,e,w,kn,p,rfl,ho,hw,hc⟩:=dz hv
 obtain⟨xs,at_,aB,hx⟩:=Mj hc
 intro bW
 rcases p with ⟨dst,op,ty,pos,dc,g⟩
 dsimp only at aB;subst aB
 refine acp X.hC ho hw ef hx ?_
 have eM:Extern.BytealgMakeNoZero.makeNoZero ps rs ⟨[Value.int .i64 (n:Int)]⟩=(do
  let some t:=rs[0]?|stuck "bytealg.MakeNoZero: no result type"
  let .slice elem ←underlying t|stuck "bytealg.MakeNoZero: slice type expected"
  if (n:Int) <0||(n:Int)>2^48 then runtimePanic (.error "makeslice: len out of range")
  let cap ←choose (.appendCap (n:Int).toNat 0 elem)
  askRoom cap
  let bytes ←choose (.extern "internal/bytealg.MakeNoZero.bytes" 0)
  let a ←newRow elem (Extern.BytealgMakeNoZero.digits cap bytes #[])
  pure (.slice (some a) (n:Int).toNat cap)):=rfl
 rw[eM]
 simp only[hT,bh tf]
 rw[if_neg (by simp only[Bool.or_eq_true,decide_eq_true_eq];omega)]
 refine aa2 rfl fun q=>?_
 refine rV ?_
 show (if (Question.extern "internal/bytealg.MakeNoZero.bytes" 0).forced=true then _ else _)
 have key:∀cap bytes,n≤cap→bN X.P (newRow E (Extern.BytealgMakeNoZero.digits cap bytes #[]) >>= fun a=>pure (Value.slice (some a) ((n:Int).toNat) cap)) ⟨X.ro,den w⟩ (fun v s'=>ab X.C X.fn X.aC ops todo (KQ X k) (A X.n (upd dst v e) X.D) s') (fun _ _=>False):=by
  intro cap bytes og
  rw[jb]
  intro b hb
  have hl:(Extern.BytealgMakeNoZero.digits cap bytes #[]).toList.length=cap:=by
   rw[Array.length_toList,GM];simp
  have:=hj b (Extern.BytealgMakeNoZero.digits cap bytes #[]).toList (by omega)
  rw[nS ho] at this
  have:=this bW
  simp only[JP,gv,hl,wL] at this
  exact this
 split
 ·exact key _ _ (by show n≤(n:Int).toNat+_;rw[Int.toNat_natCast];exact Nat.le_add_right _ _)
 ·exact fun q2=>key _ _ (by show n≤(n:Int).toNat+_;rw[Int.toNat_natCast];exact Nat.le_add_right _ _)
def sdV(n:Nat)(p:Oper)(e:Env):Option (Addr×Nat×Nat):=match p.op with
 | .call ⟨.builtin .unsafeSliceData,xs,_⟩=>match xg n e xs.toList with
  |some [.slice (some a) l c]=>some (a,l,c)
  |_=>none
 |_=>none
theorem jsd{a:Addr}{l c:Nat}(h:c≠0)(hj:J X (mU [] (.pointer (some a)) [] o))(hv:e9 X.n (sdV X.n) o=some (a,l,c):=by kernel_rfl)(hB:dY [] o=some []:=by kernel_rfl):J X o:=by
 refine jS (Φ:=fun u L'=>u= .pointer (some a)∧L'=[]) [] [] hv hB (fun p e hf=>?_) (fun u L' pU=>by obtain⟨rfl,rfl⟩:=pU;exact hj)
 unfold sdV at hf
 split at hf<;>try (cases hf;done)
 rename_i xs at_ aB
 split at hf<;>try (cases hf;done)
 rename_i a' l' c' hx
 simp only[Option.some.injEq,Prod.mk.injEq] at hf
 obtain⟨rfl,rfl,rfl⟩:=hf
 refine⟨by rw[aB];simp,fun R Q E hQ=>?_⟩
 have e1:Builtin.unsafeSliceData_ at_ p.type ⟨[.slice (some a') l' c']⟩=pure (.pointer (some a')):=by
  show (if c'≠0 then _ else _)=_
  rw[if_pos h]
 simp only[execOp,aB,resolve,rE (show uM X.n e xs=_ from hx),af,invoke,builtin,e1]
 exact hQ _ _ ⟨rfl,rfl⟩
def usV(P:Program)(n:Nat)(p:Oper)(e:Env):Option (Nat×TypeId):=match p.op with
 | .call ⟨.builtin .unsafeString,xs,at_⟩=>match at_[0]? with
  |some pt=>match ba P pt with
   |some ⟨.pointer E,_,_,_⟩=>bif Nat.beq (P.cellsOf E) 1 then (match xg n e xs.toList with
    |some [.pointer (some ⟨b,0,none⟩),.int .i64 1]=>some (b,E)
    |_=>none) else none
   |_=>none
  |none=>none
 |_=>none
theorem jus(ps:List Nat)(x:Int)(l:List Value)(hj:∀L',J X (mU ps (.string ⟨#[x.toNat.toUInt8]⟩) L' o))(hv:e9 X.n (usV X.P X.n) o=some (b,E):=by kernel_rfl)(hB:dY ps o=some [(b,.cells ⟨.int .u8 x::l⟩ E (0,0))]:=by kernel_rfl):J X o:=by
 refine jS (Φ:=fun u L'=>u= .string ⟨#[x.toNat.toUInt8]⟩) ps _ hv hB (fun p e hf=>?_) (fun u L' pU=>by subst pU;exact hj L')
 unfold usV at hf
 split at hf<;>try (cases hf;done)
 rename_i xs at_ aB
 split at hf<;>try (cases hf;done)
 rename_i pt hpt
 split at hf<;>try (cases hf;done)
 rename_i E' _ _ _ dR
 cases hc:Nat.beq (X.P.cellsOf E') 1 with
 |false=>rw[hc] at hf;cases hf
 |true=>
  rw[hc] at hf
  simp only[cond_true] at hf
  split at hf<;>try (cases hf;done)
  rename_i b' hx
  simp only[Option.some.injEq,Prod.mk.injEq] at hf
  obtain⟨rfl,rfl⟩:=hf
  have hc:=Nat.eq_of_beq_eq_true hc
  obtain⟨bE,tf⟩:=au dR
  refine⟨by rw[aB];simp,fun R Q Er hQ=>?_⟩
  have e1:Builtin.unsafeString_ at_ p.type ⟨[.pointer (some ⟨b',0,none⟩),.int .i64 1]⟩=(do
   let n ←asInt (.int .i64 1)
   let some pt:=at_[0]?|stuck "unsafe.String: no argument types"
   if n <0 then runtimePanic (.error "unsafe.String: len out of range")
   if n>IntKind.i64.max then unsupported (.unsafePointer "String: a length above the largest int")
   if n=0 then pure (.string .empty)
   else if ←variablesAt ⟨b',0,none⟩ (←elemOf pt) n.toNat then do
    let s ←loadBytes ⟨b',0,none⟩ .empty n.toNat
    freeze ⟨b',0,none⟩ n.toNat
    pure (.string s)
   else unsupported (.unsafePointer "String: not so many bytes at ptr")):=rfl
  simp only[execOp,aB,resolve,rE (show uM X.n e xs=_ from hx),af,invoke,builtin,e1]
  simp only[asInt,asIntOf,aa,af,hpt,show ¬((1:Int) <0) by omega,show ¬((1:Int)>IntKind.i64.max) by decide,show ¬((1:Int)=0) by omega,if_false,elemOf,bh tf,variablesAt,eT]
  have hs:(⟨X.ro,[(b',Obj.cells ⟨Value.int .u8 x::l⟩ E' (0,0))]++R⟩:St).rw=[]++(b',Obj.cells ⟨Value.int .u8 x::l⟩ E' (0,0))::R:=rfl
  have hm:(⟨X.ro,[(b',Obj.cells ⟨Value.int .u8 x::l⟩ E' (0,0))]++R⟩:St).has b' (.cells ⟨Value.int .u8 x::l⟩ E' (0,0)):= .inr (by rw[hs];exact fy)
  refine⟨_,hm,?_⟩
  have aAX:=Go.Lib.liesAt_bytes (P:=X.P) hc ((Value.int .u8 x::l).length / X.P.cellsOf E') 1 (by rw[hc];simp)
  have pb:∀ {α β:Type} (a:α) (f:α→Sem β),(Sem.pure a).bind f=f a:=fun _ _=>rfl
  simp only[Obj.shapeOf,List.size_toArray,aa,af,pb]
  rw[show (1:Int).toNat=1 from rfl,aAX]
  simp only[af,aa,if_true,loadBytes]
  refine⟨rfl,rfl,_,_,_,.int .u8 x,hm,rfl,?_⟩
  simp only[aa,af]
  refine(if_neg (by omega:¬(1:Nat)=0)).mpr ?_
  refine⟨[],_,R,hs,?_⟩
  exact hQ (.string ⟨#[x.toNat.toUInt8]⟩) [(b',_)] rfl
def pnV(P:Program)(n:Nat)(p:Oper)(e:Env):Option (Nat×Nat):=match p.op with
 | .binOp .neq T x y _=>match ba P T with
  |some ⟨.pointer E,_,_,_⟩=>match ba P E with
   |some te=>bif Nat.blt 0 te.size then (match bu n e x with
    |some (.pointer (some ⟨b,0,none⟩))=>match bu n e y with
     |some (.pointer (some ⟨c,0,none⟩))=>some (b,c)
     |_=>none
    |_=>none) else none
   |none=>none
  |_=>none
 |_=>none
theorem alC{dep:Nat}{t:TypeId}{sz2 AE:Nat}{z z2:List Value}{ag2:Bool}(tf:TF P t (.pointer E) sz bE z ag){d:TypeDesc}(qt:TF P E d sz2 AE z2 ag2)(hs:sz2≠0)(a:Addr):ZB P (dep+1) t (.pointer (some a)) (.pointer (some a)) true:=by
 intro α s kk Q Er
 simp only[Op.equalIn,aa,bh tf,cm qt,hs,ne_eq,not_false_eq_true,if_true,sameAddr,beq_self_eq_true,af]
theorem jpn(hj:J X (mU [] (.bool false) [] o))(hv:e9 X.n (pnV X.P X.n) o=some (b,b):=by kernel_rfl)(hB:dY [] o=some []:=by kernel_rfl):J X o:=by
 refine jS (Φ:=fun u L'=>u= .bool false∧L'=[]) [] [] hv hB (fun p e hf=>?_) (fun u L' pU=>by obtain⟨rfl,rfl⟩:=pU;exact hj)
 unfold pnV at hf
 split at hf<;>try (cases hf;done)
 rename_i T x y T2 aB
 split at hf<;>try (cases hf;done)
 rename_i E' _ _ _ dR
 split at hf<;>try (cases hf;done)
 rename_i te tH
 cases hc:Nat.blt 0 te.size with
 |false=>rw[hc] at hf;cases hf
 |true=>
  rw[hc] at hf
  simp only[cond_true] at hf
  split at hf<;>try (cases hf;done)
  rename_i b' hx
  split at hf<;>try (cases hf;done)
  rename_i c' hy
  simp only[Option.some.injEq,Prod.mk.injEq] at hf
  obtain⟨rfl,rfl⟩:=hf
  obtain⟨bE,tf⟩:=au dR
  obtain⟨AE,qt⟩:=au tH
  have hc:0 <te.size:=by rwa[Nat.blt_eq] at hc
  refine⟨by rw[aB];simp,fun R Q Er hQ=>?_⟩
  have hs:te.size≠0:=by omega
  simp only[execOp,aB,aG hx,aG hy,eqGuard,aa,binOp,Op.equal,Op.maxDepth]
  simp only[Bool.not_true,Bool.false_eq_true,if_false,af,aa]
  rw[alC (dep:=9999) tf qt hs]
  exact hQ _ _ ⟨rfl,rfl⟩
end
attribute [irreducible] smV smA smL smR sdV usV pnV
section
variable {X:Cx} {o:Option JS}
def s0V(P:Program)(n:Nat)(p:Oper)(e:Env):Option (Addr×Nat×Nat):=match p.op with
 | .slice T x none (some y) none=>match ba P T with
  |some ⟨.slice E,_,_,_⟩=>match ba P E with
   |some _=>match bu n e x with
    |some (.slice (some ⟨b,0,none⟩) l c)=>match bu n e y with
     |some (.int .i64 0)=>some (⟨b,0,none⟩,l,c)
     |_=>none
    |_=>none
   |none=>none
  |_=>none
 |_=>none
theorem js0{a:Addr}{l c:Nat}(hj:J X (jW (.slice (some a) 0 c) o))(hv:dG X.n (s0V X.P X.n) o=some (a,l,c):=by kernel_rfl):J X o:=by
 refine jG hv (fun s p e ho hh hf=>?_) hj
 unfold s0V at hf
 split at hf<;>try (cases hf;done)
 rename_i T x y aB
 split at hf<;>try (cases hf;done)
 rename_i E _ _ _ dR
 split at hf<;>try (cases hf;done)
 rename_i te tH
 split at hf<;>try (cases hf;done)
 rename_i b l' c' hx
 split at hf<;>try (cases hf;done)
 rename_i hy
 simp only[Option.some.injEq,Prod.mk.injEq] at hf
 obtain⟨rfl,rfl,rfl⟩:=hf
 obtain⟨bE,tf⟩:=au dR
 obtain⟨AE,qt⟩:=au tH
 have key:∀s,Yields X.P X.n e p s (.slice (some ⟨b,0,none⟩) 0 c'):=by
  intro s s' mT f hf K E hK
  have hb:(0:Int)≤0∧(0:Int)≤(c':Int):=by omega
  simp only[execOp,aB,Option.map_some,Option.map_none,Instr.sliceAt,Instr.slice,hf _ _ hx,hf _ _ hy,aa,bh tf,Instr.sliceBounds,Instr.sliceBound,asIntOf,af,hb,and_self,if_true,cm qt]
  have he:(if c'=0 then (some ⟨b,0,none⟩:Option Addr) else some ((⟨b,0,none⟩:Addr).add (0*te.size)))=some ⟨b,0,none⟩:=by
   split
   ·rfl
   ·simp[dP]
  rw[show (0:Int).toNat=0 from rfl,he]
  exact hK
 exact⟨by rw[aB];rfl,fun _=>key _,fun _=>key⟩
end
attribute [irreducible] s0V
section
variable {X:Cx} {o:Option JS}
def cpV(P:Program)(n:Nat)(p:Oper)(e:Env):Option Nat:=match p.op with
 | .call ⟨.builtin .cap,⟨[x]⟩,⟨[T]⟩⟩=>match ba P T with
  |some ⟨.slice _,_,_,_⟩=>match bu n e x with
   |some (.slice _ _ c)=>some c
   |_=>none
  |_=>none
 |_=>none
theorem jcp{c:Nat}(hj:J X (jW (.int .i64 (c:Int)) o))(hv:dG X.n (cpV X.P X.n) o=some c:=by kernel_rfl):J X o:=by
 refine jG hv (fun s p e ho hh hf=>?_) hj
 unfold cpV at hf
 split at hf<;>try (cases hf;done)
 rename_i x T aB
 split at hf<;>try (cases hf;done)
 rename_i dR
 split at hf<;>try (cases hf;done)
 rename_i a l c' hx
 simp only[Option.some.injEq] at hf
 subst hf
 obtain⟨bE,tf⟩:=au dR
 have key:∀s,Yields X.P X.n e p s (.int .i64 (c':Int)):=by
  intro s s' mT f hf K E hK
  simp only[execOp,aB,resolve,invoke,builtin,List.map_toArray,List.map_cons,List.map_nil,hf _ _ hx,af,aa,Builtin.cap_,List.getElem?_toArray,List.getElem?_cons_zero,bh tf]
  exact hK
 exact⟨by rw[aB];rfl,fun _=>key _,fun _=>key⟩
end
attribute [irreducible] cpV
def tkO(is:List Nat)(o:Option JS):List Sg:=(qE is o).getD []
theorem aNC{X:Cx}{ι:Type}(is:List Nat)(p:List Nat)(Ks:List (Act→St→Prop))(ef:ι→Env)(wf:ι→List Sg)(Inv:ι→Prop)(μ:ι→Nat)(i0:ι)(h0:Inv i0)(ps:List Nat)(hb:∀i,Inv i→∀K,wm X K ef (fun i=>wf i++tkO is o) Inv μ (μ i)→∀rest,J X (stW X.P X.fn p (Ks++[K]) (ef i++rest) (wf i++tkO is o)))
 (h1:uf (oP (ef i0)) o=some (ef i0):=by kernel_rfl)(hd:∀i,ZI (oP (ef i)) (ef i)=some (ef i):=by intro _;kernel_rfl)(h2:qE ps o=some (wf i0++tkO is o):=by kernel_rfl)(hp:∀K,Ix X.P X.fn p (Ks++[K])=lpB K (xB o):=by intro _;kernel_rfl):J X o:=
 eG p Ks ef (fun i=>wf i++tkO is o) Inv μ i0 h0 ps hb h1 hd h2 hp
attribute [irreducible] tkO
abbrev RCG(ro:Nat→Option Obj)(Φ:Value→(Nat→Option Obj)→Cells→Prop)(fr:Cells):Ending→St→Prop:=fun en s'=>∃v aK Y,en= .returned v∧Sub ro aK∧(⟨aK,Y++fr⟩:St).le s'∧Φ v aK Y
def au5(P:Program)(f:FuncId)(args:List Value)(ro:Nat→Option Obj)(own:Cells)(Φ:Value→(Nat→Option Obj)→Cells→Prop):Prop:=
 ∀fr,Fn (C0 P) P f ⟨args⟩ ⟨ro,own++fr⟩ (RCG ro Φ fr)
theorem azE(hm:P.follows .mixedOrders=true){ro:Nat→Option Obj}{L:Cells}(own:List Sg)(kn:Cells)(hk:Knows ro kn)(h:∀fr,J (XC P hm f ro (RCG ro Φ fr)) (kJ P f args (own++[.l fr]) kn))(hL:den own=L:=by rfl):au5 P f args ro L Φ:=by
 subst hL
 intro fr
 have h:=h fr
 unfold kJ at h
 split at h<;>try exact h.elim
 rename_i fn hf
 split at h<;>try exact h.elim
 rename_i c hc
 cases hl:Nat.ble args.length fn.ntmps with
 |false=>rw[hl] at h;exact h.elim
 |true=>
  rw[hl] at h
  have ui:sI P f=fn:=by simp only[sI,hf]
  have:=h hk
  simp only[JP,XC,KQ,ui] at this
  have hd:den (own++[.l fr])=den own++fr:=by rw[ld];rfl
  rw[hd] at this
  exact JE wP hf hc hl this
section
variable {X:Cx} {o:Option JS}
theorem arC{vs:List Value}{own:Cells}(ps:List Nat)(hC:∀main T,X.C main T→C0 X.P main T)(hf:au5 X.P f vs X.ro own Φ)(hj:∀v aK Y,Sub X.ro aK→Φ v aK Y→J (X.at aK) (mU ps v Y o))(h1:e9 X.n (xE X.P X.n) o=some (f,vs):=by kernel_rfl)(h2:dY ps o=some own:=by kernel_rfl):J X o:=by
 obtain⟨ops,i,todo,k,e,w,kn,p,rfl,ho,hw,hc⟩:=dz h1
 obtain⟨ff,x,xs,at_,fi,ca,ws,aB,hx,ry,rfl⟩:=qj hc
 intro bW
 rcases p with ⟨dst,op,ty,pos,dc,g⟩
 dsimp only at aB;subst aB
 have hp:=bH h2
 have ui:Fn X.C X.P f ⟨fi++ws++ca⟩ ⟨X.ro,den w⟩ (RCG X.ro Φ (den (dE ps 0 w))):=fun main T hT c cs k1 k2=>
  (X.hC main T hT).mono _ ⟨X.ro,own++den (dE ps 0 w)⟩ _ (dQ (J:=[]) (by rw[List.append_nil];exact hp) (Sub.refl _)) (Fn.weaken hC (hf _) main T hT c cs k1 k2)
 refine tC (fi:=⟨fi⟩) (ca:=⟨ca⟩) (ws:=fi++ws++ca) X.hC ho hw hx ff ry (Qo fi ws ca) ui (fun v' s' hr=>?_) (fun ch s' hr=>by obtain⟨_,_,_,e,_⟩:=hr;cases e) (fun s' hr=>by obtain⟨_,_,_,e,_⟩:=hr;cases e)
 obtain⟨v,aK,Y,hv,hs,hle,pU⟩:=hr
 cases hv
 have:=hj _ aK Y hs pU
 rw[nS ho] at this
 have:=this (bW.up hs)
 simp only[JP,gv,Hk] at this
 exact this.more X.hC hle
theorem arA{Φ:Value→Cells→Prop}(hq:QR X (RC oT fr Φ))(v:Value)(hs ps:List Nat)(Y:Cells)(fD:Sub oT X.ro)(hR:Φ v Y)(h1:sG (jM X.P X.n X.fn hs o)=some v:=by kernel_rfl)(h2:QX (jM X.P X.n X.fn hs o)=QW (jM X.P X.n X.fn hs o):=by kernel_rfl)(h3:dY ps o=some (Y++fr):=by kernel_rfl)(h4:BV o=true:=by kernel_rfl):J X o:=
 aJ hq v hs ps (Y++fr) fD ⟨v,Y,rfl,St.le_refl _,hR⟩ h1 h2 h3 h4
theorem aNu{Φ:Value→Cells→Prop}(hq:QR X (RC oT fr Φ))(v:Value)(ps:List Nat)(A B:Cells)(fD:Sub oT X.ro)(hR:Φ v (A++B))(h1:sG (jM X.P X.n X.fn [] o)=some v:=by kernel_rfl)(h2:QX (jM X.P X.n X.fn [] o)=QW (jM X.P X.n X.fn [] o):=by kernel_rfl)(h3:dY ps o=some (A++(B++fr)):=by kernel_rfl)(h4:BV o=true:=by kernel_rfl):J X o:=
 aJ hq v [] ps ((A++B)++fr) fD ⟨v,A++B,rfl,St.le_refl _,hR⟩ h1 h2 (by rw[h3,List.append_assoc]) h4
theorem aNt(hq:QR X (RCG oT Φ fr))(v:Value)(ps:List Nat)(Y:Cells)(fD:Sub oT X.ro)(hR:Φ v X.ro Y)(h1:sG (jM X.P X.n X.fn [] o)=some v:=by kernel_rfl)(h2:QX (jM X.P X.n X.fn [] o)=QW (jM X.P X.n X.fn [] o):=by kernel_rfl)(h3:dY ps o=some (Y++fr):=by kernel_rfl)(h4:BV o=true:=by kernel_rfl):J X o:=
 aJ hq v [] ps (Y++fr) (Sub.refl _) ⟨v,X.ro,Y,rfl,fD,St.le_refl _,hR⟩ h1 h2 h3 h4
end
theorem RB{fn:Func}{c:Code}{R:Ending→St→Prop}{s:St}{os:Os}{out:Array (Nat×ByteArray)}{Post:Value→World→Prop}(hf:P.funcs[f]?=some fn) (hb:fn.body=some c) (hl:Nat.ble args.length fn.ntmps=true) (hi:P.inits.idxOf? f=none)
 (PB:∀v s0 w,R (.returned v) s0→aU s0 w→w.os=os→w.output=out→Post v w) (Hw:∀ch s,¬R (.panicked ch) s)
 (h:Wp (C0 P) f none c (qR P fn R) (A fn.ntmps (fN 0 args) []) s):T0 P os out Post (G (Frame.enter P f ⟨args⟩ .normal) []) s:=by
 have hT:C0 P true (T0 P os out Post):=⟨rfl,os,out,Post,rfl⟩
 have iG:=rX P os out Post
 let b:Frame:={(default:Frame) with fn:=f,kind:= .normal,roundOf:=none}
 have gY:Frame.enter P f ⟨args⟩ .normal=aM b (A fn.ntmps (fN 0 args) []) [.code c]:=by
  rw[←kA args fn.ntmps (Nat.le_of_ble_eq_true hl)]
  simp[Frame.enter,aM,hf,hb,b]
 rw[gY]
 refine h true _ hT b [] [] rfl (by simp[b]) rfl fun e a' s' q=>?_
 have last:∀(todo:List Item),a'.defers=[]→bN P (results fn a'.tmps) s' (fun v s'=>∃s0,s0.le s'∧R (.returned v) s0) (fun _ _=>False)→T0 P os out Post (G {aM b a' todo with mode:= .returning} []) s':=by
  intro todo hd hr
  refine Xl rfl fun w oY sV Dq=>?_
  obtain⟨r,es,bV,hl⟩:=gH _ _ _ _ w #[] hr oY
  rw[Array.empty_append] at bV
  cases r with
  |ok v w'=>
   obtain⟨s2,ht,s0,hle,hu⟩:=hl
   refine⟨v,w',seen P f es,s2,?_,PB v s0 w' hu (aU.of_le hle ht.jI) (ht.os.trans sV) (ht.output.trans Dq),ht.sub (iv _ _ _)⟩
   simp only[aM,b,G,stepG,unwind,hf,hd,bV,doReturn,hi,GStep.after,Array.append_empty,Bool.not_true,Bool.false_eq_true,if_false]
  |halt _ _=>obtain⟨_,_,hu⟩:=hl;exact hu.elim
 cases e with
 |normal=>exact iG.go rfl rfl (g':=G {aM b a' [] with mode:= .returning} []) (fun w=>by simp[G,stepG,stepG.exec,aM,b]) (last _ q.1 q.2)
 |ret=>exact fun todo=>iG.go rfl rfl (g':=G {aM b a' (.code .ret::todo) with mode:= .returning} []) (fun w=>by simp[G,stepG,stepG.exec,aM,b]) (last _ q.1 q.2)
 |panic ch=>exact(Hw _ _ q.2).elim
 |exit id=>exact q.elim
 |goto l=>exact q.elim
 |outgrown=>exact q.elim
def aoG(P:Program)(f:FuncId)(args:List Value)(ro:Nat→Option Obj)(Φ:Value→Cells→Prop):Prop:=
 ∀os out (Post:Value→World→Prop),(∀v Y w,Φ v Y→aU ⟨ro,Y⟩ w→w.os=os→w.output=out→Post v w)→T0 P os out Post (G (Frame.enter P f ⟨args⟩ .normal) []) ⟨ro,[]⟩
theorem azB(hm:P.follows .mixedOrders=true){ro:Nat→Option Obj}{Φ:Value→Cells→Prop}(hi:P.inits.idxOf? f=none)(kn:Cells)(hk:Knows ro kn)(h:∀fr,J (XC P hm f ro (RC ro fr Φ)) (kJ P f args [.l fr] kn)):aoG P f args ro Φ:=by
 intro os out Post PB
 have h:=h []
 unfold kJ at h
 split at h<;>try exact h.elim
 rename_i fn hf
 split at h<;>try exact h.elim
 rename_i c hc
 cases hl:Nat.ble args.length fn.ntmps with
 |false=>rw[hl] at h;exact h.elim
 |true=>
  rw[hl] at h
  have ui:sI P f=fn:=by simp only[sI,hf]
  have:=h hk
  simp only[JP,XC,KQ,ui] at this
  refine RB hf hc hl hi (fun v s0 w hr oY sV Dq=>?_) (fun ch s hr=>?_) this
  ·obtain⟨v',Y,e,hle,pU⟩:=hr
   cases e
   refine PB _ Y w pU ?_ sV Dq
   have:=aU.of_le hle oY
   rwa[List.append_nil] at this
  ·obtain⟨v',Y,e,_⟩:=hr;cases e
open Go.Proofs
theorem av:Tryz.prog.follows .mixedOrders=true:=by kernel_rfl
theorem zB:(∀a b:Bool,((a&&b)=true)=(a=true∧b=true))∧(∀a b:Bool,((a||b)=true)=(a=true∨b=true))∧(∀a b:Bool,((a&&b)=false)=(a=false∨b=false))∧(∀a b:Bool,((a||b)=false)=(a=false∧b=false))∧(∀b:Bool,((!b)=true)=(b=false))∧(∀b:Bool,((!b)=false)=(b=true))∧(∀(p:Prop) [Decidable p],(decide p=true)=p)∧(∀(p:Prop) [Decidable p],(decide p=false)=¬p)∧((¬True)=False)∧(∀p:Prop,(p∨False)=p)∧(∀p:Prop,(False∨p)=p):=
 ⟨Bool.and_eq_true,Bool.or_eq_true,by simp,by simp,by simp,by simp,by simp,by simp,by simp,by simp,by simp⟩
@[reducible] noncomputable def zT:Program:=Tryz.prog
abbrev zS:Value:= .slice none 0 0
abbrev zP(b:Nat):Value:= .pointer (some ⟨b,0,none⟩)
abbrev zI(n:Int):Value:= .int .i64 n
abbrev zU(n:Int):Value:= .int .u64 n
theorem zG(l:List α)(k:Nat)(h:k <l.length:=by omega):∃x,l[k]?=some x:=⟨_,List.getElem?_eq_getElem h⟩
theorem zJ{X:Cx}(t:Nat)(p:Prop)[Decidable p](h1:p→J X (N0 t (.bool true) o))(h2:¬p→J X (N0 t (.bool false) o))(hv:IK t o=some (.bool (decide p)):=by kernel_rfl):J X o:=
 js t (decide p) (fun h=>h1 (of_decide_eq_true h)) (fun h=>h2 (of_decide_eq_false h)) hv
theorem zD{X:Cx}(k:Nat)(h:J X (res (Zw X.P X.n k [] o)))(he:lhs (Zw X.P X.n k [] o)=rhs (Zw X.P X.n k [] o):=by kernel_rfl):J X o:=jd k [] h he
def iV(n lo hi:Int):Bool:=decide (lo≤n)&&decide (n≤hi)
theorem fZ{ro:Nat→Option Obj}:dL zT 89 [zI n,zI lo,zI hi] ro (.bool (iV n lo hi)):=by
 refine bI av [] [] bB<|zD 10<|jj 4 [(6,.bool false),(14,.bool ((decide (lo≤n))&&(decide (n≤hi))))] (fun gJ=>?_) (fun hj=>?_)
 rotate_left
 refine js 10 (decide (lo≤n)) (fun h1=>?_) (fun h1=>?_)
 ·
  have gh:=h1
  replace gh:=of_decide_eq_true gh
  refine zD 4<|jw 14 (.bool ((decide (lo≤n))&&(decide (n≤hi)))) (w:= .bool (decide (n≤hi))) (by rw[h1]<;>rfl) ?_
  exact hj _ (by kernel_rfl) (by kernel_rfl)
 ·
  have gh:=h1
  replace gh:=of_decide_eq_false gh
  refine zD 4<|jw 14 (.bool ((decide (lo≤n))&&(decide (n≤hi)))) (w:= .bool false) (by rw[h1]<;>rfl) ?_
  exact hj _ (by kernel_rfl) (by kernel_rfl)
 refine zD 3<|aJ q0 (.bool ((decide (lo≤n))&&(decide (n≤hi)))) [] [] [] (Sub.refl _) ⟨_,_,rfl,rfl,rfl,rfl⟩
theorem iW{ro:Nat→Option Obj}:dL zT 192 [zI n,zI lo,zI hi] ro (.bool (iV n lo hi)):=by
 refine bI av [] [] bB<|zD 10<|jj 4 [(6,.bool false),(14,.bool ((decide (lo≤n))&&(decide (n≤hi))))] (fun gJ=>?_) (fun hj=>?_)
 rotate_left
 refine js 10 (decide (lo≤n)) (fun h1=>?_) (fun h1=>?_)
 ·
  have gh:=h1
  replace gh:=of_decide_eq_true gh
  refine zD 4<|jw 14 (.bool ((decide (lo≤n))&&(decide (n≤hi)))) (w:= .bool (decide (n≤hi))) (by rw[h1]<;>rfl) ?_
  exact hj _ (by kernel_rfl) (by kernel_rfl)
 ·
  have gh:=h1
  replace gh:=of_decide_eq_false gh
  refine zD 4<|jw 14 (.bool ((decide (lo≤n))&&(decide (n≤hi)))) (w:= .bool false) (by rw[h1]<;>rfl) ?_
  exact hj _ (by kernel_rfl) (by kernel_rfl)
 refine zD 3<|aJ q0 (.bool ((decide (lo≤n))&&(decide (n≤hi)))) [] [] [] (Sub.refl _) ⟨_,_,rfl,rfl,rfl,rfl⟩
def cZ(p:α→Bool):List α→Nat→Int
 | [],_=> -1
 |x::l,k=>bif p x then k else cZ p l (k+1)
theorem fT{l:List α}{x:α}(h:l[k]?=some x):l.drop k=x::l.drop (k+1):=by
 obtain⟨h1,h2⟩:=List.getElem?_eq_some_iff.1 h
 rw[List.drop_eq_getElem_cons h1,h2]
theorem eP{l:List α}(h:¬k <l.length):l.drop k=[]:=List.drop_eq_nil_of_le (by omega)
theorem jF{p:α→Bool}{l:List α}{x:α}(h:l[k]?=some x):cZ p (l.drop k) k=bif p x then (k:Int) else cZ p (l.drop (k+1)) (k+1):=by rw[fT h];rfl
theorem qe{p:α→Bool}{l:List α}(h:¬k <l.length):cZ p (l.drop k) k= -1:=by rw[eP h];rfl
abbrev db(x:Int):List Value:=[zI x]
theorem aru{v:Value}{ro:Nat→Option Obj}(hl:bL ro v 1 db xs)(hn:xs.length≤1000000):dL zT 41 [v,zI n] ro (zI (cZ (fun y=>decide (y=n)) xs 0)):=by
 obtain⟨fC,rj,ri,eV,rfl,tj,lB,mz⟩:=hl
 refine bI av [] [] bB<|zD 10<|eG [1,0,1,0,0] [] (fun(zz:Nat)=>[(0,.slice fC xs.length eV),(1,zI n),(5,zI (zz:Int))]) (fun(zz:Nat)=>[]) (fun(zz:Nat)=>zz≤xs.length∧cZ (fun y=>decide (y=n)) xs 0=cZ (fun y=>decide (y=n)) (xs.drop zz) zz) (fun(zz:Nat)=>xs.length-zz) 0 ⟨by omega,rfl⟩ [] ?_
 rintro k hI K1 bU rest
 refine zD 8<|zJ 9 ((k:Int) <(xs.length:Int)) (fun h1=>?_) fun h1=>?_
 ·
  refine zD 8 ?_
  obtain⟨fK,eN⟩:=zG xs k
  refine iE eV 1 lB eN<|jl 0 (mz _ _ eN)<|zD 3<|zJ 17 (fK=n) (fun h2=>?_) fun h2=>?_
  ·
   refine zD 7<|aJ q0 (zI (k:Int)) [] [] [] (Sub.refl _) ⟨_,_,rfl,rfl,by rw[hI.2,jF eN];simp[*],rfl⟩
  refine zD 4<|ja ((k:Int)+1) (by omega)<|zD 2<|bO bU (k+1) ⟨by omega,by rw[hI.2,jF eN];simp[*]⟩ (by omega) [] (Sub.refl _)
 refine zD 7<|aJ q0 (zI (-1)) [] [] [] (Sub.refl _) ⟨_,_,rfl,rfl,by rw[hI.2,qe (by omega)],rfl⟩
def dA(n:Nat):List Int:=(List.range n).map fun(i:Nat)=>(i:Int)
theorem uY(n:Nat):dA (n+1)=dA n++[(n:Int)]:=by simp[dA,List.range_succ]
theorem lA(n:Nat):(dA n).length=n:=by simp[dA]
def bJ(v:Value)(xs:List Int)(d:Nat)(X:Cells):Prop:=∃(k:Nat) (cL:Int),k≤xs.length∧X=[(d,.cells ⟨[v,zI k,zU cL]⟩ 93 (0,0))]
def Dn(ro:Nat→Option Obj)(v:Value)(xs:List Int):Prop:=bL ro v 1 db xs∧xs.length≤4611686018427387904
theorem Dn.up{ro aK:Nat→Option Obj}{v:Value}(h:Dn ro v xs)(hs:Sub ro aK):Dn aK v xs:=⟨h.1.up hs,h.2⟩
theorem toNonzero(h0:¬n <1)(h1:n≤1000000):IntKind.u64.wrap (n+1)≠0:=by
 rw[rN .u64 rfl _ (by omega) (by simp[IntKind.bits];omega)];omega
theorem toRange{w:Int}(h0:¬n <1)(h1:n≤1000000)(hw:0≤w):0≤IntKind.i64.wrap (Int.tmod (aV .u64 w 16) (IntKind.u64.wrap (n+1)))∧IntKind.i64.wrap (Int.tmod (aV .u64 w 16) (IntKind.u64.wrap (n+1)))≤n:=by
 have e:IntKind.u64.wrap (n+1)=n+1:=rN .u64 rfl _ (by omega) (by simp[IntKind.bits];omega)
 rw[e]
 have h2:0≤aV .u64 w 16:=Int.fdiv_nonneg hw (by decide)
 have h3:=Int.tmod_nonneg (n+1) h2
 have h4:=Int.tmod_lt_of_pos (aV .u64 w 16) (show 0 <n+1 by omega)
 rw[j8 _ (by omega)]
 omega
theorem aSX{ro:Nat→Option Obj}(hN:Dn ro vd xs)(hD:bJ vd xs d X):eI zT 61 [zP d] ro X (fun r Y=>∃w:Int,r= zU w∧0≤w∧w <18446744073709551616∧bJ vd xs d Y):=by
 obtain⟨k,cL,hk,rfl⟩:=hD
 obtain⟨hl,hn⟩:=hN
 obtain⟨fC,rj,ri,eV,rfl,tj,lB,mz⟩:=hl
 refine bI av [.b d (.cells ⟨[.slice fC xs.length eV,zI (k:Int),zU cL]⟩ 93 (0,0))] [] bB<|jd 19 [0,0]<|aN 13 fun C1 C7 AT=>jd 1 [0]<|gX AT []<|jd 16 [0,0]<|aN 13 fun AY A5 Ah=>jd 1 [0]<|gX Ah []<|jd 16 [0,0]<|aN 13 fun qZ q6 p7=>jd 1 [0]<|gX p7 []<|jd 15 [0,0]<|zJ 52 ((k:Int) <(xs.length:Int)) (fun h4=>?_) fun h4=>?_
 ·
  refine jd 16 [0,0,0] ?_
  obtain⟨x66,FL⟩:=zG xs k
  refine iE eV 1 lB FL<|jl 0 (mz _ _ FL)<|zD 5<|aN 20 fun rK rR qz=>jd 1 [0]<|gX qz []<|jd 6 [0]<|ja ((k:Int)+1) (by omega)<|jd 30 [0,0]<|aJ q0 (zU (cW .u64 (IntKind.u64.wrap ((cW .u64 (IntKind.u64.wrap ((cW .u64 (cW .u64 (cW .u64 cL (dD .u64 cL 13)) (aV .u64 (cW .u64 cL (dD .u64 cL 13)) 7)) (dD .u64 (cW .u64 (cW .u64 cL (dD .u64 cL 13)) (aV .u64 (cW .u64 cL (dD .u64 cL 13)) 7)) 17))+(IntKind.u64.wrap ((IntKind.u64.wrap x66)*13787848793156543929)))) (aV .u64 (IntKind.u64.wrap ((cW .u64 (cW .u64 (cW .u64 cL (dD .u64 cL 13)) (aV .u64 (cW .u64 cL (dD .u64 cL 13)) 7)) (dD .u64 (cW .u64 (cW .u64 cL (dD .u64 cL 13)) (aV .u64 (cW .u64 cL (dD .u64 cL 13)) 7)) 17))+(IntKind.u64.wrap ((IntKind.u64.wrap x66)*13787848793156543929)))) 30))*10723151780598845931)) (aV .u64 (IntKind.u64.wrap ((cW .u64 (IntKind.u64.wrap ((cW .u64 (cW .u64 (cW .u64 cL (dD .u64 cL 13)) (aV .u64 (cW .u64 cL (dD .u64 cL 13)) 7)) (dD .u64 (cW .u64 (cW .u64 cL (dD .u64 cL 13)) (aV .u64 (cW .u64 cL (dD .u64 cL 13)) 7)) 17))+(IntKind.u64.wrap ((IntKind.u64.wrap x66)*13787848793156543929)))) (aV .u64 (IntKind.u64.wrap ((cW .u64 (cW .u64 (cW .u64 cL (dD .u64 cL 13)) (aV .u64 (cW .u64 cL (dD .u64 cL 13)) 7)) (dD .u64 (cW .u64 (cW .u64 cL (dD .u64 cL 13)) (aV .u64 (cW .u64 cL (dD .u64 cL 13)) 7)) 17))+(IntKind.u64.wrap ((IntKind.u64.wrap x66)*13787848793156543929)))) 30))*10723151780598845931)) 31))) [] [0] [(d,.cells ⟨[.slice fC xs.length eV,zI ((k:Int)+1),zU (IntKind.u64.wrap ((cW .u64 (cW .u64 (cW .u64 cL (dD .u64 cL 13)) (aV .u64 (cW .u64 cL (dD .u64 cL 13)) 7)) (dD .u64 (cW .u64 (cW .u64 cL (dD .u64 cL 13)) (aV .u64 (cW .u64 cL (dD .u64 cL 13)) 7)) 17))+(IntKind.u64.wrap ((IntKind.u64.wrap x66)*13787848793156543929))))]⟩ 93 (0,0))] (Sub.refl _) ⟨_,_,rfl,rfl,_,rfl,(tF _ _).1,(tF _ _).2,k+1,_,(by omega),rfl⟩
 refine jd 28 [0]<|aJ q0 (zU (cW .u64 (IntKind.u64.wrap ((cW .u64 (cW .u64 (cW .u64 (cW .u64 cL (dD .u64 cL 13)) (aV .u64 (cW .u64 cL (dD .u64 cL 13)) 7)) (dD .u64 (cW .u64 (cW .u64 cL (dD .u64 cL 13)) (aV .u64 (cW .u64 cL (dD .u64 cL 13)) 7)) 17)) (aV .u64 (cW .u64 (cW .u64 (cW .u64 cL (dD .u64 cL 13)) (aV .u64 (cW .u64 cL (dD .u64 cL 13)) 7)) (dD .u64 (cW .u64 (cW .u64 cL (dD .u64 cL 13)) (aV .u64 (cW .u64 cL (dD .u64 cL 13)) 7)) 17)) 30))*10723151780598845931)) (aV .u64 (IntKind.u64.wrap ((cW .u64 (cW .u64 (cW .u64 (cW .u64 cL (dD .u64 cL 13)) (aV .u64 (cW .u64 cL (dD .u64 cL 13)) 7)) (dD .u64 (cW .u64 (cW .u64 cL (dD .u64 cL 13)) (aV .u64 (cW .u64 cL (dD .u64 cL 13)) 7)) 17)) (aV .u64 (cW .u64 (cW .u64 (cW .u64 cL (dD .u64 cL 13)) (aV .u64 (cW .u64 cL (dD .u64 cL 13)) 7)) (dD .u64 (cW .u64 (cW .u64 cL (dD .u64 cL 13)) (aV .u64 (cW .u64 cL (dD .u64 cL 13)) 7)) 17)) 30))*10723151780598845931)) 31))) [] [0] [(d,.cells ⟨[.slice fC xs.length eV,zI (k:Int),zU (cW .u64 (cW .u64 (cW .u64 cL (dD .u64 cL 13)) (aV .u64 (cW .u64 cL (dD .u64 cL 13)) 7)) (dD .u64 (cW .u64 (cW .u64 cL (dD .u64 cL 13)) (aV .u64 (cW .u64 cL (dD .u64 cL 13)) 7)) 17))]⟩ 93 (0,0))] (Sub.refl _) ⟨_,_,rfl,rfl,_,rfl,(tF _ _).1,(tF _ _).2,k,_,(by omega),rfl⟩
theorem DD{ro:Nat→Option Obj}(hN:Dn ro vd xs)(hD:bJ vd xs d X)(hn:n≤1000000):eI zT 29 [zP d,zI n] ro X (fun r Y=>∃w:Int,r= zI w∧0≤w∧(w≤n∨w=0)∧bJ vd xs d Y):=by
 refine bI av [.l X] [] bB<|zD 10<|zJ 6 (n <1) (fun h1=>?_) fun h1=>?_
 ·
  refine zD 6<|aJ q0 (zI 0) [] [0] X (Sub.refl _) ⟨_,_,rfl,rfl,_,rfl,(by omega),(by omega),hD⟩
 refine zD 5<|jc [0] (aSX hN hD) ?_
 rintro _ X8 ⟨w8,rfl,hw8,hx8,hD8⟩
 refine zD 2<|ja (n+1) (by omega)<|zD 1<|jrm (k:= .u64) (a:=(aV .u64 w8 16)) (b:=(IntKind.u64.wrap (n+1))) 91 (toNonzero h1 hn)<|zD 4<|aJ q0 (zI (IntKind.i64.wrap (Int.tmod (aV .u64 w8 16) (IntKind.u64.wrap (n+1))))) [] [0] X8 (Sub.refl _) ⟨_,_,rfl,rfl,_,rfl,(toRange h1 hn hw8).1,.inl (toRange h1 hn hw8).2,hD8⟩
theorem Ax{ro:Nat→Option Obj}(hN:Dn ro vd xs)(hD:bJ vd xs d X)(Ab: -1000≤lo∧lo≤1000)(hhi: -1000≤hi∧hi≤1000):eI zT 32 [zP d,zI lo,zI hi] ro X (fun r Y=>∃w:Int,r= zI w∧lo≤w∧(w≤hi∨w=lo)∧bJ vd xs d Y):=by
 refine bI av [.l X] [] bB<|zD 10<|ja (hi-lo) (by omega)<|jc (vs:=[zP d,zI (hi-lo)]) [0] (DD hN hD (by omega)) ?_
 rintro _ X12 ⟨w12,rfl,bb0,pX,aSl⟩
 refine ja (lo+w12) (by omega)<|zD 3<|aJ q0 (zI (lo+w12)) [] [0] X12 (Sub.refl _) ⟨_,_,rfl,rfl,_,rfl,(by omega),(by omega),aSl⟩
theorem sM{ro:Nat→Option Obj}(hN:Dn ro vd xs)(hD:bJ vd xs d X)(hn:0≤n∧n≤1000):eI zT 26 [zP d,zI n] ro X (fun r Y=>∃w:Bool,r= .bool w∧bJ vd xs d Y):=by
 refine bI av [.l X] [] bB<|zD 8<|ja (n-1) (by omega)<|jc (vs:=[zP d,zI (n-1)]) [0] (DD hN hD (by omega)) ?_
 rintro _ X8 ⟨w8,rfl,hw8,hx8,hD8⟩
 refine zD 4<|aJ q0 (.bool (decide (w8=0))) [] [0] X8 (Sub.refl _) ⟨_,_,rfl,rfl,_,rfl,hD8⟩
def bs(l:List Nat):ByteArray:=⟨(l.map UInt8.ofNat).toArray⟩
abbrev pf(x:ByteArray):List Value:=[.string x]
structure cP where
 f:ByteArray
 t:ByteArray
abbrev iB(x:cP):List Value:=[.string x.f,.string x.t]
structure aI where
 name:ByteArray
 st:Int
 no:Int
 head:Int
 bold:Bool
abbrev eJ(x:aI):List Value:=[.string x.name,.int .i64 x.st,.int .i64 x.no,.int .i64 x.head,.bool x.bold]
structure eR where
 a:Int
 b:Int
 same:Bool
abbrev oK(x:eR):List Value:=[.int .i64 x.a,.int .i64 x.b,.bool x.same]
structure bM where
 name:ByteArray
 under:Int
abbrev oL(x:bM):List Value:=[.string x.name,.int .i64 x.under]
structure aQ where
 k:Int
 st:Int
 ot:Int
 fn:Int
 fl:Int
 tn:Int
 tl:Int
abbrev kB(x:aQ):List Value:=[.int .i64 x.k,.int .i64 x.st,.int .i64 x.ot,.int .i64 x.fn,.int .i64 x.fl,.int .i64 x.tn,.int .i64 x.tl]
theorem nt{ps:List α}{x y:α}(h1:ps[i]?=some x) (h2:ps[k]?=some y):((ps.set i y).set k x).Perm ps:=by
 obtain⟨a,rfl⟩:=List.getElem?_eq_some_iff.1 h1
 obtain⟨b,rfl⟩:=List.getElem?_eq_some_iff.1 h2
 exact List.set_set_perm a b
theorem agK{ro:Nat→Option Obj}(hN:Dn ro vd xs)(hD:bJ vd xs d X)(hm:bL ro vm 1 db ys)(hy:0 <ys.length∧ys.length≤1000):eI zT 33 [zP d,vm] ro X (fun r Y=>∃w:Int,r= zI w∧w∈ys∧bJ vd xs d Y):=by
 obtain⟨qma,qmb,qmo,qmc,rfl,qmk,qmh,qml⟩:=hm
 refine bI av [.l X] [] bB<|zD 10<|ja ((ys.length:Int)-1) (by omega)<|jc (vs:=[zP d,zI ((ys.length:Int)-1)]) [0] (DD hN hD (by omega)) ?_
 rintro _ X10 ⟨w10,rfl,adN,rq,Tq⟩
 obtain⟨x11,SJ⟩:=zG ys (w10.toNat)
 refine M7 w10 qmc 1 qmh SJ (by omega)<|jl 0 (qml _ _ SJ)<|zD 3<|aJ q0 (zI x11) [] [0] X10 (Sub.refl _) ⟨_,_,rfl,rfl,_,rfl,List.mem_of_getElem? SJ,Tq⟩
theorem Wv{ys:List ByteArray}{ro:Nat→Option Obj}(hN:Dn ro vd xs)(hD:bJ vd xs d X)(hm:bL ro vm 1 pf ys)(hy:0 <ys.length∧ys.length≤1000):eI zT 60 [zP d,vm] ro X (fun r Y=>∃w:ByteArray,r= .string w∧w∈ys∧bJ vd xs d Y):=by
 obtain⟨qma,qmb,qmo,qmc,rfl,qmk,qmh,qml⟩:=hm
 refine bI av [.l X] [] bB<|zD 10<|ja ((ys.length:Int)-1) (by omega)<|jc (vs:=[zP d,zI ((ys.length:Int)-1)]) [0] (DD hN hD (by omega)) ?_
 rintro _ X10 ⟨w10,rfl,adN,rq,Tq⟩
 obtain⟨x11,SJ⟩:=zG ys (w10.toNat)
 refine M7 w10 qmc 1 qmh SJ (by omega)<|jl 0 (qml _ _ SJ)<|zD 3<|aJ q0 (.string x11) [] [0] X10 (Sub.refl _) ⟨_,_,rfl,rfl,_,rfl,List.mem_of_getElem? SJ,Tq⟩
theorem agJ{n:Nat}{ro:Nat→Option Obj}(hN:Dn ro vd xs)(hD:bJ vd xs d X)(hn:n≤100):eI zT 56 [zP d,zI (n:Int)] ro X (fun r Y=>∃(ps:List Int) (L X':Cells),aD r 1 3 db ps L∧ps.Perm (dA n)∧Y=L++X'∧bJ vd xs d X'):=by
 refine bI av [.l X] [] bB<|zD 14<|oU<|eG [1,1,0,1,0,0] [] (fun(zz:Nat×Value×Cells)=>[(0,zP d),(1,zI (n:Int)),(4,zS),(5,zz.2.1),(6,zI (zz.1:Int))]) (fun(zz:Nat×Value×Cells)=>[.l zz.2.2,.l X]) (fun(zz:Nat×Value×Cells)=>zz.1≤n∧aD zz.2.1 1 3 db (dA zz.1) zz.2.2) (fun(zz:Nat×Value×Cells)=>n-zz.1) (⟨0,zS,[]⟩) ⟨by omega,aD.nil _ _ _⟩ [0,1] ?_
 rintro⟨k,v,L⟩ hI K1 bU rest
 dsimp only at hI
 refine zD 7<|zJ 12 ((k:Int) <(n:Int)) (fun h1=>?_) fun h1=>?_
 ·
  refine zD 7<|jn fun b17=>jk (sz:=1) (ps:=dA k) (qs:=[(k:Int)]) (enc:=db) (w:= .slice (some ⟨b17,0,none⟩) 1 1) [1] [0] [(b17,.cells ⟨([(k:Int)].map db).flatten⟩ 3 (0,0))] (hI.2) (fun s _ hZ=>cg [(k:Int)] (hZ _ (.head _)) (by intro p hp;rfl)) (fun p _=>aj rfl) (by simp[dA];omega) (fun v18 L18 aeh=>?_)
  obtain⟨aaE,Xe,LJ⟩:=aeh.form
  subst LJ
  refine zD 4<|ja ((k:Int)+1) (by omega)<|zD 2<|bO bU (⟨k+1,(.slice aaE ((dA k++[(k:Int)])).length Xe),L18⟩) ⟨by omega,by rw[uY];exact aeh⟩ (by omega) [0,2] (Sub.refl _)
 refine zD 6<|ja ((n:Int)-1) (by omega)<|zD 3<|eG [1,1,1,0,1,0,0] [] (fun(zz:Int×Value×Cells×(List Int)×Cells)=>[(0,zP d),(4,zS),(5,zz.2.1),(7,zI zz.1)]) (fun(zz:Int×Value×Cells×(List Int)×Cells)=>[.l zz.2.2.1,.l zz.2.2.2.2]) (fun(zz:Int×Value×Cells×(List Int)×Cells)=>(-1≤zz.1∧zz.1 <n)∧aD zz.2.1 1 3 db zz.2.2.2.1 zz.2.2.1∧zz.2.2.2.1.Perm (dA n)∧bJ vd xs d zz.2.2.2.2) (fun(zz:Int×Value×Cells×(List Int)×Cells)=>zz.1.toNat) (⟨(n:Int)-1,v,L,dA k,X⟩) ⟨by omega,hI.2,(by rw[show k=n by omega]),hD⟩ [0,1] ?_
 rintro⟨j,v,L,ps,X⟩ HG K2 lL rest
 dsimp only at HG
 have hlen:ps.length=n:=by rw[HG.2.2.1.length_eq,lA]
 refine zD 6<|zJ 22 (j>0) (fun h2=>?_) fun h2=>?_
 ·
  refine zD 8<|jc (vs:=[zP d,zI j]) [1] (DD hN HG.2.2.2 (by omega)) ?_
  rintro _ X27 ⟨w27,rfl,bbW,H5,aSg⟩
  refine zD 6 ?_
  obtain⟨nU,iR⟩:=zG ps (j.toNat)
  refine pS j 1 HG.2.1 iR (by omega) fun b30 Ta=>oQ 0 [1] L (fun s _ hZ=>cG HG.2.1 Ta hZ iR)<|zD 8 ?_
  obtain⟨x36,yj⟩:=zG ps (w27.toNat)
  refine pS w27 1 HG.2.1 yj (by omega) fun dK atH=>oQ 0 [1] L (fun s _ hZ=>cG HG.2.1 atH hZ yj) ?_
  obtain⟨x38,Lr⟩:=zG ps (j.toNat)
  refine pS j 1 HG.2.1 Lr (by omega) fun b38 aQY=>QF 1 0 [zI x36] x36 HG.2.1 aQY Lr rfl rfl (Nat.le_of_ble_eq_true rfl) fun L3 ho4=>zD 5 ?_
  obtain⟨x42,SH⟩:=zG ((ps.set j.toNat x36)) (w27.toNat) (by first|omega| (simp only[List.length_set,List.length_append,List.length_cons,List.length_nil];omega))
  refine pS w27 1 ho4 SH (by omega) fun b42 aQW=>QF 0 0 [zI nU] nU ho4 aQW SH rfl rfl (Nat.le_of_ble_eq_true rfl) fun L5 ho6=>zD 3<|ja (j-1) (by omega)<|zD 2<|bO lL (⟨j-1,v,L5,((ps.set j.toNat x36).set w27.toNat nU),X27⟩) ⟨by omega,ho6,(nt iR yj).trans HG.2.2.1,aSg⟩ (by omega) [0,1] (Sub.refl _)
 refine zD 8<|aJ q0 (v) [] [0,1] (L++X) (Sub.refl _) ⟨_,_,rfl,rfl,_,_,_,HG.2.1,HG.2.2.1,rfl,HG.2.2.2⟩
theorem P2(p:Int→Bool)(k:Nat):(dA (k+1)).filter p=bif p (k:Int) then (dA k).filter p++[(k:Int)] else (dA k).filter p:=by
 rw[uY,List.filter_append]
 cases h:p (k:Int)<;>simp[h]
theorem pM{n:Nat}{x:Int}(h:x∈dA n):0≤x∧x <n:=by
 simp only[dA,List.mem_map,List.mem_range] at h
 obtain⟨i,h1,rfl⟩:=h
 omega
theorem q9(n:Nat):(dA n).Pairwise (· < ·):=by
 simp only[dA]
 rw[List.pairwise_map]
 exact List.pairwise_lt_range.imp fun h=>by omega
theorem yD(x:Int)(l:List Int)(k:Nat):x∈l→(k:Int)≤cZ (fun y=>decide (y=x)) l k∧∃i,cZ (fun y=>decide (y=x)) l k=k+i∧l[i.toNat]?=some x∧0≤i:=by
 induction l generalizing k with
 |nil=>intro h;cases h
 |cons y l ih=>
  intro h
  by_cases e:y=x
  ·subst e
   simp only[cZ,decide_true,cond_true]
   exact⟨Int.le_refl _,0,by simp,by simp,by simp⟩
  simp only[cZ,e,decide_false,cond_false]
  obtain⟨h1,i,h2,h3,h4⟩:=ih (k+1) ((List.mem_cons.1 h).resolve_left fun e2=>e e2.symm)
  refine⟨by omega,i+1,by rw[h2];omega,?_,by omega⟩
  rw[show (i+1).toNat=i.toNat+1 by omega]
  simpa using h3
theorem ab3{q:List Int}{n:Nat}(hq:q.Perm (dA n)):((dA n).filter fun i=>decide (cZ (fun y=>decide (y=i)) q 0 <many)).length≤many.toNat:=by
 have iS:∀x,x∈dA n→x∈q:=fun x hx=>hq.mem_iff.2 hx
 have h1:(((dA n).filter fun i=>decide (cZ (fun y=>decide (y=i)) q 0 <many)).map fun i=>cZ (fun y=>decide (y=i)) q 0).Nodup:=by
  rw[List.nodup_iff_pairwise_ne,List.pairwise_map]
  refine((q9 n).filter _).imp_of_mem fun {a b} ha hb Ee e=>?_
  obtain⟨_,i,e1,g1,_⟩:=yD a q 0 (iS a ((List.mem_filter.1 ha).1))
  obtain⟨_,j,e2,g2,_⟩:=yD b q 0 (iS b ((List.mem_filter.1 hb).1))
  have:i=j:=by omega
  subst this
  rw[g1] at g2
  cases g2
  omega
 have h2:=wD (l₂:=dA many.toNat) h1 fun x hx=>by
  obtain⟨i,h3,rfl⟩:=List.mem_map.1 hx
  obtain⟨h4,h5⟩:=List.mem_filter.1 h3
  have h6:=of_decide_eq_true h5
  obtain⟨h7,_⟩:=yD i q 0 (iS i h4)
  simp only[dA,List.mem_map,List.mem_range]
  exact⟨(cZ (fun y=>decide (y=i)) q 0).toNat,by omega,by omega⟩
 simpa [lA] using h2
theorem Ij(p:α→Bool)(l:List α):(l.filter p).length≤l.length:=List.length_filter_le p l
theorem aE9{n:Nat}{ro:Nat→Option Obj}(hN:Dn ro vd xs)(hD:bJ vd xs d X)(hn:n≤100):eI zT 58 [zP d,zI (n:Int),zI many] ro X (fun r Y=>∃(ps:List Int) (L X':Cells),aD r 1 3 db ps L∧ps.length≤many.toNat∧ps.Pairwise (· < ·)∧(∀x∈ps,0≤x∧x <n)∧Y=L++X'∧bJ vd xs d X'):=by
 refine bI av [.l X] [] bB<|zD 8<|jc (vs:=[zP d,zI (n:Int)]) [0] (agJ hN hD (by first|omega|decide)) ?_
 rintro v13 _ ⟨XQ,L13,X13,SV,Yw,rfl,alj⟩
 refine jg 0 [.l L13,.l X13]<|zD 12<|oU<|eG [1,1,1,0,1,0,0] [] (fun(zz:Nat×Value×Cells)=>[(1,zI (n:Int)),(2,zI many),(6,zS),(7,v13),(8,zz.2.1),(9,zI (zz.1:Int))]) (fun(zz:Nat×Value×Cells)=>[.l zz.2.2,.l L13,.l X13]) (fun(zz:Nat×Value×Cells)=>zz.1≤n∧aD zz.2.1 1 3 db ((dA zz.1).filter (fun i=>decide (cZ (fun y=>decide (y=i)) XQ 0 <many))) zz.2.2) (fun(zz:Nat×Value×Cells)=>n-zz.1) (⟨0,zS,[]⟩) ⟨by omega,aD.nil _ _ _⟩ [0,1,2] ?_
 rintro⟨k,v,L⟩ hI K1 bU rest
 dsimp only at hI
 have hlen:XQ.length=n:=by rw[Yw.length_eq,lA]
 have vv:=Ij (fun i=>decide (cZ (fun y=>decide (y=i)) XQ 0 <many)) (dA k)
 rw[lA] at vv
 refine zD 7<|zJ 16 ((k:Int) <(n:Int)) (fun h1=>?_) fun h1=>?_
 ·
  refine zD 8<|jp (vs:=[v13,zI (k:Int)]) [1] L13 (fun aE hs hZ=>aru (SV.lq hZ) (by first|omega| (simp only[List.length_set,List.length_append,List.length_cons,List.length_nil];omega))) ?_
  refine zD 8<|zJ 24 ((cZ (fun y=>decide (y=(k:Int))) XQ 0) <many) (fun h2=>?_) fun h2=>?_
  ·
   refine zD 4<|jn fun b27=>jk (sz:=1) (ps:=((dA k).filter (fun i=>decide (cZ (fun y=>decide (y=i)) XQ 0 <many)))) (qs:=[(k:Int)]) (enc:=db) (w:= .slice (some ⟨b27,0,none⟩) 1 1) [1] [0] [(b27,.cells ⟨([(k:Int)].map db).flatten⟩ 3 (0,0))] (hI.2) (fun s _ hZ=>cg [(k:Int)] (hZ _ (.head _)) (by intro p hp;rfl)) (fun p _=>aj rfl) (by simp only[List.length_cons,List.length_nil];omega) (fun v28 L28 aed=>?_)
   obtain⟨aJ6,aJK,YH⟩:=aed.form
   subst YH
   refine zD 4<|ja ((k:Int)+1) (by omega)<|zD 2<|bO bU (⟨k+1,(.slice aJ6 ((((dA k).filter (fun i=>decide (cZ (fun y=>decide (y=i)) XQ 0 <many)))++[(k:Int)])).length aJK),L28⟩) ⟨by omega,by rw[P2,decide_eq_true h2];exact aed⟩ (by omega) [0,2,3] (Sub.refl _)
  refine zD 4<|ja ((k:Int)+1) (by omega)<|zD 2<|bO bU (⟨k+1,v,L⟩) ⟨by omega,by rw[P2,decide_eq_false h2];exact hI.2⟩ (by omega) [0,1,2] (Sub.refl _)
 refine zD 8<|aJ q0 (v) [] [0,2] (L++X13) (Sub.refl _) ⟨_,_,rfl,rfl,_,_,_,hI.2,by rw[show k=n by omega];exact ab3 Yw,(q9 k).filter _,fun x hx=>by have:=pM ((List.mem_filter.1 hx).1);omega,rfl,alj⟩
def aog:List ByteArray:=[bs [101],bs [121],bs [115,104],bs [97],bs [110,110],bs [116,104],bs [109]]
def toW:List ByteArray:=[bs [],bs [105],bs [115],bs [116],bs [97,101],bs [106],bs [110]]
def Hi(r:cP):Prop:=r.f∈aog∧r.t∈toW
def jo(c:aQ):Prop:=c∈[(⟨1,0,0,0,0,0,0⟩:aQ),⟨2,0,0,0,0,0,0⟩,⟨1,1,0,0,0,0,0⟩,⟨2,1,0,0,0,0,0⟩,⟨4,1,0,0,0,0,0⟩]
theorem ql{p:α→Prop}{l:List α}{x:α}(h:∀y∈l,p y)(hx:p x):∀y∈l++[x],p y:=fun y hy=>by
 rcases List.mem_append.1 hy with h1|h1
 ·exact h y h1
 rw[List.mem_singleton] at h1;subst h1;exact hx
theorem auH{ro:Nat→Option Obj}(hN:Dn ro vd xs)(hD:bJ vd xs d X)(hn:0≤many∧many≤100):eI zT 28 [zP d,zI many] ro X (fun r Y=>∃(ps:List cP) (L X':Cells),aD r 2 81 iB ps L∧ps.length≤many∧(∀r∈ps,Hi r)∧Y=L++X'∧bJ vd xs d X'):=by
 refine bI av [.l X] [] bB<|zD 13<|jc (vs:=[zP d,zI many]) [0] (DD hN hD (by omega)) ?_
 rintro _ X10 ⟨w10,rfl,adN,rq,Tq⟩
 refine zD 3<|oU<|eG [1,1,0,1,0,0] [] (fun(zz:Int×Value×Cells×(List cP)×Cells)=>[(0,zP d),(4,zS),(5,zz.2.1),(6,zI zz.1)]) (fun(zz:Int×Value×Cells×(List cP)×Cells)=>[.l zz.2.2.1,.l zz.2.2.2.2]) (fun(zz:Int×Value×Cells×(List cP)×Cells)=>(0≤zz.1∧zz.2.2.2.1.length+zz.1≤many)∧aD zz.2.1 2 81 iB zz.2.2.2.1 zz.2.2.1∧(∀r∈zz.2.2.2.1,Hi r)∧bJ vd xs d zz.2.2.2.2) (fun(zz:Int×Value×Cells×(List cP)×Cells)=>zz.1.toNat) (⟨w10,zS,[],[],X10⟩) ⟨by simp only[List.length_nil];omega,aD.nil _ _ _,(fun _ h=>by cases h),Tq⟩ [0,1] ?_
 rintro⟨j,v,L,ps,X⟩ hI K1 bU rest
 dsimp only at hI
 refine zD 6<|zJ 12 (j>0) (fun h1=>?_) fun h1=>?_
 ·
  refine zD 7<|jn fun b16=>ZK (vs:=[zP d,.slice (some ⟨b16,0,none⟩) 7 7]) [2] [0] [(b16,.cells ⟨([(bs [101]),(bs [121]),(bs [115,104]),(bs [97]),(bs [110,110]),(bs [116,104]),(bs [109])].map pf).flatten⟩ 9 (0,0))] (fun aE hs hZ=>Wv (hN.up hs) hI.2.2.2 (cb [(bs [101]),(bs [121]),(bs [115,104]),(bs [97]),(bs [110,110]),(bs [116,104]),(bs [109])] hZ.head (by intro p hp;rfl)) (by decide)) ?_
  rintro _ X17 ⟨w17,rfl,aOf,aSk⟩
  refine zD 1<|jn fun Hd=>ZK (vs:=[zP d,.slice (some ⟨Hd,0,none⟩) 7 7]) [1] [0] [(Hd,.cells ⟨([(bs []),(bs [105]),(bs [115]),(bs [116]),(bs [97,101]),(bs [106]),(bs [110])].map pf).flatten⟩ 9 (0,0))] (fun aE hs hZ=>Wv (hN.up hs) aSk (cb [(bs []),(bs [105]),(bs [115]),(bs [116]),(bs [97,101]),(bs [106]),(bs [110])] hZ.head (by intro p hp;rfl)) (by decide)) ?_
  rintro _ X20 ⟨w20,rfl,arW,afu⟩
  refine zD 1<|jn fun b7=>jd 5 [0,0]<|jn fun mb=>jk (sz:=2) (ps:=ps) (qs:=[(⟨w17,w20⟩:cP)]) (enc:=iB) (w:= .slice (some ⟨mb,0,none⟩) 1 1) [5] [0] [(mb,.cells ⟨([(⟨w17,w20⟩:cP)].map iB).flatten⟩ 81 (0,0))] (hI.2.1) (fun s _ hZ=>cg [(⟨w17,w20⟩:cP)] (hZ _ (.head _)) (by intro p hp;rfl)) (fun p _=>aj rfl) (by simp<;>omega) (fun v25 L25 aef=>?_)
  obtain⟨aJ8,aJM,aQj⟩:=aef.form
  subst aQj
  refine zD 4<|ja (j-1) (by omega)<|zD 2<|bO bU (⟨j-1,(.slice aJ8 ((ps++[(⟨w17,w20⟩:cP)])).length aJM),L25,(ps++[(⟨w17,w20⟩:cP)]),X20⟩) ⟨by simp only[List.length_append,List.length_cons,List.length_nil];omega,aef,ql hI.2.2.1 ⟨aOf,arW⟩,afu⟩ (by omega) [0,3] (Sub.refl _)
 refine zD 8<|aJ q0 (v) [] [0,1] (L++X) (Sub.refl _) ⟨_,_,rfl,rfl,_,_,_,hI.2.1,(by omega),hI.2.2.1,rfl,hI.2.2.2⟩
theorem aE8{ro:Nat→Option Obj}(hN:Dn ro vd xs)(hD:bJ vd xs d X):eI zT 27 [zP d] ro X (fun r Y=>∃w:aQ,r= .agg ⟨kB w⟩∧jo w∧bJ vd xs d Y):=by
 refine bI av [.l X] [] bB<|zD 2<|jn fun b2=>zD 8<|jn fun b9=>zD 9<|jc (vs:=[zP d,zI 4]) [2] (DD hN hD (by omega)) ?_
 rintro _ X15 ⟨w15,rfl,aOg,adI,aud⟩
 obtain⟨AZ,oH⟩:=zG ([(⟨1,0,0,0,0,0,0⟩:aQ),(⟨2,0,0,0,0,0,0⟩:aQ),(⟨1,1,0,0,0,0,0⟩:aQ),(⟨2,1,0,0,0,0,0⟩:aQ),(⟨4,1,0,0,0,0,0⟩:aQ)]:List _) (w15.toNat) (show w15.toNat <5 from by omega)
 refine M7 (a:=(some ⟨b9,0,none⟩)) (b:=b9) (off:=0) w15 5 7 (fun _ _=>rfl) oH (by omega)<|oQ (m:=7) 0 [1] [(b9,.cells ⟨([(⟨1,0,0,0,0,0,0⟩:aQ),(⟨2,0,0,0,0,0,0⟩:aQ),(⟨1,1,0,0,0,0,0⟩:aQ),(⟨2,1,0,0,0,0,0⟩:aQ),(⟨4,1,0,0,0,0,0⟩:aQ)].map kB).flatten⟩ 74 (0,0))] (fun s _ hZ=>wz (hZ _ (.head _)) (by intro p hp;rfl) oH) ?_
 refine jd 3 [2]<|aJ q0 (.agg ⟨[zI AZ.k,zI AZ.st,zI AZ.ot,zI AZ.fn,zI AZ.fl,zI AZ.tn,zI AZ.tl]⟩) [2] [0] X15 (Sub.refl _) ⟨_,_,rfl,rfl,AZ,rfl,List.mem_of_getElem? oH,aud⟩
def FE(b:UInt8):Bool:=Nat.ble 97 b.toNat&&Nat.ble b.toNat 122
def Fg(b:UInt8):Bool:=Nat.ble 65 b.toNat&&(Nat.ble b.toNat 90&& !(Nat.beq b.toNat 72||Nat.beq b.toNat 81||Nat.beq b.toNat 87))
def Script(w:ByteArray):Prop:=(∀b∈w.data.toList,FE b=true)∨(∀b∈w.data.toList,Fg b=true)
def W0(w:ByteArray):Prop:=(0 <w.size∧w.size≤7)∧Script w
def MS(w:ByteArray):Prop:=(1≤w.size∧w.size≤3)∧Script w
theorem abk{w:ByteArray}(h:(w.data.toList.all FE||w.data.toList.all Fg)=true)(h1:(Nat.blt 0 w.size&&Nat.ble w.size 7)=true):W0 w:=by
 simp only[Bool.or_eq_true,List.all_eq_true] at h
 simp only[Bool.and_eq_true,Nat.blt_eq,Nat.ble_eq] at h1
 exact⟨h1,h⟩
theorem axG{w:ByteArray}(h:w∈[bs [97,101,115],bs [115,104,101,116,97],bs [115,109,105,116,121,104,97],bs [99,104,106,97],bs [97,110,110,101]]):W0 w:=by
 simp only[List.mem_cons,List.not_mem_nil,or_false] at h
 rcases h with rfl|rfl|rfl|rfl|rfl<;>exact abk (by decide) (by decide)
theorem axF{w:ByteArray}(h:w∈[bs [65,69,83],bs [88,69,84,65],bs [83,77,73,84,89,65],bs [67,74,65,88],bs [65,78,78,69]]):W0 w:=by
 simp only[List.mem_cons,List.not_mem_nil,or_false] at h
 rcases h with rfl|rfl|rfl|rfl|rfl<;>exact abk (by decide) (by decide)
def nj:List ByteArray:=[bs [102,111,111,100],bs [98,114,101,97,100],bs [99,108,111,116,104],bs [104,97,116,115],bs [119,111,111,100],bs [105,114,111,110],bs [98,101,101,114],bs [105,110],bs [115,101,101]]
def oS:List ByteArray:=[bs [98,97,107,101,114],bs [98,97,107,101,114,115],bs [98,111,110,110,101,116,115],bs [98,114,101,119,101,114],bs [98,114,117,115,104,101,115],bs [98,117,116,99,104,101,114],bs [99,97,110,100,108,101,115],bs [99,111,111,112,101,114],bs [99,111,111,112,101,114,115],bs [99,117,116,108,101,114],bs [104,97,116,116,101,114],bs [104,111,115,105,101,114],bs [109,101,114,99,101,114],bs [109,105,108,108,105,110,101,114],bs [116,97,105,108,111,114],bs [116,97,110,110,101,114]]
theorem Fe{T:TypeId}{n:Nat}{enc:α→List Value}(ps:List α)(hn:ps.length=n)(hl:∀p∈ps,(enc p).length=sz):aD (.slice (some ⟨b,0,none⟩) n n) sz T enc ps [(b,.cells ⟨(ps.map enc).flatten⟩ T (0,0))]:=by
 subst hn
 exact .inr ⟨b,_,ps.length,rfl,rfl,j5 ps hl,Nat.le_refl _,hl,by rw[←j5 ps hl,List.take_length]⟩
theorem Rl{s t w:ByteArray}(h:∀b∈s.data.toList,b∈w.data.toList)(k:∀b∈t.data.toList,b∈w.data.toList):∀b∈(s++t).data.toList,b∈w.data.toList:=fun b hb=>by
 rw[ByteArray.data_append,Array.toList_append,List.mem_append] at hb
 exact hb.elim (h b) (k b)
theorem NQ{w:ByteArray}(i j:Nat):∀b∈(w.extract i j).data.toList,b∈w.data.toList:=fun b hb=>by
 rw[ByteArray.data_extract,Array.toList_extract] at hb
 exact List.mem_of_mem_drop (List.mem_of_mem_take (by simpa [List.extract] using hb))
theorem Ry{s w:ByteArray}(h:∀b∈s.data.toList,b∈w.data.toList)(hw:Script w):Script s:=hw.imp (fun k b hb=>k b (h b hb)) (fun k b hb=>k b (h b hb))
theorem Ww{ro:Nat→Option Obj}(hN:Dn ro vd xs)(hD:bJ vd xs d X):eI zT 31 [zP d,zI 3] ro X (fun r Y=>∃w:ByteArray,r= .string w∧MS w∧bJ vd xs d Y):=by
 refine bI av [.l X] [] bB<|zD 7<|jn fun rJ=>ZK (vs:=[zP d,.slice (some ⟨rJ,0,none⟩) 5 5]) [1] [0] [(rJ,.cells ⟨([(bs [97,101,115]),(bs [115,104,101,116,97]),(bs [115,109,105,116,121,104,97]),(bs [99,104,106,97]),(bs [97,110,110,101])].map pf).flatten⟩ 9 (0,0))] (fun aE hs hZ=>Wv (hN.up hs) hD (cb [(bs [97,101,115]),(bs [115,104,101,116,97]),(bs [115,109,105,116,121,104,97]),(bs [99,104,106,97]),(bs [97,110,110,101])] hZ.head (by intro p hp;rfl)) (by decide)) ?_
 rintro _ X11 ⟨w11,rfl,aOi,aSm⟩
 refine zD 6<|jc (vs:=[zP d,zI 3]) [0] (sM hN aSm (by omega)) ?_
 rintro _ X13 ⟨w13,rfl,alj⟩
 refine zD 1<|Hs [1,1,1] [] (fun(zz:ByteArray×Cells)=>[(0,zP d),(1,zI 3),(4,.string (bs [])),(5,.string zz.1)]) (fun(zz:ByteArray×Cells)=>[.l zz.2]) (fun(zz:ByteArray×Cells)=>W0 zz.1∧bJ vd xs d zz.2) ?_ (fun K1 bU=>?_)
 ·
  rintro⟨w,X⟩ hJ rest
  dsimp only at hJ
  obtain⟨⟨VN,hw7⟩,ry⟩:=hJ.1
  refine zD 9<|jmn (k:= .i64) (a:=3) (b:=6)<|jc (vs:=[zP d,zI 1,zI (min 3 6)]) [0] (Ax hN hJ.2 (by omega) (by omega)) ?_
  rintro _ X20 ⟨w20,rfl,arW,Lu,afu⟩
  refine zD 3<|eG [1,1,1,1,0,1,0,0] [] (fun(zz:Int×ByteArray×Cells)=>[(0,zP d),(4,.string (bs [])),(5,.string w),(6,.string zz.2.1),(7,zI zz.1)]) (fun(zz:Int×ByteArray×Cells)=>[.l zz.2.2]) (fun(zz:Int×ByteArray×Cells)=>(0≤zz.1∧zz.2.1.size+zz.1=w20)∧(∀b∈zz.2.1.data.toList,b∈w.data.toList)∧bJ vd xs d zz.2.2) (fun(zz:Int×ByteArray×Cells)=>zz.1.toNat) (⟨w20,bs [],X20⟩) ⟨⟨by omega,by simp[bs,ByteArray.size]⟩,(fun _ h=>by simp[bs] at h),afu⟩ [0] ?_
  rintro⟨j,t,Z⟩ hI K2 lL rest
  dsimp only at hI
  refine zD 6<|zJ 22 (j>0) (fun h1=>?_) fun h1=>?_
  ·
   refine zD 9<|ja ((w.size:Int)-1) (by omega)<|jc (vs:=[zP d,zI ((w.size:Int)-1)]) [0] (DD hN hI.2.2 (by omega)) ?_
   rintro _ X29 ⟨w29,rfl,bbV,zx,aSf⟩
   refine zD 7<|ja (w29+1) (by omega)<|jtB (b:=w) (lo:=w29) (hi:=(w29+1)) (by omega)<|jsa (a:=t) (b:=(w.extract w29.toNat (w29+1).toNat)) 9 (by rw[ByteArray.size_extract];omega) ?_
   refine zD 4<|ja (j-1) (by omega)<|zD 2<|bO lL (⟨j-1,(t++(w.extract w29.toNat (w29+1).toNat)),X29⟩) ⟨⟨by omega,by rw[ByteArray.size_append,ByteArray.size_extract];omega⟩,Rl hI.2.1 (NQ _ _),aSf⟩ (by omega) [0] (Sub.refl _)
  refine zD 8<|aJ q0 (.string t) [] [0] Z (Sub.refl _) ⟨_,_,rfl,rfl,_,rfl,⟨by omega,Ry hI.2.1 ry⟩,hI.2.2⟩
 refine js 13 w13 (fun h2=>?_) (fun h2=>?_)
 ·
  subst h2
  refine zD 3<|jn fun lf=>ZK (vs:=[zP d,.slice (some ⟨lf,0,none⟩) 5 5]) [1] [0] [(lf,.cells ⟨([(bs [65,69,83]),(bs [88,69,84,65]),(bs [83,77,73,84,89,65]),(bs [67,74,65,88]),(bs [65,78,78,69])].map pf).flatten⟩ 9 (0,0))] (fun aE hs hZ=>Wv (hN.up hs) alj (cb [(bs [65,69,83]),(bs [88,69,84,65]),(bs [83,77,73,84,89,65]),(bs [67,74,65,88]),(bs [65,78,78,69])] hZ.head (by intro p hp;rfl)) (by decide)) ?_
  rintro _ X16 ⟨w16,rfl,azV,afv⟩
  refine zD 2<|bO bU ⟨w16,X16⟩ ⟨axF azV,afv⟩ Nat.zero_lt_one [0] (Sub.refl _)
 subst h2
 refine zD 2<|bO bU ⟨w11,X13⟩ ⟨axG aOi,alj⟩ Nat.zero_lt_one [0] (Sub.refl _)
theorem adh{ro:Nat→Option Obj}:eI zT 57 [] ro [] (fun r Y=>∃L,aD r 1 9 pf nj L∧Y=L):=by
 refine bI av [] [] bB<|zD 6<|jn fun b1=>zD 3<|aJ q0 (.slice (some ⟨b1,0,none⟩) 9 9) [] [0] [(b1,.cells ⟨[.string (bs [102,111,111,100]),.string (bs [98,114,101,97,100]),.string (bs [99,108,111,116,104]),.string (bs [104,97,116,115]),.string (bs [119,111,111,100]),.string (bs [105,114,111,110]),.string (bs [98,101,101,114]),.string (bs [105,110]),.string (bs [115,101,101])]⟩ 9 (0,0))] (Sub.refl _) ⟨_,_,rfl,rfl,_,Fe nj rfl (by intro p hp;rfl),rfl⟩
theorem adw{ro:Nat→Option Obj}:eI zT 59 [] ro [] (fun r Y=>∃L,aD r 1 9 pf oS L∧Y=L):=by
 refine bI av [] [] bB<|zD 6<|jn fun b1=>zD 3<|aJ q0 (.slice (some ⟨b1,0,none⟩) 16 16) [] [0] [(b1,.cells ⟨[.string (bs [98,97,107,101,114]),.string (bs [98,97,107,101,114,115]),.string (bs [98,111,110,110,101,116,115]),.string (bs [98,114,101,119,101,114]),.string (bs [98,114,117,115,104,101,115]),.string (bs [98,117,116,99,104,101,114]),.string (bs [99,97,110,100,108,101,115]),.string (bs [99,111,111,112,101,114]),.string (bs [99,111,111,112,101,114,115]),.string (bs [99,117,116,108,101,114]),.string (bs [104,97,116,116,101,114]),.string (bs [104,111,115,105,101,114]),.string (bs [109,101,114,99,101,114]),.string (bs [109,105,108,108,105,110,101,114]),.string (bs [116,97,105,108,111,114]),.string (bs [116,97,110,110,101,114])]⟩ 9 (0,0))] (Sub.refl _) ⟨_,_,rfl,rfl,_,Fe oS rfl (by intro p hp;rfl),rfl⟩
structure bA where
 word:ByteArray
 cls:Int
 nY:Int
 ei:Value
abbrev lZ(x:bA):List Value:=[.string x.word,zI x.cls,zI x.nY,x.ei]
def Uo(hs:List bA)(i:Int):Prop:=0≤i∧∃h,hs[i.toNat]?=some h∧0≤h.cls
theorem T9{p:α→Bool}{l:List α}{x:α}(h:l[k]?=some x):(l.drop k).any p=(p x||(l.drop (k+1)).any p):=by rw[fT h];rfl
theorem al4{p:α→Bool}{l:List α}(h:¬k <l.length):(l.drop k).any p=false:=by rw[eP h];rfl
def xk(fs:List eR)(a b:Int):Bool:=fs.any fun y=>decide (y.a=a)&&decide (y.b=b)
theorem wM{vc vh:Value}{hs:List bA}{ro:Nat→Option Obj}(hN:Dn ro vd xs)(hD:bJ vd xs d X)(hh:bL ro vh 4 lZ hs)(hn:hs.length≤100):eI zT 30 [zP d,.agg ⟨[zI 2,zI 0,zI 0,vc,vh,zS,zS]⟩,.string nm] ro X (fun r Y=>∃w:aI,r= .agg ⟨eJ w⟩∧w.name=nm∧(0≤w.st∧w.st≤1)∧(w.head= -1∨Uo hs w.head)∧bJ vd xs d Y):=by
 obtain⟨dM,uy,ux,dq,rfl,wA,qv,qu⟩:=hh
 refine bI av [.l X] [] bB<|zD 2<|jn fun b4=>jn fun b6=>jd 8 [1]<|jc (vs:=[zP d,zI 1]) [2] (DD hN hD (by omega)) ?_
 rintro _ X15 ⟨w15,rfl,aOg,adI,aud⟩
 refine zD 2<|jc (vs:=[zP d,zI 1,zI 3]) [0] (Ax hN aud (by omega) (by omega)) ?_
 rintro _ X18 ⟨w18,rfl,bbZ,bbN,PE⟩
 refine zD 1<|jc (vs:=[zP d,zI 1,zI 3]) [0] (Ax hN PE (by omega) (by omega)) ?_
 rintro _ X20 ⟨w20,rfl,arW,Lu,afu⟩
 refine zD 1<|jc (vs:=[zP d,zI 1,zI 40]) [0] (Ax hN afu (by omega) (by omega)) ?_
 rintro _ X22 ⟨w22,rfl,bbY,tG,aSi⟩
 refine jn fun b23=>ZK (vs:=[zP d,.slice (some ⟨b23,0,none⟩) 3 3]) [1] [0] [(b23,.cells ⟨([w18,w20,w22].map db).flatten⟩ 3 (0,0))] (fun aE hs hZ=>agK (hN.up hs) aSi (cb [w18,w20,w22] hZ.head (by intro p hp;rfl)) (by simp)) ?_
 rintro _ X24 ⟨w24,rfl,bbX,aSh⟩
 refine zD 1<|jc (vs:=[zP d,zI 4]) [0] (sM hN aSh (by omega)) ?_
 rintro _ X26 ⟨w26,rfl,aEd⟩
 refine zD 1<|jn fun b7=>jd 12 [0]<|oU<|eG [1,1,1,0,1,0,0] [] (fun(zz:Nat×Value×Cells×(List Int))=>[(0,zP d),(4,zP b4),(6,zP b6),(7,zP b7),(8,zz.2.1),(9,zI (zz.1:Int))]) (fun(zz:Nat×Value×Cells×(List Int))=>[.l zz.2.2.1,.l X26,.b b7 (.cells ⟨[.string nm,zI w15,zI w24,zI (-1),.bool w26]⟩ 86 (0,0)),.b b6 (.cells ⟨[.string ByteArray.empty,zI 0,zI 0,zI 0,.bool false]⟩ 86 (0,0)),.b b4 (.cells ⟨[zI 2,zI 0,zI 0,vc,.slice dM hs.length dq,zS,zS]⟩ 83 (0,0))]) (fun(zz:Nat×Value×Cells×(List Int))=>(zz.1≤hs.length∧zz.2.2.2.length≤zz.1)∧aD zz.2.1 1 3 db zz.2.2.2 zz.2.2.1∧∀i∈zz.2.2.2,Uo hs i) (fun(zz:Nat×Value×Cells×(List Int))=>hs.length-zz.1) (⟨0,zS,[],[]⟩) ⟨⟨by omega,by simp⟩,aD.nil _ _ _,(fun _ h=>by cases h)⟩ [0,2,1,4,5] ?_
 rintro⟨k,v,L,ps⟩ hI K1 bU rest
 dsimp only at hI
 refine jd 10 [4]<|zJ 33 ((k:Int) <(hs.length:Int)) (fun h1=>?_) fun h1=>?_
 ·
  refine jd 10 [4] ?_
  obtain⟨x40,arR⟩:=zG hs k
  refine iE dq 4 qv arR<|zD 1<|jl 1 (qu _ _ arR)<|zD 2<|zJ 43 (x40.cls≥0) (fun h2=>?_) fun h2=>?_
  ·
   refine zD 4<|jn fun b46=>jk (sz:=1) (ps:=ps) (qs:=[(k:Int)]) (enc:=db) (w:= .slice (some ⟨b46,0,none⟩) 1 1) [1] [0] [(b46,.cells ⟨([(k:Int)].map db).flatten⟩ 3 (0,0))] (hI.2.1) (fun s _ hZ=>cg [(k:Int)] (hZ _ (.head _)) (by intro p hp;rfl)) (fun p _=>aj rfl) (by simp<;>omega) (fun v47 L47 ad8=>?_)
   obtain⟨aJ1,aJF,aQe⟩:=ad8.form
   subst aQe
   refine zD 4<|ja ((k:Int)+1) (by omega)<|zD 2<|bO bU (⟨k+1,(.slice aJ1 ((ps++[(k:Int)])).length aJF),L47,(ps++[(k:Int)])⟩) ⟨by simp only[List.length_append,List.length_cons,List.length_nil];omega,ad8,ql hI.2.2 ⟨by omega,x40,arR,by assumption⟩⟩ (by omega) [0,2,3,4,5] (Sub.refl _)
  refine zD 4<|ja ((k:Int)+1) (by omega)<|zD 2<|bO bU (⟨k+1,v,L,ps⟩) ⟨by dsimp only;omega,hI.2⟩ (by omega) [0,1,2,3,4] (Sub.refl _)
 refine zD 6<|D7 hI.2.1<|zD 2<|js 51 (decide ((ps.length:Int)>0)) (fun h3=>?_) (fun h3=>?_)
 ·
  have sD:=h3
  replace sD:=of_decide_eq_true sD
  refine zD 1<|jc (vs:=[zP d,zI 4]) [1] (sM hN aEd (by omega)) ?_
  rintro _ X53 ⟨w53,rfl,ali⟩
  refine zD 3<|js 55 (!w53) (fun h4=>?_) (fun h4=>?_)
  ·
   try simp only[zB] at h4
   refine zD 5<|D7 hI.2.1<|ja ((ps.length:Int)-1) (by omega)<|jc (vs:=[zP d,zI ((ps.length:Int)-1)]) [0] (DD hN ali (by omega)) ?_
   rintro _ X61 ⟨w61,rfl,bbS,bbM,aR9⟩
   obtain⟨x62,arO⟩:=zG ps (w61.toNat)
   refine pS w61 1 hI.2.1 arO (by omega) fun b62 aQR=>oQ 0 [1] L (fun s _ hZ=>cG hI.2.1 aQR hZ arO)<|jd 9 [2,2,3]<|aJ q0 (.agg ⟨[.string nm,zI w15,zI w24,zI x62,.bool w26]⟩) [3] [0] X61 (Sub.refl _) ⟨_,_,rfl,rfl,⟨_,_,_,_,_⟩,rfl,rfl,(by dsimp only;omega),.inr (hI.2.2 _ (List.mem_of_getElem? arO)),aR9⟩
  try simp only[zB] at h4
  refine jd 8 [2,3]<|aJ q0 (.agg ⟨[.string nm,zI w15,zI w24,zI (-1),.bool w26]⟩) [3] [0] X53 (Sub.refl _) ⟨_,_,rfl,rfl,⟨_,_,_,_,_⟩,rfl,rfl,(by dsimp only;omega),.inl rfl,ali⟩
 have sD:=h3
 replace sD:=of_decide_eq_false sD
 refine jd 13 [2,3]<|aJ q0 (.agg ⟨[.string nm,zI w15,zI w24,zI (-1),.bool w26]⟩) [3] [1] X26 (Sub.refl _) ⟨_,_,rfl,rfl,⟨_,_,_,_,_⟩,rfl,rfl,(by dsimp only;omega),.inl rfl,aEd⟩
theorem ads{ro:Nat→Option Obj}(hm:bL ro vm 1 db ys)(hn:ys.length≤1000):eI zT 84 [vm] ro [] (fun r Y=>∃L,aD r 1 3 db ys L∧Y=L):=by
 obtain⟨qma,qmb,qmo,qmc,rfl,qmk,qmh,qml⟩:=hm
 refine bI av [] [] bB<|zD 6<|jn fun b3=>zD 1<|jk (sz:=1) (ps:=[]) (qs:=ys) (enc:=db) (w:= .slice qma ys.length qmc) [0] [] [] (bC (b:=b3) (T:=3)) (fun s he _=>⟨qma,qmb,qmo,qmc,rfl,qmh,fun i p hp=>(qml i p hp).ext he⟩) (fun p _=>aj rfl) (by simp<;>omega) (fun v5 L5 FX=>?_)
 rw[List.nil_append] at FX
 obtain⟨va5,vc5,he5⟩:=FX.form
 subst he5
 refine zD 3<|aJ q0 ((.slice va5 (ys).length vc5)) [] [0] L5 (Sub.refl _) ⟨_,_,rfl,rfl,_,FX,rfl⟩
theorem gV{ys:List aI}{ro:Nat→Option Obj}(hm:bL ro vm 5 eJ ys)(hn:ys.length≤1000):eI zT 49 [vm] ro [] (fun r Y=>∃L,aD r 5 86 eJ ys L∧Y=L):=by
 obtain⟨qma,qmb,qmo,qmc,rfl,qmk,qmh,qml⟩:=hm
 refine bI av [] [] bB<|zD 6<|jn fun b3=>zD 1<|jk (sz:=5) (ps:=[]) (qs:=ys) (enc:=eJ) (w:= .slice qma ys.length qmc) [0] [] [] (bC (b:=b3) (T:=86)) (fun s he _=>⟨qma,qmb,qmo,qmc,rfl,qmh,fun i p hp=>(qml i p hp).ext he⟩) (fun p _=>aj rfl) (by simp<;>omega) (fun v5 L5 FX=>?_)
 rw[List.nil_append] at FX
 obtain⟨va5,vc5,he5⟩:=FX.form
 subst he5
 refine zD 3<|aJ q0 ((.slice va5 (ys).length vc5)) [] [0] L5 (Sub.refl _) ⟨_,_,rfl,rfl,_,FX,rfl⟩
theorem anp{vf:Value}{fs:List eR}{x:eR}{ro:Nat→Option Obj}(hf:bL ro vf 3 oK fs)(hn:fs.length≤1000):dL zT 16 [.agg ⟨[s0,s1,s2,t0,t1,ru,vb,va,zI gone,zI new,zI ai,vf]⟩,.agg ⟨[zI x.a,zI x.b,.bool x.same]⟩] ro (.bool (xk fs x.a x.b)):=by
 obtain⟨jP,Bm,Bj,iZ,rfl,HV,w9,wZ⟩:=hf
 refine bI av [] [] bB<|zD 2<|jn fun b2=>jn fun b3=>zD 8<|eG [1,0,1,0,0] [] (fun(zz:Nat)=>[(2,zP b2),(3,zP b3),(5,zI (zz:Int))]) (fun(zz:Nat)=>[.b b3 (.cells ⟨[zI x.a,zI x.b,.bool x.same]⟩ 57 (0,0)),.b b2 (.cells ⟨[s0,s1,s2,t0,t1,ru,vb,va,zI gone,zI new,zI ai,.slice jP fs.length iZ]⟩ 38 (0,0))]) (fun(zz:Nat)=>zz≤fs.length∧xk fs x.a x.b=(fs.drop zz).any (fun y=>decide (y.a=x.a)&&decide (y.b=x.b))) (fun(zz:Nat)=>fs.length-zz) 0 ⟨by omega,rfl⟩ [0,1] ?_
 rintro k hI K1 bU rest
 refine jd 9 [1]<|zJ 10 ((k:Int) <(fs.length:Int)) (fun h1=>?_) fun h1=>?_
 ·
  refine jd 9 [1] ?_
  obtain⟨AZ,oH⟩:=zG fs k
  refine iE iZ 3 w9 oH<|zD 1<|jl 0 (wZ _ _ oH)<|jd 4 [0]<|js 9 (decide (AZ.a=x.a)) (fun h2=>?_) (fun h2=>?_)
  ·
   have mr:=h2
   replace mr:=of_decide_eq_true mr
   refine jd 3 [1] ?_
   obtain⟨Q5,Yq⟩:=zG fs k
   refine iE iZ 3 w9 Yq<|zD 1<|jl 1 (wZ _ _ Yq)<|jd 5 [0]<|zJ 32 (Q5.b=x.b) (fun h3=>?_) fun h3=>?_
   ·
    refine zD 6<|aJ q0 (.bool true) [] [] [] (Sub.refl _) ⟨_,_,rfl,rfl,by rw[hI.2,T9 oH];simp_all,rfl⟩
   refine zD 4<|ja ((k:Int)+1) (by omega)<|zD 2<|bO bU (k+1) ⟨by omega,by rw[hI.2,T9 oH];simp_all⟩ (by omega) [0,1] (Sub.refl _)
  have mr:=h2
  replace mr:=of_decide_eq_false mr
  refine zD 15<|ja ((k:Int)+1) (by omega)<|zD 2<|bO bU (k+1) ⟨by omega,by rw[hI.2,T9 oH];simp_all⟩ (by omega) [0,1] (Sub.refl _)
 refine zD 7<|aJ q0 (.bool false) [] [] [] (Sub.refl _) ⟨_,_,rfl,rfl,by rw[hI.2,al4 (by omega)],rfl⟩
theorem aSW{fa:Value}{uo JV:List aI}{ro:Nat→Option Obj}(hN:Dn ro vd xs)(hD:bJ vd xs d X)(hb:bL ro vb 5 eJ uo)(ha:bL ro va 5 eJ JV)(hn:uo.length≤100∧JV.length≤100):eI zT 19 [zP d,.agg ⟨[s0,s1,s2,t0,t1,ru,vb,va,zI gone,zI new,zI ai,fa]⟩] ro X (fun r Y=>∃x:eR,r= .agg ⟨oK x⟩∧(0≤x.a∧(x.a <uo.length∨x.a=0))∧(0≤x.b∧(x.b <JV.length∨x.b=0))∧bJ vd xs d Y):=by
 obtain⟨mN,QE,QB,mA,rfl,QC,Ob,Oa⟩:=hb
 obtain⟨mi,M5,M3,lS,rfl,M4,KC,KB⟩:=ha
 refine bI av [.l X] [] bB<|zD 2<|jn fun b3=>jn fun b4=>jd 7 [1]<|ja ((uo.length:Int)-1) (by omega)<|jd 4 [1]<|ja ((JV.length:Int)-1) (by omega)<|zD 1<|aN 5 fun C1 C7 AT=>jc (vs:=[zP d,zI ((uo.length:Int)-1)]) [2] (DD hN hD (by omega)) ?_
 rintro _ X10 ⟨w10,rfl,adN,rq,Tq⟩
 refine gX AT [[2],[2]]<|aN 11 fun AY A5 Ah=>jc (vs:=[zP d,zI ((JV.length:Int)-1)]) [0] (DD hN Tq (by omega)) ?_
 rintro _ X16 ⟨w16,rfl,azV,oH,afv⟩
 refine gX Ah [[2],[2]]<|aN 13 fun qZ q6 p7=>jc (vs:=[zP d,zI 2]) [0] (sM hN afv (by omega)) ?_
 rintro _ X18 ⟨w18,rfl,PE⟩
 refine gX p7 [[2],[2]]<|zD 1<|aN 15 fun rK rR qz=>jd 1 [1]<|dV qz<|zD 2<|aJ q0 (.agg ⟨[zI w10,zI w16,.bool w18]⟩) [1] [0] X18 (Sub.refl _) ⟨_,_,rfl,rfl,⟨_,_,_⟩,rfl,(by dsimp only;omega),(by dsimp only;omega),PE⟩
inductive du{α β:Type}(R:α→β→Prop):List α→List β→Prop
 |nil:du R [] []
 |cons {a:α} {b:β} {l:List α} {m:List β}:R a b→du R l m→du R (a::l) (b::m)
theorem du.snoc{R:α→β→Prop}{l:List α}{m:List β}{a:α}{b:β}(h:du R l m)(k:R a b):du R (l++[a]) (m++[b]):=by
 induction h with
 |nil=>exact .cons k .nil
 |cons h1 _ ih=>exact .cons h1 ih
theorem du.len{R:α→β→Prop}{l:List α}{m:List β}(h:du R l m):l.length=m.length:=by
 induction h with
 |nil=>rfl
 |cons _ _ ih=>simp[ih]
theorem du.get{R:α→β→Prop}{l:List α}{m:List β}(h:du R l m){a:α}(ha:l[i]?=some a):∃b,m[i]?=some b∧R a b:=by
 induction h generalizing i with
 |nil=>simp at ha
 |cons h1 _ ih=>
  cases i with
  |zero=>simp at ha;subst ha;exact⟨_,rfl,h1⟩
  |succ i=>exact ih (by simpa using ha)
theorem du.imp{R S:α→β→Prop}{l:List α}{m:List β}(h:du R l m)(k:∀a b,R a b→S a b):du S l m:=by
 induction h with
 |nil=>exact .nil
 |cons h1 _ ih=>exact .cons (k _ _ h1) ih
structure cw where
 word:ByteArray
 cls:Int
 nY:Int
 ei:List Int
def dj(h:bA)(x:cw):Prop:=h.word=x.word∧h.cls=x.cls∧h.nY=x.nY
def qW(ro:Nat→Option Obj)(h:bA)(x:cw):Prop:=h.word=x.word∧h.cls=x.cls∧h.nY=x.nY∧bL ro h.ei 1 db x.ei
def iX(ro:Nat→Option Obj)(vc vh:Value)(cs:List bM)(hv:List bA)(hd:List cw):Prop:=bL ro vc 2 oL cs∧bL ro vh 4 lZ hv∧du (qW ro) hv hd
def gI(nc nh:Nat)(i:Nat)(x:cw):Prop:=(-1≤x.cls∧x.cls <nc)∧(-1≤x.nY∧x.nY <nh∧x.nY≠i)∧(x.ei.length≤nh∧x.ei.Pairwise (· < ·)∧∀y∈x.ei,0≤y∧y <nh∧y≠i)∧(x.nY≠ -1→x.cls= -1∧x.ei=[])∧(x.nY= -1→x.cls= -1→x.ei≠[])
structure wh(cs:List bM)(hd:List cw):Prop where
 nc:0 <cs.length∧cs.length≤3
 nh:hd.length≤4
 cls:∀(i:Nat) (c:bM),cs[i]?=some c→c.name∈nj∧ -1≤c.under∧c.under <i
 names:(cs.map (·.name)).Pairwise fun a b=>cQ a b=false
 Ad:∀(i:Nat) (x:cw),hd[i]?=some x→x.word∈oS∧gI cs.length hd.length i x
 words:(hd.map (·.word)).Pairwise fun a b=>cQ a b=false∧strLt b a=false
def nK(names:List Int)(cs:List bM):Prop:=∀(i:Nat) (c:bM),cs[i]?=some c→(∃y,names[i]?=some y∧nj[y.toNat]?=some c.name)∧ -1≤c.under∧c.under <i
theorem PM{l:List α}{x y:α}(h:(l++[x])[i]?=some y):l[i]?=some y∨(i=l.length∧y=x):=by
 rcases Nat.lt_trichotomy i l.length with h1|h1|h1
 ·rw[List.getElem?_append_left h1] at h;exact .inl h
 ·subst h1;simp at h;exact .inr ⟨rfl,h.symm⟩
 rw[List.getElem?_eq_none (by simp;omega)] at h;cases h
theorem nK.snoc{names:List Int}{cs:List bM}(h:nK names cs){y u:Int}(h1:names[cs.length]?=some y) (h2:nj[y.toNat]?=some nm) (h3: -1≤u∧u <cs.length):nK names (cs++[⟨nm,u⟩]):=fun i c hc=>by
 rcases PM hc with h4| ⟨rfl,rfl⟩
 ·exact h i c h4
 exact⟨⟨y,h1,h2⟩,h3⟩
def mL(ws:List Int)(nc:Nat)(hv:List bA)(hd:List cw)(Z:Cells)(i:Nat):Prop:=
 (∀ro,Knows ro Z→du (qW ro) hv hd)∧hd.length=i∧hv.length=i∧(∀(k:Nat) (x:cw),hd[k]?=some x→(∃w,ws[k]?=some w∧oS[w.toNat]?=some x.word)∧gI nc ws.length k x)∧du dj hv hd
theorem mL.snoc{ws:List Int}{nc:Nat}{hv:List bA}{hd:List cw}{Z A:Cells}(h:mL ws nc hv hd Z i){hV:bA}{x:cw}{w:Int}(h0:dj hV x)(h1:∀ro,Knows ro A→qW ro hV x)(h2:ws[i]?=some w) (h3:oS[w.toNat]?=some x.word) (h4:gI nc ws.length i x):
 mL ws nc (hv++[hV]) (hd++[x]) (A++Z) (i+1):=by
 obtain⟨g1,g2,g3,g4,g5⟩:=h
 refine⟨fun ro hk=>(g1 ro hk.right).snoc (h1 ro hk.left),by simp[g2],by simp[g3],fun k y hy=>?_,g5.snoc h0⟩
 rcases PM hy with h5| ⟨rfl,rfl⟩
 ·exact g4 k y h5
 rw[g2];exact⟨⟨w,h2,h3⟩,h4⟩
theorem ajP{i w:Int}(hi:0≤i∧i <n)(hw:0≤w∧w≤n-2):0≤Int.tmod (i+1+w) n∧Int.tmod (i+1+w) n <n∧Int.tmod (i+1+w) n≠i:=by
 have h1:=Int.tmod_nonneg n (show 0≤i+1+w by omega)
 have h2:=Int.tmod_lt_of_pos (i+1+w) (show 0 <n by omega)
 refine⟨h1,h2,fun h=>?_⟩
 have h3:=Int.tmod_add_mul_tdiv (i+1+w) n
 rw[h] at h3
 have h4:n*(i+1+w).tdiv n=1+w:=by omega
 rcases Int.lt_trichotomy ((i+1+w).tdiv n) 0 with h5|h5|h5
 ·have:n*(i+1+w).tdiv n≤n* -1:=Int.mul_le_mul_of_nonneg_left (by omega) (by omega)
  omega
 ·rw[h5] at h4;omega
 have:n*1≤n*(i+1+w).tdiv n:=Int.mul_le_mul_of_nonneg_left (by omega) (by omega)
 omega
theorem Cm:nj.Pairwise fun a b=>cQ a b=false:=by simp only[y9];decide
theorem TX:oS.Pairwise fun a b=>cQ a b=false∧strLt b a=false:=by simp only[y9,NR];decide
end Go.L
