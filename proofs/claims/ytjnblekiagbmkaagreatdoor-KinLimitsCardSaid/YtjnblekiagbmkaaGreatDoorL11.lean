/- Part 11 of the proof: a program logic, contracts, a theorem on goroutines. -/
import Derived.Test.YtjnblekiagbmkaaGreatDoorL10
import Derived.KernelRfl
import Derived.Lib.UnsafeStr
import Derived.Test.YtjnblekiagbmkaaGreatDoorProg
set_option maxRecDepth 100000
set_option linter.all false
namespace Go.L
open Go Go.Conc
variable {xs ys:List Int} {α β:Type} {Φ:Value→(Nat→Option Obj)→Cells→Prop} {vd vm s0 s1 s2 t0 t1 ru vb va:Value} {X fr:Cells} {d k i sz b bu:Nat} {oZ:Nat→Option Obj} {n many lo hi af gone new:Int} {P:Program} {o:Option JS} {args:List Value} {f:FuncId} {E:TypeId} {nm:ByteArray} {ag:Bool}
def rnM(P:Program):Sem α→List Nat→Cells→List (Nat×Nat)→Option (α×Cells×List (Nat×Nat))
 | .pure a,_,B,q=>some (a,B,q)
 | .load m a k,h::hs,B,q=>match m,a.spot,B[h]? with
  | .plain,none,some (b,.cells c _ _)=>match c[a.off]? with
   |some v=>rnM P (k v) hs B ((a.block,b)::q)
   |none=>none
  |_,_,_=>none
 | .shape r k,h::hs,B,q=>match B[h]? with
  |some (b,o)=>rnM P (k (Obj.shapeOf o)) hs B ((r,b)::q)
  |none=>none
 | .program k,hs,B,q=>rnM P (k P) hs B q
 |_,_,_,_=>none
theorem aoW:∀(m:Sem α) {hs:List Nat} {B B':Cells} {q q':List (Nat×Nat)} {v:α},rnM P m hs B q=some (v,B',q')→(∀p∈q',p.1=p.2)→
 (∀p∈q,p∈q')∧B'=B∧∀(s:St) (Q:α→St→Prop) (E:Halt→St→Prop),(∀x∈B,s.has x.1 x.2)→Q v s→bH P m s Q E:=by
 intro m
 induction m with
 |pure a=>intro hs B B' q q' v h _;simp only[rnM,Option.some.injEq,Prod.mk.injEq] at h;obtain⟨rfl,rfl,rfl⟩:=h;exact⟨fun _ h=>h,rfl,fun _ _ _ _ h=>h⟩
 |load m a k ih=>
  intro hs B B' q q' v h hq
  cases hs with
  |nil=>cases h
  |cons j hs=>
   unfold rnM at h
   split at h<;>try (cases h;done)
   rename_i b c t fz Mx hB
   split at h<;>try (cases h;done)
   rename_i u hu
   obtain⟨h1,h2,h3⟩:=ih _ h hq
   have Eb:a.block=b:=hq _ (h1 _ List.mem_cons_self)
   refine⟨fun p hp=>h1 p (List.mem_cons_of_mem _ hp),h2,fun s Q E hs hQ=>⟨rfl,Mx,c,t,fz,u,?_,hu,h3 s Q E hs hQ⟩⟩
   rw[Eb];exact hs _ (List.mem_of_getElem? hB)
 |shape r k ih=>
  intro hs B B' q q' v h hq
  cases hs with
  |nil=>cases h
  |cons j hs=>
   simp only[rnM] at h
   split at h<;>try (cases h;done)
   rename_i b o hB
   obtain⟨h1,h2,h3⟩:=ih _ h hq
   have Eb:r=b:=hq _ (h1 _ List.mem_cons_self)
   refine⟨fun p hp=>h1 p (List.mem_cons_of_mem _ hp),h2,fun s Q E hs hQ=>⟨o,?_,h3 s Q E hs hQ⟩⟩
   rw[Eb];exact hs _ (List.mem_of_getElem? hB)
 |program k ih=>
  intro hs B B' q q' v h hq
  simp only[rnM] at h
  exact ih _ h hq
 |store=>intro hs B B' q q' v h hq;cases hs<;>cases h
 |new=>intro hs B B' q q' v h hq;cases hs<;>cases h
 |freeze=>intro hs B B' q q' v h hq;cases hs<;>cases h
 |frozen=>intro hs B B' q q' v h hq;cases hs<;>cases h
 |getObj=>intro hs B B' q q' v h hq;cases hs<;>cases h
 |setObj=>intro hs B B' q q' v h hq;cases hs<;>cases h
 |choose=>intro hs B B' q q' v h hq;cases hs<;>cases h
 |sys=>intro hs B B' q q' v h hq;cases hs<;>cases h
 |mark=>intro hs B B' q q' v h hq;cases hs<;>cases h
 |halt=>intro hs B B' q q' v h hq;cases hs<;>cases h
def aaB:Op→Option (List Operand)
 | .call ⟨.builtin _,xs,_⟩=>some xs.toList
 |op=>EX op
theorem Nk{o:Oper}{xs:List Operand}(h:aaB o.op=some xs){f g:Operand→Value}(hfg:∀x∈xs,f x=g x):execOp f o=execOp g o:=by
 unfold aaB at h
 split at h
 ·rename_i b xs at_ heq
  simp only[Option.some.injEq] at h;subst h
  have:xs.map f=xs.map g:=Array.map_congr_left fun a ha=>hfg a (by simpa using ha)
  simp only[execOp,heq,resolve,this]
 ·exact tI h hfg
def smV(P:Program)(n:Nat)(hs:List Nat)(B:Cells)(p:Oper)(e:Env):Option (Value×List (Nat×Nat)):=match aaB p.op with
 |some xs=>match xD n e xs with
  |some _=>match rnM P (execOp (evj n e) p) hs B [] with
   |some (.value v,_,q)=>some (v,q)
   |_=>none
  |none=>none
 |none=>none
theorem A2{γ:Type}{n:Nat}{f:Oper→Env→Option β}{g:β→γ}:e9 n (fun p e=>(f p e).map g) o=(e9 n f o).map g:=by
 unfold e9
 split
 ·unfold dF
  dsimp only
  split<;>rfl
 ·rfl
def smA(P:Program)(n:Nat)(hs:List Nat)(B:Cells)(p:Oper)(e:Env):Option Value:=(smV P n hs B p e).map (·.1)
def smL(P:Program)(n:Nat)(hs:List Nat)(B:Cells)(p:Oper)(e:Env):Option (List Nat):=(smV P n hs B p e).map fun x=>SW x.2
def smR(P:Program)(n:Nat)(hs:List Nat)(B:Cells)(p:Oper)(e:Env):Option (List Nat):=(smV P n hs B p e).map fun x=>QP x.2
section
variable {X:Cx} {o:Option JS}
theorem jmo(ps hs:List Nat)(B:Cells)(v:Value)(hj:J X (mZ ps v B o))(hv:e9 X.n (smA X.P X.n hs B) o=some v:=by kernel_rfl)(hq:e9 X.n (smL X.P X.n hs B) o=e9 X.n (smR X.P X.n hs B) o:=by kernel_rfl)(hB:dY ps o=some B:=by kernel_rfl):J X o:=by
 rw[show smA X.P X.n hs B=fun p e=>(smV X.P X.n hs B p e).map (·.1) from rfl,A2] at hv
 rw[show smL X.P X.n hs B=fun p e=>(smV X.P X.n hs B p e).map (fun x=>SW x.2) from rfl,show smR X.P X.n hs B=fun p e=>(smV X.P X.n hs B p e).map (fun x=>QP x.2) from rfl,A2,A2] at hq
 cases hx:e9 X.n (smV X.P X.n hs B) o with
 |none=>rw[hx] at hv;cases hv
 |some x=>
  rcases x with ⟨v',q⟩
  rw[hx] at hv hq
  simp only[Option.map_some,Option.some.injEq] at hv hq
  subst hv
  refine jS (Φ:=fun u L'=>u=v'∧L'=B) ps B hx hB (fun p e hf=>?_) (fun u L' p6=>by obtain⟨rfl,rfl⟩:=p6;exact hj)
  unfold smV at hf
  split at hf<;>try (cases hf;done)
  rename_i xs aw
  split at hf<;>try (cases hf;done)
  rename_i ws Qi
  split at hf<;>try (cases hf;done)
  rename_i u B' q2 bN
  simp only[Option.some.injEq,Prod.mk.injEq] at hf
  obtain⟨rfl,rfl⟩:=hf
  refine⟨fun c hc=>?_,fun R Q E hQ=>?_⟩
  ·rw[hc] at aw;cases aw
  ·rw[Nk aw (Ls (f:=ev X.n e) (fun x v h=>aC h) Qi)]
   obtain⟨_,_,h3⟩:=aoW _ bN (mb hq)
   exact h3 _ _ _ (fun x hx=> .inr (List.mem_append_left _ hx)) (hQ _ _ ⟨rfl,rfl⟩)
theorem Gs:∀(n t:Nat) (acc:Array Value),(Extern.BytealgMakeNoZero.digits n t acc).size=acc.size+n
 |0,_,_=>rfl
 |n+1,t,acc=>by
  simp only[Extern.BytealgMakeNoZero.digits,Gs n,Array.size_push];omega
theorem jnz{ps rs:Array TypeId}{T:TypeId}{n:Nat}{z:List Value}(ef:EF X.P f (Extern.BytealgMakeNoZero.makeNoZero ps rs))(hT:rs[0]?=some T) (tf:TF X.P T (.slice E) sz bu z ag) (hn:n≤1000)
 (hj:∀b l,n≤l.length→J X (mZ [] (.slice (some ⟨b,0,none⟩) n l.length) [(b,.cells ⟨l⟩ E (0,0))] o)) (hv:e9 X.n (afx X.n) o=some (f,[.int .i64 (n:Int)]):=by kernel_rfl) (hB:dY [] o=some []:=by kernel_rfl):J X o:=by
 obtain⟨ops,i,todo,k,e,w,kn,p,rfl,ho,hw,hc⟩:=dc hv
 obtain⟨xs,at_,aw,hx⟩:=Lr hc
 intro bO
 rcases p with ⟨dst,op,ty,pos,cT,g⟩
 dsimp only at aw;subst aw
 refine abx X.hC ho hw ef hx ?_
 have eM:Extern.BytealgMakeNoZero.makeNoZero ps rs ⟨[Value.int .i64 (n:Int)]⟩=(do
  let some t:=rs[0]?|stuck "bytealg.MakeNoZero: no result type"
  let .slice elem ←underlying t|stuck "bytealg.MakeNoZero: slice type expected"
  if (n:Int) <0||(n:Int)>2^48 then runtimePanic (.error "makeslice: len out of range")
  let cap ←choose (.appendCap (n:Int).toNat 0 elem)
  askRoom cap
  let bytes ←choose (.extern "internal/bytealg.MakeNoZero.bytes" 0)
  let a ←newRow elem (Extern.BytealgMakeNoZero.digits cap bytes #[])
  pure (.slice (some a) (n:Int).toNat cap)):=rfl
 rw[eM]
 simp only[hT,aW tf]
 rw[if_neg (by simp only[Bool.or_eq_true,decide_eq_true_eq];omega)]
 refine aah rfl fun q=>?_
 refine sq ?_
 show (if (Question.extern "internal/bytealg.MakeNoZero.bytes" 0).forced=true then _ else _)
 have key:∀cap bytes,n≤cap→bH X.P (newRow E (Extern.BytealgMakeNoZero.digits cap bytes #[]) >>= fun a=>pure (Value.slice (some a) ((n:Int).toNat) cap)) ⟨X.ro,den w⟩ (fun v s'=>ab X.C X.fn X.ax ops todo (KQ X k) (A X.n (upd dst v e) X.D) s') (fun _ _=>False):=by
  intro cap bytes oh
  rw[jo]
  intro b hb
  have hl:(Extern.BytealgMakeNoZero.digits cap bytes #[]).toList.length=cap:=by
   rw[Array.length_toList,Gs];simp
  have:=hj b (Extern.BytealgMakeNoZero.digits cap bytes #[]).toList (by omega)
  rw[nW ho] at this
  have:=this bO
  simp only[JP,gI,hl,xa] at this
  exact this
 split
 ·exact key _ _ (by show n≤(n:Int).toNat+_;rw[Int.toNat_natCast];exact Nat.le_add_right _ _)
 ·exact fun q2=>key _ _ (by show n≤(n:Int).toNat+_;rw[Int.toNat_natCast];exact Nat.le_add_right _ _)
def sdV(n:Nat)(p:Oper)(e:Env):Option (Addr×Nat×Nat):=match p.op with
 | .call ⟨.builtin .unsafeSliceData,xs,_⟩=>match xD n e xs.toList with
  |some [.slice (some a) l c]=>some (a,l,c)
  |_=>none
 |_=>none
theorem jsd{a:Addr}{l c:Nat}(h:c≠0)(hj:J X (mZ [] (.pointer (some a)) [] o))(hv:e9 X.n (sdV X.n) o=some (a,l,c):=by kernel_rfl)(hB:dY [] o=some []:=by kernel_rfl):J X o:=by
 refine jS (Φ:=fun u L'=>u= .pointer (some a)∧L'=[]) [] [] hv hB (fun p e hf=>?_) (fun u L' p6=>by obtain⟨rfl,rfl⟩:=p6;exact hj)
 unfold sdV at hf
 split at hf<;>try (cases hf;done)
 rename_i xs at_ aw
 split at hf<;>try (cases hf;done)
 rename_i a' l' c' hx
 simp only[Option.some.injEq,Prod.mk.injEq] at hf
 obtain⟨rfl,rfl,rfl⟩:=hf
 refine⟨by rw[aw];simp,fun R Q E hQ=>?_⟩
 have e1:Builtin.unsafeSliceData_ at_ p.type ⟨[.slice (some a') l' c']⟩=pure (.pointer (some a')):=by
  show (if c'≠0 then _ else _)=_
  rw[if_pos h]
 simp only[execOp,aw,resolve,rR (show u3 X.n e xs=_ from hx),ae,invoke,builtin,e1]
 exact hQ _ _ ⟨rfl,rfl⟩
def usV(P:Program)(n:Nat)(p:Oper)(e:Env):Option (Nat×TypeId):=match p.op with
 | .call ⟨.builtin .unsafeString,xs,at_⟩=>match at_[0]? with
  |some pt=>match aV P pt with
   |some ⟨.pointer E,_,_,_⟩=>bif Nat.beq (P.cellsOf E) 1 then (match xD n e xs.toList with
    |some [.pointer (some ⟨b,0,none⟩),.int .i64 1]=>some (b,E)
    |_=>none) else none
   |_=>none
  |none=>none
 |_=>none
theorem jus(ps:List Nat)(x:Int)(l:List Value)(hj:∀L',J X (mZ ps (.string ⟨#[x.toNat.toUInt8]⟩) L' o))(hv:e9 X.n (usV X.P X.n) o=some (b,E):=by kernel_rfl)(hB:dY ps o=some [(b,.cells ⟨.int .u8 x::l⟩ E (0,0))]:=by kernel_rfl):J X o:=by
 refine jS (Φ:=fun u L'=>u= .string ⟨#[x.toNat.toUInt8]⟩) ps _ hv hB (fun p e hf=>?_) (fun u L' p6=>by subst p6;exact hj L')
 unfold usV at hf
 split at hf<;>try (cases hf;done)
 rename_i xs at_ aw
 split at hf<;>try (cases hf;done)
 rename_i pt hpt
 split at hf<;>try (cases hf;done)
 rename_i E' _ _ _ dQ
 cases hc:Nat.beq (X.P.cellsOf E') 1 with
 |false=>rw[hc] at hf;cases hf
 |true=>
  rw[hc] at hf
  simp only[cond_true] at hf
  split at hf<;>try (cases hf;done)
  rename_i b' hx
  simp only[Option.some.injEq,Prod.mk.injEq] at hf
  obtain⟨rfl,rfl⟩:=hf
  have hc:=Nat.eq_of_beq_eq_true hc
  obtain⟨bu,tf⟩:=an dQ
  refine⟨by rw[aw];simp,fun R Q Er hQ=>?_⟩
  have e1:Builtin.unsafeString_ at_ p.type ⟨[.pointer (some ⟨b',0,none⟩),.int .i64 1]⟩=(do
   let n ←asInt (.int .i64 1)
   let some pt:=at_[0]?|stuck "unsafe.String: no argument types"
   if n <0 then runtimePanic (.error "unsafe.String: len out of range")
   if n>IntKind.i64.max then unsupported (.unsafePointer "String: a length above the largest int")
   if n=0 then pure (.string .empty)
   else if ←variablesAt ⟨b',0,none⟩ (←elemOf pt) n.toNat then do
    let s ←loadBytes ⟨b',0,none⟩ .empty n.toNat
    freeze ⟨b',0,none⟩ n.toNat
    pure (.string s)
   else unsupported (.unsafePointer "String: not so many bytes at ptr")):=rfl
  simp only[execOp,aw,resolve,rR (show u3 X.n e xs=_ from hx),ae,invoke,builtin,e1]
  simp only[asInt,asIntOf,aa,ae,hpt,show ¬((1:Int) <0) by omega,show ¬((1:Int)>IntKind.i64.max) by decide,show ¬((1:Int)=0) by omega,if_false,elemOf,aW tf,variablesAt,eT]
  have hs:(⟨X.ro,[(b',Obj.cells ⟨Value.int .u8 x::l⟩ E' (0,0))]++R⟩:St).rw=[]++(b',Obj.cells ⟨Value.int .u8 x::l⟩ E' (0,0))::R:=rfl
  have hm:(⟨X.ro,[(b',Obj.cells ⟨Value.int .u8 x::l⟩ E' (0,0))]++R⟩:St).has b' (.cells ⟨Value.int .u8 x::l⟩ E' (0,0)):= .inr (by rw[hs];exact fx)
  refine⟨_,hm,?_⟩
  have aAt:=Go.Lib.liesAt_bytes (P:=X.P) hc ((Value.int .u8 x::l).length / X.P.cellsOf E') 1 (by rw[hc];simp)
  have pb:∀ {α β:Type} (a:α) (f:α→Sem β),(Sem.pure a).bind f=f a:=fun _ _=>rfl
  simp only[Obj.shapeOf,List.size_toArray,aa,ae,pb]
  rw[show (1:Int).toNat=1 from rfl,aAt]
  simp only[ae,aa,if_true,loadBytes]
  refine⟨rfl,rfl,_,_,_,.int .u8 x,hm,rfl,?_⟩
  simp only[aa,ae]
  refine(if_neg (by omega:¬(1:Nat)=0)).mpr ?_
  refine⟨[],_,R,hs,?_⟩
  exact hQ (.string ⟨#[x.toNat.toUInt8]⟩) [(b',_)] rfl
def pnV(P:Program)(n:Nat)(p:Oper)(e:Env):Option (Nat×Nat):=match p.op with
 | .binOp .neq T x y _=>match aV P T with
  |some ⟨.pointer E,_,_,_⟩=>match aV P E with
   |some te=>bif Nat.blt 0 te.size then (match a8 n e x with
    |some (.pointer (some ⟨b,0,none⟩))=>match a8 n e y with
     |some (.pointer (some ⟨c,0,none⟩))=>some (b,c)
     |_=>none
    |_=>none) else none
   |none=>none
  |_=>none
 |_=>none
theorem akO{dep:Nat}{t:TypeId}{sz2 Ay:Nat}{z z2:List Value}{ag2:Bool}(tf:TF P t (.pointer E) sz bu z ag){d:TypeDesc}(qz:TF P E d sz2 Ay z2 ag2)(hs:sz2≠0)(a:Addr):YQ P (dep+1) t (.pointer (some a)) (.pointer (some a)) true:=by
 intro α s kk Q Er
 simp only[Op.equalIn,aa,aW tf,bV qz,hs,ne_eq,not_false_eq_true,if_true,sameAddr,beq_self_eq_true,ae]
theorem jpn(hj:J X (mZ [] (.bool false) [] o))(hv:e9 X.n (pnV X.P X.n) o=some (b,b):=by kernel_rfl)(hB:dY [] o=some []:=by kernel_rfl):J X o:=by
 refine jS (Φ:=fun u L'=>u= .bool false∧L'=[]) [] [] hv hB (fun p e hf=>?_) (fun u L' p6=>by obtain⟨rfl,rfl⟩:=p6;exact hj)
 unfold pnV at hf
 split at hf<;>try (cases hf;done)
 rename_i T x y T2 aw
 split at hf<;>try (cases hf;done)
 rename_i E' _ _ _ dQ
 split at hf<;>try (cases hf;done)
 rename_i te tW
 cases hc:Nat.blt 0 te.size with
 |false=>rw[hc] at hf;cases hf
 |true=>
  rw[hc] at hf
  simp only[cond_true] at hf
  split at hf<;>try (cases hf;done)
  rename_i b' hx
  split at hf<;>try (cases hf;done)
  rename_i c' hy
  simp only[Option.some.injEq,Prod.mk.injEq] at hf
  obtain⟨rfl,rfl⟩:=hf
  obtain⟨bu,tf⟩:=an dQ
  obtain⟨Ay,qz⟩:=an tW
  have hc:0 <te.size:=by rwa[Nat.blt_eq] at hc
  refine⟨by rw[aw];simp,fun R Q Er hQ=>?_⟩
  have hs:te.size≠0:=by omega
  simp only[execOp,aw,aC hx,aC hy,eqGuard,aa,binOp,Op.equal,Op.maxDepth]
  simp only[Bool.not_true,Bool.false_eq_true,if_false,ae,aa]
  rw[akO (dep:=9999) tf qz hs]
  exact hQ _ _ ⟨rfl,rfl⟩
end
attribute [irreducible] smV smA smL smR sdV usV pnV
section
variable {X:Cx} {o:Option JS}
def s0V(P:Program)(n:Nat)(p:Oper)(e:Env):Option (Addr×Nat×Nat):=match p.op with
 | .slice T x none (some y) none=>match aV P T with
  |some ⟨.slice E,_,_,_⟩=>match aV P E with
   |some _=>match a8 n e x with
    |some (.slice (some ⟨b,0,none⟩) l c)=>match a8 n e y with
     |some (.int .i64 0)=>some (⟨b,0,none⟩,l,c)
     |_=>none
    |_=>none
   |none=>none
  |_=>none
 |_=>none
theorem js0{a:Addr}{l c:Nat}(hj:J X (ko (.slice (some a) 0 c) o))(hv:dF X.n (s0V X.P X.n) o=some (a,l,c):=by kernel_rfl):J X o:=by
 refine jG hv (fun s p e ho hh hf=>?_) hj
 unfold s0V at hf
 split at hf<;>try (cases hf;done)
 rename_i T x y aw
 split at hf<;>try (cases hf;done)
 rename_i E _ _ _ dQ
 split at hf<;>try (cases hf;done)
 rename_i te tW
 split at hf<;>try (cases hf;done)
 rename_i b l' c' hx
 split at hf<;>try (cases hf;done)
 rename_i hy
 simp only[Option.some.injEq,Prod.mk.injEq] at hf
 obtain⟨rfl,rfl,rfl⟩:=hf
 obtain⟨bu,tf⟩:=an dQ
 obtain⟨Ay,qz⟩:=an tW
 have key:∀s,Yields X.P X.n e p s (.slice (some ⟨b,0,none⟩) 0 c'):=by
  intro s s' mY f hf K E hK
  have hb:(0:Int)≤0∧(0:Int)≤(c':Int):=by omega
  simp only[execOp,aw,Option.map_some,Option.map_none,Instr.sliceAt,Instr.slice,hf _ _ hx,hf _ _ hy,aa,aW tf,Instr.sliceBounds,Instr.sliceBound,asIntOf,ae,hb,and_self,if_true,bV qz]
  have he:(if c'=0 then (some ⟨b,0,none⟩:Option Addr) else some ((⟨b,0,none⟩:Addr).add (0*te.size)))=some ⟨b,0,none⟩:=by
   split
   ·rfl
   ·simp[dO]
  rw[show (0:Int).toNat=0 from rfl,he]
  exact hK
 exact⟨by rw[aw];rfl,fun _=>key _,fun _=>key⟩
end
attribute [irreducible] s0V
section
variable {X:Cx} {o:Option JS}
def cpV(P:Program)(n:Nat)(p:Oper)(e:Env):Option Nat:=match p.op with
 | .call ⟨.builtin .cap,⟨[x]⟩,⟨[T]⟩⟩=>match aV P T with
  |some ⟨.slice _,_,_,_⟩=>match a8 n e x with
   |some (.slice _ _ c)=>some c
   |_=>none
  |_=>none
 |_=>none
theorem jcp{c:Nat}(hj:J X (ko (.int .i64 (c:Int)) o))(hv:dF X.n (cpV X.P X.n) o=some c:=by kernel_rfl):J X o:=by
 refine jG hv (fun s p e ho hh hf=>?_) hj
 unfold cpV at hf
 split at hf<;>try (cases hf;done)
 rename_i x T aw
 split at hf<;>try (cases hf;done)
 rename_i dQ
 split at hf<;>try (cases hf;done)
 rename_i a l c' hx
 simp only[Option.some.injEq] at hf
 subst hf
 obtain⟨bu,tf⟩:=an dQ
 have key:∀s,Yields X.P X.n e p s (.int .i64 (c':Int)):=by
  intro s s' mY f hf K E hK
  simp only[execOp,aw,resolve,invoke,builtin,List.map_toArray,List.map_cons,List.map_nil,hf _ _ hx,ae,aa,Builtin.cap_,List.getElem?_toArray,List.getElem?_cons_zero,aW tf]
  exact hK
 exact⟨by rw[aw];rfl,fun _=>key _,fun _=>key⟩
end
attribute [irreducible] cpV
def tkO(is:List Nat)(o:Option JS):List Sg:=(qP is o).getD []
theorem aNi{X:Cx}{ι:Type}(is:List Nat)(p:List Nat)(Ks:List (Act→St→Prop))(ef:ι→Env)(wf:ι→List Sg)(Inv:ι→Prop)(μ:ι→Nat)(i0:ι)(h0:Inv i0)(ps:List Nat)(hb:∀i,Inv i→∀K,wJ X K ef (fun i=>wf i++tkO is o) Inv μ (μ i)→∀rest,J X (stW X.P X.fn p (Ks++[K]) (ef i++rest) (wf i++tkO is o)))
 (h1:uz (oU (ef i0)) o=some (ef i0):=by kernel_rfl)(hd:∀i,Y1 (oU (ef i)) (ef i)=some (ef i):=by intro _;kernel_rfl)(h2:qP ps o=some (wf i0++tkO is o):=by kernel_rfl)(hp:∀K,H6 X.P X.fn p (Ks++[K])=lpB K (xR o):=by intro _;kernel_rfl):J X o:=
 eN p Ks ef (fun i=>wf i++tkO is o) Inv μ i0 h0 ps hb h1 hd h2 hp
attribute [irreducible] tkO
abbrev RCG(ro:Nat→Option Obj)(Φ:Value→(Nat→Option Obj)→Cells→Prop)(fr:Cells):Ending→St→Prop:=fun en s'=>∃v aL Y,en= .returned v∧Sub ro aL∧(⟨aL,Y++fr⟩:St).le s'∧Φ v aL Y
def auq(P:Program)(f:FuncId)(args:List Value)(ro:Nat→Option Obj)(own:Cells)(Φ:Value→(Nat→Option Obj)→Cells→Prop):Prop:=
 ∀fr,Fn (C0 P) P f ⟨args⟩ ⟨ro,own++fr⟩ (RCG ro Φ fr)
theorem azd(hm:P.follows .mixedOrders=true){ro:Nat→Option Obj}{L:Cells}(own:List Sg)(kn:Cells)(hk:Knows ro kn)(h:∀fr,J (XC P hm f ro (RCG ro Φ fr)) (kS P f args (own++[.l fr]) kn))(hL:den own=L:=by rfl):auq P f args ro L Φ:=by
 subst hL
 intro fr
 have h:=h fr
 unfold kS at h
 split at h<;>try exact h.elim
 rename_i fn hf
 split at h<;>try exact h.elim
 rename_i c hc
 cases hl:Nat.ble args.length fn.ntmps with
 |false=>rw[hl] at h;exact h.elim
 |true=>
  rw[hl] at h
  have uO:sW P f=fn:=by simp only[sW,hf]
  have:=h hk
  simp only[JP,XC,KQ,uO] at this
  have hd:den (own++[.l fr])=den own++fr:=by rw[lE];rfl
  rw[hd] at this
  exact Jg xe hf hc hl this
section
variable {X:Cx} {o:Option JS}
theorem aqy{vs:List Value}{own:Cells}(ps:List Nat)(hC:∀main T,X.C main T→C0 X.P main T)(hf:auq X.P f vs X.ro own Φ)(hj:∀v aL Y,Sub X.ro aL→Φ v aL Y→J (X.at aL) (mZ ps v Y o))(h1:e9 X.n (xU X.P X.n) o=some (f,vs):=by kernel_rfl)(h2:dY ps o=some own:=by kernel_rfl):J X o:=by
 obtain⟨ops,i,todo,k,e,w,kn,p,rfl,ho,hw,hc⟩:=dc h1
 obtain⟨ff,x,xs,at_,fi,ca,ws,aw,hx,rJ,rfl⟩:=qo hc
 intro bO
 rcases p with ⟨dst,op,ty,pos,cT,g⟩
 dsimp only at aw;subst aw
 have hp:=bB h2
 have uO:Fn X.C X.P f ⟨fi++ws++ca⟩ ⟨X.ro,den w⟩ (RCG X.ro Φ (den (dA ps 0 w))):=fun main T hT c cs k1 k2=>
  (X.hC main T hT).mono _ ⟨X.ro,own++den (dA ps 0 w)⟩ _ (dP (J:=[]) (by rw[List.append_nil];exact hp) (Sub.refl _)) (Fn.weaken hC (hf _) main T hT c cs k1 k2)
 refine tR (fi:=⟨fi⟩) (ca:=⟨ca⟩) (ws:=fi++ws++ca) X.hC ho hw hx ff rJ (PS fi ws ca) uO (fun v' s' hr=>?_) (fun ch s' hr=>by obtain⟨_,_,_,e,_⟩:=hr;cases e) (fun s' hr=>by obtain⟨_,_,_,e,_⟩:=hr;cases e)
 obtain⟨v,aL,Y,hv,hs,hle,p6⟩:=hr
 cases hv
 have:=hj _ aL Y hs p6
 rw[nW ho] at this
 have:=this (bO.up hs)
 simp only[JP,gI,GY] at this
 exact this.more X.hC hle
theorem aqw{Φ:Value→Cells→Prop}(hq:QR X (RC oZ fr Φ))(v:Value)(hs ps:List Nat)(Y:Cells)(fM:Sub oZ X.ro)(hR:Φ v Y)(h1:sU (jY X.P X.n X.fn hs o)=some v:=by kernel_rfl)(h2:Qn (jY X.P X.n X.fn hs o)=Qm (jY X.P X.n X.fn hs o):=by kernel_rfl)(h3:dY ps o=some (Y++fr):=by kernel_rfl)(h4:BS o=true:=by kernel_rfl):J X o:=
 aF hq v hs ps (Y++fr) fM ⟨v,Y,rfl,St.le_refl _,hR⟩ h1 h2 h3 h4
theorem aNb{Φ:Value→Cells→Prop}(hq:QR X (RC oZ fr Φ))(v:Value)(ps:List Nat)(A B:Cells)(fM:Sub oZ X.ro)(hR:Φ v (A++B))(h1:sU (jY X.P X.n X.fn [] o)=some v:=by kernel_rfl)(h2:Qn (jY X.P X.n X.fn [] o)=Qm (jY X.P X.n X.fn [] o):=by kernel_rfl)(h3:dY ps o=some (A++(B++fr)):=by kernel_rfl)(h4:BS o=true:=by kernel_rfl):J X o:=
 aF hq v [] ps ((A++B)++fr) fM ⟨v,A++B,rfl,St.le_refl _,hR⟩ h1 h2 (by rw[h3,List.append_assoc]) h4
theorem aNa(hq:QR X (RCG oZ Φ fr))(v:Value)(ps:List Nat)(Y:Cells)(fM:Sub oZ X.ro)(hR:Φ v X.ro Y)(h1:sU (jY X.P X.n X.fn [] o)=some v:=by kernel_rfl)(h2:Qn (jY X.P X.n X.fn [] o)=Qm (jY X.P X.n X.fn [] o):=by kernel_rfl)(h3:dY ps o=some (Y++fr):=by kernel_rfl)(h4:BS o=true:=by kernel_rfl):J X o:=
 aF hq v [] ps (Y++fr) (Sub.refl _) ⟨v,X.ro,Y,rfl,fM,St.le_refl _,hR⟩ h1 h2 h3 h4
end
theorem Q0{fn:Func}{c:Code}{R:Ending→St→Prop}{s:St}{os:Os}{out:Array (Nat×ByteArray)}{Post:Value→World→Prop}(hf:P.funcs[f]?=some fn) (hb:fn.body=some c) (hl:Nat.ble args.length fn.ntmps=true) (hi:P.inits.idxOf? f=none)
 (O1:∀v s0 w,R (.returned v) s0→aP s0 w→w.os=os→w.output=out→Post v w) (I4:∀ch s,¬R (.panicked ch) s)
 (h:Wp (C0 P) f none c (q7 P fn R) (A fn.ntmps (fZ 0 args) []) s):T0 P os out Post (G (Frame.enter P f ⟨args⟩ .normal) []) s:=by
 have hT:C0 P true (T0 P os out Post):=⟨rfl,os,out,Post,rfl⟩
 have iO:=sr P os out Post
 let b:Frame:={(default:Frame) with fn:=f,kind:= .normal,roundOf:=none}
 have iu:Frame.enter P f ⟨args⟩ .normal=aI b (A fn.ntmps (fZ 0 args) []) [.code c]:=by
  rw[←kN args fn.ntmps (Nat.le_of_ble_eq_true hl)]
  simp[Frame.enter,aI,hf,hb,b]
 rw[iu]
 refine h true _ hT b [] [] rfl (by simp[b]) rfl fun e a' s' q=>?_
 have last:∀(todo:List Item),a'.defers=[]→bH P (results fn a'.tmps) s' (fun v s'=>∃s0,s0.le s'∧R (.returned v) s0) (fun _ _=>False)→T0 P os out Post (G {aI b a' todo with mode:= .returning} []) s':=by
  intro todo hd hr
  refine Ww rfl fun w pn tt Dp=>?_
  obtain⟨r,es,bN,hl⟩:=gX _ _ _ _ w #[] hr pn
  rw[Array.empty_append] at bN
  cases r with
  |ok v w'=>
   obtain⟨s2,ht,s0,hle,hu⟩:=hl
   refine⟨v,w',seen P f es,s2,?_,O1 v s0 w' hu (aP.of_le hle ht.jQ) (ht.os.trans tt) (ht.output.trans Dp),ht.sub (iG _ _ _)⟩
   simp only[aI,b,G,stepG,unwind,hf,hd,bN,doReturn,hi,GStep.after,Array.append_empty,Bool.not_true,Bool.false_eq_true,if_false]
  |halt _ _=>obtain⟨_,_,hu⟩:=hl;exact hu.elim
 cases e with
 |normal=>exact iO.go rfl rfl (g':=G {aI b a' [] with mode:= .returning} []) (fun w=>by simp[G,stepG,stepG.exec,aI,b]) (last _ q.1 q.2)
 |ret=>exact fun todo=>iO.go rfl rfl (g':=G {aI b a' (.code .ret::todo) with mode:= .returning} []) (fun w=>by simp[G,stepG,stepG.exec,aI,b]) (last _ q.1 q.2)
 |panic ch=>exact(I4 _ _ q.2).elim
 |exit id=>exact q.elim
 |goto l=>exact q.elim
 |outgrown=>exact q.elim
def anL(P:Program)(f:FuncId)(args:List Value)(ro:Nat→Option Obj)(Φ:Value→Cells→Prop):Prop:=
 ∀os out (Post:Value→World→Prop),(∀v Y w,Φ v Y→aP ⟨ro,Y⟩ w→w.os=os→w.output=out→Post v w)→T0 P os out Post (G (Frame.enter P f ⟨args⟩ .normal) []) ⟨ro,[]⟩
theorem aza(hm:P.follows .mixedOrders=true){ro:Nat→Option Obj}{Φ:Value→Cells→Prop}(hi:P.inits.idxOf? f=none)(kn:Cells)(hk:Knows ro kn)(h:∀fr,J (XC P hm f ro (RC ro fr Φ)) (kS P f args [.l fr] kn)):anL P f args ro Φ:=by
 intro os out Post O1
 have h:=h []
 unfold kS at h
 split at h<;>try exact h.elim
 rename_i fn hf
 split at h<;>try exact h.elim
 rename_i c hc
 cases hl:Nat.ble args.length fn.ntmps with
 |false=>rw[hl] at h;exact h.elim
 |true=>
  rw[hl] at h
  have uO:sW P f=fn:=by simp only[sW,hf]
  have:=h hk
  simp only[JP,XC,KQ,uO] at this
  refine Q0 hf hc hl hi (fun v s0 w hr pn tt Dp=>?_) (fun ch s hr=>?_) this
  ·obtain⟨v',Y,e,hle,p6⟩:=hr
   cases e
   refine O1 _ Y w p6 ?_ tt Dp
   have:=aP.of_le hle pn
   rwa[List.append_nil] at this
  ·obtain⟨v',Y,e,_⟩:=hr;cases e
open Go.Proofs
theorem au:Tryz.prog.follows .mixedOrders=true:=by kernel_rfl
theorem zB:(∀a b:Bool,((a&&b)=true)=(a=true∧b=true))∧(∀a b:Bool,((a||b)=true)=(a=true∨b=true))∧(∀a b:Bool,((a&&b)=false)=(a=false∨b=false))∧(∀a b:Bool,((a||b)=false)=(a=false∧b=false))∧(∀b:Bool,((!b)=true)=(b=false))∧(∀b:Bool,((!b)=false)=(b=true))∧(∀(p:Prop) [Decidable p],(decide p=true)=p)∧(∀(p:Prop) [Decidable p],(decide p=false)=¬p)∧((¬True)=False)∧(∀p:Prop,(p∨False)=p)∧(∀p:Prop,(False∨p)=p):=
 ⟨Bool.and_eq_true,Bool.or_eq_true,by simp,by simp,by simp,by simp,by simp,by simp,by simp,by simp,by simp⟩
@[reducible] noncomputable def zT:Program:=Tryz.prog
abbrev zS:Value:= .slice none 0 0
abbrev zP(b:Nat):Value:= .pointer (some ⟨b,0,none⟩)
abbrev zI(n:Int):Value:= .int .i64 n
abbrev zU(n:Int):Value:= .int .u64 n
theorem zG(l:List α)(k:Nat)(h:k <l.length:=by omega):∃x,l[k]?=some x:=⟨_,List.getElem?_eq_getElem h⟩
theorem zJ{X:Cx}(t:Nat)(p:Prop)[Decidable p](h1:p→J X (Nj t (.bool true) o))(h2:¬p→J X (Nj t (.bool false) o))(hv:Ik t o=some (.bool (decide p)):=by kernel_rfl):J X o:=
 js t (decide p) (fun h=>h1 (of_decide_eq_true h)) (fun h=>h2 (of_decide_eq_false h)) hv
theorem zD{X:Cx}(k:Nat)(h:J X (res (YN X.P X.n k [] o)))(he:lhs (YN X.P X.n k [] o)=rhs (YN X.P X.n k [] o):=by kernel_rfl):J X o:=jd k [] h he
def jb(n lo hi:Int):Bool:=decide (lo≤n)&&decide (n≤hi)
theorem gA{ro:Nat→Option Obj}:dL zT 80 [zI n,zI lo,zI hi] ro (.bool (jb n lo hi)):=by
 refine bC au [] [] bn<|zD 10<|jj 4 [(6,.bool false),(14,.bool ((decide (lo≤n))&&(decide (n≤hi))))] (fun gZ=>?_) (fun hj=>?_)
 rotate_left
 refine js 10 (decide (lo≤n)) (fun h1=>?_) (fun h1=>?_)
 ·
  have gD:=h1
  replace gD:=of_decide_eq_true gD
  refine zD 4<|jw 14 (.bool ((decide (lo≤n))&&(decide (n≤hi)))) (w:= .bool (decide (n≤hi))) (by rw[h1]<;>rfl) ?_
  exact hj _ (by kernel_rfl) (by kernel_rfl)
 ·
  have gD:=h1
  replace gD:=of_decide_eq_false gD
  refine zD 4<|jw 14 (.bool ((decide (lo≤n))&&(decide (n≤hi)))) (w:= .bool false) (by rw[h1]<;>rfl) ?_
  exact hj _ (by kernel_rfl) (by kernel_rfl)
 refine zD 3<|aF q0 (.bool ((decide (lo≤n))&&(decide (n≤hi)))) [] [] [] (Sub.refl _) ⟨_,_,rfl,rfl,rfl,rfl⟩
theorem jh{ro:Nat→Option Obj}:dL zT 176 [zI n,zI lo,zI hi] ro (.bool (jb n lo hi)):=by
 refine bC au [] [] bn<|zD 10<|jj 4 [(6,.bool false),(14,.bool ((decide (lo≤n))&&(decide (n≤hi))))] (fun gZ=>?_) (fun hj=>?_)
 rotate_left
 refine js 10 (decide (lo≤n)) (fun h1=>?_) (fun h1=>?_)
 ·
  have gD:=h1
  replace gD:=of_decide_eq_true gD
  refine zD 4<|jw 14 (.bool ((decide (lo≤n))&&(decide (n≤hi)))) (w:= .bool (decide (n≤hi))) (by rw[h1]<;>rfl) ?_
  exact hj _ (by kernel_rfl) (by kernel_rfl)
 ·
  have gD:=h1
  replace gD:=of_decide_eq_false gD
  refine zD 4<|jw 14 (.bool ((decide (lo≤n))&&(decide (n≤hi)))) (w:= .bool false) (by rw[h1]<;>rfl) ?_
  exact hj _ (by kernel_rfl) (by kernel_rfl)
 refine zD 3<|aF q0 (.bool ((decide (lo≤n))&&(decide (n≤hi)))) [] [] [] (Sub.refl _) ⟨_,_,rfl,rfl,rfl,rfl⟩
def cQ(p:α→Bool):List α→Nat→Int
 | [],_=> -1
 |x::l,k=>bif p x then k else cQ p l (k+1)
theorem gu{l:List α}{x:α}(h:l[k]?=some x):l.drop k=x::l.drop (k+1):=by
 obtain⟨h1,h2⟩:=List.getElem?_eq_some_iff.1 h
 rw[List.drop_eq_getElem_cons h1,h2]
theorem eQ{l:List α}(h:¬k <l.length):l.drop k=[]:=List.drop_eq_nil_of_le (by omega)
theorem jN{p:α→Bool}{l:List α}{x:α}(h:l[k]?=some x):cQ p (l.drop k) k=bif p x then (k:Int) else cQ p (l.drop (k+1)) (k+1):=by rw[gu h];rfl
theorem qk{p:α→Bool}{l:List α}(h:¬k <l.length):cQ p (l.drop k) k= -1:=by rw[eQ h];rfl
abbrev cS(x:Int):List Value:=[zI x]
theorem aqq{v:Value}{ro:Nat→Option Obj}(hl:bK ro v 1 cS xs)(hn:xs.length≤1000000):dL zT 75 [v,zI n] ro (zI (cQ (fun y=>decide (y=n)) xs 0)):=by
 obtain⟨fL,rD,rC,eV,rfl,tH,lJ,mE⟩:=hl
 refine bC au [] [] bn<|zD 10<|eN [1,0,1,0,0] [] (fun(zz:Nat)=>[(0,.slice fL xs.length eV),(1,zI n),(5,zI (zz:Int))]) (fun(zz:Nat)=>[]) (fun(zz:Nat)=>zz≤xs.length∧cQ (fun y=>decide (y=n)) xs 0=cQ (fun y=>decide (y=n)) (xs.drop zz) zz) (fun(zz:Nat)=>xs.length-zz) 0 ⟨by omega,rfl⟩ [] ?_
 rintro k hI K1 bF rest
 refine zD 8<|zJ 9 ((k:Int) <(xs.length:Int)) (fun h1=>?_) fun h1=>?_
 ·
  refine zD 8 ?_
  obtain⟨fU,eI⟩:=zG xs k
  refine iW eV 1 lJ eI<|jl 0 (mE _ _ eI)<|zD 3<|zJ 17 (fU=n) (fun h2=>?_) fun h2=>?_
  ·
   refine zD 7<|aF q0 (zI (k:Int)) [] [] [] (Sub.refl _) ⟨_,_,rfl,rfl,by rw[hI.2,jN eI];simp[*],rfl⟩
  refine zD 4<|ja ((k:Int)+1) (by omega)<|zD 2<|bI bF (k+1) ⟨by omega,by rw[hI.2,jN eI];simp[*]⟩ (by omega) [] (Sub.refl _)
 refine zD 7<|aF q0 (zI (-1)) [] [] [] (Sub.refl _) ⟨_,_,rfl,rfl,by rw[hI.2,qk (by omega)],rfl⟩
def dw(n:Nat):List Int:=(List.range n).map fun(i:Nat)=>(i:Int)
theorem vk(n:Nat):dw (n+1)=dw n++[(n:Int)]:=by simp[dw,List.range_succ]
theorem lI(n:Nat):(dw n).length=n:=by simp[dw]
def bD(v:Value)(xs:List Int)(d:Nat)(X:Cells):Prop:=∃(k:Nat) (cA:Int),k≤xs.length∧X=[(d,.cells ⟨[v,zI k,zU cA]⟩ 51 (0,0))]
def Dn(ro:Nat→Option Obj)(v:Value)(xs:List Int):Prop:=bK ro v 1 cS xs∧xs.length≤4611686018427387904
theorem Dn.up{ro aL:Nat→Option Obj}{v:Value}(h:Dn ro v xs)(hs:Sub ro aL):Dn aL v xs:=⟨h.1.up hs,h.2⟩
theorem toNonzero(h0:¬n <1)(h1:n≤1000000):IntKind.u64.wrap (n+1)≠0:=by
 rw[r8 .u64 rfl _ (by omega) (by simp[IntKind.bits];omega)];omega
theorem toRange{w:Int}(h0:¬n <1)(h1:n≤1000000)(hw:0≤w):0≤IntKind.i64.wrap (Int.tmod (aQ .u64 w 16) (IntKind.u64.wrap (n+1)))∧IntKind.i64.wrap (Int.tmod (aQ .u64 w 16) (IntKind.u64.wrap (n+1)))≤n:=by
 have e:IntKind.u64.wrap (n+1)=n+1:=r8 .u64 rfl _ (by omega) (by simp[IntKind.bits];omega)
 rw[e]
 have h2:0≤aQ .u64 w 16:=Int.fdiv_nonneg hw (by decide)
 have h3:=Int.tmod_nonneg (n+1) h2
 have h4:=Int.tmod_lt_of_pos (aQ .u64 w 16) (show 0 <n+1 by omega)
 rw[kD _ (by omega)]
 omega
theorem aSy{ro:Nat→Option Obj}(hN:Dn ro vd xs)(hD:bD vd xs d X):eG zT 43 [zP d] ro X (fun r Y=>∃w:Int,r= zU w∧0≤w∧w <18446744073709551616∧bD vd xs d Y):=by
 obtain⟨k,cA,hk,rfl⟩:=hD
 obtain⟨hl,hn⟩:=hN
 obtain⟨fL,rD,rC,eV,rfl,tH,lJ,mE⟩:=hl
 refine bC au [.b d (.cells ⟨[.slice fL xs.length eV,zI (k:Int),zU cA]⟩ 51 (0,0))] [] bn<|jd 19 [0,0]<|aH 13 fun CY C4 AT=>jd 1 [0]<|iM AT []<|jd 16 [0,0]<|aH 13 fun AY A6 Ad=>jd 1 [0]<|iM Ad []<|jd 16 [0,0]<|aH 13 fun rZ si qG=>jd 1 [0]<|iM qG []<|jd 15 [0,0]<|zJ 52 ((k:Int) <(xs.length:Int)) (fun h4=>?_) fun h4=>?_
 ·
  refine jd 16 [0,0,0] ?_
  obtain⟨x66,FA⟩:=zG xs k
  refine iW eV 1 lJ FA<|jl 0 (mE _ _ FA)<|zD 5<|aH 20 fun tw tz rP=>jd 1 [0]<|iM rP []<|jd 6 [0]<|ja ((k:Int)+1) (by omega)<|jd 30 [0,0]<|aF q0 (zU (cO .u64 (IntKind.u64.wrap ((cO .u64 (IntKind.u64.wrap ((cO .u64 (cO .u64 (cO .u64 cA (dE .u64 cA 13)) (aQ .u64 (cO .u64 cA (dE .u64 cA 13)) 7)) (dE .u64 (cO .u64 (cO .u64 cA (dE .u64 cA 13)) (aQ .u64 (cO .u64 cA (dE .u64 cA 13)) 7)) 17))+(IntKind.u64.wrap ((IntKind.u64.wrap x66)*13787848793156543929)))) (aQ .u64 (IntKind.u64.wrap ((cO .u64 (cO .u64 (cO .u64 cA (dE .u64 cA 13)) (aQ .u64 (cO .u64 cA (dE .u64 cA 13)) 7)) (dE .u64 (cO .u64 (cO .u64 cA (dE .u64 cA 13)) (aQ .u64 (cO .u64 cA (dE .u64 cA 13)) 7)) 17))+(IntKind.u64.wrap ((IntKind.u64.wrap x66)*13787848793156543929)))) 30))*10723151780598845931)) (aQ .u64 (IntKind.u64.wrap ((cO .u64 (IntKind.u64.wrap ((cO .u64 (cO .u64 (cO .u64 cA (dE .u64 cA 13)) (aQ .u64 (cO .u64 cA (dE .u64 cA 13)) 7)) (dE .u64 (cO .u64 (cO .u64 cA (dE .u64 cA 13)) (aQ .u64 (cO .u64 cA (dE .u64 cA 13)) 7)) 17))+(IntKind.u64.wrap ((IntKind.u64.wrap x66)*13787848793156543929)))) (aQ .u64 (IntKind.u64.wrap ((cO .u64 (cO .u64 (cO .u64 cA (dE .u64 cA 13)) (aQ .u64 (cO .u64 cA (dE .u64 cA 13)) 7)) (dE .u64 (cO .u64 (cO .u64 cA (dE .u64 cA 13)) (aQ .u64 (cO .u64 cA (dE .u64 cA 13)) 7)) 17))+(IntKind.u64.wrap ((IntKind.u64.wrap x66)*13787848793156543929)))) 30))*10723151780598845931)) 31))) [] [0] [(d,.cells ⟨[.slice fL xs.length eV,zI ((k:Int)+1),zU (IntKind.u64.wrap ((cO .u64 (cO .u64 (cO .u64 cA (dE .u64 cA 13)) (aQ .u64 (cO .u64 cA (dE .u64 cA 13)) 7)) (dE .u64 (cO .u64 (cO .u64 cA (dE .u64 cA 13)) (aQ .u64 (cO .u64 cA (dE .u64 cA 13)) 7)) 17))+(IntKind.u64.wrap ((IntKind.u64.wrap x66)*13787848793156543929))))]⟩ 51 (0,0))] (Sub.refl _) ⟨_,_,rfl,rfl,_,rfl,(tU _ _).1,(tU _ _).2,k+1,_,(by omega),rfl⟩
 refine jd 28 [0]<|aF q0 (zU (cO .u64 (IntKind.u64.wrap ((cO .u64 (cO .u64 (cO .u64 (cO .u64 cA (dE .u64 cA 13)) (aQ .u64 (cO .u64 cA (dE .u64 cA 13)) 7)) (dE .u64 (cO .u64 (cO .u64 cA (dE .u64 cA 13)) (aQ .u64 (cO .u64 cA (dE .u64 cA 13)) 7)) 17)) (aQ .u64 (cO .u64 (cO .u64 (cO .u64 cA (dE .u64 cA 13)) (aQ .u64 (cO .u64 cA (dE .u64 cA 13)) 7)) (dE .u64 (cO .u64 (cO .u64 cA (dE .u64 cA 13)) (aQ .u64 (cO .u64 cA (dE .u64 cA 13)) 7)) 17)) 30))*10723151780598845931)) (aQ .u64 (IntKind.u64.wrap ((cO .u64 (cO .u64 (cO .u64 (cO .u64 cA (dE .u64 cA 13)) (aQ .u64 (cO .u64 cA (dE .u64 cA 13)) 7)) (dE .u64 (cO .u64 (cO .u64 cA (dE .u64 cA 13)) (aQ .u64 (cO .u64 cA (dE .u64 cA 13)) 7)) 17)) (aQ .u64 (cO .u64 (cO .u64 (cO .u64 cA (dE .u64 cA 13)) (aQ .u64 (cO .u64 cA (dE .u64 cA 13)) 7)) (dE .u64 (cO .u64 (cO .u64 cA (dE .u64 cA 13)) (aQ .u64 (cO .u64 cA (dE .u64 cA 13)) 7)) 17)) 30))*10723151780598845931)) 31))) [] [0] [(d,.cells ⟨[.slice fL xs.length eV,zI (k:Int),zU (cO .u64 (cO .u64 (cO .u64 cA (dE .u64 cA 13)) (aQ .u64 (cO .u64 cA (dE .u64 cA 13)) 7)) (dE .u64 (cO .u64 (cO .u64 cA (dE .u64 cA 13)) (aQ .u64 (cO .u64 cA (dE .u64 cA 13)) 7)) 17))]⟩ 51 (0,0))] (Sub.refl _) ⟨_,_,rfl,rfl,_,rfl,(tU _ _).1,(tU _ _).2,k,_,(by omega),rfl⟩
theorem Dw{ro:Nat→Option Obj}(hN:Dn ro vd xs)(hD:bD vd xs d X)(hn:n≤1000000):eG zT 15 [zP d,zI n] ro X (fun r Y=>∃w:Int,r= zI w∧0≤w∧(w≤n∨w=0)∧bD vd xs d Y):=by
 refine bC au [.l X] [] bn<|zD 10<|zJ 6 (n <1) (fun h1=>?_) fun h1=>?_
 ·
  refine zD 6<|aF q0 (zI 0) [] [0] X (Sub.refl _) ⟨_,_,rfl,rfl,_,rfl,(by omega),(by omega),hD⟩
 refine zD 5<|jc [0] (aSy hN hD) ?_
 rintro _ X8 ⟨w8,rfl,hw8,hx8,hD8⟩
 refine zD 2<|ja (n+1) (by omega)<|zD 1<|jrm (k:= .u64) (a:=(aQ .u64 w8 16)) (b:=(IntKind.u64.wrap (n+1))) 49 (toNonzero h1 hn)<|zD 4<|aF q0 (zI (IntKind.i64.wrap (Int.tmod (aQ .u64 w8 16) (IntKind.u64.wrap (n+1))))) [] [0] X8 (Sub.refl _) ⟨_,_,rfl,rfl,_,rfl,(toRange h1 hn hw8).1,.inl (toRange h1 hn hw8).2,hD8⟩
theorem uF{ro:Nat→Option Obj}(hN:Dn ro vd xs)(hD:bD vd xs d X)(z0: -1000≤lo∧lo≤1000)(hhi: -1000≤hi∧hi≤1000):eG zT 7 [zP d,zI lo,zI hi] ro X (fun r Y=>∃w:Int,r= zI w∧lo≤w∧(w≤hi∨w=lo)∧bD vd xs d Y):=by
 refine bC au [.l X] [] bn<|zD 10<|ja (hi-lo) (by omega)<|jc (vs:=[zP d,zI (hi-lo)]) [0] (Dw hN hD (by omega)) ?_
 rintro _ X12 ⟨w12,rfl,bcc,p8,aRW⟩
 refine ja (lo+w12) (by omega)<|zD 3<|aF q0 (zI (lo+w12)) [] [0] X12 (Sub.refl _) ⟨_,_,rfl,rfl,_,rfl,(by omega),(by omega),aRW⟩
theorem sZ{ro:Nat→Option Obj}(hN:Dn ro vd xs)(hD:bD vd xs d X)(hn:0≤n∧n≤1000):eG zT 12 [zP d,zI n] ro X (fun r Y=>∃w:Bool,r= .bool w∧bD vd xs d Y):=by
 refine bC au [.l X] [] bn<|zD 8<|ja (n-1) (by omega)<|jc (vs:=[zP d,zI (n-1)]) [0] (Dw hN hD (by omega)) ?_
 rintro _ X8 ⟨w8,rfl,hw8,hx8,hD8⟩
 refine zD 4<|aF q0 (.bool (decide (w8=0))) [] [0] X8 (Sub.refl _) ⟨_,_,rfl,rfl,_,rfl,hD8⟩
def bs(l:List Nat):ByteArray:=⟨(l.map UInt8.ofNat).toArray⟩
abbrev py(x:ByteArray):List Value:=[.string x]
structure cG where
 f:ByteArray
 t:ByteArray
abbrev jO(x:cG):List Value:=[.string x.f,.string x.t]
structure aE where
 name:ByteArray
 st:Int
 no:Int
 head:Int
 bold:Bool
abbrev e8(x:aE):List Value:=[.string x.name,.int .i64 x.st,.int .i64 x.no,.int .i64 x.head,.bool x.bold]
structure iD where
 a:Int
 b:Int
 same:Bool
abbrev wo(x:iD):List Value:=[.int .i64 x.a,.int .i64 x.b,.bool x.same]
structure bG where
 name:ByteArray
 under:Int
abbrev oP(x:bG):List Value:=[.string x.name,.int .i64 x.under]
structure aM where
 k:Int
 st:Int
 ot:Int
 fn:Int
 fl:Int
 tn:Int
 tl:Int
abbrev mO(x:aM):List Value:=[.int .i64 x.k,.int .i64 x.st,.int .i64 x.ot,.int .i64 x.fn,.int .i64 x.fl,.int .i64 x.tn,.int .i64 x.tl]
theorem nA{ps:List α}{x y:α}(h1:ps[i]?=some x) (h2:ps[k]?=some y):((ps.set i y).set k x).Perm ps:=by
 obtain⟨a,rfl⟩:=List.getElem?_eq_some_iff.1 h1
 obtain⟨b,rfl⟩:=List.getElem?_eq_some_iff.1 h2
 exact List.set_set_perm a b
theorem afW{ro:Nat→Option Obj}(hN:Dn ro vd xs)(hD:bD vd xs d X)(hm:bK ro vm 1 cS ys)(hy:0 <ys.length∧ys.length≤1000):eG zT 18 [zP d,vm] ro X (fun r Y=>∃w:Int,r= zI w∧w∈ys∧bD vd xs d Y):=by
 obtain⟨qma,qmb,qmo,qmc,rfl,qmk,qmh,qml⟩:=hm
 refine bC au [.l X] [] bn<|zD 10<|ja ((ys.length:Int)-1) (by omega)<|jc (vs:=[zP d,zI ((ys.length:Int)-1)]) [0] (Dw hN hD (by omega)) ?_
 rintro _ X10 ⟨w10,rfl,acV,rI,SO⟩
 obtain⟨x11,R2⟩:=zG ys (w10.toNat)
 refine Mw w10 qmc 1 qmh R2 (by omega)<|jl 0 (qml _ _ R2)<|zD 3<|aF q0 (zI x11) [] [0] X10 (Sub.refl _) ⟨_,_,rfl,rfl,_,rfl,List.mem_of_getElem? R2,SO⟩
theorem VP{ys:List ByteArray}{ro:Nat→Option Obj}(hN:Dn ro vd xs)(hD:bD vd xs d X)(hm:bK ro vm 1 py ys)(hy:0 <ys.length∧ys.length≤1000):eG zT 42 [zP d,vm] ro X (fun r Y=>∃w:ByteArray,r= .string w∧w∈ys∧bD vd xs d Y):=by
 obtain⟨qma,qmb,qmo,qmc,rfl,qmk,qmh,qml⟩:=hm
 refine bC au [.l X] [] bn<|zD 10<|ja ((ys.length:Int)-1) (by omega)<|jc (vs:=[zP d,zI ((ys.length:Int)-1)]) [0] (Dw hN hD (by omega)) ?_
 rintro _ X10 ⟨w10,rfl,acV,rI,SO⟩
 obtain⟨x11,R2⟩:=zG ys (w10.toNat)
 refine Mw w10 qmc 1 qmh R2 (by omega)<|jl 0 (qml _ _ R2)<|zD 3<|aF q0 (.string x11) [] [0] X10 (Sub.refl _) ⟨_,_,rfl,rfl,_,rfl,List.mem_of_getElem? R2,SO⟩
theorem afV{n:Nat}{ro:Nat→Option Obj}(hN:Dn ro vd xs)(hD:bD vd xs d X)(hn:n≤100):eG zT 38 [zP d,zI (n:Int)] ro X (fun r Y=>∃(ps:List Int) (L X':Cells),az r 1 3 cS ps L∧ps.Perm (dw n)∧Y=L++X'∧bD vd xs d X'):=by
 refine bC au [.l X] [] bn<|zD 14<|qB<|eN [1,1,0,1,0,0] [] (fun(zz:Nat×Value×Cells)=>[(0,zP d),(1,zI (n:Int)),(4,zS),(5,zz.2.1),(6,zI (zz.1:Int))]) (fun(zz:Nat×Value×Cells)=>[.l zz.2.2,.l X]) (fun(zz:Nat×Value×Cells)=>zz.1≤n∧az zz.2.1 1 3 cS (dw zz.1) zz.2.2) (fun(zz:Nat×Value×Cells)=>n-zz.1) (⟨0,zS,[]⟩) ⟨by omega,az.nil _ _ _⟩ [0,1] ?_
 rintro⟨k,v,L⟩ hI K1 bF rest
 dsimp only at hI
 refine zD 7<|zJ 12 ((k:Int) <(n:Int)) (fun h1=>?_) fun h1=>?_
 ·
  refine zD 7<|jn fun b17=>k8 (sz:=1) (ps:=dw k) (qs:=[(k:Int)]) (enc:=cS) (w:= .slice (some ⟨b17,0,none⟩) 1 1) [1] [0] [(b17,.cells ⟨([(k:Int)].map cS).flatten⟩ 3 (0,0))] (hI.2) (fun s _ hZ=>cb [(k:Int)] (hZ _ (.head _)) (by intro p hp;rfl)) (fun p _=>ar rfl) (by simp[dw];omega) (fun v18 L18 adr=>?_)
  obtain⟨aop,ah0,Ss⟩:=adr.form
  subst Ss
  refine zD 4<|ja ((k:Int)+1) (by omega)<|zD 2<|bI bF (⟨k+1,(.slice aop ((dw k++[(k:Int)])).length ah0),L18⟩) ⟨by omega,by rw[vk];exact adr⟩ (by omega) [0,2] (Sub.refl _)
 refine zD 6<|ja ((n:Int)-1) (by omega)<|zD 3<|eN [1,1,1,0,1,0,0] [] (fun(zz:Int×Value×Cells×(List Int)×Cells)=>[(0,zP d),(4,zS),(5,zz.2.1),(7,zI zz.1)]) (fun(zz:Int×Value×Cells×(List Int)×Cells)=>[.l zz.2.2.1,.l zz.2.2.2.2]) (fun(zz:Int×Value×Cells×(List Int)×Cells)=>(-1≤zz.1∧zz.1 <n)∧az zz.2.1 1 3 cS zz.2.2.2.1 zz.2.2.1∧zz.2.2.2.1.Perm (dw n)∧bD vd xs d zz.2.2.2.2) (fun(zz:Int×Value×Cells×(List Int)×Cells)=>zz.1.toNat) (⟨(n:Int)-1,v,L,dw k,X⟩) ⟨by omega,hI.2,(by rw[show k=n by omega]),hD⟩ [0,1] ?_
 rintro⟨j,v,L,ps,X⟩ Ld K2 mL rest
 dsimp only at Ld
 have hlen:ps.length=n:=by rw[Ld.2.2.1.length_eq,lI]
 refine zD 6<|zJ 22 (j>0) (fun h2=>?_) fun h2=>?_
 ·
  refine zD 8<|jc (vs:=[zP d,zI j]) [1] (Dw hN Ld.2.2.2 (by omega)) ?_
  rintro _ X27 ⟨w27,rfl,bb8,HH,aRR⟩
  refine zD 6 ?_
  obtain⟨oE,jZ⟩:=zG ps (j.toNat)
  refine p5 j 1 Ld.2.1 jZ (by omega) fun b30 Sz=>oV 0 [1] L (fun s _ hZ=>cv Ld.2.1 Sz hZ jZ)<|zD 8 ?_
  obtain⟨x36,yw⟩:=zG ps (w27.toNat)
  refine p5 w27 1 Ld.2.1 yw (by omega) fun dJ asE=>oV 0 [1] L (fun s _ hZ=>cv Ld.2.1 asE hZ yw) ?_
  obtain⟨x38,KN⟩:=zG ps (j.toNat)
  refine p5 j 1 Ld.2.1 KN (by omega) fun b38 aQH=>P7 1 0 [zI x36] x36 Ld.2.1 aQH KN rfl rfl (Nat.le_of_ble_eq_true rfl) fun L3 ho4=>zD 5 ?_
  obtain⟨x42,RU⟩:=zG ((ps.set j.toNat x36)) (w27.toNat) (by first|omega| (simp only[List.length_set,List.length_append,List.length_cons,List.length_nil];omega))
  refine p5 w27 1 ho4 RU (by omega) fun b42 aQF=>P7 0 0 [zI oE] oE ho4 aQF RU rfl rfl (Nat.le_of_ble_eq_true rfl) fun L5 ho6=>zD 3<|ja (j-1) (by omega)<|zD 2<|bI mL (⟨j-1,v,L5,((ps.set j.toNat x36).set w27.toNat oE),X27⟩) ⟨by omega,ho6,(nA jZ yw).trans Ld.2.2.1,aRR⟩ (by omega) [0,1] (Sub.refl _)
 refine zD 8<|aF q0 (v) [] [0,1] (L++X) (Sub.refl _) ⟨_,_,rfl,rfl,_,_,_,Ld.2.1,Ld.2.2.1,rfl,Ld.2.2.2⟩
theorem Ps(p:Int→Bool)(k:Nat):(dw (k+1)).filter p=bif p (k:Int) then (dw k).filter p++[(k:Int)] else (dw k).filter p:=by
 rw[vk,List.filter_append]
 cases h:p (k:Int)<;>simp[h]
theorem pS{n:Nat}{x:Int}(h:x∈dw n):0≤x∧x <n:=by
 simp only[dw,List.mem_map,List.mem_range] at h
 obtain⟨i,h1,rfl⟩:=h
 omega
theorem rz(n:Nat):(dw n).Pairwise (· < ·):=by
 simp only[dw]
 rw[List.pairwise_map]
 exact List.pairwise_lt_range.imp fun h=>by omega
theorem yI(x:Int)(l:List Int)(k:Nat):x∈l→(k:Int)≤cQ (fun y=>decide (y=x)) l k∧∃i,cQ (fun y=>decide (y=x)) l k=k+i∧l[i.toNat]?=some x∧0≤i:=by
 induction l generalizing k with
 |nil=>intro h;cases h
 |cons y l ih=>
  intro h
  by_cases e:y=x
  ·subst e
   simp only[cQ,decide_true,cond_true]
   exact⟨Int.le_refl _,0,by simp,by simp,by simp⟩
  simp only[cQ,e,decide_false,cond_false]
  obtain⟨h1,i,h2,h3,h4⟩:=ih (k+1) ((List.mem_cons.1 h).resolve_left fun e2=>e e2.symm)
  refine⟨by omega,i+1,by rw[h2];omega,?_,by omega⟩
  rw[show (i+1).toNat=i.toNat+1 by omega]
  simpa using h3
theorem abd{q:List Int}{n:Nat}(hq:q.Perm (dw n)):((dw n).filter fun i=>decide (cQ (fun y=>decide (y=i)) q 0 <many)).length≤many.toNat:=by
 have iX:∀x,x∈dw n→x∈q:=fun x hx=>hq.mem_iff.2 hx
 have h1:(((dw n).filter fun i=>decide (cQ (fun y=>decide (y=i)) q 0 <many)).map fun i=>cQ (fun y=>decide (y=i)) q 0).Nodup:=by
  rw[List.nodup_iff_pairwise_ne,List.pairwise_map]
  refine((rz n).filter _).imp_of_mem fun {a b} ha hb Eb e=>?_
  obtain⟨_,i,e1,g1,_⟩:=yI a q 0 (iX a ((List.mem_filter.1 ha).1))
  obtain⟨_,j,e2,g2,_⟩:=yI b q 0 (iX b ((List.mem_filter.1 hb).1))
  have:i=j:=by omega
  subst this
  rw[g1] at g2
  cases g2
  omega
 have h2:=wS (l₂:=dw many.toNat) h1 fun x hx=>by
  obtain⟨i,h3,rfl⟩:=List.mem_map.1 hx
  obtain⟨h4,h5⟩:=List.mem_filter.1 h3
  have h6:=of_decide_eq_true h5
  obtain⟨h7,_⟩:=yI i q 0 (iX i h4)
  simp only[dw,List.mem_map,List.mem_range]
  exact⟨(cQ (fun y=>decide (y=i)) q 0).toNat,by omega,by omega⟩
 simpa [lI] using h2
theorem HS(p:α→Bool)(l:List α):(l.filter p).length≤l.length:=List.length_filter_le p l
theorem aED{n:Nat}{ro:Nat→Option Obj}(hN:Dn ro vd xs)(hD:bD vd xs d X)(hn:n≤100):eG zT 40 [zP d,zI (n:Int),zI many] ro X (fun r Y=>∃(ps:List Int) (L X':Cells),az r 1 3 cS ps L∧ps.length≤many.toNat∧ps.Pairwise (· < ·)∧(∀x∈ps,0≤x∧x <n)∧Y=L++X'∧bD vd xs d X'):=by
 refine bC au [.l X] [] bn<|zD 8<|jc (vs:=[zP d,zI (n:Int)]) [0] (afV hN hD (by first|omega|decide)) ?_
 rintro v13 _ ⟨Xc,L13,X13,Si,XO,rfl,akx⟩
 refine jg 0 [.l L13,.l X13]<|zD 12<|qB<|eN [1,1,1,0,1,0,0] [] (fun(zz:Nat×Value×Cells)=>[(1,zI (n:Int)),(2,zI many),(6,zS),(7,v13),(8,zz.2.1),(9,zI (zz.1:Int))]) (fun(zz:Nat×Value×Cells)=>[.l zz.2.2,.l L13,.l X13]) (fun(zz:Nat×Value×Cells)=>zz.1≤n∧az zz.2.1 1 3 cS ((dw zz.1).filter (fun i=>decide (cQ (fun y=>decide (y=i)) Xc 0 <many))) zz.2.2) (fun(zz:Nat×Value×Cells)=>n-zz.1) (⟨0,zS,[]⟩) ⟨by omega,az.nil _ _ _⟩ [0,1,2] ?_
 rintro⟨k,v,L⟩ hI K1 bF rest
 dsimp only at hI
 have hlen:Xc.length=n:=by rw[XO.length_eq,lI]
 have vM:=HS (fun i=>decide (cQ (fun y=>decide (y=i)) Xc 0 <many)) (dw k)
 rw[lI] at vM
 refine zD 7<|zJ 16 ((k:Int) <(n:Int)) (fun h1=>?_) fun h1=>?_
 ·
  refine zD 8<|jp (vs:=[v13,zI (k:Int)]) [1] L13 (fun aA hs hZ=>aqq (Si.nv hZ) (by first|omega| (simp only[List.length_set,List.length_append,List.length_cons,List.length_nil];omega))) ?_
  refine zD 8<|zJ 24 ((cQ (fun y=>decide (y=(k:Int))) Xc 0) <many) (fun h2=>?_) fun h2=>?_
  ·
   refine zD 4<|jn fun b27=>k8 (sz:=1) (ps:=((dw k).filter (fun i=>decide (cQ (fun y=>decide (y=i)) Xc 0 <many)))) (qs:=[(k:Int)]) (enc:=cS) (w:= .slice (some ⟨b27,0,none⟩) 1 1) [1] [0] [(b27,.cells ⟨([(k:Int)].map cS).flatten⟩ 3 (0,0))] (hI.2) (fun s _ hZ=>cb [(k:Int)] (hZ _ (.head _)) (by intro p hp;rfl)) (fun p _=>ar rfl) (by simp only[List.length_cons,List.length_nil];omega) (fun v28 L28 adn=>?_)
   obtain⟨aJG,aJh,X3⟩:=adn.form
   subst X3
   refine zD 4<|ja ((k:Int)+1) (by omega)<|zD 2<|bI bF (⟨k+1,(.slice aJG ((((dw k).filter (fun i=>decide (cQ (fun y=>decide (y=i)) Xc 0 <many)))++[(k:Int)])).length aJh),L28⟩) ⟨by omega,by rw[Ps,decide_eq_true h2];exact adn⟩ (by omega) [0,2,3] (Sub.refl _)
  refine zD 4<|ja ((k:Int)+1) (by omega)<|zD 2<|bI bF (⟨k+1,v,L⟩) ⟨by omega,by rw[Ps,decide_eq_false h2];exact hI.2⟩ (by omega) [0,1,2] (Sub.refl _)
 refine zD 8<|aF q0 (v) [] [0,2] (L++X13) (Sub.refl _) ⟨_,_,rfl,rfl,_,_,_,hI.2,by rw[show k=n by omega];exact abd XO,(rz k).filter _,fun x hx=>by have:=pS ((List.mem_filter.1 hx).1);omega,rfl,akx⟩
def ank:List ByteArray:=[bs [101],bs [121],bs [115,104],bs [97],bs [110,110],bs [116,104],bs [109]]
def toW:List ByteArray:=[bs [],bs [105],bs [115],bs [116],bs [97,101],bs [106],bs [110]]
def GW(r:cG):Prop:=r.f∈ank∧r.t∈toW
def jA(c:aM):Prop:=c∈[(⟨1,0,0,0,0,0,0⟩:aM),⟨2,0,0,0,0,0,0⟩,⟨1,1,0,0,0,0,0⟩,⟨2,1,0,0,0,0,0⟩,⟨4,1,0,0,0,0,0⟩]
theorem qt{p:α→Prop}{l:List α}{x:α}(h:∀y∈l,p y)(hx:p x):∀y∈l++[x],p y:=fun y hy=>by
 rcases List.mem_append.1 hy with h1|h1
 ·exact h y h1
 rw[List.mem_singleton] at h1;subst h1;exact hx
theorem atY{ro:Nat→Option Obj}(hN:Dn ro vd xs)(hD:bD vd xs d X)(hn:0≤many∧many≤100):eG zT 14 [zP d,zI many] ro X (fun r Y=>∃(ps:List cG) (L X':Cells),az r 2 65 jO ps L∧ps.length≤many∧(∀r∈ps,GW r)∧Y=L++X'∧bD vd xs d X'):=by
 refine bC au [.l X] [] bn<|zD 13<|jc (vs:=[zP d,zI many]) [0] (Dw hN hD (by omega)) ?_
 rintro _ X10 ⟨w10,rfl,acV,rI,SO⟩
 refine zD 3<|qB<|eN [1,1,0,1,0,0] [] (fun(zz:Int×Value×Cells×(List cG)×Cells)=>[(0,zP d),(4,zS),(5,zz.2.1),(6,zI zz.1)]) (fun(zz:Int×Value×Cells×(List cG)×Cells)=>[.l zz.2.2.1,.l zz.2.2.2.2]) (fun(zz:Int×Value×Cells×(List cG)×Cells)=>(0≤zz.1∧zz.2.2.2.1.length+zz.1≤many)∧az zz.2.1 2 65 jO zz.2.2.2.1 zz.2.2.1∧(∀r∈zz.2.2.2.1,GW r)∧bD vd xs d zz.2.2.2.2) (fun(zz:Int×Value×Cells×(List cG)×Cells)=>zz.1.toNat) (⟨w10,zS,[],[],X10⟩) ⟨by simp only[List.length_nil];omega,az.nil _ _ _,(fun _ h=>by cases h),SO⟩ [0,1] ?_
 rintro⟨j,v,L,ps,X⟩ hI K1 bF rest
 dsimp only at hI
 refine zD 6<|zJ 12 (j>0) (fun h1=>?_) fun h1=>?_
 ·
  refine zD 7<|jn fun b16=>Y6 (vs:=[zP d,.slice (some ⟨b16,0,none⟩) 7 7]) [2] [0] [(b16,.cells ⟨([(bs [101]),(bs [121]),(bs [115,104]),(bs [97]),(bs [110,110]),(bs [116,104]),(bs [109])].map py).flatten⟩ 9 (0,0))] (fun aA hs hZ=>VP (hN.up hs) hI.2.2.2 (bR [(bs [101]),(bs [121]),(bs [115,104]),(bs [97]),(bs [110,110]),(bs [116,104]),(bs [109])] hZ.head (by intro p hp;rfl)) (by decide)) ?_
  rintro _ X17 ⟨w17,rfl,aNY,aRV⟩
  refine zD 1<|jn fun GR=>Y6 (vs:=[zP d,.slice (some ⟨GR,0,none⟩) 7 7]) [1] [0] [(GR,.cells ⟨([(bs []),(bs [105]),(bs [115]),(bs [116]),(bs [97,101]),(bs [106]),(bs [110])].map py).flatten⟩ 9 (0,0))] (fun aA hs hZ=>VP (hN.up hs) aRV (bR [(bs []),(bs [105]),(bs [115]),(bs [116]),(bs [97,101]),(bs [106]),(bs [110])] hZ.head (by intro p hp;rfl)) (by decide)) ?_
  rintro _ X20 ⟨ZG,rfl,aqS,aeI⟩
  refine zD 1<|jn fun b7=>jd 5 [0,0]<|jn fun mB=>k8 (sz:=2) (ps:=ps) (qs:=[(⟨w17,ZG⟩:cG)]) (enc:=jO) (w:= .slice (some ⟨mB,0,none⟩) 1 1) [5] [0] [(mB,.cells ⟨([(⟨w17,ZG⟩:cG)].map jO).flatten⟩ 65 (0,0))] (hI.2.1) (fun s _ hZ=>cb [(⟨w17,ZG⟩:cG)] (hZ _ (.head _)) (by intro p hp;rfl)) (fun p _=>ar rfl) (by simp<;>omega) (fun v25 L25 adp=>?_)
  obtain⟨aJJ,aJk,aPZ⟩:=adp.form
  subst aPZ
  refine zD 4<|ja (j-1) (by omega)<|zD 2<|bI bF (⟨j-1,(.slice aJJ ((ps++[(⟨w17,ZG⟩:cG)])).length aJk),L25,(ps++[(⟨w17,ZG⟩:cG)]),X20⟩) ⟨by simp only[List.length_append,List.length_cons,List.length_nil];omega,adp,qt hI.2.2.1 ⟨aNY,aqS⟩,aeI⟩ (by omega) [0,3] (Sub.refl _)
 refine zD 8<|aF q0 (v) [] [0,1] (L++X) (Sub.refl _) ⟨_,_,rfl,rfl,_,_,_,hI.2.1,(by omega),hI.2.2.1,rfl,hI.2.2.2⟩
theorem aEC{ro:Nat→Option Obj}(hN:Dn ro vd xs)(hD:bD vd xs d X):eG zT 13 [zP d] ro X (fun r Y=>∃w:aM,r= .agg ⟨mO w⟩∧jA w∧bD vd xs d Y):=by
 refine bC au [.l X] [] bn<|zD 2<|jn fun b2=>zD 8<|jn fun b9=>zD 9<|jc (vs:=[zP d,zI 4]) [2] (Dw hN hD (by omega)) ?_
 rintro _ X15 ⟨w15,rfl,aNZ,acO,att⟩
 obtain⟨AZ,oM⟩:=zG ([(⟨1,0,0,0,0,0,0⟩:aM),(⟨2,0,0,0,0,0,0⟩:aM),(⟨1,1,0,0,0,0,0⟩:aM),(⟨2,1,0,0,0,0,0⟩:aM),(⟨4,1,0,0,0,0,0⟩:aM)]:List _) (w15.toNat) (show w15.toNat <5 from by omega)
 refine Mw (a:=(some ⟨b9,0,none⟩)) (b:=b9) (off:=0) w15 5 7 (fun _ _=>rfl) oM (by omega)<|oV (m:=7) 0 [1] [(b9,.cells ⟨([(⟨1,0,0,0,0,0,0⟩:aM),(⟨2,0,0,0,0,0,0⟩:aM),(⟨1,1,0,0,0,0,0⟩:aM),(⟨2,1,0,0,0,0,0⟩:aM),(⟨4,1,0,0,0,0,0⟩:aM)].map mO).flatten⟩ 58 (0,0))] (fun s _ hZ=>wP (hZ _ (.head _)) (by intro p hp;rfl) oM) ?_
 refine jd 3 [2]<|aF q0 (.agg ⟨[zI AZ.k,zI AZ.st,zI AZ.ot,zI AZ.fn,zI AZ.fl,zI AZ.tn,zI AZ.tl]⟩) [2] [0] X15 (Sub.refl _) ⟨_,_,rfl,rfl,AZ,rfl,List.mem_of_getElem? oM,att⟩
def Fu(b:UInt8):Bool:=Nat.ble 97 b.toNat&&Nat.ble b.toNat 122
def E5(b:UInt8):Bool:=Nat.ble 65 b.toNat&&(Nat.ble b.toNat 90&& !(Nat.beq b.toNat 72||Nat.beq b.toNat 81||Nat.beq b.toNat 87))
def Script(w:ByteArray):Prop:=(∀b∈w.data.toList,Fu b=true)∨(∀b∈w.data.toList,E5 b=true)
def Wh(w:ByteArray):Prop:=(0 <w.size∧w.size≤7)∧Script w
def Mn(w:ByteArray):Prop:=(1≤w.size∧w.size≤3)∧Script w
theorem aaz{w:ByteArray}(h:(w.data.toList.all Fu||w.data.toList.all E5)=true)(h1:(Nat.blt 0 w.size&&Nat.ble w.size 7)=true):Wh w:=by
 simp only[Bool.or_eq_true,List.all_eq_true] at h
 simp only[Bool.and_eq_true,Nat.blt_eq,Nat.ble_eq] at h1
 exact⟨h1,h⟩
theorem axb{w:ByteArray}(h:w∈[bs [97,101,115],bs [115,104,101,116,97],bs [115,109,105,116,121,104,97],bs [99,104,106,97],bs [97,110,110,101]]):Wh w:=by
 simp only[List.mem_cons,List.not_mem_nil,or_false] at h
 rcases h with rfl|rfl|rfl|rfl|rfl<;>exact aaz (by decide) (by decide)
theorem axa{w:ByteArray}(h:w∈[bs [65,69,83],bs [88,69,84,65],bs [83,77,73,84,89,65],bs [67,74,65,88],bs [65,78,78,69]]):Wh w:=by
 simp only[List.mem_cons,List.not_mem_nil,or_false] at h
 rcases h with rfl|rfl|rfl|rfl|rfl<;>exact aaz (by decide) (by decide)
def nu:List ByteArray:=[bs [102,111,111,100],bs [98,114,101,97,100],bs [99,108,111,116,104],bs [104,97,116,115],bs [119,111,111,100],bs [105,114,111,110],bs [98,101,101,114],bs [105,110],bs [115,101,101]]
def oY:List ByteArray:=[bs [98,97,107,101,114],bs [98,97,107,101,114,115],bs [98,111,110,110,101,116,115],bs [98,114,101,119,101,114],bs [98,114,117,115,104,101,115],bs [98,117,116,99,104,101,114],bs [99,97,110,100,108,101,115],bs [99,111,111,112,101,114],bs [99,111,111,112,101,114,115],bs [99,117,116,108,101,114],bs [104,97,116,116,101,114],bs [104,111,115,105,101,114],bs [109,101,114,99,101,114],bs [109,105,108,108,105,110,101,114],bs [116,97,105,108,111,114],bs [116,97,110,110,101,114]]
theorem E3{T:TypeId}{n:Nat}{enc:α→List Value}(ps:List α)(hn:ps.length=n)(hl:∀p∈ps,(enc p).length=sz):az (.slice (some ⟨b,0,none⟩) n n) sz T enc ps [(b,.cells ⟨(ps.map enc).flatten⟩ T (0,0))]:=by
 subst hn
 exact .inr ⟨b,_,ps.length,rfl,rfl,ky ps hl,Nat.le_refl _,hl,by rw[←ky ps hl,List.take_length]⟩
theorem QI{s t w:ByteArray}(h:∀b∈s.data.toList,b∈w.data.toList)(k:∀b∈t.data.toList,b∈w.data.toList):∀b∈(s++t).data.toList,b∈w.data.toList:=fun b hb=>by
 rw[ByteArray.data_append,Array.toList_append,List.mem_append] at hb
 exact hb.elim (h b) (k b)
theorem M9{w:ByteArray}(i j:Nat):∀b∈(w.extract i j).data.toList,b∈w.data.toList:=fun b hb=>by
 rw[ByteArray.data_extract,Array.toList_extract] at hb
 exact List.mem_of_mem_drop (List.mem_of_mem_take (by simpa [List.extract] using hb))
theorem QW{s w:ByteArray}(h:∀b∈s.data.toList,b∈w.data.toList)(hw:Script w):Script s:=hw.imp (fun k b hb=>k b (h b hb)) (fun k b hb=>k b (h b hb))
theorem VQ{ro:Nat→Option Obj}(hN:Dn ro vd xs)(hD:bD vd xs d X):eG zT 17 [zP d,zI 3] ro X (fun r Y=>∃w:ByteArray,r= .string w∧Mn w∧bD vd xs d Y):=by
 refine bC au [.l X] [] bn<|zD 7<|jn fun rY=>Y6 (vs:=[zP d,.slice (some ⟨rY,0,none⟩) 5 5]) [1] [0] [(rY,.cells ⟨([(bs [97,101,115]),(bs [115,104,101,116,97]),(bs [115,109,105,116,121,104,97]),(bs [99,104,106,97]),(bs [97,110,110,101])].map py).flatten⟩ 9 (0,0))] (fun aA hs hZ=>VP (hN.up hs) hD (bR [(bs [97,101,115]),(bs [115,104,101,116,97]),(bs [115,109,105,116,121,104,97]),(bs [99,104,106,97]),(bs [97,110,110,101])] hZ.head (by intro p hp;rfl)) (by decide)) ?_
 rintro _ X11 ⟨w11,rfl,aN1,aRX⟩
 refine zD 6<|jc (vs:=[zP d,zI 3]) [0] (sZ hN aRX (by omega)) ?_
 rintro _ X13 ⟨w13,rfl,akx⟩
 refine zD 1<|HD [1,1,1] [] (fun(zz:ByteArray×Cells)=>[(0,zP d),(1,zI 3),(4,.string (bs [])),(5,.string zz.1)]) (fun(zz:ByteArray×Cells)=>[.l zz.2]) (fun(zz:ByteArray×Cells)=>Wh zz.1∧bD vd xs d zz.2) ?_ (fun K1 bF=>?_)
 ·
  rintro⟨w,X⟩ hJ rest
  dsimp only at hJ
  obtain⟨⟨Vf,hw7⟩,rJ⟩:=hJ.1
  refine zD 9<|jmn (k:= .i64) (a:=3) (b:=6)<|jc (vs:=[zP d,zI 1,zI (min 3 6)]) [0] (uF hN hJ.2 (by omega) (by omega)) ?_
  rintro _ X20 ⟨ZG,rfl,aqS,KO,aeI⟩
  refine zD 3<|eN [1,1,1,1,0,1,0,0] [] (fun(zz:Int×ByteArray×Cells)=>[(0,zP d),(4,.string (bs [])),(5,.string w),(6,.string zz.2.1),(7,zI zz.1)]) (fun(zz:Int×ByteArray×Cells)=>[.l zz.2.2]) (fun(zz:Int×ByteArray×Cells)=>(0≤zz.1∧zz.2.1.size+zz.1=ZG)∧(∀b∈zz.2.1.data.toList,b∈w.data.toList)∧bD vd xs d zz.2.2) (fun(zz:Int×ByteArray×Cells)=>zz.1.toNat) (⟨ZG,bs [],X20⟩) ⟨⟨by omega,by simp[bs,ByteArray.size]⟩,(fun _ h=>by simp[bs] at h),aeI⟩ [0] ?_
  rintro⟨j,t,Z⟩ hI K2 mL rest
  dsimp only at hI
  refine zD 6<|zJ 22 (j>0) (fun h1=>?_) fun h1=>?_
  ·
   refine zD 9<|ja ((w.size:Int)-1) (by omega)<|jc (vs:=[zP d,zI ((w.size:Int)-1)]) [0] (Dw hN hI.2.2 (by omega)) ?_
   rintro _ X29 ⟨w29,rfl,bb7,zv,aRQ⟩
   refine zD 7<|ja (w29+1) (by omega)<|jtB (b:=w) (lo:=w29) (hi:=(w29+1)) (by omega)<|jsa (a:=t) (b:=(w.extract w29.toNat (w29+1).toNat)) 9 (by rw[ByteArray.size_extract];omega) ?_
   refine zD 4<|ja (j-1) (by omega)<|zD 2<|bI mL (⟨j-1,(t++(w.extract w29.toNat (w29+1).toNat)),X29⟩) ⟨⟨by omega,by rw[ByteArray.size_append,ByteArray.size_extract];omega⟩,QI hI.2.1 (M9 _ _),aRQ⟩ (by omega) [0] (Sub.refl _)
  refine zD 8<|aF q0 (.string t) [] [0] Z (Sub.refl _) ⟨_,_,rfl,rfl,_,rfl,⟨by omega,QW hI.2.1 rJ⟩,hI.2.2⟩
 refine js 13 w13 (fun h2=>?_) (fun h2=>?_)
 ·
  subst h2
  refine zD 3<|jn fun mg=>Y6 (vs:=[zP d,.slice (some ⟨mg,0,none⟩) 5 5]) [1] [0] [(mg,.cells ⟨([(bs [65,69,83]),(bs [88,69,84,65]),(bs [83,77,73,84,89,65]),(bs [67,74,65,88]),(bs [65,78,78,69])].map py).flatten⟩ 9 (0,0))] (fun aA hs hZ=>VP (hN.up hs) akx (bR [(bs [65,69,83]),(bs [88,69,84,65]),(bs [83,77,73,84,89,65]),(bs [67,74,65,88]),(bs [65,78,78,69])] hZ.head (by intro p hp;rfl)) (by decide)) ?_
  rintro _ X16 ⟨w16,rfl,azu,aeJ⟩
  refine zD 2<|bI bF ⟨w16,X16⟩ ⟨axa azu,aeJ⟩ Nat.zero_lt_one [0] (Sub.refl _)
 subst h2
 refine zD 2<|bI bF ⟨w11,X13⟩ ⟨axb aN1,akx⟩ Nat.zero_lt_one [0] (Sub.refl _)
theorem acm{ro:Nat→Option Obj}:eG zT 39 [] ro [] (fun r Y=>∃L,az r 1 9 py nu L∧Y=L):=by
 refine bC au [] [] bn<|zD 6<|jn fun b1=>zD 3<|aF q0 (.slice (some ⟨b1,0,none⟩) 9 9) [] [0] [(b1,.cells ⟨[.string (bs [102,111,111,100]),.string (bs [98,114,101,97,100]),.string (bs [99,108,111,116,104]),.string (bs [104,97,116,115]),.string (bs [119,111,111,100]),.string (bs [105,114,111,110]),.string (bs [98,101,101,114]),.string (bs [105,110]),.string (bs [115,101,101])]⟩ 9 (0,0))] (Sub.refl _) ⟨_,_,rfl,rfl,_,E3 nu rfl (by intro p hp;rfl),rfl⟩
theorem acB{ro:Nat→Option Obj}:eG zT 41 [] ro [] (fun r Y=>∃L,az r 1 9 py oY L∧Y=L):=by
 refine bC au [] [] bn<|zD 6<|jn fun b1=>zD 3<|aF q0 (.slice (some ⟨b1,0,none⟩) 16 16) [] [0] [(b1,.cells ⟨[.string (bs [98,97,107,101,114]),.string (bs [98,97,107,101,114,115]),.string (bs [98,111,110,110,101,116,115]),.string (bs [98,114,101,119,101,114]),.string (bs [98,114,117,115,104,101,115]),.string (bs [98,117,116,99,104,101,114]),.string (bs [99,97,110,100,108,101,115]),.string (bs [99,111,111,112,101,114]),.string (bs [99,111,111,112,101,114,115]),.string (bs [99,117,116,108,101,114]),.string (bs [104,97,116,116,101,114]),.string (bs [104,111,115,105,101,114]),.string (bs [109,101,114,99,101,114]),.string (bs [109,105,108,108,105,110,101,114]),.string (bs [116,97,105,108,111,114]),.string (bs [116,97,110,110,101,114])]⟩ 9 (0,0))] (Sub.refl _) ⟨_,_,rfl,rfl,_,E3 oY rfl (by intro p hp;rfl),rfl⟩
structure bp where
 word:ByteArray
 cls:Int
 n5:Int
 eg:Value
abbrev me(x:bp):List Value:=[.string x.word,zI x.cls,zI x.n5,x.eg]
def TG(hs:List bp)(i:Int):Prop:=0≤i∧∃h,hs[i.toNat]?=some h∧0≤h.cls
theorem Tq{p:α→Bool}{l:List α}{x:α}(h:l[k]?=some x):(l.drop k).any p=(p x||(l.drop (k+1)).any p):=by rw[gu h];rfl
theorem ale{p:α→Bool}{l:List α}(h:¬k <l.length):(l.drop k).any p=false:=by rw[eQ h];rfl
def TW(fs:List iD)(a b:Int):Bool:=fs.any fun y=>decide (y.a=a)&&decide (y.b=b)
theorem xb{vc vh:Value}{hs:List bp}{ro:Nat→Option Obj}(hN:Dn ro vd xs)(hD:bD vd xs d X)(hh:bK ro vh 4 me hs)(hn:hs.length≤100):eG zT 16 [zP d,.agg ⟨[zI 2,zI 0,zI 0,vc,vh,zS,zS]⟩,.string nm] ro X (fun r Y=>∃w:aE,r= .agg ⟨e8 w⟩∧w.name=nm∧(0≤w.st∧w.st≤1)∧(w.head= -1∨TG hs w.head)∧bD vd xs d Y):=by
 obtain⟨dR,uZ,uY,dD,rfl,xu,qM,qL⟩:=hh
 refine bC au [.l X] [] bn<|zD 2<|jn fun b4=>jn fun b6=>jd 8 [1]<|jc (vs:=[zP d,zI 1]) [2] (Dw hN hD (by omega)) ?_
 rintro _ X15 ⟨w15,rfl,aNZ,acO,att⟩
 refine zD 2<|jc (vs:=[zP d,zI 1,zI 3]) [0] (uF hN att (by omega) (by omega)) ?_
 rintro _ X18 ⟨w18,rfl,bcb,bbX,Lf⟩
 refine zD 1<|jc (vs:=[zP d,zI 1,zI 3]) [0] (uF hN Lf (by omega) (by omega)) ?_
 rintro _ X20 ⟨ZG,rfl,aqS,KO,aeI⟩
 refine zD 1<|jc (vs:=[zP d,zI 1,zI 40]) [0] (uF hN aeI (by omega) (by omega)) ?_
 rintro _ X22 ⟨w22,rfl,bca,tV,aRT⟩
 refine jn fun b23=>Y6 (vs:=[zP d,.slice (some ⟨b23,0,none⟩) 3 3]) [1] [0] [(b23,.cells ⟨([w18,ZG,w22].map cS).flatten⟩ 3 (0,0))] (fun aA hs hZ=>afW (hN.up hs) aRT (bR [w18,ZG,w22] hZ.head (by intro p hp;rfl)) (by simp)) ?_
 rintro _ X24 ⟨w24,rfl,bb9,aRS⟩
 refine zD 1<|jc (vs:=[zP d,zI 4]) [0] (sZ hN aRS (by omega)) ?_
 rintro _ X26 ⟨Wo,rfl,akw⟩
 refine zD 1<|jn fun b7=>jd 12 [0]<|qB<|eN [1,1,1,0,1,0,0] [] (fun(zz:Nat×Value×Cells×(List Int))=>[(0,zP d),(4,zP b4),(6,zP b6),(7,zP b7),(8,zz.2.1),(9,zI (zz.1:Int))]) (fun(zz:Nat×Value×Cells×(List Int))=>[.l zz.2.2.1,.l X26,.b b7 (.cells ⟨[.string nm,zI w15,zI w24,zI (-1),.bool Wo]⟩ 70 (0,0)),.b b6 (.cells ⟨[.string ByteArray.empty,zI 0,zI 0,zI 0,.bool false]⟩ 70 (0,0)),.b b4 (.cells ⟨[zI 2,zI 0,zI 0,vc,.slice dR hs.length dD,zS,zS]⟩ 67 (0,0))]) (fun(zz:Nat×Value×Cells×(List Int))=>(zz.1≤hs.length∧zz.2.2.2.length≤zz.1)∧az zz.2.1 1 3 cS zz.2.2.2 zz.2.2.1∧∀i∈zz.2.2.2,TG hs i) (fun(zz:Nat×Value×Cells×(List Int))=>hs.length-zz.1) (⟨0,zS,[],[]⟩) ⟨⟨by omega,by simp⟩,az.nil _ _ _,(fun _ h=>by cases h)⟩ [0,2,1,4,5] ?_
 rintro⟨k,v,L,ps⟩ hI K1 bF rest
 dsimp only at hI
 refine jd 10 [4]<|zJ 33 ((k:Int) <(hs.length:Int)) (fun h1=>?_) fun h1=>?_
 ·
  refine jd 10 [4] ?_
  obtain⟨x40,aqM⟩:=zG hs k
  refine iW dD 4 qM aqM<|zD 1<|jl 1 (qL _ _ aqM)<|zD 2<|zJ 43 (x40.cls≥0) (fun h2=>?_) fun h2=>?_
  ·
   refine zD 4<|jn fun b46=>k8 (sz:=1) (ps:=ps) (qs:=[(k:Int)]) (enc:=cS) (w:= .slice (some ⟨b46,0,none⟩) 1 1) [1] [0] [(b46,.cells ⟨([(k:Int)].map cS).flatten⟩ 3 (0,0))] (hI.2.1) (fun s _ hZ=>cb [(k:Int)] (hZ _ (.head _)) (by intro p hp;rfl)) (fun p _=>ar rfl) (by simp<;>omega) (fun v47 L47 adh=>?_)
   obtain⟨aJA,aJb,aPS⟩:=adh.form
   subst aPS
   refine zD 4<|ja ((k:Int)+1) (by omega)<|zD 2<|bI bF (⟨k+1,(.slice aJA ((ps++[(k:Int)])).length aJb),L47,(ps++[(k:Int)])⟩) ⟨by simp only[List.length_append,List.length_cons,List.length_nil];omega,adh,qt hI.2.2 ⟨by omega,x40,aqM,by assumption⟩⟩ (by omega) [0,2,3,4,5] (Sub.refl _)
  refine zD 4<|ja ((k:Int)+1) (by omega)<|zD 2<|bI bF (⟨k+1,v,L,ps⟩) ⟨by dsimp only;omega,hI.2⟩ (by omega) [0,1,2,3,4] (Sub.refl _)
 refine zD 6<|DY hI.2.1<|zD 2<|js 51 (decide ((ps.length:Int)>0)) (fun h3=>?_) (fun h3=>?_)
 ·
  have vP:=h3
  replace vP:=of_decide_eq_true vP
  refine zD 1<|jc (vs:=[zP d,zI 4]) [1] (sZ hN akw (by omega)) ?_
  rintro _ X53 ⟨w53,rfl,aku⟩
  refine zD 3<|js 55 (!w53) (fun h4=>?_) (fun h4=>?_)
  ·
   try simp only[zB] at h4
   refine zD 5<|DY hI.2.1<|ja ((ps.length:Int)-1) (by omega)<|jc (vs:=[zP d,zI ((ps.length:Int)-1)]) [0] (Dw hN aku (by omega)) ?_
   rintro _ X61 ⟨w61,rfl,bb4,bbW,aRK⟩
   obtain⟨x62,aqJ⟩:=zG ps (w61.toNat)
   refine p5 w61 1 hI.2.1 aqJ (by omega) fun b62 aQA=>oV 0 [1] L (fun s _ hZ=>cv hI.2.1 aQA hZ aqJ)<|jd 9 [2,2,3]<|aF q0 (.agg ⟨[.string nm,zI w15,zI w24,zI x62,.bool Wo]⟩) [3] [0] X61 (Sub.refl _) ⟨_,_,rfl,rfl,⟨_,_,_,_,_⟩,rfl,rfl,(by dsimp only;omega),.inr (hI.2.2 _ (List.mem_of_getElem? aqJ)),aRK⟩
  try simp only[zB] at h4
  refine jd 8 [2,3]<|aF q0 (.agg ⟨[.string nm,zI w15,zI w24,zI (-1),.bool Wo]⟩) [3] [0] X53 (Sub.refl _) ⟨_,_,rfl,rfl,⟨_,_,_,_,_⟩,rfl,rfl,(by dsimp only;omega),.inl rfl,aku⟩
 have vP:=h3
 replace vP:=of_decide_eq_false vP
 refine jd 13 [2,3]<|aF q0 (.agg ⟨[.string nm,zI w15,zI w24,zI (-1),.bool Wo]⟩) [3] [1] X26 (Sub.refl _) ⟨_,_,rfl,rfl,⟨_,_,_,_,_⟩,rfl,rfl,(by dsimp only;omega),.inl rfl,akw⟩
theorem acy{ro:Nat→Option Obj}(hm:bK ro vm 1 cS ys)(hn:ys.length≤1000):eG zT 44 [vm] ro [] (fun r Y=>∃L,az r 1 3 cS ys L∧Y=L):=by
 obtain⟨qma,qmb,qmo,qmc,rfl,qmk,qmh,qml⟩:=hm
 refine bC au [] [] bn<|zD 6<|jn fun b3=>zD 1<|k8 (sz:=1) (ps:=[]) (qs:=ys) (enc:=cS) (w:= .slice qma ys.length qmc) [0] [] [] (cD (b:=b3) (T:=3)) (fun s he _=>⟨qma,qmb,qmo,qmc,rfl,qmh,fun i p hp=>(qml i p hp).ext he⟩) (fun p _=>ar rfl) (by simp<;>omega) (fun v5 L5 FJ=>?_)
 rw[List.nil_append] at FJ
 obtain⟨va5,vc5,he5⟩:=FJ.form
 subst he5
 refine zD 3<|aF q0 ((.slice va5 (ys).length vc5)) [] [0] L5 (Sub.refl _) ⟨_,_,rfl,rfl,_,FJ,rfl⟩
theorem pZ{ys:List aE}{ro:Nat→Option Obj}(hm:bK ro vm 5 e8 ys)(hn:ys.length≤1000):eG zT 22 [vm] ro [] (fun r Y=>∃L,az r 5 70 e8 ys L∧Y=L):=by
 obtain⟨qma,qmb,qmo,qmc,rfl,qmk,qmh,qml⟩:=hm
 refine bC au [] [] bn<|zD 6<|jn fun b3=>zD 1<|k8 (sz:=5) (ps:=[]) (qs:=ys) (enc:=e8) (w:= .slice qma ys.length qmc) [0] [] [] (cD (b:=b3) (T:=70)) (fun s he _=>⟨qma,qmb,qmo,qmc,rfl,qmh,fun i p hp=>(qml i p hp).ext he⟩) (fun p _=>ar rfl) (by simp<;>omega) (fun v5 L5 FJ=>?_)
 rw[List.nil_append] at FJ
 obtain⟨va5,vc5,he5⟩:=FJ.form
 subst he5
 refine zD 3<|aF q0 ((.slice va5 (ys).length vc5)) [] [0] L5 (Sub.refl _) ⟨_,_,rfl,rfl,_,FJ,rfl⟩
theorem ay2{vf:Value}{fs:List iD}{x:iD}{ro:Nat→Option Obj}(hf:bK ro vf 3 wo fs)(hn:fs.length≤1000):dL zT 20 [.agg ⟨[s0,s1,s2,t0,t1,ru,vb,va,zI gone,zI new,zI af,vf]⟩,.agg ⟨[zI x.a,zI x.b,.bool x.same]⟩] ro (.bool (TW fs x.a x.b)):=by
 obtain⟨n8,Hv,Hu,mG,rfl,Mu,Bj,Bi⟩:=hf
 refine bC au [] [] bn<|zD 2<|jn fun b2=>jn fun b3=>zD 8<|eN [1,0,1,0,0] [] (fun(zz:Nat)=>[(2,zP b2),(3,zP b3),(5,zI (zz:Int))]) (fun(zz:Nat)=>[.b b3 (.cells ⟨[zI x.a,zI x.b,.bool x.same]⟩ 75 (0,0)),.b b2 (.cells ⟨[s0,s1,s2,t0,t1,ru,vb,va,zI gone,zI new,zI af,.slice n8 fs.length mG]⟩ 40 (0,0))]) (fun(zz:Nat)=>zz≤fs.length∧TW fs x.a x.b=(fs.drop zz).any (fun y=>decide (y.a=x.a)&&decide (y.b=x.b))) (fun(zz:Nat)=>fs.length-zz) 0 ⟨by omega,rfl⟩ [0,1] ?_
 rintro k hI K1 bF rest
 refine jd 9 [1]<|zJ 10 ((k:Int) <(fs.length:Int)) (fun h1=>?_) fun h1=>?_
 ·
  refine jd 9 [1] ?_
  obtain⟨AZ,oM⟩:=zG fs k
  refine iW mG 3 Bj oM<|zD 1<|jl 0 (Bi _ _ oM)<|jd 4 [0]<|js 9 (decide (AZ.a=x.a)) (fun h2=>?_) (fun h2=>?_)
  ·
   have mz:=h2
   replace mz:=of_decide_eq_true mz
   refine jd 3 [1] ?_
   obtain⟨Qt,RZ⟩:=zG fs k
   refine iW mG 3 Bj RZ<|zD 1<|jl 1 (Bi _ _ RZ)<|jd 5 [0]<|zJ 32 (Qt.b=x.b) (fun h3=>?_) fun h3=>?_
   ·
    refine zD 6<|aF q0 (.bool true) [] [] [] (Sub.refl _) ⟨_,_,rfl,rfl,by rw[hI.2,Tq oM];simp_all,rfl⟩
   refine zD 4<|ja ((k:Int)+1) (by omega)<|zD 2<|bI bF (k+1) ⟨by omega,by rw[hI.2,Tq oM];simp_all⟩ (by omega) [0,1] (Sub.refl _)
  have mz:=h2
  replace mz:=of_decide_eq_false mz
  refine zD 15<|ja ((k:Int)+1) (by omega)<|zD 2<|bI bF (k+1) ⟨by omega,by rw[hI.2,Tq oM];simp_all⟩ (by omega) [0,1] (Sub.refl _)
 refine zD 7<|aF q0 (.bool false) [] [] [] (Sub.refl _) ⟨_,_,rfl,rfl,by rw[hI.2,ale (by omega)],rfl⟩
theorem aSx{fa:Value}{uG Ju:List aE}{ro:Nat→Option Obj}(hN:Dn ro vd xs)(hD:bD vd xs d X)(hb:bK ro vb 5 e8 uG)(ha:bK ro va 5 e8 Ju)(hn:uG.length≤100∧Ju.length≤100):eG zT 19 [zP d,.agg ⟨[s0,s1,s2,t0,t1,ru,vb,va,zI gone,zI new,zI af,fa]⟩] ro X (fun r Y=>∃x:iD,r= .agg ⟨wo x⟩∧(0≤x.a∧(x.a <uG.length∨x.a=0))∧(0≤x.b∧(x.b <Ju.length∨x.b=0))∧bD vd xs d Y):=by
 obtain⟨rV,Y0,YY,rE,rfl,YZ,W6,W5⟩:=hb
 obtain⟨rF,W9,W7,qN,rfl,W8,Us,Ur⟩:=ha
 refine bC au [.l X] [] bn<|zD 2<|jn fun b3=>jn fun b4=>jd 7 [1]<|ja ((uG.length:Int)-1) (by omega)<|jd 4 [1]<|ja ((Ju.length:Int)-1) (by omega)<|zD 1<|aH 5 fun CY C4 AT=>jc (vs:=[zP d,zI ((uG.length:Int)-1)]) [2] (Dw hN hD (by omega)) ?_
 rintro _ X10 ⟨w10,rfl,acV,rI,SO⟩
 refine iM AT [[2],[2]]<|aH 11 fun AY A6 Ad=>jc (vs:=[zP d,zI ((Ju.length:Int)-1)]) [0] (Dw hN SO (by omega)) ?_
 rintro _ X16 ⟨w16,rfl,azu,oM,aeJ⟩
 refine iM Ad [[2],[2]]<|aH 13 fun rZ si qG=>jc (vs:=[zP d,zI 2]) [0] (sZ hN aeJ (by omega)) ?_
 rintro _ X18 ⟨w18,rfl,Lf⟩
 refine iM qG [[2],[2]]<|zD 1<|aH 15 fun tw tz rP=>jd 1 [1]<|cM rP<|zD 2<|aF q0 (.agg ⟨[zI w10,zI w16,.bool w18]⟩) [1] [0] X18 (Sub.refl _) ⟨_,_,rfl,rfl,⟨_,_,_⟩,rfl,(by dsimp only;omega),(by dsimp only;omega),Lf⟩
inductive dK{α β:Type}(R:α→β→Prop):List α→List β→Prop
 |nil:dK R [] []
 |cons {a:α} {b:β} {l:List α} {m:List β}:R a b→dK R l m→dK R (a::l) (b::m)
theorem dK.snoc{R:α→β→Prop}{l:List α}{m:List β}{a:α}{b:β}(h:dK R l m)(k:R a b):dK R (l++[a]) (m++[b]):=by
 induction h with
 |nil=>exact .cons k .nil
 |cons h1 _ ih=>exact .cons h1 ih
theorem dK.len{R:α→β→Prop}{l:List α}{m:List β}(h:dK R l m):l.length=m.length:=by
 induction h with
 |nil=>rfl
 |cons _ _ ih=>simp[ih]
theorem dK.get{R:α→β→Prop}{l:List α}{m:List β}(h:dK R l m){a:α}(ha:l[i]?=some a):∃b,m[i]?=some b∧R a b:=by
 induction h generalizing i with
 |nil=>simp at ha
 |cons h1 _ ih=>
  cases i with
  |zero=>simp at ha;subst ha;exact⟨_,rfl,h1⟩
  |succ i=>exact ih (by simpa using ha)
theorem dK.imp{R S:α→β→Prop}{l:List α}{m:List β}(h:dK R l m)(k:∀a b,R a b→S a b):dK S l m:=by
 induction h with
 |nil=>exact .nil
 |cons h1 _ ih=>exact .cons (k _ _ h1) ih
structure bY where
 word:ByteArray
 cls:Int
 n5:Int
 eg:List Int
def dC(h:bp)(x:bY):Prop:=h.word=x.word∧h.cls=x.cls∧h.n5=x.n5
def rj(ro:Nat→Option Obj)(h:bp)(x:bY):Prop:=h.word=x.word∧h.cls=x.cls∧h.n5=x.n5∧bK ro h.eg 1 cS x.eg
def jT(ro:Nat→Option Obj)(vc vh:Value)(cs:List bG)(hv:List bp)(hd:List bY):Prop:=bK ro vc 2 oP cs∧bK ro vh 4 me hv∧dK (rj ro) hv hd
def gY(nc nh:Nat)(i:Nat)(x:bY):Prop:=(-1≤x.cls∧x.cls <nc)∧(-1≤x.n5∧x.n5 <nh∧x.n5≠i)∧(x.eg.length≤nh∧x.eg.Pairwise (· < ·)∧∀y∈x.eg,0≤y∧y <nh∧y≠i)∧(x.n5≠ -1→x.cls= -1∧x.eg=[])∧(x.n5= -1→x.cls= -1→x.eg≠[])
structure wH(cs:List bG)(hd:List bY):Prop where
 nc:0 <cs.length∧cs.length≤3
 nh:hd.length≤4
 cls:∀(i:Nat) (c:bG),cs[i]?=some c→c.name∈nu∧ -1≤c.under∧c.under <i
 names:(cs.map (·.name)).Pairwise fun a b=>cH a b=false
 Ab:∀(i:Nat) (x:bY),hd[i]?=some x→x.word∈oY∧gY cs.length hd.length i x
 words:(hd.map (·.word)).Pairwise fun a b=>cH a b=false∧strLt b a=false
def nP(names:List Int)(cs:List bG):Prop:=∀(i:Nat) (c:bG),cs[i]?=some c→(∃y,names[i]?=some y∧nu[y.toNat]?=some c.name)∧ -1≤c.under∧c.under <i
theorem Pb{l:List α}{x y:α}(h:(l++[x])[i]?=some y):l[i]?=some y∨(i=l.length∧y=x):=by
 rcases Nat.lt_trichotomy i l.length with h1|h1|h1
 ·rw[List.getElem?_append_left h1] at h;exact .inl h
 ·subst h1;simp at h;exact .inr ⟨rfl,h.symm⟩
 rw[List.getElem?_eq_none (by simp;omega)] at h;cases h
theorem nP.snoc{names:List Int}{cs:List bG}(h:nP names cs){y u:Int}(h1:names[cs.length]?=some y) (h2:nu[y.toNat]?=some nm) (h3: -1≤u∧u <cs.length):nP names (cs++[⟨nm,u⟩]):=fun i c hc=>by
 rcases Pb hc with h4| ⟨rfl,rfl⟩
 ·exact h i c h4
 exact⟨⟨y,h1,h2⟩,h3⟩
def mS(ws:List Int)(nc:Nat)(hv:List bp)(hd:List bY)(Z:Cells)(i:Nat):Prop:=
 (∀ro,Knows ro Z→dK (rj ro) hv hd)∧hd.length=i∧hv.length=i∧(∀(k:Nat) (x:bY),hd[k]?=some x→(∃w,ws[k]?=some w∧oY[w.toNat]?=some x.word)∧gY nc ws.length k x)∧dK dC hv hd
theorem mS.snoc{ws:List Int}{nc:Nat}{hv:List bp}{hd:List bY}{Z A:Cells}(h:mS ws nc hv hd Z i){hV:bp}{x:bY}{w:Int}(h0:dC hV x)(h1:∀ro,Knows ro A→rj ro hV x)(h2:ws[i]?=some w) (h3:oY[w.toNat]?=some x.word) (h4:gY nc ws.length i x):
 mS ws nc (hv++[hV]) (hd++[x]) (A++Z) (i+1):=by
 obtain⟨g1,g2,g3,g4,g5⟩:=h
 refine⟨fun ro hk=>(g1 ro hk.right).snoc (h1 ro hk.left),by simp[g2],by simp[g3],fun k y hy=>?_,g5.snoc h0⟩
 rcases Pb hy with h5| ⟨rfl,rfl⟩
 ·exact g4 k y h5
 rw[g2];exact⟨⟨w,h2,h3⟩,h4⟩
theorem ai3{i w:Int}(hi:0≤i∧i <n)(hw:0≤w∧w≤n-2):0≤Int.tmod (i+1+w) n∧Int.tmod (i+1+w) n <n∧Int.tmod (i+1+w) n≠i:=by
 have h1:=Int.tmod_nonneg n (show 0≤i+1+w by omega)
 have h2:=Int.tmod_lt_of_pos (i+1+w) (show 0 <n by omega)
 refine⟨h1,h2,fun h=>?_⟩
 have h3:=Int.tmod_add_mul_tdiv (i+1+w) n
 rw[h] at h3
 have h4:n*(i+1+w).tdiv n=1+w:=by omega
 rcases Int.lt_trichotomy ((i+1+w).tdiv n) 0 with h5|h5|h5
 ·have:n*(i+1+w).tdiv n≤n* -1:=Int.mul_le_mul_of_nonneg_left (by omega) (by omega)
  omega
 ·rw[h5] at h4;omega
 have:n*1≤n*(i+1+w).tdiv n:=Int.mul_le_mul_of_nonneg_left (by omega) (by omega)
 omega
theorem Cm:nu.Pairwise fun a b=>cH a b=false:=by simp only[zc];decide
theorem Tg:oY.Pairwise fun a b=>cH a b=false∧strLt b a=false:=by simp only[zc,Na];decide
end Go.L
