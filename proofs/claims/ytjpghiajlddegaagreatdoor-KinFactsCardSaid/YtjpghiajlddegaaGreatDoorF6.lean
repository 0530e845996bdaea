/- Part 6 of the proof. -/
import Derived.Test.YtjpghiajlddegaaGreatDoorF5
import Derived.KernelRfl
import Derived.Lib.UnsafeStr
import Derived.Test.YtjpghiajlddegaaGreatDoorProg
set_option maxRecDepth 100000
set_option linter.all false
namespace Go.L
open Go Go.Conc
variable {xs al ys:List Int} {α β:Type} {vd vm vc vh s0 s1 s2 t0 t1 ru vb va:Value} {Φ:Value→(Nat→Option Obj)→Cells→Prop} {X fr:Cells} {d k i nc b sz nh bx:Nat} {aF pS:Nat→Option Obj} {n many lo hi af gone new:Int} {P:Program} {o:Option JS} {args:List Value} {f:FuncId} {E:TypeId} {nm:ByteArray} {ag:Bool}
def rnM(P:Program):Sem α→List Nat→Cells→List (Nat×Nat)→Option (α×Cells×List (Nat×Nat))
 | .pure a,_,B,q=>some (a,B,q)
 | .load m a k,h::hs,B,q=>match m,a.spot,B[h]? with
  | .plain,none,some (b,.cells c _ _)=>match c[a.off]? with
   |some v=>rnM P (k v) hs B ((a.block,b)::q)
   |none=>none
  |_,_,_=>none
 | .shape r k,h::hs,B,q=>match B[h]? with
  |some (b,o)=>rnM P (k (Obj.shapeOf o)) hs B ((r,b)::q)
  |none=>none
 | .program k,hs,B,q=>rnM P (k P) hs B q
 |_,_,_,_=>none
theorem arn:∀(m:Sem α) {hs:List Nat} {B B':Cells} {q q':List (Nat×Nat)} {v:α},rnM P m hs B q=some (v,B',q')→(∀p∈q',p.1=p.2)→
 (∀p∈q,p∈q')∧B'=B∧∀(s:St) (Q:α→St→Prop) (E:Halt→St→Prop),(∀x∈B,s.has x.1 x.2)→Q v s→bL P m s Q E:=by
 intro m
 induction m with
 |pure a=>intro hs B B' q q' v h _;simp only[rnM,Option.some.injEq,Prod.mk.injEq] at h;obtain⟨rfl,rfl,rfl⟩:=h;exact⟨fun _ h=>h,rfl,fun _ _ _ _ h=>h⟩
 |load m a k ih=>
  intro hs B B' q q' v h hq
  cases hs with
  |nil=>cases h
  |cons j hs=>
   unfold rnM at h
   split at h<;>try (cases h;done)
   rename_i b c t fz N5 hB
   split at h<;>try (cases h;done)
   rename_i u hu
   obtain⟨h1,h2,h3⟩:=ih _ h hq
   have Ft:a.block=b:=hq _ (h1 _ List.mem_cons_self)
   refine⟨fun p hp=>h1 p (List.mem_cons_of_mem _ hp),h2,fun s Q E hs hQ=>⟨rfl,N5,c,t,fz,u,?_,hu,h3 s Q E hs hQ⟩⟩
   rw[Ft];exact hs _ (List.mem_of_getElem? hB)
 |shape r k ih=>
  intro hs B B' q q' v h hq
  cases hs with
  |nil=>cases h
  |cons j hs=>
   simp only[rnM] at h
   split at h<;>try (cases h;done)
   rename_i b o hB
   obtain⟨h1,h2,h3⟩:=ih _ h hq
   have Ft:r=b:=hq _ (h1 _ List.mem_cons_self)
   refine⟨fun p hp=>h1 p (List.mem_cons_of_mem _ hp),h2,fun s Q E hs hQ=>⟨o,?_,h3 s Q E hs hQ⟩⟩
   rw[Ft];exact hs _ (List.mem_of_getElem? hB)
 |program k ih=>
  intro hs B B' q q' v h hq
  simp only[rnM] at h
  exact ih _ h hq
 |store=>intro hs B B' q q' v h hq;cases hs<;>cases h
 |new=>intro hs B B' q q' v h hq;cases hs<;>cases h
 |freeze=>intro hs B B' q q' v h hq;cases hs<;>cases h
 |frozen=>intro hs B B' q q' v h hq;cases hs<;>cases h
 |getObj=>intro hs B B' q q' v h hq;cases hs<;>cases h
 |setObj=>intro hs B B' q q' v h hq;cases hs<;>cases h
 |choose=>intro hs B B' q q' v h hq;cases hs<;>cases h
 |sys=>intro hs B B' q q' v h hq;cases hs<;>cases h
 |mark=>intro hs B B' q q' v h hq;cases hs<;>cases h
 |halt=>intro hs B B' q q' v h hq;cases hs<;>cases h
def acu:Op→Option (List Operand)
 | .call ⟨.builtin _,xs,_⟩=>some xs.toList
 |op=>Gg op
theorem O2{o:Oper}{xs:List Operand}(h:acu o.op=some xs){f g:Operand→Value}(hfg:∀x∈xs,f x=g x):execOp f o=execOp g o:=by
 unfold acu at h
 split at h
 ·rename_i b xs at_ heq
  simp only[Option.some.injEq] at h;subst h
  have:xs.map f=xs.map g:=Array.map_congr_left fun a ha=>hfg a (by simpa using ha)
  simp only[execOp,heq,resolve,this]
 exact tZ h hfg
def smV(P:Program)(n:Nat)(hs:List Nat)(B:Cells)(p:Oper)(e:Env):Option (Value×List (Nat×Nat)):=match acu p.op with
 |some xs=>match yc n e xs with
  |some _=>match rnM P (execOp (evj n e) p) hs B [] with
   |some (.value v,_,q)=>some (v,q)
   |_=>none
  |none=>none
 |none=>none
theorem BO{γ:Type}{n:Nat}{f:Oper→Env→Option β}{g:β→γ}:fG n (fun p e=>(f p e).map g) o=(fG n f o).map g:=by
 unfold fG
 split
 ·unfold dM
  dsimp only
  split<;>rfl
 rfl
def smA(P:Program)(n:Nat)(hs:List Nat)(B:Cells)(p:Oper)(e:Env):Option Value:=(smV P n hs B p e).map (·.1)
def smL(P:Program)(n:Nat)(hs:List Nat)(B:Cells)(p:Oper)(e:Env):Option (List Nat):=(smV P n hs B p e).map fun x=>UI x.2
def smR(P:Program)(n:Nat)(hs:List Nat)(B:Cells)(p:Oper)(e:Env):Option (List Nat):=(smV P n hs B p e).map fun x=>SG x.2
section
variable {X:Cx} {o:Option JS}
theorem jmo(ps hs:List Nat)(B:Cells)(v:Value)(hj:J X (nI ps v B o))(hv:fG X.n (smA X.P X.n hs B) o=some v:=by kernel_rfl)(hq:fG X.n (smL X.P X.n hs B) o=fG X.n (smR X.P X.n hs B) o:=by kernel_rfl)(hB:ek ps o=some B:=by kernel_rfl):J X o:=by
 rw[show smA X.P X.n hs B=fun p e=>(smV X.P X.n hs B p e).map (·.1) from rfl,BO] at hv
 rw[show smL X.P X.n hs B=fun p e=>(smV X.P X.n hs B p e).map (fun x=>UI x.2) from rfl,show smR X.P X.n hs B=fun p e=>(smV X.P X.n hs B p e).map (fun x=>SG x.2) from rfl,BO,BO] at hq
 cases hx:fG X.n (smV X.P X.n hs B) o with
 |none=>rw[hx] at hv;cases hv
 |some x=>
  rcases x with ⟨v',q⟩
  rw[hx] at hv hq
  simp only[Option.map_some,Option.some.injEq] at hv hq
  subst hv
  refine jS (Φ:=fun u L'=>u=v'∧L'=B) ps B hx hB (fun p e hf=>?_) (fun u L' qE=>by obtain⟨rfl,rfl⟩:=qE;exact hj)
  unfold smV at hf
  split at hf<;>try (cases hf;done)
  rename_i xs ay
  split at hf<;>try (cases hf;done)
  rename_i ws R2
  split at hf<;>try (cases hf;done)
  rename_i u B' q2 bQ
  simp only[Option.some.injEq,Prod.mk.injEq] at hf
  obtain⟨rfl,rfl⟩:=hf
  refine⟨fun c hc=>?_,fun R Q E hQ=>?_⟩
  ·rw[hc] at ay;cases ay
  rw[O2 ay (Nl (f:=ev X.n e) (fun x v h=>aE h) R2)]
  obtain⟨_,_,h3⟩:=arn _ bQ (mO hq)
  exact h3 _ _ _ (fun x hx=> .inr (List.mem_append_left _ hx)) (hQ _ _ ⟨rfl,rfl⟩)
theorem HC:∀(n t:Nat) (acc:Array Value),(Extern.BytealgMakeNoZero.digits n t acc).size=acc.size+n
 |0,_,_=>rfl
 |n+1,t,acc=>by
  simp only[Extern.BytealgMakeNoZero.digits,HC n,Array.size_push];omega
theorem jnz{ps rs:Array TypeId}{T:TypeId}{n:Nat}{z:List Value}(ef:EF X.P f (Extern.BytealgMakeNoZero.makeNoZero ps rs))(hT:rs[0]?=some T) (tf:TF X.P T (.slice E) sz bx z ag) (hn:n≤1000)
 (hj:∀b l,n≤l.length→J X (nI [] (.slice (some ⟨b,0,none⟩) n l.length) [(b,.cells ⟨l⟩ E (0,0))] o)) (hv:fG X.n (ahA X.n) o=some (f,[.int .i64 (n:Int)]):=by kernel_rfl) (hB:ek [] o=some []:=by kernel_rfl):J X o:=by
 obtain⟨ops,i,todo,k,e,w,kn,p,rfl,ho,hw,hc⟩:=dG hv
 obtain⟨xs,at_,ay,hx⟩:=Nk hc
 intro bR
 rcases p with ⟨dst,op,ty,pos,c8,g⟩
 dsimp only at ay;subst ay
 refine adt X.hC ho hw ef hx ?_
 have eM:Extern.BytealgMakeNoZero.makeNoZero ps rs ⟨[Value.int .i64 (n:Int)]⟩=(do
  let some t:=rs[0]?|stuck "bytealg.MakeNoZero: no result type"
  let .slice elem ←underlying t|stuck "bytealg.MakeNoZero: slice type expected"
  if (n:Int) <0||(n:Int)>2^48 then runtimePanic (.error "makeslice: len out of range")
  let cap ←choose (.appendCap (n:Int).toNat 0 elem)
  askRoom cap
  let bytes ←choose (.extern "internal/bytealg.MakeNoZero.bytes" 0)
  let a ←newRow elem (Extern.BytealgMakeNoZero.digits cap bytes #[])
  pure (.slice (some a) (n:Int).toNat cap)):=rfl
 rw[eM]
 simp only[hT,aX tf]
 rw[if_neg (by simp only[Bool.or_eq_true,decide_eq_true_eq];omega)]
 refine ab6 rfl fun q=>?_
 refine sW ?_
 show (if (Question.extern "internal/bytealg.MakeNoZero.bytes" 0).forced=true then _ else _)
 have key:∀cap bytes,n≤cap→bL X.P (newRow E (Extern.BytealgMakeNoZero.digits cap bytes #[]) >>= fun a=>pure (Value.slice (some a) ((n:Int).toNat) cap)) ⟨X.ro,den w⟩ (fun v s'=>ab X.C X.fn X.aA ops todo (KQ X k) (A X.n (upd dst v e) X.D) s') (fun _ _=>False):=by
  intro cap bytes oS
  rw[jO]
  intro b hb
  have hl:(Extern.BytealgMakeNoZero.digits cap bytes #[]).toList.length=cap:=by
   rw[Array.length_toList,HC];simp
  have:=hj b (Extern.BytealgMakeNoZero.digits cap bytes #[]).toList (by omega)
  rw[oE ho] at this
  have:=this bR
  simp only[JP,gZ,hl,xI] at this
  exact this
 split
 ·exact key _ _ (by show n≤(n:Int).toNat+_;rw[Int.toNat_natCast];exact Nat.le_add_right _ _)
 exact fun q2=>key _ _ (by show n≤(n:Int).toNat+_;rw[Int.toNat_natCast];exact Nat.le_add_right _ _)
def sdV(n:Nat)(p:Oper)(e:Env):Option (Addr×Nat×Nat):=match p.op with
 | .call ⟨.builtin .unsafeSliceData,xs,_⟩=>match yc n e xs.toList with
  |some [.slice (some a) l c]=>some (a,l,c)
  |_=>none
 |_=>none
theorem jsd{a:Addr}{l c:Nat}(h:c≠0)(hj:J X (nI [] (.pointer (some a)) [] o))(hv:fG X.n (sdV X.n) o=some (a,l,c):=by kernel_rfl)(hB:ek [] o=some []:=by kernel_rfl):J X o:=by
 refine jS (Φ:=fun u L'=>u= .pointer (some a)∧L'=[]) [] [] hv hB (fun p e hf=>?_) (fun u L' qE=>by obtain⟨rfl,rfl⟩:=qE;exact hj)
 unfold sdV at hf
 split at hf<;>try (cases hf;done)
 rename_i xs at_ ay
 split at hf<;>try (cases hf;done)
 rename_i a' l' c' hx
 simp only[Option.some.injEq,Prod.mk.injEq] at hf
 obtain⟨rfl,rfl,rfl⟩:=hf
 refine⟨by rw[ay];simp,fun R Q E hQ=>?_⟩
 have e1:Builtin.unsafeSliceData_ at_ p.type ⟨[.slice (some a') l' c']⟩=pure (.pointer (some a')):=by
  show (if c'≠0 then _ else _)=_
  rw[if_pos h]
 simp only[execOp,ay,resolve,sG (show vM X.n e xs=_ from hx),ae,invoke,builtin,e1]
 exact hQ _ _ ⟨rfl,rfl⟩
def usV(P:Program)(n:Nat)(p:Oper)(e:Env):Option (Nat×TypeId):=match p.op with
 | .call ⟨.builtin .unsafeString,xs,at_⟩=>match at_[0]? with
  |some pt=>match aW P pt with
   |some ⟨.pointer E,_,_,_⟩=>bif Nat.beq (P.cellsOf E) 1 then (match yc n e xs.toList with
    |some [.pointer (some ⟨b,0,none⟩),.int .i64 1]=>some (b,E)
    |_=>none) else none
   |_=>none
  |none=>none
 |_=>none
theorem jus(ps:List Nat)(x:Int)(l:List Value)(hj:∀L',J X (nI ps (.string ⟨#[x.toNat.toUInt8]⟩) L' o))(hv:fG X.n (usV X.P X.n) o=some (b,E):=by kernel_rfl)(hB:ek ps o=some [(b,.cells ⟨.int .u8 x::l⟩ E (0,0))]:=by kernel_rfl):J X o:=by
 refine jS (Φ:=fun u L'=>u= .string ⟨#[x.toNat.toUInt8]⟩) ps _ hv hB (fun p e hf=>?_) (fun u L' qE=>by subst qE;exact hj L')
 unfold usV at hf
 split at hf<;>try (cases hf;done)
 rename_i xs at_ ay
 split at hf<;>try (cases hf;done)
 rename_i pt hpt
 split at hf<;>try (cases hf;done)
 rename_i E' _ _ _ dZ
 cases hc:Nat.beq (X.P.cellsOf E') 1 with
 |false=>rw[hc] at hf;cases hf
 |true=>
  rw[hc] at hf
  simp only[cond_true] at hf
  split at hf<;>try (cases hf;done)
  rename_i b' hx
  simp only[Option.some.injEq,Prod.mk.injEq] at hf
  obtain⟨rfl,rfl⟩:=hf
  have hc:=Nat.eq_of_beq_eq_true hc
  obtain⟨bx,tf⟩:=ar dZ
  refine⟨by rw[ay];simp,fun R Q Er hQ=>?_⟩
  have e1:Builtin.unsafeString_ at_ p.type ⟨[.pointer (some ⟨b',0,none⟩),.int .i64 1]⟩=(do
   let n ←asInt (.int .i64 1)
   let some pt:=at_[0]?|stuck "unsafe.String: no argument types"
   if n <0 then runtimePanic (.error "unsafe.String: len out of range")
   if n>IntKind.i64.max then unsupported (.unsafePointer "String: a length above the largest int")
   if n=0 then pure (.string .empty)
   else if ←variablesAt ⟨b',0,none⟩ (←elemOf pt) n.toNat then do
    let s ←loadBytes ⟨b',0,none⟩ .empty n.toNat
    freeze ⟨b',0,none⟩ n.toNat
    pure (.string s)
   else unsupported (.unsafePointer "String: not so many bytes at ptr")):=rfl
  simp only[execOp,ay,resolve,sG (show vM X.n e xs=_ from hx),ae,invoke,builtin,e1]
  simp only[asInt,asIntOf,aa,ae,hpt,show ¬((1:Int) <0) by omega,show ¬((1:Int)>IntKind.i64.max) by decide,show ¬((1:Int)=0) by omega,if_false,elemOf,aX tf,variablesAt,e9]
  have hs:(⟨X.ro,[(b',Obj.cells ⟨Value.int .u8 x::l⟩ E' (0,0))]++R⟩:St).rw=[]++(b',Obj.cells ⟨Value.int .u8 x::l⟩ E' (0,0))::R:=rfl
  have hm:(⟨X.ro,[(b',Obj.cells ⟨Value.int .u8 x::l⟩ E' (0,0))]++R⟩:St).has b' (.cells ⟨Value.int .u8 x::l⟩ E' (0,0)):= .inr (by rw[hs];exact fP)
  refine⟨_,hm,?_⟩
  have aCM:=Go.Lib.liesAt_bytes (P:=X.P) hc ((Value.int .u8 x::l).length / X.P.cellsOf E') 1 (by rw[hc];simp)
  have pb:∀ {α β:Type} (a:α) (f:α→Sem β),(Sem.pure a).bind f=f a:=fun _ _=>rfl
  simp only[Obj.shapeOf,List.size_toArray,aa,ae,pb]
  rw[show (1:Int).toNat=1 from rfl,aCM]
  simp only[ae,aa,if_true,loadBytes]
  refine⟨rfl,rfl,_,_,_,.int .u8 x,hm,rfl,?_⟩
  simp only[aa,ae]
  refine(if_neg (by omega:¬(1:Nat)=0)).mpr ?_
  refine⟨[],_,R,hs,?_⟩
  exact hQ (.string ⟨#[x.toNat.toUInt8]⟩) [(b',_)] rfl
def pnV(P:Program)(n:Nat)(p:Oper)(e:Env):Option (Nat×Nat):=match p.op with
 | .binOp .neq T x y _=>match aW P T with
  |some ⟨.pointer E,_,_,_⟩=>match aW P E with
   |some te=>bif Nat.blt 0 te.size then (match bh n e x with
    |some (.pointer (some ⟨b,0,none⟩))=>match bh n e y with
     |some (.pointer (some ⟨c,0,none⟩))=>some (b,c)
     |_=>none
    |_=>none) else none
   |none=>none
  |_=>none
 |_=>none
theorem amX{dep:Nat}{t:TypeId}{sz2 Bt:Nat}{z z2:List Value}{ag2:Bool}(tf:TF P t (.pointer E) sz bx z ag){d:TypeDesc}(q6:TF P E d sz2 Bt z2 ag2)(hs:sz2≠0)(a:Addr):EqD P (dep+1) t (.pointer (some a)) (.pointer (some a)) true:=by
 intro α s kk Q Er
 simp only[Op.equalIn,aa,aX tf,cg q6,hs,ne_eq,not_false_eq_true,if_true,sameAddr,beq_self_eq_true,ae]
theorem jpn(hj:J X (nI [] (.bool false) [] o))(hv:fG X.n (pnV X.P X.n) o=some (b,b):=by kernel_rfl)(hB:ek [] o=some []:=by kernel_rfl):J X o:=by
 refine jS (Φ:=fun u L'=>u= .bool false∧L'=[]) [] [] hv hB (fun p e hf=>?_) (fun u L' qE=>by obtain⟨rfl,rfl⟩:=qE;exact hj)
 unfold pnV at hf
 split at hf<;>try (cases hf;done)
 rename_i T x y T2 ay
 split at hf<;>try (cases hf;done)
 rename_i E' _ _ _ dZ
 split at hf<;>try (cases hf;done)
 rename_i te uw
 cases hc:Nat.blt 0 te.size with
 |false=>rw[hc] at hf;cases hf
 |true=>
  rw[hc] at hf
  simp only[cond_true] at hf
  split at hf<;>try (cases hf;done)
  rename_i b' hx
  split at hf<;>try (cases hf;done)
  rename_i c' hy
  simp only[Option.some.injEq,Prod.mk.injEq] at hf
  obtain⟨rfl,rfl⟩:=hf
  obtain⟨bx,tf⟩:=ar dZ
  obtain⟨Bt,q6⟩:=ar uw
  have hc:0 <te.size:=by rwa[Nat.blt_eq] at hc
  refine⟨by rw[ay];simp,fun R Q Er hQ=>?_⟩
  have hs:te.size≠0:=by omega
  simp only[execOp,ay,aE hx,aE hy,eqGuard,aa,binOp,Op.equal,Op.maxDepth]
  simp only[Bool.not_true,Bool.false_eq_true,if_false,ae,aa]
  rw[amX (dep:=9999) tf q6 hs]
  exact hQ _ _ ⟨rfl,rfl⟩
end
attribute [irreducible] smV smA smL smR sdV usV pnV
section
variable {X:Cx} {o:Option JS}
def s0V(P:Program)(n:Nat)(p:Oper)(e:Env):Option (Addr×Nat×Nat):=match p.op with
 | .slice T x none (some y) none=>match aW P T with
  |some ⟨.slice E,_,_,_⟩=>match aW P E with
   |some _=>match bh n e x with
    |some (.slice (some ⟨b,0,none⟩) l c)=>match bh n e y with
     |some (.int .i64 0)=>some (⟨b,0,none⟩,l,c)
     |_=>none
    |_=>none
   |none=>none
  |_=>none
 |_=>none
theorem js0{a:Addr}{l c:Nat}(hj:J X (kM (.slice (some a) 0 c) o))(hv:dM X.n (s0V X.P X.n) o=some (a,l,c):=by kernel_rfl):J X o:=by
 refine jG hv (fun s p e ho hh hf=>?_) hj
 unfold s0V at hf
 split at hf<;>try (cases hf;done)
 rename_i T x y ay
 split at hf<;>try (cases hf;done)
 rename_i E _ _ _ dZ
 split at hf<;>try (cases hf;done)
 rename_i te uw
 split at hf<;>try (cases hf;done)
 rename_i b l' c' hx
 split at hf<;>try (cases hf;done)
 rename_i hy
 simp only[Option.some.injEq,Prod.mk.injEq] at hf
 obtain⟨rfl,rfl,rfl⟩:=hf
 obtain⟨bx,tf⟩:=ar dZ
 obtain⟨Bt,q6⟩:=ar uw
 have key:∀s,Yields X.P X.n e p s (.slice (some ⟨b,0,none⟩) 0 c'):=by
  intro s s' nG f hf K E hK
  have hb:(0:Int)≤0∧(0:Int)≤(c':Int):=by omega
  simp only[execOp,ay,Option.map_some,Option.map_none,Instr.sliceAt,Instr.slice,hf _ _ hx,hf _ _ hy,aa,aX tf,Instr.sliceBounds,Instr.sliceBound,asIntOf,ae,hb,and_self,if_true,cg q6]
  have he:(if c'=0 then (some ⟨b,0,none⟩:Option Addr) else some ((⟨b,0,none⟩:Addr).add (0*te.size)))=some ⟨b,0,none⟩:=by
   split
   ·rfl
   simp[dX]
  rw[show (0:Int).toNat=0 from rfl,he]
  exact hK
 exact⟨by rw[ay];rfl,fun _=>key _,fun _=>key⟩
end
attribute [irreducible] s0V
section
variable {X:Cx} {o:Option JS}
def cpV(P:Program)(n:Nat)(p:Oper)(e:Env):Option Nat:=match p.op with
 | .call ⟨.builtin .cap,⟨[x]⟩,⟨[T]⟩⟩=>match aW P T with
  |some ⟨.slice _,_,_,_⟩=>match bh n e x with
   |some (.slice _ _ c)=>some c
   |_=>none
  |_=>none
 |_=>none
theorem jcp{c:Nat}(hj:J X (kM (.int .i64 (c:Int)) o))(hv:dM X.n (cpV X.P X.n) o=some c:=by kernel_rfl):J X o:=by
 refine jG hv (fun s p e ho hh hf=>?_) hj
 unfold cpV at hf
 split at hf<;>try (cases hf;done)
 rename_i x T ay
 split at hf<;>try (cases hf;done)
 rename_i dZ
 split at hf<;>try (cases hf;done)
 rename_i a l c' hx
 simp only[Option.some.injEq] at hf
 subst hf
 obtain⟨bx,tf⟩:=ar dZ
 have key:∀s,Yields X.P X.n e p s (.int .i64 (c':Int)):=by
  intro s s' nG f hf K E hK
  simp only[execOp,ay,resolve,invoke,builtin,List.map_toArray,List.map_cons,List.map_nil,hf _ _ hx,ae,aa,Builtin.cap_,List.getElem?_toArray,List.getElem?_cons_zero,aX tf]
  exact hK
 exact⟨by rw[ay];rfl,fun _=>key _,fun _=>key⟩
end
attribute [irreducible] cpV
def tkO(is:List Nat)(o:Option JS):List Sg:=(rz is o).getD []
theorem aPt{X:Cx}{ι:Type}(is:List Nat)(p:List Nat)(Ks:List (Act→St→Prop))(ef:ι→Env)(wf:ι→List Sg)(Inv:ι→Prop)(μ:ι→Nat)(i0:ι)(h0:Inv i0)(ps:List Nat)(hb:∀i,Inv i→∀K,xk X K ef (fun i=>wf i++tkO is o) Inv μ (μ i)→∀rest,J X (stW X.P X.fn p (Ks++[K]) (ef i++rest) (wf i++tkO is o)))
 (h1:uX (pO (ef i0)) o=some (ef i0):=by kernel_rfl)(hd:∀i,lkE (pO (ef i)) (ef i)=some (ef i):=by intro _;kernel_rfl)(h2:rz ps o=some (wf i0++tkO is o):=by kernel_rfl)(hp:∀K,Jq X.P X.fn p (Ks++[K])=lpB K (yx o):=by intro _;kernel_rfl):J X o:=
 eO p Ks ef (fun i=>wf i++tkO is o) Inv μ i0 h0 ps hb h1 hd h2 hp
attribute [irreducible] tkO
abbrev RCG(ro:Nat→Option Obj)(Φ:Value→(Nat→Option Obj)→Cells→Prop)(fr:Cells):Ending→St→Prop:=fun en s'=>∃v aF Y,en= .returned v∧Sub ro aF∧(⟨aF,Y++fr⟩:St).le s'∧Φ v aF Y
def awF(P:Program)(f:FuncId)(args:List Value)(ro:Nat→Option Obj)(own:Cells)(Φ:Value→(Nat→Option Obj)→Cells→Prop):Prop:=
 ∀fr,Fn (C0 P) P f ⟨args⟩ ⟨ro,own++fr⟩ (RCG ro Φ fr)
theorem aBr(hm:P.follows .mixedOrders=true){ro:Nat→Option Obj}{L:Cells}(own:List Sg)(kn:Cells)(hk:Knows ro kn)(h:∀fr,J (XC P hm f ro (RCG ro Φ fr)) (lI P f args (own++[.l fr]) kn))(hL:den own=L:=by rfl):awF P f args ro L Φ:=by
 subst hL
 intro fr
 have h:=h fr
 unfold lI at h
 split at h<;>try exact h.elim
 rename_i fn hf
 split at h<;>try exact h.elim
 rename_i c hc
 cases hl:Nat.ble args.length fn.ntmps with
 |false=>rw[hl] at h;exact h.elim
 |true=>
  rw[hl] at h
  have u1:tC P f=fn:=by simp only[tC,hf]
  have:=h hk
  simp only[JP,XC,KQ,u1] at this
  have hd:den (own++[.l fr])=den own++fr:=by rw[mh];rfl
  rw[hd] at this
  exact KH xM hf hc hl this
section
variable {X:Cx} {o:Option JS}
theorem alI{vs:List Value}{own:Cells}(ps:List Nat)(hC:∀main T,X.C main T→C0 X.P main T)(hf:awF X.P f vs X.ro own Φ)(hj:∀v aF Y,Sub X.ro aF→Φ v aF Y→J (X.at aF) (nI ps v Y o))(h1:fG X.n (yA X.P X.n) o=some (f,vs):=by kernel_rfl)(h2:ek ps o=some own:=by kernel_rfl):J X o:=by
 obtain⟨ops,i,todo,k,e,w,kn,p,rfl,ho,hw,hc⟩:=dG h1
 obtain⟨ff,x,xs,at_,fi,ca,ws,ay,hx,sw,rfl⟩:=qT hc
 intro bR
 rcases p with ⟨dst,op,ty,pos,c8,g⟩
 dsimp only at ay;subst ay
 have hp:=bD h2
 have u1:Fn X.C X.P f ⟨fi++ws++ca⟩ ⟨X.ro,den w⟩ (RCG X.ro Φ (den (dK ps 0 w))):=fun main T hT c cs k1 k2=>
  (X.hC main T hT).mono _ ⟨X.ro,own++den (dK ps 0 w)⟩ _ (dY (J:=[]) (by rw[List.append_nil];exact hp) (Sub.refl _)) (Fn.weaken hC (hf _) main T hT c cs k1 k2)
 refine uk (fi:=⟨fi⟩) (ca:=⟨ca⟩) (ws:=fi++ws++ca) X.hC ho hw hx ff sw (Ru fi ws ca) u1 (fun v' s' hr=>?_) (fun ch s' hr=>by obtain⟨_,_,_,e,_⟩:=hr;cases e) (fun s' hr=>by obtain⟨_,_,_,e,_⟩:=hr;cases e)
 obtain⟨v,aF,Y,hv,hs,hle,qE⟩:=hr
 cases hv
 have:=hj _ aF Y hs qE
 rw[oE ho] at this
 have:=this (bR.up hs)
 simp only[JP,gZ,H7] at this
 exact this.more X.hC hle
theorem as6{Φ:Value→Cells→Prop}(hq:QR X (RC pS fr Φ))(v:Value)(hs ps:List Nat)(Y:Cells)(fT:Sub pS X.ro)(hR:Φ v Y)(h1:tA (ky X.P X.n X.fn hs o)=some v:=by kernel_rfl)(h2:R8 (ky X.P X.n X.fn hs o)=R7 (ky X.P X.n X.fn hs o):=by kernel_rfl)(h3:ek ps o=some (Y++fr):=by kernel_rfl)(h4:CW o=true:=by kernel_rfl):J X o:=
 aH hq v hs ps (Y++fr) fT ⟨v,Y,rfl,St.le_refl _,hR⟩ h1 h2 h3 h4
theorem aBs{Φ:Value→Cells→Prop}(hq:QR X (RC pS fr Φ))(v:Value)(ps:List Nat)(A B:Cells)(fT:Sub pS X.ro)(hR:Φ v (A++B))(h1:tA (ky X.P X.n X.fn [] o)=some v:=by kernel_rfl)(h2:R8 (ky X.P X.n X.fn [] o)=R7 (ky X.P X.n X.fn [] o):=by kernel_rfl)(h3:ek ps o=some (A++(B++fr)):=by kernel_rfl)(h4:CW o=true:=by kernel_rfl):J X o:=
 aH hq v [] ps ((A++B)++fr) fT ⟨v,A++B,rfl,St.le_refl _,hR⟩ h1 h2 (by rw[h3,List.append_assoc]) h4
theorem aPm(hq:QR X (RCG pS Φ fr))(v:Value)(ps:List Nat)(Y:Cells)(fT:Sub pS X.ro)(hR:Φ v X.ro Y)(h1:tA (ky X.P X.n X.fn [] o)=some v:=by kernel_rfl)(h2:R8 (ky X.P X.n X.fn [] o)=R7 (ky X.P X.n X.fn [] o):=by kernel_rfl)(h3:ek ps o=some (Y++fr):=by kernel_rfl)(h4:CW o=true:=by kernel_rfl):J X o:=
 aH hq v [] ps (Y++fr) (Sub.refl _) ⟨v,X.ro,Y,rfl,fT,St.le_refl _,hR⟩ h1 h2 h3 h4
end
theorem SP{fn:Func}{c:Code}{R:Ending→St→Prop}{s:St}{os:Os}{out:Array (Nat×ByteArray)}{Post:Value→World→Prop}(hf:P.funcs[f]?=some fn) (hb:fn.body=some c) (hl:Nat.ble args.length fn.ntmps=true) (hi:P.inits.idxOf? f=none)
 (QF:∀v s0 w,R (.returned v) s0→aQ s0 w→w.os=os→w.output=out→Post v w) (Kt:∀ch s,¬R (.panicked ch) s)
 (h:Wp (C0 P) f none c (rO P fn R) (A fn.ntmps (gv 0 args) []) s):T0 P os out Post (G (Frame.enter P f ⟨args⟩ .normal) []) s:=by
 have hT:C0 P true (T0 P os out Post):=⟨rfl,os,out,Post,rfl⟩
 have iZ:=sX P os out Post
 let b:Frame:={(default:Frame) with fn:=f,kind:= .normal,roundOf:=none}
 have iJ:Frame.enter P f ⟨args⟩ .normal=aK b (A fn.ntmps (gv 0 args) []) [.code c]:=by
  rw[←lh args fn.ntmps (Nat.le_of_ble_eq_true hl)]
  simp[Frame.enter,aK,hf,hb,b]
 rw[iJ]
 refine h true _ hT b [] [] rfl (by simp[b]) rfl fun e a' s' q=>?_
 have last:∀(todo:List Item),a'.defers=[]→bL P (results fn a'.tmps) s' (fun v s'=>∃s0,s0.le s'∧R (.returned v) s0) (fun _ _=>False)→T0 P os out Post (G {aK b a' todo with mode:= .returning} []) s':=by
  intro todo hd hr
  refine YJ rfl fun w pY tN EC=>?_
  obtain⟨r,es,bQ,hl⟩:=iy _ _ _ _ w #[] hr pY
  rw[Array.empty_append] at bQ
  cases r with
  |ok v w'=>
   obtain⟨s2,ht,s0,hle,hu⟩:=hl
   refine⟨v,w',seen P f es,s2,?_,QF v s0 w' hu (aQ.of_le hle ht.ki) (ht.os.trans tN) (ht.output.trans EC),ht.sub (iS _ _ _)⟩
   simp only[aK,b,G,stepG,unwind,hf,hd,bQ,doReturn,hi,GStep.after,Array.append_empty,Bool.not_true,Bool.false_eq_true,if_false]
  |halt _ _=>obtain⟨_,_,hu⟩:=hl;exact hu.elim
 cases e with
 |normal=>exact iZ.go rfl rfl (g':=G {aK b a' [] with mode:= .returning} []) (fun w=>by simp[G,stepG,stepG.exec,aK,b]) (last _ q.1 q.2)
 |ret=>exact fun todo=>iZ.go rfl rfl (g':=G {aK b a' (.code .ret::todo) with mode:= .returning} []) (fun w=>by simp[G,stepG,stepG.exec,aK,b]) (last _ q.1 q.2)
 |panic ch=>exact(Kt _ _ q.2).elim
 |exit id=>exact q.elim
 |goto l=>exact q.elim
 |outgrown=>exact q.elim
def aqd(P:Program)(f:FuncId)(args:List Value)(ro:Nat→Option Obj)(Φ:Value→Cells→Prop):Prop:=
 ∀os out (Post:Value→World→Prop),(∀v Y w,Φ v Y→aQ ⟨ro,Y⟩ w→w.os=os→w.output=out→Post v w)→T0 P os out Post (G (Frame.enter P f ⟨args⟩ .normal) []) ⟨ro,[]⟩
theorem aBo(hm:P.follows .mixedOrders=true){ro:Nat→Option Obj}{Φ:Value→Cells→Prop}(hi:P.inits.idxOf? f=none)(kn:Cells)(hk:Knows ro kn)(h:∀fr,J (XC P hm f ro (RC ro fr Φ)) (lI P f args [.l fr] kn)):aqd P f args ro Φ:=by
 intro os out Post QF
 have h:=h []
 unfold lI at h
 split at h<;>try exact h.elim
 rename_i fn hf
 split at h<;>try exact h.elim
 rename_i c hc
 cases hl:Nat.ble args.length fn.ntmps with
 |false=>rw[hl] at h;exact h.elim
 |true=>
  rw[hl] at h
  have u1:tC P f=fn:=by simp only[tC,hf]
  have:=h hk
  simp only[JP,XC,KQ,u1] at this
  refine SP hf hc hl hi (fun v s0 w hr pY tN EC=>?_) (fun ch s hr=>?_) this
  ·obtain⟨v',Y,e,hle,qE⟩:=hr
   cases e
   refine QF _ Y w qE ?_ tN EC
   have:=aQ.of_le hle pY
   rwa[List.append_nil] at this
  obtain⟨v',Y,e,_⟩:=hr;cases e
open Go.Proofs
theorem au:Tryz.prog.follows .mixedOrders=true:=by kernel_rfl
theorem zB:(∀a b:Bool,((a&&b)=true)=(a=true∧b=true))∧(∀a b:Bool,((a||b)=true)=(a=true∨b=true))∧(∀a b:Bool,((a&&b)=false)=(a=false∨b=false))∧(∀a b:Bool,((a||b)=false)=(a=false∧b=false))∧(∀b:Bool,((!b)=true)=(b=false))∧(∀b:Bool,((!b)=false)=(b=true))∧(∀(p:Prop) [Decidable p],(decide p=true)=p)∧(∀(p:Prop) [Decidable p],(decide p=false)=¬p)∧((¬True)=False)∧(∀p:Prop,(p∨False)=p)∧(∀p:Prop,(False∨p)=p):=
 ⟨Bool.and_eq_true,Bool.or_eq_true,by simp,by simp,by simp,by simp,by simp,by simp,by simp,by simp,by simp⟩
@[reducible] noncomputable def zT:Program:=Tryz.prog
abbrev zS:Value:= .slice none 0 0
abbrev zP(b:Nat):Value:= .pointer (some ⟨b,0,none⟩)
abbrev zI(n:Int):Value:= .int .i64 n
abbrev zU(n:Int):Value:= .int .u64 n
abbrev zO:List Value:=[zS,zS,zS,zS,zS,zS,zS,zS,zI 0,zI 0,zI 0,zS]
theorem zG(l:List α)(k:Nat)(h:k <l.length:=by omega):∃x,l[k]?=some x:=⟨_,List.getElem?_eq_getElem h⟩
theorem zJ{X:Cx}(t:Nat)(p:Prop)[Decidable p](h1:p→J X (O1 t (.bool true) o))(h2:¬p→J X (O1 t (.bool false) o))(hv:JC t o=some (.bool (decide p)):=by kernel_rfl):J X o:=
 js t (decide p) (fun h=>h1 (of_decide_eq_true h)) (fun h=>h2 (of_decide_eq_false h)) hv
theorem zD{X:Cx}(k:Nat)(h:J X (res (adv X.P X.n k [] o)))(he:lhs (adv X.P X.n k [] o)=rhs (adv X.P X.n k [] o):=by kernel_rfl):J X o:=jd k [] h he
def jK(n lo hi:Int):Bool:=decide (lo≤n)&&decide (n≤hi)
theorem gL{ro:Nat→Option Obj}:dO zT 89 [zI n,zI lo,zI hi] ro (.bool (jK n lo hi)):=by
 refine bC au [] [] bu<|zD 10<|jj 4 [(6,.bool false),(14,.bool ((decide (lo≤n))&&(decide (n≤hi))))] (fun gQ=>?_) (fun hj=>?_)
 rotate_left
 refine js 10 (decide (lo≤n)) (fun h1=>?_) (fun h1=>?_)
 ·
  have gN:=h1
  replace gN:=of_decide_eq_true gN
  refine zD 4<|jw 14 (.bool ((decide (lo≤n))&&(decide (n≤hi)))) (w:= .bool (decide (n≤hi))) (by rw[h1]<;>rfl) ?_
  exact hj _ (by kernel_rfl) (by kernel_rfl)
 ·
  have gN:=h1
  replace gN:=of_decide_eq_false gN
  refine zD 4<|jw 14 (.bool ((decide (lo≤n))&&(decide (n≤hi)))) (w:= .bool false) (by rw[h1]<;>rfl) ?_
  exact hj _ (by kernel_rfl) (by kernel_rfl)
 refine zD 3<|aH q0 (.bool ((decide (lo≤n))&&(decide (n≤hi)))) [] [] [] (Sub.refl _) ⟨_,_,rfl,rfl,rfl,rfl⟩
theorem jL{ro:Nat→Option Obj}:dO zT 192 [zI n,zI lo,zI hi] ro (.bool (jK n lo hi)):=by
 refine bC au [] [] bu<|zD 10<|jj 4 [(6,.bool false),(14,.bool ((decide (lo≤n))&&(decide (n≤hi))))] (fun gQ=>?_) (fun hj=>?_)
 rotate_left
 refine js 10 (decide (lo≤n)) (fun h1=>?_) (fun h1=>?_)
 ·
  have gN:=h1
  replace gN:=of_decide_eq_true gN
  refine zD 4<|jw 14 (.bool ((decide (lo≤n))&&(decide (n≤hi)))) (w:= .bool (decide (n≤hi))) (by rw[h1]<;>rfl) ?_
  exact hj _ (by kernel_rfl) (by kernel_rfl)
 ·
  have gN:=h1
  replace gN:=of_decide_eq_false gN
  refine zD 4<|jw 14 (.bool ((decide (lo≤n))&&(decide (n≤hi)))) (w:= .bool false) (by rw[h1]<;>rfl) ?_
  exact hj _ (by kernel_rfl) (by kernel_rfl)
 refine zD 3<|aH q0 (.bool ((decide (lo≤n))&&(decide (n≤hi)))) [] [] [] (Sub.refl _) ⟨_,_,rfl,rfl,rfl,rfl⟩
def cX(p:α→Bool):List α→Nat→Int
 | [],_=> -1
 |x::l,k=>bif p x then k else cX p l (k+1)
theorem gE{l:List α}{x:α}(h:l[k]?=some x):l.drop k=x::l.drop (k+1):=by
 obtain⟨h1,h2⟩:=List.getElem?_eq_some_iff.1 h
 rw[List.drop_eq_getElem_cons h1,h2]
theorem eY{l:List α}(h:¬k <l.length):l.drop k=[]:=List.drop_eq_nil_of_le (by omega)
theorem j9{p:α→Bool}{l:List α}{x:α}(h:l[k]?=some x):cX p (l.drop k) k=bif p x then (k:Int) else cX p (l.drop (k+1)) (k+1):=by rw[gE h];rfl
theorem qP{p:α→Bool}{l:List α}(h:¬k <l.length):cX p (l.drop k) k= -1:=by rw[eY h];rfl
abbrev cT(x:Int):List Value:=[zI x]
theorem as0{v:Value}{ro:Nat→Option Obj}(hl:bE ro v 1 cT xs)(hn:xs.length≤1000000):dO zT 41 [v,zI n] ro (zI (cX (fun y=>decide (y=n)) xs 0)):=by
 obtain⟨fS,sj,si,fe,rfl,tY,mw,nj⟩:=hl
 refine bC au [] [] bu<|zD 10<|eO [1,0,1,0,0] [] (fun(zz:Nat)=>[(0,.slice fS xs.length fe),(1,zI n),(5,zI (zz:Int))]) (fun(zz:Nat)=>[]) (fun(zz:Nat)=>zz≤xs.length∧cX (fun y=>decide (y=n)) xs 0=cX (fun y=>decide (y=n)) (xs.drop zz) zz) (fun(zz:Nat)=>xs.length-zz) 0 ⟨by omega,rfl⟩ [] ?_
 rintro k hI K1 bG rest
 refine zD 8<|zJ 9 ((k:Int) <(xs.length:Int)) (fun h1=>?_) fun h1=>?_
 ·
  refine zD 8 ?_
  obtain⟨gi,eW⟩:=zG xs k
  refine jb fe 1 mw eW<|jl 0 (nj _ _ eW)<|zD 3<|zJ 17 (gi=n) (fun h2=>?_) fun h2=>?_
  ·
   refine zD 7<|aH q0 (zI (k:Int)) [] [] [] (Sub.refl _) ⟨_,_,rfl,rfl,by rw[hI.2,j9 eW];simp[*],rfl⟩
  refine zD 4<|ja ((k:Int)+1) (by omega)<|zD 2<|bF bG (k+1) ⟨by omega,by rw[hI.2,j9 eW];simp[*]⟩ (by omega) [] (Sub.refl _)
 refine zD 7<|aH q0 (zI (-1)) [] [] [] (Sub.refl _) ⟨_,_,rfl,rfl,by rw[hI.2,qP (by omega)],rfl⟩
def dH(n:Nat):List Int:=(List.range n).map fun(i:Nat)=>(i:Int)
theorem wj(n:Nat):dH (n+1)=dH n++[(n:Int)]:=by simp[dH,List.range_succ]
theorem mv(n:Nat):(dH n).length=n:=by simp[dH]
def bH(v:Value)(xs:List Int)(d:Nat)(X:Cells):Prop:=∃(k:Nat) (cI:Int),k≤xs.length∧X=[(d,.cells ⟨[v,zI k,zU cI]⟩ 93 (0,0))]
def Dn(ro:Nat→Option Obj)(v:Value)(xs:List Int):Prop:=bE ro v 1 cT xs∧xs.length≤4611686018427387904
theorem Dn.up{ro:Nat→Option Obj}{v:Value}(h:Dn ro v xs)(hs:Sub ro aF):Dn aF v xs:=⟨h.1.up hs,h.2⟩
theorem toNonzero(h0:¬n <1)(h1:n≤1000000):IntKind.u64.wrap (n+1)≠0:=by
 rw[sP .u64 rfl _ (by omega) (by simp[IntKind.bits];omega)];omega
theorem toRange{w:Int}(h0:¬n <1)(h1:n≤1000000)(hw:0≤w):0≤IntKind.i64.wrap (Int.tmod (aR .u64 w 16) (IntKind.u64.wrap (n+1)))∧IntKind.i64.wrap (Int.tmod (aR .u64 w 16) (IntKind.u64.wrap (n+1)))≤n:=by
 have e:IntKind.u64.wrap (n+1)=n+1:=sP .u64 rfl _ (by omega) (by simp[IntKind.bits];omega)
 rw[e]
 have h2:0≤aR .u64 w 16:=Int.fdiv_nonneg hw (by decide)
 have h3:=Int.tmod_nonneg (n+1) h2
 have h4:=Int.tmod_lt_of_pos (aR .u64 w 16) (show 0 <n+1 by omega)
 rw[kT _ (by omega)]
 omega
theorem aUT{ro:Nat→Option Obj}(hN:Dn ro vd xs)(hD:bH vd xs d X):eS zT 61 [zP d] ro X (fun r Y=>∃w:Int,r= zU w∧0≤w∧w <18446744073709551616∧bH vd xs d Y):=by
 obtain⟨k,cI,hk,rfl⟩:=hD
 obtain⟨hl,hn⟩:=hN
 obtain⟨fS,sj,si,fe,rfl,tY,mw,nj⟩:=hl
 refine bC au [.b d (.cells ⟨[.slice fS xs.length fe,zI (k:Int),zU cI]⟩ 93 (0,0))] [] bu<|jd 19 [0,0]<|aD 13 fun D5 Eb BG=>jd 1 [0]<|iB BG []<|jd 16 [0,0]<|aD 13 fun BK BR A6=>jd 1 [0]<|iB A6 []<|jd 16 [0,0]<|aD 13 fun rZ r8 qL=>jd 1 [0]<|iB qL []<|jd 15 [0,0]<|zJ 52 ((k:Int) <(xs.length:Int)) (fun h4=>?_) fun h4=>?_
 ·
  refine jd 16 [0,0,0] ?_
  obtain⟨x66,GN⟩:=zG xs k
  refine jb fe 1 mw GN<|jl 0 (nj _ _ GN)<|zD 5<|aD 20 fun sN sU ri=>jd 1 [0]<|iB ri []<|jd 6 [0]<|ja ((k:Int)+1) (by omega)<|jd 30 [0,0]<|aH q0 (zU (cS .u64 (IntKind.u64.wrap ((cS .u64 (IntKind.u64.wrap ((cS .u64 (cS .u64 (cS .u64 cI (dJ .u64 cI 13)) (aR .u64 (cS .u64 cI (dJ .u64 cI 13)) 7)) (dJ .u64 (cS .u64 (cS .u64 cI (dJ .u64 cI 13)) (aR .u64 (cS .u64 cI (dJ .u64 cI 13)) 7)) 17))+(IntKind.u64.wrap ((IntKind.u64.wrap x66)*13787848793156543929)))) (aR .u64 (IntKind.u64.wrap ((cS .u64 (cS .u64 (cS .u64 cI (dJ .u64 cI 13)) (aR .u64 (cS .u64 cI (dJ .u64 cI 13)) 7)) (dJ .u64 (cS .u64 (cS .u64 cI (dJ .u64 cI 13)) (aR .u64 (cS .u64 cI (dJ .u64 cI 13)) 7)) 17))+(IntKind.u64.wrap ((IntKind.u64.wrap x66)*13787848793156543929)))) 30))*10723151780598845931)) (aR .u64 (IntKind.u64.wrap ((cS .u64 (IntKind.u64.wrap ((cS .u64 (cS .u64 (cS .u64 cI (dJ .u64 cI 13)) (aR .u64 (cS .u64 cI (dJ .u64 cI 13)) 7)) (dJ .u64 (cS .u64 (cS .u64 cI (dJ .u64 cI 13)) (aR .u64 (cS .u64 cI (dJ .u64 cI 13)) 7)) 17))+(IntKind.u64.wrap ((IntKind.u64.wrap x66)*13787848793156543929)))) (aR .u64 (IntKind.u64.wrap ((cS .u64 (cS .u64 (cS .u64 cI (dJ .u64 cI 13)) (aR .u64 (cS .u64 cI (dJ .u64 cI 13)) 7)) (dJ .u64 (cS .u64 (cS .u64 cI (dJ .u64 cI 13)) (aR .u64 (cS .u64 cI (dJ .u64 cI 13)) 7)) 17))+(IntKind.u64.wrap ((IntKind.u64.wrap x66)*13787848793156543929)))) 30))*10723151780598845931)) 31))) [] [0] [(d,.cells ⟨[.slice fS xs.length fe,zI ((k:Int)+1),zU (IntKind.u64.wrap ((cS .u64 (cS .u64 (cS .u64 cI (dJ .u64 cI 13)) (aR .u64 (cS .u64 cI (dJ .u64 cI 13)) 7)) (dJ .u64 (cS .u64 (cS .u64 cI (dJ .u64 cI 13)) (aR .u64 (cS .u64 cI (dJ .u64 cI 13)) 7)) 17))+(IntKind.u64.wrap ((IntKind.u64.wrap x66)*13787848793156543929))))]⟩ 93 (0,0))] (Sub.refl _) ⟨_,_,rfl,rfl,_,rfl,(uu _ _).1,(uu _ _).2,k+1,_,(by omega),rfl⟩
 refine jd 28 [0]<|aH q0 (zU (cS .u64 (IntKind.u64.wrap ((cS .u64 (cS .u64 (cS .u64 (cS .u64 cI (dJ .u64 cI 13)) (aR .u64 (cS .u64 cI (dJ .u64 cI 13)) 7)) (dJ .u64 (cS .u64 (cS .u64 cI (dJ .u64 cI 13)) (aR .u64 (cS .u64 cI (dJ .u64 cI 13)) 7)) 17)) (aR .u64 (cS .u64 (cS .u64 (cS .u64 cI (dJ .u64 cI 13)) (aR .u64 (cS .u64 cI (dJ .u64 cI 13)) 7)) (dJ .u64 (cS .u64 (cS .u64 cI (dJ .u64 cI 13)) (aR .u64 (cS .u64 cI (dJ .u64 cI 13)) 7)) 17)) 30))*10723151780598845931)) (aR .u64 (IntKind.u64.wrap ((cS .u64 (cS .u64 (cS .u64 (cS .u64 cI (dJ .u64 cI 13)) (aR .u64 (cS .u64 cI (dJ .u64 cI 13)) 7)) (dJ .u64 (cS .u64 (cS .u64 cI (dJ .u64 cI 13)) (aR .u64 (cS .u64 cI (dJ .u64 cI 13)) 7)) 17)) (aR .u64 (cS .u64 (cS .u64 (cS .u64 cI (dJ .u64 cI 13)) (aR .u64 (cS .u64 cI (dJ .u64 cI 13)) 7)) (dJ .u64 (cS .u64 (cS .u64 cI (dJ .u64 cI 13)) (aR .u64 (cS .u64 cI (dJ .u64 cI 13)) 7)) 17)) 30))*10723151780598845931)) 31))) [] [0] [(d,.cells ⟨[.slice fS xs.length fe,zI (k:Int),zU (cS .u64 (cS .u64 (cS .u64 cI (dJ .u64 cI 13)) (aR .u64 (cS .u64 cI (dJ .u64 cI 13)) 7)) (dJ .u64 (cS .u64 (cS .u64 cI (dJ .u64 cI 13)) (aR .u64 (cS .u64 cI (dJ .u64 cI 13)) 7)) 17))]⟩ 93 (0,0))] (Sub.refl _) ⟨_,_,rfl,rfl,_,rfl,(uu _ _).1,(uu _ _).2,k,_,(by omega),rfl⟩
theorem EN{ro:Nat→Option Obj}(hN:Dn ro vd xs)(hD:bH vd xs d X)(hn:n≤1000000):eS zT 29 [zP d,zI n] ro X (fun r Y=>∃w:Int,r= zI w∧0≤w∧(w≤n∨w=0)∧bH vd xs d Y):=by
 refine bC au [.l X] [] bu<|zD 10<|zJ 6 (n <1) (fun h1=>?_) fun h1=>?_
 ·
  refine zD 6<|aH q0 (zI 0) [] [0] X (Sub.refl _) ⟨_,_,rfl,rfl,_,rfl,(by omega),(by omega),hD⟩
 refine zD 5<|jc [0] (aUT hN hD) ?_
 rintro _ X8 ⟨w8,rfl,hw8,hx8,hD8⟩
 refine zD 2<|ja (n+1) (by omega)<|zD 1<|jrm (k:= .u64) (a:=(aR .u64 w8 16)) (b:=(IntKind.u64.wrap (n+1))) 91 (toNonzero h1 hn)<|zD 4<|aH q0 (zI (IntKind.i64.wrap (Int.tmod (aR .u64 w8 16) (IntKind.u64.wrap (n+1))))) [] [0] X8 (Sub.refl _) ⟨_,_,rfl,rfl,_,rfl,(toRange h1 hn hw8).1,.inl (toRange h1 hn hw8).2,hD8⟩
theorem Bj{ro:Nat→Option Obj}(hN:Dn ro vd xs)(hD:bH vd xs d X)(A1: -1000≤lo∧lo≤1000)(hhi: -1000≤hi∧hi≤1000):eS zT 32 [zP d,zI lo,zI hi] ro X (fun r Y=>∃w:Int,r= zI w∧lo≤w∧(w≤hi∨w=lo)∧bH vd xs d Y):=by
 refine bC au [.l X] [] bu<|zD 10<|ja (hi-lo) (by omega)<|jc (vs:=[zP d,zI (hi-lo)]) [0] (EN hN hD (by omega)) ?_
 rintro _ X12 ⟨w12,rfl,bej,qG,aUi⟩
 refine ja (lo+w12) (by omega)<|zD 3<|aH q0 (zI (lo+w12)) [] [0] X12 (Sub.refl _) ⟨_,_,rfl,rfl,_,rfl,(by omega),(by omega),aUi⟩
theorem tF{ro:Nat→Option Obj}(hN:Dn ro vd xs)(hD:bH vd xs d X)(hn:0≤n∧n≤1000):eS zT 26 [zP d,zI n] ro X (fun r Y=>∃w:Bool,r= .bool w∧bH vd xs d Y):=by
 refine bC au [.l X] [] bu<|zD 8<|ja (n-1) (by omega)<|jc (vs:=[zP d,zI (n-1)]) [0] (EN hN hD (by omega)) ?_
 rintro _ X8 ⟨w8,rfl,hw8,hx8,hD8⟩
 refine zD 4<|aH q0 (.bool (decide (w8=0))) [] [0] X8 (Sub.refl _) ⟨_,_,rfl,rfl,_,rfl,hD8⟩
def bs(l:List Nat):ByteArray:=⟨(l.map UInt8.ofNat).toArray⟩
abbrev p7(x:ByteArray):List Value:=[.string x]
structure cM where
 f:ByteArray
 t:ByteArray
abbrev iW(x:cM):List Value:=[.string x.f,.string x.t]
structure aI where
 name:ByteArray
 st:Int
 no:Int
 head:Int
 bold:Bool
abbrev eT(x:aI):List Value:=[.string x.name,.int .i64 x.st,.int .i64 x.no,.int .i64 x.head,.bool x.bold]
structure ez where
 a:Int
 b:Int
 same:Bool
variable {fs:List ez}
abbrev lP(x:ez):List Value:=[.int .i64 x.a,.int .i64 x.b,.bool x.same]
structure bK where
 name:ByteArray
 under:Int
variable {cs:List bK}
abbrev pG(x:bK):List Value:=[.string x.name,.int .i64 x.under]
structure aM where
 k:Int
 st:Int
 ot:Int
 fn:Int
 fl:Int
 tn:Int
 tl:Int
abbrev lj(x:aM):List Value:=[.int .i64 x.k,.int .i64 x.st,.int .i64 x.ot,.int .i64 x.fn,.int .i64 x.fl,.int .i64 x.tn,.int .i64 x.tl]
theorem nY{ps:List α}{x y:α}(h1:ps[i]?=some x) (h2:ps[k]?=some y):((ps.set i y).set k x).Perm ps:=by
 obtain⟨a,rfl⟩:=List.getElem?_eq_some_iff.1 h1
 obtain⟨b,rfl⟩:=List.getElem?_eq_some_iff.1 h2
 exact List.set_set_perm a b
theorem ahZ{ro:Nat→Option Obj}(hN:Dn ro vd xs)(hD:bH vd xs d X)(hm:bE ro vm 1 cT ys)(hy:0 <ys.length∧ys.length≤1000):eS zT 33 [zP d,vm] ro X (fun r Y=>∃w:Int,r= zI w∧w∈ys∧bH vd xs d Y):=by
 obtain⟨qma,qmb,qmo,qmc,rfl,qmk,qmh,qml⟩:=hm
 refine bC au [.l X] [] bu<|zD 10<|ja ((ys.length:Int)-1) (by omega)<|jc (vs:=[zP d,zI ((ys.length:Int)-1)]) [0] (EN hN hD (by omega)) ?_
 rintro _ X10 ⟨w10,rfl,aeM,su,UB⟩
 obtain⟨x11,TP⟩:=zG ys (w10.toNat)
 refine N3 w10 qmc 1 qmh TP (by omega)<|jl 0 (qml _ _ TP)<|zD 3<|aH q0 (zI x11) [] [0] X10 (Sub.refl _) ⟨_,_,rfl,rfl,_,rfl,List.mem_of_getElem? TP,UB⟩
theorem XV{ys:List ByteArray}{ro:Nat→Option Obj}(hN:Dn ro vd xs)(hD:bH vd xs d X)(hm:bE ro vm 1 p7 ys)(hy:0 <ys.length∧ys.length≤1000):eS zT 60 [zP d,vm] ro X (fun r Y=>∃w:ByteArray,r= .string w∧w∈ys∧bH vd xs d Y):=by
 obtain⟨qma,qmb,qmo,qmc,rfl,qmk,qmh,qml⟩:=hm
 refine bC au [.l X] [] bu<|zD 10<|ja ((ys.length:Int)-1) (by omega)<|jc (vs:=[zP d,zI ((ys.length:Int)-1)]) [0] (EN hN hD (by omega)) ?_
 rintro _ X10 ⟨w10,rfl,aeM,su,UB⟩
 obtain⟨x11,TP⟩:=zG ys (w10.toNat)
 refine N3 w10 qmc 1 qmh TP (by omega)<|jl 0 (qml _ _ TP)<|zD 3<|aH q0 (.string x11) [] [0] X10 (Sub.refl _) ⟨_,_,rfl,rfl,_,rfl,List.mem_of_getElem? TP,UB⟩
theorem ahY{n:Nat}{ro:Nat→Option Obj}(hN:Dn ro vd xs)(hD:bH vd xs d X)(hn:n≤100):eS zT 56 [zP d,zI (n:Int)] ro X (fun r Y=>∃(ps:List Int) (L X':Cells),ax r 1 3 cT ps L∧ps.Perm (dH n)∧Y=L++X'∧bH vd xs d X'):=by
 refine bC au [.l X] [] bu<|zD 14<|py<|eO [1,1,0,1,0,0] [] (fun(zz:Nat×Value×Cells)=>[(0,zP d),(1,zI (n:Int)),(4,zS),(5,zz.2.1),(6,zI (zz.1:Int))]) (fun(zz:Nat×Value×Cells)=>[.l zz.2.2,.l X]) (fun(zz:Nat×Value×Cells)=>zz.1≤n∧ax zz.2.1 1 3 cT (dH zz.1) zz.2.2) (fun(zz:Nat×Value×Cells)=>n-zz.1) (⟨0,zS,[]⟩) ⟨by omega,ax.nil _ _ _⟩ [0,1] ?_
 rintro⟨k,v,L⟩ hI K1 bG rest
 dsimp only at hI
 refine zD 7<|zJ 12 ((k:Int) <(n:Int)) (fun h1=>?_) fun h1=>?_
 ·
  refine zD 7<|jn fun b17=>jE (sz:=1) (ps:=dH k) (qs:=[(k:Int)]) (enc:=cT) (w:= .slice (some ⟨b17,0,none⟩) 1 1) [1] [0] [(b17,.cells ⟨([(k:Int)].map cT).flatten⟩ 3 (0,0))] (hI.2) (fun s _ hZ=>bS [(k:Int)] (hZ _ (.head _)) (by intro p hp;rfl)) (fun p _=>ai rfl) (by simp[dH];omega) (fun v18 L18 afh=>?_)
  obtain⟨abQ,YB,MT⟩:=afh.form
  subst MT
  refine zD 4<|ja ((k:Int)+1) (by omega)<|zD 2<|bF bG (⟨k+1,(.slice abQ ((dH k++[(k:Int)])).length YB),L18⟩) ⟨by omega,by rw[wj];exact afh⟩ (by omega) [0,2] (Sub.refl _)
 refine zD 6<|ja ((n:Int)-1) (by omega)<|zD 3<|eO [1,1,1,0,1,0,0] [] (fun(zz:Int×Value×Cells×(List Int)×Cells)=>[(0,zP d),(4,zS),(5,zz.2.1),(7,zI zz.1)]) (fun(zz:Int×Value×Cells×(List Int)×Cells)=>[.l zz.2.2.1,.l zz.2.2.2.2]) (fun(zz:Int×Value×Cells×(List Int)×Cells)=>(-1≤zz.1∧zz.1 <n)∧ax zz.2.1 1 3 cT zz.2.2.2.1 zz.2.2.1∧zz.2.2.2.1.Perm (dH n)∧bH vd xs d zz.2.2.2.2) (fun(zz:Int×Value×Cells×(List Int)×Cells)=>zz.1.toNat) (⟨(n:Int)-1,v,L,dH k,X⟩) ⟨by omega,hI.2,(by rw[show k=n by omega]),hD⟩ [0,1] ?_
 rintro⟨j,v,L,ps,X⟩ M7 K2 mg rest
 dsimp only at M7
 have hlen:ps.length=n:=by rw[M7.2.2.1.length_eq,mv]
 refine zD 6<|zJ 22 (j>0) (fun h2=>?_) fun h2=>?_
 ·
  refine zD 8<|jc (vs:=[zP d,zI j]) [1] (EN hN M7.2.2.2 (by omega)) ?_
  rintro _ X27 ⟨w27,rfl,bef,I2,aUd⟩
  refine zD 6 ?_
  obtain⟨oG,jF⟩:=zG ps (j.toNat)
  refine qD j 1 M7.2.1 jF (by omega) fun b30 Ui=>px 0 [1] L (fun s _ hZ=>cD M7.2.1 Ui hZ jF)<|zD 8 ?_
  obtain⟨x36,y6⟩:=zG ps (w27.toNat)
  refine qD w27 1 M7.2.1 y6 (by omega) fun dR amq=>px 0 [1] L (fun s _ hZ=>cD M7.2.1 amq hZ y6) ?_
  obtain⟨x38,MH⟩:=zG ps (j.toNat)
  refine qD j 1 M7.2.1 MH (by omega) fun b38 aSW=>RL 1 0 [zI x36] x36 M7.2.1 aSW MH rfl rfl (Nat.le_of_ble_eq_true rfl) fun L3 ho4=>zD 5 ?_
  obtain⟨x42,TN⟩:=zG ((ps.set j.toNat x36)) (w27.toNat) (by first|omega| (simp only[List.length_set,List.length_append,List.length_cons,List.length_nil];omega))
  refine qD w27 1 ho4 TN (by omega) fun b42 aSU=>RL 0 0 [zI oG] oG ho4 aSU TN rfl rfl (Nat.le_of_ble_eq_true rfl) fun L5 ho6=>zD 3<|ja (j-1) (by omega)<|zD 2<|bF mg (⟨j-1,v,L5,((ps.set j.toNat x36).set w27.toNat oG),X27⟩) ⟨by omega,ho6,(nY jF y6).trans M7.2.2.1,aUd⟩ (by omega) [0,1] (Sub.refl _)
 refine zD 8<|aH q0 (v) [] [0,1] (L++X) (Sub.refl _) ⟨_,_,rfl,rfl,_,_,_,M7.2.1,M7.2.2.1,rfl,M7.2.2.2⟩
theorem Q5(p:Int→Bool)(k:Nat):(dH (k+1)).filter p=bif p (k:Int) then (dH k).filter p++[(k:Int)] else (dH k).filter p:=by
 rw[wj,List.filter_append]
 cases h:p (k:Int)<;>simp[h]
theorem qv{n:Nat}{x:Int}(h:x∈dH n):0≤x∧x <n:=by
 simp only[dH,List.mem_map,List.mem_range] at h
 obtain⟨i,h1,rfl⟩:=h
 omega
theorem sb(n:Nat):(dH n).Pairwise (· < ·):=by
 simp only[dH]
 rw[List.pairwise_map]
 exact List.pairwise_lt_range.imp fun h=>by omega
theorem zp(x:Int)(l:List Int)(k:Nat):x∈l→(k:Int)≤cX (fun y=>decide (y=x)) l k∧∃i,cX (fun y=>decide (y=x)) l k=k+i∧l[i.toNat]?=some x∧0≤i:=by
 induction l generalizing k with
 |nil=>intro h;cases h
 |cons y l ih=>
  intro h
  by_cases e:y=x
  ·subst e
   simp only[cX,decide_true,cond_true]
   exact⟨Int.le_refl _,0,by simp,by simp,by simp⟩
  simp only[cX,e,decide_false,cond_false]
  obtain⟨h1,i,h2,h3,h4⟩:=ih (k+1) ((List.mem_cons.1 h).resolve_left fun e2=>e e2.symm)
  refine⟨by omega,i+1,by rw[h2];omega,?_,by omega⟩
  rw[show (i+1).toNat=i.toNat+1 by omega]
  simpa using h3
theorem ac7{q:List Int}{n:Nat}(hq:q.Perm (dH n)):((dH n).filter fun i=>decide (cX (fun y=>decide (y=i)) q 0 <many)).length≤many.toNat:=by
 have jH:∀x,x∈dH n→x∈q:=fun x hx=>hq.mem_iff.2 hx
 have h1:(((dH n).filter fun i=>decide (cX (fun y=>decide (y=i)) q 0 <many)).map fun i=>cX (fun y=>decide (y=i)) q 0).Nodup:=by
  rw[List.nodup_iff_pairwise_ne,List.pairwise_map]
  refine((sb n).filter _).imp_of_mem fun {a b} ha hb Ft e=>?_
  obtain⟨_,i,e1,g1,_⟩:=zp a q 0 (jH a ((List.mem_filter.1 ha).1))
  obtain⟨_,j,e2,g2,_⟩:=zp b q 0 (jH b ((List.mem_filter.1 hb).1))
  have:i=j:=by omega
  subst this
  rw[g1] at g2
  cases g2
  omega
 have h2:=xA (l₂:=dH many.toNat) h1 fun x hx=>by
  obtain⟨i,h3,rfl⟩:=List.mem_map.1 hx
  obtain⟨h4,h5⟩:=List.mem_filter.1 h3
  have h6:=of_decide_eq_true h5
  obtain⟨h7,_⟩:=zp i q 0 (jH i h4)
  simp only[dH,List.mem_map,List.mem_range]
  exact⟨(cX (fun y=>decide (y=i)) q 0).toNat,by omega,by omega⟩
 simpa [mv] using h2
theorem Je(p:α→Bool)(l:List α):(l.filter p).length≤l.length:=List.length_filter_le p l
theorem aGZ{n:Nat}{ro:Nat→Option Obj}(hN:Dn ro vd xs)(hD:bH vd xs d X)(hn:n≤100):eS zT 58 [zP d,zI (n:Int),zI many] ro X (fun r Y=>∃(ps:List Int) (L X':Cells),ax r 1 3 cT ps L∧ps.length≤many.toNat∧ps.Pairwise (· < ·)∧(∀x∈ps,0≤x∧x <n)∧Y=L++X'∧bH vd xs d X'):=by
 refine bC au [.l X] [] bu<|zD 8<|jc (vs:=[zP d,zI (n:Int)]) [0] (ahY hN hD (by first|omega|decide)) ?_
 rintro v13 _ ⟨Zk,L13,X13,T3,ZU,rfl,amE⟩
 refine jg 0 [.l L13,.l X13]<|zD 12<|py<|eO [1,1,1,0,1,0,0] [] (fun(zz:Nat×Value×Cells)=>[(1,zI (n:Int)),(2,zI many),(6,zS),(7,v13),(8,zz.2.1),(9,zI (zz.1:Int))]) (fun(zz:Nat×Value×Cells)=>[.l zz.2.2,.l L13,.l X13]) (fun(zz:Nat×Value×Cells)=>zz.1≤n∧ax zz.2.1 1 3 cT ((dH zz.1).filter (fun i=>decide (cX (fun y=>decide (y=i)) Zk 0 <many))) zz.2.2) (fun(zz:Nat×Value×Cells)=>n-zz.1) (⟨0,zS,[]⟩) ⟨by omega,ax.nil _ _ _⟩ [0,1,2] ?_
 rintro⟨k,v,L⟩ hI K1 bG rest
 dsimp only at hI
 have hlen:Zk.length=n:=by rw[ZU.length_eq,mv]
 have wI:=Je (fun i=>decide (cX (fun y=>decide (y=i)) Zk 0 <many)) (dH k)
 rw[mv] at wI
 refine zD 7<|zJ 16 ((k:Int) <(n:Int)) (fun h1=>?_) fun h1=>?_
 ·
  refine zD 8<|jp (vs:=[v13,zI (k:Int)]) [1] L13 (fun aB hs hZ=>as0 (T3.lR hZ) (by first|omega| (simp only[List.length_set,List.length_append,List.length_cons,List.length_nil];omega))) ?_
  refine zD 8<|zJ 24 ((cX (fun y=>decide (y=(k:Int))) Zk 0) <many) (fun h2=>?_) fun h2=>?_
  ·
   refine zD 4<|jn fun b27=>jE (sz:=1) (ps:=((dH k).filter (fun i=>decide (cX (fun y=>decide (y=i)) Zk 0 <many)))) (qs:=[(k:Int)]) (enc:=cT) (w:= .slice (some ⟨b27,0,none⟩) 1 1) [1] [0] [(b27,.cells ⟨([(k:Int)].map cT).flatten⟩ 3 (0,0))] (hI.2) (fun s _ hZ=>bS [(k:Int)] (hZ _ (.head _)) (by intro p hp;rfl)) (fun p _=>ai rfl) (by simp only[List.length_cons,List.length_nil];omega) (fun v28 L28 afd=>?_)
   obtain⟨aLU,aLC,Z8⟩:=afd.form
   subst Z8
   refine zD 4<|ja ((k:Int)+1) (by omega)<|zD 2<|bF bG (⟨k+1,(.slice aLU ((((dH k).filter (fun i=>decide (cX (fun y=>decide (y=i)) Zk 0 <many)))++[(k:Int)])).length aLC),L28⟩) ⟨by omega,by rw[Q5,decide_eq_true h2];exact afd⟩ (by omega) [0,2,3] (Sub.refl _)
  refine zD 4<|ja ((k:Int)+1) (by omega)<|zD 2<|bF bG (⟨k+1,v,L⟩) ⟨by omega,by rw[Q5,decide_eq_false h2];exact hI.2⟩ (by omega) [0,1,2] (Sub.refl _)
 refine zD 8<|aH q0 (v) [] [0,2] (L++X13) (Sub.refl _) ⟨_,_,rfl,rfl,_,_,_,hI.2,by rw[show k=n by omega];exact ac7 ZU,(sb k).filter _,fun x hx=>by have:=qv ((List.mem_filter.1 hx).1);omega,rfl,amE⟩
def apM:List ByteArray:=[bs [101],bs [121],bs [115,104],bs [97],bs [110,110],bs [116,104],bs [109]]
def toW:List ByteArray:=[bs [],bs [105],bs [115],bs [116],bs [97,101],bs [106],bs [110]]
def H5(r:cM):Prop:=r.f∈apM∧r.t∈toW
def jT(c:aM):Prop:=c∈[(⟨1,0,0,0,0,0,0⟩:aM),⟨2,0,0,0,0,0,0⟩,⟨1,1,0,0,0,0,0⟩,⟨2,1,0,0,0,0,0⟩,⟨4,1,0,0,0,0,0⟩]
theorem qV{p:α→Prop}{l:List α}{x:α}(h:∀y∈l,p y)(hx:p x):∀y∈l++[x],p y:=fun y hy=>by
 rcases List.mem_append.1 hy with h1|h1
 ·exact h y h1
 rw[List.mem_singleton] at h1;subst h1;exact hx
theorem awc{ro:Nat→Option Obj}(hN:Dn ro vd xs)(hD:bH vd xs d X)(hn:0≤many∧many≤100):eS zT 28 [zP d,zI many] ro X (fun r Y=>∃(ps:List cM) (L X':Cells),ax r 2 81 iW ps L∧ps.length≤many∧(∀r∈ps,H5 r)∧Y=L++X'∧bH vd xs d X'):=by
 refine bC au [.l X] [] bu<|zD 13<|jc (vs:=[zP d,zI many]) [0] (EN hN hD (by omega)) ?_
 rintro _ X10 ⟨w10,rfl,aeM,su,UB⟩
 refine zD 3<|py<|eO [1,1,0,1,0,0] [] (fun(zz:Int×Value×Cells×(List cM)×Cells)=>[(0,zP d),(4,zS),(5,zz.2.1),(6,zI zz.1)]) (fun(zz:Int×Value×Cells×(List cM)×Cells)=>[.l zz.2.2.1,.l zz.2.2.2.2]) (fun(zz:Int×Value×Cells×(List cM)×Cells)=>(0≤zz.1∧zz.2.2.2.1.length+zz.1≤many)∧ax zz.2.1 2 81 iW zz.2.2.2.1 zz.2.2.1∧(∀r∈zz.2.2.2.1,H5 r)∧bH vd xs d zz.2.2.2.2) (fun(zz:Int×Value×Cells×(List cM)×Cells)=>zz.1.toNat) (⟨w10,zS,[],[],X10⟩) ⟨by simp only[List.length_nil];omega,ax.nil _ _ _,(fun _ h=>by cases h),UB⟩ [0,1] ?_
 rintro⟨j,v,L,ps,X⟩ hI K1 bG rest
 dsimp only at hI
 refine zD 6<|zJ 12 (j>0) (fun h1=>?_) fun h1=>?_
 ·
  refine zD 7<|jn fun b16=>jcL (vs:=[zP d,.slice (some ⟨b16,0,none⟩) 7 7]) [2] [0] [(b16,.cells ⟨([(bs [101]),(bs [121]),(bs [115,104]),(bs [97]),(bs [110,110]),(bs [116,104]),(bs [109])].map p7).flatten⟩ 9 (0,0))] (fun aB hs hZ=>XV (hN.up hs) hI.2.2.2 (bV [(bs [101]),(bs [121]),(bs [115,104]),(bs [97]),(bs [110,110]),(bs [116,104]),(bs [109])] hZ.head (by intro p hp;rfl)) (by decide)) ?_
  rintro _ X17 ⟨w17,rfl,aP8,aUh⟩
  refine zD 1<|jn fun H0=>jcL (vs:=[zP d,.slice (some ⟨H0,0,none⟩) 7 7]) [1] [0] [(H0,.cells ⟨([(bs []),(bs [105]),(bs [115]),(bs [116]),(bs [97,101]),(bs [106]),(bs [110])].map p7).flatten⟩ 9 (0,0))] (fun aB hs hZ=>XV (hN.up hs) aUh (bV [(bs []),(bs [105]),(bs [115]),(bs [116]),(bs [97,101]),(bs [106]),(bs [110])] hZ.head (by intro p hp;rfl)) (by decide)) ?_
  rintro _ X20 ⟨w20,rfl,atq,agI⟩
  refine zD 1<|jn fun b7=>jd 5 [0,0]<|jn fun mS=>jE (sz:=2) (ps:=ps) (qs:=[(⟨w17,w20⟩:cM)]) (enc:=iW) (w:= .slice (some ⟨mS,0,none⟩) 1 1) [5] [0] [(mS,.cells ⟨([(⟨w17,w20⟩:cM)].map iW).flatten⟩ 81 (0,0))] (hI.2.1) (fun s _ hZ=>bS [(⟨w17,w20⟩:cM)] (hZ _ (.head _)) (by intro p hp;rfl)) (fun p _=>ai rfl) (by simp<;>omega) (fun v25 L25 aff=>?_)
  obtain⟨aLW,aLE,aSh⟩:=aff.form
  subst aSh
  refine zD 4<|ja (j-1) (by omega)<|zD 2<|bF bG (⟨j-1,(.slice aLW ((ps++[(⟨w17,w20⟩:cM)])).length aLE),L25,(ps++[(⟨w17,w20⟩:cM)]),X20⟩) ⟨by simp only[List.length_append,List.length_cons,List.length_nil];omega,aff,qV hI.2.2.1 ⟨aP8,atq⟩,agI⟩ (by omega) [0,3] (Sub.refl _)
 refine zD 8<|aH q0 (v) [] [0,1] (L++X) (Sub.refl _) ⟨_,_,rfl,rfl,_,_,_,hI.2.1,(by omega),hI.2.2.1,rfl,hI.2.2.2⟩
theorem aGX{ro:Nat→Option Obj}(hN:Dn ro vd xs)(hD:bH vd xs d X):eS zT 27 [zP d] ro X (fun r Y=>∃w:aM,r= .agg ⟨lj w⟩∧jT w∧bH vd xs d Y):=by
 refine bC au [.l X] [] bu<|zD 2<|jn fun b2=>zD 8<|jn fun b9=>zD 9<|jc (vs:=[zP d,zI 4]) [2] (EN hN hD (by omega)) ?_
 rintro _ X15 ⟨w15,rfl,aP9,aeH,avJ⟩
 obtain⟨BL,pz⟩:=zG ([(⟨1,0,0,0,0,0,0⟩:aM),(⟨2,0,0,0,0,0,0⟩:aM),(⟨1,1,0,0,0,0,0⟩:aM),(⟨2,1,0,0,0,0,0⟩:aM),(⟨4,1,0,0,0,0,0⟩:aM)]:List _) (w15.toNat) (show w15.toNat <5 from by omega)
 refine N3 (a:=(some ⟨b9,0,none⟩)) (b:=b9) (off:=0) w15 5 7 (fun _ _=>rfl) pz (by omega)<|px (m:=7) 0 [1] [(b9,.cells ⟨([(⟨1,0,0,0,0,0,0⟩:aM),(⟨2,0,0,0,0,0,0⟩:aM),(⟨1,1,0,0,0,0,0⟩:aM),(⟨2,1,0,0,0,0,0⟩:aM),(⟨4,1,0,0,0,0,0⟩:aM)].map lj).flatten⟩ 74 (0,0))] (fun s _ hZ=>xv (hZ _ (.head _)) (by intro p hp;rfl) pz) ?_
 refine jd 3 [2]<|aH q0 (.agg ⟨[zI BL.k,zI BL.st,zI BL.ot,zI BL.fn,zI BL.fl,zI BL.tn,zI BL.tl]⟩) [2] [0] X15 (Sub.refl _) ⟨_,_,rfl,rfl,BL,rfl,List.mem_of_getElem? pz,avJ⟩
def GI(b:UInt8):Bool:=Nat.ble 97 b.toNat&&Nat.ble b.toNat 122
def Gn(b:UInt8):Bool:=Nat.ble 65 b.toNat&&(Nat.ble b.toNat 90&& !(Nat.beq b.toNat 72||Nat.beq b.toNat 81||Nat.beq b.toNat 87))
def Script(w:ByteArray):Prop:=(∀b∈w.data.toList,GI b=true)∨(∀b∈w.data.toList,Gn b=true)
def Yp(w:ByteArray):Prop:=(0 <w.size∧w.size≤7)∧Script w
def NQ(w:ByteArray):Prop:=(1≤w.size∧w.size≤3)∧Script w
theorem acr{w:ByteArray}(h:(w.data.toList.all GI||w.data.toList.all Gn)=true)(h1:(Nat.blt 0 w.size&&Nat.ble w.size 7)=true):Yp w:=by
 simp only[Bool.or_eq_true,List.all_eq_true] at h
 simp only[Bool.and_eq_true,Nat.blt_eq,Nat.ble_eq] at h1
 exact⟨h1,h⟩
theorem azt{w:ByteArray}(h:w∈[bs [97,101,115],bs [115,104,101,116,97],bs [115,109,105,116,121,104,97],bs [99,104,106,97],bs [97,110,110,101]]):Yp w:=by
 simp only[List.mem_cons,List.not_mem_nil,or_false] at h
 rcases h with rfl|rfl|rfl|rfl|rfl<;>exact acr (by decide) (by decide)
theorem azs{w:ByteArray}(h:w∈[bs [65,69,83],bs [88,69,84,65],bs [83,77,73,84,89,65],bs [67,74,65,88],bs [65,78,78,69]]):Yp w:=by
 simp only[List.mem_cons,List.not_mem_nil,or_false] at h
 rcases h with rfl|rfl|rfl|rfl|rfl<;>exact acr (by decide) (by decide)
def nV:List ByteArray:=[bs [102,111,111,100],bs [98,114,101,97,100],bs [99,108,111,116,104],bs [104,97,116,115],bs [119,111,111,100],bs [105,114,111,110],bs [98,101,101,114],bs [105,110],bs [115,101,101]]
def pR:List ByteArray:=[bs [98,97,107,101,114],bs [98,97,107,101,114,115],bs [98,111,110,110,101,116,115],bs [98,114,101,119,101,114],bs [98,114,117,115,104,101,115],bs [98,117,116,99,104,101,114],bs [99,97,110,100,108,101,115],bs [99,111,111,112,101,114],bs [99,111,111,112,101,114,115],bs [99,117,116,108,101,114],bs [104,97,116,116,101,114],bs [104,111,115,105,101,114],bs [109,101,114,99,101,114],bs [109,105,108,108,105,110,101,114],bs [116,97,105,108,111,114],bs [116,97,110,110,101,114]]
theorem Gl{T:TypeId}{n:Nat}{enc:α→List Value}(ps:List α)(hn:ps.length=n)(hl:∀p∈ps,(enc p).length=sz):ax (.slice (some ⟨b,0,none⟩) n n) sz T enc ps [(b,.cells ⟨(ps.map enc).flatten⟩ T (0,0))]:=by
 subst hn
 exact .inr ⟨b,_,ps.length,rfl,rfl,kQ ps hl,Nat.le_refl _,hl,by rw[←kQ ps hl,List.take_length]⟩
theorem SA{s t w:ByteArray}(h:∀b∈s.data.toList,b∈w.data.toList)(k:∀b∈t.data.toList,b∈w.data.toList):∀b∈(s++t).data.toList,b∈w.data.toList:=fun b hb=>by
 rw[ByteArray.data_append,Array.toList_append,List.mem_append] at hb
 exact hb.elim (h b) (k b)
theorem OQ{w:ByteArray}(i j:Nat):∀b∈(w.extract i j).data.toList,b∈w.data.toList:=fun b hb=>by
 rw[ByteArray.data_extract,Array.toList_extract] at hb
 exact List.mem_of_mem_drop (List.mem_of_mem_take (by simpa [List.extract] using hb))
theorem SM{s w:ByteArray}(h:∀b∈s.data.toList,b∈w.data.toList)(hw:Script w):Script s:=hw.imp (fun k b hb=>k b (h b hb)) (fun k b hb=>k b (h b hb))
theorem XW{ro:Nat→Option Obj}(hN:Dn ro vd xs)(hD:bH vd xs d X):eS zT 31 [zP d,zI 3] ro X (fun r Y=>∃w:ByteArray,r= .string w∧NQ w∧bH vd xs d Y):=by
 refine bC au [.l X] [] bu<|zD 7<|jn fun pH=>jcL (vs:=[zP d,.slice (some ⟨pH,0,none⟩) 5 5]) [1] [0] [(pH,.cells ⟨([(bs [97,101,115]),(bs [115,104,101,116,97]),(bs [115,109,105,116,121,104,97]),(bs [99,104,106,97]),(bs [97,110,110,101])].map p7).flatten⟩ 9 (0,0))] (fun aB hs hZ=>XV (hN.up hs) hD (bV [(bs [97,101,115]),(bs [115,104,101,116,97]),(bs [115,109,105,116,121,104,97]),(bs [99,104,106,97]),(bs [97,110,110,101])] hZ.head (by intro p hp;rfl)) (by decide)) ?_
 rintro _ X11 ⟨w11,rfl,aQb,aUj⟩
 refine zD 6<|jc (vs:=[zP d,zI 3]) [0] (tF hN aUj (by omega)) ?_
 rintro _ X13 ⟨w13,rfl,amE⟩
 refine zD 1<|Ff [1,1,1] [] (fun(zz:ByteArray×Cells)=>[(0,zP d),(1,zI 3),(4,.string (bs [])),(5,.string zz.1)]) (fun(zz:ByteArray×Cells)=>[.l zz.2]) (fun(zz:ByteArray×Cells)=>Yp zz.1∧bH vd xs d zz.2) ?_ (fun K1 bG=>?_)
 ·
  rintro⟨w,X⟩ hJ rest
  dsimp only at hJ
  obtain⟨⟨Xd,hw7⟩,sw⟩:=hJ.1
  refine zD 9<|jmn (k:= .i64) (a:=3) (b:=6)<|jc (vs:=[zP d,zI 1,zI (min 3 6)]) [0] (Bj hN hJ.2 (by omega) (by omega)) ?_
  rintro _ X20 ⟨w20,rfl,atq,MJ,agI⟩
  refine zD 3<|eO [1,1,1,1,0,1,0,0] [] (fun(zz:Int×ByteArray×Cells)=>[(0,zP d),(4,.string (bs [])),(5,.string w),(6,.string zz.2.1),(7,zI zz.1)]) (fun(zz:Int×ByteArray×Cells)=>[.l zz.2.2]) (fun(zz:Int×ByteArray×Cells)=>(0≤zz.1∧zz.2.1.size+zz.1=w20)∧(∀b∈zz.2.1.data.toList,b∈w.data.toList)∧bH vd xs d zz.2.2) (fun(zz:Int×ByteArray×Cells)=>zz.1.toNat) (⟨w20,bs [],X20⟩) ⟨⟨by omega,by simp[bs,ByteArray.size]⟩,(fun _ h=>by simp[bs] at h),agI⟩ [0] ?_
  rintro⟨j,t,Z⟩ hI K2 mg rest
  dsimp only at hI
  refine zD 6<|zJ 22 (j>0) (fun h1=>?_) fun h1=>?_
  ·
   refine zD 9<|ja ((w.size:Int)-1) (by omega)<|jc (vs:=[zP d,zI ((w.size:Int)-1)]) [0] (EN hN hI.2.2 (by omega)) ?_
   rintro _ X29 ⟨w29,rfl,bee,AX,aUc⟩
   refine zD 7<|ja (w29+1) (by omega)<|jtB (b:=w) (lo:=w29) (hi:=(w29+1)) (by omega)<|jsa (a:=t) (b:=(w.extract w29.toNat (w29+1).toNat)) 9 (by rw[ByteArray.size_extract];omega) ?_
   refine zD 4<|ja (j-1) (by omega)<|zD 2<|bF mg (⟨j-1,(t++(w.extract w29.toNat (w29+1).toNat)),X29⟩) ⟨⟨by omega,by rw[ByteArray.size_append,ByteArray.size_extract];omega⟩,SA hI.2.1 (OQ _ _),aUc⟩ (by omega) [0] (Sub.refl _)
  refine zD 8<|aH q0 (.string t) [] [0] Z (Sub.refl _) ⟨_,_,rfl,rfl,_,rfl,⟨by omega,SM hI.2.1 sw⟩,hI.2.2⟩
 refine js 13 w13 (fun h2=>?_) (fun h2=>?_)
 ·
  subst h2
  refine zD 3<|jn fun mT=>jcL (vs:=[zP d,.slice (some ⟨mT,0,none⟩) 5 5]) [1] [0] [(mT,.cells ⟨([(bs [65,69,83]),(bs [88,69,84,65]),(bs [83,77,73,84,89,65]),(bs [67,74,65,88]),(bs [65,78,78,69])].map p7).flatten⟩ 9 (0,0))] (fun aB hs hZ=>XV (hN.up hs) amE (bV [(bs [65,69,83]),(bs [88,69,84,65]),(bs [83,77,73,84,89,65]),(bs [67,74,65,88]),(bs [65,78,78,69])] hZ.head (by intro p hp;rfl)) (by decide)) ?_
  rintro _ X16 ⟨w16,rfl,aBL,agJ⟩
  refine zD 2<|bF bG ⟨w16,X16⟩ ⟨azs aBL,agJ⟩ Nat.zero_lt_one [0] (Sub.refl _)
 subst h2
 refine zD 2<|bF bG ⟨w11,X13⟩ ⟨azt aQb,amE⟩ Nat.zero_lt_one [0] (Sub.refl _)
theorem aej{ro:Nat→Option Obj}:eS zT 57 [] ro [] (fun r Y=>∃L,ax r 1 9 p7 nV L∧Y=L):=by
 refine bC au [] [] bu<|zD 6<|jn fun b1=>zD 3<|aH q0 (.slice (some ⟨b1,0,none⟩) 9 9) [] [0] [(b1,.cells ⟨[.string (bs [102,111,111,100]),.string (bs [98,114,101,97,100]),.string (bs [99,108,111,116,104]),.string (bs [104,97,116,115]),.string (bs [119,111,111,100]),.string (bs [105,114,111,110]),.string (bs [98,101,101,114]),.string (bs [105,110]),.string (bs [115,101,101])]⟩ 9 (0,0))] (Sub.refl _) ⟨_,_,rfl,rfl,_,Gl nV rfl (by intro p hp;rfl),rfl⟩
theorem aew{ro:Nat→Option Obj}:eS zT 59 [] ro [] (fun r Y=>∃L,ax r 1 9 p7 pR L∧Y=L):=by
 refine bC au [] [] bu<|zD 6<|jn fun b1=>zD 3<|aH q0 (.slice (some ⟨b1,0,none⟩) 16 16) [] [0] [(b1,.cells ⟨[.string (bs [98,97,107,101,114]),.string (bs [98,97,107,101,114,115]),.string (bs [98,111,110,110,101,116,115]),.string (bs [98,114,101,119,101,114]),.string (bs [98,114,117,115,104,101,115]),.string (bs [98,117,116,99,104,101,114]),.string (bs [99,97,110,100,108,101,115]),.string (bs [99,111,111,112,101,114]),.string (bs [99,111,111,112,101,114,115]),.string (bs [99,117,116,108,101,114]),.string (bs [104,97,116,116,101,114]),.string (bs [104,111,115,105,101,114]),.string (bs [109,101,114,99,101,114]),.string (bs [109,105,108,108,105,110,101,114]),.string (bs [116,97,105,108,111,114]),.string (bs [116,97,110,110,101,114])]⟩ 9 (0,0))] (Sub.refl _) ⟨_,_,rfl,rfl,_,Gl pR rfl (by intro p hp;rfl),rfl⟩
structure bp where
 word:ByteArray
 cls:Int
 oK:Int
 eC:Value
abbrev mP(x:bp):List Value:=[.string x.word,zI x.cls,zI x.oK,x.eC]
def Vs(hs:List bp)(i:Int):Prop:=0≤i∧∃h,hs[i.toNat]?=some h∧0≤h.cls
theorem Ve{p:α→Bool}{l:List α}{x:α}(h:l[k]?=some x):(l.drop k).any p=(p x||(l.drop (k+1)).any p):=by rw[gE h];rfl
theorem anq{p:α→Bool}{l:List α}(h:¬k <l.length):(l.drop k).any p=false:=by rw[eY h];rfl
def Dm(fs:List ez)(a b:Int):Bool:=fs.any fun y=>decide (y.a=a)&&decide (y.b=b)
theorem xJ{hs:List bp}{ro:Nat→Option Obj}(hN:Dn ro vd xs)(hD:bH vd xs d X)(hh:bE ro vh 4 mP hs)(hn:hs.length≤100):eS zT 30 [zP d,.agg ⟨[zI 2,zI 0,zI 0,vc,vh,zS,zS]⟩,.string nm] ro X (fun r Y=>∃w:aI,r= .agg ⟨eT w⟩∧w.name=nm∧(0≤w.st∧w.st≤1)∧(w.head= -1∨Vs hs w.head)∧bH vd xs d Y):=by
 obtain⟨dS,vk,vi,dB,rfl,xw,q8,q7⟩:=hh
 refine bC au [.l X] [] bu<|zD 2<|jn fun b4=>jn fun b6=>jd 8 [1]<|jc (vs:=[zP d,zI 1]) [2] (EN hN hD (by omega)) ?_
 rintro _ X15 ⟨w15,rfl,aP9,aeH,avJ⟩
 refine zD 2<|jc (vs:=[zP d,zI 1,zI 3]) [0] (Bj hN avJ (by omega) (by omega)) ?_
 rintro _ X18 ⟨w18,rfl,bei,bd3,M8⟩
 refine zD 1<|jc (vs:=[zP d,zI 1,zI 3]) [0] (Bj hN M8 (by omega) (by omega)) ?_
 rintro _ X20 ⟨w20,rfl,atq,MJ,agI⟩
 refine zD 1<|jc (vs:=[zP d,zI 1,zI 40]) [0] (Bj hN agI (by omega) (by omega)) ?_
 rintro _ X22 ⟨w22,rfl,beh,uv,aUf⟩
 refine jn fun b23=>jcL (vs:=[zP d,.slice (some ⟨b23,0,none⟩) 3 3]) [1] [0] [(b23,.cells ⟨([w18,w20,w22].map cT).flatten⟩ 3 (0,0))] (fun aB hs hZ=>ahZ (hN.up hs) aUf (bV [w18,w20,w22] hZ.head (by intro p hp;rfl)) (by simp)) ?_
 rintro _ X24 ⟨w24,rfl,beg,aUe⟩
 refine zD 1<|jc (vs:=[zP d,zI 4]) [0] (tF hN aUe (by omega)) ?_
 rintro _ X26 ⟨w26,rfl,aF2⟩
 refine zD 1<|jn fun b7=>jd 12 [0]<|py<|eO [1,1,1,0,1,0,0] [] (fun(zz:Nat×Value×Cells×(List Int))=>[(0,zP d),(4,zP b4),(6,zP b6),(7,zP b7),(8,zz.2.1),(9,zI (zz.1:Int))]) (fun(zz:Nat×Value×Cells×(List Int))=>[.l zz.2.2.1,.l X26,.b b7 (.cells ⟨[.string nm,zI w15,zI w24,zI (-1),.bool w26]⟩ 86 (0,0)),.b b6 (.cells ⟨[.string ByteArray.empty,zI 0,zI 0,zI 0,.bool false]⟩ 86 (0,0)),.b b4 (.cells ⟨[zI 2,zI 0,zI 0,vc,.slice dS hs.length dB,zS,zS]⟩ 83 (0,0))]) (fun(zz:Nat×Value×Cells×(List Int))=>(zz.1≤hs.length∧zz.2.2.2.length≤zz.1)∧ax zz.2.1 1 3 cT zz.2.2.2 zz.2.2.1∧∀i∈zz.2.2.2,Vs hs i) (fun(zz:Nat×Value×Cells×(List Int))=>hs.length-zz.1) (⟨0,zS,[],[]⟩) ⟨⟨by omega,by simp⟩,ax.nil _ _ _,(fun _ h=>by cases h)⟩ [0,2,1,4,5] ?_
 rintro⟨k,v,L,ps⟩ hI K1 bG rest
 dsimp only at hI
 refine jd 10 [4]<|zJ 33 ((k:Int) <(hs.length:Int)) (fun h1=>?_) fun h1=>?_
 ·
  refine jd 10 [4] ?_
  obtain⟨x40,atl⟩:=zG hs k
  refine jb dB 4 q8 atl<|zD 1<|jl 1 (q7 _ _ atl)<|zD 2<|zJ 43 (x40.cls≥0) (fun h2=>?_) fun h2=>?_
  ·
   refine zD 4<|jn fun b46=>jE (sz:=1) (ps:=ps) (qs:=[(k:Int)]) (enc:=cT) (w:= .slice (some ⟨b46,0,none⟩) 1 1) [1] [0] [(b46,.cells ⟨([(k:Int)].map cT).flatten⟩ 3 (0,0))] (hI.2.1) (fun s _ hZ=>bS [(k:Int)] (hZ _ (.head _)) (by intro p hp;rfl)) (fun p _=>ai rfl) (by simp<;>omega) (fun v47 L47 ae8=>?_)
   obtain⟨aj8,aj1,auQ⟩:=ae8.form
   subst auQ
   refine zD 4<|ja ((k:Int)+1) (by omega)<|zD 2<|bF bG (⟨k+1,(.slice aj8 ((ps++[(k:Int)])).length aj1),L47,(ps++[(k:Int)])⟩) ⟨by simp only[List.length_append,List.length_cons,List.length_nil];omega,ae8,qV hI.2.2 ⟨by omega,x40,atl,by assumption⟩⟩ (by omega) [0,2,3,4,5] (Sub.refl _)
  refine zD 4<|ja ((k:Int)+1) (by omega)<|zD 2<|bF bG (⟨k+1,v,L,ps⟩) ⟨by dsimp only;omega,hI.2⟩ (by omega) [0,1,2,3,4] (Sub.refl _)
 refine zD 6<|Fe hI.2.1<|zD 2<|js 51 (decide ((ps.length:Int)>0)) (fun h3=>?_) (fun h3=>?_)
 ·
  have wK:=h3
  replace wK:=of_decide_eq_true wK
  refine zD 1<|jc (vs:=[zP d,zI 4]) [1] (tF hN aF2 (by omega)) ?_
  rintro _ X53 ⟨w53,rfl,amD⟩
  refine zD 3<|js 55 (!w53) (fun h4=>?_) (fun h4=>?_)
  ·
   try simp only[zB] at h4
   refine zD 5<|Fe hI.2.1<|ja ((ps.length:Int)-1) (by omega)<|jc (vs:=[zP d,zI ((ps.length:Int)-1)]) [0] (EN hN amD (by omega)) ?_
   rintro _ X61 ⟨w61,rfl,beb,bd2,aT6⟩
   obtain⟨x62,ati⟩:=zG ps (w61.toNat)
   refine qD w61 1 hI.2.1 ati (by omega) fun b62 aSP=>px 0 [1] L (fun s _ hZ=>cD hI.2.1 aSP hZ ati)<|jd 9 [2,2,3]<|aH q0 (.agg ⟨[.string nm,zI w15,zI w24,zI x62,.bool w26]⟩) [3] [0] X61 (Sub.refl _) ⟨_,_,rfl,rfl,⟨_,_,_,_,_⟩,rfl,rfl,(by dsimp only;omega),.inr (hI.2.2 _ (List.mem_of_getElem? ati)),aT6⟩
  try simp only[zB] at h4
  refine jd 8 [2,3]<|aH q0 (.agg ⟨[.string nm,zI w15,zI w24,zI (-1),.bool w26]⟩) [3] [0] X53 (Sub.refl _) ⟨_,_,rfl,rfl,⟨_,_,_,_,_⟩,rfl,rfl,(by dsimp only;omega),.inl rfl,amD⟩
 have wK:=h3
 replace wK:=of_decide_eq_false wK
 refine jd 13 [2,3]<|aH q0 (.agg ⟨[.string nm,zI w15,zI w24,zI (-1),.bool w26]⟩) [3] [1] X26 (Sub.refl _) ⟨_,_,rfl,rfl,⟨_,_,_,_,_⟩,rfl,rfl,(by dsimp only;omega),.inl rfl,aF2⟩
theorem aet{ro:Nat→Option Obj}(hm:bE ro vm 1 cT ys)(hn:ys.length≤1000):eS zT 84 [vm] ro [] (fun r Y=>∃L,ax r 1 3 cT ys L∧Y=L):=by
 obtain⟨qma,qmb,qmo,qmc,rfl,qmk,qmh,qml⟩:=hm
 refine bC au [] [] bu<|zD 6<|jn fun b3=>zD 1<|jE (sz:=1) (ps:=[]) (qs:=ys) (enc:=cT) (w:= .slice qma ys.length qmc) [0] [] [] (bw (b:=b3) (T:=3)) (fun s he _=>⟨qma,qmb,qmo,qmc,rfl,qmh,fun i p hp=>(qml i p hp).ext he⟩) (fun p _=>ai rfl) (by simp<;>omega) (fun v5 L5 GZ=>?_)
 rw[List.nil_append] at GZ
 obtain⟨va5,vc5,he5⟩:=GZ.form
 subst he5
 refine zD 3<|aH q0 ((.slice va5 (ys).length vc5)) [] [0] L5 (Sub.refl _) ⟨_,_,rfl,rfl,_,GZ,rfl⟩
theorem iI{ys:List aI}{ro:Nat→Option Obj}(hm:bE ro vm 5 eT ys)(hn:ys.length≤1000):eS zT 49 [vm] ro [] (fun r Y=>∃L,ax r 5 86 eT ys L∧Y=L):=by
 obtain⟨qma,qmb,qmo,qmc,rfl,qmk,qmh,qml⟩:=hm
 refine bC au [] [] bu<|zD 6<|jn fun b3=>zD 1<|jE (sz:=5) (ps:=[]) (qs:=ys) (enc:=eT) (w:= .slice qma ys.length qmc) [0] [] [] (bw (b:=b3) (T:=86)) (fun s he _=>⟨qma,qmb,qmo,qmc,rfl,qmh,fun i p hp=>(qml i p hp).ext he⟩) (fun p _=>ai rfl) (by simp<;>omega) (fun v5 L5 GZ=>?_)
 rw[List.nil_append] at GZ
 obtain⟨va5,vc5,he5⟩:=GZ.form
 subst he5
 refine zD 3<|aH q0 ((.slice va5 (ys).length vc5)) [] [0] L5 (Sub.refl _) ⟨_,_,rfl,rfl,_,GZ,rfl⟩
theorem aoU{vf:Value}{x:ez}{ro:Nat→Option Obj}(hf:bE ro vf 3 lP fs)(hn:fs.length≤1000):dO zT 16 [.agg ⟨[s0,s1,s2,t0,t1,ru,vb,va,zI gone,zI new,zI af,vf]⟩,.agg ⟨[zI x.a,zI x.b,.bool x.same]⟩] ro (.bool (Dm fs x.a x.b)):=by
 obtain⟨iA,B5,B4,gR,rfl,IM,xX,xW⟩:=hf
 refine bC au [] [] bu<|zD 2<|jn fun b2=>jn fun b3=>zD 8<|eO [1,0,1,0,0] [] (fun(zz:Nat)=>[(2,zP b2),(3,zP b3),(5,zI (zz:Int))]) (fun(zz:Nat)=>[.b b3 (.cells ⟨[zI x.a,zI x.b,.bool x.same]⟩ 57 (0,0)),.b b2 (.cells ⟨[s0,s1,s2,t0,t1,ru,vb,va,zI gone,zI new,zI af,.slice iA fs.length gR]⟩ 38 (0,0))]) (fun(zz:Nat)=>zz≤fs.length∧Dm fs x.a x.b=(fs.drop zz).any (fun y=>decide (y.a=x.a)&&decide (y.b=x.b))) (fun(zz:Nat)=>fs.length-zz) 0 ⟨by omega,rfl⟩ [0,1] ?_
 rintro k hI K1 bG rest
 refine jd 9 [1]<|zJ 10 ((k:Int) <(fs.length:Int)) (fun h1=>?_) fun h1=>?_
 ·
  refine jd 9 [1] ?_
  obtain⟨BL,pz⟩:=zG fs k
  refine jb gR 3 xX pz<|zD 1<|jl 0 (xW _ _ pz)<|jd 4 [0]<|js 9 (decide (BL.a=x.a)) (fun h2=>?_) (fun h2=>?_)
  ·
   have lM:=h2
   replace lM:=of_decide_eq_true lM
   refine jd 3 [1] ?_
   obtain⟨Sf,ZO⟩:=zG fs k
   refine jb gR 3 xX ZO<|zD 1<|jl 1 (xW _ _ ZO)<|jd 5 [0]<|zJ 32 (Sf.b=x.b) (fun h3=>?_) fun h3=>?_
   ·
    refine zD 6<|aH q0 (.bool true) [] [] [] (Sub.refl _) ⟨_,_,rfl,rfl,by rw[hI.2,Ve pz];simp_all,rfl⟩
   refine zD 4<|ja ((k:Int)+1) (by omega)<|zD 2<|bF bG (k+1) ⟨by omega,by rw[hI.2,Ve pz];simp_all⟩ (by omega) [0,1] (Sub.refl _)
  have lM:=h2
  replace lM:=of_decide_eq_false lM
  refine zD 15<|ja ((k:Int)+1) (by omega)<|zD 2<|bF bG (k+1) ⟨by omega,by rw[hI.2,Ve pz];simp_all⟩ (by omega) [0,1] (Sub.refl _)
 refine zD 7<|aH q0 (.bool false) [] [] [] (Sub.refl _) ⟨_,_,rfl,rfl,by rw[hI.2,anq (by omega)],rfl⟩
theorem aGY{fa:Value}{u4 KZ:List aI}{ro:Nat→Option Obj}(hN:Dn ro vd xs)(hD:bH vd xs d X)(hb:bE ro vb 5 eT u4)(ha:bE ro va 5 eT KZ)(hn:u4.length≤100∧KZ.length≤100):eS zT 19 [zP d,.agg ⟨[s0,s1,s2,t0,t1,ru,vb,va,zI gone,zI new,zI af,fa]⟩] ro X (fun r Y=>∃x:ez,r= .agg ⟨lP x⟩∧(0≤x.a∧(x.a <u4.length∨x.a=0))∧(0≤x.b∧(x.b <KZ.length∨x.b=0))∧bH vd xs d Y):=by
 obtain⟨jV,Pd,Pb,jP,rfl,Pc,N1,N0⟩:=hb
 obtain⟨jC,Mc,Ma,jq,rfl,Mb,JU,JR⟩:=ha
 refine bC au [.l X] [] bu<|zD 2<|jn fun b3=>jn fun b4=>jd 7 [1]<|ja ((u4.length:Int)-1) (by omega)<|jd 4 [1]<|ja ((KZ.length:Int)-1) (by omega)<|zD 1<|aD 5 fun D5 Eb BG=>jc (vs:=[zP d,zI ((u4.length:Int)-1)]) [2] (EN hN hD (by omega)) ?_
 rintro _ X10 ⟨w10,rfl,aeM,su,UB⟩
 refine iB BG [[2],[2]]<|aD 11 fun BK BR A6=>jc (vs:=[zP d,zI ((KZ.length:Int)-1)]) [0] (EN hN UB (by omega)) ?_
 rintro _ X16 ⟨w16,rfl,aBL,pz,agJ⟩
 refine iB A6 [[2],[2]]<|aD 13 fun rZ r8 qL=>jc (vs:=[zP d,zI 2]) [0] (tF hN agJ (by omega)) ?_
 rintro _ X18 ⟨w18,rfl,M8⟩
 refine iB qL [[2],[2]]<|zD 1<|aD 15 fun sN sU ri=>jd 1 [1]<|cw ri<|zD 2<|aH q0 (.agg ⟨[zI w10,zI w16,.bool w18]⟩) [1] [0] X18 (Sub.refl _) ⟨_,_,rfl,rfl,⟨_,_,_⟩,rfl,(by dsimp only;omega),(by dsimp only;omega),M8⟩
inductive dg{α β:Type}(R:α→β→Prop):List α→List β→Prop
 |nil:dg R [] []
 |cons {a:α} {b:β} {l:List α} {m:List β}:R a b→dg R l m→dg R (a::l) (b::m)
theorem dg.snoc{R:α→β→Prop}{l:List α}{m:List β}{a:α}{b:β}(h:dg R l m)(k:R a b):dg R (l++[a]) (m++[b]):=by
 induction h with
 |nil=>exact .cons k .nil
 |cons h1 _ ih=>exact .cons h1 ih
theorem dg.len{R:α→β→Prop}{l:List α}{m:List β}(h:dg R l m):l.length=m.length:=by
 induction h with
 |nil=>rfl
 |cons _ _ ih=>simp[ih]
theorem dg.get{R:α→β→Prop}{l:List α}{m:List β}(h:dg R l m){a:α}(ha:l[i]?=some a):∃b,m[i]?=some b∧R a b:=by
 induction h generalizing i with
 |nil=>simp at ha
 |cons h1 _ ih=>
  cases i with
  |zero=>simp at ha;subst ha;exact⟨_,rfl,h1⟩
  |succ i=>exact ih (by simpa using ha)
theorem dg.imp{R S:α→β→Prop}{l:List α}{m:List β}(h:dg R l m)(k:∀a b,R a b→S a b):dg S l m:=by
 induction h with
 |nil=>exact .nil
 |cons h1 _ ih=>exact .cons (k _ _ h1) ih
structure cq where
 word:ByteArray
 cls:Int
 oK:Int
 eC:List Int
variable {hd:List cq}
def de(h:bp)(x:cq):Prop:=h.word=x.word∧h.cls=x.cls∧h.oK=x.oK
def rV(ro:Nat→Option Obj)(h:bp)(x:cq):Prop:=h.word=x.word∧h.cls=x.cls∧h.oK=x.oK∧bE ro h.eC 1 cT x.eC
def jM(ro:Nat→Option Obj)(vc vh:Value)(cs:List bK)(hv:List bp)(hd:List cq):Prop:=bE ro vc 2 pG cs∧bE ro vh 4 mP hv∧dg (rV ro) hv hd
def iz(nc nh:Nat)(i:Nat)(x:cq):Prop:=(-1≤x.cls∧x.cls <nc)∧(-1≤x.oK∧x.oK <nh∧x.oK≠i)∧(x.eC.length≤nh∧x.eC.Pairwise (· < ·)∧∀y∈x.eC,0≤y∧y <nh∧y≠i)∧(x.oK≠ -1→x.cls= -1∧x.eC=[])∧(x.oK= -1→x.cls= -1→x.eC≠[])
structure xg(cs:List bK)(hd:List cq):Prop where
 nc:0 <cs.length∧cs.length≤3
 nh:hd.length≤4
 cls:∀(i:Nat) (c:bK),cs[i]?=some c→c.name∈nV∧ -1≤c.under∧c.under <i
 names:(cs.map (·.name)).Pairwise fun a b=>cN a b=false
 A3:∀(i:Nat) (x:cq),hd[i]?=some x→x.word∈pR∧iz cs.length hd.length i x
 words:(hd.map (·.word)).Pairwise fun a b=>cN a b=false∧strLt b a=false
def oy(names:List Int)(cs:List bK):Prop:=∀(i:Nat) (c:bK),cs[i]?=some c→(∃y,names[i]?=some y∧nV[y.toNat]?=some c.name)∧ -1≤c.under∧c.under <i
theorem QO{l:List α}{x y:α}(h:(l++[x])[i]?=some y):l[i]?=some y∨(i=l.length∧y=x):=by
 rcases Nat.lt_trichotomy i l.length with h1|h1|h1
 ·rw[List.getElem?_append_left h1] at h;exact .inl h
 ·subst h1;simp at h;exact .inr ⟨rfl,h.symm⟩
 rw[List.getElem?_eq_none (by simp;omega)] at h;cases h
theorem oy.snoc{names:List Int}(h:oy names cs){y u:Int}(h1:names[cs.length]?=some y) (h2:nV[y.toNat]?=some nm) (h3: -1≤u∧u <cs.length):oy names (cs++[⟨nm,u⟩]):=fun i c hc=>by
 rcases QO hc with h4| ⟨rfl,rfl⟩
 ·exact h i c h4
 exact⟨⟨y,h1,h2⟩,h3⟩
def nC(ws:List Int)(nc:Nat)(hv:List bp)(hd:List cq)(Z:Cells)(i:Nat):Prop:=
 (∀ro,Knows ro Z→dg (rV ro) hv hd)∧hd.length=i∧hv.length=i∧(∀(k:Nat) (x:cq),hd[k]?=some x→(∃w,ws[k]?=some w∧pR[w.toNat]?=some x.word)∧iz nc ws.length k x)∧dg de hv hd
theorem nC.snoc{ws:List Int}{hv:List bp}{Z A:Cells}(h:nC ws nc hv hd Z i){hV:bp}{x:cq}{w:Int}(h0:de hV x)(h1:∀ro,Knows ro A→rV ro hV x)(h2:ws[i]?=some w) (h3:pR[w.toNat]?=some x.word) (h4:iz nc ws.length i x):
 nC ws nc (hv++[hV]) (hd++[x]) (A++Z) (i+1):=by
 obtain⟨g1,g2,g3,g4,g5⟩:=h
 refine⟨fun ro hk=>(g1 ro hk.right).snoc (h1 ro hk.left),by simp[g2],by simp[g3],fun k y hy=>?_,g5.snoc h0⟩
 rcases QO hy with h5| ⟨rfl,rfl⟩
 ·exact g4 k y h5
 rw[g2];exact⟨⟨w,h2,h3⟩,h4⟩
theorem ak7{i w:Int}(hi:0≤i∧i <n)(hw:0≤w∧w≤n-2):0≤Int.tmod (i+1+w) n∧Int.tmod (i+1+w) n <n∧Int.tmod (i+1+w) n≠i:=by
 have h1:=Int.tmod_nonneg n (show 0≤i+1+w by omega)
 have h2:=Int.tmod_lt_of_pos (i+1+w) (show 0 <n by omega)
 refine⟨h1,h2,fun h=>?_⟩
 have h3:=Int.tmod_add_mul_tdiv (i+1+w) n
 rw[h] at h3
 have h4:n*(i+1+w).tdiv n=1+w:=by omega
 rcases Int.lt_trichotomy ((i+1+w).tdiv n) 0 with h5|h5|h5
 ·have:n*(i+1+w).tdiv n≤n* -1:=Int.mul_le_mul_of_nonneg_left (by omega) (by omega)
  omega
 ·rw[h5] at h4;omega
 have:n*1≤n*(i+1+w).tdiv n:=Int.mul_le_mul_of_nonneg_left (by omega) (by omega)
 omega
theorem Dp:nV.Pairwise fun a b=>cN a b=false:=by simp only[Aw];decide
theorem U4:pR.Pairwise fun a b=>cN a b=false∧strLt b a=false:=by simp only[Aw,OS];decide
def mj(i:Nat)(k:Nat)(al:List Int):Prop:=al.length≤k∧al.Pairwise (· < ·)∧∀y∈al,0≤y∧y <k∧y≠i
theorem qx{l:List α}{R:α→α→Prop}(h:l.Pairwise R){j:Nat}{a b:α}(Io:i <j)(ha:l[i]?=some a) (hb:l[j]?=some b):R a b:=by
 obtain⟨h1,rfl⟩:=List.getElem?_eq_some_iff.1 ha
 obtain⟨h2,rfl⟩:=List.getElem?_eq_some_iff.1 hb
 exact List.pairwise_iff_getElem.1 h i j h1 h2 Io
theorem acZ{l:List α}{f:α→β}{R:β→β→Prop}(h:∀(i j:Nat) (a b:α),i <j→l[i]?=some a→l[j]?=some b→R (f a) (f b)):(l.map f).Pairwise R:=by
 rw[List.pairwise_map,List.pairwise_iff_getElem]
 exact fun i j hi hj Io=>h i j _ _ Io (List.getElem?_eq_getElem hi) (List.getElem?_eq_getElem hj)
theorem SC{a b:ByteArray}(h:cN a b=false):cN b a=false:=by
 cases h2:cN b a with
 |false=>rfl
 |true=>rw[BS.1 h2,BS.2 rfl] at h;cases h
theorem YF{Mj kY:List Int}{hv:List bp}{Z:Cells}(hc:oy Mj cs)(hp:Mj.Perm (dH nV.length))(hn:0 <cs.length∧cs.length≤3)(hh:nC kY cs.length hv hd Z i)(hi:i=kY.length)(h4:kY.length≤4)(hs:kY.Pairwise (· < ·))(hm:∀x∈kY,0≤x∧x <pR.length):xg cs hd:=by
 obtain⟨g1,g2,g3,g4,_⟩:=hh
 have jH:∀y∈Mj,0≤y∧y <nV.length:=fun y hy=>qv (hp.mem_iff.1 hy)
 have mN:Mj.Pairwise (· ≠·):=(hp.pairwise_iff (fun h=>Ne.symm h)).2 ((sb _).imp fun h=>by omega)
 refine⟨hn,by omega,fun k c hk=>?_,acZ fun a b x y Ft hx hy=>?_,fun k x hk=>?_,acZ fun a b x y Ft hx hy=>?_⟩
 ·obtain⟨⟨y,h1,h2⟩,h3⟩:=hc k c hk
  exact⟨List.mem_of_getElem? h2,h3⟩
 ·obtain⟨⟨p,p1,p2⟩,_⟩:=hc a x hx
  obtain⟨⟨q,q1,q2⟩,_⟩:=hc b y hy
  have Xg:=qx mN Ft p1 q1
  have hp0:=jH p (List.mem_of_getElem? p1)
  have Xf:=jH q (List.mem_of_getElem? q1)
  rcases Nat.lt_trichotomy p.toNat q.toNat with h|h|h
  ·exact qx Dp h p2 q2
  ·exact absurd (show p=q by omega) Xg
  exact SC (qx Dp h q2 p2)
 ·obtain⟨⟨w,h1,h2⟩,h3⟩:=g4 k x hk
  have:hd.length=kY.length:=by omega
  rw[this]
  exact⟨List.mem_of_getElem? h2,h3⟩
 obtain⟨⟨p,p1,p2⟩,_⟩:=g4 a x hx
 obtain⟨⟨q,q1,q2⟩,_⟩:=g4 b y hy
 have Xg:=qx hs Ft p1 q1
 have hp0:=hm p (List.mem_of_getElem? p1)
 exact qx U4 (show p.toNat <q.toNat by omega) p2 q2
theorem mj.step(h:mj i k al):mj i (k+1) al:=⟨by have:=h.1;omega,h.2.1,fun y hy=>by have:=h.2.2 y hy;omega⟩
theorem mj.snoc(h:mj i k al)(hk:(k:Int)≠i):mj i (k+1) (al++[(k:Int)]):=by
 refine⟨by have:=h.1;simp;omega,List.pairwise_append.2 ⟨h.2.1,List.pairwise_singleton _ _,fun a ha b hb=>?_⟩,qV (fun y hy=>by have:=h.2.2 y hy;omega) (by omega)⟩
 rw[List.mem_singleton] at hb;subst hb
 exact(h.2.2 a ha).2.1
theorem afN{r:Int}{w:ByteArray}(h:0≤r∧r <nh∧r≠i)(h4:0 <nc):iz nc nh i ⟨w,-1,r,[]⟩:=
 have h1:=h.1
 have h2:=h.2.1
 have h3:=h.2.2
 ⟨⟨by simp,by simp<;>omega⟩,⟨by simp<;>omega,by simpa using h2,by simpa using h3⟩,⟨by simp,by simp,by simp⟩,fun _=>⟨rfl,rfl⟩,fun h=>by simp at h;omega⟩
theorem Kv{c:Int}{w:ByteArray}(hc:0≤c∧c <nc)(h:mj i k al)(hk:k≤nh)(hi:i <nh):iz nc nh i ⟨w,c,-1,al⟩:=
 ⟨⟨by simp<;>omega,by simpa using hc.2⟩,⟨by simp,by simp<;>omega,by simp<;>omega⟩,⟨by have:=h.1;simp<;>omega,h.2.1,fun y hy=>by have:=h.2.2 y hy;simp<;>omega⟩,fun hh=>by simp at hh,fun _ hh=>by simp at hh;omega⟩
theorem afP{w:ByteArray}(h:mj i k al)(hk:k≤nh)(hi:i <nh)(eB:(al.length:Int)>0):iz nc nh i ⟨w,-1,-1,al⟩:=
 ⟨⟨by simp,by simp<;>omega⟩,⟨by simp,by simp<;>omega,by simp<;>omega⟩,⟨by have:=h.1;simp<;>omega,h.2.1,fun y hy=>by have:=h.2.2 y hy;simp<;>omega⟩,fun hh=>by simp at hh,fun _ _ hh=>by simp at hh;subst hh;simp at eB⟩
set_option maxHeartbeats 1000000 in
theorem am3 {ro:Nat→Option Obj} (hN:Dn ro vd xs) (hD:bH vd xs d X):eS zT 25 [zP d,zI 3,zI 4] ro X (fun r Y=>∃(cs:List bK) (hv:List bp) (hd:List cq) (vc vh:Value) (Z X':Cells),r= .agg ⟨[vc,vh]⟩∧xg cs hd∧dg de hv hd∧(∀aF,Knows aF Z→jM aF vc vh cs hv hd)∧Y=Z++X'∧bH vd xs d X'):=by
 refine bC au [.l X] [] bu<|zD 2<|jn fun b6=>zD 3<|jn fun b7=>zD 4<|jc [] (aej) ?_
 rintro v16 L16 ⟨_,aQ4,rfl⟩
 refine Fe aQ4<|jc (vs:=[zP d,zI (nV.length:Int)]) [3] (ahY hN hD (by first|omega|decide)) ?_
 rintro v18 _ ⟨Mj,L18,X18,ZX,Qk,rfl,M8⟩
 refine jg 0 [.l L18,.l X18]<|zD 7<|jc (vs:=[zP d,zI 1,zI 3]) [1] (Bj hN M8 (by omega) (by omega)) ?_
 rintro _ X21 ⟨w21,rfl,alW,qF,aUg⟩
 refine zD 3<|py<|eO [1,1,1,0,1,0,0] [] (fun(zz:Int×Value×Cells×(List bK)×Cells)=>[(0,zP d),(2,zI 4),(6,zP b6),(7,zP b7),(8,v18),(9,zI zz.1)]) (fun(zz:Int×Value×Cells×(List bK)×Cells)=>[.l zz.2.2.1,.l zz.2.2.2.2,.b b7 (.cells ⟨[zz.2.1,zS]⟩ 33 (0,0)),.l L18,.b b6 (.cells ⟨[zS,zS]⟩ 33 (0,0))]) (fun(zz:Int×Value×Cells×(List bK)×Cells)=>(0≤zz.1∧zz.2.2.2.1.length+zz.1=w21)∧ax zz.2.1 2 130 pG zz.2.2.2.1 zz.2.2.1∧oy Mj zz.2.2.2.1∧bH vd xs d zz.2.2.2.2) (fun(zz:Int×Value×Cells×(List bK)×Cells)=>zz.1.toNat) (⟨w21,zS,[],[],X21⟩) ⟨by simp only[List.length_nil];omega,ax.nil _ _ _,(fun i c h=>by simp at h),aUg⟩ [0,1,4,2,5] ?_
 rintro⟨j,vC,LC,cs,X⟩ hI K1 bG rest
 dsimp only at hI
 have hlen:Mj.length=9:=by rw[Qk.length_eq,mv];rfl
 refine zD 6<|zJ 23 (j>0) (fun h1=>?_) fun h1=>?_
 ·
  refine jd 10 [2,2]<|Fe hI.2.1 ?_
  obtain⟨x33,aeE⟩:=zG Mj (cs.length)
  refine jxo 1 ZX aeE fun b33 aS0=>px 0 [3] L18 (fun s _ hZ=>cD ZX aS0 hZ aeE)<|jd 3 [2]<|Fe hI.2.1<|ja ((cs.length:Int)-1) (by omega)<|aD 2 fun BK BR A6=>jc [] (aej) ?_
  rintro v28 L28 ⟨_,aCn,rfl⟩
  refine ba A6 [1,2,3,4,5] ?_
  obtain⟨x35,TO⟩:=zG nV (x33.toNat) (by have:=qv (Qk.mem_iff.1 (List.mem_of_getElem? aeE));omega)
  refine qD x33 1 aCn TO (Int.toNat_of_nonneg (show 0≤x33∧x33 <((nV).length:Int) from (qv (Qk.mem_iff.1 (List.mem_of_getElem? aeE)))).1).symm fun b35 aSY=>px 0 [0] L28 (fun s _ hZ=>cD aCn aSY hZ TO)<|aD 16 fun rZ r8 qL=>jc (vs:=[zP d,zI (-1),zI ((cs.length:Int)-1)]) [2] (Bj hN hI.2.2.2 (by omega) (by omega)) ?_
  rintro _ X42 ⟨w42,rfl,bed,TN,aUa⟩
  refine iB qL [[1],[3],[4],[3],[3]]<|zD 1<|aD 18 fun sN sU ri=>jn fun dD=>ba ri [1,2,3,4,5,6]<|aD 19 fun Aj Av A5=>jE (sz:=2) (ps:=cs) (qs:=[(⟨x35,w42⟩:bK)]) (enc:=pG) (w:= .slice (some ⟨dD,0,none⟩) 1 1) [3] [0] [(dD,.cells ⟨([(⟨x35,w42⟩:bK)].map pG).flatten⟩ 130 (0,0))] (hI.2.1) (fun s _ hZ=>bS [(⟨x35,w42⟩:bK)] (hZ _ (.head _)) (by intro p hp;rfl)) (fun p _=>ai rfl) (by simp<;>omega) (fun v45 L45 ae9=>?_)
  obtain⟨YC,Yy,afR⟩:=ae9.form
  subst afR
  refine iB A5 [[3],[4],[5],[4]]<|zD 1<|aD 21 fun Yt YH Uq=>jd 1 [4]<|cw Uq<|zD 3<|ja (j-1) (by omega)<|zD 2<|bF bG (⟨j-1,(.slice YC ((cs++[(⟨x35,w42⟩:bK)])).length Yy),L45,(cs++[(⟨x35,w42⟩:bK)]),X42⟩) ⟨by simp only[List.length_append,List.length_cons,List.length_nil];omega,ae9,oy.snoc hI.2.2.1 aeE TO (by omega),aUa⟩ (by omega) [0,2,4,5,6] (Sub.refl _)
 refine zD 5<|jc [] (aew) ?_
 rintro v48 L48 ⟨_,aQV,rfl⟩
 refine Fe aQV<|zD 2<|jc (vs:=[zP d,zI 4]) [2] (EN hN hI.2.2.2 (by omega)) ?_
 rintro _ X52 ⟨w52,rfl,bec,wE,aT9⟩
 refine jc (vs:=[zP d,zI (pR.length:Int),zI w52]) [0] (aGZ hN aT9 (by first|omega|decide)) ?_
 rintro v53 _ ⟨kY,L53,X53,atV,be8,wG,afx,rfl,amD⟩
 refine jg 0 [.l L53,.l X53]<|zD 5<|Fe atV<|zD 8<|py<|py<|eO [1,1,1,1,1,1,0,1,0,0] [] (fun(zz:Nat×Value×Cells×(List bp)×(List cq)×Cells×Cells)=>[(0,zP d),(6,zP b6),(7,zP b7),(10,v53),(11,zI (kY.length:Int)),(12,zI (zz.1:Int))]) (fun(zz:Nat×Value×Cells×(List bp)×(List cq)×Cells×Cells)=>[.l zz.2.2.1,.l zz.2.2.2.2.2.1,.l zz.2.2.2.2.2.2,.l LC,.b b7 (.cells ⟨[vC,zz.2.1]⟩ 33 (0,0)),.l L53,.b b6 (.cells ⟨[zS,zS]⟩ 33 (0,0))]) (fun(zz:Nat×Value×Cells×(List bp)×(List cq)×Cells×Cells)=>zz.1≤kY.length∧ax zz.2.1 4 133 mP zz.2.2.2.1 zz.2.2.1∧nC kY cs.length zz.2.2.2.1 zz.2.2.2.2.1 zz.2.2.2.2.2.1 zz.1∧bH vd xs d zz.2.2.2.2.2.2) (fun(zz:Nat×Value×Cells×(List bp)×(List cq)×Cells×Cells)=>kY.length-zz.1) (⟨0,zS,[],[],[],[],X53⟩) ⟨by omega,ax.nil _ _ _,⟨fun _ _=> .nil,rfl,rfl,(fun k x h=>by simp at h),.nil⟩,amD⟩ [1,0,3,5,6,2,8] ?_
 rintro⟨i,vH,LH,hv,hd,Z,X⟩ hJ K7 hK7 rest
 dsimp only at hJ
 have hll:=hJ.2.2.1.2.2.1
 have Qj:kY.length≤4:=by omega
 have iZ:cs.length≤3:=by omega
 refine zD 7<|zJ 58 ((i:Int) <(kY.length:Int)) (fun h7=>?_) fun h7=>?_
 ·
  refine zD 5<|Ff [1,1,1,1,1,1,0,1,0,0,1,0,0,1] [K7] (fun(zz:Nat×Int×Int×ByteArray×Cells)=>[(0,zP d),(6,zP b6),(7,zP b7),(10,v53),(11,zI (kY.length:Int)),(12,zI (i:Int)),(13,zP zz.1)]) (fun(zz:Nat×Int×Int×ByteArray×Cells)=>[.b zz.1 (.cells ⟨[.string zz.2.2.2.1,zI zz.2.1,zI (-1),zS]⟩ 133 (0,0)),.l LH,.l Z,.l zz.2.2.2.2,.l LC,.b b7 (.cells ⟨[vC,vH]⟩ 33 (0,0)),.l L53,.b b6 (.cells ⟨[zS,zS]⟩ 33 (0,0))]) (fun(zz:Nat×Int×Int×ByteArray×Cells)=>kY[i]?=some zz.2.2.1∧pR[zz.2.2.1.toNat]?=some zz.2.2.2.1∧(0≤zz.2.1∧zz.2.1 <cs.length)∧bH vd xs d zz.2.2.2.2) ?_ (fun K8 hK8=>?_)
  ·
   rintro⟨Ah,w,y,x,X⟩ R6 rest
   dsimp only at R6
   refine zD 2<|Ff [1,1,1,1,1,1,0,1,0,0,1,0,0,1,0,1] [K7] (fun(zz:Bool×Cells)=>[(0,zP d),(6,zP b6),(7,zP b7),(10,v53),(11,zI (kY.length:Int)),(12,zI (i:Int)),(13,zP Ah),(80,.bool zz.1)]) (fun(zz:Bool×Cells)=>[.b Ah (.cells ⟨[.string x,zI w,zI (-1),zS]⟩ 133 (0,0)),.l LH,.l Z,.l zz.2,.l LC,.b b7 (.cells ⟨[vC,vH]⟩ 33 (0,0)),.l L53,.b b6 (.cells ⟨[zS,zS]⟩ 33 (0,0))]) (fun(zz:Bool×Cells)=>(zz.1=true→1 <kY.length)∧bH vd xs d zz.2) ?_ (fun K9 hK9=>?_)
   ·
    rintro⟨q,X⟩ hJ3 rest
    dsimp only at hJ3
    refine js 80 q (fun h8=>?_) (fun h8=>?_)
    ·
     subst h8
     have hgt:=hJ3.1 rfl
     refine zD 4<|ja ((i:Int)+1) (by omega)<|zD 2<|ja ((kY.length:Int)-2) (by omega)<|zD 2<|aD 5 fun FA FQ wJ=>jc (vs:=[zP d,zI ((kY.length:Int)-2)]) [3] (EN hN hJ3.2 (by omega)) ?_
     rintro _ X86 ⟨w86,rfl,bea,bd1,aT3⟩
     refine iB wJ []<|ja (((i:Int)+1)+w86) (by omega)<|jrm (k:= .i64) (a:=(((i:Int)+1)+w86)) (b:=(kY.length:Int)) 3 (by omega)<|aD 10 fun Jp Ju zh=>jd 1 [1]<|iB zh []<|zD 1<|aD 12 fun Oj OH CN=>jd 1 [1]<|cw CN<|jd 6 [5,1]<|jn fun b95=>jE (sz:=4) (ps:=hv) (qs:=[(⟨x,(-1),(Int.tmod (((i:Int)+1)+w86) (kY.length:Int)),zS⟩:bp)]) (enc:=mP) (w:= .slice (some ⟨b95,0,none⟩) 1 1) [3] [0] [(b95,.cells ⟨([(⟨x,(-1),(Int.tmod (((i:Int)+1)+w86) (kY.length:Int)),zS⟩:bp)].map mP).flatten⟩ 133 (0,0))] (hJ.2.1) (fun s _ hZ=>bS [(⟨x,(-1),(Int.tmod (((i:Int)+1)+w86) (kY.length:Int)),zS⟩:bp)] (hZ _ (.head _)) (by intro p hp;rfl)) (by intro p hp;rw[List.mem_singleton] at hp;subst hp;exact ai rfl) (by simp<;>omega) (fun v96 L96 ae2=>?_)
     obtain⟨aLJ,aLr,aRZ⟩:=ae2.form
     subst aRZ
     refine jd 6 [6]<|ja ((i:Int)+1) (by omega)<|zD 2<|bF hK7 (⟨i+1,(.slice aLJ ((hv++[(⟨x,(-1),(Int.tmod (((i:Int)+1)+w86) (kY.length:Int)),zS⟩:bp)])).length aLr),L96,(hv++[(⟨x,(-1),(Int.tmod (((i:Int)+1)+w86) (kY.length:Int)),zS⟩:bp)]),_,Z,X86⟩) ⟨by omega,ae2,(by have:=nC.snoc (A:=[]) hJ.2.2.1 (h0:=⟨rfl,rfl,rfl⟩) (hV:=⟨x,-1,(Int.tmod (((i:Int)+1)+w86) (kY.length:Int)),zS⟩) (x:=⟨x,-1,(Int.tmod (((i:Int)+1)+w86) (kY.length:Int)),[]⟩) (fun ro _=>⟨rfl,rfl,rfl,bE.nil _ _ _ _ _⟩) R6.1 R6.2.1 (afN (ak7 ⟨by omega,by omega⟩ ⟨by omega,by omega⟩) (by omega));simpa only[List.nil_append] using this),aT3⟩ (by omega) [0,4,2,5,6,7,8] (Sub.refl _)
    subst h8
    refine zD 8<|py<|eO [1,1,1,1,1,1,0,1,0,0,1,0,0,1,1,0,1,0,0] [K7] (fun(zz:Nat×Value×Cells×(List Int)×Cells)=>[(0,zP d),(6,zP b6),(7,zP b7),(10,v53),(11,zI (kY.length:Int)),(12,zI (i:Int)),(13,zP Ah),(14,zI (zz.1:Int))]) (fun(zz:Nat×Value×Cells×(List Int)×Cells)=>[.l zz.2.2.1,.l zz.2.2.2.2,.b Ah (.cells ⟨[.string x,zI w,zI (-1),zz.2.1]⟩ 133 (0,0)),.l LH,.l Z,.l LC,.b b7 (.cells ⟨[vC,vH]⟩ 33 (0,0)),.l L53,.b b6 (.cells ⟨[zS,zS]⟩ 33 (0,0))]) (fun(zz:Nat×Value×Cells×(List Int)×Cells)=>(zz.1≤kY.length∧zz.2.2.2.1.length≤zz.1)∧ax zz.2.1 1 3 cT zz.2.2.2.1 zz.2.2.1∧mj i zz.1 zz.2.2.2.1∧bH vd xs d zz.2.2.2.2) (fun(zz:Nat×Value×Cells×(List Int)×Cells)=>kY.length-zz.1) (⟨0,zS,[],[],X⟩) ⟨by simp,ax.nil _ _ _,⟨by simp,by simp,by simp⟩,hJ3.2⟩ [0,4,1,2,3,5,6,7,8] ?_
    rintro⟨k,vA,LA,al,X⟩ hK K13 M6 rest
    dsimp only at hK
    obtain⟨qa,qc,rfl⟩:=hK.2.1.form
    refine zD 7<|zJ 100 ((k:Int) <(kY.length:Int)) (fun DL=>?_) fun DL=>?_
    ·
     refine zD 10<|js 106 (!decide ((k:Int)=(i:Int))) (fun BH=>?_) (fun BH=>?_)
     ·
      have ag9:=BH
      replace ag9:=of_decide_eq_false (by simpa using ag9)
      refine zD 1<|jc (vs:=[zP d,zI 4]) [1] (tF hN hK.2.2.2 (by omega)) ?_
      rintro _ aHM ⟨aLp,rfl,apD⟩
      refine zD 2<|js 109 aLp (fun h14=>?_) (fun h14=>?_)
      ·
       subst h14
       refine jd 5 [2]<|jn fun aHt=>jE (sz:=1) (ps:=al) (qs:=[(k:Int)]) (enc:=cT) (w:= .slice (some ⟨aHt,0,none⟩) 1 1) [2] [0] [(aHt,.cells ⟨([(k:Int)].map cT).flatten⟩ 3 (0,0))] (hK.2.1) (fun s _ hZ=>bS [(k:Int)] (hZ _ (.head _)) (by intro p hp;rfl)) (fun p _=>ai rfl) (by simp<;>omega) (fun bbS aV4 Xk=>?_)
       obtain⟨ayL,ayw,aDg⟩:=Xk.form
       subst aDg
       refine jd 5 [3]<|ja ((k:Int)+1) (by omega)<|zD 2<|bF M6 (⟨k+1,(.slice ayL ((al++[(k:Int)])).length ayw),aV4,(al++[(k:Int)]),aHM⟩) ⟨by simp only[List.length_append,List.length_cons,List.length_nil];omega,Xk,mj.snoc hK.2.2.1 (by omega),apD⟩ (by omega) [0,2,3,4,5,6,7,8,9] (Sub.refl _)
      subst h14
      refine zD 4<|ja ((k:Int)+1) (by omega)<|zD 2<|bF M6 (⟨k+1,(.slice qa al.length qc),LA,al,aHM⟩) ⟨by dsimp only;omega,hK.2.1,mj.step hK.2.2.1,apD⟩ (by omega) [1,0,2,3,4,5,6,7,8] (Sub.refl _)
     have ag9:=BH
     replace ag9:=of_decide_eq_true (by simpa using ag9)
     refine zD 8<|ja ((k:Int)+1) (by omega)<|zD 2<|bF M6 (⟨k+1,(.slice qa al.length qc),LA,al,X⟩) ⟨by dsimp only;omega,hK.2.1,mj.step hK.2.2.1,hK.2.2.2⟩ (by omega) [0,1,2,3,4,5,6,7,8] (Sub.refl _)
    refine jd 10 [2]<|js 120 (decide ((al.length:Int)>0)) (fun Nb=>?_) (fun Nb=>?_)
    ·
     have Hm:=Nb
     replace Hm:=of_decide_eq_true Hm
     refine zD 1<|jc (vs:=[zP d,zI 4]) [1] (tF hN hK.2.2.2 (by omega)) ?_
     rintro _ aHL ⟨aLm,rfl,apC⟩
     refine zD 2<|js 123 aLm (fun Na=>?_) (fun Na=>?_)
     ·
      subst Na
      refine jd 9 [2,6,2]<|jn fun NJ=>jE (sz:=4) (ps:=hv) (qs:=[(⟨x,(-1),-1,(.slice qa al.length qc)⟩:bp)]) (enc:=mP) (w:= .slice (some ⟨NJ,0,none⟩) 1 1) [4] [0] [(NJ,.cells ⟨([(⟨x,(-1),-1,(.slice qa al.length qc)⟩:bp)].map mP).flatten⟩ 133 (0,0))] (hJ.2.1) (fun s _ hZ=>bS [(⟨x,(-1),-1,(.slice qa al.length qc)⟩:bp)] (hZ _ (.head _)) (by intro p hp;rfl)) (by intro p hp;rw[List.mem_singleton] at hp;subst hp;exact ai rfl) (by simp<;>omega) (fun ayP aiN rG=>?_)
      obtain⟨Ox,Ov,QC⟩:=rG.form
      subst QC
      refine jd 5 [7]<|ja ((i:Int)+1) (by omega)<|zD 2<|Km hK7 (⟨i+1,(.slice Ox ((hv++[(⟨x,(-1),-1,(.slice qa al.length qc)⟩:bp)])).length Ov),aiN,(hv++[(⟨x,(-1),-1,(.slice qa al.length qc)⟩:bp)]),_,LA++Z,aHL⟩) ⟨by omega,rG,nC.snoc (A:=LA) hJ.2.2.1 (h0:=⟨rfl,rfl,rfl⟩) (x:=⟨x,_,-1,al⟩) (fun ro hk=>⟨rfl,rfl,rfl,hK.2.1.lR hk⟩) R6.1 R6.2.1 (afP hK.2.2.1 (by omega) (by omega) (by assumption)),apC⟩ (by omega) [[0],[3,5],[2],[6],[7],[8],[9]] (Sub.refl _)
     subst Na
     refine jd 6 [6,2]<|jn fun NJ=>jE (sz:=4) (ps:=hv) (qs:=[(⟨x,w,-1,(.slice qa al.length qc)⟩:bp)]) (enc:=mP) (w:= .slice (some ⟨NJ,0,none⟩) 1 1) [4] [0] [(NJ,.cells ⟨([(⟨x,w,-1,(.slice qa al.length qc)⟩:bp)].map mP).flatten⟩ 133 (0,0))] (hJ.2.1) (fun s _ hZ=>bS [(⟨x,w,-1,(.slice qa al.length qc)⟩:bp)] (hZ _ (.head _)) (by intro p hp;rfl)) (by intro p hp;rw[List.mem_singleton] at hp;subst hp;exact ai rfl) (by simp<;>omega) (fun ayP aiN rG=>?_)
     obtain⟨Ox,Ov,QC⟩:=rG.form
     subst QC
     refine jd 5 [7]<|ja ((i:Int)+1) (by omega)<|zD 2<|Km hK7 (⟨i+1,(.slice Ox ((hv++[(⟨x,w,-1,(.slice qa al.length qc)⟩:bp)])).length Ov),aiN,(hv++[(⟨x,w,-1,(.slice qa al.length qc)⟩:bp)]),_,LA++Z,aHL⟩) ⟨by omega,rG,nC.snoc (A:=LA) hJ.2.2.1 (h0:=⟨rfl,rfl,rfl⟩) (x:=⟨x,_,-1,al⟩) (fun ro hk=>⟨rfl,rfl,rfl,hK.2.1.lR hk⟩) R6.1 R6.2.1 (Kv (by omega) hK.2.2.1 (by omega) (by omega)),apC⟩ (by omega) [[0],[3,5],[2],[6],[7],[8],[9]] (Sub.refl _)
    have Hm:=Nb
    replace Hm:=of_decide_eq_false Hm
    refine jd 10 [6,2]<|jn fun NJ=>jE (sz:=4) (ps:=hv) (qs:=[(⟨x,w,-1,(.slice qa al.length qc)⟩:bp)]) (enc:=mP) (w:= .slice (some ⟨NJ,0,none⟩) 1 1) [4] [0] [(NJ,.cells ⟨([(⟨x,w,-1,(.slice qa al.length qc)⟩:bp)].map mP).flatten⟩ 133 (0,0))] (hJ.2.1) (fun s _ hZ=>bS [(⟨x,w,-1,(.slice qa al.length qc)⟩:bp)] (hZ _ (.head _)) (by intro p hp;rfl)) (by intro p hp;rw[List.mem_singleton] at hp;subst hp;exact ai rfl) (by simp<;>omega) (fun ayP aiN rG=>?_)
    obtain⟨Ox,Ov,QC⟩:=rG.form
    subst QC
    refine jd 5 [7]<|ja ((i:Int)+1) (by omega)<|zD 2<|Km hK7 (⟨i+1,(.slice Ox ((hv++[(⟨x,w,-1,(.slice qa al.length qc)⟩:bp)])).length Ov),aiN,(hv++[(⟨x,w,-1,(.slice qa al.length qc)⟩:bp)]),_,LA++Z,X⟩) ⟨by omega,rG,nC.snoc (A:=LA) hJ.2.2.1 (h0:=⟨rfl,rfl,rfl⟩) (x:=⟨x,_,-1,al⟩) (fun ro hk=>⟨rfl,rfl,rfl,hK.2.1.lR hk⟩) R6.1 R6.2.1 (Kv (by omega) hK.2.2.1 (by omega) (by omega)),hK.2.2.2⟩ (by omega) [[0],[2,5],[3],[6],[7],[8],[9]] (Sub.refl _)
   refine zD 4<|js 77 (decide ((kY.length:Int)>1)) (fun h17=>?_) (fun h17=>?_)
   ·
    have wL:=h17
    replace wL:=of_decide_eq_true wL
    refine zD 1<|jc (vs:=[zP d,zI 3]) [3] (tF hN R6.2.2.2 (by omega)) ?_
    rintro _ X79 ⟨w79,rfl,aT5⟩
    refine zD 2<|bF hK9 ⟨w79,X79⟩ ⟨fun _=>by omega,aT5⟩ Nat.zero_lt_one [1,2,3,0,4,5,6,7] (Sub.refl _)
   have wL:=h17
   replace wL:=of_decide_eq_false wL
   refine zD 4<|bF hK9 ⟨false,X⟩ ⟨(fun h=>by cases h),R6.2.2.2⟩ Nat.zero_lt_one [0,1,2,3,4,5,6,7] (Sub.refl _)
  refine zD 3 ?_
  obtain⟨x64,MG⟩:=zG kY i
  refine jxo 1 atV MG fun b64 aSO=>px 0 [5] L53 (fun s _ hZ=>cD atV aSO hZ MG)<|jd 3 [4]<|Fe hI.2.1<|ja ((cs.length:Int)-1) (by omega)<|lJ [0,14] ⟨fun z14 t15 QI=>?_,fun z17 t18 agw=>?_,trivial⟩
  ·
   refine jc [] (aew) ?_
   rintro v61 L61 ⟨_,afn,rfl⟩
   refine ba QI [1,2,3,4,5,6,7] ?_
   obtain⟨x66,GN⟩:=zG pR (x64.toNat) (by have:=afx _ (List.mem_of_getElem? MG);omega)
   refine qD x64 1 afn GN (Int.toNat_of_nonneg (show 0≤x64∧x64 <((pR).length:Int) from (afx _ (List.mem_of_getElem? MG))).1).symm fun b66 avd=>px 0 [0] L61 (fun s _ hZ=>cD afn avd hZ GN)<|lJ [12,14] ⟨fun z20 t21 agv=>?_,fun z23 t24 UA=>?_,trivial⟩
   ·
    refine jc (vs:=[zP d,zI ((cs.length:Int)-1)]) [3] (EN hN hJ.2.2.2 (by omega)) ?_
    rintro _ X73 ⟨w73,rfl,aBG,ZL,agH⟩
    refine iB agv [[1],[5],[6]]<|zD 1<|aD 14 fun anQ aoj EI=>jn fun Ah=>ba EI [1,2,3,4,5,6,7,8]<|aD 15 fun Vx VN M3=>jd 1 [0]<|cw M3<|zD 1<|bF hK8 ⟨Ah,w73,_,x66,X73⟩ ⟨MG,GN,(by dsimp only;omega),agH⟩ Nat.zero_lt_one [0,3,4,1,5,6,7,8] (Sub.refl _)
   refine jn fun Ah=>ba UA [1,2,3,4,5,6,7,8]<|aD 12 fun Vw VM Hi=>jc (vs:=[zP d,zI ((cs.length:Int)-1)]) [4] (EN hN hJ.2.2.2 (by omega)) ?_
   rintro _ X73 ⟨w73,rfl,aBG,ZL,agH⟩
   refine iB Hi [[2],[6],[7]]<|zD 1<|aD 15 fun Oi OG CL=>jd 1 [1]<|cw CL<|zD 1<|bF hK8 ⟨Ah,w73,_,x66,X73⟩ ⟨MG,GN,(by dsimp only;omega),agH⟩ Nat.zero_lt_one [1,3,4,0,5,6,7,8] (Sub.refl _)
  refine jn fun Ah=>ba agw [1,2,3,4,5,6,7]<|aD 0 fun Vv VL M1=>jc [] (aew) ?_
  rintro v61 L61 ⟨_,afn,rfl⟩
  refine ba M1 [1,2,3,4,5,6,7,8] ?_
  obtain⟨x66,GN⟩:=zG pR (x64.toNat) (by have:=afx _ (List.mem_of_getElem? MG);omega)
  refine qD x64 1 afn GN (Int.toNat_of_nonneg (show 0≤x64∧x64 <((pR).length:Int) from (afx _ (List.mem_of_getElem? MG))).1).symm fun b66 avd=>px 0 [0] L61 (fun s _ hZ=>cD afn avd hZ GN)<|aD 12 fun abm ab4 QH=>jc (vs:=[zP d,zI ((cs.length:Int)-1)]) [4] (EN hN hJ.2.2.2 (by omega)) ?_
  rintro _ X73 ⟨w73,rfl,aBG,ZL,agH⟩
  refine iB QH [[1],[6],[7]]<|zD 1<|aD 15 fun anP aoi Uz=>jd 1 [2]<|cw Uz<|zD 1<|bF hK8 ⟨Ah,w73,_,x66,X73⟩ ⟨MG,GN,(by dsimp only;omega),agH⟩ Nat.zero_lt_one [2,3,4,0,5,6,7,8] (Sub.refl _)
 refine jd 5 [4] ?_
 obtain⟨abO,abH,afV⟩:=hI.2.1.form
 subst afV
 obtain⟨aLT,aLB,aSf⟩:=hJ.2.1.form
 subst aSf
 refine jd 3 [6]<|aH q0 (.agg ⟨[(.slice abO (cs).length abH),(.slice aLT (hv).length aLB)]⟩) [6] [3,0,1,2] (LC++(LH++(Z++X))) (Sub.refl _) ⟨_,_,rfl,rfl,cs,hv,hd,_,_,LC++(LH++Z),X,rfl,YF hI.2.2.1 Qk (by omega) hJ.2.2.1 (by omega) (by omega) wG afx,hJ.2.2.1.2.2.2.2,fun aB hk=>⟨hI.2.1.lR hk.left,hJ.2.1.lR hk.right.left,hJ.2.2.1.1 aB hk.right.right⟩,by simp only[List.append_assoc],hJ.2.2.2⟩
abbrev gJ(x:Value):List Value:=[x]
structure ah where
 n:Int
 l:Int
abbrev cE(x:ah):List Value:=[zI x.n,zI x.l]
def akJ(x y:ah):Prop:=x.n <y.n∨(x.n=y.n∧x.l <y.l)
def By(x:ah):Prop:=(1≤x.n∧x.n≤9)∧0≤x.l∧x.l≤4
structure fF(S:List (List ah)):Prop where
 two:S.length=2
 len:∀l∈S,l.length≤4
 ok:∀l∈S,∀x∈l,By x
 asc:∀l∈S,l.Pairwise akJ
def yS:List (List ah):=[[⟨1,0⟩,⟨2,0⟩],[⟨1,0⟩,⟨3,0⟩]]
def cP(ro:Nat→Option Obj)(v:Value)(S:List (List ah)):Prop:=∃ws,bE ro v 1 gJ ws∧dg (fun w l=>bE ro w 2 cE l) ws S
def ou(ro:Nat→Option Obj)(v:Value)(ways:List (List aM)):Prop:=∃ws,bE ro v 1 gJ ws∧dg (fun w l=>bE ro w 7 lj l) ws ways
theorem cP.up{ro:Nat→Option Obj}{v:Value}{S:List (List ah)}(h:cP ro v S)(hs:Sub ro aF):cP aF v S:=by
 obtain⟨ws,h1,h2⟩:=h
 exact⟨ws,h1.up hs,h2.imp fun _ _ k=>k.up hs⟩
theorem ou.up{ro:Nat→Option Obj}{v:Value}{w:List (List aM)}(h:ou ro v w)(hs:Sub ro aF):ou aF v w:=by
 obtain⟨ws,h1,h2⟩:=h
 exact⟨ws,h1.up hs,h2.imp fun _ _ k=>k.up hs⟩
theorem jM.up{ro:Nat→Option Obj}{hv:List bp}(h:jM ro vc vh cs hv hd)(hs:Sub ro aF):jM aF vc vh cs hv hd:=
 ⟨h.1.up hs,h.2.1.up hs,h.2.2.imp fun _ _ k=>⟨k.1,k.2.1,k.2.2.1,k.2.2.2.up hs⟩⟩
structure aP where
 ways:List (List aM)
 cs:List bK
 hd:List cq
 rules:List cM
 before:List aI
 after:List aI
 gone:Int
 new:Int
 af:Int
 facts:List ez
 str:List (List ah)
def gF(ro:Nat→Option Obj)(l:List Value)(k:aP):Prop:=∃(vS vT vc vh vr vb va vf:Value) (fa:Option Addr) (fc:Nat) (hv:List bp),
 l=[vS,vT,.slice fa 0 fc,vc,vh,vr,vb,va,zI k.gone,zI k.new,zI k.af,vf]∧cP ro vS k.str∧ou ro vT k.ways∧jM ro vc vh k.cs hv k.hd∧dg de hv k.hd∧
 bE ro vr 2 iW k.rules∧bE ro vb 5 eT k.before∧bE ro va 5 eT k.after∧bE ro vf 3 lP k.facts
def ox(hd:List cq)(i:Int):Prop:=i= -1∨(0≤i∧∃x,hd[i.toNat]?=some x∧0≤x.cls)
def Bz(hd:List cq)(p:aI):Prop:=NQ p.name∧ox hd p.head∧(0≤p.st∧p.st≤1)∧p.bold=false
def aiG(hd:List cq)(p:aI):Prop:=Bz hd p∧(p.st=0→p.no=1∨p.no=2)∧(p.st=1→p.no=1∨p.no=3)
def aiH(hd:List cq)(p:aI):Prop:=Bz hd p∧1≤p.no∧p.no≤3
def Fy(hd:List cq)(p:aI):Prop:=((1≤p.name.size∧p.name.size≤6)∧Script p.name)∧ox hd p.head∧(0≤p.st∧p.st≤1)∧p.bold=false
def anu(S:List (List ah))(hd:List cq)(p:aI):Prop:=Fy hd p∧∃l,S[p.st.toNat]?=some l∧(⟨p.no,0⟩:ah)∈l
def aHP(hd:List cq)(p:aI):Prop:=Fy hd p∧1≤p.no∧p.no≤40
structure Yn(cs:List bK)(hd:List cq):Prop where
 nc:0 <cs.length∧cs.length≤6
 nh:hd.length≤6
 A3:∀(i:Nat) (x:cq),hd[i]?=some x→iz cs.length hd.length i x
structure mH(k:aP):Prop where
 qy:fF k.str
 ways:k.ways.length≤1∧∀l∈k.ways,(1≤l.length∧l.length≤2)∧∀c∈l,jT c
 dP:Yn k.cs k.hd
 rules:k.rules.length≤4
 before:k.before.length≤4∧∀p∈k.before,anu k.str k.hd p
 after:k.after.length≤4∧∀p∈k.after,aHP k.hd p
 y3:(0≤k.gone∧k.gone≤4)∧(0≤k.new∧k.new≤4)∧(0≤k.af∧k.af≤4)
 facts:k.facts.length≤4∧(∀x∈k.facts,(0≤x.a∧x.a <k.before.length)∧(0≤x.b∧x.b <k.after.length))
 apart:k.facts.Pairwise fun x y=>¬(x.a=y.a∧x.b=y.b)
structure RB(k:aP):Prop where
 ways:k.ways.length≤1∧∀l∈k.ways,(1≤l.length∧l.length≤2)∧∀c∈l,jT c
 dP:xg k.cs k.hd
 rules:k.rules.length≤2∧∀r∈k.rules,H5 r
 before:k.before.length≤4∧∀p∈k.before,aiG k.hd p
 after:k.after.length≤4∧∀p∈k.after,aiH k.hd p
 y3:(0≤k.gone∧k.gone≤4)∧(0≤k.new∧k.new≤4)∧(0≤k.af∧k.af≤4)
 facts:k.facts.length≤4∧(∀x∈k.facts,(0≤x.a∧x.a <k.before.length)∧(0≤x.b∧x.b <k.after.length))
 apart:k.facts.Pairwise fun x y=>¬(x.a=y.a∧x.b=y.b)
 str:k.str=yS
theorem Zm:fF yS where
 two:=rfl
 len:=by simp[yS]
 ok:=by simp[yS,By]
 asc:=by simp[yS,akJ]
theorem Bz.c{p:aI}(h:Bz hd p):Fy hd p:=⟨⟨⟨h.1.1.1,by have:=h.1.1.2;omega⟩,h.1.2⟩,h.2⟩
theorem RB.c{k:aP}(h:RB k):mH k where
 qy:=by rw[h.str];exact Zm
 ways:=h.ways
 dP:=⟨⟨h.dP.nc.1,by have:=h.dP.nc.2;omega⟩,by have:=h.dP.nh;omega,fun i x hx=>(h.dP.A3 i x hx).2⟩
 rules:=by have:=h.rules.1;omega
 before:=⟨by have:=h.before.1;omega,fun p hp=>by
  obtain⟨h1,h2,h3⟩:=h.before.2 p hp
  refine⟨h1.c,?_⟩
  rw[h.str]
  have h4:=h1.2.2.1
  rcases(by omega:p.st=0∨p.st=1) with e|e
  ·rw[e];exact⟨_,rfl,by rcases h2 e with e2|e2<;>simp[e2]⟩
  rw[e];exact⟨_,rfl,by rcases h3 e with e2|e2<;>simp[e2]⟩⟩
 after:=⟨by have:=h.after.1;omega,fun p hp=>by
  obtain⟨h1,h2,h3⟩:=h.after.2 p hp
  exact⟨h1.c,h2,by omega⟩⟩
 y3:=h.y3
 facts:=⟨by have:=h.facts.1;omega,h.facts.2⟩
 apart:=h.apart
theorem xE{hv:List bp}(h:dg de hv hd){i:Int}(k:i= -1∨Vs hv i):ox hd i:=by
 rcases k with k| ⟨k0,x,k1,k2⟩
 ·exact .inl k
 obtain⟨y,h1,h2⟩:=h.get k1
 exact .inr ⟨k0,y,h1,h2.2.1▸k2⟩
theorem SB{ro:Nat→Option Obj}{c e:Nat}(h1:ro b=some (.cells ⟨[zI 1,zI 0,zI 2,zI 0]⟩ 70 (0,0)))(h2:ro c=some (.cells ⟨[zI 1,zI 0,zI 3,zI 0]⟩ 70 (0,0)))
 (h3:ro e=some (.cells ⟨[.slice (some ⟨b,0,none⟩) 2 2,.slice (some ⟨c,0,none⟩) 2 2]⟩ 71 (0,0))):cP ro (.slice (some ⟨e,0,none⟩) 2 2) yS:=
 ⟨_,bV [_,_] h3 (fun _ _=>rfl),.cons (bV [(⟨1,0⟩:ah),⟨2,0⟩] h1 (fun _ _=>rfl)) (.cons (bV [(⟨1,0⟩:ah),⟨3,0⟩] h2 (fun _ _=>rfl)) .nil)⟩
def BA(nb na:Nat)(fs:List ez):Prop:=(∀x∈fs,(0≤x.a∧x.a <nb)∧(0≤x.b∧x.b <na))∧fs.Pairwise fun x y=>¬(x.a=y.a∧x.b=y.b)
theorem BA.snoc{nb na:Nat}(h:BA nb na fs){x:ez}(ha:0≤x.a∧x.a <nb)(hb:0≤x.b∧x.b <na)(hn:Dm fs x.a x.b=false):BA nb na (fs++[x]):=by
 refine⟨qV h.1 ⟨ha,hb⟩,List.pairwise_append.2 ⟨h.2,List.pairwise_singleton _ _,fun y hy z hz e=>?_⟩⟩
 rw[List.mem_singleton] at hz;subst hz
 have:=List.any_eq_false.1 hn y hy
 simp[e.1,e.2] at this
theorem asy{w u:Int}(h:w∈[1,2,4,u])(hu:0≤u∧u≤4):0≤w∧w≤4:=by
 simp only[List.mem_cons,List.not_mem_nil,or_false] at h
 omega
theorem SE{ro:Nat→Option Obj}:ou ro (zS) []:=⟨[],bE.nil _ _ _ _ _,.nil⟩
set_option maxHeartbeats 2000000 in
theorem aUV {np nf:Int} {ro:Nat→Option Obj} (hN:Dn ro vd xs) (hD:bH vd xs d X) (hnp:0≤np∧np≤4) (hnf:0≤nf∧nf≤4):FnG zT 7 [zP d,zI np,zI nf] ro X (fun r aB Y=>∃(K:aP) (l:List Value),r= .agg ⟨l⟩∧RB K∧(K.facts.length:Int)≤nf∧gF aB l K∧bH vd xs d Y):=by
 refine aBp (hm:=au) [.l X] [] bu<|zD 2<|jn fun b6=>zD 4<|jc [1] (am3 hN hD) ?_
 rintro _ _ ⟨lu,kB,Uf,YB,bbC,Z18,X18,rfl,Hg,CJ,aTg,rfl,M8⟩
 refine jg 0 [.l Z18,.l X18]<|jf [0] Z18 (fun BE cd jW=>?_)
 have qj:=aTg _ jW
 obtain⟨hc,hh,dC⟩:=id qj
 obtain⟨eL,AH,AG,eF,rfl,Dt,yQ,yP⟩:=hc
 obtain⟨dS,vk,vi,dB,rfl,xw,q8,q7⟩:=hh
 refine zD 2<|jn fun b21=>zD 2<|jn fun mS=>jn fun eg=>zD 3<|jn fun b7=>jd 5 [0]<|jf [1,2,3] ((eg,.cells ⟨[.slice (some ⟨b21,0,none⟩) 2 2,.slice (some ⟨mS,0,none⟩) 2 2]⟩ 71 (0,0))::((mS,.cells ⟨[zI 1,zI 0,zI 3,zI 0]⟩ 70 (0,0))::[(b21,.cells ⟨[zI 1,zI 0,zI 2,zI 0]⟩ 70 (0,0))])) (fun ro6 lL hk5=>?_)
 have aTh:=SB (hk5 _ (.tail _ (.tail _ (.head _)))) (hk5 _ (.tail _ (.head _))) (hk5 _ (.head _))
 refine zD 1<|jc (vs:=[zP d,zI 2]) [1] (tF (hN.up (cd.trans lL)) M8 (by omega)) ?_
 rintro _ X30 ⟨w30,rfl,aF1⟩
 refine zD 1<|Ff [1,1,1] [] (fun(zz:Value×Cells×(List (List aM))×Cells)=>[(0,zP d),(1,zI np),(2,zI nf),(6,zP b6),(7,zP b7)]) (fun(zz:Value×Cells×(List (List aM))×Cells)=>[.l zz.2.1,.l zz.2.2.2,.b b7 (.cells ⟨[.slice (some ⟨eg,0,none⟩) 2 2,zz.1,zS,.slice eL lu.length eF,.slice dS kB.length dB,zS,zS,zS,zI 0,zI 0,zI 0,zS]⟩ 38 (0,0)),.b b6 (.cells ⟨zO⟩ 38 (0,0))]) (fun(zz:Value×Cells×(List (List aM))×Cells)=>(∀kF,Knows kF zz.2.1→ou kF zz.1 zz.2.2.1)∧(zz.2.2.1.length≤1∧∀l∈zz.2.2.1,(1≤l.length∧l.length≤2)∧∀c∈l,jT c)∧bH vd xs d zz.2.2.2) ?_ (fun K1 bG=>?_)
 ·
  rintro⟨vT,LT,ways,X⟩ R6 rest
  dsimp only at R6
  refine zD 2<|jf [0] LT (fun ro9 sA hk8=>?_)
  have aDJ:=R6.1 _ hk8
  obtain⟨Si,ht,_⟩:=id aDJ
  obtain⟨fD,AF,AD,eA,rfl,AE,sL,sJ⟩:=ht
  refine zD 1<|jc (vs:=[zP d,zI 2]) [0] (awc (hN.up ((cd.trans lL).trans sA)) R6.2.2 (by decide)) ?_
  rintro v60 _ ⟨Mi,L60,X60,MN,be7,aeY,rfl,aT7⟩
  refine jg 0 [.l L60,.l X60]<|zD 8<|py<|eO [1,1,1,1,0,1,0,0] [] (fun(zz:Nat×Value×Cells×(List cM))=>[(0,zP d),(1,zI np),(2,zI nf),(6,zP b6),(7,zP b7),(8,v60),(9,zI (zz.1:Int))]) (fun(zz:Nat×Value×Cells×(List cM))=>[.l zz.2.2.1,.l X60,.b b7 (.cells ⟨[.slice (some ⟨eg,0,none⟩) 2 2,.slice fD Si.length eA,zS,.slice eL lu.length eF,.slice dS kB.length dB,zz.2.1,zS,zS,zI 0,zI 0,zI 0,zS]⟩ 38 (0,0)),.l L60,.b b6 (.cells ⟨zO⟩ 38 (0,0))]) (fun(zz:Nat×Value×Cells×(List cM))=>(zz.1≤Mi.length∧zz.2.2.2.length≤zz.1)∧ax zz.2.1 2 81 iW zz.2.2.2 zz.2.2.1∧∀r∈zz.2.2.2,H5 r) (fun(zz:Nat×Value×Cells×(List cM))=>Mi.length-zz.1) (⟨0,zS,[],[]⟩) ⟨by simp,ax.nil _ _ _,(fun _ h=>by cases h)⟩ [0,2,3,1,4] ?_
  rintro⟨i,vR,LR,rs⟩ hR K2 mg rest
  dsimp only at hR
  refine zD 5<|Fe MN<|zD 2<|zJ 64 ((i:Int) <(Mi.length:Int)) (fun Oc=>?_) fun Oc=>?_
  ·
   refine zD 8 ?_
   obtain⟨Se,ZM⟩:=zG Mi i
   refine jxo 2 MN ZM fun b69 avc=>zD 1<|px 0 [3] L60 (fun s _ hZ=>cD MN avc hZ ZM)<|zD 2 ?_
   obtain⟨x74,aBF⟩:=zG Mi i
   refine jxo 2 MN aBF fun b74 aSM=>zD 1<|px 1 [3] L60 (fun s _ hZ=>cD MN aSM hZ aBF)<|zD 2<|js 77 (!(cN Se.f x74.t)) (fun Nc=>?_) (fun Nc=>?_)
   ·
    try simp only[zB] at Nc
    refine jd 6 [2] ?_
    obtain⟨E1,TH⟩:=zG Mi i
    refine jxo 2 MN TH fun b82 aSJ=>px 0 [3] L60 (fun s _ hZ=>cD MN aSJ hZ TH)<|aD 6 fun rZ r8 qL=>jn fun b84=>ba qL [1,2,3,4,5]<|aD 7 fun sN sU ri=>jE (sz:=2) (ps:=rs) (qs:=[(⟨E1.f,E1.t⟩:cM)]) (enc:=iW) (w:= .slice (some ⟨b84,0,none⟩) 1 1) [1] [0] [(b84,.cells ⟨([(⟨E1.f,E1.t⟩:cM)].map iW).flatten⟩ 81 (0,0))] (hR.2.1) (fun s _ hZ=>bS [(⟨E1.f,E1.t⟩:cM)] (hZ _ (.head _)) (by intro p hp;rfl)) (fun p _=>ai rfl) (by simp<;>omega) (fun v85 L85 ae4=>?_)
    obtain⟨aj4,ajX,auK⟩:=ae4.form
    subst auK
    refine iB ri []<|zD 1<|aD 9 fun Aj Av A5=>jd 1 [3]<|cw A5<|zD 3<|ja ((i:Int)+1) (by omega)<|zD 2<|bF mg (⟨i+1,(.slice aj4 ((rs++[(⟨E1.f,E1.t⟩:cM)])).length ajX),L85,(rs++[(⟨E1.f,E1.t⟩:cM)])⟩) ⟨by simp only[List.length_append,List.length_cons,List.length_nil];omega,ae4,qV hR.2.2 (aeY _ (List.mem_of_getElem? TH))⟩ (by omega) [0,2,3,4,5] (Sub.refl _)
   try simp only[zB] at Nc
   refine zD 4<|ja ((i:Int)+1) (by omega)<|zD 2<|bF mg (⟨i+1,vR,LR,rs⟩) ⟨by dsimp only;omega,hR.2⟩ (by omega) [0,1,2,3,4] (Sub.refl _)
  refine zD 4<|jf [0] LR (fun bci jh aRB=>?_)
  have hRU:=hR.2.1.lR aRB
  refine jd 3 [1]<|jn fun pH=>jd 7 [0]<|jc (vs:=[zP d,zI np]) [1] (EN (hN.up (((cd.trans lL).trans sA).trans jh)) aT7 (by omega)) ?_
  rintro _ X92 ⟨w92,rfl,bd8,bd0,aT2⟩
  refine zD 3<|py<|eO [1,1,1,1,1,1,0,1,0,0] [] (fun(zz:Int×Value×Cells×(List aI)×Cells)=>[(0,zP d),(1,zI np),(2,zI nf),(6,zP b6),(7,zP b7),(10,zP pH),(11,zI zz.1)]) (fun(zz:Int×Value×Cells×(List aI)×Cells)=>[.l zz.2.2.1,.l zz.2.2.2.2,.b pH (.cells ⟨[zI 2,zI 0,zI 0,.slice eL lu.length eF,.slice dS kB.length dB,zS,zS]⟩ 83 (0,0)),.b b7 (.cells ⟨[.slice (some ⟨eg,0,none⟩) 2 2,.slice fD Si.length eA,zS,.slice eL lu.length eF,.slice dS kB.length dB,vR,zz.2.1,zS,zI 0,zI 0,zI 0,zS]⟩ 38 (0,0)),.b b6 (.cells ⟨zO⟩ 38 (0,0))]) (fun(zz:Int×Value×Cells×(List aI)×Cells)=>(0≤zz.1∧zz.2.2.2.1.length+zz.1≤4)∧ax zz.2.1 5 86 eT zz.2.2.2.1 zz.2.2.1∧(∀p∈zz.2.2.2.1,aiG Uf p)∧bH vd xs d zz.2.2.2.2) (fun(zz:Int×Value×Cells×(List aI)×Cells)=>zz.1.toNat) (⟨w92,zS,[],[],X92⟩) ⟨by simp only[List.length_nil];omega,ax.nil _ _ _,(fun _ h=>by cases h),aT2⟩ [0,1,2,3,5] ?_
  rintro⟨j,vB,LB,u4,X⟩ hB K6 hK6 rest
  dsimp only at hB
  refine zD 6<|zJ 94 (j>0) (fun UC=>?_) fun UC=>?_
  ·
   refine zD 5<|Ff [1,1,1,1,1,1,0,1,0,0,1,0,0,1] [K6] (fun(zz:Nat×aI×Cells)=>[(0,zP d),(1,zI np),(2,zI nf),(6,zP b6),(7,zP b7),(10,zP pH),(11,zI j),(12,zP zz.1)]) (fun(zz:Nat×aI×Cells)=>[.b zz.1 (.cells ⟨[.string zz.2.1.name,zI zz.2.1.st,zI zz.2.1.no,zI zz.2.1.head,.bool zz.2.1.bold]⟩ 86 (0,0)),.l LB,.l zz.2.2,.b pH (.cells ⟨[zI 2,zI 0,zI 0,.slice eL lu.length eF,.slice dS kB.length dB,zS,zS]⟩ 83 (0,0)),.b b7 (.cells ⟨[.slice (some ⟨eg,0,none⟩) 2 2,.slice fD Si.length eA,zS,.slice eL lu.length eF,.slice dS kB.length dB,vR,vB,zS,zI 0,zI 0,zI 0,zS]⟩ 38 (0,0)),.b b6 (.cells ⟨zO⟩ 38 (0,0))]) (fun(zz:Nat×aI×Cells)=>(NQ zz.2.1.name∧ox Uf zz.2.1.head∧(0≤zz.2.1.st∧zz.2.1.st≤1))∧bH vd xs d zz.2.2) ?_ (fun K7 hK7=>?_)
   ·
    rintro⟨kg,pp,X⟩ agG rest
    dsimp only at agG
    refine zD 3<|jc (vs:=[zP d,zI 1,zI 2]) [2] (Bj (hN.up (((cd.trans lL).trans sA).trans jh)) agG.2 (by omega) (by omega)) ?_
    rintro _ aVI ⟨aLq,rfl,aYG,aYw,apE⟩
    refine jd 10 [1,1]<|Ff [1,1,1,1,1,1,0,1,0,0,1,0,0,1,1,1] [K6] (fun(zz:Int×Cells)=>[(0,zP d),(1,zI np),(2,zI nf),(6,zP b6),(7,zP b7),(10,zP pH),(11,zI j),(12,zP kg)]) (fun(zz:Int×Cells)=>[.b kg (.cells ⟨[.string pp.name,zI pp.st,zI zz.1,zI pp.head,.bool pp.bold]⟩ 86 (0,0)),.l LB,.l zz.2,.b pH (.cells ⟨[zI 2,zI 0,zI 0,.slice eL lu.length eF,.slice dS kB.length dB,zS,zS]⟩ 83 (0,0)),.b b7 (.cells ⟨[.slice (some ⟨eg,0,none⟩) 2 2,.slice fD Si.length eA,zS,.slice eL lu.length eF,.slice dS kB.length dB,vR,vB,zS,zI 0,zI 0,zI 0,zS]⟩ 38 (0,0)),.b b6 (.cells ⟨zO⟩ 38 (0,0))]) (fun(zz:Int×Cells)=>((pp.st=0→zz.1=1∨zz.1=2)∧(pp.st=1→zz.1=1∨zz.1=3))∧bH vd xs d zz.2) ?_ (fun K8 hK8=>?_)
    ·
     rintro⟨q,X⟩ amC rest
     dsimp only at amC
     refine jd 7 [0]<|Ff [1,1,1,1,1,1,0,1,0,0,1,0,0,1,1,1,1,0,1] [K6] (fun(zz:Bool×Cells)=>[(0,zP d),(1,zI np),(2,zI nf),(6,zP b6),(7,zP b7),(10,zP pH),(11,zI j),(12,zP kg),(120,.bool zz.1)]) (fun(zz:Bool×Cells)=>[.b kg (.cells ⟨[.string pp.name,zI pp.st,zI q,zI pp.head,.bool false]⟩ 86 (0,0)),.l LB,.l zz.2,.b pH (.cells ⟨[zI 2,zI 0,zI 0,.slice eL lu.length eF,.slice dS kB.length dB,zS,zS]⟩ 83 (0,0)),.b b7 (.cells ⟨[.slice (some ⟨eg,0,none⟩) 2 2,.slice fD Si.length eA,zS,.slice eL lu.length eF,.slice dS kB.length dB,vR,vB,zS,zI 0,zI 0,zI 0,zS]⟩ 38 (0,0)),.b b6 (.cells ⟨zO⟩ 38 (0,0))]) (fun(zz:Bool×Cells)=>(zz.1=true→0 <u4.length)∧bH vd xs d zz.2) ?_ (fun K9 hK9=>?_)
     ·
      rintro⟨g,X⟩ agF rest
      dsimp only at agF
      refine Ff [1,1,1,1,1,1,0,1,0,0,1,0,0,1,1,1,1,1] [K6] (fun(zz:aI×Cells)=>[(0,zP d),(1,zI np),(2,zI nf),(6,zP b6),(7,zP b7),(10,zP pH),(11,zI j),(12,zP kg)]) (fun(zz:aI×Cells)=>[.b kg (.cells ⟨[.string zz.1.name,zI zz.1.st,zI zz.1.no,zI zz.1.head,.bool zz.1.bold]⟩ 86 (0,0)),.l LB,.l zz.2,.b pH (.cells ⟨[zI 2,zI 0,zI 0,.slice eL lu.length eF,.slice dS kB.length dB,zS,zS]⟩ 83 (0,0)),.b b7 (.cells ⟨[.slice (some ⟨eg,0,none⟩) 2 2,.slice fD Si.length eA,zS,.slice eL lu.length eF,.slice dS kB.length dB,vR,vB,zS,zI 0,zI 0,zI 0,zS]⟩ 38 (0,0)),.b b6 (.cells ⟨zO⟩ 38 (0,0))]) (fun(zz:aI×Cells)=>aiG Uf zz.1∧bH vd xs d zz.2) ?_ (fun K10 aFX=>?_)
      ·
       rintro⟨p2,X⟩ avG rest
       dsimp only at avG
       refine jd 4 [4,0]<|jn fun aHs=>jE (sz:=5) (ps:=u4) (qs:=[(⟨p2.name,p2.st,p2.no,p2.head,p2.bold⟩:aI)]) (enc:=eT) (w:= .slice (some ⟨aHs,0,none⟩) 1 1) [2] [0] [(aHs,.cells ⟨([(⟨p2.name,p2.st,p2.no,p2.head,p2.bold⟩:aI)].map eT).flatten⟩ 86 (0,0))] (hB.2.1) (fun s _ hZ=>bS [(⟨p2.name,p2.st,p2.no,p2.head,p2.bold⟩:aI)] (hZ _ (.head _)) (by intro p hp;rfl)) (fun p _=>ai rfl) (by simp<;>omega) (fun bbR aV2 Xj=>?_)
       obtain⟨ayK,ayv,aDf⟩:=Xj.form
       subst aDf
       refine jd 5 [5]<|ja (j-1) (by omega)<|zD 2<|bF hK6 (⟨j-1,(.slice ayK ((u4++[(⟨p2.name,p2.st,p2.no,p2.head,p2.bold⟩:aI)])).length ayv),aV2,(u4++[(⟨p2.name,p2.st,p2.no,p2.head,p2.bold⟩:aI)]),X⟩) ⟨by simp only[List.length_append,List.length_cons,List.length_nil];omega,Xj,qV hB.2.2.1 avG.1,avG.2⟩ (by omega) [0,3,4,5,6] (Sub.refl _)
      refine js 120 g (fun XH=>?_) (fun XH=>?_)
      ·
       subst XH
       refine jd 7 [4,4]<|Fe hB.2.1<|ja ((u4.length:Int)-1) (by omega)<|aD 7 fun Jp Ju zh=>jc (vs:=[zP d,zI ((u4.length:Int)-1)]) [2] (EN (hN.up (((cd.trans lL).trans sA).trans jh)) agF.2 (by omega)) ?_
       rintro _ aVF ⟨abD,rfl,aYF,aeJ,aGe⟩
       refine iB zh [[4],[4]] ?_
       obtain⟨aLa,aeI⟩:=zG u4 (abD.toNat) (by have:=agF.1 rfl;omega)
       refine qD abD 5 hB.2.1 aeI (Int.toNat_of_nonneg (show 0≤abD∧abD <((u4).length:Int) from (by have:=agF.1 rfl;omega)).1).symm (fun bgJ aDz=>?_)
       refine px 0 [2] LB (fun s _ hZ=>cD hB.2.1 aDz hZ aeI)<|aD 10 fun Oj OH CN=>jd 1 [1]<|cw CN<|zD 1<|bF aFX ⟨aLa,aVF⟩ ⟨hB.2.2.1 _ (List.mem_of_getElem? aeI),aGe⟩ Nat.zero_lt_one [1,2,0,3,4,5] (Sub.refl _)
      subst XH
      refine zD 2<|bF aFX ⟨⟨pp.name,pp.st,q,pp.head,false⟩,X⟩ ⟨⟨⟨agG.1.1,agG.1.2.1,agG.1.2.2,rfl⟩,amC.1⟩,agF.2⟩ Nat.zero_lt_one [0,1,2,3,4,5] (Sub.refl _)
     refine jd 3 [4]<|Fe hB.2.1<|zD 2<|js 117 (decide ((u4.length:Int)>0)) (fun KA=>?_) (fun KA=>?_)
     ·
      have ag4:=KA
      replace ag4:=of_decide_eq_true ag4
      refine zD 1<|jc (vs:=[zP d,zI 5]) [2] (tF (hN.up (((cd.trans lL).trans sA).trans jh)) amC.2 (by omega)) ?_
      rintro _ aVG ⟨aLn,rfl,aGf⟩
      refine zD 2<|bF hK9 ⟨aLn,aVG⟩ ⟨fun _=>by omega,aGf⟩ Nat.zero_lt_one [1,2,0,3,4,5] (Sub.refl _)
     have ag4:=KA
     replace ag4:=of_decide_eq_false ag4
     refine zD 4<|bF hK9 ⟨false,X⟩ ⟨(fun h=>by cases h),amC.2⟩ Nat.zero_lt_one [0,1,2,3,4,5] (Sub.refl _)
    refine zJ 107 (pp.st=1) (fun Fu=>?_) fun Fu=>?_
    ·
     refine zD 3<|jn fun aHu=>jcL (vs:=[zP d,.slice (some ⟨aHu,0,none⟩) 2 2]) [1] [0] [(aHu,.cells ⟨([1,3].map cT).flatten⟩ 3 (0,0))] (fun aB hs hZ=>ahZ ((hN.up (((cd.trans lL).trans sA).trans jh)).up hs) apE (bV [1,3] hZ.head (by intro p hp;rfl)) (by simp)) ?_
     rintro _ aVH ⟨aLo,rfl,aBM,aGg⟩
     refine jd 3 [2]<|bF hK8 ⟨aLo,aVH⟩ ⟨⟨(fun h=>by omega),(fun _=>by simpa using aBM)⟩,aGg⟩ Nat.zero_lt_one [2,3,0,4,5,6] (Sub.refl _)
    refine zD 2<|bF hK8 ⟨aLq,aVI⟩ ⟨⟨(fun _=>by dsimp only;omega),(fun h=>by omega)⟩,apE⟩ Nat.zero_lt_one [1,2,0,3,4,5] (Sub.refl _)
   refine jd 4 [2]<|lJ [3,5] ⟨fun z13 t14 avB=>?_,fun z16 t17 agx=>?_,trivial⟩
   ·
    refine jc [1] (XW (hN.up (((cd.trans lL).trans sA).trans jh)) hB.2.2.2) ?_
    rintro _ aVJ ⟨ajT,rfl,Xc,XG⟩
    refine iB avB [[2]]<|lJ [4,5] ⟨fun z19 t20 aad=>?_,fun z22 t23 avA=>?_,trivial⟩
    ·
     refine jc (vs:=[zP d,.agg ⟨[zI 2,zI 0,zI 0,.slice eL lu.length eF,.slice dS kB.length dB,zS,zS]⟩,.string ajT]) [0] (xJ (hN.up (((cd.trans lL).trans sA).trans jh)) XG ((((show bE _ _ _ _ _ from ⟨dS,vk,vi,dB,rfl,xw,q8,q7⟩).up lL).up sA).up jh) (by have:=CJ.len;have:=Hg.nh;omega)) ?_
     rintro _ aiC ⟨ayh,rfl,Qp,Qg,Qw,QK⟩
     refine cw aad<|aD 5 fun axX ay3 UA=>jn fun kg=>cw UA<|aD 6 fun anQ aoj EI=>jd 1 [0]<|cw EI<|zD 1<|bF hK7 ⟨kg,_,aiC⟩ ⟨⟨Qp▸Xc,xE CJ Qw,Qg⟩,QK⟩ Nat.zero_lt_one [0,2,1,3,4,5] (Sub.refl _)
    refine jn fun kg=>ba avA [1,2,3,4,5]<|aD 4 fun Vx VN M3=>jc (vs:=[zP d,.agg ⟨[zI 2,zI 0,zI 0,.slice eL lu.length eF,.slice dS kB.length dB,zS,zS]⟩,.string ajT]) [1] (xJ (hN.up (((cd.trans lL).trans sA).trans jh)) XG ((((show bE _ _ _ _ _ from ⟨dS,vk,vi,dB,rfl,xw,q8,q7⟩).up lL).up sA).up jh) (by have:=CJ.len;have:=Hg.nh;omega)) ?_
    rintro _ aiC ⟨ayh,rfl,Qp,Qg,Qw,QK⟩
    refine cw M3<|aD 6 fun Vw VM Hi=>jd 1 [1]<|cw Hi<|zD 1<|bF hK7 ⟨kg,_,aiC⟩ ⟨⟨Qp▸Xc,xE CJ Qw,Qg⟩,QK⟩ Nat.zero_lt_one [1,2,0,3,4,5] (Sub.refl _)
   refine jn fun kg=>ba agx [1,2,3,4,5]<|aD 3 fun Oi OG CL=>jc [2] (XW (hN.up (((cd.trans lL).trans sA).trans jh)) hB.2.2.2) ?_
   rintro _ aVJ ⟨ajT,rfl,Xc,XG⟩
   refine iB CL [[3]]<|aD 4 fun Vv VL M1=>jc (vs:=[zP d,.agg ⟨[zI 2,zI 0,zI 0,.slice eL lu.length eF,.slice dS kB.length dB,zS,zS]⟩,.string ajT]) [0] (xJ (hN.up (((cd.trans lL).trans sA).trans jh)) XG ((((show bE _ _ _ _ _ from ⟨dS,vk,vi,dB,rfl,xw,q8,q7⟩).up lL).up sA).up jh) (by have:=CJ.len;have:=Hg.nh;omega)) ?_
   rintro _ aiC ⟨ayh,rfl,Qp,Qg,Qw,QK⟩
   refine cw M1<|aD 6 fun abm ab4 QH=>jd 1 [1]<|cw QH<|zD 1<|bF hK7 ⟨kg,_,aiC⟩ ⟨⟨Qp▸Xc,xE CJ Qw,Qg⟩,QK⟩ Nat.zero_lt_one [1,2,0,3,4,5] (Sub.refl _)
  refine zD 7<|jc (vs:=[zP d,zI np]) [1] (EN (hN.up (((cd.trans lL).trans sA).trans jh)) hB.2.2.2 (by omega)) ?_
  rintro _ aVE ⟨aLl,rfl,aYE,aYv,aGd⟩
  refine zD 3<|py<|eO [1,1,1,1,1,1,1,0,1,0,0] [] (fun(zz:Int×Value×Cells×(List aI)×Cells)=>[(0,zP d),(2,zI nf),(6,zP b6),(7,zP b7),(10,zP pH),(13,zI zz.1)]) (fun(zz:Int×Value×Cells×(List aI)×Cells)=>[.l zz.2.2.1,.l zz.2.2.2.2,.l LB,.b pH (.cells ⟨[zI 2,zI 0,zI 0,.slice eL lu.length eF,.slice dS kB.length dB,zS,zS]⟩ 83 (0,0)),.b b7 (.cells ⟨[.slice (some ⟨eg,0,none⟩) 2 2,.slice fD Si.length eA,zS,.slice eL lu.length eF,.slice dS kB.length dB,vR,vB,zz.2.1,zI 0,zI 0,zI 0,zS]⟩ 38 (0,0)),.b b6 (.cells ⟨zO⟩ 38 (0,0))]) (fun(zz:Int×Value×Cells×(List aI)×Cells)=>(0≤zz.1∧zz.2.2.2.1.length+zz.1≤4)∧ax zz.2.1 5 86 eT zz.2.2.2.1 zz.2.2.1∧(∀p∈zz.2.2.2.1,aiH Uf p)∧bH vd xs d zz.2.2.2.2) (fun(zz:Int×Value×Cells×(List aI)×Cells)=>zz.1.toNat) (⟨aLl,zS,[],[],aVE⟩) ⟨by simp only[List.length_nil];omega,ax.nil _ _ _,(fun _ h=>by cases h),aGd⟩ [0,1,2,3,4,5] ?_
  rintro⟨j,vA,LA,KZ,X⟩ hA K32 aTS rest
  dsimp only at hA
  refine zD 6<|zJ 141 (j>0) (fun h35=>?_) fun h35=>?_
  ·
   refine zD 5<|Ff [1,1,1,1,1,1,1,0,1,0,0,1,0,0,1] [K32] (fun(zz:Nat×aI×Cells)=>[(0,zP d),(2,zI nf),(6,zP b6),(7,zP b7),(10,zP pH),(13,zI j),(14,zP zz.1)]) (fun(zz:Nat×aI×Cells)=>[.b zz.1 (.cells ⟨[.string zz.2.1.name,zI zz.2.1.st,zI zz.2.1.no,zI zz.2.1.head,.bool zz.2.1.bold]⟩ 86 (0,0)),.l LA,.l zz.2.2,.l LB,.b pH (.cells ⟨[zI 2,zI 0,zI 0,.slice eL lu.length eF,.slice dS kB.length dB,zS,zS]⟩ 83 (0,0)),.b b7 (.cells ⟨[.slice (some ⟨eg,0,none⟩) 2 2,.slice fD Si.length eA,zS,.slice eL lu.length eF,.slice dS kB.length dB,vR,vB,vA,zI 0,zI 0,zI 0,zS]⟩ 38 (0,0)),.b b6 (.cells ⟨zO⟩ 38 (0,0))]) (fun(zz:Nat×aI×Cells)=>(NQ zz.2.1.name∧ox Uf zz.2.1.head∧(0≤zz.2.1.st∧zz.2.1.st≤1))∧bH vd xs d zz.2.2) ?_ (fun K33 avE=>?_)
   ·
    rintro⟨Yi,pp,X⟩ agE rest
    dsimp only at agE
    refine zD 3<|jc (vs:=[zP d,zI 1,zI 3]) [2] (Bj (hN.up (((cd.trans lL).trans sA).trans jh)) agE.2 (by omega) (by omega)) ?_
    rintro _ aVC ⟨ayf,rfl,aYD,aYu,apB⟩
    refine jd 7 [1,1]<|Ff [1,1,1,1,1,1,1,0,1,0,0,1,0,0,1,1,0,1] [K32] (fun(zz:Bool×Cells)=>[(0,zP d),(2,zI nf),(6,zP b6),(7,zP b7),(10,zP pH),(13,zI j),(14,zP Yi),(161,.bool zz.1)]) (fun(zz:Bool×Cells)=>[.b Yi (.cells ⟨[.string pp.name,zI pp.st,zI ayf,zI pp.head,.bool false]⟩ 86 (0,0)),.l LA,.l zz.2,.l LB,.b pH (.cells ⟨[zI 2,zI 0,zI 0,.slice eL lu.length eF,.slice dS kB.length dB,zS,zS]⟩ 83 (0,0)),.b b7 (.cells ⟨[.slice (some ⟨eg,0,none⟩) 2 2,.slice fD Si.length eA,zS,.slice eL lu.length eF,.slice dS kB.length dB,vR,vB,vA,zI 0,zI 0,zI 0,zS]⟩ 38 (0,0)),.b b6 (.cells ⟨zO⟩ 38 (0,0))]) (fun(zz:Bool×Cells)=>(zz.1=true→0 <u4.length)∧bH vd xs d zz.2) ?_ (fun K34 aFS=>?_)
    ·
     rintro⟨g,X⟩ agD rest
     dsimp only at agD
     refine Ff [1,1,1,1,1,1,1,0,1,0,0,1,0,0,1,1,1] [K32] (fun(zz:aI×Cells)=>[(0,zP d),(2,zI nf),(6,zP b6),(7,zP b7),(10,zP pH),(13,zI j),(14,zP Yi)]) (fun(zz:aI×Cells)=>[.b Yi (.cells ⟨[.string zz.1.name,zI zz.1.st,zI zz.1.no,zI zz.1.head,.bool zz.1.bold]⟩ 86 (0,0)),.l LA,.l zz.2,.l LB,.b pH (.cells ⟨[zI 2,zI 0,zI 0,.slice eL lu.length eF,.slice dS kB.length dB,zS,zS]⟩ 83 (0,0)),.b b7 (.cells ⟨[.slice (some ⟨eg,0,none⟩) 2 2,.slice fD Si.length eA,zS,.slice eL lu.length eF,.slice dS kB.length dB,vR,vB,vA,zI 0,zI 0,zI 0,zS]⟩ 38 (0,0)),.b b6 (.cells ⟨zO⟩ 38 (0,0))]) (fun(zz:aI×Cells)=>aiH Uf zz.1∧bH vd xs d zz.2) ?_ (fun K35 avD=>?_)
     ·
      rintro⟨p2,X⟩ avF rest
      dsimp only at avF
      refine jd 4 [5,0]<|jn fun aHr=>jE (sz:=5) (ps:=KZ) (qs:=[(⟨p2.name,p2.st,p2.no,p2.head,p2.bold⟩:aI)]) (enc:=eT) (w:= .slice (some ⟨aHr,0,none⟩) 1 1) [2] [0] [(aHr,.cells ⟨([(⟨p2.name,p2.st,p2.no,p2.head,p2.bold⟩:aI)].map eT).flatten⟩ 86 (0,0))] (hA.2.1) (fun s _ hZ=>bS [(⟨p2.name,p2.st,p2.no,p2.head,p2.bold⟩:aI)] (hZ _ (.head _)) (by intro p hp;rfl)) (fun p _=>ai rfl) (by simp<;>omega) (fun bbQ aV1 Xi=>?_)
      obtain⟨ayJ,ayu,aDe⟩:=Xi.form
      subst aDe
      refine jd 5 [6]<|ja (j-1) (by omega)<|zD 2<|bF aTS (⟨j-1,(.slice ayJ ((KZ++[(⟨p2.name,p2.st,p2.no,p2.head,p2.bold⟩:aI)])).length ayu),aV1,(KZ++[(⟨p2.name,p2.st,p2.no,p2.head,p2.bold⟩:aI)]),X⟩) ⟨by simp only[List.length_append,List.length_cons,List.length_nil];omega,Xi,qV hA.2.2.1 avF.1,avF.2⟩ (by omega) [0,3,4,5,6,7] (Sub.refl _)
     refine js 161 g (fun h36=>?_) (fun h36=>?_)
     ·
      subst h36
      refine jd 8 [5,5]<|Fe hB.2.1<|ja ((u4.length:Int)-1) (by omega)<|aD 7 fun abl ab3 Hh=>jc (vs:=[zP d,zI ((u4.length:Int)-1)]) [2] (EN (hN.up (((cd.trans lL).trans sA).trans jh)) agD.2 (by omega)) ?_
      rintro _ bho ⟨abC,rfl,aYC,aYt,aGb⟩
      refine iB Hh [[5],[5]] ?_
      obtain⟨D7,Qb⟩:=zG u4 (abC.toNat) (by have:=agD.1 rfl;omega)
      refine qD abC 5 hB.2.1 Qb (Int.toNat_of_nonneg (show 0≤abC∧abC <((u4).length:Int) from (by have:=agD.1 rfl;omega)).1).symm (fun bgF aDw=>?_)
      refine px 0 [3] LB (fun s _ hZ=>cD hB.2.1 aDw hZ Qb)<|aD 10 fun Vu VK M0=>jd 1 [1]<|cw M0<|zD 5<|jc (vs:=[zP d,zI 3]) [0] (tF (hN.up (((cd.trans lL).trans sA).trans jh)) aGb (by omega)) ?_
      rintro _ aVz ⟨aLi,rfl,apA⟩
      refine zD 1<|Ff [1,1,1,1,1,1,1,0,1,0,0,1,0,0,1,1,2,1,0,1,1] [K32,K35] (fun(zz:Int×Cells)=>[(0,zP d),(2,zI nf),(6,zP b6),(7,zP b7),(10,zP pH),(13,zI j),(14,zP Yi)]) (fun(zz:Int×Cells)=>[.b Yi (.cells ⟨[.string D7.name,zI D7.st,zI zz.1,zI D7.head,.bool D7.bold]⟩ 86 (0,0)),.l LA,.l zz.2,.l LB,.b pH (.cells ⟨[zI 2,zI 0,zI 0,.slice eL lu.length eF,.slice dS kB.length dB,zS,zS]⟩ 83 (0,0)),.b b7 (.cells ⟨[.slice (some ⟨eg,0,none⟩) 2 2,.slice fD Si.length eA,zS,.slice eL lu.length eF,.slice dS kB.length dB,vR,vB,vA,zI 0,zI 0,zI 0,zS]⟩ 38 (0,0)),.b b6 (.cells ⟨zO⟩ 38 (0,0))]) (fun(zz:Int×Cells)=>(1≤zz.1∧zz.1≤3)∧bH vd xs d zz.2) ?_ (fun K38 aFR=>?_)
      ·
       rintro⟨q,X⟩ amB rest
       dsimp only at amB
       have hO:=hB.2.2.1 _ (List.mem_of_getElem? Qb)
       have hO2:=hO.1.2.2.1
       have hO3:=hO.2
       refine zD 3<|jc (vs:=[zP d,zI 4]) [2] (tF (hN.up (((cd.trans lL).trans sA).trans jh)) amB.2 (by omega)) ?_
       rintro _ aHJ ⟨aLg,rfl,apz⟩
       refine zD 1<|js 178 aLg (fun h39=>?_) (fun h39=>?_)
       ·
        subst h39
        refine jd 5 [1]<|bF avD ⟨⟨D7.name,D7.st,q,-1,D7.bold⟩,aHJ⟩ ⟨⟨⟨hO.1.1,.inl rfl,hO.1.2.2.1,hO.1.2.2.2⟩,amB.1⟩,apz⟩ Nat.zero_lt_one [1,2,0,3,4,5,6] (Sub.refl _)
       subst h39
       refine zD 2<|bF avD ⟨⟨D7.name,D7.st,q,D7.head,D7.bold⟩,aHJ⟩ ⟨⟨⟨hO.1.1,hO.1.2.1,hO.1.2.2.1,hO.1.2.2.2⟩,amB.1⟩,apz⟩ Nat.zero_lt_one [1,2,0,3,4,5,6] (Sub.refl _)
      refine js 173 aLi (fun h40=>?_) (fun h40=>?_)
      ·
       subst h40
       have hO:=hB.2.2.1 _ (List.mem_of_getElem? Qb)
       have hO2:=hO.1.2.2.1
       have hO3:=hO.2
       refine zD 3<|jc (vs:=[zP d,zI 1,zI 3]) [0] (Bj (hN.up (((cd.trans lL).trans sA).trans jh)) apA (by omega) (by omega)) ?_
       rintro _ aVy ⟨aLh,rfl,aYB,aYs,aGa⟩
       refine jd 3 [1]<|bF aFR ⟨aLh,aVy⟩ ⟨by dsimp only;omega,aGa⟩ Nat.zero_lt_one [1,2,0,3,4,5,6] (Sub.refl _)
      subst h40
      have hO:=hB.2.2.1 _ (List.mem_of_getElem? Qb)
      have hO2:=hO.1.2.2.1
      have hO3:=hO.2
      refine zD 2<|bF aFR ⟨D7.no,aVz⟩ ⟨by dsimp only;omega,apA⟩ Nat.zero_lt_one [1,2,0,3,4,5,6] (Sub.refl _)
     subst h36
     refine zD 2<|bF avD ⟨⟨pp.name,pp.st,ayf,pp.head,false⟩,X⟩ ⟨⟨⟨agE.1.1,agE.1.2.1,agE.1.2.2,rfl⟩,by dsimp only;omega⟩,agD.2⟩ Nat.zero_lt_one [0,1,2,3,4,5,6] (Sub.refl _)
    refine jd 3 [5]<|Fe hB.2.1<|zD 2<|js 157 (decide ((u4.length:Int)>0)) (fun h41=>?_) (fun h41=>?_)
    ·
     have agN:=h41
     replace agN:=of_decide_eq_true agN
     refine zD 1<|jc (vs:=[zP d,zI 3]) [0] (tF (hN.up (((cd.trans lL).trans sA).trans jh)) apB (by omega)) ?_
     rintro _ aVB ⟨aLk,rfl,aGc⟩
     refine zD 3<|bF aFS ⟨!aLk,aVB⟩ ⟨fun _=>by omega,aGc⟩ Nat.zero_lt_one [1,2,0,3,4,5,6] (Sub.refl _)
    have agN:=h41
    replace agN:=of_decide_eq_false agN
    refine zD 5<|bF aFS ⟨false,aVC⟩ ⟨(fun h=>by cases h),apB⟩ Nat.zero_lt_one [1,2,0,3,4,5,6] (Sub.refl _)
   refine jd 4 [3]<|lJ [3,5] ⟨fun z39 t40 Uw=>?_,fun z42 t43 avy=>?_,trivial⟩
   ·
    refine jc [1] (XW (hN.up (((cd.trans lL).trans sA).trans jh)) hA.2.2.2) ?_
    rintro _ aVD ⟨ajS,rfl,Xb,XF⟩
    refine iB Uw [[3]]<|lJ [4,5] ⟨fun z45 t46 avw=>?_,fun z48 t49 Uu=>?_,trivial⟩
    ·
     refine jc (vs:=[zP d,.agg ⟨[zI 2,zI 0,zI 0,.slice eL lu.length eF,.slice dS kB.length dB,zS,zS]⟩,.string ajS]) [0] (xJ (hN.up (((cd.trans lL).trans sA).trans jh)) XF ((((show bE _ _ _ _ _ from ⟨dS,vk,vi,dB,rfl,xw,q8,q7⟩).up lL).up sA).up jh) (by have:=CJ.len;have:=Hg.nh;omega)) ?_
     rintro _ aiB ⟨ayg,rfl,Qo,Qf,Qv,QJ⟩
     refine cw avw<|aD 5 fun anH aoa ago=>jn fun Yi=>cw ago<|aD 6 fun anG an9 Ut=>jd 1 [0]<|cw Ut<|zD 1<|bF avE ⟨Yi,_,aiB⟩ ⟨⟨Qo▸Xb,xE CJ Qv,Qf⟩,QJ⟩ Nat.zero_lt_one [0,2,1,3,4,5,6] (Sub.refl _)
    refine jn fun Yi=>ba Uu [1,2,3,4,5,6]<|aD 4 fun abj ab1 MZ=>jc (vs:=[zP d,.agg ⟨[zI 2,zI 0,zI 0,.slice eL lu.length eF,.slice dS kB.length dB,zS,zS]⟩,.string ajS]) [1] (xJ (hN.up (((cd.trans lL).trans sA).trans jh)) XF ((((show bE _ _ _ _ _ from ⟨dS,vk,vi,dB,rfl,xw,q8,q7⟩).up lL).up sA).up jh) (by have:=CJ.len;have:=Hg.nh;omega)) ?_
    rintro _ aiB ⟨ayg,rfl,Qo,Qf,Qv,QJ⟩
    refine cw MZ<|aD 6 fun abi ab0 Us=>jd 1 [1]<|cw Us<|zD 1<|bF avE ⟨Yi,_,aiB⟩ ⟨⟨Qo▸Xb,xE CJ Qv,Qf⟩,QJ⟩ Nat.zero_lt_one [1,2,0,3,4,5,6] (Sub.refl _)
   refine jn fun Yi=>ba avy [1,2,3,4,5,6]<|aD 3 fun anF an8 agn=>jc [2] (XW (hN.up (((cd.trans lL).trans sA).trans jh)) hA.2.2.2) ?_
   rintro _ aVD ⟨ajS,rfl,Xb,XF⟩
   refine iB agn [[4]]<|aD 4 fun anE an7 Ur=>jc (vs:=[zP d,.agg ⟨[zI 2,zI 0,zI 0,.slice eL lu.length eF,.slice dS kB.length dB,zS,zS]⟩,.string ajS]) [0] (xJ (hN.up (((cd.trans lL).trans sA).trans jh)) XF ((((show bE _ _ _ _ _ from ⟨dS,vk,vi,dB,rfl,xw,q8,q7⟩).up lL).up sA).up jh) (by have:=CJ.len;have:=Hg.nh;omega)) ?_
   rintro _ aiB ⟨ayg,rfl,Qo,Qf,Qv,QJ⟩
   refine cw Ur<|aD 6 fun abh abZ MY=>jd 1 [1]<|cw MY<|zD 1<|bF avE ⟨Yi,_,aiB⟩ ⟨⟨Qo▸Xb,xE CJ Qv,Qf⟩,QJ⟩ Nat.zero_lt_one [1,2,0,3,4,5,6] (Sub.refl _)
  refine zD 4<|jf [2,0] (LB++LA) (fun bcc wG aCW=>?_)
  have hb:=hB.2.1.lR (Knows.left aCW)
  have ha:=hA.2.1.lR (Knows.right aCW)
  have hBF:=hb
  have hAF:=ha
  obtain⟨jV,Pd,Pb,jP,rfl,Pc,N1,N0⟩:=hb
  obtain⟨jC,Mc,Ma,jq,rfl,Mb,JU,JR⟩:=ha
  refine zD 2<|jc (vs:=[zP d,zI 4]) [0] (EN (hN.up ((((cd.trans lL).trans sA).trans jh).trans wG)) hA.2.2.2 (by omega)) ?_
  rintro _ bhn ⟨ajR,rfl,aYA,aYr,aF9⟩
  refine jn fun aHq=>jcL (vs:=[zP d,.slice (some ⟨aHq,0,none⟩) 4 4]) [1] [0] [(aHq,.cells ⟨([1,2,4,ajR].map cT).flatten⟩ 3 (0,0))] (fun aB hs hZ=>ahZ ((hN.up ((((cd.trans lL).trans sA).trans jh).trans wG)).up hs) aF9 (bV [1,2,4,ajR] hZ.head (by intro p hp;rfl)) (by simp)) ?_
  rintro _ bhm ⟨abB,rfl,aBK,aF8⟩
  refine zD 2<|jc (vs:=[zP d,zI 4]) [0] (EN (hN.up ((((cd.trans lL).trans sA).trans jh).trans wG)) aF8 (by omega)) ?_
  rintro _ bhl ⟨ajQ,rfl,aYz,aYq,aF7⟩
  refine jn fun aHp=>jcL (vs:=[zP d,.slice (some ⟨aHp,0,none⟩) 4 4]) [1] [0] [(aHp,.cells ⟨([1,2,4,ajQ].map cT).flatten⟩ 3 (0,0))] (fun aB hs hZ=>ahZ ((hN.up ((((cd.trans lL).trans sA).trans jh).trans wG)).up hs) aF7 (bV [1,2,4,ajQ] hZ.head (by intro p hp;rfl)) (by simp)) ?_
  rintro _ bhk ⟨abA,rfl,aBJ,aF6⟩
  refine zD 2<|jc (vs:=[zP d,zI 4]) [0] (EN (hN.up ((((cd.trans lL).trans sA).trans jh).trans wG)) aF6 (by omega)) ?_
  rintro _ bhj ⟨ajP,rfl,aYy,aYp,aF5⟩
  refine jn fun aHo=>jcL (vs:=[zP d,.slice (some ⟨aHo,0,none⟩) 4 4]) [1] [0] [(aHo,.cells ⟨([1,2,4,ajP].map cT).flatten⟩ 3 (0,0))] (fun aB hs hZ=>ahZ ((hN.up ((((cd.trans lL).trans sA).trans jh).trans wG)).up hs) aF5 (bV [1,2,4,ajP] hZ.head (by intro p hp;rfl)) (by simp)) ?_
  rintro _ bhi ⟨aby,rfl,aBI,aF4⟩
  refine jd 6 [5,5,5] ?_
  have BG:=asy aBK (by omega:0≤ajR∧ajR≤4)
  have A6:=asy aBJ (by omega:0≤ajQ∧ajQ≤4)
  have qL:=asy aBI (by omega:0≤ajP∧ajP≤4)
  refine zD 6<|jc (vs:=[zP d,zI nf]) [0] (EN (hN.up ((((cd.trans lL).trans sA).trans jh).trans wG)) aF4 (by omega)) ?_
  rintro _ aVx ⟨aLf,rfl,aYx,aYo,aF3⟩
  refine zD 3<|py<|eO [1,1,1,1,1,1,1,1,1,0,1,0,0] [] (fun(zz:Int×Value×Cells×(List ez)×Cells)=>[(0,zP d),(6,zP b6),(7,zP b7),(15,zI zz.1)]) (fun(zz:Int×Value×Cells×(List ez)×Cells)=>[.l zz.2.2.1,.l zz.2.2.2.2,.b pH (.cells ⟨[zI 2,zI 0,zI 0,.slice eL lu.length eF,.slice dS kB.length dB,zS,zS]⟩ 83 (0,0)),.b b7 (.cells ⟨[.slice (some ⟨eg,0,none⟩) 2 2,.slice fD Si.length eA,zS,.slice eL lu.length eF,.slice dS kB.length dB,vR,.slice jV u4.length jP,.slice jC KZ.length jq,zI abB,zI abA,zI aby,zz.2.1]⟩ 38 (0,0)),.b b6 (.cells ⟨zO⟩ 38 (0,0))]) (fun(zz:Int×Value×Cells×(List ez)×Cells)=>(0≤zz.1∧zz.2.2.2.1.length+zz.1≤nf)∧ax zz.2.1 3 57 lP zz.2.2.2.1 zz.2.2.1∧BA u4.length KZ.length zz.2.2.2.1∧bH vd xs d zz.2.2.2.2) (fun(zz:Int×Value×Cells×(List ez)×Cells)=>zz.1.toNat) (⟨aLf,zS,[],[],aVx⟩) ⟨by simp only[List.length_nil];omega,ax.nil _ _ _,⟨(fun _ h=>by cases h),List.Pairwise.nil⟩,aF3⟩ [0,1,5,6,7] ?_
  rintro⟨j,vF,LF,fs,X⟩ hF K58 aFQ rest
  dsimp only at hF
  have aud:=hB.1
  have aYR:=hA.1
  refine zD 6<|jj 5 [(0,zP d),(6,zP b6),(7,zP b7),(15,zI j),(214,.bool ((decide (j>0))&&(decide ((u4.length:Int)>0))))] (fun gQ=>?_) (fun hj=>?_)
  rotate_left
  refine js 209 (decide (j>0)) (fun h56=>?_) (fun h56=>?_)
  ·
   have agM:=h56
   replace agM:=of_decide_eq_true agM
   refine jd 5 [3]<|jw 214 (.bool ((decide (j>0))&&(decide ((u4.length:Int)>0)))) (w:= .bool (decide ((u4.length:Int)>0))) (by rw[h56]<;>rfl) ?_
   exact hj _ (by kernel_rfl) (by kernel_rfl)
  ·
   have agM:=h56
   replace agM:=of_decide_eq_false agM
   refine zD 5<|jw 214 (.bool ((decide (j>0))&&(decide ((u4.length:Int)>0)))) (w:= .bool false) (by rw[h56]<;>rfl) ?_
   exact hj _ (by kernel_rfl) (by kernel_rfl)
  refine zD 1<|jj 5 [(0,zP d),(6,zP b6),(7,zP b7),(15,zI j),(220,.bool (((decide (j>0))&&(decide ((u4.length:Int)>0)))&&(decide ((KZ.length:Int)>0))))] (fun gQ=>?_) (fun hj=>?_)
  rotate_left
  refine js 215 ((decide (j>0))&&(decide ((u4.length:Int)>0))) (fun h57=>?_) (fun h57=>?_)
  ·
   have avL:=h57
   try simp only[zB] at avL
   refine jd 5 [3]<|jw 220 (.bool (((decide (j>0))&&(decide ((u4.length:Int)>0)))&&(decide ((KZ.length:Int)>0)))) (w:= .bool (decide ((KZ.length:Int)>0))) (by rw[h57]<;>rfl) ?_
   exact hj _ (by kernel_rfl) (by kernel_rfl)
  ·
   have avL:=h57
   try simp only[zB] at avL
   refine zD 5<|jw 220 (.bool (((decide (j>0))&&(decide ((u4.length:Int)>0)))&&(decide ((KZ.length:Int)>0)))) (w:= .bool false) (by rw[h57]<;>rfl) ?_
   exact hj _ (by kernel_rfl) (by kernel_rfl)
  refine zD 1<|js 220 (((decide (j>0))&&(decide ((u4.length:Int)>0)))&&(decide ((KZ.length:Int)>0))) (fun h58=>?_) (fun h58=>?_)
  ·
   try simp only[zB] at h58
   refine jd 8 [3]<|jc (vs:=[zP d,.agg ⟨[.slice (some ⟨eg,0,none⟩) 2 2,.slice fD Si.length eA,zS,.slice eL lu.length eF,.slice dS kB.length dB,vR,.slice jV u4.length jP,.slice jC KZ.length jq,zI abB,zI abA,zI aby,vF]⟩]) [1] (aGY (hN.up ((((cd.trans lL).trans sA).trans jh).trans wG)) hF.2.2.2 (show bE _ _ _ _ _ from ⟨jV,Pd,Pb,jP,rfl,Pc,N1,N0⟩) (show bE _ _ _ _ _ from ⟨jC,Mc,Ma,jq,rfl,Mb,JU,JR⟩) (by omega)) ?_
   rintro _ aHI ⟨qm,rfl,aY5,aY4,apy⟩
   refine jn fun b16=>jd 6 [0,4,0]<|jp (vs:=[.agg ⟨[.slice (some ⟨eg,0,none⟩) 2 2,.slice fD Si.length eA,zS,.slice eL lu.length eF,.slice dS kB.length dB,vR,.slice jV u4.length jP,.slice jC KZ.length jq,zI abB,zI abA,zI aby,vF]⟩,.agg ⟨[zI qm.a,zI qm.b,.bool qm.same]⟩]) [2] LF (fun aB hs hZ=>aoU (x:=⟨qm.a,qm.b,qm.same⟩) (hF.2.1.lR hZ) (by omega))<|zD 2<|js 229 (!(Dm fs qm.a qm.b)) (fun h59=>?_) (fun h59=>?_)
   ·
    try simp only[zB] at h59
    refine jd 5 [4,0]<|jn fun aHn=>jE (sz:=3) (ps:=fs) (qs:=[(⟨qm.a,qm.b,qm.same⟩:ez)]) (enc:=lP) (w:= .slice (some ⟨aHn,0,none⟩) 1 1) [3] [0] [(aHn,.cells ⟨([(⟨qm.a,qm.b,qm.same⟩:ez)].map lP).flatten⟩ 57 (0,0))] (hF.2.1) (fun s _ hZ=>bS [(⟨qm.a,qm.b,qm.same⟩:ez)] (hZ _ (.head _)) (by intro p hp;rfl)) (fun p _=>ai rfl) (by simp<;>omega) (fun bbO aV0 Xh=>?_)
    obtain⟨ayI,ayt,aDd⟩:=Xh.form
    subst aDd
    refine jd 5 [5]<|ja (j-1) (by omega)<|zD 2<|bF aFQ (⟨j-1,(.slice ayI ((fs++[(⟨qm.a,qm.b,qm.same⟩:ez)])).length ayt),aV0,(fs++[(⟨qm.a,qm.b,qm.same⟩:ez)]),aHI⟩) ⟨by simp only[List.length_append,List.length_cons,List.length_nil];omega,Xh,BA.snoc hF.2.2.1 (by dsimp only;omega) (by dsimp only;omega) (by assumption),apy⟩ (by omega) [0,3,4,5,6] (Sub.refl _)
   try simp only[zB] at h59
   refine zD 4<|ja (j-1) (by omega)<|zD 2<|bF aFQ (⟨j-1,vF,LF,fs,aHI⟩) ⟨by dsimp only;omega,hF.2.1,hF.2.2.1,apy⟩ (by omega) [2,1,3,4,5] (Sub.refl _)
  try simp only[zB] at h58
  refine zD 4<|jf [0] LF (fun bcb TS aRy=>?_)
  have hFA:=hF.2.1.lR aRy
  refine jd 1 [2] ?_
  obtain⟨aLM,aLu,aR8⟩:=hR.2.1.form
  subst aR8
  obtain⟨aj5,ajY,auL⟩:=hF.2.1.form
  subst auL
  refine jd 3 [3]<|aH q0.a.a.a.a.a.a (.agg ⟨[.slice (some ⟨eg,0,none⟩) 2 2,.slice fD Si.length eA,zS,.slice eL lu.length eF,.slice dS kB.length dB,(.slice aLM (rs).length aLu),.slice jV u4.length jP,.slice jC KZ.length jq,zI abB,zI abA,zI aby,(.slice aj5 (fs).length ajY)]⟩) [3] [0] X (Sub.refl _) ⟨_,_,X,rfl,rfl,(((((cd.trans lL).trans sA).trans jh).trans wG).trans TS),⟨ways,lu,Uf,rs,u4,KZ,abB,abA,aby,fs,yS⟩,_,rfl,⟨R6.2.1,Hg,⟨by dsimp only;omega,hR.2.2⟩,⟨by dsimp only;omega,hB.2.2.1⟩,⟨by dsimp only;omega,hA.2.2.1⟩,⟨BG,A6,qL⟩,⟨by dsimp only;omega,hF.2.2.1.1⟩,hF.2.2.1.2,rfl⟩,(by dsimp only;omega),⟨_,_,_,_,_,_,_,_,none,0,kB,rfl,(aTh.up (((sA.trans jh).trans wG).trans TS)),(aDJ.up ((jh.trans wG).trans TS)),(qj.up ((((lL.trans sA).trans jh).trans wG).trans TS)),CJ,(hRU.up (wG.trans TS)),(hBF.up TS),(hAF.up TS),hFA⟩,hF.2.2.2⟩
 refine js 30 w30 (fun h65=>?_) (fun h65=>?_)
 ·
  subst h65
  refine jd 7 [1]<|aD 4 fun axU ay0 avv=>jc [0] (aGX (hN.up (cd.trans lL)) aF1) ?_
  rintro _ X35 ⟨uP,rfl,aBH,aUb⟩
  refine iB avv [[1]]<|aD 5 fun axT ayZ agl=>jn fun dR=>ba agl [1,2,3]<|zD 1<|aD 7 fun anC an5 agk=>jn fun b38=>ba agk [1,2,3,4]<|aD 8 fun anB an4 agj=>aPy (E:=78) (sz:=1) gJ (qs:=[(.slice (some ⟨dR,0,none⟩) 1 1:Value)]) (w:= .slice (some ⟨b38,0,none⟩) 1 1) [0] [(b38,.cells ⟨([(.slice (some ⟨dR,0,none⟩) 1 1:Value)].map gJ).flatten⟩ 78 (0,0))] (fun s _ hZ=>bS [(.slice (some ⟨dR,0,none⟩) 1 1:Value)] (hZ _ (.head _)) (by intro p hp;rfl)) (by intro p hp;rw[List.mem_singleton] at hp;subst hp;exact ai rfl) (by simp<;>omega) (fun v39 L39 Cv=>?_)
  obtain⟨ayG,ayr,afU⟩:=Cv.form
  subst afU
  refine ba agj [1,2,3,4,5]<|zD 2<|aD 11 fun aWs aW9 aTO=>jd 1 [4]<|iB aTO []<|zD 4<|jc (vs:=[zP d,zI 2]) [3] (tF (hN.up (cd.trans lL)) aUb (by omega)) ?_
  rintro _ X43 ⟨w43,rfl,aF0⟩
  refine zD 1<|js 43 w43 (fun h71=>?_) (fun h71=>?_)
  ·
   subst h71
   refine jd 8 [4,4]<|jxo 1 Cv (show ([(.slice (some ⟨dR,0,none⟩) 1 1:Value)])[0]?=some (.slice (some ⟨dR,0,none⟩) 1 1:Value) from rfl) fun b50 aSR=>zD 1<|px 0 [1] L39 (fun s _ hZ=>cD Cv aSR hZ (show ([(.slice (some ⟨dR,0,none⟩) 1 1:Value)])[0]?=some (.slice (some ⟨dR,0,none⟩) 1 1:Value) from rfl))<|zD 1<|aD 10 fun aWr aW8 aTN=>jc [0] (aGX (hN.up (cd.trans lL)) aF0) ?_
   rintro _ X54 ⟨vI,rfl,aP4,aT8⟩
   refine iB aTN [[1],[4],[4]]<|aD 11 fun aWq aW7 agi=>jn fun b55=>ba agi [1,2,3,4,5,6]<|aD 12 fun aWp aW6 aTM=>jE (sz:=7) (ps:=[(⟨uP.k,uP.st,uP.ot,uP.fn,uP.fl,uP.tn,uP.tl⟩:aM)]) (qs:=[(⟨vI.k,vI.st,vI.ot,vI.fn,vI.fl,vI.tn,vI.tl⟩:aM)]) (enc:=lj) (w:= .slice (some ⟨b55,0,none⟩) 1 1) [4] [0] [(b55,.cells ⟨([(⟨vI.k,vI.st,vI.ot,vI.fn,vI.fl,vI.tn,vI.tl⟩:aM)].map lj).flatten⟩ 74 (0,0))] (Gl (b:=dR) (T:=74) [(⟨uP.k,uP.st,uP.ot,uP.fn,uP.fl,uP.tn,uP.tl⟩:aM)] rfl (by intro p hp;rfl)) (fun s _ hZ=>bS [(⟨vI.k,vI.st,vI.ot,vI.fn,vI.fl,vI.tn,vI.tl⟩:aM)] (hZ _ (.head _)) (by intro p hp;rfl)) (fun p _=>ai rfl) (by simp<;>omega) (fun v56 L56 qH=>?_)
   obtain⟨Ow,Ou,Uc⟩:=qH.form
   subst Uc
   refine iB aTM [[5],[5]]<|jxo 1 Cv (show ([(.slice (some ⟨dR,0,none⟩) 1 1:Value)])[0]?=some (.slice (some ⟨dR,0,none⟩) 1 1:Value) from rfl) fun b57 aSQ=>zD 1<|aD 15 fun aWo aW5 aTL=>RL 3 0 [(.slice Ow (([(⟨uP.k,uP.st,uP.ot,uP.fn,uP.fl,uP.tn,uP.tl⟩:aM)]++[(⟨vI.k,vI.st,vI.ot,vI.fn,vI.fl,vI.tn,vI.tl⟩:aM)])).length Ou)] ((.slice Ow (([(⟨uP.k,uP.st,uP.ot,uP.fn,uP.fl,uP.tn,uP.tl⟩:aM)]++[(⟨vI.k,vI.st,vI.ot,vI.fn,vI.fl,vI.tn,vI.tl⟩:aM)])).length Ou):Value) Cv aSQ (show ([(.slice (some ⟨dR,0,none⟩) 1 1:Value)])[0]?=some (.slice (some ⟨dR,0,none⟩) 1 1:Value) from rfl) rfl rfl (Nat.le_of_ble_eq_true rfl) fun L76 aQT=>iB aTL []<|zD 1<|Km bG ⟨(.slice ayG ([(.slice (some ⟨dR,0,none⟩) 1 1:Value)]).length ayr),L76++L56,[[uP,vI]],X54⟩ ⟨fun _ hk=>⟨_,aQT.lR hk.left,.cons (qH.lR hk.right) .nil⟩,⟨by simp,by simpa using ⟨aBH,aP4⟩⟩,aT8⟩ Nat.zero_lt_one [[0,1],[3],[5],[6]] (Sub.refl _)
  subst h71
  refine zD 2<|Km bG ⟨(.slice ayG ([(.slice (some ⟨dR,0,none⟩) 1 1:Value)]).length ayr),L39++[(dR,.cells ⟨[zI uP.k,zI uP.st,zI uP.ot,zI uP.fn,zI uP.fl,zI uP.tn,zI uP.tl]⟩ 74 (0,0))],[[uP]],X43⟩ ⟨fun _ hk=>⟨_,Cv.lR hk.left,.cons (bV [uP] (hk.right _ (.head _)) (fun _ _=>rfl)) .nil⟩,⟨by simp,by simpa using aBH⟩,aF0⟩ Nat.zero_lt_one [[1,3],[0],[4],[5]] (Sub.refl _)
 subst h65
 refine zD 2<|py<|bF bG ⟨zS,[],[],X30⟩ ⟨fun _ _=>SE,⟨by simp,by simp⟩,aF1⟩ Nat.zero_lt_one [0,1,2,3] (Sub.refl _)
end Go.L
