/- Part 6 of the proof. -/
import Derived.Test.YtknkndglfcfhkaaGreatDoorU5
import Derived.KernelRfl
import Derived.Lib.UnsafeStr
import Derived.Test.YtknkndglfcfhkaaGreatDoorProg
set_option maxRecDepth 100000
set_option linter.all false
namespace Go.L
open Go Go.Conc
variable {ro aI oU:Nat→Option Obj} {xs al ys:List Int} {α β:Type} {Φ:Value→Cells→Prop} {vd vm vc vh s0 s1 s2 t0 t1 ru vb va:Value} {X fr:Cells} {d i k nc b sz nh bB:Nat} {o:Option JS} {f:FuncId} {args:List Value} {P:Program} {n many lo hi af gone new:Int} {E:TypeId} {nm:ByteArray} {ag:Bool}
def rnM(P:Program):Sem α→List Nat→Cells→List (Nat×Nat)→Option (α×Cells×List (Nat×Nat))
 | .pure a,_,B,q=>some (a,B,q)
 | .load m a k,h::hs,B,q=>match m,a.spot,B[h]? with
  | .plain,none,some (b,.cells c _ _)=>match c[a.off]? with
   |some v=>rnM P (k v) hs B ((a.block,b)::q)
   |none=>none
  |_,_,_=>none
 | .shape r k,h::hs,B,q=>match B[h]? with
  |some (b,o)=>rnM P (k (Obj.shapeOf o)) hs B ((r,b)::q)
  |none=>none
 | .program k,hs,B,q=>rnM P (k P) hs B q
 |_,_,_,_=>none
theorem ar3:∀(m:Sem α) {hs:List Nat} {B B':Cells} {q q':List (Nat×Nat)} {v:α},rnM P m hs B q=some (v,B',q')→(∀p∈q',p.1=p.2)→
 (∀p∈q,p∈q')∧B'=B∧∀(s:St) (Q:α→St→Prop) (E:Halt→St→Prop),(∀x∈B,s.has x.1 x.2)→Q v s→bP P m s Q E:=by
 intro m
 induction m with
 |pure a=>intro hs B B' q q' v h _;simp only[rnM,Option.some.injEq,Prod.mk.injEq] at h;obtain⟨rfl,rfl,rfl⟩:=h;exact⟨fun _ h=>h,rfl,fun _ _ _ _ h=>h⟩
 |load m a k ih=>
  intro hs B B' q q' v h hq
  cases hs with
  |nil=>cases h
  |cons j hs=>
   unfold rnM at h
   split at h<;>try (cases h;done)
   rename_i b c t fz OB hB
   split at h<;>try (cases h;done)
   rename_i u hu
   obtain⟨h1,h2,h3⟩:=ih _ h hq
   have zh:a.block=b:=hq _ (h1 _ List.mem_cons_self)
   refine⟨fun p hp=>h1 p (List.mem_cons_of_mem _ hp),h2,fun s Q E hs hQ=>⟨rfl,OB,c,t,fz,u,?_,hu,h3 s Q E hs hQ⟩⟩
   rw[zh];exact hs _ (List.mem_of_getElem? hB)
 |shape r k ih=>
  intro hs B B' q q' v h hq
  cases hs with
  |nil=>cases h
  |cons j hs=>
   simp only[rnM] at h
   split at h<;>try (cases h;done)
   rename_i b o hB
   obtain⟨h1,h2,h3⟩:=ih _ h hq
   have zh:r=b:=hq _ (h1 _ List.mem_cons_self)
   refine⟨fun p hp=>h1 p (List.mem_cons_of_mem _ hp),h2,fun s Q E hs hQ=>⟨o,?_,h3 s Q E hs hQ⟩⟩
   rw[zh];exact hs _ (List.mem_of_getElem? hB)
 |program k ih=>
  intro hs B B' q q' v h hq
  simp only[rnM] at h
  exact ih _ h hq
 |store=>intro hs B B' q q' v h hq;cases hs<;>cases h
 |new=>intro hs B B' q q' v h hq;cases hs<;>cases h
 |freeze=>intro hs B B' q q' v h hq;cases hs<;>cases h
 |frozen=>intro hs B B' q q' v h hq;cases hs<;>cases h
 |getObj=>intro hs B B' q q' v h hq;cases hs<;>cases h
 |setObj=>intro hs B B' q q' v h hq;cases hs<;>cases h
 |choose=>intro hs B B' q q' v h hq;cases hs<;>cases h
 |sys=>intro hs B B' q q' v h hq;cases hs<;>cases h
 |mark=>intro hs B B' q q' v h hq;cases hs<;>cases h
 |halt=>intro hs B B' q q' v h hq;cases hs<;>cases h
def ada:Op→Option (List Operand)
 | .call ⟨.builtin _,xs,_⟩=>some xs.toList
 |op=>F7 op
theorem Pu{o:Oper}{xs:List Operand}(h:ada o.op=some xs){f g:Operand→Value}(hfg:∀x∈xs,f x=g x):execOp f o=execOp g o:=by
 unfold ada at h
 split at h
 ·rename_i b xs at_ heq
  simp only[Option.some.injEq] at h;subst h
  have:xs.map f=xs.map g:=Array.map_congr_left fun a ha=>hfg a (by simpa using ha)
  simp only[execOp,heq,resolve,this]
 exact tz h hfg
def smV(P:Program)(n:Nat)(hs:List Nat)(B:Cells)(p:Oper)(e:Env):Option (Value×List (Nat×Nat)):=match ada p.op with
 |some xs=>match xF n e xs with
  |some _=>match rnM P (execOp (evj n e) p) hs B [] with
   |some (.value v,_,q)=>some (v,q)
   |_=>none
  |none=>none
 |none=>none
theorem Br{γ:Type}{n:Nat}{f:Oper→Env→Option β}{g:β→γ}:eR n (fun p e=>(f p e).map g) o=(eR n f o).map g:=by
 unfold eR
 split
 ·unfold dE
  dsimp only
  split<;>rfl
 rfl
def smA(P:Program)(n:Nat)(hs:List Nat)(B:Cells)(p:Oper)(e:Env):Option Value:=(smV P n hs B p e).map (·.1)
def smL(P:Program)(n:Nat)(hs:List Nat)(B:Cells)(p:Oper)(e:Env):Option (List Nat):=(smV P n hs B p e).map fun x=>U9 x.2
def smR(P:Program)(n:Nat)(hs:List Nat)(B:Cells)(p:Oper)(e:Env):Option (List Nat):=(smV P n hs B p e).map fun x=>Tc x.2
section
variable {X:Cx} {o:Option JS}
theorem jmo(ps hs:List Nat)(B:Cells)(v:Value)(hj:J X (mL ps v B o))(hv:eR X.n (smA X.P X.n hs B) o=some v:=by kernel_rfl)(hq:eR X.n (smL X.P X.n hs B) o=eR X.n (smR X.P X.n hs B) o:=by kernel_rfl)(hB:dL ps o=some B:=by kernel_rfl):J X o:=by
 rw[show smA X.P X.n hs B=fun p e=>(smV X.P X.n hs B p e).map (·.1) from rfl,Br] at hv
 rw[show smL X.P X.n hs B=fun p e=>(smV X.P X.n hs B p e).map (fun x=>U9 x.2) from rfl,show smR X.P X.n hs B=fun p e=>(smV X.P X.n hs B p e).map (fun x=>Tc x.2) from rfl,Br,Br] at hq
 cases hx:eR X.n (smV X.P X.n hs B) o with
 |none=>rw[hx] at hv;cases hv
 |some x=>
  rcases x with ⟨v',q⟩
  rw[hx] at hv hq
  simp only[Option.map_some,Option.some.injEq] at hv hq
  subst hv
  refine jS (Φ:=fun u L'=>u=v'∧L'=B) ps B hx hB (fun p e hf=>?_) (fun u L' pQ=>by obtain⟨rfl,rfl⟩:=pQ;exact hj)
  unfold smV at hf
  split at hf<;>try (cases hf;done)
  rename_i xs ax
  split at hf<;>try (cases hf;done)
  rename_i ws SD
  split at hf<;>try (cases hf;done)
  rename_i u B' q2 bU
  simp only[Option.some.injEq,Prod.mk.injEq] at hf
  obtain⟨rfl,rfl⟩:=hf
  refine⟨fun c hc=>?_,fun R Q E hQ=>?_⟩
  ·rw[hc] at ax;cases ax
  rw[Pu ax (NL (f:=ev X.n e) (fun x v h=>aF h) SD)]
  obtain⟨_,_,h3⟩:=ar3 _ bU (lR hq)
  exact h3 _ _ _ (fun x hx=> .inr (List.mem_append_left _ hx)) (hQ _ _ ⟨rfl,rfl⟩)
theorem HC:∀(n t:Nat) (acc:Array Value),(Extern.BytealgMakeNoZero.digits n t acc).size=acc.size+n
 |0,_,_=>rfl
 |n+1,t,acc=>by
  simp only[Extern.BytealgMakeNoZero.digits,HC n,Array.size_push];omega
theorem jnz{ps rs:Array TypeId}{T:TypeId}{n:Nat}{z:List Value}(ef:EF X.P f (Extern.BytealgMakeNoZero.makeNoZero ps rs))(hT:rs[0]?=some T) (tf:TF X.P T (.slice E) sz bB z ag) (hn:n≤1000)
 (hj:∀b l,n≤l.length→J X (mL [] (.slice (some ⟨b,0,none⟩) n l.length) [(b,.cells ⟨l⟩ E (0,0))] o)) (hv:eR X.n (aii X.n) o=some (f,[.int .i64 (n:Int)]):=by kernel_rfl) (hB:dL [] o=some []:=by kernel_rfl):J X o:=by
 obtain⟨ops,i,todo,k,e,w,kn,p,rfl,ho,hw,hc⟩:=du hv
 obtain⟨xs,at_,ax,hx⟩:=NK hc
 intro bV
 rcases p with ⟨dst,op,ty,pos,cX,g⟩
 dsimp only at ax;subst ax
 refine aeg X.hC ho hw ef hx ?_
 have eM:Extern.BytealgMakeNoZero.makeNoZero ps rs ⟨[Value.int .i64 (n:Int)]⟩=(do
  let some t:=rs[0]?|stuck "bytealg.MakeNoZero: no result type"
  let .slice elem ←underlying t|stuck "bytealg.MakeNoZero: slice type expected"
  if (n:Int) <0||(n:Int)>2^48 then runtimePanic (.error "makeslice: len out of range")
  let cap ←choose (.appendCap (n:Int).toNat 0 elem)
  askRoom cap
  let bytes ←choose (.extern "internal/bytealg.MakeNoZero.bytes" 0)
  let a ←newRow elem (Extern.BytealgMakeNoZero.digits cap bytes #[])
  pure (.slice (some a) (n:Int).toNat cap)):=rfl
 rw[eM]
 simp only[hT,a8 tf]
 rw[if_neg (by simp only[Bool.or_eq_true,decide_eq_true_eq];omega)]
 refine acQ rfl fun q=>?_
 refine si ?_
 show (if (Question.extern "internal/bytealg.MakeNoZero.bytes" 0).forced=true then _ else _)
 have key:∀cap bytes,n≤cap→bP X.P (newRow E (Extern.BytealgMakeNoZero.digits cap bytes #[]) >>= fun a=>pure (Value.slice (some a) ((n:Int).toNat) cap)) ⟨X.ro,den w⟩ (fun v s'=>ab X.C X.fn X.az ops todo (KQ X k) (A X.n (upd dst v e) X.D) s') (fun _ _=>False):=by
  intro cap bytes n9
  rw[iX]
  intro b hb
  have hl:(Extern.BytealgMakeNoZero.digits cap bytes #[]).toList.length=cap:=by
   rw[Array.length_toList,HC];simp
  have:=hj b (Extern.BytealgMakeNoZero.digits cap bytes #[]).toList (by omega)
  rw[nP ho] at this
  have:=this bV
  simp only[JP,fZ,hl,w9] at this
  exact this
 split
 ·exact key _ _ (by show n≤(n:Int).toNat+_;rw[Int.toNat_natCast];exact Nat.le_add_right _ _)
 exact fun q2=>key _ _ (by show n≤(n:Int).toNat+_;rw[Int.toNat_natCast];exact Nat.le_add_right _ _)
def sdV(n:Nat)(p:Oper)(e:Env):Option (Addr×Nat×Nat):=match p.op with
 | .call ⟨.builtin .unsafeSliceData,xs,_⟩=>match xF n e xs.toList with
  |some [.slice (some a) l c]=>some (a,l,c)
  |_=>none
 |_=>none
theorem jsd{a:Addr}{l c:Nat}(h:c≠0)(hj:J X (mL [] (.pointer (some a)) [] o))(hv:eR X.n (sdV X.n) o=some (a,l,c):=by kernel_rfl)(hB:dL [] o=some []:=by kernel_rfl):J X o:=by
 refine jS (Φ:=fun u L'=>u= .pointer (some a)∧L'=[]) [] [] hv hB (fun p e hf=>?_) (fun u L' pQ=>by obtain⟨rfl,rfl⟩:=pQ;exact hj)
 unfold sdV at hf
 split at hf<;>try (cases hf;done)
 rename_i xs at_ ax
 split at hf<;>try (cases hf;done)
 rename_i a' l' c' hx
 simp only[Option.some.injEq,Prod.mk.injEq] at hf
 obtain⟨rfl,rfl,rfl⟩:=hf
 refine⟨by rw[ax];simp,fun R Q E hQ=>?_⟩
 have e1:Builtin.unsafeSliceData_ at_ p.type ⟨[.slice (some a') l' c']⟩=pure (.pointer (some a')):=by
  show (if c'≠0 then _ else _)=_
  rw[if_pos h]
 simp only[execOp,ax,resolve,rK (show uW X.n e xs=_ from hx),ae,invoke,builtin,e1]
 exact hQ _ _ ⟨rfl,rfl⟩
def usV(P:Program)(n:Nat)(p:Oper)(e:Env):Option (Nat×TypeId):=match p.op with
 | .call ⟨.builtin .unsafeString,xs,at_⟩=>match at_[0]? with
  |some pt=>match aZ P pt with
   |some ⟨.pointer E,_,_,_⟩=>bif Nat.beq (P.cellsOf E) 1 then (match xF n e xs.toList with
    |some [.pointer (some ⟨b,0,none⟩),.int .i64 1]=>some (b,E)
    |_=>none) else none
   |_=>none
  |none=>none
 |_=>none
theorem jus(ps:List Nat)(x:Int)(l:List Value)(hj:∀L',J X (mL ps (.string ⟨#[x.toNat.toUInt8]⟩) L' o))(hv:eR X.n (usV X.P X.n) o=some (b,E):=by kernel_rfl)(hB:dL ps o=some [(b,.cells ⟨.int .u8 x::l⟩ E (0,0))]:=by kernel_rfl):J X o:=by
 refine jS (Φ:=fun u L'=>u= .string ⟨#[x.toNat.toUInt8]⟩) ps _ hv hB (fun p e hf=>?_) (fun u L' pQ=>by subst pQ;exact hj L')
 unfold usV at hf
 split at hf<;>try (cases hf;done)
 rename_i xs at_ ax
 split at hf<;>try (cases hf;done)
 rename_i pt hpt
 split at hf<;>try (cases hf;done)
 rename_i E' _ _ _ dJ
 cases hc:Nat.beq (X.P.cellsOf E') 1 with
 |false=>rw[hc] at hf;cases hf
 |true=>
  rw[hc] at hf
  simp only[cond_true] at hf
  split at hf<;>try (cases hf;done)
  rename_i b' hx
  simp only[Option.some.injEq,Prod.mk.injEq] at hf
  obtain⟨rfl,rfl⟩:=hf
  have hc:=Nat.eq_of_beq_eq_true hc
  obtain⟨bB,tf⟩:=av dJ
  refine⟨by rw[ax];simp,fun R Q Er hQ=>?_⟩
  have e1:Builtin.unsafeString_ at_ p.type ⟨[.pointer (some ⟨b',0,none⟩),.int .i64 1]⟩=(do
   let n ←asInt (.int .i64 1)
   let some pt:=at_[0]?|stuck "unsafe.String: no argument types"
   if n <0 then runtimePanic (.error "unsafe.String: len out of range")
   if n>IntKind.i64.max then unsupported (.unsafePointer "String: a length above the largest int")
   if n=0 then pure (.string .empty)
   else if ←variablesAt ⟨b',0,none⟩ (←elemOf pt) n.toNat then do
    let s ←loadBytes ⟨b',0,none⟩ .empty n.toNat
    freeze ⟨b',0,none⟩ n.toNat
    pure (.string s)
   else unsupported (.unsafePointer "String: not so many bytes at ptr")):=rfl
  simp only[execOp,ax,resolve,rK (show uW X.n e xs=_ from hx),ae,invoke,builtin,e1]
  simp only[asInt,asIntOf,aa,ae,hpt,show ¬((1:Int) <0) by omega,show ¬((1:Int)>IntKind.i64.max) by decide,show ¬((1:Int)=0) by omega,if_false,elemOf,a8 tf,variablesAt,eH]
  have hs:(⟨X.ro,[(b',Obj.cells ⟨Value.int .u8 x::l⟩ E' (0,0))]++R⟩:St).rw=[]++(b',Obj.cells ⟨Value.int .u8 x::l⟩ E' (0,0))::R:=rfl
  have hm:(⟨X.ro,[(b',Obj.cells ⟨Value.int .u8 x::l⟩ E' (0,0))]++R⟩:St).has b' (.cells ⟨Value.int .u8 x::l⟩ E' (0,0)):= .inr (by rw[hs];exact fg)
  refine⟨_,hm,?_⟩
  have aDd:=Go.Lib.liesAt_bytes (P:=X.P) hc ((Value.int .u8 x::l).length / X.P.cellsOf E') 1 (by rw[hc];simp)
  have pb:∀ {α β:Type} (a:α) (f:α→Sem β),(Sem.pure a).bind f=f a:=fun _ _=>rfl
  simp only[Obj.shapeOf,List.size_toArray,aa,ae,pb]
  rw[show (1:Int).toNat=1 from rfl,aDd]
  simp only[ae,aa,if_true,loadBytes]
  refine⟨rfl,rfl,_,_,_,.int .u8 x,hm,rfl,?_⟩
  simp only[aa,ae]
  refine(if_neg (by omega:¬(1:Nat)=0)).mpr ?_
  refine⟨[],_,R,hs,?_⟩
  exact hQ (.string ⟨#[x.toNat.toUInt8]⟩) [(b',_)] rfl
def pnV(P:Program)(n:Nat)(p:Oper)(e:Env):Option (Nat×Nat):=match p.op with
 | .binOp .neq T x y _=>match aZ P T with
  |some ⟨.pointer E,_,_,_⟩=>match aZ P E with
   |some te=>bif Nat.blt 0 te.size then (match bp n e x with
    |some (.pointer (some ⟨b,0,none⟩))=>match bp n e y with
     |some (.pointer (some ⟨c,0,none⟩))=>some (b,c)
     |_=>none
    |_=>none) else none
   |none=>none
  |_=>none
 |_=>none
theorem anK{dep:Nat}{t:TypeId}{sz2 A0:Nat}{z z2:List Value}{ag2:Bool}(tf:TF P t (.pointer E) sz bB z ag){d:TypeDesc}(qz:TF P E d sz2 A0 z2 ag2)(hs:sz2≠0)(a:Addr):EqD P (dep+1) t (.pointer (some a)) (.pointer (some a)) true:=by
 intro α s kk Q Er
 simp only[Op.equalIn,aa,a8 tf,cd qz,hs,ne_eq,not_false_eq_true,if_true,sameAddr,beq_self_eq_true,ae]
theorem jpn(hj:J X (mL [] (.bool false) [] o))(hv:eR X.n (pnV X.P X.n) o=some (b,b):=by kernel_rfl)(hB:dL [] o=some []:=by kernel_rfl):J X o:=by
 refine jS (Φ:=fun u L'=>u= .bool false∧L'=[]) [] [] hv hB (fun p e hf=>?_) (fun u L' pQ=>by obtain⟨rfl,rfl⟩:=pQ;exact hj)
 unfold pnV at hf
 split at hf<;>try (cases hf;done)
 rename_i T x y T2 ax
 split at hf<;>try (cases hf;done)
 rename_i E' _ _ _ dJ
 split at hf<;>try (cases hf;done)
 rename_i te tO
 cases hc:Nat.blt 0 te.size with
 |false=>rw[hc] at hf;cases hf
 |true=>
  rw[hc] at hf
  simp only[cond_true] at hf
  split at hf<;>try (cases hf;done)
  rename_i b' hx
  split at hf<;>try (cases hf;done)
  rename_i c' hy
  simp only[Option.some.injEq,Prod.mk.injEq] at hf
  obtain⟨rfl,rfl⟩:=hf
  obtain⟨bB,tf⟩:=av dJ
  obtain⟨A0,qz⟩:=av tO
  have hc:0 <te.size:=by rwa[Nat.blt_eq] at hc
  refine⟨by rw[ax];simp,fun R Q Er hQ=>?_⟩
  have hs:te.size≠0:=by omega
  simp only[execOp,ax,aF hx,aF hy,eqGuard,aa,binOp,Op.equal,Op.maxDepth]
  simp only[Bool.not_true,Bool.false_eq_true,if_false,ae,aa]
  rw[anK (dep:=9999) tf qz hs]
  exact hQ _ _ ⟨rfl,rfl⟩
end
attribute [irreducible] smV smA smL smR sdV usV pnV
section
variable {X:Cx} {o:Option JS}
def s0V(P:Program)(n:Nat)(p:Oper)(e:Env):Option (Addr×Nat×Nat):=match p.op with
 | .slice T x none (some y) none=>match aZ P T with
  |some ⟨.slice E,_,_,_⟩=>match aZ P E with
   |some _=>match bp n e x with
    |some (.slice (some ⟨b,0,none⟩) l c)=>match bp n e y with
     |some (.int .i64 0)=>some (⟨b,0,none⟩,l,c)
     |_=>none
    |_=>none
   |none=>none
  |_=>none
 |_=>none
theorem js0{a:Addr}{l c:Nat}(hj:J X (jQ (.slice (some a) 0 c) o))(hv:dE X.n (s0V X.P X.n) o=some (a,l,c):=by kernel_rfl):J X o:=by
 refine jG hv (fun s p e ho hh hf=>?_) hj
 unfold s0V at hf
 split at hf<;>try (cases hf;done)
 rename_i T x y ax
 split at hf<;>try (cases hf;done)
 rename_i E _ _ _ dJ
 split at hf<;>try (cases hf;done)
 rename_i te tO
 split at hf<;>try (cases hf;done)
 rename_i b l' c' hx
 split at hf<;>try (cases hf;done)
 rename_i hy
 simp only[Option.some.injEq,Prod.mk.injEq] at hf
 obtain⟨rfl,rfl,rfl⟩:=hf
 obtain⟨bB,tf⟩:=av dJ
 obtain⟨A0,qz⟩:=av tO
 have key:∀s,Yields X.P X.n e p s (.slice (some ⟨b,0,none⟩) 0 c'):=by
  intro s s' mI f hf K E hK
  have hb:(0:Int)≤0∧(0:Int)≤(c':Int):=by omega
  simp only[execOp,ax,Option.map_some,Option.map_none,Instr.sliceAt,Instr.slice,hf _ _ hx,hf _ _ hy,aa,a8 tf,Instr.sliceBounds,Instr.sliceBound,asIntOf,ae,hb,and_self,if_true,cd qz]
  have he:(if c'=0 then (some ⟨b,0,none⟩:Option Addr) else some ((⟨b,0,none⟩:Addr).add (0*te.size)))=some ⟨b,0,none⟩:=by
   split
   ·rfl
   simp[dH]
  rw[show (0:Int).toNat=0 from rfl,he]
  exact hK
 exact⟨by rw[ax];rfl,fun _=>key _,fun _=>key⟩
end
attribute [irreducible] s0V
section
variable {X:Cx} {o:Option JS}
def cpV(P:Program)(n:Nat)(p:Oper)(e:Env):Option Nat:=match p.op with
 | .call ⟨.builtin .cap,⟨[x]⟩,⟨[T]⟩⟩=>match aZ P T with
  |some ⟨.slice _,_,_,_⟩=>match bp n e x with
   |some (.slice _ _ c)=>some c
   |_=>none
  |_=>none
 |_=>none
theorem jcp{c:Nat}(hj:J X (jQ (.int .i64 (c:Int)) o))(hv:dE X.n (cpV X.P X.n) o=some c:=by kernel_rfl):J X o:=by
 refine jG hv (fun s p e ho hh hf=>?_) hj
 unfold cpV at hf
 split at hf<;>try (cases hf;done)
 rename_i x T ax
 split at hf<;>try (cases hf;done)
 rename_i dJ
 split at hf<;>try (cases hf;done)
 rename_i a l c' hx
 simp only[Option.some.injEq] at hf
 subst hf
 obtain⟨bB,tf⟩:=av dJ
 have key:∀s,Yields X.P X.n e p s (.int .i64 (c':Int)):=by
  intro s s' mI f hf K E hK
  simp only[execOp,ax,resolve,invoke,builtin,List.map_toArray,List.map_cons,List.map_nil,hf _ _ hx,ae,aa,Builtin.cap_,List.getElem?_toArray,List.getElem?_cons_zero,a8 tf]
  exact hK
 exact⟨by rw[ax];rfl,fun _=>key _,fun _=>key⟩
end
attribute [irreducible] cpV
def tkO(is:List Nat)(o:Option JS):List Sg:=(qK is o).getD []
theorem aLN{X:Cx}{ι:Type}(is:List Nat)(p:List Nat)(Ks:List (Act→St→Prop))(ef:ι→Env)(wf:ι→List Sg)(Inv:ι→Prop)(μ:ι→Nat)(i0:ι)(h0:Inv i0)(ps:List Nat)(hb:∀i,Inv i→∀K,wG X K ef (fun i=>wf i++tkO is o) Inv μ (μ i)→∀rest,J X (stW X.P X.fn p (Ks++[K]) (ef i++rest) (wf i++tkO is o)))
 (h1:qP (mQ (ef i0)) o=some (ef i0):=by kernel_rfl)(hd:∀i,lkE (mQ (ef i)) (ef i)=some (ef i):=by intro _;kernel_rfl)(h2:qK ps o=some (wf i0++tkO is o):=by kernel_rfl)(hp:∀K,Jo X.P X.fn p (Ks++[K])=lpB K (xV o):=by intro _;kernel_rfl):J X o:=
 dS p Ks ef (fun i=>wf i++tkO is o) Inv μ i0 h0 ps hb h1 hd h2 hp
attribute [irreducible] tkO
abbrev RCG(ro:Nat→Option Obj)(Φ:Value→(Nat→Option Obj)→Cells→Prop)(fr:Cells):Ending→St→Prop:=fun en s'=>∃v aI Y,en= .returned v∧Sub ro aI∧(⟨aI,Y++fr⟩:St).le s'∧Φ v aI Y
def axf(P:Program)(f:FuncId)(args:List Value)(ro:Nat→Option Obj)(own:Cells)(Φ:Value→(Nat→Option Obj)→Cells→Prop):Prop:=
 ∀fr,Fn (C0 P) P f ⟨args⟩ ⟨ro,own++fr⟩ (RCG ro Φ fr)
theorem aBU(hm:P.follows .mixedOrders=true){Φ:Value→(Nat→Option Obj)→Cells→Prop}{L:Cells}(own:List Sg)(kn:Cells)(hk:Knows ro kn)(h:∀fr,J (XC P hm f ro (RCG ro Φ fr)) (jo P f args (own++[.l fr]) kn))(hL:den own=L:=by rfl):axf P f args ro L Φ:=by
 subst hL
 intro fr
 have h:=h fr
 unfold jo at h
 split at h<;>try exact h.elim
 rename_i fn hf
 split at h<;>try exact h.elim
 rename_i c hc
 cases hl:Nat.ble args.length fn.ntmps with
 |false=>rw[hl] at h;exact h.elim
 |true=>
  rw[hl] at h
  have ur:qh P f=fn:=by simp only[qh,hf]
  have:=h hk
  simp only[JP,XC,KQ,ur] at this
  have hd:den (own++[.l fr])=den own++fr:=by rw[lh];rfl
  rw[hd] at this
  exact KW xe hf hc hl this
section
variable {X:Cx} {o:Option JS}
theorem atL{vs:List Value}{own:Cells}{Φ:Value→(Nat→Option Obj)→Cells→Prop}(ps:List Nat)(hC:∀main T,X.C main T→C0 X.P main T)(hf:axf X.P f vs X.ro own Φ)(hj:∀v aI Y,Sub X.ro aI→Φ v aI Y→J (X.at aI) (mL ps v Y o))(h1:eR X.n (xY X.P X.n) o=some (f,vs):=by kernel_rfl)(h2:dL ps o=some own:=by kernel_rfl):J X o:=by
 obtain⟨ops,i,todo,k,e,w,kn,p,rfl,ho,hw,hc⟩:=du h1
 obtain⟨ff,x,xs,at_,fi,ca,ws,ax,hx,rE,rfl⟩:=qn hc
 intro bV
 rcases p with ⟨dst,op,ty,pos,cX,g⟩
 dsimp only at ax;subst ax
 have hp:=bH h2
 have ur:Fn X.C X.P f ⟨fi++ws++ca⟩ ⟨X.ro,den w⟩ (RCG X.ro Φ (den (dA ps 0 w))):=fun main T hT c cs k1 k2=>
  (X.hC main T hT).mono _ ⟨X.ro,own++den (dA ps 0 w)⟩ _ (dI (J:=[]) (by rw[List.append_nil];exact hp) (Sub.refl _)) (Fn.weaken hC (hf _) main T hT c cs k1 k2)
 refine tI (fi:=⟨fi⟩) (ca:=⟨ca⟩) (ws:=fi++ws++ca) X.hC ho hw hx ff rE (R6 fi ws ca) ur (fun v' s' hr=>?_) (fun ch s' hr=>by obtain⟨_,_,_,e,_⟩:=hr;cases e) (fun s' hr=>by obtain⟨_,_,_,e,_⟩:=hr;cases e)
 obtain⟨v,aI,Y,hv,hs,hle,pQ⟩:=hr
 cases hv
 have:=hj _ aI Y hs pQ
 rw[nP ho] at this
 have:=this (bV.up hs)
 simp only[JP,fZ,Ie] at this
 exact this.more X.hC hle
theorem atJ(hq:QR X (RC oU fr Φ))(v:Value)(hs ps:List Nat)(Y:Cells)(fw:Sub oU X.ro)(hR:Φ v Y)(h1:qF (gZ X.P X.n X.fn hs o)=some v:=by kernel_rfl)(h2:OL (gZ X.P X.n X.fn hs o)=OJ (gZ X.P X.n X.fn hs o):=by kernel_rfl)(h3:dL ps o=some (Y++fr):=by kernel_rfl)(h4:yU o=true:=by kernel_rfl):J X o:=
 aM hq v hs ps (Y++fr) fw ⟨v,Y,rfl,St.le_refl _,hR⟩ h1 h2 h3 h4
theorem aLH(hq:QR X (RC oU fr Φ))(v:Value)(ps:List Nat)(A B:Cells)(fw:Sub oU X.ro)(hR:Φ v (A++B))(h1:qF (gZ X.P X.n X.fn [] o)=some v:=by kernel_rfl)(h2:OL (gZ X.P X.n X.fn [] o)=OJ (gZ X.P X.n X.fn [] o):=by kernel_rfl)(h3:dL ps o=some (A++(B++fr)):=by kernel_rfl)(h4:yU o=true:=by kernel_rfl):J X o:=
 aM hq v [] ps ((A++B)++fr) fw ⟨v,A++B,rfl,St.le_refl _,hR⟩ h1 h2 (by rw[h3,List.append_assoc]) h4
theorem aLG{Φ:Value→(Nat→Option Obj)→Cells→Prop}(hq:QR X (RCG oU Φ fr))(v:Value)(ps:List Nat)(Y:Cells)(fw:Sub oU X.ro)(hR:Φ v X.ro Y)(h1:qF (gZ X.P X.n X.fn [] o)=some v:=by kernel_rfl)(h2:OL (gZ X.P X.n X.fn [] o)=OJ (gZ X.P X.n X.fn [] o):=by kernel_rfl)(h3:dL ps o=some (Y++fr):=by kernel_rfl)(h4:yU o=true:=by kernel_rfl):J X o:=
 aM hq v [] ps (Y++fr) (Sub.refl _) ⟨v,X.ro,Y,rfl,fw,St.le_refl _,hR⟩ h1 h2 h3 h4
end
theorem Tm{fn:Func}{c:Code}{R:Ending→St→Prop}{s:St}{os:Os}{out:Array (Nat×ByteArray)}{Post:Value→World→Prop}(hf:P.funcs[f]?=some fn) (hb:fn.body=some c) (hl:Nat.ble args.length fn.ntmps=true) (hi:P.inits.idxOf? f=none)
 (Q9:∀v s0 w,R (.returned v) s0→aR s0 w→w.os=os→w.output=out→Post v w) (Io:∀ch s,¬R (.panicked ch) s)
 (h:Wp (C0 P) f none c (qX P fn R) (A fn.ntmps (fG 0 args) []) s):T0 P os out Post (G (Frame.enter P f ⟨args⟩ .normal) []) s:=by
 have hT:C0 P true (T0 P os out Post):=⟨rfl,os,out,Post,rfl⟩
 have iD:=sj P os out Post
 let b:Frame:={(default:Frame) with fn:=f,kind:= .normal,roundOf:=none}
 have gM:Frame.enter P f ⟨args⟩ .normal=aK b (A fn.ntmps (fG 0 args) []) [.code c]:=by
  rw[←kz args fn.ntmps (Nat.le_of_ble_eq_true hl)]
  simp[Frame.enter,aK,hf,hb,b]
 rw[gM]
 refine h true _ hT b [] [] rfl (by simp[b]) rfl fun e a' s' q=>?_
 have last:∀(todo:List Item),a'.defers=[]→bP P (results fn a'.tmps) s' (fun v s'=>∃s0,s0.le s'∧R (.returned v) s0) (fun _ _=>False)→T0 P os out Post (G {aK b a' todo with mode:= .returning} []) s':=by
  intro todo hd hr
  refine Zh rfl fun w oX s9 Eh=>?_
  obtain⟨r,es,bU,hl⟩:=gz _ _ _ _ w #[] hr oX
  rw[Array.empty_append] at bU
  cases r with
  |ok v w'=>
   obtain⟨s2,ht,s0,hle,hu⟩:=hl
   refine⟨v,w',seen P f es,s2,?_,Q9 v s0 w' hu (aR.of_le hle ht.jC) (ht.os.trans s9) (ht.output.trans Eh),ht.sub (ij _ _ _)⟩
   simp only[aK,b,G,stepG,unwind,hf,hd,bU,doReturn,hi,GStep.after,Array.append_empty,Bool.not_true,Bool.false_eq_true,if_false]
  |halt _ _=>obtain⟨_,_,hu⟩:=hl;exact hu.elim
 cases e with
 |normal=>exact iD.go rfl rfl (g':=G {aK b a' [] with mode:= .returning} []) (fun w=>by simp[G,stepG,stepG.exec,aK,b]) (last _ q.1 q.2)
 |ret=>exact fun todo=>iD.go rfl rfl (g':=G {aK b a' (.code .ret::todo) with mode:= .returning} []) (fun w=>by simp[G,stepG,stepG.exec,aK,b]) (last _ q.1 q.2)
 |panic ch=>exact(Io _ _ q.2).elim
 |exit id=>exact q.elim
 |goto l=>exact q.elim
 |outgrown=>exact q.elim
def aqR(P:Program)(f:FuncId)(args:List Value)(ro:Nat→Option Obj)(Φ:Value→Cells→Prop):Prop:=
 ∀os out (Post:Value→World→Prop),(∀v Y w,Φ v Y→aR ⟨ro,Y⟩ w→w.os=os→w.output=out→Post v w)→T0 P os out Post (G (Frame.enter P f ⟨args⟩ .normal) []) ⟨ro,[]⟩
theorem aBR(hm:P.follows .mixedOrders=true)(hi:P.inits.idxOf? f=none)(kn:Cells)(hk:Knows ro kn)(h:∀fr,J (XC P hm f ro (RC ro fr Φ)) (jo P f args [.l fr] kn)):aqR P f args ro Φ:=by
 intro os out Post Q9
 have h:=h []
 unfold jo at h
 split at h<;>try exact h.elim
 rename_i fn hf
 split at h<;>try exact h.elim
 rename_i c hc
 cases hl:Nat.ble args.length fn.ntmps with
 |false=>rw[hl] at h;exact h.elim
 |true=>
  rw[hl] at h
  have ur:qh P f=fn:=by simp only[qh,hf]
  have:=h hk
  simp only[JP,XC,KQ,ur] at this
  refine Tm hf hc hl hi (fun v s0 w hr oX s9 Eh=>?_) (fun ch s hr=>?_) this
  ·obtain⟨v',Y,e,hle,pQ⟩:=hr
   cases e
   refine Q9 _ Y w pQ ?_ s9 Eh
   have:=aR.of_le hle oX
   rwa[List.append_nil] at this
  obtain⟨v',Y,e,_⟩:=hr;cases e
open Go.Proofs
theorem au:Tryz.prog.follows .mixedOrders=true:=by kernel_rfl
theorem zB:(∀a b:Bool,((a&&b)=true)=(a=true∧b=true))∧(∀a b:Bool,((a||b)=true)=(a=true∨b=true))∧(∀a b:Bool,((a&&b)=false)=(a=false∨b=false))∧(∀a b:Bool,((a||b)=false)=(a=false∧b=false))∧(∀b:Bool,((!b)=true)=(b=false))∧(∀b:Bool,((!b)=false)=(b=true))∧(∀(p:Prop) [Decidable p],(decide p=true)=p)∧(∀(p:Prop) [Decidable p],(decide p=false)=¬p)∧((¬True)=False)∧(∀p:Prop,(p∨False)=p)∧(∀p:Prop,(False∨p)=p):=
 ⟨Bool.and_eq_true,Bool.or_eq_true,by simp,by simp,by simp,by simp,by simp,by simp,by simp,by simp,by simp⟩
@[reducible] noncomputable def zT:Program:=Tryz.prog
abbrev zS:Value:= .slice none 0 0
abbrev zP(b:Nat):Value:= .pointer (some ⟨b,0,none⟩)
abbrev zI(n:Int):Value:= .int .i64 n
abbrev zU(n:Int):Value:= .int .u64 n
abbrev zO:List Value:=[zS,zS,zS,zS,zS,zS,zS,zS,zI 0,zI 0,zI 0,zS]
theorem zG(l:List α)(k:Nat)(h:k <l.length:=by omega):∃x,l[k]?=some x:=⟨_,List.getElem?_eq_getElem h⟩
theorem zJ{X:Cx}(t:Nat)(p:Prop)[Decidable p](h1:p→J X (Pt t (.bool true) o))(h2:¬p→J X (Pt t (.bool false) o))(hv:JD t o=some (.bool (decide p)):=by kernel_rfl):J X o:=
 js t (decide p) (fun h=>h1 (of_decide_eq_true h)) (fun h=>h2 (of_decide_eq_false h)) hv
theorem zD{X:Cx}(k:Nat)(h:J X (res (adv X.P X.n k [] o)))(he:lhs (adv X.P X.n k [] o)=rhs (adv X.P X.n k [] o):=by kernel_rfl):J X o:=jd k [] h he
theorem zL{l:List α}{a:α}(h:l[i]?=some a):a∈l:=List.mem_of_getElem? h
theorem zR{hm:P.follows .mixedOrders=true}(v:Value)(hs ps:List Nat)(Y:Cells)(hR:Φ v Y)(h1:qF (gZ P (qh P f).ntmps f hs o)=some v:=by kernel_rfl)(h2:OL (gZ P (qh P f).ntmps f hs o)=OJ (gZ P (qh P f).ntmps f hs o):=by kernel_rfl)(h3:dL ps o=some Y:=by kernel_rfl)(h4:yU o=true:=by kernel_rfl):J (X0 P hm f ro (RX ro Φ)) o:=
 aM q0 v hs ps Y (Sub.refl _) ⟨_,_,rfl,rfl,hR⟩ h1 h2 h3 h4
theorem zX{hm:P.follows .mixedOrders=true}(v:Value)(hR:Φ v [])(h1:qF (gZ P (qh P f).ntmps f [] o)=some v:=by kernel_rfl)(h2:OL (gZ P (qh P f).ntmps f [] o)=OJ (gZ P (qh P f).ntmps f [] o):=by kernel_rfl)(h3:dL [] o=some []:=by kernel_rfl)(h4:yU o=true:=by kernel_rfl):J (X0 P hm f ro (RX ro Φ)) o:=
 zR v [] [] [] hR h1 h2 h3 h4
theorem zE(h:J (X0 Tryz.prog au f ro (RX ro Φ)) (jo Tryz.prog f args [] [])):dR Tryz.prog f args ro [] Φ:=bD au [] [] bn h
theorem zC{L:Cells}(own:List Sg)(h:J (X0 Tryz.prog au f ro (RX ro Φ)) (jo Tryz.prog f args own []))(hL:den own=L:=by rfl):dR Tryz.prog f args ro L Φ:=bD au own [] bn h hL
@[reducible] def zN(a k:Nat):List Nat:=List.range' a k
theorem zM:(∀l m:List α,(l++m).length=l.length+m.length)∧(∀(a:α) (l:List α),(a::l).length=l.length+1)∧([]:List α).length=0:=⟨fun _ _=>List.length_append,fun _ _=>rfl,rfl⟩
theorem zK{X:Cx}{m:Nat}{e:Env}{o':Option JS}(h:∀o',sS 0 [] o'=sS m [] o→qP (mQ e) o'=some e→J X o')(h1:sS 0 [] o'=sS m [] o:=by kernel_rfl)(h2:qP (mQ e) o'=some e:=by kernel_rfl):J X o':=h o' h1 h2
def iy(n lo hi:Int):Bool:=decide (lo≤n)&&decide (n≤hi)
theorem eY:dD zT 78 [zI n,zI lo,zI hi] ro (.bool (iy n lo hi)):=by
 refine zE<|zD 10<|jj 4 [(6,.bool false),(14,.bool ((decide (lo≤n))&&(decide (n≤hi))))] (fun gB=>?_) (fun hj=>?_)
 rotate_left
 refine js 10 (decide (lo≤n)) (fun h1=>?_) (fun h1=>?_)
 ·
  have fQ:=h1
  replace fQ:=of_decide_eq_true fQ
  refine zD 4<|jw 14 (.bool ((decide (lo≤n))&&(decide (n≤hi)))) (w:= .bool (decide (n≤hi))) (by rw[h1]<;>rfl) ?_
  exact zK hj
 ·
  have fQ:=h1
  replace fQ:=of_decide_eq_false fQ
  refine zD 4<|jw 14 (.bool ((decide (lo≤n))&&(decide (n≤hi)))) (w:= .bool false) (by rw[h1]<;>rfl) ?_
  exact zK hj
 refine zD 3<|zX (.bool ((decide (lo≤n))&&(decide (n≤hi)))) ⟨rfl,rfl⟩
theorem iS:dD zT 200 [zI n,zI lo,zI hi] ro (.bool (iy n lo hi)):=by
 refine zE<|zD 10<|jj 4 [(6,.bool false),(14,.bool ((decide (lo≤n))&&(decide (n≤hi))))] (fun gB=>?_) (fun hj=>?_)
 rotate_left
 refine js 10 (decide (lo≤n)) (fun h1=>?_) (fun h1=>?_)
 ·
  have fQ:=h1
  replace fQ:=of_decide_eq_true fQ
  refine zD 4<|jw 14 (.bool ((decide (lo≤n))&&(decide (n≤hi)))) (w:= .bool (decide (n≤hi))) (by rw[h1]<;>rfl) ?_
  exact zK hj
 ·
  have fQ:=h1
  replace fQ:=of_decide_eq_false fQ
  refine zD 4<|jw 14 (.bool ((decide (lo≤n))&&(decide (n≤hi)))) (w:= .bool false) (by rw[h1]<;>rfl) ?_
  exact zK hj
 refine zD 3<|zX (.bool ((decide (lo≤n))&&(decide (n≤hi)))) ⟨rfl,rfl⟩
def cb(p:α→Bool):List α→Nat→Int
 | [],_=> -1
 |x::l,k=>bif p x then k else cb p l (k+1)
theorem fo{l:List α}{x:α}(h:l[k]?=some x):l.drop k=x::l.drop (k+1):=by
 obtain⟨h1,h2⟩:=List.getElem?_eq_some_iff.1 h
 rw[List.drop_eq_getElem_cons h1,h2]
theorem eo{l:List α}(h:¬k <l.length):l.drop k=[]:=List.drop_eq_nil_of_le (by omega)
theorem jB{p:α→Bool}{l:List α}{x:α}(h:l[k]?=some x):cb p (l.drop k) k=bif p x then (k:Int) else cb p (l.drop (k+1)) (k+1):=by rw[fo h];rfl
theorem qi{p:α→Bool}{l:List α}(h:¬k <l.length):cb p (l.drop k) k= -1:=by rw[eo h];rfl
abbrev cz(x:Int):List Value:=[zI x]
theorem afh{v:Value}(hl:bI ro v 1 cz xs)(hn:xs.length≤1000000):dD zT 14 [v,zI n] ro (zI (cb (fun y=>decide (y=n)) xs 0)):=by
 obtain⟨fu,ry,rq,eI,rfl,tx,lv,mj⟩:=hl
 refine zE<|zD 10<|dS [1,0,1,0,0] [] (fun(zz:Nat)=>[(0,.slice fu xs.length eI),(1,zI n),(5,zI (zz:Int))]) (fun zz=>[]) (fun zz=>zz≤xs.length∧cb (fun y=>decide (y=n)) xs 0=cb (fun y=>decide (y=n)) (xs.drop zz) zz) (fun zz=>xs.length-zz) 0 ⟨by omega,rfl⟩ [] ?_
 rintro k hI K1 bL rest
 refine zD 8<|zJ 9 ((k:Int) <(xs.length:Int)) (fun h1=>?_) fun h1=>?_
 ·
  refine zD 8 ?_
  obtain⟨fD,eC⟩:=zG xs k
  refine iB eI 1 lv eC<|jl 0 (mj _ _ eC)<|zD 3<|zJ 17 (fD=n) (fun h2=>?_) fun h2=>?_
  ·
   refine zD 7<|zX (zI (k:Int)) ⟨by rw[hI.2,jB eC];simp[*],rfl⟩
  refine zD 4<|ja ((k:Int)+1) (by omega)<|zD 2<|bJ bL (k+1) ⟨by omega,by rw[hI.2,jB eC];simp[*]⟩ (by omega) [] (Sub.refl _)
 refine zD 7<|zX (zI (-1)) ⟨by rw[hI.2,qi (by omega)],rfl⟩
def cy(n:Nat):List Int:=(List.range n).map fun(i:Nat)=>(i:Int)
theorem u9(n:Nat):cy (n+1)=cy n++[(n:Int)]:=by simp[cy,List.range_succ]
theorem gH(n:Nat):(cy n).length=n:=by simp[cy]
def bK(v:Value)(xs:List Int)(d:Nat)(X:Cells):Prop:=∃(k:Nat) (cL:Int),k≤xs.length∧X=[(d,.cells ⟨[v,zI k,zU cL]⟩ 76 (0,0))]
def Dn(ro:Nat→Option Obj)(v:Value)(xs:List Int):Prop:=bI ro v 1 cz xs∧xs.length≤4611686018427387904
theorem Dn.up{v:Value}(h:Dn ro v xs)(hs:Sub ro aI):Dn aI v xs:=⟨h.1.up hs,h.2⟩
theorem toNonzero(h0:¬n <1)(h1:n≤1000000):IntKind.u64.wrap (n+1)≠0:=by
 rw[r5 .u64 rfl _ (by omega) (by simp[IntKind.bits];omega)];omega
theorem toRange{w:Int}(h0:¬n <1)(h1:n≤1000000)(hw:0≤w):0≤IntKind.i64.wrap (Int.tmod (aT .u64 w 16) (IntKind.u64.wrap (n+1)))∧IntKind.i64.wrap (Int.tmod (aT .u64 w 16) (IntKind.u64.wrap (n+1)))≤n:=by
 have e:IntKind.u64.wrap (n+1)=n+1:=r5 .u64 rfl _ (by omega) (by simp[IntKind.bits];omega)
 rw[e]
 have h2:0≤aT .u64 w 16:=Int.fdiv_nonneg hw (by decide)
 have h3:=Int.tmod_nonneg (n+1) h2
 have h4:=Int.tmod_lt_of_pos (aT .u64 w 16) (show 0 <n+1 by omega)
 rw[j6 _ (by omega)]
 omega
theorem aQV(hN:Dn ro vd xs)(hD:bK vd xs d X):dR zT 69 [zP d] ro X (fun r Y=>∃w:Int,r= zU w∧0≤w∧w <18446744073709551616∧bK vd xs d Y):=by
 obtain⟨k,cL,hk,rfl⟩:=hD
 obtain⟨hl,hn⟩:=hN
 obtain⟨fu,ry,rq,eI,rfl,tx,lv,mj⟩:=hl
 refine zC [.b d (.cells ⟨[.slice fu xs.length eI,zI (k:Int),zU cL]⟩ 76 (0,0))]<|jd 19 [0,0]<|aS 13 fun DM DW Bh=>jd 1 [0]<|fS Bh []<|jd 16 [0,0]<|aS 13 fun zl zt yR=>jd 1 [0]<|fS yR []<|jd 16 [0,0]<|aS 13 fun q9 ri p8=>jd 1 [0]<|fS p8 []<|jd 15 [0,0]<|zJ 52 ((k:Int) <(xs.length:Int)) (fun h4=>?_) fun h4=>?_
 ·
  refine jd 16 [0,0,0] ?_
  obtain⟨x66,GJ⟩:=zG xs k
  refine iB eI 1 lv GJ<|jl 0 (mj _ _ GJ)<|zD 5<|aS 20 fun rY sb qE=>jd 1 [0]<|fS qE []<|jd 6 [0]<|ja ((k:Int)+1) (by omega)<|jd 30 [0,0]<|zR (zU (cU .u64 (IntKind.u64.wrap ((cU .u64 (IntKind.u64.wrap ((cU .u64 (cU .u64 (cU .u64 cL (dz .u64 cL 13)) (aT .u64 (cU .u64 cL (dz .u64 cL 13)) 7)) (dz .u64 (cU .u64 (cU .u64 cL (dz .u64 cL 13)) (aT .u64 (cU .u64 cL (dz .u64 cL 13)) 7)) 17))+(IntKind.u64.wrap ((IntKind.u64.wrap x66)*13787848793156543929)))) (aT .u64 (IntKind.u64.wrap ((cU .u64 (cU .u64 (cU .u64 cL (dz .u64 cL 13)) (aT .u64 (cU .u64 cL (dz .u64 cL 13)) 7)) (dz .u64 (cU .u64 (cU .u64 cL (dz .u64 cL 13)) (aT .u64 (cU .u64 cL (dz .u64 cL 13)) 7)) 17))+(IntKind.u64.wrap ((IntKind.u64.wrap x66)*13787848793156543929)))) 30))*10723151780598845931)) (aT .u64 (IntKind.u64.wrap ((cU .u64 (IntKind.u64.wrap ((cU .u64 (cU .u64 (cU .u64 cL (dz .u64 cL 13)) (aT .u64 (cU .u64 cL (dz .u64 cL 13)) 7)) (dz .u64 (cU .u64 (cU .u64 cL (dz .u64 cL 13)) (aT .u64 (cU .u64 cL (dz .u64 cL 13)) 7)) 17))+(IntKind.u64.wrap ((IntKind.u64.wrap x66)*13787848793156543929)))) (aT .u64 (IntKind.u64.wrap ((cU .u64 (cU .u64 (cU .u64 cL (dz .u64 cL 13)) (aT .u64 (cU .u64 cL (dz .u64 cL 13)) 7)) (dz .u64 (cU .u64 (cU .u64 cL (dz .u64 cL 13)) (aT .u64 (cU .u64 cL (dz .u64 cL 13)) 7)) 17))+(IntKind.u64.wrap ((IntKind.u64.wrap x66)*13787848793156543929)))) 30))*10723151780598845931)) 31))) [] [0] [(d,.cells ⟨[.slice fu xs.length eI,zI ((k:Int)+1),zU (IntKind.u64.wrap ((cU .u64 (cU .u64 (cU .u64 cL (dz .u64 cL 13)) (aT .u64 (cU .u64 cL (dz .u64 cL 13)) 7)) (dz .u64 (cU .u64 (cU .u64 cL (dz .u64 cL 13)) (aT .u64 (cU .u64 cL (dz .u64 cL 13)) 7)) 17))+(IntKind.u64.wrap ((IntKind.u64.wrap x66)*13787848793156543929))))]⟩ 76 (0,0))] ⟨_,rfl,(tM _ _).1,(tM _ _).2,k+1,_,(by omega),rfl⟩
 refine jd 28 [0]<|zR (zU (cU .u64 (IntKind.u64.wrap ((cU .u64 (cU .u64 (cU .u64 (cU .u64 cL (dz .u64 cL 13)) (aT .u64 (cU .u64 cL (dz .u64 cL 13)) 7)) (dz .u64 (cU .u64 (cU .u64 cL (dz .u64 cL 13)) (aT .u64 (cU .u64 cL (dz .u64 cL 13)) 7)) 17)) (aT .u64 (cU .u64 (cU .u64 (cU .u64 cL (dz .u64 cL 13)) (aT .u64 (cU .u64 cL (dz .u64 cL 13)) 7)) (dz .u64 (cU .u64 (cU .u64 cL (dz .u64 cL 13)) (aT .u64 (cU .u64 cL (dz .u64 cL 13)) 7)) 17)) 30))*10723151780598845931)) (aT .u64 (IntKind.u64.wrap ((cU .u64 (cU .u64 (cU .u64 (cU .u64 cL (dz .u64 cL 13)) (aT .u64 (cU .u64 cL (dz .u64 cL 13)) 7)) (dz .u64 (cU .u64 (cU .u64 cL (dz .u64 cL 13)) (aT .u64 (cU .u64 cL (dz .u64 cL 13)) 7)) 17)) (aT .u64 (cU .u64 (cU .u64 (cU .u64 cL (dz .u64 cL 13)) (aT .u64 (cU .u64 cL (dz .u64 cL 13)) 7)) (dz .u64 (cU .u64 (cU .u64 cL (dz .u64 cL 13)) (aT .u64 (cU .u64 cL (dz .u64 cL 13)) 7)) 17)) 30))*10723151780598845931)) 31))) [] [0] [(d,.cells ⟨[.slice fu xs.length eI,zI (k:Int),zU (cU .u64 (cU .u64 (cU .u64 cL (dz .u64 cL 13)) (aT .u64 (cU .u64 cL (dz .u64 cL 13)) 7)) (dz .u64 (cU .u64 (cU .u64 cL (dz .u64 cL 13)) (aT .u64 (cU .u64 cL (dz .u64 cL 13)) 7)) 17))]⟩ 76 (0,0))] ⟨_,rfl,(tM _ _).1,(tM _ _).2,k,_,(by omega),rfl⟩
theorem Eu(hN:Dn ro vd xs)(hD:bK vd xs d X)(hn:n≤1000000):dR zT 32 [zP d,zI n] ro X (fun r Y=>∃w:Int,r= zI w∧0≤w∧(w≤n∨w=0)∧bK vd xs d Y):=by
 refine zC [.l X]<|zD 10<|zJ 6 (n <1) (fun h1=>?_) fun h1=>?_
 ·
  refine zD 6<|zR (zI 0) [] [0] X ⟨_,rfl,(by omega),(by omega),hD⟩
 refine zD 5<|jc [0] (aQV hN hD) ?_
 rintro _ X8 ⟨w8,rfl,hw8,hx8,hD8⟩
 refine zD 2<|ja (n+1) (by omega)<|zD 1<|jrm (k:= .u64) (a:=(aT .u64 w8 16)) (b:=(IntKind.u64.wrap (n+1))) 74 (toNonzero h1 hn)<|zD 4<|zR (zI (IntKind.i64.wrap (Int.tmod (aT .u64 w8 16) (IntKind.u64.wrap (n+1))))) [] [0] X8 ⟨_,rfl,(toRange h1 hn hw8).1,.inl (toRange h1 hn hw8).2,hD8⟩
theorem AT(hN:Dn ro vd xs)(hD:bK vd xs d X)(AA: -1000≤lo∧lo≤1000)(hhi: -1000≤hi∧hi≤1000):dR zT 35 [zP d,zI lo,zI hi] ro X (fun r Y=>∃w:Int,r= zI w∧lo≤w∧(w≤hi∨w=lo)∧bK vd xs d Y):=by
 refine zC [.l X]<|zD 10<|ja (hi-lo) (by omega)<|jc (vs:=[zP d,zI (hi-lo)]) [0] (Eu hN hD (by omega)) ?_
 rintro _ X12 ⟨w12,rfl,aYM,pS,aQj⟩
 refine ja (lo+w12) (by omega)<|zD 3<|zR (zI (lo+w12)) [] [0] X12 ⟨_,rfl,(by omega),(by omega),aQj⟩
theorem sU(hN:Dn ro vd xs)(hD:bK vd xs d X)(hn:0≤n∧n≤1000):dR zT 29 [zP d,zI n] ro X (fun r Y=>∃w:Bool,r= .bool w∧bK vd xs d Y):=by
 refine zC [.l X]<|zD 8<|ja (n-1) (by omega)<|jc (vs:=[zP d,zI (n-1)]) [0] (Eu hN hD (by omega)) ?_
 rintro _ X8 ⟨w8,rfl,hw8,hx8,hD8⟩
 refine zD 4<|zR (.bool (decide (w8=0))) [] [0] X8 ⟨_,rfl,hD8⟩
def bs(l:List Nat):ByteArray:=⟨(l.map UInt8.ofNat).toArray⟩
abbrev mf(x:ByteArray):List Value:=[.string x]
structure aU where
 f:ByteArray
 t:ByteArray
abbrev e9(x:aU):List Value:=[.string x.f,.string x.t]
structure aA where
 name:ByteArray
 st:Int
 no:Int
 head:Int
 bold:Bool
abbrev eA(x:aA):List Value:=[.string x.name,.int .i64 x.st,.int .i64 x.no,.int .i64 x.head,.bool x.bold]
structure cY where
 a:Int
 b:Int
 same:Bool
variable {fs:List cY}
abbrev rM(x:cY):List Value:=[.int .i64 x.a,.int .i64 x.b,.bool x.same]
structure bO where
 name:ByteArray
 under:Int
variable {cs:List bO}
abbrev oK(x:bO):List Value:=[.string x.name,.int .i64 x.under]
structure aN where
 k:Int
 st:Int
 ot:Int
 fn:Int
 fl:Int
 tn:Int
 tl:Int
abbrev kA(x:aN):List Value:=[.int .i64 x.k,.int .i64 x.st,.int .i64 x.ot,.int .i64 x.fn,.int .i64 x.fl,.int .i64 x.tn,.int .i64 x.tl]
theorem nj{ps:List α}{x y:α}(h1:ps[i]?=some x) (h2:ps[k]?=some y):((ps.set i y).set k x).Perm ps:=by
 obtain⟨a,rfl⟩:=List.getElem?_eq_some_iff.1 h1
 obtain⟨b,rfl⟩:=List.getElem?_eq_some_iff.1 h2
 exact List.set_set_perm a b
theorem aiH(hN:Dn ro vd xs)(hD:bK vd xs d X)(hm:bI ro vm 1 cz ys)(hy:0 <ys.length∧ys.length≤1000):dR zT 36 [zP d,vm] ro X (fun r Y=>∃w:Int,r= zI w∧w∈ys∧bK vd xs d Y):=by
 obtain⟨qma,qmb,qmo,qmc,rfl,qmk,qmh,qml⟩:=hm
 refine zC [.l X]<|zD 10<|ja ((ys.length:Int)-1) (by omega)<|jc (vs:=[zP d,zI ((ys.length:Int)-1)]) [0] (Eu hN hD (by omega)) ?_
 rintro _ X10 ⟨w10,rfl,afG,rD,U2⟩
 obtain⟨x11,Uo⟩:=zG ys (w10.toNat)
 refine Oz w10 qmc 1 qmh Uo (by omega)<|jl 0 (qml _ _ Uo)<|zD 3<|zR (zI x11) [] [0] X10 ⟨_,rfl,zL Uo,U2⟩
theorem xU{ys:List ByteArray}(hN:Dn ro vd xs)(hD:bK vd xs d X)(hm:bI ro vm 1 mf ys)(hy:0 <ys.length∧ys.length≤1000):dR zT 11 [zP d,vm] ro X (fun r Y=>∃w:ByteArray,r= .string w∧w∈ys∧bK vd xs d Y):=by
 obtain⟨qma,qmb,qmo,qmc,rfl,qmk,qmh,qml⟩:=hm
 refine zC [.l X]<|zD 10<|ja ((ys.length:Int)-1) (by omega)<|jc (vs:=[zP d,zI ((ys.length:Int)-1)]) [0] (Eu hN hD (by omega)) ?_
 rintro _ X10 ⟨w10,rfl,afG,rD,U2⟩
 obtain⟨x11,Uo⟩:=zG ys (w10.toNat)
 refine Oz w10 qmc 1 qmh Uo (by omega)<|jl 0 (qml _ _ Uo)<|zD 3<|zR (.string x11) [] [0] X10 ⟨_,rfl,zL Uo,U2⟩
theorem aiG{n:Nat}(hN:Dn ro vd xs)(hD:bK vd xs d X)(hn:n≤100):dR zT 65 [zP d,zI (n:Int)] ro X (fun r Y=>∃(ps:List Int) (L X':Cells),ay r 1 3 cz ps L∧ps.Perm (cy n)∧Y=L++X'∧bK vd xs d X'):=by
 refine zC [.l X]<|zD 14<|oR<|dS [1,1,0,1,0,0] [] (fun(zz:Nat×Value×Cells)=>[(0,zP d),(1,zI (n:Int)),(4,zS),(5,zz.2.1),(6,zI (zz.1:Int))]) (fun zz=>[.l zz.2.2,.l X]) (fun zz=>zz.1≤n∧ay zz.2.1 1 3 cz (cy zz.1) zz.2.2) (fun zz=>n-zz.1) (⟨0,zS,[]⟩) ⟨by omega,ay.nil _ _ _⟩ [0,1] ?_
 rintro⟨k,v,L⟩ hI K1 bL rest
 dsimp only at hI
 refine zD 7<|zJ 12 ((k:Int) <(n:Int)) (fun h1=>?_) fun h1=>?_
 ·
  refine zD 7<|jn fun b17=>iC (sz:=1) (ps:=cy k) (qs:=[(k:Int)]) (enc:=cz) (w:= .slice (some ⟨b17,0,none⟩) 1 1) [1] [0] [(b17,.cells ⟨([(k:Int)].map cz).flatten⟩ 3 (0,0))] (hI.2) (fun s _ hZ=>bN [(k:Int)] (hZ _ (.head _)) (by intro p hp;rfl)) (fun p _=>ai rfl) (by simp[cy];omega) (fun v18 L18 af7=>?_)
  obtain⟨acA,Y1,Nl⟩:=af7.form
  subst Nl
  refine zD 4<|ja ((k:Int)+1) (by omega)<|zD 2<|bJ bL (⟨k+1,(.slice acA ((cy k++[(k:Int)])).length Y1),L18⟩) ⟨by omega,by rw[u9];exact af7⟩ (by omega) [0,2] (Sub.refl _)
 refine zD 6<|ja ((n:Int)-1) (by omega)<|zD 3<|dS [1,1,1,0,1,0,0] [] (fun(zz:Int×Value×Cells×(List Int)×Cells)=>[(0,zP d),(4,zS),(5,zz.2.1),(7,zI zz.1)]) (fun zz=>[.l zz.2.2.1,.l zz.2.2.2.2]) (fun zz=>(-1≤zz.1∧zz.1 <n)∧ay zz.2.1 1 3 cz zz.2.2.2.1 zz.2.2.1∧zz.2.2.2.1.Perm (cy n)∧bK vd xs d zz.2.2.2.2) (fun zz=>zz.1.toNat) (⟨(n:Int)-1,v,L,cy k,X⟩) ⟨by omega,hI.2,(by rw[show k=n by omega]),hD⟩ [0,1] ?_
 rintro⟨j,v,L,ps,X⟩ Nz K2 mb rest
 dsimp only at Nz
 have hlen:ps.length=n:=by rw[Nz.2.2.1.length_eq,gH]
 refine zD 6<|zJ 22 (j>0) (fun h2=>?_) fun h2=>?_
 ·
  refine zD 8<|jc (vs:=[zP d,zI j]) [1] (Eu hN Nz.2.2.2 (by omega)) ?_
  rintro _ X27 ⟨DR,rfl,aar,IZ,U1⟩
  refine zD 6 ?_
  obtain⟨nT,iO⟩:=zG ps (j.toNat)
  refine pP j 1 Nz.2.1 iO (by omega) fun b30 UR=>oH 0 [1] L (fun s _ hZ=>cw Nz.2.1 UR hZ iO)<|zD 8 ?_
  obtain⟨x36,yG⟩:=zG ps (DR.toNat)
  refine pP DR 1 Nz.2.1 yG (by omega) fun rN avQ=>oH 0 [1] L (fun s _ hZ=>cw Nz.2.1 avQ hZ yG) ?_
  obtain⟨x38,Nc⟩:=zG ps (j.toNat)
  refine pP j 1 Nz.2.1 Nc (by omega) fun b38 aO7=>So 1 0 [zI x36] x36 Nz.2.1 aO7 Nc rfl rfl (Nat.le_of_ble_eq_true rfl) fun L3 ho4=>zD 5 ?_
  obtain⟨x42,Um⟩:=zG ((ps.set j.toNat x36)) (DR.toNat) (by first|omega| (simp only[List.length_set,zM];omega))
  refine pP DR 1 ho4 Um (by omega) fun b42 aO5=>So 0 0 [zI nT] nT ho4 aO5 Um rfl rfl (Nat.le_of_ble_eq_true rfl) fun L5 ho6=>zD 3<|ja (j-1) (by omega)<|zD 2<|bJ mb (⟨j-1,v,L5,((ps.set j.toNat x36).set DR.toNat nT),X27⟩) ⟨by omega,ho6,(nj iO yG).trans Nz.2.2.1,U1⟩ (by omega) [0,1] (Sub.refl _)
 refine zD 8<|zR (v) [] [0,1] (L++X) ⟨_,_,_,Nz.2.1,Nz.2.2.1,rfl,Nz.2.2.2⟩
theorem Rw(p:Int→Bool)(k:Nat):(cy (k+1)).filter p=bif p (k:Int) then (cy k).filter p++[(k:Int)] else (cy k).filter p:=by
 rw[u9,List.filter_append]
 cases h:p (k:Int)<;>simp[h]
theorem ng{n:Nat}{x:Int}(h:x∈cy n):0≤x∧x <n:=by
 simp only[cy,List.mem_map,List.mem_range] at h
 obtain⟨i,h1,rfl⟩:=h
 omega
theorem rk(n:Nat):(cy n).Pairwise (· < ·):=by
 simp only[cy]
 rw[List.pairwise_map]
 exact List.pairwise_lt_range.imp fun h=>by omega
theorem yW(x:Int)(l:List Int)(k:Nat):x∈l→(k:Int)≤cb (fun y=>decide (y=x)) l k∧∃i,cb (fun y=>decide (y=x)) l k=k+i∧l[i.toNat]?=some x∧0≤i:=by
 induction l generalizing k with
 |nil=>intro h;cases h
 |cons y l ih=>
  intro h
  by_cases e:y=x
  ·subst e
   simp only[cb,decide_true,cond_true]
   exact⟨Int.le_refl _,0,by simp,by simp,by simp⟩
  simp only[cb,e,decide_false,cond_false]
  obtain⟨h1,i,h2,h3,h4⟩:=ih (k+1) ((List.mem_cons.1 h).resolve_left fun e2=>e e2.symm)
  refine⟨by omega,i+1,by rw[h2];omega,?_,by omega⟩
  rw[show (i+1).toNat=i.toNat+1 by omega]
  simpa using h3
theorem adT{q:List Int}{n:Nat}(hq:q.Perm (cy n)):((cy n).filter fun i=>decide (cb (fun y=>decide (y=i)) q 0 <many)).length≤many.toNat:=by
 have iP:∀x,x∈cy n→x∈q:=fun x hx=>hq.mem_iff.2 hx
 have h1:(((cy n).filter fun i=>decide (cb (fun y=>decide (y=i)) q 0 <many)).map fun i=>cb (fun y=>decide (y=i)) q 0).Nodup:=by
  rw[List.nodup_iff_pairwise_ne,List.pairwise_map]
  refine((rk n).filter _).imp_of_mem fun {a b} ha hb zh e=>?_
  obtain⟨_,i,e1,g1,_⟩:=yW a q 0 (iP a ((List.mem_filter.1 ha).1))
  obtain⟨_,j,e2,g2,_⟩:=yW b q 0 (iP b ((List.mem_filter.1 hb).1))
  have:i=j:=by omega
  subst this
  rw[g1] at g2
  cases g2
  omega
 have h2:=wS (l₂:=cy many.toNat) h1 fun x hx=>by
  obtain⟨i,h3,rfl⟩:=List.mem_map.1 hx
  obtain⟨h4,h5⟩:=List.mem_filter.1 h3
  have h6:=of_decide_eq_true h5
  obtain⟨h7,_⟩:=yW i q 0 (iP i h4)
  simp only[cy,List.mem_map,List.mem_range]
  exact⟨(cb (fun y=>decide (y=i)) q 0).toNat,by omega,by omega⟩
 simpa [gH] using h2
theorem Ja(p:α→Bool)(l:List α):(l.filter p).length≤l.length:=List.length_filter_le p l
theorem aFl{n:Nat}(hN:Dn ro vd xs)(hD:bK vd xs d X)(hn:n≤100):dR zT 67 [zP d,zI (n:Int),zI many] ro X (fun r Y=>∃(ps:List Int) (L X':Cells),ay r 1 3 cz ps L∧ps.length≤many.toNat∧ps.Pairwise (· < ·)∧(∀x∈ps,0≤x∧x <n)∧Y=L++X'∧bK vd xs d X'):=by
 refine zC [.l X]<|zD 8<|jc (vs:=[zP d,zI (n:Int)]) [0] (aiG hN hD (by first|omega|decide)) ?_
 rintro v13 _ ⟨ZK,L13,X13,UA,aaw,rfl,anr⟩
 refine jg 0 [.l L13,.l X13]<|zD 12<|oR<|dS [1,1,1,0,1,0,0] [] (fun(zz:Nat×Value×Cells)=>[(1,zI (n:Int)),(2,zI many),(6,zS),(7,v13),(8,zz.2.1),(9,zI (zz.1:Int))]) (fun zz=>[.l zz.2.2,.l L13,.l X13]) (fun zz=>zz.1≤n∧ay zz.2.1 1 3 cz ((cy zz.1).filter (fun i=>decide (cb (fun y=>decide (y=i)) ZK 0 <many))) zz.2.2) (fun zz=>n-zz.1) (⟨0,zS,[]⟩) ⟨by omega,ay.nil _ _ _⟩ [0,1,2] ?_
 rintro⟨k,v,L⟩ hI K1 bL rest
 dsimp only at hI
 have hlen:ZK.length=n:=by rw[aaw.length_eq,gH]
 have vJ:=Ja (fun i=>decide (cb (fun y=>decide (y=i)) ZK 0 <many)) (cy k)
 rw[gH] at vJ
 refine zD 7<|zJ 16 ((k:Int) <(n:Int)) (fun h1=>?_) fun h1=>?_
 ·
  refine zD 8<|jp (vs:=[v13,zI (k:Int)]) [1] L13 (fun aH hs hZ=>afh (UA.kQ hZ) (by first|omega| (simp only[List.length_set,zM];omega))) ?_
  refine zD 8<|zJ 24 ((cb (fun y=>decide (y=(k:Int))) ZK 0) <many) (fun h2=>?_) fun h2=>?_
  ·
   refine zD 4<|jn fun b27=>iC (sz:=1) (ps:=((cy k).filter (fun i=>decide (cb (fun y=>decide (y=i)) ZK 0 <many)))) (qs:=[(k:Int)]) (enc:=cz) (w:= .slice (some ⟨b27,0,none⟩) 1 1) [1] [0] [(b27,.cells ⟨([(k:Int)].map cz).flatten⟩ 3 (0,0))] (hI.2) (fun s _ hZ=>bN [(k:Int)] (hZ _ (.head _)) (by intro p hp;rfl)) (fun p _=>ai rfl) (by simp only[List.length_cons,List.length_nil];omega) (fun v28 L28 af3=>?_)
   obtain⟨aJi,aIY,aaH⟩:=af3.form
   subst aaH
   refine zD 4<|ja ((k:Int)+1) (by omega)<|zD 2<|bJ bL (⟨k+1,(.slice aJi ((((cy k).filter (fun i=>decide (cb (fun y=>decide (y=i)) ZK 0 <many)))++[(k:Int)])).length aIY),L28⟩) ⟨by omega,by rw[Rw,decide_eq_true h2];exact af3⟩ (by omega) [0,2,3] (Sub.refl _)
  refine zD 4<|ja ((k:Int)+1) (by omega)<|zD 2<|bJ bL (⟨k+1,v,L⟩) ⟨by omega,by rw[Rw,decide_eq_false h2];exact hI.2⟩ (by omega) [0,1,2] (Sub.refl _)
 refine zD 8<|zR (v) [] [0,2] (L++X13) ⟨_,_,_,hI.2,by rw[show k=n by omega];exact adT aaw,(rk k).filter _,fun x hx=>by have:=ng ((List.mem_filter.1 hx).1);omega,rfl,anr⟩
def aqr:List ByteArray:=[bs [101],bs [121],bs [115,104],bs [97],bs [110,110],bs [116,104],bs [109]]
def toW:List ByteArray:=[bs [],bs [105],bs [115],bs [116],bs [97,101],bs [106],bs [110]]
def Ib(r:aU):Prop:=r.f∈aqr∧r.t∈toW
def jb(c:aN):Prop:=c∈[(⟨1,0,0,0,0,0,0⟩:aN),⟨2,0,0,0,0,0,0⟩,⟨1,1,0,0,0,0,0⟩,⟨2,1,0,0,0,0,0⟩,⟨4,1,0,0,0,0,0⟩]
theorem oy{p:α→Prop}{l:List α}{x:α}(h:∀y∈l,p y)(hx:p x):∀y∈l++[x],p y:=fun y hy=>by
 rcases List.mem_append.1 hy with h1|h1
 ·exact h y h1
 rw[List.mem_singleton] at h1;subst h1;exact hx
theorem awK(hN:Dn ro vd xs)(hD:bK vd xs d X)(hn:0≤many∧many≤100):dR zT 31 [zP d,zI many] ro X (fun r Y=>∃(ps:List aU) (L X':Cells),ay r 2 45 e9 ps L∧ps.length≤many∧(∀r∈ps,Ib r)∧Y=L++X'∧bK vd xs d X'):=by
 refine zC [.l X]<|zD 13<|jc (vs:=[zP d,zI many]) [0] (Eu hN hD (by omega)) ?_
 rintro _ X10 ⟨w10,rfl,afG,rD,U2⟩
 refine zD 3<|oR<|dS [1,1,0,1,0,0] [] (fun(zz:Int×Value×Cells×(List aU)×Cells)=>[(0,zP d),(4,zS),(5,zz.2.1),(6,zI zz.1)]) (fun zz=>[.l zz.2.2.1,.l zz.2.2.2.2]) (fun zz=>(0≤zz.1∧zz.2.2.2.1.length+zz.1≤many)∧ay zz.2.1 2 45 e9 zz.2.2.2.1 zz.2.2.1∧(∀r∈zz.2.2.2.1,Ib r)∧bK vd xs d zz.2.2.2.2) (fun zz=>zz.1.toNat) (⟨w10,zS,[],[],X10⟩) ⟨by simp only[List.length_nil];omega,ay.nil _ _ _,(fun _ h=>by cases h),U2⟩ [0,1] ?_
 rintro⟨j,v,L,ps,X⟩ hI K1 bL rest
 dsimp only at hI
 refine zD 6<|zJ 12 (j>0) (fun h1=>?_) fun h1=>?_
 ·
  refine zD 7<|jn fun b16=>OA (vs:=[zP d,.slice (some ⟨b16,0,none⟩) 7 7]) [2] [0] [(b16,.cells ⟨([(bs [101]),(bs [121]),(bs [115,104]),(bs [97]),(bs [110,110]),(bs [116,104]),(bs [109])].map mf).flatten⟩ 9 (0,0))] (fun aH hs hZ=>xU (hN.up hs) hI.2.2.2 (bC [(bs [101]),(bs [121]),(bs [115,104]),(bs [97]),(bs [110,110]),(bs [116,104]),(bs [109])] hZ.head (by intro p hp;rfl)) (by decide)) ?_
  rintro _ X17 ⟨w17,rfl,aMp,aQi⟩
  refine zD 1<|jn fun H5=>OA (vs:=[zP d,.slice (some ⟨H5,0,none⟩) 7 7]) [1] [0] [(H5,.cells ⟨([(bs []),(bs [105]),(bs [115]),(bs [116]),(bs [97,101]),(bs [106]),(bs [110])].map mf).flatten⟩ 9 (0,0))] (fun aH hs hZ=>xU (hN.up hs) aQi (bC [(bs []),(bs [105]),(bs [115]),(bs [116]),(bs [97,101]),(bs [106]),(bs [110])] hZ.head (by intro p hp;rfl)) (by decide)) ?_
  rintro _ X20 ⟨w20,rfl,at6,ahp⟩
  refine zD 1<|jn fun b7=>jd 5 [0,0]<|jn fun H4=>iC (sz:=2) (ps:=ps) (qs:=[(⟨w17,w20⟩:aU)]) (enc:=e9) (w:= .slice (some ⟨H4,0,none⟩) 1 1) [5] [0] [(H4,.cells ⟨([(⟨w17,w20⟩:aU)].map e9).flatten⟩ 45 (0,0))] (hI.2.1) (fun s _ hZ=>bN [(⟨w17,w20⟩:aU)] (hZ _ (.head _)) (by intro p hp;rfl)) (fun p _=>ai rfl) (by simp<;>omega) (fun v25 L25 af5=>?_)
  obtain⟨aJk,aI0,aOq⟩:=af5.form
  subst aOq
  refine zD 4<|ja (j-1) (by omega)<|zD 2<|bJ bL (⟨j-1,(.slice aJk ((ps++[(⟨w17,w20⟩:aU)])).length aI0),L25,(ps++[(⟨w17,w20⟩:aU)]),X20⟩) ⟨by simp only[zM];omega,af5,oy hI.2.2.1 ⟨aMp,at6⟩,ahp⟩ (by omega) [0,3] (Sub.refl _)
 refine zD 8<|zR (v) [] [0,1] (L++X) ⟨_,_,_,hI.2.1,(by omega),hI.2.2.1,rfl,hI.2.2.2⟩
theorem aFk(hN:Dn ro vd xs)(hD:bK vd xs d X):dR zT 30 [zP d] ro X (fun r Y=>∃w:aN,r= .agg ⟨kA w⟩∧jb w∧bK vd xs d Y):=by
 refine zC [.l X]<|zD 2<|jn fun b2=>zD 8<|jn fun b9=>zD 9<|jc (vs:=[zP d,zI 4]) [2] (Eu hN hD (by omega)) ?_
 rintro _ X15 ⟨w15,rfl,aMq,afz,awe⟩
 obtain⟨Bc,mv⟩:=zG ([(⟨1,0,0,0,0,0,0⟩:aN),(⟨2,0,0,0,0,0,0⟩:aN),(⟨1,1,0,0,0,0,0⟩:aN),(⟨2,1,0,0,0,0,0⟩:aN),(⟨4,1,0,0,0,0,0⟩:aN)]:List _) (w15.toNat) (show w15.toNat <5 from by omega)
 refine Oz (a:=(some ⟨b9,0,none⟩)) (b:=b9) (off:=0) w15 5 7 (fun _ _=>rfl) mv (by omega)<|oH (m:=7) 0 [1] [(b9,.cells ⟨([(⟨1,0,0,0,0,0,0⟩:aN),(⟨2,0,0,0,0,0,0⟩:aN),(⟨1,1,0,0,0,0,0⟩:aN),(⟨2,1,0,0,0,0,0⟩:aN),(⟨4,1,0,0,0,0,0⟩:aN)].map kA).flatten⟩ 83 (0,0))] (fun s _ hZ=>wO (hZ _ (.head _)) (by intro p hp;rfl) mv) ?_
 refine jd 3 [2]<|zR (.agg ⟨[zI Bc.k,zI Bc.st,zI Bc.ot,zI Bc.fn,zI Bc.fl,zI Bc.tn,zI Bc.tl]⟩) [2] [0] X15 ⟨Bc,rfl,zL mv,awe⟩
def Gz(b:UInt8):Bool:=Nat.ble 97 b.toNat&&Nat.ble b.toNat 122
def Gg(b:UInt8):Bool:=Nat.ble 65 b.toNat&&(Nat.ble b.toNat 90&& !(Nat.beq b.toNat 72||Nat.beq b.toNat 81||Nat.beq b.toNat 87))
def Script(w:ByteArray):Prop:=(∀b∈w.data.toList,Gz b=true)∨(∀b∈w.data.toList,Gg b=true)
def YN(w:ByteArray):Prop:=(0 <w.size∧w.size≤7)∧Script w
def Oi(w:ByteArray):Prop:=(1≤w.size∧w.size≤3)∧Script w
theorem ac8{w:ByteArray}(h:(w.data.toList.all Gz||w.data.toList.all Gg)=true)(h1:(Nat.blt 0 w.size&&Nat.ble w.size 7)=true):YN w:=by
 simp only[Bool.or_eq_true,List.all_eq_true] at h
 simp only[Bool.and_eq_true,Nat.blt_eq,Nat.ble_eq] at h1
 exact⟨h1,h⟩
theorem azP{w:ByteArray}(h:w∈[bs [97,101,115],bs [115,104,101,116,97],bs [115,109,105,116,121,104,97],bs [99,104,106,97],bs [97,110,110,101]]):YN w:=by
 simp only[List.mem_cons,List.not_mem_nil,or_false] at h
 rcases h with rfl|rfl|rfl|rfl|rfl<;>exact ac8 (by decide) (by decide)
theorem azO{w:ByteArray}(h:w∈[bs [65,69,83],bs [88,69,84,65],bs [83,77,73,84,89,65],bs [67,74,65,88],bs [65,78,78,69]]):YN w:=by
 simp only[List.mem_cons,List.not_mem_nil,or_false] at h
 rcases h with rfl|rfl|rfl|rfl|rfl<;>exact ac8 (by decide) (by decide)
def m8:List ByteArray:=[bs [102,111,111,100],bs [98,114,101,97,100],bs [99,108,111,116,104],bs [104,97,116,115],bs [119,111,111,100],bs [105,114,111,110],bs [98,101,101,114],bs [105,110],bs [115,101,101]]
def oT:List ByteArray:=[bs [98,97,107,101,114],bs [98,97,107,101,114,115],bs [98,111,110,110,101,116,115],bs [98,114,101,119,101,114],bs [98,114,117,115,104,101,115],bs [98,117,116,99,104,101,114],bs [99,97,110,100,108,101,115],bs [99,111,111,112,101,114],bs [99,111,111,112,101,114,115],bs [99,117,116,108,101,114],bs [104,97,116,116,101,114],bs [104,111,115,105,101,114],bs [109,101,114,99,101,114],bs [109,105,108,108,105,110,101,114],bs [116,97,105,108,111,114],bs [116,97,110,110,101,114]]
theorem Ge{T:TypeId}{n:Nat}{enc:α→List Value}(ps:List α)(hn:ps.length=n)(hl:∀p∈ps,(enc p).length=sz):ay (.slice (some ⟨b,0,none⟩) n n) sz T enc ps [(b,.cells ⟨(ps.map enc).flatten⟩ T (0,0))]:=by
 subst hn
 exact .inr ⟨b,_,ps.length,rfl,rfl,jW ps hl,Nat.le_refl _,hl,by rw[←jW ps hl,List.take_length]⟩
theorem S6{s t w:ByteArray}(h:∀b∈s.data.toList,b∈w.data.toList)(k:∀b∈t.data.toList,b∈w.data.toList):∀b∈(s++t).data.toList,b∈w.data.toList:=fun b hb=>by
 rw[ByteArray.data_append,Array.toList_append,List.mem_append] at hb
 exact hb.elim (h b) (k b)
theorem Ph{w:ByteArray}(i j:Nat):∀b∈(w.extract i j).data.toList,b∈w.data.toList:=fun b hb=>by
 rw[ByteArray.data_extract,Array.toList_extract] at hb
 exact List.mem_of_mem_drop (List.mem_of_mem_take (by simpa [List.extract] using hb))
theorem Tj{s w:ByteArray}(h:∀b∈s.data.toList,b∈w.data.toList)(hw:Script w):Script s:=hw.imp (fun k b hb=>k b (h b hb)) (fun k b hb=>k b (h b hb))
theorem Yk(hN:Dn ro vd xs)(hD:bK vd xs d X):dR zT 34 [zP d,zI 3] ro X (fun r Y=>∃w:ByteArray,r= .string w∧Oi w∧bK vd xs d Y):=by
 refine zC [.l X]<|zD 7<|jn fun rX=>OA (vs:=[zP d,.slice (some ⟨rX,0,none⟩) 5 5]) [1] [0] [(rX,.cells ⟨([(bs [97,101,115]),(bs [115,104,101,116,97]),(bs [115,109,105,116,121,104,97]),(bs [99,104,106,97]),(bs [97,110,110,101])].map mf).flatten⟩ 9 (0,0))] (fun aH hs hZ=>xU (hN.up hs) hD (bC [(bs [97,101,115]),(bs [115,104,101,116,97]),(bs [115,109,105,116,121,104,97]),(bs [99,104,106,97]),(bs [97,110,110,101])] hZ.head (by intro p hp;rfl)) (by decide)) ?_
 rintro _ X11 ⟨w11,rfl,aMs,aQk⟩
 refine zD 6<|jc (vs:=[zP d,zI 3]) [0] (sU hN aQk (by omega)) ?_
 rintro _ X13 ⟨w13,rfl,anr⟩
 refine zD 1<|GF [1,1,1] [] (fun(zz:ByteArray×Cells)=>[(0,zP d),(1,zI 3),(4,.string (bs [])),(5,.string zz.1)]) (fun zz=>[.l zz.2]) (fun zz=>YN zz.1∧bK vd xs d zz.2) ?_ (fun K1 bL=>?_)
 ·
  rintro⟨w,X⟩ hJ rest
  dsimp only at hJ
  obtain⟨⟨Xz,hw7⟩,rE⟩:=hJ.1
  refine zD 9<|jmn (k:= .i64) (a:=3) (b:=6)<|jc (vs:=[zP d,zI 1,zI (min 3 6)]) [0] (AT hN hJ.2 (by omega) (by omega)) ?_
  rintro _ X20 ⟨w20,rfl,at6,Nf,ahp⟩
  refine zD 3<|dS [1,1,1,1,0,1,0,0] [] (fun(zz:Int×ByteArray×Cells)=>[(0,zP d),(4,.string (bs [])),(5,.string w),(6,.string zz.2.1),(7,zI zz.1)]) (fun zz=>[.l zz.2.2]) (fun zz=>(0≤zz.1∧zz.2.1.size+zz.1=w20)∧(∀b∈zz.2.1.data.toList,b∈w.data.toList)∧bK vd xs d zz.2.2) (fun zz=>zz.1.toNat) (⟨w20,bs [],X20⟩) ⟨⟨by omega,by simp[bs,ByteArray.size]⟩,(fun _ h=>by simp[bs] at h),ahp⟩ [0] ?_
  rintro⟨j,t,Z⟩ hI K2 mb rest
  dsimp only at hI
  refine zD 6<|zJ 22 (j>0) (fun h1=>?_) fun h1=>?_
  ·
   refine zD 9<|ja ((w.size:Int)-1) (by omega)<|jc (vs:=[zP d,zI ((w.size:Int)-1)]) [0] (Eu hN hI.2.2 (by omega)) ?_
   rintro _ X29 ⟨w29,rfl,aYI,Aw,aQe⟩
   refine zD 7<|ja (w29+1) (by omega)<|jtB (b:=w) (lo:=w29) (hi:=(w29+1)) (by omega)<|jsa (a:=t) (b:=(w.extract w29.toNat (w29+1).toNat)) 9 (by rw[ByteArray.size_extract];omega) ?_
   refine zD 4<|ja (j-1) (by omega)<|zD 2<|bJ mb (⟨j-1,(t++(w.extract w29.toNat (w29+1).toNat)),X29⟩) ⟨⟨by omega,by rw[ByteArray.size_append,ByteArray.size_extract];omega⟩,S6 hI.2.1 (Ph _ _),aQe⟩ (by omega) [0] (Sub.refl _)
  refine zD 8<|zR (.string t) [] [0] Z ⟨_,rfl,⟨by omega,Tj hI.2.1 rE⟩,hI.2.2⟩
 refine js 13 w13 (fun h2=>?_) (fun h2=>?_)
 ·
  subst h2
  refine zD 3<|jn fun H6=>OA (vs:=[zP d,.slice (some ⟨H6,0,none⟩) 5 5]) [1] [0] [(H6,.cells ⟨([(bs [65,69,83]),(bs [88,69,84,65]),(bs [83,77,73,84,89,65]),(bs [67,74,65,88]),(bs [65,78,78,69])].map mf).flatten⟩ 9 (0,0))] (fun aH hs hZ=>xU (hN.up hs) anr (bC [(bs [65,69,83]),(bs [88,69,84,65]),(bs [83,77,73,84,89,65]),(bs [67,74,65,88]),(bs [65,78,78,69])] hZ.head (by intro p hp;rfl)) (by decide)) ?_
  rintro _ X16 ⟨w16,rfl,aCc,ahq⟩
  refine zD 2<|bJ bL ⟨w16,X16⟩ ⟨azO aCc,ahq⟩ Nat.zero_lt_one [0] (Sub.refl _)
 subst h2
 refine zD 2<|bJ bL ⟨w11,X13⟩ ⟨azP aMs,anr⟩ Nat.zero_lt_one [0] (Sub.refl _)
theorem ae6:dR zT 66 [] ro [] (fun r Y=>∃L,ay r 1 9 mf m8 L∧Y=L):=by
 refine zE<|zD 6<|jn fun b1=>zD 3<|zR (.slice (some ⟨b1,0,none⟩) 9 9) [] [0] [(b1,.cells ⟨[.string (bs [102,111,111,100]),.string (bs [98,114,101,97,100]),.string (bs [99,108,111,116,104]),.string (bs [104,97,116,115]),.string (bs [119,111,111,100]),.string (bs [105,114,111,110]),.string (bs [98,101,101,114]),.string (bs [105,110]),.string (bs [115,101,101])]⟩ 9 (0,0))] ⟨_,Ge m8 rfl (by intro p hp;rfl),rfl⟩
theorem afm:dR zT 68 [] ro [] (fun r Y=>∃L,ay r 1 9 mf oT L∧Y=L):=by
 refine zE<|zD 6<|jn fun b1=>zD 3<|zR (.slice (some ⟨b1,0,none⟩) 16 16) [] [0] [(b1,.cells ⟨[.string (bs [98,97,107,101,114]),.string (bs [98,97,107,101,114,115]),.string (bs [98,111,110,110,101,116,115]),.string (bs [98,114,101,119,101,114]),.string (bs [98,114,117,115,104,101,115]),.string (bs [98,117,116,99,104,101,114]),.string (bs [99,97,110,100,108,101,115]),.string (bs [99,111,111,112,101,114]),.string (bs [99,111,111,112,101,114,115]),.string (bs [99,117,116,108,101,114]),.string (bs [104,97,116,116,101,114]),.string (bs [104,111,115,105,101,114]),.string (bs [109,101,114,99,101,114]),.string (bs [109,105,108,108,105,110,101,114]),.string (bs [116,97,105,108,111,114]),.string (bs [116,97,110,110,101,114])]⟩ 9 (0,0))] ⟨_,Ge oT rfl (by intro p hp;rfl),rfl⟩
structure bx where
 word:ByteArray
 cls:Int
 nW:Int
 dQ:Value
abbrev lS(x:bx):List Value:=[.string x.word,zI x.cls,zI x.nW,x.dQ]
def VV(hs:List bx)(i:Int):Prop:=0≤i∧∃h,hs[i.toNat]?=some h∧0≤h.cls
theorem VE{p:α→Bool}{l:List α}{x:α}(h:l[k]?=some x):(l.drop k).any p=(p x||(l.drop (k+1)).any p):=by rw[fo h];rfl
theorem aob{p:α→Bool}{l:List α}(h:¬k <l.length):(l.drop k).any p=false:=by rw[eo h];rfl
def C7(fs:List cY)(a b:Int):Bool:=fs.any fun y=>decide (y.a=a)&&decide (y.b=b)
theorem xa{hs:List bx}(hN:Dn ro vd xs)(hD:bK vd xs d X)(hh:bI ro vh 4 lS hs)(hn:hs.length≤100):dR zT 33 [zP d,.agg ⟨[zI 2,zI 0,zI 0,vc,vh,zS,zS]⟩,.string nm] ro X (fun r Y=>∃w:aA,r= .agg ⟨eA w⟩∧w.name=nm∧(0≤w.st∧w.st≤1)∧(w.head= -1∨VV hs w.head)∧bK vd xs d Y):=by
 obtain⟨dG,uD,uC,dr,rfl,wP,qB,qA⟩:=hh
 refine zC [.l X]<|zD 2<|jn fun b4=>jn fun b6=>jd 8 [1]<|jc (vs:=[zP d,zI 1]) [2] (Eu hN hD (by omega)) ?_
 rintro _ X15 ⟨w15,rfl,aMq,afz,awe⟩
 refine zD 2<|jc (vs:=[zP d,zI 1,zI 3]) [0] (AT hN awe (by omega) (by omega)) ?_
 rintro _ X18 ⟨w18,rfl,aYL,aYA,Hg⟩
 refine zD 1<|jc (vs:=[zP d,zI 1,zI 3]) [0] (AT hN Hg (by omega) (by omega)) ?_
 rintro _ X20 ⟨w20,rfl,at6,Nf,ahp⟩
 refine zD 1<|jc (vs:=[zP d,zI 1,zI 40]) [0] (AT hN ahp (by omega) (by omega)) ?_
 rintro _ X22 ⟨w22,rfl,aYK,tN,aQg⟩
 refine jn fun b23=>OA (vs:=[zP d,.slice (some ⟨b23,0,none⟩) 3 3]) [1] [0] [(b23,.cells ⟨([w18,w20,w22].map cz).flatten⟩ 3 (0,0))] (fun aH hs hZ=>aiH (hN.up hs) aQg (bC [w18,w20,w22] hZ.head (by intro p hp;rfl)) (by simp)) ?_
 rintro _ X24 ⟨w24,rfl,aYJ,aQf⟩
 refine zD 1<|jc (vs:=[zP d,zI 4]) [0] (sU hN aQf (by omega)) ?_
 rintro _ X26 ⟨w26,rfl,aEq⟩
 refine zD 1<|jn fun b7=>jd 12 [0]<|oR<|dS [1,1,1,0,1,0,0] [] (fun(zz:Nat×Value×Cells×(List Int))=>[(0,zP d),(4,zP b4),(6,zP b6),(7,zP b7),(8,zz.2.1),(9,zI (zz.1:Int))]) (fun zz=>[.l zz.2.2.1,.l X26,.b b7 (.cells ⟨[.string nm,zI w15,zI w24,zI (-1),.bool w26]⟩ 55 (0,0)),.b b6 (.cells ⟨[.string ByteArray.empty,zI 0,zI 0,zI 0,.bool false]⟩ 55 (0,0)),.b b4 (.cells ⟨[zI 2,zI 0,zI 0,vc,.slice dG hs.length dr,zS,zS]⟩ 90 (0,0))]) (fun zz=>(zz.1≤hs.length∧zz.2.2.2.length≤zz.1)∧ay zz.2.1 1 3 cz zz.2.2.2 zz.2.2.1∧∀i∈zz.2.2.2,VV hs i) (fun zz=>hs.length-zz.1) (⟨0,zS,[],[]⟩) ⟨⟨by omega,by simp⟩,ay.nil _ _ _,(fun _ h=>by cases h)⟩ [0,2,1,4,5] ?_
 rintro⟨k,v,L,ps⟩ hI K1 bL rest
 dsimp only at hI
 refine jd 10 [4]<|zJ 33 ((k:Int) <(hs.length:Int)) (fun h1=>?_) fun h1=>?_
 ·
  refine jd 10 [4] ?_
  obtain⟨x40,at1⟩:=zG hs k
  refine iB dr 4 qB at1<|zD 1<|jl 1 (qA _ _ at1)<|zD 2<|zJ 43 (x40.cls≥0) (fun h2=>?_) fun h2=>?_
  ·
   refine zD 4<|jn fun b46=>iC (sz:=1) (ps:=ps) (qs:=[(k:Int)]) (enc:=cz) (w:= .slice (some ⟨b46,0,none⟩) 1 1) [1] [0] [(b46,.cells ⟨([(k:Int)].map cz).flatten⟩ 3 (0,0))] (hI.2.1) (fun s _ hZ=>bN [(k:Int)] (hZ _ (.head _)) (by intro p hp;rfl)) (fun p _=>ai rfl) (by simp<;>omega) (fun v47 L47 af0=>?_)
   obtain⟨aJe,aIU,aOm⟩:=af0.form
   subst aOm
   refine zD 4<|ja ((k:Int)+1) (by omega)<|zD 2<|bJ bL (⟨k+1,(.slice aJe ((ps++[(k:Int)])).length aIU),L47,(ps++[(k:Int)])⟩) ⟨by simp only[zM];omega,af0,oy hI.2.2 ⟨by omega,x40,at1,by assumption⟩⟩ (by omega) [0,2,3,4,5] (Sub.refl _)
  refine zD 4<|ja ((k:Int)+1) (by omega)<|zD 2<|bJ bL (⟨k+1,v,L,ps⟩) ⟨by dsimp only;omega,hI.2⟩ (by omega) (zN 0 5) (Sub.refl _)
 refine zD 6<|B0 hI.2.1<|zD 2<|js 51 (decide ((ps.length:Int)>0)) (fun h3=>?_) (fun h3=>?_)
 ·
  have vK:=h3
  replace vK:=of_decide_eq_true vK
  refine zD 1<|jc (vs:=[zP d,zI 4]) [1] (sU hN aEq (by omega)) ?_
  rintro _ X53 ⟨w53,rfl,anq⟩
  refine zD 3<|js 55 (!w53) (fun h4=>?_) (fun h4=>?_)
  ·
   try simp only[zB] at h4
   refine zD 5<|B0 hI.2.1<|ja ((ps.length:Int)-1) (by omega)<|jc (vs:=[zP d,zI ((ps.length:Int)-1)]) [0] (Eu hN anq (by omega)) ?_
   rintro _ X61 ⟨w61,rfl,aYF,aYz,aP8⟩
   obtain⟨x62,atY⟩:=zG ps (w61.toNat)
   refine pP w61 1 hI.2.1 atY (by omega) fun b62 aO0=>oH 0 [1] L (fun s _ hZ=>cw hI.2.1 aO0 hZ atY)<|jd 9 [2,2,3]<|zR (.agg ⟨[.string nm,zI w15,zI w24,zI x62,.bool w26]⟩) [3] [0] X61 ⟨⟨_,_,_,_,_⟩,rfl,rfl,(by dsimp only;omega),.inr (hI.2.2 _ (zL atY)),aP8⟩
  try simp only[zB] at h4
  refine jd 8 [2,3]<|zR (.agg ⟨[.string nm,zI w15,zI w24,zI (-1),.bool w26]⟩) [3] [0] X53 ⟨⟨_,_,_,_,_⟩,rfl,rfl,(by dsimp only;omega),.inl rfl,anq⟩
 have vK:=h3
 replace vK:=of_decide_eq_false vK
 refine jd 13 [2,3]<|zR (.agg ⟨[.string nm,zI w15,zI w24,zI (-1),.bool w26]⟩) [3] [1] X26 ⟨⟨_,_,_,_,_⟩,rfl,rfl,(by dsimp only;omega),.inl rfl,aEq⟩
theorem afk(hm:bI ro vm 1 cz ys)(hn:ys.length≤1000):dR zT 27 [vm] ro [] (fun r Y=>∃L,ay r 1 3 cz ys L∧Y=L):=by
 obtain⟨qma,qmb,qmo,qmc,rfl,qmk,qmh,qml⟩:=hm
 refine zE<|zD 6<|jn fun b3=>zD 1<|iC (sz:=1) (ps:=[]) (qs:=ys) (enc:=cz) (w:= .slice qma ys.length qmc) [0] [] [] (bA (b:=b3) (T:=3)) (fun s he _=>⟨qma,qmb,qmo,qmc,rfl,qmh,fun i p hp=>(qml i p hp).ext he⟩) (fun p _=>ai rfl) (by simp<;>omega) (fun v5 L5 GV=>?_)
 rw[List.nil_append] at GV
 obtain⟨va5,vc5,he5⟩:=GV.form
 subst he5
 refine zD 3<|zR ((.slice va5 (ys).length vc5)) [] [0] L5 ⟨_,GV,rfl⟩
theorem gL{ys:List aA}(hm:bI ro vm 5 eA ys)(hn:ys.length≤1000):dR zT 16 [vm] ro [] (fun r Y=>∃L,ay r 5 55 eA ys L∧Y=L):=by
 obtain⟨qma,qmb,qmo,qmc,rfl,qmk,qmh,qml⟩:=hm
 refine zE<|zD 6<|jn fun b3=>zD 1<|iC (sz:=5) (ps:=[]) (qs:=ys) (enc:=eA) (w:= .slice qma ys.length qmc) [0] [] [] (bA (b:=b3) (T:=55)) (fun s he _=>⟨qma,qmb,qmo,qmc,rfl,qmh,fun i p hp=>(qml i p hp).ext he⟩) (fun p _=>ai rfl) (by simp<;>omega) (fun v5 L5 GV=>?_)
 rw[List.nil_append] at GV
 obtain⟨va5,vc5,he5⟩:=GV.form
 subst he5
 refine zD 3<|zR ((.slice va5 (ys).length vc5)) [] [0] L5 ⟨_,GV,rfl⟩
theorem aBK{vf:Value}{x:cY}(hf:bI ro vf 3 rM fs)(hn:fs.length≤1000):dD zT 38 [.agg ⟨[s0,s1,s2,t0,t1,ru,vb,va,zI gone,zI new,zI af,vf]⟩,.agg ⟨[zI x.a,zI x.b,.bool x.same]⟩] ro (.bool (C7 fs x.a x.b)):=by
 obtain⟨jK,Dd,Dc,iV,rfl,JW,xJ,xI⟩:=hf
 refine zE<|zD 2<|jn fun b2=>jn fun b3=>zD 8<|dS [1,0,1,0,0] [] (fun(zz:Nat)=>[(2,zP b2),(3,zP b3),(5,zI (zz:Int))]) (fun zz=>[.b b3 (.cells ⟨[zI x.a,zI x.b,.bool x.same]⟩ 58 (0,0)),.b b2 (.cells ⟨[s0,s1,s2,t0,t1,ru,vb,va,zI gone,zI new,zI af,.slice jK fs.length iV]⟩ 40 (0,0))]) (fun zz=>zz≤fs.length∧C7 fs x.a x.b=(fs.drop zz).any (fun y=>decide (y.a=x.a)&&decide (y.b=x.b))) (fun zz=>fs.length-zz) 0 ⟨by omega,rfl⟩ [0,1] ?_
 rintro k hI K1 bL rest
 refine jd 9 [1]<|zJ 10 ((k:Int) <(fs.length:Int)) (fun h1=>?_) fun h1=>?_
 ·
  refine jd 9 [1] ?_
  obtain⟨Bc,mv⟩:=zG fs k
  refine iB iV 3 xJ mv<|zD 1<|jl 0 (xI _ _ mv)<|jd 4 [0]<|js 9 (decide (Bc.a=x.a)) (fun h2=>?_) (fun h2=>?_)
  ·
   have me:=h2
   replace me:=of_decide_eq_true me
   refine jd 3 [1] ?_
   obtain⟨SM,aaq⟩:=zG fs k
   refine iB iV 3 xJ aaq<|zD 1<|jl 1 (xI _ _ aaq)<|jd 5 [0]<|zJ 32 (SM.b=x.b) (fun h3=>?_) fun h3=>?_
   ·
    refine zD 6<|zX (.bool true) ⟨by rw[hI.2,VE mv];simp_all,rfl⟩
   refine zD 4<|ja ((k:Int)+1) (by omega)<|zD 2<|bJ bL (k+1) ⟨by omega,by rw[hI.2,VE mv];simp_all⟩ (by omega) [0,1] (Sub.refl _)
  have me:=h2
  replace me:=of_decide_eq_false me
  refine zD 15<|ja ((k:Int)+1) (by omega)<|zD 2<|bJ bL (k+1) ⟨by omega,by rw[hI.2,VE mv];simp_all⟩ (by omega) [0,1] (Sub.refl _)
 refine zD 7<|zX (.bool false) ⟨by rw[hI.2,aob (by omega)],rfl⟩
theorem aQU{fa:Value}{uw Lr:List aA}(hN:Dn ro vd xs)(hD:bK vd xs d X)(hb:bI ro vb 5 eA uw)(ha:bI ro va 5 eA Lr)(hn:uw.length≤100∧Lr.length≤100):dR zT 37 [zP d,.agg ⟨[s0,s1,s2,t0,t1,ru,vb,va,zI gone,zI new,zI af,fa]⟩] ro X (fun r Y=>∃x:cY,r= .agg ⟨rM x⟩∧(0≤x.a∧(x.a <uw.length∨x.a=0))∧(0≤x.b∧(x.b <Lr.length∨x.b=0))∧bK vd xs d Y):=by
 obtain⟨lB,Ox,Ov,lf,rfl,Ow,Mt,Ms⟩:=hb
 obtain⟨kR,JZ,JX,kK,rfl,JY,IS,IQ⟩:=ha
 refine zC [.l X]<|zD 2<|jn fun b3=>jn fun b4=>jd 7 [1]<|ja ((uw.length:Int)-1) (by omega)<|jd 4 [1]<|ja ((Lr.length:Int)-1) (by omega)<|zD 1<|aS 5 fun DM DW Bh=>jc (vs:=[zP d,zI ((uw.length:Int)-1)]) [2] (Eu hN hD (by omega)) ?_
 rintro _ X10 ⟨w10,rfl,afG,rD,U2⟩
 refine fS Bh [[2],[2]]<|aS 11 fun zl zt yR=>jc (vs:=[zP d,zI ((Lr.length:Int)-1)]) [0] (Eu hN U2 (by omega)) ?_
 rintro _ X16 ⟨w16,rfl,aCc,mv,ahq⟩
 refine fS yR [[2],[2]]<|aS 13 fun q9 ri p8=>jc (vs:=[zP d,zI 2]) [0] (sU hN ahq (by omega)) ?_
 rintro _ X18 ⟨w18,rfl,Hg⟩
 refine fS p8 [[2],[2]]<|zD 1<|aS 15 fun rY sb qE=>jd 1 [1]<|fT qE<|zD 2<|zR (.agg ⟨[zI w10,zI w16,.bool w18]⟩) [1] [0] X18 ⟨⟨_,_,_⟩,rfl,(by dsimp only;omega),(by dsimp only;omega),Hg⟩
inductive dq{α β:Type}(R:α→β→Prop):List α→List β→Prop
 |nil:dq R [] []
 |cons {a:α} {b:β} {l:List α} {m:List β}:R a b→dq R l m→dq R (a::l) (b::m)
theorem dq.snoc{R:α→β→Prop}{l:List α}{m:List β}{a:α}{b:β}(h:dq R l m)(k:R a b):dq R (l++[a]) (m++[b]):=by
 induction h with
 |nil=>exact .cons k .nil
 |cons h1 _ ih=>exact .cons h1 ih
theorem dq.len{R:α→β→Prop}{l:List α}{m:List β}(h:dq R l m):l.length=m.length:=by
 induction h with
 |nil=>rfl
 |cons _ _ ih=>simp[ih]
theorem dq.get{R:α→β→Prop}{l:List α}{m:List β}(h:dq R l m){a:α}(ha:l[i]?=some a):∃b,m[i]?=some b∧R a b:=by
 induction h generalizing i with
 |nil=>simp at ha
 |cons h1 _ ih=>
  cases i with
  |zero=>simp at ha;subst ha;exact⟨_,rfl,h1⟩
  |succ i=>exact ih (by simpa using ha)
theorem dq.imp{R S:α→β→Prop}{l:List α}{m:List β}(h:dq R l m)(k:∀a b,R a b→S a b):dq S l m:=by
 induction h with
 |nil=>exact .nil
 |cons h1 _ ih=>exact .cons (k _ _ h1) ih
structure cm where
 word:ByteArray
 cls:Int
 nW:Int
 dQ:List Int
variable {hd:List cm}
def dj(h:bx)(x:cm):Prop:=h.word=x.word∧h.cls=x.cls∧h.nW=x.nW
def q6(ro:Nat→Option Obj)(h:bx)(x:cm):Prop:=h.word=x.word∧h.cls=x.cls∧h.nW=x.nW∧bI ro h.dQ 1 cz x.dQ
def iT(ro:Nat→Option Obj)(vc vh:Value)(cs:List bO)(hv:List bx)(hd:List cm):Prop:=bI ro vc 2 oK cs∧bI ro vh 4 lS hv∧dq (q6 ro) hv hd
def gA(nc nh:Nat)(i:Nat)(x:cm):Prop:=(-1≤x.cls∧x.cls <nc)∧(-1≤x.nW∧x.nW <nh∧x.nW≠i)∧(x.dQ.length≤nh∧x.dQ.Pairwise (· < ·)∧∀y∈x.dQ,0≤y∧y <nh∧y≠i)∧(x.nW≠ -1→x.cls= -1∧x.dQ=[])∧(x.nW= -1→x.cls= -1→x.dQ≠[])
structure wE(cs:List bO)(hd:List cm):Prop where
 nc:0 <cs.length∧cs.length≤3
 nh:hd.length≤4
 cls:∀(i:Nat) (c:bO),cs[i]?=some c→c.name∈m8∧ -1≤c.under∧c.under <i
 names:(cs.map (·.name)).Pairwise fun a b=>cQ a b=false
 AD:∀(i:Nat) (x:cm),hd[i]?=some x→x.word∈oT∧gA cs.length hd.length i x
 words:(hd.map (·.word)).Pairwise fun a b=>cQ a b=false∧strLt b a=false
def nI(names:List Int)(cs:List bO):Prop:=∀(i:Nat) (c:bO),cs[i]?=some c→(∃y,names[i]?=some y∧m8[y.toNat]?=some c.name)∧ -1≤c.under∧c.under <i
theorem Rg{l:List α}{x y:α}(h:(l++[x])[i]?=some y):l[i]?=some y∨(i=l.length∧y=x):=by
 rcases Nat.lt_trichotomy i l.length with h1|h1|h1
 ·rw[List.getElem?_append_left h1] at h;exact .inl h
 ·subst h1;simp at h;exact .inr ⟨rfl,h.symm⟩
 rw[List.getElem?_eq_none (by simp;omega)] at h;cases h
theorem nI.snoc{names:List Int}(h:nI names cs){y u:Int}(h1:names[cs.length]?=some y) (h2:m8[y.toNat]?=some nm) (h3: -1≤u∧u <cs.length):nI names (cs++[⟨nm,u⟩]):=fun i c hc=>by
 rcases Rg hc with h4| ⟨rfl,rfl⟩
 ·exact h i c h4
 exact⟨⟨y,h1,h2⟩,h3⟩
def mE(ws:List Int)(nc:Nat)(hv:List bx)(hd:List cm)(Z:Cells)(i:Nat):Prop:=
 (∀ro,Knows ro Z→dq (q6 ro) hv hd)∧hd.length=i∧hv.length=i∧(∀(k:Nat) (x:cm),hd[k]?=some x→(∃w,ws[k]?=some w∧oT[w.toNat]?=some x.word)∧gA nc ws.length k x)∧dq dj hv hd
theorem mE.snoc{ws:List Int}{hv:List bx}{Z A:Cells}(h:mE ws nc hv hd Z i){hV:bx}{x:cm}{w:Int}(h0:dj hV x)(h1:∀ro,Knows ro A→q6 ro hV x)(h2:ws[i]?=some w) (h3:oT[w.toNat]?=some x.word) (h4:gA nc ws.length i x):
 mE ws nc (hv++[hV]) (hd++[x]) (A++Z) (i+1):=by
 obtain⟨g1,g2,g3,g4,g5⟩:=h
 refine⟨fun ro hk=>(g1 ro hk.right).snoc (h1 ro hk.left),by simp[g2],by simp[g3],fun k y hy=>?_,g5.snoc h0⟩
 rcases Rg hy with h5| ⟨rfl,rfl⟩
 ·exact g4 k y h5
 rw[g2];exact⟨⟨w,h2,h3⟩,h4⟩
theorem alQ{i w:Int}(hi:0≤i∧i <n)(hw:0≤w∧w≤n-2):0≤Int.tmod (i+1+w) n∧Int.tmod (i+1+w) n <n∧Int.tmod (i+1+w) n≠i:=by
 have h1:=Int.tmod_nonneg n (show 0≤i+1+w by omega)
 have h2:=Int.tmod_lt_of_pos (i+1+w) (show 0 <n by omega)
 refine⟨h1,h2,fun h=>?_⟩
 have h3:=Int.tmod_add_mul_tdiv (i+1+w) n
 rw[h] at h3
 have h4:n*(i+1+w).tdiv n=1+w:=by omega
 rcases Int.lt_trichotomy ((i+1+w).tdiv n) 0 with h5|h5|h5
 ·have:n*(i+1+w).tdiv n≤n* -1:=Int.mul_le_mul_of_nonneg_left (by omega) (by omega)
  omega
 ·rw[h5] at h4;omega
 have:n*1≤n*(i+1+w).tdiv n:=Int.mul_le_mul_of_nonneg_left (by omega) (by omega)
 omega
theorem C8:m8.Pairwise fun a b=>cQ a b=false:=by simp only[zu];decide
theorem Vu:oT.Pairwise fun a b=>cQ a b=false∧strLt b a=false:=by simp only[zu,Pj];decide
def lq(i:Nat)(k:Nat)(al:List Int):Prop:=al.length≤k∧al.Pairwise (· < ·)∧∀y∈al,0≤y∧y <k∧y≠i
theorem pK{l:List α}{R:α→α→Prop}(h:l.Pairwise R){j:Nat}{a b:α}(Is:i <j)(ha:l[i]?=some a) (hb:l[j]?=some b):R a b:=by
 obtain⟨h1,rfl⟩:=List.getElem?_eq_some_iff.1 ha
 obtain⟨h2,rfl⟩:=List.getElem?_eq_some_iff.1 hb
 exact List.pairwise_iff_getElem.1 h i j h1 h2 Is
theorem adK{l:List α}{f:α→β}{R:β→β→Prop}(h:∀(i j:Nat) (a b:α),i <j→l[i]?=some a→l[j]?=some b→R (f a) (f b)):(l.map f).Pairwise R:=by
 rw[List.pairwise_map,List.pairwise_iff_getElem]
 exact fun i j hi hj Is=>h i j _ _ Is (List.getElem?_eq_getElem hi) (List.getElem?_eq_getElem hj)
theorem S8{a b:ByteArray}(h:cQ a b=false):cQ b a=false:=by
 cases h2:cQ b a with
 |false=>rfl
 |true=>rw[Bv.1 h2,Bv.2 rfl] at h;cases h
theorem Zd{MF j9:List Int}{hv:List bx}{Z:Cells}(hc:nI MF cs)(hp:MF.Perm (cy m8.length))(hn:0 <cs.length∧cs.length≤3)(hh:mE j9 cs.length hv hd Z i)(hi:i=j9.length)(h4:j9.length≤4)(hs:j9.Pairwise (· < ·))(hm:∀x∈j9,0≤x∧x <oT.length):wE cs hd:=by
 obtain⟨g1,g2,g3,g4,_⟩:=hh
 have iP:∀y∈MF,0≤y∧y <m8.length:=fun y hy=>ng (hp.mem_iff.1 hy)
 have lQ:MF.Pairwise (· ≠·):=(hp.pairwise_iff (fun h=>Ne.symm h)).2 ((rk _).imp fun h=>by omega)
 refine⟨hn,by omega,fun k c hk=>?_,adK fun a b x y zh hx hy=>?_,fun k x hk=>?_,adK fun a b x y zh hx hy=>?_⟩
 ·obtain⟨⟨y,h1,h2⟩,h3⟩:=hc k c hk
  exact⟨zL h2,h3⟩
 ·obtain⟨⟨p,p1,p2⟩,_⟩:=hc a x hx
  obtain⟨⟨q,q1,q2⟩,_⟩:=hc b y hy
  have XE:=pK lQ zh p1 q1
  have hp0:=iP p (zL p1)
  have XB:=iP q (zL q1)
  rcases Nat.lt_trichotomy p.toNat q.toNat with h|h|h
  ·exact pK C8 h p2 q2
  ·exact absurd (show p=q by omega) XE
  exact S8 (pK C8 h q2 p2)
 ·obtain⟨⟨w,h1,h2⟩,h3⟩:=g4 k x hk
  have:hd.length=j9.length:=by omega
  rw[this]
  exact⟨zL h2,h3⟩
 obtain⟨⟨p,p1,p2⟩,_⟩:=g4 a x hx
 obtain⟨⟨q,q1,q2⟩,_⟩:=g4 b y hy
 have XE:=pK hs zh p1 q1
 have hp0:=hm p (zL p1)
 exact pK Vu (show p.toNat <q.toNat by omega) p2 q2
theorem lq.step(h:lq i k al):lq i (k+1) al:=⟨by have:=h.1;omega,h.2.1,fun y hy=>by have:=h.2.2 y hy;omega⟩
theorem lq.snoc(h:lq i k al)(hk:(k:Int)≠i):lq i (k+1) (al++[(k:Int)]):=by
 refine⟨by have:=h.1;simp;omega,List.pairwise_append.2 ⟨h.2.1,List.pairwise_singleton _ _,fun a ha b hb=>?_⟩,oy (fun y hy=>by have:=h.2.2 y hy;omega) (by omega)⟩
 rw[List.mem_singleton] at hb;subst hb
 exact(h.2.2 a ha).2.1
theorem agE{r:Int}{w:ByteArray}(h:0≤r∧r <nh∧r≠i)(h4:0 <nc):gA nc nh i ⟨w,-1,r,[]⟩:=
 have h1:=h.1
 have h2:=h.2.1
 have h3:=h.2.2
 ⟨⟨by simp,by simp<;>omega⟩,⟨by simp<;>omega,by simpa using h2,by simpa using h3⟩,⟨by simp,by simp,by simp⟩,fun _=>⟨rfl,rfl⟩,fun h=>by simp at h;omega⟩
theorem KH{c:Int}{w:ByteArray}(hc:0≤c∧c <nc)(h:lq i k al)(hk:k≤nh)(hi:i <nh):gA nc nh i ⟨w,c,-1,al⟩:=
 ⟨⟨by simp<;>omega,by simpa using hc.2⟩,⟨by simp,by simp<;>omega,by simp<;>omega⟩,⟨by have:=h.1;simp<;>omega,h.2.1,fun y hy=>by have:=h.2.2 y hy;simp<;>omega⟩,fun hh=>by simp at hh,fun _ hh=>by simp at hh;omega⟩
theorem agF{w:ByteArray}(h:lq i k al)(hk:k≤nh)(hi:i <nh)(dK:(al.length:Int)>0):gA nc nh i ⟨w,-1,-1,al⟩:=
 ⟨⟨by simp,by simp<;>omega⟩,⟨by simp,by simp<;>omega,by simp<;>omega⟩,⟨by have:=h.1;simp<;>omega,h.2.1,fun y hy=>by have:=h.2.2 y hy;simp<;>omega⟩,fun hh=>by simp at hh,fun _ _ hh=>by simp at hh;subst hh;simp at dK⟩
set_option maxHeartbeats 1000000 in
theorem anP (hN:Dn ro vd xs) (hD:bK vd xs d X):dR zT 28 [zP d,zI 3,zI 4] ro X (fun r Y=>∃(cs:List bO) (hv:List bx) (hd:List cm) (vc vh:Value) (Z X':Cells),r= .agg ⟨[vc,vh]⟩∧wE cs hd∧dq dj hv hd∧(∀aI,Knows aI Z→iT aI vc vh cs hv hd)∧Y=Z++X'∧bK vd xs d X'):=by
 refine zC [.l X]<|zD 2<|jn fun b6=>zD 3<|jn fun b7=>zD 4<|jc [] (ae6) ?_
 rintro v16 L16 ⟨_,aNl,rfl⟩
 refine B0 aNl<|jc (vs:=[zP d,zI (m8.length:Int)]) [3] (aiG hN hD (by first|omega|decide)) ?_
 rintro v18 _ ⟨MF,L18,X18,aaA,QI,rfl,Hg⟩
 refine jg 0 [.l L18,.l X18]<|zD 7<|jc (vs:=[zP d,zI 1,zI 3]) [1] (AT hN Hg (by omega) (by omega)) ?_
 rintro _ X21 ⟨w21,rfl,amF,pR,aQh⟩
 refine zD 3<|oR<|dS [1,1,1,0,1,0,0] [] (fun(zz:Int×Value×Cells×(List bO)×Cells)=>[(0,zP d),(2,zI 4),(6,zP b6),(7,zP b7),(8,v18),(9,zI zz.1)]) (fun zz=>[.l zz.2.2.1,.l zz.2.2.2.2,.b b7 (.cells ⟨[zz.2.1,zS]⟩ 35 (0,0)),.l L18,.b b6 (.cells ⟨[zS,zS]⟩ 35 (0,0))]) (fun zz=>(0≤zz.1∧zz.2.2.2.1.length+zz.1=w21)∧ay zz.2.1 2 142 oK zz.2.2.2.1 zz.2.2.1∧nI MF zz.2.2.2.1∧bK vd xs d zz.2.2.2.2) (fun zz=>zz.1.toNat) (⟨w21,zS,[],[],X21⟩) ⟨by simp only[List.length_nil];omega,ay.nil _ _ _,(fun i c h=>by simp at h),aQh⟩ [0,1,4,2,5] ?_
 rintro⟨j,vC,LC,cs,X⟩ hI K1 bL rest
 dsimp only at hI
 have hlen:MF.length=9:=by rw[QI.length_eq,gH];rfl
 refine zD 6<|zJ 23 (j>0) (fun h1=>?_) fun h1=>?_
 ·
  refine jd 10 [2,2]<|B0 hI.2.1 ?_
  obtain⟨x33,afw⟩:=zG MF (cs.length)
  refine jxo 1 aaA afw fun b33 aPb=>oH 0 [3] L18 (fun s _ hZ=>cw aaA aPb hZ afw)<|jd 3 [2]<|B0 hI.2.1<|ja ((cs.length:Int)-1) (by omega)<|aS 2 fun zl zt yR=>jc [] (ae6) ?_
  rintro v28 L28 ⟨_,aCO,rfl⟩
  refine ez yR (zN 1 5) ?_
  obtain⟨x35,Un⟩:=zG m8 (x33.toNat) (by have:=ng (QI.mem_iff.1 (zL afw));omega)
  refine pP x33 1 aCO Un (Int.toNat_of_nonneg (show 0≤x33∧x33 <((m8).length:Int) from (ng (QI.mem_iff.1 (zL afw)))).1).symm fun b35 aO9=>oH 0 [0] L28 (fun s _ hZ=>cw aCO aO9 hZ Un)<|aS 16 fun q9 ri p8=>jc (vs:=[zP d,zI (-1),zI ((cs.length:Int)-1)]) [2] (AT hN hI.2.2.2 (by omega) (by omega)) ?_
  rintro _ X42 ⟨w42,rfl,aYH,Um,aQc⟩
  refine fS p8 [[1],[3],[4],[3],[3]]<|zD 1<|aS 18 fun rY sb qE=>jn fun Bn=>ez qE (zN 1 6)<|aS 19 fun Bo Bu Cc=>iC (sz:=2) (ps:=cs) (qs:=[(⟨x35,w42⟩:bO)]) (enc:=oK) (w:= .slice (some ⟨Bn,0,none⟩) 1 1) [3] [0] [(Bn,.cells ⟨([(⟨x35,w42⟩:bO)].map oK).flatten⟩ 142 (0,0))] (hI.2.1) (fun s _ hZ=>bN [(⟨x35,w42⟩:bO)] (hZ _ (.head _)) (by intro p hp;rfl)) (fun p _=>ai rfl) (by simp<;>omega) (fun v45 L45 af1=>?_)
  obtain⟨arl,ara,avq⟩:=af1.form
  subst avq
  refine fS Cc [[3],[4],[5],[4]]<|zD 1<|aS 21 fun abZ acJ hL6=>jd 1 [4]<|fT hL6<|zD 3<|ja (j-1) (by omega)<|zD 2<|bJ bL (⟨j-1,(.slice arl ((cs++[(⟨x35,w42⟩:bO)])).length ara),L45,(cs++[(⟨x35,w42⟩:bO)]),X42⟩) ⟨by simp only[zM];omega,af1,nI.snoc hI.2.2.1 afw Un (by omega),aQc⟩ (by omega) [0,2,4,5,6] (Sub.refl _)
 refine zD 5<|jc [] (afm) ?_
 rintro v48 L48 ⟨_,aNc,rfl⟩
 refine B0 aNc<|zD 2<|jc (vs:=[zP d,zI 4]) [2] (Eu hN hI.2.2.2 (by omega)) ?_
 rintro _ X52 ⟨w52,rfl,aYG,vy,aQb⟩
 refine jc (vs:=[zP d,zI (oT.length:Int),zI w52]) [0] (aFl hN aQb (by first|omega|decide)) ?_
 rintro v53 _ ⟨j9,L53,X53,auB,aZy,vD,agm,rfl,anq⟩
 refine jg 0 [.l L53,.l X53]<|zD 5<|B0 auB<|zD 8<|oR<|oR<|dS [1,1,1,1,1,1,0,1,0,0] [] (fun(zz:Nat×Value×Cells×(List bx)×(List cm)×Cells×Cells)=>[(0,zP d),(6,zP b6),(7,zP b7),(10,v53),(11,zI (j9.length:Int)),(12,zI (zz.1:Int))]) (fun zz=>[.l zz.2.2.1,.l zz.2.2.2.2.2.1,.l zz.2.2.2.2.2.2,.l LC,.b b7 (.cells ⟨[vC,zz.2.1]⟩ 35 (0,0)),.l L53,.b b6 (.cells ⟨[zS,zS]⟩ 35 (0,0))]) (fun zz=>zz.1≤j9.length∧ay zz.2.1 4 145 lS zz.2.2.2.1 zz.2.2.1∧mE j9 cs.length zz.2.2.2.1 zz.2.2.2.2.1 zz.2.2.2.2.2.1 zz.1∧bK vd xs d zz.2.2.2.2.2.2) (fun zz=>j9.length-zz.1) (⟨0,zS,[],[],[],[],X53⟩) ⟨by omega,ay.nil _ _ _,⟨fun _ _=> .nil,rfl,rfl,(fun k x h=>by simp at h),.nil⟩,anq⟩ [1,0,3,5,6,2,8] ?_
 rintro⟨i,vH,LH,hv,hd,Z,X⟩ hJ K7 hK7 rest
 dsimp only at hJ
 have hll:=hJ.2.2.1.2.2.1
 have Sv:j9.length≤4:=by omega
 have iD:cs.length≤3:=by omega
 refine zD 7<|zJ 58 ((i:Int) <(j9.length:Int)) (fun h7=>?_) fun h7=>?_
 ·
  refine zD 5<|GF [1,1,1,1,1,1,0,1,0,0,1,0,0,1] [K7] (fun(zz:Nat×Int×Int×ByteArray×Cells)=>[(0,zP d),(6,zP b6),(7,zP b7),(10,v53),(11,zI (j9.length:Int)),(12,zI (i:Int)),(13,zP zz.1)]) (fun zz=>[.b zz.1 (.cells ⟨[.string zz.2.2.2.1,zI zz.2.1,zI (-1),zS]⟩ 145 (0,0)),.l LH,.l Z,.l zz.2.2.2.2,.l LC,.b b7 (.cells ⟨[vC,vH]⟩ 35 (0,0)),.l L53,.b b6 (.cells ⟨[zS,zS]⟩ 35 (0,0))]) (fun zz=>j9[i]?=some zz.2.2.1∧oT[zz.2.2.1.toNat]?=some zz.2.2.2.1∧(0≤zz.2.1∧zz.2.1 <cs.length)∧bK vd xs d zz.2.2.2.2) ?_ (fun K8 hK8=>?_)
  ·
   rintro⟨zi,w,y,x,X⟩ SG rest
   dsimp only at SG
   refine zD 2<|GF [1,1,1,1,1,1,0,1,0,0,1,0,0,1,0,1] [K7] (fun(zz:Bool×Cells)=>[(0,zP d),(6,zP b6),(7,zP b7),(10,v53),(11,zI (j9.length:Int)),(12,zI (i:Int)),(13,zP zi),(80,.bool zz.1)]) (fun zz=>[.b zi (.cells ⟨[.string x,zI w,zI (-1),zS]⟩ 145 (0,0)),.l LH,.l Z,.l zz.2,.l LC,.b b7 (.cells ⟨[vC,vH]⟩ 35 (0,0)),.l L53,.b b6 (.cells ⟨[zS,zS]⟩ 35 (0,0))]) (fun zz=>(zz.1=true→1 <j9.length)∧bK vd xs d zz.2) ?_ (fun K9 hK9=>?_)
   ·
    rintro⟨q,X⟩ hJ3 rest
    dsimp only at hJ3
    refine js 80 q (fun h8=>?_) (fun h8=>?_)
    ·
     subst h8
     have hgt:=hJ3.1 rfl
     refine zD 4<|ja ((i:Int)+1) (by omega)<|zD 2<|ja ((j9.length:Int)-2) (by omega)<|zD 2<|aS 5 fun Fc FA tS=>jc (vs:=[zP d,zI ((j9.length:Int)-2)]) [3] (Eu hN hJ3.2 (by omega)) ?_
     rintro _ X86 ⟨w86,rfl,aYE,aYy,aP5⟩
     refine fS tS []<|ja (((i:Int)+1)+w86) (by omega)<|jrm (k:= .i64) (a:=(((i:Int)+1)+w86)) (b:=(j9.length:Int)) 3 (by omega)<|aS 10 fun Jn Jv Cj=>jd 1 [1]<|fS Cj []<|zD 1<|aS 12 fun OP O9 Ci=>jd 1 [1]<|fT Ci<|jd 6 [5,1]<|jn fun b95=>iC (sz:=4) (ps:=hv) (qs:=[(⟨x,(-1),(Int.tmod (((i:Int)+1)+w86) (j9.length:Int)),zS⟩:bx)]) (enc:=lS) (w:= .slice (some ⟨b95,0,none⟩) 1 1) [3] [0] [(b95,.cells ⟨([(⟨x,(-1),(Int.tmod (((i:Int)+1)+w86) (j9.length:Int)),zS⟩:bx)].map lS).flatten⟩ 145 (0,0))] (hJ.2.1) (fun s _ hZ=>bN [(⟨x,(-1),(Int.tmod (((i:Int)+1)+w86) (j9.length:Int)),zS⟩:bx)] (hZ _ (.head _)) (by intro p hp;rfl)) (by intro p hp;rw[List.mem_singleton] at hp;subst hp;exact ai rfl) (by simp<;>omega) (fun v96 L96 afW=>?_)
     obtain⟨aI5,aIL,aOf⟩:=afW.form
     subst aOf
     refine jd 6 [6]<|ja ((i:Int)+1) (by omega)<|zD 2<|bJ hK7 (⟨i+1,(.slice aI5 ((hv++[(⟨x,(-1),(Int.tmod (((i:Int)+1)+w86) (j9.length:Int)),zS⟩:bx)])).length aIL),L96,(hv++[(⟨x,(-1),(Int.tmod (((i:Int)+1)+w86) (j9.length:Int)),zS⟩:bx)]),_,Z,X86⟩) ⟨by omega,afW,(by have:=mE.snoc (A:=[]) hJ.2.2.1 (h0:=⟨rfl,rfl,rfl⟩) (hV:=⟨x,-1,(Int.tmod (((i:Int)+1)+w86) (j9.length:Int)),zS⟩) (x:=⟨x,-1,(Int.tmod (((i:Int)+1)+w86) (j9.length:Int)),[]⟩) (fun ro _=>⟨rfl,rfl,rfl,bI.nil _ _ _ _ _⟩) SG.1 SG.2.1 (agE (alQ ⟨by omega,by omega⟩ ⟨by omega,by omega⟩) (by omega));simpa only[List.nil_append] using this),aP5⟩ (by omega) [0,4,2,5,6,7,8] (Sub.refl _)
    subst h8
    refine zD 8<|oR<|dS [1,1,1,1,1,1,0,1,0,0,1,0,0,1,1,0,1,0,0] [K7] (fun(zz:Nat×Value×Cells×(List Int)×Cells)=>[(0,zP d),(6,zP b6),(7,zP b7),(10,v53),(11,zI (j9.length:Int)),(12,zI (i:Int)),(13,zP zi),(14,zI (zz.1:Int))]) (fun zz=>[.l zz.2.2.1,.l zz.2.2.2.2,.b zi (.cells ⟨[.string x,zI w,zI (-1),zz.2.1]⟩ 145 (0,0)),.l LH,.l Z,.l LC,.b b7 (.cells ⟨[vC,vH]⟩ 35 (0,0)),.l L53,.b b6 (.cells ⟨[zS,zS]⟩ 35 (0,0))]) (fun zz=>(zz.1≤j9.length∧zz.2.2.2.1.length≤zz.1)∧ay zz.2.1 1 3 cz zz.2.2.2.1 zz.2.2.1∧lq i zz.1 zz.2.2.2.1∧bK vd xs d zz.2.2.2.2) (fun zz=>j9.length-zz.1) (⟨0,zS,[],[],X⟩) ⟨by simp,ay.nil _ _ _,⟨by simp,by simp,by simp⟩,hJ3.2⟩ [0,4,1,2,3,5,6,7,8] ?_
    rintro⟨k,vA,LA,al,X⟩ hK K13 Ny rest
    dsimp only at hK
    obtain⟨qa,qc,rfl⟩:=hK.2.1.form
    refine zD 7<|zJ 100 ((k:Int) <(j9.length:Int)) (fun Ix=>?_) fun Ix=>?_
    ·
     refine zD 10<|js 106 (!decide ((k:Int)=(i:Int))) (fun Bi=>?_) (fun Bi=>?_)
     ·
      have ahO:=Bi
      replace ahO:=of_decide_eq_false (by simpa using ahO)
      refine zD 1<|jc (vs:=[zP d,zI 4]) [1] (sU hN hK.2.2.2 (by omega)) ?_
      rintro _ aGb ⟨aIJ,rfl,aqi⟩
      refine zD 2<|js 109 aIJ (fun h14=>?_) (fun h14=>?_)
      ·
       subst h14
       refine jd 5 [2]<|jn fun aFQ=>iC (sz:=1) (ps:=al) (qs:=[(k:Int)]) (enc:=cz) (w:= .slice (some ⟨aFQ,0,none⟩) 1 1) [2] [0] [(aFQ,.cells ⟨([(k:Int)].map cz).flatten⟩ 3 (0,0))] (hK.2.1) (fun s _ hZ=>bN [(k:Int)] (hZ _ (.head _)) (by intro p hp;rfl)) (fun p _=>ai rfl) (by simp<;>omega) (fun aWr aSa XI=>?_)
       obtain⟨ay2,ayV,aDH⟩:=XI.form
       subst aDH
       refine jd 5 [3]<|ja ((k:Int)+1) (by omega)<|zD 2<|bJ Ny (⟨k+1,(.slice ay2 ((al++[(k:Int)])).length ayV),aSa,(al++[(k:Int)]),aGb⟩) ⟨by simp only[zM];omega,XI,lq.snoc hK.2.2.1 (by omega),aqi⟩ (by omega) [0,2,3,4,5,6,7,8,9] (Sub.refl _)
      subst h14
      refine zD 4<|ja ((k:Int)+1) (by omega)<|zD 2<|bJ Ny (⟨k+1,(.slice qa al.length qc),LA,al,aGb⟩) ⟨by dsimp only;omega,hK.2.1,lq.step hK.2.2.1,aqi⟩ (by omega) [1,0,2,3,4,5,6,7,8] (Sub.refl _)
     have ahO:=Bi
     replace ahO:=of_decide_eq_true (by simpa using ahO)
     refine zD 8<|ja ((k:Int)+1) (by omega)<|zD 2<|bJ Ny (⟨k+1,(.slice qa al.length qc),LA,al,X⟩) ⟨by dsimp only;omega,hK.2.1,lq.step hK.2.2.1,hK.2.2.2⟩ (by omega) (zN 0 9) (Sub.refl _)
    refine jd 10 [2]<|js 120 (decide ((al.length:Int)>0)) (fun NB=>?_) (fun NB=>?_)
    ·
     have Hi:=NB
     replace Hi:=of_decide_eq_true Hi
     refine zD 1<|jc (vs:=[zP d,zI 4]) [1] (sU hN hK.2.2.2 (by omega)) ?_
     rintro _ aGa ⟨aIG,rfl,aqh⟩
     refine zD 2<|js 123 aIG (fun U3=>?_) (fun U3=>?_)
     ·
      subst U3
      refine jd 9 [2,6,2]<|jn fun Ob=>iC (sz:=4) (ps:=hv) (qs:=[(⟨x,(-1),-1,(.slice qa al.length qc)⟩:bx)]) (enc:=lS) (w:= .slice (some ⟨Ob,0,none⟩) 1 1) [4] [0] [(Ob,.cells ⟨([(⟨x,(-1),-1,(.slice qa al.length qc)⟩:bx)].map lS).flatten⟩ 145 (0,0))] (hJ.2.1) (fun s _ hZ=>bN [(⟨x,(-1),-1,(.slice qa al.length qc)⟩:bx)] (hZ _ (.head _)) (by intro p hp;rfl)) (by intro p hp;rw[List.mem_singleton] at hp;subst hp;exact ai rfl) (by simp<;>omega) (fun azb ajv qQ=>?_)
      obtain⟨OZ,OY,Q5⟩:=qQ.form
      subst Q5
      refine jd 5 [7]<|ja ((i:Int)+1) (by omega)<|zD 2<|M5 hK7 (⟨i+1,(.slice OZ ((hv++[(⟨x,(-1),-1,(.slice qa al.length qc)⟩:bx)])).length OY),ajv,(hv++[(⟨x,(-1),-1,(.slice qa al.length qc)⟩:bx)]),_,LA++Z,aGa⟩) ⟨by omega,qQ,mE.snoc (A:=LA) hJ.2.2.1 (h0:=⟨rfl,rfl,rfl⟩) (x:=⟨x,_,-1,al⟩) (fun ro hk=>⟨rfl,rfl,rfl,hK.2.1.kQ hk⟩) SG.1 SG.2.1 (agF hK.2.2.1 (by omega) (by omega) (by assumption)),aqh⟩ (by omega) [[0],[3,5],[2],[6],[7],[8],[9]] (Sub.refl _)
     subst U3
     refine jd 6 [6,2]<|jn fun Ob=>iC (sz:=4) (ps:=hv) (qs:=[(⟨x,w,-1,(.slice qa al.length qc)⟩:bx)]) (enc:=lS) (w:= .slice (some ⟨Ob,0,none⟩) 1 1) [4] [0] [(Ob,.cells ⟨([(⟨x,w,-1,(.slice qa al.length qc)⟩:bx)].map lS).flatten⟩ 145 (0,0))] (hJ.2.1) (fun s _ hZ=>bN [(⟨x,w,-1,(.slice qa al.length qc)⟩:bx)] (hZ _ (.head _)) (by intro p hp;rfl)) (by intro p hp;rw[List.mem_singleton] at hp;subst hp;exact ai rfl) (by simp<;>omega) (fun azb ajv qQ=>?_)
     obtain⟨OZ,OY,Q5⟩:=qQ.form
     subst Q5
     refine jd 5 [7]<|ja ((i:Int)+1) (by omega)<|zD 2<|M5 hK7 (⟨i+1,(.slice OZ ((hv++[(⟨x,w,-1,(.slice qa al.length qc)⟩:bx)])).length OY),ajv,(hv++[(⟨x,w,-1,(.slice qa al.length qc)⟩:bx)]),_,LA++Z,aGa⟩) ⟨by omega,qQ,mE.snoc (A:=LA) hJ.2.2.1 (h0:=⟨rfl,rfl,rfl⟩) (x:=⟨x,_,-1,al⟩) (fun ro hk=>⟨rfl,rfl,rfl,hK.2.1.kQ hk⟩) SG.1 SG.2.1 (KH (by omega) hK.2.2.1 (by omega) (by omega)),aqh⟩ (by omega) [[0],[3,5],[2],[6],[7],[8],[9]] (Sub.refl _)
    have Hi:=NB
    replace Hi:=of_decide_eq_false Hi
    refine jd 10 [6,2]<|jn fun Ob=>iC (sz:=4) (ps:=hv) (qs:=[(⟨x,w,-1,(.slice qa al.length qc)⟩:bx)]) (enc:=lS) (w:= .slice (some ⟨Ob,0,none⟩) 1 1) [4] [0] [(Ob,.cells ⟨([(⟨x,w,-1,(.slice qa al.length qc)⟩:bx)].map lS).flatten⟩ 145 (0,0))] (hJ.2.1) (fun s _ hZ=>bN [(⟨x,w,-1,(.slice qa al.length qc)⟩:bx)] (hZ _ (.head _)) (by intro p hp;rfl)) (by intro p hp;rw[List.mem_singleton] at hp;subst hp;exact ai rfl) (by simp<;>omega) (fun azb ajv qQ=>?_)
    obtain⟨OZ,OY,Q5⟩:=qQ.form
    subst Q5
    refine jd 5 [7]<|ja ((i:Int)+1) (by omega)<|zD 2<|M5 hK7 (⟨i+1,(.slice OZ ((hv++[(⟨x,w,-1,(.slice qa al.length qc)⟩:bx)])).length OY),ajv,(hv++[(⟨x,w,-1,(.slice qa al.length qc)⟩:bx)]),_,LA++Z,X⟩) ⟨by omega,qQ,mE.snoc (A:=LA) hJ.2.2.1 (h0:=⟨rfl,rfl,rfl⟩) (x:=⟨x,_,-1,al⟩) (fun ro hk=>⟨rfl,rfl,rfl,hK.2.1.kQ hk⟩) SG.1 SG.2.1 (KH (by omega) hK.2.2.1 (by omega) (by omega)),hK.2.2.2⟩ (by omega) [[0],[2,5],[3],[6],[7],[8],[9]] (Sub.refl _)
   refine zD 4<|js 77 (decide ((j9.length:Int)>1)) (fun h17=>?_) (fun h17=>?_)
   ·
    have Hh:=h17
    replace Hh:=of_decide_eq_true Hh
    refine zD 1<|jc (vs:=[zP d,zI 3]) [3] (sU hN SG.2.2.2 (by omega)) ?_
    rintro _ X79 ⟨w79,rfl,aP7⟩
    refine zD 2<|bJ hK9 ⟨w79,X79⟩ ⟨fun _=>by omega,aP7⟩ Nat.zero_lt_one [1,2,3,0,4,5,6,7] (Sub.refl _)
   have Hh:=h17
   replace Hh:=of_decide_eq_false Hh
   refine zD 4<|bJ hK9 ⟨false,X⟩ ⟨(fun h=>by cases h),SG.2.2.2⟩ Nat.zero_lt_one (zN 0 8) (Sub.refl _)
  refine zD 3 ?_
  obtain⟨x64,Nb⟩:=zG j9 i
  refine jxo 1 auB Nb fun b64 aOZ=>oH 0 [5] L53 (fun s _ hZ=>cw auB aOZ hZ Nb)<|jd 3 [4]<|B0 hI.2.1<|ja ((cs.length:Int)-1) (by omega)<|ET [0,14] ⟨fun z14 t15 Em=>?_,fun z17 t18 Nv=>?_,trivial⟩
  ·
   refine jc [] (afm) ?_
   rintro v61 L61 ⟨_,agd,rfl⟩
   refine ez Em (zN 1 7) ?_
   obtain⟨x66,GJ⟩:=zG oT (x64.toNat) (by have:=agm _ (zL Nb);omega)
   refine pP x64 1 agd GJ (Int.toNat_of_nonneg (show 0≤x64∧x64 <((oT).length:Int) from (agm _ (zL Nb))).1).symm fun b66 avP=>oH 0 [0] L61 (fun s _ hZ=>cw agd avP hZ GJ)<|ET [12,14] ⟨fun z20 t21 U0=>?_,fun z23 t24 Ns=>?_,trivial⟩
   ·
    refine jc (vs:=[zP d,zI ((cs.length:Int)-1)]) [3] (Eu hN hJ.2.2.2 (by omega)) ?_
    rintro _ X73 ⟨w73,rfl,aB7,aan,ahn⟩
    refine fS U0 [[1],[5],[6]]<|zD 1<|aS 14 fun VZ Wb AF=>jn fun zi=>ez AF (zN 1 8)<|aS 15 fun Jm Ju Cf=>jd 1 [0]<|fT Cf<|zD 1<|bJ hK8 ⟨zi,w73,_,x66,X73⟩ ⟨Nb,GJ,(by dsimp only;omega),ahn⟩ Nat.zero_lt_one [0,3,4,1,5,6,7,8] (Sub.refl _)
   refine jn fun zi=>ez Ns (zN 1 8)<|aS 12 fun Jl Jt Ce=>jc (vs:=[zP d,zI ((cs.length:Int)-1)]) [4] (Eu hN hJ.2.2.2 (by omega)) ?_
   rintro _ X73 ⟨w73,rfl,aB7,aan,ahn⟩
   refine fS Ce [[2],[6],[7]]<|zD 1<|aS 15 fun Jk Js Cd=>jd 1 [1]<|fT Cd<|zD 1<|bJ hK8 ⟨zi,w73,_,x66,X73⟩ ⟨Nb,GJ,(by dsimp only;omega),ahn⟩ Nat.zero_lt_one [1,3,4,0,5,6,7,8] (Sub.refl _)
  refine jn fun zi=>ez Nv (zN 1 7)<|aS 0 fun VY Wa Nr=>jc [] (afm) ?_
  rintro v61 L61 ⟨_,agd,rfl⟩
  refine ez Nr (zN 1 8) ?_
  obtain⟨x66,GJ⟩:=zG oT (x64.toNat) (by have:=agm _ (zL Nb);omega)
  refine pP x64 1 agd GJ (Int.toNat_of_nonneg (show 0≤x64∧x64 <((oT).length:Int) from (agm _ (zL Nb))).1).symm fun b66 avP=>oH 0 [0] L61 (fun s _ hZ=>cw agd avP hZ GJ)<|aS 12 fun VX V9 I8=>jc (vs:=[zP d,zI ((cs.length:Int)-1)]) [4] (Eu hN hJ.2.2.2 (by omega)) ?_
  rintro _ X73 ⟨w73,rfl,aB7,aan,ahn⟩
  refine fS I8 [[1],[6],[7]]<|zD 1<|aS 15 fun ab2 acM Nq=>jd 1 [2]<|fT Nq<|zD 1<|bJ hK8 ⟨zi,w73,_,x66,X73⟩ ⟨Nb,GJ,(by dsimp only;omega),ahn⟩ Nat.zero_lt_one [2,3,4,0,5,6,7,8] (Sub.refl _)
 refine jd 5 [4] ?_
 obtain⟨acy,acr,agJ⟩:=hI.2.1.form
 subst agJ
 obtain⟨aJh,aIX,aOo⟩:=hJ.2.1.form
 subst aOo
 refine jd 3 [6]<|zR (.agg ⟨[(.slice acy (cs).length acr),(.slice aJh (hv).length aIX)]⟩) [6] [3,0,1,2] (LC++(LH++(Z++X))) ⟨cs,hv,hd,_,_,LC++(LH++Z),X,rfl,Zd hI.2.2.1 QI (by omega) hJ.2.2.1 (by omega) (by omega) vD agm,hJ.2.2.1.2.2.2.2,fun aH hk=>⟨hI.2.1.kQ hk.left,hJ.2.1.kQ hk.right.left,hJ.2.2.1.1 aH hk.right.right⟩,by simp only[List.append_assoc],hJ.2.2.2⟩
abbrev gv(x:Value):List Value:=[x]
structure ah where
 n:Int
 l:Int
abbrev cG(x:ah):List Value:=[zI x.n,zI x.l]
def alr(x y:ah):Prop:=x.n <y.n∨(x.n=y.n∧x.l <y.l)
def A7(x:ah):Prop:=(1≤x.n∧x.n≤9)∧0≤x.l∧x.l≤4
structure eQ(S:List (List ah)):Prop where
 two:S.length=2
 len:∀l∈S,l.length≤4
 ok:∀l∈S,∀x∈l,A7 x
 asc:∀l∈S,l.Pairwise alr
def yu:List (List ah):=[[⟨1,0⟩,⟨2,0⟩],[⟨1,0⟩,⟨3,0⟩]]
def cS(ro:Nat→Option Obj)(v:Value)(S:List (List ah)):Prop:=∃ws,bI ro v 1 gv ws∧dq (fun w l=>bI ro w 2 cG l) ws S
def nF(ro:Nat→Option Obj)(v:Value)(ways:List (List aN)):Prop:=∃ws,bI ro v 1 gv ws∧dq (fun w l=>bI ro w 7 kA l) ws ways
theorem cS.up{v:Value}{S:List (List ah)}(h:cS ro v S)(hs:Sub ro aI):cS aI v S:=by
 obtain⟨ws,h1,h2⟩:=h
 exact⟨ws,h1.up hs,h2.imp fun _ _ k=>k.up hs⟩
theorem nF.up{v:Value}{w:List (List aN)}(h:nF ro v w)(hs:Sub ro aI):nF aI v w:=by
 obtain⟨ws,h1,h2⟩:=h
 exact⟨ws,h1.up hs,h2.imp fun _ _ k=>k.up hs⟩
theorem iT.up{hv:List bx}(h:iT ro vc vh cs hv hd)(hs:Sub ro aI):iT aI vc vh cs hv hd:=
 ⟨h.1.up hs,h.2.1.up hs,h.2.2.imp fun _ _ k=>⟨k.1,k.2.1,k.2.2.1,k.2.2.2.up hs⟩⟩
structure aC where
 ways:List (List aN)
 cs:List bO
 hd:List cm
 rules:List aU
 before:List aA
 after:List aA
 gone:Int
 new:Int
 af:Int
 facts:List cY
 str:List (List ah)
def fP(ro:Nat→Option Obj)(l:List Value)(k:aC):Prop:=∃(vS vT vc vh vr vb va vf:Value) (fa:Option Addr) (fc:Nat) (hv:List bx),
 l=[vS,vT,.slice fa 0 fc,vc,vh,vr,vb,va,zI k.gone,zI k.new,zI k.af,vf]∧cS ro vS k.str∧nF ro vT k.ways∧iT ro vc vh k.cs hv k.hd∧dq dj hv k.hd∧
 bI ro vr 2 e9 k.rules∧bI ro vb 5 eA k.before∧bI ro va 5 eA k.after∧bI ro vf 3 rM k.facts
def nH(hd:List cm)(i:Int):Prop:=i= -1∨(0≤i∧∃x,hd[i.toNat]?=some x∧0≤x.cls)
def A8(hd:List cm)(p:aA):Prop:=Oi p.name∧nH hd p.head∧(0≤p.st∧p.st≤1)∧p.bold=false
def ajo(hd:List cm)(p:aA):Prop:=A8 hd p∧(p.st=0→p.no=1∨p.no=2)∧(p.st=1→p.no=1∨p.no=3)
def ajp(hd:List cm)(p:aA):Prop:=A8 hd p∧1≤p.no∧p.no≤3
def E9(hd:List cm)(p:aA):Prop:=((1≤p.name.size∧p.name.size≤6)∧Script p.name)∧nH hd p.head∧(0≤p.st∧p.st≤1)∧p.bold=false
def aog(S:List (List ah))(hd:List cm)(p:aA):Prop:=E9 hd p∧∃l,S[p.st.toNat]?=some l∧(⟨p.no,0⟩:ah)∈l
def aGe(hd:List cm)(p:aA):Prop:=E9 hd p∧1≤p.no∧p.no≤40
structure YL(cs:List bO)(hd:List cm):Prop where
 nc:0 <cs.length∧cs.length≤6
 nh:hd.length≤6
 AD:∀(i:Nat) (x:cm),hd[i]?=some x→gA cs.length hd.length i x
structure ju(k:aC):Prop where
 oD:eQ k.str
 ways:k.ways.length≤1∧∀l∈k.ways,(1≤l.length∧l.length≤2)∧∀c∈l,jb c
 cZ:YL k.cs k.hd
 rules:k.rules.length≤4
 before:k.before.length≤4∧∀p∈k.before,aog k.str k.hd p
 after:k.after.length≤4∧∀p∈k.after,aGe k.hd p
 tJ:(0≤k.gone∧k.gone≤4)∧(0≤k.new∧k.new≤4)∧(0≤k.af∧k.af≤4)
 facts:k.facts.length≤4∧(∀x∈k.facts,(0≤x.a∧x.a <k.before.length)∧(0≤x.b∧x.b <k.after.length))
 apart:k.facts.Pairwise fun x y=>¬(x.a=y.a∧x.b=y.b)
structure Se(k:aC):Prop where
 ways:k.ways.length≤1∧∀l∈k.ways,(1≤l.length∧l.length≤2)∧∀c∈l,jb c
 cZ:wE k.cs k.hd
 rules:k.rules.length≤2∧∀r∈k.rules,Ib r
 before:k.before.length≤4∧∀p∈k.before,ajo k.hd p
 after:k.after.length≤4∧∀p∈k.after,ajp k.hd p
 tJ:(0≤k.gone∧k.gone≤4)∧(0≤k.new∧k.new≤4)∧(0≤k.af∧k.af≤4)
 facts:k.facts.length≤4∧(∀x∈k.facts,(0≤x.a∧x.a <k.before.length)∧(0≤x.b∧x.b <k.after.length))
 apart:k.facts.Pairwise fun x y=>¬(x.a=y.a∧x.b=y.b)
 str:k.str=yu
theorem ZL:eQ yu where
 two:=rfl
 len:=by simp[yu]
 ok:=by simp[yu,A7]
 asc:=by simp[yu,alr]
theorem A8.c{p:aA}(h:A8 hd p):E9 hd p:=⟨⟨⟨h.1.1.1,by have:=h.1.1.2;omega⟩,h.1.2⟩,h.2⟩
theorem Se.c{k:aC}(h:Se k):ju k where
 oD:=by rw[h.str];exact ZL
 ways:=h.ways
 cZ:=⟨⟨h.cZ.nc.1,by have:=h.cZ.nc.2;omega⟩,by have:=h.cZ.nh;omega,fun i x hx=>(h.cZ.AD i x hx).2⟩
 rules:=by have:=h.rules.1;omega
 before:=⟨by have:=h.before.1;omega,fun p hp=>by
  obtain⟨h1,h2,h3⟩:=h.before.2 p hp
  refine⟨h1.c,?_⟩
  rw[h.str]
  have h4:=h1.2.2.1
  rcases(by omega:p.st=0∨p.st=1) with e|e
  ·rw[e];exact⟨_,rfl,by rcases h2 e with e2|e2<;>simp[e2]⟩
  rw[e];exact⟨_,rfl,by rcases h3 e with e2|e2<;>simp[e2]⟩⟩
 after:=⟨by have:=h.after.1;omega,fun p hp=>by
  obtain⟨h1,h2,h3⟩:=h.after.2 p hp
  exact⟨h1.c,h2,by omega⟩⟩
 tJ:=h.tJ
 facts:=⟨by have:=h.facts.1;omega,h.facts.2⟩
 apart:=h.apart
theorem wW{hv:List bx}(h:dq dj hv hd){i:Int}(k:i= -1∨VV hv i):nH hd i:=by
 rcases k with k| ⟨k0,x,k1,k2⟩
 ·exact .inl k
 obtain⟨y,h1,h2⟩:=h.get k1
 exact .inr ⟨k0,y,h1,h2.2.1▸k2⟩
theorem S7{c e:Nat}(h1:ro b=some (.cells ⟨[zI 1,zI 0,zI 2,zI 0]⟩ 79 (0,0)))(h2:ro c=some (.cells ⟨[zI 1,zI 0,zI 3,zI 0]⟩ 79 (0,0)))
 (h3:ro e=some (.cells ⟨[.slice (some ⟨b,0,none⟩) 2 2,.slice (some ⟨c,0,none⟩) 2 2]⟩ 80 (0,0))):cS ro (.slice (some ⟨e,0,none⟩) 2 2) yu:=
 ⟨_,bC [_,_] h3 (fun _ _=>rfl),.cons (bC [(⟨1,0⟩:ah),⟨2,0⟩] h1 (fun _ _=>rfl)) (.cons (bC [(⟨1,0⟩:ah),⟨3,0⟩] h2 (fun _ _=>rfl)) .nil)⟩
def A9(nb na:Nat)(fs:List cY):Prop:=(∀x∈fs,(0≤x.a∧x.a <nb)∧(0≤x.b∧x.b <na))∧fs.Pairwise fun x y=>¬(x.a=y.a∧x.b=y.b)
theorem A9.snoc{nb na:Nat}(h:A9 nb na fs){x:cY}(ha:0≤x.a∧x.a <nb)(hb:0≤x.b∧x.b <na)(hn:C7 fs x.a x.b=false):A9 nb na (fs++[x]):=by
 refine⟨oy h.1 ⟨ha,hb⟩,List.pairwise_append.2 ⟨h.2,List.pairwise_singleton _ _,fun y hy z hz e=>?_⟩⟩
 rw[List.mem_singleton] at hz;subst hz
 have:=List.any_eq_false.1 hn y hy
 simp[e.1,e.2] at this
theorem ata{w u:Int}(h:w∈[1,2,4,u])(hu:0≤u∧u≤4):0≤w∧w≤4:=by
 simp only[List.mem_cons,List.not_mem_nil,or_false] at h
 omega
theorem Ta:nF ro (zS) []:=⟨[],bI.nil _ _ _ _ _,.nil⟩
set_option maxHeartbeats 2000000 in
theorem aQX {np nf:Int} (hN:Dn ro vd xs) (hD:bK vd xs d X) (hnp:0≤np∧np≤4) (hnf:0≤nf∧nf≤4):FnG zT 9 [zP d,zI np,zI nf] ro X (fun r aH Y=>∃(K:aC) (l:List Value),r= .agg ⟨l⟩∧Se K∧(K.facts.length:Int)≤nf∧fP aH l K∧bK vd xs d Y):=by
 refine aBS (hm:=au) [.l X] [] bn<|zD 2<|jn fun b6=>zD 4<|jc [1] (anP hN hD) ?_
 rintro _ _ ⟨kB,jI,UO,Y1,aWa,Z18,X18,rfl,Hf,Cb,aPs,rfl,Hg⟩
 refine jg 0 [.l Z18,.l X18]<|jf [0] Z18 (fun za bX iI=>?_)
 have p7:=aPs _ iI
 obtain⟨hc,hh,dc⟩:=id p7
 obtain⟨ei,Ae,Ad,dW,rfl,De,yq,yp⟩:=hc
 obtain⟨dG,uD,uC,dr,rfl,wP,qB,qA⟩:=hh
 refine zD 2<|jn fun b21=>zD 2<|jn fun H4=>jn fun nQ=>zD 3<|jn fun b7=>jd 5 [0]<|jf [1,2,3] ((nQ,.cells ⟨[.slice (some ⟨b21,0,none⟩) 2 2,.slice (some ⟨H4,0,none⟩) 2 2]⟩ 80 (0,0))::((H4,.cells ⟨[zI 1,zI 0,zI 3,zI 0]⟩ 79 (0,0))::[(b21,.cells ⟨[zI 1,zI 0,zI 2,zI 0]⟩ 79 (0,0))])) (fun ro6 j5 XP=>?_)
 have aPt:=S7 (XP _ (.tail _ (.tail _ (.head _)))) (XP _ (.tail _ (.head _))) (XP _ (.head _))
 refine zD 1<|jc (vs:=[zP d,zI 2]) [1] (sU (hN.up (bX.trans j5)) Hg (by omega)) ?_
 rintro _ X30 ⟨LJ,rfl,aho⟩
 refine zD 1<|GF [1,1,1] [] (fun(zz:Value×Cells×(List (List aN))×Cells)=>[(0,zP d),(1,zI np),(2,zI nf),(6,zP b6),(7,zP b7)]) (fun(zz:Value×Cells×(List (List aN))×Cells)=>[.l zz.2.1,.l zz.2.2.2,.b b7 (.cells ⟨[.slice (some ⟨nQ,0,none⟩) 2 2,zz.1,zS,.slice ei kB.length dW,.slice dG jI.length dr,zS,zS,zS,zI 0,zI 0,zI 0,zS]⟩ 40 (0,0)),.b b6 (.cells ⟨zO⟩ 40 (0,0))]) (fun(zz:Value×Cells×(List (List aN))×Cells)=>(∀kU,Knows kU zz.2.1→nF kU zz.1 zz.2.2.1)∧(zz.2.2.1.length≤1∧∀l∈zz.2.2.1,(1≤l.length∧l.length≤2)∧∀c∈l,jb c)∧bK vd xs d zz.2.2.2) ?_ (fun K1 bL=>?_)
 ·
  rintro⟨vT,LT,ways,X⟩ SG rest
  dsimp only at SG
  refine zD 2<|jf [0] LT (fun ro9 rF hk8=>?_)
  have aEc:=SG.1 _ hk8
  obtain⟨SN,ht,_⟩:=id aEc
  obtain⟨eO,Ac,Aa,dP,rfl,Ab,rR,rQ⟩:=ht
  refine zD 1<|jc (vs:=[zP d,zI 2]) [0] (awK (hN.up ((bX.trans j5).trans rF)) SG.2.2 (by decide)) ?_
  rintro v60 _ ⟨ME,L60,X60,Ni,aZx,afS,rfl,aP9⟩
  refine jg 0 [.l L60,.l X60]<|zD 8<|oR<|dS [1,1,1,1,0,1,0,0] [] (fun(zz:Nat×Value×Cells×(List aU))=>[(0,zP d),(1,zI np),(2,zI nf),(6,zP b6),(7,zP b7),(8,v60),(9,zI (zz.1:Int))]) (fun zz=>[.l zz.2.2.1,.l X60,.b b7 (.cells ⟨[.slice (some ⟨nQ,0,none⟩) 2 2,.slice eO SN.length dP,zS,.slice ei kB.length dW,.slice dG jI.length dr,zz.2.1,zS,zS,zI 0,zI 0,zI 0,zS]⟩ 40 (0,0)),.l L60,.b b6 (.cells ⟨zO⟩ 40 (0,0))]) (fun zz=>(zz.1≤ME.length∧zz.2.2.2.length≤zz.1)∧ay zz.2.1 2 45 e9 zz.2.2.2 zz.2.2.1∧∀r∈zz.2.2.2,Ib r) (fun zz=>ME.length-zz.1) (⟨0,zS,[],[]⟩) ⟨by simp,ay.nil _ _ _,(fun _ h=>by cases h)⟩ [0,2,3,1,4] ?_
  rintro⟨i,vR,LR,rs⟩ hR K2 mb rest
  dsimp only at hR
  refine zD 5<|B0 Ni<|zD 2<|zJ 64 ((i:Int) <(ME.length:Int)) (fun Iy=>?_) fun Iy=>?_
  ·
   refine zD 8 ?_
   obtain⟨SL,aao⟩:=zG ME i
   refine jxo 2 Ni aao fun b69 avO=>zD 1<|oH 0 [3] L60 (fun s _ hZ=>cw Ni avO hZ aao)<|zD 2 ?_
   obtain⟨x74,aB6⟩:=zG ME i
   refine jxo 2 Ni aB6 fun b74 aOX=>zD 1<|oH 1 [3] L60 (fun s _ hZ=>cw Ni aOX hZ aB6)<|zD 2<|js 77 (!(cQ SL.f x74.t)) (fun NC=>?_) (fun NC=>?_)
   ·
    try simp only[zB] at NC
    refine jd 6 [2] ?_
    obtain⟨EG,Uj⟩:=zG ME i
    refine jxo 2 Ni Uj fun b82 aOU=>oH 0 [3] L60 (fun s _ hZ=>cw Ni aOU hZ Uj)<|aS 6 fun q9 ri p8=>jn fun b84=>ez p8 (zN 1 5)<|aS 7 fun rY sb qE=>iC (sz:=2) (ps:=rs) (qs:=[(⟨EG.f,EG.t⟩:aU)]) (enc:=e9) (w:= .slice (some ⟨b84,0,none⟩) 1 1) [1] [0] [(b84,.cells ⟨([(⟨EG.f,EG.t⟩:aU)].map e9).flatten⟩ 45 (0,0))] (hR.2.1) (fun s _ hZ=>bN [(⟨EG.f,EG.t⟩:aU)] (hZ _ (.head _)) (by intro p hp;rfl)) (fun p _=>ai rfl) (by simp<;>omega) (fun v85 L85 afY=>?_)
    obtain⟨aI7,aIN,aOh⟩:=afY.form
    subst aOh
    refine fS qE []<|zD 1<|aS 9 fun Bo Bu Cc=>jd 1 [3]<|fT Cc<|zD 3<|ja ((i:Int)+1) (by omega)<|zD 2<|bJ mb (⟨i+1,(.slice aI7 ((rs++[(⟨EG.f,EG.t⟩:aU)])).length aIN),L85,(rs++[(⟨EG.f,EG.t⟩:aU)])⟩) ⟨by simp only[zM];omega,afY,oy hR.2.2 (afS _ (zL Uj))⟩ (by omega) [0,2,3,4,5] (Sub.refl _)
   try simp only[zB] at NC
   refine zD 4<|ja ((i:Int)+1) (by omega)<|zD 2<|bJ mb (⟨i+1,vR,LR,rs⟩) ⟨by dsimp only;omega,hR.2⟩ (by omega) (zN 0 5) (Sub.refl _)
  refine zD 4<|jf [0] LR (fun aWO iE aNR=>?_)
  have hRU:=hR.2.1.kQ aNR
  refine jd 3 [1]<|jn fun rX=>jd 7 [0]<|jc (vs:=[zP d,zI np]) [1] (Eu (hN.up (((bX.trans j5).trans rF).trans iE)) aP9 (by omega)) ?_
  rintro _ X92 ⟨w92,rfl,aYD,aYx,aP4⟩
  refine zD 3<|oR<|dS [1,1,1,1,1,1,0,1,0,0] [] (fun(zz:Int×Value×Cells×(List aA)×Cells)=>[(0,zP d),(1,zI np),(2,zI nf),(6,zP b6),(7,zP b7),(10,zP rX),(11,zI zz.1)]) (fun zz=>[.l zz.2.2.1,.l zz.2.2.2.2,.b rX (.cells ⟨[zI 2,zI 0,zI 0,.slice ei kB.length dW,.slice dG jI.length dr,zS,zS]⟩ 90 (0,0)),.b b7 (.cells ⟨[.slice (some ⟨nQ,0,none⟩) 2 2,.slice eO SN.length dP,zS,.slice ei kB.length dW,.slice dG jI.length dr,vR,zz.2.1,zS,zI 0,zI 0,zI 0,zS]⟩ 40 (0,0)),.b b6 (.cells ⟨zO⟩ 40 (0,0))]) (fun zz=>(0≤zz.1∧zz.2.2.2.1.length+zz.1≤4)∧ay zz.2.1 5 55 eA zz.2.2.2.1 zz.2.2.1∧(∀p∈zz.2.2.2.1,ajo UO p)∧bK vd xs d zz.2.2.2.2) (fun zz=>zz.1.toNat) (⟨w92,zS,[],[],X92⟩) ⟨by simp only[List.length_nil];omega,ay.nil _ _ _,(fun _ h=>by cases h),aP4⟩ [0,1,2,3,5] ?_
  rintro⟨j,vB,LB,uw,X⟩ hB K6 hK6 rest
  dsimp only at hB
  refine zD 6<|zJ 94 (j>0) (fun h18=>?_) fun h18=>?_
  ·
   refine zD 5<|GF [1,1,1,1,1,1,0,1,0,0,1,0,0,1] [K6] (fun(zz:Nat×aA×Cells)=>[(0,zP d),(1,zI np),(2,zI nf),(6,zP b6),(7,zP b7),(10,zP rX),(11,zI j),(12,zP zz.1)]) (fun zz=>[.b zz.1 (.cells ⟨[.string zz.2.1.name,zI zz.2.1.st,zI zz.2.1.no,zI zz.2.1.head,.bool zz.2.1.bold]⟩ 55 (0,0)),.l LB,.l zz.2.2,.b rX (.cells ⟨[zI 2,zI 0,zI 0,.slice ei kB.length dW,.slice dG jI.length dr,zS,zS]⟩ 90 (0,0)),.b b7 (.cells ⟨[.slice (some ⟨nQ,0,none⟩) 2 2,.slice eO SN.length dP,zS,.slice ei kB.length dW,.slice dG jI.length dr,vR,vB,zS,zI 0,zI 0,zI 0,zS]⟩ 40 (0,0)),.b b6 (.cells ⟨zO⟩ 40 (0,0))]) (fun zz=>(Oi zz.2.1.name∧nH UO zz.2.1.head∧(0≤zz.2.1.st∧zz.2.1.st≤1))∧bK vd xs d zz.2.2) ?_ (fun K7 hK7=>?_)
   ·
    rintro⟨wz,pp,X⟩ ahm rest
    dsimp only at ahm
    refine zD 3<|jc (vs:=[zP d,zI 1,zI 2]) [2] (AT (hN.up (((bX.trans j5).trans rF).trans iE)) ahm.2 (by omega) (by omega)) ?_
    rintro _ aRN ⟨aIK,rfl,aUh,aT7,aqj⟩
    refine jd 10 [1,1]<|GF [1,1,1,1,1,1,0,1,0,0,1,0,0,1,1,1] [K6] (fun(zz:Int×Cells)=>[(0,zP d),(1,zI np),(2,zI nf),(6,zP b6),(7,zP b7),(10,zP rX),(11,zI j),(12,zP wz)]) (fun zz=>[.b wz (.cells ⟨[.string pp.name,zI pp.st,zI zz.1,zI pp.head,.bool pp.bold]⟩ 55 (0,0)),.l LB,.l zz.2,.b rX (.cells ⟨[zI 2,zI 0,zI 0,.slice ei kB.length dW,.slice dG jI.length dr,zS,zS]⟩ 90 (0,0)),.b b7 (.cells ⟨[.slice (some ⟨nQ,0,none⟩) 2 2,.slice eO SN.length dP,zS,.slice ei kB.length dW,.slice dG jI.length dr,vR,vB,zS,zI 0,zI 0,zI 0,zS]⟩ 40 (0,0)),.b b6 (.cells ⟨zO⟩ 40 (0,0))]) (fun zz=>((pp.st=0→zz.1=1∨zz.1=2)∧(pp.st=1→zz.1=1∨zz.1=3))∧bK vd xs d zz.2) ?_ (fun K8 hK8=>?_)
    ·
     rintro⟨q,X⟩ anp rest
     dsimp only at anp
     refine jd 7 [0]<|GF [1,1,1,1,1,1,0,1,0,0,1,0,0,1,1,1,1,0,1] [K6] (fun(zz:Bool×Cells)=>[(0,zP d),(1,zI np),(2,zI nf),(6,zP b6),(7,zP b7),(10,zP rX),(11,zI j),(12,zP wz),(120,.bool zz.1)]) (fun zz=>[.b wz (.cells ⟨[.string pp.name,zI pp.st,zI q,zI pp.head,.bool false]⟩ 55 (0,0)),.l LB,.l zz.2,.b rX (.cells ⟨[zI 2,zI 0,zI 0,.slice ei kB.length dW,.slice dG jI.length dr,zS,zS]⟩ 90 (0,0)),.b b7 (.cells ⟨[.slice (some ⟨nQ,0,none⟩) 2 2,.slice eO SN.length dP,zS,.slice ei kB.length dW,.slice dG jI.length dr,vR,vB,zS,zI 0,zI 0,zI 0,zS]⟩ 40 (0,0)),.b b6 (.cells ⟨zO⟩ 40 (0,0))]) (fun zz=>(zz.1=true→0 <uw.length)∧bK vd xs d zz.2) ?_ (fun K9 hK9=>?_)
     ·
      rintro⟨g,X⟩ ahl rest
      dsimp only at ahl
      refine GF [1,1,1,1,1,1,0,1,0,0,1,0,0,1,1,1,1,1] [K6] (fun(zz:aA×Cells)=>[(0,zP d),(1,zI np),(2,zI nf),(6,zP b6),(7,zP b7),(10,zP rX),(11,zI j),(12,zP wz)]) (fun zz=>[.b wz (.cells ⟨[.string zz.1.name,zI zz.1.st,zI zz.1.no,zI zz.1.head,.bool zz.1.bold]⟩ 55 (0,0)),.l LB,.l zz.2,.b rX (.cells ⟨[zI 2,zI 0,zI 0,.slice ei kB.length dW,.slice dG jI.length dr,zS,zS]⟩ 90 (0,0)),.b b7 (.cells ⟨[.slice (some ⟨nQ,0,none⟩) 2 2,.slice eO SN.length dP,zS,.slice ei kB.length dW,.slice dG jI.length dr,vR,vB,zS,zI 0,zI 0,zI 0,zS]⟩ 40 (0,0)),.b b6 (.cells ⟨zO⟩ 40 (0,0))]) (fun zz=>ajo UO zz.1∧bK vd xs d zz.2) ?_ (fun K10 aEm=>?_)
      ·
       rintro⟨p2,X⟩ awa rest
       dsimp only at awa
       refine jd 4 [4,0]<|jn fun aFP=>iC (sz:=5) (ps:=uw) (qs:=[(⟨p2.name,p2.st,p2.no,p2.head,p2.bold⟩:aA)]) (enc:=eA) (w:= .slice (some ⟨aFP,0,none⟩) 1 1) [2] [0] [(aFP,.cells ⟨([(⟨p2.name,p2.st,p2.no,p2.head,p2.bold⟩:aA)].map eA).flatten⟩ 55 (0,0))] (hB.2.1) (fun s _ hZ=>bN [(⟨p2.name,p2.st,p2.no,p2.head,p2.bold⟩:aA)] (hZ _ (.head _)) (by intro p hp;rfl)) (fun p _=>ai rfl) (by simp<;>omega) (fun aWq aR8 XH=>?_)
       obtain⟨ay1,ayU,aDG⟩:=XH.form
       subst aDG
       refine jd 5 [5]<|ja (j-1) (by omega)<|zD 2<|bJ hK6 (⟨j-1,(.slice ay1 ((uw++[(⟨p2.name,p2.st,p2.no,p2.head,p2.bold⟩:aA)])).length ayU),aR8,(uw++[(⟨p2.name,p2.st,p2.no,p2.head,p2.bold⟩:aA)]),X⟩) ⟨by simp only[zM];omega,XH,oy hB.2.2.1 awa.1,awa.2⟩ (by omega) [0,3,4,5,6] (Sub.refl _)
      refine js 120 g (fun h19=>?_) (fun h19=>?_)
      ·
       subst h19
       refine jd 7 [4,4]<|B0 hB.2.1<|ja ((uw.length:Int)-1) (by omega)<|aS 7 fun Jn Jv Cj=>jc (vs:=[zP d,zI ((uw.length:Int)-1)]) [2] (Eu (hN.up (((bX.trans j5).trans rF).trans iE)) ahl.2 (by omega)) ?_
       rintro _ aRK ⟨acm,rfl,aUg,afB,aEC⟩
       refine fS Cj [[4],[4]] ?_
       obtain⟨aIu,afA⟩:=zG uw (acm.toNat) (by have:=ahl.1 rfl;omega)
       refine pP acm 5 hB.2.1 afA (Int.toNat_of_nonneg (show 0≤acm∧acm <((uw).length:Int) from (by have:=ahl.1 rfl;omega)).1).symm (fun ba7 aD1=>?_)
       refine oH 0 [2] LB (fun s _ hZ=>cw hB.2.1 aD1 hZ afA)<|aS 10 fun OP O9 Ci=>jd 1 [1]<|fT Ci<|zD 1<|bJ aEm ⟨aIu,aRK⟩ ⟨hB.2.2.1 _ (zL afA),aEC⟩ Nat.zero_lt_one [1,2,0,3,4,5] (Sub.refl _)
      subst h19
      refine zD 2<|bJ aEm ⟨⟨pp.name,pp.st,q,pp.head,false⟩,X⟩ ⟨⟨⟨ahm.1.1,ahm.1.2.1,ahm.1.2.2,rfl⟩,anp.1⟩,ahl.2⟩ Nat.zero_lt_one (zN 0 6) (Sub.refl _)
     refine jd 3 [4]<|B0 hB.2.1<|zD 2<|js 117 (decide ((uw.length:Int)>0)) (fun KP=>?_) (fun KP=>?_)
     ·
      have ahH:=KP
      replace ahH:=of_decide_eq_true ahH
      refine zD 1<|jc (vs:=[zP d,zI 5]) [2] (sU (hN.up (((bX.trans j5).trans rF).trans iE)) anp.2 (by omega)) ?_
      rintro _ aRL ⟨aIH,rfl,aED⟩
      refine zD 2<|bJ hK9 ⟨aIH,aRL⟩ ⟨fun _=>by omega,aED⟩ Nat.zero_lt_one [1,2,0,3,4,5] (Sub.refl _)
     have ahH:=KP
     replace ahH:=of_decide_eq_false ahH
     refine zD 4<|bJ hK9 ⟨false,X⟩ ⟨(fun h=>by cases h),anp.2⟩ Nat.zero_lt_one (zN 0 6) (Sub.refl _)
    refine zJ 107 (pp.st=1) (fun E5=>?_) fun E5=>?_
    ·
     refine zD 3<|jn fun aFR=>OA (vs:=[zP d,.slice (some ⟨aFR,0,none⟩) 2 2]) [1] [0] [(aFR,.cells ⟨([1,3].map cz).flatten⟩ 3 (0,0))] (fun aH hs hZ=>aiH ((hN.up (((bX.trans j5).trans rF).trans iE)).up hs) aqj (bC [1,3] hZ.head (by intro p hp;rfl)) (by simp)) ?_
     rintro _ aRM ⟨aII,rfl,aCd,aEE⟩
     refine jd 3 [2]<|bJ hK8 ⟨aII,aRM⟩ ⟨⟨(fun h=>by omega),(fun _=>by simpa using aCd)⟩,aEE⟩ Nat.zero_lt_one [2,3,0,4,5,6] (Sub.refl _)
    refine zD 2<|bJ hK8 ⟨aIK,aRN⟩ ⟨⟨(fun _=>by dsimp only;omega),(fun h=>by omega)⟩,aqj⟩ Nat.zero_lt_one [1,2,0,3,4,5] (Sub.refl _)
   refine jd 4 [2]<|ET [3,5] ⟨fun z13 t14 ahi=>?_,fun z16 t17 Nw=>?_,trivial⟩
   ·
    refine jc [1] (Yk (hN.up (((bX.trans j5).trans rF).trans iE)) hB.2.2.2) ?_
    rintro _ aRO ⟨akF,rfl,Xy,X6⟩
    refine fS ahi [[2]]<|ET [4,5] ⟨fun z19 t20 aaN=>?_,fun z22 t23 ahh=>?_,trivial⟩
    ·
     refine jc (vs:=[zP d,.agg ⟨[zI 2,zI 0,zI 0,.slice ei kB.length dW,.slice dG jI.length dr,zS,zS]⟩,.string akF]) [0] (xa (hN.up (((bX.trans j5).trans rF).trans iE)) X6 ((((show bI _ _ _ _ _ from ⟨dG,uD,uC,dr,rfl,wP,qB,qA⟩).up j5).up rF).up iE) (by have:=Cb.len;have:=Hf.nh;omega)) ?_
     rintro _ ajk ⟨ayQ,rfl,QO,QF,QX,Rc⟩
     refine fT aaN<|aS 5 fun aow aoR Ns=>jn fun wz=>fT Ns<|aS 6 fun VZ Wb AF=>jd 1 [0]<|fT AF<|zD 1<|bJ hK7 ⟨wz,_,ajk⟩ ⟨⟨QO▸Xy,wW Cb QX,QF⟩,Rc⟩ Nat.zero_lt_one [0,2,1,3,4,5] (Sub.refl _)
    refine jn fun wz=>ez ahh (zN 1 5)<|aS 4 fun Jm Ju Cf=>jc (vs:=[zP d,.agg ⟨[zI 2,zI 0,zI 0,.slice ei kB.length dW,.slice dG jI.length dr,zS,zS]⟩,.string akF]) [1] (xa (hN.up (((bX.trans j5).trans rF).trans iE)) X6 ((((show bI _ _ _ _ _ from ⟨dG,uD,uC,dr,rfl,wP,qB,qA⟩).up j5).up rF).up iE) (by have:=Cb.len;have:=Hf.nh;omega)) ?_
    rintro _ ajk ⟨ayQ,rfl,QO,QF,QX,Rc⟩
    refine fT Cf<|aS 6 fun Jl Jt Ce=>jd 1 [1]<|fT Ce<|zD 1<|bJ hK7 ⟨wz,_,ajk⟩ ⟨⟨QO▸Xy,wW Cb QX,QF⟩,Rc⟩ Nat.zero_lt_one [1,2,0,3,4,5] (Sub.refl _)
   refine jn fun wz=>ez Nw (zN 1 5)<|aS 3 fun Jk Js Cd=>jc [2] (Yk (hN.up (((bX.trans j5).trans rF).trans iE)) hB.2.2.2) ?_
   rintro _ aRO ⟨akF,rfl,Xy,X6⟩
   refine fS Cd [[3]]<|aS 4 fun VY Wa Nr=>jc (vs:=[zP d,.agg ⟨[zI 2,zI 0,zI 0,.slice ei kB.length dW,.slice dG jI.length dr,zS,zS]⟩,.string akF]) [0] (xa (hN.up (((bX.trans j5).trans rF).trans iE)) X6 ((((show bI _ _ _ _ _ from ⟨dG,uD,uC,dr,rfl,wP,qB,qA⟩).up j5).up rF).up iE) (by have:=Cb.len;have:=Hf.nh;omega)) ?_
   rintro _ ajk ⟨ayQ,rfl,QO,QF,QX,Rc⟩
   refine fT Nr<|aS 6 fun VX V9 I8=>jd 1 [1]<|fT I8<|zD 1<|bJ hK7 ⟨wz,_,ajk⟩ ⟨⟨QO▸Xy,wW Cb QX,QF⟩,Rc⟩ Nat.zero_lt_one [1,2,0,3,4,5] (Sub.refl _)
  refine zD 7<|jc (vs:=[zP d,zI np]) [1] (Eu (hN.up (((bX.trans j5).trans rF).trans iE)) hB.2.2.2 (by omega)) ?_
  rintro _ aRJ ⟨aIF,rfl,aUf,aT6,aEB⟩
  refine zD 3<|oR<|dS [1,1,1,1,1,1,1,0,1,0,0] [] (fun(zz:Int×Value×Cells×(List aA)×Cells)=>[(0,zP d),(2,zI nf),(6,zP b6),(7,zP b7),(10,zP rX),(13,zI zz.1)]) (fun zz=>[.l zz.2.2.1,.l zz.2.2.2.2,.l LB,.b rX (.cells ⟨[zI 2,zI 0,zI 0,.slice ei kB.length dW,.slice dG jI.length dr,zS,zS]⟩ 90 (0,0)),.b b7 (.cells ⟨[.slice (some ⟨nQ,0,none⟩) 2 2,.slice eO SN.length dP,zS,.slice ei kB.length dW,.slice dG jI.length dr,vR,vB,zz.2.1,zI 0,zI 0,zI 0,zS]⟩ 40 (0,0)),.b b6 (.cells ⟨zO⟩ 40 (0,0))]) (fun zz=>(0≤zz.1∧zz.2.2.2.1.length+zz.1≤4)∧ay zz.2.1 5 55 eA zz.2.2.2.1 zz.2.2.1∧(∀p∈zz.2.2.2.1,ajp UO p)∧bK vd xs d zz.2.2.2.2) (fun zz=>zz.1.toNat) (⟨aIF,zS,[],[],aRJ⟩) ⟨by simp only[List.length_nil];omega,ay.nil _ _ _,(fun _ h=>by cases h),aEB⟩ (zN 0 6) ?_
  rintro⟨j,vA,LA,Lr,X⟩ hA K32 aPU rest
  dsimp only at hA
  refine zD 6<|zJ 141 (j>0) (fun h35=>?_) fun h35=>?_
  ·
   refine zD 5<|GF [1,1,1,1,1,1,1,0,1,0,0,1,0,0,1] [K32] (fun(zz:Nat×aA×Cells)=>[(0,zP d),(2,zI nf),(6,zP b6),(7,zP b7),(10,zP rX),(13,zI j),(14,zP zz.1)]) (fun zz=>[.b zz.1 (.cells ⟨[.string zz.2.1.name,zI zz.2.1.st,zI zz.2.1.no,zI zz.2.1.head,.bool zz.2.1.bold]⟩ 55 (0,0)),.l LA,.l zz.2.2,.l LB,.b rX (.cells ⟨[zI 2,zI 0,zI 0,.slice ei kB.length dW,.slice dG jI.length dr,zS,zS]⟩ 90 (0,0)),.b b7 (.cells ⟨[.slice (some ⟨nQ,0,none⟩) 2 2,.slice eO SN.length dP,zS,.slice ei kB.length dW,.slice dG jI.length dr,vR,vB,vA,zI 0,zI 0,zI 0,zS]⟩ 40 (0,0)),.b b6 (.cells ⟨zO⟩ 40 (0,0))]) (fun zz=>(Oi zz.2.1.name∧nH UO zz.2.1.head∧(0≤zz.2.1.st∧zz.2.1.st≤1))∧bK vd xs d zz.2.2) ?_ (fun K33 av8=>?_)
   ·
    rintro⟨YE,pp,X⟩ ahk rest
    dsimp only at ahk
    refine zD 3<|jc (vs:=[zP d,zI 1,zI 3]) [2] (AT (hN.up (((bX.trans j5).trans rF).trans iE)) ahk.2 (by omega) (by omega)) ?_
    rintro _ aRH ⟨ayO,rfl,aUe,aT5,aqg⟩
    refine jd 7 [1,1]<|GF [1,1,1,1,1,1,1,0,1,0,0,1,0,0,1,1,0,1] [K32] (fun(zz:Bool×Cells)=>[(0,zP d),(2,zI nf),(6,zP b6),(7,zP b7),(10,zP rX),(13,zI j),(14,zP YE),(161,.bool zz.1)]) (fun zz=>[.b YE (.cells ⟨[.string pp.name,zI pp.st,zI ayO,zI pp.head,.bool false]⟩ 55 (0,0)),.l LA,.l zz.2,.l LB,.b rX (.cells ⟨[zI 2,zI 0,zI 0,.slice ei kB.length dW,.slice dG jI.length dr,zS,zS]⟩ 90 (0,0)),.b b7 (.cells ⟨[.slice (some ⟨nQ,0,none⟩) 2 2,.slice eO SN.length dP,zS,.slice ei kB.length dW,.slice dG jI.length dr,vR,vB,vA,zI 0,zI 0,zI 0,zS]⟩ 40 (0,0)),.b b6 (.cells ⟨zO⟩ 40 (0,0))]) (fun zz=>(zz.1=true→0 <uw.length)∧bK vd xs d zz.2) ?_ (fun K34 aEh=>?_)
    ·
     rintro⟨g,X⟩ ahj rest
     dsimp only at ahj
     refine GF [1,1,1,1,1,1,1,0,1,0,0,1,0,0,1,1,1] [K32] (fun(zz:aA×Cells)=>[(0,zP d),(2,zI nf),(6,zP b6),(7,zP b7),(10,zP rX),(13,zI j),(14,zP YE)]) (fun zz=>[.b YE (.cells ⟨[.string zz.1.name,zI zz.1.st,zI zz.1.no,zI zz.1.head,.bool zz.1.bold]⟩ 55 (0,0)),.l LA,.l zz.2,.l LB,.b rX (.cells ⟨[zI 2,zI 0,zI 0,.slice ei kB.length dW,.slice dG jI.length dr,zS,zS]⟩ 90 (0,0)),.b b7 (.cells ⟨[.slice (some ⟨nQ,0,none⟩) 2 2,.slice eO SN.length dP,zS,.slice ei kB.length dW,.slice dG jI.length dr,vR,vB,vA,zI 0,zI 0,zI 0,zS]⟩ 40 (0,0)),.b b6 (.cells ⟨zO⟩ 40 (0,0))]) (fun zz=>ajp UO zz.1∧bK vd xs d zz.2) ?_ (fun K35 av7=>?_)
     ·
      rintro⟨p2,X⟩ av9 rest
      dsimp only at av9
      refine jd 4 [5,0]<|jn fun aFN=>iC (sz:=5) (ps:=Lr) (qs:=[(⟨p2.name,p2.st,p2.no,p2.head,p2.bold⟩:aA)]) (enc:=eA) (w:= .slice (some ⟨aFN,0,none⟩) 1 1) [2] [0] [(aFN,.cells ⟨([(⟨p2.name,p2.st,p2.no,p2.head,p2.bold⟩:aA)].map eA).flatten⟩ 55 (0,0))] (hA.2.1) (fun s _ hZ=>bN [(⟨p2.name,p2.st,p2.no,p2.head,p2.bold⟩:aA)] (hZ _ (.head _)) (by intro p hp;rfl)) (fun p _=>ai rfl) (by simp<;>omega) (fun aWp aR7 XG=>?_)
      obtain⟨ay0,ayT,aDF⟩:=XG.form
      subst aDF
      refine jd 5 [6]<|ja (j-1) (by omega)<|zD 2<|bJ aPU (⟨j-1,(.slice ay0 ((Lr++[(⟨p2.name,p2.st,p2.no,p2.head,p2.bold⟩:aA)])).length ayT),aR7,(Lr++[(⟨p2.name,p2.st,p2.no,p2.head,p2.bold⟩:aA)]),X⟩) ⟨by simp only[zM];omega,XG,oy hA.2.2.1 av9.1,av9.2⟩ (by omega) [0,3,4,5,6,7] (Sub.refl _)
     refine js 161 g (fun h36=>?_) (fun h36=>?_)
     ·
      subst h36
      refine jd 8 [5,5]<|B0 hB.2.1<|ja ((uw.length:Int)-1) (by omega)<|aS 7 fun ab1 acL Np=>jc (vs:=[zP d,zI ((uw.length:Int)-1)]) [2] (Eu (hN.up (((bX.trans j5).trans rF).trans iE)) ahj.2 (by omega)) ?_
      rintro _ bbJ ⟨ack,rfl,aUd,aT4,aEz⟩
      refine fS Np [[5],[5]] ?_
      obtain⟨DO,Qz⟩:=zG uw (ack.toNat) (by have:=ahj.1 rfl;omega)
      refine pP ack 5 hB.2.1 Qz (Int.toNat_of_nonneg (show 0≤ack∧ack <((uw).length:Int) from (by have:=ahj.1 rfl;omega)).1).symm (fun ba4 aDY=>?_)
      refine oH 0 [3] LB (fun s _ hZ=>cw hB.2.1 aDY hZ Qz)<|aS 10 fun ab0 acK UZ=>jd 1 [1]<|fT UZ<|zD 5<|jc (vs:=[zP d,zI 3]) [0] (sU (hN.up (((bX.trans j5).trans rF).trans iE)) aEz (by omega)) ?_
      rintro _ aRE ⟨aIC,rfl,aqf⟩
      refine zD 1<|GF [1,1,1,1,1,1,1,0,1,0,0,1,0,0,1,1,2,1,0,1,1] [K32,K35] (fun(zz:Int×Cells)=>[(0,zP d),(2,zI nf),(6,zP b6),(7,zP b7),(10,zP rX),(13,zI j),(14,zP YE)]) (fun zz=>[.b YE (.cells ⟨[.string DO.name,zI DO.st,zI zz.1,zI DO.head,.bool DO.bold]⟩ 55 (0,0)),.l LA,.l zz.2,.l LB,.b rX (.cells ⟨[zI 2,zI 0,zI 0,.slice ei kB.length dW,.slice dG jI.length dr,zS,zS]⟩ 90 (0,0)),.b b7 (.cells ⟨[.slice (some ⟨nQ,0,none⟩) 2 2,.slice eO SN.length dP,zS,.slice ei kB.length dW,.slice dG jI.length dr,vR,vB,vA,zI 0,zI 0,zI 0,zS]⟩ 40 (0,0)),.b b6 (.cells ⟨zO⟩ 40 (0,0))]) (fun zz=>(1≤zz.1∧zz.1≤3)∧bK vd xs d zz.2) ?_ (fun K38 aEg=>?_)
      ·
       rintro⟨q,X⟩ ano rest
       dsimp only at ano
       have hO:=hB.2.2.1 _ (zL Qz)
       have hO2:=hO.1.2.2.1
       have hO3:=hO.2
       refine zD 3<|jc (vs:=[zP d,zI 4]) [2] (sU (hN.up (((bX.trans j5).trans rF).trans iE)) ano.2 (by omega)) ?_
       rintro _ aF8 ⟨aIA,rfl,aqe⟩
       refine zD 1<|js 178 aIA (fun h39=>?_) (fun h39=>?_)
       ·
        subst h39
        refine jd 5 [1]<|bJ av7 ⟨⟨DO.name,DO.st,q,-1,DO.bold⟩,aF8⟩ ⟨⟨⟨hO.1.1,.inl rfl,hO.1.2.2.1,hO.1.2.2.2⟩,ano.1⟩,aqe⟩ Nat.zero_lt_one [1,2,0,3,4,5,6] (Sub.refl _)
       subst h39
       refine zD 2<|bJ av7 ⟨⟨DO.name,DO.st,q,DO.head,DO.bold⟩,aF8⟩ ⟨⟨⟨hO.1.1,hO.1.2.1,hO.1.2.2.1,hO.1.2.2.2⟩,ano.1⟩,aqe⟩ Nat.zero_lt_one [1,2,0,3,4,5,6] (Sub.refl _)
      refine js 173 aIC (fun h40=>?_) (fun h40=>?_)
      ·
       subst h40
       have hO:=hB.2.2.1 _ (zL Qz)
       have hO2:=hO.1.2.2.1
       have hO3:=hO.2
       refine zD 3<|jc (vs:=[zP d,zI 1,zI 3]) [0] (AT (hN.up (((bX.trans j5).trans rF).trans iE)) aqf (by omega) (by omega)) ?_
       rintro _ aRD ⟨aIB,rfl,aUc,aT3,aEy⟩
       refine jd 3 [1]<|bJ aEg ⟨aIB,aRD⟩ ⟨by dsimp only;omega,aEy⟩ Nat.zero_lt_one [1,2,0,3,4,5,6] (Sub.refl _)
      subst h40
      have hO:=hB.2.2.1 _ (zL Qz)
      have hO2:=hO.1.2.2.1
      have hO3:=hO.2
      refine zD 2<|bJ aEg ⟨DO.no,aRE⟩ ⟨by dsimp only;omega,aqf⟩ Nat.zero_lt_one [1,2,0,3,4,5,6] (Sub.refl _)
     subst h36
     refine zD 2<|bJ av7 ⟨⟨pp.name,pp.st,ayO,pp.head,false⟩,X⟩ ⟨⟨⟨ahk.1.1,ahk.1.2.1,ahk.1.2.2,rfl⟩,by dsimp only;omega⟩,ahj.2⟩ Nat.zero_lt_one (zN 0 7) (Sub.refl _)
    refine jd 3 [5]<|B0 hB.2.1<|zD 2<|js 157 (decide ((uw.length:Int)>0)) (fun h41=>?_) (fun h41=>?_)
    ·
     have ahu:=h41
     replace ahu:=of_decide_eq_true ahu
     refine zD 1<|jc (vs:=[zP d,zI 3]) [0] (sU (hN.up (((bX.trans j5).trans rF).trans iE)) aqg (by omega)) ?_
     rintro _ aRG ⟨aIE,rfl,aEA⟩
     refine zD 3<|bJ aEh ⟨!aIE,aRG⟩ ⟨fun _=>by omega,aEA⟩ Nat.zero_lt_one [1,2,0,3,4,5,6] (Sub.refl _)
    have ahu:=h41
    replace ahu:=of_decide_eq_false ahu
    refine zD 5<|bJ aEh ⟨false,aRH⟩ ⟨(fun h=>by cases h),aqg⟩ Nat.zero_lt_one [1,2,0,3,4,5,6] (Sub.refl _)
   refine jd 4 [3]<|ET [3,5] ⟨fun z39 t40 ahd=>?_,fun z42 t43 aPO=>?_,trivial⟩
   ·
    refine jc [1] (Yk (hN.up (((bX.trans j5).trans rF).trans iE)) hA.2.2.2) ?_
    rintro _ aRI ⟨akE,rfl,Xx,X5⟩
    refine fS ahd [[3]]<|ET [4,5] ⟨fun z45 t46 aPN=>?_,fun z48 t49 ahc=>?_,trivial⟩
    ·
     refine jc (vs:=[zP d,.agg ⟨[zI 2,zI 0,zI 0,.slice ei kB.length dW,.slice dG jI.length dr,zS,zS]⟩,.string akE]) [0] (xa (hN.up (((bX.trans j5).trans rF).trans iE)) X5 ((((show bI _ _ _ _ _ from ⟨dG,uD,uC,dr,rfl,wP,qB,qA⟩).up j5).up rF).up iE) (by have:=Cb.len;have:=Hf.nh;omega)) ?_
     rintro _ ajj ⟨ayP,rfl,QN,QE,QW,Rb⟩
     refine fT aPN<|aS 5 fun aot aoO ahb=>jn fun YE=>fT ahb<|aS 6 fun aos aoN aha=>jd 1 [0]<|fT aha<|zD 1<|bJ av8 ⟨YE,_,ajj⟩ ⟨⟨QN▸Xx,wW Cb QW,QE⟩,Rb⟩ Nat.zero_lt_one [0,2,1,3,4,5,6] (Sub.refl _)
    refine jn fun YE=>ez ahc (zN 1 6)<|aS 4 fun aor aoM ag9=>jc (vs:=[zP d,.agg ⟨[zI 2,zI 0,zI 0,.slice ei kB.length dW,.slice dG jI.length dr,zS,zS]⟩,.string akE]) [1] (xa (hN.up (((bX.trans j5).trans rF).trans iE)) X5 ((((show bI _ _ _ _ _ from ⟨dG,uD,uC,dr,rfl,wP,qB,qA⟩).up j5).up rF).up iE) (by have:=Cb.len;have:=Hf.nh;omega)) ?_
    rintro _ ajj ⟨ayP,rfl,QN,QE,QW,Rb⟩
    refine fT ag9<|aS 6 fun aoq aoL ag8=>jd 1 [1]<|fT ag8<|zD 1<|bJ av8 ⟨YE,_,ajj⟩ ⟨⟨QN▸Xx,wW Cb QW,QE⟩,Rb⟩ Nat.zero_lt_one [1,2,0,3,4,5,6] (Sub.refl _)
   refine jn fun YE=>ez aPO (zN 1 6)<|aS 3 fun aop aoK ag7=>jc [2] (Yk (hN.up (((bX.trans j5).trans rF).trans iE)) hA.2.2.2) ?_
   rintro _ aRI ⟨akE,rfl,Xx,X5⟩
   refine fS ag7 [[4]]<|aS 4 fun aoo aoJ ag6=>jc (vs:=[zP d,.agg ⟨[zI 2,zI 0,zI 0,.slice ei kB.length dW,.slice dG jI.length dr,zS,zS]⟩,.string akE]) [0] (xa (hN.up (((bX.trans j5).trans rF).trans iE)) X5 ((((show bI _ _ _ _ _ from ⟨dG,uD,uC,dr,rfl,wP,qB,qA⟩).up j5).up rF).up iE) (by have:=Cb.len;have:=Hf.nh;omega)) ?_
   rintro _ ajj ⟨ayP,rfl,QN,QE,QW,Rb⟩
   refine fT ag6<|aS 6 fun aon aoI ag5=>jd 1 [1]<|fT ag5<|zD 1<|bJ av8 ⟨YE,_,ajj⟩ ⟨⟨QN▸Xx,wW Cb QW,QE⟩,Rb⟩ Nat.zero_lt_one [1,2,0,3,4,5,6] (Sub.refl _)
  refine zD 4<|jf [2,0] (LB++LA) (fun aWI vD aDn=>?_)
  have hb:=hB.2.1.kQ (Knows.left aDn)
  have ha:=hA.2.1.kQ (Knows.right aDn)
  have hBF:=hb
  have hAF:=ha
  obtain⟨lB,Ox,Ov,lf,rfl,Ow,Mt,Ms⟩:=hb
  obtain⟨kR,JZ,JX,kK,rfl,JY,IS,IQ⟩:=ha
  refine zD 2<|jc (vs:=[zP d,zI 4]) [0] (Eu (hN.up ((((bX.trans j5).trans rF).trans iE).trans vD)) hA.2.2.2 (by omega)) ?_
  rintro _ bbI ⟨akD,rfl,aUb,aT2,aEx⟩
  refine jn fun aFM=>OA (vs:=[zP d,.slice (some ⟨aFM,0,none⟩) 4 4]) [1] [0] [(aFM,.cells ⟨([1,2,4,akD].map cz).flatten⟩ 3 (0,0))] (fun aH hs hZ=>aiH ((hN.up ((((bX.trans j5).trans rF).trans iE).trans vD)).up hs) aEx (bC [1,2,4,akD] hZ.head (by intro p hp;rfl)) (by simp)) ?_
  rintro _ bbH ⟨acj,rfl,aCb,aEw⟩
  refine zD 2<|jc (vs:=[zP d,zI 4]) [0] (Eu (hN.up ((((bX.trans j5).trans rF).trans iE).trans vD)) aEw (by omega)) ?_
  rintro _ bbG ⟨akC,rfl,aUa,aT1,aEv⟩
  refine jn fun aFL=>OA (vs:=[zP d,.slice (some ⟨aFL,0,none⟩) 4 4]) [1] [0] [(aFL,.cells ⟨([1,2,4,akC].map cz).flatten⟩ 3 (0,0))] (fun aH hs hZ=>aiH ((hN.up ((((bX.trans j5).trans rF).trans iE).trans vD)).up hs) aEv (bC [1,2,4,akC] hZ.head (by intro p hp;rfl)) (by simp)) ?_
  rintro _ bbF ⟨aci,rfl,aCa,aEu⟩
  refine zD 2<|jc (vs:=[zP d,zI 4]) [0] (Eu (hN.up ((((bX.trans j5).trans rF).trans iE).trans vD)) aEu (by omega)) ?_
  rintro _ bbE ⟨akB,rfl,aT9,aT0,aEt⟩
  refine jn fun aFK=>OA (vs:=[zP d,.slice (some ⟨aFK,0,none⟩) 4 4]) [1] [0] [(aFK,.cells ⟨([1,2,4,akB].map cz).flatten⟩ 3 (0,0))] (fun aH hs hZ=>aiH ((hN.up ((((bX.trans j5).trans rF).trans iE).trans vD)).up hs) aEt (bC [1,2,4,akB] hZ.head (by intro p hp;rfl)) (by simp)) ?_
  rintro _ bbD ⟨acg,rfl,aB9,aEs⟩
  refine jd 6 [5,5,5] ?_
  have Bh:=ata aCb (by omega:0≤akD∧akD≤4)
  have yR:=ata aCa (by omega:0≤akC∧akC≤4)
  have p8:=ata aB9 (by omega:0≤akB∧akB≤4)
  refine zD 6<|jc (vs:=[zP d,zI nf]) [0] (Eu (hN.up ((((bX.trans j5).trans rF).trans iE).trans vD)) aEs (by omega)) ?_
  rintro _ aRC ⟨aIz,rfl,aT8,aTZ,aEr⟩
  refine zD 3<|oR<|dS [1,1,1,1,1,1,1,1,1,0,1,0,0] [] (fun(zz:Int×Value×Cells×(List cY)×Cells)=>[(0,zP d),(6,zP b6),(7,zP b7),(15,zI zz.1)]) (fun zz=>[.l zz.2.2.1,.l zz.2.2.2.2,.b rX (.cells ⟨[zI 2,zI 0,zI 0,.slice ei kB.length dW,.slice dG jI.length dr,zS,zS]⟩ 90 (0,0)),.b b7 (.cells ⟨[.slice (some ⟨nQ,0,none⟩) 2 2,.slice eO SN.length dP,zS,.slice ei kB.length dW,.slice dG jI.length dr,vR,.slice lB uw.length lf,.slice kR Lr.length kK,zI acj,zI aci,zI acg,zz.2.1]⟩ 40 (0,0)),.b b6 (.cells ⟨zO⟩ 40 (0,0))]) (fun zz=>(0≤zz.1∧zz.2.2.2.1.length+zz.1≤nf)∧ay zz.2.1 3 58 rM zz.2.2.2.1 zz.2.2.1∧A9 uw.length Lr.length zz.2.2.2.1∧bK vd xs d zz.2.2.2.2) (fun zz=>zz.1.toNat) (⟨aIz,zS,[],[],aRC⟩) ⟨by simp only[List.length_nil];omega,ay.nil _ _ _,⟨(fun _ h=>by cases h),List.Pairwise.nil⟩,aEr⟩ [0,1,5,6,7] ?_
  rintro⟨j,vF,LF,fs,X⟩ hF K58 aEf rest
  dsimp only at hF
  have auR:=hB.1
  have aUr:=hA.1
  refine zD 6<|jj 5 [(0,zP d),(6,zP b6),(7,zP b7),(15,zI j),(214,.bool ((decide (j>0))&&(decide ((uw.length:Int)>0))))] (fun gB=>?_) (fun hj=>?_)
  rotate_left
  refine js 209 (decide (j>0)) (fun h56=>?_) (fun h56=>?_)
  ·
   have aht:=h56
   replace aht:=of_decide_eq_true aht
   refine jd 5 [3]<|jw 214 (.bool ((decide (j>0))&&(decide ((uw.length:Int)>0)))) (w:= .bool (decide ((uw.length:Int)>0))) (by rw[h56]<;>rfl) ?_
   exact zK hj
  ·
   have aht:=h56
   replace aht:=of_decide_eq_false aht
   refine zD 5<|jw 214 (.bool ((decide (j>0))&&(decide ((uw.length:Int)>0)))) (w:= .bool false) (by rw[h56]<;>rfl) ?_
   exact zK hj
  refine zD 1<|jj 5 [(0,zP d),(6,zP b6),(7,zP b7),(15,zI j),(220,.bool (((decide (j>0))&&(decide ((uw.length:Int)>0)))&&(decide ((Lr.length:Int)>0))))] (fun gB=>?_) (fun hj=>?_)
  rotate_left
  refine js 215 ((decide (j>0))&&(decide ((uw.length:Int)>0))) (fun h57=>?_) (fun h57=>?_)
  ·
   have awh:=h57
   try simp only[zB] at awh
   refine jd 5 [3]<|jw 220 (.bool (((decide (j>0))&&(decide ((uw.length:Int)>0)))&&(decide ((Lr.length:Int)>0)))) (w:= .bool (decide ((Lr.length:Int)>0))) (by rw[h57]<;>rfl) ?_
   exact zK hj
  ·
   have awh:=h57
   try simp only[zB] at awh
   refine zD 5<|jw 220 (.bool (((decide (j>0))&&(decide ((uw.length:Int)>0)))&&(decide ((Lr.length:Int)>0)))) (w:= .bool false) (by rw[h57]<;>rfl) ?_
   exact zK hj
  refine zD 1<|js 220 (((decide (j>0))&&(decide ((uw.length:Int)>0)))&&(decide ((Lr.length:Int)>0))) (fun h58=>?_) (fun h58=>?_)
  ·
   try simp only[zB] at h58
   refine jd 8 [3]<|jc (vs:=[zP d,.agg ⟨[.slice (some ⟨nQ,0,none⟩) 2 2,.slice eO SN.length dP,zS,.slice ei kB.length dW,.slice dG jI.length dr,vR,.slice lB uw.length lf,.slice kR Lr.length kK,zI acj,zI aci,zI acg,vF]⟩]) [1] (aQU (hN.up ((((bX.trans j5).trans rF).trans iE).trans vD)) hF.2.2.2 (show bI _ _ _ _ _ from ⟨lB,Ox,Ov,lf,rfl,Ow,Mt,Ms⟩) (show bI _ _ _ _ _ from ⟨kR,JZ,JX,kK,rfl,JY,IS,IQ⟩) (by omega)) ?_
   rintro _ aF7 ⟨pz,rfl,aUF,aUE,aqd⟩
   refine jn fun b16=>jd 6 [0,4,0]<|jp (vs:=[.agg ⟨[.slice (some ⟨nQ,0,none⟩) 2 2,.slice eO SN.length dP,zS,.slice ei kB.length dW,.slice dG jI.length dr,vR,.slice lB uw.length lf,.slice kR Lr.length kK,zI acj,zI aci,zI acg,vF]⟩,.agg ⟨[zI pz.a,zI pz.b,.bool pz.same]⟩]) [2] LF (fun aH hs hZ=>aBK (x:=⟨pz.a,pz.b,pz.same⟩) (hF.2.1.kQ hZ) (by omega))<|zD 2<|js 229 (!(C7 fs pz.a pz.b)) (fun h59=>?_) (fun h59=>?_)
   ·
    try simp only[zB] at h59
    refine jd 5 [4,0]<|jn fun aFJ=>iC (sz:=3) (ps:=fs) (qs:=[(⟨pz.a,pz.b,pz.same⟩:cY)]) (enc:=rM) (w:= .slice (some ⟨aFJ,0,none⟩) 1 1) [3] [0] [(aFJ,.cells ⟨([(⟨pz.a,pz.b,pz.same⟩:cY)].map rM).flatten⟩ 58 (0,0))] (hF.2.1) (fun s _ hZ=>bN [(⟨pz.a,pz.b,pz.same⟩:cY)] (hZ _ (.head _)) (by intro p hp;rfl)) (fun p _=>ai rfl) (by simp<;>omega) (fun aWn aR6 XF=>?_)
    obtain⟨ayZ,ayS,aDE⟩:=XF.form
    subst aDE
    refine jd 5 [5]<|ja (j-1) (by omega)<|zD 2<|bJ aEf (⟨j-1,(.slice ayZ ((fs++[(⟨pz.a,pz.b,pz.same⟩:cY)])).length ayS),aR6,(fs++[(⟨pz.a,pz.b,pz.same⟩:cY)]),aF7⟩) ⟨by simp only[zM];omega,XF,A9.snoc hF.2.2.1 (by dsimp only;omega) (by dsimp only;omega) (by assumption),aqd⟩ (by omega) [0,3,4,5,6] (Sub.refl _)
   try simp only[zB] at h59
   refine zD 4<|ja (j-1) (by omega)<|zD 2<|bJ aEf (⟨j-1,vF,LF,fs,aF7⟩) ⟨by dsimp only;omega,hF.2.1,hF.2.2.1,aqd⟩ (by omega) [2,1,3,4,5] (Sub.refl _)
  try simp only[zB] at h58
  refine zD 4<|jf [0] LF (fun aWH Ur aNN=>?_)
  have hFA:=hF.2.1.kQ aNN
  refine jd 1 [2] ?_
  obtain⟨aJb,aIR,aOl⟩:=hR.2.1.form
  subst aOl
  obtain⟨aJa,aIQ,aOk⟩:=hF.2.1.form
  subst aOk
  refine jd 3 [3]<|aM q0.a.a.a.a.a.a (.agg ⟨[.slice (some ⟨nQ,0,none⟩) 2 2,.slice eO SN.length dP,zS,.slice ei kB.length dW,.slice dG jI.length dr,(.slice aJb (rs).length aIR),.slice lB uw.length lf,.slice kR Lr.length kK,zI acj,zI aci,zI acg,(.slice aJa (fs).length aIQ)]⟩) [3] [0] X (Sub.refl _) ⟨_,_,X,rfl,rfl,(((((bX.trans j5).trans rF).trans iE).trans vD).trans Ur),⟨ways,kB,UO,rs,uw,Lr,acj,aci,acg,fs,yu⟩,_,rfl,⟨SG.2.1,Hf,⟨by dsimp only;omega,hR.2.2⟩,⟨by dsimp only;omega,hB.2.2.1⟩,⟨by dsimp only;omega,hA.2.2.1⟩,⟨Bh,yR,p8⟩,⟨by dsimp only;omega,hF.2.2.1.1⟩,hF.2.2.1.2,rfl⟩,(by dsimp only;omega),⟨_,_,_,_,_,_,_,_,none,0,jI,rfl,(aPt.up (((rF.trans iE).trans vD).trans Ur)),(aEc.up ((iE.trans vD).trans Ur)),(p7.up ((((j5.trans rF).trans iE).trans vD).trans Ur)),Cb,(hRU.up (vD.trans Ur)),(hBF.up Ur),(hAF.up Ur),hFA⟩,hF.2.2.2⟩
 refine js 30 LJ (fun h65=>?_) (fun h65=>?_)
 ·
  subst h65
  refine jd 7 [1]<|aS 4 fun aSq aSR aPM=>jc [0] (aFk (hN.up (bX.trans j5)) aho) ?_
  rintro _ X35 ⟨uf,rfl,aB8,aQd⟩
  refine fS aPM [[1]]<|aS 5 fun aSp aSQ aPL=>jn fun rN=>ez aPL [1,2,3]<|zD 1<|aS 7 fun aSo aSP aPK=>jn fun b38=>ez aPK (zN 1 4)<|aS 8 fun aSn aSO aPJ=>aLS (E:=87) (sz:=1) gv (qs:=[(.slice (some ⟨rN,0,none⟩) 1 1:Value)]) (w:= .slice (some ⟨b38,0,none⟩) 1 1) [0] [(b38,.cells ⟨([(.slice (some ⟨rN,0,none⟩) 1 1:Value)].map gv).flatten⟩ 87 (0,0))] (fun s _ hZ=>bN [(.slice (some ⟨rN,0,none⟩) 1 1:Value)] (hZ _ (.head _)) (by intro p hp;rfl)) (by intro p hp;rw[List.mem_singleton] at hp;subst hp;exact ai rfl) (by simp<;>omega) (fun v39 L39 B3=>?_)
  obtain⟨ayY,ayR,agI⟩:=B3.form
  subst agI
  refine ez aPJ (zN 1 5)<|zD 2<|aS 11 fun aSm aSN aPI=>jd 1 [4]<|fS aPI []<|zD 4<|jc (vs:=[zP d,zI 2]) [3] (sU (hN.up (bX.trans j5)) aQd (by omega)) ?_
  rintro _ X43 ⟨w43,rfl,aEp⟩
  refine zD 1<|js 43 w43 (fun h71=>?_) (fun h71=>?_)
  ·
   subst h71
   refine jd 8 [4,4]<|jxo 1 B3 (show ([(.slice (some ⟨rN,0,none⟩) 1 1:Value)])[0]?=some (.slice (some ⟨rN,0,none⟩) 1 1:Value) from rfl) fun b50 aO2=>zD 1<|oH 0 [1] L39 (fun s _ hZ=>cw B3 aO2 hZ (show ([(.slice (some ⟨rN,0,none⟩) 1 1:Value)])[0]?=some (.slice (some ⟨rN,0,none⟩) 1 1:Value) from rfl))<|zD 1<|aS 10 fun aSl aSM aPH=>jc [0] (aFk (hN.up (bX.trans j5)) aEp) ?_
   rintro _ X54 ⟨uQ,rfl,aMl,aQa⟩
   refine fS aPH [[1],[4],[4]]<|aS 11 fun aSk aSL aPG=>jn fun b55=>ez aPG (zN 1 6)<|aS 12 fun aSj aSK aPF=>iC (sz:=7) (ps:=[(⟨uf.k,uf.st,uf.ot,uf.fn,uf.fl,uf.tn,uf.tl⟩:aN)]) (qs:=[(⟨uQ.k,uQ.st,uQ.ot,uQ.fn,uQ.fl,uQ.tn,uQ.tl⟩:aN)]) (enc:=kA) (w:= .slice (some ⟨b55,0,none⟩) 1 1) [4] [0] [(b55,.cells ⟨([(⟨uQ.k,uQ.st,uQ.ot,uQ.fn,uQ.fl,uQ.tn,uQ.tl⟩:aN)].map kA).flatten⟩ 83 (0,0))] (Ge (b:=rN) (T:=83) [(⟨uf.k,uf.st,uf.ot,uf.fn,uf.fl,uf.tn,uf.tl⟩:aN)] rfl (by intro p hp;rfl)) (fun s _ hZ=>bN [(⟨uQ.k,uQ.st,uQ.ot,uQ.fn,uQ.fl,uQ.tn,uQ.tl⟩:aN)] (hZ _ (.head _)) (by intro p hp;rfl)) (fun p _=>ai rfl) (by simp<;>omega) (fun v56 L56 vG=>?_)
   obtain⟨Y3,Y0,agH⟩:=vG.form
   subst agH
   refine fS aPF [[5],[5]]<|jxo 1 B3 (show ([(.slice (some ⟨rN,0,none⟩) 1 1:Value)])[0]?=some (.slice (some ⟨rN,0,none⟩) 1 1:Value) from rfl) fun b57 aO1=>zD 1<|aS 15 fun aSi aSJ aPE=>So 3 0 [(.slice Y3 (([(⟨uf.k,uf.st,uf.ot,uf.fn,uf.fl,uf.tn,uf.tl⟩:aN)]++[(⟨uQ.k,uQ.st,uQ.ot,uQ.fn,uQ.fl,uQ.tn,uQ.tl⟩:aN)])).length Y0)] ((.slice Y3 (([(⟨uf.k,uf.st,uf.ot,uf.fn,uf.fl,uf.tn,uf.tl⟩:aN)]++[(⟨uQ.k,uQ.st,uQ.ot,uQ.fn,uQ.fl,uQ.tn,uQ.tl⟩:aN)])).length Y0):Value) B3 aO1 (show ([(.slice (some ⟨rN,0,none⟩) 1 1:Value)])[0]?=some (.slice (some ⟨rN,0,none⟩) 1 1:Value) from rfl) rfl rfl (Nat.le_of_ble_eq_true rfl) fun L76 aNa=>fS aPE []<|zD 1<|M5 bL ⟨(.slice ayY ([(.slice (some ⟨rN,0,none⟩) 1 1:Value)]).length ayR),L76++L56,[[uf,uQ]],X54⟩ ⟨fun _ hk=>⟨_,aNa.kQ hk.left,.cons (vG.kQ hk.right) .nil⟩,⟨by simp,by simpa using ⟨aB8,aMl⟩⟩,aQa⟩ Nat.zero_lt_one [[0,1],[3],[5],[6]] (Sub.refl _)
  subst h71
  refine zD 2<|M5 bL ⟨(.slice ayY ([(.slice (some ⟨rN,0,none⟩) 1 1:Value)]).length ayR),L39++[(rN,.cells ⟨[zI uf.k,zI uf.st,zI uf.ot,zI uf.fn,zI uf.fl,zI uf.tn,zI uf.tl]⟩ 83 (0,0))],[[uf]],X43⟩ ⟨fun _ hk=>⟨_,B3.kQ hk.left,.cons (bC [uf] (hk.right _ (.head _)) (fun _ _=>rfl)) .nil⟩,⟨by simp,by simpa using aB8⟩,aEp⟩ Nat.zero_lt_one [[1,3],[0],[4],[5]] (Sub.refl _)
 subst h65
 refine zD 2<|oR<|bJ bL ⟨zS,[],[],X30⟩ ⟨fun _ _=>Ta,⟨by simp,by simp⟩,aho⟩ Nat.zero_lt_one (zN 0 4) (Sub.refl _)
end Go.L
