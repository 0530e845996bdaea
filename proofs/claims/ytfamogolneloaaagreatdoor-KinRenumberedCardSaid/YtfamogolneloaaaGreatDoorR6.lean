/- Part 6 of the proof. -/
import Derived.Test.YtfamogolneloaaaGreatDoorR5
import Derived.KernelRfl
import Derived.Lib.UnsafeStr
import Derived.Test.YtfamogolneloaaaGreatDoorProg
set_option maxRecDepth 100000
set_option linter.all false
namespace Go.L
open Go Go.Conc
variable {xs al ys:List Int} {α β:Type} {vd vm vc vh s0 s1 s2 t0 t1 ru vb va:Value} {Φ:Value→(Nat→Option Obj)→Cells→Prop} {X fr:Cells} {d k i nc b sz nh bC:Nat} {aG pK:Nat→Option Obj} {n many lo hi af gone new:Int} {P:Program} {o:Option JS} {args:List Value} {f:FuncId} {E:TypeId} {nm:ByteArray} {ag:Bool}
def rnM(P:Program):Sem α→List Nat→Cells→List (Nat×Nat)→Option (α×Cells×List (Nat×Nat))
 | .pure a,_,B,q=>some (a,B,q)
 | .load m a k,h::hs,B,q=>match m,a.spot,B[h]? with
  | .plain,none,some (b,.cells c _ _)=>match c[a.off]? with
   |some v=>rnM P (k v) hs B ((a.block,b)::q)
   |none=>none
  |_,_,_=>none
 | .shape r k,h::hs,B,q=>match B[h]? with
  |some (b,o)=>rnM P (k (Obj.shapeOf o)) hs B ((r,b)::q)
  |none=>none
 | .program k,hs,B,q=>rnM P (k P) hs B q
 |_,_,_,_=>none
theorem arX:∀(m:Sem α) {hs:List Nat} {B B':Cells} {q q':List (Nat×Nat)} {v:α},rnM P m hs B q=some (v,B',q')→(∀p∈q',p.1=p.2)→
 (∀p∈q,p∈q')∧B'=B∧∀(s:St) (Q:α→St→Prop) (E:Halt→St→Prop),(∀x∈B,s.has x.1 x.2)→Q v s→bP P m s Q E:=by
 intro m
 induction m with
 |pure a=>intro hs B B' q q' v h _;simp only[rnM,Option.some.injEq,Prod.mk.injEq] at h;obtain⟨rfl,rfl,rfl⟩:=h;exact⟨fun _ h=>h,rfl,fun _ _ _ _ h=>h⟩
 |load m a k ih=>
  intro hs B B' q q' v h hq
  cases hs with
  |nil=>cases h
  |cons j hs=>
   unfold rnM at h
   split at h<;>try (cases h;done)
   rename_i b c t fz Ot hB
   split at h<;>try (cases h;done)
   rename_i u hu
   obtain⟨h1,h2,h3⟩:=ih _ h hq
   have BA:a.block=b:=hq _ (h1 _ List.mem_cons_self)
   refine⟨fun p hp=>h1 p (List.mem_cons_of_mem _ hp),h2,fun s Q E hs hQ=>⟨rfl,Ot,c,t,fz,u,?_,hu,h3 s Q E hs hQ⟩⟩
   rw[BA];exact hs _ (List.mem_of_getElem? hB)
 |shape r k ih=>
  intro hs B B' q q' v h hq
  cases hs with
  |nil=>cases h
  |cons j hs=>
   simp only[rnM] at h
   split at h<;>try (cases h;done)
   rename_i b o hB
   obtain⟨h1,h2,h3⟩:=ih _ h hq
   have BA:r=b:=hq _ (h1 _ List.mem_cons_self)
   refine⟨fun p hp=>h1 p (List.mem_cons_of_mem _ hp),h2,fun s Q E hs hQ=>⟨o,?_,h3 s Q E hs hQ⟩⟩
   rw[BA];exact hs _ (List.mem_of_getElem? hB)
 |program k ih=>
  intro hs B B' q q' v h hq
  simp only[rnM] at h
  exact ih _ h hq
 |store=>intro hs B B' q q' v h hq;cases hs<;>cases h
 |new=>intro hs B B' q q' v h hq;cases hs<;>cases h
 |freeze=>intro hs B B' q q' v h hq;cases hs<;>cases h
 |frozen=>intro hs B B' q q' v h hq;cases hs<;>cases h
 |getObj=>intro hs B B' q q' v h hq;cases hs<;>cases h
 |setObj=>intro hs B B' q q' v h hq;cases hs<;>cases h
 |choose=>intro hs B B' q q' v h hq;cases hs<;>cases h
 |sys=>intro hs B B' q q' v h hq;cases hs<;>cases h
 |mark=>intro hs B B' q q' v h hq;cases hs<;>cases h
 |halt=>intro hs B B' q q' v h hq;cases hs<;>cases h
def ac6:Op→Option (List Operand)
 | .call ⟨.builtin _,xs,_⟩=>some xs.toList
 |op=>Gf op
theorem Po{o:Oper}{xs:List Operand}(h:ac6 o.op=some xs){f g:Operand→Value}(hfg:∀x∈xs,f x=g x):execOp f o=execOp g o:=by
 unfold ac6 at h
 split at h
 ·rename_i b xs at_ heq
  simp only[Option.some.injEq] at h;subst h
  have:xs.map f=xs.map g:=Array.map_congr_left fun a ha=>hfg a (by simpa using ha)
  simp only[execOp,heq,resolve,this]
 exact tS h hfg
def smV(P:Program)(n:Nat)(hs:List Nat)(B:Cells)(p:Oper)(e:Env):Option (Value×List (Nat×Nat)):=match ac6 p.op with
 |some xs=>match xU n e xs with
  |some _=>match rnM P (execOp (evj n e) p) hs B [] with
   |some (.value v,_,q)=>some (v,q)
   |_=>none
  |none=>none
 |none=>none
theorem BJ{γ:Type}{n:Nat}{f:Oper→Env→Option β}{g:β→γ}:fq n (fun p e=>(f p e).map g) o=(fq n f o).map g:=by
 unfold fq
 split
 ·unfold dI
  dsimp only
  split<;>rfl
 rfl
def smA(P:Program)(n:Nat)(hs:List Nat)(B:Cells)(p:Oper)(e:Env):Option Value:=(smV P n hs B p e).map (·.1)
def smL(P:Program)(n:Nat)(hs:List Nat)(B:Cells)(p:Oper)(e:Env):Option (List Nat):=(smV P n hs B p e).map fun x=>U6 x.2
def smR(P:Program)(n:Nat)(hs:List Nat)(B:Cells)(p:Oper)(e:Env):Option (List Nat):=(smV P n hs B p e).map fun x=>S9 x.2
section
variable {X:Cx} {o:Option JS}
theorem jmo(ps hs:List Nat)(B:Cells)(v:Value)(hj:J X (nv ps v B o))(hv:fq X.n (smA X.P X.n hs B) o=some v:=by kernel_rfl)(hq:fq X.n (smL X.P X.n hs B) o=fq X.n (smR X.P X.n hs B) o:=by kernel_rfl)(hB:ei ps o=some B:=by kernel_rfl):J X o:=by
 rw[show smA X.P X.n hs B=fun p e=>(smV X.P X.n hs B p e).map (·.1) from rfl,BJ] at hv
 rw[show smL X.P X.n hs B=fun p e=>(smV X.P X.n hs B p e).map (fun x=>U6 x.2) from rfl,show smR X.P X.n hs B=fun p e=>(smV X.P X.n hs B p e).map (fun x=>S9 x.2) from rfl,BJ,BJ] at hq
 cases hx:fq X.n (smV X.P X.n hs B) o with
 |none=>rw[hx] at hv;cases hv
 |some x=>
  rcases x with ⟨v',q⟩
  rw[hx] at hv hq
  simp only[Option.map_some,Option.some.injEq] at hv hq
  subst hv
  refine jS (Φ:=fun u L'=>u=v'∧L'=B) ps B hx hB (fun p e hf=>?_) (fun u L' qt=>by obtain⟨rfl,rfl⟩:=qt;exact hj)
  unfold smV at hf
  split at hf<;>try (cases hf;done)
  rename_i xs aA
  split at hf<;>try (cases hf;done)
  rename_i ws SB
  split at hf<;>try (cases hf;done)
  rename_i u B' q2 bV
  simp only[Option.some.injEq,Prod.mk.injEq] at hf
  obtain⟨rfl,rfl⟩:=hf
  refine⟨fun c hc=>?_,fun R Q E hQ=>?_⟩
  ·rw[hc] at aA;cases aA
  rw[Po aA (NI (f:=ev X.n e) (fun x v h=>aE h) SB)]
  obtain⟨_,_,h3⟩:=arX _ bV (mv hq)
  exact h3 _ _ _ (fun x hx=> .inr (List.mem_append_left _ hx)) (hQ _ _ ⟨rfl,rfl⟩)
theorem HO:∀(n t:Nat) (acc:Array Value),(Extern.BytealgMakeNoZero.digits n t acc).size=acc.size+n
 |0,_,_=>rfl
 |n+1,t,acc=>by
  simp only[Extern.BytealgMakeNoZero.digits,HO n,Array.size_push];omega
theorem jnz{ps rs:Array TypeId}{T:TypeId}{n:Nat}{z:List Value}(ef:EF X.P f (Extern.BytealgMakeNoZero.makeNoZero ps rs))(hT:rs[0]?=some T) (tf:TF X.P T (.slice E) sz bC z ag) (hn:n≤1000)
 (hj:∀b l,n≤l.length→J X (nv [] (.slice (some ⟨b,0,none⟩) n l.length) [(b,.cells ⟨l⟩ E (0,0))] o)) (hv:fq X.n (aid X.n) o=some (f,[.int .i64 (n:Int)]):=by kernel_rfl) (hB:ei [] o=some []:=by kernel_rfl):J X o:=by
 obtain⟨ops,i,todo,k,e,w,kn,p,rfl,ho,hw,hc⟩:=dB hv
 obtain⟨xs,at_,aA,hx⟩:=NH hc
 intro bW
 rcases p with ⟨dst,op,ty,pos,c8,g⟩
 dsimp only at aA;subst aA
 refine aed X.hC ho hw ef hx ?_
 have eM:Extern.BytealgMakeNoZero.makeNoZero ps rs ⟨[Value.int .i64 (n:Int)]⟩=(do
  let some t:=rs[0]?|stuck "bytealg.MakeNoZero: no result type"
  let .slice elem ←underlying t|stuck "bytealg.MakeNoZero: slice type expected"
  if (n:Int) <0||(n:Int)>2^48 then runtimePanic (.error "makeslice: len out of range")
  let cap ←choose (.appendCap (n:Int).toNat 0 elem)
  askRoom cap
  let bytes ←choose (.extern "internal/bytealg.MakeNoZero.bytes" 0)
  let a ←newRow elem (Extern.BytealgMakeNoZero.digits cap bytes #[])
  pure (.slice (some a) (n:Int).toNat cap)):=rfl
 rw[eM]
 simp only[hT,aZ tf]
 rw[if_neg (by simp only[Bool.or_eq_true,decide_eq_true_eq];omega)]
 refine acL rfl fun q=>?_
 refine sM ?_
 show (if (Question.extern "internal/bytealg.MakeNoZero.bytes" 0).forced=true then _ else _)
 have key:∀cap bytes,n≤cap→bP X.P (newRow E (Extern.BytealgMakeNoZero.digits cap bytes #[]) >>= fun a=>pure (Value.slice (some a) ((n:Int).toNat) cap)) ⟨X.ro,den w⟩ (fun v s'=>ab X.C X.fn X.aB ops todo (KQ X k) (A X.n (upd dst v e) X.D) s') (fun _ _=>False):=by
  intro cap bytes oL
  rw[jE]
  intro b hb
  have hl:(Extern.BytealgMakeNoZero.digits cap bytes #[]).toList.length=cap:=by
   rw[Array.length_toList,HO];simp
  have:=hj b (Extern.BytealgMakeNoZero.digits cap bytes #[]).toList (by omega)
  rw[ou ho] at this
  have:=this bW
  simp only[JP,gF,hl,xA] at this
  exact this
 split
 ·exact key _ _ (by show n≤(n:Int).toNat+_;rw[Int.toNat_natCast];exact Nat.le_add_right _ _)
 exact fun q2=>key _ _ (by show n≤(n:Int).toNat+_;rw[Int.toNat_natCast];exact Nat.le_add_right _ _)
def sdV(n:Nat)(p:Oper)(e:Env):Option (Addr×Nat×Nat):=match p.op with
 | .call ⟨.builtin .unsafeSliceData,xs,_⟩=>match xU n e xs.toList with
  |some [.slice (some a) l c]=>some (a,l,c)
  |_=>none
 |_=>none
theorem jsd{a:Addr}{l c:Nat}(h:c≠0)(hj:J X (nv [] (.pointer (some a)) [] o))(hv:fq X.n (sdV X.n) o=some (a,l,c):=by kernel_rfl)(hB:ei [] o=some []:=by kernel_rfl):J X o:=by
 refine jS (Φ:=fun u L'=>u= .pointer (some a)∧L'=[]) [] [] hv hB (fun p e hf=>?_) (fun u L' qt=>by obtain⟨rfl,rfl⟩:=qt;exact hj)
 unfold sdV at hf
 split at hf<;>try (cases hf;done)
 rename_i xs at_ aA
 split at hf<;>try (cases hf;done)
 rename_i a' l' c' hx
 simp only[Option.some.injEq,Prod.mk.injEq] at hf
 obtain⟨rfl,rfl,rfl⟩:=hf
 refine⟨by rw[aA];simp,fun R Q E hQ=>?_⟩
 have e1:Builtin.unsafeSliceData_ at_ p.type ⟨[.slice (some a') l' c']⟩=pure (.pointer (some a')):=by
  show (if c'≠0 then _ else _)=_
  rw[if_pos h]
 simp only[execOp,aA,resolve,sj (show vv X.n e xs=_ from hx),ae,invoke,builtin,e1]
 exact hQ _ _ ⟨rfl,rfl⟩
def usV(P:Program)(n:Nat)(p:Oper)(e:Env):Option (Nat×TypeId):=match p.op with
 | .call ⟨.builtin .unsafeString,xs,at_⟩=>match at_[0]? with
  |some pt=>match aY P pt with
   |some ⟨.pointer E,_,_,_⟩=>bif Nat.beq (P.cellsOf E) 1 then (match xU n e xs.toList with
    |some [.pointer (some ⟨b,0,none⟩),.int .i64 1]=>some (b,E)
    |_=>none) else none
   |_=>none
  |none=>none
 |_=>none
theorem jus(ps:List Nat)(x:Int)(l:List Value)(hj:∀L',J X (nv ps (.string ⟨#[x.toNat.toUInt8]⟩) L' o))(hv:fq X.n (usV X.P X.n) o=some (b,E):=by kernel_rfl)(hB:ei ps o=some [(b,.cells ⟨.int .u8 x::l⟩ E (0,0))]:=by kernel_rfl):J X o:=by
 refine jS (Φ:=fun u L'=>u= .string ⟨#[x.toNat.toUInt8]⟩) ps _ hv hB (fun p e hf=>?_) (fun u L' qt=>by subst qt;exact hj L')
 unfold usV at hf
 split at hf<;>try (cases hf;done)
 rename_i xs at_ aA
 split at hf<;>try (cases hf;done)
 rename_i pt hpt
 split at hf<;>try (cases hf;done)
 rename_i E' _ _ _ dV
 cases hc:Nat.beq (X.P.cellsOf E') 1 with
 |false=>rw[hc] at hf;cases hf
 |true=>
  rw[hc] at hf
  simp only[cond_true] at hf
  split at hf<;>try (cases hf;done)
  rename_i b' hx
  simp only[Option.some.injEq,Prod.mk.injEq] at hf
  obtain⟨rfl,rfl⟩:=hf
  have hc:=Nat.eq_of_beq_eq_true hc
  obtain⟨bC,tf⟩:=av dV
  refine⟨by rw[aA];simp,fun R Q Er hQ=>?_⟩
  have e1:Builtin.unsafeString_ at_ p.type ⟨[.pointer (some ⟨b',0,none⟩),.int .i64 1]⟩=(do
   let n ←asInt (.int .i64 1)
   let some pt:=at_[0]?|stuck "unsafe.String: no argument types"
   if n <0 then runtimePanic (.error "unsafe.String: len out of range")
   if n>IntKind.i64.max then unsupported (.unsafePointer "String: a length above the largest int")
   if n=0 then pure (.string .empty)
   else if ←variablesAt ⟨b',0,none⟩ (←elemOf pt) n.toNat then do
    let s ←loadBytes ⟨b',0,none⟩ .empty n.toNat
    freeze ⟨b',0,none⟩ n.toNat
    pure (.string s)
   else unsupported (.unsafePointer "String: not so many bytes at ptr")):=rfl
  simp only[execOp,aA,resolve,sj (show vv X.n e xs=_ from hx),ae,invoke,builtin,e1]
  simp only[asInt,asIntOf,aa,ae,hpt,show ¬((1:Int) <0) by omega,show ¬((1:Int)>IntKind.i64.max) by decide,show ¬((1:Int)=0) by omega,if_false,elemOf,aZ tf,variablesAt,eY]
  have hs:(⟨X.ro,[(b',Obj.cells ⟨Value.int .u8 x::l⟩ E' (0,0))]++R⟩:St).rw=[]++(b',Obj.cells ⟨Value.int .u8 x::l⟩ E' (0,0))::R:=rfl
  have hm:(⟨X.ro,[(b',Obj.cells ⟨Value.int .u8 x::l⟩ E' (0,0))]++R⟩:St).has b' (.cells ⟨Value.int .u8 x::l⟩ E' (0,0)):= .inr (by rw[hs];exact fE)
  refine⟨_,hm,?_⟩
  have aDg:=Go.Lib.liesAt_bytes (P:=X.P) hc ((Value.int .u8 x::l).length / X.P.cellsOf E') 1 (by rw[hc];simp)
  have pb:∀ {α β:Type} (a:α) (f:α→Sem β),(Sem.pure a).bind f=f a:=fun _ _=>rfl
  simp only[Obj.shapeOf,List.size_toArray,aa,ae,pb]
  rw[show (1:Int).toNat=1 from rfl,aDg]
  simp only[ae,aa,if_true,loadBytes]
  refine⟨rfl,rfl,_,_,_,.int .u8 x,hm,rfl,?_⟩
  simp only[aa,ae]
  refine(if_neg (by omega:¬(1:Nat)=0)).mpr ?_
  refine⟨[],_,R,hs,?_⟩
  exact hQ (.string ⟨#[x.toNat.toUInt8]⟩) [(b',_)] rfl
def pnV(P:Program)(n:Nat)(p:Oper)(e:Env):Option (Nat×Nat):=match p.op with
 | .binOp .neq T x y _=>match aY P T with
  |some ⟨.pointer E,_,_,_⟩=>match aY P E with
   |some te=>bif Nat.blt 0 te.size then (match bn n e x with
    |some (.pointer (some ⟨b,0,none⟩))=>match bn n e y with
     |some (.pointer (some ⟨c,0,none⟩))=>some (b,c)
     |_=>none
    |_=>none) else none
   |none=>none
  |_=>none
 |_=>none
theorem anC{dep:Nat}{t:TypeId}{sz2 Bh:Nat}{z z2:List Value}{ag2:Bool}(tf:TF P t (.pointer E) sz bC z ag){d:TypeDesc}(qT:TF P E d sz2 Bh z2 ag2)(hs:sz2≠0)(a:Addr):EqD P (dep+1) t (.pointer (some a)) (.pointer (some a)) true:=by
 intro α s kk Q Er
 simp only[Op.equalIn,aa,aZ tf,cg qT,hs,ne_eq,not_false_eq_true,if_true,sameAddr,beq_self_eq_true,ae]
theorem jpn(hj:J X (nv [] (.bool false) [] o))(hv:fq X.n (pnV X.P X.n) o=some (b,b):=by kernel_rfl)(hB:ei [] o=some []:=by kernel_rfl):J X o:=by
 refine jS (Φ:=fun u L'=>u= .bool false∧L'=[]) [] [] hv hB (fun p e hf=>?_) (fun u L' qt=>by obtain⟨rfl,rfl⟩:=qt;exact hj)
 unfold pnV at hf
 split at hf<;>try (cases hf;done)
 rename_i T x y T2 aA
 split at hf<;>try (cases hf;done)
 rename_i E' _ _ _ dV
 split at hf<;>try (cases hf;done)
 rename_i te ui
 cases hc:Nat.blt 0 te.size with
 |false=>rw[hc] at hf;cases hf
 |true=>
  rw[hc] at hf
  simp only[cond_true] at hf
  split at hf<;>try (cases hf;done)
  rename_i b' hx
  split at hf<;>try (cases hf;done)
  rename_i c' hy
  simp only[Option.some.injEq,Prod.mk.injEq] at hf
  obtain⟨rfl,rfl⟩:=hf
  obtain⟨bC,tf⟩:=av dV
  obtain⟨Bh,qT⟩:=av ui
  have hc:0 <te.size:=by rwa[Nat.blt_eq] at hc
  refine⟨by rw[aA];simp,fun R Q Er hQ=>?_⟩
  have hs:te.size≠0:=by omega
  simp only[execOp,aA,aE hx,aE hy,eqGuard,aa,binOp,Op.equal,Op.maxDepth]
  simp only[Bool.not_true,Bool.false_eq_true,if_false,ae,aa]
  rw[anC (dep:=9999) tf qT hs]
  exact hQ _ _ ⟨rfl,rfl⟩
end
attribute [irreducible] smV smA smL smR sdV usV pnV
section
variable {X:Cx} {o:Option JS}
def s0V(P:Program)(n:Nat)(p:Oper)(e:Env):Option (Addr×Nat×Nat):=match p.op with
 | .slice T x none (some y) none=>match aY P T with
  |some ⟨.slice E,_,_,_⟩=>match aY P E with
   |some _=>match bn n e x with
    |some (.slice (some ⟨b,0,none⟩) l c)=>match bn n e y with
     |some (.int .i64 0)=>some (⟨b,0,none⟩,l,c)
     |_=>none
    |_=>none
   |none=>none
  |_=>none
 |_=>none
theorem js0{a:Addr}{l c:Nat}(hj:J X (kp (.slice (some a) 0 c) o))(hv:dI X.n (s0V X.P X.n) o=some (a,l,c):=by kernel_rfl):J X o:=by
 refine jG hv (fun s p e ho hh hf=>?_) hj
 unfold s0V at hf
 split at hf<;>try (cases hf;done)
 rename_i T x y aA
 split at hf<;>try (cases hf;done)
 rename_i E _ _ _ dV
 split at hf<;>try (cases hf;done)
 rename_i te ui
 split at hf<;>try (cases hf;done)
 rename_i b l' c' hx
 split at hf<;>try (cases hf;done)
 rename_i hy
 simp only[Option.some.injEq,Prod.mk.injEq] at hf
 obtain⟨rfl,rfl,rfl⟩:=hf
 obtain⟨bC,tf⟩:=av dV
 obtain⟨Bh,qT⟩:=av ui
 have key:∀s,Yields X.P X.n e p s (.slice (some ⟨b,0,none⟩) 0 c'):=by
  intro s s' nu f hf K E hK
  have hb:(0:Int)≤0∧(0:Int)≤(c':Int):=by omega
  simp only[execOp,aA,Option.map_some,Option.map_none,Instr.sliceAt,Instr.slice,hf _ _ hx,hf _ _ hy,aa,aZ tf,Instr.sliceBounds,Instr.sliceBound,asIntOf,ae,hb,and_self,if_true,cg qT]
  have he:(if c'=0 then (some ⟨b,0,none⟩:Option Addr) else some ((⟨b,0,none⟩:Addr).add (0*te.size)))=some ⟨b,0,none⟩:=by
   split
   ·rfl
   simp[dR]
  rw[show (0:Int).toNat=0 from rfl,he]
  exact hK
 exact⟨by rw[aA];rfl,fun _=>key _,fun _=>key⟩
end
attribute [irreducible] s0V
section
variable {X:Cx} {o:Option JS}
def cpV(P:Program)(n:Nat)(p:Oper)(e:Env):Option Nat:=match p.op with
 | .call ⟨.builtin .cap,⟨[x]⟩,⟨[T]⟩⟩=>match aY P T with
  |some ⟨.slice _,_,_,_⟩=>match bn n e x with
   |some (.slice _ _ c)=>some c
   |_=>none
  |_=>none
 |_=>none
theorem jcp{c:Nat}(hj:J X (kp (.int .i64 (c:Int)) o))(hv:dI X.n (cpV X.P X.n) o=some c:=by kernel_rfl):J X o:=by
 refine jG hv (fun s p e ho hh hf=>?_) hj
 unfold cpV at hf
 split at hf<;>try (cases hf;done)
 rename_i x T aA
 split at hf<;>try (cases hf;done)
 rename_i dV
 split at hf<;>try (cases hf;done)
 rename_i a l c' hx
 simp only[Option.some.injEq] at hf
 subst hf
 obtain⟨bC,tf⟩:=av dV
 have key:∀s,Yields X.P X.n e p s (.int .i64 (c':Int)):=by
  intro s s' nu f hf K E hK
  simp only[execOp,aA,resolve,invoke,builtin,List.map_toArray,List.map_cons,List.map_nil,hf _ _ hx,ae,aa,Builtin.cap_,List.getElem?_toArray,List.getElem?_cons_zero,aZ tf]
  exact hK
 exact⟨by rw[aA];rfl,fun _=>key _,fun _=>key⟩
end
attribute [irreducible] cpV
def tkO(is:List Nat)(o:Option JS):List Sg:=(rh is o).getD []
theorem aP9{X:Cx}{ι:Type}(is:List Nat)(p:List Nat)(Ks:List (Act→St→Prop))(ef:ι→Env)(wf:ι→List Sg)(Inv:ι→Prop)(μ:ι→Nat)(i0:ι)(h0:Inv i0)(ps:List Nat)(hb:∀i,Inv i→∀K,wZ X K ef (fun i=>wf i++tkO is o) Inv μ (μ i)→∀rest,J X (stW X.P X.fn p (Ks++[K]) (ef i++rest) (wf i++tkO is o)))
 (h1:uM (pF (ef i0)) o=some (ef i0):=by kernel_rfl)(hd:∀i,lkE (pF (ef i)) (ef i)=some (ef i):=by intro _;kernel_rfl)(h2:rh ps o=some (wf i0++tkO is o):=by kernel_rfl)(hp:∀K,JH X.P X.fn p (Ks++[K])=lpB K (yj o):=by intro _;kernel_rfl):J X o:=
 dW p Ks ef (fun i=>wf i++tkO is o) Inv μ i0 h0 ps hb h1 hd h2 hp
attribute [irreducible] tkO
abbrev RCG(ro:Nat→Option Obj)(Φ:Value→(Nat→Option Obj)→Cells→Prop)(fr:Cells):Ending→St→Prop:=fun en s'=>∃v aG Y,en= .returned v∧Sub ro aG∧(⟨aG,Y++fr⟩:St).le s'∧Φ v aG Y
def axd(P:Program)(f:FuncId)(args:List Value)(ro:Nat→Option Obj)(own:Cells)(Φ:Value→(Nat→Option Obj)→Cells→Prop):Prop:=
 ∀fr,Fn (C0 P) P f ⟨args⟩ ⟨ro,own++fr⟩ (RCG ro Φ fr)
theorem aBU(hm:P.follows .mixedOrders=true){ro:Nat→Option Obj}{L:Cells}(own:List Sg)(kn:Cells)(hk:Knows ro kn)(h:∀fr,J (XC P hm f ro (RCG ro Φ fr)) (ld P f args (own++[.l fr]) kn))(hL:den own=L:=by rfl):axd P f args ro L Φ:=by
 subst hL
 intro fr
 have h:=h fr
 unfold ld at h
 split at h<;>try exact h.elim
 rename_i fn hf
 split at h<;>try exact h.elim
 rename_i c hc
 cases hl:Nat.ble args.length fn.ntmps with
 |false=>rw[hl] at h;exact h.elim
 |true=>
  rw[hl] at h
  have uQ:tw P f=fn:=by simp only[tw,hf]
  have:=h hk
  simp only[JP,XC,KQ,uQ] at this
  have hd:den (own++[.l fr])=den own++fr:=by rw[lM];rfl
  rw[hd] at this
  exact Li xE hf hc hl this
section
variable {X:Cx} {o:Option JS}
theorem amo{vs:List Value}{own:Cells}(ps:List Nat)(hC:∀main T,X.C main T→C0 X.P main T)(hf:axd X.P f vs X.ro own Φ)(hj:∀v aG Y,Sub X.ro aG→Φ v aG Y→J (X.at aG) (nv ps v Y o))(h1:fq X.n (yn X.P X.n) o=some (f,vs):=by kernel_rfl)(h2:ei ps o=some own:=by kernel_rfl):J X o:=by
 obtain⟨ops,i,todo,k,e,w,kn,p,rfl,ho,hw,hc⟩:=dB h1
 obtain⟨ff,x,xs,at_,fi,ca,ws,aA,hx,r8,rfl⟩:=qL hc
 intro bW
 rcases p with ⟨dst,op,ty,pos,c8,g⟩
 dsimp only at aA;subst aA
 have hp:=bI h2
 have uQ:Fn X.C X.P f ⟨fi++ws++ca⟩ ⟨X.ro,den w⟩ (RCG X.ro Φ (den (dF ps 0 w))):=fun main T hT c cs k1 k2=>
  (X.hC main T hT).mono _ ⟨X.ro,own++den (dF ps 0 w)⟩ _ (dS (J:=[]) (by rw[List.append_nil];exact hp) (Sub.refl _)) (Fn.weaken hC (hf _) main T hT c cs k1 k2)
 refine ud (fi:=⟨fi⟩) (ca:=⟨ca⟩) (ws:=fi++ws++ca) X.hC ho hw hx ff r8 (R6 fi ws ca) uQ (fun v' s' hr=>?_) (fun ch s' hr=>by obtain⟨_,_,_,e,_⟩:=hr;cases e) (fun s' hr=>by obtain⟨_,_,_,e,_⟩:=hr;cases e)
 obtain⟨v,aG,Y,hv,hs,hle,qt⟩:=hr
 cases hv
 have:=hj _ aG Y hs qt
 rw[ou ho] at this
 have:=this (bW.up hs)
 simp only[JP,gF,Im] at this
 exact this.more X.hC hle
theorem atD{Φ:Value→Cells→Prop}(hq:QR X (RC pK fr Φ))(v:Value)(hs ps:List Nat)(Y:Cells)(fJ:Sub pK X.ro)(hR:Φ v Y)(h1:tt (jW X.P X.n X.fn hs o)=some v:=by kernel_rfl)(h2:SF (jW X.P X.n X.fn hs o)=SE (jW X.P X.n X.fn hs o):=by kernel_rfl)(h3:ei ps o=some (Y++fr):=by kernel_rfl)(h4:CN o=true:=by kernel_rfl):J X o:=
 aF hq v hs ps (Y++fr) fJ ⟨v,Y,rfl,St.le_refl _,hR⟩ h1 h2 h3 h4
theorem aBV{Φ:Value→Cells→Prop}(hq:QR X (RC pK fr Φ))(v:Value)(ps:List Nat)(A B:Cells)(fJ:Sub pK X.ro)(hR:Φ v (A++B))(h1:tt (jW X.P X.n X.fn [] o)=some v:=by kernel_rfl)(h2:SF (jW X.P X.n X.fn [] o)=SE (jW X.P X.n X.fn [] o):=by kernel_rfl)(h3:ei ps o=some (A++(B++fr)):=by kernel_rfl)(h4:CN o=true:=by kernel_rfl):J X o:=
 aF hq v [] ps ((A++B)++fr) fJ ⟨v,A++B,rfl,St.le_refl _,hR⟩ h1 h2 (by rw[h3,List.append_assoc]) h4
theorem aP2(hq:QR X (RCG pK Φ fr))(v:Value)(ps:List Nat)(Y:Cells)(fJ:Sub pK X.ro)(hR:Φ v X.ro Y)(h1:tt (jW X.P X.n X.fn [] o)=some v:=by kernel_rfl)(h2:SF (jW X.P X.n X.fn [] o)=SE (jW X.P X.n X.fn [] o):=by kernel_rfl)(h3:ei ps o=some (Y++fr):=by kernel_rfl)(h4:CN o=true:=by kernel_rfl):J X o:=
 aF hq v [] ps (Y++fr) (Sub.refl _) ⟨v,X.ro,Y,rfl,fJ,St.le_refl _,hR⟩ h1 h2 h3 h4
end
theorem Tj{fn:Func}{c:Code}{R:Ending→St→Prop}{s:St}{os:Os}{out:Array (Nat×ByteArray)}{Post:Value→World→Prop}(hf:P.funcs[f]?=some fn) (hb:fn.body=some c) (hl:Nat.ble args.length fn.ntmps=true) (hi:P.inits.idxOf? f=none)
 (Q8:∀v s0 w,R (.returned v) s0→aR s0 w→w.os=os→w.output=out→Post v w) (Ix:∀ch s,¬R (.panicked ch) s)
 (h:Wp (C0 P) f none c (rF P fn R) (A fn.ntmps (fS 0 args) []) s):T0 P os out Post (G (Frame.enter P f ⟨args⟩ .normal) []) s:=by
 have hT:C0 P true (T0 P os out Post):=⟨rfl,os,out,Post,rfl⟩
 have iV:=sN P os out Post
 let b:Frame:={(default:Frame) with fn:=f,kind:= .normal,roundOf:=none}
 have iv:Frame.enter P f ⟨args⟩ .normal=aK b (A fn.ntmps (fS 0 args) []) [.code c]:=by
  rw[←kS args fn.ntmps (Nat.le_of_ble_eq_true hl)]
  simp[Frame.enter,aK,hf,hb,b]
 rw[iv]
 refine h true _ hT b [] [] rfl (by simp[b]) rfl fun e a' s' q=>?_
 have last:∀(todo:List Item),a'.defers=[]→bP P (results fn a'.tmps) s' (fun v s'=>∃s0,s0.le s'∧R (.returned v) s0) (fun _ _=>False)→T0 P os out Post (G {aK b a' todo with mode:= .returning} []) s':=by
  intro todo hd hr
  refine Zf rfl fun w pR tH ED=>?_
  obtain⟨r,es,bV,hl⟩:=gR _ _ _ _ w #[] hr pR
  rw[Array.empty_append] at bV
  cases r with
  |ok v w'=>
   obtain⟨s2,ht,s0,hle,hu⟩:=hl
   refine⟨v,w',seen P f es,s2,?_,Q8 v s0 w' hu (aR.of_le hle ht.jR) (ht.os.trans tH) (ht.output.trans ED),ht.sub (iK _ _ _)⟩
   simp only[aK,b,G,stepG,unwind,hf,hd,bV,doReturn,hi,GStep.after,Array.append_empty,Bool.not_true,Bool.false_eq_true,if_false]
  |halt _ _=>obtain⟨_,_,hu⟩:=hl;exact hu.elim
 cases e with
 |normal=>exact iV.go rfl rfl (g':=G {aK b a' [] with mode:= .returning} []) (fun w=>by simp[G,stepG,stepG.exec,aK,b]) (last _ q.1 q.2)
 |ret=>exact fun todo=>iV.go rfl rfl (g':=G {aK b a' (.code .ret::todo) with mode:= .returning} []) (fun w=>by simp[G,stepG,stepG.exec,aK,b]) (last _ q.1 q.2)
 |panic ch=>exact(Ix _ _ q.2).elim
 |exit id=>exact q.elim
 |goto l=>exact q.elim
 |outgrown=>exact q.elim
def aqJ(P:Program)(f:FuncId)(args:List Value)(ro:Nat→Option Obj)(Φ:Value→Cells→Prop):Prop:=
 ∀os out (Post:Value→World→Prop),(∀v Y w,Φ v Y→aR ⟨ro,Y⟩ w→w.os=os→w.output=out→Post v w)→T0 P os out Post (G (Frame.enter P f ⟨args⟩ .normal) []) ⟨ro,[]⟩
theorem aBR(hm:P.follows .mixedOrders=true){ro:Nat→Option Obj}{Φ:Value→Cells→Prop}(hi:P.inits.idxOf? f=none)(kn:Cells)(hk:Knows ro kn)(h:∀fr,J (XC P hm f ro (RC ro fr Φ)) (ld P f args [.l fr] kn)):aqJ P f args ro Φ:=by
 intro os out Post Q8
 have h:=h []
 unfold ld at h
 split at h<;>try exact h.elim
 rename_i fn hf
 split at h<;>try exact h.elim
 rename_i c hc
 cases hl:Nat.ble args.length fn.ntmps with
 |false=>rw[hl] at h;exact h.elim
 |true=>
  rw[hl] at h
  have uQ:tw P f=fn:=by simp only[tw,hf]
  have:=h hk
  simp only[JP,XC,KQ,uQ] at this
  refine Tj hf hc hl hi (fun v s0 w hr pR tH ED=>?_) (fun ch s hr=>?_) this
  ·obtain⟨v',Y,e,hle,qt⟩:=hr
   cases e
   refine Q8 _ Y w qt ?_ tH ED
   have:=aR.of_le hle pR
   rwa[List.append_nil] at this
  obtain⟨v',Y,e,_⟩:=hr;cases e
open Go.Proofs
theorem au:Tryz.prog.follows .mixedOrders=true:=by kernel_rfl
theorem zB:(∀a b:Bool,((a&&b)=true)=(a=true∧b=true))∧(∀a b:Bool,((a||b)=true)=(a=true∨b=true))∧(∀a b:Bool,((a&&b)=false)=(a=false∨b=false))∧(∀a b:Bool,((a||b)=false)=(a=false∧b=false))∧(∀b:Bool,((!b)=true)=(b=false))∧(∀b:Bool,((!b)=false)=(b=true))∧(∀(p:Prop) [Decidable p],(decide p=true)=p)∧(∀(p:Prop) [Decidable p],(decide p=false)=¬p)∧((¬True)=False)∧(∀p:Prop,(p∨False)=p)∧(∀p:Prop,(False∨p)=p):=
 ⟨Bool.and_eq_true,Bool.or_eq_true,by simp,by simp,by simp,by simp,by simp,by simp,by simp,by simp,by simp⟩
@[reducible] noncomputable def zT:Program:=Tryz.prog
abbrev zS:Value:= .slice none 0 0
abbrev zP(b:Nat):Value:= .pointer (some ⟨b,0,none⟩)
abbrev zI(n:Int):Value:= .int .i64 n
abbrev zU(n:Int):Value:= .int .u64 n
abbrev zO:List Value:=[zS,zS,zS,zS,zS,zS,zS,zS,zI 0,zI 0,zI 0,zS]
theorem zG(l:List α)(k:Nat)(h:k <l.length:=by omega):∃x,l[k]?=some x:=⟨_,List.getElem?_eq_getElem h⟩
theorem zJ{X:Cx}(t:Nat)(p:Prop)[Decidable p](h1:p→J X (Pn t (.bool true) o))(h2:¬p→J X (Pn t (.bool false) o))(hv:JW t o=some (.bool (decide p)):=by kernel_rfl):J X o:=
 js t (decide p) (fun h=>h1 (of_decide_eq_true h)) (fun h=>h2 (of_decide_eq_false h)) hv
theorem zD{X:Cx}(k:Nat)(h:J X (res (adv X.P X.n k [] o)))(he:lhs (adv X.P X.n k [] o)=rhs (adv X.P X.n k [] o):=by kernel_rfl):J X o:=jd k [] h he
def iz(n lo hi:Int):Bool:=decide (lo≤n)&&decide (n≤hi)
theorem eN{ro:Nat→Option Obj}:dt zT 44 [zI n,zI lo,zI hi] ro (.bool (iz n lo hi)):=by
 refine bD au [] [] ba<|zD 10<|jj 4 [(6,.bool false),(14,.bool ((decide (lo≤n))&&(decide (n≤hi))))] (fun gV=>?_) (fun hj=>?_)
 rotate_left
 refine js 10 (decide (lo≤n)) (fun h1=>?_) (fun h1=>?_)
 ·
  have gv:=h1
  replace gv:=of_decide_eq_true gv
  refine zD 4<|jw 14 (.bool ((decide (lo≤n))&&(decide (n≤hi)))) (w:= .bool (decide (n≤hi))) (by rw[h1]<;>rfl) ?_
  exact hj _ (by kernel_rfl) (by kernel_rfl)
 ·
  have gv:=h1
  replace gv:=of_decide_eq_false gv
  refine zD 4<|jw 14 (.bool ((decide (lo≤n))&&(decide (n≤hi)))) (w:= .bool false) (by rw[h1]<;>rfl) ?_
  exact hj _ (by kernel_rfl) (by kernel_rfl)
 refine zD 3<|aF q0 (.bool ((decide (lo≤n))&&(decide (n≤hi)))) [] [] [] (Sub.refl _) ⟨_,_,rfl,rfl,rfl,rfl⟩
theorem jB{ro:Nat→Option Obj}:dt zT 211 [zI n,zI lo,zI hi] ro (.bool (iz n lo hi)):=by
 refine bD au [] [] ba<|zD 10<|jj 4 [(6,.bool false),(14,.bool ((decide (lo≤n))&&(decide (n≤hi))))] (fun gV=>?_) (fun hj=>?_)
 rotate_left
 refine js 10 (decide (lo≤n)) (fun h1=>?_) (fun h1=>?_)
 ·
  have gv:=h1
  replace gv:=of_decide_eq_true gv
  refine zD 4<|jw 14 (.bool ((decide (lo≤n))&&(decide (n≤hi)))) (w:= .bool (decide (n≤hi))) (by rw[h1]<;>rfl) ?_
  exact hj _ (by kernel_rfl) (by kernel_rfl)
 ·
  have gv:=h1
  replace gv:=of_decide_eq_false gv
  refine zD 4<|jw 14 (.bool ((decide (lo≤n))&&(decide (n≤hi)))) (w:= .bool false) (by rw[h1]<;>rfl) ?_
  exact hj _ (by kernel_rfl) (by kernel_rfl)
 refine zD 3<|aF q0 (.bool ((decide (lo≤n))&&(decide (n≤hi)))) [] [] [] (Sub.refl _) ⟨_,_,rfl,rfl,rfl,rfl⟩
def bN(p:α→Bool):List α→Nat→Int
 | [],_=> -1
 |x::l,k=>bif p x then k else bN p l (k+1)
theorem fF{l:List α}{x:α}(h:l[k]?=some x):l.drop k=x::l.drop (k+1):=by
 obtain⟨h1,h2⟩:=List.getElem?_eq_some_iff.1 h
 rw[List.drop_eq_getElem_cons h1,h2]
theorem eL{l:List α}(h:¬k <l.length):l.drop k=[]:=List.drop_eq_nil_of_le (by omega)
theorem gI{p:α→Bool}{l:List α}{x:α}(h:l[k]?=some x):bN p (l.drop k) k=bif p x then (k:Int) else bN p (l.drop (k+1)) (k+1):=by rw[fF h];rfl
theorem mZ{p:α→Bool}{l:List α}(h:¬k <l.length):bN p (l.drop k) k= -1:=by rw[eL h];rfl
abbrev cA(x:Int):List Value:=[zI x]
theorem atx{v:Value}{ro:Nat→Option Obj}(hl:bE ro v 1 cA xs)(hn:xs.length≤1000000):dt zT 24 [v,zI n] ro (zI (bN (fun y=>decide (y=n)) xs 0)):=by
 obtain⟨fI,rV,rS,eZ,rfl,tR,lQ,mO⟩:=hl
 refine bD au [] [] ba<|zD 10<|dW [1,0,1,0,0] [] (fun(zz:Nat)=>[(0,.slice fI xs.length eZ),(1,zI n),(5,zI (zz:Int))]) (fun(zz:Nat)=>[]) (fun(zz:Nat)=>zz≤xs.length∧bN (fun y=>decide (y=n)) xs 0=bN (fun y=>decide (y=n)) (xs.drop zz) zz) (fun(zz:Nat)=>xs.length-zz) 0 ⟨by omega,rfl⟩ [] ?_
 rintro k hI K1 bK rest
 refine zD 8<|zJ 9 ((k:Int) <(xs.length:Int)) (fun h1=>?_) fun h1=>?_
 ·
  refine zD 8 ?_
  obtain⟨eA,dE⟩:=zG xs k
  refine iA eZ 1 lQ dE<|jl 0 (mO _ _ dE)<|zD 3<|zJ 17 (eA=n) (fun h2=>?_) fun h2=>?_
  ·
   refine zD 7<|aF q0 (zI (k:Int)) [] [] [] (Sub.refl _) ⟨_,_,rfl,rfl,by rw[hI.2,gI dE];simp[*],rfl⟩
  refine zD 4<|ja ((k:Int)+1) (by omega)<|zD 2<|bJ bK (k+1) ⟨by omega,by rw[hI.2,gI dE];simp[*]⟩ (by omega) [] (Sub.refl _)
 refine zD 7<|aF q0 (zI (-1)) [] [] [] (Sub.refl _) ⟨_,_,rfl,rfl,by rw[hI.2,mZ (by omega)],rfl⟩
def cD(n:Nat):List Int:=(List.range n).map fun(i:Nat)=>(i:Int)
theorem vL(n:Nat):cD (n+1)=cD n++[(n:Int)]:=by simp[cD,List.range_succ]
theorem gz(n:Nat):(cD n).length=n:=by simp[cD]
def bL(v:Value)(xs:List Int)(d:Nat)(X:Cells):Prop:=∃(k:Nat) (cM:Int),k≤xs.length∧X=[(d,.cells ⟨[v,zI k,zU cM]⟩ 70 (0,0))]
def Dn(ro:Nat→Option Obj)(v:Value)(xs:List Int):Prop:=bE ro v 1 cA xs∧xs.length≤4611686018427387904
theorem Dn.up{ro:Nat→Option Obj}{v:Value}(h:Dn ro v xs)(hs:Sub ro aG):Dn aG v xs:=⟨h.1.up hs,h.2⟩
theorem toNonzero(h0:¬n <1)(h1:n≤1000000):IntKind.u64.wrap (n+1)≠0:=by
 rw[sD .u64 rfl _ (by omega) (by simp[IntKind.bits];omega)];omega
theorem toRange{w:Int}(h0:¬n <1)(h1:n≤1000000)(hw:0≤w):0≤IntKind.i64.wrap (Int.tmod (aS .u64 w 16) (IntKind.u64.wrap (n+1)))∧IntKind.i64.wrap (Int.tmod (aS .u64 w 16) (IntKind.u64.wrap (n+1)))≤n:=by
 have e:IntKind.u64.wrap (n+1)=n+1:=sD .u64 rfl _ (by omega) (by simp[IntKind.bits];omega)
 rw[e]
 have h2:0≤aS .u64 w 16:=Int.fdiv_nonneg hw (by decide)
 have h3:=Int.tmod_nonneg (n+1) h2
 have h4:=Int.tmod_lt_of_pos (aS .u64 w 16) (show 0 <n+1 by omega)
 rw[kG _ (by omega)]
 omega
theorem aVz{ro:Nat→Option Obj}(hN:Dn ro vd xs)(hD:bL vd xs d X):eG zT 42 [zP d] ro X (fun r Y=>∃w:Int,r= zU w∧0≤w∧w <18446744073709551616∧bL vd xs d Y):=by
 obtain⟨k,cM,hk,rfl⟩:=hD
 obtain⟨hl,hn⟩:=hN
 obtain⟨fI,rV,rS,eZ,rfl,tR,lQ,mO⟩:=hl
 refine bD au [.b d (.cells ⟨[.slice fI xs.length eZ,zI (k:Int),zU cM]⟩ 70 (0,0))] [] ba<|jd 19 [0,0]<|aL 13 fun Ea Eg BB=>jd 1 [0]<|iu BB []<|jd 16 [0,0]<|aL 13 fun Ac Aj zd=>jd 1 [0]<|iu zd []<|jd 16 [0,0]<|aL 13 fun sB sJ q5=>jd 1 [0]<|iu q5 []<|jd 15 [0,0]<|zJ 52 ((k:Int) <(xs.length:Int)) (fun h4=>?_) fun h4=>?_
 ·
  refine jd 16 [0,0,0] ?_
  obtain⟨x66,GQ⟩:=zG xs k
  refine iA eZ 1 lQ GQ<|jl 0 (mO _ _ GQ)<|zD 5<|aL 20 fun sA sI qZ=>jd 1 [0]<|iu qZ []<|jd 6 [0]<|ja ((k:Int)+1) (by omega)<|jd 30 [0,0]<|aF q0 (zU (cZ .u64 (IntKind.u64.wrap ((cZ .u64 (IntKind.u64.wrap ((cZ .u64 (cZ .u64 (cZ .u64 cM (dD .u64 cM 13)) (aS .u64 (cZ .u64 cM (dD .u64 cM 13)) 7)) (dD .u64 (cZ .u64 (cZ .u64 cM (dD .u64 cM 13)) (aS .u64 (cZ .u64 cM (dD .u64 cM 13)) 7)) 17))+(IntKind.u64.wrap ((IntKind.u64.wrap x66)*13787848793156543929)))) (aS .u64 (IntKind.u64.wrap ((cZ .u64 (cZ .u64 (cZ .u64 cM (dD .u64 cM 13)) (aS .u64 (cZ .u64 cM (dD .u64 cM 13)) 7)) (dD .u64 (cZ .u64 (cZ .u64 cM (dD .u64 cM 13)) (aS .u64 (cZ .u64 cM (dD .u64 cM 13)) 7)) 17))+(IntKind.u64.wrap ((IntKind.u64.wrap x66)*13787848793156543929)))) 30))*10723151780598845931)) (aS .u64 (IntKind.u64.wrap ((cZ .u64 (IntKind.u64.wrap ((cZ .u64 (cZ .u64 (cZ .u64 cM (dD .u64 cM 13)) (aS .u64 (cZ .u64 cM (dD .u64 cM 13)) 7)) (dD .u64 (cZ .u64 (cZ .u64 cM (dD .u64 cM 13)) (aS .u64 (cZ .u64 cM (dD .u64 cM 13)) 7)) 17))+(IntKind.u64.wrap ((IntKind.u64.wrap x66)*13787848793156543929)))) (aS .u64 (IntKind.u64.wrap ((cZ .u64 (cZ .u64 (cZ .u64 cM (dD .u64 cM 13)) (aS .u64 (cZ .u64 cM (dD .u64 cM 13)) 7)) (dD .u64 (cZ .u64 (cZ .u64 cM (dD .u64 cM 13)) (aS .u64 (cZ .u64 cM (dD .u64 cM 13)) 7)) 17))+(IntKind.u64.wrap ((IntKind.u64.wrap x66)*13787848793156543929)))) 30))*10723151780598845931)) 31))) [] [0] [(d,.cells ⟨[.slice fI xs.length eZ,zI ((k:Int)+1),zU (IntKind.u64.wrap ((cZ .u64 (cZ .u64 (cZ .u64 cM (dD .u64 cM 13)) (aS .u64 (cZ .u64 cM (dD .u64 cM 13)) 7)) (dD .u64 (cZ .u64 (cZ .u64 cM (dD .u64 cM 13)) (aS .u64 (cZ .u64 cM (dD .u64 cM 13)) 7)) 17))+(IntKind.u64.wrap ((IntKind.u64.wrap x66)*13787848793156543929))))]⟩ 70 (0,0))] (Sub.refl _) ⟨_,_,rfl,rfl,_,rfl,(ug _ _).1,(ug _ _).2,k+1,_,(by omega),rfl⟩
 refine jd 28 [0]<|aF q0 (zU (cZ .u64 (IntKind.u64.wrap ((cZ .u64 (cZ .u64 (cZ .u64 (cZ .u64 cM (dD .u64 cM 13)) (aS .u64 (cZ .u64 cM (dD .u64 cM 13)) 7)) (dD .u64 (cZ .u64 (cZ .u64 cM (dD .u64 cM 13)) (aS .u64 (cZ .u64 cM (dD .u64 cM 13)) 7)) 17)) (aS .u64 (cZ .u64 (cZ .u64 (cZ .u64 cM (dD .u64 cM 13)) (aS .u64 (cZ .u64 cM (dD .u64 cM 13)) 7)) (dD .u64 (cZ .u64 (cZ .u64 cM (dD .u64 cM 13)) (aS .u64 (cZ .u64 cM (dD .u64 cM 13)) 7)) 17)) 30))*10723151780598845931)) (aS .u64 (IntKind.u64.wrap ((cZ .u64 (cZ .u64 (cZ .u64 (cZ .u64 cM (dD .u64 cM 13)) (aS .u64 (cZ .u64 cM (dD .u64 cM 13)) 7)) (dD .u64 (cZ .u64 (cZ .u64 cM (dD .u64 cM 13)) (aS .u64 (cZ .u64 cM (dD .u64 cM 13)) 7)) 17)) (aS .u64 (cZ .u64 (cZ .u64 (cZ .u64 cM (dD .u64 cM 13)) (aS .u64 (cZ .u64 cM (dD .u64 cM 13)) 7)) (dD .u64 (cZ .u64 (cZ .u64 cM (dD .u64 cM 13)) (aS .u64 (cZ .u64 cM (dD .u64 cM 13)) 7)) 17)) 30))*10723151780598845931)) 31))) [] [0] [(d,.cells ⟨[.slice fI xs.length eZ,zI (k:Int),zU (cZ .u64 (cZ .u64 (cZ .u64 cM (dD .u64 cM 13)) (aS .u64 (cZ .u64 cM (dD .u64 cM 13)) 7)) (dD .u64 (cZ .u64 (cZ .u64 cM (dD .u64 cM 13)) (aS .u64 (cZ .u64 cM (dD .u64 cM 13)) 7)) 17))]⟩ 70 (0,0))] (Sub.refl _) ⟨_,_,rfl,rfl,_,rfl,(ug _ _).1,(ug _ _).2,k,_,(by omega),rfl⟩
theorem EM{ro:Nat→Option Obj}(hN:Dn ro vd xs)(hD:bL vd xs d X)(hn:n≤1000000):eG zT 10 [zP d,zI n] ro X (fun r Y=>∃w:Int,r= zI w∧0≤w∧(w≤n∨w=0)∧bL vd xs d Y):=by
 refine bD au [.l X] [] ba<|zD 10<|zJ 6 (n <1) (fun h1=>?_) fun h1=>?_
 ·
  refine zD 6<|aF q0 (zI 0) [] [0] X (Sub.refl _) ⟨_,_,rfl,rfl,_,rfl,(by omega),(by omega),hD⟩
 refine zD 5<|jc [0] (aVz hN hD) ?_
 rintro _ X8 ⟨w8,rfl,hw8,hx8,hD8⟩
 refine zD 2<|ja (n+1) (by omega)<|zD 1<|jrm (k:= .u64) (a:=(aS .u64 w8 16)) (b:=(IntKind.u64.wrap (n+1))) 68 (toNonzero h1 hn)<|zD 4<|aF q0 (zI (IntKind.i64.wrap (Int.tmod (aS .u64 w8 16) (IntKind.u64.wrap (n+1))))) [] [0] X8 (Sub.refl _) ⟨_,_,rfl,rfl,_,rfl,(toRange h1 hn hw8).1,.inl (toRange h1 hn hw8).2,hD8⟩
theorem A9{ro:Nat→Option Obj}(hN:Dn ro vd xs)(hD:bL vd xs d X)(AT: -1000≤lo∧lo≤1000)(hhi: -1000≤hi∧hi≤1000):eG zT 32 [zP d,zI lo,zI hi] ro X (fun r Y=>∃w:Int,r= zI w∧lo≤w∧(w≤hi∨w=lo)∧bL vd xs d Y):=by
 refine bD au [.l X] [] ba<|zD 10<|ja (hi-lo) (by omega)<|jc (vs:=[zP d,zI (hi-lo)]) [0] (EM hN hD (by omega)) ?_
 rintro _ X12 ⟨w12,rfl,beF,qv,aUW⟩
 refine ja (lo+w12) (by omega)<|zD 3<|aF q0 (zI (lo+w12)) [] [0] X12 (Sub.refl _) ⟨_,_,rfl,rfl,_,rfl,(by omega),(by omega),aUW⟩
theorem tA{ro:Nat→Option Obj}(hN:Dn ro vd xs)(hD:bL vd xs d X)(hn:0≤n∧n≤1000):eG zT 27 [zP d,zI n] ro X (fun r Y=>∃w:Bool,r= .bool w∧bL vd xs d Y):=by
 refine bD au [.l X] [] ba<|zD 8<|ja (n-1) (by omega)<|jc (vs:=[zP d,zI (n-1)]) [0] (EM hN hD (by omega)) ?_
 rintro _ X8 ⟨w8,rfl,hw8,hx8,hD8⟩
 refine zD 4<|aF q0 (.bool (decide (w8=0))) [] [0] X8 (Sub.refl _) ⟨_,_,rfl,rfl,_,rfl,hD8⟩
def bs(l:List Nat):ByteArray:=⟨(l.map UInt8.ofNat).toArray⟩
abbrev pY(x:ByteArray):List Value:=[.string x]
structure cQ where
 f:ByteArray
 t:ByteArray
abbrev iP(x:cQ):List Value:=[.string x.f,.string x.t]
structure ay where
 name:ByteArray
 st:Int
 no:Int
 head:Int
 bold:Bool
abbrev dL(x:ay):List Value:=[.string x.name,.int .i64 x.st,.int .i64 x.no,.int .i64 x.head,.bool x.bold]
structure cU where
 a:Int
 b:Int
 same:Bool
variable {fs:List cU}
abbrev pX(x:cU):List Value:=[.int .i64 x.a,.int .i64 x.b,.bool x.same]
structure bO where
 name:ByteArray
 under:Int
variable {cs:List bO}
abbrev pn(x:bO):List Value:=[.string x.name,.int .i64 x.under]
structure aN where
 k:Int
 st:Int
 ot:Int
 fn:Int
 fl:Int
 tn:Int
 tl:Int
abbrev kT(x:aN):List Value:=[.int .i64 x.k,.int .i64 x.st,.int .i64 x.ot,.int .i64 x.fn,.int .i64 x.fl,.int .i64 x.tn,.int .i64 x.tl]
theorem nN{ps:List α}{x y:α}(h1:ps[i]?=some x) (h2:ps[k]?=some y):((ps.set i y).set k x).Perm ps:=by
 obtain⟨a,rfl⟩:=List.getElem?_eq_some_iff.1 h1
 obtain⟨b,rfl⟩:=List.getElem?_eq_some_iff.1 h2
 exact List.set_set_perm a b
theorem aiC{ro:Nat→Option Obj}(hN:Dn ro vd xs)(hD:bL vd xs d X)(hm:bE ro vm 1 cA ys)(hy:0 <ys.length∧ys.length≤1000):eG zT 33 [zP d,vm] ro X (fun r Y=>∃w:Int,r= zI w∧w∈ys∧bL vd xs d Y):=by
 obtain⟨qma,qmb,qmo,qmc,rfl,qmk,qmh,qml⟩:=hm
 refine bD au [.l X] [] ba<|zD 10<|ja ((ys.length:Int)-1) (by omega)<|jc (vs:=[zP d,zI ((ys.length:Int)-1)]) [0] (EM hN hD (by omega)) ?_
 rintro _ X10 ⟨w10,rfl,afz,r5,UZ⟩
 obtain⟨x11,Uh⟩:=zG ys (w10.toNat)
 refine Oq w10 qmc 1 qmh Uh (by omega)<|jl 0 (qml _ _ Uh)<|zD 3<|aF q0 (zI x11) [] [0] X10 (Sub.refl _) ⟨_,_,rfl,rfl,_,rfl,List.mem_of_getElem? Uh,UZ⟩
theorem Yo{ys:List ByteArray}{ro:Nat→Option Obj}(hN:Dn ro vd xs)(hD:bL vd xs d X)(hm:bE ro vm 1 pY ys)(hy:0 <ys.length∧ys.length≤1000):eG zT 71 [zP d,vm] ro X (fun r Y=>∃w:ByteArray,r= .string w∧w∈ys∧bL vd xs d Y):=by
 obtain⟨qma,qmb,qmo,qmc,rfl,qmk,qmh,qml⟩:=hm
 refine bD au [.l X] [] ba<|zD 10<|ja ((ys.length:Int)-1) (by omega)<|jc (vs:=[zP d,zI ((ys.length:Int)-1)]) [0] (EM hN hD (by omega)) ?_
 rintro _ X10 ⟨w10,rfl,afz,r5,UZ⟩
 obtain⟨x11,Uh⟩:=zG ys (w10.toNat)
 refine Oq w10 qmc 1 qmh Uh (by omega)<|jl 0 (qml _ _ Uh)<|zD 3<|aF q0 (.string x11) [] [0] X10 (Sub.refl _) ⟨_,_,rfl,rfl,_,rfl,List.mem_of_getElem? Uh,UZ⟩
theorem Vn{n:Nat}{ro:Nat→Option Obj}(hN:Dn ro vd xs)(hD:bL vd xs d X)(hn:n≤100):eG zT 13 [zP d,zI (n:Int)] ro X (fun r Y=>∃(ps:List Int) (L X':Cells),az r 1 3 cA ps L∧ps.Perm (cD n)∧Y=L++X'∧bL vd xs d X'):=by
 refine bD au [.l X] [] ba<|zD 14<|oH<|dW [1,1,0,1,0,0] [] (fun(zz:Nat×Value×Cells)=>[(0,zP d),(1,zI (n:Int)),(4,zS),(5,zz.2.1),(6,zI (zz.1:Int))]) (fun(zz:Nat×Value×Cells)=>[.l zz.2.2,.l X]) (fun(zz:Nat×Value×Cells)=>zz.1≤n∧az zz.2.1 1 3 cA (cD zz.1) zz.2.2) (fun(zz:Nat×Value×Cells)=>n-zz.1) (⟨0,zS,[]⟩) ⟨by omega,az.nil _ _ _⟩ [0,1] ?_
 rintro⟨k,v,L⟩ hI K1 bK rest
 dsimp only at hI
 refine zD 7<|zJ 12 ((k:Int) <(n:Int)) (fun h1=>?_) fun h1=>?_
 ·
  refine zD 7<|jn fun b17=>jq (sz:=1) (ps:=cD k) (qs:=[(k:Int)]) (enc:=cA) (w:= .slice (some ⟨b17,0,none⟩) 1 1) [1] [0] [(b17,.cells ⟨([(k:Int)].map cA).flatten⟩ 3 (0,0))] (hI.2) (fun s _ hZ=>bX [(k:Int)] (hZ _ (.head _)) (by intro p hp;rfl)) (fun p _=>aj rfl) (by simp[cD];omega) (fun v18 L18 af1=>?_)
  obtain⟨acv,Y1,Nn⟩:=af1.form
  subst Nn
  refine zD 4<|ja ((k:Int)+1) (by omega)<|zD 2<|bJ bK (⟨k+1,(.slice acv ((cD k++[(k:Int)])).length Y1),L18⟩) ⟨by omega,by rw[vL];exact af1⟩ (by omega) [0,2] (Sub.refl _)
 refine zD 6<|ja ((n:Int)-1) (by omega)<|zD 3<|dW [1,1,1,0,1,0,0] [] (fun(zz:Int×Value×Cells×(List Int)×Cells)=>[(0,zP d),(4,zS),(5,zz.2.1),(7,zI zz.1)]) (fun(zz:Int×Value×Cells×(List Int)×Cells)=>[.l zz.2.2.1,.l zz.2.2.2.2]) (fun(zz:Int×Value×Cells×(List Int)×Cells)=>(-1≤zz.1∧zz.1 <n)∧az zz.2.1 1 3 cA zz.2.2.2.1 zz.2.2.1∧zz.2.2.2.1.Perm (cD n)∧bL vd xs d zz.2.2.2.2) (fun(zz:Int×Value×Cells×(List Int)×Cells)=>zz.1.toNat) (⟨(n:Int)-1,v,L,cD k,X⟩) ⟨by omega,hI.2,(by rw[show k=n by omega]),hD⟩ [0,1] ?_
 rintro⟨j,v,L,ps,X⟩ Nx K2 mr rest
 dsimp only at Nx
 have hlen:ps.length=n:=by rw[Nx.2.2.1.length_eq,gz]
 refine zD 6<|zJ 22 (j>0) (fun h2=>?_) fun h2=>?_
 ·
  refine zD 8<|jc (vs:=[zP d,zI j]) [1] (EM hN Nx.2.2.2 (by omega)) ?_
  rintro _ X27 ⟨w27,rfl,beB,Jg,aGA⟩
  refine zD 6 ?_
  obtain⟨ox,ju⟩:=zG ps (j.toNat)
  refine pP j 1 Nx.2.1 ju (by omega) fun b30 UI=>nS 0 [1] L (fun s _ hZ=>cm Nx.2.1 UI hZ ju)<|zD 8 ?_
  obtain⟨x36,yZ⟩:=zG ps (w27.toNat)
  refine pP w27 1 Nx.2.1 yZ (by omega) fun dM avJ=>nS 0 [1] L (fun s _ hZ=>cm Nx.2.1 avJ hZ yZ) ?_
  obtain⟨x38,Nd⟩:=zG ps (j.toNat)
  refine pP j 1 Nx.2.1 Nd (by omega) fun b38 aTw=>Oo 1 0 [zI x36] x36 Nx.2.1 aTw Nd rfl rfl (Nat.le_of_ble_eq_true rfl) fun L3 ho4=>zD 5 ?_
  obtain⟨x42,Uf⟩:=zG ((ps.set j.toNat x36)) (w27.toNat) (by first|omega| (simp only[List.length_set,List.length_append,List.length_cons,List.length_nil];omega))
  refine pP w27 1 ho4 Uf (by omega) fun b42 aTt=>Oo 0 0 [zI ox] ox ho4 aTt Uf rfl rfl (Nat.le_of_ble_eq_true rfl) fun L5 ho6=>zD 3<|ja (j-1) (by omega)<|zD 2<|bJ mr (⟨j-1,v,L5,((ps.set j.toNat x36).set w27.toNat ox),X27⟩) ⟨by omega,ho6,(nN ju yZ).trans Nx.2.2.1,aGA⟩ (by omega) [0,1] (Sub.refl _)
 refine zD 8<|aF q0 (v) [] [0,1] (L++X) (Sub.refl _) ⟨_,_,rfl,rfl,_,_,_,Nx.2.1,Nx.2.2.1,rfl,Nx.2.2.2⟩
theorem Rx(p:Int→Bool)(k:Nat):(cD (k+1)).filter p=bif p (k:Int) then (cD k).filter p++[(k:Int)] else (cD k).filter p:=by
 rw[vL,List.filter_append]
 cases h:p (k:Int)<;>simp[h]
theorem ig{n:Nat}{x:Int}(h:x∈cD n):0≤x∧x <n:=by
 simp only[cD,List.mem_map,List.mem_range] at h
 obtain⟨i,h1,rfl⟩:=h
 omega
theorem rQ(n:Nat):(cD n).Pairwise (· < ·):=by
 simp only[cD]
 rw[List.pairwise_map]
 exact List.pairwise_lt_range.imp fun h=>by omega
theorem zh(x:Int)(l:List Int)(k:Nat):x∈l→(k:Int)≤bN (fun y=>decide (y=x)) l k∧∃i,bN (fun y=>decide (y=x)) l k=k+i∧l[i.toNat]?=some x∧0≤i:=by
 induction l generalizing k with
 |nil=>intro h;cases h
 |cons y l ih=>
  intro h
  by_cases e:y=x
  ·subst e
   simp only[bN,decide_true,cond_true]
   exact⟨Int.le_refl _,0,by simp,by simp,by simp⟩
  simp only[bN,e,decide_false,cond_false]
  obtain⟨h1,i,h2,h3,h4⟩:=ih (k+1) ((List.mem_cons.1 h).resolve_left fun e2=>e e2.symm)
  refine⟨by omega,i+1,by rw[h2];omega,?_,by omega⟩
  rw[show (i+1).toNat=i.toNat+1 by omega]
  simpa using h3
theorem adR{q:List Int}{n:Nat}(hq:q.Perm (cD n)):((cD n).filter fun i=>decide (bN (fun y=>decide (y=i)) q 0 <many)).length≤many.toNat:=by
 have jv:∀x,x∈cD n→x∈q:=fun x hx=>hq.mem_iff.2 hx
 have h1:(((cD n).filter fun i=>decide (bN (fun y=>decide (y=i)) q 0 <many)).map fun i=>bN (fun y=>decide (y=i)) q 0).Nodup:=by
  rw[List.nodup_iff_pairwise_ne,List.pairwise_map]
  refine((rQ n).filter _).imp_of_mem fun {a b} ha hb BA e=>?_
  obtain⟨_,i,e1,g1,_⟩:=zh a q 0 (jv a ((List.mem_filter.1 ha).1))
  obtain⟨_,j,e2,g2,_⟩:=zh b q 0 (jv b ((List.mem_filter.1 hb).1))
  have:i=j:=by omega
  subst this
  rw[g1] at g2
  cases g2
  omega
 have h2:=xm (l₂:=cD many.toNat) h1 fun x hx=>by
  obtain⟨i,h3,rfl⟩:=List.mem_map.1 hx
  obtain⟨h4,h5⟩:=List.mem_filter.1 h3
  have h6:=of_decide_eq_true h5
  obtain⟨h7,_⟩:=zh i q 0 (jv i h4)
  simp only[cD,List.mem_map,List.mem_range]
  exact⟨(bN (fun y=>decide (y=i)) q 0).toNat,by omega,by omega⟩
 simpa [gz] using h2
theorem Jv(p:α→Bool)(l:List α):(l.filter p).length≤l.length:=List.length_filter_le p l
theorem aHw{n:Nat}{ro:Nat→Option Obj}(hN:Dn ro vd xs)(hD:bL vd xs d X)(hn:n≤100):eG zT 69 [zP d,zI (n:Int),zI many] ro X (fun r Y=>∃(ps:List Int) (L X':Cells),az r 1 3 cA ps L∧ps.length≤many.toNat∧ps.Pairwise (· < ·)∧(∀x∈ps,0≤x∧x <n)∧Y=L++X'∧bL vd xs d X'):=by
 refine bD au [.l X] [] ba<|zD 8<|jc (vs:=[zP d,zI (n:Int)]) [0] (Vn hN hD (by first|omega|decide)) ?_
 rintro v13 _ ⟨ZK,L13,X13,Ut,aat,rfl,anl⟩
 refine jg 0 [.l L13,.l X13]<|zD 12<|oH<|dW [1,1,1,0,1,0,0] [] (fun(zz:Nat×Value×Cells)=>[(1,zI (n:Int)),(2,zI many),(6,zS),(7,v13),(8,zz.2.1),(9,zI (zz.1:Int))]) (fun(zz:Nat×Value×Cells)=>[.l zz.2.2,.l L13,.l X13]) (fun(zz:Nat×Value×Cells)=>zz.1≤n∧az zz.2.1 1 3 cA ((cD zz.1).filter (fun i=>decide (bN (fun y=>decide (y=i)) ZK 0 <many))) zz.2.2) (fun(zz:Nat×Value×Cells)=>n-zz.1) (⟨0,zS,[]⟩) ⟨by omega,az.nil _ _ _⟩ [0,1,2] ?_
 rintro⟨k,v,L⟩ hI K1 bK rest
 dsimp only at hI
 have hlen:ZK.length=n:=by rw[aat.length_eq,gz]
 have u6:=Jv (fun i=>decide (bN (fun y=>decide (y=i)) ZK 0 <many)) (cD k)
 rw[gz] at u6
 refine zD 7<|zJ 16 ((k:Int) <(n:Int)) (fun h1=>?_) fun h1=>?_
 ·
  refine zD 8<|jp (vs:=[v13,zI (k:Int)]) [1] L13 (fun aC hs hZ=>atx (Ut.kZ hZ) (by first|omega| (simp only[List.length_set,List.length_append,List.length_cons,List.length_nil];omega))) ?_
  refine zD 8<|zJ 24 ((bN (fun y=>decide (y=(k:Int))) ZK 0) <many) (fun h2=>?_) fun h2=>?_
  ·
   refine zD 4<|jn fun b27=>jq (sz:=1) (ps:=((cD k).filter (fun i=>decide (bN (fun y=>decide (y=i)) ZK 0 <many)))) (qs:=[(k:Int)]) (enc:=cA) (w:= .slice (some ⟨b27,0,none⟩) 1 1) [1] [0] [(b27,.cells ⟨([(k:Int)].map cA).flatten⟩ 3 (0,0))] (hI.2) (fun s _ hZ=>bX [(k:Int)] (hZ _ (.head _)) (by intro p hp;rfl)) (fun p _=>aj rfl) (by simp only[List.length_cons,List.length_nil];omega) (fun v28 L28 afX=>?_)
   obtain⟨aMv,aMa,aaC⟩:=afX.form
   subst aaC
   refine zD 4<|ja ((k:Int)+1) (by omega)<|zD 2<|bJ bK (⟨k+1,(.slice aMv ((((cD k).filter (fun i=>decide (bN (fun y=>decide (y=i)) ZK 0 <many)))++[(k:Int)])).length aMa),L28⟩) ⟨by omega,by rw[Rx,decide_eq_true h2];exact afX⟩ (by omega) [0,2,3] (Sub.refl _)
  refine zD 4<|ja ((k:Int)+1) (by omega)<|zD 2<|bJ bK (⟨k+1,v,L⟩) ⟨by omega,by rw[Rx,decide_eq_false h2];exact hI.2⟩ (by omega) [0,1,2] (Sub.refl _)
 refine zD 8<|aF q0 (v) [] [0,2] (L++X13) (Sub.refl _) ⟨_,_,rfl,rfl,_,_,_,hI.2,by rw[show k=n by omega];exact adR aat,(rQ k).filter _,fun x hx=>by have:=ig ((List.mem_filter.1 hx).1);omega,rfl,anl⟩
def aqk:List ByteArray:=[bs [101],bs [121],bs [115,104],bs [97],bs [110,110],bs [116,104],bs [109]]
def toW:List ByteArray:=[bs [],bs [105],bs [115],bs [116],bs [97,101],bs [106],bs [110]]
def Ik(r:cQ):Prop:=r.f∈aqk∧r.t∈toW
def jI(c:aN):Prop:=c∈[(⟨1,0,0,0,0,0,0⟩:aN),⟨2,0,0,0,0,0,0⟩,⟨1,1,0,0,0,0,0⟩,⟨2,1,0,0,0,0,0⟩,⟨4,1,0,0,0,0,0⟩]
theorem qN{p:α→Prop}{l:List α}{x:α}(h:∀y∈l,p y)(hx:p x):∀y∈l++[x],p y:=fun y hy=>by
 rcases List.mem_append.1 hy with h1|h1
 ·exact h y h1
 rw[List.mem_singleton] at h1;subst h1;exact hx
theorem awH{ro:Nat→Option Obj}(hN:Dn ro vd xs)(hD:bL vd xs d X)(hn:0≤many∧many≤100):eG zT 29 [zP d,zI many] ro X (fun r Y=>∃(ps:List cQ) (L X':Cells),az r 2 84 iP ps L∧ps.length≤many∧(∀r∈ps,Ik r)∧Y=L++X'∧bL vd xs d X'):=by
 refine bD au [.l X] [] ba<|zD 13<|jc (vs:=[zP d,zI many]) [0] (EM hN hD (by omega)) ?_
 rintro _ X10 ⟨w10,rfl,afz,r5,UZ⟩
 refine zD 3<|oH<|dW [1,1,0,1,0,0] [] (fun(zz:Int×Value×Cells×(List cQ)×Cells)=>[(0,zP d),(4,zS),(5,zz.2.1),(6,zI zz.1)]) (fun(zz:Int×Value×Cells×(List cQ)×Cells)=>[.l zz.2.2.1,.l zz.2.2.2.2]) (fun(zz:Int×Value×Cells×(List cQ)×Cells)=>(0≤zz.1∧zz.2.2.2.1.length+zz.1≤many)∧az zz.2.1 2 84 iP zz.2.2.2.1 zz.2.2.1∧(∀r∈zz.2.2.2.1,Ik r)∧bL vd xs d zz.2.2.2.2) (fun(zz:Int×Value×Cells×(List cQ)×Cells)=>zz.1.toNat) (⟨w10,zS,[],[],X10⟩) ⟨by simp only[List.length_nil];omega,az.nil _ _ _,(fun _ h=>by cases h),UZ⟩ [0,1] ?_
 rintro⟨j,v,L,ps,X⟩ hI K1 bK rest
 dsimp only at hI
 refine zD 6<|zJ 12 (j>0) (fun h1=>?_) fun h1=>?_
 ·
  refine zD 7<|jn fun b16=>jcL (vs:=[zP d,.slice (some ⟨b16,0,none⟩) 7 7]) [2] [0] [(b16,.cells ⟨([(bs [101]),(bs [121]),(bs [115,104]),(bs [97]),(bs [110,110]),(bs [116,104]),(bs [109])].map pY).flatten⟩ 9 (0,0))] (fun aC hs hZ=>Yo (hN.up hs) hI.2.2.2 (bR [(bs [101]),(bs [121]),(bs [115,104]),(bs [97]),(bs [110,110]),(bs [116,104]),(bs [109])] hZ.head (by intro p hp;rfl)) (by decide)) ?_
  rintro _ X17 ⟨w17,rfl,aQL,aUV⟩
  refine zD 1<|jn fun Ie=>jcL (vs:=[zP d,.slice (some ⟨Ie,0,none⟩) 7 7]) [1] [0] [(Ie,.cells ⟨([(bs []),(bs [105]),(bs [115]),(bs [116]),(bs [97,101]),(bs [106]),(bs [110])].map pY).flatten⟩ 9 (0,0))] (fun aC hs hZ=>Yo (hN.up hs) aUV (bR [(bs []),(bs [105]),(bs [115]),(bs [116]),(bs [97,101]),(bs [106]),(bs [110])] hZ.head (by intro p hp;rfl)) (by decide)) ?_
  rintro _ X20 ⟨w20,rfl,atW,ahl⟩
  refine zD 1<|jn fun b7=>jd 5 [0,0]<|jn fun mz=>jq (sz:=2) (ps:=ps) (qs:=[(⟨w17,w20⟩:cQ)]) (enc:=iP) (w:= .slice (some ⟨mz,0,none⟩) 1 1) [5] [0] [(mz,.cells ⟨([(⟨w17,w20⟩:cQ)].map iP).flatten⟩ 84 (0,0))] (hI.2.1) (fun s _ hZ=>bX [(⟨w17,w20⟩:cQ)] (hZ _ (.head _)) (by intro p hp;rfl)) (fun p _=>aj rfl) (by simp<;>omega) (fun v25 L25 afZ=>?_)
  obtain⟨aMx,aMc,aSO⟩:=afZ.form
  subst aSO
  refine zD 4<|ja (j-1) (by omega)<|zD 2<|bJ bK (⟨j-1,(.slice aMx ((ps++[(⟨w17,w20⟩:cQ)])).length aMc),L25,(ps++[(⟨w17,w20⟩:cQ)]),X20⟩) ⟨by simp only[List.length_append,List.length_cons,List.length_nil];omega,afZ,qN hI.2.2.1 ⟨aQL,atW⟩,ahl⟩ (by omega) [0,3] (Sub.refl _)
 refine zD 8<|aF q0 (v) [] [0,1] (L++X) (Sub.refl _) ⟨_,_,rfl,rfl,_,_,_,hI.2.1,(by omega),hI.2.2.1,rfl,hI.2.2.2⟩
theorem aHv{ro:Nat→Option Obj}(hN:Dn ro vd xs)(hD:bL vd xs d X):eG zT 28 [zP d] ro X (fun r Y=>∃w:aN,r= .agg ⟨kT w⟩∧jI w∧bL vd xs d Y):=by
 refine bD au [.l X] [] ba<|zD 2<|jn fun b2=>zD 8<|jn fun b9=>zD 9<|jc (vs:=[zP d,zI 4]) [2] (EM hN hD (by omega)) ?_
 rintro _ X15 ⟨w15,rfl,aQM,afu,awe⟩
 obtain⟨Bv,mU⟩:=zG ([(⟨1,0,0,0,0,0,0⟩:aN),(⟨2,0,0,0,0,0,0⟩:aN),(⟨1,1,0,0,0,0,0⟩:aN),(⟨2,1,0,0,0,0,0⟩:aN),(⟨4,1,0,0,0,0,0⟩:aN)]:List _) (w15.toNat) (show w15.toNat <5 from by omega)
 refine Oq (a:=(some ⟨b9,0,none⟩)) (b:=b9) (off:=0) w15 5 7 (fun _ _=>rfl) mU (by omega)<|nS (m:=7) 0 [1] [(b9,.cells ⟨([(⟨1,0,0,0,0,0,0⟩:aN),(⟨2,0,0,0,0,0,0⟩:aN),(⟨1,1,0,0,0,0,0⟩:aN),(⟨2,1,0,0,0,0,0⟩:aN),(⟨4,1,0,0,0,0,0⟩:aN)].map kT).flatten⟩ 77 (0,0))] (fun s _ hZ=>xf (hZ _ (.head _)) (by intro p hp;rfl) mU) ?_
 refine jd 3 [2]<|aF q0 (.agg ⟨[zI Bv.k,zI Bv.st,zI Bv.ot,zI Bv.fn,zI Bv.fl,zI Bv.tn,zI Bv.tl]⟩) [2] [0] X15 (Sub.refl _) ⟨_,_,rfl,rfl,Bv,rfl,List.mem_of_getElem? mU,awe⟩
def GJ(b:UInt8):Bool:=Nat.ble 97 b.toNat&&Nat.ble b.toNat 122
def Gn(b:UInt8):Bool:=Nat.ble 65 b.toNat&&(Nat.ble b.toNat 90&& !(Nat.beq b.toNat 72||Nat.beq b.toNat 81||Nat.beq b.toNat 87))
def Script(w:ByteArray):Prop:=(∀b∈w.data.toList,GJ b=true)∨(∀b∈w.data.toList,Gn b=true)
def YR(w:ByteArray):Prop:=(0 <w.size∧w.size≤7)∧Script w
def Od(w:ByteArray):Prop:=(1≤w.size∧w.size≤3)∧Script w
theorem ac4{w:ByteArray}(h:(w.data.toList.all GJ||w.data.toList.all Gn)=true)(h1:(Nat.blt 0 w.size&&Nat.ble w.size 7)=true):YR w:=by
 simp only[Bool.or_eq_true,List.all_eq_true] at h
 simp only[Bool.and_eq_true,Nat.blt_eq,Nat.ble_eq] at h1
 exact⟨h1,h⟩
theorem azT{w:ByteArray}(h:w∈[bs [97,101,115],bs [115,104,101,116,97],bs [115,109,105,116,121,104,97],bs [99,104,106,97],bs [97,110,110,101]]):YR w:=by
 simp only[List.mem_cons,List.not_mem_nil,or_false] at h
 rcases h with rfl|rfl|rfl|rfl|rfl<;>exact ac4 (by decide) (by decide)
theorem azS{w:ByteArray}(h:w∈[bs [65,69,83],bs [88,69,84,65],bs [83,77,73,84,89,65],bs [67,74,65,88],bs [65,78,78,69]]):YR w:=by
 simp only[List.mem_cons,List.not_mem_nil,or_false] at h
 rcases h with rfl|rfl|rfl|rfl|rfl<;>exact ac4 (by decide) (by decide)
def nJ:List ByteArray:=[bs [102,111,111,100],bs [98,114,101,97,100],bs [99,108,111,116,104],bs [104,97,116,115],bs [119,111,111,100],bs [105,114,111,110],bs [98,101,101,114],bs [105,110],bs [115,101,101]]
def pH:List ByteArray:=[bs [98,97,107,101,114],bs [98,97,107,101,114,115],bs [98,111,110,110,101,116,115],bs [98,114,101,119,101,114],bs [98,114,117,115,104,101,115],bs [98,117,116,99,104,101,114],bs [99,97,110,100,108,101,115],bs [99,111,111,112,101,114],bs [99,111,111,112,101,114,115],bs [99,117,116,108,101,114],bs [104,97,116,116,101,114],bs [104,111,115,105,101,114],bs [109,101,114,99,101,114],bs [109,105,108,108,105,110,101,114],bs [116,97,105,108,111,114],bs [116,97,110,110,101,114]]
theorem Gl{T:TypeId}{n:Nat}{enc:α→List Value}(ps:List α)(hn:ps.length=n)(hl:∀p∈ps,(enc p).length=sz):az (.slice (some ⟨b,0,none⟩) n n) sz T enc ps [(b,.cells ⟨(ps.map enc).flatten⟩ T (0,0))]:=by
 subst hn
 exact .inr ⟨b,_,ps.length,rfl,rfl,kz ps hl,Nat.le_refl _,hl,by rw[←kz ps hl,List.take_length]⟩
theorem S3{s t w:ByteArray}(h:∀b∈s.data.toList,b∈w.data.toList)(k:∀b∈t.data.toList,b∈w.data.toList):∀b∈(s++t).data.toList,b∈w.data.toList:=fun b hb=>by
 rw[ByteArray.data_append,Array.toList_append,List.mem_append] at hb
 exact hb.elim (h b) (k b)
theorem Pb{w:ByteArray}(i j:Nat):∀b∈(w.extract i j).data.toList,b∈w.data.toList:=fun b hb=>by
 rw[ByteArray.data_extract,Array.toList_extract] at hb
 exact List.mem_of_mem_drop (List.mem_of_mem_take (by simpa [List.extract] using hb))
theorem Tf{s w:ByteArray}(h:∀b∈s.data.toList,b∈w.data.toList)(hw:Script w):Script s:=hw.imp (fun k b hb=>k b (h b hb)) (fun k b hb=>k b (h b hb))
theorem Yp{ro:Nat→Option Obj}(hN:Dn ro vd xs)(hD:bL vd xs d X):eG zT 31 [zP d,zI 3] ro X (fun r Y=>∃w:ByteArray,r= .string w∧Od w∧bL vd xs d Y):=by
 refine bD au [.l X] [] ba<|zD 7<|jn fun mb=>jcL (vs:=[zP d,.slice (some ⟨mb,0,none⟩) 5 5]) [1] [0] [(mb,.cells ⟨([(bs [97,101,115]),(bs [115,104,101,116,97]),(bs [115,109,105,116,121,104,97]),(bs [99,104,106,97]),(bs [97,110,110,101])].map pY).flatten⟩ 9 (0,0))] (fun aC hs hZ=>Yo (hN.up hs) hD (bR [(bs [97,101,115]),(bs [115,104,101,116,97]),(bs [115,109,105,116,121,104,97]),(bs [99,104,106,97]),(bs [97,110,110,101])] hZ.head (by intro p hp;rfl)) (by decide)) ?_
 rintro _ X11 ⟨w11,rfl,aQO,aUX⟩
 refine zD 6<|jc (vs:=[zP d,zI 3]) [0] (tA hN aUX (by omega)) ?_
 rintro _ X13 ⟨w13,rfl,anl⟩
 refine zD 1<|Iu [1,1,1] [] (fun(zz:ByteArray×Cells)=>[(0,zP d),(1,zI 3),(4,.string (bs [])),(5,.string zz.1)]) (fun(zz:ByteArray×Cells)=>[.l zz.2]) (fun(zz:ByteArray×Cells)=>YR zz.1∧bL vd xs d zz.2) ?_ (fun K1 bK=>?_)
 ·
  rintro⟨w,X⟩ hJ rest
  dsimp only at hJ
  obtain⟨⟨XA,hw7⟩,r8⟩:=hJ.1
  refine zD 9<|jmn (k:= .i64) (a:=3) (b:=6)<|jc (vs:=[zP d,zI 1,zI (min 3 6)]) [0] (A9 hN hJ.2 (by omega) (by omega)) ?_
  rintro _ X20 ⟨w20,rfl,atW,Ng,ahl⟩
  refine zD 3<|dW [1,1,1,1,0,1,0,0] [] (fun(zz:Int×ByteArray×Cells)=>[(0,zP d),(4,.string (bs [])),(5,.string w),(6,.string zz.2.1),(7,zI zz.1)]) (fun(zz:Int×ByteArray×Cells)=>[.l zz.2.2]) (fun(zz:Int×ByteArray×Cells)=>(0≤zz.1∧zz.2.1.size+zz.1=w20)∧(∀b∈zz.2.1.data.toList,b∈w.data.toList)∧bL vd xs d zz.2.2) (fun(zz:Int×ByteArray×Cells)=>zz.1.toNat) (⟨w20,bs [],X20⟩) ⟨⟨by omega,by simp[bs,ByteArray.size]⟩,(fun _ h=>by simp[bs] at h),ahl⟩ [0] ?_
  rintro⟨j,t,Z⟩ hI K2 mr rest
  dsimp only at hI
  refine zD 6<|zJ 22 (j>0) (fun h1=>?_) fun h1=>?_
  ·
   refine zD 9<|ja ((w.size:Int)-1) (by omega)<|jc (vs:=[zP d,zI ((w.size:Int)-1)]) [0] (EM hN hI.2.2 (by omega)) ?_
   rintro _ X29 ⟨w29,rfl,beA,AO,aUR⟩
   refine zD 7<|ja (w29+1) (by omega)<|jtB (b:=w) (lo:=w29) (hi:=(w29+1)) (by omega)<|jsa (a:=t) (b:=(w.extract w29.toNat (w29+1).toNat)) 9 (by rw[ByteArray.size_extract];omega) ?_
   refine zD 4<|ja (j-1) (by omega)<|zD 2<|bJ mr (⟨j-1,(t++(w.extract w29.toNat (w29+1).toNat)),X29⟩) ⟨⟨by omega,by rw[ByteArray.size_append,ByteArray.size_extract];omega⟩,S3 hI.2.1 (Pb _ _),aUR⟩ (by omega) [0] (Sub.refl _)
  refine zD 8<|aF q0 (.string t) [] [0] Z (Sub.refl _) ⟨_,_,rfl,rfl,_,rfl,⟨by omega,Tf hI.2.1 r8⟩,hI.2.2⟩
 refine js 13 w13 (fun h2=>?_) (fun h2=>?_)
 ·
  subst h2
  refine zD 3<|jn fun mA=>jcL (vs:=[zP d,.slice (some ⟨mA,0,none⟩) 5 5]) [1] [0] [(mA,.cells ⟨([(bs [65,69,83]),(bs [88,69,84,65]),(bs [83,77,73,84,89,65]),(bs [67,74,65,88]),(bs [65,78,78,69])].map pY).flatten⟩ 9 (0,0))] (fun aC hs hZ=>Yo (hN.up hs) anl (bR [(bs [65,69,83]),(bs [88,69,84,65]),(bs [83,77,73,84,89,65]),(bs [67,74,65,88]),(bs [65,78,78,69])] hZ.head (by intro p hp;rfl)) (by decide)) ?_
  rintro _ X16 ⟨w16,rfl,aCd,ahm⟩
  refine zD 2<|bJ bK ⟨w16,X16⟩ ⟨azS aCd,ahm⟩ Nat.zero_lt_one [0] (Sub.refl _)
 subst h2
 refine zD 2<|bJ bK ⟨w11,X13⟩ ⟨azT aQO,anl⟩ Nat.zero_lt_one [0] (Sub.refl _)
theorem ae1{ro:Nat→Option Obj}:eG zT 68 [] ro [] (fun r Y=>∃L,az r 1 9 pY nJ L∧Y=L):=by
 refine bD au [] [] ba<|zD 6<|jn fun b1=>zD 3<|aF q0 (.slice (some ⟨b1,0,none⟩) 9 9) [] [0] [(b1,.cells ⟨[.string (bs [102,111,111,100]),.string (bs [98,114,101,97,100]),.string (bs [99,108,111,116,104]),.string (bs [104,97,116,115]),.string (bs [119,111,111,100]),.string (bs [105,114,111,110]),.string (bs [98,101,101,114]),.string (bs [105,110]),.string (bs [115,101,101])]⟩ 9 (0,0))] (Sub.refl _) ⟨_,_,rfl,rfl,_,Gl nJ rfl (by intro p hp;rfl),rfl⟩
theorem afh{ro:Nat→Option Obj}:eG zT 70 [] ro [] (fun r Y=>∃L,az r 1 9 pY pH L∧Y=L):=by
 refine bD au [] [] ba<|zD 6<|jn fun b1=>zD 3<|aF q0 (.slice (some ⟨b1,0,none⟩) 16 16) [] [0] [(b1,.cells ⟨[.string (bs [98,97,107,101,114]),.string (bs [98,97,107,101,114,115]),.string (bs [98,111,110,110,101,116,115]),.string (bs [98,114,101,119,101,114]),.string (bs [98,114,117,115,104,101,115]),.string (bs [98,117,116,99,104,101,114]),.string (bs [99,97,110,100,108,101,115]),.string (bs [99,111,111,112,101,114]),.string (bs [99,111,111,112,101,114,115]),.string (bs [99,117,116,108,101,114]),.string (bs [104,97,116,116,101,114]),.string (bs [104,111,115,105,101,114]),.string (bs [109,101,114,99,101,114]),.string (bs [109,105,108,108,105,110,101,114]),.string (bs [116,97,105,108,111,114]),.string (bs [116,97,110,110,101,114])]⟩ 9 (0,0))] (Sub.refl _) ⟨_,_,rfl,rfl,_,Gl pH rfl (by intro p hp;rfl),rfl⟩
structure bw where
 word:ByteArray
 cls:Int
 oA:Int
 ep:Value
abbrev mw(x:bw):List Value:=[.string x.word,zI x.cls,zI x.oA,x.ep]
def VU(hs:List bw)(i:Int):Prop:=0≤i∧∃h,hs[i.toNat]?=some h∧0≤h.cls
theorem VC{p:α→Bool}{l:List α}{x:α}(h:l[k]?=some x):(l.drop k).any p=(p x||(l.drop (k+1)).any p):=by rw[fF h];rfl
theorem an5{p:α→Bool}{l:List α}(h:¬k <l.length):(l.drop k).any p=false:=by rw[eL h];rfl
def Ds(fs:List cU)(a b:Int):Bool:=fs.any fun y=>decide (y.a=a)&&decide (y.b=b)
theorem xB{hs:List bw}{ro:Nat→Option Obj}(hN:Dn ro vd xs)(hD:bL vd xs d X)(hh:bE ro vh 4 mw hs)(hn:hs.length≤100):eG zT 30 [zP d,.agg ⟨[zI 2,zI 0,zI 0,vc,vh,zS,zS]⟩,.string nm] ro X (fun r Y=>∃w:ay,r= .agg ⟨dL w⟩∧w.name=nm∧(0≤w.st∧w.st≤1)∧(w.head= -1∨VU hs w.head)∧bL vd xs d Y):=by
 obtain⟨dO,u3,u2,dv,rfl,xg,qV,qU⟩:=hh
 refine bD au [.l X] [] ba<|zD 2<|jn fun b4=>jn fun b6=>jd 8 [1]<|jc (vs:=[zP d,zI 1]) [2] (EM hN hD (by omega)) ?_
 rintro _ X15 ⟨w15,rfl,aQM,afu,awe⟩
 refine zD 2<|jc (vs:=[zP d,zI 1,zI 3]) [0] (A9 hN awe (by omega) (by omega)) ?_
 rintro _ X18 ⟨w18,rfl,beE,bes,Ny⟩
 refine zD 1<|jc (vs:=[zP d,zI 1,zI 3]) [0] (A9 hN Ny (by omega) (by omega)) ?_
 rintro _ X20 ⟨w20,rfl,atW,Ng,ahl⟩
 refine zD 1<|jc (vs:=[zP d,zI 1,zI 40]) [0] (A9 hN ahl (by omega) (by omega)) ?_
 rintro _ X22 ⟨w22,rfl,beD,uh,aUT⟩
 refine jn fun b23=>jcL (vs:=[zP d,.slice (some ⟨b23,0,none⟩) 3 3]) [1] [0] [(b23,.cells ⟨([w18,w20,w22].map cA).flatten⟩ 3 (0,0))] (fun aC hs hZ=>aiC (hN.up hs) aUT (bR [w18,w20,w22] hZ.head (by intro p hp;rfl)) (by simp)) ?_
 rintro _ X24 ⟨w24,rfl,beC,aUS⟩
 refine zD 1<|jc (vs:=[zP d,zI 4]) [0] (tA hN aUS (by omega)) ?_
 rintro _ X26 ⟨w26,rfl,aGB⟩
 refine zD 1<|jn fun b7=>jd 12 [0]<|oH<|dW [1,1,1,0,1,0,0] [] (fun(zz:Nat×Value×Cells×(List Int))=>[(0,zP d),(4,zP b4),(6,zP b6),(7,zP b7),(8,zz.2.1),(9,zI (zz.1:Int))]) (fun(zz:Nat×Value×Cells×(List Int))=>[.l zz.2.2.1,.l X26,.b b7 (.cells ⟨[.string nm,zI w15,zI w24,zI (-1),.bool w26]⟩ 44 (0,0)),.b b6 (.cells ⟨[.string ByteArray.empty,zI 0,zI 0,zI 0,.bool false]⟩ 44 (0,0)),.b b4 (.cells ⟨[zI 2,zI 0,zI 0,vc,.slice dO hs.length dv,zS,zS]⟩ 86 (0,0))]) (fun(zz:Nat×Value×Cells×(List Int))=>(zz.1≤hs.length∧zz.2.2.2.length≤zz.1)∧az zz.2.1 1 3 cA zz.2.2.2 zz.2.2.1∧∀i∈zz.2.2.2,VU hs i) (fun(zz:Nat×Value×Cells×(List Int))=>hs.length-zz.1) (⟨0,zS,[],[]⟩) ⟨⟨by omega,by simp⟩,az.nil _ _ _,(fun _ h=>by cases h)⟩ [0,2,1,4,5] ?_
 rintro⟨k,v,L,ps⟩ hI K1 bK rest
 dsimp only at hI
 refine jd 10 [4]<|zJ 33 ((k:Int) <(hs.length:Int)) (fun h1=>?_) fun h1=>?_
 ·
  refine jd 10 [4] ?_
  obtain⟨x40,Nc⟩:=zG hs k
  refine iA dv 4 qV Nc<|zD 1<|jl 1 (qU _ _ Nc)<|zD 2<|zJ 43 (x40.cls≥0) (fun h2=>?_) fun h2=>?_
  ·
   refine zD 4<|jn fun b46=>jq (sz:=1) (ps:=ps) (qs:=[(k:Int)]) (enc:=cA) (w:= .slice (some ⟨b46,0,none⟩) 1 1) [1] [0] [(b46,.cells ⟨([(k:Int)].map cA).flatten⟩ 3 (0,0))] (hI.2.1) (fun s _ hZ=>bX [(k:Int)] (hZ _ (.head _)) (by intro p hp;rfl)) (fun p _=>aj rfl) (by simp<;>omega) (fun v47 L47 afS=>?_)
   obtain⟨aMq,aL5,aSJ⟩:=afS.form
   subst aSJ
   refine zD 4<|ja ((k:Int)+1) (by omega)<|zD 2<|bJ bK (⟨k+1,(.slice aMq ((ps++[(k:Int)])).length aL5),L47,(ps++[(k:Int)])⟩) ⟨by simp only[List.length_append,List.length_cons,List.length_nil];omega,afS,qN hI.2.2 ⟨by omega,x40,Nc,by assumption⟩⟩ (by omega) [0,2,3,4,5] (Sub.refl _)
  refine zD 4<|ja ((k:Int)+1) (by omega)<|zD 2<|bJ bK (⟨k+1,v,L,ps⟩) ⟨by dsimp only;omega,hI.2⟩ (by omega) [0,1,2,3,4] (Sub.refl _)
 refine zD 6<|Co hI.2.1<|zD 2<|js 51 (decide ((ps.length:Int)>0)) (fun h3=>?_) (fun h3=>?_)
 ·
  have wz:=h3
  replace wz:=of_decide_eq_true wz
  refine zD 1<|jc (vs:=[zP d,zI 4]) [1] (tA hN aGB (by omega)) ?_
  rintro _ X53 ⟨w53,rfl,ank⟩
  refine zD 3<|js 55 (!w53) (fun h4=>?_) (fun h4=>?_)
  ·
   try simp only[zB] at h4
   refine zD 5<|Co hI.2.1<|ja ((ps.length:Int)-1) (by omega)<|jc (vs:=[zP d,zI ((ps.length:Int)-1)]) [0] (EM hN ank (by omega)) ?_
   rintro _ X61 ⟨w61,rfl,bex,ber,aUL⟩
   obtain⟨x62,Nb⟩:=zG ps (w61.toNat)
   refine pP w61 1 hI.2.1 Nb (by omega) fun b62 aTp=>nS 0 [1] L (fun s _ hZ=>cm hI.2.1 aTp hZ Nb)<|jd 9 [2,2,3]<|aF q0 (.agg ⟨[.string nm,zI w15,zI w24,zI x62,.bool w26]⟩) [3] [0] X61 (Sub.refl _) ⟨_,_,rfl,rfl,⟨_,_,_,_,_⟩,rfl,rfl,(by dsimp only;omega),.inr (hI.2.2 _ (List.mem_of_getElem? Nb)),aUL⟩
  try simp only[zB] at h4
  refine jd 8 [2,3]<|aF q0 (.agg ⟨[.string nm,zI w15,zI w24,zI (-1),.bool w26]⟩) [3] [0] X53 (Sub.refl _) ⟨_,_,rfl,rfl,⟨_,_,_,_,_⟩,rfl,rfl,(by dsimp only;omega),.inl rfl,ank⟩
 have wz:=h3
 replace wz:=of_decide_eq_false wz
 refine jd 13 [2,3]<|aF q0 (.agg ⟨[.string nm,zI w15,zI w24,zI (-1),.bool w26]⟩) [3] [1] X26 (Sub.refl _) ⟨_,_,rfl,rfl,⟨_,_,_,_,_⟩,rfl,rfl,(by dsimp only;omega),.inl rfl,aGB⟩
theorem afe{ro:Nat→Option Obj}(hm:bE ro vm 1 cA ys)(hn:ys.length≤1000):eG zT 90 [vm] ro [] (fun r Y=>∃L,az r 1 3 cA ys L∧Y=L):=by
 obtain⟨qma,qmb,qmo,qmc,rfl,qmk,qmh,qml⟩:=hm
 refine bD au [] [] ba<|zD 6<|jn fun b3=>zD 1<|jq (sz:=1) (ps:=[]) (qs:=ys) (enc:=cA) (w:= .slice qma ys.length qmc) [0] [] [] (bA (b:=b3) (T:=3)) (fun s he _=>⟨qma,qmb,qmo,qmc,rfl,qmh,fun i p hp=>(qml i p hp).ext he⟩) (fun p _=>aj rfl) (by simp<;>omega) (fun v5 L5 G2=>?_)
 rw[List.nil_append] at G2
 obtain⟨va5,vc5,he5⟩:=G2.form
 subst he5
 refine zD 3<|aF q0 ((.slice va5 (ys).length vc5)) [] [0] L5 (Sub.refl _) ⟨_,_,rfl,rfl,_,G2,rfl⟩
theorem ir{ys:List ay}{ro:Nat→Option Obj}(hm:bE ro vm 5 dL ys)(hn:ys.length≤1000):eG zT 49 [vm] ro [] (fun r Y=>∃L,az r 5 44 dL ys L∧Y=L):=by
 obtain⟨qma,qmb,qmo,qmc,rfl,qmk,qmh,qml⟩:=hm
 refine bD au [] [] ba<|zD 6<|jn fun b3=>zD 1<|jq (sz:=5) (ps:=[]) (qs:=ys) (enc:=dL) (w:= .slice qma ys.length qmc) [0] [] [] (bA (b:=b3) (T:=44)) (fun s he _=>⟨qma,qmb,qmo,qmc,rfl,qmh,fun i p hp=>(qml i p hp).ext he⟩) (fun p _=>aj rfl) (by simp<;>omega) (fun v5 L5 G2=>?_)
 rw[List.nil_append] at G2
 obtain⟨va5,vc5,he5⟩:=G2.form
 subst he5
 refine zD 3<|aF q0 ((.slice va5 (ys).length vc5)) [] [0] L5 (Sub.refl _) ⟨_,_,rfl,rfl,_,G2,rfl⟩
theorem aBJ{vf:Value}{x:cU}{ro:Nat→Option Obj}(hf:bE ro vf 3 pX fs)(hn:fs.length≤1000):dt zT 19 [.agg ⟨[s0,s1,s2,t0,t1,ru,vb,va,zI gone,zI new,zI af,vf]⟩,.agg ⟨[zI x.a,zI x.b,.bool x.same]⟩] ro (.bool (Ds fs x.a x.b)):=by
 obtain⟨iT,xY,xX,gN,rfl,Dx,sU,sS⟩:=hf
 refine bD au [] [] ba<|zD 2<|jn fun b2=>jn fun b3=>zD 8<|dW [1,0,1,0,0] [] (fun(zz:Nat)=>[(2,zP b2),(3,zP b3),(5,zI (zz:Int))]) (fun(zz:Nat)=>[.b b3 (.cells ⟨[zI x.a,zI x.b,.bool x.same]⟩ 54 (0,0)),.b b2 (.cells ⟨[s0,s1,s2,t0,t1,ru,vb,va,zI gone,zI new,zI af,.slice iT fs.length gN]⟩ 40 (0,0))]) (fun(zz:Nat)=>zz≤fs.length∧Ds fs x.a x.b=(fs.drop zz).any (fun y=>decide (y.a=x.a)&&decide (y.b=x.b))) (fun(zz:Nat)=>fs.length-zz) 0 ⟨by omega,rfl⟩ [0,1] ?_
 rintro k hI K1 bK rest
 refine jd 9 [1]<|zJ 10 ((k:Int) <(fs.length:Int)) (fun h1=>?_) fun h1=>?_
 ·
  refine jd 9 [1] ?_
  obtain⟨Bv,mU⟩:=zG fs k
  refine iA gN 3 sU mU<|zD 1<|jl 0 (sS _ _ mU)<|jd 4 [0]<|js 9 (decide (Bv.a=x.a)) (fun h2=>?_) (fun h2=>?_)
  ·
   have mI:=h2
   replace mI:=of_decide_eq_true mI
   refine jd 3 [1] ?_
   obtain⟨SL,aao⟩:=zG fs k
   refine iA gN 3 sU aao<|zD 1<|jl 1 (sS _ _ aao)<|jd 5 [0]<|zJ 32 (SL.b=x.b) (fun h3=>?_) fun h3=>?_
   ·
    refine zD 6<|aF q0 (.bool true) [] [] [] (Sub.refl _) ⟨_,_,rfl,rfl,by rw[hI.2,VC mU];simp_all,rfl⟩
   refine zD 4<|ja ((k:Int)+1) (by omega)<|zD 2<|bJ bK (k+1) ⟨by omega,by rw[hI.2,VC mU];simp_all⟩ (by omega) [0,1] (Sub.refl _)
  have mI:=h2
  replace mI:=of_decide_eq_false mI
  refine zD 15<|ja ((k:Int)+1) (by omega)<|zD 2<|bJ bK (k+1) ⟨by omega,by rw[hI.2,VC mU];simp_all⟩ (by omega) [0,1] (Sub.refl _)
 refine zD 7<|aF q0 (.bool false) [] [] [] (Sub.refl _) ⟨_,_,rfl,rfl,by rw[hI.2,an5 (by omega)],rfl⟩
theorem aVy{fa:Value}{uW LJ:List ay}{ro:Nat→Option Obj}(hN:Dn ro vd xs)(hD:bL vd xs d X)(hb:bE ro vb 5 dL uW)(ha:bE ro va 5 dL LJ)(hn:uW.length≤100∧LJ.length≤100):eG zT 17 [zP d,.agg ⟨[s0,s1,s2,t0,t1,ru,vb,va,zI gone,zI new,zI af,fa]⟩] ro X (fun r Y=>∃x:cU,r= .agg ⟨pX x⟩∧(0≤x.a∧(x.a <uW.length∨x.a=0))∧(0≤x.b∧(x.b <LJ.length∨x.b=0))∧bL vd xs d Y):=by
 obtain⟨lg,ME,MC,k9,rfl,MD,Kc,Kb⟩:=hb
 obtain⟨kD,I5,I0,j7,rfl,I1,Gb,Ga⟩:=ha
 refine bD au [.l X] [] ba<|zD 2<|jn fun b3=>jn fun b4=>jd 7 [1]<|ja ((uW.length:Int)-1) (by omega)<|jd 4 [1]<|ja ((LJ.length:Int)-1) (by omega)<|zD 1<|aL 5 fun Ea Eg BB=>jc (vs:=[zP d,zI ((uW.length:Int)-1)]) [2] (EM hN hD (by omega)) ?_
 rintro _ X10 ⟨w10,rfl,afz,r5,UZ⟩
 refine iu BB [[2],[2]]<|aL 11 fun Ac Aj zd=>jc (vs:=[zP d,zI ((LJ.length:Int)-1)]) [0] (EM hN UZ (by omega)) ?_
 rintro _ X16 ⟨w16,rfl,aCd,mU,ahm⟩
 refine iu zd [[2],[2]]<|aL 13 fun sB sJ q5=>jc (vs:=[zP d,zI 2]) [0] (tA hN ahm (by omega)) ?_
 rintro _ X18 ⟨w18,rfl,Ny⟩
 refine iu q5 [[2],[2]]<|zD 1<|aL 15 fun sA sI qZ=>jd 1 [1]<|dZ qZ<|zD 2<|aF q0 (.agg ⟨[zI w10,zI w16,.bool w18]⟩) [1] [0] X18 (Sub.refl _) ⟨_,_,rfl,rfl,⟨_,_,_⟩,rfl,(by dsimp only;omega),(by dsimp only;omega),Ny⟩
inductive dg{α β:Type}(R:α→β→Prop):List α→List β→Prop
 |nil:dg R [] []
 |cons {a:α} {b:β} {l:List α} {m:List β}:R a b→dg R l m→dg R (a::l) (b::m)
theorem dg.snoc{R:α→β→Prop}{l:List α}{m:List β}{a:α}{b:β}(h:dg R l m)(k:R a b):dg R (l++[a]) (m++[b]):=by
 induction h with
 |nil=>exact .cons k .nil
 |cons h1 _ ih=>exact .cons h1 ih
theorem dg.len{R:α→β→Prop}{l:List α}{m:List β}(h:dg R l m):l.length=m.length:=by
 induction h with
 |nil=>rfl
 |cons _ _ ih=>simp[ih]
theorem dg.get{R:α→β→Prop}{l:List α}{m:List β}(h:dg R l m){a:α}(ha:l[i]?=some a):∃b,m[i]?=some b∧R a b:=by
 induction h generalizing i with
 |nil=>simp at ha
 |cons h1 _ ih=>
  cases i with
  |zero=>simp at ha;subst ha;exact⟨_,rfl,h1⟩
  |succ i=>exact ih (by simpa using ha)
theorem dg.imp{R S:α→β→Prop}{l:List α}{m:List β}(h:dg R l m)(k:∀a b,R a b→S a b):dg S l m:=by
 induction h with
 |nil=>exact .nil
 |cons h1 _ ih=>exact .cons (k _ _ h1) ih
structure cv where
 word:ByteArray
 cls:Int
 oA:Int
 ep:List Int
variable {hd:List cv}
def dq(h:bw)(x:cv):Prop:=h.word=x.word∧h.cls=x.cls∧h.oA=x.oA
def rK(ro:Nat→Option Obj)(h:bw)(x:cv):Prop:=h.word=x.word∧h.cls=x.cls∧h.oA=x.oA∧bE ro h.ep 1 cA x.ep
def jC(ro:Nat→Option Obj)(vc vh:Value)(cs:List bO)(hv:List bw)(hd:List cv):Prop:=bE ro vc 2 pn cs∧bE ro vh 4 mw hv∧dg (rK ro) hv hd
def gT(nc nh:Nat)(i:Nat)(x:cv):Prop:=(-1≤x.cls∧x.cls <nc)∧(-1≤x.oA∧x.oA <nh∧x.oA≠i)∧(x.ep.length≤nh∧x.ep.Pairwise (· < ·)∧∀y∈x.ep,0≤y∧y <nh∧y≠i)∧(x.oA≠ -1→x.cls= -1∧x.ep=[])∧(x.oA= -1→x.cls= -1→x.ep≠[])
structure wX(cs:List bO)(hd:List cv):Prop where
 nc:0 <cs.length∧cs.length≤3
 nh:hd.length≤4
 cls:∀(i:Nat) (c:bO),cs[i]?=some c→c.name∈nJ∧ -1≤c.under∧c.under <i
 names:(cs.map (·.name)).Pairwise fun a b=>cS a b=false
 AV:∀(i:Nat) (x:cv),hd[i]?=some x→x.word∈pH∧gT cs.length hd.length i x
 words:(hd.map (·.word)).Pairwise fun a b=>cS a b=false∧strLt b a=false
def n8(names:List Int)(cs:List bO):Prop:=∀(i:Nat) (c:bO),cs[i]?=some c→(∃y,names[i]?=some y∧nJ[y.toNat]?=some c.name)∧ -1≤c.under∧c.under <i
theorem Rh{l:List α}{x y:α}(h:(l++[x])[i]?=some y):l[i]?=some y∨(i=l.length∧y=x):=by
 rcases Nat.lt_trichotomy i l.length with h1|h1|h1
 ·rw[List.getElem?_append_left h1] at h;exact .inl h
 ·subst h1;simp at h;exact .inr ⟨rfl,h.symm⟩
 rw[List.getElem?_eq_none (by simp;omega)] at h;cases h
theorem n8.snoc{names:List Int}(h:n8 names cs){y u:Int}(h1:names[cs.length]?=some y) (h2:nJ[y.toNat]?=some nm) (h3: -1≤u∧u <cs.length):n8 names (cs++[⟨nm,u⟩]):=fun i c hc=>by
 rcases Rh hc with h4| ⟨rfl,rfl⟩
 ·exact h i c h4
 exact⟨⟨y,h1,h2⟩,h3⟩
def ni(ws:List Int)(nc:Nat)(hv:List bw)(hd:List cv)(Z:Cells)(i:Nat):Prop:=
 (∀ro,Knows ro Z→dg (rK ro) hv hd)∧hd.length=i∧hv.length=i∧(∀(k:Nat) (x:cv),hd[k]?=some x→(∃w,ws[k]?=some w∧pH[w.toNat]?=some x.word)∧gT nc ws.length k x)∧dg dq hv hd
theorem ni.snoc{ws:List Int}{hv:List bw}{Z A:Cells}(h:ni ws nc hv hd Z i){hV:bw}{x:cv}{w:Int}(h0:dq hV x)(h1:∀ro,Knows ro A→rK ro hV x)(h2:ws[i]?=some w) (h3:pH[w.toNat]?=some x.word) (h4:gT nc ws.length i x):
 ni ws nc (hv++[hV]) (hd++[x]) (A++Z) (i+1):=by
 obtain⟨g1,g2,g3,g4,g5⟩:=h
 refine⟨fun ro hk=>(g1 ro hk.right).snoc (h1 ro hk.left),by simp[g2],by simp[g3],fun k y hy=>?_,g5.snoc h0⟩
 rcases Rh hy with h5| ⟨rfl,rfl⟩
 ·exact g4 k y h5
 rw[g2];exact⟨⟨w,h2,h3⟩,h4⟩
theorem alJ{i w:Int}(hi:0≤i∧i <n)(hw:0≤w∧w≤n-2):0≤Int.tmod (i+1+w) n∧Int.tmod (i+1+w) n <n∧Int.tmod (i+1+w) n≠i:=by
 have h1:=Int.tmod_nonneg n (show 0≤i+1+w by omega)
 have h2:=Int.tmod_lt_of_pos (i+1+w) (show 0 <n by omega)
 refine⟨h1,h2,fun h=>?_⟩
 have h3:=Int.tmod_add_mul_tdiv (i+1+w) n
 rw[h] at h3
 have h4:n*(i+1+w).tdiv n=1+w:=by omega
 rcases Int.lt_trichotomy ((i+1+w).tdiv n) 0 with h5|h5|h5
 ·have:n*(i+1+w).tdiv n≤n* -1:=Int.mul_le_mul_of_nonneg_left (by omega) (by omega)
  omega
 ·rw[h5] at h4;omega
 have:n*1≤n*(i+1+w).tdiv n:=Int.mul_le_mul_of_nonneg_left (by omega) (by omega)
 omega
theorem Dt:nJ.Pairwise fun a b=>cS a b=false:=by simp only[Ak];decide
theorem Vs:pH.Pairwise fun a b=>cS a b=false∧strLt b a=false:=by simp only[Ak,Pc];decide
def lO(i:Nat)(k:Nat)(al:List Int):Prop:=al.length≤k∧al.Pairwise (· < ·)∧∀y∈al,0≤y∧y <k∧y≠i
theorem ql{l:List α}{R:α→α→Prop}(h:l.Pairwise R){j:Nat}{a b:α}(IB:i <j)(ha:l[i]?=some a) (hb:l[j]?=some b):R a b:=by
 obtain⟨h1,rfl⟩:=List.getElem?_eq_some_iff.1 ha
 obtain⟨h2,rfl⟩:=List.getElem?_eq_some_iff.1 hb
 exact List.pairwise_iff_getElem.1 h i j h1 h2 IB
theorem adI{l:List α}{f:α→β}{R:β→β→Prop}(h:∀(i j:Nat) (a b:α),i <j→l[i]?=some a→l[j]?=some b→R (f a) (f b)):(l.map f).Pairwise R:=by
 rw[List.pairwise_map,List.pairwise_iff_getElem]
 exact fun i j hi hj IB=>h i j _ _ IB (List.getElem?_eq_getElem hi) (List.getElem?_eq_getElem hj)
theorem S5{a b:ByteArray}(h:cS a b=false):cS b a=false:=by
 cases h2:cS b a with
 |false=>rfl
 |true=>rw[BN.1 h2,BN.2 rfl] at h;cases h
theorem Zb{MI kK:List Int}{hv:List bw}{Z:Cells}(hc:n8 MI cs)(hp:MI.Perm (cD nJ.length))(hn:0 <cs.length∧cs.length≤3)(hh:ni kK cs.length hv hd Z i)(hi:i=kK.length)(h4:kK.length≤4)(hs:kK.Pairwise (· < ·))(hm:∀x∈kK,0≤x∧x <pH.length):wX cs hd:=by
 obtain⟨g1,g2,g3,g4,_⟩:=hh
 have jv:∀y∈MI,0≤y∧y <nJ.length:=fun y hy=>ig (hp.mem_iff.1 hy)
 have mo:MI.Pairwise (· ≠·):=(hp.pairwise_iff (fun h=>Ne.symm h)).2 ((rQ _).imp fun h=>by omega)
 refine⟨hn,by omega,fun k c hk=>?_,adI fun a b x y BA hx hy=>?_,fun k x hk=>?_,adI fun a b x y BA hx hy=>?_⟩
 ·obtain⟨⟨y,h1,h2⟩,h3⟩:=hc k c hk
  exact⟨List.mem_of_getElem? h2,h3⟩
 ·obtain⟨⟨p,p1,p2⟩,_⟩:=hc a x hx
  obtain⟨⟨q,q1,q2⟩,_⟩:=hc b y hy
  have XF:=ql mo BA p1 q1
  have hp0:=jv p (List.mem_of_getElem? p1)
  have XE:=jv q (List.mem_of_getElem? q1)
  rcases Nat.lt_trichotomy p.toNat q.toNat with h|h|h
  ·exact ql Dt h p2 q2
  ·exact absurd (show p=q by omega) XF
  exact S5 (ql Dt h q2 p2)
 ·obtain⟨⟨w,h1,h2⟩,h3⟩:=g4 k x hk
  have:hd.length=kK.length:=by omega
  rw[this]
  exact⟨List.mem_of_getElem? h2,h3⟩
 obtain⟨⟨p,p1,p2⟩,_⟩:=g4 a x hx
 obtain⟨⟨q,q1,q2⟩,_⟩:=g4 b y hy
 have XF:=ql hs BA p1 q1
 have hp0:=hm p (List.mem_of_getElem? p1)
 exact ql Vs (show p.toNat <q.toNat by omega) p2 q2
theorem lO.step(h:lO i k al):lO i (k+1) al:=⟨by have:=h.1;omega,h.2.1,fun y hy=>by have:=h.2.2 y hy;omega⟩
theorem lO.snoc(h:lO i k al)(hk:(k:Int)≠i):lO i (k+1) (al++[(k:Int)]):=by
 refine⟨by have:=h.1;simp;omega,List.pairwise_append.2 ⟨h.2.1,List.pairwise_singleton _ _,fun a ha b hb=>?_⟩,qN (fun y hy=>by have:=h.2.2 y hy;omega) (by omega)⟩
 rw[List.mem_singleton] at hb;subst hb
 exact(h.2.2 a ha).2.1
theorem agB{r:Int}{w:ByteArray}(h:0≤r∧r <nh∧r≠i)(h4:0 <nc):gT nc nh i ⟨w,-1,r,[]⟩:=
 have h1:=h.1
 have h2:=h.2.1
 have h3:=h.2.2
 ⟨⟨by simp,by simp<;>omega⟩,⟨by simp<;>omega,by simpa using h2,by simpa using h3⟩,⟨by simp,by simp,by simp⟩,fun _=>⟨rfl,rfl⟩,fun h=>by simp at h;omega⟩
theorem KX{c:Int}{w:ByteArray}(hc:0≤c∧c <nc)(h:lO i k al)(hk:k≤nh)(hi:i <nh):gT nc nh i ⟨w,c,-1,al⟩:=
 ⟨⟨by simp<;>omega,by simpa using hc.2⟩,⟨by simp,by simp<;>omega,by simp<;>omega⟩,⟨by have:=h.1;simp<;>omega,h.2.1,fun y hy=>by have:=h.2.2 y hy;simp<;>omega⟩,fun hh=>by simp at hh,fun _ hh=>by simp at hh;omega⟩
theorem agC{w:ByteArray}(h:lO i k al)(hk:k≤nh)(hi:i <nh)(dX:(al.length:Int)>0):gT nc nh i ⟨w,-1,-1,al⟩:=
 ⟨⟨by simp,by simp<;>omega⟩,⟨by simp,by simp<;>omega,by simp<;>omega⟩,⟨by have:=h.1;simp<;>omega,h.2.1,fun y hy=>by have:=h.2.2 y hy;simp<;>omega⟩,fun hh=>by simp at hh,fun _ _ hh=>by simp at hh;subst hh;simp at dX⟩
set_option maxHeartbeats 1000000 in
theorem anJ {ro:Nat→Option Obj} (hN:Dn ro vd xs) (hD:bL vd xs d X):eG zT 26 [zP d,zI 3,zI 4] ro X (fun r Y=>∃(cs:List bO) (hv:List bw) (hd:List cv) (vc vh:Value) (Z X':Cells),r= .agg ⟨[vc,vh]⟩∧wX cs hd∧dg dq hv hd∧(∀aG,Knows aG Z→jC aG vc vh cs hv hd)∧Y=Z++X'∧bL vd xs d X'):=by
 refine bD au [.l X] [] ba<|zD 2<|jn fun b6=>zD 3<|jn fun b7=>zD 4<|jc [] (ae1) ?_
 rintro v16 L16 ⟨_,aRI,rfl⟩
 refine Co aRI<|jc (vs:=[zP d,zI (nJ.length:Int)]) [3] (Vn hN hD (by first|omega|decide)) ?_
 rintro v18 _ ⟨MI,L18,X18,aav,QH,rfl,Ny⟩
 refine jg 0 [.l L18,.l X18]<|zD 7<|jc (vs:=[zP d,zI 1,zI 3]) [1] (A9 hN Ny (by omega) (by omega)) ?_
 rintro _ X21 ⟨w21,rfl,amC,qu,aUU⟩
 refine zD 3<|oH<|dW [1,1,1,0,1,0,0] [] (fun(zz:Int×Value×Cells×(List bO)×Cells)=>[(0,zP d),(2,zI 4),(6,zP b6),(7,zP b7),(8,v18),(9,zI zz.1)]) (fun(zz:Int×Value×Cells×(List bO)×Cells)=>[.l zz.2.2.1,.l zz.2.2.2.2,.b b7 (.cells ⟨[zz.2.1,zS]⟩ 35 (0,0)),.l L18,.b b6 (.cells ⟨[zS,zS]⟩ 35 (0,0))]) (fun(zz:Int×Value×Cells×(List bO)×Cells)=>(0≤zz.1∧zz.2.2.2.1.length+zz.1=w21)∧az zz.2.1 2 140 pn zz.2.2.2.1 zz.2.2.1∧n8 MI zz.2.2.2.1∧bL vd xs d zz.2.2.2.2) (fun(zz:Int×Value×Cells×(List bO)×Cells)=>zz.1.toNat) (⟨w21,zS,[],[],X21⟩) ⟨by simp only[List.length_nil];omega,az.nil _ _ _,(fun i c h=>by simp at h),aUU⟩ [0,1,4,2,5] ?_
 rintro⟨j,vC,LC,cs,X⟩ hI K1 bK rest
 dsimp only at hI
 have hlen:MI.length=9:=by rw[QH.length_eq,gz];rfl
 refine zD 6<|zJ 23 (j>0) (fun h1=>?_) fun h1=>?_
 ·
  refine jd 10 [2,2]<|Co hI.2.1 ?_
  obtain⟨x33,afq⟩:=zG MI (cs.length)
  refine T5 1 aav afq fun b33 aTA=>nS 0 [3] L18 (fun s _ hZ=>cm aav aTA hZ afq)<|jd 3 [2]<|Co hI.2.1<|ja ((cs.length:Int)-1) (by omega)<|aL 2 fun Ac Aj zd=>jc [] (ae1) ?_
  rintro v28 L28 ⟨_,aCR,rfl⟩
  refine bB zd [1,2,3,4,5] ?_
  obtain⟨x35,Ug⟩:=zG nJ (x33.toNat) (by have:=ig (QH.mem_iff.1 (List.mem_of_getElem? afq));omega)
  refine pP x33 1 aCR Ug (Int.toNat_of_nonneg (show 0≤x33∧x33 <((nJ).length:Int) from (ig (QH.mem_iff.1 (List.mem_of_getElem? afq)))).1).symm fun b35 aTy=>nS 0 [0] L28 (fun s _ hZ=>cm aCR aTy hZ Ug)<|aL 16 fun sB sJ q5=>jc (vs:=[zP d,zI (-1),zI ((cs.length:Int)-1)]) [2] (A9 hN hI.2.2.2 (by omega) (by omega)) ?_
  rintro _ X42 ⟨w42,rfl,bez,Uf,aUP⟩
  refine iu q5 [[1],[3],[4],[3],[3]]<|zD 1<|aL 18 fun sA sI qZ=>jn fun dw=>bB qZ [1,2,3,4,5,6]<|aL 19 fun BG BM CC=>jq (sz:=2) (ps:=cs) (qs:=[(⟨x35,w42⟩:bO)]) (enc:=pn) (w:= .slice (some ⟨dw,0,none⟩) 1 1) [3] [0] [(dw,.cells ⟨([(⟨x35,w42⟩:bO)].map pn).flatten⟩ 140 (0,0))] (hI.2.1) (fun s _ hZ=>bX [(⟨x35,w42⟩:bO)] (hZ _ (.head _)) (by intro p hp;rfl)) (fun p _=>aj rfl) (by simp<;>omega) (fun v45 L45 afT=>?_)
  obtain⟨are,aq4,avj⟩:=afT.form
  subst avj
  refine iu CC [[3],[4],[5],[4]]<|zD 1<|aL 21 fun abW acF hL6=>jd 1 [4]<|dZ hL6<|zD 3<|ja (j-1) (by omega)<|zD 2<|bJ bK (⟨j-1,(.slice are ((cs++[(⟨x35,w42⟩:bO)])).length aq4),L45,(cs++[(⟨x35,w42⟩:bO)]),X42⟩) ⟨by simp only[List.length_append,List.length_cons,List.length_nil];omega,afT,n8.snoc hI.2.2.1 afq Ug (by omega),aUP⟩ (by omega) [0,2,4,5,6] (Sub.refl _)
 refine zD 5<|jc [] (afh) ?_
 rintro v48 L48 ⟨_,aRz,rfl⟩
 refine Co aRz<|zD 2<|jc (vs:=[zP d,zI 4]) [2] (EM hN hI.2.2.2 (by omega)) ?_
 rintro _ X52 ⟨w52,rfl,bey,wm,aUO⟩
 refine jc (vs:=[zP d,zI (pH.length:Int),zI w52]) [0] (aHw hN aUO (by first|omega|decide)) ?_
 rintro v53 _ ⟨kK,L53,X53,auu,bfr,wq,agi,rfl,ank⟩
 refine jg 0 [.l L53,.l X53]<|zD 5<|Co auu<|zD 8<|oH<|oH<|dW [1,1,1,1,1,1,0,1,0,0] [] (fun(zz:Nat×Value×Cells×(List bw)×(List cv)×Cells×Cells)=>[(0,zP d),(6,zP b6),(7,zP b7),(10,v53),(11,zI (kK.length:Int)),(12,zI (zz.1:Int))]) (fun(zz:Nat×Value×Cells×(List bw)×(List cv)×Cells×Cells)=>[.l zz.2.2.1,.l zz.2.2.2.2.2.1,.l zz.2.2.2.2.2.2,.l LC,.b b7 (.cells ⟨[vC,zz.2.1]⟩ 35 (0,0)),.l L53,.b b6 (.cells ⟨[zS,zS]⟩ 35 (0,0))]) (fun(zz:Nat×Value×Cells×(List bw)×(List cv)×Cells×Cells)=>zz.1≤kK.length∧az zz.2.1 4 143 mw zz.2.2.2.1 zz.2.2.1∧ni kK cs.length zz.2.2.2.1 zz.2.2.2.2.1 zz.2.2.2.2.2.1 zz.1∧bL vd xs d zz.2.2.2.2.2.2) (fun(zz:Nat×Value×Cells×(List bw)×(List cv)×Cells×Cells)=>kK.length-zz.1) (⟨0,zS,[],[],[],[],X53⟩) ⟨by omega,az.nil _ _ _,⟨fun _ _=> .nil,rfl,rfl,(fun k x h=>by simp at h),.nil⟩,ank⟩ [1,0,3,5,6,2,8] ?_
 rintro⟨i,vH,LH,hv,hd,Z,X⟩ hJ K7 hK7 rest
 dsimp only at hJ
 have hll:=hJ.2.2.1.2.2.1
 have Ss:kK.length≤4:=by omega
 have iV:cs.length≤3:=by omega
 refine zD 7<|zJ 58 ((i:Int) <(kK.length:Int)) (fun h7=>?_) fun h7=>?_
 ·
  refine zD 5<|Iu [1,1,1,1,1,1,0,1,0,0,1,0,0,1] [K7] (fun(zz:Nat×Int×Int×ByteArray×Cells)=>[(0,zP d),(6,zP b6),(7,zP b7),(10,v53),(11,zI (kK.length:Int)),(12,zI (i:Int)),(13,zP zz.1)]) (fun(zz:Nat×Int×Int×ByteArray×Cells)=>[.b zz.1 (.cells ⟨[.string zz.2.2.2.1,zI zz.2.1,zI (-1),zS]⟩ 143 (0,0)),.l LH,.l Z,.l zz.2.2.2.2,.l LC,.b b7 (.cells ⟨[vC,vH]⟩ 35 (0,0)),.l L53,.b b6 (.cells ⟨[zS,zS]⟩ 35 (0,0))]) (fun(zz:Nat×Int×Int×ByteArray×Cells)=>kK[i]?=some zz.2.2.1∧pH[zz.2.2.1.toNat]?=some zz.2.2.2.1∧(0≤zz.2.1∧zz.2.1 <cs.length)∧bL vd xs d zz.2.2.2.2) ?_ (fun K8 hK8=>?_)
  ·
   rintro⟨Aa,w,y,x,X⟩ SD rest
   dsimp only at SD
   refine zD 2<|Iu [1,1,1,1,1,1,0,1,0,0,1,0,0,1,0,1] [K7] (fun(zz:Bool×Cells)=>[(0,zP d),(6,zP b6),(7,zP b7),(10,v53),(11,zI (kK.length:Int)),(12,zI (i:Int)),(13,zP Aa),(80,.bool zz.1)]) (fun(zz:Bool×Cells)=>[.b Aa (.cells ⟨[.string x,zI w,zI (-1),zS]⟩ 143 (0,0)),.l LH,.l Z,.l zz.2,.l LC,.b b7 (.cells ⟨[vC,vH]⟩ 35 (0,0)),.l L53,.b b6 (.cells ⟨[zS,zS]⟩ 35 (0,0))]) (fun(zz:Bool×Cells)=>(zz.1=true→1 <kK.length)∧bL vd xs d zz.2) ?_ (fun K9 hK9=>?_)
   ·
    rintro⟨q,X⟩ hJ3 rest
    dsimp only at hJ3
    refine js 80 q (fun h8=>?_) (fun h8=>?_)
    ·
     subst h8
     have hgt:=hJ3.1 rfl
     refine zD 4<|ja ((i:Int)+1) (by omega)<|zD 2<|ja ((kK.length:Int)-2) (by omega)<|zD 2<|aL 5 fun Ft FL wy=>jc (vs:=[zP d,zI ((kK.length:Int)-2)]) [3] (EM hN hJ3.2 (by omega)) ?_
     rintro _ X86 ⟨w86,rfl,bew,bep,aUI⟩
     refine iu wy []<|ja (((i:Int)+1)+w86) (by omega)<|jrm (k:= .i64) (a:=(((i:Int)+1)+w86)) (b:=(kK.length:Int)) 3 (by omega)<|aL 10 fun JF JL CG=>jd 1 [1]<|iu CG []<|zD 1<|aL 12 fun OH O3 CE=>jd 1 [1]<|dZ CE<|jd 6 [5,1]<|jn fun b95=>jq (sz:=4) (ps:=hv) (qs:=[(⟨x,(-1),(Int.tmod (((i:Int)+1)+w86) (kK.length:Int)),zS⟩:bw)]) (enc:=mw) (w:= .slice (some ⟨b95,0,none⟩) 1 1) [3] [0] [(b95,.cells ⟨([(⟨x,(-1),(Int.tmod (((i:Int)+1)+w86) (kK.length:Int)),zS⟩:bw)].map mw).flatten⟩ 143 (0,0))] (hJ.2.1) (fun s _ hZ=>bX [(⟨x,(-1),(Int.tmod (((i:Int)+1)+w86) (kK.length:Int)),zS⟩:bw)] (hZ _ (.head _)) (by intro p hp;rfl)) (by intro p hp;rw[List.mem_singleton] at hp;subst hp;exact aj rfl) (by simp<;>omega) (fun v96 L96 afN=>?_)
     obtain⟨aMh,aLW,aSC⟩:=afN.form
     subst aSC
     refine jd 6 [6]<|ja ((i:Int)+1) (by omega)<|zD 2<|bJ hK7 (⟨i+1,(.slice aMh ((hv++[(⟨x,(-1),(Int.tmod (((i:Int)+1)+w86) (kK.length:Int)),zS⟩:bw)])).length aLW),L96,(hv++[(⟨x,(-1),(Int.tmod (((i:Int)+1)+w86) (kK.length:Int)),zS⟩:bw)]),_,Z,X86⟩) ⟨by omega,afN,(by have:=ni.snoc (A:=[]) hJ.2.2.1 (h0:=⟨rfl,rfl,rfl⟩) (hV:=⟨x,-1,(Int.tmod (((i:Int)+1)+w86) (kK.length:Int)),zS⟩) (x:=⟨x,-1,(Int.tmod (((i:Int)+1)+w86) (kK.length:Int)),[]⟩) (fun ro _=>⟨rfl,rfl,rfl,bE.nil _ _ _ _ _⟩) SD.1 SD.2.1 (agB (alJ ⟨by omega,by omega⟩ ⟨by omega,by omega⟩) (by omega));simpa only[List.nil_append] using this),aUI⟩ (by omega) [0,4,2,5,6,7,8] (Sub.refl _)
    subst h8
    refine zD 8<|oH<|dW [1,1,1,1,1,1,0,1,0,0,1,0,0,1,1,0,1,0,0] [K7] (fun(zz:Nat×Value×Cells×(List Int)×Cells)=>[(0,zP d),(6,zP b6),(7,zP b7),(10,v53),(11,zI (kK.length:Int)),(12,zI (i:Int)),(13,zP Aa),(14,zI (zz.1:Int))]) (fun(zz:Nat×Value×Cells×(List Int)×Cells)=>[.l zz.2.2.1,.l zz.2.2.2.2,.b Aa (.cells ⟨[.string x,zI w,zI (-1),zz.2.1]⟩ 143 (0,0)),.l LH,.l Z,.l LC,.b b7 (.cells ⟨[vC,vH]⟩ 35 (0,0)),.l L53,.b b6 (.cells ⟨[zS,zS]⟩ 35 (0,0))]) (fun(zz:Nat×Value×Cells×(List Int)×Cells)=>(zz.1≤kK.length∧zz.2.2.2.1.length≤zz.1)∧az zz.2.1 1 3 cA zz.2.2.2.1 zz.2.2.1∧lO i zz.1 zz.2.2.2.1∧bL vd xs d zz.2.2.2.2) (fun(zz:Nat×Value×Cells×(List Int)×Cells)=>kK.length-zz.1) (⟨0,zS,[],[],X⟩) ⟨by simp,az.nil _ _ _,⟨by simp,by simp,by simp⟩,hJ3.2⟩ [0,4,1,2,3,5,6,7,8] ?_
    rintro⟨k,vA,LA,al,X⟩ hK K13 Nw rest
    dsimp only at hK
    obtain⟨qa,qc,rfl⟩:=hK.2.1.form
    refine zD 7<|zJ 100 ((k:Int) <(kK.length:Int)) (fun IG=>?_) fun IG=>?_
    ·
     refine zD 10<|js 106 (!decide ((k:Int)=(i:Int))) (fun BC=>?_) (fun BC=>?_)
     ·
      have ahL:=BC
      replace ahL:=of_decide_eq_false (by simpa using ahL)
      refine zD 1<|jc (vs:=[zP d,zI 4]) [1] (tA hN hK.2.2.2 (by omega)) ?_
      rintro _ aIl ⟨aLU,rfl,aqb⟩
      refine zD 2<|js 109 aLU (fun h14=>?_) (fun h14=>?_)
      ·
       subst h14
       refine jd 5 [2]<|jn fun aH1=>jq (sz:=1) (ps:=al) (qs:=[(k:Int)]) (enc:=cA) (w:= .slice (some ⟨aH1,0,none⟩) 1 1) [2] [0] [(aH1,.cells ⟨([(k:Int)].map cA).flatten⟩ 3 (0,0))] (hK.2.1) (fun s _ hZ=>bX [(k:Int)] (hZ _ (.head _)) (by intro p hp;rfl)) (fun p _=>aj rfl) (by simp<;>omega) (fun bcd aWJ XJ=>?_)
       obtain⟨ay2,ayV,aDK⟩:=XJ.form
       subst aDK
       refine jd 5 [3]<|ja ((k:Int)+1) (by omega)<|zD 2<|bJ Nw (⟨k+1,(.slice ay2 ((al++[(k:Int)])).length ayV),aWJ,(al++[(k:Int)]),aIl⟩) ⟨by simp only[List.length_append,List.length_cons,List.length_nil];omega,XJ,lO.snoc hK.2.2.1 (by omega),aqb⟩ (by omega) [0,2,3,4,5,6,7,8,9] (Sub.refl _)
      subst h14
      refine zD 4<|ja ((k:Int)+1) (by omega)<|zD 2<|bJ Nw (⟨k+1,(.slice qa al.length qc),LA,al,aIl⟩) ⟨by dsimp only;omega,hK.2.1,lO.step hK.2.2.1,aqb⟩ (by omega) [1,0,2,3,4,5,6,7,8] (Sub.refl _)
     have ahL:=BC
     replace ahL:=of_decide_eq_true (by simpa using ahL)
     refine zD 8<|ja ((k:Int)+1) (by omega)<|zD 2<|bJ Nw (⟨k+1,(.slice qa al.length qc),LA,al,X⟩) ⟨by dsimp only;omega,hK.2.1,lO.step hK.2.2.1,hK.2.2.2⟩ (by omega) [0,1,2,3,4,5,6,7,8] (Sub.refl _)
    refine jd 10 [2]<|js 120 (decide ((al.length:Int)>0)) (fun EH=>?_) (fun EH=>?_)
    ·
     have Hs:=EH
     replace Hs:=of_decide_eq_true Hs
     refine zD 1<|jc (vs:=[zP d,zI 4]) [1] (tA hN hK.2.2.2 (by omega)) ?_
     rintro _ aIk ⟨aLR,rfl,aqa⟩
     refine zD 2<|js 123 aLR (fun Ju=>?_) (fun Ju=>?_)
     ·
      subst Ju
      refine jd 9 [2,6,2]<|jn fun N6=>jq (sz:=4) (ps:=hv) (qs:=[(⟨x,(-1),-1,(.slice qa al.length qc)⟩:bw)]) (enc:=mw) (w:= .slice (some ⟨N6,0,none⟩) 1 1) [4] [0] [(N6,.cells ⟨([(⟨x,(-1),-1,(.slice qa al.length qc)⟩:bw)].map mw).flatten⟩ 143 (0,0))] (hJ.2.1) (fun s _ hZ=>bX [(⟨x,(-1),-1,(.slice qa al.length qc)⟩:bw)] (hZ _ (.head _)) (by intro p hp;rfl)) (by intro p hp;rw[List.mem_singleton] at hp;subst hp;exact aj rfl) (by simp<;>omega) (fun azb ajr rq=>?_)
      obtain⟨OS,OP,Q4⟩:=rq.form
      subst Q4
      refine jd 5 [7]<|ja ((i:Int)+1) (by omega)<|zD 2<|KR hK7 (⟨i+1,(.slice OS ((hv++[(⟨x,(-1),-1,(.slice qa al.length qc)⟩:bw)])).length OP),ajr,(hv++[(⟨x,(-1),-1,(.slice qa al.length qc)⟩:bw)]),_,LA++Z,aIk⟩) ⟨by omega,rq,ni.snoc (A:=LA) hJ.2.2.1 (h0:=⟨rfl,rfl,rfl⟩) (x:=⟨x,_,-1,al⟩) (fun ro hk=>⟨rfl,rfl,rfl,hK.2.1.kZ hk⟩) SD.1 SD.2.1 (agC hK.2.2.1 (by omega) (by omega) (by assumption)),aqa⟩ (by omega) [[0],[3,5],[2],[6],[7],[8],[9]] (Sub.refl _)
     subst Ju
     refine jd 6 [6,2]<|jn fun N6=>jq (sz:=4) (ps:=hv) (qs:=[(⟨x,w,-1,(.slice qa al.length qc)⟩:bw)]) (enc:=mw) (w:= .slice (some ⟨N6,0,none⟩) 1 1) [4] [0] [(N6,.cells ⟨([(⟨x,w,-1,(.slice qa al.length qc)⟩:bw)].map mw).flatten⟩ 143 (0,0))] (hJ.2.1) (fun s _ hZ=>bX [(⟨x,w,-1,(.slice qa al.length qc)⟩:bw)] (hZ _ (.head _)) (by intro p hp;rfl)) (by intro p hp;rw[List.mem_singleton] at hp;subst hp;exact aj rfl) (by simp<;>omega) (fun azb ajr rq=>?_)
     obtain⟨OS,OP,Q4⟩:=rq.form
     subst Q4
     refine jd 5 [7]<|ja ((i:Int)+1) (by omega)<|zD 2<|KR hK7 (⟨i+1,(.slice OS ((hv++[(⟨x,w,-1,(.slice qa al.length qc)⟩:bw)])).length OP),ajr,(hv++[(⟨x,w,-1,(.slice qa al.length qc)⟩:bw)]),_,LA++Z,aIk⟩) ⟨by omega,rq,ni.snoc (A:=LA) hJ.2.2.1 (h0:=⟨rfl,rfl,rfl⟩) (x:=⟨x,_,-1,al⟩) (fun ro hk=>⟨rfl,rfl,rfl,hK.2.1.kZ hk⟩) SD.1 SD.2.1 (KX (by omega) hK.2.2.1 (by omega) (by omega)),aqa⟩ (by omega) [[0],[3,5],[2],[6],[7],[8],[9]] (Sub.refl _)
    have Hs:=EH
    replace Hs:=of_decide_eq_false Hs
    refine jd 10 [6,2]<|jn fun N6=>jq (sz:=4) (ps:=hv) (qs:=[(⟨x,w,-1,(.slice qa al.length qc)⟩:bw)]) (enc:=mw) (w:= .slice (some ⟨N6,0,none⟩) 1 1) [4] [0] [(N6,.cells ⟨([(⟨x,w,-1,(.slice qa al.length qc)⟩:bw)].map mw).flatten⟩ 143 (0,0))] (hJ.2.1) (fun s _ hZ=>bX [(⟨x,w,-1,(.slice qa al.length qc)⟩:bw)] (hZ _ (.head _)) (by intro p hp;rfl)) (by intro p hp;rw[List.mem_singleton] at hp;subst hp;exact aj rfl) (by simp<;>omega) (fun azb ajr rq=>?_)
    obtain⟨OS,OP,Q4⟩:=rq.form
    subst Q4
    refine jd 5 [7]<|ja ((i:Int)+1) (by omega)<|zD 2<|KR hK7 (⟨i+1,(.slice OS ((hv++[(⟨x,w,-1,(.slice qa al.length qc)⟩:bw)])).length OP),ajr,(hv++[(⟨x,w,-1,(.slice qa al.length qc)⟩:bw)]),_,LA++Z,X⟩) ⟨by omega,rq,ni.snoc (A:=LA) hJ.2.2.1 (h0:=⟨rfl,rfl,rfl⟩) (x:=⟨x,_,-1,al⟩) (fun ro hk=>⟨rfl,rfl,rfl,hK.2.1.kZ hk⟩) SD.1 SD.2.1 (KX (by omega) hK.2.2.1 (by omega) (by omega)),hK.2.2.2⟩ (by omega) [[0],[2,5],[3],[6],[7],[8],[9]] (Sub.refl _)
   refine zD 4<|js 77 (decide ((kK.length:Int)>1)) (fun U0=>?_) (fun U0=>?_)
   ·
    have Hr:=U0
    replace Hr:=of_decide_eq_true Hr
    refine zD 1<|jc (vs:=[zP d,zI 3]) [3] (tA hN SD.2.2.2 (by omega)) ?_
    rintro _ X79 ⟨w79,rfl,aUK⟩
    refine zD 2<|bJ hK9 ⟨w79,X79⟩ ⟨fun _=>by omega,aUK⟩ Nat.zero_lt_one [1,2,3,0,4,5,6,7] (Sub.refl _)
   have Hr:=U0
   replace Hr:=of_decide_eq_false Hr
   refine zD 4<|bJ hK9 ⟨false,X⟩ ⟨(fun h=>by cases h),SD.2.2.2⟩ Nat.zero_lt_one [0,1,2,3,4,5,6,7] (Sub.refl _)
  refine zD 3 ?_
  obtain⟨x64,Na⟩:=zG kK i
  refine T5 1 auu Na fun b64 aTo=>nS 0 [5] L53 (fun s _ hZ=>cm auu aTo hZ Na)<|jd 3 [4]<|Co hI.2.1<|ja ((cs.length:Int)-1) (by omega)<|nj [0,14] ⟨fun z14 t15 Rb=>?_,fun z17 t18 ahe=>?_,trivial⟩
  ·
   refine jc [] (afh) ?_
   rintro v61 L61 ⟨_,af7,rfl⟩
   refine bB Rb [1,2,3,4,5,6,7] ?_
   obtain⟨x66,GQ⟩:=zG pH (x64.toNat) (by have:=agi _ (List.mem_of_getElem? Na);omega)
   refine pP x64 1 af7 GQ (Int.toNat_of_nonneg (show 0≤x64∧x64 <((pH).length:Int) from (agi _ (List.mem_of_getElem? Na))).1).symm fun b66 avH=>nS 0 [0] L61 (fun s _ hZ=>cm af7 avH hZ GQ)<|nj [12,14] ⟨fun z20 t21 ahd=>?_,fun z23 t24 UX=>?_,trivial⟩
   ·
    refine jc (vs:=[zP d,zI ((cs.length:Int)-1)]) [3] (EM hN hJ.2.2.2 (by omega)) ?_
    rintro _ X73 ⟨w73,rfl,aB8,aal,ahk⟩
    refine iu ahd [[1],[5],[6]]<|zD 1<|aL 14 fun aot aoP Js=>jn fun Aa=>bB Js [1,2,3,4,5,6,7,8]<|aL 15 fun VY V9 Nt=>jd 1 [0]<|dZ Nt<|zD 1<|bJ hK8 ⟨Aa,w73,_,x66,X73⟩ ⟨Na,GQ,(by dsimp only;omega),ahk⟩ Nat.zero_lt_one [0,3,4,1,5,6,7,8] (Sub.refl _)
   refine jn fun Aa=>bB UX [1,2,3,4,5,6,7,8]<|aL 12 fun VX V8 Hn=>jc (vs:=[zP d,zI ((cs.length:Int)-1)]) [4] (EM hN hJ.2.2.2 (by omega)) ?_
   rintro _ X73 ⟨w73,rfl,aB8,aal,ahk⟩
   refine iu Hn [[2],[6],[7]]<|zD 1<|aL 15 fun OG O2 Hm=>jd 1 [1]<|dZ Hm<|zD 1<|bJ hK8 ⟨Aa,w73,_,x66,X73⟩ ⟨Na,GQ,(by dsimp only;omega),ahk⟩ Nat.zero_lt_one [1,3,4,0,5,6,7,8] (Sub.refl _)
  refine jn fun Aa=>bB ahe [1,2,3,4,5,6,7]<|aL 0 fun VW V7 Ns=>jc [] (afh) ?_
  rintro v61 L61 ⟨_,af7,rfl⟩
  refine bB Ns [1,2,3,4,5,6,7,8] ?_
  obtain⟨x66,GQ⟩:=zG pH (x64.toNat) (by have:=agi _ (List.mem_of_getElem? Na);omega)
  refine pP x64 1 af7 GQ (Int.toNat_of_nonneg (show 0≤x64∧x64 <((pH).length:Int) from (agi _ (List.mem_of_getElem? Na))).1).symm fun b66 avH=>nS 0 [0] L61 (fun s _ hZ=>cm af7 avH hZ GQ)<|aL 12 fun ab0 acJ Ra=>jc (vs:=[zP d,zI ((cs.length:Int)-1)]) [4] (EM hN hJ.2.2.2 (by omega)) ?_
  rintro _ X73 ⟨w73,rfl,aB8,aal,ahk⟩
  refine iu Ra [[1],[6],[7]]<|zD 1<|aL 15 fun aos aoO ahc=>jd 1 [2]<|dZ ahc<|zD 1<|bJ hK8 ⟨Aa,w73,_,x66,X73⟩ ⟨Na,GQ,(by dsimp only;omega),ahk⟩ Nat.zero_lt_one [2,3,4,0,5,6,7,8] (Sub.refl _)
 refine jd 5 [4] ?_
 obtain⟨acs,ack,agG⟩:=hI.2.1.form
 subst agG
 obtain⟨aMu,aL9,aSM⟩:=hJ.2.1.form
 subst aSM
 refine jd 3 [6]<|aF q0 (.agg ⟨[(.slice acs (cs).length ack),(.slice aMu (hv).length aL9)]⟩) [6] [3,0,1,2] (LC++(LH++(Z++X))) (Sub.refl _) ⟨_,_,rfl,rfl,cs,hv,hd,_,_,LC++(LH++Z),X,rfl,Zb hI.2.2.1 QH (by omega) hJ.2.2.1 (by omega) (by omega) wq agi,hJ.2.2.1.2.2.2.2,fun aC hk=>⟨hI.2.1.kZ hk.left,hJ.2.1.kZ hk.right.left,hJ.2.2.1.1 aC hk.right.right⟩,by simp only[List.append_assoc],hJ.2.2.2⟩
abbrev gh(x:Value):List Value:=[x]
structure ah where
 n:Int
 l:Int
abbrev cI(x:ah):List Value:=[zI x.n,zI x.l]
def ali(x y:ah):Prop:=x.n <y.n∨(x.n=y.n∧x.l <y.l)
def Bq(x:ah):Prop:=(1≤x.n∧x.n≤9)∧0≤x.l∧x.l≤4
structure fp(S:List (List ah)):Prop where
 two:S.length=2
 len:∀l∈S,l.length≤4
 ok:∀l∈S,∀x∈l,Bq x
 asc:∀l∈S,l.Pairwise ali
def yN:List (List ah):=[[⟨1,0⟩,⟨2,0⟩],[⟨1,0⟩,⟨3,0⟩]]
def cW(ro:Nat→Option Obj)(v:Value)(S:List (List ah)):Prop:=∃ws,bE ro v 1 gh ws∧dg (fun w l=>bE ro w 2 cI l) ws S
def n5(ro:Nat→Option Obj)(v:Value)(ways:List (List aN)):Prop:=∃ws,bE ro v 1 gh ws∧dg (fun w l=>bE ro w 7 kT l) ws ways
theorem cW.up{ro:Nat→Option Obj}{v:Value}{S:List (List ah)}(h:cW ro v S)(hs:Sub ro aG):cW aG v S:=by
 obtain⟨ws,h1,h2⟩:=h
 exact⟨ws,h1.up hs,h2.imp fun _ _ k=>k.up hs⟩
theorem n5.up{ro:Nat→Option Obj}{v:Value}{w:List (List aN)}(h:n5 ro v w)(hs:Sub ro aG):n5 aG v w:=by
 obtain⟨ws,h1,h2⟩:=h
 exact⟨ws,h1.up hs,h2.imp fun _ _ k=>k.up hs⟩
theorem jC.up{ro:Nat→Option Obj}{hv:List bw}(h:jC ro vc vh cs hv hd)(hs:Sub ro aG):jC aG vc vh cs hv hd:=
 ⟨h.1.up hs,h.2.1.up hs,h.2.2.imp fun _ _ k=>⟨k.1,k.2.1,k.2.2.1,k.2.2.2.up hs⟩⟩
structure aI where
 ways:List (List aN)
 cs:List bO
 hd:List cv
 rules:List cQ
 before:List ay
 after:List ay
 gone:Int
 new:Int
 af:Int
 facts:List cU
 str:List (List ah)
def fP(ro:Nat→Option Obj)(l:List Value)(k:aI):Prop:=∃(vS vT vc vh vr vb va vf:Value) (fa:Option Addr) (fc:Nat) (hv:List bw),
 l=[vS,vT,.slice fa 0 fc,vc,vh,vr,vb,va,zI k.gone,zI k.new,zI k.af,vf]∧cW ro vS k.str∧n5 ro vT k.ways∧jC ro vc vh k.cs hv k.hd∧dg dq hv k.hd∧
 bE ro vr 2 iP k.rules∧bE ro vb 5 dL k.before∧bE ro va 5 dL k.after∧bE ro vf 3 pX k.facts
def n7(hd:List cv)(i:Int):Prop:=i= -1∨(0≤i∧∃x,hd[i.toNat]?=some x∧0≤x.cls)
def Br(hd:List cv)(p:ay):Prop:=Od p.name∧n7 hd p.head∧(0≤p.st∧p.st≤1)∧p.bold=false
def ajk(hd:List cv)(p:ay):Prop:=Br hd p∧(p.st=0→p.no=1∨p.no=2)∧(p.st=1→p.no=1∨p.no=3)
def ajl(hd:List cv)(p:ay):Prop:=Br hd p∧1≤p.no∧p.no≤3
def Fq(hd:List cv)(p:ay):Prop:=((1≤p.name.size∧p.name.size≤6)∧Script p.name)∧n7 hd p.head∧(0≤p.st∧p.st≤1)∧p.bold=false
def aoc(S:List (List ah))(hd:List cv)(p:ay):Prop:=Fq hd p∧∃l,S[p.st.toNat]?=some l∧(⟨p.no,0⟩:ah)∈l
def aIo(hd:List cv)(p:ay):Prop:=Fq hd p∧1≤p.no∧p.no≤40
structure YP(cs:List bO)(hd:List cv):Prop where
 nc:0 <cs.length∧cs.length≤6
 nh:hd.length≤6
 AV:∀(i:Nat) (x:cv),hd[i]?=some x→gT cs.length hd.length i x
structure kV(k:aI):Prop where
 pN:fp k.str
 ways:k.ways.length≤1∧∀l∈k.ways,(1≤l.length∧l.length≤2)∧∀c∈l,jI c
 dr:YP k.cs k.hd
 rules:k.rules.length≤4
 before:k.before.length≤4∧∀p∈k.before,aoc k.str k.hd p
 after:k.after.length≤4∧∀p∈k.after,aIo k.hd p
 v9:(0≤k.gone∧k.gone≤4)∧(0≤k.new∧k.new≤4)∧(0≤k.af∧k.af≤4)
 facts:k.facts.length≤4∧(∀x∈k.facts,(0≤x.a∧x.a <k.before.length)∧(0≤x.b∧x.b <k.after.length))
 apart:k.facts.Pairwise fun x y=>¬(x.a=y.a∧x.b=y.b)
structure Se(k:aI):Prop where
 ways:k.ways.length≤1∧∀l∈k.ways,(1≤l.length∧l.length≤2)∧∀c∈l,jI c
 dr:wX k.cs k.hd
 rules:k.rules.length≤2∧∀r∈k.rules,Ik r
 before:k.before.length≤4∧∀p∈k.before,ajk k.hd p
 after:k.after.length≤4∧∀p∈k.after,ajl k.hd p
 v9:(0≤k.gone∧k.gone≤4)∧(0≤k.new∧k.new≤4)∧(0≤k.af∧k.af≤4)
 facts:k.facts.length≤4∧(∀x∈k.facts,(0≤x.a∧x.a <k.before.length)∧(0≤x.b∧x.b <k.after.length))
 apart:k.facts.Pairwise fun x y=>¬(x.a=y.a∧x.b=y.b)
 str:k.str=yN
theorem ZL:fp yN where
 two:=rfl
 len:=by simp[yN]
 ok:=by simp[yN,Bq]
 asc:=by simp[yN,ali]
theorem Br.c{p:ay}(h:Br hd p):Fq hd p:=⟨⟨⟨h.1.1.1,by have:=h.1.1.2;omega⟩,h.1.2⟩,h.2⟩
theorem Se.c{k:aI}(h:Se k):kV k where
 pN:=by rw[h.str];exact ZL
 ways:=h.ways
 dr:=⟨⟨h.dr.nc.1,by have:=h.dr.nc.2;omega⟩,by have:=h.dr.nh;omega,fun i x hx=>(h.dr.AV i x hx).2⟩
 rules:=by have:=h.rules.1;omega
 before:=⟨by have:=h.before.1;omega,fun p hp=>by
  obtain⟨h1,h2,h3⟩:=h.before.2 p hp
  refine⟨h1.c,?_⟩
  rw[h.str]
  have h4:=h1.2.2.1
  rcases(by omega:p.st=0∨p.st=1) with e|e
  ·rw[e];exact⟨_,rfl,by rcases h2 e with e2|e2<;>simp[e2]⟩
  rw[e];exact⟨_,rfl,by rcases h3 e with e2|e2<;>simp[e2]⟩⟩
 after:=⟨by have:=h.after.1;omega,fun p hp=>by
  obtain⟨h1,h2,h3⟩:=h.after.2 p hp
  exact⟨h1.c,h2,by omega⟩⟩
 v9:=h.v9
 facts:=⟨by have:=h.facts.1;omega,h.facts.2⟩
 apart:=h.apart
theorem xv{hv:List bw}(h:dg dq hv hd){i:Int}(k:i= -1∨VU hv i):n7 hd i:=by
 rcases k with k| ⟨k0,x,k1,k2⟩
 ·exact .inl k
 obtain⟨y,h1,h2⟩:=h.get k1
 exact .inr ⟨k0,y,h1,h2.2.1▸k2⟩
theorem S4{ro:Nat→Option Obj}{c e:Nat}(h1:ro b=some (.cells ⟨[zI 1,zI 0,zI 2,zI 0]⟩ 73 (0,0)))(h2:ro c=some (.cells ⟨[zI 1,zI 0,zI 3,zI 0]⟩ 73 (0,0)))
 (h3:ro e=some (.cells ⟨[.slice (some ⟨b,0,none⟩) 2 2,.slice (some ⟨c,0,none⟩) 2 2]⟩ 74 (0,0))):cW ro (.slice (some ⟨e,0,none⟩) 2 2) yN:=
 ⟨_,bR [_,_] h3 (fun _ _=>rfl),.cons (bR [(⟨1,0⟩:ah),⟨2,0⟩] h1 (fun _ _=>rfl)) (.cons (bR [(⟨1,0⟩:ah),⟨3,0⟩] h2 (fun _ _=>rfl)) .nil)⟩
def Bs(nb na:Nat)(fs:List cU):Prop:=(∀x∈fs,(0≤x.a∧x.a <nb)∧(0≤x.b∧x.b <na))∧fs.Pairwise fun x y=>¬(x.a=y.a∧x.b=y.b)
theorem Bs.snoc{nb na:Nat}(h:Bs nb na fs){x:cU}(ha:0≤x.a∧x.a <nb)(hb:0≤x.b∧x.b <na)(hn:Ds fs x.a x.b=false):Bs nb na (fs++[x]):=by
 refine⟨qN h.1 ⟨ha,hb⟩,List.pairwise_append.2 ⟨h.2,List.pairwise_singleton _ _,fun y hy z hz e=>?_⟩⟩
 rw[List.mem_singleton] at hz;subst hz
 have:=List.any_eq_false.1 hn y hy
 simp[e.1,e.2] at this
theorem as4{w u:Int}(h:w∈[1,2,4,u])(hu:0≤u∧u≤4):0≤w∧w≤4:=by
 simp only[List.mem_cons,List.not_mem_nil,or_false] at h
 omega
theorem S7{ro:Nat→Option Obj}:n5 ro (zS) []:=⟨[],bE.nil _ _ _ _ _,.nil⟩
set_option maxHeartbeats 2000000 in
theorem aVB {np nf:Int} {ro:Nat→Option Obj} (hN:Dn ro vd xs) (hD:bL vd xs d X) (hnp:0≤np∧np≤4) (hnf:0≤nf∧nf≤4):FnG zT 8 [zP d,zI np,zI nf] ro X (fun r aC Y=>∃(K:aI) (l:List Value),r= .agg ⟨l⟩∧Se K∧(K.facts.length:Int)≤nf∧fP aC l K∧bL vd xs d Y):=by
 refine aBS (hm:=au) [.l X] [] ba<|zD 2<|jn fun b6=>zD 4<|jc [1] (anJ hN hD) ?_
 rintro _ _ ⟨kU,j5,UF,Y1,bbX,Z18,X18,rfl,Hl,Cz,aTR,rfl,Ny⟩
 refine jg 0 [.l Z18,.l X18]<|jf [0] Z18 (fun yH bY iU=>?_)
 have p9:=aTR _ iU
 obtain⟨hc,hh,de⟩:=id p9
 obtain⟨eI,Ax,Aw,eB,rfl,Dy,yJ,yI⟩:=hc
 obtain⟨dO,u3,u2,dv,rfl,xg,qV,qU⟩:=hh
 refine zD 2<|jn fun b21=>zD 2<|jn fun mz=>jn fun ee=>zD 3<|jn fun b7=>jd 5 [0]<|jf [1,2,3] ((ee,.cells ⟨[.slice (some ⟨b21,0,none⟩) 2 2,.slice (some ⟨mz,0,none⟩) 2 2]⟩ 74 (0,0))::((mz,.cells ⟨[zI 1,zI 0,zI 3,zI 0]⟩ 73 (0,0))::[(b21,.cells ⟨[zI 1,zI 0,zI 2,zI 0]⟩ 73 (0,0))])) (fun ro6 kF XQ=>?_)
 have aTS:=S4 (XQ _ (.tail _ (.tail _ (.head _)))) (XQ _ (.tail _ (.head _))) (XQ _ (.head _))
 refine zD 1<|jc (vs:=[zP d,zI 2]) [1] (tA (hN.up (bY.trans kF)) Ny (by omega)) ?_
 rintro _ X30 ⟨w30,rfl,aGz⟩
 refine zD 1<|Iu [1,1,1] [] (fun(zz:Value×Cells×(List (List aN))×Cells)=>[(0,zP d),(1,zI np),(2,zI nf),(6,zP b6),(7,zP b7)]) (fun(zz:Value×Cells×(List (List aN))×Cells)=>[.l zz.2.1,.l zz.2.2.2,.b b7 (.cells ⟨[.slice (some ⟨ee,0,none⟩) 2 2,zz.1,zS,.slice eI kU.length eB,.slice dO j5.length dv,zS,zS,zS,zI 0,zI 0,zI 0,zS]⟩ 40 (0,0)),.b b6 (.cells ⟨zO⟩ 40 (0,0))]) (fun(zz:Value×Cells×(List (List aN))×Cells)=>(∀mg,Knows mg zz.2.1→n5 mg zz.1 zz.2.2.1)∧(zz.2.2.1.length≤1∧∀l∈zz.2.2.1,(1≤l.length∧l.length≤2)∧∀c∈l,jI c)∧bL vd xs d zz.2.2.2) ?_ (fun K1 bK=>?_)
 ·
  rintro⟨vT,LT,ways,X⟩ SD rest
  dsimp only at SD
  refine zD 2<|jf [0] LT (fun ro9 sa hk8=>?_)
  have aEi:=SD.1 _ hk8
  obtain⟨SM,ht,_⟩:=id aEi
  obtain⟨fg,Av,As,eo,rfl,Au,su,sr⟩:=ht
  refine zD 1<|jc (vs:=[zP d,zI 2]) [0] (awH (hN.up ((bY.trans kF).trans sa)) SD.2.2 (by decide)) ?_
  rintro v60 _ ⟨MH,L60,X60,Nk,bfq,afJ,rfl,aUM⟩
  refine jg 0 [.l L60,.l X60]<|zD 8<|oH<|dW [1,1,1,1,0,1,0,0] [] (fun(zz:Nat×Value×Cells×(List cQ))=>[(0,zP d),(1,zI np),(2,zI nf),(6,zP b6),(7,zP b7),(8,v60),(9,zI (zz.1:Int))]) (fun(zz:Nat×Value×Cells×(List cQ))=>[.l zz.2.2.1,.l X60,.b b7 (.cells ⟨[.slice (some ⟨ee,0,none⟩) 2 2,.slice fg SM.length eo,zS,.slice eI kU.length eB,.slice dO j5.length dv,zz.2.1,zS,zS,zI 0,zI 0,zI 0,zS]⟩ 40 (0,0)),.l L60,.b b6 (.cells ⟨zO⟩ 40 (0,0))]) (fun(zz:Nat×Value×Cells×(List cQ))=>(zz.1≤MH.length∧zz.2.2.2.length≤zz.1)∧az zz.2.1 2 84 iP zz.2.2.2 zz.2.2.1∧∀r∈zz.2.2.2,Ik r) (fun(zz:Nat×Value×Cells×(List cQ))=>MH.length-zz.1) (⟨0,zS,[],[]⟩) ⟨by simp,az.nil _ _ _,(fun _ h=>by cases h)⟩ [0,2,3,1,4] ?_
  rintro⟨i,vR,LR,rs⟩ hR K2 mr rest
  dsimp only at hR
  refine zD 5<|Co Nk<|zD 2<|zJ 64 ((i:Int) <(MH.length:Int)) (fun OA=>?_) fun OA=>?_
  ·
   refine zD 8 ?_
   obtain⟨SK,aam⟩:=zG MH i
   refine T5 2 Nk aam fun b69 avG=>zD 1<|nS 0 [3] L60 (fun s _ hZ=>cm Nk avG hZ aam)<|zD 2 ?_
   obtain⟨x74,aB7⟩:=zG MH i
   refine T5 2 Nk aB7 fun b74 aTk=>zD 1<|nS 1 [3] L60 (fun s _ hZ=>cm Nk aTk hZ aB7)<|zD 2<|js 77 (!(cS SK.f x74.t)) (fun h11=>?_) (fun h11=>?_)
   ·
    try simp only[zB] at h11
    refine jd 6 [2] ?_
    obtain⟨EY,Ud⟩:=zG MH i
    refine T5 2 Nk Ud fun b82 aTh=>nS 0 [3] L60 (fun s _ hZ=>cm Nk aTh hZ Ud)<|aL 6 fun sB sJ q5=>jn fun b84=>bB q5 [1,2,3,4,5]<|aL 7 fun sA sI qZ=>jq (sz:=2) (ps:=rs) (qs:=[(⟨EY.f,EY.t⟩:cQ)]) (enc:=iP) (w:= .slice (some ⟨b84,0,none⟩) 1 1) [1] [0] [(b84,.cells ⟨([(⟨EY.f,EY.t⟩:cQ)].map iP).flatten⟩ 84 (0,0))] (hR.2.1) (fun s _ hZ=>bX [(⟨EY.f,EY.t⟩:cQ)] (hZ _ (.head _)) (by intro p hp;rfl)) (fun p _=>aj rfl) (by simp<;>omega) (fun v85 L85 afQ=>?_)
    obtain⟨aMj,aLY,aSE⟩:=afQ.form
    subst aSE
    refine iu qZ []<|zD 1<|aL 9 fun BG BM CC=>jd 1 [3]<|dZ CC<|zD 3<|ja ((i:Int)+1) (by omega)<|zD 2<|bJ mr (⟨i+1,(.slice aMj ((rs++[(⟨EY.f,EY.t⟩:cQ)])).length aLY),L85,(rs++[(⟨EY.f,EY.t⟩:cQ)])⟩) ⟨by simp only[List.length_append,List.length_cons,List.length_nil];omega,afQ,qN hR.2.2 (afJ _ (List.mem_of_getElem? Ud))⟩ (by omega) [0,2,3,4,5] (Sub.refl _)
   try simp only[zB] at h11
   refine zD 4<|ja ((i:Int)+1) (by omega)<|zD 2<|bJ mr (⟨i+1,vR,LR,rs⟩) ⟨by dsimp only;omega,hR.2⟩ (by omega) [0,1,2,3,4] (Sub.refl _)
  refine zD 4<|jf [0] LR (fun bcA iW aSf=>?_)
  have hRU:=hR.2.1.kZ aSf
  refine jd 3 [1]<|jn fun mb=>jd 7 [0]<|jc (vs:=[zP d,zI np]) [1] (EM (hN.up (((bY.trans kF).trans sa).trans iW)) aUM (by omega)) ?_
  rintro _ X92 ⟨w92,rfl,bev,beo,aUH⟩
  refine zD 3<|oH<|dW [1,1,1,1,1,1,0,1,0,0] [] (fun(zz:Int×Value×Cells×(List ay)×Cells)=>[(0,zP d),(1,zI np),(2,zI nf),(6,zP b6),(7,zP b7),(10,zP mb),(11,zI zz.1)]) (fun(zz:Int×Value×Cells×(List ay)×Cells)=>[.l zz.2.2.1,.l zz.2.2.2.2,.b mb (.cells ⟨[zI 2,zI 0,zI 0,.slice eI kU.length eB,.slice dO j5.length dv,zS,zS]⟩ 86 (0,0)),.b b7 (.cells ⟨[.slice (some ⟨ee,0,none⟩) 2 2,.slice fg SM.length eo,zS,.slice eI kU.length eB,.slice dO j5.length dv,vR,zz.2.1,zS,zI 0,zI 0,zI 0,zS]⟩ 40 (0,0)),.b b6 (.cells ⟨zO⟩ 40 (0,0))]) (fun(zz:Int×Value×Cells×(List ay)×Cells)=>(0≤zz.1∧zz.2.2.2.1.length+zz.1≤4)∧az zz.2.1 5 44 dL zz.2.2.2.1 zz.2.2.1∧(∀p∈zz.2.2.2.1,ajk UF p)∧bL vd xs d zz.2.2.2.2) (fun(zz:Int×Value×Cells×(List ay)×Cells)=>zz.1.toNat) (⟨w92,zS,[],[],X92⟩) ⟨by simp only[List.length_nil];omega,az.nil _ _ _,(fun _ h=>by cases h),aUH⟩ [0,1,2,3,5] ?_
  rintro⟨j,vB,LB,uW,X⟩ hB K6 hK6 rest
  dsimp only at hB
  refine zD 6<|zJ 94 (j>0) (fun h18=>?_) fun h18=>?_
  ·
   refine zD 5<|Iu [1,1,1,1,1,1,0,1,0,0,1,0,0,1] [K6] (fun(zz:Nat×ay×Cells)=>[(0,zP d),(1,zI np),(2,zI nf),(6,zP b6),(7,zP b7),(10,zP mb),(11,zI j),(12,zP zz.1)]) (fun(zz:Nat×ay×Cells)=>[.b zz.1 (.cells ⟨[.string zz.2.1.name,zI zz.2.1.st,zI zz.2.1.no,zI zz.2.1.head,.bool zz.2.1.bold]⟩ 44 (0,0)),.l LB,.l zz.2.2,.b mb (.cells ⟨[zI 2,zI 0,zI 0,.slice eI kU.length eB,.slice dO j5.length dv,zS,zS]⟩ 86 (0,0)),.b b7 (.cells ⟨[.slice (some ⟨ee,0,none⟩) 2 2,.slice fg SM.length eo,zS,.slice eI kU.length eB,.slice dO j5.length dv,vR,vB,zS,zI 0,zI 0,zI 0,zS]⟩ 40 (0,0)),.b b6 (.cells ⟨zO⟩ 40 (0,0))]) (fun(zz:Nat×ay×Cells)=>(Od zz.2.1.name∧n7 UF zz.2.1.head∧(0≤zz.2.1.st∧zz.2.1.st≤1))∧bL vd xs d zz.2.2) ?_ (fun K7 hK7=>?_)
   ·
    rintro⟨jQ,pp,X⟩ ahj rest
    dsimp only at ahj
    refine zD 3<|jc (vs:=[zP d,zI 1,zI 2]) [2] (A9 (hN.up (((bY.trans kF).trans sa).trans iW)) ahj.2 (by omega) (by omega)) ?_
    rintro _ aWo ⟨aLV,rfl,aY4,aYU,aqc⟩
    refine jd 10 [1,1]<|Iu [1,1,1,1,1,1,0,1,0,0,1,0,0,1,1,1] [K6] (fun(zz:Int×Cells)=>[(0,zP d),(1,zI np),(2,zI nf),(6,zP b6),(7,zP b7),(10,zP mb),(11,zI j),(12,zP jQ)]) (fun(zz:Int×Cells)=>[.b jQ (.cells ⟨[.string pp.name,zI pp.st,zI zz.1,zI pp.head,.bool pp.bold]⟩ 44 (0,0)),.l LB,.l zz.2,.b mb (.cells ⟨[zI 2,zI 0,zI 0,.slice eI kU.length eB,.slice dO j5.length dv,zS,zS]⟩ 86 (0,0)),.b b7 (.cells ⟨[.slice (some ⟨ee,0,none⟩) 2 2,.slice fg SM.length eo,zS,.slice eI kU.length eB,.slice dO j5.length dv,vR,vB,zS,zI 0,zI 0,zI 0,zS]⟩ 40 (0,0)),.b b6 (.cells ⟨zO⟩ 40 (0,0))]) (fun(zz:Int×Cells)=>((pp.st=0→zz.1=1∨zz.1=2)∧(pp.st=1→zz.1=1∨zz.1=3))∧bL vd xs d zz.2) ?_ (fun K8 hK8=>?_)
    ·
     rintro⟨q,X⟩ anj rest
     dsimp only at anj
     refine jd 7 [0]<|Iu [1,1,1,1,1,1,0,1,0,0,1,0,0,1,1,1,1,0,1] [K6] (fun(zz:Bool×Cells)=>[(0,zP d),(1,zI np),(2,zI nf),(6,zP b6),(7,zP b7),(10,zP mb),(11,zI j),(12,zP jQ),(120,.bool zz.1)]) (fun(zz:Bool×Cells)=>[.b jQ (.cells ⟨[.string pp.name,zI pp.st,zI q,zI pp.head,.bool false]⟩ 44 (0,0)),.l LB,.l zz.2,.b mb (.cells ⟨[zI 2,zI 0,zI 0,.slice eI kU.length eB,.slice dO j5.length dv,zS,zS]⟩ 86 (0,0)),.b b7 (.cells ⟨[.slice (some ⟨ee,0,none⟩) 2 2,.slice fg SM.length eo,zS,.slice eI kU.length eB,.slice dO j5.length dv,vR,vB,zS,zI 0,zI 0,zI 0,zS]⟩ 40 (0,0)),.b b6 (.cells ⟨zO⟩ 40 (0,0))]) (fun(zz:Bool×Cells)=>(zz.1=true→0 <uW.length)∧bL vd xs d zz.2) ?_ (fun K9 hK9=>?_)
     ·
      rintro⟨g,X⟩ ahi rest
      dsimp only at ahi
      refine Iu [1,1,1,1,1,1,0,1,0,0,1,0,0,1,1,1,1,1] [K6] (fun(zz:ay×Cells)=>[(0,zP d),(1,zI np),(2,zI nf),(6,zP b6),(7,zP b7),(10,zP mb),(11,zI j),(12,zP jQ)]) (fun(zz:ay×Cells)=>[.b jQ (.cells ⟨[.string zz.1.name,zI zz.1.st,zI zz.1.no,zI zz.1.head,.bool zz.1.bold]⟩ 44 (0,0)),.l LB,.l zz.2,.b mb (.cells ⟨[zI 2,zI 0,zI 0,.slice eI kU.length eB,.slice dO j5.length dv,zS,zS]⟩ 86 (0,0)),.b b7 (.cells ⟨[.slice (some ⟨ee,0,none⟩) 2 2,.slice fg SM.length eo,zS,.slice eI kU.length eB,.slice dO j5.length dv,vR,vB,zS,zI 0,zI 0,zI 0,zS]⟩ 40 (0,0)),.b b6 (.cells ⟨zO⟩ 40 (0,0))]) (fun(zz:ay×Cells)=>ajk UF zz.1∧bL vd xs d zz.2) ?_ (fun K10 aGv=>?_)
      ·
       rintro⟨p2,X⟩ av9 rest
       dsimp only at av9
       refine jd 4 [4,0]<|jn fun aH0=>jq (sz:=5) (ps:=uW) (qs:=[(⟨p2.name,p2.st,p2.no,p2.head,p2.bold⟩:ay)]) (enc:=dL) (w:= .slice (some ⟨aH0,0,none⟩) 1 1) [2] [0] [(aH0,.cells ⟨([(⟨p2.name,p2.st,p2.no,p2.head,p2.bold⟩:ay)].map dL).flatten⟩ 44 (0,0))] (hB.2.1) (fun s _ hZ=>bX [(⟨p2.name,p2.st,p2.no,p2.head,p2.bold⟩:ay)] (hZ _ (.head _)) (by intro p hp;rfl)) (fun p _=>aj rfl) (by simp<;>omega) (fun bcc aWH XI=>?_)
       obtain⟨ay1,ayU,aDJ⟩:=XI.form
       subst aDJ
       refine jd 5 [5]<|ja (j-1) (by omega)<|zD 2<|bJ hK6 (⟨j-1,(.slice ay1 ((uW++[(⟨p2.name,p2.st,p2.no,p2.head,p2.bold⟩:ay)])).length ayU),aWH,(uW++[(⟨p2.name,p2.st,p2.no,p2.head,p2.bold⟩:ay)]),X⟩) ⟨by simp only[List.length_append,List.length_cons,List.length_nil];omega,XI,qN hB.2.2.1 av9.1,av9.2⟩ (by omega) [0,3,4,5,6] (Sub.refl _)
      refine js 120 g (fun Yc=>?_) (fun Yc=>?_)
      ·
       subst Yc
       refine jd 7 [4,4]<|Co hB.2.1<|ja ((uW.length:Int)-1) (by omega)<|aL 7 fun JF JL CG=>jc (vs:=[zP d,zI ((uW.length:Int)-1)]) [2] (EM (hN.up (((bY.trans kF).trans sa).trans iW)) ahi.2 (by omega)) ?_
       rintro _ aWl ⟨ach,rfl,aY3,afw,aGN⟩
       refine iu CG [[4],[4]] ?_
       obtain⟨aLE,afv⟩:=zG uW (ach.toNat) (by have:=ahi.1 rfl;omega)
       refine pP ach 5 hB.2.1 afv (Int.toNat_of_nonneg (show 0≤ach∧ach <((uW).length:Int) from (by have:=ahi.1 rfl;omega)).1).symm (fun bgX aD6=>?_)
       refine nS 0 [2] LB (fun s _ hZ=>cm hB.2.1 aD6 hZ afv)<|aL 10 fun OH O3 CE=>jd 1 [1]<|dZ CE<|zD 1<|bJ aGv ⟨aLE,aWl⟩ ⟨hB.2.2.1 _ (List.mem_of_getElem? afv),aGN⟩ Nat.zero_lt_one [1,2,0,3,4,5] (Sub.refl _)
      subst Yc
      refine zD 2<|bJ aGv ⟨⟨pp.name,pp.st,q,pp.head,false⟩,X⟩ ⟨⟨⟨ahj.1.1,ahj.1.2.1,ahj.1.2.2,rfl⟩,anj.1⟩,ahi.2⟩ Nat.zero_lt_one [0,1,2,3,4,5] (Sub.refl _)
     refine jd 3 [4]<|Co hB.2.1<|zD 2<|js 117 (decide ((uW.length:Int)>0)) (fun DT=>?_) (fun DT=>?_)
     ·
      have ahE:=DT
      replace ahE:=of_decide_eq_true ahE
      refine zD 1<|jc (vs:=[zP d,zI 5]) [2] (tA (hN.up (((bY.trans kF).trans sa).trans iW)) anj.2 (by omega)) ?_
      rintro _ aWm ⟨aLS,rfl,aGO⟩
      refine zD 2<|bJ hK9 ⟨aLS,aWm⟩ ⟨fun _=>by omega,aGO⟩ Nat.zero_lt_one [1,2,0,3,4,5] (Sub.refl _)
     have ahE:=DT
     replace ahE:=of_decide_eq_false ahE
     refine zD 4<|bJ hK9 ⟨false,X⟩ ⟨(fun h=>by cases h),anj.2⟩ Nat.zero_lt_one [0,1,2,3,4,5] (Sub.refl _)
    refine zJ 107 (pp.st=1) (fun Fj=>?_) fun Fj=>?_
    ·
     refine zD 3<|jn fun aH2=>jcL (vs:=[zP d,.slice (some ⟨aH2,0,none⟩) 2 2]) [1] [0] [(aH2,.cells ⟨([1,3].map cA).flatten⟩ 3 (0,0))] (fun aC hs hZ=>aiC ((hN.up (((bY.trans kF).trans sa).trans iW)).up hs) aqc (bR [1,3] hZ.head (by intro p hp;rfl)) (by simp)) ?_
     rintro _ aWn ⟨aLT,rfl,aCe,aGP⟩
     refine jd 3 [2]<|bJ hK8 ⟨aLT,aWn⟩ ⟨⟨(fun h=>by omega),(fun _=>by simpa using aCe)⟩,aGP⟩ Nat.zero_lt_one [2,3,0,4,5,6] (Sub.refl _)
    refine zD 2<|bJ hK8 ⟨aLV,aWo⟩ ⟨⟨(fun _=>by dsimp only;omega),(fun h=>by omega)⟩,aqc⟩ Nat.zero_lt_one [1,2,0,3,4,5] (Sub.refl _)
   refine jd 4 [2]<|nj [3,5] ⟨fun z13 t14 av3=>?_,fun z16 t17 ahf=>?_,trivial⟩
   ·
    refine jc [1] (Yp (hN.up (((bY.trans kF).trans sa).trans iW)) hB.2.2.2) ?_
    rintro _ aWp ⟨akz,rfl,Xz,Yb⟩
    refine iu av3 [[2]]<|nj [4,5] ⟨fun z19 t20 aaJ=>?_,fun z22 t23 av2=>?_,trivial⟩
    ·
     refine jc (vs:=[zP d,.agg ⟨[zI 2,zI 0,zI 0,.slice eI kU.length eB,.slice dO j5.length dv,zS,zS]⟩,.string akz]) [0] (xB (hN.up (((bY.trans kF).trans sa).trans iW)) Yb ((((show bE _ _ _ _ _ from ⟨dO,u3,u2,dv,rfl,xg,qV,qU⟩).up kF).up sa).up iW) (by have:=Cz.len;have:=Hl.nh;omega)) ?_
     rintro _ ajg ⟨ayQ,rfl,QN,QE,QW,Re⟩
     refine dZ aaJ<|aL 5 fun ayv azt UX=>jn fun jQ=>dZ UX<|aL 6 fun aot aoP Js=>jd 1 [0]<|dZ Js<|zD 1<|bJ hK7 ⟨jQ,_,ajg⟩ ⟨⟨QN▸Xz,xv Cz QW,QE⟩,Re⟩ Nat.zero_lt_one [0,2,1,3,4,5] (Sub.refl _)
    refine jn fun jQ=>bB av2 [1,2,3,4,5]<|aL 4 fun VY V9 Nt=>jc (vs:=[zP d,.agg ⟨[zI 2,zI 0,zI 0,.slice eI kU.length eB,.slice dO j5.length dv,zS,zS]⟩,.string akz]) [1] (xB (hN.up (((bY.trans kF).trans sa).trans iW)) Yb ((((show bE _ _ _ _ _ from ⟨dO,u3,u2,dv,rfl,xg,qV,qU⟩).up kF).up sa).up iW) (by have:=Cz.len;have:=Hl.nh;omega)) ?_
    rintro _ ajg ⟨ayQ,rfl,QN,QE,QW,Re⟩
    refine dZ Nt<|aL 6 fun VX V8 Hn=>jd 1 [1]<|dZ Hn<|zD 1<|bJ hK7 ⟨jQ,_,ajg⟩ ⟨⟨QN▸Xz,xv Cz QW,QE⟩,Re⟩ Nat.zero_lt_one [1,2,0,3,4,5] (Sub.refl _)
   refine jn fun jQ=>bB ahf [1,2,3,4,5]<|aL 3 fun OG O2 Hm=>jc [2] (Yp (hN.up (((bY.trans kF).trans sa).trans iW)) hB.2.2.2) ?_
   rintro _ aWp ⟨akz,rfl,Xz,Yb⟩
   refine iu Hm [[3]]<|aL 4 fun VW V7 Ns=>jc (vs:=[zP d,.agg ⟨[zI 2,zI 0,zI 0,.slice eI kU.length eB,.slice dO j5.length dv,zS,zS]⟩,.string akz]) [0] (xB (hN.up (((bY.trans kF).trans sa).trans iW)) Yb ((((show bE _ _ _ _ _ from ⟨dO,u3,u2,dv,rfl,xg,qV,qU⟩).up kF).up sa).up iW) (by have:=Cz.len;have:=Hl.nh;omega)) ?_
   rintro _ ajg ⟨ayQ,rfl,QN,QE,QW,Re⟩
   refine dZ Ns<|aL 6 fun ab0 acJ Ra=>jd 1 [1]<|dZ Ra<|zD 1<|bJ hK7 ⟨jQ,_,ajg⟩ ⟨⟨QN▸Xz,xv Cz QW,QE⟩,Re⟩ Nat.zero_lt_one [1,2,0,3,4,5] (Sub.refl _)
  refine zD 7<|jc (vs:=[zP d,zI np]) [1] (EM (hN.up (((bY.trans kF).trans sa).trans iW)) hB.2.2.2 (by omega)) ?_
  rintro _ aWk ⟨aLQ,rfl,aY2,aYT,aGM⟩
  refine zD 3<|oH<|dW [1,1,1,1,1,1,1,0,1,0,0] [] (fun(zz:Int×Value×Cells×(List ay)×Cells)=>[(0,zP d),(2,zI nf),(6,zP b6),(7,zP b7),(10,zP mb),(13,zI zz.1)]) (fun(zz:Int×Value×Cells×(List ay)×Cells)=>[.l zz.2.2.1,.l zz.2.2.2.2,.l LB,.b mb (.cells ⟨[zI 2,zI 0,zI 0,.slice eI kU.length eB,.slice dO j5.length dv,zS,zS]⟩ 86 (0,0)),.b b7 (.cells ⟨[.slice (some ⟨ee,0,none⟩) 2 2,.slice fg SM.length eo,zS,.slice eI kU.length eB,.slice dO j5.length dv,vR,vB,zz.2.1,zI 0,zI 0,zI 0,zS]⟩ 40 (0,0)),.b b6 (.cells ⟨zO⟩ 40 (0,0))]) (fun(zz:Int×Value×Cells×(List ay)×Cells)=>(0≤zz.1∧zz.2.2.2.1.length+zz.1≤4)∧az zz.2.1 5 44 dL zz.2.2.2.1 zz.2.2.1∧(∀p∈zz.2.2.2.1,ajl UF p)∧bL vd xs d zz.2.2.2.2) (fun(zz:Int×Value×Cells×(List ay)×Cells)=>zz.1.toNat) (⟨aLQ,zS,[],[],aWk⟩) ⟨by simp only[List.length_nil];omega,az.nil _ _ _,(fun _ h=>by cases h),aGM⟩ [0,1,2,3,4,5] ?_
  rintro⟨j,vA,LA,LJ,X⟩ hA K32 aUy rest
  dsimp only at hA
  refine zD 6<|zJ 141 (j>0) (fun h35=>?_) fun h35=>?_
  ·
   refine zD 5<|Iu [1,1,1,1,1,1,1,0,1,0,0,1,0,0,1] [K32] (fun(zz:Nat×ay×Cells)=>[(0,zP d),(2,zI nf),(6,zP b6),(7,zP b7),(10,zP mb),(13,zI j),(14,zP zz.1)]) (fun(zz:Nat×ay×Cells)=>[.b zz.1 (.cells ⟨[.string zz.2.1.name,zI zz.2.1.st,zI zz.2.1.no,zI zz.2.1.head,.bool zz.2.1.bold]⟩ 44 (0,0)),.l LA,.l zz.2.2,.l LB,.b mb (.cells ⟨[zI 2,zI 0,zI 0,.slice eI kU.length eB,.slice dO j5.length dv,zS,zS]⟩ 86 (0,0)),.b b7 (.cells ⟨[.slice (some ⟨ee,0,none⟩) 2 2,.slice fg SM.length eo,zS,.slice eI kU.length eB,.slice dO j5.length dv,vR,vB,vA,zI 0,zI 0,zI 0,zS]⟩ 40 (0,0)),.b b6 (.cells ⟨zO⟩ 40 (0,0))]) (fun(zz:Nat×ay×Cells)=>(Od zz.2.1.name∧n7 UF zz.2.1.head∧(0≤zz.2.1.st∧zz.2.1.st≤1))∧bL vd xs d zz.2.2) ?_ (fun K33 av7=>?_)
   ·
    rintro⟨YJ,pp,X⟩ ahh rest
    dsimp only at ahh
    refine zD 3<|jc (vs:=[zP d,zI 1,zI 3]) [2] (A9 (hN.up (((bY.trans kF).trans sa).trans iW)) ahh.2 (by omega) (by omega)) ?_
    rintro _ aWi ⟨ayO,rfl,aY1,aYS,ap9⟩
    refine jd 7 [1,1]<|Iu [1,1,1,1,1,1,1,0,1,0,0,1,0,0,1,1,0,1] [K32] (fun(zz:Bool×Cells)=>[(0,zP d),(2,zI nf),(6,zP b6),(7,zP b7),(10,zP mb),(13,zI j),(14,zP YJ),(161,.bool zz.1)]) (fun(zz:Bool×Cells)=>[.b YJ (.cells ⟨[.string pp.name,zI pp.st,zI ayO,zI pp.head,.bool false]⟩ 44 (0,0)),.l LA,.l zz.2,.l LB,.b mb (.cells ⟨[zI 2,zI 0,zI 0,.slice eI kU.length eB,.slice dO j5.length dv,zS,zS]⟩ 86 (0,0)),.b b7 (.cells ⟨[.slice (some ⟨ee,0,none⟩) 2 2,.slice fg SM.length eo,zS,.slice eI kU.length eB,.slice dO j5.length dv,vR,vB,vA,zI 0,zI 0,zI 0,zS]⟩ 40 (0,0)),.b b6 (.cells ⟨zO⟩ 40 (0,0))]) (fun(zz:Bool×Cells)=>(zz.1=true→0 <uW.length)∧bL vd xs d zz.2) ?_ (fun K34 aGq=>?_)
    ·
     rintro⟨g,X⟩ ahg rest
     dsimp only at ahg
     refine Iu [1,1,1,1,1,1,1,0,1,0,0,1,0,0,1,1,1] [K32] (fun(zz:ay×Cells)=>[(0,zP d),(2,zI nf),(6,zP b6),(7,zP b7),(10,zP mb),(13,zI j),(14,zP YJ)]) (fun(zz:ay×Cells)=>[.b YJ (.cells ⟨[.string zz.1.name,zI zz.1.st,zI zz.1.no,zI zz.1.head,.bool zz.1.bold]⟩ 44 (0,0)),.l LA,.l zz.2,.l LB,.b mb (.cells ⟨[zI 2,zI 0,zI 0,.slice eI kU.length eB,.slice dO j5.length dv,zS,zS]⟩ 86 (0,0)),.b b7 (.cells ⟨[.slice (some ⟨ee,0,none⟩) 2 2,.slice fg SM.length eo,zS,.slice eI kU.length eB,.slice dO j5.length dv,vR,vB,vA,zI 0,zI 0,zI 0,zS]⟩ 40 (0,0)),.b b6 (.cells ⟨zO⟩ 40 (0,0))]) (fun(zz:ay×Cells)=>ajl UF zz.1∧bL vd xs d zz.2) ?_ (fun K35 av6=>?_)
     ·
      rintro⟨p2,X⟩ av8 rest
      dsimp only at av8
      refine jd 4 [5,0]<|jn fun aHY=>jq (sz:=5) (ps:=LJ) (qs:=[(⟨p2.name,p2.st,p2.no,p2.head,p2.bold⟩:ay)]) (enc:=dL) (w:= .slice (some ⟨aHY,0,none⟩) 1 1) [2] [0] [(aHY,.cells ⟨([(⟨p2.name,p2.st,p2.no,p2.head,p2.bold⟩:ay)].map dL).flatten⟩ 44 (0,0))] (hA.2.1) (fun s _ hZ=>bX [(⟨p2.name,p2.st,p2.no,p2.head,p2.bold⟩:ay)] (hZ _ (.head _)) (by intro p hp;rfl)) (fun p _=>aj rfl) (by simp<;>omega) (fun bcb aWG XH=>?_)
      obtain⟨ay0,ayT,aDI⟩:=XH.form
      subst aDI
      refine jd 5 [6]<|ja (j-1) (by omega)<|zD 2<|bJ aUy (⟨j-1,(.slice ay0 ((LJ++[(⟨p2.name,p2.st,p2.no,p2.head,p2.bold⟩:ay)])).length ayT),aWG,(LJ++[(⟨p2.name,p2.st,p2.no,p2.head,p2.bold⟩:ay)]),X⟩) ⟨by simp only[List.length_append,List.length_cons,List.length_nil];omega,XH,qN hA.2.2.1 av8.1,av8.2⟩ (by omega) [0,3,4,5,6,7] (Sub.refl _)
     refine js 161 g (fun h36=>?_) (fun h36=>?_)
     ·
      subst h36
      refine jd 8 [5,5]<|Co hB.2.1<|ja ((uW.length:Int)-1) (by omega)<|aL 7 fun aor aoN Nr=>jc (vs:=[zP d,zI ((uW.length:Int)-1)]) [2] (EM (hN.up (((bY.trans kF).trans sa).trans iW)) ahg.2 (by omega)) ?_
      rintro _ bhB ⟨acg,rfl,aY0,aYR,aGK⟩
      refine iu Nr [[5],[5]] ?_
      obtain⟨Ec,Qy⟩:=zG uW (acg.toNat) (by have:=ahg.1 rfl;omega)
      refine pP acg 5 hB.2.1 Qy (Int.toNat_of_nonneg (show 0≤acg∧acg <((uW).length:Int) from (by have:=ahg.1 rfl;omega)).1).symm (fun bgU aD3=>?_)
      refine nS 0 [3] LB (fun s _ hZ=>cm hB.2.1 aD3 hZ Qy)<|aL 10 fun abZ acI UW=>jd 1 [1]<|dZ UW<|zD 5<|jc (vs:=[zP d,zI 3]) [0] (tA (hN.up (((bY.trans kF).trans sa).trans iW)) aGK (by omega)) ?_
      rintro _ aWf ⟨aLN,rfl,ap8⟩
      refine zD 1<|Iu [1,1,1,1,1,1,1,0,1,0,0,1,0,0,1,1,2,1,0,1,1] [K32,K35] (fun(zz:Int×Cells)=>[(0,zP d),(2,zI nf),(6,zP b6),(7,zP b7),(10,zP mb),(13,zI j),(14,zP YJ)]) (fun(zz:Int×Cells)=>[.b YJ (.cells ⟨[.string Ec.name,zI Ec.st,zI zz.1,zI Ec.head,.bool Ec.bold]⟩ 44 (0,0)),.l LA,.l zz.2,.l LB,.b mb (.cells ⟨[zI 2,zI 0,zI 0,.slice eI kU.length eB,.slice dO j5.length dv,zS,zS]⟩ 86 (0,0)),.b b7 (.cells ⟨[.slice (some ⟨ee,0,none⟩) 2 2,.slice fg SM.length eo,zS,.slice eI kU.length eB,.slice dO j5.length dv,vR,vB,vA,zI 0,zI 0,zI 0,zS]⟩ 40 (0,0)),.b b6 (.cells ⟨zO⟩ 40 (0,0))]) (fun(zz:Int×Cells)=>(1≤zz.1∧zz.1≤3)∧bL vd xs d zz.2) ?_ (fun K38 aGp=>?_)
      ·
       rintro⟨q,X⟩ ani rest
       dsimp only at ani
       have hO:=hB.2.2.1 _ (List.mem_of_getElem? Qy)
       have hO2:=hO.1.2.2.1
       have hO3:=hO.2
       refine zD 3<|jc (vs:=[zP d,zI 4]) [2] (tA (hN.up (((bY.trans kF).trans sa).trans iW)) ani.2 (by omega)) ?_
       rintro _ aIi ⟨aLL,rfl,ap7⟩
       refine zD 1<|js 178 aLL (fun h39=>?_) (fun h39=>?_)
       ·
        subst h39
        refine jd 5 [1]<|bJ av6 ⟨⟨Ec.name,Ec.st,q,-1,Ec.bold⟩,aIi⟩ ⟨⟨⟨hO.1.1,.inl rfl,hO.1.2.2.1,hO.1.2.2.2⟩,ani.1⟩,ap7⟩ Nat.zero_lt_one [1,2,0,3,4,5,6] (Sub.refl _)
       subst h39
       refine zD 2<|bJ av6 ⟨⟨Ec.name,Ec.st,q,Ec.head,Ec.bold⟩,aIi⟩ ⟨⟨⟨hO.1.1,hO.1.2.1,hO.1.2.2.1,hO.1.2.2.2⟩,ani.1⟩,ap7⟩ Nat.zero_lt_one [1,2,0,3,4,5,6] (Sub.refl _)
      refine js 173 aLN (fun h40=>?_) (fun h40=>?_)
      ·
       subst h40
       have hO:=hB.2.2.1 _ (List.mem_of_getElem? Qy)
       have hO2:=hO.1.2.2.1
       have hO3:=hO.2
       refine zD 3<|jc (vs:=[zP d,zI 1,zI 3]) [0] (A9 (hN.up (((bY.trans kF).trans sa).trans iW)) ap8 (by omega) (by omega)) ?_
       rintro _ aWe ⟨aLM,rfl,aYZ,aYQ,aGJ⟩
       refine jd 3 [1]<|bJ aGp ⟨aLM,aWe⟩ ⟨by dsimp only;omega,aGJ⟩ Nat.zero_lt_one [1,2,0,3,4,5,6] (Sub.refl _)
      subst h40
      have hO:=hB.2.2.1 _ (List.mem_of_getElem? Qy)
      have hO2:=hO.1.2.2.1
      have hO3:=hO.2
      refine zD 2<|bJ aGp ⟨Ec.no,aWf⟩ ⟨by dsimp only;omega,ap8⟩ Nat.zero_lt_one [1,2,0,3,4,5,6] (Sub.refl _)
     subst h36
     refine zD 2<|bJ av6 ⟨⟨pp.name,pp.st,ayO,pp.head,false⟩,X⟩ ⟨⟨⟨ahh.1.1,ahh.1.2.1,ahh.1.2.2,rfl⟩,by dsimp only;omega⟩,ahg.2⟩ Nat.zero_lt_one [0,1,2,3,4,5,6] (Sub.refl _)
    refine jd 3 [5]<|Co hB.2.1<|zD 2<|js 157 (decide ((uW.length:Int)>0)) (fun h41=>?_) (fun h41=>?_)
    ·
     have ahr:=h41
     replace ahr:=of_decide_eq_true ahr
     refine zD 1<|jc (vs:=[zP d,zI 3]) [0] (tA (hN.up (((bY.trans kF).trans sa).trans iW)) ap9 (by omega)) ?_
     rintro _ aWh ⟨aLP,rfl,aGL⟩
     refine zD 3<|bJ aGq ⟨!aLP,aWh⟩ ⟨fun _=>by omega,aGL⟩ Nat.zero_lt_one [1,2,0,3,4,5,6] (Sub.refl _)
    have ahr:=h41
    replace ahr:=of_decide_eq_false ahr
    refine zD 5<|bJ aGq ⟨false,aWi⟩ ⟨(fun h=>by cases h),ap9⟩ Nat.zero_lt_one [1,2,0,3,4,5,6] (Sub.refl _)
   refine jd 4 [3]<|nj [3,5] ⟨fun z39 t40 ag7=>?_,fun z42 t43 aUr=>?_,trivial⟩
   ·
    refine jc [1] (Yp (hN.up (((bY.trans kF).trans sa).trans iW)) hA.2.2.2) ?_
    rintro _ aWj ⟨aky,rfl,Xy,Ya⟩
    refine iu ag7 [[3]]<|nj [4,5] ⟨fun z45 t46 aUp=>?_,fun z48 t49 ag5=>?_,trivial⟩
    ·
     refine jc (vs:=[zP d,.agg ⟨[zI 2,zI 0,zI 0,.slice eI kU.length eB,.slice dO j5.length dv,zS,zS]⟩,.string aky]) [0] (xB (hN.up (((bY.trans kF).trans sa).trans iW)) Ya ((((show bE _ _ _ _ _ from ⟨dO,u3,u2,dv,rfl,xg,qV,qU⟩).up kF).up sa).up iW) (by have:=Cz.len;have:=Hl.nh;omega)) ?_
     rintro _ ajf ⟨ayP,rfl,QL,QC,QV,Rc⟩
     refine dZ aUp<|aL 5 fun aon aoJ ag4=>jn fun YJ=>dZ ag4<|aL 6 fun aom aoI UU=>jd 1 [0]<|dZ UU<|zD 1<|bJ av7 ⟨YJ,_,ajf⟩ ⟨⟨QL▸Xy,xv Cz QV,QC⟩,Rc⟩ Nat.zero_lt_one [0,2,1,3,4,5,6] (Sub.refl _)
    refine jn fun YJ=>bB ag5 [1,2,3,4,5,6]<|aL 4 fun abY acH UT=>jc (vs:=[zP d,.agg ⟨[zI 2,zI 0,zI 0,.slice eI kU.length eB,.slice dO j5.length dv,zS,zS]⟩,.string aky]) [1] (xB (hN.up (((bY.trans kF).trans sa).trans iW)) Ya ((((show bE _ _ _ _ _ from ⟨dO,u3,u2,dv,rfl,xg,qV,qU⟩).up kF).up sa).up iW) (by have:=Cz.len;have:=Hl.nh;omega)) ?_
    rintro _ ajf ⟨ayP,rfl,QL,QC,QV,Rc⟩
    refine dZ UT<|aL 6 fun abX acG US=>jd 1 [1]<|dZ US<|zD 1<|bJ av7 ⟨YJ,_,ajf⟩ ⟨⟨QL▸Xy,xv Cz QV,QC⟩,Rc⟩ Nat.zero_lt_one [1,2,0,3,4,5,6] (Sub.refl _)
   refine jn fun YJ=>bB aUr [1,2,3,4,5,6]<|aL 3 fun aol aoH ag3=>jc [2] (Yp (hN.up (((bY.trans kF).trans sa).trans iW)) hA.2.2.2) ?_
   rintro _ aWj ⟨aky,rfl,Xy,Ya⟩
   refine iu ag3 [[4]]<|aL 4 fun aok aoG ag1=>jc (vs:=[zP d,.agg ⟨[zI 2,zI 0,zI 0,.slice eI kU.length eB,.slice dO j5.length dv,zS,zS]⟩,.string aky]) [0] (xB (hN.up (((bY.trans kF).trans sa).trans iW)) Ya ((((show bE _ _ _ _ _ from ⟨dO,u3,u2,dv,rfl,xg,qV,qU⟩).up kF).up sa).up iW) (by have:=Cz.len;have:=Hl.nh;omega)) ?_
   rintro _ ajf ⟨ayP,rfl,QL,QC,QV,Rc⟩
   refine dZ ag1<|aL 6 fun aoj aoF UR=>jd 1 [1]<|dZ UR<|zD 1<|bJ av7 ⟨YJ,_,ajf⟩ ⟨⟨QL▸Xy,xv Cz QV,QC⟩,Rc⟩ Nat.zero_lt_one [1,2,0,3,4,5,6] (Sub.refl _)
  refine zD 4<|jf [2,0] (LB++LA) (fun bcv wq aDq=>?_)
  have hb:=hB.2.1.kZ (Knows.left aDq)
  have ha:=hA.2.1.kZ (Knows.right aDq)
  have hBF:=hb
  have hAF:=ha
  obtain⟨lg,ME,MC,k9,rfl,MD,Kc,Kb⟩:=hb
  obtain⟨kD,I5,I0,j7,rfl,I1,Gb,Ga⟩:=ha
  refine zD 2<|jc (vs:=[zP d,zI 4]) [0] (EM (hN.up ((((bY.trans kF).trans sa).trans iW).trans wq)) hA.2.2.2 (by omega)) ?_
  rintro _ bhA ⟨akx,rfl,aYY,aYP,aGI⟩
  refine jn fun aHX=>jcL (vs:=[zP d,.slice (some ⟨aHX,0,none⟩) 4 4]) [1] [0] [(aHX,.cells ⟨([1,2,4,akx].map cA).flatten⟩ 3 (0,0))] (fun aC hs hZ=>aiC ((hN.up ((((bY.trans kF).trans sa).trans iW).trans wq)).up hs) aGI (bR [1,2,4,akx] hZ.head (by intro p hp;rfl)) (by simp)) ?_
  rintro _ bhz ⟨acf,rfl,aCc,aGH⟩
  refine zD 2<|jc (vs:=[zP d,zI 4]) [0] (EM (hN.up ((((bY.trans kF).trans sa).trans iW).trans wq)) aGH (by omega)) ?_
  rintro _ bhy ⟨akw,rfl,aYX,aYO,aGG⟩
  refine jn fun aHW=>jcL (vs:=[zP d,.slice (some ⟨aHW,0,none⟩) 4 4]) [1] [0] [(aHW,.cells ⟨([1,2,4,akw].map cA).flatten⟩ 3 (0,0))] (fun aC hs hZ=>aiC ((hN.up ((((bY.trans kF).trans sa).trans iW).trans wq)).up hs) aGG (bR [1,2,4,akw] hZ.head (by intro p hp;rfl)) (by simp)) ?_
  rintro _ bhx ⟨ace,rfl,aCb,aGF⟩
  refine zD 2<|jc (vs:=[zP d,zI 4]) [0] (EM (hN.up ((((bY.trans kF).trans sa).trans iW).trans wq)) aGF (by omega)) ?_
  rintro _ bhw ⟨akv,rfl,aYW,aYN,aGE⟩
  refine jn fun aHV=>jcL (vs:=[zP d,.slice (some ⟨aHV,0,none⟩) 4 4]) [1] [0] [(aHV,.cells ⟨([1,2,4,akv].map cA).flatten⟩ 3 (0,0))] (fun aC hs hZ=>aiC ((hN.up ((((bY.trans kF).trans sa).trans iW).trans wq)).up hs) aGE (bR [1,2,4,akv] hZ.head (by intro p hp;rfl)) (by simp)) ?_
  rintro _ bhv ⟨acb,rfl,aCa,aGD⟩
  refine jd 6 [5,5,5] ?_
  have BB:=as4 aCc (by omega:0≤akx∧akx≤4)
  have zd:=as4 aCb (by omega:0≤akw∧akw≤4)
  have q5:=as4 aCa (by omega:0≤akv∧akv≤4)
  refine zD 6<|jc (vs:=[zP d,zI nf]) [0] (EM (hN.up ((((bY.trans kF).trans sa).trans iW).trans wq)) aGD (by omega)) ?_
  rintro _ aWd ⟨aLK,rfl,aYV,aYM,aGC⟩
  refine zD 3<|oH<|dW [1,1,1,1,1,1,1,1,1,0,1,0,0] [] (fun(zz:Int×Value×Cells×(List cU)×Cells)=>[(0,zP d),(6,zP b6),(7,zP b7),(15,zI zz.1)]) (fun(zz:Int×Value×Cells×(List cU)×Cells)=>[.l zz.2.2.1,.l zz.2.2.2.2,.b mb (.cells ⟨[zI 2,zI 0,zI 0,.slice eI kU.length eB,.slice dO j5.length dv,zS,zS]⟩ 86 (0,0)),.b b7 (.cells ⟨[.slice (some ⟨ee,0,none⟩) 2 2,.slice fg SM.length eo,zS,.slice eI kU.length eB,.slice dO j5.length dv,vR,.slice lg uW.length k9,.slice kD LJ.length j7,zI acf,zI ace,zI acb,zz.2.1]⟩ 40 (0,0)),.b b6 (.cells ⟨zO⟩ 40 (0,0))]) (fun(zz:Int×Value×Cells×(List cU)×Cells)=>(0≤zz.1∧zz.2.2.2.1.length+zz.1≤nf)∧az zz.2.1 3 54 pX zz.2.2.2.1 zz.2.2.1∧Bs uW.length LJ.length zz.2.2.2.1∧bL vd xs d zz.2.2.2.2) (fun(zz:Int×Value×Cells×(List cU)×Cells)=>zz.1.toNat) (⟨aLK,zS,[],[],aWd⟩) ⟨by simp only[List.length_nil];omega,az.nil _ _ _,⟨(fun _ h=>by cases h),List.Pairwise.nil⟩,aGC⟩ [0,1,5,6,7] ?_
  rintro⟨j,vF,LF,fs,X⟩ hF K58 aGo rest
  dsimp only at hF
  have auJ:=hB.1
  have aZe:=hA.1
  refine zD 6<|jj 5 [(0,zP d),(6,zP b6),(7,zP b7),(15,zI j),(214,.bool ((decide (j>0))&&(decide ((uW.length:Int)>0))))] (fun gV=>?_) (fun hj=>?_)
  rotate_left
  refine js 209 (decide (j>0)) (fun h56=>?_) (fun h56=>?_)
  ·
   have ahq:=h56
   replace ahq:=of_decide_eq_true ahq
   refine jd 5 [3]<|jw 214 (.bool ((decide (j>0))&&(decide ((uW.length:Int)>0)))) (w:= .bool (decide ((uW.length:Int)>0))) (by rw[h56]<;>rfl) ?_
   exact hj _ (by kernel_rfl) (by kernel_rfl)
  ·
   have ahq:=h56
   replace ahq:=of_decide_eq_false ahq
   refine zD 5<|jw 214 (.bool ((decide (j>0))&&(decide ((uW.length:Int)>0)))) (w:= .bool false) (by rw[h56]<;>rfl) ?_
   exact hj _ (by kernel_rfl) (by kernel_rfl)
  refine zD 1<|jj 5 [(0,zP d),(6,zP b6),(7,zP b7),(15,zI j),(220,.bool (((decide (j>0))&&(decide ((uW.length:Int)>0)))&&(decide ((LJ.length:Int)>0))))] (fun gV=>?_) (fun hj=>?_)
  rotate_left
  refine js 215 ((decide (j>0))&&(decide ((uW.length:Int)>0))) (fun h57=>?_) (fun h57=>?_)
  ·
   have awg:=h57
   try simp only[zB] at awg
   refine jd 5 [3]<|jw 220 (.bool (((decide (j>0))&&(decide ((uW.length:Int)>0)))&&(decide ((LJ.length:Int)>0)))) (w:= .bool (decide ((LJ.length:Int)>0))) (by rw[h57]<;>rfl) ?_
   exact hj _ (by kernel_rfl) (by kernel_rfl)
  ·
   have awg:=h57
   try simp only[zB] at awg
   refine zD 5<|jw 220 (.bool (((decide (j>0))&&(decide ((uW.length:Int)>0)))&&(decide ((LJ.length:Int)>0)))) (w:= .bool false) (by rw[h57]<;>rfl) ?_
   exact hj _ (by kernel_rfl) (by kernel_rfl)
  refine zD 1<|js 220 (((decide (j>0))&&(decide ((uW.length:Int)>0)))&&(decide ((LJ.length:Int)>0))) (fun h58=>?_) (fun h58=>?_)
  ·
   try simp only[zB] at h58
   refine jd 8 [3]<|jc (vs:=[zP d,.agg ⟨[.slice (some ⟨ee,0,none⟩) 2 2,.slice fg SM.length eo,zS,.slice eI kU.length eB,.slice dO j5.length dv,vR,.slice lg uW.length k9,.slice kD LJ.length j7,zI acf,zI ace,zI acb,vF]⟩]) [1] (aVy (hN.up ((((bY.trans kF).trans sa).trans iW).trans wq)) hF.2.2.2 (show bE _ _ _ _ _ from ⟨lg,ME,MC,k9,rfl,MD,Kc,Kb⟩) (show bE _ _ _ _ _ from ⟨kD,I5,I0,j7,rfl,I1,Gb,Ga⟩) (by omega)) ?_
   rintro _ aIh ⟨qg,rfl,aZt,aZs,ap6⟩
   refine jn fun b16=>jd 6 [0,4,0]<|jp (vs:=[.agg ⟨[.slice (some ⟨ee,0,none⟩) 2 2,.slice fg SM.length eo,zS,.slice eI kU.length eB,.slice dO j5.length dv,vR,.slice lg uW.length k9,.slice kD LJ.length j7,zI acf,zI ace,zI acb,vF]⟩,.agg ⟨[zI qg.a,zI qg.b,.bool qg.same]⟩]) [2] LF (fun aC hs hZ=>aBJ (x:=⟨qg.a,qg.b,qg.same⟩) (hF.2.1.kZ hZ) (by omega))<|zD 2<|js 229 (!(Ds fs qg.a qg.b)) (fun h59=>?_) (fun h59=>?_)
   ·
    try simp only[zB] at h59
    refine jd 5 [4,0]<|jn fun aHU=>jq (sz:=3) (ps:=fs) (qs:=[(⟨qg.a,qg.b,qg.same⟩:cU)]) (enc:=pX) (w:= .slice (some ⟨aHU,0,none⟩) 1 1) [3] [0] [(aHU,.cells ⟨([(⟨qg.a,qg.b,qg.same⟩:cU)].map pX).flatten⟩ 54 (0,0))] (hF.2.1) (fun s _ hZ=>bX [(⟨qg.a,qg.b,qg.same⟩:cU)] (hZ _ (.head _)) (by intro p hp;rfl)) (fun p _=>aj rfl) (by simp<;>omega) (fun bb9 aWF XG=>?_)
    obtain⟨ayZ,ayS,aDH⟩:=XG.form
    subst aDH
    refine jd 5 [5]<|ja (j-1) (by omega)<|zD 2<|bJ aGo (⟨j-1,(.slice ayZ ((fs++[(⟨qg.a,qg.b,qg.same⟩:cU)])).length ayS),aWF,(fs++[(⟨qg.a,qg.b,qg.same⟩:cU)]),aIh⟩) ⟨by simp only[List.length_append,List.length_cons,List.length_nil];omega,XG,Bs.snoc hF.2.2.1 (by dsimp only;omega) (by dsimp only;omega) (by assumption),ap6⟩ (by omega) [0,3,4,5,6] (Sub.refl _)
   try simp only[zB] at h59
   refine zD 4<|ja (j-1) (by omega)<|zD 2<|bJ aGo (⟨j-1,vF,LF,fs,aIh⟩) ⟨by dsimp only;omega,hF.2.1,hF.2.2.1,ap6⟩ (by omega) [2,1,3,4,5] (Sub.refl _)
  try simp only[zB] at h58
  refine zD 4<|jf [0] LF (fun bcu Uk aSa=>?_)
  have hFA:=hF.2.1.kZ aSa
  refine jd 1 [2] ?_
  obtain⟨aMn,aL2,aSI⟩:=hR.2.1.form
  subst aSI
  obtain⟨aMm,aL1,aSH⟩:=hF.2.1.form
  subst aSH
  refine jd 3 [3]<|aF q0.a.a.a.a.a.a (.agg ⟨[.slice (some ⟨ee,0,none⟩) 2 2,.slice fg SM.length eo,zS,.slice eI kU.length eB,.slice dO j5.length dv,(.slice aMn (rs).length aL2),.slice lg uW.length k9,.slice kD LJ.length j7,zI acf,zI ace,zI acb,(.slice aMm (fs).length aL1)]⟩) [3] [0] X (Sub.refl _) ⟨_,_,X,rfl,rfl,(((((bY.trans kF).trans sa).trans iW).trans wq).trans Uk),⟨ways,kU,UF,rs,uW,LJ,acf,ace,acb,fs,yN⟩,_,rfl,⟨SD.2.1,Hl,⟨by dsimp only;omega,hR.2.2⟩,⟨by dsimp only;omega,hB.2.2.1⟩,⟨by dsimp only;omega,hA.2.2.1⟩,⟨BB,zd,q5⟩,⟨by dsimp only;omega,hF.2.2.1.1⟩,hF.2.2.1.2,rfl⟩,(by dsimp only;omega),⟨_,_,_,_,_,_,_,_,none,0,j5,rfl,(aTS.up (((sa.trans iW).trans wq).trans Uk)),(aEi.up ((iW.trans wq).trans Uk)),(p9.up ((((kF.trans sa).trans iW).trans wq).trans Uk)),Cz,(hRU.up (wq.trans Uk)),(hBF.up Uk),(hAF.up Uk),hFA⟩,hF.2.2.2⟩
 refine js 30 w30 (fun h65=>?_) (fun h65=>?_)
 ·
  subst h65
  refine jd 7 [1]<|aL 4 fun aW4 aXB aUo=>jc [0] (aHv (hN.up (bY.trans kF)) aGz) ?_
  rintro _ X35 ⟨uG,rfl,aB9,aUQ⟩
  refine iu aUo [[1]]<|aL 5 fun aW3 aXA avW=>jn fun dM=>bB avW [1,2,3]<|zD 1<|aL 7 fun aym azk avV=>jn fun b38=>bB avV [1,2,3,4]<|aL 8 fun ayl azj avU=>aQe (E:=81) (sz:=1) gh (qs:=[(.slice (some ⟨dM,0,none⟩) 1 1:Value)]) (w:= .slice (some ⟨b38,0,none⟩) 1 1) [0] [(b38,.cells ⟨([(.slice (some ⟨dM,0,none⟩) 1 1:Value)].map gh).flatten⟩ 81 (0,0))] (fun s _ hZ=>bX [(.slice (some ⟨dM,0,none⟩) 1 1:Value)] (hZ _ (.head _)) (by intro p hp;rfl)) (by intro p hp;rw[List.mem_singleton] at hp;subst hp;exact aj rfl) (by simp<;>omega) (fun v39 L39 Cr=>?_)
  obtain⟨ayY,ayR,agF⟩:=Cr.form
  subst agF
  refine bB avU [1,2,3,4,5]<|zD 2<|aL 11 fun aW2 aXz aUn=>jd 1 [4]<|iu aUn []<|zD 4<|jc (vs:=[zP d,zI 2]) [3] (tA (hN.up (bY.trans kF)) aUQ (by omega)) ?_
  rintro _ X43 ⟨w43,rfl,aGy⟩
  refine zD 1<|js 43 w43 (fun h71=>?_) (fun h71=>?_)
  ·
   subst h71
   refine jd 8 [4,4]<|T5 1 Cr (show ([(.slice (some ⟨dM,0,none⟩) 1 1:Value)])[0]?=some (.slice (some ⟨dM,0,none⟩) 1 1:Value) from rfl) fun b50 aTr=>zD 1<|nS 0 [1] L39 (fun s _ hZ=>cm Cr aTr hZ (show ([(.slice (some ⟨dM,0,none⟩) 1 1:Value)])[0]?=some (.slice (some ⟨dM,0,none⟩) 1 1:Value) from rfl))<|zD 1<|aL 10 fun aW1 aXy aUm=>jc [0] (aHv (hN.up (bY.trans kF)) aGy) ?_
   rintro _ X54 ⟨vo,rfl,aQH,aUN⟩
   refine iu aUm [[1],[4],[4]]<|aL 11 fun aW0 aXx avT=>jn fun b55=>bB avT [1,2,3,4,5,6]<|aL 12 fun aWZ aXw aUl=>jq (sz:=7) (ps:=[(⟨uG.k,uG.st,uG.ot,uG.fn,uG.fl,uG.tn,uG.tl⟩:aN)]) (qs:=[(⟨vo.k,vo.st,vo.ot,vo.fn,vo.fl,vo.tn,vo.tl⟩:aN)]) (enc:=kT) (w:= .slice (some ⟨b55,0,none⟩) 1 1) [4] [0] [(b55,.cells ⟨([(⟨vo.k,vo.st,vo.ot,vo.fn,vo.fl,vo.tn,vo.tl⟩:aN)].map kT).flatten⟩ 77 (0,0))] (Gl (b:=dM) (T:=77) [(⟨uG.k,uG.st,uG.ot,uG.fn,uG.fl,uG.tn,uG.tl⟩:aN)] rfl (by intro p hp;rfl)) (fun s _ hZ=>bX [(⟨vo.k,vo.st,vo.ot,vo.fn,vo.fl,vo.tn,vo.tl⟩:aN)] (hZ _ (.head _)) (by intro p hp;rfl)) (fun p _=>aj rfl) (by simp<;>omega) (fun v56 L56 qx=>?_)
   obtain⟨OQ,OO,UB⟩:=qx.form
   subst UB
   refine iu aUl [[5],[5]]<|T5 1 Cr (show ([(.slice (some ⟨dM,0,none⟩) 1 1:Value)])[0]?=some (.slice (some ⟨dM,0,none⟩) 1 1:Value) from rfl) fun b57 aTq=>zD 1<|aL 15 fun aWY aXv aUk=>Oo 3 0 [(.slice OQ (([(⟨uG.k,uG.st,uG.ot,uG.fn,uG.fl,uG.tn,uG.tl⟩:aN)]++[(⟨vo.k,vo.st,vo.ot,vo.fn,vo.fl,vo.tn,vo.tl⟩:aN)])).length OO)] ((.slice OQ (([(⟨uG.k,uG.st,uG.ot,uG.fn,uG.fl,uG.tn,uG.tl⟩:aN)]++[(⟨vo.k,vo.st,vo.ot,vo.fn,vo.fl,vo.tn,vo.tl⟩:aN)])).length OO):Value) Cr aTq (show ([(.slice (some ⟨dM,0,none⟩) 1 1:Value)])[0]?=some (.slice (some ⟨dM,0,none⟩) 1 1:Value) from rfl) rfl rfl (Nat.le_of_ble_eq_true rfl) fun L76 aRx=>iu aUk []<|zD 1<|KR bK ⟨(.slice ayY ([(.slice (some ⟨dM,0,none⟩) 1 1:Value)]).length ayR),L76++L56,[[uG,vo]],X54⟩ ⟨fun _ hk=>⟨_,aRx.kZ hk.left,.cons (qx.kZ hk.right) .nil⟩,⟨by simp,by simpa using ⟨aB9,aQH⟩⟩,aUN⟩ Nat.zero_lt_one [[0,1],[3],[5],[6]] (Sub.refl _)
  subst h71
  refine zD 2<|KR bK ⟨(.slice ayY ([(.slice (some ⟨dM,0,none⟩) 1 1:Value)]).length ayR),L39++[(dM,.cells ⟨[zI uG.k,zI uG.st,zI uG.ot,zI uG.fn,zI uG.fl,zI uG.tn,zI uG.tl]⟩ 77 (0,0))],[[uG]],X43⟩ ⟨fun _ hk=>⟨_,Cr.kZ hk.left,.cons (bR [uG] (hk.right _ (.head _)) (fun _ _=>rfl)) .nil⟩,⟨by simp,by simpa using aB9⟩,aGy⟩ Nat.zero_lt_one [[1,3],[0],[4],[5]] (Sub.refl _)
 subst h65
 refine zD 2<|oH<|bJ bK ⟨zS,[],[],X30⟩ ⟨fun _ _=>S7,⟨by simp,by simp⟩,aGz⟩ Nat.zero_lt_one [0,1,2,3] (Sub.refl _)
end Go.L
