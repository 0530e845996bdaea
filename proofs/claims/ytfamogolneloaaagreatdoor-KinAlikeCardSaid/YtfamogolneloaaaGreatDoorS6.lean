/- Part 6 of the proof. -/
import Derived.Test.YtfamogolneloaaaGreatDoorS5
import Derived.KernelRfl
import Derived.Lib.UnsafeStr
import Derived.Test.YtfamogolneloaaaGreatDoorProg
set_option maxRecDepth 100000
set_option linter.all false
namespace Go.L
open Go Go.Conc
variable {α β:Type} {xs al:List Int} {vd vp vm vc vh:Value} {Φ:Value→(Nat→Option Obj)→Cells→Prop} {X fr:Cells} {aK pZ:Nat→Option Obj} {i d k b sz nc nh bD:Nat} {l args:List Value} {n many r lo hi:Int} {P:Program} {o:Option JS} {f:FuncId} {T E:TypeId} {nm:ByteArray} {ag:Bool}
def rnM(P:Program):Sem α→List Nat→Cells→List (Nat×Nat)→Option (α×Cells×List (Nat×Nat))
 | .pure a,_,B,q=>some (a,B,q)
 | .load m a k,h::hs,B,q=>match m,a.spot,B[h]? with
  | .plain,none,some (b,.cells c _ _)=>match c[a.off]? with
   |some v=>rnM P (k v) hs B ((a.block,b)::q)
   |none=>none
  |_,_,_=>none
 | .shape r k,h::hs,B,q=>match B[h]? with
  |some (b,o)=>rnM P (k (Obj.shapeOf o)) hs B ((r,b)::q)
  |none=>none
 | .program k,hs,B,q=>rnM P (k P) hs B q
 |_,_,_,_=>none
theorem asB:∀(m:Sem α) {hs:List Nat} {B B':Cells} {q q':List (Nat×Nat)} {v:α},rnM P m hs B q=some (v,B',q')→(∀p∈q',p.1=p.2)→
 (∀p∈q,p∈q')∧B'=B∧∀(s:St) (Q:α→St→Prop) (E:Halt→St→Prop),(∀x∈B,s.has x.1 x.2)→Q v s→bR P m s Q E:=by
 intro m
 induction m with
 |pure a=>intro hs B B' q q' v h _;simp only[rnM,Option.some.injEq,Prod.mk.injEq] at h;obtain⟨rfl,rfl,rfl⟩:=h;exact⟨fun _ h=>h,rfl,fun _ _ _ _ h=>h⟩
 |load m a k ih=>
  intro hs B B' q q' v h hq
  cases hs with
  |nil=>cases h
  |cons j hs=>
   unfold rnM at h
   split at h<;>try (cases h;done)
   rename_i b c t fz OC hB
   split at h<;>try (cases h;done)
   rename_i u hu
   obtain⟨h1,h2,h3⟩:=ih _ h hq
   have BX:a.block=b:=hq _ (h1 _ List.mem_cons_self)
   refine⟨fun p hp=>h1 p (List.mem_cons_of_mem _ hp),h2,fun s Q E hs hQ=>⟨rfl,OC,c,t,fz,u,?_,hu,h3 s Q E hs hQ⟩⟩
   rw[BX];exact hs _ (List.mem_of_getElem? hB)
 |shape r k ih=>
  intro hs B B' q q' v h hq
  cases hs with
  |nil=>cases h
  |cons j hs=>
   simp only[rnM] at h
   split at h<;>try (cases h;done)
   rename_i b o hB
   obtain⟨h1,h2,h3⟩:=ih _ h hq
   have BX:r=b:=hq _ (h1 _ List.mem_cons_self)
   refine⟨fun p hp=>h1 p (List.mem_cons_of_mem _ hp),h2,fun s Q E hs hQ=>⟨o,?_,h3 s Q E hs hQ⟩⟩
   rw[BX];exact hs _ (List.mem_of_getElem? hB)
 |program k ih=>
  intro hs B B' q q' v h hq
  simp only[rnM] at h
  exact ih _ h hq
 |store=>intro hs B B' q q' v h hq;cases hs<;>cases h
 |new=>intro hs B B' q q' v h hq;cases hs<;>cases h
 |freeze=>intro hs B B' q q' v h hq;cases hs<;>cases h
 |frozen=>intro hs B B' q q' v h hq;cases hs<;>cases h
 |getObj=>intro hs B B' q q' v h hq;cases hs<;>cases h
 |setObj=>intro hs B B' q q' v h hq;cases hs<;>cases h
 |choose=>intro hs B B' q q' v h hq;cases hs<;>cases h
 |sys=>intro hs B B' q q' v h hq;cases hs<;>cases h
 |mark=>intro hs B B' q q' v h hq;cases hs<;>cases h
 |halt=>intro hs B B' q q' v h hq;cases hs<;>cases h
def adt:Op→Option (List Operand)
 | .call ⟨.builtin _,xs,_⟩=>some xs.toList
 |op=>Gt op
theorem Px{o:Oper}{xs:List Operand}(h:adt o.op=some xs){f g:Operand→Value}(hfg:∀x∈xs,f x=g x):execOp f o=execOp g o:=by
 unfold adt at h
 split at h
 ·rename_i b xs at_ heq
  simp only[Option.some.injEq] at h;subst h
  have:xs.map f=xs.map g:=Array.map_congr_left fun a ha=>hfg a (by simpa using ha)
  simp only[execOp,heq,resolve,this]
 exact ub h hfg
def smV(P:Program)(n:Nat)(hs:List Nat)(B:Cells)(p:Oper)(e:Env):Option (Value×List (Nat×Nat)):=match adt p.op with
 |some xs=>match yj n e xs with
  |some _=>match rnM P (execOp (evj n e) p) hs B [] with
   |some (.value v,_,q)=>some (v,q)
   |_=>none
  |none=>none
 |none=>none
theorem B7{γ:Type}{n:Nat}{f:Oper→Env→Option β}{g:β→γ}:fx n (fun p e=>(f p e).map g) o=(fx n f o).map g:=by
 unfold fx
 split
 ·unfold dP
  dsimp only
  split<;>rfl
 rfl
def smA(P:Program)(n:Nat)(hs:List Nat)(B:Cells)(p:Oper)(e:Env):Option Value:=(smV P n hs B p e).map (·.1)
def smL(P:Program)(n:Nat)(hs:List Nat)(B:Cells)(p:Oper)(e:Env):Option (List Nat):=(smV P n hs B p e).map fun x=>Vp x.2
def smR(P:Program)(n:Nat)(hs:List Nat)(B:Cells)(p:Oper)(e:Env):Option (List Nat):=(smV P n hs B p e).map fun x=>Tv x.2
section
variable {X:Cx} {o:Option JS}
theorem jmo(ps hs:List Nat)(B:Cells)(v:Value)(hj:J X (nH ps v B o))(hv:fx X.n (smA X.P X.n hs B) o=some v:=by kernel_rfl)(hq:fx X.n (smL X.P X.n hs B) o=fx X.n (smR X.P X.n hs B) o:=by kernel_rfl)(hB:eA ps o=some B:=by kernel_rfl):J X o:=by
 rw[show smA X.P X.n hs B=fun p e=>(smV X.P X.n hs B p e).map (·.1) from rfl,B7] at hv
 rw[show smL X.P X.n hs B=fun p e=>(smV X.P X.n hs B p e).map (fun x=>Vp x.2) from rfl,show smR X.P X.n hs B=fun p e=>(smV X.P X.n hs B p e).map (fun x=>Tv x.2) from rfl,B7,B7] at hq
 cases hx:fx X.n (smV X.P X.n hs B) o with
 |none=>rw[hx] at hv;cases hv
 |some x=>
  rcases x with ⟨v',q⟩
  rw[hx] at hv hq
  simp only[Option.map_some,Option.some.injEq] at hv hq
  subst hv
  refine jS (Φ:=fun u L'=>u=v'∧L'=B) ps B hx hB (fun p e hf=>?_) (fun u L' qF=>by obtain⟨rfl,rfl⟩:=qF;exact hj)
  unfold smV at hf
  split at hf<;>try (cases hf;done)
  rename_i xs aA
  split at hf<;>try (cases hf;done)
  rename_i ws S1
  split at hf<;>try (cases hf;done)
  rename_i u B' q2 bX
  simp only[Option.some.injEq,Prod.mk.injEq] at hf
  obtain⟨rfl,rfl⟩:=hf
  refine⟨fun c hc=>?_,fun R Q E hQ=>?_⟩
  ·rw[hc] at aA;cases aA
  rw[Px aA (NW (f:=ev X.n e) (fun x v h=>aG h) S1)]
  obtain⟨_,_,h3⟩:=asB _ bX (my hq)
  exact h3 _ _ _ (fun x hx=> .inr (List.mem_append_left _ hx)) (hQ _ _ ⟨rfl,rfl⟩)
theorem H3:∀(n t:Nat) (acc:Array Value),(Extern.BytealgMakeNoZero.digits n t acc).size=acc.size+n
 |0,_,_=>rfl
 |n+1,t,acc=>by
  simp only[Extern.BytealgMakeNoZero.digits,H3 n,Array.size_push];omega
theorem jnz{ps rs:Array TypeId}{n:Nat}{z:List Value}(ef:EF X.P f (Extern.BytealgMakeNoZero.makeNoZero ps rs))(hT:rs[0]?=some T) (tf:TF X.P T (.slice E) sz bD z ag) (hn:n≤1000)
 (hj:∀b l,n≤l.length→J X (nH [] (.slice (some ⟨b,0,none⟩) n l.length) [(b,.cells ⟨l⟩ E (0,0))] o)) (hv:fx X.n (aiS X.n) o=some (f,[.int .i64 (n:Int)]):=by kernel_rfl) (hB:eA [] o=some []:=by kernel_rfl):J X o:=by
 obtain⟨ops,i,todo,k,e,w,kn,p,rfl,ho,hw,hc⟩:=dG hv
 obtain⟨xs,at_,aA,hx⟩:=NU hc
 intro bY
 rcases p with ⟨dst,op,ty,pos,db,g⟩
 dsimp only at aA;subst aA
 refine aes X.hC ho hw ef hx ?_
 have eM:Extern.BytealgMakeNoZero.makeNoZero ps rs ⟨[Value.int .i64 (n:Int)]⟩=(do
  let some t:=rs[0]?|stuck "bytealg.MakeNoZero: no result type"
  let .slice elem ←underlying t|stuck "bytealg.MakeNoZero: slice type expected"
  if (n:Int) <0||(n:Int)>2^48 then runtimePanic (.error "makeslice: len out of range")
  let cap ←choose (.appendCap (n:Int).toNat 0 elem)
  askRoom cap
  let bytes ←choose (.extern "internal/bytealg.MakeNoZero.bytes" 0)
  let a ←newRow elem (Extern.BytealgMakeNoZero.digits cap bytes #[])
  pure (.slice (some a) (n:Int).toNat cap)):=rfl
 rw[eM]
 simp only[hT,a8 tf]
 rw[if_neg (by simp only[Bool.or_eq_true,decide_eq_true_eq];omega)]
 refine ac4 rfl fun q=>?_
 refine sU ?_
 show (if (Question.extern "internal/bytealg.MakeNoZero.bytes" 0).forced=true then _ else _)
 have key:∀cap bytes,n≤cap→bR X.P (newRow E (Extern.BytealgMakeNoZero.digits cap bytes #[]) >>= fun a=>pure (Value.slice (some a) ((n:Int).toNat) cap)) ⟨X.ro,den w⟩ (fun v s'=>ab X.C X.fn X.aB ops todo (KQ X k) (A X.n (upd dst v e) X.D) s') (fun _ _=>False):=by
  intro cap bytes oO
  rw[jI]
  intro b hb
  have hl:(Extern.BytealgMakeNoZero.digits cap bytes #[]).toList.length=cap:=by
   rw[Array.length_toList,H3];simp
  have:=hj b (Extern.BytealgMakeNoZero.digits cap bytes #[]).toList (by omega)
  rw[oC ho] at this
  have:=this bY
  simp only[JP,gI,hl,xP] at this
  exact this
 split
 ·exact key _ _ (by show n≤(n:Int).toNat+_;rw[Int.toNat_natCast];exact Nat.le_add_right _ _)
 exact fun q2=>key _ _ (by show n≤(n:Int).toNat+_;rw[Int.toNat_natCast];exact Nat.le_add_right _ _)
def sdV(n:Nat)(p:Oper)(e:Env):Option (Addr×Nat×Nat):=match p.op with
 | .call ⟨.builtin .unsafeSliceData,xs,_⟩=>match yj n e xs.toList with
  |some [.slice (some a) l c]=>some (a,l,c)
  |_=>none
 |_=>none
theorem jsd{a:Addr}{l c:Nat}(h:c≠0)(hj:J X (nH [] (.pointer (some a)) [] o))(hv:fx X.n (sdV X.n) o=some (a,l,c):=by kernel_rfl)(hB:eA [] o=some []:=by kernel_rfl):J X o:=by
 refine jS (Φ:=fun u L'=>u= .pointer (some a)∧L'=[]) [] [] hv hB (fun p e hf=>?_) (fun u L' qF=>by obtain⟨rfl,rfl⟩:=qF;exact hj)
 unfold sdV at hf
 split at hf<;>try (cases hf;done)
 rename_i xs at_ aA
 split at hf<;>try (cases hf;done)
 rename_i a' l' c' hx
 simp only[Option.some.injEq,Prod.mk.injEq] at hf
 obtain⟨rfl,rfl,rfl⟩:=hf
 refine⟨by rw[aA];simp,fun R Q E hQ=>?_⟩
 have e1:Builtin.unsafeSliceData_ at_ p.type ⟨[.slice (some a') l' c']⟩=pure (.pointer (some a')):=by
  show (if c'≠0 then _ else _)=_
  rw[if_pos h]
 simp only[execOp,aA,resolve,sG (show vD X.n e xs=_ from hx),ae,invoke,builtin,e1]
 exact hQ _ _ ⟨rfl,rfl⟩
def usV(P:Program)(n:Nat)(p:Oper)(e:Env):Option (Nat×TypeId):=match p.op with
 | .call ⟨.builtin .unsafeString,xs,at_⟩=>match at_[0]? with
  |some pt=>match aZ P pt with
   |some ⟨.pointer E,_,_,_⟩=>bif Nat.beq (P.cellsOf E) 1 then (match yj n e xs.toList with
    |some [.pointer (some ⟨b,0,none⟩),.int .i64 1]=>some (b,E)
    |_=>none) else none
   |_=>none
  |none=>none
 |_=>none
theorem jus(ps:List Nat)(x:Int)(l:List Value)(hj:∀L',J X (nH ps (.string ⟨#[x.toNat.toUInt8]⟩) L' o))(hv:fx X.n (usV X.P X.n) o=some (b,E):=by kernel_rfl)(hB:eA ps o=some [(b,.cells ⟨.int .u8 x::l⟩ E (0,0))]:=by kernel_rfl):J X o:=by
 refine jS (Φ:=fun u L'=>u= .string ⟨#[x.toNat.toUInt8]⟩) ps _ hv hB (fun p e hf=>?_) (fun u L' qF=>by subst qF;exact hj L')
 unfold usV at hf
 split at hf<;>try (cases hf;done)
 rename_i xs at_ aA
 split at hf<;>try (cases hf;done)
 rename_i pt hpt
 split at hf<;>try (cases hf;done)
 rename_i E' _ _ _ ee
 cases hc:Nat.beq (X.P.cellsOf E') 1 with
 |false=>rw[hc] at hf;cases hf
 |true=>
  rw[hc] at hf
  simp only[cond_true] at hf
  split at hf<;>try (cases hf;done)
  rename_i b' hx
  simp only[Option.some.injEq,Prod.mk.injEq] at hf
  obtain⟨rfl,rfl⟩:=hf
  have hc:=Nat.eq_of_beq_eq_true hc
  obtain⟨bD,tf⟩:=aw ee
  refine⟨by rw[aA];simp,fun R Q Er hQ=>?_⟩
  have e1:Builtin.unsafeString_ at_ p.type ⟨[.pointer (some ⟨b',0,none⟩),.int .i64 1]⟩=(do
   let n ←asInt (.int .i64 1)
   let some pt:=at_[0]?|stuck "unsafe.String: no argument types"
   if n <0 then runtimePanic (.error "unsafe.String: len out of range")
   if n>IntKind.i64.max then unsupported (.unsafePointer "String: a length above the largest int")
   if n=0 then pure (.string .empty)
   else if ←variablesAt ⟨b',0,none⟩ (←elemOf pt) n.toNat then do
    let s ←loadBytes ⟨b',0,none⟩ .empty n.toNat
    freeze ⟨b',0,none⟩ n.toNat
    pure (.string s)
   else unsupported (.unsafePointer "String: not so many bytes at ptr")):=rfl
  simp only[execOp,aA,resolve,sG (show vD X.n e xs=_ from hx),ae,invoke,builtin,e1]
  simp only[asInt,asIntOf,aa,ae,hpt,show ¬((1:Int) <0) by omega,show ¬((1:Int)>IntKind.i64.max) by decide,show ¬((1:Int)=0) by omega,if_false,elemOf,a8 tf,variablesAt,fo]
  have hs:(⟨X.ro,[(b',Obj.cells ⟨Value.int .u8 x::l⟩ E' (0,0))]++R⟩:St).rw=[]++(b',Obj.cells ⟨Value.int .u8 x::l⟩ E' (0,0))::R:=rfl
  have hm:(⟨X.ro,[(b',Obj.cells ⟨Value.int .u8 x::l⟩ E' (0,0))]++R⟩:St).has b' (.cells ⟨Value.int .u8 x::l⟩ E' (0,0)):= .inr (by rw[hs];exact fH)
  refine⟨_,hm,?_⟩
  have aEd:=Go.Lib.liesAt_bytes (P:=X.P) hc ((Value.int .u8 x::l).length / X.P.cellsOf E') 1 (by rw[hc];simp)
  have pb:∀ {α β:Type} (a:α) (f:α→Sem β),(Sem.pure a).bind f=f a:=fun _ _=>rfl
  simp only[Obj.shapeOf,List.size_toArray,aa,ae,pb]
  rw[show (1:Int).toNat=1 from rfl,aEd]
  simp only[ae,aa,if_true,loadBytes]
  refine⟨rfl,rfl,_,_,_,.int .u8 x,hm,rfl,?_⟩
  simp only[aa,ae]
  refine(if_neg (by omega:¬(1:Nat)=0)).mpr ?_
  refine⟨[],_,R,hs,?_⟩
  exact hQ (.string ⟨#[x.toNat.toUInt8]⟩) [(b',_)] rfl
def pnV(P:Program)(n:Nat)(p:Oper)(e:Env):Option (Nat×Nat):=match p.op with
 | .binOp .neq T x y _=>match aZ P T with
  |some ⟨.pointer E,_,_,_⟩=>match aZ P E with
   |some te=>bif Nat.blt 0 te.size then (match bp n e x with
    |some (.pointer (some ⟨b,0,none⟩))=>match bp n e y with
     |some (.pointer (some ⟨c,0,none⟩))=>some (b,c)
     |_=>none
    |_=>none) else none
   |none=>none
  |_=>none
 |_=>none
theorem an7{dep:Nat}{t:TypeId}{sz2 BG:Nat}{z z2:List Value}{ag2:Bool}(tf:TF P t (.pointer E) sz bD z ag){d:TypeDesc}(rh:TF P E d sz2 BG z2 ag2)(hs:sz2≠0)(a:Addr):EqD P (dep+1) t (.pointer (some a)) (.pointer (some a)) true:=by
 intro α s kk Q Er
 simp only[Op.equalIn,aa,a8 tf,cv rh,hs,ne_eq,not_false_eq_true,if_true,sameAddr,beq_self_eq_true,ae]
theorem jpn(hj:J X (nH [] (.bool false) [] o))(hv:fx X.n (pnV X.P X.n) o=some (b,b):=by kernel_rfl)(hB:eA [] o=some []:=by kernel_rfl):J X o:=by
 refine jS (Φ:=fun u L'=>u= .bool false∧L'=[]) [] [] hv hB (fun p e hf=>?_) (fun u L' qF=>by obtain⟨rfl,rfl⟩:=qF;exact hj)
 unfold pnV at hf
 split at hf<;>try (cases hf;done)
 rename_i T x y T2 aA
 split at hf<;>try (cases hf;done)
 rename_i E' _ _ _ ee
 split at hf<;>try (cases hf;done)
 rename_i te uy
 cases hc:Nat.blt 0 te.size with
 |false=>rw[hc] at hf;cases hf
 |true=>
  rw[hc] at hf
  simp only[cond_true] at hf
  split at hf<;>try (cases hf;done)
  rename_i b' hx
  split at hf<;>try (cases hf;done)
  rename_i c' hy
  simp only[Option.some.injEq,Prod.mk.injEq] at hf
  obtain⟨rfl,rfl⟩:=hf
  obtain⟨bD,tf⟩:=aw ee
  obtain⟨BG,rh⟩:=aw uy
  have hc:0 <te.size:=by rwa[Nat.blt_eq] at hc
  refine⟨by rw[aA];simp,fun R Q Er hQ=>?_⟩
  have hs:te.size≠0:=by omega
  simp only[execOp,aA,aG hx,aG hy,eqGuard,aa,binOp,Op.equal,Op.maxDepth]
  simp only[Bool.not_true,Bool.false_eq_true,if_false,ae,aa]
  rw[an7 (dep:=9999) tf rh hs]
  exact hQ _ _ ⟨rfl,rfl⟩
end
attribute [irreducible] smV smA smL smR sdV usV pnV
section
variable {X:Cx} {o:Option JS}
def s0V(P:Program)(n:Nat)(p:Oper)(e:Env):Option (Addr×Nat×Nat):=match p.op with
 | .slice T x none (some y) none=>match aZ P T with
  |some ⟨.slice E,_,_,_⟩=>match aZ P E with
   |some _=>match bp n e x with
    |some (.slice (some ⟨b,0,none⟩) l c)=>match bp n e y with
     |some (.int .i64 0)=>some (⟨b,0,none⟩,l,c)
     |_=>none
    |_=>none
   |none=>none
  |_=>none
 |_=>none
theorem js0{a:Addr}{l c:Nat}(hj:J X (kB (.slice (some a) 0 c) o))(hv:dP X.n (s0V X.P X.n) o=some (a,l,c):=by kernel_rfl):J X o:=by
 refine jG hv (fun s p e ho hh hf=>?_) hj
 unfold s0V at hf
 split at hf<;>try (cases hf;done)
 rename_i T x y aA
 split at hf<;>try (cases hf;done)
 rename_i E _ _ _ ee
 split at hf<;>try (cases hf;done)
 rename_i te uy
 split at hf<;>try (cases hf;done)
 rename_i b l' c' hx
 split at hf<;>try (cases hf;done)
 rename_i hy
 simp only[Option.some.injEq,Prod.mk.injEq] at hf
 obtain⟨rfl,rfl,rfl⟩:=hf
 obtain⟨bD,tf⟩:=aw ee
 obtain⟨BG,rh⟩:=aw uy
 have key:∀s,Yields X.P X.n e p s (.slice (some ⟨b,0,none⟩) 0 c'):=by
  intro s s' nF f hf K E hK
  have hb:(0:Int)≤0∧(0:Int)≤(c':Int):=by omega
  simp only[execOp,aA,Option.map_some,Option.map_none,Instr.sliceAt,Instr.slice,hf _ _ hx,hf _ _ hy,aa,a8 tf,Instr.sliceBounds,Instr.sliceBound,asIntOf,ae,hb,and_self,if_true,cv rh]
  have he:(if c'=0 then (some ⟨b,0,none⟩:Option Addr) else some ((⟨b,0,none⟩:Addr).add (0*te.size)))=some ⟨b,0,none⟩:=by
   split
   ·rfl
   simp[dY]
  rw[show (0:Int).toNat=0 from rfl,he]
  exact hK
 exact⟨by rw[aA];rfl,fun _=>key _,fun _=>key⟩
end
attribute [irreducible] s0V
section
variable {X:Cx} {o:Option JS}
def cpV(P:Program)(n:Nat)(p:Oper)(e:Env):Option Nat:=match p.op with
 | .call ⟨.builtin .cap,⟨[x]⟩,⟨[T]⟩⟩=>match aZ P T with
  |some ⟨.slice _,_,_,_⟩=>match bp n e x with
   |some (.slice _ _ c)=>some c
   |_=>none
  |_=>none
 |_=>none
theorem jcp{c:Nat}(hj:J X (kB (.int .i64 (c:Int)) o))(hv:dP X.n (cpV X.P X.n) o=some c:=by kernel_rfl):J X o:=by
 refine jG hv (fun s p e ho hh hf=>?_) hj
 unfold cpV at hf
 split at hf<;>try (cases hf;done)
 rename_i x T aA
 split at hf<;>try (cases hf;done)
 rename_i ee
 split at hf<;>try (cases hf;done)
 rename_i a l c' hx
 simp only[Option.some.injEq] at hf
 subst hf
 obtain⟨bD,tf⟩:=aw ee
 have key:∀s,Yields X.P X.n e p s (.int .i64 (c':Int)):=by
  intro s s' nF f hf K E hK
  simp only[execOp,aA,resolve,invoke,builtin,List.map_toArray,List.map_cons,List.map_nil,hf _ _ hx,ae,aa,Builtin.cap_,List.getElem?_toArray,List.getElem?_cons_zero,a8 tf]
  exact hK
 exact⟨by rw[aA];rfl,fun _=>key _,fun _=>key⟩
end
attribute [irreducible] cpV
def tkO(is:List Nat)(o:Option JS):List Sg:=(rB is o).getD []
theorem aQQ{X:Cx}{ι:Type}(is:List Nat)(p:List Nat)(Ks:List (Act→St→Prop))(ef:ι→Env)(wf:ι→List Sg)(Inv:ι→Prop)(μ:ι→Nat)(i0:ι)(h0:Inv i0)(ps:List Nat)(hb:∀i,Inv i→∀K,xw X K ef (fun i=>wf i++tkO is o) Inv μ (μ i)→∀rest,J X (stW X.P X.fn p (Ks++[K]) (ef i++rest) (wf i++tkO is o)))
 (h1:uW (pU (ef i0)) o=some (ef i0):=by kernel_rfl)(hd:∀i,lkE (pU (ef i)) (ef i)=some (ef i):=by intro _;kernel_rfl)(h2:rB ps o=some (wf i0++tkO is o):=by kernel_rfl)(hp:∀K,JN X.P X.fn p (Ks++[K])=lpB K (yD o):=by intro _;kernel_rfl):J X o:=
 ek p Ks ef (fun i=>wf i++tkO is o) Inv μ i0 h0 ps hb h1 hd h2 hp
attribute [irreducible] tkO
abbrev RCG(ro:Nat→Option Obj)(Φ:Value→(Nat→Option Obj)→Cells→Prop)(fr:Cells):Ending→St→Prop:=fun en s'=>∃v aK Y,en= .returned v∧Sub ro aK∧(⟨aK,Y++fr⟩:St).le s'∧Φ v aK Y
def ax4(P:Program)(f:FuncId)(args:List Value)(ro:Nat→Option Obj)(own:Cells)(Φ:Value→(Nat→Option Obj)→Cells→Prop):Prop:=
 ∀fr,Fn (C0 P) P f ⟨args⟩ ⟨ro,own++fr⟩ (RCG ro Φ fr)
theorem aCG(hm:P.follows .mixedOrders=true){ro:Nat→Option Obj}{L:Cells}(own:List Sg)(kn:Cells)(hk:Knows ro kn)(h:∀fr,J (XC P hm f ro (RCG ro Φ fr)) (lg P f args (own++[.l fr]) kn))(hL:den own=L:=by rfl):ax4 P f args ro L Φ:=by
 subst hL
 intro fr
 have h:=h fr
 unfold lg at h
 split at h<;>try exact h.elim
 rename_i fn hf
 split at h<;>try exact h.elim
 rename_i c hc
 cases hl:Nat.ble args.length fn.ntmps with
 |false=>rw[hl] at h;exact h.elim
 |true=>
  rw[hl] at h
  have vk:tE P f=fn:=by simp only[tE,hf]
  have:=h hk
  simp only[JP,XC,KQ,vk] at this
  have hd:den (own++[.l fr])=den own++fr:=by rw[lP];rfl
  rw[hd] at this
  exact Lu xT hf hc hl this
section
variable {X:Cx} {o:Option JS}
theorem amT{vs:List Value}{own:Cells}(ps:List Nat)(hC:∀main T,X.C main T→C0 X.P main T)(hf:ax4 X.P f vs X.ro own Φ)(hj:∀v aK Y,Sub X.ro aK→Φ v aK Y→J (X.at aK) (nH ps v Y o))(h1:fx X.n (yG X.P X.n) o=some (f,vs):=by kernel_rfl)(h2:eA ps o=some own:=by kernel_rfl):J X o:=by
 obtain⟨ops,i,todo,k,e,w,kn,p,rfl,ho,hw,hc⟩:=dG h1
 obtain⟨ff,x,xs,at_,fi,ca,ws,aA,hx,sB,rfl⟩:=qZ hc
 intro bY
 rcases p with ⟨dst,op,ty,pos,db,g⟩
 dsimp only at aA;subst aA
 have hp:=bL h2
 have vk:Fn X.C X.P f ⟨fi++ws++ca⟩ ⟨X.ro,den w⟩ (RCG X.ro Φ (den (dL ps 0 w))):=fun main T hT c cs k1 k2=>
  (X.hC main T hT).mono _ ⟨X.ro,own++den (dL ps 0 w)⟩ _ (dZ (J:=[]) (by rw[List.append_nil];exact hp) (Sub.refl _)) (Fn.weaken hC (hf _) main T hT c cs k1 k2)
 refine ur (fi:=⟨fi⟩) (ca:=⟨ca⟩) (ws:=fi++ws++ca) X.hC ho hw hx ff sB (Sq fi ws ca) vk (fun v' s' hr=>?_) (fun ch s' hr=>by obtain⟨_,_,_,e,_⟩:=hr;cases e) (fun s' hr=>by obtain⟨_,_,_,e,_⟩:=hr;cases e)
 obtain⟨v,aK,Y,hv,hs,hle,qF⟩:=hr
 cases hv
 have:=hj _ aK Y hs qF
 rw[oC ho] at this
 have:=this (bY.up hs)
 simp only[JP,gI,IC] at this
 exact this.more X.hC hle
theorem auc{Φ:Value→Cells→Prop}(hq:QR X (RC pZ fr Φ))(v:Value)(hs ps:List Nat)(Y:Cells)(fM:Sub pZ X.ro)(hR:Φ v Y)(h1:tC (j8 X.P X.n X.fn hs o)=some v:=by kernel_rfl)(h2:S6 (j8 X.P X.n X.fn hs o)=S5 (j8 X.P X.n X.fn hs o):=by kernel_rfl)(h3:eA ps o=some (Y++fr):=by kernel_rfl)(h4:Dg o=true:=by kernel_rfl):J X o:=
 aH hq v hs ps (Y++fr) fM ⟨v,Y,rfl,St.le_refl _,hR⟩ h1 h2 h3 h4
theorem aCH{Φ:Value→Cells→Prop}(hq:QR X (RC pZ fr Φ))(v:Value)(ps:List Nat)(A B:Cells)(fM:Sub pZ X.ro)(hR:Φ v (A++B))(h1:tC (j8 X.P X.n X.fn [] o)=some v:=by kernel_rfl)(h2:S6 (j8 X.P X.n X.fn [] o)=S5 (j8 X.P X.n X.fn [] o):=by kernel_rfl)(h3:eA ps o=some (A++(B++fr)):=by kernel_rfl)(h4:Dg o=true:=by kernel_rfl):J X o:=
 aH hq v [] ps ((A++B)++fr) fM ⟨v,A++B,rfl,St.le_refl _,hR⟩ h1 h2 (by rw[h3,List.append_assoc]) h4
theorem aQJ(hq:QR X (RCG pZ Φ fr))(v:Value)(ps:List Nat)(Y:Cells)(fM:Sub pZ X.ro)(hR:Φ v X.ro Y)(h1:tC (j8 X.P X.n X.fn [] o)=some v:=by kernel_rfl)(h2:S6 (j8 X.P X.n X.fn [] o)=S5 (j8 X.P X.n X.fn [] o):=by kernel_rfl)(h3:eA ps o=some (Y++fr):=by kernel_rfl)(h4:Dg o=true:=by kernel_rfl):J X o:=
 aH hq v [] ps (Y++fr) (Sub.refl _) ⟨v,X.ro,Y,rfl,fM,St.le_refl _,hR⟩ h1 h2 h3 h4
end
theorem TG{fn:Func}{c:Code}{R:Ending→St→Prop}{s:St}{os:Os}{out:Array (Nat×ByteArray)}{Post:Value→World→Prop}(hf:P.funcs[f]?=some fn) (hb:fn.body=some c) (hl:Nat.ble args.length fn.ntmps=true) (hi:P.inits.idxOf? f=none)
 (Rl:∀v s0 w,R (.returned v) s0→aS s0 w→w.os=os→w.output=out→Post v w) (IM:∀ch s,¬R (.panicked ch) s)
 (h:Wp (C0 P) f none c (rO P fn R) (A fn.ntmps (fZ 0 args) []) s):T0 P os out Post (G (Frame.enter P f ⟨args⟩ .normal) []) s:=by
 have hT:C0 P true (T0 P os out Post):=⟨rfl,os,out,Post,rfl⟩
 have iZ:=sV P os out Post
 let b:Frame:={(default:Frame) with fn:=f,kind:= .normal,roundOf:=none}
 have iA:Frame.enter P f ⟨args⟩ .normal=aL b (A fn.ntmps (fZ 0 args) []) [.code c]:=by
  rw[←k8 args fn.ntmps (Nat.le_of_ble_eq_true hl)]
  simp[Frame.enter,aL,hf,hb,b]
 rw[iA]
 refine h true _ hT b [] [] rfl (by simp[b]) rfl fun e a' s' q=>?_
 have last:∀(todo:List Item),a'.defers=[]→bR P (results fn a'.tmps) s' (fun v s'=>∃s0,s0.le s'∧R (.returned v) s0) (fun _ _=>False)→T0 P os out Post (G {aL b a' todo with mode:= .returning} []) s':=by
  intro todo hd hr
  refine Zs rfl fun w p6 tO EY=>?_
  obtain⟨r,es,bX,hl⟩:=gX _ _ _ _ w #[] hr p6
  rw[Array.empty_append] at bX
  cases r with
  |ok v w'=>
   obtain⟨s2,ht,s0,hle,hu⟩:=hl
   refine⟨v,w',seen P f es,s2,?_,Rl v s0 w' hu (aS.of_le hle ht.jV) (ht.os.trans tO) (ht.output.trans EY),ht.sub (iP _ _ _)⟩
   simp only[aL,b,G,stepG,unwind,hf,hd,bX,doReturn,hi,GStep.after,Array.append_empty,Bool.not_true,Bool.false_eq_true,if_false]
  |halt _ _=>obtain⟨_,_,hu⟩:=hl;exact hu.elim
 cases e with
 |normal=>exact iZ.go rfl rfl (g':=G {aL b a' [] with mode:= .returning} []) (fun w=>by simp[G,stepG,stepG.exec,aL,b]) (last _ q.1 q.2)
 |ret=>exact fun todo=>iZ.go rfl rfl (g':=G {aL b a' (.code .ret::todo) with mode:= .returning} []) (fun w=>by simp[G,stepG,stepG.exec,aL,b]) (last _ q.1 q.2)
 |panic ch=>exact(IM _ _ q.2).elim
 |exit id=>exact q.elim
 |goto l=>exact q.elim
 |outgrown=>exact q.elim
def aq8(P:Program)(f:FuncId)(args:List Value)(ro:Nat→Option Obj)(Φ:Value→Cells→Prop):Prop:=
 ∀os out (Post:Value→World→Prop),(∀v Y w,Φ v Y→aS ⟨ro,Y⟩ w→w.os=os→w.output=out→Post v w)→T0 P os out Post (G (Frame.enter P f ⟨args⟩ .normal) []) ⟨ro,[]⟩
theorem aCE(hm:P.follows .mixedOrders=true){ro:Nat→Option Obj}{Φ:Value→Cells→Prop}(hi:P.inits.idxOf? f=none)(kn:Cells)(hk:Knows ro kn)(h:∀fr,J (XC P hm f ro (RC ro fr Φ)) (lg P f args [.l fr] kn)):aq8 P f args ro Φ:=by
 intro os out Post Rl
 have h:=h []
 unfold lg at h
 split at h<;>try exact h.elim
 rename_i fn hf
 split at h<;>try exact h.elim
 rename_i c hc
 cases hl:Nat.ble args.length fn.ntmps with
 |false=>rw[hl] at h;exact h.elim
 |true=>
  rw[hl] at h
  have vk:tE P f=fn:=by simp only[tE,hf]
  have:=h hk
  simp only[JP,XC,KQ,vk] at this
  refine TG hf hc hl hi (fun v s0 w hr p6 tO EY=>?_) (fun ch s hr=>?_) this
  ·obtain⟨v',Y,e,hle,qF⟩:=hr
   cases e
   refine Rl _ Y w qF ?_ tO EY
   have:=aS.of_le hle p6
   rwa[List.append_nil] at this
  obtain⟨v',Y,e,_⟩:=hr;cases e
open Go.Proofs
theorem av:Tryz.prog.follows .mixedOrders=true:=by kernel_rfl
theorem zB:(∀a b:Bool,((a&&b)=true)=(a=true∧b=true))∧(∀a b:Bool,((a||b)=true)=(a=true∨b=true))∧(∀a b:Bool,((a&&b)=false)=(a=false∨b=false))∧(∀a b:Bool,((a||b)=false)=(a=false∧b=false))∧(∀b:Bool,((!b)=true)=(b=false))∧(∀b:Bool,((!b)=false)=(b=true))∧(∀(p:Prop) [Decidable p],(decide p=true)=p)∧(∀(p:Prop) [Decidable p],(decide p=false)=¬p)∧((¬True)=False)∧(∀p:Prop,(p∨False)=p)∧(∀p:Prop,(False∨p)=p):=
 ⟨Bool.and_eq_true,Bool.or_eq_true,by simp,by simp,by simp,by simp,by simp,by simp,by simp,by simp,by simp⟩
@[reducible] noncomputable def zT:Program:=Tryz.prog
abbrev zS:Value:= .slice none 0 0
abbrev zP(b:Nat):Value:= .pointer (some ⟨b,0,none⟩)
abbrev zI(n:Int):Value:= .int .i64 n
abbrev zU(n:Int):Value:= .int .u64 n
abbrev zO:List Value:=[zS,zS,zS,zS,zS,zS,zS,zS,zI 0,zI 0,zI 0,zS]
theorem zG(l:List α)(k:Nat)(h:k <l.length:=by omega):∃x,l[k]?=some x:=⟨_,List.getElem?_eq_getElem h⟩
theorem zJ{X:Cx}(t:Nat)(p:Prop)[Decidable p](h1:p→J X (Pw t (.bool true) o))(h2:¬p→J X (Pw t (.bool false) o))(hv:J3 t o=some (.bool (decide p)):=by kernel_rfl):J X o:=
 js t (decide p) (fun h=>h1 (of_decide_eq_true h)) (fun h=>h2 (of_decide_eq_false h)) hv
theorem zD{X:Cx}(k:Nat)(h:J X (res (adv X.P X.n k [] o)))(he:lhs (adv X.P X.n k [] o)=rhs (adv X.P X.n k [] o):=by kernel_rfl):J X o:=jd k [] h he
def iC(n lo hi:Int):Bool:=decide (lo≤n)&&decide (n≤hi)
theorem eR{ro:Nat→Option Obj}:dz zT 44 [zI n,zI lo,zI hi] ro (.bool (iC n lo hi)):=by
 refine bG av [] [] bh<|zD 10<|jj 4 [(6,.bool false),(14,.bool ((decide (lo≤n))&&(decide (n≤hi))))] (fun ia=>?_) (fun hj=>?_)
 rotate_left
 refine js 10 (decide (lo≤n)) (fun h1=>?_) (fun h1=>?_)
 ·
  have gD:=h1
  replace gD:=of_decide_eq_true gD
  refine zD 4<|jw 14 (.bool ((decide (lo≤n))&&(decide (n≤hi)))) (w:= .bool (decide (n≤hi))) (by rw[h1]<;>rfl) ?_
  exact hj _ (by kernel_rfl) (by kernel_rfl)
 ·
  have gD:=h1
  replace gD:=of_decide_eq_false gD
  refine zD 4<|jw 14 (.bool ((decide (lo≤n))&&(decide (n≤hi)))) (w:= .bool false) (by rw[h1]<;>rfl) ?_
  exact hj _ (by kernel_rfl) (by kernel_rfl)
 refine zD 3<|aH q0 (.bool ((decide (lo≤n))&&(decide (n≤hi)))) [] [] [] (Sub.refl _) ⟨_,_,rfl,rfl,rfl,rfl⟩
theorem jC{ro:Nat→Option Obj}:dz zT 211 [zI n,zI lo,zI hi] ro (.bool (iC n lo hi)):=by
 refine bG av [] [] bh<|zD 10<|jj 4 [(6,.bool false),(14,.bool ((decide (lo≤n))&&(decide (n≤hi))))] (fun ia=>?_) (fun hj=>?_)
 rotate_left
 refine js 10 (decide (lo≤n)) (fun h1=>?_) (fun h1=>?_)
 ·
  have gD:=h1
  replace gD:=of_decide_eq_true gD
  refine zD 4<|jw 14 (.bool ((decide (lo≤n))&&(decide (n≤hi)))) (w:= .bool (decide (n≤hi))) (by rw[h1]<;>rfl) ?_
  exact hj _ (by kernel_rfl) (by kernel_rfl)
 ·
  have gD:=h1
  replace gD:=of_decide_eq_false gD
  refine zD 4<|jw 14 (.bool ((decide (lo≤n))&&(decide (n≤hi)))) (w:= .bool false) (by rw[h1]<;>rfl) ?_
  exact hj _ (by kernel_rfl) (by kernel_rfl)
 refine zD 3<|aH q0 (.bool ((decide (lo≤n))&&(decide (n≤hi)))) [] [] [] (Sub.refl _) ⟨_,_,rfl,rfl,rfl,rfl⟩
def bP(p:α→Bool):List α→Nat→Int
 | [],_=> -1
 |x::l,k=>bif p x then k else bP p l (k+1)
theorem fI{l:List α}{x:α}(h:l[k]?=some x):l.drop k=x::l.drop (k+1):=by
 obtain⟨h1,h2⟩:=List.getElem?_eq_some_iff.1 h
 rw[List.drop_eq_getElem_cons h1,h2]
theorem eO{l:List α}(h:¬k <l.length):l.drop k=[]:=List.drop_eq_nil_of_le (by omega)
theorem gM{p:α→Bool}{l:List α}{x:α}(h:l[k]?=some x):bP p (l.drop k) k=bif p x then (k:Int) else bP p (l.drop (k+1)) (k+1):=by rw[fI h];rfl
theorem nn{p:α→Bool}{l:List α}(h:¬k <l.length):bP p (l.drop k) k= -1:=by rw[eO h];rfl
abbrev cq(x:Int):List Value:=[zI x]
theorem at3{v:Value}{ro:Nat→Option Obj}(hl:bH ro v 1 cq xs)(hn:xs.length≤1000000):dz zT 24 [v,zI n] ro (zI (bP (fun y=>decide (y=n)) xs 0)):=by
 obtain⟨fL,sj,si,fp,rfl,tZ,lU,mS⟩:=hl
 refine bG av [] [] bh<|zD 10<|ek [1,0,1,0,0] [] (fun(zz:Nat)=>[(0,.slice fL xs.length fp),(1,zI n),(5,zI (zz:Int))]) (fun(zz:Nat)=>[]) (fun(zz:Nat)=>zz≤xs.length∧bP (fun y=>decide (y=n)) xs 0=bP (fun y=>decide (y=n)) (xs.drop zz) zz) (fun(zz:Nat)=>xs.length-zz) 0 ⟨by omega,rfl⟩ [] ?_
 rintro k hI K1 bM rest
 refine zD 8<|zJ 9 ((k:Int) <(xs.length:Int)) (fun h1=>?_) fun h1=>?_
 ·
  refine zD 8 ?_
  obtain⟨eF,dK⟩:=zG xs k
  refine iM fp 1 lU dK<|jl 0 (mS _ _ dK)<|zD 3<|zJ 17 (eF=n) (fun h2=>?_) fun h2=>?_
  ·
   refine zD 7<|aH q0 (zI (k:Int)) [] [] [] (Sub.refl _) ⟨_,_,rfl,rfl,by rw[hI.2,gM dK];simp[*],rfl⟩
  refine zD 4<|ja ((k:Int)+1) (by omega)<|zD 2<|bA bM (k+1) ⟨by omega,by rw[hI.2,gM dK];simp[*]⟩ (by omega) [] (Sub.refl _)
 refine zD 7<|aH q0 (zI (-1)) [] [] [] (Sub.refl _) ⟨_,_,rfl,rfl,by rw[hI.2,nn (by omega)],rfl⟩
def cD(n:Nat):List Int:=(List.range n).map fun(i:Nat)=>(i:Int)
theorem vY(n:Nat):cD (n+1)=cD n++[(n:Int)]:=by simp[cD,List.range_succ]
theorem iv(n:Nat):(cD n).length=n:=by simp[cD]
def aW(v:Value)(xs:List Int)(d:Nat)(X:Cells):Prop:=∃(k:Nat) (cP:Int),k≤xs.length∧X=[(d,.cells ⟨[v,zI k,zU cP]⟩ 70 (0,0))]
def Dn(ro:Nat→Option Obj)(v:Value)(xs:List Int):Prop:=bH ro v 1 cq xs∧xs.length≤4611686018427387904
theorem Dn.up{ro:Nat→Option Obj}{v:Value}(h:Dn ro v xs)(hs:Sub ro aK):Dn aK v xs:=⟨h.1.up hs,h.2⟩
theorem toNonzero(h0:¬n <1)(h1:n≤1000000):IntKind.u64.wrap (n+1)≠0:=by
 rw[sN .u64 rfl _ (by omega) (by simp[IntKind.bits];omega)];omega
theorem toRange{w:Int}(h0:¬n <1)(h1:n≤1000000)(hw:0≤w):0≤IntKind.i64.wrap (Int.tmod (aT .u64 w 16) (IntKind.u64.wrap (n+1)))∧IntKind.i64.wrap (Int.tmod (aT .u64 w 16) (IntKind.u64.wrap (n+1)))≤n:=by
 have e:IntKind.u64.wrap (n+1)=n+1:=sN .u64 rfl _ (by omega) (by simp[IntKind.bits];omega)
 rw[e]
 have h2:0≤aT .u64 w 16:=Int.fdiv_nonneg hw (by decide)
 have h3:=Int.tmod_nonneg (n+1) h2
 have h4:=Int.tmod_lt_of_pos (aT .u64 w 16) (show 0 <n+1 by omega)
 rw[kL _ (by omega)]
 omega
theorem aV6{ro:Nat→Option Obj}(hN:Dn ro vd xs)(hD:aW vd xs d X):eV zT 42 [zP d] ro X (fun r Y=>∃w:Int,r= zU w∧0≤w∧w <18446744073709551616∧aW vd xs d Y):=by
 obtain⟨k,cP,hk,rfl⟩:=hD
 obtain⟨hl,hn⟩:=hN
 obtain⟨fL,sj,si,fp,rfl,tZ,lU,mS⟩:=hl
 refine bG av [.b d (.cells ⟨[.slice fL xs.length fp,zI (k:Int),zU cP]⟩ 70 (0,0))] [] bh<|jd 19 [0,0]<|aM 13 fun B4 Cc yy=>jd 1 [0]<|gY yy []<|jd 16 [0,0]<|aM 13 fun B3 Cb zp=>jd 1 [0]<|gY zp []<|jd 16 [0,0]<|aM 13 fun rZ r8 p8=>jd 1 [0]<|gY p8 []<|jd 15 [0,0]<|zJ 52 ((k:Int) <(xs.length:Int)) (fun h4=>?_) fun h4=>?_
 ·
  refine jd 16 [0,0,0] ?_
  obtain⟨x66,G3⟩:=zG xs k
  refine iM fp 1 lU G3<|jl 0 (mS _ _ G3)<|zD 5<|aM 20 fun sL sR rn=>jd 1 [0]<|gY rn []<|jd 6 [0]<|ja ((k:Int)+1) (by omega)<|jd 30 [0,0]<|aH q0 (zU (da .u64 (IntKind.u64.wrap ((da .u64 (IntKind.u64.wrap ((da .u64 (da .u64 (da .u64 cP (dJ .u64 cP 13)) (aT .u64 (da .u64 cP (dJ .u64 cP 13)) 7)) (dJ .u64 (da .u64 (da .u64 cP (dJ .u64 cP 13)) (aT .u64 (da .u64 cP (dJ .u64 cP 13)) 7)) 17))+(IntKind.u64.wrap ((IntKind.u64.wrap x66)*13787848793156543929)))) (aT .u64 (IntKind.u64.wrap ((da .u64 (da .u64 (da .u64 cP (dJ .u64 cP 13)) (aT .u64 (da .u64 cP (dJ .u64 cP 13)) 7)) (dJ .u64 (da .u64 (da .u64 cP (dJ .u64 cP 13)) (aT .u64 (da .u64 cP (dJ .u64 cP 13)) 7)) 17))+(IntKind.u64.wrap ((IntKind.u64.wrap x66)*13787848793156543929)))) 30))*10723151780598845931)) (aT .u64 (IntKind.u64.wrap ((da .u64 (IntKind.u64.wrap ((da .u64 (da .u64 (da .u64 cP (dJ .u64 cP 13)) (aT .u64 (da .u64 cP (dJ .u64 cP 13)) 7)) (dJ .u64 (da .u64 (da .u64 cP (dJ .u64 cP 13)) (aT .u64 (da .u64 cP (dJ .u64 cP 13)) 7)) 17))+(IntKind.u64.wrap ((IntKind.u64.wrap x66)*13787848793156543929)))) (aT .u64 (IntKind.u64.wrap ((da .u64 (da .u64 (da .u64 cP (dJ .u64 cP 13)) (aT .u64 (da .u64 cP (dJ .u64 cP 13)) 7)) (dJ .u64 (da .u64 (da .u64 cP (dJ .u64 cP 13)) (aT .u64 (da .u64 cP (dJ .u64 cP 13)) 7)) 17))+(IntKind.u64.wrap ((IntKind.u64.wrap x66)*13787848793156543929)))) 30))*10723151780598845931)) 31))) [] [0] [(d,.cells ⟨[.slice fL xs.length fp,zI ((k:Int)+1),zU (IntKind.u64.wrap ((da .u64 (da .u64 (da .u64 cP (dJ .u64 cP 13)) (aT .u64 (da .u64 cP (dJ .u64 cP 13)) 7)) (dJ .u64 (da .u64 (da .u64 cP (dJ .u64 cP 13)) (aT .u64 (da .u64 cP (dJ .u64 cP 13)) 7)) 17))+(IntKind.u64.wrap ((IntKind.u64.wrap x66)*13787848793156543929))))]⟩ 70 (0,0))] (Sub.refl _) ⟨_,_,rfl,rfl,_,rfl,(uw _ _).1,(uw _ _).2,k+1,_,(by omega),rfl⟩
 refine jd 28 [0]<|aH q0 (zU (da .u64 (IntKind.u64.wrap ((da .u64 (da .u64 (da .u64 (da .u64 cP (dJ .u64 cP 13)) (aT .u64 (da .u64 cP (dJ .u64 cP 13)) 7)) (dJ .u64 (da .u64 (da .u64 cP (dJ .u64 cP 13)) (aT .u64 (da .u64 cP (dJ .u64 cP 13)) 7)) 17)) (aT .u64 (da .u64 (da .u64 (da .u64 cP (dJ .u64 cP 13)) (aT .u64 (da .u64 cP (dJ .u64 cP 13)) 7)) (dJ .u64 (da .u64 (da .u64 cP (dJ .u64 cP 13)) (aT .u64 (da .u64 cP (dJ .u64 cP 13)) 7)) 17)) 30))*10723151780598845931)) (aT .u64 (IntKind.u64.wrap ((da .u64 (da .u64 (da .u64 (da .u64 cP (dJ .u64 cP 13)) (aT .u64 (da .u64 cP (dJ .u64 cP 13)) 7)) (dJ .u64 (da .u64 (da .u64 cP (dJ .u64 cP 13)) (aT .u64 (da .u64 cP (dJ .u64 cP 13)) 7)) 17)) (aT .u64 (da .u64 (da .u64 (da .u64 cP (dJ .u64 cP 13)) (aT .u64 (da .u64 cP (dJ .u64 cP 13)) 7)) (dJ .u64 (da .u64 (da .u64 cP (dJ .u64 cP 13)) (aT .u64 (da .u64 cP (dJ .u64 cP 13)) 7)) 17)) 30))*10723151780598845931)) 31))) [] [0] [(d,.cells ⟨[.slice fL xs.length fp,zI (k:Int),zU (da .u64 (da .u64 (da .u64 cP (dJ .u64 cP 13)) (aT .u64 (da .u64 cP (dJ .u64 cP 13)) 7)) (dJ .u64 (da .u64 (da .u64 cP (dJ .u64 cP 13)) (aT .u64 (da .u64 cP (dJ .u64 cP 13)) 7)) 17))]⟩ 70 (0,0))] (Sub.refl _) ⟨_,_,rfl,rfl,_,rfl,(uw _ _).1,(uw _ _).2,k,_,(by omega),rfl⟩
theorem xQ{ro:Nat→Option Obj}(hN:Dn ro vd xs)(hD:aW vd xs d X)(hn:n≤1000000):eV zT 10 [zP d,zI n] ro X (fun r Y=>∃w:Int,r= zI w∧0≤w∧(w≤n∨w=0)∧aW vd xs d Y):=by
 refine bG av [.l X] [] bh<|zD 10<|zJ 6 (n <1) (fun h1=>?_) fun h1=>?_
 ·
  refine zD 6<|aH q0 (zI 0) [] [0] X (Sub.refl _) ⟨_,_,rfl,rfl,_,rfl,(by omega),(by omega),hD⟩
 refine zD 5<|jc [0] (aV6 hN hD) ?_
 rintro _ X8 ⟨w8,rfl,hw8,hx8,hD8⟩
 refine zD 2<|ja (n+1) (by omega)<|zD 1<|jrm (k:= .u64) (a:=(aT .u64 w8 16)) (b:=(IntKind.u64.wrap (n+1))) 68 (toNonzero h1 hn)<|zD 4<|aH q0 (zI (IntKind.i64.wrap (Int.tmod (aT .u64 w8 16) (IntKind.u64.wrap (n+1))))) [] [0] X8 (Sub.refl _) ⟨_,_,rfl,rfl,_,rfl,(toRange h1 hn hw8).1,.inl (toRange h1 hn hw8).2,hD8⟩
theorem u4{ro:Nat→Option Obj}(hN:Dn ro vd xs)(hD:aW vd xs d X)(Be: -1000≤lo∧lo≤1000)(hhi: -1000≤hi∧hi≤1000):eV zT 32 [zP d,zI lo,zI hi] ro X (fun r Y=>∃w:Int,r= zI w∧lo≤w∧(w≤hi∨w=lo)∧aW vd xs d Y):=by
 refine bG av [.l X] [] bh<|zD 10<|ja (hi-lo) (by omega)<|jc (vs:=[zP d,zI (hi-lo)]) [0] (xQ hN hD (by omega)) ?_
 rintro _ X12 ⟨w12,rfl,beZ,qH,aVt⟩
 refine ja (lo+w12) (by omega)<|zD 3<|aH q0 (zI (lo+w12)) [] [0] X12 (Sub.refl _) ⟨_,_,rfl,rfl,_,rfl,(by omega),(by omega),aVt⟩
theorem nq{ro:Nat→Option Obj}(hN:Dn ro vd xs)(hD:aW vd xs d X)(hn:0≤n∧n≤1000):eV zT 27 [zP d,zI n] ro X (fun r Y=>∃w:Bool,r= .bool w∧aW vd xs d Y):=by
 refine bG av [.l X] [] bh<|zD 8<|ja (n-1) (by omega)<|jc (vs:=[zP d,zI (n-1)]) [0] (xQ hN hD (by omega)) ?_
 rintro _ X8 ⟨w8,rfl,hw8,hx8,hD8⟩
 refine zD 4<|aH q0 (.bool (decide (w8=0))) [] [0] X8 (Sub.refl _) ⟨_,_,rfl,rfl,_,rfl,hD8⟩
def bs(l:List Nat):ByteArray:=⟨(l.map UInt8.ofNat).toArray⟩
abbrev qg(x:ByteArray):List Value:=[.string x]
structure cb where
 f:ByteArray
 t:ByteArray
abbrev iV(x:cb):List Value:=[.string x.f,.string x.t]
structure aj where
 name:ByteArray
 st:Int
 no:Int
 head:Int
 bold:Bool
variable {x:aj}
abbrev cU(x:aj):List Value:=[.string x.name,.int .i64 x.st,.int .i64 x.no,.int .i64 x.head,.bool x.bold]
structure dc where
 a:Int
 b:Int
 same:Bool
variable {fs:List dc}
abbrev xa(x:dc):List Value:=[.int .i64 x.a,.int .i64 x.b,.bool x.same]
structure bQ where
 name:ByteArray
 under:Int
variable {cs:List bQ}
abbrev pK(x:bQ):List Value:=[.string x.name,.int .i64 x.under]
structure aF where
 k:Int
 st:Int
 ot:Int
 fn:Int
 fl:Int
 tn:Int
 tl:Int
abbrev k9(x:aF):List Value:=[.int .i64 x.k,.int .i64 x.st,.int .i64 x.ot,.int .i64 x.fn,.int .i64 x.fl,.int .i64 x.tn,.int .i64 x.tl]
theorem nX{ps:List α}{x y:α}(h1:ps[i]?=some x) (h2:ps[k]?=some y):((ps.set i y).set k x).Perm ps:=by
 obtain⟨a,rfl⟩:=List.getElem?_eq_some_iff.1 h1
 obtain⟨b,rfl⟩:=List.getElem?_eq_some_iff.1 h2
 exact List.set_set_perm a b
theorem N5{ys:List Int}{ro:Nat→Option Obj}(hN:Dn ro vd xs)(hD:aW vd xs d X)(hm:bH ro vm 1 cq ys)(hy:0 <ys.length∧ys.length≤1000):eV zT 33 [zP d,vm] ro X (fun r Y=>∃w:Int,r= zI w∧w∈ys∧aW vd xs d Y):=by
 obtain⟨qma,qmb,qmo,qmc,rfl,qmk,qmh,qml⟩:=hm
 refine bG av [.l X] [] bh<|zD 10<|ja ((ys.length:Int)-1) (by omega)<|jc (vs:=[zP d,zI ((ys.length:Int)-1)]) [0] (xQ hN hD (by omega)) ?_
 rintro _ X10 ⟨w10,rfl,afW,sA,Vi⟩
 obtain⟨x11,Uw⟩:=zG ys (w10.toNat)
 refine OB w10 qmc 1 qmh Uw (by omega)<|jl 0 (qml _ _ Uw)<|zD 3<|aH q0 (zI x11) [] [0] X10 (Sub.refl _) ⟨_,_,rfl,rfl,_,rfl,List.mem_of_getElem? Uw,Vi⟩
theorem YA{ys:List ByteArray}{ro:Nat→Option Obj}(hN:Dn ro vd xs)(hD:aW vd xs d X)(hm:bH ro vm 1 qg ys)(hy:0 <ys.length∧ys.length≤1000):eV zT 71 [zP d,vm] ro X (fun r Y=>∃w:ByteArray,r= .string w∧w∈ys∧aW vd xs d Y):=by
 obtain⟨qma,qmb,qmo,qmc,rfl,qmk,qmh,qml⟩:=hm
 refine bG av [.l X] [] bh<|zD 10<|ja ((ys.length:Int)-1) (by omega)<|jc (vs:=[zP d,zI ((ys.length:Int)-1)]) [0] (xQ hN hD (by omega)) ?_
 rintro _ X10 ⟨w10,rfl,afW,sA,Vi⟩
 obtain⟨x11,Uw⟩:=zG ys (w10.toNat)
 refine OB w10 qmc 1 qmh Uw (by omega)<|jl 0 (qml _ _ Uw)<|zD 3<|aH q0 (.string x11) [] [0] X10 (Sub.refl _) ⟨_,_,rfl,rfl,_,rfl,List.mem_of_getElem? Uw,Vi⟩
theorem aji{n:Nat}{ro:Nat→Option Obj}(hN:Dn ro vd xs)(hD:aW vd xs d X)(hn:n≤100):eV zT 13 [zP d,zI (n:Int)] ro X (fun r Y=>∃(ps:List Int) (L X':Cells),az r 1 3 cq ps L∧ps.Perm (cD n)∧Y=L++X'∧aW vd xs d X'):=by
 refine bG av [.l X] [] bh<|zD 14<|oL<|ek [1,1,0,1,0,0] [] (fun(zz:Nat×Value×Cells)=>[(0,zP d),(1,zI (n:Int)),(4,zS),(5,zz.2.1),(6,zI (zz.1:Int))]) (fun(zz:Nat×Value×Cells)=>[.l zz.2.2,.l X]) (fun(zz:Nat×Value×Cells)=>zz.1≤n∧az zz.2.1 1 3 cq (cD zz.1) zz.2.2) (fun(zz:Nat×Value×Cells)=>n-zz.1) (⟨0,zS,[]⟩) ⟨by omega,az.nil _ _ _⟩ [0,1] ?_
 rintro⟨k,v,L⟩ hI K1 bM rest
 dsimp only at hI
 refine zD 7<|zJ 12 ((k:Int) <(n:Int)) (fun h1=>?_) fun h1=>?_
 ·
  refine zD 7<|jn fun b17=>jT (sz:=1) (ps:=cD k) (qs:=[(k:Int)]) (enc:=cq) (w:= .slice (some ⟨b17,0,none⟩) 1 1) [1] [0] [(b17,.cells ⟨([(k:Int)].map cq).flatten⟩ 3 (0,0))] (hI.2) (fun s _ hZ=>bN [(k:Int)] (hZ _ (.head _)) (by intro p hp;rfl)) (fun p _=>ar rfl) (by simp[cD];omega) (fun v18 L18 agq=>?_)
  obtain⟨arV,acB,UT⟩:=agq.form
  subst UT
  refine zD 4<|ja ((k:Int)+1) (by omega)<|zD 2<|bA bM (⟨k+1,(.slice arV ((cD k++[(k:Int)])).length acB),L18⟩) ⟨by omega,by rw[vY];exact agq⟩ (by omega) [0,2] (Sub.refl _)
 refine zD 6<|ja ((n:Int)-1) (by omega)<|zD 3<|ek [1,1,1,0,1,0,0] [] (fun(zz:Int×Value×Cells×(List Int)×Cells)=>[(0,zP d),(4,zS),(5,zz.2.1),(7,zI zz.1)]) (fun(zz:Int×Value×Cells×(List Int)×Cells)=>[.l zz.2.2.1,.l zz.2.2.2.2]) (fun(zz:Int×Value×Cells×(List Int)×Cells)=>(-1≤zz.1∧zz.1 <n)∧az zz.2.1 1 3 cq zz.2.2.2.1 zz.2.2.1∧zz.2.2.2.1.Perm (cD n)∧aW vd xs d zz.2.2.2.2) (fun(zz:Int×Value×Cells×(List Int)×Cells)=>zz.1.toNat) (⟨(n:Int)-1,v,L,cD k,X⟩) ⟨by omega,hI.2,(by rw[show k=n by omega]),hD⟩ [0,1] ?_
 rintro⟨j,v,L,ps,X⟩ NL K2 lI rest
 dsimp only at NL
 have hlen:ps.length=n:=by rw[NL.2.2.1.length_eq,iv]
 refine zD 6<|zJ 22 (j>0) (fun h2=>?_) fun h2=>?_
 ·
  refine zD 8<|jc (vs:=[zP d,zI j]) [1] (xQ hN NL.2.2.2 (by omega)) ?_
  rintro _ X27 ⟨w27,rfl,beV,Jp,aVo⟩
  refine zD 6 ?_
  obtain⟨gi,jv⟩:=zG ps (j.toNat)
  refine pW j 1 NL.2.1 jv (by omega) fun b30 NA=>mY 0 [1] L (fun s _ hZ=>bU NL.2.1 NA hZ jv)<|zD 8 ?_
  obtain⟨x36,zd⟩:=zG ps (w27.toNat)
  refine pW w27 1 NL.2.1 zd (by omega) fun dg awk=>mY 0 [1] L (fun s _ hZ=>bU NL.2.1 awk hZ zd) ?_
  obtain⟨x38,Np⟩:=zG ps (j.toNat)
  refine pW j 1 NL.2.1 Np (by omega) fun b38 aUd=>QG 1 0 [zI x36] x36 NL.2.1 aUd Np rfl rfl (Nat.le_of_ble_eq_true rfl) fun L3 ho4=>zD 5 ?_
  obtain⟨x42,Uu⟩:=zG ((ps.set j.toNat x36)) (w27.toNat) (by first|omega| (simp only[List.length_set,List.length_append,List.length_cons,List.length_nil];omega))
  refine pW w27 1 ho4 Uu (by omega) fun b42 aUb=>QG 0 0 [zI gi] gi ho4 aUb Uu rfl rfl (Nat.le_of_ble_eq_true rfl) fun L5 ho6=>zD 3<|ja (j-1) (by omega)<|zD 2<|bA lI (⟨j-1,v,L5,((ps.set j.toNat x36).set w27.toNat gi),X27⟩) ⟨by omega,ho6,(nX jv zd).trans NL.2.2.1,aVo⟩ (by omega) [0,1] (Sub.refl _)
 refine zD 8<|aH q0 (v) [] [0,1] (L++X) (Sub.refl _) ⟨_,_,rfl,rfl,_,_,_,NL.2.1,NL.2.2.1,rfl,NL.2.2.2⟩
theorem RQ(p:Int→Bool)(k:Nat):(cD (k+1)).filter p=bif p (k:Int) then (cD k).filter p++[(k:Int)] else (cD k).filter p:=by
 rw[vY,List.filter_append]
 cases h:p (k:Int)<;>simp[h]
theorem nV{n:Nat}{x:Int}(h:x∈cD n):0≤x∧x <n:=by
 simp only[cD,List.mem_map,List.mem_range] at h
 obtain⟨i,h1,rfl⟩:=h
 omega
theorem sb(n:Nat):(cD n).Pairwise (· < ·):=by
 simp only[cD]
 rw[List.pairwise_map]
 exact List.pairwise_lt_range.imp fun h=>by omega
theorem zv(x:Int)(l:List Int)(k:Nat):x∈l→(k:Int)≤bP (fun y=>decide (y=x)) l k∧∃i,bP (fun y=>decide (y=x)) l k=k+i∧l[i.toNat]?=some x∧0≤i:=by
 induction l generalizing k with
 |nil=>intro h;cases h
 |cons y l ih=>
  intro h
  by_cases e:y=x
  ·subst e
   simp only[bP,decide_true,cond_true]
   exact⟨Int.le_refl _,0,by simp,by simp,by simp⟩
  simp only[bP,e,decide_false,cond_false]
  obtain⟨h1,i,h2,h3,h4⟩:=ih (k+1) ((List.mem_cons.1 h).resolve_left fun e2=>e e2.symm)
  refine⟨by omega,i+1,by rw[h2];omega,?_,by omega⟩
  rw[show (i+1).toNat=i.toNat+1 by omega]
  simpa using h3
theorem ad6{q:List Int}{n:Nat}(hq:q.Perm (cD n)):((cD n).filter fun i=>decide (bP (fun y=>decide (y=i)) q 0 <many)).length≤many.toNat:=by
 have jz:∀x,x∈cD n→x∈q:=fun x hx=>hq.mem_iff.2 hx
 have h1:(((cD n).filter fun i=>decide (bP (fun y=>decide (y=i)) q 0 <many)).map fun i=>bP (fun y=>decide (y=i)) q 0).Nodup:=by
  rw[List.nodup_iff_pairwise_ne,List.pairwise_map]
  refine((sb n).filter _).imp_of_mem fun {a b} ha hb BX e=>?_
  obtain⟨_,i,e1,g1,_⟩:=zv a q 0 (jz a ((List.mem_filter.1 ha).1))
  obtain⟨_,j,e2,g2,_⟩:=zv b q 0 (jz b ((List.mem_filter.1 hb).1))
  have:i=j:=by omega
  subst this
  rw[g1] at g2
  cases g2
  omega
 have h2:=xH (l₂:=cD many.toNat) h1 fun x hx=>by
  obtain⟨i,h3,rfl⟩:=List.mem_map.1 hx
  obtain⟨h4,h5⟩:=List.mem_filter.1 h3
  have h6:=of_decide_eq_true h5
  obtain⟨h7,_⟩:=zv i q 0 (jz i h4)
  simp only[cD,List.mem_map,List.mem_range]
  exact⟨(bP (fun y=>decide (y=i)) q 0).toNat,by omega,by omega⟩
 simpa [iv] using h2
theorem JB(p:α→Bool)(l:List α):(l.filter p).length≤l.length:=List.length_filter_le p l
theorem aH6{n:Nat}{ro:Nat→Option Obj}(hN:Dn ro vd xs)(hD:aW vd xs d X)(hn:n≤100):eV zT 69 [zP d,zI (n:Int),zI many] ro X (fun r Y=>∃(ps:List Int) (L X':Cells),az r 1 3 cq ps L∧ps.length≤many.toNat∧ps.Pairwise (· < ·)∧(∀x∈ps,0≤x∧x <n)∧Y=L++X'∧aW vd xs d X'):=by
 refine bG av [.l X] [] bh<|zD 8<|jc (vs:=[zP d,zI (n:Int)]) [0] (aji hN hD (by first|omega|decide)) ?_
 rintro v13 _ ⟨ZW,L13,X13,UK,aaE,rfl,anP⟩
 refine jg 0 [.l L13,.l X13]<|zD 12<|oL<|ek [1,1,1,0,1,0,0] [] (fun(zz:Nat×Value×Cells)=>[(1,zI (n:Int)),(2,zI many),(6,zS),(7,v13),(8,zz.2.1),(9,zI (zz.1:Int))]) (fun(zz:Nat×Value×Cells)=>[.l zz.2.2,.l L13,.l X13]) (fun(zz:Nat×Value×Cells)=>zz.1≤n∧az zz.2.1 1 3 cq ((cD zz.1).filter (fun i=>decide (bP (fun y=>decide (y=i)) ZW 0 <many))) zz.2.2) (fun(zz:Nat×Value×Cells)=>n-zz.1) (⟨0,zS,[]⟩) ⟨by omega,az.nil _ _ _⟩ [0,1,2] ?_
 rintro⟨k,v,L⟩ hI K1 bM rest
 dsimp only at hI
 have hlen:ZW.length=n:=by rw[aaE.length_eq,iv]
 have uZ:=JB (fun i=>decide (bP (fun y=>decide (y=i)) ZW 0 <many)) (cD k)
 rw[iv] at uZ
 refine zD 7<|zJ 16 ((k:Int) <(n:Int)) (fun h1=>?_) fun h1=>?_
 ·
  refine zD 8<|jp (vs:=[v13,zI (k:Int)]) [1] L13 (fun aC hs hZ=>at3 (UK.kJ hZ) (by first|omega| (simp only[List.length_set,List.length_append,List.length_cons,List.length_nil];omega))) ?_
  refine zD 8<|zJ 24 ((bP (fun y=>decide (y=(k:Int))) ZW 0) <many) (fun h2=>?_) fun h2=>?_
  ·
   refine zD 4<|jn fun b27=>jT (sz:=1) (ps:=((cD k).filter (fun i=>decide (bP (fun y=>decide (y=i)) ZW 0 <many)))) (qs:=[(k:Int)]) (enc:=cq) (w:= .slice (some ⟨b27,0,none⟩) 1 1) [1] [0] [(b27,.cells ⟨([(k:Int)].map cq).flatten⟩ 3 (0,0))] (hI.2) (fun s _ hZ=>bN [(k:Int)] (hZ _ (.head _)) (by intro p hp;rfl)) (fun p _=>ar rfl) (by simp only[List.length_cons,List.length_nil];omega) (fun v28 L28 agm=>?_)
   obtain⟨aM4,aMG,aaP⟩:=agm.form
   subst aaP
   refine zD 4<|ja ((k:Int)+1) (by omega)<|zD 2<|bA bM (⟨k+1,(.slice aM4 ((((cD k).filter (fun i=>decide (bP (fun y=>decide (y=i)) ZW 0 <many)))++[(k:Int)])).length aMG),L28⟩) ⟨by omega,by rw[RQ,decide_eq_true h2];exact agm⟩ (by omega) [0,2,3] (Sub.refl _)
  refine zD 4<|ja ((k:Int)+1) (by omega)<|zD 2<|bA bM (⟨k+1,v,L⟩) ⟨by omega,by rw[RQ,decide_eq_false h2];exact hI.2⟩ (by omega) [0,1,2] (Sub.refl _)
 refine zD 8<|aH q0 (v) [] [0,2] (L++X13) (Sub.refl _) ⟨_,_,rfl,rfl,_,_,_,hI.2,by rw[show k=n by omega];exact ad6 aaE,(sb k).filter _,fun x hx=>by have:=nV ((List.mem_filter.1 hx).1);omega,rfl,anP⟩
def aqK:List ByteArray:=[bs [101],bs [121],bs [115,104],bs [97],bs [110,110],bs [116,104],bs [109]]
def toW:List ByteArray:=[bs [],bs [105],bs [115],bs [116],bs [97,101],bs [106],bs [110]]
def DD(r:cb):Prop:=r.f∈aqK∧r.t∈toW
def iY(c:aF):Prop:=c∈[(⟨1,0,0,0,0,0,0⟩:aF),⟨2,0,0,0,0,0,0⟩,⟨1,1,0,0,0,0,0⟩,⟨2,1,0,0,0,0,0⟩,⟨4,1,0,0,0,0,0⟩]
theorem lK{p:α→Prop}{l:List α}{x:α}(h:∀y∈l,p y)(hx:p x):∀y∈l++[x],p y:=fun y hy=>by
 rcases List.mem_append.1 hy with h1|h1
 ·exact h y h1
 rw[List.mem_singleton] at h1;subst h1;exact hx
theorem ajh{ro:Nat→Option Obj}(hN:Dn ro vd xs)(hD:aW vd xs d X)(hn:0≤many∧many≤100):eV zT 29 [zP d,zI many] ro X (fun r Y=>∃(ps:List cb) (L X':Cells),az r 2 84 iV ps L∧ps.length≤many∧(∀r∈ps,DD r)∧Y=L++X'∧aW vd xs d X'):=by
 refine bG av [.l X] [] bh<|zD 13<|jc (vs:=[zP d,zI many]) [0] (xQ hN hD (by omega)) ?_
 rintro _ X10 ⟨w10,rfl,afW,sA,Vi⟩
 refine zD 3<|oL<|ek [1,1,0,1,0,0] [] (fun(zz:Int×Value×Cells×(List cb)×Cells)=>[(0,zP d),(4,zS),(5,zz.2.1),(6,zI zz.1)]) (fun(zz:Int×Value×Cells×(List cb)×Cells)=>[.l zz.2.2.1,.l zz.2.2.2.2]) (fun(zz:Int×Value×Cells×(List cb)×Cells)=>(0≤zz.1∧zz.2.2.2.1.length+zz.1≤many)∧az zz.2.1 2 84 iV zz.2.2.2.1 zz.2.2.1∧(∀r∈zz.2.2.2.1,DD r)∧aW vd xs d zz.2.2.2.2) (fun(zz:Int×Value×Cells×(List cb)×Cells)=>zz.1.toNat) (⟨w10,zS,[],[],X10⟩) ⟨by simp only[List.length_nil];omega,az.nil _ _ _,(fun _ h=>by cases h),Vi⟩ [0,1] ?_
 rintro⟨j,v,L,ps,X⟩ hI K1 bM rest
 dsimp only at hI
 refine zD 6<|zJ 12 (j>0) (fun h1=>?_) fun h1=>?_
 ·
  refine zD 7<|jn fun b16=>SP (vs:=[zP d,.slice (some ⟨b16,0,none⟩) 7 7]) [2] [0] [(b16,.cells ⟨([(bs [101]),(bs [121]),(bs [115,104]),(bs [97]),(bs [110,110]),(bs [116,104]),(bs [109])].map qg).flatten⟩ 9 (0,0))] (fun aC hs hZ=>YA (hN.up hs) hI.2.2.2 (bF [(bs [101]),(bs [121]),(bs [115,104]),(bs [97]),(bs [110,110]),(bs [116,104]),(bs [109])] hZ.head (by intro p hp;rfl)) (by decide)) ?_
  rintro _ X17 ⟨w17,rfl,aRt,aVs⟩
  refine zD 1<|jn fun Iu=>SP (vs:=[zP d,.slice (some ⟨Iu,0,none⟩) 7 7]) [1] [0] [(Iu,.cells ⟨([(bs []),(bs [105]),(bs [115]),(bs [116]),(bs [97,101]),(bs [106]),(bs [110])].map qg).flatten⟩ 9 (0,0))] (fun aC hs hZ=>YA (hN.up hs) aVs (bF [(bs []),(bs [105]),(bs [115]),(bs [116]),(bs [97,101]),(bs [106]),(bs [110])] hZ.head (by intro p hp;rfl)) (by decide)) ?_
  rintro _ X20 ⟨w20,rfl,auA,ahR⟩
  refine zD 1<|jn fun b7=>jd 5 [0,0]<|jn fun mh=>jT (sz:=2) (ps:=ps) (qs:=[(⟨w17,w20⟩:cb)]) (enc:=iV) (w:= .slice (some ⟨mh,0,none⟩) 1 1) [5] [0] [(mh,.cells ⟨([(⟨w17,w20⟩:cb)].map iV).flatten⟩ 84 (0,0))] (hI.2.1) (fun s _ hZ=>bN [(⟨w17,w20⟩:cb)] (hZ _ (.head _)) (by intro p hp;rfl)) (fun p _=>ar rfl) (by simp<;>omega) (fun v25 L25 ago=>?_)
  obtain⟨aM7,aMJ,aTy⟩:=ago.form
  subst aTy
  refine zD 4<|ja (j-1) (by omega)<|zD 2<|bA bM (⟨j-1,(.slice aM7 ((ps++[(⟨w17,w20⟩:cb)])).length aMJ),L25,(ps++[(⟨w17,w20⟩:cb)]),X20⟩) ⟨by simp only[List.length_append,List.length_cons,List.length_nil];omega,ago,lK hI.2.2.1 ⟨aRt,auA⟩,ahR⟩ (by omega) [0,3] (Sub.refl _)
 refine zD 8<|aH q0 (v) [] [0,1] (L++X) (Sub.refl _) ⟨_,_,rfl,rfl,_,_,_,hI.2.1,(by omega),hI.2.2.1,rfl,hI.2.2.2⟩
theorem aoe{ro:Nat→Option Obj}(hN:Dn ro vd xs)(hD:aW vd xs d X):eV zT 28 [zP d] ro X (fun r Y=>∃w:aF,r= .agg ⟨k9 w⟩∧iY w∧aW vd xs d Y):=by
 refine bG av [.l X] [] bh<|zD 2<|jn fun b2=>zD 8<|jn fun b9=>zD 9<|jc (vs:=[zP d,zI 4]) [2] (xQ hN hD (by omega)) ?_
 rintro _ X15 ⟨w15,rfl,aRu,afL,awS⟩
 obtain⟨BS,mZ⟩:=zG ([(⟨1,0,0,0,0,0,0⟩:aF),(⟨2,0,0,0,0,0,0⟩:aF),(⟨1,1,0,0,0,0,0⟩:aF),(⟨2,1,0,0,0,0,0⟩:aF),(⟨4,1,0,0,0,0,0⟩:aF)]:List _) (w15.toNat) (show w15.toNat <5 from by omega)
 refine OB (a:=(some ⟨b9,0,none⟩)) (b:=b9) (off:=0) w15 5 7 (fun _ _=>rfl) mZ (by omega)<|mY (m:=7) 0 [1] [(b9,.cells ⟨([(⟨1,0,0,0,0,0,0⟩:aF),(⟨2,0,0,0,0,0,0⟩:aF),(⟨1,1,0,0,0,0,0⟩:aF),(⟨2,1,0,0,0,0,0⟩:aF),(⟨4,1,0,0,0,0,0⟩:aF)].map k9).flatten⟩ 77 (0,0))] (fun s _ hZ=>xE (hZ _ (.head _)) (by intro p hp;rfl) mZ) ?_
 refine jd 3 [2]<|aH q0 (.agg ⟨[zI BS.k,zI BS.st,zI BS.ot,zI BS.fn,zI BS.fl,zI BS.tn,zI BS.tl]⟩) [2] [0] X15 (Sub.refl _) ⟨_,_,rfl,rfl,BS,rfl,List.mem_of_getElem? mZ,awS⟩
def GV(b:UInt8):Bool:=Nat.ble 97 b.toNat&&Nat.ble b.toNat 122
def GA(b:UInt8):Bool:=Nat.ble 65 b.toNat&&(Nat.ble b.toNat 90&& !(Nat.beq b.toNat 72||Nat.beq b.toNat 81||Nat.beq b.toNat 87))
def Script(w:ByteArray):Prop:=(∀b∈w.data.toList,GV b=true)∨(∀b∈w.data.toList,GA b=true)
def Zb(w:ByteArray):Prop:=(0 <w.size∧w.size≤7)∧Script w
def DF(w:ByteArray):Prop:=(1≤w.size∧w.size≤3)∧Script w
theorem adr{w:ByteArray}(h:(w.data.toList.all GV||w.data.toList.all GA)=true)(h1:(Nat.blt 0 w.size&&Nat.ble w.size 7)=true):Zb w:=by
 simp only[Bool.or_eq_true,List.all_eq_true] at h
 simp only[Bool.and_eq_true,Nat.blt_eq,Nat.ble_eq] at h1
 exact⟨h1,h⟩
theorem aAz{w:ByteArray}(h:w∈[bs [97,101,115],bs [115,104,101,116,97],bs [115,109,105,116,121,104,97],bs [99,104,106,97],bs [97,110,110,101]]):Zb w:=by
 simp only[List.mem_cons,List.not_mem_nil,or_false] at h
 rcases h with rfl|rfl|rfl|rfl|rfl<;>exact adr (by decide) (by decide)
theorem aAy{w:ByteArray}(h:w∈[bs [65,69,83],bs [88,69,84,65],bs [83,77,73,84,89,65],bs [67,74,65,88],bs [65,78,78,69]]):Zb w:=by
 simp only[List.mem_cons,List.not_mem_nil,or_false] at h
 rcases h with rfl|rfl|rfl|rfl|rfl<;>exact adr (by decide) (by decide)
def nT:List ByteArray:=[bs [102,111,111,100],bs [98,114,101,97,100],bs [99,108,111,116,104],bs [104,97,116,115],bs [119,111,111,100],bs [105,114,111,110],bs [98,101,101,114],bs [105,110],bs [115,101,101]]
def pY:List ByteArray:=[bs [98,97,107,101,114],bs [98,97,107,101,114,115],bs [98,111,110,110,101,116,115],bs [98,114,101,119,101,114],bs [98,114,117,115,104,101,115],bs [98,117,116,99,104,101,114],bs [99,97,110,100,108,101,115],bs [99,111,111,112,101,114],bs [99,111,111,112,101,114,115],bs [99,117,116,108,101,114],bs [104,97,116,116,101,114],bs [104,111,115,105,101,114],bs [109,101,114,99,101,114],bs [109,105,108,108,105,110,101,114],bs [116,97,105,108,111,114],bs [116,97,110,110,101,114]]
theorem AV{n:Nat}{enc:α→List Value}(ps:List α)(hn:ps.length=n)(hl:∀p∈ps,(enc p).length=sz):az (.slice (some ⟨b,0,none⟩) n n) sz T enc ps [(b,.cells ⟨(ps.map enc).flatten⟩ T (0,0))]:=by
 subst hn
 exact .inr ⟨b,_,ps.length,rfl,rfl,kF ps hl,Nat.le_refl _,hl,by rw[←kF ps hl,List.take_length]⟩
theorem Tq{s t w:ByteArray}(h:∀b∈s.data.toList,b∈w.data.toList)(k:∀b∈t.data.toList,b∈w.data.toList):∀b∈(s++t).data.toList,b∈w.data.toList:=fun b hb=>by
 rw[ByteArray.data_append,Array.toList_append,List.mem_append] at hb
 exact hb.elim (h b) (k b)
theorem Pn{w:ByteArray}(i j:Nat):∀b∈(w.extract i j).data.toList,b∈w.data.toList:=fun b hb=>by
 rw[ByteArray.data_extract,Array.toList_extract] at hb
 exact List.mem_of_mem_drop (List.mem_of_mem_take (by simpa [List.extract] using hb))
theorem TB{s w:ByteArray}(h:∀b∈s.data.toList,b∈w.data.toList)(hw:Script w):Script s:=hw.imp (fun k b hb=>k b (h b hb)) (fun k b hb=>k b (h b hb))
theorem Em{ro:Nat→Option Obj}(hN:Dn ro vd xs)(hD:aW vd xs d X):eV zT 31 [zP d,zI 3] ro X (fun r Y=>∃w:ByteArray,r= .string w∧DF w∧aW vd xs d Y):=by
 refine bG av [.l X] [] bh<|zD 7<|jn fun iK=>SP (vs:=[zP d,.slice (some ⟨iK,0,none⟩) 5 5]) [1] [0] [(iK,.cells ⟨([(bs [97,101,115]),(bs [115,104,101,116,97]),(bs [115,109,105,116,121,104,97]),(bs [99,104,106,97]),(bs [97,110,110,101])].map qg).flatten⟩ 9 (0,0))] (fun aC hs hZ=>YA (hN.up hs) hD (bF [(bs [97,101,115]),(bs [115,104,101,116,97]),(bs [115,109,105,116,121,104,97]),(bs [99,104,106,97]),(bs [97,110,110,101])] hZ.head (by intro p hp;rfl)) (by decide)) ?_
 rintro _ X11 ⟨w11,rfl,aRw,aVu⟩
 refine zD 6<|jc (vs:=[zP d,zI 3]) [0] (nq hN aVu (by omega)) ?_
 rintro _ X13 ⟨w13,rfl,anP⟩
 refine zD 1<|A6 [1,1,1] [] (fun(zz:ByteArray×Cells)=>[(0,zP d),(1,zI 3),(4,.string (bs [])),(5,.string zz.1)]) (fun(zz:ByteArray×Cells)=>[.l zz.2]) (fun(zz:ByteArray×Cells)=>Zb zz.1∧aW vd xs d zz.2) ?_ (fun K1 bM=>?_)
 ·
  rintro⟨w,X⟩ hJ rest
  dsimp only at hJ
  obtain⟨⟨XV,hw7⟩,sB⟩:=hJ.1
  refine zD 9<|jmn (k:= .i64) (a:=3) (b:=6)<|jc (vs:=[zP d,zI 1,zI (min 3 6)]) [0] (u4 hN hJ.2 (by omega) (by omega)) ?_
  rintro _ X20 ⟨w20,rfl,auA,Nr,ahR⟩
  refine zD 3<|ek [1,1,1,1,0,1,0,0] [] (fun(zz:Int×ByteArray×Cells)=>[(0,zP d),(4,.string (bs [])),(5,.string w),(6,.string zz.2.1),(7,zI zz.1)]) (fun(zz:Int×ByteArray×Cells)=>[.l zz.2.2]) (fun(zz:Int×ByteArray×Cells)=>(0≤zz.1∧zz.2.1.size+zz.1=w20)∧(∀b∈zz.2.1.data.toList,b∈w.data.toList)∧aW vd xs d zz.2.2) (fun(zz:Int×ByteArray×Cells)=>zz.1.toNat) (⟨w20,bs [],X20⟩) ⟨⟨by omega,by simp[bs,ByteArray.size]⟩,(fun _ h=>by simp[bs] at h),ahR⟩ [0] ?_
  rintro⟨j,t,Z⟩ hI K2 lI rest
  dsimp only at hI
  refine zD 6<|zJ 22 (j>0) (fun h1=>?_) fun h1=>?_
  ·
   refine zD 9<|ja ((w.size:Int)-1) (by omega)<|jc (vs:=[zP d,zI ((w.size:Int)-1)]) [0] (xQ hN hI.2.2 (by omega)) ?_
   rintro _ X29 ⟨Zj,rfl,aRq,ze,aHp⟩
   refine zD 7<|ja (Zj+1) (by omega)<|jtB (b:=w) (lo:=Zj) (hi:=(Zj+1)) (by omega)<|jsa (a:=t) (b:=(w.extract Zj.toNat (Zj+1).toNat)) 9 (by rw[ByteArray.size_extract];omega) ?_
   refine zD 4<|ja (j-1) (by omega)<|zD 2<|bA lI (⟨j-1,(t++(w.extract Zj.toNat (Zj+1).toNat)),X29⟩) ⟨⟨by omega,by rw[ByteArray.size_append,ByteArray.size_extract];omega⟩,Tq hI.2.1 (Pn _ _),aHp⟩ (by omega) [0] (Sub.refl _)
  refine zD 8<|aH q0 (.string t) [] [0] Z (Sub.refl _) ⟨_,_,rfl,rfl,_,rfl,⟨by omega,TB hI.2.1 sB⟩,hI.2.2⟩
 refine js 13 w13 (fun h2=>?_) (fun h2=>?_)
 ·
  subst h2
  refine zD 3<|jn fun mB=>SP (vs:=[zP d,.slice (some ⟨mB,0,none⟩) 5 5]) [1] [0] [(mB,.cells ⟨([(bs [65,69,83]),(bs [88,69,84,65]),(bs [83,77,73,84,89,65]),(bs [67,74,65,88]),(bs [65,78,78,69])].map qg).flatten⟩ 9 (0,0))] (fun aC hs hZ=>YA (hN.up hs) anP (bF [(bs [65,69,83]),(bs [88,69,84,65]),(bs [83,77,73,84,89,65]),(bs [67,74,65,88]),(bs [65,78,78,69])] hZ.head (by intro p hp;rfl)) (by decide)) ?_
  rintro _ X16 ⟨w16,rfl,aDa,ahZ⟩
  refine zD 2<|bA bM ⟨w16,X16⟩ ⟨aAy aDa,ahZ⟩ Nat.zero_lt_one [0] (Sub.refl _)
 subst h2
 refine zD 2<|bA bM ⟨w11,X13⟩ ⟨aAz aRw,anP⟩ Nat.zero_lt_one [0] (Sub.refl _)
theorem afg{ro:Nat→Option Obj}:eV zT 68 [] ro [] (fun r Y=>∃L,az r 1 9 qg nT L∧Y=L):=by
 refine bG av [] [] bh<|zD 6<|jn fun b1=>zD 3<|aH q0 (.slice (some ⟨b1,0,none⟩) 9 9) [] [0] [(b1,.cells ⟨[.string (bs [102,111,111,100]),.string (bs [98,114,101,97,100]),.string (bs [99,108,111,116,104]),.string (bs [104,97,116,115]),.string (bs [119,111,111,100]),.string (bs [105,114,111,110]),.string (bs [98,101,101,114]),.string (bs [105,110]),.string (bs [115,101,101])]⟩ 9 (0,0))] (Sub.refl _) ⟨_,_,rfl,rfl,_,AV nT rfl (by intro p hp;rfl),rfl⟩
theorem afw{ro:Nat→Option Obj}:eV zT 70 [] ro [] (fun r Y=>∃L,az r 1 9 qg pY L∧Y=L):=by
 refine bG av [] [] bh<|zD 6<|jn fun b1=>zD 3<|aH q0 (.slice (some ⟨b1,0,none⟩) 16 16) [] [0] [(b1,.cells ⟨[.string (bs [98,97,107,101,114]),.string (bs [98,97,107,101,114,115]),.string (bs [98,111,110,110,101,116,115]),.string (bs [98,114,101,119,101,114]),.string (bs [98,114,117,115,104,101,115]),.string (bs [98,117,116,99,104,101,114]),.string (bs [99,97,110,100,108,101,115]),.string (bs [99,111,111,112,101,114]),.string (bs [99,111,111,112,101,114,115]),.string (bs [99,117,116,108,101,114]),.string (bs [104,97,116,116,101,114]),.string (bs [104,111,115,105,101,114]),.string (bs [109,101,114,99,101,114]),.string (bs [109,105,108,108,105,110,101,114]),.string (bs [116,97,105,108,111,114]),.string (bs [116,97,110,110,101,114])]⟩ 9 (0,0))] (Sub.refl _) ⟨_,_,rfl,rfl,_,AV pY rfl (by intro p hp;rfl),rfl⟩
structure bC where
 word:ByteArray
 cls:Int
 oF:Int
 eC:Value
abbrev mz(x:bC):List Value:=[.string x.word,zI x.cls,zI x.oF,x.eC]
def V9(hs:List bC)(i:Int):Prop:=0≤i∧∃h,hs[i.toNat]?=some h∧0≤h.cls
theorem lQ{hs:List bC}{ro:Nat→Option Obj}(hN:Dn ro vd xs)(hD:aW vd xs d X)(hh:bH ro vh 4 mz hs)(hn:hs.length≤100):eV zT 30 [zP d,.agg ⟨[zI 2,zI 0,zI 0,vc,vh,zS,zS]⟩,.string nm] ro X (fun r Y=>∃w:aj,r= .agg ⟨cU w⟩∧w.name=nm∧(0≤w.st∧w.st≤1)∧(w.head= -1∨V9 hs w.head)∧aW vd xs d Y):=by
 obtain⟨cK,sr,sq,cA,rfl,tN,py,px⟩:=hh
 refine bG av [.l X] [] bh<|zD 2<|jn fun b4=>jn fun b6=>jd 8 [1]<|jc (vs:=[zP d,zI 1]) [2] (xQ hN hD (by omega)) ?_
 rintro _ X15 ⟨w15,rfl,aRu,afL,awS⟩
 refine zD 2<|jc (vs:=[zP d,zI 1,zI 3]) [0] (u4 hN awS (by omega) (by omega)) ?_
 rintro _ X18 ⟨w18,rfl,beY,beO,Hz⟩
 refine zD 1<|jc (vs:=[zP d,zI 1,zI 3]) [0] (u4 hN Hz (by omega) (by omega)) ?_
 rintro _ X20 ⟨w20,rfl,auA,Nr,ahR⟩
 refine zD 1<|jc (vs:=[zP d,zI 1,zI 40]) [0] (u4 hN ahR (by omega) (by omega)) ?_
 rintro _ X22 ⟨w22,rfl,beX,ux,aVq⟩
 refine jn fun b23=>SP (vs:=[zP d,.slice (some ⟨b23,0,none⟩) 3 3]) [1] [0] [(b23,.cells ⟨([w18,w20,w22].map cq).flatten⟩ 3 (0,0))] (fun aC hs hZ=>N5 (hN.up hs) aVq (bF [w18,w20,w22] hZ.head (by intro p hp;rfl)) (by simp)) ?_
 rintro _ X24 ⟨w24,rfl,beW,aVp⟩
 refine zD 1<|jc (vs:=[zP d,zI 4]) [0] (nq hN aVp (by omega)) ?_
 rintro _ X26 ⟨w26,rfl,aHq⟩
 refine zD 1<|jn fun b7=>jd 12 [0]<|oL<|ek [1,1,1,0,1,0,0] [] (fun(zz:Nat×Value×Cells×(List Int))=>[(0,zP d),(4,zP b4),(6,zP b6),(7,zP b7),(8,zz.2.1),(9,zI (zz.1:Int))]) (fun(zz:Nat×Value×Cells×(List Int))=>[.l zz.2.2.1,.l X26,.b b7 (.cells ⟨[.string nm,zI w15,zI w24,zI (-1),.bool w26]⟩ 44 (0,0)),.b b6 (.cells ⟨[.string ByteArray.empty,zI 0,zI 0,zI 0,.bool false]⟩ 44 (0,0)),.b b4 (.cells ⟨[zI 2,zI 0,zI 0,vc,.slice cK hs.length cA,zS,zS]⟩ 86 (0,0))]) (fun(zz:Nat×Value×Cells×(List Int))=>(zz.1≤hs.length∧zz.2.2.2.length≤zz.1)∧az zz.2.1 1 3 cq zz.2.2.2 zz.2.2.1∧∀i∈zz.2.2.2,V9 hs i) (fun(zz:Nat×Value×Cells×(List Int))=>hs.length-zz.1) (⟨0,zS,[],[]⟩) ⟨⟨by omega,by simp⟩,az.nil _ _ _,(fun _ h=>by cases h)⟩ [0,2,1,4,5] ?_
 rintro⟨k,v,L,ps⟩ hI K1 bM rest
 dsimp only at hI
 refine jd 10 [4]<|zJ 33 ((k:Int) <(hs.length:Int)) (fun h1=>?_) fun h1=>?_
 ·
  refine jd 10 [4] ?_
  obtain⟨x40,aus⟩:=zG hs k
  refine iM cA 4 py aus<|zD 1<|jl 1 (px _ _ aus)<|zD 2<|zJ 43 (x40.cls≥0) (fun h2=>?_) fun h2=>?_
  ·
   refine zD 4<|jn fun b46=>jT (sz:=1) (ps:=ps) (qs:=[(k:Int)]) (enc:=cq) (w:= .slice (some ⟨b46,0,none⟩) 1 1) [1] [0] [(b46,.cells ⟨([(k:Int)].map cq).flatten⟩ 3 (0,0))] (hI.2.1) (fun s _ hZ=>bN [(k:Int)] (hZ _ (.head _)) (by intro p hp;rfl)) (fun p _=>ar rfl) (by simp<;>omega) (fun v47 L47 agh=>?_)
   obtain⟨aMZ,aMB,aTs⟩:=agh.form
   subst aTs
   refine zD 4<|ja ((k:Int)+1) (by omega)<|zD 2<|bA bM (⟨k+1,(.slice aMZ ((ps++[(k:Int)])).length aMB),L47,(ps++[(k:Int)])⟩) ⟨by simp only[List.length_append,List.length_cons,List.length_nil];omega,agh,lK hI.2.2 ⟨by omega,x40,aus,by assumption⟩⟩ (by omega) [0,2,3,4,5] (Sub.refl _)
  refine zD 4<|ja ((k:Int)+1) (by omega)<|zD 2<|bA bM (⟨k+1,v,L,ps⟩) ⟨by dsimp only;omega,hI.2⟩ (by omega) [0,1,2,3,4] (Sub.refl _)
 refine zD 6<|A5 hI.2.1<|zD 2<|js 51 (decide ((ps.length:Int)>0)) (fun h3=>?_) (fun h3=>?_)
 ·
  have wP:=h3
  replace wP:=of_decide_eq_true wP
  refine zD 1<|jc (vs:=[zP d,zI 4]) [1] (nq hN aHq (by omega)) ?_
  rintro _ X53 ⟨w53,rfl,anO⟩
  refine zD 3<|js 55 (!w53) (fun h4=>?_) (fun h4=>?_)
  ·
   try simp only[zB] at h4
   refine zD 5<|A5 hI.2.1<|ja ((ps.length:Int)-1) (by omega)<|jc (vs:=[zP d,zI ((ps.length:Int)-1)]) [0] (xQ hN anO (by omega)) ?_
   rintro _ X61 ⟨w61,rfl,beS,beN,aVl⟩
   obtain⟨x62,auo⟩:=zG ps (w61.toNat)
   refine pW w61 1 hI.2.1 auo (by omega) fun b62 aT8=>mY 0 [1] L (fun s _ hZ=>bU hI.2.1 aT8 hZ auo)<|jd 9 [2,2,3]<|aH q0 (.agg ⟨[.string nm,zI w15,zI w24,zI x62,.bool w26]⟩) [3] [0] X61 (Sub.refl _) ⟨_,_,rfl,rfl,⟨_,_,_,_,_⟩,rfl,rfl,(by dsimp only;omega),.inr (hI.2.2 _ (List.mem_of_getElem? auo)),aVl⟩
  try simp only[zB] at h4
  refine jd 8 [2,3]<|aH q0 (.agg ⟨[.string nm,zI w15,zI w24,zI (-1),.bool w26]⟩) [3] [0] X53 (Sub.refl _) ⟨_,_,rfl,rfl,⟨_,_,_,_,_⟩,rfl,rfl,(by dsimp only;omega),.inl rfl,anO⟩
 have wP:=h3
 replace wP:=of_decide_eq_false wP
 refine jd 13 [2,3]<|aH q0 (.agg ⟨[.string nm,zI w15,zI w24,zI (-1),.bool w26]⟩) [3] [1] X26 (Sub.refl _) ⟨_,_,rfl,rfl,⟨_,_,_,_,_⟩,rfl,rfl,(by dsimp only;omega),.inl rfl,aHq⟩
inductive dD{α β:Type}(R:α→β→Prop):List α→List β→Prop
 |nil:dD R [] []
 |cons {a:α} {b:β} {l:List α} {m:List β}:R a b→dD R l m→dD R (a::l) (b::m)
theorem dD.snoc{R:α→β→Prop}{l:List α}{m:List β}{a:α}{b:β}(h:dD R l m)(k:R a b):dD R (l++[a]) (m++[b]):=by
 induction h with
 |nil=>exact .cons k .nil
 |cons h1 _ ih=>exact .cons h1 ih
theorem dD.len{R:α→β→Prop}{l:List α}{m:List β}(h:dD R l m):l.length=m.length:=by
 induction h with
 |nil=>rfl
 |cons _ _ ih=>simp[ih]
theorem dD.get{R:α→β→Prop}{l:List α}{m:List β}(h:dD R l m){a:α}(ha:l[i]?=some a):∃b,m[i]?=some b∧R a b:=by
 induction h generalizing i with
 |nil=>simp at ha
 |cons h1 _ ih=>
  cases i with
  |zero=>simp at ha;subst ha;exact⟨_,rfl,h1⟩
  |succ i=>exact ih (by simpa using ha)
theorem dD.imp{R S:α→β→Prop}{l:List α}{m:List β}(h:dD R l m)(k:∀a b,R a b→S a b):dD S l m:=by
 induction h with
 |nil=>exact .nil
 |cons h1 _ ih=>exact .cons (k _ _ h1) ih
structure cz where
 word:ByteArray
 cls:Int
 oF:Int
 eC:List Int
variable {hd:List cz}
def dO(h:bC)(x:cz):Prop:=h.word=x.word∧h.cls=x.cls∧h.oF=x.oF
def rV(ro:Nat→Option Obj)(h:bC)(x:cz):Prop:=h.word=x.word∧h.cls=x.cls∧h.oF=x.oF∧bH ro h.eC 1 cq x.eC
def jY(ro:Nat→Option Obj)(vc vh:Value)(cs:List bQ)(hv:List bC)(hd:List cz):Prop:=bH ro vc 2 pK cs∧bH ro vh 4 mz hv∧dD (rV ro) hv hd
def gZ(nc nh:Nat)(i:Nat)(x:cz):Prop:=(-1≤x.cls∧x.cls <nc)∧(-1≤x.oF∧x.oF <nh∧x.oF≠i)∧(x.eC.length≤nh∧x.eC.Pairwise (· < ·)∧∀y∈x.eC,0≤y∧y <nh∧y≠i)∧(x.oF≠ -1→x.cls= -1∧x.eC=[])∧(x.oF= -1→x.cls= -1→x.eC≠[])
structure xu(cs:List bQ)(hd:List cz):Prop where
 nc:0 <cs.length∧cs.length≤3
 nh:hd.length≤4
 cls:∀(i:Nat) (c:bQ),cs[i]?=some c→c.name∈nT∧ -1≤c.under∧c.under <i
 names:(cs.map (·.name)).Pairwise fun a b=>cO a b=false
 Bg:∀(i:Nat) (x:cz),hd[i]?=some x→x.word∈pY∧gZ cs.length hd.length i x
 words:(hd.map (·.word)).Pairwise fun a b=>cO a b=false∧strLt b a=false
def ox(names:List Int)(cs:List bQ):Prop:=∀(i:Nat) (c:bQ),cs[i]?=some c→(∃y,names[i]?=some y∧nT[y.toNat]?=some c.name)∧ -1≤c.under∧c.under <i
theorem Ry{l:List α}{x y:α}(h:(l++[x])[i]?=some y):l[i]?=some y∨(i=l.length∧y=x):=by
 rcases Nat.lt_trichotomy i l.length with h1|h1|h1
 ·rw[List.getElem?_append_left h1] at h;exact .inl h
 ·subst h1;simp at h;exact .inr ⟨rfl,h.symm⟩
 rw[List.getElem?_eq_none (by simp;omega)] at h;cases h
theorem ox.snoc{names:List Int}(h:ox names cs){y u:Int}(h1:names[cs.length]?=some y) (h2:nT[y.toNat]?=some nm) (h3: -1≤u∧u <cs.length):ox names (cs++[⟨nm,u⟩]):=fun i c hc=>by
 rcases Ry hc with h4| ⟨rfl,rfl⟩
 ·exact h i c h4
 exact⟨⟨y,h1,h2⟩,h3⟩
def nz(ws:List Int)(nc:Nat)(hv:List bC)(hd:List cz)(Z:Cells)(i:Nat):Prop:=
 (∀ro,Knows ro Z→dD (rV ro) hv hd)∧hd.length=i∧hv.length=i∧(∀(k:Nat) (x:cz),hd[k]?=some x→(∃w,ws[k]?=some w∧pY[w.toNat]?=some x.word)∧gZ nc ws.length k x)∧dD dO hv hd
theorem nz.snoc{ws:List Int}{hv:List bC}{Z A:Cells}(h:nz ws nc hv hd Z i){hV:bC}{x:cz}{w:Int}(h0:dO hV x)(h1:∀ro,Knows ro A→rV ro hV x)(h2:ws[i]?=some w) (h3:pY[w.toNat]?=some x.word) (h4:gZ nc ws.length i x):
 nz ws nc (hv++[hV]) (hd++[x]) (A++Z) (i+1):=by
 obtain⟨g1,g2,g3,g4,g5⟩:=h
 refine⟨fun ro hk=>(g1 ro hk.right).snoc (h1 ro hk.left),by simp[g2],by simp[g3],fun k y hy=>?_,g5.snoc h0⟩
 rcases Ry hy with h5| ⟨rfl,rfl⟩
 ·exact g4 k y h5
 rw[g2];exact⟨⟨w,h2,h3⟩,h4⟩
theorem amd{i w:Int}(hi:0≤i∧i <n)(hw:0≤w∧w≤n-2):0≤Int.tmod (i+1+w) n∧Int.tmod (i+1+w) n <n∧Int.tmod (i+1+w) n≠i:=by
 have h1:=Int.tmod_nonneg n (show 0≤i+1+w by omega)
 have h2:=Int.tmod_lt_of_pos (i+1+w) (show 0 <n by omega)
 refine⟨h1,h2,fun h=>?_⟩
 have h3:=Int.tmod_add_mul_tdiv (i+1+w) n
 rw[h] at h3
 have h4:n*(i+1+w).tdiv n=1+w:=by omega
 rcases Int.lt_trichotomy ((i+1+w).tdiv n) 0 with h5|h5|h5
 ·have:n*(i+1+w).tdiv n≤n* -1:=Int.mul_le_mul_of_nonneg_left (by omega) (by omega)
  omega
 ·rw[h5] at h4;omega
 have:n*1≤n*(i+1+w).tdiv n:=Int.mul_le_mul_of_nonneg_left (by omega) (by omega)
 omega
theorem DR:nT.Pairwise fun a b=>cO a b=false:=by simp only[AE];decide
theorem VJ:pY.Pairwise fun a b=>cO a b=false∧strLt b a=false:=by simp only[AE,Po];decide
def lS(i:Nat)(k:Nat)(al:List Int):Prop:=al.length≤k∧al.Pairwise (· < ·)∧∀y∈al,0≤y∧y <k∧y≠i
theorem qv{l:List α}{R:α→α→Prop}(h:l.Pairwise R){j:Nat}{a b:α}(IQ:i <j)(ha:l[i]?=some a) (hb:l[j]?=some b):R a b:=by
 obtain⟨h1,rfl⟩:=List.getElem?_eq_some_iff.1 ha
 obtain⟨h2,rfl⟩:=List.getElem?_eq_some_iff.1 hb
 exact List.pairwise_iff_getElem.1 h i j h1 h2 IQ
theorem adY{l:List α}{f:α→β}{R:β→β→Prop}(h:∀(i j:Nat) (a b:α),i <j→l[i]?=some a→l[j]?=some b→R (f a) (f b)):(l.map f).Pairwise R:=by
 rw[List.pairwise_map,List.pairwise_iff_getElem]
 exact fun i j hi hj IQ=>h i j _ _ IQ (List.getElem?_eq_getElem hi) (List.getElem?_eq_getElem hj)
theorem Ts{a b:ByteArray}(h:cO a b=false):cO b a=false:=by
 cases h2:cO b a with
 |false=>rfl
 |true=>rw[Cd.1 h2,Cd.2 rfl] at h;cases h
theorem Zq{MU kQ:List Int}{hv:List bC}{Z:Cells}(hc:ox MU cs)(hp:MU.Perm (cD nT.length))(hn:0 <cs.length∧cs.length≤3)(hh:nz kQ cs.length hv hd Z i)(hi:i=kQ.length)(h4:kQ.length≤4)(hs:kQ.Pairwise (· < ·))(hm:∀x∈kQ,0≤x∧x <pY.length):xu cs hd:=by
 obtain⟨g1,g2,g3,g4,_⟩:=hh
 have jz:∀y∈MU,0≤y∧y <nT.length:=fun y hy=>nV (hp.mem_iff.1 hy)
 have mw:MU.Pairwise (· ≠·):=(hp.pairwise_iff (fun h=>Ne.symm h)).2 ((sb _).imp fun h=>by omega)
 refine⟨hn,by omega,fun k c hk=>?_,adY fun a b x y BX hx hy=>?_,fun k x hk=>?_,adY fun a b x y BX hx hy=>?_⟩
 ·obtain⟨⟨y,h1,h2⟩,h3⟩:=hc k c hk
  exact⟨List.mem_of_getElem? h2,h3⟩
 ·obtain⟨⟨p,p1,p2⟩,_⟩:=hc a x hx
  obtain⟨⟨q,q1,q2⟩,_⟩:=hc b y hy
  have XY:=qv mw BX p1 q1
  have hp0:=jz p (List.mem_of_getElem? p1)
  have XX:=jz q (List.mem_of_getElem? q1)
  rcases Nat.lt_trichotomy p.toNat q.toNat with h|h|h
  ·exact qv DR h p2 q2
  ·exact absurd (show p=q by omega) XY
  exact Ts (qv DR h q2 p2)
 ·obtain⟨⟨w,h1,h2⟩,h3⟩:=g4 k x hk
  have:hd.length=kQ.length:=by omega
  rw[this]
  exact⟨List.mem_of_getElem? h2,h3⟩
 obtain⟨⟨p,p1,p2⟩,_⟩:=g4 a x hx
 obtain⟨⟨q,q1,q2⟩,_⟩:=g4 b y hy
 have XY:=qv hs BX p1 q1
 have hp0:=hm p (List.mem_of_getElem? p1)
 exact qv VJ (show p.toNat <q.toNat by omega) p2 q2
theorem lS.step(h:lS i k al):lS i (k+1) al:=⟨by have:=h.1;omega,h.2.1,fun y hy=>by have:=h.2.2 y hy;omega⟩
theorem lS.snoc(h:lS i k al)(hk:(k:Int)≠i):lS i (k+1) (al++[(k:Int)]):=by
 refine⟨by have:=h.1;simp;omega,List.pairwise_append.2 ⟨h.2.1,List.pairwise_singleton _ _,fun a ha b hb=>?_⟩,lK (fun y hy=>by have:=h.2.2 y hy;omega) (by omega)⟩
 rw[List.mem_singleton] at hb;subst hb
 exact(h.2.2 a ha).2.1
theorem agZ{w:ByteArray}(h:0≤r∧r <nh∧r≠i)(h4:0 <nc):gZ nc nh i ⟨w,-1,r,[]⟩:=
 have h1:=h.1
 have h2:=h.2.1
 have h3:=h.2.2
 ⟨⟨by simp,by simp<;>omega⟩,⟨by simp<;>omega,by simpa using h2,by simpa using h3⟩,⟨by simp,by simp,by simp⟩,fun _=>⟨rfl,rfl⟩,fun h=>by simp at h;omega⟩
theorem Le{c:Int}{w:ByteArray}(hc:0≤c∧c <nc)(h:lS i k al)(hk:k≤nh)(hi:i <nh):gZ nc nh i ⟨w,c,-1,al⟩:=
 ⟨⟨by simp<;>omega,by simpa using hc.2⟩,⟨by simp,by simp<;>omega,by simp<;>omega⟩,⟨by have:=h.1;simp<;>omega,h.2.1,fun y hy=>by have:=h.2.2 y hy;simp<;>omega⟩,fun hh=>by simp at hh,fun _ hh=>by simp at hh;omega⟩
theorem ag0{w:ByteArray}(h:lS i k al)(hk:k≤nh)(hi:i <nh)(eg:(al.length:Int)>0):gZ nc nh i ⟨w,-1,-1,al⟩:=
 ⟨⟨by simp,by simp<;>omega⟩,⟨by simp,by simp<;>omega,by simp<;>omega⟩,⟨by have:=h.1;simp<;>omega,h.2.1,fun y hy=>by have:=h.2.2 y hy;simp<;>omega⟩,fun hh=>by simp at hh,fun _ _ hh=>by simp at hh;subst hh;simp at eg⟩
set_option maxHeartbeats 1000000 in
theorem YB {ro:Nat→Option Obj} (hN:Dn ro vd xs) (hD:aW vd xs d X):eV zT 26 [zP d,zI 3,zI 4] ro X (fun r Y=>∃(cs:List bQ) (hv:List bC) (hd:List cz) (vc vh:Value) (Z X':Cells),r= .agg ⟨[vc,vh]⟩∧xu cs hd∧dD dO hv hd∧(∀aK,Knows aK Z→jY aK vc vh cs hv hd)∧Y=Z++X'∧aW vd xs d X'):=by
 refine bG av [.l X] [] bh<|zD 2<|jn fun b6=>zD 3<|jn fun b7=>zD 4<|jc [] (afg) ?_
 rintro v16 L16 ⟨_,aSr,rfl⟩
 refine A5 aSr<|jc (vs:=[zP d,zI (nT.length:Int)]) [3] (aji hN hD (by first|omega|decide)) ?_
 rintro v18 _ ⟨MU,L18,X18,aaH,QT,rfl,Hz⟩
 refine jg 0 [.l L18,.l X18]<|zD 7<|jc (vs:=[zP d,zI 1,zI 3]) [1] (u4 hN Hz (by omega) (by omega)) ?_
 rintro _ X21 ⟨w21,rfl,am6,qG,aVr⟩
 refine zD 3<|oL<|ek [1,1,1,0,1,0,0] [] (fun(zz:Int×Value×Cells×(List bQ)×Cells)=>[(0,zP d),(2,zI 4),(6,zP b6),(7,zP b7),(8,v18),(9,zI zz.1)]) (fun(zz:Int×Value×Cells×(List bQ)×Cells)=>[.l zz.2.2.1,.l zz.2.2.2.2,.b b7 (.cells ⟨[zz.2.1,zS]⟩ 35 (0,0)),.l L18,.b b6 (.cells ⟨[zS,zS]⟩ 35 (0,0))]) (fun(zz:Int×Value×Cells×(List bQ)×Cells)=>(0≤zz.1∧zz.2.2.2.1.length+zz.1=w21)∧az zz.2.1 2 140 pK zz.2.2.2.1 zz.2.2.1∧ox MU zz.2.2.2.1∧aW vd xs d zz.2.2.2.2) (fun(zz:Int×Value×Cells×(List bQ)×Cells)=>zz.1.toNat) (⟨w21,zS,[],[],X21⟩) ⟨by simp only[List.length_nil];omega,az.nil _ _ _,(fun i c h=>by simp at h),aVr⟩ [0,1,4,2,5] ?_
 rintro⟨j,vC,LC,cs,X⟩ hI K1 bM rest
 dsimp only at hI
 have hlen:MU.length=9:=by rw[QT.length_eq,iv];rfl
 refine zD 6<|zJ 23 (j>0) (fun h1=>?_) fun h1=>?_
 ·
  refine jd 10 [2,2]<|A5 hI.2.1 ?_
  obtain⟨x33,afI⟩:=zG MU (cs.length)
  refine QE 1 aaH afI fun b33 aUh=>mY 0 [3] L18 (fun s _ hZ=>bU aaH aUh hZ afI)<|jd 3 [2]<|A5 hI.2.1<|ja ((cs.length:Int)-1) (by omega)<|aM 2 fun B3 Cb zp=>jc [] (afg) ?_
  rintro v28 L28 ⟨_,aDP,rfl⟩
  refine bI zp [1,2,3,4,5] ?_
  obtain⟨x35,Uv⟩:=zG nT (x33.toNat) (by have:=nV (QT.mem_iff.1 (List.mem_of_getElem? afI));omega)
  refine pW x33 1 aDP Uv (Int.toNat_of_nonneg (show 0≤x33∧x33 <((nT).length:Int) from (nV (QT.mem_iff.1 (List.mem_of_getElem? afI)))).1).symm fun b35 aUf=>mY 0 [0] L28 (fun s _ hZ=>bU aDP aUf hZ Uv)<|aM 16 fun rZ r8 p8=>jc (vs:=[zP d,zI (-1),zI ((cs.length:Int)-1)]) [2] (u4 hN hI.2.2.2 (by omega) (by omega)) ?_
  rintro _ X42 ⟨w42,rfl,beU,Uu,aVn⟩
  refine gY p8 [[1],[3],[4],[3],[3]]<|zD 1<|aM 18 fun sL sR rn=>jn fun dC=>bI rn [1,2,3,4,5,6]<|aM 19 fun B2 Ca C8=>jT (sz:=2) (ps:=cs) (qs:=[(⟨x35,w42⟩:bQ)]) (enc:=pK) (w:= .slice (some ⟨dC,0,none⟩) 1 1) [3] [0] [(dC,.cells ⟨([(⟨x35,w42⟩:bQ)].map pK).flatten⟩ 140 (0,0))] (hI.2.1) (fun s _ hZ=>bN [(⟨x35,w42⟩:bQ)] (hZ _ (.head _)) (by intro p hp;rfl)) (fun p _=>ar rfl) (by simp<;>omega) (fun v45 L45 agi=>?_)
  obtain⟨arP,arF,avS⟩:=agi.form
  subst avS
  refine gY C8 [[3],[4],[5],[4]]<|zD 1<|aM 21 fun ak0 alg hL6=>jd 1 [4]<|eo hL6<|zD 3<|ja (j-1) (by omega)<|zD 2<|bA bM (⟨j-1,(.slice arP ((cs++[(⟨x35,w42⟩:bQ)])).length arF),L45,(cs++[(⟨x35,w42⟩:bQ)]),X42⟩) ⟨by simp only[List.length_append,List.length_cons,List.length_nil];omega,agi,ox.snoc hI.2.2.1 afI Uv (by omega),aVn⟩ (by omega) [0,2,4,5,6] (Sub.refl _)
 refine zD 5<|jc [] (afw) ?_
 rintro v48 L48 ⟨_,aSh,rfl⟩
 refine A5 aSh<|zD 2<|jc (vs:=[zP d,zI 4]) [2] (xQ hN hI.2.2.2 (by omega)) ?_
 rintro _ X52 ⟨w52,rfl,beT,C1,aVm⟩
 refine jc (vs:=[zP d,zI (pY.length:Int),zI w52]) [0] (aH6 hN aVm (by first|omega|decide)) ?_
 rintro v53 _ ⟨kQ,L53,X53,au2,bfP,wE,agH,rfl,anO⟩
 refine jg 0 [.l L53,.l X53]<|zD 5<|A5 au2<|zD 8<|oL<|oL<|ek [1,1,1,1,1,1,0,1,0,0] [] (fun(zz:Nat×Value×Cells×(List bC)×(List cz)×Cells×Cells)=>[(0,zP d),(6,zP b6),(7,zP b7),(10,v53),(11,zI (kQ.length:Int)),(12,zI (zz.1:Int))]) (fun(zz:Nat×Value×Cells×(List bC)×(List cz)×Cells×Cells)=>[.l zz.2.2.1,.l zz.2.2.2.2.2.1,.l zz.2.2.2.2.2.2,.l LC,.b b7 (.cells ⟨[vC,zz.2.1]⟩ 35 (0,0)),.l L53,.b b6 (.cells ⟨[zS,zS]⟩ 35 (0,0))]) (fun(zz:Nat×Value×Cells×(List bC)×(List cz)×Cells×Cells)=>zz.1≤kQ.length∧az zz.2.1 4 143 mz zz.2.2.2.1 zz.2.2.1∧nz kQ cs.length zz.2.2.2.1 zz.2.2.2.2.1 zz.2.2.2.2.2.1 zz.1∧aW vd xs d zz.2.2.2.2.2.2) (fun(zz:Nat×Value×Cells×(List bC)×(List cz)×Cells×Cells)=>kQ.length-zz.1) (⟨0,zS,[],[],[],[],X53⟩) ⟨by omega,az.nil _ _ _,⟨fun _ _=> .nil,rfl,rfl,(fun k x h=>by simp at h),.nil⟩,anO⟩ [1,0,3,5,6,2,8] ?_
 rintro⟨i,vH,LH,hv,hd,Z,X⟩ hJ K7 Yk rest
 dsimp only at hJ
 have hll:=hJ.2.2.1.2.2.1
 have SU:kQ.length≤4:=by omega
 have iZ:cs.length≤3:=by omega
 refine zD 7<|zJ 58 ((i:Int) <(kQ.length:Int)) (fun h7=>?_) fun h7=>?_
 ·
  refine zD 5<|A6 [1,1,1,1,1,1,0,1,0,0,1,0,0,1] [K7] (fun(zz:Nat×Int×Int×ByteArray×Cells)=>[(0,zP d),(6,zP b6),(7,zP b7),(10,v53),(11,zI (kQ.length:Int)),(12,zI (i:Int)),(13,zP zz.1)]) (fun(zz:Nat×Int×Int×ByteArray×Cells)=>[.b zz.1 (.cells ⟨[.string zz.2.2.2.1,zI zz.2.1,zI (-1),zS]⟩ 143 (0,0)),.l LH,.l Z,.l zz.2.2.2.2,.l LC,.b b7 (.cells ⟨[vC,vH]⟩ 35 (0,0)),.l L53,.b b6 (.cells ⟨[zS,zS]⟩ 35 (0,0))]) (fun(zz:Nat×Int×Int×ByteArray×Cells)=>kQ[i]?=some zz.2.2.1∧pY[zz.2.2.1.toNat]?=some zz.2.2.2.1∧(0≤zz.2.1∧zz.2.1 <cs.length)∧aW vd xs d zz.2.2.2.2) ?_ (fun K8 hK8=>?_)
  ·
   rintro⟨Ar,w,y,x,X⟩ JA rest
   dsimp only at JA
   refine zD 2<|A6 [1,1,1,1,1,1,0,1,0,0,1,0,0,1,0,1] [K7] (fun(zz:Bool×Cells)=>[(0,zP d),(6,zP b6),(7,zP b7),(10,v53),(11,zI (kQ.length:Int)),(12,zI (i:Int)),(13,zP Ar),(80,.bool zz.1)]) (fun(zz:Bool×Cells)=>[.b Ar (.cells ⟨[.string x,zI w,zI (-1),zS]⟩ 143 (0,0)),.l LH,.l Z,.l zz.2,.l LC,.b b7 (.cells ⟨[vC,vH]⟩ 35 (0,0)),.l L53,.b b6 (.cells ⟨[zS,zS]⟩ 35 (0,0))]) (fun(zz:Bool×Cells)=>(zz.1=true→1 <kQ.length)∧aW vd xs d zz.2) ?_ (fun K9 hK9=>?_)
   ·
    rintro⟨q,X⟩ hJ3 rest
    dsimp only at hJ3
    refine js 80 q (fun h8=>?_) (fun h8=>?_)
    ·
     subst h8
     have hgt:=hJ3.1 rfl
     refine zD 4<|ja ((i:Int)+1) (by omega)<|zD 2<|ja ((kQ.length:Int)-2) (by omega)<|zD 2<|aM 5 fun JM JV zq=>jc (vs:=[zP d,zI ((kQ.length:Int)-2)]) [3] (xQ hN hJ3.2 (by omega)) ?_
     rintro _ X86 ⟨w86,rfl,beR,beM,aVi⟩
     refine gY zq []<|ja (((i:Int)+1)+w86) (by omega)<|jrm (k:= .i64) (a:=(((i:Int)+1)+w86)) (b:=(kQ.length:Int)) 3 (by omega)<|aM 10 fun JL JU Da=>jd 1 [1]<|gY Da []<|zD 1<|aM 12 fun OO Pc C9=>jd 1 [1]<|eo C9<|jd 6 [5,1]<|jn fun b95=>jT (sz:=4) (ps:=hv) (qs:=[(⟨x,(-1),(Int.tmod (((i:Int)+1)+w86) (kQ.length:Int)),zS⟩:bC)]) (enc:=mz) (w:= .slice (some ⟨b95,0,none⟩) 1 1) [3] [0] [(b95,.cells ⟨([(⟨x,(-1),(Int.tmod (((i:Int)+1)+w86) (kQ.length:Int)),zS⟩:bC)].map mz).flatten⟩ 143 (0,0))] (hJ.2.1) (fun s _ hZ=>bN [(⟨x,(-1),(Int.tmod (((i:Int)+1)+w86) (kQ.length:Int)),zS⟩:bC)] (hZ _ (.head _)) (by intro p hp;rfl)) (by intro p hp;rw[List.mem_singleton] at hp;subst hp;exact ar rfl) (by simp<;>omega) (fun v96 L96 agc=>?_)
     obtain⟨aMR,aMt,aTj⟩:=agc.form
     subst aTj
     refine jd 6 [6]<|ja ((i:Int)+1) (by omega)<|zD 2<|bA Yk (⟨i+1,(.slice aMR ((hv++[(⟨x,(-1),(Int.tmod (((i:Int)+1)+w86) (kQ.length:Int)),zS⟩:bC)])).length aMt),L96,(hv++[(⟨x,(-1),(Int.tmod (((i:Int)+1)+w86) (kQ.length:Int)),zS⟩:bC)]),_,Z,X86⟩) ⟨by omega,agc,(by have:=nz.snoc (A:=[]) hJ.2.2.1 (h0:=⟨rfl,rfl,rfl⟩) (hV:=⟨x,-1,(Int.tmod (((i:Int)+1)+w86) (kQ.length:Int)),zS⟩) (x:=⟨x,-1,(Int.tmod (((i:Int)+1)+w86) (kQ.length:Int)),[]⟩) (fun ro _=>⟨rfl,rfl,rfl,bH.nil _ _ _ _ _⟩) JA.1 JA.2.1 (agZ (amd ⟨by omega,by omega⟩ ⟨by omega,by omega⟩) (by omega));simpa only[List.nil_append] using this),aVi⟩ (by omega) [0,4,2,5,6,7,8] (Sub.refl _)
    subst h8
    refine zD 8<|oL<|ek [1,1,1,1,1,1,0,1,0,0,1,0,0,1,1,0,1,0,0] [K7] (fun(zz:Nat×Value×Cells×(List Int)×Cells)=>[(0,zP d),(6,zP b6),(7,zP b7),(10,v53),(11,zI (kQ.length:Int)),(12,zI (i:Int)),(13,zP Ar),(14,zI (zz.1:Int))]) (fun(zz:Nat×Value×Cells×(List Int)×Cells)=>[.l zz.2.2.1,.l zz.2.2.2.2,.b Ar (.cells ⟨[.string x,zI w,zI (-1),zz.2.1]⟩ 143 (0,0)),.l LH,.l Z,.l LC,.b b7 (.cells ⟨[vC,vH]⟩ 35 (0,0)),.l L53,.b b6 (.cells ⟨[zS,zS]⟩ 35 (0,0))]) (fun(zz:Nat×Value×Cells×(List Int)×Cells)=>(zz.1≤kQ.length∧zz.2.2.2.1.length≤zz.1)∧az zz.2.1 1 3 cq zz.2.2.2.1 zz.2.2.1∧lS i zz.1 zz.2.2.2.1∧aW vd xs d zz.2.2.2.2) (fun(zz:Nat×Value×Cells×(List Int)×Cells)=>kQ.length-zz.1) (⟨0,zS,[],[],X⟩) ⟨by simp,az.nil _ _ _,⟨by simp,by simp,by simp⟩,hJ3.2⟩ [0,4,1,2,3,5,6,7,8] ?_
    rintro⟨k,vA,LA,al,X⟩ hK K13 aaY rest
    dsimp only at hK
    obtain⟨qa,qc,rfl⟩:=hK.2.1.form
    refine zD 7<|zJ 100 ((k:Int) <(kQ.length:Int)) (fun BY=>?_) fun BY=>?_
    ·
     refine zD 10<|js 106 (!decide ((k:Int)=(i:Int))) (fun Ap=>?_) (fun Ap=>?_)
     ·
      have aiq:=Ap
      replace aiq:=of_decide_eq_false (by simpa using aiq)
      refine zD 1<|jc (vs:=[zP d,zI 4]) [1] (nq hN hK.2.2.2 (by omega)) ?_
      rintro _ aIU ⟨aMr,rfl,aqC⟩
      refine zD 2<|js 109 aMr (fun Rv=>?_) (fun Rv=>?_)
      ·
       subst Rv
       refine jd 5 [2]<|jn fun aIA=>jT (sz:=1) (ps:=al) (qs:=[(k:Int)]) (enc:=cq) (w:= .slice (some ⟨aIA,0,none⟩) 1 1) [2] [0] [(aIA,.cells ⟨([(k:Int)].map cq).flatten⟩ 3 (0,0))] (hK.2.1) (fun s _ hZ=>bN [(k:Int)] (hZ _ (.head _)) (by intro p hp;rfl)) (fun p _=>ar rfl) (by simp<;>omega) (fun bcz aXh X3=>?_)
       obtain⟨azN,azJ,aEH⟩:=X3.form
       subst aEH
       refine jd 5 [3]<|ja ((k:Int)+1) (by omega)<|zD 2<|bA aaY (⟨k+1,(.slice azN ((al++[(k:Int)])).length azJ),aXh,(al++[(k:Int)]),aIU⟩) ⟨by simp only[List.length_append,List.length_cons,List.length_nil];omega,X3,lS.snoc hK.2.2.1 (by omega),aqC⟩ (by omega) [0,2,3,4,5,6,7,8,9] (Sub.refl _)
      subst Rv
      refine zD 4<|ja ((k:Int)+1) (by omega)<|zD 2<|bA aaY (⟨k+1,(.slice qa al.length qc),LA,al,aIU⟩) ⟨by dsimp only;omega,hK.2.1,lS.step hK.2.2.1,aqC⟩ (by omega) [1,0,2,3,4,5,6,7,8] (Sub.refl _)
     have aiq:=Ap
     replace aiq:=of_decide_eq_true (by simpa using aiq)
     refine zD 8<|ja ((k:Int)+1) (by omega)<|zD 2<|bA aaY (⟨k+1,(.slice qa al.length qc),LA,al,X⟩) ⟨by dsimp only;omega,hK.2.1,lS.step hK.2.2.1,hK.2.2.2⟩ (by omega) [0,1,2,3,4,5,6,7,8] (Sub.refl _)
    refine jd 10 [2]<|js 120 (decide ((al.length:Int)>0)) (fun HE=>?_) (fun HE=>?_)
    ·
     have wQ:=HE
     replace wQ:=of_decide_eq_true wQ
     refine zD 1<|jc (vs:=[zP d,zI 4]) [1] (nq hN hK.2.2.2 (by omega)) ?_
     rintro _ aIT ⟨aMq,rfl,aqB⟩
     refine zD 2<|js 123 aMq (fun NN=>?_) (fun NN=>?_)
     ·
      subst NN
      refine jd 9 [2,6,2]<|jn fun Oj=>jT (sz:=4) (ps:=hv) (qs:=[(⟨x,(-1),-1,(.slice qa al.length qc)⟩:bC)]) (enc:=mz) (w:= .slice (some ⟨Oj,0,none⟩) 1 1) [4] [0] [(Oj,.cells ⟨([(⟨x,(-1),-1,(.slice qa al.length qc)⟩:bC)].map mz).flatten⟩ 143 (0,0))] (hJ.2.1) (fun s _ hZ=>bN [(⟨x,(-1),-1,(.slice qa al.length qc)⟩:bC)] (hZ _ (.head _)) (by intro p hp;rfl)) (by intro p hp;rw[List.mem_singleton] at hp;subst hp;exact ar rfl) (by simp<;>omega) (fun azT aj4 rG=>?_)
      obtain⟨O2,O0,Rg⟩:=rG.form
      subst Rg
      refine jd 5 [7]<|ja ((i:Int)+1) (by omega)<|zD 2<|KY Yk (⟨i+1,(.slice O2 ((hv++[(⟨x,(-1),-1,(.slice qa al.length qc)⟩:bC)])).length O0),aj4,(hv++[(⟨x,(-1),-1,(.slice qa al.length qc)⟩:bC)]),_,LA++Z,aIT⟩) ⟨by omega,rG,nz.snoc (A:=LA) hJ.2.2.1 (h0:=⟨rfl,rfl,rfl⟩) (x:=⟨x,_,-1,al⟩) (fun ro hk=>⟨rfl,rfl,rfl,hK.2.1.kJ hk⟩) JA.1 JA.2.1 (ag0 hK.2.2.1 (by omega) (by omega) (by assumption)),aqB⟩ (by omega) [[0],[3,5],[2],[6],[7],[8],[9]] (Sub.refl _)
     subst NN
     refine jd 6 [6,2]<|jn fun Oj=>jT (sz:=4) (ps:=hv) (qs:=[(⟨x,w,-1,(.slice qa al.length qc)⟩:bC)]) (enc:=mz) (w:= .slice (some ⟨Oj,0,none⟩) 1 1) [4] [0] [(Oj,.cells ⟨([(⟨x,w,-1,(.slice qa al.length qc)⟩:bC)].map mz).flatten⟩ 143 (0,0))] (hJ.2.1) (fun s _ hZ=>bN [(⟨x,w,-1,(.slice qa al.length qc)⟩:bC)] (hZ _ (.head _)) (by intro p hp;rfl)) (by intro p hp;rw[List.mem_singleton] at hp;subst hp;exact ar rfl) (by simp<;>omega) (fun azT aj4 rG=>?_)
     obtain⟨O2,O0,Rg⟩:=rG.form
     subst Rg
     refine jd 5 [7]<|ja ((i:Int)+1) (by omega)<|zD 2<|KY Yk (⟨i+1,(.slice O2 ((hv++[(⟨x,w,-1,(.slice qa al.length qc)⟩:bC)])).length O0),aj4,(hv++[(⟨x,w,-1,(.slice qa al.length qc)⟩:bC)]),_,LA++Z,aIT⟩) ⟨by omega,rG,nz.snoc (A:=LA) hJ.2.2.1 (h0:=⟨rfl,rfl,rfl⟩) (x:=⟨x,_,-1,al⟩) (fun ro hk=>⟨rfl,rfl,rfl,hK.2.1.kJ hk⟩) JA.1 JA.2.1 (Le (by omega) hK.2.2.1 (by omega) (by omega)),aqB⟩ (by omega) [[0],[3,5],[2],[6],[7],[8],[9]] (Sub.refl _)
    have wQ:=HE
    replace wQ:=of_decide_eq_false wQ
    refine jd 10 [6,2]<|jn fun Oj=>jT (sz:=4) (ps:=hv) (qs:=[(⟨x,w,-1,(.slice qa al.length qc)⟩:bC)]) (enc:=mz) (w:= .slice (some ⟨Oj,0,none⟩) 1 1) [4] [0] [(Oj,.cells ⟨([(⟨x,w,-1,(.slice qa al.length qc)⟩:bC)].map mz).flatten⟩ 143 (0,0))] (hJ.2.1) (fun s _ hZ=>bN [(⟨x,w,-1,(.slice qa al.length qc)⟩:bC)] (hZ _ (.head _)) (by intro p hp;rfl)) (by intro p hp;rw[List.mem_singleton] at hp;subst hp;exact ar rfl) (by simp<;>omega) (fun azT aj4 rG=>?_)
    obtain⟨O2,O0,Rg⟩:=rG.form
    subst Rg
    refine jd 5 [7]<|ja ((i:Int)+1) (by omega)<|zD 2<|KY Yk (⟨i+1,(.slice O2 ((hv++[(⟨x,w,-1,(.slice qa al.length qc)⟩:bC)])).length O0),aj4,(hv++[(⟨x,w,-1,(.slice qa al.length qc)⟩:bC)]),_,LA++Z,X⟩) ⟨by omega,rG,nz.snoc (A:=LA) hJ.2.2.1 (h0:=⟨rfl,rfl,rfl⟩) (x:=⟨x,_,-1,al⟩) (fun ro hk=>⟨rfl,rfl,rfl,hK.2.1.kJ hk⟩) JA.1 JA.2.1 (Le (by omega) hK.2.2.1 (by omega) (by omega)),hK.2.2.2⟩ (by omega) [[0],[2,5],[3],[6],[7],[8],[9]] (Sub.refl _)
   refine zD 4<|js 77 (decide ((kQ.length:Int)>1)) (fun h17=>?_) (fun h17=>?_)
   ·
    have HC:=h17
    replace HC:=of_decide_eq_true HC
    refine zD 1<|jc (vs:=[zP d,zI 3]) [3] (nq hN JA.2.2.2 (by omega)) ?_
    rintro _ X79 ⟨w79,rfl,aVk⟩
    refine zD 2<|bA hK9 ⟨w79,X79⟩ ⟨fun _=>by omega,aVk⟩ Nat.zero_lt_one [1,2,3,0,4,5,6,7] (Sub.refl _)
   have HC:=h17
   replace HC:=of_decide_eq_false HC
   refine zD 4<|bA hK9 ⟨false,X⟩ ⟨(fun h=>by cases h),JA.2.2.2⟩ Nat.zero_lt_one [0,1,2,3,4,5,6,7] (Sub.refl _)
  refine zD 3 ?_
  obtain⟨x64,No⟩:=zG kQ i
  refine QE 1 au2 No fun b64 aT7=>mY 0 [5] L53 (fun s _ hZ=>bU au2 aT7 hZ No)<|jd 3 [4]<|A5 hI.2.1<|ja ((cs.length:Int)-1) (by omega)<|mX [0,14] ⟨fun z14 t15 Ro=>?_,fun z17 t18 ahG=>?_,trivial⟩
  ·
   refine jc [] (afw) ?_
   rintro v61 L61 ⟨_,agy,rfl⟩
   refine bI Ro [1,2,3,4,5,6,7] ?_
   obtain⟨x66,G3⟩:=zG pY (x64.toNat) (by have:=agH _ (List.mem_of_getElem? No);omega)
   refine pW x64 1 agy G3 (Int.toNat_of_nonneg (show 0≤x64∧x64 <((pY).length:Int) from (agH _ (List.mem_of_getElem? No))).1).symm fun b66 awh=>mY 0 [0] L61 (fun s _ hZ=>bU agy awh hZ G3)<|mX [12,14] ⟨fun z20 t21 ahF=>?_,fun z23 t24 NG=>?_,trivial⟩
   ·
    refine jc (vs:=[zP d,zI ((cs.length:Int)-1)]) [3] (xQ hN hJ.2.2.2 (by omega)) ?_
    rintro _ X73 ⟨w73,rfl,aC3,aax,ahM⟩
    refine gY ahF [[1],[5],[6]]<|zD 1<|aM 14 fun aca ac2 Jz=>jn fun Ar=>bI Jz [1,2,3,4,5,6,7,8]<|aM 15 fun Wd Ws NF=>jd 1 [0]<|eo NF<|zD 1<|bA hK8 ⟨Ar,w73,_,x66,X73⟩ ⟨No,G3,(by dsimp only;omega),ahM⟩ Nat.zero_lt_one [0,3,4,1,5,6,7,8] (Sub.refl _)
   refine jn fun Ar=>bI NG [1,2,3,4,5,6,7,8]<|aM 12 fun Wc Wq Ht=>jc (vs:=[zP d,zI ((cs.length:Int)-1)]) [4] (xQ hN hJ.2.2.2 (by omega)) ?_
   rintro _ X73 ⟨w73,rfl,aC3,aax,ahM⟩
   refine gY Ht [[2],[6],[7]]<|zD 1<|aM 15 fun ON Pb Hs=>jd 1 [1]<|eo Hs<|zD 1<|bA hK8 ⟨Ar,w73,_,x66,X73⟩ ⟨No,G3,(by dsimp only;omega),ahM⟩ Nat.zero_lt_one [1,3,4,0,5,6,7,8] (Sub.refl _)
  refine jn fun Ar=>bI ahG [1,2,3,4,5,6,7]<|aM 0 fun Wb Wo ND=>jc [] (afw) ?_
  rintro v61 L61 ⟨_,agy,rfl⟩
  refine bI ND [1,2,3,4,5,6,7,8] ?_
  obtain⟨x66,G3⟩:=zG pY (x64.toNat) (by have:=agH _ (List.mem_of_getElem? No);omega)
  refine pW x64 1 agy G3 (Int.toNat_of_nonneg (show 0≤x64∧x64 <((pY).length:Int) from (agH _ (List.mem_of_getElem? No))).1).symm fun b66 awh=>mY 0 [0] L61 (fun s _ hZ=>bU agy awh hZ G3)<|aM 12 fun ab9 ac1 Rm=>jc (vs:=[zP d,zI ((cs.length:Int)-1)]) [4] (xQ hN hJ.2.2.2 (by omega)) ?_
  rintro _ X73 ⟨w73,rfl,aC3,aax,ahM⟩
  refine gY Rm [[1],[6],[7]]<|zD 1<|aM 15 fun azq az9 awF=>jd 1 [2]<|eo awF<|zD 1<|bA hK8 ⟨Ar,w73,_,x66,X73⟩ ⟨No,G3,(by dsimp only;omega),ahM⟩ Nat.zero_lt_one [2,3,4,0,5,6,7,8] (Sub.refl _)
 refine jd 5 [4] ?_
 obtain⟨acK,acz,ag4⟩:=hI.2.1.form
 subst ag4
 obtain⟨aM3,aMF,aTv⟩:=hJ.2.1.form
 subst aTv
 refine jd 3 [6]<|aH q0 (.agg ⟨[(.slice acK (cs).length acz),(.slice aM3 (hv).length aMF)]⟩) [6] [3,0,1,2] (LC++(LH++(Z++X))) (Sub.refl _) ⟨_,_,rfl,rfl,cs,hv,hd,_,_,LC++(LH++Z),X,rfl,Zq hI.2.2.1 QT (by omega) hJ.2.2.1 (by omega) (by omega) wE agH,hJ.2.2.1.2.2.2.2,fun aC hk=>⟨hI.2.1.kJ hk.left,hJ.2.1.kJ hk.right.left,hJ.2.2.1.1 aC hk.right.right⟩,by simp only[List.append_assoc],hJ.2.2.2⟩
abbrev gT(x:Value):List Value:=[x]
structure ah where
 n:Int
 l:Int
abbrev cW(x:ah):List Value:=[zI x.n,zI x.l]
def alP(x y:ah):Prop:=x.n <y.n∨(x.n=y.n∧x.l <y.l)
def BN(x:ah):Prop:=(1≤x.n∧x.n≤9)∧0≤x.l∧x.l≤4
structure fw(S:List (List ah)):Prop where
 two:S.length=2
 len:∀l∈S,l.length≤4
 ok:∀l∈S,∀x∈l,BN x
 asc:∀l∈S,l.Pairwise alP
def wh:List (List ah):=[[⟨1,0⟩,⟨2,0⟩],[⟨1,0⟩,⟨3,0⟩]]
def cZ(ro:Nat→Option Obj)(v:Value)(S:List (List ah)):Prop:=∃ws,bH ro v 1 gT ws∧dD (fun w l=>bH ro w 2 cW l) ws S
def nv(ro:Nat→Option Obj)(v:Value)(ways:List (List aF)):Prop:=∃ws,bH ro v 1 gT ws∧dD (fun w l=>bH ro w 7 k9 l) ws ways
theorem cZ.up{ro:Nat→Option Obj}{v:Value}{S:List (List ah)}(h:cZ ro v S)(hs:Sub ro aK):cZ aK v S:=by
 obtain⟨ws,h1,h2⟩:=h
 exact⟨ws,h1.up hs,h2.imp fun _ _ k=>k.up hs⟩
theorem nv.up{ro:Nat→Option Obj}{v:Value}{w:List (List aF)}(h:nv ro v w)(hs:Sub ro aK):nv aK v w:=by
 obtain⟨ws,h1,h2⟩:=h
 exact⟨ws,h1.up hs,h2.imp fun _ _ k=>k.up hs⟩
theorem jY.up{ro:Nat→Option Obj}{hv:List bC}(h:jY ro vc vh cs hv hd)(hs:Sub ro aK):jY aK vc vh cs hv hd:=
 ⟨h.1.up hs,h.2.1.up hs,h.2.2.imp fun _ _ k=>⟨k.1,k.2.1,k.2.2.1,k.2.2.2.up hs⟩⟩
structure aE where
 ways:List (List aF)
 cs:List bQ
 hd:List cz
 rules:List cb
 before:List aj
 after:List aj
 gone:Int
 new:Int
 af:Int
 facts:List dc
 str:List (List ah)
variable {K:aE}
def fU(ro:Nat→Option Obj)(l:List Value)(k:aE):Prop:=∃(vS vT vc vh vr vb va vf:Value) (fa:Option Addr) (fc:Nat) (hv:List bC),
 l=[vS,vT,.slice fa 0 fc,vc,vh,vr,vb,va,zI k.gone,zI k.new,zI k.af,vf]∧cZ ro vS k.str∧nv ro vT k.ways∧jY ro vc vh k.cs hv k.hd∧dD dO hv k.hd∧
 bH ro vr 2 iV k.rules∧bH ro vb 5 cU k.before∧bH ro va 5 cU k.after∧bH ro vf 3 xa k.facts
def mi(hd:List cz)(i:Int):Prop:=i= -1∨(0≤i∧∃x,hd[i.toNat]?=some x∧0≤x.cls)
def BO(hd:List cz)(p:aj):Prop:=DF p.name∧mi hd p.head∧(0≤p.st∧p.st≤1)∧p.bold=false
def Sx(hd:List cz)(p:aj):Prop:=BO hd p∧(p.st=0→p.no=1∨p.no=2)∧(p.st=1→p.no=1∨p.no=3)
def Sz(hd:List cz)(p:aj):Prop:=BO hd p∧1≤p.no∧p.no≤3
def FJ(hd:List cz)(p:aj):Prop:=((1≤p.name.size∧p.name.size≤6)∧Script p.name)∧mi hd p.head∧(0≤p.st∧p.st≤1)∧p.bold=false
def aoJ(S:List (List ah))(hd:List cz)(p:aj):Prop:=FJ hd p∧∃l,S[p.st.toNat]?=some l∧(⟨p.no,0⟩:ah)∈l
def aIX(hd:List cz)(p:aj):Prop:=FJ hd p∧1≤p.no∧p.no≤40
structure Y6(cs:List bQ)(hd:List cz):Prop where
 nc:0 <cs.length∧cs.length≤6
 nh:hd.length≤6
 Bg:∀(i:Nat) (x:cz),hd[i]?=some x→gZ cs.length hd.length i x
structure ko(k:aE):Prop where
 qx:fw k.str
 ways:k.ways.length≤1∧∀l∈k.ways,(1≤l.length∧l.length≤2)∧∀c∈l,iY c
 dH:Y6 k.cs k.hd
 rules:k.rules.length≤4
 before:k.before.length≤4∧∀p∈k.before,aoJ k.str k.hd p
 after:k.after.length≤4∧∀p∈k.after,aIX k.hd p
 uu:(0≤k.gone∧k.gone≤4)∧(0≤k.new∧k.new≤4)∧(0≤k.af∧k.af≤4)
 facts:k.facts.length≤4∧(∀x∈k.facts,(0≤x.a∧x.a <k.before.length)∧(0≤x.b∧x.b <k.after.length))
 apart:k.facts.Pairwise fun x y=>¬(x.a=y.a∧x.b=y.b)
structure LZ(k:aE):Prop where
 ways:k.ways.length≤1∧∀l∈k.ways,(1≤l.length∧l.length≤2)∧∀c∈l,iY c
 dH:xu k.cs k.hd
 rules:k.rules.length≤2∧∀r∈k.rules,DD r
 before:k.before.length≤4∧∀p∈k.before,Sx k.hd p
 after:k.after.length≤4∧∀p∈k.after,Sz k.hd p
 uu:(0≤k.gone∧k.gone≤4)∧(0≤k.new∧k.new≤4)∧(0≤k.af∧k.af≤4)
 facts:k.facts.length≤4∧(∀x∈k.facts,(0≤x.a∧x.a <k.before.length)∧(0≤x.b∧x.b <k.after.length))
 apart:k.facts.Pairwise fun x y=>¬(x.a=y.a∧x.b=y.b)
 str:k.str=wh
theorem ZX:fw wh where
 two:=rfl
 len:=by simp[wh]
 ok:=by simp[wh,BN]
 asc:=by simp[wh,alP]
theorem BO.c{p:aj}(h:BO hd p):FJ hd p:=⟨⟨⟨h.1.1.1,by have:=h.1.1.2;omega⟩,h.1.2⟩,h.2⟩
theorem LZ.c{k:aE}(h:LZ k):ko k where
 qx:=by rw[h.str];exact ZX
 ways:=h.ways
 dH:=⟨⟨h.dH.nc.1,by have:=h.dH.nc.2;omega⟩,by have:=h.dH.nh;omega,fun i x hx=>(h.dH.Bg i x hx).2⟩
 rules:=by have:=h.rules.1;omega
 before:=⟨by have:=h.before.1;omega,fun p hp=>by
  obtain⟨h1,h2,h3⟩:=h.before.2 p hp
  refine⟨h1.c,?_⟩
  rw[h.str]
  have h4:=h1.2.2.1
  rcases(by omega:p.st=0∨p.st=1) with e|e
  ·rw[e];exact⟨_,rfl,by rcases h2 e with e2|e2<;>simp[e2]⟩
  rw[e];exact⟨_,rfl,by rcases h3 e with e2|e2<;>simp[e2]⟩⟩
 after:=⟨by have:=h.after.1;omega,fun p hp=>by
  obtain⟨h1,h2,h3⟩:=h.after.2 p hp
  exact⟨h1.c,h2,by omega⟩⟩
 uu:=h.uu
 facts:=⟨by have:=h.facts.1;omega,h.facts.2⟩
 apart:=h.apart
theorem lO{hv:List bC}(h:dD dO hv hd){i:Int}(k:i= -1∨V9 hv i):mi hd i:=by
 rcases k with k| ⟨k0,x,k1,k2⟩
 ·exact .inl k
 obtain⟨y,h1,h2⟩:=h.get k1
 exact .inr ⟨k0,y,h1,h2.2.1▸k2⟩
theorem Gb{ro:Nat→Option Obj}{c e:Nat}(h1:ro b=some (.cells ⟨[zI 1,zI 0,zI 2,zI 0]⟩ 73 (0,0)))(h2:ro c=some (.cells ⟨[zI 1,zI 0,zI 3,zI 0]⟩ 73 (0,0)))
 (h3:ro e=some (.cells ⟨[.slice (some ⟨b,0,none⟩) 2 2,.slice (some ⟨c,0,none⟩) 2 2]⟩ 74 (0,0))):cZ ro (.slice (some ⟨e,0,none⟩) 2 2) wh:=
 ⟨_,bF [_,_] h3 (fun _ _=>rfl),.cons (bF [(⟨1,0⟩:ah),⟨2,0⟩] h1 (fun _ _=>rfl)) (.cons (bF [(⟨1,0⟩:ah),⟨3,0⟩] h2 (fun _ _=>rfl)) .nil)⟩
theorem aal{w u:Int}(h:w∈[1,2,4,u])(hu:0≤u∧u≤4):0≤w∧w≤4:=by
 simp only[List.mem_cons,List.not_mem_nil,or_false] at h
 omega
theorem Gc{ro:Nat→Option Obj}:nv ro (zS) []:=⟨[],bH.nil _ _ _ _ _,.nil⟩
theorem aV7{ro:Nat→Option Obj}(hl:bH ro vd 1 cq xs):eV zT 7 [vd] ro [] (fun r Y=>∃d,r= zP d∧aW vd xs d Y):=by
 obtain⟨fL,sj,si,fp,rfl,tZ,lU,mS⟩:=hl
 refine bG av [] [] bh<|zD 8<|jn fun b5=>zD 3<|aH q0 (zP b5) [] [0] [(b5,.cells ⟨[.slice fL xs.length fp,zI 0,zU 11400714819323198485]⟩ 70 (0,0))] (Sub.refl _) ⟨_,_,rfl,rfl,_,rfl,0,_,Nat.zero_le _,rfl⟩
theorem dD.mem{R:α→β→Prop}{l:List α}{m:List β}(h:dD R l m){a:α}(ha:a∈l):∃b∈m,R a b:=by
 obtain⟨i,hi⟩:=List.getElem?_of_mem ha
 obtain⟨b,hb,hr⟩:=h.get hi
 exact⟨b,List.mem_of_getElem? hb,hr⟩
theorem m9{ro:Nat→Option Obj}{hv:List bC}(h:dD (rV ro) hv hd):∀p∈hv,∀c∈mz p,single c=true:=fun p hp=>by
 obtain⟨y,_,h1⟩:=h.mem hp
 obtain⟨w,c,s,a⟩:=p
 obtain⟨_,_,_,_,e,_⟩:=h1.2.2.2
 dsimp only at e
 subst e
 exact ar rfl
structure eW where
 a:Int
 b:Int
 c:Int
 d:Int
 e:Int
 f:Int
abbrev oV(x:eW):List Value:=[zI x.a,zI x.b,zI x.c,zI x.d,zI x.e,zI x.f]
def V7(K:aE)(l:List Value):Prop:=∃v0 v1 v3 v4 v5 v6 v7 vb fa fc,l=[v0,v1,.slice fa 0 fc,v3,v4,v5,v6,v7,zI K.gone,zI K.new,zI K.af,vb]∧∀v∈[v0,v1,v3,v4,v5,v6,v7,vb],single v=true
theorem V7.all(h:V7 K l):∀v∈l,single v=true:=by
 obtain⟨v0,v1,v3,v4,v5,v6,v7,vb,fa,fc,rfl,h⟩:=h
 simp only[List.mem_cons,List.not_mem_nil,or_false] at h ⊢
 rintro v (rfl|rfl|rfl|rfl|rfl|rfl|rfl|rfl|rfl|rfl|rfl|rfl)<;>first|rfl|exact h _ (by simp)
theorem ib{v:Value}{enc:α→List Value}{ps:List α}{L:Cells}(h:az v sz T enc ps L):single v=true:=by
 obtain⟨a,c,rfl⟩:=h.form;rfl
theorem fR{v:Value}{enc:α→List Value}{ps:List α}{ro:Nat→Option Obj}(h:bH ro v sz enc ps):single v=true:=by
 obtain⟨a,b,o,c,rfl,_⟩:=h;rfl
theorem AG{a b c d e f g h:Value}(h1:single a=true)(h2:single b=true)(h3:single c=true)(h4:single d=true)(h5:single e=true)(h6:single f=true)(h7:single g=true)(h8:single h=true):∀v∈[a,b,c,d,e,f,g,h],single v=true:=by
 simp only[List.mem_cons,List.not_mem_nil,or_false]
 rintro v (rfl|rfl|rfl|rfl|rfl|rfl|rfl|rfl)<;>assumption
theorem pQ{P:Prop}{p:α}(h:([]:List α)[i]?=some p):P:=by simp at h
theorem fg{l:List α}{a:α}(h:l[i]?=some a):l.take (i+1)=l.take i++[a]:=by
 rw[List.take_succ,h];rfl
theorem xW{R:α→β→Prop}{ws:List α}{ls:List β}{w:α}{l:β}(h:dD R ws (ls.take i))(hl:ls[i]?=some l) (hr:R w l):dD R (ws++[w]) (ls.take (i+1)):=by
 rw[fg hl];exact h.snoc hr
def hqw:ByteArray:=bs [72,81,87]
def kindOf(r:Int):Int:=if 97≤r∧r≤122 then 1 else if (65≤r∧r≤90)∧QH hqw (UInt8.ofNat (IntKind.u8.wrap r).toNat) <0 then 2 else 0
theorem aH0:EF zT 308 Extern.BytealgIndexByte.indexByte:=⟨Tryz.f308,Tryz.func308,by kernel_rfl,by kernel_rfl,by kernel_rfl,by kernel_rfl⟩
theorem aar{a:ByteArray}{b:Int}{ro:Nat→Option Obj}:dz zT 300 [.string a,.int .u8 b] ro (zI (QH a (b).toNat.toUInt8)):=by
 refine bG av [] [] bh<|zD 8<|jib (a:=a) (b:=b) aH0<|zD 3<|aH q0 (zI (QH a (b).toNat.toUInt8)) [] [] [] (Sub.refl _) ⟨_,_,rfl,rfl,rfl,rfl⟩
theorem aas{a:ByteArray}{b:Int}{ro:Nat→Option Obj}:dz zT 283 [.string a,.int .u8 b] ro (zI (QH a (b).toNat.toUInt8)):=by
 refine bG av [] [] bh<|zD 8<|jp (vs:=[.string a,.int .u8 b]) [] [] (fun aC hs hZ=>aar)<|zD 3<|aH q0 (zI (QH a (b).toNat.toUInt8)) [] [] [] (Sub.refl _) ⟨_,_,rfl,rfl,rfl,rfl⟩
theorem aue{a:ByteArray}{ro:Nat→Option Obj}(hr:0≤r∧r <128):dz zT 259 [.string a,.int .i32 r] ro (zI (QH a (IntKind.u8.wrap r).toNat.toUInt8)):=by
 refine bG av [] [] bh<|zD 10<|jj 3 [(0,.string a),(1,.int .i32 r),(4,zI 0),(166,.bool ((decide (0≤r))&&(decide (r <128))))] (fun ia=>?_) (fun hj=>?_)
 rotate_left
 refine js 163 (decide (0≤r)) (fun h1=>?_) (fun h1=>?_)
 ·
  have gD:=h1
  replace gD:=of_decide_eq_true gD
  refine zD 3<|jw 166 (.bool ((decide (0≤r))&&(decide (r <128)))) (w:= .bool (decide (r <128))) (by rw[h1]<;>rfl) ?_
  exact hj _ (by kernel_rfl) (by kernel_rfl)
 ·
  have gD:=h1
  replace gD:=of_decide_eq_false gD
  refine zD 3<|jw 166 (.bool ((decide (0≤r))&&(decide (r <128)))) (w:= .bool false) (by rw[h1]<;>rfl) ?_
  exact hj _ (by kernel_rfl) (by kernel_rfl)
 refine zD 2<|js 160 ((decide (0≤r))&&(decide (r <128))) (fun h2=>?_) (fun h2=>?_)
 ·
  try simp only[zB] at h2
  refine zD 6<|jp (vs:=[.string a,.int .u8 (IntKind.u8.wrap r)]) [] [] (fun aC hs hZ=>aas)<|zD 3<|aH q0 (zI (QH a ((IntKind.u8.wrap r)).toNat.toUInt8)) [] [] [] (Sub.refl _) ⟨_,_,rfl,rfl,rfl,rfl⟩
 try simp only[zB] at h2
 exfalso;omega
theorem anE{a:ByteArray}{ro:Nat→Option Obj}(hr:0≤r∧r <128):dz zT 239 [.string a,.int .i32 r] ro (.bool (decide (QH a (IntKind.u8.wrap r).toNat.toUInt8≥0))):=by
 refine bG av [] [] bh<|zD 8<|jp (vs:=[.string a,.int .i32 r]) [] [] (fun aC hs hZ=>aue (by omega))<|zD 4<|aH q0 (.bool (decide ((QH a (IntKind.u8.wrap r).toNat.toUInt8)≥0))) [] [] [] (Sub.refl _) ⟨_,_,rfl,rfl,rfl,rfl⟩
theorem apM{ro:Nat→Option Obj}:dz zT 218 [.int .i32 r] ro (zI (kindOf r)):=by
 refine bG av [] [] bh<|zD 11<|jj 3 [(0,.int .i32 r),(2,zI 0),(9,.bool ((decide (r≥97))&&(decide (r≤122))))] (fun ia=>?_) (fun hj=>?_)
 rotate_left
 refine js 6 (decide (r≥97)) (fun h1=>?_) (fun h1=>?_)
 ·
  have gD:=h1
  replace gD:=of_decide_eq_true gD
  refine zD 3<|jw 9 (.bool ((decide (r≥97))&&(decide (r≤122)))) (w:= .bool (decide (r≤122))) (by rw[h1]<;>rfl) ?_
  exact hj _ (by kernel_rfl) (by kernel_rfl)
 ·
  have gD:=h1
  replace gD:=of_decide_eq_false gD
  refine zD 3<|jw 9 (.bool ((decide (r≥97))&&(decide (r≤122)))) (w:= .bool false) (by rw[h1]<;>rfl) ?_
  exact hj _ (by kernel_rfl) (by kernel_rfl)
 refine zD 2<|js 3 ((decide (r≥97))&&(decide (r≤122))) (fun h2=>?_) (fun h2=>?_)
 ·
  try simp only[zB] at h2
  refine zD 6<|aH q0 (zI 1) [] [] [] (Sub.refl _) ⟨_,_,rfl,rfl,by simp only[kindOf,hqw];congr 1;(try simp at*);(repeat' split)<;>omega,rfl⟩
 try simp only[zB] at h2
 refine zD 6<|jj 3 [(0,.int .i32 r),(2,zI 0),(16,.bool ((decide (r≥65))&&(decide (r≤90))))] (fun ia=>?_) (fun hj=>?_)
 rotate_left
 refine js 13 (decide (r≥65)) (fun h3=>?_) (fun h3=>?_)
 ·
  have wP:=h3
  replace wP:=of_decide_eq_true wP
  refine zD 3<|jw 16 (.bool ((decide (r≥65))&&(decide (r≤90)))) (w:= .bool (decide (r≤90))) (by rw[h3]<;>rfl) ?_
  exact hj _ (by kernel_rfl) (by kernel_rfl)
 ·
  have wP:=h3
  replace wP:=of_decide_eq_false wP
  refine zD 3<|jw 16 (.bool ((decide (r≥65))&&(decide (r≤90)))) (w:= .bool false) (by rw[h3]<;>rfl) ?_
  exact hj _ (by kernel_rfl) (by kernel_rfl)
 refine zD 1<|jj 4 [(2,zI 0),(21,.bool (((decide (r≥65))&&(decide (r≤90)))&&(!(decide (QH (bs [72,81,87]) (IntKind.u8.wrap r).toNat.toUInt8≥0)))))] (fun ia=>?_) (fun hj=>?_)
 rotate_left
 refine js 17 ((decide (r≥65))&&(decide (r≤90))) (fun h4=>?_) (fun h4=>?_)
 ·
  have yz:=h4
  try simp only[zB] at yz
  refine zD 1<|jp (vs:=[.string (bs [72,81,87]),.int .i32 r]) [] [] (fun aC hs hZ=>anE (by omega))<|zD 2<|jw 21 (.bool (((decide (r≥65))&&(decide (r≤90)))&&(!(decide (QH (bs [72,81,87]) (IntKind.u8.wrap r).toNat.toUInt8≥0))))) (w:= .bool (!(decide (QH (bs [72,81,87]) (IntKind.u8.wrap r).toNat.toUInt8≥0)))) (by rw[h4]<;>rfl) ?_
  exact hj _ (by kernel_rfl) (by kernel_rfl)
 ·
  have yz:=h4
  try simp only[zB] at yz
  refine zD 4<|jw 21 (.bool (((decide (r≥65))&&(decide (r≤90)))&&(!(decide (QH (bs [72,81,87]) (IntKind.u8.wrap r).toNat.toUInt8≥0))))) (w:= .bool false) (by rw[h4]<;>rfl) ?_
  exact hj _ (by kernel_rfl) (by kernel_rfl)
 refine zD 2<|js 10 (((decide (r≥65))&&(decide (r≤90)))&&(!(decide (QH (bs [72,81,87]) (IntKind.u8.wrap r).toNat.toUInt8≥0)))) (fun h5=>?_) (fun h5=>?_)
 ·
  try simp only[zB] at h5
  refine zD 6<|aH q0 (zI 2) [] [] [] (Sub.refl _) ⟨_,_,rfl,rfl,by simp only[kindOf,hqw];congr 1;(try simp at*);(repeat' split)<;>omega,rfl⟩
 try simp only[zB] at h5
 refine zD 7<|aH q0 (zI 0) [] [] [] (Sub.refl _) ⟨_,_,rfl,rfl,by simp only[kindOf,hqw];congr 1;(try simp at*);(repeat' split)<;>omega,rfl⟩
theorem ae6:((List.range 256).all fun n=> !GV (UInt8.ofNat n)||decide (kindOf (n:Int)=1))=true:=by kernel_rfl
theorem ae5:((List.range 256).all fun n=> !GA (UInt8.ofNat n)||decide (kindOf (n:Int)=2))=true:=by kernel_rfl
def Zc(w:ByteArray)(k:Int):Prop:=∀b∈w.data.toList,b.toNat <128∧kindOf (b.toNat:Int)=k
theorem Py{w:ByteArray}(h:Script w):∃k:Int,(k=1∨k=2)∧Zc w k:=by
 have hb:∀b:UInt8,UInt8.ofNat b.toNat=b:=fun b=>by simp
 rcases h with h|h
 ·refine⟨1,.inl rfl,fun b mL=>?_⟩
  have h1:=h b mL
  have h2:=List.all_eq_true.1 ae6 b.toNat (List.mem_range.2 b.toNat_lt)
  rw[hb,h1] at h2
  simp only[GV,Bool.and_eq_true,Nat.ble_eq] at h1
  exact⟨by omega,by simpa using h2⟩
 refine⟨2,.inr rfl,fun b mL=>?_⟩
 have h1:=h b mL
 have h2:=List.all_eq_true.1 ae5 b.toNat (List.mem_range.2 b.toNat_lt)
 rw[hb,h1] at h2
 simp only[GA,Bool.and_eq_true,Nat.ble_eq] at h1
 exact⟨by omega,by simpa using h2⟩
theorem ama{w:ByteArray}{k:Int}{ro:Nat→Option Obj}(hs:1≤w.size∧w.size≤6)(hk:k=1∨k=2)(hK:Zc w k):dz zT 185 [.string w] ro (zI 0):=by
 refine bG av [] [] bh<|zD 11<|zJ 9 ((w.size:Int)=0) (fun h1=>?_) fun h1=>?_
 ·
  exfalso;omega
 refine zD 9<|zJ 12 ((w.size:Int)>6) (fun h2=>?_) fun h2=>?_
 ·
  exfalso;omega
 refine zD 10<|jn fun r14=>zD 2<|ek [1,1,1,1,0,1,0,0] [] (fun(zz:Nat×Int)=>[(3,zI zz.2),(14,zP r14)]) (fun(zz:Nat×Int)=>[.b r14 (.stringIter w zz.1)]) (fun(zz:Nat×Int)=>zz.1≤w.data.toList.length∧(zz.2=0∨zz.2=k)) (fun(zz:Nat×Int)=>w.data.toList.length-zz.1) (⟨0,0⟩) ⟨by omega,.inl rfl⟩ [0] ?_
 rintro⟨p,sc⟩ hI K1 bM rest
 dsimp only at hI
 refine zD 2 ?_
 cases QX:w.data.toList[p]? with
 |some Av=>
  refine jnA r14 0 QX (hK _ (List.mem_of_getElem? QX)).1<|zD 7 ?_
  have X7:=(hK _ (List.mem_of_getElem? QX)).2
  refine zD 7<|jp (vs:=[.int .i32 (Av.toNat:Int)]) [] [] (fun aC hs hZ=>apM)<|zD 8<|zJ 21 (sc=0) (fun h3=>?_) fun h3=>?_
  ·
   refine zD 10<|jj 4 [(3,zI (kindOf (Av.toNat:Int))),(14,zP r14),(29,.bool ((decide ((kindOf (Av.toNat:Int))=0))||(!decide ((kindOf (Av.toNat:Int))=(kindOf (Av.toNat:Int))))))] (fun ia=>?_) (fun hj=>?_)
   rotate_left
   refine js 25 (decide ((kindOf (Av.toNat:Int))=0)) (fun h4=>?_) (fun h4=>?_)
   ·
    have yz:=h4
    replace yz:=of_decide_eq_true yz
    refine zD 4<|jw 29 (.bool ((decide ((kindOf (Av.toNat:Int))=0))||(!decide ((kindOf (Av.toNat:Int))=(kindOf (Av.toNat:Int)))))) (w:= .bool true) (by rw[h4]<;>rfl) ?_
    exact hj _ (by kernel_rfl) (by kernel_rfl)
   ·
    have yz:=h4
    replace yz:=of_decide_eq_false yz
    refine zD 4<|jw 29 (.bool ((decide ((kindOf (Av.toNat:Int))=0))||(!decide ((kindOf (Av.toNat:Int))=(kindOf (Av.toNat:Int)))))) (w:= .bool (!decide ((kindOf (Av.toNat:Int))=(kindOf (Av.toNat:Int))))) (by rw[h4]<;>rfl) ?_
    exact hj _ (by kernel_rfl) (by kernel_rfl)
   refine zD 1<|js 29 ((decide ((kindOf (Av.toNat:Int))=0))||(!decide ((kindOf (Av.toNat:Int))=(kindOf (Av.toNat:Int))))) (fun h5=>?_) (fun h5=>?_)
   ·
    try simp only[zB] at h5
    exfalso;omega
   try simp only[zB] at h5
   refine zD 2<|bA bM (⟨p+1,(kindOf (Av.toNat:Int))⟩) ⟨by have:=(List.getElem?_eq_some_iff.1 QX).1;dsimp only;omega,by dsimp only;omega⟩ (by have:=(List.getElem?_eq_some_iff.1 QX).1;dsimp only;omega) [0] (Sub.refl _)
  refine zD 7<|jj 4 [(3,zI sc),(14,zP r14),(29,.bool ((decide ((kindOf (Av.toNat:Int))=0))||(!decide ((kindOf (Av.toNat:Int))=sc))))] (fun ia=>?_) (fun hj=>?_)
  rotate_left
  refine js 25 (decide ((kindOf (Av.toNat:Int))=0)) (fun h6=>?_) (fun h6=>?_)
  ·
   have h6g:=h6
   replace h6g:=of_decide_eq_true h6g
   refine zD 4<|jw 29 (.bool ((decide ((kindOf (Av.toNat:Int))=0))||(!decide ((kindOf (Av.toNat:Int))=sc)))) (w:= .bool true) (by rw[h6]<;>rfl) ?_
   exact hj _ (by kernel_rfl) (by kernel_rfl)
  ·
   have h6g:=h6
   replace h6g:=of_decide_eq_false h6g
   refine zD 4<|jw 29 (.bool ((decide ((kindOf (Av.toNat:Int))=0))||(!decide ((kindOf (Av.toNat:Int))=sc)))) (w:= .bool (!decide ((kindOf (Av.toNat:Int))=sc))) (by rw[h6]<;>rfl) ?_
   exact hj _ (by kernel_rfl) (by kernel_rfl)
  refine zD 1<|js 29 ((decide ((kindOf (Av.toNat:Int))=0))||(!decide ((kindOf (Av.toNat:Int))=sc))) (fun h7=>?_) (fun h7=>?_)
  ·
   try simp only[zB] at h7
   exfalso;omega
  try simp only[zB] at h7
  refine zD 2<|bA bM (⟨p+1,sc⟩) ⟨by have:=(List.getElem?_eq_some_iff.1 QX).1;dsimp only;omega,by dsimp only;omega⟩ (by have:=(List.getElem?_eq_some_iff.1 QX).1;dsimp only;omega) [0] (Sub.refl _)
 |none=>
  refine jnZ r14 0 QX<|zD 10<|aH q0 (zI 0) [] [] [] (Sub.refl _) ⟨_,_,rfl,rfl,rfl,rfl⟩
def jH:=(lB Tryz.typeInfo3 Tryz.underlying3 rfl rfl rfl rfl rfl rfl:TF zT 3 _ 1 8 _ false)
theorem ai1(a b c d:Int)(dep:Nat):EqD zT (dep+2) 73 (.agg ⟨[zI a,zI b]⟩) (.agg ⟨[zI c,zI d]⟩) (a==c&&(b==d&&true)):=
 qW (lB Tryz.typeInfo73 Tryz.underlying73 rfl rfl rfl rfl rfl rfl) Tryz.stoodInHeld73 (.cons (by decide) (fE jH rfl) (fE jH rfl) (k7 jH _ _) (.cons (by decide) (fE jH rfl) (fE jH rfl) (k7 jH _ _) .nil))
theorem wZ(a b c d:Int):EqV zT 73 (.agg ⟨[zI a,zI b]⟩) (.agg ⟨[zI c,zI d]⟩) (a==c&&(b==d&&true)):=HY (ai1 a b c d _)
theorem axe(a b c d e f:Int):EqV zT 164 (.agg ⟨[zI a,zI b,zI c]⟩) (.agg ⟨[zI d,zI e,zI f]⟩) (a==d&&(b==e&&(c==f&&true)&&true)):=
 HY (qW (lB Tryz.typeInfo164 Tryz.underlying164 rfl rfl rfl rfl rfl rfl) Tryz.stoodInHeld164 (.cons (by decide) (fE jH rfl) (fE jH rfl) (k7 jH _ _) (.cons (by decide) (Gx (lB Tryz.typeInfo73 Tryz.underlying73 rfl rfl rfl rfl rfl rfl) rfl) (Gx (lB Tryz.typeInfo73 Tryz.underlying73 rfl rfl rfl rfl rfl rfl) rfl) (ai1 _ _ _ _ _) .nil)))
theorem GG:ny zT 73:=Tryz.eqGuardType73
theorem aB7:ny zT 164:=Tryz.eqGuardType164
def Cy(n l:Int)(y:ah):Bool:=n==y.n&&(l==y.l&&true)
theorem T9{w:ByteArray}{ro:Nat→Option Obj}(hs:1≤w.size∧w.size≤6)(h:Script w):dz zT 185 [.string w] ro (zI 0):=by
 obtain⟨k,h1,h2⟩:=Py h
 exact ama hs h1 h2
theorem A4{ro:Nat→Option Obj}:dz zT 87 [zI 0] ro (.tuple ⟨[]⟩):=by
 refine bG av [] [] bh<|zD 7<|aH q0 (.tuple ⟨[]⟩) [] [] [] (Sub.refl _) ⟨_,_,rfl,rfl,rfl,rfl⟩
theorem XL{ro:Nat→Option Obj}:dz zT 86 [.agg ⟨[.string x.name,zI x.st,zI x.no,zI x.head,.bool x.bold]⟩] ro (.agg ⟨[zI x.st,zI x.no,zI 0]⟩):=by
 refine bG av [] [] bh<|zD 2<|jn fun b1=>jn fun b2=>jd 12 [1,1,0]<|aH q0 (.agg ⟨[zI x.st,zI x.no,zI 0]⟩) [0] [] [] (Sub.refl _) ⟨_,_,rfl,rfl,rfl,rfl⟩
theorem afn{v:Value}{ps:List ah}{l:Int}{ro:Nat→Option Obj}(hp:bH ro v 2 cW ps)(hn:ps.length≤1000):dz zT 219 [v,.agg ⟨[zI n,zI l]⟩] ro (zI (bP (Cy n l) ps 0)):=by
 obtain⟨SI,qpb,qpo,Km,rfl,qpk,ZS,ZR⟩:=hp
 refine bG av [] [] bh<|zD 2<|jn fun b3=>zD 10<|ek [1,0,1,0,0] [] (fun(zz:Nat)=>[(0,.slice SI ps.length Km),(3,zP b3),(7,zI (ps.length:Int)),(8,zI (zz:Int))]) (fun(zz:Nat)=>[.b b3 (.cells ⟨[zI n,zI l]⟩ 73 (0,0))]) (fun(zz:Nat)=>zz≤ps.length∧bP (Cy n l) ps 0=bP (Cy n l) (ps.drop zz) zz) (fun(zz:Nat)=>ps.length-zz) 0 ⟨by omega,rfl⟩ [0] ?_
 rintro k hI K1 bM rest
 refine zD 5<|zJ 9 ((k:Int) <(ps.length:Int)) (fun h1=>?_) fun h1=>?_
 ·
  refine jd 14 [0] ?_
  obtain⟨eF,dK⟩:=zG ps k
  refine iM Km 2 ZS dK<|jl 0 (ZR _ _ dK)<|jeq GG (wZ n l eF.n eF.l)<|zD 1<|js 16 (n==eF.n&&(l==eF.l&&true)) (fun h2=>?_) (fun h2=>?_)
  ·
   refine zD 7<|aH q0 (zI (k:Int)) [] [] [] (Sub.refl _) ⟨_,_,rfl,rfl,by rw[hI.2,gM dK,show Cy n l eF=true from (by assumption)];rfl,rfl⟩
  refine zD 3<|ja ((k:Int)+1) (by omega)<|zD 2<|bA bM (k+1) ⟨by omega,by rw[hI.2,gM dK,show Cy n l eF=false from (by assumption)];rfl⟩ (by omega) [0] (Sub.refl _)
 refine zD 7<|aH q0 (zI (-1)) [] [] [] (Sub.refl _) ⟨_,_,rfl,rfl,by rw[hI.2,nn (by omega)],rfl⟩
theorem KV{v:Value}{ps:List ah}{l:Int}{ro:Nat→Option Obj}(hp:bH ro v 2 cW ps)(hn:ps.length≤1000):dz zT 186 [v,.agg ⟨[zI n,zI l]⟩] ro (.bool (decide (bP (Cy n l) ps 0≥0))):=by
 obtain⟨SI,qpb,qpo,Km,rfl,qpk,ZS,ZR⟩:=hp
 refine bG av [] [] bh<|zD 2<|jn fun b3=>jd 6 [0]<|jp (vs:=[.slice SI ps.length Km,.agg ⟨[zI n,zI l]⟩]) [] [] (fun aC hs hZ=>afn ((show bH _ _ _ _ _ from ⟨SI,qpb,qpo,Km,rfl,qpk,ZS,ZR⟩).up hs) (by first|omega| (simp only[List.length_set,List.length_append,List.length_cons,List.length_nil];omega))) ?_
 refine zD 4<|aH q0 (.bool (decide ((bP (Cy n l) ps 0)≥0))) [] [] [] (Sub.refl _) ⟨_,_,rfl,rfl,rfl,rfl⟩
theorem Yd{i:Int}(h:mi hd i): -1≤i∧i <hd.length:=by
 rcases h with h| ⟨h0,x,h1,_⟩
 ·omega
 have:=(List.getElem?_eq_some_iff.1 h1).1
 omega
theorem Rc{hv:List bC}{i:Int}{x:bC}(h:dD dO hv hd)(hi:mi hd i)(h0:i≥0)(hx:hv[i.toNat]?=some x):0≤x.cls:=by
 rcases hi with hi| ⟨_,y,h1,h2⟩
 ·omega
 obtain⟨z,h3,h4⟩:=h.get hx
 rw[h1] at h3;cases h3
 rw[h4.2.1];exact h2
theorem Kq{S:List (List ah)}{l:List ah}(h:aoJ S hd x)(hl:S[x.st.toNat]?=some l):bP (Cy x.no 0) l 0≥0:=by
 obtain⟨l',h1,h2⟩:=h.2
 rw[h1] at hl;cases hl
 have key:∀(l:List ah) (k:Nat),(⟨x.no,0⟩:ah)∈l→bP (Cy x.no 0) l k≥0:=by
  intro l
  induction l with
  |nil=>intro k h;cases h
  |cons y l ih=>
   intro k h
   simp only[bP]
   cases hx:Cy x.no 0 y with
   |true=>simp
   |false=>
    simp only[cond_false]
    rcases List.mem_cons.1 h with rfl|h
    ·simp[Cy] at hx
    exact ih _ h
 exact key _ 0 h2
theorem afh{ro:Nat→Option Obj}(hK:fU ro l K)(hO:ko K)(hx:aoJ K.str K.hd x):dz zT 156 [.agg ⟨l⟩,.agg ⟨[.string x.name,zI x.st,zI x.no,zI x.head,.bool x.bold]⟩,.bool true] ro (zI 0):=by
 obtain⟨vS,vT,vc,vh,vr,vb,va,vf,fa,fc,hv,rfl,hS,hT,p7,oP,hr,hb,ha,hf⟩:=hK
 obtain⟨jE,hs,fY⟩:=id hS
 obtain⟨j5,ht,fN⟩:=id hT
 obtain⟨hc,hh,Hy⟩:=id p7
 obtain⟨nA,W6,W0,mE,rfl,W5,PK,PJ⟩:=hs
 obtain⟨eG,AN,AK,dR,rfl,AM,s9,s8⟩:=ht
 obtain⟨dj,AP,AO,de,rfl,DW,yU,yT⟩:=hc
 obtain⟨cK,sr,sq,cA,rfl,tN,py,px⟩:=hh
 obtain⟨mH,MM,ML,mG,rfl,PM,Kl,Kk⟩:=hr
 obtain⟨pz,SL,SJ,oZ,rfl,SK,MQ,MP⟩:=hb
 obtain⟨pE,SO,SM,pd,rfl,SN,PO,PN⟩:=ha
 obtain⟨lV,Cs,Cr,kA,rfl,Fs,v9,vZ⟩:=hf
 have Ee:=hO.rules
 have rj:=hO.before.1
 have Q6:=hO.after.1
 have Q5:=hO.facts.1
 have Q4:=hO.ways.1
 have Ju:=fY.len
 have Fz:=fN.len
 have hl8:=hO.qx.two
 have hl9:=hO.dH.nh
 have SH:∀(i:Nat) (p:eW),([]:List eW)[i]?=some p→cF ⟨ro,[]⟩ 0 (0+i*6) 6 (oV p):=fun _ _ h=>pQ h
 have hNm:=hx.1.1
 have hNs:=hNm.1
 have hHd:=hx.1.2.1
 have hHl:=Yd hHd
 have hSt:=hx.1.2.2.1
 have hBd:=hx.1.2.2.2
 have hlen:=oP.len
 refine bG av [] [] bh<|zD 2<|jn fun b3=>jn fun b4=>jd 7 [0]<|jp (vs:=[.string x.name]) [] [] (fun aC hs hZ=>(T9 (by omega) hNm.2))<|jd 27 [1,0,1]<|ja ((hv.length:Int)-1) (by omega)<|jp (vs:=[zI x.head,zI (-1),zI ((hv.length:Int)-1)]) [] [] (fun aC hs hZ=>eR)<|zD 3<|js 19 (!(iC x.head (-1) ((hv.length:Int)-1))) (fun h1=>?_) (fun h1=>?_)
 ·
  try simp only[zB] at h1
  exfalso;simp only[iC,Bool.and_eq_false_iff,decide_eq_false_iff_not] at h1;omega
 try simp only[zB] at h1
 refine jd 7 [0]<|js 33 (decide (x.head≥0)) (fun h2=>?_) (fun h2=>?_)
 ·
  have mM:=h2
  replace mM:=of_decide_eq_true mM
  refine jd 5 [1,0] ?_
  obtain⟨Fh,yd⟩:=zG hv (x.head.toNat)
  refine OB x.head cA 4 py yd (by omega)<|zD 1<|jl 1 (px _ _ yd)<|zD 4<|zJ 29 (Fh.cls=(-1)) (fun h3=>?_) fun h3=>?_
  ·
   exfalso;have:=Rc oP hHd (by omega) yd;omega
  refine jd 8 [0]<|ja ((jE.length:Int)-1) (by omega)<|jp (vs:=[zI x.st,zI 0,zI ((jE.length:Int)-1)]) [] [] (fun aC hs hZ=>eR)<|zD 3<|js 44 (!(iC x.st 0 ((jE.length:Int)-1))) (fun h4=>?_) (fun h4=>?_)
  ·
   try simp only[zB] at h4
   exfalso;simp only[iC,Bool.and_eq_false_iff,decide_eq_false_iff_not] at h4;omega
  try simp only[zB] at h4
  refine jd 7 [0] ?_
  obtain⟨x57,EP⟩:=zG jE (x.st.toNat)
  refine OB x.st mE 1 PK EP (by omega) ?_
  obtain⟨l58,agM,h58⟩:=fY.get EP
  obtain aSE:=hO.qx.len _ (List.mem_of_getElem? agM)
  obtain⟨adV,asW,asS,adU,rfl,asU,asV,asT⟩:=h58
  refine jl 0 (PJ _ _ EP)<|jd 1 [0]<|jp (vs:=[.agg ⟨[.string x.name,zI x.st,zI x.no,zI x.head,.bool x.bold]⟩]) [] [] (fun aC hs hZ=>(XL (x:=(⟨x.name,x.st,x.no,x.head,x.bold⟩:aj))))<|zD 1<|jp (vs:=[.slice adV l58.length adU,.agg ⟨[zI x.no,zI 0]⟩]) [] [] (fun aC hs hZ=>KV ((show bH _ _ _ _ _ from ⟨adV,asW,asS,adU,rfl,asU,asV,asT⟩).up hs) (by first|omega| (simp only[List.length_set,List.length_append,List.length_cons,List.length_nil];omega))) ?_
  refine zD 4<|js 44 (!(decide (bP (Cy x.no 0) l58 0≥0))) (fun h5=>?_) (fun h5=>?_)
  ·
   try simp only[zB] at h5
   exfalso;have:=Kq hx agM;omega
  try simp only[zB] at h5
  refine jd 20 [0]<|js 74 x.bold (fun h6=>?_) (fun h6=>?_)
  ·
   exfalso;rw[hBd] at h6;cases h6
  refine zD 7<|aH q0 (zI 0) [] [] [] (Sub.refl _) ⟨_,_,rfl,rfl,rfl,rfl⟩
 have mM:=h2
 replace mM:=of_decide_eq_false mM
 refine jd 20 [0]<|ja ((jE.length:Int)-1) (by omega)<|jp (vs:=[zI x.st,zI 0,zI ((jE.length:Int)-1)]) [] [] (fun aC hs hZ=>eR)<|zD 3<|js 44 (!(iC x.st 0 ((jE.length:Int)-1))) (fun h7=>?_) (fun h7=>?_)
 ·
  try simp only[zB] at h7
  exfalso;simp only[iC,Bool.and_eq_false_iff,decide_eq_false_iff_not] at h7;omega
 try simp only[zB] at h7
 refine jd 7 [0] ?_
 obtain⟨x57,EP⟩:=zG jE (x.st.toNat)
 refine OB x.st mE 1 PK EP (by omega) ?_
 obtain⟨l58,agM,h58⟩:=fY.get EP
 obtain aSE:=hO.qx.len _ (List.mem_of_getElem? agM)
 obtain⟨adV,asW,asS,adU,rfl,asU,asV,asT⟩:=h58
 refine jl 0 (PJ _ _ EP)<|jd 1 [0]<|jp (vs:=[.agg ⟨[.string x.name,zI x.st,zI x.no,zI x.head,.bool x.bold]⟩]) [] [] (fun aC hs hZ=>(XL (x:=(⟨x.name,x.st,x.no,x.head,x.bold⟩:aj))))<|zD 1<|jp (vs:=[.slice adV l58.length adU,.agg ⟨[zI x.no,zI 0]⟩]) [] [] (fun aC hs hZ=>KV ((show bH _ _ _ _ _ from ⟨adV,asW,asS,adU,rfl,asU,asV,asT⟩).up hs) (by first|omega| (simp only[List.length_set,List.length_append,List.length_cons,List.length_nil];omega))) ?_
 refine zD 4<|js 44 (!(decide (bP (Cy x.no 0) l58 0≥0))) (fun h8=>?_) (fun h8=>?_)
 ·
  try simp only[zB] at h8
  exfalso;have:=Kq hx agM;omega
 try simp only[zB] at h8
 refine jd 20 [0]<|js 74 x.bold (fun h9=>?_) (fun h9=>?_)
 ·
  exfalso;rw[hBd] at h9;cases h9
 refine zD 7<|aH q0 (zI 0) [] [] [] (Sub.refl _) ⟨_,_,rfl,rfl,rfl,rfl⟩
theorem afi{ro:Nat→Option Obj}(hK:fU ro l K)(hO:ko K)(hx:aIX K.hd x):dz zT 156 [.agg ⟨l⟩,.agg ⟨[.string x.name,zI x.st,zI x.no,zI x.head,.bool x.bold]⟩,.bool false] ro (zI 0):=by
 obtain⟨vS,vT,vc,vh,vr,vb,va,vf,fa,fc,hv,rfl,hS,hT,p7,oP,hr,hb,ha,hf⟩:=hK
 obtain⟨jE,hs,fY⟩:=id hS
 obtain⟨j5,ht,fN⟩:=id hT
 obtain⟨hc,hh,Hy⟩:=id p7
 obtain⟨nA,W6,W0,mE,rfl,W5,PK,PJ⟩:=hs
 obtain⟨eG,AN,AK,dR,rfl,AM,s9,s8⟩:=ht
 obtain⟨dj,AP,AO,de,rfl,DW,yU,yT⟩:=hc
 obtain⟨cK,sr,sq,cA,rfl,tN,py,px⟩:=hh
 obtain⟨mH,MM,ML,mG,rfl,PM,Kl,Kk⟩:=hr
 obtain⟨pz,SL,SJ,oZ,rfl,SK,MQ,MP⟩:=hb
 obtain⟨pE,SO,SM,pd,rfl,SN,PO,PN⟩:=ha
 obtain⟨lV,Cs,Cr,kA,rfl,Fs,v9,vZ⟩:=hf
 have Ee:=hO.rules
 have rj:=hO.before.1
 have Q6:=hO.after.1
 have Q5:=hO.facts.1
 have Q4:=hO.ways.1
 have Ju:=fY.len
 have Fz:=fN.len
 have hl8:=hO.qx.two
 have hl9:=hO.dH.nh
 have SH:∀(i:Nat) (p:eW),([]:List eW)[i]?=some p→cF ⟨ro,[]⟩ 0 (0+i*6) 6 (oV p):=fun _ _ h=>pQ h
 have hNm:=hx.1.1
 have hNs:=hNm.1
 have hHd:=hx.1.2.1
 have hHl:=Yd hHd
 have hSt:=hx.1.2.2.1
 have hBd:=hx.1.2.2.2
 have hlen:=oP.len
 have hNo:=hx.2
 refine bG av [] [] bh<|zD 2<|jn fun b3=>jn fun b4=>jd 7 [0]<|jp (vs:=[.string x.name]) [] [] (fun aC hs hZ=>(T9 (by omega) hNm.2))<|jd 27 [1,0,1]<|ja ((hv.length:Int)-1) (by omega)<|jp (vs:=[zI x.head,zI (-1),zI ((hv.length:Int)-1)]) [] [] (fun aC hs hZ=>eR)<|zD 3<|js 19 (!(iC x.head (-1) ((hv.length:Int)-1))) (fun h1=>?_) (fun h1=>?_)
 ·
  try simp only[zB] at h1
  exfalso;simp only[iC,Bool.and_eq_false_iff,decide_eq_false_iff_not] at h1;omega
 try simp only[zB] at h1
 refine jd 7 [0]<|js 33 (decide (x.head≥0)) (fun h2=>?_) (fun h2=>?_)
 ·
  have mM:=h2
  replace mM:=of_decide_eq_true mM
  refine jd 5 [1,0] ?_
  obtain⟨Fh,yd⟩:=zG hv (x.head.toNat)
  refine OB x.head cA 4 py yd (by omega)<|zD 1<|jl 1 (px _ _ yd)<|zD 4<|zJ 29 (Fh.cls=(-1)) (fun h3=>?_) fun h3=>?_
  ·
   exfalso;have:=Rc oP hHd (by omega) yd;omega
  refine jd 8 [0]<|ja ((jE.length:Int)-1) (by omega)<|jp (vs:=[zI x.st,zI 0,zI ((jE.length:Int)-1)]) [] [] (fun aC hs hZ=>eR)<|zD 3<|js 44 (!(iC x.st 0 ((jE.length:Int)-1))) (fun h4=>?_) (fun h4=>?_)
  ·
   try simp only[zB] at h4
   exfalso;simp only[iC,Bool.and_eq_false_iff,decide_eq_false_iff_not] at h4;omega
  try simp only[zB] at h4
  refine jd 25 [0]<|jp (vs:=[zI x.no,zI 1,zI 40]) [] [] (fun aC hs hZ=>eR)<|zD 4<|js 65 (!(iC x.no 1 40)) (fun h5=>?_) (fun h5=>?_)
  ·
   try simp only[zB] at h5
   exfalso;simp only[iC,Bool.and_eq_false_iff,decide_eq_false_iff_not] at h5;omega
  try simp only[zB] at h5
  refine jd 7 [0]<|js 74 x.bold (fun h6=>?_) (fun h6=>?_)
  ·
   exfalso;rw[hBd] at h6;cases h6
  refine zD 7<|aH q0 (zI 0) [] [] [] (Sub.refl _) ⟨_,_,rfl,rfl,rfl,rfl⟩
 have mM:=h2
 replace mM:=of_decide_eq_false mM
 refine jd 20 [0]<|ja ((jE.length:Int)-1) (by omega)<|jp (vs:=[zI x.st,zI 0,zI ((jE.length:Int)-1)]) [] [] (fun aC hs hZ=>eR)<|zD 3<|js 44 (!(iC x.st 0 ((jE.length:Int)-1))) (fun h7=>?_) (fun h7=>?_)
 ·
  try simp only[zB] at h7
  exfalso;simp only[iC,Bool.and_eq_false_iff,decide_eq_false_iff_not] at h7;omega
 try simp only[zB] at h7
 refine jd 25 [0]<|jp (vs:=[zI x.no,zI 1,zI 40]) [] [] (fun aC hs hZ=>eR)<|zD 4<|js 65 (!(iC x.no 1 40)) (fun h8=>?_) (fun h8=>?_)
 ·
  try simp only[zB] at h8
  exfalso;simp only[iC,Bool.and_eq_false_iff,decide_eq_false_iff_not] at h8;omega
 try simp only[zB] at h8
 refine jd 7 [0]<|js 74 x.bold (fun h9=>?_) (fun h9=>?_)
 ·
  exfalso;rw[hBd] at h9;cases h9
 refine zD 7<|aH q0 (zI 0) [] [] [] (Sub.refl _) ⟨_,_,rfl,rfl,rfl,rfl⟩
theorem fU.up{ro:Nat→Option Obj}(h:fU ro l K)(hs:Sub ro aK):fU aK l K:=by
 obtain⟨vS,vT,vc,vh,vr,vb,va,vf,fa,fc,hv,rfl,h1,h2,h3,h4,h5,h6,h7,h8⟩:=h
 exact⟨_,_,_,_,_,_,_,_,_,_,_,rfl,h1.up hs,h2.up hs,h3.up hs,h4,h5.up hs,h6.up hs,h7.up hs,h8.up hs⟩
theorem afj{ro:Nat→Option Obj}(hK:fU ro l K)(hO:ko K)(hp:bH ro vp 5 cU K.before):dz zT 121 [.agg ⟨l⟩,vp,.bool true] ro (zI 0):=by
 have Yl:=hK
 obtain⟨vS,vT,vc,vh,vr,vb,va,vf,fa,fc,hv,rfl,hS,hT,p7,oP,hr,hb,ha,hf⟩:=hK
 obtain⟨jE,hs,fY⟩:=id hS
 obtain⟨j5,ht,fN⟩:=id hT
 obtain⟨hc,hh,Hy⟩:=id p7
 obtain⟨nA,W6,W0,mE,rfl,W5,PK,PJ⟩:=hs
 obtain⟨eG,AN,AK,dR,rfl,AM,s9,s8⟩:=ht
 obtain⟨dj,AP,AO,de,rfl,DW,yU,yT⟩:=hc
 obtain⟨cK,sr,sq,cA,rfl,tN,py,px⟩:=hh
 obtain⟨mH,MM,ML,mG,rfl,PM,Kl,Kk⟩:=hr
 obtain⟨pz,SL,SJ,oZ,rfl,SK,MQ,MP⟩:=hb
 obtain⟨pE,SO,SM,pd,rfl,SN,PO,PN⟩:=ha
 obtain⟨lV,Cs,Cr,kA,rfl,Fs,v9,vZ⟩:=hf
 have Ee:=hO.rules
 have rj:=hO.before.1
 have Q6:=hO.after.1
 have Q5:=hO.facts.1
 have Q4:=hO.ways.1
 have Ju:=fY.len
 have Fz:=fN.len
 have hl8:=hO.qx.two
 have hl9:=hO.dH.nh
 have SH:∀(i:Nat) (p:eW),([]:List eW)[i]?=some p→cF ⟨ro,[]⟩ 0 (0+i*6) 6 (oV p):=fun _ _ h=>pQ h
 obtain⟨SI,qpb,qpo,Km,rfl,qpk,ZS,ZR⟩:=hp
 refine bG av [] [] bh<|zD 2<|jn fun b3=>zD 9<|zJ 12 ((K.before.length:Int)>4) (fun h1=>?_) fun h1=>?_
 ·
  exfalso;omega
 refine zD 10<|ek [1,1,0,1,0,0] [] (fun(zz:Nat)=>[(2,.bool true),(3,zP b3),(13,.slice SI K.before.length Km),(14,zI (K.before.length:Int)),(15,zI (zz:Int))]) (fun(zz:Nat)=>[.b b3 (.cells ⟨[.slice nA jE.length mE,.slice eG j5.length dR,.slice fa 0 fc,.slice dj K.cs.length de,.slice cK hv.length cA,.slice mH K.rules.length mG,.slice pz K.before.length oZ,.slice pE K.after.length pd,zI K.gone,zI K.new,zI K.af,.slice lV K.facts.length kA]⟩ 40 (0,0))]) (fun(zz:Nat)=>zz≤K.before.length) (fun(zz:Nat)=>K.before.length-zz) 0 (by omega) [0] ?_
 rintro k hI K1 bM rest
 refine zD 5<|zJ 16 ((k:Int) <(K.before.length:Int)) (fun h2=>?_) fun h2=>?_
 ·
  refine zD 6 ?_
  obtain⟨Wh,G5⟩:=zG K.before k
  refine iM Km 5 ZS G5<|jl 0 (ZR _ _ G5)<|jn fun b8=>jd 7 [0,1,0]<|jp (vs:=[.agg ⟨[.slice nA jE.length mE,.slice eG j5.length dR,.slice fa 0 fc,.slice dj K.cs.length de,.slice cK hv.length cA,.slice mH K.rules.length mG,.slice pz K.before.length oZ,.slice pE K.after.length pd,zI K.gone,zI K.new,zI K.af,.slice lV K.facts.length kA]⟩,.agg ⟨[.string Wh.name,zI Wh.st,zI Wh.no,zI Wh.head,.bool Wh.bold]⟩,.bool true]) [] [] (fun aC hs hZ=>(afh (x:=Wh) (Yl.up hs) hO (hO.before.2 _ (List.mem_of_getElem? G5))))<|zD 10<|ja ((k:Int)+1) (by omega)<|zD 2<|bA bM (k+1) (by omega) (by omega) [1] (Sub.refl _)
 refine zD 7<|aH q0 (zI 0) [] [] [] (Sub.refl _) ⟨_,_,rfl,rfl,rfl,rfl⟩
theorem afk{ro:Nat→Option Obj}(hK:fU ro l K)(hO:ko K)(hp:bH ro vp 5 cU K.after):dz zT 121 [.agg ⟨l⟩,vp,.bool false] ro (zI 0):=by
 have Yl:=hK
 obtain⟨vS,vT,vc,vh,vr,vb,va,vf,fa,fc,hv,rfl,hS,hT,p7,oP,hr,hb,ha,hf⟩:=hK
 obtain⟨jE,hs,fY⟩:=id hS
 obtain⟨j5,ht,fN⟩:=id hT
 obtain⟨hc,hh,Hy⟩:=id p7
 obtain⟨nA,W6,W0,mE,rfl,W5,PK,PJ⟩:=hs
 obtain⟨eG,AN,AK,dR,rfl,AM,s9,s8⟩:=ht
 obtain⟨dj,AP,AO,de,rfl,DW,yU,yT⟩:=hc
 obtain⟨cK,sr,sq,cA,rfl,tN,py,px⟩:=hh
 obtain⟨mH,MM,ML,mG,rfl,PM,Kl,Kk⟩:=hr
 obtain⟨pz,SL,SJ,oZ,rfl,SK,MQ,MP⟩:=hb
 obtain⟨pE,SO,SM,pd,rfl,SN,PO,PN⟩:=ha
 obtain⟨lV,Cs,Cr,kA,rfl,Fs,v9,vZ⟩:=hf
 have Ee:=hO.rules
 have rj:=hO.before.1
 have Q6:=hO.after.1
 have Q5:=hO.facts.1
 have Q4:=hO.ways.1
 have Ju:=fY.len
 have Fz:=fN.len
 have hl8:=hO.qx.two
 have hl9:=hO.dH.nh
 have SH:∀(i:Nat) (p:eW),([]:List eW)[i]?=some p→cF ⟨ro,[]⟩ 0 (0+i*6) 6 (oV p):=fun _ _ h=>pQ h
 obtain⟨SI,qpb,qpo,Km,rfl,qpk,ZS,ZR⟩:=hp
 refine bG av [] [] bh<|zD 2<|jn fun b3=>zD 9<|zJ 12 ((K.after.length:Int)>4) (fun h1=>?_) fun h1=>?_
 ·
  exfalso;omega
 refine zD 10<|ek [1,1,0,1,0,0] [] (fun(zz:Nat)=>[(2,.bool false),(3,zP b3),(13,.slice SI K.after.length Km),(14,zI (K.after.length:Int)),(15,zI (zz:Int))]) (fun(zz:Nat)=>[.b b3 (.cells ⟨[.slice nA jE.length mE,.slice eG j5.length dR,.slice fa 0 fc,.slice dj K.cs.length de,.slice cK hv.length cA,.slice mH K.rules.length mG,.slice pz K.before.length oZ,.slice pE K.after.length pd,zI K.gone,zI K.new,zI K.af,.slice lV K.facts.length kA]⟩ 40 (0,0))]) (fun(zz:Nat)=>zz≤K.after.length) (fun(zz:Nat)=>K.after.length-zz) 0 (by omega) [0] ?_
 rintro k hI K1 bM rest
 refine zD 5<|zJ 16 ((k:Int) <(K.after.length:Int)) (fun h2=>?_) fun h2=>?_
 ·
  refine zD 6 ?_
  obtain⟨Wh,G5⟩:=zG K.after k
  refine iM Km 5 ZS G5<|jl 0 (ZR _ _ G5)<|jn fun b8=>jd 7 [0,1,0]<|jp (vs:=[.agg ⟨[.slice nA jE.length mE,.slice eG j5.length dR,.slice fa 0 fc,.slice dj K.cs.length de,.slice cK hv.length cA,.slice mH K.rules.length mG,.slice pz K.before.length oZ,.slice pE K.after.length pd,zI K.gone,zI K.new,zI K.af,.slice lV K.facts.length kA]⟩,.agg ⟨[.string Wh.name,zI Wh.st,zI Wh.no,zI Wh.head,.bool Wh.bold]⟩,.bool false]) [] [] (fun aC hs hZ=>(afi (x:=Wh) (Yl.up hs) hO (hO.after.2 _ (List.mem_of_getElem? G5))))<|zD 10<|ja ((k:Int)+1) (by omega)<|zD 2<|bA bM (k+1) (by omega) (by omega) [1] (Sub.refl _)
 refine zD 7<|aH q0 (zI 0) [] [] [] (Sub.refl _) ⟨_,_,rfl,rfl,rfl,rfl⟩
theorem atH{x y:dc}{ro:Nat→Option Obj}(hb:ro b=some (.cells ⟨[zI y.a,zI y.b,.bool y.same]⟩ 54 (0,0))):dz zT 93 [.agg ⟨[zI x.a,zI x.b,.bool x.same]⟩,zP b] ro (.bool (decide (x.a=y.a)&&decide (x.b=y.b))):=by
 refine bG av [] [] bh<|zD 2<|jn fun b2=>jd 7 [0]<|jl (b:=b) (off:=0) (m:=3) (vs:=[zI y.a,zI y.b,.bool y.same]) 0 ⟨_,_,_,.inl hb,rfl⟩<|zD 2<|jj 6 [(3,.bool false),(15,.bool ((decide (x.a=y.a))&&(decide (x.b=y.b))))] (fun ia=>?_) (fun hj=>?_)
 rotate_left
 refine js 9 (decide (x.a=y.a)) (fun h1=>?_) (fun h1=>?_)
 ·
  have gD:=h1
  replace gD:=of_decide_eq_true gD
  refine jd 3 [0]<|jl (b:=b) (off:=0) (m:=3) (vs:=[zI y.a,zI y.b,.bool y.same]) 1 ⟨_,_,_,.inl hb,rfl⟩<|zD 2<|jw 15 (.bool ((decide (x.a=y.a))&&(decide (x.b=y.b)))) (w:= .bool (decide (x.b=y.b))) (by rw[h1]<;>rfl) ?_
  exact hj _ (by kernel_rfl) (by kernel_rfl)
 ·
  have gD:=h1
  replace gD:=of_decide_eq_false gD
  refine zD 6<|jw 15 (.bool ((decide (x.a=y.a))&&(decide (x.b=y.b)))) (w:= .bool false) (by rw[h1]<;>rfl) ?_
  exact hj _ (by kernel_rfl) (by kernel_rfl)
 refine zD 3<|aH q0 (.bool ((decide (x.a=y.a))&&(decide (x.b=y.b)))) [] [] [] (Sub.refl _) ⟨_,_,rfl,rfl,rfl,rfl⟩
def EB(x y:dc):Bool:=decide (y.a=x.a)&&decide (y.b=x.b)
theorem Dh{p:α→Bool}:∀ {l:List α} {k:Nat},(∀y∈l,p y=false)→bP p l k= -1
 | [],_,_=>rfl
 |x::l,k,h=>by simp only[bP,h x (List.mem_cons_self ..),cond_false];exact Dh fun y hy=>h y (List.mem_cons_of_mem _ hy)
theorem aiN{x:dc}(h:fs.Pairwise fun x y=>¬(x.a=y.a∧x.b=y.b))(hx:fs[i]?=some x):bP (EB x) (fs.take i) 0 <0:=by
 rw[Dh]
 ·omega
 intro y hy
 obtain⟨j,hj⟩:=List.getElem?_of_mem hy
 rw[List.getElem?_take] at hj
 split at hj
 ·rename_i Ak
  have:=qv h Ak hj hx
  simp only[EB,Bool.and_eq_false_iff,decide_eq_false_iff_not]
  by_cases h1:y.a=x.a
  ·exact .inr fun h2=>this ⟨h1,h2⟩
  exact .inl h1
 cases hj
theorem at2{v:Value}{x:dc}{ro:Nat→Option Obj}(hf:bH ro v 3 xa fs)(hn:fs.length≤1000)(hb:ro b=some (.cells ⟨[zI x.a,zI x.b,.bool x.same]⟩ 54 (0,0))):dz zT 125 [v,.func (.func 93) ⟨[]⟩ ⟨[zP b]⟩] ro (zI (bP (EB x) fs 0)):=by
 obtain⟨lV,Cs,Cr,kA,rfl,Fs,v9,vZ⟩:=hf
 refine bG av [] [] bh<|zD 12<|ek [1,0,1,0,0] [] (fun(zz:Nat)=>[(0,.slice lV fs.length kA),(1,.func (.func 93) ⟨[]⟩ ⟨[zP b]⟩),(7,zI (fs.length:Int)),(8,zI (zz:Int))]) (fun(zz:Nat)=>[]) (fun(zz:Nat)=>zz≤fs.length∧bP (EB x) fs 0=bP (EB x) (fs.drop zz) zz) (fun(zz:Nat)=>fs.length-zz) 0 ⟨by omega,rfl⟩ [] ?_
 rintro k hI K1 bM rest
 refine zD 5<|zJ 9 ((k:Int) <(fs.length:Int)) (fun h1=>?_) fun h1=>?_
 ·
  refine zD 14 ?_
  obtain⟨eF,dK⟩:=zG fs k
  refine iM kA 3 v9 dK<|jl 0 (vZ _ _ dK)<|jp (vs:=[.agg ⟨[zI eF.a,zI eF.b,.bool eF.same]⟩,zP b]) [] [] (fun aC hs hZ=>(atH (hs _ _ hb)))<|zD 1<|js 16 (EB x eF) (fun h2=>?_) (fun h2=>?_)
  ·
   refine zD 7<|aH q0 (zI (k:Int)) [] [] [] (Sub.refl _) ⟨_,_,rfl,rfl,by rw[hI.2,gM dK,show EB x eF=true from (by assumption)];rfl,rfl⟩
  refine zD 3<|ja ((k:Int)+1) (by omega)<|zD 2<|bA bM (k+1) ⟨by omega,by rw[hI.2,gM dK,show EB x eF=false from (by assumption)];rfl⟩ (by omega) [] (Sub.refl _)
 refine zD 7<|aH q0 (zI (-1)) [] [] [] (Sub.refl _) ⟨_,_,rfl,rfl,by rw[hI.2,nn (by omega)],rfl⟩
theorem amL{v:Value}{x:dc}{ro:Nat→Option Obj}(hf:bH ro v 3 xa fs)(hn:fs.length≤1000)(hb:ro b=some (.cells ⟨[zI x.a,zI x.b,.bool x.same]⟩ 54 (0,0))):dz zT 92 [v,.func (.func 93) ⟨[]⟩ ⟨[zP b]⟩] ro (.bool (decide (bP (EB x) fs 0≥0))):=by
 obtain⟨lV,Cs,Cr,kA,rfl,Fs,v9,vZ⟩:=hf
 refine bG av [] [] bh<|zD 8<|jp (vs:=[.slice lV fs.length kA,.func (.func 93) ⟨[]⟩ ⟨[zP b]⟩]) [] [] (fun aC hs hZ=>at2 ((show bH _ _ _ _ _ from ⟨lV,Cs,Cr,kA,rfl,Fs,v9,vZ⟩).up hs) (by first|omega| (simp only[List.length_set,List.length_append,List.length_cons,List.length_nil];omega)) (hs _ _ hb)) ?_
 refine zD 4<|aH q0 (.bool (decide ((bP (EB x) fs 0)≥0))) [] [] [] (Sub.refl _) ⟨_,_,rfl,rfl,rfl,rfl⟩
theorem aCA{x:dc}{ro:Nat→Option Obj}(hK:fU ro l K)(hO:ko K)(hp:bH ro vp 3 xa fs)(hn:fs.length≤1000)(hx:(0≤x.a∧x.a <K.before.length)∧(0≤x.b∧x.b <K.after.length))(hw:bP (EB x) fs 0 <0):dz zT 55 [.agg ⟨l⟩,vp,.agg ⟨[zI x.a,zI x.b,.bool x.same]⟩] ro (zI 0):=by
 obtain⟨vS,vT,vc,vh,vr,vb,va,vf,fa,fc,hv,rfl,hS,hT,p7,oP,hr,hb,ha,hf⟩:=hK
 obtain⟨jE,hs,fY⟩:=id hS
 obtain⟨j5,ht,fN⟩:=id hT
 obtain⟨hc,hh,Hy⟩:=id p7
 obtain⟨nA,W6,W0,mE,rfl,W5,PK,PJ⟩:=hs
 obtain⟨eG,AN,AK,dR,rfl,AM,s9,s8⟩:=ht
 obtain⟨dj,AP,AO,de,rfl,DW,yU,yT⟩:=hc
 obtain⟨cK,sr,sq,cA,rfl,tN,py,px⟩:=hh
 obtain⟨mH,MM,ML,mG,rfl,PM,Kl,Kk⟩:=hr
 obtain⟨pz,SL,SJ,oZ,rfl,SK,MQ,MP⟩:=hb
 obtain⟨pE,SO,SM,pd,rfl,SN,PO,PN⟩:=ha
 obtain⟨lV,Cs,Cr,kA,rfl,Fs,v9,vZ⟩:=hf
 have Ee:=hO.rules
 have rj:=hO.before.1
 have Q6:=hO.after.1
 have Q5:=hO.facts.1
 have Q4:=hO.ways.1
 have Ju:=fY.len
 have Fz:=fN.len
 have hl8:=hO.qx.two
 have hl9:=hO.dH.nh
 have SH:∀(i:Nat) (p:eW),([]:List eW)[i]?=some p→cF ⟨ro,[]⟩ 0 (0+i*6) 6 (oV p):=fun _ _ h=>pQ h
 obtain⟨SI,qpb,qpo,Km,rfl,qpk,ZS,ZR⟩:=hp
 refine bG av [] [] bh<|zD 2<|jn fun b3=>jn fun b5=>jd 12 [0,1]<|ja ((K.before.length:Int)-1) (by omega)<|jp (vs:=[zI x.a,zI 0,zI ((K.before.length:Int)-1)]) [] [] (fun aC hs hZ=>eR)<|zD 3<|js 7 (!(iC x.a 0 ((K.before.length:Int)-1))) (fun h1=>?_) (fun h1=>?_)
 ·
  try simp only[zB] at h1
  exfalso;simp only[iC,Bool.and_eq_false_iff,decide_eq_false_iff_not] at h1;omega
 try simp only[zB] at h1
 refine jd 7 [0,1]<|ja ((K.after.length:Int)-1) (by omega)<|jp (vs:=[zI x.b,zI 0,zI ((K.after.length:Int)-1)]) [] [] (fun aC hs hZ=>eR)<|zD 3<|js 7 (!(iC x.b 0 ((K.after.length:Int)-1))) (fun h2=>?_) (fun h2=>?_)
 ·
  try simp only[zB] at h2
  exfalso;simp only[iC,Bool.and_eq_false_iff,decide_eq_false_iff_not] at h2;omega
 try simp only[zB] at h2
 refine zD 5<|jp (vs:=[.slice SI fs.length Km,.func (.func 93) ⟨[]⟩ ⟨[zP b5]⟩]) [0] [(b5,.cells ⟨[zI x.a,zI x.b,.bool x.same]⟩ 54 (0,0))] (fun aC hs hZ=>amL ((show bH _ _ _ _ _ from ⟨SI,qpb,qpo,Km,rfl,qpk,ZS,ZR⟩).up hs) (by first|omega| (simp only[List.length_set,List.length_append,List.length_cons,List.length_nil];omega)) hZ.head) ?_
 refine zD 2<|js 24 (decide (bP (EB x) fs 0≥0)) (fun h3=>?_) (fun h3=>?_)
 ·
  exfalso;have:=of_decide_eq_true h3;omega
 refine zD 7<|aH q0 (zI 0) [] [] [] (Sub.refl _) ⟨_,_,rfl,rfl,rfl,rfl⟩
end Go.L
