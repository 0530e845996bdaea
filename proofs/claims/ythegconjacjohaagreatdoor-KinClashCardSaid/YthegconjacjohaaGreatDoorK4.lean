/- Part 4 of the proof. -/
import Derived.Test.YthegconjacjohaaGreatDoorK3
import Derived.KernelRfl
import GoSem.Extern.Table
set_option maxRecDepth 100000
set_option linter.all false
namespace Go.L
open Go Go.Conc
variable {ro aD:Nat→Option Obj} {x y:Operand} {α ι β:Type} {vs l args z':List Value} {T E T' T2 U:TypeId} {f:FuncId} {e:Env} {b sz k n off i szo ir vi cap id:Nat} {P:Program} {R:Ending→St→Prop} {Φ:Value→Cells→Prop} {s:St} {todo mT hs ps:List Nat} {fz:Nat×Nat} {o p:Oper} {xs:Array Operand} {at_:Array TypeId} {Y B rw' fr:Cells} {g xa:Bool} {lo hi:Int}
theorem cD.part{o m:Nat}{ws:List Value}(h:cD s b o m vs)(j k:Nat)(hj:sub vs j k=some ws):cD s b (o+j) k ws:=by
 obtain⟨l,t,fz,h1,h2⟩:=h
 obtain⟨h3,h4⟩:=sub_eq _ _ _ _ h2
 obtain⟨h5,h6⟩:=sub_eq _ _ _ _ hj
 refine⟨l,t,fz,h1,?_⟩
 have hlen:(o+j)+k≤l.length:=by
  rcases Nat.eq_zero_or_pos k with h0|h0
  ·subst h0
   have:o+j≤l.length:=by
    have h7:sub vs j 0=some ws:=hj
    have hjl:j≤vs.length:=by
     have key:∀(l:List Value) (j:Nat) (ws:List Value),sub l j 0=some ws→j≤l.length:=by
      intro l
      induction l with
      |nil=>intro j ws h;cases j with
       |zero=>simp
       |succ j=>simp[sub] at h
      |cons x l ih=>intro j ws h;cases j with
       |zero=>simp
       |succ j=>have:=ih j ws (by simpa [sub] using h);simp;omega
     exact key _ _ _ h7
    have hol:o+m≤l.length∨m=0:=by
     rcases Nat.eq_zero_or_pos m with h8|h8
     ·exact .inr h8
     left
     have:=h4 (m-1) vs[m-1] (by rw[List.getElem?_eq_getElem])
     have:=(List.getElem?_eq_some_iff.1 this).1
     omega
    rcases hol with h9|h9
    ·omega
    have aPB:∀(l:List Value) (o:Nat) (ws:List Value),sub l o 0=some ws→o≤l.length:=by
     intro l
     induction l with
     |nil=>intro j ws h;cases j with
      |zero=>simp
      |succ j=>simp[sub] at h
     |cons x l ih=>intro j ws h;cases j with
      |zero=>simp
      |succ j=>have:=ih j ws (by simpa [sub] using h);simp;omega
    rw[h9] at h2
    have:=aPB _ _ _ h2
    omega
   omega
  have:=h6 (k-1) ws[k-1] (by rw[List.getElem?_eq_getElem])
  have:=h4 _ _ this
  have:=(List.getElem?_eq_some_iff.1 this).1
  omega
 rw[iQ hlen]
 congr 1
 apply List.ext_getElem?
 intro i
 by_cases hi:i <k
 ·have h7:=h4 _ _ (h6 i ws[i] (by rw[List.getElem?_eq_getElem]))
  rw[List.getElem?_take_of_lt hi,List.getElem?_drop,List.getElem?_eq_getElem (show i <ws.length by omega),←h7,Nat.add_assoc]
 rw[List.getElem?_eq_none (by simp;omega),List.getElem?_eq_none (by omega)]
def GP(ag:Bool)(l:List Value)(o sz:Nat):Option Value:=bif ag then (match sub l o sz with|some m=>some (.agg ⟨m⟩)|none=>none) else nth l o
theorem XA{t:TypeId}{z:List Value}{d:TypeDesc}{bE:Nat}{ag:Bool}(tf:TF P t d sz bE z ag){o:Nat}{v:Value}(hv:GP ag l o sz=some v){k:Value→Sem α}{Q:α→St→Prop}{E:Halt→St→Prop}:bO P (part t ⟨l⟩ o >>= k) s Q E=bO P (k v) s Q E:=by
 cases ag with
 |false=>exact MI tf hv
 |true=>
  simp only[GP,cond_true] at hv
  split at hv
  ·rename_i m hm
   cases hv
   exact MH tf hm
  cases hv
section rules
variable {P:Program} {C:Class} {fn:FuncId} {aA:Option Nat} {Q:Post} {s:St} {n:Nat} {env:Env} {D:List Deferred}
variable {ops:Array Oper} {i:Nat} {rest:List Nat} {dst:Option Tmp} {ty:TypeId} {pos:String} {cY:Array Edge} {g:Option (Nat×Bool)}
variable {T:TypeId} {d:TypeDesc} {sz bE:Nat} {z:List Value} {ag:Bool}
theorem afU(hC:∀main T,C main T→Closed P main T){k:IntKind}{ix:Int}{len:Nat}{d':TypeDesc}{v:Value}(ho:ops[i]?=some ⟨dst,.index T x y,ty,pos,cY,g⟩) (hw:ay ops n env g=true)
 (tf:TF P T (.array len E) sz bE z ag) (jO:TF P E d' ir vi z' xa) (hx:bp n env x=some (.agg ⟨l⟩)) (hy:bp n env y=some (.int k ix)) (hi:0≤ix∧ix <len) (hv:GP xa l (ix.toNat*ir) ir=some v)
 (h:ab C fn aA ops rest Q (A n (upd dst v env) D) s):ab C fn aA ops (i::rest) Q (A n env D) s:=by
 refine bR hC ho hw (by simp) ?_
 simp only[execOp,Instr.index,aF hx,aF hy,asIntOf,asAgg,aa,ae,a8 tf,hi,and_self,if_true,cu jO]
 rw[XA jO hv,←aX] at*
 exact h
end rules
section rules
variable {P:Program} {C:Class} {fn:FuncId} {aA:Option Nat} {Q:Post} {s:St} {n:Nat} {env:Env} {D:List Deferred}
variable {ops:Array Oper} {i:Nat} {rest:List Nat} {dst:Option Tmp} {ty:TypeId} {pos:String} {cY:Array Edge} {g:Option (Nat×Bool)}
theorem wr(hC:∀main T,C main T→Closed P main T){l:List Nat}(hl:List.range ops.size=l)(h:ab C fn aA ops l Q (A n env D) s):Wp C fn aA (.region id ops false) Q (A n env D) s:=wp_region hC (hl▸h)
theorem on(hC:∀main T,C main T→Closed P main T){K:Act→St→Prop}(h:K (A n env D) s):ab C fn aA ops [] (lV K Q) (A n env D) s:=tY hC h
end rules
theorem c:∀main T,CP P main T→Closed P main T:=eP
def aT(k:IntKind)(a b:Int):Int:=a.fdiv (2^(min b.toNat k.bits))
def dz(k:IntKind)(a b:Int):Int:=k.wrap (a*2^(min b.toNat k.bits))
def Vg(k:IntKind)(a b:Int):Int:=k.wrap (BitVec.ofInt k.bits a&&& BitVec.ofInt k.bits b).toNat
def Ly(k:IntKind)(a b:Int):Int:=k.wrap (BitVec.ofInt k.bits a|||BitVec.ofInt k.bits b).toNat
def cZ(k:IntKind)(a b:Int):Int:=k.wrap (BitVec.ofInt k.bits a^^^BitVec.ofInt k.bits b).toNat
theorem Py(k:IntKind)(h:k.signed=false)(n:Int):0≤k.wrap n∧k.wrap n <2^k.bits:=by
 have hp:(0:Int) <2^k.bits:=Int.pow_pos (by decide)
 simp only[IntKind.wrap,h,Bool.false_and,Bool.false_eq_true,if_false]
 exact⟨Int.emod_nonneg _ (by omega),Int.emod_lt_of_pos _ hp⟩
theorem sL(k:IntKind)(h:k.signed=false)(n:Int)(h0:0≤n)(h1:n <2^k.bits):k.wrap n=n:=by
 simp only[IntKind.wrap,h,Bool.false_and,Bool.false_eq_true,if_false]
 exact Int.emod_eq_of_lt h0 h1
theorem uj(a b:Int):0≤cZ .u64 a b∧cZ .u64 a b <18446744073709551616:=Py .u64 rfl _
theorem aPg{p0 p1 p2 p3 x:Int}(h: [p0,p1,p2,p3][k]?=some x):nth [.int .i64 p0,.int .i64 p1,.int .i64 p2,.int .i64 p3] k=some (.int .i64 x):=by
 rcases k with _|_|_|_|k
 all_goals first| (simp at h;subst h;rfl)|simp at h
theorem dG.aBB{own:Cells}(hp:s.rw.Perm (own++fr))(hf:dG P f vs s.ro own Φ):
 Fn (CP P) P f ⟨vs⟩ s (fun en s'=>∃v X,en= .returned v∧Φ v X∧(⟨s.ro,X++fr⟩:St).le s'):=by
 refine Fn.mono (Fn.frame (fr:=fr) (B:=[]) (ro:=s.ro) (s:=s) hf (fun _ h=>(by cases h)) ⟨hp,fun b o hb=> .inl hb,Sub.refl _⟩) fun en s' DY=>?_
 obtain⟨yK,⟨v,X,rfl,rfl,pG⟩,hc⟩:=DY
 exact⟨v,X,rfl,pG,[],by simpa using hc.rw,fun b o hb=> .inl (hc.keep b o hb)⟩
def Knows(ro:Nat→Option Obj)(X:Cells):Prop:=∀x∈X,ro x.1=some x.2
theorem Knows.up{X:Cells}(h:Knows ro X)(hs:Sub ro aD):Knows aD X:=fun x hx=>hs _ _ (h x hx)
theorem Knows.left{X:Cells}(h:Knows ro (X++Y)):Knows ro X:=fun x hx=>h x (List.mem_append_left _ hx)
theorem Knows.right{X:Cells}(h:Knows ro (X++Y)):Knows ro Y:=fun x hx=>h x (List.mem_append_right _ hx)
theorem Knows.tail{x:Nat×Obj}(h:Knows ro (x::Y)):Knows ro Y:=fun y hy=>h y (List.mem_cons_of_mem _ hy)
theorem Knows.head{x:Nat×Obj}(h:Knows ro (x::Y)):ro x.1=some x.2:=h x List.mem_cons_self
theorem xp{enc:α→List Value}{ps:List α}(h:s.has b (.cells ⟨(ps.map enc).flatten⟩ T fz))(hl:∀p∈ps,(enc p).length=sz){x:α}(hx:ps[k]?=some x):cD s b (0+k*sz) sz (enc x):=by
 have h2:=Db ps hl k x hx
 have hm:x∈ps:=List.mem_of_getElem? hx
 have h3:=hl x hm
 refine⟨_,T,fz,h,?_⟩
 rw[Nat.zero_add,iQ,h2]
 rw[ku ps hl]
 have:=(List.getElem?_eq_some_iff.1 hx).1
 calc k*sz+sz=(k+1)*sz:=by rw[Nat.succ_mul]
  _≤ps.length*sz:=Nat.mul_le_mul_right _ (by omega)
theorem bU{enc:α→List Value}(ps:List α)(h:ro b=some (.cells ⟨(ps.map enc).flatten⟩ T fz))(hl:∀p∈ps,(enc p).length=sz):bB ro (.slice (some ⟨b,0,none⟩) ps.length ps.length) sz enc ps:=
 ⟨_,b,0,_,rfl,Nat.le_refl _,fun _ _=>rfl,fun _ _ hx=>xp (.inl h) hl hx⟩
section rules
variable {P:Program} {C:Class} {fn:FuncId} {aA:Option Nat} {Q:Post} {s:St} {n:Nat} {env:Env} {D:List Deferred}
variable {ops:Array Oper} {i:Nat} {rest:List Nat} {dst:Option Tmp} {ty:TypeId} {pos:String} {cY:Array Edge} {g:Option (Nat×Bool)}
variable {T:TypeId} {d:TypeDesc} {sz bE:Nat} {z:List Value} {ag:Bool}
theorem aDM(hC:∀main T,C main T→Closed P main T){k k':IntKind}{a b:Int}(ho:ops[i]?=some ⟨dst,.binOp .shr T x y T',ty,pos,cY,g⟩) (hw:ay ops n env g=true)
 (hx:bp n env x=some (.int k a)) (hy:bp n env y=some (.int k' b)) (hb:0≤b) (h:ab C fn aA ops rest Q (A n (upd dst (.int k (aT k a b)) env) D) s):ab C fn aA ops (i::rest) Q (A n env D) s:=by
 refine s8 hC ho hw (by simp) ?_ h
 simp only[execOp,aF hx,aF hy]
 have he:eqGuard .shr T x y (.int k a) (.int k' b)=Sem.pure ():=rfl
 have hv:binOp .shr T (.int k a) (.int k' b)=Sem.pure (.int k (aT k a b)):=by
  show Op.shift .shr k a k' b=_
  simp only[Op.shift,show ¬b <0 by omega,if_false];rfl
 rw[he]
 show Sem.bind (Sem.bind (Sem.pure ()) fun _=>binOp .shr T (.int k a) (.int k' b)) _=_
 simp only[Sem.bind,hv]
 rfl
theorem aDN(hC:∀main T,C main T→Closed P main T){k k':IntKind}{a b:Int}(ho:ops[i]?=some ⟨dst,.binOp .shl T x y T',ty,pos,cY,g⟩) (hw:ay ops n env g=true)
 (hx:bp n env x=some (.int k a)) (hy:bp n env y=some (.int k' b)) (hb:0≤b) (h:ab C fn aA ops rest Q (A n (upd dst (.int k (dz k a b)) env) D) s):ab C fn aA ops (i::rest) Q (A n env D) s:=by
 refine s8 hC ho hw (by simp) ?_ h
 simp only[execOp,aF hx,aF hy]
 have he:eqGuard .shl T x y (.int k a) (.int k' b)=Sem.pure ():=rfl
 have hv:binOp .shl T (.int k a) (.int k' b)=Sem.pure (.int k (dz k a b)):=by
  show Op.shift .shl k a k' b=_
  simp only[Op.shift,show ¬b <0 by omega,if_false];rfl
 rw[he]
 show Sem.bind (Sem.bind (Sem.pure ()) fun _=>binOp .shl T (.int k a) (.int k' b)) _=_
 simp only[Sem.bind,hv]
 rfl
end rules
theorem bV{enc:α→List Value}(ps:List α)(h:s.has b (.cells ⟨(ps.map enc).flatten⟩ T fz))(hl:∀p∈ps,(enc p).length=sz):Sl s (.slice (some ⟨b,0,none⟩) ps.length cap) sz enc ps:=
 ⟨_,b,0,cap,rfl,fun _ _=>rfl,fun _ _ hx=>xp h hl hx⟩
theorem bC{enc:α→List Value}:aw (.slice (some ⟨b,0,none⟩) 0 0) sz T enc ([]:List α) [(b,.cells ⟨[]⟩ T (0,0))]:=
 .inr ⟨b,[],0,rfl,rfl,by simp,by simp,by simp,by simp⟩
theorem aw.form{v:Value}{enc:α→List Value}{ps:List α}{L:Cells}(h:aw v sz T enc ps L):∃a c,v= .slice a ps.length c:=by
 rcases h with ⟨h1,h2,_⟩| ⟨b,l,cap,h1,_⟩
 ·subst h2;exact⟨none,0,h1⟩
 exact⟨_,cap,h1⟩
def OS(v:Value)(b:Nat):Prop:=∃n c,v= .slice (some ⟨b,0,none⟩) n c
theorem bh{v:Value}{enc:α→List Value}{ps:List α}{L:Cells}(h:aw v sz T enc ps L)(hb:OS v b)(hs:∀x∈L,s.has x.1 x.2){x:α}(hx:ps[k]?=some x):cD s b (k*sz) sz (enc x):=by
 obtain⟨a,b',o,c,h1,h2,h3⟩:=h.sl hs
 have hk:=(List.getElem?_eq_some_iff.1 hx).1
 have h4:=h2 k hk
 obtain⟨n,c',h5⟩:=hb
 rw[h1] at h5
 cases h5
 cases h4
 have:=h3 k x hx
 rwa[Nat.zero_add] at this
theorem aDG{v:Value}{enc:α→List Value}{ps:List α}{L:Cells}(h:aw v sz T enc ps L)(hk:k <ps.length):∃b,OS v b:=by
 rcases h with ⟨_,h2,_⟩| ⟨b,l,cap,h1,_⟩
 ·subst h2;simp at hk
 exact⟨b,_,_,h1⟩
theorem SG{enc:α→List Value}:∀(ps:List α),(∀p∈ps,(enc p).length=sz)→∀(k:Nat) (x:α),(enc x).length=sz→k <ps.length→∀l:List Value,l.take (ps.length*sz)=(ps.map enc).flatten→(dD l (k*sz) (enc x)).take (ps.length*sz)=((ps.set k x).map enc).flatten:=by
 intro ps Vw k x hx hk l hl
 have hle:ps.length*sz≤l.length:=by
  have h1:=ku ps Vw
  rw[←hl,List.length_take] at h1
  omega
 have hks:k*sz+sz≤ps.length*sz:=by
  have:(k+1)*sz≤ps.length*sz:=Nat.mul_le_mul_right _ (by omega)
  rw[Nat.succ_mul] at this;exact this
 have hA:((ps.take k).map enc).flatten.length=k*sz:=by
  rw[ku _ (fun p hp=>Vw p (List.mem_of_mem_take hp)),List.length_take,Nat.min_eq_left (by omega)]
 have hC:((ps.drop (k+1)).map enc).flatten.length=(ps.length-(k+1))*sz:=by
  rw[ku _ (fun p hp=>Vw p (List.mem_of_mem_drop hp)),List.length_drop]
 have hB:=Vw ps[k] (List.getElem_mem hk)
 have awp:(ps.map enc).flatten=((ps.take k).map enc).flatten++(enc ps[k]++((ps.drop (k+1)).map enc).flatten):=by
  have h3:ps=ps.take k++ps[k]::ps.drop (k+1):=by rw[←List.drop_eq_getElem_cons hk,List.take_append_drop]
  have h4:=congrArg (fun q:List α=>(q.map enc).flatten) h3
  simp only[List.map_append,List.map_cons,List.flatten_append,List.flatten_cons] at h4
  exact h4
 have qT:l=((ps.take k).map enc).flatten++(enc ps[k]++(((ps.drop (k+1)).map enc).flatten++l.drop (ps.length*sz))):=by
  have h3:=(List.take_append_drop (ps.length*sz) l).symm
  rw[hl,awp] at h3
  simp only[List.append_assoc] at h3
  exact h3
 have oY:((ps.set k x).map enc).flatten=((ps.take k).map enc).flatten++(enc x++((ps.drop (k+1)).map enc).flatten):=by
  rw[List.set_eq_take_append_cons_drop,if_pos hk]
  simp only[List.map_append,List.map_cons,List.flatten_append,List.flatten_cons]
 have aQ5:dD l (k*sz) (enc x)=((ps.take k).map enc).flatten++(enc x++(((ps.drop (k+1)).map enc).flatten++l.drop (ps.length*sz))):=by
  rw[q9 _ _ _ (by omega),hx,List.append_assoc]
  congr 1
  ·conv=>lhs;rw[qT]
   rw[←hA,List.take_left]
  congr 1
  conv=>lhs;rw[qT]
  rw[←List.append_assoc,←List.append_assoc,List.append_assoc _ _ (List.drop _ _)]
  rw[show k*sz+sz=(((ps.take k).map enc).flatten++enc ps[k]).length by rw[List.length_append,hA,hB],List.drop_left]
 rw[aQ5,oY,←List.append_assoc,←List.append_assoc]
 have hlen:(((ps.take k).map enc).flatten++enc x++((ps.drop (k+1)).map enc).flatten).length=ps.length*sz:=by
  rw[List.length_append,List.length_append,hA,hx,hC]
  have:ps.length*sz=(k+1+(ps.length-(k+1)))*sz:=by congr 1;omega
  rw[this,Nat.add_mul,Nat.succ_mul]
 rw[←hlen,List.take_left,List.append_assoc]
section rules
variable {P:Program} {C:Class} {fn:FuncId} {aA:Option Nat} {Q:Post} {s:St} {n:Nat} {env:Env} {D:List Deferred}
variable {ops:Array Oper} {i:Nat} {rest:List Nat} {dst:Option Tmp} {ty:TypeId} {pos:String} {cY:Array Edge} {g:Option (Nat×Bool)}
variable {T:TypeId} {d:TypeDesc} {sz bE:Nat} {z:List Value} {ag:Bool}
theorem UU(hC:∀main T,C main T→Closed P main T){w:Operand}{k k':IntKind}{b:ByteArray}(ho:ops[i]?=some ⟨dst,.slice T x (some y) (some w) none,ty,pos,cY,g⟩) (hw:ay ops n env g=true) (tf:TF P T .string sz bE z ag)
 (hx:bp n env x=some (.string b)) (hy:bp n env y=some (.int k lo)) (hz:bp n env w=some (.int k' hi)) (hl:0≤lo∧lo≤hi∧hi≤b.size) (h:ab C fn aA ops rest Q (A n (upd dst (.string (b.extract lo.toNat hi.toNat)) env) D) s):ab C fn aA ops (i::rest) Q (A n env D) s:=by
 refine bR hC ho hw (by simp) ?_
 have h1:0≤hi∧hi≤(b.size:Int):=by omega
 have h2:0≤lo∧lo≤(hi.toNat:Int):=by omega
 simp only[execOp,Option.map_some,Option.map_none,Instr.sliceAt,Instr.slice,aF hx,aF hy,aF hz,aa,a8 tf,Instr.sliceBounds,Instr.sliceBound,asIntOf,ae,Option.isSome_none,Bool.false_eq_true,if_false,h1,h2,and_self,if_true]
 rw[←aX] at h
 exact h
theorem QW(hC:∀main T,C main T→Closed P main T){w:Operand}{k':IntKind}{b:ByteArray}(ho:ops[i]?=some ⟨dst,.slice T x none (some w) none,ty,pos,cY,g⟩) (hw:ay ops n env g=true) (tf:TF P T .string sz bE z ag)
 (hx:bp n env x=some (.string b)) (hz:bp n env w=some (.int k' hi)) (hl:0≤hi∧hi≤b.size) (h:ab C fn aA ops rest Q (A n (upd dst (.string (b.extract 0 hi.toNat)) env) D) s):ab C fn aA ops (i::rest) Q (A n env D) s:=by
 refine bR hC ho hw (by simp) ?_
 simp only[execOp,Option.map_some,Option.map_none,Instr.sliceAt,Instr.slice,aF hx,aF hz,aa,a8 tf,Instr.sliceBounds,Instr.sliceBound,asIntOf,ae,Option.isSome_none,Bool.false_eq_true,if_false,hl,and_self,if_true]
 rw[←aX] at h
 exact h
theorem QV(hC:∀main T,C main T→Closed P main T){k:IntKind}{b:ByteArray}(ho:ops[i]?=some ⟨dst,.slice T x (some y) none none,ty,pos,cY,g⟩) (hw:ay ops n env g=true) (tf:TF P T .string sz bE z ag)
 (hx:bp n env x=some (.string b)) (hy:bp n env y=some (.int k lo)) (hl:0≤lo∧lo≤b.size) (h:ab C fn aA ops rest Q (A n (upd dst (.string (b.extract lo.toNat b.size)) env) D) s):ab C fn aA ops (i::rest) Q (A n env D) s:=by
 refine bR hC ho hw (by simp) ?_
 simp only[execOp,Option.map_some,Option.map_none,Instr.sliceAt,Instr.slice,aF hx,aF hy,aa,a8 tf,Instr.sliceBounds,Instr.sliceBound,asIntOf,ae,Option.isSome_none,Bool.false_eq_true,if_false,hl,and_self,if_true]
 rw[←aX] at h
 exact h
theorem bB.part{a:Option Addr}{len:Nat}{enc:α→List Value}{ps:List α}(hs:bB ro (.slice a len cap) sz enc ps){l h:Nat}(hl:l≤h)(hh:h≤ps.length):bB ro (.slice (if cap=l then a else a.map (·.add (l*sz))) (h-l) (cap-l)) sz enc ((ps.take h).drop l):=by
 obtain⟨a',b,o,aU4,h1,h2,h3,h4⟩:=hs
 cases h1
 have hlen:((ps.take h).drop l).length=h-l:=by rw[List.length_drop,List.length_take];omega
 refine⟨_,b,o+l*sz,_,by rw[hlen],by omega,fun k hk=>?_,fun i p hp=>?_⟩
 ·have:=h3 0 (by omega)
  subst this
  rw[if_neg (by omega)]
  simp[dK]
 rw[List.getElem?_drop] at hp
 have hi:l+i <h:=by
  have:=(List.getElem?_eq_some_iff.1 hp).1
  rw[List.length_take] at this;omega
 rw[List.getElem?_take_of_lt hi] at hp
 have:=h4 _ _ hp
 rwa[show o+(l+i)*sz=o+l*sz+i*sz by rw[Nat.add_mul];omega] at this
theorem afS(hC:∀main T,C main T→Closed P main T){v:Value}{enc:α→List Value}{ps:List α}{L:Cells}(ho:ops[i]?=some ⟨dst,.call ⟨.builtin .len,#[x],#[T]⟩,ty,pos,cY,g⟩) (hw:ay ops n env g=true)
 (tf:TF P T (.slice E) sz bE z ag) (hx:bp n env x=some v) (kP:aw v szo T2 enc ps L) (h:ab C fn aA ops rest Q (A n (upd dst (.int .i64 ps.length) env) D) s):ab C fn aA ops (i::rest) Q (A n env D) s:=by
 obtain⟨a,c,rfl⟩:=kP.form
 exact aDR hC ho hw tf hx h
end rules
theorem dL{K J:Cells}(hp:rw'.Perm (K++J))(h:Sub ro aD):(⟨ro,K⟩:St).le ⟨aD,rw'⟩:=⟨J,hp,fun b o hb=> .inl (h b o hb)⟩
theorem ai(h:l.all single=true):∀v∈l,single v=true:=List.all_eq_true.1 h
section any
variable {P:Program} {C:Class} {fn:FuncId} {aA:Option Nat} {Q:Post} {s:St} {n:Nat} {D:List Deferred} {ops:Array Oper} {base:Env}
def asM(C:Class)(fn:FuncId)(aA:Option Nat)(ops:Array Oper)(n:Nat)(D:List Deferred)(base:Env)(Pl Sl:List (Nat×Value))(Q:Post)(s:St)(i:Nat):Prop:=
 ∀rest todo,(∀v s',(∀j w,(j,w)∈pending ops i Sl→eL C fn aA ops n D j w (cw ops base j Pl) s→eL C fn aA ops n D j w (cw ops base j Pl) s')→
  tG C fn aA ops n D base ((i,v)::Pl) (pending ops i Sl) Q s'→ab C fn aA ops todo Q (A n (upd (aQ ops i) v (cw ops base i Pl++rest)) D) s')→
  ab C fn aA ops (i::todo) Q (A n (cw ops base i Pl++rest) D) s
def xS(C:Class)(fn:FuncId)(aA:Option Nat)(ops:Array Oper)(n:Nat)(D:List Deferred)(base:Env)(Pl Sl:List (Nat×Value))(Q:Post)(s:St):List Nat→Prop
 | []=>True
 |i::is=>asM C fn aA ops n D base Pl Sl Q s i∧xS C fn aA ops n D base Pl Sl Q s is
theorem xS.mem{Pl Sl:List (Nat×Value)}:∀ {is:List Nat},xS C fn aA ops n D base Pl Sl Q s is→∀i∈is,asM C fn aA ops n D base Pl Sl Q s i
 | [],_,i,hi=>by cases hi
 |k::is,h,i,hi=>by
  rcases List.mem_cons.1 hi with rfl|hi
  ·exact h.1
  exact xS.mem h.2 i hi
def afI(ops:Array Oper)(ks:List Nat)(is:List Nat):Bool:=
 (List.range ops.size).all fun j=>bk j ks||bk j is||(bu ops j).any fun k=> !bk k ks
theorem acW{Pl Sl:List (Nat×Value)}(is:List Nat)(mI:fE ops=true)(his:(is.all fun i=>Nat.blt i ops.size&& !bk i (ak Pl))=true)(mb:nodupB (ak Pl)=true)(jJ:oW ops (ak Pl)=true)(hs:fF (ak Sl) (ak Pl)=true)(ho:afI ops (ak Pl) is=true)
 (h:xS C fn aA ops n D base Pl Sl Q s is)(dI:is.isEmpty=false):tG C fn aA ops n D base Pl Sl Q s:=by
 have qS:∀i∈is,i∉ak Pl:=fun i hi hm=>by
  have:=(List.all_eq_true.1 his) i hi
  rw[aJ.2 hm] at this;simp at this
 have JR:∀i∈is,i <ops.size:=fun i hi=>by
  have:=(List.all_eq_true.1 his) i hi
  simp only[Bool.and_eq_true,Nat.blt_eq] at this
  exact this.1
 have Ho:∀(l:List (Nat×Value)),nodupB (ak l)=true→∀j v w,(j,v)∈l→(j,w)∈l→w=v:=by
  intro l
  induction l with
  |nil=>intro _ j v w h;cases h
  |cons x l ih=>
   rcases x with ⟨k,u⟩
   intro hb j v w h1 h2
   simp only[ak,nodupB,Bool.and_eq_true,Bool.not_eq_true'] at hb
   have hk:k∉ak l:=fun hm=>by rw[aJ.2 hm] at hb;cases hb.1
   rcases List.mem_cons.1 h1 with h1|h1<;>rcases List.mem_cons.1 h2 with h2|h2
   ·cases h1;cases h2;rfl
   ·cases h1;exact absurd (aO.2 ⟨_,h2⟩) hk
   ·cases h2;exact absurd (aO.2 ⟨_,h1⟩) hk
   exact ih hb.2 j v w h1 h2
 intro hSl X l
 induction l generalizing X with
 |nil=>
  intro env hX hl pd hf
  cases is with
  |nil=>cases dI
  |cons i is=>exact absurd (hX i (pd i (JR i List.mem_cons_self))) (qS i List.mem_cons_self)
 |cons j l ih=>
  intro env hX hl pd hf
  obtain⟨h1,h2,h3,h4⟩:=pd
  by_cases hj:j∈ak Pl
  ·
   obtain⟨w,hw⟩:=aO.1 hj
   obtain⟨rest,hr⟩:=wI (n:=n) (D:=D) hf j h3 h2
   rw[hr]
   refine hSl j w (hl j w hw h2) s (Ext.refl s) rest l Q ?_
   rw[←Dz hr]
   refine ih (j::X) _ (fun k hk=>?_) (fun k u hk BS=>hl k u hk (fun h=>BS (List.mem_cons_of_mem _ h))) h4 (tx mI hf h1 h2 h3 (fun u hu=>Ho Pl mb j w u hw hu))
   rcases List.mem_cons.1 hk with rfl|hk
   ·exact hj
   exact hX k hk
  by_cases Aj:j∈is
  ·have h:=xS.mem h j Aj
   have qS:=qS j Aj
   obtain⟨rest,hr⟩:=wI (n:=n) (D:=D) hf j h3 h2
   rw[hr]
   refine h rest l fun v s' hp ha=>?_
   rw[←Dz hr]
   have NY:∀k,k∈ak Pl→j∉bu ops k:=by
    intro k hk hm
    have:=(List.all_eq_true.1 jJ) k hk
    exact qS (bL.1 this j hm)
   have Vw:∀k u,(k,u)∈pending ops j Sl→(k,u)∈Sl:=fun k u hk=>(List.mem_filter.1 hk).1
   refine ha (fun k u hk=>?_) (j::X) l _ (fun k hk=>?_) (fun k u hk BS=>?_) h4 ?_
   ·rw[cT (NY k (bL.1 hs k (aO.2 ⟨u,Vw k u hk⟩)))]
    exact hp k u hk (hSl k u (Vw k u hk))
   ·rcases List.mem_cons.1 hk with rfl|hk
    ·simp[ak]
    exact List.mem_cons_of_mem _ (hX k hk)
   ·rcases List.mem_cons.1 hk with hk|hk
    ·cases hk;exact absurd (by simp) BS
    have NT:k∉X:=fun h=>BS (List.mem_cons_of_mem _ h)
    refine List.mem_filter.2 ⟨hl k u hk NT,?_⟩
    cases hm:bk k (bu ops j) with
    |false=>rfl
    |true=>exact absurd (h3 k (aJ.1 hm)) NT
   refine tx mI (Dc hf h2) h1 h2 h3 fun u hu=>?_
   rcases List.mem_cons.1 hu with hu|hu
   ·cases hu;rfl
   exact absurd (aO.2 ⟨_,hu⟩) qS
  exfalso
  have:=(List.all_eq_true.1 ho) j (List.mem_range.2 h1)
  have e1:bk j (ak Pl)=false:=by
   cases hm:bk j (ak Pl) with
   |false=>rfl
   |true=>exact absurd (aJ.1 hm) hj
  have e2:bk j is=false:=by
   cases hm:bk j is with
   |false=>rfl
   |true=>exact absurd (aJ.1 hm) Aj
  rw[e1,e2] at this
  simp only[Bool.false_or,List.any_eq_true,Bool.not_eq_true'] at this
  obtain⟨k,hk,bY⟩:=this
  have:=hX k (h3 k hk)
  rw[aJ.2 this] at bY;cases bY
end any
section rules
variable {P:Program} {C:Class} {fn:FuncId} {aA:Option Nat} {Q:Post} {s:St} {n:Nat} {env:Env} {D:List Deferred}
variable {ops:Array Oper} {i:Nat} {rest:List Nat} {dst:Option Tmp} {ty:TypeId} {pos:String} {cY:Array Edge} {g:Option (Nat×Bool)}
variable {T:TypeId} {d:TypeDesc} {sz bE:Nat} {z:List Value} {ag:Bool} {ro:Nat→Option Obj}
theorem we{a:Act}(hC:∀main T,C main T→Closed P main T){rw:Cells}(hp:rw'.Perm rw)(h:ab C fn aA ops todo Q a ⟨ro,rw⟩):ab C fn aA ops todo Q a ⟨ro,rw'⟩:=
 ab.more (s:=⟨ro,rw⟩) (s':=⟨ro,rw'⟩) hC ⟨[],by rw[List.append_nil];exact hp,fun b o hb=> .inl hb⟩ h
theorem oap(hC:∀main T,C main T→Closed P main T){v w:Value}{enc:α→List Value}{ps qs:List α}{L R:List (Nat×Obj)}{d':TypeDesc}{E2:TypeId}{sz2 Ap:Nat}{z2:List Value}{ag2:Bool} 
 (ho:ops[i]?=some ⟨dst,.call ⟨.builtin .append,#[x,y],#[T,U]⟩,ty,pos,cY,g⟩) (hw:ay ops n env g=true) (tf:TF P T (.slice E) sz bE z ag) (Tz:TF P U (.slice E2) sz2 Ap z2 ag2) (jO:TF P E d' ir vi z' xa) (hz:z'.length=ir)
 (hx:bp n env x=some v) (hy:bp n env y=some w) (kP:aw v ir E enc ps L) (Hq:Sl ⟨ro,L++R⟩ w ir enc qs) (hq:∀p∈qs,∀c∈enc p,single c=true) (hb:wj (ps.length+qs.length) vi)
 (h:∀v' L',aw v' ir E enc (ps++qs) L'→ab C fn aA ops rest Q (A n (upd dst v' env) D) ⟨ro,L'++R⟩):ab C fn aA ops (i::rest) Q (A n env D) ⟨ro,L++R⟩:=
 Q1 hC ho hw tf Tz jO hz hx hy kP Hq (pre:=[]) rfl hq hb h
theorem ost(hC:∀main T,C main T→Closed P main T){o:Nat}{v:Value}{R:List (Nat×Obj)}{c:List Value}{e:TypeId}(ho:ops[i]?=some ⟨dst,.store T x y,ty,pos,cY,g⟩) (hw:ay ops n env g=true) (tf:TF P T d sz bE z ag)
 (hx:bp n env x=some (.pointer (some ⟨b,o,none⟩))) (hy:bp n env y=some (v)) (hl:v.cells=⟨l⟩) (hn:l.length=sz) (h1:∀v∈l,single v=true) (hb:o+l.length≤c.length)
 (h:ab C fn aA ops rest Q (A n (upd dst undef env) D) ⟨ro,(b,.cells ⟨dD c o l⟩ e (0,0))::R⟩):ab C fn aA ops (i::rest) Q (A n env D) ⟨ro,(b,.cells ⟨c⟩ e (0,0))::R⟩:=
 Fi hC ho hw tf hx hy hl hn h1 (L:=[]) rfl hb h
end rules
section rules
variable {P:Program} {C:Class} {fn:FuncId} {aA:Option Nat} {Q:Post} {s:St} {n:Nat} {env:Env} {D:List Deferred}
variable {ops:Array Oper} {i:Nat} {rest:List Nat} {dst:Option Tmp} {ty:TypeId} {pos:String} {cY:Array Edge} {g:Option (Nat×Bool)}
theorem au3(hC:∀main T,C main T→Closed P main T){k:IntKind}{a b:Int}(ho:ops[i]?=some ⟨dst,.call ⟨.builtin .min,#[x,y],#[T,U]⟩,ty,pos,cY,g⟩) (hw:ay ops n env g=true)
 (hx:bp n env x=some (.int k a)) (hy:bp n env y=some (.int k b)) (h:ab C fn aA ops rest Q (A n (upd dst (.int k (min a b)) env) D) s):ab C fn aA ops (i::rest) Q (A n env D) s:=by
 refine bR hC ho hw (by simp) ?_
 have e:(if b <a then b else a)=min a b:=by omega
 simp only[execOp,resolve,invoke,builtin,Builtin.min_,List.map_toArray,List.map_cons,List.map_nil,aF hx,aF hy,List.foldlM_cons,List.foldlM_nil,Builtin.min2,aa,ae,e]
 rw[←aX] at h
 exact h
theorem au4(hC:∀main T,C main T→Closed P main T){k:IntKind}{a b:Int}(ho:ops[i]?=some ⟨dst,.call ⟨.builtin .max,#[x,y],#[T,U]⟩,ty,pos,cY,g⟩) (hw:ay ops n env g=true)
 (hx:bp n env x=some (.int k a)) (hy:bp n env y=some (.int k b)) (h:ab C fn aA ops rest Q (A n (upd dst (.int k (max a b)) env) D) s):ab C fn aA ops (i::rest) Q (A n env D) s:=by
 refine bR hC ho hw (by simp) ?_
 have e:(if a <b then b else a)=max a b:=by omega
 simp only[execOp,resolve,invoke,builtin,Builtin.max_,List.map_toArray,List.map_cons,List.map_nil,aF hx,aF hy,List.foldlM_cons,List.foldlM_nil,Builtin.max2,aa,ae,e]
 rw[←aX] at h
 exact h
end rules
def cS(a b:ByteArray):Bool:=a.toList==b.toList
def strLt(a b:ByteArray):Bool:=Op.bytesLess a.toList b.toList
section rules
variable {P:Program} {C:Class} {fn:FuncId} {aA:Option Nat} {Q:Post} {s:St} {n:Nat} {env:Env} {D:List Deferred}
variable {ops:Array Oper} {i:Nat} {rest:List Nat} {dst:Option Tmp} {ty:TypeId} {pos:String} {cY:Array Edge} {g:Option (Nat×Bool)}
theorem au0(hC:∀main T,C main T→Closed P main T){a b:ByteArray}(ho:ops[i]?=some ⟨dst,.binOp .add T x y T',ty,pos,cY,g⟩) (hw:ay ops n env g=true)
 (hx:bp n env x=some (.string a)) (hy:bp n env y=some (.string b)) (hb:(a.size:Int)+b.size≤9223372036854775807) (h:ab C fn aA ops rest Q (A n (upd dst (.string (a++b)) env) D) s):ab C fn aA ops (i::rest) Q (A n env D) s:=
 AW hC ho hw hx hy (v:= .string (a++b)) (by
  simp only[Op.stringOp]
  rw[if_neg]
  ·rfl
  have:IntKind.i64.max=9223372036854775807:=by decide
  rw[this];push_cast;omega) rfl h
end rules
theorem azi(b:ByteArray)(i:Nat)(h:i <b.size):b.get! i=b.data.toList[i]'(by simpa using h):=by
 have h':i <b.data.size:=h
 show b.data[i]! =_
 rw[getElem!_pos b.data i h']
 simp
theorem aab(b:ByteArray):∀(n i:Nat) (r:List UInt8),b.size-i=n→ByteArray.toList.loop b i r=r.reverse++b.data.toList.drop i
 |0,i,r,h=>by
  unfold ByteArray.toList.loop
  rw[if_neg (by omega),List.drop_eq_nil_of_le]
  ·simp
  show b.data.toList.length≤i
  rw[Array.length_toList]
  have:b.data.size=b.size:=rfl
  omega
 |n+1,i,r,h=>by
  unfold ByteArray.toList.loop
  have hi:i <b.size:=by omega
  rw[if_pos hi,aab b n (i+1) _ (by omega),azi b i hi]
  have hl:i <b.data.toList.length:=by rw[Array.length_toList];exact hi
  rw[List.drop_eq_getElem_cons hl]
  simp
theorem pZ(b:ByteArray):b.toList=b.data.toList:=by
 show ByteArray.toList.loop b 0 []=_
 rw[aab b _ 0 [] rfl]
 simp
theorem B7{a b:ByteArray}:cS a b=true↔a=b:=by
 unfold cS
 rw[pZ,pZ]
 simp only[beq_iff_eq]
 constructor
 ·intro h
  have:a.data=b.data:=Array.toList_inj.1 h
  cases a;cases b;simp at this;subst this;rfl
 rintro rfl;rfl
theorem AB(a b:ByteArray):cS a b=(a.data.toList==b.data.toList):=by unfold cS;rw[pZ,pZ]
theorem P8(a b:ByteArray):strLt a b=Op.bytesLess a.data.toList b.data.toList:=by unfold strLt;rw[pZ,pZ]
def FnG(P:Program)(f:FuncId)(args:List Value)(ro:Nat→Option Obj)(own:Cells)(Φ:Value→(Nat→Option Obj)→Cells→Prop):Prop:=
 Fn (CP P) P f ⟨args⟩ ⟨ro,own⟩ (fun en s'=>∃v aD X,en= .returned v∧s'=⟨aD,X⟩∧Sub ro aD∧Φ v aD X)
theorem FnG.use{own:Cells}{Φ:Value→(Nat→Option Obj)→Cells→Prop}(hp:s.rw.Perm (own++fr))(hf:FnG P f vs s.ro own Φ):
 Fn (CP P) P f ⟨vs⟩ s (fun en s'=>∃v aD X,en= .returned v∧Sub s.ro aD∧Φ v aD X∧(⟨aD,X++fr⟩:St).le s'):=by
 refine Fn.mono (Fn.frame (fr:=fr) (B:=[]) (ro:=s.ro) (s:=s) hf (fun _ h=>(by cases h)) ⟨hp,fun b o hb=> .inl hb,Sub.refl _⟩) fun en s' DY=>?_
 obtain⟨yK,⟨v,aD,X,rfl,rfl,hs,pG⟩,hc⟩:=DY
 refine⟨v,aD,X,rfl,hs,pG,[],by simpa using hc.rw,fun b o hb=>?_⟩
 rcases hc.aG b o hb with h|h
 ·exact .inl h
 cases h
theorem GH:∀(A l:List Value) (o:Nat) (c:List Value),dD (A++l) (A.length+o) c=A++dD l o c
 | [],l,o,c=>by simp
 |a::A,l,o,[]=>by rw[lB,lB]
 |a::A,l,o,v::c=>by
  have:=GH A l o (v::c)
  rw[show (a::A).length+o=A.length+o+1 by simp only[List.length_cons];omega]
  simp only[List.cons_append,dD,this]
theorem KJ{m B:List Value}{o:Nat}{c:List Value}(h:o+c.length≤m.length):dD (m++B) o c=dD m o c++B:=by
 rw[q9 _ _ _ (by rw[List.length_append];omega),q9 _ _ _ h,List.take_append_of_le_length (by omega),List.drop_append_of_le_length h]
 simp only[List.append_assoc]
theorem abb{m c:List Value}(h:c.length=m.length):dD m 0 c=c:=by
 rw[q9 _ _ _ (by omega)]
 simp[h]
theorem Ws{enc:α→List Value}{ps:List α}(Vw:∀p∈ps,(enc p).length=sz){x:α}(hx:ps[k]?=some x) (hl:l.take (ps.length*sz)=(ps.map enc).flatten):∃A B,A.length=k*sz∧l=A++(enc x++B):=by
 obtain⟨hk,rfl⟩:=List.getElem?_eq_some_iff.1 hx
 refine⟨((ps.take k).map enc).flatten,((ps.drop (k+1)).map enc).flatten++l.drop (ps.length*sz),?_,?_⟩
 ·rw[ku _ (fun p hp=>Vw p (List.mem_of_mem_take hp)),List.length_take,Nat.min_eq_left (by omega)]
 have h3:ps=ps.take k++ps[k]::ps.drop (k+1):=by rw[←List.drop_eq_getElem_cons hk,List.take_append_drop]
 have h4:=congrArg (fun q:List α=>(q.map enc).flatten) h3
 simp only[List.map_append,List.map_cons,List.flatten_append,List.flatten_cons] at h4
 have h5:=(List.take_append_drop (ps.length*sz) l).symm
 rw[hl,h4] at h5
 simpa only[List.append_assoc] using h5
theorem abc{enc:α→List Value}{ps:List α}(Vw:∀p∈ps,(enc p).length=sz){x:α}(hx:ps[k]?=some x) (hl:l.take (ps.length*sz)=(ps.map enc).flatten) {o:Nat} {c:List Value} (h:o+c.length≤sz):
 dD l (k*sz+o) c=dD l (k*sz) (dD (enc x) o c):=by
 have hxl:=Vw x (List.mem_of_getElem? hx)
 obtain⟨A,B,h1,rfl⟩:=Ws Vw hx hl
 have e0:∀q,dD (A++(enc x++B)) A.length q=A++dD (enc x++B) 0 q:=fun q=>GH A _ 0 q
 rw[←h1,GH,e0,KJ (by omega),KJ (by rw[lD];omega),abb (lD _ _ _)]
section rules
variable {P:Program} {C:Class} {fn:FuncId} {aA:Option Nat} {Q:Post} {ro:Nat→Option Obj} {n:Nat} {env:Env} {D:List Deferred}
variable {ops:Array Oper} {i:Nat} {rest:List Nat} {dst:Option Tmp} {ty:TypeId} {pos:String} {cY:Array Edge} {g:Option (Nat×Bool)}
variable {T:TypeId} {d:TypeDesc} {tsz bE:Nat} {z:List Value} {ag:Bool}
theorem aDI(hC:∀main T,C main T→Closed P main T){o:Nat}{v w:Value}{a e:α}{c:List Value}{enc:α→List Value}{ps:List α}{L R:Cells}(ho:ops[i]?=some ⟨dst,.store T x y,ty,pos,cY,g⟩) (hw:ay ops n env g=true) (tf:TF P T d tsz bE z ag)
 (hx:bp n env x=some (.pointer (some ⟨b,k*sz+o,none⟩))) (hy:bp n env y=some w) (hl:w.cells=⟨c⟩) (hn:c.length=tsz) (h1:∀v∈c,single v=true) (kP:aw v sz E enc ps L) (hb:OS v b) (hk:ps[k]?=some a) (he:enc e=dD (enc a) o c) (hf:o+c.length≤sz)
 (h:∀L',aw v sz E enc (ps.set k e) L'→ab C fn aA ops rest Q (A n (upd dst undef env) D) ⟨ro,L'++R⟩):ab C fn aA ops (i::rest) Q (A n env D) ⟨ro,L++R⟩:=by
 have hk1:k <ps.length:=(List.getElem?_eq_some_iff.1 hk).1
 rcases kP with ⟨_,h2,_⟩| ⟨b',l,cap,g1,g2,g3,g4,g5,g6⟩
 ·subst h2;simp at hk
 obtain⟨n',c',mv⟩:=hb
 rw[g1] at mv
 cases mv
 subst g2
 have hea:(enc a).length=sz:=g5 a (List.mem_of_getElem? hk)
 have DY:(enc e).length=sz:=by rw[he,lD,hea]
 have hks:k*sz+sz≤ps.length*sz:=by
  have:(k+1)*sz≤ps.length*sz:=Nat.mul_le_mul_right _ (by omega)
  rw[Nat.succ_mul] at this;exact this
 have oF:ps.length*sz≤cap*sz:=Nat.mul_le_mul_right _ g4
 refine Fi (L:=[]) (R:=R) hC ho hw tf hx hy hl hn h1 rfl (by omega)<|h [(b,.cells ⟨dD l (k*sz+o) c⟩ E (0,0))] (.inr ⟨b,_,cap,by rw[g1,List.length_set],rfl,by rw[lD,g3],by rw[List.length_set];exact g4,fun p hp=>?_,?_⟩)
 ·rcases List.mem_or_eq_of_mem_set hp with h5|h5
  ·exact g5 p h5
  subst h5;exact DY
 rw[List.length_set,abc g5 hk g6 hf,←he]
 exact SG ps g5 k e DY hk1 l g6
end rules
section rules
variable {P:Program} {C:Class} {fn:FuncId} {aA:Option Nat} {Q:Post} {s:St} {n:Nat} {env:Env} {D:List Deferred}
variable {ops:Array Oper} {i:Nat} {rest:List Nat} {dst:Option Tmp} {ty:TypeId} {pos:String} {cY:Array Edge} {g:Option (Nat×Bool)}
structure EF(P:Program)(f:FuncId)(e:Array Value→Sem Value):Prop where
 ef:∃fn,P.funcs[f]?=some fn∧(fn.name== "runtime.NumGoroutine")=false∧fn.body.isNone=true∧(Extern.findNext fn).isNone=true∧Extern.find fn=some e
theorem afV(hC:∀main T,C main T→Closed P main T){e:Array Value→Sem Value}(ho:ops[i]?=some ⟨dst,.call ⟨.value (.func f),xs,at_⟩,ty,pos,cY,g⟩) (hw:ay ops n env g=true)
 (ef:EF P f e) (hx:vx n env xs=some vs) (h:bO P (e ⟨vs⟩) s (fun v s'=>ab C fn aA ops rest Q (A n (upd dst v env) D) s') (fun _ _=>False)):ab C fn aA ops (i::rest) Q (A n env D) s:=by
 obtain⟨fn',h1,h2,h3,h4,h5⟩:=ef.ef
 have h4':Extern.findNext fn'=none:=by
  cases hh:Extern.findNext fn' with
  |none=>rfl
  |some x=>rw[hh] at h4;cases h4
 refine bR hC ho hw (by simp) ?_
 simp only[execOp,resolve,ev,Deferred.ofValue,ae,sB hx]
 simp only[invoke,Array.append_empty,Array.empty_append,callFunc,eN,h1,h2,h3,h4',h5,if_true,Bool.false_eq_true,if_false]
 refine⟨rfl,?_⟩
 refine PN (e ⟨vs⟩) (fun v=>(pure (Next.value v):Sem Next)) _ _ _<|vI _ _ _ _ _ _ (fun v s' hv=>?_) (fun _ _ (hf:False)=>hf.elim) h
 rw[←aX] at hv
 exact hv
end rules
def Rv(a:ByteArray)(b:UInt8):Int:=
 match (List.range a.size).find? fun i=>a[i]! ==b with
 |some i=>i
 |none=> -1
section rules
variable {P:Program} {C:Class} {fn:FuncId} {aA:Option Nat} {Q:Post} {s:St} {n:Nat} {env:Env} {D:List Deferred}
variable {ops:Array Oper} {i:Nat} {rest:List Nat} {dst:Option Tmp} {ty:TypeId} {pos:String} {cY:Array Edge} {g:Option (Nat×Bool)}
theorem afT(hC:∀main T,C main T→Closed P main T){a:ByteArray}{b:Int}(ho:ops[i]?=some ⟨dst,.call ⟨.value (.func f),xs,at_⟩,ty,pos,cY,g⟩) (hw:ay ops n env g=true)
 (ef:EF P f Extern.BytealgIndexByte.indexByte) (hx:vx n env xs=some [.string a,.int .u8 b]) (h:ab C fn aA ops rest Q (A n (upd dst (.int .i64 (Rv a b.toNat.toUInt8)) env) D) s):ab C fn aA ops (i::rest) Q (A n env D) s:=by
 refine afV hC ho hw ef hx ?_
 unfold Rv at h
 show bO P (match (List.range a.size).find? fun i=>a[i]! ==b.toNat.toUInt8 with|some i=>pure (goInt i)|none=>pure (goInt (-1))) s _ _
 split
 ·rename_i j hj
  rw[hj] at h;exact h
 rename_i hj
 rw[hj] at h;exact h
theorem anj(hC:∀main T,C main T→Closed P main T){v:Value}(ho:ops[i]?=some ⟨dst,.call ⟨.value (.func f),xs,at_⟩,ty,pos,cY,g⟩) (hw:ay ops n env g=true)
 (ef:EF P f Extern.AbiNoEscape.same) (hx:vx n env xs=some [v]) (h:ab C fn aA ops rest Q (A n (upd dst v env) D) s):ab C fn aA ops (i::rest) Q (A n env D) s:=
 afV hC ho hw ef hx h
end rules
theorem acA{b:ByteArray}{p:Nat}{c:UInt8}(h:b.data.toList[p]?=some c) (ha:c.toNat <128):p <b.size∧Utf8.decode b p=(c.toNat,1):=by
 rw[Array.getElem?_toList] at h
 obtain⟨h1,h2⟩:=Array.getElem?_eq_some_iff.1 h
 refine⟨h1,?_⟩
 have h3:b.get! (p+0)=c:=by
  show b.data[p+0]! =c
  rw[Nat.add_zero,getElem!_pos b.data p h1,h2]
 simp only[Utf8.decode,h3]
 rw[if_pos (by omega)]
section rules
variable {P:Program} {C:Class} {fn:FuncId} {aA:Option Nat} {Q:Post} {ro:Nat→Option Obj} {n:Nat} {env:Env} {D:List Deferred}
variable {ops:Array Oper} {i:Nat} {rest:List Nat} {dst:Option Tmp} {ty:TypeId} {pos:String} {cY:Array Edge} {g:Option (Nat×Bool)}
theorem anl(hC:∀main T,C main T→Closed P main T){b:ByteArray}{r p:Nat}{R:Cells}{c:UInt8}(ho:ops[i]?=some ⟨dst,.next x true,ty,pos,cY,g⟩) (hw:ay ops n env g=true) (hx:bp n env x=some (.pointer (some ⟨r,0,none⟩))) (hp:b.data.toList[p]?=some c) (ha:c.toNat <128)
 (h:ab C fn aA ops rest Q (A n (upd dst (.tuple ⟨[.bool true,.int .i64 p,.int .i32 c.toNat]⟩) env) D) ⟨ro,(r,.stringIter b (p+1))::R⟩):ab C fn aA ops (i::rest) Q (A n env D) ⟨ro,(r,.stringIter b p)::R⟩:=by
 obtain⟨h1,h2⟩:=acA hp ha
 refine abo hC ho hw hx (L:=[]) rfl h1 ?_
 rw[h2]
 exact h
theorem ank(hC:∀main T,C main T→Closed P main T){b:ByteArray}{r p:Nat}{R:Cells}(ho:ops[i]?=some ⟨dst,.next x true,ty,pos,cY,g⟩) (hw:ay ops n env g=true) (hx:bp n env x=some (.pointer (some ⟨r,0,none⟩))) (hp:b.data.toList[p]?=none)
 (h:ab C fn aA ops rest Q (A n (upd dst (.tuple ⟨[.bool false]⟩) env) D) ⟨ro,(r,.stringIter b p)::R⟩):ab C fn aA ops (i::rest) Q (A n env D) ⟨ro,(r,.stringIter b p)::R⟩:=by
 refine abp hC ho hw hx (L:=[]) rfl ?_ h
 rw[Array.getElem?_toList,Array.getElem?_eq_none_iff] at hp
 exact Nat.not_lt.2 hp
end rules
theorem FX(ops:Array Oper)(n:Nat)(env:Env)(D:List Deferred)(o:Oper)(j:Nat)(want:Bool)(d:Tmp)(hg:o.guard=some (j,want))(hd:(ops[j]?).bind (·.dst)=some d)
 (hv:bp n env (.tmp d)=some undef):Region.wanted o (yielded ops (A n env D).tmps)=false:=by
 unfold Region.wanted
 rw[hg]
 simp only[bp] at hv
 by_cases cJ:d <n
 ·rw[show Nat.blt d n=true from by simpa [Nat.blt_eq] using cJ] at hv
  simp only[cond_true] at hv
  simp only[yielded,hd,Option.bind_some,O0]
  rw[if_pos cJ,mL hv]
  rfl
 rw[show Nat.blt d n=false from by simpa [Nat.blt_eq,←Bool.not_eq_true] using cJ] at hv
 cases hv
section rules
variable {P:Program} {C:Class} {fn:FuncId} {aA:Option Nat} {Q:Post} {s:St} {n:Nat} {env:Env} {D:List Deferred}
variable {ops:Array Oper} {i:Nat} {rest:List Nat} {dst:Option Tmp} {ty:TypeId} {pos:String} {cY:Array Edge} {g:Option (Nat×Bool)}
theorem ani(hC:∀main T,C main T→Closed P main T){op:Op}{j:Nat}{want:Bool}{d:Tmp}(ho:ops[i]?=some ⟨dst,op,ty,pos,cY,some (j,want)⟩) (hd:(ops[j]?).bind (·.dst)=some d)
 (hv:bp n env (.tmp d)=some undef) (h:ab C fn aA ops rest Q (A n (upd dst undef env) D) s):ab C fn aA ops (i::rest) Q (A n env D) s:=by
 refine tX hC ho (FX _ _ _ _ _ _ _ _ rfl hd hv) ?_
 rw[aX];exact h
end rules
section rules
variable {P:Program} {C:Class} {fn:FuncId} {Q:Post} {s:St} {n:Nat} {env:Env} {D:List Deferred}
variable {ops:Array Oper} {i:Nat} {rest:List Nat} {dst:Option Tmp} {ty:TypeId} {pos:String} {cY:Array Edge} {g:Option (Nat×Bool)}
theorem ann(hC:∀main T,C main T→Closed P main T){ca:List Value}(ho:ops[i]?=some ⟨dst,.defer ⟨.value x,#[],#[]⟩,ty,pos,cY,g⟩) (hw:ay ops n env g=true)
 (hx:bp n env x=some (.func (.func f) ⟨[]⟩ ⟨ca⟩)) (h:ab C fn none ops rest Q (A n (upd dst undef env) ({target:= .fn (.func f) ⟨ca⟩,args:= #[]}::D)) s):ab C fn none ops (i::rest) Q (A n env D) s:=by
 refine Nm hC ho (B1 _ _ _ _ _ hw) (.inl rfl) ?_
 rw[eg]
 simp only[execOp,resolve,aF hx,Deferred.ofValue,ae]
 refine⟨rfl,?_⟩
 have hA:({A n env D with defers:={target:= .fn (.func f) ⟨ca⟩,args:= #[]}::(A n env D).defers}:Act).put dst undef=A n (upd dst undef env) ({target:= .fn (.func f) ⟨ca⟩,args:= #[]}::D):=by
  rw[←aX];rfl
 rw[←hA] at h
 have he:(⟨[]⟩:Array Value)++Array.map (ev n env) #[]= #[]:=by simp
 rw[he]
 exact h
def WE(C:Class)(P:Program)(fn:Func)(g:FuncId)(gn:Func)(t:Tmp)(rest:Code)(R:Ending→St→Prop):Post:=fun e a s=>
 (e= .normal∨e= .ret)∧∃ca:List Value,Nat.ble ca.length gn.ntmps=true∧a.defers=[{target:= .fn (.func g) ⟨ca⟩,args:= #[]}]∧
  Wp C g none rest (fun e2 a2 s2=>(e2= .normal∨e2= .ret)∧a2.defers=[]∧bO P (results fn a.tmps) s2 (fun v s3=>∃s0,s0.le s3∧R (.returned v) s0) (fun _ _=>False)) (A gn.ntmps (upd (some t) .nilIface (fM 0 ca)) []) s
theorem H5(hC:∀main T,C main T→Closed P main T){fn:Func}{c:Code}{gid:FuncId}{gn:Func}{t:Tmp}{rc:Code}(hf:P.funcs[f]?=some fn) (hb:fn.body=some c) (hn:fn.ntmps=n) (hl:Nat.ble args.length n=true)
 (ahv:Jt P gid=some (gn,t,rc)) (h:Wp C f none c (WE C P fn gid gn t rc R) (A n (fM 0 args) []) s):Fn C P f ⟨args⟩ s R:=by
 intro main T hT cl cs k1 k2
 have iM:=hC main T hT
 let b:Frame:={(default:Frame) with fn:=f,kind:= .normal,roundOf:=none}
 have gY:Frame.enter P f ⟨args⟩ .normal=aL b (A n (fM 0 args) []) [.code c]:=by
  rw[←kR args n (Nat.le_of_ble_eq_true hl)]
  simp[Frame.enter,aL,hf,hb,hn,b]
 rw[gY]
 obtain⟨hgf,A8,I8,id,o,at_,hgb,h1,h2,h3⟩:=(X4 ahv).ex
 have ff:FF P gid:=⟨gn,hgf,I8,by rw[hgb];rfl⟩
 have sq:∀(todo:List Item) (a':Act) (s':St) (ca:List Value),Nat.ble ca.length gn.ntmps=true→a'.defers=[{target:= .fn (.func gid) ⟨ca⟩,args:= #[]}]→
  Wp C gid none rc (fun e2 a2 s2=>(e2= .normal∨e2= .ret)∧a2.defers=[]∧bO P (results fn a'.tmps) s2 (fun v s3=>∃s0,s0.le s3∧R (.returned v) s0) (fun _ _=>False)) (A gn.ntmps (upd (some t) .nilIface (fM 0 ca)) []) s'→
  T (G {aL b a' todo with mode:= .returning} (cl::cs)) s':=by
  intro todo a' s' ca hlc hd hw
  refine jC hC hT (.inl rfl) ff (ds:=[]) (a:= #[]) (ca:=⟨ca⟩) hd ?_
  let d:Frame:={(default:Frame) with fn:=gid,kind:= .deferred,roundOf:=none}
  have aoM:Frame.enter P gid ((#[]:Array Value)++⟨ca⟩) .deferred=aL d (A gn.ntmps (fM 0 ca) []) [.code (.seq (.region id #[o] false) rc)]:=by
   rw[←kR ca gn.ntmps (Nat.le_of_ble_eq_true hlc)]
   simp[Frame.enter,aL,hgf,hgb,d]
  rw[aoM]
  let c0:Frame:={aL b a' todo with mode:= .returning,defers:=[]}
  show T (G _ (c0::cl::cs)) s'
  refine iM.go rfl rfl (g':=G (aL d (A gn.ntmps (fM 0 ca) []) [.code (.region id #[o] false),.code rc]) (c0::cl::cs)) (fun w=>by simp[G,stepG,stepG.exec,aL])<|iM.go rfl rfl (g':=G (aL d (A gn.ntmps (fM 0 ca) []) [.inRegion #[o] [0],.code rc]) (c0::cl::cs)) (fun w=>by simp[G,stepG,stepG.exec,aL,List.range,List.range.loop])<|AH hC hT (u:= .ret) (ρ:=fun _=>none) rfl rfl h1 h2 h3 .ret fun v' ng hv VD=>?_
  have hv':v'= .nilIface:=by
   rcases hv with hv|hv
   ·cases hv;rfl
   exact hv.2
  subst hv'
  refine iM.go rfl rfl (g':=G (aL d ((A gn.ntmps (fM 0 ca) []).put (some t) .nilIface) [.code rc]) ({c0 with mode:=ng}::cl::cs)) (fun w=>by simp[G,stepG,stepG.exec,aL]) ?_
  rw[aX]
  have RM:∀tmps,results gn tmps=Sem.pure (.tuple #[]):=by intro tmps;simp[results,A8];rfl
  have yj:∀(Xt:List Item) (a2:Act) (s2:St),a2.defers=[]→bO P (results fn a'.tmps) s2 (fun v s3=>∃s0,s0.le s3∧R (.returned v) s0) (fun _ _=>False)→T (G {aL d a2 Xt with mode:= .returning} ({c0 with mode:=ng}::cl::cs)) s2:=by
   intro Xt a2 s2 hd2 wz
   have mr:T (G c0 (cl::cs)) s2:=sV hC hT hf rfl rfl rfl rfl wz k1
   refine iM.go rfl rfl (fun w=>?_) mr
   rcases VD with rfl| ⟨v,rfl⟩
   ·simp only[G,stepG,unwind,aL,d,hgf,RM,Sem.runT,sS,hd2]
    simp[GStep.after,doReturn,c0,aL]
   simp only[G,stepG,unwind,aL,d,hgf,RM,Sem.runT,sS,hd2]
   simp[GStep.after,doReturn,c0,aL]
  refine hw main T hT d [] _ rfl (by simp[d]) rfl fun e2 a2 s2 q=>?_
  obtain⟨q1,q2,q3⟩:=q
  rcases q1 with rfl|rfl
  ·exact iM.go rfl rfl (g':=G {aL d a2 [] with mode:= .returning} ({c0 with mode:=ng}::cl::cs)) (fun w=>by simp[G,stepG,stepG.exec,aL,d]) (yj _ _ _ q2 q3)
  exact fun Xt=>iM.go rfl rfl (g':=G {aL d a2 (.code .ret::Xt) with mode:= .returning} ({c0 with mode:=ng}::cl::cs)) (fun w=>by simp[G,stepG,stepG.exec,aL,d]) (yj _ _ _ q2 q3)
 refine h main T hT b [] (cl::cs) rfl (by simp[b]) rfl fun e a' s' q=>?_
 obtain⟨q1,ca,q0,q2,q3⟩:=q
 rcases q1 with rfl|rfl
 ·exact iM.go rfl rfl (g':=G {aL b a' [] with mode:= .returning} (cl::cs)) (fun w=>by simp[G,stepG,stepG.exec,aL,b]) (sq _ _ _ ca q0 q2 q3)
 exact fun todo=>iM.go rfl rfl (g':=G {aL b a' (.code .ret::todo) with mode:= .returning} (cl::cs)) (fun w=>by simp[G,stepG,stepG.exec,aL,b]) (sq _ _ _ ca q0 q2 q3)
end rules
section rules
variable {P:Program} {C:Class} {fn:FuncId} {aA:Option Nat} {Q:Post} {s:St} {n:Nat} {env:Env} {D:List Deferred}
variable {ops:Array Oper} {i:Nat} {rest:List Nat} {dst:Option Tmp} {ty:TypeId} {pos:String} {cY:Array Edge} {g:Option (Nat×Bool)}
variable {T:TypeId} {sz bE:Nat} {z:List Value} {ag:Bool}
theorem anh(hC:∀main T,C main T→Closed P main T){a:Option Addr}{l c:Nat}(ho:ops[i]?=some ⟨dst,.binOp .eql T x y T',ty,pos,cY,g⟩) (hw:ay ops n env g=true) (tf:TF P T (.slice E) sz bE z ag)
 (hx:bp n env x=some (.slice a l c)) (hy:bp n env y=some (.slice none 0 0)) (h:ab C fn aA ops rest Q (A n (upd dst (.bool a.isNone) env) D) s):ab C fn aA ops (i::rest) Q (A n env D) s:=by
 refine bR hC ho hw (by simp) ?_
 have hg:eqGuard .eql T x y (.slice a l c) (.slice none 0 0)=Sem.pure ():=by cases a<;>rfl
 have hb:binOp .eql T (.slice a l c) (.slice none 0 0)=(Op.equal T (.slice a l c) (.slice none 0 0) >>= fun r=>pure (.bool r)):=by cases a<;>rfl
 have he:∀ {α:Type} (K:Bool→Sem α) (Q:α→St→Prop) (E:Halt→St→Prop),bO P (K a.isNone) s Q E→bO P (Op.equal T (.slice a l c) (.slice none 0 0) >>= K) s Q E:=by
  intro α K Q E hK
  have gen:∀d,bO P (Op.equalIn (d+1) T (.slice a l c) (.slice none 0 0) >>= K) s Q E:=by
   intro d
   cases a<;>(simp only[Op.equalIn,aa,a8 tf,ae,Option.isNone];exact hK)
  exact gen 9999
 simp only[execOp,aF hx,aF hy,hg,hb]
 show bO P ((Op.equal T (.slice a l c) (.slice none 0 0) >>= fun r=>(pure (Value.bool r):Sem Value)) >>= fun x=>(pure (Next.value x):Sem Next)) s _ _
 simp only[aa]
 refine he _ _ _ ?_
 rw[←aX] at h
 exact h
end rules
def afm:Op→Option (List Operand)
 | .move x=>some [x]
 | .assign x=>some [x]
 | .extract x _=>some [x]
 | .nilCheck x=>some [x]
 | .fieldAddr _ x _=>some [x]
 | .makeInterface _ x=>some [x]
 | .indexAddr _ x y=>some [x,y]
 |op=>GK op
theorem Qx{xs:List Operand}(h:afm o.op=some xs){f g:Operand→Value}(hfg:∀x∈xs,f x=g x):execOp f o=execOp g o:=by
 unfold afm at h
 split at h
 all_goals first
  | (rename_i heq;simp only[Option.some.injEq] at h;subst h;simp[execOp,heq,hfg];done)
  |exact tU h hfg
def evj(n:Nat)(e:Env)(x:Operand):Value:=(bp n e x).getD undef
theorem Oi{f:Operand→Value}(hf:Ev n e f):∀ {xs:List Operand} {vs:List Value},x6 n e xs=some vs→∀x∈xs,f x=evj n e x
 |y::l,vs,h,x,hx=>by
  simp only[x6] at h
  cases hv:bp n e y with
  |none=>rw[hv] at h;cases h
  |some v=>
   rw[hv] at h
   cases hr:x6 n e l with
   |none=>rw[hr] at h;cases h
   |some r=>
    rcases List.mem_cons.1 hx with rfl|hx
    ·rw[hf _ _ hv,evj,hv];rfl
    exact Oi hf hr x hx
def at5(P:Program)(n:Nat)(e:Env)(o:Oper):Option Value:=
 match afm o.op with
 |some xs=>match x6 n e xs with
  |some _=>match bw P (execOp (evj n e) o) with
   |some (.value v)=>some v
   |_=>none
  |none=>none
 |none=>none
def aEj(P:Program)(n:Nat)(e:Env)(x:Operand)(T:TypeId):Option Value:=
 match ba P T with
 |some ⟨.slice _,_,_,_⟩=>match bp n e x with
  |some (.slice _ len _)=>some (.int .i64 len)
  |_=>none
 |some ⟨.string,_,_,_⟩=>match bp n e x with
  |some (.string b)=>some (.int .i64 b.size)
  |_=>none
 |_=>none
def WS(P:Program)(n:Nat)(e:Env)(T:TypeId)(ps:Array (Nat×Operand)):Option Value:=
 match ba P T with
 |some ⟨.struct fields,_,z,_⟩=>match xu P fields.toList with
  |some pl=>match Pm n e ps.toList with
   |some pv=>match oI (fun i=>pl[i]?) z (tW pv) with
    |some l=>some (.agg ⟨l⟩)
    |none=>none
   |none=>none
  |none=>none
 |some ⟨.array _ E,_,z,_⟩=>match ba P E with
  |some te=>match Pm n e ps.toList with
   |some pv=>match oI (fun i=>some (i*te.size,te.size)) z (tW pv) with
    |some l=>some (.agg ⟨l⟩)
    |none=>none
   |none=>none
  |none=>none
 |_=>none
def ad4(P:Program)(n:Nat)(e:Env)(o:Oper):Option Value:=
 match o.op with
 | .pick c x y=>match bp n e c with
  |some (.bool true)=>bp n e x
  |some (.bool false)=>bp n e y
  |_=>none
 | .makeFunc f x y=>match x6 n e x.toList with
  |some x'=>match x6 n e y.toList with
   |some y'=>some (.func f ⟨x'⟩ ⟨y'⟩)
   |none=>none
  |none=>none
 | .build T ps=>WS P n e T ps
 | .call ⟨.builtin .len,⟨[x]⟩,⟨[T]⟩⟩=>aEj P n e x T
 |_=>at5 P n e o
section val
variable {P:Program} {n:Nat} {e:Env} {o:Oper} {s:St} {v:Value}
theorem amH(h:at5 P n e o=some v):Yields P n e o s v:=by
 unfold at5 at h
 split at h<;>try (cases h;done)
 rename_i xs hx
 split at h<;>try (cases h;done)
 rename_i vs EM
 split at h<;>try (cases h;done)
 rename_i w hr
 cases h
 intro s' _ f hf K E hK
 rw[Qx hx (Oi hf EM)]
 exact ov hr hK
theorem acK{ps:Array (Nat×Operand)}(heq:o.op= .build T ps)(h:WS P n e T ps=some v):Yields P n e o s v:=by
 unfold WS at h
 split at h<;>try (cases h;done)
 ·rename_i fields _ z _ dM
  obtain⟨bE,tf⟩:=av dM
  split at h<;>try (cases h;done)
  rename_i pl TG
  split at h<;>try (cases h;done)
  rename_i pv JM
  split at h<;>try (cases h;done)
  rename_i l hl
  cases h
  intro s' mT f hf K E hK
  simp only[execOp,heq,Instr.build,aa,jZ tf,a8 tf,dW tf]
  rw[Array.mapM_eq_mapM_toList]
  simp only[map_eq_pure_bind,aa,ae]
  rw[n6 (yS TG)]
  rw[kL] at hl
  have h1:=fill_eq _ _ _ _ hl
  have h3:(fun x=>(pl.toArray)[x]?:Nat→Option (Nat×Nat))=fun i=>pl[i]?:=by funext i;simp
  simp only[h3,hf.v9 JM,h1,ae]
  exact hK
 rename_i len E _ z _ dM
 obtain⟨bE,tf⟩:=av dM
 split at h<;>try (cases h;done)
 rename_i te uo
 obtain⟨Ap,p9⟩:=av uo
 split at h<;>try (cases h;done)
 rename_i pv JM
 split at h<;>try (cases h;done)
 rename_i l hl
 cases h
 intro s' mT f hf K E hK
 simp only[execOp,heq,Instr.build,aa,jZ tf,a8 tf,dW tf,cu p9]
 rw[kL] at hl
 have h1:=fill_eq _ _ _ _ hl
 simp only[hf.v9 JM,h1,ae]
 exact hK
theorem Ay(h:ad4 P n e o=some v):Yields P n e o s v:=by
 unfold ad4 at h
 split at h
 ·rename_i c x y heq
  split at h<;>try (cases h;done)
  ·rename_i hc
   intro s' _ f hf K E hK
   simp only[execOp,heq,hf _ _ hc,hf _ _ h]
   exact hK
  rename_i hc
  intro s' _ f hf K E hK
  simp only[execOp,heq,hf _ _ hc,hf _ _ h]
  exact hK
 ·rename_i g x y heq
  split at h<;>try (cases h;done)
  rename_i x' hx
  split at h<;>try (cases h;done)
  rename_i y' hy
  cases h
  intro s' _ f hf K E hK
  simp only[execOp,heq,hf.arr hx,hf.arr hy]
  exact hK
 ·rename_i T ps heq;exact acK heq h
 ·rename_i x T heq
  unfold aEj at h
  split at h<;>try (cases h;done)
  ·rename_i dM
   obtain⟨bE,tf⟩:=av dM
   split at h<;>try (cases h;done)
   rename_i hx
   cases h
   intro s' _ f hf K E hK
   simp only[execOp,heq,resolve,invoke,builtin,Builtin.len_,List.map_toArray,List.map_cons,List.map_nil,hf _ _ hx,ae,List.getElem?_toArray,List.getElem?_cons_zero,a8 tf,aa]
   exact hK
  rename_i dM
  obtain⟨bE,tf⟩:=av dM
  split at h<;>try (cases h;done)
  rename_i hx
  cases h
  intro s' _ f hf K E hK
  simp only[execOp,heq,resolve,invoke,builtin,Builtin.len_,List.map_toArray,List.map_cons,List.map_nil,hf _ _ hx,ae,List.getElem?_toArray,List.getElem?_cons_zero,a8 tf,aa]
  exact hK
 exact amH h
end val
def ldv(P:Program)(T:TypeId)(l:List Value)(off:Nat):Option Value:=
 match ba P T with
 |some ti=>bif ti.agg then (match sub l off ti.size with
  |some vs=>some (.agg ⟨vs⟩)
  |none=>none) else nth l off
 |none=>none
theorem agz{v:Value}{t:TypeId}(heq:o.op= .load T x)(hx:bp n e x=some (.pointer (some ⟨b,off,none⟩)))(hb:s.has b (.cells ⟨l⟩ t fz))(h:ldv P T l off=some v):Yields P n e o s v:=by
 unfold ldv at h
 split at h<;>try (cases h;done)
 rename_i ti dM
 obtain⟨bE,tf⟩:=av dM
 intro s' hs f hf K E hK
 cases ha:ti.agg with
 |true=>
  rw[ha] at h tf
  simp only[cond_true] at h
  split at h<;>try (cases h;done)
  rename_i vs EM
  cases h
  simp only[execOp,heq,Instr.loadAt,hf _ _ hx,Instr.sureAddr,loadVar,aa,ae,kF tf,if_true,cu tf]
  exact iP ⟨_,_,_,hs _ _ hb,EM⟩ hK
 |false=>
  rw[ha] at h tf
  simp only[cond_false] at h
  simp only[execOp,heq,Instr.loadAt,hf _ _ hx,Instr.sureAddr,loadVar,aa,ae,kF tf,Bool.false_eq_true,if_false]
  exact vK ⟨_,_,_,hs _ _ hb,h⟩ hK
theorem avs{v:Value}{m:Nat}(k:Nat)(heq:o.op= .load T x)(hx:bp n e x=some (.pointer (some ⟨b,off+k,none⟩)))(hb:cD s b off m l)(h:ldv P T l k=some v):Yields P n e o s v:=by
 unfold ldv at h
 split at h<;>try (cases h;done)
 rename_i ti dM
 obtain⟨bE,tf⟩:=av dM
 intro s' hs f hf K E hK
 cases ha:ti.agg with
 |true=>
  rw[ha] at h tf
  simp only[cond_true] at h
  split at h<;>try (cases h;done)
  rename_i vs EM
  cases h
  simp only[execOp,heq,Instr.loadAt,hf _ _ hx,Instr.sureAddr,loadVar,aa,ae,kF tf,if_true,cu tf]
  exact iP ((hb.ext hs).part k ti.size EM) hK
 |false=>
  rw[ha] at h tf
  simp only[cond_false] at h
  simp only[execOp,heq,Instr.loadAt,hf _ _ hx,Instr.sureAddr,loadVar,aa,ae,kF tf,Bool.false_eq_true,if_false]
  exact vK ((hb.ext hs).cell k v (by rw[←r5];exact h)) hK
structure Cx where
 P:Program
 C:Class
 hC:∀main T,C main T→Closed P main T
 hm:P.follows .mixedOrders=true
 fn:FuncId
 aA:Option Nat
 n:Nat
 D:List Deferred
 ro:Nat→Option Obj
 Q:Post
variable {X X1:Cx}
def Cx.at(X:Cx)(ro:Nat→Option Obj):Cx:={X with ro:=ro}
inductive KI where
 |seq (b:Code)
 |block (id:Nat)
 |next (K:Act→St→Prop)
inductive Sg where
 |b (i:Nat) (o:Obj)
 |l (L:Cells)
def den:List Sg→Cells
 | []=>[]
 | [.l L]=>L
 | .b i o::r=>(i,o)::den r
 | .l L::r=>L++den r
theorem iH(i:Nat)(o:Obj)(r:List Sg):den (.b i o::r)=(i,o)::den r:=by cases r<;>rfl
theorem gq(L:Cells)(r:List Sg):den (.l L::r)=L++den r:=by cases r<;>simp[den]
inductive Pos where
 |ops (ops:Array Oper) (todo:List Nat) (k:List KI)
 |code (c:Code) (k:List KI)
 |nxt (K:Act→St→Prop)
 |Ii (ops:Array Oper) (base:Env) (Pl Sl:List (Nat×Value)) (k:List KI)
 |fin (e:Exit)
structure Kn where
 c:Cells
 nd:List (Nat×Cells)
variable {kn:Kn}
structure JS where
 pos:Pos
 env:Env
 rw:List Sg
 kn:Kn
variable {s':JS}
def KQ(X:Cx):List KI→Post
 | []=>X.Q
 | .seq b::k=>lV (fun a s=>Wp X.C X.fn X.aA b (KQ X k) a s) (KQ X k)
 | .block id::k=>qJ id (KQ X k)
 | .next K::k=>lV K (KQ X k)
def DM:Op→Bool
 | .load .. =>false
 | .lookup .. =>false
 | .call ⟨.value _,_,_⟩=>false
 | .call ⟨.invoke ..,_,_⟩=>false
 |_=>true
def wF(ops:Array Oper)(n:Nat)(e:Env):Option (Nat×Bool)→Option Bool
 |none=>some true
 |some (j,want)=>match aQ ops j with
  |some d=>match bp n e (.tmp d) with
   |some (.bool true)=>some want
   |some (.bool false)=>some (!want)
   |some (.tuple ⟨[]⟩)=>some false
   |_=>none
  |none=>none
def sX(ops:Array Oper)(n:Nat)(base:Env)(Pl:List (Nat×Value))(j:Nat):Bool:=match ops[j]? with
 |some p=>DM p.op||(match wF ops n (cw ops base j Pl) p.guard with
  |some false=>true
  |_=>false)
 |none=>false
def PF(X:Cx)(nd:List (Nat×Cells))(ops:Array Oper)(base:Env)(Pl Sl:List (Nat×Value)):Prop:=
 (∀j u,(j,u)∈Sl→sX ops X.n base Pl j=true→∀s,eL X.C X.fn X.aA ops X.n X.D j u (cw ops base j Pl) s)∧
 ∀j u B,(j,u)∈Sl→(j,B)∈nd→∀s,Ext ⟨X.ro,[]⟩ s→(∀x∈B,s.has x.1 x.2)→eL X.C X.fn X.aA ops X.n X.D j u (cw ops base j Pl) s
def ndK:List (Nat×Cells)→List Nat
 | []=>[]
 | (i,_)::l=>i::ndK l
theorem Nt:∀ {l:List (Nat×Cells)},(i,B)∈l→i∈ndK l
 | (j,C)::l,h=>by
  simp only[ndK]
  rcases List.mem_cons.1 h with h|h
  ·cases h;exact List.mem_cons_self
  exact List.mem_cons_of_mem _ (Nt h)
def JP(X:Cx)(kn:Kn)(e:Env)(w:List Sg):Pos→Prop
 | .ops ops todo k=>ab X.C X.fn X.aA ops todo (KQ X k) (A X.n e X.D) ⟨X.ro,den w⟩
 | .code c k=>Wp X.C X.fn X.aA c (KQ X k) (A X.n e X.D) ⟨X.ro,den w⟩
 | .nxt K=>K (A X.n e X.D) ⟨X.ro,den w⟩
 | .Ii ops base Pl Sl k=>PF X kn.nd ops base Pl Sl→tG X.C X.fn X.aA ops X.n X.D base Pl Sl (KQ X k) ⟨X.ro,den w⟩
 | .fin e'=>X.Q e' (A X.n e X.D) ⟨X.ro,den w⟩
def J(X:Cx):Option JS→Prop
 |none=>False
 |some s=>Knows X.ro s.kn.c→JP X s.kn s.env s.rw s.pos
def Qz:List KI→Pos
 | []=> .fin .normal
 | .seq b::k=> .code b k
 | .block _::k=>Qz k
 | .next K::_=> .nxt K
theorem tV{w:List Sg}:∀ {k:List KI},JP X kn e w (Qz k)→KQ X k .normal (A X.n e X.D) ⟨X.ro,den w⟩
 | [],h=>h
 | .seq _::_,h=>h
 | .block _::k,h=>tV (k:=k) h
 | .next _::_,h=>h
def Bo(id:Nat):List KI→Option Pos
 | []=>some (.fin (.exit id))
 | .seq _::k=>Bo id k
 | .block i::k=>bif Nat.beq id i then some (Qz k) else Bo id k
 | .next _::k=>Bo id k
theorem wL{w:List Sg}{p:Pos}:∀ {k:List KI},Bo id k=some p→JP X kn e w p→KQ X k (.exit id) (A X.n e X.D) ⟨X.ro,den w⟩
 | [],h,hj=>by simp only[Bo,Option.some.injEq] at h;subst h;exact hj
 | .seq _::k,h,hj=>wL (k:=k) h hj
 | .next _::k,h,hj=>wL (k:=k) h hj
 | .block i::k,h,hj=>by
  simp only[Bo] at h
  cases hb:Nat.beq id i with
  |true=>
   rw[hb] at h;simp only[cond_true,Option.some.injEq] at h;subst h
   have:=Nat.eq_of_beq_eq_true hb;subst this
   exact Ef (tV hj)
  |false=>
   rw[hb] at h;simp only[cond_false] at h
   exact Ee hb (wL (k:=k) h hj)
theorem AG{a:Act}(h:X.Q .ret a s):∀(k:List KI),KQ X k .ret a s
 | []=>h
 | .seq _::k=>AG h k
 | .next _::k=>AG h k
 | .block _::k=>AG h k
def aB9:Op→Bool
 | .move _| .assign _| .pick .. | .makeFunc .. | .extract .. | .nilCheck _| .fieldAddr .. | .makeInterface .. | .indexAddr .. | .index .. | .field .. | .binOp .. | .unOp .. | .convert .. | .build .. | .load .. | .lookup .. | .slice .. =>true
 | .call ⟨.builtin .len,_,_⟩| .call ⟨.builtin .cap,_,_⟩| .call ⟨.builtin .min,_,_⟩| .call ⟨.builtin .max,_,_⟩=>true
 |_=>false
def aCa(ops:Array Oper)(i:Nat):Bool:=match ops[i]? with
 |some o=>aB9 o.op
 |none=>false
def enabled(ops:Array Oper)(ks:List Nat)(i:Nat):Bool:= !bk i ks&&fF (bu ops i) ks
def ZI(f:Nat→Bool):Nat→Nat→Option Nat
 |0,_=>none
 |k+1,i=>bif f i then some i else ZI f k (i+1)
def ay9(ops:Array Oper)(i:Nat):Bool:=match ops[i]? with
 |some ⟨_,.call ⟨.value _,_,_⟩,_,_,_,_⟩=>true
 |_=>false
def apy(ops:Array Oper)(ks:List Nat):Option Nat:=
 match ZI (fun i=>enabled ops ks i&&aCa ops i) ops.size 0 with
 |some i=>some i
 |none=>match ZI (fun i=>enabled ops ks i&&ay9 ops i) ops.size 0 with
  |some i=>some i
  |none=>ZI (enabled ops ks) ops.size 0
def qv(n:Nat):JS→Option (Bool×Oper×Env)
 | ⟨.ops ops (i::_) _,e,_,_⟩=>match ops[i]? with
  |some o=>match wF ops n e o.guard with
   |some g=>some (g,o,e)
   |none=>none
  |none=>none
 | ⟨.Ii ops base Pl _ _,_,_,_⟩=>match apy ops (ak Pl) with
  |some i=>match ops[i]? with
   |some o=>match wF ops n (cw ops base i Pl) o.guard with
    |some g=>some (g,o,cw ops base i Pl)
    |none=>none
   |none=>none
  |none=>none
 |_=>none
def GI(v:Value):JS→Option JS
 | ⟨.ops ops (i::todo) k,e,w,kn⟩=>match ops[i]? with
  |some o=>some ⟨.ops ops todo k,upd o.dst v e,w,kn⟩
  |none=>none
 | ⟨.Ii ops base Pl Sl k,e,w,kn⟩=>match apy ops (ak Pl) with
  |some i=>bif !bk i (ak Pl)&&(fF (bu ops i) (ak Pl)&&(oW ops (ak Pl)&&(fF (ak Sl) (ak Pl)&& !bk i (ndK kn.nd)))) then some ⟨.Ii ops base ((i,v)::Pl) ((i,v)::Sl) k,e,w,kn⟩ else none
  |none=>none
 |_=>none
theorem nM{ops:Array Oper}{g:Option (Nat×Bool)}(h:wF ops n e g=some true)(rest:Env):ay ops n (e++rest) g=true:=by
 unfold wF at h
 split at h
 ·rfl
 rename_i j want
 split at h<;>try (cases h;done)
 rename_i d hd
 have hd:(ops[j]?).bind (·.dst)=some d:=hd
 split at h<;>try (cases h;done)
 ·rename_i hb;simp only[Option.some.injEq] at h;subst h
  exact tL hd (aZ hb) rfl
 rename_i hb;simp only[Option.some.injEq,Bool.not_eq_true'] at h;subst h
 exact tL hd (aZ hb) rfl
section
variable {X:Cx}
theorem zm{ops:Array Oper}{Q:Post}(ho:ops[i]?=some o) (h:wF ops X.n e o.guard=some false) (rest:Env) (hk:ab X.C X.fn X.aA ops todo Q (A X.n (upd o.dst undef (e++rest)) X.D) s):ab X.C X.fn X.aA ops (i::todo) Q (A X.n (e++rest) X.D) s:=by
 unfold wF at h
 split at h
 ·cases h
 rename_i j want hg
 split at h<;>try (cases h;done)
 rename_i d hd
 have hd:(ops[j]?).bind (·.dst)=some d:=hd
 split at h<;>try (cases h;done)
 ·rename_i hb;simp only[Option.some.injEq] at h;subst h
  exact ud X.hC ho hg hd (aZ hb) rfl hk
 ·rename_i hb;simp only[Option.some.injEq,Bool.not_eq_false'] at h;subst h
  exact ud X.hC ho hg hd (aZ hb) rfl hk
 rename_i hb
 rcases o with ⟨dst,op,ty,pos,cY,g⟩
 dsimp only at hg;subst hg
 exact ani X.hC ho hd (aZ hb) hk
def IT(X:Cx)(e:Env)(o:Oper)(s:St)(v:Value):Prop:=
 ∀(ops:Array Oper) (i:Nat),ops[i]?=some o→∀rest,ay ops X.n (e++rest) o.guard=true→∀s',Ext s s'→∀todo Q,ab X.C X.fn X.aA ops todo Q (A X.n (upd o.dst v (e++rest)) X.D) s'→ab X.C X.fn X.aA ops (i::todo) Q (A X.n (e++rest) X.D) s'
theorem jyS{s:JS}{v:Value}(hh:qv X.n s=some (g,o,e))(hp:GI v s=some s')
 (hv:match g with|true=>(Knows X.ro s.kn.c→IT X e o ⟨X.ro,den s.rw⟩ v)∧(DM o.op=true→∀s,IT X e o s v)|false=>v=undef)(hj:J X (some s')):J X (some s):=by
 intro bY
 rcases s with ⟨p,e0,w,kn⟩
 cases p with
 |ops ops todo k=>
  cases todo with
  |nil=>cases hh
  |cons i todo=>
   simp only[qv] at hh
   split at hh<;>try (cases hh;done)
   rename_i o1 ho
   split at hh<;>try (cases hh;done)
   rename_i g1 hg
   cases hh
   simp only[GI,ho,Option.some.injEq] at hp;subst hp
   have hk:ab X.C X.fn X.aA ops todo (KQ X k) (A X.n (upd o.dst v e) X.D) ⟨X.ro,den w⟩:=hj bY
   show ab X.C X.fn X.aA ops (i::todo) (KQ X k) (A X.n e X.D) ⟨X.ro,den w⟩
   cases g with
   |true=>
    have:=hv.1 bY ops i ho [] (nM hg []) _ (Ext.refl _) todo (KQ X k)
    rw[List.append_nil] at this
    exact this hk
   |false=>
    dsimp only at hv;subst hv
    have:=zm (Q:=KQ X k) (s:=⟨X.ro,den w⟩) (todo:=todo) ho hg []
    rw[List.append_nil] at this
    exact this hk
 |Ii ops base Pl Sl k=>
  simp only[qv] at hh
  split at hh<;>try (cases hh;done)
  rename_i i hi
  split at hh<;>try (cases hh;done)
  rename_i o1 ho
  split at hh<;>try (cases hh;done)
  rename_i g1 hg
  cases hh
  simp only[GI,hi] at hp
  cases hc:(!bk i (ak Pl)&&(fF (bu ops i) (ak Pl)&&(oW ops (ak Pl)&&(fF (ak Sl) (ak Pl)&& !bk i (ndK kn.nd))))) with
  |false=>rw[hc] at hp;cases hp
  |true=>
   rw[hc] at hp;simp only[cond_true,Option.some.injEq] at hp;subst hp
   simp only[Bool.and_eq_true,Bool.not_eq_true'] at hc
   have ES:aQ ops i=o.dst:=by simp only[aQ,ho,Option.bind_some]
   intro hpf
   have qS:∀j,j∈ak Sl→i∉bu ops j:=fun j hj hd=>by
    have h1:=bL.1 hc.2.2.2.1 j hj
    have h2:=bL.1 (List.all_eq_true.1 hc.2.2.1 j h1) i hd
    rw[aJ.2 h2] at hc;exact absurd hc.1 (by simp)
   refine IP i hc.1 hc.2.1 hc.2.2.1 hc.2.2.2.1 ?_ (hj bY ⟨fun j u Ja hp s0=>?_,fun j u B Ja hB s0 EK ve=>?_⟩)
   ·intro s1 hx rest todo Q hk
    rw[ES] at hk
    cases g with
    |true=>exact hv.1 bY ops _ ho rest (nM hg rest) _ hx _ _ hk
    |false=>dsimp only at hv;subst hv;exact zm ho hg rest hk
   ·have hii:i∉bu ops i:=fun hd=>by
     have h2:=bL.1 hc.2.1 i hd
     rw[aJ.2 h2] at hc;exact absurd hc.1 (by simp)
    rcases List.mem_cons.1 Ja with h1|h1
    ·obtain⟨Aj,rfl⟩:=Prod.mk.inj h1
     subst Aj
     rw[cT hii]
     intro s1 hx rest todo Q hk
     rw[ES] at hk
     cases g with
     |true=>
      have hpk:DM o.op=true:=by
       simp only[sX,ho,cT hii,hg,Bool.or_false] at hp
       exact hp
      exact hv.2 hpk s0 ops _ ho rest (nM hg rest) _ hx _ _ hk
     |false=>dsimp only at hv;subst hv;exact zm ho hg rest hk
    have Pj:j∈ak Sl:=aO.2 ⟨u,h1⟩
    rw[cT (qS j Pj)]
    exact hpf.1 j u h1 (by simp only[sX,cT (qS j Pj)] at hp;exact hp) s0
   rcases List.mem_cons.1 Ja with h1|h1
   ·obtain⟨Aj,rfl⟩:=Prod.mk.inj h1
    subst Aj
    have:=Nt hB
    rw[aJ.2 this] at hc;exact absurd hc.2.2.2.2 (by simp)
   rw[cT (qS j (aO.2 ⟨u,h1⟩))]
   exact hpf.2 j u B h1 hB s0 EK ve
 |_=>cases hh
def am4(B:Cells)(v:Value):JS→Option JS
 | ⟨.ops ops (i::todo) k,e,w,kn⟩=>match ops[i]? with
  |some o=>some ⟨.ops ops todo k,upd o.dst v e,w,kn⟩
  |none=>none
 | ⟨.Ii ops base Pl Sl k,e,w,kn⟩=>match apy ops (ak Pl) with
  |some i=>bif !bk i (ak Pl)&&(fF (bu ops i) (ak Pl)&&(oW ops (ak Pl)&&(fF (ak Sl) (ak Pl)&& !bk i (ndK kn.nd)))) then some ⟨.Ii ops base ((i,v)::Pl) ((i,v)::Sl) k,e,w,⟨kn.c,(i,B)::kn.nd⟩⟩ else none
  |none=>none
 |_=>none
theorem jyN{s:JS}{v:Value}(hh:qv X.n s=some (true,o,e))(hp:am4 B v s=some s')(hB:∀x∈B,(⟨X.ro,den s.rw⟩:St).has x.1 x.2)(hnp:DM o.op=false)
 (hv:∀s0,Ext ⟨X.ro,[]⟩ s0→(∀x∈B,s0.has x.1 x.2)→IT X e o s0 v)(hj:J X (some s')):J X (some s):=by
 intro bY
 rcases s with ⟨p,e0,w,kn⟩
 cases p with
 |ops ops todo k=>
  have:GI v ⟨.ops ops todo k,e0,w,kn⟩=some s':=by
   cases todo with
   |nil=>cases hh
   |cons i todo=>exact hp
  exact jyS hh this ⟨fun _=>hv _ Og hB,fun h=>by rw[hnp] at h;cases h⟩ hj bY
 |Ii ops base Pl Sl k=>
  simp only[qv] at hh
  split at hh<;>try (cases hh;done)
  rename_i i hi
  split at hh<;>try (cases hh;done)
  rename_i o1 ho
  split at hh<;>try (cases hh;done)
  rename_i g1 hg
  cases hh
  simp only[am4,hi] at hp
  cases hc:(!bk i (ak Pl)&&(fF (bu ops i) (ak Pl)&&(oW ops (ak Pl)&&(fF (ak Sl) (ak Pl)&& !bk i (ndK kn.nd))))) with
  |false=>rw[hc] at hp;cases hp
  |true=>
   rw[hc] at hp;simp only[cond_true,Option.some.injEq] at hp;subst hp
   simp only[Bool.and_eq_true,Bool.not_eq_true'] at hc
   have ES:aQ ops i=o.dst:=by simp only[aQ,ho,Option.bind_some]
   intro hpf
   have qS:∀j,j∈ak Sl→i∉bu ops j:=fun j hj hd=>by
    have h1:=bL.1 hc.2.2.2.1 j hj
    have h2:=bL.1 (List.all_eq_true.1 hc.2.2.1 j h1) i hd
    rw[aJ.2 h2] at hc;exact absurd hc.1 (by simp)
   have hii:i∉bu ops i:=fun hd=>by
    have h2:=bL.1 hc.2.1 i hd
    rw[aJ.2 h2] at hc;exact absurd hc.1 (by simp)
   have bW:∀s0,Ext ⟨X.ro,[]⟩ s0→(∀x∈B,s0.has x.1 x.2)→eL X.C X.fn X.aA ops X.n X.D i v (cw ops base i Pl) s0:=by
    intro s0 EK ve s1 hx rest todo Q hk
    rw[ES] at hk
    exact hv s0 EK ve ops _ ho rest (nM hg rest) _ hx _ _ hk
   have aRq:sX ops X.n base ((i,v)::Pl) i=false:=by
    simp only[sX,ho,hnp,cT hii,hg,Bool.or_false]
   refine IP i hc.1 hc.2.1 hc.2.2.1 hc.2.2.2.1 (bW _ Og hB) (hj bY ⟨fun j u Ja hp s0=>?_,fun j u B' Ja hB' s0 EK ve=>?_⟩)
   ·rcases List.mem_cons.1 Ja with h1|h1
    ·obtain⟨Aj,rfl⟩:=Prod.mk.inj h1
     subst Aj
     rw[aRq] at hp;cases hp
    have Pj:j∈ak Sl:=aO.2 ⟨u,h1⟩
    rw[cT (qS j Pj)]
    exact hpf.1 j u h1 (by simp only[sX,cT (qS j Pj)] at hp;exact hp) s0
   rcases List.mem_cons.1 Ja with h1|h1
   ·obtain⟨Aj,rfl⟩:=Prod.mk.inj h1
    subst Aj
    rw[cT hii]
    rcases List.mem_cons.1 hB' with h2|h2
    ·cases h2;exact bW s0 EK ve
    have:=Nt h2
    rw[aJ.2 this] at hc;exact absurd hc.2.2.2.2 (by simp)
   have Pj:j∈ak Sl:=aO.2 ⟨u,h1⟩
   rw[cT (qS j Pj)]
   rcases List.mem_cons.1 hB' with h2|h2
   ·obtain⟨Aj,rfl⟩:=Prod.mk.inj h2
    subst Aj
    have h3:=bL.1 hc.2.2.2.1 _ Pj
    rw[aJ.2 h3] at hc;exact absurd hc.1 (by simp)
   exact hpf.2 j u B' h1 h2 s0 EK ve
 |_=>cases hh
theorem jy{s:JS}{v:Value}(hh:qv X.n s=some (g,o,e))(hp:GI v s=some s')
 (hv:match g with|true=>ez o.op=true∧(Knows X.ro s.kn.c→Yields X.P X.n e o ⟨X.ro,den s.rw⟩ v)∧(DM o.op=true→∀s,Yields X.P X.n e o s v)|false=>v=undef)(hj:J X (some s')):J X (some s):=by
 refine jyS hh hp ?_ hj
 cases g with
 |true=>exact⟨fun bY ops i ho rest hw s' hx todo Q hk=>lQ X.hC ho rest hw hv.1 (hv.2.1 bY) hx hk,fun hp s ops i ho rest hw s' hx todo Q hk=>lQ X.hC ho rest hw hv.1 (hv.2.2 hp s) hx hk⟩
 |false=>exact hv
end
def yT:List Sg→Nat→Option Sg
 | [],_=>none
 |x::_,0=>some x
 |_::l,i+1=>yT l i
def Ur:List Sg→Nat→Sg→List Sg
 | [],_,_=>[]
 |_::l,0,y=>y::l
 |x::l,i+1,y=>x::Ur l i y
def anp:Cells→Nat→Option (Nat×Obj)
 | [],_=>none
 |x::_,0=>some x
 |_::l,i+1=>anp l i
def Bz(w:List Sg)(kn:Cells)(h:Nat):Option (Nat×List Value):=
 match yT w h with
 |some (.b b (.cells ⟨l⟩ _ _))=>some (b,l)
 |some _=>none
 |none=>match anp kn (h-64) with
  |some (b,.cells ⟨l⟩ _ _)=>some (b,l)
  |_=>none
def aeC(P:Program)(n:Nat)(e:Env)(w:List Sg)(h:Nat):Op→Option (List Sg×Nat×Nat)
 | .store T x y=>match bp n e x with
  |some (.pointer (some ⟨b,off,none⟩))=>match bp n e y with
   |some v=>match yT w h with
    |some (.b b' (.cells ⟨c⟩ t (0,0)))=>match ba P T with
     |some ti=>bif Nat.beq (dR v).length ti.size&&(Nat.ble (off+(dR v).length) c.length&&(dR v).all single) then some (Ur w h (.b b' (.cells ⟨dD c off (dR v)⟩ t (0,0))),b,b') else none
     |none=>none
    |_=>none
   |none=>none
  |_=>none
 |_=>none
abbrev asJ:=Option (JS×List Nat×List (Nat×Nat))
def ay5(n:Nat)(e:Env)(k:List KI):Code→Option Pos
 | .skip=>some (Qz k)
 | .seq a b=>some (.code a (.seq b::k))
 | .block id c=>some (.code c (.block id::k))
 | .region _ ops d=>bif d then (bif zt ops then some (.Ii ops e [] [] k) else none) else some (.ops ops (List.range ops.size) k)
 | .exit id=>Bo id k
 | .ret=>some (.fin .ret)
 | .scope c=>some (.code c k)
 | .label _=>some (Qz k)
 | .cond c a b=>match bp n e c with
  |some (.bool true)=>some (.code a k)
  |some (.bool false)=>some (.code b k)
  |_=>none
 |_=>none
def aki(ops:Array Oper)(Pl:List (Nat×Value)):Bool:=fE ops&&(nodupB (ak Pl)&&(fF (List.range ops.size) (ak Pl)&&fF (ak Pl) (List.range ops.size)))
def opJ(P:Program)(n:Nat)(hs:List Nat)(s:JS):asJ:=
 match qv n s with
 |some (g,o,e)=>bif g then (match o.op with
  | .store .. =>match s,hs with
   | ⟨.ops ops (_::todo) k,_,w,kn⟩,h::hs=>match aeC P n e w h o.op with
    |some (w',b,b')=>some (⟨.ops ops todo k,upd o.dst undef e,w',kn⟩,hs,[(b,b')])
    |none=>none
   |_,_=>none
  | .load T x=>match hs with
   |h::hs=>match bp n e x with
    |some (.pointer (some ⟨b,off,none⟩))=>match Bz s.rw s.kn.c h with
     |some (b',l)=>match ldv P T l off with
      |some v=>match GI v s with
       |some s'=>some (s',hs,[(b',b)])
       |none=>none
      |none=>none
     |none=>none
    |_=>none
   | []=>none
  |_=>bif ez o.op then (match ad4 P n e o with
   |some v=>match GI v s with
    |some s'=>some (s',hs,[])
    |none=>none
   |none=>none) else none) else (match GI undef s with
  |some s'=>some (s',hs,[])
  |none=>none)
 |none=>none
def stepJ(P:Program)(n:Nat)(hs:List Nat)(s:JS):asJ:=
 match s.pos with
 | .ops _ [] k=>some (⟨Qz k,s.env,s.rw,s.kn⟩,hs,[])
 | .code c k=>match ay5 n s.env k c with
  |some p=>some (⟨p,s.env,s.rw,⟨s.kn.c,[]⟩⟩,hs,[])
  |none=>none
 | .Ii ops base Pl _ k=>match apy ops (ak Pl) with
  |none=>bif aki ops Pl then some (⟨Qz k,iZ ops base Pl,s.rw,s.kn⟩,hs,[]) else none
  |some _=>opJ P n hs s
 |_=>opJ P n hs s
section
variable {X:Cx}
theorem AF:∀ {w:List Sg} {h b:Nat} {o:Obj},yT w h=some (.b b o)→∃L R,den w=L++(b,o)::R∧∀o',den (Ur w h (.b b o'))=L++(b,o')::R
 | [],_,_,_,h=>by cases h
 |x::w,0,b,o,h=>by
  simp only[yT,Option.some.injEq] at h;subst h
  exact⟨[],den w,by simp[iH],fun o'=>by simp[Ur,iH]⟩
 |x::w,i+1,b,o,h=>by
  obtain⟨L,R,h1,h2⟩:=AF (w:=w) (h:=i) h
  cases x with
  |b i' o1=>exact⟨(i',o1)::L,R,by simp[iH,h1],fun o'=>by simp[Ur,iH,h2]⟩
  |l L1=>exact⟨L1++L,R,by simp[gq,h1],fun o'=>by simp[Ur,gq,h2]⟩
theorem Q3:∀ {l:Cells} {i:Nat} {x:Nat×Obj},anp l i=some x→x∈l
 | [],_,_,h=>by cases h
 |y::l,0,x,h=>by simp only[anp,Option.some.injEq] at h;subst h;exact List.mem_cons_self
 |y::l,i+1,x,h=>List.mem_cons_of_mem _ (Q3 (l:=l) h)
theorem zv{w:List Sg}{kn:Cells}{h:Nat}(hk:Knows X.ro kn)(hc:Bz w kn h=some (b,l)):∃t fz,(⟨X.ro,den w⟩:St).has b (.cells ⟨l⟩ t fz):=by
 unfold Bz at hc
 split at hc
 ·rename_i hn
  cases hc
  obtain⟨L,R,h1,_⟩:=AF hn
  exact⟨_,_,.inr (by show (_,_)∈den w;rw[h1];exact fp)⟩
 ·cases hc
 split at hc<;>try (cases hc;done)
 rename_i hn
 cases hc
 exact⟨_,_,.inl (hk _ (Q3 hn))⟩
theorem apA{w:List Sg}{k:List KI}{c:Code}{p:Pos}(h:ay5 X.n e k c=some p)(hj:JP X ⟨kn.c,[]⟩ e w p):JP X kn e w (.code c k):=by
 unfold ay5 at h
 split at h
 ·cases h;exact wp_skip X.hC (tV hj)
 ·cases h;exact wp_seq X.hC hj
 ·cases h;exact wp_block X.hC hj
 ·rename_i id ops d
  cases d with
  |true=>
   simp only[cond_true] at h
   cases hd:zt ops with
   |false=>rw[hd] at h;cases h
   |true=>
    rw[hd] at h;simp only[cond_true,Option.some.injEq] at h;subst h
    exact acV X.hC X.hm hd (hj ⟨fun _ _ h=>(List.not_mem_nil h).elim,fun _ _ _ h=>(List.not_mem_nil h).elim⟩)
  |false=>simp only[cond_false,Option.some.injEq] at h;subst h;exact wp_region X.hC hj
 ·exact wp_exit X.hC (wL h hj)
 ·cases h;exact wp_ret (AG hj k)
 ·cases h;exact PA X.hC hj
 ·cases h;exact wp_label X.hC (tV hj)
 ·split at h<;>try (cases h;done)
  ·rename_i hc;cases h;exact Xq X.hC hc rfl hj
  rename_i hc;cases h;exact Xr X.hC hc rfl hj
 cases h
theorem afH{s:JS}{q:List (Nat×Nat)}(h:opJ X.P X.n hs s=some (s',mT,q))(hq:∀p∈q,p.1=p.2)(hj:J X (some s')):J X (some s):=by
 unfold opJ at h
 split at h<;>try (cases h;done)
 rename_i g o e hh
 cases g with
 |false=>
  simp only[cond_false] at h
  split at h<;>try (cases h;done)
  rename_i s1 hp
  cases h
  exact jy hh hp rfl hj
 |true=>
  simp only[cond_true] at h
  split at h
  ·rename_i T x y az
   split at h<;>try (cases h;done)
   rename_i ops i todo k e1 w kn h0 hsx
   split at h<;>try (cases h;done)
   rename_i w' b b' bW
   cases h
   have LN:b=b':=hq _ List.mem_cons_self
   subst LN
   simp only[qv] at hh
   split at hh<;>try (cases hh;done)
   rename_i o1 ho
   split at hh<;>try (cases hh;done)
   rename_i g1 hg
   simp only[Option.some.injEq,Prod.mk.injEq] at hh
   obtain⟨rfl,rfl,rfl⟩:=hh
   intro bY
   have hj:=hj bY
   rw[az] at bW
   simp only[aeC] at bW
   split at bW<;>try (cases bW;done)
   rename_i b0 off hx
   split at bW<;>try (cases bW;done)
   rename_i v hy
   split at bW<;>try (cases bW;done)
   rename_i b1 c t hn
   split at bW<;>try (cases bW;done)
   rename_i ti dM
   cases hc:(Nat.beq (dR v).length ti.size&&(Nat.ble (off+(dR v).length) c.length&&(dR v).all single)) with
   |false=>rw[hc] at bW;cases bW
   |true=>
    rw[hc] at bW
    simp only[cond_true,Option.some.injEq,Prod.mk.injEq] at bW
    obtain⟨rfl,rfl,rfl⟩:=bW
    simp only[Bool.and_eq_true,Nat.ble_eq] at hc
    obtain⟨bE,tf⟩:=av dM
    obtain⟨L,R,h1,h2⟩:=AF hn
    rcases o1 with ⟨dst,op,ty,pos,cY,gd⟩
    dsimp only at az;subst az
    have hw:=nM hg []
    rw[List.append_nil] at hw
    refine Fi (v:=v) (l:=dR v) (L:=L) (R:=R) (c:=c) (e:=t) X.hC ho hw tf hx hy (by rw[mg]) (Nat.eq_of_beq_eq_true hc.1) (List.all_eq_true.1 hc.2.2) h1 hc.2.1 ?_
    have hj:ab X.C X.fn X.aA ops todo (KQ X k) _ ⟨X.ro,den _⟩:=hj
    rw[h2] at hj
    exact hj
  ·rename_i T x az
   split at h<;>try (cases h;done)
   rename_i h0 bZ
   split at h<;>try (cases h;done)
   rename_i b off hx
   split at h<;>try (cases h;done)
   rename_i b' l hc
   split at h<;>try (cases h;done)
   rename_i v hv
   split at h<;>try (cases h;done)
   rename_i s1 hp
   cases h
   have LN:b'=b:=hq _ List.mem_cons_self
   subst LN
   refine jy hh hp ⟨by rw[az];rfl,fun bY=>?_,fun hk=>by rw[az] at hk;cases hk⟩ hj
   obtain⟨t,fz,hb⟩:=zv bY hc
   exact agz az hx hb hv
  cases hn:ez o.op with
  |false=>rw[hn] at h;cases h
  |true=>
   rw[hn] at h;simp only[cond_true] at h
   split at h<;>try (cases h;done)
   rename_i v hv
   split at h<;>try (cases h;done)
   rename_i s1 hp
   cases h
   exact jy hh hp ⟨hn,fun _=>Ay hv,fun _ _=>Ay hv⟩ hj
theorem aeD{s:JS}{q:List (Nat×Nat)}(h:stepJ X.P X.n hs s=some (s',mT,q))(hq:∀p∈q,p.1=p.2)(hj:J X (some s')):J X (some s):=by
 unfold stepJ at h
 split at h
 ·rename_i ops k hp
  cases h
  rcases s with ⟨p,e,w,kn⟩
  dsimp only at hp;subst hp
  exact fun bY=>tY X.hC (tV (hj bY))
 ·rename_i c k hp
  rcases s with ⟨p,e,w,kn⟩
  dsimp only at hp;subst hp
  split at h<;>try (cases h;done)
  rename_i p hc
  cases h
  exact fun bY=>apA hc (hj bY)
 ·rename_i ops base Pl Sl k hp
  split at h
  ·cases hd:aki ops Pl with
   |false=>rw[hd] at h;cases h
   |true=>
    rw[hd] at h;simp only[cond_true,Option.some.injEq,Prod.mk.injEq] at h
    obtain⟨rfl,rfl,rfl⟩:=h
    rcases s with ⟨p,e,w,kn⟩
    dsimp only at hp;subst hp
    simp only[aki,Bool.and_eq_true] at hd
    exact fun bY _=>akT X.hC hd.1 hd.2.1 hd.2.2.1 hd.2.2.2 (tV (hj bY))
  exact afH h hq hj
 exact afH h hq hj
end
def ac1(P:Program)(n:Nat):Nat→List Nat→JS→List (Nat×Nat)→Option (JS×List (Nat×Nat))
 |0,_,s,q=>some (s,q)
 |k+1,hs,s,q=>match stepJ P n hs s with
  |some (s',mT,q')=>ac1 P n k mT s' (q'++q)
  |none=>none
def adv(P:Program)(n k:Nat)(hs:List Nat):Option JS→Option (JS×List (Nat×Nat))
 |some s=>ac1 P n k hs s []
 |none=>none
def res:Option (JS×List (Nat×Nat))→Option JS
 |some (s,_)=>some s
 |none=>none
def Wn:List (Nat×Nat)→List Nat
 | []=>[]
 | (a,_)::l=>a::Wn l
def Uo:List (Nat×Nat)→List Nat
 | []=>[]
 | (_,b)::l=>b::Uo l
def lhs:Option (JS×List (Nat×Nat))→List Nat
 |some (_,q)=>Wn q
 |none=>[0]
def rhs:Option (JS×List (Nat×Nat))→List Nat
 |some (_,q)=>Uo q
 |none=>[1]
theorem me:∀ {q:List (Nat×Nat)},Wn q=Uo q→∀p∈q,p.1=p.2
 | (a,b)::l,h,p,hp=>by
  simp only[Wn,Uo,List.cons.injEq] at h
  rcases List.mem_cons.1 hp with rfl|hp
  ·exact h.1
  exact me h.2 p hp
theorem aah:∀ {k:Nat} {hs:List Nat} {s s':JS} {q q':List (Nat×Nat)},ac1 X.P X.n k hs s q=some (s',q')→(∀p∈q',p.1=p.2)→(J X (some s')→J X (some s))∧∀p∈q,p∈q'
 |0,_,_,_,_,_,h,_=>by simp only[ac1,Option.some.injEq,Prod.mk.injEq] at h;obtain⟨rfl,rfl⟩:=h;exact⟨id,fun _ h=>h⟩
 |k+1,hs,s,s',q,q',h,hq=>by
  simp only[ac1] at h
  split at h<;>try (cases h;done)
  rename_i s1 bZ q1 bW
  obtain⟨h1,h2⟩:=aah h hq
  exact⟨fun hj=>aeD bW (fun p hp=>hq p (h2 p (List.mem_append_left _ hp))) (h1 hj),fun p hp=>h2 p (List.mem_append_right _ hp)⟩
theorem jd{o:Option JS}(k:Nat)(hs:List Nat)(h:J X (res (adv X.P X.n k hs o)))(he:lhs (adv X.P X.n k hs o)=rhs (adv X.P X.n k hs o):=by kernel_rfl):J X o:=by
 cases o with
 |none=>exact h
 |some s=>
  simp only[adv] at he h
  cases hc:ac1 X.P X.n k hs s [] with
  |none=>rw[hc] at h;exact h.elim
  |some x=>
   rcases x with ⟨s',q⟩
   rw[hc] at he h
   exact(aah hc (me he)).1 h
attribute [irreducible] adv res lhs rhs
def dC(n:Nat)(f:Oper→Env→Option β):Option JS→Option β
 |some s=>match qv n s with
  |some (true,p,e)=>f p e
  |_=>none
 |none=>none
def jR(v:Value):Option JS→Option JS
 |some s=>GI v s
 |none=>none
def QB:List Nat→List Sg→Option (List Sg)
 | [],_=>some []
 |i::is,w=>match yT w i with
  |some x=>match QB is w with
   |some r=>some (x::r)
   |none=>none
  |none=>none
def dE(is:List Nat):Nat→List Sg→List Sg
 |_,[]=>[]
 |k,x::w=>bif bk k is then dE is (k+1) w else x::dE is (k+1) w
def GV:List Nat→Bool
 | []=>true
 |i::is=> !bk i is&&GV is
def rh(is:List Nat):Option JS→Option (List Sg)
 |some s=>bif GV is then QB is s.rw else none
 |none=>none
def dN(is:List Nat)(o:Option JS):Option Cells:=match rh is o with
 |some w=>some (den w)
 |none=>none
def lkE:List Nat→Env→Option Env
 | [],_=>some []
 |t::ts,e=>match gL e t with
  |some v=>match lkE ts e with
   |some r=>some ((t,v)::r)
   |none=>none
  |none=>none
def ni:Env→List Nat
 | []=>[]
 | (t,_)::e=>t::ni e
def rq(ts:List Nat):Option JS→Option Env
 |some s=>lkE ts s.env
 |none=>none
theorem td{ts:List Nat}{s:JS}:rq ts (some s)=lkE ts s.env:=rfl
theorem kN:∀ {ts:List Nat} {r:Env},lkE ts e=some r→kV e r
 | [],r,h=>by simp only[lkE,Option.some.injEq] at h;subst h;trivial
 |t::ts,r,h=>by
  simp only[lkE] at h
  split at h<;>try (cases h;done)
  rename_i v hv
  split at h<;>try (cases h;done)
  rename_i r' hr
  cases h
  exact⟨hv,kN hr⟩
theorem lJ:∀(a b:List Sg),den (a++b)=den a++den b
 | [],b=>rfl
 | .b i o::a,b=>by simp[iH,lJ a b]
 | .l L::a,b=>by simp[gq,lJ a b]
theorem xJ:∀(w:List Sg) (k:Nat),dE [] k w=w
 | [],_=>rfl
 |x::w,k=>by simp[dE,bk,xJ w (k+1)]
theorem Ij:∀ {w:List Sg} {i k:Nat} {is:List Nat} {x:Sg},yT w i=some x→bk (k+i) is=false→(den (dE is k w)).Perm (den [x]++den (dE ((k+i)::is) k w))
 | [],_,_,_,_,h,_=>by cases h
 |y::w,0,k,is,x,h,hi=>by
  simp only[yT,Option.some.injEq] at h;subst h
  have hz:∀(w:List Sg) (j:Nat),k <j→dE (k::is) j w=dE is j w:=by
   intro w
   induction w with
   |nil=>intro j _;rfl
   |cons z w ih=>
    intro j hj
    have:Nat.beq j k=false:=beq_false (by omega)
    simp only[dE,bk,this,Bool.false_or,ih (j+1) (by omega)]
  simp only[Nat.add_zero] at hi ⊢
  simp only[dE,hi,cond_false,bk,Nat.beq_refl,Bool.true_or,cond_true,hz w (k+1) (by omega)]
  cases y with
  |b i o=>rw[iH];exact .refl _
  |l L=>rw[gq];exact .refl _
 |y::w,i+1,k,is,x,h,hi=>by
  have e:k+(i+1)=(k+1)+i:=by omega
  rw[e] at hi ⊢
  have hr:=Ij (w:=w) (k:=k+1) (is:=is) h hi
  have dI:Nat.beq k ((k+1)+i)=false:=beq_false (by omega)
  simp only[dE,bk,dI,Bool.false_or]
  cases bk k is with
  |true=>simp only[cond_true];exact hr
  |false=>
   simp only[cond_false]
   cases y with
   |b i' o=>rw[iH,iH];exact(hr.cons _).trans List.perm_middle.symm
   |l L=>
    rw[gq,gq]
    refine(hr.append_left L).trans ?_
    rw[←List.append_assoc,←List.append_assoc]
    exact List.Perm.append_right _ List.perm_append_comm
theorem xv{w:List Sg}:∀ {is:List Nat} {r:List Sg},QB is w=some r→GV is=true→(den w).Perm (den r++den (dE is 0 w))
 | [],r,h,_=>by simp only[QB,Option.some.injEq] at h;subst h;rw[xJ];exact .refl _
 |i::is,r,h,ho=>by
  simp only[QB] at h
  split at h<;>try (cases h;done)
  rename_i x hx
  split at h<;>try (cases h;done)
  rename_i r' hr
  cases h
  simp only[GV,Bool.and_eq_true,Bool.not_eq_true'] at ho
  have h1:=xv hr ho.2
  have h2:=Ij (k:=0) (is:=is) hx (by rw[Nat.zero_add];exact ho.1)
  rw[Nat.zero_add] at h2
  refine h1.trans ((List.Perm.append_left _ h2).trans ?_)
  have:den (x::r')=den [x]++den r':=by rw[←lJ];rfl
  rw[this,←List.append_assoc]
  exact List.Perm.append_right _ List.perm_append_comm
theorem lP{is:List Nat}{s:JS}{w:List Sg}(h:rh is (some s)=some w):(den s.rw).Perm (den w++den (dE is 0 s.rw)):=by
 simp only[rh] at h
 cases ho:GV is with
 |false=>rw[ho] at h;cases h
 |true=>rw[ho] at h;exact xv h ho
theorem bJ{is:List Nat}{s:JS}{L:Cells}(h:dN is (some s)=some L):(den s.rw).Perm (L++den (dE is 0 s.rw)):=by
 simp only[dN] at h
 split at h<;>try (cases h;done)
 rename_i w hw
 cases h
 exact lP hw
theorem SV{is:List Nat}{s:JS}{L:Cells}(h:dN is (some s)=some L):∀x∈L,(⟨X.ro,den s.rw⟩:St).has x.1 x.2:=fun x hx=> .inr ((bJ h).mem_iff.2 (List.mem_append_left _ hx))
section
variable {X:Cx} {o:Option JS}
theorem sM{f:Oper→Env→Option β}{r:β}(h:dC n f o=some r):∃s p e,o=some s∧qv n s=some (true,p,e)∧f p e=some r:=by
 unfold dC at h
 split at h<;>try (cases h;done)
 rename_i s
 split at h<;>try (cases h;done)
 rename_i p e hh
 exact⟨s,p,e,rfl,hh,h⟩
theorem jG{v:Value}{f:Oper→Env→Option β}{r:β}(h:dC X.n f o=some r)(hy:∀s p e,o=some s→qv X.n s=some (true,p,e)→f p e=some r→ez p.op=true∧(Knows X.ro s.kn.c→Yields X.P X.n e p ⟨X.ro,den s.rw⟩ v)∧(DM p.op=true→∀s,Yields X.P X.n e p s v))(hj:J X (jR v o)):J X o:=by
 obtain⟨s,p,e,rfl,hh,hf⟩:=sM h
 obtain⟨h1,h2,h3⟩:=hy s p e rfl hh hf
 simp only[jR] at hj
 cases hp:GI v s with
 |none=>rw[hp] at hj;exact hj.elim
 |some s'=>rw[hp] at hj;exact jy hh hp ⟨h1,h2,h3⟩ hj
theorem jGS{v:Value}{f:Oper→Env→Option β}{r:β}(h:dC X.n f o=some r)(hy:∀s p e,o=some s→f p e=some r→IT X e p ⟨X.ro,den s.rw⟩ v∧(DM p.op=true→∀s,IT X e p s v))(hj:J X (jR v o)):J X o:=by
 obtain⟨s,p,e,rfl,hh,hf⟩:=sM h
 simp only[jR] at hj
 cases hp:GI v s with
 |none=>rw[hp] at hj;exact hj.elim
 |some s'=>rw[hp] at hj;exact jyS hh hp ⟨fun _=>(hy s p e rfl hf).1,(hy s p e rfl hf).2⟩ hj
def Nf(B:Cells)(v:Value):Option JS→Option JS
 |some s=>am4 B v s
 |none=>none
theorem jGN{v:Value}{f:Oper→Env→Option β}{r:β}(h:dC X.n f o=some r)(hB:dN ps o=some B)(hy:∀s p e,o=some s→qv X.n s=some (true,p,e)→f p e=some r→DM p.op=false∧∀s0,Ext ⟨X.ro,[]⟩ s0→(∀x∈B,s0.has x.1 x.2)→IT X e p s0 v)(hj:J X (Nf B v o)):J X o:=by
 obtain⟨s,p,e,rfl,hh,hf⟩:=sM h
 obtain⟨h1,h2⟩:=hy s p e rfl hh hf
 simp only[Nf] at hj
 cases hp:am4 B v s with
 |none=>rw[hp] at hj;exact hj.elim
 |some s'=>rw[hp] at hj;exact jyN hh hp (SV hB) h1 h2 hj
theorem Ru{v:Value}{f:Oper→Env→Option β}{r:β}(h:dC X.n f o=some r)(hy:∀s p e,o=some s→f p e=some r→∀s0,IT X e p s0 v)(hj:J X (jR v o)):J X o:=
 jGS h (fun s p e ho hf=>⟨hy s p e ho hf _,fun _=>hy s p e ho hf⟩) hj
def atj(P:Program)(n:Nat)(p:Oper)(e:Env):Option Value:=bif ez p.op then ad4 P n e p else none
theorem je(v:Value){w:Value}(hw:w=v)(hj:J X (jR v o))(hv:dC X.n (atj X.P X.n) o=some w:=by kernel_rfl):J X o:=by
 subst hw
 refine jG hv (fun s p e _ _ hf=>?_) hj
 unfold atj at hf
 cases hn:ez p.op with
 |false=>rw[hn] at hf;cases hf
 |true=>rw[hn] at hf;exact⟨rfl,fun _=>Ay hf,fun _ _=>Ay hf⟩
theorem ja(r:Int)(h: -9223372036854775808≤r∧r≤9223372036854775807)(hj:J X (jR (.int .i64 r) o))(hv:dC X.n (atj X.P X.n) o=some (.int .i64 (IntKind.i64.wrap r)):=by kernel_rfl):J X o:=je _ (by rw[kD r h]) hj hv
def ldA(P:Program)(n k:Nat)(vs:List Value)(p:Oper)(e:Env):Option (Option Addr):=match p.op with
 | .load T x=>match ldv P T vs k with
  |some _=>match bp n e x with
   |some (.pointer a)=>some a
   |_=>none
  |none=>none
 |_=>none
def ldW(P:Program)(n k:Nat)(vs:List Value)(o:Option JS):Value:=(dC n (fun p _=>match p.op with
 | .load T _=>ldv P T vs k
 |_=>none) o).getD undef
theorem ki{m:Nat}(k:Nat)(ps:List Nat)(B:Cells)(hr:∀s:St,Ext ⟨X.ro,[]⟩ s→(∀x∈B,s.has x.1 x.2)→cD s b off m vs)(hj:J X (Nf B (ldW X.P X.n k vs o) o))(hv:dC X.n (ldA X.P X.n k vs) o=some (some ⟨b,off+k,none⟩):=by kernel_rfl)(hB:dN ps o=some B:=by kernel_rfl):J X o:=by
 refine jGN hv hB (fun s p e ho hh hf=>?_) hj
 subst ho
 unfold ldA at hf
 split at hf<;>try (cases hf;done)
 rename_i T x az
 split at hf<;>try (cases hf;done)
 rename_i v hv2
 split at hf<;>try (cases hf;done)
 rename_i a hx
 simp only[Option.some.injEq] at hf;subst hf
 have hw:ldW X.P X.n k vs (some s)=v:=by simp only[ldW,dC,hh,az,hv2,Option.getD_some]
 rw[hw]
 exact⟨by rw[az];rfl,fun s0 EK ve ops i ho rest hwt s' hs todo Q hk=>lQ X.hC ho rest hwt (by rw[az];rfl) (avs k az hx (hr s0 EK ve) hv2) hs hk⟩
theorem jl{m:Nat}(k:Nat)(hr:cD ⟨X.ro,[]⟩ b off m vs)(hj:J X (Nf [] (ldW X.P X.n k vs o) o))(hv:dC X.n (ldA X.P X.n k vs) o=some (some ⟨b,off+k,none⟩):=by kernel_rfl):J X o:=by
 have hB:dN [] o=some []:=by
  obtain⟨s,_,_,rfl,_⟩:=sM hv
  rfl
 exact ki k [] [] (fun s hs _=>hr.ext hs) hj hv hB
def ixA(P:Program)(n:Nat)(p:Oper)(e:Env):Option (Value×Int×Nat):=match p.op with
 | .indexAddr T x y=>match ba P T with
  |some ⟨.slice E,_,_,_⟩=>match ba P E with
   |some te=>match bp n e x with
    |some v=>match bp n e y with
     |some (.int _ ix)=>some (v,ix,te.size)
     |_=>none
    |none=>none
   |none=>none
  |_=>none
 |_=>none
theorem jix{a:Option Addr}{len:Nat}(ix:Int)(cap sz:Nat)(ha:a=some ⟨b,off,none⟩)(hi:0≤ix∧ix <len)(hj:J X (jR (.pointer (some ⟨b,off+ix.toNat*sz,none⟩)) o))(hv:dC X.n (ixA X.P X.n) o=some (.slice a len cap,ix,sz):=by kernel_rfl):J X o:=by
 refine jG hv (fun s p e ho hh hf=>?_) hj
 unfold ixA at hf
 split at hf<;>try (cases hf;done)
 rename_i T x y az
 split at hf<;>try (cases hf;done)
 rename_i E _ _ _ dM
 split at hf<;>try (cases hf;done)
 rename_i te uo
 split at hf<;>try (cases hf;done)
 rename_i v hx
 split at hf<;>try (cases hf;done)
 rename_i ik ix' hy
 simp only[Option.some.injEq,Prod.mk.injEq] at hf
 obtain⟨rfl,rfl,rfl⟩:=hf
 subst ha
 obtain⟨bE,tf⟩:=av dM
 obtain⟨Ap,p9⟩:=av uo
 have key:∀s,Yields X.P X.n e p s (.pointer (some ⟨b,off+ix'.toNat*te.size,none⟩)):=by
  intro s s' mT f hf K E hK
  simp only[execOp,az,Instr.indexAt,hf _ _ hx,hf _ _ hy,asIntOf,aa,ae,a8 tf,hi,and_self,if_true,cu p9,dK]
  exact hK
 exact⟨by rw[az];rfl,fun _=>key _,fun _=>key⟩
theorem gX{ps:List α}{x:α}{a:Option Addr}(cap sz:Nat)(ha:∀k,k <ps.length→a=some ⟨b,off,none⟩)(hx:ps[k]?=some x) (hj:J X (jR (.pointer (some ⟨b,off+k*sz,none⟩)) o)) (hv:dC X.n (ixA X.P X.n) o=some (.slice a ps.length cap,(k:Int),sz):=by kernel_rfl):J X o:=
 have hk:k <ps.length:=(List.getElem?_eq_some_iff.1 hx).1
 jix (k:Int) cap sz (ha k hk) (by omega) hj hv
theorem I4{ps:List α}{x:α}{a:Option Addr}(ix:Int)(cap sz:Nat)(ha:∀k,k <ps.length→a=some ⟨b,off,none⟩)(hx:ps[k]?=some x) (he:ix=(k:Int)) (hj:J X (jR (.pointer (some ⟨b,off+k*sz,none⟩)) o)) (hv:dC X.n (ixA X.P X.n) o=some (.slice a ps.length cap,ix,sz):=by kernel_rfl):J X o:=by
 subst he;exact gX cap sz ha hx hj hv
theorem Af{v:Value}{enc:α→List Value}{ps:List α}{L:Cells}{x:α}(sz:Nat)(kP:aw v szo T2 enc ps L)(hx:ps[k]?=some x) (hj:∀b,OS v b→J X (jR (.pointer (some ⟨b,k*sz,none⟩)) o)) (hv:dC X.n (ixA X.P X.n) o=some (v,(k:Int),sz):=by kernel_rfl):J X o:=by
 have hk:k <ps.length:=(List.getElem?_eq_some_iff.1 hx).1
 obtain⟨b,hb⟩:=aDG kP hk
 have fL:=hb
 obtain⟨n0,c,rfl⟩:=fL
 have hn:n0=ps.length:=by
  obtain⟨a,c',he⟩:=kP.form
  cases he;rfl
 subst hn
 have hj:=hj b hb
 exact jix (off:=0) (k:Int) c sz rfl (by omega) (by rw[Nat.zero_add];exact hj) hv
theorem mW{v:Value}{enc:α→List Value}{ps:List α}{L:Cells}{x:α}(ix:Int)(sz:Nat)(kP:aw v szo T2 enc ps L)(hx:ps[k]?=some x) (he:ix=(k:Int)) (hj:∀b,OS v b→J X (jR (.pointer (some ⟨b,k*sz,none⟩)) o)) (hv:dC X.n (ixA X.P X.n) o=some (v,ix,sz):=by kernel_rfl):J X o:=by
 subst he;exact Af sz kP hx hj hv
end
attribute [irreducible] dC jR Nf dN rh rq ldW
section
variable {X:Cx} {o:Option JS}
theorem OZ{D:List Deferred}{t:Nat}{v:Value}(h:gL e t=some v):A n ((t,v)::e) D=A n e D:=by
 simp only[A]
 congr 1
 congr 1
 funext i
 simp only[get]
 cases hb:Nat.beq t i with
 |false=>rfl
 |true=>
  have:=Nat.eq_of_beq_eq_true hb
  subst this
  exact(mL h).symm
def Qf(j:Nat)(v:Value):List (Nat×Value)→List (Nat×Value)
 | []=>[]
 | (i,w)::r=>bif Nat.beq i j then (i,v)::r else (i,w)::Qf j v r
theorem Gr{j:Nat}{v:Value}:∀ {l:List (Nat×Value)},QA l j=some v→Qf j v l=l
 | (i,w)::r,h=>by
  simp only[QA] at h
  simp only[Qf]
  cases hb:Nat.beq i j with
  |true=>rw[hb] at h;simp only[cond_true,Option.some.injEq] at h;subst h;rfl
  |false=>rw[hb] at h;simp only[cond_false] at h ⊢;rw[Gr h]
def aqN(t:Nat):JS→Option Value
 | ⟨.Ii _ _ Pl _ _,_,_,_⟩=>QA Pl t
 |s=>gL s.env t
def Ko(t:Nat):Option JS→Option Value
 |some s=>aqN t s
 |none=>none
def aaO(t:Nat)(v:Value):JS→JS
 | ⟨.Ii ops base Pl Sl k,e,w,kn⟩=>⟨.Ii ops base (Qf t v Pl) Sl k,e,w,kn⟩
 | ⟨p,e,w,kn⟩=>⟨p,(t,v)::e,w,kn⟩
def Qg(t:Nat)(v:Value):Option JS→Option JS
 |some s=>some (aaO t v s)
 |none=>none
theorem jw(t:Nat)(v:Value){w:Value}(hw:w=v)(hj:J X (Qg t v o))(hv:Ko t o=some w:=by kernel_rfl):J X o:=by
 subst hw
 cases o with
 |none=>exact hj
 |some s=>
  rcases s with ⟨p,e,Jq,kn⟩
  intro bY
  have hj:=hj
  cases p with
  |Ii ops base Pl Sl k=>
   simp only[Ko,aqN] at hv
   have:Qf t w Pl=Pl:=Gr hv
   simp only[Qg,aaO,this] at hj
   exact hj bY
  |ops a b c=>have:=hj bY;simp only[aaO,JP] at this;rw[OZ hv] at this;exact this
  |code a b=>have:=hj bY;simp only[aaO,JP] at this;rw[OZ hv] at this;exact this
  |nxt a=>have:=hj bY;simp only[aaO,JP] at this;rw[OZ hv] at this;exact this
  |fin a=>have:=hj bY;simp only[aaO,JP] at this;rw[OZ hv] at this;exact this
theorem ji(t:Nat){c b:Bool}(h:c=b)(hj:J X (Qg t (.bool b) o))(hv:Ko t o=some (.bool c):=by kernel_rfl):J X o:=jw t _ (by rw[h]) hj hv
theorem js(t:Nat)(c:Bool)(h1:c=true→J X (Qg t (.bool true) o))(h2:c=false→J X (Qg t (.bool false) o))(hv:Ko t o=some (.bool c):=by kernel_rfl):J X o:=by
 cases hc:c with
 |true=>exact ji t hc (h1 hc) hv
 |false=>exact ji t hc (h2 hc) hv
def aD3(P:Program)(n:Nat)(p:Oper)(e:Env):Option (Obj×Option Nat):=match p.op with
 | .alloc T=>match ba P T with
  |some ti=>some (.cells ⟨ti.zero⟩ T (0,0),none)
  |none=>none
 | .box T x=>match bp n e x with
  |some v=>some (.cells ⟨dR v⟩ T (0,0),none)
  |none=>none
 | .buildSlice T m ps=>match ba P T with
  |some ⟨.slice E,_,_,_⟩=>match ba P E with
   |some te=>match Pm n e ps.toList with
    |some pv=>match oI (fun i=>some (i*te.size,te.size)) (cX te.zero m) (tW pv) with
     |some l=>bif Nat.beq te.zero.length te.size&&Nat.ble (m*te.size) 16777216 then some (.cells ⟨l⟩ E (0,0),some m) else none
     |none=>none
    |none=>none
   |none=>none
  |_=>none
 | .range T x=>match ba P T with
  |some ⟨.string,_,_,_⟩=>match bp n e x with
   |some (.string b)=>some (.stringIter b 0,none)
   |_=>none
  |_=>none
 |_=>none
def af4(b:Nat):Option Nat→Value
 |some m=> .slice (some ⟨b,0,none⟩) m m
 |none=> .pointer (some ⟨b,0,none⟩)
def au6(P:Program)(n b:Nat):Option JS→Option JS
 |some ⟨.ops ops (i::todo) k,e,w,kn⟩=>match qv n ⟨.ops ops (i::todo) k,e,w,kn⟩ with
  |some (true,p,_)=>match aD3 P n p e with
   |some (ob,m)=>some ⟨.ops ops todo k,upd p.dst (af4 b m) e,.b b ob::w,kn⟩
   |none=>none
  |_=>none
 |_=>none
theorem Se{ops:Array Oper}{k:List KI}{e':Env}{w:List Sg}(h:qv n ⟨.ops ops (i::todo) k,e,w,kn⟩=some (g,p,e')):ops[i]?=some p∧e'=e∧(g=true→ay ops n e p.guard=true):=by
 simp only[qv] at h
 split at h<;>try (cases h;done)
 rename_i p1 ho
 split at h<;>try (cases h;done)
 rename_i g1 hg
 cases h
 refine⟨ho,rfl,fun hg'=>?_⟩
 subst hg'
 have:=nM hg []
 rwa[List.append_nil] at this
theorem jn(hj:∀b,J X (au6 X.P X.n b o)):J X o:=by
 unfold au6 at hj
 split at hj
 ·rename_i ops i todo k e w kn
  split at hj
  ·rename_i p e' hh
   obtain⟨ho,rfl,hw⟩:=Se hh
   have hw:=hw rfl
   intro bY
   rcases p with ⟨dst,op,ty,pos,cY,g⟩
   split at hj
   ·rename_i ob m hn
    have key:∀b,ab X.C X.fn X.aA ops todo (KQ X k) (A X.n (upd dst (af4 b m) e') X.D) ⟨X.ro,(b,ob)::den w⟩:=fun b=>by
     have:=hj b bY
     simp only[JP,iH] at this
     exact this
    unfold aD3 at hn
    split at hn
    ·rename_i T az
     dsimp only at az;subst az
     split at hn<;>try (cases hn;done)
     rename_i ti dM
     cases hn
     obtain⟨bE,tf⟩:=av dM
     exact ano X.hC ho hw tf fun b _=>key b
    ·rename_i T x az
     dsimp only at az;subst az
     split at hn<;>try (cases hn;done)
     rename_i v hx
     cases hn
     exact aDV X.hC ho hw hx (by rw[mg]) fun b _=>key b
    ·rename_i T m0 ps az
     dsimp only at az;subst az
     split at hn<;>try (cases hn;done)
     rename_i E _ _ _ dM
     split at hn<;>try (cases hn;done)
     rename_i te uo
     split at hn<;>try (cases hn;done)
     rename_i pv JM
     split at hn<;>try (cases hn;done)
     rename_i l hl
     cases hc:(Nat.beq te.zero.length te.size&&Nat.ble (m0*te.size) 16777216) with
     |false=>rw[hc] at hn;cases hn
     |true=>
      rw[hc] at hn;simp only[cond_true,Option.some.injEq,Prod.mk.injEq] at hn
      obtain⟨rfl,rfl⟩:=hn
      simp only[Bool.and_eq_true] at hc
      obtain⟨bE,tf⟩:=av dM
      obtain⟨Ap,p9⟩:=av uo
      exact Np X.hC ho hw tf p9 hc.1 JM hc.2 hl fun b _=>key b
    ·rename_i T x az
     dsimp only at az;subst az
     split at hn<;>try (cases hn;done)
     rename_i dM
     split at hn<;>try (cases hn;done)
     rename_i bs hx
     cases hn
     obtain⟨bE,tf⟩:=av dM
     exact UW X.hC ho hw tf hx fun b _=>key b
    cases hn
   exact(hj 0).elim
  exact(hj 0).elim
 exact(hj 0).elim
def akH(n:Nat)(p:Oper)(e:Env):Option (FuncId×List Value):=match p.op with
 | .call ⟨.value x,xs,_⟩=>match bp n e x with
  |some (.func (.func f) ⟨fi⟩ ⟨ca⟩)=>match x6 n e xs.toList with
   |some vs=>some (f,fi++vs++ca)
   |none=>none
  |_=>none
 |_=>none
def yw(P:Program)(n:Nat)(p:Oper)(e:Env):Option (FuncId×List Value):=match akH n p e with
 |some (f,vs)=>bif BU P f then some (f,vs) else none
 |none=>none
theorem qI(h:yw P n p e=some (f,vs)):FF P f∧∃x xs at_ fi ca ws,p.op= .call ⟨.value x,xs,at_⟩∧bp n e x=some (.func (.func f) ⟨fi⟩ ⟨ca⟩)∧vx n e xs=some ws∧vs=fi++ws++ca:=by
 unfold yw at h
 split at h<;>try (cases h;done)
 rename_i f' og hc
 cases hb:BU P f' with
 |false=>rw[hb] at h;cases h
 |true=>
  rw[hb] at h;simp only[cond_true,Option.some.injEq,Prod.mk.injEq] at h
  obtain⟨rfl,rfl⟩:=h
  refine⟨ld hb,?_⟩
  unfold akH at hc
  split at hc<;>try (cases hc;done)
  rename_i x xs at_ az
  split at hc<;>try (cases hc;done)
  rename_i f fi ca hx
  split at hc<;>try (cases hc;done)
  rename_i ws si
  cases hc
  exact⟨x,xs,at_,fi,ca,ws,az,hx,si,rfl⟩
theorem Tj(a b c:List Value):(⟨a⟩:Array Value)++⟨b⟩++⟨c⟩=⟨a++b++c⟩:=by simp
def mZ(ps:List Nat)(v:Value)(Y:Cells):Option JS→Option JS
 |some ⟨.ops ops (i::todo) k,e,w,kn⟩=>match ops[i]? with
  |some p=>some ⟨.ops ops todo k,upd p.dst v e,.l Y::dE ps 0 w,kn⟩
  |none=>none
 |_=>none
def eT(n:Nat)(f:Oper→Env→Option β):Option JS→Option β
 |some ⟨.ops a b c,e,w,kn⟩=>dC n f (some ⟨.ops a b c,e,w,kn⟩)
 |_=>none
theorem dB{f:Oper→Env→Option β}{r:β}(h:eT n f o=some r):∃ops i todo k e w kn p,o=some ⟨.ops ops (i::todo) k,e,w,kn⟩∧ops[i]?=some p∧ay ops n e p.guard=true∧f p e=some r:=by
 unfold eT at h
 split at h<;>try (cases h;done)
 rename_i ops todo k e w kn
 obtain⟨s,p,e',hs,hh,hf⟩:=sM h
 cases hs
 cases todo with
 |nil=>cases hh
 |cons i todo=>
  obtain⟨ho,rfl,hw⟩:=Se hh
  exact⟨ops,i,todo,k,e',w,kn,p,rfl,ho,hw rfl,hf⟩
def ari(ps lp:List Nat):Option JS→Option Cells
 |some s=>dN lp (some {s with rw:=dE ps 0 s.rw})
 |none=>none
theorem od{ops:Array Oper}{k:List KI}{w:List Sg}{v:Value}(ho:ops[i]?=some p):mZ ps v Y (some ⟨.ops ops (i::todo) k,e,w,kn⟩)=some ⟨.ops ops todo k,upd p.dst v e,.l Y::dE ps 0 w,kn⟩:=by
 simp only[mZ,ho]
theorem jcL{own:Cells}(ps lp:List Nat)(B:Cells)(hf:∀aG,Sub X.ro aG→Knows aG B→dG X.P f vs aG own Φ)(hj:∀v Y,Φ v Y→J X (mZ ps v Y o))(h1:eT X.n (yw X.P X.n) o=some (f,vs):=by kernel_rfl)(h2:dN ps o=some own:=by kernel_rfl)(h3:ari ps lp o=some B:=by kernel_rfl):J X o:=by
 obtain⟨ops,i,todo,k,e,w,kn,p,rfl,ho,hw,hc⟩:=dB h1
 obtain⟨ff,x,xs,at_,fi,ca,ws,az,hx,si,rfl⟩:=qI hc
 intro bY
 rcases p with ⟨dst,op,ty,pos,cY,g⟩
 dsimp only at az;subst az
 have hp:=bJ h2
 refine afW (own:=own) (B:=B) (Φ:=Φ) X.hC ho hw hx ff si (Tj fi ws ca) hp (fun y hy=>(bJ h3).mem_iff.2 (List.mem_append_left _ hy)) (fun aG hs hB=>hf aG hs hB) (fun v Y pG=>?_)
 have:=hj v Y pG
 simp only[mZ,ho] at this
 have:=this bY
 simp only[JP,gq] at this
 exact this
theorem jc{own:Cells}(ps:List Nat)(hf:dG X.P f vs X.ro own Φ)(hj:∀v Y,Φ v Y→J X (mZ ps v Y o))(h1:eT X.n (yw X.P X.n) o=some (f,vs):=by kernel_rfl)(h2:dN ps o=some own:=by kernel_rfl):J X o:=by
 obtain⟨ops,i,todo,k,e,w,kn,p,rfl,ho,hw,hc⟩:=dB h1
 obtain⟨ff,x,xs,at_,fi,ca,ws,az,hx,si,rfl⟩:=qI hc
 intro bY
 rcases p with ⟨dst,op,ty,pos,cY,g⟩
 dsimp only at az;subst az
 have hp:=bJ h2
 refine uf (fi:=⟨fi⟩) (ca:=⟨ca⟩) (ws:=fi++ws++ca) X.hC ho hw hx ff si (Tj fi ws ca) (Fn.weaken X.hC (dG.aBB (s:=⟨X.ro,den w⟩) hp hf)) (fun v' s' hr=>?_) (fun ch s' hr=>by obtain⟨_,_,e,_⟩:=hr;cases e) (fun s' hr=>by obtain⟨_,_,e,_⟩:=hr;cases e)
 obtain⟨v,Y,hv,pG,hle⟩:=hr
 cases hv
 have:=hj _ Y pG
 simp only[mZ,ho] at this
 have:=this bY
 simp only[JP,gq] at this
 exact this.more X.hC hle
theorem jp{V:Value}(lp:List Nat)(B:Cells)(hf:∀aG,Sub X.ro aG→Knows aG B→du X.P f vs aG V)(hj:J X (Nf B V o))(h1:dC X.n (yw X.P X.n) o=some (f,vs):=by kernel_rfl)(h3:dN lp o=some B:=by kernel_rfl):J X o:=by
 refine jGN h1 h3 (fun s p e ho hh hc=>?_) hj
 obtain⟨ff,x,xs,at_,fi,ca,ws,az,hx,si,rfl⟩:=qI hc
 rcases p with ⟨dst,op,ty,pos,cY,g⟩
 dsimp only at az;subst az
 refine⟨rfl,fun s0 EK ve ops i sr rest hw s' hs todo Q hk=>?_⟩
 have hez:Ext ⟨X.ro,B⟩ s':=fun b ob hb=>hs _ _ (hb.elim (fun h=>EK _ _ (.inl h)) fun h=>ve (b,ob) h)
 exact Q0 X.hC sr hw (aZ hx) ff (xH si) (Tj fi ws ca) hez (fun aG h1=>hf aG (Gl h1) fun y hy=>h1 _ _ (.inr hy)) hk
end
attribute [irreducible] eT Qg Ko au6 mZ ari
def qD(P:Program)(f:FuncId):Func:=match P.funcs[f]? with
 |some fn=>fn
 |none=>default
abbrev RX(ro:Nat→Option Obj)(Φ:Value→Cells→Prop):Ending→St→Prop:=fun en s'=>∃v X,en= .returned v∧s'=⟨ro,X⟩∧Φ v X
def X0(P:Program)(hm:P.follows .mixedOrders=true)(f:FuncId)(ro:Nat→Option Obj)(R:Ending→St→Prop):Cx:=⟨P,CP P,eP,hm,f,none,(qD P f).ntmps,[],ro,rG P (qD P f) R⟩
def jD(P:Program)(f:FuncId)(args:List Value)(own:List Sg)(kn:Cells):Option JS:=match P.funcs[f]? with
 |some fn=>match fn.body with
  |some c=>bif Nat.ble args.length fn.ntmps then some ⟨.code c [],fM 0 args,own,⟨kn,[]⟩⟩ else none
  |none=>none
 |none=>none
theorem aED{hm:P.follows .mixedOrders=true}(own:List Sg)(kn:Cells)(hk:Knows ro kn)(h:J (X0 P hm f ro R) (jD P f args own kn)):Fn (CP P) P f ⟨args⟩ ⟨ro,den own⟩ R:=by
 unfold jD at h
 split at h<;>try exact h.elim
 rename_i fn hf
 split at h<;>try exact h.elim
 rename_i c hc
 cases hl:Nat.ble args.length fn.ntmps with
 |false=>rw[hl] at h;exact h.elim
 |true=>
  rw[hl] at h
  have uR:qD P f=fn:=by simp only[qD,hf]
  have:=h hk
  simp only[JP,X0,KQ,uR] at this
  exact SE eP hf hc rfl hl this
theorem bA(hm:P.follows .mixedOrders=true){L:Cells}(own:List Sg)(kn:Cells)(hk:Knows ro kn)(h:J (X0 P hm f ro (RX ro Φ)) (jD P f args own kn))(hL:den own=L:=by rfl):dG P f args ro L Φ:=by
 subst hL;exact aED own kn hk h
def Cb(P:Program)(n:Nat)(e:Env)(w:List Sg)(kn:Cells):List Nat→List ResultVar→Option (List Value×List (Nat×Nat))
 |_,[]=>some ([],[])
 |hs,.tmp t::rs=>match bp n e (.tmp t) with
  |some v=>match Cb P n e w kn hs rs with
   |some (vs,q)=>some (v::vs,q)
   |none=>none
  |none=>none
 |h::hs,.cell t T::rs=>match bp n e (.tmp t) with
  |some (.pointer (some ⟨b,off,none⟩))=>match Bz w kn h with
   |some (b',l)=>match ldv P T l off with
    |some v=>match Cb P n e w kn hs rs with
     |some (vs,q)=>some (v::vs,(b',b)::q)
     |none=>none
    |none=>none
   |none=>none
  |_=>none
 | [],.cell _ _::_=>none
def iv(P:Program)(n:Nat)(f:FuncId)(hs:List Nat):Option JS→Option (Value×List (Nat×Nat))
 |some ⟨.fin _,e,w,kn⟩=>match Cb P n e w kn.c hs (qD P f).results.toList with
  |some (vs,q)=>some (uO vs,q)
  |none=>none
 |_=>none
def qZ:Option (Value×List (Nat×Nat))→Option Value
 |some (v,_)=>some v
 |none=>none
def Po:Option (Value×List (Nat×Nat))→List Nat
 |some (_,q)=>Wn q
 |none=>[0]
def Pn:Option (Value×List (Nat×Nat))→List Nat
 |some (_,q)=>Uo q
 |none=>[1]
theorem tR{w:List Sg}{kn:Cells}(bY:Knows X.ro kn):∀ {hs:List Nat} {rs:List ResultVar} {vs:List Value} {q:List (Nat×Nat)},Cb X.P X.n e w kn hs rs=some (vs,q)→(∀p∈q,p.1=p.2)→E6 X.P ⟨X.ro,den w⟩ X.n e rs vs
 |_,[],vs,q,h,_=>by simp only[Cb,Option.some.injEq,Prod.mk.injEq] at h;obtain⟨rfl,rfl⟩:=h;exact .nil
 |hs,.tmp t::rs,vs,q,h,hq=>by
  simp only[Cb] at h
  split at h<;>try (cases h;done)
  rename_i v hv
  split at h<;>try (cases h;done)
  rename_i og q' hr
  simp only[Option.some.injEq,Prod.mk.injEq] at h;obtain⟨rfl,rfl⟩:=h
  exact .tmp hv (tR bY hr hq)
 | [],.cell _ _::_,vs,q,h,_=>by simp only[Cb] at h;cases h
 |h0::hs,.cell t T::rs,vs,q,h,hq=>by
  simp only[Cb] at h
  split at h<;>try (cases h;done)
  rename_i b off hv
  split at h<;>try (cases h;done)
  rename_i b' l hc
  split at h<;>try (cases h;done)
  rename_i v hld
  split at h<;>try (cases h;done)
  rename_i og q' hr
  simp only[Option.some.injEq,Prod.mk.injEq] at h;obtain⟨rfl,rfl⟩:=h
  have hb:b'=b:=hq _ List.mem_cons_self
  subst hb
  obtain⟨t',fz,hh⟩:=zv (X:=X) bY hc
  have ih:=tR bY hr fun p hp=>hq p (List.mem_cons_of_mem _ hp)
  unfold ldv at hld
  split at hld<;>try (cases hld;done)
  rename_i ti dM
  obtain⟨bE,tf⟩:=av dM
  cases ha:ti.agg with
  |true=>
   rw[ha] at hld tf;simp only[cond_true] at hld
   split at hld<;>try (cases hld;done)
   rename_i vs2 EM
   cases hld
   exact .agg tf hv ⟨_,_,_,hh,EM⟩ ih
  |false=>
   rw[ha] at hld tf;simp only[cond_false] at hld
   exact .cell tf hv ⟨_,_,_,hh,hld⟩ ih
def zn:Option JS→Bool
 |some ⟨.fin .ret,_,_,_⟩=>true
 |some ⟨.fin .normal,_,_,_⟩=>true
 |_=>false
theorem tz{o:Option JS}(h:zn o=true):∃ex e w kn,o=some ⟨.fin ex,e,w,kn⟩∧(ex= .ret∨ex= .normal):=by
 unfold zn at h
 split at h
 ·exact⟨_,_,_,_,rfl,.inl rfl⟩
 ·exact⟨_,_,_,_,rfl,.inr rfl⟩
 cases h
def agw:Option JS→Bool
 |some ⟨.ops ..,_,_,_⟩=>true
 |some ⟨.code ..,_,_,_⟩=>true
 |_=>false
structure QR(X:Cx)(R:Ending→St→Prop):Prop where
 q:X.Q=rG X.P (qD X.P X.fn) R
 d:X.D=[]
theorem q0{hm:P.follows .mixedOrders=true}:QR (X0 P hm f ro R) R:=⟨rfl,rfl⟩
theorem QR.a(h:QR X R):QR (X.at ro) R:=⟨h.q,h.d⟩
theorem aW:Knows ro []:=fun _ h=>by cases h
section
variable {X:Cx} {o:Option JS}
theorem aK{pE:Nat→Option Obj}(hq:QR X R)(v:Value)(hs ps:List Nat)(Y:Cells)(fA:Sub pE X.ro)(hR:R (.returned v) ⟨pE,Y⟩)(h1:qZ (iv X.P X.n X.fn hs o)=some v:=by kernel_rfl)(h2:Po (iv X.P X.n X.fn hs o)=Pn (iv X.P X.n X.fn hs o):=by kernel_rfl)(h3:dN ps o=some Y:=by kernel_rfl)(h4:zn o=true:=by kernel_rfl):J X o:=by
 obtain⟨ex,e,w,kn,rfl,hex⟩:=tz h4
 simp only[iv] at h1 h2
 cases hr:Cb X.P X.n e w kn.c hs (qD X.P X.fn).results.toList with
 |none=>rw[hr] at h1;cases h1
 |some x=>
  rcases x with ⟨vs,q⟩
  simp only[hr,qZ,Option.some.injEq,Po,Pn] at h1 h2
  intro bY
  have sq:=tR bY hr (me h2)
  have hp:=bJ h3
  show X.Q ex (A X.n e X.D) ⟨X.ro,den w⟩
  rw[hq.q,hq.d]
  exact Qk (s0:=⟨pE,Y⟩) hex sq h1 (dL hp fA) hR
def xd(X:Cx)(K:Act→St→Prop)(ef:ι→Env)(wf:ι→List Sg)(Inv:ι→Prop)(μ:ι→Nat)(m:Nat):Prop:=
 ∀j,Inv j→μ j <m→∀(e:Env) (s:St),kV e (ef j)→(⟨X.ro,den (wf j)⟩:St).le s→K (A X.n e X.D) s
def yc:List Nat→List (Act→St→Prop)→Code→List KI→Option (Code×List KI)
 | [],_,c,k=>some (c,k)
 |0::p,Ks,.seq a b,k=>yc p Ks a (.seq b::k)
 |1::p,Ks,.seq _ b,k=>yc p Ks b k
 |2::p,K::Ks,.seq a _,k=>yc p Ks a (.next K::k)
 |_::p,Ks,.block id c,k=>yc p Ks c (.block id::k)
 |_::p,Ks,.scope c,k=>yc p Ks c k
 |0::p,Ks,.cond _ a _,k=>yc p Ks a k
 |_::p,Ks,.cond _ _ b,k=>yc p Ks b k
 |_::p,K::Ks,.loop c,k=>yc p Ks c (.next K::k)
 |_::p,Ks,.rangeFunc _ _ _ b,_=>yc p Ks b []
 |_,_,_,_=>none
def J8(P:Program)(f:FuncId)(p:List Nat)(Ks:List (Act→St→Prop)):Option (Code×List KI):=match (qD P f).body with
 |some c=>yc p Ks c []
 |none=>none
def stC(e:Env)(w:List Sg):Option (Code×List KI)→Option JS
 |some (c,k)=>some ⟨.code c k,e,w,⟨[],[]⟩⟩
 |none=>none
def stW(P:Program)(f:FuncId)(p:List Nat)(Ks:List (Act→St→Prop))(e:Env)(w:List Sg):Option JS:=stC e w (J8 P f p Ks)
def yp:Option JS→Option (Code×List KI)
 |some ⟨.code c k,_,_,_⟩=>some (c,k)
 |_=>none
def lpB(K:Act→St→Prop):Option (Code×List KI)→Option (Code×List KI)
 |some (.loop c,k)=>some (c,.next K::k)
 |_=>none
theorem dw(p:List Nat)(Ks:List (Act→St→Prop))(ef:ι→Env)(wf:ι→List Sg)(Inv:ι→Prop)(μ:ι→Nat)(i0:ι)(h0:Inv i0)(ps:List Nat)(hb:∀i,Inv i→∀K,xd X K ef wf Inv μ (μ i)→∀rest,J X (stW X.P X.fn p (Ks++[K]) (ef i++rest) (wf i)))
 (h1:rq (ni (ef i0)) o=some (ef i0):=by kernel_rfl)(hd:∀i,lkE (ni (ef i)) (ef i)=some (ef i):=by intro _;kernel_rfl)(h2:rh ps o=some (wf i0):=by kernel_rfl)(hp:∀K,J8 X.P X.fn p (Ks++[K])=lpB K (yp o):=by intro _;kernel_rfl):J X o:=by
 have hT:∀i,xd X (fun _ _=>True) ef wf Inv μ (μ i):=fun _ _ _ _ _ _ _ _=>trivial
 have bad:∀(K:Act→St→Prop),lpB K (yp o)=none→(∀i,xd X K ef wf Inv μ (μ i))→J X o:=fun K h hK=>by
  have:=hb i0 h0 K (hK i0) []
  simp only[stW,hp,h,stC] at this
  exact this.elim
 cases o with
 |none=>exact bad _ rfl hT
 |some s=>
  rcases s with ⟨q,e,w,kn⟩
  cases q with
  |code c k=>
   cases c with
   |loop c=>
    intro bY
    refine adM X.hC ef (fun i=>⟨X.ro,den (wf i)⟩) Inv μ i0 h0 (kN (by rw[td] at h1;exact h1)) (kN (hd i0)) (dL (lP h2) (Sub.refl _)) fun i hi rest=>?_
    have:=hb i hi _ (fun j hj hm e s hc hle=>anr j hj hm hc (kN (hd j)) hle) rest
    simp only[stW,hp,yp,lpB,stC] at this
    exact this fun _ h=>(List.not_mem_nil h).elim
   |_=>exact bad _ rfl hT
  |_=>exact bad _ rfl hT
def abq:Option JS→Option (Act→St→Prop)
 |some ⟨.nxt K,_,_,_⟩=>some K
 |_=>none
theorem bF{K:Act→St→Prop}{ef:ι→Env}{wf:ι→List Sg}{Inv:ι→Prop}{μ:ι→Nat}{m:Nat}(hK:xd X1 K ef wf Inv μ m)(j:ι)(h:Inv j)(hm:μ j <m)(ps:List Nat)(hs:Sub X1.ro X.ro)
 (h0:abq o=some K:=by kernel_rfl)(h1:rq (ni (ef j)) o=some (ef j):=by kernel_rfl)(h2:rh ps o=some (wf j):=by kernel_rfl)(hn:X1.n=X.n:=by rfl)(hD:X1.D=X.D:=by rfl):J X o:=by
 unfold abq at h0
 split at h0<;>try (cases h0;done)
 rename_i K' e w kn
 cases h0
 intro _
 rw[td] at h1
 have:=hK j h hm e ⟨X.ro,den w⟩ (kN h1) (dL (lP h2) hs)
 rw[hn,hD] at this
 exact this
def gS:List (List Nat)→List Sg→Option (List Cells)
 | [],_=>some []
 |p::r,w=>match QB p w with
  |some x=>match gS r w with
   |some y=>some (den x::y)
   |none=>none
  |none=>none
def gO(ps:List (List Nat)):Option JS→Option (List Cells)
 |some s=>bif GV ps.flatten then gS ps s.rw else none
 |none=>none
def aaR:List Sg→List Cells
 | []=>[]
 |x::w=>den [x]::aaR w
theorem Gs:∀(w:List Sg),(aaR w).flatten=den w
 | []=>rfl
 | .b i o::w=>by simp[aaR,iH,Gs w];rfl
 | .l L::w=>by simp[aaR,gq,Gs w];rfl
theorem X7:∀ {a b:List Nat} {w x y:List Sg},QB a w=some x→QB b w=some y→QB (a++b) w=some (x++y)
 | [],b,w,x,y,h,h2=>by simp only[QB,Option.some.injEq] at h;subst h;exact h2
 |i::a,b,w,x,y,h,h2=>by
  simp only[QB] at h
  split at h<;>try (cases h;done)
  rename_i z hz
  split at h<;>try (cases h;done)
  rename_i r hr
  cases h
  simp only[List.cons_append,QB,hz,X7 hr h2]
theorem asd:∀ {ps:List (List Nat)} {w:List Sg} {l:List Cells},gS ps w=some l→∃z,QB ps.flatten w=some z∧den z=l.flatten
 | [],w,l,h=>by simp only[gS,Option.some.injEq] at h;subst h;exact⟨[],rfl,rfl⟩
 |p::r,w,l,h=>by
  simp only[gS] at h
  split at h<;>try (cases h;done)
  rename_i x hx
  split at h<;>try (cases h;done)
  rename_i y hy
  cases h
  obtain⟨z,h1,h2⟩:=asd hy
  exact⟨x++z,by simpa using X7 hx h1,by simp[lJ,h2]⟩
theorem JG{K:Act→St→Prop}{ef:ι→Env}{wf:ι→List Sg}{Inv:ι→Prop}{μ:ι→Nat}{m:Nat}(hK:xd X1 K ef wf Inv μ m)(j:ι)(h:Inv j)(hm:μ j <m)(ps:List (List Nat))(hs:Sub X1.ro X.ro)
 (h0:abq o=some K:=by kernel_rfl)(h1:rq (ni (ef j)) o=some (ef j):=by kernel_rfl)(h2:gO ps o=some (aaR (wf j)):=by kernel_rfl)(hn:X1.n=X.n:=by rfl)(hD:X1.D=X.D:=by rfl):J X o:=by
 unfold abq at h0
 split at h0<;>try (cases h0;done)
 rename_i K' e w kn
 cases h0
 intro _
 rw[td] at h1
 have hp:(den w).Perm (den (wf j)++den (dE ps.flatten 0 w)):=by
  simp only[gO] at h2
  cases ho:GV ps.flatten with
  |false=>rw[ho] at h2;cases h2
  |true=>
   rw[ho] at h2
   obtain⟨z,h3,h4⟩:=asd h2
   rw[Gs] at h4
   rw[←h4]
   exact xv h3 ho
 have:=hK j h hm e ⟨X.ro,den w⟩ (kN h1) (dL hp hs)
 rw[hn,hD] at this
 exact this
def aI8:Option (Code×List KI)→Option (Code×List KI)
 |some (_,.seq y::k)=>some (y,k)
 |_=>none
def ay3(K:Act→St→Prop):Option JS→Option JS
 |some ⟨.code x (.seq _::k),e,w,kn⟩=>some ⟨.code x (.next K::k),e,w,kn⟩
 |_=>none
theorem EG(p:List Nat)(Ks:List (Act→St→Prop))(ef:ι→Env)(wf:ι→List Sg)(Inv:ι→Prop)(hj:∀i,Inv i→∀rest,J X (stW X.P X.fn p Ks (ef i++rest) (wf i)))(h:∀K,xd X K ef wf Inv (fun _=>0) 1→J X (ay3 K o))(hd:∀i,lkE (ni (ef i)) (ef i)=some (ef i):=by intro _;kernel_rfl)(hp:J8 X.P X.fn p Ks=aI8 (yp o):=by kernel_rfl):J X o:=by
 unfold ay3 at h
 split at h
 ·rename_i x y k e w kn
  intro bY
  refine h (fun a s=>Wp X.C X.fn X.aA y (KQ X k) a s) (fun j hI _ e s hc hle=>?_) bY
  obtain⟨r,hr⟩:=fX (n:=X.n) (D:=X.D) hc (kN (hd j))
  rw[hr]
  have:=hj j hI r
  simp only[stW,hp,yp,aI8,stC] at this
  exact(this fun _ h=>(List.not_mem_nil h).elim).more X.hC hle
 exact(h (fun _ _=>True) fun _ _ _ _ _ _ _=>trivial).elim
def expand:Cells→List Sg
 | []=>[]
 |x::l=> .b x.1 x.2::expand l
def Wz:Nat→List Sg→List Sg
 |_,[]=>[]
 |0,.l L::w=>expand L++w
 |0,x::w=>x::w
 |i+1,x::w=>x::Wz i w
theorem Xj{w w':List Sg}{p:Pos}(h:den w'=den w)(hj:JP X kn e w' p):JP X kn e w p:=by
 cases p<;>simp only[JP,h] at hj ⊢ <;>exact hj
def aIh(i:Nat):Option JS→Option JS
 |some s=>some {s with rw:=Wz i s.rw}
 |none=>none
def Z5:List Sg→Cells
 | []=>[]
 | .b i o::w=>(i,o)::Z5 w
 | .l _::w=>Z5 w
theorem xO:∀ {w:List Sg} {x:Nat×Obj},x∈Z5 w→x∈den w
 | .b i o::w,x,h=>by
  rw[iH]
  rcases List.mem_cons.1 h with rfl|h
  ·exact List.mem_cons_self
  exact List.mem_cons_of_mem _ (xO h)
 | .l L::w,x,h=>by rw[gq];exact List.mem_append_right _ (xO (w:=w) h)
def api(ps:List Nat):Option JS→Option JS
 |some s=>match QB ps s.rw with
  |some w=>some {s with rw:=dE ps 0 s.rw,kn:=⟨Z5 w++s.kn.c,s.kn.nd⟩}
  |none=>none
 |none=>none
theorem IW:∀(k:List KI),KQ (X.at aD) k=KQ X k
 | []=>rfl
 | .seq _::k=>by simp only[KQ,IW k];rfl
 | .block _::k=>by simp only[KQ,IW k]
 | .next _::k=>by simp only[KQ,IW k]
theorem jf(ps:List Nat)(L:Cells)(h:∀aD,Sub X.ro aD→Knows aD L→J (X.at aD) (api ps o))(h2:dN ps o=some L:=by kernel_rfl)(hp:agw o=true:=by kernel_rfl):J X o:=by
 have hpk:∀ {s:JS},dN ps (some s)=some L→∃w,QB ps s.rw=some w∧den w=L:=by
  intro s hs
  simp only[dN,rh] at hs
  cases hk:GV ps with
  |false=>rw[hk] at hs;cases hs
  |true=>
   rw[hk] at hs;simp only[cond_true] at hs
   split at hs<;>try (cases hs;done)
   rename_i w hw
   cases hs
   exact⟨w,hw,rfl⟩
 unfold agw at hp
 split at hp
 ·rename_i ops todo k e w kn
  intro bY
  obtain⟨w1,hw1,rfl⟩:=hpk h2
  refine US X.hC (bJ h2) fun aD hs hk=>?_
  have:=h aD hs hk
  simp only[api,hw1] at this
  have:=this (fun x hx=>(List.mem_append.1 hx).elim (fun hx=>hk x (xO hx)) fun hx=>hs _ _ (bY x hx))
  simp only[JP,IW] at this
  exact this
 ·rename_i c k e w kn
  intro bY
  obtain⟨w1,hw1,rfl⟩:=hpk h2
  refine aau X.hC (bJ h2) fun aD hs hk=>?_
  have:=h aD hs hk
  simp only[api,hw1] at this
  have:=this (fun x hx=>(List.mem_append.1 hx).elim (fun hx=>hk x (xO hx)) fun hx=>hs _ _ (bY x hx))
  simp only[JP,IW] at this
  exact this
 cases hp
def geO:Option JS→Option JS
 |some s=>some {s with rw:= .l []::s.rw}
 |none=>none
theorem nI(h:J X (geO o)):J X o:=by
 cases o with
 |none=>exact h
 |some s=>exact fun bY=>Xj (by simp[gq]) (h bY)
def sgS:Nat→List Sg→List Sg→List Sg
 |_,_,[]=>[]
 |0,l,_::w=>l++w
 |i+1,l,x::w=>x::sgS i l w
theorem XK{l:List Sg}:∀ {i:Nat} {w:List Sg} {x:Sg},yT w i=some x→den [x]=den l→den (sgS i l w)=den w
 |_,[],_,h,_=>by cases h
 |0,y::w,x,h,hd=>by
  simp only[yT,Option.some.injEq] at h;subst h
  have:den (y::w)=den [y]++den w:=by rw[←lJ];rfl
  rw[this,hd,←lJ];rfl
 |i+1,y::w,x,h,hd=>by
  have:=XK (w:=w) (i:=i) h hd
  cases y<;>simp[sgS,iH,gq,this]
def sgO(i:Nat)(l:List Sg):Option JS→Option JS
 |some s=>some {s with rw:=sgS i l s.rw}
 |none=>none
theorem jg(i:Nat)(l:List Sg)(h:J X (sgO i l o))(h2:dN [i] o=some (den l):=by kernel_rfl):J X o:=by
 cases o with
 |none=>exact h
 |some s=>
  have hn:∃x,yT s.rw i=some x∧den [x]=den l:=by
   simp only[dN,rh,GV,bk,QB,Bool.not_false,Bool.true_and,cond_true] at h2
   cases hx:yT s.rw i with
   |none=>rw[hx] at h2;cases h2
   |some x=>rw[hx] at h2;simp only[Option.some.injEq] at h2;exact⟨x,rfl,h2⟩
  obtain⟨x,hx,hd⟩:=hn
  exact fun bY=>Xj (XK hx hd) (h bY)
theorem jmw(i:Nat)(l:List Sg){L:Cells}(h:L=den l)(hj:J X (sgO i l o))(h2:dN [i] o=some L:=by kernel_rfl):J X o:=by
 subst h;exact jg i l hj h2
end
def Cx.wd(X:Cx)(D:List Deferred):Cx:={X with D:=D}
theorem Tw{D:List Deferred}:∀(k:List KI),KQ (X.wd D) k=KQ X k
 | []=>rfl
 | .seq _::k=>by simp only[KQ,Tw k];rfl
 | .block _::k=>by simp only[KQ,Tw k]
 | .next _::k=>by simp only[KQ,Tw k]
def FG(X:Cx)(K:Act→St→Prop)(ef:ι→Env)(wf:ι→List Sg)(df:ι→List Deferred)(Inv:ι→Prop)(μ:ι→Nat)(m:Nat):Prop:=
 ∀j,Inv j→μ j <m→∀(e:Env) (s:St),kV e (ef j)→(⟨X.ro,den (wf j)⟩:St).le s→K (A X.n e (df j)) s
section
variable {X:Cx} {o:Option JS}
theorem adN{C:Class}{fn:FuncId}{aA:Option Nat}{Q:Post}{env:Env}(hC:∀main T,C main T→Closed X.P main T)(pP:ι→Env)(sf:ι→St)(df:ι→List Deferred)(Inv:ι→Prop)(μ:ι→Nat){c:Code}(i0:ι)(h0:Inv i0)(hc:kV env (pP i0))(hd:∀i,kV (pP i) (pP i))(hs:(sf i0).le s)
 (round:∀i,Inv i→∀rest,Wp C fn aA c (lV (fun a s=>∃j,Inv j∧μ j <μ i∧(∃e,kV e (pP j)∧a=A n e (df j))∧(sf j).le s) Q) (A n (pP i++rest) (df i)) (sf i)):Wp C fn aA (.loop c) Q (A n env (df i0)) s:=by
 obtain⟨r0,vu⟩:=fX (n:=n) (D:=df i0) hc (hd i0)
 rw[vu]
 intro main T hT b k cs h1 h2 h3 h4
 have key:∀m i rest s,μ i=m→Inv i→(sf i).le s→T (G (aL b (A n (pP i++rest) (df i)) (.code c:: .inLoop c::k)) cs) s:=by
  intro m
  induction m using Nat.strongRecOn with
  |_ m ih=>
   intro i rest s hm hI hle
   refine(hC main T hT).mono _ _ _ hle ?_
   refine round i hI rest main T hT b (.inLoop c::k) cs h1 h2 h3 fun e a' s' q=>?_
   cases e with
   |normal=>
    obtain⟨j,zl,cJ,⟨e,he,rfl⟩,x3⟩:=q
    obtain⟨aeW,hr⟩:=fX (n:=n) (D:=df j) he (hd j)
    rw[hr]
    exact(hC main T hT).go rfl rfl (g':=G (aL b _ (.code c:: .inLoop c::k)) cs) (fun w=>by simp[G,stepG,stepG.exec,aL]) (ih _ (hm▸cJ) j aeW s' rfl zl x3)
   |exit id=>exact(h4 _ _ _ q).push rfl (by simp)
   |ret=>exact(h4 _ _ _ q).push (x:= .inLoop c) rfl (by simp)
   |panic ch=>exact(h4 _ _ _ q).push (x:= .inLoop c) rfl (by simp)
   |goto l=>exact(h4 _ _ _ q).elim
   |outgrown=>exact(h4 _ _ _ q).elim
 exact(hC main T hT).go rfl rfl (g':=G (aL b (A n (pP i0++r0) (df i0)) (.code c:: .inLoop c::k)) cs) (fun w=>by simp[G,stepG,stepG.exec,aL]) (key _ i0 r0 s rfl h0 hs)
theorem aEH(p:List Nat)(Ks:List (Act→St→Prop))(ef:ι→Env)(wf:ι→List Sg)(df:ι→List Deferred)(Inv:ι→Prop)(μ:ι→Nat)(i0:ι)(h0:Inv i0)(ps:List Nat)(hb:∀i,Inv i→∀K,FG X K ef wf df Inv μ (μ i)→∀rest,J (X.wd (df i)) (stW X.P X.fn p (Ks++[K]) (ef i++rest) (wf i)))
 (h1:rq (ni (ef i0)) o=some (ef i0):=by kernel_rfl)(hd:∀i,lkE (ni (ef i)) (ef i)=some (ef i):=by intro _;kernel_rfl)(h2:rh ps o=some (wf i0):=by kernel_rfl)(hp:∀K,J8 X.P X.fn p (Ks++[K])=lpB K (yp o):=by intro _;kernel_rfl)(hD:X.D=df i0:=by rfl):J X o:=by
 have hT:∀i,FG X (fun _ _=>True) ef wf df Inv μ (μ i):=fun _ _ _ _ _ _ _ _=>trivial
 have bad:∀(K:Act→St→Prop),lpB K (yp o)=none→(∀i,FG X K ef wf df Inv μ (μ i))→J X o:=fun K h hK=>by
  have:=hb i0 h0 K (hK i0) []
  simp only[stW,hp,h,stC] at this
  exact this.elim
 cases o with
 |none=>exact bad _ rfl hT
 |some s=>
  rcases s with ⟨q,e,w,kn⟩
  cases q with
  |code c k=>
   cases c with
   |loop c=>
    intro bY
    show Wp X.C X.fn X.aA (.loop c) (KQ X k) (A X.n e X.D) ⟨X.ro,den w⟩
    rw[hD]
    refine adN (X:=X) X.hC ef (fun i=>(⟨X.ro,den (wf i)⟩:St)) df Inv μ i0 h0 (kN (by rw[td] at h1;exact h1)) (fun i=>kN (hd i)) (dL (lP h2) (Sub.refl _)) fun i hi rest=>?_
    have:=hb i hi (fun a s=>∃j,Inv j∧μ j <μ i∧(∃e,kV e (ef j)∧a=A X.n e (df j))∧(⟨X.ro,den (wf j)⟩:St).le s) (fun j hj hm e s hc hle=>⟨j,hj,hm,⟨e,hc,rfl⟩,hle⟩) rest
    simp only[stW,hp,yp,lpB,stC] at this
    have:=this fun _ h=>(List.not_mem_nil h).elim
    simp only[JP,KQ,Tw] at this
    exact this
   |_=>exact bad _ rfl hT
  |_=>exact bad _ rfl hT
theorem jnD{K:Act→St→Prop}{ef:ι→Env}{wf:ι→List Sg}{df:ι→List Deferred}{Inv:ι→Prop}{μ:ι→Nat}{m:Nat}(hK:FG X1 K ef wf df Inv μ m)(j:ι)(h:Inv j)(hm:μ j <m)(ps:List (List Nat))(hs:Sub X1.ro X.ro)
 (h0:abq o=some K:=by kernel_rfl)(h1:rq (ni (ef j)) o=some (ef j):=by kernel_rfl)(h2:gO ps o=some (aaR (wf j)):=by kernel_rfl)(hn:X1.n=X.n:=by rfl)(hD:X.D=df j:=by rfl):J X o:=by
 have hK':xd (X1.wd (df j)) K ef wf (fun i=>i=j) μ m:=fun i hi hm e s hc hle=>by subst hi;exact hK _ h hm e s hc hle
 exact JG hK' j rfl hm ps hs h0 h1 h2 hn hD.symm
end
attribute [irreducible] gO geO qD jD ay3 stW yp J8 aIh api sgO zn agw iv Po Pn qZ abq
end Go.L
