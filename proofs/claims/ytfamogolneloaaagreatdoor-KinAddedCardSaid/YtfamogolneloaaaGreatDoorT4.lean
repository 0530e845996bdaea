/- Part 4 of the proof. -/
import Derived.Test.YtfamogolneloaaaGreatDoorT3
import Derived.KernelRfl
import GoSem.Extern.Table
set_option maxRecDepth 100000
set_option linter.all false
namespace Go.L
open Go Go.Conc
variable {ro aC:Nat→Option Obj} {x y:Operand} {α ι β:Type} {vs l args z':List Value} {T E T' T2 U:TypeId} {f:FuncId} {e:Env} {b sz k n off i szo iM vD cap id:Nat} {P:Program} {R:Ending→St→Prop} {Φ:Value→Cells→Prop} {s:St} {todo nE hs ps:List Nat} {fz:Nat×Nat} {o p:Oper} {xs:Array Operand} {at_:Array TypeId} {Y B rw' fr:Cells} {g xA:Bool} {lo hi:Int}
theorem cb.part{o m:Nat}{ws:List Value}(h:cb s b o m vs)(j k:Nat)(hj:sub vs j k=some ws):cb s b (o+j) k ws:=by
 obtain⟨l,t,fz,h1,h2⟩:=h
 obtain⟨h3,h4⟩:=sub_eq _ _ _ _ h2
 obtain⟨h5,h6⟩:=sub_eq _ _ _ _ hj
 refine⟨l,t,fz,h1,?_⟩
 have hlen:(o+j)+k≤l.length:=by
  rcases Nat.eq_zero_or_pos k with h0|h0
  ·subst h0
   have:o+j≤l.length:=by
    have h7:sub vs j 0=some ws:=hj
    have hjl:j≤vs.length:=by
     have key:∀(l:List Value) (j:Nat) (ws:List Value),sub l j 0=some ws→j≤l.length:=by
      intro l
      induction l with
      |nil=>intro j ws h;cases j with
       |zero=>simp
       |succ j=>simp[sub] at h
      |cons x l ih=>intro j ws h;cases j with
       |zero=>simp
       |succ j=>have:=ih j ws (by simpa [sub] using h);simp;omega
     exact key _ _ _ h7
    have hol:o+m≤l.length∨m=0:=by
     rcases Nat.eq_zero_or_pos m with h8|h8
     ·exact .inr h8
     left
     have:=h4 (m-1) vs[m-1] (by rw[List.getElem?_eq_getElem])
     have:=(List.getElem?_eq_some_iff.1 this).1
     omega
    rcases hol with h9|h9
    ·omega
    have aOG:∀(l:List Value) (o:Nat) (ws:List Value),sub l o 0=some ws→o≤l.length:=by
     intro l
     induction l with
     |nil=>intro j ws h;cases j with
      |zero=>simp
      |succ j=>simp[sub] at h
     |cons x l ih=>intro j ws h;cases j with
      |zero=>simp
      |succ j=>have:=ih j ws (by simpa [sub] using h);simp;omega
    rw[h9] at h2
    have:=aOG _ _ _ h2
    omega
   omega
  have:=h6 (k-1) ws[k-1] (by rw[List.getElem?_eq_getElem])
  have:=h4 _ _ this
  have:=(List.getElem?_eq_some_iff.1 this).1
  omega
 rw[jB hlen]
 congr 1
 apply List.ext_getElem?
 intro i
 by_cases hi:i <k
 ·have h7:=h4 _ _ (h6 i ws[i] (by rw[List.getElem?_eq_getElem]))
  rw[List.getElem?_take_of_lt hi,List.getElem?_drop,List.getElem?_eq_getElem (show i <ws.length by omega),←h7,Nat.add_assoc]
 rw[List.getElem?_eq_none (by simp;omega),List.getElem?_eq_none (by omega)]
def Hn(ag:Bool)(l:List Value)(o sz:Nat):Option Value:=bif ag then (match sub l o sz with|some m=>some (.agg ⟨m⟩)|none=>none) else nth l o
theorem XJ{t:TypeId}{z:List Value}{d:TypeDesc}{bG:Nat}{ag:Bool}(tf:TF P t d sz bG z ag){o:Nat}{v:Value}(hv:Hn ag l o sz=some v){k:Value→Sem α}{Q:α→St→Prop}{E:Halt→St→Prop}:bR P (part t ⟨l⟩ o >>= k) s Q E=bR P (k v) s Q E:=by
 cases ag with
 |false=>exact Nv tf hv
 |true=>
  simp only[Hn,cond_true] at hv
  split at hv
  ·rename_i m hm
   cases hv
   exact Nu tf hm
  cases hv
section rules
variable {P:Program} {C:Class} {fn:FuncId} {aA:Option Nat} {Q:Post} {s:St} {n:Nat} {env:Env} {D:List Deferred}
variable {ops:Array Oper} {i:Nat} {rest:List Nat} {dst:Option Tmp} {ty:TypeId} {pos:String} {dk:Array Edge} {g:Option (Nat×Bool)}
variable {T:TypeId} {d:TypeDesc} {sz bG:Nat} {z:List Value} {ag:Bool}
theorem afE(hC:∀main T,C main T→Closed P main T){k:IntKind}{ix:Int}{len:Nat}{d':TypeDesc}{v:Value}(ho:ops[i]?=some ⟨dst,.index T x y,ty,pos,dk,g⟩) (hw:ay ops n env g=true)
 (tf:TF P T (.array len E) sz bG z ag) (kD:TF P E d' iM vD z' xA) (hx:bA n env x=some (.agg ⟨l⟩)) (hy:bA n env y=some (.int k ix)) (hi:0≤ix∧ix <len) (hv:Hn xA l (ix.toNat*iM) iM=some v)
 (h:ae C fn aA ops rest Q (A n (upd dst v env) D) s):ae C fn aA ops (i::rest) Q (A n env D) s:=by
 refine bW hC ho hw (by simp) ?_
 simp only[execOp,Instr.index,aG hx,aG hy,asIntOf,asAgg,aa,af,bk tf,hi,and_self,if_true,cE kD]
 rw[XJ kD hv,←ba] at*
 exact h
end rules
section rules
variable {P:Program} {C:Class} {fn:FuncId} {aA:Option Nat} {Q:Post} {s:St} {n:Nat} {env:Env} {D:List Deferred}
variable {ops:Array Oper} {i:Nat} {rest:List Nat} {dst:Option Tmp} {ty:TypeId} {pos:String} {dk:Array Edge} {g:Option (Nat×Bool)}
theorem wr(hC:∀main T,C main T→Closed P main T){l:List Nat}(hl:List.range ops.size=l)(h:ae C fn aA ops l Q (A n env D) s):Wp C fn aA (.region id ops false) Q (A n env D) s:=wp_region hC (hl▸h)
theorem on(hC:∀main T,C main T→Closed P main T){K:Act→St→Prop}(h:K (A n env D) s):ae C fn aA ops [] (mA K Q) (A n env D) s:=uf hC h
end rules
theorem c:∀main T,CP P main T→Closed P main T:=fe
def aV(k:IntKind)(a b:Int):Int:=a.fdiv (2^(min b.toNat k.bits))
def dM(k:IntKind)(a b:Int):Int:=k.wrap (a*2^(min b.toNat k.bits))
def VC(k:IntKind)(a b:Int):Int:=k.wrap (BitVec.ofInt k.bits a&&& BitVec.ofInt k.bits b).toNat
def Mx(k:IntKind)(a b:Int):Int:=k.wrap (BitVec.ofInt k.bits a|||BitVec.ofInt k.bits b).toNat
def dj(k:IntKind)(a b:Int):Int:=k.wrap (BitVec.ofInt k.bits a^^^BitVec.ofInt k.bits b).toNat
theorem Qc(k:IntKind)(h:k.signed=false)(n:Int):0≤k.wrap n∧k.wrap n <2^k.bits:=by
 have hp:(0:Int) <2^k.bits:=Int.pow_pos (by decide)
 simp only[IntKind.wrap,h,Bool.false_and,Bool.false_eq_true,if_false]
 exact⟨Int.emod_nonneg _ (by omega),Int.emod_lt_of_pos _ hp⟩
theorem sN(k:IntKind)(h:k.signed=false)(n:Int)(h0:0≤n)(h1:n <2^k.bits):k.wrap n=n:=by
 simp only[IntKind.wrap,h,Bool.false_and,Bool.false_eq_true,if_false]
 exact Int.emod_eq_of_lt h0 h1
theorem uu(a b:Int):0≤dj .u64 a b∧dj .u64 a b <18446744073709551616:=Qc .u64 rfl _
theorem aOi{p0 p1 p2 p3 x:Int}(h: [p0,p1,p2,p3][k]?=some x):nth [.int .i64 p0,.int .i64 p1,.int .i64 p2,.int .i64 p3] k=some (.int .i64 x):=by
 rcases k with _|_|_|_|k
 all_goals first| (simp at h;subst h;rfl)|simp at h
theorem dQ.aBb{own:Cells}(hp:s.rw.Perm (own++fr))(hf:dQ P f vs s.ro own Φ):
 Fn (CP P) P f ⟨vs⟩ s (fun en s'=>∃v X,en= .returned v∧Φ v X∧(⟨s.ro,X++fr⟩:St).le s'):=by
 refine Fn.mono (Fn.frame (fr:=fr) (B:=[]) (ro:=s.ro) (s:=s) hf (fun _ h=>(by cases h)) ⟨hp,fun b o hb=> .inl hb,Sub.refl _⟩) fun en s' EN=>?_
 obtain⟨zn,⟨v,X,rfl,rfl,qB⟩,hc⟩:=EN
 exact⟨v,X,rfl,qB,[],by simpa using hc.rw,fun b o hb=> .inl (hc.keep b o hb)⟩
def Knows(ro:Nat→Option Obj)(X:Cells):Prop:=∀x∈X,ro x.1=some x.2
theorem Knows.up{X:Cells}(h:Knows ro X)(hs:Sub ro aC):Knows aC X:=fun x hx=>hs _ _ (h x hx)
theorem Knows.left{X:Cells}(h:Knows ro (X++Y)):Knows ro X:=fun x hx=>h x (List.mem_append_left _ hx)
theorem Knows.right{X:Cells}(h:Knows ro (X++Y)):Knows ro Y:=fun x hx=>h x (List.mem_append_right _ hx)
theorem Knows.tail{x:Nat×Obj}(h:Knows ro (x::Y)):Knows ro Y:=fun y hy=>h y (List.mem_cons_of_mem _ hy)
theorem Knows.head{x:Nat×Obj}(h:Knows ro (x::Y)):ro x.1=some x.2:=h x List.mem_cons_self
theorem xL{enc:α→List Value}{ps:List α}(h:s.has b (.cells ⟨(ps.map enc).flatten⟩ T fz))(hl:∀p∈ps,(enc p).length=sz){x:α}(hx:ps[k]?=some x):cb s b (0+k*sz) sz (enc x):=by
 have h2:=DR ps hl k x hx
 have hm:x∈ps:=List.mem_of_getElem? hx
 have h3:=hl x hm
 refine⟨_,T,fz,h,?_⟩
 rw[Nat.zero_add,jB,h2]
 rw[kR ps hl]
 have:=(List.getElem?_eq_some_iff.1 hx).1
 calc k*sz+sz=(k+1)*sz:=by rw[Nat.succ_mul]
  _≤ps.length*sz:=Nat.mul_le_mul_right _ (by omega)
theorem bV{enc:α→List Value}(ps:List α)(h:ro b=some (.cells ⟨(ps.map enc).flatten⟩ T fz))(hl:∀p∈ps,(enc p).length=sz):a8 ro (.slice (some ⟨b,0,none⟩) ps.length ps.length) sz enc ps:=
 ⟨_,b,0,_,rfl,Nat.le_refl _,fun _ _=>rfl,fun _ _ hx=>xL (.inl h) hl hx⟩
section rules
variable {P:Program} {C:Class} {fn:FuncId} {aA:Option Nat} {Q:Post} {s:St} {n:Nat} {env:Env} {D:List Deferred}
variable {ops:Array Oper} {i:Nat} {rest:List Nat} {dst:Option Tmp} {ty:TypeId} {pos:String} {dk:Array Edge} {g:Option (Nat×Bool)}
variable {T:TypeId} {d:TypeDesc} {sz bG:Nat} {z:List Value} {ag:Bool}
theorem aC9(hC:∀main T,C main T→Closed P main T){k k':IntKind}{a b:Int}(ho:ops[i]?=some ⟨dst,.binOp .shr T x y T',ty,pos,dk,g⟩) (hw:ay ops n env g=true)
 (hx:bA n env x=some (.int k a)) (hy:bA n env y=some (.int k' b)) (hb:0≤b) (h:ae C fn aA ops rest Q (A n (upd dst (.int k (aV k a b)) env) D) s):ae C fn aA ops (i::rest) Q (A n env D) s:=by
 refine tq hC ho hw (by simp) ?_ h
 simp only[execOp,aG hx,aG hy]
 have he:eqGuard .shr T x y (.int k a) (.int k' b)=Sem.pure ():=rfl
 have hv:binOp .shr T (.int k a) (.int k' b)=Sem.pure (.int k (aV k a b)):=by
  show Op.shift .shr k a k' b=_
  simp only[Op.shift,show ¬b <0 by omega,if_false];rfl
 rw[he]
 show Sem.bind (Sem.bind (Sem.pure ()) fun _=>binOp .shr T (.int k a) (.int k' b)) _=_
 simp only[Sem.bind,hv]
 rfl
theorem aDa(hC:∀main T,C main T→Closed P main T){k k':IntKind}{a b:Int}(ho:ops[i]?=some ⟨dst,.binOp .shl T x y T',ty,pos,dk,g⟩) (hw:ay ops n env g=true)
 (hx:bA n env x=some (.int k a)) (hy:bA n env y=some (.int k' b)) (hb:0≤b) (h:ae C fn aA ops rest Q (A n (upd dst (.int k (dM k a b)) env) D) s):ae C fn aA ops (i::rest) Q (A n env D) s:=by
 refine tq hC ho hw (by simp) ?_ h
 simp only[execOp,aG hx,aG hy]
 have he:eqGuard .shl T x y (.int k a) (.int k' b)=Sem.pure ():=rfl
 have hv:binOp .shl T (.int k a) (.int k' b)=Sem.pure (.int k (dM k a b)):=by
  show Op.shift .shl k a k' b=_
  simp only[Op.shift,show ¬b <0 by omega,if_false];rfl
 rw[he]
 show Sem.bind (Sem.bind (Sem.pure ()) fun _=>binOp .shl T (.int k a) (.int k' b)) _=_
 simp only[Sem.bind,hv]
 rfl
end rules
theorem bN{enc:α→List Value}(ps:List α)(h:s.has b (.cells ⟨(ps.map enc).flatten⟩ T fz))(hl:∀p∈ps,(enc p).length=sz):Sl s (.slice (some ⟨b,0,none⟩) ps.length cap) sz enc ps:=
 ⟨_,b,0,cap,rfl,fun _ _=>rfl,fun _ _ hx=>xL h hl hx⟩
theorem aO{enc:α→List Value}:aw (.slice (some ⟨b,0,none⟩) 0 0) sz T enc ([]:List α) [(b,.cells ⟨[]⟩ T (0,0))]:=
 .inr ⟨b,[],0,rfl,rfl,by simp,by simp,by simp,by simp⟩
theorem aw.form{v:Value}{enc:α→List Value}{ps:List α}{L:Cells}(h:aw v sz T enc ps L):∃a c,v= .slice a ps.length c:=by
 rcases h with ⟨h1,h2,_⟩| ⟨b,l,cap,h1,_⟩
 ·subst h2;exact⟨none,0,h1⟩
 exact⟨_,cap,h1⟩
def PB(v:Value)(b:Nat):Prop:=∃n c,v= .slice (some ⟨b,0,none⟩) n c
theorem cJ{v:Value}{enc:α→List Value}{ps:List α}{L:Cells}(h:aw v sz T enc ps L)(hb:PB v b)(hs:∀x∈L,s.has x.1 x.2){x:α}(hx:ps[k]?=some x):cb s b (k*sz) sz (enc x):=by
 obtain⟨a,b',o,c,h1,h2,h3⟩:=h.sl hs
 have hk:=(List.getElem?_eq_some_iff.1 hx).1
 have h4:=h2 k hk
 obtain⟨n,c',h5⟩:=hb
 rw[h1] at h5
 cases h5
 cases h4
 have:=h3 k x hx
 rwa[Nat.zero_add] at this
theorem aC4{v:Value}{enc:α→List Value}{ps:List α}{L:Cells}(h:aw v sz T enc ps L)(hk:k <ps.length):∃b,PB v b:=by
 rcases h with ⟨_,h2,_⟩| ⟨b,l,cap,h1,_⟩
 ·subst h2;simp at hk
 exact⟨b,_,_,h1⟩
theorem S7{enc:α→List Value}:∀(ps:List α),(∀p∈ps,(enc p).length=sz)→∀(k:Nat) (x:α),(enc x).length=sz→k <ps.length→∀l:List Value,l.take (ps.length*sz)=(ps.map enc).flatten→(dK l (k*sz) (enc x)).take (ps.length*sz)=((ps.set k x).map enc).flatten:=by
 intro ps VT k x hx hk l hl
 have hle:ps.length*sz≤l.length:=by
  have h1:=kR ps VT
  rw[←hl,List.length_take] at h1
  omega
 have hks:k*sz+sz≤ps.length*sz:=by
  have:(k+1)*sz≤ps.length*sz:=Nat.mul_le_mul_right _ (by omega)
  rw[Nat.succ_mul] at this;exact this
 have hA:((ps.take k).map enc).flatten.length=k*sz:=by
  rw[kR _ (fun p hp=>VT p (List.mem_of_mem_take hp)),List.length_take,Nat.min_eq_left (by omega)]
 have hC:((ps.drop (k+1)).map enc).flatten.length=(ps.length-(k+1))*sz:=by
  rw[kR _ (fun p hp=>VT p (List.mem_of_mem_drop hp)),List.length_drop]
 have hB:=VT ps[k] (List.getElem_mem hk)
 have av3:(ps.map enc).flatten=((ps.take k).map enc).flatten++(enc ps[k]++((ps.drop (k+1)).map enc).flatten):=by
  have h3:ps=ps.take k++ps[k]::ps.drop (k+1):=by rw[←List.drop_eq_getElem_cons hk,List.take_append_drop]
  have h4:=congrArg (fun q:List α=>(q.map enc).flatten) h3
  simp only[List.map_append,List.map_cons,List.flatten_append,List.flatten_cons] at h4
  exact h4
 have pF:l=((ps.take k).map enc).flatten++(enc ps[k]++(((ps.drop (k+1)).map enc).flatten++l.drop (ps.length*sz))):=by
  have h3:=(List.take_append_drop (ps.length*sz) l).symm
  rw[hl,av3] at h3
  simp only[List.append_assoc] at h3
  exact h3
 have pz:((ps.set k x).map enc).flatten=((ps.take k).map enc).flatten++(enc x++((ps.drop (k+1)).map enc).flatten):=by
  rw[List.set_eq_take_append_cons_drop,if_pos hk]
  simp only[List.map_append,List.map_cons,List.flatten_append,List.flatten_cons]
 have aQb:dK l (k*sz) (enc x)=((ps.take k).map enc).flatten++(enc x++(((ps.drop (k+1)).map enc).flatten++l.drop (ps.length*sz))):=by
  rw[rz _ _ _ (by omega),hx,List.append_assoc]
  congr 1
  ·conv=>lhs;rw[pF]
   rw[←hA,List.take_left]
  congr 1
  conv=>lhs;rw[pF]
  rw[←List.append_assoc,←List.append_assoc,List.append_assoc _ _ (List.drop _ _)]
  rw[show k*sz+sz=(((ps.take k).map enc).flatten++enc ps[k]).length by rw[List.length_append,hA,hB],List.drop_left]
 rw[aQb,pz,←List.append_assoc,←List.append_assoc]
 have hlen:(((ps.take k).map enc).flatten++enc x++((ps.drop (k+1)).map enc).flatten).length=ps.length*sz:=by
  rw[List.length_append,List.length_append,hA,hx,hC]
  have:ps.length*sz=(k+1+(ps.length-(k+1)))*sz:=by congr 1;omega
  rw[this,Nat.add_mul,Nat.succ_mul]
 rw[←hlen,List.take_left,List.append_assoc]
section rules
variable {P:Program} {C:Class} {fn:FuncId} {aA:Option Nat} {Q:Post} {s:St} {n:Nat} {env:Env} {D:List Deferred}
variable {ops:Array Oper} {i:Nat} {rest:List Nat} {dst:Option Tmp} {ty:TypeId} {pos:String} {dk:Array Edge} {g:Option (Nat×Bool)}
variable {T:TypeId} {d:TypeDesc} {sz bG:Nat} {z:List Value} {ag:Bool}
theorem Vj(hC:∀main T,C main T→Closed P main T){w:Operand}{k k':IntKind}{b:ByteArray}(ho:ops[i]?=some ⟨dst,.slice T x (some y) (some w) none,ty,pos,dk,g⟩) (hw:ay ops n env g=true) (tf:TF P T .string sz bG z ag)
 (hx:bA n env x=some (.string b)) (hy:bA n env y=some (.int k lo)) (hz:bA n env w=some (.int k' hi)) (hl:0≤lo∧lo≤hi∧hi≤b.size) (h:ae C fn aA ops rest Q (A n (upd dst (.string (b.extract lo.toNat hi.toNat)) env) D) s):ae C fn aA ops (i::rest) Q (A n env D) s:=by
 refine bW hC ho hw (by simp) ?_
 have h1:0≤hi∧hi≤(b.size:Int):=by omega
 have h2:0≤lo∧lo≤(hi.toNat:Int):=by omega
 simp only[execOp,Option.map_some,Option.map_none,Instr.sliceAt,Instr.slice,aG hx,aG hy,aG hz,aa,bk tf,Instr.sliceBounds,Instr.sliceBound,asIntOf,af,Option.isSome_none,Bool.false_eq_true,if_false,h1,h2,and_self,if_true]
 rw[←ba] at h
 exact h
theorem Rw(hC:∀main T,C main T→Closed P main T){w:Operand}{k':IntKind}{b:ByteArray}(ho:ops[i]?=some ⟨dst,.slice T x none (some w) none,ty,pos,dk,g⟩) (hw:ay ops n env g=true) (tf:TF P T .string sz bG z ag)
 (hx:bA n env x=some (.string b)) (hz:bA n env w=some (.int k' hi)) (hl:0≤hi∧hi≤b.size) (h:ae C fn aA ops rest Q (A n (upd dst (.string (b.extract 0 hi.toNat)) env) D) s):ae C fn aA ops (i::rest) Q (A n env D) s:=by
 refine bW hC ho hw (by simp) ?_
 simp only[execOp,Option.map_some,Option.map_none,Instr.sliceAt,Instr.slice,aG hx,aG hz,aa,bk tf,Instr.sliceBounds,Instr.sliceBound,asIntOf,af,Option.isSome_none,Bool.false_eq_true,if_false,hl,and_self,if_true]
 rw[←ba] at h
 exact h
theorem Rv(hC:∀main T,C main T→Closed P main T){k:IntKind}{b:ByteArray}(ho:ops[i]?=some ⟨dst,.slice T x (some y) none none,ty,pos,dk,g⟩) (hw:ay ops n env g=true) (tf:TF P T .string sz bG z ag)
 (hx:bA n env x=some (.string b)) (hy:bA n env y=some (.int k lo)) (hl:0≤lo∧lo≤b.size) (h:ae C fn aA ops rest Q (A n (upd dst (.string (b.extract lo.toNat b.size)) env) D) s):ae C fn aA ops (i::rest) Q (A n env D) s:=by
 refine bW hC ho hw (by simp) ?_
 simp only[execOp,Option.map_some,Option.map_none,Instr.sliceAt,Instr.slice,aG hx,aG hy,aa,bk tf,Instr.sliceBounds,Instr.sliceBound,asIntOf,af,Option.isSome_none,Bool.false_eq_true,if_false,hl,and_self,if_true]
 rw[←ba] at h
 exact h
theorem a8.part{a:Option Addr}{len:Nat}{enc:α→List Value}{ps:List α}(hs:a8 ro (.slice a len cap) sz enc ps){l h:Nat}(hl:l≤h)(hh:h≤ps.length):a8 ro (.slice (if cap=l then a else a.map (·.add (l*sz))) (h-l) (cap-l)) sz enc ((ps.take h).drop l):=by
 obtain⟨a',b,o,aUj,h1,h2,h3,h4⟩:=hs
 cases h1
 have hlen:((ps.take h).drop l).length=h-l:=by rw[List.length_drop,List.length_take];omega
 refine⟨_,b,o+l*sz,_,by rw[hlen],by omega,fun k hk=>?_,fun i p hp=>?_⟩
 ·have:=h3 0 (by omega)
  subst this
  rw[if_neg (by omega)]
  simp[dZ]
 rw[List.getElem?_drop] at hp
 have hi:l+i <h:=by
  have:=(List.getElem?_eq_some_iff.1 hp).1
  rw[List.length_take] at this;omega
 rw[List.getElem?_take_of_lt hi] at hp
 have:=h4 _ _ hp
 rwa[show o+(l+i)*sz=o+l*sz+i*sz by rw[Nat.add_mul];omega] at this
theorem afC(hC:∀main T,C main T→Closed P main T){v:Value}{enc:α→List Value}{ps:List α}{L:Cells}(ho:ops[i]?=some ⟨dst,.call ⟨.builtin .len,#[x],#[T]⟩,ty,pos,dk,g⟩) (hw:ay ops n env g=true)
 (tf:TF P T (.slice E) sz bG z ag) (hx:bA n env x=some v) (lq:aw v szo T2 enc ps L) (h:ae C fn aA ops rest Q (A n (upd dst (.int .i64 ps.length) env) D) s):ae C fn aA ops (i::rest) Q (A n env D) s:=by
 obtain⟨a,c,rfl⟩:=lq.form
 exact aDe hC ho hw tf hx h
end rules
theorem ee{K J:Cells}(hp:rw'.Perm (K++J))(h:Sub ro aC):(⟨ro,K⟩:St).le ⟨aC,rw'⟩:=⟨J,hp,fun b o hb=> .inl (h b o hb)⟩
theorem ah(h:l.all single=true):∀v∈l,single v=true:=List.all_eq_true.1 h
section any
variable {P:Program} {C:Class} {fn:FuncId} {aA:Option Nat} {Q:Post} {s:St} {n:Nat} {D:List Deferred} {ops:Array Oper} {base:Env}
def asy(C:Class)(fn:FuncId)(aA:Option Nat)(ops:Array Oper)(n:Nat)(D:List Deferred)(base:Env)(Pl Sl:List (Nat×Value))(Q:Post)(s:St)(i:Nat):Prop:=
 ∀rest todo,(∀v s',(∀j w,(j,w)∈pending ops i Sl→eZ C fn aA ops n D j w (cF ops base j Pl) s→eZ C fn aA ops n D j w (cF ops base j Pl) s')→
  tL C fn aA ops n D base ((i,v)::Pl) (pending ops i Sl) Q s'→ae C fn aA ops todo Q (A n (upd (aR ops i) v (cF ops base i Pl++rest)) D) s')→
  ae C fn aA ops (i::todo) Q (A n (cF ops base i Pl++rest) D) s
def yj(C:Class)(fn:FuncId)(aA:Option Nat)(ops:Array Oper)(n:Nat)(D:List Deferred)(base:Env)(Pl Sl:List (Nat×Value))(Q:Post)(s:St):List Nat→Prop
 | []=>True
 |i::is=>asy C fn aA ops n D base Pl Sl Q s i∧yj C fn aA ops n D base Pl Sl Q s is
theorem yj.mem{Pl Sl:List (Nat×Value)}:∀ {is:List Nat},yj C fn aA ops n D base Pl Sl Q s is→∀i∈is,asy C fn aA ops n D base Pl Sl Q s i
 | [],_,i,hi=>by cases hi
 |k::is,h,i,hi=>by
  rcases List.mem_cons.1 hi with rfl|hi
  ·exact h.1
  exact yj.mem h.2 i hi
def afx(ops:Array Oper)(ks:List Nat)(is:List Nat):Bool:=
 (List.range ops.size).all fun j=>bn j ks||bn j is||(bB ops j).any fun k=> !bn k ks
theorem acJ{Pl Sl:List (Nat×Value)}(is:List Nat)(nn:fN ops=true)(his:(is.all fun i=>Nat.blt i ops.size&& !bn i (ak Pl))=true)(mG:nodupB (ak Pl)=true)(ky:py ops (ak Pl)=true)(hs:fO (ak Sl) (ak Pl)=true)(ho:afx ops (ak Pl) is=true)
 (h:yj C fn aA ops n D base Pl Sl Q s is)(ek:is.isEmpty=false):tL C fn aA ops n D base Pl Sl Q s:=by
 have q9:∀i∈is,i∉ak Pl:=fun i hi hm=>by
  have:=(List.all_eq_true.1 his) i hi
  rw[aJ.2 hm] at this;simp at this
 have Kz:∀i∈is,i <ops.size:=fun i hi=>by
  have:=(List.all_eq_true.1 his) i hi
  simp only[Bool.and_eq_true,Nat.blt_eq] at this
  exact this.1
 have HZ:∀(l:List (Nat×Value)),nodupB (ak l)=true→∀j v w,(j,v)∈l→(j,w)∈l→w=v:=by
  intro l
  induction l with
  |nil=>intro _ j v w h;cases h
  |cons x l ih=>
   rcases x with ⟨k,u⟩
   intro hb j v w h1 h2
   simp only[ak,nodupB,Bool.and_eq_true,Bool.not_eq_true'] at hb
   have hk:k∉ak l:=fun hm=>by rw[aJ.2 hm] at hb;cases hb.1
   rcases List.mem_cons.1 h1 with h1|h1<;>rcases List.mem_cons.1 h2 with h2|h2
   ·cases h1;cases h2;rfl
   ·cases h1;exact absurd (aP.2 ⟨_,h2⟩) hk
   ·cases h2;exact absurd (aP.2 ⟨_,h1⟩) hk
   exact ih hb.2 j v w h1 h2
 intro hSl X l
 induction l generalizing X with
 |nil=>
  intro env hX hl pE hf
  cases is with
  |nil=>cases ek
  |cons i is=>exact absurd (hX i (pE i (Kz i List.mem_cons_self))) (q9 i List.mem_cons_self)
 |cons j l ih=>
  intro env hX hl pE hf
  obtain⟨h1,h2,h3,h4⟩:=pE
  by_cases hj:j∈ak Pl
  ·
   obtain⟨w,hw⟩:=aP.1 hj
   obtain⟨rest,hr⟩:=wY (n:=n) (D:=D) hf j h3 h2
   rw[hr]
   refine hSl j w (hl j w hw h2) s (Ext.refl s) rest l Q ?_
   rw[←Ej hr]
   refine ih (j::X) _ (fun k hk=>?_) (fun k u hk Cu=>hl k u hk (fun h=>Cu (List.mem_cons_of_mem _ h))) h4 (tD nn hf h1 h2 h3 (fun u hu=>HZ Pl mG j w u hw hu))
   rcases List.mem_cons.1 hk with rfl|hk
   ·exact hj
   exact hX k hk
  by_cases AV:j∈is
  ·have h:=yj.mem h j AV
   have q9:=q9 j AV
   obtain⟨rest,hr⟩:=wY (n:=n) (D:=D) hf j h3 h2
   rw[hr]
   refine h rest l fun v s' hp ha=>?_
   rw[←Ej hr]
   have OF:∀k,k∈ak Pl→j∉bB ops k:=by
    intro k hk hm
    have:=(List.all_eq_true.1 ky) k hk
    exact q9 (bQ.1 this j hm)
   have VT:∀k u,(k,u)∈pending ops j Sl→(k,u)∈Sl:=fun k u hk=>(List.mem_filter.1 hk).1
   refine ha (fun k u hk=>?_) (j::X) l _ (fun k hk=>?_) (fun k u hk Cu=>?_) h4 ?_
   ·rw[db (OF k (bQ.1 hs k (aP.2 ⟨u,VT k u hk⟩)))]
    exact hp k u hk (hSl k u (VT k u hk))
   ·rcases List.mem_cons.1 hk with rfl|hk
    ·simp[ak]
    exact List.mem_cons_of_mem _ (hX k hk)
   ·rcases List.mem_cons.1 hk with hk|hk
    ·cases hk;exact absurd (by simp) Cu
    have OB:k∉X:=fun h=>Cu (List.mem_cons_of_mem _ h)
    refine List.mem_filter.2 ⟨hl k u hk OB,?_⟩
    cases hm:bn k (bB ops j) with
    |false=>rfl
    |true=>exact absurd (h3 k (aJ.1 hm)) OB
   refine tD nn (DT hf h2) h1 h2 h3 fun u hu=>?_
   rcases List.mem_cons.1 hu with hu|hu
   ·cases hu;rfl
   exact absurd (aP.2 ⟨_,hu⟩) q9
  exfalso
  have:=(List.all_eq_true.1 ho) j (List.mem_range.2 h1)
  have e1:bn j (ak Pl)=false:=by
   cases hm:bn j (ak Pl) with
   |false=>rfl
   |true=>exact absurd (aJ.1 hm) hj
  have e2:bn j is=false:=by
   cases hm:bn j is with
   |false=>rfl
   |true=>exact absurd (aJ.1 hm) AV
  rw[e1,e2] at this
  simp only[Bool.false_or,List.any_eq_true,Bool.not_eq_true'] at this
  obtain⟨k,hk,bZ⟩:=this
  have:=hX k (h3 k hk)
  rw[aJ.2 this] at bZ;cases bZ
end any
section rules
variable {P:Program} {C:Class} {fn:FuncId} {aA:Option Nat} {Q:Post} {s:St} {n:Nat} {env:Env} {D:List Deferred}
variable {ops:Array Oper} {i:Nat} {rest:List Nat} {dst:Option Tmp} {ty:TypeId} {pos:String} {dk:Array Edge} {g:Option (Nat×Bool)}
variable {T:TypeId} {d:TypeDesc} {sz bG:Nat} {z:List Value} {ag:Bool} {ro:Nat→Option Obj}
theorem wz{a:Act}(hC:∀main T,C main T→Closed P main T){rw:Cells}(hp:rw'.Perm rw)(h:ae C fn aA ops todo Q a ⟨ro,rw⟩):ae C fn aA ops todo Q a ⟨ro,rw'⟩:=
 ae.more (s:=⟨ro,rw⟩) (s':=⟨ro,rw'⟩) hC ⟨[],by rw[List.append_nil];exact hp,fun b o hb=> .inl hb⟩ h
theorem oap(hC:∀main T,C main T→Closed P main T){v w:Value}{enc:α→List Value}{ps qs:List α}{L R:List (Nat×Obj)}{d':TypeDesc}{E2:TypeId}{sz2 Ce:Nat}{z2:List Value}{ag2:Bool} 
 (ho:ops[i]?=some ⟨dst,.call ⟨.builtin .append,#[x,y],#[T,U]⟩,ty,pos,dk,g⟩) (hw:ay ops n env g=true) (tf:TF P T (.slice E) sz bG z ag) (TW:TF P U (.slice E2) sz2 Ce z2 ag2) (kD:TF P E d' iM vD z' xA) (hz:z'.length=iM)
 (hx:bA n env x=some v) (hy:bA n env y=some w) (lq:aw v iM E enc ps L) (Mz:Sl ⟨ro,L++R⟩ w iM enc qs) (hq:∀p∈qs,∀c∈enc p,single c=true) (hb:wB (ps.length+qs.length) vD)
 (h:∀v' L',aw v' iM E enc (ps++qs) L'→ae C fn aA ops rest Q (A n (upd dst v' env) D) ⟨ro,L'++R⟩):ae C fn aA ops (i::rest) Q (A n env D) ⟨ro,L++R⟩:=
 RA hC ho hw tf TW kD hz hx hy lq Mz (pre:=[]) rfl hq hb h
theorem ost(hC:∀main T,C main T→Closed P main T){o:Nat}{v:Value}{R:List (Nat×Obj)}{c:List Value}{e:TypeId}(ho:ops[i]?=some ⟨dst,.store T x y,ty,pos,dk,g⟩) (hw:ay ops n env g=true) (tf:TF P T d sz bG z ag)
 (hx:bA n env x=some (.pointer (some ⟨b,o,none⟩))) (hy:bA n env y=some (v)) (hl:v.cells=⟨l⟩) (hn:l.length=sz) (h1:∀v∈l,single v=true) (hb:o+l.length≤c.length)
 (h:ae C fn aA ops rest Q (A n (upd dst undef env) D) ⟨ro,(b,.cells ⟨dK c o l⟩ e (0,0))::R⟩):ae C fn aA ops (i::rest) Q (A n env D) ⟨ro,(b,.cells ⟨c⟩ e (0,0))::R⟩:=
 Gk hC ho hw tf hx hy hl hn h1 (L:=[]) rfl hb h
end rules
section rules
variable {P:Program} {C:Class} {fn:FuncId} {aA:Option Nat} {Q:Post} {s:St} {n:Nat} {env:Env} {D:List Deferred}
variable {ops:Array Oper} {i:Nat} {rest:List Nat} {dst:Option Tmp} {ty:TypeId} {pos:String} {dk:Array Edge} {g:Option (Nat×Bool)}
theorem auE(hC:∀main T,C main T→Closed P main T){k:IntKind}{a b:Int}(ho:ops[i]?=some ⟨dst,.call ⟨.builtin .min,#[x,y],#[T,U]⟩,ty,pos,dk,g⟩) (hw:ay ops n env g=true)
 (hx:bA n env x=some (.int k a)) (hy:bA n env y=some (.int k b)) (h:ae C fn aA ops rest Q (A n (upd dst (.int k (min a b)) env) D) s):ae C fn aA ops (i::rest) Q (A n env D) s:=by
 refine bW hC ho hw (by simp) ?_
 have e:(if b <a then b else a)=min a b:=by omega
 simp only[execOp,resolve,invoke,builtin,Builtin.min_,List.map_toArray,List.map_cons,List.map_nil,aG hx,aG hy,List.foldlM_cons,List.foldlM_nil,Builtin.min2,aa,af,e]
 rw[←ba] at h
 exact h
theorem auF(hC:∀main T,C main T→Closed P main T){k:IntKind}{a b:Int}(ho:ops[i]?=some ⟨dst,.call ⟨.builtin .max,#[x,y],#[T,U]⟩,ty,pos,dk,g⟩) (hw:ay ops n env g=true)
 (hx:bA n env x=some (.int k a)) (hy:bA n env y=some (.int k b)) (h:ae C fn aA ops rest Q (A n (upd dst (.int k (max a b)) env) D) s):ae C fn aA ops (i::rest) Q (A n env D) s:=by
 refine bW hC ho hw (by simp) ?_
 have e:(if a <b then b else a)=max a b:=by omega
 simp only[execOp,resolve,invoke,builtin,Builtin.max_,List.map_toArray,List.map_cons,List.map_nil,aG hx,aG hy,List.foldlM_cons,List.foldlM_nil,Builtin.max2,aa,af,e]
 rw[←ba] at h
 exact h
end rules
def cI(a b:ByteArray):Bool:=a.toList==b.toList
def strLt(a b:ByteArray):Bool:=Op.bytesLess a.toList b.toList
section rules
variable {P:Program} {C:Class} {fn:FuncId} {aA:Option Nat} {Q:Post} {s:St} {n:Nat} {env:Env} {D:List Deferred}
variable {ops:Array Oper} {i:Nat} {rest:List Nat} {dst:Option Tmp} {ty:TypeId} {pos:String} {dk:Array Edge} {g:Option (Nat×Bool)}
theorem auB(hC:∀main T,C main T→Closed P main T){a b:ByteArray}(ho:ops[i]?=some ⟨dst,.binOp .add T x y T',ty,pos,dk,g⟩) (hw:ay ops n env g=true)
 (hx:bA n env x=some (.string a)) (hy:bA n env y=some (.string b)) (hb:(a.size:Int)+b.size≤9223372036854775807) (h:ae C fn aA ops rest Q (A n (upd dst (.string (a++b)) env) D) s):ae C fn aA ops (i::rest) Q (A n env D) s:=
 BB hC ho hw hx hy (v:= .string (a++b)) (by
  simp only[Op.stringOp]
  rw[if_neg]
  ·rfl
  have:IntKind.i64.max=9223372036854775807:=by decide
  rw[this];push_cast;omega) rfl h
end rules
theorem ayT(b:ByteArray)(i:Nat)(h:i <b.size):b.get! i=b.data.toList[i]'(by simpa using h):=by
 have h':i <b.data.size:=h
 show b.data[i]! =_
 rw[getElem!_pos b.data i h']
 simp
theorem aad(b:ByteArray):∀(n i:Nat) (r:List UInt8),b.size-i=n→ByteArray.toList.loop b i r=r.reverse++b.data.toList.drop i
 |0,i,r,h=>by
  unfold ByteArray.toList.loop
  rw[if_neg (by omega),List.drop_eq_nil_of_le]
  ·simp
  show b.data.toList.length≤i
  rw[Array.length_toList]
  have:b.data.size=b.size:=rfl
  omega
 |n+1,i,r,h=>by
  unfold ByteArray.toList.loop
  have hi:i <b.size:=by omega
  rw[if_pos hi,aad b n (i+1) _ (by omega),ayT b i hi]
  have hl:i <b.data.toList.length:=by rw[Array.length_toList];exact hi
  rw[List.drop_eq_getElem_cons hl]
  simp
theorem qh(b:ByteArray):b.toList=b.data.toList:=by
 show ByteArray.toList.loop b 0 []=_
 rw[aad b _ 0 [] rfl]
 simp
theorem CQ{a b:ByteArray}:cI a b=true↔a=b:=by
 unfold cI
 rw[qh,qh]
 simp only[beq_iff_eq]
 constructor
 ·intro h
  have:a.data=b.data:=Array.toList_inj.1 h
  cases a;cases b;simp at this;subst this;rfl
 rintro rfl;rfl
theorem Bo(a b:ByteArray):cI a b=(a.data.toList==b.data.toList):=by unfold cI;rw[qh,qh]
theorem QH(a b:ByteArray):strLt a b=Op.bytesLess a.data.toList b.data.toList:=by unfold strLt;rw[qh,qh]
def FnG(P:Program)(f:FuncId)(args:List Value)(ro:Nat→Option Obj)(own:Cells)(Φ:Value→(Nat→Option Obj)→Cells→Prop):Prop:=
 Fn (CP P) P f ⟨args⟩ ⟨ro,own⟩ (fun en s'=>∃v aC X,en= .returned v∧s'=⟨aC,X⟩∧Sub ro aC∧Φ v aC X)
theorem FnG.use{own:Cells}{Φ:Value→(Nat→Option Obj)→Cells→Prop}(hp:s.rw.Perm (own++fr))(hf:FnG P f vs s.ro own Φ):
 Fn (CP P) P f ⟨vs⟩ s (fun en s'=>∃v aC X,en= .returned v∧Sub s.ro aC∧Φ v aC X∧(⟨aC,X++fr⟩:St).le s'):=by
 refine Fn.mono (Fn.frame (fr:=fr) (B:=[]) (ro:=s.ro) (s:=s) hf (fun _ h=>(by cases h)) ⟨hp,fun b o hb=> .inl hb,Sub.refl _⟩) fun en s' EN=>?_
 obtain⟨zn,⟨v,aC,X,rfl,rfl,hs,qB⟩,hc⟩:=EN
 refine⟨v,aC,X,rfl,hs,qB,[],by simpa using hc.rw,fun b o hb=>?_⟩
 rcases hc.aF b o hb with h|h
 ·exact .inl h
 cases h
theorem Hg:∀(A l:List Value) (o:Nat) (c:List Value),dK (A++l) (A.length+o) c=A++dK l o c
 | [],l,o,c=>by simp
 |a::A,l,o,[]=>by rw[lP,lP]
 |a::A,l,o,v::c=>by
  have:=Hg A l o (v::c)
  rw[show (a::A).length+o=A.length+o+1 by simp only[List.length_cons];omega]
  simp only[List.cons_append,dK,this]
theorem LJ{m B:List Value}{o:Nat}{c:List Value}(h:o+c.length≤m.length):dK (m++B) o c=dK m o c++B:=by
 rw[rz _ _ _ (by rw[List.length_append];omega),rz _ _ _ h,List.take_append_of_le_length (by omega),List.drop_append_of_le_length h]
 simp only[List.append_assoc]
theorem aa4{m c:List Value}(h:c.length=m.length):dK m 0 c=c:=by
 rw[rz _ _ _ (by omega)]
 simp[h]
theorem Wx{enc:α→List Value}{ps:List α}(VT:∀p∈ps,(enc p).length=sz){x:α}(hx:ps[k]?=some x) (hl:l.take (ps.length*sz)=(ps.map enc).flatten):∃A B,A.length=k*sz∧l=A++(enc x++B):=by
 obtain⟨hk,rfl⟩:=List.getElem?_eq_some_iff.1 hx
 refine⟨((ps.take k).map enc).flatten,((ps.drop (k+1)).map enc).flatten++l.drop (ps.length*sz),?_,?_⟩
 ·rw[kR _ (fun p hp=>VT p (List.mem_of_mem_take hp)),List.length_take,Nat.min_eq_left (by omega)]
 have h3:ps=ps.take k++ps[k]::ps.drop (k+1):=by rw[←List.drop_eq_getElem_cons hk,List.take_append_drop]
 have h4:=congrArg (fun q:List α=>(q.map enc).flatten) h3
 simp only[List.map_append,List.map_cons,List.flatten_append,List.flatten_cons] at h4
 have h5:=(List.take_append_drop (ps.length*sz) l).symm
 rw[hl,h4] at h5
 simpa only[List.append_assoc] using h5
theorem aa5{enc:α→List Value}{ps:List α}(VT:∀p∈ps,(enc p).length=sz){x:α}(hx:ps[k]?=some x) (hl:l.take (ps.length*sz)=(ps.map enc).flatten) {o:Nat} {c:List Value} (h:o+c.length≤sz):
 dK l (k*sz+o) c=dK l (k*sz) (dK (enc x) o c):=by
 have hxl:=VT x (List.mem_of_getElem? hx)
 obtain⟨A,B,h1,rfl⟩:=Wx VT hx hl
 have e0:∀q,dK (A++(enc x++B)) A.length q=A++dK (enc x++B) 0 q:=fun q=>Hg A _ 0 q
 rw[←h1,Hg,e0,LJ (by omega),LJ (by rw[lQ];omega),aa4 (lQ _ _ _)]
section rules
variable {P:Program} {C:Class} {fn:FuncId} {aA:Option Nat} {Q:Post} {ro:Nat→Option Obj} {n:Nat} {env:Env} {D:List Deferred}
variable {ops:Array Oper} {i:Nat} {rest:List Nat} {dst:Option Tmp} {ty:TypeId} {pos:String} {dk:Array Edge} {g:Option (Nat×Bool)}
variable {T:TypeId} {d:TypeDesc} {tsz bG:Nat} {z:List Value} {ag:Bool}
theorem aC6(hC:∀main T,C main T→Closed P main T){o:Nat}{v w:Value}{a e:α}{c:List Value}{enc:α→List Value}{ps:List α}{L R:Cells}(ho:ops[i]?=some ⟨dst,.store T x y,ty,pos,dk,g⟩) (hw:ay ops n env g=true) (tf:TF P T d tsz bG z ag)
 (hx:bA n env x=some (.pointer (some ⟨b,k*sz+o,none⟩))) (hy:bA n env y=some w) (hl:w.cells=⟨c⟩) (hn:c.length=tsz) (h1:∀v∈c,single v=true) (lq:aw v sz E enc ps L) (hb:PB v b) (hk:ps[k]?=some a) (he:enc e=dK (enc a) o c) (hf:o+c.length≤sz)
 (h:∀L',aw v sz E enc (ps.set k e) L'→ae C fn aA ops rest Q (A n (upd dst undef env) D) ⟨ro,L'++R⟩):ae C fn aA ops (i::rest) Q (A n env D) ⟨ro,L++R⟩:=by
 have hk1:k <ps.length:=(List.getElem?_eq_some_iff.1 hk).1
 rcases lq with ⟨_,h2,_⟩| ⟨b',l,cap,g1,g2,g3,g4,g5,g6⟩
 ·subst h2;simp at hk
 obtain⟨n',c',mT⟩:=hb
 rw[g1] at mT
 cases mT
 subst g2
 have hea:(enc a).length=sz:=g5 a (List.mem_of_getElem? hk)
 have EN:(enc e).length=sz:=by rw[he,lQ,hea]
 have hks:k*sz+sz≤ps.length*sz:=by
  have:(k+1)*sz≤ps.length*sz:=Nat.mul_le_mul_right _ (by omega)
  rw[Nat.succ_mul] at this;exact this
 have oU:ps.length*sz≤cap*sz:=Nat.mul_le_mul_right _ g4
 refine Gk (L:=[]) (R:=R) hC ho hw tf hx hy hl hn h1 rfl (by omega)<|h [(b,.cells ⟨dK l (k*sz+o) c⟩ E (0,0))] (.inr ⟨b,_,cap,by rw[g1,List.length_set],rfl,by rw[lQ,g3],by rw[List.length_set];exact g4,fun p hp=>?_,?_⟩)
 ·rcases List.mem_or_eq_of_mem_set hp with h5|h5
  ·exact g5 p h5
  subst h5;exact EN
 rw[List.length_set,aa5 g5 hk g6 hf,←he]
 exact S7 ps g5 k e EN hk1 l g6
end rules
section rules
variable {P:Program} {C:Class} {fn:FuncId} {aA:Option Nat} {Q:Post} {s:St} {n:Nat} {env:Env} {D:List Deferred}
variable {ops:Array Oper} {i:Nat} {rest:List Nat} {dst:Option Tmp} {ty:TypeId} {pos:String} {dk:Array Edge} {g:Option (Nat×Bool)}
structure EF(P:Program)(f:FuncId)(e:Array Value→Sem Value):Prop where
 ef:∃fn,P.funcs[f]?=some fn∧(fn.name== "runtime.NumGoroutine")=false∧fn.body.isNone=true∧(Extern.findNext fn).isNone=true∧Extern.find fn=some e
theorem afF(hC:∀main T,C main T→Closed P main T){e:Array Value→Sem Value}(ho:ops[i]?=some ⟨dst,.call ⟨.value (.func f),xs,at_⟩,ty,pos,dk,g⟩) (hw:ay ops n env g=true)
 (ef:EF P f e) (hx:vM n env xs=some vs) (h:bR P (e ⟨vs⟩) s (fun v s'=>ae C fn aA ops rest Q (A n (upd dst v env) D) s') (fun _ _=>False)):ae C fn aA ops (i::rest) Q (A n env D) s:=by
 obtain⟨fn',h1,h2,h3,h4,h5⟩:=ef.ef
 have h4':Extern.findNext fn'=none:=by
  cases hh:Extern.findNext fn' with
  |none=>rfl
  |some x=>rw[hh] at h4;cases h4
 refine bW hC ho hw (by simp) ?_
 simp only[execOp,resolve,ev,Deferred.ofValue,af,sD hx]
 simp only[invoke,Array.append_empty,Array.empty_append,callFunc,e9,h1,h2,h3,h4',h5,if_true,Bool.false_eq_true,if_false]
 refine⟨rfl,?_⟩
 refine Qq (e ⟨vs⟩) (fun v=>(pure (Next.value v):Sem Next)) _ _ _<|vW _ _ _ _ _ _ (fun v s' hv=>?_) (fun _ _ (hf:False)=>hf.elim) h
 rw[←ba] at hv
 exact hv
end rules
def R7(a:ByteArray)(b:UInt8):Int:=
 match (List.range a.size).find? fun i=>a[i]! ==b with
 |some i=>i
 |none=> -1
section rules
variable {P:Program} {C:Class} {fn:FuncId} {aA:Option Nat} {Q:Post} {s:St} {n:Nat} {env:Env} {D:List Deferred}
variable {ops:Array Oper} {i:Nat} {rest:List Nat} {dst:Option Tmp} {ty:TypeId} {pos:String} {dk:Array Edge} {g:Option (Nat×Bool)}
theorem afD(hC:∀main T,C main T→Closed P main T){a:ByteArray}{b:Int}(ho:ops[i]?=some ⟨dst,.call ⟨.value (.func f),xs,at_⟩,ty,pos,dk,g⟩) (hw:ay ops n env g=true)
 (ef:EF P f Extern.BytealgIndexByte.indexByte) (hx:vM n env xs=some [.string a,.int .u8 b]) (h:ae C fn aA ops rest Q (A n (upd dst (.int .i64 (R7 a b.toNat.toUInt8)) env) D) s):ae C fn aA ops (i::rest) Q (A n env D) s:=by
 refine afF hC ho hw ef hx ?_
 unfold R7 at h
 show bR P (match (List.range a.size).find? fun i=>a[i]! ==b.toNat.toUInt8 with|some i=>pure (goInt i)|none=>pure (goInt (-1))) s _ _
 split
 ·rename_i j hj
  rw[hj] at h;exact h
 rename_i hj
 rw[hj] at h;exact h
theorem am1(hC:∀main T,C main T→Closed P main T){v:Value}(ho:ops[i]?=some ⟨dst,.call ⟨.value (.func f),xs,at_⟩,ty,pos,dk,g⟩) (hw:ay ops n env g=true)
 (ef:EF P f Extern.AbiNoEscape.same) (hx:vM n env xs=some [v]) (h:ae C fn aA ops rest Q (A n (upd dst v env) D) s):ae C fn aA ops (i::rest) Q (A n env D) s:=
 afF hC ho hw ef hx h
end rules
theorem aco{b:ByteArray}{p:Nat}{c:UInt8}(h:b.data.toList[p]?=some c) (ha:c.toNat <128):p <b.size∧Utf8.decode b p=(c.toNat,1):=by
 rw[Array.getElem?_toList] at h
 obtain⟨h1,h2⟩:=Array.getElem?_eq_some_iff.1 h
 refine⟨h1,?_⟩
 have h3:b.get! (p+0)=c:=by
  show b.data[p+0]! =c
  rw[Nat.add_zero,getElem!_pos b.data p h1,h2]
 simp only[Utf8.decode,h3]
 rw[if_pos (by omega)]
section rules
variable {P:Program} {C:Class} {fn:FuncId} {aA:Option Nat} {Q:Post} {ro:Nat→Option Obj} {n:Nat} {env:Env} {D:List Deferred}
variable {ops:Array Oper} {i:Nat} {rest:List Nat} {dst:Option Tmp} {ty:TypeId} {pos:String} {dk:Array Edge} {g:Option (Nat×Bool)}
theorem am3(hC:∀main T,C main T→Closed P main T){b:ByteArray}{r p:Nat}{R:Cells}{c:UInt8}(ho:ops[i]?=some ⟨dst,.next x true,ty,pos,dk,g⟩) (hw:ay ops n env g=true) (hx:bA n env x=some (.pointer (some ⟨r,0,none⟩))) (hp:b.data.toList[p]?=some c) (ha:c.toNat <128)
 (h:ae C fn aA ops rest Q (A n (upd dst (.tuple ⟨[.bool true,.int .i64 p,.int .i32 c.toNat]⟩) env) D) ⟨ro,(r,.stringIter b (p+1))::R⟩):ae C fn aA ops (i::rest) Q (A n env D) ⟨ro,(r,.stringIter b p)::R⟩:=by
 obtain⟨h1,h2⟩:=aco hp ha
 refine abg hC ho hw hx (L:=[]) rfl h1 ?_
 rw[h2]
 exact h
theorem am2(hC:∀main T,C main T→Closed P main T){b:ByteArray}{r p:Nat}{R:Cells}(ho:ops[i]?=some ⟨dst,.next x true,ty,pos,dk,g⟩) (hw:ay ops n env g=true) (hx:bA n env x=some (.pointer (some ⟨r,0,none⟩))) (hp:b.data.toList[p]?=none)
 (h:ae C fn aA ops rest Q (A n (upd dst (.tuple ⟨[.bool false]⟩) env) D) ⟨ro,(r,.stringIter b p)::R⟩):ae C fn aA ops (i::rest) Q (A n env D) ⟨ro,(r,.stringIter b p)::R⟩:=by
 refine abh hC ho hw hx (L:=[]) rfl ?_ h
 rw[Array.getElem?_toList,Array.getElem?_eq_none_iff] at hp
 exact Nat.not_lt.2 hp
end rules
theorem GP(ops:Array Oper)(n:Nat)(env:Env)(D:List Deferred)(o:Oper)(j:Nat)(want:Bool)(d:Tmp)(hg:o.guard=some (j,want))(hd:(ops[j]?).bind (·.dst)=some d)
 (hv:bA n env (.tmp d)=some undef):Region.wanted o (yielded ops (A n env D).tmps)=false:=by
 unfold Region.wanted
 rw[hg]
 simp only[bA] at hv
 by_cases cU:d <n
 ·rw[show Nat.blt d n=true from by simpa [Nat.blt_eq] using cU] at hv
  simp only[cond_true] at hv
  simp only[yielded,hd,Option.bind_some,PK]
  rw[if_pos cU,nq hv]
  rfl
 rw[show Nat.blt d n=false from by simpa [Nat.blt_eq,←Bool.not_eq_true] using cU] at hv
 cases hv
section rules
variable {P:Program} {C:Class} {fn:FuncId} {aA:Option Nat} {Q:Post} {s:St} {n:Nat} {env:Env} {D:List Deferred}
variable {ops:Array Oper} {i:Nat} {rest:List Nat} {dst:Option Tmp} {ty:TypeId} {pos:String} {dk:Array Edge} {g:Option (Nat×Bool)}
theorem am0(hC:∀main T,C main T→Closed P main T){op:Op}{j:Nat}{want:Bool}{d:Tmp}(ho:ops[i]?=some ⟨dst,op,ty,pos,dk,some (j,want)⟩) (hd:(ops[j]?).bind (·.dst)=some d)
 (hv:bA n env (.tmp d)=some undef) (h:ae C fn aA ops rest Q (A n (upd dst undef env) D) s):ae C fn aA ops (i::rest) Q (A n env D) s:=by
 refine ue hC ho (GP _ _ _ _ _ _ _ _ rfl hd hv) ?_
 rw[ba];exact h
end rules
section rules
variable {P:Program} {C:Class} {fn:FuncId} {Q:Post} {s:St} {n:Nat} {env:Env} {D:List Deferred}
variable {ops:Array Oper} {i:Nat} {rest:List Nat} {dst:Option Tmp} {ty:TypeId} {pos:String} {dk:Array Edge} {g:Option (Nat×Bool)}
theorem am5(hC:∀main T,C main T→Closed P main T){ca:List Value}(ho:ops[i]?=some ⟨dst,.defer ⟨.value x,#[],#[]⟩,ty,pos,dk,g⟩) (hw:ay ops n env g=true)
 (hx:bA n env x=some (.func (.func f) ⟨[]⟩ ⟨ca⟩)) (h:ae C fn none ops rest Q (A n (upd dst undef env) ({target:= .fn (.func f) ⟨ca⟩,args:= #[]}::D)) s):ae C fn none ops (i::rest) Q (A n env D) s:=by
 refine N0 hC ho (CJ _ _ _ _ _ hw) (.inl rfl) ?_
 rw[eI]
 simp only[execOp,resolve,aG hx,Deferred.ofValue,af]
 refine⟨rfl,?_⟩
 have hA:({A n env D with defers:={target:= .fn (.func f) ⟨ca⟩,args:= #[]}::(A n env D).defers}:Act).put dst undef=A n (upd dst undef env) ({target:= .fn (.func f) ⟨ca⟩,args:= #[]}::D):=by
  rw[←ba];rfl
 rw[←hA] at h
 have he:(⟨[]⟩:Array Value)++Array.map (ev n env) #[]= #[]:=by simp
 rw[he]
 exact h
def WL(C:Class)(P:Program)(fn:Func)(g:FuncId)(gn:Func)(t:Tmp)(rest:Code)(R:Ending→St→Prop):Post:=fun e a s=>
 (e= .normal∨e= .ret)∧∃ca:List Value,Nat.ble ca.length gn.ntmps=true∧a.defers=[{target:= .fn (.func g) ⟨ca⟩,args:= #[]}]∧
  Wp C g none rest (fun e2 a2 s2=>(e2= .normal∨e2= .ret)∧a2.defers=[]∧bR P (results fn a.tmps) s2 (fun v s3=>∃s0,s0.le s3∧R (.returned v) s0) (fun _ _=>False)) (A gn.ntmps (upd (some t) .nilIface (fU 0 ca)) []) s
theorem IG(hC:∀main T,C main T→Closed P main T){fn:Func}{c:Code}{gid:FuncId}{gn:Func}{t:Tmp}{rc:Code}(hf:P.funcs[f]?=some fn) (hb:fn.body=some c) (hn:fn.ntmps=n) (hl:Nat.ble args.length n=true)
 (ahp:J9 P gid=some (gn,t,rc)) (h:Wp C f none c (WL C P fn gid gn t rc R) (A n (fU 0 args) []) s):Fn C P f ⟨args⟩ s R:=by
 intro main T hT cl cs k1 k2
 have iZ:=hC main T hT
 let b:Frame:={(default:Frame) with fn:=f,kind:= .normal,roundOf:=none}
 have iG:Frame.enter P f ⟨args⟩ .normal=aK b (A n (fU 0 args) []) [.code c]:=by
  rw[←lv args n (Nat.le_of_ble_eq_true hl)]
  simp[Frame.enter,aK,hf,hb,hn,b]
 rw[iG]
 obtain⟨hgf,BM,JJ,id,o,at_,hgb,h1,h2,h3⟩:=(Yc ahp).ex
 have ff:FF P gid:=⟨gn,hgf,JJ,by rw[hgb];rfl⟩
 have sA:∀(todo:List Item) (a':Act) (s':St) (ca:List Value),Nat.ble ca.length gn.ntmps=true→a'.defers=[{target:= .fn (.func gid) ⟨ca⟩,args:= #[]}]→
  Wp C gid none rc (fun e2 a2 s2=>(e2= .normal∨e2= .ret)∧a2.defers=[]∧bR P (results fn a'.tmps) s2 (fun v s3=>∃s0,s0.le s3∧R (.returned v) s0) (fun _ _=>False)) (A gn.ntmps (upd (some t) .nilIface (fU 0 ca)) []) s'→
  T (G {aK b a' todo with mode:= .returning} (cl::cs)) s':=by
  intro todo a' s' ca hlc hd hw
  refine j7 hC hT (.inl rfl) ff (ds:=[]) (a:= #[]) (ca:=⟨ca⟩) hd ?_
  let d:Frame:={(default:Frame) with fn:=gid,kind:= .deferred,roundOf:=none}
  have aov:Frame.enter P gid ((#[]:Array Value)++⟨ca⟩) .deferred=aK d (A gn.ntmps (fU 0 ca) []) [.code (.seq (.region id #[o] false) rc)]:=by
   rw[←lv ca gn.ntmps (Nat.le_of_ble_eq_true hlc)]
   simp[Frame.enter,aK,hgf,hgb,d]
  rw[aov]
  let c0:Frame:={aK b a' todo with mode:= .returning,defers:=[]}
  show T (G _ (c0::cl::cs)) s'
  refine iZ.go rfl rfl (g':=G (aK d (A gn.ntmps (fU 0 ca) []) [.code (.region id #[o] false),.code rc]) (c0::cl::cs)) (fun w=>by simp[G,stepG,stepG.exec,aK])<|iZ.go rfl rfl (g':=G (aK d (A gn.ntmps (fU 0 ca) []) [.inRegion #[o] [0],.code rc]) (c0::cl::cs)) (fun w=>by simp[G,stepG,stepG.exec,aK,List.range,List.range.loop])<|Bt hC hT (u:= .ret) (ρ:=fun _=>none) rfl rfl h1 h2 h3 .ret fun v' nI hv VY=>?_
  have hv':v'= .nilIface:=by
   rcases hv with hv|hv
   ·cases hv;rfl
   exact hv.2
  subst hv'
  refine iZ.go rfl rfl (g':=G (aK d ((A gn.ntmps (fU 0 ca) []).put (some t) .nilIface) [.code rc]) ({c0 with mode:=nI}::cl::cs)) (fun w=>by simp[G,stepG,stepG.exec,aK]) ?_
  rw[ba]
  have Sk:∀tmps,results gn tmps=Sem.pure (.tuple #[]):=by intro tmps;simp[results,BM];rfl
  have yS:∀(Xy:List Item) (a2:Act) (s2:St),a2.defers=[]→bR P (results fn a'.tmps) s2 (fun v s3=>∃s0,s0.le s3∧R (.returned v) s0) (fun _ _=>False)→T (G {aK d a2 Xy with mode:= .returning} ({c0 with mode:=nI}::cl::cs)) s2:=by
   intro Xy a2 s2 hd2 wJ
   have mS:T (G c0 (cl::cs)) s2:=sY hC hT hf rfl rfl rfl rfl wJ k1
   refine iZ.go rfl rfl (fun w=>?_) mS
   rcases VY with rfl| ⟨v,rfl⟩
   ·simp only[G,stepG,unwind,aK,d,hgf,Sk,Sem.runT,sX,hd2]
    simp[GStep.after,doReturn,c0,aK]
   simp only[G,stepG,unwind,aK,d,hgf,Sk,Sem.runT,sX,hd2]
   simp[GStep.after,doReturn,c0,aK]
  refine hw main T hT d [] _ rfl (by simp[d]) rfl fun e2 a2 s2 q=>?_
  obtain⟨q1,q2,q3⟩:=q
  rcases q1 with rfl|rfl
  ·exact iZ.go rfl rfl (g':=G {aK d a2 [] with mode:= .returning} ({c0 with mode:=nI}::cl::cs)) (fun w=>by simp[G,stepG,stepG.exec,aK,d]) (yS _ _ _ q2 q3)
  exact fun Xy=>iZ.go rfl rfl (g':=G {aK d a2 (.code .ret::Xy) with mode:= .returning} ({c0 with mode:=nI}::cl::cs)) (fun w=>by simp[G,stepG,stepG.exec,aK,d]) (yS _ _ _ q2 q3)
 refine h main T hT b [] (cl::cs) rfl (by simp[b]) rfl fun e a' s' q=>?_
 obtain⟨q1,ca,q0,q2,q3⟩:=q
 rcases q1 with rfl|rfl
 ·exact iZ.go rfl rfl (g':=G {aK b a' [] with mode:= .returning} (cl::cs)) (fun w=>by simp[G,stepG,stepG.exec,aK,b]) (sA _ _ _ ca q0 q2 q3)
 exact fun todo=>iZ.go rfl rfl (g':=G {aK b a' (.code .ret::todo) with mode:= .returning} (cl::cs)) (fun w=>by simp[G,stepG,stepG.exec,aK,b]) (sA _ _ _ ca q0 q2 q3)
end rules
section rules
variable {P:Program} {C:Class} {fn:FuncId} {aA:Option Nat} {Q:Post} {s:St} {n:Nat} {env:Env} {D:List Deferred}
variable {ops:Array Oper} {i:Nat} {rest:List Nat} {dst:Option Tmp} {ty:TypeId} {pos:String} {dk:Array Edge} {g:Option (Nat×Bool)}
variable {T:TypeId} {sz bG:Nat} {z:List Value} {ag:Bool}
theorem amZ(hC:∀main T,C main T→Closed P main T){a:Option Addr}{l c:Nat}(ho:ops[i]?=some ⟨dst,.binOp .eql T x y T',ty,pos,dk,g⟩) (hw:ay ops n env g=true) (tf:TF P T (.slice E) sz bG z ag)
 (hx:bA n env x=some (.slice a l c)) (hy:bA n env y=some (.slice none 0 0)) (h:ae C fn aA ops rest Q (A n (upd dst (.bool a.isNone) env) D) s):ae C fn aA ops (i::rest) Q (A n env D) s:=by
 refine bW hC ho hw (by simp) ?_
 have hg:eqGuard .eql T x y (.slice a l c) (.slice none 0 0)=Sem.pure ():=by cases a<;>rfl
 have hb:binOp .eql T (.slice a l c) (.slice none 0 0)=(Op.equal T (.slice a l c) (.slice none 0 0) >>= fun r=>pure (.bool r)):=by cases a<;>rfl
 have he:∀ {α:Type} (K:Bool→Sem α) (Q:α→St→Prop) (E:Halt→St→Prop),bR P (K a.isNone) s Q E→bR P (Op.equal T (.slice a l c) (.slice none 0 0) >>= K) s Q E:=by
  intro α K Q E hK
  have gen:∀d,bR P (Op.equalIn (d+1) T (.slice a l c) (.slice none 0 0) >>= K) s Q E:=by
   intro d
   cases a<;>(simp only[Op.equalIn,aa,bk tf,af,Option.isNone];exact hK)
  exact gen 9999
 simp only[execOp,aG hx,aG hy,hg,hb]
 show bR P ((Op.equal T (.slice a l c) (.slice none 0 0) >>= fun r=>(pure (Value.bool r):Sem Value)) >>= fun x=>(pure (Next.value x):Sem Next)) s _ _
 simp only[aa]
 refine he _ _ _ ?_
 rw[←ba] at h
 exact h
end rules
def afc:Op→Option (List Operand)
 | .move x=>some [x]
 | .assign x=>some [x]
 | .extract x _=>some [x]
 | .nilCheck x=>some [x]
 | .fieldAddr _ x _=>some [x]
 | .makeInterface _ x=>some [x]
 | .indexAddr _ x y=>some [x,y]
 |op=>Hj op
theorem Q7{xs:List Operand}(h:afc o.op=some xs){f g:Operand→Value}(hfg:∀x∈xs,f x=g x):execOp f o=execOp g o:=by
 unfold afc at h
 split at h
 all_goals first
  | (rename_i heq;simp only[Option.some.injEq] at h;subst h;simp[execOp,heq,hfg];done)
  |exact tY h hfg
def evj(n:Nat)(e:Env)(x:Operand):Value:=(bA n e x).getD undef
theorem O4{f:Operand→Value}(hf:Ev n e f):∀ {xs:List Operand} {vs:List Value},yF n e xs=some vs→∀x∈xs,f x=evj n e x
 |y::l,vs,h,x,hx=>by
  simp only[yF] at h
  cases hv:bA n e y with
  |none=>rw[hv] at h;cases h
  |some v=>
   rw[hv] at h
   cases hr:yF n e l with
   |none=>rw[hr] at h;cases h
   |some r=>
    rcases List.mem_cons.1 hx with rfl|hx
    ·rw[hf _ _ hv,evj,hv];rfl
    exact O4 hf hr x hx
def atP(P:Program)(n:Nat)(e:Env)(o:Oper):Option Value:=
 match afc o.op with
 |some xs=>match yF n e xs with
  |some _=>match bC P (execOp (evj n e) o) with
   |some (.value v)=>some v
   |_=>none
  |none=>none
 |none=>none
def aDE(P:Program)(n:Nat)(e:Env)(x:Operand)(T:TypeId):Option Value:=
 match bh P T with
 |some ⟨.slice _,_,_,_⟩=>match bA n e x with
  |some (.slice _ len _)=>some (.int .i64 len)
  |_=>none
 |some ⟨.string,_,_,_⟩=>match bA n e x with
  |some (.string b)=>some (.int .i64 b.size)
  |_=>none
 |_=>none
def WV(P:Program)(n:Nat)(e:Env)(T:TypeId)(ps:Array (Nat×Operand)):Option Value:=
 match bh P T with
 |some ⟨.struct fields,_,z,_⟩=>match xM P fields.toList with
  |some pl=>match P0 n e ps.toList with
   |some pv=>match oY (fun i=>pl[i]?) z (ub pv) with
    |some l=>some (.agg ⟨l⟩)
    |none=>none
   |none=>none
  |none=>none
 |some ⟨.array _ E,_,z,_⟩=>match bh P E with
  |some te=>match P0 n e ps.toList with
   |some pv=>match oY (fun i=>some (i*te.size,te.size)) z (ub pv) with
    |some l=>some (.agg ⟨l⟩)
    |none=>none
   |none=>none
  |none=>none
 |_=>none
def adP(P:Program)(n:Nat)(e:Env)(o:Oper):Option Value:=
 match o.op with
 | .pick c x y=>match bA n e c with
  |some (.bool true)=>bA n e x
  |some (.bool false)=>bA n e y
  |_=>none
 | .makeFunc f x y=>match yF n e x.toList with
  |some x'=>match yF n e y.toList with
   |some y'=>some (.func f ⟨x'⟩ ⟨y'⟩)
   |none=>none
  |none=>none
 | .build T ps=>WV P n e T ps
 | .call ⟨.builtin .len,⟨[x]⟩,⟨[T]⟩⟩=>aDE P n e x T
 |_=>atP P n e o
section val
variable {P:Program} {n:Nat} {e:Env} {o:Oper} {s:St} {v:Value}
theorem amw(h:atP P n e o=some v):Yields P n e o s v:=by
 unfold atP at h
 split at h<;>try (cases h;done)
 rename_i xs hx
 split at h<;>try (cases h;done)
 rename_i vs FH
 split at h<;>try (cases h;done)
 rename_i w hr
 cases h
 intro s' _ f hf K E hK
 rw[Q7 hx (O4 hf FH)]
 exact oL hr hK
theorem acx{ps:Array (Nat×Operand)}(heq:o.op= .build T ps)(h:WV P n e T ps=some v):Yields P n e o s v:=by
 unfold WV at h
 split at h<;>try (cases h;done)
 ·rename_i fields _ z _ dX
  obtain⟨bG,tf⟩:=av dX
  split at h<;>try (cases h;done)
  rename_i pl T5
  split at h<;>try (cases h;done)
  rename_i pv Kv
  split at h<;>try (cases h;done)
  rename_i l hl
  cases h
  intro s' nE f hf K E hK
  simp only[execOp,heq,Instr.build,aa,kN tf,bk tf,eC tf]
  rw[Array.mapM_eq_mapM_toList]
  simp only[map_eq_pure_bind,aa,af]
  rw[oz (zv T5)]
  rw[ld] at hl
  have h1:=fill_eq _ _ _ _ hl
  have h3:(fun x=>(pl.toArray)[x]?:Nat→Option (Nat×Nat))=fun i=>pl[i]?:=by funext i;simp
  simp only[h3,hf.wy Kv,h1,af]
  exact hK
 rename_i len E _ z _ dX
 obtain⟨bG,tf⟩:=av dX
 split at h<;>try (cases h;done)
 rename_i te uw
 obtain⟨Ce,ri⟩:=av uw
 split at h<;>try (cases h;done)
 rename_i pv Kv
 split at h<;>try (cases h;done)
 rename_i l hl
 cases h
 intro s' nE f hf K E hK
 simp only[execOp,heq,Instr.build,aa,kN tf,bk tf,eC tf,cE ri]
 rw[ld] at hl
 have h1:=fill_eq _ _ _ _ hl
 simp only[hf.wy Kv,h1,af]
 exact hK
theorem A8(h:adP P n e o=some v):Yields P n e o s v:=by
 unfold adP at h
 split at h
 ·rename_i c x y heq
  split at h<;>try (cases h;done)
  ·rename_i hc
   intro s' _ f hf K E hK
   simp only[execOp,heq,hf _ _ hc,hf _ _ h]
   exact hK
  rename_i hc
  intro s' _ f hf K E hK
  simp only[execOp,heq,hf _ _ hc,hf _ _ h]
  exact hK
 ·rename_i g x y heq
  split at h<;>try (cases h;done)
  rename_i x' hx
  split at h<;>try (cases h;done)
  rename_i y' hy
  cases h
  intro s' _ f hf K E hK
  simp only[execOp,heq,hf.arr hx,hf.arr hy]
  exact hK
 ·rename_i T ps heq;exact acx heq h
 ·rename_i x T heq
  unfold aDE at h
  split at h<;>try (cases h;done)
  ·rename_i dX
   obtain⟨bG,tf⟩:=av dX
   split at h<;>try (cases h;done)
   rename_i hx
   cases h
   intro s' _ f hf K E hK
   simp only[execOp,heq,resolve,invoke,builtin,Builtin.len_,List.map_toArray,List.map_cons,List.map_nil,hf _ _ hx,af,List.getElem?_toArray,List.getElem?_cons_zero,bk tf,aa]
   exact hK
  rename_i dX
  obtain⟨bG,tf⟩:=av dX
  split at h<;>try (cases h;done)
  rename_i hx
  cases h
  intro s' _ f hf K E hK
  simp only[execOp,heq,resolve,invoke,builtin,Builtin.len_,List.map_toArray,List.map_cons,List.map_nil,hf _ _ hx,af,List.getElem?_toArray,List.getElem?_cons_zero,bk tf,aa]
  exact hK
 exact amw h
end val
def ldv(P:Program)(T:TypeId)(l:List Value)(off:Nat):Option Value:=
 match bh P T with
 |some ti=>bif ti.agg then (match sub l off ti.size with
  |some vs=>some (.agg ⟨vs⟩)
  |none=>none) else nth l off
 |none=>none
theorem agh{v:Value}{t:TypeId}(heq:o.op= .load T x)(hx:bA n e x=some (.pointer (some ⟨b,off,none⟩)))(hb:s.has b (.cells ⟨l⟩ t fz))(h:ldv P T l off=some v):Yields P n e o s v:=by
 unfold ldv at h
 split at h<;>try (cases h;done)
 rename_i ti dX
 obtain⟨bG,tf⟩:=av dX
 intro s' hs f hf K E hK
 cases ha:ti.agg with
 |true=>
  rw[ha] at h tf
  simp only[cond_true] at h
  split at h<;>try (cases h;done)
  rename_i vs FH
  cases h
  simp only[execOp,heq,Instr.loadAt,hf _ _ hx,Instr.sureAddr,loadVar,aa,af,kY tf,if_true,cE tf]
  exact jA ⟨_,_,_,hs _ _ hb,FH⟩ hK
 |false=>
  rw[ha] at h tf
  simp only[cond_false] at h
  simp only[execOp,heq,Instr.loadAt,hf _ _ hx,Instr.sureAddr,loadVar,aa,af,kY tf,Bool.false_eq_true,if_false]
  exact vY ⟨_,_,_,hs _ _ hb,h⟩ hK
theorem au1{v:Value}{m:Nat}(k:Nat)(heq:o.op= .load T x)(hx:bA n e x=some (.pointer (some ⟨b,off+k,none⟩)))(hb:cb s b off m l)(h:ldv P T l k=some v):Yields P n e o s v:=by
 unfold ldv at h
 split at h<;>try (cases h;done)
 rename_i ti dX
 obtain⟨bG,tf⟩:=av dX
 intro s' hs f hf K E hK
 cases ha:ti.agg with
 |true=>
  rw[ha] at h tf
  simp only[cond_true] at h
  split at h<;>try (cases h;done)
  rename_i vs FH
  cases h
  simp only[execOp,heq,Instr.loadAt,hf _ _ hx,Instr.sureAddr,loadVar,aa,af,kY tf,if_true,cE tf]
  exact jA ((hb.ext hs).part k ti.size FH) hK
 |false=>
  rw[ha] at h tf
  simp only[cond_false] at h
  simp only[execOp,heq,Instr.loadAt,hf _ _ hx,Instr.sureAddr,loadVar,aa,af,kY tf,Bool.false_eq_true,if_false]
  exact vY ((hb.ext hs).cell k v (by rw[←sj];exact h)) hK
structure Cx where
 P:Program
 C:Class
 hC:∀main T,C main T→Closed P main T
 hm:P.follows .mixedOrders=true
 fn:FuncId
 aA:Option Nat
 n:Nat
 D:List Deferred
 ro:Nat→Option Obj
 Q:Post
variable {X X1:Cx}
def Cx.at(X:Cx)(ro:Nat→Option Obj):Cx:={X with ro:=ro}
inductive KI where
 |seq (b:Code)
 |block (id:Nat)
 |next (K:Act→St→Prop)
inductive Sg where
 |b (i:Nat) (o:Obj)
 |l (L:Cells)
def den:List Sg→Cells
 | []=>[]
 | [.l L]=>L
 | .b i o::r=>(i,o)::den r
 | .l L::r=>L++den r
theorem jh(i:Nat)(o:Obj)(r:List Sg):den (.b i o::r)=(i,o)::den r:=by cases r<;>rfl
theorem gG(L:Cells)(r:List Sg):den (.l L::r)=L++den r:=by cases r<;>simp[den]
inductive Pos where
 |ops (ops:Array Oper) (todo:List Nat) (k:List KI)
 |code (c:Code) (k:List KI)
 |nxt (K:Act→St→Prop)
 |IW (ops:Array Oper) (base:Env) (Pl Sl:List (Nat×Value)) (k:List KI)
 |fin (e:Exit)
structure Kn where
 c:Cells
 nd:List (Nat×Cells)
variable {kn:Kn}
structure JS where
 pos:Pos
 env:Env
 rw:List Sg
 kn:Kn
variable {s':JS}
def KQ(X:Cx):List KI→Post
 | []=>X.Q
 | .seq b::k=>mA (fun a s=>Wp X.C X.fn X.aA b (KQ X k) a s) (KQ X k)
 | .block id::k=>qY id (KQ X k)
 | .next K::k=>mA K (KQ X k)
def EC:Op→Bool
 | .load .. =>false
 | .lookup .. =>false
 | .call ⟨.value _,_,_⟩=>false
 | .call ⟨.invoke ..,_,_⟩=>false
 |_=>true
def wV(ops:Array Oper)(n:Nat)(e:Env):Option (Nat×Bool)→Option Bool
 |none=>some true
 |some (j,want)=>match aR ops j with
  |some d=>match bA n e (.tmp d) with
   |some (.bool true)=>some want
   |some (.bool false)=>some (!want)
   |some (.tuple ⟨[]⟩)=>some false
   |_=>none
  |none=>none
def th(ops:Array Oper)(n:Nat)(base:Env)(Pl:List (Nat×Value))(j:Nat):Bool:=match ops[j]? with
 |some p=>EC p.op||(match wV ops n (cF ops base j Pl) p.guard with
  |some false=>true
  |_=>false)
 |none=>false
def PF(X:Cx)(nd:List (Nat×Cells))(ops:Array Oper)(base:Env)(Pl Sl:List (Nat×Value)):Prop:=
 (∀j u,(j,u)∈Sl→th ops X.n base Pl j=true→∀s,eZ X.C X.fn X.aA ops X.n X.D j u (cF ops base j Pl) s)∧
 ∀j u B,(j,u)∈Sl→(j,B)∈nd→∀s,Ext ⟨X.ro,[]⟩ s→(∀x∈B,s.has x.1 x.2)→eZ X.C X.fn X.aA ops X.n X.D j u (cF ops base j Pl) s
def ndK:List (Nat×Cells)→List Nat
 | []=>[]
 | (i,_)::l=>i::ndK l
theorem N7:∀ {l:List (Nat×Cells)},(i,B)∈l→i∈ndK l
 | (j,C)::l,h=>by
  simp only[ndK]
  rcases List.mem_cons.1 h with h|h
  ·cases h;exact List.mem_cons_self
  exact List.mem_cons_of_mem _ (N7 h)
def JP(X:Cx)(kn:Kn)(e:Env)(w:List Sg):Pos→Prop
 | .ops ops todo k=>ae X.C X.fn X.aA ops todo (KQ X k) (A X.n e X.D) ⟨X.ro,den w⟩
 | .code c k=>Wp X.C X.fn X.aA c (KQ X k) (A X.n e X.D) ⟨X.ro,den w⟩
 | .nxt K=>K (A X.n e X.D) ⟨X.ro,den w⟩
 | .IW ops base Pl Sl k=>PF X kn.nd ops base Pl Sl→tL X.C X.fn X.aA ops X.n X.D base Pl Sl (KQ X k) ⟨X.ro,den w⟩
 | .fin e'=>X.Q e' (A X.n e X.D) ⟨X.ro,den w⟩
def J(X:Cx):Option JS→Prop
 |none=>False
 |some s=>Knows X.ro s.kn.c→JP X s.kn s.env s.rw s.pos
def Q9:List KI→Pos
 | []=> .fin .normal
 | .seq b::k=> .code b k
 | .block _::k=>Q9 k
 | .next K::_=> .nxt K
theorem tZ{w:List Sg}:∀ {k:List KI},JP X kn e w (Q9 k)→KQ X k .normal (A X.n e X.D) ⟨X.ro,den w⟩
 | [],h=>h
 | .seq _::_,h=>h
 | .block _::k,h=>tZ (k:=k) h
 | .next _::_,h=>h
def B2(id:Nat):List KI→Option Pos
 | []=>some (.fin (.exit id))
 | .seq _::k=>B2 id k
 | .block i::k=>bif Nat.beq id i then some (Q9 k) else B2 id k
 | .next _::k=>B2 id k
theorem xd{w:List Sg}{p:Pos}:∀ {k:List KI},B2 id k=some p→JP X kn e w p→KQ X k (.exit id) (A X.n e X.D) ⟨X.ro,den w⟩
 | [],h,hj=>by simp only[B2,Option.some.injEq] at h;subst h;exact hj
 | .seq _::k,h,hj=>xd (k:=k) h hj
 | .next _::k,h,hj=>xd (k:=k) h hj
 | .block i::k,h,hj=>by
  simp only[B2] at h
  cases hb:Nat.beq id i with
  |true=>
   rw[hb] at h;simp only[cond_true,Option.some.injEq] at h;subst h
   have:=Nat.eq_of_beq_eq_true hb;subst this
   exact EZ (tZ hj)
  |false=>
   rw[hb] at h;simp only[cond_false] at h
   exact EY hb (xd (k:=k) h hj)
theorem Br{a:Act}(h:X.Q .ret a s):∀(k:List KI),KQ X k .ret a s
 | []=>h
 | .seq _::k=>Br h k
 | .next _::k=>Br h k
 | .block _::k=>Br h k
def aBI:Op→Bool
 | .move _| .assign _| .pick .. | .makeFunc .. | .extract .. | .nilCheck _| .fieldAddr .. | .makeInterface .. | .indexAddr .. | .index .. | .field .. | .binOp .. | .unOp .. | .convert .. | .build .. | .load .. | .lookup .. | .slice .. =>true
 | .call ⟨.builtin .len,_,_⟩| .call ⟨.builtin .cap,_,_⟩| .call ⟨.builtin .min,_,_⟩| .call ⟨.builtin .max,_,_⟩=>true
 |_=>false
def aBJ(ops:Array Oper)(i:Nat):Bool:=match ops[i]? with
 |some o=>aBI o.op
 |none=>false
def enabled(ops:Array Oper)(ks:List Nat)(i:Nat):Bool:= !bn i ks&&fO (bB ops i) ks
def ZJ(f:Nat→Bool):Nat→Nat→Option Nat
 |0,_=>none
 |k+1,i=>bif f i then some i else ZJ f k (i+1)
def ayK(ops:Array Oper)(i:Nat):Bool:=match ops[i]? with
 |some ⟨_,.call ⟨.value _,_,_⟩,_,_,_,_⟩=>true
 |_=>false
def api(ops:Array Oper)(ks:List Nat):Option Nat:=
 match ZJ (fun i=>enabled ops ks i&&aBJ ops i) ops.size 0 with
 |some i=>some i
 |none=>match ZJ (fun i=>enabled ops ks i&&ayK ops i) ops.size 0 with
  |some i=>some i
  |none=>ZJ (enabled ops ks) ops.size 0
def qJ(n:Nat):JS→Option (Bool×Oper×Env)
 | ⟨.ops ops (i::_) _,e,_,_⟩=>match ops[i]? with
  |some o=>match wV ops n e o.guard with
   |some g=>some (g,o,e)
   |none=>none
  |none=>none
 | ⟨.IW ops base Pl _ _,_,_,_⟩=>match api ops (ak Pl) with
  |some i=>match ops[i]? with
   |some o=>match wV ops n (cF ops base i Pl) o.guard with
    |some g=>some (g,o,cF ops base i Pl)
    |none=>none
   |none=>none
  |none=>none
 |_=>none
def Hh(v:Value):JS→Option JS
 | ⟨.ops ops (i::todo) k,e,w,kn⟩=>match ops[i]? with
  |some o=>some ⟨.ops ops todo k,upd o.dst v e,w,kn⟩
  |none=>none
 | ⟨.IW ops base Pl Sl k,e,w,kn⟩=>match api ops (ak Pl) with
  |some i=>bif !bn i (ak Pl)&&(fO (bB ops i) (ak Pl)&&(py ops (ak Pl)&&(fO (ak Sl) (ak Pl)&& !bn i (ndK kn.nd)))) then some ⟨.IW ops base ((i,v)::Pl) ((i,v)::Sl) k,e,w,kn⟩ else none
  |none=>none
 |_=>none
theorem n7{ops:Array Oper}{g:Option (Nat×Bool)}(h:wV ops n e g=some true)(rest:Env):ay ops n (e++rest) g=true:=by
 unfold wV at h
 split at h
 ·rfl
 rename_i j want
 split at h<;>try (cases h;done)
 rename_i d hd
 have hd:(ops[j]?).bind (·.dst)=some d:=hd
 split at h<;>try (cases h;done)
 ·rename_i hb;simp only[Option.some.injEq] at h;subst h
  exact tQ hd (bp hb) rfl
 rename_i hb;simp only[Option.some.injEq,Bool.not_eq_true'] at h;subst h
 exact tQ hd (bp hb) rfl
section
variable {X:Cx}
theorem Ay{ops:Array Oper}{Q:Post}(ho:ops[i]?=some o) (h:wV ops X.n e o.guard=some false) (rest:Env) (hk:ae X.C X.fn X.aA ops todo Q (A X.n (upd o.dst undef (e++rest)) X.D) s):ae X.C X.fn X.aA ops (i::todo) Q (A X.n (e++rest) X.D) s:=by
 unfold wV at h
 split at h
 ·cases h
 rename_i j want hg
 split at h<;>try (cases h;done)
 rename_i d hd
 have hd:(ops[j]?).bind (·.dst)=some d:=hd
 split at h<;>try (cases h;done)
 ·rename_i hb;simp only[Option.some.injEq] at h;subst h
  exact ui X.hC ho hg hd (bp hb) rfl hk
 ·rename_i hb;simp only[Option.some.injEq,Bool.not_eq_false'] at h;subst h
  exact ui X.hC ho hg hd (bp hb) rfl hk
 rename_i hb
 rcases o with ⟨dst,op,ty,pos,dk,g⟩
 dsimp only at hg;subst hg
 exact am0 X.hC ho hd (bp hb) hk
def Jw(X:Cx)(e:Env)(o:Oper)(s:St)(v:Value):Prop:=
 ∀(ops:Array Oper) (i:Nat),ops[i]?=some o→∀rest,ay ops X.n (e++rest) o.guard=true→∀s',Ext s s'→∀todo Q,ae X.C X.fn X.aA ops todo Q (A X.n (upd o.dst v (e++rest)) X.D) s'→ae X.C X.fn X.aA ops (i::todo) Q (A X.n (e++rest) X.D) s'
theorem jyS{s:JS}{v:Value}(hh:qJ X.n s=some (g,o,e))(hp:Hh v s=some s')
 (hv:match g with|true=>(Knows X.ro s.kn.c→Jw X e o ⟨X.ro,den s.rw⟩ v)∧(EC o.op=true→∀s,Jw X e o s v)|false=>v=undef)(hj:J X (some s')):J X (some s):=by
 intro bZ
 rcases s with ⟨p,e0,w,kn⟩
 cases p with
 |ops ops todo k=>
  cases todo with
  |nil=>cases hh
  |cons i todo=>
   simp only[qJ] at hh
   split at hh<;>try (cases hh;done)
   rename_i o1 ho
   split at hh<;>try (cases hh;done)
   rename_i g1 hg
   cases hh
   simp only[Hh,ho,Option.some.injEq] at hp;subst hp
   have hk:ae X.C X.fn X.aA ops todo (KQ X k) (A X.n (upd o.dst v e) X.D) ⟨X.ro,den w⟩:=hj bZ
   show ae X.C X.fn X.aA ops (i::todo) (KQ X k) (A X.n e X.D) ⟨X.ro,den w⟩
   cases g with
   |true=>
    have:=hv.1 bZ ops i ho [] (n7 hg []) _ (Ext.refl _) todo (KQ X k)
    rw[List.append_nil] at this
    exact this hk
   |false=>
    dsimp only at hv;subst hv
    have:=Ay (Q:=KQ X k) (s:=⟨X.ro,den w⟩) (todo:=todo) ho hg []
    rw[List.append_nil] at this
    exact this hk
 |IW ops base Pl Sl k=>
  simp only[qJ] at hh
  split at hh<;>try (cases hh;done)
  rename_i i hi
  split at hh<;>try (cases hh;done)
  rename_i o1 ho
  split at hh<;>try (cases hh;done)
  rename_i g1 hg
  cases hh
  simp only[Hh,hi] at hp
  cases hc:(!bn i (ak Pl)&&(fO (bB ops i) (ak Pl)&&(py ops (ak Pl)&&(fO (ak Sl) (ak Pl)&& !bn i (ndK kn.nd))))) with
  |false=>rw[hc] at hp;cases hp
  |true=>
   rw[hc] at hp;simp only[cond_true,Option.some.injEq] at hp;subst hp
   simp only[Bool.and_eq_true,Bool.not_eq_true'] at hc
   have FL:aR ops i=o.dst:=by simp only[aR,ho,Option.bind_some]
   intro hpf
   have q9:∀j,j∈ak Sl→i∉bB ops j:=fun j hj hd=>by
    have h1:=bQ.1 hc.2.2.2.1 j hj
    have h2:=bQ.1 (List.all_eq_true.1 hc.2.2.1 j h1) i hd
    rw[aJ.2 h2] at hc;exact absurd hc.1 (by simp)
   refine Js i hc.1 hc.2.1 hc.2.2.1 hc.2.2.2.1 ?_ (hj bZ ⟨fun j u JM hp s0=>?_,fun j u B JM hB s0 HW uB=>?_⟩)
   ·intro s1 hx rest todo Q hk
    rw[FL] at hk
    cases g with
    |true=>exact hv.1 bZ ops _ ho rest (n7 hg rest) _ hx _ _ hk
    |false=>dsimp only at hv;subst hv;exact Ay ho hg rest hk
   ·have hii:i∉bB ops i:=fun hd=>by
     have h2:=bQ.1 hc.2.1 i hd
     rw[aJ.2 h2] at hc;exact absurd hc.1 (by simp)
    rcases List.mem_cons.1 JM with h1|h1
    ·obtain⟨AV,rfl⟩:=Prod.mk.inj h1
     subst AV
     rw[db hii]
     intro s1 hx rest todo Q hk
     rw[FL] at hk
     cases g with
     |true=>
      have hpk:EC o.op=true:=by
       simp only[th,ho,db hii,hg,Bool.or_false] at hp
       exact hp
      exact hv.2 hpk s0 ops _ ho rest (n7 hg rest) _ hx _ _ hk
     |false=>dsimp only at hv;subst hv;exact Ay ho hg rest hk
    have PY:j∈ak Sl:=aP.2 ⟨u,h1⟩
    rw[db (q9 j PY)]
    exact hpf.1 j u h1 (by simp only[th,db (q9 j PY)] at hp;exact hp) s0
   rcases List.mem_cons.1 JM with h1|h1
   ·obtain⟨AV,rfl⟩:=Prod.mk.inj h1
    subst AV
    have:=N7 hB
    rw[aJ.2 this] at hc;exact absurd hc.2.2.2.2 (by simp)
   rw[db (q9 j (aP.2 ⟨u,h1⟩))]
   exact hpf.2 j u B h1 hB s0 HW uB
 |_=>cases hh
def amP(B:Cells)(v:Value):JS→Option JS
 | ⟨.ops ops (i::todo) k,e,w,kn⟩=>match ops[i]? with
  |some o=>some ⟨.ops ops todo k,upd o.dst v e,w,kn⟩
  |none=>none
 | ⟨.IW ops base Pl Sl k,e,w,kn⟩=>match api ops (ak Pl) with
  |some i=>bif !bn i (ak Pl)&&(fO (bB ops i) (ak Pl)&&(py ops (ak Pl)&&(fO (ak Sl) (ak Pl)&& !bn i (ndK kn.nd)))) then some ⟨.IW ops base ((i,v)::Pl) ((i,v)::Sl) k,e,w,⟨kn.c,(i,B)::kn.nd⟩⟩ else none
  |none=>none
 |_=>none
theorem jyN{s:JS}{v:Value}(hh:qJ X.n s=some (true,o,e))(hp:amP B v s=some s')(hB:∀x∈B,(⟨X.ro,den s.rw⟩:St).has x.1 x.2)(hnp:EC o.op=false)
 (hv:∀s0,Ext ⟨X.ro,[]⟩ s0→(∀x∈B,s0.has x.1 x.2)→Jw X e o s0 v)(hj:J X (some s')):J X (some s):=by
 intro bZ
 rcases s with ⟨p,e0,w,kn⟩
 cases p with
 |ops ops todo k=>
  have:Hh v ⟨.ops ops todo k,e0,w,kn⟩=some s':=by
   cases todo with
   |nil=>cases hh
   |cons i todo=>exact hp
  exact jyS hh this ⟨fun _=>hv _ O2 hB,fun h=>by rw[hnp] at h;cases h⟩ hj bZ
 |IW ops base Pl Sl k=>
  simp only[qJ] at hh
  split at hh<;>try (cases hh;done)
  rename_i i hi
  split at hh<;>try (cases hh;done)
  rename_i o1 ho
  split at hh<;>try (cases hh;done)
  rename_i g1 hg
  cases hh
  simp only[amP,hi] at hp
  cases hc:(!bn i (ak Pl)&&(fO (bB ops i) (ak Pl)&&(py ops (ak Pl)&&(fO (ak Sl) (ak Pl)&& !bn i (ndK kn.nd))))) with
  |false=>rw[hc] at hp;cases hp
  |true=>
   rw[hc] at hp;simp only[cond_true,Option.some.injEq] at hp;subst hp
   simp only[Bool.and_eq_true,Bool.not_eq_true'] at hc
   have FL:aR ops i=o.dst:=by simp only[aR,ho,Option.bind_some]
   intro hpf
   have q9:∀j,j∈ak Sl→i∉bB ops j:=fun j hj hd=>by
    have h1:=bQ.1 hc.2.2.2.1 j hj
    have h2:=bQ.1 (List.all_eq_true.1 hc.2.2.1 j h1) i hd
    rw[aJ.2 h2] at hc;exact absurd hc.1 (by simp)
   have hii:i∉bB ops i:=fun hd=>by
    have h2:=bQ.1 hc.2.1 i hd
    rw[aJ.2 h2] at hc;exact absurd hc.1 (by simp)
   have bX:∀s0,Ext ⟨X.ro,[]⟩ s0→(∀x∈B,s0.has x.1 x.2)→eZ X.C X.fn X.aA ops X.n X.D i v (cF ops base i Pl) s0:=by
    intro s0 HW uB s1 hx rest todo Q hk
    rw[FL] at hk
    exact hv s0 HW uB ops _ ho rest (n7 hg rest) _ hx _ _ hk
   have aQx:th ops X.n base ((i,v)::Pl) i=false:=by
    simp only[th,ho,hnp,db hii,hg,Bool.or_false]
   refine Js i hc.1 hc.2.1 hc.2.2.1 hc.2.2.2.1 (bX _ O2 hB) (hj bZ ⟨fun j u JM hp s0=>?_,fun j u B' JM hB' s0 HW uB=>?_⟩)
   ·rcases List.mem_cons.1 JM with h1|h1
    ·obtain⟨AV,rfl⟩:=Prod.mk.inj h1
     subst AV
     rw[aQx] at hp;cases hp
    have PY:j∈ak Sl:=aP.2 ⟨u,h1⟩
    rw[db (q9 j PY)]
    exact hpf.1 j u h1 (by simp only[th,db (q9 j PY)] at hp;exact hp) s0
   rcases List.mem_cons.1 JM with h1|h1
   ·obtain⟨AV,rfl⟩:=Prod.mk.inj h1
    subst AV
    rw[db hii]
    rcases List.mem_cons.1 hB' with h2|h2
    ·cases h2;exact bX s0 HW uB
    have:=N7 h2
    rw[aJ.2 this] at hc;exact absurd hc.2.2.2.2 (by simp)
   have PY:j∈ak Sl:=aP.2 ⟨u,h1⟩
   rw[db (q9 j PY)]
   rcases List.mem_cons.1 hB' with h2|h2
   ·obtain⟨AV,rfl⟩:=Prod.mk.inj h2
    subst AV
    have h3:=bQ.1 hc.2.2.2.1 _ PY
    rw[aJ.2 h3] at hc;exact absurd hc.1 (by simp)
   exact hpf.2 j u B' h1 h2 s0 HW uB
 |_=>cases hh
theorem jy{s:JS}{v:Value}(hh:qJ X.n s=some (g,o,e))(hp:Hh v s=some s')
 (hv:match g with|true=>eL o.op=true∧(Knows X.ro s.kn.c→Yields X.P X.n e o ⟨X.ro,den s.rw⟩ v)∧(EC o.op=true→∀s,Yields X.P X.n e o s v)|false=>v=undef)(hj:J X (some s')):J X (some s):=by
 refine jyS hh hp ?_ hj
 cases g with
 |true=>exact⟨fun bZ ops i ho rest hw s' hx todo Q hk=>mi X.hC ho rest hw hv.1 (hv.2.1 bZ) hx hk,fun hp s ops i ho rest hw s' hx todo Q hk=>mi X.hC ho rest hw hv.1 (hv.2.2 hp s) hx hk⟩
 |false=>exact hv
end
def zw:List Sg→Nat→Option Sg
 | [],_=>none
 |x::_,0=>some x
 |_::l,i+1=>zw l i
def UR:List Sg→Nat→Sg→List Sg
 | [],_,_=>[]
 |_::l,0,y=>y::l
 |x::l,i+1,y=>x::UR l i y
def am7:Cells→Nat→Option (Nat×Obj)
 | [],_=>none
 |x::_,0=>some x
 |_::l,i+1=>am7 l i
def Cc(w:List Sg)(kn:Cells)(h:Nat):Option (Nat×List Value):=
 match zw w h with
 |some (.b b (.cells ⟨l⟩ _ _))=>some (b,l)
 |some _=>none
 |none=>match am7 kn (h-64) with
  |some (b,.cells ⟨l⟩ _ _)=>some (b,l)
  |_=>none
def aeu(P:Program)(n:Nat)(e:Env)(w:List Sg)(h:Nat):Op→Option (List Sg×Nat×Nat)
 | .store T x y=>match bA n e x with
  |some (.pointer (some ⟨b,off,none⟩))=>match bA n e y with
   |some v=>match zw w h with
    |some (.b b' (.cells ⟨c⟩ t (0,0)))=>match bh P T with
     |some ti=>bif Nat.beq (eA v).length ti.size&&(Nat.ble (off+(eA v).length) c.length&&(eA v).all single) then some (UR w h (.b b' (.cells ⟨dK c off (eA v)⟩ t (0,0))),b,b') else none
     |none=>none
    |_=>none
   |none=>none
  |_=>none
 |_=>none
abbrev asv:=Option (JS×List Nat×List (Nat×Nat))
def ayF(n:Nat)(e:Env)(k:List KI):Code→Option Pos
 | .skip=>some (Q9 k)
 | .seq a b=>some (.code a (.seq b::k))
 | .block id c=>some (.code c (.block id::k))
 | .region _ ops d=>bif d then (bif AF ops then some (.IW ops e [] [] k) else none) else some (.ops ops (List.range ops.size) k)
 | .exit id=>B2 id k
 | .ret=>some (.fin .ret)
 | .scope c=>some (.code c k)
 | .label _=>some (Q9 k)
 | .cond c a b=>match bA n e c with
  |some (.bool true)=>some (.code a k)
  |some (.bool false)=>some (.code b k)
  |_=>none
 |_=>none
def akb(ops:Array Oper)(Pl:List (Nat×Value)):Bool:=fN ops&&(nodupB (ak Pl)&&(fO (List.range ops.size) (ak Pl)&&fO (ak Pl) (List.range ops.size)))
def opJ(P:Program)(n:Nat)(hs:List Nat)(s:JS):asv:=
 match qJ n s with
 |some (g,o,e)=>bif g then (match o.op with
  | .store .. =>match s,hs with
   | ⟨.ops ops (_::todo) k,_,w,kn⟩,h::hs=>match aeu P n e w h o.op with
    |some (w',b,b')=>some (⟨.ops ops todo k,upd o.dst undef e,w',kn⟩,hs,[(b,b')])
    |none=>none
   |_,_=>none
  | .load T x=>match hs with
   |h::hs=>match bA n e x with
    |some (.pointer (some ⟨b,off,none⟩))=>match Cc s.rw s.kn.c h with
     |some (b',l)=>match ldv P T l off with
      |some v=>match Hh v s with
       |some s'=>some (s',hs,[(b',b)])
       |none=>none
      |none=>none
     |none=>none
    |_=>none
   | []=>none
  |_=>bif eL o.op then (match adP P n e o with
   |some v=>match Hh v s with
    |some s'=>some (s',hs,[])
    |none=>none
   |none=>none) else none) else (match Hh undef s with
  |some s'=>some (s',hs,[])
  |none=>none)
 |none=>none
def stepJ(P:Program)(n:Nat)(hs:List Nat)(s:JS):asv:=
 match s.pos with
 | .ops _ [] k=>some (⟨Q9 k,s.env,s.rw,s.kn⟩,hs,[])
 | .code c k=>match ayF n s.env k c with
  |some p=>some (⟨p,s.env,s.rw,⟨s.kn.c,[]⟩⟩,hs,[])
  |none=>none
 | .IW ops base Pl _ k=>match api ops (ak Pl) with
  |none=>bif akb ops Pl then some (⟨Q9 k,jP ops base Pl,s.rw,s.kn⟩,hs,[]) else none
  |some _=>opJ P n hs s
 |_=>opJ P n hs s
section
variable {X:Cx}
theorem Bq:∀ {w:List Sg} {h b:Nat} {o:Obj},zw w h=some (.b b o)→∃L R,den w=L++(b,o)::R∧∀o',den (UR w h (.b b o'))=L++(b,o')::R
 | [],_,_,_,h=>by cases h
 |x::w,0,b,o,h=>by
  simp only[zw,Option.some.injEq] at h;subst h
  exact⟨[],den w,by simp[jh],fun o'=>by simp[UR,jh]⟩
 |x::w,i+1,b,o,h=>by
  obtain⟨L,R,h1,h2⟩:=Bq (w:=w) (h:=i) h
  cases x with
  |b i' o1=>exact⟨(i',o1)::L,R,by simp[jh,h1],fun o'=>by simp[UR,jh,h2]⟩
  |l L1=>exact⟨L1++L,R,by simp[gG,h1],fun o'=>by simp[UR,gG,h2]⟩
theorem RB:∀ {l:Cells} {i:Nat} {x:Nat×Obj},am7 l i=some x→x∈l
 | [],_,_,h=>by cases h
 |y::l,0,x,h=>by simp only[am7,Option.some.injEq] at h;subst h;exact List.mem_cons_self
 |y::l,i+1,x,h=>List.mem_cons_of_mem _ (RB (l:=l) h)
theorem AG{w:List Sg}{kn:Cells}{h:Nat}(hk:Knows X.ro kn)(hc:Cc w kn h=some (b,l)):∃t fz,(⟨X.ro,den w⟩:St).has b (.cells ⟨l⟩ t fz):=by
 unfold Cc at hc
 split at hc
 ·rename_i hn
  cases hc
  obtain⟨L,R,h1,_⟩:=Bq hn
  exact⟨_,_,.inr (by show (_,_)∈den w;rw[h1];exact fF)⟩
 ·cases hc
 split at hc<;>try (cases hc;done)
 rename_i hn
 cases hc
 exact⟨_,_,.inl (hk _ (RB hn))⟩
theorem apk{w:List Sg}{k:List KI}{c:Code}{p:Pos}(h:ayF X.n e k c=some p)(hj:JP X ⟨kn.c,[]⟩ e w p):JP X kn e w (.code c k):=by
 unfold ayF at h
 split at h
 ·cases h;exact wp_skip X.hC (tZ hj)
 ·cases h;exact wp_seq X.hC hj
 ·cases h;exact wp_block X.hC hj
 ·rename_i id ops d
  cases d with
  |true=>
   simp only[cond_true] at h
   cases hd:AF ops with
   |false=>rw[hd] at h;cases h
   |true=>
    rw[hd] at h;simp only[cond_true,Option.some.injEq] at h;subst h
    exact acI X.hC X.hm hd (hj ⟨fun _ _ h=>(List.not_mem_nil h).elim,fun _ _ _ h=>(List.not_mem_nil h).elim⟩)
  |false=>simp only[cond_false,Option.some.injEq] at h;subst h;exact wp_region X.hC hj
 ·exact wp_exit X.hC (xd h hj)
 ·cases h;exact wp_ret (Br hj k)
 ·cases h;exact Qe X.hC hj
 ·cases h;exact wp_label X.hC (tZ hj)
 ·split at h<;>try (cases h;done)
  ·rename_i hc;cases h;exact Xu X.hC hc rfl hj
  rename_i hc;cases h;exact Xv X.hC hc rfl hj
 cases h
theorem afw{s:JS}{q:List (Nat×Nat)}(h:opJ X.P X.n hs s=some (s',nE,q))(hq:∀p∈q,p.1=p.2)(hj:J X (some s')):J X (some s):=by
 unfold opJ at h
 split at h<;>try (cases h;done)
 rename_i g o e hh
 cases g with
 |false=>
  simp only[cond_false] at h
  split at h<;>try (cases h;done)
  rename_i s1 hp
  cases h
  exact jy hh hp rfl hj
 |true=>
  simp only[cond_true] at h
  split at h
  ·rename_i T x y az
   split at h<;>try (cases h;done)
   rename_i ops i todo k e1 w kn h0 hsx
   split at h<;>try (cases h;done)
   rename_i w' b b' bX
   cases h
   have KC:b=b':=hq _ List.mem_cons_self
   subst KC
   simp only[qJ] at hh
   split at hh<;>try (cases hh;done)
   rename_i o1 ho
   split at hh<;>try (cases hh;done)
   rename_i g1 hg
   simp only[Option.some.injEq,Prod.mk.injEq] at hh
   obtain⟨rfl,rfl,rfl⟩:=hh
   intro bZ
   have hj:=hj bZ
   rw[az] at bX
   simp only[aeu] at bX
   split at bX<;>try (cases bX;done)
   rename_i b0 off hx
   split at bX<;>try (cases bX;done)
   rename_i v hy
   split at bX<;>try (cases bX;done)
   rename_i b1 c t hn
   split at bX<;>try (cases bX;done)
   rename_i ti dX
   cases hc:(Nat.beq (eA v).length ti.size&&(Nat.ble (off+(eA v).length) c.length&&(eA v).all single)) with
   |false=>rw[hc] at bX;cases bX
   |true=>
    rw[hc] at bX
    simp only[cond_true,Option.some.injEq,Prod.mk.injEq] at bX
    obtain⟨rfl,rfl,rfl⟩:=bX
    simp only[Bool.and_eq_true,Nat.ble_eq] at hc
    obtain⟨bG,tf⟩:=av dX
    obtain⟨L,R,h1,h2⟩:=Bq hn
    rcases o1 with ⟨dst,op,ty,pos,dk,gd⟩
    dsimp only at az;subst az
    have hw:=n7 hg []
    rw[List.append_nil] at hw
    refine Gk (v:=v) (l:=eA v) (L:=L) (R:=R) (c:=c) (e:=t) X.hC ho hw tf hx hy (by rw[mJ]) (Nat.eq_of_beq_eq_true hc.1) (List.all_eq_true.1 hc.2.2) h1 hc.2.1 ?_
    have hj:ae X.C X.fn X.aA ops todo (KQ X k) _ ⟨X.ro,den _⟩:=hj
    rw[h2] at hj
    exact hj
  ·rename_i T x az
   split at h<;>try (cases h;done)
   rename_i h0 bL
   split at h<;>try (cases h;done)
   rename_i b off hx
   split at h<;>try (cases h;done)
   rename_i b' l hc
   split at h<;>try (cases h;done)
   rename_i v hv
   split at h<;>try (cases h;done)
   rename_i s1 hp
   cases h
   have KC:b'=b:=hq _ List.mem_cons_self
   subst KC
   refine jy hh hp ⟨by rw[az];rfl,fun bZ=>?_,fun hk=>by rw[az] at hk;cases hk⟩ hj
   obtain⟨t,fz,hb⟩:=AG bZ hc
   exact agh az hx hb hv
  cases hn:eL o.op with
  |false=>rw[hn] at h;cases h
  |true=>
   rw[hn] at h;simp only[cond_true] at h
   split at h<;>try (cases h;done)
   rename_i v hv
   split at h<;>try (cases h;done)
   rename_i s1 hp
   cases h
   exact jy hh hp ⟨hn,fun _=>A8 hv,fun _ _=>A8 hv⟩ hj
theorem aev{s:JS}{q:List (Nat×Nat)}(h:stepJ X.P X.n hs s=some (s',nE,q))(hq:∀p∈q,p.1=p.2)(hj:J X (some s')):J X (some s):=by
 unfold stepJ at h
 split at h
 ·rename_i ops k hp
  cases h
  rcases s with ⟨p,e,w,kn⟩
  dsimp only at hp;subst hp
  exact fun bZ=>uf X.hC (tZ (hj bZ))
 ·rename_i c k hp
  rcases s with ⟨p,e,w,kn⟩
  dsimp only at hp;subst hp
  split at h<;>try (cases h;done)
  rename_i p hc
  cases h
  exact fun bZ=>apk hc (hj bZ)
 ·rename_i ops base Pl Sl k hp
  split at h
  ·cases hd:akb ops Pl with
   |false=>rw[hd] at h;cases h
   |true=>
    rw[hd] at h;simp only[cond_true,Option.some.injEq,Prod.mk.injEq] at h
    obtain⟨rfl,rfl,rfl⟩:=h
    rcases s with ⟨p,e,w,kn⟩
    dsimp only at hp;subst hp
    simp only[akb,Bool.and_eq_true] at hd
    exact fun bZ _=>akM X.hC hd.1 hd.2.1 hd.2.2.1 hd.2.2.2 (tZ (hj bZ))
  exact afw h hq hj
 exact afw h hq hj
end
def acO(P:Program)(n:Nat):Nat→List Nat→JS→List (Nat×Nat)→Option (JS×List (Nat×Nat))
 |0,_,s,q=>some (s,q)
 |k+1,hs,s,q=>match stepJ P n hs s with
  |some (s',nE,q')=>acO P n k nE s' (q'++q)
  |none=>none
def adv(P:Program)(n k:Nat)(hs:List Nat):Option JS→Option (JS×List (Nat×Nat))
 |some s=>acO P n k hs s []
 |none=>none
def res:Option (JS×List (Nat×Nat))→Option JS
 |some (s,_)=>some s
 |none=>none
def Wv:List (Nat×Nat)→List Nat
 | []=>[]
 | (a,_)::l=>a::Wv l
def UO:List (Nat×Nat)→List Nat
 | []=>[]
 | (_,b)::l=>b::UO l
def lhs:Option (JS×List (Nat×Nat))→List Nat
 |some (_,q)=>Wv q
 |none=>[0]
def rhs:Option (JS×List (Nat×Nat))→List Nat
 |some (_,q)=>UO q
 |none=>[1]
theorem mI:∀ {q:List (Nat×Nat)},Wv q=UO q→∀p∈q,p.1=p.2
 | (a,b)::l,h,p,hp=>by
  simp only[Wv,UO,List.cons.injEq] at h
  rcases List.mem_cons.1 hp with rfl|hp
  ·exact h.1
  exact mI h.2 p hp
theorem aaj:∀ {k:Nat} {hs:List Nat} {s s':JS} {q q':List (Nat×Nat)},acO X.P X.n k hs s q=some (s',q')→(∀p∈q',p.1=p.2)→(J X (some s')→J X (some s))∧∀p∈q,p∈q'
 |0,_,_,_,_,_,h,_=>by simp only[acO,Option.some.injEq,Prod.mk.injEq] at h;obtain⟨rfl,rfl⟩:=h;exact⟨id,fun _ h=>h⟩
 |k+1,hs,s,s',q,q',h,hq=>by
  simp only[acO] at h
  split at h<;>try (cases h;done)
  rename_i s1 bL q1 bX
  obtain⟨h1,h2⟩:=aaj h hq
  exact⟨fun hj=>aev bX (fun p hp=>hq p (h2 p (List.mem_append_left _ hp))) (h1 hj),fun p hp=>h2 p (List.mem_append_right _ hp)⟩
theorem jd{o:Option JS}(k:Nat)(hs:List Nat)(h:J X (res (adv X.P X.n k hs o)))(he:lhs (adv X.P X.n k hs o)=rhs (adv X.P X.n k hs o):=by kernel_rfl):J X o:=by
 cases o with
 |none=>exact h
 |some s=>
  simp only[adv] at he h
  cases hc:acO X.P X.n k hs s [] with
  |none=>rw[hc] at h;exact h.elim
  |some x=>
   rcases x with ⟨s',q⟩
   rw[hc] at he h
   exact(aaj hc (mI he)).1 h
attribute [irreducible] adv res lhs rhs
def dR(n:Nat)(f:Oper→Env→Option β):Option JS→Option β
 |some s=>match qJ n s with
  |some (true,p,e)=>f p e
  |_=>none
 |none=>none
def kP(v:Value):Option JS→Option JS
 |some s=>Hh v s
 |none=>none
def Rb:List Nat→List Sg→Option (List Sg)
 | [],_=>some []
 |i::is,w=>match zw w i with
  |some x=>match Rb is w with
   |some r=>some (x::r)
   |none=>none
  |none=>none
def dO(is:List Nat):Nat→List Sg→List Sg
 |_,[]=>[]
 |k,x::w=>bif bn k is then dO is (k+1) w else x::dO is (k+1) w
def Hs:List Nat→Bool
 | []=>true
 |i::is=> !bn i is&&Hs is
def rB(is:List Nat):Option JS→Option (List Sg)
 |some s=>bif Hs is then Rb is s.rw else none
 |none=>none
def eg(is:List Nat)(o:Option JS):Option Cells:=match rB is o with
 |some w=>some (den w)
 |none=>none
def lkE:List Nat→Env→Option Env
 | [],_=>some []
 |t::ts,e=>match iq e t with
  |some v=>match lkE ts e with
   |some r=>some ((t,v)::r)
   |none=>none
  |none=>none
def nJ:Env→List Nat
 | []=>[]
 | (t,_)::e=>t::nJ e
def rF(ts:List Nat):Option JS→Option Env
 |some s=>lkE ts s.env
 |none=>none
theorem tw{ts:List Nat}{s:JS}:rF ts (some s)=lkE ts s.env:=rfl
theorem lh:∀ {ts:List Nat} {r:Env},lkE ts e=some r→lB e r
 | [],r,h=>by simp only[lkE,Option.some.injEq] at h;subst h;trivial
 |t::ts,r,h=>by
  simp only[lkE] at h
  split at h<;>try (cases h;done)
  rename_i v hv
  split at h<;>try (cases h;done)
  rename_i r' hr
  cases h
  exact⟨hv,lh hr⟩
theorem ma:∀(a b:List Sg),den (a++b)=den a++den b
 | [],b=>rfl
 | .b i o::a,b=>by simp[jh,ma a b]
 | .l L::a,b=>by simp[gG,ma a b]
theorem xY:∀(w:List Sg) (k:Nat),dO [] k w=w
 | [],_=>rfl
 |x::w,k=>by simp[dO,bn,xY w (k+1)]
theorem IY:∀ {w:List Sg} {i k:Nat} {is:List Nat} {x:Sg},zw w i=some x→bn (k+i) is=false→(den (dO is k w)).Perm (den [x]++den (dO ((k+i)::is) k w))
 | [],_,_,_,_,h,_=>by cases h
 |y::w,0,k,is,x,h,hi=>by
  simp only[zw,Option.some.injEq] at h;subst h
  have hz:∀(w:List Sg) (j:Nat),k <j→dO (k::is) j w=dO is j w:=by
   intro w
   induction w with
   |nil=>intro j _;rfl
   |cons z w ih=>
    intro j hj
    have:Nat.beq j k=false:=beq_false (by omega)
    simp only[dO,bn,this,Bool.false_or,ih (j+1) (by omega)]
  simp only[Nat.add_zero] at hi ⊢
  simp only[dO,hi,cond_false,bn,Nat.beq_refl,Bool.true_or,cond_true,hz w (k+1) (by omega)]
  cases y with
  |b i o=>rw[jh];exact .refl _
  |l L=>rw[gG];exact .refl _
 |y::w,i+1,k,is,x,h,hi=>by
  have e:k+(i+1)=(k+1)+i:=by omega
  rw[e] at hi ⊢
  have hr:=IY (w:=w) (k:=k+1) (is:=is) h hi
  have ek:Nat.beq k ((k+1)+i)=false:=beq_false (by omega)
  simp only[dO,bn,ek,Bool.false_or]
  cases bn k is with
  |true=>simp only[cond_true];exact hr
  |false=>
   simp only[cond_false]
   cases y with
   |b i' o=>rw[jh,jh];exact(hr.cons _).trans List.perm_middle.symm
   |l L=>
    rw[gG,gG]
    refine(hr.append_left L).trans ?_
    rw[←List.append_assoc,←List.append_assoc]
    exact List.Perm.append_right _ List.perm_append_comm
theorem xN{w:List Sg}:∀ {is:List Nat} {r:List Sg},Rb is w=some r→Hs is=true→(den w).Perm (den r++den (dO is 0 w))
 | [],r,h,_=>by simp only[Rb,Option.some.injEq] at h;subst h;rw[xY];exact .refl _
 |i::is,r,h,ho=>by
  simp only[Rb] at h
  split at h<;>try (cases h;done)
  rename_i x hx
  split at h<;>try (cases h;done)
  rename_i r' hr
  cases h
  simp only[Hs,Bool.and_eq_true,Bool.not_eq_true'] at ho
  have h1:=xN hr ho.2
  have h2:=IY (k:=0) (is:=is) hx (by rw[Nat.zero_add];exact ho.1)
  rw[Nat.zero_add] at h2
  refine h1.trans ((List.Perm.append_left _ h2).trans ?_)
  have:den (x::r')=den [x]++den r':=by rw[←ma];rfl
  rw[this,←List.append_assoc]
  exact List.Perm.append_right _ List.perm_append_comm
theorem mh{is:List Nat}{s:JS}{w:List Sg}(h:rB is (some s)=some w):(den s.rw).Perm (den w++den (dO is 0 s.rw)):=by
 simp only[rB] at h
 cases ho:Hs is with
 |false=>rw[ho] at h;cases h
 |true=>rw[ho] at h;exact xN h ho
theorem bM{is:List Nat}{s:JS}{L:Cells}(h:eg is (some s)=some L):(den s.rw).Perm (L++den (dO is 0 s.rw)):=by
 simp only[eg] at h
 split at h<;>try (cases h;done)
 rename_i w hw
 cases h
 exact mh hw
theorem Tm{is:List Nat}{s:JS}{L:Cells}(h:eg is (some s)=some L):∀x∈L,(⟨X.ro,den s.rw⟩:St).has x.1 x.2:=fun x hx=> .inr ((bM h).mem_iff.2 (List.mem_append_left _ hx))
section
variable {X:Cx} {o:Option JS}
theorem sO{f:Oper→Env→Option β}{r:β}(h:dR n f o=some r):∃s p e,o=some s∧qJ n s=some (true,p,e)∧f p e=some r:=by
 unfold dR at h
 split at h<;>try (cases h;done)
 rename_i s
 split at h<;>try (cases h;done)
 rename_i p e hh
 exact⟨s,p,e,rfl,hh,h⟩
theorem jG{v:Value}{f:Oper→Env→Option β}{r:β}(h:dR X.n f o=some r)(hy:∀s p e,o=some s→qJ X.n s=some (true,p,e)→f p e=some r→eL p.op=true∧(Knows X.ro s.kn.c→Yields X.P X.n e p ⟨X.ro,den s.rw⟩ v)∧(EC p.op=true→∀s,Yields X.P X.n e p s v))(hj:J X (kP v o)):J X o:=by
 obtain⟨s,p,e,rfl,hh,hf⟩:=sO h
 obtain⟨h1,h2,h3⟩:=hy s p e rfl hh hf
 simp only[kP] at hj
 cases hp:Hh v s with
 |none=>rw[hp] at hj;exact hj.elim
 |some s'=>rw[hp] at hj;exact jy hh hp ⟨h1,h2,h3⟩ hj
theorem jGS{v:Value}{f:Oper→Env→Option β}{r:β}(h:dR X.n f o=some r)(hy:∀s p e,o=some s→f p e=some r→Jw X e p ⟨X.ro,den s.rw⟩ v∧(EC p.op=true→∀s,Jw X e p s v))(hj:J X (kP v o)):J X o:=by
 obtain⟨s,p,e,rfl,hh,hf⟩:=sO h
 simp only[kP] at hj
 cases hp:Hh v s with
 |none=>rw[hp] at hj;exact hj.elim
 |some s'=>rw[hp] at hj;exact jyS hh hp ⟨fun _=>(hy s p e rfl hf).1,(hy s p e rfl hf).2⟩ hj
def NS(B:Cells)(v:Value):Option JS→Option JS
 |some s=>amP B v s
 |none=>none
theorem jGN{v:Value}{f:Oper→Env→Option β}{r:β}(h:dR X.n f o=some r)(hB:eg ps o=some B)(hy:∀s p e,o=some s→qJ X.n s=some (true,p,e)→f p e=some r→EC p.op=false∧∀s0,Ext ⟨X.ro,[]⟩ s0→(∀x∈B,s0.has x.1 x.2)→Jw X e p s0 v)(hj:J X (NS B v o)):J X o:=by
 obtain⟨s,p,e,rfl,hh,hf⟩:=sO h
 obtain⟨h1,h2⟩:=hy s p e rfl hh hf
 simp only[NS] at hj
 cases hp:amP B v s with
 |none=>rw[hp] at hj;exact hj.elim
 |some s'=>rw[hp] at hj;exact jyN hh hp (Tm hB) h1 h2 hj
theorem TZ{v:Value}{f:Oper→Env→Option β}{r:β}(h:dR X.n f o=some r)(hy:∀s p e,o=some s→f p e=some r→∀s0,Jw X e p s0 v)(hj:J X (kP v o)):J X o:=
 jGS h (fun s p e ho hf=>⟨hy s p e ho hf _,fun _=>hy s p e ho hf⟩) hj
def as5(P:Program)(n:Nat)(p:Oper)(e:Env):Option Value:=bif eL p.op then adP P n e p else none
theorem je(v:Value){w:Value}(hw:w=v)(hj:J X (kP v o))(hv:dR X.n (as5 X.P X.n) o=some w:=by kernel_rfl):J X o:=by
 subst hw
 refine jG hv (fun s p e _ _ hf=>?_) hj
 unfold as5 at hf
 cases hn:eL p.op with
 |false=>rw[hn] at hf;cases hf
 |true=>rw[hn] at hf;exact⟨rfl,fun _=>A8 hf,fun _ _=>A8 hf⟩
theorem ja(r:Int)(h: -9223372036854775808≤r∧r≤9223372036854775807)(hj:J X (kP (.int .i64 r) o))(hv:dR X.n (as5 X.P X.n) o=some (.int .i64 (IntKind.i64.wrap r)):=by kernel_rfl):J X o:=je _ (by rw[kX r h]) hj hv
def ldA(P:Program)(n k:Nat)(vs:List Value)(p:Oper)(e:Env):Option (Option Addr):=match p.op with
 | .load T x=>match ldv P T vs k with
  |some _=>match bA n e x with
   |some (.pointer a)=>some a
   |_=>none
  |none=>none
 |_=>none
def ldW(P:Program)(n k:Nat)(vs:List Value)(o:Option JS):Value:=(dR n (fun p _=>match p.op with
 | .load T _=>ldv P T vs k
 |_=>none) o).getD undef
theorem oQ{m:Nat}(k:Nat)(ps:List Nat)(B:Cells)(hr:∀s:St,Ext ⟨X.ro,[]⟩ s→(∀x∈B,s.has x.1 x.2)→cb s b off m vs)(hj:J X (NS B (ldW X.P X.n k vs o) o))(hv:dR X.n (ldA X.P X.n k vs) o=some (some ⟨b,off+k,none⟩):=by kernel_rfl)(hB:eg ps o=some B:=by kernel_rfl):J X o:=by
 refine jGN hv hB (fun s p e ho hh hf=>?_) hj
 subst ho
 unfold ldA at hf
 split at hf<;>try (cases hf;done)
 rename_i T x az
 split at hf<;>try (cases hf;done)
 rename_i v hv2
 split at hf<;>try (cases hf;done)
 rename_i a hx
 simp only[Option.some.injEq] at hf;subst hf
 have hw:ldW X.P X.n k vs (some s)=v:=by simp only[ldW,dR,hh,az,hv2,Option.getD_some]
 rw[hw]
 exact⟨by rw[az];rfl,fun s0 HW uB ops i ho rest hwt s' hs todo Q hk=>mi X.hC ho rest hwt (by rw[az];rfl) (au1 k az hx (hr s0 HW uB) hv2) hs hk⟩
theorem jl{m:Nat}(k:Nat)(hr:cb ⟨X.ro,[]⟩ b off m vs)(hj:J X (NS [] (ldW X.P X.n k vs o) o))(hv:dR X.n (ldA X.P X.n k vs) o=some (some ⟨b,off+k,none⟩):=by kernel_rfl):J X o:=by
 have hB:eg [] o=some []:=by
  obtain⟨s,_,_,rfl,_⟩:=sO hv
  rfl
 exact oQ k [] [] (fun s hs _=>hr.ext hs) hj hv hB
def ixA(P:Program)(n:Nat)(p:Oper)(e:Env):Option (Value×Int×Nat):=match p.op with
 | .indexAddr T x y=>match bh P T with
  |some ⟨.slice E,_,_,_⟩=>match bh P E with
   |some te=>match bA n e x with
    |some v=>match bA n e y with
     |some (.int _ ix)=>some (v,ix,te.size)
     |_=>none
    |none=>none
   |none=>none
  |_=>none
 |_=>none
theorem jix{a:Option Addr}{len:Nat}(ix:Int)(cap sz:Nat)(ha:a=some ⟨b,off,none⟩)(hi:0≤ix∧ix <len)(hj:J X (kP (.pointer (some ⟨b,off+ix.toNat*sz,none⟩)) o))(hv:dR X.n (ixA X.P X.n) o=some (.slice a len cap,ix,sz):=by kernel_rfl):J X o:=by
 refine jG hv (fun s p e ho hh hf=>?_) hj
 unfold ixA at hf
 split at hf<;>try (cases hf;done)
 rename_i T x y az
 split at hf<;>try (cases hf;done)
 rename_i E _ _ _ dX
 split at hf<;>try (cases hf;done)
 rename_i te uw
 split at hf<;>try (cases hf;done)
 rename_i v hx
 split at hf<;>try (cases hf;done)
 rename_i ik ix' hy
 simp only[Option.some.injEq,Prod.mk.injEq] at hf
 obtain⟨rfl,rfl,rfl⟩:=hf
 subst ha
 obtain⟨bG,tf⟩:=av dX
 obtain⟨Ce,ri⟩:=av uw
 have key:∀s,Yields X.P X.n e p s (.pointer (some ⟨b,off+ix'.toNat*te.size,none⟩)):=by
  intro s s' nE f hf K E hK
  simp only[execOp,az,Instr.indexAt,hf _ _ hx,hf _ _ hy,asIntOf,aa,af,bk tf,hi,and_self,if_true,cE ri,dZ]
  exact hK
 exact⟨by rw[az];rfl,fun _=>key _,fun _=>key⟩
theorem fL{ps:List α}{x:α}{a:Option Addr}(cap sz:Nat)(ha:∀k,k <ps.length→a=some ⟨b,off,none⟩)(hx:ps[k]?=some x) (hj:J X (kP (.pointer (some ⟨b,off+k*sz,none⟩)) o)) (hv:dR X.n (ixA X.P X.n) o=some (.slice a ps.length cap,(k:Int),sz):=by kernel_rfl):J X o:=
 have hk:k <ps.length:=(List.getElem?_eq_some_iff.1 hx).1
 jix (k:Int) cap sz (ha k hk) (by omega) hj hv
theorem PT{ps:List α}{x:α}{a:Option Addr}(ix:Int)(cap sz:Nat)(ha:∀k,k <ps.length→a=some ⟨b,off,none⟩)(hx:ps[k]?=some x) (he:ix=(k:Int)) (hj:J X (kP (.pointer (some ⟨b,off+k*sz,none⟩)) o)) (hv:dR X.n (ixA X.P X.n) o=some (.slice a ps.length cap,ix,sz):=by kernel_rfl):J X o:=by
 subst he;exact fL cap sz ha hx hj hv
theorem YT{v:Value}{enc:α→List Value}{ps:List α}{L:Cells}{x:α}(sz:Nat)(lq:aw v szo T2 enc ps L)(hx:ps[k]?=some x) (hj:∀b,PB v b→J X (kP (.pointer (some ⟨b,k*sz,none⟩)) o)) (hv:dR X.n (ixA X.P X.n) o=some (v,(k:Int),sz):=by kernel_rfl):J X o:=by
 have hk:k <ps.length:=(List.getElem?_eq_some_iff.1 hx).1
 obtain⟨b,hb⟩:=aC4 lq hk
 have gh:=hb
 obtain⟨n0,c,rfl⟩:=gh
 have hn:n0=ps.length:=by
  obtain⟨a,c',he⟩:=lq.form
  cases he;rfl
 subst hn
 have hj:=hj b hb
 exact jix (off:=0) (k:Int) c sz rfl (by omega) (by rw[Nat.zero_add];exact hj) hv
theorem qA{v:Value}{enc:α→List Value}{ps:List α}{L:Cells}{x:α}(ix:Int)(sz:Nat)(lq:aw v szo T2 enc ps L)(hx:ps[k]?=some x) (he:ix=(k:Int)) (hj:∀b,PB v b→J X (kP (.pointer (some ⟨b,k*sz,none⟩)) o)) (hv:dR X.n (ixA X.P X.n) o=some (v,ix,sz):=by kernel_rfl):J X o:=by
 subst he;exact YT sz lq hx hj hv
end
attribute [irreducible] dR kP NS eg rB rF ldW
section
variable {X:Cx} {o:Option JS}
theorem PJ{D:List Deferred}{t:Nat}{v:Value}(h:iq e t=some v):A n ((t,v)::e) D=A n e D:=by
 simp only[A]
 congr 1
 congr 1
 funext i
 simp only[get]
 cases hb:Nat.beq t i with
 |false=>rfl
 |true=>
  have:=Nat.eq_of_beq_eq_true hb
  subst this
  exact(nq h).symm
def QP(j:Nat)(v:Value):List (Nat×Value)→List (Nat×Value)
 | []=>[]
 | (i,w)::r=>bif Nat.beq i j then (i,v)::r else (i,w)::QP j v r
theorem G2{j:Nat}{v:Value}:∀ {l:List (Nat×Value)},Ra l j=some v→QP j v l=l
 | (i,w)::r,h=>by
  simp only[Ra] at h
  simp only[QP]
  cases hb:Nat.beq i j with
  |true=>rw[hb] at h;simp only[cond_true,Option.some.injEq] at h;subst h;rfl
  |false=>rw[hb] at h;simp only[cond_false] at h ⊢;rw[G2 h]
def aqB(t:Nat):JS→Option Value
 | ⟨.IW _ _ Pl _ _,_,_,_⟩=>Ra Pl t
 |s=>iq s.env t
def Li(t:Nat):Option JS→Option Value
 |some s=>aqB t s
 |none=>none
def aaF(t:Nat)(v:Value):JS→JS
 | ⟨.IW ops base Pl Sl k,e,w,kn⟩=>⟨.IW ops base (QP t v Pl) Sl k,e,w,kn⟩
 | ⟨p,e,w,kn⟩=>⟨p,(t,v)::e,w,kn⟩
def QQ(t:Nat)(v:Value):Option JS→Option JS
 |some s=>some (aaF t v s)
 |none=>none
theorem jw(t:Nat)(v:Value){w:Value}(hw:w=v)(hj:J X (QQ t v o))(hv:Li t o=some w:=by kernel_rfl):J X o:=by
 subst hw
 cases o with
 |none=>exact hj
 |some s=>
  rcases s with ⟨p,e,J6,kn⟩
  intro bZ
  have hj:=hj
  cases p with
  |IW ops base Pl Sl k=>
   simp only[Li,aqB] at hv
   have:QP t w Pl=Pl:=G2 hv
   simp only[QQ,aaF,this] at hj
   exact hj bZ
  |ops a b c=>have:=hj bZ;simp only[aaF,JP] at this;rw[PJ hv] at this;exact this
  |code a b=>have:=hj bZ;simp only[aaF,JP] at this;rw[PJ hv] at this;exact this
  |nxt a=>have:=hj bZ;simp only[aaF,JP] at this;rw[PJ hv] at this;exact this
  |fin a=>have:=hj bZ;simp only[aaF,JP] at this;rw[PJ hv] at this;exact this
theorem ji(t:Nat){c b:Bool}(h:c=b)(hj:J X (QQ t (.bool b) o))(hv:Li t o=some (.bool c):=by kernel_rfl):J X o:=jw t _ (by rw[h]) hj hv
theorem js(t:Nat)(c:Bool)(h1:c=true→J X (QQ t (.bool true) o))(h2:c=false→J X (QQ t (.bool false) o))(hv:Li t o=some (.bool c):=by kernel_rfl):J X o:=by
 cases hc:c with
 |true=>exact ji t hc (h1 hc) hv
 |false=>exact ji t hc (h2 hc) hv
def aDs(P:Program)(n:Nat)(p:Oper)(e:Env):Option (Obj×Option Nat):=match p.op with
 | .alloc T=>match bh P T with
  |some ti=>some (.cells ⟨ti.zero⟩ T (0,0),none)
  |none=>none
 | .box T x=>match bA n e x with
  |some v=>some (.cells ⟨eA v⟩ T (0,0),none)
  |none=>none
 | .buildSlice T m ps=>match bh P T with
  |some ⟨.slice E,_,_,_⟩=>match bh P E with
   |some te=>match P0 n e ps.toList with
    |some pv=>match oY (fun i=>some (i*te.size,te.size)) (dg te.zero m) (ub pv) with
     |some l=>bif Nat.beq te.zero.length te.size&&Nat.ble (m*te.size) 16777216 then some (.cells ⟨l⟩ E (0,0),some m) else none
     |none=>none
    |none=>none
   |none=>none
  |_=>none
 | .range T x=>match bh P T with
  |some ⟨.string,_,_,_⟩=>match bA n e x with
   |some (.string b)=>some (.stringIter b 0,none)
   |_=>none
  |_=>none
 |_=>none
def afP(b:Nat):Option Nat→Value
 |some m=> .slice (some ⟨b,0,none⟩) m m
 |none=> .pointer (some ⟨b,0,none⟩)
def auH(P:Program)(n b:Nat):Option JS→Option JS
 |some ⟨.ops ops (i::todo) k,e,w,kn⟩=>match qJ n ⟨.ops ops (i::todo) k,e,w,kn⟩ with
  |some (true,p,_)=>match aDs P n p e with
   |some (ob,m)=>some ⟨.ops ops todo k,upd p.dst (afP b m) e,.b b ob::w,kn⟩
   |none=>none
  |_=>none
 |_=>none
theorem SH{ops:Array Oper}{k:List KI}{e':Env}{w:List Sg}(h:qJ n ⟨.ops ops (i::todo) k,e,w,kn⟩=some (g,p,e')):ops[i]?=some p∧e'=e∧(g=true→ay ops n e p.guard=true):=by
 simp only[qJ] at h
 split at h<;>try (cases h;done)
 rename_i p1 ho
 split at h<;>try (cases h;done)
 rename_i g1 hg
 cases h
 refine⟨ho,rfl,fun hg'=>?_⟩
 subst hg'
 have:=n7 hg []
 rwa[List.append_nil] at this
theorem jn(hj:∀b,J X (auH X.P X.n b o)):J X o:=by
 unfold auH at hj
 split at hj
 ·rename_i ops i todo k e w kn
  split at hj
  ·rename_i p e' hh
   obtain⟨ho,rfl,hw⟩:=SH hh
   have hw:=hw rfl
   intro bZ
   rcases p with ⟨dst,op,ty,pos,dk,g⟩
   split at hj
   ·rename_i ob m hn
    have key:∀b,ae X.C X.fn X.aA ops todo (KQ X k) (A X.n (upd dst (afP b m) e') X.D) ⟨X.ro,(b,ob)::den w⟩:=fun b=>by
     have:=hj b bZ
     simp only[JP,jh] at this
     exact this
    unfold aDs at hn
    split at hn
    ·rename_i T az
     dsimp only at az;subst az
     split at hn<;>try (cases hn;done)
     rename_i ti dX
     cases hn
     obtain⟨bG,tf⟩:=av dX
     exact am6 X.hC ho hw tf fun b _=>key b
    ·rename_i T x az
     dsimp only at az;subst az
     split at hn<;>try (cases hn;done)
     rename_i v hx
     cases hn
     exact aDi X.hC ho hw hx (by rw[mJ]) fun b _=>key b
    ·rename_i T m0 ps az
     dsimp only at az;subst az
     split at hn<;>try (cases hn;done)
     rename_i E _ _ _ dX
     split at hn<;>try (cases hn;done)
     rename_i te uw
     split at hn<;>try (cases hn;done)
     rename_i pv Kv
     split at hn<;>try (cases hn;done)
     rename_i l hl
     cases hc:(Nat.beq te.zero.length te.size&&Nat.ble (m0*te.size) 16777216) with
     |false=>rw[hc] at hn;cases hn
     |true=>
      rw[hc] at hn;simp only[cond_true,Option.some.injEq,Prod.mk.injEq] at hn
      obtain⟨rfl,rfl⟩:=hn
      simp only[Bool.and_eq_true] at hc
      obtain⟨bG,tf⟩:=av dX
      obtain⟨Ce,ri⟩:=av uw
      exact N3 X.hC ho hw tf ri hc.1 Kv hc.2 hl fun b _=>key b
    ·rename_i T x az
     dsimp only at az;subst az
     split at hn<;>try (cases hn;done)
     rename_i dX
     split at hn<;>try (cases hn;done)
     rename_i bs hx
     cases hn
     obtain⟨bG,tf⟩:=av dX
     exact Vk X.hC ho hw tf hx fun b _=>key b
    cases hn
   exact(hj 0).elim
  exact(hj 0).elim
 exact(hj 0).elim
def akA(n:Nat)(p:Oper)(e:Env):Option (FuncId×List Value):=match p.op with
 | .call ⟨.value x,xs,_⟩=>match bA n e x with
  |some (.func (.func f) ⟨fi⟩ ⟨ca⟩)=>match yF n e xs.toList with
   |some vs=>some (f,fi++vs++ca)
   |none=>none
  |_=>none
 |_=>none
def y9(P:Program)(n:Nat)(p:Oper)(e:Env):Option (FuncId×List Value):=match akA n p e with
 |some (f,vs)=>bif CC P f then some (f,vs) else none
 |none=>none
theorem qX(h:y9 P n p e=some (f,vs)):FF P f∧∃x xs at_ fi ca ws,p.op= .call ⟨.value x,xs,at_⟩∧bA n e x=some (.func (.func f) ⟨fi⟩ ⟨ca⟩)∧vM n e xs=some ws∧vs=fi++ws++ca:=by
 unfold y9 at h
 split at h<;>try (cases h;done)
 rename_i f' oI hc
 cases hb:CC P f' with
 |false=>rw[hb] at h;cases h
 |true=>
  rw[hb] at h;simp only[cond_true,Option.some.injEq,Prod.mk.injEq] at h
  obtain⟨rfl,rfl⟩:=h
  refine⟨lH hb,?_⟩
  unfold akA at hc
  split at hc<;>try (cases hc;done)
  rename_i x xs at_ az
  split at hc<;>try (cases hc;done)
  rename_i f fi ca hx
  split at hc<;>try (cases hc;done)
  rename_i ws su
  cases hc
  exact⟨x,xs,at_,fi,ca,ws,az,hx,su,rfl⟩
theorem TG(a b c:List Value):(⟨a⟩:Array Value)++⟨b⟩++⟨c⟩=⟨a++b++c⟩:=by simp
def nG(ps:List Nat)(v:Value)(Y:Cells):Option JS→Option JS
 |some ⟨.ops ops (i::todo) k,e,w,kn⟩=>match ops[i]? with
  |some p=>some ⟨.ops ops todo k,upd p.dst v e,.l Y::dO ps 0 w,kn⟩
  |none=>none
 |_=>none
def fq(n:Nat)(f:Oper→Env→Option β):Option JS→Option β
 |some ⟨.ops a b c,e,w,kn⟩=>dR n f (some ⟨.ops a b c,e,w,kn⟩)
 |_=>none
theorem dJ{f:Oper→Env→Option β}{r:β}(h:fq n f o=some r):∃ops i todo k e w kn p,o=some ⟨.ops ops (i::todo) k,e,w,kn⟩∧ops[i]?=some p∧ay ops n e p.guard=true∧f p e=some r:=by
 unfold fq at h
 split at h<;>try (cases h;done)
 rename_i ops todo k e w kn
 obtain⟨s,p,e',hs,hh,hf⟩:=sO h
 cases hs
 cases todo with
 |nil=>cases hh
 |cons i todo=>
  obtain⟨ho,rfl,hw⟩:=SH hh
  exact⟨ops,i,todo,k,e',w,kn,p,rfl,ho,hw rfl,hf⟩
def aq5(ps lp:List Nat):Option JS→Option Cells
 |some s=>eg lp (some {s with rw:=dO ps 0 s.rw})
 |none=>none
theorem oE{ops:Array Oper}{k:List KI}{w:List Sg}{v:Value}(ho:ops[i]?=some p):nG ps v Y (some ⟨.ops ops (i::todo) k,e,w,kn⟩)=some ⟨.ops ops todo k,upd p.dst v e,.l Y::dO ps 0 w,kn⟩:=by
 simp only[nG,ho]
theorem jcL{own:Cells}(ps lp:List Nat)(B:Cells)(hf:∀aF,Sub X.ro aF→Knows aF B→dQ X.P f vs aF own Φ)(hj:∀v Y,Φ v Y→J X (nG ps v Y o))(h1:fq X.n (y9 X.P X.n) o=some (f,vs):=by kernel_rfl)(h2:eg ps o=some own:=by kernel_rfl)(h3:aq5 ps lp o=some B:=by kernel_rfl):J X o:=by
 obtain⟨ops,i,todo,k,e,w,kn,p,rfl,ho,hw,hc⟩:=dJ h1
 obtain⟨ff,x,xs,at_,fi,ca,ws,az,hx,su,rfl⟩:=qX hc
 intro bZ
 rcases p with ⟨dst,op,ty,pos,dk,g⟩
 dsimp only at az;subst az
 have hp:=bM h2
 refine afG (own:=own) (B:=B) (Φ:=Φ) X.hC ho hw hx ff su (TG fi ws ca) hp (fun y hy=>(bM h3).mem_iff.2 (List.mem_append_left _ hy)) (fun aF hs hB=>hf aF hs hB) (fun v Y qB=>?_)
 have:=hj v Y qB
 simp only[nG,ho] at this
 have:=this bZ
 simp only[JP,gG] at this
 exact this
theorem jc{own:Cells}(ps:List Nat)(hf:dQ X.P f vs X.ro own Φ)(hj:∀v Y,Φ v Y→J X (nG ps v Y o))(h1:fq X.n (y9 X.P X.n) o=some (f,vs):=by kernel_rfl)(h2:eg ps o=some own:=by kernel_rfl):J X o:=by
 obtain⟨ops,i,todo,k,e,w,kn,p,rfl,ho,hw,hc⟩:=dJ h1
 obtain⟨ff,x,xs,at_,fi,ca,ws,az,hx,su,rfl⟩:=qX hc
 intro bZ
 rcases p with ⟨dst,op,ty,pos,dk,g⟩
 dsimp only at az;subst az
 have hp:=bM h2
 refine uk (fi:=⟨fi⟩) (ca:=⟨ca⟩) (ws:=fi++ws++ca) X.hC ho hw hx ff su (TG fi ws ca) (Fn.weaken X.hC (dQ.aBb (s:=⟨X.ro,den w⟩) hp hf)) (fun v' s' hr=>?_) (fun ch s' hr=>by obtain⟨_,_,e,_⟩:=hr;cases e) (fun s' hr=>by obtain⟨_,_,e,_⟩:=hr;cases e)
 obtain⟨v,Y,hv,qB,hle⟩:=hr
 cases hv
 have:=hj _ Y qB
 simp only[nG,ho] at this
 have:=this bZ
 simp only[JP,gG] at this
 exact this.more X.hC hle
theorem jp{V:Value}(lp:List Nat)(B:Cells)(hf:∀aF,Sub X.ro aF→Knows aF B→dv X.P f vs aF V)(hj:J X (NS B V o))(h1:dR X.n (y9 X.P X.n) o=some (f,vs):=by kernel_rfl)(h3:eg lp o=some B:=by kernel_rfl):J X o:=by
 refine jGN h1 h3 (fun s p e ho hh hc=>?_) hj
 obtain⟨ff,x,xs,at_,fi,ca,ws,az,hx,su,rfl⟩:=qX hc
 rcases p with ⟨dst,op,ty,pos,dk,g⟩
 dsimp only at az;subst az
 refine⟨rfl,fun s0 HW uB ops i tz rest hw s' hs todo Q hk=>?_⟩
 have hez:Ext ⟨X.ro,B⟩ s':=fun b ob hb=>hs _ _ (hb.elim (fun h=>HW _ _ (.inl h)) fun h=>uB (b,ob) h)
 exact Rz X.hC tz hw (bp hx) ff (xW su) (TG fi ws ca) hez (fun aF h1=>hf aF (GY h1) fun y hy=>h1 _ _ (.inr hy)) hk
end
attribute [irreducible] fq QQ Li auH nG aq5
def qT(P:Program)(f:FuncId):Func:=match P.funcs[f]? with
 |some fn=>fn
 |none=>default
abbrev RX(ro:Nat→Option Obj)(Φ:Value→Cells→Prop):Ending→St→Prop:=fun en s'=>∃v X,en= .returned v∧s'=⟨ro,X⟩∧Φ v X
def X0(P:Program)(hm:P.follows .mixedOrders=true)(f:FuncId)(ro:Nat→Option Obj)(R:Ending→St→Prop):Cx:=⟨P,CP P,fe,hm,f,none,(qT P f).ntmps,[],ro,rP P (qT P f) R⟩
def j8(P:Program)(f:FuncId)(args:List Value)(own:List Sg)(kn:Cells):Option JS:=match P.funcs[f]? with
 |some fn=>match fn.body with
  |some c=>bif Nat.ble args.length fn.ntmps then some ⟨.code c [],fU 0 args,own,⟨kn,[]⟩⟩ else none
  |none=>none
 |none=>none
theorem aDY{hm:P.follows .mixedOrders=true}(own:List Sg)(kn:Cells)(hk:Knows ro kn)(h:J (X0 P hm f ro R) (j8 P f args own kn)):Fn (CP P) P f ⟨args⟩ ⟨ro,den own⟩ R:=by
 unfold j8 at h
 split at h<;>try exact h.elim
 rename_i fn hf
 split at h<;>try exact h.elim
 rename_i c hc
 cases hl:Nat.ble args.length fn.ntmps with
 |false=>rw[hl] at h;exact h.elim
 |true=>
  rw[hl] at h
  have u3:qT P f=fn:=by simp only[qT,hf]
  have:=h hk
  simp only[JP,X0,KQ,u3] at this
  exact S5 fe hf hc rfl hl this
theorem bw(hm:P.follows .mixedOrders=true){L:Cells}(own:List Sg)(kn:Cells)(hk:Knows ro kn)(h:J (X0 P hm f ro (RX ro Φ)) (j8 P f args own kn))(hL:den own=L:=by rfl):dQ P f args ro L Φ:=by
 subst hL;exact aDY own kn hk h
def CY(P:Program)(n:Nat)(e:Env)(w:List Sg)(kn:Cells):List Nat→List ResultVar→Option (List Value×List (Nat×Nat))
 |_,[]=>some ([],[])
 |hs,.tmp t::rs=>match bA n e (.tmp t) with
  |some v=>match CY P n e w kn hs rs with
   |some (vs,q)=>some (v::vs,q)
   |none=>none
  |none=>none
 |h::hs,.cell t T::rs=>match bA n e (.tmp t) with
  |some (.pointer (some ⟨b,off,none⟩))=>match Cc w kn h with
   |some (b',l)=>match ldv P T l off with
    |some v=>match CY P n e w kn hs rs with
     |some (vs,q)=>some (v::vs,(b',b)::q)
     |none=>none
    |none=>none
   |none=>none
  |_=>none
 | [],.cell _ _::_=>none
def iO(P:Program)(n:Nat)(f:FuncId)(hs:List Nat):Option JS→Option (Value×List (Nat×Nat))
 |some ⟨.fin _,e,w,kn⟩=>match CY P n e w kn.c hs (qT P f).results.toList with
  |some (vs,q)=>some (uY vs,q)
  |none=>none
 |_=>none
def rn:Option (Value×List (Nat×Nat))→Option Value
 |some (v,_)=>some v
 |none=>none
def P2:Option (Value×List (Nat×Nat))→List Nat
 |some (_,q)=>Wv q
 |none=>[0]
def P1:Option (Value×List (Nat×Nat))→List Nat
 |some (_,q)=>UO q
 |none=>[1]
theorem tW{w:List Sg}{kn:Cells}(bZ:Knows X.ro kn):∀ {hs:List Nat} {rs:List ResultVar} {vs:List Value} {q:List (Nat×Nat)},CY X.P X.n e w kn hs rs=some (vs,q)→(∀p∈q,p.1=p.2)→F3 X.P ⟨X.ro,den w⟩ X.n e rs vs
 |_,[],vs,q,h,_=>by simp only[CY,Option.some.injEq,Prod.mk.injEq] at h;obtain⟨rfl,rfl⟩:=h;exact .nil
 |hs,.tmp t::rs,vs,q,h,hq=>by
  simp only[CY] at h
  split at h<;>try (cases h;done)
  rename_i v hv
  split at h<;>try (cases h;done)
  rename_i oI q' hr
  simp only[Option.some.injEq,Prod.mk.injEq] at h;obtain⟨rfl,rfl⟩:=h
  exact .tmp hv (tW bZ hr hq)
 | [],.cell _ _::_,vs,q,h,_=>by simp only[CY] at h;cases h
 |h0::hs,.cell t T::rs,vs,q,h,hq=>by
  simp only[CY] at h
  split at h<;>try (cases h;done)
  rename_i b off hv
  split at h<;>try (cases h;done)
  rename_i b' l hc
  split at h<;>try (cases h;done)
  rename_i v hld
  split at h<;>try (cases h;done)
  rename_i oI q' hr
  simp only[Option.some.injEq,Prod.mk.injEq] at h;obtain⟨rfl,rfl⟩:=h
  have hb:b'=b:=hq _ List.mem_cons_self
  subst hb
  obtain⟨t',fz,hh⟩:=AG (X:=X) bZ hc
  have ih:=tW bZ hr fun p hp=>hq p (List.mem_cons_of_mem _ hp)
  unfold ldv at hld
  split at hld<;>try (cases hld;done)
  rename_i ti dX
  obtain⟨bG,tf⟩:=av dX
  cases ha:ti.agg with
  |true=>
   rw[ha] at hld tf;simp only[cond_true] at hld
   split at hld<;>try (cases hld;done)
   rename_i vs2 FH
   cases hld
   exact .agg tf hv ⟨_,_,_,hh,FH⟩ ih
  |false=>
   rw[ha] at hld tf;simp only[cond_false] at hld
   exact .cell tf hv ⟨_,_,_,hh,hld⟩ ih
def Az:Option JS→Bool
 |some ⟨.fin .ret,_,_,_⟩=>true
 |some ⟨.fin .normal,_,_,_⟩=>true
 |_=>false
theorem tE{o:Option JS}(h:Az o=true):∃ex e w kn,o=some ⟨.fin ex,e,w,kn⟩∧(ex= .ret∨ex= .normal):=by
 unfold Az at h
 split at h
 ·exact⟨_,_,_,_,rfl,.inl rfl⟩
 ·exact⟨_,_,_,_,rfl,.inr rfl⟩
 cases h
def agc:Option JS→Bool
 |some ⟨.ops ..,_,_,_⟩=>true
 |some ⟨.code ..,_,_,_⟩=>true
 |_=>false
structure QR(X:Cx)(R:Ending→St→Prop):Prop where
 q:X.Q=rP X.P (qT X.P X.fn) R
 d:X.D=[]
theorem q0{hm:P.follows .mixedOrders=true}:QR (X0 P hm f ro R) R:=⟨rfl,rfl⟩
theorem QR.a(h:QR X R):QR (X.at ro) R:=⟨h.q,h.d⟩
theorem aU:Knows ro []:=fun _ h=>by cases h
section
variable {X:Cx} {o:Option JS}
theorem aI{oA:Nat→Option Obj}(hq:QR X R)(v:Value)(hs ps:List Nat)(Y:Cells)(fJ:Sub oA X.ro)(hR:R (.returned v) ⟨oA,Y⟩)(h1:rn (iO X.P X.n X.fn hs o)=some v:=by kernel_rfl)(h2:P2 (iO X.P X.n X.fn hs o)=P1 (iO X.P X.n X.fn hs o):=by kernel_rfl)(h3:eg ps o=some Y:=by kernel_rfl)(h4:Az o=true:=by kernel_rfl):J X o:=by
 obtain⟨ex,e,w,kn,rfl,hex⟩:=tE h4
 simp only[iO] at h1 h2
 cases hr:CY X.P X.n e w kn.c hs (qT X.P X.fn).results.toList with
 |none=>rw[hr] at h1;cases h1
 |some x=>
  rcases x with ⟨vs,q⟩
  simp only[hr,rn,Option.some.injEq,P2,P1] at h1 h2
  intro bZ
  have sA:=tW bZ hr (mI h2)
  have hp:=bM h3
  show X.Q ex (A X.n e X.D) ⟨X.ro,den w⟩
  rw[hq.q,hq.d]
  exact QW (s0:=⟨oA,Y⟩) hex sA h1 (ee hp fJ) hR
def xD(X:Cx)(K:Act→St→Prop)(ef:ι→Env)(wf:ι→List Sg)(Inv:ι→Prop)(μ:ι→Nat)(m:Nat):Prop:=
 ∀j,Inv j→μ j <m→∀(e:Env) (s:St),lB e (ef j)→(⟨X.ro,den (wf j)⟩:St).le s→K (A X.n e X.D) s
def yH:List Nat→List (Act→St→Prop)→Code→List KI→Option (Code×List KI)
 | [],_,c,k=>some (c,k)
 |0::p,Ks,.seq a b,k=>yH p Ks a (.seq b::k)
 |1::p,Ks,.seq _ b,k=>yH p Ks b k
 |2::p,K::Ks,.seq a _,k=>yH p Ks a (.next K::k)
 |_::p,Ks,.block id c,k=>yH p Ks c (.block id::k)
 |_::p,Ks,.scope c,k=>yH p Ks c k
 |0::p,Ks,.cond _ a _,k=>yH p Ks a k
 |_::p,Ks,.cond _ _ b,k=>yH p Ks b k
 |_::p,K::Ks,.loop c,k=>yH p Ks c (.next K::k)
 |_::p,Ks,.rangeFunc _ _ _ b,_=>yH p Ks b []
 |_,_,_,_=>none
def KV(P:Program)(f:FuncId)(p:List Nat)(Ks:List (Act→St→Prop)):Option (Code×List KI):=match (qT P f).body with
 |some c=>yH p Ks c []
 |none=>none
def stC(e:Env)(w:List Sg):Option (Code×List KI)→Option JS
 |some (c,k)=>some ⟨.code c k,e,w,⟨[],[]⟩⟩
 |none=>none
def stW(P:Program)(f:FuncId)(p:List Nat)(Ks:List (Act→St→Prop))(e:Env)(w:List Sg):Option JS:=stC e w (KV P f p Ks)
def yY:Option JS→Option (Code×List KI)
 |some ⟨.code c k,_,_,_⟩=>some (c,k)
 |_=>none
def lpB(K:Act→St→Prop):Option (Code×List KI)→Option (Code×List KI)
 |some (.loop c,k)=>some (c,.next K::k)
 |_=>none
theorem dL(p:List Nat)(Ks:List (Act→St→Prop))(ef:ι→Env)(wf:ι→List Sg)(Inv:ι→Prop)(μ:ι→Nat)(i0:ι)(h0:Inv i0)(ps:List Nat)(hb:∀i,Inv i→∀K,xD X K ef wf Inv μ (μ i)→∀rest,J X (stW X.P X.fn p (Ks++[K]) (ef i++rest) (wf i)))
 (h1:rF (nJ (ef i0)) o=some (ef i0):=by kernel_rfl)(hd:∀i,lkE (nJ (ef i)) (ef i)=some (ef i):=by intro _;kernel_rfl)(h2:rB ps o=some (wf i0):=by kernel_rfl)(hp:∀K,KV X.P X.fn p (Ks++[K])=lpB K (yY o):=by intro _;kernel_rfl):J X o:=by
 have hT:∀i,xD X (fun _ _=>True) ef wf Inv μ (μ i):=fun _ _ _ _ _ _ _ _=>trivial
 have bad:∀(K:Act→St→Prop),lpB K (yY o)=none→(∀i,xD X K ef wf Inv μ (μ i))→J X o:=fun K h hK=>by
  have:=hb i0 h0 K (hK i0) []
  simp only[stW,hp,h,stC] at this
  exact this.elim
 cases o with
 |none=>exact bad _ rfl hT
 |some s=>
  rcases s with ⟨q,e,w,kn⟩
  cases q with
  |code c k=>
   cases c with
   |loop c=>
    intro bZ
    refine adz X.hC ef (fun i=>⟨X.ro,den (wf i)⟩) Inv μ i0 h0 (lh (by rw[tw] at h1;exact h1)) (lh (hd i0)) (ee (mh h2) (Sub.refl _)) fun i hi rest=>?_
    have:=hb i hi _ (fun j hj hm e s hc hle=>am9 j hj hm hc (lh (hd j)) hle) rest
    simp only[stW,hp,yY,lpB,stC] at this
    exact this fun _ h=>(List.not_mem_nil h).elim
   |_=>exact bad _ rfl hT
  |_=>exact bad _ rfl hT
def abi:Option JS→Option (Act→St→Prop)
 |some ⟨.nxt K,_,_,_⟩=>some K
 |_=>none
theorem bF{K:Act→St→Prop}{ef:ι→Env}{wf:ι→List Sg}{Inv:ι→Prop}{μ:ι→Nat}{m:Nat}(hK:xD X1 K ef wf Inv μ m)(j:ι)(h:Inv j)(hm:μ j <m)(ps:List Nat)(hs:Sub X1.ro X.ro)
 (h0:abi o=some K:=by kernel_rfl)(h1:rF (nJ (ef j)) o=some (ef j):=by kernel_rfl)(h2:rB ps o=some (wf j):=by kernel_rfl)(hn:X1.n=X.n:=by rfl)(hD:X1.D=X.D:=by rfl):J X o:=by
 unfold abi at h0
 split at h0<;>try (cases h0;done)
 rename_i K' e w kn
 cases h0
 intro _
 rw[tw] at h1
 have:=hK j h hm e ⟨X.ro,den w⟩ (lh h1) (ee (mh h2) hs)
 rw[hn,hD] at this
 exact this
def gS:List (List Nat)→List Sg→Option (List Cells)
 | [],_=>some []
 |p::r,w=>match Rb p w with
  |some x=>match gS r w with
   |some y=>some (den x::y)
   |none=>none
  |none=>none
def gO(ps:List (List Nat)):Option JS→Option (List Cells)
 |some s=>bif Hs ps.flatten then gS ps s.rw else none
 |none=>none
def aaI:List Sg→List Cells
 | []=>[]
 |x::w=>den [x]::aaI w
theorem G3:∀(w:List Sg),(aaI w).flatten=den w
 | []=>rfl
 | .b i o::w=>by simp[aaI,jh,G3 w];rfl
 | .l L::w=>by simp[aaI,gG,G3 w];rfl
theorem Yf:∀ {a b:List Nat} {w x y:List Sg},Rb a w=some x→Rb b w=some y→Rb (a++b) w=some (x++y)
 | [],b,w,x,y,h,h2=>by simp only[Rb,Option.some.injEq] at h;subst h;exact h2
 |i::a,b,w,x,y,h,h2=>by
  simp only[Rb] at h
  split at h<;>try (cases h;done)
  rename_i z hz
  split at h<;>try (cases h;done)
  rename_i r hr
  cases h
  simp only[List.cons_append,Rb,hz,Yf hr h2]
theorem ar2:∀ {ps:List (List Nat)} {w:List Sg} {l:List Cells},gS ps w=some l→∃z,Rb ps.flatten w=some z∧den z=l.flatten
 | [],w,l,h=>by simp only[gS,Option.some.injEq] at h;subst h;exact⟨[],rfl,rfl⟩
 |p::r,w,l,h=>by
  simp only[gS] at h
  split at h<;>try (cases h;done)
  rename_i x hx
  split at h<;>try (cases h;done)
  rename_i y hy
  cases h
  obtain⟨z,h1,h2⟩:=ar2 hy
  exact⟨x++z,by simpa using Yf hx h1,by simp[ma,h2]⟩
theorem HM{K:Act→St→Prop}{ef:ι→Env}{wf:ι→List Sg}{Inv:ι→Prop}{μ:ι→Nat}{m:Nat}(hK:xD X1 K ef wf Inv μ m)(j:ι)(h:Inv j)(hm:μ j <m)(ps:List (List Nat))(hs:Sub X1.ro X.ro)
 (h0:abi o=some K:=by kernel_rfl)(h1:rF (nJ (ef j)) o=some (ef j):=by kernel_rfl)(h2:gO ps o=some (aaI (wf j)):=by kernel_rfl)(hn:X1.n=X.n:=by rfl)(hD:X1.D=X.D:=by rfl):J X o:=by
 unfold abi at h0
 split at h0<;>try (cases h0;done)
 rename_i K' e w kn
 cases h0
 intro _
 rw[tw] at h1
 have hp:(den w).Perm (den (wf j)++den (dO ps.flatten 0 w)):=by
  simp only[gO] at h2
  cases ho:Hs ps.flatten with
  |false=>rw[ho] at h2;cases h2
  |true=>
   rw[ho] at h2
   obtain⟨z,h3,h4⟩:=ar2 h2
   rw[G3] at h4
   rw[←h4]
   exact xN h3 ho
 have:=hK j h hm e ⟨X.ro,den w⟩ (lh h1) (ee hp hs)
 rw[hn,hD] at this
 exact this
def aIk:Option (Code×List KI)→Option (Code×List KI)
 |some (_,.seq y::k)=>some (y,k)
 |_=>none
def ayD(K:Act→St→Prop):Option JS→Option JS
 |some ⟨.code x (.seq _::k),e,w,kn⟩=>some ⟨.code x (.next K::k),e,w,kn⟩
 |_=>none
theorem EL(p:List Nat)(Ks:List (Act→St→Prop))(ef:ι→Env)(wf:ι→List Sg)(Inv:ι→Prop)(hj:∀i,Inv i→∀rest,J X (stW X.P X.fn p Ks (ef i++rest) (wf i)))(h:∀K,xD X K ef wf Inv (fun _=>0) 1→J X (ayD K o))(hd:∀i,lkE (nJ (ef i)) (ef i)=some (ef i):=by intro _;kernel_rfl)(hp:KV X.P X.fn p Ks=aIk (yY o):=by kernel_rfl):J X o:=by
 unfold ayD at h
 split at h
 ·rename_i x y k e w kn
  intro bZ
  refine h (fun a s=>Wp X.C X.fn X.aA y (KQ X k) a s) (fun j hI _ e s hc hle=>?_) bZ
  obtain⟨r,hr⟩:=gv (n:=X.n) (D:=X.D) hc (lh (hd j))
  rw[hr]
  have:=hj j hI r
  simp only[stW,hp,yY,aIk,stC] at this
  exact(this fun _ h=>(List.not_mem_nil h).elim).more X.hC hle
 exact(h (fun _ _=>True) fun _ _ _ _ _ _ _=>trivial).elim
def expand:Cells→List Sg
 | []=>[]
 |x::l=> .b x.1 x.2::expand l
def WG:Nat→List Sg→List Sg
 |_,[]=>[]
 |0,.l L::w=>expand L++w
 |0,x::w=>x::w
 |i+1,x::w=>x::WG i w
theorem Xl{w w':List Sg}{p:Pos}(h:den w'=den w)(hj:JP X kn e w' p):JP X kn e w p:=by
 cases p<;>simp only[JP,h] at hj ⊢ <;>exact hj
def aHq(i:Nat):Option JS→Option JS
 |some s=>some {s with rw:=WG i s.rw}
 |none=>none
def Z8:List Sg→Cells
 | []=>[]
 | .b i o::w=>(i,o)::Z8 w
 | .l _::w=>Z8 w
theorem yd:∀ {w:List Sg} {x:Nat×Obj},x∈Z8 w→x∈den w
 | .b i o::w,x,h=>by
  rw[jh]
  rcases List.mem_cons.1 h with rfl|h
  ·exact List.mem_cons_self
  exact List.mem_cons_of_mem _ (yd h)
 | .l L::w,x,h=>by rw[gG];exact List.mem_append_right _ (yd (w:=w) h)
def ao2(ps:List Nat):Option JS→Option JS
 |some s=>match Rb ps s.rw with
  |some w=>some {s with rw:=dO ps 0 s.rw,kn:=⟨Z8 w++s.kn.c,s.kn.nd⟩}
  |none=>none
 |none=>none
theorem JA:∀(k:List KI),KQ (X.at aC) k=KQ X k
 | []=>rfl
 | .seq _::k=>by simp only[KQ,JA k];rfl
 | .block _::k=>by simp only[KQ,JA k]
 | .next _::k=>by simp only[KQ,JA k]
theorem jf(ps:List Nat)(L:Cells)(h:∀aC,Sub X.ro aC→Knows aC L→J (X.at aC) (ao2 ps o))(h2:eg ps o=some L:=by kernel_rfl)(hp:agc o=true:=by kernel_rfl):J X o:=by
 have hpk:∀ {s:JS},eg ps (some s)=some L→∃w,Rb ps s.rw=some w∧den w=L:=by
  intro s hs
  simp only[eg,rB] at hs
  cases hk:Hs ps with
  |false=>rw[hk] at hs;cases hs
  |true=>
   rw[hk] at hs;simp only[cond_true] at hs
   split at hs<;>try (cases hs;done)
   rename_i w hw
   cases hs
   exact⟨w,hw,rfl⟩
 unfold agc at hp
 split at hp
 ·rename_i ops todo k e w kn
  intro bZ
  obtain⟨w1,hw1,rfl⟩:=hpk h2
  refine Vh X.hC (bM h2) fun aC hs hk=>?_
  have:=h aC hs hk
  simp only[ao2,hw1] at this
  have:=this (fun x hx=>(List.mem_append.1 hx).elim (fun hx=>hk x (yd hx)) fun hx=>hs _ _ (bZ x hx))
  simp only[JP,JA] at this
  exact this
 ·rename_i c k e w kn
  intro bZ
  obtain⟨w1,hw1,rfl⟩:=hpk h2
  refine aas X.hC (bM h2) fun aC hs hk=>?_
  have:=h aC hs hk
  simp only[ao2,hw1] at this
  have:=this (fun x hx=>(List.mem_append.1 hx).elim (fun hx=>hk x (yd hx)) fun hx=>hs _ _ (bZ x hx))
  simp only[JP,JA] at this
  exact this
 cases hp
def geO:Option JS→Option JS
 |some s=>some {s with rw:= .l []::s.rw}
 |none=>none
theorem nB(h:J X (geO o)):J X o:=by
 cases o with
 |none=>exact h
 |some s=>exact fun bZ=>Xl (by simp[gG]) (h bZ)
def sgS:Nat→List Sg→List Sg→List Sg
 |_,_,[]=>[]
 |0,l,_::w=>l++w
 |i+1,l,x::w=>x::sgS i l w
theorem XU{l:List Sg}:∀ {i:Nat} {w:List Sg} {x:Sg},zw w i=some x→den [x]=den l→den (sgS i l w)=den w
 |_,[],_,h,_=>by cases h
 |0,y::w,x,h,hd=>by
  simp only[zw,Option.some.injEq] at h;subst h
  have:den (y::w)=den [y]++den w:=by rw[←ma];rfl
  rw[this,hd,←ma];rfl
 |i+1,y::w,x,h,hd=>by
  have:=XU (w:=w) (i:=i) h hd
  cases y<;>simp[sgS,jh,gG,this]
def sgO(i:Nat)(l:List Sg):Option JS→Option JS
 |some s=>some {s with rw:=sgS i l s.rw}
 |none=>none
theorem jg(i:Nat)(l:List Sg)(h:J X (sgO i l o))(h2:eg [i] o=some (den l):=by kernel_rfl):J X o:=by
 cases o with
 |none=>exact h
 |some s=>
  have hn:∃x,zw s.rw i=some x∧den [x]=den l:=by
   simp only[eg,rB,Hs,bn,Rb,Bool.not_false,Bool.true_and,cond_true] at h2
   cases hx:zw s.rw i with
   |none=>rw[hx] at h2;cases h2
   |some x=>rw[hx] at h2;simp only[Option.some.injEq] at h2;exact⟨x,rfl,h2⟩
  obtain⟨x,hx,hd⟩:=hn
  exact fun bZ=>Xl (XU hx hd) (h bZ)
theorem jmw(i:Nat)(l:List Sg){L:Cells}(h:L=den l)(hj:J X (sgO i l o))(h2:eg [i] o=some L:=by kernel_rfl):J X o:=by
 subst h;exact jg i l hj h2
end
def Cx.wd(X:Cx)(D:List Deferred):Cx:={X with D:=D}
theorem TU{D:List Deferred}:∀(k:List KI),KQ (X.wd D) k=KQ X k
 | []=>rfl
 | .seq _::k=>by simp only[KQ,TU k];rfl
 | .block _::k=>by simp only[KQ,TU k]
 | .next _::k=>by simp only[KQ,TU k]
def GB(X:Cx)(K:Act→St→Prop)(ef:ι→Env)(wf:ι→List Sg)(df:ι→List Deferred)(Inv:ι→Prop)(μ:ι→Nat)(m:Nat):Prop:=
 ∀j,Inv j→μ j <m→∀(e:Env) (s:St),lB e (ef j)→(⟨X.ro,den (wf j)⟩:St).le s→K (A X.n e (df j)) s
section
variable {X:Cx} {o:Option JS}
theorem adA{C:Class}{fn:FuncId}{aA:Option Nat}{Q:Post}{env:Env}(hC:∀main T,C main T→Closed X.P main T)(p5:ι→Env)(sf:ι→St)(df:ι→List Deferred)(Inv:ι→Prop)(μ:ι→Nat){c:Code}(i0:ι)(h0:Inv i0)(hc:lB env (p5 i0))(hd:∀i,lB (p5 i) (p5 i))(hs:(sf i0).le s)
 (round:∀i,Inv i→∀rest,Wp C fn aA c (mA (fun a s=>∃j,Inv j∧μ j <μ i∧(∃e,lB e (p5 j)∧a=A n e (df j))∧(sf j).le s) Q) (A n (p5 i++rest) (df i)) (sf i)):Wp C fn aA (.loop c) Q (A n env (df i0)) s:=by
 obtain⟨r0,u2⟩:=gv (n:=n) (D:=df i0) hc (hd i0)
 rw[u2]
 intro main T hT b k cs h1 h2 h3 h4
 have key:∀m i rest s,μ i=m→Inv i→(sf i).le s→T (G (aK b (A n (p5 i++rest) (df i)) (.code c:: .inLoop c::k)) cs) s:=by
  intro m
  induction m using Nat.strongRecOn with
  |_ m ih=>
   intro i rest s hm hI hle
   refine(hC main T hT).mono _ _ _ hle ?_
   refine round i hI rest main T hT b (.inLoop c::k) cs h1 h2 h3 fun e a' s' q=>?_
   cases e with
   |normal=>
    obtain⟨j,Aw,cU,⟨e,he,rfl⟩,yC⟩:=q
    obtain⟨aeO,hr⟩:=gv (n:=n) (D:=df j) he (hd j)
    rw[hr]
    exact(hC main T hT).go rfl rfl (g':=G (aK b _ (.code c:: .inLoop c::k)) cs) (fun w=>by simp[G,stepG,stepG.exec,aK]) (ih _ (hm▸cU) j aeO s' rfl Aw yC)
   |exit id=>exact(h4 _ _ _ q).push rfl (by simp)
   |ret=>exact(h4 _ _ _ q).push (x:= .inLoop c) rfl (by simp)
   |panic ch=>exact(h4 _ _ _ q).push (x:= .inLoop c) rfl (by simp)
   |goto l=>exact(h4 _ _ _ q).elim
   |outgrown=>exact(h4 _ _ _ q).elim
 exact(hC main T hT).go rfl rfl (g':=G (aK b (A n (p5 i0++r0) (df i0)) (.code c:: .inLoop c::k)) cs) (fun w=>by simp[G,stepG,stepG.exec,aK]) (key _ i0 r0 s rfl h0 hs)
theorem aD2(p:List Nat)(Ks:List (Act→St→Prop))(ef:ι→Env)(wf:ι→List Sg)(df:ι→List Deferred)(Inv:ι→Prop)(μ:ι→Nat)(i0:ι)(h0:Inv i0)(ps:List Nat)(hb:∀i,Inv i→∀K,GB X K ef wf df Inv μ (μ i)→∀rest,J (X.wd (df i)) (stW X.P X.fn p (Ks++[K]) (ef i++rest) (wf i)))
 (h1:rF (nJ (ef i0)) o=some (ef i0):=by kernel_rfl)(hd:∀i,lkE (nJ (ef i)) (ef i)=some (ef i):=by intro _;kernel_rfl)(h2:rB ps o=some (wf i0):=by kernel_rfl)(hp:∀K,KV X.P X.fn p (Ks++[K])=lpB K (yY o):=by intro _;kernel_rfl)(hD:X.D=df i0:=by rfl):J X o:=by
 have hT:∀i,GB X (fun _ _=>True) ef wf df Inv μ (μ i):=fun _ _ _ _ _ _ _ _=>trivial
 have bad:∀(K:Act→St→Prop),lpB K (yY o)=none→(∀i,GB X K ef wf df Inv μ (μ i))→J X o:=fun K h hK=>by
  have:=hb i0 h0 K (hK i0) []
  simp only[stW,hp,h,stC] at this
  exact this.elim
 cases o with
 |none=>exact bad _ rfl hT
 |some s=>
  rcases s with ⟨q,e,w,kn⟩
  cases q with
  |code c k=>
   cases c with
   |loop c=>
    intro bZ
    show Wp X.C X.fn X.aA (.loop c) (KQ X k) (A X.n e X.D) ⟨X.ro,den w⟩
    rw[hD]
    refine adA (X:=X) X.hC ef (fun i=>(⟨X.ro,den (wf i)⟩:St)) df Inv μ i0 h0 (lh (by rw[tw] at h1;exact h1)) (fun i=>lh (hd i)) (ee (mh h2) (Sub.refl _)) fun i hi rest=>?_
    have:=hb i hi (fun a s=>∃j,Inv j∧μ j <μ i∧(∃e,lB e (ef j)∧a=A X.n e (df j))∧(⟨X.ro,den (wf j)⟩:St).le s) (fun j hj hm e s hc hle=>⟨j,hj,hm,⟨e,hc,rfl⟩,hle⟩) rest
    simp only[stW,hp,yY,lpB,stC] at this
    have:=this fun _ h=>(List.not_mem_nil h).elim
    simp only[JP,KQ,TU] at this
    exact this
   |_=>exact bad _ rfl hT
  |_=>exact bad _ rfl hT
theorem jnD{K:Act→St→Prop}{ef:ι→Env}{wf:ι→List Sg}{df:ι→List Deferred}{Inv:ι→Prop}{μ:ι→Nat}{m:Nat}(hK:GB X1 K ef wf df Inv μ m)(j:ι)(h:Inv j)(hm:μ j <m)(ps:List (List Nat))(hs:Sub X1.ro X.ro)
 (h0:abi o=some K:=by kernel_rfl)(h1:rF (nJ (ef j)) o=some (ef j):=by kernel_rfl)(h2:gO ps o=some (aaI (wf j)):=by kernel_rfl)(hn:X1.n=X.n:=by rfl)(hD:X.D=df j:=by rfl):J X o:=by
 have hK':xD (X1.wd (df j)) K ef wf (fun i=>i=j) μ m:=fun i hi hm e s hc hle=>by subst hi;exact hK _ h hm e s hc hle
 exact HM hK' j rfl hm ps hs h0 h1 h2 hn hD.symm
end
attribute [irreducible] gO geO qT j8 ayD stW yY KV aHq ao2 sgO Az agc iO P2 P1 rn abi
end Go.L
