/- Part 4 of the proof. -/
import Derived.Test.YtfamogolneloaaaGreatDoorR3
import Derived.KernelRfl
import GoSem.Extern.Table
set_option maxRecDepth 100000
set_option linter.all false
namespace Go.L
open Go Go.Conc
variable {x y:Operand} {α ι β:Type} {T E T' T2 U:TypeId} {e:Env} {b:ByteArray} {sz n k off i szo iF vg cap id:Nat} {l vs args z':List Value} {P:Program} {f:FuncId} {R:Ending→St→Prop} {Φ:Value→Cells→Prop} {todo ps nu hs:List Nat} {s:St} {p o:Oper} {aG:Nat→Option Obj} {fz:Nat×Nat} {xs:Array Operand} {at_:Array TypeId} {hi lo:Int} {Y B rw' fr:Cells} {g wW:Bool}
theorem cB.part{b o m:Nat}{ws:List Value}(h:cB s b o m vs)(j k:Nat)(hj:sub vs j k=some ws):cB s b (o+j) k ws:=by
 obtain⟨l,t,fz,h1,h2⟩:=h
 obtain⟨h3,h4⟩:=sub_eq _ _ _ _ h2
 obtain⟨h5,h6⟩:=sub_eq _ _ _ _ hj
 refine⟨l,t,fz,h1,?_⟩
 have hlen:(o+j)+k≤l.length:=by
  rcases Nat.eq_zero_or_pos k with h0|h0
  ·subst h0
   have:o+j≤l.length:=by
    have h7:sub vs j 0=some ws:=hj
    have hjl:j≤vs.length:=by
     have key:∀(l:List Value) (j:Nat) (ws:List Value),sub l j 0=some ws→j≤l.length:=by
      intro l
      induction l with
      |nil=>intro j ws h;cases j with
       |zero=>simp
       |succ j=>simp[sub] at h
      |cons x l ih=>intro j ws h;cases j with
       |zero=>simp
       |succ j=>have:=ih j ws (by simpa [sub] using h);simp;omega
     exact key _ _ _ h7
    have hol:o+m≤l.length∨m=0:=by
     rcases Nat.eq_zero_or_pos m with h8|h8
     ·exact .inr h8
     left
     have:=h4 (m-1) vs[m-1] (by rw[List.getElem?_eq_getElem])
     have:=(List.getElem?_eq_some_iff.1 this).1
     omega
    rcases hol with h9|h9
    ·omega
    have aPV:∀(l:List Value) (o:Nat) (ws:List Value),sub l o 0=some ws→o≤l.length:=by
     intro l
     induction l with
     |nil=>intro j ws h;cases j with
      |zero=>simp
      |succ j=>simp[sub] at h
     |cons x l ih=>intro j ws h;cases j with
      |zero=>simp
      |succ j=>have:=ih j ws (by simpa [sub] using h);simp;omega
    rw[h9] at h2
    have:=aPV _ _ _ h2
    omega
   omega
  have:=h6 (k-1) ws[k-1] (by rw[List.getElem?_eq_getElem])
  have:=h4 _ _ this
  have:=(List.getElem?_eq_some_iff.1 this).1
  omega
 rw[iZ hlen]
 congr 1
 apply List.ext_getElem?
 intro i
 by_cases hi:i <k
 ·have h7:=h4 _ _ (h6 i ws[i] (by rw[List.getElem?_eq_getElem]))
  rw[List.getElem?_take_of_lt hi,List.getElem?_drop,List.getElem?_eq_getElem (show i <ws.length by omega),←h7,Nat.add_assoc]
 rw[List.getElem?_eq_none (by simp;omega),List.getElem?_eq_none (by omega)]
def Gk(ag:Bool)(l:List Value)(o sz:Nat):Option Value:=bif ag then (match sub l o sz with|some m=>some (.agg ⟨m⟩)|none=>none) else nth l o
theorem Wd{t:TypeId}{z:List Value}{d:TypeDesc}{bC:Nat}{ag:Bool}(tf:TF P t d sz bC z ag){o:Nat}{v:Value}(hv:Gk ag l o sz=some v){k:Value→Sem α}{Q:α→St→Prop}{E:Halt→St→Prop}:bP P (part t ⟨l⟩ o >>= k) s Q E=bP P (k v) s Q E:=by
 cases ag with
 |false=>exact Mg tf hv
 |true=>
  simp only[Gk,cond_true] at hv
  split at hv
  ·rename_i m hm
   cases hv
   exact Mf tf hm
  cases hv
section rules
variable {P:Program} {C:Class} {fn:FuncId} {aB:Option Nat} {Q:Post} {s:St} {n:Nat} {env:Env} {D:List Deferred}
variable {ops:Array Oper} {i:Nat} {rest:List Nat} {dst:Option Tmp} {ty:TypeId} {pos:String} {c8:Array Edge} {g:Option (Nat×Bool)}
variable {T:TypeId} {d:TypeDesc} {sz bC:Nat} {z:List Value} {ag:Bool}
theorem aec(hC:∀main T,C main T→Closed P main T){k:IntKind}{ix:Int}{len:Nat}{d':TypeDesc}{v:Value}(ho:ops[i]?=some ⟨dst,.index T x y,ty,pos,c8,g⟩) (hw:ax ops n env g=true)
 (tf:TF P T (.array len E) sz bC z ag) (jV:TF P E d' iF vg z' wW) (hx:bn n env x=some (.agg ⟨l⟩)) (hy:bn n env y=some (.int k ix)) (hi:0≤ix∧ix <len) (hv:Gk wW l (ix.toNat*iF) iF=some v)
 (h:ab C fn aB ops rest Q (A n (upd dst v env) D) s):ab C fn aB ops (i::rest) Q (A n env D) s:=by
 refine bS hC ho hw (by simp) ?_
 simp only[execOp,Instr.index,aE hx,aE hy,asIntOf,asAgg,aa,ae,aZ tf,hi,and_self,if_true,cg jV]
 rw[Wd jV hv,←aX] at*
 exact h
end rules
section rules
variable {P:Program} {C:Class} {fn:FuncId} {aB:Option Nat} {Q:Post} {s:St} {n:Nat} {env:Env} {D:List Deferred}
variable {ops:Array Oper} {i:Nat} {rest:List Nat} {dst:Option Tmp} {ty:TypeId} {pos:String} {c8:Array Edge} {g:Option (Nat×Bool)}
theorem wr(hC:∀main T,C main T→Closed P main T){l:List Nat}(hl:List.range ops.size=l)(h:ab C fn aB ops l Q (A n env D) s):Wp C fn aB (.region id ops false) Q (A n env D) s:=wp_region hC (hl▸h)
theorem on(hC:∀main T,C main T→Closed P main T){K:Act→St→Prop}(h:K (A n env D) s):ab C fn aB ops [] (me K Q) (A n env D) s:=tW hC h
end rules
theorem c:∀main T,CP P main T→Closed P main T:=e8
def aS(k:IntKind)(a b:Int):Int:=a.fdiv (2^(min b.toNat k.bits))
def dD(k:IntKind)(a b:Int):Int:=k.wrap (a*2^(min b.toNat k.bits))
def T9(k:IntKind)(a b:Int):Int:=k.wrap (BitVec.ofInt k.bits a&&& BitVec.ofInt k.bits b).toNat
def KT(k:IntKind)(a b:Int):Int:=k.wrap (BitVec.ofInt k.bits a|||BitVec.ofInt k.bits b).toNat
def cZ(k:IntKind)(a b:Int):Int:=k.wrap (BitVec.ofInt k.bits a^^^BitVec.ofInt k.bits b).toNat
theorem OI(k:IntKind)(h:k.signed=false)(n:Int):0≤k.wrap n∧k.wrap n <2^k.bits:=by
 have hp:(0:Int) <2^k.bits:=Int.pow_pos (by decide)
 simp only[IntKind.wrap,h,Bool.false_and,Bool.false_eq_true,if_false]
 exact⟨Int.emod_nonneg _ (by omega),Int.emod_lt_of_pos _ hp⟩
theorem sD(k:IntKind)(h:k.signed=false)(n:Int)(h0:0≤n)(h1:n <2^k.bits):k.wrap n=n:=by
 simp only[IntKind.wrap,h,Bool.false_and,Bool.false_eq_true,if_false]
 exact Int.emod_eq_of_lt h0 h1
theorem ug(a b:Int):0≤cZ .u64 a b∧cZ .u64 a b <18446744073709551616:=OI .u64 rfl _
theorem aPB{p0 p1 p2 p3 x:Int}(h: [p0,p1,p2,p3][k]?=some x):nth [.int .i64 p0,.int .i64 p1,.int .i64 p2,.int .i64 p3] k=some (.int .i64 x):=by
 rcases k with _|_|_|_|k
 all_goals first| (simp at h;subst h;rfl)|simp at h
theorem eG.azc{own:Cells}(hp:s.rw.Perm (own++fr))(hf:eG P f vs s.ro own Φ):
 Fn (CP P) P f ⟨vs⟩ s (fun en s'=>∃v X,en= .returned v∧Φ v X∧(⟨s.ro,X++fr⟩:St).le s'):=by
 refine Fn.mono (Fn.frame (fr:=fr) (B:=[]) (ro:=s.ro) (s:=s) hf (fun _ h=>(by cases h)) ⟨hp,fun b o hb=> .inl hb,Sub.refl _⟩) fun en s' DN=>?_
 obtain⟨yE,⟨v,X,rfl,rfl,qt⟩,hc⟩:=DN
 exact⟨v,X,rfl,qt,[],by simpa using hc.rw,fun b o hb=> .inl (hc.keep b o hb)⟩
def Knows(ro:Nat→Option Obj)(X:Cells):Prop:=∀x∈X,ro x.1=some x.2
theorem Knows.up{ro:Nat→Option Obj}{X:Cells}(h:Knows ro X)(hs:Sub ro aG):Knows aG X:=fun x hx=>hs _ _ (h x hx)
theorem Knows.left{ro:Nat→Option Obj}{X:Cells}(h:Knows ro (X++Y)):Knows ro X:=fun x hx=>h x (List.mem_append_left _ hx)
theorem Knows.right{ro:Nat→Option Obj}{X:Cells}(h:Knows ro (X++Y)):Knows ro Y:=fun x hx=>h x (List.mem_append_right _ hx)
theorem Knows.tail{ro:Nat→Option Obj}{x:Nat×Obj}(h:Knows ro (x::Y)):Knows ro Y:=fun y hy=>h y (List.mem_cons_of_mem _ hy)
theorem Knows.head{ro:Nat→Option Obj}{x:Nat×Obj}(h:Knows ro (x::Y)):ro x.1=some x.2:=h x List.mem_cons_self
theorem xf{b:Nat}{enc:α→List Value}{ps:List α}(h:s.has b (.cells ⟨(ps.map enc).flatten⟩ T fz))(hl:∀p∈ps,(enc p).length=sz){x:α}(hx:ps[k]?=some x):cB s b (0+k*sz) sz (enc x):=by
 have h2:=CL ps hl k x hx
 have hm:x∈ps:=List.mem_of_getElem? hx
 have h3:=hl x hm
 refine⟨_,T,fz,h,?_⟩
 rw[Nat.zero_add,iZ,h2]
 rw[kz ps hl]
 have:=(List.getElem?_eq_some_iff.1 hx).1
 calc k*sz+sz=(k+1)*sz:=by rw[Nat.succ_mul]
  _≤ps.length*sz:=Nat.mul_le_mul_right _ (by omega)
theorem bR{ro:Nat→Option Obj}{b:Nat}{enc:α→List Value}(ps:List α)(h:ro b=some (.cells ⟨(ps.map enc).flatten⟩ T fz))(hl:∀p∈ps,(enc p).length=sz):bE ro (.slice (some ⟨b,0,none⟩) ps.length ps.length) sz enc ps:=
 ⟨_,b,0,_,rfl,Nat.le_refl _,fun _ _=>rfl,fun _ _ hx=>xf (.inl h) hl hx⟩
section rules
variable {P:Program} {C:Class} {fn:FuncId} {aB:Option Nat} {Q:Post} {s:St} {n:Nat} {env:Env} {D:List Deferred}
variable {ops:Array Oper} {i:Nat} {rest:List Nat} {dst:Option Tmp} {ty:TypeId} {pos:String} {c8:Array Edge} {g:Option (Nat×Bool)}
variable {T:TypeId} {d:TypeDesc} {sz bC:Nat} {z:List Value} {ag:Bool}
theorem aA6(hC:∀main T,C main T→Closed P main T){k k':IntKind}{a b:Int}(ho:ops[i]?=some ⟨dst,.binOp .shr T x y T',ty,pos,c8,g⟩) (hw:ax ops n env g=true)
 (hx:bn n env x=some (.int k a)) (hy:bn n env y=some (.int k' b)) (hb:0≤b) (h:ab C fn aB ops rest Q (A n (upd dst (.int k (aS k a b)) env) D) s):ab C fn aB ops (i::rest) Q (A n env D) s:=by
 refine sZ hC ho hw (by simp) ?_ h
 simp only[execOp,aE hx,aE hy]
 have he:eqGuard .shr T x y (.int k a) (.int k' b)=Sem.pure ():=rfl
 have hv:binOp .shr T (.int k a) (.int k' b)=Sem.pure (.int k (aS k a b)):=by
  show Op.shift .shr k a k' b=_
  simp only[Op.shift,show ¬b <0 by omega,if_false];rfl
 rw[he]
 show Sem.bind (Sem.bind (Sem.pure ()) fun _=>binOp .shr T (.int k a) (.int k' b)) _=_
 simp only[Sem.bind,hv]
 rfl
theorem aA7(hC:∀main T,C main T→Closed P main T){k k':IntKind}{a b:Int}(ho:ops[i]?=some ⟨dst,.binOp .shl T x y T',ty,pos,c8,g⟩) (hw:ax ops n env g=true)
 (hx:bn n env x=some (.int k a)) (hy:bn n env y=some (.int k' b)) (hb:0≤b) (h:ab C fn aB ops rest Q (A n (upd dst (.int k (dD k a b)) env) D) s):ab C fn aB ops (i::rest) Q (A n env D) s:=by
 refine sZ hC ho hw (by simp) ?_ h
 simp only[execOp,aE hx,aE hy]
 have he:eqGuard .shl T x y (.int k a) (.int k' b)=Sem.pure ():=rfl
 have hv:binOp .shl T (.int k a) (.int k' b)=Sem.pure (.int k (dD k a b)):=by
  show Op.shift .shl k a k' b=_
  simp only[Op.shift,show ¬b <0 by omega,if_false];rfl
 rw[he]
 show Sem.bind (Sem.bind (Sem.pure ()) fun _=>binOp .shl T (.int k a) (.int k' b)) _=_
 simp only[Sem.bind,hv]
 rfl
end rules
theorem bX{b:Nat}{enc:α→List Value}(ps:List α)(h:s.has b (.cells ⟨(ps.map enc).flatten⟩ T fz))(hl:∀p∈ps,(enc p).length=sz):Sl s (.slice (some ⟨b,0,none⟩) ps.length cap) sz enc ps:=
 ⟨_,b,0,cap,rfl,fun _ _=>rfl,fun _ _ hx=>xf h hl hx⟩
theorem bA{b:Nat}{enc:α→List Value}:az (.slice (some ⟨b,0,none⟩) 0 0) sz T enc ([]:List α) [(b,.cells ⟨[]⟩ T (0,0))]:=
 .inr ⟨b,[],0,rfl,rfl,by simp,by simp,by simp,by simp⟩
theorem az.form{v:Value}{enc:α→List Value}{ps:List α}{L:Cells}(h:az v sz T enc ps L):∃a c,v= .slice a ps.length c:=by
 rcases h with ⟨h1,h2,_⟩| ⟨b,l,cap,h1,_⟩
 ·subst h2;exact⟨none,0,h1⟩
 exact⟨_,cap,h1⟩
def Oc(v:Value)(b:Nat):Prop:=∃n c,v= .slice (some ⟨b,0,none⟩) n c
theorem cm{v:Value}{enc:α→List Value}{ps:List α}{L:Cells}(h:az v sz T enc ps L){b:Nat}(hb:Oc v b)(hs:∀x∈L,s.has x.1 x.2){x:α}(hx:ps[k]?=some x):cB s b (k*sz) sz (enc x):=by
 obtain⟨a,b',o,c,h1,h2,h3⟩:=h.sl hs
 have hk:=(List.getElem?_eq_some_iff.1 hx).1
 have h4:=h2 k hk
 obtain⟨n,c',h5⟩:=hb
 rw[h1] at h5
 cases h5
 cases h4
 have:=h3 k x hx
 rwa[Nat.zero_add] at this
theorem aA1{v:Value}{enc:α→List Value}{ps:List α}{L:Cells}(h:az v sz T enc ps L)(hk:k <ps.length):∃b,Oc v b:=by
 rcases h with ⟨_,h2,_⟩| ⟨b,l,cap,h1,_⟩
 ·subst h2;simp at hk
 exact⟨b,_,_,h1⟩
theorem Rq{enc:α→List Value}:∀(ps:List α),(∀p∈ps,(enc p).length=sz)→∀(k:Nat) (x:α),(enc x).length=sz→k <ps.length→∀l:List Value,l.take (ps.length*sz)=(ps.map enc).flatten→(dC l (k*sz) (enc x)).take (ps.length*sz)=((ps.set k x).map enc).flatten:=by
 intro ps Uo k x hx hk l hl
 have hle:ps.length*sz≤l.length:=by
  have h1:=kz ps Uo
  rw[←hl,List.length_take] at h1
  omega
 have hks:k*sz+sz≤ps.length*sz:=by
  have:(k+1)*sz≤ps.length*sz:=Nat.mul_le_mul_right _ (by omega)
  rw[Nat.succ_mul] at this;exact this
 have hA:((ps.take k).map enc).flatten.length=k*sz:=by
  rw[kz _ (fun p hp=>Uo p (List.mem_of_mem_take hp)),List.length_take,Nat.min_eq_left (by omega)]
 have hC:((ps.drop (k+1)).map enc).flatten.length=(ps.length-(k+1))*sz:=by
  rw[kz _ (fun p hp=>Uo p (List.mem_of_mem_drop hp)),List.length_drop]
 have hB:=Uo ps[k] (List.getElem_mem hk)
 have at3:(ps.map enc).flatten=((ps.take k).map enc).flatten++(enc ps[k]++((ps.drop (k+1)).map enc).flatten):=by
  have h3:ps=ps.take k++ps[k]::ps.drop (k+1):=by rw[←List.drop_eq_getElem_cons hk,List.take_append_drop]
  have h4:=congrArg (fun q:List α=>(q.map enc).flatten) h3
  simp only[List.map_append,List.map_cons,List.flatten_append,List.flatten_cons] at h4
  exact h4
 have qS:l=((ps.take k).map enc).flatten++(enc ps[k]++(((ps.drop (k+1)).map enc).flatten++l.drop (ps.length*sz))):=by
  have h3:=(List.take_append_drop (ps.length*sz) l).symm
  rw[hl,at3] at h3
  simp only[List.append_assoc] at h3
  exact h3
 have pf:((ps.set k x).map enc).flatten=((ps.take k).map enc).flatten++(enc x++((ps.drop (k+1)).map enc).flatten):=by
  rw[List.set_eq_take_append_cons_drop,if_pos hk]
  simp only[List.map_append,List.map_cons,List.flatten_append,List.flatten_cons]
 have aRn:dC l (k*sz) (enc x)=((ps.take k).map enc).flatten++(enc x++(((ps.drop (k+1)).map enc).flatten++l.drop (ps.length*sz))):=by
  rw[q9 _ _ _ (by omega),hx,List.append_assoc]
  congr 1
  ·conv=>lhs;rw[qS]
   rw[←hA,List.take_left]
  congr 1
  conv=>lhs;rw[qS]
  rw[←List.append_assoc,←List.append_assoc,List.append_assoc _ _ (List.drop _ _)]
  rw[show k*sz+sz=(((ps.take k).map enc).flatten++enc ps[k]).length by rw[List.length_append,hA,hB],List.drop_left]
 rw[aRn,pf,←List.append_assoc,←List.append_assoc]
 have hlen:(((ps.take k).map enc).flatten++enc x++((ps.drop (k+1)).map enc).flatten).length=ps.length*sz:=by
  rw[List.length_append,List.length_append,hA,hx,hC]
  have:ps.length*sz=(k+1+(ps.length-(k+1)))*sz:=by congr 1;omega
  rw[this,Nat.add_mul,Nat.succ_mul]
 rw[←hlen,List.take_left,List.append_assoc]
section rules
variable {P:Program} {C:Class} {fn:FuncId} {aB:Option Nat} {Q:Post} {s:St} {n:Nat} {env:Env} {D:List Deferred}
variable {ops:Array Oper} {i:Nat} {rest:List Nat} {dst:Option Tmp} {ty:TypeId} {pos:String} {c8:Array Edge} {g:Option (Nat×Bool)}
variable {T:TypeId} {d:TypeDesc} {sz bC:Nat} {z:List Value} {ag:Bool}
theorem TJ(hC:∀main T,C main T→Closed P main T){w:Operand}{k k':IntKind}(ho:ops[i]?=some ⟨dst,.slice T x (some y) (some w) none,ty,pos,c8,g⟩) (hw:ax ops n env g=true) (tf:TF P T .string sz bC z ag)
 (hx:bn n env x=some (.string b)) (hy:bn n env y=some (.int k lo)) (hz:bn n env w=some (.int k' hi)) (hl:0≤lo∧lo≤hi∧hi≤b.size) (h:ab C fn aB ops rest Q (A n (upd dst (.string (b.extract lo.toNat hi.toNat)) env) D) s):ab C fn aB ops (i::rest) Q (A n env D) s:=by
 refine bS hC ho hw (by simp) ?_
 have h1:0≤hi∧hi≤(b.size:Int):=by omega
 have h2:0≤lo∧lo≤(hi.toNat:Int):=by omega
 simp only[execOp,Option.map_some,Option.map_none,Instr.sliceAt,Instr.slice,aE hx,aE hy,aE hz,aa,aZ tf,Instr.sliceBounds,Instr.sliceBound,asIntOf,ae,Option.isSome_none,Bool.false_eq_true,if_false,h1,h2,and_self,if_true]
 rw[←aX] at h
 exact h
theorem P0(hC:∀main T,C main T→Closed P main T){w:Operand}{k':IntKind}(ho:ops[i]?=some ⟨dst,.slice T x none (some w) none,ty,pos,c8,g⟩) (hw:ax ops n env g=true) (tf:TF P T .string sz bC z ag)
 (hx:bn n env x=some (.string b)) (hz:bn n env w=some (.int k' hi)) (hl:0≤hi∧hi≤b.size) (h:ab C fn aB ops rest Q (A n (upd dst (.string (b.extract 0 hi.toNat)) env) D) s):ab C fn aB ops (i::rest) Q (A n env D) s:=by
 refine bS hC ho hw (by simp) ?_
 simp only[execOp,Option.map_some,Option.map_none,Instr.sliceAt,Instr.slice,aE hx,aE hz,aa,aZ tf,Instr.sliceBounds,Instr.sliceBound,asIntOf,ae,Option.isSome_none,Bool.false_eq_true,if_false,hl,and_self,if_true]
 rw[←aX] at h
 exact h
theorem PZ(hC:∀main T,C main T→Closed P main T){k:IntKind}(ho:ops[i]?=some ⟨dst,.slice T x (some y) none none,ty,pos,c8,g⟩) (hw:ax ops n env g=true) (tf:TF P T .string sz bC z ag)
 (hx:bn n env x=some (.string b)) (hy:bn n env y=some (.int k lo)) (hl:0≤lo∧lo≤b.size) (h:ab C fn aB ops rest Q (A n (upd dst (.string (b.extract lo.toNat b.size)) env) D) s):ab C fn aB ops (i::rest) Q (A n env D) s:=by
 refine bS hC ho hw (by simp) ?_
 simp only[execOp,Option.map_some,Option.map_none,Instr.sliceAt,Instr.slice,aE hx,aE hy,aa,aZ tf,Instr.sliceBounds,Instr.sliceBound,asIntOf,ae,Option.isSome_none,Bool.false_eq_true,if_false,hl,and_self,if_true]
 rw[←aX] at h
 exact h
theorem bE.part{ro:Nat→Option Obj}{a:Option Addr}{len:Nat}{enc:α→List Value}{ps:List α}(hs:bE ro (.slice a len cap) sz enc ps){l h:Nat}(hl:l≤h)(hh:h≤ps.length):bE ro (.slice (if cap=l then a else a.map (·.add (l*sz))) (h-l) (cap-l)) sz enc ((ps.take h).drop l):=by
 obtain⟨a',b,o,aVJ,h1,h2,h3,h4⟩:=hs
 cases h1
 have hlen:((ps.take h).drop l).length=h-l:=by rw[List.length_drop,List.length_take];omega
 refine⟨_,b,o+l*sz,_,by rw[hlen],by omega,fun k hk=>?_,fun i p hp=>?_⟩
 ·have:=h3 0 (by omega)
  subst this
  rw[if_neg (by omega)]
  simp[dR]
 rw[List.getElem?_drop] at hp
 have hi:l+i <h:=by
  have:=(List.getElem?_eq_some_iff.1 hp).1
  rw[List.length_take] at this;omega
 rw[List.getElem?_take_of_lt hi] at hp
 have:=h4 _ _ hp
 rwa[show o+(l+i)*sz=o+l*sz+i*sz by rw[Nat.add_mul];omega] at this
theorem aea(hC:∀main T,C main T→Closed P main T){v:Value}{enc:α→List Value}{ps:List α}{L:Cells}(ho:ops[i]?=some ⟨dst,.call ⟨.builtin .len,#[x],#[T]⟩,ty,pos,c8,g⟩) (hw:ax ops n env g=true)
 (tf:TF P T (.slice E) sz bC z ag) (hx:bn n env x=some v) (kQ:az v szo T2 enc ps L) (h:ab C fn aB ops rest Q (A n (upd dst (.int .i64 ps.length) env) D) s):ab C fn aB ops (i::rest) Q (A n env D) s:=by
 obtain⟨a,c,rfl⟩:=kQ.form
 exact aBb hC ho hw tf hx h
end rules
theorem dS{ro:Nat→Option Obj}{K J:Cells}(hp:rw'.Perm (K++J))(h:Sub ro aG):(⟨ro,K⟩:St).le ⟨aG,rw'⟩:=⟨J,hp,fun b o hb=> .inl (h b o hb)⟩
theorem aj(h:l.all single=true):∀v∈l,single v=true:=List.all_eq_true.1 h
section any
variable {P:Program} {C:Class} {fn:FuncId} {aB:Option Nat} {Q:Post} {s:St} {n:Nat} {D:List Deferred} {ops:Array Oper} {base:Env}
def aqL(C:Class)(fn:FuncId)(aB:Option Nat)(ops:Array Oper)(n:Nat)(D:List Deferred)(base:Env)(Pl Sl:List (Nat×Value))(Q:Post)(s:St)(i:Nat):Prop:=
 ∀rest todo,(∀v s',(∀j w,(j,w)∈pending ops i Sl→eT C fn aB ops n D j w (cq ops base j Pl) s→eT C fn aB ops n D j w (cq ops base j Pl) s')→
  tF C fn aB ops n D base ((i,v)::Pl) (pending ops i Sl) Q s'→ab C fn aB ops todo Q (A n (upd (aQ ops i) v (cq ops base i Pl++rest)) D) s')→
  ab C fn aB ops (i::todo) Q (A n (cq ops base i Pl++rest) D) s
def xJ(C:Class)(fn:FuncId)(aB:Option Nat)(ops:Array Oper)(n:Nat)(D:List Deferred)(base:Env)(Pl Sl:List (Nat×Value))(Q:Post)(s:St):List Nat→Prop
 | []=>True
 |i::is=>aqL C fn aB ops n D base Pl Sl Q s i∧xJ C fn aB ops n D base Pl Sl Q s is
theorem xJ.mem{Pl Sl:List (Nat×Value)}:∀ {is:List Nat},xJ C fn aB ops n D base Pl Sl Q s is→∀i∈is,aqL C fn aB ops n D base Pl Sl Q s i
 | [],_,i,hi=>by cases hi
 |k::is,h,i,hi=>by
  rcases List.mem_cons.1 hi with rfl|hi
  ·exact h.1
  exact xJ.mem h.2 i hi
def ad5(ops:Array Oper)(ks:List Nat)(is:List Nat):Bool:=
 (List.range ops.size).all fun j=>a8 j ks||a8 j is||(bp ops j).any fun k=> !a8 k ks
theorem abn{Pl Sl:List (Nat×Value)}(is:List Nat)(mW:fL ops=true)(his:(is.all fun i=>Nat.blt i ops.size&& !a8 i (ak Pl))=true)(mo:nodupB (ak Pl)=true)(jP:pe ops (ak Pl)=true)(hs:fM (ak Sl) (ak Pl)=true)(ho:ad5 ops (ak Pl) is=true)
 (h:xJ C fn aB ops n D base Pl Sl Q s is)(dX:is.isEmpty=false):tF C fn aB ops n D base Pl Sl Q s:=by
 have qR:∀i∈is,i∉ak Pl:=fun i hi hm=>by
  have:=(List.all_eq_true.1 his) i hi
  rw[aJ.2 hm] at this;simp at this
 have Jn:∀i∈is,i <ops.size:=fun i hi=>by
  have:=(List.all_eq_true.1 his) i hi
  simp only[Bool.and_eq_true,Nat.blt_eq] at this
  exact this.1
 have GX:∀(l:List (Nat×Value)),nodupB (ak l)=true→∀j v w,(j,v)∈l→(j,w)∈l→w=v:=by
  intro l
  induction l with
  |nil=>intro _ j v w h;cases h
  |cons x l ih=>
   rcases x with ⟨k,u⟩
   intro hb j v w h1 h2
   simp only[ak,nodupB,Bool.and_eq_true,Bool.not_eq_true'] at hb
   have hk:k∉ak l:=fun hm=>by rw[aJ.2 hm] at hb;cases hb.1
   rcases List.mem_cons.1 h1 with h1|h1<;>rcases List.mem_cons.1 h2 with h2|h2
   ·cases h1;cases h2;rfl
   ·cases h1;exact absurd (aP.2 ⟨_,h2⟩) hk
   ·cases h2;exact absurd (aP.2 ⟨_,h1⟩) hk
   exact ih hb.2 j v w h1 h2
 intro hSl X l
 induction l generalizing X with
 |nil=>
  intro env hX hl pg hf
  cases is with
  |nil=>cases dX
  |cons i is=>exact absurd (hX i (pg i (Jn i List.mem_cons_self))) (qR i List.mem_cons_self)
 |cons j l ih=>
  intro env hX hl pg hf
  obtain⟨h1,h2,h3,h4⟩:=pg
  by_cases hj:j∈ak Pl
  ·
   obtain⟨w,hw⟩:=aP.1 hj
   obtain⟨rest,hr⟩:=wD (n:=n) (D:=D) hf j h3 h2
   rw[hr]
   refine hSl j w (hl j w hw h2) s (Ext.refl s) rest l Q ?_
   rw[←De hr]
   refine ih (j::X) _ (fun k hk=>?_) (fun k u hk By=>hl k u hk (fun h=>By (List.mem_cons_of_mem _ h))) h4 (tx mW hf h1 h2 h3 (fun u hu=>GX Pl mo j w u hw hu))
   rcases List.mem_cons.1 hk with rfl|hk
   ·exact hj
   exact hX k hk
  by_cases zx:j∈is
  ·have h:=xJ.mem h j zx
   have qR:=qR j zx
   obtain⟨rest,hr⟩:=wD (n:=n) (D:=D) hf j h3 h2
   rw[hr]
   refine h rest l fun v s' hp ha=>?_
   rw[←De hr]
   have Np:∀k,k∈ak Pl→j∉bp ops k:=by
    intro k hk hm
    have:=(List.all_eq_true.1 jP) k hk
    exact qR (bM.1 this j hm)
   have Uo:∀k u,(k,u)∈pending ops j Sl→(k,u)∈Sl:=fun k u hk=>(List.mem_filter.1 hk).1
   refine ha (fun k u hk=>?_) (j::X) l _ (fun k hk=>?_) (fun k u hk By=>?_) h4 ?_
   ·rw[cT (Np k (bM.1 hs k (aP.2 ⟨u,Uo k u hk⟩)))]
    exact hp k u hk (hSl k u (Uo k u hk))
   ·rcases List.mem_cons.1 hk with rfl|hk
    ·simp[ak]
    exact List.mem_cons_of_mem _ (hX k hk)
   ·rcases List.mem_cons.1 hk with hk|hk
    ·cases hk;exact absurd (by simp) By
    have Nm:k∉X:=fun h=>By (List.mem_cons_of_mem _ h)
    refine List.mem_filter.2 ⟨hl k u hk Nm,?_⟩
    cases hm:a8 k (bp ops j) with
    |false=>rfl
    |true=>exact absurd (h3 k (aJ.1 hm)) Nm
   refine tx mW (CM hf h2) h1 h2 h3 fun u hu=>?_
   rcases List.mem_cons.1 hu with hu|hu
   ·cases hu;rfl
   exact absurd (aP.2 ⟨_,hu⟩) qR
  exfalso
  have:=(List.all_eq_true.1 ho) j (List.mem_range.2 h1)
  have e1:a8 j (ak Pl)=false:=by
   cases hm:a8 j (ak Pl) with
   |false=>rfl
   |true=>exact absurd (aJ.1 hm) hj
  have e2:a8 j is=false:=by
   cases hm:a8 j is with
   |false=>rfl
   |true=>exact absurd (aJ.1 hm) zx
  rw[e1,e2] at this
  simp only[Bool.false_or,List.any_eq_true,Bool.not_eq_true'] at this
  obtain⟨k,hk,bW⟩:=this
  have:=hX k (h3 k hk)
  rw[aJ.2 this] at bW;cases bW
end any
section rules
variable {P:Program} {C:Class} {fn:FuncId} {aB:Option Nat} {Q:Post} {s:St} {n:Nat} {env:Env} {D:List Deferred}
variable {ops:Array Oper} {i:Nat} {rest:List Nat} {dst:Option Tmp} {ty:TypeId} {pos:String} {c8:Array Edge} {g:Option (Nat×Bool)}
variable {T:TypeId} {d:TypeDesc} {sz bC:Nat} {z:List Value} {ag:Bool} {ro:Nat→Option Obj}
theorem vP{a:Act}(hC:∀main T,C main T→Closed P main T){rw:Cells}(hp:rw'.Perm rw)(h:ab C fn aB ops todo Q a ⟨ro,rw⟩):ab C fn aB ops todo Q a ⟨ro,rw'⟩:=
 ab.more (s:=⟨ro,rw⟩) (s':=⟨ro,rw'⟩) hC ⟨[],by rw[List.append_nil];exact hp,fun b o hb=> .inl hb⟩ h
theorem oap(hC:∀main T,C main T→Closed P main T){v w:Value}{enc:α→List Value}{ps qs:List α}{L R:List (Nat×Obj)}{d':TypeDesc}{E2:TypeId}{sz2 Bh:Nat}{z2:List Value}{ag2:Bool} 
 (ho:ops[i]?=some ⟨dst,.call ⟨.builtin .append,#[x,y],#[T,U]⟩,ty,pos,c8,g⟩) (hw:ax ops n env g=true) (tf:TF P T (.slice E) sz bC z ag) (Sk:TF P U (.slice E2) sz2 Bh z2 ag2) (jV:TF P E d' iF vg z' wW) (hz:z'.length=iF)
 (hx:bn n env x=some v) (hy:bn n env y=some w) (kQ:az v iF E enc ps L) (KV:Sl ⟨ro,L++R⟩ w iF enc qs) (hq:∀p∈qs,∀c∈enc p,single c=true) (hb:vX (ps.length+qs.length) vg)
 (h:∀v' L',az v' iF E enc (ps++qs) L'→ab C fn aB ops rest Q (A n (upd dst v' env) D) ⟨ro,L'++R⟩):ab C fn aB ops (i::rest) Q (A n env D) ⟨ro,L++R⟩:=
 P5 hC ho hw tf Sk jV hz hx hy kQ KV (pre:=[]) rfl hq hb h
theorem ost(hC:∀main T,C main T→Closed P main T){b o:Nat}{v:Value}{R:List (Nat×Obj)}{c:List Value}{e:TypeId}(ho:ops[i]?=some ⟨dst,.store T x y,ty,pos,c8,g⟩) (hw:ax ops n env g=true) (tf:TF P T d sz bC z ag)
 (hx:bn n env x=some (.pointer (some ⟨b,o,none⟩))) (hy:bn n env y=some (v)) (hl:v.cells=⟨l⟩) (hn:l.length=sz) (h1:∀v∈l,single v=true) (hb:o+l.length≤c.length)
 (h:ab C fn aB ops rest Q (A n (upd dst undef env) D) ⟨ro,(b,.cells ⟨dC c o l⟩ e (0,0))::R⟩):ab C fn aB ops (i::rest) Q (A n env D) ⟨ro,(b,.cells ⟨c⟩ e (0,0))::R⟩:=
 E7 hC ho hw tf hx hy hl hn h1 (L:=[]) rfl hb h
end rules
section rules
variable {P:Program} {C:Class} {fn:FuncId} {aB:Option Nat} {Q:Post} {s:St} {n:Nat} {env:Env} {D:List Deferred}
variable {ops:Array Oper} {i:Nat} {rest:List Nat} {dst:Option Tmp} {ty:TypeId} {pos:String} {c8:Array Edge} {g:Option (Nat×Bool)}
theorem asK(hC:∀main T,C main T→Closed P main T){k:IntKind}{a b:Int}(ho:ops[i]?=some ⟨dst,.call ⟨.builtin .min,#[x,y],#[T,U]⟩,ty,pos,c8,g⟩) (hw:ax ops n env g=true)
 (hx:bn n env x=some (.int k a)) (hy:bn n env y=some (.int k b)) (h:ab C fn aB ops rest Q (A n (upd dst (.int k (min a b)) env) D) s):ab C fn aB ops (i::rest) Q (A n env D) s:=by
 refine bS hC ho hw (by simp) ?_
 have e:(if b <a then b else a)=min a b:=by omega
 simp only[execOp,resolve,invoke,builtin,Builtin.min_,List.map_toArray,List.map_cons,List.map_nil,aE hx,aE hy,List.foldlM_cons,List.foldlM_nil,Builtin.min2,aa,ae,e]
 rw[←aX] at h
 exact h
theorem asL(hC:∀main T,C main T→Closed P main T){k:IntKind}{a b:Int}(ho:ops[i]?=some ⟨dst,.call ⟨.builtin .max,#[x,y],#[T,U]⟩,ty,pos,c8,g⟩) (hw:ax ops n env g=true)
 (hx:bn n env x=some (.int k a)) (hy:bn n env y=some (.int k b)) (h:ab C fn aB ops rest Q (A n (upd dst (.int k (max a b)) env) D) s):ab C fn aB ops (i::rest) Q (A n env D) s:=by
 refine bS hC ho hw (by simp) ?_
 have e:(if a <b then b else a)=max a b:=by omega
 simp only[execOp,resolve,invoke,builtin,Builtin.max_,List.map_toArray,List.map_cons,List.map_nil,aE hx,aE hy,List.foldlM_cons,List.foldlM_nil,Builtin.max2,aa,ae,e]
 rw[←aX] at h
 exact h
end rules
def cS(a b:ByteArray):Bool:=a.toList==b.toList
def strLt(a b:ByteArray):Bool:=Op.bytesLess a.toList b.toList
section rules
variable {P:Program} {C:Class} {fn:FuncId} {aB:Option Nat} {Q:Post} {s:St} {n:Nat} {env:Env} {D:List Deferred}
variable {ops:Array Oper} {i:Nat} {rest:List Nat} {dst:Option Tmp} {ty:TypeId} {pos:String} {c8:Array Edge} {g:Option (Nat×Bool)}
theorem asH(hC:∀main T,C main T→Closed P main T){a:ByteArray}(ho:ops[i]?=some ⟨dst,.binOp .add T x y T',ty,pos,c8,g⟩) (hw:ax ops n env g=true)
 (hx:bn n env x=some (.string a)) (hy:bn n env y=some (.string b)) (hb:(a.size:Int)+b.size≤9223372036854775807) (h:ab C fn aB ops rest Q (A n (upd dst (.string (a++b)) env) D) s):ab C fn aB ops (i::rest) Q (A n env D) s:=
 AF hC ho hw hx hy (v:= .string (a++b)) (by
  simp only[Op.stringOp]
  rw[if_neg]
  ·rfl
  have:IntKind.i64.max=9223372036854775807:=by decide
  rw[this];push_cast;omega) rfl h
end rules
theorem awW(b:ByteArray)(i:Nat)(h:i <b.size):b.get! i=b.data.toList[i]'(by simpa using h):=by
 have h':i <b.data.size:=h
 show b.data[i]! =_
 rw[getElem!_pos b.data i h']
 simp
theorem YI(b:ByteArray):∀(n i:Nat) (r:List UInt8),b.size-i=n→ByteArray.toList.loop b i r=r.reverse++b.data.toList.drop i
 |0,i,r,h=>by
  unfold ByteArray.toList.loop
  rw[if_neg (by omega),List.drop_eq_nil_of_le]
  ·simp
  show b.data.toList.length≤i
  rw[Array.length_toList]
  have:b.data.size=b.size:=rfl
  omega
 |n+1,i,r,h=>by
  unfold ByteArray.toList.loop
  have hi:i <b.size:=by omega
  rw[if_pos hi,YI b n (i+1) _ (by omega),awW b i hi]
  have hl:i <b.data.toList.length:=by rw[Array.length_toList];exact hi
  rw[List.drop_eq_getElem_cons hl]
  simp
theorem qd(b:ByteArray):b.toList=b.data.toList:=by
 show ByteArray.toList.loop b 0 []=_
 rw[YI b _ 0 [] rfl]
 simp
theorem BN{a:ByteArray}:cS a b=true↔a=b:=by
 unfold cS
 rw[qd,qd]
 simp only[beq_iff_eq]
 constructor
 ·intro h
  have:a.data=b.data:=Array.toList_inj.1 h
  cases a;cases b;simp at this;subst this;rfl
 rintro rfl;rfl
theorem Ak(a b:ByteArray):cS a b=(a.data.toList==b.data.toList):=by unfold cS;rw[qd,qd]
theorem Pc(a b:ByteArray):strLt a b=Op.bytesLess a.data.toList b.data.toList:=by unfold strLt;rw[qd,qd]
def FnG(P:Program)(f:FuncId)(args:List Value)(ro:Nat→Option Obj)(own:Cells)(Φ:Value→(Nat→Option Obj)→Cells→Prop):Prop:=
 Fn (CP P) P f ⟨args⟩ ⟨ro,own⟩ (fun en s'=>∃v aG X,en= .returned v∧s'=⟨aG,X⟩∧Sub ro aG∧Φ v aG X)
theorem FnG.use{own:Cells}{Φ:Value→(Nat→Option Obj)→Cells→Prop}(hp:s.rw.Perm (own++fr))(hf:FnG P f vs s.ro own Φ):
 Fn (CP P) P f ⟨vs⟩ s (fun en s'=>∃v aG X,en= .returned v∧Sub s.ro aG∧Φ v aG X∧(⟨aG,X++fr⟩:St).le s'):=by
 refine Fn.mono (Fn.frame (fr:=fr) (B:=[]) (ro:=s.ro) (s:=s) hf (fun _ h=>(by cases h)) ⟨hp,fun b o hb=> .inl hb,Sub.refl _⟩) fun en s' DN=>?_
 obtain⟨yE,⟨v,aG,X,rfl,rfl,hs,qt⟩,hc⟩:=DN
 refine⟨v,aG,X,rfl,hs,qt,[],by simpa using hc.rw,fun b o hb=>?_⟩
 rcases hc.aC b o hb with h|h
 ·exact .inl h
 cases h
theorem Gc:∀(A l:List Value) (o:Nat) (c:List Value),dC (A++l) (A.length+o) c=A++dC l o c
 | [],l,o,c=>by simp
 |a::A,l,o,[]=>by rw[lF,lF]
 |a::A,l,o,v::c=>by
  have:=Gc A l o (v::c)
  rw[show (a::A).length+o=A.length+o+1 by simp only[List.length_cons];omega]
  simp only[List.cons_append,dC,this]
theorem Kg{m B:List Value}{o:Nat}{c:List Value}(h:o+c.length≤m.length):dC (m++B) o c=dC m o c++B:=by
 rw[q9 _ _ _ (by rw[List.length_append];omega),q9 _ _ _ h,List.take_append_of_le_length (by omega),List.drop_append_of_le_length h]
 simp only[List.append_assoc]
theorem ZI{m c:List Value}(h:c.length=m.length):dC m 0 c=c:=by
 rw[q9 _ _ _ (by omega)]
 simp[h]
theorem U8{enc:α→List Value}{ps:List α}(Uo:∀p∈ps,(enc p).length=sz){x:α}(hx:ps[k]?=some x) (hl:l.take (ps.length*sz)=(ps.map enc).flatten):∃A B,A.length=k*sz∧l=A++(enc x++B):=by
 obtain⟨hk,rfl⟩:=List.getElem?_eq_some_iff.1 hx
 refine⟨((ps.take k).map enc).flatten,((ps.drop (k+1)).map enc).flatten++l.drop (ps.length*sz),?_,?_⟩
 ·rw[kz _ (fun p hp=>Uo p (List.mem_of_mem_take hp)),List.length_take,Nat.min_eq_left (by omega)]
 have h3:ps=ps.take k++ps[k]::ps.drop (k+1):=by rw[←List.drop_eq_getElem_cons hk,List.take_append_drop]
 have h4:=congrArg (fun q:List α=>(q.map enc).flatten) h3
 simp only[List.map_append,List.map_cons,List.flatten_append,List.flatten_cons] at h4
 have h5:=(List.take_append_drop (ps.length*sz) l).symm
 rw[hl,h4] at h5
 simpa only[List.append_assoc] using h5
theorem ZJ{enc:α→List Value}{ps:List α}(Uo:∀p∈ps,(enc p).length=sz){x:α}(hx:ps[k]?=some x) (hl:l.take (ps.length*sz)=(ps.map enc).flatten) {o:Nat} {c:List Value} (h:o+c.length≤sz):
 dC l (k*sz+o) c=dC l (k*sz) (dC (enc x) o c):=by
 have hxl:=Uo x (List.mem_of_getElem? hx)
 obtain⟨A,B,h1,rfl⟩:=U8 Uo hx hl
 have e0:∀q,dC (A++(enc x++B)) A.length q=A++dC (enc x++B) 0 q:=fun q=>Gc A _ 0 q
 rw[←h1,Gc,e0,Kg (by omega),Kg (by rw[lG];omega),ZI (lG _ _ _)]
section rules
variable {P:Program} {C:Class} {fn:FuncId} {aB:Option Nat} {Q:Post} {ro:Nat→Option Obj} {n:Nat} {env:Env} {D:List Deferred}
variable {ops:Array Oper} {i:Nat} {rest:List Nat} {dst:Option Tmp} {ty:TypeId} {pos:String} {c8:Array Edge} {g:Option (Nat×Bool)}
variable {T:TypeId} {d:TypeDesc} {tsz bC:Nat} {z:List Value} {ag:Bool}
theorem aA3(hC:∀main T,C main T→Closed P main T){b o:Nat}{v w:Value}{a e:α}{c:List Value}{enc:α→List Value}{ps:List α}{L R:Cells}(ho:ops[i]?=some ⟨dst,.store T x y,ty,pos,c8,g⟩) (hw:ax ops n env g=true) (tf:TF P T d tsz bC z ag)
 (hx:bn n env x=some (.pointer (some ⟨b,k*sz+o,none⟩))) (hy:bn n env y=some w) (hl:w.cells=⟨c⟩) (hn:c.length=tsz) (h1:∀v∈c,single v=true) (kQ:az v sz E enc ps L) (hb:Oc v b) (hk:ps[k]?=some a) (he:enc e=dC (enc a) o c) (hf:o+c.length≤sz)
 (h:∀L',az v sz E enc (ps.set k e) L'→ab C fn aB ops rest Q (A n (upd dst undef env) D) ⟨ro,L'++R⟩):ab C fn aB ops (i::rest) Q (A n env D) ⟨ro,L++R⟩:=by
 have hk1:k <ps.length:=(List.getElem?_eq_some_iff.1 hk).1
 rcases kQ with ⟨_,h2,_⟩| ⟨b',l,cap,g1,g2,g3,g4,g5,g6⟩
 ·subst h2;simp at hk
 obtain⟨n',c',mH⟩:=hb
 rw[g1] at mH
 cases mH
 subst g2
 have hea:(enc a).length=sz:=g5 a (List.mem_of_getElem? hk)
 have DN:(enc e).length=sz:=by rw[he,lG,hea]
 have hks:k*sz+sz≤ps.length*sz:=by
  have:(k+1)*sz≤ps.length*sz:=Nat.mul_le_mul_right _ (by omega)
  rw[Nat.succ_mul] at this;exact this
 have oL:ps.length*sz≤cap*sz:=Nat.mul_le_mul_right _ g4
 refine E7 (L:=[]) (R:=R) hC ho hw tf hx hy hl hn h1 rfl (by omega)<|h [(b,.cells ⟨dC l (k*sz+o) c⟩ E (0,0))] (.inr ⟨b,_,cap,by rw[g1,List.length_set],rfl,by rw[lG,g3],by rw[List.length_set];exact g4,fun p hp=>?_,?_⟩)
 ·rcases List.mem_or_eq_of_mem_set hp with h5|h5
  ·exact g5 p h5
  subst h5;exact DN
 rw[List.length_set,ZJ g5 hk g6 hf,←he]
 exact Rq ps g5 k e DN hk1 l g6
end rules
section rules
variable {P:Program} {C:Class} {fn:FuncId} {aB:Option Nat} {Q:Post} {s:St} {n:Nat} {env:Env} {D:List Deferred}
variable {ops:Array Oper} {i:Nat} {rest:List Nat} {dst:Option Tmp} {ty:TypeId} {pos:String} {c8:Array Edge} {g:Option (Nat×Bool)}
structure EF(P:Program)(f:FuncId)(e:Array Value→Sem Value):Prop where
 ef:∃fn,P.funcs[f]?=some fn∧(fn.name== "runtime.NumGoroutine")=false∧fn.body.isNone=true∧(Extern.findNext fn).isNone=true∧Extern.find fn=some e
theorem aed(hC:∀main T,C main T→Closed P main T){e:Array Value→Sem Value}(ho:ops[i]?=some ⟨dst,.call ⟨.value (.func f),xs,at_⟩,ty,pos,c8,g⟩) (hw:ax ops n env g=true)
 (ef:EF P f e) (hx:vv n env xs=some vs) (h:bP P (e ⟨vs⟩) s (fun v s'=>ab C fn aB ops rest Q (A n (upd dst v env) D) s') (fun _ _=>False)):ab C fn aB ops (i::rest) Q (A n env D) s:=by
 obtain⟨fn',h1,h2,h3,h4,h5⟩:=ef.ef
 have h4':Extern.findNext fn'=none:=by
  cases hh:Extern.findNext fn' with
  |none=>rfl
  |some x=>rw[hh] at h4;cases h4
 refine bS hC ho hw (by simp) ?_
 simp only[execOp,resolve,ev,Deferred.ofValue,ae,sj hx]
 simp only[invoke,Array.append_empty,Array.empty_append,callFunc,eY,h1,h2,h3,h4',h5,if_true,Bool.false_eq_true,if_false]
 refine⟨rfl,?_⟩
 refine OX (e ⟨vs⟩) (fun v=>(pure (Next.value v):Sem Next)) _ _ _<|vx _ _ _ _ _ _ (fun v s' hv=>?_) (fun _ _ (hf:False)=>hf.elim) h
 rw[←aX] at hv
 exact hv
end rules
def Qt(a:ByteArray)(b:UInt8):Int:=
 match (List.range a.size).find? fun i=>a[i]! ==b with
 |some i=>i
 |none=> -1
section rules
variable {P:Program} {C:Class} {fn:FuncId} {aB:Option Nat} {Q:Post} {s:St} {n:Nat} {env:Env} {D:List Deferred}
variable {ops:Array Oper} {i:Nat} {rest:List Nat} {dst:Option Tmp} {ty:TypeId} {pos:String} {c8:Array Edge} {g:Option (Nat×Bool)}
theorem aeb(hC:∀main T,C main T→Closed P main T){a:ByteArray}{b:Int}(ho:ops[i]?=some ⟨dst,.call ⟨.value (.func f),xs,at_⟩,ty,pos,c8,g⟩) (hw:ax ops n env g=true)
 (ef:EF P f Extern.BytealgIndexByte.indexByte) (hx:vv n env xs=some [.string a,.int .u8 b]) (h:ab C fn aB ops rest Q (A n (upd dst (.int .i64 (Qt a b.toNat.toUInt8)) env) D) s):ab C fn aB ops (i::rest) Q (A n env D) s:=by
 refine aed hC ho hw ef hx ?_
 unfold Qt at h
 show bP P (match (List.range a.size).find? fun i=>a[i]! ==b.toNat.toUInt8 with|some i=>pure (goInt i)|none=>pure (goInt (-1))) s _ _
 split
 ·rename_i j hj
  rw[hj] at h;exact h
 rename_i hj
 rw[hj] at h;exact h
theorem alv(hC:∀main T,C main T→Closed P main T){v:Value}(ho:ops[i]?=some ⟨dst,.call ⟨.value (.func f),xs,at_⟩,ty,pos,c8,g⟩) (hw:ax ops n env g=true)
 (ef:EF P f Extern.AbiNoEscape.same) (hx:vv n env xs=some [v]) (h:ab C fn aB ops rest Q (A n (upd dst v env) D) s):ab C fn aB ops (i::rest) Q (A n env D) s:=
 aed hC ho hw ef hx h
end rules
theorem aa4{p:Nat}{c:UInt8}(h:b.data.toList[p]?=some c) (ha:c.toNat <128):p <b.size∧Utf8.decode b p=(c.toNat,1):=by
 rw[Array.getElem?_toList] at h
 obtain⟨h1,h2⟩:=Array.getElem?_eq_some_iff.1 h
 refine⟨h1,?_⟩
 have h3:b.get! (p+0)=c:=by
  show b.data[p+0]! =c
  rw[Nat.add_zero,getElem!_pos b.data p h1,h2]
 simp only[Utf8.decode,h3]
 rw[if_pos (by omega)]
section rules
variable {P:Program} {C:Class} {fn:FuncId} {aB:Option Nat} {Q:Post} {ro:Nat→Option Obj} {n:Nat} {env:Env} {D:List Deferred}
variable {ops:Array Oper} {i:Nat} {rest:List Nat} {dst:Option Tmp} {ty:TypeId} {pos:String} {c8:Array Edge} {g:Option (Nat×Bool)}
theorem alx(hC:∀main T,C main T→Closed P main T){r p:Nat}{R:Cells}{c:UInt8}(ho:ops[i]?=some ⟨dst,.next x true,ty,pos,c8,g⟩) (hw:ax ops n env g=true) (hx:bn n env x=some (.pointer (some ⟨r,0,none⟩))) (hp:b.data.toList[p]?=some c) (ha:c.toNat <128)
 (h:ab C fn aB ops rest Q (A n (upd dst (.tuple ⟨[.bool true,.int .i64 p,.int .i32 c.toNat]⟩) env) D) ⟨ro,(r,.stringIter b (p+1))::R⟩):ab C fn aB ops (i::rest) Q (A n env D) ⟨ro,(r,.stringIter b p)::R⟩:=by
 obtain⟨h1,h2⟩:=aa4 hp ha
 refine ZV hC ho hw hx (L:=[]) rfl h1 ?_
 rw[h2]
 exact h
theorem alw(hC:∀main T,C main T→Closed P main T){r p:Nat}{R:Cells}(ho:ops[i]?=some ⟨dst,.next x true,ty,pos,c8,g⟩) (hw:ax ops n env g=true) (hx:bn n env x=some (.pointer (some ⟨r,0,none⟩))) (hp:b.data.toList[p]?=none)
 (h:ab C fn aB ops rest Q (A n (upd dst (.tuple ⟨[.bool false]⟩) env) D) ⟨ro,(r,.stringIter b p)::R⟩):ab C fn aB ops (i::rest) Q (A n env D) ⟨ro,(r,.stringIter b p)::R⟩:=by
 refine ZW hC ho hw hx (L:=[]) rfl ?_ h
 rw[Array.getElem?_toList,Array.getElem?_eq_none_iff] at hp
 exact Nat.not_lt.2 hp
end rules
theorem FI(ops:Array Oper)(n:Nat)(env:Env)(D:List Deferred)(o:Oper)(j:Nat)(want:Bool)(d:Tmp)(hg:o.guard=some (j,want))(hd:(ops[j]?).bind (·.dst)=some d)
 (hv:bn n env (.tmp d)=some undef):Region.wanted o (yielded ops (A n env D).tmps)=false:=by
 unfold Region.wanted
 rw[hg]
 simp only[bn] at hv
 by_cases cL:d <n
 ·rw[show Nat.blt d n=true from by simpa [Nat.blt_eq] using cL] at hv
  simp only[cond_true] at hv
  simp only[yielded,hd,Option.bind_some,Oj]
  rw[if_pos cL,mX hv]
  rfl
 rw[show Nat.blt d n=false from by simpa [Nat.blt_eq,←Bool.not_eq_true] using cL] at hv
 cases hv
section rules
variable {P:Program} {C:Class} {fn:FuncId} {aB:Option Nat} {Q:Post} {s:St} {n:Nat} {env:Env} {D:List Deferred}
variable {ops:Array Oper} {i:Nat} {rest:List Nat} {dst:Option Tmp} {ty:TypeId} {pos:String} {c8:Array Edge} {g:Option (Nat×Bool)}
theorem alu(hC:∀main T,C main T→Closed P main T){op:Op}{j:Nat}{want:Bool}{d:Tmp}(ho:ops[i]?=some ⟨dst,op,ty,pos,c8,some (j,want)⟩) (hd:(ops[j]?).bind (·.dst)=some d)
 (hv:bn n env (.tmp d)=some undef) (h:ab C fn aB ops rest Q (A n (upd dst undef env) D) s):ab C fn aB ops (i::rest) Q (A n env D) s:=by
 refine tV hC ho (FI _ _ _ _ _ _ _ _ rfl hd hv) ?_
 rw[aX];exact h
end rules
section rules
variable {P:Program} {C:Class} {fn:FuncId} {Q:Post} {s:St} {n:Nat} {env:Env} {D:List Deferred}
variable {ops:Array Oper} {i:Nat} {rest:List Nat} {dst:Option Tmp} {ty:TypeId} {pos:String} {c8:Array Edge} {g:Option (Nat×Bool)}
theorem alz(hC:∀main T,C main T→Closed P main T){ca:List Value}(ho:ops[i]?=some ⟨dst,.defer ⟨.value x,#[],#[]⟩,ty,pos,c8,g⟩) (hw:ax ops n env g=true)
 (hx:bn n env x=some (.func (.func f) ⟨[]⟩ ⟨ca⟩)) (h:ab C fn none ops rest Q (A n (upd dst undef env) ({target:= .fn (.func f) ⟨ca⟩,args:= #[]}::D)) s):ab C fn none ops (i::rest) Q (A n env D) s:=by
 refine MM hC ho (BI _ _ _ _ _ hw) (.inl rfl) ?_
 rw[eF]
 simp only[execOp,resolve,aE hx,Deferred.ofValue,ae]
 refine⟨rfl,?_⟩
 have hA:({A n env D with defers:={target:= .fn (.func f) ⟨ca⟩,args:= #[]}::(A n env D).defers}:Act).put dst undef=A n (upd dst undef env) ({target:= .fn (.func f) ⟨ca⟩,args:= #[]}::D):=by
  rw[←aX];rfl
 rw[←hA] at h
 have he:(⟨[]⟩:Array Value)++Array.map (ev n env) #[]= #[]:=by simp
 rw[he]
 exact h
def Vk(C:Class)(P:Program)(fn:Func)(g:FuncId)(gn:Func)(t:Tmp)(rest:Code)(R:Ending→St→Prop):Post:=fun e a s=>
 (e= .normal∨e= .ret)∧∃ca:List Value,Nat.ble ca.length gn.ntmps=true∧a.defers=[{target:= .fn (.func g) ⟨ca⟩,args:= #[]}]∧
  Wp C g none rest (fun e2 a2 s2=>(e2= .normal∨e2= .ret)∧a2.defers=[]∧bP P (results fn a.tmps) s2 (fun v s3=>∃s0,s0.le s3∧R (.returned v) s0) (fun _ _=>False)) (A gn.ntmps (upd (some t) .nilIface (fS 0 ca)) []) s
theorem Hz(hC:∀main T,C main T→Closed P main T){fn:Func}{c:Code}{gid:FuncId}{gn:Func}{t:Tmp}{rc:Code}(hf:P.funcs[f]?=some fn) (hb:fn.body=some c) (hn:fn.ntmps=n) (hl:Nat.ble args.length n=true)
 (afG:IW P gid=some (gn,t,rc)) (h:Wp C f none c (Vk C P fn gid gn t rc R) (A n (fS 0 args) []) s):Fn C P f ⟨args⟩ s R:=by
 intro main T hT cl cs k1 k2
 have iV:=hC main T hT
 let b:Frame:={(default:Frame) with fn:=f,kind:= .normal,roundOf:=none}
 have iv:Frame.enter P f ⟨args⟩ .normal=aK b (A n (fS 0 args) []) [.code c]:=by
  rw[←kS args n (Nat.le_of_ble_eq_true hl)]
  simp[Frame.enter,aK,hf,hb,hn,b]
 rw[iv]
 obtain⟨hgf,AQ,Iy,id,o,at_,hgb,h1,h2,h3⟩:=(WG afG).ex
 have ff:FF P gid:=⟨gn,hgf,Iy,by rw[hgb];rfl⟩
 have sb:∀(todo:List Item) (a':Act) (s':St) (ca:List Value),Nat.ble ca.length gn.ntmps=true→a'.defers=[{target:= .fn (.func gid) ⟨ca⟩,args:= #[]}]→
  Wp C gid none rc (fun e2 a2 s2=>(e2= .normal∨e2= .ret)∧a2.defers=[]∧bP P (results fn a'.tmps) s2 (fun v s3=>∃s0,s0.le s3∧R (.returned v) s0) (fun _ _=>False)) (A gn.ntmps (upd (some t) .nilIface (fS 0 ca)) []) s'→
  T (G {aK b a' todo with mode:= .returning} (cl::cs)) s':=by
  intro todo a' s' ca hlc hd hw
  refine jK hC hT (.inl rfl) ff (ds:=[]) (a:= #[]) (ca:=⟨ca⟩) hd ?_
  let d:Frame:={(default:Frame) with fn:=gid,kind:= .deferred,roundOf:=none}
  have amX:Frame.enter P gid ((#[]:Array Value)++⟨ca⟩) .deferred=aK d (A gn.ntmps (fS 0 ca) []) [.code (.seq (.region id #[o] false) rc)]:=by
   rw[←kS ca gn.ntmps (Nat.le_of_ble_eq_true hlc)]
   simp[Frame.enter,aK,hgf,hgb,d]
  rw[amX]
  let c0:Frame:={aK b a' todo with mode:= .returning,defers:=[]}
  show T (G _ (c0::cl::cs)) s'
  refine iV.go rfl rfl (g':=G (aK d (A gn.ntmps (fS 0 ca) []) [.code (.region id #[o] false),.code rc]) (c0::cl::cs)) (fun w=>by simp[G,stepG,stepG.exec,aK])<|iV.go rfl rfl (g':=G (aK d (A gn.ntmps (fS 0 ca) []) [.inRegion #[o] [0],.code rc]) (c0::cl::cs)) (fun w=>by simp[G,stepG,stepG.exec,aK,List.range,List.range.loop])<|Ar hC hT (u:= .ret) (ρ:=fun _=>none) rfl rfl h1 h2 h3 .ret fun v' nA hv Uv=>?_
  have hv':v'= .nilIface:=by
   rcases hv with hv|hv
   ·cases hv;rfl
   exact hv.2
  subst hv'
  refine iV.go rfl rfl (g':=G (aK d ((A gn.ntmps (fS 0 ca) []).put (some t) .nilIface) [.code rc]) ({c0 with mode:=nA}::cl::cs)) (fun w=>by simp[G,stepG,stepG.exec,aK]) ?_
  rw[aX]
  have QF:∀tmps,results gn tmps=Sem.pure (.tuple #[]):=by intro tmps;simp[results,AQ];rfl
  have ya:∀(V4:List Item) (a2:Act) (s2:St),a2.defers=[]→bP P (results fn a'.tmps) s2 (fun v s3=>∃s0,s0.le s3∧R (.returned v) s0) (fun _ _=>False)→T (G {aK d a2 V4 with mode:= .returning} ({c0 with mode:=nA}::cl::cs)) s2:=by
   intro V4 a2 s2 hd2 wo
   have mG:T (G c0 (cl::cs)) s2:=sQ hC hT hf rfl rfl rfl rfl wo k1
   refine iV.go rfl rfl (fun w=>?_) mG
   rcases Uv with rfl| ⟨v,rfl⟩
   ·simp only[G,stepG,unwind,aK,d,hgf,QF,Sem.runT,sP,hd2]
    simp[GStep.after,doReturn,c0,aK]
   simp only[G,stepG,unwind,aK,d,hgf,QF,Sem.runT,sP,hd2]
   simp[GStep.after,doReturn,c0,aK]
  refine hw main T hT d [] _ rfl (by simp[d]) rfl fun e2 a2 s2 q=>?_
  obtain⟨q1,q2,q3⟩:=q
  rcases q1 with rfl|rfl
  ·exact iV.go rfl rfl (g':=G {aK d a2 [] with mode:= .returning} ({c0 with mode:=nA}::cl::cs)) (fun w=>by simp[G,stepG,stepG.exec,aK,d]) (ya _ _ _ q2 q3)
  exact fun V4=>iV.go rfl rfl (g':=G {aK d a2 (.code .ret::V4) with mode:= .returning} ({c0 with mode:=nA}::cl::cs)) (fun w=>by simp[G,stepG,stepG.exec,aK,d]) (ya _ _ _ q2 q3)
 refine h main T hT b [] (cl::cs) rfl (by simp[b]) rfl fun e a' s' q=>?_
 obtain⟨q1,ca,q0,q2,q3⟩:=q
 rcases q1 with rfl|rfl
 ·exact iV.go rfl rfl (g':=G {aK b a' [] with mode:= .returning} (cl::cs)) (fun w=>by simp[G,stepG,stepG.exec,aK,b]) (sb _ _ _ ca q0 q2 q3)
 exact fun todo=>iV.go rfl rfl (g':=G {aK b a' (.code .ret::todo) with mode:= .returning} (cl::cs)) (fun w=>by simp[G,stepG,stepG.exec,aK,b]) (sb _ _ _ ca q0 q2 q3)
end rules
section rules
variable {P:Program} {C:Class} {fn:FuncId} {aB:Option Nat} {Q:Post} {s:St} {n:Nat} {env:Env} {D:List Deferred}
variable {ops:Array Oper} {i:Nat} {rest:List Nat} {dst:Option Tmp} {ty:TypeId} {pos:String} {c8:Array Edge} {g:Option (Nat×Bool)}
variable {T:TypeId} {sz bC:Nat} {z:List Value} {ag:Bool}
theorem als(hC:∀main T,C main T→Closed P main T){a:Option Addr}{l c:Nat}(ho:ops[i]?=some ⟨dst,.binOp .eql T x y T',ty,pos,c8,g⟩) (hw:ax ops n env g=true) (tf:TF P T (.slice E) sz bC z ag)
 (hx:bn n env x=some (.slice a l c)) (hy:bn n env y=some (.slice none 0 0)) (h:ab C fn aB ops rest Q (A n (upd dst (.bool a.isNone) env) D) s):ab C fn aB ops (i::rest) Q (A n env D) s:=by
 refine bS hC ho hw (by simp) ?_
 have hg:eqGuard .eql T x y (.slice a l c) (.slice none 0 0)=Sem.pure ():=by cases a<;>rfl
 have hb:binOp .eql T (.slice a l c) (.slice none 0 0)=(Op.equal T (.slice a l c) (.slice none 0 0) >>= fun r=>pure (.bool r)):=by cases a<;>rfl
 have he:∀ {α:Type} (K:Bool→Sem α) (Q:α→St→Prop) (E:Halt→St→Prop),bP P (K a.isNone) s Q E→bP P (Op.equal T (.slice a l c) (.slice none 0 0) >>= K) s Q E:=by
  intro α K Q E hK
  have gen:∀d,bP P (Op.equalIn (d+1) T (.slice a l c) (.slice none 0 0) >>= K) s Q E:=by
   intro d
   cases a<;>(simp only[Op.equalIn,aa,aZ tf,ae,Option.isNone];exact hK)
  exact gen 9999
 simp only[execOp,aE hx,aE hy,hg,hb]
 show bP P ((Op.equal T (.slice a l c) (.slice none 0 0) >>= fun r=>(pure (Value.bool r):Sem Value)) >>= fun x=>(pure (Next.value x):Sem Next)) s _ _
 simp only[aa]
 refine he _ _ _ ?_
 rw[←aX] at h
 exact h
end rules
def adK:Op→Option (List Operand)
 | .move x=>some [x]
 | .assign x=>some [x]
 | .extract x _=>some [x]
 | .nilCheck x=>some [x]
 | .fieldAddr _ x _=>some [x]
 | .makeInterface _ x=>some [x]
 | .indexAddr _ x y=>some [x,y]
 |op=>Gf op
theorem PA{xs:List Operand}(h:adK o.op=some xs){f g:Operand→Value}(hfg:∀x∈xs,f x=g x):execOp f o=execOp g o:=by
 unfold adK at h
 split at h
 all_goals first
  | (rename_i heq;simp only[Option.some.injEq] at h;subst h;simp[execOp,heq,hfg];done)
  |exact tS h hfg
def evj(n:Nat)(e:Env)(x:Operand):Value:=(bn n e x).getD undef
theorem NI{f:Operand→Value}(hf:Ev n e f):∀ {xs:List Operand} {vs:List Value},xU n e xs=some vs→∀x∈xs,f x=evj n e x
 |y::l,vs,h,x,hx=>by
  simp only[xU] at h
  cases hv:bn n e y with
  |none=>rw[hv] at h;cases h
  |some v=>
   rw[hv] at h
   cases hr:xU n e l with
   |none=>rw[hr] at h;cases h
   |some r=>
    rcases List.mem_cons.1 hx with rfl|hx
    ·rw[hf _ _ hv,evj,hv];rfl
    exact NI hf hr x hx
def arR(P:Program)(n:Nat)(e:Env)(o:Oper):Option Value:=
 match adK o.op with
 |some xs=>match xU n e xs with
  |some _=>match bu P (execOp (evj n e) o) with
   |some (.value v)=>some v
   |_=>none
  |none=>none
 |none=>none
def aBz(P:Program)(n:Nat)(e:Env)(x:Operand)(T:TypeId):Option Value:=
 match aY P T with
 |some ⟨.slice _,_,_,_⟩=>match bn n e x with
  |some (.slice _ len _)=>some (.int .i64 len)
  |_=>none
 |some ⟨.string,_,_,_⟩=>match bn n e x with
  |some (.string b)=>some (.int .i64 b.size)
  |_=>none
 |_=>none
def Vu(P:Program)(n:Nat)(e:Env)(T:TypeId)(ps:Array (Nat×Operand)):Option Value:=
 match aY P T with
 |some ⟨.struct fields,_,z,_⟩=>match xj P fields.toList with
  |some pl=>match OB n e ps.toList with
   |some pv=>match oP (fun i=>pl[i]?) z (tU pv) with
    |some l=>some (.agg ⟨l⟩)
    |none=>none
   |none=>none
  |none=>none
 |some ⟨.array _ E,_,z,_⟩=>match aY P E with
  |some te=>match OB n e ps.toList with
   |some pv=>match oP (fun i=>some (i*te.size,te.size)) z (tU pv) with
    |some l=>some (.agg ⟨l⟩)
    |none=>none
   |none=>none
  |none=>none
 |_=>none
def aco(P:Program)(n:Nat)(e:Env)(o:Oper):Option Value:=
 match o.op with
 | .pick c x y=>match bn n e c with
  |some (.bool true)=>bn n e x
  |some (.bool false)=>bn n e y
  |_=>none
 | .makeFunc f x y=>match xU n e x.toList with
  |some x'=>match xU n e y.toList with
   |some y'=>some (.func f ⟨x'⟩ ⟨y'⟩)
   |none=>none
  |none=>none
 | .build T ps=>Vu P n e T ps
 | .call ⟨.builtin .len,⟨[x]⟩,⟨[T]⟩⟩=>aBz P n e x T
 |_=>arR P n e o
section val
variable {P:Program} {n:Nat} {e:Env} {o:Oper} {s:St} {v:Value}
theorem akU(h:arR P n e o=some v):Yields P n e o s v:=by
 unfold arR at h
 split at h<;>try (cases h;done)
 rename_i xs hx
 split at h<;>try (cases h;done)
 rename_i vs EB
 split at h<;>try (cases h;done)
 rename_i w hr
 cases h
 intro s' _ f hf K E hK
 rw[PA hx (NI hf EB)]
 exact oB hr hK
theorem abc{ps:Array (Nat×Operand)}(heq:o.op= .build T ps)(h:Vu P n e T ps=some v):Yields P n e o s v:=by
 unfold Vu at h
 split at h<;>try (cases h;done)
 ·rename_i fields _ z _ dV
  obtain⟨bC,tf⟩:=av dV
  split at h<;>try (cases h;done)
  rename_i pl Ss
  split at h<;>try (cases h;done)
  rename_i pv Jj
  split at h<;>try (cases h;done)
  rename_i l hl
  cases h
  intro s' nu f hf K E hK
  simp only[execOp,heq,Instr.build,aa,kg tf,aZ tf,ez tf]
  rw[Array.mapM_eq_mapM_toList]
  simp only[map_eq_pure_bind,aa,ae]
  rw[od (yO Ss)]
  rw[kL] at hl
  have h1:=fill_eq _ _ _ _ hl
  have h3:(fun x=>(pl.toArray)[x]?:Nat→Option (Nat×Nat))=fun i=>pl[i]?:=by funext i;simp
  simp only[h3,hf.vN Jj,h1,ae]
  exact hK
 rename_i len E _ z _ dV
 obtain⟨bC,tf⟩:=av dV
 split at h<;>try (cases h;done)
 rename_i te ui
 obtain⟨Bh,qT⟩:=av ui
 split at h<;>try (cases h;done)
 rename_i pv Jj
 split at h<;>try (cases h;done)
 rename_i l hl
 cases h
 intro s' nu f hf K E hK
 simp only[execOp,heq,Instr.build,aa,kg tf,aZ tf,ez tf,cg qT]
 rw[kL] at hl
 have h1:=fill_eq _ _ _ _ hl
 simp only[hf.vN Jj,h1,ae]
 exact hK
theorem Ah(h:aco P n e o=some v):Yields P n e o s v:=by
 unfold aco at h
 split at h
 ·rename_i c x y heq
  split at h<;>try (cases h;done)
  ·rename_i hc
   intro s' _ f hf K E hK
   simp only[execOp,heq,hf _ _ hc,hf _ _ h]
   exact hK
  rename_i hc
  intro s' _ f hf K E hK
  simp only[execOp,heq,hf _ _ hc,hf _ _ h]
  exact hK
 ·rename_i g x y heq
  split at h<;>try (cases h;done)
  rename_i x' hx
  split at h<;>try (cases h;done)
  rename_i y' hy
  cases h
  intro s' _ f hf K E hK
  simp only[execOp,heq,hf.arr hx,hf.arr hy]
  exact hK
 ·rename_i T ps heq;exact abc heq h
 ·rename_i x T heq
  unfold aBz at h
  split at h<;>try (cases h;done)
  ·rename_i dV
   obtain⟨bC,tf⟩:=av dV
   split at h<;>try (cases h;done)
   rename_i hx
   cases h
   intro s' _ f hf K E hK
   simp only[execOp,heq,resolve,invoke,builtin,Builtin.len_,List.map_toArray,List.map_cons,List.map_nil,hf _ _ hx,ae,List.getElem?_toArray,List.getElem?_cons_zero,aZ tf,aa]
   exact hK
  rename_i dV
  obtain⟨bC,tf⟩:=av dV
  split at h<;>try (cases h;done)
  rename_i hx
  cases h
  intro s' _ f hf K E hK
  simp only[execOp,heq,resolve,invoke,builtin,Builtin.len_,List.map_toArray,List.map_cons,List.map_nil,hf _ _ hx,ae,List.getElem?_toArray,List.getElem?_cons_zero,aZ tf,aa]
  exact hK
 exact akU h
end val
def ldv(P:Program)(T:TypeId)(l:List Value)(off:Nat):Option Value:=
 match aY P T with
 |some ti=>bif ti.agg then (match sub l off ti.size with
  |some vs=>some (.agg ⟨vs⟩)
  |none=>none) else nth l off
 |none=>none
theorem aeO{v:Value}{b:Nat}{t:TypeId}(heq:o.op= .load T x)(hx:bn n e x=some (.pointer (some ⟨b,off,none⟩)))(hb:s.has b (.cells ⟨l⟩ t fz))(h:ldv P T l off=some v):Yields P n e o s v:=by
 unfold ldv at h
 split at h<;>try (cases h;done)
 rename_i ti dV
 obtain⟨bC,tf⟩:=av dV
 intro s' hs f hf K E hK
 cases ha:ti.agg with
 |true=>
  rw[ha] at h tf
  simp only[cond_true] at h
  split at h<;>try (cases h;done)
  rename_i vs EB
  cases h
  simp only[execOp,heq,Instr.loadAt,hf _ _ hx,Instr.sureAddr,loadVar,aa,ae,kH tf,if_true,cg tf]
  exact iY ⟨_,_,_,hs _ _ hb,EB⟩ hK
 |false=>
  rw[ha] at h tf
  simp only[cond_false] at h
  simp only[execOp,heq,Instr.loadAt,hf _ _ hx,Instr.sureAddr,loadVar,aa,ae,kH tf,Bool.false_eq_true,if_false]
  exact vz ⟨_,_,_,hs _ _ hb,h⟩ hK
theorem as7{v:Value}{b m:Nat}(k:Nat)(heq:o.op= .load T x)(hx:bn n e x=some (.pointer (some ⟨b,off+k,none⟩)))(hb:cB s b off m l)(h:ldv P T l k=some v):Yields P n e o s v:=by
 unfold ldv at h
 split at h<;>try (cases h;done)
 rename_i ti dV
 obtain⟨bC,tf⟩:=av dV
 intro s' hs f hf K E hK
 cases ha:ti.agg with
 |true=>
  rw[ha] at h tf
  simp only[cond_true] at h
  split at h<;>try (cases h;done)
  rename_i vs EB
  cases h
  simp only[execOp,heq,Instr.loadAt,hf _ _ hx,Instr.sureAddr,loadVar,aa,ae,kH tf,if_true,cg tf]
  exact iY ((hb.ext hs).part k ti.size EB) hK
 |false=>
  rw[ha] at h tf
  simp only[cond_false] at h
  simp only[execOp,heq,Instr.loadAt,hf _ _ hx,Instr.sureAddr,loadVar,aa,ae,kH tf,Bool.false_eq_true,if_false]
  exact vz ((hb.ext hs).cell k v (by rw[←rY];exact h)) hK
structure Cx where
 P:Program
 C:Class
 hC:∀main T,C main T→Closed P main T
 hm:P.follows .mixedOrders=true
 fn:FuncId
 aB:Option Nat
 n:Nat
 D:List Deferred
 ro:Nat→Option Obj
 Q:Post
variable {X X1:Cx}
def Cx.at(X:Cx)(ro:Nat→Option Obj):Cx:={X with ro:=ro}
inductive KI where
 |seq (b:Code)
 |block (id:Nat)
 |next (K:Act→St→Prop)
inductive Sg where
 |b (i:Nat) (o:Obj)
 |l (L:Cells)
def den:List Sg→Cells
 | []=>[]
 | [.l L]=>L
 | .b i o::r=>(i,o)::den r
 | .l L::r=>L++den r
theorem iQ(i:Nat)(o:Obj)(r:List Sg):den (.b i o::r)=(i,o)::den r:=by cases r<;>rfl
theorem gF(L:Cells)(r:List Sg):den (.l L::r)=L++den r:=by cases r<;>simp[den]
inductive Pos where
 |ops (ops:Array Oper) (todo:List Nat) (k:List KI)
 |code (c:Code) (k:List KI)
 |nxt (K:Act→St→Prop)
 |HM (ops:Array Oper) (base:Env) (Pl Sl:List (Nat×Value)) (k:List KI)
 |fin (e:Exit)
structure Kn where
 c:Cells
 nd:List (Nat×Cells)
variable {kn:Kn}
structure JS where
 pos:Pos
 env:Env
 rw:List Sg
 kn:Kn
variable {s':JS}
def KQ(X:Cx):List KI→Post
 | []=>X.Q
 | .seq b::k=>me (fun a s=>Wp X.C X.fn X.aB b (KQ X k) a s) (KQ X k)
 | .block id::k=>qM id (KQ X k)
 | .next K::k=>me K (KQ X k)
def DC:Op→Bool
 | .load .. =>false
 | .lookup .. =>false
 | .call ⟨.value _,_,_⟩=>false
 | .call ⟨.invoke ..,_,_⟩=>false
 |_=>true
def wA(ops:Array Oper)(n:Nat)(e:Env):Option (Nat×Bool)→Option Bool
 |none=>some true
 |some (j,want)=>match aQ ops j with
  |some d=>match bn n e (.tmp d) with
   |some (.bool true)=>some want
   |some (.bool false)=>some (!want)
   |some (.tuple ⟨[]⟩)=>some false
   |_=>none
  |none=>none
def sV(ops:Array Oper)(n:Nat)(base:Env)(Pl:List (Nat×Value))(j:Nat):Bool:=match ops[j]? with
 |some p=>DC p.op||(match wA ops n (cq ops base j Pl) p.guard with
  |some false=>true
  |_=>false)
 |none=>false
def PF(X:Cx)(nd:List (Nat×Cells))(ops:Array Oper)(base:Env)(Pl Sl:List (Nat×Value)):Prop:=
 (∀j u,(j,u)∈Sl→sV ops X.n base Pl j=true→∀s,eT X.C X.fn X.aB ops X.n X.D j u (cq ops base j Pl) s)∧
 ∀j u B,(j,u)∈Sl→(j,B)∈nd→∀s,Ext ⟨X.ro,[]⟩ s→(∀x∈B,s.has x.1 x.2)→eT X.C X.fn X.aB ops X.n X.D j u (cq ops base j Pl) s
def ndK:List (Nat×Cells)→List Nat
 | []=>[]
 | (i,_)::l=>i::ndK l
theorem MU:∀ {l:List (Nat×Cells)},(i,B)∈l→i∈ndK l
 | (j,C)::l,h=>by
  simp only[ndK]
  rcases List.mem_cons.1 h with h|h
  ·cases h;exact List.mem_cons_self
  exact List.mem_cons_of_mem _ (MU h)
def JP(X:Cx)(kn:Kn)(e:Env)(w:List Sg):Pos→Prop
 | .ops ops todo k=>ab X.C X.fn X.aB ops todo (KQ X k) (A X.n e X.D) ⟨X.ro,den w⟩
 | .code c k=>Wp X.C X.fn X.aB c (KQ X k) (A X.n e X.D) ⟨X.ro,den w⟩
 | .nxt K=>K (A X.n e X.D) ⟨X.ro,den w⟩
 | .HM ops base Pl Sl k=>PF X kn.nd ops base Pl Sl→tF X.C X.fn X.aB ops X.n X.D base Pl Sl (KQ X k) ⟨X.ro,den w⟩
 | .fin e'=>X.Q e' (A X.n e X.D) ⟨X.ro,den w⟩
def J(X:Cx):Option JS→Prop
 |none=>False
 |some s=>Knows X.ro s.kn.c→JP X s.kn s.env s.rw s.pos
def PC:List KI→Pos
 | []=> .fin .normal
 | .seq b::k=> .code b k
 | .block _::k=>PC k
 | .next K::_=> .nxt K
theorem tT{w:List Sg}:∀ {k:List KI},JP X kn e w (PC k)→KQ X k .normal (A X.n e X.D) ⟨X.ro,den w⟩
 | [],h=>h
 | .seq _::_,h=>h
 | .block _::k,h=>tT (k:=k) h
 | .next _::_,h=>h
def A5(id:Nat):List KI→Option Pos
 | []=>some (.fin (.exit id))
 | .seq _::k=>A5 id k
 | .block i::k=>bif Nat.beq id i then some (PC k) else A5 id k
 | .next _::k=>A5 id k
theorem wH{w:List Sg}{p:Pos}:∀ {k:List KI},A5 id k=some p→JP X kn e w p→KQ X k (.exit id) (A X.n e X.D) ⟨X.ro,den w⟩
 | [],h,hj=>by simp only[A5,Option.some.injEq] at h;subst h;exact hj
 | .seq _::k,h,hj=>wH (k:=k) h hj
 | .next _::k,h,hj=>wH (k:=k) h hj
 | .block i::k,h,hj=>by
  simp only[A5] at h
  cases hb:Nat.beq id i with
  |true=>
   rw[hb] at h;simp only[cond_true,Option.some.injEq] at h;subst h
   have:=Nat.eq_of_beq_eq_true hb;subst this
   exact D5 (tT hj)
  |false=>
   rw[hb] at h;simp only[cond_false] at h
   exact DZ hb (wH (k:=k) h hj)
theorem Ap{a:Act}(h:X.Q .ret a s):∀(k:List KI),KQ X k .ret a s
 | []=>h
 | .seq _::k=>Ap h k
 | .next _::k=>Ap h k
 | .block _::k=>Ap h k
def azQ:Op→Bool
 | .move _| .assign _| .pick .. | .makeFunc .. | .extract .. | .nilCheck _| .fieldAddr .. | .makeInterface .. | .indexAddr .. | .index .. | .field .. | .binOp .. | .unOp .. | .convert .. | .build .. | .load .. | .lookup .. | .slice .. =>true
 | .call ⟨.builtin .len,_,_⟩| .call ⟨.builtin .cap,_,_⟩| .call ⟨.builtin .min,_,_⟩| .call ⟨.builtin .max,_,_⟩=>true
 |_=>false
def azR(ops:Array Oper)(i:Nat):Bool:=match ops[i]? with
 |some o=>azQ o.op
 |none=>false
def enabled(ops:Array Oper)(ks:List Nat)(i:Nat):Bool:= !a8 i ks&&fM (bp ops i) ks
def ah4(f:Nat→Bool):Nat→Nat→Option Nat
 |0,_=>none
 |k+1,i=>bif f i then some i else ah4 f k (i+1)
def anM(ops:Array Oper)(ks:List Nat):Option Nat:=
 match ah4 (fun i=>enabled ops ks i&&azR ops i) ops.size 0 with
 |some i=>some i
 |none=>ah4 (enabled ops ks) ops.size 0
def qB(n:Nat):JS→Option (Bool×Oper×Env)
 | ⟨.ops ops (i::_) _,e,_,_⟩=>match ops[i]? with
  |some o=>match wA ops n e o.guard with
   |some g=>some (g,o,e)
   |none=>none
  |none=>none
 | ⟨.HM ops base Pl _ _,_,_,_⟩=>match anM ops (ak Pl) with
  |some i=>match ops[i]? with
   |some o=>match wA ops n (cq ops base i Pl) o.guard with
    |some g=>some (g,o,cq ops base i Pl)
    |none=>none
   |none=>none
  |none=>none
 |_=>none
def Gd(v:Value):JS→Option JS
 | ⟨.ops ops (i::todo) k,e,w,kn⟩=>match ops[i]? with
  |some o=>some ⟨.ops ops todo k,upd o.dst v e,w,kn⟩
  |none=>none
 | ⟨.HM ops base Pl Sl k,e,w,kn⟩=>match anM ops (ak Pl) with
  |some i=>bif !a8 i (ak Pl)&&(fM (bp ops i) (ak Pl)&&(pe ops (ak Pl)&&(fM (ak Sl) (ak Pl)&& !a8 i (ndK kn.nd)))) then some ⟨.HM ops base ((i,v)::Pl) ((i,v)::Sl) k,e,w,kn⟩ else none
  |none=>none
 |_=>none
theorem nU{ops:Array Oper}{g:Option (Nat×Bool)}(h:wA ops n e g=some true)(rest:Env):ax ops n (e++rest) g=true:=by
 unfold wA at h
 split at h
 ·rfl
 rename_i j want
 split at h<;>try (cases h;done)
 rename_i d hd
 have hd:(ops[j]?).bind (·.dst)=some d:=hd
 split at h<;>try (cases h;done)
 ·rename_i hb;simp only[Option.some.injEq] at h;subst h
  exact tJ hd (bh hb) rfl
 rename_i hb;simp only[Option.some.injEq,Bool.not_eq_true'] at h;subst h
 exact tJ hd (bh hb) rfl
section
variable {X:Cx}
theorem zf{ops:Array Oper}{Q:Post}(ho:ops[i]?=some o) (h:wA ops X.n e o.guard=some false) (rest:Env) (hk:ab X.C X.fn X.aB ops todo Q (A X.n (upd o.dst undef (e++rest)) X.D) s):ab X.C X.fn X.aB ops (i::todo) Q (A X.n (e++rest) X.D) s:=by
 unfold wA at h
 split at h
 ·cases h
 rename_i j want hg
 split at h<;>try (cases h;done)
 rename_i d hd
 have hd:(ops[j]?).bind (·.dst)=some d:=hd
 split at h<;>try (cases h;done)
 ·rename_i hb;simp only[Option.some.injEq] at h;subst h
  exact tZ X.hC ho hg hd (bh hb) rfl hk
 ·rename_i hb;simp only[Option.some.injEq,Bool.not_eq_false'] at h;subst h
  exact tZ X.hC ho hg hd (bh hb) rfl hk
 rename_i hb
 rcases o with ⟨dst,op,ty,pos,c8,g⟩
 dsimp only at hg;subst hg
 exact alu X.hC ho hd (bh hb) hk
def Ij(X:Cx)(e:Env)(o:Oper)(s:St)(v:Value):Prop:=
 ∀(ops:Array Oper) (i:Nat),ops[i]?=some o→∀rest,ax ops X.n (e++rest) o.guard=true→∀s',Ext s s'→∀todo Q,ab X.C X.fn X.aB ops todo Q (A X.n (upd o.dst v (e++rest)) X.D) s'→ab X.C X.fn X.aB ops (i::todo) Q (A X.n (e++rest) X.D) s'
theorem jyS{s:JS}{v:Value}(hh:qB X.n s=some (g,o,e))(hp:Gd v s=some s')
 (hv:match g with|true=>(Knows X.ro s.kn.c→Ij X e o ⟨X.ro,den s.rw⟩ v)∧(DC o.op=true→∀s,Ij X e o s v)|false=>v=undef)(hj:J X (some s')):J X (some s):=by
 intro bW
 rcases s with ⟨p,e0,w,kn⟩
 cases p with
 |ops ops todo k=>
  cases todo with
  |nil=>cases hh
  |cons i todo=>
   simp only[qB] at hh
   split at hh<;>try (cases hh;done)
   rename_i o1 ho
   split at hh<;>try (cases hh;done)
   rename_i g1 hg
   cases hh
   simp only[Gd,ho,Option.some.injEq] at hp;subst hp
   have hk:ab X.C X.fn X.aB ops todo (KQ X k) (A X.n (upd o.dst v e) X.D) ⟨X.ro,den w⟩:=hj bW
   show ab X.C X.fn X.aB ops (i::todo) (KQ X k) (A X.n e X.D) ⟨X.ro,den w⟩
   cases g with
   |true=>
    have:=hv.1 bW ops i ho [] (nU hg []) _ (Ext.refl _) todo (KQ X k)
    rw[List.append_nil] at this
    exact this hk
   |false=>
    dsimp only at hv;subst hv
    have:=zf (Q:=KQ X k) (s:=⟨X.ro,den w⟩) (todo:=todo) ho hg []
    rw[List.append_nil] at this
    exact this hk
 |HM ops base Pl Sl k=>
  simp only[qB] at hh
  split at hh<;>try (cases hh;done)
  rename_i i hi
  split at hh<;>try (cases hh;done)
  rename_i o1 ho
  split at hh<;>try (cases hh;done)
  rename_i g1 hg
  cases hh
  simp only[Gd,hi] at hp
  cases hc:(!a8 i (ak Pl)&&(fM (bp ops i) (ak Pl)&&(pe ops (ak Pl)&&(fM (ak Sl) (ak Pl)&& !a8 i (ndK kn.nd))))) with
  |false=>rw[hc] at hp;cases hp
  |true=>
   rw[hc] at hp;simp only[cond_true,Option.some.injEq] at hp;subst hp
   simp only[Bool.and_eq_true,Bool.not_eq_true'] at hc
   have EG:aQ ops i=o.dst:=by simp only[aQ,ho,Option.bind_some]
   intro hpf
   have qR:∀j,j∈ak Sl→i∉bp ops j:=fun j hj hd=>by
    have h1:=bM.1 hc.2.2.2.1 j hj
    have h2:=bM.1 (List.all_eq_true.1 hc.2.2.1 j h1) i hd
    rw[aJ.2 h2] at hc;exact absurd hc.1 (by simp)
   refine Ig i hc.1 hc.2.1 hc.2.2.1 hc.2.2.2.1 ?_ (hj bW ⟨fun j u IA hp s0=>?_,fun j u B IA hB s0 GU u9=>?_⟩)
   ·intro s1 hx rest todo Q hk
    rw[EG] at hk
    cases g with
    |true=>exact hv.1 bW ops _ ho rest (nU hg rest) _ hx _ _ hk
    |false=>dsimp only at hv;subst hv;exact zf ho hg rest hk
   ·have hii:i∉bp ops i:=fun hd=>by
     have h2:=bM.1 hc.2.1 i hd
     rw[aJ.2 h2] at hc;exact absurd hc.1 (by simp)
    rcases List.mem_cons.1 IA with h1|h1
    ·obtain⟨zx,rfl⟩:=Prod.mk.inj h1
     subst zx
     rw[cT hii]
     intro s1 hx rest todo Q hk
     rw[EG] at hk
     cases g with
     |true=>
      have hpk:DC o.op=true:=by
       simp only[sV,ho,cT hii,hg,Bool.or_false] at hp
       exact hp
      exact hv.2 hpk s0 ops _ ho rest (nU hg rest) _ hx _ _ hk
     |false=>dsimp only at hv;subst hv;exact zf ho hg rest hk
    have Oz:j∈ak Sl:=aP.2 ⟨u,h1⟩
    rw[cT (qR j Oz)]
    exact hpf.1 j u h1 (by simp only[sV,cT (qR j Oz)] at hp;exact hp) s0
   rcases List.mem_cons.1 IA with h1|h1
   ·obtain⟨zx,rfl⟩:=Prod.mk.inj h1
    subst zx
    have:=MU hB
    rw[aJ.2 this] at hc;exact absurd hc.2.2.2.2 (by simp)
   rw[cT (qR j (aP.2 ⟨u,h1⟩))]
   exact hpf.2 j u B h1 hB s0 GU u9
 |_=>cases hh
def alg(B:Cells)(v:Value):JS→Option JS
 | ⟨.ops ops (i::todo) k,e,w,kn⟩=>match ops[i]? with
  |some o=>some ⟨.ops ops todo k,upd o.dst v e,w,kn⟩
  |none=>none
 | ⟨.HM ops base Pl Sl k,e,w,kn⟩=>match anM ops (ak Pl) with
  |some i=>bif !a8 i (ak Pl)&&(fM (bp ops i) (ak Pl)&&(pe ops (ak Pl)&&(fM (ak Sl) (ak Pl)&& !a8 i (ndK kn.nd)))) then some ⟨.HM ops base ((i,v)::Pl) ((i,v)::Sl) k,e,w,⟨kn.c,(i,B)::kn.nd⟩⟩ else none
  |none=>none
 |_=>none
theorem jyN{s:JS}{v:Value}(hh:qB X.n s=some (true,o,e))(hp:alg B v s=some s')(hB:∀x∈B,(⟨X.ro,den s.rw⟩:St).has x.1 x.2)(hnp:DC o.op=false)
 (hv:∀s0,Ext ⟨X.ro,[]⟩ s0→(∀x∈B,s0.has x.1 x.2)→Ij X e o s0 v)(hj:J X (some s')):J X (some s):=by
 intro bW
 rcases s with ⟨p,e0,w,kn⟩
 cases p with
 |ops ops todo k=>
  have:Gd v ⟨.ops ops todo k,e0,w,kn⟩=some s':=by
   cases todo with
   |nil=>cases hh
   |cons i todo=>exact hp
  exact jyS hh this ⟨fun _=>hv _ NG hB,fun h=>by rw[hnp] at h;cases h⟩ hj bW
 |HM ops base Pl Sl k=>
  simp only[qB] at hh
  split at hh<;>try (cases hh;done)
  rename_i i hi
  split at hh<;>try (cases hh;done)
  rename_i o1 ho
  split at hh<;>try (cases hh;done)
  rename_i g1 hg
  cases hh
  simp only[alg,hi] at hp
  cases hc:(!a8 i (ak Pl)&&(fM (bp ops i) (ak Pl)&&(pe ops (ak Pl)&&(fM (ak Sl) (ak Pl)&& !a8 i (ndK kn.nd))))) with
  |false=>rw[hc] at hp;cases hp
  |true=>
   rw[hc] at hp;simp only[cond_true,Option.some.injEq] at hp;subst hp
   simp only[Bool.and_eq_true,Bool.not_eq_true'] at hc
   have EG:aQ ops i=o.dst:=by simp only[aQ,ho,Option.bind_some]
   intro hpf
   have qR:∀j,j∈ak Sl→i∉bp ops j:=fun j hj hd=>by
    have h1:=bM.1 hc.2.2.2.1 j hj
    have h2:=bM.1 (List.all_eq_true.1 hc.2.2.1 j h1) i hd
    rw[aJ.2 h2] at hc;exact absurd hc.1 (by simp)
   have hii:i∉bp ops i:=fun hd=>by
    have h2:=bM.1 hc.2.1 i hd
    rw[aJ.2 h2] at hc;exact absurd hc.1 (by simp)
   have bU:∀s0,Ext ⟨X.ro,[]⟩ s0→(∀x∈B,s0.has x.1 x.2)→eT X.C X.fn X.aB ops X.n X.D i v (cq ops base i Pl) s0:=by
    intro s0 GU u9 s1 hx rest todo Q hk
    rw[EG] at hk
    exact hv s0 GU u9 ops _ ho rest (nU hg rest) _ hx _ _ hk
   have aRJ:sV ops X.n base ((i,v)::Pl) i=false:=by
    simp only[sV,ho,hnp,cT hii,hg,Bool.or_false]
   refine Ig i hc.1 hc.2.1 hc.2.2.1 hc.2.2.2.1 (bU _ NG hB) (hj bW ⟨fun j u IA hp s0=>?_,fun j u B' IA hB' s0 GU u9=>?_⟩)
   ·rcases List.mem_cons.1 IA with h1|h1
    ·obtain⟨zx,rfl⟩:=Prod.mk.inj h1
     subst zx
     rw[aRJ] at hp;cases hp
    have Oz:j∈ak Sl:=aP.2 ⟨u,h1⟩
    rw[cT (qR j Oz)]
    exact hpf.1 j u h1 (by simp only[sV,cT (qR j Oz)] at hp;exact hp) s0
   rcases List.mem_cons.1 IA with h1|h1
   ·obtain⟨zx,rfl⟩:=Prod.mk.inj h1
    subst zx
    rw[cT hii]
    rcases List.mem_cons.1 hB' with h2|h2
    ·cases h2;exact bU s0 GU u9
    have:=MU h2
    rw[aJ.2 this] at hc;exact absurd hc.2.2.2.2 (by simp)
   have Oz:j∈ak Sl:=aP.2 ⟨u,h1⟩
   rw[cT (qR j Oz)]
   rcases List.mem_cons.1 hB' with h2|h2
   ·obtain⟨zx,rfl⟩:=Prod.mk.inj h2
    subst zx
    have h3:=bM.1 hc.2.2.2.1 _ Oz
    rw[aJ.2 h3] at hc;exact absurd hc.1 (by simp)
   exact hpf.2 j u B' h1 h2 s0 GU u9
 |_=>cases hh
theorem jy{s:JS}{v:Value}(hh:qB X.n s=some (g,o,e))(hp:Gd v s=some s')
 (hv:match g with|true=>eJ o.op=true∧(Knows X.ro s.kn.c→Yields X.P X.n e o ⟨X.ro,den s.rw⟩ v)∧(DC o.op=true→∀s,Yields X.P X.n e o s v)|false=>v=undef)(hj:J X (some s')):J X (some s):=by
 refine jyS hh hp ?_ hj
 cases g with
 |true=>exact⟨fun bW ops i ho rest hw s' hx todo Q hk=>lT X.hC ho rest hw hv.1 (hv.2.1 bW) hx hk,fun hp s ops i ho rest hw s' hx todo Q hk=>lT X.hC ho rest hw hv.1 (hv.2.2 hp s) hx hk⟩
 |false=>exact hv
end
def yP:List Sg→Nat→Option Sg
 | [],_=>none
 |x::_,0=>some x
 |_::l,i+1=>yP l i
def Tc:List Sg→Nat→Sg→List Sg
 | [],_,_=>[]
 |_::l,0,y=>y::l
 |x::l,i+1,y=>x::Tc l i y
def alB:Cells→Nat→Option (Nat×Obj)
 | [],_=>none
 |x::_,0=>some x
 |_::l,i+1=>alB l i
def Bf(w:List Sg)(kn:Cells)(h:Nat):Option (Nat×List Value):=
 match yP w h with
 |some (.b b (.cells ⟨l⟩ _ _))=>some (b,l)
 |some _=>none
 |none=>match alB kn (h-64) with
  |some (b,.cells ⟨l⟩ _ _)=>some (b,l)
  |_=>none
def acW(P:Program)(n:Nat)(e:Env)(w:List Sg)(h:Nat):Op→Option (List Sg×Nat×Nat)
 | .store T x y=>match bn n e x with
  |some (.pointer (some ⟨b,off,none⟩))=>match bn n e y with
   |some v=>match yP w h with
    |some (.b b' (.cells ⟨c⟩ t (0,0)))=>match aY P T with
     |some ti=>bif Nat.beq (ek v).length ti.size&&(Nat.ble (off+(ek v).length) c.length&&(ek v).all single) then some (Tc w h (.b b' (.cells ⟨dC c off (ek v)⟩ t (0,0))),b,b') else none
     |none=>none
    |_=>none
   |none=>none
  |_=>none
 |_=>none
abbrev aqI:=Option (JS×List Nat×List (Nat×Nat))
def awK(n:Nat)(e:Env)(k:List KI):Code→Option Pos
 | .skip=>some (PC k)
 | .seq a b=>some (.code a (.seq b::k))
 | .block id c=>some (.code c (.block id::k))
 | .region _ ops d=>bif d then (bif zl ops then some (.HM ops e [] [] k) else none) else some (.ops ops (List.range ops.size) k)
 | .exit id=>A5 id k
 | .ret=>some (.fin .ret)
 | .scope c=>some (.code c k)
 | .label _=>some (PC k)
 | .cond c a b=>match bn n e c with
  |some (.bool true)=>some (.code a k)
  |some (.bool false)=>some (.code b k)
  |_=>none
 |_=>none
def aiz(ops:Array Oper)(Pl:List (Nat×Value)):Bool:=fL ops&&(nodupB (ak Pl)&&(fM (List.range ops.size) (ak Pl)&&fM (ak Pl) (List.range ops.size)))
def opJ(P:Program)(n:Nat)(hs:List Nat)(s:JS):aqI:=
 match qB n s with
 |some (g,o,e)=>bif g then (match o.op with
  | .store .. =>match s,hs with
   | ⟨.ops ops (_::todo) k,_,w,kn⟩,h::hs=>match acW P n e w h o.op with
    |some (w',b,b')=>some (⟨.ops ops todo k,upd o.dst undef e,w',kn⟩,hs,[(b,b')])
    |none=>none
   |_,_=>none
  | .load T x=>match hs with
   |h::hs=>match bn n e x with
    |some (.pointer (some ⟨b,off,none⟩))=>match Bf s.rw s.kn.c h with
     |some (b',l)=>match ldv P T l off with
      |some v=>match Gd v s with
       |some s'=>some (s',hs,[(b',b)])
       |none=>none
      |none=>none
     |none=>none
    |_=>none
   | []=>none
  |_=>bif eJ o.op then (match aco P n e o with
   |some v=>match Gd v s with
    |some s'=>some (s',hs,[])
    |none=>none
   |none=>none) else none) else (match Gd undef s with
  |some s'=>some (s',hs,[])
  |none=>none)
 |none=>none
def stepJ(P:Program)(n:Nat)(hs:List Nat)(s:JS):aqI:=
 match s.pos with
 | .ops _ [] k=>some (⟨PC k,s.env,s.rw,s.kn⟩,hs,[])
 | .code c k=>match awK n s.env k c with
  |some p=>some (⟨p,s.env,s.rw,⟨s.kn.c,[]⟩⟩,hs,[])
  |none=>none
 | .HM ops base Pl _ k=>match anM ops (ak Pl) with
  |none=>bif aiz ops Pl then some (⟨PC k,jA ops base Pl,s.rw,s.kn⟩,hs,[]) else none
  |some _=>opJ P n hs s
 |_=>opJ P n hs s
section
variable {X:Cx}
theorem Ao:∀ {w:List Sg} {h b:Nat} {o:Obj},yP w h=some (.b b o)→∃L R,den w=L++(b,o)::R∧∀o',den (Tc w h (.b b o'))=L++(b,o')::R
 | [],_,_,_,h=>by cases h
 |x::w,0,b,o,h=>by
  simp only[yP,Option.some.injEq] at h;subst h
  exact⟨[],den w,by simp[iQ],fun o'=>by simp[Tc,iQ]⟩
 |x::w,i+1,b,o,h=>by
  obtain⟨L,R,h1,h2⟩:=Ao (w:=w) (h:=i) h
  cases x with
  |b i' o1=>exact⟨(i',o1)::L,R,by simp[iQ,h1],fun o'=>by simp[Tc,iQ,h2]⟩
  |l L1=>exact⟨L1++L,R,by simp[gF,h1],fun o'=>by simp[Tc,gF,h2]⟩
theorem P6:∀ {l:Cells} {i:Nat} {x:Nat×Obj},alB l i=some x→x∈l
 | [],_,_,h=>by cases h
 |y::l,0,x,h=>by simp only[alB,Option.some.injEq] at h;subst h;exact List.mem_cons_self
 |y::l,i+1,x,h=>List.mem_cons_of_mem _ (P6 (l:=l) h)
theorem zm{w:List Sg}{kn:Cells}{h b:Nat}(hk:Knows X.ro kn)(hc:Bf w kn h=some (b,l)):∃t fz,(⟨X.ro,den w⟩:St).has b (.cells ⟨l⟩ t fz):=by
 unfold Bf at hc
 split at hc
 ·rename_i hn
  cases hc
  obtain⟨L,R,h1,_⟩:=Ao hn
  exact⟨_,_,.inr (by show (_,_)∈den w;rw[h1];exact fE)⟩
 ·cases hc
 split at hc<;>try (cases hc;done)
 rename_i hn
 cases hc
 exact⟨_,_,.inl (hk _ (P6 hn))⟩
theorem anO{w:List Sg}{k:List KI}{c:Code}{p:Pos}(h:awK X.n e k c=some p)(hj:JP X ⟨kn.c,[]⟩ e w p):JP X kn e w (.code c k):=by
 unfold awK at h
 split at h
 ·cases h;exact wp_skip X.hC (tT hj)
 ·cases h;exact wp_seq X.hC hj
 ·cases h;exact wp_block X.hC hj
 ·rename_i id ops d
  cases d with
  |true=>
   simp only[cond_true] at h
   cases hd:zl ops with
   |false=>rw[hd] at h;cases h
   |true=>
    rw[hd] at h;simp only[cond_true,Option.some.injEq] at h;subst h
    exact abm X.hC X.hm hd (hj ⟨fun _ _ h=>(List.not_mem_nil h).elim,fun _ _ _ h=>(List.not_mem_nil h).elim⟩)
  |false=>simp only[cond_false,Option.some.injEq] at h;subst h;exact wp_region X.hC hj
 ·exact wp_exit X.hC (wH h hj)
 ·cases h;exact wp_ret (Ap hj k)
 ·cases h;exact OL X.hC hj
 ·cases h;exact wp_label X.hC (tT hj)
 ·split at h<;>try (cases h;done)
  ·rename_i hc;cases h;exact V1 X.hC hc rfl hj
  rename_i hc;cases h;exact V2 X.hC hc rfl hj
 cases h
theorem ad4{s:JS}{q:List (Nat×Nat)}(h:opJ X.P X.n hs s=some (s',nu,q))(hq:∀p∈q,p.1=p.2)(hj:J X (some s')):J X (some s):=by
 unfold opJ at h
 split at h<;>try (cases h;done)
 rename_i g o e hh
 cases g with
 |false=>
  simp only[cond_false] at h
  split at h<;>try (cases h;done)
  rename_i s1 hp
  cases h
  exact jy hh hp rfl hj
 |true=>
  simp only[cond_true] at h
  split at h
  ·rename_i T x y aA
   split at h<;>try (cases h;done)
   rename_i ops i todo k e1 w kn h0 hsx
   split at h<;>try (cases h;done)
   rename_i w' b b' bU
   cases h
   have Jr:b=b':=hq _ List.mem_cons_self
   subst Jr
   simp only[qB] at hh
   split at hh<;>try (cases hh;done)
   rename_i o1 ho
   split at hh<;>try (cases hh;done)
   rename_i g1 hg
   simp only[Option.some.injEq,Prod.mk.injEq] at hh
   obtain⟨rfl,rfl,rfl⟩:=hh
   intro bW
   have hj:=hj bW
   rw[aA] at bU
   simp only[acW] at bU
   split at bU<;>try (cases bU;done)
   rename_i b0 off hx
   split at bU<;>try (cases bU;done)
   rename_i v hy
   split at bU<;>try (cases bU;done)
   rename_i b1 c t hn
   split at bU<;>try (cases bU;done)
   rename_i ti dV
   cases hc:(Nat.beq (ek v).length ti.size&&(Nat.ble (off+(ek v).length) c.length&&(ek v).all single)) with
   |false=>rw[hc] at bU;cases bU
   |true=>
    rw[hc] at bU
    simp only[cond_true,Option.some.injEq,Prod.mk.injEq] at bU
    obtain⟨rfl,rfl,rfl⟩:=bU
    simp only[Bool.and_eq_true,Nat.ble_eq] at hc
    obtain⟨bC,tf⟩:=av dV
    obtain⟨L,R,h1,h2⟩:=Ao hn
    rcases o1 with ⟨dst,op,ty,pos,c8,gd⟩
    dsimp only at aA;subst aA
    have hw:=nU hg []
    rw[List.append_nil] at hw
    refine E7 (v:=v) (l:=ek v) (L:=L) (R:=R) (c:=c) (e:=t) X.hC ho hw tf hx hy (by rw[my]) (Nat.eq_of_beq_eq_true hc.1) (List.all_eq_true.1 hc.2.2) h1 hc.2.1 ?_
    have hj:ab X.C X.fn X.aB ops todo (KQ X k) _ ⟨X.ro,den _⟩:=hj
    rw[h2] at hj
    exact hj
  ·rename_i T x aA
   split at h<;>try (cases h;done)
   rename_i h0 bY
   split at h<;>try (cases h;done)
   rename_i b off hx
   split at h<;>try (cases h;done)
   rename_i b' l hc
   split at h<;>try (cases h;done)
   rename_i v hv
   split at h<;>try (cases h;done)
   rename_i s1 hp
   cases h
   have Jr:b'=b:=hq _ List.mem_cons_self
   subst Jr
   refine jy hh hp ⟨by rw[aA];rfl,fun bW=>?_,fun hk=>by rw[aA] at hk;cases hk⟩ hj
   obtain⟨t,fz,hb⟩:=zm bW hc
   exact aeO aA hx hb hv
  cases hn:eJ o.op with
  |false=>rw[hn] at h;cases h
  |true=>
   rw[hn] at h;simp only[cond_true] at h
   split at h<;>try (cases h;done)
   rename_i v hv
   split at h<;>try (cases h;done)
   rename_i s1 hp
   cases h
   exact jy hh hp ⟨hn,fun _=>Ah hv,fun _ _=>Ah hv⟩ hj
theorem acX{s:JS}{q:List (Nat×Nat)}(h:stepJ X.P X.n hs s=some (s',nu,q))(hq:∀p∈q,p.1=p.2)(hj:J X (some s')):J X (some s):=by
 unfold stepJ at h
 split at h
 ·rename_i ops k hp
  cases h
  rcases s with ⟨p,e,w,kn⟩
  dsimp only at hp;subst hp
  exact fun bW=>tW X.hC (tT (hj bW))
 ·rename_i c k hp
  rcases s with ⟨p,e,w,kn⟩
  dsimp only at hp;subst hp
  split at h<;>try (cases h;done)
  rename_i p hc
  cases h
  exact fun bW=>anO hc (hj bW)
 ·rename_i ops base Pl Sl k hp
  split at h
  ·cases hd:aiz ops Pl with
   |false=>rw[hd] at h;cases h
   |true=>
    rw[hd] at h;simp only[cond_true,Option.some.injEq,Prod.mk.injEq] at h
    obtain⟨rfl,rfl,rfl⟩:=h
    rcases s with ⟨p,e,w,kn⟩
    dsimp only at hp;subst hp
    simp only[aiz,Bool.and_eq_true] at hd
    exact fun bW _=>aja X.hC hd.1 hd.2.1 hd.2.2.1 hd.2.2.2 (tT (hj bW))
  exact ad4 h hq hj
 exact ad4 h hq hj
end
def abt(P:Program)(n:Nat):Nat→List Nat→JS→List (Nat×Nat)→Option (JS×List (Nat×Nat))
 |0,_,s,q=>some (s,q)
 |k+1,hs,s,q=>match stepJ P n hs s with
  |some (s',nu,q')=>abt P n k nu s' (q'++q)
  |none=>none
def adv(P:Program)(n k:Nat)(hs:List Nat):Option JS→Option (JS×List (Nat×Nat))
 |some s=>abt P n k hs s []
 |none=>none
def res:Option (JS×List (Nat×Nat))→Option JS
 |some (s,_)=>some s
 |none=>none
def U6:List (Nat×Nat)→List Nat
 | []=>[]
 | (a,_)::l=>a::U6 l
def S9:List (Nat×Nat)→List Nat
 | []=>[]
 | (_,b)::l=>b::S9 l
def lhs:Option (JS×List (Nat×Nat))→List Nat
 |some (_,q)=>U6 q
 |none=>[0]
def rhs:Option (JS×List (Nat×Nat))→List Nat
 |some (_,q)=>S9 q
 |none=>[1]
theorem mv:∀ {q:List (Nat×Nat)},U6 q=S9 q→∀p∈q,p.1=p.2
 | (a,b)::l,h,p,hp=>by
  simp only[U6,S9,List.cons.injEq] at h
  rcases List.mem_cons.1 hp with rfl|hp
  ·exact h.1
  exact mv h.2 p hp
theorem YO:∀ {k:Nat} {hs:List Nat} {s s':JS} {q q':List (Nat×Nat)},abt X.P X.n k hs s q=some (s',q')→(∀p∈q',p.1=p.2)→(J X (some s')→J X (some s))∧∀p∈q,p∈q'
 |0,_,_,_,_,_,h,_=>by simp only[abt,Option.some.injEq,Prod.mk.injEq] at h;obtain⟨rfl,rfl⟩:=h;exact⟨id,fun _ h=>h⟩
 |k+1,hs,s,s',q,q',h,hq=>by
  simp only[abt] at h
  split at h<;>try (cases h;done)
  rename_i s1 bY q1 bU
  obtain⟨h1,h2⟩:=YO h hq
  exact⟨fun hj=>acX bU (fun p hp=>hq p (h2 p (List.mem_append_left _ hp))) (h1 hj),fun p hp=>h2 p (List.mem_append_right _ hp)⟩
theorem jd{o:Option JS}(k:Nat)(hs:List Nat)(h:J X (res (adv X.P X.n k hs o)))(he:lhs (adv X.P X.n k hs o)=rhs (adv X.P X.n k hs o):=by kernel_rfl):J X o:=by
 cases o with
 |none=>exact h
 |some s=>
  simp only[adv] at he h
  cases hc:abt X.P X.n k hs s [] with
  |none=>rw[hc] at h;exact h.elim
  |some x=>
   rcases x with ⟨s',q⟩
   rw[hc] at he h
   exact(YO hc (mv he)).1 h
attribute [irreducible] adv res lhs rhs
def dI(n:Nat)(f:Oper→Env→Option β):Option JS→Option β
 |some s=>match qB n s with
  |some (true,p,e)=>f p e
  |_=>none
 |none=>none
def kp(v:Value):Option JS→Option JS
 |some s=>Gd v s
 |none=>none
def PE:List Nat→List Sg→Option (List Sg)
 | [],_=>some []
 |i::is,w=>match yP w i with
  |some x=>match PE is w with
   |some r=>some (x::r)
   |none=>none
  |none=>none
def dF(is:List Nat):Nat→List Sg→List Sg
 |_,[]=>[]
 |k,x::w=>bif a8 k is then dF is (k+1) w else x::dF is (k+1) w
def Gr:List Nat→Bool
 | []=>true
 |i::is=> !a8 i is&&Gr is
def rh(is:List Nat):Option JS→Option (List Sg)
 |some s=>bif Gr is then PE is s.rw else none
 |none=>none
def ei(is:List Nat)(o:Option JS):Option Cells:=match rh is o with
 |some w=>some (den w)
 |none=>none
def lkE:List Nat→Env→Option Env
 | [],_=>some []
 |t::ts,e=>match gY e t with
  |some v=>match lkE ts e with
   |some r=>some ((t,v)::r)
   |none=>none
  |none=>none
def pF:Env→List Nat
 | []=>[]
 | (t,_)::e=>t::pF e
def uM(ts:List Nat):Option JS→Option Env
 |some s=>lkE ts s.env
 |none=>none
theorem tb{ts:List Nat}{s:JS}:uM ts (some s)=lkE ts s.env:=rfl
theorem kO:∀ {ts:List Nat} {r:Env},lkE ts e=some r→kX e r
 | [],r,h=>by simp only[lkE,Option.some.injEq] at h;subst h;trivial
 |t::ts,r,h=>by
  simp only[lkE] at h
  split at h<;>try (cases h;done)
  rename_i v hv
  split at h<;>try (cases h;done)
  rename_i r' hr
  cases h
  exact⟨hv,kO hr⟩
theorem lM:∀(a b:List Sg),den (a++b)=den a++den b
 | [],b=>rfl
 | .b i o::a,b=>by simp[iQ,lM a b]
 | .l L::a,b=>by simp[gF,lM a b]
theorem xA:∀(w:List Sg) (k:Nat),dF [] k w=w
 | [],_=>rfl
 |x::w,k=>by simp[dF,a8,xA w (k+1)]
theorem HN:∀ {w:List Sg} {i k:Nat} {is:List Nat} {x:Sg},yP w i=some x→a8 (k+i) is=false→(den (dF is k w)).Perm (den [x]++den (dF ((k+i)::is) k w))
 | [],_,_,_,_,h,_=>by cases h
 |y::w,0,k,is,x,h,hi=>by
  simp only[yP,Option.some.injEq] at h;subst h
  have hz:∀(w:List Sg) (j:Nat),k <j→dF (k::is) j w=dF is j w:=by
   intro w
   induction w with
   |nil=>intro j _;rfl
   |cons z w ih=>
    intro j hj
    have:Nat.beq j k=false:=beq_false (by omega)
    simp only[dF,a8,this,Bool.false_or,ih (j+1) (by omega)]
  simp only[Nat.add_zero] at hi ⊢
  simp only[dF,hi,cond_false,a8,Nat.beq_refl,Bool.true_or,cond_true,hz w (k+1) (by omega)]
  cases y with
  |b i o=>rw[iQ];exact .refl _
  |l L=>rw[gF];exact .refl _
 |y::w,i+1,k,is,x,h,hi=>by
  have e:k+(i+1)=(k+1)+i:=by omega
  rw[e] at hi ⊢
  have hr:=HN (w:=w) (k:=k+1) (is:=is) h hi
  have dX:Nat.beq k ((k+1)+i)=false:=beq_false (by omega)
  simp only[dF,a8,dX,Bool.false_or]
  cases a8 k is with
  |true=>simp only[cond_true];exact hr
  |false=>
   simp only[cond_false]
   cases y with
   |b i' o=>rw[iQ,iQ];exact(hr.cons _).trans List.perm_middle.symm
   |l L=>
    rw[gF,gF]
    refine(hr.append_left L).trans ?_
    rw[←List.append_assoc,←List.append_assoc]
    exact List.Perm.append_right _ List.perm_append_comm
theorem xk{w:List Sg}:∀ {is:List Nat} {r:List Sg},PE is w=some r→Gr is=true→(den w).Perm (den r++den (dF is 0 w))
 | [],r,h,_=>by simp only[PE,Option.some.injEq] at h;subst h;rw[xA];exact .refl _
 |i::is,r,h,ho=>by
  simp only[PE] at h
  split at h<;>try (cases h;done)
  rename_i x hx
  split at h<;>try (cases h;done)
  rename_i r' hr
  cases h
  simp only[Gr,Bool.and_eq_true,Bool.not_eq_true'] at ho
  have h1:=xk hr ho.2
  have h2:=HN (k:=0) (is:=is) hx (by rw[Nat.zero_add];exact ho.1)
  rw[Nat.zero_add] at h2
  refine h1.trans ((List.Perm.append_left _ h2).trans ?_)
  have:den (x::r')=den [x]++den r':=by rw[←lM];rfl
  rw[this,←List.append_assoc]
  exact List.Perm.append_right _ List.perm_append_comm
theorem lS{is:List Nat}{s:JS}{w:List Sg}(h:rh is (some s)=some w):(den s.rw).Perm (den w++den (dF is 0 s.rw)):=by
 simp only[rh] at h
 cases ho:Gr is with
 |false=>rw[ho] at h;cases h
 |true=>rw[ho] at h;exact xk h ho
theorem bI{is:List Nat}{s:JS}{L:Cells}(h:ei is (some s)=some L):(den s.rw).Perm (L++den (dF is 0 s.rw)):=by
 simp only[ei] at h
 split at h<;>try (cases h;done)
 rename_i w hw
 cases h
 exact lS hw
theorem RF{is:List Nat}{s:JS}{L:Cells}(h:ei is (some s)=some L):∀x∈L,(⟨X.ro,den s.rw⟩:St).has x.1 x.2:=fun x hx=> .inr ((bI h).mem_iff.2 (List.mem_append_left _ hx))
section
variable {X:Cx} {o:Option JS}
theorem sE{f:Oper→Env→Option β}{r:β}(h:dI n f o=some r):∃s p e,o=some s∧qB n s=some (true,p,e)∧f p e=some r:=by
 unfold dI at h
 split at h<;>try (cases h;done)
 rename_i s
 split at h<;>try (cases h;done)
 rename_i p e hh
 exact⟨s,p,e,rfl,hh,h⟩
theorem jG{v:Value}{f:Oper→Env→Option β}{r:β}(h:dI X.n f o=some r)(hy:∀s p e,o=some s→qB X.n s=some (true,p,e)→f p e=some r→eJ p.op=true∧(Knows X.ro s.kn.c→Yields X.P X.n e p ⟨X.ro,den s.rw⟩ v)∧(DC p.op=true→∀s,Yields X.P X.n e p s v))(hj:J X (kp v o)):J X o:=by
 obtain⟨s,p,e,rfl,hh,hf⟩:=sE h
 obtain⟨h1,h2,h3⟩:=hy s p e rfl hh hf
 simp only[kp] at hj
 cases hp:Gd v s with
 |none=>rw[hp] at hj;exact hj.elim
 |some s'=>rw[hp] at hj;exact jy hh hp ⟨h1,h2,h3⟩ hj
theorem jGS{v:Value}{f:Oper→Env→Option β}{r:β}(h:dI X.n f o=some r)(hy:∀s p e,o=some s→f p e=some r→Ij X e p ⟨X.ro,den s.rw⟩ v∧(DC p.op=true→∀s,Ij X e p s v))(hj:J X (kp v o)):J X o:=by
 obtain⟨s,p,e,rfl,hh,hf⟩:=sE h
 simp only[kp] at hj
 cases hp:Gd v s with
 |none=>rw[hp] at hj;exact hj.elim
 |some s'=>rw[hp] at hj;exact jyS hh hp ⟨fun _=>(hy s p e rfl hf).1,(hy s p e rfl hf).2⟩ hj
def MG(B:Cells)(v:Value):Option JS→Option JS
 |some s=>alg B v s
 |none=>none
theorem jGN{v:Value}{f:Oper→Env→Option β}{r:β}(h:dI X.n f o=some r)(hB:ei ps o=some B)(hy:∀s p e,o=some s→qB X.n s=some (true,p,e)→f p e=some r→DC p.op=false∧∀s0,Ext ⟨X.ro,[]⟩ s0→(∀x∈B,s0.has x.1 x.2)→Ij X e p s0 v)(hj:J X (MG B v o)):J X o:=by
 obtain⟨s,p,e,rfl,hh,hf⟩:=sE h
 obtain⟨h1,h2⟩:=hy s p e rfl hh hf
 simp only[MG] at hj
 cases hp:alg B v s with
 |none=>rw[hp] at hj;exact hj.elim
 |some s'=>rw[hp] at hj;exact jyN hh hp (RF hB) h1 h2 hj
theorem So{v:Value}{f:Oper→Env→Option β}{r:β}(h:dI X.n f o=some r)(hy:∀s p e,o=some s→f p e=some r→∀s0,Ij X e p s0 v)(hj:J X (kp v o)):J X o:=
 jGS h (fun s p e ho hf=>⟨hy s p e ho hf _,fun _=>hy s p e ho hf⟩) hj
def arc(P:Program)(n:Nat)(p:Oper)(e:Env):Option Value:=bif eJ p.op then aco P n e p else none
theorem je(v:Value){w:Value}(hw:w=v)(hj:J X (kp v o))(hv:dI X.n (arc X.P X.n) o=some w:=by kernel_rfl):J X o:=by
 subst hw
 refine jG hv (fun s p e _ _ hf=>?_) hj
 unfold arc at hf
 cases hn:eJ p.op with
 |false=>rw[hn] at hf;cases hf
 |true=>rw[hn] at hf;exact⟨rfl,fun _=>Ah hf,fun _ _=>Ah hf⟩
theorem ja(r:Int)(h: -9223372036854775808≤r∧r≤9223372036854775807)(hj:J X (kp (.int .i64 r) o))(hv:dI X.n (arc X.P X.n) o=some (.int .i64 (IntKind.i64.wrap r)):=by kernel_rfl):J X o:=je _ (by rw[kG r h]) hj hv
def ldA(P:Program)(n k:Nat)(vs:List Value)(p:Oper)(e:Env):Option (Option Addr):=match p.op with
 | .load T x=>match ldv P T vs k with
  |some _=>match bn n e x with
   |some (.pointer a)=>some a
   |_=>none
  |none=>none
 |_=>none
def ldW(P:Program)(n k:Nat)(vs:List Value)(o:Option JS):Value:=(dI n (fun p _=>match p.op with
 | .load T _=>ldv P T vs k
 |_=>none) o).getD undef
theorem nS{b m:Nat}(k:Nat)(ps:List Nat)(B:Cells)(hr:∀s:St,Ext ⟨X.ro,[]⟩ s→(∀x∈B,s.has x.1 x.2)→cB s b off m vs)(hj:J X (MG B (ldW X.P X.n k vs o) o))(hv:dI X.n (ldA X.P X.n k vs) o=some (some ⟨b,off+k,none⟩):=by kernel_rfl)(hB:ei ps o=some B:=by kernel_rfl):J X o:=by
 refine jGN hv hB (fun s p e ho hh hf=>?_) hj
 subst ho
 unfold ldA at hf
 split at hf<;>try (cases hf;done)
 rename_i T x aA
 split at hf<;>try (cases hf;done)
 rename_i v hv2
 split at hf<;>try (cases hf;done)
 rename_i a hx
 simp only[Option.some.injEq] at hf;subst hf
 have hw:ldW X.P X.n k vs (some s)=v:=by simp only[ldW,dI,hh,aA,hv2,Option.getD_some]
 rw[hw]
 exact⟨by rw[aA];rfl,fun s0 GU u9 ops i ho rest hwt s' hs todo Q hk=>lT X.hC ho rest hwt (by rw[aA];rfl) (as7 k aA hx (hr s0 GU u9) hv2) hs hk⟩
theorem jl{b m:Nat}(k:Nat)(hr:cB ⟨X.ro,[]⟩ b off m vs)(hj:J X (MG [] (ldW X.P X.n k vs o) o))(hv:dI X.n (ldA X.P X.n k vs) o=some (some ⟨b,off+k,none⟩):=by kernel_rfl):J X o:=by
 have hB:ei [] o=some []:=by
  obtain⟨s,_,_,rfl,_⟩:=sE hv
  rfl
 exact nS k [] [] (fun s hs _=>hr.ext hs) hj hv hB
def ixA(P:Program)(n:Nat)(p:Oper)(e:Env):Option (Value×Int×Nat):=match p.op with
 | .indexAddr T x y=>match aY P T with
  |some ⟨.slice E,_,_,_⟩=>match aY P E with
   |some te=>match bn n e x with
    |some v=>match bn n e y with
     |some (.int _ ix)=>some (v,ix,te.size)
     |_=>none
    |none=>none
   |none=>none
  |_=>none
 |_=>none
theorem jix{a:Option Addr}{b len:Nat}(ix:Int)(cap sz:Nat)(ha:a=some ⟨b,off,none⟩)(hi:0≤ix∧ix <len)(hj:J X (kp (.pointer (some ⟨b,off+ix.toNat*sz,none⟩)) o))(hv:dI X.n (ixA X.P X.n) o=some (.slice a len cap,ix,sz):=by kernel_rfl):J X o:=by
 refine jG hv (fun s p e ho hh hf=>?_) hj
 unfold ixA at hf
 split at hf<;>try (cases hf;done)
 rename_i T x y aA
 split at hf<;>try (cases hf;done)
 rename_i E _ _ _ dV
 split at hf<;>try (cases hf;done)
 rename_i te ui
 split at hf<;>try (cases hf;done)
 rename_i v hx
 split at hf<;>try (cases hf;done)
 rename_i ik ix' hy
 simp only[Option.some.injEq,Prod.mk.injEq] at hf
 obtain⟨rfl,rfl,rfl⟩:=hf
 subst ha
 obtain⟨bC,tf⟩:=av dV
 obtain⟨Bh,qT⟩:=av ui
 have key:∀s,Yields X.P X.n e p s (.pointer (some ⟨b,off+ix'.toNat*te.size,none⟩)):=by
  intro s s' nu f hf K E hK
  simp only[execOp,aA,Instr.indexAt,hf _ _ hx,hf _ _ hy,asIntOf,aa,ae,aZ tf,hi,and_self,if_true,cg qT,dR]
  exact hK
 exact⟨by rw[aA];rfl,fun _=>key _,fun _=>key⟩
theorem iA{ps:List α}{b:Nat}{x:α}{a:Option Addr}(cap sz:Nat)(ha:∀k,k <ps.length→a=some ⟨b,off,none⟩)(hx:ps[k]?=some x) (hj:J X (kp (.pointer (some ⟨b,off+k*sz,none⟩)) o)) (hv:dI X.n (ixA X.P X.n) o=some (.slice a ps.length cap,(k:Int),sz):=by kernel_rfl):J X o:=
 have hk:k <ps.length:=(List.getElem?_eq_some_iff.1 hx).1
 jix (k:Int) cap sz (ha k hk) (by omega) hj hv
theorem Oq{ps:List α}{b:Nat}{x:α}{a:Option Addr}(ix:Int)(cap sz:Nat)(ha:∀k,k <ps.length→a=some ⟨b,off,none⟩)(hx:ps[k]?=some x) (he:ix=(k:Int)) (hj:J X (kp (.pointer (some ⟨b,off+k*sz,none⟩)) o)) (hv:dI X.n (ixA X.P X.n) o=some (.slice a ps.length cap,ix,sz):=by kernel_rfl):J X o:=by
 subst he;exact iA cap sz ha hx hj hv
theorem T5{v:Value}{enc:α→List Value}{ps:List α}{L:Cells}{x:α}(sz:Nat)(kQ:az v szo T2 enc ps L)(hx:ps[k]?=some x) (hj:∀b,Oc v b→J X (kp (.pointer (some ⟨b,k*sz,none⟩)) o)) (hv:dI X.n (ixA X.P X.n) o=some (v,(k:Int),sz):=by kernel_rfl):J X o:=by
 have hk:k <ps.length:=(List.getElem?_eq_some_iff.1 hx).1
 obtain⟨b,hb⟩:=aA1 kQ hk
 have fY:=hb
 obtain⟨n0,c,rfl⟩:=fY
 have hn:n0=ps.length:=by
  obtain⟨a,c',he⟩:=kQ.form
  cases he;rfl
 subst hn
 have hj:=hj b hb
 exact jix (off:=0) (k:Int) c sz rfl (by omega) (by rw[Nat.zero_add];exact hj) hv
theorem pP{v:Value}{enc:α→List Value}{ps:List α}{L:Cells}{x:α}(ix:Int)(sz:Nat)(kQ:az v szo T2 enc ps L)(hx:ps[k]?=some x) (he:ix=(k:Int)) (hj:∀b,Oc v b→J X (kp (.pointer (some ⟨b,k*sz,none⟩)) o)) (hv:dI X.n (ixA X.P X.n) o=some (v,ix,sz):=by kernel_rfl):J X o:=by
 subst he;exact T5 sz kQ hx hj hv
end
attribute [irreducible] dI kp MG ei rh uM ldW
section
variable {X:Cx} {o:Option JS}
theorem Oi{D:List Deferred}{t:Nat}{v:Value}(h:gY e t=some v):A n ((t,v)::e) D=A n e D:=by
 simp only[A]
 congr 1
 congr 1
 funext i
 simp only[get]
 cases hb:Nat.beq t i with
 |false=>rfl
 |true=>
  have:=Nat.eq_of_beq_eq_true hb
  subst this
  exact(mX h).symm
def Pm(j:Nat)(v:Value):List (Nat×Value)→List (Nat×Value)
 | []=>[]
 | (i,w)::r=>bif Nat.beq i j then (i,v)::r else (i,w)::Pm j v r
theorem FV{j:Nat}{v:Value}:∀ {l:List (Nat×Value)},PD l j=some v→Pm j v l=l
 | (i,w)::r,h=>by
  simp only[PD] at h
  simp only[Pm]
  cases hb:Nat.beq i j with
  |true=>rw[hb] at h;simp only[cond_true,Option.some.injEq] at h;subst h;rfl
  |false=>rw[hb] at h;simp only[cond_false] at h ⊢;rw[FV h]
def aoZ(t:Nat):JS→Option Value
 | ⟨.HM _ _ Pl _ _,_,_,_⟩=>PD Pl t
 |s=>gY s.env t
def JW(t:Nat):Option JS→Option Value
 |some s=>aoZ t s
 |none=>none
def Zl(t:Nat)(v:Value):JS→JS
 | ⟨.HM ops base Pl Sl k,e,w,kn⟩=>⟨.HM ops base (Pm t v Pl) Sl k,e,w,kn⟩
 | ⟨p,e,w,kn⟩=>⟨p,(t,v)::e,w,kn⟩
def Pn(t:Nat)(v:Value):Option JS→Option JS
 |some s=>some (Zl t v s)
 |none=>none
theorem jw(t:Nat)(v:Value){w:Value}(hw:w=v)(hj:J X (Pn t v o))(hv:JW t o=some w:=by kernel_rfl):J X o:=by
 subst hw
 cases o with
 |none=>exact hj
 |some s=>
  rcases s with ⟨p,e,IT,kn⟩
  intro bW
  have hj:=hj
  cases p with
  |HM ops base Pl Sl k=>
   simp only[JW,aoZ] at hv
   have:Pm t w Pl=Pl:=FV hv
   simp only[Pn,Zl,this] at hj
   exact hj bW
  |ops a b c=>have:=hj bW;simp only[Zl,JP] at this;rw[Oi hv] at this;exact this
  |code a b=>have:=hj bW;simp only[Zl,JP] at this;rw[Oi hv] at this;exact this
  |nxt a=>have:=hj bW;simp only[Zl,JP] at this;rw[Oi hv] at this;exact this
  |fin a=>have:=hj bW;simp only[Zl,JP] at this;rw[Oi hv] at this;exact this
theorem ji(t:Nat){c b:Bool}(h:c=b)(hj:J X (Pn t (.bool b) o))(hv:JW t o=some (.bool c):=by kernel_rfl):J X o:=jw t _ (by rw[h]) hj hv
theorem js(t:Nat)(c:Bool)(h1:c=true→J X (Pn t (.bool true) o))(h2:c=false→J X (Pn t (.bool false) o))(hv:JW t o=some (.bool c):=by kernel_rfl):J X o:=by
 cases hc:c with
 |true=>exact ji t hc (h1 hc) hv
 |false=>exact ji t hc (h2 hc) hv
def aBn(P:Program)(n:Nat)(p:Oper)(e:Env):Option (Obj×Option Nat):=match p.op with
 | .alloc T=>match aY P T with
  |some ti=>some (.cells ⟨ti.zero⟩ T (0,0),none)
  |none=>none
 | .box T x=>match bn n e x with
  |some v=>some (.cells ⟨ek v⟩ T (0,0),none)
  |none=>none
 | .buildSlice T m ps=>match aY P T with
  |some ⟨.slice E,_,_,_⟩=>match aY P E with
   |some te=>match OB n e ps.toList with
    |some pv=>match oP (fun i=>some (i*te.size,te.size)) (cX te.zero m) (tU pv) with
     |some l=>bif Nat.beq te.zero.length te.size&&Nat.ble (m*te.size) 16777216 then some (.cells ⟨l⟩ E (0,0),some m) else none
     |none=>none
    |none=>none
   |none=>none
  |_=>none
 | .range T x=>match aY P T with
  |some ⟨.string,_,_,_⟩=>match bn n e x with
   |some (.string b)=>some (.stringIter b 0,none)
   |_=>none
  |_=>none
 |_=>none
def aen(b:Nat):Option Nat→Value
 |some m=> .slice (some ⟨b,0,none⟩) m m
 |none=> .pointer (some ⟨b,0,none⟩)
def asN(P:Program)(n b:Nat):Option JS→Option JS
 |some ⟨.ops ops (i::todo) k,e,w,kn⟩=>match qB n ⟨.ops ops (i::todo) k,e,w,kn⟩ with
  |some (true,p,_)=>match aBn P n p e with
   |some (ob,m)=>some ⟨.ops ops todo k,upd p.dst (aen b m) e,.b b ob::w,kn⟩
   |none=>none
  |_=>none
 |_=>none
theorem Q0{ops:Array Oper}{k:List KI}{e':Env}{w:List Sg}(h:qB n ⟨.ops ops (i::todo) k,e,w,kn⟩=some (g,p,e')):ops[i]?=some p∧e'=e∧(g=true→ax ops n e p.guard=true):=by
 simp only[qB] at h
 split at h<;>try (cases h;done)
 rename_i p1 ho
 split at h<;>try (cases h;done)
 rename_i g1 hg
 cases h
 refine⟨ho,rfl,fun hg'=>?_⟩
 subst hg'
 have:=nU hg []
 rwa[List.append_nil] at this
theorem jn(hj:∀b,J X (asN X.P X.n b o)):J X o:=by
 unfold asN at hj
 split at hj
 ·rename_i ops i todo k e w kn
  split at hj
  ·rename_i p e' hh
   obtain⟨ho,rfl,hw⟩:=Q0 hh
   have hw:=hw rfl
   intro bW
   rcases p with ⟨dst,op,ty,pos,c8,g⟩
   split at hj
   ·rename_i ob m hn
    have key:∀b,ab X.C X.fn X.aB ops todo (KQ X k) (A X.n (upd dst (aen b m) e') X.D) ⟨X.ro,(b,ob)::den w⟩:=fun b=>by
     have:=hj b bW
     simp only[JP,iQ] at this
     exact this
    unfold aBn at hn
    split at hn
    ·rename_i T aA
     dsimp only at aA;subst aA
     split at hn<;>try (cases hn;done)
     rename_i ti dV
     cases hn
     obtain⟨bC,tf⟩:=av dV
     exact alA X.hC ho hw tf fun b _=>key b
    ·rename_i T x aA
     dsimp only at aA;subst aA
     split at hn<;>try (cases hn;done)
     rename_i v hx
     cases hn
     exact aBf X.hC ho hw hx (by rw[my]) fun b _=>key b
    ·rename_i T m0 ps aA
     dsimp only at aA;subst aA
     split at hn<;>try (cases hn;done)
     rename_i E _ _ _ dV
     split at hn<;>try (cases hn;done)
     rename_i te ui
     split at hn<;>try (cases hn;done)
     rename_i pv Jj
     split at hn<;>try (cases hn;done)
     rename_i l hl
     cases hc:(Nat.beq te.zero.length te.size&&Nat.ble (m0*te.size) 16777216) with
     |false=>rw[hc] at hn;cases hn
     |true=>
      rw[hc] at hn;simp only[cond_true,Option.some.injEq,Prod.mk.injEq] at hn
      obtain⟨rfl,rfl⟩:=hn
      simp only[Bool.and_eq_true] at hc
      obtain⟨bC,tf⟩:=av dV
      obtain⟨Bh,qT⟩:=av ui
      exact MP X.hC ho hw tf qT hc.1 Jj hc.2 hl fun b _=>key b
    ·rename_i T x aA
     dsimp only at aA;subst aA
     split at hn<;>try (cases hn;done)
     rename_i dV
     split at hn<;>try (cases hn;done)
     rename_i bs hx
     cases hn
     obtain⟨bC,tf⟩:=av dV
     exact TK X.hC ho hw tf hx fun b _=>key b
    cases hn
   exact(hj 0).elim
  exact(hj 0).elim
 exact(hj 0).elim
def aiY(n:Nat)(p:Oper)(e:Env):Option (FuncId×List Value):=match p.op with
 | .call ⟨.value x,xs,_⟩=>match bn n e x with
  |some (.func (.func f) ⟨fi⟩ ⟨ca⟩)=>match xU n e xs.toList with
   |some vs=>some (f,fi++vs++ca)
   |none=>none
  |_=>none
 |_=>none
def yn(P:Program)(n:Nat)(p:Oper)(e:Env):Option (FuncId×List Value):=match aiY n p e with
 |some (f,vs)=>bif BD P f then some (f,vs) else none
 |none=>none
theorem qL(h:yn P n p e=some (f,vs)):FF P f∧∃x xs at_ fi ca ws,p.op= .call ⟨.value x,xs,at_⟩∧bn n e x=some (.func (.func f) ⟨fi⟩ ⟨ca⟩)∧vv n e xs=some ws∧vs=fi++ws++ca:=by
 unfold yn at h
 split at h<;>try (cases h;done)
 rename_i f' oy hc
 cases hb:BD P f' with
 |false=>rw[hb] at h;cases h
 |true=>
  rw[hb] at h;simp only[cond_true,Option.some.injEq,Prod.mk.injEq] at h
  obtain⟨rfl,rfl⟩:=h
  refine⟨lj hb,?_⟩
  unfold aiY at hc
  split at hc<;>try (cases hc;done)
  rename_i x xs at_ aA
  split at hc<;>try (cases hc;done)
  rename_i f fi ca hx
  split at hc<;>try (cases hc;done)
  rename_i ws r8
  cases hc
  exact⟨x,xs,at_,fi,ca,ws,aA,hx,r8,rfl⟩
theorem R6(a b c:List Value):(⟨a⟩:Array Value)++⟨b⟩++⟨c⟩=⟨a++b++c⟩:=by simp
def nv(ps:List Nat)(v:Value)(Y:Cells):Option JS→Option JS
 |some ⟨.ops ops (i::todo) k,e,w,kn⟩=>match ops[i]? with
  |some p=>some ⟨.ops ops todo k,upd p.dst v e,.l Y::dF ps 0 w,kn⟩
  |none=>none
 |_=>none
def fq(n:Nat)(f:Oper→Env→Option β):Option JS→Option β
 |some ⟨.ops a b c,e,w,kn⟩=>dI n f (some ⟨.ops a b c,e,w,kn⟩)
 |_=>none
theorem dB{f:Oper→Env→Option β}{r:β}(h:fq n f o=some r):∃ops i todo k e w kn p,o=some ⟨.ops ops (i::todo) k,e,w,kn⟩∧ops[i]?=some p∧ax ops n e p.guard=true∧f p e=some r:=by
 unfold fq at h
 split at h<;>try (cases h;done)
 rename_i ops todo k e w kn
 obtain⟨s,p,e',hs,hh,hf⟩:=sE h
 cases hs
 cases todo with
 |nil=>cases hh
 |cons i todo=>
  obtain⟨ho,rfl,hw⟩:=Q0 hh
  exact⟨ops,i,todo,k,e',w,kn,p,rfl,ho,hw rfl,hf⟩
def aps(ps lp:List Nat):Option JS→Option Cells
 |some s=>ei lp (some {s with rw:=dF ps 0 s.rw})
 |none=>none
theorem ou{ops:Array Oper}{k:List KI}{w:List Sg}{v:Value}(ho:ops[i]?=some p):nv ps v Y (some ⟨.ops ops (i::todo) k,e,w,kn⟩)=some ⟨.ops ops todo k,upd p.dst v e,.l Y::dF ps 0 w,kn⟩:=by
 simp only[nv,ho]
theorem jcL{own:Cells}(ps lp:List Nat)(B:Cells)(hf:∀aC,Sub X.ro aC→Knows aC B→eG X.P f vs aC own Φ)(hj:∀v Y,Φ v Y→J X (nv ps v Y o))(h1:fq X.n (yn X.P X.n) o=some (f,vs):=by kernel_rfl)(h2:ei ps o=some own:=by kernel_rfl)(h3:aps ps lp o=some B:=by kernel_rfl):J X o:=by
 obtain⟨ops,i,todo,k,e,w,kn,p,rfl,ho,hw,hc⟩:=dB h1
 obtain⟨ff,x,xs,at_,fi,ca,ws,aA,hx,r8,rfl⟩:=qL hc
 intro bW
 rcases p with ⟨dst,op,ty,pos,c8,g⟩
 dsimp only at aA;subst aA
 have hp:=bI h2
 refine aee (own:=own) (B:=B) (Φ:=Φ) X.hC ho hw hx ff r8 (R6 fi ws ca) hp (fun y hy=>(bI h3).mem_iff.2 (List.mem_append_left _ hy)) (fun aC hs hB=>hf aC hs hB) (fun v Y qt=>?_)
 have:=hj v Y qt
 simp only[nv,ho] at this
 have:=this bW
 simp only[JP,gF] at this
 exact this
theorem jc{own:Cells}(ps:List Nat)(hf:eG X.P f vs X.ro own Φ)(hj:∀v Y,Φ v Y→J X (nv ps v Y o))(h1:fq X.n (yn X.P X.n) o=some (f,vs):=by kernel_rfl)(h2:ei ps o=some own:=by kernel_rfl):J X o:=by
 obtain⟨ops,i,todo,k,e,w,kn,p,rfl,ho,hw,hc⟩:=dB h1
 obtain⟨ff,x,xs,at_,fi,ca,ws,aA,hx,r8,rfl⟩:=qL hc
 intro bW
 rcases p with ⟨dst,op,ty,pos,c8,g⟩
 dsimp only at aA;subst aA
 have hp:=bI h2
 refine ud (fi:=⟨fi⟩) (ca:=⟨ca⟩) (ws:=fi++ws++ca) X.hC ho hw hx ff r8 (R6 fi ws ca) (Fn.weaken X.hC (eG.azc (s:=⟨X.ro,den w⟩) hp hf)) (fun v' s' hr=>?_) (fun ch s' hr=>by obtain⟨_,_,e,_⟩:=hr;cases e) (fun s' hr=>by obtain⟨_,_,e,_⟩:=hr;cases e)
 obtain⟨v,Y,hv,qt,hle⟩:=hr
 cases hv
 have:=hj _ Y qt
 simp only[nv,ho] at this
 have:=this bW
 simp only[JP,gF] at this
 exact this.more X.hC hle
theorem jp{V:Value}(lp:List Nat)(B:Cells)(hf:∀aC,Sub X.ro aC→Knows aC B→dt X.P f vs aC V)(hj:J X (MG B V o))(h1:dI X.n (yn X.P X.n) o=some (f,vs):=by kernel_rfl)(h3:ei lp o=some B:=by kernel_rfl):J X o:=by
 refine jGN h1 h3 (fun s p e ho hh hc=>?_) hj
 obtain⟨ff,x,xs,at_,fi,ca,ws,aA,hx,r8,rfl⟩:=qL hc
 rcases p with ⟨dst,op,ty,pos,c8,g⟩
 dsimp only at aA;subst aA
 refine⟨rfl,fun s0 GU u9 ops i tj rest hw s' hs todo Q hk=>?_⟩
 have hez:Ext ⟨X.ro,B⟩ s':=fun b ob hb=>hs _ _ (hb.elim (fun h=>GU _ _ (.inl h)) fun h=>u9 (b,ob) h)
 exact P3 X.hC tj hw (bh hx) ff (xy r8) (R6 fi ws ca) hez (fun aC h1=>hf aC (FQ h1) fun y hy=>h1 _ _ (.inr hy)) hk
end
attribute [irreducible] fq Pn JW asN nv aps
def tw(P:Program)(f:FuncId):Func:=match P.funcs[f]? with
 |some fn=>fn
 |none=>default
abbrev RX(ro:Nat→Option Obj)(Φ:Value→Cells→Prop):Ending→St→Prop:=fun en s'=>∃v X,en= .returned v∧s'=⟨ro,X⟩∧Φ v X
def X0(P:Program)(hm:P.follows .mixedOrders=true)(f:FuncId)(ro:Nat→Option Obj)(R:Ending→St→Prop):Cx:=⟨P,CP P,e8,hm,f,none,(tw P f).ntmps,[],ro,rF P (tw P f) R⟩
def ld(P:Program)(f:FuncId)(args:List Value)(own:List Sg)(kn:Cells):Option JS:=match P.funcs[f]? with
 |some fn=>match fn.body with
  |some c=>bif Nat.ble args.length fn.ntmps then some ⟨.code c [],fS 0 args,own,⟨kn,[]⟩⟩ else none
  |none=>none
 |none=>none
theorem aBS{hm:P.follows .mixedOrders=true}{ro:Nat→Option Obj}(own:List Sg)(kn:Cells)(hk:Knows ro kn)(h:J (X0 P hm f ro R) (ld P f args own kn)):Fn (CP P) P f ⟨args⟩ ⟨ro,den own⟩ R:=by
 unfold ld at h
 split at h<;>try exact h.elim
 rename_i fn hf
 split at h<;>try exact h.elim
 rename_i c hc
 cases hl:Nat.ble args.length fn.ntmps with
 |false=>rw[hl] at h;exact h.elim
 |true=>
  rw[hl] at h
  have uQ:tw P f=fn:=by simp only[tw,hf]
  have:=h hk
  simp only[JP,X0,KQ,uQ] at this
  exact Ro e8 hf hc rfl hl this
theorem bD(hm:P.follows .mixedOrders=true){ro:Nat→Option Obj}{L:Cells}(own:List Sg)(kn:Cells)(hk:Knows ro kn)(h:J (X0 P hm f ro (RX ro Φ)) (ld P f args own kn))(hL:den own=L:=by rfl):eG P f args ro L Φ:=by
 subst hL;exact aBS own kn hk h
def BS(P:Program)(n:Nat)(e:Env)(w:List Sg)(kn:Cells):List Nat→List ResultVar→Option (List Value×List (Nat×Nat))
 |_,[]=>some ([],[])
 |hs,.tmp t::rs=>match bn n e (.tmp t) with
  |some v=>match BS P n e w kn hs rs with
   |some (vs,q)=>some (v::vs,q)
   |none=>none
  |none=>none
 |h::hs,.cell t T::rs=>match bn n e (.tmp t) with
  |some (.pointer (some ⟨b,off,none⟩))=>match Bf w kn h with
   |some (b',l)=>match ldv P T l off with
    |some v=>match BS P n e w kn hs rs with
     |some (vs,q)=>some (v::vs,(b',b)::q)
     |none=>none
    |none=>none
   |none=>none
  |_=>none
 | [],.cell _ _::_=>none
def jW(P:Program)(n:Nat)(f:FuncId)(hs:List Nat):Option JS→Option (Value×List (Nat×Nat))
 |some ⟨.fin _,e,w,kn⟩=>match BS P n e w kn.c hs (tw P f).results.toList with
  |some (vs,q)=>some (uL vs,q)
  |none=>none
 |_=>none
def tt:Option (Value×List (Nat×Nat))→Option Value
 |some (v,_)=>some v
 |none=>none
def SF:Option (Value×List (Nat×Nat))→List Nat
 |some (_,q)=>U6 q
 |none=>[0]
def SE:Option (Value×List (Nat×Nat))→List Nat
 |some (_,q)=>S9 q
 |none=>[1]
theorem tP{w:List Sg}{kn:Cells}(bW:Knows X.ro kn):∀ {hs:List Nat} {rs:List ResultVar} {vs:List Value} {q:List (Nat×Nat)},BS X.P X.n e w kn hs rs=some (vs,q)→(∀p∈q,p.1=p.2)→ET X.P ⟨X.ro,den w⟩ X.n e rs vs
 |_,[],vs,q,h,_=>by simp only[BS,Option.some.injEq,Prod.mk.injEq] at h;obtain⟨rfl,rfl⟩:=h;exact .nil
 |hs,.tmp t::rs,vs,q,h,hq=>by
  simp only[BS] at h
  split at h<;>try (cases h;done)
  rename_i v hv
  split at h<;>try (cases h;done)
  rename_i oy q' hr
  simp only[Option.some.injEq,Prod.mk.injEq] at h;obtain⟨rfl,rfl⟩:=h
  exact .tmp hv (tP bW hr hq)
 | [],.cell _ _::_,vs,q,h,_=>by simp only[BS] at h;cases h
 |h0::hs,.cell t T::rs,vs,q,h,hq=>by
  simp only[BS] at h
  split at h<;>try (cases h;done)
  rename_i b off hv
  split at h<;>try (cases h;done)
  rename_i b' l hc
  split at h<;>try (cases h;done)
  rename_i v hld
  split at h<;>try (cases h;done)
  rename_i oy q' hr
  simp only[Option.some.injEq,Prod.mk.injEq] at h;obtain⟨rfl,rfl⟩:=h
  have hb:b'=b:=hq _ List.mem_cons_self
  subst hb
  obtain⟨t',fz,hh⟩:=zm (X:=X) bW hc
  have ih:=tP bW hr fun p hp=>hq p (List.mem_cons_of_mem _ hp)
  unfold ldv at hld
  split at hld<;>try (cases hld;done)
  rename_i ti dV
  obtain⟨bC,tf⟩:=av dV
  cases ha:ti.agg with
  |true=>
   rw[ha] at hld tf;simp only[cond_true] at hld
   split at hld<;>try (cases hld;done)
   rename_i vs2 EB
   cases hld
   exact .agg tf hv ⟨_,_,_,hh,EB⟩ ih
  |false=>
   rw[ha] at hld tf;simp only[cond_false] at hld
   exact .cell tf hv ⟨_,_,_,hh,hld⟩ ih
def CN:Option JS→Bool
 |some ⟨.fin .ret,_,_,_⟩=>true
 |some ⟨.fin .normal,_,_,_⟩=>true
 |_=>false
theorem tz{o:Option JS}(h:CN o=true):∃ex e w kn,o=some ⟨.fin ex,e,w,kn⟩∧(ex= .ret∨ex= .normal):=by
 unfold CN at h
 split at h
 ·exact⟨_,_,_,_,rfl,.inl rfl⟩
 ·exact⟨_,_,_,_,rfl,.inr rfl⟩
 cases h
def aeK:Option JS→Bool
 |some ⟨.ops ..,_,_,_⟩=>true
 |some ⟨.code ..,_,_,_⟩=>true
 |_=>false
structure QR(X:Cx)(R:Ending→St→Prop):Prop where
 q:X.Q=rF X.P (tw X.P X.fn) R
 d:X.D=[]
theorem q0{hm:P.follows .mixedOrders=true}{ro:Nat→Option Obj}:QR (X0 P hm f ro R) R:=⟨rfl,rfl⟩
theorem QR.a{ro:Nat→Option Obj}(h:QR X R):QR (X.at ro) R:=⟨h.q,h.d⟩
theorem ba{ro:Nat→Option Obj}:Knows ro []:=fun _ h=>by cases h
section
variable {X:Cx} {o:Option JS}
theorem aF{pK:Nat→Option Obj}(hq:QR X R)(v:Value)(hs ps:List Nat)(Y:Cells)(fJ:Sub pK X.ro)(hR:R (.returned v) ⟨pK,Y⟩)(h1:tt (jW X.P X.n X.fn hs o)=some v:=by kernel_rfl)(h2:SF (jW X.P X.n X.fn hs o)=SE (jW X.P X.n X.fn hs o):=by kernel_rfl)(h3:ei ps o=some Y:=by kernel_rfl)(h4:CN o=true:=by kernel_rfl):J X o:=by
 obtain⟨ex,e,w,kn,rfl,hex⟩:=tz h4
 simp only[jW] at h1 h2
 cases hr:BS X.P X.n e w kn.c hs (tw X.P X.fn).results.toList with
 |none=>rw[hr] at h1;cases h1
 |some x=>
  rcases x with ⟨vs,q⟩
  simp only[hr,tt,Option.some.injEq,SF,SE] at h1 h2
  intro bW
  have sb:=tP bW hr (mv h2)
  have hp:=bI h3
  show X.Q ex (A X.n e X.D) ⟨X.ro,den w⟩
  rw[hq.q,hq.d]
  exact Ps (s0:=⟨pK,Y⟩) hex sb h1 (dS hp fJ) hR
def wZ(X:Cx)(K:Act→St→Prop)(ef:ι→Env)(wf:ι→List Sg)(Inv:ι→Prop)(μ:ι→Nat)(m:Nat):Prop:=
 ∀j,Inv j→μ j <m→∀(e:Env) (s:St),kX e (ef j)→(⟨X.ro,den (wf j)⟩:St).le s→K (A X.n e X.D) s
def xV:List Nat→List (Act→St→Prop)→Code→List KI→Option (Code×List KI)
 | [],_,c,k=>some (c,k)
 |0::p,Ks,.seq a b,k=>xV p Ks a (.seq b::k)
 |1::p,Ks,.seq _ b,k=>xV p Ks b k
 |2::p,K::Ks,.seq a _,k=>xV p Ks a (.next K::k)
 |_::p,Ks,.block id c,k=>xV p Ks c (.block id::k)
 |_::p,Ks,.scope c,k=>xV p Ks c k
 |0::p,Ks,.cond _ a _,k=>xV p Ks a k
 |_::p,Ks,.cond _ _ b,k=>xV p Ks b k
 |_::p,K::Ks,.loop c,k=>xV p Ks c (.next K::k)
 |_::p,Ks,.rangeFunc _ _ _ b,_=>xV p Ks b []
 |_,_,_,_=>none
def JH(P:Program)(f:FuncId)(p:List Nat)(Ks:List (Act→St→Prop)):Option (Code×List KI):=match (tw P f).body with
 |some c=>xV p Ks c []
 |none=>none
def stC(e:Env)(w:List Sg):Option (Code×List KI)→Option JS
 |some (c,k)=>some ⟨.code c k,e,w,⟨[],[]⟩⟩
 |none=>none
def stW(P:Program)(f:FuncId)(p:List Nat)(Ks:List (Act→St→Prop))(e:Env)(w:List Sg):Option JS:=stC e w (JH P f p Ks)
def yj:Option JS→Option (Code×List KI)
 |some ⟨.code c k,_,_,_⟩=>some (c,k)
 |_=>none
def lpB(K:Act→St→Prop):Option (Code×List KI)→Option (Code×List KI)
 |some (.loop c,k)=>some (c,.next K::k)
 |_=>none
theorem dW(p:List Nat)(Ks:List (Act→St→Prop))(ef:ι→Env)(wf:ι→List Sg)(Inv:ι→Prop)(μ:ι→Nat)(i0:ι)(h0:Inv i0)(ps:List Nat)(hb:∀i,Inv i→∀K,wZ X K ef wf Inv μ (μ i)→∀rest,J X (stW X.P X.fn p (Ks++[K]) (ef i++rest) (wf i)))
 (h1:uM (pF (ef i0)) o=some (ef i0):=by kernel_rfl)(hd:∀i,lkE (pF (ef i)) (ef i)=some (ef i):=by intro _;kernel_rfl)(h2:rh ps o=some (wf i0):=by kernel_rfl)(hp:∀K,JH X.P X.fn p (Ks++[K])=lpB K (yj o):=by intro _;kernel_rfl):J X o:=by
 have hT:∀i,wZ X (fun _ _=>True) ef wf Inv μ (μ i):=fun _ _ _ _ _ _ _ _=>trivial
 have bad:∀(K:Act→St→Prop),lpB K (yj o)=none→(∀i,wZ X K ef wf Inv μ (μ i))→J X o:=fun K h hK=>by
  have:=hb i0 h0 K (hK i0) []
  simp only[stW,hp,h,stC] at this
  exact this.elim
 cases o with
 |none=>exact bad _ rfl hT
 |some s=>
  rcases s with ⟨q,e,w,kn⟩
  cases q with
  |code c k=>
   cases c with
   |loop c=>
    intro bW
    refine ab6 X.hC ef (fun i=>⟨X.ro,den (wf i)⟩) Inv μ i0 h0 (kO (by rw[tb] at h1;exact h1)) (kO (hd i0)) (dS (lS h2) (Sub.refl _)) fun i hi rest=>?_
    have:=hb i hi _ (fun j hj hm e s hc hle=>alD j hj hm hc (kO (hd j)) hle) rest
    simp only[stW,hp,yj,lpB,stC] at this
    exact this fun _ h=>(List.not_mem_nil h).elim
   |_=>exact bad _ rfl hT
  |_=>exact bad _ rfl hT
def ZX:Option JS→Option (Act→St→Prop)
 |some ⟨.nxt K,_,_,_⟩=>some K
 |_=>none
theorem bJ{K:Act→St→Prop}{ef:ι→Env}{wf:ι→List Sg}{Inv:ι→Prop}{μ:ι→Nat}{m:Nat}(hK:wZ X1 K ef wf Inv μ m)(j:ι)(h:Inv j)(hm:μ j <m)(ps:List Nat)(hs:Sub X1.ro X.ro)
 (h0:ZX o=some K:=by kernel_rfl)(h1:uM (pF (ef j)) o=some (ef j):=by kernel_rfl)(h2:rh ps o=some (wf j):=by kernel_rfl)(hn:X1.n=X.n:=by rfl)(hD:X1.D=X.D:=by rfl):J X o:=by
 unfold ZX at h0
 split at h0<;>try (cases h0;done)
 rename_i K' e w kn
 cases h0
 intro _
 rw[tb] at h1
 have:=hK j h hm e ⟨X.ro,den w⟩ (kO h1) (dS (lS h2) hs)
 rw[hn,hD] at this
 exact this
def gS:List (List Nat)→List Sg→Option (List Cells)
 | [],_=>some []
 |p::r,w=>match PE p w with
  |some x=>match gS r w with
   |some y=>some (den x::y)
   |none=>none
  |none=>none
def gO(ps:List (List Nat)):Option JS→Option (List Cells)
 |some s=>bif Gr ps.flatten then gS ps s.rw else none
 |none=>none
def Zo:List Sg→List Cells
 | []=>[]
 |x::w=>den [x]::Zo w
theorem FW:∀(w:List Sg),(Zo w).flatten=den w
 | []=>rfl
 | .b i o::w=>by simp[Zo,iQ,FW w];rfl
 | .l L::w=>by simp[Zo,gF,FW w];rfl
theorem WJ:∀ {a b:List Nat} {w x y:List Sg},PE a w=some x→PE b w=some y→PE (a++b) w=some (x++y)
 | [],b,w,x,y,h,h2=>by simp only[PE,Option.some.injEq] at h;subst h;exact h2
 |i::a,b,w,x,y,h,h2=>by
  simp only[PE] at h
  split at h<;>try (cases h;done)
  rename_i z hz
  split at h<;>try (cases h;done)
  rename_i r hr
  cases h
  simp only[List.cons_append,PE,hz,WJ hr h2]
theorem aqh:∀ {ps:List (List Nat)} {w:List Sg} {l:List Cells},gS ps w=some l→∃z,PE ps.flatten w=some z∧den z=l.flatten
 | [],w,l,h=>by simp only[gS,Option.some.injEq] at h;subst h;exact⟨[],rfl,rfl⟩
 |p::r,w,l,h=>by
  simp only[gS] at h
  split at h<;>try (cases h;done)
  rename_i x hx
  split at h<;>try (cases h;done)
  rename_i y hy
  cases h
  obtain⟨z,h1,h2⟩:=aqh hy
  exact⟨x++z,by simpa using WJ hx h1,by simp[lM,h2]⟩
theorem KR{K:Act→St→Prop}{ef:ι→Env}{wf:ι→List Sg}{Inv:ι→Prop}{μ:ι→Nat}{m:Nat}(hK:wZ X1 K ef wf Inv μ m)(j:ι)(h:Inv j)(hm:μ j <m)(ps:List (List Nat))(hs:Sub X1.ro X.ro)
 (h0:ZX o=some K:=by kernel_rfl)(h1:uM (pF (ef j)) o=some (ef j):=by kernel_rfl)(h2:gO ps o=some (Zo (wf j)):=by kernel_rfl)(hn:X1.n=X.n:=by rfl)(hD:X1.D=X.D:=by rfl):J X o:=by
 unfold ZX at h0
 split at h0<;>try (cases h0;done)
 rename_i K' e w kn
 cases h0
 intro _
 rw[tb] at h1
 have hp:(den w).Perm (den (wf j)++den (dF ps.flatten 0 w)):=by
  simp only[gO] at h2
  cases ho:Gr ps.flatten with
  |false=>rw[ho] at h2;cases h2
  |true=>
   rw[ho] at h2
   obtain⟨z,h3,h4⟩:=aqh h2
   rw[FW] at h4
   rw[←h4]
   exact xk h3 ho
 have:=hK j h hm e ⟨X.ro,den w⟩ (kO h1) (dS hp hs)
 rw[hn,hD] at this
 exact this
def aIb:Option (Code×List KI)→Option (Code×List KI)
 |some (_,.seq y::k)=>some (y,k)
 |_=>none
def awI(K:Act→St→Prop):Option JS→Option JS
 |some ⟨.code x (.seq _::k),e,w,kn⟩=>some ⟨.code x (.next K::k),e,w,kn⟩
 |_=>none
theorem Iu(p:List Nat)(Ks:List (Act→St→Prop))(ef:ι→Env)(wf:ι→List Sg)(Inv:ι→Prop)(hj:∀i,Inv i→∀rest,J X (stW X.P X.fn p Ks (ef i++rest) (wf i)))(h:∀K,wZ X K ef wf Inv (fun _=>0) 1→J X (awI K o))(hd:∀i,lkE (pF (ef i)) (ef i)=some (ef i):=by intro _;kernel_rfl)(hp:JH X.P X.fn p Ks=aIb (yj o):=by kernel_rfl):J X o:=by
 unfold awI at h
 split at h
 ·rename_i x y k e w kn
  intro bW
  refine h (fun a s=>Wp X.C X.fn X.aB y (KQ X k) a s) (fun j hI _ e s hc hle=>?_) bW
  obtain⟨r,hr⟩:=gq (n:=X.n) (D:=X.D) hc (kO (hd j))
  rw[hr]
  have:=hj j hI r
  simp only[stW,hp,yj,aIb,stC] at this
  exact(this fun _ h=>(List.not_mem_nil h).elim).more X.hC hle
 exact(h (fun _ _=>True) fun _ _ _ _ _ _ _=>trivial).elim
def expand:Cells→List Sg
 | []=>[]
 |x::l=> .b x.1 x.2::expand l
def Vg:Nat→List Sg→List Sg
 |_,[]=>[]
 |0,.l L::w=>expand L++w
 |0,x::w=>x::w
 |i+1,x::w=>x::Vg i w
theorem VT{w w':List Sg}{p:Pos}(h:den w'=den w)(hj:JP X kn e w' p):JP X kn e w p:=by
 cases p<;>simp only[JP,h] at hj ⊢ <;>exact hj
def aHk(i:Nat):Option JS→Option JS
 |some s=>some {s with rw:=Vg i s.rw}
 |none=>none
def YE:List Sg→Cells
 | []=>[]
 | .b i o::w=>(i,o)::YE w
 | .l _::w=>YE w
theorem xF:∀ {w:List Sg} {x:Nat×Obj},x∈YE w→x∈den w
 | .b i o::w,x,h=>by
  rw[iQ]
  rcases List.mem_cons.1 h with rfl|h
  ·exact List.mem_cons_self
  exact List.mem_cons_of_mem _ (xF h)
 | .l L::w,x,h=>by rw[gF];exact List.mem_append_right _ (xF (w:=w) h)
def anv(ps:List Nat):Option JS→Option JS
 |some s=>match PE ps s.rw with
  |some w=>some {s with rw:=dF ps 0 s.rw,kn:=⟨YE w++s.kn.c,s.kn.nd⟩}
  |none=>none
 |none=>none
theorem Im:∀(k:List KI),KQ (X.at aG) k=KQ X k
 | []=>rfl
 | .seq _::k=>by simp only[KQ,Im k];rfl
 | .block _::k=>by simp only[KQ,Im k]
 | .next _::k=>by simp only[KQ,Im k]
theorem jf(ps:List Nat)(L:Cells)(h:∀aG,Sub X.ro aG→Knows aG L→J (X.at aG) (anv ps o))(h2:ei ps o=some L:=by kernel_rfl)(hp:aeK o=true:=by kernel_rfl):J X o:=by
 have hpk:∀ {s:JS},ei ps (some s)=some L→∃w,PE ps s.rw=some w∧den w=L:=by
  intro s hs
  simp only[ei,rh] at hs
  cases hk:Gr ps with
  |false=>rw[hk] at hs;cases hs
  |true=>
   rw[hk] at hs;simp only[cond_true] at hs
   split at hs<;>try (cases hs;done)
   rename_i w hw
   cases hs
   exact⟨w,hw,rfl⟩
 unfold aeK at hp
 split at hp
 ·rename_i ops todo k e w kn
  intro bW
  obtain⟨w1,hw1,rfl⟩:=hpk h2
  refine TG X.hC (bI h2) fun aG hs hk=>?_
  have:=h aG hs hk
  simp only[anv,hw1] at this
  have:=this (fun x hx=>(List.mem_append.1 hx).elim (fun hx=>hk x (xF hx)) fun hx=>hs _ _ (bW x hx))
  simp only[JP,Im] at this
  exact this
 ·rename_i c k e w kn
  intro bW
  obtain⟨w1,hw1,rfl⟩:=hpk h2
  refine Y0 X.hC (bI h2) fun aG hs hk=>?_
  have:=h aG hs hk
  simp only[anv,hw1] at this
  have:=this (fun x hx=>(List.mem_append.1 hx).elim (fun hx=>hk x (xF hx)) fun hx=>hs _ _ (bW x hx))
  simp only[JP,Im] at this
  exact this
 cases hp
def geO:Option JS→Option JS
 |some s=>some {s with rw:= .l []::s.rw}
 |none=>none
theorem oH(h:J X (geO o)):J X o:=by
 cases o with
 |none=>exact h
 |some s=>exact fun bW=>VT (by simp[gF]) (h bW)
def sgS:Nat→List Sg→List Sg→List Sg
 |_,_,[]=>[]
 |0,l,_::w=>l++w
 |i+1,l,x::w=>x::sgS i l w
theorem Wo{l:List Sg}:∀ {i:Nat} {w:List Sg} {x:Sg},yP w i=some x→den [x]=den l→den (sgS i l w)=den w
 |_,[],_,h,_=>by cases h
 |0,y::w,x,h,hd=>by
  simp only[yP,Option.some.injEq] at h;subst h
  have:den (y::w)=den [y]++den w:=by rw[←lM];rfl
  rw[this,hd,←lM];rfl
 |i+1,y::w,x,h,hd=>by
  have:=Wo (w:=w) (i:=i) h hd
  cases y<;>simp[sgS,iQ,gF,this]
def sgO(i:Nat)(l:List Sg):Option JS→Option JS
 |some s=>some {s with rw:=sgS i l s.rw}
 |none=>none
theorem jg(i:Nat)(l:List Sg)(h:J X (sgO i l o))(h2:ei [i] o=some (den l):=by kernel_rfl):J X o:=by
 cases o with
 |none=>exact h
 |some s=>
  have hn:∃x,yP s.rw i=some x∧den [x]=den l:=by
   simp only[ei,rh,Gr,a8,PE,Bool.not_false,Bool.true_and,cond_true] at h2
   cases hx:yP s.rw i with
   |none=>rw[hx] at h2;cases h2
   |some x=>rw[hx] at h2;simp only[Option.some.injEq] at h2;exact⟨x,rfl,h2⟩
  obtain⟨x,hx,hd⟩:=hn
  exact fun bW=>VT (Wo hx hd) (h bW)
theorem jmw(i:Nat)(l:List Sg){L:Cells}(h:L=den l)(hj:J X (sgO i l o))(h2:ei [i] o=some L:=by kernel_rfl):J X o:=by
 subst h;exact jg i l hj h2
end
def Cx.wd(X:Cx)(D:List Deferred):Cx:={X with D:=D}
theorem Si{D:List Deferred}:∀(k:List KI),KQ (X.wd D) k=KQ X k
 | []=>rfl
 | .seq _::k=>by simp only[KQ,Si k];rfl
 | .block _::k=>by simp only[KQ,Si k]
 | .next _::k=>by simp only[KQ,Si k]
def Fs(X:Cx)(K:Act→St→Prop)(ef:ι→Env)(wf:ι→List Sg)(df:ι→List Deferred)(Inv:ι→Prop)(μ:ι→Nat)(m:Nat):Prop:=
 ∀j,Inv j→μ j <m→∀(e:Env) (s:St),kX e (ef j)→(⟨X.ro,den (wf j)⟩:St).le s→K (A X.n e (df j)) s
section
variable {X:Cx} {o:Option JS}
theorem ab7{C:Class}{fn:FuncId}{aB:Option Nat}{Q:Post}{env:Env}(hC:∀main T,C main T→Closed X.P main T)(pW:ι→Env)(sf:ι→St)(df:ι→List Deferred)(Inv:ι→Prop)(μ:ι→Nat){c:Code}(i0:ι)(h0:Inv i0)(hc:kX env (pW i0))(hd:∀i,kX (pW i) (pW i))(hs:(sf i0).le s)
 (round:∀i,Inv i→∀rest,Wp C fn aB c (me (fun a s=>∃j,Inv j∧μ j <μ i∧(∃e,kX e (pW j)∧a=A n e (df j))∧(sf j).le s) Q) (A n (pW i++rest) (df i)) (sf i)):Wp C fn aB (.loop c) Q (A n env (df i0)) s:=by
 obtain⟨r0,vq⟩:=gq (n:=n) (D:=df i0) hc (hd i0)
 rw[vq]
 intro main T hT b k cs h1 h2 h3 h4
 have key:∀m i rest s,μ i=m→Inv i→(sf i).le s→T (G (aK b (A n (pW i++rest) (df i)) (.code c:: .inLoop c::k)) cs) s:=by
  intro m
  induction m using Nat.strongRecOn with
  |_ m ih=>
   intro i rest s hm hI hle
   refine(hC main T hT).mono _ _ _ hle ?_
   refine round i hI rest main T hT b (.inLoop c::k) cs h1 h2 h3 fun e a' s' q=>?_
   cases e with
   |normal=>
    obtain⟨j,ze,cL,⟨e,he,rfl⟩,xS⟩:=q
    obtain⟨adh,hr⟩:=gq (n:=n) (D:=df j) he (hd j)
    rw[hr]
    exact(hC main T hT).go rfl rfl (g':=G (aK b _ (.code c:: .inLoop c::k)) cs) (fun w=>by simp[G,stepG,stepG.exec,aK]) (ih _ (hm▸cL) j adh s' rfl ze xS)
   |exit id=>exact(h4 _ _ _ q).push rfl (by simp)
   |ret=>exact(h4 _ _ _ q).push (x:= .inLoop c) rfl (by simp)
   |panic ch=>exact(h4 _ _ _ q).push (x:= .inLoop c) rfl (by simp)
   |goto l=>exact(h4 _ _ _ q).elim
   |outgrown=>exact(h4 _ _ _ q).elim
 exact(hC main T hT).go rfl rfl (g':=G (aK b (A n (pW i0++r0) (df i0)) (.code c:: .inLoop c::k)) cs) (fun w=>by simp[G,stepG,stepG.exec,aK]) (key _ i0 r0 s rfl h0 hs)
theorem aBW(p:List Nat)(Ks:List (Act→St→Prop))(ef:ι→Env)(wf:ι→List Sg)(df:ι→List Deferred)(Inv:ι→Prop)(μ:ι→Nat)(i0:ι)(h0:Inv i0)(ps:List Nat)(hb:∀i,Inv i→∀K,Fs X K ef wf df Inv μ (μ i)→∀rest,J (X.wd (df i)) (stW X.P X.fn p (Ks++[K]) (ef i++rest) (wf i)))
 (h1:uM (pF (ef i0)) o=some (ef i0):=by kernel_rfl)(hd:∀i,lkE (pF (ef i)) (ef i)=some (ef i):=by intro _;kernel_rfl)(h2:rh ps o=some (wf i0):=by kernel_rfl)(hp:∀K,JH X.P X.fn p (Ks++[K])=lpB K (yj o):=by intro _;kernel_rfl)(hD:X.D=df i0:=by rfl):J X o:=by
 have hT:∀i,Fs X (fun _ _=>True) ef wf df Inv μ (μ i):=fun _ _ _ _ _ _ _ _=>trivial
 have bad:∀(K:Act→St→Prop),lpB K (yj o)=none→(∀i,Fs X K ef wf df Inv μ (μ i))→J X o:=fun K h hK=>by
  have:=hb i0 h0 K (hK i0) []
  simp only[stW,hp,h,stC] at this
  exact this.elim
 cases o with
 |none=>exact bad _ rfl hT
 |some s=>
  rcases s with ⟨q,e,w,kn⟩
  cases q with
  |code c k=>
   cases c with
   |loop c=>
    intro bW
    show Wp X.C X.fn X.aB (.loop c) (KQ X k) (A X.n e X.D) ⟨X.ro,den w⟩
    rw[hD]
    refine ab7 (X:=X) X.hC ef (fun i=>(⟨X.ro,den (wf i)⟩:St)) df Inv μ i0 h0 (kO (by rw[tb] at h1;exact h1)) (fun i=>kO (hd i)) (dS (lS h2) (Sub.refl _)) fun i hi rest=>?_
    have:=hb i hi (fun a s=>∃j,Inv j∧μ j <μ i∧(∃e,kX e (ef j)∧a=A X.n e (df j))∧(⟨X.ro,den (wf j)⟩:St).le s) (fun j hj hm e s hc hle=>⟨j,hj,hm,⟨e,hc,rfl⟩,hle⟩) rest
    simp only[stW,hp,yj,lpB,stC] at this
    have:=this fun _ h=>(List.not_mem_nil h).elim
    simp only[JP,KQ,Si] at this
    exact this
   |_=>exact bad _ rfl hT
  |_=>exact bad _ rfl hT
theorem jnD{K:Act→St→Prop}{ef:ι→Env}{wf:ι→List Sg}{df:ι→List Deferred}{Inv:ι→Prop}{μ:ι→Nat}{m:Nat}(hK:Fs X1 K ef wf df Inv μ m)(j:ι)(h:Inv j)(hm:μ j <m)(ps:List (List Nat))(hs:Sub X1.ro X.ro)
 (h0:ZX o=some K:=by kernel_rfl)(h1:uM (pF (ef j)) o=some (ef j):=by kernel_rfl)(h2:gO ps o=some (Zo (wf j)):=by kernel_rfl)(hn:X1.n=X.n:=by rfl)(hD:X.D=df j:=by rfl):J X o:=by
 have hK':wZ (X1.wd (df j)) K ef wf (fun i=>i=j) μ m:=fun i hi hm e s hc hle=>by subst hi;exact hK _ h hm e s hc hle
 exact KR hK' j rfl hm ps hs h0 h1 h2 hn hD.symm
end
attribute [irreducible] gO geO tw ld awI stW yj JH aHk anv sgO CN aeK jW SF SE tt ZX
section
variable {X:Cx} {o:Option JS}
def N2(n:Nat)(p:Oper)(e:Env):Option (BinOp×TypeId×Value×Value):=match p.op with
 | .binOp op T x y _=>match bn n e x with
  |some v=>match bn n e y with
   |some w=>some (op,T,v,w)
   |none=>none
  |none=>none
 |_=>none
theorem uy{op:BinOp}{v w:Value}(h:N2 n p e=some (op,T,v,w)):∃x y T',p.op= .binOp op T x y T'∧bn n e x=some v∧bn n e y=some w:=by
 unfold N2 at h
 split at h<;>try (cases h;done)
 rename_i aA
 split at h<;>try (cases h;done)
 rename_i hx
 split at h<;>try (cases h;done)
 rename_i hy
 cases h
 exact⟨_,_,_,aA,hx,hy⟩
theorem jsa{a:ByteArray}(T:TypeId)(hb:(a.size:Int)+b.size≤9223372036854775807)(hj:J X (kp (.string (a++b)) o))(hv:dI X.n (N2 X.n) o=some (.add,T,.string a,.string b):=by kernel_rfl):J X o:=by
 refine So hv (fun s p e _ hf=>?_) hj
 obtain⟨x,y,T',aA,hx,hy⟩:=uy hf
 rcases p with ⟨dst,op,ty,pos,c8,g⟩
 dsimp only at aA;subst aA
 exact fun s0 ops i tj rest hw s' hs todo Q hk=>asH X.hC tj hw (bh hx) (bh hy) hb hk
theorem jrm{k:IntKind}{a b:Int}(T:TypeId)(hb:b≠0)(hj:J X (kp (.int k (a.tmod b)) o))(hv:dI X.n (N2 X.n) o=some (.rem,T,.int k a,.int k b):=by kernel_rfl):J X o:=by
 refine So hv (fun s p e _ hf=>?_) hj
 obtain⟨x,y,T',aA,hx,hy⟩:=uy hf
 rcases p with ⟨dst,op,ty,pos,c8,g⟩
 dsimp only at aA;subst aA
 exact fun s0 ops i tj rest hw s' hs todo Q hk=>aA8 X.hC tj hw (bh hx) (bh hy) hb hk
theorem jsr{k k':IntKind}{a b:Int}(T:TypeId)(hb:0≤b)(hj:J X (kp (.int k (aS k a b)) o))(hv:dI X.n (N2 X.n) o=some (.shr,T,.int k a,.int k' b):=by kernel_rfl):J X o:=by
 refine So hv (fun s p e _ hf=>?_) hj
 obtain⟨x,y,T',aA,hx,hy⟩:=uy hf
 rcases p with ⟨dst,op,ty,pos,c8,g⟩
 dsimp only at aA;subst aA
 exact fun s0 ops i tj rest hw s' hs todo Q hk=>aA6 X.hC tj hw (bh hx) (bh hy) hb hk
theorem jsh{k k':IntKind}{a b:Int}(T:TypeId)(hb:0≤b)(hj:J X (kp (.int k (dD k a b)) o))(hv:dI X.n (N2 X.n) o=some (.shl,T,.int k a,.int k' b):=by kernel_rfl):J X o:=by
 refine So hv (fun s p e _ hf=>?_) hj
 obtain⟨x,y,T',aA,hx,hy⟩:=uy hf
 rcases p with ⟨dst,op,ty,pos,c8,g⟩
 dsimp only at aA;subst aA
 exact fun s0 ops i tj rest hw s' hs todo Q hk=>aA7 X.hC tj hw (bh hx) (bh hy) hb hk
theorem jeq{m:List Value}{r:Bool}(hg:ov X.P T)(he:EqV X.P T (.agg ⟨l⟩) (.agg ⟨m⟩) r)(hj:J X (kp (.bool r) o))(hv:dI X.n (N2 X.n) o=some (.eql,T,.agg ⟨l⟩,.agg ⟨m⟩):=by kernel_rfl):J X o:=by
 refine So hv (fun s p e _ hf=>?_) hj
 obtain⟨x,y,T',aA,hx,hy⟩:=uy hf
 rcases p with ⟨dst,op,ty,pos,c8,g⟩
 dsimp only at aA;subst aA
 exact fun s0 ops i tj rest hw s' hs todo Q hk=>aly X.hC tj hw (bh hx) (bh hy) hg he hk
theorem jne{m:List Value}{r:Bool}(hg:ov X.P T)(he:EqV X.P T (.agg ⟨l⟩) (.agg ⟨m⟩) r)(hj:J X (kp (.bool !r) o))(hv:dI X.n (N2 X.n) o=some (.neq,T,.agg ⟨l⟩,.agg ⟨m⟩):=by kernel_rfl):J X o:=by
 refine So hv (fun s p e _ hf=>?_) hj
 obtain⟨x,y,T',aA,hx,hy⟩:=uy hf
 rcases p with ⟨dst,op,ty,pos,c8,g⟩
 dsimp only at aA;subst aA
 exact fun s0 ops i tj rest hw s' hs todo Q hk=>ad9 X.hC tj hw (bh hx) (bh hy) hg he hk
def GO(P:Program)(T:TypeId):Bool:=match aY P T with
 |some ⟨.slice _,_,_,_⟩=>true
 |_=>false
theorem GN(h:GO P T=true):∃E sz bC z ag,TF P T (.slice E) sz bC z ag:=by
 unfold GO at h
 split at h<;>try (cases h;done)
 rename_i dV
 obtain⟨bC,tf⟩:=av dV
 exact⟨_,_,_,_,_,tf⟩
theorem jsn{a:Option Addr}{l c:Nat}(T:TypeId)(hj:J X (kp (.bool a.isNone) o))(hv:dI X.n (N2 X.n) o=some (.eql,T,.slice a l c,.slice none 0 0):=by kernel_rfl)(hT:GO X.P T=true:=by kernel_rfl):J X o:=by
 refine So hv (fun s p e _ hf=>?_) hj
 obtain⟨x,y,T',aA,hx,hy⟩:=uy hf
 obtain⟨E,sz,bC,z,ag,tf⟩:=GN hT
 rcases p with ⟨dst,op,ty,pos,c8,g⟩
 dsimp only at aA;subst aA
 exact fun s0 ops i tj rest hw s' hs todo Q hk=>als X.hC tj hw tf (bh hx) (bh hy) hk
def Ep(n:Nat)(e:Env):Option Operand→Option (Option Int)
 |none=>some none
 |some x=>match bn n e x with
  |some (.int _ a)=>some (some a)
  |_=>none
def acU(P:Program)(n:Nat)(p:Oper)(e:Env):Option (ByteArray×Option Int×Option Int):=match p.op with
 | .slice T x y z none=>match aY P T with
  |some ⟨.string,_,_,_⟩=>match bn n e x with
   |some (.string b)=>match Ep n e y with
    |some lo=>match Ep n e z with
     |some hi=>some (b,lo,hi)
     |none=>none
    |none=>none
   |_=>none
  |_=>none
 |_=>none
def akR(P:Program)(n:Nat)(p:Oper)(e:Env):Option (Value×Option Int×Option Int×Nat):=match p.op with
 | .slice T x y z none=>match aY P T with
  |some ⟨.slice E,_,_,_⟩=>match aY P E with
   |some te=>match bn n e x with
    |some v=>match Ep n e y with
     |some lo=>match Ep n e z with
      |some hi=>some (v,lo,hi,te.size)
      |none=>none
     |none=>none
    |none=>none
   |none=>none
  |_=>none
 |_=>none
theorem nO{x:Option Operand}{a:Int}(h:Ep n e x=some (some a)):∃y k,x=some y∧bn n e y=some (.int k a):=by
 unfold Ep at h
 split at h
 ·cases h
 split at h<;>try (cases h;done)
 rename_i hx
 cases h
 exact⟨_,_,rfl,hx⟩
theorem B6{x:Option Operand}(h:Ep n e x=some none):x=none:=by
 unfold Ep at h
 split at h
 ·rfl
 split at h<;>cases h
theorem Mi{lo hi:Option Int}(h:acU P n p e=some (b,lo,hi)):∃T x y z sz bC zz ag,p.op= .slice T x y z none∧TF P T .string sz bC zz ag∧bn n e x=some (.string b)∧Ep n e y=some lo∧Ep n e z=some hi:=by
 unfold acU at h
 split at h<;>try (cases h;done)
 rename_i aA
 split at h<;>try (cases h;done)
 rename_i dV
 obtain⟨bC,tf⟩:=av dV
 split at h<;>try (cases h;done)
 rename_i hx
 split at h<;>try (cases h;done)
 rename_i hy
 split at h<;>try (cases h;done)
 rename_i hz
 cases h
 exact⟨_,_,_,_,_,_,_,_,aA,tf,hx,hy,hz⟩
theorem Wn{v:Value}{lo hi:Option Int}(h:akR P n p e=some (v,lo,hi,k)):∃T x y z E sz bC zz ag d Bh z2 ag2,p.op= .slice T x y z none∧TF P T (.slice E) sz bC zz ag∧TF P E d k Bh z2 ag2∧bn n e x=some v∧Ep n e y=some lo∧Ep n e z=some hi:=by
 unfold akR at h
 split at h<;>try (cases h;done)
 rename_i aA
 split at h<;>try (cases h;done)
 rename_i dV
 obtain⟨bC,tf⟩:=av dV
 split at h<;>try (cases h;done)
 rename_i te ui
 obtain⟨Bh,qT⟩:=av ui
 split at h<;>try (cases h;done)
 rename_i hx
 split at h<;>try (cases h;done)
 rename_i hy
 split at h<;>try (cases h;done)
 rename_i hz
 cases h
 exact⟨_,_,_,_,_,_,_,_,_,_,_,_,_,aA,tf,qT,hx,hy,hz⟩
theorem jtB(hl:0≤lo∧lo≤hi∧hi≤b.size)(hj:J X (kp (.string (b.extract lo.toNat hi.toNat)) o))(hv:dI X.n (acU X.P X.n) o=some (b,some lo,some hi):=by kernel_rfl):J X o:=by
 refine So hv (fun s p e _ hf=>?_) hj
 obtain⟨T,x,y,z,sz,bC,zz,ag,aA,tf,hx,hy,hz⟩:=Mi hf
 obtain⟨y,k,rfl,GP⟩:=nO hy
 obtain⟨z,k',rfl,hz1⟩:=nO hz
 rcases p with ⟨dst,op,ty,pos,c8,g⟩
 dsimp only at aA;subst aA
 exact fun s0 ops i tj rest hw s' hs todo Q hk=>TJ X.hC tj hw tf (bh hx) (bh GP) (bh hz1) hl hk
theorem jtH(hl:0≤hi∧hi≤b.size)(hj:J X (kp (.string (b.extract 0 hi.toNat)) o))(hv:dI X.n (acU X.P X.n) o=some (b,none,some hi):=by kernel_rfl):J X o:=by
 refine So hv (fun s p e _ hf=>?_) hj
 obtain⟨T,x,y,z,sz,bC,zz,ag,aA,tf,hx,hy,hz⟩:=Mi hf
 have hy:=B6 hy;subst hy
 obtain⟨z,k',rfl,hz1⟩:=nO hz
 rcases p with ⟨dst,op,ty,pos,c8,g⟩
 dsimp only at aA;subst aA
 exact fun s0 ops i tj rest hw s' hs todo Q hk=>P0 X.hC tj hw tf (bh hx) (bh hz1) hl hk
theorem jtL(hl:0≤lo∧lo≤b.size)(hj:J X (kp (.string (b.extract lo.toNat b.size)) o))(hv:dI X.n (acU X.P X.n) o=some (b,some lo,none):=by kernel_rfl):J X o:=by
 refine So hv (fun s p e _ hf=>?_) hj
 obtain⟨T,x,y,z,sz,bC,zz,ag,aA,tf,hx,hy,hz⟩:=Mi hf
 have hz:=B6 hz;subst hz
 obtain⟨y,k,rfl,GP⟩:=nO hy
 rcases p with ⟨dst,op,ty,pos,c8,g⟩
 dsimp only at aA;subst aA
 exact fun s0 ops i tj rest hw s' hs todo Q hk=>PZ X.hC tj hw tf (bh hx) (bh GP) hl hk
theorem jcH{v:Value}{enc:α→List Value}{ps:List α}(hs:bE X.ro v sz enc ps)(hl:0≤hi∧hi≤ps.length)(hj:∀v',bE X.ro v' sz enc (ps.take hi.toNat)→J X (kp v' o))(hv:dI X.n (akR X.P X.n) o=some (v,none,some hi,sz):=by kernel_rfl):J X o:=by
 obtain⟨a,b,off,cap,rfl,h2,h3,h4⟩:=id hs
 have hp:=bE.part hs (l:=0) (h:=hi.toNat) (by omega) (by omega)
 rw[List.drop_zero] at hp
 refine So hv (fun s p e _ hf=>?_) (hj _ hp)
 obtain⟨T,x,y,z,E,s1,bC,zz,ag,d,Bh,z2,ag2,aA,tf,qT,hx,hy,hz⟩:=Wn hf
 have hy:=B6 hy;subst hy
 obtain⟨z,k',rfl,hz1⟩:=nO hz
 rcases p with ⟨dst,op,ty,pos,c8,g⟩
 dsimp only at aA;subst aA
 intro s0 ops i tj rest hw s' nu todo Q hk
 refine bS X.hC tj hw (by simp) ?_
 have hb:0≤hi∧hi≤(cap:Int):=by omega
 have fY:(0:Int)≤0∧(0:Int)≤(hi.toNat:Int):=by omega
 rw[←aX] at hk
 simp only[execOp,Option.map_some,Option.map_none,Instr.sliceAt,Instr.slice,aE (bh (rest:=rest) hx),aE (bh (rest:=rest) hz1),aa,aZ tf,Instr.sliceBounds,Instr.sliceBound,asIntOf,ae,hb,fY,and_self,if_true,cg qT]
 exact hk
theorem jcB{v:Value}{enc:α→List Value}{ps:List α}(hs:bE X.ro v sz enc ps)(hl:0≤lo∧lo≤hi∧hi≤ps.length)(hj:∀v',bE X.ro v' sz enc ((ps.take hi.toNat).drop lo.toNat)→J X (kp v' o))(hv:dI X.n (akR X.P X.n) o=some (v,some lo,some hi,sz):=by kernel_rfl):J X o:=by
 obtain⟨a,b,off,cap,rfl,h2,h3,h4⟩:=id hs
 have hp:=bE.part hs (l:=lo.toNat) (h:=hi.toNat) (by omega) (by omega)
 refine So hv (fun s p e _ hf=>?_) (hj _ hp)
 obtain⟨T,x,y,z,E,s1,bC,zz,ag,d,Bh,z2,ag2,aA,tf,qT,hx,hy,hz⟩:=Wn hf
 obtain⟨y,k,rfl,GP⟩:=nO hy
 obtain⟨z,k',rfl,hz1⟩:=nO hz
 rcases p with ⟨dst,op,ty,pos,c8,g⟩
 dsimp only at aA;subst aA
 intro s0 ops i tj rest hw s' nu todo Q hk
 refine bS X.hC tj hw (by simp) ?_
 have hb:0≤hi∧hi≤(cap:Int):=by omega
 have fY:0≤lo∧lo≤(hi.toNat:Int):=by omega
 rw[←aX] at hk
 simp only[execOp,Option.map_some,Option.map_none,Instr.sliceAt,Instr.slice,aE (bh (rest:=rest) hx),aE (bh (rest:=rest) GP),aE (bh (rest:=rest) hz1),aa,aZ tf,Instr.sliceBounds,Instr.sliceBound,asIntOf,ae,hb,fY,and_self,if_true,cg qT]
 exact hk
def lnV(P:Program)(n:Nat)(p:Oper)(e:Env):Option Value:=match p.op with
 | .call ⟨.builtin .len,⟨[x]⟩,⟨[T]⟩⟩=>bif GO P T then bn n e x else none
 |_=>none
theorem Co{v:Value}{enc:α→List Value}{ps:List α}{L:Cells}(kQ:az v sz T2 enc ps L)(hj:J X (kp (.int .i64 ps.length) o))(hv:dI X.n (lnV X.P X.n) o=some v:=by kernel_rfl):J X o:=by
 refine So hv (fun s p e _ hf=>?_) hj
 unfold lnV at hf
 split at hf<;>try (cases hf;done)
 rename_i x T aA
 cases hT:GO X.P T with
 |false=>rw[hT] at hf;cases hf
 |true=>
  rw[hT] at hf;simp only[cond_true] at hf
  obtain⟨E,s1,bC,z,ag,tf⟩:=GN hT
  rcases p with ⟨dst,op,ty,pos,c8,g⟩
  dsimp only at aA;subst aA
  exact fun s0 ops i tj rest hw s' hs todo Q hk=>aea X.hC tj hw tf (bh hf) kQ hk
def ZY(ps:List Nat)(v:Value)(L':Cells):Option JS→Option JS:=nv ps v L'
theorem WY{ops:Array Oper}{k:List KI}{w:List Sg}{v:Value}{L':Cells}(ho:ops[i]?=some p):ZY ps v L' (some ⟨.ops ops (i::todo) k,e,w,kn⟩)=some ⟨.ops ops todo k,upd p.dst v e,.l L'::dF ps 0 w,kn⟩:=by
 unfold ZY
 simp only[ou ho]
def akO(P:Program)(n:Nat)(p:Oper)(e:Env):Option (Addr×List Value×Nat):=match p.op with
 | .store T x y=>match aY P T with
  |some ti=>match bn n e x with
   |some (.pointer (some a))=>match bn n e y with
    |some v=>some (a,ek v,ti.size)
    |none=>none
   |_=>none
  |none=>none
 |_=>none
theorem Wl{a:Addr}(h:akO P n p e=some (a,l,sz)):∃T x y d bC z ag v,p.op= .store T x y∧TF P T d sz bC z ag∧bn n e x=some (.pointer (some a))∧bn n e y=some v∧v.cells=⟨l⟩:=by
 unfold akO at h
 split at h<;>try (cases h;done)
 rename_i aA
 split at h<;>try (cases h;done)
 rename_i ti dV
 obtain⟨bC,tf⟩:=av dV
 split at h<;>try (cases h;done)
 rename_i hx
 split at h<;>try (cases h;done)
 rename_i hy
 cases h
 exact⟨_,_,_,_,_,_,_,_,aA,tf,hx,hy,by rw[my]⟩
theorem Oo{v:Value}{enc:α→List Value}{ps:List α}{L:Cells}{b:Nat}{a:α}(i f:Nat)(c:List Value)(e:α)(kQ:az v sz E enc ps L)(hb:Oc v b)(hk:ps[k]?=some a) (he:enc e=dC (enc a) f c) (h1:c.all single=true) (hf:f+c.length≤sz) (hj:∀L',az v sz E enc (ps.set k e) L'→J X (ZY [i] undef L' o)) (hv:fq X.n (akO X.P X.n) o=some (⟨b,k*sz+f,none⟩,c,c.length):=by kernel_rfl) (h2:ei [i] o=some L:=by kernel_rfl):J X o:=by
 obtain⟨ops,i0,todo,kk,ev,w,kn,p,rfl,ho,hw,hc⟩:=dB hv
 obtain⟨T,x,y,d,bC,z,ag,u,aA,tf,hx,hy,hu⟩:=Wl hc
 intro bW
 rcases p with ⟨dst,op,ty,pos,c8,g⟩
 dsimp only at aA;subst aA
 refine vP X.hC (bI h2)<|aA3 X.hC ho hw tf hx hy hu rfl (List.all_eq_true.1 h1) kQ hb hk he hf fun L' hL'=>?_
 have:=hj L' hL'
 rw[WY ho] at this
 have:=this bW
 simp only[JP,gF] at this
 exact this
def apV(P:Program)(n:Nat)(p:Oper)(e:Env):Option (Value×Value×TypeId×Nat):=match p.op with
 | .call ⟨.builtin .append,⟨[x,y]⟩,⟨[T,U]⟩⟩=>match aY P T with
  |some ⟨.slice E,_,_,_⟩=>bif GO P U then (match aY P E with
   |some te=>match P.info? E with
    |some ie=>bif Nat.beq te.zero.length te.size&&Nat.ble ie.bytes 65536 then (match bn n e x with
     |some v=>match bn n e y with
      |some w=>some (v,w,E,te.size)
      |none=>none
     |none=>none) else none
    |none=>none
   |none=>none) else none
  |_=>none
 |_=>none
theorem awY{v w:Value}(h:apV P n p e=some (v,w,E,sz)):∃x y T U s1 b1 z1 a1 E2 s2 b2 z2 a2 d bC z ag,p.op= .call ⟨.builtin .append,#[x,y],#[T,U]⟩∧TF P T (.slice E) s1 b1 z1 a1∧TF P U (.slice E2) s2 b2 z2 a2∧TF P E d sz bC z ag∧z.length=sz∧bC≤65536∧bn n e x=some v∧bn n e y=some w:=by
 unfold apV at h
 split at h<;>try (cases h;done)
 rename_i x y T U aA
 split at h<;>try (cases h;done)
 rename_i E' _ _ _ dV
 obtain⟨b1,tf1⟩:=av dV
 cases hU:GO P U with
 |false=>rw[hU] at h;cases h
 |true=>
  rw[hU] at h;simp only[cond_true] at h
  obtain⟨E2,s2,b2,z2,a2,qT⟩:=GN hU
  split at h<;>try (cases h;done)
  rename_i te ui
  obtain⟨b3,tf3⟩:=av ui
  split at h<;>try (cases h;done)
  rename_i ie hie
  cases hb:(Nat.beq te.zero.length te.size&&Nat.ble ie.bytes 65536) with
  |false=>rw[hb] at h;cases h
  |true=>
   rw[hb] at h;simp only[cond_true] at h
   split at h<;>try (cases h;done)
   rename_i hx
   split at h<;>try (cases h;done)
   rename_i hy
   simp only[Option.some.injEq,Prod.mk.injEq] at h
   obtain⟨rfl,rfl,rfl,rfl⟩:=h
   simp only[Bool.and_eq_true,Nat.ble_eq] at hb
   obtain⟨i2,g1,_,g3,_⟩:=tf3.info
   rw[hie] at g1;cases g1
   exact⟨x,y,T,U,_,b1,_,_,E2,s2,b2,z2,a2,_,b3,_,_,aA,tf1,qT,tf3,Nat.eq_of_beq_eq_true hb.1,by omega,hx,hy⟩
theorem jq{v w:Value}{enc:α→List Value}{ps qs:List α}{L:Cells}(is lp:List Nat)(B:Cells)(kQ:az v sz E enc ps L)(KV:∀s:St,Ext ⟨X.ro,[]⟩ s→(∀x∈B,s.has x.1 x.2)→Sl s w sz enc qs)(hq:∀p∈qs,∀c∈enc p,single c=true)(hb:ps.length+qs.length≤1048576)(hj:∀v' L',az v' sz E enc (ps++qs) L'→J X (ZY is v' L' o))
 (hv:fq X.n (apV X.P X.n) o=some (v,w,E,sz):=by kernel_rfl)(h2:ei is o=some L:=by kernel_rfl)(h3:ei lp o=some B:=by kernel_rfl):J X o:=by
 obtain⟨ops,i0,todo,kk,ev,w0,kn,p,rfl,ho,hw,hc⟩:=dB hv
 obtain⟨x,y,T,U,s1,b1,z1,a1,E2,s2,b2,z2,a2,d,bC,z,ag,aA,tf1,qT,tf3,hz,hby,hx,hy⟩:=awY hc
 intro bW
 rcases p with ⟨dst,op,ty,pos,c8,g⟩
 dsimp only at aA;subst aA
 have hp:=bI h2
 refine vP X.hC hp<|oap X.hC ho hw tf1 qT tf3 hz hx hy kQ (KV _ NG fun u hu=>?_) hq ⟨hb,hby⟩ fun v' L' hL'=>?_
 ·rcases RF (X:=X) h3 u hu with h|h
  ·exact .inl h
  exact .inr (hp.mem_iff.1 h)
 have:=hj v' L' hL'
 rw[WY ho] at this
 have:=this bW
 simp only[JP,gF] at this
 exact this
theorem aQe{w:Value}(enc:α→List Value){qs:List α}(lp:List Nat)(B:Cells)(KV:∀s:St,Ext ⟨X.ro,[]⟩ s→(∀x∈B,s.has x.1 x.2)→Sl s w sz enc qs)(hq:∀p∈qs,∀c∈enc p,single c=true)(hb:qs.length≤1048576)(hj:∀v' L',az v' sz E enc qs L'→J X (ZY [] v' L' o))
 (hv:fq X.n (apV X.P X.n) o=some (.slice none 0 0,w,E,sz):=by kernel_rfl)(h3:ei lp o=some B:=by kernel_rfl)(h2:ei [] o=some []:=by kernel_rfl):J X o:=
 jq (ps:=[]) [] lp B (az.nil sz E enc) KV hq (by simpa using hb) (fun v' L' h=>hj v' L' h) hv h2 h3
end
attribute [irreducible] ZY
end Go.L
