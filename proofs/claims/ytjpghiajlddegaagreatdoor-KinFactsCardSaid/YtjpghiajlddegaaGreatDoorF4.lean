/- Part 4 of the proof. -/
import Derived.Test.YtjpghiajlddegaaGreatDoorF3
import Derived.KernelRfl
import GoSem.Extern.Table
set_option maxRecDepth 100000
set_option linter.all false
namespace Go.L
open Go Go.Conc
variable {x y:Operand} {α ι β:Type} {T E T' T2 U:TypeId} {e:Env} {b:ByteArray} {sz n k off i szo iO vz cap id:Nat} {l vs args z':List Value} {P:Program} {f:FuncId} {R:Ending→St→Prop} {Φ:Value→Cells→Prop} {todo ps nG hs:List Nat} {s:St} {p o:Oper} {aF:Nat→Option Obj} {fz:Nat×Nat} {xs:Array Operand} {at_:Array TypeId} {hi lo:Int} {Y B rw' fr:Cells} {g xf:Bool}
theorem cv.part{b o m:Nat}{ws:List Value}(h:cv s b o m vs)(j k:Nat)(hj:sub vs j k=some ws):cv s b (o+j) k ws:=by
 obtain⟨l,t,fz,h1,h2⟩:=h
 obtain⟨h3,h4⟩:=sub_eq _ _ _ _ h2
 obtain⟨h5,h6⟩:=sub_eq _ _ _ _ hj
 refine⟨l,t,fz,h1,?_⟩
 have hlen:(o+j)+k≤l.length:=by
  rcases Nat.eq_zero_or_pos k with h0|h0
  ·subst h0
   have:o+j≤l.length:=by
    have h7:sub vs j 0=some ws:=hj
    have hjl:j≤vs.length:=by
     have key:∀(l:List Value) (j:Nat) (ws:List Value),sub l j 0=some ws→j≤l.length:=by
      intro l
      induction l with
      |nil=>intro j ws h;cases j with
       |zero=>simp
       |succ j=>simp[sub] at h
      |cons x l ih=>intro j ws h;cases j with
       |zero=>simp
       |succ j=>have:=ih j ws (by simpa [sub] using h);simp;omega
     exact key _ _ _ h7
    have hol:o+m≤l.length∨m=0:=by
     rcases Nat.eq_zero_or_pos m with h8|h8
     ·exact .inr h8
     left
     have:=h4 (m-1) vs[m-1] (by rw[List.getElem?_eq_getElem])
     have:=(List.getElem?_eq_some_iff.1 this).1
     omega
    rcases hol with h9|h9
    ·omega
    have aPf:∀(l:List Value) (o:Nat) (ws:List Value),sub l o 0=some ws→o≤l.length:=by
     intro l
     induction l with
     |nil=>intro j ws h;cases j with
      |zero=>simp
      |succ j=>simp[sub] at h
     |cons x l ih=>intro j ws h;cases j with
      |zero=>simp
      |succ j=>have:=ih j ws (by simpa [sub] using h);simp;omega
    rw[h9] at h2
    have:=aPf _ _ _ h2
    omega
   omega
  have:=h6 (k-1) ws[k-1] (by rw[List.getElem?_eq_getElem])
  have:=h4 _ _ this
  have:=(List.getElem?_eq_some_iff.1 this).1
  omega
 rw[jo hlen]
 congr 1
 apply List.ext_getElem?
 intro i
 by_cases hi:i <k
 ·have h7:=h4 _ _ (h6 i ws[i] (by rw[List.getElem?_eq_getElem]))
  rw[List.getElem?_take_of_lt hi,List.getElem?_drop,List.getElem?_eq_getElem (show i <ws.length by omega),←h7,Nat.add_assoc]
 rw[List.getElem?_eq_none (by simp;omega),List.getElem?_eq_none (by omega)]
def Pp(ag:Bool)(l:List Value)(o sz:Nat):Option Value:=bif ag then (match sub l o sz with|some m=>some (.agg ⟨m⟩)|none=>none) else nth l o
theorem VS{t:TypeId}{z:List Value}{d:TypeDesc}{bx:Nat}{ag:Bool}(tf:TF P t d sz bx z ag){o:Nat}{v:Value}(hv:Pp ag l o sz=some v){k:Value→Sem α}{Q:α→St→Prop}{E:Halt→St→Prop}:bL P (part t ⟨l⟩ o >>= k) s Q E=bL P (k v) s Q E:=by
 cases ag with
 |false=>exact Lq tf hv
 |true=>
  simp only[Pp,cond_true] at hv
  split at hv
  ·rename_i m hm
   cases hv
   exact Ln tf hm
  cases hv
section rules
variable {P:Program} {C:Class} {fn:FuncId} {aA:Option Nat} {Q:Post} {s:St} {n:Nat} {env:Env} {D:List Deferred}
variable {ops:Array Oper} {i:Nat} {rest:List Nat} {dst:Option Tmp} {ty:TypeId} {pos:String} {c8:Array Edge} {g:Option (Nat×Bool)}
variable {T:TypeId} {d:TypeDesc} {sz bx:Nat} {z:List Value} {ag:Bool}
theorem ads(hC:∀main T,C main T→Closed P main T){k:IntKind}{ix:Int}{len:Nat}{d':TypeDesc}{v:Value}(ho:ops[i]?=some ⟨dst,.index T x y,ty,pos,c8,g⟩) (hw:av ops n env g=true)
 (tf:TF P T (.array len E) sz bx z ag) (ku:TF P E d' iO vz z' xf) (hx:bh n env x=some (.agg ⟨l⟩)) (hy:bh n env y=some (.int k ix)) (hi:0≤ix∧ix <len) (hv:Pp xf l (ix.toNat*iO) iO=some v)
 (h:ab C fn aA ops rest Q (A n (upd dst v env) D) s):ab C fn aA ops (i::rest) Q (A n env D) s:=by
 refine bN hC ho hw (by simp) ?_
 simp only[execOp,Instr.index,aE hx,aE hy,asIntOf,asAgg,aa,ae,aX tf,hi,and_self,if_true,cg ku]
 rw[VS ku hv,←aV] at*
 exact h
end rules
section rules
variable {P:Program} {C:Class} {fn:FuncId} {aA:Option Nat} {Q:Post} {s:St} {n:Nat} {env:Env} {D:List Deferred}
variable {ops:Array Oper} {i:Nat} {rest:List Nat} {dst:Option Tmp} {ty:TypeId} {pos:String} {c8:Array Edge} {g:Option (Nat×Bool)}
theorem wr(hC:∀main T,C main T→Closed P main T){l:List Nat}(hl:List.range ops.size=l)(h:ab C fn aA ops l Q (A n env D) s):Wp C fn aA (.region id ops false) Q (A n env D) s:=wp_region hC (hl▸h)
theorem on(hC:∀main T,C main T→Closed P main T){K:Act→St→Prop}(h:K (A n env D) s):ab C fn aA ops [] (mI K Q) (A n env D) s:=uf hC h
end rules
theorem c:∀main T,CP P main T→Closed P main T:=fg
def aR(k:IntKind)(a b:Int):Int:=a.fdiv (2^(min b.toNat k.bits))
def dJ(k:IntKind)(a b:Int):Int:=k.wrap (a*2^(min b.toNat k.bits))
def TD(k:IntKind)(a b:Int):Int:=k.wrap (BitVec.ofInt k.bits a&&& BitVec.ofInt k.bits b).toNat
def Kp(k:IntKind)(a b:Int):Int:=k.wrap (BitVec.ofInt k.bits a|||BitVec.ofInt k.bits b).toNat
def cS(k:IntKind)(a b:Int):Int:=k.wrap (BitVec.ofInt k.bits a^^^BitVec.ofInt k.bits b).toNat
theorem Ol(k:IntKind)(h:k.signed=false)(n:Int):0≤k.wrap n∧k.wrap n <2^k.bits:=by
 have hp:(0:Int) <2^k.bits:=Int.pow_pos (by decide)
 simp only[IntKind.wrap,h,Bool.false_and,Bool.false_eq_true,if_false]
 exact⟨Int.emod_nonneg _ (by omega),Int.emod_lt_of_pos _ hp⟩
theorem sP(k:IntKind)(h:k.signed=false)(n:Int)(h0:0≤n)(h1:n <2^k.bits):k.wrap n=n:=by
 simp only[IntKind.wrap,h,Bool.false_and,Bool.false_eq_true,if_false]
 exact Int.emod_eq_of_lt h0 h1
theorem uu(a b:Int):0≤cS .u64 a b∧cS .u64 a b <18446744073709551616:=Ol .u64 rfl _
theorem aOW{p0 p1 p2 p3 x:Int}(h: [p0,p1,p2,p3][k]?=some x):nth [.int .i64 p0,.int .i64 p1,.int .i64 p2,.int .i64 p3] k=some (.int .i64 x):=by
 rcases k with _|_|_|_|k
 all_goals first| (simp at h;subst h;rfl)|simp at h
theorem eS.ayQ{own:Cells}(hp:s.rw.Perm (own++fr))(hf:eS P f vs s.ro own Φ):
 Fn (CP P) P f ⟨vs⟩ s (fun en s'=>∃v X,en= .returned v∧Φ v X∧(⟨s.ro,X++fr⟩:St).le s'):=by
 refine Fn.mono (Fn.frame (fr:=fr) (B:=[]) (ro:=s.ro) (s:=s) hf (fun _ h=>(by cases h)) ⟨hp,fun b o hb=> .inl hb,Sub.refl _⟩) fun en s' DI=>?_
 obtain⟨yM,⟨v,X,rfl,rfl,qE⟩,hc⟩:=DI
 exact⟨v,X,rfl,qE,[],by simpa using hc.rw,fun b o hb=> .inl (hc.keep b o hb)⟩
def Knows(ro:Nat→Option Obj)(X:Cells):Prop:=∀x∈X,ro x.1=some x.2
theorem Knows.up{ro:Nat→Option Obj}{X:Cells}(h:Knows ro X)(hs:Sub ro aF):Knows aF X:=fun x hx=>hs _ _ (h x hx)
theorem Knows.left{ro:Nat→Option Obj}{X:Cells}(h:Knows ro (X++Y)):Knows ro X:=fun x hx=>h x (List.mem_append_left _ hx)
theorem Knows.right{ro:Nat→Option Obj}{X:Cells}(h:Knows ro (X++Y)):Knows ro Y:=fun x hx=>h x (List.mem_append_right _ hx)
theorem Knows.tail{ro:Nat→Option Obj}{x:Nat×Obj}(h:Knows ro (x::Y)):Knows ro Y:=fun y hy=>h y (List.mem_cons_of_mem _ hy)
theorem Knows.head{ro:Nat→Option Obj}{x:Nat×Obj}(h:Knows ro (x::Y)):ro x.1=some x.2:=h x List.mem_cons_self
theorem xv{b:Nat}{enc:α→List Value}{ps:List α}(h:s.has b (.cells ⟨(ps.map enc).flatten⟩ T fz))(hl:∀p∈ps,(enc p).length=sz){x:α}(hx:ps[k]?=some x):cv s b (0+k*sz) sz (enc x):=by
 have h2:=CU ps hl k x hx
 have hm:x∈ps:=List.mem_of_getElem? hx
 have h3:=hl x hm
 refine⟨_,T,fz,h,?_⟩
 rw[Nat.zero_add,jo,h2]
 rw[kQ ps hl]
 have:=(List.getElem?_eq_some_iff.1 hx).1
 calc k*sz+sz=(k+1)*sz:=by rw[Nat.succ_mul]
  _≤ps.length*sz:=Nat.mul_le_mul_right _ (by omega)
theorem bV{ro:Nat→Option Obj}{b:Nat}{enc:α→List Value}(ps:List α)(h:ro b=some (.cells ⟨(ps.map enc).flatten⟩ T fz))(hl:∀p∈ps,(enc p).length=sz):bE ro (.slice (some ⟨b,0,none⟩) ps.length ps.length) sz enc ps:=
 ⟨_,b,0,_,rfl,Nat.le_refl _,fun _ _=>rfl,fun _ _ hx=>xv (.inl h) hl hx⟩
section rules
variable {P:Program} {C:Class} {fn:FuncId} {aA:Option Nat} {Q:Post} {s:St} {n:Nat} {env:Env} {D:List Deferred}
variable {ops:Array Oper} {i:Nat} {rest:List Nat} {dst:Option Tmp} {ty:TypeId} {pos:String} {c8:Array Edge} {g:Option (Nat×Bool)}
variable {T:TypeId} {d:TypeDesc} {sz bx:Nat} {z:List Value} {ag:Bool}
theorem aAE(hC:∀main T,C main T→Closed P main T){k k':IntKind}{a b:Int}(ho:ops[i]?=some ⟨dst,.binOp .shr T x y T',ty,pos,c8,g⟩) (hw:av ops n env g=true)
 (hx:bh n env x=some (.int k a)) (hy:bh n env y=some (.int k' b)) (hb:0≤b) (h:ab C fn aA ops rest Q (A n (upd dst (.int k (aR k a b)) env) D) s):ab C fn aA ops (i::rest) Q (A n env D) s:=by
 refine tj hC ho hw (by simp) ?_ h
 simp only[execOp,aE hx,aE hy]
 have he:eqGuard .shr T x y (.int k a) (.int k' b)=Sem.pure ():=rfl
 have hv:binOp .shr T (.int k a) (.int k' b)=Sem.pure (.int k (aR k a b)):=by
  show Op.shift .shr k a k' b=_
  simp only[Op.shift,show ¬b <0 by omega,if_false];rfl
 rw[he]
 show Sem.bind (Sem.bind (Sem.pure ()) fun _=>binOp .shr T (.int k a) (.int k' b)) _=_
 simp only[Sem.bind,hv]
 rfl
theorem aAF(hC:∀main T,C main T→Closed P main T){k k':IntKind}{a b:Int}(ho:ops[i]?=some ⟨dst,.binOp .shl T x y T',ty,pos,c8,g⟩) (hw:av ops n env g=true)
 (hx:bh n env x=some (.int k a)) (hy:bh n env y=some (.int k' b)) (hb:0≤b) (h:ab C fn aA ops rest Q (A n (upd dst (.int k (dJ k a b)) env) D) s):ab C fn aA ops (i::rest) Q (A n env D) s:=by
 refine tj hC ho hw (by simp) ?_ h
 simp only[execOp,aE hx,aE hy]
 have he:eqGuard .shl T x y (.int k a) (.int k' b)=Sem.pure ():=rfl
 have hv:binOp .shl T (.int k a) (.int k' b)=Sem.pure (.int k (dJ k a b)):=by
  show Op.shift .shl k a k' b=_
  simp only[Op.shift,show ¬b <0 by omega,if_false];rfl
 rw[he]
 show Sem.bind (Sem.bind (Sem.pure ()) fun _=>binOp .shl T (.int k a) (.int k' b)) _=_
 simp only[Sem.bind,hv]
 rfl
end rules
theorem bS{b:Nat}{enc:α→List Value}(ps:List α)(h:s.has b (.cells ⟨(ps.map enc).flatten⟩ T fz))(hl:∀p∈ps,(enc p).length=sz):Sl s (.slice (some ⟨b,0,none⟩) ps.length cap) sz enc ps:=
 ⟨_,b,0,cap,rfl,fun _ _=>rfl,fun _ _ hx=>xv h hl hx⟩
theorem bw{b:Nat}{enc:α→List Value}:ax (.slice (some ⟨b,0,none⟩) 0 0) sz T enc ([]:List α) [(b,.cells ⟨[]⟩ T (0,0))]:=
 .inr ⟨b,[],0,rfl,rfl,by simp,by simp,by simp,by simp⟩
theorem ax.form{v:Value}{enc:α→List Value}{ps:List α}{L:Cells}(h:ax v sz T enc ps L):∃a c,v= .slice a ps.length c:=by
 rcases h with ⟨h1,h2,_⟩| ⟨b,l,cap,h1,_⟩
 ·subst h2;exact⟨none,0,h1⟩
 exact⟨_,cap,h1⟩
def NP(v:Value)(b:Nat):Prop:=∃n c,v= .slice (some ⟨b,0,none⟩) n c
theorem cD{v:Value}{enc:α→List Value}{ps:List α}{L:Cells}(h:ax v sz T enc ps L){b:Nat}(hb:NP v b)(hs:∀x∈L,s.has x.1 x.2){x:α}(hx:ps[k]?=some x):cv s b (k*sz) sz (enc x):=by
 obtain⟨a,b',o,c,h1,h2,h3⟩:=h.sl hs
 have hk:=(List.getElem?_eq_some_iff.1 hx).1
 have h4:=h2 k hk
 obtain⟨n,c',h5⟩:=hb
 rw[h1] at h5
 cases h5
 cases h4
 have:=h3 k x hx
 rwa[Nat.zero_add] at this
theorem aAz{v:Value}{enc:α→List Value}{ps:List α}{L:Cells}(h:ax v sz T enc ps L)(hk:k <ps.length):∃b,NP v b:=by
 rcases h with ⟨_,h2,_⟩| ⟨b,l,cap,h1,_⟩
 ·subst h2;simp at hk
 exact⟨b,_,_,h1⟩
theorem QX{enc:α→List Value}:∀(ps:List α),(∀p∈ps,(enc p).length=sz)→∀(k:Nat) (x:α),(enc x).length=sz→k <ps.length→∀l:List Value,l.take (ps.length*sz)=(ps.map enc).flatten→(dI l (k*sz) (enc x)).take (ps.length*sz)=((ps.set k x).map enc).flatten:=by
 intro ps TX k x hx hk l hl
 have hle:ps.length*sz≤l.length:=by
  have h1:=kQ ps TX
  rw[←hl,List.length_take] at h1
  omega
 have hks:k*sz+sz≤ps.length*sz:=by
  have:(k+1)*sz≤ps.length*sz:=Nat.mul_le_mul_right _ (by omega)
  rw[Nat.succ_mul] at this;exact this
 have hA:((ps.take k).map enc).flatten.length=k*sz:=by
  rw[kQ _ (fun p hp=>TX p (List.mem_of_mem_take hp)),List.length_take,Nat.min_eq_left (by omega)]
 have hC:((ps.drop (k+1)).map enc).flatten.length=(ps.length-(k+1))*sz:=by
  rw[kQ _ (fun p hp=>TX p (List.mem_of_mem_drop hp)),List.length_drop]
 have hB:=TX ps[k] (List.getElem_mem hk)
 have atx:(ps.map enc).flatten=((ps.take k).map enc).flatten++(enc ps[k]++((ps.drop (k+1)).map enc).flatten):=by
  have h3:ps=ps.take k++ps[k]::ps.drop (k+1):=by rw[←List.drop_eq_getElem_cons hk,List.take_append_drop]
  have h4:=congrArg (fun q:List α=>(q.map enc).flatten) h3
  simp only[List.map_append,List.map_cons,List.flatten_append,List.flatten_cons] at h4
  exact h4
 have q5:l=((ps.take k).map enc).flatten++(enc ps[k]++(((ps.drop (k+1)).map enc).flatten++l.drop (ps.length*sz))):=by
  have h3:=(List.take_append_drop (ps.length*sz) l).symm
  rw[hl,atx] at h3
  simp only[List.append_assoc] at h3
  exact h3
 have pE:((ps.set k x).map enc).flatten=((ps.take k).map enc).flatten++(enc x++((ps.drop (k+1)).map enc).flatten):=by
  rw[List.set_eq_take_append_cons_drop,if_pos hk]
  simp only[List.map_append,List.map_cons,List.flatten_append,List.flatten_cons]
 have aQJ:dI l (k*sz) (enc x)=((ps.take k).map enc).flatten++(enc x++(((ps.drop (k+1)).map enc).flatten++l.drop (ps.length*sz))):=by
  rw[ry _ _ _ (by omega),hx,List.append_assoc]
  congr 1
  ·conv=>lhs;rw[q5]
   rw[←hA,List.take_left]
  congr 1
  conv=>lhs;rw[q5]
  rw[←List.append_assoc,←List.append_assoc,List.append_assoc _ _ (List.drop _ _)]
  rw[show k*sz+sz=(((ps.take k).map enc).flatten++enc ps[k]).length by rw[List.length_append,hA,hB],List.drop_left]
 rw[aQJ,pE,←List.append_assoc,←List.append_assoc]
 have hlen:(((ps.take k).map enc).flatten++enc x++((ps.drop (k+1)).map enc).flatten).length=ps.length*sz:=by
  rw[List.length_append,List.length_append,hA,hx,hC]
  have:ps.length*sz=(k+1+(ps.length-(k+1)))*sz:=by congr 1;omega
  rw[this,Nat.add_mul,Nat.succ_mul]
 rw[←hlen,List.take_left,List.append_assoc]
section rules
variable {P:Program} {C:Class} {fn:FuncId} {aA:Option Nat} {Q:Post} {s:St} {n:Nat} {env:Env} {D:List Deferred}
variable {ops:Array Oper} {i:Nat} {rest:List Nat} {dst:Option Tmp} {ty:TypeId} {pos:String} {c8:Array Edge} {g:Option (Nat×Bool)}
variable {T:TypeId} {d:TypeDesc} {sz bx:Nat} {z:List Value} {ag:Bool}
theorem Tg(hC:∀main T,C main T→Closed P main T){w:Operand}{k k':IntKind}(ho:ops[i]?=some ⟨dst,.slice T x (some y) (some w) none,ty,pos,c8,g⟩) (hw:av ops n env g=true) (tf:TF P T .string sz bx z ag)
 (hx:bh n env x=some (.string b)) (hy:bh n env y=some (.int k lo)) (hz:bh n env w=some (.int k' hi)) (hl:0≤lo∧lo≤hi∧hi≤b.size) (h:ab C fn aA ops rest Q (A n (upd dst (.string (b.extract lo.toNat hi.toNat)) env) D) s):ab C fn aA ops (i::rest) Q (A n env D) s:=by
 refine bN hC ho hw (by simp) ?_
 have h1:0≤hi∧hi≤(b.size:Int):=by omega
 have h2:0≤lo∧lo≤(hi.toNat:Int):=by omega
 simp only[execOp,Option.map_some,Option.map_none,Instr.sliceAt,Instr.slice,aE hx,aE hy,aE hz,aa,aX tf,Instr.sliceBounds,Instr.sliceBound,asIntOf,ae,Option.isSome_none,Bool.false_eq_true,if_false,h1,h2,and_self,if_true]
 rw[←aV] at h
 exact h
theorem PB(hC:∀main T,C main T→Closed P main T){w:Operand}{k':IntKind}(ho:ops[i]?=some ⟨dst,.slice T x none (some w) none,ty,pos,c8,g⟩) (hw:av ops n env g=true) (tf:TF P T .string sz bx z ag)
 (hx:bh n env x=some (.string b)) (hz:bh n env w=some (.int k' hi)) (hl:0≤hi∧hi≤b.size) (h:ab C fn aA ops rest Q (A n (upd dst (.string (b.extract 0 hi.toNat)) env) D) s):ab C fn aA ops (i::rest) Q (A n env D) s:=by
 refine bN hC ho hw (by simp) ?_
 simp only[execOp,Option.map_some,Option.map_none,Instr.sliceAt,Instr.slice,aE hx,aE hz,aa,aX tf,Instr.sliceBounds,Instr.sliceBound,asIntOf,ae,Option.isSome_none,Bool.false_eq_true,if_false,hl,and_self,if_true]
 rw[←aV] at h
 exact h
theorem PA(hC:∀main T,C main T→Closed P main T){k:IntKind}(ho:ops[i]?=some ⟨dst,.slice T x (some y) none none,ty,pos,c8,g⟩) (hw:av ops n env g=true) (tf:TF P T .string sz bx z ag)
 (hx:bh n env x=some (.string b)) (hy:bh n env y=some (.int k lo)) (hl:0≤lo∧lo≤b.size) (h:ab C fn aA ops rest Q (A n (upd dst (.string (b.extract lo.toNat b.size)) env) D) s):ab C fn aA ops (i::rest) Q (A n env D) s:=by
 refine bN hC ho hw (by simp) ?_
 simp only[execOp,Option.map_some,Option.map_none,Instr.sliceAt,Instr.slice,aE hx,aE hy,aa,aX tf,Instr.sliceBounds,Instr.sliceBound,asIntOf,ae,Option.isSome_none,Bool.false_eq_true,if_false,hl,and_self,if_true]
 rw[←aV] at h
 exact h
theorem bE.part{ro:Nat→Option Obj}{a:Option Addr}{len:Nat}{enc:α→List Value}{ps:List α}(hs:bE ro (.slice a len cap) sz enc ps){l h:Nat}(hl:l≤h)(hh:h≤ps.length):bE ro (.slice (if cap=l then a else a.map (·.add (l*sz))) (h-l) (cap-l)) sz enc ((ps.take h).drop l):=by
 obtain⟨a',b,o,aU3,h1,h2,h3,h4⟩:=hs
 cases h1
 have hlen:((ps.take h).drop l).length=h-l:=by rw[List.length_drop,List.length_take];omega
 refine⟨_,b,o+l*sz,_,by rw[hlen],by omega,fun k hk=>?_,fun i p hp=>?_⟩
 ·have:=h3 0 (by omega)
  subst this
  rw[if_neg (by omega)]
  simp[dX]
 rw[List.getElem?_drop] at hp
 have hi:l+i <h:=by
  have:=(List.getElem?_eq_some_iff.1 hp).1
  rw[List.length_take] at this;omega
 rw[List.getElem?_take_of_lt hi] at hp
 have:=h4 _ _ hp
 rwa[show o+(l+i)*sz=o+l*sz+i*sz by rw[Nat.add_mul];omega] at this
theorem adq(hC:∀main T,C main T→Closed P main T){v:Value}{enc:α→List Value}{ps:List α}{L:Cells}(ho:ops[i]?=some ⟨dst,.call ⟨.builtin .len,#[x],#[T]⟩,ty,pos,c8,g⟩) (hw:av ops n env g=true)
 (tf:TF P T (.slice E) sz bx z ag) (hx:bh n env x=some v) (ld:ax v szo T2 enc ps L) (h:ab C fn aA ops rest Q (A n (upd dst (.int .i64 ps.length) env) D) s):ab C fn aA ops (i::rest) Q (A n env D) s:=by
 obtain⟨a,c,rfl⟩:=ld.form
 exact aAJ hC ho hw tf hx h
end rules
theorem dY{ro:Nat→Option Obj}{K J:Cells}(hp:rw'.Perm (K++J))(h:Sub ro aF):(⟨ro,K⟩:St).le ⟨aF,rw'⟩:=⟨J,hp,fun b o hb=> .inl (h b o hb)⟩
theorem ai(h:l.all single=true):∀v∈l,single v=true:=List.all_eq_true.1 h
section any
variable {P:Program} {C:Class} {fn:FuncId} {aA:Option Nat} {Q:Post} {s:St} {n:Nat} {D:List Deferred} {ops:Array Oper} {base:Env}
def aqf(C:Class)(fn:FuncId)(aA:Option Nat)(ops:Array Oper)(n:Nat)(D:List Deferred)(base:Env)(Pl Sl:List (Nat×Value))(Q:Post)(s:St)(i:Nat):Prop:=
 ∀rest todo,(∀v s',(∀j w,(j,w)∈pending ops i Sl→e8 C fn aA ops n D j w (cm ops base j Pl) s→e8 C fn aA ops n D j w (cm ops base j Pl) s')→
  tL C fn aA ops n D base ((i,v)::Pl) (pending ops i Sl) Q s'→ab C fn aA ops todo Q (A n (upd (aO ops i) v (cm ops base i Pl++rest)) D) s')→
  ab C fn aA ops (i::todo) Q (A n (cm ops base i Pl++rest) D) s
def xR(C:Class)(fn:FuncId)(aA:Option Nat)(ops:Array Oper)(n:Nat)(D:List Deferred)(base:Env)(Pl Sl:List (Nat×Value))(Q:Post)(s:St):List Nat→Prop
 | []=>True
 |i::is=>aqf C fn aA ops n D base Pl Sl Q s i∧xR C fn aA ops n D base Pl Sl Q s is
theorem xR.mem{Pl Sl:List (Nat×Value)}:∀ {is:List Nat},xR C fn aA ops n D base Pl Sl Q s is→∀i∈is,aqf C fn aA ops n D base Pl Sl Q s i
 | [],_,i,hi=>by cases hi
 |k::is,h,i,hi=>by
  rcases List.mem_cons.1 hi with rfl|hi
  ·exact h.1
  exact xR.mem h.2 i hi
def adl(ops:Array Oper)(ks:List Nat)(is:List Nat):Bool:=
 (List.range ops.size).all fun j=>aY j ks||aY j is||(bk ops j).any fun k=> !aY k ks
theorem aaH{Pl Sl:List (Nat×Value)}(is:List Nat)(nt:fW ops=true)(his:(is.all fun i=>Nat.blt i ops.size&& !aY i (aj Pl))=true)(mN:nodupB (aj Pl)=true)(j8:pw ops (aj Pl)=true)(hs:fX (aj Sl) (aj Pl)=true)(ho:adl ops (aj Pl) is=true)
 (h:xR C fn aA ops n D base Pl Sl Q s is)(eB:is.isEmpty=false):tL C fn aA ops n D base Pl Sl Q s:=by
 have qZ:∀i∈is,i∉aj Pl:=fun i hi hm=>by
  have:=(List.all_eq_true.1 his) i hi
  rw[aJ.2 hm] at this;simp at this
 have I7:∀i∈is,i <ops.size:=fun i hi=>by
  have:=(List.all_eq_true.1 his) i hi
  simp only[Bool.and_eq_true,Nat.blt_eq] at this
  exact this.1
 have GU:∀(l:List (Nat×Value)),nodupB (aj l)=true→∀j v w,(j,v)∈l→(j,w)∈l→w=v:=by
  intro l
  induction l with
  |nil=>intro _ j v w h;cases h
  |cons x l ih=>
   rcases x with ⟨k,u⟩
   intro hb j v w h1 h2
   simp only[aj,nodupB,Bool.and_eq_true,Bool.not_eq_true'] at hb
   have hk:k∉aj l:=fun hm=>by rw[aJ.2 hm] at hb;cases hb.1
   rcases List.mem_cons.1 h1 with h1|h1<;>rcases List.mem_cons.1 h2 with h2|h2
   ·cases h1;cases h2;rfl
   ·cases h1;exact absurd (aN.2 ⟨_,h2⟩) hk
   ·cases h2;exact absurd (aN.2 ⟨_,h1⟩) hk
   exact ih hb.2 j v w h1 h2
 intro hSl X l
 induction l generalizing X with
 |nil=>
  intro env hX hl pF hf
  cases is with
  |nil=>cases eB
  |cons i is=>exact absurd (hX i (pF i (I7 i List.mem_cons_self))) (qZ i List.mem_cons_self)
 |cons j l ih=>
  intro env hX hl pF hf
  obtain⟨h1,h2,h3,h4⟩:=pF
  by_cases hj:j∈aj Pl
  ·
   obtain⟨w,hw⟩:=aN.1 hj
   obtain⟨rest,hr⟩:=wP (n:=n) (D:=D) hf j h3 h2
   rw[hr]
   refine hSl j w (hl j w hw h2) s (Ext.refl s) rest l Q ?_
   rw[←Di hr]
   refine ih (j::X) _ (fun k hk=>?_) (fun k u hk BF=>hl k u hk (fun h=>BF (List.mem_cons_of_mem _ h))) h4 (tD nt hf h1 h2 h3 (fun u hu=>GU Pl mN j w u hw hu))
   rcases List.mem_cons.1 hk with rfl|hk
   ·exact hj
   exact hX k hk
  by_cases Ae:j∈is
  ·have h:=xR.mem h j Ae
   have qZ:=qZ j Ae
   obtain⟨rest,hr⟩:=wP (n:=n) (D:=D) hf j h3 h2
   rw[hr]
   refine h rest l fun v s' hp ha=>?_
   rw[←Di hr]
   have MW:∀k,k∈aj Pl→j∉bk ops k:=by
    intro k hk hm
    have:=(List.all_eq_true.1 j8) k hk
    exact qZ (bI.1 this j hm)
   have TX:∀k u,(k,u)∈pending ops j Sl→(k,u)∈Sl:=fun k u hk=>(List.mem_filter.1 hk).1
   refine ha (fun k u hk=>?_) (j::X) l _ (fun k hk=>?_) (fun k u hk BF=>?_) h4 ?_
   ·rw[cO (MW k (bI.1 hs k (aN.2 ⟨u,TX k u hk⟩)))]
    exact hp k u hk (hSl k u (TX k u hk))
   ·rcases List.mem_cons.1 hk with rfl|hk
    ·simp[aj]
    exact List.mem_cons_of_mem _ (hX k hk)
   ·rcases List.mem_cons.1 hk with hk|hk
    ·cases hk;exact absurd (by simp) BF
    have MP:k∉X:=fun h=>BF (List.mem_cons_of_mem _ h)
    refine List.mem_filter.2 ⟨hl k u hk MP,?_⟩
    cases hm:aY k (bk ops j) with
    |false=>rfl
    |true=>exact absurd (h3 k (aJ.1 hm)) MP
   refine tD nt (CV hf h2) h1 h2 h3 fun u hu=>?_
   rcases List.mem_cons.1 hu with hu|hu
   ·cases hu;rfl
   exact absurd (aN.2 ⟨_,hu⟩) qZ
  exfalso
  have:=(List.all_eq_true.1 ho) j (List.mem_range.2 h1)
  have e1:aY j (aj Pl)=false:=by
   cases hm:aY j (aj Pl) with
   |false=>rfl
   |true=>exact absurd (aJ.1 hm) hj
  have e2:aY j is=false:=by
   cases hm:aY j is with
   |false=>rfl
   |true=>exact absurd (aJ.1 hm) Ae
  rw[e1,e2] at this
  simp only[Bool.false_or,List.any_eq_true,Bool.not_eq_true'] at this
  obtain⟨k,hk,bR⟩:=this
  have:=hX k (h3 k hk)
  rw[aJ.2 this] at bR;cases bR
end any
section rules
variable {P:Program} {C:Class} {fn:FuncId} {aA:Option Nat} {Q:Post} {s:St} {n:Nat} {env:Env} {D:List Deferred}
variable {ops:Array Oper} {i:Nat} {rest:List Nat} {dst:Option Tmp} {ty:TypeId} {pos:String} {c8:Array Edge} {g:Option (Nat×Bool)}
variable {T:TypeId} {d:TypeDesc} {sz bx:Nat} {z:List Value} {ag:Bool} {ro:Nat→Option Obj}
theorem wu{a:Act}(hC:∀main T,C main T→Closed P main T){rw:Cells}(hp:rw'.Perm rw)(h:ab C fn aA ops todo Q a ⟨ro,rw⟩):ab C fn aA ops todo Q a ⟨ro,rw'⟩:=
 ab.more (s:=⟨ro,rw⟩) (s':=⟨ro,rw'⟩) hC ⟨[],by rw[List.append_nil];exact hp,fun b o hb=> .inl hb⟩ h
theorem oap(hC:∀main T,C main T→Closed P main T){v w:Value}{enc:α→List Value}{ps qs:List α}{L R:List (Nat×Obj)}{d':TypeDesc}{E2:TypeId}{sz2 Bt:Nat}{z2:List Value}{ag2:Bool} 
 (ho:ops[i]?=some ⟨dst,.call ⟨.builtin .append,#[x,y],#[T,U]⟩,ty,pos,c8,g⟩) (hw:av ops n env g=true) (tf:TF P T (.slice E) sz bx z ag) (RG:TF P U (.slice E2) sz2 Bt z2 ag2) (ku:TF P E d' iO vz z' xf) (hz:z'.length=iO)
 (hx:bh n env x=some v) (hy:bh n env y=some w) (ld:ax v iO E enc ps L) (Kr:Sl ⟨ro,L++R⟩ w iO enc qs) (hq:∀p∈qs,∀c∈enc p,single c=true) (hb:wy (ps.length+qs.length) vz)
 (h:∀v' L',ax v' iO E enc (ps++qs) L'→ab C fn aA ops rest Q (A n (upd dst v' env) D) ⟨ro,L'++R⟩):ab C fn aA ops (i::rest) Q (A n env D) ⟨ro,L++R⟩:=
 PG hC ho hw tf RG ku hz hx hy ld Kr (pre:=[]) rfl hq hb h
theorem ost(hC:∀main T,C main T→Closed P main T){b o:Nat}{v:Value}{R:List (Nat×Obj)}{c:List Value}{e:TypeId}(ho:ops[i]?=some ⟨dst,.store T x y,ty,pos,c8,g⟩) (hw:av ops n env g=true) (tf:TF P T d sz bx z ag)
 (hx:bh n env x=some (.pointer (some ⟨b,o,none⟩))) (hy:bh n env y=some (v)) (hl:v.cells=⟨l⟩) (hn:l.length=sz) (h1:∀v∈l,single v=true) (hb:o+l.length≤c.length)
 (h:ab C fn aA ops rest Q (A n (upd dst undef env) D) ⟨ro,(b,.cells ⟨dI c o l⟩ e (0,0))::R⟩):ab C fn aA ops (i::rest) Q (A n env D) ⟨ro,(b,.cells ⟨c⟩ e (0,0))::R⟩:=
 Fb hC ho hw tf hx hy hl hn h1 (L:=[]) rfl hb h
end rules
section rules
variable {P:Program} {C:Class} {fn:FuncId} {aA:Option Nat} {Q:Post} {s:St} {n:Nat} {env:Env} {D:List Deferred}
variable {ops:Array Oper} {i:Nat} {rest:List Nat} {dst:Option Tmp} {ty:TypeId} {pos:String} {c8:Array Edge} {g:Option (Nat×Bool)}
theorem asd(hC:∀main T,C main T→Closed P main T){k:IntKind}{a b:Int}(ho:ops[i]?=some ⟨dst,.call ⟨.builtin .min,#[x,y],#[T,U]⟩,ty,pos,c8,g⟩) (hw:av ops n env g=true)
 (hx:bh n env x=some (.int k a)) (hy:bh n env y=some (.int k b)) (h:ab C fn aA ops rest Q (A n (upd dst (.int k (min a b)) env) D) s):ab C fn aA ops (i::rest) Q (A n env D) s:=by
 refine bN hC ho hw (by simp) ?_
 have e:(if b <a then b else a)=min a b:=by omega
 simp only[execOp,resolve,invoke,builtin,Builtin.min_,List.map_toArray,List.map_cons,List.map_nil,aE hx,aE hy,List.foldlM_cons,List.foldlM_nil,Builtin.min2,aa,ae,e]
 rw[←aV] at h
 exact h
theorem ase(hC:∀main T,C main T→Closed P main T){k:IntKind}{a b:Int}(ho:ops[i]?=some ⟨dst,.call ⟨.builtin .max,#[x,y],#[T,U]⟩,ty,pos,c8,g⟩) (hw:av ops n env g=true)
 (hx:bh n env x=some (.int k a)) (hy:bh n env y=some (.int k b)) (h:ab C fn aA ops rest Q (A n (upd dst (.int k (max a b)) env) D) s):ab C fn aA ops (i::rest) Q (A n env D) s:=by
 refine bN hC ho hw (by simp) ?_
 have e:(if a <b then b else a)=max a b:=by omega
 simp only[execOp,resolve,invoke,builtin,Builtin.max_,List.map_toArray,List.map_cons,List.map_nil,aE hx,aE hy,List.foldlM_cons,List.foldlM_nil,Builtin.max2,aa,ae,e]
 rw[←aV] at h
 exact h
end rules
def cN(a b:ByteArray):Bool:=a.toList==b.toList
def strLt(a b:ByteArray):Bool:=Op.bytesLess a.toList b.toList
section rules
variable {P:Program} {C:Class} {fn:FuncId} {aA:Option Nat} {Q:Post} {s:St} {n:Nat} {env:Env} {D:List Deferred}
variable {ops:Array Oper} {i:Nat} {rest:List Nat} {dst:Option Tmp} {ty:TypeId} {pos:String} {c8:Array Edge} {g:Option (Nat×Bool)}
theorem ar9(hC:∀main T,C main T→Closed P main T){a:ByteArray}(ho:ops[i]?=some ⟨dst,.binOp .add T x y T',ty,pos,c8,g⟩) (hw:av ops n env g=true)
 (hx:bh n env x=some (.string a)) (hy:bh n env y=some (.string b)) (hb:(a.size:Int)+b.size≤9223372036854775807) (h:ab C fn aA ops rest Q (A n (upd dst (.string (a++b)) env) D) s):ab C fn aA ops (i::rest) Q (A n env D) s:=
 AO hC ho hw hx hy (v:= .string (a++b)) (by
  simp only[Op.stringOp]
  rw[if_neg]
  ·rfl
  have:IntKind.i64.max=9223372036854775807:=by decide
  rw[this];push_cast;omega) rfl h
end rules
theorem awr(b:ByteArray)(i:Nat)(h:i <b.size):b.get! i=b.data.toList[i]'(by simpa using h):=by
 have h':i <b.data.size:=h
 show b.data[i]! =_
 rw[getElem!_pos b.data i h']
 simp
theorem Yh(b:ByteArray):∀(n i:Nat) (r:List UInt8),b.size-i=n→ByteArray.toList.loop b i r=r.reverse++b.data.toList.drop i
 |0,i,r,h=>by
  unfold ByteArray.toList.loop
  rw[if_neg (by omega),List.drop_eq_nil_of_le]
  ·simp
  show b.data.toList.length≤i
  rw[Array.length_toList]
  have:b.data.size=b.size:=rfl
  omega
 |n+1,i,r,h=>by
  unfold ByteArray.toList.loop
  have hi:i <b.size:=by omega
  rw[if_pos hi,Yh b n (i+1) _ (by omega),awr b i hi]
  have hl:i <b.data.toList.length:=by rw[Array.length_toList];exact hi
  rw[List.drop_eq_getElem_cons hl]
  simp
theorem qk(b:ByteArray):b.toList=b.data.toList:=by
 show ByteArray.toList.loop b 0 []=_
 rw[Yh b _ 0 [] rfl]
 simp
theorem BS{a:ByteArray}:cN a b=true↔a=b:=by
 unfold cN
 rw[qk,qk]
 simp only[beq_iff_eq]
 constructor
 ·intro h
  have:a.data=b.data:=Array.toList_inj.1 h
  cases a;cases b;simp at this;subst this;rfl
 rintro rfl;rfl
theorem Aw(a b:ByteArray):cN a b=(a.data.toList==b.data.toList):=by unfold cN;rw[qk,qk]
theorem OS(a b:ByteArray):strLt a b=Op.bytesLess a.data.toList b.data.toList:=by unfold strLt;rw[qk,qk]
def FnG(P:Program)(f:FuncId)(args:List Value)(ro:Nat→Option Obj)(own:Cells)(Φ:Value→(Nat→Option Obj)→Cells→Prop):Prop:=
 Fn (CP P) P f ⟨args⟩ ⟨ro,own⟩ (fun en s'=>∃v aF X,en= .returned v∧s'=⟨aF,X⟩∧Sub ro aF∧Φ v aF X)
theorem FnG.use{own:Cells}{Φ:Value→(Nat→Option Obj)→Cells→Prop}(hp:s.rw.Perm (own++fr))(hf:FnG P f vs s.ro own Φ):
 Fn (CP P) P f ⟨vs⟩ s (fun en s'=>∃v aF X,en= .returned v∧Sub s.ro aF∧Φ v aF X∧(⟨aF,X++fr⟩:St).le s'):=by
 refine Fn.mono (Fn.frame (fr:=fr) (B:=[]) (ro:=s.ro) (s:=s) hf (fun _ h=>(by cases h)) ⟨hp,fun b o hb=> .inl hb,Sub.refl _⟩) fun en s' DI=>?_
 obtain⟨yM,⟨v,aF,X,rfl,rfl,hs,qE⟩,hc⟩:=DI
 refine⟨v,aF,X,rfl,hs,qE,[],by simpa using hc.rw,fun b o hb=>?_⟩
 rcases hc.aB b o hb with h|h
 ·exact .inl h
 cases h
theorem Gd:∀(A l:List Value) (o:Nat) (c:List Value),dI (A++l) (A.length+o) c=A++dI l o c
 | [],l,o,c=>by simp
 |a::A,l,o,[]=>by rw[lY,lY]
 |a::A,l,o,v::c=>by
  have:=Gd A l o (v::c)
  rw[show (a::A).length+o=A.length+o+1 by simp only[List.length_cons];omega]
  simp only[List.cons_append,dI,this]
theorem JV{m B:List Value}{o:Nat}{c:List Value}(h:o+c.length≤m.length):dI (m++B) o c=dI m o c++B:=by
 rw[ry _ _ _ (by rw[List.length_append];omega),ry _ _ _ h,List.take_append_of_le_length (by omega),List.drop_append_of_le_length h]
 simp only[List.append_assoc]
theorem Zi{m c:List Value}(h:c.length=m.length):dI m 0 c=c:=by
 rw[ry _ _ _ (by omega)]
 simp[h]
theorem UK{enc:α→List Value}{ps:List α}(TX:∀p∈ps,(enc p).length=sz){x:α}(hx:ps[k]?=some x) (hl:l.take (ps.length*sz)=(ps.map enc).flatten):∃A B,A.length=k*sz∧l=A++(enc x++B):=by
 obtain⟨hk,rfl⟩:=List.getElem?_eq_some_iff.1 hx
 refine⟨((ps.take k).map enc).flatten,((ps.drop (k+1)).map enc).flatten++l.drop (ps.length*sz),?_,?_⟩
 ·rw[kQ _ (fun p hp=>TX p (List.mem_of_mem_take hp)),List.length_take,Nat.min_eq_left (by omega)]
 have h3:ps=ps.take k++ps[k]::ps.drop (k+1):=by rw[←List.drop_eq_getElem_cons hk,List.take_append_drop]
 have h4:=congrArg (fun q:List α=>(q.map enc).flatten) h3
 simp only[List.map_append,List.map_cons,List.flatten_append,List.flatten_cons] at h4
 have h5:=(List.take_append_drop (ps.length*sz) l).symm
 rw[hl,h4] at h5
 simpa only[List.append_assoc] using h5
theorem Zj{enc:α→List Value}{ps:List α}(TX:∀p∈ps,(enc p).length=sz){x:α}(hx:ps[k]?=some x) (hl:l.take (ps.length*sz)=(ps.map enc).flatten) {o:Nat} {c:List Value} (h:o+c.length≤sz):
 dI l (k*sz+o) c=dI l (k*sz) (dI (enc x) o c):=by
 have hxl:=TX x (List.mem_of_getElem? hx)
 obtain⟨A,B,h1,rfl⟩:=UK TX hx hl
 have e0:∀q,dI (A++(enc x++B)) A.length q=A++dI (enc x++B) 0 q:=fun q=>Gd A _ 0 q
 rw[←h1,Gd,e0,JV (by omega),JV (by rw[lZ];omega),Zi (lZ _ _ _)]
section rules
variable {P:Program} {C:Class} {fn:FuncId} {aA:Option Nat} {Q:Post} {ro:Nat→Option Obj} {n:Nat} {env:Env} {D:List Deferred}
variable {ops:Array Oper} {i:Nat} {rest:List Nat} {dst:Option Tmp} {ty:TypeId} {pos:String} {c8:Array Edge} {g:Option (Nat×Bool)}
variable {T:TypeId} {d:TypeDesc} {tsz bx:Nat} {z:List Value} {ag:Bool}
theorem aAB(hC:∀main T,C main T→Closed P main T){b o:Nat}{v w:Value}{a e:α}{c:List Value}{enc:α→List Value}{ps:List α}{L R:Cells}(ho:ops[i]?=some ⟨dst,.store T x y,ty,pos,c8,g⟩) (hw:av ops n env g=true) (tf:TF P T d tsz bx z ag)
 (hx:bh n env x=some (.pointer (some ⟨b,k*sz+o,none⟩))) (hy:bh n env y=some w) (hl:w.cells=⟨c⟩) (hn:c.length=tsz) (h1:∀v∈c,single v=true) (ld:ax v sz E enc ps L) (hb:NP v b) (hk:ps[k]?=some a) (he:enc e=dI (enc a) o c) (hf:o+c.length≤sz)
 (h:∀L',ax v sz E enc (ps.set k e) L'→ab C fn aA ops rest Q (A n (upd dst undef env) D) ⟨ro,L'++R⟩):ab C fn aA ops (i::rest) Q (A n env D) ⟨ro,L++R⟩:=by
 have hk1:k <ps.length:=(List.getElem?_eq_some_iff.1 hk).1
 rcases ld with ⟨_,h2,_⟩| ⟨b',l,cap,g1,g2,g3,g4,g5,g6⟩
 ·subst h2;simp at hk
 obtain⟨n',c',mZ⟩:=hb
 rw[g1] at mZ
 cases mZ
 subst g2
 have hea:(enc a).length=sz:=g5 a (List.mem_of_getElem? hk)
 have DI:(enc e).length=sz:=by rw[he,lZ,hea]
 have hks:k*sz+sz≤ps.length*sz:=by
  have:(k+1)*sz≤ps.length*sz:=Nat.mul_le_mul_right _ (by omega)
  rw[Nat.succ_mul] at this;exact this
 have oS:ps.length*sz≤cap*sz:=Nat.mul_le_mul_right _ g4
 refine Fb (L:=[]) (R:=R) hC ho hw tf hx hy hl hn h1 rfl (by omega)<|h [(b,.cells ⟨dI l (k*sz+o) c⟩ E (0,0))] (.inr ⟨b,_,cap,by rw[g1,List.length_set],rfl,by rw[lZ,g3],by rw[List.length_set];exact g4,fun p hp=>?_,?_⟩)
 ·rcases List.mem_or_eq_of_mem_set hp with h5|h5
  ·exact g5 p h5
  subst h5;exact DI
 rw[List.length_set,Zj g5 hk g6 hf,←he]
 exact QX ps g5 k e DI hk1 l g6
end rules
section rules
variable {P:Program} {C:Class} {fn:FuncId} {aA:Option Nat} {Q:Post} {s:St} {n:Nat} {env:Env} {D:List Deferred}
variable {ops:Array Oper} {i:Nat} {rest:List Nat} {dst:Option Tmp} {ty:TypeId} {pos:String} {c8:Array Edge} {g:Option (Nat×Bool)}
structure EF(P:Program)(f:FuncId)(e:Array Value→Sem Value):Prop where
 ef:∃fn,P.funcs[f]?=some fn∧(fn.name== "runtime.NumGoroutine")=false∧fn.body.isNone=true∧(Extern.findNext fn).isNone=true∧Extern.find fn=some e
theorem adt(hC:∀main T,C main T→Closed P main T){e:Array Value→Sem Value}(ho:ops[i]?=some ⟨dst,.call ⟨.value (.func f),xs,at_⟩,ty,pos,c8,g⟩) (hw:av ops n env g=true)
 (ef:EF P f e) (hx:vM n env xs=some vs) (h:bL P (e ⟨vs⟩) s (fun v s'=>ab C fn aA ops rest Q (A n (upd dst v env) D) s') (fun _ _=>False)):ab C fn aA ops (i::rest) Q (A n env D) s:=by
 obtain⟨fn',h1,h2,h3,h4,h5⟩:=ef.ef
 have h4':Extern.findNext fn'=none:=by
  cases hh:Extern.findNext fn' with
  |none=>rfl
  |some x=>rw[hh] at h4;cases h4
 refine bN hC ho hw (by simp) ?_
 simp only[execOp,resolve,ev,Deferred.ofValue,ae,sG hx]
 simp only[invoke,Array.append_empty,Array.empty_append,callFunc,e9,h1,h2,h3,h4',h5,if_true,Bool.false_eq_true,if_false]
 refine⟨rfl,?_⟩
 refine OB (e ⟨vs⟩) (fun v=>(pure (Next.value v):Sem Next)) _ _ _<|vW _ _ _ _ _ _ (fun v s' hv=>?_) (fun _ _ (hf:False)=>hf.elim) h
 rw[←aV] at hv
 exact hv
end rules
def P6(a:ByteArray)(b:UInt8):Int:=
 match (List.range a.size).find? fun i=>a[i]! ==b with
 |some i=>i
 |none=> -1
section rules
variable {P:Program} {C:Class} {fn:FuncId} {aA:Option Nat} {Q:Post} {s:St} {n:Nat} {env:Env} {D:List Deferred}
variable {ops:Array Oper} {i:Nat} {rest:List Nat} {dst:Option Tmp} {ty:TypeId} {pos:String} {c8:Array Edge} {g:Option (Nat×Bool)}
theorem adr(hC:∀main T,C main T→Closed P main T){a:ByteArray}{b:Int}(ho:ops[i]?=some ⟨dst,.call ⟨.value (.func f),xs,at_⟩,ty,pos,c8,g⟩) (hw:av ops n env g=true)
 (ef:EF P f Extern.BytealgIndexByte.indexByte) (hx:vM n env xs=some [.string a,.int .u8 b]) (h:ab C fn aA ops rest Q (A n (upd dst (.int .i64 (P6 a b.toNat.toUInt8)) env) D) s):ab C fn aA ops (i::rest) Q (A n env D) s:=by
 refine adt hC ho hw ef hx ?_
 unfold P6 at h
 show bL P (match (List.range a.size).find? fun i=>a[i]! ==b.toNat.toUInt8 with|some i=>pure (goInt i)|none=>pure (goInt (-1))) s _ _
 split
 ·rename_i j hj
  rw[hj] at h;exact h
 rename_i hj
 rw[hj] at h;exact h
theorem akT(hC:∀main T,C main T→Closed P main T){v:Value}(ho:ops[i]?=some ⟨dst,.call ⟨.value (.func f),xs,at_⟩,ty,pos,c8,g⟩) (hw:av ops n env g=true)
 (ef:EF P f Extern.AbiNoEscape.same) (hx:vM n env xs=some [v]) (h:ab C fn aA ops rest Q (A n (upd dst v env) D) s):ab C fn aA ops (i::rest) Q (A n env D) s:=
 adt hC ho hw ef hx h
end rules
theorem aaq{p:Nat}{c:UInt8}(h:b.data.toList[p]?=some c) (ha:c.toNat <128):p <b.size∧Utf8.decode b p=(c.toNat,1):=by
 rw[Array.getElem?_toList] at h
 obtain⟨h1,h2⟩:=Array.getElem?_eq_some_iff.1 h
 refine⟨h1,?_⟩
 have h3:b.get! (p+0)=c:=by
  show b.data[p+0]! =c
  rw[Nat.add_zero,getElem!_pos b.data p h1,h2]
 simp only[Utf8.decode,h3]
 rw[if_pos (by omega)]
section rules
variable {P:Program} {C:Class} {fn:FuncId} {aA:Option Nat} {Q:Post} {ro:Nat→Option Obj} {n:Nat} {env:Env} {D:List Deferred}
variable {ops:Array Oper} {i:Nat} {rest:List Nat} {dst:Option Tmp} {ty:TypeId} {pos:String} {c8:Array Edge} {g:Option (Nat×Bool)}
theorem akV(hC:∀main T,C main T→Closed P main T){r p:Nat}{R:Cells}{c:UInt8}(ho:ops[i]?=some ⟨dst,.next x true,ty,pos,c8,g⟩) (hw:av ops n env g=true) (hx:bh n env x=some (.pointer (some ⟨r,0,none⟩))) (hp:b.data.toList[p]?=some c) (ha:c.toNat <128)
 (h:ab C fn aA ops rest Q (A n (upd dst (.tuple ⟨[.bool true,.int .i64 p,.int .i32 c.toNat]⟩) env) D) ⟨ro,(r,.stringIter b (p+1))::R⟩):ab C fn aA ops (i::rest) Q (A n env D) ⟨ro,(r,.stringIter b p)::R⟩:=by
 obtain⟨h1,h2⟩:=aaq hp ha
 refine Zs hC ho hw hx (L:=[]) rfl h1 ?_
 rw[h2]
 exact h
theorem akU(hC:∀main T,C main T→Closed P main T){r p:Nat}{R:Cells}(ho:ops[i]?=some ⟨dst,.next x true,ty,pos,c8,g⟩) (hw:av ops n env g=true) (hx:bh n env x=some (.pointer (some ⟨r,0,none⟩))) (hp:b.data.toList[p]?=none)
 (h:ab C fn aA ops rest Q (A n (upd dst (.tuple ⟨[.bool false]⟩) env) D) ⟨ro,(r,.stringIter b p)::R⟩):ab C fn aA ops (i::rest) Q (A n env D) ⟨ro,(r,.stringIter b p)::R⟩:=by
 refine Zt hC ho hw hx (L:=[]) rfl ?_ h
 rw[Array.getElem?_toList,Array.getElem?_eq_none_iff] at hp
 exact Nat.not_lt.2 hp
end rules
theorem FN(ops:Array Oper)(n:Nat)(env:Env)(D:List Deferred)(o:Oper)(j:Nat)(want:Bool)(d:Tmp)(hg:o.guard=some (j,want))(hd:(ops[j]?).bind (·.dst)=some d)
 (hv:bh n env (.tmp d)=some undef):Region.wanted o (yielded ops (A n env D).tmps)=false:=by
 unfold Region.wanted
 rw[hg]
 simp only[bh] at hv
 by_cases cH:d <n
 ·rw[show Nat.blt d n=true from by simpa [Nat.blt_eq] using cH] at hv
  simp only[cond_true] at hv
  simp only[yielded,hd,Option.bind_some,NX]
  rw[if_pos cH,nu hv]
  rfl
 rw[show Nat.blt d n=false from by simpa [Nat.blt_eq,←Bool.not_eq_true] using cH] at hv
 cases hv
section rules
variable {P:Program} {C:Class} {fn:FuncId} {aA:Option Nat} {Q:Post} {s:St} {n:Nat} {env:Env} {D:List Deferred}
variable {ops:Array Oper} {i:Nat} {rest:List Nat} {dst:Option Tmp} {ty:TypeId} {pos:String} {c8:Array Edge} {g:Option (Nat×Bool)}
theorem akS(hC:∀main T,C main T→Closed P main T){op:Op}{j:Nat}{want:Bool}{d:Tmp}(ho:ops[i]?=some ⟨dst,op,ty,pos,c8,some (j,want)⟩) (hd:(ops[j]?).bind (·.dst)=some d)
 (hv:bh n env (.tmp d)=some undef) (h:ab C fn aA ops rest Q (A n (upd dst undef env) D) s):ab C fn aA ops (i::rest) Q (A n env D) s:=by
 refine ue hC ho (FN _ _ _ _ _ _ _ _ rfl hd hv) ?_
 rw[aV];exact h
end rules
section rules
variable {P:Program} {C:Class} {fn:FuncId} {Q:Post} {s:St} {n:Nat} {env:Env} {D:List Deferred}
variable {ops:Array Oper} {i:Nat} {rest:List Nat} {dst:Option Tmp} {ty:TypeId} {pos:String} {c8:Array Edge} {g:Option (Nat×Bool)}
theorem akX(hC:∀main T,C main T→Closed P main T){ca:List Value}(ho:ops[i]?=some ⟨dst,.defer ⟨.value x,#[],#[]⟩,ty,pos,c8,g⟩) (hw:av ops n env g=true)
 (hx:bh n env x=some (.func (.func f) ⟨[]⟩ ⟨ca⟩)) (h:ab C fn none ops rest Q (A n (upd dst undef env) ({target:= .fn (.func f) ⟨ca⟩,args:= #[]}::D)) s):ab C fn none ops (i::rest) Q (A n env D) s:=by
 refine Mn hC ho (BN _ _ _ _ _ hw) (.inl rfl) ?_
 rw[eI]
 simp only[execOp,resolve,aE hx,Deferred.ofValue,ae]
 refine⟨rfl,?_⟩
 have hA:({A n env D with defers:={target:= .fn (.func f) ⟨ca⟩,args:= #[]}::(A n env D).defers}:Act).put dst undef=A n (upd dst undef env) ({target:= .fn (.func f) ⟨ca⟩,args:= #[]}::D):=by
  rw[←aV];rfl
 rw[←hA] at h
 have he:(⟨[]⟩:Array Value)++Array.map (ev n env) #[]= #[]:=by simp
 rw[he]
 exact h
def UY(C:Class)(P:Program)(fn:Func)(g:FuncId)(gn:Func)(t:Tmp)(rest:Code)(R:Ending→St→Prop):Post:=fun e a s=>
 (e= .normal∨e= .ret)∧∃ca:List Value,Nat.ble ca.length gn.ntmps=true∧a.defers=[{target:= .fn (.func g) ⟨ca⟩,args:= #[]}]∧
  Wp C g none rest (fun e2 a2 s2=>(e2= .normal∨e2= .ret)∧a2.defers=[]∧bL P (results fn a.tmps) s2 (fun v s3=>∃s0,s0.le s3∧R (.returned v) s0) (fun _ _=>False)) (A gn.ntmps (upd (some t) .nilIface (gv 0 ca)) []) s
theorem Ht(hC:∀main T,C main T→Closed P main T){fn:Func}{c:Code}{gid:FuncId}{gn:Func}{t:Tmp}{rc:Code}(hf:P.funcs[f]?=some fn) (hb:fn.body=some c) (hn:fn.ntmps=n) (hl:Nat.ble args.length n=true)
 (aeV:IL P gid=some (gn,t,rc)) (h:Wp C f none c (UY C P fn gid gn t rc R) (A n (gv 0 args) []) s):Fn C P f ⟨args⟩ s R:=by
 intro main T hT cl cs k1 k2
 have iZ:=hC main T hT
 let b:Frame:={(default:Frame) with fn:=f,kind:= .normal,roundOf:=none}
 have iJ:Frame.enter P f ⟨args⟩ .normal=aK b (A n (gv 0 args) []) [.code c]:=by
  rw[←lh args n (Nat.le_of_ble_eq_true hl)]
  simp[Frame.enter,aK,hf,hb,hn,b]
 rw[iJ]
 obtain⟨hgf,AZ,DF,id,o,at_,hgb,h1,h2,h3⟩:=(Wd aeV).ex
 have ff:FF P gid:=⟨gn,hgf,DF,by rw[hgb];rfl⟩
 have sC:∀(todo:List Item) (a':Act) (s':St) (ca:List Value),Nat.ble ca.length gn.ntmps=true→a'.defers=[{target:= .fn (.func gid) ⟨ca⟩,args:= #[]}]→
  Wp C gid none rc (fun e2 a2 s2=>(e2= .normal∨e2= .ret)∧a2.defers=[]∧bL P (results fn a'.tmps) s2 (fun v s3=>∃s0,s0.le s3∧R (.returned v) s0) (fun _ _=>False)) (A gn.ntmps (upd (some t) .nilIface (gv 0 ca)) []) s'→
  T (G {aK b a' todo with mode:= .returning} (cl::cs)) s':=by
  intro todo a' s' ca hlc hd hw
  refine jY hC hT (.inl rfl) ff (ds:=[]) (a:= #[]) (ca:=⟨ca⟩) hd ?_
  let d:Frame:={(default:Frame) with fn:=gid,kind:= .deferred,roundOf:=none}
  have ami:Frame.enter P gid ((#[]:Array Value)++⟨ca⟩) .deferred=aK d (A gn.ntmps (gv 0 ca) []) [.code (.seq (.region id #[o] false) rc)]:=by
   rw[←lh ca gn.ntmps (Nat.le_of_ble_eq_true hlc)]
   simp[Frame.enter,aK,hgf,hgb,d]
  rw[ami]
  let c0:Frame:={aK b a' todo with mode:= .returning,defers:=[]}
  show T (G _ (c0::cl::cs)) s'
  refine iZ.go rfl rfl (g':=G (aK d (A gn.ntmps (gv 0 ca) []) [.code (.region id #[o] false),.code rc]) (c0::cl::cs)) (fun w=>by simp[G,stepG,stepG.exec,aK])<|iZ.go rfl rfl (g':=G (aK d (A gn.ntmps (gv 0 ca) []) [.inRegion #[o] [0],.code rc]) (c0::cl::cs)) (fun w=>by simp[G,stepG,stepG.exec,aK,List.range,List.range.loop])<|AB hC hT (u:= .ret) (ρ:=fun _=>none) rfl rfl h1 h2 h3 .ret fun v' nK hv T5=>?_
  have hv':v'= .nilIface:=by
   rcases hv with hv|hv
   ·cases hv;rfl
   exact hv.2
  subst hv'
  refine iZ.go rfl rfl (g':=G (aK d ((A gn.ntmps (gv 0 ca) []).put (some t) .nilIface) [.code rc]) ({c0 with mode:=nK}::cl::cs)) (fun w=>by simp[G,stepG,stepG.exec,aK]) ?_
  rw[aV]
  have Qh:∀tmps,results gn tmps=Sem.pure (.tuple #[]):=by intro tmps;simp[results,AZ];rfl
  have yo:∀(VH:List Item) (a2:Act) (s2:St),a2.defers=[]→bL P (results fn a'.tmps) s2 (fun v s3=>∃s0,s0.le s3∧R (.returned v) s0) (fun _ _=>False)→T (G {aK d a2 VH with mode:= .returning} ({c0 with mode:=nK}::cl::cs)) s2:=by
   intro VH a2 s2 hd2 wF
   have mY:T (G c0 (cl::cs)) s2:=s8 hC hT hf rfl rfl rfl rfl wF k1
   refine iZ.go rfl rfl (fun w=>?_) mY
   rcases T5 with rfl| ⟨v,rfl⟩
   ·simp only[G,stepG,unwind,aK,d,hgf,Qh,Sem.runT,sZ,hd2]
    simp[GStep.after,doReturn,c0,aK]
   simp only[G,stepG,unwind,aK,d,hgf,Qh,Sem.runT,sZ,hd2]
   simp[GStep.after,doReturn,c0,aK]
  refine hw main T hT d [] _ rfl (by simp[d]) rfl fun e2 a2 s2 q=>?_
  obtain⟨q1,q2,q3⟩:=q
  rcases q1 with rfl|rfl
  ·exact iZ.go rfl rfl (g':=G {aK d a2 [] with mode:= .returning} ({c0 with mode:=nK}::cl::cs)) (fun w=>by simp[G,stepG,stepG.exec,aK,d]) (yo _ _ _ q2 q3)
  exact fun VH=>iZ.go rfl rfl (g':=G {aK d a2 (.code .ret::VH) with mode:= .returning} ({c0 with mode:=nK}::cl::cs)) (fun w=>by simp[G,stepG,stepG.exec,aK,d]) (yo _ _ _ q2 q3)
 refine h main T hT b [] (cl::cs) rfl (by simp[b]) rfl fun e a' s' q=>?_
 obtain⟨q1,ca,q0,q2,q3⟩:=q
 rcases q1 with rfl|rfl
 ·exact iZ.go rfl rfl (g':=G {aK b a' [] with mode:= .returning} (cl::cs)) (fun w=>by simp[G,stepG,stepG.exec,aK,b]) (sC _ _ _ ca q0 q2 q3)
 exact fun todo=>iZ.go rfl rfl (g':=G {aK b a' (.code .ret::todo) with mode:= .returning} (cl::cs)) (fun w=>by simp[G,stepG,stepG.exec,aK,b]) (sC _ _ _ ca q0 q2 q3)
end rules
section rules
variable {P:Program} {C:Class} {fn:FuncId} {aA:Option Nat} {Q:Post} {s:St} {n:Nat} {env:Env} {D:List Deferred}
variable {ops:Array Oper} {i:Nat} {rest:List Nat} {dst:Option Tmp} {ty:TypeId} {pos:String} {c8:Array Edge} {g:Option (Nat×Bool)}
variable {T:TypeId} {sz bx:Nat} {z:List Value} {ag:Bool}
theorem akR(hC:∀main T,C main T→Closed P main T){a:Option Addr}{l c:Nat}(ho:ops[i]?=some ⟨dst,.binOp .eql T x y T',ty,pos,c8,g⟩) (hw:av ops n env g=true) (tf:TF P T (.slice E) sz bx z ag)
 (hx:bh n env x=some (.slice a l c)) (hy:bh n env y=some (.slice none 0 0)) (h:ab C fn aA ops rest Q (A n (upd dst (.bool a.isNone) env) D) s):ab C fn aA ops (i::rest) Q (A n env D) s:=by
 refine bN hC ho hw (by simp) ?_
 have hg:eqGuard .eql T x y (.slice a l c) (.slice none 0 0)=Sem.pure ():=by cases a<;>rfl
 have hb:binOp .eql T (.slice a l c) (.slice none 0 0)=(Op.equal T (.slice a l c) (.slice none 0 0) >>= fun r=>pure (.bool r)):=by cases a<;>rfl
 have he:∀ {α:Type} (K:Bool→Sem α) (Q:α→St→Prop) (E:Halt→St→Prop),bL P (K a.isNone) s Q E→bL P (Op.equal T (.slice a l c) (.slice none 0 0) >>= K) s Q E:=by
  intro α K Q E hK
  have gen:∀d,bL P (Op.equalIn (d+1) T (.slice a l c) (.slice none 0 0) >>= K) s Q E:=by
   intro d
   cases a<;>(simp only[Op.equalIn,aa,aX tf,ae,Option.isNone];exact hK)
  exact gen 9999
 simp only[execOp,aE hx,aE hy,hg,hb]
 show bL P ((Op.equal T (.slice a l c) (.slice none 0 0) >>= fun r=>(pure (Value.bool r):Sem Value)) >>= fun x=>(pure (Next.value x):Sem Next)) s _ _
 simp only[aa]
 refine he _ _ _ ?_
 rw[←aV] at h
 exact h
end rules
def ac1:Op→Option (List Operand)
 | .move x=>some [x]
 | .assign x=>some [x]
 | .extract x _=>some [x]
 | .nilCheck x=>some [x]
 | .fieldAddr _ x _=>some [x]
 | .makeInterface _ x=>some [x]
 | .indexAddr _ x y=>some [x,y]
 |op=>Gg op
theorem Pf{xs:List Operand}(h:ac1 o.op=some xs){f g:Operand→Value}(hfg:∀x∈xs,f x=g x):execOp f o=execOp g o:=by
 unfold ac1 at h
 split at h
 all_goals first
  | (rename_i heq;simp only[Option.some.injEq] at h;subst h;simp[execOp,heq,hfg];done)
  |exact tZ h hfg
def evj(n:Nat)(e:Env)(x:Operand):Value:=(bh n e x).getD undef
theorem Nl{f:Operand→Value}(hf:Ev n e f):∀ {xs:List Operand} {vs:List Value},yc n e xs=some vs→∀x∈xs,f x=evj n e x
 |y::l,vs,h,x,hx=>by
  simp only[yc] at h
  cases hv:bh n e y with
  |none=>rw[hv] at h;cases h
  |some v=>
   rw[hv] at h
   cases hr:yc n e l with
   |none=>rw[hr] at h;cases h
   |some r=>
    rcases List.mem_cons.1 hx with rfl|hx
    ·rw[hf _ _ hv,evj,hv];rfl
    exact Nl hf hr x hx
def arh(P:Program)(n:Nat)(e:Env)(o:Oper):Option Value:=
 match ac1 o.op with
 |some xs=>match yc n e xs with
  |some _=>match bn P (execOp (evj n e) o) with
   |some (.value v)=>some v
   |_=>none
  |none=>none
 |none=>none
def aA8(P:Program)(n:Nat)(e:Env)(x:Operand)(T:TypeId):Option Value:=
 match aW P T with
 |some ⟨.slice _,_,_,_⟩=>match bh n e x with
  |some (.slice _ len _)=>some (.int .i64 len)
  |_=>none
 |some ⟨.string,_,_,_⟩=>match bh n e x with
  |some (.string b)=>some (.int .i64 b.size)
  |_=>none
 |_=>none
def U6(P:Program)(n:Nat)(e:Env)(T:TypeId)(ps:Array (Nat×Operand)):Option Value:=
 match aW P T with
 |some ⟨.struct fields,_,z,_⟩=>match xy P fields.toList with
  |some pl=>match Od n e ps.toList with
   |some pv=>match oW (fun i=>pl[i]?) z (ud pv) with
    |some l=>some (.agg ⟨l⟩)
    |none=>none
   |none=>none
  |none=>none
 |some ⟨.array _ E,_,z,_⟩=>match aW P E with
  |some te=>match Od n e ps.toList with
   |some pv=>match oW (fun i=>some (i*te.size,te.size)) z (ud pv) with
    |some l=>some (.agg ⟨l⟩)
    |none=>none
   |none=>none
  |none=>none
 |_=>none
def abK(P:Program)(n:Nat)(e:Env)(o:Oper):Option Value:=
 match o.op with
 | .pick c x y=>match bh n e c with
  |some (.bool true)=>bh n e x
  |some (.bool false)=>bh n e y
  |_=>none
 | .makeFunc f x y=>match yc n e x.toList with
  |some x'=>match yc n e y.toList with
   |some y'=>some (.func f ⟨x'⟩ ⟨y'⟩)
   |none=>none
  |none=>none
 | .build T ps=>U6 P n e T ps
 | .call ⟨.builtin .len,⟨[x]⟩,⟨[T]⟩⟩=>aA8 P n e x T
 |_=>arh P n e o
section val
variable {P:Program} {n:Nat} {e:Env} {o:Oper} {s:St} {v:Value}
theorem ako(h:arh P n e o=some v):Yields P n e o s v:=by
 unfold arh at h
 split at h<;>try (cases h;done)
 rename_i xs hx
 split at h<;>try (cases h;done)
 rename_i vs EA
 split at h<;>try (cases h;done)
 rename_i w hr
 cases h
 intro s' _ f hf K E hK
 rw[Pf hx (Nl hf EA)]
 exact oL hr hK
theorem aay{ps:Array (Nat×Operand)}(heq:o.op= .build T ps)(h:U6 P n e T ps=some v):Yields P n e o s v:=by
 unfold U6 at h
 split at h<;>try (cases h;done)
 ·rename_i fields _ z _ dZ
  obtain⟨bx,tf⟩:=ar dZ
  split at h<;>try (cases h;done)
  rename_i pl Qj
  split at h<;>try (cases h;done)
  rename_i pv I4
  split at h<;>try (cases h;done)
  rename_i l hl
  cases h
  intro s' nG f hf K E hK
  simp only[execOp,heq,Instr.build,aa,kI tf,aX tf,eE tf]
  rw[Array.mapM_eq_mapM_toList]
  simp only[map_eq_pure_bind,aa,ae]
  rw[oA (yT Qj)]
  rw[kZ] at hl
  have h1:=fill_eq _ _ _ _ hl
  have h3:(fun x=>(pl.toArray)[x]?:Nat→Option (Nat×Nat))=fun i=>pl[i]?:=by funext i;simp
  simp only[h3,hf.wq I4,h1,ae]
  exact hK
 rename_i len E _ z _ dZ
 obtain⟨bx,tf⟩:=ar dZ
 split at h<;>try (cases h;done)
 rename_i te uw
 obtain⟨Bt,q6⟩:=ar uw
 split at h<;>try (cases h;done)
 rename_i pv I4
 split at h<;>try (cases h;done)
 rename_i l hl
 cases h
 intro s' nG f hf K E hK
 simp only[execOp,heq,Instr.build,aa,kI tf,aX tf,eE tf,cg q6]
 rw[kZ] at hl
 have h1:=fill_eq _ _ _ _ hl
 simp only[hf.wq I4,h1,ae]
 exact hK
theorem Ar(h:abK P n e o=some v):Yields P n e o s v:=by
 unfold abK at h
 split at h
 ·rename_i c x y heq
  split at h<;>try (cases h;done)
  ·rename_i hc
   intro s' _ f hf K E hK
   simp only[execOp,heq,hf _ _ hc,hf _ _ h]
   exact hK
  rename_i hc
  intro s' _ f hf K E hK
  simp only[execOp,heq,hf _ _ hc,hf _ _ h]
  exact hK
 ·rename_i g x y heq
  split at h<;>try (cases h;done)
  rename_i x' hx
  split at h<;>try (cases h;done)
  rename_i y' hy
  cases h
  intro s' _ f hf K E hK
  simp only[execOp,heq,hf.arr hx,hf.arr hy]
  exact hK
 ·rename_i T ps heq;exact aay heq h
 ·rename_i x T heq
  unfold aA8 at h
  split at h<;>try (cases h;done)
  ·rename_i dZ
   obtain⟨bx,tf⟩:=ar dZ
   split at h<;>try (cases h;done)
   rename_i hx
   cases h
   intro s' _ f hf K E hK
   simp only[execOp,heq,resolve,invoke,builtin,Builtin.len_,List.map_toArray,List.map_cons,List.map_nil,hf _ _ hx,ae,List.getElem?_toArray,List.getElem?_cons_zero,aX tf,aa]
   exact hK
  rename_i dZ
  obtain⟨bx,tf⟩:=ar dZ
  split at h<;>try (cases h;done)
  rename_i hx
  cases h
  intro s' _ f hf K E hK
  simp only[execOp,heq,resolve,invoke,builtin,Builtin.len_,List.map_toArray,List.map_cons,List.map_nil,hf _ _ hx,ae,List.getElem?_toArray,List.getElem?_cons_zero,aX tf,aa]
  exact hK
 exact ako h
end val
def ldv(P:Program)(T:TypeId)(l:List Value)(off:Nat):Option Value:=
 match aW P T with
 |some ti=>bif ti.agg then (match sub l off ti.size with
  |some vs=>some (.agg ⟨vs⟩)
  |none=>none) else nth l off
 |none=>none
theorem ad5{v:Value}{b:Nat}{t:TypeId}(heq:o.op= .load T x)(hx:bh n e x=some (.pointer (some ⟨b,off,none⟩)))(hb:s.has b (.cells ⟨l⟩ t fz))(h:ldv P T l off=some v):Yields P n e o s v:=by
 unfold ldv at h
 split at h<;>try (cases h;done)
 rename_i ti dZ
 obtain⟨bx,tf⟩:=ar dZ
 intro s' hs f hf K E hK
 cases ha:ti.agg with
 |true=>
  rw[ha] at h tf
  simp only[cond_true] at h
  split at h<;>try (cases h;done)
  rename_i vs EA
  cases h
  simp only[execOp,heq,Instr.loadAt,hf _ _ hx,Instr.sureAddr,loadVar,aa,ae,kU tf,if_true,cg tf]
  exact jm ⟨_,_,_,hs _ _ hb,EA⟩ hK
 |false=>
  rw[ha] at h tf
  simp only[cond_false] at h
  simp only[execOp,heq,Instr.loadAt,hf _ _ hx,Instr.sureAddr,loadVar,aa,ae,kU tf,Bool.false_eq_true,if_false]
  exact vY ⟨_,_,_,hs _ _ hb,h⟩ hK
theorem asB{v:Value}{b m:Nat}(k:Nat)(heq:o.op= .load T x)(hx:bh n e x=some (.pointer (some ⟨b,off+k,none⟩)))(hb:cv s b off m l)(h:ldv P T l k=some v):Yields P n e o s v:=by
 unfold ldv at h
 split at h<;>try (cases h;done)
 rename_i ti dZ
 obtain⟨bx,tf⟩:=ar dZ
 intro s' hs f hf K E hK
 cases ha:ti.agg with
 |true=>
  rw[ha] at h tf
  simp only[cond_true] at h
  split at h<;>try (cases h;done)
  rename_i vs EA
  cases h
  simp only[execOp,heq,Instr.loadAt,hf _ _ hx,Instr.sureAddr,loadVar,aa,ae,kU tf,if_true,cg tf]
  exact jm ((hb.ext hs).part k ti.size EA) hK
 |false=>
  rw[ha] at h tf
  simp only[cond_false] at h
  simp only[execOp,heq,Instr.loadAt,hf _ _ hx,Instr.sureAddr,loadVar,aa,ae,kU tf,Bool.false_eq_true,if_false]
  exact vY ((hb.ext hs).cell k v (by rw[←sq];exact h)) hK
structure Cx where
 P:Program
 C:Class
 hC:∀main T,C main T→Closed P main T
 hm:P.follows .mixedOrders=true
 fn:FuncId
 aA:Option Nat
 n:Nat
 D:List Deferred
 ro:Nat→Option Obj
 Q:Post
variable {X X1:Cx}
def Cx.at(X:Cx)(ro:Nat→Option Obj):Cx:={X with ro:=ro}
inductive KI where
 |seq (b:Code)
 |block (id:Nat)
 |next (K:Act→St→Prop)
inductive Sg where
 |b (i:Nat) (o:Obj)
 |l (L:Cells)
def den:List Sg→Cells
 | []=>[]
 | [.l L]=>L
 | .b i o::r=>(i,o)::den r
 | .l L::r=>L++den r
theorem iX(i:Nat)(o:Obj)(r:List Sg):den (.b i o::r)=(i,o)::den r:=by cases r<;>rfl
theorem gZ(L:Cells)(r:List Sg):den (.l L::r)=L++den r:=by cases r<;>simp[den]
inductive Pos where
 |ops (ops:Array Oper) (todo:List Nat) (k:List KI)
 |code (c:Code) (k:List KI)
 |nxt (K:Act→St→Prop)
 |HA (ops:Array Oper) (base:Env) (Pl Sl:List (Nat×Value)) (k:List KI)
 |fin (e:Exit)
structure Kn where
 c:Cells
 nd:List (Nat×Cells)
variable {kn:Kn}
structure JS where
 pos:Pos
 env:Env
 rw:List Sg
 kn:Kn
variable {s':JS}
def KQ(X:Cx):List KI→Post
 | []=>X.Q
 | .seq b::k=>mI (fun a s=>Wp X.C X.fn X.aA b (KQ X k) a s) (KQ X k)
 | .block id::k=>qU id (KQ X k)
 | .next K::k=>mI K (KQ X k)
def Dv:Op→Bool
 | .load .. =>false
 | .lookup .. =>false
 | .call ⟨.value _,_,_⟩=>false
 | .call ⟨.invoke ..,_,_⟩=>false
 |_=>true
def wM(ops:Array Oper)(n:Nat)(e:Env):Option (Nat×Bool)→Option Bool
 |none=>some true
 |some (j,want)=>match aO ops j with
  |some d=>match bh n e (.tmp d) with
   |some (.bool true)=>some want
   |some (.bool false)=>some (!want)
   |some (.tuple ⟨[]⟩)=>some false
   |_=>none
  |none=>none
def tb(ops:Array Oper)(n:Nat)(base:Env)(Pl:List (Nat×Value))(j:Nat):Bool:=match ops[j]? with
 |some p=>Dv p.op||(match wM ops n (cm ops base j Pl) p.guard with
  |some false=>true
  |_=>false)
 |none=>false
def PF(X:Cx)(nd:List (Nat×Cells))(ops:Array Oper)(base:Env)(Pl Sl:List (Nat×Value)):Prop:=
 (∀j u,(j,u)∈Sl→tb ops X.n base Pl j=true→∀s,e8 X.C X.fn X.aA ops X.n X.D j u (cm ops base j Pl) s)∧
 ∀j u B,(j,u)∈Sl→(j,B)∈nd→∀s,Ext ⟨X.ro,[]⟩ s→(∀x∈B,s.has x.1 x.2)→e8 X.C X.fn X.aA ops X.n X.D j u (cm ops base j Pl) s
def ndK:List (Nat×Cells)→List Nat
 | []=>[]
 | (i,_)::l=>i::ndK l
theorem Mu:∀ {l:List (Nat×Cells)},(i,B)∈l→i∈ndK l
 | (j,C)::l,h=>by
  simp only[ndK]
  rcases List.mem_cons.1 h with h|h
  ·cases h;exact List.mem_cons_self
  exact List.mem_cons_of_mem _ (Mu h)
def JP(X:Cx)(kn:Kn)(e:Env)(w:List Sg):Pos→Prop
 | .ops ops todo k=>ab X.C X.fn X.aA ops todo (KQ X k) (A X.n e X.D) ⟨X.ro,den w⟩
 | .code c k=>Wp X.C X.fn X.aA c (KQ X k) (A X.n e X.D) ⟨X.ro,den w⟩
 | .nxt K=>K (A X.n e X.D) ⟨X.ro,den w⟩
 | .HA ops base Pl Sl k=>PF X kn.nd ops base Pl Sl→tL X.C X.fn X.aA ops X.n X.D base Pl Sl (KQ X k) ⟨X.ro,den w⟩
 | .fin e'=>X.Q e' (A X.n e X.D) ⟨X.ro,den w⟩
def J(X:Cx):Option JS→Prop
 |none=>False
 |some s=>Knows X.ro s.kn.c→JP X s.kn s.env s.rw s.pos
def Ph:List KI→Pos
 | []=> .fin .normal
 | .seq b::k=> .code b k
 | .block _::k=>Ph k
 | .next K::_=> .nxt K
theorem ub{w:List Sg}:∀ {k:List KI},JP X kn e w (Ph k)→KQ X k .normal (A X.n e X.D) ⟨X.ro,den w⟩
 | [],h=>h
 | .seq _::_,h=>h
 | .block _::k,h=>ub (k:=k) h
 | .next _::_,h=>h
def Bf(id:Nat):List KI→Option Pos
 | []=>some (.fin (.exit id))
 | .seq _::k=>Bf id k
 | .block i::k=>bif Nat.beq id i then some (Ph k) else Bf id k
 | .next _::k=>Bf id k
theorem wS{w:List Sg}{p:Pos}:∀ {k:List KI},Bf id k=some p→JP X kn e w p→KQ X k (.exit id) (A X.n e X.D) ⟨X.ro,den w⟩
 | [],h,hj=>by simp only[Bf,Option.some.injEq] at h;subst h;exact hj
 | .seq _::k,h,hj=>wS (k:=k) h hj
 | .next _::k,h,hj=>wS (k:=k) h hj
 | .block i::k,h,hj=>by
  simp only[Bf] at h
  cases hb:Nat.beq id i with
  |true=>
   rw[hb] at h;simp only[cond_true,Option.some.injEq] at h;subst h
   have:=Nat.eq_of_beq_eq_true hb;subst this
   exact DV (ub hj)
  |false=>
   rw[hb] at h;simp only[cond_false] at h
   exact DU hb (wS (k:=k) h hj)
theorem AA{a:Act}(h:X.Q .ret a s):∀(k:List KI),KQ X k .ret a s
 | []=>h
 | .seq _::k=>AA h k
 | .next _::k=>AA h k
 | .block _::k=>AA h k
def azq:Op→Bool
 | .move _| .assign _| .pick .. | .makeFunc .. | .extract .. | .nilCheck _| .fieldAddr .. | .makeInterface .. | .indexAddr .. | .index .. | .field .. | .binOp .. | .unOp .. | .convert .. | .build .. | .load .. | .lookup .. | .slice .. =>true
 | .call ⟨.builtin .len,_,_⟩| .call ⟨.builtin .cap,_,_⟩| .call ⟨.builtin .min,_,_⟩| .call ⟨.builtin .max,_,_⟩=>true
 |_=>false
def azr(ops:Array Oper)(i:Nat):Bool:=match ops[i]? with
 |some o=>azq o.op
 |none=>false
def enabled(ops:Array Oper)(ks:List Nat)(i:Nat):Bool:= !aY i ks&&fX (bk ops i) ks
def aht(f:Nat→Bool):Nat→Nat→Option Nat
 |0,_=>none
 |k+1,i=>bif f i then some i else aht f k (i+1)
def am6(ops:Array Oper)(ks:List Nat):Option Nat:=
 match aht (fun i=>enabled ops ks i&&azr ops i) ops.size 0 with
 |some i=>some i
 |none=>aht (enabled ops ks) ops.size 0
def qK(n:Nat):JS→Option (Bool×Oper×Env)
 | ⟨.ops ops (i::_) _,e,_,_⟩=>match ops[i]? with
  |some o=>match wM ops n e o.guard with
   |some g=>some (g,o,e)
   |none=>none
  |none=>none
 | ⟨.HA ops base Pl _ _,_,_,_⟩=>match am6 ops (aj Pl) with
  |some i=>match ops[i]? with
   |some o=>match wM ops n (cm ops base i Pl) o.guard with
    |some g=>some (g,o,cm ops base i Pl)
    |none=>none
   |none=>none
  |none=>none
 |_=>none
def Ge(v:Value):JS→Option JS
 | ⟨.ops ops (i::todo) k,e,w,kn⟩=>match ops[i]? with
  |some o=>some ⟨.ops ops todo k,upd o.dst v e,w,kn⟩
  |none=>none
 | ⟨.HA ops base Pl Sl k,e,w,kn⟩=>match am6 ops (aj Pl) with
  |some i=>bif !aY i (aj Pl)&&(fX (bk ops i) (aj Pl)&&(pw ops (aj Pl)&&(fX (aj Sl) (aj Pl)&& !aY i (ndK kn.nd)))) then some ⟨.HA ops base ((i,v)::Pl) ((i,v)::Sl) k,e,w,kn⟩ else none
  |none=>none
 |_=>none
theorem n8{ops:Array Oper}{g:Option (Nat×Bool)}(h:wM ops n e g=some true)(rest:Env):av ops n (e++rest) g=true:=by
 unfold wM at h
 split at h
 ·rfl
 rename_i j want
 split at h<;>try (cases h;done)
 rename_i d hd
 have hd:(ops[j]?).bind (·.dst)=some d:=hd
 split at h<;>try (cases h;done)
 ·rename_i hb;simp only[Option.some.injEq] at h;subst h
  exact tP hd (aZ hb) rfl
 rename_i hb;simp only[Option.some.injEq,Bool.not_eq_true'] at h;subst h
 exact tP hd (aZ hb) rfl
section
variable {X:Cx}
theorem zk{ops:Array Oper}{Q:Post}(ho:ops[i]?=some o) (h:wM ops X.n e o.guard=some false) (rest:Env) (hk:ab X.C X.fn X.aA ops todo Q (A X.n (upd o.dst undef (e++rest)) X.D) s):ab X.C X.fn X.aA ops (i::todo) Q (A X.n (e++rest) X.D) s:=by
 unfold wM at h
 split at h
 ·cases h
 rename_i j want hg
 split at h<;>try (cases h;done)
 rename_i d hd
 have hd:(ops[j]?).bind (·.dst)=some d:=hd
 split at h<;>try (cases h;done)
 ·rename_i hb;simp only[Option.some.injEq] at h;subst h
  exact ui X.hC ho hg hd (aZ hb) rfl hk
 ·rename_i hb;simp only[Option.some.injEq,Bool.not_eq_false'] at h;subst h
  exact ui X.hC ho hg hd (aZ hb) rfl hk
 rename_i hb
 rcases o with ⟨dst,op,ty,pos,c8,g⟩
 dsimp only at hg;subst hg
 exact akS X.hC ho hd (aZ hb) hk
def H4(X:Cx)(e:Env)(o:Oper)(s:St)(v:Value):Prop:=
 ∀(ops:Array Oper) (i:Nat),ops[i]?=some o→∀rest,av ops X.n (e++rest) o.guard=true→∀s',Ext s s'→∀todo Q,ab X.C X.fn X.aA ops todo Q (A X.n (upd o.dst v (e++rest)) X.D) s'→ab X.C X.fn X.aA ops (i::todo) Q (A X.n (e++rest) X.D) s'
theorem jyS{s:JS}{v:Value}(hh:qK X.n s=some (g,o,e))(hp:Ge v s=some s')
 (hv:match g with|true=>(Knows X.ro s.kn.c→H4 X e o ⟨X.ro,den s.rw⟩ v)∧(Dv o.op=true→∀s,H4 X e o s v)|false=>v=undef)(hj:J X (some s')):J X (some s):=by
 intro bR
 rcases s with ⟨p,e0,w,kn⟩
 cases p with
 |ops ops todo k=>
  cases todo with
  |nil=>cases hh
  |cons i todo=>
   simp only[qK] at hh
   split at hh<;>try (cases hh;done)
   rename_i o1 ho
   split at hh<;>try (cases hh;done)
   rename_i g1 hg
   cases hh
   simp only[Ge,ho,Option.some.injEq] at hp;subst hp
   have hk:ab X.C X.fn X.aA ops todo (KQ X k) (A X.n (upd o.dst v e) X.D) ⟨X.ro,den w⟩:=hj bR
   show ab X.C X.fn X.aA ops (i::todo) (KQ X k) (A X.n e X.D) ⟨X.ro,den w⟩
   cases g with
   |true=>
    have:=hv.1 bR ops i ho [] (n8 hg []) _ (Ext.refl _) todo (KQ X k)
    rw[List.append_nil] at this
    exact this hk
   |false=>
    dsimp only at hv;subst hv
    have:=zk (Q:=KQ X k) (s:=⟨X.ro,den w⟩) (todo:=todo) ho hg []
    rw[List.append_nil] at this
    exact this hk
 |HA ops base Pl Sl k=>
  simp only[qK] at hh
  split at hh<;>try (cases hh;done)
  rename_i i hi
  split at hh<;>try (cases hh;done)
  rename_i o1 ho
  split at hh<;>try (cases hh;done)
  rename_i g1 hg
  cases hh
  simp only[Ge,hi] at hp
  cases hc:(!aY i (aj Pl)&&(fX (bk ops i) (aj Pl)&&(pw ops (aj Pl)&&(fX (aj Sl) (aj Pl)&& !aY i (ndK kn.nd))))) with
  |false=>rw[hc] at hp;cases hp
  |true=>
   rw[hc] at hp;simp only[cond_true,Option.some.injEq] at hp;subst hp
   simp only[Bool.and_eq_true,Bool.not_eq_true'] at hc
   have EG:aO ops i=o.dst:=by simp only[aO,ho,Option.bind_some]
   intro hpf
   have qZ:∀j,j∈aj Sl→i∉bk ops j:=fun j hj hd=>by
    have h1:=bI.1 hc.2.2.2.1 j hj
    have h2:=bI.1 (List.all_eq_true.1 hc.2.2.1 j h1) i hd
    rw[aJ.2 h2] at hc;exact absurd hc.1 (by simp)
   refine H2 i hc.1 hc.2.1 hc.2.2.1 hc.2.2.2.1 ?_ (hj bR ⟨fun j u Im hp s0=>?_,fun j u B Im hB s0 GQ vx=>?_⟩)
   ·intro s1 hx rest todo Q hk
    rw[EG] at hk
    cases g with
    |true=>exact hv.1 bR ops _ ho rest (n8 hg rest) _ hx _ _ hk
    |false=>dsimp only at hv;subst hv;exact zk ho hg rest hk
   ·have hii:i∉bk ops i:=fun hd=>by
     have h2:=bI.1 hc.2.1 i hd
     rw[aJ.2 h2] at hc;exact absurd hc.1 (by simp)
    rcases List.mem_cons.1 Im with h1|h1
    ·obtain⟨Ae,rfl⟩:=Prod.mk.inj h1
     subst Ae
     rw[cO hii]
     intro s1 hx rest todo Q hk
     rw[EG] at hk
     cases g with
     |true=>
      have hpk:Dv o.op=true:=by
       simp only[tb,ho,cO hii,hg,Bool.or_false] at hp
       exact hp
      exact hv.2 hpk s0 ops _ ho rest (n8 hg rest) _ hx _ _ hk
     |false=>dsimp only at hv;subst hv;exact zk ho hg rest hk
    have Ob:j∈aj Sl:=aN.2 ⟨u,h1⟩
    rw[cO (qZ j Ob)]
    exact hpf.1 j u h1 (by simp only[tb,cO (qZ j Ob)] at hp;exact hp) s0
   rcases List.mem_cons.1 Im with h1|h1
   ·obtain⟨Ae,rfl⟩:=Prod.mk.inj h1
    subst Ae
    have:=Mu hB
    rw[aJ.2 this] at hc;exact absurd hc.2.2.2.2 (by simp)
   rw[cO (qZ j (aN.2 ⟨u,h1⟩))]
   exact hpf.2 j u B h1 hB s0 GQ vx
 |_=>cases hh
def akH(B:Cells)(v:Value):JS→Option JS
 | ⟨.ops ops (i::todo) k,e,w,kn⟩=>match ops[i]? with
  |some o=>some ⟨.ops ops todo k,upd o.dst v e,w,kn⟩
  |none=>none
 | ⟨.HA ops base Pl Sl k,e,w,kn⟩=>match am6 ops (aj Pl) with
  |some i=>bif !aY i (aj Pl)&&(fX (bk ops i) (aj Pl)&&(pw ops (aj Pl)&&(fX (aj Sl) (aj Pl)&& !aY i (ndK kn.nd)))) then some ⟨.HA ops base ((i,v)::Pl) ((i,v)::Sl) k,e,w,⟨kn.c,(i,B)::kn.nd⟩⟩ else none
  |none=>none
 |_=>none
theorem jyN{s:JS}{v:Value}(hh:qK X.n s=some (true,o,e))(hp:akH B v s=some s')(hB:∀x∈B,(⟨X.ro,den s.rw⟩:St).has x.1 x.2)(hnp:Dv o.op=false)
 (hv:∀s0,Ext ⟨X.ro,[]⟩ s0→(∀x∈B,s0.has x.1 x.2)→H4 X e o s0 v)(hj:J X (some s')):J X (some s):=by
 intro bR
 rcases s with ⟨p,e0,w,kn⟩
 cases p with
 |ops ops todo k=>
  have:Ge v ⟨.ops ops todo k,e0,w,kn⟩=some s':=by
   cases todo with
   |nil=>cases hh
   |cons i todo=>exact hp
  exact jyS hh this ⟨fun _=>hv _ Nj hB,fun h=>by rw[hnp] at h;cases h⟩ hj bR
 |HA ops base Pl Sl k=>
  simp only[qK] at hh
  split at hh<;>try (cases hh;done)
  rename_i i hi
  split at hh<;>try (cases hh;done)
  rename_i o1 ho
  split at hh<;>try (cases hh;done)
  rename_i g1 hg
  cases hh
  simp only[akH,hi] at hp
  cases hc:(!aY i (aj Pl)&&(fX (bk ops i) (aj Pl)&&(pw ops (aj Pl)&&(fX (aj Sl) (aj Pl)&& !aY i (ndK kn.nd))))) with
  |false=>rw[hc] at hp;cases hp
  |true=>
   rw[hc] at hp;simp only[cond_true,Option.some.injEq] at hp;subst hp
   simp only[Bool.and_eq_true,Bool.not_eq_true'] at hc
   have EG:aO ops i=o.dst:=by simp only[aO,ho,Option.bind_some]
   intro hpf
   have qZ:∀j,j∈aj Sl→i∉bk ops j:=fun j hj hd=>by
    have h1:=bI.1 hc.2.2.2.1 j hj
    have h2:=bI.1 (List.all_eq_true.1 hc.2.2.1 j h1) i hd
    rw[aJ.2 h2] at hc;exact absurd hc.1 (by simp)
   have hii:i∉bk ops i:=fun hd=>by
    have h2:=bI.1 hc.2.1 i hd
    rw[aJ.2 h2] at hc;exact absurd hc.1 (by simp)
   have bO:∀s0,Ext ⟨X.ro,[]⟩ s0→(∀x∈B,s0.has x.1 x.2)→e8 X.C X.fn X.aA ops X.n X.D i v (cm ops base i Pl) s0:=by
    intro s0 GQ vx s1 hx rest todo Q hk
    rw[EG] at hk
    exact hv s0 GQ vx ops _ ho rest (n8 hg rest) _ hx _ _ hk
   have aQ5:tb ops X.n base ((i,v)::Pl) i=false:=by
    simp only[tb,ho,hnp,cO hii,hg,Bool.or_false]
   refine H2 i hc.1 hc.2.1 hc.2.2.1 hc.2.2.2.1 (bO _ Nj hB) (hj bR ⟨fun j u Im hp s0=>?_,fun j u B' Im hB' s0 GQ vx=>?_⟩)
   ·rcases List.mem_cons.1 Im with h1|h1
    ·obtain⟨Ae,rfl⟩:=Prod.mk.inj h1
     subst Ae
     rw[aQ5] at hp;cases hp
    have Ob:j∈aj Sl:=aN.2 ⟨u,h1⟩
    rw[cO (qZ j Ob)]
    exact hpf.1 j u h1 (by simp only[tb,cO (qZ j Ob)] at hp;exact hp) s0
   rcases List.mem_cons.1 Im with h1|h1
   ·obtain⟨Ae,rfl⟩:=Prod.mk.inj h1
    subst Ae
    rw[cO hii]
    rcases List.mem_cons.1 hB' with h2|h2
    ·cases h2;exact bO s0 GQ vx
    have:=Mu h2
    rw[aJ.2 this] at hc;exact absurd hc.2.2.2.2 (by simp)
   have Ob:j∈aj Sl:=aN.2 ⟨u,h1⟩
   rw[cO (qZ j Ob)]
   rcases List.mem_cons.1 hB' with h2|h2
   ·obtain⟨Ae,rfl⟩:=Prod.mk.inj h2
    subst Ae
    have h3:=bI.1 hc.2.2.2.1 _ Ob
    rw[aJ.2 h3] at hc;exact absurd hc.1 (by simp)
   exact hpf.2 j u B' h1 h2 s0 GQ vx
 |_=>cases hh
theorem jy{s:JS}{v:Value}(hh:qK X.n s=some (g,o,e))(hp:Ge v s=some s')
 (hv:match g with|true=>eN o.op=true∧(Knows X.ro s.kn.c→Yields X.P X.n e o ⟨X.ro,den s.rw⟩ v)∧(Dv o.op=true→∀s,Yields X.P X.n e o s v)|false=>v=undef)(hj:J X (some s')):J X (some s):=by
 refine jyS hh hp ?_ hj
 cases g with
 |true=>exact⟨fun bR ops i ho rest hw s' hx todo Q hk=>mz X.hC ho rest hw hv.1 (hv.2.1 bR) hx hk,fun hp s ops i ho rest hw s' hx todo Q hk=>mz X.hC ho rest hw hv.1 (hv.2.2 hp s) hx hk⟩
 |false=>exact hv
end
def yU:List Sg→Nat→Option Sg
 | [],_=>none
 |x::_,0=>some x
 |_::l,i+1=>yU l i
def SJ:List Sg→Nat→Sg→List Sg
 | [],_,_=>[]
 |_::l,0,y=>y::l
 |x::l,i+1,y=>x::SJ l i y
def akZ:Cells→Nat→Option (Nat×Obj)
 | [],_=>none
 |x::_,0=>some x
 |_::l,i+1=>akZ l i
def Br(w:List Sg)(kn:Cells)(h:Nat):Option (Nat×List Value):=
 match yU w h with
 |some (.b b (.cells ⟨l⟩ _ _))=>some (b,l)
 |some _=>none
 |none=>match akZ kn (h-64) with
  |some (b,.cells ⟨l⟩ _ _)=>some (b,l)
  |_=>none
def aci(P:Program)(n:Nat)(e:Env)(w:List Sg)(h:Nat):Op→Option (List Sg×Nat×Nat)
 | .store T x y=>match bh n e x with
  |some (.pointer (some ⟨b,off,none⟩))=>match bh n e y with
   |some v=>match yU w h with
    |some (.b b' (.cells ⟨c⟩ t (0,0)))=>match aW P T with
     |some ti=>bif Nat.beq (eo v).length ti.size&&(Nat.ble (off+(eo v).length) c.length&&(eo v).all single) then some (SJ w h (.b b' (.cells ⟨dI c off (eo v)⟩ t (0,0))),b,b') else none
     |none=>none
    |_=>none
   |none=>none
  |_=>none
 |_=>none
abbrev aqc:=Option (JS×List Nat×List (Nat×Nat))
def awf(n:Nat)(e:Env)(k:List KI):Code→Option Pos
 | .skip=>some (Ph k)
 | .seq a b=>some (.code a (.seq b::k))
 | .block id c=>some (.code c (.block id::k))
 | .region _ ops d=>bif d then (bif zr ops then some (.HA ops e [] [] k) else none) else some (.ops ops (List.range ops.size) k)
 | .exit id=>Bf id k
 | .ret=>some (.fin .ret)
 | .scope c=>some (.code c k)
 | .label _=>some (Ph k)
 | .cond c a b=>match bh n e c with
  |some (.bool true)=>some (.code a k)
  |some (.bool false)=>some (.code b k)
  |_=>none
 |_=>none
def ahV(ops:Array Oper)(Pl:List (Nat×Value)):Bool:=fW ops&&(nodupB (aj Pl)&&(fX (List.range ops.size) (aj Pl)&&fX (aj Pl) (List.range ops.size)))
def opJ(P:Program)(n:Nat)(hs:List Nat)(s:JS):aqc:=
 match qK n s with
 |some (g,o,e)=>bif g then (match o.op with
  | .store .. =>match s,hs with
   | ⟨.ops ops (_::todo) k,_,w,kn⟩,h::hs=>match aci P n e w h o.op with
    |some (w',b,b')=>some (⟨.ops ops todo k,upd o.dst undef e,w',kn⟩,hs,[(b,b')])
    |none=>none
   |_,_=>none
  | .load T x=>match hs with
   |h::hs=>match bh n e x with
    |some (.pointer (some ⟨b,off,none⟩))=>match Br s.rw s.kn.c h with
     |some (b',l)=>match ldv P T l off with
      |some v=>match Ge v s with
       |some s'=>some (s',hs,[(b',b)])
       |none=>none
      |none=>none
     |none=>none
    |_=>none
   | []=>none
  |_=>bif eN o.op then (match abK P n e o with
   |some v=>match Ge v s with
    |some s'=>some (s',hs,[])
    |none=>none
   |none=>none) else none) else (match Ge undef s with
  |some s'=>some (s',hs,[])
  |none=>none)
 |none=>none
def stepJ(P:Program)(n:Nat)(hs:List Nat)(s:JS):aqc:=
 match s.pos with
 | .ops _ [] k=>some (⟨Ph k,s.env,s.rw,s.kn⟩,hs,[])
 | .code c k=>match awf n s.env k c with
  |some p=>some (⟨p,s.env,s.rw,⟨s.kn.c,[]⟩⟩,hs,[])
  |none=>none
 | .HA ops base Pl _ k=>match am6 ops (aj Pl) with
  |none=>bif ahV ops Pl then some (⟨Ph k,jJ ops base Pl,s.rw,s.kn⟩,hs,[]) else none
  |some _=>opJ P n hs s
 |_=>opJ P n hs s
section
variable {X:Cx}
theorem Az:∀ {w:List Sg} {h b:Nat} {o:Obj},yU w h=some (.b b o)→∃L R,den w=L++(b,o)::R∧∀o',den (SJ w h (.b b o'))=L++(b,o')::R
 | [],_,_,_,h=>by cases h
 |x::w,0,b,o,h=>by
  simp only[yU,Option.some.injEq] at h;subst h
  exact⟨[],den w,by simp[iX],fun o'=>by simp[SJ,iX]⟩
 |x::w,i+1,b,o,h=>by
  obtain⟨L,R,h1,h2⟩:=Az (w:=w) (h:=i) h
  cases x with
  |b i' o1=>exact⟨(i',o1)::L,R,by simp[iX,h1],fun o'=>by simp[SJ,iX,h2]⟩
  |l L1=>exact⟨L1++L,R,by simp[gZ,h1],fun o'=>by simp[SJ,gZ,h2]⟩
theorem PH:∀ {l:Cells} {i:Nat} {x:Nat×Obj},akZ l i=some x→x∈l
 | [],_,_,h=>by cases h
 |y::l,0,x,h=>by simp only[akZ,Option.some.injEq] at h;subst h;exact List.mem_cons_self
 |y::l,i+1,x,h=>List.mem_cons_of_mem _ (PH (l:=l) h)
theorem zt{w:List Sg}{kn:Cells}{h b:Nat}(hk:Knows X.ro kn)(hc:Br w kn h=some (b,l)):∃t fz,(⟨X.ro,den w⟩:St).has b (.cells ⟨l⟩ t fz):=by
 unfold Br at hc
 split at hc
 ·rename_i hn
  cases hc
  obtain⟨L,R,h1,_⟩:=Az hn
  exact⟨_,_,.inr (by show (_,_)∈den w;rw[h1];exact fP)⟩
 ·cases hc
 split at hc<;>try (cases hc;done)
 rename_i hn
 cases hc
 exact⟨_,_,.inl (hk _ (PH hn))⟩
theorem am8{w:List Sg}{k:List KI}{c:Code}{p:Pos}(h:awf X.n e k c=some p)(hj:JP X ⟨kn.c,[]⟩ e w p):JP X kn e w (.code c k):=by
 unfold awf at h
 split at h
 ·cases h;exact wp_skip X.hC (ub hj)
 ·cases h;exact wp_seq X.hC hj
 ·cases h;exact wp_block X.hC hj
 ·rename_i id ops d
  cases d with
  |true=>
   simp only[cond_true] at h
   cases hd:zr ops with
   |false=>rw[hd] at h;cases h
   |true=>
    rw[hd] at h;simp only[cond_true,Option.some.injEq] at h;subst h
    exact aaG X.hC X.hm hd (hj ⟨fun _ _ h=>(List.not_mem_nil h).elim,fun _ _ _ h=>(List.not_mem_nil h).elim⟩)
  |false=>simp only[cond_false,Option.some.injEq] at h;subst h;exact wp_region X.hC hj
 ·exact wp_exit X.hC (wS h hj)
 ·cases h;exact wp_ret (AA hj k)
 ·cases h;exact Oo X.hC hj
 ·cases h;exact wp_label X.hC (ub hj)
 ·split at h<;>try (cases h;done)
  ·rename_i hc;cases h;exact VA X.hC hc rfl hj
  rename_i hc;cases h;exact VB X.hC hc rfl hj
 cases h
theorem adk{s:JS}{q:List (Nat×Nat)}(h:opJ X.P X.n hs s=some (s',nG,q))(hq:∀p∈q,p.1=p.2)(hj:J X (some s')):J X (some s):=by
 unfold opJ at h
 split at h<;>try (cases h;done)
 rename_i g o e hh
 cases g with
 |false=>
  simp only[cond_false] at h
  split at h<;>try (cases h;done)
  rename_i s1 hp
  cases h
  exact jy hh hp rfl hj
 |true=>
  simp only[cond_true] at h
  split at h
  ·rename_i T x y ay
   split at h<;>try (cases h;done)
   rename_i ops i todo k e1 w kn h0 hsx
   split at h<;>try (cases h;done)
   rename_i w' b b' bO
   cases h
   have R5:b=b':=hq _ List.mem_cons_self
   subst R5
   simp only[qK] at hh
   split at hh<;>try (cases hh;done)
   rename_i o1 ho
   split at hh<;>try (cases hh;done)
   rename_i g1 hg
   simp only[Option.some.injEq,Prod.mk.injEq] at hh
   obtain⟨rfl,rfl,rfl⟩:=hh
   intro bR
   have hj:=hj bR
   rw[ay] at bO
   simp only[aci] at bO
   split at bO<;>try (cases bO;done)
   rename_i b0 off hx
   split at bO<;>try (cases bO;done)
   rename_i v hy
   split at bO<;>try (cases bO;done)
   rename_i b1 c t hn
   split at bO<;>try (cases bO;done)
   rename_i ti dZ
   cases hc:(Nat.beq (eo v).length ti.size&&(Nat.ble (off+(eo v).length) c.length&&(eo v).all single)) with
   |false=>rw[hc] at bO;cases bO
   |true=>
    rw[hc] at bO
    simp only[cond_true,Option.some.injEq,Prod.mk.injEq] at bO
    obtain⟨rfl,rfl,rfl⟩:=bO
    simp only[Bool.and_eq_true,Nat.ble_eq] at hc
    obtain⟨bx,tf⟩:=ar dZ
    obtain⟨L,R,h1,h2⟩:=Az hn
    rcases o1 with ⟨dst,op,ty,pos,c8,gd⟩
    dsimp only at ay;subst ay
    have hw:=n8 hg []
    rw[List.append_nil] at hw
    refine Fb (v:=v) (l:=eo v) (L:=L) (R:=R) (c:=c) (e:=t) X.hC ho hw tf hx hy (by rw[mQ]) (Nat.eq_of_beq_eq_true hc.1) (List.all_eq_true.1 hc.2.2) h1 hc.2.1 ?_
    have hj:ab X.C X.fn X.aA ops todo (KQ X k) _ ⟨X.ro,den _⟩:=hj
    rw[h2] at hj
    exact hj
  ·rename_i T x ay
   split at h<;>try (cases h;done)
   rename_i h0 cd
   split at h<;>try (cases h;done)
   rename_i b off hx
   split at h<;>try (cases h;done)
   rename_i b' l hc
   split at h<;>try (cases h;done)
   rename_i v hv
   split at h<;>try (cases h;done)
   rename_i s1 hp
   cases h
   have R5:b'=b:=hq _ List.mem_cons_self
   subst R5
   refine jy hh hp ⟨by rw[ay];rfl,fun bR=>?_,fun hk=>by rw[ay] at hk;cases hk⟩ hj
   obtain⟨t,fz,hb⟩:=zt bR hc
   exact ad5 ay hx hb hv
  cases hn:eN o.op with
  |false=>rw[hn] at h;cases h
  |true=>
   rw[hn] at h;simp only[cond_true] at h
   split at h<;>try (cases h;done)
   rename_i v hv
   split at h<;>try (cases h;done)
   rename_i s1 hp
   cases h
   exact jy hh hp ⟨hn,fun _=>Ar hv,fun _ _=>Ar hv⟩ hj
theorem acj{s:JS}{q:List (Nat×Nat)}(h:stepJ X.P X.n hs s=some (s',nG,q))(hq:∀p∈q,p.1=p.2)(hj:J X (some s')):J X (some s):=by
 unfold stepJ at h
 split at h
 ·rename_i ops k hp
  cases h
  rcases s with ⟨p,e,w,kn⟩
  dsimp only at hp;subst hp
  exact fun bR=>uf X.hC (ub (hj bR))
 ·rename_i c k hp
  rcases s with ⟨p,e,w,kn⟩
  dsimp only at hp;subst hp
  split at h<;>try (cases h;done)
  rename_i p hc
  cases h
  exact fun bR=>am8 hc (hj bR)
 ·rename_i ops base Pl Sl k hp
  split at h
  ·cases hd:ahV ops Pl with
   |false=>rw[hd] at h;cases h
   |true=>
    rw[hd] at h;simp only[cond_true,Option.some.injEq,Prod.mk.injEq] at h
    obtain⟨rfl,rfl,rfl⟩:=h
    rcases s with ⟨p,e,w,kn⟩
    dsimp only at hp;subst hp
    simp only[ahV,Bool.and_eq_true] at hd
    exact fun bR _=>aiw X.hC hd.1 hd.2.1 hd.2.2.1 hd.2.2.2 (ub (hj bR))
  exact adk h hq hj
 exact adk h hq hj
end
def aaN(P:Program)(n:Nat):Nat→List Nat→JS→List (Nat×Nat)→Option (JS×List (Nat×Nat))
 |0,_,s,q=>some (s,q)
 |k+1,hs,s,q=>match stepJ P n hs s with
  |some (s',nG,q')=>aaN P n k nG s' (q'++q)
  |none=>none
def adv(P:Program)(n k:Nat)(hs:List Nat):Option JS→Option (JS×List (Nat×Nat))
 |some s=>aaN P n k hs s []
 |none=>none
def res:Option (JS×List (Nat×Nat))→Option JS
 |some (s,_)=>some s
 |none=>none
def UI:List (Nat×Nat)→List Nat
 | []=>[]
 | (a,_)::l=>a::UI l
def SG:List (Nat×Nat)→List Nat
 | []=>[]
 | (_,b)::l=>b::SG l
def lhs:Option (JS×List (Nat×Nat))→List Nat
 |some (_,q)=>UI q
 |none=>[0]
def rhs:Option (JS×List (Nat×Nat))→List Nat
 |some (_,q)=>SG q
 |none=>[1]
theorem mO:∀ {q:List (Nat×Nat)},UI q=SG q→∀p∈q,p.1=p.2
 | (a,b)::l,h,p,hp=>by
  simp only[UI,SG,List.cons.injEq] at h
  rcases List.mem_cons.1 hp with rfl|hp
  ·exact h.1
  exact mO h.2 p hp
theorem Ym:∀ {k:Nat} {hs:List Nat} {s s':JS} {q q':List (Nat×Nat)},aaN X.P X.n k hs s q=some (s',q')→(∀p∈q',p.1=p.2)→(J X (some s')→J X (some s))∧∀p∈q,p∈q'
 |0,_,_,_,_,_,h,_=>by simp only[aaN,Option.some.injEq,Prod.mk.injEq] at h;obtain⟨rfl,rfl⟩:=h;exact⟨id,fun _ h=>h⟩
 |k+1,hs,s,s',q,q',h,hq=>by
  simp only[aaN] at h
  split at h<;>try (cases h;done)
  rename_i s1 cd q1 bO
  obtain⟨h1,h2⟩:=Ym h hq
  exact⟨fun hj=>acj bO (fun p hp=>hq p (h2 p (List.mem_append_left _ hp))) (h1 hj),fun p hp=>h2 p (List.mem_append_right _ hp)⟩
theorem jd{o:Option JS}(k:Nat)(hs:List Nat)(h:J X (res (adv X.P X.n k hs o)))(he:lhs (adv X.P X.n k hs o)=rhs (adv X.P X.n k hs o):=by kernel_rfl):J X o:=by
 cases o with
 |none=>exact h
 |some s=>
  simp only[adv] at he h
  cases hc:aaN X.P X.n k hs s [] with
  |none=>rw[hc] at h;exact h.elim
  |some x=>
   rcases x with ⟨s',q⟩
   rw[hc] at he h
   exact(Ym hc (mO he)).1 h
attribute [irreducible] adv res lhs rhs
def dM(n:Nat)(f:Oper→Env→Option β):Option JS→Option β
 |some s=>match qK n s with
  |some (true,p,e)=>f p e
  |_=>none
 |none=>none
def kM(v:Value):Option JS→Option JS
 |some s=>Ge v s
 |none=>none
def Pm:List Nat→List Sg→Option (List Sg)
 | [],_=>some []
 |i::is,w=>match yU w i with
  |some x=>match Pm is w with
   |some r=>some (x::r)
   |none=>none
  |none=>none
def dK(is:List Nat):Nat→List Sg→List Sg
 |_,[]=>[]
 |k,x::w=>bif aY k is then dK is (k+1) w else x::dK is (k+1) w
def Gq:List Nat→Bool
 | []=>true
 |i::is=> !aY i is&&Gq is
def rz(is:List Nat):Option JS→Option (List Sg)
 |some s=>bif Gq is then Pm is s.rw else none
 |none=>none
def ek(is:List Nat)(o:Option JS):Option Cells:=match rz is o with
 |some w=>some (den w)
 |none=>none
def lkE:List Nat→Env→Option Env
 | [],_=>some []
 |t::ts,e=>match iD e t with
  |some v=>match lkE ts e with
   |some r=>some ((t,v)::r)
   |none=>none
  |none=>none
def pO:Env→List Nat
 | []=>[]
 | (t,_)::e=>t::pO e
def uX(ts:List Nat):Option JS→Option Env
 |some s=>lkE ts s.env
 |none=>none
theorem tq{ts:List Nat}{s:JS}:uX ts (some s)=lkE ts s.env:=rfl
theorem k8:∀ {ts:List Nat} {r:Env},lkE ts e=some r→lA e r
 | [],r,h=>by simp only[lkE,Option.some.injEq] at h;subst h;trivial
 |t::ts,r,h=>by
  simp only[lkE] at h
  split at h<;>try (cases h;done)
  rename_i v hv
  split at h<;>try (cases h;done)
  rename_i r' hr
  cases h
  exact⟨hv,k8 hr⟩
theorem mh:∀(a b:List Sg),den (a++b)=den a++den b
 | [],b=>rfl
 | .b i o::a,b=>by simp[iX,mh a b]
 | .l L::a,b=>by simp[gZ,mh a b]
theorem xI:∀(w:List Sg) (k:Nat),dK [] k w=w
 | [],_=>rfl
 |x::w,k=>by simp[dK,aY,xI w (k+1)]
theorem HB:∀ {w:List Sg} {i k:Nat} {is:List Nat} {x:Sg},yU w i=some x→aY (k+i) is=false→(den (dK is k w)).Perm (den [x]++den (dK ((k+i)::is) k w))
 | [],_,_,_,_,h,_=>by cases h
 |y::w,0,k,is,x,h,hi=>by
  simp only[yU,Option.some.injEq] at h;subst h
  have hz:∀(w:List Sg) (j:Nat),k <j→dK (k::is) j w=dK is j w:=by
   intro w
   induction w with
   |nil=>intro j _;rfl
   |cons z w ih=>
    intro j hj
    have:Nat.beq j k=false:=beq_false (by omega)
    simp only[dK,aY,this,Bool.false_or,ih (j+1) (by omega)]
  simp only[Nat.add_zero] at hi ⊢
  simp only[dK,hi,cond_false,aY,Nat.beq_refl,Bool.true_or,cond_true,hz w (k+1) (by omega)]
  cases y with
  |b i o=>rw[iX];exact .refl _
  |l L=>rw[gZ];exact .refl _
 |y::w,i+1,k,is,x,h,hi=>by
  have e:k+(i+1)=(k+1)+i:=by omega
  rw[e] at hi ⊢
  have hr:=HB (w:=w) (k:=k+1) (is:=is) h hi
  have eB:Nat.beq k ((k+1)+i)=false:=beq_false (by omega)
  simp only[dK,aY,eB,Bool.false_or]
  cases aY k is with
  |true=>simp only[cond_true];exact hr
  |false=>
   simp only[cond_false]
   cases y with
   |b i' o=>rw[iX,iX];exact(hr.cons _).trans List.perm_middle.symm
   |l L=>
    rw[gZ,gZ]
    refine(hr.append_left L).trans ?_
    rw[←List.append_assoc,←List.append_assoc]
    exact List.Perm.append_right _ List.perm_append_comm
theorem xz{w:List Sg}:∀ {is:List Nat} {r:List Sg},Pm is w=some r→Gq is=true→(den w).Perm (den r++den (dK is 0 w))
 | [],r,h,_=>by simp only[Pm,Option.some.injEq] at h;subst h;rw[xI];exact .refl _
 |i::is,r,h,ho=>by
  simp only[Pm] at h
  split at h<;>try (cases h;done)
  rename_i x hx
  split at h<;>try (cases h;done)
  rename_i r' hr
  cases h
  simp only[Gq,Bool.and_eq_true,Bool.not_eq_true'] at ho
  have h1:=xz hr ho.2
  have h2:=HB (k:=0) (is:=is) hx (by rw[Nat.zero_add];exact ho.1)
  rw[Nat.zero_add] at h2
  refine h1.trans ((List.Perm.append_left _ h2).trans ?_)
  have:den (x::r')=den [x]++den r':=by rw[←mh];rfl
  rw[this,←List.append_assoc]
  exact List.Perm.append_right _ List.perm_append_comm
theorem my{is:List Nat}{s:JS}{w:List Sg}(h:rz is (some s)=some w):(den s.rw).Perm (den w++den (dK is 0 s.rw)):=by
 simp only[rz] at h
 cases ho:Gq is with
 |false=>rw[ho] at h;cases h
 |true=>rw[ho] at h;exact xz h ho
theorem bD{is:List Nat}{s:JS}{L:Cells}(h:ek is (some s)=some L):(den s.rw).Perm (L++den (dK is 0 s.rw)):=by
 simp only[ek] at h
 split at h<;>try (cases h;done)
 rename_i w hw
 cases h
 exact my hw
theorem Ra{is:List Nat}{s:JS}{L:Cells}(h:ek is (some s)=some L):∀x∈L,(⟨X.ro,den s.rw⟩:St).has x.1 x.2:=fun x hx=> .inr ((bD h).mem_iff.2 (List.mem_append_left _ hx))
section
variable {X:Cx} {o:Option JS}
theorem sQ{f:Oper→Env→Option β}{r:β}(h:dM n f o=some r):∃s p e,o=some s∧qK n s=some (true,p,e)∧f p e=some r:=by
 unfold dM at h
 split at h<;>try (cases h;done)
 rename_i s
 split at h<;>try (cases h;done)
 rename_i p e hh
 exact⟨s,p,e,rfl,hh,h⟩
theorem jG{v:Value}{f:Oper→Env→Option β}{r:β}(h:dM X.n f o=some r)(hy:∀s p e,o=some s→qK X.n s=some (true,p,e)→f p e=some r→eN p.op=true∧(Knows X.ro s.kn.c→Yields X.P X.n e p ⟨X.ro,den s.rw⟩ v)∧(Dv p.op=true→∀s,Yields X.P X.n e p s v))(hj:J X (kM v o)):J X o:=by
 obtain⟨s,p,e,rfl,hh,hf⟩:=sQ h
 obtain⟨h1,h2,h3⟩:=hy s p e rfl hh hf
 simp only[kM] at hj
 cases hp:Ge v s with
 |none=>rw[hp] at hj;exact hj.elim
 |some s'=>rw[hp] at hj;exact jy hh hp ⟨h1,h2,h3⟩ hj
theorem jGS{v:Value}{f:Oper→Env→Option β}{r:β}(h:dM X.n f o=some r)(hy:∀s p e,o=some s→f p e=some r→H4 X e p ⟨X.ro,den s.rw⟩ v∧(Dv p.op=true→∀s,H4 X e p s v))(hj:J X (kM v o)):J X o:=by
 obtain⟨s,p,e,rfl,hh,hf⟩:=sQ h
 simp only[kM] at hj
 cases hp:Ge v s with
 |none=>rw[hp] at hj;exact hj.elim
 |some s'=>rw[hp] at hj;exact jyS hh hp ⟨fun _=>(hy s p e rfl hf).1,(hy s p e rfl hf).2⟩ hj
def Mh(B:Cells)(v:Value):Option JS→Option JS
 |some s=>akH B v s
 |none=>none
theorem jGN{v:Value}{f:Oper→Env→Option β}{r:β}(h:dM X.n f o=some r)(hB:ek ps o=some B)(hy:∀s p e,o=some s→qK X.n s=some (true,p,e)→f p e=some r→Dv p.op=false∧∀s0,Ext ⟨X.ro,[]⟩ s0→(∀x∈B,s0.has x.1 x.2)→H4 X e p s0 v)(hj:J X (Mh B v o)):J X o:=by
 obtain⟨s,p,e,rfl,hh,hf⟩:=sQ h
 obtain⟨h1,h2⟩:=hy s p e rfl hh hf
 simp only[Mh] at hj
 cases hp:akH B v s with
 |none=>rw[hp] at hj;exact hj.elim
 |some s'=>rw[hp] at hj;exact jyN hh hp (Ra hB) h1 h2 hj
theorem RM{v:Value}{f:Oper→Env→Option β}{r:β}(h:dM X.n f o=some r)(hy:∀s p e,o=some s→f p e=some r→∀s0,H4 X e p s0 v)(hj:J X (kM v o)):J X o:=
 jGS h (fun s p e ho hf=>⟨hy s p e ho hf _,fun _=>hy s p e ho hf⟩) hj
def aqG(P:Program)(n:Nat)(p:Oper)(e:Env):Option Value:=bif eN p.op then abK P n e p else none
theorem je(v:Value){w:Value}(hw:w=v)(hj:J X (kM v o))(hv:dM X.n (aqG X.P X.n) o=some w:=by kernel_rfl):J X o:=by
 subst hw
 refine jG hv (fun s p e _ _ hf=>?_) hj
 unfold aqG at hf
 cases hn:eN p.op with
 |false=>rw[hn] at hf;cases hf
 |true=>rw[hn] at hf;exact⟨rfl,fun _=>Ar hf,fun _ _=>Ar hf⟩
theorem ja(r:Int)(h: -9223372036854775808≤r∧r≤9223372036854775807)(hj:J X (kM (.int .i64 r) o))(hv:dM X.n (aqG X.P X.n) o=some (.int .i64 (IntKind.i64.wrap r)):=by kernel_rfl):J X o:=je _ (by rw[kT r h]) hj hv
def ldA(P:Program)(n k:Nat)(vs:List Value)(p:Oper)(e:Env):Option (Option Addr):=match p.op with
 | .load T x=>match ldv P T vs k with
  |some _=>match bh n e x with
   |some (.pointer a)=>some a
   |_=>none
  |none=>none
 |_=>none
def ldW(P:Program)(n k:Nat)(vs:List Value)(o:Option JS):Value:=(dM n (fun p _=>match p.op with
 | .load T _=>ldv P T vs k
 |_=>none) o).getD undef
theorem px{b m:Nat}(k:Nat)(ps:List Nat)(B:Cells)(hr:∀s:St,Ext ⟨X.ro,[]⟩ s→(∀x∈B,s.has x.1 x.2)→cv s b off m vs)(hj:J X (Mh B (ldW X.P X.n k vs o) o))(hv:dM X.n (ldA X.P X.n k vs) o=some (some ⟨b,off+k,none⟩):=by kernel_rfl)(hB:ek ps o=some B:=by kernel_rfl):J X o:=by
 refine jGN hv hB (fun s p e ho hh hf=>?_) hj
 subst ho
 unfold ldA at hf
 split at hf<;>try (cases hf;done)
 rename_i T x ay
 split at hf<;>try (cases hf;done)
 rename_i v hv2
 split at hf<;>try (cases hf;done)
 rename_i a hx
 simp only[Option.some.injEq] at hf;subst hf
 have hw:ldW X.P X.n k vs (some s)=v:=by simp only[ldW,dM,hh,ay,hv2,Option.getD_some]
 rw[hw]
 exact⟨by rw[ay];rfl,fun s0 GQ vx ops i ho rest hwt s' hs todo Q hk=>mz X.hC ho rest hwt (by rw[ay];rfl) (asB k ay hx (hr s0 GQ vx) hv2) hs hk⟩
theorem jl{b m:Nat}(k:Nat)(hr:cv ⟨X.ro,[]⟩ b off m vs)(hj:J X (Mh [] (ldW X.P X.n k vs o) o))(hv:dM X.n (ldA X.P X.n k vs) o=some (some ⟨b,off+k,none⟩):=by kernel_rfl):J X o:=by
 have hB:ek [] o=some []:=by
  obtain⟨s,_,_,rfl,_⟩:=sQ hv
  rfl
 exact px k [] [] (fun s hs _=>hr.ext hs) hj hv hB
def ixA(P:Program)(n:Nat)(p:Oper)(e:Env):Option (Value×Int×Nat):=match p.op with
 | .indexAddr T x y=>match aW P T with
  |some ⟨.slice E,_,_,_⟩=>match aW P E with
   |some te=>match bh n e x with
    |some v=>match bh n e y with
     |some (.int _ ix)=>some (v,ix,te.size)
     |_=>none
    |none=>none
   |none=>none
  |_=>none
 |_=>none
theorem jix{a:Option Addr}{b len:Nat}(ix:Int)(cap sz:Nat)(ha:a=some ⟨b,off,none⟩)(hi:0≤ix∧ix <len)(hj:J X (kM (.pointer (some ⟨b,off+ix.toNat*sz,none⟩)) o))(hv:dM X.n (ixA X.P X.n) o=some (.slice a len cap,ix,sz):=by kernel_rfl):J X o:=by
 refine jG hv (fun s p e ho hh hf=>?_) hj
 unfold ixA at hf
 split at hf<;>try (cases hf;done)
 rename_i T x y ay
 split at hf<;>try (cases hf;done)
 rename_i E _ _ _ dZ
 split at hf<;>try (cases hf;done)
 rename_i te uw
 split at hf<;>try (cases hf;done)
 rename_i v hx
 split at hf<;>try (cases hf;done)
 rename_i ik ix' hy
 simp only[Option.some.injEq,Prod.mk.injEq] at hf
 obtain⟨rfl,rfl,rfl⟩:=hf
 subst ha
 obtain⟨bx,tf⟩:=ar dZ
 obtain⟨Bt,q6⟩:=ar uw
 have key:∀s,Yields X.P X.n e p s (.pointer (some ⟨b,off+ix'.toNat*te.size,none⟩)):=by
  intro s s' nG f hf K E hK
  simp only[execOp,ay,Instr.indexAt,hf _ _ hx,hf _ _ hy,asIntOf,aa,ae,aX tf,hi,and_self,if_true,cg q6,dX]
  exact hK
 exact⟨by rw[ay];rfl,fun _=>key _,fun _=>key⟩
theorem jb{ps:List α}{b:Nat}{x:α}{a:Option Addr}(cap sz:Nat)(ha:∀k,k <ps.length→a=some ⟨b,off,none⟩)(hx:ps[k]?=some x) (hj:J X (kM (.pointer (some ⟨b,off+k*sz,none⟩)) o)) (hv:dM X.n (ixA X.P X.n) o=some (.slice a ps.length cap,(k:Int),sz):=by kernel_rfl):J X o:=
 have hk:k <ps.length:=(List.getElem?_eq_some_iff.1 hx).1
 jix (k:Int) cap sz (ha k hk) (by omega) hj hv
theorem N3{ps:List α}{b:Nat}{x:α}{a:Option Addr}(ix:Int)(cap sz:Nat)(ha:∀k,k <ps.length→a=some ⟨b,off,none⟩)(hx:ps[k]?=some x) (he:ix=(k:Int)) (hj:J X (kM (.pointer (some ⟨b,off+k*sz,none⟩)) o)) (hv:dM X.n (ixA X.P X.n) o=some (.slice a ps.length cap,ix,sz):=by kernel_rfl):J X o:=by
 subst he;exact jb cap sz ha hx hj hv
theorem jxo{v:Value}{enc:α→List Value}{ps:List α}{L:Cells}{x:α}(sz:Nat)(ld:ax v szo T2 enc ps L)(hx:ps[k]?=some x) (hj:∀b,NP v b→J X (kM (.pointer (some ⟨b,k*sz,none⟩)) o)) (hv:dM X.n (ixA X.P X.n) o=some (v,(k:Int),sz):=by kernel_rfl):J X o:=by
 have hk:k <ps.length:=(List.getElem?_eq_some_iff.1 hx).1
 obtain⟨b,hb⟩:=aAz ld hk
 have gV:=hb
 obtain⟨n0,c,rfl⟩:=gV
 have hn:n0=ps.length:=by
  obtain⟨a,c',he⟩:=ld.form
  cases he;rfl
 subst hn
 have hj:=hj b hb
 exact jix (off:=0) (k:Int) c sz rfl (by omega) (by rw[Nat.zero_add];exact hj) hv
theorem qD{v:Value}{enc:α→List Value}{ps:List α}{L:Cells}{x:α}(ix:Int)(sz:Nat)(ld:ax v szo T2 enc ps L)(hx:ps[k]?=some x) (he:ix=(k:Int)) (hj:∀b,NP v b→J X (kM (.pointer (some ⟨b,k*sz,none⟩)) o)) (hv:dM X.n (ixA X.P X.n) o=some (v,ix,sz):=by kernel_rfl):J X o:=by
 subst he;exact jxo sz ld hx hj hv
end
attribute [irreducible] dM kM Mh ek rz uX ldW
section
variable {X:Cx} {o:Option JS}
theorem NW{D:List Deferred}{t:Nat}{v:Value}(h:iD e t=some v):A n ((t,v)::e) D=A n e D:=by
 simp only[A]
 congr 1
 congr 1
 funext i
 simp only[get]
 cases hb:Nat.beq t i with
 |false=>rfl
 |true=>
  have:=Nat.eq_of_beq_eq_true hb
  subst this
  exact(nu h).symm
def O0(j:Nat)(v:Value):List (Nat×Value)→List (Nat×Value)
 | []=>[]
 | (i,w)::r=>bif Nat.beq i j then (i,v)::r else (i,w)::O0 j v r
theorem FZ{j:Nat}{v:Value}:∀ {l:List (Nat×Value)},Pj l j=some v→O0 j v l=l
 | (i,w)::r,h=>by
  simp only[Pj] at h
  simp only[O0]
  cases hb:Nat.beq i j with
  |true=>rw[hb] at h;simp only[cond_true,Option.some.injEq] at h;subst h;rfl
  |false=>rw[hb] at h;simp only[cond_false] at h ⊢;rw[FZ h]
def aot(t:Nat):JS→Option Value
 | ⟨.HA _ _ Pl _ _,_,_,_⟩=>Pj Pl t
 |s=>iD s.env t
def JC(t:Nat):Option JS→Option Value
 |some s=>aot t s
 |none=>none
def YR(t:Nat)(v:Value):JS→JS
 | ⟨.HA ops base Pl Sl k,e,w,kn⟩=>⟨.HA ops base (O0 t v Pl) Sl k,e,w,kn⟩
 | ⟨p,e,w,kn⟩=>⟨p,(t,v)::e,w,kn⟩
def O1(t:Nat)(v:Value):Option JS→Option JS
 |some s=>some (YR t v s)
 |none=>none
theorem jw(t:Nat)(v:Value){w:Value}(hw:w=v)(hj:J X (O1 t v o))(hv:JC t o=some w:=by kernel_rfl):J X o:=by
 subst hw
 cases o with
 |none=>exact hj
 |some s=>
  rcases s with ⟨p,e,II,kn⟩
  intro bR
  have hj:=hj
  cases p with
  |HA ops base Pl Sl k=>
   simp only[JC,aot] at hv
   have:O0 t w Pl=Pl:=FZ hv
   simp only[O1,YR,this] at hj
   exact hj bR
  |ops a b c=>have:=hj bR;simp only[YR,JP] at this;rw[NW hv] at this;exact this
  |code a b=>have:=hj bR;simp only[YR,JP] at this;rw[NW hv] at this;exact this
  |nxt a=>have:=hj bR;simp only[YR,JP] at this;rw[NW hv] at this;exact this
  |fin a=>have:=hj bR;simp only[YR,JP] at this;rw[NW hv] at this;exact this
theorem ji(t:Nat){c b:Bool}(h:c=b)(hj:J X (O1 t (.bool b) o))(hv:JC t o=some (.bool c):=by kernel_rfl):J X o:=jw t _ (by rw[h]) hj hv
theorem js(t:Nat)(c:Bool)(h1:c=true→J X (O1 t (.bool true) o))(h2:c=false→J X (O1 t (.bool false) o))(hv:JC t o=some (.bool c):=by kernel_rfl):J X o:=by
 cases hc:c with
 |true=>exact ji t hc (h1 hc) hv
 |false=>exact ji t hc (h2 hc) hv
def aAW(P:Program)(n:Nat)(p:Oper)(e:Env):Option (Obj×Option Nat):=match p.op with
 | .alloc T=>match aW P T with
  |some ti=>some (.cells ⟨ti.zero⟩ T (0,0),none)
  |none=>none
 | .box T x=>match bh n e x with
  |some v=>some (.cells ⟨eo v⟩ T (0,0),none)
  |none=>none
 | .buildSlice T m ps=>match aW P T with
  |some ⟨.slice E,_,_,_⟩=>match aW P E with
   |some te=>match Od n e ps.toList with
    |some pv=>match oW (fun i=>some (i*te.size,te.size)) (cQ te.zero m) (ud pv) with
     |some l=>bif Nat.beq te.zero.length te.size&&Nat.ble (m*te.size) 16777216 then some (.cells ⟨l⟩ E (0,0),some m) else none
     |none=>none
    |none=>none
   |none=>none
  |_=>none
 | .range T x=>match aW P T with
  |some ⟨.string,_,_,_⟩=>match bh n e x with
   |some (.string b)=>some (.stringIter b 0,none)
   |_=>none
  |_=>none
 |_=>none
def adD(b:Nat):Option Nat→Value
 |some m=> .slice (some ⟨b,0,none⟩) m m
 |none=> .pointer (some ⟨b,0,none⟩)
def asg(P:Program)(n b:Nat):Option JS→Option JS
 |some ⟨.ops ops (i::todo) k,e,w,kn⟩=>match qK n ⟨.ops ops (i::todo) k,e,w,kn⟩ with
  |some (true,p,_)=>match aAW P n p e with
   |some (ob,m)=>some ⟨.ops ops todo k,upd p.dst (adD b m) e,.b b ob::w,kn⟩
   |none=>none
  |_=>none
 |_=>none
theorem Qz{ops:Array Oper}{k:List KI}{e':Env}{w:List Sg}(h:qK n ⟨.ops ops (i::todo) k,e,w,kn⟩=some (g,p,e')):ops[i]?=some p∧e'=e∧(g=true→av ops n e p.guard=true):=by
 simp only[qK] at h
 split at h<;>try (cases h;done)
 rename_i p1 ho
 split at h<;>try (cases h;done)
 rename_i g1 hg
 cases h
 refine⟨ho,rfl,fun hg'=>?_⟩
 subst hg'
 have:=n8 hg []
 rwa[List.append_nil] at this
theorem jn(hj:∀b,J X (asg X.P X.n b o)):J X o:=by
 unfold asg at hj
 split at hj
 ·rename_i ops i todo k e w kn
  split at hj
  ·rename_i p e' hh
   obtain⟨ho,rfl,hw⟩:=Qz hh
   have hw:=hw rfl
   intro bR
   rcases p with ⟨dst,op,ty,pos,c8,g⟩
   split at hj
   ·rename_i ob m hn
    have key:∀b,ab X.C X.fn X.aA ops todo (KQ X k) (A X.n (upd dst (adD b m) e') X.D) ⟨X.ro,(b,ob)::den w⟩:=fun b=>by
     have:=hj b bR
     simp only[JP,iX] at this
     exact this
    unfold aAW at hn
    split at hn
    ·rename_i T ay
     dsimp only at ay;subst ay
     split at hn<;>try (cases hn;done)
     rename_i ti dZ
     cases hn
     obtain⟨bx,tf⟩:=ar dZ
     exact akY X.hC ho hw tf fun b _=>key b
    ·rename_i T x ay
     dsimp only at ay;subst ay
     split at hn<;>try (cases hn;done)
     rename_i v hx
     cases hn
     exact aAN X.hC ho hw hx (by rw[mQ]) fun b _=>key b
    ·rename_i T m0 ps ay
     dsimp only at ay;subst ay
     split at hn<;>try (cases hn;done)
     rename_i E _ _ _ dZ
     split at hn<;>try (cases hn;done)
     rename_i te uw
     split at hn<;>try (cases hn;done)
     rename_i pv I4
     split at hn<;>try (cases hn;done)
     rename_i l hl
     cases hc:(Nat.beq te.zero.length te.size&&Nat.ble (m0*te.size) 16777216) with
     |false=>rw[hc] at hn;cases hn
     |true=>
      rw[hc] at hn;simp only[cond_true,Option.some.injEq,Prod.mk.injEq] at hn
      obtain⟨rfl,rfl⟩:=hn
      simp only[Bool.and_eq_true] at hc
      obtain⟨bx,tf⟩:=ar dZ
      obtain⟨Bt,q6⟩:=ar uw
      exact Mq X.hC ho hw tf q6 hc.1 I4 hc.2 hl fun b _=>key b
    ·rename_i T x ay
     dsimp only at ay;subst ay
     split at hn<;>try (cases hn;done)
     rename_i dZ
     split at hn<;>try (cases hn;done)
     rename_i bs hx
     cases hn
     obtain⟨bx,tf⟩:=ar dZ
     exact Ti X.hC ho hw tf hx fun b _=>key b
    cases hn
   exact(hj 0).elim
  exact(hj 0).elim
 exact(hj 0).elim
def ail(n:Nat)(p:Oper)(e:Env):Option (FuncId×List Value):=match p.op with
 | .call ⟨.value x,xs,_⟩=>match bh n e x with
  |some (.func (.func f) ⟨fi⟩ ⟨ca⟩)=>match yc n e xs.toList with
   |some vs=>some (f,fi++vs++ca)
   |none=>none
  |_=>none
 |_=>none
def yA(P:Program)(n:Nat)(p:Oper)(e:Env):Option (FuncId×List Value):=match ail n p e with
 |some (f,vs)=>bif BI P f then some (f,vs) else none
 |none=>none
theorem qT(h:yA P n p e=some (f,vs)):FF P f∧∃x xs at_ fi ca ws,p.op= .call ⟨.value x,xs,at_⟩∧bh n e x=some (.func (.func f) ⟨fi⟩ ⟨ca⟩)∧vM n e xs=some ws∧vs=fi++ws++ca:=by
 unfold yA at h
 split at h<;>try (cases h;done)
 rename_i f' oH hc
 cases hb:BI P f' with
 |false=>rw[hb] at h;cases h
 |true=>
  rw[hb] at h;simp only[cond_true,Option.some.injEq,Prod.mk.injEq] at h
  obtain⟨rfl,rfl⟩:=h
  refine⟨lN hb,?_⟩
  unfold ail at hc
  split at hc<;>try (cases hc;done)
  rename_i x xs at_ ay
  split at hc<;>try (cases hc;done)
  rename_i f fi ca hx
  split at hc<;>try (cases hc;done)
  rename_i ws sw
  cases hc
  exact⟨x,xs,at_,fi,ca,ws,ay,hx,sw,rfl⟩
theorem Ru(a b c:List Value):(⟨a⟩:Array Value)++⟨b⟩++⟨c⟩=⟨a++b++c⟩:=by simp
def nI(ps:List Nat)(v:Value)(Y:Cells):Option JS→Option JS
 |some ⟨.ops ops (i::todo) k,e,w,kn⟩=>match ops[i]? with
  |some p=>some ⟨.ops ops todo k,upd p.dst v e,.l Y::dK ps 0 w,kn⟩
  |none=>none
 |_=>none
def fG(n:Nat)(f:Oper→Env→Option β):Option JS→Option β
 |some ⟨.ops a b c,e,w,kn⟩=>dM n f (some ⟨.ops a b c,e,w,kn⟩)
 |_=>none
theorem dG{f:Oper→Env→Option β}{r:β}(h:fG n f o=some r):∃ops i todo k e w kn p,o=some ⟨.ops ops (i::todo) k,e,w,kn⟩∧ops[i]?=some p∧av ops n e p.guard=true∧f p e=some r:=by
 unfold fG at h
 split at h<;>try (cases h;done)
 rename_i ops todo k e w kn
 obtain⟨s,p,e',hs,hh,hf⟩:=sQ h
 cases hs
 cases todo with
 |nil=>cases hh
 |cons i todo=>
  obtain⟨ho,rfl,hw⟩:=Qz hh
  exact⟨ops,i,todo,k,e',w,kn,p,rfl,ho,hw rfl,hf⟩
def aoS(ps lp:List Nat):Option JS→Option Cells
 |some s=>ek lp (some {s with rw:=dK ps 0 s.rw})
 |none=>none
theorem oE{ops:Array Oper}{k:List KI}{w:List Sg}{v:Value}(ho:ops[i]?=some p):nI ps v Y (some ⟨.ops ops (i::todo) k,e,w,kn⟩)=some ⟨.ops ops todo k,upd p.dst v e,.l Y::dK ps 0 w,kn⟩:=by
 simp only[nI,ho]
theorem jcL{own:Cells}(ps lp:List Nat)(B:Cells)(hf:∀aB,Sub X.ro aB→Knows aB B→eS X.P f vs aB own Φ)(hj:∀v Y,Φ v Y→J X (nI ps v Y o))(h1:fG X.n (yA X.P X.n) o=some (f,vs):=by kernel_rfl)(h2:ek ps o=some own:=by kernel_rfl)(h3:aoS ps lp o=some B:=by kernel_rfl):J X o:=by
 obtain⟨ops,i,todo,k,e,w,kn,p,rfl,ho,hw,hc⟩:=dG h1
 obtain⟨ff,x,xs,at_,fi,ca,ws,ay,hx,sw,rfl⟩:=qT hc
 intro bR
 rcases p with ⟨dst,op,ty,pos,c8,g⟩
 dsimp only at ay;subst ay
 have hp:=bD h2
 refine adu (own:=own) (B:=B) (Φ:=Φ) X.hC ho hw hx ff sw (Ru fi ws ca) hp (fun y hy=>(bD h3).mem_iff.2 (List.mem_append_left _ hy)) (fun aB hs hB=>hf aB hs hB) (fun v Y qE=>?_)
 have:=hj v Y qE
 simp only[nI,ho] at this
 have:=this bR
 simp only[JP,gZ] at this
 exact this
theorem jc{own:Cells}(ps:List Nat)(hf:eS X.P f vs X.ro own Φ)(hj:∀v Y,Φ v Y→J X (nI ps v Y o))(h1:fG X.n (yA X.P X.n) o=some (f,vs):=by kernel_rfl)(h2:ek ps o=some own:=by kernel_rfl):J X o:=by
 obtain⟨ops,i,todo,k,e,w,kn,p,rfl,ho,hw,hc⟩:=dG h1
 obtain⟨ff,x,xs,at_,fi,ca,ws,ay,hx,sw,rfl⟩:=qT hc
 intro bR
 rcases p with ⟨dst,op,ty,pos,c8,g⟩
 dsimp only at ay;subst ay
 have hp:=bD h2
 refine uk (fi:=⟨fi⟩) (ca:=⟨ca⟩) (ws:=fi++ws++ca) X.hC ho hw hx ff sw (Ru fi ws ca) (Fn.weaken X.hC (eS.ayQ (s:=⟨X.ro,den w⟩) hp hf)) (fun v' s' hr=>?_) (fun ch s' hr=>by obtain⟨_,_,e,_⟩:=hr;cases e) (fun s' hr=>by obtain⟨_,_,e,_⟩:=hr;cases e)
 obtain⟨v,Y,hv,qE,hle⟩:=hr
 cases hv
 have:=hj _ Y qE
 simp only[nI,ho] at this
 have:=this bR
 simp only[JP,gZ] at this
 exact this.more X.hC hle
theorem jp{V:Value}(lp:List Nat)(B:Cells)(hf:∀aB,Sub X.ro aB→Knows aB B→dO X.P f vs aB V)(hj:J X (Mh B V o))(h1:dM X.n (yA X.P X.n) o=some (f,vs):=by kernel_rfl)(h3:ek lp o=some B:=by kernel_rfl):J X o:=by
 refine jGN h1 h3 (fun s p e ho hh hc=>?_) hj
 obtain⟨ff,x,xs,at_,fi,ca,ws,ay,hx,sw,rfl⟩:=qT hc
 rcases p with ⟨dst,op,ty,pos,c8,g⟩
 dsimp only at ay;subst ay
 refine⟨rfl,fun s0 GQ vx ops i tw rest hw s' hs todo Q hk=>?_⟩
 have hez:Ext ⟨X.ro,B⟩ s':=fun b ob hb=>hs _ _ (hb.elim (fun h=>GQ _ _ (.inl h)) fun h=>vx (b,ob) h)
 exact PE X.hC tw hw (aZ hx) ff (xG sw) (Ru fi ws ca) hez (fun aB h1=>hf aB (FV h1) fun y hy=>h1 _ _ (.inr hy)) hk
end
attribute [irreducible] fG O1 JC asg nI aoS
def tC(P:Program)(f:FuncId):Func:=match P.funcs[f]? with
 |some fn=>fn
 |none=>default
abbrev RX(ro:Nat→Option Obj)(Φ:Value→Cells→Prop):Ending→St→Prop:=fun en s'=>∃v X,en= .returned v∧s'=⟨ro,X⟩∧Φ v X
def X0(P:Program)(hm:P.follows .mixedOrders=true)(f:FuncId)(ro:Nat→Option Obj)(R:Ending→St→Prop):Cx:=⟨P,CP P,fg,hm,f,none,(tC P f).ntmps,[],ro,rO P (tC P f) R⟩
def lI(P:Program)(f:FuncId)(args:List Value)(own:List Sg)(kn:Cells):Option JS:=match P.funcs[f]? with
 |some fn=>match fn.body with
  |some c=>bif Nat.ble args.length fn.ntmps then some ⟨.code c [],gv 0 args,own,⟨kn,[]⟩⟩ else none
  |none=>none
 |none=>none
theorem aBp{hm:P.follows .mixedOrders=true}{ro:Nat→Option Obj}(own:List Sg)(kn:Cells)(hk:Knows ro kn)(h:J (X0 P hm f ro R) (lI P f args own kn)):Fn (CP P) P f ⟨args⟩ ⟨ro,den own⟩ R:=by
 unfold lI at h
 split at h<;>try exact h.elim
 rename_i fn hf
 split at h<;>try exact h.elim
 rename_i c hc
 cases hl:Nat.ble args.length fn.ntmps with
 |false=>rw[hl] at h;exact h.elim
 |true=>
  rw[hl] at h
  have u1:tC P f=fn:=by simp only[tC,hf]
  have:=h hk
  simp only[JP,X0,KQ,u1] at this
  exact QV fg hf hc rfl hl this
theorem bC(hm:P.follows .mixedOrders=true){ro:Nat→Option Obj}{L:Cells}(own:List Sg)(kn:Cells)(hk:Knows ro kn)(h:J (X0 P hm f ro (RX ro Φ)) (lI P f args own kn))(hL:den own=L:=by rfl):eS P f args ro L Φ:=by
 subst hL;exact aBp own kn hk h
def BX(P:Program)(n:Nat)(e:Env)(w:List Sg)(kn:Cells):List Nat→List ResultVar→Option (List Value×List (Nat×Nat))
 |_,[]=>some ([],[])
 |hs,.tmp t::rs=>match bh n e (.tmp t) with
  |some v=>match BX P n e w kn hs rs with
   |some (vs,q)=>some (v::vs,q)
   |none=>none
  |none=>none
 |h::hs,.cell t T::rs=>match bh n e (.tmp t) with
  |some (.pointer (some ⟨b,off,none⟩))=>match Br w kn h with
   |some (b',l)=>match ldv P T l off with
    |some v=>match BX P n e w kn hs rs with
     |some (vs,q)=>some (v::vs,(b',b)::q)
     |none=>none
    |none=>none
   |none=>none
  |_=>none
 | [],.cell _ _::_=>none
def ky(P:Program)(n:Nat)(f:FuncId)(hs:List Nat):Option JS→Option (Value×List (Nat×Nat))
 |some ⟨.fin _,e,w,kn⟩=>match BX P n e w kn.c hs (tC P f).results.toList with
  |some (vs,q)=>some (uW vs,q)
  |none=>none
 |_=>none
def tA:Option (Value×List (Nat×Nat))→Option Value
 |some (v,_)=>some v
 |none=>none
def R8:Option (Value×List (Nat×Nat))→List Nat
 |some (_,q)=>UI q
 |none=>[0]
def R7:Option (Value×List (Nat×Nat))→List Nat
 |some (_,q)=>SG q
 |none=>[1]
theorem tW{w:List Sg}{kn:Cells}(bR:Knows X.ro kn):∀ {hs:List Nat} {rs:List ResultVar} {vs:List Value} {q:List (Nat×Nat)},BX X.P X.n e w kn hs rs=some (vs,q)→(∀p∈q,p.1=p.2)→EU X.P ⟨X.ro,den w⟩ X.n e rs vs
 |_,[],vs,q,h,_=>by simp only[BX,Option.some.injEq,Prod.mk.injEq] at h;obtain⟨rfl,rfl⟩:=h;exact .nil
 |hs,.tmp t::rs,vs,q,h,hq=>by
  simp only[BX] at h
  split at h<;>try (cases h;done)
  rename_i v hv
  split at h<;>try (cases h;done)
  rename_i oH q' hr
  simp only[Option.some.injEq,Prod.mk.injEq] at h;obtain⟨rfl,rfl⟩:=h
  exact .tmp hv (tW bR hr hq)
 | [],.cell _ _::_,vs,q,h,_=>by simp only[BX] at h;cases h
 |h0::hs,.cell t T::rs,vs,q,h,hq=>by
  simp only[BX] at h
  split at h<;>try (cases h;done)
  rename_i b off hv
  split at h<;>try (cases h;done)
  rename_i b' l hc
  split at h<;>try (cases h;done)
  rename_i v hld
  split at h<;>try (cases h;done)
  rename_i oH q' hr
  simp only[Option.some.injEq,Prod.mk.injEq] at h;obtain⟨rfl,rfl⟩:=h
  have hb:b'=b:=hq _ List.mem_cons_self
  subst hb
  obtain⟨t',fz,hh⟩:=zt (X:=X) bR hc
  have ih:=tW bR hr fun p hp=>hq p (List.mem_cons_of_mem _ hp)
  unfold ldv at hld
  split at hld<;>try (cases hld;done)
  rename_i ti dZ
  obtain⟨bx,tf⟩:=ar dZ
  cases ha:ti.agg with
  |true=>
   rw[ha] at hld tf;simp only[cond_true] at hld
   split at hld<;>try (cases hld;done)
   rename_i vs2 EA
   cases hld
   exact .agg tf hv ⟨_,_,_,hh,EA⟩ ih
  |false=>
   rw[ha] at hld tf;simp only[cond_false] at hld
   exact .cell tf hv ⟨_,_,_,hh,hld⟩ ih
def CW:Option JS→Bool
 |some ⟨.fin .ret,_,_,_⟩=>true
 |some ⟨.fin .normal,_,_,_⟩=>true
 |_=>false
theorem tE{o:Option JS}(h:CW o=true):∃ex e w kn,o=some ⟨.fin ex,e,w,kn⟩∧(ex= .ret∨ex= .normal):=by
 unfold CW at h
 split at h
 ·exact⟨_,_,_,_,rfl,.inl rfl⟩
 ·exact⟨_,_,_,_,rfl,.inr rfl⟩
 cases h
def ad1:Option JS→Bool
 |some ⟨.ops ..,_,_,_⟩=>true
 |some ⟨.code ..,_,_,_⟩=>true
 |_=>false
structure QR(X:Cx)(R:Ending→St→Prop):Prop where
 q:X.Q=rO X.P (tC X.P X.fn) R
 d:X.D=[]
theorem q0{hm:P.follows .mixedOrders=true}{ro:Nat→Option Obj}:QR (X0 P hm f ro R) R:=⟨rfl,rfl⟩
theorem QR.a{ro:Nat→Option Obj}(h:QR X R):QR (X.at ro) R:=⟨h.q,h.d⟩
theorem bu{ro:Nat→Option Obj}:Knows ro []:=fun _ h=>by cases h
section
variable {X:Cx} {o:Option JS}
theorem aH{pS:Nat→Option Obj}(hq:QR X R)(v:Value)(hs ps:List Nat)(Y:Cells)(fT:Sub pS X.ro)(hR:R (.returned v) ⟨pS,Y⟩)(h1:tA (ky X.P X.n X.fn hs o)=some v:=by kernel_rfl)(h2:R8 (ky X.P X.n X.fn hs o)=R7 (ky X.P X.n X.fn hs o):=by kernel_rfl)(h3:ek ps o=some Y:=by kernel_rfl)(h4:CW o=true:=by kernel_rfl):J X o:=by
 obtain⟨ex,e,w,kn,rfl,hex⟩:=tE h4
 simp only[ky] at h1 h2
 cases hr:BX X.P X.n e w kn.c hs (tC X.P X.fn).results.toList with
 |none=>rw[hr] at h1;cases h1
 |some x=>
  rcases x with ⟨vs,q⟩
  simp only[hr,tA,Option.some.injEq,R8,R7] at h1 h2
  intro bR
  have sC:=tW bR hr (mO h2)
  have hp:=bD h3
  show X.Q ex (A X.n e X.D) ⟨X.ro,den w⟩
  rw[hq.q,hq.d]
  exact O5 (s0:=⟨pS,Y⟩) hex sC h1 (dY hp fT) hR
def xk(X:Cx)(K:Act→St→Prop)(ef:ι→Env)(wf:ι→List Sg)(Inv:ι→Prop)(μ:ι→Nat)(m:Nat):Prop:=
 ∀j,Inv j→μ j <m→∀(e:Env) (s:St),lA e (ef j)→(⟨X.ro,den (wf j)⟩:St).le s→K (A X.n e X.D) s
def yd:List Nat→List (Act→St→Prop)→Code→List KI→Option (Code×List KI)
 | [],_,c,k=>some (c,k)
 |0::p,Ks,.seq a b,k=>yd p Ks a (.seq b::k)
 |1::p,Ks,.seq _ b,k=>yd p Ks b k
 |2::p,K::Ks,.seq a _,k=>yd p Ks a (.next K::k)
 |_::p,Ks,.block id c,k=>yd p Ks c (.block id::k)
 |_::p,Ks,.scope c,k=>yd p Ks c k
 |0::p,Ks,.cond _ a _,k=>yd p Ks a k
 |_::p,Ks,.cond _ _ b,k=>yd p Ks b k
 |_::p,K::Ks,.loop c,k=>yd p Ks c (.next K::k)
 |_::p,Ks,.rangeFunc _ _ _ b,_=>yd p Ks b []
 |_,_,_,_=>none
def Jq(P:Program)(f:FuncId)(p:List Nat)(Ks:List (Act→St→Prop)):Option (Code×List KI):=match (tC P f).body with
 |some c=>yd p Ks c []
 |none=>none
def stC(e:Env)(w:List Sg):Option (Code×List KI)→Option JS
 |some (c,k)=>some ⟨.code c k,e,w,⟨[],[]⟩⟩
 |none=>none
def stW(P:Program)(f:FuncId)(p:List Nat)(Ks:List (Act→St→Prop))(e:Env)(w:List Sg):Option JS:=stC e w (Jq P f p Ks)
def yx:Option JS→Option (Code×List KI)
 |some ⟨.code c k,_,_,_⟩=>some (c,k)
 |_=>none
def lpB(K:Act→St→Prop):Option (Code×List KI)→Option (Code×List KI)
 |some (.loop c,k)=>some (c,.next K::k)
 |_=>none
theorem eO(p:List Nat)(Ks:List (Act→St→Prop))(ef:ι→Env)(wf:ι→List Sg)(Inv:ι→Prop)(μ:ι→Nat)(i0:ι)(h0:Inv i0)(ps:List Nat)(hb:∀i,Inv i→∀K,xk X K ef wf Inv μ (μ i)→∀rest,J X (stW X.P X.fn p (Ks++[K]) (ef i++rest) (wf i)))
 (h1:uX (pO (ef i0)) o=some (ef i0):=by kernel_rfl)(hd:∀i,lkE (pO (ef i)) (ef i)=some (ef i):=by intro _;kernel_rfl)(h2:rz ps o=some (wf i0):=by kernel_rfl)(hp:∀K,Jq X.P X.fn p (Ks++[K])=lpB K (yx o):=by intro _;kernel_rfl):J X o:=by
 have hT:∀i,xk X (fun _ _=>True) ef wf Inv μ (μ i):=fun _ _ _ _ _ _ _ _=>trivial
 have bad:∀(K:Act→St→Prop),lpB K (yx o)=none→(∀i,xk X K ef wf Inv μ (μ i))→J X o:=fun K h hK=>by
  have:=hb i0 h0 K (hK i0) []
  simp only[stW,hp,h,stC] at this
  exact this.elim
 cases o with
 |none=>exact bad _ rfl hT
 |some s=>
  rcases s with ⟨q,e,w,kn⟩
  cases q with
  |code c k=>
   cases c with
   |loop c=>
    intro bR
    refine abu X.hC ef (fun i=>⟨X.ro,den (wf i)⟩) Inv μ i0 h0 (k8 (by rw[tq] at h1;exact h1)) (k8 (hd i0)) (dY (my h2) (Sub.refl _)) fun i hi rest=>?_
    have:=hb i hi _ (fun j hj hm e s hc hle=>ak1 j hj hm hc (k8 (hd j)) hle) rest
    simp only[stW,hp,yx,lpB,stC] at this
    exact this fun _ h=>(List.not_mem_nil h).elim
   |_=>exact bad _ rfl hT
  |_=>exact bad _ rfl hT
def Zu:Option JS→Option (Act→St→Prop)
 |some ⟨.nxt K,_,_,_⟩=>some K
 |_=>none
theorem bF{K:Act→St→Prop}{ef:ι→Env}{wf:ι→List Sg}{Inv:ι→Prop}{μ:ι→Nat}{m:Nat}(hK:xk X1 K ef wf Inv μ m)(j:ι)(h:Inv j)(hm:μ j <m)(ps:List Nat)(hs:Sub X1.ro X.ro)
 (h0:Zu o=some K:=by kernel_rfl)(h1:uX (pO (ef j)) o=some (ef j):=by kernel_rfl)(h2:rz ps o=some (wf j):=by kernel_rfl)(hn:X1.n=X.n:=by rfl)(hD:X1.D=X.D:=by rfl):J X o:=by
 unfold Zu at h0
 split at h0<;>try (cases h0;done)
 rename_i K' e w kn
 cases h0
 intro _
 rw[tq] at h1
 have:=hK j h hm e ⟨X.ro,den w⟩ (k8 h1) (dY (my h2) hs)
 rw[hn,hD] at this
 exact this
def gS:List (List Nat)→List Sg→Option (List Cells)
 | [],_=>some []
 |p::r,w=>match Pm p w with
  |some x=>match gS r w with
   |some y=>some (den x::y)
   |none=>none
  |none=>none
def gO(ps:List (List Nat)):Option JS→Option (List Cells)
 |some s=>bif Gq ps.flatten then gS ps s.rw else none
 |none=>none
def YU:List Sg→List Cells
 | []=>[]
 |x::w=>den [x]::YU w
theorem F3:∀(w:List Sg),(YU w).flatten=den w
 | []=>rfl
 | .b i o::w=>by simp[YU,iX,F3 w];rfl
 | .l L::w=>by simp[YU,gZ,F3 w];rfl
theorem Wi:∀ {a b:List Nat} {w x y:List Sg},Pm a w=some x→Pm b w=some y→Pm (a++b) w=some (x++y)
 | [],b,w,x,y,h,h2=>by simp only[Pm,Option.some.injEq] at h;subst h;exact h2
 |i::a,b,w,x,y,h,h2=>by
  simp only[Pm] at h
  split at h<;>try (cases h;done)
  rename_i z hz
  split at h<;>try (cases h;done)
  rename_i r hr
  cases h
  simp only[List.cons_append,Pm,hz,Wi hr h2]
theorem apJ:∀ {ps:List (List Nat)} {w:List Sg} {l:List Cells},gS ps w=some l→∃z,Pm ps.flatten w=some z∧den z=l.flatten
 | [],w,l,h=>by simp only[gS,Option.some.injEq] at h;subst h;exact⟨[],rfl,rfl⟩
 |p::r,w,l,h=>by
  simp only[gS] at h
  split at h<;>try (cases h;done)
  rename_i x hx
  split at h<;>try (cases h;done)
  rename_i y hy
  cases h
  obtain⟨z,h1,h2⟩:=apJ hy
  exact⟨x++z,by simpa using Wi hx h1,by simp[mh,h2]⟩
theorem Km{K:Act→St→Prop}{ef:ι→Env}{wf:ι→List Sg}{Inv:ι→Prop}{μ:ι→Nat}{m:Nat}(hK:xk X1 K ef wf Inv μ m)(j:ι)(h:Inv j)(hm:μ j <m)(ps:List (List Nat))(hs:Sub X1.ro X.ro)
 (h0:Zu o=some K:=by kernel_rfl)(h1:uX (pO (ef j)) o=some (ef j):=by kernel_rfl)(h2:gO ps o=some (YU (wf j)):=by kernel_rfl)(hn:X1.n=X.n:=by rfl)(hD:X1.D=X.D:=by rfl):J X o:=by
 unfold Zu at h0
 split at h0<;>try (cases h0;done)
 rename_i K' e w kn
 cases h0
 intro _
 rw[tq] at h1
 have hp:(den w).Perm (den (wf j)++den (dK ps.flatten 0 w)):=by
  simp only[gO] at h2
  cases ho:Gq ps.flatten with
  |false=>rw[ho] at h2;cases h2
  |true=>
   rw[ho] at h2
   obtain⟨z,h3,h4⟩:=apJ h2
   rw[F3] at h4
   rw[←h4]
   exact xz h3 ho
 have:=hK j h hm e ⟨X.ro,den w⟩ (k8 h1) (dY hp hs)
 rw[hn,hD] at this
 exact this
def aHB:Option (Code×List KI)→Option (Code×List KI)
 |some (_,.seq y::k)=>some (y,k)
 |_=>none
def awd(K:Act→St→Prop):Option JS→Option JS
 |some ⟨.code x (.seq _::k),e,w,kn⟩=>some ⟨.code x (.next K::k),e,w,kn⟩
 |_=>none
theorem Ff(p:List Nat)(Ks:List (Act→St→Prop))(ef:ι→Env)(wf:ι→List Sg)(Inv:ι→Prop)(hj:∀i,Inv i→∀rest,J X (stW X.P X.fn p Ks (ef i++rest) (wf i)))(h:∀K,xk X K ef wf Inv (fun _=>0) 1→J X (awd K o))(hd:∀i,lkE (pO (ef i)) (ef i)=some (ef i):=by intro _;kernel_rfl)(hp:Jq X.P X.fn p Ks=aHB (yx o):=by kernel_rfl):J X o:=by
 unfold awd at h
 split at h
 ·rename_i x y k e w kn
  intro bR
  refine h (fun a s=>Wp X.C X.fn X.aA y (KQ X k) a s) (fun j hI _ e s hc hle=>?_) bR
  obtain⟨r,hr⟩:=gH (n:=X.n) (D:=X.D) hc (k8 (hd j))
  rw[hr]
  have:=hj j hI r
  simp only[stW,hp,yx,aHB,stC] at this
  exact(this fun _ h=>(List.not_mem_nil h).elim).more X.hC hle
 exact(h (fun _ _=>True) fun _ _ _ _ _ _ _=>trivial).elim
def expand:Cells→List Sg
 | []=>[]
 |x::l=> .b x.1 x.2::expand l
def US:Nat→List Sg→List Sg
 |_,[]=>[]
 |0,.l L::w=>expand L++w
 |0,x::w=>x::w
 |i+1,x::w=>x::US i w
theorem Vr{w w':List Sg}{p:Pos}(h:den w'=den w)(hj:JP X kn e w' p):JP X kn e w p:=by
 cases p<;>simp only[JP,h] at hj ⊢ <;>exact hj
def aGN(i:Nat):Option JS→Option JS
 |some s=>some {s with rw:=US i s.rw}
 |none=>none
def Yd:List Sg→Cells
 | []=>[]
 | .b i o::w=>(i,o)::Yd w
 | .l _::w=>Yd w
theorem xN:∀ {w:List Sg} {x:Nat×Obj},x∈Yd w→x∈den w
 | .b i o::w,x,h=>by
  rw[iX]
  rcases List.mem_cons.1 h with rfl|h
  ·exact List.mem_cons_self
  exact List.mem_cons_of_mem _ (xN h)
 | .l L::w,x,h=>by rw[gZ];exact List.mem_append_right _ (xN (w:=w) h)
def amR(ps:List Nat):Option JS→Option JS
 |some s=>match Pm ps s.rw with
  |some w=>some {s with rw:=dK ps 0 s.rw,kn:=⟨Yd w++s.kn.c,s.kn.nd⟩}
  |none=>none
 |none=>none
theorem H7:∀(k:List KI),KQ (X.at aF) k=KQ X k
 | []=>rfl
 | .seq _::k=>by simp only[KQ,H7 k];rfl
 | .block _::k=>by simp only[KQ,H7 k]
 | .next _::k=>by simp only[KQ,H7 k]
theorem jf(ps:List Nat)(L:Cells)(h:∀aF,Sub X.ro aF→Knows aF L→J (X.at aF) (amR ps o))(h2:ek ps o=some L:=by kernel_rfl)(hp:ad1 o=true:=by kernel_rfl):J X o:=by
 have hpk:∀ {s:JS},ek ps (some s)=some L→∃w,Pm ps s.rw=some w∧den w=L:=by
  intro s hs
  simp only[ek,rz] at hs
  cases hk:Gq ps with
  |false=>rw[hk] at hs;cases hs
  |true=>
   rw[hk] at hs;simp only[cond_true] at hs
   split at hs<;>try (cases hs;done)
   rename_i w hw
   cases hs
   exact⟨w,hw,rfl⟩
 unfold ad1 at hp
 split at hp
 ·rename_i ops todo k e w kn
  intro bR
  obtain⟨w1,hw1,rfl⟩:=hpk h2
  refine Te X.hC (bD h2) fun aF hs hk=>?_
  have:=h aF hs hk
  simp only[amR,hw1] at this
  have:=this (fun x hx=>(List.mem_append.1 hx).elim (fun hx=>hk x (xN hx)) fun hx=>hs _ _ (bR x hx))
  simp only[JP,H7] at this
  exact this
 ·rename_i c k e w kn
  intro bR
  obtain⟨w1,hw1,rfl⟩:=hpk h2
  refine Yx X.hC (bD h2) fun aF hs hk=>?_
  have:=h aF hs hk
  simp only[amR,hw1] at this
  have:=this (fun x hx=>(List.mem_append.1 hx).elim (fun hx=>hk x (xN hx)) fun hx=>hs _ _ (bR x hx))
  simp only[JP,H7] at this
  exact this
 cases hp
def geO:Option JS→Option JS
 |some s=>some {s with rw:= .l []::s.rw}
 |none=>none
theorem py(h:J X (geO o)):J X o:=by
 cases o with
 |none=>exact h
 |some s=>exact fun bR=>Vr (by simp[gZ]) (h bR)
def sgS:Nat→List Sg→List Sg→List Sg
 |_,_,[]=>[]
 |0,l,_::w=>l++w
 |i+1,l,x::w=>x::sgS i l w
theorem V1{l:List Sg}:∀ {i:Nat} {w:List Sg} {x:Sg},yU w i=some x→den [x]=den l→den (sgS i l w)=den w
 |_,[],_,h,_=>by cases h
 |0,y::w,x,h,hd=>by
  simp only[yU,Option.some.injEq] at h;subst h
  have:den (y::w)=den [y]++den w:=by rw[←mh];rfl
  rw[this,hd,←mh];rfl
 |i+1,y::w,x,h,hd=>by
  have:=V1 (w:=w) (i:=i) h hd
  cases y<;>simp[sgS,iX,gZ,this]
def sgO(i:Nat)(l:List Sg):Option JS→Option JS
 |some s=>some {s with rw:=sgS i l s.rw}
 |none=>none
theorem jg(i:Nat)(l:List Sg)(h:J X (sgO i l o))(h2:ek [i] o=some (den l):=by kernel_rfl):J X o:=by
 cases o with
 |none=>exact h
 |some s=>
  have hn:∃x,yU s.rw i=some x∧den [x]=den l:=by
   simp only[ek,rz,Gq,aY,Pm,Bool.not_false,Bool.true_and,cond_true] at h2
   cases hx:yU s.rw i with
   |none=>rw[hx] at h2;cases h2
   |some x=>rw[hx] at h2;simp only[Option.some.injEq] at h2;exact⟨x,rfl,h2⟩
  obtain⟨x,hx,hd⟩:=hn
  exact fun bR=>Vr (V1 hx hd) (h bR)
theorem jmw(i:Nat)(l:List Sg){L:Cells}(h:L=den l)(hj:J X (sgO i l o))(h2:ek [i] o=some L:=by kernel_rfl):J X o:=by
 subst h;exact jg i l hj h2
end
def Cx.wd(X:Cx)(D:List Deferred):Cx:={X with D:=D}
theorem RE{D:List Deferred}:∀(k:List KI),KQ (X.wd D) k=KQ X k
 | []=>rfl
 | .seq _::k=>by simp only[KQ,RE k];rfl
 | .block _::k=>by simp only[KQ,RE k]
 | .next _::k=>by simp only[KQ,RE k]
def Fz(X:Cx)(K:Act→St→Prop)(ef:ι→Env)(wf:ι→List Sg)(df:ι→List Deferred)(Inv:ι→Prop)(μ:ι→Nat)(m:Nat):Prop:=
 ∀j,Inv j→μ j <m→∀(e:Env) (s:St),lA e (ef j)→(⟨X.ro,den (wf j)⟩:St).le s→K (A X.n e (df j)) s
section
variable {X:Cx} {o:Option JS}
theorem abv{C:Class}{fn:FuncId}{aA:Option Nat}{Q:Post}{env:Env}(hC:∀main T,C main T→Closed X.P main T)(p6:ι→Env)(sf:ι→St)(df:ι→List Deferred)(Inv:ι→Prop)(μ:ι→Nat){c:Code}(i0:ι)(h0:Inv i0)(hc:lA env (p6 i0))(hd:∀i,lA (p6 i) (p6 i))(hs:(sf i0).le s)
 (round:∀i,Inv i→∀rest,Wp C fn aA c (mI (fun a s=>∃j,Inv j∧μ j <μ i∧(∃e,lA e (p6 j)∧a=A n e (df j))∧(sf j).le s) Q) (A n (p6 i++rest) (df i)) (sf i)):Wp C fn aA (.loop c) Q (A n env (df i0)) s:=by
 obtain⟨r0,vJ⟩:=gH (n:=n) (D:=df i0) hc (hd i0)
 rw[vJ]
 intro main T hT b k cs h1 h2 h3 h4
 have key:∀m i rest s,μ i=m→Inv i→(sf i).le s→T (G (aK b (A n (p6 i++rest) (df i)) (.code c:: .inLoop c::k)) cs) s:=by
  intro m
  induction m using Nat.strongRecOn with
  |_ m ih=>
   intro i rest s hm hI hle
   refine(hC main T hT).mono _ _ _ hle ?_
   refine round i hI rest main T hT b (.inLoop c::k) cs h1 h2 h3 fun e a' s' q=>?_
   cases e with
   |normal=>
    obtain⟨j,zi,cH,⟨e,he,rfl⟩,x6⟩:=q
    obtain⟨acC,hr⟩:=gH (n:=n) (D:=df j) he (hd j)
    rw[hr]
    exact(hC main T hT).go rfl rfl (g':=G (aK b _ (.code c:: .inLoop c::k)) cs) (fun w=>by simp[G,stepG,stepG.exec,aK]) (ih _ (hm▸cH) j acC s' rfl zi x6)
   |exit id=>exact(h4 _ _ _ q).push rfl (by simp)
   |ret=>exact(h4 _ _ _ q).push (x:= .inLoop c) rfl (by simp)
   |panic ch=>exact(h4 _ _ _ q).push (x:= .inLoop c) rfl (by simp)
   |goto l=>exact(h4 _ _ _ q).elim
   |outgrown=>exact(h4 _ _ _ q).elim
 exact(hC main T hT).go rfl rfl (g':=G (aK b (A n (p6 i0++r0) (df i0)) (.code c:: .inLoop c::k)) cs) (fun w=>by simp[G,stepG,stepG.exec,aK]) (key _ i0 r0 s rfl h0 hs)
theorem aBt(p:List Nat)(Ks:List (Act→St→Prop))(ef:ι→Env)(wf:ι→List Sg)(df:ι→List Deferred)(Inv:ι→Prop)(μ:ι→Nat)(i0:ι)(h0:Inv i0)(ps:List Nat)(hb:∀i,Inv i→∀K,Fz X K ef wf df Inv μ (μ i)→∀rest,J (X.wd (df i)) (stW X.P X.fn p (Ks++[K]) (ef i++rest) (wf i)))
 (h1:uX (pO (ef i0)) o=some (ef i0):=by kernel_rfl)(hd:∀i,lkE (pO (ef i)) (ef i)=some (ef i):=by intro _;kernel_rfl)(h2:rz ps o=some (wf i0):=by kernel_rfl)(hp:∀K,Jq X.P X.fn p (Ks++[K])=lpB K (yx o):=by intro _;kernel_rfl)(hD:X.D=df i0:=by rfl):J X o:=by
 have hT:∀i,Fz X (fun _ _=>True) ef wf df Inv μ (μ i):=fun _ _ _ _ _ _ _ _=>trivial
 have bad:∀(K:Act→St→Prop),lpB K (yx o)=none→(∀i,Fz X K ef wf df Inv μ (μ i))→J X o:=fun K h hK=>by
  have:=hb i0 h0 K (hK i0) []
  simp only[stW,hp,h,stC] at this
  exact this.elim
 cases o with
 |none=>exact bad _ rfl hT
 |some s=>
  rcases s with ⟨q,e,w,kn⟩
  cases q with
  |code c k=>
   cases c with
   |loop c=>
    intro bR
    show Wp X.C X.fn X.aA (.loop c) (KQ X k) (A X.n e X.D) ⟨X.ro,den w⟩
    rw[hD]
    refine abv (X:=X) X.hC ef (fun i=>(⟨X.ro,den (wf i)⟩:St)) df Inv μ i0 h0 (k8 (by rw[tq] at h1;exact h1)) (fun i=>k8 (hd i)) (dY (my h2) (Sub.refl _)) fun i hi rest=>?_
    have:=hb i hi (fun a s=>∃j,Inv j∧μ j <μ i∧(∃e,lA e (ef j)∧a=A X.n e (df j))∧(⟨X.ro,den (wf j)⟩:St).le s) (fun j hj hm e s hc hle=>⟨j,hj,hm,⟨e,hc,rfl⟩,hle⟩) rest
    simp only[stW,hp,yx,lpB,stC] at this
    have:=this fun _ h=>(List.not_mem_nil h).elim
    simp only[JP,KQ,RE] at this
    exact this
   |_=>exact bad _ rfl hT
  |_=>exact bad _ rfl hT
theorem jnD{K:Act→St→Prop}{ef:ι→Env}{wf:ι→List Sg}{df:ι→List Deferred}{Inv:ι→Prop}{μ:ι→Nat}{m:Nat}(hK:Fz X1 K ef wf df Inv μ m)(j:ι)(h:Inv j)(hm:μ j <m)(ps:List (List Nat))(hs:Sub X1.ro X.ro)
 (h0:Zu o=some K:=by kernel_rfl)(h1:uX (pO (ef j)) o=some (ef j):=by kernel_rfl)(h2:gO ps o=some (YU (wf j)):=by kernel_rfl)(hn:X1.n=X.n:=by rfl)(hD:X.D=df j:=by rfl):J X o:=by
 have hK':xk (X1.wd (df j)) K ef wf (fun i=>i=j) μ m:=fun i hi hm e s hc hle=>by subst hi;exact hK _ h hm e s hc hle
 exact Km hK' j rfl hm ps hs h0 h1 h2 hn hD.symm
end
attribute [irreducible] gO geO tC lI awd stW yx Jq aGN amR sgO CW ad1 ky R8 R7 tA Zu
section
variable {X:Cx} {o:Option JS}
def NF(n:Nat)(p:Oper)(e:Env):Option (BinOp×TypeId×Value×Value):=match p.op with
 | .binOp op T x y _=>match bh n e x with
  |some v=>match bh n e y with
   |some w=>some (op,T,v,w)
   |none=>none
  |none=>none
 |_=>none
theorem uG{op:BinOp}{v w:Value}(h:NF n p e=some (op,T,v,w)):∃x y T',p.op= .binOp op T x y T'∧bh n e x=some v∧bh n e y=some w:=by
 unfold NF at h
 split at h<;>try (cases h;done)
 rename_i ay
 split at h<;>try (cases h;done)
 rename_i hx
 split at h<;>try (cases h;done)
 rename_i hy
 cases h
 exact⟨_,_,_,ay,hx,hy⟩
theorem jsa{a:ByteArray}(T:TypeId)(hb:(a.size:Int)+b.size≤9223372036854775807)(hj:J X (kM (.string (a++b)) o))(hv:dM X.n (NF X.n) o=some (.add,T,.string a,.string b):=by kernel_rfl):J X o:=by
 refine RM hv (fun s p e _ hf=>?_) hj
 obtain⟨x,y,T',ay,hx,hy⟩:=uG hf
 rcases p with ⟨dst,op,ty,pos,c8,g⟩
 dsimp only at ay;subst ay
 exact fun s0 ops i tw rest hw s' hs todo Q hk=>ar9 X.hC tw hw (aZ hx) (aZ hy) hb hk
theorem jrm{k:IntKind}{a b:Int}(T:TypeId)(hb:b≠0)(hj:J X (kM (.int k (a.tmod b)) o))(hv:dM X.n (NF X.n) o=some (.rem,T,.int k a,.int k b):=by kernel_rfl):J X o:=by
 refine RM hv (fun s p e _ hf=>?_) hj
 obtain⟨x,y,T',ay,hx,hy⟩:=uG hf
 rcases p with ⟨dst,op,ty,pos,c8,g⟩
 dsimp only at ay;subst ay
 exact fun s0 ops i tw rest hw s' hs todo Q hk=>aAG X.hC tw hw (aZ hx) (aZ hy) hb hk
theorem jsr{k k':IntKind}{a b:Int}(T:TypeId)(hb:0≤b)(hj:J X (kM (.int k (aR k a b)) o))(hv:dM X.n (NF X.n) o=some (.shr,T,.int k a,.int k' b):=by kernel_rfl):J X o:=by
 refine RM hv (fun s p e _ hf=>?_) hj
 obtain⟨x,y,T',ay,hx,hy⟩:=uG hf
 rcases p with ⟨dst,op,ty,pos,c8,g⟩
 dsimp only at ay;subst ay
 exact fun s0 ops i tw rest hw s' hs todo Q hk=>aAE X.hC tw hw (aZ hx) (aZ hy) hb hk
theorem jsh{k k':IntKind}{a b:Int}(T:TypeId)(hb:0≤b)(hj:J X (kM (.int k (dJ k a b)) o))(hv:dM X.n (NF X.n) o=some (.shl,T,.int k a,.int k' b):=by kernel_rfl):J X o:=by
 refine RM hv (fun s p e _ hf=>?_) hj
 obtain⟨x,y,T',ay,hx,hy⟩:=uG hf
 rcases p with ⟨dst,op,ty,pos,c8,g⟩
 dsimp only at ay;subst ay
 exact fun s0 ops i tw rest hw s' hs todo Q hk=>aAF X.hC tw hw (aZ hx) (aZ hy) hb hk
theorem jeq{m:List Value}{r:Bool}(hg:oF X.P T)(he:EqV X.P T (.agg ⟨l⟩) (.agg ⟨m⟩) r)(hj:J X (kM (.bool r) o))(hv:dM X.n (NF X.n) o=some (.eql,T,.agg ⟨l⟩,.agg ⟨m⟩):=by kernel_rfl):J X o:=by
 refine RM hv (fun s p e _ hf=>?_) hj
 obtain⟨x,y,T',ay,hx,hy⟩:=uG hf
 rcases p with ⟨dst,op,ty,pos,c8,g⟩
 dsimp only at ay;subst ay
 exact fun s0 ops i tw rest hw s' hs todo Q hk=>akW X.hC tw hw (aZ hx) (aZ hy) hg he hk
theorem jne{m:List Value}{r:Bool}(hg:oF X.P T)(he:EqV X.P T (.agg ⟨l⟩) (.agg ⟨m⟩) r)(hj:J X (kM (.bool !r) o))(hv:dM X.n (NF X.n) o=some (.neq,T,.agg ⟨l⟩,.agg ⟨m⟩):=by kernel_rfl):J X o:=by
 refine RM hv (fun s p e _ hf=>?_) hj
 obtain⟨x,y,T',ay,hx,hy⟩:=uG hf
 rcases p with ⟨dst,op,ty,pos,c8,g⟩
 dsimp only at ay;subst ay
 exact fun s0 ops i tw rest hw s' hs todo Q hk=>adp X.hC tw hw (aZ hx) (aZ hy) hg he hk
def GL(P:Program)(T:TypeId):Bool:=match aW P T with
 |some ⟨.slice _,_,_,_⟩=>true
 |_=>false
theorem GK(h:GL P T=true):∃E sz bx z ag,TF P T (.slice E) sz bx z ag:=by
 unfold GL at h
 split at h<;>try (cases h;done)
 rename_i dZ
 obtain⟨bx,tf⟩:=ar dZ
 exact⟨_,_,_,_,_,tf⟩
theorem jsn{a:Option Addr}{l c:Nat}(T:TypeId)(hj:J X (kM (.bool a.isNone) o))(hv:dM X.n (NF X.n) o=some (.eql,T,.slice a l c,.slice none 0 0):=by kernel_rfl)(hT:GL X.P T=true:=by kernel_rfl):J X o:=by
 refine RM hv (fun s p e _ hf=>?_) hj
 obtain⟨x,y,T',ay,hx,hy⟩:=uG hf
 obtain⟨E,sz,bx,z,ag,tf⟩:=GK hT
 rcases p with ⟨dst,op,ty,pos,c8,g⟩
 dsimp only at ay;subst ay
 exact fun s0 ops i tw rest hw s' hs todo Q hk=>akR X.hC tw hw tf (aZ hx) (aZ hy) hk
def Em(n:Nat)(e:Env):Option Operand→Option (Option Int)
 |none=>some none
 |some x=>match bh n e x with
  |some (.int _ a)=>some (some a)
  |_=>none
def acg(P:Program)(n:Nat)(p:Oper)(e:Env):Option (ByteArray×Option Int×Option Int):=match p.op with
 | .slice T x y z none=>match aW P T with
  |some ⟨.string,_,_,_⟩=>match bh n e x with
   |some (.string b)=>match Em n e y with
    |some lo=>match Em n e z with
     |some hi=>some (b,lo,hi)
     |none=>none
    |none=>none
   |_=>none
  |_=>none
 |_=>none
def akl(P:Program)(n:Nat)(p:Oper)(e:Env):Option (Value×Option Int×Option Int×Nat):=match p.op with
 | .slice T x y z none=>match aW P T with
  |some ⟨.slice E,_,_,_⟩=>match aW P E with
   |some te=>match bh n e x with
    |some v=>match Em n e y with
     |some lo=>match Em n e z with
      |some hi=>some (v,lo,hi,te.size)
      |none=>none
     |none=>none
    |none=>none
   |none=>none
  |_=>none
 |_=>none
theorem nZ{x:Option Operand}{a:Int}(h:Em n e x=some (some a)):∃y k,x=some y∧bh n e y=some (.int k a):=by
 unfold Em at h
 split at h
 ·cases h
 split at h<;>try (cases h;done)
 rename_i hx
 cases h
 exact⟨_,_,rfl,hx⟩
theorem Cc{x:Option Operand}(h:Em n e x=some none):x=none:=by
 unfold Em at h
 split at h
 ·rfl
 split at h<;>cases h
theorem Ls{lo hi:Option Int}(h:acg P n p e=some (b,lo,hi)):∃T x y z sz bx zz ag,p.op= .slice T x y z none∧TF P T .string sz bx zz ag∧bh n e x=some (.string b)∧Em n e y=some lo∧Em n e z=some hi:=by
 unfold acg at h
 split at h<;>try (cases h;done)
 rename_i ay
 split at h<;>try (cases h;done)
 rename_i dZ
 obtain⟨bx,tf⟩:=ar dZ
 split at h<;>try (cases h;done)
 rename_i hx
 split at h<;>try (cases h;done)
 rename_i hy
 split at h<;>try (cases h;done)
 rename_i hz
 cases h
 exact⟨_,_,_,_,_,_,_,_,ay,tf,hx,hy,hz⟩
theorem V0{v:Value}{lo hi:Option Int}(h:akl P n p e=some (v,lo,hi,k)):∃T x y z E sz bx zz ag d Bt z2 ag2,p.op= .slice T x y z none∧TF P T (.slice E) sz bx zz ag∧TF P E d k Bt z2 ag2∧bh n e x=some v∧Em n e y=some lo∧Em n e z=some hi:=by
 unfold akl at h
 split at h<;>try (cases h;done)
 rename_i ay
 split at h<;>try (cases h;done)
 rename_i dZ
 obtain⟨bx,tf⟩:=ar dZ
 split at h<;>try (cases h;done)
 rename_i te uw
 obtain⟨Bt,q6⟩:=ar uw
 split at h<;>try (cases h;done)
 rename_i hx
 split at h<;>try (cases h;done)
 rename_i hy
 split at h<;>try (cases h;done)
 rename_i hz
 cases h
 exact⟨_,_,_,_,_,_,_,_,_,_,_,_,_,ay,tf,q6,hx,hy,hz⟩
theorem jtB(hl:0≤lo∧lo≤hi∧hi≤b.size)(hj:J X (kM (.string (b.extract lo.toNat hi.toNat)) o))(hv:dM X.n (acg X.P X.n) o=some (b,some lo,some hi):=by kernel_rfl):J X o:=by
 refine RM hv (fun s p e _ hf=>?_) hj
 obtain⟨T,x,y,z,sz,bx,zz,ag,ay,tf,hx,hy,hz⟩:=Ls hf
 obtain⟨y,k,rfl,GM⟩:=nZ hy
 obtain⟨z,k',rfl,hz1⟩:=nZ hz
 rcases p with ⟨dst,op,ty,pos,c8,g⟩
 dsimp only at ay;subst ay
 exact fun s0 ops i tw rest hw s' hs todo Q hk=>Tg X.hC tw hw tf (aZ hx) (aZ GM) (aZ hz1) hl hk
theorem jtH(hl:0≤hi∧hi≤b.size)(hj:J X (kM (.string (b.extract 0 hi.toNat)) o))(hv:dM X.n (acg X.P X.n) o=some (b,none,some hi):=by kernel_rfl):J X o:=by
 refine RM hv (fun s p e _ hf=>?_) hj
 obtain⟨T,x,y,z,sz,bx,zz,ag,ay,tf,hx,hy,hz⟩:=Ls hf
 have hy:=Cc hy;subst hy
 obtain⟨z,k',rfl,hz1⟩:=nZ hz
 rcases p with ⟨dst,op,ty,pos,c8,g⟩
 dsimp only at ay;subst ay
 exact fun s0 ops i tw rest hw s' hs todo Q hk=>PB X.hC tw hw tf (aZ hx) (aZ hz1) hl hk
theorem jtL(hl:0≤lo∧lo≤b.size)(hj:J X (kM (.string (b.extract lo.toNat b.size)) o))(hv:dM X.n (acg X.P X.n) o=some (b,some lo,none):=by kernel_rfl):J X o:=by
 refine RM hv (fun s p e _ hf=>?_) hj
 obtain⟨T,x,y,z,sz,bx,zz,ag,ay,tf,hx,hy,hz⟩:=Ls hf
 have hz:=Cc hz;subst hz
 obtain⟨y,k,rfl,GM⟩:=nZ hy
 rcases p with ⟨dst,op,ty,pos,c8,g⟩
 dsimp only at ay;subst ay
 exact fun s0 ops i tw rest hw s' hs todo Q hk=>PA X.hC tw hw tf (aZ hx) (aZ GM) hl hk
theorem jcH{v:Value}{enc:α→List Value}{ps:List α}(hs:bE X.ro v sz enc ps)(hl:0≤hi∧hi≤ps.length)(hj:∀v',bE X.ro v' sz enc (ps.take hi.toNat)→J X (kM v' o))(hv:dM X.n (akl X.P X.n) o=some (v,none,some hi,sz):=by kernel_rfl):J X o:=by
 obtain⟨a,b,off,cap,rfl,h2,h3,h4⟩:=id hs
 have hp:=bE.part hs (l:=0) (h:=hi.toNat) (by omega) (by omega)
 rw[List.drop_zero] at hp
 refine RM hv (fun s p e _ hf=>?_) (hj _ hp)
 obtain⟨T,x,y,z,E,s1,bx,zz,ag,d,Bt,z2,ag2,ay,tf,q6,hx,hy,hz⟩:=V0 hf
 have hy:=Cc hy;subst hy
 obtain⟨z,k',rfl,hz1⟩:=nZ hz
 rcases p with ⟨dst,op,ty,pos,c8,g⟩
 dsimp only at ay;subst ay
 intro s0 ops i tw rest hw s' nG todo Q hk
 refine bN X.hC tw hw (by simp) ?_
 have hb:0≤hi∧hi≤(cap:Int):=by omega
 have gV:(0:Int)≤0∧(0:Int)≤(hi.toNat:Int):=by omega
 rw[←aV] at hk
 simp only[execOp,Option.map_some,Option.map_none,Instr.sliceAt,Instr.slice,aE (aZ (rest:=rest) hx),aE (aZ (rest:=rest) hz1),aa,aX tf,Instr.sliceBounds,Instr.sliceBound,asIntOf,ae,hb,gV,and_self,if_true,cg q6]
 exact hk
theorem jcB{v:Value}{enc:α→List Value}{ps:List α}(hs:bE X.ro v sz enc ps)(hl:0≤lo∧lo≤hi∧hi≤ps.length)(hj:∀v',bE X.ro v' sz enc ((ps.take hi.toNat).drop lo.toNat)→J X (kM v' o))(hv:dM X.n (akl X.P X.n) o=some (v,some lo,some hi,sz):=by kernel_rfl):J X o:=by
 obtain⟨a,b,off,cap,rfl,h2,h3,h4⟩:=id hs
 have hp:=bE.part hs (l:=lo.toNat) (h:=hi.toNat) (by omega) (by omega)
 refine RM hv (fun s p e _ hf=>?_) (hj _ hp)
 obtain⟨T,x,y,z,E,s1,bx,zz,ag,d,Bt,z2,ag2,ay,tf,q6,hx,hy,hz⟩:=V0 hf
 obtain⟨y,k,rfl,GM⟩:=nZ hy
 obtain⟨z,k',rfl,hz1⟩:=nZ hz
 rcases p with ⟨dst,op,ty,pos,c8,g⟩
 dsimp only at ay;subst ay
 intro s0 ops i tw rest hw s' nG todo Q hk
 refine bN X.hC tw hw (by simp) ?_
 have hb:0≤hi∧hi≤(cap:Int):=by omega
 have gV:0≤lo∧lo≤(hi.toNat:Int):=by omega
 rw[←aV] at hk
 simp only[execOp,Option.map_some,Option.map_none,Instr.sliceAt,Instr.slice,aE (aZ (rest:=rest) hx),aE (aZ (rest:=rest) GM),aE (aZ (rest:=rest) hz1),aa,aX tf,Instr.sliceBounds,Instr.sliceBound,asIntOf,ae,hb,gV,and_self,if_true,cg q6]
 exact hk
def lnV(P:Program)(n:Nat)(p:Oper)(e:Env):Option Value:=match p.op with
 | .call ⟨.builtin .len,⟨[x]⟩,⟨[T]⟩⟩=>bif GL P T then bh n e x else none
 |_=>none
theorem Fe{v:Value}{enc:α→List Value}{ps:List α}{L:Cells}(ld:ax v sz T2 enc ps L)(hj:J X (kM (.int .i64 ps.length) o))(hv:dM X.n (lnV X.P X.n) o=some v:=by kernel_rfl):J X o:=by
 refine RM hv (fun s p e _ hf=>?_) hj
 unfold lnV at hf
 split at hf<;>try (cases hf;done)
 rename_i x T ay
 cases hT:GL X.P T with
 |false=>rw[hT] at hf;cases hf
 |true=>
  rw[hT] at hf;simp only[cond_true] at hf
  obtain⟨E,s1,bx,z,ag,tf⟩:=GK hT
  rcases p with ⟨dst,op,ty,pos,c8,g⟩
  dsimp only at ay;subst ay
  exact fun s0 ops i tw rest hw s' hs todo Q hk=>adq X.hC tw hw tf (aZ hf) ld hk
def Zv(ps:List Nat)(v:Value)(L':Cells):Option JS→Option JS:=nI ps v L'
theorem Ww{ops:Array Oper}{k:List KI}{w:List Sg}{v:Value}{L':Cells}(ho:ops[i]?=some p):Zv ps v L' (some ⟨.ops ops (i::todo) k,e,w,kn⟩)=some ⟨.ops ops todo k,upd p.dst v e,.l L'::dK ps 0 w,kn⟩:=by
 unfold Zv
 simp only[oE ho]
def aki(P:Program)(n:Nat)(p:Oper)(e:Env):Option (Addr×List Value×Nat):=match p.op with
 | .store T x y=>match aW P T with
  |some ti=>match bh n e x with
   |some (.pointer (some a))=>match bh n e y with
    |some v=>some (a,eo v,ti.size)
    |none=>none
   |_=>none
  |none=>none
 |_=>none
theorem VY{a:Addr}(h:aki P n p e=some (a,l,sz)):∃T x y d bx z ag v,p.op= .store T x y∧TF P T d sz bx z ag∧bh n e x=some (.pointer (some a))∧bh n e y=some v∧v.cells=⟨l⟩:=by
 unfold aki at h
 split at h<;>try (cases h;done)
 rename_i ay
 split at h<;>try (cases h;done)
 rename_i ti dZ
 obtain⟨bx,tf⟩:=ar dZ
 split at h<;>try (cases h;done)
 rename_i hx
 split at h<;>try (cases h;done)
 rename_i hy
 cases h
 exact⟨_,_,_,_,_,_,_,_,ay,tf,hx,hy,by rw[mQ]⟩
theorem RL{v:Value}{enc:α→List Value}{ps:List α}{L:Cells}{b:Nat}{a:α}(i f:Nat)(c:List Value)(e:α)(ld:ax v sz E enc ps L)(hb:NP v b)(hk:ps[k]?=some a) (he:enc e=dI (enc a) f c) (h1:c.all single=true) (hf:f+c.length≤sz) (hj:∀L',ax v sz E enc (ps.set k e) L'→J X (Zv [i] undef L' o)) (hv:fG X.n (aki X.P X.n) o=some (⟨b,k*sz+f,none⟩,c,c.length):=by kernel_rfl) (h2:ek [i] o=some L:=by kernel_rfl):J X o:=by
 obtain⟨ops,i0,todo,kk,ev,w,kn,p,rfl,ho,hw,hc⟩:=dG hv
 obtain⟨T,x,y,d,bx,z,ag,u,ay,tf,hx,hy,hu⟩:=VY hc
 intro bR
 rcases p with ⟨dst,op,ty,pos,c8,g⟩
 dsimp only at ay;subst ay
 refine wu X.hC (bD h2)<|aAB X.hC ho hw tf hx hy hu rfl (List.all_eq_true.1 h1) ld hb hk he hf fun L' hL'=>?_
 have:=hj L' hL'
 rw[Ww ho] at this
 have:=this bR
 simp only[JP,gZ] at this
 exact this
def apV(P:Program)(n:Nat)(p:Oper)(e:Env):Option (Value×Value×TypeId×Nat):=match p.op with
 | .call ⟨.builtin .append,⟨[x,y]⟩,⟨[T,U]⟩⟩=>match aW P T with
  |some ⟨.slice E,_,_,_⟩=>bif GL P U then (match aW P E with
   |some te=>match P.info? E with
    |some ie=>bif Nat.beq te.zero.length te.size&&Nat.ble ie.bytes 65536 then (match bh n e x with
     |some v=>match bh n e y with
      |some w=>some (v,w,E,te.size)
      |none=>none
     |none=>none) else none
    |none=>none
   |none=>none) else none
  |_=>none
 |_=>none
theorem awv{v w:Value}(h:apV P n p e=some (v,w,E,sz)):∃x y T U s1 b1 z1 a1 E2 s2 b2 z2 a2 d bx z ag,p.op= .call ⟨.builtin .append,#[x,y],#[T,U]⟩∧TF P T (.slice E) s1 b1 z1 a1∧TF P U (.slice E2) s2 b2 z2 a2∧TF P E d sz bx z ag∧z.length=sz∧bx≤65536∧bh n e x=some v∧bh n e y=some w:=by
 unfold apV at h
 split at h<;>try (cases h;done)
 rename_i x y T U ay
 split at h<;>try (cases h;done)
 rename_i E' _ _ _ dZ
 obtain⟨b1,tf1⟩:=ar dZ
 cases hU:GL P U with
 |false=>rw[hU] at h;cases h
 |true=>
  rw[hU] at h;simp only[cond_true] at h
  obtain⟨E2,s2,b2,z2,a2,q6⟩:=GK hU
  split at h<;>try (cases h;done)
  rename_i te uw
  obtain⟨b3,tf3⟩:=ar uw
  split at h<;>try (cases h;done)
  rename_i ie hie
  cases hb:(Nat.beq te.zero.length te.size&&Nat.ble ie.bytes 65536) with
  |false=>rw[hb] at h;cases h
  |true=>
   rw[hb] at h;simp only[cond_true] at h
   split at h<;>try (cases h;done)
   rename_i hx
   split at h<;>try (cases h;done)
   rename_i hy
   simp only[Option.some.injEq,Prod.mk.injEq] at h
   obtain⟨rfl,rfl,rfl,rfl⟩:=h
   simp only[Bool.and_eq_true,Nat.ble_eq] at hb
   obtain⟨i2,g1,_,g3,_⟩:=tf3.info
   rw[hie] at g1;cases g1
   exact⟨x,y,T,U,_,b1,_,_,E2,s2,b2,z2,a2,_,b3,_,_,ay,tf1,q6,tf3,Nat.eq_of_beq_eq_true hb.1,by omega,hx,hy⟩
theorem jE{v w:Value}{enc:α→List Value}{ps qs:List α}{L:Cells}(is lp:List Nat)(B:Cells)(ld:ax v sz E enc ps L)(Kr:∀s:St,Ext ⟨X.ro,[]⟩ s→(∀x∈B,s.has x.1 x.2)→Sl s w sz enc qs)(hq:∀p∈qs,∀c∈enc p,single c=true)(hb:ps.length+qs.length≤1048576)(hj:∀v' L',ax v' sz E enc (ps++qs) L'→J X (Zv is v' L' o))
 (hv:fG X.n (apV X.P X.n) o=some (v,w,E,sz):=by kernel_rfl)(h2:ek is o=some L:=by kernel_rfl)(h3:ek lp o=some B:=by kernel_rfl):J X o:=by
 obtain⟨ops,i0,todo,kk,ev,w0,kn,p,rfl,ho,hw,hc⟩:=dG hv
 obtain⟨x,y,T,U,s1,b1,z1,a1,E2,s2,b2,z2,a2,d,bx,z,ag,ay,tf1,q6,tf3,hz,hby,hx,hy⟩:=awv hc
 intro bR
 rcases p with ⟨dst,op,ty,pos,c8,g⟩
 dsimp only at ay;subst ay
 have hp:=bD h2
 refine wu X.hC hp<|oap X.hC ho hw tf1 q6 tf3 hz hx hy ld (Kr _ Nj fun u hu=>?_) hq ⟨hb,hby⟩ fun v' L' hL'=>?_
 ·rcases Ra (X:=X) h3 u hu with h|h
  ·exact .inl h
  exact .inr (hp.mem_iff.1 h)
 have:=hj v' L' hL'
 rw[Ww ho] at this
 have:=this bR
 simp only[JP,gZ] at this
 exact this
theorem aPy{w:Value}(enc:α→List Value){qs:List α}(lp:List Nat)(B:Cells)(Kr:∀s:St,Ext ⟨X.ro,[]⟩ s→(∀x∈B,s.has x.1 x.2)→Sl s w sz enc qs)(hq:∀p∈qs,∀c∈enc p,single c=true)(hb:qs.length≤1048576)(hj:∀v' L',ax v' sz E enc qs L'→J X (Zv [] v' L' o))
 (hv:fG X.n (apV X.P X.n) o=some (.slice none 0 0,w,E,sz):=by kernel_rfl)(h3:ek lp o=some B:=by kernel_rfl)(h2:ek [] o=some []:=by kernel_rfl):J X o:=
 jE (ps:=[]) [] lp B (ax.nil sz E enc) Kr hq (by simpa using hb) (fun v' L' h=>hj v' L' h) hv h2 h3
end
attribute [irreducible] Zv
end Go.L
