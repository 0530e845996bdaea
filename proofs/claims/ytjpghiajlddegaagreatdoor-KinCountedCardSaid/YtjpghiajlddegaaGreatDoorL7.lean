/- Part 7 of the proof: a program logic, contracts, a theorem on goroutines. -/
import Derived.Test.YtjpghiajlddegaaGreatDoorL6
import GoSem.Extern.Table
set_option maxRecDepth 100000
set_option linter.all false
namespace Go.L
open Go Go.Conc
variable {x y:Operand} {T T' E U:TypeId} {α:Type} {b:ByteArray} {sz k n p cap off:Nat} {l vs:List Value} {f:FuncId} {e:Env} {fz:Nat×Nat} {o:Oper} {s:St} {xs:Array Operand} {at_:Array TypeId} {P:Program} {Y X R YN fr:Cells} {todo:List Nat} {lo hi:Int}
def aQ(k:IntKind)(a b:Int):Int:=a.fdiv (2^(min b.toNat k.bits))
def dt(k:IntKind)(a b:Int):Int:=k.wrap (a*2^(min b.toNat k.bits))
def RB(k:IntKind)(a b:Int):Int:=k.wrap (BitVec.ofInt k.bits a&&& BitVec.ofInt k.bits b).toNat
def IV(k:IntKind)(a b:Int):Int:=k.wrap (BitVec.ofInt k.bits a|||BitVec.ofInt k.bits b).toNat
def cO(k:IntKind)(a b:Int):Int:=k.wrap (BitVec.ofInt k.bits a^^^BitVec.ofInt k.bits b).toNat
theorem Mw(k:IntKind)(h:k.signed=false)(n:Int):0≤k.wrap n∧k.wrap n <2^k.bits:=by
 have hp:(0:Int) <2^k.bits:=Int.pow_pos (by decide)
 simp only[IntKind.wrap,h,Bool.false_and,Bool.false_eq_true,if_false]
 exact⟨Int.emod_nonneg _ (by omega),Int.emod_lt_of_pos _ hp⟩
theorem rK(k:IntKind)(h:k.signed=false)(n:Int)(h0:0≤n)(h1:n <2^k.bits):k.wrap n=n:=by
 simp only[IntKind.wrap,h,Bool.false_and,Bool.false_eq_true,if_false]
 exact Int.emod_eq_of_lt h0 h1
theorem tH(a b:Int):0≤cO .u64 a b∧cO .u64 a b <18446744073709551616:=Mw .u64 rfl _
theorem aL0{p0 p1 p2 p3 x:Int}(h: [p0,p1,p2,p3][k]?=some x):nth [.int .i64 p0,.int .i64 p1,.int .i64 p2,.int .i64 p3] k=some (.int .i64 x):=by
 rcases k with _|_|_|_|k
 all_goals first| (simp at h;subst h;rfl)|simp at h
theorem eo.avB{own:Cells}{Φ:Value→Cells→Prop}(hp:s.rw.Perm (own++fr))(hf:eo P f vs s.ro own Φ):
 Fn (CP P) P f ⟨vs⟩ s (fun en s'=>∃v X,en= .returned v∧Φ v X∧(⟨s.ro,X++fr⟩:St).le s'):=by
 refine Fn.mono (Fn.frame (fr:=fr) (B:=[]) (ro:=s.ro) (s:=s) hf (fun _ h=>(by cases h)) ⟨hp,fun b o hb=> .inl hb,Sub.refl _⟩) fun en s' Cs=>?_
 obtain⟨xU,⟨v,X,rfl,rfl,pR⟩,hc⟩:=Cs
 exact⟨v,X,rfl,pR,[],by simpa using hc.rw,fun b o hb=> .inl (hc.keep b o hb)⟩
def Knows(ro:Nat→Option Obj)(X:Cells):Prop:=∀x∈X,ro x.1=some x.2
theorem Knows.up{ro aK:Nat→Option Obj}(h:Knows ro X)(hs:Sub ro aK):Knows aK X:=fun x hx=>hs _ _ (h x hx)
theorem Knows.left{ro:Nat→Option Obj}(h:Knows ro (X++Y)):Knows ro X:=fun x hx=>h x (List.mem_append_left _ hx)
theorem Knows.right{ro:Nat→Option Obj}(h:Knows ro (X++Y)):Knows ro Y:=fun x hx=>h x (List.mem_append_right _ hx)
theorem Knows.tail{ro:Nat→Option Obj}{x:Nat×Obj}(h:Knows ro (x::Y)):Knows ro Y:=fun y hy=>h y (List.mem_cons_of_mem _ hy)
theorem Knows.head{ro:Nat→Option Obj}{x:Nat×Obj}(h:Knows ro (x::Y)):ro x.1=some x.2:=h x List.mem_cons_self
theorem wA{b:Nat}{enc:α→List Value}{ps:List α}(h:s.has b (.cells ⟨(ps.map enc).flatten⟩ T fz))(hl:∀p∈ps,(enc p).length=sz){x:α}(hx:ps[k]?=some x):cg s b (0+k*sz) sz (enc x):=by
 have h2:=BI ps hl k x hx
 have hm:x∈ps:=List.mem_of_getElem? hx
 have h3:=hl x hm
 refine⟨_,T,fz,h,?_⟩
 rw[Nat.zero_add,iv,h2]
 rw[jR ps hl]
 have:=(List.getElem?_eq_some_iff.1 hx).1
 calc k*sz+sz=(k+1)*sz:=by rw[Nat.succ_mul]
  _≤ps.length*sz:=Nat.mul_le_mul_right _ (by omega)
theorem bS{ro:Nat→Option Obj}{b:Nat}{enc:α→List Value}(ps:List α)(h:ro b=some (.cells ⟨(ps.map enc).flatten⟩ T fz))(hl:∀p∈ps,(enc p).length=sz):bI ro (.slice (some ⟨b,0,none⟩) ps.length ps.length) sz enc ps:=
 ⟨_,b,0,_,rfl,Nat.le_refl _,fun _ _=>rfl,fun _ _ hx=>wA (.inl h) hl hx⟩
section rules
variable {P:Program} {C:Class} {fn:FuncId} {ay:Option Nat} {Q:Post} {s:St} {n:Nat} {env:Env} {D:List Deferred}
variable {ops:Array Oper} {i:Nat} {rest:List Nat} {dst:Option Tmp} {ty:TypeId} {pos:String} {cS:Array Edge} {g:Option (Nat×Bool)}
variable {T:TypeId} {d:TypeDesc} {sz bu:Nat} {z:List Value} {ag:Bool}
theorem axw(hC:∀main T,C main T→Closed P main T){k k':IntKind}{a b:Int}(ho:ops[i]?=some ⟨dst,.binOp .shr T x y T',ty,pos,cS,g⟩) (hw:aw ops n env g=true)
 (hx:ba n env x=some (.int k a)) (hy:ba n env y=some (.int k' b)) (hb:0≤b) (h:ab C fn ay ops rest Q (A n (upd dst (.int k (aQ k a b)) env) D) s):ab C fn ay ops (i::rest) Q (A n env D) s:=by
 refine sg hC ho hw (by simp) ?_ h
 simp only[execOp,aC hx,aC hy]
 have he:eqGuard .shr T x y (.int k a) (.int k' b)=Sem.pure ():=rfl
 have hv:binOp .shr T (.int k a) (.int k' b)=Sem.pure (.int k (aQ k a b)):=by
  show Op.shift .shr k a k' b=_
  simp only[Op.shift,show ¬b <0 by omega,if_false];rfl
 rw[he]
 show Sem.bind (Sem.bind (Sem.pure ()) fun _=>binOp .shr T (.int k a) (.int k' b)) _=_
 simp only[Sem.bind,hv]
 rfl
theorem axx(hC:∀main T,C main T→Closed P main T){k k':IntKind}{a b:Int}(ho:ops[i]?=some ⟨dst,.binOp .shl T x y T',ty,pos,cS,g⟩) (hw:aw ops n env g=true)
 (hx:ba n env x=some (.int k a)) (hy:ba n env y=some (.int k' b)) (hb:0≤b) (h:ab C fn ay ops rest Q (A n (upd dst (.int k (dt k a b)) env) D) s):ab C fn ay ops (i::rest) Q (A n env D) s:=by
 refine sg hC ho hw (by simp) ?_ h
 simp only[execOp,aC hx,aC hy]
 have he:eqGuard .shl T x y (.int k a) (.int k' b)=Sem.pure ():=rfl
 have hv:binOp .shl T (.int k a) (.int k' b)=Sem.pure (.int k (dt k a b)):=by
  show Op.shift .shl k a k' b=_
  simp only[Op.shift,show ¬b <0 by omega,if_false];rfl
 rw[he]
 show Sem.bind (Sem.bind (Sem.pure ()) fun _=>binOp .shl T (.int k a) (.int k' b)) _=_
 simp only[Sem.bind,hv]
 rfl
end rules
theorem bX{b:Nat}{enc:α→List Value}(ps:List α)(h:s.has b (.cells ⟨(ps.map enc).flatten⟩ T fz))(hl:∀p∈ps,(enc p).length=sz):Sl s (.slice (some ⟨b,0,none⟩) ps.length cap) sz enc ps:=
 ⟨_,b,0,cap,rfl,fun _ _=>rfl,fun _ _ hx=>wA h hl hx⟩
theorem cD{b:Nat}{enc:α→List Value}:az (.slice (some ⟨b,0,none⟩) 0 0) sz T enc ([]:List α) [(b,.cells ⟨[]⟩ T (0,0))]:=
 .inr ⟨b,[],0,rfl,rfl,by simp,by simp,by simp,by simp⟩
theorem az.form{v:Value}{enc:α→List Value}{ps:List α}{L:Cells}(h:az v sz T enc ps L):∃a c,v= .slice a ps.length c:=by
 rcases h with ⟨h1,h2,_⟩| ⟨b,l,cap,h1,_⟩
 ·subst h2;exact⟨none,0,h1⟩
 ·exact⟨_,cap,h1⟩
def LY(v:Value)(b:Nat):Prop:=∃n c,v= .slice (some ⟨b,0,none⟩) n c
theorem cv{v:Value}{enc:α→List Value}{ps:List α}{L:Cells}(h:az v sz T enc ps L){b:Nat}(hb:LY v b)(hs:∀x∈L,s.has x.1 x.2){x:α}(hx:ps[k]?=some x):cg s b (k*sz) sz (enc x):=by
 obtain⟨a,b',o,c,h1,h2,h3⟩:=h.sl hs
 have hk:=(List.getElem?_eq_some_iff.1 hx).1
 have h4:=h2 k hk
 obtain⟨n,c',h5⟩:=hb
 rw[h1] at h5
 cases h5
 cases h4
 have:=h3 k x hx
 rwa[Nat.zero_add] at this
theorem axr{v:Value}{enc:α→List Value}{ps:List α}{L:Cells}(h:az v sz T enc ps L)(hk:k <ps.length):∃b,LY v b:=by
 rcases h with ⟨_,h2,_⟩| ⟨b,l,cap,h1,_⟩
 ·subst h2;simp at hk
 ·exact⟨b,_,_,h1⟩
theorem O5{enc:α→List Value}:∀(ps:List α),(∀p∈ps,(enc p).length=sz)→∀(k:Nat) (x:α),(enc x).length=sz→k <ps.length→∀l:List Value,l.take (ps.length*sz)=(ps.map enc).flatten→(de l (k*sz) (enc x)).take (ps.length*sz)=((ps.set k x).map enc).flatten:=by
 intro ps RU k x hx hk l hl
 have hle:ps.length*sz≤l.length:=by
  have h1:=jR ps RU
  rw[←hl,List.length_take] at h1
  omega
 have hks:k*sz+sz≤ps.length*sz:=by
  have:(k+1)*sz≤ps.length*sz:=Nat.mul_le_mul_right _ (by omega)
  rw[Nat.succ_mul] at this;exact this
 have hA:((ps.take k).map enc).flatten.length=k*sz:=by
  rw[jR _ (fun p hp=>RU p (List.mem_of_mem_take hp)),List.length_take,Nat.min_eq_left (by omega)]
 have hC:((ps.drop (k+1)).map enc).flatten.length=(ps.length-(k+1))*sz:=by
  rw[jR _ (fun p hp=>RU p (List.mem_of_mem_drop hp)),List.length_drop]
 have hB:=RU ps[k] (List.getElem_mem hk)
 have aqt:(ps.map enc).flatten=((ps.take k).map enc).flatten++(enc ps[k]++((ps.drop (k+1)).map enc).flatten):=by
  have h3:ps=ps.take k++ps[k]::ps.drop (k+1):=by rw[←List.drop_eq_getElem_cons hk,List.take_append_drop]
  have h4:=congrArg (fun q:List α=>(q.map enc).flatten) h3
  simp only[List.map_append,List.map_cons,List.flatten_append,List.flatten_cons] at h4
  exact h4
 have qt:l=((ps.take k).map enc).flatten++(enc ps[k]++(((ps.drop (k+1)).map enc).flatten++l.drop (ps.length*sz))):=by
  have h3:=(List.take_append_drop (ps.length*sz) l).symm
  rw[hl,aqt] at h3
  simp only[List.append_assoc] at h3
  exact h3
 have oA:((ps.set k x).map enc).flatten=((ps.take k).map enc).flatten++(enc x++((ps.drop (k+1)).map enc).flatten):=by
  rw[List.set_eq_take_append_cons_drop,if_pos hk]
  simp only[List.map_append,List.map_cons,List.flatten_append,List.flatten_cons]
 have aNM:de l (k*sz) (enc x)=((ps.take k).map enc).flatten++(enc x++(((ps.drop (k+1)).map enc).flatten++l.drop (ps.length*sz))):=by
  rw[qD _ _ _ (by omega),hx,List.append_assoc]
  congr 1
  ·conv=>lhs;rw[qt]
   rw[←hA,List.take_left]
  ·congr 1
   conv=>lhs;rw[qt]
   rw[←List.append_assoc,←List.append_assoc,List.append_assoc _ _ (List.drop _ _)]
   rw[show k*sz+sz=(((ps.take k).map enc).flatten++enc ps[k]).length by rw[List.length_append,hA,hB],List.drop_left]
 rw[aNM,oA,←List.append_assoc,←List.append_assoc]
 have hlen:(((ps.take k).map enc).flatten++enc x++((ps.drop (k+1)).map enc).flatten).length=ps.length*sz:=by
  rw[List.length_append,List.length_append,hA,hx,hC]
  have:ps.length*sz=(k+1+(ps.length-(k+1)))*sz:=by congr 1;omega
  rw[this,Nat.add_mul,Nat.succ_mul]
 rw[←hlen,List.take_left,List.append_assoc]
section rules
variable {P:Program} {C:Class} {fn:FuncId} {ay:Option Nat} {Q:Post} {s:St} {n:Nat} {env:Env} {D:List Deferred}
variable {ops:Array Oper} {i:Nat} {rest:List Nat} {dst:Option Tmp} {ty:TypeId} {pos:String} {cS:Array Edge} {g:Option (Nat×Bool)}
variable {T:TypeId} {d:TypeDesc} {sz bu:Nat} {z:List Value} {ag:Bool}
theorem Rf(hC:∀main T,C main T→Closed P main T){w:Operand}{k k':IntKind}(ho:ops[i]?=some ⟨dst,.slice T x (some y) (some w) none,ty,pos,cS,g⟩) (hw:aw ops n env g=true) (tf:TF P T .string sz bu z ag)
 (hx:ba n env x=some (.string b)) (hy:ba n env y=some (.int k lo)) (hz:ba n env w=some (.int k' hi)) (hl:0≤lo∧lo≤hi∧hi≤b.size) (h:ab C fn ay ops rest Q (A n (upd dst (.string (b.extract lo.toNat hi.toNat)) env) D) s):ab C fn ay ops (i::rest) Q (A n env D) s:=by
 refine bJ hC ho hw (by simp) ?_
 have h1:0≤hi∧hi≤(b.size:Int):=by omega
 have h2:0≤lo∧lo≤(hi.toNat:Int):=by omega
 simp only[execOp,Option.map_some,Option.map_none,Instr.sliceAt,Instr.slice,aC hx,aC hy,aC hz,aa,aW tf,Instr.sliceBounds,Instr.sliceBound,asIntOf,ae,Option.isSome_none,Bool.false_eq_true,if_false,h1,h2,and_self,if_true]
 rw[←aU] at h
 exact h
theorem ND(hC:∀main T,C main T→Closed P main T){w:Operand}{k':IntKind}(ho:ops[i]?=some ⟨dst,.slice T x none (some w) none,ty,pos,cS,g⟩) (hw:aw ops n env g=true) (tf:TF P T .string sz bu z ag)
 (hx:ba n env x=some (.string b)) (hz:ba n env w=some (.int k' hi)) (hl:0≤hi∧hi≤b.size) (h:ab C fn ay ops rest Q (A n (upd dst (.string (b.extract 0 hi.toNat)) env) D) s):ab C fn ay ops (i::rest) Q (A n env D) s:=by
 refine bJ hC ho hw (by simp) ?_
 simp only[execOp,Option.map_some,Option.map_none,Instr.sliceAt,Instr.slice,aC hx,aC hz,aa,aW tf,Instr.sliceBounds,Instr.sliceBound,asIntOf,ae,Option.isSome_none,Bool.false_eq_true,if_false,hl,and_self,if_true]
 rw[←aU] at h
 exact h
theorem NC(hC:∀main T,C main T→Closed P main T){k:IntKind}(ho:ops[i]?=some ⟨dst,.slice T x (some y) none none,ty,pos,cS,g⟩) (hw:aw ops n env g=true) (tf:TF P T .string sz bu z ag)
 (hx:ba n env x=some (.string b)) (hy:ba n env y=some (.int k lo)) (hl:0≤lo∧lo≤b.size) (h:ab C fn ay ops rest Q (A n (upd dst (.string (b.extract lo.toNat b.size)) env) D) s):ab C fn ay ops (i::rest) Q (A n env D) s:=by
 refine bJ hC ho hw (by simp) ?_
 simp only[execOp,Option.map_some,Option.map_none,Instr.sliceAt,Instr.slice,aC hx,aC hy,aa,aW tf,Instr.sliceBounds,Instr.sliceBound,asIntOf,ae,Option.isSome_none,Bool.false_eq_true,if_false,hl,and_self,if_true]
 rw[←aU] at h
 exact h
theorem bI.part{ro:Nat→Option Obj}{a:Option Addr}{len:Nat}{enc:α→List Value}{ps:List α}(hs:bI ro (.slice a len cap) sz enc ps){l h:Nat}(hl:l≤h)(hh:h≤ps.length):bI ro (.slice (if cap=l then a else a.map (·.add (l*sz))) (h-l) (cap-l)) sz enc ((ps.take h).drop l):=by
 obtain⟨a',b,o,aSd,h1,h2,h3,h4⟩:=hs
 cases h1
 have hlen:((ps.take h).drop l).length=h-l:=by rw[List.length_drop,List.length_take];omega
 refine⟨_,b,o+l*sz,_,by rw[hlen],by omega,fun k hk=>?_,fun i p hp=>?_⟩
 ·have:=h3 0 (by omega)
  subst this
  rw[if_neg (by omega)]
  simp[dG]
 ·rw[List.getElem?_drop] at hp
  have hi:l+i <h:=by
   have:=(List.getElem?_eq_some_iff.1 hp).1
   rw[List.length_take] at this;omega
  rw[List.getElem?_take_of_lt hi] at hp
  have:=h4 _ _ hp
  rwa[show o+(l+i)*sz=o+l*sz+i*sz by rw[Nat.add_mul];omega] at this
theorem aa8(hC:∀main T,C main T→Closed P main T){T2:TypeId}{v:Value}{szo:Nat}{enc:α→List Value}{ps:List α}{L:Cells}(ho:ops[i]?=some ⟨dst,.call ⟨.builtin .len,#[x],#[T]⟩,ty,pos,cS,g⟩) (hw:aw ops n env g=true)
 (tf:TF P T (.slice E) sz bu z ag) (hx:ba n env x=some v) (j8:az v szo T2 enc ps L) (h:ab C fn ay ops rest Q (A n (upd dst (.int .i64 ps.length) env) D) s):ab C fn ay ops (i::rest) Q (A n env D) s:=by
 obtain⟨a,c,rfl⟩:=j8.form
 exact axB hC ho hw tf hx h
end rules
theorem dH{ro aK:Nat→Option Obj}{K J:Cells}(hp:YN.Perm (K++J))(h:Sub ro aK):(⟨ro,K⟩:St).le ⟨aK,YN⟩:=⟨J,hp,fun b o hb=> .inl (h b o hb)⟩
theorem an(h:l.all single=true):∀v∈l,single v=true:=List.all_eq_true.1 h
section any
variable {P:Program} {C:Class} {fn:FuncId} {ay:Option Nat} {Q:Post} {s:St} {n:Nat} {D:List Deferred} {ops:Array Oper} {base:Env}
def ank(C:Class)(fn:FuncId)(ay:Option Nat)(ops:Array Oper)(n:Nat)(D:List Deferred)(base:Env)(Pl Sl:List (Nat×Value))(Q:Post)(s:St)(i:Nat):Prop:=
 ∀rest todo,(∀v s',(∀j w,(j,w)∈pending ops i Sl→eH C fn ay ops n D j w (bY ops base j Pl) s→eH C fn ay ops n D j w (bY ops base j Pl) s')→
  sP C fn ay ops n D base ((i,v)::Pl) (pending ops i Sl) Q s'→ab C fn ay ops todo Q (A n (upd (aO ops i) v (bY ops base i Pl++rest)) D) s')→
  ab C fn ay ops (i::todo) Q (A n (bY ops base i Pl++rest) D) s
def wW(C:Class)(fn:FuncId)(ay:Option Nat)(ops:Array Oper)(n:Nat)(D:List Deferred)(base:Env)(Pl Sl:List (Nat×Value))(Q:Post)(s:St):List Nat→Prop
 | []=>True
 |i::is=>ank C fn ay ops n D base Pl Sl Q s i∧wW C fn ay ops n D base Pl Sl Q s is
theorem wW.mem{Pl Sl:List (Nat×Value)}:∀ {is:List Nat},wW C fn ay ops n D base Pl Sl Q s is→∀i∈is,ank C fn ay ops n D base Pl Sl Q s i
 | [],_,i,hi=>by cases hi
 |k::is,h,i,hi=>by
  rcases List.mem_cons.1 hi with rfl|hi
  ·exact h.1
  ·exact wW.mem h.2 i hi
def aa3(ops:Array Oper)(ks:List Nat)(is:List Nat):Bool:=
 (List.range ops.size).all fun j=>aX j ks||aX j is||(bh ops j).any fun k=> !aX k ks
theorem Yw{Pl Sl:List (Nat×Value)}(is:List Nat)(mj:fx ops=true)(his:(is.all fun i=>Nat.blt i ops.size&& !aX i (ai Pl))=true)(lI:nodupB (ai Pl)=true)(jh:oy ops (ai Pl)=true)(hs:fy (ai Sl) (ai Pl)=true)(ho:aa3 ops (ai Pl) is=true)
 (h:wW C fn ay ops n D base Pl Sl Q s is)(dP:is.isEmpty=false):sP C fn ay ops n D base Pl Sl Q s:=by
 have qm:∀i∈is,i∉ai Pl:=fun i hi hm=>by
  have:=(List.all_eq_true.1 his) i hi
  rw[aG.2 hm] at this;simp at this
 have HI:∀i∈is,i <ops.size:=fun i hi=>by
  have:=(List.all_eq_true.1 his) i hi
  simp only[Bool.and_eq_true,Nat.blt_eq] at this
  exact this.1
 have FG:∀(l:List (Nat×Value)),nodupB (ai l)=true→∀j v w,(j,v)∈l→(j,w)∈l→w=v:=by
  intro l
  induction l with
  |nil=>intro _ j v w h;cases h
  |cons x l ih=>
   rcases x with ⟨k,u⟩
   intro hb j v w h1 h2
   simp only[ai,nodupB,Bool.and_eq_true,Bool.not_eq_true'] at hb
   have hk:k∉ai l:=fun hm=>by rw[aG.2 hm] at hb;cases hb.1
   rcases List.mem_cons.1 h1 with h1|h1<;>rcases List.mem_cons.1 h2 with h2|h2
   ·cases h1;cases h2;rfl
   ·cases h1;exact absurd (aM.2 ⟨_,h2⟩) hk
   ·cases h2;exact absurd (aM.2 ⟨_,h1⟩) hk
   ·exact ih hb.2 j v w h1 h2
 intro hSl X l
 induction l generalizing X with
 |nil=>
  intro env hX hl oC hf
  cases is with
  |nil=>cases dP
  |cons i is=>exact absurd (hX i (oC i (HI i List.mem_cons_self))) (qm i List.mem_cons_self)
 |cons j l ih=>
  intro env hX hl oC hf
  obtain⟨h1,h2,h3,h4⟩:=oC
  by_cases hj:j∈ai Pl
  ·
   obtain⟨w,hw⟩:=aM.1 hj
   obtain⟨rest,hr⟩:=vz (n:=n) (D:=D) hf j h3 h2
   rw[hr]
   refine hSl j w (hl j w hw h2) s (Ext.refl s) rest l Q ?_
   rw[←B7 hr]
   refine ih (j::X) _ (fun k hk=>?_) (fun k u hk AP=>hl k u hk (fun h=>AP (List.mem_cons_of_mem _ h))) h4 (sH mj hf h1 h2 h3 (fun u hu=>FG Pl lI j w u hw hu))
   rcases List.mem_cons.1 hk with rfl|hk
   ·exact hj
   ·exact hX k hk
  ·by_cases yM:j∈is
   ·have h:=wW.mem h j yM
    have qm:=qm j yM
    obtain⟨rest,hr⟩:=vz (n:=n) (D:=D) hf j h3 h2
    rw[hr]
    refine h rest l fun v s' hp ha=>?_
    rw[←B7 hr]
    have KO:∀k,k∈ai Pl→j∉bh ops k:=by
     intro k hk hm
     have:=(List.all_eq_true.1 jh) k hk
     exact qm (bE.1 this j hm)
    have RU:∀k u,(k,u)∈pending ops j Sl→(k,u)∈Sl:=fun k u hk=>(List.mem_filter.1 hk).1
    refine ha (fun k u hk=>?_) (j::X) l _ (fun k hk=>?_) (fun k u hk AP=>?_) h4 ?_
    ·rw[cK (KO k (bE.1 hs k (aM.2 ⟨u,RU k u hk⟩)))]
     exact hp k u hk (hSl k u (RU k u hk))
    ·rcases List.mem_cons.1 hk with rfl|hk
     ·simp[ai]
     ·exact List.mem_cons_of_mem _ (hX k hk)
    ·rcases List.mem_cons.1 hk with hk|hk
     ·cases hk;exact absurd (by simp) AP
     ·have KN:k∉X:=fun h=>AP (List.mem_cons_of_mem _ h)
      refine List.mem_filter.2 ⟨hl k u hk KN,?_⟩
      cases hm:aX k (bh ops j) with
      |false=>rfl
      |true=>exact absurd (h3 k (aG.1 hm)) KN
    ·refine sH mj (BJ hf h2) h1 h2 h3 fun u hu=>?_
     rcases List.mem_cons.1 hu with hu|hu
     ·cases hu;rfl
     ·exact absurd (aM.2 ⟨_,hu⟩) qm
   ·exfalso
    have:=(List.all_eq_true.1 ho) j (List.mem_range.2 h1)
    have e1:aX j (ai Pl)=false:=by
     cases hm:aX j (ai Pl) with
     |false=>rfl
     |true=>exact absurd (aG.1 hm) hj
    have e2:aX j is=false:=by
     cases hm:aX j is with
     |false=>rfl
     |true=>exact absurd (aG.1 hm) yM
    rw[e1,e2] at this
    simp only[Bool.false_or,List.any_eq_true,Bool.not_eq_true'] at this
    obtain⟨k,hk,bP⟩:=this
    have:=hX k (h3 k hk)
    rw[aG.2 this] at bP;cases bP
end any
section rules
variable {P:Program} {C:Class} {fn:FuncId} {ay:Option Nat} {Q:Post} {s:St} {n:Nat} {env:Env} {D:List Deferred}
variable {ops:Array Oper} {i:Nat} {rest:List Nat} {dst:Option Tmp} {ty:TypeId} {pos:String} {cS:Array Edge} {g:Option (Nat×Bool)}
variable {T:TypeId} {d:TypeDesc} {sz bu:Nat} {z:List Value} {ag:Bool} {ro:Nat→Option Obj}
theorem u4{a:Act}(hC:∀main T,C main T→Closed P main T){rw:Cells}(hp:YN.Perm rw)(h:ab C fn ay ops todo Q a ⟨ro,rw⟩):ab C fn ay ops todo Q a ⟨ro,YN⟩:=
 ab.more (s:=⟨ro,rw⟩) (s':=⟨ro,YN⟩) hC ⟨[],by rw[List.append_nil];exact hp,fun b o hb=> .inl hb⟩ h
theorem oap(hC:∀main T,C main T→Closed P main T){v w:Value}{enc:α→List Value}{ps qs:List α}{L R:List (Nat×Obj)}{d':TypeDesc}{E2:TypeId}{gQ uD sz2 Av:Nat}{z' z2:List Value}{wh ag2:Bool} 
 (ho:ops[i]?=some ⟨dst,.call ⟨.builtin .append,#[x,y],#[T,U]⟩,ty,pos,cS,g⟩) (hw:aw ops n env g=true) (tf:TF P T (.slice E) sz bu z ag) (PN:TF P U (.slice E2) sz2 Av z2 ag2) (jC:TF P E d' gQ uD z' wh) (hz:z'.length=gQ)
 (hx:ba n env x=some v) (hy:ba n env y=some w) (j8:az v gQ E enc ps L) (IX:Sl ⟨ro,L++R⟩ w gQ enc qs) (hq:∀p∈qs,∀c∈enc p,single c=true) (hb:u6 (ps.length+qs.length) uD)
 (h:∀v' L',az v' gQ E enc (ps++qs) L'→ab C fn ay ops rest Q (A n (upd dst v' env) D) ⟨ro,L'++R⟩):ab C fn ay ops (i::rest) Q (A n env D) ⟨ro,L++R⟩:=
 NI hC ho hw tf PN jC hz hx hy j8 IX (pre:=[]) rfl hq hb h
theorem ost(hC:∀main T,C main T→Closed P main T){b o:Nat}{v:Value}{R:List (Nat×Obj)}{c:List Value}{e:TypeId}(ho:ops[i]?=some ⟨dst,.store T x y,ty,pos,cS,g⟩) (hw:aw ops n env g=true) (tf:TF P T d sz bu z ag)
 (hx:ba n env x=some (.pointer (some ⟨b,o,none⟩))) (hy:ba n env y=some (v)) (hl:v.cells=⟨l⟩) (hn:l.length=sz) (h1:∀v∈l,single v=true) (hb:o+l.length≤c.length)
 (h:ab C fn ay ops rest Q (A n (upd dst undef env) D) ⟨ro,(b,.cells ⟨de c o l⟩ e (0,0))::R⟩):ab C fn ay ops (i::rest) Q (A n env D) ⟨ro,(b,.cells ⟨c⟩ e (0,0))::R⟩:=
 DT hC ho hw tf hx hy hl hn h1 (L:=[]) rfl hb h
end rules
section rules
variable {P:Program} {C:Class} {fn:FuncId} {ay:Option Nat} {Q:Post} {s:St} {n:Nat} {env:Env} {D:List Deferred}
variable {ops:Array Oper} {i:Nat} {rest:List Nat} {dst:Option Tmp} {ty:TypeId} {pos:String} {cS:Array Edge} {g:Option (Nat×Bool)}
theorem ao8(hC:∀main T,C main T→Closed P main T){k:IntKind}{a b:Int}(ho:ops[i]?=some ⟨dst,.call ⟨.builtin .min,#[x,y],#[T,U]⟩,ty,pos,cS,g⟩) (hw:aw ops n env g=true)
 (hx:ba n env x=some (.int k a)) (hy:ba n env y=some (.int k b)) (h:ab C fn ay ops rest Q (A n (upd dst (.int k (min a b)) env) D) s):ab C fn ay ops (i::rest) Q (A n env D) s:=by
 refine bJ hC ho hw (by simp) ?_
 have e:(if b <a then b else a)=min a b:=by omega
 simp only[execOp,resolve,invoke,builtin,Builtin.min_,List.map_toArray,List.map_cons,List.map_nil,aC hx,aC hy,List.foldlM_cons,List.foldlM_nil,Builtin.min2,aa,ae,e]
 rw[←aU] at h
 exact h
theorem ao9(hC:∀main T,C main T→Closed P main T){k:IntKind}{a b:Int}(ho:ops[i]?=some ⟨dst,.call ⟨.builtin .max,#[x,y],#[T,U]⟩,ty,pos,cS,g⟩) (hw:aw ops n env g=true)
 (hx:ba n env x=some (.int k a)) (hy:ba n env y=some (.int k b)) (h:ab C fn ay ops rest Q (A n (upd dst (.int k (max a b)) env) D) s):ab C fn ay ops (i::rest) Q (A n env D) s:=by
 refine bJ hC ho hw (by simp) ?_
 have e:(if a <b then b else a)=max a b:=by omega
 simp only[execOp,resolve,invoke,builtin,Builtin.max_,List.map_toArray,List.map_cons,List.map_nil,aC hx,aC hy,List.foldlM_cons,List.foldlM_nil,Builtin.max2,aa,ae,e]
 rw[←aU] at h
 exact h
end rules
def cH(a b:ByteArray):Bool:=a.toList==b.toList
def strLt(a b:ByteArray):Bool:=Op.bytesLess a.toList b.toList
section rules
variable {P:Program} {C:Class} {fn:FuncId} {ay:Option Nat} {Q:Post} {s:St} {n:Nat} {env:Env} {D:List Deferred}
variable {ops:Array Oper} {i:Nat} {rest:List Nat} {dst:Option Tmp} {ty:TypeId} {pos:String} {cS:Array Edge} {g:Option (Nat×Bool)}
theorem ao5(hC:∀main T,C main T→Closed P main T){a:ByteArray}(ho:ops[i]?=some ⟨dst,.binOp .add T x y T',ty,pos,cS,g⟩) (hw:aw ops n env g=true)
 (hx:ba n env x=some (.string a)) (hy:ba n env y=some (.string b)) (hb:(a.size:Int)+b.size≤9223372036854775807) (h:ab C fn ay ops rest Q (A n (upd dst (.string (a++b)) env) D) s):ab C fn ay ops (i::rest) Q (A n env D) s:=
 zh hC ho hw hx hy (v:= .string (a++b)) (by
  simp only[Op.stringOp]
  rw[if_neg]
  ·rfl
  ·have:IntKind.i64.max=9223372036854775807:=by decide
   rw[this];push_cast;omega) rfl h
end rules
theorem ato(b:ByteArray)(i:Nat)(h:i <b.size):b.get! i=b.data.toList[i]'(by simpa using h):=by
 have h':i <b.data.size:=h
 show b.data[i]! =_
 rw[getElem!_pos b.data i h']
 simp
theorem V2(b:ByteArray):∀(n i:Nat) (r:List UInt8),b.size-i=n→ByteArray.toList.loop b i r=r.reverse++b.data.toList.drop i
 |0,i,r,h=>by
  unfold ByteArray.toList.loop
  rw[if_neg (by omega),List.drop_eq_nil_of_le]
  ·simp
  ·show b.data.toList.length≤i
   rw[Array.length_toList]
   have:b.data.size=b.size:=rfl
   omega
 |n+1,i,r,h=>by
  unfold ByteArray.toList.loop
  have hi:i <b.size:=by omega
  rw[if_pos hi,V2 b n (i+1) _ (by omega),ato b i hi]
  have hl:i <b.data.toList.length:=by rw[Array.length_toList];exact hi
  rw[List.drop_eq_getElem_cons hl]
  simp
theorem pg(b:ByteArray):b.toList=b.data.toList:=by
 show ByteArray.toList.loop b 0 []=_
 rw[V2 b _ 0 [] rfl]
 simp
theorem AZ{a:ByteArray}:cH a b=true↔a=b:=by
 unfold cH
 rw[pg,pg]
 simp only[beq_iff_eq]
 constructor
 ·intro h
  have:a.data=b.data:=Array.toList_inj.1 h
  cases a;cases b;simp at this;subst this;rfl
 ·rintro rfl;rfl
theorem yZ(a b:ByteArray):cH a b=(a.data.toList==b.data.toList):=by unfold cH;rw[pg,pg]
theorem MW(a b:ByteArray):strLt a b=Op.bytesLess a.data.toList b.data.toList:=by unfold strLt;rw[pg,pg]
def FnG(P:Program)(f:FuncId)(args:List Value)(ro:Nat→Option Obj)(own:Cells)(Φ:Value→(Nat→Option Obj)→Cells→Prop):Prop:=
 Fn (CP P) P f ⟨args⟩ ⟨ro,own⟩ (fun en s'=>∃v aK X,en= .returned v∧s'=⟨aK,X⟩∧Sub ro aK∧Φ v aK X)
theorem FnG.use{own:Cells}{Φ:Value→(Nat→Option Obj)→Cells→Prop}(hp:s.rw.Perm (own++fr))(hf:FnG P f vs s.ro own Φ):
 Fn (CP P) P f ⟨vs⟩ s (fun en s'=>∃v aK X,en= .returned v∧Sub s.ro aK∧Φ v aK X∧(⟨aK,X++fr⟩:St).le s'):=by
 refine Fn.mono (Fn.frame (fr:=fr) (B:=[]) (ro:=s.ro) (s:=s) hf (fun _ h=>(by cases h)) ⟨hp,fun b o hb=> .inl hb,Sub.refl _⟩) fun en s' Cs=>?_
 obtain⟨xU,⟨v,aK,X,rfl,rfl,hs,pR⟩,hc⟩:=Cs
 refine⟨v,aK,X,rfl,hs,pR,[],by simpa using hc.rw,fun b o hb=>?_⟩
 rcases hc.aA b o hb with h|h
 ·exact .inl h
 ·cases h
theorem EU:∀(A l:List Value) (o:Nat) (c:List Value),de (A++l) (A.length+o) c=A++de l o c
 | [],l,o,c=>by simp
 |a::A,l,o,[]=>by rw[kO,kO]
 |a::A,l,o,v::c=>by
  have:=EU A l o (v::c)
  rw[show (a::A).length+o=A.length+o+1 by simp only[List.length_cons];omega]
  simp only[List.cons_append,de,this]
theorem Iu{m B:List Value}{o:Nat}{c:List Value}(h:o+c.length≤m.length):de (m++B) o c=de m o c++B:=by
 rw[qD _ _ _ (by rw[List.length_append];omega),qD _ _ _ h,List.take_append_of_le_length (by omega),List.drop_append_of_le_length h]
 simp only[List.append_assoc]
theorem WX{m c:List Value}(h:c.length=m.length):de m 0 c=c:=by
 rw[qD _ _ _ (by omega)]
 simp[h]
theorem SM{enc:α→List Value}{ps:List α}(RU:∀p∈ps,(enc p).length=sz){x:α}(hx:ps[k]?=some x) (hl:l.take (ps.length*sz)=(ps.map enc).flatten):∃A B,A.length=k*sz∧l=A++(enc x++B):=by
 obtain⟨hk,rfl⟩:=List.getElem?_eq_some_iff.1 hx
 refine⟨((ps.take k).map enc).flatten,((ps.drop (k+1)).map enc).flatten++l.drop (ps.length*sz),?_,?_⟩
 ·rw[jR _ (fun p hp=>RU p (List.mem_of_mem_take hp)),List.length_take,Nat.min_eq_left (by omega)]
 ·have h3:ps=ps.take k++ps[k]::ps.drop (k+1):=by rw[←List.drop_eq_getElem_cons hk,List.take_append_drop]
  have h4:=congrArg (fun q:List α=>(q.map enc).flatten) h3
  simp only[List.map_append,List.map_cons,List.flatten_append,List.flatten_cons] at h4
  have h5:=(List.take_append_drop (ps.length*sz) l).symm
  rw[hl,h4] at h5
  simpa only[List.append_assoc] using h5
theorem WY{enc:α→List Value}{ps:List α}(RU:∀p∈ps,(enc p).length=sz){x:α}(hx:ps[k]?=some x) (hl:l.take (ps.length*sz)=(ps.map enc).flatten) {o:Nat} {c:List Value} (h:o+c.length≤sz):
 de l (k*sz+o) c=de l (k*sz) (de (enc x) o c):=by
 have hxl:=RU x (List.mem_of_getElem? hx)
 obtain⟨A,B,h1,rfl⟩:=SM RU hx hl
 have e0:∀q,de (A++(enc x++B)) A.length q=A++de (enc x++B) 0 q:=fun q=>EU A _ 0 q
 rw[←h1,EU,e0,Iu (by omega),Iu (by rw[kP];omega),WX (kP _ _ _)]
section rules
variable {P:Program} {C:Class} {fn:FuncId} {ay:Option Nat} {Q:Post} {ro:Nat→Option Obj} {n:Nat} {env:Env} {D:List Deferred}
variable {ops:Array Oper} {i:Nat} {rest:List Nat} {dst:Option Tmp} {ty:TypeId} {pos:String} {cS:Array Edge} {g:Option (Nat×Bool)}
variable {T:TypeId} {d:TypeDesc} {tsz bu:Nat} {z:List Value} {ag:Bool}
theorem axt(hC:∀main T,C main T→Closed P main T){b o:Nat}{v w:Value}{a e:α}{c:List Value}{enc:α→List Value}{ps:List α}{L:Cells}(ho:ops[i]?=some ⟨dst,.store T x y,ty,pos,cS,g⟩) (hw:aw ops n env g=true) (tf:TF P T d tsz bu z ag)
 (hx:ba n env x=some (.pointer (some ⟨b,k*sz+o,none⟩))) (hy:ba n env y=some w) (hl:w.cells=⟨c⟩) (hn:c.length=tsz) (h1:∀v∈c,single v=true) (j8:az v sz E enc ps L) (hb:LY v b) (hk:ps[k]?=some a) (he:enc e=de (enc a) o c) (hf:o+c.length≤sz)
 (h:∀L',az v sz E enc (ps.set k e) L'→ab C fn ay ops rest Q (A n (upd dst undef env) D) ⟨ro,L'++R⟩):ab C fn ay ops (i::rest) Q (A n env D) ⟨ro,L++R⟩:=by
 have hk1:k <ps.length:=(List.getElem?_eq_some_iff.1 hk).1
 rcases j8 with ⟨_,h2,_⟩| ⟨b',l,cap,g1,g2,g3,g4,g5,g6⟩
 ·subst h2;simp at hk
 ·obtain⟨n',c',lU⟩:=hb
  rw[g1] at lU
  cases lU
  subst g2
  have hea:(enc a).length=sz:=g5 a (List.mem_of_getElem? hk)
  have Cs:(enc e).length=sz:=by rw[he,kP,hea]
  have hks:k*sz+sz≤ps.length*sz:=by
   have:(k+1)*sz≤ps.length*sz:=Nat.mul_le_mul_right _ (by omega)
   rw[Nat.succ_mul] at this;exact this
  have nV:ps.length*sz≤cap*sz:=Nat.mul_le_mul_right _ g4
  refine DT (L:=[]) (R:=R) hC ho hw tf hx hy hl hn h1 rfl (by omega) ?_
  refine h [(b,.cells ⟨de l (k*sz+o) c⟩ E (0,0))] (.inr ⟨b,_,cap,by rw[g1,List.length_set],rfl,by rw[kP,g3],by rw[List.length_set];exact g4,fun p hp=>?_,?_⟩)
  ·rcases List.mem_or_eq_of_mem_set hp with h5|h5
   ·exact g5 p h5
   ·subst h5;exact Cs
  ·rw[List.length_set,WY g5 hk g6 hf,←he]
   exact O5 ps g5 k e Cs hk1 l g6
end rules
section rules
variable {P:Program} {C:Class} {fn:FuncId} {ay:Option Nat} {Q:Post} {s:St} {n:Nat} {env:Env} {D:List Deferred}
variable {ops:Array Oper} {i:Nat} {rest:List Nat} {dst:Option Tmp} {ty:TypeId} {pos:String} {cS:Array Edge} {g:Option (Nat×Bool)}
structure EF(P:Program)(f:FuncId)(e:Array Value→Sem Value):Prop where
 ef:∃fn,P.funcs[f]?=some fn∧(fn.name== "runtime.NumGoroutine")=false∧fn.body.isNone=true∧(Extern.findNext fn).isNone=true∧Extern.find fn=some e
theorem abb(hC:∀main T,C main T→Closed P main T){e:Array Value→Sem Value}(ho:ops[i]?=some ⟨dst,.call ⟨.value (.func f),xs,at_⟩,ty,pos,cS,g⟩) (hw:aw ops n env g=true)
 (ef:EF P f e) (hx:uO n env xs=some vs) (h:bG P (e ⟨vs⟩) s (fun v s'=>ab C fn ay ops rest Q (A n (upd dst v env) D) s') (fun _ _=>False)):ab C fn ay ops (i::rest) Q (A n env D) s:=by
 obtain⟨fn',h1,h2,h3,h4,h5⟩:=ef.ef
 have h4':Extern.findNext fn'=none:=by
  cases hh:Extern.findNext fn' with
  |none=>rfl
  |some x=>rw[hh] at h4;cases h4
 refine bJ hC ho hw (by simp) ?_
 simp only[execOp,resolve,ev,Deferred.ofValue,ae,rF hx]
 simp only[invoke,Array.append_empty,Array.empty_append,callFunc,eI,h1,h2,h3,h4',h5,if_true,Bool.false_eq_true,if_false]
 refine⟨rfl,?_⟩
 refine MG (e ⟨vs⟩) (fun v=>(pure (Next.value v):Sem Next)) _ _ _ ?_
 refine uQ _ _ _ _ _ _ (fun v s' hv=>?_) (fun _ _ (hf:False)=>hf.elim) h
 rw[←aU] at hv
 exact hv
end rules
def N4(a:ByteArray)(b:UInt8):Int:=
 match (List.range a.size).find? fun i=>a[i]! ==b with
 |some i=>i
 |none=> -1
section rules
variable {P:Program} {C:Class} {fn:FuncId} {ay:Option Nat} {Q:Post} {s:St} {n:Nat} {env:Env} {D:List Deferred}
variable {ops:Array Oper} {i:Nat} {rest:List Nat} {dst:Option Tmp} {ty:TypeId} {pos:String} {cS:Array Edge} {g:Option (Nat×Bool)}
theorem aa9(hC:∀main T,C main T→Closed P main T){a:ByteArray}{b:Int}(ho:ops[i]?=some ⟨dst,.call ⟨.value (.func f),xs,at_⟩,ty,pos,cS,g⟩) (hw:aw ops n env g=true)
 (ef:EF P f Extern.BytealgIndexByte.indexByte) (hx:uO n env xs=some [.string a,.int .u8 b]) (h:ab C fn ay ops rest Q (A n (upd dst (.int .i64 (N4 a b.toNat.toUInt8)) env) D) s):ab C fn ay ops (i::rest) Q (A n env D) s:=by
 refine abb hC ho hw ef hx ?_
 unfold N4 at h
 show bG P (match (List.range a.size).find? fun i=>a[i]! ==b.toNat.toUInt8 with|some i=>pure (goInt i)|none=>pure (goInt (-1))) s _ _
 split
 ·rename_i j hj
  rw[hj] at h;exact h
 ·rename_i hj
  rw[hj] at h;exact h
theorem aiw(hC:∀main T,C main T→Closed P main T){v:Value}(ho:ops[i]?=some ⟨dst,.call ⟨.value (.func f),xs,at_⟩,ty,pos,cS,g⟩) (hw:aw ops n env g=true)
 (ef:EF P f Extern.AbiNoEscape.same) (hx:uO n env xs=some [v]) (h:ab C fn ay ops rest Q (A n (upd dst v env) D) s):ab C fn ay ops (i::rest) Q (A n env D) s:=
 abb hC ho hw ef hx h
end rules
theorem Yf{c:UInt8}(h:b.data.toList[p]?=some c) (ha:c.toNat <128):p <b.size∧Utf8.decode b p=(c.toNat,1):=by
 rw[Array.getElem?_toList] at h
 obtain⟨h1,h2⟩:=Array.getElem?_eq_some_iff.1 h
 refine⟨h1,?_⟩
 have h3:b.get! (p+0)=c:=by
  show b.data[p+0]! =c
  rw[Nat.add_zero,getElem!_pos b.data p h1,h2]
 simp only[Utf8.decode,h3]
 rw[if_pos (by omega)]
section rules
variable {P:Program} {C:Class} {fn:FuncId} {ay:Option Nat} {Q:Post} {ro:Nat→Option Obj} {n:Nat} {env:Env} {D:List Deferred}
variable {ops:Array Oper} {i:Nat} {rest:List Nat} {dst:Option Tmp} {ty:TypeId} {pos:String} {cS:Array Edge} {g:Option (Nat×Bool)}
theorem aiy(hC:∀main T,C main T→Closed P main T){r:Nat}{c:UInt8}(ho:ops[i]?=some ⟨dst,.next x true,ty,pos,cS,g⟩) (hw:aw ops n env g=true) (hx:ba n env x=some (.pointer (some ⟨r,0,none⟩))) (hp:b.data.toList[p]?=some c) (ha:c.toNat <128)
 (h:ab C fn ay ops rest Q (A n (upd dst (.tuple ⟨[.bool true,.int .i64 p,.int .i32 c.toNat]⟩) env) D) ⟨ro,(r,.stringIter b (p+1))::R⟩):ab C fn ay ops (i::rest) Q (A n env D) ⟨ro,(r,.stringIter b p)::R⟩:=by
 obtain⟨h1,h2⟩:=Yf hp ha
 refine Xa hC ho hw hx (L:=[]) rfl h1 ?_
 rw[h2]
 exact h
theorem aix(hC:∀main T,C main T→Closed P main T){r:Nat}(ho:ops[i]?=some ⟨dst,.next x true,ty,pos,cS,g⟩) (hw:aw ops n env g=true) (hx:ba n env x=some (.pointer (some ⟨r,0,none⟩))) (hp:b.data.toList[p]?=none)
 (h:ab C fn ay ops rest Q (A n (upd dst (.tuple ⟨[.bool false]⟩) env) D) ⟨ro,(r,.stringIter b p)::R⟩):ab C fn ay ops (i::rest) Q (A n env D) ⟨ro,(r,.stringIter b p)::R⟩:=by
 refine Xb hC ho hw hx (L:=[]) rfl ?_ h
 rw[Array.getElem?_toList,Array.getElem?_eq_none_iff] at hp
 exact Nat.not_lt.2 hp
end rules
theorem Ep(ops:Array Oper)(n:Nat)(env:Env)(D:List Deferred)(o:Oper)(j:Nat)(want:Bool)(d:Tmp)(hg:o.guard=some (j,want))(hd:(ops[j]?).bind (·.dst)=some d)
 (hv:ba n env (.tmp d)=some undef):Region.wanted o (yielded ops (A n env D).tmps)=false:=by
 unfold Region.wanted
 rw[hg]
 simp only[ba] at hv
 by_cases cz:d <n
 ·rw[show Nat.blt d n=true from by simpa [Nat.blt_eq] using cz] at hv
  simp only[cond_true] at hv
  simp only[yielded,hd,Option.bind_some,Mg]
  rw[if_pos cz,mr hv]
  rfl
 ·rw[show Nat.blt d n=false from by simpa [Nat.blt_eq,←Bool.not_eq_true] using cz] at hv
  cases hv
section rules
variable {P:Program} {C:Class} {fn:FuncId} {ay:Option Nat} {Q:Post} {s:St} {n:Nat} {env:Env} {D:List Deferred}
variable {ops:Array Oper} {i:Nat} {rest:List Nat} {dst:Option Tmp} {ty:TypeId} {pos:String} {cS:Array Edge} {g:Option (Nat×Bool)}
theorem aiv(hC:∀main T,C main T→Closed P main T){op:Op}{j:Nat}{want:Bool}{d:Tmp}(ho:ops[i]?=some ⟨dst,op,ty,pos,cS,some (j,want)⟩) (hd:(ops[j]?).bind (·.dst)=some d)
 (hv:ba n env (.tmp d)=some undef) (h:ab C fn ay ops rest Q (A n (upd dst undef env) D) s):ab C fn ay ops (i::rest) Q (A n env D) s:=by
 refine tx hC ho (Ep _ _ _ _ _ _ _ _ rfl hd hv) ?_
 rw[aU];exact h
end rules
section rules
variable {P:Program} {C:Class} {fn:FuncId} {Q:Post} {s:St} {n:Nat} {env:Env} {D:List Deferred}
variable {ops:Array Oper} {i:Nat} {rest:List Nat} {dst:Option Tmp} {ty:TypeId} {pos:String} {cS:Array Edge} {g:Option (Nat×Bool)}
theorem aiA(hC:∀main T,C main T→Closed P main T){ca:List Value}(ho:ops[i]?=some ⟨dst,.defer ⟨.value x,#[],#[]⟩,ty,pos,cS,g⟩) (hw:aw ops n env g=true)
 (hx:ba n env x=some (.func (.func f) ⟨[]⟩ ⟨ca⟩)) (h:ab C fn none ops rest Q (A n (upd dst undef env) ({target:= .fn (.func f) ⟨ca⟩,args:= #[]}::D)) s):ab C fn none ops (i::rest) Q (A n env D) s:=by
 refine Kg hC ho (AV _ _ _ _ _ hw) (.inl rfl) ?_
 rw[dW]
 simp only[execOp,resolve,aC hx,Deferred.ofValue,ae]
 refine⟨rfl,?_⟩
 have hA:({A n env D with defers:={target:= .fn (.func f) ⟨ca⟩,args:= #[]}::(A n env D).defers}:Act).put dst undef=A n (upd dst undef env) ({target:= .fn (.func f) ⟨ca⟩,args:= #[]}::D):=by
  rw[←aU];rfl
 rw[←hA] at h
 have he:(⟨[]⟩:Array Value)++Array.map (ev n env) #[]= #[]:=by simp
 rw[he]
 exact h
def SY(C:Class)(P:Program)(fn:Func)(g:FuncId)(gn:Func)(t:Tmp)(rest:Code)(R:Ending→St→Prop):Post:=fun e a s=>
 (e= .normal∨e= .ret)∧∃ca:List Value,Nat.ble ca.length gn.ntmps=true∧a.defers=[{target:= .fn (.func g) ⟨ca⟩,args:= #[]}]∧
  Wp C g none rest (fun e2 a2 s2=>(e2= .normal∨e2= .ret)∧a2.defers=[]∧bG P (results fn a.tmps) s2 (fun v s3=>∃s0,s0.le s3∧R (.returned v) s0) (fun _ _=>False)) (A gn.ntmps (upd (some t) .nilIface (fG 0 ca)) []) s
theorem Gj(hC:∀main T,C main T→Closed P main T){fn:Func}{c:Code}{args:List Value}{R:Ending→St→Prop}{gid:FuncId}{gn:Func}{t:Tmp}{rc:Code}(hf:P.funcs[f]?=some fn) (hb:fn.body=some c) (hn:fn.ntmps=n) (hl:Nat.ble args.length n=true)
 (acM:Hs P gid=some (gn,t,rc)) (h:Wp C f none c (SY C P fn gid gn t rc R) (A n (fG 0 args) []) s):Fn C P f ⟨args⟩ s R:=by
 intro main T hT cl cs k1 k2
 have ir:=hC main T hT
 let b:Frame:={(default:Frame) with fn:=f,kind:= .normal,roundOf:=none}
 have gL:Frame.enter P f ⟨args⟩ .normal=aH b (A n (fG 0 args) []) [.code c]:=by
  rw[←kg args n (Nat.le_of_ble_eq_true hl)]
  simp[Frame.enter,aH,hf,hb,hn,b]
 rw[gL]
 obtain⟨hgf,zt,G7,id,o,at_,hgb,h1,h2,h3⟩:=(Ue acM).ex
 have ff:FF P gid:=⟨gn,hgf,G7,by rw[hgb];rfl⟩
 have rz:∀(todo:List Item) (a':Act) (s':St) (ca:List Value),Nat.ble ca.length gn.ntmps=true→a'.defers=[{target:= .fn (.func gid) ⟨ca⟩,args:= #[]}]→
  Wp C gid none rc (fun e2 a2 s2=>(e2= .normal∨e2= .ret)∧a2.defers=[]∧bG P (results fn a'.tmps) s2 (fun v s3=>∃s0,s0.le s3∧R (.returned v) s0) (fun _ _=>False)) (A gn.ntmps (upd (some t) .nilIface (fG 0 ca)) []) s'→
  T (G {aH b a' todo with mode:= .returning} (cl::cs)) s':=by
  intro todo a' s' ca hlc hd hw
  refine iU hC hT (.inl rfl) ff (ds:=[]) (a:= #[]) (ca:=⟨ca⟩) hd ?_
  let d:Frame:={(default:Frame) with fn:=gid,kind:= .deferred,roundOf:=none}
  have ajU:Frame.enter P gid ((#[]:Array Value)++⟨ca⟩) .deferred=aH d (A gn.ntmps (fG 0 ca) []) [.code (.seq (.region id #[o] false) rc)]:=by
   rw[←kg ca gn.ntmps (Nat.le_of_ble_eq_true hlc)]
   simp[Frame.enter,aH,hgf,hgb,d]
  rw[ajU]
  let c0:Frame:={aH b a' todo with mode:= .returning,defers:=[]}
  show T (G _ (c0::cl::cs)) s'
  refine ir.go rfl rfl (g':=G (aH d (A gn.ntmps (fG 0 ca) []) [.code (.region id #[o] false),.code rc]) (c0::cl::cs)) (fun w=>by simp[G,stepG,stepG.exec,aH]) ?_
  refine ir.go rfl rfl (g':=G (aH d (A gn.ntmps (fG 0 ca) []) [.inRegion #[o] [0],.code rc]) (c0::cl::cs)) (fun w=>by simp[G,stepG,stepG.exec,aH,List.range,List.range.loop]) ?_
  refine zb hC hT (u:= .ret) (ρ:=fun _=>none) rfl rfl h1 h2 h3 .ret fun v' mJ hv R8=>?_
  have hv':v'= .nilIface:=by
   rcases hv with hv|hv
   ·cases hv;rfl
   ·exact hv.2
  subst hv'
  refine ir.go rfl rfl (g':=G (aH d ((A gn.ntmps (fG 0 ca) []).put (some t) .nilIface) [.code rc]) ({c0 with mode:=mJ}::cl::cs)) (fun w=>by simp[G,stepG,stepG.exec,aH]) ?_
  rw[aU]
  have Oe:∀tmps,results gn tmps=Sem.pure (.tuple #[]):=by intro tmps;simp[results,zt];rfl
  have xA:∀(TE:List Item) (a2:Act) (s2:St),a2.defers=[]→bG P (results fn a'.tmps) s2 (fun v s3=>∃s0,s0.le s3∧R (.returned v) s0) (fun _ _=>False)→T (G {aH d a2 TE with mode:= .returning} ({c0 with mode:=mJ}::cl::cs)) s2:=by
   intro TE a2 s2 hd2 vk
   have lT:T (G c0 (cl::cs)) s2:=rX hC hT hf rfl rfl rfl rfl vk k1
   refine ir.go rfl rfl (fun w=>?_) lT
   rcases R8 with rfl| ⟨v,rfl⟩
   ·simp only[G,stepG,unwind,aH,d,hgf,Oe,Sem.runT,rV,hd2]
    simp[GStep.after,doReturn,c0,aH]
   ·simp only[G,stepG,unwind,aH,d,hgf,Oe,Sem.runT,rV,hd2]
    simp[GStep.after,doReturn,c0,aH]
  refine hw main T hT d [] _ rfl (by simp[d]) rfl fun e2 a2 s2 q=>?_
  obtain⟨q1,q2,q3⟩:=q
  rcases q1 with rfl|rfl
  ·exact ir.go rfl rfl (g':=G {aH d a2 [] with mode:= .returning} ({c0 with mode:=mJ}::cl::cs)) (fun w=>by simp[G,stepG,stepG.exec,aH,d]) (xA _ _ _ q2 q3)
  ·exact fun TE=>ir.go rfl rfl (g':=G {aH d a2 (.code .ret::TE) with mode:= .returning} ({c0 with mode:=mJ}::cl::cs)) (fun w=>by simp[G,stepG,stepG.exec,aH,d]) (xA _ _ _ q2 q3)
 refine h main T hT b [] (cl::cs) rfl (by simp[b]) rfl fun e a' s' q=>?_
 obtain⟨q1,ca,q0,q2,q3⟩:=q
 rcases q1 with rfl|rfl
 ·exact ir.go rfl rfl (g':=G {aH b a' [] with mode:= .returning} (cl::cs)) (fun w=>by simp[G,stepG,stepG.exec,aH,b]) (rz _ _ _ ca q0 q2 q3)
 ·exact fun todo=>ir.go rfl rfl (g':=G {aH b a' (.code .ret::todo) with mode:= .returning} (cl::cs)) (fun w=>by simp[G,stepG,stepG.exec,aH,b]) (rz _ _ _ ca q0 q2 q3)
end rules
section rules
variable {P:Program} {C:Class} {fn:FuncId} {ay:Option Nat} {Q:Post} {s:St} {n:Nat} {env:Env} {D:List Deferred}
variable {ops:Array Oper} {i:Nat} {rest:List Nat} {dst:Option Tmp} {ty:TypeId} {pos:String} {cS:Array Edge} {g:Option (Nat×Bool)}
variable {T:TypeId} {sz bu:Nat} {z:List Value} {ag:Bool}
theorem aiu(hC:∀main T,C main T→Closed P main T){a:Option Addr}{l c:Nat}(ho:ops[i]?=some ⟨dst,.binOp .eql T x y T',ty,pos,cS,g⟩) (hw:aw ops n env g=true) (tf:TF P T (.slice E) sz bu z ag)
 (hx:ba n env x=some (.slice a l c)) (hy:ba n env y=some (.slice none 0 0)) (h:ab C fn ay ops rest Q (A n (upd dst (.bool a.isNone) env) D) s):ab C fn ay ops (i::rest) Q (A n env D) s:=by
 refine bJ hC ho hw (by simp) ?_
 have hg:eqGuard .eql T x y (.slice a l c) (.slice none 0 0)=Sem.pure ():=by cases a<;>rfl
 have hb:binOp .eql T (.slice a l c) (.slice none 0 0)=(Op.equal T (.slice a l c) (.slice none 0 0) >>= fun r=>pure (.bool r)):=by cases a<;>rfl
 have he:∀ {α:Type} (K:Bool→Sem α) (Q:α→St→Prop) (E:Halt→St→Prop),bG P (K a.isNone) s Q E→bG P (Op.equal T (.slice a l c) (.slice none 0 0) >>= K) s Q E:=by
  intro α K Q E hK
  have gen:∀d,bG P (Op.equalIn (d+1) T (.slice a l c) (.slice none 0 0) >>= K) s Q E:=by
   intro d
   cases a<;>(simp only[Op.equalIn,aa,aW tf,ae,Option.isNone];exact hK)
  exact gen 9999
 simp only[execOp,aC hx,aC hy,hg,hb]
 show bG P ((Op.equal T (.slice a l c) (.slice none 0 0) >>= fun r=>(pure (Value.bool r):Sem Value)) >>= fun x=>(pure (Next.value x):Sem Next)) s _ _
 simp only[aa]
 refine he _ _ _ ?_
 rw[←aU] at h
 exact h
end rules
def aaM:Op→Option (List Operand)
 | .move x=>some [x]
 | .assign x=>some [x]
 | .extract x _=>some [x]
 | .nilCheck x=>some [x]
 | .fieldAddr _ x _=>some [x]
 | .makeInterface _ x=>some [x]
 | .indexAddr _ x y=>some [x,y]
 |op=>EX op
theorem Nk{xs:List Operand}(h:aaM o.op=some xs){f g:Operand→Value}(hfg:∀x∈xs,f x=g x):execOp f o=execOp g o:=by
 unfold aaM at h
 split at h
 all_goals first
  | (rename_i heq;simp only[Option.some.injEq] at h;subst h;simp[execOp,heq,hfg];done)
  |exact tt h hfg
def evj(n:Nat)(e:Env)(x:Operand):Value:=(ba n e x).getD undef
theorem Lc{f:Operand→Value}(hf:Ev n e f):∀ {xs:List Operand} {vs:List Value},xq n e xs=some vs→∀x∈xs,f x=evj n e x
 |y::l,vs,h,x,hx=>by
  simp only[xq] at h
  cases hv:ba n e y with
  |none=>rw[hv] at h;cases h
  |some v=>
   rw[hv] at h
   cases hr:xq n e l with
   |none=>rw[hr] at h;cases h
   |some r=>
    rcases List.mem_cons.1 hx with rfl|hx
    ·rw[hf _ _ hv,evj,hv];rfl
    ·exact Lc hf hr x hx
def aom(P:Program)(n:Nat)(e:Env)(o:Oper):Option Value:=
 match aaM o.op with
 |some xs=>match xq n e xs with
  |some _=>match bk P (execOp (evj n e) o) with
   |some (.value v)=>some v
   |_=>none
  |none=>none
 |none=>none
def axZ(P:Program)(n:Nat)(e:Env)(x:Operand)(T:TypeId):Option Value:=
 match aV P T with
 |some ⟨.slice _,_,_,_⟩=>match ba n e x with
  |some (.slice _ len _)=>some (.int .i64 len)
  |_=>none
 |some ⟨.string,_,_,_⟩=>match ba n e x with
  |some (.string b)=>some (.int .i64 b.size)
  |_=>none
 |_=>none
def S7(P:Program)(n:Nat)(e:Env)(T:TypeId)(ps:Array (Nat×Operand)):Option Value:=
 match aV P T with
 |some ⟨.struct fields,_,z,_⟩=>match wB P fields.toList with
  |some pl=>match Mo n e ps.toList with
   |some pv=>match nY (fun i=>pl[i]?) z (tw pv) with
    |some l=>some (.agg ⟨l⟩)
    |none=>none
   |none=>none
  |none=>none
 |some ⟨.array _ E,_,z,_⟩=>match aV P E with
  |some te=>match Mo n e ps.toList with
   |some pv=>match nY (fun i=>some (i*te.size,te.size)) z (tw pv) with
    |some l=>some (.agg ⟨l⟩)
    |none=>none
   |none=>none
  |none=>none
 |_=>none
def ZA(P:Program)(n:Nat)(e:Env)(o:Oper):Option Value:=
 match o.op with
 | .pick c x y=>match ba n e c with
  |some (.bool true)=>ba n e x
  |some (.bool false)=>ba n e y
  |_=>none
 | .makeFunc f x y=>match xq n e x.toList with
  |some x'=>match xq n e y.toList with
   |some y'=>some (.func f ⟨x'⟩ ⟨y'⟩)
   |none=>none
  |none=>none
 | .build T ps=>S7 P n e T ps
 | .call ⟨.builtin .len,⟨[x]⟩,⟨[T]⟩⟩=>axZ P n e x T
 |_=>aom P n e o
section val
variable {P:Program} {n:Nat} {e:Env} {o:Oper} {s:St} {v:Value}
theorem ah0(h:aom P n e o=some v):Yields P n e o s v:=by
 unfold aom at h
 split at h<;>try (cases h;done)
 rename_i xs hx
 split at h<;>try (cases h;done)
 rename_i vs Dg
 split at h<;>try (cases h;done)
 rename_i w hr
 cases h
 intro s' _ f hf K E hK
 rw[Nk hx (Lc hf Dg)]
 exact nM hr hK
theorem Yn{ps:Array (Nat×Operand)}(heq:o.op= .build T ps)(h:S7 P n e T ps=some v):Yields P n e o s v:=by
 unfold S7 at h
 split at h<;>try (cases h;done)
 ·rename_i fields _ z _ dI
  obtain⟨bu,tf⟩:=ar dI
  split at h<;>try (cases h;done)
  rename_i pl PY
  split at h<;>try (cases h;done)
  rename_i pv HD
  split at h<;>try (cases h;done)
  rename_i l hl
  cases h
  intro s' mG f hf K E hK
  simp only[execOp,heq,Instr.build,aa,jK tf,aW tf,dR tf]
  rw[Array.mapM_eq_mapM_toList]
  simp only[map_eq_pure_bind,aa,ae]
  rw[nB (xZ PY)]
  rw[jZ] at hl
  have h1:=fill_eq _ _ _ _ hl
  have h3:(fun x=>(pl.toArray)[x]?:Nat→Option (Nat×Nat))=fun i=>pl[i]?:=by funext i;simp
  simp only[h3,hf.u3 HD,h1,ae]
  exact hK
 ·rename_i len E _ z _ dI
  obtain⟨bu,tf⟩:=ar dI
  split at h<;>try (cases h;done)
  rename_i te tJ
  obtain⟨Av,qo⟩:=ar tJ
  split at h<;>try (cases h;done)
  rename_i pv HD
  split at h<;>try (cases h;done)
  rename_i l hl
  cases h
  intro s' mG f hf K E hK
  simp only[execOp,heq,Instr.build,aa,jK tf,aW tf,dR tf,bW qo]
  rw[jZ] at hl
  have h1:=fill_eq _ _ _ _ hl
  simp only[hf.u3 HD,h1,ae]
  exact hK
theorem yW(h:ZA P n e o=some v):Yields P n e o s v:=by
 unfold ZA at h
 split at h
 ·rename_i c x y heq
  split at h<;>try (cases h;done)
  ·rename_i hc
   intro s' _ f hf K E hK
   simp only[execOp,heq,hf _ _ hc,hf _ _ h]
   exact hK
  ·rename_i hc
   intro s' _ f hf K E hK
   simp only[execOp,heq,hf _ _ hc,hf _ _ h]
   exact hK
 ·rename_i g x y heq
  split at h<;>try (cases h;done)
  rename_i x' hx
  split at h<;>try (cases h;done)
  rename_i y' hy
  cases h
  intro s' _ f hf K E hK
  simp only[execOp,heq,hf.arr hx,hf.arr hy]
  exact hK
 ·rename_i T ps heq;exact Yn heq h
 ·rename_i x T heq
  unfold axZ at h
  split at h<;>try (cases h;done)
  ·rename_i dI
   obtain⟨bu,tf⟩:=ar dI
   split at h<;>try (cases h;done)
   rename_i hx
   cases h
   intro s' _ f hf K E hK
   simp only[execOp,heq,resolve,invoke,builtin,Builtin.len_,List.map_toArray,List.map_cons,List.map_nil,hf _ _ hx,ae,List.getElem?_toArray,List.getElem?_cons_zero,aW tf,aa]
   exact hK
  ·rename_i dI
   obtain⟨bu,tf⟩:=ar dI
   split at h<;>try (cases h;done)
   rename_i hx
   cases h
   intro s' _ f hf K E hK
   simp only[execOp,heq,resolve,invoke,builtin,Builtin.len_,List.map_toArray,List.map_cons,List.map_nil,hf _ _ hx,ae,List.getElem?_toArray,List.getElem?_cons_zero,aW tf,aa]
   exact hK
 ·exact ah0 h
end val
def ldv(P:Program)(T:TypeId)(l:List Value)(off:Nat):Option Value:=
 match aV P T with
 |some ti=>bif ti.agg then (match sub l off ti.size with
  |some vs=>some (.agg ⟨vs⟩)
  |none=>none) else nth l off
 |none=>none
theorem abN{v:Value}{b:Nat}{t:TypeId}(heq:o.op= .load T x)(hx:ba n e x=some (.pointer (some ⟨b,off,none⟩)))(hb:s.has b (.cells ⟨l⟩ t fz))(h:ldv P T l off=some v):Yields P n e o s v:=by
 unfold ldv at h
 split at h<;>try (cases h;done)
 rename_i ti dI
 obtain⟨bu,tf⟩:=ar dI
 intro s' hs f hf K E hK
 cases ha:ti.agg with
 |true=>
  rw[ha] at h tf
  simp only[cond_true] at h
  split at h<;>try (cases h;done)
  rename_i vs Dg
  cases h
  simp only[execOp,heq,Instr.loadAt,hf _ _ hx,Instr.sureAddr,loadVar,aa,ae,jW tf,if_true,bW tf]
  exact iu ⟨_,_,_,hs _ _ hb,Dg⟩ hK
 |false=>
  rw[ha] at h tf
  simp only[cond_false] at h
  simp only[execOp,heq,Instr.loadAt,hf _ _ hx,Instr.sureAddr,loadVar,aa,ae,jW tf,Bool.false_eq_true,if_false]
  exact uU ⟨_,_,_,hs _ _ hb,h⟩ hK
theorem apw{v:Value}{b m:Nat}(k:Nat)(heq:o.op= .load T x)(hx:ba n e x=some (.pointer (some ⟨b,off+k,none⟩)))(hb:cg s b off m l)(h:ldv P T l k=some v):Yields P n e o s v:=by
 unfold ldv at h
 split at h<;>try (cases h;done)
 rename_i ti dI
 obtain⟨bu,tf⟩:=ar dI
 intro s' hs f hf K E hK
 cases ha:ti.agg with
 |true=>
  rw[ha] at h tf
  simp only[cond_true] at h
  split at h<;>try (cases h;done)
  rename_i vs Dg
  cases h
  simp only[execOp,heq,Instr.loadAt,hf _ _ hx,Instr.sureAddr,loadVar,aa,ae,jW tf,if_true,bW tf]
  exact iu ((hb.ext hs).part k ti.size Dg) hK
 |false=>
  rw[ha] at h tf
  simp only[cond_false] at h
  simp only[execOp,heq,Instr.loadAt,hf _ _ hx,Instr.sureAddr,loadVar,aa,ae,jW tf,Bool.false_eq_true,if_false]
  exact uU ((hb.ext hs).cell k v (by rw[←rj];exact h)) hK
structure Cx where
 P:Program
 C:Class
 hC:∀main T,C main T→Closed P main T
 hm:P.follows .mixedOrders=true
 fn:FuncId
 ay:Option Nat
 n:Nat
 D:List Deferred
 ro:Nat→Option Obj
 Q:Post
def Cx.at(X:Cx)(ro:Nat→Option Obj):Cx:={X with ro:=ro}
inductive KI where
 |seq (b:Code)
 |block (id:Nat)
 |next (K:Act→St→Prop)
inductive Sg where
 |b (i:Nat) (o:Obj)
 |l (L:Cells)
def den:List Sg→Cells
 | []=>[]
 | [.l L]=>L
 | .b i o::r=>(i,o)::den r
 | .l L::r=>L++den r
theorem ib(i:Nat)(o:Obj)(r:List Sg):den (.b i o::r)=(i,o)::den r:=by cases r<;>rfl
theorem fY(L:Cells)(r:List Sg):den (.l L::r)=L++den r:=by cases r<;>simp[den]
inductive Pos where
 |ops (ops:Array Oper) (todo:List Nat) (k:List KI)
 |code (c:Code) (k:List KI)
 |nxt (K:Act→St→Prop)
 |Gr (ops:Array Oper) (base:Env) (Pl Sl:List (Nat×Value)) (k:List KI)
 |fin (e:Exit)
structure Kn where
 c:Cells
 nd:List (Nat×Cells)
variable {kn:Kn}
structure JS where
 pos:Pos
 env:Env
 rw:List Sg
 kn:Kn
variable {s':JS}
def KQ(X:Cx):List KI→Post
 | []=>X.Q
 | .seq b::k=>lv (fun a s=>Wp X.C X.fn X.ay b (KQ X k) a s) (KQ X k)
 | .block id::k=>qh id (KQ X k)
 | .next K::k=>lv K (KQ X k)
def Cg:Op→Bool
 | .load .. =>false
 | .lookup .. =>false
 | .call ⟨.value _,_,_⟩=>false
 | .call ⟨.invoke ..,_,_⟩=>false
 |_=>true
def vx(ops:Array Oper)(n:Nat)(e:Env):Option (Nat×Bool)→Option Bool
 |none=>some true
 |some (j,want)=>match aO ops j with
  |some d=>match ba n e (.tmp d) with
   |some (.bool true)=>some want
   |some (.bool false)=>some (!want)
   |some (.tuple ⟨[]⟩)=>some false
   |_=>none
  |none=>none
def rZ(ops:Array Oper)(n:Nat)(base:Env)(Pl:List (Nat×Value))(j:Nat):Bool:=match ops[j]? with
 |some p=>Cg p.op||(match vx ops n (bY ops base j Pl) p.guard with
  |some false=>true
  |_=>false)
 |none=>false
def PF(X:Cx)(nd:List (Nat×Cells))(ops:Array Oper)(base:Env)(Pl Sl:List (Nat×Value)):Prop:=
 (∀j u,(j,u)∈Sl→rZ ops X.n base Pl j=true→∀s,eH X.C X.fn X.ay ops X.n X.D j u (bY ops base j Pl) s)∧
 ∀j u B,(j,u)∈Sl→(j,B)∈nd→∀s,Ext ⟨X.ro,[]⟩ s→(∀x∈B,s.has x.1 x.2)→eH X.C X.fn X.ay ops X.n X.D j u (bY ops base j Pl) s
def ndK:List (Nat×Cells)→List Nat
 | []=>[]
 | (i,_)::l=>i::ndK l
theorem Km{i:Nat}{B:Cells}:∀ {l:List (Nat×Cells)},(i,B)∈l→i∈ndK l
 | (j,C)::l,h=>by
  simp only[ndK]
  rcases List.mem_cons.1 h with h|h
  ·cases h;exact List.mem_cons_self
  ·exact List.mem_cons_of_mem _ (Km h)
def JP(X:Cx)(kn:Kn)(e:Env)(w:List Sg):Pos→Prop
 | .ops ops todo k=>ab X.C X.fn X.ay ops todo (KQ X k) (A X.n e X.D) ⟨X.ro,den w⟩
 | .code c k=>Wp X.C X.fn X.ay c (KQ X k) (A X.n e X.D) ⟨X.ro,den w⟩
 | .nxt K=>K (A X.n e X.D) ⟨X.ro,den w⟩
 | .Gr ops base Pl Sl k=>PF X kn.nd ops base Pl Sl→sP X.C X.fn X.ay ops X.n X.D base Pl Sl (KQ X k) ⟨X.ro,den w⟩
 | .fin e'=>X.Q e' (A X.n e X.D) ⟨X.ro,den w⟩
def J(X:Cx):Option JS→Prop
 |none=>False
 |some s=>Knows X.ro s.kn.c→JP X s.kn s.env s.rw s.pos
def Nm:List KI→Pos
 | []=> .fin .normal
 | .seq b::k=> .code b k
 | .block _::k=>Nm k
 | .next K::_=> .nxt K
theorem tv{X:Cx}{w:List Sg}:∀ {k:List KI},JP X kn e w (Nm k)→KQ X k .normal (A X.n e X.D) ⟨X.ro,den w⟩
 | [],h=>h
 | .seq _::_,h=>h
 | .block _::k,h=>tv (k:=k) h
 | .next _::_,h=>h
def Ah(id:Nat):List KI→Option Pos
 | []=>some (.fin (.exit id))
 | .seq _::k=>Ah id k
 | .block i::k=>bif Nat.beq id i then some (Nm k) else Ah id k
 | .next _::k=>Ah id k
theorem vI{X:Cx}{w:List Sg}{id:Nat}{p:Pos}:∀ {k:List KI},Ah id k=some p→JP X kn e w p→KQ X k (.exit id) (A X.n e X.D) ⟨X.ro,den w⟩
 | [],h,hj=>by simp only[Ah,Option.some.injEq] at h;subst h;exact hj
 | .seq _::k,h,hj=>vI (k:=k) h hj
 | .next _::k,h,hj=>vI (k:=k) h hj
 | .block i::k,h,hj=>by
  simp only[Ah] at h
  cases hb:Nat.beq id i with
  |true=>
   rw[hb] at h;simp only[cond_true,Option.some.injEq] at h;subst h
   have:=Nat.eq_of_beq_eq_true hb;subst this
   exact CG (tv hj)
  |false=>
   rw[hb] at h;simp only[cond_false] at h
   exact CE hb (vI (k:=k) h hj)
theorem za{X:Cx}{a:Act}(h:X.Q .ret a s):∀(k:List KI),KQ X k .ret a s
 | []=>h
 | .seq _::k=>za h k
 | .next _::k=>za h k
 | .block _::k=>za h k
def awf:Op→Bool
 | .move _| .assign _| .pick .. | .makeFunc .. | .extract .. | .nilCheck _| .fieldAddr .. | .makeInterface .. | .indexAddr .. | .index .. | .field .. | .binOp .. | .unOp .. | .convert .. | .build .. | .load .. | .lookup .. | .slice .. =>true
 | .call ⟨.builtin .len,_,_⟩| .call ⟨.builtin .cap,_,_⟩| .call ⟨.builtin .min,_,_⟩| .call ⟨.builtin .max,_,_⟩=>true
 |_=>false
def awg(ops:Array Oper)(i:Nat):Bool:=match ops[i]? with
 |some o=>awf o.op
 |none=>false
def enabled(ops:Array Oper)(ks:List Nat)(i:Nat):Bool:= !aX i ks&&fy (bh ops i) ks
def ae3(f:Nat→Bool):Nat→Nat→Option Nat
 |0,_=>none
 |k+1,i=>bif f i then some i else ae3 f k (i+1)
def akC(ops:Array Oper)(ks:List Nat):Option Nat:=
 match ae3 (fun i=>enabled ops ks i&&awg ops i) ops.size 0 with
 |some i=>some i
 |none=>ae3 (enabled ops ks) ops.size 0
def pZ(n:Nat):JS→Option (Bool×Oper×Env)
 | ⟨.ops ops (i::_) _,e,_,_⟩=>match ops[i]? with
  |some o=>match vx ops n e o.guard with
   |some g=>some (g,o,e)
   |none=>none
  |none=>none
 | ⟨.Gr ops base Pl _ _,_,_,_⟩=>match akC ops (ai Pl) with
  |some i=>match ops[i]? with
   |some o=>match vx ops n (bY ops base i Pl) o.guard with
    |some g=>some (g,o,bY ops base i Pl)
    |none=>none
   |none=>none
  |none=>none
 |_=>none
def EV(v:Value):JS→Option JS
 | ⟨.ops ops (i::todo) k,e,w,kn⟩=>match ops[i]? with
  |some o=>some ⟨.ops ops todo k,upd o.dst v e,w,kn⟩
  |none=>none
 | ⟨.Gr ops base Pl Sl k,e,w,kn⟩=>match akC ops (ai Pl) with
  |some i=>bif !aX i (ai Pl)&&(fy (bh ops i) (ai Pl)&&(oy ops (ai Pl)&&(fy (ai Sl) (ai Pl)&& !aX i (ndK kn.nd)))) then some ⟨.Gr ops base ((i,v)::Pl) ((i,v)::Sl) k,e,w,kn⟩ else none
  |none=>none
 |_=>none
theorem ng{ops:Array Oper}{g:Option (Nat×Bool)}(h:vx ops n e g=some true)(rest:Env):aw ops n (e++rest) g=true:=by
 unfold vx at h
 split at h
 ·rfl
 ·rename_i j want
  split at h<;>try (cases h;done)
  rename_i d hd
  have hd:(ops[j]?).bind (·.dst)=some d:=hd
  split at h<;>try (cases h;done)
  ·rename_i hb;simp only[Option.some.injEq] at h;subst h
   exact sX hd (aY hb) rfl
  ·rename_i hb;simp only[Option.some.injEq,Bool.not_eq_true'] at h;subst h
   exact sX hd (aY hb) rfl
section
variable {X:Cx}
theorem yw{ops:Array Oper}{i:Nat}{Q:Post}(ho:ops[i]?=some o) (h:vx ops X.n e o.guard=some false) (rest:Env) (hk:ab X.C X.fn X.ay ops todo Q (A X.n (upd o.dst undef (e++rest)) X.D) s):ab X.C X.fn X.ay ops (i::todo) Q (A X.n (e++rest) X.D) s:=by
 unfold vx at h
 split at h
 ·cases h
 ·rename_i j want hg
  split at h<;>try (cases h;done)
  rename_i d hd
  have hd:(ops[j]?).bind (·.dst)=some d:=hd
  split at h<;>try (cases h;done)
  ·rename_i hb;simp only[Option.some.injEq] at h;subst h
   exact tC X.hC ho hg hd (aY hb) rfl hk
  ·rename_i hb;simp only[Option.some.injEq,Bool.not_eq_false'] at h;subst h
   exact tC X.hC ho hg hd (aY hb) rfl hk
  ·rename_i hb
   rcases o with ⟨dst,op,ty,pos,cS,g⟩
   dsimp only at hg;subst hg
   exact aiv X.hC ho hd (aY hb) hk
def GW(X:Cx)(e:Env)(o:Oper)(s:St)(v:Value):Prop:=
 ∀(ops:Array Oper) (i:Nat),ops[i]?=some o→∀rest,aw ops X.n (e++rest) o.guard=true→∀s',Ext s s'→∀todo Q,ab X.C X.fn X.ay ops todo Q (A X.n (upd o.dst v (e++rest)) X.D) s'→ab X.C X.fn X.ay ops (i::todo) Q (A X.n (e++rest) X.D) s'
theorem jyS{s:JS}{g:Bool}{v:Value}(hh:pZ X.n s=some (g,o,e))(hp:EV v s=some s')
 (hv:match g with|true=>(Knows X.ro s.kn.c→GW X e o ⟨X.ro,den s.rw⟩ v)∧(Cg o.op=true→∀s,GW X e o s v)|false=>v=undef)(hj:J X (some s')):J X (some s):=by
 intro bP
 rcases s with ⟨p,e0,w,kn⟩
 cases p with
 |ops ops todo k=>
  cases todo with
  |nil=>cases hh
  |cons i todo=>
   simp only[pZ] at hh
   split at hh<;>try (cases hh;done)
   rename_i o1 ho
   split at hh<;>try (cases hh;done)
   rename_i g1 hg
   cases hh
   simp only[EV,ho,Option.some.injEq] at hp;subst hp
   have hk:ab X.C X.fn X.ay ops todo (KQ X k) (A X.n (upd o.dst v e) X.D) ⟨X.ro,den w⟩:=hj bP
   show ab X.C X.fn X.ay ops (i::todo) (KQ X k) (A X.n e X.D) ⟨X.ro,den w⟩
   cases g with
   |true=>
    have:=hv.1 bP ops i ho [] (ng hg []) _ (Ext.refl _) todo (KQ X k)
    rw[List.append_nil] at this
    exact this hk
   |false=>
    dsimp only at hv;subst hv
    have:=yw (Q:=KQ X k) (s:=⟨X.ro,den w⟩) (todo:=todo) ho hg []
    rw[List.append_nil] at this
    exact this hk
 |Gr ops base Pl Sl k=>
  simp only[pZ] at hh
  split at hh<;>try (cases hh;done)
  rename_i i hi
  split at hh<;>try (cases hh;done)
  rename_i o1 ho
  split at hh<;>try (cases hh;done)
  rename_i g1 hg
  cases hh
  simp only[EV,hi] at hp
  cases hc:(!aX i (ai Pl)&&(fy (bh ops i) (ai Pl)&&(oy ops (ai Pl)&&(fy (ai Sl) (ai Pl)&& !aX i (ndK kn.nd))))) with
  |false=>rw[hc] at hp;cases hp
  |true=>
   rw[hc] at hp;simp only[cond_true,Option.some.injEq] at hp;subst hp
   simp only[Bool.and_eq_true,Bool.not_eq_true'] at hc
   have Dl:aO ops i=o.dst:=by simp only[aO,ho,Option.bind_some]
   intro hpf
   have qm:∀j,j∈ai Sl→i∉bh ops j:=fun j hj hd=>by
    have h1:=bE.1 hc.2.2.2.1 j hj
    have h2:=bE.1 (List.all_eq_true.1 hc.2.2.1 j h1) i hd
    rw[aG.2 h2] at hc;exact absurd hc.1 (by simp)
   refine GU i hc.1 hc.2.1 hc.2.2.1 hc.2.2.2.1 ?_ (hj bP ⟨fun j u G8 hp s0=>?_,fun j u B G8 hB s0 FE uB=>?_⟩)
   ·intro s1 hx rest todo Q hk
    rw[Dl] at hk
    cases g with
    |true=>exact hv.1 bP ops _ ho rest (ng hg rest) _ hx _ _ hk
    |false=>dsimp only at hv;subst hv;exact yw ho hg rest hk
   ·have hii:i∉bh ops i:=fun hd=>by
     have h2:=bE.1 hc.2.1 i hd
     rw[aG.2 h2] at hc;exact absurd hc.1 (by simp)
    rcases List.mem_cons.1 G8 with h1|h1
    ·obtain⟨yM,rfl⟩:=Prod.mk.inj h1
     subst yM
     rw[cK hii]
     intro s1 hx rest todo Q hk
     rw[Dl] at hk
     cases g with
     |true=>
      have hpk:Cg o.op=true:=by
       simp only[rZ,ho,cK hii,hg,Bool.or_false] at hp
       exact hp
      exact hv.2 hpk s0 ops _ ho rest (ng hg rest) _ hx _ _ hk
     |false=>dsimp only at hv;subst hv;exact yw ho hg rest hk
    ·have Mn:j∈ai Sl:=aM.2 ⟨u,h1⟩
     rw[cK (qm j Mn)]
     exact hpf.1 j u h1 (by simp only[rZ,cK (qm j Mn)] at hp;exact hp) s0
   ·rcases List.mem_cons.1 G8 with h1|h1
    ·obtain⟨yM,rfl⟩:=Prod.mk.inj h1
     subst yM
     have:=Km hB
     rw[aG.2 this] at hc;exact absurd hc.2.2.2.2 (by simp)
    ·rw[cK (qm j (aM.2 ⟨u,h1⟩))]
     exact hpf.2 j u B h1 hB s0 FE uB
 |_=>cases hh
def aik(B:Cells)(v:Value):JS→Option JS
 | ⟨.ops ops (i::todo) k,e,w,kn⟩=>match ops[i]? with
  |some o=>some ⟨.ops ops todo k,upd o.dst v e,w,kn⟩
  |none=>none
 | ⟨.Gr ops base Pl Sl k,e,w,kn⟩=>match akC ops (ai Pl) with
  |some i=>bif !aX i (ai Pl)&&(fy (bh ops i) (ai Pl)&&(oy ops (ai Pl)&&(fy (ai Sl) (ai Pl)&& !aX i (ndK kn.nd)))) then some ⟨.Gr ops base ((i,v)::Pl) ((i,v)::Sl) k,e,w,⟨kn.c,(i,B)::kn.nd⟩⟩ else none
  |none=>none
 |_=>none
theorem jyN{s:JS}{v:Value}{B:Cells}(hh:pZ X.n s=some (true,o,e))(hp:aik B v s=some s')(hB:∀x∈B,(⟨X.ro,den s.rw⟩:St).has x.1 x.2)(hnp:Cg o.op=false)
 (hv:∀s0,Ext ⟨X.ro,[]⟩ s0→(∀x∈B,s0.has x.1 x.2)→GW X e o s0 v)(hj:J X (some s')):J X (some s):=by
 intro bP
 rcases s with ⟨p,e0,w,kn⟩
 cases p with
 |ops ops todo k=>
  have:EV v ⟨.ops ops todo k,e0,w,kn⟩=some s':=by
   cases todo with
   |nil=>cases hh
   |cons i todo=>exact hp
  exact jyS hh this ⟨fun _=>hv _ K0 hB,fun h=>by rw[hnp] at h;cases h⟩ hj bP
 |Gr ops base Pl Sl k=>
  simp only[pZ] at hh
  split at hh<;>try (cases hh;done)
  rename_i i hi
  split at hh<;>try (cases hh;done)
  rename_i o1 ho
  split at hh<;>try (cases hh;done)
  rename_i g1 hg
  cases hh
  simp only[aik,hi] at hp
  cases hc:(!aX i (ai Pl)&&(fy (bh ops i) (ai Pl)&&(oy ops (ai Pl)&&(fy (ai Sl) (ai Pl)&& !aX i (ndK kn.nd))))) with
  |false=>rw[hc] at hp;cases hp
  |true=>
   rw[hc] at hp;simp only[cond_true,Option.some.injEq] at hp;subst hp
   simp only[Bool.and_eq_true,Bool.not_eq_true'] at hc
   have Dl:aO ops i=o.dst:=by simp only[aO,ho,Option.bind_some]
   intro hpf
   have qm:∀j,j∈ai Sl→i∉bh ops j:=fun j hj hd=>by
    have h1:=bE.1 hc.2.2.2.1 j hj
    have h2:=bE.1 (List.all_eq_true.1 hc.2.2.1 j h1) i hd
    rw[aG.2 h2] at hc;exact absurd hc.1 (by simp)
   have hii:i∉bh ops i:=fun hd=>by
    have h2:=bE.1 hc.2.1 i hd
    rw[aG.2 h2] at hc;exact absurd hc.1 (by simp)
   have bL:∀s0,Ext ⟨X.ro,[]⟩ s0→(∀x∈B,s0.has x.1 x.2)→eH X.C X.fn X.ay ops X.n X.D i v (bY ops base i Pl) s0:=by
    intro s0 FE uB s1 hx rest todo Q hk
    rw[Dl] at hk
    exact hv s0 FE uB ops _ ho rest (ng hg rest) _ hx _ _ hk
   have aN8:rZ ops X.n base ((i,v)::Pl) i=false:=by
    simp only[rZ,ho,hnp,cK hii,hg,Bool.or_false]
   refine GU i hc.1 hc.2.1 hc.2.2.1 hc.2.2.2.1 (bL _ K0 hB) (hj bP ⟨fun j u G8 hp s0=>?_,fun j u B' G8 hB' s0 FE uB=>?_⟩)
   ·rcases List.mem_cons.1 G8 with h1|h1
    ·obtain⟨yM,rfl⟩:=Prod.mk.inj h1
     subst yM
     rw[aN8] at hp;cases hp
    ·have Mn:j∈ai Sl:=aM.2 ⟨u,h1⟩
     rw[cK (qm j Mn)]
     exact hpf.1 j u h1 (by simp only[rZ,cK (qm j Mn)] at hp;exact hp) s0
   ·rcases List.mem_cons.1 G8 with h1|h1
    ·obtain⟨yM,rfl⟩:=Prod.mk.inj h1
     subst yM
     rw[cK hii]
     rcases List.mem_cons.1 hB' with h2|h2
     ·cases h2;exact bL s0 FE uB
     ·have:=Km h2
      rw[aG.2 this] at hc;exact absurd hc.2.2.2.2 (by simp)
    ·have Mn:j∈ai Sl:=aM.2 ⟨u,h1⟩
     rw[cK (qm j Mn)]
     rcases List.mem_cons.1 hB' with h2|h2
     ·obtain⟨yM,rfl⟩:=Prod.mk.inj h2
      subst yM
      have h3:=bE.1 hc.2.2.2.1 _ Mn
      rw[aG.2 h3] at hc;exact absurd hc.1 (by simp)
     ·exact hpf.2 j u B' h1 h2 s0 FE uB
 |_=>cases hh
theorem jy{s:JS}{g:Bool}{v:Value}(hh:pZ X.n s=some (g,o,e))(hp:EV v s=some s')
 (hv:match g with|true=>dZ o.op=true∧(Knows X.ro s.kn.c→Yields X.P X.n e o ⟨X.ro,den s.rw⟩ v)∧(Cg o.op=true→∀s,Yields X.P X.n e o s v)|false=>v=undef)(hj:J X (some s')):J X (some s):=by
 refine jyS hh hp ?_ hj
 cases g with
 |true=>exact⟨fun bP ops i ho rest hw s' hx todo Q hk=>lg X.hC ho rest hw hv.1 (hv.2.1 bP) hx hk,fun hp s ops i ho rest hw s' hx todo Q hk=>lg X.hC ho rest hw hv.1 (hv.2.2 hp s) hx hk⟩
 |false=>exact hv
end
end Go.L
