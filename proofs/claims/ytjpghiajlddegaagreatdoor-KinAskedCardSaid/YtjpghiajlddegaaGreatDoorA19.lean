/- Part 19 of the proof: a program logic, contracts, a theorem on goroutines. -/
import Derived.Test.YtjpghiajlddegaaGreatDoorA18
set_option maxRecDepth 100000
set_option linter.all false
namespace Go.L
open Go Go.Conc Go.Proofs
variable {ys xs:List Int} {K:aT} {l:List Value} {k n i:Nat} {x f y j b:Int} {α:Type}
def XS(S:List (List ah))(ways:List (List aQ))(w:List Int)(x:aI):List an:=match ways,w with
 |l::_,i::_=>(match l[i.toNat]? with
  |some c=>[yc S c ⟨x.st,x.no,0⟩]
  |none=>[])
 |_,_=>[⟨x.st,x.no,0⟩]
def WW(K:aT):List (List Int):=(cY K.str K.ways).map (·.ways)
theorem Uf{l:List aQ}{w:List Int}(h:K.ways=[l])(hw:w∈WW K):∃(i:Nat) (c:aQ),l[i]?=some c∧w=[(i:Int)]:=by
 simp only[WW,h,cY,List.map_map,List.mem_map,List.mem_range,Function.comp,apq] at hw
 obtain⟨i,hi,rfl⟩:=hw
 exact⟨i,l[i],List.getElem?_eq_getElem hi,rfl⟩
theorem lO.wp(h:lO K):xF K.ways:=⟨h.ways.1,fun l hl=>⟨⟨(h.ways.2 l hl).1.1,by have:=(h.ways.2 l hl).1.2;omega⟩,(h.ways.2 l hl).2⟩⟩
theorem Va(h:lO K):K.ways=[]∨∃l,K.ways=[l]:=by
 have:=h.ways.1
 match hw:K.ways,this with
 | [],_=>exact .inl rfl
 | [l],_=>exact .inr ⟨l,rfl⟩
theorem aal(h:lO K):Ue K (WW K):=by
 rcases Va h with e| ⟨l,e⟩
 ·exact⟨by simp[WW,e,cY],fun w hw=>by simp[WW,e,cY] at hw;simp[hw,e],fun w hw k l n hl=>by simp[e] at hl⟩
 have hl:=(h.ways.2 l (by simp[e])).1
 refine⟨by simp[WW,e,cY];omega,fun w hw=>?_,fun w hw k l' n hk hn=>?_⟩
 ·obtain⟨i,c,_,rfl⟩:=Uf e hw;simp[e]
 obtain⟨i,c,hi,rfl⟩:=Uf e hw
 rw[e] at hk
 obtain⟨rfl,rfl⟩:=Fh hk
 obtain⟨rfl,_⟩:=Fh hn
 have:=(List.getElem?_eq_some_iff.1 hi).1
 omega
theorem aaR{ro:Nat→Option Obj}(hK:gG ro l K)(hO:lO K):qm ro l (WW K):=by
 obtain⟨vS,vT,vc,vh,vr,vb,va,vf,fa,fc,hv,rfl,hS,hT,_⟩:=hK
 intro aE hs
 exact als (hS.up hs) hO.pO (hT.up hs) hO.wp
theorem XY{S:List (List ah)}{hd:List cw}{x:aI}(h:al9 S hd x):(⟨x.st,x.no,0⟩:an)∈bG S:=by
 obtain⟨l,h1,h2⟩:=h.2
 have:=F7 h1 h2
 simp only[mB] at this
 rwa[show ((x.st.toNat:Nat):Int)=x.st by have:=h.1.2.2.1;omega] at this
theorem alI{l:List aQ}{c:aQ}(h:l[i]?=some c):(l.take ((i:Int).toNat+1)).drop (i:Int).toNat=[c]:=by
 rw[Int.toNat_natCast,fu h,List.drop_append_of_le_length (by have:=(List.getElem?_eq_some_iff.1 h).1;rw[List.length_take];omega),List.drop_eq_nil_of_le (by rw[List.length_take];omega)];rfl
theorem aiD{ro:Nat→Option Obj}(hK:gG ro l K)(hO:lO K):wS ro l K (WW K) (XS K.str K.ways):=by
 obtain⟨vS,vT,vc,vh,vr,vb,va,vf,fa,fc,hv,rfl,hS,hT,_⟩:=hK
 intro w hw x hx
 have hy:=XY (hO.before.2 x hx)
 have fin:∀(t:TrD),xF (Ay K.ways w)→cY K.str (Ay K.ways w)=[t]→XS K.str K.ways w x=[t.g ⟨x.st,x.no,0⟩]→(XS K.str K.ways w x).length≤1000∧∀aE,Sub ro aE→∀v vS' vT' vU r,[vS,vT,.slice fa 0 fc,vc,vh,vr,vb,va,zI K.gone,zI K.new,zI K.ai,vf]=vS'::vT'::vU::r→nH aE v (Ay K.ways w)→
  eI zT 64 [.agg ⟨[vS',v,vU]⟩,.agg ⟨[zI x.st,zI x.no,zI 0]⟩] aE [] (fun r Y=>∃a n c,r= .tuple ⟨[.slice a n c,zI 0]⟩∧∀lR,Knows lR Y→bL lR (.slice a n c) 3 cI (XS K.str K.ways w x)):=by
  intro t h1 h2 h3
  rw[h3]
  refine⟨by simp,fun aE hs v vS' vT' vU r he hv=>?_⟩
  simp only[List.cons.injEq] at he
  obtain⟨rfl,_,rfl,_⟩:=he
  exact aul (hS.up hs) hO.pO hv h1 hy h2
 rcases Va hO with e| ⟨l,e⟩
 ·refine fin ⟨[],id⟩ ?_ ?_ ?_
  ·rw[e];exact⟨by simp[Ay],by simp[Ay]⟩
  ·rw[e];simp[Ay,cY]
  rw[e];rfl
 obtain⟨i,c,hi,rfl⟩:=Uf e hw
 have hc:Ay K.ways [(i:Int)]=[[c]]:=by rw[e];simp only[Ay,List.zipWith_cons_cons,List.zipWith_nil_right,alI hi]
 refine fin ⟨[0],yc K.str c⟩ ?_ ?_ ?_
 ·rw[hc]
  refine⟨by simp,fun l' hl=>?_⟩
  rw[List.mem_singleton] at hl;subst hl
  exact⟨by simp,fun c' sC=>by rw[List.mem_singleton] at sC;subst sC;exact(hO.ways.2 l (by simp[e])).2 _ (List.mem_of_getElem? hi)⟩
 ·rw[hc];rfl
 rw[e];simp only[XS,Int.toNat_natCast,hi]
def fE(K:aT):List bX:=(WW K).map (lu K (XS K.str K.ways))
theorem n5(h:lO K):(fE K).length≤2:=by
 rw[fE,List.length_map];exact(aal h).n.2
theorem yI{ro:Nat→Option Obj}(hK:gG ro l K)(hO:lO K)(hV:fU K):mM ro l K (fE K):=
 al0 hK hO hV (aal hO) (aaR hK hO) (aiD hK hO)
def aX(K:aT):Nat:=(ek K (cv K) (dC K.gone K.new K.ai) (fE K)).length
theorem Gz:∀(l:List Int) (a:Int),l.foldl min a≤a∧∀x∈l,l.foldl min a≤x
 | [],a=>⟨Int.le_refl _,fun _ h=>(by cases h)⟩
 |y::l,a=>by
  obtain⟨h1,h2⟩:=Gz l (min a y)
  refine⟨by simp only[List.foldl_cons];omega,fun x hx=>?_⟩
  rcases List.mem_cons.1 hx with rfl|hx
  ·simp only[List.foldl_cons];omega
  exact h2 x hx
theorem KY{l:List Int}(h:x∈l):uz l≤x:=by
 cases l with
 |nil=>cases h
 |cons y l=>
  rcases List.mem_cons.1 h with rfl|h
  ·exact(Gz l _).1
  exact(Gz l _).2 x h
theorem akg{ro:Nat→Option Obj}(hK:gG ro l K)(hO:lO K)(hV:fU K):Hm zT 44 [.agg ⟨l⟩] ro [] (fun r Y=>∃zs m e,zs.Perm (ek K (cv K) (fun _=>true) (fE K))∧Y=[]∧r= .tuple ⟨[zI m,zI e]⟩∧((zs=[]∧m=0∧e=9)∨(zs≠[]∧m=uz (zs.map EJ)∧e=0))):=
 fun fr=>Fn.mono (arq hK hV (n5 hO) (yI hK hO hV) fr) fun en s' ⟨v,Y,h1,h2,zs,h3,h4,h5⟩=>⟨v,Y,h1,h2,by
  rcases h5 with ⟨h5,h6⟩| ⟨h5,h6⟩
  ·exact⟨zs,0,9,h3,h4,h6,.inl ⟨h5,rfl,rfl⟩⟩
  exact⟨zs,_,0,h3,h4,h6,.inr ⟨h5,rfl,rfl⟩⟩⟩
theorem FH{ro:Nat→Option Obj}(hK:gG ro l K)(hO:lO K)(hV:fU K):Hm zT 11 [.agg ⟨l⟩] ro [] (fun r Y=>r= .tuple ⟨[zI (aX K:Int),zI 0]⟩∧Y=[]):=adf hK hV (n5 hO) (yI hK hO hV)
def YZ:List Int→List Int→Bool
 | [],[]=>true
 |x::l,y::m=>decide (x=y)&&YZ l m
 |_,_=>false
theorem agx:∀ {l m:List Int},¬l.length=m.length→YZ l m=false
 | [],[],h=>absurd rfl h
 | [],_::_,_=>rfl
 |_::_,[],_=>rfl
 |x::l,y::m,h=>by rw[YZ,agx (l:=l) (m:=m) (by simpa using h),Bool.and_false]
theorem agy(hx:xs[k]?=some x) (hy:ys[k]?=some y):YZ (xs.drop k) (ys.drop k)=(decide (x=y)&&YZ (xs.drop (k+1)) (ys.drop (k+1))):=by rw[fT hx,fT hy];rfl
theorem alB(hx:¬k <xs.length)(h:xs.length=ys.length):YZ (xs.drop k) (ys.drop k)=true:=by rw[eP hx,eP (by omega)];rfl
def Ik:List (List Int)→List (List Int)→Bool
 | [],[]=>true
 |x::l,y::m=>YZ x y&&Ik l m
 |_,_=>false
theorem Wt:∀ {l m:List (List Int)},¬l.length=m.length→Ik l m=false
 | [],[],h=>absurd rfl h
 | [],_::_,_=>rfl
 |_::_,[],_=>rfl
 |x::l,y::m,h=>by rw[Ik,Wt (l:=l) (m:=m) (by simpa using h),Bool.and_false]
theorem Wu{xs ys:List (List Int)}{x y:List Int}(hx:xs[k]?=some x) (hy:ys[k]?=some y):Ik (xs.drop k) (ys.drop k)=(YZ x y&&Ik (xs.drop (k+1)) (ys.drop (k+1))):=by rw[fT hx,fT hy];rfl
theorem agw{xs ys:List (List Int)}(hx:¬k <xs.length)(h:xs.length=ys.length):Ik (xs.drop k) (ys.drop k)=true:=by rw[eP hx,eP (by omega)];rfl
def xC:List Int→List Int→Int
 | [],[]=>0
 | [],_::_=> -1
 |_::_,[]=>1
 |x::xs,y::ys=>if qA x y=0 then xC xs ys else qA x y
theorem Qd(hx:xs[k]?=some x) (hy:ys[k]?=some y):xC (xs.drop k) (ys.drop k)=if qA x y=0 then xC (xs.drop (k+1)) (ys.drop (k+1)) else qA x y:=by rw[fT hx,fT hy];rfl
theorem Zb(hx:xs[k]?=some x) (hy:¬k <ys.length):xC (xs.drop k) (ys.drop k)=1:=by rw[fT hx,eP hy];rfl
theorem JO(hx:¬k <xs.length):xC (xs.drop k) (ys.drop k)=if k <ys.length then-1 else 0:=by
 rw[eP hx]
 split
 ·rename_i h
  rw[List.drop_eq_getElem_cons h];rfl
 rename_i h
 rw[eP h];rfl
def lV(f:Int):Nat→List Int
 |0=>[]
 |k+1=>lV f k++(bif hasB f k then [(k:Int)] else [])
theorem ajY(h:hasB f (k:Int)=true):lV f (k+1)=lV f k++[(k:Int)]:=by rw[lV,h];rfl
theorem ajZ(h:hasB f (k:Int)=false):lV f (k+1)=lV f k:=by rw[lV,h];exact List.append_nil _
theorem Ji(f:Int)(n:Nat):(lV f n).length≤n:=by
 induction n with
 |zero=>exact Nat.le_refl _
 |succ n ih=>rw[lV,List.length_append];cases hasB f (n:Int)<;>simp<;>omega
def xY(f:Int):Int:=([0,1,1,2,1,2,2,3,1,2,2,3,2,3,3,4]:List Int).getD f.toNat 0
theorem U5(h:0≤f∧f <16):0≤xY f∧xY f≤8:=by
 obtain⟨n,rfl⟩:=Int.eq_ofNat_of_zero_le h.1
 have h2:n <16:=by omega
 revert h2
 exact(by decide:∀n:Nat,n <16→0≤xY (n:Int)∧xY (n:Int)≤8) n
def Qb(x y:Int):Int:=if xY x-xY y=0 then xC (lV x 4) (lV y 4) else xY x-xY y
theorem aok{v w:Value}{ro:Nat→Option Obj}(hv:bL ro v 1 db xs)(hw:bL ro w 1 db ys)(hx:xs.length≤1000)(hy:ys.length≤1000):dL zT 13 [v,w] ro (.bool (YZ xs ys)):=by
 obtain⟨N8,qvb,qvo,C9,rfl,qvk,RR,RQ⟩:=hv
 obtain⟨RP,qwb,qwo,Kq,rfl,qwk,qwh,qwl⟩:=hw
 refine bI av [] [] bB<|zD 13<|js 10 (!decide ((xs.length:Int)=(ys.length:Int))) (fun h1=>?_) (fun h1=>?_)
 ·
  replace h1:=of_decide_eq_false (by simpa using h1)
  refine zD 6<|aJ q0 (.bool false) [] [] [] (Sub.refl _) ⟨_,_,rfl,rfl,by rw[agx (by omega)],rfl⟩
 replace h1:=of_decide_eq_true (by simpa using h1)
 refine zD 8<|eG [1,1,0,1,0,0] [] (fun(zz:Nat)=>[(0,.slice N8 xs.length C9),(1,.slice RP ys.length Kq),(5,zI (zz:Int))]) (fun(zz:Nat)=>[]) (fun(zz:Nat)=>zz≤xs.length∧YZ xs ys=YZ (xs.drop zz) (ys.drop zz)) (fun(zz:Nat)=>xs.length-zz) 0 ⟨by omega,rfl⟩ [] ?_
 rintro k hI K1 bU rest
 refine zD 8<|zJ 14 ((k:Int) <(xs.length:Int)) (fun h2=>?_) fun h2=>?_
 ·
  refine zD 8 ?_
  obtain⟨DT,xd⟩:=zG xs k
  refine iE C9 1 RR xd<|jl 0 (RQ _ _ xd)<|zD 2 ?_
  obtain⟨uI,su⟩:=zG ys k
  refine iE Kq 1 qwh su<|jl 0 (qwl _ _ su)<|zD 2<|js 25 (!decide (DT=uI)) (fun h3=>?_) (fun h3=>?_)
  ·
   replace h3:=of_decide_eq_false (by simpa using h3)
   refine zD 6<|aJ q0 (.bool false) [] [] [] (Sub.refl _) ⟨_,_,rfl,rfl,by rw[hI.2,agy xd su,decide_eq_false (by omega),Bool.false_and],rfl⟩
  replace h3:=of_decide_eq_true (by simpa using h3)
  refine zD 4<|ja ((k:Int)+1) (by omega)<|zD 2<|bO bU (k+1) ⟨by omega,by rw[hI.2,agy xd su,decide_eq_true (by omega),Bool.true_and]⟩ (by omega) [] (Sub.refl _)
 refine zD 7<|aJ q0 (.bool true) [] [] [] (Sub.refl _) ⟨_,_,rfl,rfl,by rw[hI.2,alB (by omega) (by omega)],rfl⟩
theorem aNQ{v w:Value}{ro:Nat→Option Obj}(hv:bL ro v 1 db xs)(hw:bL ro w 1 db ys)(hx:xs.length≤1000)(hy:ys.length≤1000):dL zT 71 [v,w] ro (zI (xC xs ys)):=by
 obtain⟨N8,qvb,qvo,C9,rfl,qvk,RR,RQ⟩:=hv
 obtain⟨RP,qwb,qwo,Kq,rfl,qwk,qwh,qwl⟩:=hw
 refine bI av [] [] bB<|zD 12<|eG [1,0,1,0,0] [] (fun(zz:Nat)=>[(0,.slice N8 xs.length C9),(1,.slice RP ys.length Kq),(9,.slice N8 xs.length C9),(10,zI (xs.length:Int)),(11,zI (zz:Int))]) (fun(zz:Nat)=>[]) (fun(zz:Nat)=>(zz≤xs.length∧zz≤ys.length)∧xC xs ys=xC (xs.drop zz) (ys.drop zz)) (fun(zz:Nat)=>xs.length-zz) 0 ⟨by omega,rfl⟩ [] ?_
 rintro k hI K1 bU rest
 refine zD 5<|zJ 12 ((k:Int) <(xs.length:Int)) (fun h1=>?_) fun h1=>?_
 ·
  refine zD 7 ?_
  obtain⟨fK,eN⟩:=zG xs k
  refine iE C9 1 RR eN<|jl 0 (RQ _ _ eN)<|zD 11<|zJ 19 ((k:Int)≥(ys.length:Int)) (fun h2=>?_) fun h2=>?_
  ·
   refine zD 6<|aJ q0 (zI 1) [] [] [] (Sub.refl _) ⟨_,_,rfl,rfl,by rw[hI.2,Zb eN (by omega)],rfl⟩
  refine zD 6 ?_
  obtain⟨rF,tG⟩:=zG ys k
  refine iE Kq 1 qwh tG<|jl 0 (qwl _ _ tG)<|zD 6<|jp (vs:=[zI fK,zI rF]) [] [] (fun aE hs hZ=>aur)<|zD 7<|js 28 (!decide ((qA fK rF)=0)) (fun h3=>?_) (fun h3=>?_)
  ·
   replace h3:=of_decide_eq_false (by simpa using h3)
   refine zD 7<|aJ q0 (zI (qA fK rF)) [] [] [] (Sub.refl _) ⟨_,_,rfl,rfl,by rw[hI.2,Qd eN tG,if_neg (by omega)],rfl⟩
  replace h3:=of_decide_eq_true (by simpa using h3)
  refine zD 3<|ja ((k:Int)+1) (by omega)<|zD 2<|bO bU (k+1) ⟨by omega,by rw[hI.2,Qd eN tG,if_pos (by omega)]⟩ (by omega) [] (Sub.refl _)
 refine zD 11<|zJ 35 ((xs.length:Int) <(ys.length:Int)) (fun h4=>?_) fun h4=>?_
 ·
  refine zD 6<|aJ q0 (zI (-1)) [] [] [] (Sub.refl _) ⟨_,_,rfl,rfl,by rw[hI.2,JO (by omega),if_pos (by omega)],rfl⟩
 refine zD 7<|aJ q0 (zI 0) [] [] [] (Sub.refl _) ⟨_,_,rfl,rfl,by rw[hI.2,JO (by omega),if_neg (by omega)],rfl⟩
theorem agh{ro:Nat→Option Obj}:eI zT 38 [.int .u8 f] ro [] (fun r Y=>∃L,aD r 1 3 db (lV f 4) L∧Y=L):=by
 refine bI av [] [] bB<|zD 14<|oU<|eG [1,1,0,1,0,0] [] (fun(zz:Nat×Value×Cells)=>[(0,.int .u8 f),(2,zS),(3,zz.2.1),(5,zI (zz.1:Int))]) (fun(zz:Nat×Value×Cells)=>[.l zz.2.2]) (fun(zz:Nat×Value×Cells)=>zz.1≤4∧aD zz.2.1 1 3 db (lV f zz.1) zz.2.2) (fun(zz:Nat×Value×Cells)=>4-zz.1) (⟨0,zS,[]⟩) ⟨by dsimp only;omega,aD.nil _ _ _⟩ [0] ?_
 rintro⟨k,v,L⟩ hI K1 bU rest
 dsimp only at hI
 have hll:=Ji f k
 refine zD 5<|zJ 6 ((k:Int) <4) (fun h1=>?_) fun h1=>?_
 ·
  refine zD 13<|jp (vs:=[.int .u8 f,zI (k:Int)]) [] [] (fun aE hs hZ=>(arv (by omega)))<|zD 1<|js 10 (hasB f (k:Int)) (fun h2=>?_) (fun h2=>?_)
  ·
   refine zD 4<|jn fun yW=>jk (sz:=1) (ps:=(lV f k)) (qs:=[(k:Int)]) (enc:=db) (w:= .slice (some ⟨yW,0,none⟩) 1 1) [1] [0] [(yW,.cells ⟨([(k:Int)].map db).flatten⟩ 3 (0,0))] (hI.2) (fun s _ hZ=>cg [(k:Int)] (hZ _ (.head _)) (by intro p hp;rfl)) (fun p _=>aj rfl) (by simp<;>omega) (fun v14 L14 tJ=>?_)
   obtain⟨Ez,C5,uB⟩:=tJ.form
   subst uB
   refine zD 3<|ja ((k:Int)+1) (by omega)<|zD 2<|bO bU (⟨k+1,(.slice Ez (((lV f k)++[(k:Int)])).length C5),L14⟩) ⟨by dsimp only;omega,by dsimp only;rw[ajY (by assumption)];exact tJ⟩ (by dsimp only;omega) [0] (Sub.refl _)
  refine zD 3<|ja ((k:Int)+1) (by omega)<|zD 2<|bO bU (⟨k+1,v,L⟩) ⟨by dsimp only;omega,by dsimp only;rw[ajZ (by assumption)];exact hI.2⟩ (by dsimp only;omega) [0] (Sub.refl _)
 refine zD 8<|aJ q0 (v) [] [0] L (Sub.refl _) ⟨_,_,rfl,rfl,_,(by rw[←show k=4 by omega];exact hI.2),rfl⟩
theorem arl{ro:Nat→Option Obj}:dL zT 70 [.int .u8 0] ro (zI 0):=by
 refine bI av [] [] bB<|zD 12<|aJ q0 (zI 0) [] [] [] (Sub.refl _) ⟨_,_,rfl,rfl,rfl,rfl⟩
theorem ark{ro:Nat→Option Obj}:dL zT 70 [.int .u8 1] ro (zI 1):=by
 refine bI av [] [] bB<|zD 12<|aJ q0 (zI 1) [] [] [] (Sub.refl _) ⟨_,_,rfl,rfl,rfl,rfl⟩
theorem arj{ro:Nat→Option Obj}:dL zT 70 [.int .u8 2] ro (zI 1):=by
 refine bI av [] [] bB<|zD 12<|aJ q0 (zI 1) [] [] [] (Sub.refl _) ⟨_,_,rfl,rfl,rfl,rfl⟩
theorem ari{ro:Nat→Option Obj}:dL zT 70 [.int .u8 3] ro (zI 2):=by
 refine bI av [] [] bB<|zD 12<|aJ q0 (zI 2) [] [] [] (Sub.refl _) ⟨_,_,rfl,rfl,rfl,rfl⟩
theorem arh{ro:Nat→Option Obj}:dL zT 70 [.int .u8 4] ro (zI 1):=by
 refine bI av [] [] bB<|zD 12<|aJ q0 (zI 1) [] [] [] (Sub.refl _) ⟨_,_,rfl,rfl,rfl,rfl⟩
theorem arf{ro:Nat→Option Obj}:dL zT 70 [.int .u8 5] ro (zI 2):=by
 refine bI av [] [] bB<|zD 12<|aJ q0 (zI 2) [] [] [] (Sub.refl _) ⟨_,_,rfl,rfl,rfl,rfl⟩
theorem are{ro:Nat→Option Obj}:dL zT 70 [.int .u8 6] ro (zI 2):=by
 refine bI av [] [] bB<|zD 12<|aJ q0 (zI 2) [] [] [] (Sub.refl _) ⟨_,_,rfl,rfl,rfl,rfl⟩
theorem ard{ro:Nat→Option Obj}:dL zT 70 [.int .u8 7] ro (zI 3):=by
 refine bI av [] [] bB<|zD 12<|aJ q0 (zI 3) [] [] [] (Sub.refl _) ⟨_,_,rfl,rfl,rfl,rfl⟩
theorem arc{ro:Nat→Option Obj}:dL zT 70 [.int .u8 8] ro (zI 1):=by
 refine bI av [] [] bB<|zD 12<|aJ q0 (zI 1) [] [] [] (Sub.refl _) ⟨_,_,rfl,rfl,rfl,rfl⟩
theorem arb{ro:Nat→Option Obj}:dL zT 70 [.int .u8 9] ro (zI 2):=by
 refine bI av [] [] bB<|zD 12<|aJ q0 (zI 2) [] [] [] (Sub.refl _) ⟨_,_,rfl,rfl,rfl,rfl⟩
theorem akc{ro:Nat→Option Obj}:dL zT 70 [.int .u8 10] ro (zI 2):=by
 refine bI av [] [] bB<|zD 12<|aJ q0 (zI 2) [] [] [] (Sub.refl _) ⟨_,_,rfl,rfl,rfl,rfl⟩
theorem akb{ro:Nat→Option Obj}:dL zT 70 [.int .u8 11] ro (zI 3):=by
 refine bI av [] [] bB<|zD 12<|aJ q0 (zI 3) [] [] [] (Sub.refl _) ⟨_,_,rfl,rfl,rfl,rfl⟩
theorem aka{ro:Nat→Option Obj}:dL zT 70 [.int .u8 12] ro (zI 2):=by
 refine bI av [] [] bB<|zD 12<|aJ q0 (zI 2) [] [] [] (Sub.refl _) ⟨_,_,rfl,rfl,rfl,rfl⟩
theorem aj9{ro:Nat→Option Obj}:dL zT 70 [.int .u8 13] ro (zI 3):=by
 refine bI av [] [] bB<|zD 12<|aJ q0 (zI 3) [] [] [] (Sub.refl _) ⟨_,_,rfl,rfl,rfl,rfl⟩
theorem aj8{ro:Nat→Option Obj}:dL zT 70 [.int .u8 14] ro (zI 3):=by
 refine bI av [] [] bB<|zD 12<|aJ q0 (zI 3) [] [] [] (Sub.refl _) ⟨_,_,rfl,rfl,rfl,rfl⟩
theorem aj7{ro:Nat→Option Obj}:dL zT 70 [.int .u8 15] ro (zI 4):=by
 refine bI av [] [] bB<|zD 12<|aJ q0 (zI 4) [] [] [] (Sub.refl _) ⟨_,_,rfl,rfl,rfl,rfl⟩
theorem anr{ro:Nat→Option Obj}(h:0≤f∧f <16):dL zT 70 [.int .u8 f] ro (zI (xY f)):=by
 obtain rfl|rfl|rfl|rfl|rfl|rfl|rfl|rfl|rfl|rfl|rfl|rfl|rfl|rfl|rfl|rfl:=(by omega:f=0∨f=1∨f=2∨f=3∨f=4∨f=5∨f=6∨f=7∨f=8∨f=9∨f=10∨f=11∨f=12∨f=13∨f=14∨f=15)
 ·exact arl
 ·exact ark
 ·exact arj
 ·exact ari
 ·exact arh
 ·exact arf
 ·exact are
 ·exact ard
 ·exact arc
 ·exact arb
 ·exact akc
 ·exact akb
 ·exact aka
 ·exact aj9
 ·exact aj8
 exact aj7
def LL(ro:Nat→Option Obj)(v:Value)(W:List (List Int)):Prop:=∃ws,bL ro v 1 gN ws∧du (fun w l=>bL ro w 1 db l) ws W
theorem auC{v w:Value}{ws us:List Value}{W U:List (List Int)}{ro:Nat→Option Obj}(hv:bL ro v 1 gN ws)(hw:bL ro w 1 gN us)(ha:du (fun w l=>bL ro w 1 db l) ws W)(hb:du (fun w l=>bL ro w 1 db l) us U)(hx:W.length≤1000)(hy:U.length≤1000)(hW:∀l∈W,l.length≤1000)(hU:∀l∈U,l.length≤1000):dL zT 22 [v,w] ro (.bool (Ik W U)):=by
 obtain⟨N8,qvb,qvo,C9,rfl,qvk,RR,RQ⟩:=hv
 obtain⟨RP,qwb,qwo,Kq,rfl,qwk,qwh,qwl⟩:=hw
 have hla:=ha.len
 have hlb:=hb.len
 refine bI av [] [] bB<|zD 13<|js 10 (!decide ((ws.length:Int)=(us.length:Int))) (fun h1=>?_) (fun h1=>?_)
 ·
  replace h1:=of_decide_eq_false (by simpa using h1)
  refine zD 6<|aJ q0 (.bool false) [] [] [] (Sub.refl _) ⟨_,_,rfl,rfl,by rw[Wt (by omega)],rfl⟩
 replace h1:=of_decide_eq_true (by simpa using h1)
 refine zD 8<|eG [1,1,0,1,0,0] [] (fun(zz:Nat)=>[(0,.slice N8 ws.length C9),(1,.slice RP us.length Kq),(5,zI (zz:Int))]) (fun(zz:Nat)=>[]) (fun(zz:Nat)=>zz≤W.length∧Ik W U=Ik (W.drop zz) (U.drop zz)) (fun(zz:Nat)=>W.length-zz) 0 ⟨by omega,rfl⟩ [] ?_
 rintro k hI K1 bU rest
 refine zD 8<|zJ 14 ((k:Int) <(ws.length:Int)) (fun h2=>?_) fun h2=>?_
 ·
  refine zD 8 ?_
  obtain⟨DT,xd⟩:=zG ws k
  refine iE C9 1 RR xd ?_
  obtain⟨l20,asO,h20⟩:=ha.get xd
  obtain asF:=hW _ (List.mem_of_getElem? asO)
  obtain⟨ayE,aMv,aMr,ayD,rfl,aMt,aMu,aMs⟩:=h20
  refine jl 0 (RQ _ _ xd)<|zD 2 ?_
  obtain⟨uI,su⟩:=zG us k
  refine iE Kq 1 qwh su ?_
  obtain⟨Sv,SZ,ZY⟩:=hb.get su
  obtain aAT:=hU _ (List.mem_of_getElem? SZ)
  obtain⟨aqp,ayx,ayv,abT,rfl,ayw,ajn,ajm⟩:=ZY
  refine jl 0 (qwl _ _ su)<|jp (vs:=[.slice ayE l20.length ayD,.slice aqp Sv.length abT]) [] [] (fun aE hs hZ=>aok ((show bL _ _ _ _ _ from ⟨ayE,aMv,aMr,ayD,rfl,aMt,aMu,aMs⟩).up hs) ((show bL _ _ _ _ _ from ⟨aqp,ayx,ayv,abT,rfl,ayw,ajn,ajm⟩).up hs) asF aAT)<|zD 2<|js 26 (!(YZ l20 Sv)) (fun h3=>?_) (fun h3=>?_)
  ·
   try simp only[zB] at h3
   refine zD 6<|aJ q0 (.bool false) [] [] [] (Sub.refl _) ⟨_,_,rfl,rfl,by rw[hI.2,Wu asO SZ];simp_all,rfl⟩
  try simp only[zB] at h3
  refine zD 4<|ja ((k:Int)+1) (by omega)<|zD 2<|bO bU (k+1) ⟨by omega,by rw[hI.2,Wu asO SZ];simp_all⟩ (by omega) [] (Sub.refl _)
 refine zD 7<|aJ q0 (.bool true) [] [] [] (Sub.refl _) ⟨_,_,rfl,rfl,by rw[hI.2,agw (by omega) (by omega)],rfl⟩
theorem OW:(lV f 4).length≤1000:=Nat.le_trans (Ji f 4) (by decide)
def Df:Nat→List Int→List Int
 |0,ys=>ys
 |j+1,ys=>if Qb (ys.getD (j+1) 0) (ys.getD j 0) <0 then Df j ((ys.set (j+1) (ys.getD j 0)).set j (ys.getD (j+1) 0)) else ys
def EM:Nat→Nat→List Int→List Int
 |0,_,ys=>ys
 |n+1,i,ys=>EM n (i+1) (Df i ys)
def Cn(xs:List Int):List Int:=EM (xs.length-1) 1 xs
theorem Yj(h:¬j>0):Df j.toNat ys=ys:=by rw[show j.toNat=0 by omega];rfl
theorem alq(h:ys[i]?=some x):ys.getD i 0=x:=by rw[List.getD_eq_getElem?_getD,h];rfl
theorem Yk(hj:j>0)(hx:ys[j.toNat]?=some x) (hy:ys[(j-1).toNat]?=some y) (h:¬Qb x y <0):Df j.toNat ys=ys:=by
 have e:j.toNat=(j-1).toNat+1:=by omega
 rw[e] at hx ⊢
 rw[Df,alq hx,alq hy,if_neg h]
theorem VI{x' y':Int}(hj:j>0)(hx:ys[j.toNat]?=some x) (hy:ys[(j-1).toNat]?=some y) (lH:ys[j.toNat]?=some x') (Ym:ys[(j-1).toNat]?=some y') (h:Qb x y <0):Df j.toNat ys=Df (j-1).toNat ((ys.set j.toNat y').set (j-1).toNat x'):=by
 rw[hx] at lH;rw[hy] at Ym;cases lH;cases Ym
 have e:j.toNat=(j-1).toNat+1:=by omega
 rw[e] at hx ⊢
 rw[Df,alq hx,alq hy,if_pos h]
def MO(v:Value)(xs:List Int)(Y:Cells):Prop:=∃ys,ys=Cn xs∧aD v 1 99 QZ ys Y
theorem Rq{i:Int}(h:Cn xs=EM (n-i.toNat) i.toNat ys)(hi:0≤i∧i <n):Cn xs=EM (n-(i+1).toNat) (i+1).toNat (Df i.toNat ys):=by
 rw[h,show n-i.toNat=(n-(i+1).toNat)+1 by omega,show (i+1).toNat=i.toNat+1 by omega];rfl
theorem Xo{i:Int}(h:Cn xs=EM (n-i.toNat) i.toNat ys)(hi:¬i <n):ys=Cn xs:=by
 rw[h,show n-i.toNat=0 by omega];rfl
theorem aNf{ro:Nat→Option Obj}(hx:0≤x∧x <16)(hy:0≤y∧y <16):dL zT 69 [.int .u8 x,.int .u8 y] ro (zI (Qb x y)):=by
 have hpx:=U5 hx
 have hpy:=U5 hy
 refine bI av [] [] bB<|zD 8<|jp (vs:=[.int .u8 x]) [] [] (fun aE hs hZ=>(anr hx))<|zD 1<|jp (vs:=[.int .u8 y]) [] [] (fun aE hs hZ=>(anr hy))<|ja ((xY x)-(xY y)) (by omega)<|zD 7<|js 12 (!decide (((xY x)-(xY y))=0)) (fun h1=>?_) (fun h1=>?_)
 ·
  replace h1:=of_decide_eq_false (by simpa using h1)
  refine zD 7<|aJ q0 (zI ((xY x)-(xY y))) [] [] [] (Sub.refl _) ⟨_,_,rfl,rfl,by rw[Qb,if_neg (by omega)],rfl⟩
 replace h1:=of_decide_eq_true (by simpa using h1)
 refine zD 5<|jc (vs:=[.int .u8 x]) [] (agh) ?_
 rintro v15 L15 ⟨_,ast,rfl⟩
 refine zD 1<|jc (vs:=[.int .u8 y]) [] (agh) ?_
 rintro v17 L17 ⟨_,BJ,rfl⟩
 refine jp (vs:=[v15,v17]) [1,0] (L15++L17) (fun aE hs hZ=>aNQ (ast.lq hZ.left) (BJ.lq hZ.right) OW OW)<|zD 3<|aJ q0 (zI (xC (lV x 4) (lV y 4))) [] [] [] (Sub.refl _) ⟨_,_,rfl,rfl,by rw[Qb,if_pos (by omega)],rfl⟩
theorem aNe{v:Value}{L:Cells}{ro:Nat→Option Obj}(ho:aD v 1 99 QZ xs L)(hN:xs.length≤12)(hM:∀m∈xs,0≤m∧m <16):eI zT 123 [v,zI 0,zI (xs.length:Int),.func (.func 69) ⟨[]⟩ ⟨[]⟩] ro L (fun r Y=>MO v xs Y):=by
 refine bI av [.l L] [] bB<|zD 7<|eG [1,0,0] [] (fun(zz:Int×(List Int)×Cells)=>[(0,v),(1,zI 0),(2,zI (xs.length:Int)),(3,.func (.func 69) ⟨[]⟩ ⟨[]⟩),(8,zI zz.1)]) (fun(zz:Int×(List Int)×Cells)=>[.l zz.2.2]) (fun(zz:Int×(List Int)×Cells)=>(1≤zz.1)∧aD v 1 99 QZ zz.2.1 zz.2.2∧zz.2.1.Perm xs∧Cn xs=EM (xs.length-zz.1.toNat) zz.1.toNat zz.2.1) (fun(zz:Int×(List Int)×Cells)=>((xs.length:Int)-zz.1).toNat) (⟨1,xs,L⟩) ⟨by dsimp only;omega,ho,.refl _,rfl⟩ [0] ?_
 rintro⟨i,ys,L⟩ hI K1 bU rest
 dsimp only at hI
 have VK:=hI.2.2.1.length_eq
 have hym:∀m∈ys,0≤m∧m <16:=fun m hm=>hM m (hI.2.2.1.mem_iff.1 hm)
 refine zD 7<|zJ 14 (i <(xs.length:Int)) (fun h1=>?_) fun h1=>?_
 ·
  refine zD 10<|eG [1,0,0,1,0,0,1,0,0] [K1] (fun(zz:Int×(List Int)×Cells)=>[(0,v),(1,zI 0),(2,zI (xs.length:Int)),(3,.func (.func 69) ⟨[]⟩ ⟨[]⟩),(8,zI i),(9,zI zz.1)]) (fun(zz:Int×(List Int)×Cells)=>[.l zz.2.2]) (fun(zz:Int×(List Int)×Cells)=>(0≤zz.1∧zz.1≤i)∧aD v 1 99 QZ zz.2.1 zz.2.2∧zz.2.1.Perm xs∧Cn xs=EM (xs.length-(i+1).toNat) (i+1).toNat (Df zz.1.toNat zz.2.1)) (fun(zz:Int×(List Int)×Cells)=>zz.1.toNat) (⟨i,ys,L⟩) ⟨by dsimp only;omega,hI.2.1,hI.2.2.1,Rq hI.2.2.2 (by omega)⟩ [0] ?_
  rintro⟨j,ys,L⟩ hJ K2 lL rest
  dsimp only at hJ
  have VK:=hJ.2.2.1.length_eq
  have hym:∀m∈ys,0≤m∧m <16:=fun m hm=>hM m (hJ.2.2.1.mem_iff.1 hm)
  refine zD 7<|js 3 (decide (j>0)) (fun h2=>?_) (fun h2=>?_)
  ·
   have mr:=h2
   replace mr:=of_decide_eq_true mr
   refine zD 3 ?_
   obtain⟨xH,kZ⟩:=zG ys (j.toNat) (by first|omega| (simp only[List.length_set];omega))
   refine pS j 1 hJ.2.1 kZ (Int.toNat_of_nonneg (show 0≤j∧j <((ys).length:Int) from (by first|omega| (simp only[List.length_set];omega))).1).symm (fun dW ae2=>?_)
   refine oQ 0 [0] L (fun s _ hZ=>cG hJ.2.1 ae2 hZ kZ)<|zD 2<|ja (j-1) (by omega) ?_
   obtain⟨nU,iR⟩:=zG ys ((j-1).toNat) (by first|omega| (simp only[List.length_set];omega))
   refine pS (j-1) 1 hJ.2.1 iR (Int.toNat_of_nonneg (show 0≤(j-1)∧(j-1) <((ys).length:Int) from (by first|omega| (simp only[List.length_set];omega))).1).symm (fun b30 Ta=>?_)
   refine oQ 0 [0] L (fun s _ hZ=>cG hJ.2.1 Ta hZ iR)<|aN 14 fun qZ q6 p7=>jp (vs:=[.int .u8 xH,.int .u8 nU]) [] [] (fun aE hs hZ=>(aNf (hym _ (List.mem_of_getElem? kZ)) (hym _ (List.mem_of_getElem? iR))))<|bD p7 [0]<|zD 3<|zJ 34 ((Qb xH nU) <0) (fun h4=>?_) fun h4=>?_
   ·
    refine zD 9<|ja (j-1) (by omega)<|zD 2<|ja (j-1) (by omega) ?_
    obtain⟨wV,Dk⟩:=zG ys ((j-1).toNat) (by first|omega| (simp only[List.length_set];omega))
    refine pS (j-1) 1 hJ.2.1 Dk (Int.toNat_of_nonneg (show 0≤(j-1)∧(j-1) <((ys).length:Int) from (by first|omega| (simp only[List.length_set];omega))).1).symm (fun b45 ae1=>?_)
    refine oQ 0 [0] L (fun s _ hZ=>cG hJ.2.1 ae1 hZ Dk)<|zD 2 ?_
    obtain⟨HM,Dj⟩:=zG ys (j.toNat) (by first|omega| (simp only[List.length_set];omega))
    refine pS j 1 hJ.2.1 Dj (Int.toNat_of_nonneg (show 0≤j∧j <((ys).length:Int) from (by first|omega| (simp only[List.length_set];omega))).1).symm (fun b49 ae0=>?_)
    refine oQ 0 [0] L (fun s _ hZ=>cG hJ.2.1 ae0 hZ Dj) ?_
    obtain⟨x51,Di⟩:=zG ys (j.toNat) (by first|omega| (simp only[List.length_set];omega))
    refine pS j 1 hJ.2.1 Di (Int.toNat_of_nonneg (show 0≤j∧j <((ys).length:Int) from (by first|omega| (simp only[List.length_set];omega))).1).symm (fun b51 aeZ=>?_)
    refine aN 15 fun rK rR qz=>QF 0 0 [.int .u8 wV] wV hJ.2.1 aeZ Di rfl rfl (Nat.le_of_ble_eq_true rfl) fun L6 Yy=>gX qz [] ?_
    obtain⟨x52,vi⟩:=zG ((ys.set j.toNat wV)) ((j-1).toNat) (by first|omega| (simp only[List.length_set];omega))
    refine pS (j-1) 1 Yy vi (Int.toNat_of_nonneg (show 0≤(j-1)∧(j-1) <(((ys.set j.toNat wV)).length:Int) from (by first|omega| (simp only[List.length_set];omega))).1).symm (fun b52 aeY=>?_)
    refine aN 17 fun yY y8 Ag=>QF 0 0 [.int .u8 HM] HM Yy aeY vi rfl rfl (Nat.le_of_ble_eq_true rfl) fun L9 aeq=>dV Ag<|zD 3<|ja (j-1) (by omega)<|zD 2<|bO lL (⟨(j-1),((ys.set j.toNat wV).set ((j-1).toNat) HM),L9⟩) ⟨by dsimp only;omega,aeq,(nt Dj Dk).trans hJ.2.2.1,by dsimp only;rw[hJ.2.2.2,VI (by omega) kZ iR Dj Dk (by assumption)]⟩ (by dsimp only;omega) [0] (Sub.refl _)
   refine zD 4<|ja (i+1) (by omega)<|zD 2<|bO bU (⟨(i+1),ys,L⟩) ⟨by dsimp only;omega,hJ.2.1,hJ.2.2.1,by dsimp only;rw[hJ.2.2.2,Yk (by omega) kZ iR (by assumption)]⟩ (by dsimp only;omega) [0] (Sub.refl _)
  have mr:=h2
  replace mr:=of_decide_eq_false mr
  refine zD 18<|ja (i+1) (by omega)<|zD 2<|bO bU (⟨(i+1),ys,L⟩) ⟨by dsimp only;omega,hJ.2.1,hJ.2.2.1,by dsimp only;rw[hJ.2.2.2,Yj (by omega)]⟩ (by dsimp only;omega) [0] (Sub.refl _)
 refine zD 2<|aJ q0 (.tuple ⟨[]⟩) [] [0] L (Sub.refl _) ⟨_,_,rfl,rfl,ys,Xo hI.2.2.2 (by omega),hI.2.1⟩
theorem al6(h:K.facts.length≤3):IntKind.u8.wrap (cv K+1)=((2^K.facts.length:Nat):Int):=by
 unfold cv
 generalize K.facts.length=n at h
 obtain rfl|rfl|rfl|rfl:n=0∨n=1∨n=2∨n=3:=by omega
 all_goals decide
theorem ajq(h:n≤3):2^n≤8:=by
 obtain rfl|rfl|rfl|rfl:n=0∨n=1∨n=2∨n=3:=by omega
 all_goals decide
theorem aw2(h:n≤255):Value.int .u8 (IntKind.u8.wrap (n:Int))= .int .u8 (n:Int):=by
 rw[rN .u8 rfl _ (by omega) (by simp[IntKind.bits];omega)]
def oO(n:Nat):List Int:=Cn (dA (2^n))
theorem XH(h:n≤8):∀m∈dA n,0≤m∧m <16:=fun m hm=>by have:=pM hm;omega
theorem aNd{v:Value}{L:Cells}{lim:Int}{ro:Nat→Option Obj}(ho:aD v 1 99 QZ xs L)(hN:xs.length≤12)(hM:∀m∈xs,0≤m∧m <16):eI zT 94 [v,zI 0,zI (xs.length:Int),zI lim,.func (.func 69) ⟨[]⟩ ⟨[]⟩] ro L (fun r Y=>MO v xs Y):=by
 refine bI av [.l L] [] bB<|zD 9<|eG [1,1,0,0] [] (fun(zz:Nat)=>[(0,v),(1,zI 0),(2,zI (xs.length:Int)),(3,zI lim),(4,.func (.func 69) ⟨[]⟩ ⟨[]⟩),(10,.bool true),(11,.bool true)]) (fun(zz:Nat)=>[.l L]) (fun(zz:Nat)=>True) (fun(zz:Nat)=>zz) 0 trivial [0] ?_
 rintro z hI K1 bU rest
 refine zD 5<|ja ((xs.length:Int)-0) (by omega)<|zD 8<|zJ 25 (((xs.length:Int)-0)≤12) (fun h1=>?_) fun h1=>?_
 ·
  refine zD 7<|jc (vs:=[v,zI 0,zI (xs.length:Int),.func (.func 69) ⟨[]⟩ ⟨[]⟩]) [0] (aNe ho hN hM) ?_
  rintro axO Y30 ⟨aI8,asm,BI⟩
  refine zD 2<|aJ q0 (.tuple ⟨[]⟩) [] [0] Y30 (Sub.refl _) ⟨_,_,rfl,rfl,_,asm,BI⟩
 exfalso;omega
theorem azf{v:Value}{L:Cells}{ro:Nat→Option Obj}(ho:aD v 1 99 QZ xs L)(hN:xs.length≤12)(hM:∀m∈xs,0≤m∧m <16):eI zT 68 [v,.func (.func 69) ⟨[]⟩ ⟨[]⟩] ro L (fun r Y=>MO v xs Y):=by
 refine bI av [.l L] [] bB<|zD 3<|D7 ho<|zD 6<|je (zU (xs.length:Int)) (aah (by omega))<|jp (vs:=[zU (xs.length:Int)]) [] [] (fun aE hs hZ=>(auq (by omega)))<|zD 1<|jc (vs:=[v,zI 0,zI (xs.length:Int),zI (Yc xs.length),.func (.func 69) ⟨[]⟩ ⟨[]⟩]) [0] (aNd ho hN hM) ?_
 rintro axP Y13 ⟨aJa,Yw,SV⟩
 refine zD 1<|aJ q0 (.tuple ⟨[]⟩) [] [0] Y13 (Sub.refl _) ⟨_,_,rfl,rfl,_,Yw,SV⟩
theorem aEU{f:Nat}{rows:List bX}{ro:Nat→Option Obj}(hF:pq ro f K rows)(hV:fU K)(hn3:K.facts.length≤3):eI zT 35 [zP f] ro [] (fun r Y=>∃L,aD r 1 99 QZ (oO K.facts.length) L∧Y=L):=by
 have hp8:=ajq hn3
 refine bI av [] [] bB<|zD 12<|jp (vs:=[zP f]) [] [] (fun aE hs hZ=>O1 hV (hF.up hs))<|je (.int .u8 ((2^K.facts.length:Nat):Int)) (congrArg (Value.int .u8) (al6 hn3))<|zD 3<|oU<|eG [1,1,0,1,0,0] [] (fun(zz:Nat×Value×Cells)=>[(2,zS),(3,zz.2.1),(7,.int .u8 ((2^K.facts.length:Nat):Int)),(8,.int .u8 (zz.1:Int))]) (fun(zz:Nat×Value×Cells)=>[.l zz.2.2]) (fun(zz:Nat×Value×Cells)=>zz.1≤2^K.facts.length∧aD zz.2.1 1 99 QZ (dA zz.1) zz.2.2) (fun(zz:Nat×Value×Cells)=>2^K.facts.length-zz.1) (⟨0,zS,[]⟩) ⟨Nat.zero_le _,aD.nil _ _ _⟩ [0] ?_
 rintro⟨k,v,L⟩ hI K1 bU rest
 dsimp only at hI
 have hrl:=lA k
 refine zD 5<|zJ 9 ((k:Int) <((2^K.facts.length:Nat):Int)) (fun h1=>?_) fun h1=>?_
 ·
  refine zD 12<|jn fun yW=>jk (sz:=1) (ps:=(dA k)) (qs:=[(k:Int)]) (enc:=QZ) (w:= .slice (some ⟨yW,0,none⟩) 1 1) [1] [0] [(yW,.cells ⟨([(k:Int)].map QZ).flatten⟩ 99 (0,0))] (hI.2) (fun s _ hZ=>cg [(k:Int)] (hZ _ (.head _)) (by intro p hp;rfl)) (fun p _=>aj rfl) (by simp<;>omega) (fun v14 L14 tJ=>?_)
  obtain⟨Ez,C5,uB⟩:=tJ.form
  subst uB
  refine zD 3<|je (.int .u8 ((k:Int)+1)) (aw2 (n:=k+1) (by omega))<|zD 2<|bO bU (⟨k+1,(.slice Ez (((dA k)++[(k:Int)])).length C5),L14⟩) ⟨by dsimp only;omega,by dsimp only;rw[uY];exact tJ⟩ (by dsimp only;omega) [0] (Sub.refl _)
 refine zD 5<|jc (vs:=[v,.func (.func 69) ⟨[]⟩ ⟨[]⟩]) [0] (azf hI.2 (by rw[lA];omega) (XH (by omega))) ?_
 rintro aZT Y17 ⟨aY5,aOW,BJ⟩
 refine zD 7<|aJ q0 (v) [] [0] Y17 (Sub.refl _) ⟨_,_,rfl,rfl,_,by rw[oO,show 2^K.facts.length=k by omega,←aOW];exact BJ,rfl⟩
def Is(K:aT)(rows:List bX)(p:Nat→Int):Nat→Bool
 |0=>false
 |i+1=>Is K rows p i||dC K.gone K.new K.ai (c8 K ((rows[i]?).getD ⟨fun _ _=>false⟩) i p)
theorem WT{rows:List bX}{p:Nat→Int}{r:bX}(h:rows[i]?=some r):Is K rows p (i+1)=(Is K rows p i||dC K.gone K.new K.ai (c8 K r i p)):=by rw[Is,h];rfl
theorem al5{rows:List bX}{p:Nat→Int}(h:Is K rows p i=true)(hn:i≤n):Is K rows p n=true:=by
 induction n with
 |zero=>rwa[show i=0 by omega] at h
 |succ n ih=>
  by_cases e:i=n+1
  ·rwa[e] at h
  rw[Is,ih (by omega),Bool.true_or]
def Zf(K:aT)(rows:List bX)(on:Int):Bool:=(bP K on).any fun p=>Is K rows p rows.length
theorem ahi{f:α→Bool}{l:List α}{x:α}(h:l[k]?=some x) (h1:(l.take k).any f=false) (h2:f x=false):(l.take (k+1)).any f=false:=by
 rw[jq h,List.any_append,h1,List.any_cons,h2];rfl
theorem aSM{f:Nat}{rows:List bX}{on:Int}{ro:Nat→Option Obj}(hF:pq ro f K rows)(hV:fU K)(hR:rows.length≤1000):eI zT 36 [zP f,.int .u8 on] ro [] (fun r Y=>r= .bool (Zf K rows on)∧Y=[]):=by
 obtain⟨c0,c1,c2,vc,vh,vr,vb,va,vf,vt,hv,hf,p6,nA,hr,Dv,Ie,Jt,bS⟩:=id hF
 obtain⟨hc,hh,dr⟩:=id p6
 obtain⟨eE,zk,zi,ep,rfl,Cq,xW,xV⟩:=hc
 obtain⟨dM,uy,ux,dq,rfl,wA,qv,qu⟩:=hh
 obtain⟨kI,Hq,Hp,kH,rfl,M1,EZ,EY⟩:=hr
 obtain⟨lD,KA,Ky,kK,rfl,Kz,E1,E0⟩:=Dv
 obtain⟨lE,KG,KD,kL,rfl,KE,E4,E3⟩:=Ie
 obtain⟨mh,R3,RZ,kV,rfl,R2,Kx,Kw⟩:=Jt
 obtain⟨nq,Db,Da,mS,rfl,N9,Kt,Kr⟩:=bS
 have QL:=hV.rules.1
 have F8:=hV.before.1
 have H8:=hV.after.1
 have hnf:=hV.facts.1
 refine akm av [] [] bB<|zD 2<|jn fun b2=>zD 5<|jn fun b5=>jd 9 [0,1]<|jc (vs:=[zP f,.int .u8 on]) [] (Jj (on:=on) hF hV) ?_
 rintro _ _ ⟨q1,q2,q3,q4,rfl,rfl⟩
 refine jg 0 [.b q1 (.cells ⟨[zP f]⟩ 94 (0,0)),.b q2 (.cells ⟨[.func (.func 98) ⟨[]⟩ ⟨[zP q1,zP q4]⟩]⟩ 187 (0,0)),.b q3 (.cells ⟨[.bool (di K on 0 0),.bool (di K on 0 1),.bool (di K on 0 2),.bool (di K on 0 3),.bool (di K on 1 0),.bool (di K on 1 1),.bool (di K on 1 2),.bool (di K on 1 3),.bool (di K on 2 0),.bool (di K on 2 1),.bool (di K on 2 2),.bool (di K on 2 3),.bool (di K on 3 0),.bool (di K on 3 1),.bool (di K on 3 2),.bool (di K on 3 3)]⟩ 139 (0,0)),.b q4 (.cells ⟨[.int .u8 on]⟩ 99 (0,0))]<|jf [0,1,2,3,5] ((q1,.cells ⟨[zP f]⟩ 94 (0,0))::((q2,.cells ⟨[.func (.func 98) ⟨[]⟩ ⟨[zP q1,zP q4]⟩]⟩ 187 (0,0))::((q3,.cells ⟨[.bool (di K on 0 0),.bool (di K on 0 1),.bool (di K on 0 2),.bool (di K on 0 3),.bool (di K on 1 0),.bool (di K on 1 1),.bool (di K on 1 2),.bool (di K on 1 3),.bool (di K on 2 0),.bool (di K on 2 1),.bool (di K on 2 2),.bool (di K on 2 3),.bool (di K on 3 0),.bool (di K on 3 1),.bool (di K on 3 2),.bool (di K on 3 3)]⟩ 139 (0,0))::((q4,.cells ⟨[.int .u8 on]⟩ 99 (0,0))::[(b2,.cells ⟨[zP f]⟩ 94 (0,0))])))) fun AR cy ju=>zD 2<|jrf [] (VD (on:=on) (hF.up cy) hV (ju _ (.head _)) (ju _ (.tail _ (.head _))) (ju _ (.tail _ (.tail _ (.head _)))) (ju _ (.tail _ (.tail _ (.tail _ (.head _)))))) (by rintro _ _ _ _ ⟨_,_,rfl,_⟩;rfl) (fun(zz:Bool)=>[.b b5 (.cells ⟨[.bool zz]⟩ 4 (0,0))]) (fun kk=>(fun(zz:Bool)=>zz=false∧(((bP K on).take kk).any fun p=>Is K rows p rows.length)=false)) (fun jump=>(fun(zz:Bool)=>jump= .exit 0∧zz=true∧Zf K rows on=true)) false ⟨rfl,rfl⟩ [0] ?_ ?_ ?_
 ·
  rintro bl4 bd4 kk4 vs4 LL4 bo ro4 hk4 atc hI kN
  obtain⟨p4,hp4,rfl,rfl⟩:=atc
  have Yv:=(lU hV on).2 p4 (List.mem_of_getElem? hp4)
  refine zD 1<|jn fun b6=>jd 2 [0]<|azG<|zD 3<|jl (b:=b2) (off:=0) (m:=1) (vs:=[zP f]) 0 ⟨_,_,_,.inl (kN _ _ (ju _ (.tail _ (.tail _ (.tail _ (.tail _ (.head _))))))),rfl⟩<|zD 2<|jl (b:=f) (off:=0) (m:=13) (vs:=[c0,c1,c2,.slice eE K.cs.length ep,.slice dM hv.length dq,.slice kI K.rules.length kH,.slice lD K.before.length kK,.slice lE K.after.length kL,zI K.gone,zI K.new,zI K.ai,.slice mh K.facts.length kV,.slice nq rows.length mS]) 12 ⟨_,_,_,.inl (kN _ _ (cy _ _ hf)),rfl⟩<|zD 4<|aNC [1] [1,0,1,1,0,1,0,3,0,1,0,0] [] (fun(zz:Nat×Bool)=>[(2,zP b2),(4,.bool false),(5,zP b5),(6,zP b6),(16,zI (rows.length:Int)),(17,zI (zz.1:Int))]) (fun(zz:Nat×Bool)=>[.b b5 (.cells ⟨[.bool zz.2]⟩ 4 (0,0)),.b b6 (.cells ⟨[zI (p4 0),zI (p4 1),zI (p4 2),zI (p4 3)]⟩ 122 (0,0))]) (fun(zz:Nat×Bool)=>zz.1≤rows.length∧zz.2=false∧Is K rows p4 zz.1=false) (fun(zz:Nat×Bool)=>rows.length-zz.1) (⟨0,bo⟩) ⟨Nat.zero_le _,hI.1,rfl⟩ [2,0,1] ?_
  rintro⟨i,bo⟩ hJ K1 bU rest
  dsimp only at hJ
  refine zD 5<|zJ 18 ((i:Int) <(rows.length:Int)) (fun h5=>?_) fun h5=>?_
  ·
   refine zD 5 ?_
   obtain⟨r_,BG⟩:∃r_,rows[i]?=some r_:=⟨_,List.getElem?_eq_getElem (by omega)⟩
   refine zD 6<|jl (b:=b2) (off:=0) (m:=1) (vs:=[zP f]) 0 ⟨_,_,_,.inl (kN _ _ (ju _ (.tail _ (.tail _ (.tail _ (.tail _ (.head _))))))),rfl⟩<|jl (b:=b2) (off:=0) (m:=1) (vs:=[zP f]) 0 ⟨_,_,_,.inl (kN _ _ (ju _ (.tail _ (.tail _ (.tail _ (.tail _ (.head _))))))),rfl⟩<|jd 2 [1]<|jp (vs:=[zP f,zI (i:Int),.agg ⟨[zI (p4 0),zI (p4 1),zI (p4 2),zI (p4 3)]⟩]) [] [] (fun aE hs hZ=>ans (hF.up (Sub.trans (cy.trans kN) hs)) hV BG Yv)<|jp (vs:=[zP f,.agg ⟨[zI ((c8 K r_ i p4).past),zI ((c8 K r_ i p4).w0),zI ((c8 K r_ i p4).w1),zI ((c8 K r_ i p4).w2),zI ((c8 K r_ i p4).w3),zI ((c8 K r_ i p4).gone),zI ((c8 K r_ i p4).new),zI ((c8 K r_ i p4).ai)]⟩]) [] [] (fun aE hs hZ=>adn (x:=(c8 K r_ i p4)) (hs _ _ (kN _ _ (cy _ _ hf))))<|aN 6 fun AY A5 Ah=>jd 1 [0]<|dV Ah<|jd 5 [0]<|js 26 (dC K.gone K.new K.ai (c8 K r_ i p4)) (fun h7=>?_) (fun h7=>?_)
   ·
    refine zD 2<|jys XK (Sub.refl _) (.exit 0) (dC K.gone K.new K.ai (c8 K r_ i p4)) ⟨rfl,by assumption,List.any_eq_true.2 ⟨p4,List.mem_of_getElem? hp4,al5 (i:=i+1) (by rw[WT BG];simp[*]) (by omega)⟩⟩ [2,0]
   refine zD 3<|ja ((i:Int)+1) (by omega)<|zD 2<|bO bU (⟨i+1,(dC K.gone K.new K.ai (c8 K r_ i p4))⟩) ⟨by dsimp only;omega,by assumption,by dsimp only;rw[WT BG,hJ.2.2,Bool.false_or];assumption⟩ (by dsimp only;omega) [0,1,2] (Sub.refl _)
  refine zD 2<|jyn XK (Sub.refl _) bo ⟨hJ.2.1,ahi hp4 hI.2 (by have:=hJ.2.2;rwa[show i=rows.length by omega] at this)⟩ [2,0]
 ·
  rintro bd4 bo Z4 hI hZ4
  subst hZ4
  refine jd 6 [2]<|jrM qm0.a.m (.bool bo) [0] [] [] [] cy ⟨by have:=hI.2;rw[List.take_of_length_le (Nat.le_refl _)] at this;rw[hI.1,Zf,this],rfl⟩
 rintro bd4 bo Z4 jump hS hZ4
 obtain⟨rfl,hS⟩:=hS
 subst hZ4
 refine jd 6 [2]<|jrM qm0.a.m (.bool bo) [0] [] [] [] cy ⟨by rw[hS.1,hS.2],rfl⟩
def iAn(k:IntKind)(a b:Int):Int:=k.wrap (BitVec.ofInt k.bits a&&& ~~~ BitVec.ofInt k.bits b).toNat
theorem aqV:oO 0=[0]:=by kernel_rfl
theorem aqU:oO 1=[0,1]:=by kernel_rfl
theorem aqT:oO 2=[0,1,2,3]:=by kernel_rfl
theorem aqS:oO 3=[0,1,2,4,3,5,6,7]:=by kernel_rfl
theorem acL(h:n≤3):(oO n).length≤8∧∀m∈oO n,0≤m∧m <16:=by
 obtain rfl|rfl|rfl|rfl:n=0∨n=1∨n=2∨n=3:=by omega
 ·rw[aqV];decide
 ·rw[aqU];decide
 ·rw[aqT];decide
 rw[aqS];decide
def J1(K:aT)(rows:List bX):Option Int:=(oO K.facts.length).find? fun m=>Zf K rows (iAn .u8 (cv K) m)
theorem Wq{p:α→Bool}{l:List α}{x:α}(hx:l[k]?=some x):(l.drop k).find? p=bif p x then some x else (l.drop (k+1)).find? p:=by rw[fT hx,List.find?_cons];cases p x<;>rfl
theorem agc{p:α→Bool}{l:List α}(hx:¬k <l.length):(l.drop k).find? p=none:=by rw[eP hx];rfl
theorem aq6{rows:List bX}{ro:Nat→Option Obj}(hK:gG ro l K)(hV:fU K)(hR:rows.length≤2)(hB:mM ro l K rows)(hn3:K.facts.length≤3):eI zT 9 [.agg ⟨l⟩] ro [] (fun r Y=>∃v e,r= .tuple ⟨[v,zI e]⟩∧((∃m,J1 K rows=some m∧aD v 1 3 db (lV m 4) Y∧e=0)∨(J1 K rows=none∧v= zS∧e=11∧Y=[]))):=by
 obtain⟨v0,v1,v3,v4,v5,v6,v7,vb,fa,fc,hv,rfl,_⟩:=hK
 have Pq:=acL hn3
 have SY:=Pq.1
 refine bI av [] [] bB<|zD 2<|jn fun b1=>jd 6 [0]<|jc (vs:=[.agg ⟨[v0,v1,.slice fa 0 fc,v3,v4,v5,v6,v7,zI K.gone,zI K.new,zI K.ai,vb]⟩]) [] (hB _ (Sub.refl _)) ?_
 rintro _ Z3 ⟨f10,rfl,aub⟩
 refine zD 5<|jf [0] Z3 (fun AR cy ju=>?_)
 have Ma:=aub _ cy ju
 refine zD 13<|jc (vs:=[zP f10]) [] (aEU Ma hV hn3) ?_
 rintro v17 L17 ⟨_,BJ,rfl⟩
 refine D7 BJ<|zD 3<|eG [1,1,1,0,1,0,0] [] (fun(zz:Nat)=>[(4,zP f10),(17,v17),(18,zI ((oO K.facts.length).length:Int)),(19,zI (zz:Int))]) (fun(zz:Nat)=>[.l L17,.b b1 (.cells ⟨[v0,v1,.slice fa 0 fc,v3,v4,v5,v6,v7,zI K.gone,zI K.new,zI K.ai,vb]⟩ 38 (0,0))]) (fun(zz:Nat)=>zz≤(oO K.facts.length).length∧J1 K rows=((oO K.facts.length).drop zz).find? (fun m=>Zf K rows (iAn .u8 (cv K) m))) (fun(zz:Nat)=>(oO K.facts.length).length-zz) 0 ⟨Nat.zero_le _,rfl⟩ [0,1] ?_
 rintro k hI K1 bU rest
 refine zD 5<|zJ 20 ((k:Int) <((oO K.facts.length).length:Int)) (fun h4=>?_) fun h4=>?_
 ·
  refine zD 6 ?_
  obtain⟨xI,pW⟩:=zG ((oO K.facts.length)) k (by first|omega| (simp only[List.length_set,List.length_append,List.length_cons,List.length_nil];omega))
  refine ZJ 1 BJ pW fun b21 aQ7=>oQ 0 [0] L17 (fun s _ hZ=>cG BJ aQ7 hZ pW)<|zD 6<|jp (vs:=[zP f10]) [] [] (fun aE hs hZ=>O1 hV (Ma.up hs))<|zD 1<|je (.int .u8 (iAn .u8 (cv K) xI)) rfl<|jc (vs:=[zP f10,.int .u8 (iAn .u8 (cv K) xI)]) [] (aSM Ma hV (by omega)) ?_
  rintro _ _ ⟨rfl,rfl⟩
  refine jg 0 []<|zD 1<|js 28 (Zf K rows (iAn .u8 (cv K) xI)) (fun h5=>?_) (fun h5=>?_)
  ·
   refine zD 4<|jc (vs:=[.int .u8 xI]) [] (agh) ?_
   rintro v30 L30 ⟨_,BI,rfl⟩
   refine zD 4<|aJ q0.a (.tuple ⟨[v30,zI 0]⟩) [] [0] L30 cy ⟨_,_,rfl,rfl,_,_,rfl,.inl ⟨_,by rw[hI.2,Wq pW];simp only[*,cond_true],BI,rfl⟩⟩
  refine zD 3<|ja ((k:Int)+1) (by omega)<|zD 2<|bO bU (k+1) ⟨by omega,by rw[hI.2,Wq pW];simp only[*,cond_false]⟩ (by omega) [0,1] (Sub.refl _)
 refine zD 8<|aJ q0.a (.tuple ⟨[zS,zI 11]⟩) [] [] [] cy ⟨_,_,rfl,rfl,_,_,rfl,.inr ⟨by rw[hI.2,agc (by omega)],rfl,rfl,rfl⟩⟩
theorem ars{f:Nat}{rows:List bX}{ro:Nat→Option Obj}(hF:pq ro f K rows)(hV:fU K)(hR:rows.length≤2):Hm zT 83 [zP f] ro [] (fun r Y=>∃zs v e,r= .tuple ⟨[v,zI e]⟩∧zs.Perm (ek K (cv K) (dC K.gone K.new K.ai) rows)∧aD v 8 124 cU zs Y∧((zs=[]∧e=9)∨(zs≠[]∧e=0))):=by
 refine H2 av [] [] bB fun fr=>zD 9<|jp (vs:=[zP f]) [] [] (fun aE hs hZ=>O1 hV (hF.up hs))<|M8 (vs:=[zP f,.int .u8 (cv K)]) [] (fun _ _ h=>h) (VC hV hF hR) ?_
 rintro v8 Y8 ⟨zs,hz,ho8⟩
 refine zD 6<|D7 ho8<|zD 2<|zJ 11 ((zs.length:Int)=0) (fun h1=>?_) fun h1=>?_
 ·
  refine zD 7<|Sx qC (.tuple ⟨[zS,zI 9]⟩) [1] [] (Sub.refl _) ⟨zs,_,_,rfl,hz,by rw[show zs=[] from List.eq_nil_of_length_eq_zero (by omega)];exact aD.nil _ _ _,.inl ⟨List.eq_nil_of_length_eq_zero (by omega),rfl⟩⟩
 refine zD 9<|Sx qC (.tuple ⟨[v8,zI 0]⟩) [0,1] Y8 (Sub.refl _) ⟨zs,_,_,rfl,hz,ho8,.inr ⟨fun e=>by subst e;simp at*,rfl⟩⟩
theorem adm{rows:List bX}{ro:Nat→Option Obj}(hK:gG ro l K)(hV:fU K)(hR:rows.length≤2)(hB:mM ro l K rows):au5 zT 46 [.agg ⟨l⟩] ro [] (fun r aE Y=>∃f zs v e,r= .tuple ⟨[pV f,v,zI e]⟩∧pq aE f K rows∧zs.Perm (ek K (cv K) (dC K.gone K.new K.ai) rows)∧aD v 8 124 cU zs Y∧((zs=[]∧e=9)∨(zs≠[]∧e=0))):=by
 obtain⟨v0,v1,v3,v4,v5,v6,v7,vb,fa,fc,hv,rfl,_⟩:=hK
 refine azE (hm:=av) [] [] bB fun fr=>zD 2<|jn fun b1=>jd 7 [0]<|jc (vs:=[.agg ⟨[v0,v1,.slice fa 0 fc,v3,v4,v5,v6,v7,zI K.gone,zI K.new,zI K.ai,vb]⟩]) [] (hB _ (Sub.refl _)) ?_
 rintro _ Z3 ⟨f10,rfl,aub⟩
 refine zD 5<|jf [0] Z3 (fun AR cy ju=>?_)
 have Ma:=aub _ cy ju
 refine zD 12<|M8 (vs:=[zP f10]) [] (fun _ _ h=>h) (ars Ma hV hR) ?_
 rintro _ Y18 ⟨zs,v18,e18,rfl,hz,YA,he⟩
 refine zD 16<|aNt qC.a (.tuple ⟨[zP f10,v18,zI e18]⟩) [0,2] Y18 cy ⟨f10,zs,v18,e18,rfl,Ma,hz,YA,he⟩
theorem akd{x:aA}{ro:Nat→Option Obj}:dL zT 53 [.agg ⟨[zI x.past,zI x.w0,zI x.w1,zI x.w2,zI x.w3,zI x.gone,zI x.new,zI x.ai]⟩] ro (zI x.ai):=by
 refine bI av [] [] bB<|zD 2<|jn fun b1=>jd 9 [0]<|aJ q0 (zI x.ai) [] [] [] (Sub.refl _) ⟨_,_,rfl,rfl,rfl,rfl⟩
theorem adg{rows:List bX}{ro:Nat→Option Obj}(hK:gG ro l K)(hV:fU K)(hR:rows.length≤2)(hB:mM ro l K rows):Hm zT 52 [.agg ⟨l⟩,.func (.func 53) ⟨[]⟩ ⟨[]⟩] ro [] (fun r Y=>∃zs a b e,zs.Perm (ek K (cv K) (dC K.gone K.new K.ai) rows)∧Y=[]∧r= .tuple ⟨[.agg ⟨[zI a,zI b]⟩,zI e]⟩∧((zs=[]∧a=0∧b=0∧e=9)∨(zs≠[]∧a=uz (zs.map fun x=>x.ai)∧b=Bz (zs.map fun x=>x.ai)∧e=0))):=by
 obtain⟨v0,v1,v3,v4,v5,v6,v7,vb,fa,fc,hv,rfl,_⟩:=id hK
 refine H2 av [] [] bB fun fr=>zD 2<|jn fun b2=>jn fun b4=>jd 5 [1]<|arC (vs:=[.agg ⟨[v0,v1,.slice fa 0 fc,v3,v4,v5,v6,v7,zI K.gone,zI K.new,zI K.ai,vb]⟩]) [] (fun _ _ h=>h) (adm hK hV hR hB) ?_
 rintro _ aE Y14 cy ⟨f14,zs,v14,Mp,rfl,Ma,hz,SU,he⟩
 have akG:∀x∈zs,(-4≤x.gone∧x.gone≤4)∧(-4≤x.new∧x.new≤4)∧(0≤x.ai∧x.ai≤4):=fun x hx=>by obtain⟨i,r,p,_,_,rfl,_⟩:=oA (hz.mem_iff.1 hx);exact sq hV r i p
 have hzl:zs.length≤1250:=by rw[hz.length_eq];exact sO hV _ _ hR
 refine zD 7<|jf [0] Y14 (fun ro4 pY ZP=>?_)
 have hZ1:=SU.lq ZP
 obtain⟨Bn,abM,abK,xX,rfl,abL,R6,R5⟩:=hZ1
 refine zD 7<|js 19 (!decide (Mp=0)) (fun h5=>?_) (fun h5=>?_)
 ·
  replace h5:=of_decide_eq_false (by simpa using h5)
  have yx:zs=[]∧Mp=9:=by rcases he with h| ⟨_,h⟩;exact h;omega
  refine jd 9 [0]<|arA qC.a.a (.tuple ⟨[.agg ⟨[zI 0,zI 0]⟩,zI Mp]⟩) [0] [2] [] (cy.trans pY) ⟨zs,_,_,_,hz,rfl,rfl,.inl ⟨yx.1,rfl,rfl,yx.2⟩⟩
 replace h5:=of_decide_eq_true (by simpa using h5)
 have yx:zs≠[]∧Mp=0:=by rcases he with ⟨_,h⟩|h;omega;exact h
 have hzp:0 <zs.length:=List.length_pos_iff.2 yx.1
 refine zD 14<|oU<|eG [1,1,1,1,0,1,0,0] [] (fun(zz:Nat×Value×Cells)=>[(1,.func (.func 53) ⟨[]⟩ ⟨[]⟩),(4,zP b4),(5,zI 0),(9,zz.2.1),(22,.slice Bn zs.length xX),(23,zI (zs.length:Int)),(24,zI (zz.1:Int))]) (fun(zz:Nat×Value×Cells)=>[.l zz.2.2,.b b4 (.cells ⟨[zI 0,zI 0]⟩ 64 (0,0)),.b b2 (.cells ⟨[v0,v1,.slice fa 0 fc,v3,v4,v5,v6,v7,zI K.gone,zI K.new,zI K.ai,vb]⟩ 38 (0,0)),.l fr]) (fun(zz:Nat×Value×Cells)=>zz.1≤zs.length∧aD zz.2.1 1 3 db ((zs.take zz.1).map fun x=>x.ai) zz.2.2) (fun(zz:Nat×Value×Cells)=>zs.length-zz.1) (⟨0,zS,[]⟩) ⟨by dsimp only;omega,aD.nil _ _ _⟩ [0,1,2,3] ?_
 rintro⟨k,vS,LS⟩ hI K1 bU rest
 dsimp only at hI
 refine zD 5<|zJ 25 ((k:Int) <(zs.length:Int)) (fun h6=>?_) fun h6=>?_
 ·
  refine zD 6 ?_
  obtain⟨Q5,Yq⟩:=zG zs k
  refine iE xX 8 R6 Yq<|jl 0 (R5 _ _ Yq)<|jn fun Q0=>jd 6 [0,0]<|jp (vs:=[.agg ⟨[zI Q5.past,zI Q5.w0,zI Q5.w1,zI Q5.w2,zI Q5.w3,zI Q5.gone,zI Q5.new,zI Q5.ai]⟩]) [] [] (fun aE hs hZ=>(akd (x:=Q5)))<|jn fun b32=>jk (sz:=1) (ps:=((zs.take k).map fun x=>x.ai)) (qs:=[Q5.ai]) (enc:=db) (w:= .slice (some ⟨b32,0,none⟩) 1 1) [2] [0] [(b32,.cells ⟨([Q5.ai].map db).flatten⟩ 3 (0,0))] (hI.2) (fun s _ hZ=>cg [Q5.ai] (hZ _ (.head _)) (by intro p hp;rfl)) (fun p _=>aj rfl) (by simp only[List.length_map,List.length_take,List.length_cons,List.length_nil];omega) (fun v33 L33 aec=>?_)
  obtain⟨aJ4,aJI,aQg⟩:=aec.form
  subst aQg
  refine zD 3<|ja ((k:Int)+1) (by omega)<|zD 2<|bO bU (⟨k+1,(.slice aJ4 ((((zs.take k).map fun x=>x.ai)++[Q5.ai])).length aJI),L33⟩) ⟨by dsimp only;omega,by rw[jq Yq,List.map_append];exact aec⟩ (by dsimp only;omega) [0,3,4,5] (Sub.refl _)
 refine zD 5<|jp (vs:=[vS]) [0] LS (fun aE hs hZ=>anq (hI.2.lq hZ) ⟨by simp only[List.length_map,List.length_take];omega,by simp only[List.length_map,List.length_take];omega⟩) ?_
 refine jd 4 [1]<|arA qC.a.a (.tuple ⟨[.agg ⟨[zI (uz ((zs.take k).map fun x=>x.ai)),zI (Bz ((zs.take k).map fun x=>x.ai))]⟩,zI 0]⟩) [1] [3] [] (cy.trans pY) ⟨zs,_,_,_,hz,rfl,rfl,.inr ⟨yx.1,by rw[show k=zs.length by omega,List.take_length],by rw[show k=zs.length by omega,List.take_length],rfl⟩⟩
theorem arp{rows:List bX}{ro:Nat→Option Obj}(hK:gG ro l K)(hV:fU K)(hR:rows.length≤2)(hB:mM ro l K rows):Hm zT 21 [.agg ⟨l⟩] ro [] (fun r Y=>∃zs a b e,zs.Perm (ek K (cv K) (dC K.gone K.new K.ai) rows)∧Y=[]∧r= .tuple ⟨[.agg ⟨[zI a,zI b]⟩,zI e]⟩∧((zs=[]∧a=0∧b=0∧e=9)∨(zs≠[]∧a=uz (zs.map fun x=>x.ai)∧b=Bz (zs.map fun x=>x.ai)∧e=0))):=by
 obtain⟨v0,v1,v3,v4,v5,v6,v7,vb,fa,fc,hv,rfl,_⟩:=id hK
 refine H2 av [] [] bB fun fr=>zD 2<|jn fun b1=>jn fun b2=>jd 5 [1]<|M8 (vs:=[.agg ⟨[v0,v1,.slice fa 0 fc,v3,v4,v5,v6,v7,zI K.gone,zI K.new,zI K.ai,vb]⟩,.func (.func 53) ⟨[]⟩ ⟨[]⟩]) [] (fun _ _ h=>h) (adg hK hV hR hB) ?_
 rintro _ _ ⟨zs,a5,c5,e5,hz,rfl,rfl,he⟩
 refine jg 0 []<|jd 6 [0]<|arA qC (.tuple ⟨[.agg ⟨[zI a5,zI c5]⟩,zI e5]⟩) [0] [2] [] (Sub.refl _) ⟨zs,_,_,_,hz,rfl,rfl,he⟩
theorem aro{a:Int}{ro:Nat→Option Obj}:dL zT 80 [zI a,zI b] ro (.bool (decide (a=b))):=by
 refine bI av [] [] bB<|zD 12<|aJ q0 (.bool (decide (a=b))) [] [] [] (Sub.refl _) ⟨_,_,rfl,rfl,rfl,rfl⟩
theorem alR{a:Int}{s:Bool}{ro:Nat→Option Obj}:dL zT 17 [zI a,zI b,.bool s] ro (.agg ⟨[zI a,zI b,.bool s]⟩):=by
 refine bI av [] [] bB<|zD 2<|jn fun b6=>jd 10 [0]<|aJ q0 (.agg ⟨[zI a,zI b,.bool s]⟩) [0] [] [] (Sub.refl _) ⟨_,_,rfl,rfl,rfl,rfl⟩
theorem j6{w:ByteArray}{a c:Int}{ro:Nat→Option Obj}:dL zT 79 [.string w,zI a,zI b,zI c] ro (.agg ⟨[.string w,zI a,zI b,zI c,.bool false]⟩):=by
 refine bI av [] [] bB<|zD 2<|jn fun b8=>jd 11 [0]<|aJ q0 (.agg ⟨[.string w,zI a,zI b,zI c,.bool false]⟩) [0] [] [] (Sub.refl _) ⟨_,_,rfl,rfl,rfl,rfl⟩
theorem aFe{w:ByteArray}{a:Int}{ro:Nat→Option Obj}:dL zT 78 [.string w,zI a] ro (.agg ⟨[.string w,zI (-1),zI a,(zS)]⟩):=by
 refine bI av [] [] bB<|zD 2<|jn fun b4=>jd 9 [0]<|aJ q0 (.agg ⟨[.string w,zI (-1),zI a,zS]⟩) [0] [] [] (Sub.refl _) ⟨_,_,rfl,rfl,rfl,rfl⟩
theorem cIs{w:ByteArray}{a:Int}{va:Option Addr}{vn vc:Nat}{ro:Nat→Option Obj}:dL zT 77 [.string w,zI a,(.slice va vn vc)] ro (.agg ⟨[.string w,zI a,zI (-1),(.slice va vn vc)]⟩):=by
 refine bI av [] [] bB<|zD 2<|jn fun b6=>jd 10 [0]<|aJ q0 (.agg ⟨[.string w,zI a,zI (-1),(.slice va vn vc)]⟩) [0] [] [] (Sub.refl _) ⟨_,_,rfl,rfl,rfl,rfl⟩
end Go.L
