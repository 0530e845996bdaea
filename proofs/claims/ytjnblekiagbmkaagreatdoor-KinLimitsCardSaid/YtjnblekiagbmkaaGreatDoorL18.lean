/- Part 18 of the proof: a program logic, contracts, a theorem on goroutines. -/
import Derived.Test.YtjnblekiagbmkaaGreatDoorL17
set_option maxRecDepth 100000
set_option linter.all false
namespace Go.L
open Go Go.Conc Go.Proofs
variable {Z LM:Cells} {ways:List (List aM)} {i ck s rm b Hi r1:Nat} {α:Type} {seen:List Nat} {c5 c6:Int}
theorem QE{l:List α}{k:Nat}{x:α}(hn:l.Nodup)(h:l[k]?=some x):x∉l.take k:=fun hx=>by
 obtain⟨hk,he⟩:=List.getElem?_eq_some_iff.1 h
 obtain⟨i,hi⟩:=List.getElem?_of_mem hx
 have hik:i <k:=by have:=(List.getElem?_eq_some_iff.1 hi).1;rw[List.length_take] at this;omega
 rw[List.getElem?_take_of_lt hik] at hi
 obtain⟨hi1,Sq⟩:=List.getElem?_eq_some_iff.1 hi
 have:=(List.getElem_inj (h₀:=hi1) (h₁:=hk) hn).1 (Sq.trans he.symm)
 omega
def xv(n:Int):Bool:= !decide (Int.tmod n 2=0)
def Du(n:Int):Bool:=decide (Int.tmod n 2=0)
theorem q5{p:α→Bool}{l:List α}{x:α}(h:l[i]?=some x):(l.take (i+1)).filter p=(l.take i).filter p++bif p x then [x] else []:=by
 rw[fq h,List.filter_append]
 cases hp:p x<;>simp[hp]
def qX(l:List ah):List (List ah):=[l.filter fun x=>xv x.n,l.filter fun x=>Du x.n]
theorem aef{l h:List ah}{x:ah}(hh:h∈qX l)(hx:x∈h):x∈l:=by
 simp only[qX,List.mem_cons,List.not_mem_nil,or_false] at hh
 rcases hh with rfl|rfl<;>exact(List.mem_filter.1 hx).1
theorem aeg{l h:List ah}(hh:h∈qX l):h.length≤l.length:=by
 simp only[qX,List.mem_cons,List.not_mem_nil,or_false] at hh
 rcases hh with rfl|rfl<;>exact List.length_filter_le _ _
def Hr(s:Int)(h:List ah):List (aj×aj):=(h.zip h.reverse).map fun p=>(mH s p.1,mH s p.2)
def ZY(s:Int)(l:List ah):List (aj×aj):=(qX l).flatMap (Hr s)
def Ih(s:Int)(l:List ah):List (aj×aj):=l.map fun x=>(mH s x,⟨s,if xv x.n=true then x.n+1 else x.n-1,x.l⟩)
def rB(l:List ah):Int:=match l[l.length-1]? with
 |some y=>y.n+Int.tmod y.n 2
 |none=>0
def IY(s o:Int)(l:List ah)(r:Int):List (aj×aj):=l.map fun x=>(mH s x,⟨o,x.n+r,x.l⟩)
def gU(u:List (aj×aj))(x:aj):aj:=u.foldl (fun y p=>if x=p.1 then p.2 else y) x
theorem akF(u:List (aj×aj))(a b:aj):gU (u++[(a,b)])=fun x=>if x=a then b else gU u x:=by
 funext x;simp only[gU,List.foldl_append,List.foldl_cons,List.foldl_nil]
theorem ail{s:Int}{h:List ah}{x y:ah}(hx:h[i]?=some x) (hy:h[(((h.length:Int)-1)-(i:Int)).toNat]?=some y):(Hr s h)[i]?=some (mH s x,mH s y):=by
 have hi:=(List.getElem?_eq_some_iff.1 hx).1
 have h2:h.reverse[i]?=some y:=by rw[List.getElem?_reverse hi,←hy];congr 1;omega
 have:=(List.getElem?_zip_eq_some (z:=(x,y))).2 ⟨hx,h2⟩
 simp only[Hr,List.getElem?_map,this];rfl
theorem aaH(s:Int)(h:List ah):(Hr s h).length=h.length:=by simp[Hr]
theorem abT{β:Type}{f:α→β}{l:List α}{x:α}(h:l[i]?=some x):(l.map f)[i]?=some (f x):=by rw[List.getElem?_map,h];rfl
theorem akM{β:Type}{f:α→List β}{l:List α}{x:α}(h:l[i]?=some x):(l.take (i+1)).flatMap f=(l.take i).flatMap f++f x:=by rw[fq h,List.flatMap_append,List.flatMap_singleton]
theorem MV.upd{S:List (List ah)}(hO:eZ S){F:List (aj×Value)}{u:List (aj×aj)}{l:List ah}{x:ah}{y:aj}{T:TypeId}(h:MV Z F (gU u))(hk:F.map (·.1)=bA S)(hl:S[s]?=some l) (hx:x∈l):
 MV (Z++[(b,.cells ⟨cw y⟩ T (0,0))]) (mi (mH s x) (.slice (some ⟨b,0,none⟩) 1 1) F) (gU (u++[(mH s x,y)]))∧(mi (mH s x) (.slice (some ⟨b,0,none⟩) 1 1) F).map (·.1)=bA S:=by
 have hm:mH s x∈F.map (·.1):=by rw[hk];exact FO hl hx
 have hn:(F.map (·.1)).Nodup:=by rw[hk];exact R3 hO _
 rw[akF]
 exact⟨h.set hm hn fun aL hk=>bR [y] (hk _ (.head _)) (fun _ _=>rfl),(MS hm hn).1.trans hk⟩
theorem Nc{S:List (List ah)}(hO:eZ S){F:List (aj×Value)}{k:Nat}{x:aj}{T:TypeId}(h:MV Z F id)(hk:F.map (·.1)=(bA S).take k)(hx:(bA S)[k]?=some x):
 MV (Z++[(b,.cells ⟨cw x⟩ T (0,0))]) (mi x (.slice (some ⟨b,0,none⟩) 1 1) F) id∧(mi x (.slice (some ⟨b,0,none⟩) 1 1) F).map (·.1)=(bA S).take (k+1):=by
 have:x∉F.map (·.1):=by rw[hk];exact QE (R3 hO _) hx
 rw[ZX this]
 exact⟨h.add fun aL hk=>bR [x] (hk _ (.head _)) (fun _ _=>rfl),by rw[List.map_append,hk,fq hx];rfl⟩
theorem Je{v:Value}{S:List (List ah)}{ro:Nat→Option Obj}(hS:cK ro v S)(hO:eZ S):eG zT 157 [.agg ⟨[v]⟩] ro [] (fun r Y=>∃rm F LM Z,r= .map (some rm)∧Y=LM++Z∧j6 rm oK F LM∧F.map (·.1)=bA S∧MV Z F id):=by
 have xM:=hS
 obtain⟨ws,ht,cY⟩:=hS
 obtain⟨fg,AP,AN,eA,rfl,AO,tq,tk⟩:=ht
 have hln:=cY.len
 have HI:=hO.two
 have hhl:=tZ hO
 refine bC au [] [] bn<|zD 2<|jn fun b1=>zD 4<|jmk oK fun r6 L6 hm6=>jd 6 [1]<|jc (vs:=[.agg ⟨[.slice fg ws.length eA]⟩]) [] (VF xM hO) ?_
 rintro v8 L8 ho8
 refine DY ho8<|zD 1<|jf [0] L8 (fun AM bW jC=>?_)
 have hzh:=ho8.nv jC
 obtain⟨aLz,bam,baj,axr,rfl,bak,aLy,aLx⟩:=hzh
 refine zD 2<|qB<|eN [1,1,0,1,0,0] [] (fun(zz:Nat×(List (aj×Value))×Cells×Cells)=>[(2,(.map none)),(3,(.map (some r6))),(8,.slice aLz ((bA S).length) axr),(9,zI ((bA S).length:Int)),(10,zI (zz.1:Int))]) (fun(zz:Nat×(List (aj×Value))×Cells×Cells)=>[.l zz.2.2.1,.l zz.2.2.2,.b b1 (.cells ⟨[.slice fg ws.length eA]⟩ 27 (0,0))]) (fun(zz:Nat×(List (aj×Value))×Cells×Cells)=>zz.1≤(bA S).length∧j6 r6 oK zz.2.1 zz.2.2.1∧zz.2.1.map (·.1)=(bA S).take zz.1∧MV zz.2.2.2 zz.2.1 id) (fun(zz:Nat×(List (aj×Value))×Cells×Cells)=>(bA S).length-zz.1) (⟨0,[],L6,[]⟩) ⟨by dsimp only;omega,hm6,rfl,fun _ _ _ h=>(by cases h)⟩ [1,0,2] ?_
 rintro⟨k,F,LM,Z⟩ hI K1 bF rest
 dsimp only at hI
 refine zD 5<|zJ 11 ((k:Int) <((bA S).length:Int)) (fun h4=>?_) fun h4=>?_
 ·
  refine zD 6 ?_
  obtain⟨tj,p8⟩:=zG ((bA S)) k
  refine iW axr 3 aLy p8<|jl 0 (aLx _ _ p8)<|jn fun b5=>jd 6 [0,0,0]<|jn fun b17=>jmu (kv:=oK) (F:=F) (r:=r6) (K:=132) 2 tj (.slice (some ⟨b17,0,none⟩) 1 1) Cz hI.2.1 fun Lm5 hm5=>zD 2<|ja ((k:Int)+1) (by omega)<|zD 2<|Oi bF (⟨k+1,_,Lm5,Z++[(b17,.cells ⟨[zI tj.h,zI tj.n,zI tj.l]⟩ 132 (0,0))]⟩) ⟨by dsimp only;omega,hm5,(Nc (T:=132) hO hI.2.2.2 hI.2.2.1 p8).2,(Nc (T:=132) hO hI.2.2.2 hI.2.2.1 p8).1⟩ (by dsimp only;omega) [[0],[3,1],[4]] (Sub.refl _)
 refine zD 8<|aF q0.a ((.map (some r6))) [] [0,1] (LM++Z) bW ⟨_,_,rfl,rfl,_,F,LM,Z,rfl,rfl,hI.2.1,by rw[hI.2.2.1,List.take_of_length_le (by omega)],hI.2.2.2⟩
theorem gAt{h n l:Int}{ro:Nat→Option Obj}:dL zT 234 [zI h,zI n,zI l] ro (.agg ⟨[zI h,zI n,zI l]⟩):=by
 refine bC au [] [] bn<|zD 2<|jn fun b6=>jd 11 [0]<|aF q0 (.agg ⟨[zI h,zI n,zI l]⟩) [0] [] [] (Sub.refl _) ⟨_,_,rfl,rfl,rfl,rfl⟩
theorem aD8{x:ah}{ro:Nat→Option Obj}:dL zT 232 [.agg ⟨[zI x.n,zI x.l]⟩] ro (.bool (xv x.n)):=by
 refine bC au [] [] bn<|zD 2<|jn fun b1=>jd 11 [0]<|aF q0 (.bool (!decide ((Int.tmod x.n 2)=0))) [] [] [] (Sub.refl _) ⟨_,_,rfl,rfl,rfl,rfl⟩
theorem afe{v:Value}{l:List ah}{ro:Nat→Option Obj}(hl:bK ro v 2 cI l)(hn:l.length≤4):eG zT 231 [v,.func (.func 232) ⟨[]⟩ ⟨[]⟩] ro [] (fun r Y=>az r 2 54 cI (l.filter fun x=>xv x.n) Y):=by
 obtain⟨fL,rD,rC,eV,rfl,tH,lJ,mE⟩:=hl
 refine bC au [] [] bn<|zD 16<|qB<|eN [1,1,0,1,0,0] [] (fun(zz:Nat×Value×Cells)=>[(1,.func (.func 232) ⟨[]⟩ ⟨[]⟩),(4,zS),(5,zz.2.1),(8,.slice fL l.length eV),(9,zI (l.length:Int)),(10,zI (zz.1:Int))]) (fun(zz:Nat×Value×Cells)=>[.l zz.2.2]) (fun(zz:Nat×Value×Cells)=>zz.1≤l.length∧az zz.2.1 2 54 cI ((l.take zz.1).filter fun x=>xv x.n) zz.2.2) (fun(zz:Nat×Value×Cells)=>l.length-zz.1) (⟨0,zS,[]⟩) ⟨by dsimp only;omega,az.nil _ _ _⟩ [0] ?_
 rintro⟨k,vO,LO⟩ hI K1 bF rest
 dsimp only at hI
 refine zD 5<|zJ 11 ((k:Int) <(l.length:Int)) (fun h1=>?_) fun h1=>?_
 ·
  refine zD 6 ?_
  obtain⟨tj,p8⟩:=zG l k
  refine iW eV 2 lJ p8<|jl 0 (mE _ _ p8)<|jn fun b7=>jd 6 [0,0]<|jp (vs:=[.agg ⟨[zI tj.n,zI tj.l]⟩]) [] [] (fun aA hs hZ=>(aD8 (x:=tj)))<|zD 1<|js 16 (xv tj.n) (fun h2=>?_) (fun h2=>?_)
  ·
   refine jd 4 [0]<|jn fun GR=>k8 (sz:=2) (ps:=((l.take k).filter fun x=>xv x.n)) (qs:=[(⟨tj.n,tj.l⟩:ah)]) (enc:=cI) (w:= .slice (some ⟨GR,0,none⟩) 1 1) [2] [0] [(GR,.cells ⟨([(⟨tj.n,tj.l⟩:ah)].map cI).flatten⟩ 54 (0,0))] (hI.2) (fun s _ hZ=>cb [(⟨tj.n,tj.l⟩:ah)] (hZ _ (.head _)) (by intro p hp;rfl)) (fun p _=>ar rfl) (by have:=List.length_filter_le (fun x:ah=>xv x.n) (l.take k);rw[List.length_take] at this;simp only[List.length_cons,List.length_nil];omega) (fun v20 L20 FN=>?_)
   obtain⟨aoo,aoe,uP⟩:=FN.form
   subst uP
   refine zD 3<|ja ((k:Int)+1) (by omega)<|zD 2<|bI bF (⟨k+1,(.slice aoo ((((l.take k).filter fun x=>xv x.n)++[(⟨tj.n,tj.l⟩:ah)])).length aoe),L20⟩) ⟨by dsimp only;omega,by rw[q5 p8,show xv tj.n=true from (by assumption)];exact FN⟩ (by dsimp only;omega) [0] (Sub.refl _)
  refine zD 3<|ja ((k:Int)+1) (by omega)<|zD 2<|bI bF (⟨k+1,vO,LO⟩) ⟨by dsimp only;omega,by rw[q5 p8,show xv tj.n=false from (by assumption)];simpa using hI.2⟩ (by dsimp only;omega) [1] (Sub.refl _)
 refine zD 8<|aF q0 (vO) [] [0] LO (Sub.refl _) ⟨_,_,rfl,rfl,by have:=hI.2;rwa[List.take_of_length_le (by omega)] at this⟩
theorem aEf{x:ah}{ro:Nat→Option Obj}:dL zT 233 [.agg ⟨[zI x.n,zI x.l]⟩] ro (.bool (Du x.n)):=by
 refine bC au [] [] bn<|zD 2<|jn fun b1=>jd 11 [0]<|aF q0 (.bool (decide ((Int.tmod x.n 2)=0))) [] [] [] (Sub.refl _) ⟨_,_,rfl,rfl,rfl,rfl⟩
theorem afd{v:Value}{l:List ah}{ro:Nat→Option Obj}(hl:bK ro v 2 cI l)(hn:l.length≤4):eG zT 231 [v,.func (.func 233) ⟨[]⟩ ⟨[]⟩] ro [] (fun r Y=>az r 2 54 cI (l.filter fun x=>Du x.n) Y):=by
 obtain⟨fL,rD,rC,eV,rfl,tH,lJ,mE⟩:=hl
 refine bC au [] [] bn<|zD 16<|qB<|eN [1,1,0,1,0,0] [] (fun(zz:Nat×Value×Cells)=>[(1,.func (.func 233) ⟨[]⟩ ⟨[]⟩),(4,zS),(5,zz.2.1),(8,.slice fL l.length eV),(9,zI (l.length:Int)),(10,zI (zz.1:Int))]) (fun(zz:Nat×Value×Cells)=>[.l zz.2.2]) (fun(zz:Nat×Value×Cells)=>zz.1≤l.length∧az zz.2.1 2 54 cI ((l.take zz.1).filter fun x=>Du x.n) zz.2.2) (fun(zz:Nat×Value×Cells)=>l.length-zz.1) (⟨0,zS,[]⟩) ⟨by dsimp only;omega,az.nil _ _ _⟩ [0] ?_
 rintro⟨k,vO,LO⟩ hI K1 bF rest
 dsimp only at hI
 refine zD 5<|zJ 11 ((k:Int) <(l.length:Int)) (fun h1=>?_) fun h1=>?_
 ·
  refine zD 6 ?_
  obtain⟨tj,p8⟩:=zG l k
  refine iW eV 2 lJ p8<|jl 0 (mE _ _ p8)<|jn fun b7=>jd 6 [0,0]<|jp (vs:=[.agg ⟨[zI tj.n,zI tj.l]⟩]) [] [] (fun aA hs hZ=>(aEf (x:=tj)))<|zD 1<|js 16 (Du tj.n) (fun h2=>?_) (fun h2=>?_)
  ·
   refine jd 4 [0]<|jn fun GR=>k8 (sz:=2) (ps:=((l.take k).filter fun x=>Du x.n)) (qs:=[(⟨tj.n,tj.l⟩:ah)]) (enc:=cI) (w:= .slice (some ⟨GR,0,none⟩) 1 1) [2] [0] [(GR,.cells ⟨([(⟨tj.n,tj.l⟩:ah)].map cI).flatten⟩ 54 (0,0))] (hI.2) (fun s _ hZ=>cb [(⟨tj.n,tj.l⟩:ah)] (hZ _ (.head _)) (by intro p hp;rfl)) (fun p _=>ar rfl) (by have:=List.length_filter_le (fun x:ah=>Du x.n) (l.take k);rw[List.length_take] at this;simp only[List.length_cons,List.length_nil];omega) (fun v20 L20 FN=>?_)
   obtain⟨aoo,aoe,uP⟩:=FN.form
   subst uP
   refine zD 3<|ja ((k:Int)+1) (by omega)<|zD 2<|bI bF (⟨k+1,(.slice aoo ((((l.take k).filter fun x=>Du x.n)++[(⟨tj.n,tj.l⟩:ah)])).length aoe),L20⟩) ⟨by dsimp only;omega,by rw[q5 p8,show Du tj.n=true from (by assumption)];exact FN⟩ (by dsimp only;omega) [0] (Sub.refl _)
  refine zD 3<|ja ((k:Int)+1) (by omega)<|zD 2<|bI bF (⟨k+1,vO,LO⟩) ⟨by dsimp only;omega,by rw[q5 p8,show Du tj.n=false from (by assumption)];simpa using hI.2⟩ (by dsimp only;omega) [1] (Sub.refl _)
 refine zD 8<|aF q0 (vO) [] [0] LO (Sub.refl _) ⟨_,_,rfl,rfl,by have:=hI.2;rwa[List.take_of_length_le (by omega)] at this⟩
theorem VD{v:Value}{S:List (List ah)}{l:List ah}{ck c2 c3 c4:Int}{F:List (aj×Value)}{ro:Nat→Option Obj}(hS:cK ro v S)(hO:eZ S)(hl:S[s]?=some l) (hm:j6 rm oK F LM) (hk:F.map (·.1)=bA S) (hM:MV Z F id):eG zT 210 [.agg ⟨[v]⟩,.agg ⟨[zI ck,zI (s:Int),zI c2,zI c3,zI c4,zI c5,zI c6]⟩,(.map (some rm))] ro (LM++Z) (fun r Y=>∃F' L' Z',r= zI 0∧Y=L'++Z'∧j6 rm oK F' L'∧F'.map (·.1)=bA S∧MV Z' F' (gU (ZY (s:Int) l))):=by
 obtain⟨ws,ht,cY⟩:=hS
 obtain⟨fg,AP,AN,eA,rfl,AO,tq,tk⟩:=ht
 have hln:=cY.len
 have HI:=hO.two
 have I3:=(List.getElem?_eq_some_iff.1 hl).1
 have hlm:=List.mem_of_getElem? hl
 have hll:=hO.len _ hlm
 refine bC au [.l LM,.l Z] [] bn<|zD 2<|jn fun b3=>jn fun b4=>zD 4<|HD [1,0,1] [] (fun(zz:Nat×Value×Value×Cells×Cells)=>[(2,(.map (some rm))),(4,zP b4),(6,zI 0),(25,.slice (some ⟨zz.1,0,none⟩) 2 2),(26,zI 2),(27,zI 0)]) (fun(zz:Nat×Value×Value×Cells×Cells)=>[.b zz.1 (.cells ⟨[zz.2.1,zz.2.2.1]⟩ 55 (0,0)),.l zz.2.2.2.1,.l zz.2.2.2.2,.l LM,.l Z,.b b4 (.cells ⟨[zI ck,zI (s:Int),zI c2,zI c3,zI c4,zI c5,zI c6]⟩ 58 (0,0)),.b b3 (.cells ⟨[.slice fg ws.length eA]⟩ 27 (0,0))]) (fun(zz:Nat×Value×Value×Cells×Cells)=>az zz.2.1 2 54 cI (l.filter fun x=>xv x.n) zz.2.2.2.1∧az zz.2.2.1 2 54 cI (l.filter fun x=>Du x.n) zz.2.2.2.2) ?_ (fun K1 bF=>?_)
 ·
  rintro⟨dW,v1,v2,L1,L2⟩ hC rest
  dsimp only at hC
  refine jf [0,1,2] ((dW,.cells ⟨[v1,v2]⟩ 55 (0,0))::(L1++L2)) (fun AM bW jC=>?_)
  have hhv:=bR (enc:=jz) (T:=55) [v1,v2] (jC _ (.head _)) (fun _ _=>rfl)
  have aAJ:dK (fun w l=>bK AM w 2 cI l) [v1,v2] (qX l):= .cons (hC.1.nv (Knows.left (Knows.tail jC))) (.cons (hC.2.nv (Knows.right (Knows.tail jC))) .nil)
  have hvl: [v1,v2].length=2:=rfl
  obtain⟨qga,qgb,qgo,qgc,OS,qgk,qgh,qgl⟩:=hhv
  simp only[Value.slice.injEq] at OS
  obtain⟨rfl,_,rfl⟩:=OS
  refine zD 1<|eN [1,0,1,0,0] [] (fun(zz:Nat×(List (aj×Value))×Cells×Cells)=>[(2,(.map (some rm))),(4,zP b4),(6,zI 0),(25,.slice (some ⟨dW,0,none⟩) 2 2),(26,zI 2),(27,zI (zz.1:Int))]) (fun(zz:Nat×(List (aj×Value))×Cells×Cells)=>[.l zz.2.2.1,.l zz.2.2.2,.b b4 (.cells ⟨[zI ck,zI (s:Int),zI c2,zI c3,zI c4,zI c5,zI c6]⟩ 58 (0,0)),.b b3 (.cells ⟨[.slice fg ws.length eA]⟩ 27 (0,0))]) (fun(zz:Nat×(List (aj×Value))×Cells×Cells)=>zz.1≤2∧j6 rm oK zz.2.1 zz.2.2.1∧zz.2.1.map (·.1)=bA S∧MV zz.2.2.2 zz.2.1 (gU (((qX l).take zz.1).flatMap (Hr (s:Int))))) (fun(zz:Nat×(List (aj×Value))×Cells×Cells)=>2-zz.1) (⟨0,F,LM,Z⟩) ⟨by dsimp only;omega,hm,hk,hM⟩ [0,1,2,3] ?_
  rintro⟨k,F,LM,Z⟩ hI K2 mL rest
  dsimp only at hI
  refine zD 5<|zJ 28 ((k:Int) <2) (fun h4=>?_) fun h4=>?_
  ·
   refine zD 6 ?_
   obtain⟨CZ,zv⟩:=zG ([v1,v2]) k
   refine iW 2 1 qgh zv ?_
   obtain⟨RE,arK,h30⟩:=aAJ.get zv
   obtain aAn:RE.length≤4:=by have:=aeg (List.mem_of_getElem? arK);omega
   obtain⟨ax1,baN,baL,aiy,rfl,baM,ax0,axZ⟩:=h30
   refine jl 0 (qgl _ _ zv)<|zD 9<|eN [1,0,1,0,0,1,1,0,0,1,1,0,0] [K2] (fun(zz:Nat×(List (aj×Value))×Cells×Cells)=>[(2,(.map (some rm))),(4,zP b4),(6,zI 0),(8,.slice ax1 RE.length aiy),(25,.slice (some ⟨dW,0,none⟩) 2 2),(26,zI 2),(27,zI (k:Int)),(31,.slice ax1 RE.length aiy),(32,zI (RE.length:Int)),(33,zI (zz.1:Int))]) (fun(zz:Nat×(List (aj×Value))×Cells×Cells)=>[.l zz.2.2.1,.l zz.2.2.2,.b b4 (.cells ⟨[zI ck,zI (s:Int),zI c2,zI c3,zI c4,zI c5,zI c6]⟩ 58 (0,0)),.b b3 (.cells ⟨[.slice fg ws.length eA]⟩ 27 (0,0))]) (fun(zz:Nat×(List (aj×Value))×Cells×Cells)=>zz.1≤RE.length∧j6 rm oK zz.2.1 zz.2.2.1∧zz.2.1.map (·.1)=bA S∧MV zz.2.2.2 zz.2.1 (gU (((qX l).take k).flatMap (Hr (s:Int))++(Hr (s:Int) RE).take zz.1))) (fun(zz:Nat×(List (aj×Value))×Cells×Cells)=>RE.length-zz.1) (⟨0,F,LM,Z⟩) ⟨by dsimp only;omega,hI.2.1,hI.2.2.1,by simpa using hI.2.2.2⟩ [0,1,2,3] ?_
   rintro⟨i,F,LM,Z⟩ hJ K3 Zi rest
   dsimp only at hJ
   refine zD 5<|zJ 34 ((i:Int) <(RE.length:Int)) (fun h5=>?_) fun h5=>?_
   ·
    refine zD 7 ?_
    obtain⟨x36,yw⟩:=zG RE i
    refine iW aiy 2 ax0 yw<|jl 0 (axZ _ _ yw)<|jn fun rY=>jd 14 [0,3,0,3]<|ja ((RE.length:Int)-1) (by omega)<|zD 1<|ja (((RE.length:Int)-1)-(i:Int)) (by omega) ?_
    obtain⟨x51,Dh⟩:=zG RE (((((RE.length:Int)-1)-(i:Int))).toNat)
    refine Mw (((RE.length:Int)-1)-(i:Int)) aiy 2 ax0 Dh (by omega)<|jl 0 (axZ _ _ Dh)<|zD 1<|aH 16 fun tw tz rP=>jn fun b54=>bw rP [1,2,3,4,5]<|aH 17 fun AX A5 BO=>jmu (kv:=oK) (F:=F) (r:=rm) (K:=132) 2 (mH (s:Int) x36) (.slice (some ⟨b54,0,none⟩) 1 1) Cz hJ.2.1 fun Lm8 hm8=>cM BO<|zD 2<|ja ((i:Int)+1) (by omega)<|zD 2 ?_
    have hup:=MV.upd (T:=132) (b:=b54) (y:=mH s x51) hO hJ.2.2.2 hJ.2.2.1 hl (aef (List.mem_of_getElem? arK) (List.mem_of_getElem? yw))
    exact Oi Zi (⟨i+1,_,Lm8,Z++[(b54,.cells ⟨[zI (s:Int),zI x51.n,zI x51.l]⟩ 132 (0,0))]⟩) ⟨by dsimp only;omega,hm8,hup.2,by rw[fq (ail yw Dh),←List.append_assoc];exact hup.1⟩ (by dsimp only;omega) [[0],[3,1],[4],[5]] (Sub.refl _)
   refine zD 3<|ja ((k:Int)+1) (by omega)<|zD 2<|bI mL (⟨k+1,F,LM,Z⟩) ⟨by dsimp only;omega,hJ.2.1,hJ.2.2.1,by have:=hJ.2.2.2;rw[List.take_of_length_le (l:=Hr (s:Int) RE) (by rw[aaH];omega)] at this;rw[akM arK];exact this⟩ (by dsimp only;omega) [0,1,2,3] (Sub.refl _)
  refine zD 7<|aF q0.a (zI 0) [] [0,1] (LM++Z) bW ⟨_,_,rfl,rfl,F,LM,Z,rfl,rfl,hI.2.1,hI.2.2.1,by have:=hI.2.2.2;rwa[show k=2 by omega] at this⟩
 refine jd 5 [1,0] ?_
 obtain⟨y5,acO⟩:=zG ws s
 refine iW eA 1 tq acO ?_
 obtain⟨l16,aAC,Lh⟩:=cY.get acO
 obtain bcR:=hO.len _ (List.mem_of_getElem? aAC)
 obtain asm:l16=l:=Option.some.inj (aAC.symm.trans hl)
 obtain⟨ayg,aMj,aMf,ayf,rfl,aMh,aMi,aMg⟩:=Lh
 refine jl 0 (tk _ _ acO)<|jd 4 [1,0] ?_
 obtain⟨rS,tV⟩:=zG ws s
 refine iW eA 1 tq tV ?_
 obtain⟨l23,aAB,Ec⟩:=cY.get tV
 obtain bcO:=hO.len _ (List.mem_of_getElem? aAB)
 obtain asl:l23=l:=Option.some.inj (aAB.symm.trans hl)
 obtain⟨ax8,aL7,aL3,ax7,rfl,aL5,aL6,aL4⟩:=Ec
 refine jl 0 (tk _ _ tV)<|zD 1<|aH 6 fun Zq aab X9=>jc (vs:=[.slice ayg l16.length ayf,.func (.func 232) ⟨[]⟩ ⟨[]⟩]) [] (afe (show bK _ _ _ _ _ from ⟨ayg,aMj,aMf,ayf,rfl,aMh,aMi,aMg⟩) (by omega)) ?_
 rintro v17 L17 BK
 obtain⟨za,y8,aj8⟩:=BK.form
 subst aj8
 refine bw X9 [1,2,3,4]<|aH 13 fun Zp aaa O2=>jc (vs:=[.slice ax8 l23.length ax7,.func (.func 233) ⟨[]⟩ ⟨[]⟩]) [] (afd (show bK _ _ _ _ _ from ⟨ax8,aL7,aL3,ax7,rfl,aL5,aL6,aL4⟩) (by omega)) ?_
 rintro v24 L24 az6
 obtain⟨aon,aod,aPD⟩:=az6.form
 subst aPD
 refine bw O2 [1,2,3,4,5]<|aH 14 fun Zo Z8 hL8=>jn fun dW=>bw hL8 [1,2,3,4,5,6]<|zD 2<|bI bF ⟨dW,(.slice za (l16.filter fun x=>xv x.n).length y8),(.slice aon (l23.filter fun x=>Du x.n).length aod),L17,L24⟩ ⟨by rw[←asm];exact BK,by rw[←asl];exact az6⟩ Nat.zero_lt_one [0,2,1,5,6,3,4] (Sub.refl _)
theorem T7{s:Int}{l:List ah}{x:ah}(h:l[i]?=some x):(Ih s l)[i]?=some (mH s x,⟨s,if xv x.n=true then x.n+1 else x.n-1,x.l⟩):=abT h
theorem ajC{s o r:Int}{l:List ah}{x:ah}(h:l[i]?=some x):(IY s o l r)[i]?=some (mH s x,⟨o,x.n+r,x.l⟩):=abT h
theorem raise_at{l:List ah}{x:ah}(h:l[(((l.length:Int)-1)).toNat]?=some x):rB l=x.n+Int.tmod x.n 2:=by
 have:l[l.length-1]?=some x:=by rw[←h];congr 1;omega
 simp only[rB,this]
theorem WV{l:List ah}(h:¬(l.length:Int)>0):rB l=0:=by
 have:l=[]:=List.eq_nil_of_length_eq_zero (by omega)
 subst this;rfl
theorem tm2{n:Int}(h:1≤n∧n≤9):0≤Int.tmod n 2∧Int.tmod n 2≤1:=by
 rw[Int.tmod_eq_emod_of_nonneg (by omega)]
 omega
theorem aaU{l:List ah}(h:∀x∈l,AE x):0≤rB l∧rB l≤10:=by
 unfold rB
 split
 ·rename_i y hy
  have h1:=(h y (List.mem_of_getElem? hy)).1
  have:=tm2 h1
  omega
 omega
theorem Pd{v:Value}{S:List (List ah)}{l:List ah}{ck c2 c3 c4:Int}{F:List (aj×Value)}{ro:Nat→Option Obj}(hS:cK ro v S)(hO:eZ S)(hl:S[s]?=some l) (hm:j6 rm oK F LM) (hk:F.map (·.1)=bA S) (hM:MV Z F id):eG zT 211 [.agg ⟨[v]⟩,.agg ⟨[zI ck,zI (s:Int),zI c2,zI c3,zI c4,zI c5,zI c6]⟩,(.map (some rm))] ro (LM++Z) (fun r Y=>∃F' L' Z',r= zI 0∧Y=L'++Z'∧j6 rm oK F' L'∧F'.map (·.1)=bA S∧MV Z' F' (gU (Ih (s:Int) l))):=by
 obtain⟨ws,ht,cY⟩:=hS
 obtain⟨fg,AP,AN,eA,rfl,AO,tq,tk⟩:=ht
 have hln:=cY.len
 have HI:=hO.two
 have I3:=(List.getElem?_eq_some_iff.1 hl).1
 have hlm:=List.mem_of_getElem? hl
 have hll:=hO.len _ hlm
 refine bC au [.l LM,.l Z] [] bn<|zD 2<|jn fun b3=>jn fun b4=>jd 9 [1,0] ?_
 obtain⟨fU,eI⟩:=zG ws s
 refine iW eA 1 tq eI ?_
 obtain⟨Oe,XX,Gb⟩:=cY.get eI
 obtain aPb:=hO.len _ (List.mem_of_getElem? XX)
 obtain Su:Oe=l:=Option.some.inj (XX.symm.trans hl)
 obtain aN8:=hO.ok _ (List.mem_of_getElem? XX)
 obtain⟨apr,aMm,aMk,aa4,rfl,aMl,apq,apo⟩:=Gb
 refine jl 0 (tk _ _ eI)<|zD 4<|eN [1,0,1,0,0] [] (fun(zz:Nat×(List (aj×Value))×Cells×Cells)=>[(2,(.map (some rm))),(4,zP b4),(6,zI 0),(15,.slice apr Oe.length aa4),(16,zI (Oe.length:Int)),(17,zI (zz.1:Int))]) (fun(zz:Nat×(List (aj×Value))×Cells×Cells)=>[.l zz.2.2.1,.l zz.2.2.2,.b b4 (.cells ⟨[zI ck,zI (s:Int),zI c2,zI c3,zI c4,zI c5,zI c6]⟩ 58 (0,0)),.b b3 (.cells ⟨[.slice fg ws.length eA]⟩ 27 (0,0))]) (fun(zz:Nat×(List (aj×Value))×Cells×Cells)=>zz.1≤Oe.length∧j6 rm oK zz.2.1 zz.2.2.1∧zz.2.1.map (·.1)=bA S∧MV zz.2.2.2 zz.2.1 (gU ((Ih (s:Int) l).take zz.1))) (fun(zz:Nat×(List (aj×Value))×Cells×Cells)=>Oe.length-zz.1) (⟨0,F,LM,Z⟩) ⟨by dsimp only;omega,hm,hk,hM⟩ [2,3,0,1] ?_
 rintro⟨i,F,LM,Z⟩ hI K1 bF rest
 dsimp only at hI
 refine zD 5<|zJ 18 ((i:Int) <(Oe.length:Int)) (fun h1=>?_) fun h1=>?_
 ·
  refine zD 6 ?_
  obtain⟨DM,xz⟩:=zG Oe i
  refine iW aa4 2 apq xz<|jl 0 (apo _ _ xz)<|jn fun b8=>jd 3 [0] ?_
  have HJ:=aN8 _ (List.mem_of_getElem? xz)
  have aOx:=HJ.1.1
  have aOw:=HJ.1.2
  refine jd 3 [0]<|ja (DM.n-1) (by omega)<|jd 6 [0]<|jp (vs:=[.agg ⟨[zI DM.n,zI DM.l]⟩]) [] [] (fun aA hs hZ=>(aD8 (x:=DM)))<|zD 1<|js 25 (xv DM.n) (fun h2=>?_) (fun h2=>?_)
  ·
   refine jd 4 [0]<|ja (DM.n+1) (by omega)<|jd 13 [3,0,3,0]<|jp (vs:=[zI (s:Int),zI (DM.n+1),zI DM.l]) [] [] (fun aA hs hZ=>gAt)<|aH 11 fun AY A6 Ad=>jn fun da=>bw Ad [1,2,3,4,5]<|aH 12 fun rZ si qG=>jmu (kv:=oK) (F:=F) (r:=rm) (K:=132) 2 (mH (s:Int) DM) (.slice (some ⟨da,0,none⟩) 1 1) Cz hI.2.1 fun Lm5 hm5=>cM qG<|zD 2<|ja ((i:Int)+1) (by omega)<|zD 2 ?_
   have hup:=MV.upd (T:=132) (b:=da) (y:=⟨s,DM.n+1,DM.l⟩) hO hI.2.2.2 hI.2.2.1 hl (by rw[←Su];exact List.mem_of_getElem? xz)
   exact Oi bF (⟨i+1,_,Lm5,Z++[(da,.cells ⟨[zI (s:Int),zI (DM.n+1),zI DM.l]⟩ 132 (0,0))]⟩) ⟨by dsimp only;omega,hm5,hup.2,by rw[fq (T7 (by rw[←Su];exact xz))];rw[if_pos (by assumption)];exact hup.1⟩ (by dsimp only;omega) [[0],[3,1],[4],[5]] (Sub.refl _)
  refine jd 13 [3,0,3,0]<|jp (vs:=[zI (s:Int),zI (DM.n-1),zI DM.l]) [] [] (fun aA hs hZ=>gAt)<|aH 11 fun tw tz rP=>jn fun da=>bw rP [1,2,3,4,5]<|aH 12 fun AX A5 BO=>jmu (kv:=oK) (F:=F) (r:=rm) (K:=132) 2 (mH (s:Int) DM) (.slice (some ⟨da,0,none⟩) 1 1) Cz hI.2.1 fun Lm8 hm8=>cM BO<|zD 2<|ja ((i:Int)+1) (by omega)<|zD 2 ?_
  have hup:=MV.upd (T:=132) (b:=da) (y:=⟨s,DM.n-1,DM.l⟩) hO hI.2.2.2 hI.2.2.1 hl (by rw[←Su];exact List.mem_of_getElem? xz)
  exact Oi bF (⟨i+1,_,Lm8,Z++[(da,.cells ⟨[zI (s:Int),zI (DM.n-1),zI DM.l]⟩ 132 (0,0))]⟩) ⟨by dsimp only;omega,hm8,hup.2,by rw[fq (T7 (by rw[←Su];exact xz))];rw[if_neg (by rw[show xv DM.n=false from (by assumption)];decide)];exact hup.1⟩ (by dsimp only;omega) [[0],[3,1],[4],[5]] (Sub.refl _)
 refine zD 7<|aF q0 (zI 0) [] [0,1] (LM++Z) (Sub.refl _) ⟨_,_,rfl,rfl,F,LM,Z,rfl,rfl,hI.2.1,hI.2.2.1,by have:=hI.2.2.2;rwa[List.take_of_length_le (by simp only[Ih,List.length_map];rw[←Su];omega)] at this⟩
theorem akH{v:Value}{S:List (List ah)}{o:Nat}{l lo:List ah}{ck c3 c4:Int}{F:List (aj×Value)}{ro:Nat→Option Obj}(hS:cK ro v S)(hO:eZ S)(hl:S[s]?=some l) (hm:j6 rm oK F LM) (hk:F.map (·.1)=bA S) (hM:MV Z F id) (z0:S[o]?=some lo):eG zT 213 [.agg ⟨[v]⟩,.agg ⟨[zI ck,zI (s:Int),zI (o:Int),zI c3,zI c4,zI c5,zI c6]⟩,(.map (some rm))] ro (LM++Z) (fun r Y=>∃F' L' Z',r= zI 0∧Y=L'++Z'∧j6 rm oK F' L'∧F'.map (·.1)=bA S∧MV Z' F' (gU (IY (s:Int) (o:Int) l (rB lo)))):=by
 obtain⟨ws,ht,cY⟩:=hS
 obtain⟨fg,AP,AN,eA,rfl,AO,tq,tk⟩:=ht
 have hln:=cY.len
 have HI:=hO.two
 have I3:=(List.getElem?_eq_some_iff.1 hl).1
 have hlm:=List.mem_of_getElem? hl
 have hll:=hO.len _ hlm
 have hso:=(List.getElem?_eq_some_iff.1 z0).1
 have aAr:=List.mem_of_getElem? z0
 have hr:=aaU (hO.ok _ aAr)
 have bcV:=hO.len _ aAr
 refine bC au [.l LM,.l Z] [] bn<|zD 2<|jn fun b3=>jn fun b4=>jd 8 [1,0] ?_
 obtain⟨TO,FC⟩:=zG ws s
 refine iW eA 1 tq FC ?_
 obtain⟨l18,arN,SP⟩:=cY.get FC
 obtain bcQ:=hO.len _ (List.mem_of_getElem? arN)
 obtain Ss:l18=l:=Option.some.inj (arN.symm.trans hl)
 obtain j5:=hO.ok _ (List.mem_of_getElem? arN)
 obtain⟨aye,baZ,baX,apn,rfl,baY,aMe,aMd⟩:=SP
 refine jl 0 (tk _ _ FC)<|jd 4 [1,0] ?_
 obtain⟨uW,sN⟩:=zG ws o
 refine iW eA 1 tq sN ?_
 obtain⟨RF,Sn,h24⟩:=cY.get sN
 obtain aAp:=hO.len _ (List.mem_of_getElem? Sn)
 obtain ad4:RF=lo:=Option.some.inj (Sn.symm.trans z0)
 obtain azz:=hO.ok _ (List.mem_of_getElem? Sn)
 obtain⟨apm,ax6,ax4,aa3,rfl,ax5,aiA,aiz⟩:=h24
 refine jl 0 (tk _ _ sN)<|zD 10<|ja ((l18.length:Int)+(RF.length:Int)) (by omega)<|zD 2<|zJ 30 (((l18.length:Int)+(RF.length:Int))>8) (fun h1=>?_) fun h1=>?_
 ·
  exfalso;omega
 refine zD 18<|HD [1,1,1,1,1] [] (fun(zz:Int)=>[(2,(.map (some rm))),(4,zP b4),(6,zI 0),(7,.slice aye l18.length apn),(9,zI zz)]) (fun(zz:Int)=>[.l LM,.l Z,.b b4 (.cells ⟨[zI ck,zI (s:Int),zI (o:Int),zI c3,zI c4,zI c5,zI c6]⟩ 58 (0,0)),.b b3 (.cells ⟨[.slice fg ws.length eA]⟩ 27 (0,0))]) (fun(zz:Int)=>zz=rB lo) ?_ (fun K1 bF=>?_)
 ·
  rintro q hQ rest
  refine zD 8<|eN [1,1,1,1,1,0,1,0,0] [] (fun(zz:Nat×(List (aj×Value))×Cells×Cells)=>[(2,(.map (some rm))),(4,zP b4),(9,zI q),(49,.slice aye l18.length apn),(50,zI (l18.length:Int)),(51,zI (zz.1:Int))]) (fun(zz:Nat×(List (aj×Value))×Cells×Cells)=>[.l zz.2.2.1,.l zz.2.2.2,.b b4 (.cells ⟨[zI ck,zI (s:Int),zI (o:Int),zI c3,zI c4,zI c5,zI c6]⟩ 58 (0,0)),.b b3 (.cells ⟨[.slice fg ws.length eA]⟩ 27 (0,0))]) (fun(zz:Nat×(List (aj×Value))×Cells×Cells)=>zz.1≤l18.length∧j6 rm oK zz.2.1 zz.2.2.1∧zz.2.1.map (·.1)=bA S∧MV zz.2.2.2 zz.2.1 (gU ((IY (s:Int) (o:Int) l (rB lo)).take zz.1))) (fun(zz:Nat×(List (aj×Value))×Cells×Cells)=>l18.length-zz.1) (⟨0,F,LM,Z⟩) ⟨by dsimp only;omega,hm,hk,hM⟩ [0,1,2,3] ?_
  rintro⟨i,F,LM,Z⟩ hI K2 mL rest
  dsimp only at hI
  refine zD 5<|zJ 52 ((i:Int) <(l18.length:Int)) (fun h2=>?_) fun h2=>?_
  ·
   refine zD 6 ?_
   obtain⟨x53,acK⟩:=zG l18 i
   refine iW apn 2 aMe acK<|jl 0 (aMd _ _ acK)<|jn fun jP=>jd 4 [0] ?_
   have HJ:=j5 _ (List.mem_of_getElem? acK)
   have aOx:=HJ.1.1
   have aOw:=HJ.1.2
   refine jd 4 [0]<|ja (x53.n+q) (by omega)<|zD 2<|zJ 59 ((x53.n+q)>40) (fun h3=>?_) fun h3=>?_
   ·
    exfalso;omega
   refine jd 13 [3,0,3,0]<|ja (x53.n+q) (by omega)<|jd 2 [0]<|jp (vs:=[zI (o:Int),zI (x53.n+q),zI x53.l]) [] [] (fun aA hs hZ=>gAt)<|aH 14 fun rZ si qG=>jn fun b74=>bw qG [1,2,3,4,5]<|aH 15 fun tw tz rP=>jmu (kv:=oK) (F:=F) (r:=rm) (K:=132) 2 (mH (s:Int) x53) (.slice (some ⟨b74,0,none⟩) 1 1) Cz hI.2.1 fun Lm6 hm6=>cM rP<|zD 2<|ja ((i:Int)+1) (by omega)<|zD 2 ?_
   have hup:=MV.upd (T:=132) (b:=b74) (y:=⟨o,x53.n+q,x53.l⟩) hO hI.2.2.2 hI.2.2.1 hl (by rw[←Ss];exact List.mem_of_getElem? acK)
   exact Oi mL (⟨i+1,_,Lm6,Z++[(b74,.cells ⟨[zI (o:Int),zI (x53.n+q),zI x53.l]⟩ 132 (0,0))]⟩) ⟨by dsimp only;omega,hm6,hup.2,by rw[fq (ajC (by rw[←Ss];exact acK))];have e:=hup.1;rw[hQ] at e ⊢;exact e⟩ (by dsimp only;omega) [[0],[3,1],[4],[5]] (Sub.refl _)
  refine zD 7<|aF q0 (zI 0) [] [0,1] (LM++Z) (Sub.refl _) ⟨_,_,rfl,rfl,F,LM,Z,rfl,rfl,hI.2.1,hI.2.2.1,by have:=hI.2.2.2;rwa[List.take_of_length_le (by simp only[IY,List.length_map];rw[←Ss];omega)] at this⟩
 refine zJ 34 ((RF.length:Int)>0) (fun h7=>?_) fun h7=>?_
 ·
  refine zD 4<|ja ((RF.length:Int)-1) (by omega) ?_
  obtain⟨x38,KN⟩:=zG RF ((((RF.length:Int)-1)).toNat)
  refine Mw ((RF.length:Int)-1) aa3 2 aiA KN (by omega)<|zD 1<|jl 0 (aiz _ _ KN)<|zD 2<|ja ((RF.length:Int)-1) (by omega) ?_
  obtain⟨Wk,HF⟩:=zG RF ((((RF.length:Int)-1)).toNat)
  refine Mw ((RF.length:Int)-1) aa3 2 aiA HF (by omega)<|zD 1<|jl 0 (aiz _ _ HF)<|zD 1<|ja (x38.n+(Int.tmod Wk.n 2)) (by have h1:=(azz _ (List.mem_of_getElem? KN)).1;have h2:=(azz _ (List.mem_of_getElem? HF)).1;have:=tm2 h2;omega) ?_
  refine zD 2 ?_
  have hra:=raise_at KN
  rw[ad4] at hra
  exact bI bF (x38.n+(Int.tmod Wk.n 2)) (by rw[←ad4];have e:x38=Wk:=Option.some.inj (KN.symm.trans HF);subst e;exact(raise_at KN).symm) Nat.zero_lt_one [2,3,0,1] (Sub.refl _)
 refine zD 2<|bI bF 0 (by rw[←ad4];exact(WV (by omega)).symm) Nat.zero_lt_one [2,3,0,1] (Sub.refl _)
def atQ(S:List (List ah))(c:aM):List (aj×aj):=
 if c.k=1 then ZY c.st (S[c.st.toNat]?.getD []) else if c.k=2 then Ih c.st (S[c.st.toNat]?.getD []) else IY c.st c.ot (S[c.st.toNat]?.getD []) (rB (S[c.ot.toNat]?.getD []))
def yo(S:List (List ah))(c:aM)(x:aj):aj:=gU (atQ S c) x
theorem pO{l:List α}(h:l.length=2):∃a b,l=[a,b]:=by
 match l,h with
 | [a,b],_=>exact⟨a,b,rfl⟩
theorem Pe{ro:Nat→Option Obj}:dL zT 185 [] ro (.agg ⟨[.nilFunc,.func (.func 210) ⟨[]⟩ ⟨[]⟩,.func (.func 211) ⟨[]⟩ ⟨[]⟩,.func (.func 212) ⟨[]⟩ ⟨[]⟩,.func (.func 213) ⟨[]⟩ ⟨[]⟩,.func (.func 214) ⟨[]⟩ ⟨[]⟩,.func (.func 215) ⟨[]⟩ ⟨[]⟩,.func (.func 216) ⟨[]⟩ ⟨[]⟩]⟩):=by
 refine bC au [] [] bn<|zD 2<|jn fun b0=>jd 7 [0]<|aF q0 (.agg ⟨[.nilFunc,.func (.func 210) ⟨[]⟩ ⟨[]⟩,.func (.func 211) ⟨[]⟩ ⟨[]⟩,.func (.func 212) ⟨[]⟩ ⟨[]⟩,.func (.func 213) ⟨[]⟩ ⟨[]⟩,.func (.func 214) ⟨[]⟩ ⟨[]⟩,.func (.func 215) ⟨[]⟩ ⟨[]⟩,.func (.func 216) ⟨[]⟩ ⟨[]⟩]⟩) [0] [] [] (Sub.refl _) ⟨_,_,rfl,rfl,rfl,rfl⟩
theorem aEk{v:Value}{S:List (List ah)}{ro:Nat→Option Obj}(hS:cK ro v S)(hO:eZ S):eG zT 152 [.agg ⟨[v]⟩,.agg ⟨[zI 1,zI 0,zI 0,zI 0,zI 0,zI 0,zI 0]⟩] ro [] (fun r Y=>∃rm F LM Z,r= .tuple ⟨[.map (some rm),zI 0]⟩∧Y=LM++Z∧j6 rm oK F LM∧F.map (·.1)=bA S∧MV Z F (yo S ⟨1,0,0,0,0,0,0⟩)):=by
 obtain⟨p,q,rfl⟩:=pO hO.two
 have xM:=hS
 obtain⟨ws,ht,cY⟩:=hS
 obtain⟨w1,w2,rfl⟩:=pO (cY.len.trans hO.two)
 obtain⟨fg,AP,AN,eA,rfl,AO,tq,tk⟩:=ht
 refine bC au [] [] bn<|zD 2<|jn fun b2=>jn fun b3=>jd 8 [0]<|jp (vs:=[zI 1,zI 1,zI 7]) [] [] (fun aA hs hZ=>Ae)<|jd 18 [1,0]<|jp (vs:=[zI 0,zI 0,zI 1]) [] [] (fun aA hs hZ=>Ae)<|jd 70 [0,0,0,0,0,0]<|jne Fa (wj 0 0 0 0)<|zD 3<|js 73 (!(0==0&&(0==0&&true))) (fun h1=>?_) (fun h1=>?_)
 ·
  have gD:=h1
  try simp only[zB] at gD
  exact absurd gD (by decide)
 have gD:=h1
 try simp only[zB] at gD
 refine jd 6 [0]<|jne Fa (wj 0 0 0 0)<|zD 3<|js 82 (!(0==0&&(0==0&&true))) (fun h2=>?_) (fun h2=>?_)
 ·
  exact absurd h2 (by decide)
 refine jd 5 [1]<|jc (vs:=[.agg ⟨[.slice fg 2 eA]⟩]) [] (Je (xM) hO) ?_
 rintro _ _ ⟨rm,F,LM,Z,rfl,rfl,hmM,hkM,hMM⟩
 refine jg 0 [.l LM,.l Z]<|jd 10 [2,3,2]<|jp [] [] (fun aA hs hZ=>Pe)<|zD 1<|aH 7 fun CY C4 AT=>jc (vs:=[.agg ⟨[.slice fg 2 eA]⟩,.agg ⟨[zI 1,zI 0,zI 0,zI 0,zI 0,zI 0,zI 0]⟩,(.map (some rm))]) [0,1] (VD (s:=0) xM hO rfl hmM hkM hMM) ?_
 rintro _ _ ⟨F2,Mp,Z2,rfl,rfl,D6,jC,hM2⟩
 refine jg 0 [.l Mp,.l Z2]<|iM AT [[2]]<|zD 16<|aF q0 (.tuple ⟨[(.map (some rm)),zI 0]⟩) [] [0,1] (Mp++Z2) (Sub.refl _) ⟨_,_,rfl,rfl,rm,F2,Mp,Z2,rfl,rfl,D6,jC,hM2⟩
theorem aEj{v:Value}{S:List (List ah)}{ro:Nat→Option Obj}(hS:cK ro v S)(hO:eZ S):eG zT 152 [.agg ⟨[v]⟩,.agg ⟨[zI 2,zI 0,zI 0,zI 0,zI 0,zI 0,zI 0]⟩] ro [] (fun r Y=>∃rm F LM Z,r= .tuple ⟨[.map (some rm),zI 0]⟩∧Y=LM++Z∧j6 rm oK F LM∧F.map (·.1)=bA S∧MV Z F (yo S ⟨2,0,0,0,0,0,0⟩)):=by
 obtain⟨p,q,rfl⟩:=pO hO.two
 have xM:=hS
 obtain⟨ws,ht,cY⟩:=hS
 obtain⟨w1,w2,rfl⟩:=pO (cY.len.trans hO.two)
 obtain⟨fg,AP,AN,eA,rfl,AO,tq,tk⟩:=ht
 refine bC au [] [] bn<|zD 2<|jn fun b2=>jn fun b3=>jd 8 [0]<|jp (vs:=[zI 2,zI 1,zI 7]) [] [] (fun aA hs hZ=>Ae)<|jd 18 [1,0]<|jp (vs:=[zI 0,zI 0,zI 1]) [] [] (fun aA hs hZ=>Ae)<|jd 70 [0,0,0,0,0,0]<|jne Fa (wj 0 0 0 0)<|zD 3<|js 73 (!(0==0&&(0==0&&true))) (fun h1=>?_) (fun h1=>?_)
 ·
  have gD:=h1
  try simp only[zB] at gD
  exact absurd gD (by decide)
 have gD:=h1
 try simp only[zB] at gD
 refine jd 6 [0]<|jne Fa (wj 0 0 0 0)<|zD 3<|js 82 (!(0==0&&(0==0&&true))) (fun h2=>?_) (fun h2=>?_)
 ·
  exact absurd h2 (by decide)
 refine jd 5 [1]<|jc (vs:=[.agg ⟨[.slice fg 2 eA]⟩]) [] (Je (xM) hO) ?_
 rintro _ _ ⟨rm,F,LM,Z,rfl,rfl,hmM,hkM,hMM⟩
 refine jg 0 [.l LM,.l Z]<|jd 10 [2,3,2]<|jp [] [] (fun aA hs hZ=>Pe)<|zD 1<|aH 7 fun CY C4 AT=>jc (vs:=[.agg ⟨[.slice fg 2 eA]⟩,.agg ⟨[zI 2,zI 0,zI 0,zI 0,zI 0,zI 0,zI 0]⟩,(.map (some rm))]) [0,1] (Pd (s:=0) xM hO rfl hmM hkM hMM) ?_
 rintro _ _ ⟨F2,Mp,Z2,rfl,rfl,D6,jC,hM2⟩
 refine jg 0 [.l Mp,.l Z2]<|iM AT [[2]]<|zD 16<|aF q0 (.tuple ⟨[(.map (some rm)),zI 0]⟩) [] [0,1] (Mp++Z2) (Sub.refl _) ⟨_,_,rfl,rfl,rm,F2,Mp,Z2,rfl,rfl,D6,jC,hM2⟩
theorem aEi{v:Value}{S:List (List ah)}{ro:Nat→Option Obj}(hS:cK ro v S)(hO:eZ S):eG zT 152 [.agg ⟨[v]⟩,.agg ⟨[zI 1,zI 1,zI 0,zI 0,zI 0,zI 0,zI 0]⟩] ro [] (fun r Y=>∃rm F LM Z,r= .tuple ⟨[.map (some rm),zI 0]⟩∧Y=LM++Z∧j6 rm oK F LM∧F.map (·.1)=bA S∧MV Z F (yo S ⟨1,1,0,0,0,0,0⟩)):=by
 obtain⟨p,q,rfl⟩:=pO hO.two
 have xM:=hS
 obtain⟨ws,ht,cY⟩:=hS
 obtain⟨w1,w2,rfl⟩:=pO (cY.len.trans hO.two)
 obtain⟨fg,AP,AN,eA,rfl,AO,tq,tk⟩:=ht
 refine bC au [] [] bn<|zD 2<|jn fun b2=>jn fun b3=>jd 8 [0]<|jp (vs:=[zI 1,zI 1,zI 7]) [] [] (fun aA hs hZ=>Ae)<|jd 18 [1,0]<|jp (vs:=[zI 1,zI 0,zI 1]) [] [] (fun aA hs hZ=>Ae)<|jd 70 [0,0,0,0,0,0]<|jne Fa (wj 0 0 0 0)<|zD 3<|js 73 (!(0==0&&(0==0&&true))) (fun h1=>?_) (fun h1=>?_)
 ·
  have gD:=h1
  try simp only[zB] at gD
  exact absurd gD (by decide)
 have gD:=h1
 try simp only[zB] at gD
 refine jd 6 [0]<|jne Fa (wj 0 0 0 0)<|zD 3<|js 82 (!(0==0&&(0==0&&true))) (fun h2=>?_) (fun h2=>?_)
 ·
  exact absurd h2 (by decide)
 refine jd 5 [1]<|jc (vs:=[.agg ⟨[.slice fg 2 eA]⟩]) [] (Je (xM) hO) ?_
 rintro _ _ ⟨rm,F,LM,Z,rfl,rfl,hmM,hkM,hMM⟩
 refine jg 0 [.l LM,.l Z]<|jd 10 [2,3,2]<|jp [] [] (fun aA hs hZ=>Pe)<|zD 1<|aH 7 fun CY C4 AT=>jc (vs:=[.agg ⟨[.slice fg 2 eA]⟩,.agg ⟨[zI 1,zI 1,zI 0,zI 0,zI 0,zI 0,zI 0]⟩,(.map (some rm))]) [0,1] (VD (s:=1) xM hO rfl hmM hkM hMM) ?_
 rintro _ _ ⟨F2,Mp,Z2,rfl,rfl,D6,jC,hM2⟩
 refine jg 0 [.l Mp,.l Z2]<|iM AT [[2]]<|zD 16<|aF q0 (.tuple ⟨[(.map (some rm)),zI 0]⟩) [] [0,1] (Mp++Z2) (Sub.refl _) ⟨_,_,rfl,rfl,rm,F2,Mp,Z2,rfl,rfl,D6,jC,hM2⟩
theorem aEh{v:Value}{S:List (List ah)}{ro:Nat→Option Obj}(hS:cK ro v S)(hO:eZ S):eG zT 152 [.agg ⟨[v]⟩,.agg ⟨[zI 2,zI 1,zI 0,zI 0,zI 0,zI 0,zI 0]⟩] ro [] (fun r Y=>∃rm F LM Z,r= .tuple ⟨[.map (some rm),zI 0]⟩∧Y=LM++Z∧j6 rm oK F LM∧F.map (·.1)=bA S∧MV Z F (yo S ⟨2,1,0,0,0,0,0⟩)):=by
 obtain⟨p,q,rfl⟩:=pO hO.two
 have xM:=hS
 obtain⟨ws,ht,cY⟩:=hS
 obtain⟨w1,w2,rfl⟩:=pO (cY.len.trans hO.two)
 obtain⟨fg,AP,AN,eA,rfl,AO,tq,tk⟩:=ht
 refine bC au [] [] bn<|zD 2<|jn fun b2=>jn fun b3=>jd 8 [0]<|jp (vs:=[zI 2,zI 1,zI 7]) [] [] (fun aA hs hZ=>Ae)<|jd 18 [1,0]<|jp (vs:=[zI 1,zI 0,zI 1]) [] [] (fun aA hs hZ=>Ae)<|jd 70 [0,0,0,0,0,0]<|jne Fa (wj 0 0 0 0)<|zD 3<|js 73 (!(0==0&&(0==0&&true))) (fun h1=>?_) (fun h1=>?_)
 ·
  have gD:=h1
  try simp only[zB] at gD
  exact absurd gD (by decide)
 have gD:=h1
 try simp only[zB] at gD
 refine jd 6 [0]<|jne Fa (wj 0 0 0 0)<|zD 3<|js 82 (!(0==0&&(0==0&&true))) (fun h2=>?_) (fun h2=>?_)
 ·
  exact absurd h2 (by decide)
 refine jd 5 [1]<|jc (vs:=[.agg ⟨[.slice fg 2 eA]⟩]) [] (Je (xM) hO) ?_
 rintro _ _ ⟨rm,F,LM,Z,rfl,rfl,hmM,hkM,hMM⟩
 refine jg 0 [.l LM,.l Z]<|jd 10 [2,3,2]<|jp [] [] (fun aA hs hZ=>Pe)<|zD 1<|aH 7 fun CY C4 AT=>jc (vs:=[.agg ⟨[.slice fg 2 eA]⟩,.agg ⟨[zI 2,zI 1,zI 0,zI 0,zI 0,zI 0,zI 0]⟩,(.map (some rm))]) [0,1] (Pd (s:=1) xM hO rfl hmM hkM hMM) ?_
 rintro _ _ ⟨F2,Mp,Z2,rfl,rfl,D6,jC,hM2⟩
 refine jg 0 [.l Mp,.l Z2]<|iM AT [[2]]<|zD 16<|aF q0 (.tuple ⟨[(.map (some rm)),zI 0]⟩) [] [0,1] (Mp++Z2) (Sub.refl _) ⟨_,_,rfl,rfl,rm,F2,Mp,Z2,rfl,rfl,D6,jC,hM2⟩
theorem aEg{v:Value}{S:List (List ah)}{ro:Nat→Option Obj}(hS:cK ro v S)(hO:eZ S):eG zT 152 [.agg ⟨[v]⟩,.agg ⟨[zI 4,zI 1,zI 0,zI 0,zI 0,zI 0,zI 0]⟩] ro [] (fun r Y=>∃rm F LM Z,r= .tuple ⟨[.map (some rm),zI 0]⟩∧Y=LM++Z∧j6 rm oK F LM∧F.map (·.1)=bA S∧MV Z F (yo S ⟨4,1,0,0,0,0,0⟩)):=by
 obtain⟨p,q,rfl⟩:=pO hO.two
 have xM:=hS
 obtain⟨ws,ht,cY⟩:=hS
 obtain⟨w1,w2,rfl⟩:=pO (cY.len.trans hO.two)
 obtain⟨fg,AP,AN,eA,rfl,AO,tq,tk⟩:=ht
 refine bC au [] [] bn<|zD 2<|jn fun b2=>jn fun b3=>jd 8 [0]<|jp (vs:=[zI 4,zI 1,zI 7]) [] [] (fun aA hs hZ=>Ae)<|jd 18 [1,0]<|jp (vs:=[zI 1,zI 0,zI 1]) [] [] (fun aA hs hZ=>Ae)<|jd 33 [0,0,0,0]<|jp (vs:=[zI 0,zI 0,zI 1]) [] [] (fun aA hs hZ=>Ae)<|jd 36 [0,0,0]<|jne Fa (wj 0 0 0 0)<|zD 3<|js 73 (!(0==0&&(0==0&&true))) (fun h1=>?_) (fun h1=>?_)
 ·
  have gD:=h1
  try simp only[zB] at gD
  exact absurd gD (by decide)
 have gD:=h1
 try simp only[zB] at gD
 refine jd 6 [0]<|jne Fa (wj 0 0 0 0)<|zD 3<|js 82 (!(0==0&&(0==0&&true))) (fun h2=>?_) (fun h2=>?_)
 ·
  exact absurd h2 (by decide)
 refine jd 5 [1]<|jc (vs:=[.agg ⟨[.slice fg 2 eA]⟩]) [] (Je (xM) hO) ?_
 rintro _ _ ⟨rm,F,LM,Z,rfl,rfl,hmM,hkM,hMM⟩
 refine jg 0 [.l LM,.l Z]<|jd 10 [2,3,2]<|jp [] [] (fun aA hs hZ=>Pe)<|zD 1<|aH 7 fun CY C4 AT=>jc (vs:=[.agg ⟨[.slice fg 2 eA]⟩,.agg ⟨[zI 4,zI 1,zI 0,zI 0,zI 0,zI 0,zI 0]⟩,(.map (some rm))]) [0,1] (akH (s:=1) (o:=0) xM hO rfl hmM hkM hMM rfl) ?_
 rintro _ _ ⟨F2,Mp,Z2,rfl,rfl,D6,jC,hM2⟩
 refine jg 0 [.l Mp,.l Z2]<|iM AT [[2]]<|zD 16<|aF q0 (.tuple ⟨[(.map (some rm)),zI 0]⟩) [] [0,1] (Mp++Z2) (Sub.refl _) ⟨_,_,rfl,rfl,rm,F2,Mp,Z2,rfl,rfl,D6,jC,hM2⟩
def Xs(n:Nat):Int:=if n=0 then 0 else if n <2 then 1 else if n <4 then 2 else if n <8 then 3 else 4
theorem atG{ro:Nat→Option Obj}:∀ {n:Nat},n≤12→dL zT 171 [zU (n:Int)] ro (zI (Xs n))
 |0,_=>by refine bC au [] [] bn (zD 35 (ja 0 (by decide) (zD 3 ?_)));exact aF q0 (zI 0) [] [] [] (Sub.refl _) ⟨_,_,rfl,rfl,rfl,rfl⟩
 |1,_=>by refine bC au [] [] bn (zD 35 (ja 1 (by decide) (zD 3 ?_)));exact aF q0 (zI 1) [] [] [] (Sub.refl _) ⟨_,_,rfl,rfl,rfl,rfl⟩
 |2,_=>by refine bC au [] [] bn (zD 35 (ja 2 (by decide) (zD 3 ?_)));exact aF q0 (zI 2) [] [] [] (Sub.refl _) ⟨_,_,rfl,rfl,rfl,rfl⟩
 |3,_=>by refine bC au [] [] bn (zD 35 (ja 2 (by decide) (zD 3 ?_)));exact aF q0 (zI 2) [] [] [] (Sub.refl _) ⟨_,_,rfl,rfl,rfl,rfl⟩
 |4,_=>by refine bC au [] [] bn (zD 35 (ja 3 (by decide) (zD 3 ?_)));exact aF q0 (zI 3) [] [] [] (Sub.refl _) ⟨_,_,rfl,rfl,rfl,rfl⟩
 |5,_=>by refine bC au [] [] bn (zD 35 (ja 3 (by decide) (zD 3 ?_)));exact aF q0 (zI 3) [] [] [] (Sub.refl _) ⟨_,_,rfl,rfl,rfl,rfl⟩
 |6,_=>by refine bC au [] [] bn (zD 35 (ja 3 (by decide) (zD 3 ?_)));exact aF q0 (zI 3) [] [] [] (Sub.refl _) ⟨_,_,rfl,rfl,rfl,rfl⟩
 |7,_=>by refine bC au [] [] bn (zD 35 (ja 3 (by decide) (zD 3 ?_)));exact aF q0 (zI 3) [] [] [] (Sub.refl _) ⟨_,_,rfl,rfl,rfl,rfl⟩
 |8,_=>by refine bC au [] [] bn (zD 35 (ja 4 (by decide) (zD 3 ?_)));exact aF q0 (zI 4) [] [] [] (Sub.refl _) ⟨_,_,rfl,rfl,rfl,rfl⟩
 |9,_=>by refine bC au [] [] bn (zD 35 (ja 4 (by decide) (zD 3 ?_)));exact aF q0 (zI 4) [] [] [] (Sub.refl _) ⟨_,_,rfl,rfl,rfl,rfl⟩
 |10,_=>by refine bC au [] [] bn (zD 35 (ja 4 (by decide) (zD 3 ?_)));exact aF q0 (zI 4) [] [] [] (Sub.refl _) ⟨_,_,rfl,rfl,rfl,rfl⟩
 |11,_=>by refine bC au [] [] bn (zD 35 (ja 4 (by decide) (zD 3 ?_)));exact aF q0 (zI 4) [] [] [] (Sub.refl _) ⟨_,_,rfl,rfl,rfl,rfl⟩
 |12,_=>by refine bC au [] [] bn (zD 35 (ja 4 (by decide) (zD 3 ?_)));exact aF q0 (zI 4) [] [] [] (Sub.refl _) ⟨_,_,rfl,rfl,rfl,rfl⟩
 |n+13,h=>absurd h (by omega)
theorem ZA{n:Nat}(h:n≤1000):Value.int .u64 (IntKind.u64.wrap (n:Int))= zU (n:Int):=by
 rw[r8 .u64 rfl _ (by omega) (by simp[IntKind.bits];omega)]
def Mj(v:Value)(xs:List ah)(Y:Cells):Prop:=∃ys,ys.Perm xs∧az v 2 54 cI ys Y
theorem atH{n:Nat}{ro:Nat→Option Obj}(h:n≤12):dL zT 137 [zU (n:Int)] ro (zI (Xs n)):=by
 refine bC au [] [] bn<|zD 10<|jp (vs:=[zU (n:Int)]) [] [] (fun aA hs hZ=>(atG h))<|zD 3<|aF q0 (zI (Xs n)) [] [] [] (Sub.refl _) ⟨_,_,rfl,rfl,rfl,rfl⟩
theorem aSe{v:Value}{xs:List ah}{L:Cells}{a b:Int}{ro:Nat→Option Obj}(ho:az v 2 54 cI xs L)(hN:xs.length≤1000)(Eb:0≤a∧a≤b∧b≤xs.length):eG zT 235 [v,zI a,zI b,.func (.func 160) ⟨[]⟩ ⟨[]⟩] ro L (fun r Y=>Mj v xs Y):=by
 refine bC au [.l L] [] bn<|zD 3<|ja (a+1) (by omega)<|zD 3<|eN [1,0,0] [] (fun(zz:Int×(List ah)×Cells)=>[(0,v),(1,zI a),(2,zI b),(3,.func (.func 160) ⟨[]⟩ ⟨[]⟩),(8,zI zz.1)]) (fun(zz:Int×(List ah)×Cells)=>[.l zz.2.2]) (fun(zz:Int×(List ah)×Cells)=>(a+1≤zz.1)∧az v 2 54 cI zz.2.1 zz.2.2∧zz.2.1.Perm xs) (fun(zz:Int×(List ah)×Cells)=>(b-zz.1).toNat) (⟨(a+1),xs,L⟩) ⟨by dsimp only;omega,ho,.refl _⟩ [0] ?_
 rintro⟨i,ys,L⟩ hI K1 bF rest
 dsimp only at hI
 have Vb:=hI.2.2.length_eq
 refine zD 7<|zJ 14 (i <b) (fun h1=>?_) fun h1=>?_
 ·
  refine zD 10<|eN [1,0,0,1,0,0,1,0,0] [K1] (fun(zz:Int×(List ah)×Cells)=>[(0,v),(1,zI a),(2,zI b),(3,.func (.func 160) ⟨[]⟩ ⟨[]⟩),(8,zI i),(9,zI zz.1)]) (fun(zz:Int×(List ah)×Cells)=>[.l zz.2.2]) (fun(zz:Int×(List ah)×Cells)=>(a≤zz.1∧zz.1≤i)∧az v 2 54 cI zz.2.1 zz.2.2∧zz.2.1.Perm xs) (fun(zz:Int×(List ah)×Cells)=>(zz.1-a).toNat) (⟨i,ys,L⟩) ⟨by dsimp only;omega,hI.2⟩ [0] ?_
  rintro⟨j,ys,L⟩ hJ K2 mL rest
  dsimp only at hJ
  have Vb:=hJ.2.2.length_eq
  refine zD 7<|js 3 (decide (j>a)) (fun h2=>?_) (fun h2=>?_)
  ·
   have mz:=h2
   replace mz:=of_decide_eq_true mz
   refine zD 3 ?_
   obtain⟨xX,lq⟩:=zG ys (j.toNat) (by first|omega| (simp only[List.length_set];omega))
   refine p5 j 2 hJ.2.1 lq (Int.toNat_of_nonneg (show 0≤j∧j <((ys).length:Int) from (by first|omega| (simp only[List.length_set];omega))).1).symm (fun dW aee=>?_)
   refine oV 0 [0] L (fun s _ hZ=>cv hJ.2.1 aee hZ lq)<|zD 2<|ja (j-1) (by omega) ?_
   obtain⟨oE,jZ⟩:=zG ys ((j-1).toNat) (by first|omega| (simp only[List.length_set];omega))
   refine p5 (j-1) 2 hJ.2.1 jZ (Int.toNat_of_nonneg (show 0≤(j-1)∧(j-1) <((ys).length:Int) from (by first|omega| (simp only[List.length_set];omega))).1).symm (fun b30 Sz=>?_)
   refine oV 0 [0] L (fun s _ hZ=>cv hJ.2.1 Sz hZ jZ)<|aH 14 fun rZ si qG=>jp (vs:=[.agg ⟨[zI xX.n,zI xX.l]⟩,.agg ⟨[zI oE.n,zI oE.l]⟩]) [] [] (fun aA hs hZ=>(ani (x:=xX) (y:=oE)))<|bw qG [0]<|zD 3<|zJ 34 ((Yq xX oE) <0) (fun h4=>?_) fun h4=>?_
   ·
    refine zD 9<|ja (j-1) (by omega)<|zD 2<|ja (j-1) (by omega) ?_
    obtain⟨xp,Dj⟩:=zG ys ((j-1).toNat) (by first|omega| (simp only[List.length_set];omega))
    refine p5 (j-1) 2 hJ.2.1 Dj (Int.toNat_of_nonneg (show 0≤(j-1)∧(j-1) <((ys).length:Int) from (by first|omega| (simp only[List.length_set];omega))).1).symm (fun b45 aed=>?_)
    refine oV 0 [0] L (fun s _ hZ=>cv hJ.2.1 aed hZ Dj)<|zD 2 ?_
    obtain⟨Hj,Di⟩:=zG ys (j.toNat) (by first|omega| (simp only[List.length_set];omega))
    refine p5 j 2 hJ.2.1 Di (Int.toNat_of_nonneg (show 0≤j∧j <((ys).length:Int) from (by first|omega| (simp only[List.length_set];omega))).1).symm (fun b49 aec=>?_)
    refine oV 0 [0] L (fun s _ hZ=>cv hJ.2.1 aec hZ Di) ?_
    obtain⟨x51,Dh⟩:=zG ys (j.toNat) (by first|omega| (simp only[List.length_set];omega))
    refine p5 j 2 hJ.2.1 Dh (Int.toNat_of_nonneg (show 0≤j∧j <((ys).length:Int) from (by first|omega| (simp only[List.length_set];omega))).1).symm (fun b51 aeb=>?_)
    refine aH 15 fun tw tz rP=>P7 0 0 [zI xp.n,zI xp.l] (⟨xp.n,xp.l⟩:ah) hJ.2.1 aeb Dh rfl rfl (Nat.le_of_ble_eq_true rfl) fun L6 XQ=>iM rP [] ?_
    obtain⟨x52,BG⟩:=zG ((ys.set j.toNat (⟨xp.n,xp.l⟩:ah))) ((j-1).toNat) (by first|omega| (simp only[List.length_set];omega))
    refine p5 (j-1) 2 XQ BG (Int.toNat_of_nonneg (show 0≤(j-1)∧(j-1) <(((ys.set j.toNat (⟨xp.n,xp.l⟩:ah))).length:Int) from (by first|omega| (simp only[List.length_set];omega))).1).symm (fun b52 aea=>?_)
    refine aH 17 fun AX A5 BO=>P7 0 0 [zI Hj.n,zI Hj.l] (⟨Hj.n,Hj.l⟩:ah) XQ aea BG rfl rfl (Nat.le_of_ble_eq_true rfl) fun L9 adC=>cM BO<|zD 3<|ja (j-1) (by omega)<|zD 2<|bI mL (⟨(j-1),((ys.set j.toNat (⟨xp.n,xp.l⟩:ah)).set ((j-1).toNat) (⟨Hj.n,Hj.l⟩:ah)),L9⟩) ⟨by dsimp only;omega,adC,(nA Di Dj).trans hJ.2.2⟩ (by dsimp only;omega) [0] (Sub.refl _)
   refine zD 4<|ja (i+1) (by omega)<|zD 2<|bI bF (⟨(i+1),ys,L⟩) ⟨by dsimp only;omega,hJ.2⟩ (by dsimp only;omega) [0] (Sub.refl _)
  have mz:=h2
  replace mz:=of_decide_eq_false mz
  refine zD 18<|ja (i+1) (by omega)<|zD 2<|bI bF (⟨(i+1),ys,L⟩) ⟨by dsimp only;omega,hJ.2⟩ (by dsimp only;omega) [0] (Sub.refl _)
 refine zD 2<|aF q0 (.tuple ⟨[]⟩) [] [0] L (Sub.refl _) ⟨_,_,rfl,rfl,ys,hI.2.2,hI.2.1⟩
theorem aSc{v:Value}{xs:List ah}{L:Cells}{Oc:Int}{ro:Nat→Option Obj}(ho:az v 2 54 cI xs L)(hN:xs.length≤12):eG zT 217 [v,zI 0,zI (xs.length:Int),zI Oc,.func (.func 160) ⟨[]⟩ ⟨[]⟩] ro L (fun r Y=>Mj v xs Y):=by
 refine bC au [.l L] [] bn<|zD 9<|eN [1,1,0,0] [] (fun(zz:Nat)=>[(0,v),(1,zI 0),(2,zI (xs.length:Int)),(3,zI Oc),(4,.func (.func 160) ⟨[]⟩ ⟨[]⟩),(10,.bool true),(11,.bool true)]) (fun(zz:Nat)=>[.l L]) (fun(zz:Nat)=>True) (fun(zz:Nat)=>zz) 0 trivial [0] ?_
 rintro z hI K1 bF rest
 refine zD 5<|ja ((xs.length:Int)-0) (by omega)<|zD 8<|zJ 25 (((xs.length:Int)-0)≤12) (fun h1=>?_) fun h1=>?_
 ·
  refine zD 7<|jc (vs:=[v,zI 0,zI (xs.length:Int),.func (.func 160) ⟨[]⟩ ⟨[]⟩]) [0] (aSe ho (by omega) (by omega)) ?_
  rintro axj Y30 ⟨aIF,arh,BJ⟩
  refine zD 2<|aF q0 (.tuple ⟨[]⟩) [] [0] Y30 (Sub.refl _) ⟨_,_,rfl,rfl,_,arh,BJ⟩
 exfalso;omega
theorem afb{v:Value}{xs:List ah}{L:Cells}{ro:Nat→Option Obj}(ho:az v 2 54 cI xs L)(hN:xs.length≤12):eG zT 186 [v,.func (.func 160) ⟨[]⟩ ⟨[]⟩] ro L (fun r Y=>Mj v xs Y):=by
 refine bC au [.l L] [] bn<|zD 3<|DY ho<|zD 6<|je (zU (xs.length:Int)) (ZA (by omega))<|jp (vs:=[zU (xs.length:Int)]) [] [] (fun aA hs hZ=>(atH (by omega)))<|zD 1<|jc (vs:=[v,zI 0,zI (xs.length:Int),zI (Xs xs.length),.func (.func 160) ⟨[]⟩ ⟨[]⟩]) [0] (aSc ho (by omega)) ?_
 rintro axk Y13 ⟨aIH,XO,Si⟩
 refine zD 1<|aF q0 (.tuple ⟨[]⟩) [] [0] Y13 (Sub.refl _) ⟨_,_,rfl,rfl,_,XO,Si⟩
theorem aEc{v:Value}{xs:List aj}{L:Cells}{ro:Nat→Option Obj}(ho:az v 3 132 cw xs L)(hN:xs.length≤1):eG zT 188 [v,zI 0,zI (xs.length:Int),.func (.func 125) ⟨[]⟩ ⟨[]⟩] ro L (fun r Y=>az v 3 132 cw xs Y):=by
 refine bC au [.l L] [] bn<|zD 7<|eN [1,0,0] [] (fun(zz:Nat)=>[(0,v),(1,zI 0),(2,zI (xs.length:Int)),(3,.func (.func 125) ⟨[]⟩ ⟨[]⟩),(8,zI (0+1))]) (fun(zz:Nat)=>[.l L]) (fun(zz:Nat)=>True) (fun(zz:Nat)=>zz) 0 trivial [0] ?_
 rintro z hI K1 bF rest
 refine zD 7<|zJ 14 ((0+1) <(xs.length:Int)) (fun h1=>?_) fun h1=>?_
 ·
  exfalso;omega
 refine zD 2<|aF q0 (.tuple ⟨[]⟩) [] [0] L (Sub.refl _) ⟨_,_,rfl,rfl,ho⟩
theorem aD7{v:Value}{xs:List aj}{L:Cells}{Oc:Int}{ro:Nat→Option Obj}(ho:az v 3 132 cw xs L)(hN:xs.length≤1):eG zT 158 [v,zI 0,zI (xs.length:Int),zI Oc,.func (.func 125) ⟨[]⟩ ⟨[]⟩] ro L (fun r Y=>az v 3 132 cw xs Y):=by
 refine bC au [.l L] [] bn<|zD 9<|eN [1,1,0,0] [] (fun(zz:Nat)=>[(0,v),(1,zI 0),(2,zI (xs.length:Int)),(3,zI Oc),(4,.func (.func 125) ⟨[]⟩ ⟨[]⟩),(10,.bool true),(11,.bool true)]) (fun(zz:Nat)=>[.l L]) (fun(zz:Nat)=>True) (fun(zz:Nat)=>zz) 0 trivial [0] ?_
 rintro z hI K1 bF rest
 refine zD 5<|ja ((xs.length:Int)-0) (by omega)<|zD 8<|zJ 25 (((xs.length:Int)-0)≤12) (fun h1=>?_) fun h1=>?_
 ·
  refine zD 7<|jc (vs:=[v,zI 0,zI (xs.length:Int),.func (.func 125) ⟨[]⟩ ⟨[]⟩]) [0] (aEc ho (by omega)) ?_
  rintro axj Y30 BJ
  refine zD 2<|aF q0 (.tuple ⟨[]⟩) [] [0] Y30 (Sub.refl _) ⟨_,_,rfl,rfl,BJ⟩
 exfalso;omega
theorem atF{v:Value}{xs:List aj}{L:Cells}{ro:Nat→Option Obj}(ho:az v 3 132 cw xs L)(hN:xs.length≤1):eG zT 124 [v,.func (.func 125) ⟨[]⟩ ⟨[]⟩] ro L (fun r Y=>az v 3 132 cw xs Y):=by
 refine bC au [.l L] [] bn<|zD 3<|DY ho<|zD 6<|je (zU (xs.length:Int)) (ZA (by omega))<|jp (vs:=[zU (xs.length:Int)]) [] [] (fun aA hs hZ=>(atH (by omega)))<|zD 1<|jc (vs:=[v,zI 0,zI (xs.length:Int),zI (Xs xs.length),.func (.func 125) ⟨[]⟩ ⟨[]⟩]) [0] (aD7 ho (by omega)) ?_
 rintro axk Y13 Si
 refine zD 1<|aF q0 (.tuple ⟨[]⟩) [] [0] Y13 (Sub.refl _) ⟨_,_,rfl,rfl,Si⟩
theorem aff{v:Value}{xs:List aj}{L:Cells}{ro:Nat→Option Obj}(ho:az v 3 132 cw xs L)(hN:xs.length≤1):eG zT 126 [v] ro L (fun r Y=>v=r∧L=Y):=by
 refine bC au [.l L] [] bn<|zD 8<|DY ho<|zD 2<|zJ 8 ((xs.length:Int) <2) (fun h1=>?_) fun h1=>?_
 ·
  refine zD 7<|aF q0 (v) [] [0] L (Sub.refl _) ⟨_,_,rfl,rfl,rfl,rfl⟩
 exfalso;omega
theorem VE{v:Value}{xs:List aj}{ro:Nat→Option Obj}(hl:bK ro v 3 cw xs)(hN:xs.length≤1):eG zT 83 [v] ro [] (fun r Y=>az r 3 132 cw xs Y):=by
 obtain⟨fL,rD,rC,eV,rfl,tH,lJ,mE⟩:=hl
 refine bC au [] [] bn<|zD 7<|jc (vs:=[.slice fL xs.length eV]) [] (aSh (show bK _ _ _ _ _ from ⟨fL,rD,rC,eV,rfl,tH,lJ,mE⟩) (by first|omega| (simp only[List.length_set,List.length_append,List.length_cons,List.length_nil];omega))) ?_
 rintro v5 L5 ho5
 obtain⟨va5,vc5,he5⟩:=ho5.form
 subst he5
 refine zD 5<|jc (vs:=[(.slice va5 (xs).length vc5),.func (.func 125) ⟨[]⟩ ⟨[]⟩]) [0] (atF ho5 (by omega)) ?_
 rintro rv7 Y7 XQ
 refine zD 4<|jc (vs:=[(.slice va5 (xs).length vc5)]) [0] (aff XQ (by omega)) ?_
 rintro _ _ ⟨rfl,rfl⟩
 refine zD 3<|aF q0 ((.slice va5 (xs).length vc5)) [] [0] Y7 (Sub.refl _) ⟨_,_,rfl,rfl,XQ⟩
theorem MV.put{Z2:Cells}{F:List (aj×Value)}{g:aj→aj}(h:MV Z F g){k:aj}{v:Value}(hv:∀aL,Knows aL Z2→bK aL v 3 cw [g k]):MV (Z++Z2) (mi k v F) g:=by
 have h1:∀x∈mi k v F,x=(k,v)∨x∈F:=fun x hx=>by
  unfold mi at hx
  split at hx
  ·rw[DR] at hx
   obtain⟨i,hi⟩:=List.getElem?_of_mem hx
   rw[List.getElem?_set] at hi
   split at hi
   ·split at hi
    ·cases hi;exact .inl rfl
    cases hi
   exact .inr (List.mem_of_getElem? hi)
  rcases List.mem_append.1 hx with h|h
  ·exact .inr h
  exact .inl (List.mem_singleton.1 h)
 intro aL hr x hx
 rcases h1 x hx with rfl|hx
 ·exact hv aL hr.right
 exact h aL hr.left x hx
theorem MQ{κ:Type}[DecidableEq κ]{k x:κ}{v:Value}{F:List (κ×Value)}(h:x=k∨x∈F.map (·.1)):x∈(mi k v F).map (·.1):=by
 unfold mi
 split
 ·rename_i i u hf
  have yB:=(qj hf).2
  rw[Nat.sub_zero] at yB
  have hs:((F.set i (k,v)).map (·.1))=F.map (·.1):=by
   rw[List.map_set]
   refine List.ext_getElem? fun j=>?_
   rw[List.getElem?_set]
   split
   ·rename_i hj;subst hj;simp[yB,(List.getElem?_eq_some_iff.1 yB).1,(List.getElem?_eq_some_iff.1 yB).2]
   rfl
  rw[DR,hs]
  rcases h with rfl|h
  ·exact List.mem_map_of_mem (f:=(·.1)) (List.mem_of_getElem? yB)
  exact h
 rw[List.map_append]
 rcases h with rfl|h
 ·exact List.mem_append_right _ (by simp)
 exact List.mem_append_left _ h
def Seen(es:Array MapEntry)(seen:List Nat)(F:List (aj×Value)):Prop:=∀e∈es.toList,e∈cy es seen∨∃k,e.key=oK k∧k∈F.map (·.1)
theorem Seen.start{es:Array MapEntry}{F:List (aj×Value)}:Seen es [] F:=fun e he=> .inl (by rw[BD];exact he)
theorem Seen.step{es:Array MapEntry}{F0 F:List (aj×Value)}(h:Seen es seen F)(hE:td oK F0 es ck){e:MapEntry}(he:e∈cy es seen){k:aj}(hk:e.key=oK k){v:Value}:Seen es (seen++[e.born]) (mi k v F):=fun x hx=>by
 rcases h x hx with h1| ⟨q,h1,h2⟩
 ·rcases RD hE he h1 with rfl|h2
  ·exact .inr ⟨k,hk,MQ (.inl rfl)⟩
  exact .inl h2
 exact .inr ⟨q,h1,MQ (.inr h2)⟩
theorem ajk{a b:aj}(h:oK a=oK b):a=b:=by
 rcases a with ⟨x,y,z⟩;rcases b with ⟨d,e,f⟩
 simp only[oK,cw,Value.agg.injEq,Array.mk.injEq,List.cons.injEq,Value.int.injEq] at h
 simp[h.1.2,h.2.1.2,h.2.2.1.2]
theorem Seen.fin{es:Array MapEntry}{F0 F:List (aj×Value)}(h:Seen es seen F)(hl:cy es seen=[])(hE:td oK F0 es ck){k:aj}(hk:k∈F0.map (·.1)):k∈F.map (·.1):=by
 obtain⟨⟨k',v⟩,h1,rfl⟩:=List.mem_map.1 hk
 have:(oK k',v)∈es.toList.map (fun e=>(e.key,e.val)):=by rw[hE.1];exact List.mem_map_of_mem (f:=fun x:aj×Value=>(oK x.1,x.2)) h1
 obtain⟨e,h2,h3⟩:=List.mem_map.1 this
 simp only[Prod.mk.injEq] at h3
 rcases h e h2 with h4| ⟨q,h4,h5⟩
 ·rw[hl] at h4;cases h4
 have:=ajk (h3.1.symm.trans h4);subst this;exact h5
structure PW(ro:Nat→Option Obj)(r:Nat)(H:List aj)(g:aj→aj)(es:Array MapEntry)(ck:Nat)(F:List (aj×Value)):Prop where
 m:ro r=some (.map es ck)
 e:td oK F es ck
 k:F.map (·.1)=H
 v:∀x∈F,bK ro x.2 3 cw [g x.1]
theorem E6{a x:α}{j:Nat}(h: [a][j]?=some x):x=a∧j=0:=by
 cases j with
 |zero=>simp at h;exact⟨h.symm,rfl⟩
 |succ j=>simp at h
theorem ang{AW:Array MapEntry}{F1:List (aj×Value)}{r2 Ys:Nat}{Dv:Array MapEntry}{F2:List (aj×Value)}{H:List aj}{g:aj→aj}{ro:Nat→Option Obj}(He:PW ro r1 H id AW Hi F1)(hP2:PW ro r2 H g Dv Ys F2):eG zT 155 [(.map (some r1)),(.map (some r2))] ro [] (fun r Y=>∃rm F LM Z,r= .map (some rm)∧Y=LM++Z∧j6 rm oK F LM∧(∀h∈H,h∈F.map (·.1))∧MV Z F g):=by
 refine bC au [] [] bn<|zD 6<|jmk oK fun EN L11 adI=>zD 6<|jmR He.m fun r13=>jg 0 [.b r13 (uB r1 Hi [])]<|zD 2<|qB<|eN [1,1,0,1,0,0] [] (fun(zz:(List Nat)×(List (aj×Value))×Cells×Cells)=>[(1,(.map (some r2))),(4,(.map none)),(5,(.map (some EN))),(13,zP r13)]) (fun(zz:(List Nat)×(List (aj×Value))×Cells×Cells)=>[.b r13 (uB r1 Hi zz.1),.l zz.2.2.1,.l zz.2.2.2]) (fun(zz:(List Nat)×(List (aj×Value))×Cells×Cells)=>j6 EN oK zz.2.1 zz.2.2.1∧Seen AW zz.1 zz.2.1∧MV zz.2.2.2 zz.2.1 g) (fun(zz:(List Nat)×(List (aj×Value))×Cells×Cells)=>(cy AW zz.1).length) (⟨[],[],L11,[]⟩) ⟨adI,Seen.start,fun _ _ _ h=>(by cases h)⟩ [1,2,0] ?_
 rintro⟨seen,F,LM,Z⟩ hI K1 bF rest
 dsimp only at hI
 refine zD 2<|jmN (it:=r13) (kv:=oK) (seen:=seen) 0 He.m He.e (fun Mv v14 LD aAR xC aj3 aN9=>?_) (fun aNy=>?_)
 ·
  have hkH:Mv∈H:=by rw[←He.k];exact List.mem_map_of_mem (f:=(·.1)) aAR
  have hvv:bK ro v14 3 cw [Mv]:=He.v _ aAR
  obtain⟨Nr,qvb,qvo,C7,rfl,qvk,Re,Rc⟩:=hvv
  refine jg 0 [.b r13 (uB r1 Hi (seen++[LD.born]))]<|zD 8<|jmE (it:=r13) 0 He.m He.e xC aj3 aN9<|jg 0 [.b r13 (uB r1 Hi (seen++[LD.born]))]<|zD 2<|jn fun b6=>jd 15 [0]<|qB<|eN [1,1,0,1,0,0,1,1,0,1,1,0,1,0,0] [K1] (fun(zz:Nat×Value×Cells)=>[(1,(.map (some r2))),(4,(.map none)),(5,(.map (some EN))),(6,zP b6),(8,zz.2.1),(13,zP r13),(19,.slice Nr ([Mv].length) C7),(20,zI ([Mv].length:Int)),(21,zI (zz.1:Int))]) (fun(zz:Nat×Value×Cells)=>[.l zz.2.2,.b b6 (.cells ⟨[zI Mv.h,zI Mv.n,zI Mv.l]⟩ 132 (0,0)),.b r13 (uB r1 Hi (seen++[LD.born])),.l LM,.l Z]) (fun(zz:Nat×Value×Cells)=>zz.1≤[Mv].length∧az zz.2.1 3 132 cw ([g Mv].take zz.1) zz.2.2) (fun(zz:Nat×Value×Cells)=>[Mv].length-zz.1) (⟨0,zS,[]⟩) ⟨by simp,az.nil _ _ _⟩ [0,1,2,3,4] ?_
  rintro⟨i,vO,LO⟩ hJ K2 mL rest
  dsimp only at hJ
  have Qg: [Mv].length=1:=rfl
  refine zD 5<|zJ 22 ((i:Int) <([Mv].length:Int)) (fun h1=>?_) fun h1=>?_
  ·
   refine zD 6 ?_
   obtain⟨uW,sN⟩:=zG ([Mv]) i
   refine iW C7 3 Re sN<|jl 0 (Rc _ _ sN)<|jn fun rY=>jd 2 [0] ?_
   obtain⟨hxe,hj0⟩:=E6 sN
   refine jd 4 [0]<|jlu (kv:=oK) (F:=F2) (r:=r2) (K:=132) uW (zS) false [] [] Cz (fun s he _=>⟨_,_,he _ _ (.inl hP2.m),hP2.e⟩) ?_
   obtain⟨w28,aNV,arC⟩:=UT (k:=uW) (F:=F2) (by rw[hP2.k,hxe];exact hkH)
   have hww:bK ro w28 3 cw [g uW]:=hP2.v _ arC
   obtain⟨Rb,qwb,qwo,JZ,rfl,qwk,qwh,qwl⟩:=hww
   refine jw 28 (.slice Rb ([g uW].length) JZ) (show Oa (zS) false uW F2=_ from by simp only[Oa,aNV];rfl) ?_
   refine k8 (sz:=3) (ps:=([g Mv].take i)) (qs:=[g uW]) (enc:=cw) (w:= .slice Rb ([g uW].length) JZ) [1] [] [] (hJ.2) (fun s he _=>⟨Rb,qwb,qwo,JZ,rfl,qwh,fun i p hp=>(qwl i p hp).ext he⟩) (fun p _=>ar rfl) (by simp only[List.length_take,List.length_cons,List.length_nil];omega) (fun v29 L29 FM=>?_)
   obtain⟨ZV,ZO,ad3⟩:=FM.form
   subst ad3
   refine zD 3<|ja ((i:Int)+1) (by omega)<|zD 2<|bI mL (⟨i+1,(.slice ZV ((([g Mv].take i)++[g uW])).length ZO),L29⟩) ⟨by dsimp only;omega,by have:=FM;rw[hj0] at this ⊢;rw[hxe] at this;exact this⟩ (by dsimp only;omega) [0,2,3,4,5] (Sub.refl _)
  refine jd 6 [1]<|aH 3 fun rZ si qG=>Y6 (vs:=[vO]) [] [0] LO (fun aA hs hZ=>VE (hJ.2.nv hZ) (by simp only[List.length_take,List.length_cons,List.length_nil];omega)) ?_
  rintro v34 L34 aOO
  refine bw qG [1,2,3,4,5]<|aH 4 fun tw tz rP=>jmu (kv:=oK) (F:=F) (r:=EN) (K:=132) 4 Mv (v34) Cz hI.1 fun Lm4 hm4=>cM rP<|zD 1<|Oi bF (⟨(seen++[LD.born]),_,Lm4,Z++L34⟩) ⟨hm4,hI.2.1.step He.e xC aj3,hI.2.2.put fun aL hk=>(by have:=aOO;rw[show ([g Mv].take i)=[g Mv] from List.take_of_length_le (by simp;omega)] at this;exact this.nv hk)⟩ (Fs xC) [[4],[0],[5,1]] (Sub.refl _)
 refine jg 0 [.b r13 (uB r1 Hi seen)]<|zD 11<|aF q0 ((.map (some EN))) [] [1,2] (LM++Z) (Sub.refl _) ⟨_,_,rfl,rfl,EN,F,LM,Z,rfl,rfl,hI.1,fun h hh=>hI.2.1.fin aNy He.e (by rw[He.k];exact hh),hI.2.2⟩
theorem abU{κ:Type}{kv:κ→Value}{F:List (κ×Value)}{es:Array MapEntry}(h:td kv F es ck):es.toList.length=F.length:=by
 have:=congrArg List.length h.1
 simpa using this
theorem afh{AW:Array MapEntry}{F1:List (aj×Value)}{H:List aj}{g:aj→aj}{ro:Nat→Option Obj}(He:PW ro r1 H g AW Hi F1)(hn:H.length≤8)(hS:∀x∈F1,(g x.1).h=0∨(g x.1).h=1):eG zT 154 [(.map (some r1)),zI 2] ro [] (fun r Y=>∃a n c,r= .agg ⟨[.slice a n c]⟩):=by
 refine bC au [] [] bn<|zD 2<|jn fun b4=>zD 4<|jmS (E:=55) (z:= zS) fun yZ=>jg 0 [.b yZ (.cells ⟨[zS,zS]⟩ 55 (0,0))]<|zD 1<|jn fun b5=>jd 6 [0]<|jmR He.m fun WX=>jg 0 [.b WX (uB r1 Hi [])]<|zD 2<|qB<|qB<|eN [1,1,0,1,0,0] [] (fun(zz:(List Nat)×Value×Cells×(List ah)×Value×Cells×(List ah))=>[(4,zP b4),(5,zP b5),(16,zP WX)]) (fun(zz:(List Nat)×Value×Cells×(List ah)×Value×Cells×(List ah))=>[.b WX (uB r1 Hi zz.1),.b yZ (.cells ⟨[zz.2.1,zz.2.2.2.2.1]⟩ 55 (0,0)),.l zz.2.2.1,.l zz.2.2.2.2.2.1,.b b5 (.cells ⟨[.slice (some ⟨yZ,0,none⟩) 2 2]⟩ 27 (0,0)),.b b4 (.cells ⟨[zS]⟩ 27 (0,0))]) (fun(zz:(List Nat)×Value×Cells×(List ah)×Value×Cells×(List ah))=>zz.2.2.2.1.length+zz.2.2.2.2.2.2.length+(cy AW zz.1).length≤8∧az zz.2.1 2 54 cI zz.2.2.2.1 zz.2.2.1∧az zz.2.2.2.2.1 2 54 cI zz.2.2.2.2.2.2 zz.2.2.2.2.2.1) (fun(zz:(List Nat)×Value×Cells×(List ah)×Value×Cells×(List ah))=>(cy AW zz.1).length) (⟨[],zS,[],[],zS,[],[]⟩) ⟨by rw[BD,abU He.e];have:=congrArg List.length He.k;simp at this ⊢;omega,az.nil _ _ _,az.nil _ _ _⟩ [2,4,1,0,3,5] ?_
 rintro⟨seen,w0,L0,p0,w1,L1,p1⟩ hI K1 bF rest
 dsimp only at hI
 refine zD 2<|jmN (it:=WX) (kv:=oK) (seen:=seen) 0 He.m He.e (fun k17 v17 e17 aj8 OY XY aN7=>?_) (fun bbJ=>?_)
 ·
  have hvv:bK ro v17 3 cw [g k17]:=He.v _ aj8
  obtain⟨Nr,qvb,qvo,C7,rfl,qvk,Re,Rc⟩:=hvv
  have hsg:(g k17).h=0∨(g k17).h=1:=hS _ aj8
  have cz:=Fs OY
  refine jg 0 [.b WX (uB r1 Hi (seen++[e17.born]))]<|zD 8<|jmE (it:=WX) 0 He.m He.e OY XY aN7<|jg 0 [.b WX (uB r1 Hi (seen++[e17.born]))]<|zD 10<|eN [1,1,0,1,0,0,1,1,0,1,1,0,0] [K1] (fun(zz:Nat×Value×Cells×(List ah)×Value×Cells×(List ah))=>[(4,zP b4),(5,zP b5),(16,zP WX),(21,.slice Nr ([g k17].length) C7),(22,zI ([g k17].length:Int)),(23,zI (zz.1:Int))]) (fun(zz:Nat×Value×Cells×(List ah)×Value×Cells×(List ah))=>[.b WX (uB r1 Hi (seen++[e17.born])),.b yZ (.cells ⟨[zz.2.1,zz.2.2.2.2.1]⟩ 55 (0,0)),.l zz.2.2.1,.l zz.2.2.2.2.2.1,.b b5 (.cells ⟨[.slice (some ⟨yZ,0,none⟩) 2 2]⟩ 27 (0,0)),.b b4 (.cells ⟨[zS]⟩ 27 (0,0))]) (fun(zz:Nat×Value×Cells×(List ah)×Value×Cells×(List ah))=>(zz.1≤1∧zz.2.2.2.1.length+zz.2.2.2.2.2.2.length+(cy AW (seen++[e17.born])).length+(1-zz.1)≤8)∧az zz.2.1 2 54 cI zz.2.2.2.1 zz.2.2.1∧az zz.2.2.2.2.1 2 54 cI zz.2.2.2.2.2.2 zz.2.2.2.2.2.1) (fun(zz:Nat×Value×Cells×(List ah)×Value×Cells×(List ah))=>1-zz.1) (⟨0,w0,L0,p0,w1,L1,p1⟩) ⟨by dsimp only;omega,hI.2⟩ [0,1,2,3,4,5] ?_
  rintro⟨i,w0,L0,p0,w1,L1,p1⟩ hJ K2 mL rest
  dsimp only at hJ
  have Qg: [g k17].length=1:=rfl
  refine zD 5<|zJ 24 ((i:Int) <([g k17].length:Int)) (fun h1=>?_) fun h1=>?_
  ·
   refine zD 6 ?_
   obtain⟨xX,lq⟩:=zG ([g k17]) i
   refine iW C7 3 Re lq<|jl 0 (Rc _ _ lq) ?_
   obtain⟨hxe,hi0⟩:=E6 lq;rw[←hxe] at hsg;obtain⟨xh,xn,xl⟩:=xX;dsimp only at hsg;rcases hsg with rfl|rfl
   ·
    refine jn fun b9=>jd 11 [0,5,0,5,0]<|jd 4 [2,0]<|aH 12 fun rZ si qG=>jn fun b39=>bw qG [1,2,3,4,5,6,7]<|aH 13 fun tw tz rP=>k8 (sz:=2) (ps:=p0) (qs:=[(⟨xn,xl⟩:ah)]) (enc:=cI) (w:= .slice (some ⟨b39,0,none⟩) 1 1) [4] [0] [(b39,.cells ⟨([(⟨xn,xl⟩:ah)].map cI).flatten⟩ 54 (0,0))] (hJ.2.1) (fun s _ hZ=>cb [(⟨xn,xl⟩:ah)] (hZ _ (.head _)) (by intro p hp;rfl)) (fun p _=>ar rfl) (by simp only[List.length_cons,List.length_nil];omega) (fun v40 L40 FL=>?_)
    obtain⟨aol,aob,ash⟩:=FL.form
    subst ash
    refine iM rP [[2],[6],[2],[6]]<|zD 1<|aH 15 fun AX A5 BO=>jd 1 [4]<|cM BO<|zD 2<|ja ((i:Int)+1) (by omega)<|zD 2<|bI mL (⟨i+1,(.slice aol ((p0++[(⟨xn,xl⟩:ah)])).length aob),L40,(p0++[(⟨xn,xl⟩:ah)]),w1,L1,p1⟩) ⟨by simp only[List.length_append,List.length_cons,List.length_nil];omega,FL,hJ.2.2⟩ (by dsimp only;omega) [3,4,0,5,6,7] (Sub.refl _)
   refine jn fun b9=>jd 11 [0,5,0,5,0]<|jd 4 [2,0]<|aH 12 fun Zq aab X9=>jn fun b39=>bw X9 [1,2,3,4,5,6,7]<|aH 13 fun Zp aaa O2=>k8 (sz:=2) (ps:=p1) (qs:=[(⟨xn,xl⟩:ah)]) (enc:=cI) (w:= .slice (some ⟨b39,0,none⟩) 1 1) [5] [0] [(b39,.cells ⟨([(⟨xn,xl⟩:ah)].map cI).flatten⟩ 54 (0,0))] (hJ.2.2) (fun s _ hZ=>cb [(⟨xn,xl⟩:ah)] (hZ _ (.head _)) (by intro p hp;rfl)) (fun p _=>ar rfl) (by simp only[List.length_cons,List.length_nil];omega) (fun v40 L40 FL=>?_)
   obtain⟨aol,aob,ash⟩:=FL.form
   subst ash
   refine iM O2 [[2],[6],[2],[6]]<|zD 1<|aH 15 fun Zo Z8 hL8=>jd 1 [4]<|cM hL8<|zD 2<|ja ((i:Int)+1) (by omega)<|zD 2<|bI mL (⟨i+1,w0,L0,p0,(.slice aol ((p1++[(⟨xn,xl⟩:ah)])).length aob),L40,(p1++[(⟨xn,xl⟩:ah)])⟩) ⟨by simp only[List.length_append,List.length_cons,List.length_nil];omega,hJ.2.1,FL⟩ (by dsimp only;omega) [3,4,5,0,6,7] (Sub.refl _)
  refine zD 2<|bI bF (⟨(seen++[e17.born]),w0,L0,p0,w1,L1,p1⟩) ⟨by dsimp only;omega,hJ.2⟩ cz [0,1,2,3,4,5] (Sub.refl _)
 refine jg 0 [.b WX (uB r1 Hi seen)]<|jd 14 [4]<|eN [1,1,1,0,1,0,0] [] (fun(zz:Nat×Value×Cells×(List ah)×Value×Cells×(List ah))=>[(4,zP b4),(5,zP b5),(44,.slice (some ⟨yZ,0,none⟩) 2 2),(45,zI 2),(46,zI (zz.1:Int))]) (fun(zz:Nat×Value×Cells×(List ah)×Value×Cells×(List ah))=>[.b yZ (.cells ⟨[zz.2.1,zz.2.2.2.2.1]⟩ 55 (0,0)),.l zz.2.2.1,.l zz.2.2.2.2.2.1,.b b5 (.cells ⟨[.slice (some ⟨yZ,0,none⟩) 2 2]⟩ 27 (0,0)),.b b4 (.cells ⟨[zS]⟩ 27 (0,0))]) (fun(zz:Nat×Value×Cells×(List ah)×Value×Cells×(List ah))=>(zz.1≤2∧zz.2.2.2.1.length≤8∧zz.2.2.2.2.2.2.length≤8)∧az zz.2.1 2 54 cI zz.2.2.2.1 zz.2.2.1∧az zz.2.2.2.2.1 2 54 cI zz.2.2.2.2.2.2 zz.2.2.2.2.2.1) (fun(zz:Nat×Value×Cells×(List ah)×Value×Cells×(List ah))=>2-zz.1) (⟨0,w0,L0,p0,w1,L1,p1⟩) ⟨by dsimp only;omega,hI.2⟩ [1,2,3,4,5] ?_
 rintro⟨k,w0,L0,p0,w1,L1,p1⟩ hQ K9 hK9 rest
 dsimp only at hQ
 refine zD 5<|zJ 47 ((k:Int) <2) (fun h8=>?_) fun h8=>?_
 ·
  refine zD 6 ?_
  rcases(show k=0∨k=1 by omega) with hk0|hk0
  ·
   refine jw 46 (zI 0) (show Value.int .i64 (k:Int)= zI 0 by rw[hk0];rfl) ?_
   refine jd 6 [0]<|jc (vs:=[w0,.func (.func 160) ⟨[]⟩ ⟨[]⟩]) [1] (afb hQ.2.1 (by omega)) ?_
   rintro aLp Y51 ⟨anT,arc,aro⟩
   refine zD 5 ?_
   have hle:=arc.length_eq
   exact bI hK9 (⟨1,w0,Y51,anT,w1,L1,p1⟩) ⟨by dsimp only;omega,aro,hQ.2.2⟩ (by dsimp only;omega) [1,0,2,3,4] (Sub.refl _)
  refine jw 46 (zI 1) (show Value.int .i64 (k:Int)= zI 1 by rw[hk0];rfl) ?_
  refine jd 6 [0]<|jc (vs:=[w1,.func (.func 160) ⟨[]⟩ ⟨[]⟩]) [2] (afb hQ.2.2 (by omega)) ?_
  rintro aLp Y51 ⟨anT,arc,aro⟩
  refine zD 5 ?_
  have hle:=arc.length_eq
  exact bI hK9 (⟨2,w0,L0,p0,w1,Y51,anT⟩) ⟨by dsimp only;omega,hQ.2.1,aro⟩ (by dsimp only;omega) [1,2,0,3,4] (Sub.refl _)
 refine jd 8 [3,4]<|aF q0 (.agg ⟨[.slice (some ⟨yZ,0,none⟩) 2 2]⟩) [4] [] [] (Sub.refl _) ⟨_,_,rfl,rfl,_,_,_,rfl⟩
structure Tx where
 a:Option Addr
 n:Nat
 c:Nat
 ea:Option Addr
 en:Nat
 ec:Nat
 r:Nat
abbrev afQ(t:Tx):List Value:=[.slice t.a t.n t.c,.slice t.ea t.en t.ec,.map (some t.r)]
structure TrD where
 ways:List Int
 g:aj→aj
def aTv(ro:Nat→Option Obj)(r:Nat)(H:List aj)(g:aj→aj):Prop:=∃es ck F,ro r=some (.map es ck)∧td oK F es ck∧(∀h∈H,h∈F.map (·.1))∧∀y∈F,bK ro y.2 3 cw [g y.1]
def TrR(H:List aj)(ro:Nat→Option Obj)(t:Tx)(x:TrD):Prop:=bK ro (.slice t.a t.n t.c) 1 cS x.ways∧aTv ro t.r H x.g
def TrO(H:List aj)(LL:Cells)(t:Tx)(x:TrD):Prop:=∀aL,Knows aL LL→TrR H aL t x
abbrev akQ(H:List aj)(L:List TrD):(Nat→Option Obj)→Nat→List Value→Cells→Prop:=fun _ k vs LL=>∃x t,L[k]?=some x∧vs=[.agg ⟨afQ t⟩]∧TrO H LL t x
def aou(S:List (List ah))(l:List aM)(i:Nat):TrD:=⟨[(i:Int)],match l[i]? with
 |some c=>yo S c
 |none=>id⟩
def cP(S:List (List ah)):List (List aM)→List TrD
 | []=>[⟨[],id⟩]
 |l::_=>(List.range l.length).map (aou S l)
theorem H7{S:List (List ah)}{l:List aM}{c:aM}(h:l[i]?=some c):(cP S [l])[i]?=some ⟨[(i:Int)],yo S c⟩:=by
 have hi:=(List.getElem?_eq_some_iff.1 h).1
 simp only[cP,List.getElem?_map,List.getElem?_range hi,Option.map_some,aou,h]
structure xV(ways:List (List aM)):Prop where
 one:ways.length≤1
 ok:∀l∈ways,(1≤l.length∧l.length≤3)∧∀c∈l,jA c
theorem aEG{c:aM}(h:jA c):1≤c.k∧c.k≤7:=by
 simp only[jA,List.mem_cons,List.not_mem_nil,or_false] at h
 rcases h with rfl|rfl|rfl|rfl|rfl<;>simp
theorem anf{x:aj}:∀(u:List (aj×aj)) (y:aj),u.foldl (fun y p=>if x=p.1 then p.2 else y) y=y∨∃p∈u,u.foldl (fun y p=>if x=p.1 then p.2 else y) y=p.2
 | [],y=> .inl rfl
 |p::u,y=>by
  simp only[List.foldl_cons]
  rcases anf (x:=x) u (if x=p.1 then p.2 else y) with h| ⟨q,hq,h⟩
  ·rw[h]
   split
   ·exact .inr ⟨p,by simp,rfl⟩
   exact .inl rfl
  exact .inr ⟨q,by simp[hq],h⟩
theorem atE{u:List (aj×aj)}{x:aj}:gU u x=x∨∃p∈u,gU u x=p.2:=anf u x
theorem abL{S:List (List ah)}{c:aM}(hc:jA c){x:aj}(hx:x.h=0∨x.h=1):(yo S c x).h=0∨(yo S c x).h=1:=by
 rcases atE (u:=atQ S c) (x:=x) with h| ⟨p,hp,h⟩
 ·rw[yo,h];exact hx
 rw[yo,h]
 simp only[jA,List.mem_cons,List.not_mem_nil,or_false] at hc
 rcases hc with rfl|rfl|rfl|rfl|rfl<;>simp[atQ,ZY,Ih,IY,Hr,mH] at hp
 ·obtain⟨_,_,_,_,_,rfl⟩:=hp;exact .inl rfl
 ·obtain⟨_,_,rfl⟩:=hp;exact .inl rfl
 ·obtain⟨_,_,_,_,_,rfl⟩:=hp;exact .inr rfl
 ·obtain⟨_,_,rfl⟩:=hp;exact .inr rfl
 obtain⟨_,_,rfl⟩:=hp;exact .inl rfl
theorem OA{S:List (List ah)}(hO:eZ S){x:aj}(hx:x∈bA S):x.h=0∨x.h=1:=by
 obtain⟨j,l,p,h1,_,_,rfl⟩:=DZ.1 hx
 have:=hO.two
 simp only[mH];omega
theorem PW.up{ro aL:Nat→Option Obj}{r:Nat}{H:List aj}{g:aj→aj}{es:Array MapEntry}{F:List (aj×Value)}(h:PW ro r H g es ck F)(hs:Sub ro aL):PW aL r H g es ck F:=⟨hs _ _ h.m,h.e,h.k,fun x hx=>(h.v x hx).up hs⟩
theorem aSf{v:Value}{S:List (List ah)}{c:aM}{ro:Nat→Option Obj}(hc:jA c)(hS:cK ro v S)(hO:eZ S):eG zT 152 [.agg ⟨[v]⟩,.agg ⟨mO c⟩] ro [] (fun r Y=>∃rm F LM Z,r= .tuple ⟨[.map (some rm),zI 0]⟩∧Y=LM++Z∧j6 rm oK F LM∧F.map (·.1)=bA S∧MV Z F (yo S c)):=by
 simp only[jA,List.mem_cons,List.not_mem_nil,or_false] at hc
 rcases hc with rfl|rfl|rfl|rfl|rfl
 ·exact aEk hS hO
 ·exact aEj hS hO
 ·exact aEi hS hO
 ·exact aEh hS hO
 exact aEg hS hO
def H2(ro:Nat→Option Obj)(b:Nat)(S:List (List ah))(ways:List (List aM)):Prop:=∃vS vT vH fa fc,ro b=some (.cells ⟨[vS,vT,.slice fa 0 fc,vH]⟩ 181 (0,0))∧cK ro vS S∧nM ro vT ways∧bK ro vH 3 cw (bA S)
theorem H2.up{ro aL:Nat→Option Obj}{S:List (List ah)}(h:H2 ro b S ways)(hs:Sub ro aL):H2 aL b S ways:=by
 obtain⟨vS,vT,vH,fa,fc,h1,h2,h3,h4⟩:=h
 exact⟨vS,vT,vH,fa,fc,hs _ _ h1,h2.up hs,h3.up hs,h4.up hs⟩
theorem atK{vS vT:Value}{fa:Option Addr}{fc:Nat}{S:List (List ah)}{ro:Nat→Option Obj}(hS:cK ro vS S)(hO:eZ S)(hT:nM ro vT ways)(hW:xV ways):eG zT 121 [.agg ⟨[vS,vT,.slice fa 0 fc]⟩] ro [] (fun r Y=>∃b vH LH,r= .tuple ⟨[zP b,zI 0]⟩∧Y=(b,.cells ⟨[vS,vT,.slice fa 0 fc,vH]⟩ 181 (0,0))::LH∧az vH 3 132 cw (bA S) LH):=by
 have xM:=hS
 obtain⟨jm,hs,fY⟩:=hS
 obtain⟨mU,Uq,Uo,mj,rfl,Up,Nu,Nt⟩:=hs
 obtain⟨jV,ht,fO⟩:=id hT
 obtain⟨fg,AP,AN,eA,rfl,AO,tq,tk⟩:=ht
 have HM:=fY.len
 have D7:=fO.len
 have HI:=hO.two
 have zy:=hW.one
 have P5:∀(i:Nat) (p:eE),([]:List eE)[i]?=some p→cg ⟨ro,[]⟩ 0 (0+i*6) 6 (oz p):=fun _ _ h=>oS h
 refine bC au [] [] bn<|zD 2<|jn fun b1=>jd 8 [0]<|jp (vs:=[.agg ⟨[.slice mU jm.length mj]⟩]) [] [] (fun aA hs hZ=>atJ (xM.up hs) hO)<|jd 17 [0]<|zJ 21 ((jV.length:Int)>3) (fun h1=>?_) fun h1=>?_
 ·
  exfalso;omega
 refine jd 11 [0]<|eN [1,1,1,0,1,0,0] [] (fun(zz:Nat)=>[(1,zP b1),(23,.slice fg jV.length eA),(24,zI (jV.length:Int)),(25,zI (zz:Int))]) (fun(zz:Nat)=>[.b b1 (.cells ⟨[.slice mU jm.length mj,.slice fg jV.length eA,.slice fa 0 fc]⟩ 31 (0,0))]) (fun(zz:Nat)=>zz≤jV.length) (fun(zz:Nat)=>jV.length-zz) 0 (by omega) [0] ?_
 rintro k hI K1 bF rest
 refine zD 5<|zJ 26 ((k:Int) <(jV.length:Int)) (fun h2=>?_) fun h2=>?_
 ·
  refine zD 6 ?_
  obtain⟨x27,HH⟩:=zG jV k
  refine iW eA 1 tq HH ?_
  obtain⟨l28,aPe,Yd⟩:=fO.get HH
  obtain arC:=hW.ok _ (List.mem_of_getElem? aPe)
  obtain⟨ax2,baQ,baO,apl,rfl,baP,aLZ,aLY⟩:=Yd
  refine jl 0 (tk _ _ HH)<|jn fun b6=>jd 10 [0,0]<|zJ 32 ((l28.length:Int)=0) (fun h3=>?_) fun h3=>?_
  ·
   exfalso;omega
  refine jd 10 [0]<|zJ 36 ((l28.length:Int)>3) (fun h4=>?_) fun h4=>?_
  ·
   exfalso;omega
  refine jd 10 [0]<|eN [1,1,1,0,1,0,0,1,1,0,0,1,1,1,1,0,0] [K1] (fun(zz:Nat)=>[(1,zP b1),(23,.slice fg jV.length eA),(24,zI (jV.length:Int)),(25,zI (k:Int)),(38,.slice ax2 l28.length apl),(39,zI (l28.length:Int)),(40,zI (zz:Int))]) (fun(zz:Nat)=>[.b b6 (.cells ⟨[.slice ax2 l28.length apl]⟩ 62 (0,0)),.b b1 (.cells ⟨[.slice mU jm.length mj,.slice fg jV.length eA,.slice fa 0 fc]⟩ 31 (0,0))]) (fun(zz:Nat)=>zz≤l28.length) (fun(zz:Nat)=>l28.length-zz) 0 (by omega) [0,1] ?_
  rintro i hJ K2 mL rest
  refine zD 5<|zJ 41 ((i:Int) <(l28.length:Int)) (fun h5=>?_) fun h5=>?_
  ·
   refine zD 6 ?_
   obtain⟨x42,RU⟩:=zG l28 i
   refine iW apl 7 aLZ RU<|jl 0 (aLY _ _ RU)<|jn fun b8=>jd 3 [0] ?_
   have Vw:=aEG (arC.2 _ (List.mem_of_getElem? RU))
   refine jd 3 [0]<|jp (vs:=[zI x42.k,zI 1,zI 7]) [] [] (fun aA hs hZ=>Ae)<|zD 2<|js 47 (!(jb x42.k 1 7)) (fun h6=>?_) (fun h6=>?_)
   ·
    try simp only[zB] at h6
    exfalso;simp only[jb,Bool.and_eq_false_iff,decide_eq_false_iff_not] at h6;omega
   try simp only[zB] at h6
   refine zD 3<|ja ((i:Int)+1) (by omega)<|zD 2<|bI mL (i+1) (by omega) (by omega) [1,2] (Sub.refl _)
  refine zD 3<|ja ((k:Int)+1) (by omega)<|zD 2<|bI bF (k+1) (by omega) (by omega) [1] (Sub.refl _)
 refine jd 17 [0,0,0]<|aH 3 fun rZ si qG=>jc (vs:=[.agg ⟨[.slice mU jm.length mj]⟩]) [] (VF xM hO) ?_
 rintro v57 L57 ajV
 obtain⟨aoh,an7,ase⟩:=ajV.form
 subst ase
 refine bw qG [1]<|zD 1<|aH 5 fun tw tz rP=>jn fun b59=>bw rP [1,2]<|jd 11 [2]<|eN [1,1,1,1,1,1,0,1,0,0] [] (fun(zz:Nat)=>[(1,zP b1),(9,zP b59),(61,.slice fa 0 fc),(62,zI 0),(63,zI 0)]) (fun(zz:Nat)=>[.b b59 (.cells ⟨[.slice mU jm.length mj,.slice fg jV.length eA,.slice fa 0 fc,(.slice aoh (bA S).length an7)]⟩ 181 (0,0)),.l L57,.b b1 (.cells ⟨[.slice mU jm.length mj,.slice fg jV.length eA,.slice fa 0 fc]⟩ 31 (0,0))]) (fun(zz:Nat)=>True) (fun(zz:Nat)=>zz) 0 trivial [0,1,2] ?_
 rintro z hQ K5 hK5 rest
 refine zD 14<|aF q0 (.tuple ⟨[zP b59,zI 0]⟩) [] [0,1] ((b59,.cells ⟨[.slice mU jm.length mj,.slice fg jV.length eA,.slice fa 0 fc,(.slice aoh (bA S).length an7)]⟩ 181 (0,0))::L57) (Sub.refl _) ⟨_,_,rfl,rfl,_,_,_,rfl,rfl,ajV⟩
end Go.L
