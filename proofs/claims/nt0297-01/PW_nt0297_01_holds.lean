import PyProof.Rows.All
import Wide.All
import OpenK.AllK
import Wide.FinOn
import Lean
import PySem.Challenge.RW_nt0297_01
set_option Elab.async false
set_option maxHeartbeats 1000000
set_option genSizeOf false
set_option genInjectivity false
set_option backward.match.sparseCases false
set_option linter.all false
section
open PySem PySem.W PyProof.Rows
namespace Mine
set_option tactic.hygienic false
theorem noS{α:Type}{a:α}{C:Prop}(h:(none:Option α)=some a):C:=nomatch h
theorem noT{α:Type}{a:α}{C:Prop}(h:some a=(none:Option α)):C:=nomatch h
theorem noF{C:Prop}(h:false=true):C:=nomatch h
theorem noG{C:Prop}(h:true=false):C:=nomatch h
section
variable {a b c d k:Nat}
theorem ar0:a<=a+k:=Nat.le_add_right _ _
theorem ar1(h:a<=c:=by assumption)(e:Nat.ble c d=true:=by with_unfolding_all rfl):a<=d:=Nat.le_trans h (Nat.le_of_ble_eq_true e)
theorem ar2(h:a<=c:=by assumption)(e:Nat.ble (c+k) d=true:=by with_unfolding_all rfl):a+k<=d:=Nat.le_trans (Nat.add_le_add_right h k) (Nat.le_of_ble_eq_true e)
theorem ar3(h:a<c:=by assumption)(e:Nat.ble c d=true:=by with_unfolding_all rfl):a<d:=Nat.lt_of_lt_of_le h (Nat.le_of_ble_eq_true e)
theorem ar4(h:a<=b:=by assumption):a<=b+k:=Nat.le_trans h (Nat.le_add_right b k)
theorem ar5(h:a<b:=by assumption):a<b+k:=Nat.lt_of_lt_of_le h (Nat.le_add_right b k)
theorem ar6(h:a+(b+1)<=c:=by assumption):a+b<=c:=Nat.le_of_succ_le h
theorem ar7(h:a+(b+1)<=c:=by assumption):a+1+b<=c:=by rw[Nat.add_right_comm];exact h
theorem ar8(h:a<b:=by assumption)(e:b=a:=by assumption):False:=Nat.lt_irrefl a (e▸h)
theorem ar9(h:a<b:=by assumption)(e:a=b:=by assumption):False:=Nat.lt_irrefl b (e▸h)
theorem ar11(h:a<=b:=by assumption)(h':¬ a<b:=by assumption):a=b:=Nat.le_antisymm h (Nat.le_of_not_lt h')
theorem ar12(h:a<=b:=by assumption)(h':b<=c:=by assumption):a<=c:=Nat.le_trans h h'
theorem ar13(h:a<b:=by assumption)(h':b<=c:=by assumption):a<c:=Nat.lt_of_lt_of_le h h'
theorem ar14(h:a+b<=c:=by assumption):a<=c:=Nat.le_trans (Nat.le_add_right a b) h
theorem ar15(h:a+b<=c:=by assumption)(e:Nat.ble c d=true:=by with_unfolding_all rfl):a<=d:=Nat.le_trans (Nat.le_add_right a b) (ar1 h e)
theorem ar16(h:a=c:=by assumption)(e:Nat.ble c d=true:=by with_unfolding_all rfl):a<=d:=h▸Nat.le_of_ble_eq_true e
end
theorem oA2{A B:Prop}{G:Prop}(k:A->B->G)(h:A/\B):G:=let⟨h0,h1⟩:=h;k h0 h1
theorem AR{α:Type}{A:α->Prop}{G:Prop}(k:∀ (x:α),A x->G)(h:∃ x,A x):G:=let⟨x,h0⟩:=h;k x h0
theorem oA3{A B C:Prop}{G:Prop}(k:A->B->C->G)(h:A/\B/\C):G:=let⟨h0,h1,h2⟩:=h;k h0 h1 h2
theorem AD{α:Type}{A B:α->Prop}{G:Prop}(k:∀ (x:α),A x->B x->G)(h:∃ x,A x/\B x):G:=let⟨x,h0,h1⟩:=h;k x h0 h1
theorem II{α β:Type}{A:α->β->Prop}{G:Prop}(k:∀ (x:α) (y:β),A x y->G)(h:∃ x y,A x y):G:=let⟨x,y,h0⟩:=h;k x y h0
theorem oA4{A B C D:Prop}{G:Prop}(k:A->B->C->D->G)(h:A/\B/\C/\D):G:=let⟨h0,h1,h2,h3⟩:=h;k h0 h1 h2 h3
theorem IY{α:Type}{A B C:α->Prop}{G:Prop}(k:∀ (x:α),A x->B x->C x->G)(h:∃ x,A x/\B x/\C x):G:=let⟨x,h0,h1,h2⟩:=h;k x h0 h1 h2
theorem FD{α β:Type}{A B:α->β->Prop}{G:Prop}(k:∀ (x:α) (y:β),A x y->B x y->G)(h:∃ x y,A x y/\B x y):G:=let⟨x,y,h0,h1⟩:=h;k x y h0 h1
theorem b3f{α β γ:Type}{A:α->β->γ->Prop}{G:Prop}(k:∀ (x:α) (y:β) (z:γ),A x y z->G)(h:∃ x y z,A x y z):G:=let⟨x,y,z,h0⟩:=h;k x y z h0
theorem oA5{A B C D E:Prop}{G:Prop}(k:A->B->C->D->E->G)(h:A/\B/\C/\D/\E):G:=let⟨h0,h1,h2,h3,h4⟩:=h;k h0 h1 h2 h3 h4
theorem b3g{α:Type}{A B C D:α->Prop}{G:Prop}(k:∀ (x:α),A x->B x->C x->D x->G)(h:∃ x,A x/\B x/\C x/\D x):G:=let⟨x,h0,h1,h2,h3⟩:=h;k x h0 h1 h2 h3
theorem DO{α β:Type}{A B C:α->β->Prop}{G:Prop}(k:∀ (x:α) (y:β),A x y->B x y->C x y->G)(h:∃ x y,A x y/\B x y/\C x y):G:=let⟨x,y,h0,h1,h2⟩:=h;k x y h0 h1 h2
theorem DP{α β γ:Type}{A B:α->β->γ->Prop}{G:Prop}(k:∀ (x:α) (y:β) (z:γ),A x y z->B x y z->G)(h:∃ x y z,A x y z/\B x y z):G:=let⟨x,y,z,h0,h1⟩:=h;k x y z h0 h1
theorem UR{α β γ δ:Type}{A:α->β->γ->δ->Prop}{G:Prop}(k:∀ (x:α) (y:β) (z:γ) (w:δ),A x y z w->G)(h:∃ x y z w,A x y z w):G:=let⟨x,y,z,w,h0⟩:=h;k x y z w h0
theorem sj{α:Type}{a b:α}(h:some a=some b):a=b:=Option.some.inj h
inductive PV where
 | none
 | bool (b:Bool)
 | int (i:Int)
 | str (x:Str) (own:Bool)
 | bytes (b:List UInt8)
 | tup (vs:List PV)
 | ref (i:Nat)
 | flist (vs:List PV)
 | fdict (kvs:List (Str×PV))
inductive AO where
 | list (vs:List PV)
 | dict (kvs:List (Str×PV))
 | inst (c:Nat) (fs:List (Nat×PV))
noncomputable abbrev St:=List AO
noncomputable abbrev Loc:=List (Nat×PV)
noncomputable def get(k:Nat):List (Nat×PV)->Option PV
 | []=>.none
 | (j,v)::r=>if k=j then some v else get k r
noncomputable def put(k:Nat)(v:PV):List (Nat×PV)->List (Nat×PV)
 | []=>[(k,v)]
 | (j,u)::r=>if k=j then(j,v)::r else(j,u)::put k v r
noncomputable def puts:List Nat->List PV->Loc->Loc
 | [],_,Λ=>Λ
 | k::ks,vs,Λ=>match vs with
  | []=>Λ
  | v::vs=>puts ks vs (put k v Λ)
noncomputable def DQ(k:Str):List (Str×PV)->Option PV
 | []=>.none
 | (j,v)::r=>if k=j then some v else DQ k r
noncomputable def IZ(k:Str)(v:PV):List (Str×PV)->List (Str×PV)
 | []=>[(k,v)]
 | (j,u)::r=>if k=j then(j,v)::r else(j,u)::IZ k v r
noncomputable def BE(ks:List Nat):Loc->Loc
 | []=>[]
 | (j,v)::r=>if ks.contains j then(j,v)::BE ks r else BE ks r
theorem get_c{k j:Nat}{v:PV}{r:Loc}:get k ((j,v)::r)=if k=j then some v else get k r:=rfl
theorem a9l{k j:Nat}{v u:PV}{r:Loc}:put k v ((j,u)::r)=if k=j then(j,v)::r else(j,u)::put k v r:=rfl
theorem a2e{ks:List Nat}{j:Nat}{v:PV}{r:Loc}:BE ks ((j,v)::r)=if ks.contains j then(j,v)::BE ks r else BE ks r:=rfl
theorem get_put(k:Nat)(v:PV):∀ (l:List (Nat×PV)) (j:Nat),get j (put k v l)=if j=k then some v else get j l
 | [],j=>rfl
 | (i,u)::r,j=>by
  rw[a9l,get_c]
  by_cases h:k=i
  ·subst h
   rw[if_pos rfl,get_c]
   by_cases hj:j=k
   ·rw[if_pos hj,if_pos hj]
   ·rw[if_neg hj,if_neg hj,if_neg hj]
  ·rw[if_neg h,get_c,get_put k v r j]
   by_cases hj:j=i
   ·rw[if_pos hj,if_pos hj,if_neg fun e=>h (e.symm.trans hj)]
   ·rw[if_neg hj,if_neg hj]
theorem JA(ks:List Nat):∀ (l:Loc) (j:Nat) (v:PV),get j (BE ks l)=some v->get j l=some v/\ks.contains j=true
 | [],j,v,h=>by exact noS h
 | (i,u)::r,j,v,h=>by
  rw[a2e]at h
  by_cases hc:ks.contains i=true
  ·rw[if_pos hc]at h
   rw[get_c]at h ⊢
   by_cases hj:j=i
   ·rw[if_pos hj]at h ⊢;exact⟨h,hj▸hc⟩
   ·rw[if_neg hj]at h ⊢;exact JA ks r j v h
  ·rw[if_neg hc]at h
   have q:=JA ks r j v h
   refine⟨?_,q.2⟩
   rw[get_c,if_neg (by rintro rfl;exact hc q.2)]
   exact q.1
inductive BOp where | add | sub | mul | fdiv | mod
inductive COp where | eq | ne | lt | le | gt | ge | is | isnot | isin | notin
inductive Bi where | len | ord | chr | bytes | int | tuple | list
inductive Mt where | find | lower | startswith | endswith | count | replace | join | split | lstrip | append | extend | get | own (k:Nat)
mutual
noncomputable def data:PV->Option PyData
 | .none=>some .none
 | .bool b=>some (.bool b)
 | .int i=>some (.int i)
 | .str x _=>some (.str x)
 | .tup vs=>match datas vs with | some l=>some (.tuple l) | none=>none
 | _=>none
noncomputable def datas:List PV->Option (List PyData)
 | []=>some []
 | v::vs=>match data v,datas vs with | some d,some l=>some (d::l) | _,_=>none
end
noncomputable def AK(σ:St)(i:Nat):Option (List PV):=match σ[i]? with | some (.list vs)=>some vs | _=>none
noncomputable def dictAt(σ:St)(i:Nat):Option (List (Str×PV)):=match σ[i]? with | some (.dict vs)=>some vs | _=>none
noncomputable def instAt(σ:St)(i:Nat):Option (Nat×List (Nat×PV)):=match σ[i]? with | some (.inst c fs)=>some (c,fs) | _=>none
noncomputable def eqv(σ:St)(a b:PV):Option Bool:=match a,b with
 | .none,.none=>some true
 | .none,.str _ _=>some false
 | .str _ _,.none=>some false
 | .bool x,.bool y=>some (x==y)
 | .int x,.int y=>some (x==y)
 | .str x _,.str y _=>some (x==y)
 | .bytes x,.bytes y=>some (x==y)
 | .ref i,.ref j=>match AK σ i,AK σ j with
  | some vs,some us=>if vs.length≠us.length then some false else match datas vs,datas us with
   | some l,some m=>if SeqAt.shaped (.list l)&&SeqAt.shaped (.list m)then some (PyData.eqvAll l m)else none
   | _,_=>none
  | _,_=>none
 | _,_=>none
noncomputable def BJ:List PV->Option (List Str)
 | []=>some []
 | v::r=>match v with
  | .str x _=>match BJ r with | some l=>some (x::l) | none=>none
  | _=>none
noncomputable def CR:List PV->Option (List Int)
 | []=>some []
 | v::r=>match v with
  | .int x=>match CR r with | some l=>some (x::l) | none=>none
  | _=>none
noncomputable def DF:List PV->Option (List (List UInt8))
 | []=>some []
 | v::r=>match v with
  | .bytes x=>match DF r with | some l=>some (x::l) | none=>none
  | _=>none
theorem NO{x:Str}{o:Bool}{r:List PV}{l:List Str}(h:BJ r=some l):BJ (.str x o::r)=some (x::l):=by
 show(match BJ r with | some l=>some (x::l) | none=>none)=_
 rw[h]
theorem OT{u:PV}{r:List PV}{l:List Str}{C:PV->List Str->Prop}(h:BJ (u::r)=some l)(k:∀ x o m,BJ r=some m->C (.str x o) (x::m)):C u l:=by
 induction u using PV.casesOn<;>try exact nomatch (show(none:Option (List Str))=some l from h)
 replace h:(match BJ r with | some l=>some (_::l) | none=>none)=some l:=h
 cases e:BJ r with
 | none=>rw[e]at h;exact nomatch h
 | some m=>rw[e]at h;exact Option.some.inj h▸k _ _ m e
theorem b0p{x:Int}{r:List PV}{l:List Int}(h:CR r=some l):CR (.int x::r)=some (x::l):=by
 show(match CR r with | some l=>some (x::l) | none=>none)=_
 rw[h]
theorem b9h{u:PV}{r:List PV}{l:List Int}{C:PV->List Int->Prop}(h:CR (u::r)=some l)(k:∀ x m,CR r=some m->C (.int x) (x::m)):C u l:=by
 induction u using PV.casesOn<;>try exact nomatch (show(none:Option (List Int))=some l from h)
 replace h:(match CR r with | some l=>some (_::l) | none=>none)=some l:=h
 cases e:CR r with
 | none=>rw[e]at h;exact nomatch h
 | some m=>rw[e]at h;exact Option.some.inj h▸k _ m e
theorem b3h{x:(List UInt8)}{r:List PV}{l:List (List UInt8)}(h:DF r=some l):DF (.bytes x::r)=some (x::l):=by
 show(match DF r with | some l=>some (x::l) | none=>none)=_
 rw[h]
theorem b0q{u:PV}{r:List PV}{l:List (List UInt8)}{C:PV->List (List UInt8)->Prop}(h:DF (u::r)=some l)(k:∀ x m,DF r=some m->C (.bytes x) (x::m)):C u l:=by
 induction u using PV.casesOn<;>try exact nomatch (show(none:Option (List (List UInt8)))=some l from h)
 replace h:(match DF r with | some l=>some (_::l) | none=>none)=some l:=h
 cases e:DF r with
 | none=>rw[e]at h;exact nomatch h
 | some m=>rw[e]at h;exact Option.some.inj h▸k _ m e
theorem b9i{r:List PV}{l:List PyData}(h:datas r=some l):data (.tup r)=some (.tuple l):=by
 show(match datas r with | some l=>some (PyData.tuple l) | none=>none)=_
 rw[h]
theorem LE{v:PV}{r:List PV}{d:PyData}{l:List PyData}(h:data v=some d)(h2:datas r=some l):datas (v::r)=some (d::l):=by
 show(match data v,datas r with | some d,some l=>some (d::l) | _,_=>none)=_
 rw[h,h2]
theorem b3i{k j:Str}{v:PV}{r:List (Str×PV)}:DQ k ((j,v)::r)=if k=j then some v else DQ k r:=rfl
theorem b3j{k j:Str}{v u:PV}{r:List (Str×PV)}:IZ k v ((j,u)::r)=if k=j then(j,v)::r else(j,u)::IZ k v r:=rfl
theorem a5i{k:Nat}{l:Loc}:∀ {l':Loc},l.map (·.1)=l'.map (·.1)->get k l=none->get k l'=none:=by
 induction l with
 | nil=>exact fun{l'} h _=>by induction l' using List.casesOn with
  | nil=>rfl
  | cons _ _=>cases h
 | cons p l ih=>exact fun{l'} h e=>by induction l' using List.casesOn with
  | nil=>cases h
  | cons q l' =>
   rw[get_c]at e ⊢
   have h1:p.1=q.1:=(List.cons.inj h).1
   rw[← h1]
   by_cases c:k=p.1
   ·rw[if_pos c]at e;exact noT e
   ·rw[if_neg c]at e ⊢;exact ih (List.cons.inj h).2 e
noncomputable def isin(σ:St)(a b:PV):Option Bool:=match a,b with
 | .str x _,.str y _=>some (Builtin.Str.occurrences y x 0 y.length 1≠[])
 | .str x _,.ref i=>match AK σ i with
  | some vs=>match BJ vs with | some l=>some (l.contains x) | none=>none
  | none=>none
 | .str x _,.tup vs=>match BJ vs with | some l=>some (l.contains x) | none=>none
 | .int x,.tup vs=>match CR vs with | some l=>some (l.contains x) | none=>none
 | .str x _,.fdict kvs=>some (DQ x kvs).isSome
 | _,_=>none
noncomputable def isNone:PV->Bool
 | .none=>true
 | _=>false
noncomputable def cmp(σ:St)(op:COp)(a b:PV):Option Bool:=match op,a,b with
 | .eq,a,b=>eqv σ a b
 | .ne,a,b=>(eqv σ a b).map (!·)
 | .lt,.int x,.int y=>some (decide (x<y))
 | .le,.int x,.int y=>some (decide (x<=y))
 | .gt,.int x,.int y=>some (decide (x>y))
 | .ge,.int x,.int y=>some (decide (x>=y))
 | .is,a,.none=>some (isNone a)
 | .isnot,a,.none=>some (!isNone a)
 | .isin,a,b=>isin σ a b
 | .notin,a,b=>(isin σ a b).map (!·)
 | _,_,_=>none
noncomputable def fits(n:Nat):Bool:=decide (n<=1000000)
noncomputable def CF(i:Int):Bool:=decide (-4611686018427387904<i)&&decide (i<4611686018427387904)
noncomputable def bin(σ:St)(op:BOp)(a b:PV):Option (PV×St):=match op,a,b with
 | .add,.int x,.int y=>some (.int (x+y),σ)
 | .sub,.int x,.int y=>some (.int (x-y),σ)
 | .mul,.int x,.int y=>if CF x&&CF y then some (.int (x*y),σ)else none
 | .fdiv,.int x,.int y=>if y≠0/\y.natAbs<1073741824 then some (.int (Int.fdiv x y),σ)else none
 | .mod,.int x,.int y=>if y≠0 then some (.int (Int.fmod x y),σ)else none
 | .add,.str x a,.str y b=>if fits (x.length+y.length)then some (.str (x++y) (a&&b),σ)else none
 | .add,.bytes x,.bytes y=>if fits (x.length+y.length)then some (.bytes (x++y),σ)else none
 | .add,.ref i,.ref j=>match AK σ i,AK σ j with
  | some vs,some us=>if fits (vs.length+us.length)then some (.ref σ.length,σ++[.list (vs++us)])else none
  | _,_=>none
 | .add,.flist vs,.ref j=>match AK σ j with
  | some us=>if fits (vs.length+us.length)then some (.ref σ.length,σ++[.list (vs++us)])else none
  | _=>none
 | _,_,_=>none
noncomputable def at?{α:Type}(l:List α)(i:Int):Option α:=if 0<=i then l[i.toNat]? else if 0<=i+l.length then l[(i+l.length).toNat]? else none
noncomputable def idx(σ:St)(o i:PV):Option PV:=match o,i with
 | .ref a,.int k=>match AK σ a with | some vs=>if CF k then at? vs k else none | none=>none
 | .tup vs,.int k=>if 0<=k/\CF k=true then vs[k.toNat]? else none
 | .bytes b,.int k=>if 0<=k/\CF k=true then(b[k.toNat]?).map fun c=>.int (c.toNat:Int)else none
 | .ref a,.str k _=>match dictAt σ a with | some kvs=>DQ k kvs | none=>none
 | .fdict kvs,.str k _=>DQ k kvs
 | .str x _,.int k=>if 0<=k/\CF k=true then(x.cps[k.toNat]?).map fun c=>.str ⟨#[c]⟩ false else none
 | _,_=>none
noncomputable def BQ{α:Type}(l:List α)(lo hi:Option Int):List α:=(l.drop (lo.elim 0 (clipAt l.length))).take (hi.elim l.length (clipAt l.length)-lo.elim 0 (clipAt l.length))
noncomputable def part(o:Option PV):Option (Option Int):=match o with
 | none=>some none
 | some v=>match v with
  | .int i=>some (some i)
  | _=>none
noncomputable def slice(σ:St)(o:PV)(lo hi:Option PV):Option (PV×St):=match part lo with
 | none=>none
 | some l=>match part hi with
  | none=>none
  | some h=>match o with
   | .str x t=>some (.str (Txt.slice x l h) t,σ)
   | .bytes b=>some (.bytes (BQ b l h),σ)
   | .ref a=>match AK σ a with | some vs=>some (.ref σ.length,σ++[.list (BQ vs l h)]) | none=>none
   | .flist vs=>some (.ref σ.length,σ++[.list (BQ vs l h)])
   | _=>none
noncomputable def flds:List (Nat×Nat):=[(3,10),(3,11),(3,9),(3,12),(3,13),(3,14),(4,15),(4,16),(4,17),(4,18),(5,18),(6,2),(6,44),(6,45),(6,47),(6,48),(6,49)]
noncomputable def GZ(c k:Nat):Bool:=flds.any fun p=>p.1==c&&p.2==k
noncomputable def attr(σ:St)(o:PV)(k:Nat):Option PV:=match o with
 | .ref i=>match instAt σ i with | some (c,fs)=>if GZ c k=true then get k fs else none | none=>none
 | _=>none
noncomputable def setAttr(σ:St)(o:PV)(k:Nat)(v:PV):Option St:=match o with
 | .ref i=>match instAt σ i with | some (c,fs)=>if GZ c k=true/\fs.length<100 then some (σ.set i (.inst c (put k v fs)))else none | none=>none
 | _=>none
noncomputable def setItem(σ:St)(o k v:PV):Option St:=match o,k with
 | .ref i,.str x _=>match dictAt σ i with | some kvs=>if fits kvs.length then some (σ.set i (.dict (IZ x v kvs)))else none | none=>none
 | _,_=>none
noncomputable def bi(σ:St)(f:Bi)(vs:List PV):Option (PV×St):=match f,vs with
 | .len,[.str x _]=>some (.int x.length,σ)
 | .len,[.bytes b]=>some (.int b.length,σ)
 | .len,[.tup vs]=>some (.int vs.length,σ)
 | .len,[.ref i]=>match AK σ i with | some vs=>some (.int vs.length,σ) | none=>none
 | .ord,[.str x _]=>match x.cps.toList with | [c]=>some (.int c,σ) | _=>none
 | .chr,[.int i]=>if 0<=i/\i<=1114111 then some (.str ⟨#[i.toNat]⟩ true,σ)else none
 | .bytes,[.ref i]=>match AK σ i with
  | some vs=>match CR vs with
   | some l=>if l.all (fun n=>decide (0<=n)&&decide (n<256))then some (.bytes (l.map fun n=>n.toNat.toUInt8),σ)else none
   | none=>none
  | none=>none
 | .int,[.int i]=>some (.int i,σ)
 | .int,[.bool b]=>some (.int (if b then 1 else 0),σ)
 | .tuple,[.tup vs]=>some (.tup vs,σ)
 | .list,[.ref i]=>match AK σ i with | some vs=>some (.ref σ.length,σ++[.list vs]) | none=>none
 | _,_=>none
noncomputable def PU(x y:List UInt8):Int:=match Builtin.Bytes.find? x.toArray y.toArray 0 x.length with | some i=>i | none => -1
noncomputable def HA(x y:List UInt8):Bool:=decide (y.length<=x.length)&&(x.toArray.extract (x.length-y.length) x.length==y.toArray)
noncomputable def as1{α:Type}(vs:List PV)(f:PV->Option α):Option α:=match vs with
 | []=>none
 | v::r=>match r with
  | []=>f v
  | _::_=>none
noncomputable def aS{α:Type}(v:PV)(f:Str->Option α):Option α:=match v with
 | .str y _=>f y
 | _=>none
noncomputable def aO{α:Type}(v:PV)(f:Str->Option α):Option α:=match v with
 | .str y o=>match o with
  | true=>f y
  | false=>none
 | _=>none
noncomputable def aB{α:Type}(v:PV)(f:List UInt8->Option α):Option α:=match v with
 | .bytes y=>f y
 | _=>none
noncomputable def aR{α:Type}(v:PV)(f:Nat->Option α):Option α:=match v with
 | .ref y=>f y
 | _=>none
noncomputable def meth(σ:St)(o:PV)(m:Mt)(vs:List PV):Option (PV×St):=match o with
 | .str x _=>match m with
  | .find=>as1 vs fun v=>aS v fun y=>some (.int (Txt.find x y),σ)
  | .lower=>match vs with
   | []=>if fits x.length then some (.str (Txt.lower x) true,σ)else none
   | _::_=>none
  | .startswith=>as1 vs fun v=>aS v fun y=>some (.bool (Txt.startswith x y),σ)
  | .endswith=>as1 vs fun v=>aS v fun y=>some (.bool (Txt.endswith x y),σ)
  | .count=>as1 vs fun v=>aS v fun y=>some (.int (Txt.count x y),σ)
  | .replace=>match vs with
   | []=>none
   | u::r=>as1 r fun v=>aO u fun y=>aO v fun z=>if y≠z/\fits (x.length+(x.length+1)*z.length)=true/\fits (Txt.replace x y z).length=true then some (.str (Txt.replace x y z) false,σ)else none
  | .join=>as1 vs fun v=>aR v fun i=>match AK σ i with
   | some vs=>match BJ vs with
    | some l=>if JoinOk x l=true/\fits (Txt.join x l).length=true then some (.str (Txt.join x l) false,σ)else none
    | none=>none
   | none=>none
  | .split=>as1 vs fun v=>aS v fun y=>if y.length≠0/\fits x.length=true/\(Txt.split x y).all (fun z=>fits z.length)=true/\fits (Txt.split x y).length=true then some (.ref σ.length,σ++[.list ((Txt.split x y).map fun z=>.str z false)])else none
  | _=>none
 | .bytes x=>match m with
  | .find=>as1 vs fun v=>aB v fun y=>some (.int (PU x y),σ)
  | .endswith=>as1 vs fun v=>aB v fun y=>some (.bool (HA x y),σ)
  | .lstrip=>as1 vs fun v=>aB v fun y=>some (.bytes (x.dropWhile fun c=>y.contains c),σ)
  | .join=>match x with
   | []=>as1 vs fun v=>aR v fun i=>match AK σ i with
    | some vs=>match DF vs with
     | some l=>if fits l.flatten.length&&fits l.length then some (.bytes l.flatten,σ)else none
     | none=>none
    | none=>none
   | _::_=>none
  | _=>none
 | .ref i=>match m with
  | .append=>as1 vs fun v=>match AK σ i with | some vs=>if fits vs.length then some (.none,σ.set i (.list (vs++[v])))else none | none=>none
  | .extend=>as1 vs fun v=>aR v fun j=>match AK σ i with
   | some vs=>match AK σ j with
    | some us=>if i≠j/\fits (vs.length+us.length)=true then some (.none,σ.set i (.list (vs++us)))else none
    | none=>none
   | none=>none
  | .get=>match vs with
   | []=>none
   | u::r=>as1 r fun v=>aS u fun k=>match dictAt σ i with | some kvs=>some ((DQ k kvs).getD v,σ) | none=>none
  | _=>none
 | _=>none
set_option genInjectivity false
set_option genSizeOf false
inductive ME where
 | none | bool (b:Bool) | int (i:Int) | str (x:Str) | bytes (b:List UInt8)
 | var (k:Nat) | glob (k:Nat)
 | attr (e:ME) (k:Nat)
 | bin (op:BOp) (a b:ME) | cmp (op:COp) (a b:ME) | cmp2 (a:ME) (op:COp) (b:ME) (op':COp) (c:ME)
 | and (a b:ME) | or (a b:ME) | not (a:ME) | ite (c a b:ME)
 | idx (e i:ME) | sliceL (e lo:ME) | sliceR (e hi:ME) | sliceB (e lo hi:ME)
 | lst (es:List ME) | tup (es:List ME) | dct (ks:List Str) (es:List ME)
 | comp (elt:ME) (tgt:Nat) (it:ME) (cond:List ME) (cap:List Nat)
 | compR (elt:ME) (tgt:Nat) (n:ME) (cap:List Nat)
 | compD (elt:ME) (tgt:Nat) (it:ME) (cap:List Nat)
 | call (f:Nat) (args:List ME) | new (c:Nat) (args:List ME) | meth (e:ME) (m:Mt) (args:List ME) | bi (b:Bi) (args:List ME)
inductive MS where
 | asg (k:Nat) (e:ME) | asgT (ks:List Nat) (es:List ME)
 | setA (e:ME) (k:Nat) (v:ME) | setI (e k v:ME)
 | ifS (c:ME) (a b:List MS) | while (c:ME) (b:List MS)
 | for (k:Nat) (e:ME) (b:List MS) | forR (k:Nat) (n:ME) (b:List MS) | forZ (k j:Nat) (e e':ME) (b:List MS)
 | ret (e:ME) | exp (e:ME) | cont | pass
 | raise (c:Nat) (args:List ME) | tryE (b:List MS) (c:Nat) (h:List MS)
set_option genInjectivity true
set_option genSizeOf true
inductive Fl where | next | cont | ret (v:PV)
theorem upd_size(h:Heap)(a:Addr)(f:Obj->Obj):(h.update a f).objs.size=h.objs.size:=by simp[Heap.update]
theorem MF{M:Model}{Γ:Ctx}{p:Pos}{t:Sem Fin}{fs:List Frame}{s s':Shared}{e:End}(h:Runs M Γ p t fs s e s'):s.heap.objs.size<=s'.heap.objs.size:=by
 induction h<;>(try simp only[Shared.setGen,Heap.size_push,upd_size]at *)<;>lia
theorem a0d{M:Model}{Γ:Ctx}{p:Pos}{i:Nat}{r:Resume}{s s':Shared}{res:GenResult}(h:Wakes M Γ p i r s res s'):s.heap.objs.size<=s'.heap.objs.size:=by
 unfold Wakes at h
 revert h
 generalize s.gens[i]? = o
 intro h
 rcases o with _ | ⟨c⟩ | ⟨k,a,c,q,fs,b⟩ | _ | _
 ·exact h.elim
 ·rcases r with v | x
  ·induction v using Value.casesOn<;>first
    | exact h.2▸Nat.le_refl _
    | (obtain⟨_,s₁,hr,_,_,rfl⟩:=h;have:=MF hr;simpa [Shared.setGen] using this)
  ·rw[h.2];exact Nat.le_refl _
 ·obtain⟨_,s₁,hr,_,_,rfl⟩:=h
  have:=MF hr;simpa [Shared.setGen] using this
 ·rw[h.2];exact Nat.le_refl _
 ·rw[h.2];exact Nat.le_refl _
theorem b0r{α:Type}(M:Model)(Γ:Ctx)(n:Nat)(t:Sem α):∀ (Q:α->Pos->Shared->Prop) (E:Value->Pos->Shared->Prop) (p:Pos) (s:Shared),n<=s.heap.objs.size->Sem.wp M Γ t Q E p s →
  Sem.wp M Γ t (fun a p' s'=>n<=s'.heap.objs.size/\Q a p' s') (fun e p' s'=>n<=s'.heap.objs.size/\E e p' s') p s:=by
 induction t with
 | pure a=>intro Q E p s z h;exact⟨z,h⟩
 | raise e=>intro Q E p s z h;exact⟨z,h⟩
 | unsupported _=>intro Q E p s _ h;exact h
 | finish _=>intro Q E p s _ h;exact h
 | rule _ k ih=>intro Q E p s z h;exact ih () Q E p s z h
 | «at» p' k ih=>intro Q E p s z h;exact ih () Q E p' s z h
 | load a _ k ih=>intro Q E p s z ⟨o,ho,h⟩;exact⟨o,ho,ih o Q E p s z h⟩
 | update a _ f k ih=>intro Q E p s z h;exact⟨h.1,ih () Q E p _ (by simpa [upd_size] using z) h.2⟩
 | loadIfAlive a k ih=>intro Q E p s z h;exact ih _ Q E p s z h
 | point _ k ih=>intro Q E p s z h;exact ih () Q E p s z h
 | register _ _=>intro Q E p s _ h;exact h
 | alloc o k ih=>intro Q E p s z h;exact ih _ Q E p _ (by show n<=(s.heap.push o).objs.size;rw[Heap.size_push];exact Nat.le_succ_of_le z) h
 | fresh k ih=>intro Q E p s z h;exact ih _ Q E p _ z h
 | ask k ih=>intro Q E p s z h;exact ih _ Q E p s z h
 | choose src m k ih=>intro Q E p s z h;exact⟨h.1,ih _ Q E p _ z h.2⟩
 | os q _ k ih=>intro Q E p s z h;exact ih _ Q E p _ z h
 | call c hd _ _ k ih=>intro Q E p s z ⟨r,s',hr,h⟩;exact⟨r,s',hr,ih r Q E p s' (Nat.le_trans z (MF hr)) h⟩
 | handled own k ih=>intro Q E p s z h;exact ih _ Q E p s z h
 | genState i k ih=>intro Q E p s z ⟨st,hs,h⟩;exact⟨st,hs,ih _ Q E p s z h⟩
 | newGen c k ih=>intro Q E p s z h;exact ih _ Q E p _ z h
 | resume i r _ k ih=>intro Q E p s z ⟨res,s',hw,h⟩;exact⟨res,s',hw,ih res Q E p s' (Nat.le_trans z (a0d hw)) h⟩
 | yield _ _ _ _=>intro Q E p s _ h;exact h
 | stack k ih=>intro Q E p s z h;exact ih _ Q E p s z h
 | fork _ _=>intro Q E p s _ h;exact h
 | thread k ih=>intro Q E p s z h;exact ih _ Q E p s z h
 | await _ _ _ _ _=>intro Q E p s _ h;exact h
theorem DV{α:Type}{M:Model}{A:Around}{s:Shared}{t:Sem α}{Q:α->Shared->Prop}{E:Value->Shared->Prop}
  (h:wpAny M A t (fun a s'=>s.heap.objs.size<=s'.heap.objs.size->Q a s') (fun e s'=>s.heap.objs.size<=s'.heap.objs.size->E e s') s):wpAny M A t Q E s:=fun Γ p hΓ =>
 Sem.wp_mono M Γ t (fun _ _ _ x=>x.2 x.1) (fun _ _ _ x=>x.2 x.1) p s (b0r M Γ _ t _ _ p s (Nat.le_refl _) (h Γ p hΓ))
structure Tb where
 gl:Nat->PV
 ini:Nat->Nat
 mth:Nat->Nat->Option Nat
 C:Nat->List PV->St->(PV->St->Prop)->(St->Prop)->Prop
 /-- the calls under a handler -/
 C':Nat->List PV->St->(PV->St->Prop)->(St->Prop)->Prop
 /-- no exception is being handled -/
 free:Prop
noncomputable abbrev Tb.under(T:Tb):Tb:={T with C:=T.C',free:=False }
noncomputable def opt{α:Type}(o:Option α)(Q:α->Prop):Prop:=match o with | some a=>Q a | none=>False
@[simp] theorem b9j{α:Type}(a:α)(Q:α->Prop):opt (some a) Q=Q a:=rfl
noncomputable def turns(ok:St->Prop)(step:PV->Loc->St->(Fl->Loc->St->Prop)->Prop):List PV->Loc->St->(Fl->Loc->St->Prop)->Prop
 | [],Λ,σ,Q=>ok σ/\Q .next Λ σ
 | v::vs,Λ,σ,Q=>ok σ/\step v Λ σ fun f Λ' σ'=>match f with
  | .ret u=>Q (.ret u) Λ' σ'
  | _=>turns ok step vs Λ' σ' Q
noncomputable def gathers(ok:St->Prop)(step:PV->St->(Option PV->St->Prop)->Prop):List PV->List PV->St->(List PV->St->Prop)->Prop
 | [],acc,σ,Q=>ok σ/\fits acc.length=true/\Q acc σ
 | v::vs,acc,σ,Q=>ok σ/\step v σ fun u σ'=>gathers ok step vs (match u with | some u=>acc++[u] | none=>acc) σ' Q
noncomputable def items(σ:St)(v:PV):Option (List PV×(St->Prop)):=match v with
 | .ref i=>match AK σ i with
  | some vs=>some (vs,fun τ=>AK τ i=some vs)
  | none=>none
 | .str x _=>some (x.cps.toList.map fun c=>.str ⟨#[c]⟩ true,fun _=>True)
 | _=>none
noncomputable def HY(σ:St)(v:PV):Option (List PV):=match v with
 | .ref i=>match dictAt σ i with
  | some kvs=>if(fits kvs.length&&kvs.all (fun p=>fits p.1.length))=true then some (kvs.map fun p=>.str p.1 false)else none
  | none=>none
 | _=>none
noncomputable def EG:PV->Option (List PV)
 | .int n=>if 0<=n/\n<=1000 then some ((List.range n.toNat).map fun(k:Nat)=>PV.int (k:Int))else none
 | _=>none
noncomputable def OU(σ:St)(v u:PV):Option (List (PV×PV)×(St->Prop)):=match v,u with
 | .ref i,.ref j=>match AK σ i,AK σ j with
  | some vs,some us=>if vs.length=us.length then some (vs.zip us,fun τ=>AK τ i=some vs/\AK τ j=some us)else none
  | _,_=>none
 | _,_=>none
noncomputable def EH(ok:St->Prop)(step:PV×PV->Loc->St->(Fl->Loc->St->Prop)->Prop):List (PV×PV)->Loc->St->(Fl->Loc->St->Prop)->Prop
 | [],Λ,σ,Q=>ok σ/\Q .next Λ σ
 | v::vs,Λ,σ,Q=>ok σ/\step v Λ σ fun f Λ' σ'=>match f with
  | .ret u=>Q (.ret u) Λ' σ'
  | _=>EH ok step vs Λ' σ' Q
noncomputable def truth:PV->Option Bool
 | .bool b=>some b
 | _=>none
noncomputable def mok(mth:Nat->Nat->Option Nat)(σ:St)(o:PV)(m:Mt)(es:List ME):Option (Option Nat):=match o with
 | .ref i=>match m with
  | .own k=>match instAt σ i with
   | some (c,fs)=>match get k fs with
    | none=>match mth c k with | some f=>some (some f) | none=>none
    | some _=>none
   | none=>none
  | .append=>match AK σ i with | some _=>some none | none=>none
  | .extend=>match AK σ i with | some _=>some none | none=>none
  | .get=>match dictAt σ i with | some _=>some none | none=>none
  | _=>none
 | .str _ _=>match m with
  | .replace=>match es with
   | []=>none
   | a::r=>match r with
    | []=>none
    | b::r=>match r with
     | _::_=>none
     | []=>match a with
      | .str _=>match b with
       | .var _=>some none
       | .str _=>some none
       | _=>none
      | _=>none
  | .find=>some none
  | .lower=>some none
  | .startswith=>some none
  | .endswith=>some none
  | .count=>some none
  | .join=>some none
  | .split=>some none
  | _=>none
 | .bytes _=>match m with
  | .find=>some none
  | .endswith=>some none
  | .lstrip=>some none
  | .join=>some none
  | _=>none
 | _=>none
section
variable (T:Tb)
mutual
noncomputable def wpE:ME->Loc->St->(PV->St->Prop)->(St->Prop)->Prop
 | .none,_,σ,Q,_=>Q .none σ
 | .bool b,_,σ,Q,_=>Q (.bool b) σ
 | .int i,_,σ,Q,_=>Q (.int i) σ
 | .str x,_,σ,Q,_=>Q (.str x true) σ
 | .bytes b,_,σ,Q,_=>Q (.bytes b) σ
 | .var k,Λ,σ,Q,_=>opt (get k Λ) fun v=>Q v σ
 | .glob k,_,σ,Q,_=>Q (T.gl k) σ
 | .attr e k,Λ,σ,Q,X=>wpE e Λ σ (fun o σ=>opt (attr σ o k) fun v=>Q v σ) X
 | .bin op a b,Λ,σ,Q,X=>wpE a Λ σ (fun x σ=>wpE b Λ σ (fun y σ=>opt (bin σ op x y) fun r=>Q r.1 r.2) X) X
 | .cmp op a b,Λ,σ,Q,X=>wpE a Λ σ (fun x σ=>wpE b Λ σ (fun y σ=>opt (cmp σ op x y) fun r=>Q (.bool r) σ) X) X
 | .cmp2 a op b op' c,Λ,σ,Q,X=>wpE a Λ σ (fun x σ=>wpE b Λ σ (fun y σ=>opt (cmp σ op x y) fun r =>
   if r=true then wpE c Λ σ (fun z σ=>opt (cmp σ op' y z) fun r=>Q (.bool r) σ) X else Q (.bool false) σ) X) X
 | .and a b,Λ,σ,Q,X=>wpE a Λ σ (fun x σ=>opt (truth x) fun t=>if t=true then wpE b Λ σ Q X else Q x σ) X
 | .or a b,Λ,σ,Q,X=>wpE a Λ σ (fun x σ=>opt (truth x) fun t=>if t=true then Q x σ else wpE b Λ σ Q X) X
 | .not a,Λ,σ,Q,X=>wpE a Λ σ (fun x σ=>opt (truth x) fun t=>Q (.bool (!t)) σ) X
 | .ite c a b,Λ,σ,Q,X=>wpE c Λ σ (fun x σ=>opt (truth x) fun t=>if t=true then wpE a Λ σ Q X else wpE b Λ σ Q X) X
 | .idx e i,Λ,σ,Q,X=>wpE e Λ σ (fun o σ=>wpE i Λ σ (fun k σ=>opt (idx σ o k) fun v=>Q v σ) X) X
 | .sliceL e lo,Λ,σ,Q,X=>wpE e Λ σ (fun o σ=>wpE lo Λ σ (fun k σ=>opt (slice σ o (some k) none) fun r=>Q r.1 r.2) X) X
 | .sliceR e hi,Λ,σ,Q,X=>wpE e Λ σ (fun o σ=>wpE hi Λ σ (fun k σ=>opt (slice σ o none (some k)) fun r=>Q r.1 r.2) X) X
 | .sliceB e lo hi,Λ,σ,Q,X=>wpE e Λ σ (fun o σ=>wpE lo Λ σ (fun k σ=>wpE hi Λ σ (fun j σ=>opt (slice σ o (some k) (some j)) fun r=>Q r.1 r.2) X) X) X
 | .lst es,Λ,σ,Q,X=>CX es Λ σ (fun vs σ=>Q (.ref σ.length) (σ++[.list vs])) X
 | .tup es,Λ,σ,Q,X=>CX es Λ σ (fun vs σ=>Q (.tup vs) σ) X
 | .dct ks es,Λ,σ,Q,X=>CX es Λ σ (fun vs σ=>Q (.ref σ.length) (σ++[.dict (ks.zip vs)])) X
 | .comp elt tgt it cond cap,Λ,σ,Q,X=>wpE it Λ σ (fun v σ=>opt (items σ v) fun r =>
   gathers r.2 (fun x σ K=>US cond (put tgt x (BE cap Λ)) σ (fun t σ=>if t=true then wpE elt (put tgt x (BE cap Λ)) σ (fun u σ=>K (some u) σ) (fun _=>False)else K none σ) (fun _=>False))
    r.1 [] σ fun vs σ=>Q (.ref σ.length) (σ++[.list vs])) X
 | .compR elt tgt n cap,Λ,σ,Q,X=>wpE n Λ σ (fun v σ=>opt (EG v) fun l =>
   gathers (fun _=>T.free) (fun x σ K=>wpE elt (put tgt x (BE cap Λ)) σ (fun u σ=>K (some u) σ) (fun _=>False)) l [] σ fun vs σ=>Q (.ref σ.length) (σ++[.list vs])) X
 | .compD elt tgt it cap,Λ,σ,Q,X=>wpE it Λ σ (fun v σ=>opt (HY σ v) fun l =>
   gathers (fun _=>T.free) (fun x σ K=>wpE elt (put tgt x (BE cap Λ)) σ (fun u σ=>K (some u) σ) (fun _=>False)) l [] σ fun vs σ=>Q (.ref σ.length) (σ++[.list vs])) X
 | .call f es,Λ,σ,Q,X=>CX es Λ σ (fun vs σ=>T.C f vs σ Q X) X
 | .new c es,Λ,σ,Q,X=>CX es Λ σ (fun vs σ=>T.C (T.ini c) (.ref σ.length::vs) (σ++[.inst c []]) (fun v σ'=>v = .none/\Q (.ref σ.length) σ') X) X
 | .meth e m es,Λ,σ,Q,X=>wpE e Λ σ (fun o σ=>opt (mok T.mth σ o m es) fun k=>CX es Λ σ (fun vs σ'=>match k with
   | some f=>T.C f (o::vs) σ' Q X
   | none=>opt (meth σ' o m vs) fun r=>Q r.1 r.2) X) X
 | .bi f es,Λ,σ,Q,X=>CX es Λ σ (fun vs σ=>opt (bi σ f vs) fun r=>Q r.1 r.2) X
noncomputable def CX:List ME->Loc->St->(List PV->St->Prop)->(St->Prop)->Prop
 | [],_,σ,Q,_=>Q [] σ
 | e::es,Λ,σ,Q,X=>wpE e Λ σ (fun v σ=>CX es Λ σ (fun vs σ=>Q (v::vs) σ) X) X
noncomputable def US:List ME->Loc->St->(Bool->St->Prop)->(St->Prop)->Prop
 | [],_,σ,Q,_=>Q true σ
 | [c],Λ,σ,Q,X=>wpE c Λ σ (fun x σ=>opt (truth x) fun t=>Q t σ) X
 | _::_::_,_,_,_,_=>False
end
end
mutual
noncomputable def wpS:Tb->MS->Loc->St->(Fl->Loc->St->Prop)->(St->Prop)->Prop
 | T,.asg k e,Λ,σ,Q,X=>wpE T e Λ σ (fun v σ=>Q .next (put k v Λ) σ) X
 | T,.asgT ks es,Λ,σ,Q,X=>CX T es Λ σ (fun vs σ=>Q .next (puts ks.reverse vs.reverse Λ) σ) X
 | T,.setA e k v,Λ,σ,Q,X=>wpE T v Λ σ (fun u σ=>wpE T e Λ σ (fun o σ=>opt (setAttr σ o k u) fun σ=>Q .next Λ σ) X) X
 | T,.setI e i v,Λ,σ,Q,X=>wpE T v Λ σ (fun u σ=>wpE T e Λ σ (fun o σ=>wpE T i Λ σ (fun k σ=>opt (setItem σ o k u) fun σ=>Q .next Λ σ) X) X) X
 | T,.ifS c a b,Λ,σ,Q,X=>wpE T c Λ σ (fun x σ=>opt (truth x) fun t=>if t=true then AN T a Λ σ Q X else AN T b Λ σ Q X) X
 | T,.while c b,Λ,σ,Q,_=>∃ I:Nat->Loc->St->Prop,(∃ m,I m Λ σ)/\∀ m Λ σ,I m Λ σ->wpE T c Λ σ (fun x σ=>opt (truth x) fun t =>
   if t=true then AN T b Λ σ (fun f Λ σ=>match f with | .ret v=>Q (.ret v) Λ σ | _=>∃ m',m'<m/\I m' Λ σ) (fun _=>False)else Q .next Λ σ) (fun _=>False)
 | T,.for k e b,Λ,σ,Q,X=>wpE T e Λ σ (fun v σ=>opt (items σ v) fun r=>turns r.2 (fun x Λ σ K=>AN T b (put k x Λ) σ K X) r.1 Λ σ Q) X
 | T,.forR k e b,Λ,σ,Q,X=>wpE T e Λ σ (fun v σ=>opt (EG v) fun l=>turns (fun _=>T.free) (fun x Λ σ K=>AN T b (put k x Λ) σ K (fun _=>False)) l Λ σ Q) X
 | T,.forZ k j e e' b,Λ,σ,Q,X=>wpE T e Λ σ (fun v σ=>wpE T e' Λ σ (fun u σ=>opt (OU σ v u) fun r=>EH (fun τ=>T.free/\r.2 τ) (fun x Λ σ K=>AN T b (put j x.2 (put k x.1 Λ)) σ K (fun _=>False)) r.1 Λ σ Q) X) X
 | T,.ret e,Λ,σ,Q,X=>wpE T e Λ σ (fun v σ=>Q (.ret v) Λ σ) X
 | T,.exp e,Λ,σ,Q,X=>wpE T e Λ σ (fun _ σ=>Q .next Λ σ) X
 | _,.cont,Λ,σ,Q,_=>Q .cont Λ σ
 | _,.pass,Λ,σ,Q,_=>Q .next Λ σ
 | T,.raise c args,_,σ,_,X=>match c,args with
  | 2,[.int _]=>T.free/\X σ
  | _,_=>False
 | _,.tryE _ _ _,_,_,_,_=>False
noncomputable def AN:Tb->List MS->Loc->St->(Fl->Loc->St->Prop)->(St->Prop)->Prop
 | _,[],Λ,σ,Q,_=>Q .next Λ σ
 | T,s::r,Λ,σ,Q,X=>wpS T s Λ σ (fun f Λ σ=>match f with | .next=>AN T r Λ σ Q X | f=>Q f Λ σ) X
end
end Mine
end
section
open PySem PySem.W
set_option maxRecDepth 10000
namespace Mine
set_option tactic.hygienic false
noncomputable def names:List Str:=(["self","told","text","numbers","sign","number","one","cut","head","section","word","raw","name","value","spelt","octets","at","row","pieces","is_over","peek","take","piece","start","keep","read_header","read_spelt","read_value","read_subsection","skip_blanks","found","read_signs","kept","is_quoted","read_escape","read","old","new","near","far","count","indent","is_in","is_open","is_forced","is_negative","rest","source","target","is_pattern","side","tail","specs","names","is_barred","targets","spec","mapped","fits","script","cell","deck","below","cells","rows","parts","middle","config","sections","items","turn","asked","many","due","remove_section","rename_section","way","drawn","star","back","some"]:List String).map Str.ofString
noncomputable def PW:List MS:=[.setA (.var 0) 1 (.var 1)]
noncomputable def b_octets_of:List MS:=[.asg 3 (.comp (.bi .ord [(.var 4)]) 4 (.var 2) [] []),.for 5 (.var 3) [.ifS (.cmp .gt (.var 5) (.int 255)) [.raise 1 [(.var 2)]] []],.ret (.bi .bytes [(.var 3)])]
noncomputable def b_config_is_letter:List MS:=[.ret (.or (.cmp2 (.int 97) .le (.var 6) .le (.int 122)) (.cmp2 (.int 65) .le (.var 6) .le (.int 90)))]
noncomputable def b_config_is_sign:List MS:=[.ret (.or (.call 2 [(.var 6)]) (.or (.cmp2 (.int 48) .le (.var 6) .le (.int 57)) (.cmp .eq (.var 6) (.int 45))))]
noncomputable def b_config_section:List MS:=[.asg 7 (.meth (.var 2) .find [(.str ".")]),.asg 8 (.ite (.cmp .lt (.var 7) (.int 0)) (.var 2) (.sliceR (.var 2) (.var 7))),.ifS (.cmp .eq (.var 8) (.str "")) [.raise 2 [(.int 0)]] [],.for 4 (.var 8) [.ifS (.not (.call 3 [(.bi .ord [(.var 4)])])) [.raise 2 [(.int 0)]] []],.ifS (.cmp .lt (.var 7) (.int 0)) [.ret (.meth (.var 8) .lower [])] [],.for 4 (.sliceL (.var 2) (.var 7)) [.ifS (.or (.cmp .eq (.var 4) (.str "\n")) (.or (.cmp .eq (.bi .ord [(.var 4)]) (.int 0)) (.cmp .gt (.bi .ord [(.var 4)]) (.int 255)))) [.raise 2 [(.int 0)]] []],.ret (.bin .add (.meth (.var 8) .lower []) (.sliceL (.var 2) (.var 7)))]
noncomputable def b_config_header:List MS:=[.asg 7 (.meth (.var 9) .find [(.str ".")]),.ifS (.cmp .lt (.var 7) (.int 0)) [.ret (.call 1 [(.bin .add (.bin .add (.str "[") (.var 9)) (.str "]"))])] [],.asg 1 (.str ""),.for 4 (.sliceL (.var 9) (.bin .add (.var 7) (.int 1))) [.asg 1 (.bin .add (.var 1) (.ite (.cmp .isin (.var 4) (.str "\"\\")) (.bin .add (.str "\\") (.var 4)) (.var 4)))],.ret (.call 1 [(.bin .add (.bin .add (.bin .add (.bin .add (.str "[") (.sliceR (.var 9) (.var 7))) (.str " \"")) (.var 1)) (.str "\"]"))])]
noncomputable def b_ConfigPiece_init:List MS:=[.setA (.var 0) 10 (.var 10),.setA (.var 0) 11 (.var 11),.setA (.var 0) 9 (.var 9),.setA (.var 0) 12 (.var 12),.setA (.var 0) 13 (.var 13),.setA (.var 0) 14 (.var 14)]
noncomputable def b_ConfigPiece_is_open:List MS:=[.ret (.not (.meth (.attr (.var 0) 11) .endswith [(.bytes [10])]))]
noncomputable def b_ConfigPiece_indent:List MS:=[.ifS (.cmp .eq (.attr (.var 0) 10) (.str "section")) [.ret (.sliceR (.attr (.var 0) 11) (.meth (.attr (.var 0) 11) .find [(.bytes [91])]))] [],.ret (.sliceR (.attr (.var 0) 11) (.bin .sub (.bi .len [(.attr (.var 0) 11)]) (.bi .len [(.meth (.attr (.var 0) 11) .lstrip [(.bytes [32,9,13])])])))]
noncomputable def b_ConfigReader_init:List MS:=[.setA (.var 0) 15 (.var 15),.setA (.var 0) 16 (.int 0),.setA (.var 0) 17 (.int 1),.setA (.var 0) 18 (.lst [])]
noncomputable def b_ConfigReader_is_over:List MS:=[.ret (.cmp .ge (.attr (.var 0) 16) (.bi .len [(.attr (.var 0) 15)]))]
noncomputable def b_ConfigReader_peek:List MS:=[.ifS (.meth (.var 0) (.own 19) []) [.ret (.int 10)] [],.asg 6 (.idx (.attr (.var 0) 15) (.attr (.var 0) 16)),.ifS (.and (.cmp .eq (.var 6) (.int 13)) (.cmp .eq (.sliceB (.attr (.var 0) 15) (.bin .add (.attr (.var 0) 16) (.int 1)) (.bin .add (.attr (.var 0) 16) (.int 2))) (.bytes [10]))) [.ret (.int 10)] [],.ret (.var 6)]
noncomputable def b_ConfigReader_take:List MS:=[.asg 6 (.meth (.var 0) (.own 20) []),.ifS (.cmp .eq (.var 6) (.int 10)) [.setA (.var 0) 17 (.bin .add (.attr (.var 0) 17) (.int 1)),.ifS (.and (.not (.meth (.var 0) (.own 19) [])) (.cmp .eq (.idx (.attr (.var 0) 15) (.attr (.var 0) 16)) (.int 13))) [.setA (.var 0) 16 (.bin .add (.attr (.var 0) 16) (.int 1))] []] [],.ifS (.not (.meth (.var 0) (.own 19) [])) [.setA (.var 0) 16 (.bin .add (.attr (.var 0) 16) (.int 1))] [],.ret (.var 6)]
noncomputable def b_ConfigReader_skip_blanks:List MS:=[.while (.or (.cmp .eq (.meth (.var 0) (.own 20) []) (.int 32)) (.cmp .eq (.meth (.var 0) (.own 20) []) (.int 9))) [.exp (.meth (.var 0) (.own 21) [])]]
noncomputable def b_ConfigReader_keep:List MS:=[.ifS (.cmp .ne (.attr (.var 22) 11) (.bytes [])) [.exp (.meth (.attr (.var 0) 18) .append [(.var 22)])] [],.ret (.attr (.var 0) 16)]
noncomputable def b_ConfigReader_read:List MS:=[.asg 9 .none,.asg 23 (.int 0),.ifS (.cmp .eq (.sliceR (.attr (.var 0) 15) (.int 3)) (.bytes [239,187,191])) [.setA (.var 0) 16 (.int 3)] [],.while (.not (.meth (.var 0) (.own 19) [])) [.asg 6 (.meth (.var 0) (.own 20) []),.ifS (.cmp .eq (.var 6) (.int 10)) [.exp (.meth (.var 0) (.own 21) []),.asg 23 (.meth (.var 0) (.own 24) [(.new 3 [(.str "gap"),(.sliceB (.attr (.var 0) 15) (.var 23) (.attr (.var 0) 16))])])] [.ifS (.cmp .isin (.var 6) (.glob 1)) [.exp (.meth (.var 0) (.own 21) [])] [.ifS (.or (.cmp .eq (.var 6) (.int 35)) (.cmp .eq (.var 6) (.int 59))) [.while (.cmp .ne (.meth (.var 0) (.own 20) []) (.int 10)) [.exp (.meth (.var 0) (.own 21) [])]] [.ifS (.cmp .eq (.var 6) (.int 91)) [.asg 9 (.meth (.var 0) (.own 25) []),.asg 23 (.meth (.var 0) (.own 24) [(.new 3 [(.str "section"),(.sliceB (.attr (.var 0) 15) (.var 23) (.attr (.var 0) 16)),(.var 9)])])] [.ifS (.and (.call 2 [(.var 6)]) (.cmp .isnot (.var 9) .none)) [.asg 14 (.meth (.var 0) (.own 26) []),.asg 13 (.meth (.var 0) (.own 27) []),.asg 11 (.sliceB (.attr (.var 0) 15) (.var 23) (.attr (.var 0) 16)),.asg 23 (.meth (.var 0) (.own 24) [(.new 3 [(.str "value"),(.var 11),(.var 9),(.meth (.var 14) .lower []),(.var 13),(.var 14)])])] [.raise 2 [(.attr (.var 0) 17)]]]]]]],.exp (.meth (.var 0) (.own 24) [(.new 3 [(.str "gap"),(.sliceB (.attr (.var 0) 15) (.var 23) (.attr (.var 0) 16))])]),.ret (.attr (.var 0) 18)]
noncomputable def b_ConfigReader_read_header:List MS:=[.exp (.meth (.var 0) (.own 21) []),.asg 8 (.str ""),.while (.cmp .ne (.meth (.var 0) (.own 20) []) (.int 93)) [.asg 6 (.meth (.var 0) (.own 20) []),.ifS (.and (.cmp .ne (.var 8) (.str "")) (.or (.cmp .eq (.var 6) (.int 32)) (.cmp .eq (.var 6) (.int 9)))) [.ret (.bin .add (.bin .add (.var 8) (.str ".")) (.meth (.var 0) (.own 28) []))] [],.ifS (.and (.not (.call 3 [(.var 6)])) (.or (.cmp .ne (.var 6) (.int 46)) (.cmp .eq (.var 8) (.str "")))) [.raise 2 [(.attr (.var 0) 17)]] [],.asg 8 (.bin .add (.var 8) (.meth (.bi .chr [(.meth (.var 0) (.own 21) [])]) .lower []))],.ifS (.cmp .eq (.var 8) (.str "")) [.raise 2 [(.attr (.var 0) 17)]] [],.exp (.meth (.var 0) (.own 21) []),.ret (.var 8)]
noncomputable def b_ConfigReader_read_subsection:List MS:=[.exp (.meth (.var 0) (.own 29) []),.ifS (.cmp .ne (.meth (.var 0) (.own 20) []) (.int 34)) [.raise 2 [(.attr (.var 0) 17)]] [],.exp (.meth (.var 0) (.own 21) []),.asg 30 (.str ""),.while (.cmp .ne (.meth (.var 0) (.own 20) []) (.int 34)) [.ifS (.cmp .eq (.meth (.var 0) (.own 20) []) (.int 92)) [.exp (.meth (.var 0) (.own 21) [])] [],.ifS (.or (.cmp .eq (.meth (.var 0) (.own 20) []) (.int 10)) (.cmp .eq (.meth (.var 0) (.own 20) []) (.int 0))) [.raise 2 [(.attr (.var 0) 17)]] [],.asg 30 (.bin .add (.var 30) (.bi .chr [(.meth (.var 0) (.own 21) [])]))],.exp (.meth (.var 0) (.own 21) []),.ifS (.cmp .ne (.meth (.var 0) (.own 20) []) (.int 93)) [.raise 2 [(.attr (.var 0) 17)]] [],.exp (.meth (.var 0) (.own 21) []),.ret (.var 30)]
noncomputable def b_ConfigReader_read_spelt:List MS:=[.asg 30 (.str ""),.while (.call 3 [(.meth (.var 0) (.own 20) [])]) [.asg 30 (.bin .add (.var 30) (.bi .chr [(.meth (.var 0) (.own 21) [])]))],.ret (.var 30)]
noncomputable def b_ConfigReader_read_value:List MS:=[.exp (.meth (.var 0) (.own 29) []),.ifS (.cmp .eq (.meth (.var 0) (.own 20) []) (.int 10)) [.exp (.meth (.var 0) (.own 21) []),.ret .none] [],.ifS (.cmp .ne (.meth (.var 0) (.own 20) []) (.int 61)) [.raise 2 [(.attr (.var 0) 17)]] [],.exp (.meth (.var 0) (.own 21) []),.ret (.meth (.var 0) (.own 31) [])]
noncomputable def b_ConfigReader_read_signs:List MS:=[.asg 30 (.str ""),.asg 32 (.int 0),.asg 33 (.bool false),.while (.bool true) [.asg 6 (.meth (.var 0) (.own 20) []),.ifS (.cmp .eq (.var 6) (.int 10)) [.ifS (.var 33) [.raise 2 [(.attr (.var 0) 17)]] [],.exp (.meth (.var 0) (.own 21) []),.ret (.sliceR (.var 30) (.var 32))] [],.ifS (.and (.not (.var 33)) (.cmp .isin (.var 6) (.glob 1))) [.exp (.meth (.var 0) (.own 21) []),.ifS (.cmp .ne (.var 30) (.str "")) [.asg 30 (.bin .add (.var 30) (.bi .chr [(.var 6)]))] [],.cont] [],.ifS (.and (.not (.var 33)) (.or (.cmp .eq (.var 6) (.int 35)) (.cmp .eq (.var 6) (.int 59)))) [.while (.cmp .ne (.meth (.var 0) (.own 20) []) (.int 10)) [.exp (.meth (.var 0) (.own 21) [])],.cont] [],.exp (.meth (.var 0) (.own 21) []),.ifS (.cmp .eq (.var 6) (.int 34)) [.asg 33 (.not (.var 33))] [.ifS (.cmp .eq (.var 6) (.int 92)) [.asg 30 (.bin .add (.var 30) (.meth (.var 0) (.own 34) []))] [.asg 30 (.bin .add (.var 30) (.bi .chr [(.var 6)]))]],.asg 32 (.bi .len [(.var 30)])]]
noncomputable def b_ConfigReader_read_escape:List MS:=[.asg 17 (.attr (.var 0) 17),.asg 4 (.bi .chr [(.meth (.var 0) (.own 21) [])]),.ifS (.cmp .eq (.var 4) (.str "\n")) [.ret (.str "")] [],.ifS (.cmp .notin (.var 4) (.glob 2)) [.raise 2 [(.var 17)]] [],.ret (.idx (.glob 2) (.var 4))]
noncomputable def b_Config_init:List MS:=[.setA (.var 0) 18 (.meth (.new 4 [(.var 15)]) (.own 35) [])]
noncomputable def b_Config_octets:List MS:=[.ret (.meth (.bytes []) .join [(.comp (.attr (.var 22) 11) 22 (.attr (.var 0) 18) [] [])])]
noncomputable def b_Config_items:List MS:=[.ret (.comp (.tup [(.bin .add (.bin .add (.attr (.var 22) 9) (.str ".")) (.attr (.var 22) 12)),(.attr (.var 22) 13)]) 22 (.attr (.var 0) 18) [(.cmp .eq (.attr (.var 22) 10) (.str "value"))] [])]
noncomputable def b_Config_sections:List MS:=[.asg 30 (.lst []),.for 22 (.attr (.var 0) 18) [.ifS (.and (.cmp .eq (.attr (.var 22) 10) (.str "section")) (.cmp .notin (.attr (.var 22) 9) (.var 30))) [.exp (.meth (.var 30) .append [(.attr (.var 22) 9)])] []],.ret (.var 30)]
noncomputable def b_Config_rename_section:List MS:=[.asgT [38,39] [(.call 4 [(.var 36)]),(.call 4 [(.var 37)])],.asg 40 (.int 0),.for 22 (.attr (.var 0) 18) [.ifS (.and (.cmp .ne (.attr (.var 22) 10) (.str "gap")) (.cmp .eq (.attr (.var 22) 9) (.var 38))) [.setA (.var 22) 9 (.var 39),.ifS (.cmp .eq (.attr (.var 22) 10) (.str "section")) [.setA (.var 22) 11 (.bin .add (.meth (.var 22) (.own 41) []) (.call 5 [(.var 39)])),.asg 40 (.bin .add (.var 40) (.int 1))] []] []],.ret (.var 40)]
noncomputable def b_Config_remove_section:List MS:=[.asg 38 (.call 4 [(.var 36)]),.asg 32 (.lst []),.asg 40 (.int 0),.asg 42 (.bool false),.for 22 (.attr (.var 0) 18) [.ifS (.cmp .eq (.attr (.var 22) 10) (.str "section")) [.asg 42 (.cmp .eq (.attr (.var 22) 9) (.var 38)),.asg 40 (.bin .add (.var 40) (.bi .int [(.var 42)]))] [],.ifS (.not (.var 42)) [.exp (.meth (.var 32) .append [(.var 22)])] [.ifS (.and (.cmp .ne (.var 32) (.lst [])) (.meth (.idx (.var 32) (.int (-1))) (.own 43) [])) [.exp (.meth (.var 32) .append [(.new 3 [(.str "gap"),(.bytes [10])])])] []]],.setA (.var 0) 18 (.var 32),.ret (.var 40)]
noncomputable def b_RefSpec_init:List MS:=[.setA (.var 0) 2 (.var 2),.setA (.var 0) 44 (.meth (.var 2) .startswith [(.str "+")]),.setA (.var 0) 45 (.meth (.var 2) .startswith [(.str "^")]),.asg 46 (.ite (.or (.attr (.var 0) 44) (.attr (.var 0) 45)) (.sliceL (.var 2) (.int 1)) (.var 2)),.asg 7 (.meth (.var 46) .find [(.str ":")]),.setA (.var 0) 47 (.ite (.cmp .lt (.var 7) (.int 0)) (.var 46) (.sliceR (.var 46) (.var 7))),.setA (.var 0) 48 (.ite (.cmp .lt (.var 7) (.int 0)) (.str "") (.sliceL (.var 46) (.bin .add (.var 7) (.int 1)))),.setA (.var 0) 49 (.cmp .isin (.str "*") (.attr (.var 0) 47)),.ifS (.and (.attr (.var 0) 45) (.or (.cmp .ge (.var 7) (.int 0)) (.cmp .eq (.attr (.var 0) 47) (.str "")))) [.raise 2 [(.int 0)]] [],.ifS (.or (.not (.call 32 [(.attr (.var 0) 47)])) (.not (.call 32 [(.attr (.var 0) 48)]))) [.raise 2 [(.int 0)]] [],.ifS (.and (.cmp .ne (.attr (.var 0) 48) (.str "")) (.cmp .ne (.attr (.var 0) 49) (.cmp .isin (.str "*") (.attr (.var 0) 48)))) [.raise 2 [(.int 0)]] []]
noncomputable def b_RefSpec_fits:List MS:=[.ret (.cmp .isnot (.call 33 [(.attr (.var 0) 47),(.var 12)]) .none)]
noncomputable def b_RefSpec_mapped:List MS:=[.asg 46 (.call 33 [(.attr (.var 0) 47),(.var 12)]),.ifS (.or (.cmp .is (.var 46) .none) (.or (.cmp .eq (.attr (.var 0) 48) (.str "")) (.attr (.var 0) 45))) [.ret .none] [],.ret (.meth (.attr (.var 0) 48) .replace [(.str "*"),(.var 46)])]
noncomputable def b_RefSpec_back:List MS:=[.asg 46 (.call 33 [(.attr (.var 0) 48),(.var 12)]),.ret (.ite (.or (.cmp .is (.var 46) .none) (.cmp .eq (.attr (.var 0) 47) (.str ""))) .none (.meth (.attr (.var 0) 47) .replace [(.str "*"),(.var 46)]))]
noncomputable def b_refspec_side:List MS:=[.ifS (.or (.cmp .gt (.meth (.var 2) .count [(.str "*")]) (.int 1)) (.or (.meth (.var 2) .startswith [(.str "/")]) (.or (.meth (.var 2) .endswith [(.str "/")]) (.or (.cmp .isin (.str "//") (.var 2)) (.cmp .isin (.str "..") (.var 2)))))) [.ret (.bool false)] [],.for 4 (.var 2) [.ifS (.or (.cmp .le (.bi .ord [(.var 4)]) (.int 32)) (.or (.cmp .eq (.bi .ord [(.var 4)]) (.int 127)) (.cmp .isin (.var 4) (.str "~^:?[\\")))) [.ret (.bool false)] []],.ret (.bool true)]
noncomputable def b_refspec_rest:List MS:=[.asg 7 (.meth (.var 50) .find [(.str "*")]),.ifS (.cmp .lt (.var 7) (.int 0)) [.ret (.ite (.and (.cmp .eq (.var 50) (.var 12)) (.cmp .ne (.var 50) (.str ""))) (.str "") .none)] [],.asgT [8,51] [(.sliceR (.var 50) (.var 7)),(.sliceL (.var 50) (.bin .add (.var 7) (.int 1)))],.ifS (.or (.cmp .lt (.bi .len [(.var 12)]) (.bin .add (.bi .len [(.var 8)]) (.bi .len [(.var 51)]))) (.or (.not (.meth (.var 12) .startswith [(.var 8)])) (.not (.meth (.var 12) .endswith [(.var 51)])))) [.ret .none] [],.ret (.sliceB (.var 12) (.bi .len [(.var 8)]) (.bin .sub (.bi .len [(.var 12)]) (.bi .len [(.var 51)])))]
noncomputable def b_refspec_map:List MS:=[.asg 30 (.lst []),.for 12 (.var 53) [.asg 54 (.bool false),.asg 55 (.dct [] []),.for 56 (.var 52) [.asg 48 (.meth (.var 56) (.own 57) [(.var 12)]),.ifS (.and (.attr (.var 56) 45) (.meth (.var 56) (.own 58) [(.var 12)])) [.asg 54 (.bool true)] [.ifS (.cmp .isnot (.var 48) .none) [.setI (.var 55) (.var 48) (.or (.meth (.var 55) .get [(.var 48),(.bool false)]) (.attr (.var 56) 44))] []]],.ifS (.not (.var 54)) [.exp (.meth (.var 30) .extend [(.compD (.tup [(.var 12),(.var 48),(.idx (.var 55) (.var 48))]) 48 (.var 55) [12,55])])] []],.ret (.var 30)]
noncomputable def b_law_heads:List MS:=[.ret (.lst [(.tup [(.str ""),(.str "[core]"),(.str ""),(.str "core")]),(.tup [(.str ""),(.str "[CORE]"),(.str " ; x"),(.str "core")]),(.tup [(.str "  "),(.str "[a \"S q\"]"),(.str "# y"),(.str "a.S q")]),(.tup [(.str ""),(.str "[a.low]"),(.str ""),(.str "a.low")]),(.tup [(.str "\t"),(.str "[A]"),(.str ""),(.str "a")]),(.tup [(.str ""),(.str "[a \"S q\"]"),(.str ""),(.str "a.S q")])])]
noncomputable def b_law_rows:List MS:=[.ret (.lst [(.tup [(.str "\tname = v"),(.str "name"),(.str "v")]),(.tup [(.str "x = \"a;b\" # r"),(.str "x"),(.str "a;b")]),(.tup [(.str "  name = one \\\n two"),(.str "name"),(.str "one  two")]),(.tup [(.str "# hi"),.none,.none]),(.tup [(.str ""),.none,.none]),(.tup [(.str "y"),(.str "y"),.none])])]
noncomputable def b_law_news:List MS:=[.ret (.lst [(.str "b"),(.str "core"),(.str "b.T \"u"),(.str "a.S q"),(.str ""),(.str "b c"),(.str "b_c")])]
noncomputable def b_law_parts:List MS:=[.ret (.lst [(.tup [(.str "refs/heads/"),(.str "")]),(.tup [(.str "refs/"),(.str "/x")]),(.tup [(.str "refs/heads/m"),.none]),(.tup [(.str "a"),(.str "a")]),(.tup [(.str ""),(.str "")])])]
noncomputable def b_law_names:List MS:=[.ret (.lst [(.str "refs/heads/m"),(.str "refs/heads/"),(.str "refs/x"),(.str "refs/h/x"),(.str "refs/heads/m/x"),(.str "a"),(.str "aa"),(.str "aba")])]
noncomputable def b_law_odd:List MS:=[.ret (.lst [(.str "a:b*"),(.str "a*:b"),(.str "a**:b**"),(.str "^a:b"),(.str "^"),(.str "a//b"),(.str "a..b"),(.str "/a"),(.str "a b"),(.str "a~1"),(.str "a:b:c"),(.str "a/")])]
noncomputable def b_law_deck:List MS:=[.ret (.dct ["cells","at"] [(.comp (.bin .mod (.bi .int [(.var 60)]) (.int 1000000007)) 60 (.sliceR (.var 59) (.int 60)) [] []),(.int 0)])]
noncomputable def b_law_draw:List MS:=[.asgT [16,63] [(.idx (.var 61) (.str "at")),(.idx (.var 61) (.str "cells"))],.setI (.var 61) (.str "at") (.bin .add (.var 16) (.int 1)),.ifS (.cmp .lt (.var 16) (.bi .len [(.var 63)])) [.ret (.bin .mod (.idx (.var 63) (.var 16)) (.var 62))] [],.ifS (.cmp .eq (.var 63) (.lst [])) [.ret (.bin .mod (.bin .add (.bin .mul (.var 16) (.int 7)) (.bin .fdiv (.var 16) (.int 3))) (.var 62))] [],.ret (.bin .mod (.bin .add (.bin .fdiv (.idx (.var 63) (.bin .mod (.var 16) (.bi .len [(.var 63)]))) (.bin .add (.var 16) (.int 1))) (.bin .mul (.var 16) (.int 5))) (.var 62))]
noncomputable def b_law_octets:List MS:=[.ret (.bi .bytes [(.comp (.bi .ord [(.var 4)]) 4 (.var 2) [] [])])]
noncomputable def b_law_written:List MS:=[.ret (.call 43 [(.meth (.str "") .join [(.comp (.bin .add (.ite (.cmp .eq (.bi .len [(.var 17)]) (.int 4)) (.bin .add (.bin .add (.idx (.var 17) (.int 0)) (.idx (.var 17) (.int 1))) (.idx (.var 17) (.int 2))) (.idx (.var 17) (.int 0))) (.str "\n")) 17 (.var 64) [] [])])])]
noncomputable def b_law_items:List MS:=[.asgT [30,9] [(.lst []),(.str "")],.for 17 (.var 64) [.ifS (.cmp .eq (.bi .len [(.var 17)]) (.int 4)) [.asg 9 (.idx (.var 17) (.int 3))] [.ifS (.cmp .isnot (.idx (.var 17) (.int 1)) .none) [.exp (.meth (.var 30) .append [(.tup [(.bin .add (.bin .add (.var 9) (.str ".")) (.idx (.var 17) (.int 1))),(.idx (.var 17) (.int 2))])])] []]],.ret (.var 30)]
noncomputable def b_law_bracket:List MS:=[.asg 65 (.meth (.var 12) .split [(.str ".")]),.ifS (.cmp .eq (.bi .len [(.var 65)]) (.int 1)) [.ret (.bin .add (.bin .add (.str "[") (.var 12)) (.str "]"))] [],.asg 66 (.meth (.meth (.meth (.str ".") .join [(.sliceL (.var 65) (.int 1))]) .replace [(.str "\\"),(.str "\\\\")]) .replace [(.str "\""),(.str "\\\"")]),.ret (.bin .add (.bin .add (.bin .add (.bin .add (.str "[") (.idx (.var 65) (.int 0))) (.str " \"")) (.var 66)) (.str "\"]"))]
noncomputable def b_law_same:List MS:=[.asg 68 (.lst []),.for 17 (.var 64) [.ifS (.and (.cmp .eq (.bi .len [(.var 17)]) (.int 4)) (.cmp .notin (.idx (.var 17) (.int 3)) (.var 68))) [.exp (.meth (.var 68) .append [(.idx (.var 17) (.int 3))])] []],.asg 15 (.call 44 [(.var 64)]),.ifS (.or (.cmp .ne (.meth (.var 67) (.own 15) []) (.var 15)) (.cmp .ne (.bi .list [(.meth (.var 67) (.own 68) [])]) (.var 68))) [.ret (.bool false)] [],.ret (.and (.cmp .eq (.comp (.bi .tuple [(.var 6)]) 6 (.meth (.var 67) (.own 69) []) [] []) (.call 45 [(.var 64)])) (.cmp .eq (.meth (.new 5 [(.var 15)]) (.own 15) []) (.var 15)))]
noncomputable def b_law_sections_right:List MS:=[.asg 64 (.lst []),.forR 70 (.bin .add (.int 1) (.call 42 [(.var 61),(.int 6)])) [.ifS (.or (.cmp .eq (.var 70) (.int 0)) (.cmp .eq (.call 42 [(.var 61),(.int 3)]) (.int 0))) [.exp (.meth (.var 64) .append [(.idx (.call 35 []) (.call 42 [(.var 61),(.int 6)]))])] [.exp (.meth (.var 64) .append [(.idx (.call 36 []) (.call 42 [(.var 61),(.int 6)]))])]],.asgT [67,71] [(.new 5 [(.call 44 [(.var 64)])]),(.idx (.bin .add (.glob 0) (.lst [(.str "CORE"),(.str "A.S q")])) (.call 42 [(.var 61),(.int 7)]))],.asg 36 (.ite (.cmp .ne (.var 71) (.str "CORE")) (.bin .add (.meth (.idx (.var 71) (.int 0)) .lower []) (.sliceL (.var 71) (.int 1))) (.str "core")),.ifS (.not (.call 47 [(.var 67),(.var 64)])) [.ret (.bool false)] [],.asgT [72,73,42] [(.bi .len [(.comp (.var 17) 17 (.var 64) [(.and (.cmp .eq (.bi .len [(.var 17)]) (.int 4)) (.cmp .eq (.idx (.var 17) (.int 3)) (.var 36)))] [36])]),(.lst []),(.bool false)],.ifS (.and (.cmp .eq (.call 42 [(.var 61),(.int 3)]) (.int 0)) (.cmp .eq (.comp (.var 17) 17 (.var 64) [(.and (.cmp .eq (.bi .len [(.var 17)]) (.int 4)) (.cmp .ne (.idx (.var 17) (.int 0)) (.str "")))] []) (.lst []))) [.for 17 (.var 64) [.asg 42 (.ite (.cmp .eq (.bi .len [(.var 17)]) (.int 4)) (.cmp .eq (.idx (.var 17) (.int 3)) (.var 36)) (.var 42)),.asg 73 (.bin .add (.var 73) (.ite (.var 42) (.lst []) (.lst [(.var 17)])))],.ret (.and (.cmp .eq (.meth (.var 67) (.own 74) [(.var 71)]) (.var 72)) (.call 47 [(.var 67),(.var 73)]))] [],.asg 37 (.idx (.call 37 []) (.call 42 [(.var 61),(.int 7)])),.ifS (.cmp .isin (.var 37) (.tup [(.str ""),(.str "b c"),(.str "b_c")])) [.tryE [.exp (.meth (.var 67) (.own 75) [(.var 71),(.var 37)])] 2 [.ret (.call 47 [(.var 67),(.var 64)])],.ret (.bool false)] [],.for 17 (.var 64) [.ifS (.and (.cmp .eq (.bi .len [(.var 17)]) (.int 4)) (.cmp .eq (.idx (.var 17) (.int 3)) (.var 36))) [.exp (.meth (.var 73) .append [(.tup [(.idx (.var 17) (.int 0)),(.call 46 [(.var 37)]),(.idx (.var 17) (.int 2)),(.var 37)])])] [.exp (.meth (.var 73) .append [(.var 17)])]],.ret (.and (.cmp .eq (.meth (.var 67) (.own 75) [(.var 71),(.var 37)]) (.var 72)) (.call 47 [(.var 67),(.var 73)]))]
noncomputable def b_law_cut:List MS:=[.ifS (.cmp .is (.idx (.var 50) (.int 1)) .none) [.ret (.ite (.cmp .eq (.var 12) (.idx (.var 50) (.int 0))) (.str "") .none)] [],.asg 72 (.bin .sub (.bin .sub (.bi .len [(.var 12)]) (.bi .len [(.idx (.var 50) (.int 0))])) (.bi .len [(.idx (.var 50) (.int 1))])),.ifS (.or (.cmp .lt (.var 72) (.int 0)) (.or (.cmp .ne (.sliceR (.var 12) (.bi .len [(.idx (.var 50) (.int 0))])) (.idx (.var 50) (.int 0))) (.cmp .ne (.sliceL (.var 12) (.bin .add (.bi .len [(.idx (.var 50) (.int 0))]) (.var 72))) (.idx (.var 50) (.int 1))))) [.ret .none] [],.ret (.sliceB (.var 12) (.bi .len [(.idx (.var 50) (.int 0))]) (.bin .add (.bi .len [(.idx (.var 50) (.int 0))]) (.var 72)))]
noncomputable def b_law_side:List MS:=[.ret (.ite (.cmp .is (.idx (.var 50) (.int 1)) .none) (.idx (.var 50) (.int 0)) (.bin .add (.bin .add (.idx (.var 50) (.int 0)) (.str "*")) (.idx (.var 50) (.int 1))))]
noncomputable def b_law_spec:List MS:=[.asg 47 (.idx (.call 38 []) (.call 42 [(.var 61),(.int 5)])),.asg 76 (.call 42 [(.var 61),(.int 5)]),.ifS (.cmp .eq (.var 76) (.int 0)) [.ret (.tup [(.bin .add (.str "^") (.call 50 [(.var 47)])),(.var 47),.none,(.bool false),(.bool true)])] [],.ifS (.and (.cmp .eq (.var 76) (.int 1)) (.cmp .eq (.call 42 [(.var 61),(.int 2)]) (.int 1))) [.ret (.tup [(.bin .add (.call 50 [(.var 47)]) (.idx (.lst [(.str ""),(.str ":")]) (.call 42 [(.var 61),(.int 2)]))),(.var 47),.none,(.bool false),(.bool false)])] [],.asg 48 (.ite (.cmp .isnot (.idx (.var 47) (.int 1)) .none) (.idx (.lst [(.tup [(.str "refs/remotes/o/"),(.str "")]),(.tup [(.str "t/"),(.str "")])]) (.bin .mod (.var 76) (.int 2))) (.tup [(.idx (.lst [(.str "refs/t"),(.str "u")]) (.bin .mod (.var 76) (.int 2))),.none])),.asg 44 (.cmp .gt (.var 76) (.int 2)),.ret (.tup [(.bin .add (.bin .add (.bin .add (.ite (.var 44) (.str "+") (.str "")) (.call 50 [(.var 47)])) (.str ":")) (.call 50 [(.var 48)])),(.var 47),(.var 48),(.var 44),(.bool false)])]
noncomputable def b_law_specs_right:List MS:=[.asgT [77,53] [(.compR (.call 51 [(.var 61)]) 70 (.bin .add (.int 1) (.call 42 [(.var 61),(.int 3)])) [61]),(.lst [])],.forR 70 (.int 3) [.asg 12 (.idx (.call 39 []) (.call 42 [(.var 61),(.int 8)])),.asg 53 (.bin .add (.var 53) (.ite (.cmp .notin (.var 12) (.var 53)) (.lst [(.var 12)]) (.lst [])))],.asgT [52,1] [(.comp (.new 6 [(.idx (.var 6) (.int 0))]) 6 (.var 77) [] []),(.lst [])],.forZ 56 6 (.var 52) (.var 77) [.ifS (.or (.cmp .ne (.attr (.var 56) 44) (.idx (.var 6) (.int 3))) (.cmp .ne (.attr (.var 56) 45) (.idx (.var 6) (.int 4)))) [.ret (.bool false)] [],.for 12 (.var 53) [.asg 78 (.call 49 [(.idx (.var 6) (.int 1)),(.var 12)]),.ifS (.cmp .ne (.meth (.var 56) (.own 58) [(.var 12)]) (.cmp .isnot (.var 78) .none)) [.ret (.bool false)] [],.asg 73 .none,.ifS (.and (.cmp .isnot (.var 78) .none) (.cmp .isnot (.idx (.var 6) (.int 2)) .none)) [.asg 73 (.bin .add (.idx (.idx (.var 6) (.int 2)) (.int 0)) (.ite (.cmp .isnot (.idx (.idx (.var 6) (.int 2)) (.int 1)) .none) (.bin .add (.var 78) (.idx (.idx (.var 6) (.int 2)) (.int 1))) (.str "")))] [],.ifS (.cmp .ne (.meth (.var 56) (.own 57) [(.var 12)]) (.var 73)) [.ret (.bool false)] [],.ifS (.and (.cmp .isnot (.var 73) .none) (.cmp .ne (.meth (.var 56) (.own 79) [(.var 73)]) (.var 12))) [.ret (.bool false)] []]],.for 12 (.var 53) [.ifS (.cmp .eq (.comp (.var 6) 6 (.var 77) [(.and (.idx (.var 6) (.int 4)) (.cmp .isnot (.call 49 [(.idx (.var 6) (.int 1)),(.var 12)]) .none))] [12]) (.lst [])) [.asg 80 (.dct [] []),.forZ 56 6 (.var 52) (.var 77) [.asg 73 (.meth (.var 56) (.own 57) [(.var 12)]),.ifS (.cmp .isnot (.var 73) .none) [.setI (.var 80) (.var 73) (.or (.meth (.var 80) .get [(.var 73),(.bool false)]) (.idx (.var 6) (.int 3)))] []],.asg 1 (.bin .add (.var 1) (.compD (.tup [(.var 12),(.var 73),(.idx (.var 80) (.var 73))]) 73 (.var 80) [12,80]))] []],.ret (.cmp .eq (.comp (.bi .tuple [(.var 6)]) 6 (.call 34 [(.var 52),(.var 53)]) [] []) (.var 1))]
noncomputable def a9m:List MS:=[.asg 61 (.call 41 [(.var 59)]),.asg 76 (.call 42 [(.var 61),(.int 5)]),.ifS (.cmp .lt (.var 76) (.int 2)) [.ret (.call 48 [(.var 61)])] [],.ifS (.cmp .lt (.var 76) (.int 4)) [.ret (.call 52 [(.var 61)])] [],.tryE [.exp (.new 6 [(.idx (.call 40 []) (.call 42 [(.var 61),(.int 12)]))])] 2 [.ret (.bool true)],.ret (.bool false)]
noncomputable def params:List (List Nat):=[[0,1],[2],[6],[6],[2],[9],[0,10,11,9,12,13,14],[0],[0],[0,15],[0],[0],[0],[0],[0,22],[0],[0],[0],[0],[0],[0],[0],[0,15],[0],[0],[0],[0,36,37],[0,36],[0,2],[0,12],[0,12],[0,12],[2],[50,12],[52,53],[],[],[],[],[],[],[59],[61,62],[2],[64],[64],[12],[67,64],[61],[50,12],[50],[61],[61],[59]]
noncomputable def bodies:List (List MS):=[PW,b_octets_of,b_config_is_letter,b_config_is_sign,b_config_section,b_config_header,b_ConfigPiece_init,b_ConfigPiece_is_open,b_ConfigPiece_indent,b_ConfigReader_init,b_ConfigReader_is_over,b_ConfigReader_peek,b_ConfigReader_take,b_ConfigReader_skip_blanks,b_ConfigReader_keep,b_ConfigReader_read,b_ConfigReader_read_header,b_ConfigReader_read_subsection,b_ConfigReader_read_spelt,b_ConfigReader_read_value,b_ConfigReader_read_signs,b_ConfigReader_read_escape,b_Config_init,b_Config_octets,b_Config_items,b_Config_sections,b_Config_rename_section,b_Config_remove_section,b_RefSpec_init,b_RefSpec_fits,b_RefSpec_mapped,b_RefSpec_back,b_refspec_side,b_refspec_rest,b_refspec_map,b_law_heads,b_law_rows,b_law_news,b_law_parts,b_law_names,b_law_odd,b_law_deck,b_law_draw,b_law_octets,b_law_written,b_law_items,b_law_bracket,b_law_same,b_law_sections_right,b_law_cut,b_law_side,b_law_spec,b_law_specs_right,a9m]
end Mine
end
section
open PySem PySem.W PyProof.Rows
namespace Mine
set_option tactic.hygienic false
noncomputable def nm(k:Nat):Str:=match names[k]? with | some x=>x | none=>⟨#[2000000+k]⟩
theorem names_ok:names.Nodup/\∀ x∈names,∀ c∈x.cps.toList,c<2000000:=by decide +kernel
set_option tactic.hygienic true in
theorem JB{j k:Nat}(h:nm j=nm k):j=k:=by
 unfold nm at h
 split at h
 ·rename_i x hx
  split at h
  ·rename_i y hy
   subst h
   obtain⟨a,ha⟩:=List.getElem?_eq_some_iff.mp hx
   obtain⟨b,hb⟩:=List.getElem?_eq_some_iff.mp hy
   have P:=List.pairwise_iff_getElem.mp names_ok.1
   rcases Nat.lt_trichotomy j k with r | r | r
   ·exact absurd (ha.trans hb.symm) (P j k a b r)
   ·exact r
   ·exact absurd (hb.trans ha.symm) (P k j b a r)
  ·exfalso
   have:=names_ok.2 x (List.mem_of_getElem? hx) (2000000+k) (by rw[h];simp)
   lia
 ·split at h
  ·rename_i y hy
   exfalso
   have:=names_ok.2 y (List.mem_of_getElem? hy) (2000000+j) (by rw[← h];simp)
   lia
  ·injection h with h
   simp at h
   exact h
structure G where
 prog:Program
 w:World
 B:Heap
 K:Frag
 ca:Nat->Addr
 fa:Nat->Addr
 /-- tuples that no value names -/
 Z:List Addr
noncomputable abbrev G.at(g:G)(Z:List Addr):G:={g with Z:=Z }
noncomputable abbrev Rho:=List (Addr×Addr)
mutual
inductive VR(g:G)(T:Nat)(h:Heap)(ρ:Rho):PV->Value->Prop
 | none:VR g T h ρ .none .none
 | bool (b:Bool):VR g T h ρ (.bool b) (.bool b)
 | int (i:Int) (t:Tok):VR g T h ρ (.int i) (.int i t)
 | str (x:Str) (own:Bool) (t:Tok):x.length<=sizeLine->(own=true->t≠0/\t<T)->VR g T h ρ (.str x own) (.str x t)
 | bytes (b:Array UInt8) (t:Tok):b.size<=sizeLine->VR g T h ρ (.bytes b.toList) (.bytes b t)
 | tup {a:Addr} {xs:List Value} {vs:List PV}:a∉g.Z->IsTup h a xs.toArray->xs.length<=sizeLine->VRs g T h ρ vs xs->VR g T h ρ (.tup vs) (.ref a)
 | ref {i:Nat} {a d:Addr}:ρ[i]? = some (a,d)->VR g T h ρ (.ref i) (.ref a)
 | flist {a:Addr} {xs:List Value} {vs:List PV}:g.B.IsList a xs.toArray->xs.length<=sizeLine->VRs g T h ρ vs xs->VR g T h ρ (.flist vs) (.ref a)
 | fdict {a:Addr} {kvs:List (Str×PV)} {xs:List (Str×Value)}:g.B.DictOf (strKind g.prog g.w) a xs->(a==sysModules)=false->VKs g T h ρ kvs xs->VR g T h ρ (.fdict kvs) (.ref a)
inductive VRs(g:G)(T:Nat)(h:Heap)(ρ:Rho):List PV->List Value->Prop
 | nil:VRs g T h ρ [] []
 | cons {v:PV} {x:Value} {vs:List PV} {xs:List Value}:VR g T h ρ v x->VRs g T h ρ vs xs->VRs g T h ρ (v::vs) (x::xs)
inductive VKs(g:G)(T:Nat)(h:Heap)(ρ:Rho):List (Str×PV)->List (Str×Value)->Prop
 | nil:VKs g T h ρ [] []
 | cons {k:Str} {v:PV} {x:Value} {vs:List (Str×PV)} {xs:List (Str×Value)}:VR g T h ρ v x->VKs g T h ρ vs xs->VKs g T h ρ ((k,v)::vs) ((k,x)::xs)
end
section
variable {g:G}{T T':Nat}{h h':Heap}{ρ ρ':Rho}
noncomputable def VRP(g:G)(T:Nat)(h:Heap)(ρ:Rho)(v:PV)(x:Value):Prop:=match v with
 | .none=>x = .none
 | .bool b=>x = .bool b
 | .int i=>∃ t,x = .int i t
 | .str y o=>∃ t,x = .str y t/\y.length<=sizeLine/\(o=true->t≠0/\t<T)
 | .bytes l=>∃ b t,b.toList=l/\x = .bytes b t/\b.size<=sizeLine
 | .tup vs=>∃ a xs,x = .ref a/\a∉g.Z/\IsTup h a xs.toArray/\xs.length<=sizeLine/\VRs g T h ρ vs xs
 | .ref i=>∃ a d,x = .ref a/\ρ[i]? = some (a,d)
 | .flist vs=>∃ a xs,x = .ref a/\g.B.IsList a xs.toArray/\xs.length<=sizeLine/\VRs g T h ρ vs xs
 | .fdict vs=>∃ a xs,x = .ref a/\g.B.DictOf (strKind g.prog g.w) a xs/\(a==sysModules)=false/\VKs g T h ρ vs xs
noncomputable def b3k(g:G)(T:Nat)(h:Heap)(ρ:Rho)(v:List PV)(x:List Value):Prop:=match v with
 | []=>x=[]
 | v::vs=>∃ y ys,x=y::ys/\VR g T h ρ v y/\VRs g T h ρ vs ys
theorem VR.inv{v:PV}{x:Value}(U:VR g T h ρ v x):VRP g T h ρ v x :=
 VR.rec (motive_1:=fun v x _=>VRP g T h ρ v x) (motive_2:=fun _ _ _=>True) (motive_3:=fun _ _ _=>True) rfl (fun _=>rfl) (fun _ t=>⟨t,rfl⟩) (fun _ _ t a o=>⟨t,rfl,a,o⟩) (fun b t a=>⟨b,t,rfl,rfl,a⟩) (fun a b c d _=>⟨_,_,rfl,a,b,c,d⟩) (fun e=>⟨_,_,rfl,e⟩) (fun a b c _=>⟨_,_,rfl,a,b,c⟩) (fun a b c _=>⟨_,_,rfl,a,b,c⟩) ⟨⟩ (fun _ _ _ _=>⟨⟩) ⟨⟩ (fun _ _ _ _=>⟨⟩) U
theorem VRs.inv{v:List PV}{x:List Value}(U:VRs g T h ρ v x):b3k g T h ρ v x :=
 VRs.rec (motive_1:=fun _ _ _=>True) (motive_2:=fun v x _=>b3k g T h ρ v x) (motive_3:=fun _ _ _=>True) ⟨⟩ (fun _=>⟨⟩) (fun _ _=>⟨⟩) (fun _ _ _ _ _=>⟨⟩) (fun _ _ _=>⟨⟩) (fun _ _ _ _ _=>⟨⟩) (fun _=>⟨⟩) (fun _ _ _ _=>⟨⟩) (fun _ _ _ _=>⟨⟩) rfl (fun a b _ _=>⟨_,_,rfl,a,b⟩) ⟨⟩ (fun _ _ _ _=>⟨⟩) U
@[elab_as_elim] theorem VR.noneI{C:Value->Prop}{x:Value}(U:VR g T h ρ .none x)(k:C .none):C x:=Eq.symm U.inv▸k
@[elab_as_elim] theorem VR.boolI{C:Value->Prop}{b:Bool}{x:Value}(U:VR g T h ρ (.bool b) x)(k:C (.bool b)):C x:=Eq.symm U.inv▸k
@[elab_as_elim] theorem VR.intI{C:Value->Prop}{b:Int}{x:Value}(U:VR g T h ρ (.int b) x)(k:∀ t,C (.int b t)):C x:=Exists.elim U.inv fun t e=>e▸k t
@[elab_as_elim] theorem VR.strI{C:Value->Prop}{b:Str}{o:Bool}{x:Value}(U:VR g T h ρ (.str b o) x)(k:∀ t,b.length<=sizeLine->(o=true->t≠0/\t<T)->C (.str b t)):C x:=Exists.elim U.inv fun t e=>e.1▸k t e.2.1 e.2.2
@[elab_as_elim] theorem VR.bytesI{C:List UInt8->Value->Prop}{l:List UInt8}{x:Value}(U:VR g T h ρ (.bytes l) x)(k:∀ b t,b.size<=sizeLine->C b.toList (.bytes b t)):C l x:=Exists.elim U.inv fun b e=>Exists.elim e fun t e=>e.1▸e.2.1▸k b t e.2.2
@[elab_as_elim] theorem VR.tupI{C:Value->Prop}{vs:List PV}{x:Value}(U:VR g T h ρ (.tup vs) x)(k:∀ a xs,a∉g.Z->IsTup h a xs.toArray->xs.length<=sizeLine->VRs g T h ρ vs xs->C (.ref a)):C x:=Exists.elim U.inv fun a e=>Exists.elim e fun xs e=>e.1▸k a xs e.2.1 e.2.2.1 e.2.2.2.1 e.2.2.2.2
@[elab_as_elim] theorem VR.refI{C:Value->Prop}{i:Nat}{x:Value}(U:VR g T h ρ (.ref i) x)(k:∀ a d,ρ[i]? = some (a,d)->C (.ref a)):C x:=Exists.elim U.inv fun a e=>Exists.elim e fun d e=>e.1▸k a d e.2
@[elab_as_elim] theorem VR.flistI{C:Value->Prop}{vs:List PV}{x:Value}(U:VR g T h ρ (.flist vs) x)(k:∀ a xs,g.B.IsList a xs.toArray->xs.length<=sizeLine->VRs g T h ρ vs xs->C (.ref a)):C x:=Exists.elim U.inv fun a e=>Exists.elim e fun xs e=>e.1▸k a xs e.2.1 e.2.2.1 e.2.2.2
@[elab_as_elim] theorem VR.fdictI{C:Value->Prop}{vs:List (Str×PV)}{x:Value}(U:VR g T h ρ (.fdict vs) x)(k:∀ a xs,g.B.DictOf (strKind g.prog g.w) a xs->(a==sysModules)=false->VKs g T h ρ vs xs->C (.ref a)):C x:=Exists.elim U.inv fun a e=>Exists.elim e fun xs e=>e.1▸k a xs e.2.1 e.2.2.1 e.2.2.2
@[elab_as_elim] theorem VRs.nilI{C:List Value->Prop}{x:List Value}(U:VRs g T h ρ [] x)(k:C []):C x:=Eq.symm U.inv▸k
@[elab_as_elim] theorem VRs.consI{C:List Value->Prop}{v:PV}{vs:List PV}{x:List Value}(U:VRs g T h ρ (v::vs) x)(k:∀ y ys,VR g T h ρ v y->VRs g T h ρ vs ys->C (y::ys)):C x:=Exists.elim U.inv fun a e=>Exists.elim e fun xs e=>e.1▸k a xs e.2.1 e.2.2
@[elab_as_elim] theorem VRs.oneI{C:List Value->Prop}{v:PV}{x:List Value}(U:VRs g T h ρ [v] x)(k:∀ y,VR g T h ρ v y->C [y]):C x:=VRs.consI (C:=C) U fun _ _ a r=>VRs.nilI (C:=fun l=>C (_::l)) r (k _ a)
@[elab_as_elim] theorem VRs.ind{P:List PV->List Value->Prop}(n:P [] [])(c:∀ v x vs xs,VR g T h ρ v x->VRs g T h ρ vs xs->P vs xs->P (v::vs) (x::xs)){vs:List PV}{xs:List Value}(V:VRs g T h ρ vs xs):P vs xs :=
 VRs.rec (motive_1:=fun _ _ _=>True) (motive_2:=fun vs xs _=>P vs xs) (motive_3:=fun _ _ _=>True) ⟨⟩ (fun _=>⟨⟩) (fun _ _=>⟨⟩) (fun _ _ _ _ _=>⟨⟩) (fun _ _ _=>⟨⟩) (fun _ _ _ _ _=>⟨⟩) (fun _=>⟨⟩) (fun _ _ _ _=>⟨⟩) (fun _ _ _ _=>⟨⟩) n (fun a b _ d=>c _ _ _ _ a b d) ⟨⟩ (fun _ _ _ _=>⟨⟩) V
@[elab_as_elim] theorem VKs.ind{P:List (Str×PV)->List (Str×Value)->Prop}(n:P [] [])(c:∀ k v x vs xs,VR g T h ρ v x->VKs g T h ρ vs xs->P vs xs->P ((k,v)::vs) ((k,x)::xs)){vs:List (Str×PV)}{xs:List (Str×Value)}(V:VKs g T h ρ vs xs):P vs xs :=
 VKs.rec (motive_1:=fun _ _ _=>True) (motive_2:=fun _ _ _=>True) (motive_3:=fun vs xs _=>P vs xs) ⟨⟩ (fun _=>⟨⟩) (fun _ _=>⟨⟩) (fun _ _ _ _ _=>⟨⟩) (fun _ _ _=>⟨⟩) (fun _ _ _ _ _=>⟨⟩) (fun _=>⟨⟩) (fun _ _ _ _=>⟨⟩) (fun _ _ _ _=>⟨⟩) ⟨⟩ (fun _ _ _ _=>⟨⟩) n (fun a b _ d=>c _ _ _ _ _ a b d) V
theorem VR.monoZ(hT:T<=T')(hk:∀ a xs,a∉g.Z->IsTup h a xs->IsTup h' a xs)(hρ:∀ (i:Nat) p,ρ[i]? = some p->ρ'[i]? = some p){v:PV}{x:Value}(V:VR g T h ρ v x):VR g T' h' ρ' v x :=
 VR.rec (motive_1:=fun v x _=>VR g T' h' ρ' v x) (motive_2:=fun v x _=>VRs g T' h' ρ' v x) (motive_3:=fun v x _=>VKs g T' h' ρ' v x) .none .bool .int (fun _ _ _ a o=>.str _ _ _ a fun e=>⟨(o e).1,Nat.lt_of_lt_of_le (o e).2 hT⟩) .bytes (fun a b c _ d=>.tup a (hk _ _ a b) c d) (fun e=>.ref (hρ _ _ e)) (fun a b _ d=>.flist a b d) (fun a b _ d=>.fdict a b d) .nil (fun _ _ a b=>.cons a b) .nil (fun _ _ a b=>.cons a b) V
theorem VRs.monoZ(hT:T<=T')(hk:∀ a xs,a∉g.Z->IsTup h a xs->IsTup h' a xs)(hρ:∀ (i:Nat) p,ρ[i]? = some p->ρ'[i]? = some p){v:List PV}{x:List Value}(V:VRs g T h ρ v x):VRs g T' h' ρ' v x :=
 VRs.ind (P:=fun v x=>VRs g T' h' ρ' v x) .nil (fun _ _ _ _ a _ r=>.cons (a.monoZ hT hk hρ) r) V
theorem VKs.monoZ(hT:T<=T')(hk:∀ a xs,a∉g.Z->IsTup h a xs->IsTup h' a xs)(hρ:∀ (i:Nat) p,ρ[i]? = some p->ρ'[i]? = some p){v:List (Str×PV)}{x:List (Str×Value)}(V:VKs g T h ρ v x):VKs g T' h' ρ' v x :=
 VKs.ind (P:=fun v x=>VKs g T' h' ρ' v x) .nil (fun _ _ _ _ _ a _ r=>.cons (a.monoZ hT hk hρ) r) V
theorem VR.mono(hT:T<=T')(hk:∀ a xs,IsTup h a xs->IsTup h' a xs)(hρ:∀ (i:Nat) p,ρ[i]? = some p->ρ'[i]? = some p){v:PV}{x:Value}(V:VR g T h ρ v x):VR g T' h' ρ' v x:=V.monoZ hT (fun a xs _=>hk a xs) hρ
theorem VRs.mono(hT:T<=T')(hk:∀ a xs,IsTup h a xs->IsTup h' a xs)(hρ:∀ (i:Nat) p,ρ[i]? = some p->ρ'[i]? = some p){v:List PV}{x:List Value}(V:VRs g T h ρ v x):VRs g T' h' ρ' v x:=V.monoZ hT (fun a xs _=>hk a xs) hρ
theorem VKs.mono(hT:T<=T')(hk:∀ a xs,IsTup h a xs->IsTup h' a xs)(hρ:∀ (i:Nat) p,ρ[i]? = some p->ρ'[i]? = some p){v:List (Str×PV)}{x:List (Str×Value)}(V:VKs g T h ρ v x):VKs g T' h' ρ' v x:=V.monoZ hT (fun a xs _=>hk a xs) hρ
theorem VRs.length{v:List PV}{x:List Value}(V:VRs g T h ρ v x):v.length=x.length:=VRs.ind (P:=fun v x=>v.length=x.length) rfl (fun _ _ _ _ _ _ r=>congrArg (· + 1) r) V
theorem VRs.append{v u:List PV}{x y:List Value}(V:VRs g T h ρ v x)(U:VRs g T h ρ u y):VRs g T h ρ (v++u) (x++y):=VRs.ind (P:=fun v x=>VRs g T h ρ (v++u) (x++y)) U (fun _ _ _ _ a _ r=>.cons a r) V
theorem VRs.get?{v:List PV}{x:List Value}{i:Nat}{a:PV}(V:VRs g T h ρ v x):v[i]? = some a->∃ y,x[i]? = some y/\VR g T h ρ a y :=
 VRs.ind (P:=fun v x=>∀ i:Nat,v[i]? = some a->∃ y,x[i]? = some y/\VR g T h ρ a y) (fun _ e=>nomatch e) (fun _ _ _ _ A _ r i e=>i.casesOn (motive:=fun i=>(_::_)[i]? = some a->∃ y,(_::_)[i]? = some y/\VR g T h ρ a y) (fun e=>⟨_,rfl,Option.some.inj e▸A⟩) (fun i e=>r i e) e) V i
theorem VRs.drop{v:List PV}{x:List Value}(n:Nat)(V:VRs g T h ρ v x):VRs g T h ρ (v.drop n) (x.drop n) :=
 VRs.ind (P:=fun v x=>∀ n,VRs g T h ρ (v.drop n) (x.drop n)) (fun n=>by rw[List.drop_nil,List.drop_nil];exact .nil) (fun _ _ _ _ a V r n=>n.casesOn (motive:=fun n=>VRs g T h ρ ((_::_).drop n) ((_::_).drop n)) (.cons a V) fun n=>r n) V n
theorem VRs.take{v:List PV}{x:List Value}(n:Nat)(V:VRs g T h ρ v x):VRs g T h ρ (v.take n) (x.take n) :=
 VRs.ind (P:=fun v x=>∀ n,VRs g T h ρ (v.take n) (x.take n)) (fun n=>by rw[List.take_nil,List.take_nil];exact .nil) (fun _ _ _ _ a V r n=>n.casesOn (motive:=fun n=>VRs g T h ρ ((_::_).take n) ((_::_).take n)) .nil fun n=>.cons a (r n)) V n
theorem VKs.keys{v:List (Str×PV)}{x:List (Str×Value)}(V:VKs g T h ρ v x):v.map (·.1)=x.map (·.1):=VKs.ind (P:=fun v x=>v.map (·.1)=x.map (·.1)) rfl (fun k _ _ _ _ _ _ r=>congrArg (k :: ·) r) V
theorem VKs.at{k:Str}{v:List (Str×PV)}{x:List (Str×Value)}(V:VKs g T h ρ v x):match DQ k v with | some a=>∃ y,valueAt x k=some y/\VR g T h ρ a y | none=>valueAt x k=none:=by
 refine VKs.ind (P:=fun v x=>match DQ k v with | some a=>∃ y,valueAt x k=some y/\VR g T h ρ a y | none=>valueAt x k=none) rfl (fun k' v x _ _ a r ih=>?_) V
 ·rw[b3i]
  unfold valueAt
  rw[List.find?_cons]
  by_cases hk:k=k'
  ·subst hk;simp[a]
  ·simp only[if_neg hk]
   have hk':¬ k'=k:=fun e=>hk e.symm
   simp only[hk',decide_false]
   exact ih
theorem VKs.put{k:Str}{v:PV}{x:Value}(hv:VR g T h ρ v x){vs:List (Str×PV)}{xs:List (Str×Value)}(V:VKs g T h ρ vs xs):(xs.map (·.1)).Nodup->VKs g T h ρ (IZ k v vs) (stored xs k x):=by
 refine VKs.ind (P:=fun vs xs=>(xs.map (·.1)).Nodup->VKs g T h ρ (IZ k v vs) (stored xs k x)) (fun _=>.cons hv .nil) (fun k' u y vs xs a r ih hn=>?_) V
 ·rw[List.map_cons,List.nodup_cons]at hn
  replace ih:=ih hn.2
  rw[b3j]
  by_cases hk:k=k'
  ·subst hk
   have e:stored ((k,y)::xs) k x=(k,x)::xs:=by
    unfold stored
    simp only[List.any_cons,decide_true,Bool.true_or,if_true,List.map_cons]
    rw[map_store_of_not_mem xs k x hn.1]
   rw[e];simp only[if_true]
   exact .cons hv r
  ·have hk':¬ k'=k:=fun e=>hk e.symm
   have e:stored ((k',y)::xs) k x=(k',y)::stored xs k x:=by
    unfold stored
    simp only[List.any_cons,hk',decide_false,Bool.false_or,List.map_cons,if_false,List.cons_append]
    split<;>rfl
   rw[e];simp only[if_neg hk]
   exact .cons a ih
end
inductive FR(g:G)(T:Nat)(h:Heap)(ρ:Rho):List (Nat×PV)->List DictEntry->Prop
 | nil:FR g T h ρ [] []
 | cons {k:Nat} {v:PV} {e:DictEntry} {t:Tok} {fs:List (Nat×PV)} {es:List DictEntry}:e.key = .str (nm k) t->VR g T h ρ v e.val->FR g T h ρ fs es->FR g T h ρ ((k,v)::fs) (e::es)
section
variable {g:G}{T T':Nat}{h h':Heap}{ρ ρ':Rho}
theorem FR.monoZ(hT:T<=T')(hk:∀ a xs,a∉g.Z->IsTup h a xs->IsTup h' a xs)(hρ:∀ (i:Nat) p,ρ[i]? = some p->ρ'[i]? = some p){v:List (Nat×PV)}{x:List DictEntry}(V:FR g T h ρ v x):FR g T' h' ρ' v x:=by
 induction V with
 | nil=>exact .nil
 | cons e a _ ih=>exact .cons e (a.monoZ hT hk hρ) ih
theorem FR.mono(hT:T<=T')(hk:∀ a xs,IsTup h a xs->IsTup h' a xs)(hρ:∀ (i:Nat) p,ρ[i]? = some p->ρ'[i]? = some p){v:List (Nat×PV)}{x:List DictEntry}(V:FR g T h ρ v x):FR g T' h' ρ' v x:=V.monoZ hT (fun a xs _=>hk a xs) hρ
theorem FR.length{v:List (Nat×PV)}{x:List DictEntry}(V:FR g T h ρ v x):x.length=v.length:=by
 induction V with
 | nil=>rfl
 | cons _ _ _ ih=>exact congrArg (· + 1) ih
theorem UT{k j:Nat}{t:Tok}:Value.isStr (.str (nm k) t) (nm j)=decide (j=k):=by
 show(nm k==nm j)=_
 by_cases e:j=k
 ·subst e;simp
 ·rw[decide_eq_false e];exact beq_eq_false_iff_ne.mpr fun q=>e (JB q).symm
theorem FR.noRef{v:List (Nat×PV)}{x:List DictEntry}(V:FR g T h ρ v x):x.any (·.refKey)=false:=by
 induction V with
 | nil=>rfl
 | cons e a _ ih=>rw[List.any_cons,ih,Bool.or_false,DictEntry.refKey,e]
theorem FR.at{k:Nat}{v:List (Nat×PV)}{x:List DictEntry}(V:FR g T h ρ v x):match get k v with
  | some a=>∃ y,getL (nm k) x=some (some y)/\VR g T h ρ a y
  | none=>getL (nm k) x=some none:=by
 induction V with
 | nil=>rfl
 | @cons k' v e _ fs es he a r ih =>
  have hs:e.key.isStr (nm k)=decide (k=k'):=by rw[he];exact UT
  rw[get_c]
  by_cases hk:k=k'
  ·subst hk
   simp only[if_true]
   refine⟨e.val,?_,a⟩
   unfold getL
   rw[List.find?_cons,hs];simp
  ·have e1:getL (nm k) (e::es)=getL (nm k) es:=by
    unfold getL
    rw[List.find?_cons,hs,decide_eq_false hk,List.any_cons]
    have:e.refKey=false:=by rw[DictEntry.refKey,he]
    rw[this,Bool.false_or]
   rw[e1,if_neg hk];exact ih
theorem FR.put{k:Nat}{v:PV}{x:Value}{hsh:Int}{t:Tok}(hv:VR g T h ρ v x){fs:List (Nat×PV)}{es:List DictEntry}(V:FR g T h ρ fs es):FR g T h ρ (put k v fs) (putL (nm k) hsh (.str (nm k) t) x es):=by
 induction V with
 | nil=>exact .cons rfl hv .nil
 | @cons k' u e _ fs es he a r ih =>
  have hs:e.key.isStr (nm k)=decide (k=k'):=by rw[he];exact UT
  unfold Mine.put putL
  by_cases hk:k=k'
  ·subst hk
   rw[hs];simp only[decide_true,if_true]
   exact .cons he hv r
  ·rw[hs,decide_eq_false hk];simp only[if_neg hk,Bool.false_eq_true,if_false]
   exact .cons he a ih
theorem YX{k:Nat}{v:PV}:∀ fs:List (Nat×PV),(put k v fs).length<=fs.length+1
 | []=>Nat.le_refl _
 | (j,u)::r=>by
  rw[a9l]
  by_cases h:k=j
  ·rw[if_pos h];exact Nat.le_succ _
  ·rw[if_neg h];exact Nat.succ_le_succ (YX r)
end
noncomputable def OR(g:G)(T:Nat)(h:Heap)(ρ:Rho):AO->Addr×Addr->Prop
 | .list vs,p=>p.2=p.1/\vs.length<=sizeLine/\∃ xs:List Value,h.PlainList p.1 xs.toArray/\VRs g T h ρ vs xs
 | .dict kvs,p=>p.2=p.1/\(p.1==sysModules)=false/\∃ xs:List (Str×Value),h.DictOf (strKind g.prog g.w) p.1 xs/\VKs g T h ρ kvs xs
 | .inst c fs,p=>fs.length<=100/\∃ es n,h.get? p.1=some (instObj (g.ca c) p.2)/\h.get? p.2=some (dictOf es n)/\FR g T h ρ fs es
noncomputable def Out(ρ:Rho)(b:Addr):Prop:=∀ p∈ρ,b≠p.1/\b≠p.2
noncomputable def Apart(p q:Addr×Addr):Prop:=p.1≠q.1/\p.1≠q.2/\p.2≠q.1/\p.2≠q.2
structure Rel(g:G)(T:Nat)(ρ:Rho)(σ:St)(h:Heap):Prop where
 base:∀ b o,g.B.get? b=some o->h.get? b=some o
 len:ρ.length=σ.length
 obj:∀ (i:Nat) p o,ρ[i]? = some p->σ[i]? = some o->OR g T h ρ o p
 apart:∀ (i j:Nat) p q,ρ[i]? = some p->ρ[j]? = some q->i≠j->Apart p q
 new:∀ p∈ρ,g.B.get? p.1=none/\g.B.get? p.2=none
 hid:∀ z∈g.Z,z<h.objs.size/\g.B.get? z=none
noncomputable def IsDict(h:Heap)(b:Addr):Prop:=∃ o es n,h.get? b=some o/\o.data = .dict es n
theorem IsDict.ns{h:Heap}{b:Addr}{m:Str->Option Value}(x:h.Ns b m):IsDict h b:=let⟨o,es,n,ho,hd,_⟩:=x;⟨o,es,n,ho,hd⟩
structure Grow(F:List Addr)(ρ:Rho)(h:Heap)(ρ':Rho)(h':Heap):Prop where
 ext:∃ τ,ρ'=ρ++τ/\∀ p∈τ,h.objs.size<=p.1/\h.objs.size<=p.2
 keep:∀ b o,h.get? b=some o->Out ρ b->b∉F->h'.get? b=some o
 size:h.objs.size<=h'.objs.size
 dicts:∀ b,IsDict h b->IsDict h' b
section
variable {g:G}{T T':Nat}{h h' h'':Heap}{ρ ρ' ρ'':Rho}{σ σ':St}{F F':List Addr}
theorem Grow.refl:Grow F ρ h ρ h:=⟨⟨[],by simp,fun _ hp=>by cases hp⟩,fun _ _ e _ _=>e,Nat.le_refl _,fun _ x=>x⟩
theorem Grow.old(X:Grow F ρ h ρ' h'){i:Nat}{p:Addr×Addr}(e:ρ[i]? = some p):ρ'[i]? = some p:=by
 obtain⟨τ,rfl,_⟩:=X.ext
 have:=(List.getElem?_eq_some_iff.mp e).1
 rw[List.getElem?_append_left this];exact e
theorem Grow.out(X:Grow F ρ h ρ' h'){b:Addr}(hb:b<h.objs.size)(ho:Out ρ b):Out ρ' b:=by
 obtain⟨τ,rfl,hτ⟩:=X.ext
 intro p hp
 rcases List.mem_append.mp hp with hp | hp
 ·exact ho p hp
 ·have:=hτ p hp;exact⟨Nat.ne_of_lt (Nat.lt_of_lt_of_le hb this.1),Nat.ne_of_lt (Nat.lt_of_lt_of_le hb this.2)⟩
theorem Grow.trans(X:Grow F ρ h ρ' h')(Y:Grow F ρ' h' ρ'' h''):Grow F ρ h ρ'' h'':=by
 refine⟨?_,fun b o e ho hF=>Y.keep b o (X.keep b o e ho hF) (X.out (Heap.lt_size e) ho) hF,Nat.le_trans X.size Y.size,fun b x=>Y.dicts b (X.dicts b x)⟩
 obtain⟨τ,rfl,hτ⟩:=X.ext
 obtain⟨τ',rfl,hτ'⟩:=Y.ext
 refine⟨τ++τ',by simp,fun p hp=>?_⟩
 rcases List.mem_append.mp hp with hp | hp
 ·exact hτ p hp
 ·exact⟨Nat.le_trans X.size (hτ' p hp).1,Nat.le_trans X.size (hτ' p hp).2⟩
theorem Grow.wider(X:Grow F ρ h ρ' h')(hF:∀ a∈F,a∈F'):Grow F' ρ h ρ' h':=⟨X.ext,fun b o e ho hb=>X.keep b o e ho fun q=>hb (hF b q),X.size,X.dicts⟩
theorem Rel.get(R:Rel g T ρ σ h){i:Nat}{o:AO}(e:σ[i]? = some o):∃ p,ρ[i]? = some p/\OR g T h ρ o p:=by
 have hi:i<ρ.length:=by rw[R.len];exact(List.getElem?_eq_some_iff.mp e).1
 exact⟨ρ[i],List.getElem?_eq_getElem hi,R.obj i _ o (List.getElem?_eq_getElem hi) e⟩
theorem Rel.there(R:Rel g T ρ σ h){p:Addr×Addr}(hp:p∈ρ):∃ o,OR g T h ρ o p:=by
 obtain⟨i,hi,rfl⟩:=List.mem_iff_getElem.mp hp
 have hs:i<σ.length:=by rw[← R.len];exact hi
 exact⟨σ[i],R.obj i _ _ (List.getElem?_eq_getElem hi) (List.getElem?_eq_getElem hs)⟩
theorem OR.at{o:AO}{p:Addr×Addr}(X:OR g T h ρ o p):(∃ ob,h.get? p.1=some ob/\ob.cls≠.type "tuple"/\ob.cls≠.type "cell"/\ob.cls≠.none)/\∃ ob,h.get? p.2=some ob/\ob.cls≠.type "tuple"/\ob.cls≠.type "cell"/\ob.cls≠.none:=by
 induction o using AO.casesOn with
 | list vs =>
  obtain⟨e,_,xs,⟨m,ho⟩,_⟩:=X
  have:∃ ob,h.get? p.1=some ob/\ob.cls≠.type "tuple"/\ob.cls≠.type "cell"/\ob.cls≠.none:=⟨_,ho,by simp,by simp,by simp⟩
  exact⟨this,e▸this⟩
 | dict kvs =>
  obtain⟨e,_,xs,⟨ob,_,_,ho,hc,_⟩,_⟩:=X
  have:∃ ob,h.get? p.1=some ob/\ob.cls≠.type "tuple"/\ob.cls≠.type "cell"/\ob.cls≠.none:=⟨ob,ho,by rw[hc.1];decide,by rw[hc.1];decide,by rw[hc.1];decide⟩
  exact⟨this,e▸this⟩
 | inst c fs =>
  obtain⟨_,es,n,h1,h2,_⟩:=X
  exact⟨⟨_,h1,by simp,by simp,by simp⟩,⟨_,h2,by simp,by simp,by simp⟩⟩
theorem Rel.lt(R:Rel g T ρ σ h){p:Addr×Addr}(hp:p∈ρ):p.1<h.objs.size/\p.2<h.objs.size:=by
 refine AR ?_<|R.there hp;intro o ho
 obtain⟨⟨_,a,_⟩,⟨_,b,_⟩⟩:=ho.at
 exact⟨Heap.lt_size a,Heap.lt_size b⟩
theorem Rel.out_tup(R:Rel g T ρ σ h){a:Addr}{xs:Array Value}(ht:IsTup h a xs):Out ρ a:=fun p hp=>by
 refine AR ?_<|R.there hp;intro o ho
 obtain⟨⟨o1,a1,c1,_⟩,⟨o2,a2,c2,_⟩⟩:=ho.at
 revert ht;refine IY ?_;intro ot ht hc _
 constructor
 ·rintro rfl;rw[ht]at a1;replace a1:=sj a1;subst a1;exact c1 hc
 ·rintro rfl;rw[ht]at a2;replace a2:=sj a2;subst a2;exact c2 hc
theorem Rel.out_base(R:Rel g T ρ σ h){b:Addr}{o:Obj}(e:g.B.get? b=some o):Out ρ b:=fun p hp=>by
 have:=R.new p hp
 constructor
 ·rintro rfl;rw[e]at this;cases this.1
 ·rintro rfl;rw[e]at this;cases this.2
theorem Rel.out_fresh(R:Rel g T ρ σ h){b:Addr}(hb:h.objs.size<=b):Out ρ b:=fun p hp=>by
 have:=R.lt hp
 exact⟨Nat.ne_of_gt (Nat.lt_of_lt_of_le this.1 hb),Nat.ne_of_gt (Nat.lt_of_lt_of_le this.2 hb)⟩
theorem Grow.tup(R:Rel g T ρ σ h)(X:Grow F ρ h ρ' h')(hF:∀ a∈F,∀ xs,¬ IsTup h a xs):∀ a xs,IsTup h a xs->IsTup h' a xs:=fun a xs ht=>by
 have out:=R.out_tup ht
 refine AD ?_<|id ht;intro o ho r
 exact⟨o,X.keep a o ho out fun hm=>hF a hm xs ht,r⟩
theorem VR.grow(R:Rel g T ρ σ h)(X:Grow F ρ h ρ' h')(hF:∀ a∈F,∀ xs,¬ IsTup h a xs)(hT:T<=T'){v:PV}{x:Value}(V:VR g T h ρ v x):VR g T' h' ρ' v x :=
 V.mono hT (X.tup R hF) fun _ _ e=>X.old e
theorem VRs.grow(R:Rel g T ρ σ h)(X:Grow F ρ h ρ' h')(hF:∀ a∈F,∀ xs,¬ IsTup h a xs)(hT:T<=T'){v:List PV}{x:List Value}(V:VRs g T h ρ v x):VRs g T' h' ρ' v x :=
 V.mono hT (X.tup R hF) fun _ _ e=>X.old e
theorem OR.monoZ{o:AO}{p:Addr×Addr}(hT:T<=T')(h1:∀ b,h.get? p.1=some b->h'.get? p.1=some b)(h2:∀ b,h.get? p.2=some b->h'.get? p.2=some b)
  (hk:∀ a xs,a∉g.Z->IsTup h a xs->IsTup h' a xs) (hρ:∀ (i:Nat) p,ρ[i]? = some p->ρ'[i]? = some p) (X:OR g T h ρ o p):OR g T' h' ρ' o p:=by
 induction o using AO.casesOn with
 | list vs =>
  obtain⟨e,hl,xs,⟨m,ho⟩,hv⟩:=X
  exact⟨e,hl,xs,⟨m,h1 _ ho⟩,hv.monoZ hT hk hρ⟩
 | dict kvs =>
  obtain⟨e,hs,xs,⟨ob,es,ep,ho,r⟩,hv⟩:=X
  exact⟨e,hs,xs,⟨ob,es,ep,h1 _ ho,r⟩,hv.monoZ hT hk hρ⟩
 | inst c fs =>
  obtain⟨hl,es,n,a,b,hf⟩:=X
  exact⟨hl,es,n,h1 _ a,h2 _ b,hf.monoZ hT hk hρ⟩
theorem OR.mono{o:AO}{p:Addr×Addr}(hT:T<=T')(h1:∀ b,h.get? p.1=some b->h'.get? p.1=some b)(h2:∀ b,h.get? p.2=some b->h'.get? p.2=some b)
  (hk:∀ a xs,IsTup h a xs->IsTup h' a xs) (hρ:∀ (i:Nat) p,ρ[i]? = some p->ρ'[i]? = some p) (X:OR g T h ρ o p):OR g T' h' ρ' o p:=X.monoZ hT h1 h2 (fun a xs _=>hk a xs) hρ
theorem Rel.move(R:Rel g T ρ σ h)(hT:T<=T')(hsz:h.objs.size<=h'.objs.size){D:List Addr}(hk:∀ b o,h.get? b=some o->b∉D->h'.get? b=some o)
  (hD:∀ a∈D,Out ρ a/\g.B.get? a=none/\∀ xs,¬ IsTup h a xs):Rel g T' ρ σ h':=by
 have tups:∀ a xs,IsTup h a xs->IsTup h' a xs:=fun a xs ht=>by
  refine AD ?_<|id ht;intro o ho r
  exact⟨o,hk a o ho fun hm=>(hD a hm).2.2 xs ht,r⟩
 refine⟨fun b o e=>hk b o (R.base b o e) fun hm=>?_,R.len,fun i p o e1 e2=>?_,R.apart,R.new,fun z hz=>⟨Nat.lt_of_lt_of_le (R.hid z hz).1 hsz,(R.hid z hz).2⟩⟩
 ·rw[(hD b hm).2.1]at e;exact noS e
 ·have hp:=List.mem_of_getElem? e1
  exact(R.obj i p o e1 e2).mono hT (fun b e=>hk _ _ e fun hm=>((hD _ hm).1 p hp).1 rfl) (fun b e=>hk _ _ e fun hm=>((hD _ hm).1 p hp).2 rfl) tups fun _ _ e=>e
theorem Rel.keeps(R:Rel g T ρ σ h)(hT:T<=T')(hsz:h.objs.size<=h'.objs.size)(hk:∀ b o,h.get? b=some o->h'.get? b=some o):Rel g T' ρ σ h' :=
 R.move hT hsz (D:=[]) (fun b o e _=>hk b o e) fun _ hm=>by cases hm
theorem Rel.toks(R:Rel g T ρ σ h)(hT:T<=T'):Rel g T' ρ σ h:=R.keeps hT (Nat.le_refl _) fun _ _ e=>e
theorem Grow.keeps(hk:∀ b o,h.get? b=some o->h'.get? b=some o)(hs:h.objs.size<=h'.objs.size):Grow F ρ h ρ h' :=
 ⟨⟨[],by simp,fun _ hp=>by cases hp⟩,fun b o e _ _=>hk b o e,hs,fun _ ⟨o,es,n,ho,hd⟩=>⟨o,es,n,hk _ _ ho,hd⟩⟩
theorem Rel.adopt(R:Rel g T ρ σ h)(hT:T<=T')(hk:∀ b o,h.get? b=some o->h'.get? b=some o){p:Addr×Addr}{o:AO}
  (hp:h.objs.size<=p.1/\h.objs.size<=p.2) (ho:OR g T' h' (ρ++[p]) o p):Rel g T' (ρ++[p]) (σ++[o]) h':=by
 have hsz:h.objs.size<=h'.objs.size:=by
  obtain⟨⟨_,a,_⟩,_⟩:=ho.at
  exact Nat.le_trans hp.1 (Nat.le_of_lt (Heap.lt_size a))
 have R':=R.keeps hT hsz hk
 have tups:∀ a xs,IsTup h' a xs->IsTup h' a xs:=fun _ _ x=>x
 have old:∀ (i:Nat) q,ρ[i]? = some q->(ρ++[p])[i]? = some q:=fun i q e=>by
  rw[List.getElem?_append_left (List.getElem?_eq_some_iff.mp e).1];exact e
 have part:∀ q∈ρ,Apart q p:=fun q hq=>by
  have:=R.lt hq
  exact⟨Nat.ne_of_lt (Nat.lt_of_lt_of_le this.1 hp.1),Nat.ne_of_lt (Nat.lt_of_lt_of_le this.1 hp.2),Nat.ne_of_lt (Nat.lt_of_lt_of_le this.2 hp.1),Nat.ne_of_lt (Nat.lt_of_lt_of_le this.2 hp.2)⟩
 have split:∀ {i:Nat} {q},(ρ++[p])[i]? = some q->(i<ρ.length/\ρ[i]? = some q)\/(i=ρ.length/\q=p):=fun{i q} e=>by
  by_cases hi:i<ρ.length
  ·rw[List.getElem?_append_left hi]at e;exact .inl ⟨hi,e⟩
  ·rw[List.getElem?_append_right (Nat.not_lt.mp hi)]at e
   cases hz:i-ρ.length with
   | zero=>rw[hz]at e;exact .inr ⟨by lia,(Option.some.inj e).symm⟩
   | succ k=>rw[hz]at e;simp at e
 have base:∀ a,h.objs.size<=a->g.B.get? a=none:=fun a ha=>by
  cases q:g.B.get? a with
  | none=>rfl
  | some o'=>exact absurd (Heap.lt_size (R.base a o' q)) (Nat.not_lt.mpr ha)
 refine⟨R'.base,by simp[R.len],fun i q o' e1 e2=>?_,fun i j q r e1 e2 hij=>?_,fun q hq=>?_,R'.hid⟩
 ·rcases split e1 with⟨hi,e1⟩ | ⟨rfl,rfl⟩
  ·rw[List.getElem?_append_left (by rw[← R.len];exact hi)]at e2
   exact(R'.obj i q o' e1 e2).mono (Nat.le_refl _) (fun _ e=>e) (fun _ e=>e) tups old
  ·rw[R.len,List.getElem?_append_right (Nat.le_refl _)]at e2
   simp at e2;subst e2;exact ho
 ·rcases split e1 with⟨hi,f1⟩ | ⟨z1,z2⟩<;>rcases split e2 with⟨hj,f2⟩ | ⟨z3,z4⟩
  ·exact R.apart i j q r f1 f2 hij
  ·rw[z4];exact part q (List.mem_of_getElem? f1)
  ·rw[z2]
   have:=part r (List.mem_of_getElem? f2)
   exact⟨Ne.symm this.1,Ne.symm this.2.2.1,Ne.symm this.2.1,Ne.symm this.2.2.2⟩
  ·exact absurd (z1.trans z3.symm) hij
 ·rcases List.mem_append.mp hq with hq | hq
  ·exact R.new q hq
  ·rw[List.mem_singleton.mp hq];exact⟨base _ hp.1,base _ hp.2⟩
theorem Grow.adopt(hk:∀ b o,h.get? b=some o->h'.get? b=some o)(hs:h.objs.size<=h'.objs.size){p:Addr×Addr}(hp:h.objs.size<=p.1/\h.objs.size<=p.2):Grow F ρ h (ρ++[p]) h' :=
 ⟨⟨[p],rfl,fun q hq=>by rw[List.mem_singleton.mp hq];exact hp⟩,fun b o e _ _=>hk b o e,hs,fun _ ⟨o,es,n,ho,hd⟩=>⟨o,es,n,hk _ _ ho,hd⟩⟩
theorem Rel.change(R:Rel g T ρ σ h)(hT:T<=T'){i:Nat}{p:Addr×Addr}{o':AO}{a:Addr}(hi:ρ[i]? = some p)(ha:a=p.1\/a=p.2)(hs:Heap.SameBut a h h')
  (ho:OR g T' h' ρ o' p):Rel g T' ρ (σ.set i o') h':=by
 have nt:∀ xs,¬ IsTup h a xs:=fun xs ht=>by
  have:=R.out_tup ht p (List.mem_of_getElem? hi)
  rcases ha with rfl | rfl
  ·exact this.1 rfl
  ·exact this.2 rfl
 have tups:∀ a xs,IsTup h a xs->IsTup h' a xs:=fun b xs ht=>by
  refine AD ?_<|id ht;intro o ho r
  exact⟨o,(hs.2 b fun e=>nt xs (e▸ht)).trans ho,r⟩
 refine⟨fun b o e=>(hs.2 b fun q=>?_).trans (R.base b o e),by rw[List.length_set];exact R.len,fun j q o e1 e2=>?_,R.apart,R.new,fun z hz=>⟨by rw[hs.1];exact(R.hid z hz).1,(R.hid z hz).2⟩⟩
 ·subst q
  have:=R.new p (List.mem_of_getElem? hi)
  rcases ha with rfl | rfl
  ·rw[this.1]at e;exact noS e
  ·rw[this.2]at e;exact noS e
 ·by_cases hj:i=j
  ·subst hj
   rw[hi]at e1;replace e1:=sj e1;subst e1
   have hl:i<σ.length:=by rw[← R.len];exact(List.getElem?_eq_some_iff.mp hi).1
   rw[List.getElem?_set_self hl]at e2;replace e2:=sj e2;subst e2
   exact ho
  ·rw[List.getElem?_set_ne hj]at e2
   have ap:=R.apart i j p q hi e1 hj
   have n1:q.1≠a:=by rcases ha with rfl | rfl;exact Ne.symm ap.1;exact Ne.symm ap.2.2.1
   have n2:q.2≠a:=by rcases ha with rfl | rfl;exact Ne.symm ap.2.1;exact Ne.symm ap.2.2.2
   exact(R.obj j q o e1 e2).mono hT (fun b e=>(hs.2 _ n1).trans e) (fun b e=>(hs.2 _ n2).trans e) tups fun _ _ e=>e
theorem Grow.change{i:Nat}{p:Addr×Addr}{a:Addr}(hi:ρ[i]? = some p)(ha:a=p.1\/a=p.2)(hs:Heap.SameBut a h h')(hd:IsDict h a->IsDict h' a):Grow F ρ h ρ h' :=
 ⟨⟨[],by simp,fun _ hp=>by cases hp⟩,fun b o e hb _=>(hs.2 b fun q=>by
  have:=hb p (List.mem_of_getElem? hi)
  rcases ha with rfl | rfl
  ·exact this.1 q
  ·exact this.2 q).trans e,Nat.le_of_eq hs.1.symm,fun b x=>by
  by_cases q:b=a
  ·subst q;exact hd x
  ·revert x;refine DP ?_;intro o es n ho r;exact⟨o,es,n,(hs.2 b q).trans ho,r⟩⟩
noncomputable def FA(env:Env):List Addr:=env.locals::env.cells.map (·.2)
structure LocR(g:G)(T:Nat)(env:Env)(Λ:Loc)(ρ:Rho)(h:Heap):Prop where
 ns:∃ m,h.Ns env.locals m/\∀ k v,get k Λ=some v->env.kindOf (nm k)=some .local->∃ x,m (nm k)=some x/\VR g T h ρ v x
 cell:∀ k v,get k Λ=some v->env.kindOf (nm k)≠some .local->∃ c x,env.cells.lookup (nm k)=some c/\h.IsCell c (some x)/\VR g T h ρ v x
 cells:∀ n c,(n,c)∈env.cells->∃ v,h.IsCell c v
 apart:env.cells.Pairwise fun x y=>x.2≠y.2
 here:∀ n c,(n,c)∈env.cells->c≠env.locals
 out:∀ a∈FA env,Out ρ a/\g.B.get? a=none
theorem EE{h:Heap}{a:Addr}{xs:Array Value}(ht:IsTup h a xs)(hd:IsDict h a):False:=by
 obtain⟨o,ho,_,n,hd'⟩:=ht
 revert hd;refine DP ?_;intro o' es n' ho' hd''
 rw[ho]at ho';replace ho':=sj ho';subst ho';rw[hd']at hd'';cases hd''
theorem UC{h:Heap}{a:Addr}{xs:Array Value}{v:Option Value}(ht:IsTup h a xs)(hd:h.IsCell a v):False:=by
 obtain⟨o,ho,_,n,hd'⟩:=ht
 revert hd;refine AD ?_;intro o' ho' hd''
 rw[ho]at ho';replace ho':=sj ho';subst ho';rw[hd']at hd'';cases hd''
theorem LocR.notTup{env:Env}{Λ:Loc}(L:LocR g T env Λ ρ h):∀ a∈FA env,∀ xs,¬ IsTup h a xs:=fun a ha xs ht=>by
 rcases List.mem_cons.mp ha with rfl | ha
 ·obtain⟨m,hm,_⟩:=L.ns
  exact EE ht (.ns hm)
 ·refine AD ?_<|List.mem_map.mp ha;rintro⟨n,c⟩ hc rfl
  refine AR ?_<|L.cells n c hc;intro v hv
  exact UC ht hv
theorem LocR.lt{env:Env}{Λ:Loc}(L:LocR g T env Λ ρ h):∀ a∈FA env,a<h.objs.size:=fun a ha=>by
 rcases List.mem_cons.mp ha with rfl | ha
 ·obtain⟨m,hm,_⟩:=L.ns
  exact hm.lt
 ·refine AD ?_<|List.mem_map.mp ha;rintro⟨n,c⟩ hc rfl
  refine AR ?_<|L.cells n c hc;intro v hv
  exact hv.lt
theorem LocR.grow{env:Env}{Λ:Loc}(L:LocR g T env Λ ρ h)(R:Rel g T ρ σ h)(X:Grow [] ρ h ρ' h')(hT:T<=T'):LocR g T' env Λ ρ' h':=by
 have kp:∀ a∈FA env,∀ o,h.get? a=some o->h'.get? a=some o:=fun a ha o e=>X.keep a o e (L.out a ha).1 (by simp)
 have V:∀ {v x},VR g T h ρ v x->VR g T' h' ρ' v x:=fun V=>V.grow R X (by simp) hT
 obtain⟨m,⟨o,es,ep,ho,r⟩,hv⟩:=L.ns
 refine⟨⟨m,⟨o,es,ep,kp _ (.head _) _ ho,r⟩,fun k v e hk=>?_⟩,fun k v e hk=>?_,fun n c hc=>?_,L.apart,L.here,fun a ha=>⟨X.out (L.lt a ha) (L.out a ha).1,(L.out a ha).2⟩⟩
 ·refine AD ?_<|hv k v e hk;intro x a b
  exact⟨x,a,V b⟩
 ·refine DO ?_<|L.cell k v e hk;rintro c x a ⟨oc,hoc,hd⟩ b
  exact⟨c,x,a,⟨oc,kp _ (.tail _ (List.mem_map.mpr ⟨_,mem_of_lookup a,rfl⟩)) _ hoc,hd⟩,V b⟩
 ·refine FD ?_<|L.cells n c hc;intro v oc hoc hd
  exact⟨v,oc,kp _ (.tail _ (List.mem_map.mpr ⟨_,hc,rfl⟩)) _ hoc,hd⟩
theorem LocR.less{env:Env}{Λ Λ':Loc}(L:LocR g T env Λ ρ h)(hs:∀ k v,get k Λ'=some v->get k Λ=some v):LocR g T env Λ' ρ h:=by
 obtain⟨m,hm,hv⟩:=L.ns
 exact⟨⟨m,hm,fun k v e=>hv k v (hs k v e)⟩,fun k v e=>L.cell k v (hs k v e),L.cells,L.apart,L.here,L.out⟩
end
noncomputable def DM(l:List Env):List Addr:=l.filterMap (·.frame)
structure Fly(Bx:Heap)(l:List Env)(e:Addr)(cls:Value)(h:Heap):Prop where
 stays:Bx.StaysIn h
 new:Bx.get? e=none
 frames:h.FunFrames Bx l
 obj:∃ oe vs,h.get? e=some oe/\oe.cls=cls/\oe.data = .fields vs/\vs.size=6/\vs[2]? = some .none ∧
  (vs[1]? = some .none\/∃ T oT ts,vs[1]? = some (.ref T)/\Bx.get? T=none/\T≠e/\h.get? T=some oT/\oT.data = .fields ts ∧
   (ts[3]? = some .none\/∃ env L r,l=env::r/\env.frame=some L/\ts[3]? = some (rawInt L)))
structure Same(s s':Shared):Prop where
 gens:s'.gens=s.gens
 drawn:s'.drawn=s.drawn
 os:s'.os=s.os
theorem Same.refl(s:Shared):Same s s:=⟨rfl,rfl,rfl⟩
theorem Same.trans{s s' s'':Shared}(a:Same s s')(b:Same s' s''):Same s s'':=⟨b.gens.trans a.gens,b.drawn.trans a.drawn,b.os.trans a.os⟩
structure Post(g:G)(F:List Addr)(s:Shared)(ρ:Rho)(s':Shared)(ρ':Rho)(σ':St):Prop where
 rel:Rel g s'.toks ρ' σ' s'.heap
 grow:Grow F ρ s.heap ρ' s'.heap
 toks:s.toks<=s'.toks
 same:Same s s'
structure XPost(g:G)(A:Around)(F:List Addr)(s:Shared)(ρ:Rho)(s':Shared)(ρ':Rho)(σ':St)(x:Value):Prop where
 fly:∃ e l Bx,x = .ref e/\A.frames=some l/\Fly Bx l e (.ref (g.ca 2)) s'.heap/\Rel g s'.toks ρ' σ' Bx ∧
  ∀ b o,s.heap.get? b=some o->Out ρ b->b∉F->b∉DM l->Bx.get? b=some o
 keep:∀ b o,s.heap.get? b=some o->Out ρ b->b∉F->(∀ vs,o.data≠.fields vs)->∃ sl,s'.heap.get? b=some {o with slots:=sl }
 ext:∃ τ,ρ'=ρ++τ/\∀ p∈τ,s.heap.objs.size<=p.1/\s.heap.objs.size<=p.2
 toks:s.toks<=s'.toks
 same:Same s s'
section
variable {g:G}{A:Around}{F F':List Addr}{s s₁ s':Shared}{ρ ρ₁ ρ':Rho}{σ σ₁ σ':St}{x:Value}
theorem Post.refl(R:Rel g s.toks ρ σ s.heap):Post g F s ρ s ρ σ:=⟨R,.refl,Nat.le_refl _,.refl s⟩
theorem Post.trans(a:Post g F s ρ s₁ ρ₁ σ₁)(b:Post g F s₁ ρ₁ s' ρ' σ'):Post g F s ρ s' ρ' σ' :=
 ⟨b.rel,a.grow.trans b.grow,Nat.le_trans a.toks b.toks,a.same.trans b.same⟩
theorem Post.wider(a:Post g F s ρ s' ρ' σ')(h:∀ b∈F,b∈F'):Post g F' s ρ s' ρ' σ':=⟨a.rel,a.grow.wider h,a.toks,a.same⟩
theorem Post.up(a:Post g [] s ρ s' ρ' σ'):Post g F s ρ s' ρ' σ':=a.wider (by simp)
theorem XPost.trans(a:Post g F s ρ s₁ ρ₁ σ₁)(b:XPost g A F s₁ ρ₁ s' ρ' σ' x):XPost g A F s ρ s' ρ' σ' x:=by
 obtain⟨e,l,Bx,rfl,hl,hf,hr,hk⟩:=b.fly
 obtain⟨τ,e1,hτ⟩:=a.grow.ext
 obtain⟨τ',e2,hτ'⟩:=b.ext
 refine⟨⟨e,l,Bx,rfl,hl,hf,hr,fun b o h1 h2 h3 h4=>hk b o (a.grow.keep b o h1 h2 h3) (a.grow.out (Heap.lt_size h1) h2) h3 h4⟩,
  fun b' o h1 h2 h3 h4=>b.keep b' o (a.grow.keep b' o h1 h2 h3) (a.grow.out (Heap.lt_size h1) h2) h3 h4,⟨τ++τ',by rw[e2,e1,List.append_assoc],fun p hp=>?_⟩,Nat.le_trans a.toks b.toks,a.same.trans b.same⟩
 rcases List.mem_append.mp hp with hp | hp
 ·exact hτ p hp
 ·exact⟨Nat.le_trans a.grow.size (hτ' p hp).1,Nat.le_trans a.grow.size (hτ' p hp).2⟩
theorem XPost.wider(b:XPost g A F s ρ s' ρ' σ' x)(h:∀ b∈F,b∈F'):XPost g A F' s ρ s' ρ' σ' x:=by
 obtain⟨e,l,Bx,rfl,hl,hf,hr,hk⟩:=b.fly
 exact⟨⟨e,l,Bx,rfl,hl,hf,hr,fun b o h1 h2 h3 h4=>hk b o h1 h2 (fun q=>h3 (h b q)) h4⟩,fun b' o h1 h2 h3 h4=>b.keep b' o h1 h2 (fun q=>h3 (h b' q)) h4,b.ext,b.toks,b.same⟩
end
noncomputable def Room(A:Around)(n:Nat):Prop:=A.depth+3*n+3<=recursionLimit/\A.units+20*n+100<=cLine
noncomputable def PX(A:Around)(n:Nat):Prop:=A.depth+3*n+1<=recursionLimit/\A.units+20*n+90<=cLine
noncomputable def HOk(fr:Bool)(A:Around)(h:Heap):Prop:=A.handled=none\/fr=false/\∃ e oe vs,A.handled=some (.ref e)/\h.get? e=some oe/\oe.data = .fields vs/\vs[2]? = some .none
noncomputable def FramesOk(g:G)(l:List Env)(h:Heap)(ρ:Rho):Prop:=∀ env∈l,env.scope.kind≠.module/\∃ L,env.frame=some L/\Out ρ L/\g.B.get? L=none/\IsDict h L
noncomputable def Stk(g:G)(A:Around)(h:Heap)(ρ:Rho):Prop:=∃ l,A.frames=some l/\FramesOk g l h ρ
structure EnvOk(sc:List (Str×NameKind))(env:Env):Prop where
 names:env.scope.names=sc
 kind:env.scope.kind = .function
 glob:env.globals=mainGlobals
 blt:env.builtins=builtinsNs
 cells:∀ id,sc.lookup id=some .cell->∃ c,env.cells.lookup id=some c
structure At(g:G)(fr:Bool)(A:Around)(σ:St)(ρ:Rho)(s:Shared):Prop where
 hand:HOk fr A s.heap
 stk:Stk g A s.heap ρ
 rel:Rel g s.toks ρ σ s.heap
 toks:0<s.toks
structure Ctx(g:G)(fr:Bool)(n:Nat)(A:Around)(env:Env)(sc:List (Str×NameKind))(Λ:Loc)(σ:St)(ρ:Rho)(s:Shared):Prop where
 ok:EnvOk sc env
 room:Room A n
 at_:At g fr A σ ρ s
 loc:LocR g s.toks env Λ ρ s.heap
section
variable {g:G}{A:Around}{F F':List Addr}{s s₁ s':Shared}{ρ ρ₁ ρ':Rho}{σ σ₁ σ':St}{x:Value}{n:Nat}{env:Env}{sc:List (Str×NameKind)}{Λ:Loc}{fr:Bool}
theorem a0e(R:Rel g T ρ σ h){a:Addr}{o:Obj}{vs:Array Value}(e:h.get? a=some o)(hd:o.data = .fields vs):Out ρ a:=fun p hp=>by
 refine AR ?_<|R.there hp;intro ao ho
 induction ao using AO.casesOn with
 | list us =>
  obtain⟨e2,_,xs,⟨m,hob⟩,_⟩:=ho
  have:a≠p.1:=fun q=>by have:=congrArg Obj.data (Option.some.inj (hob.symm.trans (q▸e)));rw[hd]at this;cases this
  exact⟨this,e2▸this⟩
 | dict kvs =>
  obtain⟨e2,_,xs,⟨ob,es,ep,hob,_,hdb,_⟩,_⟩:=ho
  have:a≠p.1:=fun q=>by have:=congrArg Obj.data (Option.some.inj (hob.symm.trans (q▸e)));rw[hd,hdb]at this;cases this
  exact⟨this,e2▸this⟩
 | inst c fs =>
  obtain⟨_,es,m,h1,h2,_⟩:=ho
  exact⟨fun q=>(by have:=congrArg Obj.data (Option.some.inj (h1.symm.trans (q▸e)));rw[hd]at this;cases this),fun q=>(by have:=congrArg Obj.data (Option.some.inj (h2.symm.trans (q▸e)));rw[hd]at this;cases this)⟩
theorem HOk.grow(H:HOk fr A h)(R:Rel g T ρ σ h)(X:Grow F ρ h ρ' h')(hF:∀ a∈F,∀ o vs,h.get? a=some o->o.data≠.fields vs):HOk fr A h':=by
 rcases H with H | ⟨h0,e,oe,vs,h1,h2,h3,h4⟩
 ·exact .inl H
 ·exact .inr ⟨h0,e,oe,vs,h1,X.keep e oe h2 (a0e R h2 h3) (fun hm=>hF e hm oe vs h2 h3),h3,h4⟩
theorem FramesOk.grow{l:List Env}(H:FramesOk g l h ρ)(X:Grow F ρ h ρ' h'):FramesOk g l h' ρ':=fun env he=>by
 obtain⟨a,L,b,c,d,e⟩:=H env he
 have lt:L<h.objs.size:=let⟨_,_,_,q,_⟩:=e;Heap.lt_size q
 exact⟨a,L,b,X.out lt c,d,X.dicts L e⟩
theorem Stk.grow(H:Stk g A h ρ)(X:Grow F ρ h ρ' h'):Stk g A h' ρ':=let⟨l,a,b⟩:=H;⟨l,a,b.grow X⟩
theorem At.next(c:At g fr A σ ρ s)(p:Post g F s ρ s' ρ' σ')(hF:∀ a∈F,∀ o vs,s.heap.get? a=some o->o.data≠.fields vs):At g fr A σ' ρ' s' :=
 ⟨c.hand.grow c.rel p.grow hF,c.stk.grow p.grow,p.rel,Nat.lt_of_lt_of_le c.toks p.toks⟩
theorem At.next0(c:At g fr A σ ρ s)(p:Post g [] s ρ s' ρ' σ'):At g fr A σ' ρ' s':=c.next p (by simp)
theorem Ctx.next(c:Ctx g fr n A env sc Λ σ ρ s)(p:Post g [] s ρ s' ρ' σ'):Ctx g fr n A env sc Λ σ' ρ' s' :=
 ⟨c.ok,c.room,c.at_.next0 p,c.loc.grow c.at_.rel p.grow p.toks⟩
theorem Ctx.fa(c:Ctx g fr n A env sc Λ σ ρ s):∀ a∈FA env,∀ o vs,s.heap.get? a=some o->o.data≠.fields vs:=fun a ha o vs ho hd=>by
 rcases List.mem_cons.mp ha with rfl | ha
 ·obtain⟨m,⟨o',es,ep,ho',hd',_⟩,_⟩:=c.loc.ns
  rw[ho]at ho';replace ho':=sj ho';subst ho';rw[hd]at hd';cases hd'
 ·refine AD ?_<|List.mem_map.mp ha;rintro⟨k,cl⟩ hc rfl
  refine FD ?_<|c.loc.cells k cl hc;intro v o' ho' hd'
  rw[ho]at ho';replace ho':=sj ho';subst ho';rw[hd]at hd';cases hd'
theorem VR.next(R:Rel g s.toks ρ σ s.heap)(p:Post g [] s ρ s' ρ' σ'){v:PV}{y:Value}(V:VR g s.toks s.heap ρ v y):VR g s'.toks s'.heap ρ' v y:=V.grow R p.grow (by simp) p.toks
theorem VRs.next(R:Rel g s.toks ρ σ s.heap)(p:Post g [] s ρ s' ρ' σ'){v:List PV}{y:List Value}(V:VRs g s.toks s.heap ρ v y):VRs g s'.toks s'.heap ρ' v y:=V.grow R p.grow (by simp) p.toks
theorem Post.ofToks(R:Rel g s.toks ρ σ s.heap){k:Nat}(hk:s.toks<=k):Post g F s ρ {s with toks:=k } ρ σ:=⟨R.toks hk,.refl,hk,⟨rfl,rfl,rfl⟩⟩
theorem Post.ofKeeps(R:Rel g s.toks ρ σ s.heap){h':Heap}{k:Nat}(hk:s.toks<=k)(hh:∀ b o,s.heap.get? b=some o->h'.get? b=some o)(hs:s.heap.objs.size<=h'.objs.size) :
  Post g F s ρ {s with heap:=h',toks:=k } ρ σ:=⟨R.keeps hk hs hh,.keeps hh hs,hk,⟨rfl,rfl,rfl⟩⟩
end
noncomputable def JM(g:G)(fr:Bool)(n:Nat)(f:Nat)(vs:List PV)(σ:St)(Q:PV->St->Prop)(X:St->Prop):Prop :=
 ∀ A ρ s xs (R:Result->Shared->Prop),PX A n->At g fr A σ ρ s->VRs g s.toks s.heap ρ vs xs →
  (∀ y s' ρ' pv σ',Post g [] s ρ s' ρ' σ'->VR g s'.toks s'.heap ρ' pv y->Q pv σ'->R (.ok (.ret y)) s') →
  (∀ x s' ρ' σ',XPost g A [] s ρ s' ρ' σ' x->X σ'->R (.error x) s') →
  codeAny (model g.prog g.w) A (.call (.ref (g.fa f)) ⟨xs,[]⟩) R s
noncomputable def glv:Nat->PV
 | 0=>.flist ((["core","a.S q","a.low","a","none"]:List String).map fun x=>.str (Str.ofString x) false)
 | 1=>.tup [.int 32,.int 9,.int 10,.int 13]
 | _=>.fdict [("n",.str "\n" false),("t",.str "\t" false),("b",.str "\x08" false),("\"",.str "\"" false),("\\",.str "\\" false)]
noncomputable def inits:Nat->Nat
 | 3=>6
 | 4=>9
 | 5=>22
 | _=>28
noncomputable def meths:List (Nat×Nat×Nat):=[(3,43,7),(3,41,8),(4,19,10),(4,20,11),(4,21,12),(4,29,13),(4,24,14),(4,35,15),(4,25,16),(4,28,17),(4,26,18),(4,27,19),(4,31,20),(4,34,21),
 (5,15,23),(5,69,24),(5,68,25),(5,75,26),(5,74,27),(6,58,29),(6,57,30),(6,79,31)]
noncomputable def methF(c k:Nat):Option Nat:=(meths.find? fun p=>p.1==c&&p.2.1==k).map (·.2.2)
noncomputable abbrev tb(g:G)(fr:Bool)(n:Nat):Tb:=⟨glv,inits,methF,JM g fr n,JM g false n,fr=true⟩
noncomputable abbrev Cont(g:G)(F:List Addr)(s:Shared)(ρ:Rho)(Q:PV->St->Prop)(Z:Value->Shared->Prop):Prop :=
 ∀ y s' ρ' pv σ',Post g F s ρ s' ρ' σ'->VR g s'.toks s'.heap ρ' pv y->Q pv σ'->Z y s'
noncomputable abbrev ContX(g:G)(A:Around)(F:List Addr)(s:Shared)(ρ:Rho)(X:St->Prop)(E:Value->Shared->Prop):Prop :=
 ∀ x s' ρ' σ',XPost g A F s ρ s' ρ' σ' x->X σ'->E x s'
section
variable {g:G}{fr:Bool}{A:Around}{s:Shared}{ρ:Rho}{σ:St}{E:Value->Shared->Prop}{Z:Value->Shared->Prop}{Q:PV->St->Prop}
theorem Cont.tok(R:Rel g s.toks ρ σ s.heap)(hP:Cont g [] s ρ Q Z){v:PV}{y:Value}{k:Nat}(hk:s.toks<=k)(V:VR g k s.heap ρ v y)(q:Q v σ):Z y {s with toks:=k } :=
 hP y _ ρ v σ (.ofToks R hk) V q
theorem Cont.here(R:Rel g s.toks ρ σ s.heap)(hP:Cont g [] s ρ Q Z){v:PV}{y:Value}(V:VR g s.toks s.heap ρ v y)(q:Q v σ):Z y s:=hP y s ρ v σ (.refl R) V q
theorem fits_iff{n:Nat}:fits n=true↔n<=1000000:=by unfold fits;exact decide_eq_true_iff
theorem CA{n:Nat}(h:fits n=true):n<=sizeLine:=by have:=fits_iff.mp h;rw[sizeLine_eq];exact ar1
theorem fitsI_iff{i:Int}:CF i=true↔(-4611686018427387904<i/\i<4611686018427387904):=by unfold CF;rw[Bool.and_eq_true,decide_eq_true_iff,decide_eq_true_iff]
theorem Cont.newList(R:Rel g s.toks ρ σ s.heap)(hP:Cont g [] s ρ Q Z){vs:List PV}{xs:List Value}{n:Nat}{k:Nat}(hk:s.toks<=k)(hl:vs.length<=sizeLine)
  (V:VRs g s.toks s.heap ρ vs xs) (q:Q (.ref σ.length) (σ++[.list vs])):Z (.ref s.heap.objs.size) {s with heap:=s.heap.push {cls:=.type "list",data:=.seq xs.toArray n },toks:=k }:=by
 have hk':∀ b o,s.heap.get? b=some o->(s.heap.push {cls:=.type "list",data:=.seq xs.toArray n }).get? b=some o:=fun b o e=>Heap.get?_push_of_some _ e
 have old:∀ (i:Nat) p,ρ[i]? = some p->(ρ++[(s.heap.objs.size,s.heap.objs.size)])[i]? = some p:=fun i p e=>by rw[List.getElem?_append_left (List.getElem?_eq_some_iff.mp e).1];exact e
 have tups:∀ a zs,IsTup s.heap a zs->IsTup (s.heap.push {cls:=.type "list",data:=.seq xs.toArray n }) a zs:=fun a zs h=>h.push _
 have hsz:s.heap.objs.size<=(s.heap.push {cls:=.type "list",data:=.seq xs.toArray n }).objs.size:=by rw[Heap.size_push];exact Nat.le_succ _
 refine hP _ _ (ρ++[(s.heap.objs.size,s.heap.objs.size)]) (.ref σ.length) (σ++[.list vs]) ⟨R.adopt (o:=.list vs) hk hk' ⟨Nat.le_refl _,Nat.le_refl _⟩ ⟨rfl,hl,xs,⟨n,Heap.get?_push_size _ rfl⟩,V.mono hk tups old⟩,Grow.adopt hk' hsz ⟨Nat.le_refl _,Nat.le_refl _⟩,hk,⟨rfl,rfl,rfl⟩⟩ ?_ q
 exact .ref (d:=s.heap.objs.size) (by rw[← R.len];simp)
theorem YI{i:Nat}{vs:List PV}(h:AK σ i=some vs):σ[i]? = some (.list vs):=by
 unfold AK at h;revert h
 cases σ[i]? with
 | none=>exact fun h=>nomatch h
 | some o=>induction o using AO.casesOn<;>exact fun h=>by first | rw[← Option.some.inj h] | exact noS h
theorem YJ{i:Nat}{vs:List (Str×PV)}(h:dictAt σ i=some vs):σ[i]? = some (.dict vs):=by
 unfold dictAt at h;revert h
 cases σ[i]? with
 | none=>exact fun h=>nomatch h
 | some o=>induction o using AO.casesOn<;>exact fun h=>by first | rw[← Option.some.inj h] | exact noS h
theorem YK{i:Nat}{p:Nat×List (Nat×PV)}(h:instAt σ i=some p):σ[i]? = some (.inst p.1 p.2):=by
 unfold instAt at h;revert h
 cases σ[i]? with
 | none=>exact fun h=>nomatch h
 | some o=>induction o using AO.casesOn<;>exact fun h=>by first | rw[← Option.some.inj h] | exact noS h
theorem Rel.list(R:Rel g T ρ σ h){i:Nat}{vs:List PV}(e:AK σ i=some vs){a:Value}(V:VR g T h ρ (.ref i) a) :
  ∃ l xs,a = .ref l/\ρ[i]? = some (l,l)/\h.PlainList l xs.toArray/\VRs g T h ρ vs xs/\vs.length<=sizeLine:=by
 obtain⟨p,hp,e2,hl,xs,hi,hv⟩:=R.get (YI e)
 refine V.refI fun a d hr=>?_
 cases hp.symm.trans hr
 cases e2
 exact⟨_,xs,rfl,hp,hi,hv,hl⟩
theorem Rel.dict(R:Rel g T ρ σ h){i:Nat}{kvs:List (Str×PV)}(e:dictAt σ i=some kvs){a:Value}(V:VR g T h ρ (.ref i) a) :
  ∃ l xs,a = .ref l/\ρ[i]? = some (l,l)/\h.DictOf (strKind g.prog g.w) l xs/\VKs g T h ρ kvs xs/\(l==sysModules)=false:=by
 obtain⟨p,hp,e2,hs,xs,hi,hv⟩:=R.get (YJ e)
 refine V.refI fun a d hr=>?_
 cases hp.symm.trans hr
 cases e2
 exact⟨_,xs,rfl,hp,hi,hv,hs⟩
theorem Rel.inst(R:Rel g T ρ σ h){i c:Nat}{fs:List (Nat×PV)}(e:instAt σ i=some (c,fs)){a:Value}(V:VR g T h ρ (.ref i) a) :
  ∃ x d es n,a = .ref x/\ρ[i]? = some (x,d)/\h.get? x=some (instObj (g.ca c) d)/\h.get? d=some (dictOf es n)/\FR g T h ρ fs es/\fs.length<=100:=by
 obtain⟨p,hp,hl,es,n,h1,h2,hf⟩:=R.get (YK e)
 refine V.refI fun a d hr=>?_
 cases hp.symm.trans hr
 exact⟨_,_,es,n,rfl,hp,h1,h2,hf,hl⟩
noncomputable def opB:BOp->Operator
 | .add=>.Add | .sub=>.Sub | .mul=>.Mult | .fdiv=>.FloorDiv | .mod=>.Mod
theorem JN{a b:Addr}{vs us:List PV}{xs ys:List Value}(R:Rel g s.toks ρ σ s.heap)(ha:s.heap.IsList a xs.toArray)(hb:s.heap.IsList b ys.toArray)(Va:VRs g s.toks s.heap ρ vs xs)(Vb:VRs g s.toks s.heap ρ us ys)
  (hf:fits (vs.length+us.length)=true) (q:Q (.ref σ.length) (σ++[.list (vs++us)])) (hP:Cont g [] s ρ Q Z):wpAny (model g.prog g.w) A (binaryOp .Add (.ref a) (.ref b)) Z E s:=by
 obtain⟨⟨cls,dd,data,sl⟩,ho,hc,n,hd⟩:=id ha
 obtain⟨⟨cls2,dd2,data2,sl2⟩,ho2,hc2,n2,hd2⟩:=id hb
 simp only at hc hd hc2 hd2
 subst hc hd hc2 hd2
 have e:xs.toArray++ys.toArray=(xs++ys).toArray:=by simp
 have hz:=fits_iff.mp hf
 refine concat_meets ⟨_,ho,rfl⟩ ⟨_,ho2,rfl⟩ noFill_list_add seq_list_add PySem.F.slot_list_add PySem.F.entry_list_add (PySem.F.args_list_add_2 _ _) (list_addW a b xs.toArray ys.toArray n n2 dd dd2 sl sl2 (by simp[← Va.length,← Vb.length];rw[sizeLine_eq];exact ar1)) ⟨ho,ho2,?_⟩
 rw[e]
 exact hP.newList R (Nat.le_refl _) (by rw[List.length_append,sizeLine_eq];exact ar1) (Va.append Vb) q
theorem BW{α:Type}{c:Prop} [Decidable c]{o:Option α}{K:α->Prop}(h:opt (if c then o else none) K):c/\opt o K:=by
 by_cases e:c
 ·rw[if_pos e]at h;exact⟨e,h⟩
 ·rw[if_neg e]at h;exact h.elim
theorem YY{x:Str}(h:x.length=0):x=Str.empty:=by
 have:x.cps.size=0:=h
 induction x using Str.casesOn;simp only[Str.empty,Str.mk.injEq];exact Array.eq_empty_of_size_eq_zero this
set_option tactic.hygienic true in
theorem b0s{C:BOp->PV->PV->Prop}{op:BOp}{v u:PV}{K:PV×St->Prop}(h:opt (bin σ op v u) K)(k1:∀ x y,K (.int (x+y),σ)->C .add (.int x) (.int y))(k2:∀ x y,K (.int (x-y),σ)->C .sub (.int x) (.int y))
  (k3:∀ x y,(CF x&&CF y)=true/\K (.int (x*y),σ)->C .mul (.int x) (.int y)) (k4:∀ x y,(y≠0/\y.natAbs<1073741824)/\K (.int (Int.fdiv x y),σ)->C .fdiv (.int x) (.int y)) (k5:∀ x y,y≠0/\K (.int (Int.fmod x y),σ)->C .mod (.int x) (.int y))
  (k6:∀ x a y b,fits (x.length+y.length)=true/\K (.str (x++y) (a&&b),σ)->C .add (.str x a) (.str y b)) (k7:∀ x y,fits (x.length+y.length)=true/\K (.bytes (x++y),σ)->C .add (.bytes x) (.bytes y))
  (k8:∀ i j vs us,AK σ i=some vs->AK σ j=some us->fits (vs.length+us.length)=true/\K (.ref σ.length,σ++[.list (vs++us)])->C .add (.ref i) (.ref j))
  (k9:∀ vs j us,AK σ j=some us->fits (vs.length+us.length)=true/\K (.ref σ.length,σ++[.list (vs++us)])->C .add (.flist vs) (.ref j)):C op v u:=by
 induction op using BOp.casesOn<;>induction v using PV.casesOn<;>first | exact h.elim | (induction u using PV.casesOn<;>first | exact h.elim | exact k1 _ _ h | exact k2 _ _ h | exact k3 _ _ (BW h) | exact k4 _ _ (BW h) | exact k5 _ _ (BW h) | exact k6 _ _ _ _ (BW h) | exact k7 _ _ (BW h) | skip)
 ·rename_i i j
  dsimp only[bin]at h
  cases e1:AK σ i with
  | none=>rw[e1]at h;exact h.elim
  | some vs =>
   cases e2:AK σ j with
   | none=>rw[e1,e2]at h;exact h.elim
   | some us=>rw[e1,e2]at h;exact k8 _ _ _ _ e1 e2 (BW h)
 ·rename_i vs j
  dsimp only[bin]at h
  cases e2:AK σ j with
  | none=>rw[e2]at h;exact h.elim
  | some us=>rw[e2]at h;exact k9 _ _ _ e2 (BW h)
set_option tactic.hygienic true in
theorem a2f{op:BOp}{v u:PV}{x y:Value}(c:At g fr A σ ρ s)(V:VR g s.toks s.heap ρ v x)(U:VR g s.toks s.heap ρ u y)
  (h:opt (bin σ op v u) fun r=>Q r.1 r.2) (hP:Cont g [] s ρ Q Z):wpAny (model g.prog g.w) A (binaryOp (opB op) x y) Z E s:=by
 have R:=c.rel
 have T1:=Nat.le_succ s.toks
 revert V U
 refine b0s (C:=fun op v u=>VR g s.toks s.heap ρ v x->VR g s.toks s.heap ρ u y->wpAny (model g.prog g.w) A (binaryOp (opB op) x y) Z E s) h (fun a b h V U=>?_) (fun a b h V U=>?_) (fun a b h V U=>?_) (fun a b h V U=>?_) (fun a b h V U=>?_) (fun a oa b ob h V U=>?_) (fun a b h V U=>?_) (fun i j vs us e1 e2 h V U=>?_) (fun vs j us e2 h V U=>?_)
 ·exact V.intI fun t=>U.intI fun t'=>add_int (hP.tok R T1 (.int _ _) h)
 ·exact V.intI fun t=>U.intI fun t'=>sub_int (hP.tok R T1 (.int _ _) h)
 ·have hf:=h.1
  rw[Bool.and_eq_true,fitsI_iff,fitsI_iff]at hf
  exact V.intI fun t=>U.intI fun t'=>P.mul_int (hP.tok R T1 (.int _ _) h.2) (.of_left (intBits_le_64 (by lia) (by lia)))
 ·exact V.intI fun t=>U.intI fun t'=>floordiv_int (hp:=.inl (PyProof.noPylong_small h.1.2)) h.1.1 (hP.tok R T1 (.int _ _) h.2)
 ·exact V.intI fun t=>U.intI fun t'=>mod_int' h.1 (hP.tok R T1 (.int _ _) h.2)
 ·refine V.strI fun t hx hox=>U.strI fun t' hy hoy=>P.add_str ?_
  have hz:=fits_iff.mp h.1
  have h:=h.2
  split
  ·rename_i h0
   rw[YY (x:=a) (by simpa using h0),Str.empty_append]at h
   exact hP.here R (.str _ _ _ hy fun q=>hoy (Bool.and_eq_true _ _▸q).2) h
  ·split
   ·rename_i h0
    rw[YY (x:=b) (by simpa using h0),show a++Str.empty=a from by apply Str.ext';rw[Str.cps_append];simp[Str.empty]]at h
    exact hP.here R (.str _ _ _ hx fun q=>hox (Bool.and_eq_true _ _▸q).1) h
   ·have hl:(a++b).length<=sizeLine:=by rw[Str.length_append,sizeLine_eq];exact ar1
    exact⟨hl,hP.tok R T1 (.str _ _ _ hl fun _=>⟨Nat.ne_of_gt c.toks,Nat.lt_succ_self _⟩) h⟩
 ·revert h
  refine V.bytesI fun a t hb=>?_
  refine U.bytesI fun b t' hb' h=>?_
  have hz:=fits_iff.mp h.1
  rw[Array.length_toList,Array.length_toList]at hz
  have q:=h.2
  rw[show a.toList++b.toList=(a++b).toList from Array.toList_append.symm]at q
  exact wpAny_with_toks (n:=s.toks) (Nat.le_refl _) (KBy.add_bytes (by exact ar1) fun t' k hk=>hP.tok R hk (.bytes _ _ (by rw[Array.size_append,sizeLine_eq];exact ar1)) q)
 ·obtain⟨a,xs,rfl,_,hl,Va,_⟩:=R.list e1 V
  obtain⟨b,ys,rfl,_,hl',Vb,_⟩:=R.list e2 U
  exact JN R hl.isList hl'.isList Va Vb h.1 h.2 hP
 ·obtain⟨b,ys,rfl,_,hl',Vb,_⟩:=R.list e2 U
  exact V.flistI fun a xs hB hl Va=>let⟨o,ho,r⟩:=hB;JN R ⟨o,R.base _ _ ho,r⟩ hl'.isList Va Vb h.1 h.2 hP
theorem a0f{T:Nat}{h:Heap}{v:PV}{x:Value}{d:PyData}(V:VR g T h ρ v x)(e:data v=some d):∃ as,Reads h x d as:=by
 revert d
 refine VR.rec (motive_1:=fun v x _=>∀ {d},data v=some d->∃ as,Reads h x d as) (motive_2:=fun v x _=>∀ {d},datas v=some d->∃ as,ReadsAll h x d as) (motive_3:=fun _ _ _=>True)
  (fun e=>by replace e:=sj e;subst e;exact⟨_,.none⟩) (fun b _ e=>by replace e:=sj e;subst e;exact⟨_,.bool b⟩) (fun i t _ e=>by replace e:=sj e;subst e;exact⟨_,.int i t⟩) (fun x _ t _ _ _ e=>by replace e:=sj e;subst e;exact⟨_,.str x t⟩) (fun _ _ _ _ e=>nomatch e) (@fun a xs vs _ ht _ _ ih d e=>?_) (fun _ _ e=>nomatch e) (fun _ _ _ _ _ e=>nomatch e) (fun _ _ _ _ _ e=>nomatch e)
  (fun e=>by replace e:=sj e;subst e;exact⟨_,.nil⟩) (@fun v x vs xs _ _ i1 i2 d e=>?_) ⟨⟩ (fun _ _ _ _=>⟨⟩) V
 ·have e':(match datas vs with | some l=>some (.tuple l) | none=>none)=some d:=e
  cases q:datas vs with
  | none=>rw[q]at e';exact noS e'
  | some l =>
   rw[q]at e';replace e':=sj e';subst e'
   obtain⟨o,ho,hc,n,hd⟩:=ht
   refine AR ?_<|ih q;intro as z
   exact⟨as,reads_tuple_at ho hc hd (by simpa using z)⟩
 ·have e':(match data v,datas vs with | some d,some l=>some (d::l) | _,_=>none)=some d:=e
  cases q1:data v with
  | none=>rw[q1]at e';exact noS e'
  | some d1 =>
   cases q2:datas vs with
   | none=>rw[q1,q2]at e';exact noS e'
   | some l =>
    rw[q1,q2]at e';replace e':=sj e';subst e'
    refine AR ?_<|i1 q1;intro as z
    refine AR ?_<|i2 q2;intro bs y
    exact⟨_,.cons z y⟩
theorem OJ{T:Nat}{h:Heap}{v:List PV}{x:List Value}{d:List PyData}(V:VRs g T h ρ v x)(e:datas v=some d):∃ as,ReadsAll h x d as:=by
 revert d
 refine VRs.ind (P:=fun v x=>∀ {d},datas v=some d->∃ as,ReadsAll h x d as) (fun e=>by replace e:=sj e;subst e;exact⟨_,.nil⟩) (fun v x vs xs a _ ih d e=>?_) V
 have e':(match data v,datas vs with | some d,some l=>some (d::l) | _,_=>none)=some d:=e
 cases q1:data v with
 | none=>rw[q1]at e';exact noS e'
 | some d1 =>
  cases q2:datas vs with
  | none=>rw[q1,q2]at e';exact noS e'
  | some l =>
   rw[q1,q2]at e';replace e':=sj e';subst e'
   refine AR ?_<|a0f a q1;intro as z
   refine AR ?_<|ih q2;intro bs y
   exact⟨_,.cons z y⟩
set_option tactic.hygienic true in
theorem OV{T:Nat}{h:Heap}{v:List PV}{x:List Value}{l:List Str}(V:VRs g T h ρ v x)(e:BJ v=some l):StrsAre x l:=by
 revert l
 refine VRs.ind (P:=fun v x=>∀ {l},BJ v=some l->StrsAre x l) (fun e=>by replace e:=sj e;subst e;exact .nil) (fun v x vs xs a _ ih l e=>?_) V
 induction v using PV.casesOn<;>try exact noS e
 rename_i y o
 refine a.strI fun t _ _=>?_
 have e':(match BJ vs with | some l=>some (y::l) | none=>none)=some l:=e
 cases q:BJ vs with
 | none=>rw[q]at e';exact noS e'
 | some l=>rw[q]at e';replace e':=sj e';subst e';exact .cons _ _ (ih q)
set_option tactic.hygienic true in
theorem UU{T:Nat}{h:Heap}{v:List PV}{x:List Value}{l:List Int}(V:VRs g T h ρ v x)(e:CR v=some l):IntsAre x l:=by
 revert l
 refine VRs.ind (P:=fun v x=>∀ {l},CR v=some l->IntsAre x l) (fun e=>by replace e:=sj e;subst e;exact .nil) (fun v x vs xs a _ ih l e=>?_) V
 induction v using PV.casesOn<;>try exact noS e
 rename_i y
 refine a.intI fun t=>?_
 have e':(match CR vs with | some l=>some (y::l) | none=>none)=some l:=e
 cases q:CR vs with
 | none=>rw[q]at e';exact noS e'
 | some l=>rw[q]at e';replace e':=sj e';subst e';exact .cons _ _ (ih q)
noncomputable def opC:COp->CmpOp
 | .eq=>.Eq | .ne=>.NotEq | .lt=>.Lt | .le=>.LtE | .gt=>.Gt | .ge=>.GtE | .is=>.Is | .isnot=>.IsNot | .isin=>.In | .notin=>.NotIn
set_option tactic.hygienic true in
theorem b0t{C:PV->PV->Bool->Prop}{v u:PV}{r:Bool}(h:eqv σ v u=some r)(k1:C .none .none true)(k2:∀ x a,C .none (.str x a) false)(k3:∀ x a,C (.str x a) .none false)(k4:∀ x y,C (.bool x) (.bool y) (x==y))(k5:∀ x y,C (.int x) (.int y) (x==y))
  (k6:∀ x a y b,C (.str x a) (.str y b) (x==y)) (k7:∀ x y,C (.bytes x) (.bytes y) (x==y)) (k8:∀ i j vs us,AK σ i=some vs->AK σ j=some us->vs.length≠us.length->C (.ref i) (.ref j) false)
  (k9:∀ i j vs us l m,AK σ i=some vs->AK σ j=some us->datas vs=some l->datas us=some m->(SeqAt.shaped (.list l)&&SeqAt.shaped (.list m))=true->C (.ref i) (.ref j) (PyData.eqvAll l m)):C v u r:=by
 induction v using PV.casesOn<;>first | exact noS h | (induction u using PV.casesOn<;>first | exact noS h | exact Option.some.inj h▸k1 | exact Option.some.inj h▸k2 _ _ | exact Option.some.inj h▸k3 _ _ | exact Option.some.inj h▸k4 _ _ | exact Option.some.inj h▸k5 _ _ | exact Option.some.inj h▸k6 _ _ _ _ | exact Option.some.inj h▸k7 _ _ | skip)
 rename_i i j
 dsimp only[eqv]at h
 cases e1:AK σ i with
 | none=>rw[e1]at h;exact noS h
 | some vs =>
  cases e2:AK σ j with
  | none=>rw[e1,e2]at h;exact noS h
  | some us =>
   rw[e1,e2]at h
   by_cases hne:vs.length≠us.length
   ·exact Option.some.inj ((if_pos hne).symm.trans h)▸k8 _ _ _ _ e1 e2 hne
   ·replace h:=(if_neg hne).symm.trans h
    cases q1:datas vs with
    | none=>rw[q1]at h;exact noS h
    | some l =>
     cases q2:datas us with
     | none=>rw[q1,q2]at h;exact noS h
     | some m =>
      rw[q1,q2]at h
      by_cases hs:(SeqAt.shaped (.list l)&&SeqAt.shaped (.list m))=true
      ·exact Option.some.inj ((if_pos hs).symm.trans h)▸k9 _ _ _ _ _ _ e1 e2 q1 q2 hs
      ·exact noS ((if_neg hs).symm.trans h)
noncomputable def EqN(g:G)(A:Around)(Z:Value->Shared->Prop)(E:Value->Shared->Prop)(s:Shared)(x y:Value)(r:Bool):Prop:=(Z (.bool r) s->wpAny (model g.prog g.w) A (compareOp .Eq x y) Z E s)/\(Z (.bool (!r)) s->wpAny (model g.prog g.w) A (compareOp .NotEq x y) Z E s)
theorem SV{v u:PV}{x y:Value}{r:Bool}(c:At g fr A σ ρ s)(hu:A.units+70<cLine)(V:VR g s.toks s.heap ρ v x)(U:VR g s.toks s.heap ρ u y)(h:eqv σ v u=some r):EqN g A Z E s x y r:=by
 have R:=c.rel
 revert V U
 refine b0t (C:=fun v u r=>VR g s.toks s.heap ρ v x->VR g s.toks s.heap ρ u y->EqN g A Z E s x y r) h (fun V U=>?_) (fun a oa V U=>?_) (fun a oa V U=>?_) (fun a b V U=>?_) (fun a b V U=>?_) (fun a oa b ob V U=>?_) (fun a b V U=>?_) (fun i j vs us e1 e2 hne V U=>?_) (fun i j vs us l m e1 e2 q1 q2 hs V U=>?_)
 ·exact V.noneI (U.noneI ⟨fun z=>EqNone.eq_none_none z,fun z=>EqNone.ne_none_none z⟩)
 ·exact V.noneI (U.strI fun t _ _=>⟨fun z=>EqNone.eq_none_str z,fun z=>EqNone.ne_none_str z⟩)
 ·exact V.strI fun t _ _=>U.noneI ⟨fun z=>EqNone.eq_str_none z,fun z=>EqNone.ne_str_none z⟩
 ·exact V.boolI (U.boolI ⟨fun z=>eq_bool z,fun z=>ne_bool z⟩)
 ·exact V.intI fun t=>U.intI fun t'=>⟨fun z=>eq_int z,fun z=>ne_int z⟩
 ·exact V.strI fun t _ _=>U.strI fun t' _ _=>⟨fun z=>eq_str z,fun z=>ne_str z⟩
 ·refine V.bytesI fun a t _=>?_
  refine U.bytesI fun b t' _=>?_
  exact⟨fun z=>eq_bytes z,fun z=>ne_bytes z⟩
 ·obtain⟨a,xs,rfl,_,hl,Va,_⟩:=R.list e1 V
  obtain⟨b,ys,rfl,_,hl',Vb,_⟩:=R.list e2 U
  have hsz:(xs.toArray.size != ys.toArray.size)=true:=bne_iff_ne.mpr fun e=>hne (Va.length.trans (e.trans Vb.length.symm))
  exact⟨fun z=>SeqAt.RcAt.lists_lengths hl.isList hl'.isList hsz (by lia) _ _ _ _ z,fun z=>SeqAt.RcNeAt.lists_lengths hl.isList hl'.isList hsz (by lia) _ _ _ _ z⟩
 ·obtain⟨a,xs,rfl,_,hl,Va,_⟩:=R.list e1 V
  obtain⟨b,ys,rfl,_,hl',Vb,_⟩:=R.list e2 U
  refine AR ?_<|OJ Va q1;intro as ra
  refine AR ?_<|OJ Vb q2;intro bs rb
  obtain⟨o,ho,hc,n,hd⟩:=hl.isList
  obtain⟨o',ho',hc',n',hd'⟩:=hl'.isList
  rw[Bool.and_eq_true]at hs
  have r1:Reads s.heap (.ref a) (.list l) _:=reads_list_at ho hc hd (by simpa using ra)
  have r2:Reads s.heap (.ref b) (.list m) _:=reads_list_at ho' hc' hd' (by simpa using rb)
  have e:PyData.eqv (.list l) (.list m)=PyData.eqvAll l m:=by simp[PyData.eqv]
  exact⟨fun z=>eq_dataH r1 r2 hs.1 hs.2 (by lia) (by rw[e];exact z),fun z=>ne_dataH r1 r2 hs.1 hs.2 (by lia) (by rw[e];exact z)⟩
theorem MG(l:List Str)(k:Str):l.any (· == k)=l.contains k:=by
 induction l with
 | nil=>rfl
 | cons a l ih =>
  rw[List.any_cons,List.contains_cons,ih]
  congr 1
  rw[Bool.eq_iff_iff,beq_iff_eq,beq_iff_eq];exact eq_comm
theorem UD(l:List Int)(k:Int):l.any (· == k)=l.contains k:=by
 induction l with
 | nil=>rfl
 | cons a l ih =>
  rw[List.any_cons,List.contains_cons,ih]
  congr 1
  rw[Bool.eq_iff_iff,beq_iff_eq,beq_iff_eq];exact eq_comm
set_option tactic.hygienic true in
theorem a5j{C:PV->PV->Bool->Prop}{v u:PV}{r:Bool}(h:isin σ v u=some r)(k1:∀ x a y b,C (.str x a) (.str y b) (decide (Builtin.Str.occurrences y x 0 y.length 1≠[])))(k2:∀ x a i vs l,AK σ i=some vs->BJ vs=some l->C (.str x a) (.ref i) (l.contains x))
  (k3:∀ x a vs l,BJ vs=some l->C (.str x a) (.tup vs) (l.contains x)) (k4:∀ x vs l,CR vs=some l->C (.int x) (.tup vs) (l.contains x)) (k5:∀ x a kvs,C (.str x a) (.fdict kvs) (DQ x kvs).isSome):C v u r:=by
 induction v using PV.casesOn<;>first | exact noS h | (induction u using PV.casesOn<;>first | exact noS h | exact Option.some.inj h▸k1 _ _ _ _ | exact Option.some.inj h▸k5 _ _ _ | skip)
 ·rename_i x vs
  dsimp only[isin]at h
  cases e:CR vs with
  | none=>rw[e]at h;exact noS h
  | some l=>rw[e]at h;exact Option.some.inj h▸k4 _ _ _ e
 ·rename_i x a vs
  dsimp only[isin]at h
  cases e:BJ vs with
  | none=>rw[e]at h;exact noS h
  | some l=>rw[e]at h;exact Option.some.inj h▸k3 _ _ _ _ e
 ·rename_i x a i
  dsimp only[isin]at h
  cases e1:AK σ i with
  | none=>rw[e1]at h;exact noS h
  | some vs =>
   rw[e1]at h
   dsimp only at h
   cases e:BJ vs with
   | none=>rw[e]at h;exact noS h
   | some l=>rw[e]at h;exact Option.some.inj h▸k2 _ _ _ _ _ e1 e
theorem PY{v u:PV}{x y:Value}{r:Bool}(c:At g fr A σ ρ s)(V:VR g s.toks s.heap ρ v x)(U:VR g s.toks s.heap ρ u y)(h:isin σ v u=some r)
  (z:∀ k,s.toks<=k->Z (.bool r) {s with toks:=k }):wpAny (model g.prog g.w) A (compareOp .In x y) Z E s:=by
 have R:=c.rel
 revert V U z
 refine a5j (C:=fun v u r=>VR g s.toks s.heap ρ v x->VR g s.toks s.heap ρ u y->(∀ k,s.toks<=k->Z (.bool r) {s with toks:=k })->wpAny (model g.prog g.w) A (compareOp .In x y) Z E s) h (fun a oa b ob V U z=>?_) (fun a oa i vs l e1 q V U z=>?_) (fun a oa vs l q V U z=>?_) (fun a vs l q V U z=>?_) (fun k oa kvs V U z=>?_)
 ·refine V.strI fun t _ _=>U.strI fun t' _ _=>P.in_str ?_
  have e:∀ l:List Nat,(!l.isEmpty)=decide (l≠[]):=fun l=>by induction l using List.casesOn<;>simp
  rw[e];exact z s.toks (Nat.le_refl _)
 ·obtain⟨b,xs,rfl,_,hl,Va,_⟩:=R.list e1 U
  exact V.strI fun t _ _=>in_list_strs hl.isList (OV Va q) (by rw[MG];exact z s.toks (Nat.le_refl _))
 ·exact V.strI fun t _ _=>U.tupI fun b xs _ ht hl Va=>in_tuple_strs ht (OV Va q) (by rw[MG];exact z s.toks (Nat.le_refl _))
 ·exact V.intI fun t=>U.tupI fun b xs _ ht hl Va=>in_tuple_ints ht (UU Va q) (by rw[UD];exact z s.toks (Nat.le_refl _))
 ·refine V.strI fun t _ _=>U.fdictI fun b xs hB hs Va=>?_
  refine DP ?_<|id hB;intro o es ep ho r'
  have hD:s.heap.DictOf (PySem.strKind g.prog g.w) _ xs:=⟨o,es,ep,R.base _ _ ho,r'⟩
  refine wpAny_in_of (k:=k) (strKind_is g.prog g.w _ _) hs hD.mapOf ?_
  have q:=Va.at (k:=k)
  cases e1:DQ k kvs with
  | some a =>
   rw[e1]at q z
   revert q;refine AD ?_;intro y e2 _
   rw[e2]
   exact z _ (Nat.le_succ _)
  | none =>
   rw[e1]at q z
   rw[show valueAt xs k=none from q]
   exact z _ (Nat.le_succ _)
theorem a5k{x y:Value}(h:wpAny (model g.prog g.w) A (compareOp .In x y) (fun v s'=>∀ b,v = .bool b->Z (.bool (!b)) s') E s):wpAny (model g.prog g.w) A (compareOp .NotIn x y) Z E s:=by
 intro Γ p hΓ
 have q:=h Γ p hΓ
 have e1:compareOp .In x y=contains y x >>= fun b=>pure (.bool b):=rfl
 have e2:compareOp .NotIn x y=contains y x >>= fun b=>pure (.bool (!b)):=rfl
 rw[e1,Sem.wp_bind']at q
 rw[e2,Sem.wp_bind']
 exact Sem.wp_mono _ Γ _ (fun b p' s' z=>by
  rw[Sem.wp_pure']at z ⊢
  exact z b rfl) (fun _ _ _ z=>z) p s q
theorem SW{T:Nat}{h:Heap}{v:PV}{x:Value}(V:VR g T h ρ v x):(x==Value.none)=isNone v:=by cases V<;>rfl
theorem b0u{C:COp->PV->PV->Prop}{op:COp}{v u:PV}{K:Bool->Prop}(h:opt (cmp σ op v u) K)(k1:∀ r,eqv σ v u=some r->K r->C .eq v u)(k2:∀ r,eqv σ v u=some r->K (!r)->C .ne v u)(k3:∀ x y,K (decide (x<y))->C .lt (.int x) (.int y))(k4:∀ x y,K (decide (x<=y))->C .le (.int x) (.int y))
  (k5:∀ x y,K (decide (x>y))->C .gt (.int x) (.int y)) (k6:∀ x y,K (decide (x>=y))->C .ge (.int x) (.int y)) (k7:K (isNone v)->C .is v .none) (k8:K (!isNone v)->C .isnot v .none) (k9:∀ r,isin σ v u=some r->K r->C .isin v u) (k10:∀ r,isin σ v u=some r->K (!r)->C .notin v u):C op v u:=by
 have two:∀ {o:Option Bool} {f:Bool->Bool} {D:Prop},opt (o.map f) K->(∀ r,o=some r->K (f r)->D)->D:=fun{o} _ _ h k=>by
  induction o using Option.casesOn with
  | none=>exact h.elim
  | some r=>exact k r rfl h
 induction op using COp.casesOn
 ·exact two (f:=id) (by rw[Option.map_id];exact h) k1
 ·exact two h k2
 ·induction v using PV.casesOn<;>first | exact h.elim | (induction u using PV.casesOn<;>first | exact h.elim | exact k3 _ _ h)
 ·induction v using PV.casesOn<;>first | exact h.elim | (induction u using PV.casesOn<;>first | exact h.elim | exact k4 _ _ h)
 ·induction v using PV.casesOn<;>first | exact h.elim | (induction u using PV.casesOn<;>first | exact h.elim | exact k5 _ _ h)
 ·induction v using PV.casesOn<;>first | exact h.elim | (induction u using PV.casesOn<;>first | exact h.elim | exact k6 _ _ h)
 ·induction u using PV.casesOn<;>first | exact k7 h | exact h.elim
 ·induction u using PV.casesOn<;>first | exact k8 h | exact h.elim
 ·exact two (f:=id) (by rw[Option.map_id];exact h) k9
 ·exact two h k10
theorem MH{op:COp}{v u:PV}{x y:Value}(c:At g fr A σ ρ s)(hu:A.units+70<cLine)(V:VR g s.toks s.heap ρ v x)(U:VR g s.toks s.heap ρ u y)
  (h:opt (cmp σ op v u) fun r=>Q (.bool r) σ) (hP:Cont g [] s ρ Q Z):wpAny (model g.prog g.w) A (compareOp (opC op) x y) Z E s:=by
 have R:=c.rel
 have fin:∀ r:Bool,Q (.bool r) σ->Z (.bool r) s:=fun r q=>hP.here R (.bool _) q
 have tok:∀ r:Bool,Q (.bool r) σ->∀ k,s.toks<=k->Z (.bool r) {s with toks:=k }:=fun r q k hk=>hP.tok R hk (.bool _) q
 have V':=V
 have U':=U
 revert V' U'
 refine b0u (C:=fun op v u=>VR g s.toks s.heap ρ v x->VR g s.toks s.heap ρ u y->wpAny (model g.prog g.w) A (compareOp (opC op) x y) Z E s) h (fun r e h _ _=>(SV c hu V U e).1 (fin r h)) (fun r e h _ _=>(SV c hu V U e).2 (fin _ h)) (fun a b h V U=>?_) (fun a b h V U=>?_) (fun a b h V U=>?_) (fun a b h V U=>?_)
  (fun h V U=>?_) (fun h V U=>?_) (fun r e h _ _=>PY c V U e (tok r h)) (fun r e h _ _=>a5k (PY c V U e fun k hk b hb=>by cases hb;exact tok _ h k hk))
 ·exact V.intI fun t=>U.intI fun t'=>lt_int (fin _ h)
 ·exact V.intI fun t=>U.intI fun t'=>P.le_int (fin _ h)
 ·exact V.intI fun t=>U.intI fun t'=>P.gt_int (fin _ h)
 ·exact V.intI fun t=>U.intI fun t'=>P.ge_int (fin _ h)
 ·exact U.noneI (is_none_gen (by rw[SW V];exact fin _ h))
 ·exact U.noneI (PySem.isNot_none (by rw[SW V];exact fin _ h))
noncomputable abbrev ContT(g:G)(s:Shared)(ρ:Rho)(σ:St)(Q:PV->St->Prop)(Z:Value->Shared->Prop):Prop:=∀ y pv k,s.toks<=k->VR g k s.heap ρ pv y->Q pv σ->Z y {s with toks:=k }
theorem ContT.tok(_:Rel g s.toks ρ σ s.heap)(hP:ContT g s ρ σ Q Z){v:PV}{y:Value}{k:Nat}(hk:s.toks<=k)(V:VR g k s.heap ρ v y)(q:Q v σ):Z y {s with toks:=k }:=hP y v k hk V q
theorem ContT.here(_:Rel g s.toks ρ σ s.heap)(hP:ContT g s ρ σ Q Z){v:PV}{y:Value}(V:VR g s.toks s.heap ρ v y)(q:Q v σ):Z y s:=hP y v s.toks (Nat.le_refl _) V q
theorem Cont.toT(hP:Cont g [] s ρ Q Z)(R:Rel g s.toks ρ σ s.heap):ContT g s ρ σ Q Z:=fun y v k hk V q=>hP.tok R hk V q
set_option tactic.hygienic true in
theorem b0v{C:PV->PV->Prop}{v u:PV}{K:PV->Prop}(h:opt (idx σ v u) K)(k1:∀ a k vs,AK σ a=some vs->CF k=true/\opt (at? vs k) K->C (.ref a) (.int k))(k2:∀ vs k,(0<=k/\CF k=true)/\opt (vs[k.toNat]?) K->C (.tup vs) (.int k))
  (k3:∀ b k,(0<=k/\CF k=true)/\opt ((b[k.toNat]?).map fun c=>PV.int (c.toNat:Int)) K->C (.bytes b) (.int k)) (k4:∀ a k t kvs,dictAt σ a=some kvs->opt (DQ k kvs) K->C (.ref a) (.str k t)) (k5:∀ kvs k t,opt (DQ k kvs) K->C (.fdict kvs) (.str k t))
  (k6:∀ x t k,(0<=k/\CF k=true)/\opt ((x.cps[k.toNat]?).map fun c=>PV.str ⟨#[c]⟩ false) K->C (.str x t) (.int k)):C v u:=by
 induction v using PV.casesOn<;>first | exact h.elim | (induction u using PV.casesOn<;>first | exact h.elim | exact k2 _ _ (BW h) | exact k3 _ _ (BW h) | exact k5 _ _ _ h | exact k6 _ _ _ (BW h) | skip)
 ·rename_i a k
  dsimp only[idx]at h
  cases e:AK σ a with
  | none=>rw[e]at h;exact h.elim
  | some vs=>rw[e]at h;exact k1 _ _ _ e (BW h)
 ·rename_i a k t
  dsimp only[idx]at h
  cases e:dictAt σ a with
  | none=>rw[e]at h;exact h.elim
  | some vs=>rw[e]at h;exact k4 _ _ _ _ e h
theorem MI{α:Type}{o:Option α}{K:α->Prop}(h:opt o K):∃ a,o=some a/\K a:=by
 induction o using Option.casesOn with
 | none=>exact h.elim
 | some a=>exact⟨a,rfl,h⟩
theorem YZ{α β:Type}{o:Option α}{f:α->β}{K:β->Prop}(h:opt (o.map f) K):∃ a,o=some a/\K (f a):=by
 induction o using Option.casesOn with
 | none=>exact h.elim
 | some a=>exact⟨a,rfl,h⟩
noncomputable def MJ(g:G)(A:Around)(Z:Value->Shared->Prop)(E:Value->Shared->Prop)(s:Shared)(x y:Value):Prop:=(∃ T id,s.TypeIs x T/\typeLookup (.type T) "__getitem__"=pure (some (.builtin id)))/\wpAny (model g.prog g.w) A (getItem x y) Z E s
theorem SX{a:Addr}{k:Str}{t:Tok}{kvs:List (Str×PV)}{xs:List (Str×Value)}(R:Rel g s.toks ρ σ s.heap)(hD:s.heap.DictOf (strKind g.prog g.w) a xs)(Va:VKs g s.toks s.heap ρ kvs xs)(h:opt (DQ k kvs) fun r=>Q r σ)(hP:ContT g s ρ σ Q Z):MJ g A Z E s (.ref a) (.str k t):=by
 refine AD ?_<|MI h;intro v e2 h
 have q:=Va.at (k:=k)
 rw[e2]at q
 revert q;refine AD ?_;intro y e3 Vy
 exact⟨⟨_,_,hD.mapOf.typeIs,slot_dict_getitem.lookup⟩,wpAny_getItem_of (k:=k) (strKind_is g.prog g.w _ _) hD.mapOf e3 (hP.tok R (Nat.le_succ _) (Vy.mono (Nat.le_succ _) (fun _ _ z=>z) fun _ _ z=>z) h)⟩
theorem SY{v u:PV}{x y:Value}(c:At g fr A σ ρ s)(V:VR g s.toks s.heap ρ v x)(U:VR g s.toks s.heap ρ u y)
  (h:opt (idx σ v u) fun r=>Q r σ) (hP:ContT g s ρ σ Q Z):MJ g A Z E s x y:=by
 have R:=c.rel
 have szl:=sizeLine_eq
 revert V U
 refine b0v (C:=fun v u=>VR g s.toks s.heap ρ v x->VR g s.toks s.heap ρ u y->MJ g A Z E s x y) h (fun o k vs e1 h V U=>?_) (fun vs k h V U=>?_) (fun b k h V U=>?_) (fun o k t kvs e1 h V U=>?_) (fun kvs k t h V U=>?_) (fun a oa k h V U=>?_)
 ·refine U.intI fun tk=>?_
  obtain⟨a,xs,rfl,_,hl,Va,hsz⟩:=R.list e1 V
  refine⟨⟨_,_,hl.isList.typeIs,slot_list_getitem.lookup⟩,?_⟩
  have hf:=fitsI_iff.mp h.1
  have len:=Va.length
  have h:=h.2
  unfold at? at h
  by_cases h0:0<=k
  ·rw[if_pos h0]at h
   refine AD ?_<|MI h;intro a e2 h
   refine AD ?_<|Va.get? e2;intro y hy Vy
   exact wpAny_getItem_list hl.isList h0 (by lia) (by simpa using hy) (hP.here R Vy h)
  ·rw[if_neg h0]at h
   refine oA2 ?_<|BW h;intro h1 h
   refine AD ?_<|MI h;intro a e2 h
   refine AD ?_<|Va.get? e2;intro y hy Vy
   rw[len]at hy h1
   exact wpAny_getItem_list_neg hl.isList (by lia) (by rw[List.size_toArray];lia) (by lia) (by rw[List.size_toArray,List.getElem?_toArray];exact hy) (hP.here R Vy h)
 ·refine U.intI fun tk=>V.tupI fun a xs hzz ht hl Va=>?_
  refine⟨⟨_,_,ht.typeIs,slot_tuple_getitem.lookup⟩,?_⟩
  have hf:=h.1
  rw[fitsI_iff]at hf
  refine AD ?_<|MI h.2;intro a e2 h
  refine AD ?_<|Va.get? e2;intro y hy Vy
  have lt:=(List.getElem?_eq_some_iff.mp hy).1
  exact getItem_tuple (j:=k.toNat) ht (by lia) (by lia) (by unfold seqIndex?;simp;lia) (by simpa using hy) (hP.here R Vy h)
 ·revert h
  refine U.intI fun tk=>?_
  refine V.bytesI fun b t hb h=>?_
  refine⟨⟨_,_,typeIs_bytes _ _ _,FB.slot_bytes_getitem.lookup⟩,?_⟩
  have hf:=h.1
  rw[fitsI_iff]at hf
  refine AD ?_<|YZ h.2;intro a e2 h
  have lt:=(List.getElem?_eq_some_iff.mp e2).1
  rw[Array.length_toList]at lt
  have gd:b.toList.getD k.toNat 0=a:=by rw[List.getD_eq_getElem?_getD,e2];rfl
  suffices q:wpAny (model g.prog g.w) A (getItem (.bytes b.toList.toArray t) (.int k _)) Z E s by rwa [Array.toArray_toList]at q
  exact getItem_bytes (by rw[Array.length_toList];exact ar1) hf.1 (by rw[Array.length_toList];lia) (by rw[gd];exact hP.tok R (Nat.le_succ _) (.int _ _) h)
 ·obtain⟨a,xs,rfl,_,hD,Va,hs⟩:=R.dict e1 V
  exact U.strI fun tk _ _=>SX R hD Va h hP
 ·refine U.strI fun tk _ _=>V.fdictI fun a xs hB hs Va=>?_
  refine DP ?_<|id hB;intro o es ep ho r'
  exact SX R ⟨o,es,ep,R.base _ _ ho,r'⟩ Va h hP
 ·refine U.intI fun tk=>V.strI fun t hx ho=>?_
  refine⟨⟨_,_,typeIs_str _ _ _,PySem.F.slot_str_getitem.lookup⟩,?_⟩
  have hf:=h.1
  rw[fitsI_iff]at hf
  refine AD ?_<|YZ h.2;intro p e2 h
  have lt:=(Array.getElem?_eq_some_iff.mp e2).1
  have hx':a.length=a.cps.size:=rfl
  refine P.getItem_str (c:=p) ?_ ?_ (hP.tok R (Nat.le_succ _) (.str _ false _ (by show 1<=sizeLine;decide) (fun e=>nomatch e)) h)
  ·rw[Bool.or_eq_false_iff,decide_eq_false_iff_not,decide_eq_false_iff_not];lia
  ·unfold seqIndex?
   rw[if_neg (show ¬ k<0 by lia),if_pos (by rw[Bool.and_eq_true,decide_eq_true_iff,decide_eq_true_iff];lia)]
   exact e2
end
end Mine
end
section
open PySem PySem.W PyProof.Rows PySem.Builtin.Str
namespace Mine
set_option tactic.hygienic false
section
variable {g:G}{fr:Bool}{A:Around}{s:Shared}{ρ:Rho}{σ:St}{E:Value->Shared->Prop}{Z:Value->Shared->Prop}{Q:PV->St->Prop}
inductive PartR:Option PV->Value->Prop
 | no:PartR none .none
 | at_ (i:Int) (t:Tok):PartR (some (.int i)) (.int i t)
theorem PartR.is{p:Option PV}{x:Value}{o:Option Int}(h:PartR p x)(e:part p=some o):IsPart x o:=by
 cases h with
 | no=>replace e:=sj e;subst e;exact .none
 | at_ i t=>replace e:=sj e;subst e;exact .int i t
theorem UV(items:Array Value)(lo hi:Option Int) :
  slicePick items lo hi none=((items.toList.drop (lo.elim 0 (clipAt items.size))).take (hi.elim items.size (clipAt items.size)-lo.elim 0 (clipAt items.size))).toArray:=by
 unfold slicePick
 rw[sliceBounds_plain]
 simp only[sliceRange_one,pick_run]
theorem a2g{vs:List PV}{xs:List Value}{T:Nat}{h:Heap}(V:VRs g T h ρ vs xs)(lo hi:Option Int):VRs g T h ρ (BQ vs lo hi) ((slicePick xs.toArray lo hi none).toList):=by
 rw[UV]
 unfold BQ
 have e:xs.toArray.size=vs.length:=by simp[V.length]
 rw[e]
 exact(V.drop _).take _
theorem UW{α:Type}(l:List α)(lo hi:Option Int):(BQ l lo hi).length<=l.length:=by
 unfold BQ;rw[List.length_take,List.length_drop];exact Nat.le_trans (Nat.min_le_right _ _) (Nat.sub_le _ _)
theorem JC{a sl:Addr}{vs:List PV}{xs:List Value}{vl vu:Value}{lo hi:Option Int}(R:Rel g s.toks ρ σ s.heap)(ha:s.heap.IsList a xs.toArray)(Va:VRs g s.toks s.heap ρ vs xs)(hsz:vs.length<=sizeLine)
  (hs:s.heap.IsSliceOf sl vl vu .none) (pl:IsPart vl lo) (pu:IsPart vu hi) (q:Q (.ref σ.length) (σ++[.list (BQ vs lo hi)])) (hP:Cont g [] s ρ Q Z):wpAny (model g.prog g.w) A (getItem (.ref a) (.ref sl)) Z E s:=by
 refine wpAny_getItem_list_slice (hsz:=by simp[← Va.length];exact hsz) ha hs pl pu .none (by simp) ?_
 have V:=a2g Va lo hi
 have:=hP.newList (n:=0) (k:=s.toks) R (Nat.le_refl _) (Nat.le_trans (UW vs lo hi) hsz) V q
 simpa using this
set_option tactic.hygienic true in
theorem a2h{C:PV->Prop}{v:PV}{p q:Option PV}{K:PV×St->Prop}(h:opt (slice σ v p q) K)(k:∀ l u,part p=some l->part q=some u->(∀ x t,K (.str (Txt.slice x l u) t,σ)->C (.str x t))/\(∀ b,K (.bytes (BQ b l u),σ)->C (.bytes b)) ∧
  (∀ a vs,AK σ a=some vs->K (.ref σ.length,σ++[.list (BQ vs l u)])->C (.ref a))/\(∀ vs,K (.ref σ.length,σ++[.list (BQ vs l u)])->C (.flist vs))):C v:=by
 unfold slice at h
 cases e1:part p with
 | none=>rw[e1]at h;exact h.elim
 | some l =>
  cases e2:part q with
  | none=>rw[e1,e2]at h;exact h.elim
  | some u =>
   rw[e1,e2]at h
   refine oA4 ?_<|k l u e1 e2;intro k1 k2 k3 k4
   induction v using PV.casesOn<;>first | exact h.elim | exact k1 _ _ h | exact k2 _ h | exact k4 _ h | skip
   rename_i a
   dsimp only at h
   cases e:AK σ a with
   | none=>rw[e]at h;exact h.elim
   | some vs=>rw[e]at h;exact k3 _ _ e h
theorem ZA{y:Value}{o:Option Int}(hp:IsPart y o):∃ lo:Option (Int×Tok),o=lo.map (·.1)/\y=partValue lo:=by
 cases hp with
 | none=>exact⟨none,rfl,rfl⟩
 | int i t=>exact⟨some (i,t),rfl,rfl⟩
set_option tactic.hygienic true in
theorem YL{v:PV}{p q:Option PV}{x xl xu:Value}{sl:Addr}(c:At g fr A σ ρ s)(V:VR g s.toks s.heap ρ v x)(hl:PartR p xl)(hu:PartR q xu)(hs:s.heap.IsSliceOf sl xl xu .none)
  (h:opt (slice σ v p q) fun r=>Q r.1 r.2) (hP:Cont g [] s ρ Q Z):MJ g A Z E s x (.ref sl):=by
 have R:=c.rel
 revert V
 refine a2h (C:=fun v=>VR g s.toks s.heap ρ v x->MJ g A Z E s x (.ref sl)) h fun l u e1 e2=>?_
 have il:=hl.is e1
 have iu:=hu.is e2
 refine⟨fun x own h V=>?_,fun b h V=>?_,fun a vs e3 h V=>?_,fun vs h V=>?_⟩
 ·refine V.strI fun t hx ho=>⟨⟨_,_,typeIs_str _ _ _,PySem.F.slot_str_getitem.lookup⟩,?_⟩
  refine AD ?_<|ZA il;rintro lo rfl rfl
  refine AD ?_<|ZA iu;rintro hi rfl rfl
  have hS:s.heap.IsSlice sl lo hi none:=by
   revert hs;refine IY ?_;intro o ho' hc hd
   exact⟨o,ho',hc,hd⟩
  refine wpAny_getItem_str_slice hS rfl ?_
  have e3:sliceMade x t lo hi none=(if((1:Int)==1&&(strSliceIndices (lo.map (·.1)) (hi.map (·.1)) 1 x.length).length==x.length)=true then Made.val (.str x t)else Made.str ⟨((strSliceIndices (lo.map (·.1)) (hi.map (·.1)) 1 x.length).filterMap (x.cps[·]?)).toArray⟩):=rfl
  rw[e3]
  have hle:=Txt.slice_le x (lo.map (·.1)) (hi.map (·.1))
  unfold Txt.slice at h hle
  split
  ·rename_i hc
   rw[if_pos hc]at h
   exact hP.here R (.str _ _ _ hx ho) h
  ·rename_i hc
   rw[if_neg hc]at h hle
   exact⟨Nat.le_trans hle hx,hP.tok R (Nat.le_succ _) (.str _ _ _ (Nat.le_trans hle hx) fun _=>⟨Nat.ne_of_gt c.toks,Nat.lt_succ_self _⟩) h⟩
 ·revert h
  refine V.bytesI fun b t hb h=>?_
  refine⟨⟨_,_,typeIs_bytes _ _ _,FB.slot_bytes_getitem.lookup⟩,wpAny_with_toks (n:=s.toks) (Nat.le_refl _) ?_⟩
  refine getItem_meets (typeIs_bytes _ _ _) (by decide) FB.slot_bytes_getitem FB.entry_bytes_getitem (FB.args_bytes_getitem_2 _ _) (KBc.meets_slice2 b t _ il iu) ⟨hs,Nat.le_trans (KBc.size_picked_le b l u) hb,fun t' k hk=>?_⟩
  have e:BQ b.toList l u=(KBy.picked b l u).toList:=by
   rw[KBc.picked_eq];unfold BQ;rw[Array.length_toList]
  rw[e]at h
  exact hP.tok R hk (.bytes _ _ (Nat.le_trans (KBc.size_picked_le b l u) hb)) h
 ·obtain⟨a,xs,rfl,_,hl',Va,hsz⟩:=R.list e3 V
  exact⟨⟨_,_,hl'.isList.typeIs,slot_list_getitem.lookup⟩,JC R hl'.isList Va hsz hs il iu h hP⟩
 ·refine V.flistI fun a xs hB hl' Va=>?_
  refine AD ?_<|id hB;intro o ho r
  have hL:s.heap.IsList a xs.toArray:=⟨o,R.base _ _ ho,r⟩
  exact⟨⟨_,_,hL.typeIs,slot_list_getitem.lookup⟩,JC R hL Va (by rw[Va.length];exact hl') hs il iu h hP⟩
end
end Mine
end
section
open PySem PySem.W PyProof.Rows
namespace Mine
set_option tactic.hygienic false
structure ClsOk(g:G)(c:Nat):Prop where
 plain:plainGet g.K (g.ca c) ""=true
 has:hasDictIn g.K (g.ca c)=true
 setat:findIn g.K (.ref (g.ca c)) "__setattr__"=some (some (.builtin "object.__setattr__"))
 over:plainOver g.K (g.ca c)=true
 makes:makesIn g.K (g.ca c)=true
 keep:keepIn g.K (.ref (g.ca c))=true
 init:findIn g.K (.ref (g.ca c)) "__init__"=some (some (.ref (g.fa (inits c))))
 initf:typeIn g.K (.ref (g.fa (inits c)))=some (.type "function")
noncomputable def strn(l:List (String×Nat)):List (Str×Nat):=l.map fun p=>(Str.ofString p.1,p.2)
noncomputable def fnames:List (Str×Nat):=strn [("octets_of",1),("config_is_letter",2),("config_is_sign",3),("config_section",4),("config_header",5),("refspec_side",32),("refspec_rest",33),("refspec_map",34),("_law_heads",35),("_law_rows",36),("_law_news",37),
 ("_law_parts",38),("_law_names",39),("_law_odd",40),("_law_deck",41),("_law_draw",42),("_law_octets",43),("_law_written",44),("_law_items",45),("_law_bracket",46),("_law_same",47),("_law_sections_right",48),("_law_cut",49),("_law_side",50),("_law_spec",51),("_law_specs_right",52)]
noncomputable def cnames:List (Str×Nat):=strn [("ConfigPiece",3),("ConfigReader",4),("Config",5),("RefSpec",6)]
noncomputable def gnames:List (Str×Nat):=strn [("_law_sections",0),("CONFIG_WHITE",1),("CONFIG_ESCAPES",2)]
noncomputable def bnames:List (Str×Value):=[("len",.builtin "len"),("ord",.builtin "ord"),("chr",.builtin "chr"),("bytes",.type "bytes"),("int",.type "int"),("tuple",.type "tuple"),("list",.type "list"),("range",.type "range"),("zip",.type "zip")].map fun(p:String×Value)=>(Str.ofString p.1,p.2)
structure Ok(g:G):Prop where
 kin:g.K.In g.B
 lim:g.B.NoLimit
 cls:∀ c,c=3\/c=4\/c=5\/c=6->ClsOk g c
 fld:∀ c k,GZ c k=true->findIn g.K (.ref (g.ca c)) (nm k)=some none
 glob:∃ mg mb,g.B.Ns mainGlobals mg/\g.B.Ns builtinsNs mb/\(∀ p∈fnames,mg p.1=some (.ref (g.fa p.2)))/\(∀ p∈cnames,mg p.1=some (.ref (g.ca p.2))) ∧
  (∀ p∈gnames,∃ v,mg p.1=some v/\∀ Z T h ρ,(∀ b o,g.B.get? b=some o->h.get? b=some o)->(∀ z∈Z,g.B.get? z=none)->VR (g.at Z) T h ρ (glv p.2) v)/\∀ p∈bnames,mg p.1=none/\mb p.1=some p.2
 fnk:∀ p∈fnames,keepIn g.K (.ref (g.fa p.2))=true
 mths:∀ p∈meths,findIn g.K (.ref (g.ca p.1)) (nm p.2.1)=some (some (.ref (g.fa p.2.2)))/\typeIn g.K (.ref (g.fa p.2.2))=some (.type "function")/\keepIn g.K (.ref (g.fa p.2.2))=true
theorem SZ{c k:Nat}(h:GZ c k=true):c=3\/c=4\/c=5\/c=6:=by
 refine AD ?_<|List.any_eq_true.mp h;intro p hp e
 rw[Bool.and_eq_true,beq_iff_eq]at e
 exact e.1▸(show ∀ p∈flds,p.1=3\/p.1=4\/p.1=5\/p.1=6 from by decide) p hp
section
variable {g:G}{fr:Bool}{A:Around}{s:Shared}{ρ:Rho}{σ:St}{E:Value->Shared->Prop}{Z:Value->Shared->Prop}{Q:PV->St->Prop}
theorem Rel.kin(hg:Ok g)(R:Rel g T ρ σ h):g.K.In h:=fun a o e=>R.base a o (hg.kin a o e)
theorem VR.handed{T:Nat}{h:Heap}{v:PV}{x:Value}(V:VR g T h ρ v x):handedIn x=true:=by cases V<;>rfl
theorem NP{x d:Addr}{C:Addr}{h:Heap}{es:List DictEntry}{n:Nat}(h1:h.get? x=some (instObj C d))(h2:h.get? d=some (dictOf es n)):InstAt h x (instObj C d) C (some (dictOf es n)) :=
 ⟨h1,rfl,rfl,h2⟩
set_option tactic.hygienic true in
theorem a5l{v:PV}{k:Nat}{K:PV->Prop}(h:opt (attr σ v k) K):∃ i c fs u,v = .ref i/\instAt σ i=some (c,fs)/\GZ c k=true/\get k fs=some u/\K u:=by
 induction v using PV.casesOn<;>try exact h.elim
 rename_i i
 dsimp only[attr]at h
 cases e:instAt σ i with
 | none=>rw[e]at h;exact h.elim
 | some p =>
  rw[e]at h
  refine oA2 ?_<|BW h;intro h1 h
  refine AD ?_<|MI h;intro u h2 h
  exact⟨i,p.1,p.2,u,rfl,e,h1,h2,h⟩
set_option tactic.hygienic true in
theorem YM{v u:PV}{k:Nat}{K:St->Prop}(h:opt (setAttr σ v k u) K):∃ i c fs,v = .ref i/\instAt σ i=some (c,fs)/\GZ c k=true/\fs.length<100/\K (σ.set i (.inst c (put k u fs))):=by
 induction v using PV.casesOn<;>try exact h.elim
 rename_i i
 dsimp only[setAttr]at h
 cases e:instAt σ i with
 | none=>rw[e]at h;exact h.elim
 | some p =>
  rw[e]at h
  refine oA2 ?_<|BW h;intro h1 h
  exact⟨i,p.1,p.2,rfl,e,h1.1,h1.2,h⟩
set_option tactic.hygienic true in
theorem YN{v kk u:PV}{K:St->Prop}(h:opt (setItem σ v kk u) K):∃ i k t kvs,v = .ref i/\kk = .str k t/\dictAt σ i=some kvs/\fits kvs.length=true/\K (σ.set i (.dict (IZ k u kvs))):=by
 induction v using PV.casesOn<;>try exact h.elim
 induction kk using PV.casesOn<;>try exact h.elim
 rename_i i k t
 dsimp only[setItem]at h
 cases e:dictAt σ i with
 | none=>rw[e]at h;exact h.elim
 | some kvs =>
  rw[e]at h
  refine oA2 ?_<|BW h;intro h1 h
  exact⟨i,k,t,kvs,rfl,rfl,e,h1,h⟩
theorem a0g(hg:Ok g){v:PV}{x:Value}{k:Nat}{ex:Bool}(c:At g fr A σ ρ s)(V:VR g s.toks s.heap ρ v x)(h:opt (attr σ v k) fun r=>Q r σ)(hP:Cont g [] s ρ Q Z) :
  wpAny (model g.prog g.w) A (getAttr x (nm k) ex) Z E s:=by
 have R:=c.rel
 obtain⟨i,cc,fs,u,rfl,e1,hf,e2,h⟩:=a5l h
 have C:=hg.cls cc (SZ hf)
 obtain⟨x,d,es,n,rfl,_,h1,h2,F,_⟩:=R.inst e1 V
 have q:=F.at (k:=k)
 rw[e2]at q
 revert q;refine AD ?_;intro y hy Vy
 exact get_value (R.kin hg) (NP h1 h2) (plainGet_of C.plain).1 (findObj_own C.has (hg.fld cc k hf) rfl hy) Vy.handed (hP.tok R (Nat.le_succ _) (Vy.mono (Nat.le_succ _) (fun _ _ z=>z) fun _ _ z=>z) h)
theorem UX{name:Str}{hsh:Int}{key v:Value}:∀ es:List DictEntry,(putL name hsh key v es).length<=es.length+1
 | []=>Nat.le_refl _
 | e::r=>by
  unfold putL
  split
  ·exact Nat.le_succ _
  ·exact Nat.succ_le_succ (UX r)
theorem IsTup.but{h h':Heap}{d a:Addr}{zs:Array Value}(hs:Heap.SameBut d h h')(nt:∀ zs,¬ IsTup h d zs)(ht:IsTup h a zs):IsTup h' a zs:=by
 refine AD ?_<|id ht;intro o ho r
 exact⟨o,(hs.2 a fun e=>nt zs (e▸ht)).trans ho,r⟩
set_option tactic.hygienic true in
theorem a2i{R:Result->Shared->Prop}{x d C:Addr}{es:List DictEntry}{n:Nat}{name:Str}{tk:Tok}{v:Value}(X:g.K.In s.heap)(h1:s.heap.get? x=some (instObj C d))(h2:s.heap.get? d=some (dictOf es n))
  (hp:plainOver g.K C=true) (ht:takerIn g.K C name=some none) (hh:hasDictIn g.K C=true) (hl:(getL name es).isSome=true) (hz:(putL name (PyData.keyHash g.w.params name) (.str name s.toks) v es).length<=1000)
  (h:∀ h',h'.get? d=some (dictOf (putL name (PyData.keyHash g.w.params name) (.str name s.toks) v es) (putN name es n))->Heap.SameBut d s.heap h'->R (.ok (.ret .none)) {s with heap:=h',toks:=s.toks+1 }) :
  codeAny (model g.prog g.w) A (.call (.builtin "object.__setattr__") ⟨[.ref x,.str name tk,v],[]⟩) R s:=by
 refine osa_open X (NP h1 h2) hp ht fun b=>?_
 refine AD ?_<|any_some hh;intro cd hc hd
 have e:=putName_dict name (PyData.keyHash g.w.params name) (.str name s.toks) v es n
 have D':(s.heap.update d (Obj.putName name (PyData.keyHash g.w.params name) (.str name s.toks) v)).get? d=some (dictOf (putL name (PyData.keyHash g.w.params name) (.str name s.toks) v es) (putN name es n)):=by
  rw[← e]
  exact Heap.get?_update_self _ h2 (by rw[e];rfl)
 refine wpAny_bind (wpAny_pure (wpAny_bind (wpAny_bind (wpAny_loadPart h1 (wpAny_bind ((looks_clsIn X hc).here ?_))))))
 rw[hd]
 refine wpAny_pure (a:=some d) (wpAny_bind (wpAny_pure (wpAny_bind ?_)))
 unfold nsSet
 refine wpAny_bind (wpAny_bind (wpAny_askSetting (wpAny_pure (wpAny_bind (wpAny_mkText (wpAny_bind (wpAny_loadPart h2 ?_)))))))
 have cnd:(!(es.toArray.any (·.key.isStr name))&&es.toArray.any (·.refKey))=false:=by
  unfold getL at hl
  rw[← Array.any_toList,← Array.any_toList]
  split at hl
  ·rename_i en he
   have:es.toArray.toList.any (·.key.isStr name)=true:=List.any_eq_true.mpr ⟨en,List.mem_of_find?_eq_some he,by have z:=List.find?_some he;exact z⟩
   rw[this];rfl
  ·split at hl
   ·exact noF hl
   ·rename_i z
    rw[Bool.not_eq_true]at z
    have:es.toArray.toList.any (·.refKey)=false:=z
    rw[this,Bool.and_false]
 dsimp only
 rw[aRefKeyMayBeTheName_at,cnd]
 refine wpAny_updatePart h2 ?_
 refine wpAny_bind (wpAny_lookBehind D' (pastItsLine_dict (by rw[List.size_toArray,sizeLine_eq];exact ar1)) ?_)
 exact wpAny_pure (h _ D' (Heap.SameBut.update ..))
theorem UE(hg:Ok g){v u:PV}{x y:Value}{k:Nat}{Q:St->Prop}{Z:Unit->Shared->Prop}(c:At g fr A σ ρ s)(V:VR g s.toks s.heap ρ v x)(U:VR g s.toks s.heap ρ u y)(h:opt (setAttr σ v k u) fun r=>Q r)
  (hP:∀ s' ρ' σ',Post g [] s ρ s' ρ' σ'->Q σ'->Z () s'):wpAny (model g.prog g.w) A (PySem.setAttr x (nm k) y) Z E s:=by
 have R:=c.rel
 obtain⟨i,cc,fs,rfl,e1,hf,hlen,h⟩:=YM h
 have C:=hg.cls cc (SZ hf)
 obtain⟨x,d,es,n,rfl,hi,h1,h2,F,_⟩:=R.inst e1 V
 refine set_plain (R.kin hg) (NP h1 h2) C.setat ?_
 have hl:(getL (nm k) es).isSome=true:=by
  have q:=F.at (k:=k)
  cases e:get k fs with
  | some a=>rw[e]at q;revert q;refine AD ?_;intro y hy _;rw[hy];rfl
  | none=>rw[e]at q;rw[show getL (nm k) es=_ from q];rfl
 refine a2i (s:={s with toks:=s.toks+1 }) (R.kin hg) h1 h2 C.over (by unfold takerIn;rw[hg.fld cc k hf];rfl) C.has hl (Nat.le_trans (UX es) (by rw[F.length];exact ar2)) fun h' hd hs=>?_
 have nt:∀ zs,¬ IsTup s.heap d zs:=fun zs ht=>(R.out_tup ht (x,d) (List.mem_of_getElem? hi)).2 rfl
 have tups:∀ a zs,IsTup s.heap a zs->IsTup h' a zs:=fun a zs ht=>IsTup.but hs nt ht
 have ap:x≠d:=by rintro rfl;rw[h1]at h2;replace h2:=sj h2;cases h2
 have F':FR g (s.toks+1+1) h' ρ (put k u fs) (putL (nm k) (PyData.keyHash g.w.params (nm k)) (.str (nm k) (s.toks+1)) y es) :=
  FR.put (U.mono (by lia) tups fun _ _ z=>z) (F.mono (by lia) tups fun _ _ z=>z)
 refine hP _ ρ (σ.set i (.inst cc (put k u fs))) ⟨R.change (by show s.toks<=s.toks+1+1;lia) hi (.inr rfl) hs ⟨Nat.le_trans (YX fs) (by lia),_,_,(hs.2 x ap).trans h1,hd,F'⟩,Grow.change hi (.inr rfl) hs (fun _=>⟨_,_,_,hd,rfl⟩),(by show s.toks<=s.toks+1+1;lia),⟨rfl,rfl,rfl⟩⟩ h
theorem UF{v u kk:PV}{x y ky:Value}{Q:St->Prop}{Z:Unit->Shared->Prop}(c:At g fr A σ ρ s)(V:VR g s.toks s.heap ρ v x)(Kv:VR g s.toks s.heap ρ kk ky)(U:VR g s.toks s.heap ρ u y)(h:opt (setItem σ v kk u) fun r=>Q r)
  (hP:∀ s' ρ' σ',Post g [] s ρ s' ρ' σ'->Q σ'->Z () s'):wpAny (model g.prog g.w) A (PySem.setItem x ky y) Z E s:=by
 have R:=c.rel
 obtain⟨i,k,own,kvs,rfl,rfl,e1,hf,h⟩:=YN h
 obtain⟨d,xs,rfl,hi,hD,Va,hs⟩:=R.dict e1 V
 refine Kv.strI fun t _ _=>?_
 have hlen:xs.length=kvs.length:=by have:=congrArg List.length Va.keys;rwa [List.length_map,List.length_map,eq_comm]at this
 have hn:(xs.map (·.1)).Nodup:=by obtain⟨_,_,_,_,_,_,_,_,q⟩:=hD;exact q
 refine wpAny_setItem_pairs (k:=k) (hsz:=by rw[hlen];exact CA hf) (strKind_is g.prog g.w _ _) hD fun h' hD' hsb=>?_
 have tups:∀ a zs,IsTup s.heap a zs->IsTup h' a zs:=fun a zs ht=>IsTup.but hsb (fun zs ht=>(R.out_tup ht (d,d) (List.mem_of_getElem? hi)).1 rfl) ht
 refine hP _ ρ (σ.set i (.dict (IZ k u kvs))) ⟨R.change (Nat.le_succ _) hi (.inl rfl) hsb ⟨rfl,hs,_,hD',VKs.put (U.mono (Nat.le_succ _) tups fun _ _ z=>z) (Va.mono (Nat.le_succ _) tups fun _ _ z=>z) hn⟩,
  Grow.change hi (.inl rfl) hsb (fun _=>by obtain⟨o,es,ep,a,_,b,_⟩:=hD';exact⟨o,es,ep,a,b⟩),Nat.le_succ _,⟨rfl,rfl,rfl⟩⟩ h
end
section
variable {prog:Program}{w:World}{A:Around}{s:Shared}{fr:Bool}{E:Value->Shared->Prop}
theorem UG:entryFor table "proto.unchain"=some Builtin.«proto.unchain» := by first | exact entryFor_of_fast (by kernel_rfl) | exact entryFor_of_tree (by kernel_rfl)
theorem YO{α:Type}{Q:α->Shared->Prop}(H:HOk fr A s.heap){ea:Addr}{oe:Obj}{vs:Array Value}(he:s.heap.get? ea=some oe)(hd:oe.data = .fields vs)(hz:2<vs.size)
  (h:∀ h',Heap.SameBut ea s.heap h'->(∃ o',h'.get? ea=some o'/\o'.cls=oe.cls)->E (.ref ea) {s with heap:=h' }):wpAny (model prog w) A (raiseNew (.ref ea):Sem α) Q E s:=by
 have h0:E (.ref ea) s:=h s.heap (Heap.SameBut.refl _ _) ⟨oe,he,rfl⟩
 rcases H with H | ⟨_,eh,oh,ws,h1,h2,h3,h4⟩
 ·unfold raiseNew
  refine wpAny_bind (wpAny_handled ?_)
  rw[H]
  exact wpAny_bind (wpAny_pure (wpAny_throw h0))
 ·unfold raiseNew
  refine wpAny_bind (wpAny_handled ?_)
  rw[h1]
  dsimp only
  by_cases hne:(Value.ref eh != Value.ref ea)=true
  ·rw[if_pos hne]
   have upd:E (.ref ea) {s with heap:=s.heap.update ea (Obj.mapFields (·.setIfInBounds 2 (.ref eh))) } :=
    h _ (Heap.SameBut.update ..) ⟨_,Heap.get?_update_self _ he (Obj.isFreed_of_fields (Obj.data_mapFields hd _)),Obj.cls_mapFields ..⟩
   refine wpAny_bind (wpAny_holding (wpAny_runValue (codeAny_builtin UG ?_)))
   show wpAny _ _ (field (.ref eh) 2 >>= _) _ _ s
   refine wpAny_bind (wpAny_field h2 h3 h4 ?_)
   show wpAny _ _ (ret .none) _ _ s
   refine wpAny_pure ?_
   show wpAny _ _ (updateField ea 2 (.ref eh) >>= fun _=>throw (.ref ea)) _ _ s
   unfold updateField
   refine wpAny_bind (wpAny_bind (wpAny_load he ?_))
   rw[hd]
   dsimp only
   rw[if_pos hz]
   exact wpAny_update he (wpAny_throw upd)
  ·rw[if_neg hne]
   exact wpAny_bind (wpAny_pure (wpAny_throw h0))
theorem RV{α:Type}{Q:α->Shared->Prop}(H:HOk fr A s.heap)
  (h:∀ h' ea o,(∀ b o,s.heap.get? b=some o->h'.get? b=some o)->s.heap.objs.size<=h'.objs.size->h'.get? ea=some o->o.cls = .type "StopIteration"->E (.ref ea) {s with heap:=h' }) :
  wpAny (model prog w) A (do raiseNew (← newExc (.type "StopIteration") []):Sem α) Q E s:=by
 refine wpAny_bind ?_
 simp only[newExc,newTuple]
 refine wpAny_bind (wpAny_newObj_type ?_ (by size_fits))
 refine wpAny_bind (m:=firstArgMember _ _) (wpAny_of_eq (a:=Value.none) (by first | rfl | (simp only[firstArgMember];rfl)) ?_)
 refine wpAny_newObj_type ?_ (by size_fits)
 have H':∀ o₁ o₂,HOk fr A ((s.heap.push o₁).push o₂):=fun o₁ o₂=>by
  rcases H with H | ⟨h0,eh,oh,ws,h1,h2,h3,h4⟩
  ·exact .inl H
  ·exact .inr ⟨h0,eh,oh,ws,h1,Heap.get?_push_of_some _ (Heap.get?_push_of_some _ h2),h3,h4⟩
 refine YO (H' _ _) (Heap.get?_push_size _ rfl) rfl (by simp;lia) fun h' hs ⟨o',ho',hc⟩=>?_
 have ne:∀ b o,s.heap.get? b=some o->b≠s.heap.objs.size+1:=fun b o e=>Nat.ne_of_lt (Nat.lt_succ_of_lt (Heap.lt_size e))
 refine h h' _ o' (fun b o e=>?_) (by rw[hs.1,Heap.size_push,Heap.size_push];lia) ho' hc
 refine(hs.2 b ?_).trans (Heap.get?_push_of_some _ (Heap.get?_push_of_some _ e))
 rw[Heap.size_push]
 exact ne b o e
theorem MC{it l:Addr}{i:Nat}{items:Array Value}{Q:Option Value->Shared->Prop}(H:HOk fr A s.heap)(hit:s.heap.IsListIter it l i)(hl:s.heap.IsList l items)(hx:items[i]? = none)
  (hQ:∀ h',Heap.ExtBut it s.heap h'->s.heap.objs.size<=h'.objs.size->Q none {s with heap:=h' }):wpAny (model prog w) A (pyNext (.ref it)) Q E s:=by
 refine IY ?_<|id hit;intro o ho hc hd
 obtain⟨ol,hol,_,nl,hdl⟩:=hl
 unfold pyNext
 refine wpAny_bind (wpAny_attempt (wpAny_callSpecial?_slot (name:=Str.ofString "__next__") hit.typeIs slot_listiter_next
  (wpAny_call_entry slot_listiter_next hit.typeIs entry_listiter_next ?_ (args_listiter_next _))))
 show wpAny _ _ (field (.ref it) 0 >>= _) _ _ s
 refine wpAny_bind (wpAny_field ho hd (x:=.ref l) rfl ?_)
 show wpAny _ _ (if(Value.ref l==Value.none)=true then _ else _) _ _ s
 rw[if_neg (show ¬ ((Value.ref l==Value.none)=true) from Bool.false_ne_true)]
 show wpAny _ _ (field (.ref it) 1 >>= _) _ _ s
 refine wpAny_bind (wpAny_field ho hd (x:=.int i 0) rfl ?_)
 show wpAny _ _ (seqItems? (.ref l) >>= _) _ _ s
 refine wpAny_bind (wpAny_seqItems hol hdl ?_)
 simp only[Int.toNat_natCast,hx]
 refine wpAny_bind (wpAny_rule (wpAny_bind (wpAny_setField ho hd (by simp) ?_)))
 have H':HOk fr A.in1 (s.heap.update it (Obj.mapFields (·.setIfInBounds 0 .none))):=by
  rcases H with H | ⟨h0,eh,oh,ws,h1,h2,h3,h4⟩
  ·exact .inl H
  ·by_cases q:eh=it
   ·subst q
    rw[h2]at ho;replace ho:=sj ho;subst ho
    rw[h3]at hd;cases hd
    simp at h4
   ·exact .inr ⟨h0,eh,oh,ws,h1,(Heap.get?_update_other _ _ (Ne.symm q)).trans h2,h3,h4⟩
 refine RV (s:={s with heap:=s.heap.update it (Obj.mapFields (·.setIfInBounds 0 .none)) }) H' fun h' ea o' k ks he hec=>?_
 refine wpAny_bind (wpAny_isInstance (T:="StopIteration") (b:=true) ⟨o',he,hec⟩ isSubtype_stop ?_)
 exact wpAny_pure (hQ h' (fun b o e1 e2=>k b o ((Heap.get?_update_other _ _ (Ne.symm e1)).trans e2)) (by simpa using ks))
theorem ZB{it:Addr}{o:Obj}{vs:Array Value}{i:Nat}{x:Value}(H:HOk fr A s.heap)(ho:s.heap.get? it=some o)(hd:o.data = .fields vs)(h2:vs[2]? ≠ some .none):HOk fr A (s.heap.update it (Obj.mapFields (·.setIfInBounds i x))):=by
 rcases H with H | ⟨h0,eh,oh,ws,h1,h2',h3,h4⟩
 ·exact .inl H
 ·by_cases q:eh=it
  ·subst q
   rw[h2']at ho;replace ho:=sj ho;subst ho
   rw[h3]at hd;cases hd
   exact absurd h4 h2
  ·exact .inr ⟨h0,eh,oh,ws,h1,(Heap.get?_update_other _ _ (Ne.symm q)).trans h2',h3,h4⟩
theorem UY{it:Addr}{x:Str}{t:Tok}{i:Nat}{Q:Option Value->Shared->Prop}(H:HOk fr A s.heap)(hit:s.heap.IsStrIter it (strIterType x) x t i)(hx:x.cps[i]? = none)
  (hQ:∀ h',Heap.ExtBut it s.heap h'->s.heap.objs.size<=h'.objs.size->Q none {s with heap:=h' }):wpAny (model prog w) A (pyNext (.ref it)) Q E s:=by
 refine IY ?_<|id hit;intro o ho hc hd
 have fin:wpAny (model prog w) A.in1 (do raiseNew (← newExc (.type "StopIteration") []):Sem Fin) (fun _ _=>False)
   (fun e s'=>wpAny (model prog w) A (do if ← isInstance e (.type "StopIteration")then pure none else throw e:Sem (Option Value)) Q E s')
   {s with heap:=s.heap.update it (Obj.mapFields (·.setIfInBounds 0 .none)) }:=by
  refine RV (s:={s with heap:=s.heap.update it (Obj.mapFields (·.setIfInBounds 0 .none)) }) (ZB (A:=A) H ho hd (by simp)) fun h' ea o' k ks he hec=>?_
  refine wpAny_bind (wpAny_isInstance (T:="StopIteration") (b:=true) ⟨o',he,hec⟩ isSubtype_stop ?_)
  exact wpAny_pure (hQ h' (fun b o e1 e2=>k b o ((Heap.get?_update_other _ _ (Ne.symm e1)).trans e2)) (by simpa using ks))
 cases ha:x.cps.all (· < 128)
 ·have e1:strIterType x="str_iterator":=by simp[strIterType,ha]
  rw[e1]at hit
  unfold pyNext
  refine wpAny_bind (wpAny_attempt (wpAny_callSpecial?_slot (name:=Str.ofString "__next__") hit.typeIs PySem.F.slot_str_iterator_next
   (wpAny_call_entry PySem.F.slot_str_iterator_next hit.typeIs PySem.F.entry_str_iterator_next ?_ (PySem.F.args_str_iterator_next_1 _))))
  show wpAny _ _ (field (.ref it) 0 >>= _) _ _ s
  refine wpAny_bind (wpAny_field ho hd (x:=.str x t) rfl ?_)
  show wpAny _ _ (field (.ref it) 1 >>= _) _ _ s
  refine wpAny_bind (wpAny_field ho hd (x:=.int i 0) rfl ?_)
  simp only[Int.toNat_natCast,hx]
  refine wpAny_bind (wpAny_rule (wpAny_bind (wpAny_setField ho hd (by simp) (wpAny_bind (wpAny_letGo ?_)))))
  exact wpAny_mono fin (fun _ _ f=>f.elim) fun _ _ z=>z
 ·have e1:strIterType x="str_ascii_iterator":=by simp[strIterType,ha]
  rw[e1]at hit
  unfold pyNext
  refine wpAny_bind (wpAny_attempt (wpAny_callSpecial?_slot (name:=Str.ofString "__next__") hit.typeIs PySem.F.slot_str_ascii_iterator_next
   (wpAny_call_entry PySem.F.slot_str_ascii_iterator_next hit.typeIs PySem.F.entry_str_ascii_iterator_next ?_ (PySem.F.args_str_ascii_iterator_next_1 _))))
  show wpAny _ _ (field (.ref it) 0 >>= _) _ _ s
  refine wpAny_bind (wpAny_field ho hd (x:=.str x t) rfl ?_)
  show wpAny _ _ (field (.ref it) 1 >>= _) _ _ s
  refine wpAny_bind (wpAny_field ho hd (x:=.int i 0) rfl ?_)
  simp only[Int.toNat_natCast,hx]
  refine wpAny_bind (wpAny_rule (wpAny_bind (wpAny_setField ho hd (by simp) (wpAny_bind (wpAny_letGo ?_)))))
  exact wpAny_mono fin (fun _ _ f=>f.elim) fun _ _ z=>z
theorem UH{it:Addr}{x:Str}{t:Tok}{i c:Nat}{Q:Option Value->Shared->Prop}(hit:s.heap.IsStrIter it (strIterType x) x t i)(hx:x.cps[i]? = some c)
  (hQ:∀ h',h'.IsStrIter it (strIterType x) x t (i+1)->Heap.SameBut it s.heap h'->Q (some (.str ⟨#[c]⟩ s.toks)) {s with heap:=h',toks:=s.toks+1 }):wpAny (model prog w) A (pyNext (.ref it)) Q E s:=by
 cases ha:x.cps.all (· < 128)
 ·have e1:strIterType x="str_iterator":=by simp[strIterType,ha]
  rw[e1]at hit hQ
  exact wpAny_pyNext_wide_item hit hx hQ
 ·have e1:strIterType x="str_ascii_iterator":=by simp[strIterType,ha]
  rw[e1]at hit hQ
  exact wpAny_pyNext_ascii_item hit hx hQ
theorem HC{α:Type}{M:Model}{c:Bool}{a b:Sem α}{Q:α->Shared->Prop}(hc:c=false)(h:wpAny M A b Q E s):wpAny M A (if c=true then a else b) Q E s:=by subst hc;exact h
theorem IL{α:Type}{M:Model}{c:Bool}{a b:Sem α}{Q:α->Shared->Prop}(hc:c=true)(h:wpAny M A a Q E s):wpAny M A (if c=true then a else b) Q E s:=by subst hc;exact h
end
theorem YQ{prog:Program}{w:World}{A:Around}{fr:Bool}{R:Result->Shared->Prop}{l it b:Addr}{vs:List Value}{ns:List Int}(hi:IntsAre vs ns)(hr:∀ n∈ns,0<=n/\n<256)(hz:ns.length<=sizeLine)
  (n1:it≠b) (n2:l≠it) (n3:l≠b):∀ (rest done:List Int) (s:Shared),done++rest=ns->HOk fr A s.heap->s.heap.IsList l vs.toArray->s.heap.IsListIter it l done.length →
   s.heap.get? b=some {cls:=.type "bytearray",data:=.bytearray (byteArr done) } →
   (∀ h' t k,(∀ a o,a≠it->a≠b->s.heap.get? a=some o->h'.get? a=some o)->s.heap.objs.size<=h'.objs.size->R (.ok (.ret (.bytes (byteArr ns) t))) {s with heap:=h',toks:=k }) →
   codeAny (model prog w) A (.builtin "bytes.__new__.loop" ⟨[.type "bytes",.ref it,.ref b],[]⟩) R s:=by
 have hlen:vs.length=ns.length:=hi.length
 intro rest
 induction rest with
 | nil =>
  intro done s hd H hl hit hb hR
  rw[List.append_nil]at hd
  subst hd
  refine codeAny_builtin PySem.F.bm_entry_loop ?_
  rw[Around.under_plainId PySem.F.bm_plain_loop _]
  show wpAny _ A.in1 (pyNext (.ref it) >>= _) _ _ s
  refine wpAny_bind (MC (A:=A.in1) (fr:=fr) H hit hl (by simp[hlen]) fun h' he hs=>?_)
  have hb':=he b _ (Ne.symm n1) hb
  refine wpAny_bind ?_
  unfold Builtin.Bytes.payload Builtin.Bytes.payload?
  refine wpAny_bind (wpAny_bind (wpAny_load hb' (wpAny_pure (wpAny_pure ?_))))
  refine wpAny_bind (wpAny_mkBytes ?_ (by rw[byteArr_size];exact hz))
  refine IL (by decide) ?_
  first
   | exact wpAny_pure (hR h' _ _ (fun a o h1 _ e=>he a o h1 e) hs)
   | exact wpAny_bind (wpAny_pure (wpAny_pure (hR h' _ _ (fun a o h1 _ e=>he a o h1 e) hs)))
 | cons n rest ih =>
  intro done s hd H hl hit hb hR
  have hn:ns[done.length]? = some n:=by rw[← hd];simp
  refine AR ?_<|hi.get done.length n hn;intro t ht
  refine oA2 ?_<|hr n (List.mem_of_getElem? hn);intro h0 h1
  refine codeAny_builtin PySem.F.bm_entry_loop ?_
  rw[Around.under_plainId PySem.F.bm_plain_loop _]
  show wpAny _ A.in1 (pyNext (.ref it) >>= _) _ _ s
  refine wpAny_bind (wpAny_pyNext_list_item (x:=.int n t) hit hl (by simpa using ht) fun h' hit' hs=>?_)
  have hb':=(hs.2 b (Ne.symm n1)).trans hb
  refine wpAny_bind (wpAny_holding (wpAny_of_eq (rfl:asIndex (.int n t)=pure n) (wpAny_bind (wpAny_letGo ?_))))
  refine HC (by simp only[Bool.or_eq_false_iff,decide_eq_false_iff_not];lia) (wpAny_bind ?_)
  show wpAny _ _ (updateBytearray b (·.push n.toNat.toUInt8)) _ _ _
  unfold updateBytearray
  refine wpAny_bind (wpAny_load hb' ?_)
  show wpAny _ _ (update b (Obj.mapBytearray (·.push n.toNat.toUInt8)) >>= fun _=>lookBehind b) _ _ _
  refine wpAny_bind (wpAny_update hb' ?_)
  have eb:(byteArr done).push n.toNat.toUInt8=byteArr (done++[n]):=by simp[byteArr]
  have hb₂:(h'.update b (Obj.mapBytearray (·.push n.toNat.toUInt8))).get? b=some {cls:=.type "bytearray",data:=.bytearray (byteArr (done++[n])) }:=by
   rw[← eb];exact Heap.get?_update_self (Obj.mapBytearray (·.push n.toNat.toUInt8)) hb' rfl
  refine wpAny_lookBehind hb₂ ?_ (wpAny_pure ⟨plainId_quiet PySem.F.bm_plain_loop _,ih (done++[n]) {s with heap:=h'.update b (Obj.mapBytearray (·.push n.toNat.toUInt8)) } (by rw[← hd];simp) ?_ ?_ ?_ hb₂ fun h3 t' k' hk3 hs3=>?_⟩)
  ·show(if(byteArr (done++[n])).size>sizeLine then some "bytearray:memory" else none)=none
   rw[if_neg]
   rw[byteArr_size]
   have:(done++[n]).length<=ns.length:=by rw[← hd];simp
   lia
  ·rcases H with H | ⟨h0,eh,oh,ws,e1,e2,e3,e4⟩
   ·exact .inl H
   ·have q1:eh≠it:=by
     rintro rfl
     revert hit;refine IY ?_;intro oi hoi _ hdi
     rw[e2]at hoi;replace hoi:=sj hoi;subst hoi;rw[e3]at hdi;cases hdi;simp at e4
    have q2:eh≠b:=by rintro rfl;rw[e2]at hb;replace hb:=sj hb;subst hb;cases e3
    exact .inr ⟨h0,eh,oh,ws,e1,(Heap.get?_update_other _ _ (Ne.symm q2)).trans ((hs.2 _ q1).trans e2),e3,e4⟩
  ·exact(hl.extBut hs.extBut n2).extBut (Heap.SameBut.update ..).extBut n3
  ·have:=hit'.extBut (Heap.SameBut.update h' b (Obj.mapBytearray (·.push n.toNat.toUInt8))).extBut n1
   simpa using this
  ·exact hR h3 t' k' (fun a o a1 a2 e=>hk3 a o a1 a2 ((Heap.get?_update_other _ _ (Ne.symm a2)).trans (hs.extBut a o a1 e))) (by have:=hs.1;simp at hs3;lia)
section
variable {prog:Program}{w:World}{A:Around}{s:Shared}{fr:Bool}{E:Value->Shared->Prop}
theorem PZ{l:Addr}{vs:List Value}{ns:List Int}{Q:Value->Shared->Prop}(H:HOk fr A s.heap)(hl:s.heap.IsList l vs.toArray)(hi:IntsAre vs ns)(hr:∀ n∈ns,0<=n/\n<256)(hz:vs.length<=sizeLine)
  (hQ:∀ h' t k,(∀ b o,s.heap.get? b=some o->h'.get? b=some o)->s.heap.objs.size<=h'.objs.size->Q (.bytes (byteArr ns) t) {s with heap:=h',toks:=k }):wpAny (model prog w) A (call (.type "bytes") [.ref l]) Q E s:=by
 have made:codeAny (model prog w) A.in1 (.call (.builtin "bytes.__new__") ⟨[.type "bytes",.ref l],[]⟩) (wants (fun obj s₁=>s₁.TypeIs obj "bytes"/\Q obj s₁) E) s:=by
  refine codeAny_of_tree ?_
  show wpAny _ _ (do checkBuiltinCall "bytes.__new__" ⟨[.type "bytes",.ref l],[]⟩;again (.builtin "bytes.__new__" ⟨[.type "bytes",.ref l],[]⟩)) _ _ s
  refine wpAny_bind (wpAny_of_eq (PySem.F.bm_newCall _) (wpAny_pure ⟨plainId_quiet PySem.F.bm_plain _,codeAny_builtin PySem.F.bm_entry ?_⟩))
  rw[Around.under_plainId PySem.F.bm_plain _]
  have hT:s.TypeIs (.ref l) "list":=hl.typeIs
  obtain⟨ol,hol,hoc,nl,hod⟩:=id hl
  unfold Builtin.«bytes.__new__»
  refine wpAny_bind (wpAny_of_eq (a:=true) rfl (HC rfl (wpAny_bind (wpAny_of_eq PySem.F.bm_sub (HC rfl ?_)))))
  refine wpAny_bind (wpAny_of_eq (PySem.F.bm_bind _) (wpAny_bind (wpAny_of_eq (a:=()) rfl (wpAny_bind (wpAny_of_eq (a:=()) rfl (HC rfl ?_))))))
  refine wpAny_bind (wpAny_specialOf hT PySem.F.bm_no_bytes (wpAny_bind (wpAny_bind ?_)))
  show wpAny _ _ (load l >>= _) _ _ _
  refine wpAny_bind (wpAny_load hol ?_)
  rw[hod]
  refine wpAny_pure (wpAny_pure (HC rfl (wpAny_bind (wpAny_specialOf hT PySem.F.bm_no_index (IL rfl ?_)))))
  first
   | show wpAny _ _ (Builtin.Bytes.buffer? "bytes.__new__" (.ref l) true >>= _) _ _ _
   | (refine wpAny_bind ?_;show wpAny _ _ (Builtin.Bytes.buffer? "bytes.__new__" (.ref l) true >>= _) _ _ _)
  refine wpAny_bind ?_
  unfold Builtin.Bytes.buffer?
  refine wpAny_bind (wpAny_specialOf hT PySem.F.bm_no_buffer (wpAny_bind (wpAny_specialOf hT PySem.F.bm_no_buffer (wpAny_pure ?_))))
  refine wpAny_bind (wpAny_tryCatch (wpAny_pyIter_list hl ?_))
  generalize hH:s.heap.push {cls:=.type "list_iterator",data:=.fields #[.ref l,.int 0 0] }=H1
  have k1:∀ b o,s.heap.get? b=some o->H1.get? b=some o:=fun b o e=>hH▸Heap.get?_push_of_some _ e
  have hl₁:H1.IsList l vs.toArray:=hl.at fun o e=>k1 l o e
  have z1:H1.objs.size=s.heap.objs.size+1:=by rw[← hH,Heap.size_push]
  have hit:H1.IsListIter s.heap.objs.size l 0:=⟨_,hH▸Heap.get?_push_size _ rfl,rfl,rfl⟩
  refine wpAny_bind (wpAny_holding ?_)
  unfold Builtin.Bytes.lengthHint
  have hT₁:({s with heap:=H1 }:Shared).TypeIs (.ref l) "list":=Heap.IsList.typeIs (s:={s with heap:=H1 }) hl₁
  refine wpAny_bind (wpAny_specialOf hT₁ slot_list_len.lookup ?_)
  dsimp only
  rw[PySem.F.bm_split]
  refine wpAny_bind (wpAny_isInstance hT₁ PySem.F.bm_sub_list (HC rfl (IL (by decide +kernel) (wpAny_pure (wpAny_bind ?_)))))
  unfold Builtin.Bytes.newBytearray
  refine wpAny_newObj_type ?_ (Nat.zero_le _)
  have k2:∀ b o,H1.get? b=some o->(H1.push {cls:=.type "bytearray",data:=.bytearray #[] }).get? b=some o:=fun b o e=>Heap.get?_push_of_some _ e
  have hlt:l<s.heap.objs.size:=Heap.lt_size hol
  have H':HOk fr A.in1 (H1.push {cls:=.type "bytearray",data:=.bytearray #[] }):=by
   rcases H with H | ⟨h0,eh,oh,ws,e1,e2,e3,e4⟩
   ·exact .inl H
   ·exact .inr ⟨h0,eh,oh,ws,e1,k2 _ _ (k1 _ _ e2),e3,e4⟩
  have main:=YQ (prog:=prog) (w:=w) (A:=A.in1) (fr:=fr) (R:=wants (fun obj s₁=>s₁.TypeIs obj "bytes"/\Q obj s₁) E) (l:=l) (it:=s.heap.objs.size) (b:=H1.objs.size) hi hr (by rw[← hi.length];exact hz)
   (by rw[z1];exact Nat.ne_of_lt (Nat.lt_succ_self _)) (Nat.ne_of_lt hlt) (by rw[z1];exact Nat.ne_of_lt (Nat.lt_succ_of_lt hlt)) ns [] {s with heap:=H1.push {cls:=.type "bytearray",data:=.bytearray #[] } } rfl H' (hl₁.push _)
   (hit.extBut (b:=H1.objs.size) (fun b o _ e=>k2 b o e) (by rw[z1];exact Nat.ne_of_lt (Nat.lt_succ_self _))) (Heap.get?_push_size _ rfl)
   fun h' t k hk hs=>⟨PySem.W.typeIs_bytes _ _ _,hQ h' t k (fun b o e=>hk b o (Nat.ne_of_lt (Heap.lt_size e)) (by rw[z1];exact Nat.ne_of_lt (Nat.lt_succ_of_lt (Heap.lt_size e))) (k2 _ _ (k1 _ _ e))) (by
    rw[Heap.size_push,z1]at hs;lia)⟩
  first
   | exact wpAny_pure ⟨plainId_quiet PySem.F.bm_plain_loop _,main⟩
   | exact wpAny_pure (wpAny_pure ⟨plainId_quiet PySem.F.bm_plain_loop _,main⟩)
 refine callType_codes (Q₁:=fun obj s₁=>s₁.TypeIs obj "bytes"/\Q obj s₁) PySem.F.bm_called (PySem.F.bm_typeCall _) PySem.F.entry_object_init made fun obj s₁ h₁=>?_
 exact⟨h₁.1,PySem.F.args_object_init_2 obj _,object_init_meets PySem.F.bm_called.init.lookup PySem.F.bm_called.made (by decide) prog w A.in1 _ s₁ ⟨h₁.1,rfl,h₁.2⟩⟩
end
section
variable {g:G}{fr:Bool}{A:Around}{s:Shared}{ρ:Rho}{σ:St}{E:Value->Shared->Prop}{Z:Value->Shared->Prop}{Q:PV->St->Prop}
noncomputable def biV:Bi->Value
 | .len=>.builtin "len" | .ord=>.builtin "ord" | .chr=>.builtin "chr" | .bytes=>.type "bytes" | .int=>.type "int" | .tuple=>.type "tuple" | .list=>.type "list"
set_option tactic.hygienic true in
theorem b3l{C:Bi->List PV->Prop}{f:Bi}{vs:List PV}{K:PV×St->Prop}(h:opt (bi σ f vs) K)(k1:∀ x a,K (.int x.length,σ)->C .len [.str x a])(k2:∀ b,K (.int b.length,σ)->C .len [.bytes b])(k3:∀ us,K (.int us.length,σ)->C .len [.tup us])
  (k4:∀ i us,AK σ i=some us->K (.int us.length,σ)->C .len [.ref i]) (k5:∀ x a (cp:Nat),x.cps.toList=[cp]->K (.int cp,σ)->C .ord [.str x a]) (k6:∀ i,(0<=i/\i<=1114111)/\K (.str ⟨#[i.toNat]⟩ true,σ)->C .chr [.int i])
  (k7:∀ i us l,AK σ i=some us->CR us=some l->l.all (fun n=>decide (0<=n)&&decide (n<256))=true/\K (.bytes (l.map fun n=>n.toNat.toUInt8),σ)->C .bytes [.ref i]) (k8:∀ i,K (.int i,σ)->C .int [.int i]) (k9:∀ b:Bool,K (.int (if b then 1 else 0),σ)->C .int [.bool b])
  (k10:∀ us,K (.tup us,σ)->C .tuple [.tup us]) (k11:∀ i us,AK σ i=some us->K (.ref σ.length,σ++[.list us])->C .list [.ref i]):C f vs:=by
 have one:∀ {f:Bi},opt (bi σ f vs) K->∃ v,vs=[v]:=fun{f} h=>by
  induction vs using List.casesOn with
  | nil=>induction f using Bi.casesOn<;>exact h.elim
  | cons v r =>
   induction r using List.casesOn with
   | nil=>exact⟨v,rfl⟩
   | cons _ _=>induction f using Bi.casesOn<;>induction v using PV.casesOn<;>exact h.elim
 refine AR ?_<|one h;rintro v rfl
 clear one
 have li:∀ {i:Nat} {F:List PV->Option (PV×St)} {D:Prop},opt (match AK σ i with | some vs=>F vs | none=>none) K->(∀ us,AK σ i=some us->opt (F us) K->D)->D:=fun{i F D} h k=>by
  cases e:AK σ i with
  | none=>rw[e]at h;exact h.elim
  | some us=>rw[e]at h;exact k _ e h
 induction f using Bi.casesOn
 ·induction v using PV.casesOn<;>first | exact h.elim | exact k1 _ _ h | exact k2 _ h | exact k3 _ h | exact li h fun us e h=>k4 _ _ e h
 ·induction v using PV.casesOn<;>first | exact h.elim | skip
  rename_i x a
  dsimp only[bi]at h
  cases e:x.cps.toList with
  | nil=>rw[e]at h;exact h.elim
  | cons cp r =>
   induction r using List.casesOn with
   | nil=>rw[e]at h;exact k5 _ _ _ e h
   | cons _ _=>rw[e]at h;exact h.elim
 ·induction v using PV.casesOn<;>first | exact h.elim | exact k6 _ (BW h)
 ·induction v using PV.casesOn<;>first | exact h.elim | skip
  rename_i i
  dsimp only[bi]at h
  refine li h fun us e h=>?_
  cases e2:CR us with
  | none=>rw[e2]at h;exact h.elim
  | some l=>rw[e2]at h;exact k7 _ _ _ e e2 (BW h)
 ·induction v using PV.casesOn<;>first | exact h.elim | exact k8 _ h | exact k9 _ h
 ·induction v using PV.casesOn<;>first | exact h.elim | exact k10 _ h
 ·induction v using PV.casesOn<;>first | exact h.elim | exact li h fun us e h=>k11 _ _ e h
theorem a5m{f:Bi}{vs:List PV}{xs:List Value}(c:At g fr A σ ρ s)(V:VRs g s.toks s.heap ρ vs xs)(h:opt (bi σ f vs) fun r=>Q r.1 r.2)(hP:Cont g [] s ρ Q Z) :
  wpAny (model g.prog g.w) A (call (biV f) xs) Z E s:=by
 have R:=c.rel
 have szl:=sizeLine_eq
 have T1:=Nat.le_succ s.toks
 have T2:s.toks<=s.toks+1+1:=Nat.le_add_right _ 2
 revert V
 refine b3l (C:=fun f vs=>VRs g s.toks s.heap ρ vs xs->wpAny (model g.prog g.w) A (call (biV f) xs) Z E s) h (fun x a h V=>?_) (fun b h V=>?_) (fun us h V=>?_) (fun i us e1 h V=>?_) (fun x a cp e1 h V=>?_) (fun i h V=>?_) (fun i us l e1 e2 h V=>?_) (fun i h V=>?_) (fun b h V=>?_) (fun us h V=>?_) (fun i us e1 h V=>?_)
 ·exact V.oneI fun y V=>V.strI fun t hx ho=>P.len_str (by lia) (hP.tok R T2 (.int _ _) h)
 ·refine V.oneI fun y V=>?_
  revert h
  exact V.bytesI fun b t hb h=>len_bytes (by exact ar1) (hP.tok R T2 (.int _ _) (by rw[Array.length_toList]at h;exact h))
 ·refine V.oneI fun y V=>V.tupI fun a xs hzz ht hl Va=>?_
  have e:us.length=xs.toArray.size:=Va.length
  exact PyProof.Rows.len_tuple ht (by rw[List.size_toArray];lia) (hP.tok R T2 (.int _ _) (by rw[← e];exact h))
 ·refine V.oneI fun y V=>?_
  obtain⟨a,xs,rfl,_,hl,Va,hz⟩:=R.list e1 V
  have e:us.length=xs.toArray.size:=Va.length
  exact Calls.call_len_list hl.isList (by rw[← e];lia) (hP.tok R T2 (.int _ _) (by rw[← e];exact h))
 ·have e:x=⟨#[cp]⟩:=by
   induction x using Str.casesOn with | mk cps=>exact congrArg Str.mk (Array.toList_inj.mp e1)
  subst e
  exact V.oneI fun y V=>V.strI fun t hx ho=>P.ord_of_char (hP.tok R T1 (.int _ _) h)
 ·exact V.oneI fun y V=>V.intI fun t=>P.chr_of_int (Bool.or_eq_false_iff.mpr ⟨decide_eq_false (Int.not_lt.mpr h.1.1),decide_eq_false (Int.not_lt.mpr h.1.2)⟩) (hP.tok R T1 (.str _ _ _ (by show 1<=sizeLine;lia) fun _=>⟨Nat.ne_of_gt c.toks,Nat.lt_succ_self _⟩) h.2)
 ·refine V.oneI fun y V=>?_
  obtain⟨a,xs,rfl,_,hl,Va,hz⟩:=R.list e1 V
  have I:=UU Va e2
  have lx:xs.length<=sizeLine:=Va.length▸hz
  refine wpAny_with_toks (n:=s.toks) (Nat.le_refl _) (PZ c.hand hl.isList I (fun n hn=>?_) lx fun h' t k hk hs hkk=>?_)
  ·have:=List.all_eq_true.mp h.1 n hn
   rw[Bool.and_eq_true,decide_eq_true_iff,decide_eq_true_iff]at this
   exact this
  ·have eb:(l.map fun n=>n.toNat.toUInt8)=(byteArr l).toList:=by simp[byteArr]
   have h:=h.2
   rw[eb]at h
   exact hP _ _ ρ _ σ (.ofKeeps R hkk hk hs) (.bytes _ _ (by rw[byteArr_size,← I.length];exact lx)) h
 ·exact V.oneI fun y V=>V.intI fun t=>call_int_int (hP.here R (.int _ _) h)
 ·exact V.oneI fun y V=>V.boolI (call_int_bool (hP.tok R T1 (.int _ _) h))
 ·exact V.oneI fun y V=>V.tupI fun a xs hzz ht hl Va=>call_tuple_same ht (hP.here R (.tup hzz ht hl Va) h)
 ·refine V.oneI fun y V=>?_
  obtain⟨ad,xs,rfl,_,hl,Va,hz⟩:=R.list e1 V
  obtain⟨o,ho,hc,n,hd⟩:=hl.isList
  refine call_list_seq (hsz:=by rw[List.size_toArray,← Va.length];exact hz) ad (.inl rfl) ho hc hd fun h' c' hk hn=>?_
  have hs:s.heap.objs.size<h'.objs.size:=Heap.lt_size hn
  have old:∀ (i:Nat) p,ρ[i]? = some p->(ρ++[(s.heap.objs.size,s.heap.objs.size)])[i]? = some p:=fun i p e=>by rw[List.getElem?_append_left (List.getElem?_eq_some_iff.mp e).1];exact e
  have tups:∀ a zs,IsTup s.heap a zs->IsTup h' a zs:=fun a zs ht=>by revert ht;refine AD ?_;intro o ho r;exact⟨o,hk _ _ ho,r⟩
  refine hP _ {s with heap:=h' } (ρ++[(s.heap.objs.size,s.heap.objs.size)]) (.ref σ.length) (σ++[.list us]) ⟨R.adopt (o:=.list us) (Nat.le_refl _) hk ⟨Nat.le_refl _,Nat.le_refl _⟩ ⟨rfl,hz,xs,⟨c',hn⟩,Va.mono (Nat.le_refl _) tups old⟩,Grow.adopt hk (Nat.le_of_lt hs) ⟨Nat.le_refl _,Nat.le_refl _⟩,Nat.le_refl _,⟨rfl,rfl,rfl⟩⟩ ?_ h
  exact .ref (d:=s.heap.objs.size) (by rw[← R.len,List.getElem?_append_right (Nat.le_refl _),Nat.sub_self];rfl)
end
end Mine
end
section
open PySem PySem.W PyProof.Rows
set_option maxRecDepth 100000
namespace Mine
set_option tactic.hygienic false
namespace FX
theorem slot_find:Slot "bytes" "find" "bytes.find" :=
 .of (owner:="bytes") (n:="find") (by rw[typeLookup_type,builtinLookup_eq_fast];kernel_rfl) (by decide +kernel) (by decide +kernel) (by decide +kernel)
  (by first | exact .inl (by decide +kernel) | exact .inr (by decide +kernel)) (by rw[isSubtype_type];kernel_rfl)
theorem type_find:typeOf (.builtin "bytes.find")=pure (.type "method_descriptor"):=by show builtinType _=_;rw[builtinType_eq_fast];kernel_rfl
theorem entry_find:entryFor table "bytes.find"=some Builtin.«bytes.find» := entryFor_of_tree (by kernel_rfl)
theorem args_find(a b:Value):argsOk "bytes.find" ⟨[a,b],[]⟩:=by
 unfold argsOk;rw[signature?_of (id:="bytes.find") (n:=['d','n','i','f']) (o:=['s','e','t','y','b']) (by kernel_rfl) FB.owner_bytes];kernel_rfl
theorem slot_lstrip:Slot "bytes" "lstrip" "bytes.lstrip" :=
 .of (owner:="bytes") (n:="lstrip") (by rw[typeLookup_type,builtinLookup_eq_fast];kernel_rfl) (by decide +kernel) (by decide +kernel) (by decide +kernel)
  (by first | exact .inl (by decide +kernel) | exact .inr (by decide +kernel)) (by rw[isSubtype_type];kernel_rfl)
theorem type_lstrip:typeOf (.builtin "bytes.lstrip")=pure (.type "method_descriptor"):=by show builtinType _=_;rw[builtinType_eq_fast];kernel_rfl
theorem entry_lstrip:entryFor table "bytes.lstrip"=some Builtin.«bytes.lstrip» := entryFor_of_tree (by kernel_rfl)
theorem args_lstrip(a b:Value):argsOk "bytes.lstrip" ⟨[a,b],[]⟩:=by
 unfold argsOk;rw[signature?_of (id:="bytes.lstrip") (n:=['p','i','r','t','s','l']) (o:=['s','e','t','y','b']) (by kernel_rfl) FB.owner_bytes];kernel_rfl
theorem slot_join:Slot "bytes" "join" "bytes.join" :=
 .of (owner:="bytes") (n:="join") (by rw[typeLookup_type,builtinLookup_eq_fast];kernel_rfl) (by decide +kernel) (by decide +kernel) (by decide +kernel)
  (by first | exact .inl (by decide +kernel) | exact .inr (by decide +kernel)) (by rw[isSubtype_type];kernel_rfl)
theorem type_join:typeOf (.builtin "bytes.join")=pure (.type "method_descriptor"):=by show builtinType _=_;rw[builtinType_eq_fast];kernel_rfl
theorem entry_join:entryFor table "bytes.join"=some Builtin.«bytes.join» := entryFor_of_tree (by kernel_rfl)
theorem args_join(a b:Value):argsOk "bytes.join" ⟨[a,b],[]⟩:=by
 unfold argsOk;rw[signature?_of (id:="bytes.join") (n:=['n','i','o','j']) (o:=['s','e','t','y','b']) (by kernel_rfl) FB.owner_bytes];kernel_rfl
end FX
section
variable {b y:Array UInt8}{t u:Tok}
theorem QA(n:Nat):Builtin.Bytes.window n none none=(0,(n:Int)):=by
 unfold Builtin.Bytes.window
 have e:¬ (n:Int)<0:=by lia
 simp[e]
set_option tactic.hygienic true in
theorem a0h:Meets (Builtin.«bytes.find» ⟨[.bytes b t,.bytes y u],[]⟩) (fun _ R s=>R (.ok (.ret (.int (PU b.toList y.toList) s.toks))) {s with toks:=s.toks+1 }):=by
 refine .of_wp fun prog w A R s h=>?_
 unfold Builtin.«bytes.find» Builtin.Bytes.searchM
 refine wpAny_bind ?_
 unfold Builtin.Bytes.searchArgs
 refine wpAny_bind (wpAny_of_eq (a:=(Value.bytes b t,[Value.bytes y u])) (by kernel_rfl) ?_)
 refine wpAny_bind (wpAny_of_eq (a:=none) (by rfl) ?_)
 refine wpAny_bind (wpAny_of_eq (a:=none) (by rfl) ?_)
 refine wpAny_bind (wpAny_of_eq (a:=some y) KBy.buffer_eq ?_)
 dsimp only
 refine wpAny_bind (wpAny_pure ?_)
 refine wpAny_bind (wpAny_of_eq (a:=b) (by rfl) ?_)
 rw[QA]
 refine wpAny_pure ?_
 dsimp only
 unfold PU at h
 simp only[Array.toArray_toList,Array.length_toList]at h
 have e0:((if(b.size:Int)-0<(y.size:Int)then none else some ((0:Int).toNat,(b.size:Int).toNat)).bind fun x=>if false=true then Builtin.Bytes.rfind? b y x.1 x.2 else Builtin.Bytes.find? b y x.1 x.2)=Builtin.Bytes.find? b y 0 b.size:=by
  split
  ·rename_i hlt
   have hz:b.size+1-(0+y.size)=0:=by lia
   show none=_
   unfold Builtin.Bytes.find?
   rw[hz];rfl
  ·simp
 simp only[Bool.false_eq_true,if_false]at e0 ⊢
 rw[e0]
 cases hf:Builtin.Bytes.find? b y 0 b.size with
 | some i =>
  rw[hf]at h
  exact wpAny_bind (wpAny_mkInt (wpAny_pure ⟨_,rfl,h⟩))
 | none =>
  rw[hf]at h
  refine wpAny_bind (wpAny_rule ?_)
  exact wpAny_bind (wpAny_mkInt (wpAny_pure ⟨_,rfl,h⟩))
theorem a0i:Meets (Builtin.«bytes.endswith» ⟨[.bytes b t,.bytes y u],[]⟩) (fun _ R s=>R (.ok (.ret (.bool (HA b.toList y.toList)))) s):=by
 refine .of_wp fun prog w A R s h=>?_
 unfold Builtin.«bytes.endswith» Builtin.Bytes.tailMatchM
 refine wpAny_bind (wpAny_of_eq (a:=(Value.bytes b t,[Value.bytes y u])) (by kernel_rfl) ?_)
 refine wpAny_bind (wpAny_of_eq (a:=none) (by rfl) ?_)
 refine wpAny_bind (wpAny_of_eq (a:=none) (by rfl) ?_)
 refine wpAny_bind (wpAny_of_eq (a:=b) (by rfl) ?_)
 rw[QA]
 dsimp only
 refine wpAny_bind (wpAny_of_eq (a:=false) (F.sub_bytes_tuple) ?_)
 refine HC rfl ?_
 refine wpAny_bind (wpAny_of_eq (a:=some y) KBy.buffer_eq ?_)
 dsimp only
 have e:(if(b.size:Int)-0<(y.size:Int)then false else if true=true then b.extract ((b.size:Int).toNat-y.size) (b.size:Int).toNat==y else b.extract (Int.toNat 0) (Int.toNat 0+y.size)==y)=HA b.toList y.toList:=by
  unfold HA
  simp only[Array.toArray_toList,Array.length_toList,Int.toNat_natCast,if_true]
  by_cases hlt:(b.size:Int)-0<(y.size:Int)
  ·rw[if_pos hlt,decide_eq_false (by lia)];rfl
  ·rw[if_neg hlt,decide_eq_true (by lia)];simp
 rw[e]
 exact wpAny_pure ⟨_,rfl,h⟩
set_option tactic.hygienic true in
theorem UZ(hz:b.size<=sizeLine):Meets (Builtin.«bytes.lstrip» ⟨[.bytes b t,.bytes y u],[]⟩) (fun _ R s=>∀ t' k,s.toks<=k->R (.ok (.ret (.bytes (b.toList.dropWhile fun c=>y.toList.contains c).toArray t'))) {s with toks:=k }):=by
 refine .of_wp fun prog w A R s h=>?_
 unfold Builtin.«bytes.lstrip» Builtin.Bytes.stripM
 refine wpAny_bind (wpAny_of_eq (a:=(Value.bytes b t,[Value.bytes y u])) (by kernel_rfl) ?_)
 refine wpAny_bind (wpAny_of_eq (a:=y) KBd.like_eq (wpAny_bind (wpAny_pure ?_)))
 refine wpAny_bind (wpAny_of_eq (a:=b) (by rfl) ?_)
 dsimp only
 have e:(b.toList.dropWhile y.contains)=b.toList.dropWhile fun c=>y.toList.contains c:=by
  congr 1;funext c;simp
 simp only[if_true,Bool.false_eq_true,if_false,e]
 split
 ·rename_i hl
  have hl':=eq_of_beq hl
  have e2:b.toList.dropWhile (fun c=>y.toList.contains c)=b.toList:=by
   have sl:=List.dropWhile_sublist (fun c=>y.toList.contains c) (l:=b.toList)
   exact sl.eq_of_length (by rw[hl'];simp)
  rw[e2]at h
  refine wpAny_bind (wpAny_rule (wpAny_bind ?_))
  unfold Builtin.Bytes.Kind.same
  refine IL rfl ?_
  refine wpAny_bind (wpAny_typeOf (typeIs_bytes s b t) ?_)
  refine IL rfl ?_
  exact wpAny_pure (wpAny_pure ⟨_,rfl,by simpa using h t s.toks (Nat.le_refl _)⟩)
 ·refine wpAny_bind ?_
  refine wpAny_mkBytes ?_ ?_
  ·exact wpAny_pure ⟨_,rfl,h _ _ (Nat.le_succ _)⟩
  ·have:=(List.dropWhile_sublist (fun c=>y.toList.contains c) (l:=b.toList)).length_le
   simp at this ⊢
   exact ar12
inductive BytesAre:List Value->List (Array UInt8)->Prop
 | nil:BytesAre [] []
 | cons (y:Array UInt8) (t:Tok) {vs ys}:BytesAre vs ys->BytesAre (.bytes y t::vs) (y::ys)
theorem BytesAre.length{vs ys}(h:BytesAre vs ys):vs.length=ys.length:=by
 induction h with
 | nil=>rfl
 | cons _ _ _ ih=>exact congrArg (· + 1) ih
theorem BytesAre.get{vs ys}(h:BytesAre vs ys):∀ {i:Nat} {y},ys[i]? = some y->∃ t,vs[i]? = some (.bytes y t):=by
 induction h with
 | nil=>exact fun e=>noS e
 | cons z t _ ih=>exact fun{i y} e=>by induction i using Nat.casesAuxOn with
  | zero=>exact⟨t,Option.some.inj e▸rfl⟩
  | succ i=>exact ih e
theorem YR{id:String}{f:Bool}:Builtin.Bytes.buffer? id (.bytes b t) f=pure (some b):=by
 unfold Builtin.Bytes.buffer?
 rw[KBy.special_eq KBy.look_buffer,KBy.own_buffer,KBy.own_release]
 kernel_rfl
theorem b0w{id:String}{fl:Int}:Builtin.Bytes.takeBuffer? id (.bytes b t) fl=pure (some (b,none)):=by
 unfold Builtin.Bytes.takeBuffer?
 rw[KBy.special_eq KBy.look_buffer,KBy.own_buffer,YR]
 kernel_rfl
theorem a5n{id:String}{fl:Int}:Builtin.Bytes.takeBufferQuiet? id (.bytes b t) fl=pure (some (b,none)):=by
 unfold Builtin.Bytes.takeBufferQuiet?
 rw[b0w]
 rfl
theorem VA(ys:List (Array UInt8)):Builtin.Bytes.joined #[] ys=ys.foldl (· ++ ·) #[]:=by
 unfold Builtin.Bytes.joined
 have gen:∀ (l:List (Array UInt8)) (k:Nat) (acc:Array UInt8),(l.zipIdx k).foldl (fun out (x:Array UInt8×Nat)=>(if x.2>0 then out ++ #[]else out)++x.1) acc=l.foldl (· ++ ·) acc:=by
  intro l
  induction l with
  | nil=>intro k acc;rfl
  | cons a l ih=>intro k acc;simp only[List.zipIdx_cons,List.foldl_cons];rw[ih];congr 1;split<;>simp
 exact gen ys 0 #[]
theorem a2j(ys:List (Array UInt8)):∀ (n:Nat) (acc:Array UInt8),acc.size=n->ys.foldl (fun k p=>k+p.size) n=(ys.foldl (· ++ ·) acc).size:=by
 induction ys with
 | nil=>intro n acc h;exact h.symm
 | cons a l ih=>intro n acc h;simp only[List.foldl_cons];exact ih _ _ (by rw[Array.size_append,h])
theorem a2k{M:Model}{A:Around}{E:Value->Shared->Prop}{Q:Unit->Shared->Prop}{keep:List Value}(taken:List (Value×Option Value))(hw:∀ q∈taken,q.2=none){s:Shared}(h:Q () s):wpAny M A (Builtin.Bytes.joinLetGo taken keep) Q E s:=by
 induction taken with
 | nil=>exact wpAny_pure h
 | cons p r ih =>
  obtain⟨x,w⟩:=p
  obtain rfl:w=none:=hw _ (.head _)
  exact wpAny_bind (wpAny_letGo (ih fun q hq=>hw q (.tail _ hq)))
theorem a2l{M:Model}{A:Around}{α:Type}{Q:α->Shared->Prop}{E:Value->Shared->Prop}{s:Shared}(items:Array Value)(a:Value->Sem α)(b:Sem α)(h1:∀ x,items = #[x]->wpAny M A (a x) Q E s)(h2:wpAny M A b Q E s) :
  wpAny M A (match items with | #[x]=>a x | _=>b) Q E s:=by
 obtain⟨il⟩:=items
 rcases il with _ | ⟨x,_ | ⟨y,r⟩⟩
 ·exact h2
 ·exact h1 x rfl
 ·exact h2
theorem BytesAre.one{x:Value}{ys}(hi:BytesAre [x] ys):∃ y u,x = .bytes y u/\ys=[y]:=by
 cases hi with
 | cons y u r=>cases r;exact⟨y,u,rfl,rfl⟩
noncomputable def JInv(items:Array Value)(ys:List (Array UInt8))(l:List Nat)(p:Array (Array UInt8))(t:List (Value×Option Value)):Prop:=∃ i,l=List.range' i (items.size-i)/\i<=items.size/\p=(ys.take i).toArray/\∀ q∈t,q.1.onHeap=false/\q.2=none
theorem TA{n j:Nat}(h:j<n):n-j=n-(j+1)+1:=(Nat.succ_pred_eq_of_pos (Nat.sub_pos_of_lt h)).symm
theorem JInv.turn{items:Array Value}{ys:List (Array UInt8)}{i:Nat}{r:List Nat}{p:Array (Array UInt8)}{t:List (Value×Option Value)}{C:Prop}(hi:BytesAre items.toList ys)(h:JInv items ys (i::r) p t)
  (k:∀ y tk,items.getD i .none = .bytes y tk->(Builtin.Bytes.Kind.bytes==Builtin.Bytes.Kind.bytearray||t.any fun x=>x.1.onHeap)=false->JInv items ys r (p.push y) (t++[(.bytes y tk,none)])->C):C:=by
 have hlen:=hi.length
 revert h;refine b3g ?_;intro j e1 hj e2 e3
 have hlt:j<items.size:=by
  rcases Nat.lt_or_ge j items.size with h1 | h1
  ·exact h1
  ·rw[Nat.sub_eq_zero_of_le h1]at e1;cases e1
 rw[TA hlt,List.range'_succ]at e1
 refine oA2 ?_<|List.cons.inj e1;rintro rfl e6
 have hy:ys[i]? = some (ys[i]'(by rw[← hlen];exact hlt)):=List.getElem?_eq_getElem _
 generalize ys[i]'(by rw[← hlen];exact hlt)=y at hy
 refine AR ?_<|hi.get hy;intro tk hx
 refine k y tk ?_ ?_ ⟨i+1,e6,hlt,?_,fun q hq=>?_⟩
 ·have:items[i]? = some (.bytes y tk):=by simpa using hx
  simp[Array.getD_eq_getD_getElem?,this]
 ·show(false||_)=false
  rw[Bool.false_or,List.any_eq_false]
  intro q hq;rw[(e3 q hq).1];exact Bool.false_ne_true
 ·rw[e2,List.take_add_one,hy];simp
 ·rcases List.mem_append.mp hq with hq | hq
  ·exact e3 q hq
  ·rw[List.mem_singleton.mp hq];exact⟨rfl,rfl⟩
theorem JInv.fin{items:Array Value}{ys:List (Array UInt8)}{p:Array (Array UInt8)}{t:List (Value×Option Value)}(hi:BytesAre items.toList ys)(h:JInv items ys [] p t):p=ys.toArray/\∀ q∈t,q.2=none:=by
 revert h;refine b3g ?_;intro j e1 hj e2 e3
 refine⟨?_,fun q hq=>(e3 q hq).2⟩
 have hj':items.size<=j:=by
  rcases Nat.lt_or_ge j items.size with h1 | h1
  ·rw[TA h1,List.range'_succ]at e1;cases e1
  ·exact h1
 rw[e2,List.take_of_length_le (by rw[← hi.length];exact hj')]
theorem a5o{n:Nat}:(n != n)=false:=by simp
theorem a0j{l:Addr}{items:Array Value}{n:Nat}{ys:List (Array UInt8)}(hi:BytesAre items.toList ys)(hz:(ys.foldl (· ++ ·) #[]).size<=16777216) :
  Meets (Builtin.«bytes.join» ⟨[.bytes #[] t,.ref l],[]⟩) (fun _ R s=>s.heap.get? l=some {cls:=.type "list",data:=.seq items n }/\∀ t' k,s.toks<=k->R (.ok (.ret (.bytes (ys.foldl (· ++ ·) #[]) t'))) {s with toks:=k }):=by
 refine .of_wp fun prog w A R s ⟨hl,h⟩=>?_
 unfold Builtin.«bytes.join» Builtin.Bytes.joinM
 refine wpAny_bind (wpAny_of_eq (a:=(Value.bytes #[] t,Value.ref l)) (by kernel_rfl) ?_)
 dsimp only
 refine IL rfl ?_
 refine wpAny_bind ?_
 unfold Builtin.Bytes.joinItems
 refine wpAny_bind (wpAny_typeOf (T:="list") ⟨_,hl,rfl⟩ ?_)
 refine IL rfl ?_
 refine wpAny_pure ?_
 refine wpAny_bind (wpAny_seqItems hl rfl ?_)
 dsimp only
 refine IL rfl ?_
 refine a2l items _ _ ?_ ?_
 ·intro x hx
  subst hx
  obtain⟨y,u,rfl,rfl⟩:=hi.one
  refine wpAny_bind (wpAny_typeOf (typeIs_bytes s y u) ?_)
  refine IL rfl ?_
  exact wpAny_bind (wpAny_rule (wpAny_pure ⟨_,rfl,by simpa using h u s.toks (Nat.le_refl _)⟩))
 ·rw[Std.Legacy.Range.forIn_eq_forIn_range']
  refine wpAny_bind ?_
  refine wpAny_forIn_list _ (fun(l':List Nat) (b':Array (Array UInt8)×List (Value×Option Value)) (s':Shared)=>s'=s/\JInv items ys l' b'.1 b'.2) _ ?_ ?_ _ _ ⟨rfl,0,by simp[Std.Legacy.Range.size],Nat.zero_le _,by simp,by simp⟩
  ·rintro i rest ⟨parts,taken⟩ s' ⟨rfl,hh⟩
   refine JInv.turn hi hh fun y tk hg cnd nx=>?_
   refine wpAny_bind (wpAny_seqItems hl rfl ?_)
   dsimp only
   rw[hg]
   refine HC cnd ?_
   refine wpAny_bind (wpAny_holding (wpAny_of_eq (a:=some (y,none)) a5n ?_))
   dsimp only
   refine wpAny_bind (wpAny_seqItems hl rfl ?_)
   dsimp only
   exact HC a5o (wpAny_pure ⟨rfl,nx⟩)
  ·rintro⟨parts,taken⟩ s' ⟨rfl,hh⟩
   refine oA2 ?_<|hh.fin hi;intro e5 e3
   replace e5:parts=ys.toArray:=e5
   subst e5
   refine wpAny_bind (wpAny_of_eq (a:=(#[]:Array UInt8)) (by rfl) ?_)
   dsimp only
   have e6:Array.foldl (fun x1 x2=>x1+x2.size) ((#[]:Array UInt8).size*(ys.toArray.size-1)) ys.toArray=(ys.foldl (· ++ ·) #[]).size:=by
    rw[List.foldl_toArray]
    exact a2j ys _ #[] (by simp)
   rw[e6,KBy.tooLong_not hz]
   refine HC rfl ?_
   refine wpAny_bind ?_
   rw[VA]
   refine wpAny_mkBytes ?_ (by rw[sizeLine_eq];exact hz)
   refine wpAny_bind (wpAny_holding (wpAny_point ?_))
   refine wpAny_bind (a2k taken e3 ?_)
   exact wpAny_pure ⟨_,rfl,h _ _ (Nat.le_succ _)⟩
theorem a2m{g:G}{T:Nat}{h:Heap}{ρ:Rho}{v:List PV}{x:List Value}(V:VRs g T h ρ v x):∀ {l:List (List UInt8)},DF v=some l->∃ ys,BytesAre x ys/\ys.map (·.toList)=l :=
 VRs.ind (P:=fun v x=>∀ {l:List (List UInt8)},DF v=some l->∃ ys,BytesAre x ys/\ys.map (·.toList)=l) (fun e=>⟨[],.nil,Option.some.inj e⟩) (fun v x vs xs a _ ih l e=>by
  revert a
  refine b0q (C:=fun v l=>VR g T h ρ v x->∃ ys,BytesAre (x::xs) ys/\ys.map (·.toList)=l) e fun b m q a=>?_
  obtain⟨b,t,rfl,rfl,_⟩:=a.inv
  refine AD ?_<|ih q;rintro ys h1 rfl
  exact⟨b::ys,.cons _ _ h1,rfl⟩) V
theorem a0k(ys:List (Array UInt8)):∀ acc:Array UInt8,(ys.foldl (· ++ ·) acc).toList=acc.toList++(ys.map (·.toList)).flatten:=by
 induction ys with
 | nil=>intro acc;simp
 | cons a l ih=>intro acc;simp only[List.foldl_cons];rw[ih];simp
end
end Mine
end
section
open PySem PySem.W PyProof.Rows
namespace Mine
set_option tactic.hygienic false
section
variable {g:G}{fr:Bool}{A:Around}{s:Shared}{ρ:Rho}{σ:St}{E:Value->Shared->Prop}{Z:Value->Shared->Prop}{Q:PV->St->Prop}
theorem YS{vs:List Value}{ys:List Str}(h:StrsAre vs ys):∃ l,vs=strValues l/\l.map (·.1)=ys:=by
 induction h with
 | nil=>exact⟨[],rfl,rfl⟩
 | cons y t _ ih=>exact ih.elim fun l e=>⟨(y,t)::l,congrArg (_ :: ·) e.1,congrArg (y :: ·) e.2⟩
theorem VB{T:Nat}{h:Heap}:∀ (l:List (Str×Tok)),(∀ z∈l.map (·.1),z.length<=sizeLine)->VRs g T h ρ ((l.map (·.1)).map fun z=>.str z false) (strValues l)
 | [],_=>.nil
 | (y,t)::l,hz=>.cons (.str _ _ _ (hz y (.head _)) fun e=>by exact noF e) (VB l fun z hm=>hz z (.tail _ hm))
theorem Cont.setList(R:Rel g s.toks ρ σ s.heap)(hP:Cont g [] s ρ Q Z){i:Nat}{l:Addr}{vs:List PV}{xs:List Value}{h':Heap}{ys:Array Value}(h0:s.heap.PlainList l ys)(hi:ρ[i]? = some (l,l))(hs:Heap.SameBut l s.heap h')(hl:h'.PlainList l xs.toArray)(hz:vs.length<=sizeLine)
  (V:VRs g s.toks s.heap ρ vs xs) (q:Q .none (σ.set i (.list vs))):Z .none {s with heap:=h' }:=by
 have nt:∀ zs,¬ IsTup s.heap l zs:=fun zs ht=>(R.out_tup ht (l,l) (List.mem_of_getElem? hi)).1 rfl
 have tups:∀ a zs,IsTup s.heap a zs->IsTup h' a zs:=fun a zs ht=>by
  refine AD ?_<|id ht;intro o ho r
  exact⟨o,(hs.2 a fun e=>nt zs (e▸ht)).trans ho,r⟩
 have notd:IsDict s.heap l->False:=fun⟨o,es,n,ho,hd⟩=>by
  revert h0;refine AR ?_;intro m ho'
  rw[ho']at ho;replace ho:=sj ho;subst ho;cases hd
 exact hP _ _ ρ .none _ ⟨R.change (o':=.list vs) (Nat.le_refl _) hi (.inl rfl) hs ⟨rfl,hz,xs,hl,V.mono (Nat.le_refl _) tups fun _ _ z=>z⟩,Grow.change hi (.inl rfl) hs (fun hd=>(notd hd).elim),Nat.le_refl _,⟨rfl,rfl,rfl⟩⟩ .none q
noncomputable def b9k:Mt->PV->String×String×String
 | .find,.bytes _=>("bytes","find","bytes.find") | .endswith,.bytes _=>("bytes","endswith","bytes.endswith") | .lstrip,_=>("bytes","lstrip","bytes.lstrip") | .join,.bytes _=>("bytes","join","bytes.join")
 | .find,_=>("str","find","str.find") | .lower,_=>("str","lower","str.lower") | .startswith,_=>("str","startswith","str.startswith") | .endswith,_=>("str","endswith","str.endswith") | .count,_=>("str","count","str.count")
 | .replace,_=>("str","replace","str.replace") | .join,_=>("str","join","str.join") | .split,_=>("str","split","str.split")
 | .append,_=>("list","append","list.append") | .extend,_=>("list","extend","list.extend") | .get,_=>("dict","get","dict.get") | .own _,_=>("","","")
noncomputable def mid(m:Mt)(v:PV):String:=(b9k m v).2.2
theorem KL{α:Type}{f:Str->Option α}{K:α->Prop}{v:PV}{C:PV->Prop}(h:opt (aS v f) K)(k:∀ y b,opt (f y) K->C (.str y b)):C v:=by induction v using PV.casesOn<;>first | exact h.elim | exact k _ _ h
theorem VC{α:Type}{f:List UInt8->Option α}{K:α->Prop}{v:PV}{C:PV->Prop}(h:opt (aB v f) K)(k:∀ y,opt (f y) K->C (.bytes y)):C v:=by induction v using PV.casesOn<;>first | exact h.elim | exact k _ h
theorem VD{α:Type}{f:Nat->Option α}{K:α->Prop}{v:PV}{C:PV->Prop}(h:opt (aR v f) K)(k:∀ y,opt (f y) K->C (.ref y)):C v:=by induction v using PV.casesOn<;>first | exact h.elim | exact k _ h
set_option tactic.hygienic true in
theorem b3m{C:PV->Mt->Prop}{o:PV}{m:Mt}{K:PV×St->Prop}(h:opt (meth σ o m []) K)(k:∀ x a,fits x.length=true/\K (.str (Txt.lower x) true,σ)->C (.str x a) .lower):C o m:=by
 induction o using PV.casesOn<;>try exact h.elim
 ·induction m using Mt.casesOn<;>first | exact h.elim | exact k _ _ (BW h)
 ·induction m using Mt.casesOn<;>first | exact h.elim | skip
  rename_i b
  induction b using List.casesOn<;>exact h.elim
 ·induction m using Mt.casesOn<;>exact h.elim
set_option tactic.hygienic true in
theorem b3n{C:PV->Mt->PV->List PV->Prop}{o:PV}{m:Mt}{u v:PV}{r:List PV}{K:PV×St->Prop}(h:opt (meth σ o m (u::v::r)) K)(k0:∀ o u r,C o .replace u r)(k:∀ i x a kvs,dictAt σ i=some kvs->K ((DQ x kvs).getD v,σ)->C (.ref i) .get (.str x a) []):C o m u r:=by
 induction o using PV.casesOn<;>try exact h.elim
 ·induction m using Mt.casesOn<;>first | exact h.elim | exact k0 _ _ _
 ·induction m using Mt.casesOn<;>first | exact h.elim | skip
  ·rename_i b
   induction b using List.casesOn<;>exact h.elim
 ·induction m using Mt.casesOn<;>first | exact h.elim | exact k0 _ _ _ | skip
  induction r using List.casesOn with
  | cons _ _=>exact h.elim
  | nil =>
   rename_i i
   refine KL (C:=fun u=>C (.ref i) .get u []) h fun x a h=>?_
   cases e:dictAt σ i with
   | none=>rw[e]at h;exact h.elim
   | some kvs=>rw[e]at h;exact k _ _ _ _ e h
set_option tactic.hygienic true in
theorem b3o{C:PV->Mt->PV->Prop}{o:PV}{m:Mt}{u:PV}{K:PV×St->Prop}(h:opt (meth σ o m [u]) K)(k1:∀ x a y b,K (.int (Txt.find x y),σ)->C (.str x a) .find (.str y b))(k2:∀ x a y b,K (.bool (Txt.startswith x y),σ)->C (.str x a) .startswith (.str y b))(k3:∀ x a y b,K (.bool (Txt.endswith x y),σ)->C (.str x a) .endswith (.str y b))
  (k4:∀ x a y b,K (.int (Txt.count x y),σ)->C (.str x a) .count (.str y b)) (k5:∀ x a i us l,AK σ i=some us->BJ us=some l->(JoinOk x l=true/\fits (Txt.join x l).length=true)/\K (.str (Txt.join x l) false,σ)->C (.str x a) .join (.ref i))
  (k6:∀ x a y b,(y.length≠0/\fits x.length=true/\(Txt.split x y).all (fun z=>fits z.length)=true/\fits (Txt.split x y).length=true)/\K (.ref σ.length,σ++[.list ((Txt.split x y).map fun z=>.str z false)])->C (.str x a) .split (.str y b))
  (k7:∀ x y,K (.int (PU x y),σ)->C (.bytes x) .find (.bytes y)) (k8:∀ x y,K (.bool (HA x y),σ)->C (.bytes x) .endswith (.bytes y)) (k9:∀ x y:List UInt8,K (.bytes (x.dropWhile fun c=>y.contains c),σ)->C (.bytes x) .lstrip (.bytes y))
  (k10:∀ i us l,AK σ i=some us->DF us=some l->(fits l.flatten.length&&fits l.length)=true/\K (.bytes l.flatten,σ)->C (.bytes []) .join (.ref i)) (k11:∀ i us,AK σ i=some us->fits us.length=true/\K (.none,σ.set i (.list (us++[u])))->C (.ref i) .append u)
  (k12:∀ i j us ws,AK σ i=some us->AK σ j=some ws->(i≠j/\fits (us.length+ws.length)=true)/\K (.none,σ.set i (.list (us++ws)))->C (.ref i) .extend (.ref j)):C o m u:=by
 induction o using PV.casesOn<;>try exact h.elim
 ·rename_i x a
  induction m using Mt.casesOn with
  | find=>exact KL (C:=fun u=>C _ _ u) h fun y b h=>k1 x a y b h
  | startswith=>exact KL (C:=fun u=>C _ _ u) h fun y b h=>k2 x a y b h
  | endswith=>exact KL (C:=fun u=>C _ _ u) h fun y b h=>k3 x a y b h
  | count=>exact KL (C:=fun u=>C _ _ u) h fun y b h=>k4 x a y b h
  | join =>
   refine VD (C:=fun u=>C _ _ u) h fun i h=>?_
   cases e1:AK σ i with
   | none=>rw[e1]at h;exact h.elim
   | some us =>
    rw[e1]at h
    dsimp only at h
    cases e2:BJ us with
    | none=>rw[e2]at h;exact h.elim
    | some l=>rw[e2]at h;exact k5 x a i us l e1 e2 (BW h)
  | split=>exact KL (C:=fun u=>C _ _ u) h fun y b h=>k6 x a y b (BW h)
  | _=>exact h.elim
 ·rename_i x
  induction m using Mt.casesOn with
  | find=>exact VC (C:=fun u=>C _ _ u) h fun y h=>k7 x y h
  | endswith=>exact VC (C:=fun u=>C _ _ u) h fun y h=>k8 x y h
  | lstrip=>exact VC (C:=fun u=>C _ _ u) h fun y h=>k9 x y h
  | join =>
   induction x using List.casesOn with
   | cons _ _=>exact h.elim
   | nil =>
    refine VD (C:=fun u=>C _ _ u) h fun i h=>?_
    cases e1:AK σ i with
    | none=>rw[e1]at h;exact h.elim
    | some us =>
     rw[e1]at h
     dsimp only at h
     cases e2:DF us with
     | none=>rw[e2]at h;exact h.elim
     | some l=>rw[e2]at h;exact k10 i us l e1 e2 (BW h)
  | _=>exact h.elim
 ·rename_i i
  induction m using Mt.casesOn with
  | append =>
   replace h:opt (match AK σ i with | some vs=>if fits vs.length then some (PV.none,σ.set i (.list (vs++[u])))else none | none=>none) K:=h
   cases e1:AK σ i with
   | none=>rw[e1]at h;exact h.elim
   | some us=>rw[e1]at h;exact k11 i us e1 (BW h)
  | extend =>
   refine VD (C:=fun u=>C _ _ u) h fun j h=>?_
   cases e1:AK σ i with
   | none=>rw[e1]at h;exact h.elim
   | some us =>
    rw[e1]at h
    dsimp only at h
    cases e2:AK σ j with
    | none=>rw[e2]at h;exact h.elim
    | some ws=>rw[e2]at h;exact k12 i j us ws e1 e2 (BW h)
  | _=>exact h.elim
theorem YT{x y:Str}{t u:Tok}(R:Rel g s.toks ρ σ s.heap)(hP:Cont g [] s ρ Q Z)(h:(y.length≠0/\fits x.length=true/\(Txt.split x y).all (fun z=>fits z.length)=true/\fits (Txt.split x y).length=true)/\Q (.ref σ.length) (σ++[.list ((Txt.split x y).map fun z=>.str z false)])) :
  wpAny (model g.prog g.w) A (call (.builtin "str.split") [.str x t,.str y u]) Z E s:=by
 have szl:=sizeLine_eq
 revert h;refine oA2 ?_;rintro⟨hy0,hf1,hf2,hf3⟩ h
 have hz:=fits_iff.mp hf1
 have hyl:(y.length==0)=false:=by simpa using hy0
 have hall:∀ z∈Txt.split x y,z.length<=sizeLine:=fun z hm=>CA (List.all_eq_true.mp hf2 z hm)
 have fin:∀ (l:List (Str×Tok)) (k:Nat),s.toks<=k->l.map (·.1)=Txt.split x y->Z (.ref s.heap.objs.size) {s with heap:=s.heap.push {cls:=.type "list",data:=.seq (strValues l).toArray 0 },toks:=k }:=fun l k hk e=>by
  refine hP.newList R hk (by rw[List.length_map];exact CA hf3) ?_ h
  rw[← e]at hall ⊢
  exact VB l hall
 have hn:(Builtin.Str.partsBetween x (Builtin.Str.occurrences x y 0 x.length (x.length+1)) y.length).length<=sizeLine:=by
  have e1:=StrLaws.occ_length_le x y 0 x.length (x.length+1)
  rw[length_partsBetween];lia
 show wpAny (model g.prog g.w) A (call (.builtin "str.split") _) Z E s
 cases h1:(decide (x.length<y.length)||decide (Builtin.Str.strKind x<Builtin.Str.strKind y))
 ·cases hf:(Builtin.Str.occurrences x y 0 x.length (x.length+1)).isEmpty
  ·refine call_meets PySem.F.slot_str_split (typeIs_str _ _ _) PySem.F.entry_str_split (PySem.F.args_str_split_2 _ _) (PySem.meets_str_split_sep x y t u h1 hyl hf (by exact ar1) hn) ?_
   show wants Z E _ {s with toks:=_,heap:=s.heap.push {cls:=.type "list",data:=.seq (strsFrom s.toks (Builtin.Str.partsBetween x (Builtin.Str.occurrences x y 0 x.length (x.length+1)) y.length)).toArray } }
   rw[strsFrom_eq]
   exact fin (numbered s.toks _) _ (Nat.le_add_right _ _) ((numbered_texts _ _).trans ((if_neg (ne_true_of_eq_false h1)).trans (if_neg (ne_true_of_eq_false hf))).symm)
  ·exact call_meets PySem.F.slot_str_split (typeIs_str _ _ _) PySem.F.entry_str_split (PySem.F.args_str_split_2 _ _) (PySem.meets_str_split_not_found x y t u h1 hyl hf) (fin [(x,t)] s.toks (Nat.le_refl _) ((if_neg (ne_true_of_eq_false h1)).trans (if_pos hf)).symm)
 ·exact call_meets PySem.F.slot_str_split (typeIs_str _ _ _) PySem.F.entry_str_split (PySem.F.args_str_split_2 _ _) (PySem.meets_str_split_cannot_occur x y t u h1) (fin [(x,t)] s.toks (Nat.le_refl _) (if_pos h1).symm)
theorem YU{m:Mt}{o u:PV}{x:Value}{xs:List Value}(c:At g fr A σ ρ s)(U:VR g s.toks s.heap ρ o x)(V:VRs g s.toks s.heap ρ [u] xs)(h:opt (meth σ o m [u]) fun r=>Q r.1 r.2)(hP:Cont g [] s ρ Q Z) :
  wpAny (model g.prog g.w) A (call (.builtin (mid m o)) (x::xs)) Z E s:=by
 have R:=c.rel
 have szl:=sizeLine_eq
 have T1:=Nat.le_succ s.toks
 refine V.oneI fun y V'=>?_
 clear V
 revert U V'
 refine b3o (C:=fun o m u=>VR g s.toks s.heap ρ o x->VR g s.toks s.heap ρ u y->wpAny (model g.prog g.w) A (call (.builtin (mid m o)) [x,y]) Z E s) h (fun a oa b ob h U V=>?_) (fun a oa b ob h U V=>?_) (fun a oa b ob h U V=>?_) (fun a oa b ob h U V=>?_) (fun a oa i us l e1 e2 h U V=>?_) (fun a oa b ob h U V=>?_) (fun a b h U V=>?_) (fun a b h U V=>?_) (fun a b h U V=>?_) (fun i us l e1 e2 h U V=>?_) (fun i us e1 h U V=>?_) (fun i j us ws e1 e2 h U V=>?_)
 ·exact U.strI fun t _ _=>V.strI fun u _ _=>SC.find (hP.tok R T1 (.int _ _) h)
 ·exact U.strI fun t _ _=>V.strI fun u _ _=>SC.startswith (hP.here R (.bool _) h)
 ·exact U.strI fun t _ _=>V.strI fun u _ _=>SC.endswith (hP.here R (.bool _) h)
 ·exact U.strI fun t _ _=>V.strI fun u _ _=>SC.count (hP.tok R T1 (.int _ _) h)
 ·refine U.strI fun t hx ho=>?_
  obtain⟨ad,zs,rfl,_,hl,Va,hz⟩:=R.list e1 V
  refine AD ?_<|YS (OV Va e2);rintro l' rfl e4
  exact wpAny_with_toks (n:=s.toks) (Nat.le_refl _) (SC.join hl.isList e4 h.1.1 fun t' k hk=>hP.tok R hk (.str _ false _ (CA h.1.2) fun e=>nomatch e) h.2)
 ·exact U.strI fun t hx ho=>V.strI fun u _ _=>YT R hP h
 ·revert h
  refine U.bytesI fun b t hb=>?_
  refine V.bytesI fun y u hy h=>?_
  show wpAny (model g.prog g.w) A (call (.builtin "bytes.find") _) Z E s
  exact call_meets FX.slot_find (typeIs_bytes _ _ _) FX.entry_find (FX.args_find _ _) a0h (hP.tok R T1 (.int _ _) h)
 ·revert h
  refine U.bytesI fun b t hb=>?_
  refine V.bytesI fun y u hy h=>?_
  show wpAny (model g.prog g.w) A (call (.builtin "bytes.endswith") _) Z E s
  exact call_meets FB.slot_bytes_endswith (typeIs_bytes _ _ _) FB.entry_bytes_endswith (FB.args_bytes_endswith_2 _ _) a0i (hP.here R (.bool _) h)
 ·revert h
  refine U.bytesI fun b t hb=>?_
  refine V.bytesI fun y u hy h=>?_
  show wpAny (model g.prog g.w) A (call (.builtin "bytes.lstrip") _) Z E s
  refine call_meets FX.slot_lstrip (typeIs_bytes _ _ _) FX.entry_lstrip (FX.args_lstrip _ _) (UZ hb) fun t' k hk=>hP.tok R hk ?_ h
  have:=VR.bytes (g:=g) (T:=k) (h:=s.heap) (ρ:=ρ) (b.toList.dropWhile fun c=>y.toList.contains c).toArray t' (by
   have:=(List.dropWhile_sublist (fun c=>y.toList.contains c) (l:=b.toList)).length_le
   rw[Array.length_toList]at this
   exact Nat.le_trans this hb)
  exact this
 ·have hB:∃ t,x = .bytes #[] t:=by
   have key:∀ (eb:List UInt8) (x:Value),VR g s.toks s.heap ρ (.bytes eb) x->eb=[]->∃ t,x = .bytes #[] t:=fun eb x U=>U.bytesI fun b t hb e=>⟨t,by induction b using Array.casesOn;subst e;rfl⟩
   exact key _ _ U rfl
  revert hB;refine AR ?_;rintro t rfl
  obtain⟨ad,zs,rfl,_,hl,Va,hz⟩:=R.list e1 V
  refine AD ?_<|a2m Va e2;intro ys h1 h2
  have h3:=a0k ys #[]
  rw[h2]at h3
  have hf:=h.1
  rw[Bool.and_eq_true]at hf
  have hsz:(ys.foldl (· ++ ·) #[]).size=l.flatten.length:=by rw[← Array.length_toList,h3];simp
  have h4:=fits_iff.mp hf.1
  refine AR ?_<|id hl;intro n ho
  show wpAny (model g.prog g.w) A (call (.builtin "bytes.join") _) Z E s
  refine call_meets FX.slot_join (typeIs_bytes _ _ _) FX.entry_join (FX.args_join _ _) (a0j (n:=n) (items:=zs.toArray) (by simpa using h1) (by lia)) ⟨ho,fun t' k hk=>hP.tok R hk ?_ h.2⟩
  have:=VR.bytes (g:=g) (T:=k) (h:=s.heap) (ρ:=ρ) (ys.foldl (· ++ ·) #[]) t' (by lia)
  rw[h3]at this
  simpa using this
 ·obtain⟨ad,zs,rfl,hi,hl,Va,hz⟩:=R.list e1 U
  have hz':=fits_iff.mp h.1
  have len:=Va.length
  refine wpAny_list_append_plain hl (fun h' hl' hs=>?_) (by rw[List.size_toArray,← len];exact hz)
  exact hP.setList R (xs:=zs++[y]) hl hi hs (by simpa using hl') (by rw[List.length_append];show us.length+1<=_;exact ar2) (Va.append (.cons V .nil)) h.2
 ·obtain⟨ad,zs,rfl,hi,hl,Va,hz⟩:=R.list e1 U
  obtain⟨bd,ys,rfl,hj,hl2,Vb,hz2⟩:=R.list e2 V
  have hz':=fits_iff.mp h.1.2
  refine AR ?_<|id hl;intro n ho
  refine AR ?_<|id hl2;intro n2 ho2
  have la:=Va.length
  have lb:=Vb.length
  have q:=AutoSeq1.list_extend_list_list_0 ad zs.toArray n bd ys.toArray n2 (by
   simp only[Builtin.List.listTooLong];simp[← la,← lb];lia) (by simp[← la];exact ar1) (by simp[← la,← lb];exact ar1)
  show wpAny (model g.prog g.w) A (call (.builtin "list.extend") _) Z E s
  refine call_meets PySem.F.slot_list_extend ⟨_,ho,rfl⟩ PySem.F.entry_list_extend (PySem.F.args_list_extend_2 _ _) q ⟨ho,ho2,?_⟩
  have up:=Heap.get?_update_self (Obj.mapSeq fun x=>x++ys.toArray) ho (by rfl)
  exact hP.setList R (xs:=zs++ys) hl hi (Heap.SameBut.update ..) ⟨_,by simpa [Obj.mapSeq] using up⟩ (by rw[List.length_append];exact ar1) (Va.append Vb) h.2
theorem a0l{m:Mt}{o:PV}{vs:List PV}{x:Value}{xs:List Value}(c:At g fr A σ ρ s)(hm:m≠.replace)(U:VR g s.toks s.heap ρ o x)(V:VRs g s.toks s.heap ρ vs xs)(h:opt (meth σ o m vs) fun r=>Q r.1 r.2)(hP:Cont g [] s ρ Q Z) :
  wpAny (model g.prog g.w) A (call (.builtin (mid m o)) (x::xs)) Z E s:=by
 have R:=c.rel
 have szl:=sizeLine_eq
 induction vs using List.casesOn with
 | nil =>
  revert U
  refine b3m (C:=fun o m=>VR g s.toks s.heap ρ o x->wpAny (model g.prog g.w) A (call (.builtin (mid m o)) (x::xs)) Z E s) h fun y a h' U=>?_
  have hz:=fits_iff.mp h'.1
  exact V.nilI (U.strI fun t hx ho=>SCL.lower (by lia) fun hl=>hP.tok R (Nat.le_succ _) (.str _ _ _ (by lia) fun _=>⟨Nat.ne_of_gt c.toks,Nat.lt_succ_self _⟩) h'.2)
 | cons u r =>
  induction r using List.casesOn with
  | nil=>exact YU c U V h hP
  | cons v r =>
   revert hm U V
   refine b3n (C:=fun o m u r=>m≠.replace->VR g s.toks s.heap ρ o x->VRs g s.toks s.heap ρ (u::v::r) xs->wpAny (model g.prog g.w) A (call (.builtin (mid m o)) (x::xs)) Z E s) h (fun _ _ _ hm _ _=>absurd rfl hm) fun i k a kvs e5 h' hm U V=>?_
   refine V.consI fun y ys V1 V=>V.oneI fun z V2=>V1.strI fun t hy hv=>?_
   obtain⟨ad,zs,rfl,hi,hD,Va,hs⟩:=R.dict e5 U
   show wpAny (model g.prog g.w) A (call (.builtin "dict.get") _) Z E s
   refine call_meetsIn PySem.F.slot_dict_get hD.mapOf.typeIs PySem.F.entry_dict_get (PySem.F.args_dict_get_3 _ _ _) (meets_dict_get_default (strKind g.prog g.w) ad (strKind_is g.prog g.w _ _) hs _) ⟨_,hD.mapOf,?_⟩
   have q:=Va.at (k:=k)
   have lift:∀ {v:PV} {x:Value},VR g s.toks s.heap ρ v x->VR g (s.toks+1) s.heap ρ v x:=fun V=>V.mono (Nat.le_succ _) (fun _ _ z=>z) fun _ _ z=>z
   cases e2:DQ k kvs with
   | none =>
    rw[e2]at h' q
    rw[show valueAt zs k=none from q]
    exact hP.tok R (Nat.le_succ _) (lift V2) h'
   | some v =>
    rw[e2]at h' q
    revert q;refine AD ?_;intro y e3 Vy
    rw[e3]
    exact hP.tok R (Nat.le_succ _) (lift Vy) h'
theorem MD{x y z:Str}{a b:Bool}{vx vy vz:Value}{o:PV}(c:At g fr A σ ρ s)(U:VR g s.toks s.heap ρ (.str x a) (.str x t))(huv:u≠v)(V:VR g s.toks s.heap ρ (.str y true) (.str y u))(W:VR g s.toks s.heap ρ (.str z true) (.str z v))
  (h:opt (meth σ (.str x a) .replace [.str y true,.str z true]) fun r=>Q r.1 r.2) (hP:Cont g [] s ρ Q Z):wpAny (model g.prog g.w) A (call (.builtin "str.replace") [.str x t,.str y u,.str z v]) Z E s:=by
 have R:=c.rel
 have szl:=sizeLine_eq
 refine oA2 ?_<|BW h;rintro⟨h1,h2,h3⟩ h
 obtain⟨_,e,_,hv⟩:=V.inv
 cases e
 obtain⟨_,e,_,hw⟩:=W.inv
 cases e
 have hz:=fits_iff.mp h2
 exact wpAny_with_toks (n:=s.toks) (Nat.le_refl _) (SC.replace (hv rfl).1 (hw rfl).1 huv (by simpa using h1) (by exact ar1) fun t' k hk=>hP.tok R hk (.str _ _ _ (CA h3) fun e=>by exact noF e) h)
end
end Mine
end
section
open PySem PySem.W PyProof.Rows PySem.Calls
namespace Mine
set_option tactic.hygienic false
structure TOk(g:G)(fr:Bool)(n:Nat)(T:Tb):Prop where
 gl:T.gl=glv
 ini:T.ini=inits
 mth:T.mth=methF
 C:∀ Z f vs σ Q X,T.C f vs σ Q X->JM (g.at Z) fr n f vs σ Q X
 C':∀ Z f vs σ Q X,T.C' f vs σ Q X->JM (g.at Z) false n f vs σ Q X
 free:T.free->fr=true
noncomputable def b3p(g:G)(sc:List (Str×NameKind))(e:Expr)(me:ME):Prop:=∀ {fr n T A env Λ σ ρ s Q X P E},TOk g fr n T->Ctx g fr n A env sc Λ σ ρ s->wpE T me Λ σ Q X →
 Cont g [] s ρ Q P->ContX g A [] s ρ X E->wpAny (model g.prog g.w) A (eval e env) P E s
noncomputable def b9l(g:G)(sc:List (Str×NameKind))(e:Expr)(me:ME):Prop:=∀ {fr n T A env Λ σ ρ s K X P E} {Q:Bool->St->Prop},TOk g fr n T->Ctx g fr n A env sc Λ σ ρ s->wpE T me Λ σ K X →
 (∀ pv σ',K pv σ'->∃ t,truth pv=some t/\Q t σ')->(∀ b s' ρ' σ',Post g [] s ρ s' ρ' σ'->Q b σ'->P b s')->ContX g A [] s ρ X E->wpAny (model g.prog g.w) A (isTrue e env (eval e env)) P E s
noncomputable def Snd(g:G)(sc:List (Str×NameKind))(e:Expr)(me:ME):Prop:=b3p g sc e me/\b9l g sc e me
section
variable {g:G}{fr:Bool}{A:Around}{s s₁:Shared}{ρ ρ₁:Rho}{σ σ₁:St}{E:Value->Shared->Prop}{Z:Value->Shared->Prop}{Q:PV->St->Prop}{X:St->Prop}{sc:List (Str×NameKind)}
theorem Cont.after(p:Post g [] s ρ s₁ ρ₁ σ₁)(hP:Cont g [] s ρ Q Z):Cont g [] s₁ ρ₁ Q Z:=fun y s' ρ' pv σ' p' V q=>hP y s' ρ' pv σ' (p.trans p') V q
theorem ContX.after(p:Post g [] s ρ s₁ ρ₁ σ₁)(hE:ContX g A [] s ρ X E):ContX g A [] s₁ ρ₁ X E:=fun x s' ρ' σ' p' q=>hE x s' ρ' σ' (XPost.trans p p') q
theorem LF{pv:PV}{t:Bool}(h:truth pv=some t):pv = .bool t:=by
 induction pv using PV.casesOn<;>unfold truth at h<;>cases h
 rfl
theorem CZ{pv:PV}{Q:Bool->Prop}(h:opt (truth pv) Q):∃ t,pv = .bool t/\Q t:=by
 induction pv using PV.casesOn<;>first | exact h.elim | exact⟨_,rfl,h⟩
theorem BZ{e:Expr}{me:ME}(he:∀ env whole,isTrue e env whole=(do let v ← whole;standAt e.pos;holding [v] (truthy v)))(h:b3p g sc e me):Snd g sc e me:=by
 refine⟨h,fun{fr n T A env Λ σ ρ s K X P E Q} hT c hw hK hP hE=>?_⟩
 refine wpAny_isTrue_value (h hT c hw (Q:=K) (fun y s' ρ' pv σ' p V k=>?_) hE) (he _ _)
 refine AD ?_<|hK pv σ' k;intro t e1 q
 rw[LF e1]at V
 obtain rfl:=V.inv
 exact wpAny_truthy_bool (hP t s' ρ' σ' p q)
theorem a5p{k pos}:Snd g sc (.Constant .none k pos) .none :=
 BZ (fun _ _=>rfl) fun _ c h hP _=>Constant_none (hP.here c.at_.rel .none h)
theorem a5q{b k pos}:Snd g sc (.Constant (.bool b) k pos) (.bool b) :=
 BZ (fun _ _=>rfl) fun _ c h hP _=>Constant_bool (hP.here c.at_.rel (.bool b) h)
theorem TB{M:Model}{env:Env}{i:Int}{k pos}{P:Value->Shared->Prop}(h:P (.int i s.toks) {s with toks:=s.toks+1 }):wpAny M A (eval (.Constant (.int i) k pos) env) P E s:=fun _ _ _=>h
theorem ZC{i k pos}:Snd g sc (.Constant (.int i) k pos) (.int i) :=
 BZ (fun _ _=>rfl) fun _ c h hP _=>TB (hP.tok c.at_.rel (Nat.le_succ _) (.int i _) h)
theorem b0x{x:Str}{k pos}(hx:fits x.length=true):Snd g sc (.Constant (.str x) k pos) (.str x) :=
 BZ (fun _ _=>rfl) fun _ c h hP _=>Constant_str (hP.tok c.at_.rel (Nat.le_succ _) (.str x true _ (CA hx) fun _=>⟨Nat.ne_of_gt c.at_.toks,Nat.lt_succ_self _⟩) h)
theorem a2n{x:List UInt8}{k pos}(hx:fits x.length=true):Snd g sc (.Constant (.bytes x) k pos) (.bytes x) :=
 BZ (fun _ _=>rfl) fun _ c h hP _=>Constant_bytes (hP.tok c.at_.rel (Nat.le_succ _) (by simpa using VR.bytes x.toArray _ (by simpa using CA hx)) h)
theorem b0y{i k p pos}:Snd g sc (.UnaryOp .USub (.Constant (.int i) k p) pos) (.int (-i)) :=
 BZ (fun _ _=>rfl) fun{_ _ _ _ _ _ _ _ s _ _ _ _} _ c h hP _=>wpAny_UnaryOp (TB (neg_int (hP.tok c.at_.rel (k:=s.toks+1+1) (by lia) (.int (-i) _) h)))
theorem b0z{a b ma mb pos}{op:BOp}(ha:Snd g sc a ma)(hb:Snd g sc b mb):Snd g sc (.BinOp a (opB op) b pos) (.bin op ma mb) :=
 BZ (fun _ _=>rfl) fun{fr n T A env Λ σ ρ s Q X P E} hT c h hP hE=>by
  refine wpAny_bind (ha.1 hT c h (fun x s₁ ρ₁ v σ₁ p₁ V₁ h₁=>?_) hE)
  refine wpAny_bind (wpAny_holding (hb.1 hT (c.next p₁) h₁ (fun y s₂ ρ₂ u σ₂ p₂ V₂ h₂=>?_) (hE.after p₁)))
  refine wpAny_bind (wpAny_standAt (wpAny_operate' ?_))
  exact a2f ((c.next p₁).next p₂).at_ (V₁.next p₁.rel p₂) V₂ h₂ (hP.after (p₁.trans p₂))
theorem VE{op:CmpOp}{r:Expr}(h:behindInMarks op r=false)(t:Sem Value):markedBehindIn op r t=t:=markedBehindIn_of_false h
theorem CH{α:Type}{o:Option α}{Q:α->Prop}(h:opt o Q):∃ a,o=some a/\Q a:=by induction o using Option.casesOn with | none=>exact h.elim | some a=>exact⟨a,rfl,h⟩
theorem b1a{a b ma mb pos}{op:COp}(ha:Snd g sc a ma)(hb:Snd g sc b mb)(hm:behindInMarks (opC op) b=false):Snd g sc (.Compare a [opC op] [b] pos) (.cmp op ma mb):=by
 have go:∀ {fr n T A env Λ σ ρ s Q X E} {P:Value->Shared->Prop},TOk g fr n T->Ctx g fr n A env sc Λ σ ρ s->wpE T (.cmp op ma mb) Λ σ Q X->Cont g [] s ρ Q P->ContX g A [] s ρ X E →
   wpAny (model g.prog g.w) A (eval a env) (fun x s₁=>wpAny (model g.prog g.w) A (eval b env) (fun y s₂=>wpAny (model g.prog g.w) A (compareOp (opC op) x y) P E s₂) E s₁) E s :=
  fun{fr n T A env Λ σ ρ s Q X E P} hT c h hP hE=>by
   refine ha.1 hT c h (fun x s₁ ρ₁ v σ₁ p₁ V₁ h₁=>?_) hE
   refine hb.1 hT (c.next p₁) h₁ (fun y s₂ ρ₂ u σ₂ p₂ V₂ h₂=>?_) (hE.after p₁)
   exact MH ((c.next p₁).next p₂).at_ (by have:=c.room.2;lia) (V₁.next p₁.rel p₂) V₂ h₂ (hP.after (p₁.trans p₂))
 refine⟨fun{fr n T A env Λ σ ρ s Q X P E} hT c h hP hE=>wpAny_Compare1 (go hT c h hP hE) hm,fun{fr n T A env Λ σ ρ s K X P E Q} hT c h hK hP hE=>?_⟩
 rw[arm_isTrue_Compare]
 have e:markedEach [opC op] [b] (evalEach [b] env)=[eval b env]:=by
  show[markedBehindIn (opC op) b (eval b env)]=_
  rw[VE hm]
 rw[e]
 refine wpAny_bind (wpAny_mono (go hT c h (P:=fun y s₂=>wpAny (model g.prog g.w) A (truthy y) P E s₂) (fun y s' ρ' pv σ' p V k=>?_) hE) (fun x s₁ h₁=>?_) fun _ _ z=>z)
 ·refine AD ?_<|hK pv σ' k;intro t e1 q
  rw[LF e1]at V
  obtain rfl:=V.inv
  exact wpAny_truthy_bool (hP t s' ρ' σ' p q)
 ·refine wpAny_bind (wpAny_holding (wpAny_mono h₁ (fun y s₂ h₂=>?_) fun _ _ z=>z))
  refine wpAny_bind (wpAny_standAt (wpAny_bind (wpAny_operate' (wpAny_mono h₂ (fun r s₃ h₃=>?_) fun _ _ z=>z))))
  exact wpAny_holding h₃
set_option tactic.hygienic true in
theorem a5r{a b d ma mb md pos}{op op':COp}(ha:Snd g sc a ma)(hb:Snd g sc b mb)(hd:Snd g sc d md)(hm:behindInMarks (opC op') d=false):Snd g sc (.Compare a [opC op,opC op'] [b,d] pos) (.cmp2 ma op mb op' md):=by
 have e:∀ env,markedEach [opC op,opC op'] [b,d] (evalEach [b,d] env)=[eval b env,eval d env]:=fun env=>by
  show[eval b env,markedBehindIn (opC op') d (eval d env)]=_
  rw[VE hm]
 have first:∀ {fr n T A env Λ σ ρ s E} {P:Bool->Value->Shared->Prop} {Q1:Bool->PV->St->Prop} {X},TOk g fr n T->Ctx g fr n A env sc Λ σ ρ s →
   wpE T ma Λ σ (fun x σ=>wpE T mb Λ σ (fun y σ=>opt (cmp σ op x y) fun r=>Q1 r y σ) X) X->(∀ r y s' ρ' u σ',Post g [] s ρ s' ρ' σ'->VR g s'.toks s'.heap ρ' u y->Q1 r u σ'->P r y s')->ContX g A [] s ρ X E →
   wpAny (model g.prog g.w) A (eval a env) (fun x s₁=>wpAny (model g.prog g.w) A (eval b env) (fun y s₂=>wpAny (model g.prog g.w) A (compareOp (opC op) x y) (fun r s₃=>∃ t,r = .bool t/\P t y s₃) E s₂) E s₁) E s :=
  fun{fr n T A env Λ σ ρ s E P Q1 X} hT c h hP hE=>by
   refine ha.1 hT c h (fun x s₁ ρ₁ v σ₁ p₁ V₁ h₁=>?_) hE
   refine hb.1 hT (c.next p₁) h₁ (fun y s₂ ρ₂ u σ₂ p₂ V₂ h₂=>?_) (hE.after p₁)
   refine MH (Q:=fun r σ'=>∃ t,r = .bool t/\Q1 t u σ') ((c.next p₁).next p₂).at_ (by have:=c.room.2;lia) (V₁.next p₁.rel p₂) V₂ ?_ ?_
   ·refine AD ?_<|CH h₂;intro t e1 q
    rw[e1];exact⟨t,rfl,q⟩
   ·rintro r s₃ ρ₃ pv σ₃ p₃ V₃ ⟨t,rfl,q⟩
    obtain rfl:=V₃.inv
    exact⟨t,rfl,hP t y s₃ ρ₃ u σ₃ ((p₁.trans p₂).trans p₃) (V₂.next p₂.rel p₃) q⟩
 have second:∀ {fr n T A env Λ σ ρ s E} {P:Value->Shared->Prop} {Q:PV->St->Prop} {X} {u y},TOk g fr n T->Ctx g fr n A env sc Λ σ ρ s->VR g s.toks s.heap ρ u y->wpE T md Λ σ (fun z σ=>opt (cmp σ op' u z) fun r=>Q (.bool r) σ) X →
   Cont g [] s ρ Q P->ContX g A [] s ρ X E->wpAny (model g.prog g.w) A (eval d env) (fun z s₂=>wpAny (model g.prog g.w) A (compareOp (opC op') y z) P E s₂) E s :=
  fun{fr n T A env Λ σ ρ s E P Q X u y} hT c V h hP hE=>by
   refine hd.1 hT c h (fun z s₁ ρ₁ v σ₁ p₁ V₁ h₁=>?_) hE
   exact MH (c.next p₁).at_ (by have:=c.room.2;lia) (V.next c.at_.rel p₁) V₁ h₁ (hP.after p₁)
 refine⟨fun{fr n T A env Λ σ ρ s Q X P E} hT c h hP hE=>?_,fun{fr n T A env Λ σ ρ s K X P E Q} hT c h hK hP hE=>?_⟩
 ·show wpAny _ _ (do compareChain pos (← eval a env) _ (markedEach [opC op,opC op'] [b,d] (evalEach [b,d] env))) _ _ _
  rw[e]
  refine wpAny_bind (wpAny_mono (first (P:=fun r y s₃=>if r=true then wpAny (model g.prog g.w) A (compareChain pos y [opC op'] [eval d env]) P E s₃ else P (.bool false) s₃) hT c h ?_ hE) (fun x s₁ h₁=>?_) fun _ _ z=>z)
  ·intro r y s' ρ' u σ' p V q
   split
   ·rename_i hr
    rw[if_pos hr]at q
    refine wpAny_bind (wpAny_holding (wpAny_mono (second hT (c.next p) V q (hP.after p) (hE.after p)) (fun z s₂ h₂=>?_) fun _ _ z=>z))
    exact wpAny_bind (wpAny_standAt (wpAny_operate' h₂))
   ·rename_i hr
    rw[if_neg hr]at q
    exact hP _ s' ρ' _ σ' p (.bool _) q
  ·refine wpAny_bind (wpAny_holding (wpAny_mono h₁ (fun y s₂ h₂=>?_) fun _ _ z=>z))
   refine wpAny_bind (wpAny_standAt (wpAny_bind (wpAny_holding (wpAny_mono h₂ (fun r s₃ h₃=>?_) fun _ _ z=>z))))
   revert h₃;refine AD ?_;rintro t rfl h₃
   refine wpAny_bind (wpAny_release' (wpAny_bind (wpAny_holding (wpAny_truthy_bool ?_))))
   induction t using Bool.casesOn
   ·exact wpAny_pure h₃
   ·exact h₃
 ·rw[arm_isTrue_Compare,e]
  refine wpAny_bind (wpAny_mono (first (P:=fun r y s₃=>if r=true then wpAny (model g.prog g.w) A (testChain pos y [opC op'] [eval d env]) P E s₃ else P false s₃) hT c h ?_ hE) (fun x s₁ h₁=>?_) fun _ _ z=>z)
  ·intro r y s' ρ' u σ' p V q
   split
   ·rename_i hr
    rw[if_pos hr]at q
    refine wpAny_bind (wpAny_holding (wpAny_mono (second (P:=fun r s₂=>wpAny (model g.prog g.w) A (truthy r) P E s₂) hT (c.next p) V q (fun y' s'' ρ'' pv σ'' p' V' k=>?_) (hE.after p)) (fun z s₂ h₂=>?_) fun _ _ z=>z))
    ·refine AD ?_<|hK pv σ'' k;intro t e1 q
     rw[LF e1]at V'
     obtain rfl:=V'.inv
     exact wpAny_truthy_bool (hP t s'' ρ'' σ'' (p.trans p') q)
    ·exact wpAny_bind (wpAny_standAt (wpAny_bind (wpAny_operate' (wpAny_mono h₂ (fun r s₃ h₃=>wpAny_holding h₃) fun _ _ z=>z))))
   ·rename_i hr
    rw[if_neg hr]at q
    refine AD ?_<|hK _ _ q;intro t e1 q
    replace e1:=sj e1;subst e1
    exact hP _ s' ρ' σ' p q
  ·refine wpAny_bind (wpAny_holding (wpAny_mono h₁ (fun y s₂ h₂=>?_) fun _ _ z=>z))
   refine wpAny_bind (wpAny_standAt (wpAny_bind (wpAny_holding (wpAny_mono h₂ (fun r s₃ h₃=>?_) fun _ _ z=>z))))
   revert h₃;refine AD ?_;rintro t rfl h₃
   refine wpAny_bind (wpAny_release' (wpAny_bind (wpAny_holding (wpAny_truthy_bool ?_))))
   induction t using Bool.casesOn
   ·exact wpAny_pure h₃
   ·exact h₃
theorem b1b{a ma pos}(ha:Snd g sc a ma):Snd g sc (.UnaryOp .Not a pos) (.not ma):=by
 refine⟨fun{fr n T A env Λ σ ρ s Q X P E} hT c h hP hE=>?_,fun{fr n T A env Λ σ ρ s K X P E Q} hT c h hK hP hE=>?_⟩
 ·refine wpAny_UnaryOp (ha.1 hT c h (fun x s₁ ρ₁ v σ₁ p₁ V₁ h₁=>?_) hE)
  refine AD ?_<|CZ h₁;rintro t rfl q
  obtain rfl:=V₁.inv
  exact not_value (wpAny_truthy_bool (hP _ s₁ ρ₁ _ σ₁ p₁ (.bool _) q))
 ·refine wpAny_isTrue_Not (ha.2 (Q:=fun t σ'=>K (.bool (!t)) σ') hT c h (fun pv σ' k=>?_) (fun b s' ρ' σ' p q=>?_) hE)
  ·refine AD ?_<|CZ k;rintro t rfl q
   exact⟨t,rfl,q⟩
  ·refine AD ?_<|hK _ _ q;intro t e1 q
   replace e1:=sj e1;subst e1
   exact hP _ s' ρ' σ' p q
theorem b1c{a b d ma mb md pos}(ha:Snd g sc a ma)(hb:Snd g sc b mb)(hd:Snd g sc d md):Snd g sc (.IfExp a b d pos) (.ite ma mb md):=by
 refine⟨fun{fr n T A env Λ σ ρ s Q X P E} hT c h hP hE=>?_,fun{fr n T A env Λ σ ρ s K X P E Q} hT c h hK hP hE=>?_⟩
 ·refine wpAny_IfExp (ha.2 (Q:=fun t σ'=>if t=true then wpE T mb Λ σ' Q X else wpE T md Λ σ' Q X) hT c h (fun pv σ' k=>?_) (fun t s' ρ' σ' p q=>?_) hE)
  ·refine AD ?_<|CZ k;rintro t rfl q
   exact⟨t,rfl,q⟩
  ·induction t using Bool.casesOn
   ·exact hd.1 hT (c.next p) q (hP.after p) (hE.after p)
   ·exact hb.1 hT (c.next p) q (hP.after p) (hE.after p)
 ·rw[arm_isTrue_IfExp]
  refine wpAny_bind (ha.2 (Q:=fun t σ'=>if t=true then wpE T mb Λ σ' K X else wpE T md Λ σ' K X) hT c h (fun pv σ' k=>?_) (fun t s' ρ' σ' p q=>?_) hE)
  ·refine AD ?_<|CZ k;rintro t rfl q
   exact⟨t,rfl,q⟩
  ·induction t using Bool.casesOn
   ·exact hd.2 hT (c.next p) q hK (fun b s'' ρ'' σ'' p'=>hP b s'' ρ'' σ'' (p.trans p')) (hE.after p)
   ·exact hb.2 hT (c.next p) q hK (fun b s'' ρ'' σ'' p'=>hP b s'' ρ'' σ'' (p.trans p')) (hE.after p)
noncomputable def VF(g:G)(sc:List (Str×NameKind))(op:BoolOp)(es:List Expr)(me:ME):Prop:=∀ {fr n T A env Λ σ ρ s Q X P E pos},TOk g fr n T->Ctx g fr n A env sc Λ σ ρ s->wpE T me Λ σ Q X →
 Cont g [] s ρ Q P->ContX g A [] s ρ X E->wpAny (model g.prog g.w) A (boolOp pos op (evalEach es env)) P E s
noncomputable def VG(g:G)(sc:List (Str×NameKind))(op:BoolOp)(es:List Expr)(me:ME):Prop:=∀ {fr n T A env Λ σ ρ s K X P E} {Q:Bool->St->Prop},TOk g fr n T->Ctx g fr n A env sc Λ σ ρ s->wpE T me Λ σ K X →
 (∀ pv σ',K pv σ'->∃ t,truth pv=some t/\Q t σ')->(∀ b s' ρ' σ',Post g [] s ρ s' ρ' σ'->Q b σ'->P b s')->ContX g A [] s ρ X E->wpAny (model g.prog g.w) A (allTrue op es env) P E s
noncomputable def mB:BoolOp->ME->ME->ME
 | .And=>.and
 | .Or=>.or
theorem a5s{op a ma}(ha:Snd g sc a ma):VF g sc op [a] ma/\VG g sc op [a] ma:=by
 refine⟨fun{fr n T A env Λ σ ρ s Q X P E pos} hT c h hP hE=>ha.1 hT c h hP hE,fun{fr n T A env Λ σ ρ s K X P E Q} hT c h hK hP hE=>?_⟩
 induction op using BoolOp.casesOn
 ·refine wpAny_allTrue_And_cons (ha.2 hT c h hK (fun t s' ρ' σ' p q=>?_) hE)
  induction t using Bool.casesOn
  ·exact hP _ s' ρ' σ' p q
  ·exact wpAny_allTrue_And_nil (hP _ s' ρ' σ' p q)
 ·refine wpAny_allTrue_Or_cons (ha.2 hT c h hK (fun t s' ρ' σ' p q=>?_) hE)
  induction t using Bool.casesOn
  ·exact wpAny_allTrue_Or_nil (hP _ s' ρ' σ' p q)
  ·exact hP _ s' ρ' σ' p q
theorem a2o{op a ma b r mr}(ha:Snd g sc a ma)(hr:VF g sc op (b::r) mr/\VG g sc op (b::r) mr):VF g sc op (a::b::r) (mB op ma mr)/\VG g sc op (a::b::r) (mB op ma mr):=by
 refine⟨fun{fr n T A env Λ σ ρ s Q X P E pos} hT c h hP hE=>?_,fun{fr n T A env Λ σ ρ s K X P E Q} hT c h hK hP hE=>?_⟩
 ·show wpAny _ _ (eval a env >>= _) _ _ _
  induction op using BoolOp.casesOn
  ·refine wpAny_bind (ha.1 hT c h (fun x s₁ ρ₁ v σ₁ p₁ V₁ h₁=>?_) hE)
   refine AD ?_<|CZ h₁;rintro t rfl q
   obtain rfl:=V₁.inv
   refine wpAny_bind (wpAny_standAt (wpAny_bind (wpAny_holding (wpAny_truthy_bool ?_))))
   induction t using Bool.casesOn
   ·exact wpAny_pure (hP _ s₁ ρ₁ _ σ₁ p₁ (.bool _) q)
   ·exact hr.1 hT (c.next p₁) q (hP.after p₁) (hE.after p₁)
  ·refine wpAny_bind (ha.1 hT c h (fun x s₁ ρ₁ v σ₁ p₁ V₁ h₁=>?_) hE)
   refine AD ?_<|CZ h₁;rintro t rfl q
   obtain rfl:=V₁.inv
   refine wpAny_bind (wpAny_standAt (wpAny_bind (wpAny_holding (wpAny_truthy_bool ?_))))
   induction t using Bool.casesOn
   ·exact hr.1 hT (c.next p₁) q (hP.after p₁) (hE.after p₁)
   ·exact wpAny_pure (hP _ s₁ ρ₁ _ σ₁ p₁ (.bool _) q)
 ·induction op using BoolOp.casesOn
  ·refine wpAny_allTrue_And_cons (ha.2 (Q:=fun t σ'=>if t=true then wpE T mr Λ σ' K X else K (.bool false) σ') hT c h (fun pv σ' k=>?_) (fun t s' ρ' σ' p q=>?_) hE)
   ·refine AD ?_<|CZ k;rintro t rfl q
    refine⟨t,rfl,?_⟩
    induction t using Bool.casesOn<;>exact q
   ·induction t using Bool.casesOn
    ·refine AD ?_<|hK _ _ q;intro t e1 q
     replace e1:=sj e1;subst e1
     exact hP _ s' ρ' σ' p q
    ·exact hr.2 hT (c.next p) q hK (fun b s'' ρ'' σ'' p'=>hP b s'' ρ'' σ'' (p.trans p')) (hE.after p)
  ·refine wpAny_allTrue_Or_cons (ha.2 (Q:=fun t σ'=>if t=true then K (.bool true) σ' else wpE T mr Λ σ' K X) hT c h (fun pv σ' k=>?_) (fun t s' ρ' σ' p q=>?_) hE)
   ·refine AD ?_<|CZ k;rintro t rfl q
    refine⟨t,rfl,?_⟩
    induction t using Bool.casesOn<;>exact q
   ·induction t using Bool.casesOn
    ·exact hr.2 hT (c.next p) q hK (fun b s'' ρ'' σ'' p'=>hP b s'' ρ'' σ'' (p.trans p')) (hE.after p)
    ·refine AD ?_<|hK _ _ q;intro t e1 q
     replace e1:=sj e1;subst e1
     exact hP _ s' ρ' σ' p q
theorem QB{op es me pos}(h:VF g sc op es me/\VG g sc op es me):Snd g sc (.BoolOp op es pos) me :=
 ⟨fun hT c w hP hE=>h.1 hT c w hP hE,fun hT c w hK hP hE=>wpAny_isTrue_BoolOp (h.2 hT c w hK hP hE)⟩
end
noncomputable def BG:Expr->Bool
 | .Starred _ _=>false
 | _=>true
noncomputable def DH(o:Expr):Bool:=match o with
 | .Call f as ks _=>match as with
  | []=>match ks with
   | []=>match f with
    | .Name _ _=>false
    | _=>true
   | _::_=>true
  | _::_=>true
 | _=>true
noncomputable def SC1(e:Expr):Prop:=∀ (es:List Expr) (env:Env),starEach (e::es) env=(false,eval e env)::starEach es env
theorem star1{e:Expr}(h:BG e=true):SC1 e:=by
 induction e using Expr.casesOn<;>first | exact fun _ _=>rfl | exact noF h
theorem EI{e:Expr}{es:List Expr}{env:Env}(h:BG e=true):starEach (e::es) env=(false,eval e env)::starEach es env:=star1 h es env
noncomputable def BP(o:Expr):Prop:=∀ (attr:Str) (env:Env) (whole:Sem Value),attributeBase o attr env whole=whole
theorem b1d{f a as ks p}:BP (.Call f (a::as) ks p):=by induction f using Expr.casesOn<;>exact fun _ _ w=>(rfl:w=w)
theorem b8h{f k ks p}:BP (.Call f [] (k::ks) p):=by induction f using Expr.casesOn<;>exact fun _ _ w=>(rfl:w=w)
theorem b3q{f p}(h:DH (.Call f [] [] p)=true):BP (.Call f [] [] p):=by
 induction f using Expr.casesOn<;>first | exact fun _ _ w=>(rfl:w=w) | exact noF h
theorem b1e{f as ks p}(h:DH (.Call f as ks p)=true):BP (.Call f as ks p):=by
 induction as using List.casesOn with
 | cons a as=>exact b1d
 | nil=>induction ks using List.casesOn with
  | cons k ks=>exact b8h
  | nil=>exact b3q h
theorem b8i{o:Expr}(h:DH o=true):BP o:=by
 induction o using Expr.casesOn<;>first | exact fun _ _ w=>(rfl:w=w) | exact b1e h
theorem QC{o:Expr}{attr:Str}{env:Env}{whole:Sem Value}(h:DH o=true):attributeBase o attr env whole=whole:=b8i h attr env whole
noncomputable def DY(x:Str):Bool := !(x==("__debug__":Str)) && !(x==("__classdict__":Str))
noncomputable def FO(g:G)(sc:List (Str×NameKind))(es:List Expr)(ms:List ME):Prop:=∀ {fr n T A env Λ σ ρ s X E pos} {Q:List PV->St->Prop} {P:List Value->Shared->Prop},TOk g fr n T->Ctx g fr n A env sc Λ σ ρ s->CX T ms Λ σ Q X →
 (∀ ys s' ρ' vs σ',Post g [] s ρ s' ρ' σ'->VRs g s'.toks s'.heap ρ' vs ys->ys.length=es.length->Q vs σ'->P ys s')->ContX g A [] s ρ X E->wpAny (model g.prog g.w) A (spliced (backTo pos (starEach es env))) P E s
theorem TC{env:Env}{pos:Pos}:∀ {es:List Expr},es.all BG=true->(backTo pos (starEach es env)).any (·.1)=false
 | [],_=>rfl
 | e::es,h=>by
  rw[List.all_cons,Bool.and_eq_true]at h
  rw[EI h.1]
  exact TC h.2
section
variable {g:G}{fr:Bool}{A:Around}{s s₁:Shared}{ρ ρ₁:Rho}{σ σ₁:St}{E:Value->Shared->Prop}{Z:Value->Shared->Prop}{Q:PV->St->Prop}{X:St->Prop}{sc:List (Str×NameKind)}
theorem OW{n env Λ k v pos}{id:Str}(c:Ctx g fr n A env sc Λ σ ρ s)(hn:nm k=id)(hk:sc.lookup id=some .local\/sc.lookup id=some .cell\/sc.lookup id=some .free)(hi:DY id=true)(h:get k Λ=some v) :
  ∃ x,VR g s.toks s.heap ρ v x/\∀ {A':Around} {M:Model} {P:Value->Shared->Prop} {E':Value->Shared->Prop} {s':Shared},s'.heap=s.heap->P x s'->wpAny M A' (eval (.Name id pos) env) P E' s':=by
 subst hn
 unfold DY at hi
 rw[Bool.and_eq_true,Bool.not_eq_true',Bool.not_eq_true']at hi
 have hko:env.kindOf (nm k)=sc.lookup (nm k):=by unfold Env.kindOf;rw[c.ok.names]
 rcases hk with hk | hk | hk
 ·obtain⟨m,hm,hv⟩:=c.loc.ns
  refine AD ?_<|hv k v h (hko.trans hk);intro x hx Vx
  exact⟨x,Vx,fun hs hP=>wpAny_Name (wpAny_loadName_local c.ok.kind (hko.trans hk) (by rw[hs];exact hm) hx hP) hi.1⟩
 ·refine DO ?_ (c.loc.cell k v h (by rw[hko,hk];decide));intro cl x hc hx Vx
  exact⟨x,Vx,fun hs hP=>wpAny_Name (wpAny_loadName_cell c.ok.kind (hko.trans hk) hc (by rw[hs];exact hx) hP) hi.1⟩
 ·refine DO ?_ (c.loc.cell k v h (by rw[hko,hk];decide));intro cl x hc hx Vx
  exact⟨x,Vx,fun hs hP=>wpAny_Name (wpAny_loadName_free c.ok.kind (hko.trans hk) hc (by rw[hs];exact hx) hP hi.2) hi.1⟩
theorem b1f{k pos}{id:Str}(hn:nm k=id)(hk:sc.lookup id=some .local\/sc.lookup id=some .cell\/sc.lookup id=some .free)(hi:DY id=true):Snd g sc (.Name id pos) (.var k) :=
 BZ (fun _ _=>rfl) fun{fr n T A env Λ σ ρ s Q X P E} hT c h hP hE=>by
  refine AD ?_<|CH h;intro v e1 q
  refine AD ?_<|OW (pos:=pos) c hn hk hi e1;intro x Vx f
  exact f rfl (hP.here c.at_.rel Vx q)
theorem Rel.baseNs{T:Nat}{h:Heap}{a:Addr}{m:Str->Option Value}(R:Rel g T ρ σ h)(x:g.B.Ns a m):h.Ns a m:=let⟨o,es,ep,ho,r⟩:=x;⟨o,es,ep,R.base _ _ ho,r⟩
theorem GS{n env Λ pos x}{id:Str}{mg:Str->Option Value}(c:Ctx g fr n A env sc Λ σ ρ s)(hk:sc.lookup id=some .globalImplicit)(hi:DY id=true)(hg:g.B.Ns mainGlobals mg)(hv:mg id=some x){M:Model}{P:Value->Shared->Prop}(h:P x s):wpAny M A (eval (.Name id pos) env) P E s:=by
 unfold DY at hi
 rw[Bool.and_eq_true,Bool.not_eq_true',Bool.not_eq_true']at hi
 have hko:env.kindOf id=sc.lookup id:=by unfold Env.kindOf;rw[c.ok.names]
 exact Name_function_global c.ok.kind (hko.trans hk) (loadGlobal_global (by rw[c.ok.glob];exact c.at_.rel.baseNs hg) hv h) hi.1
theorem RW{n env Λ pos x}{id:Str}{mg mb:Str->Option Value}(c:Ctx g fr n A env sc Λ σ ρ s)(hk:sc.lookup id=some .globalImplicit)(hi:DY id=true)(hg:g.B.Ns mainGlobals mg)(hb:g.B.Ns builtinsNs mb)(hn:mg id=none)(hv:mb id=some x){M:Model}{P:Value->Shared->Prop}(h:P x s) :
  wpAny M A (eval (.Name id pos) env) P E s:=by
 unfold DY at hi
 rw[Bool.and_eq_true,Bool.not_eq_true',Bool.not_eq_true']at hi
 have hko:env.kindOf id=sc.lookup id:=by unfold Env.kindOf;rw[c.ok.names]
 exact Name_function_global c.ok.kind (hko.trans hk) (loadGlobal_builtin (by rw[c.ok.glob];exact c.at_.rel.baseNs hg) hn (by rw[c.ok.blt];exact c.at_.rel.baseNs hb) hv h) hi.1
theorem a5t(hg:Ok g){k pos}{id:Str}(hk:sc.lookup id=some .globalImplicit)(hi:DY id=true)(hm:(id,k)∈gnames):Snd g sc (.Name id pos) (.glob k) :=
 BZ (fun _ _=>rfl) fun{fr n T A env Λ σ ρ s Q X P E} hT c h hP hE=>by
  obtain⟨mg,mb,h1,h2,_,_,h5,_⟩:=hg.glob
  refine AD ?_<|h5 _ hm;intro v hv V
  refine GS c hk hi h1 hv (hP.here c.at_.rel (V g.Z _ _ _ c.at_.rel.base fun z hz=>(c.at_.rel.hid z hz).2) ?_)
  rw[← hT.gl];exact h
theorem a5u(hg:Ok g){a ma k pos}{id:Str}(ha:Snd g sc a ma)(hn:nm k=id)(hb:DH a=true):Snd g sc (.Attribute a id pos) (.attr ma k) :=
 BZ (fun _ _=>rfl) fun{fr n T A env Λ σ ρ s Q X P E} hT c h hP hE=>by
  subst hn
  refine Attribute_any_ (ha.1 hT c h (fun x s₁ ρ₁ v σ₁ p₁ V₁ h₁=>?_) hE) ?_
  ·exact a0g hg (c.next p₁).at_ V₁ h₁ (hP.after p₁)
  ·show(attributeBase a (nm k) env (eval a env) >>= _)=_
   rw[QC hb]
noncomputable def OX:Expr->Bool
 | .Slice .. => false
 | _=>true
theorem b1g{a b ma mb pos}(ha:Snd g sc a ma)(hb:Snd g sc b mb)(hs:OX b=true):Snd g sc (.Subscript a b pos) (.idx ma mb) :=
 BZ (fun _ _=>rfl) fun{fr n T A env Λ σ ρ s Q X P E} hT c h hP hE=>by
  refine Subscript_ (ha.1 hT c h (fun x s₁ ρ₁ v σ₁ p₁ V₁ h₁=>?_) hE)
  refine hb.1 hT (c.next p₁) h₁ (fun y s₂ ρ₂ u σ₂ p₂ V₂ h₂=>?_) (hE.after p₁)
  refine oA2 ?_<|SY (A:=A) (E:=E) ((c.next p₁).next p₂).at_ (V₁.next p₁.rel p₂) V₂ h₂ ((hP.after (p₁.trans p₂)).toT p₂.rel);rintro⟨T',i,t1,t2⟩ q
  refine tail_any (ops:=[x,y]) t1 t2 q ?_
  induction b using Expr.casesOn<;>first | rfl | exact noF hs
theorem VH{g:G}{T:Nat}{h:Heap}{ρ:Rho}{v:PV}{x:Value}{l:Option Int}(V:VR g T h ρ v x)(e:part (some v)=some l):PartR (some v) x:=by
 induction v using PV.casesOn<;>first | exact noS e | skip
 obtain⟨t,rfl⟩:=V.inv
 exact .at_ _ _
theorem QD{o:PV}{σ:St}{p q:Option PV}{R:PV×St->Prop}(e:opt (slice σ o p q) R):(∃ l,part p=some l)/\∃ u,part q=some u:=by
 unfold slice at e
 cases e1:part p with
 | none=>rw[e1]at e;exact e.elim
 | some l=>cases e2:part q with
  | none=>rw[e1,e2]at e;exact e.elim
  | some u=>exact⟨⟨l,rfl⟩,u,rfl⟩
theorem ZD{g:G}{T:Nat}{h:Heap}{ρ:Rho}{v:PV}{x:Value}{o:PV}{σ:St}{q:Option PV}{R:PV×St->Prop}(V:VR g T h ρ v x)(e:opt (slice σ o (some v) q) R):PartR (some v) x:=by
 refine AR ?_<|(QD e).1;intro _ h
 exact VH V h
theorem ZE{g:G}{T:Nat}{h:Heap}{ρ:Rho}{v:PV}{x:Value}{o:PV}{σ:St}{q:Option PV}{R:PV×St->Prop}(V:VR g T h ρ v x)(e:opt (slice σ o q (some v)) R):PartR (some v) x:=by
 refine AR ?_<|(QD e).2;intro _ h
 exact VH V h
theorem OY{st:Value}{xl xu:Value}{v:PV}{x:Value}{p q:Option PV}{value:Expr}{lo hi:Option Expr}{pp:Pos}(c:At g fr A σ ρ s)(V:VR g s.toks s.heap ρ v x)(hl:PartR p xl)(hu:PartR q xu)
  (h:opt (slice σ v p q) fun r=>Q r.1 r.2) (hP:Cont g [] s ρ Q Z) :
  wpAny (model g.prog g.w) A (subscriptTail value (.Slice lo hi none pp) x (.ref s.heap.objs.size)) Z E {s with heap:=s.heap.push {cls:=.type "slice",data:=.fields #[xl,xu,.none] } }:=by
 have p0:Post g [] s ρ {s with heap:=s.heap.push {cls:=.type "slice",data:=.fields #[xl,xu,.none] } } ρ σ :=
  .ofKeeps c.rel (Nat.le_refl _) (fun b o e=>Heap.get?_push_of_some _ e) (by rw[Heap.size_push];exact Nat.le_succ _)
 refine oA2 ?_<|YL (A:=A) (E:=E) (c.next0 p0) (V.next c.rel p0) hl hu (Heap.IsSliceOf.new ..) h (hP.after p0);rintro⟨T',i,t1,t2⟩ q
 exact tail_any (ops:=[.ref s.heap.objs.size,x]) t1 t2 q rfl
theorem HZ{env:Env}{M:Model}{P:Value->Shared->Prop}(h:P .none s):wpAny M A (evalPart none env) P E s:=wpAny_pure h
theorem a0m{a b ma mb pos pp}(ha:Snd g sc a ma)(hb:Snd g sc b mb):Snd g sc (.Subscript a (.Slice (some b) none none pp) pos) (.sliceL ma mb) :=
 BZ (fun _ _=>rfl) fun{fr n T A env Λ σ ρ s Q X P E} hT c h hP hE=>by
  refine Subscript_ (ha.1 hT c h (fun x s₁ ρ₁ v σ₁ p₁ V₁ h₁=>wpAny_Slice ?_) hE)
  refine hb.1 hT (c.next p₁) h₁ (fun y s₂ ρ₂ u σ₂ p₂ V₂ h₂=>?_) (hE.after p₁)
  exact HZ (HZ (OY (st:=.none) ((c.next p₁).next p₂).at_ (V₁.next p₁.rel p₂) (ZD V₂ h₂) .no h₂ (hP.after (p₁.trans p₂))))
theorem a0n{a b ma mb pos pp}(ha:Snd g sc a ma)(hb:Snd g sc b mb):Snd g sc (.Subscript a (.Slice none (some b) none pp) pos) (.sliceR ma mb) :=
 BZ (fun _ _=>rfl) fun{fr n T A env Λ σ ρ s Q X P E} hT c h hP hE=>by
  refine Subscript_ (ha.1 hT c h (fun x s₁ ρ₁ v σ₁ p₁ V₁ h₁=>wpAny_Slice (HZ ?_)) hE)
  refine hb.1 hT (c.next p₁) h₁ (fun y s₂ ρ₂ u σ₂ p₂ V₂ h₂=>?_) (hE.after p₁)
  exact HZ (OY (st:=.none) ((c.next p₁).next p₂).at_ (V₁.next p₁.rel p₂) .no (ZE V₂ h₂) h₂ (hP.after (p₁.trans p₂)))
theorem a0o{a b d ma mb md pos pp}(ha:Snd g sc a ma)(hb:Snd g sc b mb)(hd:Snd g sc d md):Snd g sc (.Subscript a (.Slice (some b) (some d) none pp) pos) (.sliceB ma mb md) :=
 BZ (fun _ _=>rfl) fun{fr n T A env Λ σ ρ s Q X P E} hT c h hP hE=>by
  refine Subscript_ (ha.1 hT c h (fun x s₁ ρ₁ v σ₁ p₁ V₁ h₁=>wpAny_Slice ?_) hE)
  refine hb.1 hT (c.next p₁) h₁ (fun y s₂ ρ₂ u σ₂ p₂ V₂ h₂=>?_) (hE.after p₁)
  refine hd.1 hT ((c.next p₁).next p₂) h₂ (fun z s₃ ρ₃ t σ₃ p₃ V₃ h₃=>?_) ((hE.after p₁).after p₂)
  exact HZ (OY (st:=.none) (((c.next p₁).next p₂).next p₃).at_ ((V₁.next p₁.rel p₂).next p₂.rel p₃) (ZD (V₂.next p₂.rel p₃) h₃) (ZE V₃ h₃) h₃ (hP.after ((p₁.trans p₂).trans p₃)))
theorem JO:FO g sc [] []:=fun hT c h hP hE=>spliced_nil (hP _ _ _ _ _ (.refl c.at_.rel) .nil rfl h)
theorem HD{e me es ms}(he:Snd g sc e me)(hs:FO g sc es ms)(hn:BG e=true):FO g sc (e::es) (me::ms):=fun{fr n T A env Λ σ ρ s X E pos Q P} hT c h hP hE=>by
 have e1:backTo pos (starEach (e::es) env)=(false,eval e env)::backTo pos (starEach es env):=by rw[EI hn];rfl
 rw[e1]
 refine spliced_cons (he.1 hT c h (fun x s₁ ρ₁ v σ₁ p₁ V₁ h₁=>?_) hE)
 exact hs hT (c.next p₁) h₁ (fun ys s' ρ' vs σ' p V l q=>hP _ s' ρ' _ σ' (p₁.trans p) (.cons (V₁.next p₁.rel p) V) (congrArg (· + 1) l) q) (hE.after p₁)
theorem Rel.notHid{T:Nat}{h:Heap}(R:Rel g T ρ σ h){a:Addr}(ha:h.objs.size<=a):a∉g.Z:=fun hm=>Nat.lt_irrefl _ (Nat.lt_of_lt_of_le (R.hid a hm).1 ha)
theorem b1h{es ms k pos}(hs:FO g sc es ms)(hl:fits es.length=true):Snd g sc (.Tuple es k pos) (.tup ms) :=
 BZ (fun _ _=>rfl) fun{fr n T A env Λ σ ρ s Q X P E} hT c h hP hE=>by
  refine Tuple_ (hs hT c h (fun ys s' ρ' vs σ' p V l q=>?_) hE)
  have hz:ys.length<=sizeLine:=by rw[l];exact CA hl
  refine wpAny_newTuple ?_ hz
  have p':Post g [] s' ρ' {s' with heap:=s'.heap.push {cls:=.type "tuple",data:=.seq ys.toArray } } ρ' σ' :=
   .ofKeeps p.rel (Nat.le_refl _) (fun b o e=>Heap.get?_push_of_some _ e) (by rw[Heap.size_push];exact Nat.le_succ _)
  exact hP _ _ ρ' (.tup vs) σ' (p.trans p') (.tup (p.rel.notHid (Nat.le_refl _)) ⟨_,Heap.get?_push_size _ rfl,rfl,_,rfl⟩ hz (V.next p.rel p')) q
theorem b1i{es ms pos}(hs:FO g sc es ms)(hl:fits es.length=true):Snd g sc (.List es pos) (.lst ms) :=
 BZ (fun _ _=>rfl) fun{fr n T A env Λ σ ρ s Q X P E} hT c h hP hE=>by
  refine List_ (hs hT c h (fun ys s' ρ' vs σ' p V l q=>?_) hE)
  have hz:ys.length<=sizeLine:=by rw[l];exact CA hl
  refine wpAny_newList ?_ hz
  exact(hP.after p).newList (n:=0) (k:=s'.toks) p.rel (Nat.le_refl _) (by rw[V.length];exact hz) V q
inductive Called(g:G):Value->Prop
 | bi (i:String):Called g (.builtin i)
 | ty (T:String):Called g (.type T)
 | own (a:Addr):keepIn g.K (.ref a)=true->Called g (.ref a)
theorem JP(hg:Ok g){n env Λ T pos es ms}{f:Value}{first:List Value}{P:Value->Shared->Prop}{Q':List PV->St->Prop}(hs:FO g sc es ms)(hn:es.all BG=true)(hT:TOk g fr n T)(c:Ctx g fr n A env sc Λ σ ρ s)(hf:Called g f)(h:CX T ms Λ σ Q' X)
  (hP:∀ ys s' ρ' vs σ',Post g [] s ρ s' ρ' σ'->VRs g s'.toks s'.heap ρ' vs ys->Q' vs σ'->wpAny (model g.prog g.w) A (call f (first++ys)) P E s') (hE:ContX g A [] s ρ X E) :
  wpAny (model g.prog g.w) A (callWith pos f first (backTo pos (starEach es env)) []) P E s:=by
 have args:wpAny (model g.prog g.w) A (evalArgs f true (backTo pos (starEach es env)) []) (fun a s'=>g.K.In s'.heap/\wpAny (model g.prog g.w) A (call f (first++a.pos) a.kw) P E s') E s:=by
  have sp:=hs (pos:=pos) hT c h (P:=fun ys s'=>g.K.In s'.heap/\wpAny (model g.prog g.w) A (call f (first++ys)) P E s') (fun ys s' ρ' vs σ' p V _ q=>⟨p.rel.kin hg,hP ys s' ρ' vs σ' p V q⟩) hE
  induction es using List.casesOn with
  | nil =>
   unfold evalArgs
   show wpAny _ A (spliced [] >>= _) _ E s
   refine wpAny_bind (wpAny_mono sp (fun ys s' h'=>?_) fun _ _ z=>z)
   exact wpAny_bind (wpAny_pure (wpAny_holding (wpAny_bind (wpAny_pure (wpAny_bind (wpAny_pure (wpAny_pure h')))))))
  | cons e es =>
   rw[List.all_cons,Bool.and_eq_true]at hn
   have e1:backTo pos (starEach (e::es) env)=(false,eval e env)::backTo pos (starEach es env):=by rw[EI hn.1];rfl
   rw[e1]at sp ⊢
   exact evalArgs_plain sp
 have pl:=TC (env:=env) (pos:=pos) hn
 cases hf with
 | bi i=>exact callWith_builtin pl (wpAny_mono args (fun _ _ z=>z.2) fun _ _ z=>z)
 | ty T=>exact PyProof.Rows.callWith_type pl (wpAny_mono args (fun _ _ z=>z.2) fun _ _ z=>z)
 | own a hk=>exact callWith_of (P:=g.K.In) (by rw[pl];rfl) (keeps_K hk) args
theorem Room.call{n:Nat}(r:Room A n):PX A n:=⟨by have:=r.1;lia,by have:=r.2;lia⟩
theorem VI{n f:Nat}{vs:List PV}{ys:List Value}{P:Value->Shared->Prop}(h:JM g fr n f vs σ Q X)(r:PX A n)(c:At g fr A σ ρ s)(V:VRs g s.toks s.heap ρ vs ys)(hP:Cont g [] s ρ Q P)(hE:ContX g A [] s ρ X E) :
  wpAny (model g.prog g.w) A (call (.ref (g.fa f)) ys) P E s :=
 wpAny_call (h A ρ s ys _ r c V (fun y s' ρ' pv σ' p V q=>hP y s' ρ' pv σ' p V q) (fun x s' ρ' σ' p q=>hE x s' ρ' σ' p q))
theorem a5v(hg:Ok g){id:Str}{f p pos es ms}(hs:FO g sc es ms)(hn:es.all BG=true)(hk:sc.lookup id=some .globalImplicit)(hi:DY id=true)(hm:(id,f)∈fnames):Snd g sc (.Call (.Name id p) es [] pos) (.call f ms) :=
 BZ (fun _ _=>rfl) fun{fr n T A env Λ σ ρ s Q X P E} hT c h hP hE=>by
  obtain⟨mg,mb,h1,h2,h3,_⟩:=hg.glob
  refine wpAny_bind (GS c hk hi h1 (h3 _ hm) ?_)
  refine JP hg hs hn hT c (.own _ (hg.fnk _ hm)) h (fun ys s' ρ' vs σ' p V q=>?_) hE
  exact VI (hT.C g.Z _ _ _ _ _ q) c.room.call (c.next p).at_ V (hP.after p) (hE.after p)
theorem a2p:∀ f:Bi,Called g (biV f)
 | .len=>.bi _ | .ord=>.bi _ | .chr=>.bi _ | .bytes=>.ty _ | .int=>.ty _ | .tuple=>.ty _ | .list=>.ty _
theorem b3r(hg:Ok g){id:Str}{f p pos es ms}(hs:FO g sc es ms)(hn:es.all BG=true)(hk:sc.lookup id=some .globalImplicit)(hi:DY id=true)(hm:(id,biV f)∈bnames):Snd g sc (.Call (.Name id p) es [] pos) (.bi f ms) :=
 BZ (fun _ _=>rfl) fun{fr n T A env Λ σ ρ s Q X P E} hT c h hP hE=>by
  obtain⟨mg,mb,h1,h2,_,_,_,h3⟩:=hg.glob
  refine wpAny_bind (RW c hk hi h1 h2 (h3 _ hm).1 (h3 _ hm).2 ?_)
  refine JP hg hs hn hT c (a2p f) h (fun ys s' ρ' vs σ' p V q=>?_) hE
  exact a5m (c.next p).at_ V q (hP.after p)
theorem VJ(i:String)(a:Args):(Code.builtin i a).envs=[]:=by unfold Code.envs;split<;>rfl
theorem QE(A:Around)(i:String)(a:Args):(A.under (.builtin i a)).frames=A.frames:=by
 have:(A.under (.builtin i a)).frames=pushEnvs (Code.builtin i a).envs A.frames:=rfl
 rw[this,VJ];rfl
theorem JQ(A:Around)(C:Addr)(vals:List Value):(A.under (.builtin "type.__call__" ⟨.ref C::vals,[]⟩)).frames=A.frames:=QE ..
theorem RX(A:Around)(C:Addr)(vals:List Value):(A.under (.builtin "type.__call__" ⟨.ref C::vals,[]⟩)).units=A.units+1:=rfl
theorem XPost.frames{A A':Around}{F:List Addr}{s s':Shared}{ρ ρ':Rho}{σ':St}{x:Value}(e:A'.frames=A.frames)(p:XPost g A' F s ρ s' ρ' σ' x):XPost g A F s ρ s' ρ' σ' x :=
 ⟨by rw[← e];exact p.fly,p.keep,p.ext,p.toks,p.same⟩
theorem a2q(hg:Ok g){n cl:Nat}{vs:List PV}{ys:List Value}{P:Value->Shared->Prop}(hcl:cl=3\/cl=4\/cl=5\/cl=6)
  (h:JM g fr n (inits cl) (.ref σ.length::vs) (σ++[.inst cl []]) (fun v σ'=>v = .none/\Q (.ref σ.length) σ') X) (r:Room A n) (c:At g fr A σ ρ s) (V:VRs g s.toks s.heap ρ vs ys) (hP:Cont g [] s ρ Q P) (hE:ContX g A [] s ρ X E) :
  wpAny (model g.prog g.w) A (call (.ref (g.ca cl)) ys) P E s:=by
 have C:=hg.cls cl hcl
 have K:=c.rel.kin hg
 refine wpAny_call ?_
 refine make_core (init:=.ref (g.fa (inits cl))) (makes_of K C.makes) (looks_findIn K C.init) (fun self=>bind_fn K self C.initf) (.inl rfl) ?_
 have p1:Post g [] s ρ {s with heap:=(s.heap.push emptyDict).push (instObj (g.ca cl) s.heap.objs.size) } (ρ++[(s.heap.objs.size+1,s.heap.objs.size)]) (σ++[.inst cl []]):=by
  have hk:∀ b o,s.heap.get? b=some o->((s.heap.push emptyDict).push (instObj (g.ca cl) s.heap.objs.size)).get? b=some o:=fun b o e=>Heap.get?_push_of_some _ (Heap.get?_push_of_some _ e)
  have e1:((s.heap.push emptyDict).push (instObj (g.ca cl) s.heap.objs.size)).get? (s.heap.objs.size+1)=some (instObj (g.ca cl) s.heap.objs.size):=by
   have:=Heap.get?_push_size (o:=instObj (g.ca cl) s.heap.objs.size) (s.heap.push emptyDict) rfl
   rw[Heap.size_push]at this;exact this
  have e2:((s.heap.push emptyDict).push (instObj (g.ca cl) s.heap.objs.size)).get? s.heap.objs.size=some (dictOf [] 0):=Heap.get?_push_of_some _ (Heap.get?_push_size _ rfl)
  refine⟨c.rel.adopt (o:=.inst cl []) (Nat.le_refl _) hk ⟨Nat.le_succ _,Nat.le_refl _⟩ ⟨Nat.zero_le _,[],0,e1,e2,.nil⟩,Grow.adopt hk (by rw[Heap.size_push,Heap.size_push];lia) ⟨Nat.le_succ _,Nat.le_refl _⟩,Nat.le_refl _,⟨rfl,rfl,rfl⟩⟩
 have Vr:VR g s.toks ((s.heap.push emptyDict).push (instObj (g.ca cl) s.heap.objs.size)) (ρ++[(s.heap.objs.size+1,s.heap.objs.size)]) (.ref σ.length) (.ref (s.heap.objs.size+1)) :=
  .ref (d:=s.heap.objs.size) (by rw[← c.rel.len];simp)
 have c1:=c.next0 p1
 refine h _ _ _ _ _ ⟨?_,?_⟩ ⟨c1.hand,by unfold Stk;rw[JQ];exact c1.stk,c1.rel,c1.toks⟩ (.cons Vr (V.next c.rel p1)) (fun y s' ρ' pv σ' p V q=>?_) (fun x s' ρ' σ' p q=>?_)
 ·rw[depth_under_kw];have:=r.1;lia
 ·have:=r.2;have:=RX A (g.ca cl) ys;lia
 ·revert q;refine oA2 ?_;rintro rfl q
  obtain rfl:=V.inv
  exact⟨rfl,hP _ s' ρ' _ σ' (p1.trans p) (Vr.next c1.rel p) q⟩
 ·exact hE x s' ρ' σ' (XPost.trans p1 (p.frames (JQ A (g.ca cl) ys))) q
end
end Mine
end
section
open PySem PySem.W PyProof.Rows PySem.Calls
set_option maxRecDepth 100000
namespace Mine
set_option tactic.hygienic false
noncomputable def mname:Mt->Str
 | .find=>Str.ofString "find" | .lower=>Str.ofString "lower" | .startswith=>Str.ofString "startswith" | .endswith=>Str.ofString "endswith" | .count=>Str.ofString "count" | .replace=>Str.ofString "replace" | .join=>Str.ofString "join" | .split=>Str.ofString "split"
 | .lstrip=>Str.ofString "lstrip" | .append=>Str.ofString "append" | .extend=>Str.ofString "extend" | .get=>Str.ofString "get" | .own k=>nm k
section
variable {g:G}{fr:Bool}{A:Around}{s s₁:Shared}{ρ ρ₁:Rho}{σ σ₁:St}{E:Value->Shared->Prop}{Z:Value->Shared->Prop}{Q:PV->St->Prop}{X:St->Prop}{sc:List (Str×NameKind)}
theorem TD{c k f:Nat}(h:methF c k=some f):(c,k,f)∈meths:=by
 unfold methF at h
 rw[Option.map_eq_some_iff]at h
 revert h;refine AD ?_;intro p h1 h2
 have h3:=List.find?_some h1
 rw[Bool.and_eq_true,beq_iff_eq,beq_iff_eq]at h3
 have:=List.mem_of_find?_eq_some h1
 obtain⟨a,b,d⟩:=p
 simp only at h2 h3
 rw[← h2,← h3.1,← h3.2];exact this
theorem a2r:∀ p∈meths,p.1=3\/p.1=4\/p.1=5\/p.1=6:=by decide
noncomputable def fnV(g:G)(m:Mt)(o:PV):Option Nat->Value
 | some f=>.ref (g.fa f)
 | none=>.builtin (mid m o)
theorem b8g{v:Value}(h:∀ a,v≠.ref a):∀ a,v = .ref a->∃ o,s.heap.get? a=some o/\o.dict=none:=fun a e=>absurd e (h a)
theorem gmb{m:Mt}{o:PV}{v:Value}{T id:String}{name:Str}{pl:Sem Bool}{P:Value×List Value->Shared->Prop}(he:fnV g m o none = .builtin id)(hn:mname m=name)(hT:s.TypeIs v T)(pa:PlainAttrs T)(slot:Slot T name id)(ty:typeOf (.builtin id)=pure (.type "method_descriptor"))
  (hd:∀ a,v = .ref a->∃ o,s.heap.get? a=some o/\o.dict=none) (hP:P (fnV g m o none,[v]) s):Called g (fnV g m o none)/\wpAny (model g.prog g.w) A (getMethod v (mname m) pl) P E s:=by
 rw[he]at hP ⊢
 rw[hn]
 exact⟨.bi _,getMethod_builtin hT pa slot ty hd hP⟩
noncomputable def b9m:Mt->Bool
 | .find=>true | .lower=>true | .startswith=>true | .endswith=>true | .count=>true | .replace=>true | .join=>true | .split=>true | _=>false
noncomputable def b3s:Mt->Bool
 | .find=>true | .endswith=>true | .lstrip=>true | .join=>true | _=>false
theorem a5w{mth:Nat->Nat->Option Nat}{x:Str}{a:Bool}{es:List ME}{k:Option Nat}(h:mok mth σ (.str x a) .replace es=some k):k=none:=by
 induction es using List.casesOn with
 | nil=>exact noS h
 | cons a r=>induction r using List.casesOn with
  | nil=>exact noS h
  | cons b r=>induction r using List.casesOn with
   | cons _ _=>exact noS h
   | nil=>induction a using ME.casesOn<;>first | exact noS h | (induction b using ME.casesOn<;>first | exact noS h | exact(Option.some.inj h).symm)
set_option tactic.hygienic true in
theorem b1j{C:PV->Mt->Option Nat->Prop}{mth:Nat->Nat->Option Nat}{o:PV}{m:Mt}{es:List ME}{k:Option Nat}(h:mok mth σ o m es=some k)(k1:∀ j i c fs f,instAt σ i=some (c,fs)->get j fs=none->mth c j=some f->C (.ref i) (.own j) (some f))
  (k2:∀ i vs,AK σ i=some vs->C (.ref i) .append none) (k3:∀ i vs,AK σ i=some vs->C (.ref i) .extend none) (k4:∀ i vs,dictAt σ i=some vs->C (.ref i) .get none) (k5:∀ m x a,b9m m=true->C (.str x a) m none) (k6:∀ m x,b3s m=true->C (.bytes x) m none):C o m k:=by
 induction o using PV.casesOn<;>try exact noS h
 ·induction m using Mt.casesOn<;>first | exact noS h | exact Option.some.inj h▸k5 _ _ _ rfl | skip
  refine(?_:k=none)▸k5 .replace _ _ rfl
  exact a5w h
 ·induction m using Mt.casesOn<;>first | exact noS h | exact Option.some.inj h▸k6 _ _ rfl
 ·rename_i i
  induction m using Mt.casesOn with
  | own j =>
   replace h:(match instAt σ i with | some (c,fs)=>(match get j fs with | none=>(match mth c j with | some f=>some (some f) | none=>none) | some _=>none) | none=>none)=some k:=h
   cases e1:instAt σ i with
   | none=>rw[e1]at h;exact noS h
   | some p =>
    rw[e1]at h
    dsimp only at h
    cases e2:get j p.2 with
    | some _=>rw[e2]at h;exact noS h
    | none =>
     rw[e2]at h
     dsimp only at h
     cases e3:mth p.1 j with
     | none=>rw[e3]at h;exact noS h
     | some f=>rw[e3]at h;exact Option.some.inj h▸k1 _ _ _ _ _ e1 e2 e3
  | append =>
   replace h:(match AK σ i with | some _=>some none | none=>none)=some k:=h
   cases e1:AK σ i with
   | none=>rw[e1]at h;exact noS h
   | some p=>rw[e1]at h;exact Option.some.inj h▸k2 _ _ e1
  | extend =>
   replace h:(match AK σ i with | some _=>some none | none=>none)=some k:=h
   cases e1:AK σ i with
   | none=>rw[e1]at h;exact noS h
   | some p=>rw[e1]at h;exact Option.some.inj h▸k3 _ _ e1
  | get =>
   replace h:(match dictAt σ i with | some _=>some none | none=>none)=some k:=h
   cases e1:dictAt σ i with
   | none=>rw[e1]at h;exact noS h
   | some p=>rw[e1]at h;exact Option.some.inj h▸k4 _ _ e1
  | _=>exact noS h
theorem LG(hg:Ok g){m:Mt}{o:PV}{x:Value}{k:Option Nat}{ms:List ME}{pl:Sem Bool}{P:Value×List Value->Shared->Prop}(c:At g fr A σ ρ s)(V:VR g s.toks s.heap ρ o x)(h:mok methF σ o m ms=some k)(hP:P (fnV g m o k,[x]) s) :
  Called g (fnV g m o k)/\wpAny (model g.prog g.w) A (getMethod x (mname m) pl) P E s:=by
 have R:=c.rel
 revert V hP
 refine b1j (C:=fun o m k=>VR g s.toks s.heap ρ o x->P (fnV g m o k,[x]) s->Called g (fnV g m o k)/\wpAny (model g.prog g.w) A (getMethod x (mname m) pl) P E s) h (fun j i cc fs f e1 e2 e3 V hP=>?_) (fun i vs e1 V hP=>?_) (fun i vs e1 V hP=>?_) (fun i vs e1 V hP=>?_) (fun m x a hm V=>?_) (fun m x hm V=>?_)
 ·have M:=hg.mths _ (TD e3)
  have C:=hg.cls cc (a2r _ (TD e3))
  obtain⟨x,d,es,n,rfl,_,h1,h2,F,_⟩:=R.inst e1 V
  have q:=F.at (k:=j)
  rw[e2]at q
  refine⟨.own _ M.2.2,method_fn (R.kin hg) (NP h1 h2) (plainGet_of C.plain).1 (plainGet_of C.plain).2 M.1 M.2.1 ?_ hP⟩
  show(lookIn (nm j) (dictOf es n)).map (·.isSome)=some false
  rw[lookIn_dict,show getL (nm j) es=_ from q];rfl
 ·obtain⟨a,xs,rfl,_,⟨n,ho⟩,_⟩:=R.list e1 V
  exact⟨.bi _,getMethod_builtin (T:="list") ⟨_,ho,rfl⟩ PySem.F.plainAttrs_list PySem.F.slot_list_append PySem.F.type_list_append (fun b e=>by replace e:=PySem.Value.ref.inj e;subst e;exact⟨_,ho,rfl⟩) hP⟩
 ·obtain⟨a,xs,rfl,_,⟨n,ho⟩,_⟩:=R.list e1 V
  exact⟨.bi _,getMethod_builtin (T:="list") ⟨_,ho,rfl⟩ PySem.F.plainAttrs_list PySem.F.slot_list_extend PySem.F.type_list_extend (fun b e=>by replace e:=PySem.Value.ref.inj e;subst e;exact⟨_,ho,rfl⟩) hP⟩
 ·obtain⟨a,xs,rfl,_,hD,_⟩:=R.dict e1 V
  obtain⟨ob,es,ep,ho,hc,_⟩:=id hD
  exact⟨.bi _,getMethod_builtin (T:="dict") hD.mapOf.typeIs PySem.F.plainAttrs_dict PySem.F.slot_dict_get PySem.F.type_dict_get (fun b e=>by replace e:=PySem.Value.ref.inj e;subst e;exact⟨_,ho,hc.2.1⟩) hP⟩
 ·refine V.strI fun t _ _ hP=>?_
  induction m using Mt.casesOn<;>first
  | exact Bool.noConfusion hm
  | exact gmb rfl rfl (typeIs_str _ _ _) PySem.F.plainAttrs_str PySem.F.slot_str_find PySem.F.type_str_find (fun a e=>nomatch e) hP
  | exact gmb rfl rfl (typeIs_str _ _ _) PySem.F.plainAttrs_str PySem.F.slot_str_lower PySem.F.type_str_lower (fun a e=>nomatch e) hP
  | exact gmb rfl rfl (typeIs_str _ _ _) PySem.F.plainAttrs_str PySem.F.slot_str_startswith PySem.F.type_str_startswith (fun a e=>nomatch e) hP
  | exact gmb rfl rfl (typeIs_str _ _ _) PySem.F.plainAttrs_str PySem.F.slot_str_endswith PySem.F.type_str_endswith (fun a e=>nomatch e) hP
  | exact gmb rfl rfl (typeIs_str _ _ _) PySem.F.plainAttrs_str PySem.F.slot_str_count PySem.F.type_str_count (fun a e=>nomatch e) hP
  | exact gmb rfl rfl (typeIs_str _ _ _) PySem.F.plainAttrs_str PySem.F.slot_str_replace PySem.F.type_str_replace (fun a e=>nomatch e) hP
  | exact gmb rfl rfl (typeIs_str _ _ _) PySem.F.plainAttrs_str PySem.F.slot_str_join PySem.F.type_str_join (fun a e=>nomatch e) hP
  | exact gmb rfl rfl (typeIs_str _ _ _) PySem.F.plainAttrs_str PySem.F.slot_str_split PySem.F.type_str_split (fun a e=>nomatch e) hP
 ·refine V.bytesI fun b t _ hP=>?_
  induction m using Mt.casesOn<;>first
  | exact Bool.noConfusion hm
  | exact gmb rfl rfl (typeIs_bytes _ _ _) FB.plainAttrs_bytes FX.slot_find FX.type_find (fun a e=>nomatch e) hP
  | exact gmb rfl rfl (typeIs_bytes _ _ _) FB.plainAttrs_bytes FB.slot_bytes_endswith FB.type_bytes_endswith (fun a e=>nomatch e) hP
  | exact gmb rfl rfl (typeIs_bytes _ _ _) FB.plainAttrs_bytes FX.slot_lstrip FX.type_lstrip (fun a e=>nomatch e) hP
  | exact gmb rfl rfl (typeIs_bytes _ _ _) FB.plainAttrs_bytes FX.slot_join FX.type_join (fun a e=>nomatch e) hP
theorem ZF{env:Env}{pos:Pos}:∀ {es:List Expr},es.all BG=true->(backTo pos (starEach es env)).all (!·.1)=true
 | [],_=>rfl
 | e::es,h=>by
  rw[List.all_cons,Bool.and_eq_true]at h
  rw[EI h.1]
  exact ZF h.2
theorem a5x{env:Env}{pos:Pos}{es:List Expr}(h:es.all BG=true)(hl:es.length<30):methodCallForm (es.length+([]:List Keyword).length) (backTo pos (starEach es env)) (backToKw pos (keywordEach [] env))=true:=by
 unfold methodCallForm
 rw[ZF h]
 show(true&&true&&decide (es.length+0+0<30))=true
 rw[decide_eq_true (by lia)];rfl
theorem TF{env:Env}{o:Expr}{name:Str}{apos pos:Pos}{es:List Expr}{P:Value->Shared->Prop}(hb:DH o=true)(hn:es.all BG=true)(hl:es.length<30)(hp:(apos.endLine==pos.line)=true)
  (h:wpAny (model g.prog g.w) A (eval o env) (fun ov s₁=>wpAny (model g.prog g.w) A (getMethod ov name (do return (← importBound o env).getD true)) (fun fx s₂=>wpAny (model g.prog g.w) A (callWith pos fx.1 fx.2 (backTo pos (starEach es env)) []) P E s₂) E s₁) E s) :
  wpAny (model g.prog g.w) A (eval (.Call (.Attribute o name apos) es [] pos) env) P E s:=by
 show wpAny _ _ (attributeBase o name env (eval o env) >>= _) _ _ _
 rw[QC hb]
 refine wpAny_bind (wpAny_mono h (fun ov s₁ h₁=>wpAny_bind (wpAny_standAt ?_)) fun _ _ z=>z)
 unfold methodCall
 rw[a5x hn hl]
 refine wpAny_bind (wpAny_holding ?_)
 show wpAny _ _ (getMethod ov name _) _ _ _
 refine wpAny_mono h₁ (fun fx s₂ h₂=>?_) fun _ _ z=>z
 refine wpAny_bind ?_
 unfold methodCallPos
 rw[hp]
 exact wpAny_pure h₂
theorem a5y(hg:Ok g){a ma m apos pos es ms}{name:Str}(ha:Snd g sc a ma)(hs:FO g sc es ms)(hr:m≠.replace)(hm:mname m=name)(hb:DH a=true)(hn:es.all BG=true)(hl:es.length<30)(hp:(apos.endLine==pos.line)=true) :
  Snd g sc (.Call (.Attribute a name apos) es [] pos) (.meth ma m ms) :=
 BZ (fun _ _=>rfl) fun{fr n T A env Λ σ ρ s Q X P E} hT c h hP hE=>by
  subst hm
  refine TF hb hn hl hp (ha.1 hT c h (fun x s₁ ρ₁ v σ₁ p₁ V₁ h₁=>?_) hE)
  refine AD ?_<|CH h₁;intro k e1 q
  rw[hT.mth]at e1
  refine(LG hg (c.next p₁).at_ V₁ e1 (P:=fun fx s₂=>wpAny (model g.prog g.w) A (callWith pos fx.1 fx.2 (backTo pos (starEach es env)) []) P E s₂) ?_).2
  have cl:=(LG (A:=A) (E:=E) (pl:=pure false) hg (c.next p₁).at_ V₁ e1 (P:=fun _ _=>True) trivial).1
  refine JP hg hs hn hT (c.next p₁) cl q (fun ys s' ρ' vs σ' p V q=>?_) (hE.after p₁)
  have Vx:=V₁.next p₁.rel p
  have c':=(c.next p₁).next p
  induction k using Option.casesOn with
  | some f=>exact VI (hT.C g.Z _ _ _ _ _ q) c.room.call c'.at_ (.cons Vx V) (hP.after (p₁.trans p)) ((hE.after p₁).after p)
  | none=>exact a0l c'.at_ hr Vx V q (hP.after (p₁.trans p))
set_option tactic.hygienic true in
theorem YV(hg:Ok g){a ma apos pos b mb}{y:Str}{ck cp}(ha:Snd g sc a ma)(hy:fits y.length=true)(hb:DH a=true)(hnb:BG b=true)(hp:(apos.endLine==pos.line)=true)
  (hmb:(∃ k id p,b = .Name id p/\mb = .var k/\nm k=id/\(sc.lookup id=some .local\/sc.lookup id=some .cell\/sc.lookup id=some .free)/\DY id=true)\/∃ z k p,b = .Constant (.str z) k p/\mb = .str z/\fits z.length=true) :
  Snd g sc (.Call (.Attribute a (Str.ofString "replace") apos) [.Constant (.str y) ck cp,b] [] pos) (.meth ma .replace [.str y,mb]) :=
 BZ (fun _ _=>rfl) fun{fr n T A env Λ σ ρ s Q X P E} hT c h hP hE=>by
  refine TF hb (by rw[List.all_cons,List.all_cons,hnb];rfl) (by show 2<30;lia) hp (ha.1 hT c h (fun x s₁ ρ₁ v σ₁ p₁ V₁ h₁=>?_) hE)
  refine AD ?_<|CH h₁;intro k e1 q
  rw[hT.mth]at e1
  have c1:=c.next p₁
  refine(LG hg (m:=.replace) c1.at_ V₁ e1 (P:=fun fx s₂=>wpAny (model g.prog g.w) A (callWith pos fx.1 fx.2 (backTo pos (starEach [.Constant (.str y) ck cp,b] env)) []) P E s₂) ?_).2
  have hv:∃ x0 a0,v = .str x0 a0/\k=none:=by
   rcases hmb with⟨k',id,p,rfl,rfl,_⟩ | ⟨z,k',p,rfl,rfl,_⟩<;>(induction v using PV.casesOn<;>first | exact noS e1 | exact⟨_,_,rfl,(Option.some.inj e1).symm⟩)
  revert hv;refine FD ?_;rintro x0 a0 rfl rfl
  obtain⟨tx,rfl,hx,ho⟩:=V₁.inv
  have e2:backTo pos (starEach [.Constant (.str y) ck cp,b] env)=[(false,eval (.Constant (.str y) ck cp) env),(false,eval b env)]:=by
   rw[EI rfl,EI hnb];rfl
  rw[e2]
  show wpAny _ _ (callWith pos (.builtin "str.replace") [.str x0 tx] _ []) _ _ _
  refine callWith_builtin rfl (evalArgs_plain (spliced_cons (Constant_str (spliced_cons ?_))))
  have Vy:VR g (s₁.toks+1) s₁.heap ρ₁ (.str y true) (.str y s₁.toks):=.str _ _ _ (CA hy) fun _=>⟨Nat.ne_of_gt c1.at_.toks,Nat.lt_succ_self _⟩
  have py:Post g [] s₁ ρ₁ {s₁ with toks:=s₁.toks+1 } ρ₁ σ₁:=.ofToks p₁.rel (Nat.le_succ _)
  rcases hmb with⟨k',id,p,rfl,rfl,hn,hk,hi⟩ | ⟨z,k',p,rfl,rfl,hz⟩
  ·refine AD ?_<|CH (show opt (get k' Λ) _ from q);intro v2 e3 q
   refine AD ?_<|OW (pos:=p) c1 hn hk hi e3;intro x2 V2 f
   refine f rfl (spliced_nil ?_)
   refine AD ?_<|CH q;intro r e4 q4
   have hs:∃ z,v2 = .str z true:=by
    induction v2 using PV.casesOn<;>try exact noS e4
    rename_i z o2
    induction o2 using Bool.casesOn
    ·exact noS e4
    ·exact⟨z,rfl⟩
   revert hs;refine AR ?_;rintro z rfl
   obtain⟨tz,rfl,hz,ho2⟩:=V2.inv
   have hne:s₁.toks≠tz:=Nat.ne_of_gt (ho2 rfl).2
   have W:VR g (s₁.toks+1) s₁.heap ρ₁ (.str z true) (.str z tz):=.str _ _ _ hz fun e=>⟨(ho2 e).1,Nat.lt_succ_of_lt (ho2 e).2⟩
   refine MD (fr:=fr) (s:={s₁ with toks:=s₁.toks+1 }) (σ:=σ₁) (Q:=Q) (a:=a0) (o:=.none) (vx:=.none) (vy:=.none) (vz:=.none) (b:=false) (c1.next py).at_ (.str _ _ _ hx fun e=>⟨(ho e).1,Nat.lt_succ_of_lt (ho e).2⟩) hne Vy W ?_ (hP.after (p₁.trans py))
   rw[e4];exact q4
  ·refine Constant_str (spliced_nil ?_)
   have q:opt (meth σ₁ (.str x0 a0) .replace [.str y true,.str z true]) fun r=>Q r.1 r.2:=q
   have py2:Post g [] s₁ ρ₁ {s₁ with toks:=s₁.toks+1+1 } ρ₁ σ₁:=.ofToks p₁.rel (by show s₁.toks<=s₁.toks+1+1;lia)
   have W:VR g (s₁.toks+1+1) s₁.heap ρ₁ (.str z true) (.str z (s₁.toks+1)):=.str _ _ _ (CA hz) fun _=>⟨Nat.succ_ne_zero _,Nat.lt_succ_self _⟩
   have Vy2:VR g (s₁.toks+1+1) s₁.heap ρ₁ (.str y true) (.str y s₁.toks):=.str _ _ _ (CA hy) fun _=>⟨Nat.ne_of_gt c1.at_.toks,Nat.lt_succ_of_lt (Nat.lt_succ_self _)⟩
   exact MD (fr:=fr) (s:={s₁ with toks:=s₁.toks+1+1 }) (σ:=σ₁) (Q:=Q) (a:=a0) (o:=.none) (vx:=.none) (vy:=.none) (vz:=.none) (b:=false) (c1.next py2).at_ (.str _ _ _ hx fun e=>⟨(ho e).1,Nat.lt_succ_of_lt (Nat.lt_succ_of_lt (ho e).2)⟩) (Nat.ne_of_lt (Nat.lt_succ_self _)) Vy2 W q (hP.after (p₁.trans py2))
theorem a0p:∀ p∈cnames,p.2=3\/p.2=4\/p.2=5\/p.2=6:=by decide
theorem b1k(hg:Ok g){id:Str}{cl p pos es ms}(hs:FO g sc es ms)(hn:es.all BG=true)(hk:sc.lookup id=some .globalImplicit)(hi:DY id=true)(hm:(id,cl)∈cnames):Snd g sc (.Call (.Name id p) es [] pos) (.new cl ms) :=
 BZ (fun _ _=>rfl) fun{fr n T A env Λ σ ρ s Q X P E} hT c h hP hE=>by
  obtain⟨mg,mb,h1,h2,_,h3,_⟩:=hg.glob
  have hcl:=a0p _ hm
  refine wpAny_bind (GS c hk hi h1 (h3 _ hm) ?_)
  refine JP hg hs hn hT c (.own _ (hg.cls cl hcl).keep) h (fun ys s' ρ' vs σ' p V q=>?_) hE
  rw[hT.ini]at q
  exact a2q hg hcl (hT.C g.Z _ _ _ _ _ q) c.room (c.next p).at_ V (hP.after p) (hE.after p)
theorem Rel.adopt0{T:Nat}{h:Heap}(R:Rel g T ρ σ h){p:Addr×Addr}{o:AO}(h1:Out ρ p.1)(h2:Out ρ p.2)(b1:g.B.get? p.1=none)(b2:g.B.get? p.2=none)(ho:OR g T h (ρ++[p]) o p):Rel g T (ρ++[p]) (σ++[o]) h:=by
 have old:∀ (i:Nat) q,ρ[i]? = some q->(ρ++[p])[i]? = some q:=fun i q e=>by
  rw[List.getElem?_append_left (List.getElem?_eq_some_iff.mp e).1];exact e
 have part:∀ q∈ρ,Apart q p:=fun q hq=>⟨Ne.symm (h1 q hq).1,Ne.symm (h2 q hq).1,Ne.symm (h1 q hq).2,Ne.symm (h2 q hq).2⟩
 have split:∀ {i:Nat} {q},(ρ++[p])[i]? = some q->(i<ρ.length/\ρ[i]? = some q)\/(i=ρ.length/\q=p):=fun{i q} e=>by
  by_cases hi:i<ρ.length
  ·rw[List.getElem?_append_left hi]at e;exact .inl ⟨hi,e⟩
  ·rw[List.getElem?_append_right (Nat.not_lt.mp hi)]at e
   cases hz:i-ρ.length with
   | zero=>rw[hz]at e;exact .inr ⟨by lia,(Option.some.inj e).symm⟩
   | succ k=>rw[hz]at e;simp at e
 refine⟨R.base,by simp[R.len],fun i q o' e1 e2=>?_,fun i j q r e1 e2 hij=>?_,fun q hq=>?_,R.hid⟩
 ·rcases split e1 with⟨hi,e1⟩ | ⟨rfl,rfl⟩
  ·rw[List.getElem?_append_left (by rw[← R.len];exact hi)]at e2
   exact(R.obj i q o' e1 e2).mono (Nat.le_refl _) (fun _ e=>e) (fun _ e=>e) (fun _ _ x=>x) old
  ·rw[R.len,List.getElem?_append_right (Nat.le_refl _)]at e2
   simp at e2;subst e2;exact ho
 ·rcases split e1 with⟨hi,f1⟩ | ⟨z1,z2⟩<;>rcases split e2 with⟨hj,f2⟩ | ⟨z3,z4⟩
  ·exact R.apart i j q r f1 f2 hij
  ·rw[z4];exact part q (List.mem_of_getElem? f1)
  ·rw[z2]
   have:=part r (List.mem_of_getElem? f2)
   exact⟨Ne.symm this.1,Ne.symm this.2.2.1,Ne.symm this.2.1,Ne.symm this.2.2.2⟩
  ·exact absurd (z1.trans z3.symm) hij
 ·rcases List.mem_append.mp hq with hq | hq
  ·exact R.new q hq
  ·rw[List.mem_singleton.mp hq];exact⟨b1,b2⟩
theorem VK(hg:Ok g){T:Nat}{h:Heap}(R:Rel g T ρ σ h):(h.objs.size==sysModules)=false:=by
 have:=modules_low (hg.lim.keeps R.base)
 exact beq_eq_false_iff_ne.mpr (Nat.ne_of_gt this)
theorem DI{T:Nat}{h:Heap}(R:Rel g T ρ σ h){a:Addr}(ha:h.objs.size<=a):g.B.get? a=none:=by
 cases q:g.B.get? a with
 | none=>rfl
 | some o'=>exact absurd (Heap.lt_size (R.base a o' q)) (Nat.not_lt.mpr ha)
theorem a5z(hg:Ok g){pos}:Snd g sc (.Dict [] [] pos) (.dct [] []) :=
 BZ (fun _ _=>rfl) fun{fr n T A env Λ σ ρ s Q X P E} hT c h hP hE=>by
  have R:=c.at_.rel
  rw[eval_Dict_empty]
  refine wpAny_bind (wpAny_standAt ?_)
  unfold newDict
  refine wpAny_newObj_type ?_ (Nat.zero_le _)
  have hk:∀ b o,s.heap.get? b=some o->(s.heap.push {cls:=.type "dict",data:=.dict #[] }).get? b=some o:=fun b o e=>Heap.get?_push_of_some _ e
  refine hP _ _ (ρ++[(s.heap.objs.size,s.heap.objs.size)]) (.ref σ.length) (σ++[.dict []]) ⟨R.adopt (o:=.dict []) (Nat.le_refl _) hk ⟨Nat.le_refl _,Nat.le_refl _⟩ ⟨rfl,VK hg R,[],Heap.DictOf.new _,.nil⟩,Grow.adopt hk (by rw[Heap.size_push];exact Nat.le_succ _) ⟨Nat.le_refl _,Nat.le_refl _⟩,Nat.le_refl _,⟨rfl,rfl,rfl⟩⟩
   (.ref (d:=s.heap.objs.size) (by rw[← R.len];simp)) (show Q (.ref σ.length) (σ++[.dict []]) from h)
theorem a0q{x y:Value}{a b:Str}(hab:a≠b):merged [] [(a,x),(b,y)]=[(a,x),(b,y)]:=by
 unfold merged stored
 simp[hab]
theorem a6a(hg:Ok g){k1 k2:Str}{a b ma mb c1 p1 c2 p2 pos}(ha:Snd g sc a ma)(hb:Snd g sc b mb)(hk:k1≠k2):Snd g sc (.Dict [some (.Constant (.str k1) c1 p1),some (.Constant (.str k2) c2 p2)] [a,b] pos) (.dct [k1,k2] [ma,mb]) :=
 BZ (fun _ _=>rfl) fun{fr n T A env Λ σ ρ s Q X P E} hT c h hP hE=>by
  have R:=c.at_.rel
  refine wpAny_Dict_pairs (knd:=strKind g.prog g.w) (pairs:=[(eval (.Constant (.str k1) c1 p1) env,do let x ← eval a env;standAt pos;pure x),(eval (.Constant (.str k2) c2 p2) env,do let x ← eval b env;standAt pos;pure x)]) rfl (by simp) (by simp) ?_
  let d:=s.heap.objs.size
  have p0:Post g [] s ρ {s with heap:=s.heap.push {cls:=.type "dict",data:=.dict #[] },toks:=s.toks+1 } ρ σ :=
   .ofKeeps R (Nat.le_succ _) (fun b o e=>Heap.get?_push_of_some _ e) (by rw[Heap.size_push];exact Nat.le_succ _)
  have D0:({s with heap:=s.heap.push {cls:=.type "dict",data:=.dict #[] },toks:=s.toks+1 }:Shared).heap.DictOf (strKind g.prog g.w) d []:=Heap.DictOf.new _
  refine evalPairs_cons (Constant_str (wpAny_bind (ha.1 hT (c.next p0) h (fun x s₁ ρ₁ v σ₁ q₁ V₁ h₁=>?_) (hE.after p0))))
  refine wpAny_bind (wpAny_standAt (wpAny_pure ?_))
  have q1t:Post g [] s₁ ρ₁ {s₁ with toks:=s₁.toks+1 } ρ₁ σ₁:=.ofToks q₁.rel (Nat.le_succ _)
  refine evalPairs_cons (Constant_str (wpAny_bind (hb.1 hT (((c.next p0).next q₁).next q1t) h₁ (fun y s₂ ρ₂ u σ₂ q₂ V₂ h₂=>?_) (((hE.after p0).after q₁).after q1t))))
  refine wpAny_bind (wpAny_standAt (wpAny_pure (evalPairs_nil ?_)))
  have out0:Out ρ d:=R.out_fresh (Nat.le_refl _)
  have lt0:d<(s.heap.push {cls:=.type "dict",data:=.dict #[] }).objs.size:=by rw[Heap.size_push];exact Nat.lt_succ_self _
  have lt1:d<s₁.heap.objs.size:=Nat.lt_of_lt_of_le lt0 q₁.grow.size
  have out1:Out ρ₁ d:=q₁.grow.out lt0 out0
  have out2:Out ρ₂ d:=q₂.grow.out lt1 out1
  refine DP ?_<|id D0;intro o0 es0 ep0 ho0 r0
  have ho1:=q₁.grow.keep d o0 ho0 out0 (by simp)
  have ho2:=q₂.grow.keep d o0 ho1 out1 (by simp)
  refine⟨[(k1,x),(k2,y)],⟨strKind_is g.prog g.w _ _,rfl,strKind_is g.prog g.w _ _,rfl,trivial⟩,⟨o0,es0,ep0,ho2,r0⟩,fun h' hD hs=>?_⟩
  rw[a0q hk]at hD
  have nt:∀ xs,¬ IsTup s₂.heap d xs:=fun xs ht=>EE ht ⟨o0,es0,ep0,ho2,r0.2.1⟩
  have bn:g.B.get? d=none:=DI R (Nat.le_refl _)
  have tups:∀ a zs,IsTup s₂.heap a zs->IsTup h' a zs:=fun a zs ht=>by
   refine AD ?_<|id ht;intro o ho r
   exact⟨o,(hs.2 a fun e=>nt zs (by show IsTup s₂.heap s.heap.objs.size zs;rw[← e];exact ht)).trans ho,r⟩
  have R2:Rel g (s₂.toks+2) ρ₂ σ₂ h':=q₂.rel.move (D:=[d]) (by exact ar0) (Nat.le_of_eq hs.1.symm) (fun b o e hb=>(hs.2 b (by simpa using hb)).trans e) (fun a hm=>by rw[List.mem_singleton.mp hm];exact⟨out2,bn,nt⟩)
  have V1':=(V₁.next q₁.rel q1t).next q1t.rel q₂
  have all:=((p0.trans q₁).trans q1t).trans q₂
  obtain⟨τ,e1,hτ⟩:=all.grow.ext
  have old:∀ (i:Nat) p,ρ₂[i]? = some p->(ρ₂++[(d,d)])[i]? = some p:=fun i p e=>by rw[List.getElem?_append_left (List.getElem?_eq_some_iff.mp e).1];exact e
  refine hP _ {s₂ with heap:=h',toks:=s₂.toks+2 } (ρ₂++[(d,d)]) (.ref σ₂.length) (σ₂++[.dict [(k1,v),(k2,u)]]) ⟨R2.adopt0 (o:=.dict [(k1,v),(k2,u)]) out2 out2 bn bn ⟨rfl,VK hg R,_,hD,.cons (V1'.mono (by exact ar0) tups old) (.cons (V₂.mono (by exact ar0) tups old) .nil)⟩,⟨⟨τ++[(d,d)],by rw[e1,List.append_assoc],fun p hp=>?_⟩,fun b o e1 e2 e3=>?_,?_,fun b x=>?_⟩,?_,?_⟩
   (.ref (d:=d) (by rw[← q₂.rel.len,List.getElem?_append_right (Nat.le_refl _),Nat.sub_self];rfl)) (show Q (.ref σ₂.length) (σ₂++[.dict [(k1,v),(k2,u)]]) from h₂)
  ·rcases List.mem_append.mp hp with hp | hp
   ·exact hτ p hp
   ·rw[List.mem_singleton.mp hp];exact⟨Nat.le_refl _,Nat.le_refl _⟩
  ·exact(hs.2 b (Nat.ne_of_lt (Heap.lt_size e1))).trans (all.grow.keep b o e1 e2 e3)
  ·have:=all.grow.size;rw[hs.1];exact this
  ·have hx:=all.grow.dicts b x
   revert hx;refine DP ?_;intro o es n ho hd
   by_cases hb:b=d
   ·subst hb
    exact absurd (let⟨_,_,_,q,_⟩:=x;Heap.lt_size q) (Nat.lt_irrefl _)
   ·exact⟨o,es,n,(hs.2 b hb).trans ho,hd⟩
  ·have:=all.toks;show s.toks<=s₂.toks+2;exact ar4
  ·exact⟨all.same.gens,all.same.drawn,all.same.os⟩
end
end Mine
end
section
open PySem PySem.W PyProof.Rows PySem.Calls
namespace Mine
set_option tactic.hygienic false
section
variable {prog:Program}{w:World}{A:Around}{s:Shared}{fr:Bool}{E:Value->Shared->Prop}
theorem VL{it t:Addr}{i:Nat}{items:Array Value}{Q:Option Value->Shared->Prop}(H:HOk fr A s.heap)(hit:IsTupIter s.heap it t i)(ht:IsTup s.heap t items)(hx:items[i]? = none)
  (hQ:∀ h',Heap.ExtBut it s.heap h'->s.heap.objs.size<=h'.objs.size->Q none {s with heap:=h' }):wpAny (model prog w) A (pyNext (.ref it)) Q E s:=by
 refine IY ?_<|id hit;intro o ho hc hd
 obtain⟨ol,hol,_,nl,hdl⟩:=ht
 unfold pyNext
 refine wpAny_bind (wpAny_attempt (wpAny_callSpecial?_slot (name:=Str.ofString "__next__") hit.typeIs slot_tupleiter_next
  (wpAny_call_entry slot_tupleiter_next hit.typeIs entry_tupleiter_next ?_ (args_tupleiter_next _))))
 show wpAny _ _ (field (.ref it) 0 >>= _) _ _ s
 refine wpAny_bind (wpAny_field ho hd (x:=.ref t) rfl ?_)
 show wpAny _ _ (if(Value.ref t==Value.none)=true then _ else _) _ _ s
 rw[if_neg (show ¬ ((Value.ref t==Value.none)=true) from Bool.false_ne_true)]
 show wpAny _ _ (field (.ref it) 1 >>= _) _ _ s
 refine wpAny_bind (wpAny_field ho hd (x:=.int i 0) rfl ?_)
 show wpAny _ _ (seqItems? (.ref t) >>= _) _ _ s
 refine wpAny_bind (wpAny_seqItems hol hdl ?_)
 simp only[Int.toNat_natCast,hx]
 refine wpAny_bind (wpAny_rule (wpAny_bind (wpAny_setField ho hd (by simp) ?_)))
 refine RV (s:={s with heap:=s.heap.update it (Obj.mapFields (·.setIfInBounds 0 .none)) }) (ZB (A:=A.in1) H ho hd (by simp)) fun h' ea o' k ks he hec=>?_
 refine wpAny_bind (wpAny_isInstance (T:="StopIteration") (b:=true) ⟨o',he,hec⟩ isSubtype_stop ?_)
 exact wpAny_pure (hQ h' (fun b o e1 e2=>k b o ((Heap.get?_update_other _ _ (Ne.symm e1)).trans e2)) (by simpa using ks))
theorem b1l{h h':Heap}{it:Addr}{o:Obj}{vs:Array Value}(H:HOk fr A h)(ho:h.get? it=some o)(hd:o.data = .fields vs)(h2:vs[2]? ≠ some .none)(hs:∀ b o,b≠it->h.get? b=some o->h'.get? b=some o):HOk fr A h':=by
 rcases H with H | ⟨h0,eh,oh,ws,h1,h2',h3,h4⟩
 ·exact .inl H
 ·by_cases q:eh=it
  ·subst q
   rw[h2']at ho;replace ho:=sj ho;subst ho
   rw[h3]at hd;cases hd
   exact absurd h4 h2
  ·exact .inr ⟨h0,eh,oh,ws,h1,hs _ _ q h2',h3,h4⟩
theorem TG{t:Addr}{items:Array Value}{Q:List Value->Shared->Prop}(H:HOk fr A s.heap)(ht:IsTup s.heap t items)
  (hQ:∀ h',(∀ b o,s.heap.get? b=some o->h'.get? b=some o)->s.heap.objs.size<=h'.objs.size->Q items.toList {s with heap:=h' }):wpAny (model prog w) A (unpackItems (.ref t) items.size none) Q E s:=by
 have hlt:t≠s.heap.objs.size:=by revert ht;refine AD ?_;intro o ho _;exact Nat.ne_of_lt (Heap.lt_size ho)
 unfold unpackItems
 refine wpAny_bind ?_
 unfold notIterableAtAll
 refine wpAny_bind (wpAny_specialOf ht.typeIs slot_tuple_iter.lookup ?_)
 refine wpAny_pure ?_
 simp only[Bool.false_eq_true,if_false]
 refine wpAny_bind (wpAny_holding (iter_tuple ht ?_))
 have new:(s.heap.push {cls:=.type "tuple_iterator",data:=.fields #[.ref t,.int 0 0] }).get? s.heap.objs.size=some {cls:=.type "tuple_iterator",data:=.fields #[.ref t,.int 0 0] }:=Heap.get?_push_size _ rfl
 refine wpAny_bind (wpAny_holding (draw_tuple hlt items.size 0 _ _ ⟨_,new,rfl,rfl⟩ (ht.push _) (by lia) fun h₁ hit₁ hs₁=>?_))
 have hall:List.take items.size (List.drop 0 items.toList)=items.toList:=by
  rw[List.drop_zero];exact List.take_of_length_le (by simp)
 rw[hall,if_neg (by simp)]
 have ht₁:IsTup h₁ t items:=(ht.push _).extBut hs₁.extBut hlt
 have H1:HOk fr A h₁:=by
  have H0:HOk fr A (s.heap.push {cls:=.type "tuple_iterator",data:=.fields #[.ref t,.int 0 0] }):=by
   rcases H with H | ⟨h0,eh,oh,ws,a1,a2,a3,a4⟩
   ·exact .inl H
   ·exact .inr ⟨h0,eh,oh,ws,a1,Heap.get?_push_of_some _ a2,a3,a4⟩
  exact b1l H0 new rfl (by simp) fun b o hb e=>(hs₁.2 b hb).trans e
 refine wpAny_bind (wpAny_holding (VL H1 hit₁ ht₁ (by simp) fun h₂ he₂ hz=>?_))
 simp only[Option.isSome_none,Bool.false_eq_true,if_false]
 refine wpAny_pure (hQ h₂ (fun b o e=>?_) ?_)
 ·have hb:b≠s.heap.objs.size:=Nat.ne_of_lt (Heap.lt_size e)
  exact he₂ b o hb ((hs₁.2 b hb).trans (Heap.get?_push_of_some _ e))
 ·have:=hs₁.1
  simp only[Heap.size_push]at this
  have z:h₁.objs.size<=h₂.objs.size:=hz
  lia
end
inductive FlR(g:G)(T:Nat)(h:Heap)(ρ:Rho):Fl->Flow->Prop
 | next:FlR g T h ρ .next .next
 | cont:FlR g T h ρ .cont .cont
 | ret {v:PV} {y:Value}:VR g T h ρ v y->FlR g T h ρ (.ret v) (.ret y)
noncomputable abbrev ContS(g:G)(env:Env)(s:Shared)(ρ:Rho)(Q:Fl->Loc->St->Prop)(Z:Flow->Shared->Prop):Prop :=
 ∀ f fl s' ρ' Λ' σ',Post g (FA env) s ρ s' ρ' σ'->LocR g s'.toks env Λ' ρ' s'.heap->FlR g s'.toks s'.heap ρ' f fl->Q f Λ' σ'->Z fl s'
noncomputable def Top(A:Around)(env:Env):Prop:=∃ outer L,A.frames=some (env::outer)/\env.frame=some L
noncomputable def ED(g:G)(sc:List (Str×NameKind))(st:Stmt)(ms:MS):Prop:=∀ {fr n T A env Λ σ ρ s X E} {Q:Fl->Loc->St->Prop} {P:Flow->Shared->Prop},TOk g fr n T->Ctx g fr n A env sc Λ σ ρ s->Top A env->wpS T ms Λ σ Q X →
 ContS g env s ρ Q P->ContX g A (FA env) s ρ X E->wpAny (model g.prog g.w) A (exec st env) P E s
noncomputable def EM(g:G)(sc:List (Str×NameKind))(st:List Stmt)(ms:List MS):Prop:=∀ {fr n T A env Λ σ ρ s X E} {Q:Fl->Loc->St->Prop} {P:Flow->Shared->Prop},TOk g fr n T->Ctx g fr n A env sc Λ σ ρ s->Top A env->AN T ms Λ σ Q X →
 ContS g env s ρ Q P->ContX g A (FA env) s ρ X E->wpAny (model g.prog g.w) A (execs st env) P E s
section
variable {g:G}{fr:Bool}{A:Around}{s s₁ s₂:Shared}{ρ ρ₁ ρ₂:Rho}{σ σ₁ σ₂:St}{E:Value->Shared->Prop}{X:St->Prop}{sc:List (Str×NameKind)}{n:Nat}{env:Env}{Λ Λ₁:Loc}{Q:Fl->Loc->St->Prop}{P:Flow->Shared->Prop}
theorem ContX.up(hE:ContX g A (FA env) s ρ X E):ContX g A [] s ρ X E:=fun x s' ρ' σ' p q=>hE x s' ρ' σ' (p.wider (by simp)) q
theorem ContX.afterF{F:List Addr}(p:Post g F s ρ s₁ ρ₁ σ₁)(hE:ContX g A F s ρ X E):ContX g A F s₁ ρ₁ X E:=fun x s' ρ' σ' p' q=>hE x s' ρ' σ' (XPost.trans p p') q
theorem ContS.afterF(p:Post g (FA env) s ρ s₁ ρ₁ σ₁)(hP:ContS g env s ρ Q P):ContS g env s₁ ρ₁ Q P:=fun f fl s' ρ' Λ' σ' p' L V q=>hP f fl s' ρ' Λ' σ' (p.trans p') L V q
theorem Ctx.step(c:Ctx g fr n A env sc Λ σ ρ s)(p:Post g (FA env) s ρ s₁ ρ₁ σ₁)(L:LocR g s₁.toks env Λ₁ ρ₁ s₁.heap):Ctx g fr n A env sc Λ₁ σ₁ ρ₁ s₁ :=
 ⟨c.ok,c.room,c.at_.next p c.fa,L⟩
theorem ContS.here(c:Ctx g fr n A env sc Λ σ ρ s)(p:Post g [] s ρ s₁ ρ₁ σ₁)(hP:ContS g env s ρ Q P){f:Fl}{fl:Flow}(V:FlR g s₁.toks s₁.heap ρ₁ f fl)(q:Q f Λ σ₁):P fl s₁ :=
 hP f fl s₁ ρ₁ Λ σ₁ p.up (c.next p).loc V q
theorem Post.ofOne(c:Ctx g fr n A env sc Λ σ ρ s){a:Addr}(ha:a∈FA env){h':Heap}{k:Nat}(hk:s.toks<=k)(hs:Heap.SameBut a s.heap h')(hd:IsDict s.heap a->IsDict h' a):Post g [a] s ρ {s with heap:=h',toks:=k } ρ σ:=by
 have o:=c.loc.out a ha
 refine⟨c.at_.rel.move hk (Nat.le_of_eq hs.1.symm) (D:=[a]) (fun b o e hb=>(hs.2 b (by simpa using hb)).trans e) (fun b hb=>by rw[List.mem_singleton.mp hb];exact⟨o.1,o.2,c.loc.notTup a ha⟩),⟨⟨[],by simp,fun _ hp=>by cases hp⟩,fun b o e _ hb=>(hs.2 b (by simpa using hb)).trans e,Nat.le_of_eq hs.1.symm,fun b x=>?_⟩,hk,⟨rfl,rfl,rfl⟩⟩
 by_cases q:b=a
 ·subst q;exact hd x
 ·revert x;refine DP ?_;intro o es n ho r;exact⟨o,es,n,(hs.2 b q).trans ho,r⟩
theorem Post.ofFrame(c:Ctx g fr n A env sc Λ σ ρ s){a:Addr}(ha:a∈FA env){h':Heap}{k:Nat}(hk:s.toks<=k)(hs:Heap.SameBut a s.heap h')(hd:IsDict s.heap a->IsDict h' a):Post g (FA env) s ρ {s with heap:=h',toks:=k } ρ σ :=
 (Post.ofOne c ha hk hs hd).wider fun b hb=>by rw[List.mem_singleton.mp hb];exact ha
theorem a2s(c:Ctx g fr n A env sc Λ σ ρ s):(env.scope.kind == .class||(env.scope.kind == .module&&env.locals != env.globals))=false:=by rw[c.ok.kind];rfl
noncomputable def FP(sc:List (Str×NameKind))(id:Str):Prop:=sc.lookup id=some .local\/sc.lookup id=some .cell
theorem OL{l:List (Str×Addr)}(h:l.Pairwise fun x y=>x.2≠y.2){x y:Str×Addr}(hx:x∈l)(hy:y∈l)(hn:x.1≠y.1):x.2≠y.2:=by
 induction l with
 | nil=>cases hx
 | cons z l ih =>
  rw[List.pairwise_cons]at h
  rcases List.mem_cons.mp hx with e1 | hx'<;>rcases List.mem_cons.mp hy with e2 | hy'
  ·exact absurd (by rw[e1,e2]) hn
  ·rw[e1];exact h.1 y hy'
  ·rw[e2];exact fun e=>h.1 _ hx' e.symm
  ·exact ih h.2 hx' hy'
theorem GH{k:Nat}{id:Str}{v:PV}{x:Value}{M:Model}{Z:Unit->Shared->Prop}(c:Ctx g fr n A env sc Λ σ ρ s)(hn:nm k=id)(hk:FP sc id)(V:VR g s.toks s.heap ρ v x)
  (hZ:∀ s',Post g (FA env) s ρ s' ρ σ->LocR g s'.toks env (put k v Λ) ρ s'.heap->Z () s'):wpAny M A (bindName env id x) Z E s:=by
 subst hn
 have hko:env.kindOf (nm k)=sc.lookup (nm k):=by unfold Env.kindOf;rw[c.ok.names]
 refine wpAny_bindName ?_
 have lift:∀ {h':Heap} {k':Nat} {a:Addr} {u:PV} {y:Value},a∈FA env->s.toks<=k'->Heap.SameBut a s.heap h'->VR g s.toks s.heap ρ u y->VR g k' h' ρ u y:=fun ha hk' hs U =>
  U.mono hk' (fun b zs ht=>by
   refine AD ?_<|id ht;intro o ho r
   exact⟨o,(hs.2 b fun e=>c.loc.notTup _ ha zs (e▸ht)).trans ho,r⟩) fun _ _ z=>z
 rcases hk with hk | hk
 ·obtain⟨m,hm,hv⟩:=c.loc.ns
  refine wpAny_storeName_local (hko.trans hk) hm (fun h' hm' hs=>?_) (a2s c)
  have ha:env.locals∈FA env:=.head _
  refine hZ _ (Post.ofFrame c ha (Nat.le_succ _) hs fun _=>.ns hm') ⟨⟨_,hm',fun j u e hj=>?_⟩,fun j u e hj=>?_,fun nn cl hc=>?_,c.loc.apart,c.loc.here,c.loc.out⟩
  ·rw[get_put]at e
   by_cases q:j=k
   ·subst q
    rw[if_pos rfl]at e;replace e:=sj e;subst e
    exact⟨x,if_pos rfl,lift ha (Nat.le_succ _) hs V⟩
   ·rw[if_neg q]at e
    refine AD ?_<|hv j u e hj;intro y h1 h2
    exact⟨y,by rw[if_neg fun z=>q (JB z)];exact h1,lift ha (Nat.le_succ _) hs h2⟩
  ·rw[get_put]at e
   by_cases q:j=k
   ·subst q
    exact absurd (hko.trans hk) hj
   ·rw[if_neg q]at e
    refine DO ?_<|c.loc.cell j u e hj;rintro cl y h1 ⟨oc,h2,h2'⟩ h3
    have hne:cl≠env.locals:=c.loc.here _ _ (mem_of_lookup h1)
    exact⟨cl,y,h1,⟨oc,(hs.2 cl hne).trans h2,h2'⟩,lift ha (Nat.le_succ _) hs h3⟩
  ·refine FD ?_<|c.loc.cells nn cl hc;intro v' oc h2 h2'
   exact⟨v',oc,(hs.2 cl (c.loc.here _ _ hc)).trans h2,h2'⟩
 ·have kc:env.kindOf (nm k)=some .cell:=hko.trans hk
  refine AR ?_<|c.ok.cells _ hk;intro cl hl
  have hmem:=mem_of_lookup hl
  refine AR ?_<|c.loc.cells _ _ hmem;intro v0 hc0
  refine wpAny_storeName_cell c.ok.kind kc hl hc0 fun h' hc' hs=>?_
  have ha:cl∈FA env:=.tail _ (List.mem_map.mpr ⟨_,hmem,rfl⟩)
  have hne:cl≠env.locals:=c.loc.here _ _ hmem
  obtain⟨m,⟨o,es,ep,ho,r⟩,hv⟩:=c.loc.ns
  have p:Post g (FA env) s ρ {s with heap:=h' } ρ σ:=Post.ofFrame c ha (Nat.le_refl _) hs fun hd=>by
   revert hc0;refine AD ?_;intro o1 h1 h2
   revert hd;refine DP ?_;intro o2 es2 n2 h3 h4
   rw[h1]at h3;replace h3:=sj h3;subst h3;rw[h2]at h4;cases h4
  refine hZ _ p ⟨⟨m,⟨o,es,ep,(hs.2 _ (Ne.symm hne)).trans ho,r⟩,fun j u e hj=>?_⟩,fun j u e hj=>?_,fun nn cl2 hc=>?_,c.loc.apart,c.loc.here,c.loc.out⟩
  ·rw[get_put]at e
   by_cases q:j=k
   ·subst q;rw[kc]at hj;replace hj:=sj hj;cases hj
   ·rw[if_neg q]at e
    refine AD ?_<|hv j u e hj;intro y h1 h2
    exact⟨y,h1,lift ha (Nat.le_refl _) hs h2⟩
  ·rw[get_put]at e
   by_cases q:j=k
   ·subst q
    rw[if_pos rfl]at e;replace e:=sj e;subst e
    exact⟨cl,x,hl,hc',lift ha (Nat.le_refl _) hs V⟩
   ·rw[if_neg q]at e
    refine DO ?_<|c.loc.cell j u e hj;rintro cl2 y h1 ⟨oc,h2,h2'⟩ h3
    have hne2:cl2≠cl:=OL c.loc.apart (mem_of_lookup h1) hmem fun z=>q (JB z)
    exact⟨cl2,y,h1,⟨oc,(hs.2 cl2 hne2).trans h2,h2'⟩,lift ha (Nat.le_refl _) hs h3⟩
  ·by_cases q:cl2=cl
   ·subst q;exact⟨_,hc'⟩
   ·refine FD ?_<|c.loc.cells nn cl2 hc;intro v' oc h2 h2'
    exact⟨v',oc,(hs.2 cl2 q).trans h2,h2'⟩
noncomputable def EF:Expr->Bool
 | .ListComp .. => false
 | .SetComp .. => false
 | .DictComp .. => false
 | _=>true
theorem HL{e:Expr}{t:Option Expr}{l:Nat}(h:EF e=true):swapsWith e t l env=pure false:=by
 induction e using Expr.casesOn<;>first | rfl | exact noF h
theorem b1m{e me k id p pos}(he:Snd g sc e me)(hn:nm k=id)(hk:FP sc id)(hc:EF e=true):ED g sc (.Assign [.Name id p] e pos) (.asg k me):=fun{fr n T A env Λ σ ρ s X E Q P} hT c tp h hP hE=>by
 rw[exec_Assign_Name env id p e pos (HL hc)]
 refine wpAny_bind (wpAny_standAt (wpAny_bind (he.1 hT c h (fun x s₁ ρ₁ v σ₁ p₁ V₁ q=>?_) hE.up)))
 refine wpAny_bind (wpAny_standAt (wpAny_bind (GH (c.next p₁) hn hk V₁ fun s₂ p₂ L=>?_)))
 exact wpAny_pure (hP _ _ s₂ ρ₁ _ σ₁ (p₁.up.trans p₂) L .next q)
theorem a6b(hg:Ok g){e me v mv k id p pos}(he:Snd g sc e me)(hv:Snd g sc v mv)(hn:nm k=id)(hc:EF v=true):ED g sc (.Assign [.Attribute e id p] v pos) (.setA me k mv):=fun{fr n T A env Λ σ ρ s X E Q P} hT c tp h hP hE=>by
 subst hn
 refine plainObj_wpAny_Assign_Attribute ?_ (HL hc)
 refine hv.1 hT c h (fun x s₁ ρ₁ u σ₁ p₁ V₁ h₁=>?_) hE.up
 refine he.1 hT (c.next p₁) h₁ (fun y s₂ ρ₂ o σ₂ p₂ V₂ h₂=>?_) (hE.up.after p₁)
 have c2:=(c.next p₁).next p₂
 refine UE hg c2.at_ V₂ (V₁.next p₁.rel p₂) h₂ fun s₃ ρ₃ σ₃ p₃ q=>?_
 exact hP.here c ((p₁.trans p₂).trans p₃) .next q
theorem a6c{e me i mi v mv p pos}(he:Snd g sc e me)(hi:Snd g sc i mi)(hv:Snd g sc v mv)(hc:EF v=true):ED g sc (.Assign [.Subscript e i p] v pos) (.setI me mi mv):=fun{fr n T A env Λ σ ρ s X E Q P} hT c tp h hP hE=>by
 refine wpAny_Assign_Subscript ?_ (HL hc)
 refine hv.1 hT c h (fun x s₁ ρ₁ u σ₁ p₁ V₁ h₁=>?_) hE.up
 refine he.1 hT (c.next p₁) h₁ (fun y s₂ ρ₂ o σ₂ p₂ V₂ h₂=>?_) (hE.up.after p₁)
 refine hi.1 hT ((c.next p₁).next p₂) h₂ (fun z s₃ ρ₃ kk σ₃ p₃ V₃ h₃=>?_) ((hE.up.after p₁).after p₂)
 have c3:=((c.next p₁).next p₂).next p₃
 refine UF c3.at_ (V₂.next p₂.rel p₃) V₃ ((V₁.next p₁.rel p₂).next p₂.rel p₃) h₃ fun s₄ ρ₄ σ₄ p₄ q=>?_
 exact hP.here c (((p₁.trans p₂).trans p₃).trans p₄) .next q
theorem b1n{e me pos}(he:Snd g sc e me):ED g sc (.Return (some e) pos) (.ret me):=fun{fr n T A env Λ σ ρ s X E Q P} hT c tp h hP hE=>by
 rw[exec_Return_some]
 refine wpAny_bind (wpAny_standAt (wpAny_bind (he.1 hT c h (fun x s₁ ρ₁ v σ₁ p₁ V₁ q=>?_) hE.up)))
 exact wpAny_pure (hP.here c p₁ (.ret V₁) q)
theorem b1o{e me pos}(he:Snd g sc e me)(hc:EF e=true):ED g sc (.Expr e pos) (.exp me):=fun{fr n T A env Λ σ ρ s X E Q P} hT c tp h hP hE=>by
 refine wpAny_Expr_any (he.1 hT c h (fun x s₁ ρ₁ v σ₁ p₁ V₁ q=>hP.here c p₁ .next q) hE.up) ?_ (HL hc)
 unfold interactive
 rw[c.ok.kind];rfl
theorem a6d{pos}:ED g sc (.Pass pos) .pass:=fun _ c _ h hP _=>wpAny_Pass (hP.here c (.refl c.at_.rel) .next h)
theorem a6e{pos}:ED g sc (.Continue pos) .cont:=fun _ c _ h hP _=>PySem.wpAny_Continue (hP.here c (.refl c.at_.rel) .cont h)
theorem a6f:EM g sc [] []:=fun _ c _ h hP _=>wpAny_pure (hP.here c (.refl c.at_.rel) .next h)
theorem a2t{st ms sts mss}(h1:ED g sc st ms)(h2:EM g sc sts mss):EM g sc (st::sts) (ms::mss):=fun{fr n T A env Λ σ ρ s X E Q P} hT c tp h hP hE=>by
 show wpAny _ _ (exec st env >>= _) _ _ _
 refine wpAny_bind (h1 hT c tp h (fun f fl s' ρ' Λ' σ' p L V q=>?_) hE)
 cases V with
 | next=>exact h2 hT (c.step p L) tp q (hP.afterF p) (hE.afterF p)
 | cont=>exact wpAny_pure (hP _ _ s' ρ' Λ' σ' p L .cont q)
 | ret V=>exact wpAny_pure (hP _ _ s' ρ' Λ' σ' p L (.ret V) q)
theorem b3t{e me a b ma mb pos}(he:Snd g sc e me)(ha:EM g sc a ma)(hb:EM g sc b mb):ED g sc (.If e a b pos) (.ifS me ma mb):=fun{fr n T A env Λ σ ρ s X E Q P} hT c tp h hP hE=>by
 rw[exec_If]
 refine wpAny_bind (wpAny_standAt (wpAny_bind (he.2 (Q:=fun t σ'=>if t=true then AN T ma Λ σ' Q X else AN T mb Λ σ' Q X) hT c h (fun pv σ' k=>?_) (fun t s₁ ρ₁ σ₁ p q=>?_) hE.up)))
 ·refine AD ?_<|CZ k;rintro t rfl q
  exact⟨t,rfl,q⟩
 ·have c1:=c.step p.up (c.next p).loc
  induction t using Bool.casesOn
  ·exact hb hT c1 tp q (hP.afterF p.up) (hE.afterF p.up)
  ·exact ha hT c1 tp q (hP.afterF p.up) (hE.afterF p.up)
end
structure Beside(fp:List Addr)(s s':Shared):Prop where
 keep:∀ b o,b∉fp->s.heap.get? b=some o->s'.heap.get? b=some o
 size:s.heap.objs.size<=s'.heap.objs.size
 toks:s.toks<=s'.toks
 same:Same s s'
structure Hidden(g:G)(A:Around)(env:Env)(fp:List Addr)(ρ:Rho)(h:Heap):Prop where
 out:∀ a∈fp,Out ρ a/\g.B.get? a=none
 tup:∀ a∈fp,∀ xs,a∉g.Z->IsTup h a xs->False
 dic:∀ a∈fp,¬ IsDict h a
 fa:∀ a∈fp,a∉FA env
 hand:∀ a∈fp,A.handled≠some (.ref a)
 z:∀ a∈fp,a∉g.Z
 there:∀ a∈fp,a<h.objs.size
section
variable {g:G}{fr:Bool}{A:Around}{s s₁ s₂:Shared}{ρ ρ₁ ρ₂:Rho}{σ σ₁ σ₂:St}{E:Value->Shared->Prop}{X:St->Prop}{sc:List (Str×NameKind)}{n:Nat}{env:Env}{Λ Λ₁:Loc}{fp:List Addr}
theorem Beside.tups(B:Beside fp s s₁)(H:Hidden g A env fp ρ s.heap):∀ a xs,IsTup s.heap a xs->IsTup s₁.heap a xs:=fun a xs ht=>by
 refine AD ?_<|id ht;intro o ho r
 exact⟨o,B.keep a o (fun hm=>H.tup a hm xs (H.z a hm) ht) ho,r⟩
theorem Beside.vr(B:Beside fp s s₁)(H:Hidden g A env fp ρ s.heap){v:PV}{x:Value}(V:VR g s.toks s.heap ρ v x):VR g s₁.toks s₁.heap ρ v x:=V.mono B.toks (B.tups H) fun _ _ e=>e
theorem Beside.post(B:Beside fp s s₁)(H:Hidden g A env fp ρ s.heap)(R:Rel g s.toks ρ σ s.heap):Post g fp s ρ s₁ ρ σ :=
 ⟨R.move B.toks B.size (fun b o e hb=>B.keep b o hb e) fun a ha=>⟨(H.out a ha).1,(H.out a ha).2,fun xs ht=>H.tup a ha xs (H.z a ha) ht⟩,⟨⟨[],by simp,fun _ hp=>by cases hp⟩,fun b o e _ hb=>B.keep b o hb e,B.size,fun b ⟨o,es,m,ho,hd⟩=>⟨o,es,m,B.keep b o (fun hm=>H.dic b hm ⟨o,es,m,ho,hd⟩) ho,hd⟩⟩,B.toks,B.same⟩
theorem Beside.hok(B:Beside fp s s₁)(H:Hidden g A env fp ρ s.heap)(h:HOk fr A s.heap):HOk fr A s₁.heap:=by
 rcases h with h | ⟨h0,e,oe,vs,h1,h2,h3,h4⟩
 ·exact .inl h
 ·exact .inr ⟨h0,e,oe,vs,h1,B.keep e oe (fun hm=>H.hand e hm h1) h2,h3,h4⟩
theorem Beside.at(B:Beside fp s s₁)(H:Hidden g A env fp ρ s.heap)(c:At g fr A σ ρ s):At g fr A σ ρ s₁ :=
 ⟨B.hok H c.hand,c.stk.grow (B.post H c.rel).grow,(B.post H c.rel).rel,Nat.lt_of_lt_of_le c.toks B.toks⟩
theorem Beside.loc(B:Beside fp s s₁)(H:Hidden g A env fp ρ s.heap)(L:LocR g s.toks env Λ ρ s.heap):LocR g s₁.toks env Λ ρ s₁.heap:=by
 have kp:∀ a∈FA env,∀ o,s.heap.get? a=some o->s₁.heap.get? a=some o:=fun a ha o e=>B.keep a o (fun hm=>H.fa a hm ha) e
 obtain⟨m,⟨o,es,ep,ho,r⟩,hv⟩:=L.ns
 refine⟨⟨m,⟨o,es,ep,kp _ (.head _) _ ho,r⟩,fun k v e hk=>?_⟩,fun k v e hk=>?_,fun n c hc=>?_,L.apart,L.here,L.out⟩
 ·refine AD ?_<|hv k v e hk;intro x a b
  exact⟨x,a,B.vr H b⟩
 ·refine DO ?_<|L.cell k v e hk;rintro c x a ⟨oc,hoc,hd⟩ b
  exact⟨c,x,a,⟨oc,kp _ (.tail _ (List.mem_map.mpr ⟨_,mem_of_lookup a,rfl⟩)) _ hoc,hd⟩,B.vr H b⟩
 ·refine FD ?_<|L.cells n c hc;intro v oc hoc hd
  exact⟨v,oc,kp _ (.tail _ (List.mem_map.mpr ⟨_,hc,rfl⟩)) _ hoc,hd⟩
theorem Beside.ctx(B:Beside fp s s₁)(H:Hidden g A env fp ρ s.heap)(c:Ctx g fr n A env sc Λ σ ρ s):Ctx g fr n A env sc Λ σ ρ s₁:=⟨c.ok,c.room,B.at H c.at_,B.loc H c.loc⟩
theorem Beside.hidden(B:Beside fp s s₁)(H:Hidden g A env fp ρ s.heap)(ht:∀ a∈fp,(∀ xs,¬ IsTup s₁.heap a xs)/\¬ IsDict s₁.heap a):Hidden g A env fp ρ s₁.heap :=
 ⟨H.out,fun a ha xs _ h=>(ht a ha).1 xs h,fun a ha=>(ht a ha).2,H.fa,H.hand,H.z,fun a ha=>Nat.lt_of_lt_of_le (H.there a ha) B.size⟩
theorem Hidden.run{F:List Addr}(H:Hidden g A env fp ρ s.heap)(p:Post g F s ρ s₁ ρ₁ σ₁)(hF:∀ a∈fp,a∉F)(hk:∀ a∈fp,∃ o,s.heap.get? a=some o) :
  Hidden g A env fp ρ₁ s₁.heap/\∀ a∈fp,∀ o,s.heap.get? a=some o->s₁.heap.get? a=some o:=by
 have kp:∀ a∈fp,∀ o,s.heap.get? a=some o->s₁.heap.get? a=some o:=fun a ha o e=>p.grow.keep a o e (H.out a ha).1 (hF a ha)
 refine⟨⟨fun a ha=>⟨p.grow.out (H.there a ha) (H.out a ha).1,(H.out a ha).2⟩,fun a ha xs hz ht=>?_,fun a ha hd=>?_,H.fa,H.hand,H.z,fun a ha=>Nat.lt_of_lt_of_le (H.there a ha) p.grow.size⟩,kp⟩
 ·refine AR ?_<|hk a ha;intro o ho
  revert ht;refine AD ?_;intro o' ho' r
  rw[kp a ha o ho]at ho';replace ho':=sj ho';subst ho'
  exact H.tup a ha xs hz ⟨o,ho,r⟩
 ·refine AR ?_<|hk a ha;intro o ho
  revert hd;refine DP ?_;intro o' es m ho' r
  rw[kp a ha o ho]at ho';replace ho':=sj ho';subst ho'
  exact H.dic a ha ⟨o,es,m,ho,r⟩
structure IterOk(g:G)(fr:Bool)(all:Bool)(I:Addr)(vs:List PV)(ok:St->Prop)(fp:List Addr)(st:Nat->Rho->Heap->Prop):Prop where
 keep:∀ {j ρ h ρ' h'},st j ρ h->(∀ b∈fp,∀ o,h.get? b=some o->h'.get? b=some o)->(∀ (i:Nat) p,ρ[i]? = some p->ρ'[i]? = some p)->(all=true->∀ p∈ρ,∀ o,h.get? p.1=some o->h'.get? p.1=some o)->st j ρ' h'
 self:∀ {A s ρ j E} {Q:Value->Shared->Prop},st j ρ s.heap->Q (.ref I) s->wpAny (model g.prog g.w) A (pyIter (.ref I)) Q E s
 there:∀ {j ρ h},st j ρ h->∀ b∈fp,∃ o fs,h.get? b=some o/\o.data = .fields fs/\o.cls≠.type "tuple"
 item:∀ {A s ρ σ j v E} {Q:Option Value->Shared->Prop},At g fr A σ ρ s->ok σ->st j ρ s.heap->vs[j]? = some v →
  (∀ y s',Beside fp s s'->VR g s'.toks s'.heap ρ v y->st (j+1) ρ s'.heap->Q (some y) s')->wpAny (model g.prog g.w) A (pyNext (.ref I)) Q E s
 stop:∀ {A s ρ σ E} {Q:Option Value->Shared->Prop},At g fr A σ ρ s->ok σ->st vs.length ρ s.heap->(∀ s',Beside fp s s'->Q none s')->wpAny (model g.prog g.w) A (pyNext (.ref I)) Q E s
theorem a2u{I l:Addr}{i:Nat}{vs:List PV}(hI:I≠l):IterOk g fr false I vs (fun τ=>AK τ i=some vs) [I] (fun j ρ h=>h.IsListIter I l j/\ρ[i]? = some (l,l)) where
 keep:=fun⟨⟨o,ho,r⟩,e⟩ hk hρ _=>⟨⟨o,hk I (by simp) o ho,r⟩,hρ _ _ e⟩
 self:=fun st q=>wpAny_pyIter_listiter st.1 q
 there:=fun⟨⟨o,ho,hc,hd⟩,e⟩ b hb=>by rw[List.mem_singleton.mp hb];exact⟨o,_,ho,hd,by rw[hc];decide⟩
 item:=fun{A s ρ σ j v E Q} c ok st hv hQ=>by
  obtain⟨l',xs,e1,hi,hl,Va,_⟩:=c.rel.list ok (.ref st.2)
  replace e1:=PySem.Value.ref.inj e1;subst e1
  refine AD ?_<|Va.get? hv;intro y hy Vy
  refine wpAny_pyNext_list_item (x:=y) st.1 hl.isList (by simpa using hy) fun h' hit hs=>?_
  have ntup:∀ xs,¬ IsTup s.heap I xs:=fun xs ht=>by
   refine IY ?_<|st.1;intro o ho hc _
   revert ht;refine IY ?_;intro o' ho' hc' _
   rw[ho]at ho';replace ho':=sj ho';subst ho';rw[hc]at hc';exact absurd hc' (by decide)
  exact hQ y {s with heap:=h' } ⟨fun b o hb e=>(hs.2 b (by simpa using hb)).trans e,Nat.le_of_eq hs.1.symm,Nat.le_refl _,⟨rfl,rfl,rfl⟩⟩
   (Vy.mono (Nat.le_refl _) (fun a zs ht=>by refine AD ?_<|id ht;intro o ho r;exact⟨o,(hs.2 a fun e=>ntup zs (e▸ht)).trans ho,r⟩) fun _ _ e=>e) ⟨hit,st.2⟩
 stop:=fun{A s ρ σ E Q} c ok st hQ=>by
  obtain⟨l',xs,e1,hi,hl,Va,_⟩:=c.rel.list ok (.ref st.2)
  replace e1:=PySem.Value.ref.inj e1;subst e1
  refine MC c.hand st.1 hl.isList (by simp[← Va.length]) fun h' he hz=>?_
  exact hQ {s with heap:=h' } ⟨fun b o hb e=>he b o (by simpa using hb) e,hz,Nat.le_refl _,⟨rfl,rfl,rfl⟩⟩
theorem VM{I:Addr}{x:Str}{t:Tok}:IterOk g fr false I (x.cps.toList.map fun c=>.str ⟨#[c]⟩ true) (fun _=>True) [I] (fun j ρ h=>h.IsStrIter I (strIterType x) x t j) where
 keep:=fun⟨o,ho,r⟩ hk hρ _=>⟨o,hk I (by simp) o ho,r⟩
 self:=fun{A s ρ j E Q} st q=>by
  cases ha:x.cps.all (· < 128)
  ·have e1:strIterType x="str_iterator":=by simp[strIterType,ha]
   rw[e1]at st;exact wpAny_pyIter_striter_wide st q
  ·have e1:strIterType x="str_ascii_iterator":=by simp[strIterType,ha]
   rw[e1]at st;exact wpAny_pyIter_striter_ascii st q
 there:=fun⟨o,ho,hc,hd⟩ b hb=>by
  rw[List.mem_singleton.mp hb]
  refine⟨o,_,ho,hd,?_⟩
  rw[hc];unfold strIterType;split<;>decide
 item:=fun{A s ρ σ j v E Q} c ok st hv hQ=>by
  rw[List.getElem?_map]at hv
  refine AD ?_<|Option.map_eq_some_iff.mp hv;rintro cp hc rfl
  refine UH st (c:=cp) (by simpa using hc) fun h' hit hs=>?_
  exact hQ _ {s with heap:=h',toks:=s.toks+1 } ⟨fun b o hb e=>(hs.2 b (by simpa using hb)).trans e,Nat.le_of_eq hs.1.symm,Nat.le_succ _,⟨rfl,rfl,rfl⟩⟩
   (.str _ _ _ (by show 1<=sizeLine;decide) fun _=>⟨Nat.ne_of_gt c.toks,Nat.lt_succ_self _⟩) hit
 stop:=fun{A s ρ σ E Q} c ok st hQ=>by
  refine UY c.hand st (by simp) fun h' he hz=>?_
  exact hQ {s with heap:=h' } ⟨fun b o hb e=>he b o (by simpa using hb) e,hz,Nat.le_refl _,⟨rfl,rfl,rfl⟩⟩
theorem a0r{I:Addr}{m:Nat}:IterOk g true false I ((List.range m).map fun(k:Nat)=>PV.int (k:Int)) (fun _=>True) [I] (fun j ρ h=>IsRangeIter h I (j:Int) ((m:Int)-j) 1) where
 keep:=fun ho hk hρ _=>hk I (by simp) _ ho
 self:=fun st q=>wpAny_pyIter_rangeiter st q
 there:=fun ho b hb=>by rw[List.mem_singleton.mp hb];exact⟨_,_,ho,rfl,by simp⟩
 item:=fun{A s ρ σ j v E Q} c ok st hv hQ=>by
  rw[List.getElem?_map]at hv
  refine AD ?_<|Option.map_eq_some_iff.mp hv;rintro k hk rfl
  obtain⟨hlt,he⟩:=List.getElem?_eq_some_iff.mp hk
  simp only[List.length_range,List.getElem_range]at hlt he
  subst he
  refine wpAny_pyNext_range_item st (by lia) fun h' hit hs=>?_
  have e:(m:Int)-(j+1:Nat)=(m:Int)-j-1:=by lia
  exact hQ _ {s with heap:=h',toks:=s.toks+1 } ⟨fun b o hb e=>(hs.2 b (by simpa using hb)).trans e,Nat.le_of_eq hs.1.symm,Nat.le_succ _,⟨rfl,rfl,rfl⟩⟩
   (.int _ _) (by rw[e];exact hit)
 stop:=fun{A s ρ σ E Q} c ok st hQ=>by
  have hh:A.handled=none:=c.hand.elim id fun h=>by cases h.1
  refine DV (wpAny_pyNext_range_end hh st (by simp) fun h' he hz=>?_)
  exact hQ {s with heap:=h' } ⟨fun b o hb e=>he b o (by simpa using hb) e,hz,Nat.le_refl _,⟨rfl,rfl,rfl⟩⟩
theorem a2v{I d:Addr}{ep:Nat}{xs:List (Str×Value)}(hI:I≠d)(hz:∀ p∈xs,p.1.length<=sizeLine):IterOk g true true I (xs.map fun p=>.str p.1 false) (fun _=>True) [I]
  (fun j ρ h=>h.IsKeyIter I d j xs.length ep/\(d,d)∈ρ/\h.DictAt (strKind g.prog g.w) d xs ep) where
 keep:=fun{j ρ h ρ' h'} ⟨⟨o,ho,r⟩,e,o',es,h1,h2⟩ hk hρ hall=>by
  refine AR ?_<|List.mem_iff_getElem?.mp e;intro i hi
  exact⟨⟨o,hk I (by simp) o ho,r⟩,List.mem_of_getElem? (hρ i _ hi),o',es,hall rfl _ e o' h1,h2⟩
 self:=fun st q=>wpAny_pyIter_keyiter st.1 q
 there:=fun⟨⟨o,ho,hc,hd⟩,_⟩ b hb=>by rw[List.mem_singleton.mp hb];exact⟨o,_,ho,hd,by rw[hc];decide⟩
 item:=fun{A s ρ σ j v E Q} c ok st hv hQ=>by
  rw[List.getElem?_map]at hv
  refine AD ?_<|Option.map_eq_some_iff.mp hv;rintro⟨k,y⟩ hk rfl
  refine wpAny_pyNext_dict_item st.1 st.2.2 hk fun key h' hkey hit hs=>?_
  have:∃ t,key = .str k t:=Value.isStrOf_shape hkey
  revert this;refine AR ?_;rintro t rfl
  exact hQ _ {s with heap:=h' } ⟨fun b o hb e=>(hs.2 b (by simpa using hb)).trans e,Nat.le_of_eq hs.1.symm,Nat.le_refl _,⟨rfl,rfl,rfl⟩⟩
   (.str _ _ _ (hz _ (List.mem_of_getElem? hk)) fun e=>by exact noF e) ⟨hit,st.2.1,st.2.2.extBut hs.extBut (Ne.symm hI)⟩
 stop:=fun{A s ρ σ E Q} c ok st hQ=>by
  have hh:A.handled=none:=c.hand.elim id fun h=>by cases h.1
  refine DV (wpAny_pyNext_dict_end hh st.1 st.2.2 (by simp) fun h' he hz=>?_)
  exact hQ {s with heap:=h' } ⟨fun b o hb e=>he b o (by simpa using hb) e,hz,Nat.le_refl _,⟨rfl,rfl,rfl⟩⟩
end
noncomputable def clos(cells:List (Str×Addr)):List (Str×NameKind)->List (Str×Addr)->List (Str×Addr)
 | [],acc=>acc
 | (n,k)::r,acc=>if k = .free then(match cells.lookup n with | some c=>clos cells r ((n,c)::acc) | none=>clos cells r acc)else clos cells r acc
theorem a0s{scope:Scope}{env:Env}(h:∀ x∈scope.names,x.2 = .free->∃ c,env.cells.lookup x.1=some c):closureFor scope env=pure (clos env.cells scope.names []):=by
 have gen:∀ (l:List (Str×NameKind)) (acc:List (Str×Addr)),(∀ x∈l,x.2 = .free->∃ c,env.cells.lookup x.1=some c) →
   (forIn l acc (fun(x:Str×NameKind) cs=>match x with | (name,kind)=>if(kind == .free)=true then do let c ← cellOf env name;pure (ForInStep.yield ((name,c)::cs))else pure (ForInStep.yield cs)):Sem (List (Str×Addr)))=pure (clos env.cells l acc):=by
  intro l
  induction l with
  | nil=>intro acc _;rfl
  | cons x l ih =>
   intro acc hl
   obtain⟨nm,k⟩:=x
   rw[List.forIn_cons]
   have ih':=fun acc=>ih acc fun y hy=>hl y (.tail _ hy)
   by_cases hk:k = .free
   ·subst hk
    refine AR ?_<|hl _ (.head _) rfl;intro c hc
    have e:cellOf env nm=pure c:=by unfold cellOf;rw[hc]
    rw[clos]
    simp only[beq_self_eq_true,if_true,e,pure_bind]
    rw[hc]
    exact ih' _
   ·have hb:(k==NameKind.free)=false:=by simpa using hk
    rw[clos]
    simp only[hb,Bool.false_eq_true,if_false,pure_bind,if_neg hk]
    exact ih' _
 unfold closureFor
 have:=gen scope.names [] h
 simp only at this
 first
  | (rw[this];rfl)
  | (simp only[this,pure_bind])
  | (show(forIn scope.names [] _ >>= fun cs=>pure cs)=_;rw[bind_pure];exact this)
theorem HM{cells:List (Str×Addr)}:∀ {l:List (Str×NameKind)} {acc:List (Str×Addr)} {p:Str×Addr},p∈clos cells l acc->p∈acc\/((p.1,NameKind.free)∈l/\cells.lookup p.1=some p.2)
 | [],acc,p,h=>.inl h
 | (n,k)::r,acc,p,h=>by
  rw[clos]at h
  by_cases hk:k = .free
  ·subst hk
   rw[if_pos rfl]at h
   cases hc:cells.lookup n with
   | none =>
    rw[hc]at h
    rcases HM h with h | h
    ·exact .inl h
    ·exact .inr ⟨.tail _ h.1,h.2⟩
   | some c =>
    rw[hc]at h
    rcases HM h with h | h
    ·rcases List.mem_cons.mp h with rfl | h
     ·exact .inr ⟨.head _,hc⟩
     ·exact .inl h
    ·exact .inr ⟨.tail _ h.1,h.2⟩
  ·rw[if_neg hk]at h
   rcases HM h with h | h
   ·exact .inl h
   ·exact .inr ⟨.tail _ h.1,h.2⟩
theorem LH{cells:List (Str×Addr)}:∀ {l:List (Str×NameKind)} {acc:List (Str×Addr)} {p:Str×Addr},p∈acc->p∈clos cells l acc
 | [],acc,p,h=>h
 | (n,k)::r,acc,p,h=>by
  rw[clos]
  split
  ·split
   ·exact LH (.tail _ h)
   ·exact LH h
  ·exact LH h
theorem LI{cells:List (Str×Addr)}:∀ {l:List (Str×NameKind)} {acc:List (Str×Addr)} {n:Str} {c:Addr},(n,NameKind.free)∈l->cells.lookup n=some c->(n,c)∈clos cells l acc
 | (n',k)::r,acc,n,c,h,hc=>by
  rw[clos]
  rcases List.mem_cons.mp h with h | h
  ·cases h
   rw[if_pos rfl,hc]
   exact LH (.head _)
  ·split
   ·split
    ·exact LI h hc
    ·exact LI h hc
   ·exact LI h hc
theorem QF{l:List (Str×Addr)}{n:Str}{c:Addr}(h:(n,c)∈l)(hall:∀ c',(n,c')∈l->c'=c):l.lookup n=some c:=by
 induction l with
 | nil=>cases h
 | cons p l ih =>
  obtain⟨m,d⟩:=p
  by_cases hm:n=m
  ·subst hm
   rw[List.lookup_cons_self,hall d (.head _)]
  ·have hb:(n==m)=false:=by simpa using hm
   rw[List.lookup_cons,hb]
   rcases List.mem_cons.mp h with h | h
   ·cases h;exact absurd rfl hm
   ·exact ih h fun c' hc'=>hall c' (.tail _ hc')
theorem OM{cells:List (Str×Addr)}{l:List (Str×NameKind)}{n:Str}{c:Addr}(h:(n,NameKind.free)∈l)(hc:cells.lookup n=some c):(clos cells l []).lookup n=some c:=by
 refine QF (LI h hc) fun c' h'=>?_
 rcases HM h' with h' | h'
 ·cases h'
 ·rw[h'.2]at hc;exact Option.some.inj hc
theorem NQ{cells:List (Str×Addr)}:∀ {l:List (Str×NameKind)} {acc:List (Str×Addr)},(l.map (·.1)).Nodup->acc.Pairwise (fun x y=>x.1≠y.1)->(∀ x∈l,∀ y∈acc,x.1≠y.1)->(clos cells l acc).Pairwise (fun x y=>x.1≠y.1)
 | [],acc,_,h,_=>h
 | (n,k)::r,acc,hn,h,hd=>by
  rw[List.map_cons,List.nodup_cons]at hn
  rw[clos]
  split
  ·split
   ·refine NQ hn.2 (List.pairwise_cons.mpr ⟨fun y hy=>hd _ (.head _) y hy,h⟩) fun x hx y hy=>?_
    rcases List.mem_cons.mp hy with rfl | hy
    ·exact fun e=>hn.1 (List.mem_map.mpr ⟨x,hx,e⟩)
    ·exact hd x (.tail _ hx) y hy
   ·exact NQ hn.2 h fun x hx y hy=>hd x (.tail _ hx) y hy
  ·exact NQ hn.2 h fun x hx y hy=>hd x (.tail _ hx) y hy
noncomputable def relab(names sc:List (Str×NameKind)):List (Str×NameKind):=names.map fun(n,k)=>if(k == .free&&sc.lookup n==some .cell)then(n,.cell)else(n,k)
theorem VN{scope:Scope}{env:Env}{sc:List (Str×NameKind)}(h:EnvOk sc env):(relabel scope env).names=relab scope.names sc:=by
 unfold relabel relab Env.kindOf
 rw[h.names,h.kind]
 simp
theorem relab_lookup{names sc:List (Str×NameKind)}{n:Str}:(relab names sc).lookup n=(names.lookup n).map fun k=>if(k == .free&&sc.lookup n==some .cell)then .cell else k:=by
 unfold relab
 induction names with
 | nil=>rfl
 | cons p l ih =>
  obtain⟨m,k⟩:=p
  rw[List.map_cons]
  by_cases hm:n=m
  ·subst hm
   by_cases hc:(k == .free&&sc.lookup n==some .cell)=true
   ·simp only[hc,if_true,List.lookup_cons_self,Option.map_some]
   ·simp only[hc,if_false,Bool.false_eq_true,List.lookup_cons_self,Option.map_some]
  ·have hb:(n==m)=false:=by simpa using hm
   by_cases hc:(k == .free&&sc.lookup m==some .cell)=true
   ·simp only[hc,if_true,List.lookup_cons,hb];exact ih
   ·simp only[hc,if_false,Bool.false_eq_true,List.lookup_cons,hb];exact ih
structure ScOk(scope:Scope)(sc:List (Str×NameKind))(tgt:Nat)(cap:List Nat):Prop where
 kind:scope.kind = .function
 nodup:(scope.names.map (·.1)).Nodup
 nocell:∀ x∈scope.names,x.2≠.cell
 free:∀ x∈scope.names,x.2 = .free->sc.lookup x.1=some .cell
 tgt:scope.names.lookup (nm tgt)=some .local
 cap:∀ k∈cap,scope.names.lookup (nm k)=some .free
theorem OZ{cap:List Nat}{Λ:Loc}{k:Nat}{v:PV}(h:get k (BE cap Λ)=some v):get k Λ=some v/\k∈cap:=by
 have q:=JA cap Λ k v h
 exact⟨q.1,by simpa using q.2⟩
theorem FT{l:List (Str×NameKind)}{n:Str}{k:NameKind}(h:l.lookup n=some k):(n,k)∈l:=by
 induction l with
 | nil=>exact noS h
 | cons p l ih =>
  obtain⟨m,j⟩:=p
  by_cases hm:n=m
  ·subst hm
   rw[List.lookup_cons_self]at h;replace h:=sj h;subst h;exact .head _
  ·have hb:(n==m)=false:=by simpa using hm
   rw[List.lookup_cons,hb]at h
   exact .tail _ (ih h)
section
variable {g:G}{fr:Bool}{A:Around}{s s₁ s₂:Shared}{ρ ρ₁ ρ₂:Rho}{σ σ₁ σ₂:St}{E:Value->Shared->Prop}{X:St->Prop}{sc:List (Str×NameKind)}{n:Nat}{env:Env}{Λ Λ₁:Loc}{fp:List Addr}{scope:Scope}{tgt:Nat}{cap:List Nat}
set_option tactic.hygienic true in
theorem a6g(c:Ctx g fr n A env sc Λ σ ρ s)(S:ScOk scope sc tgt cap){C:Addr}:EnvOk (relab scope.names sc) (compEnvC scope (clos env.cells scope.names []) C env):=by
 refine⟨VN c.ok,S.kind,c.ok.glob,c.ok.blt,fun id hid=>?_⟩
 rw[relab_lookup]at hid
 refine AD ?_<|Option.map_eq_some_iff.mp hid;intro k h1 h2
 have hm:=FT h1
 split at h2
 ·rename_i hc
  rw[Bool.and_eq_true,beq_iff_eq,beq_iff_eq]at hc
  revert hc;refine oA2 ?_;intro hc1 hc2
  subst hc1
  refine AR ?_<|c.ok.cells _ hc2;intro cl hcl
  exact⟨cl,OM hm hcl⟩
 ·subst h2
  exact absurd rfl (S.nocell _ hm)
theorem a6h(c:Ctx g fr n A env sc Λ σ ρ s)(S:ScOk scope sc tgt cap){C:Addr}{m:Str->Option Value}(hC:s.heap.Ns C m)(hne:C∉FA env)(ho:Out ρ C/\g.B.get? C=none) :
  LocR g s.toks (compEnvC scope (clos env.cells scope.names []) C env) (BE cap Λ) ρ s.heap:=by
 have sub:∀ p∈clos env.cells scope.names [],p∈env.cells:=fun p hp=>by
  rcases HM hp with h | h
  ·cases h
  ·exact mem_of_lookup h.2
 have kinds:∀ k v,get k (BE cap Λ)=some v->(compEnvC scope (clos env.cells scope.names []) C env).kindOf (nm k)=some .cell/\get k Λ=some v/\env.kindOf (nm k)=some .cell:=fun k v e=>by
  refine oA2 ?_<|OZ e;intro h1 h2
  have h3:=S.cap k h2
  have h4:=S.free _ (FT h3) rfl
  refine⟨?_,h1,by unfold Env.kindOf;rw[c.ok.names];exact h4⟩
  unfold Env.kindOf
  show(relabel scope env).names.lookup _=_
  rw[VN c.ok,relab_lookup,h3]
  simp only[Option.map_some]
  rw[h4];rfl
 refine⟨⟨m,hC,fun k v e hk=>?_⟩,fun k v e hk=>?_,fun nn cl hc=>c.loc.cells nn cl (sub _ hc),?_,fun nn cl hc=>?_,fun a ha=>?_⟩
 ·rw[(kinds k v e).1]at hk;replace hk:=sj hk;cases hk
 ·refine oA3 ?_<|kinds k v e;intro h1 h2 h3
  refine DO ?_ (c.loc.cell k v h2 (by rw[h3];decide));intro cl x hl hx V
  have h4:=S.cap k (OZ e).2
  exact⟨cl,x,OM (FT h4) hl,hx,V⟩
 ·have pw:=NQ (cells:=env.cells) (acc:=[]) S.nodup .nil (fun _ _ _ hy=>by cases hy)
  refine List.Pairwise.imp_of_mem ?_ pw
  intro a b ha hb hab
  exact OL c.loc.apart (sub a ha) (sub b hb) hab
 ·rintro rfl
  exact hne (.tail _ (List.mem_map.mpr ⟨_,sub _ hc,rfl⟩))
 ·rcases List.mem_cons.mp ha with rfl | ha
  ·exact ho
  ·refine AD ?_<|List.mem_map.mp ha;rintro p hp rfl
   exact c.loc.out _ (.tail _ (List.mem_map.mpr ⟨p,sub p hp,rfl⟩))
theorem Post.fresh{F:List Addr}{s0:Shared}{ρ0:Rho}(p0:Post g [] s0 ρ0 s ρ σ)(p:Post g F s ρ s₁ ρ₁ σ₁)(hF:∀ a∈F,s0.heap.objs.size<=a):Post g [] s0 ρ0 s₁ ρ₁ σ₁:=by
 have t:=(p0.wider (F':=F) (by simp)).trans p
 exact⟨t.rel,⟨t.grow.ext,fun b o e ho _=>t.grow.keep b o e ho fun hm=>Nat.lt_irrefl _ (Nat.lt_of_lt_of_le (Heap.lt_size e) (hF b hm)),t.grow.size,t.grow.dicts⟩,t.toks,t.same⟩
theorem ON{k:Nat}{v:PV}{x:Value}{M:Model}{Z:Unit->Shared->Prop}(c:Ctx g fr n A env sc Λ σ ρ s)(hk:sc.lookup (nm k)=some .local)(V:VR g s.toks s.heap ρ v x)
  (hZ:∀ h',Heap.SameBut env.locals s.heap h'->(∃ m,h'.Ns env.locals m)->LocR g (s.toks+1) env (put k v Λ) ρ h'->Z () {s with heap:=h',toks:=s.toks+1 }):wpAny M A (bindName env (nm k) x) Z E s:=by
 have hko:env.kindOf (nm k)=sc.lookup (nm k):=by unfold Env.kindOf;rw[c.ok.names]
 refine wpAny_bindName ?_
 have ha:env.locals∈FA env:=.head _
 have lift:∀ {h':Heap} {u:PV} {y:Value},Heap.SameBut env.locals s.heap h'->VR g s.toks s.heap ρ u y->VR g (s.toks+1) h' ρ u y:=fun hs U =>
  U.mono (Nat.le_succ _) (fun b zs ht=>by
   refine AD ?_<|id ht;intro o ho r
   exact⟨o,(hs.2 b fun e=>c.loc.notTup _ ha zs (e▸ht)).trans ho,r⟩) fun _ _ z=>z
 obtain⟨m,hm,hv⟩:=c.loc.ns
 refine wpAny_storeName_local (hko.trans hk) hm (fun h' hm' hs=>?_) (a2s c)
 refine hZ h' hs ⟨_,hm'⟩ ⟨⟨_,hm',fun j u e hj=>?_⟩,fun j u e hj=>?_,fun nn cl hc=>?_,c.loc.apart,c.loc.here,c.loc.out⟩
 ·rw[get_put]at e
  by_cases q:j=k
  ·subst q
   rw[if_pos rfl]at e;replace e:=sj e;subst e
   exact⟨x,if_pos rfl,lift hs V⟩
  ·rw[if_neg q]at e
   refine AD ?_<|hv j u e hj;intro y h1 h2
   exact⟨y,by rw[if_neg fun z=>q (JB z)];exact h1,lift hs h2⟩
 ·rw[get_put]at e
  by_cases q:j=k
  ·subst q
   exact absurd (hko.trans hk) hj
  ·rw[if_neg q]at e
   refine DO ?_<|c.loc.cell j u e hj;rintro cl y h1 ⟨oc,h2,h2'⟩ h3
   exact⟨cl,y,h1,⟨oc,(hs.2 cl (c.loc.here _ _ (mem_of_lookup h1))).trans h2,h2'⟩,lift hs h3⟩
 ·refine FD ?_<|c.loc.cells nn cl hc;intro v' oc h2 h2'
  exact⟨v',oc,(hs.2 cl (c.loc.here _ _ hc)).trans h2,h2'⟩
noncomputable abbrev a9n(g:G)(fr all:Bool)(n:Nat)(A:Around)(ce:Env)(ns:List (Str×NameKind))(tgt:Nat)(Γ:Loc)(ifs:List Expr)(elt:Expr)(step:PV->St->(Option PV->St->Prop)->Prop):Prop :=
 ∀ {s:Shared} {ρ:Rho} {σ:St} {x:PV} {K:Option PV->St->Prop} {P:Option Value->Shared->Prop} {E:Value->Shared->Prop},
  Ctx g fr n A ce ns (put tgt x Γ) σ ρ s->step x σ K →
  (∀ y pv s' ρ' σ',Post g [] s ρ s' ρ' σ'->(all=true->∀ p∈ρ,∀ o,s.heap.get? p.1=some o->s'.heap.get? p.1=some o)->VR g s'.toks s'.heap ρ' pv y->K (some pv) σ'->P (some y) s') →
  (∀ s' ρ' σ',Post g [] s ρ s' ρ' σ'->(all=true->∀ p∈ρ,∀ o,s.heap.get? p.1=some o->s'.heap.get? p.1=some o)->K none σ'->P none s') →
  wpAny (model g.prog g.w) A (forIn ifs true fun c r=>if r=true then do let ok ← isTrue c ce (eval c ce);pure (ForInStep.yield ok)else pure (ForInStep.yield r))
   (fun ok s₃=>if ok=true then wpAny (model g.prog g.w) A (eval elt ce) (fun y s₄=>P (some y) s₄) E s₃ else P none s₃) E s
noncomputable abbrev JD(g:G)(fr all:Bool)(n:Nat)(A:Around)(env:Env)(sc:List (Str×NameKind))(scope:Scope)(tgt:Nat)(cap:List Nat)(Λ:Loc)(ifs:List Expr)(elt:Expr)(step:PV->St->(Option PV->St->Prop)->Prop):Prop :=
 ∀ {C:Addr},a9n g fr all n A (compEnvC scope (clos env.cells scope.names []) C env) (relab scope.names sc) tgt (BE cap Λ) ifs elt step
structure CompEnd(g:G)(fp:List Addr)(s:Shared)(ρ:Rho)(s':Shared)(ρ':Rho)(σ':St)(D C:Addr)(us:List PV)(ys:List Value):Prop where
 post:Post g (C::D::fp) s ρ s' ρ' σ'
 outD:Out ρ' D
 outC:Out ρ' C
 leD:s.heap.objs.size<=D
 leC:s.heap.objs.size<=C
 ne:D≠C
 plain:s'.heap.PlainList D ys.toArray
 vals:VRs g s'.toks s'.heap ρ' us ys
 fit:fits us.length=true
 ns:∃ m,s'.heap.Ns C m
theorem JR{h:Heap}{D:Addr}{xs:Array Value}(p:h.PlainList D xs):(∀ ys,¬ IsTup h D ys)/\¬ IsDict h D :=
 Exists.elim p fun _ hk=>⟨fun _ ⟨_,ho,hc,_⟩=>by rw[hk]at ho;replace ho:=sj ho;subst ho;exact absurd hc (by simp),fun⟨_,_,_,ho,hd⟩=>by rw[hk]at ho;replace ho:=sj ho;subst ho;cases hd⟩
theorem TH{all:Bool}{I:Addr}{vs:List PV}{ok:St->Prop}{st:Nat->Rho->Heap->Prop}{j:Nat}{ρ:Rho}{h:Heap}(W:IterOk g fr all I vs ok fp st)(t:st j ρ h)(a:Addr)(ha:a∈fp):(∀ ys,¬ IsTup h a ys)/\¬ IsDict h a :=
 Exists.elim (W.there t a ha) fun _ ⟨_,e,hd,hc⟩=>⟨fun _ ⟨_,ho,h',_⟩=>by rw[e]at ho;replace ho:=sj ho;subst ho;exact hc h',fun⟨_,_,_,ho,hd'⟩=>by rw[e]at ho;replace ho:=sj ho;subst ho;rw[hd]at hd';cases hd'⟩
theorem Hidden.tl{D:Addr}{h:Heap}(H:Hidden g A env (D::fp) ρ h):Hidden g A env fp ρ h :=
 ⟨fun a ha=>H.out a (.tail _ ha),fun a ha=>H.tup a (.tail _ ha),fun a ha=>H.dic a (.tail _ ha),fun a ha=>H.fa a (.tail _ ha),fun a ha=>H.hand a (.tail _ ha),fun a ha=>H.z a (.tail _ ha),fun a ha=>H.there a (.tail _ ha)⟩
theorem Hidden.cons{D:Addr}{h:Heap}{env':Env}{xs:Array Value}(H:Hidden g A env fp ρ h)(p:h.PlainList D xs)(o:Out ρ D/\g.B.get? D=none)(hd:A.handled≠some (.ref D))(z:D∉g.Z)(fa:∀ a∈D::fp,a∉FA env'):Hidden g A env' (D::fp) ρ h :=
 ⟨List.forall_mem_cons.mpr ⟨o,H.out⟩,List.forall_mem_cons.mpr ⟨fun xs _=>(JR p).1 xs,H.tup⟩,List.forall_mem_cons.mpr ⟨(JR p).2,H.dic⟩,fa,List.forall_mem_cons.mpr ⟨hd,H.hand⟩,List.forall_mem_cons.mpr ⟨z,H.z⟩,List.forall_mem_cons.mpr ⟨Exists.elim p fun _ e=>Heap.lt_size e,H.there⟩⟩
theorem Beside.wide{D:Addr}(B:Beside fp s s₁):Beside (D::fp) s s₁:=⟨fun b o h=>B.keep b o fun q=>h (.tail _ q),B.size,B.toks,B.same⟩
theorem At.noHand{c:At g fr A σ ρ s}:A.handled≠some (.ref s.heap.objs.size):=fun h=>by
 rcases c.hand with h0 | ⟨_,e,oe,ws,h1,h2,_⟩
 ·rw[h0]at h;exact noS h
 ·rw[h1]at h;replace h:=sj h;replace h:=PySem.Value.ref.inj h;subst h
  exact Nat.lt_irrefl _ (Heap.lt_size h2)
theorem Beside.plain{D:Addr}{xs:Array Value}(B:Beside fp s s₁)(h:D∉fp)(p:s.heap.PlainList D xs):s₁.heap.PlainList D xs:=p.imp fun _ e=>B.keep _ _ h e
theorem Beside.ns{D:Addr}{m:Str->Option Value}(B:Beside fp s s₁)(h:D∉fp)(p:s.heap.Ns D m):s₁.heap.Ns D m:=let⟨o,es,ep,ho,r⟩:=p;⟨o,es,ep,B.keep _ _ h ho,r⟩
structure CInv(g:G)(fr:Bool)(n:Nat)(A:Around)(ce:Env)(ns:List (Str×NameKind))(fp:List Addr)(Γ:Loc)(D:Addr)(st:Nat->Rho->Heap->Prop)(Gs:Nat->List PV->St->Prop)(s:Shared)(ρ:Rho)(L j:Nat)(us:List PV)(ys:List Value)(s':Shared)(ρ':Rho)(σ':St):Prop where
 le:j<=L
 post:Post g (ce.locals::D::fp) s ρ s' ρ' σ'
 ctx:Ctx g fr n A ce ns Γ σ' ρ' s'
 hid:Hidden g A ce (D::fp) ρ' s'.heap
 at_:st j ρ' s'.heap
 plain:s'.heap.PlainList D ys.toArray
 vals:VRs g s'.toks s'.heap ρ' us ys
 few:us.length<=j
 turns:Gs j us σ'
section
variable {all:Bool}{I D:Addr}{vs us:List PV}{ys:List Value}{ok:St->Prop}{st:Nat->Rho->Heap->Prop}{step:PV->St->(Option PV->St->Prop)->Prop}{Gs:Nat->List PV->St->Prop}{ce:Env}{ns:List (Str×NameKind)}{Γ:Loc}{L j:Nat}{v:PV}
structure CMid(g:G)(fr:Bool)(n:Nat)(A:Around)(ce:Env)(ns:List (Str×NameKind))(fp:List Addr)(Γ:Loc)(D:Addr)(st:Nat->Rho->Heap->Prop)(s:Shared)(ρ:Rho)(j:Nat)(us:List PV)(ys:List Value)(s':Shared)(ρ':Rho)(σ':St):Prop where
 post:Post g (ce.locals::D::fp) s ρ s' ρ' σ'
 ctx:Ctx g fr n A ce ns Γ σ' ρ' s'
 hid:Hidden g A ce (D::fp) ρ' s'.heap
 at_:st j ρ' s'.heap
 plain:s'.heap.PlainList D ys.toArray
 vals:VRs g s'.toks s'.heap ρ' us ys
theorem CMid.live(W:IterOk g fr all I vs ok fp st)(M:CMid g fr n A ce ns fp Γ D st s ρ j us ys s₁ ρ₁ σ₁):∀ a∈D::fp,∃ o,s₁.heap.get? a=some o :=
 List.forall_mem_cons.mpr ⟨M.plain.imp' (fun _=>_) fun _ e=>e,fun a ha=>(W.there M.at_ a ha).imp fun _ ⟨_,e,_⟩=>e⟩
theorem CMid.run(W:IterOk g fr all I vs ok fp st)(M:CMid g fr n A ce ns fp Γ D st s ρ j us ys s₁ ρ₁ σ₁)(p:Post g [] s₁ ρ₁ s₂ ρ₂ σ₂)(ha:all=true->∀ p∈ρ₁,∀ o,s₁.heap.get? p.1=some o->s₂.heap.get? p.1=some o):CMid g fr n A ce ns fp Γ D st s ρ j us ys s₂ ρ₂ σ₂ :=
 have H:=M.hid.run p (fun _ _ h=>nomatch h) (M.live W)
 ⟨M.post.trans p.up,M.ctx.next p,H.1,W.keep M.at_ (fun b hb=>H.2 b (.tail _ hb)) (fun _ _ e=>p.grow.old e) ha,M.plain.imp fun _ e=>H.2 _ (.head _) _ e,VRs.next M.post.rel p M.vals⟩
theorem CMid.app(W:IterOk g fr all I vs ok fp st)(M:CMid g fr n A ce ns fp Γ D st s ρ j us ys s₁ ρ₁ σ₁)(hD:D∉fp){pv:PV}{y:Value}(V:VR g s₁.toks s₁.heap ρ₁ pv y){h:Heap}(hl:h.PlainList D (ys++[y]).toArray)(hs:Heap.SameBut D s₁.heap h):CMid g fr n A ce ns fp Γ D st s ρ j (us++[pv]) (ys++[y]) {s₁ with heap:=h } ρ₁ σ₁ :=
 have B:Beside (D::fp) s₁ {s₁ with heap:=h }:=⟨fun b o hb e=>(hs.2 b fun q=>hb (q ▸ .head _)).trans e,Nat.le_of_eq hs.1.symm,Nat.le_refl _,⟨rfl,rfl,rfl⟩⟩
 have t:st j ρ₁ h:=W.keep M.at_ (fun b hb o e=>(hs.2 b fun q=>hD (q▸hb)).trans e) (fun _ _ e=>e) fun _ p hp o e=>(hs.2 _ fun e=>((M.hid.out _ (.head _)).1 p hp).1 e.symm).trans e
 have pD:=B.post M.hid M.ctx.at_.rel
 ⟨M.post.trans (pD.wider fun b hb=>.tail _ hb),B.ctx M.hid M.ctx,B.hidden M.hid (List.forall_mem_cons.mpr ⟨JR hl,TH W t⟩),t,hl,(M.vals.append (.cons V .nil)).mono B.toks (B.tups M.hid) fun _ _ e=>e⟩
theorem CMid.next(M:CMid g fr n A ce ns fp (put tgt v Γ) D st s ρ (j+1) us ys s₁ ρ₁ σ₁)(out:∀ w,get tgt Γ≠some w)(hj:j<L)(hu:us.length<=j+1)(G:Gs (j+1) us σ₁):CInv g fr n A ce ns fp Γ D st Gs s ρ L (j+1) us ys s₁ ρ₁ σ₁ :=
 ⟨hj,M.post,⟨M.ctx.ok,M.ctx.room,M.ctx.at_,M.ctx.loc.less fun k w e=>by
  rw[get_put]
  by_cases q:k=tgt
  ·subst q;exact absurd e (out w)
  ·rw[if_neg q];exact e⟩,M.hid,M.at_,M.plain,M.vals,hu,G⟩
theorem CInv.start(W:IterOk g fr all I vs ok fp st)(M:CInv g fr n A ce ns fp Γ D st Gs s ρ L j us ys s₁ ρ₁ σ₁)(hD:D∉fp)(hC:ce.locals∉D::fp){y:Value}(B:Beside fp s₁ s₂)(V:VR g s₂.toks s₂.heap ρ₁ v y)(t:st (j+1) ρ₁ s₂.heap)(hk:ns.lookup (nm tgt)=some .local){Md:Model}{Z:Unit->Shared->Prop}
  (hZ:∀ s₃,CMid g fr n A ce ns fp (put tgt v Γ) D st s ρ (j+1) us ys s₃ ρ₁ σ₁->Z () s₃):wpAny Md A (bindName ce (nm tgt) y) Z E s₂:=by
 have cB:=B.ctx M.hid.tl M.ctx
 have pB:=B.post M.hid.tl M.ctx.at_.rel
 refine ON cB hk V fun h hs hn L=>hZ _ ?_
 have pS:Post g [ce.locals] s₂ ρ₁ {s₂ with heap:=h,toks:=s₂.toks+1 } ρ₁ σ₁:=Post.ofOne cB (.head _) (Nat.le_succ _) hs fun _=>let⟨m,hm⟩:=hn;.ns hm
 have plB:=B.plain hD M.plain
 have HB:=B.wide.hidden M.hid (List.forall_mem_cons.mpr ⟨JR plB,TH W t⟩)
 have R:=HB.run pS (fun a ha hm=>hC (List.mem_singleton.mp hm▸ha)) (List.forall_mem_cons.mpr ⟨plB.imp' (fun _=>_) fun _ e=>e,fun a ha=>(W.there t a ha).imp fun _ ⟨_,e,_⟩=>e⟩)
 exact⟨(M.post.trans (pB.wider fun b hb=>.tail _ (.tail _ hb))).trans (pS.wider fun b hb=>by rw[List.mem_singleton.mp hb];exact .head _),⟨cB.ok,cB.room,cB.at_.next pS (fun a ha=>by rw[List.mem_singleton.mp ha];exact cB.fa _ (.head _)),L⟩,R.1,
  W.keep t (fun b hb=>R.2 b (.tail _ hb)) (fun _ _ e=>e) fun _ p hp o e=>(hs.2 _ fun q=>((M.ctx.loc.out _ (.head _)).1 p hp).1 q.symm).trans e,plB.imp fun _ e=>R.2 _ (.head _) _ e,
  (M.vals.mono B.toks (B.tups M.hid.tl) fun _ _ e=>e).mono (Nat.le_succ _) (pS.grow.tup pB.rel fun a ha=>by rw[List.mem_singleton.mp ha];exact cB.loc.notTup _ (.head _)) fun _ _ e=>e⟩
theorem a2w{elt iter:Expr}{ifs:List Expr}{px:Pos}{pos:Pos}{Qf:List PV->St->Prop}{R:Result->Shared->Prop}
  (W:IterOk g fr all I vs ok fp st) (hstep:a9n g fr all n A ce ns tgt Γ ifs elt step) (hvs:vs.length<=sizeLine) (hk:ns.lookup (nm tgt)=some .local) (out:∀ w,get tgt Γ≠some w) (hD:D∉fp) (hC:ce.locals∉D::fp)
  (M:CInv g fr n A ce ns fp Γ D st (fun j us σ=>gathers ok step (vs.drop j) us σ Qf) s ρ vs.length 0 [] [] s₁ ρ₁ σ₁)
  (hR:∀ s' ρ' σ' us ys,Post g (ce.locals::D::fp) s ρ s' ρ' σ'->Out ρ' D->Out ρ' ce.locals->s'.heap.PlainList D ys.toArray->VRs g s'.toks s'.heap ρ' us ys->fits us.length=true->(∃ m,s'.heap.Ns ce.locals m)->Qf us σ'->R (.ok .next) s') :
  codeAny (model g.prog g.w) A (.compLoop (.ListComp elt [⟨.Name (nm tgt) px,iter,ifs,0⟩] scope pos) 0 (.ref I) (.ref D) ce) R s₁:=by
 refine codeAny_compLoop_tests (fun k s'=>∃ j us ys ρ' σ',k=vs.length+1-j/\CInv g fr n A ce ns fp Γ D st (fun j us σ=>gathers ok step (vs.drop j) us σ Qf) s ρ vs.length j us ys s' ρ' σ') ?_ (vs.length+1) ⟨0,[],[],ρ₁,σ₁,rfl,M⟩
 clear M
 rintro k s₁ ⟨j,us,ys,ρ₁,σ₁,rfl,M⟩
 have G:=M.turns
 have few0:=M.few
 have few:=Nat.le_succ_of_le few0
 cases hv:vs[j]? with
 | none =>
  have hj':j=vs.length:=Nat.le_antisymm M.le (List.getElem?_eq_none_iff.mp hv)
  subst hj'
  rw[List.drop_length]at G
  refine W.stop M.ctx.at_ G.1 M.at_ fun s₂ B=>?_
  have pB:=B.post M.hid.tl M.ctx.at_.rel
  exact hR s₂ ρ₁ σ₁ us ys (M.post.trans (pB.wider fun b hb=>.tail _ (.tail _ hb))) (M.hid.out _ (.head _)).1 (M.ctx.loc.out _ (.head _)).1 (B.plain hD M.plain) (M.vals.mono B.toks (B.tups M.hid.tl) fun _ _ e=>e) G.2.1
   (Exists.elim M.ctx.loc.ns fun m h=>⟨m,B.ns (fun q=>hC (.tail _ q)) h.1⟩) G.2.2
 | some v =>
  have hlt:j<vs.length:=(List.getElem?_eq_some_iff.mp hv).1
  have hd:vs.drop j=v::vs.drop (j+1):=by
   rw[List.drop_eq_getElem_cons hlt];congr 1;exact(List.getElem?_eq_some_iff.mp hv).2
  rw[hd]at G
  refine W.item M.ctx.at_ G.1 M.at_ hv fun y s₂ B V t=>?_
  show wpAny _ _ (assign (.Name (nm tgt) px) _ y) _ _ _
  rw[PySem.assign_Name]
  refine wpAny_bind (wpAny_standAt (CInv.start W M hD hC B V t hk fun s₃ M=>?_))
  have fin:∀ {us ys s' ρ' σ'},CMid g fr n A ce ns fp (put tgt v Γ) D st s ρ (j+1) us ys s' ρ' σ'->us.length<=j+1->gathers ok step (vs.drop (j+1)) us σ' Qf →
    ∃ m,m<vs.length+1-j/\∃ j us ys ρ' σ',m=vs.length+1-j/\CInv g fr n A ce ns fp Γ D st (fun j us σ=>gathers ok step (vs.drop j) us σ Qf) s ρ vs.length j us ys s' ρ' σ':=fun N hu G =>
   ⟨vs.length+1-(j+1),Nat.sub_lt_sub_left (Nat.lt_succ_of_lt hlt) (Nat.lt_succ_self _),j+1,_,_,_,_,rfl,N.next out hlt hu G⟩
  refine hstep (P:=fun o s3=>match o with
   | some y2=>wpAny (model g.prog g.w) A (call (.builtin "list.append") [.ref D,y2]) _ _ s3
   | none=>∃ m,m<vs.length+1-j/\∃ j us ys ρ' σ',m=vs.length+1-j/\CInv g fr n A ce ns fp Γ D st (fun j us σ=>gathers ok step (vs.drop j) us σ Qf) s ρ vs.length j us ys s3 ρ' σ') M.ctx G.2 (fun y2 pv s3 ρ3 σ3 p3 hall3 V3 K3=>?_) fun s3 ρ3 σ3 p3 hall3 K3=>fin (CMid.run (s₂:=s3) W M p3 hall3) few K3
  have N:=M.run W p3 hall3
  refine wpAny_list_append_plain N.plain (fun h4 hl4 hs4=>?_) ?_
  ·exact fin (N.app W hD V3 (by simpa using hl4) hs4) (by rw[List.length_append];exact Nat.succ_le_succ few0) K3
  ·rw[List.size_toArray,← N.vals.length];exact Nat.le_trans few0 (Nat.le_trans (Nat.le_of_lt hlt) hvs)
end
theorem a0t(hg:Ok g){all:Bool}{elt iter:Expr}{ifs:List Expr}{px:Pos}{pos:Pos}{I:Addr}{vs:List PV}{ok:St->Prop}{st:Nat->Rho->Heap->Prop}{step:PV->St->(Option PV->St->Prop)->Prop}{Qf:List PV->St->Prop}{RR:Value->Addr->Result->Shared->Prop}
  (c:Ctx g fr n A env sc Λ σ ρ s) (S:ScOk scope sc tgt cap) (W:IterOk g fr all I vs ok fp st) (hst:st 0 ρ s.heap) (H:Hidden g A env fp ρ s.heap) (hstep:JD g fr all n A env sc scope tgt cap Λ ifs elt step)
  (hvs:vs.length<=sizeLine) (hG:gathers ok step vs [] σ Qf) (hRR:∀ D C s' ρ' σ' us ys,CompEnd g fp s ρ s' ρ' σ' D C us ys->Qf us σ'->RR (.ref D) C (.ok .next) s') :
  wpAny (model g.prog g.w) A (newList []) (fun acc s₃=>wpAny (model g.prog g.w) A (newFunctionEnv scope env.globals (clos env.cells scope.names []) [] env.qual none .none (some env)) (fun cenv s₄ =>
   codeAny (model g.prog g.w) A (.compStart (.ListComp elt [⟨.Name (nm tgt) px,iter,ifs,0⟩] scope pos) 0 (.ref I) acc {cenv with scope:=relabel scope env }) (RR acc cenv.locals) s₄) E s₃) E s:=by
 have R:=c.at_.rel
 refine wpAny_newList ?_ (Nat.zero_le _)
 refine wpAny_newFunctionEnv S.nocell (by intro y hy;cases hy) (fun h₁ hns hsb=>?_) S.kind
 dsimp only at hns hsb ⊢
 have zC:=Heap.size_push s.heap {cls:=.type "list",data:=.seq ([]:List Value).toArray }
 have z1:=hsb.1
 rw[Heap.size_push,zC]at z1
 generalize hC:(s.heap.push {cls:=.type "list",data:=.seq ([]:List Value).toArray }).objs.size=C at hns hsb zC ⊢
 have up:∀ {b o},(s.heap.push {cls:=.type "list",data:=.seq ([]:List Value).toArray }).get? b=some o->h₁.get? b=some o:=fun{b o} e =>
  (hsb.2 b (by rw[← hC];exact Nat.ne_of_lt (Heap.lt_size e))).trans (Heap.get?_push_of_some _ e)
 have old:∀ b o,s.heap.get? b=some o->h₁.get? b=some o:=fun b o e=>up (Heap.get?_push_of_some _ e)
 have accD:h₁.PlainList s.heap.objs.size #[]:=⟨0,up (Heap.get?_push_size _ rfl)⟩
 clear up hsb
 have p0:Post g [] s ρ {s with heap:=h₁,toks:=s.toks+([]:List (Str×Value)).length } ρ σ:=.ofKeeps R (Nat.le_refl _) old (by rw[z1];exact Nat.le_add_right _ 2)
 have c0:=c.next p0
 have lt:s.heap.objs.size<C:=by rw[zC];exact Nat.lt_succ_self _
 have hCne:C∉FA env:=fun hm=>Nat.lt_asymm lt (c.loc.lt _ hm)
 have cellsIn:∀ p∈clos env.cells scope.names [],p.2∈FA env:=fun p hp=>by
  rcases HM hp with h | h
  ·cases h
  ·exact .tail _ (List.mem_map.mpr ⟨_,mem_of_lookup h.2,rfl⟩)
 have ci:Ctx g fr n A (compEnvC scope (clos env.cells scope.names []) C env) (relab scope.names sc) (BE cap Λ) σ ρ {s with heap:=h₁,toks:=s.toks+([]:List (Str×Value)).length } :=
  ⟨a6g c S,c.room,c0.at_,a6h c0 S hns hCne ⟨R.out_fresh (Nat.le_of_lt lt),DI R (Nat.le_of_lt lt)⟩⟩
 have hfpD:s.heap.objs.size∉fp:=fun hm=>Nat.lt_irrefl _ (H.there _ hm)
 have hCf:C∉s.heap.objs.size::fp:=fun hm=>by
  rcases List.mem_cons.mp hm with e | hm
  ·exact Nat.ne_of_gt lt e
  ·exact Nat.lt_asymm lt (H.there _ hm)
 have Hr:=(H.run p0 (by simp) fun a ha=>let⟨o,_,ho,_⟩:=W.there hst a ha;⟨o,ho⟩).1
 have Hi:Hidden g A (compEnvC scope (clos env.cells scope.names []) C env) (s.heap.objs.size::fp) ρ h₁:=Hr.cons accD ⟨R.out_fresh (Nat.le_refl _),DI R (Nat.le_refl _)⟩ c.at_.noHand (R.notHid (Nat.le_refl _)) fun a ha hm=>by
  rcases List.mem_cons.mp hm with hm | hm
  ·exact hCf (by rw[show a=C from hm]at ha;exact ha)
  ·refine AD ?_<|List.mem_map.mp hm;intro p hp e
   have hf:a∈FA env:=e▸cellsIn p hp
   rcases List.mem_cons.mp ha with e | ha
   ·exact Nat.lt_irrefl _ (e▸c.loc.lt _ hf)
   ·exact H.fa a ha hf
 have st0:=W.keep hst (fun b _ o e=>old b o e) (fun _ _ e=>e) (fun _ p _ o e=>old p.1 o e)
 have loop:=a2w (scope:=scope) (elt:=elt) (iter:=iter) (pos:=pos) (px:=px) (R:=RR (.ref s.heap.objs.size) C) W hstep hvs (by rw[relab_lookup,S.tgt];rfl)
  (fun w e=>by have h2:=S.cap _ (OZ e).2;rw[S.tgt]at h2;replace h2:=sj h2;cases h2) hfpD hCf ⟨Nat.zero_le _,p0.wider (by simp),ci,Hi,st0,accD,.nil,Nat.le_refl _,hG⟩
  fun s' ρ' σ' us ys q oD oC pl V f hn=>hRR _ _ s' ρ' σ' us ys ⟨q,oD,oC,Nat.le_refl _,Nat.le_of_lt lt,Nat.ne_of_lt lt,pl,V,f,hn⟩
 exact codeAny_compStart_list loop (W.self (j:=0) (ρ:=ρ) st0 loop)
end
end Mine
end
section
open PySem PySem.W PyProof.Rows PySem.Calls
set_option maxRecDepth 100000
namespace Mine
set_option tactic.hygienic false
section
variable {g:G}{fr:Bool}{A:Around}{s s₁ s₂:Shared}{ρ ρ₁ ρ₂:Rho}{σ σ₁ σ₂:St}{E:Value->Shared->Prop}{X:St->Prop}{sc:List (Str×NameKind)}{n:Nat}{env:Env}{Λ Λ₁:Loc}{fp:List Addr}{scope:Scope}{tgt:Nat}{cap:List Nat}
structure Made(g:G)(fr all:Bool)(s:Shared)(ρ:Rho)(σ:St)(s':Shared)(I:Addr)(vs:List PV)(ok:St->Prop)(st:Nat->Rho->Heap->Prop):Prop where
 post:Post g [] s ρ s' ρ σ
 at_:s.heap.objs.size<=I
 lt:I<s'.heap.objs.size
 it:IterOk g fr all I vs ok [I] st
 st0:st 0 ρ s'.heap
 len:vs.length<=sizeLine
theorem EX(R:Rel g s.toks ρ σ s.heap)(o:Obj){k:Nat}(hk:s.toks<=k):Post g [] s ρ {s with heap:=s.heap.push o,toks:=k } ρ σ:=.ofKeeps R hk (fun b o' e=>Heap.get?_push_of_some _ e) (by rw[Heap.size_push];exact Nat.le_succ _)
set_option tactic.hygienic true in
theorem MK{v:PV}{x:Value}{vs:List PV}{ok:St->Prop}{Q:Value->Shared->Prop}(c:At g fr A σ ρ s)(V:VR g s.toks s.heap ρ v x)(e:items σ v=some (vs,ok))
  (hQ:∀ I s' st,Made g fr false s ρ σ s' I vs ok st->Q (.ref I) s'):wpAny (model g.prog g.w) A (pyIter x) Q E s:=by
 have R:=c.rel
 unfold items at e
 split at e
 ·rename_i i
  split at e
  ·rename_i us e1
   replace e:=sj e;cases e
   obtain⟨l,xs,rfl,hi,hl,Va,hz⟩:=R.list e1 V
   refine AR ?_<|id hl;intro kk hk
   refine wpAny_pyIter_list hl.isList (hQ _ _ _ ⟨EX R _ (Nat.le_refl _),Nat.le_refl _,by rw[Heap.size_push];exact Nat.lt_succ_self _,a2u (Nat.ne_of_gt (Heap.lt_size hk)),⟨⟨_,Heap.get?_push_size _ rfl,rfl,rfl⟩,hi⟩,hz⟩)
  ·exact noS e
 ·replace e:=sj e;cases e
  obtain⟨t,rfl,hx,ho⟩:=V.inv
  rename_i x own
  have hlen:(x.cps.toList.map fun c=>PV.str ⟨#[c]⟩ true).length<=sizeLine:=by rw[List.length_map];simpa [Str.length] using hx
  cases ha:x.cps.all (· < 128)
  ·have e1:strIterType x="str_iterator":=by simp[strIterType,ha]
   refine wpAny_pyIter_wide ha (hQ _ _ _ ⟨EX R _ (Nat.le_refl _),Nat.le_refl _,by rw[Heap.size_push];exact Nat.lt_succ_self _,VM (x:=x) (t:=t),?_,hlen⟩)
   exact⟨_,Heap.get?_push_size _ rfl,by rw[e1],rfl⟩
  ·have e1:strIterType x="str_ascii_iterator":=by simp[strIterType,ha]
   refine wpAny_pyIter_ascii ha (hQ _ _ _ ⟨EX R _ (Nat.le_refl _),Nat.le_refl _,by rw[Heap.size_push];exact Nat.lt_succ_self _,VM (x:=x) (t:=t),?_,hlen⟩)
   exact⟨_,Heap.get?_push_size _ rfl,by rw[e1],rfl⟩
 ·exact noS e
set_option tactic.hygienic true in
theorem a2x{v:PV}{x:Value}{vs:List PV}{Q:Value->Shared->Prop}(c:At g true A σ ρ s)(V:VR g s.toks s.heap ρ v x)(e:HY σ v=some vs)
  (hQ:∀ I s' st,Made g true true s ρ σ s' I vs (fun _=>True) st->Q (.ref I) s'):wpAny (model g.prog g.w) A (pyIter x) Q E s:=by
 have R:=c.rel
 unfold HY at e
 split at e
 ·rename_i i
  split at e
  ·rename_i kvs e1
   split at e
   ·rename_i hf
    replace e:=sj e;subst e
    rw[Bool.and_eq_true]at hf
    revert hf;refine oA2 ?_;intro hfl hf
    have hlen:(kvs.map fun p=>PV.str p.1 false).length<=sizeLine:=by rw[List.length_map];exact CA hfl
    obtain⟨d,xs,rfl,hi,hD,Va,hs⟩:=R.dict e1 V
    obtain⟨ep,hA⟩:=hD.dictAt
    have hk:=Va.keys
    have hks:∀ p∈xs,p.1.length<=sizeLine:=fun p hp=>by
     have:p.1∈kvs.map (·.1):=by rw[hk];exact List.mem_map.mpr ⟨p,hp,rfl⟩
     refine AD ?_<|List.mem_map.mp this;intro q hq e
     rw[← e];exact CA (List.all_eq_true.mp hf q hq)
    have hmap:(kvs.map fun p=>PV.str p.1 false)=xs.map fun p=>PV.str p.1 false:=by
     have:=congrArg (List.map fun k=>PV.str k false) hk
     simpa [List.map_map,Function.comp_def] using this
    rw[hmap]at hQ hlen
    refine wpAny_pyIter_dict hs hA (hQ _ _ _ ⟨EX R _ (Nat.le_refl _),Nat.le_refl _,by rw[Heap.size_push];exact Nat.lt_succ_self _,a2v (d:=d) (ep:=ep) (xs:=xs) (Nat.ne_of_gt hA.lt_size) hks,⟨⟨_,Heap.get?_push_size _ rfl,rfl,rfl⟩,List.mem_of_getElem? hi,hA.push _⟩,hlen⟩)
   ·exact noS e
  ·exact noS e
 ·exact noS e
theorem TJ{v:PV}{l:List PV}(e:EG v=some l):∃ i,v = .int i:=by
 induction v using PV.casesOn<;>first | exact noS e | exact⟨_,rfl⟩
set_option tactic.hygienic true in
theorem QG{m:Int}{t:Tok}{vs:List PV}{Q:Value->Shared->Prop}(c:At g true A σ ρ s)(e:EG (.int m)=some vs)
  (hQ:∀ I s' st,Made g true false s ρ σ s' I vs (fun _=>True) st->Q (.ref I) s'):wpAny (model g.prog g.w) A (call (.type "range") [.int m t]) (fun r s₁=>wpAny (model g.prog g.w) A (pyIter r) Q E s₁) E s:=by
 have R:=c.rel
 unfold EG at e
 dsimp only at e
 split at e
 ·rename_i hm
  replace e:=sj e;subst e
  refine call_range_1 ?_
  have p1:=EX R {cls:=.type "range",data:=.fields #[.int 0 s.toks,.int m t,.int 1 (s.toks+1)] } (k:=s.toks+1+1) (by lia)
  have hlo : -(2 ^ 62)<=m:=by lia
  ·refine wpAny_pyIter_range (IsRange.new s.heap 0 m 1 s.toks t (s.toks+1)) (small_one (by decide) (by decide) hlo (by lia)) ?_
   have p2:=EX p1.rel {cls:=.type "range_iterator",data:=.fields #[rawInt 0,rawInt (Builtin.Range.rangeSize 0 m 1),rawInt 1] } (Nat.le_refl _)
   have hz:Builtin.Range.rangeSize 0 m 1=(m.toNat:Int):=by
    unfold Builtin.Range.rangeSize
    rw[if_pos (by decide)]
    split<;>lia
   refine hQ _ _ _ ⟨p1.trans p2,p1.grow.size,by simp only[Heap.size_push];exact Nat.lt_succ_self _,a0r (m:=m.toNat),?_,by rw[List.length_map,List.length_range,sizeLine_eq];lia⟩
   rw[hz]
   have:=Heap.get?_push_size (o:={cls:=.type "range_iterator",data:=.fields #[rawInt 0,rawInt (m.toNat:Int),rawInt 1] }) (s.heap.push {cls:=.type "range",data:=.fields #[.int 0 s.toks,.int m t,.int 1 (s.toks+1)] }) rfl
   simpa [IsRangeIter] using this
 ·exact noS e
theorem KA{all:Bool}{I:Addr}{vs:List PV}{ok:St->Prop}{st:Nat->Rho->Heap->Prop}(c:Ctx g fr n A env sc Λ σ ρ s)(M:Made g fr all s ρ σ s₁ I vs ok st):Hidden g A env [I] ρ s₁.heap:=by
 refine DO ?_ (M.it.there M.st0 I (by simp));intro o fs ho hd hc
 have hlt:∀ b,b<s.heap.objs.size->I≠b:=fun b hb=>Nat.ne_of_gt (Nat.lt_of_lt_of_le hb M.at_)
 refine⟨fun a ha=>?_,fun a ha xs _ ht=>?_,fun a ha hd'=>?_,fun a ha hm=>?_,fun a ha hm=>?_,fun a ha hm=>?_,fun a ha=>?_⟩<;>(rw[List.mem_singleton]at ha;subst ha)
 ·exact⟨c.at_.rel.out_fresh M.at_,DI c.at_.rel M.at_⟩
 ·revert ht;refine IY ?_;intro o' ho' hc' _
  rw[ho]at ho';replace ho':=sj ho';subst ho';exact hc hc'
 ·revert hd';refine DP ?_;intro o' es m ho' hd'
  rw[ho]at ho';replace ho':=sj ho';subst ho';rw[hd]at hd';cases hd'
 ·exact hlt _ (c.loc.lt _ hm) rfl
 ·rcases c.at_.hand with h0 | ⟨_,e,oe,ws,h1,h2,_⟩
  ·rw[h0]at hm;exact noS hm
  ·rw[h1]at hm;replace hm:=sj hm;replace hm:=PySem.Value.ref.inj hm;subst hm
   exact hlt _ (Heap.lt_size h2) rfl
 ·exact c.at_.rel.notHid M.at_ hm
 ·exact M.lt
theorem LocR.but{T:Nat}{h h':Heap}{C:Addr}(L:LocR g T env Λ ρ h)(hs:Heap.SameBut C h h')(hC:C∉FA env)(nt:∀ xs,¬ IsTup h C xs):LocR g T env Λ ρ h':=by
 have kp:∀ a∈FA env,∀ o,h.get? a=some o->h'.get? a=some o:=fun a ha o e=>(hs.2 a fun q=>hC (q▸ha)).trans e
 have V:∀ {v x},VR g T h ρ v x->VR g T h' ρ v x:=fun V=>V.mono (Nat.le_refl _) (fun a zs ht=>by
  refine AD ?_<|id ht;intro o ho r
  exact⟨o,(hs.2 a fun e=>nt zs (e▸ht)).trans ho,r⟩) fun _ _ e=>e
 obtain⟨m,⟨o,es,ep,ho,r⟩,hv⟩:=L.ns
 refine⟨⟨m,⟨o,es,ep,kp _ (.head _) _ ho,r⟩,fun k v e hk=>?_⟩,fun k v e hk=>?_,fun n c hc=>?_,L.apart,L.here,L.out⟩
 ·refine AD ?_<|hv k v e hk;intro x a b
  exact⟨x,a,V b⟩
 ·refine DO ?_<|L.cell k v e hk;rintro c x a ⟨oc,hoc,hd⟩ b
  exact⟨c,x,a,⟨oc,kp _ (.tail _ (List.mem_map.mpr ⟨_,mem_of_lookup a,rfl⟩)) _ hoc,hd⟩,V b⟩
 ·refine FD ?_<|L.cells n c hc;intro v oc hoc hd
  exact⟨v,oc,kp _ (.tail _ (List.mem_map.mpr ⟨_,hc,rfl⟩)) _ hoc,hd⟩
theorem CompEnd.value{s0:Shared}{ρ0:Rho}{D C:Addr}{us:List PV}{ys:List Value}{h'':Heap}(p0:Post g [] s0 ρ0 s ρ σ)(hF:∀ a∈fp,s0.heap.objs.size<=a)(K:CompEnd g fp s ρ s₁ ρ₁ σ₁ D C us ys)(R:Rel g s.toks ρ σ s.heap)(hs:Heap.SameBut C s₁.heap h'') :
  Post g [] s0 ρ0 {s₁ with heap:=h'' } (ρ₁++[(D,D)]) (σ₁++[.list us])/\VR g s₁.toks h'' (ρ₁++[(D,D)]) (.ref σ₁.length) (.ref D):=by
 have sz:=p0.grow.size
 have pE:=Post.fresh p0 K.post (fun a ha=>by
  rcases List.mem_cons.mp ha with rfl | ha
  ·exact Nat.le_trans sz K.leC
  ·rcases List.mem_cons.mp ha with rfl | ha
   ·exact Nat.le_trans sz K.leD
   ·exact hF a ha)
 obtain⟨m,hm⟩:=K.ns
 have nt:∀ xs,¬ IsTup s₁.heap C xs:=fun xs ht=>EE ht (.ns hm)
 have tups:∀ a zs,IsTup s₁.heap a zs->IsTup h'' a zs:=fun a zs ht=>by
  refine AD ?_<|id ht;intro o ho r
  exact⟨o,(hs.2 a fun e=>nt zs (e▸ht)).trans ho,r⟩
 have bD:g.B.get? D=none:=DI R K.leD
 have bC:g.B.get? C=none:=DI R K.leC
 have R2:Rel g s₁.toks ρ₁ σ₁ h'':=pE.rel.move (D:=[C]) (Nat.le_refl _) (Nat.le_of_eq hs.1.symm) (fun b o e hb=>(hs.2 b (by simpa using hb)).trans e) (fun a hm=>by rw[List.mem_singleton.mp hm];exact⟨K.outC,bC,nt⟩)
 obtain⟨kk,hpl⟩:=K.plain
 have old:∀ (i:Nat) p,ρ₁[i]? = some p->(ρ₁++[(D,D)])[i]? = some p:=fun i p e=>by rw[List.getElem?_append_left (List.getElem?_eq_some_iff.mp e).1];exact e
 obtain⟨τ,e1,hτ⟩:=pE.grow.ext
 refine⟨⟨R2.adopt0 (o:=.list us) K.outD K.outD bD bD ⟨rfl,CA K.fit,ys,⟨kk,(hs.2 D K.ne).trans hpl⟩,K.vals.mono (Nat.le_refl _) tups old⟩,⟨⟨τ++[(D,D)],by rw[e1,List.append_assoc],fun p hp=>?_⟩,fun b o h1 h2 h3=>?_,?_,fun b x=>?_⟩,pE.toks,⟨pE.same.gens,pE.same.drawn,pE.same.os⟩⟩,?_⟩
 ·rcases List.mem_append.mp hp with hp | hp
  ·exact hτ p hp
  ·rw[List.mem_singleton.mp hp];exact⟨Nat.le_trans sz K.leD,Nat.le_trans sz K.leD⟩
 ·exact(hs.2 b (Nat.ne_of_lt (Nat.lt_of_lt_of_le (Heap.lt_size h1) (Nat.le_trans sz K.leC)))).trans (pE.grow.keep b o h1 h2 h3)
 ·show s0.heap.objs.size<=h''.objs.size;rw[hs.1];exact pE.grow.size
 ·refine DP ?_<|pE.grow.dicts b x;intro o es q ho hd
  have hb:b≠C:=by
   revert x;refine DP ?_;intro _ _ _ hx _
   exact Nat.ne_of_lt (Nat.lt_of_lt_of_le (Heap.lt_size hx) (Nat.le_trans sz K.leC))
  exact⟨o,es,q,(hs.2 b hb).trans ho,hd⟩
 ·exact .ref (d:=D) (by rw[← pE.rel.len,List.getElem?_append_right (Nat.le_refl _),Nat.sub_self];rfl)
noncomputable def FI:Expr->Bool
 | .Set .. => false
 | _=>true
theorem JS{e:Expr}{env:Env}{x:Value}(h:FI e=true):foldedSetIterable e env x=pure x:=by
 induction e using Expr.casesOn<;>first | rfl | exact noF h
theorem VP{l:List (Str×NameKind)}(h:(l.map (·.1)).Nodup){p:Str×NameKind}(hp:p∈l):l.lookup p.1=some p.2:=by
 induction l with
 | nil=>cases hp
 | cons q l ih =>
  rw[List.map_cons,List.nodup_cons]at h
  obtain⟨m,k⟩:=q
  rcases List.mem_cons.mp hp with rfl | hp
  ·exact List.lookup_cons_self
  ·have hb:(p.1==m)=false:=by
    have:p.1≠m:=fun e=>h.1 (List.mem_map.mpr ⟨p,hp,e⟩)
    simpa using this
   rw[List.lookup_cons,hb];exact ih h.2 hp
theorem VQ(hg:Ok g){all:Bool}{elt iter:Expr}{ifs:List Expr}{px pos:Pos}{step:PV->St->(Option PV->St->Prop)->Prop}{Qf:List PV->St->Prop}{use:Option (Value->Sem Unit)}{Q:Value->Shared->Prop}
  (c:Ctx g fr n A env sc Λ σ ρ s) (S:ScOk scope sc tgt cap) (hset:FI iter=true) (hstep:JD g fr all n A env sc scope tgt cap Λ ifs elt step)
  (h:wpAny (model g.prog g.w) A (eval iter env) (fun x s₁=>wpAny (model g.prog g.w) A (pyIter x) (fun it s₂=>∃ I vs ok st ρ₁ σ₁ sa,it = .ref I/\Post g [] s ρ sa ρ₁ σ₁/\Made g fr all sa ρ₁ σ₁ s₂ I vs ok st/\gathers ok step vs [] σ₁ Qf) E s₁) E s)
  (hQ:∀ s0 ρ0 σ0 s' ρ' σ' D C us ys I,Post g [] s ρ s0 ρ0 σ0->s.heap.objs.size<=I->CompEnd g [I] s0 ρ0 s' ρ' σ' D C us ys->Qf us σ'->compPost (model g.prog g.w) A E use Q (.ref D) C (.ok .next) s') :
  wpAny (model g.prog g.w) A (comprehension (.ListComp elt [⟨.Name (nm tgt) px,iter,ifs,0⟩] scope pos) scope env (firstIterPos [⟨.Name (nm tgt) px,iter,ifs,0⟩] pos) (newList []) (firstAsync [⟨.Name (nm tgt) px,iter,ifs,0⟩]) (firstIter [⟨.Name (nm tgt) px,iter,ifs,0⟩] env) use) Q E s:=by
 have hclos:closureFor scope env=pure (clos env.cells scope.names []):=a0s fun x hx hf=>c.ok.cells _ (S.free x hx hf)
 refine wpAny_comprehension_free rfl (fun x=>JS hset) hclos S.kind (fun x hx hl=>by rw[VP S.nodup hx,hl]) ?_
 refine wpAny_mono h (fun x s₁ h₁=>wpAny_mono h₁ (fun it s₂ h₂=>?_) fun _ _ z=>z) fun _ _ z=>z
 obtain⟨I,vs,ok,st,ρ₁,σ₁,sa,rfl,pa,M,G⟩:=h₂
 have ca:=c.next pa
 have cb:=ca.next M.post
 exact a0t hg cb S M.it M.st0 (KA ca M) hstep M.len G fun D C s' ρ' σ' us ys K q=>hQ _ _ _ s' ρ' σ' D C us ys I (pa.trans M.post) (Nat.le_trans pa.grow.size M.at_) K q
theorem JT(hg:Ok g){all:Bool}{elt iter:Expr}{ifs:List Expr}{px pos:Pos}{step:PV->St->(Option PV->St->Prop)->Prop}{Q:PV->St->Prop}{P:Value->Shared->Prop}
  (c:Ctx g fr n A env sc Λ σ ρ s) (S:ScOk scope sc tgt cap) (hset:FI iter=true) (hstep:JD g fr all n A env sc scope tgt cap Λ ifs elt step)
  (h:wpAny (model g.prog g.w) A (eval iter env) (fun x s₁=>wpAny (model g.prog g.w) A (pyIter x) (fun it s₂=>∃ I vs ok st ρ₁ σ₁ sa,it = .ref I/\Post g [] s ρ sa ρ₁ σ₁/\Made g fr all sa ρ₁ σ₁ s₂ I vs ok st/\gathers ok step vs [] σ₁ fun vs σ=>Q (.ref σ.length) (σ++[.list vs])) E s₁) E s)
  (hP:Cont g [] s ρ Q P):wpAny (model g.prog g.w) A (eval (.ListComp elt [⟨.Name (nm tgt) px,iter,ifs,0⟩] scope pos) env) P E s:=by
 rw[eval_ListComp]
 refine VQ hg c S hset hstep h fun s0 ρ0 σ0 s' ρ' σ' D C us ys I p0 hI K q=>?_
 obtain⟨m,hm⟩:=K.ns
 refine⟨m,hm,fun h'' hs=>?_⟩
 refine oA2 ?_ (K.value p0 (fun a ha=>by rw[List.mem_singleton.mp ha];exact hI) p0.rel hs);intro pv V
 exact hP _ _ _ _ _ pv V q
theorem a6i(hg:Ok g){all:Bool}{k:Nat}{p:Pos}{elt iter:Expr}{ifs:List Expr}{px pos spos:Pos}{step:PV->St->(Option PV->St->Prop)->Prop}{Q:Fl->Loc->St->Prop}{P:Flow->Shared->Prop}
  (c:Ctx g fr n A env sc Λ σ ρ s) (S:ScOk scope sc tgt cap) (hset:FI iter=true) (hstep:JD g fr all n A env sc scope tgt cap Λ ifs elt step) (hk:sc.lookup (nm k)=some .local)
  (hsw:swapsWith (.ListComp elt [⟨.Name (nm tgt) px,iter,ifs,0⟩] scope pos) (some (.Name (nm k) p)) spos.line env=pure true)
  (h:wpAny (model g.prog g.w) A (eval iter env) (fun x s₁=>wpAny (model g.prog g.w) A (pyIter x) (fun it s₂=>∃ I vs ok st ρ₁ σ₁ sa,it = .ref I/\Post g [] s ρ sa ρ₁ σ₁/\Made g fr all sa ρ₁ σ₁ s₂ I vs ok st/\gathers ok step vs [] σ₁ fun vs σ=>Q .next (put k (.ref σ.length) Λ) (σ++[.list vs])) E s₁) E s)
  (hP:ContS g env s ρ Q P):wpAny (model g.prog g.w) A (exec (.Assign [.Name (nm k) p] (.ListComp elt [⟨.Name (nm tgt) px,iter,ifs,0⟩] scope pos) spos) env) P E s:=by
 rw[exec_Assign_Name_used (hs:=hsw)]
 refine wpAny_bind (wpAny_standAt (wpAny_bind ?_))
 show wpAny _ _ (comprehension _ scope env _ (newList []) _ _ (some _) >>= _) _ _ _
 refine wpAny_bind ?_
 refine VQ hg c S hset hstep h fun s0 ρ0 σ0 s' ρ' σ' D C us ys I p0 hI K q=>?_
 obtain⟨m,hm⟩:=K.ns
 show wpAny _ _ (assign (.Name (nm k) p) env (.ref D)) _ _ _
 rw[PySem.assign_Name]
 refine wpAny_bind (wpAny_standAt ?_)
 refine oA2 ?_ (K.value p0 (fun a ha=>by rw[List.mem_singleton.mp ha];exact hI) p0.rel (Heap.SameBut.refl C s'.heap));intro p1 V1
 have c1:=c.next p1
 have hne:C≠env.locals:=fun e=>by
  have:=c.loc.lt _ (.head _:env.locals∈FA env)
  rw[← e]at this
  exact Nat.lt_irrefl _ (Nat.lt_of_lt_of_le this (Nat.le_trans p0.grow.size K.leC))
 refine ON c1 hk V1 fun h' hs hn L=>?_
 refine⟨m,hm.sameBut hs hne,fun h'' hs''=>wpAny_pure (wpAny_pure ?_)⟩
 have p2:Post g [env.locals] {s' with heap:=s'.heap } (ρ'++[(D,D)]) {s' with heap:=h',toks:=s'.toks+1 } (ρ'++[(D,D)]) (σ'++[.list us]):=Post.ofOne c1 (.head _) (Nat.le_succ _) hs fun _=>let⟨m,hm⟩:=hn;.ns hm
 have hm':h'.Ns C m:=hm.sameBut hs (fun e=>hne e)
 have nt:∀ xs,¬ IsTup h' C xs:=fun xs ht=>EE ht (.ns hm')
 have leC:s.heap.objs.size<=C:=Nat.le_trans p0.grow.size K.leC
 have outC:Out (ρ'++[(D,D)]) C:=fun p hp=>by
  rcases List.mem_append.mp hp with hp | hp
  ·exact K.outC p hp
  ·rw[List.mem_singleton.mp hp];exact⟨Ne.symm K.ne,Ne.symm K.ne⟩
 have p12:=p1.up.trans (p2.wider (F':=FA env) fun b hb=>by rw[List.mem_singleton.mp hb];exact .head _)
 have bC:g.B.get? C=none:=DI c.at_.rel leC
 have lt0:∀ b,b<s.heap.objs.size->b≠C:=fun b hb=>Nat.ne_of_lt (Nat.lt_of_lt_of_le hb leC)
 have p3:Post g (FA env) s ρ {s' with heap:=h'',toks:=s'.toks+1 } (ρ'++[(D,D)]) (σ'++[.list us]):=by
  refine⟨p12.rel.move (D:=[C]) (Nat.le_refl _) (Nat.le_of_eq hs''.1.symm) (fun b o e hb=>(hs''.2 b (by simpa using hb)).trans e) (fun a hm=>by rw[List.mem_singleton.mp hm];exact⟨outC,bC,nt⟩),⟨p12.grow.ext,fun b o e1 e2 e3=>?_,?_,fun b x=>?_⟩,p12.toks,⟨p12.same.gens,p12.same.drawn,p12.same.os⟩⟩
  ·exact(hs''.2 b (lt0 b (Heap.lt_size e1))).trans (p12.grow.keep b o e1 e2 e3)
  ·show s.heap.objs.size<=h''.objs.size;rw[hs''.1];exact p12.grow.size
  ·refine DP ?_<|p12.grow.dicts b x;intro o es q ho hd
   have hb:b≠C:=by revert x;refine DP ?_;intro _ _ _ hx _;exact lt0 b (Heap.lt_size hx)
   exact⟨o,es,q,(hs''.2 b hb).trans ho,hd⟩
 exact hP .next .next _ _ _ _ p3 (L.but hs'' (fun hm=>lt0 C (c.loc.lt _ hm) rfl) nt) .next q
inductive Tests(g:G)(sc:List (Str×NameKind)):List Expr->List ME->Prop
 | none:Tests g sc [] []
 | one {e me}:Snd g sc e me->Tests g sc [e] [me]
set_option tactic.hygienic true in
theorem ML{T:Tb}{elt melt ifs mifs}(hT:TOk g fr n T)(he:Snd g (relab scope.names sc) elt melt)(hi:Tests g (relab scope.names sc) ifs mifs) :
  JD g fr false n A env sc scope tgt cap Λ ifs elt (fun x σ K=>US T mifs (put tgt x (BE cap Λ)) σ (fun t σ=>if t=true then wpE T melt (put tgt x (BE cap Λ)) σ (fun u σ=>K (some u) σ) (fun _=>False)else K none σ) (fun _=>False)):=by
 intro C s ρ σ x K P E c h hs hn
 have fin:∀ {t s₁ ρ₁ σ₁},Post g [] s ρ s₁ ρ₁ σ₁->(if t=true then wpE T melt (put tgt x (BE cap Λ)) σ₁ (fun u σ=>K (some u) σ) (fun _=>False)else K none σ₁) →
   if t=true then wpAny (model g.prog g.w) A (eval elt (compEnvC scope (clos env.cells scope.names []) C env)) (fun y s₄=>P (some y) s₄) E s₁ else P none s₁:=fun{t s₁ ρ₁ σ₁} p q=>by
  induction t using Bool.casesOn
  ·exact hn s₁ ρ₁ σ₁ p (by simp) q
  ·exact he.1 hT (c.next p) q (fun y s₂ ρ₂ u σ₂ p₂ V₂ k=>hs y u s₂ ρ₂ σ₂ (p.trans p₂) (by simp) V₂ k) fun x s' ρ' σ' p' f=>f.elim
 cases hi with
 | none =>
  rw[List.forIn_nil]
  exact wpAny_pure (fin (t:=true) (.refl c.at_.rel) h)
 | one h1 =>
  rename_i e me
  rw[List.forIn_cons]
  refine wpAny_bind ?_
  rw[if_pos rfl]
  refine wpAny_bind (h1.2 (Q:=fun t σ=>if t=true then wpE T melt (put tgt x (BE cap Λ)) σ (fun u σ=>K (some u) σ) (fun _=>False)else K none σ) hT c h (fun pv σ' k=>?_) (fun t s₁ ρ₁ σ₁ p q=>?_) fun x s' ρ' σ' p' f=>f.elim)
  ·refine AD ?_<|CZ k;rintro t rfl q
   exact⟨t,rfl,q⟩
  ·refine wpAny_pure ?_
   dsimp only
   rw[List.forIn_nil]
   exact wpAny_pure (fin p q)
theorem VS{T:Tb}{elt melt}(hT:TOk g fr n T)(he:Snd g (relab scope.names sc) elt melt) :
  JD g fr false n A env sc scope tgt cap Λ [] elt (fun x σ K=>wpE T melt (put tgt x (BE cap Λ)) σ (fun u σ=>K (some u) σ) (fun _=>False)) :=
 fun{C s ρ σ x K P E} c h hs hn=>ML hT he .none c h hs hn
theorem a6j(hg:Ok g){elt melt iter mit ifs mifs px pos}(S:ScOk scope sc tgt cap)(hset:FI iter=true)(he:Snd g (relab scope.names sc) elt melt)(ht:Snd g sc iter mit)(hi:Tests g (relab scope.names sc) ifs mifs) :
  Snd g sc (.ListComp elt [⟨.Name (nm tgt) px,iter,ifs,0⟩] scope pos) (.comp melt tgt mit mifs cap) :=
 BZ (fun _ _=>rfl) fun{fr n T A env Λ σ ρ s Q X P E} hT c h hP hE=>by
  refine JT hg c S hset (ML hT he hi) (ht.1 hT c h (fun x s₁ ρ₁ v σ₁ p₁ V₁ h₁=>?_) hE) hP
  refine AD ?_<|CH h₁;rintro⟨vs,ok⟩ e1 q
  exact MK (c.next p₁).at_ V₁ e1 fun I s' st M=>⟨I,vs,ok,st,ρ₁,σ₁,s₁,rfl,p₁,M,q⟩
theorem a6k(hg:Ok g){k p elt melt iter mit ifs mifs px pos spos}(S:ScOk scope sc tgt cap)(hset:FI iter=true)(he:Snd g (relab scope.names sc) elt melt)(ht:Snd g sc iter mit)(hi:Tests g (relab scope.names sc) ifs mifs)
  (hk:sc.lookup (nm k)=some .local) (hl:(p.line==pos.line)=true) (hno:(scope.names.any fun(x,kd)=>x==nm k&&(kd == .local||kd == .cell))=false) :
  ED g sc (.Assign [.Name (nm k) p] (.ListComp elt [⟨.Name (nm tgt) px,iter,ifs,0⟩] scope pos) spos) (.asg k (.comp melt tgt mit mifs cap)):=fun{fr n T A env Λ σ ρ s X E Q P} hT c tp h hP hE=>by
 refine a6i hg c S hset (ML hT he hi) hk ?_ (ht.1 hT c h (fun x s₁ ρ₁ v σ₁ p₁ V₁ h₁=>?_) hE.up) hP
 ·have hko:env.kindOf (nm k)=some .local:=by unfold Env.kindOf;rw[c.ok.names];exact hk
  have hbk:env.blockKind = .function:=by unfold Env.blockKind;rw[c.ok.kind];rfl
  show pure (env.blockKind == .function&&env.kindOf (nm k)==some .local&&p.line==pos.line && !(scope.names.any fun(x,kd)=>x==nm k&&(kd == .local||kd == .cell)))=_
  rw[hbk,hko,hl,hno];rfl
 ·refine AD ?_<|CH h₁;rintro⟨vs,ok⟩ e1 q
  exact MK (c.next p₁).at_ V₁ e1 fun I s' st M=>⟨I,vs,ok,st,ρ₁,σ₁,s₁,rfl,p₁,M,q⟩
theorem LJ(hg:Ok g){nn mn p1 p2}{T:Tb}{Q:PV->St->Prop}{P:Value->Shared->Prop}(hT:TOk g fr n T)(c:Ctx g fr n A env sc Λ σ ρ s)(hn:Snd g sc nn mn)(hs:BG nn=true)(hk:sc.lookup (Str.ofString "range")=some .globalImplicit)(h:wpE T mn Λ σ Q X)
  (hP:∀ x s₁ ρ₁ v σ₁,Post g [] s ρ s₁ ρ₁ σ₁->VR g s₁.toks s₁.heap ρ₁ v x->Q v σ₁->wpAny (model g.prog g.w) A (call (.type "range") [x]) P E s₁) (hE:ContX g A [] s ρ X E) :
  wpAny (model g.prog g.w) A (eval (.Call (.Name (Str.ofString "range") p1) [nn] [] p2) env) P E s:=by
 obtain⟨mg,mb,h1,h2,_,_,_,h3⟩:=hg.glob
 have hm:(Str.ofString "range",Value.type "range")∈bnames:=by decide
 refine wpAny_bind (RW c hk (by decide) h1 h2 (h3 _ hm).1 (h3 _ hm).2 ?_)
 refine JP hg (HD hn JO hs) (by rw[List.all_cons,hs];rfl) hT c (.ty "range") (ms:=[mn]) (Q':=fun vs σ=>∃ v,vs=[v]/\Q v σ) ?_ (fun ys s' ρ' vs σ' p V q=>?_) hE
 ·have e:(fun v σ=>∃ v',([v]:List PV)=[v']/\Q v' σ)=Q:=by funext v σ;simp
  show wpE T mn Λ σ (fun v σ=>∃ v',([v]:List PV)=[v']/\Q v' σ) X
  rw[e];exact h
 ·revert q;refine AD ?_;rintro v rfl q
  obtain⟨_,_,rfl,a,r⟩:=V.inv
  obtain rfl:=r.inv
  exact hP _ _ _ _ _ p a q
theorem a2y(hg:Ok g){elt melt nn mn px p1 p2 pos}(S:ScOk scope sc tgt cap)(he:Snd g (relab scope.names sc) elt melt)(hn:Snd g sc nn mn)(hs:BG nn=true)(hk:sc.lookup (Str.ofString "range")=some .globalImplicit) :
  Snd g sc (.ListComp elt [⟨.Name (nm tgt) px,.Call (.Name (Str.ofString "range") p1) [nn] [] p2,[],0⟩] scope pos) (.compR melt tgt mn cap) :=
 BZ (fun _ _=>rfl) fun{fr n T A env Λ σ ρ s Q X P E} hT c h hP hE=>by
  induction fr using Bool.casesOn with
  | false =>
   refine JT hg c S rfl (VS hT he) (LJ hg hT c hn hs hk h (fun x s₁ ρ₁ v σ₁ p₁ V₁ h₁=>?_) hE) hP
   refine AD ?_<|CH h₁;intro l e1 q
   have:T.free:=by induction l using List.casesOn with | nil=>exact q.1 | cons a l=>exact q.1
   have:=hT.free this
   exact noF this
  | true =>
   refine JT hg c S rfl (VS hT he) (LJ hg hT c hn hs hk h (fun x s₁ ρ₁ v σ₁ p₁ V₁ h₁=>?_) hE) hP
   refine AD ?_<|CH h₁;intro l e1 q
   refine AR ?_<|TJ e1;rintro i rfl
   obtain⟨t,rfl⟩:=V₁.inv
   refine QG (c.next p₁).at_ e1 fun I s' st M=>⟨I,l,fun _=>T.free,st,ρ₁,σ₁,s₁,rfl,p₁,⟨M.post,M.at_,M.lt,⟨M.it.keep,M.it.self,M.it.there,fun c _=>M.it.item c trivial,fun c _=>M.it.stop c trivial⟩,M.st0,M.len⟩,q⟩
noncomputable def Quiet(g:G)(sc:List (Str×NameKind))(e:Expr)(me:ME):Prop:=∀ {fr n T A env Λ σ ρ s Q X P E},TOk g fr n T->Ctx g fr n A env sc Λ σ ρ s->wpE T me Λ σ Q X →
 (∀ y s' pv,Post g [] s ρ s' ρ σ->(∀ b o,s.heap.get? b=some o->s'.heap.get? b=some o)->VR g s'.toks s'.heap ρ pv y->Q pv σ->P y s')->wpAny (model g.prog g.w) A (eval e env) P E s
theorem a2z{k pos}{id:Str}(hn:nm k=id)(hk:sc.lookup id=some .local\/sc.lookup id=some .cell\/sc.lookup id=some .free)(hi:DY id=true):Quiet g sc (.Name id pos) (.var k):=fun{fr n T A env Λ σ ρ s Q X P E} hT c h hP=>by
 refine AD ?_<|CH h;intro v e1 q
 refine AD ?_<|OW (pos:=pos) c hn hk hi e1;intro x Vx f
 exact f rfl (hP x s v (.refl c.at_.rel) (fun _ _ e=>e) Vx q)
theorem a3a{a b ma mb pos}(ha:Quiet g sc a ma)(hb:Quiet g sc b mb)(hs:OX b=true):Quiet g sc (.Subscript a b pos) (.idx ma mb):=fun{fr n T A env Λ σ ρ s Q X P E} hT c h hP=>by
 refine Subscript_ (ha hT c h fun x s₁ v p₁ k₁ V₁ h₁=>?_)
 refine hb hT (c.next p₁) h₁ fun y s₂ u p₂ k₂ V₂ h₂=>?_
 obtain⟨⟨T',i,t1,t2⟩,q⟩:=SY (A:=A) (E:=E) (Z:=P) ((c.next p₁).next p₂).at_ (V₁.next p₁.rel p₂) V₂ h₂ fun y pv k hk V q =>
  hP y {s₂ with toks:=k } pv ((p₁.trans p₂).trans (.ofToks p₂.rel hk)) (fun b o e=>k₂ b o (k₁ b o e)) V q
 refine tail_any (ops:=[x,y]) t1 t2 q ?_
 induction b using Expr.casesOn<;>first | rfl | exact noF hs
theorem a0u{a b d ma mb md k pos}(ha:Quiet g sc a ma)(hb:Quiet g sc b mb)(hd:Quiet g sc d md)(h1:BG a=true)(h2:BG b=true)(h3:BG d=true):Quiet g sc (.Tuple [a,b,d] k pos) (.tup [ma,mb,md]):=fun{fr n T A env Λ σ ρ s Q X P E} hT c h hP=>by
 refine Tuple_ ?_
 rw[EI h1,EI h2,EI h3]
 refine spliced_cons (ha hT c h fun x s₁ v p₁ k₁ V₁ q₁=>spliced_cons (hb hT (c.next p₁) q₁ fun y s₂ u p₂ k₂ V₂ q₂=>spliced_cons (hd hT ((c.next p₁).next p₂) q₂ fun z s₃ t p₃ k₃ V₃ q₃=>spliced_nil ?_)))
 refine wpAny_newTuple ?_ (by show 3<=sizeLine;decide)
 have p':Post g [] s₃ ρ {s₃ with heap:=s₃.heap.push {cls:=.type "tuple",data:=.seq [x,y,z].toArray } } ρ σ:=EX p₃.rel _ (Nat.le_refl _)
 exact hP _ _ (.tup [v,u,t]) (((p₁.trans p₂).trans p₃).trans p') (fun b o e=>Heap.get?_push_of_some _ (k₃ b o (k₂ b o (k₁ b o e)))) (.tup (p₃.rel.notHid (Nat.le_refl _)) ⟨_,Heap.get?_push_size _ rfl,rfl,_,rfl⟩ (by show 3<=sizeLine;decide)
  (.cons (((V₁.next p₁.rel p₂).next p₂.rel p₃).next p₃.rel p') (.cons ((V₂.next p₂.rel p₃).next p₃.rel p') (.cons (V₃.next p₃.rel p') .nil)))) q₃
theorem a0v{T:Tb}{elt melt}(hT:TOk g fr n T)(he:Quiet g (relab scope.names sc) elt melt) :
  JD g fr true n A env sc scope tgt cap Λ [] elt (fun x σ K=>wpE T melt (put tgt x (BE cap Λ)) σ (fun u σ=>K (some u) σ) (fun _=>False)) :=
 fun{C s ρ σ x K P E} c h hs hn=>by
  rw[List.forIn_nil]
  refine wpAny_pure ?_
  rw[if_pos rfl]
  exact he hT c h fun y s' pv p kp V q=>hs y pv s' ρ σ p (fun _ p _ o e=>kp _ _ e) V q
theorem a3b(hg:Ok g){elt melt iter mit px pos}(S:ScOk scope sc tgt cap)(hset:FI iter=true)(he:Quiet g (relab scope.names sc) elt melt)(ht:Snd g sc iter mit) :
  Snd g sc (.ListComp elt [⟨.Name (nm tgt) px,iter,[],0⟩] scope pos) (.compD melt tgt mit cap) :=
 BZ (fun _ _=>rfl) fun{fr n T A env Λ σ ρ s Q X P E} hT c h hP hE=>by
  refine JT hg c S hset (a0v hT he) (ht.1 hT c h (fun x s₁ ρ₁ v σ₁ p₁ V₁ h₁=>?_) hE) hP
  refine AD ?_<|CH h₁;intro l e1 q
  have hf:T.free:=by induction l using List.casesOn with | nil=>exact q.1 | cons a l=>exact q.1
  have hfr:=hT.free hf
  subst hfr
  exact a2x (c.next p₁).at_ V₁ e1 fun I s' st M=>⟨I,l,fun _=>T.free,st,ρ₁,σ₁,s₁,rfl,p₁,⟨M.post,M.at_,M.lt,⟨M.it.keep,M.it.self,M.it.there,fun c _=>M.it.item c trivial,fun c _=>M.it.stop c trivial⟩,M.st0,M.len⟩,q⟩
end
section
variable {g:G}{fr:Bool}{A:Around}{s s₁ s₂:Shared}{ρ ρ₁ ρ₂:Rho}{σ σ₁ σ₂:St}{E:Value->Shared->Prop}{X:St->Prop}{sc:List (Str×NameKind)}{n:Nat}{env:Env}{Λ Λ₁:Loc}{fp:List Addr}
set_option backward.match.sparseCases true
noncomputable def CI(sc:List (Str×NameKind))(ts:List Expr):List Str:=ts.filterMap fun
 | .Name id pos=>if sc.lookup id==some .local&&pos.line==(ts.head?.map (·.pos.line)).getD 0 then some id else none
 | _=>none
noncomputable def MM(sc:List (Str×NameKind))(ts vs:List Expr):Bool :=
 (ts.length==2||ts.length==3)&&vs.length==ts.length&&vs.all BG&&(CI sc ts).length==ts.length&&(CI sc ts).eraseDups.length==(CI sc ts).length && !(vs.all (foldedForSure 8)) && !(vs.all (constantsAlone 8))
theorem a0w{ts vs:List Expr}{k k2:Nat}{tp p2:Pos}(c:EnvOk sc env)(h:MM sc ts vs=true):swappedStores [.Tuple ts k tp] (.Tuple vs k2 p2) env=pure (some (CI sc ts)):=by
 unfold MM at h
 simp only[Bool.and_eq_true,Bool.not_eq_true']at h
 revert h;refine oA2 ?_;rintro⟨⟨⟨⟨⟨h1,h2⟩,h3⟩,h4⟩,h5⟩,h6⟩ h7
 have hbk:env.blockKind = .function:=by unfold Env.blockKind;rw[c.kind];rfl
 have hstar:(vs.any fun | .Starred .. => true | _=>false)=false:=by
  rw[List.any_eq_false]
  intro e he
  have:=List.all_eq_true.mp h3 e he
  induction e using Expr.casesOn<;>first | (exact Bool.false_ne_true) | (exact noF this)
 have hn:(ts.filterMap fun
   | .Name id pos=>if env.kindOf id==some .local&&pos.line==(ts.head?.map (·.pos.line)).getD 0 then some id else none
   | _=>none)=CI sc ts:=by
  unfold CI Env.kindOf
  rw[c.names]
 unfold swappedStores
 have e1:(!(ts.length==2||ts.length==3)||vs.length != ts.length||env.blockKind != .function)=false:=by
  rw[h1,hbk];simp only[bne,h2];rfl
 have e2:((CI sc ts).length != ts.length||(CI sc ts).eraseDups.length != (CI sc ts).length)=false:=by
  simp only[bne,h4,h5];rfl
 dsimp only
 rw[if_neg (by rw[e1];exact Bool.false_ne_true),if_neg (by exact fun h=>Bool.false_ne_true (hstar.symm.trans h))]
 generalize hN:List.filterMap _ ts=N
 have e3:N=CI sc ts:=hN.symm.trans hn
 rw[e3,if_neg (by rw[e2];exact Bool.false_ne_true),if_neg (by rw[h6];exact Bool.false_ne_true),if_neg (by rw[h7];exact Bool.false_ne_true)]
set_option backward.match.sparseCases false
theorem VRs.rev{T:Nat}{h:Heap}:∀ {v:List PV} {x:List Value},VRs g T h ρ v x->VRs g T h ρ v.reverse x.reverse :=
 fun V=>VRs.ind (P:=fun v x=>VRs g T h ρ v.reverse x.reverse) .nil (fun _ _ _ _ a _ r=>by rw[List.reverse_cons,List.reverse_cons];exact r.append (.cons a .nil)) V
theorem a0x{M:Model}{Z:Unit->Shared->Prop}:∀ {ks:List Nat} {vs:List PV} {xs:List Value} {s:Shared} {Λ:Loc} {σ:St} {ρ:Rho},Ctx g fr n A env sc Λ σ ρ s->(∀ k∈ks,FP sc (nm k))->ks.length=vs.length->VRs g s.toks s.heap ρ vs xs →
  (∀ s',Post g (FA env) s ρ s' ρ σ->LocR g s'.toks env (puts ks vs Λ) ρ s'.heap->Z () s')->wpAny M A (assignInOrder (ks.map fun k=>bindName env (nm k)) xs) Z E s:=by
 intro ks
 induction ks with
 | nil =>
  intro vs xs s Λ σ ρ c _ hl V hZ
  obtain rfl:=List.eq_nil_of_length_eq_zero hl.symm
  exact Eq.symm V.inv▸assignInOrder_nil (hZ s (Post.refl c.at_.rel) c.loc)
 | cons k ks ih =>
  intro vs xs s Λ σ ρ c hk hl V hZ
  induction vs using List.casesOn with
  | nil=>exact nomatch hl
  | cons v vs =>
  obtain⟨_,_,rfl,a,r⟩:=V.inv
  exact assignInOrder_cons (GH c rfl (hk k (.head _)) a fun s' p L =>
   ih (c.step p L) (fun k hm=>hk k (.tail _ hm)) (Nat.succ.inj hl) (r.grow c.at_.rel p.grow c.loc.notTup p.toks) fun s'' p' L'=>hZ s'' (p.trans p') L')
theorem a6l{ts vs ks ms k k2 tp p2 pos}(hs:FO g sc vs ms)(h1:MM sc ts vs=true)(h2:CI sc ts=ks.map nm)(hf:fits vs.length=true)(hv:∀ k∈ks,FP sc (nm k)):ED g sc (.Assign [.Tuple ts k tp] (.Tuple vs k2 p2) pos) (.asgT ks ms):=fun{fr n T A env Λ σ ρ s X E Q P} hT c tp h hP hE=>by
 rw[PyProof.Rows.exec_Assign]
 refine wpAny_bind (wpAny_standAt ?_)
 refine wpAny_bind (wpAny_of_eq (a:=false) rfl (HC rfl ?_))
 have hlen:ks.length=vs.length:=by
  have e:(CI sc ts).length=ks.length:=by rw[h2,List.length_map]
  unfold MM at h1
  simp only[Bool.and_eq_true,beq_iff_eq]at h1
  revert h1;refine oA2 ?_;rintro⟨⟨⟨⟨⟨a1,a2⟩,a3⟩,a4⟩,a5⟩,a6⟩ a7
  lia
 refine wpAny_bind (Tuple_ (hs hT c h (fun ys s' ρ' us σ' p V l q=>?_) hE.up))
 have hz:ys.length<=sizeLine:=by rw[l];exact CA hf
 refine wpAny_newTuple ?_ hz
 have p':Post g [] s' ρ' {s' with heap:=s'.heap.push {cls:=.type "tuple",data:=.seq ys.toArray } } ρ' σ':=EX p.rel _ (Nat.le_refl _)
 refine wpAny_bind (wpAny_of_eq (a0w c.ok h1) ?_)
 unfold assignStores
 dsimp only
 have c2:=(c.next p).next p'
 have hu:us.length=ks.length:=by rw[V.length,l,hlen]
 refine wpAny_bind (wpAny_rule (wpAny_bind ?_))
 have e1:(CI sc ts).length=ys.toArray.size:=by rw[h2,List.length_map,List.size_toArray,hlen,l]
 rw[e1]
 refine TG c2.at_.hand ⟨_,Heap.get?_push_size _ rfl,rfl,_,rfl⟩ fun h' hk hsz=>?_
 have p3:Post g [] _ ρ' {s' with heap:=h' } ρ' σ':=.ofKeeps c2.at_.rel (Nat.le_refl _) hk hsz
 have c3:=c2.next p3
 have e2:((CI sc ts).reverse.map fun n=>bindName env n)=ks.reverse.map fun k=>bindName env (nm k):=by
  rw[h2,← List.map_reverse,List.map_map];rfl
 rw[e2]
 refine wpAny_bind (a0x c3 (fun k hm=>hv k (List.mem_reverse.mp hm)) (vs:=us.reverse) (by simp[hu]) ((V.next p.rel p').next p'.rel p3).rev fun s'' p4 L=>wpAny_pure ?_)
 exact hP _ _ s'' ρ' _ σ' (((p.trans p').trans p3).up.trans p4) L .next q
end
section
variable {g:G}{fr:Bool}{A:Around}{s s₁ s₂:Shared}{ρ ρ₁ ρ₂:Rho}{σ σ₁ σ₂:St}{E:Value->Shared->Prop}{X:St->Prop}{sc:List (Str×NameKind)}{n:Nat}{env:Env}{Λ Λ₁:Loc}{fp:List Addr}
noncomputable abbrev Passes(g:G)(A:Around)(env:Env):Prop:=∀ {F:List Addr} {s s':Shared} {ρ ρ':Rho} {σ':St} {x:Value} {E:Value->Shared->Prop},XPost g A F s ρ s' ρ' σ' x->(∀ s'',XPost g A F s ρ s'' ρ' σ' x->E x s'') →
 notedBy (model g.prog g.w) A env (cameBackBy (model g.prog g.w) A env E) x s'
theorem a3c{e me b mb pos}(he:Snd g sc e me)(hb:EM g sc b mb):ED g sc (.While e b [] pos) (.while me mb):=fun{fr n T A env Λ σ ρ s X E Q P} hT c tp h hP hE=>by
 revert h;refine AD ?_;rintro I ⟨m0,h0⟩ hI
 refine wpAny_While (codeAny_whileLoop (fun m s'=>∃ Λ' σ' ρ',Post g (FA env) s ρ s' ρ' σ'/\LocR g s'.toks env Λ' ρ' s'.heap/\I m Λ' σ') ?_ m0 ⟨Λ,σ,ρ,.refl c.at_.rel,c.loc,h0⟩)
 rintro m s' ⟨Λ',σ',ρ',p,L,hi⟩
 have c1:=c.step p L
 refine he.2 (Q:=fun t σ''=>if t=true then AN T mb Λ' σ'' (fun f Λ σ=>match f with | .ret v=>Q (.ret v) Λ σ | _=>∃ m',m'<m/\I m' Λ σ) (fun _=>False)else Q .next Λ' σ'') hT c1 (hI m Λ' σ' hi) (fun pv σ'' k=>?_) (fun t s₁ ρ₁ σ₁ p₁ q=>?_) fun x s' ρ' σ' p' f=>f.elim
 ·refine AD ?_<|CZ k;rintro t rfl q
  exact⟨t,rfl,q⟩
 ·have p2:=p.trans p₁.up
  have L2:=(c1.next p₁).loc
  induction t using Bool.casesOn
  ·exact wpAny_pure (hP .next .next s₁ ρ₁ Λ' σ₁ p2 L2 .next q)
  ·refine hb hT (c.step p2 L2) tp q (fun f fl s₂ ρ₂ Λ₂ σ₂ p₃ L₃ V q₃=>?_) fun x s' ρ' σ' p' f=>f.elim
   cases V with
   | next=>revert q₃;refine AD ?_;intro m' hm hi';exact⟨m',hm,Λ₂,σ₂,ρ₂,p2.trans p₃,L₃,hi'⟩
   | cont=>revert q₃;refine AD ?_;intro m' hm hi';exact⟨m',hm,Λ₂,σ₂,ρ₂,p2.trans p₃,L₃,hi'⟩
   | ret V=>exact hP _ _ s₂ ρ₂ Λ₂ σ₂ (p2.trans p₃) L₃ (.ret V) q₃
theorem Post.freshF{F G':List Addr}{s0:Shared}{ρ0:Rho}(p0:Post g [] s0 ρ0 s ρ σ)(p:Post g (F++G') s ρ s₁ ρ₁ σ₁)(hG:∀ a∈G',s0.heap.objs.size<=a):Post g F s0 ρ0 s₁ ρ₁ σ₁:=by
 have t:=(p0.wider (F':=F++G') (by simp)).trans p
 exact⟨t.rel,⟨t.grow.ext,fun b o e ho hF=>t.grow.keep b o e ho fun hm=>(List.mem_append.mp hm).elim hF fun hm=>Nat.lt_irrefl _ (Nat.lt_of_lt_of_le (Heap.lt_size e) (hG b hm)),t.grow.size,t.grow.dicts⟩,t.toks,t.same⟩
theorem XPost.freshF{F G':List Addr}{s0:Shared}{ρ0:Rho}{x:Value}(p0:Post g [] s0 ρ0 s ρ σ)(p:XPost g A (F++G') s ρ s₁ ρ₁ σ₁ x)(hG:∀ a∈G',s0.heap.objs.size<=a):XPost g A F s0 ρ0 s₁ ρ₁ σ₁ x:=by
 have t:=XPost.trans (p0.wider (F':=F++G') (by simp)) p
 have no:∀ {b:Addr} {o:Obj},s0.heap.get? b=some o->b∉F->b∉F++G':=fun e hF hm=>(List.mem_append.mp hm).elim hF fun hm=>Nat.lt_irrefl _ (Nat.lt_of_lt_of_le (Heap.lt_size e) (hG _ hm))
 obtain⟨e,l,Bx,rfl,hl,hf,hr,hk⟩:=t.fly
 exact⟨⟨e,l,Bx,rfl,hl,hf,hr,fun b o h1 h2 h3 h4=>hk b o h1 h2 (no h1 h3) h4⟩,fun b o h1 h2 h3 h4=>t.keep b o h1 h2 (no h1 h3) h4,t.ext,t.toks,t.same⟩
theorem VT{k:Nat}{px:Pos}{body:List Stmt}{mb:List MS}{T:Tb}{I:Addr}{vs:List PV}{ok:St->Prop}{st:Nat->Rho->Heap->Prop}{Q:Fl->Loc->St->Prop}{X':St->Prop}{s0:Shared}{ρ0:Rho}{P:Flow->Shared->Prop}{R:Result->Shared->Prop}
  (hT:TOk g fr n T) (hb:EM g sc body mb) (hk:FP sc (nm k)) (p0:Post g [] s0 ρ0 s ρ σ) (c:Ctx g fr n A env sc Λ σ ρ s) (tp:Top A env) (W:IterOk g fr false I vs ok fp st) (hst:st 0 ρ s.heap) (H:Hidden g A env fp ρ s.heap) (hfp:∀ a∈fp,s0.heap.objs.size<=a)
  (hG:turns ok (fun x Λ σ K=>AN T mb (put k x Λ) σ K X') vs Λ σ Q) (hP:ContS g env s0 ρ0 Q P) (hPR:∀ f s',P f s'->R (.ok f) s')
  (hX:∀ x s' ρ' σ',XPost g A (FA env) s0 ρ0 s' ρ' σ' x->X' σ'->notedBy (model g.prog g.w) A env (fun e s''=>R (.error e) s'') x s') :
  codeAny (model g.prog g.w) A (.forLoop (.Name (nm k) px) (.ref I) body [] env) R s:=by
 refine codeAny_forLoop (fun m s'=>∃ Λ' σ' ρ' j,m=vs.length+1-j/\j<=vs.length/\Post g (FA env++fp) s ρ s' ρ' σ'/\Ctx g fr n A env sc Λ' σ' ρ' s'/\Hidden g A env fp ρ' s'.heap/\st j ρ' s'.heap ∧
  turns ok (fun x Λ σ K=>AN T mb (put k x Λ) σ K X') (vs.drop j) Λ' σ' Q) ?_ (vs.length+1) ⟨Λ,σ,ρ,0,rfl,Nat.zero_le _,.refl c.at_.rel,c,H,hst,by simpa using hG⟩
 rintro m s' ⟨Λ',σ',ρ',j,rfl,hj,P1,c',H',stj,G⟩
 have up1:∀ b∈fp,b∈FA env++fp:=fun b hb=>List.mem_append.mpr (.inr hb)
 have up2:∀ b∈FA env,b∈FA env++fp:=fun b hb=>List.mem_append.mpr (.inl hb)
 cases hv:vs[j]? with
 | none =>
  have hj':j=vs.length:=by have:=List.getElem?_eq_none_iff.mp hv;lia
  subst hj'
  rw[List.drop_length]at G
  revert G;refine oA2 ?_;intro g1 g2
  refine W.stop c'.at_ g1 stj fun s'' B=>wpAny_pure (hPR _ _ ?_)
  exact hP .next .next s'' ρ' Λ' σ' (Post.freshF p0 (P1.trans ((B.post H' c'.at_.rel).wider up1)) hfp) (B.ctx H' c').loc .next g2
 | some v =>
  have hlt:j<vs.length:=(List.getElem?_eq_some_iff.mp hv).1
  have hd:vs.drop j=v::vs.drop (j+1):=by
   rw[List.drop_eq_getElem_cons hlt];congr 1;exact(List.getElem?_eq_some_iff.mp hv).2
  rw[hd]at G
  revert G;refine oA2 ?_;intro g1 g2
  refine W.item c'.at_ g1 stj hv fun y s₁ B Vy st1=>?_
  show wpAny _ _ (assign (.Name (nm k) px) env y) _ _ _
  rw[PySem.assign_Name]
  refine wpAny_bind (wpAny_standAt ?_)
  have cB:=B.ctx H' c'
  have pB:=B.post H' c'.at_.rel
  refine GH cB rfl hk Vy fun s₂ pS L2=>?_
  have cS:=cB.step pS L2
  have HB:Hidden g A env fp ρ' s₁.heap:=B.hidden H' fun a ha=>by
   refine DO ?_<|W.there st1 a ha;intro o fs ho hd hc
   refine⟨fun xs ht=>?_,fun hd'=>?_⟩
   ·revert ht;refine IY ?_;intro o' ho' hc' _
    rw[ho]at ho';replace ho':=sj ho';subst ho';exact hc hc'
   ·revert hd';refine DP ?_;intro o' es m ho' hd'
    rw[ho]at ho';replace ho':=sj ho';subst ho';rw[hd]at hd';cases hd'
  have live:∀ a∈fp,∃ o,s₁.heap.get? a=some o:=fun a ha=>let⟨o,_,ho,_⟩:=W.there st1 a ha;⟨o,ho⟩
  refine oA2 ?_<|HB.run pS HB.fa live;intro HS kS
  have stS:st (j+1) ρ' s₂.heap:=W.keep st1 kS (fun i p e=>pS.grow.old e) (fun f=>by exact noF f)
  have PS:Post g (FA env++fp) s ρ s₂ ρ' σ':=(P1.trans (pB.wider up1)).trans (pS.wider up2)
  refine hb hT cS tp g2 (fun f fl s₃ ρ₃ Λ₃ σ₃ p₃ L₃ V₃ q₃=>?_) fun x s₃ ρ₃ σ₃ p₃ q₃=>?_
  ·have more:(∃ m,m<vs.length+1-j/\∃ Λ' σ' ρ' j,m=vs.length+1-j/\j<=vs.length/\Post g (FA env++fp) s ρ s₃ ρ' σ'/\Ctx g fr n A env sc Λ' σ' ρ' s₃/\Hidden g A env fp ρ' s₃.heap/\st j ρ' s₃.heap ∧
     turns ok (fun x Λ σ K=>AN T mb (put k x Λ) σ K X') (vs.drop j) Λ' σ' Q)\/¬ turns ok (fun x Λ σ K=>AN T mb (put k x Λ) σ K X') (vs.drop (j+1)) Λ₃ σ₃ Q:=by
    by_cases ht:turns ok (fun x Λ σ K=>AN T mb (put k x Λ) σ K X') (vs.drop (j+1)) Λ₃ σ₃ Q
    ·have liveS:∀ a∈fp,∃ o,s₂.heap.get? a=some o:=fun a ha=>let⟨o,ho⟩:=live a ha;⟨o,kS a ha o ho⟩
     refine oA2 ?_<|HS.run p₃ HS.fa liveS;intro H3 k3
     exact .inl ⟨vs.length+1-(j+1),by lia,Λ₃,σ₃,ρ₃,j+1,rfl,hlt,PS.trans (p₃.wider up2),cS.step p₃ L₃,H3,W.keep stS k3 (fun i p e=>p₃.grow.old e) (fun f=>by exact noF f),ht⟩
    ·exact .inr ht
   cases V₃ with
   | next=>exact more.elim id fun h=>absurd q₃ h
   | cont=>exact more.elim id fun h=>absurd q₃ h
   | ret V=>exact hPR _ _ (hP (.ret _) (.ret _) s₃ ρ₃ Λ₃ σ₃ (Post.freshF p0 (PS.trans (p₃.wider up2)) hfp) L₃ (.ret V) q₃)
  ·exact hX x s₃ ρ₃ σ₃ (XPost.freshF p0 (XPost.trans PS (p₃.wider up2)) hfp) q₃
theorem b1p(hpass:∀ A env,Top A env->Passes g A env){k px e me b mb pos}(he:Snd g sc e me)(hb:EM g sc b mb)(hk:FP sc (nm k))(hset:FI e=true):ED g sc (.For (.Name (nm k) px) e b [] pos) (.for k me mb):=fun{fr n T A env Λ σ ρ s X E Q P} hT c tp h hP hE=>by
 refine wpAny_For (he.1 hT c h (fun x s₁ ρ₁ v σ₁ p₁ V₁ h₁=>?_) hE.up) (fun x=>JS hset)
 refine AD ?_<|CH h₁;rintro⟨vs,ok⟩ e1 q
 have c1:=c.next p₁
 refine MK c1.at_ V₁ e1 fun I s' st M=>?_
 have c2:=c1.next M.post
 refine VT hT hb hk (p₁.trans M.post) c2 tp M.it M.st0 (KA c1 M) (fun a ha=>by rw[List.mem_singleton.mp ha];exact Nat.le_trans p₁.grow.size M.at_) q hP (fun f s' h=>h) fun x s' ρ' σ' px hx=>?_
 exact hpass A env tp px fun s'' px'=>hE x s'' ρ' σ' px' hx
theorem a6m(hg:Ok g){k px nn mn b mb p1 p2 pos}(hn:Snd g sc nn mn)(hb:EM g sc b mb)(hk:FP sc (nm k))(hs:BG nn=true)(hr:sc.lookup (Str.ofString "range")=some .globalImplicit) :
  ED g sc (.For (.Name (nm k) px) (.Call (.Name (Str.ofString "range") p1) [nn] [] p2) b [] pos) (.forR k mn mb):=fun{fr n T A env Λ σ ρ s X E Q P} hT c tp h hP hE=>by
 refine wpAny_For (LJ hg hT c hn hs hr h (fun x s₁ ρ₁ v σ₁ p₁ V₁ h₁=>?_) hE.up) (fun x=>JS rfl)
 refine AD ?_<|CH h₁;intro l e1 q
 have hf:T.free:=by induction l using List.casesOn with | nil=>exact q.1 | cons a l=>exact q.1
 have hfr:=hT.free hf
 subst hfr
 refine AR ?_<|TJ e1;rintro i rfl
 obtain⟨t,rfl⟩:=V₁.inv
 have c1:=c.next p₁
 refine QG c1.at_ e1 fun I s' st M=>?_
 have c2:=c1.next M.post
 have W:IterOk g true false I l (fun _=>T.free) [I] st:=⟨M.it.keep,M.it.self,M.it.there,fun c _=>M.it.item c trivial,fun c _=>M.it.stop c trivial⟩
 refine VT hT hb hk (p₁.trans M.post) c2 tp W M.st0 (KA c1 M) (fun a ha=>by rw[List.mem_singleton.mp ha];exact Nat.le_trans p₁.grow.size M.at_) q hP (fun f s' h=>h) fun x s' ρ' σ' px hx=>hx.elim
section
variable {Z Z':List Addr}{T:Nat}{h:Heap}
theorem VR.re(hz:∀ a xs,IsTup h a xs->a∉Z->a∉Z'){v:PV}{x:Value}(V:VR (g.at Z) T h ρ v x):VR (g.at Z') T h ρ v x :=
 VR.rec (g:=g.at Z) (motive_1:=fun v x _=>VR (g.at Z') T h ρ v x) (motive_2:=fun v x _=>VRs (g.at Z') T h ρ v x) (motive_3:=fun v x _=>VKs (g.at Z') T h ρ v x) .none .bool .int .str .bytes (fun a b c _ d=>.tup (hz _ _ b a) b c d) .ref (fun a b _ d=>.flist a b d) (fun a b _ d=>.fdict a b d) .nil (fun _ _ a b=>.cons a b) .nil (fun _ _ a b=>.cons a b) V
theorem VRs.re(hz:∀ a xs,IsTup h a xs->a∉Z->a∉Z'){v:List PV}{x:List Value}(V:VRs (g.at Z) T h ρ v x):VRs (g.at Z') T h ρ v x :=
 VRs.ind (P:=fun v x=>VRs (g.at Z') T h ρ v x) .nil (fun _ _ _ _ a _ r=>.cons (a.re hz) r) V
theorem VKs.re(hz:∀ a xs,IsTup h a xs->a∉Z->a∉Z'){v:List (Str×PV)}{x:List (Str×Value)}(V:VKs (g.at Z) T h ρ v x):VKs (g.at Z') T h ρ v x :=
 VKs.ind (P:=fun v x=>VKs (g.at Z') T h ρ v x) .nil (fun _ _ _ _ _ a _ r=>.cons (a.re hz) r) V
theorem FR.re(hz:∀ a xs,IsTup h a xs->a∉Z->a∉Z'){v:List (Nat×PV)}{x:List DictEntry}(V:FR (g.at Z) T h ρ v x):FR (g.at Z') T h ρ v x:=by
 induction V with
 | nil=>exact .nil
 | cons e a _ ih=>exact .cons e (a.re hz) ih
theorem OR.re(hz:∀ a xs,IsTup h a xs->a∉Z->a∉Z'){o:AO}{p:Addr×Addr}(X:OR (g.at Z) T h ρ o p):OR (g.at Z') T h ρ o p:=by
 induction o using AO.casesOn with
 | list vs=>obtain⟨e,hl,xs,hp,hv⟩:=X;exact⟨e,hl,xs,hp,hv.re hz⟩
 | dict kvs=>obtain⟨e,hs,xs,hd,hv⟩:=X;exact⟨e,hs,xs,hd,hv.re hz⟩
 | inst c fs=>obtain⟨hl,es,m,a,b,hf⟩:=X;exact⟨hl,es,m,a,b,hf.re hz⟩
theorem Rel.re(hz:∀ a xs,IsTup h a xs->a∉Z->a∉Z')(hid:∀ z∈Z',z<h.objs.size/\g.B.get? z=none)(R:Rel (g.at Z) T ρ σ h):Rel (g.at Z') T ρ σ h :=
 ⟨R.base,R.len,fun i p o e1 e2=>(R.obj i p o e1 e2).re hz,R.apart,R.new,hid⟩
theorem LocR.re(hz:∀ a xs,IsTup h a xs->a∉Z->a∉Z')(L:LocR (g.at Z) T env Λ ρ h):LocR (g.at Z') T env Λ ρ h:=by
 obtain⟨m,hm,hv⟩:=L.ns
 exact⟨⟨m,hm,fun k v e hk=>by refine AD ?_<|hv k v e hk;intro x a b;exact⟨x,a,b.re hz⟩⟩,fun k v e hk=>by refine DO ?_<|L.cell k v e hk;intro c x a b d;exact⟨c,x,a,b,d.re hz⟩,L.cells,L.apart,L.here,L.out⟩
end
structure MoveZ(g:G)(env:Env)(fp:List Addr)(ρ:Rho)(s s':Shared):Prop where
 keep:∀ b o,b∉fp->s.heap.get? b=some o->s'.heap.get? b=some o
 size:s.heap.objs.size<=s'.heap.objs.size
 toks:s.toks<=s'.toks
 same:Same s s'
 out:∀ a∈fp,Out ρ a/\g.B.get? a=none/\a∉FA env/\¬ IsDict s.heap a/\(a∉g.Z->∀ xs,¬ IsTup s.heap a xs)
theorem MoveZ.tups(B:MoveZ g env fp ρ s s₁):∀ a xs,a∉g.Z->IsTup s.heap a xs->IsTup s₁.heap a xs:=fun a xs hz ht=>by
 refine AD ?_<|id ht;intro o ho r
 exact⟨o,B.keep a o (fun hm=>(B.out a hm).2.2.2.2 hz xs ht) ho,r⟩
theorem MoveZ.vr(B:MoveZ g env fp ρ s s₁){v:PV}{x:Value}(V:VR g s.toks s.heap ρ v x):VR g s₁.toks s₁.heap ρ v x:=V.monoZ B.toks B.tups fun _ _ e=>e
theorem MoveZ.post(B:MoveZ g env fp ρ s s₁)(R:Rel g s.toks ρ σ s.heap):Post g fp s ρ s₁ ρ σ:=by
 refine⟨⟨fun b o e=>B.keep b o (fun hm=>by rw[(B.out b hm).2.1]at e;exact noS e) (R.base b o e),R.len,fun i p o e1 e2=>?_,R.apart,R.new,fun z hz=>⟨Nat.lt_of_lt_of_le (R.hid z hz).1 B.size,(R.hid z hz).2⟩⟩,
  ⟨⟨[],by simp,fun _ hp=>by cases hp⟩,fun b o e _ hb=>B.keep b o hb e,B.size,fun b ⟨o,es,m,ho,hd⟩=>⟨o,es,m,B.keep b o (fun hm=>(B.out b hm).2.2.2.1 ⟨o,es,m,ho,hd⟩) ho,hd⟩⟩,B.toks,B.same⟩
 have hp:=List.mem_of_getElem? e1
 exact(R.obj i p o e1 e2).monoZ B.toks (fun b e=>B.keep _ _ (fun hm=>((B.out _ hm).1 p hp).1 rfl) e) (fun b e=>B.keep _ _ (fun hm=>((B.out _ hm).1 p hp).2 rfl) e) B.tups fun _ _ e=>e
theorem MoveZ.ctx(B:MoveZ g env fp ρ s s₁)(hh:A.handled=none)(c:Ctx g fr n A env sc Λ σ ρ s):Ctx g fr n A env sc Λ σ ρ s₁:=by
 have P:=B.post c.at_.rel
 refine⟨c.ok,c.room,⟨.inl hh,c.at_.stk.grow P.grow,P.rel,Nat.lt_of_lt_of_le c.at_.toks B.toks⟩,?_⟩
 have kp:∀ a∈FA env,∀ o,s.heap.get? a=some o->s₁.heap.get? a=some o:=fun a ha o e=>B.keep a o (fun hm=>(B.out a hm).2.2.1 ha) e
 obtain⟨m,⟨o,es,ep,ho,r⟩,hv⟩:=c.loc.ns
 refine⟨⟨m,⟨o,es,ep,kp _ (.head _) _ ho,r⟩,fun k v e hk=>?_⟩,fun k v e hk=>?_,fun n c' hc=>?_,c.loc.apart,c.loc.here,c.loc.out⟩
 ·refine AD ?_<|hv k v e hk;intro x a b
  exact⟨x,a,B.vr b⟩
 ·refine DO ?_<|c.loc.cell k v e hk;rintro c' x a ⟨oc,hoc,hd⟩ b
  exact⟨c',x,a,⟨oc,kp _ (.tail _ (List.mem_map.mpr ⟨_,mem_of_lookup a,rfl⟩)) _ hoc,hd⟩,B.vr b⟩
 ·refine FD ?_<|c.loc.cells n c' hc;intro v oc hoc hd
  exact⟨v,oc,kp _ (.tail _ (List.mem_map.mpr ⟨_,hc,rfl⟩)) _ hoc,hd⟩
theorem a6n(hg:Ok g){e1 e2 m1 m2 p1 p2}{T:Tb}{Q:PV->PV->St->Prop}{P:Value->Shared->Prop}(hT:TOk g fr n T)(c:Ctx g fr n A env sc Λ σ ρ s)(h1:Snd g sc e1 m1)(h2:Snd g sc e2 m2)(n1:BG e1=true)(n2:BG e2=true)(hk:sc.lookup (Str.ofString "zip")=some .globalImplicit)
  (h:wpE T m1 Λ σ (fun v σ=>wpE T m2 Λ σ (fun u σ=>Q v u σ) X) X)
  (hP:∀ x y s₁ ρ₁ v u σ₁,Post g [] s ρ s₁ ρ₁ σ₁->VR g s₁.toks s₁.heap ρ₁ v x->VR g s₁.toks s₁.heap ρ₁ u y->Q v u σ₁->wpAny (model g.prog g.w) A (call (.type "zip") [x,y]) P E s₁) (hE:ContX g A [] s ρ X E) :
  wpAny (model g.prog g.w) A (eval (.Call (.Name (Str.ofString "zip") p1) [e1,e2] [] p2) env) P E s:=by
 obtain⟨mg,mb,g1,g2,_,_,_,g3⟩:=hg.glob
 have hm:(Str.ofString "zip",Value.type "zip")∈bnames:=by decide
 refine wpAny_bind (RW c hk (by decide) g1 g2 (g3 _ hm).1 (g3 _ hm).2 ?_)
 refine JP hg (HD h1 (HD h2 JO n2) n1) (by rw[List.all_cons,List.all_cons,n1,n2];rfl) hT c (.ty "zip") (ms:=[m1,m2]) (Q':=fun vs σ=>∃ v u,vs=[v,u]/\Q v u σ) ?_ (fun ys s' ρ' vs σ' p V q=>?_) hE
 ·have e:(fun v σ=>wpE T m2 Λ σ (fun u σ=>∃ v' u',([v,u]:List PV)=[v',u']/\Q v' u' σ) X)=fun v σ=>wpE T m2 Λ σ (fun u σ=>Q v u σ) X:=by
   funext v σ
   congr 1
   funext u σ
   simp only[List.cons.injEq,and_true]
   exact propext ⟨fun⟨_,_,⟨e1,e2⟩,h⟩=>by rw[e1,e2];exact h,fun h=>⟨_,_,⟨rfl,rfl⟩,h⟩⟩
  show wpE T m1 Λ σ (fun v σ=>wpE T m2 Λ σ (fun u σ=>∃ v' u',([v,u]:List PV)=[v',u']/\Q v' u' σ) X) X
  rw[e];exact h
 ·revert q;refine FD ?_;rintro v u rfl q
  exact V.consI fun x r a V=>V.oneI fun y b=>hP _ _ _ _ _ _ _ p a b q
structure ZipAt(h:Heap)(z TI TO i1 i2 l1 l2:Addr)(j:Nat):Prop where
 z:IsZip h z TI TO .none
 ti:IsPair h TI (.ref i1) (.ref i2)
 to:∃ a b,IsPair h TO a b
 it1:h.IsListIter i1 l1 j
 it2:h.IsListIter i2 l2 j
theorem ZipAt.keep{h h':Heap}{z TI TO i1 i2 l1 l2:Addr}{j:Nat}(Y:ZipAt h z TI TO i1 i2 l1 l2 j)(k:∀ b∈[z,TI,TO,i1,i2],∀ o,h.get? b=some o->h'.get? b=some o):ZipAt h' z TI TO i1 i2 l1 l2 j:=by
 obtain⟨a,b,hto⟩:=Y.to
 obtain⟨o1,a1,r1⟩:=Y.it1
 obtain⟨o2,a2,r2⟩:=Y.it2
 exact⟨k z (by simp) _ Y.z,k TI (by simp) _ Y.ti,⟨a,b,k TO (by simp) _ hto⟩,⟨o1,k i1 (by simp) _ a1,r1⟩,⟨o2,k i2 (by simp) _ a2,r2⟩⟩
theorem all4{P:Addr->Prop}{z b c d:Addr}(h1:P z)(h2:P b)(h3:P c)(h4:P d):∀ x∈[z,b,c,d],P x:=List.forall_mem_cons.mpr ⟨h1,List.forall_mem_cons.mpr ⟨h2,List.forall_mem_cons.mpr ⟨h3,List.forall_mem_cons.mpr ⟨h4,List.forall_mem_nil _⟩⟩⟩⟩
theorem not4{x z b c d:Addr}(h:x∉[z,b,c,d]):x≠z/\x≠b/\x≠c/\x≠d:=⟨fun e=>h (e ▸ .head _),fun e=>h (e ▸ .tail _ (.head _)),fun e=>h (e ▸ .tail _ (.tail _ (.head _))),fun e=>h (e ▸ .tail _ (.tail _ (.tail _ (.head _))))⟩
theorem in45{x z a b c d:Addr}(h:x∈[z,b,c,d]):x∈[z,a,b,c,d]:=by
 rcases List.mem_cons.mp h with h | h
 ·exact h ▸ .head _
 ·exact .tail _ (.tail _ h)
section
variable {h h1 h2 h3:Heap}{z TI TO i1 i2 l1 l2:Addr}{i:Nat}
theorem ZipAt.lt(Y:ZipAt h z TI TO i1 i2 l1 l2 i):∀ a∈[z,TI,TO,i1,i2],a<h.objs.size:=by
 obtain⟨_,_,t⟩:=Y.to
 obtain⟨_,a,_⟩:=Y.it1
 obtain⟨_,b,_⟩:=Y.it2
 exact List.forall_mem_cons.mpr ⟨Heap.lt_size Y.z,List.forall_mem_cons.mpr ⟨Heap.lt_size Y.ti,List.forall_mem_cons.mpr ⟨Heap.lt_size t,List.forall_mem_cons.mpr ⟨Heap.lt_size a,List.forall_mem_cons.mpr ⟨Heap.lt_size b,List.forall_mem_nil _⟩⟩⟩⟩⟩
noncomputable abbrev ZOut(g:G)(env:Env)(ρ:Rho)(h:Heap)(a:Addr):Prop:=Out ρ a/\g.B.get? a=none/\a∉FA env/\¬ IsDict h a/\(a∉g.Z->∀ xs,¬ IsTup h a xs)
theorem zout(hO:Out ρ a)(h1:g.B.get? a=none/\a∉FA env){o:Obj}(e:h.get? a=some o)(hd:∀ es n,o.data≠.dict es n)(ht:a∈g.Z\/o.cls≠.type "tuple"):ZOut g env ρ h a:=by
 refine⟨hO,h1.1,h1.2,?_,fun hz xs=>?_⟩
 ·rintro⟨o',es,n,e',d⟩
  rw[e]at e'
  exact hd es n (Option.some.inj e'▸d)
 ·rintro⟨o',e',c,_⟩
  rw[e]at e'
  rcases ht with ht | ht
  ·exact hz ht
  ·exact ht (Option.some.inj e'▸c)
theorem b1q(Y:ZipAt h z TI TO i1 i2 l1 l2 i)(hTO:TO∈g.Z)(hO:∀ a∈[z,TI,TO,i1,i2],Out ρ a)(hout:∀ a∈[z,TI,TO,i1,i2],g.B.get? a=none/\a∉FA env):∀ a∈[z,TO,i1,i2],ZOut g env ρ h a:=by
 obtain⟨_,_,t⟩:=Y.to
 obtain⟨_,a,a1,a2⟩:=Y.it1
 obtain⟨_,b,b1,b2⟩:=Y.it2
 have m:=fun x => @in45 x z TI TO i1 i2
 refine all4 (zout (hO _ (m _ (.head _))) (hout _ (m _ (.head _))) Y.z (fun _ _ e=>nomatch e) (.inr (by simp))) (zout (hO _ (m _ (.tail _ (.head _)))) (hout _ (m _ (.tail _ (.head _)))) t (fun _ _ e=>nomatch e) (.inl hTO))
  (zout (hO _ (m _ (.tail _ (.tail _ (.head _))))) (hout _ (m _ (.tail _ (.tail _ (.head _))))) a (fun _ _ e=>by rw[a2]at e;cases e) (.inr (by rw[a1];decide))) (zout (hO _ (m _ (.tail _ (.tail _ (.tail _ (.head _)))))) (hout _ (m _ (.tail _ (.tail _ (.tail _ (.head _)))))) b (fun _ _ e=>by rw[b2]at e;cases e) (.inr (by rw[b1];decide)))
theorem a3d{x y:Value}(D:ZipApart z TI TO i1 i2 l1 l2)(Y:ZipAt s.heap z TI TO i1 i2 l1 l2 i)(mo:∀ a∈[z,TO,i1,i2],ZOut g env ρ s.heap a)(hto:IsPair h1 TO x y)(a1:h1.IsListIter i1 l1 (i+1))(a2:h1.IsListIter i2 l2 (i+1))(z1:h1.objs.size=s.heap.objs.size+1)
  (k1:∀ c o,c≠z->c≠TO->c≠i1->c≠i2->s.heap.get? c=some o->h1.get? c=some o) (hz:IsZip h2 z TI TO .none) (s2:Heap.SameBut z h1 h2) (k3:∀ b o,h2.get? b=some o->h3.get? b=some o) (s3:h2.objs.size<=h3.objs.size) :
  MoveZ g env [z,TO,i1,i2] ρ s {s with heap:=h3 }/\ZipAt h3 z TI TO i1 i2 l1 l2 (i+1):=by
 have k13:∀ b o,b∉[z,TO,i1,i2]->s.heap.get? b=some o->h3.get? b=some o:=fun b o hb e=>by
  refine oA4 ?_<|not4 hb;intro q1 q2 q3 q4
  exact k3 b o ((s2.2 b q1).trans (k1 b o q1 q2 q3 q4 e))
 refine⟨⟨k13,Nat.le_trans (Nat.le_succ _) (Nat.le_trans (Nat.le_of_eq (z1.symm.trans s2.1.symm)) s3),Nat.le_refl _,⟨rfl,rfl,rfl⟩,mo⟩,?_⟩
 revert a1;refine AD ?_;intro o1 a1 r1
 revert a2;refine AD ?_;intro o2 a2 r2
 refine⟨k3 _ _ hz,k13 TI _ (fun hm=>?_) Y.ti,⟨x,y,k3 _ _ ((s2.2 TO D.TOz).trans hto)⟩,⟨o1,k3 _ _ ((s2.2 i1 D.i1z).trans a1),r1⟩,⟨o2,k3 _ _ ((s2.2 i2 D.i2z).trans a2),r2⟩⟩
 rcases List.mem_cons.mp hm with e | hm
 ·exact D.TIz e
 ·rcases List.mem_cons.mp hm with e | hm
  ·exact D.TITO e
  ·rcases List.mem_cons.mp hm with e | hm
   ·exact D.TIi1 e
   ·exact D.TIi2 (List.mem_singleton.mp hm)
theorem Post.at5{F:List Addr}{sa sb:Shared}{ra rb:Rho}{ta:St}(pp:Post g F sa ra sb rb ta)(hO:∀ a∈[z,TI,TO,i1,i2],Out ra a)(hF:∀ a∈[z,TI,TO,i1,i2],a∉F):∀ b∈[z,TI,TO,i1,i2],∀ o,sa.heap.get? b=some o->sb.heap.get? b=some o :=
 fun b hb o e=>pp.grow.keep b o e (hO b hb) (hF b hb)
end
structure ZInv(g:G)(n:Nat)(A:Around)(env:Env)(sc:List (Str×NameKind))(s:Shared)(ρ:Rho)(z TI TO i1 i2 l1 l2:Addr)(p q:Nat)(G:Nat->Loc->St->Prop)(i:Nat)(s':Shared)(Λ':Loc)(σ':St)(ρ':Rho):Prop where
 post:Post g (FA env++[z,TO,i1,i2]) s ρ s' ρ' σ'
 ctx:Ctx g true n A env sc Λ' σ' ρ' s'
 zip:ZipAt s'.heap z TI TO i1 i2 l1 l2 i
 pl:ρ'[p]? = some (l1,l1)
 ql:ρ'[q]? = some (l2,l2)
 out:∀ a∈[z,TI,TO,i1,i2],Out ρ' a
 turns:G i Λ' σ'
theorem b1r{z TI TO i1 i2 l1 l2:Addr}{p q i:Nat}{vs us:List PV}{Qn:Option Value->Shared->Prop}(hh:A.handled=none)(D:ZipApart z TI TO i1 i2 l1 l2)(Y:ZipAt s.heap z TI TO i1 i2 l1 l2 i)(R:Rel g s.toks ρ σ s.heap)(hp:ρ[p]? = some (l1,l1))(hq:ρ[q]? = some (l2,l2))
  (g1:AK σ p=some vs) (g2:AK σ q=some us) (hi:vs.length<=i) (mo:∀ a∈[z,TO,i1,i2],ZOut g env ρ s.heap a) (hQ:∀ h',MoveZ g env [z,TO,i1,i2] ρ s {s with heap:=h' }->Qn none {s with heap:=h' }):wpAny (model g.prog g.w) A (pyNext (.ref z)) Qn E s:=by
 obtain⟨a0,b0,hto⟩:=Y.to
 obtain⟨la,xs,e1,_,hl1,Va,_⟩:=R.list g1 (.ref hp)
 obtain⟨lb,ys,e2,_,hl2,Vb,_⟩:=R.list g2 (.ref hq)
 replace e1:=PySem.Value.ref.inj e1;subst e1;replace e2:=PySem.Value.ref.inj e2;subst e2
 refine DV (wpAny_pyNext_zip_end hh D Y.z Y.ti hto Y.it1 Y.it2 hl1.isList hl2.isList (.inl (List.getElem?_toArray.trans (List.getElem?_eq_none (Va.length▸hi)))) fun h' hk hz=>hQ h' ⟨fun b o hb e=>?_,hz,Nat.le_refl _,⟨rfl,rfl,rfl⟩,mo⟩)
 refine oA4 ?_<|not4 hb;intro q1 q2 q3 q4
 exact hk b o q1 q2 q3 q4 e
theorem a6o{z TI TO i1 i2 l1 l2:Addr}{p q i:Nat}{v u:PV}{vs us:List PV}{Qn:Option Value->Shared->Prop}(D:ZipApart z TI TO i1 i2 l1 l2)(Y:ZipAt s.heap z TI TO i1 i2 l1 l2 i)(R:Rel g s.toks ρ σ s.heap)(hp:ρ[p]? = some (l1,l1))(hq:ρ[q]? = some (l2,l2))
  (g1:AK σ p=some vs) (g2:AK σ q=some us) (hv:vs[i]? = some v) (hu:us[i]? = some u)
  (hQ:∀ x y h1,VR g s.toks s.heap ρ v x->VR g s.toks s.heap ρ u y->IsZip h1 z TI TO (rawInt s.heap.objs.size)->IsPair h1 TO x y->h1.IsListIter i1 l1 (i+1)->h1.IsListIter i2 l2 (i+1)->IsPair h1 s.heap.objs.size x y->h1.objs.size=s.heap.objs.size+1 →
   (∀ c o,c≠z->c≠TO->c≠i1->c≠i2->s.heap.get? c=some o->h1.get? c=some o)->Qn (some (.ref s.heap.objs.size)) {s with heap:=h1 }):wpAny (model g.prog g.w) A (pyNext (.ref z)) Qn E s:=by
 obtain⟨a0,b0,hto⟩:=Y.to
 obtain⟨la,xs,e1,_,hl1,Va,_⟩:=R.list g1 (.ref hp)
 obtain⟨lb,ys,e2,_,hl2,Vb,_⟩:=R.list g2 (.ref hq)
 replace e1:=PySem.Value.ref.inj e1;subst e1;replace e2:=PySem.Value.ref.inj e2;subst e2
 refine AD ?_<|Va.get? hv;intro x hx Vx
 refine AD ?_<|Vb.get? hu;intro y hy Vy
 exact wpAny_pyNext_zip_item D Y.z Y.ti hto Y.it1 Y.it2 hl1.isList hl2.isList (List.getElem?_toArray.trans hx) (List.getElem?_toArray.trans hy) fun h1 a b c d e f k=>hQ x y h1 Vx Vy a b c d e f k
theorem a6p(hg:Ok g){k j:Nat}{pk pj tp:Pos}{x1:Nat}{body:List Stmt}{mb:List MS}{T:Tb}{z TI TO i1 i2 l1 l2:Addr}{p q:Nat}{vs us:List PV}{Q:Fl->Loc->St->Prop}{P:Flow->Shared->Prop}{R:Result->Shared->Prop}
  (hT:TOk g true n T) (hb:∀ Z,EM (g.at Z) sc body mb) (hk:FP sc (nm k)) (hj:FP sc (nm j)) (D:ZipApart z TI TO i1 i2 l1 l2) (hTO:TO∈g.Z) (hTI:TI∈g.Z) (c:Ctx g true n A env sc Λ σ ρ s) (tp':Top A env) (Y:ZipAt s.heap z TI TO i1 i2 l1 l2 0)
  (hp:ρ[p]? = some (l1,l1)) (hq:ρ[q]? = some (l2,l2)) (hout:∀ a∈[z,TI,TO,i1,i2],Out ρ a/\g.B.get? a=none/\a∉FA env) (hlen:vs.length=us.length)
  (hG:EH (fun τ=>T.free/\AK τ p=some vs/\AK τ q=some us) (fun x Λ σ K=>AN T mb (put j x.2 (put k x.1 Λ)) σ K (fun _=>False)) (vs.zip us) Λ σ Q)
  (hP:∀ f fl s' ρ' Λ' σ',Post g (FA env++[z,TO,i1,i2]) s ρ s' ρ' σ'->LocR g s'.toks env Λ' ρ' s'.heap->FlR g s'.toks s'.heap ρ' f fl->Q f Λ' σ'->P fl s') (hPR:∀ f s',P f s'->R (.ok f) s') :
  codeAny (model g.prog g.w) A (.forLoop (.Tuple [.Name (nm k) pk,.Name (nm j) pj] x1 tp) (.ref z) body [] env) R s:=by
 have hh:A.handled=none:=c.at_.hand.elim id fun h=>by cases h.1
 have hzl:(vs.zip us).length=vs.length:=by rw[List.length_zip,hlen,Nat.min_self]
 have hB:∀ a∈[z,TI,TO,i1,i2],g.B.get? a=none/\a∉FA env:=fun a ha=>(hout a ha).2
 have hF:∀ a∈[z,TI,TO,i1,i2],a∉FA env:=fun a ha=>(hB a ha).2
 have up1:∀ b∈[z,TO,i1,i2],b∈FA env++[z,TO,i1,i2]:=fun b hb=>List.mem_append.mpr (.inr hb)
 have up2:∀ b∈FA env,b∈FA env++[z,TO,i1,i2]:=fun b hb=>List.mem_append.mpr (.inl hb)
 generalize hGi:(fun i Λ σ=>EH (fun τ=>T.free/\AK τ p=some vs/\AK τ q=some us) (fun x Λ σ K=>AN T mb (put j x.2 (put k x.1 Λ)) σ K (fun _=>False)) ((vs.zip us).drop i) Λ σ Q)=Gi
 refine codeAny_forLoop_any (fun m s'=>∃ Λ' σ' ρ' i,(m=vs.length+1-i/\i<=vs.length)/\ZInv g n A env sc s ρ z TI TO i1 i2 l1 l2 p q Gi i s' Λ' σ' ρ') ?_ (vs.length+1)
  ⟨Λ,σ,ρ,0,⟨rfl,Nat.zero_le _⟩,.refl c.at_.rel,c,Y,hp,hq,fun a ha=>(hout a ha).1,hGi▸hG⟩
 intro m s' hm
 obtain⟨Λ',σ',ρ',i,⟨em,hi⟩,I⟩:=hm
 have R':=I.ctx.at_.rel
 have mo:=b1q I.zip hTO I.out hB
 have G:=I.turns
 rw[← hGi]at G
 cases hv:(vs.zip us)[i]? with
 | none =>
  have hi':vs.length<=i:=hzl▸List.getElem?_eq_none_iff.mp hv
  replace G:EH _ _ ((vs.zip us).drop i) Λ' σ' Q:=G
  rw[List.drop_eq_nil_of_le (hzl.symm▸hi')]at G
  exact b1r hh D I.zip R' I.pl I.ql G.1.2.1 G.1.2.2 hi' mo fun h' B=>wpAny_pure (hPR _ _ (hP .next .next _ ρ' Λ' σ' (I.post.trans ((B.post R').wider up1)) (B.ctx hh I.ctx).loc .next G.2))
 | some xy =>
  have hlt:i<(vs.zip us).length:=(List.getElem?_eq_some_iff.mp hv).1
  replace G:EH _ _ ((vs.zip us).drop i) Λ' σ' Q:=G
  rw[List.drop_eq_getElem_cons hlt,(List.getElem?_eq_some_iff.mp hv).2]at G
  have hv1:=(List.getElem?_zip_eq_some.mp hv).1
  have hu1:=(List.getElem?_zip_eq_some.mp hv).2
  refine a6o D I.zip R' I.pl I.ql G.1.2.1 G.1.2.2 hv1 hu1 fun x y h1 Vx Vy hz1 hto1 h11 h21 hN hsz1 hk1=>?_
  refine wpAny_letOwnedTupleGo_zip hz1 fun h2 hz2 hs2=>?_
  rw[assign_Tuple]
  refine wpAny_bind (wpAny_standAt ?_)
  unfold unpack
  refine wpAny_bind (wpAny_holding ?_)
  have hN2:IsTup h2 s'.heap.objs.size #[x,y]:=⟨_,(hs2.2 _ (Nat.ne_of_gt (Heap.lt_size I.zip.z))).trans hN,rfl,_,rfl⟩
  show wpAny _ _ (unpackItems (.ref s'.heap.objs.size) (#[x,y]:Array Value).size none) _ _ _
  refine TG (fr:=true) (s:={s' with heap:=h2 }) (.inl hh) hN2 fun h3 hk3 hs3=>?_
  have BY:=a3d D I.zip mo hto1 h11 h21 hsz1 hk1 hz2 hs2 hk3 hs3
  have c3:=BY.1.ctx hh I.ctx
  show wpAny _ _ (assignInOrder [assign (.Name (nm k) pk) env,assign (.Name (nm j) pj) env] [x,y]) _ _ _
  refine assignInOrder_cons ?_
  rw[PySem.assign_Name]
  refine wpAny_bind (wpAny_standAt (GH c3 rfl hk (BY.1.vr Vx) fun s4 p4 L4=>?_))
  have c4:=c3.step p4 L4
  refine assignInOrder_cons ?_
  rw[PySem.assign_Name]
  refine wpAny_bind (wpAny_standAt (GH c4 rfl hj ((BY.1.vr Vy).grow c3.at_.rel p4.grow c3.loc.notTup p4.toks) fun s5 p5 L5=>assignInOrder_nil ?_))
  have c5:=c4.step p5 L5
  have p45:=p4.trans p5
  have PS:Post g (FA env++[z,TO,i1,i2]) s ρ s5 ρ' σ':=(I.post.trans ((BY.1.post R').wider up1)).trans (p45.wider up2)
  have Y5:ZipAt s5.heap z TI TO i1 i2 l1 l2 (i+1):=BY.2.keep (p45.at5 I.out hF)
  refine hb g.Z hT c5 tp' G.2 (fun f fl s6 ρ6 Λ6 σ6 p6 L6 V6 q6=>?_) fun x s₃ ρ₃ σ₃ p₃ q₃=>q₃.elim
  have more:Gi (i+1) Λ6 σ6->∃ m',m'<m/\∃ Λ' σ' ρ' i,(m'=vs.length+1-i/\i<=vs.length)/\ZInv g n A env sc s ρ z TI TO i1 i2 l1 l2 p q Gi i s6 Λ' σ' ρ':=fun ht =>
   ⟨vs.length+1-(i+1),by rw[em];exact Nat.sub_lt_sub_left (Nat.lt_succ_of_lt (hzl▸hlt)) (Nat.lt_succ_self i),Λ6,σ6,ρ6,i+1,⟨rfl,hzl▸hlt⟩,PS.trans (p6.wider up2),c5.step p6 L6,Y5.keep (p6.at5 I.out hF),p6.grow.old I.pl,p6.grow.old I.ql,fun a ha=>p6.grow.out (Y5.lt a ha) (I.out a ha),ht⟩
  cases V6 with
  | next=>exact more (hGi▸q6)
  | cont=>exact more (hGi▸q6)
  | ret V=>exact hPR _ _ (hP (.ret _) (.ret _) s6 ρ6 Λ6 σ6 (PS.trans (p6.wider up2)) L6 (.ret V) q6)
section
variable {Z':List Addr}{T:Nat}{h h':Heap}
theorem Rel.hide(R:Rel g T ρ σ h)(hk:∀ b o,h.get? b=some o->h'.get? b=some o)(hZ:∀ a∈Z',a∉g.Z->h.objs.size<=a)(hid:∀ z∈Z',z<h'.objs.size/\g.B.get? z=none):Rel (g.at Z') T ρ σ h':=by
 have nz:∀ a xs,IsTup h a xs->a∉g.Z->a∉Z':=fun a xs ⟨o,ho,_⟩ hz hm=>Nat.lt_irrefl _ (Nat.lt_of_lt_of_le (Heap.lt_size ho) (hZ a hm hz))
 refine⟨fun b o e=>hk b o (R.base b o e),R.len,fun i p o e1 e2=>?_,R.apart,R.new,hid⟩
 have X:OR (g.at Z') T h ρ o p:=OR.re (Z:=g.Z) nz (R.obj i p o e1 e2)
 exact X.mono (Nat.le_refl _) (fun b e=>hk _ _ e) (fun b e=>hk _ _ e) (fun a xs ⟨o,ho,r⟩=>⟨o,hk _ _ ho,r⟩) fun _ _ e=>e
theorem LocR.hide(L:LocR g T env Λ ρ h)(hk:∀ b o,h.get? b=some o->h'.get? b=some o)(hZ:∀ a∈Z',a∉g.Z->h.objs.size<=a):LocR (g.at Z') T env Λ ρ h':=by
 have nz:∀ a xs,IsTup h a xs->a∉g.Z->a∉Z':=fun a xs ⟨o,ho,_⟩ hz hm=>Nat.lt_irrefl _ (Nat.lt_of_lt_of_le (Heap.lt_size ho) (hZ a hm hz))
 have V:∀ {v x},VR g T h ρ v x->VR (g.at Z') T h' ρ v x:=fun{v x} V=>by
  have X:VR (g.at Z') T h ρ v x:=VR.re (Z:=g.Z) nz V
  exact X.mono (Nat.le_refl _) (fun a xs ⟨o,ho,r⟩=>⟨o,hk _ _ ho,r⟩) fun _ _ e=>e
 obtain⟨m,⟨o,es,ep,ho,r⟩,hv⟩:=L.ns
 refine⟨⟨m,⟨o,es,ep,hk _ _ ho,r⟩,fun k v e hk'=>?_⟩,fun k v e hk'=>?_,fun n c hc=>?_,L.apart,L.here,L.out⟩
 ·refine AD ?_<|hv k v e hk';intro x a b
  exact⟨x,a,V b⟩
 ·refine DO ?_<|L.cell k v e hk';rintro c x a ⟨oc,hoc,hd⟩ b
  exact⟨c,x,a,⟨oc,hk _ _ hoc,hd⟩,V b⟩
 ·refine FD ?_<|L.cells n c hc;intro v oc hoc hd
  exact⟨v,oc,hk _ _ hoc,hd⟩
end
theorem Ok.at(hg:Ok g)(Z:List Addr):Ok (g.at Z):=⟨hg.kin,hg.lim,fun c hc=>⟨(hg.cls c hc).plain,(hg.cls c hc).has,(hg.cls c hc).setat,(hg.cls c hc).over,(hg.cls c hc).makes,(hg.cls c hc).keep,(hg.cls c hc).init,(hg.cls c hc).initf⟩,hg.fld,hg.glob,hg.fnk,hg.mths⟩
theorem TOk.at{T:Tb}(hT:TOk g fr n T)(Z:List Addr):TOk (g.at Z) fr n T:=⟨hT.gl,hT.ini,hT.mth,fun Z'=>hT.C Z',fun Z'=>hT.C' Z',hT.free⟩
set_option tactic.hygienic true in
theorem a6q(hg:Ok g){k j pk pj tp x1 e1 m1 e2 m2 b mb pz pc pos}(h1:Snd g sc e1 m1)(h2:Snd g sc e2 m2)(n1:BG e1=true)(n2:BG e2=true)(hz:sc.lookup (Str.ofString "zip")=some .globalImplicit)(hb:∀ Z,EM (g.at Z) sc b mb)(hk:FP sc (nm k))(hj:FP sc (nm j)) :
  ED g sc (.For (.Tuple [.Name (nm k) pk,.Name (nm j) pj] x1 tp) (.Call (.Name (Str.ofString "zip") pz) [e1,e2] [] pc) b [] pos) (.forZ k j m1 m2 mb):=fun{fr n T A env Λ σ ρ s X E Q P} hT c tp h hP hE=>by
 refine wpAny_For (a6n hg hT c h1 h2 n1 n2 hz h (fun x y s₁ ρ₁ v u σ₁ p₁ V U q=>?_) hE.up) (fun x=>JS rfl)
 refine AD ?_<|CH q;rintro⟨l,okl⟩ e1 q
 have hf:T.free:=by induction l using List.casesOn with | nil=>exact q.1.1 | cons a l=>exact q.1.1
 have hfr:=hT.free hf
 subst hfr
 have hh:A.handled=none:=c.at_.hand.elim id fun h=>by cases h.1
 unfold OU at e1
 split at e1
 ·rename_i p' q'
  split at e1
  ·rename_i vs us a1 a2
   split at e1
   ·rename_i hlen
    replace e1:=sj e1;cases e1
    have c1:=c.next p₁
    have R:=c1.at_.rel
    obtain⟨l1,xs,rfl,i1,hl1,Va,_⟩:=R.list a1 V
    obtain⟨l2,ys,rfl,i2,hl2,Vb,_⟩:=R.list a2 U
    refine call_zip_2 hl1.isList hl2.isList fun h' hz hTI hTO hit1 hit2 hsz hk'=>?_
    obtain⟨N,hN⟩:∃ N,N=s₁.heap.objs.size:=⟨_,rfl⟩
    rw[← hN]at hz hTI hTO hit1 hit2 hsz ⊢
    refine wpAny_pyIter_zip hz ?_
    have lt1:l1<N:=by rw[hN];revert hl1;refine AR ?_;intro _ ho;exact Heap.lt_size ho
    have lt2:l2<N:=by rw[hN];revert hl2;refine AR ?_;intro _ ho;exact Heap.lt_size ho
    have n1:l1≠N:=Nat.ne_of_lt lt1
    have n2:l2≠N:=Nat.ne_of_lt lt2
    have ne:∀ (a:Addr) (d:Nat),a<N->a≠N+d:=fun a d ha=>Nat.ne_of_lt (Nat.lt_of_lt_of_le ha (Nat.le_add_right _ _))
    have df:∀ (a b:Nat),a≠b->N+a≠N+b:=fun a b hab e=>hab (Nat.add_left_cancel e)
    have d0:∀ (a:Nat),a≠0->N+a≠N:=fun a ha e=>ha (Nat.add_left_cancel (n:=N) (by simpa using e))
    have D:ZipApart (N+4) (N+2) (N+3) N (N+1) l1 l2:=⟨df 2 4 (by decide),df 3 4 (by decide),Ne.symm (d0 4 (by decide)),df 1 4 (by decide),df 2 3 (by decide),d0 2 (by decide),df 2 1 (by decide),d0 3 (by decide),df 3 1 (by decide),Ne.symm (d0 1 (by decide)),
     ne l1 4 lt1,ne l1 3 lt1,n1,ne l1 1 lt1,ne l2 4 lt2,ne l2 3 lt2,n2,ne l2 1 lt2⟩
    have hsz':h'.objs.size=N+5:=hsz
    have p2:Post g [] s₁ ρ₁ {s₁ with heap:=h' } ρ₁ σ₁:=.ofKeeps R (Nat.le_refl _) hk' (by show s₁.heap.objs.size<=h'.objs.size;rw[hsz',hN];exact Nat.le_add_right _ _)
    have c2:=c1.next p2
    have hZ:∀ a∈(N+3)::(N+2)::g.Z,a∉g.Z->s₁.heap.objs.size<=a:=fun a ha hz=>by
     rw[← hN]
     rcases List.mem_cons.mp ha with rfl | ha
     ·exact Nat.le_add_right _ _
     ·rcases List.mem_cons.mp ha with rfl | ha
      ·exact Nat.le_add_right _ _
      ·exact absurd ha hz
    have hidZ:∀ z∈(N+3)::(N+2)::g.Z,z<h'.objs.size/\g.B.get? z=none:=fun a ha=>by
     rcases List.mem_cons.mp ha with rfl | ha
     ·exact⟨by rw[hsz'];exact Nat.add_lt_add_left (by decide) _,DI R (by rw[← hN];exact Nat.le_add_right _ _)⟩
     ·rcases List.mem_cons.mp ha with rfl | ha
      ·exact⟨by rw[hsz'];exact Nat.add_lt_add_left (by decide) _,DI R (by rw[← hN];exact Nat.le_add_right _ _)⟩
      ·exact⟨Nat.lt_of_lt_of_le (R.hid a ha).1 (by rw[hsz',hN];exact Nat.le_add_right _ _),(R.hid a ha).2⟩
    have cz:Ctx (g.at ((N+3)::(N+2)::g.Z)) true n A env sc Λ σ₁ ρ₁ {s₁ with heap:=h' }:=⟨c2.ok,c2.room,⟨.inl hh,c2.at_.stk,R.hide hk' hZ hidZ,c2.at_.toks⟩,c1.loc.hide hk' hZ⟩
    have big:∀ a∈[N+4,N+2,N+3,N,N+1],N<=a:=fun a ha=>by
     simp only[List.mem_cons,List.not_mem_nil,or_false]at ha
     rcases ha with rfl | rfl | rfl | rfl | rfl<;>first | exact Nat.le_refl _ | exact Nat.le_add_right _ _
    have back:∀ {T h ρ σ},Rel (g.at ((N+3)::(N+2)::g.Z)) T ρ σ h->Rel g T ρ σ h:=fun{T h ρ σ} Rz=>Rel.re (Z:=(N+3)::(N+2)::g.Z) (Z':=g.Z) (g:=g) (fun a xs _ hz hm=>hz (.tail _ (.tail _ hm))) (fun z hz=>Rz.hid z (.tail _ (.tail _ hz))) Rz
    refine a6p (g:=g.at ((N+3)::(N+2)::g.Z)) (P:=P) (hg.at _) (hT.at _) (fun Z=>hb Z) hk hj D (.head _) (.tail _ (.head _)) cz tp ⟨hz,hTI,⟨_,_,hTO⟩,hit1,hit2⟩ i1 i2 (fun a ha=>?_) hlen q (fun f fl s' ρ' Λ' σ' pz Lz Vz qz=>?_) fun f s' h=>h
    ·exact⟨R.out_fresh (by rw[← hN];exact big a ha),DI R (by rw[← hN];exact big a ha),fun hm=>Nat.lt_irrefl _ (Nat.lt_of_lt_of_le (c1.loc.lt _ hm) (by rw[← hN];exact big a ha))⟩
    ·have pg:Post g (FA env++[N+4,N+3,N,N+1]) {s₁ with heap:=h' } ρ₁ s' ρ' σ':=⟨back pz.rel,pz.grow,pz.toks,pz.same⟩
     have nz:∀ a xs,IsTup s'.heap a xs->a∉(N+3)::(N+2)::g.Z->a∉g.Z:=fun a xs _ hz hm=>hz (.tail _ (.tail _ hm))
     refine hP f fl s' ρ' Λ' σ' (Post.freshF (p₁.trans p2) pg fun a ha=>?_) (LocR.re (g:=g) (Z:=(N+3)::(N+2)::g.Z) (Z':=g.Z) nz Lz) ?_ qz
     ·refine Nat.le_trans p₁.grow.size ?_
      rw[← hN]
      refine big a ?_
      simp only[List.mem_cons,List.not_mem_nil,or_false]at ha ⊢
      rcases ha with h | h | h | h<;>simp[h]
     ·cases Vz with
      | next=>exact .next
      | cont=>exact .cont
      | ret V=>exact .ret (VR.re (g:=g) (Z:=(N+3)::(N+2)::g.Z) (Z':=g.Z) nz V)
   ·exact noS e1
  ·exact noS e1
 ·exact noS e1
end
noncomputable def dfl:List PV:=[.str (Str.ofString "") false,.str (Str.ofString "") false,.none,.str (Str.ofString "") false]
noncomputable def fill(f:Nat)(vs:List PV):List PV:=if f=6 then vs++dfl.drop (vs.length-3)else vs
noncomputable def fillV(dv:List Value)(f:Nat)(xs:List Value):List Value:=if f=6 then xs++dv.drop (xs.length-3)else xs
noncomputable def CM(f m k:Nat):Bool:=if f=6 then k==3||k==4||k==7 else k==m
structure DefObj(g:G)(f:Nat)(ps:List Nat)(sc:List (Str×NameKind))(body:List Stmt)(o:Obj)(fd:FuncData)(dv:List Value):Prop where
 ho:g.B.get? (g.fa f)=some o
 hd:o.data = .func fd
 hcd:g.B.CodeRec fd.code fd.qualname
 hbody:fd.body = .stmts body
 hcl:fd.closure=[]
 hkd:fd.scope.kind = .function
 hco:fd.scope.isCoroutine=false
 hgen:fd.scope.isGenerator=false
 hgl:fd.globals=mainGlobals
 hbl:fd.builtins=builtinsNs
 hnm:fd.scope.names=sc
 hdv:(∀ T h ρ,VRs g T h ρ dfl dv)
 hbind:∀ (xs:List Value) (s:Shared),CM f ps.length xs.length=true->(∀ b o,g.B.get? b=some o->s.heap.get? b=some o)->BindsTo s fd ⟨xs,[]⟩ ((ps.map nm).zip (fillV dv f xs))
structure DefOk(g:G)(f:Nat)(ps:List Nat)(sc:List (Str×NameKind))(body:List Stmt):Prop where
 obj:∃ o fd dv,DefObj g f ps sc body o fd dv
 nodup:(sc.map (·.1)).Nodup
 par:∀ k∈ps,FP sc (nm k)
 psn:ps.Nodup
section
theorem HF:∀ (names:List (Str×NameKind)) (n:Nat) (acc:List (Str×Addr)),(names.map (·.1)).Nodup->(acc.map (·.1)).Nodup->(∀ x∈names,∀ y∈acc,x.1≠y.1)->((cellsFrom n names acc).map (·.1)).Nodup
 | [],_,_,_,h,_=>h
 | (m,k)::r,n,acc,hn,h,hd=>by
  rw[List.map_cons,List.nodup_cons]at hn
  unfold cellsFrom
  split
  ·refine HF r _ _ hn.2 ?_ fun x hx y hy=>?_
   ·rw[List.map_cons,List.nodup_cons]
    refine⟨fun hm=>?_,h⟩
    refine AD ?_<|List.mem_map.mp hm;intro y hy e
    exact hd _ (.head _) y hy e.symm
   ·rcases List.mem_cons.mp hy with rfl | hy
    ·exact fun e=>hn.1 (List.mem_map.mpr ⟨x,hx,e⟩)
    ·exact hd x (.tail _ hx) y hy
  ·exact HF r _ _ hn.2 h fun x hx y hy=>hd x (.tail _ hx) y hy
theorem MN:∀ (names:List (Str×NameKind)) (n:Nat) (acc:List (Str×Addr)) {p},p∈acc->p∈cellsFrom n names acc
 | [],_,_,_,h=>h
 | (m,k)::r,n,acc,p,h=>by
  unfold cellsFrom
  split
  ·exact MN r _ _ (.tail _ h)
  ·exact MN r _ _ h
theorem IA:∀ (names:List (Str×NameKind)) (n:Nat) (acc:List (Str×Addr)) {x:Str},(x,NameKind.cell)∈names->∃ c,(x,c)∈cellsFrom n names acc
 | (m,k)::r,n,acc,x,h=>by
  unfold cellsFrom
  rcases List.mem_cons.mp h with h | h
  ·cases h
   rw[if_pos (by rfl)]
   exact⟨n,MN r _ _ (.head _)⟩
  ·split
   ·exact IA r _ _ h
   ·exact IA r _ _ h
theorem IM{l:List (Str×Addr)}(h:(l.map (·.1)).Nodup){p:Str×Addr}(hp:p∈l):l.lookup p.1=some p.2:=QF hp fun c' hc'=>by
 induction l with
 | nil=>cases hp
 | cons q l ih =>
  rw[List.map_cons,List.nodup_cons]at h
  rcases List.mem_cons.mp hp with e1 | hp'<;>rcases List.mem_cons.mp hc' with e2 | hc'
  ·rw[← e2]at e1;rw[e1]
  ·exact absurd (List.mem_map.mpr ⟨_,hc',by rw[e1]⟩) h.1
  ·exact absurd (List.mem_map.mpr ⟨_,hp',by rw[← e2]⟩) h.1
  ·exact ih h.2 hp' hc'
end
theorem ZG{x:Str}{r:List (Str×Value)}(h:x∉r.map (·.1)):r.lookup x=none:=by
 rw[List.lookup_eq_none_iff]
 intro p hp
 simp only[bne_iff_ne,ne_eq]
 exact fun e=>h (List.mem_map.mpr ⟨p,hp,e.symm⟩)
theorem bindL_one{K:Str->Option NameKind}{n:Str}{v:Value}{m:Str->Option Value}:bindL K [(n,v)] m=if K n=some .local then fun y=>if y=n then some v else m y else m:=rfl
theorem a3e{o:Option Value}{f:Str->Option Value}{x y:Str}{v:Value}(e:¬x=y):o.or (if x=y then some v else f x)=o.or (f x):=by rw[if_neg e]
theorem PA{ko:Str->Option NameKind}{x:Str}(hx:ko x=some .local){l:List (Str×Value)}:∀ {m:Str->Option Value},(l.map (·.1)).Nodup->bindL ko l m x=(l.lookup x).or (m x):=by
 induction l with
 | nil=>intro m _;rfl
 | cons p r ih =>
  obtain⟨y,v⟩:=p
  intro m hn
  rw[List.map_cons,List.nodup_cons]at hn
  show bindL ko r (if ko y=some .local then fun z=>if z=y then some v else m z else m) x=_
  rw[ih hn.2]
  by_cases e:x=y
  ·subst e
   rw[ZG hn.1,List.lookup_cons_self,if_pos hx];exact if_pos rfl
  ·rw[List.lookup_cons,show(x==y)=false by simpa using e]
   split
   ·exact a3e e
   ·rfl
theorem a6r{ko:Str->Option NameKind}{x:Str}(hx:ko x≠some .local){l:List (Str×Value)}:∀ {m:Str->Option Value},(l.map (·.1)).Nodup->bindC ko l m x=(l.lookup x).or (m x):=by
 induction l with
 | nil=>intro m _;rfl
 | cons p r ih =>
  obtain⟨y,v⟩:=p
  intro m hn
  rw[List.map_cons,List.nodup_cons]at hn
  show bindC ko r (if ko y=some .local then m else fun z=>if z=y then some v else m z) x=_
  rw[ih hn.2]
  by_cases e:x=y
  ·subst e
   rw[ZG hn.1,List.lookup_cons_self,if_neg hx];exact if_pos rfl
  ·rw[List.lookup_cons,show(x==y)=false by simpa using e]
   split
   ·rfl
   ·exact a3e e
section
variable {g:G}{fr:Bool}{A:Around}{s s₁ s₂:Shared}{ρ ρ₁ ρ₂:Rho}{σ σ₁ σ₂:St}{E:Value->Shared->Prop}{X:St->Prop}{sc:List (Str×NameKind)}{n:Nat}{env:Env}{Λ Λ₁:Loc}
theorem VU{k j:Nat}{v:PV}{Λ:Loc}:get j (put k v Λ)=if j=k then some v else get j Λ:=get_put k v Λ j
theorem LK{T:Nat}{h:Heap}{k:Nat}{v:PV}:∀ {ps:List Nat} {vs:List PV} {xs:List Value} {Λ:Loc},ps.Nodup->VRs g T h ρ vs xs->get k (puts ps vs Λ)=some v →
  (∃ x,((ps.map nm).zip xs).lookup (nm k)=some x/\VR g T h ρ v x)\/(get k Λ=some v/\((ps.map nm).zip xs).lookup (nm k)=none)
 | [],_,_,_,_,_,e=>.inr ⟨e,rfl⟩
 | p::ps,[],_,_,_,V,e=>.inr ⟨e,by obtain rfl:=V.inv;rfl⟩
 | p::ps,u::vs,_,Λ,hn,V,e=>by
  obtain⟨y,_,rfl,a,r⟩:=V.inv
  rw[List.nodup_cons]at hn
  replace e:get k (puts ps vs (put p u Λ))=some v:=e
  rw[List.map_cons,List.zip_cons_cons]
  by_cases hk:nm k=nm p
  ·have hkp:=JB hk
   subst hkp
   refine .inl ⟨y,List.lookup_cons_self,?_⟩
   rcases LK hn.2 r e with⟨x,h1,_⟩ | ⟨h1,_⟩
   ·have hm:nm k∈ps.map nm:=by
     have:=List.lookup_eq_some_iff.mp h1
     revert this;refine FD ?_;intro l1 l2 h2 _
     have hz:(nm k,x)∈l1++(nm k,x)::l2:=by simp
     rw[← h2]at hz
     exact(List.of_mem_zip hz).1
    refine AD ?_<|List.mem_map.mp hm;intro q hq e2
    exact absurd (JB e2▸hq) hn.1
   ·rw[VU,if_pos rfl]at h1
    replace h1:=sj h1;subst h1;exact a
  ·have hb:(nm k==nm p)=false:=by simpa using hk
   rw[List.lookup_cons,hb]
   rcases LK hn.2 r e with h | ⟨h1,h2⟩
   ·exact .inl h
   ·rw[VU,if_neg fun e=>hk (by rw[e])]at h1
    exact .inr ⟨h1,h2⟩
theorem PB:∀ {ps:List Nat},ps.Nodup->(ps.map nm).Nodup
 | [],_=>.nil
 | p::ps,h=>by
  rw[List.nodup_cons]at h
  rw[List.map_cons,List.nodup_cons]
  exact⟨fun hm=>let⟨q,hq,e⟩:=List.mem_map.mp hm;h.1 (JB e▸hq),PB h.2⟩
theorem MO{α β:Type}:∀ {l:List α} {xs:List β},l.Nodup->((l.zip xs).map (·.1)).Nodup
 | [],_,_=>.nil
 | _::_,[],_=>.nil
 | a::l,x::xs,h=>by
  rw[List.nodup_cons]at h
  rw[List.zip_cons_cons,List.map_cons,List.nodup_cons]
  refine⟨fun hm=>?_,MO h.2⟩
  refine AD ?_<|List.mem_map.mp hm;rintro⟨b,y⟩ hb e
  have:=(List.of_mem_zip hb).1
  exact h.1 (by simp only at e;rw[← e];exact this)
theorem VV{T:Nat}{h:Heap}{f:Nat}{vs:List PV}{xs dv:List Value}(D:VRs g T h ρ dfl dv)(V:VRs g T h ρ vs xs):VRs g T h ρ (fill f vs) (fillV dv f xs):=by
 unfold fill fillV
 split
 ·rw[← V.length];exact V.append (D.drop _)
 ·exact V
noncomputable abbrev Leaves(g:G):Prop:=∀ {A:Around} {env:Env} {F:List Addr} {s s':Shared} {ρ ρ':Rho} {σ':St} {x:Value} {Z:Value->Shared->Prop} {E:Value->Shared->Prop},(∃ l,A.frames=some l)->env.frame=some env.locals->XPost g (A.deeper env) F s ρ s' ρ' σ' x->(∀ s'',XPost g A (env.locals::F) s ρ s'' ρ' σ' x->Z x s'') →
 wpAny (model g.prog g.w) (A.deeper env) (leaving env x) (fun _ s''=>Z x s'') E s'
theorem PC{s':Shared}{fd:FuncData}{a:Addr}{ps:List Nat}{vs:List PV}{xs:List Value}(c:At g fr A σ ρ s)(ht:s.toks<=s'.toks)(hsz:s.heap.objs.size<=s'.heap.objs.size)
  (hcl:fd.closure=[]) (hkd:fd.scope.kind = .function) (hgl:fd.globals=mainGlobals) (hbl:fd.builtins=builtinsNs) (hnm:fd.scope.names=sc) (hnd:(sc.map (·.1)).Nodup) (hpar:∀ k∈ps,FP sc (nm k)) (hps:ps.Nodup) (V:VRs g s.toks s.heap ρ vs xs)
  (x:InCallC s (callEnvC fd s.heap.objs.size a).locals (bindL (callEnvC fd s.heap.objs.size a).kindOf ((ps.map nm).zip xs) fun _=>none) (callEnvC fd s.heap.objs.size a).cells (bindC (callEnvC fd s.heap.objs.size a).kindOf ((ps.map nm).zip xs) fun _=>none) s') :
  EnvOk sc (callEnvC fd s.heap.objs.size a)/\Post g [] s ρ s' ρ σ/\LocR g s'.toks (callEnvC fd s.heap.objs.size a) (puts ps vs []) ρ s'.heap/\∀ b∈FA (callEnvC fd s.heap.objs.size a),s.heap.objs.size<=b:=by
 have R:=c.rel
 obtain⟨h1,tk,he⟩:=x.toInCall.same
 have hcells:∀ nn cl,(nn,cl)∈(callEnvC fd s.heap.objs.size a).cells->s.heap.objs.size<cl:=fun nn cl h=>x.above nn cl h
 have keysN:((callEnvC fd s.heap.objs.size a).cells.map (·.1)).Nodup:=HF _ _ _ (by rw[hnm];exact hnd) .nil fun _ _ _ hy=>by cases hy
 have kof:∀ id,(callEnvC fd s.heap.objs.size a).kindOf id=sc.lookup id:=fun id=>by show fd.scope.names.lookup id=_;rw[hnm]
 have envok:EnvOk sc (callEnvC fd s.heap.objs.size a):=⟨hnm,hkd,hgl,hbl,fun id hid=>by
  have hm:(id,NameKind.cell)∈fd.scope.names:=by rw[hnm];exact FT hid
  refine AR ?_<|IA fd.scope.names (s.heap.objs.size+1) [] hm;intro cl hc
  exact⟨cl,IM keysN hc⟩⟩
 have low:∀ b∈FA (callEnvC fd s.heap.objs.size a),s.heap.objs.size<=b:=fun b hb=>by
  rcases List.mem_cons.mp hb with rfl | hb
  ·exact x.toInCall.fresh
  ·refine AD ?_<|List.mem_map.mp hb;rintro⟨nn,cl⟩ hc rfl
   exact Nat.le_of_lt (hcells nn cl hc)
 have p:Post g [] s ρ s' ρ σ:=by
  have:=Post.ofKeeps (g:=g) (F:=[]) R (h':=s'.heap) (k:=s'.toks) ht x.toInCall.keep hsz
  have e:s'={s with heap:=s'.heap,toks:=s'.toks }:=by rw[he]
  rw[e];exact this
 have V':=V.next R p
 have nodupB:(((ps.map nm).zip xs).map (·.1)).Nodup:=MO (PB hps)
 refine⟨envok,p,⟨⟨_,x.toInCall.ns,fun k v e hk=>?_⟩,fun k v e hk=>?_,fun nn cl hc=>⟨_,x.cell nn cl (IM keysN hc)⟩,x.apart,fun nn cl hc=>?_,fun b hb=>⟨R.out_fresh (low b hb),DI R (low b hb)⟩⟩,low⟩
 ·rcases LK hps V' e with⟨y,h2,h3⟩ | ⟨h2,_⟩
  ·exact⟨y,by rw[PA hk nodupB,h2];rfl,h3⟩
  ·exact noS h2
 ·rcases LK hps V' e with⟨y,h2,h3⟩ | ⟨h2,_⟩
  ·have hm:nm k∈ps.map nm:=by
    refine FD ?_<|List.lookup_eq_some_iff.mp h2;intro l1 l2 h4 _
    have:(nm k,y)∈(ps.map nm).zip xs:=by rw[h4];simp
    exact(List.of_mem_zip this).1
   refine AD ?_<|List.mem_map.mp hm;intro q hq e2
   have hv:=hpar q hq
   rw[e2]at hv
   rw[kof]at hk
   rcases hv with hv | hv
   ·exact absurd hv hk
   ·refine AR ?_<|envok.cells _ hv;intro cl hcl
    refine⟨cl,y,hcl,?_,h3⟩
    have:=x.cell _ _ hcl
    rw[a6r (by rw[kof,hv];decide) nodupB,h2]at this
    exact this
  ·exact noS h2
 ·exact Nat.ne_of_gt (hcells nn cl hc)
theorem a6s(hg:Ok g)(hleave:Leaves g){f:Nat}{ps:List Nat}{body:List Stmt}{mb:List MS}{T:Tb}{vs:List PV}{Q:PV->St->Prop}(D:DefOk g f ps sc body)(hb:EM g sc body mb)(hT:TOk g fr n T)(hlen:CM f ps.length vs.length=true)
  (h:AN T mb (puts ps (fill f vs) []) σ (fun fl _ σ=>match fl with | .ret v=>Q v σ | .next=>Q .none σ | .cont=>False) X):JM g fr (n+1) f vs σ Q X:=by
 intro A ρ s xs R hroom c V hQ hX
 obtain⟨o,fd,dv,ho,hd,hcd,hbody,hcl,hkd,hco,hgen,hgl,hbl,hnm,hdv,hbind⟩:=D.obj
 have R0:=c.rel
 have hlim:s.heap.NoLimit:=hg.lim.keeps R0.base
 have hdep:A.depth<recursionLimit:=by have:=hroom.1;lia
 refine codeAny_call_function hdep (R0.base _ _ ho) hd hco hgen hbody (hcd.keeps R0.base) ?_
 refine hbind xs s (by rw[← V.length];exact hlen) R0.base _ _ _ _ ?_
 rw[hcl]
 have V0:=VV (f:=f) (hdv _ _ _) V
 refine wpAny_with_toks (n:=s.toks) (Nat.le_refl _) (DV ?_)
 refine wpAny_newFunctionEnv_cells hkd (fun x hx=>?_) fun env he s' x=>?_
 ·refine AD ?_ (List.mem_map.mp (List.of_mem_zip (a:=x.1) (b:=x.2) (by exact hx)).1);intro k hk e
  have hv:=D.par k hk
  rw[hnm,← e]
  rcases hv with hv | hv
  ·exact .inl hv
  ·refine .inr ⟨hv,?_⟩
   refine AR ?_<|IA sc (s.heap.objs.size+1) [] (FT hv);intro cl hc
   have kn:((cellsFrom (s.heap.objs.size+1) sc []).map (·.1)).Nodup:=HF _ _ _ D.nodup .nil fun _ _ _ hy=>by cases hy
   have:=IM kn hc
   simp only at this
   rw[this];rfl
 ·intro hsz ht
  subst he
  have hsz':s.heap.objs.size<=s'.heap.objs.size:=hsz
  refine oA4 ?_<|PC (fd:=fd) (a:=g.fa f) (ps:=ps) (xs:=fillV dv f xs) c ht hsz' hcl hkd hgl hbl hnm D.nodup D.par D.psn V0 x;intro envok p L low
  refine⟨hlim.keeps x.toInCall.keep,codeAny_func ?_⟩
  obtain⟨l,hl,hfr⟩:=c.stk
  have hl':(A.deeper (callEnvC fd s.heap.objs.size (g.fa f))).frames=some (callEnvC fd s.heap.objs.size (g.fa f)::l):=by
   show A.frames.map _=_
   rw[hl];rfl
  have c1:=c.next0 p
  have cx:Ctx g fr n (A.deeper (callEnvC fd s.heap.objs.size (g.fa f))) (callEnvC fd s.heap.objs.size (g.fa f)) sc (puts ps (fill f vs) []) σ ρ s':=by
   refine⟨envok,⟨?_,?_⟩,⟨c1.hand,⟨_,hl',fun e he=>?_⟩,c1.rel,c1.toks⟩,L⟩
   ·show A.depth+1+3*n+3<=_;have:=hroom.1;lia
   ·show A.units+3+20*n+100<=_;have:=hroom.2;lia
   ·rcases List.mem_cons.mp he with rfl | he
    ·have:=L.out _ (.head _)
     exact⟨by rw[envok.kind];decide,_,rfl,this.1,this.2,.ns x.toInCall.ns⟩
    ·obtain⟨lf,hlf,hff⟩:=c1.stk
     rw[hl]at hlf;replace hlf:=sj hlf;subst hlf
     exact hff e he
  have tp:Top (A.deeper (callEnvC fd s.heap.objs.size (g.fa f))) (callEnvC fd s.heap.objs.size (g.fa f)):=⟨l,_,hl',rfl⟩
  refine hb hT cx tp h (fun fl f' s'' ρ' Λ' σ' p' L' V' q=>?_) fun e s'' ρ' σ' px hx=>?_
  ·have pp:Post g [] s ρ s'' ρ' σ':=Post.freshF (F:=[]) (G':=FA (callEnvC fd s.heap.objs.size (g.fa f))) p (by rw[List.nil_append];exact p') low
   cases V' with
   | next=>exact hQ _ _ _ _ _ pp .none q
   | cont=>exact q.elim
   | ret W=>exact hQ _ _ _ _ _ pp W q
  ·refine hleave (Z:=fun x s3=>R (.error x) s3) ⟨l,hl⟩ rfl px fun s3 px3=>hX e s3 ρ' σ' ?_ hx
   refine XPost.freshF (F:=[]) (G':=FA (callEnvC fd s.heap.objs.size (g.fa f))) p (px3.wider fun b hb=>?_) low
   rcases List.mem_cons.mp hb with rfl | hb
   ·exact .head _
   ·exact hb
end
noncomputable def Tr(Bx h:Heap)(e:Addr)(cls fl:Value):Prop:=∃ oe vs T oT ts,h.get? e=some oe/\oe.cls=cls/\oe.data = .fields vs/\vs.size=6/\vs[2]? = some .none/\vs[1]? = some (.ref T)/\Bx.get? T=none/\T≠e/\h.get? T=some oT/\oT.data = .fields ts/\ts[3]? = some fl
structure Stand(Bx:Heap)(l:List Env)(h h':Heap):Prop where
 stays:Bx.StaysIn h'
 frames:h'.FunFrames Bx l
 up:h.UpToSlots h'
section
variable {M:Model}{A:Around}{E:Value->Shared->Prop}{s:Shared}{Bx:Heap}{env:Env}{outer:List Env}{e L:Addr}{cls:Value}
theorem RY{h:Heap}{a:Addr}{o:Obj}{vs:Array Value}{i:Nat}{x:Value}{l:List Env}(ho:h.get? a=some o)(hd:o.data = .fields vs)(hB:Bx.StaysIn h)(ha:Bx.get? a=none)(hf:h.FunFrames Bx l):Stand Bx l h (h.update a (Obj.mapFields (·.setIfInBounds i x))):=by
 have ne:∀ b ob,h.get? b=some ob->(∀ ws,ob.data≠.fields ws)->b≠a:=fun b ob e n q=>by
  rw[q,ho]at e;replace e:=sj e;subst e;exact n vs hd
 have k:∀ b,b≠a->(h.update a (Obj.mapFields (·.setIfInBounds i x))).get? b=h.get? b:=fun b hb=>Heap.get?_update_other _ _ (Ne.symm hb)
 exact⟨fun b ob e=>(k b fun q=>by rw[q,ha]at e;exact noS e).trans (hB b ob e),hf.of_keeps fun b ob e n=>⟨ob,(k b (ne b ob e n)).trans e,rfl⟩,fun b ob e n=>⟨ob.slots,(k b (ne b ob e n)).trans e⟩⟩
theorem Stand.trans{l:List Env}{h h' h'':Heap}(a:Stand Bx l h h')(b:Stand Bx l h' h''):Stand Bx l h h'':=⟨b.stays,b.frames,a.up.trans b.up⟩
theorem VW{oe:Obj}{vs:Array Value}{head:Value}{hn:Bool}{Q:Unit->Shared->Prop}(hfr:A.frames=some (env::outer))(hl:s.heap.FunFrames Bx (env::outer))(hf:env.frame=some L)
  (he:s.heap.get? e=some oe) (hB:Bx.StaysIn s.heap) (heB:Bx.get? e=none) (hd:oe.data = .fields vs) (hz:vs.size=6) (h2:vs[2]? = some .none)
  (h:∀ h',Stand Bx (env::outer) s.heap h'->Tr Bx h' e oe.cls (rawInt L)->Q () {s with heap:=h' }) :
  wpAny M A (do let a ← frameOf env;let pl ← entryPlaceOf L hn;let b ← EntryCells.newEntry head a .none (rawInt L) .none pl;setField (.ref e) 1 b) Q E s:=by
 have notFr:e∉(env::outer).filterMap (·.frame):=fun hm=>by
  obtain⟨_,o,ho,n⟩:=hl.mem hm
  rw[he]at ho;replace ho:=sj ho;subst ho;exact n vs hd
 refine wpAny_bind (wpAny_frameOf_fun hfr hl hf fun h₁ hs₁=>wpAny_bind (wpAny_entryPlaceOf fun pl hpl=>?_))
 unfold EntryCells.newEntry newFields
 refine wpAny_bind (wpAny_newObj_type ?_ (hpl.sizeOk5 _ _ _ _ _))
 have S1:Stand Bx (env::outer) s.heap h₁:=⟨fun b o hb=>(hs₁.2.1 b fun hm=>by rw[(hl.mem hm).1]at hb;exact noS hb).trans (hB b o hb),hl.of_slotsOnly hs₁,fun b o hb _=>hs₁.2.2 b o hb⟩
 have he₁:h₁.get? e=some oe:=(hs₁.2.1 e notFr).trans he
 generalize hT:(⟨.type "traceback",none,.fields ([head,.ref L,.none,rawInt L,.none]++(if pl.isEmpty then List.replicate 6 Value.none else pl)).toArray,#[]⟩:Obj)=tb
 have tbd:tb.data = .fields ([head,.ref L,.none,rawInt L,.none]++(if pl.isEmpty then List.replicate 6 Value.none else pl)).toArray:=by rw[← hT]
 have tbf:tb.isFreed=false:=by rw[← hT];rfl
 have S2:Stand Bx (env::outer) s.heap (h₁.push tb):=S1.trans ⟨fun b o hb=>Heap.get?_push_of_some _ (S1.stays b o hb),S1.frames.of_keeps fun b o hb _=>⟨o,Heap.get?_push_of_some _ hb,rfl⟩,.of_keeps fun b o hb=>Heap.get?_push_of_some _ hb⟩
 have he₂:(h₁.push tb).get? e=some oe:=Heap.get?_push_of_some _ he₁
 refine wpAny_setField he₂ hd (by lia) (h _ (S2.trans (RY he₂ hd S2.stays heB S2.frames)) ?_)
 have hTe:h₁.objs.size≠e:=Nat.ne_of_gt (Heap.lt_size he₁)
 refine⟨_,_,h₁.objs.size,tb,_,Heap.get?_update_self _ he₂ (Obj.isFreed_of_fields (Obj.data_mapFields hd _)),Obj.cls_mapFields ..,Obj.data_mapFields hd _,by simp[hz],?_,?_,S1.stays.fresh,hTe,(Heap.get?_update_other _ _ (Ne.symm hTe)).trans (Heap.get?_push_size _ tbf),tbd,?_⟩
 ·rw[Array.getElem?_setIfInBounds_ne (by decide)];exact h2
 ·simp[hz]
 ·simp
theorem RZ{Q:Unit->Shared->Prop}(hfr:A.frames=some (env::outer))(F:Fly Bx (env::outer) e cls s.heap)(hf:env.frame=some L)(h:∀ h',Stand Bx (env::outer) s.heap h'->Tr Bx h' e cls (rawInt L)->Q () {s with heap:=h' }) :
  wpAny M A (noteFrame (.ref e) env) Q E s:=by
 obtain⟨oe,vs,he,hc,hd,hz,h2,hT⟩:=F.obj
 subst hc
 unfold noteFrame
 simp only[hf]
 rcases hT with h1 | ⟨T,oT,ts,h1,hTB,hTe,hT,hdT,h3⟩
 ·refine wpAny_bind (wpAny_field he hd h1 ?_)
  rw[if_neg (by decide)]
  exact VW hfr F.frames hf he F.stays F.new hd hz h2 h
 ·refine wpAny_bind (wpAny_field he hd h1 ?_)
  rw[if_pos (show(Value.ref T != Value.none)=true from by simp)]
  rcases h3 with h3 | ⟨env',L',r,hl,hf',h3⟩
  ·refine wpAny_bind (wpAny_field hT hdT h3 ?_)
   rw[if_neg (show ¬ ((Value.none==rawInt L)=true) from by simp[rawInt])]
   refine wpAny_bind (wpAny_setField hT hdT (Array.getElem?_eq_some_iff.mp h3).1 ?_)
   have S:=RY (i:=3) (x:=.none) hT hdT F.stays hTB F.frames
   have he':(s.heap.update T (Obj.mapFields (·.setIfInBounds 3 .none))).get? e=some oe:=(Heap.get?_update_other _ _ hTe).trans he
   exact VW hfr S.frames hf he' S.stays F.new hd hz h2 fun h' S' t=>h h' (S.trans S') t
  ·cases hl
   rw[hf]at hf';replace hf':=sj hf';subst hf'
   refine wpAny_bind (wpAny_field hT hdT h3 ?_)
   rw[if_pos (by simp[rawInt])]
   exact wpAny_pure (h s.heap ⟨F.stays,F.frames,.refl _⟩ ⟨oe,vs,T,oT,ts,he,rfl,hd,hz,h2,h1,hTB,hTe,hT,hdT,h3⟩)
theorem JU{fl:Value}{l:List Env}{x:Option Addr}{Q:Unit->Shared->Prop}(hB:Bx.StaysIn s.heap)(hl:s.heap.FunFrames Bx l)(t:Tr Bx s.heap e cls fl)
  (h:∀ h',Stand Bx l s.heap h'->Tr Bx h' e cls (x.elim .none fun f=>rawInt f)->Q () {s with heap:=h' }):wpAny M A (setFlight (.ref e) x) Q E s:=by
 obtain⟨oe,vs,T,oT,ts,he,hc,hd,hz,h2,h1,hTB,hTe,hT,hdT,h3⟩:=t
 have h3z:3<ts.size:=(Array.getElem?_eq_some_iff.mp h3).1
 unfold setFlight
 refine wpAny_bind (wpAny_field he hd h1 ?_)
 rw[if_pos (show(Value.ref T != Value.none)=true from by simp)]
 refine wpAny_setField hT hdT h3z (h _ (RY hT hdT hB hTB hl) ?_)
 exact⟨oe,vs,T,_,_,(Heap.get?_update_other _ _ hTe).trans he,hc,hd,hz,h2,h1,hTB,hTe,Heap.get?_update_self _ hT (Obj.isFreed_of_fields (Obj.data_mapFields hdT _)),Obj.data_mapFields hdT _,by simp[h3z]⟩
theorem a6t{Q:Unit->Shared->Prop}(hfr:A.frames=some (env::outer))(F:Fly Bx (env::outer) e cls s.heap)(hf:env.frame=some L)(h:∀ h',s.heap.UpToSlots h'->Fly Bx outer e cls h'->Q () {s with heap:=h' }) :
  wpAny M A (leaving env (.ref e)) Q E s:=by
 unfold leaving
 refine wpAny_bind (RZ hfr F hf fun h₁ S₁ t₁=>JU (s:={s with heap:=h₁ }) S₁.stays S₁.frames t₁ fun h₂ S₂ t₂=>?_)
 obtain⟨oe,vs,T,oT,ts,he,hc,hd,hz,h2,h1,hTB,hTe,hT,hdT,h3⟩:=t₂
 exact h h₂ (S₁.up.trans S₂.up) ⟨S₂.stays,F.new,S₂.frames.2.2,oe,vs,he,hc,hd,hz,h2,.inr ⟨T,oT,ts,h1,hTB,hTe,hT,hdT,.inl h3⟩⟩
theorem b1s{Z:Value->Shared->Prop}(hfr:A.frames=some (env::outer))(F:Fly Bx (env::outer) e cls s.heap)(hf:env.frame=some L)(h:∀ h',s.heap.UpToSlots h'->Fly Bx (env::outer) e cls h'->Z (.ref e) {s with heap:=h' }) :
  notedBy M A env (cameBackBy M A env Z) (.ref e) s:=by
 unfold notedBy cameBackBy
 refine RZ hfr F hf fun h₁ S₁ t₁=>?_
 have t₁':=t₁
 obtain⟨oe,vs,T,oT,ts,he,hc,hd,hz,h2,h1,_⟩:=t₁
 refine wpAny_bind (wpAny_field (s:={s with heap:=h₁ }) he hd h1 ?_)
 rw[if_neg (show ¬ ((Value.ref T==Value.none)=true) from by simp)]
 refine JU (s:={s with heap:=h₁ }) (x:=env.frame) S₁.stays S₁.frames t₁' fun h₂ S₂ t₂=>?_
 obtain⟨oe,vs,T,oT,ts,he,hc,hd,hz,h2,h1,hTB,hTe,hT,hdT,h3⟩:=t₂
 rw[hf]at h3
 exact h h₂ (S₁.up.trans S₂.up) ⟨S₂.stays,F.new,S₂.frames,oe,vs,he,hc,hd,hz,h2,.inr ⟨T,oT,ts,h1,hTB,hTe,hT,hdT,.inr ⟨env,L,outer,rfl,hf,h3⟩⟩⟩
end
section
variable {g:G}
theorem ZH{h h' h'':Heap}{ρ:Rho}{F:List Addr}(k:∀ b o,h.get? b=some o->Out ρ b->b∉F->(∀ vs,o.data≠.fields vs)->∃ sl,h'.get? b=some {o with slots:=sl })(u:h'.UpToSlots h'') :
  ∀ b o,h.get? b=some o->Out ρ b->b∉F->(∀ vs,o.data≠.fields vs)->∃ sl,h''.get? b=some {o with slots:=sl }:=fun b o h1 h2 h3 h4=>by
 refine AR ?_<|k b o h1 h2 h3 h4;intro sl e
 refine AR ?_<|u b _ e h4;intro sl' e'
 exact⟨sl',e'⟩
theorem leaves:Leaves g:=by
 intro A env F s s' ρ ρ' σ' x Z E ⟨l,hl⟩ hf p hZ
 obtain⟨e,l',Bx,rfl,hl',hF,hR,hk⟩:=p.fly
 have hd:(A.deeper env).frames=some (env::l):=by show A.frames.map _=_;rw[hl];rfl
 rw[hd]at hl';replace hl':=sj hl';subst hl'
 refine a6t hd hF hf fun h' hu hF'=>hZ _ ⟨⟨e,l,Bx,rfl,hl,hF',hR,fun b o h1 h2 h3 h4=>hk b o h1 h2 (fun hm=>h3 (.tail _ hm)) fun hm=>?_⟩,ZH (fun b o h1 h2 h3 h4=>p.keep b o h1 h2 (fun hm=>h3 (.tail _ hm)) h4) hu,p.ext,p.toks,⟨p.same.gens,p.same.drawn,p.same.os⟩⟩
 unfold DM at hm
 rw[List.filterMap_cons,hf]at hm
 rcases List.mem_cons.mp hm with rfl | hm
 ·exact h3 (.head _)
 ·exact h4 hm
theorem passes:∀ A env,Top A env->Passes g A env:=by
 intro A env ⟨outer,L,hfr,hf⟩ F s s' ρ ρ' σ' x E p hE
 obtain⟨e,l',Bx,rfl,hl',hF,hR,hk⟩:=p.fly
 have hl2:=hl'
 rw[hfr]at hl2;replace hl2:=sj hl2;subst hl2
 exact b1s hfr hF hf fun h' hu hF'=>hE _ ⟨⟨e,_,Bx,rfl,hl',hF',hR,hk⟩,ZH p.keep hu,p.ext,p.toks,⟨p.same.gens,p.same.drawn,p.same.os⟩⟩
end
end Mine
end
section
open PySem PySem.W PyProof.Rows PySem.Calls Builtin Builtin.ObjectAttr
set_option maxRecDepth 100000
namespace Mine
set_option tactic.hygienic false
noncomputable abbrev IN(G:Addr):List Value:=[.ref G,.type "Exception",.type "BaseException",.type "object"]
noncomputable abbrev SA(C:Addr):Obj:=excClassObj (Str.ofString "BadConfig") (Str.ofString "BadConfig") C 63 [.ref 39] (IN 39) true [] [] false none none (some (.ref 55)) none (some (.str (Str.ofString "BadConfig") 242)) (some (.str (Str.ofString "BadConfig") 250)) (some (.bool true)) "Exception.__new__"
section
variable {prog:Program}{w:World}{A:Around}{R:Result->Shared->Prop}{h:Heap}{g:Array GenState}{d:Drawn}{t:Nat}{os:OsState}
variable {nm q:Str}{C N G:Addr}{bs:List Value}{sn:List Str}{sub:List Value}{ab:Bool}{col:Option Bool}{dd:Option Addr}{k0 k1 k2 k3 k5:Option Value}
noncomputable abbrev JE(rest:List Value):Obj:={cls:=.type "tuple",data:=.seq rest.toArray }
noncomputable abbrev DC(C t:Addr)(od:Option Addr):Obj:={cls:=.ref C,dict:=od,data:=.fields #[.ref t,.none,.none,.none,.bool false,.none] }
theorem a3f{M:Model}{rest:List Value}{E:Value->Shared->Prop}{Q:Unit->Shared->Prop}(hC:h.get? C=some (SA C))
  (hq:Q () ⟨h,g,d,t,os⟩):wpAny M A (checkBuiltinCall "Exception.__new__" ⟨.ref C::rest,[]⟩) Q E ⟨h,g,d,t,os⟩ :=
 PySem.wpAny_check_new_subU PySem.F.excBase_Exception rfl .base hC hq
theorem b1t{rest:List Value}(hC:h.get? C=some (SA C))
  (hq:R (.ok (.ret (.ref (h.objs.size+1)))) ⟨(h.push (JE rest)).push (DC C h.objs.size none),g,d,t,os⟩) (hrest:rest.length<=sizeLine) :
  codeAny (model prog w) A (.builtin "Exception.__new__" ⟨.ref C::rest,[]⟩) R ⟨h,g,d,t,os⟩:=by
 have F:=PySem.F.excBase_Exception
 have hends:=F.ends
 have hcB:(Value.ref C::IN 39).contains (.type "Exception")=true:=by rfl
 have hcA:(Value.ref C::IN 39).contains (.type "AttributeError")=false:=by rfl
 have hcN:(Value.ref C::IN 39).contains (.type "NameError")=false:=by rfl
 refine PySem.codeAny_builtinAt F.entry ?_
 unfold Builtin.«BaseException.__new__»
 refine PySem.wpAt_bind ?_
 show PySem.wpAt _ _ _ (stack >>= _) _ _ _
 refine PySem.wpAt_bind (PySem.wpAt_stack fun p below=>PySem.wpAt_of_wpAny ?_)
 wp_walk
 refine PySem.wpAt_of_wpAny ?_
 rw[F.owner]
 repeat (first | with_reducible refine wpAny_madeHere_exc F.canon hC ?_ | with_reducible refine wpAny_loadPart_at hC ?_ | (with_reducible refine wpAny_isSubtype_exc hC ?_;first | rw[hcB] | rw[hcA] | rw[hcN]) | wp_step)
 show R _ _
 rw[Heap.size_push]
 exact hq
theorem a6u{rest:List Value}{init:Value}(hC:h.get? C=some (SA C))
  (call:Looks (model prog w) h (specialOf (.ref C) "__call__") (some (.builtin "type.__call__"))) (typ:Looks (model prog w) h (isInstance (.ref C) (.type "type")) true)
  (hi:Looks (model prog w) h (typeLookup (.ref C) "__init__") (some init))
  (hb:∀ self,Looks (model prog w) h (bindSpecial init self) (init,[self])) (hrest:rest.length<=sizeLine)
  (hq:codeAny (model prog w) (A.under (.builtin "type.__call__" ⟨.ref C::rest,[]⟩)) (.call init ⟨.ref (h.objs.size+1)::rest,[]⟩) (InitBack (h.objs.size+1) R) ⟨(h.push (JE rest)).push (DC C h.objs.size none),g,d,t,os⟩) :
  codeAny (model prog w) A (.call (.ref C) ⟨rest,[]⟩) R ⟨h,g,d,t,os⟩:=by
 have F:=PySem.F.excBase_Exception
 have made:Looks (model prog w) h (Bind.madeBy (.ref C)) (some "Exception.__new__"):=fun A Q E s k q=>by
  obtain⟨h',g',d',t',os'⟩:=s
  exact wpAny_madeBy_exc (k _ _ hC) q
 have self:Looks (model prog w) h (isSubtype (.ref C) (.ref C)) true:=fun A Q E s k q=>by
  obtain⟨h',g',d',t',os'⟩:=s
  refine wpAny_isSubtype_exc (k _ _ hC) ?_
  have:(Value.ref C::IN 39).contains (.ref C)=true:=by simp
  rw[this];exact q
 have hm:Looks (model prog w) h (mroOf (.ref C)) (.ref C::IN 39):=fun A Q E s k q=>by
  obtain⟨h',g',d',t',os'⟩:=s
  exact wpAny_mroOf_exc (k _ _ hC) q
 refine codeAny_of_tree ?_
 show wpAny _ _ (callAny (.ref C) _) _ _ _
 refine nd_load hC ?_
 show wpAny _ _ (callAny.viaDunder (.ref C) _) _ _ _
 unfold callAny.viaDunder
 refine wpAny_bind (call.at ?_)
 dsimp only
 rw[tc_bind]
 refine wpAny_bind (wpAny_pure (wpAny_bind (wpAny_pure ?_)))
 refine wpAny_pure (a:=Fin.again (.call (.builtin "type.__call__") ⟨.ref C::rest,[]⟩)) (And.intro rfl ?_)
 refine codeAny_call_builtin_at (Code.quiet_builtin _ (by decide +kernel)) entry_typeCall (check_slot tc_kind tc_split typ (tc_args _ _ _) ?_)
 unfold Builtin.«type.__call__»
 repeat (first | simp only[List.isEmpty_cons,Bool.false_eq_true,if_false] | with_reducible refine wpAny_call ?_ | lk)
 refine codeAny_call_builtin_code (Code.quiet_builtin _ F.quiet) (a3f hC ?_)
 refine b1t hC ?_ hrest
 have k:∀ b o,h.get? b=some o->((h.push (JE rest)).push (DC C h.objs.size none)).get? b=some o:=fun b o e=>Heap.get?_push_of_some _ (Heap.get?_push_of_some _ e)
 have hx:((h.push (JE rest)).push (DC C h.objs.size none)).get? (h.objs.size+1)=some (DC C h.objs.size none):=by heap_get
 have t1:Looks (model prog w) ((h.push (JE rest)).push (DC C h.objs.size none)) (typeOf (.ref (h.objs.size+1))) (.ref C):=(Looks.ld hx).andThen .now
 have s1:=self.keeps k
 have i1:=hi.keeps k
 have b1:=(hb (.ref (h.objs.size+1))).keeps k
 unfold isInstance callSpecial? specialOf
 repeat (first | with_reducible refine wpAny_call ?_ | lk)
 refine codeAny_mono hq fun r s' z=>?_
 rcases r with e | (v | _ | _ | _)<;>first | exact z | exact z.elim | skip
 revert z;refine oA2 ?_;rintro rfl z
 exact wpAny_pure (wpAny_pure z)
end
section
variable {prog:Program}{w:World}{A:Around}{R:Result->Shared->Prop}{E:Value->Shared->Prop}{K:Frag}
variable {nm q:Str}{C N G x t0:Addr}{bs:List Value}{sn:List Str}{sub:List Value}{ab:Bool}{col:Option Bool}{dd:Option Addr}{k0 k1 k2 k3 k5:Option Value}{s:Shared}
theorem a3g{name:Str}{v:Value}{Q:Unit->Shared->Prop}(X:K.In s.heap)(hC:K.lookup C=some (SA C))
  (hs:findIn K (.ref C) "__setattr__"=some (some (.builtin "object.__setattr__"))) (ht:findIn K (.ref C) name=some none) (hx:s.heap.get? x=some (DC C t0 none))
  (hQ:∀ h' tk,s.toks<=tk->(∀ b o,b≠x->s.heap.get? b=some o->h'.get? b=some o)->(∃ d,h'.get? x=some (DC C t0 (some d)))->s.heap.objs.size<=h'.objs.size->Q () {s with heap:=h',toks:=tk }) :
  wpAny (model prog w) A (PySem.setAttr (.ref x) name v) Q E s:=by
 have I:InstAt s.heap x (DC C t0 none) C none:=⟨hx,rfl,rfl,trivial⟩
 refine set_plain X I hs ?_
 have SF:=PySem.F.store_object
 obtain⟨cd,hc,hmro,hdict⟩:∃ cd,clsIn K C=some cd/\cd.mro = .ref C::IN 39/\cd.hasDict=true:=⟨_,by unfold clsIn;rw[hC],rfl,rfl⟩
 have X':K.In ({s with toks:=s.toks+1 }:Shared).heap:=X
 have I':InstAt ({s with toks:=s.toks+1 }:Shared).heap x (DC C t0 none) C none:=I
 have hsub:Looks (model prog w) s.heap (isInstance (.ref x) (.type "object")) true:=I.type.andThen (looks_mroIn X (by unfold mroIn;rw[hc,Option.bind_some,hmro];rfl))
 refine codeAny_call_builtin SF.slot.plain SF.entry (@check_slot (model prog w) _ _ {s with toks:=s.toks+1 } "object.__setattr__" "object" "__setattr__" (.ref x) [.str name s.toks,v] [] _ SF.kind SF.split hsub (SF.args (.ref x) (.str name s.toks) v) ?_)
 have hm:Looks (model prog w) s.heap (mroOf (.ref C)) (.ref C::IN 39):=by rw[← hmro];exact(looks_clsIn X hc).andThen .now
 rw[osa_eq,refuse_eq]
 refine wpAny_bind (wpAny_bind (I'.type.here (wpAny_bind (hm.here (s:={s with toks:=s.toks+1 }) ?_))))
 rw[refuseLoop_ref,refuseLoop_ref,PySem.F.store_Exception.passes]
 refine wpAny_pure (wpAny_bind (I'.type.here (wpAny_bind ((looks_findIn X' ht).here (wpAny_bind (wpAny_pure ?_))))))
 refine wpAny_bind (wpAny_pure (wpAny_bind (wpAny_bind (wpAny_loadPart hx (wpAny_bind ((looks_clsIn X' hc).here ?_))))))
 rw[hdict]
 have hxs:x≠s.heap.objs.size:=Nat.ne_of_lt (Heap.lt_size hx)
 have hx₁:(s.heap.push {cls:=.type "dict",data:=.dict #[] }).get? x=some (DC C t0 none):=Heap.get?_push_of_some _ hx
 have hgd:((s.heap.push {cls:=.type "dict",data:=.dict #[] }).update x fun o=>{cls:=o.cls,dict:=some s.heap.objs.size,data:=o.data,slots:=o.slots }).get? s.heap.objs.size=some {cls:=.type "dict",data:=.dict #[] } :=
  (Heap.get?_update_ne _ _ _ _ hxs.symm).trans (Heap.get?_push_at rfl rfl)
 have hgx:((s.heap.push {cls:=.type "dict",data:=.dict #[] }).update x fun o=>{cls:=o.cls,dict:=some s.heap.objs.size,data:=o.data,slots:=o.slots }).get? x=some (DC C t0 (some s.heap.objs.size)) :=
  Heap.get?_update_self _ hx₁ rfl
 have hnd:((s.heap.push {cls:=.type "dict",data:=.dict #[] }).update x fun o=>{cls:=o.cls,dict:=some s.heap.objs.size,data:=o.data,slots:=o.slots }).Ns s.heap.objs.size (fun _=>none) :=
  ⟨_,#[],_,hgd,rfl,fun e he=>absurd he (by simp),fun _=>rfl⟩
 refine wpAny_bind (m:=alloc _) (wpAny_alloc' (wpAny_bind (wpAny_update' hx₁ (wpAny_pure (a:=some s.heap.objs.size) ?_))))
 show wpAny _ _ (storeInDict s.heap.objs.size (.str name s.toks) name v) _ _ _
 unfold storeInDict newKeyGuard
 refine wpAny_bind (wpAny_pure (wpAny_bind (wpAny_nsSet1 (Heap.Ns1.of_empty hnd) fun h' hn' hs'=>?_)))
 obtain⟨oD,esD,epD,hoD,hdD,hcD⟩:=hn'.count (Within.cons name v Within.nil)
 refine wpAny_bind (wpAny_lookBehind hoD (by rw[hdD];exact pastItsLine_dict (Nat.le_trans hcD (by rw[List.length_cons,List.length_nil,sizeLine_eq];lia))) ?_)
 refine wpAny_pure (hQ h' _ (by show s.toks<=s.toks+1+1;lia) (fun b o hb e=>?_) ⟨_,(hs'.2 x hxs).trans hgx⟩ ?_)
 ·exact(hs'.2 b (Nat.ne_of_lt (Heap.lt_size e))).trans ((Heap.get?_update_ne _ _ _ _ hb).trans (Heap.get?_push_of_some _ e))
 ·rw[hs'.1,upd_size,Heap.size_push];exact Nat.le_succ _
end
structure ExcOk(g:G):Prop where
 cls:g.K.lookup (g.ca 2)=some (SA (g.ca 2))
 keep:keepIn g.K (.ref (g.ca 2))=true
 init:findIn g.K (.ref (g.ca 2)) "__init__"=some (some (.ref (g.fa 0)))
 initf:typeIn g.K (.ref (g.fa 0))=some (.type "function")
 setat:findIn g.K (.ref (g.ca 2)) "__setattr__"=some (some (.builtin "object.__setattr__"))
 told:findIn g.K (.ref (g.ca 2)) (nm 1)=some none
 call:specialIn g.K (.ref (g.ca 2)) "__call__"=some (some (.builtin "type.__call__"))
 typ:instIn g.K (.ref (g.ca 2)) (.type "type")=some true
 fn:∃ p1 p2 p3 pos,DefOk g 0 [0,1] [(nm 0,.local),(nm 1,.local)] [.Assign [.Attribute (.Name (nm 0) p1) (nm 1) p2] (.Name (nm 1) p3) pos]
 glob:∃ mg,g.B.Ns mainGlobals mg/\mg "BadConfig"=some (.ref (g.ca 2))
theorem a6v{g:G}(hg:Ok g)(X:ExcOk g){A:Around}{s:Shared}{e t0:Addr}{told:Value}{R:Result->Shared->Prop}(hB:∀ b o,g.B.get? b=some o->s.heap.get? b=some o)(hx:s.heap.get? e=some (DC (g.ca 2) t0 none))(hdep:A.depth<recursionLimit)
  (hR:∀ h' tk,s.toks<=tk->(∀ b o,b≠e->s.heap.get? b=some o->h'.get? b=some o)->(∃ d,h'.get? e=some (DC (g.ca 2) t0 (some d)))->s.heap.objs.size<=h'.objs.size->R (.ok (.ret .none)) {s with heap:=h',toks:=tk }) :
  codeAny (model g.prog g.w) A (.call (.ref (g.fa 0)) ⟨[.ref e,told],[]⟩) R s:=by
 obtain⟨p1,p2,p3,pos,D⟩:=X.fn
 obtain⟨o,fd,dv,ho,hd,hcd,hbody,hcl,hkd,hco,hgen,hgl,hbl,hnm,hdv,hbind⟩:=D.obj
 have hC:=X.cls
 have hlim:s.heap.NoLimit:=hg.lim.keeps hB
 refine codeAny_call_function hdep (hB _ _ ho) hd hco hgen hbody (hcd.keeps hB) ?_
 refine hbind [.ref e,told] s rfl hB _ _ _ _ ?_
 rw[hcl]
 refine wpAny_with_toks (n:=s.toks) (Nat.le_refl _) (DV ?_)
 refine wpAny_newFunctionEnv_cells hkd (fun x hx=>?_) fun env he s' x=>?_
 ·refine AD ?_ (List.mem_map.mp (List.of_mem_zip (a:=x.1) (b:=x.2) (by exact hx)).1);intro k hk e
  rw[hnm,← e]
  rcases D.par k hk with hv | hv
  ·exact .inl hv
  ·exfalso
   rcases List.mem_cons.mp hk with rfl | hk
   ·revert hv;decide
   ·rcases List.mem_cons.mp hk with rfl | hk
    ·revert hv;decide
    ·cases hk
 ·intro hsz ht
  subst he
  have hsz':s.heap.objs.size<=s'.heap.objs.size:=hsz
  refine⟨hlim.keeps x.toInCall.keep,codeAny_func ?_⟩
  obtain⟨h1,tk,he⟩:=x.toInCall.same
  have ko:∀ id,(callEnvC fd s.heap.objs.size (g.fa 0)).kindOf id=([(nm 0,NameKind.local),(nm 1,NameKind.local)]:List (Str×NameKind)).lookup id:=fun id=>by
   show fd.scope.names.lookup id=_;rw[hnm]
  have nd:((([0,1].map nm).zip [Value.ref e,told]).map (·.1)).Nodup:=MO (PB (by decide))
  have k0':(callEnvC fd s.heap.objs.size (g.fa 0)).kindOf (nm 0)=some .local:=by rw[ko];decide
  have k1':(callEnvC fd s.heap.objs.size (g.fa 0)).kindOf (nm 1)=some .local:=by rw[ko];decide
  have ns:=x.toInCall.ns
  have l0:=(PA (m:=fun _=>none) k0' nd).trans (show _=some (Value.ref e) from rfl)
  have l1:=(PA (m:=fun _=>none) k1' nd).trans (show _=some told from rfl)
  show wpAny _ _ (exec _ _ >>= _) _ _ _
  refine wpAny_bind (plainObj_wpAny_Assign_Attribute ?_ (HL rfl))
  refine wpAny_Name (wpAny_loadName_local hkd k1' ns l1 ?_) (by decide)
  refine wpAny_Name (wpAny_loadName_local hkd k0' ns l0 ?_) (by decide)
  have hx':=x.toInCall.keep _ _ hx
  have KB:g.K.In s'.heap:=fun a o e=>x.toInCall.keep _ _ (hB _ _ (hg.kin a o e))
  refine a3g KB hC X.setat X.told hx' fun h' tk' htk hk hxx hs=>?_
  have hs':s.heap.objs.size<=h'.objs.size:=Nat.le_trans hsz' hs
  refine wpAny_pure ?_
  have:=hR h' tk' (Nat.le_trans ht htk) (fun b o hb e1=>hk b o hb (x.toInCall.keep _ _ e1)) hxx hs'
  rw[he]
  exact this
noncomputable def GA(h:Heap):List Addr->Heap
 | []=>h
 | a::l=>(GA h l).hide a
theorem MP(h:Heap):∀ l,(GA h l).objs.size=h.objs.size
 | []=>rfl
 | a::l=>(Heap.hide_size _ _).trans (MP h l)
theorem KC{h:Heap}{b:Addr}:∀ {l:List Addr},b∉l->(GA h l).get? b=h.get? b
 | [],_=>rfl
 | a::l,hb=>(Heap.hide_ne _ fun e=>hb (by rw[e];exact .head _)).trans (KC fun q=>hb (.tail _ q))
theorem LL{h:Heap}{b:Addr}{o:Obj}:∀ {l:List Addr},(GA h l).get? b=some o->h.get? b=some o
 | [],e=>e
 | _::_,e=>LL (Heap.of_hide e)
theorem QH{h:Heap}{b:Addr}:∀ {l:List Addr},b∈l->(GA h l).get? b=none
 | a::l,hb=>by
  rcases List.mem_cons.mp hb with rfl | hb
  ·exact Heap.hide_self _ _
  ·cases q:(GA h (a::l)).get? b with
   | none=>rfl
   | some o =>
    have:=Heap.of_hide q
    rw[QH hb]at this;exact noS this
section
variable {g:G}{fr:Bool}{A:Around}{s s₁:Shared}{ρ:Rho}{σ:St}{E:Value->Shared->Prop}{X:St->Prop}{sc:List (Str×NameKind)}
theorem a0y{l:List Env}{h h':Heap}(ih:∀ env∈l,env.scope.kind≠.module/\∃ L,env.frame=some L/\Out ρ L/\g.B.get? L=none/\IsDict h L)(k:∀ b o,h.get? b=some o->h'.get? b=some o){m:List Addr}(hm:∀ a∈DM l,a∈m):h'.FunFrames (GA h m) l:=by
 induction l with
 | nil=>trivial
 | cons env l ihl =>
  obtain⟨a,L,b,c,d,o,es,n,e,f⟩:=ih env (.head _)
  refine⟨a,⟨L,o,b,QH (hm L ?_),k _ _ e,fun vs q=>by rw[f]at q;cases q⟩,ihl (fun env he=>ih env (.tail _ he)) fun a ha=>hm a ?_⟩
  ·unfold DM;rw[List.filterMap_cons,b];exact .head _
  ·unfold DM;rw[List.filterMap_cons,b];exact .tail _ ha
theorem a6w{F:List Addr}(c:At g fr A σ ρ s){e t0 d:Addr}(he:s₁.heap.get? e=some (DC (g.ca 2) t0 (some d)))(hn:s.heap.get? e=none)(k:∀ b o,s.heap.get? b=some o->s₁.heap.get? b=some o)(ht:s.toks<=s₁.toks)(hs:Same s s₁) :
  XPost g A F s ρ s₁ ρ σ (.ref e):=by
 obtain⟨l,hl,hf⟩:=c.stk
 have mem:∀ a∈DM l,Out ρ a/\g.B.get? a=none/\IsDict s.heap a:=fun a ha=>by
  refine AD ?_<|List.mem_filterMap.mp ha;intro env he h1
  obtain⟨_,L,h2,h3,h4,h5⟩:=hf env he
  rw[h1]at h2;replace h2:=sj h2;subst h2
  exact⟨h3,h4,h5⟩
 refine⟨⟨e,l,GA s.heap (DM l),rfl,hl,⟨fun b o q=>k b o (LL q),?_,a0y hf k fun _ q=>q,_,_,he,rfl,rfl,rfl,rfl,.inl rfl⟩,?_,fun b o h1 _ _ h4=>(KC h4).trans h1⟩,fun b o h1 _ _ _=>⟨o.slots,k b o h1⟩,⟨[],by simp,fun _ hp=>by cases hp⟩,ht,hs⟩
 ·cases q:(GA s.heap (DM l)).get? e with
  | none=>rfl
  | some o=>have:=LL q;rw[hn]at this;exact noS this
 ·exact c.rel.move ht (Nat.le_of_eq (MP _ _).symm) (D:=DM l) (fun b o h1 hb=>(KC hb).trans h1) fun b hb=>⟨(mem b hb).1,(mem b hb).2.1,fun zs ht=>EE ht (mem b hb).2.2⟩
theorem HOk.none{h:Heap}(H:HOk true A h):A.handled=none:=by
 rcases H with H | ⟨q,_⟩
 ·exact H
 ·exact noG q
theorem a3h(hg:Ok g)(hX:ExcOk g){np kp cpos pos k i}{id:Str}(hid:id="BadConfig")(hk:sc.lookup id=some .globalImplicit)(hi:DY id=true):ED g sc (.Raise (some (.Call (.Name id np) [.Constant (.int i) k kp] [] cpos)) none pos) (.raise 2 [.int i]) :=
 fun{fr n T A env Λ σ ρ s X E Q P} hT c tp h hP hE=>by
  revert h;refine oA2 ?_;intro hfree h
  have hfr:=hT.free hfree
  subst hfr
  have hh:=c.at_.hand.none
  have hC:=hX.cls
  obtain⟨mg,hmg,hbc⟩:=hX.glob
  have R:=c.at_.rel
  have K:=R.kin hg
  show wpAny _ A (do standAt pos;raiseStmt env (some (do let v ← eval (.Call (.Name id np) [.Constant (.int i) k kp] [] cpos) env;standAt pos;pure v)) none) _ _ _
  refine wpAny_bind (wpAny_standAt ?_)
  unfold raiseStmt
  dsimp only
  refine wpAny_bind (wpAny_bind ?_)
  show wpAny _ A (eval (.Name id np) env >>= _) _ _ _
  refine wpAny_bind (GS c hk hi hmg (by rw[hid];exact hbc) ?_)
  refine JP hg (es:=[.Constant (.int i) k kp]) (ms:=[.int i]) (T:=T) (Λ:=Λ) (X:=X) (Q':=fun vs σ'=>vs=[.int i]/\X σ') (HD ZC JO rfl) rfl hT c (.own _ hX.keep) ⟨rfl,h⟩ (fun ys s' ρ' vs σ' p V q=>?_) hE.up
  revert q;refine oA2 ?_;rintro rfl q
  have R':=p.rel
  have c':=c.next p
  have K':=R'.kin hg
  have hC':=K' _ _ hC
  have hlen:ys.length=1:=by rw[← V.length];rfl
  obtain⟨y,rfl⟩:∃ y,ys=[y]:=by
   match ys,hlen with
   | [y],_=>exact⟨y,rfl⟩
  refine wpAny_call ?_
  obtain⟨hp,gn,dr,tk,os⟩:=s'
  refine a6u hC' ((looks_specialIn K' hX.call)) (looks_instIn K' hX.typ) (looks_findIn K' hX.init) (fun self=>bind_fn K' self hX.initf) (by rw[List.length_append,List.length_nil];rw[sizeLine_eq];exact Nat.le_add_left _ _) ?_
  have keep2:∀ b o,hp.get? b=some o->((hp.push (JE ([]++[y]))).push (DC (g.ca 2) hp.objs.size none)).get? b=some o:=fun b o e=>Heap.get?_push_of_some _ (Heap.get?_push_of_some _ e)
  have hx2:((hp.push (JE ([]++[y]))).push (DC (g.ca 2) hp.objs.size none)).get? (hp.objs.size+1)=some (DC (g.ca 2) hp.objs.size none):=by heap_get
  refine a6v hg hX (told:=y) (fun b o e=>keep2 b o (R'.base b o e)) hx2 (by rw[depth_under_kw];have:=c.room.1;lia) fun h' tk' htk hk hd hs=>?_
  revert hd;refine AR ?_;intro d hd
  refine⟨rfl,?_⟩
  dsimp only
  refine wpAny_bind (wpAny_standAt (wpAny_pure ?_))
  have hn:hp.get? (hp.objs.size+1)=none:=Heap.get?_none_of_le (Nat.le_succ _)
  have hk':∀ b o,hp.get? b=some o->h'.get? b=some o:=fun b o e=>hk b o (fun z=>by rw[z,hn]at e;exact noS e) (keep2 b o e)
  have K2:g.K.In h':=fun a o e=>hk' _ _ (K' a o e)
  have hC2:=hk' _ _ hC'
  have hT:∀ {Q':Value->Shared->Prop},Q' (.ref (g.ca 2)) ⟨h',gn,dr,tk',os⟩->wpAny (model g.prog g.w) A (typeOf (.ref (hp.objs.size+1))) Q' E ⟨h',gn,dr,tk',os⟩:=fun hq=>wpAny_bind (wpAny_loadPart hd (wpAny_pure hq))
  have hnt:∀ {Q':Bool->Shared->Prop},Q' false ⟨h',gn,dr,tk',os⟩->wpAny (model g.prog g.w) A (isType (.ref (hp.objs.size+1))) Q' E ⟨h',gn,dr,tk',os⟩:=by
   intro Q' hq
   simp only[isType,loadHead]
   exact wpAny_bind (wpAny_loadPart hd (wpAny_pure hq))
  refine wpAny_bind (wpAny_pure ?_)
  dsimp only
  refine wpAny_bind (wpAny_holding ?_)
  unfold excFromValue isExcClass
  refine wpAny_bind (wpAny_bind (hnt ?_))
  simp only[Bool.false_eq_true,if_false]
  refine wpAny_pure ?_
  simp only[Bool.false_eq_true,if_false]
  refine wpAny_bind (m:=isInstance _ _) (wpAny_bind (hT (wpAny_isSubtype_exc hC2 ?_)))
  have hcb:(Value.ref (g.ca 2)::IN 39).contains (.type "BaseException")=true:=by rfl
  rw[hcb]
  simp only[if_true]
  refine wpAny_pure ?_
  refine wpAny_bind (hnt ?_)
  simp only[Bool.false_eq_true,if_false]
  unfold raisedInstance
  refine wpAny_bind (wpAny_bind (hT (wpAny_bind (m:=typeOf (.ref (g.ca 2))) (wpAny_bind (wpAny_loadPart hC2 (wpAny_pure ?_))))))
  rw[if_pos (by rfl)]
  refine wpAny_pure ?_
  unfold setFlight raiseNew
  refine wpAny_bind (wpAny_bind (wpAny_field hd rfl (i:=1) (x:=.none) (by rfl) ?_))
  rw[if_neg (show ¬ ((Value.none != Value.none)=true) from by decide)]
  refine wpAny_pure (wpAny_bind (wpAny_handled ?_))
  rw[hh]
  have fin:E (.ref (hp.objs.size+1)) ⟨h',gn,dr,tk',os⟩ :=
   hE _ _ ρ' σ' (XPost.wider (XPost.trans p (a6w (s₁:=⟨h',gn,dr,tk',os⟩) c'.at_ hd hn hk' htk ⟨rfl,rfl,rfl⟩)) (by simp)) q
  first
   | exact wpAny_throw fin
   | exact wpAny_bind (wpAny_pure (wpAny_throw fin))
end
end Mine
end
section
open PySem PySem.W PyProof.Rows PySem.Calls
set_option maxRecDepth 100000
namespace Mine
set_option tactic.hygienic false
noncomputable def Fin(Y:Bool->Prop):Fl->Prop
 | .ret (.bool b)=>Y b
 | _=>False
mutual
noncomputable def LM(T:Tb)(F:List PV->St->(Bool->Prop)->Prop)(Y:Bool->Prop):MS->Loc->St->(Loc->St->Prop)->Prop
 | .ifS c a b,Λ,σ,K=>wpE T c Λ σ (fun x σ=>opt (truth x) fun t=>if t=true then wpF T F Y a Λ σ K else wpF T F Y b Λ σ K) (fun _=>False)
 | .tryE b _ h,Λ,σ,K=>match b with
  | [.exp e]=>wpE T e Λ σ (fun _ σ=>K Λ σ) (fun σ=>AN T.under h Λ σ (fun f _ _=>Fin Y f) (fun _=>False))
  | _=>False
 | .ret e,Λ,σ,_=>match e with
  | .call 48 es=>CX T es Λ σ (fun vs σ=>F vs σ Y) (fun _=>False)
  | e=>wpE T e Λ σ (fun v _=>Fin Y (.ret v)) (fun _=>False)
 | s,Λ,σ,K=>wpS T s Λ σ (fun f Λ σ=>match f with | .next=>K Λ σ | f=>Fin Y f) (fun _=>False)
noncomputable def wpF(T:Tb)(F:List PV->St->(Bool->Prop)->Prop)(Y:Bool->Prop):List MS->Loc->St->(Loc->St->Prop)->Prop
 | [],Λ,σ,K=>K Λ σ
 | s::r,Λ,σ,K=>LM T F Y s Λ σ fun Λ σ=>wpF T F Y r Λ σ K
end
section
variable {g:G}{fr:Bool}{A:Around}{s s₁ s':Shared}{ρ ρ':Rho}{σ σ':St}{E:Value->Shared->Prop}{X:St->Prop}{sc:List (Str×NameKind)}{n:Nat}{env:Env}{Λ:Loc}
theorem TOk.under{T:Tb}(hT:TOk g fr n T):TOk g false n T.under:=⟨hT.gl,hT.ini,hT.mth,hT.C',hT.C',fun h=>h.elim⟩
theorem a3i(c:Ctx g fr n A env sc Λ σ ρ s){e:Addr}{l:List Env}{Bx h':Heap}{cls fl:Value}(hl:A.frames=some l)(hR:Rel g s'.toks ρ' σ' Bx)
  (hk:∀ b o,s.heap.get? b=some o->Out ρ b->b∉DM l->Bx.get? b=some o) (hs:Bx.StaysIn h') (hu:∀ b o,s.heap.get? b=some o->Out ρ b->(∀ vs,o.data≠.fields vs)->∃ sl,h'.get? b=some {o with slots:=sl })
  (hx:∃ τ,ρ'=ρ++τ/\∀ p∈τ,s.heap.objs.size<=p.1/\s.heap.objs.size<=p.2) (ht:s.toks<=s'.toks) (hsz:s.heap.objs.size<=h'.objs.size) (t:Tr Bx h' e cls fl) :
  Ctx g false n (A.mark (some (.ref e))) env sc Λ σ' ρ' {s' with heap:=h' }:=by
 have R:=c.at_.rel
 obtain⟨l',hl',hf⟩:=c.at_.stk
 rw[hl]at hl';replace hl':=sj hl';subst hl'
 revert hx;refine AD ?_;rintro τ rfl hτ
 have out:∀ b,b<s.heap.objs.size->Out ρ b->Out (ρ++τ) b:=fun b hb ho p hp=>by
  rcases List.mem_append.mp hp with hp | hp
  ·exact ho p hp
  ·have:=hτ p hp;exact⟨Nat.ne_of_lt (Nat.lt_of_lt_of_le hb this.1),Nat.ne_of_lt (Nat.lt_of_lt_of_le hb this.2)⟩
 have fd:∀ a∈DM l,IsDict s.heap a:=fun a ha=>by
  refine AD ?_<|List.mem_filterMap.mp ha;intro env' he h1
  obtain⟨_,L,h2,_,_,h5⟩:=hf env' he
  rw[h1]at h2;replace h2:=sj h2;subst h2;exact h5
 have tups:∀ a xs,IsTup s.heap a xs->IsTup h' a xs:=fun a xs ht=>by
  refine AD ?_<|id ht;intro o ho r
  exact⟨o,hs _ _ (hk a o ho (fun p hp=>R.out_tup ht p hp) fun hm=>EE ht (fd a hm)),r⟩
 have old:∀ (i:Nat) p,ρ[i]? = some p->(ρ++τ)[i]? = some p:=fun i p e=>by
  rw[List.getElem?_append_left (List.getElem?_eq_some_iff.mp e).1];exact e
 have V:∀ {v x},VR g s.toks s.heap ρ v x->VR g s'.toks h' (ρ++τ) v x:=fun V=>V.mono ht tups old
 have cellsK:∀ cl v,cl∈FA env->s.heap.IsCell cl v->h'.IsCell cl v:=fun cl v hm ⟨o,ho,hd⟩ =>
  ⟨o,hs _ _ (hk cl o ho (c.loc.out cl hm).1 fun hf=>by
   refine DP ?_<|fd cl hf;intro o' es n ho' hd'
   rw[ho]at ho';replace ho':=sj ho';subst ho';rw[hd]at hd';cases hd'),hd⟩
 refine⟨c.ok,c.room,⟨?_,⟨l,hl,fun env' he=>?_⟩,⟨fun b o e=>hs _ _ (hR.base b o e),hR.len,fun i p o e1 e2=>(hR.obj i p o e1 e2).mono (Nat.le_refl _) (fun b e=>hs _ _ e) (fun b e=>hs _ _ e) (fun a xs x=>x.keeps hs) fun _ _ e=>e,hR.apart,hR.new,fun z hz=>⟨Nat.lt_of_lt_of_le (R.hid z hz).1 hsz,(R.hid z hz).2⟩⟩,Nat.lt_of_lt_of_le c.at_.toks ht⟩,?_⟩
 ·obtain⟨oe,vs,T,oT,ts,he,hc,hd,hz,h2,_⟩:=t
  exact .inr ⟨rfl,e,oe,vs,rfl,he,hd,h2⟩
 ·obtain⟨a,L,b,d,e1,o,es,m,h1,h2⟩:=hf env' he
  refine AR ?_ (hu L o h1 d fun vs q=>by rw[h2]at q;cases q);intro sl h3
  exact⟨a,L,b,out L (Heap.lt_size h1) d,e1,_,es,m,h3,h2⟩
 ·obtain⟨m,⟨o,es,ep,ho,hd,r⟩,hv⟩:=c.loc.ns
  refine AR ?_ (hu _ o ho (c.loc.out _ (.head _)).1 fun vs q=>by rw[hd]at q;cases q);intro sl h3
  refine⟨⟨m,⟨_,es,ep,h3,hd,r⟩,fun k v e hk=>?_⟩,fun k v e hk=>?_,fun nn cl hc=>?_,c.loc.apart,c.loc.here,fun a ha=>⟨out a (c.loc.lt a ha) (c.loc.out a ha).1,(c.loc.out a ha).2⟩⟩
  ·refine AD ?_<|hv k v e hk;intro x h4 h5
   exact⟨x,h4,V h5⟩
  ·refine DO ?_<|c.loc.cell k v e hk;intro cl x h4 h5 h6
   exact⟨cl,x,h4,cellsK cl _ (.tail _ (List.mem_map.mpr ⟨_,mem_of_lookup h4,rfl⟩)) h5,V h6⟩
  ·refine AR ?_<|c.loc.cells nn cl hc;intro v h4
   exact⟨v,cellsK cl v (.tail _ (List.mem_map.mpr ⟨_,hc,rfl⟩)) h4⟩
end
structure Done(g:G)(s s':Shared):Prop where
 base:∀ b o,g.B.get? b=some o->s'.heap.get? b=some o
 same:Same s s'
theorem Done.of{g:G}{F:List Addr}{s s':Shared}{ρ ρ':Rho}{σ':St}(p:Post g F s ρ s' ρ' σ'):Done g s s':=⟨p.rel.base,p.same⟩
theorem Done.after{g:G}{F:List Addr}{s s₁ s':Shared}{ρ ρ₁:Rho}{σ₁:St}(p:Post g F s ρ s₁ ρ₁ σ₁)(d:Done g s₁ s'):Done g s s':=⟨d.base,p.same.trans d.same⟩
noncomputable def LN(g:G)(n f:Nat)(vs:List PV)(σ:St)(Y:Bool->Prop):Prop :=
 ∀ A ρ s xs (R:Result->Shared->Prop),PX A n->At g true A σ ρ s->VRs g s.toks s.heap ρ vs xs →
  (∀ b s',Done g s s'->Y b->R (.ok (.ret (.bool b))) s')->codeAny (model g.prog g.w) A (.call (.ref (g.fa f)) ⟨xs,[]⟩) R s
noncomputable def JF(g:G)(sc:List (Str×NameKind))(st:List Stmt)(ms:List MS):Prop:=∀ {n T F A env Λ σ ρ s E K} {Y:Bool->Prop} {P:Flow->Shared->Prop},TOk g true n T->(∀ vs σ Y,F vs σ Y->LN g n 48 vs σ Y) →
 Ctx g true n A env sc Λ σ ρ s->Top A env->wpF T F Y ms Λ σ K->(∀ b s',Done g s s'->Y b->P (.ret (.bool b)) s') →
 (∀ s' ρ' Λ' σ',Post g (FA env) s ρ s' ρ' σ'->LocR g s'.toks env Λ' ρ' s'.heap->K Λ' σ'->P .next s')->wpAny (model g.prog g.w) A (execs st env) P E s
noncomputable def JV(g:G)(sc:List (Str×NameKind))(st:Stmt)(ms:MS):Prop:=∀ {n T F A env Λ σ ρ s E K} {Y:Bool->Prop} {P:Flow->Shared->Prop},TOk g true n T->(∀ vs σ Y,F vs σ Y->LN g n 48 vs σ Y) →
 Ctx g true n A env sc Λ σ ρ s->Top A env->LM T F Y ms Λ σ K->(∀ b s',Done g s s'->Y b->P (.ret (.bool b)) s') →
 (∀ s' ρ' Λ' σ',Post g (FA env) s ρ s' ρ' σ'->LocR g s'.toks env Λ' ρ' s'.heap->K Λ' σ'->P .next s')->wpAny (model g.prog g.w) A (exec st env) P E s
section
variable {g:G}{sc:List (Str×NameKind)}
theorem SB{Y:Bool->Prop}{f:Fl}{fl:Flow}{T h ρ}{P:Flow->Shared->Prop}{s₀ s:Shared}(q:Fin Y f)(V:FlR g T h ρ f fl)(d:Done g s₀ s)(hY:∀ b s',Done g s₀ s'->Y b->P (.ret (.bool b)) s'):P fl s:=by
 cases V with
 | next=>exact q.elim
 | cont=>exact q.elim
 | ret V =>
  cases V<;>first | exact hY _ _ d q | exact q.elim
theorem a6x:JF g sc [] []:=fun hT hF c tp h hY hK=>wpAny_pure (hK _ _ _ _ (.refl c.at_.rel) c.loc h)
theorem a3j{st ms sts mss}(h1:JV g sc st ms)(h2:JF g sc sts mss):JF g sc (st::sts) (ms::mss):=fun{n T F A env Λ σ ρ s E K Y P} hT hF c tp h hY hK=>by
 show wpAny _ _ (exec st env >>= _) _ _ _
 refine wpAny_bind (h1 hT hF c tp h (fun b s' d q=>wpAny_pure (hY b s' d q)) fun s' ρ' Λ' σ' p L q=>?_)
 exact h2 hT hF (c.step p L) tp q (fun b s' d q=>hY b s' (d.after p) q) fun s'' ρ'' Λ'' σ'' p' L' q'=>hK _ _ _ _ (p.trans p') L' q'
theorem a3k{st ms}(h1:ED g sc st ms)(he:∀ T F Y Λ σ K,LM T F Y ms Λ σ K=wpS T ms Λ σ (fun f Λ σ=>match f with | .next=>K Λ σ | f=>Fin Y f) (fun _=>False)):JV g sc st ms:=fun{n T F A env Λ σ ρ s E K Y P} hT hF c tp h hY hK=>by
 rw[he]at h
 refine h1 hT c tp h (fun f fl s' ρ' Λ' σ' p L V q=>?_) fun x s' ρ' σ' p q=>q.elim
 cases V with
 | next=>exact hK _ _ _ _ p L q
 | cont=>exact q.elim
 | ret V=>exact SB (f:=.ret _) q (.ret V) (.of p) hY
theorem b1u{e me a b ma mb pos}(he:Snd g sc e me)(ha:JF g sc a ma)(hb:JF g sc b mb):JV g sc (.If e a b pos) (.ifS me ma mb):=fun{n T F A env Λ σ ρ s E K Y P} hT hF c tp h hY hK=>by
 rw[exec_If]
 refine wpAny_bind (wpAny_standAt (wpAny_bind (he.2 (X:=fun _=>False) (Q:=fun t σ'=>if t=true then wpF T F Y ma Λ σ' K else wpF T F Y mb Λ σ' K) hT c h (fun pv σ' k=>?_) (fun t s₁ ρ₁ σ₁ p q=>?_) fun x s' ρ' σ' p q=>q.elim)))
 ·refine AD ?_<|CZ k;rintro t rfl q
  exact⟨t,rfl,q⟩
 ·have c1:=c.step p.up (c.next p).loc
  have hK':∀ s' ρ' Λ' σ',Post g (FA env) s₁ ρ₁ s' ρ' σ'->LocR g s'.toks env Λ' ρ' s'.heap->K Λ' σ'->P .next s':=fun s' ρ' Λ' σ' p' L q=>hK _ _ _ _ (p.up.trans p') L q
  have hY':∀ b s',Done g s₁ s'->Y b->P (.ret (.bool b)) s':=fun b s' d q=>hY b s' (d.after p) q
  induction t using Bool.casesOn with
  | true=>exact ha hT hF c1 tp (by rw[if_pos rfl]at q;exact q) hY' hK'
  | false=>exact hb hT hF c1 tp (by rw[if_neg (by decide)]at q;exact q) hY' hK'
theorem a6y{e me pos}(he:Snd g sc e me)(hm:∀ T F Y Λ σ K,LM T F Y (.ret me) Λ σ K=wpE T me Λ σ (fun v _=>Fin Y (.ret v)) (fun _=>False)):JV g sc (.Return (some e) pos) (.ret me):=fun{n T F A env Λ σ ρ s E K Y P} hT hF c tp h hY hK=>by
 rw[hm]at h
 rw[exec_Return_some]
 refine wpAny_bind (wpAny_standAt (wpAny_bind (he.1 hT c h (fun x s₁ ρ₁ v σ₁ p₁ V₁ q=>?_) fun x s' ρ' σ' p q=>q.elim)))
 exact wpAny_pure (SB (f:=.ret _) q (.ret V₁) (.of p₁) hY)
theorem a0z(hg:Ok g){id:Str}{p cpos pos es ms}(hs:FO g sc es ms)(hn:es.all BG=true)(hk:sc.lookup id=some .globalImplicit)(hi:DY id=true)(hm:(id,48)∈fnames):JV g sc (.Return (some (.Call (.Name id p) es [] cpos)) pos) (.ret (.call 48 ms)):=fun{n T F A env Λ σ ρ s E K Y P} hT hF c tp h hY hK=>by
 rw[exec_Return_some]
 obtain⟨mg,mb,h1,h2,h3,_⟩:=hg.glob
 refine wpAny_bind (wpAny_standAt (wpAny_bind ?_))
 show wpAny _ _ (eval (.Name id p) env >>= _) _ _ _
 refine wpAny_bind (GS c hk hi h1 (h3 _ hm) ?_)
 refine JP hg hs hn hT c (.own _ (hg.fnk _ hm)) h (fun ys s' ρ' vs σ' p V q=>?_) fun x s' ρ' σ' p q=>q.elim
 exact wpAny_call (hF _ _ _ q A ρ' s' _ _ c.room.call (c.next p).at_ V fun b s'' d q'=>wpAny_pure (hY b s'' (d.after p) q'))
theorem a6z(hg:Ok g)(hX:ExcOk g){e me id np b₀ suite hpos pos epos mh}(he:Snd g sc e me)(hc:EF e=true)(hh:EM g sc (b₀::suite) mh)(hid:id=Str.ofString "BadConfig")(hk:sc.lookup id=some .globalImplicit)(hi:DY id=true) :
  JV g sc (.Try [.Expr e epos] [.ExceptHandler (some (.Name id np)) none (b₀::suite) hpos] [] [] pos) (.tryE [.exp me] 2 mh):=fun{n T F A env Λ σ ρ s E K Y P} hT hF c tp h hY hK=>by
 refine wpAny_Try_except (DV ?_)
 show wpAny _ _ (exec (.Expr e epos) env >>= _) _ _ _
 refine wpAny_bind (wpAny_Expr_any (he.1 hT c h (fun x s₁ ρ₁ v σ₁ p₁ V₁ q=>?_) fun x s' ρ' σ' px q hsz=>?_) ?_ (HL hc))
 ·exact wpAny_pure fun _=>wpAny_pure (hK _ _ _ _ p₁.up (c.next p₁).loc q)
 ·obtain⟨ea,l,Bx,rfl,hl,hF',hR,hkk⟩:=px.fly
  revert tp;refine FD ?_;intro outer L hfr hf
  have hl2:=hl
  rw[hfr]at hl2;replace hl2:=sj hl2;subst hl2
  have hC:=hX.cls
  obtain⟨mg,hmg,hbc⟩:=hX.glob
  have hk2:∀ b o,s.heap.get? b=some o->Out ρ b->b∉DM (env::outer)->Bx.get? b=some o:=fun b o h1 h2 h3=>hkk b o h1 h2 (by simp) h3
  have ku:∀ b o,s.heap.get? b=some o->Out ρ b->(∀ vs,o.data≠.fields vs)->∃ sl,s'.heap.get? b=some {o with slots:=sl }:=fun b o h1 h2 h3=>px.keep b o h1 h2 (by simp) h3
  have cc:∀ {h' cls fl},Stand Bx (env::outer) s'.heap h'->s.heap.objs.size<=h'.objs.size->Tr Bx h' ea cls fl->Ctx g false n (A.mark (some (.ref ea))) env sc Λ σ' ρ' {s' with heap:=h' }:=fun S hz t =>
   a3i c hl hR hk2 S.stays (fun b o h1 h2 h3=>by
    refine AR ?_<|ku b o h1 h2 h3;intro sl e1
    refine AR ?_<|S.up b _ e1 h3;intro sl' e2
    exact⟨sl',e2⟩) px.ext px.toks hz t
  have any:∀ {x:Value} {s₂:Shared},False->notedBy (model g.prog g.w) (A.mark (some (.ref ea))) env (cameBackBy (model g.prog g.w) A env E) x s₂:=fun q=>q.elim
  refine DV (RZ hfr hF' hf fun h₁ S₁ t₁ z₁=>DV ?_)
  refine JU (s:={s' with heap:=h₁ }) S₁.stays S₁.frames t₁ fun h₂ S₂ t₂ z₂=>?_
  have S12:=S₁.trans S₂
  have Z12:s.heap.objs.size<=h₂.objs.size:=Nat.le_trans hsz (Nat.le_trans z₁ z₂)
  have c2:=cc S12 Z12 t₂
  refine wpAny_handleBy_cons (codeAny_handlers_test ?_) (by intro q;cases q)
  refine GS c2 hk hi hmg (by rw[hid];exact hbc) ?_
  have t₂':=t₂
  obtain⟨oe,vs,T',oT,ts,he',hcls,_⟩:=t₂'
  have hC2:=(c2.at_.rel.kin hg) _ _ hC
  refine wpAny_excMatches_sub_self hC2 he' hcls (by rfl) ?_
  refine codeAny_handlers_suite (DV ?_)
  refine JU (s:={s' with heap:=h₂ }) S12.stays S12.frames t₂ fun h₃ S₃ t₃ z₃=>?_
  have c3:=cc (S12.trans S₃) (Nat.le_trans Z12 z₃) t₃
  refine hh hT.under c3 ⟨outer,L,hfr,hf⟩ q (fun f fl s'' ρ'' Λ'' σ'' p L' V q'=>?_) fun x s'' ρ'' σ'' p q'=>q'.elim
  exact SB (s₀:=s) q' V ⟨p.rel.base,⟨p.same.gens.trans px.same.gens,p.same.drawn.trans px.same.drawn,p.same.os.trans px.same.os⟩⟩ hY
 ·unfold interactive
  rw[c.ok.kind];rfl
end
section
variable {g:G}{σ:St}{sc:List (Str×NameKind)}
theorem VX(hg:Ok g){f n:Nat}{ps:List Nat}{body:List Stmt}{mb:List MS}{T:Tb}{F:List PV->St->(Bool->Prop)->Prop}{vs:List PV}{Y:Bool->Prop}(D:DefOk g f ps sc body)(hb:JF g sc body mb)(hT:TOk g true n T)(hF:∀ vs σ Y,F vs σ Y->LN g n 48 vs σ Y)(hlen:CM f ps.length vs.length=true)
  (h:wpF T F Y mb (puts ps (fill f vs) []) σ (fun _ _=>False)):LN g (n+1) f vs σ Y:=by
 intro A ρ s xs R hroom c V hY
 obtain⟨o,fd,dv,ho,hd,hcd,hbody,hcl,hkd,hco,hgen,hgl,hbl,hnm,hdv,hbind⟩:=D.obj
 have R0:=c.rel
 have hlim:s.heap.NoLimit:=hg.lim.keeps R0.base
 have hdep:A.depth<recursionLimit:=by have:=hroom.1;lia
 refine codeAny_call_function hdep (R0.base _ _ ho) hd hco hgen hbody (hcd.keeps R0.base) ?_
 refine hbind xs s (by rw[← V.length];exact hlen) R0.base _ _ _ _ ?_
 rw[hcl]
 have V0:=VV (f:=f) (hdv _ _ _) V
 refine wpAny_with_toks (n:=s.toks) (Nat.le_refl _) (DV ?_)
 refine wpAny_newFunctionEnv_cells hkd (fun x hx=>?_) fun env he s' x=>?_
 ·refine AD ?_ (List.mem_map.mp (List.of_mem_zip (a:=x.1) (b:=x.2) (by exact hx)).1);intro k hk e
  have hv:=D.par k hk
  rw[hnm,← e]
  rcases hv with hv | hv
  ·exact .inl hv
  ·refine .inr ⟨hv,?_⟩
   refine AR ?_<|IA sc (s.heap.objs.size+1) [] (FT hv);intro cl hc
   have kn:((cellsFrom (s.heap.objs.size+1) sc []).map (·.1)).Nodup:=HF _ _ _ D.nodup .nil fun _ _ _ hy=>by cases hy
   have:=IM kn hc
   simp only at this
   rw[this];rfl
 ·intro hsz ht
  subst he
  have hsz':s.heap.objs.size<=s'.heap.objs.size:=hsz
  refine oA4 ?_<|PC (fd:=fd) (a:=g.fa f) (ps:=ps) (xs:=fillV dv f xs) c ht hsz' hcl hkd hgl hbl hnm D.nodup D.par D.psn V0 x;intro envok p L low
  refine⟨hlim.keeps x.toInCall.keep,codeAny_func ?_⟩
  obtain⟨l,hl,hfr⟩:=c.stk
  have hl':(A.deeper (callEnvC fd s.heap.objs.size (g.fa f))).frames=some (callEnvC fd s.heap.objs.size (g.fa f)::l):=by
   show A.frames.map _=_
   rw[hl];rfl
  have c1:=c.next0 p
  have cx:Ctx g true n (A.deeper (callEnvC fd s.heap.objs.size (g.fa f))) (callEnvC fd s.heap.objs.size (g.fa f)) sc (puts ps (fill f vs) []) σ ρ s':=by
   refine⟨envok,⟨?_,?_⟩,⟨c1.hand,⟨_,hl',fun e he=>?_⟩,c1.rel,c1.toks⟩,L⟩
   ·show A.depth+1+3*n+3<=_;have:=hroom.1;lia
   ·show A.units+3+20*n+100<=_;have:=hroom.2;lia
   ·rcases List.mem_cons.mp he with rfl | he
    ·have:=L.out _ (.head _)
     exact⟨by rw[envok.kind];decide,_,rfl,this.1,this.2,.ns x.toInCall.ns⟩
    ·obtain⟨lf,hlf,hff⟩:=c1.stk
     rw[hl]at hlf;replace hlf:=sj hlf;subst hlf
     exact hff e he
  have tp:Top (A.deeper (callEnvC fd s.heap.objs.size (g.fa f))) (callEnvC fd s.heap.objs.size (g.fa f)):=⟨l,_,hl',rfl⟩
  exact hb hT hF cx tp h (fun b s'' d q=>hY b s'' (d.after p) q) fun _ _ _ _ _ _ q=>q.elim
end
noncomputable abbrev Sc:=List (Str×NameKind)
noncomputable def an{α:Type}(o:Option α)(f:α->Bool):Bool:=match o with
 | some a=>f a
 | none=>false
theorem AJ{α:Type}{o:Option α}{f:α->Bool}(h:an o f=true):∃ a,o=some a/\f a=true:=by
 induction o using Option.casesOn with
 | none=>exact Bool.noConfusion h
 | some a=>exact⟨a,rfl,h⟩
theorem a2{a b:Bool}(h:(a&&b)=true):a=true/\b=true:=Bool.and_eq_true_iff.mp h
theorem CV{α:Type} [BEq α] [LawfulBEq α]{a b:α}(h:(a==b)=true):a=b:=eq_of_beq h
noncomputable def one{α:Type}:List α->Option α
 | [a]=>some a
 | _=>none
theorem EP{α:Type}{l:List α}{a:α}(h:one l=some a):l=[a]:=by
 induction l using List.casesOn with
 | nil=>exact noS h
 | cons b r=>induction r using List.casesOn with
  | nil=>rw[Option.some.inj h]
  | cons _ _=>exact noS h
noncomputable def two{α:Type}:List α->Option (α×α)
 | [a,b]=>some (a,b)
 | _=>none
theorem GI{α:Type}{l:List α}{a:α×α}(h:two l=some a):l=[a.1,a.2]:=by
 induction l using List.casesOn with
 | nil=>exact noS h
 | cons b r=>induction r using List.casesOn with
  | nil=>exact noS h
  | cons c r=>induction r using List.casesOn with
   | nil=>rw[← Option.some.inj h]
   | cons _ _=>exact noS h
noncomputable def nul{α:Type}(l:List α):Bool:=match l with
 | []=>true
 | _::_=>false
theorem CJ{α:Type}{l:List α}(h:nul l=true):l=[]:=by
 induction l using List.casesOn with
 | nil=>rfl
 | cons _ _=>exact Bool.noConfusion h
noncomputable def isN{α:Type}(o:Option α):Bool:=match o with
 | none=>true
 | some _=>false
theorem KM{α:Type}{o:Option α}(h:isN o=true):o=none:=by
 induction o using Option.casesOn with
 | none=>rfl
 | some _=>exact Bool.noConfusion h
noncomputable def b3u:COp->Nat
 | .eq=>0 | .ne=>1 | .lt=>2 | .le=>3 | .gt=>4 | .ge=>5 | .is=>6 | .isnot=>7 | .isin=>8 | .notin=>9
noncomputable def b3v:CmpOp->Nat
 | .Eq=>0 | .NotEq=>1 | .Lt=>2 | .LtE=>3 | .Gt=>4 | .GtE=>5 | .Is=>6 | .IsNot=>7 | .In=>8 | .NotIn=>9
noncomputable def VY:Nat->CmpOp
 | 0=>.Eq | 1=>.NotEq | 2=>.Lt | 3=>.LtE | 4=>.Gt | 5=>.GtE | 6=>.Is | 7=>.IsNot | 8=>.In | _=>.NotIn
noncomputable def UI(a:COp)(b:CmpOp):Bool:=b3u a==b3v b
theorem LO{a:COp}{b:CmpOp}(h:UI a b=true):b=opC a :=
 (show b=VY (b3v b) by induction b using CmpOp.casesOn<;>rfl).trans ((congrArg VY (CV h).symm).trans (show VY (b3u a)=opC a by induction a using COp.casesOn<;>rfl))
noncomputable def b3w:BOp->Nat
 | .add=>0 | .sub=>1 | .mul=>2 | .fdiv=>3 | .mod=>4
noncomputable def b3x:Operator->Nat
 | .Add=>0 | .Sub=>1 | .Mult=>2 | .FloorDiv=>3 | .Mod=>4 | .MatMult=>5 | .Div=>6 | .Pow=>7 | .LShift=>8 | .RShift=>9 | .BitOr=>10 | .BitXor=>11 | .BitAnd=>12
noncomputable def VZ:Nat->Operator
 | 0=>.Add | 1=>.Sub | 2=>.Mult | 3=>.FloorDiv | 4=>.Mod | 5=>.MatMult | 6=>.Div | 7=>.Pow | 8=>.LShift | 9=>.RShift | 10=>.BitOr | 11=>.BitXor | _=>.BitAnd
noncomputable def a9o(a:BOp)(b:Operator):Bool:=b3w a==b3x b
theorem a7a{a:BOp}{b:Operator}(h:a9o a b=true):b=opB a :=
 (show b=VZ (b3x b) by induction b using Operator.casesOn<;>rfl).trans ((congrArg VZ (CV h).symm).trans (show VZ (b3w a)=opB a by induction a using BOp.casesOn<;>rfl))
noncomputable def isK(sc:Sc)(id:Str)(k:NameKind):Bool:=an (sc.lookup id) fun a=>decide (a=k)
theorem QI{sc id k}(h:isK sc id k=true):sc.lookup id=some k:=(AJ h).elim fun _ h=>h.1.trans (congrArg some (of_decide_eq_true h.2))
noncomputable def QJ(sc:Sc)(id:Str):Bool:=isK sc id .local
noncomputable def QK(sc:Sc)(id:Str):Bool:=isK sc id .cell
noncomputable def WA(sc:Sc)(id:Str):Bool:=isK sc id .free
noncomputable def IB(sc:Sc)(id:Str):Bool:=isK sc id .globalImplicit
theorem LP{sc id}(h:QJ sc id=true):sc.lookup id=some .local:=QI h
theorem MQ{sc id}(h:QK sc id=true):sc.lookup id=some .cell:=QI h
theorem TK{sc id}(h:WA sc id=true):sc.lookup id=some .free:=QI h
theorem FU{sc id}(h:IB sc id=true):sc.lookup id=some .globalImplicit:=QI h
noncomputable def IP(sc:Sc)(id:Str):Bool:=QJ sc id||QK sc id
theorem GN{sc id}(h:IP sc id=true):FP sc id:=by
 unfold IP at h
 rw[Bool.or_eq_true]at h
 exact h.imp LP MQ
noncomputable def a1a(sc:Sc)(id:Str):Bool:=QJ sc id||QK sc id||WA sc id
theorem a7b{sc id}(h:a1a sc id=true):sc.lookup id=some .local\/sc.lookup id=some .cell\/sc.lookup id=some .free:=by
 unfold a1a at h
 rw[Bool.or_eq_true,Bool.or_eq_true]at h
 rcases h with(h | h) | h
 ·exact .inl (LP h)
 ·exact .inr (.inl (MQ h))
 ·exact .inr (.inr (TK h))
noncomputable def distinct:List Str->Bool
 | []=>true
 | a::l => !l.contains a&&distinct l
theorem KD:∀ {l:List Str},distinct l=true->l.Nodup
 | [],_=>.nil
 | a::l,h=>by
  have e:=(a2 (a := !l.contains a) (b:=distinct l) h)
  exact List.nodup_cons.mpr ⟨fun hm=>absurd ((congrArg not (List.contains_iff_mem.mpr hm)).symm.trans e.1) (by decide),KD e.2⟩
noncomputable def SD(scope:Scope)(sc:Sc)(tgt:Nat)(cap:List Nat):Bool :=
 (match scope.kind with | .function=>true | _=>false)&&distinct (scope.names.map (·.1))&&scope.names.all (fun x=>match x.2 with | .cell=>false | .free=>QK sc x.1 | _=>true)&&QJ scope.names (nm tgt)&&cap.all (fun k=>WA scope.names (nm k))
theorem NR{scope sc tgt cap}(h:SD scope sc tgt cap=true):ScOk scope sc tgt cap:=by
 unfold SD at h
 simp only[Bool.and_eq_true,List.all_eq_true]at h
 revert h;refine oA2 ?_;rintro⟨⟨⟨h1,h2⟩,h3⟩,h4⟩ h5
 refine⟨?_,KD h2,fun x hx e=>?_,fun x hx e=>?_,LP h4,fun k hk=>TK (h5 k hk)⟩
 ·split at h1
  ·assumption
  ·exact noF h1
 ·have:=h3 x hx;rw[e]at this;exact noF this
 ·have:=h3 x hx;rw[e]at this;exact MQ this
set_option genInjectivity false
set_option genSizeOf false
structure Pl where
 a:Expr:=default
 b:Expr:=default
 d:Expr:=default
 es:List Expr:=default
 i:Str:=default
 p:Pos:=default
 c:Const:=.none
 uo:UnaryOp:=default
 bo:Operator:=default
 cs:List CmpOp:=default
 lo:BoolOp:=default
 x:Option Expr:=default
 y:Option Expr:=default
 z:Option Expr:=default
 ks:List (Option Expr):=default
 gs:List Comprehension:=default
 s:Scope:=default
 kw:List Keyword:=default
noncomputable def ev:Expr->Nat×Pl
 | .Constant c _ _=>(1,{c:=c })
 | .UnaryOp o a _=>(2,{uo:=o,a:=a })
 | .Name i _=>(3,{i:=i })
 | .Attribute a i p=>(4,{a:=a,i:=i,p:=p })
 | .BinOp a o b _=>(5,{a:=a,bo:=o,b:=b })
 | .Compare a o b _=>(6,{a:=a,cs:=o,es:=b })
 | .BoolOp o es _=>(7,{lo:=o,es:=es })
 | .IfExp a b d _=>(8,{a:=a,b:=b,d:=d })
 | .Subscript a b _=>(9,{a:=a,b:=b })
 | .Slice a b d _=>(10,{x:=a,y:=b,z:=d })
 | .List es _=>(11,{es:=es })
 | .Tuple es _ _=>(12,{es:=es })
 | .Dict ks es _=>(13,{ks:=ks,es:=es })
 | .ListComp a l s p=>(14,{a:=a,gs:=l,s:=s,p:=p })
 | .Call f es ks p=>(15,{a:=f,es:=es,kw:=ks,p:=p })
 | _=>(0,{})
noncomputable def GE(e:Expr)(q:Pl):Nat->Prop
 | 1=>∃ k p,e = .Constant q.c k p
 | 2=>∃ p,e = .UnaryOp (q.uo,q.a).1 (q.uo,q.a).2 p
 | 3=>∃ p,e = .Name q.i p
 | 4=>e = .Attribute (q.a,q.i,q.p).1 (q.a,q.i,q.p).2.1 (q.a,q.i,q.p).2.2
 | 5=>∃ p,e = .BinOp (q.a,q.bo,q.b).1 (q.a,q.bo,q.b).2.1 (q.a,q.bo,q.b).2.2 p
 | 6=>∃ p,e = .Compare (q.a,q.cs,q.es).1 (q.a,q.cs,q.es).2.1 (q.a,q.cs,q.es).2.2 p
 | 7=>∃ p,e = .BoolOp (q.lo,q.es).1 (q.lo,q.es).2 p
 | 8=>∃ p,e = .IfExp (q.a,q.b,q.d).1 (q.a,q.b,q.d).2.1 (q.a,q.b,q.d).2.2 p
 | 9=>∃ p,e = .Subscript (q.a,q.b).1 (q.a,q.b).2 p
 | 10=>∃ p,e = .Slice (q.x,q.y,q.z).1 (q.x,q.y,q.z).2.1 (q.x,q.y,q.z).2.2 p
 | 11=>∃ p,e = .List q.es p
 | 12=>∃ k p,e = .Tuple q.es k p
 | 13=>∃ p,e = .Dict (q.ks,q.es).1 (q.ks,q.es).2 p
 | 14=>e = .ListComp (q.a,q.gs,q.s,q.p).1 (q.a,q.gs,q.s,q.p).2.1 (q.a,q.gs,q.s,q.p).2.2.1 (q.a,q.gs,q.s,q.p).2.2.2
 | 15=>e = .Call (q.a,q.es,q.kw,q.p).1 (q.a,q.es,q.kw,q.p).2.1 (q.a,q.es,q.kw,q.p).2.2.1 (q.a,q.es,q.kw,q.p).2.2.2
 | _=>True
theorem FE(e:Expr):GE e (ev e).2 (ev e).1:=by induction e using Expr.casesOn<;>first | exact⟨_,rfl⟩ | exact⟨_,_,rfl⟩ | exact rfl | exact⟨⟩
theorem tg{α:Type}{n k:Nat}{a b:α}(h:(if n=k then some a else none)=some b):n=k/\a=b:=by
 by_cases e:n=k
 ·rw[if_pos e]at h;exact⟨e,Option.some.inj h⟩
 ·rw[if_neg e]at h;exact noS h
noncomputable def FJ(e:Expr):Option (Const):=if(ev e).1=1 then some (ev e).2.c else none
theorem DJ{e:Expr}{x:Const}(h:FJ e=some x):∃ k p,e = .Constant x k p:=by
 rw[← (tg h).2];exact((tg h).1▸FE e:GE e (ev e).2 1)
noncomputable def vUn(e:Expr):Option (UnaryOp×Expr):=if(ev e).1=2 then some ((ev e).2.uo,(ev e).2.a)else none
theorem a3l{e:Expr}{x:UnaryOp×Expr}(h:vUn e=some x):∃ p,e = .UnaryOp x.1 x.2 p:=by
 rw[← (tg h).2];exact((tg h).1▸FE e:GE e (ev e).2 2)
noncomputable def EB(e:Expr):Option (Str):=if(ev e).1=3 then some (ev e).2.i else none
theorem CK{e:Expr}{x:Str}(h:EB e=some x):∃ p,e = .Name x p:=by
 rw[← (tg h).2];exact((tg h).1▸FE e:GE e (ev e).2 3)
noncomputable def UJ(e:Expr):Option (Expr×Str×Pos):=if(ev e).1=4 then some ((ev e).2.a,(ev e).2.i,(ev e).2.p)else none
theorem PD{e:Expr}{x:Expr×Str×Pos}(h:UJ e=some x):e = .Attribute x.1 x.2.1 x.2.2:=by
 rw[← (tg h).2];exact((tg h).1▸FE e:GE e (ev e).2 4)
noncomputable def b3y(e:Expr):Option (Expr×Operator×Expr):=if(ev e).1=5 then some ((ev e).2.a,(ev e).2.bo,(ev e).2.b)else none
theorem b1v{e:Expr}{x:Expr×Operator×Expr}(h:b3y e=some x):∃ p,e = .BinOp x.1 x.2.1 x.2.2 p:=by
 rw[← (tg h).2];exact((tg h).1▸FE e:GE e (ev e).2 5)
noncomputable def a7c(e:Expr):Option (Expr×List CmpOp×List Expr):=if(ev e).1=6 then some ((ev e).2.a,(ev e).2.cs,(ev e).2.es)else none
theorem ZI{e:Expr}{x:Expr×List CmpOp×List Expr}(h:a7c e=some x):∃ p,e = .Compare x.1 x.2.1 x.2.2 p:=by
 rw[← (tg h).2];exact((tg h).1▸FE e:GE e (ev e).2 6)
noncomputable def a1b(e:Expr):Option (BoolOp×List Expr):=if(ev e).1=7 then some ((ev e).2.lo,(ev e).2.es)else none
theorem WB{e:Expr}{x:BoolOp×List Expr}(h:a1b e=some x):∃ p,e = .BoolOp x.1 x.2 p:=by
 rw[← (tg h).2];exact((tg h).1▸FE e:GE e (ev e).2 7)
noncomputable def vIf(e:Expr):Option (Expr×Expr×Expr):=if(ev e).1=8 then some ((ev e).2.a,(ev e).2.b,(ev e).2.d)else none
theorem b3z{e:Expr}{x:Expr×Expr×Expr}(h:vIf e=some x):∃ p,e = .IfExp x.1 x.2.1 x.2.2 p:=by
 rw[← (tg h).2];exact((tg h).1▸FE e:GE e (ev e).2 8)
noncomputable def PE(e:Expr):Option (Expr×Expr):=if(ev e).1=9 then some ((ev e).2.a,(ev e).2.b)else none
theorem IU{e:Expr}{x:Expr×Expr}(h:PE e=some x):∃ p,e = .Subscript x.1 x.2 p:=by
 rw[← (tg h).2];exact((tg h).1▸FE e:GE e (ev e).2 9)
noncomputable def vSl(e:Expr):Option (Option Expr×Option Expr×Option Expr):=if(ev e).1=10 then some ((ev e).2.x,(ev e).2.y,(ev e).2.z)else none
theorem WC{e:Expr}{x:Option Expr×Option Expr×Option Expr}(h:vSl e=some x):∃ p,e = .Slice x.1 x.2.1 x.2.2 p:=by
 rw[← (tg h).2];exact((tg h).1▸FE e:GE e (ev e).2 10)
noncomputable def a9p(e:Expr):Option (List Expr):=if(ev e).1=11 then some (ev e).2.es else none
theorem a7d{e:Expr}{x:List Expr}(h:a9p e=some x):∃ p,e = .List x p:=by
 rw[← (tg h).2];exact((tg h).1▸FE e:GE e (ev e).2 11)
noncomputable def SE(e:Expr):Option (List Expr):=if(ev e).1=12 then some (ev e).2.es else none
theorem KN{e:Expr}{x:List Expr}(h:SE e=some x):∃ k p,e = .Tuple x k p:=by
 rw[← (tg h).2];exact((tg h).1▸FE e:GE e (ev e).2 12)
noncomputable def a9q(e:Expr):Option (List (Option Expr)×List Expr):=if(ev e).1=13 then some ((ev e).2.ks,(ev e).2.es)else none
theorem a7e{e:Expr}{x:List (Option Expr)×List Expr}(h:a9q e=some x):∃ p,e = .Dict x.1 x.2 p:=by
 rw[← (tg h).2];exact((tg h).1▸FE e:GE e (ev e).2 13)
noncomputable def vLC(e:Expr):Option (Expr×List Comprehension×Scope×Pos):=if(ev e).1=14 then some ((ev e).2.a,(ev e).2.gs,(ev e).2.s,(ev e).2.p)else none
theorem QL{e:Expr}{x:Expr×List Comprehension×Scope×Pos}(h:vLC e=some x):e = .ListComp x.1 x.2.1 x.2.2.1 x.2.2.2:=by
 rw[← (tg h).2];exact((tg h).1▸FE e:GE e (ev e).2 14)
noncomputable def LQ(e:Expr):Option (Expr×List Expr×List Keyword×Pos):=if(ev e).1=15 then some ((ev e).2.a,(ev e).2.es,(ev e).2.kw,(ev e).2.p)else none
theorem HN{e:Expr}{x:Expr×List Expr×List Keyword×Pos}(h:LQ e=some x):e = .Call x.1 x.2.1 x.2.2.1 x.2.2.2:=by
 rw[← (tg h).2];exact((tg h).1▸FE e:GE e (ev e).2 15)
noncomputable def a9r:Const->Option (Bool)
 | .bool b=>some b
 | _=>none
theorem a7f{e:Const}{x:Bool}(h:a9r e=some x):e = .bool x:=by
 induction e using Const.casesOn<;>first | exact noS h | exact congrArg _ (Option.some.inj h)
noncomputable def a1c:Const->Option (Int)
 | .int b=>some b
 | _=>none
theorem SG{e:Const}{x:Int}(h:a1c e=some x):e = .int x:=by
 induction e using Const.casesOn<;>first | exact noS h | exact congrArg _ (Option.some.inj h)
noncomputable def SH:Const->Option (Str)
 | .str b=>some b
 | _=>none
theorem KO{e:Const}{x:Str}(h:SH e=some x):e = .str x:=by
 induction e using Const.casesOn<;>first | exact noS h | exact congrArg _ (Option.some.inj h)
noncomputable def a3m:Const->Option (List UInt8)
 | .bytes b=>some b
 | _=>none
theorem a3n{e:Const}{x:List UInt8}(h:a3m e=some x):e = .bytes x:=by
 induction e using Const.casesOn<;>first | exact noS h | exact congrArg _ (Option.some.inj h)
structure MPl where
 k:Nat:=0
 s:Str:=default
 a:ME:=.none
 b:ME:=.none
 l:List ME:=[]
noncomputable def mv:ME->Nat×MPl
 | .var k=>(1,{k:=k })
 | .str s=>(2,{s:=s })
 | .and a b=>(3,{a:=a,b:=b })
 | .or a b=>(4,{a:=a,b:=b })
 | .idx a b=>(5,{a:=a,b:=b })
 | .tup l=>(6,{l:=l })
 | _=>(0,{})
noncomputable def PF(e:ME)(q:MPl):Nat->Prop
 | 1=>e = .var q.k
 | 2=>e = .str q.s
 | 3=>e = .and (q.a,q.b).1 (q.a,q.b).2
 | 4=>e = .or (q.a,q.b).1 (q.a,q.b).2
 | 5=>e = .idx (q.a,q.b).1 (q.a,q.b).2
 | 6=>e = .tup q.l
 | _=>True
theorem NS(e:ME):PF e (mv e).2 (mv e).1:=by induction e using ME.casesOn<;>first | exact rfl | exact⟨⟩
noncomputable def WD(e:ME):Option (Nat):=if(mv e).1=1 then some (mv e).2.k else none
theorem NT{e:ME}{x:Nat}(h:WD e=some x):e = .var x:=by
 rw[← (tg h).2];exact((tg h).1▸NS e:PF e (mv e).2 1)
noncomputable def a7g(e:ME):Option (Str):=if(mv e).1=2 then some (mv e).2.s else none
theorem ZJ{e:ME}{x:Str}(h:a7g e=some x):e = .str x:=by
 rw[← (tg h).2];exact((tg h).1▸NS e:PF e (mv e).2 2)
noncomputable def b4a(e:ME):Option (ME×ME):=if(mv e).1=3 then some ((mv e).2.a,(mv e).2.b)else none
theorem b1w{e:ME}{x:ME×ME}(h:b4a e=some x):e = .and x.1 x.2:=by
 rw[← (tg h).2];exact((tg h).1▸NS e:PF e (mv e).2 3)
noncomputable def mOr(e:ME):Option (ME×ME):=if(mv e).1=4 then some ((mv e).2.a,(mv e).2.b)else none
theorem b4b{e:ME}{x:ME×ME}(h:mOr e=some x):e = .or x.1 x.2:=by
 rw[← (tg h).2];exact((tg h).1▸NS e:PF e (mv e).2 4)
noncomputable def b4c(e:ME):Option (ME×ME):=if(mv e).1=5 then some ((mv e).2.a,(mv e).2.b)else none
theorem b1x{e:ME}{x:ME×ME}(h:b4c e=some x):e = .idx x.1 x.2:=by
 rw[← (tg h).2];exact((tg h).1▸NS e:PF e (mv e).2 5)
noncomputable def b4d(e:ME):Option (List ME):=if(mv e).1=6 then some (mv e).2.l else none
theorem b1y{e:ME}{x:List ME}(h:b4d e=some x):e = .tup x:=by
 rw[← (tg h).2];exact((tg h).1▸NS e:PF e (mv e).2 6)
noncomputable def a9s:Const->Bool
 | .none=>true
 | _=>false
theorem a7h{e:Const}(h:a9s e=true):e = .none:=by induction e using Const.casesOn<;>first | rfl | exact Bool.noConfusion h
noncomputable def a9t:UnaryOp->Bool
 | .Not=>true
 | _=>false
theorem a7i{e:UnaryOp}(h:a9t e=true):e = .Not:=by induction e using UnaryOp.casesOn<;>first | rfl | exact Bool.noConfusion h
noncomputable def a9u:UnaryOp->Bool
 | .USub=>true
 | _=>false
theorem a7j{e:UnaryOp}(h:a9u e=true):e = .USub:=by induction e using UnaryOp.casesOn<;>first | rfl | exact Bool.noConfusion h
noncomputable def a9v:BoolOp->Bool
 | .And=>true
 | .Or=>false
noncomputable def WE:Mt->Bool
 | .replace=>true
 | _=>false
theorem a3o{e:Mt}(h:WE e=true):e = .replace:=by induction e using Mt.casesOn<;>first | rfl | exact Bool.noConfusion h
noncomputable def three{α:Type}:List α->Option (α×α×α)
 | [a,b,c]=>some (a,b,c)
 | _=>none
theorem WF{α:Type}{l:List α}{a:α×α×α}(h:three l=some a):l=[a.1,a.2.1,a.2.2]:=by
 induction l using List.casesOn with
 | nil=>exact noS h
 | cons b r=>induction r using List.casesOn with
  | nil=>exact noS h
  | cons c r=>induction r using List.casesOn with
   | nil=>exact noS h
   | cons d r=>induction r using List.casesOn with
    | nil=>rw[← Option.some.inj h]
    | cons _ _=>exact noS h
noncomputable def ckN(sc:Sc)(k:Nat)(id:Str):Bool:=nm k==id&&(a1a sc id&&DY id)
theorem JG{sc k id}(h:ckN sc k id=true):nm k=id/\(sc.lookup id=some .local\/sc.lookup id=some .cell\/sc.lookup id=some .free)/\DY id=true:=⟨CV (a2 h).1,a7b (a2 (a2 h).2).1,(a2 (a2 h).2).2⟩
noncomputable def ckG(l:List Comprehension)(tgt:Nat)(f:Comprehension->Bool):Bool:=an (one l) fun c=>an (EB c.target) fun id=>nm tgt==id&&(decide (c.is_async=0)&&f c)
theorem QM{l tgt f}(h:ckG l tgt f=true):∃ p it ifs,l=[⟨.Name (nm tgt) p,it,ifs,0⟩]/\f ⟨.Name (nm tgt) p,it,ifs,0⟩=true:=by
 refine AD ?_<|AJ h;rintro⟨t,it,ifs,n⟩ h1 h
 refine AD ?_<|AJ h;intro id h2 h
 refine AR ?_<|CK h2;intro p h4
 clear h2
 have e1:=CV (a2 h).1
 have e2:n=0:=of_decide_eq_true (a2 (a2 h).2).1
 have h3:=(a2 (a2 h).2).2
 dsimp only at h4
 subst e1;subst e2;subst h4
 exact⟨p,it,ifs,EP h1,h3⟩
section
variable (r:Sc->Expr->ME->Bool)
noncomputable def PG(sc:Sc):List Expr->List ME->Bool
 | [],ms=>nul ms
 | e::es,ms=>match ms with
  | []=>false
  | m::ms=>r sc e m&&(BG e&&PG sc es ms)
noncomputable def ckB(op:BoolOp)(sc:Sc):List Expr->ME->Bool
 | [],_=>false
 | a::l,m=>match l with
  | []=>r sc a m
  | b::l'=>an (match a9v op with | true=>b4a m | false=>mOr m) fun p=>r sc a p.1&&ckB op sc (b::l') p.2
noncomputable def SI(sc:Sc)(es:List Expr)(ms:List ME):Bool:=match es with
 | []=>nul ms
 | e::es=>nul es&&an (one ms) fun m=>r sc e m
noncomputable def ckQ(sc:Sc)(e:Expr)(m:ME):Bool:=an (WD m) (fun k=>an (EB e) fun id=>ckN sc k id) ||
 an (b4c m) fun p=>an (WD p.1) fun k1=>an (WD p.2) fun k2=>an (PE e) fun q=>an (EB q.1) fun i1=>an (EB q.2) fun i2=>ckN sc k1 i1&&ckN sc k2 i2
noncomputable def b4e(sc:Sc)(e:Expr)(m:ME):Bool:=ckQ sc e m||an (SE e) fun es=>an (three es) fun a=>an (b4d m) fun ms=>an (three ms) fun b =>
 (ckQ sc a.1 b.1&&(ckQ sc a.2.1 b.2.1&&ckQ sc a.2.2 b.2.2))&&(BG a.1&&(BG a.2.1&&BG a.2.2))
noncomputable def MR(sc:Sc)(e:Expr)(ms:List ME)(f:Str->Bool):Bool:=an (LQ e) fun c=>nul c.2.2.1&&an (EB c.1) fun id=>(PG r sc c.2.1 ms&&c.2.1.all BG)&&((IB sc id&&DY id)&&f id)
noncomputable def a3p(sc:Sc)(es:List Expr)(ms:List ME):Bool:=an (two es) fun a=>an (two ms) fun b=>an (FJ a.1) fun c=>an (SH c) fun y=>an (a7g b.1) fun y'=>(y==y'&&(fits y.length&&BG a.2)) &&
 (an (WD b.2) (fun k=>an (EB a.2) fun id=>ckN sc k id)||an (a7g b.2) fun z'=>an (FJ a.2) fun c=>an (SH c) fun z=>z==z'&&fits z.length)
noncomputable def b4f(sc:Sc)(e:Expr)(me:ME):Bool:=match me with
 | .none=>an (FJ e) a9s
 | .bool b=>an (FJ e) fun c=>an (a9r c) fun x=>x==b
 | .int i=>an (FJ e) (fun c=>an (a1c c) fun x=>x==i)||an (vUn e) fun p=>a9u p.1&&an (FJ p.2) fun c=>an (a1c c) fun x => -x==i
 | .str x=>an (FJ e) fun c=>an (SH c) fun y=>y==x&&fits x.length
 | .bytes x=>an (FJ e) fun c=>an (a3m c) fun y=>decide (y=x)&&fits x.length
 | .var k=>an (EB e) fun id=>ckN sc k id
 | .glob k=>an (EB e) fun id=>IB sc id&&(DY id&&gnames.contains (id,k))
 | .attr m k=>an (UJ e) fun a=>r sc a.1 m&&(nm k==a.2.1&&DH a.1)
 | .bin op ma mb=>an (b3y e) fun a=>a9o op a.2.1&&(r sc a.1 ma&&r sc a.2.2 mb)
 | .cmp op ma mb=>an (a7c e) fun a=>an (one a.2.1) fun o=>an (one a.2.2) fun b=>UI op o&&(r sc a.1 ma&&(r sc b mb && !behindInMarks o b))
 | .cmp2 ma op mb op' md=>an (a7c e) fun a=>an (two a.2.1) fun o=>an (two a.2.2) fun b=>(UI op o.1&&UI op' o.2)&&((r sc a.1 ma&&(r sc b.1 mb&&r sc b.2 md)) && !behindInMarks o.2 b.2)
 | .and _ _=>an (a1b e) fun p=>a9v p.1&&ckB r p.1 sc p.2 me
 | .or _ _=>an (a1b e) fun p=>ckB r p.1 sc p.2 me
 | .not m=>an (vUn e) fun p=>a9t p.1&&r sc p.2 m
 | .ite mc ma mb=>an (vIf e) fun p=>r sc p.1 mc&&(r sc p.2.1 ma&&r sc p.2.2 mb)
 | .idx ma mb=>an (PE e) fun p=>r sc p.1 ma&&(r sc p.2 mb&&OX p.2)
 | .sliceL ma mb=>an (PE e) fun p=>an (vSl p.2) fun q=>an q.1 fun b=>(isN q.2.1&&isN q.2.2)&&(r sc p.1 ma&&r sc b mb)
 | .sliceR ma mb=>an (PE e) fun p=>an (vSl p.2) fun q=>an q.2.1 fun b=>(isN q.1&&isN q.2.2)&&(r sc p.1 ma&&r sc b mb)
 | .sliceB ma mb md=>an (PE e) fun p=>an (vSl p.2) fun q=>an q.1 fun b=>an q.2.1 fun d=>isN q.2.2&&(r sc p.1 ma&&(r sc b mb&&r sc d md))
 | .lst ms=>an (a9p e) fun es=>PG r sc es ms&&fits es.length
 | .tup ms=>an (SE e) fun es=>PG r sc es ms&&fits es.length
 | .dct ks ms=>an (a9q e) fun p=>(nul p.1&&(nul p.2&&(nul ks&&nul ms))) ||
   an (two p.1) fun q=>an (two p.2) fun b=>an (two ks) fun j=>an (two ms) fun m=>an q.1 fun e1=>an q.2 fun e2=>an (FJ e1) fun c1=>an (FJ e2) fun c2=>an (SH c1) fun k1=>an (SH c2) fun k2=>(k1==j.1&&(k2==j.2 && !(k1==k2)))&&(r sc b.1 m.1&&r sc b.2 m.2)
 | .comp m tgt mit mifs cap=>an (vLC e) fun a=>ckG a.2.1 tgt fun c=>(SD a.2.2.1 sc tgt cap&&FI c.iter)&&(r (relab a.2.2.1.names sc) a.1 m&&(r sc c.iter mit&&SI r (relab a.2.2.1.names sc) c.ifs mifs))
 | .compR m tgt mn cap=>an (vLC e) fun a=>ckG a.2.1 tgt fun c=>nul c.ifs&&an (LQ c.iter) fun q=>nul q.2.2.1&&an (EB q.1) fun f=>an (one q.2.1) fun nn=>(f==Str.ofString "range"&&SD a.2.2.1 sc tgt cap)&&(r (relab a.2.2.1.names sc) a.1 m&&(r sc nn mn&&(BG nn&&IB sc (Str.ofString "range"))))
 | .compD m tgt mit cap=>an (vLC e) fun a=>ckG a.2.1 tgt fun c=>nul c.ifs&&((SD a.2.2.1 sc tgt cap&&FI c.iter)&&(b4e (relab a.2.2.1.names sc) a.1 m&&r sc c.iter mit))
 | .call f ms=>MR r sc e ms fun id=>fnames.contains (id,f)
 | .new c ms=>MR r sc e ms fun id=>cnames.contains (id,c)
 | .bi f ms=>MR r sc e ms fun id=>bnames.contains (id,biV f)
 | .meth ma m ms=>an (LQ e) fun c=>nul c.2.2.1&&an (UJ c.1) fun a=>(r sc a.1 ma&&(DH a.1&&(a.2.2.endLine==c.2.2.2.line)))&&match WE m with
   | true=>a.2.1==Str.ofString "replace"&&a3p sc c.2.1 ms
   | false=>(mname m==a.2.1&&PG r sc c.2.1 ms)&&(c.2.1.all BG&&decide (c.2.1.length<30))
end
noncomputable def ckE:Nat->Sc->Expr->ME->Bool
 | 0=>fun _ _ _=>false
 | n+1=>b4f (ckE n)
section
variable {g:G}{r:Sc->Expr->ME->Bool}{sc:Sc}
theorem KP(hr:∀ sc e me,r sc e me=true->Snd g sc e me):∀ (es:List Expr) {ms:List ME},PG r sc es ms=true->FO g sc es ms:=by
 intro es
 induction es with
 | nil=>intro ms h;rw[CJ h];exact fun hT c h=>JO hT c h
 | cons e es ih =>
  intro ms h
  induction ms using List.casesOn with
  | nil=>exact Bool.noConfusion h
  | cons m ms=>exact fun hT c=>HD (hr _ _ _ (a2 h).1) (ih (a2 (a2 h).2).2) (a2 (a2 h).2).1 hT c
theorem a3q(hr:∀ sc e me,r sc e me=true->Snd g sc e me){op:BoolOp}:∀ (es:List Expr) {m:ME},ckB r op sc es m=true->VF g sc op es m/\VG g sc op es m:=by
 intro es
 induction es with
 | nil=>intro m h;exact Bool.noConfusion h
 | cons a l ih =>
  intro m h
  induction l using List.casesOn with
  | nil=>exact a5s (hr _ _ _ h)
  | cons b l =>
   refine AD ?_<|AJ h;intro p h1 h
   have e:m=mB op p.1 p.2:=by induction op using BoolOp.casesOn<;>first | exact b1w h1 | exact b4b h1
   rw[e]
   exact a2o (hr _ _ _ (a2 h).1) (ih (a2 h).2)
theorem QN(hr:∀ sc e me,r sc e me=true->Snd g sc e me){es:List Expr}{ms:List ME}(h:SI r sc es ms=true):Tests g sc es ms:=by
 induction es using List.casesOn with
 | nil=>rw[CJ h];exact .none
 | cons e es =>
  refine AD ?_<|AJ (a2 h).2;intro m h1 h2
  rw[CJ (a2 h).1,EP h1]
  exact .one (hr _ _ _ h2)
theorem WG{k:Nat}{id:Str}{p:Pos}(h:ckN sc k id=true):Quiet g sc (.Name id p) (.var k):=fun hT c h' hP=>a2z (JG h).1 (JG h).2.1 (JG h).2.2 hT c h' hP
theorem QO{e:Expr}{m:ME}(h:ckQ sc e m=true):Quiet g sc e m:=by
 rcases Bool.or_eq_true_iff.mp h with h | h
 ·refine AD ?_<|AJ h;intro k h1 h
  refine AD ?_<|AJ h;intro id h2 h
  refine AR ?_<|CK h2;intro p h2
  rw[NT h1,h2]
  exact fun hT c h' hP=>WG h hT c h' hP
 ·refine AD ?_<|AJ h;intro q h1 h
  refine AD ?_<|AJ h;intro k1 h2 h
  refine AD ?_<|AJ h;intro k2 h3 h
  refine AD ?_<|AJ h;intro s h4 h
  refine AD ?_<|AJ h;intro i1 h5 h
  refine AD ?_<|AJ h;intro i2 h6 h
  refine AR ?_<|IU h4;intro p h4
  refine AR ?_<|CK h5;intro p1 h5
  refine AR ?_<|CK h6;intro p2 h6
  rw[b1x h1,NT h2,NT h3,h4,h5,h6]
  exact fun hT c h' hP=>a3a (WG (a2 h).1) (WG (a2 h).2) rfl hT c h' hP
theorem b1z{e:Expr}{m:ME}(h:b4e sc e m=true):Quiet g sc e m:=by
 rcases Bool.or_eq_true_iff.mp h with h | h
 ·exact fun hT c h' hP=>QO h hT c h' hP
 ·refine AD ?_<|AJ h;intro es h1 h
  refine AD ?_<|AJ h;intro a h2 h
  refine AD ?_<|AJ h;intro ms h3 h
  refine AD ?_<|AJ h;intro b h4 h
  refine II ?_<|KN h1;intro k p h1
  rw[h1,WF h2,b1y h3,WF h4]
  refine oA2 ?_<|a2 h;intro h n
  exact fun hT c h' hP=>a0u (QO (a2 h).1) (QO (a2 (a2 h).2).1) (QO (a2 (a2 h).2).2) (a2 n).1 (a2 (a2 n).2).1 (a2 (a2 n).2).2 hT c h' hP
theorem JW(hr:∀ sc e me,r sc e me=true->Snd g sc e me){e:Expr}{ms:List ME}{f:Str->Bool}(h:MR r sc e ms f=true):∃ id p es pos,e = .Call (.Name id p) es [] pos/\FO g sc es ms/\es.all BG=true/\sc.lookup id=some .globalImplicit/\DY id=true/\f id=true:=by
 refine AD ?_<|AJ h;intro c h1 h
 refine oA2 ?_<|a2 h;intro h2 h
 refine AD ?_<|AJ h;intro id h3 h
 refine AR ?_<|CK h3;intro p h3
 refine oA2 ?_<|a2 h;intro h4 h5
 exact⟨id,p,c.2.1,c.2.2.2,by rw[HN h1,h3,CJ h2],fun hT c=>KP hr _ (a2 h4).1 hT c,(a2 h4).2,FU (a2 (a2 h5).1).1,(a2 (a2 h5).1).2,(a2 h5).2⟩
theorem MT{α:Type} [BEq α] [LawfulBEq α]{l:List α}{a:α}(h:l.contains a=true):a∈l:=List.contains_iff_mem.mp h
theorem a3r(hg:Ok g){a:Expr}{ma:ME}{apos pos:Pos}{es:List Expr}{ms:List ME}(ha:Snd g sc a ma)(hb:DH a=true)(hp:(apos.endLine==pos.line)=true)(h:a3p sc es ms=true):Snd g sc (.Call (.Attribute a (Str.ofString "replace") apos) es [] pos) (.meth ma .replace ms):=by
 refine AD ?_<|AJ h;intro u h1 h
 refine AD ?_<|AJ h;intro b h2 h
 refine AD ?_<|AJ h;intro c h3 h
 refine AD ?_<|AJ h;intro y h4 h
 refine AD ?_<|AJ h;intro y' h5 h
 refine II ?_<|DJ h3;intro k p h3
 refine oA2 ?_<|a2 h;intro h6 h7
 rw[GI h1,GI h2,h3,KO h4,ZJ h5,← CV (a2 h6).1]
 refine YV hg ha (a2 (a2 h6).2).1 hb (a2 (a2 h6).2).2 hp ?_
 rcases Bool.or_eq_true_iff.mp h7 with h | h
 ·refine AD ?_<|AJ h;intro j h8 h
  refine AD ?_<|AJ h;intro id h9 h
  refine AR ?_<|CK h9;intro q h9
  exact .inl ⟨j,id,q,h9,NT h8,JG h⟩
 ·refine AD ?_<|AJ h;intro z' h8 h
  refine AD ?_<|AJ h;intro c' h9 h
  refine AD ?_<|AJ h;intro z h10 h
  refine II ?_<|DJ h9;intro k' q h9
  exact .inr ⟨z,k',q,by rw[h9,KO h10],by rw[ZJ h8,CV (a2 h).1],(a2 h).2⟩
theorem b2a(hg:Ok g)(hr:∀ sc e me,r sc e me=true->Snd g sc e me){e:Expr}{me:ME}(h:b4f r sc e me=true):Snd g sc e me:=by
 induction me using ME.casesOn with
 | none=>refine AD ?_<|AJ h;intro c h1 h;refine II ?_<|DJ h1;intro k p h1;rw[h1,a7h h];exact a5p
 | bool b=>refine AD ?_<|AJ h;intro c h1 h;refine II ?_<|DJ h1;intro k p h1;refine AD ?_<|AJ h;intro x h2 h;rw[h1,a7f h2,CV h];exact a5q
 | int i =>
  rcases Bool.or_eq_true_iff.mp h with h | h
  ·refine AD ?_<|AJ h;intro c h1 h;refine II ?_<|DJ h1;intro k p h1;refine AD ?_<|AJ h;intro x h2 h;rw[h1,SG h2,CV h];exact ZC
  ·refine AD ?_<|AJ h;intro q h0 h;refine AR ?_<|a3l h0;intro p0 h0;refine oA2 ?_<|a2 h;intro h3 h;refine AD ?_<|AJ h;intro c h1 h;refine II ?_<|DJ h1;intro k p h1;refine AD ?_<|AJ h;intro x h2 h;rw[h0,a7j h3,h1,SG h2,← CV h];exact b0y
 | str x=>refine AD ?_<|AJ h;intro c h1 h;refine II ?_<|DJ h1;intro k p h1;refine AD ?_<|AJ h;intro y h2 h;rw[h1,KO h2,CV (a2 h).1];exact b0x (a2 h).2
 | bytes x=>refine AD ?_<|AJ h;intro c h1 h;refine II ?_<|DJ h1;intro k p h1;refine AD ?_<|AJ h;intro y h2 h;rw[h1,a3n h2,of_decide_eq_true (a2 h).1];exact a2n (a2 h).2
 | var k=>refine AD ?_<|AJ h;intro id h1 h;refine AR ?_<|CK h1;intro p h1;rw[h1];exact b1f (JG h).1 (JG h).2.1 (JG h).2.2
 | glob k=>refine AD ?_<|AJ h;intro id h1 h;refine AR ?_<|CK h1;intro p h1;rw[h1];exact a5t hg (FU (a2 h).1) (a2 (a2 h).2).1 (MT (a2 (a2 h).2).2)
 | attr m k=>refine AD ?_<|AJ h;intro a h1 h;rw[PD h1];exact a5u hg (hr _ _ _ (a2 h).1) (CV (a2 (a2 h).2).1) (a2 (a2 h).2).2
 | bin op ma mb=>refine AD ?_<|AJ h;intro a h1 h;refine AR ?_<|b1v h1;intro p h1;rw[h1,a7a (a2 h).1];exact b0z (hr _ _ _ (a2 (a2 h).2).1) (hr _ _ _ (a2 (a2 h).2).2)
 | cmp op ma mb =>
  refine AD ?_<|AJ h;intro a h1 h;refine AR ?_<|ZI h1;intro p h1;refine AD ?_<|AJ h;intro o h2 h;refine AD ?_<|AJ h;intro b h3 h
  refine oA2 ?_<|a2 h;intro h4 h;refine oA2 ?_<|a2 h;intro h5 h;refine oA2 ?_<|a2 h;intro h6 h
  rw[LO h4]at h h2;rw[h1,EP h2,EP h3];exact b1a (hr _ _ _ h5) (hr _ _ _ h6) (Bool.not_eq_true' _▸h)
 | cmp2 ma op mb op' md =>
  refine AD ?_<|AJ h;intro a h1 h;refine AR ?_<|ZI h1;intro p h1;refine AD ?_<|AJ h;intro o h2 h;refine AD ?_<|AJ h;intro b h3 h
  refine oA2 ?_<|a2 h;intro h4 h;refine oA2 ?_<|a2 h;intro h5 h
  rw[LO (a2 h4).2]at h;rw[h1,GI h2,GI h3,LO (a2 h4).1,LO (a2 h4).2]
  exact a5r (hr _ _ _ (a2 h5).1) (hr _ _ _ (a2 (a2 h5).2).1) (hr _ _ _ (a2 (a2 h5).2).2) (Bool.not_eq_true' _▸h)
 | and x y=>refine AD ?_<|AJ h;intro p h1 h;refine AR ?_<|WB h1;intro q h1;rw[h1];exact QB (a3q hr _ (a2 h).2)
 | or x y=>refine AD ?_<|AJ h;intro p h1 h;refine AR ?_<|WB h1;intro q h1;rw[h1];exact QB (a3q hr _ h)
 | not m=>refine AD ?_<|AJ h;intro p h1 h;refine AR ?_<|a3l h1;intro q h1;rw[h1,a7i (a2 h).1];exact b1b (hr _ _ _ (a2 h).2)
 | ite mc ma mb=>refine AD ?_<|AJ h;intro p h1 h;refine AR ?_<|b3z h1;intro q h1;rw[h1];exact b1c (hr _ _ _ (a2 h).1) (hr _ _ _ (a2 (a2 h).2).1) (hr _ _ _ (a2 (a2 h).2).2)
 | idx ma mb=>refine AD ?_<|AJ h;intro p h1 h;refine AR ?_<|IU h1;intro q h1;rw[h1];exact b1g (hr _ _ _ (a2 h).1) (hr _ _ _ (a2 (a2 h).2).1) (a2 (a2 h).2).2
 | sliceL ma mb =>
  refine AD ?_<|AJ h;intro p h1 h;refine AR ?_<|IU h1;intro q h1;refine AD ?_<|AJ h;intro u h2 h;refine AR ?_<|WC h2;intro v h2;refine AD ?_<|AJ h;intro b h3 h
  rw[h1,h2,h3,KM (a2 (a2 h).1).1,KM (a2 (a2 h).1).2];exact a0m (hr _ _ _ (a2 (a2 h).2).1) (hr _ _ _ (a2 (a2 h).2).2)
 | sliceR ma mb =>
  refine AD ?_<|AJ h;intro p h1 h;refine AR ?_<|IU h1;intro q h1;refine AD ?_<|AJ h;intro u h2 h;refine AR ?_<|WC h2;intro v h2;refine AD ?_<|AJ h;intro b h3 h
  rw[h1,h2,h3,KM (a2 (a2 h).1).1,KM (a2 (a2 h).1).2];exact a0n (hr _ _ _ (a2 (a2 h).2).1) (hr _ _ _ (a2 (a2 h).2).2)
 | sliceB ma mb md =>
  refine AD ?_<|AJ h;intro p h1 h;refine AR ?_<|IU h1;intro q h1;refine AD ?_<|AJ h;intro u h2 h;refine AR ?_<|WC h2;intro v h2;refine AD ?_<|AJ h;intro b h3 h;refine AD ?_<|AJ h;intro d h4 h
  rw[h1,h2,h3,h4,KM (a2 h).1];exact a0o (hr _ _ _ (a2 (a2 h).2).1) (hr _ _ _ (a2 (a2 (a2 h).2).2).1) (hr _ _ _ (a2 (a2 (a2 h).2).2).2)
 | lst ms=>refine AD ?_<|AJ h;intro p h1 h;refine AR ?_<|a7d h1;intro q h1;rw[h1];exact b1i (fun hT c=>KP hr _ (a2 h).1 hT c) (a2 h).2
 | tup ms=>refine AD ?_<|AJ h;intro p h1 h;refine II ?_<|KN h1;intro k q h1;rw[h1];exact b1h (fun hT c=>KP hr _ (a2 h).1 hT c) (a2 h).2
 | dct ks ms =>
  refine AD ?_<|AJ h;intro p h1 h;refine AR ?_<|a7e h1;intro pos h1;rw[h1]
  rcases Bool.or_eq_true_iff.mp h with h | h
  ·rw[CJ (a2 h).1,CJ (a2 (a2 h).2).1,CJ (a2 (a2 (a2 h).2).2).1,CJ (a2 (a2 (a2 h).2).2).2];exact a5z hg
  ·refine AD ?_<|AJ h;intro q h2 h;refine AD ?_<|AJ h;intro b h3 h;refine AD ?_<|AJ h;intro j h4 h;refine AD ?_<|AJ h;intro m h5 h;refine AD ?_<|AJ h;intro e1 h6 h;refine AD ?_<|AJ h;intro e2 h7 h
   refine AD ?_<|AJ h;intro c1 h8 h;refine AD ?_<|AJ h;intro c2 h9 h;refine AD ?_<|AJ h;intro k1 h10 h;refine AD ?_<|AJ h;intro k2 h11 h
   refine II ?_<|DJ h8;intro x1 x2 h8;refine II ?_<|DJ h9;intro x3 x4 h9;refine oA2 ?_<|a2 h;intro h12 h;refine oA2 ?_<|a2 h12;intro h13 h12;refine oA2 ?_<|a2 h12;intro h14 h12
   rw[GI h2,GI h3,GI h4,GI h5,h6,h7,h8,h9,KO h10,KO h11,← CV h13,← CV h14]
   exact a6a hg (hr _ _ _ (a2 h).1) (hr _ _ _ (a2 h).2) (beq_eq_false_iff_ne.mp (Bool.not_eq_true' _▸h12))
 | comp m tgt mit mifs cap =>
  refine AD ?_<|AJ h;intro a h1 h;refine DP ?_<|QM h;intro p it ifs h2 h;rw[QL h1,h2]
  exact a6j hg (NR (a2 (a2 h).1).1) (a2 (a2 h).1).2 (hr _ _ _ (a2 (a2 h).2).1) (hr _ _ _ (a2 (a2 (a2 h).2).2).1) (QN hr (a2 (a2 (a2 h).2).2).2)
 | compR m tgt mn cap =>
  refine AD ?_<|AJ h;intro a h1 h;refine DP ?_<|QM h;intro p it ifs h2 h;refine oA2 ?_<|a2 h;intro h3 h;refine AD ?_<|AJ h;intro q h4 h;refine oA2 ?_<|a2 h;intro h5 h;refine AD ?_<|AJ h;intro f h6 h;refine AD ?_<|AJ h;intro nn h7 h
  refine AR ?_<|CK h6;intro pf h6;refine oA2 ?_<|a2 h;intro h8 h;dsimp only at h3 h4
  rw[QL h1,h2,CJ h3,HN h4,CJ h5,h6,EP h7,CV (a2 h8).1]
  exact a2y hg (NR (a2 h8).2) (hr _ _ _ (a2 h).1) (hr _ _ _ (a2 (a2 h).2).1) (a2 (a2 (a2 h).2).2).1 (FU (a2 (a2 (a2 h).2).2).2)
 | compD m tgt mit cap =>
  refine AD ?_<|AJ h;intro a h1 h;refine DP ?_<|QM h;intro p it ifs h2 h;refine oA2 ?_<|a2 h;intro h3 h;dsimp only at h3;rw[QL h1,h2,CJ h3]
  exact a3b hg (NR (a2 (a2 h).1).1) (a2 (a2 h).1).2 (fun hT c h' hP=>b1z (a2 (a2 h).2).1 hT c h' hP) (hr _ _ _ (a2 (a2 h).2).2)
 | call f ms=>obtain⟨id,p,es,pos,h1,h2,h3,h4,h5,h6⟩:=JW hr h;rw[h1];exact a5v hg (fun hT c=>h2 hT c) h3 h4 h5 (MT h6)
 | new f ms=>obtain⟨id,p,es,pos,h1,h2,h3,h4,h5,h6⟩:=JW hr h;rw[h1];exact b1k hg (fun hT c=>h2 hT c) h3 h4 h5 (MT h6)
 | bi f ms=>obtain⟨id,p,es,pos,h1,h2,h3,h4,h5,h6⟩:=JW hr h;rw[h1];exact b3r hg (fun hT c=>h2 hT c) h3 h4 h5 (MT h6)
 | meth ma m ms =>
  refine AD ?_<|AJ h;intro c h1 h;refine oA2 ?_<|a2 h;intro h2 h;refine AD ?_<|AJ h;intro a h3 h;refine oA2 ?_<|a2 h;intro h4 h
  rw[HN h1,PD h3,CJ h2]
  cases e:WE m with
  | true =>
   rw[e]at h
   rw[a3o e,CV (a2 h).1]
   exact a3r hg (hr _ _ _ (a2 h4).1) (a2 (a2 h4).2).1 (a2 (a2 h4).2).2 (a2 h).2
  | false =>
   rw[e]at h
   exact a5y hg (hr _ _ _ (a2 h4).1) (fun hT c=>KP hr _ (a2 (a2 h).1).2 hT c) (fun q=>by rw[q]at e;exact Bool.noConfusion e) (CV (a2 (a2 h).1).1) (a2 (a2 h4).2).1 (a2 (a2 h).2).1 (of_decide_eq_true (a2 (a2 h).2).2) (a2 (a2 h4).2).2
theorem WH(hg:Ok g):∀ (n:Nat) (sc:Sc) (e:Expr) (me:ME),ckE n sc e me=true->Snd g sc e me
 | 0,_,_,_,h=>by exact noF h
 | n+1,sc,e,me,h=>b2a hg (WH hg n) h
end
noncomputable def mIs:ME->Bool
 | .int _=>true
 | _=>false
theorem b4g{e:ME}(h:mIs e=true):∃ i,e = .int i:=by induction e using ME.casesOn<;>first | exact Bool.noConfusion h | exact⟨_,rfl⟩
noncomputable def GJ:MS->Bool
 | .raise c args=>c==2&&an (one args) mIs
 | _=>false
set_option genInjectivity false
set_option genSizeOf false
structure SPl where
 t:Expr:=default
 v:Expr:=default
 ts:List Expr:=[]
 a:List Stmt:=[]
 b:List Stmt:=[]
 c:List Stmt:=[]
 h:List ExceptHandler:=[]
 x:Option Expr:=none
 y:Option Expr:=none
noncomputable def sv2:Stmt->Nat×SPl
 | .Assign ts v _=>(1,{ts:=ts,v:=v })
 | .If c a b _=>(2,{v:=c,a:=a,b:=b })
 | .While c a b _=>(3,{v:=c,a:=a,b:=b })
 | .For t c a b _=>(4,{t:=t,v:=c,a:=a,b:=b })
 | .Return o _=>(5,{x:=o })
 | .Expr v _=>(6,{v:=v })
 | .Raise x y _=>(7,{x:=x,y:=y })
 | .Try a h b c _=>(8,{a:=a,h:=h,b:=b,c:=c })
 | .Continue _=>(9,{})
 | .Pass _=>(10,{})
 | _=>(0,{})
noncomputable def JH(e:Stmt)(q:SPl):Nat->Prop
 | 1=>∃ p,e = .Assign (q.ts,q.v).1 (q.ts,q.v).2 p
 | 2=>∃ p,e = .If (q.v,q.a,q.b).1 (q.v,q.a,q.b).2.1 (q.v,q.a,q.b).2.2 p
 | 3=>∃ p,e = .While (q.v,q.a,q.b).1 (q.v,q.a,q.b).2.1 (q.v,q.a,q.b).2.2 p
 | 4=>∃ p,e = .For (q.t,q.v,q.a,q.b).1 (q.t,q.v,q.a,q.b).2.1 (q.t,q.v,q.a,q.b).2.2.1 (q.t,q.v,q.a,q.b).2.2.2 p
 | 5=>∃ p,e = .Return q.x p
 | 6=>∃ p,e = .Expr q.v p
 | 7=>∃ p,e = .Raise (q.x,q.y).1 (q.x,q.y).2 p
 | 8=>∃ p,e = .Try (q.a,q.h,q.b,q.c).1 (q.a,q.h,q.b,q.c).2.1 (q.a,q.h,q.b,q.c).2.2.1 (q.a,q.h,q.b,q.c).2.2.2 p
 | 9=>∃ p,e = .Continue p
 | 10=>∃ p,e = .Pass p
 | _=>True
theorem HV(e:Stmt):JH e (sv2 e).2 (sv2 e).1:=by induction e using Stmt.casesOn<;>first | exact⟨_,rfl⟩ | exact⟨⟩
noncomputable def WI(e:Stmt):Option (List Expr×Expr):=if(sv2 e).1=1 then some ((sv2 e).2.ts,(sv2 e).2.v)else none
theorem NU{e:Stmt}{x:List Expr×Expr}(h:WI e=some x):∃ p,e = .Assign x.1 x.2 p:=by
 rw[← (tg h).2];exact((tg h).1▸HV e:JH e (sv2 e).2 1)
noncomputable def tIf(e:Stmt):Option (Expr×List Stmt×List Stmt):=if(sv2 e).1=2 then some ((sv2 e).2.v,(sv2 e).2.a,(sv2 e).2.b)else none
theorem a3s{e:Stmt}{x:Expr×List Stmt×List Stmt}(h:tIf e=some x):∃ p,e = .If x.1 x.2.1 x.2.2 p:=by
 rw[← (tg h).2];exact((tg h).1▸HV e:JH e (sv2 e).2 2)
noncomputable def a3t(e:Stmt):Option (Expr×List Stmt×List Stmt):=if(sv2 e).1=3 then some ((sv2 e).2.v,(sv2 e).2.a,(sv2 e).2.b)else none
theorem a3u{e:Stmt}{x:Expr×List Stmt×List Stmt}(h:a3t e=some x):∃ p,e = .While x.1 x.2.1 x.2.2 p:=by
 rw[← (tg h).2];exact((tg h).1▸HV e:JH e (sv2 e).2 3)
noncomputable def a1d(e:Stmt):Option (Expr×Expr×List Stmt×List Stmt):=if(sv2 e).1=4 then some ((sv2 e).2.t,(sv2 e).2.v,(sv2 e).2.a,(sv2 e).2.b)else none
theorem SJ{e:Stmt}{x:Expr×Expr×List Stmt×List Stmt}(h:a1d e=some x):∃ p,e = .For x.1 x.2.1 x.2.2.1 x.2.2.2 p:=by
 rw[← (tg h).2];exact((tg h).1▸HV e:JH e (sv2 e).2 4)
noncomputable def a7k(e:Stmt):Option (Option Expr):=if(sv2 e).1=5 then some (sv2 e).2.x else none
theorem ZK{e:Stmt}{x:Option Expr}(h:a7k e=some x):∃ p,e = .Return x p:=by
 rw[← (tg h).2];exact((tg h).1▸HV e:JH e (sv2 e).2 5)
noncomputable def a7l(e:Stmt):Option (Expr):=if(sv2 e).1=6 then some (sv2 e).2.v else none
theorem ZL{e:Stmt}{x:Expr}(h:a7l e=some x):∃ p,e = .Expr x p:=by
 rw[← (tg h).2];exact((tg h).1▸HV e:JH e (sv2 e).2 6)
noncomputable def a3v(e:Stmt):Option (Option Expr×Option Expr):=if(sv2 e).1=7 then some ((sv2 e).2.x,(sv2 e).2.y)else none
theorem a3w{e:Stmt}{x:Option Expr×Option Expr}(h:a3v e=some x):∃ p,e = .Raise x.1 x.2 p:=by
 rw[← (tg h).2];exact((tg h).1▸HV e:JH e (sv2 e).2 7)
noncomputable def b4h(e:Stmt):Option (List Stmt×List ExceptHandler×List Stmt×List Stmt):=if(sv2 e).1=8 then some ((sv2 e).2.a,(sv2 e).2.h,(sv2 e).2.b,(sv2 e).2.c)else none
theorem b2b{e:Stmt}{x:List Stmt×List ExceptHandler×List Stmt×List Stmt}(h:b4h e=some x):∃ p,e = .Try x.1 x.2.1 x.2.2.1 x.2.2.2 p:=by
 rw[← (tg h).2];exact((tg h).1▸HV e:JH e (sv2 e).2 8)
noncomputable def a9w(e:Stmt):Option (Unit):=if(sv2 e).1=9 then some ()else none
theorem a7m{e:Stmt}{x:Unit}(h:a9w e=some x):∃ p,e = .Continue p:=by
 exact((tg h).1▸HV e:JH e (sv2 e).2 9)
noncomputable def a9x(e:Stmt):Option (Unit):=if(sv2 e).1=10 then some ()else none
theorem a7n{e:Stmt}{x:Unit}(h:a9x e=some x):∃ p,e = .Pass p:=by
 exact((tg h).1▸HV e:JH e (sv2 e).2 10)
noncomputable def b4i(i:Int):ME->Bool
 | .int j=>i==j
 | _=>false
theorem b2c{i:Int}{e:ME}(h:b4i i e=true):e = .int i:=by induction e using ME.casesOn<;>first | exact Bool.noConfusion h | rw[eq_of_beq (show(i==_)=true from h)]
noncomputable def a9y:ME->Option (ME×Nat×ME×List ME×List Nat)
 | .comp a b c d e=>some (a,b,c,d,e)
 | _=>none
theorem a7o{e:ME}{x:ME×Nat×ME×List ME×List Nat}(h:a9y e=some x):e = .comp x.1 x.2.1 x.2.2.1 x.2.2.2.1 x.2.2.2.2:=by induction e using ME.casesOn<;>first | exact noS h | rw[← Option.some.inj h]
section
variable (r:Sc->Expr->ME->Bool)(q:Sc->Stmt->MS->Bool)
noncomputable def HO(sc:Sc):List Stmt->List MS->Bool
 | [],ms=>nul ms
 | s::ss,ms=>match ms with
  | []=>false
  | m::ms=>q sc s m&&HO sc ss ms
noncomputable def ckC(sc:Sc)(k:Nat)(p:Pos)(e:Expr)(m:ME):Bool:=an (a9y m) fun w=>an (vLC e) fun a=>ckG a.2.1 w.2.1 fun c =>
 ((SD a.2.2.1 sc w.2.1 w.2.2.2.2&&FI c.iter)&&(r (relab a.2.2.1.names sc) a.1 w.1&&(r sc c.iter w.2.2.1&&SI r (relab a.2.2.1.names sc) c.ifs w.2.2.2.1))) &&
 (QJ sc (nm k)&&((p.line==a.2.2.2.line) && !(a.2.2.1.names.any fun(x,kd)=>x==nm k&&(kd == .local||kd == .cell))))
noncomputable def a9z(ts:List Expr):Option (Str×Pos):=match ts with
 | []=>none
 | e::r=>match r with
  | _::_=>none
  | []=>match e with
   | .Name id p=>some (id,p)
   | _=>none
theorem a7p{ts:List Expr}{x:Str×Pos}(h:a9z ts=some x):ts=[.Name x.1 x.2]:=by
 induction ts using List.casesOn with
 | nil=>exact noS h
 | cons a r=>induction r using List.casesOn with
  | nil=>induction a using Expr.casesOn<;>first | exact noS h | rw[← Option.some.inj h]
  | cons _ _=>exact noS h
noncomputable def b4j(sc:Sc)(st:Stmt)(ms:MS):Bool:=match ms with
 | .asg k m=>an (WI st) fun a=>an (a9z a.1) fun i=>nm k==i.1&&match EF a.2 with
   | true=>r sc a.2 m&&IP sc i.1
   | false=>ckC r sc k i.2 a.2 m
 | .asgT ks ms=>an (WI st) fun a=>an (one a.1) fun t=>an (SE t) fun ts=>an (SE a.2) fun vs=>(PG r sc vs ms&&MM sc ts vs)&&(decide (CI sc ts=ks.map nm)&&(fits vs.length&&ks.all (fun k=>IP sc (nm k))))
 | .setA me k mv=>an (WI st) fun a=>an (one a.1) fun t=>an (UJ t) fun c=>(r sc c.1 me&&r sc a.2 mv)&&(nm k==c.2.1&&EF a.2)
 | .setI me mi mv=>an (WI st) fun a=>an (one a.1) fun t=>an (PE t) fun c=>(r sc c.1 me&&r sc c.2 mi)&&(r sc a.2 mv&&EF a.2)
 | .ifS c a b=>an (tIf st) fun w=>r sc w.1 c&&(HO q sc w.2.1 a&&HO q sc w.2.2 b)
 | .while c b=>an (a3t st) fun w=>nul w.2.2&&(r sc w.1 c&&HO q sc w.2.1 b)
 | .for k m b=>an (a1d st) fun w=>nul w.2.2.2&&an (EB w.1) fun id=>(nm k==id&&(r sc w.2.1 m&&HO q sc w.2.2.1 b))&&(IP sc id&&FI w.2.1)
 | .forR k m b=>an (a1d st) fun w=>nul w.2.2.2&&an (EB w.1) fun id=>an (LQ w.2.1) fun c=>nul c.2.2.1&&an (EB c.1) fun f=>an (one c.2.1) fun nn=>(nm k==id&&(f==Str.ofString "range"&&(r sc nn m&&HO q sc w.2.2.1 b)))&&(IP sc id&&(BG nn&&IB sc (Str.ofString "range")))
 | .forZ k j m1 m2 b=>an (a1d st) fun w=>nul w.2.2.2&&an (SE w.1) fun ts=>an (two ts) fun t=>an (EB t.1) fun i1=>an (EB t.2) fun i2=>an (LQ w.2.1) fun c=>nul c.2.2.1&&an (EB c.1) fun f=>an (two c.2.1) fun e =>
   ((nm k==i1&&(nm j==i2&&f==Str.ofString "zip"))&&(r sc e.1 m1&&(r sc e.2 m2&&HO q sc w.2.2.1 b)))&&((IP sc i1&&IP sc i2)&&(BG e.1&&(BG e.2&&IB sc (Str.ofString "zip"))))
 | .ret m=>an (a7k st) fun o=>an o fun e=>r sc e m
 | .exp m=>an (a7l st) fun e=>r sc e m&&EF e
 | .cont=>an (a9w st) fun _=>true
 | .pass=>an (a9x st) fun _=>true
 | .tryE _ _ _=>true
 | .raise _ args => !GJ ms||an (a3v st) fun w=>isN w.2&&an w.1 fun e=>an (LQ e) fun c=>nul c.2.2.1&&an (EB c.1) fun id=>an (one c.2.1) fun a=>an (FJ a) fun cc=>an (a1c cc) fun i=>an (one args) fun m=>(b4i i m&&(id==Str.ofString "BadConfig"&&(IB sc id&&DY id)))
end
noncomputable def ckS:Nat->Sc->Stmt->MS->Bool
 | 0=>fun _ _ _=>false
 | n+1=>b4j (ckE 40) (ckS n)
section
variable {r:Sc->Expr->ME->Bool}{q:Sc->Stmt->MS->Bool}{sc:Sc}
theorem HP{g:G}(hq:∀ sc st ms,q sc st ms=true->ED g sc st ms):∀ (ss:List Stmt) {ms:List MS},HO q sc ss ms=true->EM g sc ss ms:=by
 intro ss
 induction ss with
 | nil=>intro ms h;rw[CJ h];intro _ _ _ _ _ _ _ _ _ _ _ _ _;exact a6f
 | cons s ss ih =>
  intro ms h
  induction ms using List.casesOn with
  | nil=>exact Bool.noConfusion h
  | cons m ms=>intro _ _ _ _ _ _ _ _ _ _ _ _ _;exact a2t (hq _ _ _ (a2 h).1) (ih (a2 h).2)
theorem VRs.plainAt{g:G}{Z:List Addr}{dv:List Value}(h:∀ T h ρ,VRs g T h ρ dfl dv):∀ T h ρ,VRs (g.at Z) T h ρ dfl dv:=fun T hp ρ=>by
 refine(h T hp ρ).consI fun y1 r1 a V=>V.consI fun y2 r2 b V=>V.consI fun y3 r3 c V=>V.oneI fun y4 d=>?_
 exact a.strI fun t1 h1 i1=>b.strI fun t2 h2 i2=>c.noneI (d.strI fun t4 h4 i4=>.cons (.str _ _ _ h1 i1) (.cons (.str _ _ _ h2 i2) (.cons .none (.cons (.str _ _ _ h4 i4) .nil))))
theorem DefOk.at{g:G}{f ps sc body}(D:DefOk g f ps sc body)(Z:List Addr):DefOk (g.at Z) f ps sc body :=
 ⟨D.obj.elim fun o h=>h.elim fun fd h=>h.elim fun dv h=>⟨o,fd,dv,{h with hdv:=VRs.plainAt h.hdv }⟩,D.nodup,D.par,D.psn⟩
theorem ExcOk.at{g:G}(h:ExcOk g)(Z:List Addr):ExcOk (g.at Z):=by
 obtain⟨p1,p2,p3,pos,D⟩:=h.fn
 exact⟨h.cls,h.keep,h.init,h.initf,h.setat,h.told,h.call,h.typ,⟨p1,p2,p3,pos,D.at Z⟩,h.glob⟩
theorem b4k{c:Nat}{args:List ME}(h:GJ (.raise c args)=true):∃ i,c=2/\args=[.int i]:=by
 refine AD ?_<|AJ (a2 h).2;intro m h1 h2
 refine AR ?_<|b4g h2;intro i h3
 exact⟨i,CV (a2 h).1,by rw[EP h1,h3]⟩
theorem a3x{T:Tb}{c:Nat}{args:List ME}{Λ:Loc}{σ:St}{Q:Fl->Loc->St->Prop}{X:St->Prop}(h:wpS T (.raise c args) Λ σ Q X):GJ (.raise c args)=true:=by
 rcases c with _ | _ | _ | c<;>try exact h.elim
 induction args using List.casesOn with
 | nil=>exact h.elim
 | cons a r=>induction a using ME.casesOn<;>first | exact h.elim | (induction r using List.casesOn<;>first | exact h.elim | rfl)
theorem a7q{g:G}{st:Stmt}{c:Nat}{args:List ME}(h:GJ (.raise c args)=false):ED g sc st (.raise c args):=by
 intro fr n T A env Λ σ ρ s X E Q P hT cc tp hw
 exact absurd ((a3x hw).symm.trans h) (by decide)
theorem b2d{g:G}(hg:Ok g)(hX:ExcOk g)(hr:∀ g,Ok g->∀ sc e me,r sc e me=true->Snd g sc e me)(hq:∀ g,Ok g->ExcOk g->∀ sc st ms,q sc st ms=true->ED g sc st ms){st:Stmt}{ms:MS}(h:b4j r q sc st ms=true):ED g sc st ms:=by
 have R:=hr g hg
 have S:=hq g hg hX
 induction ms using MS.casesOn with
 | asg k m =>
  obtain⟨a,h1,h⟩:=AJ h;obtain⟨p,h1⟩:=NU h1;obtain⟨i,h2,h⟩:=AJ h;obtain⟨h3,h⟩:=a2 h
  rw[h1,a7p h2]
  cases e:EF a.2 with
  | true=>rw[e]at h;intro _ _ _ _ _ _ _ _ _ _ _ _ _;exact b1m (R _ _ _ (a2 h).1) (CV h3) (GN (a2 h).2) e
  | false =>
   rw[e]at h
   obtain⟨w,h4,h⟩:=AJ h;obtain⟨b,h5,h⟩:=AJ h;obtain⟨px,it,ifs,h6,h⟩:=QM h
   obtain⟨h7,h8⟩:=a2 h;obtain⟨h9,h10⟩:=a2 h7
   rw[QL h5,h6,a7o h4,← CV h3]
   intro _ _ _ _ _ _ _ _ _ _ _ _ _;exact a6k hg (NR (a2 h9).1) (a2 h9).2 (R _ _ _ (a2 h10).1) (R _ _ _ (a2 (a2 h10).2).1) (QN R (a2 (a2 h10).2).2) (LP (a2 h8).1) (a2 (a2 h8).2).1 (Bool.not_eq_true' _▸(a2 (a2 h8).2).2)
 | asgT ks ms =>
  obtain⟨a,h1,h⟩:=AJ h;obtain⟨p,h1⟩:=NU h1;obtain⟨t,h2,h⟩:=AJ h;obtain⟨ts,h3,h⟩:=AJ h;obtain⟨k1,p1,h3⟩:=KN h3;obtain⟨vs,h4,h⟩:=AJ h;obtain⟨k2,p2,h4⟩:=KN h4
  rw[h1,EP h2,h3,h4]
  obtain⟨h5,h6⟩:=a2 h
  intro _ _ _ _ _ _ _ _ _ _ _ _ _;exact a6l (fun hT c=>KP R _ (a2 h5).1 hT c) (a2 h5).2 (of_decide_eq_true (a2 h6).1) (a2 (a2 h6).2).1 (fun k hk=>GN (List.all_eq_true.mp (a2 (a2 h6).2).2 k hk))
 | setA me k mv =>
  obtain⟨a,h1,h⟩:=AJ h;obtain⟨p,h1⟩:=NU h1;obtain⟨t,h2,h⟩:=AJ h;obtain⟨u,h3,h⟩:=AJ h
  rw[h1,EP h2,PD h3]
  intro _ _ _ _ _ _ _ _ _ _ _ _ _;exact a6b hg (R _ _ _ (a2 (a2 h).1).1) (R _ _ _ (a2 (a2 h).1).2) (CV (a2 (a2 h).2).1) (a2 (a2 h).2).2
 | setI me mi mv =>
  obtain⟨a,h1,h⟩:=AJ h;obtain⟨p,h1⟩:=NU h1;obtain⟨t,h2,h⟩:=AJ h;obtain⟨u,h3,h⟩:=AJ h;obtain⟨p3,h3⟩:=IU h3
  rw[h1,EP h2,h3]
  intro _ _ _ _ _ _ _ _ _ _ _ _ _;exact a6c (R _ _ _ (a2 (a2 h).1).1) (R _ _ _ (a2 (a2 h).1).2) (R _ _ _ (a2 (a2 h).2).1) (a2 (a2 h).2).2
 | ifS c a b =>
  obtain⟨w,h1,h⟩:=AJ h;obtain⟨p,h1⟩:=a3s h1;rw[h1]
  intro _ _ _ _ _ _ _ _ _ _ _ _ _;exact b3t (R _ _ _ (a2 h).1) (HP S _ (a2 (a2 h).2).1) (HP S _ (a2 (a2 h).2).2)
 | «while» c b =>
  obtain⟨w,h1,h⟩:=AJ h;obtain⟨p,h1⟩:=a3u h1;rw[h1,CJ (a2 h).1]
  intro _ _ _ _ _ _ _ _ _ _ _ _ _;exact a3c (R _ _ _ (a2 (a2 h).2).1) (HP S _ (a2 (a2 h).2).2)
 | «for» k m b =>
  obtain⟨w,h1,h⟩:=AJ h;obtain⟨p,h1⟩:=SJ h1;obtain⟨h2,h⟩:=a2 h;obtain⟨id,h3,h⟩:=AJ h;obtain⟨px,h3⟩:=CK h3;obtain⟨h4,h5⟩:=a2 h
  rw[h1,CJ h2,h3];rw[← CV (a2 h4).1]at h5 ⊢
  intro _ _ _ _ _ _ _ _ _ _ _ _ _;exact b1p passes (R _ _ _ (a2 (a2 h4).2).1) (HP S _ (a2 (a2 h4).2).2) (GN (a2 h5).1) (a2 h5).2
 | forR k m b =>
  obtain⟨w,h1,h⟩:=AJ h;obtain⟨p,h1⟩:=SJ h1;obtain⟨h2,h⟩:=a2 h;obtain⟨id,h3,h⟩:=AJ h;obtain⟨px,h3⟩:=CK h3;obtain⟨c,h6,h⟩:=AJ h;obtain⟨h7,h⟩:=a2 h;obtain⟨f,h8,h⟩:=AJ h;obtain⟨pf,h8⟩:=CK h8;obtain⟨nn,h9,h⟩:=AJ h;obtain⟨h4,h5⟩:=a2 h
  rw[h1,CJ h2,h3,HN h6,CJ h7,h8,EP h9,CV (a2 (a2 h4).2).1];rw[← CV (a2 h4).1]at h5 ⊢
  intro _ _ _ _ _ _ _ _ _ _ _ _ _;exact a6m hg (R _ _ _ (a2 (a2 (a2 h4).2).2).1) (HP S _ (a2 (a2 (a2 h4).2).2).2) (GN (a2 h5).1) (a2 (a2 h5).2).1 (FU (a2 (a2 h5).2).2)
 | forZ k j m1 m2 b =>
  obtain⟨w,h1,h⟩:=AJ h;obtain⟨p,h1⟩:=SJ h1;obtain⟨h2,h⟩:=a2 h;obtain⟨ts,h3,h⟩:=AJ h;obtain⟨tk,px,h3⟩:=KN h3;obtain⟨t,h4,h⟩:=AJ h;obtain⟨i1,h5,h⟩:=AJ h;obtain⟨p1,h5⟩:=CK h5;obtain⟨i2,h6,h⟩:=AJ h;obtain⟨p2,h6⟩:=CK h6
  obtain⟨c,h7,h⟩:=AJ h;obtain⟨h8,h⟩:=a2 h;obtain⟨f,h9,h⟩:=AJ h;obtain⟨pf,h9⟩:=CK h9;obtain⟨e,h10,h⟩:=AJ h;obtain⟨h11,h12⟩:=a2 h;obtain⟨h13,h14⟩:=a2 h11
  rw[h1,CJ h2,h3,GI h4,h5,h6,HN h7,CJ h8,h9,GI h10,CV (a2 (a2 h13).2).2];rw[← CV (a2 h13).1,← CV (a2 (a2 h13).2).1]at h12 ⊢
  intro _ _ _ _ _ _ _ _ _ _ _ _ _;exact a6q hg (R _ _ _ (a2 h14).1) (R _ _ _ (a2 (a2 h14).2).1) (a2 (a2 h12).2).1 (a2 (a2 (a2 h12).2).2).1 (FU (a2 (a2 (a2 h12).2).2).2) (fun Z=>HP (hq (g.at Z) (hg.at Z) (hX.at Z)) _ (a2 (a2 h14).2).2) (GN (a2 (a2 h12).1).1) (GN (a2 (a2 h12).1).2)
 | ret m=>obtain⟨o,h1,h⟩:=AJ h;obtain⟨p,h1⟩:=ZK h1;obtain⟨e,h2,h⟩:=AJ h;rw[h1,h2];intro _ _ _ _ _ _ _ _ _ _ _ _ _;exact b1n (R _ _ _ h)
 | exp m=>obtain⟨e,h1,h⟩:=AJ h;obtain⟨p,h1⟩:=ZL h1;rw[h1];intro _ _ _ _ _ _ _ _ _ _ _ _ _;exact b1o (R _ _ _ (a2 h).1) (a2 h).2
 | cont=>obtain⟨e,h1,h⟩:=AJ h;obtain⟨p,h1⟩:=a7m h1;rw[h1];intro _ _ _ _ _ _ _ _ _ _ _ _ _;exact a6e
 | pass=>obtain⟨e,h1,h⟩:=AJ h;obtain⟨p,h1⟩:=a7n h1;rw[h1];intro _ _ _ _ _ _ _ _ _ _ _ _ _;exact a6d
 | tryE a b c=>intro fr n T A env Λ σ ρ s X E Q P hT cc tp hw;exact False.elim hw
 | raise c args =>
  cases e:GJ (.raise c args)with
  | false=>intro _ _ _ _ _ _ _ _ _ _ _ _ _;exact a7q e
  | true =>
   rcases Bool.or_eq_true_iff.mp h with h | h
   ·rw[e]at h;exact Bool.noConfusion h
   ·obtain⟨j,e1,e2⟩:=b4k e
    subst e1;subst e2
    obtain⟨w,h1,h⟩:=AJ h;obtain⟨p,h1⟩:=a3w h1;obtain⟨h2,h⟩:=a2 h;obtain⟨u,h3,h⟩:=AJ h;obtain⟨c,h4,h⟩:=AJ h;obtain⟨h5,h⟩:=a2 h;obtain⟨id,h6,h⟩:=AJ h;obtain⟨p6,h6⟩:=CK h6;obtain⟨a,h7,h⟩:=AJ h;obtain⟨cc,h8,h⟩:=AJ h;obtain⟨k8,p8,h8⟩:=DJ h8;obtain⟨i,h9,h⟩:=AJ h;obtain⟨m,h10,h⟩:=AJ h
    rw[h1,KM h2,h3,HN h4,CJ h5,h6,EP h7,h8,SG h9,EP h10,b2c (a2 h).1]
    intro _ _ _ _ _ _ _ _ _ _ _ _ _;exact a3h hg hX (CV (a2 (a2 h).2).1) (FU (a2 (a2 (a2 h).2).2).1) (a2 (a2 (a2 h).2).2).2
theorem WJ:∀ (n:Nat) (g:G),Ok g->ExcOk g->∀ (sc:Sc) (st:Stmt) (ms:MS),ckS n sc st ms=true->ED g sc st ms
 | 0,_,_,_,_,_,_,h=>by exact noF h
 | n+1,g,hg,hX,_,_,_,h=>b2d hg hX (fun g hg=>WH hg 40) (WJ n) h
theorem TL{g:G}(hg:Ok g)(hX:ExcOk g){body:List Stmt}{mb:List MS}(h:HO (ckS 12) sc body mb=true):EM g sc body mb:=HP (WJ 12 g hg hX) _ h
end
noncomputable def m48:ME->Option (Nat×List ME)
 | .call f es=>some (f,es)
 | _=>none
theorem b4l{e:ME}{x:Nat×List ME}(h:m48 e=some x):e = .call x.1 x.2:=by induction e using ME.casesOn<;>first | exact noS h | rw[← Option.some.inj h]
noncomputable def not48(m:ME):Bool := !an (m48 m) fun p=>p.1==48
noncomputable def QP:MS->Bool
 | .ifS _ _ _=>false
 | .tryE _ _ _=>false
 | .ret _=>false
 | _=>true
noncomputable def b4m(l:List MS):Option ME:=match l with
 | []=>none
 | e::r=>match r with
  | _::_=>none
  | []=>match e with
   | .exp m=>some m
   | _=>none
theorem b2e{l:List MS}{m:ME}(h:b4m l=some m):l=[.exp m]:=by
 induction l using List.casesOn with
 | nil=>exact noS h
 | cons a r=>induction r using List.casesOn with
  | cons _ _=>exact noS h
  | nil=>induction a using MS.casesOn<;>first | exact noS h | rw[Option.some.inj h]
noncomputable def b4n:List ExceptHandler->Option (Expr×Stmt×List Stmt)
 | [.ExceptHandler (some e) none (b::l) _]=>some (e,b,l)
 | _=>none
theorem b2f{l:List ExceptHandler}{x:Expr×Stmt×List Stmt}(h:b4n l=some x):∃ p,l=[.ExceptHandler (some x.1) none (x.2.1::x.2.2) p]:=by
 induction l using List.casesOn with
 | nil=>exact noS h
 | cons a r =>
  induction a using ExceptHandler.casesOn with | ExceptHandler e n b p =>
  induction r using List.casesOn with
  | cons _ _=>induction e using Option.casesOn<;>first | exact noS h | (induction n using Option.casesOn<;>first | exact noS h | (induction b using List.casesOn<;>exact noS h))
  | nil=>induction e using Option.casesOn<;>first | exact noS h | (induction n using Option.casesOn<;>first | exact noS h | (induction b using List.casesOn<;>first | exact noS h | (replace h:=sj h;subst h;exact⟨_,rfl⟩)))
section
variable (q:Sc->List Stmt->List MS->Bool)
noncomputable def b4o(sc:Sc)(st:Stmt)(ms:MS):Bool:=match ms with
 | .ifS c a b=>an (tIf st) fun w=>ckE 40 sc w.1 c&&(q sc w.2.1 a&&q sc w.2.2 b)
 | .tryE b c h=>an (b4m b) fun m=>an (b4h st) fun w=>an (one w.1) fun s=>an (a7l s) fun e=>an (b4n w.2.1) fun hh=>an (EB hh.1) fun id=>(nul w.2.2.1&&nul w.2.2.2)&&((c==2&&(ckE 40 sc e m&&EF e))&&(HO (ckS 12) sc (hh.2.1::hh.2.2) h&&(id==Str.ofString "BadConfig"&&(IB sc id&&DY id))))
 | .ret m=>an (a7k st) fun o=>an o fun e=>match not48 m with
  | true=>ckE 40 sc e m
  | false=>an (m48 m) fun p=>MR (ckE 40) sc e p.2 fun id=>fnames.contains (id,48)
 | ms=>QP ms&&ckS 12 sc st ms
end
noncomputable def ckF:Nat->Sc->List Stmt->List MS->Bool
 | 0=>fun _ _ _=>false
 | n+1=>fun sc ss ms=>match ss with
  | []=>nul ms
  | s::ss=>match ms with
   | []=>false
   | m::ms=>b4o (ckF n) sc s m&&ckF n sc ss ms
theorem QQ{ms:MS}(h:QP ms=true)(T:Tb)(F:List PV->St->(Bool->Prop)->Prop)(Y:Bool->Prop)(Λ:Loc)(σ:St)(K:Loc->St->Prop):LM T F Y ms Λ σ K=wpS T ms Λ σ (fun f Λ σ=>match f with | .next=>K Λ σ | f=>Fin Y f) (fun _=>False):=by
 induction ms using MS.casesOn<;>first | rfl | exact noF h
set_option tactic.hygienic true in
theorem a7r{T:Tb}{F:List PV->St->(Bool->Prop)->Prop}{Y:Bool->Prop}{f:Nat}{es:List ME}{Λ:Loc}{σ:St}{K:Loc->St->Prop}(h:f≠48):LM T F Y (.ret (.call f es)) Λ σ K=wpE T (.call f es) Λ σ (fun v _=>Fin Y (.ret v)) (fun _=>False):=by
 show(match(ME.call f es)with | .call 48 es=>CX T es Λ σ (fun vs σ=>F vs σ Y) (fun _=>False) | e=>wpE T e Λ σ (fun v _=>Fin Y (.ret v)) (fun _=>False))=_
 split
 ·rename_i e
  cases e
  exact absurd rfl h
 ·rfl
theorem TM{m:ME}(h:not48 m=true)(T:Tb)(F:List PV->St->(Bool->Prop)->Prop)(Y:Bool->Prop)(Λ:Loc)(σ:St)(K:Loc->St->Prop):LM T F Y (.ret m) Λ σ K=wpE T m Λ σ (fun v _=>Fin Y (.ret v)) (fun _=>False):=by
 induction m using ME.casesOn<;>first | rfl | exact a7r fun e=>by subst e;exact Bool.noConfusion h
section
variable {g:G}{q:Sc->List Stmt->List MS->Bool}{sc:Sc}
theorem b2g(hg:Ok g)(hX:ExcOk g)(hq:∀ sc ss ms,q sc ss ms=true->JF g sc ss ms){st:Stmt}{ms:MS}(h:b4o q sc st ms=true):JV g sc st ms:=by
 have R:=WH hg 40
 have D:∀ {ms:MS},(QP ms&&ckS 12 sc st ms)=true->JV g sc st ms:=fun{ms} h=>by
  intro n T F A env Λ σ ρ s E K Y P
  exact a3k (WJ 12 g hg hX _ _ _ (a2 h).2) (QQ (a2 h).1)
 induction ms using MS.casesOn with
 | ifS c a b =>
  obtain⟨w,h1,h⟩:=AJ h;obtain⟨p,h1⟩:=a3s h1;rw[h1]
  intro n T F A env Λ σ ρ s E K Y P
  exact b1u (R _ _ _ (a2 h).1) (hq _ _ _ (a2 (a2 h).2).1) (hq _ _ _ (a2 (a2 h).2).2)
 | tryE b c hh =>
  obtain⟨m,h1,h⟩:=AJ h;obtain⟨w,h2,h⟩:=AJ h;obtain⟨p,h2⟩:=b2b h2;obtain⟨s,h3,h⟩:=AJ h;obtain⟨e,h4,h⟩:=AJ h;obtain⟨p4,h4⟩:=ZL h4;obtain⟨x,h5,h⟩:=AJ h;obtain⟨p5,h5⟩:=b2f h5;obtain⟨id,h6,h⟩:=AJ h;obtain⟨p6,h6⟩:=CK h6
  obtain⟨h7,h⟩:=a2 h;obtain⟨h8,h9⟩:=a2 h
  rw[b2e h1,h2,EP h3,h4,h5,h6,CJ (a2 h7).1,CJ (a2 h7).2,CV (a2 h8).1]
  intro n T F A env Λ σ ρ s E K Y P
  exact a6z hg hX (R _ _ _ (a2 (a2 h8).2).1) (a2 (a2 h8).2).2 (TL hg hX (a2 h9).1) (CV (a2 (a2 h9).2).1) (FU (a2 (a2 (a2 h9).2).2).1) (a2 (a2 (a2 h9).2).2).2
 | ret m =>
  obtain⟨o,h1,h⟩:=AJ h;obtain⟨p,h1⟩:=ZK h1;obtain⟨e,h2,h⟩:=AJ h;rw[h1,h2]
  cases e48:not48 m with
  | true =>
   rw[e48]at h
   intro n T F A env Λ σ ρ s E K Y P
   exact a6y (R _ _ _ h) (TM e48)
  | false =>
   rw[e48]at h
   obtain⟨x,h3,h⟩:=AJ h
   obtain⟨id,p7,es,pos,h4,h5,h6,h7,h8,h9⟩:=JW R h
   have h10:x.1=48:=by
    unfold not48 at e48
    rw[h3]at e48
    exact CV (show(x.1==48)=true from Bool.not_eq_false' _▸e48)
   rw[b4l h3,h4,h10]
   intro n T F A env Λ σ ρ s E K Y P
   exact a0z hg (fun hT c=>h5 hT c) h6 h7 h8 (MT h9)
 | _=>intro n T F A env Λ σ ρ s E K Y P;refine D ?_;exact h
theorem a3y(hg:Ok g)(hX:ExcOk g):∀ (n:Nat) (sc:Sc) (ss:List Stmt) (ms:List MS),ckF n sc ss ms=true->JF g sc ss ms:=by
 intro n
 induction n with
 | zero=>intro sc ss ms h;exact Bool.noConfusion h
 | succ n ih =>
  intro sc ss ms h
  induction ss using List.casesOn with
  | nil=>rw[CJ h];intro n T F A env Λ σ ρ s E K Y P;exact a6x
  | cons s ss =>
   induction ms using List.casesOn with
   | nil=>exact Bool.noConfusion h
   | cons m ms =>
    intro n T F A env Λ σ ρ s E K Y P
    exact a3j (b2g hg hX ih (a2 h).1) (ih _ _ _ (a2 h).2)
end
noncomputable def EN(f:Nat):List MS:=(bodies[f]?).getD []
noncomputable def parF(f:Nat):List Nat:=(params[f]?).getD []
noncomputable def QR(f:Nat):Bool:=decide (f<54)&&decide (f≠48)&&decide (f≠53)
noncomputable def Ends(Q:PV->St->Prop):Fl->Loc->St->Prop:=fun fl _ σ=>match fl with | .ret v=>Q v σ | .next=>Q .none σ | .cont=>False
noncomputable def CB(T:Tb)(f:Nat)(vs:List PV)(σ:St)(Q:PV->St->Prop)(X:St->Prop):Prop :=
 QR f=true/\CM f (parF f).length vs.length=true/\AN T (EN f) (puts (parF f) (fill f vs) []) σ (Ends Q) X
noncomputable def Tn:Nat->Tb
 | 0=>⟨glv,inits,methF,fun _ _ _ _ _=>False,fun _ _ _ _ _=>False,True⟩
 | n+1=>⟨glv,inits,methF,CB (Tn n),CB (Tn n).under,True⟩
structure Defs(g:G):Prop where
 fn:∀ f,QR f=true->∃ sc body,DefOk g f (parF f) sc body/\∀ Z,EM (g.at Z) sc body (EN f)
 last:∀ f,f=48\/f=53->∃ sc body,DefOk g f (parF f) sc body/\JF g sc body (EN f)
section
variable {g:G}
theorem ZM(hg:Ok g)(D:Defs g){fr:Bool}{n:Nat}{T:Tb}(Z:List Addr)(hT:TOk g fr n T){f:Nat}{vs:List PV}{σ:St}{Q:PV->St->Prop}{X:St->Prop}(h:CB T f vs σ Q X):JM (g.at Z) fr (n+1) f vs σ Q X:=by
 revert h;refine oA3 ?_;intro h1 h2 h3
 refine FD ?_<|D.fn f h1;intro sc body d hb
 exact a6s (hg.at Z) leaves (d.at Z) (hb Z) (hT.at Z) h2 h3
theorem QS(hg:Ok g)(D:Defs g):∀ n,TOk g true n (Tn n)
 | 0=>⟨rfl,rfl,rfl,fun _ _ _ _ _ _ h=>h.elim,fun _ _ _ _ _ _ h=>h.elim,fun _=>rfl⟩
 | n+1=>⟨rfl,rfl,rfl,fun Z _ _ _ _ _ h=>ZM hg D Z (QS hg D n) h,fun Z _ _ _ _ _ h=>ZM hg D Z (QS hg D n).under h,fun _=>rfl⟩
noncomputable def Fn:Nat->List PV->St->(Bool->Prop)->Prop
 | 0,_,_,_=>False
 | n+1,vs,σ,Y=>vs.length=1/\wpF (Tn n) (fun _ _ _=>False) Y (EN 48) (puts (parF 48) vs []) σ (fun _ _=>False)
theorem b0a(hg:Ok g)(D:Defs g):∀ n vs σ Y,Fn n vs σ Y->LN g n 48 vs σ Y
 | 0,_,_,_,h=>h.elim
 | n+1,vs,σ,Y,h=>by
  refine FD ?_<|D.last 48 (.inl rfl);intro sc body d hb
  exact VX hg d hb (QS hg D n) (F:=fun _ _ _=>False) (fun _ _ _ h=>h.elim) (by simp[CM,h.1,parF,params]) h.2
theorem b9u(hg:Ok g)(D:Defs g){n:Nat}{vs:List PV}{σ:St}{Y:Bool->Prop}(hl:vs.length=1)(h:wpF (Tn n) (Fn n) Y (EN 53) (puts (parF 53) vs []) σ (fun _ _=>False)):LN g (n+1) 53 vs σ Y:=by
 refine FD ?_<|D.last 53 (.inr rfl);intro sc body d hb
 exact VX hg d hb (QS hg D n) (b0a hg D n) (by simp[CM,hl,parF,params]) h
end
end Mine
end
section
open PySem PySem.W PyProof.Rows
set_option maxRecDepth 100000
namespace Mine
set_option tactic.hygienic false
theorem AU{k:Nat}{v:PV}{Λ:Loc}:get k (put k v Λ)=some v:=by rw[get_put];exact if_pos rfl
theorem AL{j k:Nat}{v:PV}{Λ:Loc}{x:Option PV}(n:Nat.beq j k=false)(h:get j Λ=x):get j (put k v Λ)=x:=by rw[get_put];exact(if_neg fun e=>by rw[e,Nat.beq_refl k]at n;exact noG n).trans h
noncomputable def U(b:Bool)(n:Nat):Tb:=if b=true then Tn n else(Tn n).under
@[simp] theorem b9n(b n):(U b n).gl=glv:=by induction b using Bool.casesOn<;>induction n using Nat.casesAuxOn<;>rfl
@[simp] theorem NV(b n):(U b n).ini=inits:=by induction b using Bool.casesOn<;>induction n using Nat.casesAuxOn<;>rfl
@[simp] theorem U_mth(b n):(U b n).mth=methF:=by induction b using Bool.casesOn<;>induction n using Nat.casesAuxOn<;>rfl
@[simp] theorem FK(b n):(U b n).free↔b=true:=by induction b using Bool.casesOn<;>induction n using Nat.casesAuxOn<;>simp[U,Tb.under,Tn]
theorem U_C(b n)(f:Nat)(vs:List PV)(σ:St)(Q:PV->St->Prop)(X:St->Prop):(U b (n+1)).C f vs σ Q X=CB (U b n) f vs σ Q X:=by induction b using Bool.casesOn<;>rfl
theorem b9v(n):U true n=Tn n:=rfl
theorem b9s(n):U false n=(Tn n).under:=rfl
noncomputable def Ev(T:Tb)(e:ME)(Λ:Loc)(σ:St)(v:PV):Prop:=∀ (Q:PV->St->Prop) (X:St->Prop),Q v σ->wpE T e Λ σ Q X
noncomputable def Evs(T:Tb)(es:List ME)(Λ:Loc)(σ:St)(vs:List PV):Prop:=∀ (Q:List PV->St->Prop) (X:St->Prop),Q vs σ->CX T es Λ σ Q X
noncomputable def Pu(T:Tb)(f:Nat)(vs:List PV)(σ:St)(v:PV):Prop:=∀ (Q:PV->St->Prop) (X:St->Prop),Q v σ->T.C f vs σ Q X
section
variable {b:Bool}{n f:Nat}{T:Tb}{Λ Λ':Loc}{σ:St}{Q:PV->St->Prop}{X:St->Prop}{R:Fl->Loc->St->Prop}{r:List MS}
theorem AV{vs:List PV}{mb:List MS}(h:QR f=true)(h':CM f (parF f).length vs.length=true)(e1:EN f=mb)(e2:puts (parF f) (fill f vs) []=Λ)(H:AN (U b n) mb Λ σ (Ends Q) X):(U b (n+1)).C f vs σ Q X:=by
 subst e1;subst e2;rw[U_C];exact⟨h,h',H⟩
theorem AC{e v}(h:Ev T e Λ σ v)(hQ:Q v σ):wpE T e Λ σ Q X:=h Q X hQ
theorem BB{es vs}{Q:List PV->St->Prop}(h:Evs T es Λ σ vs)(hQ:Q vs σ):CX T es Λ σ Q X:=h Q X hQ
theorem AI{α:Type}{o:Option α}{a:α}{K:α->Prop}(h:o=some a)(hK:K a):opt o K:=by rw[h];exact hK
theorem BI:Ev T .none Λ σ .none:=fun _ _ h=>h
theorem CS{t}:Ev T (.bool t) Λ σ (.bool t):=fun _ _ h=>h
theorem AH{i}:Ev T (.int i) Λ σ (.int i):=fun _ _ h=>h
theorem AM{x}:Ev T (.str x) Λ σ (.str x true):=fun _ _ h=>h
theorem HQ{x}:Ev T (.bytes x) Λ σ (.bytes x):=fun _ _ h=>h
theorem AA{k v}(h:get k Λ=some v):Ev T (.var k) Λ σ v:=fun _ _ hQ=>AI h hQ
theorem HR{k}:Ev (U b n) (.glob k) Λ σ (glv k):=fun Q X hQ=>by show Q ((U b n).gl k) σ;rw[b9n];exact hQ
theorem AQ{e k o v}(h:Ev T e Λ σ o)(h':attr σ o k=some v):Ev T (.attr e k) Λ σ v:=fun _ _ hQ=>h _ _ (AI h' hQ)
theorem AT{op a c x y v}(h1:Ev T a Λ σ x)(h2:Ev T c Λ σ y)(h:bin σ op x y=some (v,σ)):Ev T (.bin op a c) Λ σ v:=fun _ _ hQ=>h1 _ _ (h2 _ _ (AI h hQ))
theorem AF{op a c x y t}(h1:Ev T a Λ σ x)(h2:Ev T c Λ σ y)(h:cmp σ op x y=some t):Ev T (.cmp op a c) Λ σ (.bool t):=fun _ _ hQ=>h1 _ _ (h2 _ _ (AI h hQ))
theorem SK{a op c op' d x y z t u}(h1:Ev T a Λ σ x)(h2:Ev T c Λ σ y)(h3:Ev T d Λ σ z)(h:cmp σ op x y=some t)(h':cmp σ op' y z=some u):Ev T (.cmp2 a op c op' d) Λ σ (.bool (t&&u)):=fun Q X hQ=>h1 _ _ (h2 _ _ (AI h (by
 induction t using Bool.casesOn
 ·exact hQ
 ·exact h3 _ _ (AI h' hQ))))
theorem EJ{a c t u}(h1:Ev T a Λ σ (.bool t))(h2:t=true->Ev T c Λ σ (.bool u)):Ev T (.and a c) Λ σ (.bool (t&&u)):=fun Q X hQ=>h1 _ _ (by
 show if t=true then _ else _
 induction t using Bool.casesOn
 ·exact hQ
 ·exact h2 rfl _ _ hQ)
theorem CC{a c t u}(h1:Ev T a Λ σ (.bool t))(h2:t=false->Ev T c Λ σ (.bool u)):Ev T (.or a c) Λ σ (.bool (t||u)):=fun Q X hQ=>h1 _ _ (by
 show if t=true then _ else _
 induction t using Bool.casesOn
 ·exact h2 rfl _ _ hQ
 ·exact hQ)
theorem DD{a t}(h:Ev T a Λ σ (.bool t)):Ev T (.not a) Λ σ (.bool (!t)):=fun _ _ hQ=>h _ _ hQ
theorem b4p{c a d t u v}(h:Ev T c Λ σ (.bool t))(h1:t=true->Ev T a Λ σ u)(h2:t=false->Ev T d Λ σ v):Ev T (.ite c a d) Λ σ (if t=true then u else v):=fun Q X hQ=>h _ _ (by
 show if t=true then _ else _
 induction t using Bool.casesOn
 ·exact h2 rfl _ _ hQ
 ·exact h1 rfl _ _ hQ)
theorem GB{c a d u}(h:Ev T c Λ σ (.bool true))(h1:Ev T a Λ σ u):Ev T (.ite c a d) Λ σ u:=fun Q X hQ=>h _ _ (h1 _ _ hQ)
theorem ER{c a d u}(h:Ev T c Λ σ (.bool false))(h1:Ev T d Λ σ u):Ev T (.ite c a d) Λ σ u:=fun Q X hQ=>h _ _ (h1 _ _ hQ)
theorem BH{e i o k v}(h1:Ev T e Λ σ o)(h2:Ev T i Λ σ k)(h:idx σ o k=some v):Ev T (.idx e i) Λ σ v:=fun _ _ hQ=>h1 _ _ (h2 _ _ (AI h hQ))
theorem EY{e i o k v}(h1:Ev T e Λ σ o)(h2:Ev T i Λ σ k)(h:slice σ o (some k) none=some (v,σ)):Ev T (.sliceL e i) Λ σ v:=fun _ _ hQ=>h1 _ _ (h2 _ _ (AI h hQ))
theorem EZ{e i o k v}(h1:Ev T e Λ σ o)(h2:Ev T i Λ σ k)(h:slice σ o none (some k)=some (v,σ)):Ev T (.sliceR e i) Λ σ v:=fun _ _ hQ=>h1 _ _ (h2 _ _ (AI h hQ))
theorem MU{e i j o k l v}(h1:Ev T e Λ σ o)(h2:Ev T i Λ σ k)(h3:Ev T j Λ σ l)(h:slice σ o (some k) (some l)=some (v,σ)):Ev T (.sliceB e i j) Λ σ v:=fun _ _ hQ=>h1 _ _ (h2 _ _ (h3 _ _ (AI h hQ)))
theorem IC{es vs}(h:Evs T es Λ σ vs):Ev T (.tup es) Λ σ (.tup vs):=fun _ _ hQ=>h _ _ hQ
theorem DL{es vs v}(h:Evs T es Λ σ vs)(h':Pu T f vs σ v):Ev T (.call f es) Λ σ v:=fun _ _ hQ=>h _ _ (h' _ _ hQ)
theorem DZ{e m es o vs v g}(h1:Ev T e Λ σ o)(hm:mok T.mth σ o m es=some (some g))(h:Evs T es Λ σ vs)(h':Pu T g (o::vs) σ v):Ev T (.meth e m es) Λ σ v:=fun _ _ hQ=>h1 _ _ (AI hm (h _ _ (h' _ _ hQ)))
theorem CO{e m es o vs v}(h1:Ev T e Λ σ o)(hm:mok T.mth σ o m es=some none)(h:Evs T es Λ σ vs)(h':meth σ o m vs=some (v,σ)):Ev T (.meth e m es) Λ σ v:=fun _ _ hQ=>h1 _ _ (AI hm (h _ _ (AI h' hQ)))
theorem BR{es vs v g}(h:Evs T es Λ σ vs)(h':bi σ g vs=some (v,σ)):Ev T (.bi g es) Λ σ v:=fun _ _ hQ=>h _ _ (AI h' hQ)
theorem AE:Evs T [] Λ σ []:=fun _ _ h=>h
theorem AB{e es v vs}(h:Ev T e Λ σ v)(h':Evs T es Λ σ vs):Evs T (e::es) Λ σ (v::vs):=fun _ _ hQ=>h _ _ (h' _ _ hQ)
theorem FQ{op a c}(h:wpE T a Λ σ (fun x σ=>wpE T c Λ σ (fun y σ=>opt (bin σ op x y) fun r=>Q r.1 r.2) X) X):wpE T (.bin op a c) Λ σ Q X:=h
theorem FS{op a c}(h:wpE T a Λ σ (fun x σ=>wpE T c Λ σ (fun y σ=>opt (cmp σ op x y) fun r=>Q (.bool r) σ) X) X):wpE T (.cmp op a c) Λ σ Q X:=h
theorem b9w{e k}(h:wpE T e Λ σ (fun o σ=>opt (attr σ o k) fun v=>Q v σ) X):wpE T (.attr e k) Λ σ Q X:=h
theorem QT{e i}(h:wpE T e Λ σ (fun o σ=>wpE T i Λ σ (fun k σ=>opt (idx σ o k) fun v=>Q v σ) X) X):wpE T (.idx e i) Λ σ Q X:=h
theorem NW{a c}(h:wpE T a Λ σ (fun x σ=>opt (truth x) fun t=>if t=true then wpE T c Λ σ Q X else Q x σ) X):wpE T (.and a c) Λ σ Q X:=h
theorem a7s{a c}(h:wpE T a Λ σ (fun x σ=>opt (truth x) fun t=>if t=true then Q x σ else wpE T c Λ σ Q X) X):wpE T (.or a c) Λ σ Q X:=h
theorem b8j{a}(h:wpE T a Λ σ (fun x σ=>opt (truth x) fun t=>Q (.bool (!t)) σ) X):wpE T (.not a) Λ σ Q X:=h
theorem a7t{e i}(h:wpE T e Λ σ (fun o σ=>wpE T i Λ σ (fun k σ=>opt (slice σ o (some k) none) fun r=>Q r.1 r.2) X) X):wpE T (.sliceL e i) Λ σ Q X:=h
theorem a7u{e i}(h:wpE T e Λ σ (fun o σ=>wpE T i Λ σ (fun k σ=>opt (slice σ o none (some k)) fun r=>Q r.1 r.2) X) X):wpE T (.sliceR e i) Λ σ Q X:=h
theorem CG{es}(h:CX T es Λ σ (fun vs σ=>Q (.ref σ.length) (σ++[.list vs])) X):wpE T (.lst es) Λ σ Q X:=h
theorem a1e{es}(h:CX T es Λ σ (fun vs σ=>Q (.tup vs) σ) X):wpE T (.tup es) Λ σ Q X:=h
theorem a1f{ks es}(h:CX T es Λ σ (fun vs σ=>Q (.ref σ.length) (σ++[.dict (ks.zip vs)])) X):wpE T (.dct ks es) Λ σ Q X:=h
theorem CP{es}(h:CX T es Λ σ (fun vs σ=>T.C f vs σ Q X) X):wpE T (.call f es) Λ σ Q X:=h
theorem NX{c es}(h:CX T es Λ σ (fun vs σ=>T.C (T.ini c) (.ref σ.length::vs) (σ++[.inst c []]) (fun v σ'=>v = .none/\Q (.ref σ.length) σ') X) X):wpE T (.new c es) Λ σ Q X:=h
theorem DE{e m es}(h:wpE T e Λ σ (fun o σ=>opt (mok T.mth σ o m es) fun k=>CX T es Λ σ (fun vs σ'=>match k with
   | some f=>T.C f (o::vs) σ' Q X
   | none=>opt (meth σ' o m vs) fun r=>Q r.1 r.2) X) X):wpE T (.meth e m es) Λ σ Q X:=h
theorem EC{e m es o}(h1:Ev T e Λ σ o)(hm:mok T.mth σ o m es=some (some f))(h:CX T es Λ σ (fun vs σ'=>T.C f (o::vs) σ' Q X) X):wpE T (.meth e m es) Λ σ Q X:=h1 _ _ (AI hm h)
theorem a1g{g es}(h:CX T es Λ σ (fun vs σ=>opt (bi σ g vs) fun r=>Q r.1 r.2) X):wpE T (.bi g es) Λ σ Q X:=h
theorem BS{e es}{Q:List PV->St->Prop}(h:wpE T e Λ σ (fun v σ=>CX T es Λ σ (fun vs σ=>Q (v::vs) σ) X) X):CX T (e::es) Λ σ Q X:=h
theorem BC{Q:List PV->St->Prop}(h:Q [] σ):CX T [] Λ σ Q X:=h
theorem CN{t:Bool}{A B:Prop}(h1:t=true->A)(h2:t=false->B):opt (truth (.bool t)) fun t=>if t=true then A else B:=by
 show if t=true then A else B
 induction t using Bool.casesOn
 ·exact h2 rfl
 ·exact h1 rfl
noncomputable def sq(T:Tb)(r:List MS)(R:Fl->Loc->St->Prop)(X:St->Prop):Fl->Loc->St->Prop
 | .next,Λ,σ=>AN T r Λ σ R X
 | .ret v,Λ,σ=>R (.ret v) Λ σ
 | .cont,Λ,σ=>R .cont Λ σ
theorem b0b:(fun f Λ σ=>match f with | .next=>AN T r Λ σ R X | f=>R f Λ σ)=sq T r R X:=by
 funext f Λ σ;induction f using Fl.casesOn<;>rfl
theorem LR{s}(h:wpS T s Λ σ (sq T r R X) X):AN T (s::r) Λ σ R X:=by
 rw[← b0b]at h;exact h
theorem AX(h:R .next Λ σ):AN T [] Λ σ R X:=h
theorem AS{k e}(h:wpE T e Λ σ (fun v σ=>AN T r (put k v Λ) σ R X) X):AN T (.asg k e::r) Λ σ R X:=h
theorem KQ{ks es}(h:CX T es Λ σ (fun vs σ=>AN T r (puts ks.reverse vs.reverse Λ) σ R X) X):AN T (.asgT ks es::r) Λ σ R X:=h
theorem FL{e k v}(h:wpE T v Λ σ (fun u σ=>wpE T e Λ σ (fun o σ=>opt (setAttr σ o k u) fun σ=>AN T r Λ σ R X) X) X):AN T (.setA e k v::r) Λ σ R X:=h
theorem WK{e i v}(h:wpE T v Λ σ (fun u σ=>wpE T e Λ σ (fun o σ=>wpE T i Λ σ (fun k σ=>opt (setItem σ o k u) fun σ=>AN T r Λ σ R X) X) X) X):AN T (.setI e i v::r) Λ σ R X:=h
theorem BA{e}(h:wpE T e Λ σ (fun v σ=>R (.ret v) Λ σ) X):AN T (.ret e::r) Λ σ R X:=h
theorem GC{e}(h:wpE T e Λ σ (fun _ σ=>AN T r Λ σ R X) X):AN T (.exp e::r) Λ σ R X:=h
theorem WL(h:R .cont Λ σ):AN T (.cont::r) Λ σ R X:=h
theorem MV{c a d}(h:wpE T c Λ σ (fun x σ=>opt (truth x) fun t=>if t=true then AN T a Λ σ (sq T r R X) X else AN T d Λ σ (sq T r R X) X) X):AN T (.ifS c a d::r) Λ σ R X:=LR h
theorem b9t{i:Int}(h:T.free)(hX:X σ):AN T (.raise 2 [.int i]::r) Λ σ R X:=⟨h,hX⟩
theorem DR{c a d t}(h:Ev T c Λ σ (.bool t))(h1:t=true->AN T a Λ σ (sq T r R X) X)(h2:t=false->AN T d Λ σ (sq T r R X) X):AN T (.ifS c a d::r) Λ σ R X:=MV (h _ _ (CN h1 h2))
theorem c0b{c e t v}(h:Ev T c Λ σ (.bool t))(h1:t=true->Ev T e Λ σ v)(h2:t=true->R (.ret v) Λ σ)(h3:t=false->AN T r Λ σ R X):AN T (.ifS c [.ret e] []::r) Λ σ R X :=
 DR h (fun e=>BA (h1 e _ _ (h2 e))) fun e=>h3 e
theorem QU{c t}{i:Int}(h:Ev T c Λ σ (.bool t))(h1:t=true->T.free/\X σ)(h3:t=false->AN T r Λ σ R X):AN T (.ifS c [.raise 2 [.int i]] []::r) Λ σ R X :=
 DR h (fun e=>h1 e) fun e=>h3 e
theorem b9x{k e v}(h:Ev T e Λ σ v)(hp:put k v Λ=Λ')(H:AN T r Λ' σ R X):AN T (.asg k e::r) Λ σ R X:=by subst hp;exact AS (h _ _ H)
theorem JI{e v}(h:Ev T e Λ σ v)(H:R (.ret v) Λ σ):AN T (.ret e::r) Λ σ R X:=BA (h _ _ H)
end
end Mine
end
section
open PySem PySem.W PyProof.Rows
set_option maxRecDepth 100000
set_option linter.unusedVariables false
namespace Mine
set_option tactic.hygienic false
section
variable {b:Bool}{n i j k f:Nat}{T:Tb}{Λ Λ':Loc}{σ:St}{Q:PV->St->Prop}{X:St->Prop}{R:Fl->Loc->St->Prop}
theorem mt_app{v}:meth σ (.ref i) .append [v]=match AK σ i with | some vs=>if fits vs.length then some (.none,σ.set i (.list (vs++[v])))else none | none=>none:=rfl
theorem b4q:meth σ (.ref i) .extend [.ref j]=match AK σ i with | some vs=>(match AK σ j with | some us=>if i≠j/\fits (vs.length+us.length)=true then some (.none,σ.set i (.list (vs++us)))else none | none=>none) | none=>none:=rfl
theorem b4r{x a v}:meth σ (.ref i) .get [.str x a,v]=match dictAt σ i with | some kvs=>some ((DQ x kvs).getD v,σ) | none=>none:=rfl
theorem a3z{x a}:meth σ (.str x a) .join [.ref i]=match AK σ i with | some vs=>(match BJ vs with | some l=>if JoinOk x l=true/\fits (Txt.join x l).length=true then some (.str (Txt.join x l) false,σ)else none | none=>none) | none=>none:=rfl
theorem b4s:meth σ (.bytes []) .join [.ref i]=match AK σ i with | some vs=>(match DF vs with | some l=>if fits l.flatten.length&&fits l.length then some (.bytes l.flatten,σ)else none | none=>none) | none=>none:=rfl
theorem WM:bi σ .len [.ref i]=match AK σ i with | some vs=>some (.int vs.length,σ) | none=>none:=rfl
theorem b4t:bi σ .bytes [.ref i]=match AK σ i with | some vs=>(match CR vs with | some l=>if l.all (fun n=>decide (0<=n)&&decide (n<256))then some (.bytes (l.map fun n=>n.toNat.toUInt8),σ)else none | none=>none) | none=>none:=rfl
theorem b4u:bi σ .list [.ref i]=match AK σ i with | some vs=>some (.ref σ.length,σ++[.list vs]) | none=>none:=rfl
theorem NY{a b}:cmp σ .eq a b=eqv σ a b:=rfl
theorem cm_ne{a b}:cmp σ .ne a b=(eqv σ a b).map (!·):=rfl
theorem a1h{a b}:cmp σ .isin a b=isin σ a b:=rfl
theorem cm_ni{a b}:cmp σ .notin a b=(isin σ a b).map (!·):=rfl
theorem eq_ref:eqv σ (.ref i) (.ref j)=match AK σ i,AK σ j with
  | some vs,some us=>if vs.length≠us.length then some false else(match datas vs,datas us with
   | some l,some m=>if SeqAt.shaped (.list l)&&SeqAt.shaped (.list m)then some (PyData.eqvAll l m)else none
   | _,_=>none)
  | _,_=>none:=rfl
theorem in_ref{x a}:isin σ (.str x a) (.ref i)=match AK σ i with | some vs=>(match BJ vs with | some l=>some (l.contains x) | none=>none) | none=>none:=rfl
theorem bn_ref:bin σ .add (.ref i) (.ref j)=match AK σ i,AK σ j with | some vs,some us=>if fits (vs.length+us.length)then some (.ref σ.length,σ++[.list (vs++us)])else none | _,_=>none:=rfl
theorem b8k{vs}:bin σ .add (.flist vs) (.ref j)=match AK σ j with | some us=>if fits (vs.length+us.length)then some (.ref σ.length,σ++[.list (vs++us)])else none | _=>none:=rfl
theorem b4v{mth es}:mok mth σ (.ref i) (.own k) es=match instAt σ i with | some (c,fs)=>(match get k fs with | none=>(match mth c k with | some f=>some (some f) | none=>none) | some _=>none) | none=>none:=rfl
theorem b4w{mth es}:mok mth σ (.ref i) .append es=match AK σ i with | some _=>some none | none=>none:=rfl
theorem b4x{mth es}:mok mth σ (.ref i) .extend es=match AK σ i with | some _=>some none | none=>none:=rfl
theorem b4y{mth es}:mok mth σ (.ref i) .get es=match dictAt σ i with | some _=>some none | none=>none:=rfl
theorem BF{c fs v}(h:σ[i]? = some (.inst c fs))(hf:GZ c k=true)(hg:get k fs=some v):attr σ (.ref i) k=some v:=by
 simp only[attr,instAt,h,hf,if_true,hg]
theorem CQ{c fs v}(h:σ[i]? = some (.inst c fs))(hf:GZ c k=true)(hl:fs.length<100):setAttr σ (.ref i) k v=some (σ.set i (.inst c (put k v fs))):=by
 simp only[setAttr,instAt,h,hf,hl,and_self,if_true]
theorem BO{c fs es}(h:σ[i]? = some (.inst c fs))(hg:get k fs=none)(hm:methF c k=some f):mok (U b n).mth σ (.ref i) (.own k) es=some (some f):=by
 simp only[b4v,instAt,h,hg,U_mth,hm]
theorem AG{vs}(h:σ[i]? = some (.list vs)):AK σ i=some vs:=by simp only[AK,h]
theorem FC{vs}(h:σ[i]? = some (.dict vs)):dictAt σ i=some vs:=by simp only[dictAt,h]
theorem b9g{c fs}(h:σ[i]? = some (.inst c fs)):instAt σ i=some (c,fs):=by simp only[instAt,h]
theorem EK{es vs mth}(h:σ[i]? = some (.list vs)):mok mth σ (.ref i) .append es=some none:=by simp only[b4w,AG h]
theorem a1i{es vs mth}(h:σ[i]? = some (.list vs)):mok mth σ (.ref i) .extend es=some none:=by simp only[b4x,AG h]
theorem ZN{es vs mth}(h:σ[i]? = some (.dict vs)):mok mth σ (.ref i) .get es=some none:=by simp only[b4y,FC h]
theorem AW{o o':AO}(h:σ[i]? = some o):(σ.set i o')[i]? = some o':=by
 have:=(List.getElem?_eq_some_iff.mp h).1
 rw[List.getElem?_set_self this]
theorem BK{o o':AO}(h:σ[j]? = some o)(hn:i≠j):(σ.set i o')[j]? = some o:=by
 rw[List.getElem?_set_ne hn];exact h
theorem AP{o:AO}{τ:St}(h:σ[i]? = some o):(σ++τ)[i]? = some o:=by
 rw[List.getElem?_append_left (List.getElem?_eq_some_iff.mp h).1];exact h
theorem app_new{o:AO}:(σ++[o])[σ.length]? = some o:=by simp
noncomputable def FV(c:Int):Bool:=(decide (97<=c)&&decide (c<=122))||(decide (65<=c)&&decide (c<=90))
noncomputable def KR(c:Int):Bool:=FV c||((decide (48<=c)&&decide (c<=57))||(c==45))
theorem WN{c:Int}:Pu (U b (n+1)) 2 [.int c] σ (.bool (FV c)):=fun Q X h=>by
 refine AV (mb:=b_config_is_letter) (Λ:=[(6,.int c)]) rfl rfl rfl rfl ?_
 refine JI (CC (SK AH (AA rfl) AH rfl rfl) fun _=>SK AH (AA rfl) AH rfl rfl) ?_
 exact h
theorem WO{c:Int}:Pu (U b (n+2)) 3 [.int c] σ (.bool (KR c)):=fun Q X h=>by
 refine AV (mb:=b_config_is_sign) (Λ:=[(6,.int c)]) rfl rfl rfl rfl ?_
 refine' JI (CC (DL (AB (AA rfl) AE) WN) fun _=>CC (SK AH (AA rfl) AH rfl rfl) fun _=>AF (AA rfl) AH rfl) ?_
 exact h
end
noncomputable abbrev RO(o:List UInt8)(r:List UInt8)(row:Int)(j:Nat):AO:=.inst 4 [(15,.bytes o),(16,.int ((o.length-r.length:Nat):Int)),(17,.int row),(18,.ref j)]
noncomputable def hd:List UInt8->Int
 | []=>10
 | c::_=>(c.toNat:Int)
section
variable {b:Bool}{n i j k f:Nat}{T:Tb}{Λ Λ':Loc}{σ:St}{Q:PV->St->Prop}{X:St->Prop}{R:Fl->Loc->St->Prop}{o r:List UInt8}{row:Int}
theorem MW(hσ:σ[i]? = some (RO o r row j))(hs:r<:+o):Pu (U b (n+1)) 10 [.ref i] σ (.bool r.isEmpty):=fun Q X h=>by
 refine AV (mb:=b_ConfigReader_is_over) (Λ:=[(0,.ref i)]) rfl rfl rfl rfl ?_
 refine JI (AF (AQ (AA rfl) (BF hσ rfl rfl)) (BR (AB (AQ (AA rfl) (BF hσ rfl rfl)) AE) rfl) rfl) ?_
 have:=hs.length_le
 have e:decide ((((o.length-r.length:Nat):Int))>=(o.length:Int))=r.isEmpty:=by
  induction r using List.casesOn with
  | nil=>simp
  | cons c r=>simp at this ⊢;lia
 rw[e];exact h
theorem ZO(hs:c::r<:+o):o[o.length-(c::r).length]? = some c:=by
 revert hs;refine AR ?_;rintro p rfl
 simp
theorem TN{k:Nat}(h:k<=1000000):CF (k:Int)=true:=by
 unfold CF;rw[Bool.and_eq_true,decide_eq_true_iff,decide_eq_true_iff];lia
theorem TP{c:UInt8}{q:List UInt8}(h:q[k]? = some c)(hk:q.length<=1000000):idx σ (.bytes q) (.int (k:Int))=some (.int (c.toNat:Int)):=by
 have:=(List.getElem?_eq_some_iff.mp h).1
 show(if 0<=(k:Int)/\CF (k:Int)=true then(q[(k:Int).toNat]?).map (fun c=>PV.int (c.toNat:Int))else none)=_
 rw[if_pos ⟨by lia,TN (by lia)⟩,Int.toNat_natCast,h];rfl
theorem QV{a c}(h:Ev T a Λ σ (.bool false)):Ev T (.and a c) Λ σ (.bool false):=EJ (u:=false) h fun e=>nomatch e
theorem WP(hσ:σ[i]? = some (RO o r row j))(hs:r<:+o)(hn:(13:UInt8)∉o)(hl:o.length<=1000000):Pu (U b (n+2)) 11 [.ref i] σ (.int (hd r)):=fun Q X h=>by
 refine AV (mb:=b_ConfigReader_peek) (Λ:=[(0,.ref i)]) rfl rfl rfl rfl ?_
 refine' DR (t:=r.isEmpty) ?h ?h1 ?h2
 case h=>exact DZ (AA rfl) (BO hσ rfl rfl) AE (MW hσ hs)
 case h1 =>
  intro e
  induction r using List.casesOn with
  | nil=>exact JI AH h
  | cons c r=>exact noF e
 case h2 =>
  intro e
  induction r using List.casesOn with
  | nil=>exact noG e
  | cons c r =>
   refine' AS ?_
   refine' AC (v:=.int (c.toNat:Int)) ?h ?_
   case h=>exact BH (AQ (AA rfl) (BF hσ rfl rfl)) (AQ (AA rfl) (BF hσ rfl rfl)) (TP (ZO hs) hl)
   have hc:c≠13:=fun e=>hn (hs.subset (e ▸ .head _))
   refine' DR (t:=false) ?h ?h1 ?h2
   case h =>
    refine QV (AF (AA rfl) AH ?_)
    show some (((c.toNat:Int))==13)=_
    have:c.toNat≠13:=fun e=>hc (UInt8.toNat_inj.mp e)
    rw[show(((c.toNat:Int))==13)=false from by rw[beq_eq_false_iff_ne];lia]
   case h1=>intro e;exact noF e
   case h2=>intro _;exact AX (JI (r:=[]) (AA rfl) h)
theorem b9y:(RO o r row j)=AO.inst 4 [(15,.bytes o),(16,.int ((o.length-r.length:Nat):Int)),(17,.int row),(18,.ref j)]:=rfl
theorem WQ(hσ:σ[i]? = some (RO o r row j))(hs:r<:+o)(hn:(13:UInt8)∉o)(hl:o.length<=1000000)(h:∀ row',Q (.int (hd r)) (σ.set i (RO o r.tail row' j))):(U b (n+3)).C 12 [.ref i] σ Q X:=by
 refine AV (mb:=b_ConfigReader_take) (Λ:=[(0,.ref i)]) rfl rfl rfl rfl ?_
 refine AS (AC (DZ (AA rfl) (BO hσ rfl rfl) AE (WP hσ hs hn hl)) ?_)
 -- the last two statements
 have last:∀ (τ:St) (row':Int),τ[i]? = some (RO o r row' j)->τ.set i (RO o r.tail row' j)=σ.set i (RO o r.tail row' j)->AN (U b (n+2)) [MS.ifS (.not (.meth (.var 0) (.own 19) [])) [.setA (.var 0) 16 (.bin .add (.attr (.var 0) 16) (.int 1))] [],.ret (.var 6)] (put 6 (.int (hd r)) [(0,.ref i)]) τ (Ends Q) X:=fun τ row' hτ e=>by
  refine DR (t := !r.isEmpty) (DD (DZ (AA rfl) (BO hτ rfl rfl) AE (MW hτ hs))) (fun h1=>?_) fun h1=>?_
  ·induction r using List.casesOn with
   | nil=>exact noF h1
   | cons c r =>
    refine FL (AC (AT (AQ (AA rfl) (BF hτ rfl rfl)) AH rfl) ?_)
    refine AC (AA rfl) (AI (CQ hτ rfl (by simp)) ?_)
    refine AX (JI (AA rfl) ?_)
    show Q _ _
    have hz:=hs.length_le
    have e2:put 16 (PV.int (((o.length-(c::r).length:Nat):Int)+1)) [(15,.bytes o),(16,.int ((o.length-(c::r).length:Nat):Int)),(17,.int row'),(18,.ref j)]=[(15,.bytes o),(16,.int ((o.length-r.length:Nat):Int)),(17,.int row'),(18,.ref j)]:=by
     show[(15,PV.bytes o),(16,.int (((o.length-(c::r).length:Nat):Int)+1)),(17,.int row'),(18,.ref j)]=_
     rw[List.length_cons]at hz ⊢
     rw[show((o.length-(r.length+1):Nat):Int)+1=((o.length-r.length:Nat):Int) by lia]
    rw[e2]
    have:=h row'
    rw[← e]at this;exact this
  ·induction r using List.casesOn with
   | nil =>
    refine AX (JI (AA rfl) ?_)
    show Q _ _
    have:=h row'
    rw[← e]at this
    have e3:τ.set i (RO o [] row' j)=τ:=by
     apply List.ext_getElem?
     intro m
     by_cases hm:i=m
     ·subst hm;rw[AW hτ];exact hτ.symm
     ·rw[List.getElem?_set_ne hm]
    rw[show([]:List UInt8).tail=[] from rfl,e3]at this
    exact this
   | cons c r=>exact noG h1
 by_cases hx:hd r=10
 ·refine DR (t:=true) (AF (AA rfl) AH (by show some (hd r==10)=_;rw[hx];rfl)) (fun _=>?_) fun e=>nomatch e
  refine FL (AC (AT (AQ (AA rfl) (BF hσ rfl rfl)) AH rfl) ?_)
  refine AC (AA rfl) (AI (CQ hσ rfl (by simp)) ?_)
  have hτ:(σ.set i (RO o r (row+1) j))[i]? = some (RO o r (row+1) j):=AW hσ
  refine DR (t:=false) ?_ (fun e=>nomatch e) fun _=>AX (last (σ.set i (RO o r (row+1) j)) (row+1) hτ (by rw[List.set_set]))
  induction r using List.casesOn with
  | nil=>exact QV (DD (DZ (AA rfl) (BO hτ rfl rfl) AE (MW hτ hs)))
  | cons c r =>
   refine EJ (t:=true) (u:=false) (DD (DZ (AA rfl) (BO hτ rfl rfl) AE (MW hτ hs))) fun _=>?_
   refine AF (BH (AQ (AA rfl) (BF hτ rfl rfl)) (AQ (AA rfl) (BF hτ rfl rfl)) (TP (ZO hs) hl)) AH ?_
   show some (((c.toNat:Int))==13)=_
   have:hd (c::r)=(c.toNat:Int):=rfl
   rw[← this,hx];rfl
 ·refine DR (t:=false) (AF (AA rfl) AH (by show some (hd r==10)=_;rw[beq_eq_false_iff_ne.mpr hx])) (fun e=>nomatch e) fun _=>?_
  exact AX (last σ row hσ rfl)
noncomputable def wk(I:Nat->Loc->St->Prop)(m:Nat)(R:Fl->Loc->St->Prop):Fl->Loc->St->Prop
 | .ret v,Λ,σ=>R (.ret v) Λ σ
 | .next,Λ,σ=>∃ m',m'<m/\I m' Λ σ
 | .cont,Λ,σ=>∃ m',m'<m/\I m' Λ σ
theorem IV{c b' r'}(I:Nat->Loc->St->Prop){m:Nat}(h0:I m Λ σ)(h:∀ m Λ σ,I m Λ σ->wpE T c Λ σ (fun x σ=>opt (truth x) fun t =>
   if t=true then AN T b' Λ σ (wk I m R) (fun _=>False)else AN T r' Λ σ R X) (fun _=>False)):AN T (.while c b'::r') Λ σ R X:=by
 refine LR ⟨I,⟨m,h0⟩,fun m Λ σ hI=>?_⟩
 have:=h m Λ σ hI
 have e:(fun f Λ σ=>match f with | .ret v=>(sq T r' R X) (.ret v) Λ σ | _=>∃ m',m'<m/\I m' Λ σ)=wk I m R:=by
  funext f Λ σ;induction f using Fl.casesOn<;>rfl
 rw[← e]at this;exact this
theorem LS{x:AO}(h:σ[i]? = some x):σ.set i x=σ:=by
 apply List.ext_getElem?
 intro m
 by_cases hm:i=m
 ·subst hm;rw[AW h];exact h.symm
 ·rw[List.getElem?_set_ne hm]
theorem DN{α:Type}{c:Prop} [Decidable c]{a b:Option α}{x:α}{C:Prop}(h1:c->a=some x->C)(h2:¬c->b=some x->C)(e:(if c then a else b)=some x):C :=
 (Decidable.em c).elim (fun h=>h1 h ((if_pos h).symm.trans e)) fun h=>h2 h ((if_neg h).symm.trans e)
theorem ES{α:Type}{c:Prop} [Decidable c]{a:Option α}{x:α}{C:Prop}(h:c->a=some x->C)(e:(if c then a else none)=some x):C:=DN h (fun _ e=>noS e) e
theorem PH{α:Type}{c:Prop} [Decidable c]{b:Option α}{x:α}{C:Prop}(h:¬c->b=some x->C)(e:(if c then none else b)=some x):C:=DN (fun _ e=>noS e) h e
theorem a1j{α:Type}{c:Prop} [Decidable c]{a b:Option α}{x:α}(h:c)(e:(if c then a else b)=some x):a=some x:=(if_pos h).symm.trans e
theorem a1k{α:Type}{c:Prop} [Decidable c]{a b:Option α}{x:α}(h:¬c)(e:(if c then a else b)=some x):b=some x:=(if_neg h).symm.trans e
theorem sp2{α β:Type}{a c:α}{b d:β}(e:some (a,b)=some (c,d)):b=d:=congrArg Prod.snd (sj e)
noncomputable def skip(p:List UInt8->Bool):List UInt8->List UInt8
 | []=>[]
 | c::r=>if p (c::r)=true then skip p r else c::r
theorem FW(p):∀ r:List UInt8,skip p r<:+r
 | []=>List.suffix_refl _
 | c::r=>by
  rw[skip]
  split
  ·exact(FW p r).trans (List.suffix_cons _ _)
  ·exact List.suffix_refl _
theorem b9o{r:List UInt8}:r.tail<:+r:=List.tail_suffix r
theorem MX{c:ME}{r':List MS}{p:List UInt8->Bool}(hσ:σ[i]? = some (RO o r row j))(hs:r<:+o)(hn:(13:UInt8)∉o)(hl:o.length<=1000000)(hp:p []=false)(h0:get 0 Λ=some (.ref i))
  (hc:∀ q row',q<:+o->Ev (U b (n+3)) c Λ (σ.set i (RO o q row' j)) (.bool (p q)))
  (h:∀ row',AN (U b (n+3)) r' Λ (σ.set i (RO o (skip p r) row' j)) R X):AN (U b (n+3)) (.while c [.exp (.meth (.var 0) (.own 21) [])]::r') Λ σ R X:=by
 refine IV (fun m Λ' σ'=>Λ'=Λ/\∃ q row',σ'=σ.set i (RO o q row' j)/\q<:+o/\skip p q=skip p r/\m=q.length) (m:=r.length) ⟨rfl,r,row,(LS hσ).symm,hs,rfl,rfl⟩ ?_
 rintro m Λ' σ' ⟨rfl,q,row',rfl,hq,e,rfl⟩
 refine AC (hc q row' hq) (CN (fun ht=>?_) fun ht=>?_)
 ·induction q using List.casesOn with
  | nil=>rw[hp]at ht;exact noF ht
  | cons a q =>
   have hh:(σ.set i (RO o (a::q) row' j))[i]? = some (RO o (a::q) row' j):=AW hσ
   refine GC (EC (AA h0) (BO hh rfl rfl) (BC (WQ hh hq hn hl fun row''=>AX ?_)))
   refine⟨q.length,by simp,rfl,q,row'',by rw[List.set_set];rfl,(List.suffix_cons _ _).trans hq,?_,rfl⟩
   rw[← e]
   show _=skip p (a::q)
   rw[skip,if_pos ht]
 ·have e2:skip p q=q:=by
   induction q using List.casesOn with
   | nil=>rfl
   | cons a q=>rw[skip];rw[if_neg (by rw[ht];decide)]
  rw[← e,e2]at h
  exact h row'
end
structure Rd(o:List UInt8):Prop where
 no:(13:UInt8)∉o
 len:o.length<=1000000
noncomputable abbrev S1(c:UInt8):Str:=⟨#[c.toNat]⟩
noncomputable def PI(c:UInt8):Bool:=KR (c.toNat:Int)
noncomputable def HT(r:List UInt8):Bool:=hd r==32||hd r==9
section
variable {b:Bool}{n i j k f:Nat}{T:Tb}{Λ Λ':Loc}{σ:St}{Q:PV->St->Prop}{X:St->Prop}{R:Fl->Loc->St->Prop}{o r:List UInt8}{row:Int}
theorem ET(hi:i<σ.length){x:AO}:(σ.set i x)[i]? = some x:=by rw[List.getElem?_set_self hi]
theorem QW(H:Rd o)(hi:i<σ.length)(hs:r<:+o)(h0:get 0 Λ=some (.ref i)):Ev (U b (n+2)) (.meth (.var 0) (.own 20) []) Λ (σ.set i (RO o r row j)) (.int (hd r)) :=
 DZ (AA h0) (BO (ET hi) rfl rfl) AE (WP (ET hi) hs H.no H.len)
theorem IW{op:COp}{c:Int}{t:Bool}(H:Rd o)(hi:i<σ.length)(hs:r<:+o)(h0:get 0 Λ=some (.ref i))(h:∀ τ,cmp τ op (.int (hd r)) (.int c)=some t):Ev (U b (n+2)) (.cmp op (.meth (.var 0) (.own 20) []) (.int c)) Λ (σ.set i (RO o r row j)) (.bool t) :=
 AF (QW H hi hs h0) AH (h _)
theorem FM{r':List MS}(H:Rd o)(hi:i<σ.length)(hs:r<:+o)(h0:get 0 Λ=some (.ref i))(h:∀ row',AN (U b (n+3)) r' Λ (σ.set i (RO o r.tail row' j)) R X):AN (U b (n+3)) (.exp (.meth (.var 0) (.own 21) [])::r') Λ (σ.set i (RO o r row j)) R X:=by
 refine GC (EC (AA h0) (BO (ET hi) rfl rfl) (BC (WQ (ET hi) hs H.no H.len fun row'=>?_)))
 rw[List.set_set];exact h row'
theorem a4a{c:UInt8}{τ:St}:bi τ .chr [.int (c.toNat:Int)]=some (.str (S1 c) true,τ):=by
 have:c.toNat<256:=c.toNat_lt
 show(if 0<=(c.toNat:Int)/\(c.toNat:Int)<=1114111 then some (PV.str ⟨#[(c.toNat:Int).toNat]⟩ true,_)else none)=_
 rw[if_pos (by lia)];rfl
theorem QX{c:UInt8}(H:Rd o)(hi:i<σ.length)(hs:c::r<:+o)(h0:get 0 Λ=some (.ref i))(h:∀ row',Q (.str (S1 c) true) (σ.set i (RO o r row' j))):wpE (U b (n+3)) (.bi .chr [(.meth (.var 0) (.own 21) [])]) Λ (σ.set i (RO o (c::r) row j)) Q X:=by
 refine a1g (BS (EC (AA h0) (BO (ET hi) rfl rfl) (BC (WQ (ET hi) hs H.no H.len fun row'=>BC (AI a4a ?_)))))
 show Q (.str (S1 c) true) _
 rw[List.set_set];exact h row'
theorem b9z(c:UInt8):(S1 c).length=1:=rfl
theorem add_str{x y:Str}{t u:Bool}(h:fits (x.length+y.length)=true):bin σ .add (.str x t) (.str y u)=some (.str (x++y) (t&&u),σ):=by
 show(if fits (x.length+y.length)=true then _ else none)=_
 rw[if_pos h]
theorem suf1{c:UInt8}{o r:List UInt8}(h:c::r<:+o):r<:+o:=(List.suffix_cons _ _).trans h
theorem a7v(H:Rd o)(hi:i<σ.length)(hs:r<:+o)(h:∀ row',Q .none (σ.set i (RO o (skip HT r) row' j))):(U b (n+4)).C 13 [.ref i] (σ.set i (RO o r row j)) Q X:=by
 refine AV (mb:=b_ConfigReader_skip_blanks) (Λ:=[(0,.ref i)]) rfl rfl rfl rfl ?_
 refine MX (p:=HT) (ET hi) hs H.no H.len rfl rfl (fun q row' hq=>?_) fun row'=>AX ?_
 ·rw[List.set_set]
  exact CC (IW H hi hq rfl fun _=>rfl) fun _=>IW H hi hq rfl fun _=>rfl
 ·show Q _ _
  rw[List.set_set];exact h row'
theorem WR{r':List MS}(H:Rd o)(hi:i<σ.length)(hs:r<:+o)(h0:get 0 Λ=some (.ref i))(h:∀ row',AN (U b (n+4)) r' Λ (σ.set i (RO o (skip HT r) row' j)) R X):AN (U b (n+4)) (.exp (.meth (.var 0) (.own 29) [])::r') Λ (σ.set i (RO o r row j)) R X :=
 GC (EC (AA h0) (BO (ET hi) rfl rfl) (BC (a7v H hi hs h)))
noncomputable def KE:Nat->List UInt8->Str->Option (Str×List UInt8)
 | 0,_,_=>none
 | _+1,[],x=>some (x,[])
 | m+1,c::r,x=>if PI c=true then(if fits (x.length+1)=true then KE m r (x++S1 c)else none)else some (x,c::r)
noncomputable def spI(f:Nat->List UInt8->Str->Option (Str×List UInt8))(σ:St)(i j:Nat)(o:List UInt8)(x:Str)(r₁:List UInt8)(m:Nat)(Λ:Loc)(σ':St):Prop :=
 ∃ q row y,Λ=[(0,.ref i),(30,.str y true)]/\σ'=σ.set i (RO o q row j)/\q<:+o/\f m q y=some (x,r₁)
theorem MY{g x m q y}{r₁:List UInt8}(hq:q<:+o)(e:g m q y=some (x,r₁)):spI g σ i j o x r₁ m [(0,.ref i),(30,.str y true)] (σ.set i (RO o q row j)):=⟨q,row,y,rfl,rfl,hq,e⟩
theorem a4b{g x m}{r₁:List UInt8}{σ':St}{C:Loc->St->Prop}(k:∀ q row y,q<:+o->g m q y=some (x,r₁)->C [(0,.ref i),(30,.str y true)] (σ.set i (RO o q row j)))(h:spI g σ i j o x r₁ m Λ σ'):C Λ σ':=by
 obtain⟨q,row,y,rfl,rfl,hq,e⟩:=h
 exact k q row y hq e
theorem b2h{m:Nat}{x:Str}{r₁:List UInt8}(H:Rd o)(hi:i<σ.length)(hs:r<:+o)(e:KE m r (Str.ofString "")=some (x,r₁))(h:∀ row',r₁<:+o->Q (.str x true) (σ.set i (RO o r₁ row' j))):(U b (n+4)).C 18 [.ref i] (σ.set i (RO o r row j)) Q X:=by
 refine AV (mb:=b_ConfigReader_read_spelt) (Λ:=[(0,.ref i)]) rfl rfl rfl rfl ?_
 refine AS (AC AM ?_)
 refine IV (spI KE σ i j o x r₁) (m:=m) (MY hs e) ?_
 intro m Λ' σ';apply a4b;intro q row' y hq e
 refine AC (DL (v:=.bool (KR (hd q))) (AB (QW H hi hq rfl) AE) WO) ?_
 induction m using Nat.casesAuxOn with
 | zero=>exact noS e
 | succ m =>
  induction q using List.casesOn with
  | nil =>
   refine CN (fun ht=>by exact noF ht) fun _=>?_
   rw[KE]at e
   replace e:=sj e;cases e
   exact BA (AC (AA rfl) (h _ hq))
  | cons c q =>
   rw[KE]at e
   refine CN (fun ht=>?_) fun ht=>?_
   ·replace e:=a1j (show PI c=true from ht) e
    revert e;refine ES fun hf e=>?_
    ·refine AS (FQ (AC (AA rfl) (QX H hi hq rfl fun row''=>AI (add_str hf) (AX ?_))))
     exact⟨m,Nat.lt_succ_self m,MY (suf1 hq) e⟩
   ·replace e:=a1k (show ¬ PI c=true from by rw[show PI c=false from ht];decide) e
    replace e:=sj e;cases e
    exact BA (AC (AA rfl) (h _ hq))
theorem a7w{c d:UInt8}(h:c≠d):¬ ((c.toNat:Int))=(d.toNat:Int):=fun e=>h (UInt8.toNat_inj.mp (by lia))
theorem IE{c d:UInt8}{z:Int}(hz:z=(d.toNat:Int)):((c.toNat:Int)==z)=decide (c=d):=by
 subst hz
 by_cases h:c=d
 ·subst h;simp
 ·rw[decide_eq_false h,beq_eq_false_iff_ne];exact a7w h
theorem b4z{c d:UInt8}{z:Int}(H:Rd o)(hi:i<σ.length)(hs:c::r<:+o)(h0:get 0 Λ=some (.ref i))(hz:z=(d.toNat:Int)):Ev (U b (n+2)) (.cmp .eq (.meth (.var 0) (.own 20) []) (.int z)) Λ (σ.set i (RO o (c::r) row j)) (.bool (decide (c=d))) :=
 IW H hi hs h0 fun _=>congrArg some (IE hz)
theorem a1l{c d:UInt8}{z:Int}(H:Rd o)(hi:i<σ.length)(hs:c::r<:+o)(h0:get 0 Λ=some (.ref i))(hz:z=(d.toNat:Int)):Ev (U b (n+2)) (.cmp .ne (.meth (.var 0) (.own 20) []) (.int z)) Λ (σ.set i (RO o (c::r) row j)) (.bool (!decide (c=d))) :=
 IW H hi hs h0 fun _=>(by show some (!((c.toNat:Int)==z))=_;rw[IE hz])
theorem b0c{c:UInt8}{z:Int}(H:Rd o)(hi:i<σ.length)(hs:c::r<:+o)(h0:get 0 Λ=some (.ref i))(hz:z=(c.toNat:Int)):Ev (U b (n+2)) (.cmp .eq (.meth (.var 0) (.own 20) []) (.int z)) Λ (σ.set i (RO o (c::r) row j)) (.bool true):=by
 have:=b4z (b:=b) (n:=n) (row:=row) (j:=j) H hi hs h0 hz;simpa using this
theorem NZ{c:UInt8}(d:UInt8){z:Int}(H:Rd o)(hi:i<σ.length)(hs:c::r<:+o)(h0:get 0 Λ=some (.ref i))(hc:c≠d)(hz:z=(d.toNat:Int)):Ev (U b (n+2)) (.cmp .eq (.meth (.var 0) (.own 20) []) (.int z)) Λ (σ.set i (RO o (c::r) row j)) (.bool false):=by
 have:=b4z (b:=b) (n:=n) (row:=row) (j:=j) H hi hs h0 hz;rw[decide_eq_false hc]at this;exact this
theorem a1m{c:UInt8}{z:Int}(H:Rd o)(hi:i<σ.length)(hs:c::r<:+o)(h0:get 0 Λ=some (.ref i))(hz:z=(c.toNat:Int)):Ev (U b (n+2)) (.cmp .ne (.meth (.var 0) (.own 20) []) (.int z)) Λ (σ.set i (RO o (c::r) row j)) (.bool false):=by
 have:=a1l (b:=b) (n:=n) (row:=row) (j:=j) H hi hs h0 hz;simpa using this
theorem c0c{c:UInt8}(d:UInt8){z:Int}(H:Rd o)(hi:i<σ.length)(hs:c::r<:+o)(h0:get 0 Λ=some (.ref i))(hc:c≠d)(hz:z=(d.toNat:Int)):Ev (U b (n+2)) (.cmp .ne (.meth (.var 0) (.own 20) []) (.int z)) Λ (σ.set i (RO o (c::r) row j)) (.bool true):=by
 have:=a1l (b:=b) (n:=n) (row:=row) (j:=j) H hi hs h0 hz;rw[decide_eq_false hc]at this;exact this
theorem SL{c d:UInt8}{z:Int}{τ:St}{k}(h0:get k Λ=some (.int (c.toNat:Int)))(hz:z=(d.toNat:Int)):Ev T (.cmp .eq (.var k) (.int z)) Λ τ (.bool (decide (c=d))) :=
 AF (AA h0) AH (congrArg some (IE hz))
theorem IQ{c:UInt8}{z:Int}{τ:St}{k}(h0:get k Λ=some (.int (c.toNat:Int)))(hz:z=(c.toNat:Int)):Ev T (.cmp .eq (.var k) (.int z)) Λ τ (.bool true):=by
 have:=SL (T:=T) (τ:=τ) h0 hz;simpa using this
theorem IR{c:UInt8}(d:UInt8){z:Int}{τ:St}{k}(h0:get k Λ=some (.int (c.toNat:Int)))(hc:c≠d)(hz:z=(d.toNat:Int)):Ev T (.cmp .eq (.var k) (.int z)) Λ τ (.bool false):=by
 have:=SL (T:=T) (τ:=τ) h0 hz;rw[decide_eq_false hc]at this;exact this
theorem b9p{c d:UInt8}{z:Int}{τ:St}{k}(h0:get k Λ=some (.int (c.toNat:Int)))(hz:z=(d.toNat:Int)):Ev T (.cmp .ne (.var k) (.int z)) Λ τ (.bool (!decide (c=d))) :=
 AF (AA h0) AH (by show some (!((c.toNat:Int)==z))=_;rw[IE hz])
theorem QY{a c}(h:Ev T a Λ σ (.bool false))(h':Ev T c Λ σ (.bool false)):Ev T (.or a c) Λ σ (.bool false):=CC (u:=false) h fun _=>h'
theorem a1n{a c}(h:Ev T a Λ σ (.bool true)):Ev T (.or a c) Λ σ (.bool true):=CC (u:=true) h fun e=>nomatch e
theorem b0d{a c}(h:Ev T a Λ σ (.bool false))(h':Ev T c Λ σ (.bool true)):Ev T (.or a c) Λ σ (.bool true):=CC (u:=true) h fun _=>h'
theorem JJ{a c}(h:Ev T a Λ σ (.bool true))(h':Ev T c Λ σ (.bool true)):Ev T (.and a c) Λ σ (.bool true):=EJ (u:=true) h fun _=>h'
theorem MZ{a c}(h:Ev T a Λ σ (.bool true))(h':Ev T c Λ σ (.bool false)):Ev T (.and a c) Λ σ (.bool false):=EJ (u:=false) h fun _=>h'
theorem BL{c a r'}(h:Ev T c Λ σ (.bool false))(H:AN T r' Λ σ R X):AN T (.ifS c a []::r') Λ σ R X:=DR h (fun e=>nomatch e) fun _=>AX H
theorem BV{c a d r'}(h:Ev T c Λ σ (.bool true))(H:AN T a Λ σ (sq T r' R X) X):AN T (.ifS c a d::r') Λ σ R X:=DR h (fun _=>H) fun e=>nomatch e
theorem FY{c a d r'}(h:Ev T c Λ σ (.bool false))(H:AN T d Λ σ (sq T r' R X) X):AN T (.ifS c a d::r') Λ σ R X:=DR h (fun e=>nomatch e) fun _=>H
noncomputable def WS:Nat->List UInt8->Str->Option (Str×List UInt8)
 | 0,_,_=>none
 | _+1,[],_=>none
 | m+1,c::r,x =>
  if c=34 then(match r with
   | d::r'=>if d=93 then some (x,r')else none
   | []=>none)
  else if fits (x.length+1)=true then(if c=92 then(match r with
   | []=>none
   | d::r'=>if d=10\/d=0 then none else WS m r' (x++S1 d))
   else if c=10\/c=0 then none else WS m r (x++S1 c))else none
noncomputable def sub(r:List UInt8):Option (Str×List UInt8):=match skip HT r with
 | []=>none
 | c::r=>if c=34 then WS 1000 r (Str.ofString "")else none
theorem b8l{x:Str}{r₁:List UInt8}(H:Rd o)(hi:i<σ.length)(hs:r<:+o)(e:sub r=some (x,r₁))(h:∀ row',r₁<:+o->Q (.str x true) (σ.set i (RO o r₁ row' j))):(U b (n+5)).C 17 [.ref i] (σ.set i (RO o r row j)) Q X:=by
 refine AV (mb:=b_ConfigReader_read_subsection) (Λ:=[(0,.ref i)]) rfl rfl rfl rfl ?_
 refine WR H hi hs rfl fun row=>?_
 have hs':=(FW HT r).trans hs
 unfold sub at e
 revert e hs'
 generalize skip HT r=q
 intro e hs'
 induction q using List.casesOn with
 | nil=>exact noS e
 | cons c q =>
  by_cases hc:c=34
  ·simp only[hc,if_true]at e
   subst hc
   refine BL (a1m H hi hs' rfl rfl) ?_
   refine FM H hi hs' rfl fun row=>AS (AC AM ?_)
   refine IV (spI WS σ i j o x r₁) (m:=1000) (MY (suf1 hs') e) ?_
   clear e hs' q row
   intro m Λ' σ';apply a4b;intro q row y hq e
   induction m using Nat.casesAuxOn with
   | zero=>exact noS e
   | succ m =>
    induction q using List.casesOn with
    | nil=>exact noS e
    | cons c q =>
     refine AC (a1l (d:=34) H hi hq rfl rfl) (CN (fun ht=>?_) fun ht=>?_)
     ·have hc:c≠34:=by simpa using ht
      replace e:=a1k hc e
      revert e;refine ES fun hf e=>?_
      ·revert e;refine DN (fun h92 e=>?_) fun h92 e=>?_
       ·subst h92
        induction q using List.casesOn with
        | nil=>exact noS e
        | cons d q =>
         simp only at e
         revert e;refine PH fun hd e=>?_
         ·rw[not_or]at hd
          refine BV (b0c H hi hq rfl rfl) ?_
          refine FM H hi hq rfl fun row=>AX ?_
          have hq':=suf1 hq
          refine BL (QY (NZ 10 H hi hq' rfl hd.1 rfl) (NZ 0 H hi hq' rfl hd.2 rfl)) ?_
          refine AS (FQ (AC (AA rfl) (QX H hi hq' rfl fun row''=>AI (add_str hf) (AX ?_))))
          exact⟨m,Nat.lt_succ_self m,MY (suf1 hq') e⟩
       ·revert e;refine PH fun hd e=>?_
        ·rw[not_or]at hd
         refine BL (NZ 92 H hi hq rfl h92 rfl) ?_
         refine BL (QY (NZ 10 H hi hq rfl hd.1 rfl) (NZ 0 H hi hq rfl hd.2 rfl)) ?_
         refine AS (FQ (AC (AA rfl) (QX H hi hq rfl fun row''=>AI (add_str hf) (AX ?_))))
         exact⟨m,Nat.lt_succ_self m,MY (suf1 hq) e⟩
     ·have hc:c=34:=by simpa using ht
      replace e:=a1j hc e
      subst hc
      induction q using List.casesOn with
      | nil=>exact noS e
      | cons d q =>
       simp only at e
       revert e;refine ES fun hd e=>?_
       ·replace e:=sj e;cases e
        subst hd
        refine FM H hi hq rfl fun row=>?_
        have hq':=suf1 hq
        refine BL (a1m H hi hq' rfl rfl) ?_
        refine FM H hi hq' rfl fun row=>?_
        exact BA (AC (AA rfl) (h _ (suf1 hq')))
  ·simp only[if_neg hc]at e;exact noS e
noncomputable abbrev E0:Str:=Str.ofString ""
noncomputable def KF:Nat->List UInt8->Str->Option (Str×List UInt8)
 | 0,_,_=>none
 | _+1,[],_=>none
 | m+1,c::r,y =>
  if c=93 then(if y=E0 then none else some (y,r))
  else if y≠E0/\(c=32\/c=9)then(match sub (c::r)with
   | some (x,r')=>if fits (y.length+(Str.ofString ".").length)=true/\fits ((y++Str.ofString ".").length+x.length)=true then some (y++Str.ofString "."++x,r')else none
   | none=>none)
  else if PI c=true\/(c=46/\y≠E0)then(if fits (y.length+(Txt.lower (S1 c)).length)=true then KF m r (y++Txt.lower (S1 c))else none)
  else none
theorem BU{x y:Str}{t u:Bool}{τ:St}:cmp τ .eq (.str x t) (.str y u)=some (decide (x=y)):=rfl
theorem DW{x y:Str}{t u:Bool}{τ:St}:cmp τ .ne (.str x t) (.str y u)=some (!decide (x=y)):=rfl
theorem QZ{x y:Str}{u:Bool}{τ:St}{k}(h:get k Λ=some (.str x u))(hn:x≠y):Ev T (.cmp .eq (.var k) (.str y)) Λ τ (.bool false):=AF (AA h) AM (by rw[BU,decide_eq_false hn])
theorem a4c{x:Str}{u:Bool}{τ:St}{k}(h:get k Λ=some (.str x u)):Ev T (.cmp .eq (.var k) (.str x)) Λ τ (.bool true):=AF (AA h) AM (by rw[BU,decide_eq_true rfl])
theorem ZP{x y:Str}{u:Bool}{τ:St}{k}(h:get k Λ=some (.str x u))(hn:x≠y):Ev T (.cmp .ne (.var k) (.str y)) Λ τ (.bool true):=AF (AA h) AM (by rw[DW,decide_eq_false hn];rfl)
theorem ZQ{x:Str}{u:Bool}{τ:St}{k}(h:get k Λ=some (.str x u)):Ev T (.cmp .ne (.var k) (.str x)) Λ τ (.bool false):=AF (AA h) AM (by rw[DW,decide_eq_true rfl];rfl)
theorem b0e{a}(h:Ev T a Λ σ (.bool true)):Ev T (.not a) Λ σ (.bool false):=DD h
theorem b0f{a}(h:Ev T a Λ σ (.bool false)):Ev T (.not a) Λ σ (.bool true):=DD h
theorem HW{a c}(h:Ev T a Λ σ (.bool false)):Ev T (.and a c) Λ σ (.bool false):=EJ (u:=false) h fun e=>nomatch e
theorem LT{x:Str}{t:Bool}{τ:St}(h:fits x.length=true):meth τ (.str x t) .lower []=some (.str (Txt.lower x) true,τ):=by
 show(if fits x.length=true then _ else none)=_
 rw[if_pos h]
noncomputable def hdI(σ:St)(i j:Nat)(o:List UInt8)(x:Str)(r₁:List UInt8)(m:Nat)(Λ:Loc)(σ':St):Prop :=
 ∃ q row y,(get 0 Λ=some (.ref i)/\get 8 Λ=some (.str y true))/\σ'=σ.set i (RO o q row j)/\q<:+o/\KF m q y=some (x,r₁)
theorem a4d{x m q y}{r₁:List UInt8}(h0:get 0 Λ=some (.ref i))(h8:get 8 Λ=some (.str y true))(hq:q<:+o)(e:KF m q y=some (x,r₁)):hdI σ i j o x r₁ m Λ (σ.set i (RO o q row j)):=⟨q,row,y,⟨h0,h8⟩,rfl,hq,e⟩
theorem b5a{x m}{r₁:List UInt8}{σ':St}{C:St->Prop}(k:∀ q row y,get 0 Λ=some (.ref i)->get 8 Λ=some (.str y true)->q<:+o->KF m q y=some (x,r₁)->C (σ.set i (RO o q row j)))(h:hdI σ i j o x r₁ m Λ σ'):C σ':=by
 obtain⟨q,row,y,⟨h0,h8⟩,rfl,hq,e⟩:=h
 exact k q row y h0 h8 hq e
set_option tactic.hygienic true in
theorem a7x{x:Str}{r₁:List UInt8}{c₀:UInt8}{m:Nat}(H:Rd o)(hi:i<σ.length)(hs:c₀::r<:+o)(e:KF m r E0=some (x,r₁))(h:∀ row',r₁<:+o->Q (.str x true) (σ.set i (RO o r₁ row' j))):(U b (n+6)).C 16 [.ref i] (σ.set i (RO o (c₀::r) row j)) Q X:=by
 refine AV (mb:=b_ConfigReader_read_header) (Λ:=[(0,.ref i)]) rfl rfl rfl rfl ?_
 refine FM H hi hs rfl fun row=>AS (AC AM ?_)
 refine IV (hdI σ i j o x r₁) (m:=m) (a4d rfl rfl (suf1 hs) e) ?_
 clear e hs row
 intro m Λ' σ';apply b5a;intro q row y h0 h8 hq e
 induction m using Nat.casesAuxOn with
 | zero=>exact noS e
 | succ m =>
  induction q using List.casesOn with
  | nil=>exact noS e
  | cons c q =>
   refine AC (a1l (d:=93) H hi hq h0 rfl) (CN (fun ht=>?_) fun ht=>?_)
   ·have hc:c≠93:=by simpa using ht
    replace e:=a1k hc e
    refine AS (AC (QW H hi hq h0) ?_)
    have g0:get 0 (put 6 (PV.int (hd (c::q))) Λ')=some (.ref i):=AL rfl h0
    have g6:get 6 (put 6 (PV.int (hd (c::q))) Λ')=some (.int (c.toNat:Int)):=AU
    have g8:get 8 (put 6 (PV.int (hd (c::q))) Λ')=some (.str y true):=AL rfl h8
    revert g0 g6 g8
    generalize put 6 (PV.int (hd (c::q))) Λ'=Λ''
    intro g0 g6 g8
    refine DR (EJ (AF (AA g8) AM DW) fun _=>CC (SL (d:=32) g6 rfl) fun _=>SL (d:=9) g6 rfl) (fun ht=>?_) fun ht=>?_
    ·have hh:y≠E0/\(c=32\/c=9):=by simpa using ht
     replace e:=a1j hh e
     split at e
     ·rename_i x' r' es
      revert e;refine ES fun hf e=>?_
      ·replace e:=sj e;cases e
       refine BA (FQ (AC (AT (AA g8) AM (add_str hf.1)) ?_))
       refine EC (AA g0) (BO (ET hi) rfl rfl) (BC (b8l H hi hq es fun row' hr=>AI (add_str hf.2) (h row' hr)))
     ·exact noS e
    ·have hh:¬ (y≠E0/\(c=32\/c=9)):=fun q=>by
      have:(!decide (y=E0)&&(decide (c=32)||decide (c=9)))=true:=by simpa using q
      rw[this]at ht;exact noG ht
     replace e:=a1k hh e
     refine AX ?_
     revert e;refine ES fun hg e=>?_
     ·revert e;refine ES fun hf e=>?_
      ·have sg:Ev (U b (n+5)) (.call 3 [(.var 6)]) Λ'' (σ.set i (RO o (c::q) row j)) (.bool (PI c)):=DL (AB (AA g6) AE) WO
       refine BL (c:=.and (.not (.call 3 [(.var 6)])) (.or (.cmp .ne (.var 6) (.int 46)) (.cmp .eq (.var 8) (.str "")))) ?_ ?_
       ·cases hsg:PI c with
        | true=>rw[hsg]at sg;exact HW (b0e sg)
        | false =>
         rw[hsg]at sg hg
         refine oA2 ?_ (hg.resolve_left (by decide));rintro rfl hy
         exact MZ (b0f sg) (QY (by have:=b9p (T:=U b (n+5)) (τ:=σ.set i (RO o (46::q) row j)) (d:=46) g6 rfl;exact this) (QZ g8 hy))
       ·refine AS (FQ (AC (AA g8) (DE ?_)))
        refine QX H hi hq g0 fun row'=>AI (a:=none) rfl (BC (AI (LT rfl) (AI (add_str hf) (AX ?_))))
        exact⟨m,Nat.lt_succ_self m,a4d (AL rfl g0) AU (suf1 hq) e⟩
   ·have hc:c=93:=by simpa using ht
    replace e:=a1j hc e
    subst hc
    revert e;refine PH fun hy e=>?_
    ·replace e:=sj e;cases e
     refine BL (QZ h8 hy) ?_
     refine FM H hi hq h0 fun row=>?_
     exact BA (AC (AA h8) (h _ (suf1 hq)))
noncomputable def b5b:List (Str×PV):=match glv 2 with | .fdict l=>l | _=>[]
noncomputable def esc(c:UInt8):Option (Str×Bool):=if c=10 then some (E0,true)else match DQ (S1 c) b5b with
 | some (.str v t)=>some (v,t)
 | _=>none
set_option tactic.hygienic true in
theorem a7y{c:UInt8}{v:Str}{t:Bool}(H:Rd o)(hi:i<σ.length)(hs:c::r<:+o)(e:esc c=some (v,t))(h:∀ row',Q (.str v t) (σ.set i (RO o r row' j))):(U b (n+4)).C 21 [.ref i] (σ.set i (RO o (c::r) row j)) Q X:=by
 refine AV (mb:=b_ConfigReader_read_escape) (Λ:=[(0,.ref i)]) rfl rfl rfl rfl ?_
 refine AS (AC (AQ (AA rfl) (BF (ET hi) rfl rfl)) (AS (QX H hi hs rfl fun row'=>?_)))
 unfold esc at e
 revert e;refine DN (fun hc e=>?_) fun hc e=>?_
 ·replace e:=sj e;cases e
  subst hc
  exact BV (a4c (x:=S1 10) rfl) (BA (AC AM (h row')))
 ·have hn:S1 c≠Str.ofString "\n":=fun q=>hc (by
   have q':(⟨#[c.toNat]⟩:Str)=⟨#[10]⟩:=q
   have:c.toNat=10:=by simpa using q'
   exact UInt8.toNat_inj.mp this)
  refine BL (QZ rfl hn) ?_
  split at e
  ·rename_i v' t' hg
   replace e:=sj e;cases e
   refine BL (c:=.cmp .notin (.var 4) (.glob 2)) (AF (AA rfl) HR ?_) ?_
   ·show some (!(DQ (S1 c) b5b).isSome)=_
    rw[hg];rfl
   ·refine BA (AC (BH HR (AA rfl) (v:=.str v t) ?_) (h row'))
    exact hg
  ·exact noS e
noncomputable def ne10(r:List UInt8):Bool := !(hd r==10)
noncomputable def IJ:Nat->List UInt8->Str->Nat->Bool->Option (Str×List UInt8)
 | 0,_,_,_,_=>none
 | _+1,[],_,_,_=>none
 | m+1,c::r,x,k,q =>
  if c=10 then(if q=true then none else some (Txt.slice x none (some (k:Int)),r))
  else if q=false/\(c=32\/c=9\/c=13)then(if x=E0 then IJ m r x k q else if fits (x.length+1)=true then IJ m r (x++S1 c) k q else none)
  else if q=false/\(c=35\/c=59)then IJ m (skip ne10 (c::r)) x k q
  else if c=34 then IJ m r x x.length (!q)
  else if c=92 then(match r with
   | []=>none
   | d::r'=>match esc d with
    | some (v,_)=>if fits (x.length+v.length)=true then IJ m r' (x++v) (x++v).length q else none
    | none=>none)
  else if fits (x.length+1)=true then IJ m r (x++S1 c) (x++S1 c).length q else none
theorem IS{c:UInt8}{τ:St}:cmp τ .isin (.int (c.toNat:Int)) (glv 1)=some (decide (c=32\/c=9\/c=10\/c=13)):=by
 show some (([32,9,10,13]:List Int).contains (c.toNat:Int))=_
 simp only[List.contains_cons,List.contains_nil,Bool.or_false,IE (c:=c) (d:=32) (z:=32) rfl,IE (c:=c) (d:=9) (z:=9) rfl,IE (c:=c) (d:=10) (z:=10) rfl,IE (c:=c) (d:=13) (z:=13) rfl,Bool.decide_or]
theorem BD{r'}{X'}(h:AN T r' Λ σ R X):AN T [] Λ σ (sq T r' R X) X':=h
theorem WT{a c t u}(h1:Ev T a Λ σ (.bool t))(h2:t=true->Ev T c Λ σ (.bool u))(hz:(t&&u)=false):Ev T (.and a c) Λ σ (.bool false):=hz▸EJ h1 h2
theorem ZR{c:UInt8}{τ:St}{k}(h:get k Λ=some (.int (c.toNat:Int))):Ev T (.bi .chr [.var k]) Λ τ (.str (S1 c) true):=BR (AB (AA h) AE) a4a
noncomputable def sgI(σ:St)(i j:Nat)(o:List UInt8)(x:Str)(r₁:List UInt8)(m:Nat)(Λ:Loc)(σ':St):Prop :=
 ∃ q row y t k qu,(get 0 Λ=some (.ref i)/\get 30 Λ=some (.str y t)/\get 32 Λ=some (.int (k:Nat))/\get 33 Λ=some (.bool qu))/\σ'=σ.set i (RO o q row j)/\q<:+o/\IJ m q y k qu=some (x,r₁)
theorem JK{x m q y t qu}{k:Nat}{r₁:List UInt8}(h0:get 0 Λ=some (.ref i))(h30:get 30 Λ=some (.str y t))(h32:get 32 Λ=some (.int (k:Nat)))(h33:get 33 Λ=some (.bool qu))(hq:q<:+o)(e:IJ m q y k qu=some (x,r₁)):sgI σ i j o x r₁ m Λ (σ.set i (RO o q row j)):=⟨q,row,y,t,k,qu,⟨h0,h30,h32,h33⟩,rfl,hq,e⟩
theorem b5c{x m}{r₁:List UInt8}{σ':St}{C:St->Prop}(K:∀ q row y t (k:Nat) qu,get 0 Λ=some (.ref i)->get 30 Λ=some (.str y t)->get 32 Λ=some (.int (k:Nat))->get 33 Λ=some (.bool qu)->q<:+o->IJ m q y k qu=some (x,r₁)->C (σ.set i (RO o q row j)))(h:sgI σ i j o x r₁ m Λ σ'):C σ':=by
 obtain⟨q,row,y,t,k,qu,⟨h0,h30,h32,h33⟩,rfl,hq,e⟩:=h
 exact K q row y t k qu h0 h30 h32 h33 hq e
set_option tactic.hygienic true in
theorem b2i{x:Str}{r₁:List UInt8}{m:Nat}(H:Rd o)(hi:i<σ.length)(hs:r<:+o)(e:IJ m r E0 0 false=some (x,r₁))(h:∀ row' t,r₁<:+o->Q (.str x t) (σ.set i (RO o r₁ row' j))):(U b (n+5)).C 20 [.ref i] (σ.set i (RO o r row j)) Q X:=by
 refine AV (mb:=b_ConfigReader_read_signs) (Λ:=[(0,.ref i)]) rfl rfl rfl rfl ?_
 refine AS (AC AM (AS (AC AH (AS (AC CS ?_)))))
 refine IV (sgI σ i j o x r₁) (m:=m) (JK (k:=0) rfl rfl rfl rfl hs e) ?_
 clear e hs
 intro m Λ' σ';apply b5c;intro q row y t k qu h0 h30 h32 h33 hq e
 refine AC CS (CN (fun _=>?_) fun e=>nomatch e)
 induction m using Nat.casesAuxOn with
 | zero=>exact noS e
 | succ m =>
  induction q using List.casesOn with
  | nil=>exact noS e
  | cons c q =>
   refine AS (AC (QW H hi hq h0) ?_)
   have g0:get 0 (put 6 (PV.int (hd (c::q))) Λ')=some (.ref i):=AL rfl h0
   have g6:get 6 (put 6 (PV.int (hd (c::q))) Λ')=some (.int (c.toNat:Int)):=AU
   have g30:get 30 (put 6 (PV.int (hd (c::q))) Λ')=some (.str y t):=AL rfl h30
   have g32:get 32 (put 6 (PV.int (hd (c::q))) Λ')=some (.int k):=AL rfl h32
   have g33:get 33 (put 6 (PV.int (hd (c::q))) Λ')=some (.bool qu):=AL rfl h33
   revert g0 g6 g30 g32 g33
   generalize put 6 (PV.int (hd (c::q))) Λ'=Λ''
   clear h0 h30 h32 h33 Λ'
   intro g0 g6 g30 g32 g33
   revert e;refine DN (fun h10 e=>?_) fun h10 e=>?_
   ·subst h10
    induction qu using Bool.casesOn with
    | true=>exact noS e
    | false =>
     rw[if_neg (by decide)]at e
     replace e:=sj e;cases e
     refine BV (IQ g6 rfl) (BL (AA g33) (FM H hi hq g0 fun row=>?_))
     exact BA (AC (EZ (AA g30) (AA g32) rfl) (h _ _ (suf1 hq)))
   ·refine BL (IR 10 g6 h10 rfl) ?_
    revert e;refine DN (fun hw e=>?_) fun hw e=>?_
    ·revert hw;refine oA2 ?_;rintro rfl hw
     refine BV (JJ (DD (AA g33)) (AF (AA g6) HR (by rw[IS,decide_eq_true (by rcases hw with h | h | h<;>simp[h])]))) ?_
     refine FM H hi hq g0 fun row=>?_
     revert e;refine DN (fun hy e=>?_) fun hy e=>?_
     ·subst hy
      refine BL (ZQ g30) (WL ?_)
      exact⟨m,Nat.lt_succ_self m,JK g0 g30 g32 g33 (suf1 hq) e⟩
     ·revert e;refine ES fun hf e=>?_
      ·refine BV (ZP g30 hy) (AS (AC (AT (AA g30) (ZR g6) (add_str hf)) (AX (WL ?_))))
       exact⟨m,Nat.lt_succ_self m,JK (AL rfl g0) AU (AL rfl g32) (AL rfl g33) (suf1 hq) e⟩
    ·refine BL (WT (t := !qu) (u:=decide (c=32\/c=9\/c=10\/c=13)) (DD (AA g33)) (fun _=>AF (AA g6) HR IS) (by
      induction qu using Bool.casesOn with
      | true=>rfl
      | false =>
       rw[Bool.not_false,Bool.true_and,decide_eq_false_iff_not]
       rintro(h | h | h | h)
       ·exact hw ⟨rfl,.inl h⟩
       ·exact hw ⟨rfl,.inr (.inl h)⟩
       ·exact h10 h
       ·exact hw ⟨rfl,.inr (.inr h)⟩)) ?_
     revert e;refine DN (fun hcm e=>?_) fun hcm e=>?_
     ·revert hcm;refine oA2 ?_;rintro rfl hcm
      refine BV (JJ (DD (AA g33)) (by
       rcases hcm with rfl | rfl
       ·exact a1n (IQ g6 rfl)
       ·exact b0d (IR 35 g6 (by decide) rfl) (IQ g6 rfl))) ?_
      refine MX (p:=ne10) (ET hi) hq H.no H.len rfl g0 (fun q' row' hq'=>?_) fun row'=>?_
      ·rw[List.set_set]
       exact IW H hi hq' g0 fun _=>rfl
      ·rw[List.set_set]
       exact WL ⟨m,Nat.lt_succ_self m,JK g0 g30 g32 g33 ((FW _ _).trans hq) e⟩
     ·refine BL (WT (t := !qu) (u:=decide (c=35)||decide (c=59)) (DD (AA g33)) (fun _=>CC (SL (d:=35) g6 rfl) fun _=>SL (d:=59) g6 rfl) (by
       induction qu using Bool.casesOn with
       | true=>rfl
       | false =>
        rw[Bool.not_false,Bool.true_and,Bool.or_eq_false_iff,decide_eq_false_iff_not,decide_eq_false_iff_not]
        exact⟨fun h=>hcm ⟨rfl,.inl h⟩,fun h=>hcm ⟨rfl,.inr h⟩⟩)) ?_
      refine FM H hi hq g0 fun row=>?_
      have len:∀ {τ:St} {Λ:Loc} {y:Str} {t:Bool},get 30 Λ=some (.str y t)->Ev (U b (n+4)) (.bi .len [(.var 30)]) Λ τ (.int (y.length:Nat)):=fun g=>BR (AB (AA g) AE) rfl
      revert e;refine DN (fun h34 e=>?_) fun h34 e=>?_
      ·subst h34
       refine BV (IQ g6 rfl) (AS (AC (DD (AA g33)) (AX (AS (AC (len (AL rfl g30)) (AX ?_))))))
       exact⟨m,Nat.lt_succ_self m,JK (AL rfl (AL rfl g0)) (AL rfl (AL rfl g30)) AU (AL rfl AU) (suf1 hq) e⟩
      ·refine FY (IR 34 g6 h34 rfl) ?_
       revert e;refine DN (fun h92 e=>?_) fun h92 e=>?_
       ·subst h92
        induction q using List.casesOn with
        | nil=>exact noS e
        | cons d q =>
         simp only at e
         split at e
         ·rename_i v t' he
          revert e;refine ES fun hf e=>?_
          ·refine BV (IQ g6 rfl) (AS (FQ (AC (AA g30) (EC (AA g0) (BO (ET hi) rfl rfl) (BC (a7y H hi (suf1 hq) he fun row'=>AI (add_str hf) (BD (BD (AS (AC (len (t:=t&&t') (y:=y++v) AU) (AX ?_)))))))))))
           exact⟨m,Nat.lt_succ_self m,JK (AL rfl (AL rfl g0)) (AL rfl AU) AU (AL rfl (AL rfl g33)) (suf1 (suf1 hq)) e⟩
         ·exact noS e
       ·revert e;refine ES fun hf e=>?_
        ·refine FY (IR 92 g6 h92 rfl) (AS (AC (AT (AA g30) (ZR g6) (add_str hf)) (BD (BD (AS (AC (len (t:=t&&true) (y:=y++S1 c) AU) (AX ?_)))))))
         exact⟨m,Nat.lt_succ_self m,JK (AL rfl (AL rfl g0)) (AL rfl AU) AU (AL rfl (AL rfl g33)) (suf1 hq) e⟩
end
section
variable {b:Bool}{n i j k f:Nat}{T:Tb}{Λ Λ':Loc}{σ σ₀:St}{Q:PV->St->Prop}{X:St->Prop}{R:Fl->Loc->St->Prop}{o r:List UInt8}{row:Int}
noncomputable def VO:Option Str->PV->Prop
 | none,v=>v = .none
 | some x,v=>∃ t,v = .str x t
noncomputable def val(r:List UInt8):Option (Option Str×List UInt8):=match skip HT r with
 | []=>none
 | c::r'=>if c=10 then some (none,r')else if c=61 then(match IJ 1000 r' E0 0 false with
  | some (x,r'')=>some (some x,r'')
  | none=>none)else none
set_option tactic.hygienic true in
theorem b2j{v:Option Str}{r₁:List UInt8}(H:Rd o)(hi:i<σ.length)(hs:r<:+o)(e:val r=some (v,r₁))(h:∀ row' u,VO v u->r₁<:+o->Q u (σ.set i (RO o r₁ row' j))):(U b (n+6)).C 19 [.ref i] (σ.set i (RO o r row j)) Q X:=by
 refine AV (mb:=b_ConfigReader_read_value) (Λ:=[(0,.ref i)]) rfl rfl rfl rfl ?_
 refine WR H hi hs rfl fun row=>?_
 have hs':=(FW HT r).trans hs
 unfold val at e
 revert e hs'
 generalize skip HT r=q
 intro e hs'
 induction q using List.casesOn with
 | nil=>exact noS e
 | cons c q =>
  simp only at e
  by_cases hc:c=10
  ·rw[if_pos hc]at e
   replace e:=sj e;cases e
   subst hc
   exact BV (b0c H hi hs' rfl rfl) (FM H hi hs' rfl fun row=>BA (AC BI (h _ _ rfl (suf1 hs'))))
  ·rw[if_neg hc]at e
   by_cases hd:c=61
   ·rw[if_pos hd]at e
    subst hd
    split at e
    ·rename_i x r'' es
     replace e:=sj e;cases e
     refine BL (NZ 10 H hi hs' rfl hc rfl) (BL (a1m H hi hs' rfl rfl) (FM H hi hs' rfl fun row=>?_))
     exact BA (EC (AA rfl) (BO (ET hi) rfl rfl) (BC (b2i H hi (suf1 hs') es fun row' t hr=>h _ _ ⟨t,rfl⟩ hr)))
    ·exact noS e
   ·rw[if_neg hd]at e;exact noS e
structure Pc where
 word:Str
 raw:List UInt8
 sec:Str
 name:Str
 val:Option Str
 spelt:Str
noncomputable def PcV(p:Pc)(a:AO):Prop:=∃ ow os on v osp,VO p.val v/\a = .inst 3 [(10,.str p.word ow),(11,.bytes p.raw),(9,.str p.sec os),(12,.str p.name on),(13,v),(14,.str p.spelt osp)]
noncomputable def PcsAt(σ:St):List Nat->List Pc->Prop
 | [],[]=>True
 | q::qs,p::ps=>(∃ a,σ[q]? = some a/\PcV p a)/\PcsAt σ qs ps
 | _,_=>False
theorem PcsAt.keep{τ:St}:∀ {qs:List Nat} {ps:List Pc},(∀ q∈qs,∀ a,σ[q]? = some a->τ[q]? = some a)->PcsAt σ qs ps->PcsAt τ qs ps
 | [],[],_,h=>h
 | q::qs,p::ps,hk,h=>⟨let⟨a,h1,h2⟩:=h.1;⟨a,hk q (.head _) a h1,h2⟩,PcsAt.keep (fun q hq=>hk q (.tail _ hq)) h.2⟩
 | [],_::_,_,h=>h
 | _::_,[],_,h=>h
theorem PcsAt.app{q:Nat}{p:Pc}{a:AO}(ha:σ[q]? = some a)(hp:PcV p a):∀ {qs:List Nat} {ps:List Pc},PcsAt σ qs ps->PcsAt σ (qs++[q]) (ps++[p])
 | [],[],_=>⟨⟨a,ha,hp⟩,trivial⟩
 | q::qs,p::ps,h=>⟨h.1,PcsAt.app ha hp h.2⟩
 | [],_::_,h=>h.elim
 | _::_,[],h=>h.elim
theorem PcsAt.len:∀ {qs:List Nat} {ps:List Pc},PcsAt σ qs ps->qs.length=ps.length
 | [],[],_=>rfl
 | q::qs,p::ps,h=>congrArg (· + 1) (PcsAt.len h.2)
 | [],_::_,h=>h.elim
 | _::_,[],h=>h.elim
theorem PcsAt.lt:∀ {qs:List Nat} {ps:List Pc},PcsAt σ qs ps->∀ q∈qs,q<σ.length
 | q::qs,p::ps,h,x,hx=>by
  rcases List.mem_cons.mp hx with rfl | hx
  ·refine AD ?_<|h.1;intro a h1 _;exact(List.getElem?_eq_some_iff.mp h1).1
  ·exact PcsAt.lt h.2 x hx
 | [],[],_,x,hx=>by cases hx
 | [],_::_,h,_,_=>h.elim
 | _::_,[],h,_,_=>h.elim
theorem b2k{vs:List PV}{a c d e f g:PV}(hp:σ[i]? = some (.inst 3 []))(hc:CM 6 7 vs.length=true)(hf:fill 6 vs=[.ref i,a,c,d,e,f,g])(h:Q .none (σ.set i (.inst 3 [(10,a),(11,c),(9,d),(12,e),(13,f),(14,g)]))):(U b (n+1)).C 6 vs σ Q X:=by
 refine AV (mb:=b_ConfigPiece_init) (Λ:=[(0,.ref i),(10,a),(11,c),(9,d),(12,e),(13,f),(14,g)]) rfl hc rfl (by rw[hf];rfl) ?_
 have step:∀ {σ:St} {fs:List (Nat×PV)} {k:Nat} {r:List MS} {x:PV},fs.length<10->GZ 3 k=true->get k [(0,.ref i),(10,a),(11,c),(9,d),(12,e),(13,f),(14,g)]=some x->σ[i]? = some (.inst 3 fs) →
   AN (U b n) r [(0,.ref i),(10,a),(11,c),(9,d),(12,e),(13,f),(14,g)] (σ.set i (.inst 3 (put k x fs))) (Ends Q) X->AN (U b n) (.setA (.var 0) k (.var k)::r) [(0,.ref i),(10,a),(11,c),(9,d),(12,e),(13,f),(14,g)] σ (Ends Q) X:=fun hl hk hg hs hw =>
  FL (AC (AA hg) (AC (AA rfl) (AI (CQ hs hk (by exact ar3)) hw)))
 refine step (by simp[put]) rfl rfl hp (step (by simp[put]) rfl rfl (AW hp) (step (by simp[put]) rfl rfl (AW (AW hp)) (step (by simp[put]) rfl rfl (AW (AW (AW hp))) (step (by simp[put]) rfl rfl (AW (AW (AW (AW hp)))) (step (by simp[put]) rfl rfl (AW (AW (AW (AW (AW hp))))) (AX ?_))))))
 simp only[List.set_set]
 exact h
theorem KS{x y:AO}:(σ++[x]).set σ.length y=σ++[y]:=by simp
theorem b5d{es:List ME}{vs:List PV}{a c d e f g:PV}(he:Evs (U b (n+1)) es Λ σ vs)(hc:CM 6 7 (vs.length+1)=true)(hf:fill 6 (.ref σ.length::vs)=[.ref σ.length,a,c,d,e,f,g])(h:Q (.ref σ.length) (σ++[.inst 3 [(10,a),(11,c),(9,d),(12,e),(13,f),(14,g)]])):wpE (U b (n+1)) (.new 3 es) Λ σ Q X:=by
 refine NX (BB he ?_)
 rw[NV]
 refine b2k (i:=σ.length) app_new hc hf ⟨rfl,?_⟩
 rw[KS];exact h
theorem b5e{q:Nat}{fs:List (Nat×PV)}{raw:List UInt8}{vs:List PV}(hσ:σ[i]? = some (RO o r row j))(hq:σ[q]? = some (.inst 3 fs))(hraw:get 11 fs=some (.bytes raw))(hj:σ[j]? = some (.list vs))(hv:fits vs.length=true)(hij:i≠j)
  (h:Q (.int ((o.length-r.length:Nat):Int)) (if raw=[]then σ else σ.set j (.list (vs++[.ref q])))):(U b (n+1)).C 14 [.ref i,.ref q] σ Q X:=by
 refine AV (mb:=b_ConfigReader_keep) (Λ:=[(0,.ref i),(22,.ref q)]) rfl rfl rfl rfl ?_
 by_cases hr:raw=[]
 ·rw[if_pos hr]at h
  subst hr
  refine BL (AF (AQ (AA rfl) (BF hq rfl hraw)) HQ rfl) ?_
  exact BA (AC (AQ (AA rfl) (BF hσ rfl rfl)) h)
 ·rw[if_neg hr]at h
  have hb:(raw==([]:List UInt8))=false:=by rw[beq_eq_false_iff_ne];exact hr
  refine BV (AF (AQ (AA rfl) (BF hq rfl hraw)) HQ (by show some (!(raw==[]))=_;rw[hb];rfl)) (GC (DE (AC (AQ (AA rfl) (BF hσ rfl rfl)) (AI (EK hj) (BS (AC (AA rfl) (BC (AI (a:=(.none,σ.set j (.list (vs++[.ref q])))) ?_ (BD ?_)))))))))
  ·simp only[mt_app,AG hj,hv,if_true]
  ·exact BA (AC (AQ (AA rfl) (BF (BK hσ (Ne.symm hij)) rfl rfl)) h)
end
section
variable {b:Bool}{n i j k f:Nat}{T:Tb}{Λ Λ':Loc}{σ σ₀ τ:St}{Q:PV->St->Prop}{X:St->Prop}{R:Fl->Loc->St->Prop}{o r s:List UInt8}{row:Int}
noncomputable def CW(s r:List UInt8):List UInt8:=s.take (s.length-r.length)
theorem WU{n k:Nat}(h:k<=n):clipAt n (k:Int)=k:=by
 unfold clipAt
 rw[if_neg (Int.not_lt.mpr (Int.natCast_nonneg k)),Int.min_eq_left (Int.ofNat_le.mpr h),Int.max_eq_right (Int.natCast_nonneg k)]
 exact Int.toNat_natCast k
theorem sub3{a b c:Nat}(h:b<=a):a-c-(a-b)=b-c:=by rw[Nat.sub_sub,Nat.add_comm c,← Nat.sub_sub,Nat.sub_sub_self h]
theorem b2l(hs:s<:+o)(hr:r<:+s):BQ o (some ((o.length-s.length:Nat):Int)) (some ((o.length-r.length:Nat):Int))=CW s r:=by
 have l1:=hs.length_le
 unfold BQ CW
 show(o.drop (clipAt o.length _)).take (clipAt o.length _-clipAt o.length _)=_
 rw[WU (Nat.sub_le _ _),WU (Nat.sub_le _ _),← List.suffix_iff_eq_drop.mp hs,sub3 l1]
noncomputable def EU(ps:List Pc)(p:Pc):List Pc:=if p.raw=[]then ps else ps++[p]
noncomputable def gapP(raw:List UInt8):Pc:=⟨Str.ofString "gap",raw,E0,E0,none,E0⟩
noncomputable def rdL:Nat->Option Str->List UInt8->List UInt8->List Pc->Option (List Pc)
 | 0,_,_,_,_=>none
 | _+1,_,s,[],ps=>some (EU ps (gapP (CW s [])))
 | m+1,sec,s,c::r,ps =>
  if c=10 then rdL m sec r r (EU ps (gapP (CW s r)))
  else if c=32\/c=9\/c=13 then rdL m sec s r ps
  else if c=35\/c=59 then rdL m sec s (skip ne10 (c::r)) ps
  else if c=91 then(match KF 1000 r E0 with
   | some (h,r')=>rdL m (some h) r' r' (EU ps ⟨Str.ofString "section",CW s r',h,E0,none,E0⟩)
   | none=>none)
  else if FV (c.toNat:Int)=true then(match sec with
   | some x=>(match KE 1000 (c::r) E0 with
    | some (y,r₁)=>(match val r₁ with
     | some (v,r₂)=>if fits y.length=true then rdL m sec r₂ r₂ (EU ps ⟨Str.ofString "value",CW s r₂,x,Txt.lower y,v,y⟩)else none
     | none=>none)
    | none=>none)
   | none=>none)
  else none
structure RI(σ₀:St)(i j:Nat)(o:List UInt8)(σ:St)(r:List UInt8)(row:Int)(refs:List Nat)(ps:List Pc):Prop where
 rd:σ[i]? = some (RO o r row j)
 ls:σ[j]? = some (.list (refs.map .ref))
 pcs:PcsAt σ refs ps
 fr:∀ k a,k≠i->k≠j->σ₀[k]? = some a->σ[k]? = some a
 len:σ₀.length<=σ.length
 new:∀ q∈refs,σ₀.length<=q
 nd:refs.Nodup
theorem RI.move{r':List UInt8}{row':Int}{refs:List Nat}{ps:List Pc}(h:RI σ₀ i j o σ r row refs ps)(hi:i<σ₀.length)(hij:i≠j):RI σ₀ i j o (σ.set i (RO o r' row' j)) r' row' refs ps :=
 ⟨AW h.rd,BK h.ls hij,h.pcs.keep fun q hq a ha=>BK ha (by have:=h.new q hq;lia),fun k a h1 h2 h3=>BK (h.fr k a h1 h2 h3) (Ne.symm h1),by rw[List.length_set];exact h.len,h.new,h.nd⟩
theorem RI.app{a:AO}{refs:List Nat}{ps:List Pc}(h:RI σ₀ i j o σ r row refs ps):RI σ₀ i j o (σ++[a]) r row refs ps :=
 ⟨AP h.rd,AP h.ls,h.pcs.keep fun q hq a ha=>AP ha,fun k a h1 h2 h3=>AP (h.fr k a h1 h2 h3),by simp;exact Nat.le_succ_of_le h.len,h.new,h.nd⟩
theorem RI.put{a:AO}{p:Pc}{refs:List Nat}{ps:List Pc}(h:RI σ₀ i j o σ r row refs ps)(hp:PcV p a)(hj:j<σ₀.length)(hij:i≠j):RI σ₀ i j o ((σ++[a]).set j (.list (refs.map .ref++[.ref σ.length]))) r row (refs++[σ.length]) (ps++[p]):=by
 have g:=h.app (a:=a)
 have hlt:=h.pcs.lt
 have l0:=h.len
 refine⟨BK g.rd (Ne.symm hij),?_,PcsAt.app (BK app_new (by lia)) hp (g.pcs.keep fun q hq a ha=>BK ha (by have:=h.new q hq;lia)),fun k a h1 h2 h3=>BK (g.fr k a h1 h2 h3) (Ne.symm h2),by rw[List.length_set];exact g.len,fun q hq=>?_,?_⟩
 ·rw[AW g.ls,List.map_append];rfl
 ·rcases List.mem_append.mp hq with hq | hq
  ·exact h.new q hq
  ·rw[List.mem_singleton.mp hq];exact l0
 ·rw[List.nodup_append]
  refine⟨h.nd,by simp,fun a ha b hb=>?_⟩
  rw[List.mem_singleton.mp hb]
  exact Nat.ne_of_lt (hlt a ha)
theorem RA{es:List ME}{vs:List PV}{a c d e f g:PV}{p:Pc}{refs:List Nat}{ps:List Pc}(I:RI σ₀ i j o σ r row refs ps)(hj:j<σ₀.length)(hij:i≠j)(hv:refs.length<=1000000)(h0:get 0 Λ=some (.ref i))
  (he:Evs (U b (n+1)) es Λ σ vs) (hc:CM 6 7 (vs.length+1)=true) (hf:fill 6 (.ref σ.length::vs)=[.ref σ.length,a,c,d,e,f,g]) (hp:PcV p (.inst 3 [(10,a),(11,c),(9,d),(12,e),(13,f),(14,g)])) (hraw:c = .bytes p.raw)
  (h:∀ σ' refs',refs'.length<=refs.length+1->RI σ₀ i j o σ' r row refs' (EU ps p)->Q (.int ((o.length-r.length:Nat):Int)) σ') :
  wpE (U b (n+1)) (.meth (.var 0) (.own 24) [.new 3 es]) Λ σ Q X:=by
 refine EC (AA h0) (BO I.rd rfl rfl) (BS (b5d he hc hf (BC ?_)))
 have g:=I.app (a:=.inst 3 [(10,a),(11,c),(9,d),(12,e),(13,f),(14,g)])
 refine b5e (n:=n) g.rd app_new (raw:=p.raw) (by rw[hraw];rfl) g.ls (by simp[fits];exact ar1) hij ?_
 by_cases hr:p.raw=[]
 ·rw[if_pos hr]
  refine h _ refs (Nat.le_succ _) ?_
  unfold EU;rw[if_pos hr];exact g
 ·rw[if_neg hr]
  refine h _ (refs++[σ.length]) (by simp) ?_
  unfold EU;rw[if_neg hr];exact I.put hp hj hij
end
theorem a7z{m:Nat}{y:Str}{r':List UInt8}:∀ {r x},KE m r x=some (y,r')->r'<:+r:=by
 induction m with
 | zero=>intro r x e;exact noS e
 | succ m ih =>
  intro r x
  induction r using List.casesOn with
  | nil=>exact fun e=>sp2 e▸List.suffix_refl _
  | cons c r=>exact DN (fun _=>ES fun _ e=>(ih e).trans (List.suffix_cons _ _)) fun _ e=>sp2 e▸List.suffix_refl _
theorem a8a{m:Nat}{y:Str}{r':List UInt8}:∀ {r x},WS m r x=some (y,r')->r'<:+r:=by
 induction m with
 | zero=>intro r x e;exact noS e
 | succ m ih =>
  intro r x
  induction r using List.casesOn with
  | nil=>exact fun e=>noS e
  | cons c r =>
   have s1:=List.suffix_cons c r
   refine DN (fun _=>?_) fun _=>ES fun _=>DN (fun _=>?_) fun _=>PH fun _ e=>(ih e).trans s1
   ·induction r using List.casesOn with
    | nil=>exact fun e=>noS e
    | cons d r=>exact ES fun _ e=>sp2 e▸(List.suffix_cons _ _).trans s1
   ·induction r using List.casesOn with
    | nil=>exact fun e=>noS e
    | cons d r=>exact PH fun _ e=>(ih e).trans ((List.suffix_cons _ _).trans s1)
theorem b2m{r:List UInt8}{y:Str}{r':List UInt8}(e:sub r=some (y,r')):r'<:+r:=by
 unfold sub at e
 have h:=FW HT r
 revert e h
 generalize skip HT r=q
 intro e h
 induction q using List.casesOn with
 | nil=>exact noS e
 | cons c q=>exact ES (fun _ e=>(a8a e).trans ((List.suffix_cons _ _).trans h)) e
theorem a8b{m:Nat}{y:Str}{r':List UInt8}:∀ {r x},KF m r x=some (y,r')->r'<:+r:=by
 induction m with
 | zero=>intro r x e;exact noS e
 | succ m ih =>
  intro r x
  induction r using List.casesOn with
  | nil=>exact fun e=>noS e
  | cons c r =>
   have s1:=List.suffix_cons c r
   refine DN (fun _=>PH fun _ e=>sp2 e▸s1) fun _=>DN (fun _=>?_) fun _=>ES fun _=>ES fun _ e=>(ih e).trans s1
   generalize es:sub (c::r)=u
   induction u using Option.casesOn with
   | none=>exact fun e=>noS e
   | some p=>exact ES fun _ e=>sp2 e▸b2m (y:=p.1) es
theorem a8c{m:Nat}{y:Str}{r':List UInt8}:∀ {r x k q},IJ m r x k q=some (y,r')->r'<:+r:=by
 induction m with
 | zero=>intro r x k q e;exact noS e
 | succ m ih =>
  intro r x k q
  induction r using List.casesOn with
  | nil=>exact fun e=>noS e
  | cons c r =>
   have s1:=List.suffix_cons c r
   refine DN (fun _=>PH fun _ e=>sp2 e▸s1) fun _=>DN (fun _=>DN (fun _ e=>(ih e).trans s1) fun _=>ES fun _ e=>(ih e).trans s1) fun _=>DN (fun _ e=>(ih e).trans (FW _ _)) fun _=>DN (fun _ e=>(ih e).trans s1) fun _=>DN (fun _=>?_) fun _=>ES fun _ e=>(ih e).trans s1
   induction r using List.casesOn with
   | nil=>exact fun e=>noS e
   | cons d r =>
    show(match esc d with | some (v,_)=>_ | none=>_)=_->_
    generalize esc d=u
    induction u using Option.casesOn with
    | none=>exact fun e=>noS e
    | some p=>exact ES fun _ e=>(ih e).trans ((List.suffix_cons _ _).trans s1)
set_option tactic.hygienic true in
theorem b2n{r:List UInt8}{y:Option Str}{r':List UInt8}(e:val r=some (y,r')):r'<:+r:=by
 unfold val at e
 have h:=FW HT r
 revert e h
 generalize skip HT r=q
 intro e h
 induction q using List.casesOn with
 | nil=>exact noS e
 | cons c q =>
  simp only at e
  have s1:=(List.suffix_cons c q).trans h
  split at e
  ·replace e:=sj e;cases e;exact s1
  ·split at e
   ·split at e
    ·rename_i es
     replace e:=sj e;cases e;exact(a8c es).trans s1
    ·exact noS e
   ·exact noS e
section
variable {b:Bool}{n i j k f:Nat}{T:Tb}{Λ Λ':Loc}{σ σ₀ τ:St}{Q:PV->St->Prop}{X:St->Prop}{R:Fl->Loc->St->Prop}{o r s:List UInt8}{row:Int}
theorem UK{x:List UInt8}(hσ:σ[i]? = some (RO o r row j))(h0:get 0 Λ=some (.ref i))(h23:get 23 Λ=some (.int ((o.length-s.length:Nat):Int)))(hs:s<:+o)(hr:r<:+s):Ev T (.sliceB (.attr (.var 0) 15) (.var 23) (.attr (.var 0) 16)) Λ σ (.bytes (CW s r)):=by
 refine MU (AQ (AA h0) (BF hσ rfl rfl)) (AA h23) (AQ (AA h0) (BF hσ rfl rfl)) ?_
 show some (PV.bytes (BQ o (some ((o.length-s.length:Nat):Int)) (some ((o.length-r.length:Nat):Int))),σ)=_
 rw[b2l hs hr]
structure RdB(o:List UInt8):Prop extends Rd o where
 bom:(239:UInt8)∉o
noncomputable def inv(σ₀:St)(i j:Nat)(o:List UInt8)(M:Nat)(res:List Pc)(m:Nat)(Λ:Loc)(σ:St):Prop :=
 ∃ sec s r row ps refs u,get 0 Λ=some (.ref i)/\get 9 Λ=some u/\VO sec u/\get 23 Λ=some (.int ((o.length-s.length:Nat):Int))/\RI σ₀ i j o σ r row refs ps/\s<:+o/\r<:+s/\refs.length+m<=M/\rdL m sec s r ps=some res
theorem KT{M res m sec s ps refs u}(g0:get 0 Λ=some (.ref i))(g9:get 9 Λ=some u)(hu:VO sec u)(g23:get 23 Λ=some (.int ((o.length-s.length:Nat):Int)))(I:RI σ₀ i j o σ r row refs ps)(h1:s<:+o)(h2:r<:+s)(hl:refs.length+m<=M)(e:rdL m sec s r ps=some res):inv σ₀ i j o M res m Λ σ :=
 ⟨sec,s,r,row,ps,refs,u,g0,g9,hu,g23,I,h1,h2,hl,e⟩
theorem b5f{M res m}{C:Prop}(k:∀ sec s r row ps refs u,get 0 Λ=some (.ref i)->get 9 Λ=some u->VO sec u->get 23 Λ=some (.int ((o.length-s.length:Nat):Int))->RI σ₀ i j o σ r row refs ps->s<:+o->r<:+s->refs.length+m<=M->rdL m sec s r ps=some res->C)(h:inv σ₀ i j o M res m Λ σ):C:=by
 obtain⟨sec,s,r,row,ps,refs,u,g0,g9,hu,g23,I,h1,h2,hl,e⟩:=h
 exact k sec s r row ps refs u g0 g9 hu g23 I h1 h2 hl e
theorem a4e{c:UInt8}(g6:get 6 Λ=some (.int (c.toNat:Int))):Ev (U b (n+1)) (.call 2 [(.var 6)]) Λ σ (.bool (FV (c.toNat:Int))):=DL (AB (AA g6) AE) WN
set_option tactic.hygienic true in
theorem b5g{res:List Pc}{m:Nat}(H:RdB o)(h1:σ₀[i]? = some (RO o o 1 j))(h2:σ₀[j]? = some (.list []))(hij:i≠j)(hm:m<=100000)(e:rdL m none o o []=some res)
  (h:∀ σ' row refs,RI σ₀ i j o σ' [] row refs res->Q (.ref j) σ'):(U b (n+7)).C 15 [.ref i] σ₀ Q X:=by
 have hi:i<σ₀.length:=(List.getElem?_eq_some_iff.mp h1).1
 have hj:j<σ₀.length:=(List.getElem?_eq_some_iff.mp h2).1
 refine AV (mb:=b_ConfigReader_read) (Λ:=[(0,.ref i)]) rfl rfl rfl rfl ?_
 refine AS (AC BI (AS (AC AH ?_)))
 refine BL (AF (EZ (AQ (AA rfl) (BF h1 rfl rfl)) AH rfl) HQ ?_) ?_
 ·show some (BQ o none (some 3)==[239,187,191])=some false
  rw[beq_eq_false_iff_ne.mpr]
  intro q
  have:(239:UInt8)∈BQ o none (some 3):=by rw[q];exact .head _
  unfold BQ at this
  exact H.bom (List.mem_of_mem_drop (List.mem_of_mem_take this))
 refine IV (inv σ₀ i j o m res) (m:=m) (KT (sec:=none) (s:=o) (r:=o) (row:=1) (refs:=[]) (ps:=[]) rfl rfl rfl (by rw[Nat.sub_self];rfl) ⟨h1,h2,trivial,fun _ _ _ _ h=>h,Nat.le_refl _,fun _ h=>(by cases h),.nil⟩ (List.suffix_refl _) (List.suffix_refl _) (Nat.le_of_eq (by simp)) e) ?_
 generalize hM:m=M at hm
 clear e hM m h1 h2
 intro m Λ' σ;refine b5f ?_;intro sec s r row ps refs u g0 g9 hu g23 I hso hrs hlen e
 have hro:=hrs.trans hso
 have hil:i<σ.length:=Nat.lt_of_lt_of_le hi I.len
 refine AC (DD (DZ (AA g0) (BO I.rd rfl rfl) AE (MW I.rd hro))) (CN (fun ht=>?_) fun ht=>?_)
 ·induction r using List.casesOn with
  | nil=>exact noF ht
  | cons c r =>
  induction m using Nat.casesAuxOn with
  | zero=>exact noS e
  | succ m =>
  refine AS (AC (DZ (AA g0) (BO I.rd rfl rfl) AE (WP I.rd hro H.no H.len)) ?_)
  have k0:get 0 (put 6 (PV.int (hd (c::r))) Λ')=some (.ref i):=AL rfl g0
  have k6:get 6 (put 6 (PV.int (hd (c::r))) Λ')=some (.int (c.toNat:Int)):=AU
  have k9:get 9 (put 6 (PV.int (hd (c::r))) Λ')=some u:=AL rfl g9
  have k23:get 23 (put 6 (PV.int (hd (c::r))) Λ')=some (.int ((o.length-s.length:Nat):Int)):=AL rfl g23
  revert k0 k6 k9 k23
  generalize put 6 (PV.int (hd (c::r))) Λ'=Λ''
  clear g0 g9 g23 Λ'
  intro g0 g6 g9 g23
  have hr1:=suf1 hro
  have hrs1:=suf1 hrs
  have take:∀ {q:List UInt8} {row:Int} {r':List MS} {R:Fl->Loc->St->Prop} {X:St->Prop} {ρ:St} {Λ:Loc} {refs ps},RI σ₀ i j o ρ q row refs ps->q<:+o->get 0 Λ=some (.ref i)->(∀ row',RI σ₀ i j o (ρ.set i (RO o q.tail row' j)) q.tail row' refs ps->AN (U b (n+6)) r' Λ (ρ.set i (RO o q.tail row' j)) R X)->AN (U b (n+6)) (.exp (.meth (.var 0) (.own 21) [])::r') Λ ρ R X:=fun{q row r' R X ρ Λ refs ps} I hq h0 hh=>by
   rw[← LS I.rd]
   refine FM H.toRd (by have:=I.len;lia) hq h0 fun row'=>hh row' (I.move hi hij)
  revert e;refine DN (fun h10 e=>?_) fun h10 e=>?_
  ·subst h10
   refine BV (IQ g6 rfl) (take I hro g0 fun row I=>?_)
   refine AS (RA (p:=gapP (CW s r)) (vs:=[_,_]) I hj hij (by lia) g0 (AB AM (AB (UK (x:=[]) I.rd g0 g23 hso hrs1) AE)) rfl rfl ⟨true,false,false,.none,false,rfl,rfl⟩ rfl fun σ' refs' hl I=>BD (AX ?_))
   exact⟨m,Nat.lt_succ_self m,KT (AL rfl g0) (AL rfl g9) hu AU I hr1 (List.suffix_refl _) (by lia) e⟩
  ·refine FY (IR 10 g6 h10 rfl) ?_
   revert e;refine DN (fun hw e=>?_) fun hw e=>?_
   ·refine BV (AF (AA g6) HR (by rw[IS,decide_eq_true (by rcases hw with h | h | h<;>simp[h])])) (take I hro g0 fun row I=>BD (BD (AX ?_)))
    exact⟨m,Nat.lt_succ_self m,KT g0 g9 hu g23 I hso hrs1 ar6 e⟩
   ·refine FY (AF (AA g6) HR (by
     rw[IS,decide_eq_false]
     rintro(h | h | h | h)
     ·exact hw (.inl h)
     ·exact hw (.inr (.inl h))
     ·exact h10 h
     ·exact hw (.inr (.inr h)))) ?_
    revert e;refine DN (fun hcm e=>?_) fun hcm e=>?_
    ·refine BV (by
      rcases hcm with rfl | rfl
      ·exact a1n (IQ g6 rfl)
      ·exact b0d (IR 35 g6 (by decide) rfl) (IQ g6 rfl)) ?_
     refine MX (p:=ne10) I.rd hro H.no H.len rfl g0 (fun q' row' hq'=>IW H.toRd hil hq' g0 fun _=>rfl) fun row'=>BD (BD (BD (AX ?_)))
     exact⟨m,Nat.lt_succ_self m,KT g0 g9 hu g23 (I.move hi hij) hso ((FW _ _).trans hrs) ar6 e⟩
    ·refine FY (QY (IR 35 g6 (fun h=>hcm (.inl h)) rfl) (IR 59 g6 (fun h=>hcm (.inr h)) rfl)) ?_
     revert e;refine DN (fun h91 e=>?_) fun h91 e=>?_
     ·subst h91
      split at e
      ·rename_i x r' eh
       refine BV (IQ g6 rfl) (AS (EC (AA g0) (BO I.rd rfl rfl) (BC ?_)))
       rw[← LS I.rd]
       refine a7x H.toRd hil hro eh fun row hr'=>?_
       have I:=I.move (r':=r') (row':=row) hi hij
       have hs2:r'<:+s:=(a8b eh).trans hrs1
       have k0:get 0 (put 9 (PV.str x true) Λ'')=some (.ref i):=AL rfl g0
       have k9:get 9 (put 9 (PV.str x true) Λ'')=some (.str x true):=AU
       have k23:get 23 (put 9 (PV.str x true) Λ'')=some (.int ((o.length-s.length:Nat):Int)):=AL rfl g23
       refine AS (RA (p:=⟨Str.ofString "section",CW s r',x,E0,none,E0⟩) (vs:=[_,_,_]) I hj hij (by lia) k0 (AB AM (AB (UK (x:=[]) I.rd k0 k23 hso hs2) (AB (AA k9) AE))) rfl rfl ⟨true,true,false,.none,false,rfl,rfl⟩ rfl fun σ' refs' hl I=>BD (BD (BD (BD (AX ?_)))))
       exact⟨m,Nat.lt_succ_self m,KT (sec:=some x) (AL rfl k0) (AL rfl k9) ⟨true,rfl⟩ AU I hr' (List.suffix_refl _) (by lia) e⟩
      ·exact noS e
     ·refine FY (IR 91 g6 h91 rfl) ?_
      split at e
      ·rename_i hlet
       split at e
       ·rename_i x
        split at e
        ·rename_i y r₁ es
         split at e
         ·rename_i v r₂ ev
          revert e;refine ES fun hfy e=>?_
          ·revert hu;refine AR ?_;rintro tx rfl
           refine BV (JJ (by have:=a4e (b:=b) (n:=n+5) (σ:=σ) g6;rw[hlet]at this;exact this) (AF (AA g9) BI rfl)) (AS (EC (AA g0) (BO I.rd rfl rfl) (BC ?_)))
           rw[← LS I.rd]
           refine b2h H.toRd hil hro es fun row hr1'=>?_
           have I:=I.move (r':=r₁) (row':=row) hi hij
           have k0:get 0 (put 14 (PV.str y true) Λ'')=some (.ref i):=AL rfl g0
           have k9:get 9 (put 14 (PV.str y true) Λ'')=some (.str x tx):=AL rfl g9
           have k14:get 14 (put 14 (PV.str y true) Λ'')=some (.str y true):=AU
           have k23:get 23 (put 14 (PV.str y true) Λ'')=some (.int ((o.length-s.length:Nat):Int)):=AL rfl g23
           revert k0 k9 k14 k23
           generalize put 14 (PV.str y true) Λ''=Λ₂
           intro k0 k9 k14 k23
           refine AS (EC (AA k0) (BO I.rd rfl rfl) (BC ?_))
           refine b2j H.toRd hil hr1' ev fun row₂ u hu2 hr2'=>?_
           have I:=I.move (r':=r₂) (row':=row₂) hi hij
           rw[List.set_set]at I
           have l0:get 0 (put 13 u Λ₂)=some (.ref i):=AL rfl k0
           have l9:get 9 (put 13 u Λ₂)=some (.str x tx):=AL rfl k9
           have l13:get 13 (put 13 u Λ₂)=some u:=AU
           have l14:get 14 (put 13 u Λ₂)=some (.str y true):=AL rfl k14
           have l23:get 23 (put 13 u Λ₂)=some (.int ((o.length-s.length:Nat):Int)):=AL rfl k23
           revert l0 l9 l13 l14 l23
           generalize put 13 u Λ₂=Λ₃
           intro l0 l9 l13 l14 l23
           have hs2:r₂<:+s:=((b2n ev).trans (a7z es)).trans hrs
           refine AS (AC (UK (x:=[]) I.rd l0 l23 hso hs2) ?_)
           have m0:get 0 (put 11 (PV.bytes (CW s r₂)) Λ₃)=some (.ref i):=AL rfl l0
           have m9:get 9 (put 11 (PV.bytes (CW s r₂)) Λ₃)=some (.str x tx):=AL rfl l9
           have m11:get 11 (put 11 (PV.bytes (CW s r₂)) Λ₃)=some (.bytes (CW s r₂)):=AU
           have m13:get 13 (put 11 (PV.bytes (CW s r₂)) Λ₃)=some u:=AL rfl l13
           have m14:get 14 (put 11 (PV.bytes (CW s r₂)) Λ₃)=some (.str y true):=AL rfl l14
           revert m0 m9 m11 m13 m14
           generalize put 11 (PV.bytes (CW s r₂)) Λ₃=Λ₄
           intro m0 m9 m11 m13 m14
           refine AS (RA (p:=⟨Str.ofString "value",CW s r₂,x,Txt.lower y,v,y⟩) (vs:=[_,_,_,_,_,_]) I hj hij (by lia) m0 (AB AM (AB (AA m11) (AB (AA m9) (AB (CO (AA m14) rfl AE (LT hfy)) (AB (AA m13) (AB (AA m14) AE)))))) rfl rfl ⟨true,tx,true,u,true,hu2,rfl⟩ rfl fun σ' refs' hl I=>BD (BD (BD (BD (BD (AX ?_))))))
           exact⟨m,Nat.lt_succ_self m,KT (sec:=some x) (AL rfl m0) (AL rfl m9) ⟨tx,rfl⟩ AU I hr2' (List.suffix_refl _) (by lia) e⟩
         ·exact noS e
        ·exact noS e
       ·exact noS e
      ·exact noS e
 ·induction r using List.casesOn with
  | cons c r=>exact noG ht
  | nil =>
  induction m using Nat.casesAuxOn with
  | zero=>exact noS e
  | succ m =>
  rw[rdL]at e
  replace e:=sj e;subst e
  refine GC (RA (p:=gapP (CW s [])) (vs:=[_,_]) I hj hij (by lia) g0 (AB AM (AB (UK (x:=[]) I.rd g0 g23 hso hrs) AE)) rfl rfl ⟨true,false,false,.none,false,rfl,rfl⟩ rfl fun σ' refs' hl I=>?_)
  exact BA (AC (AQ (AA g0) (BF I.rd rfl rfl)) (h σ' row refs' I))
end
section
variable {b:Bool}{n i j k f c:Nat}{T:Tb}{Λ Λ':Loc}{σ σ₀ τ ρ:St}{Q:PV->St->Prop}{X:St->Prop}{R:Fl->Loc->St->Prop}{o r s:List UInt8}{row:Int}
noncomputable def tk(ok:St->Prop)(step:PV->Loc->St->(Fl->Loc->St->Prop)->Prop)(vs:List PV)(R:Fl->Loc->St->Prop):Fl->Loc->St->Prop
 | .ret u,Λ,σ=>R (.ret u) Λ σ
 | .next,Λ,σ=>turns ok step vs Λ σ R
 | .cont,Λ,σ=>turns ok step vs Λ σ R
theorem turn{ok:St->Prop}{step:PV->Loc->St->(Fl->Loc->St->Prop)->Prop}{v:PV}{vs:List PV}(h1:ok σ)(h2:step v Λ σ (tk ok step vs R)):turns ok step (v::vs) Λ σ R:=by
 refine⟨h1,?_⟩
 have e:(fun f Λ' σ'=>match f with | .ret u=>R (.ret u) Λ' σ' | _=>turns ok step vs Λ' σ' R)=tk ok step vs R:=by
  funext f Λ σ;induction f using Fl.casesOn<;>rfl
 rw[← e]at h2;exact h2
noncomputable abbrev DB(j:Nat)(vs:List PV):St->Prop:=fun τ=>AK τ j=some vs
noncomputable abbrev BN(T:Tb)(k:Nat)(bd:List MS)(X:St->Prop):PV->Loc->St->(Fl->Loc->St->Prop)->Prop:=fun x Λ σ K=>AN T bd (put k x Λ) σ K X
theorem GL{k e bd r'}{vs:List PV}(he:Ev T e Λ σ (.ref j))(hj:σ[j]? = some (.list vs))(h:turns (DB j vs) (BN T k bd X) vs Λ σ (sq T r' R X)):AN T (.for k e bd::r') Λ σ R X:=by
 refine LR (he _ _ ?_)
 refine AI (a:=(vs,fun τ=>AK τ j=some vs)) ?_ h
 simp only[items,AG hj]
noncomputable abbrev IX(x:Str):List PV:=x.cps.toList.map fun c=>.str ⟨#[c]⟩ true
theorem RB{k e bd r'}{x:Str}{t:Bool}(he:Ev T e Λ σ (.str x t))(h:turns (fun _=>True) (BN T k bd X) (IX x) Λ σ (sq T r' R X)):AN T (.for k e bd::r') Λ σ R X:=by
 refine LR (he _ _ ?_)
 exact AI (a:=(IX x,fun _=>True)) rfl h
inductive Gath(P:PV->Option PV->Prop):List PV->List PV->Prop
 | nil:Gath P [] []
 | one {x u vs us}:P x (some u)->Gath P vs us->Gath P (x::vs) (u::us)
 | no {x vs us}:P x none->Gath P vs us->Gath P (x::vs) us
theorem Gath.len{P:PV->Option PV->Prop}{vs us:List PV}(h:Gath P vs us):us.length<=vs.length:=by
 induction h with
 | nil=>exact Nat.le_refl _
 | one _ _ ih=>exact Nat.succ_le_succ ih
 | no _ _ ih=>exact Nat.le_succ_of_le ih
theorem GT{ok:St->Prop}{step:PV->St->(Option PV->St->Prop)->Prop}{P:PV->Option PV->Prop}{G:List PV->St->Prop}(hok:ok σ)(hs:∀ x u,P x u->∀ K,K u σ->step x σ K) :
  ∀ {vs us acc:List PV},Gath P vs us->fits (acc++us).length=true->G (acc++us) σ->gathers ok step vs acc σ G
 | _,_,acc,.nil,hf,h=>by rw[List.append_nil]at hf h;exact⟨hok,hf,h⟩
 | _,_,acc,.one (u:=u) (us:=us) hp hr,hf,h=>⟨hok,hs _ _ hp _ (GT hok hs hr (acc:=acc++[u]) (by rw[List.append_assoc];exact hf) (by rw[List.append_assoc];exact h))⟩
 | _,_,acc,.no hp hr,hf,h=>⟨hok,hs _ _ hp _ (GT hok hs hr hf h)⟩
noncomputable def EL(T:Tb)(elt:ME)(cond:List ME)(tgt:Nat)(Λ:Loc)(σ:St)(x:PV):Option PV->Prop
 | some u=>(match cond with | []=>True | [c]=>Ev T c (put tgt x Λ) σ (.bool true) | _=>False)/\Ev T elt (put tgt x Λ) σ u
 | none=>(match cond with | [c]=>Ev T c (put tgt x Λ) σ (.bool false) | _=>False)
theorem GU{elt cond tgt x u}(h:EL T elt cond tgt Λ σ x u){K:Option PV->St->Prop}(hK:K u σ) :
  US T cond (put tgt x Λ) σ (fun t σ=>if t=true then wpE T elt (put tgt x Λ) σ (fun u σ=>K (some u) σ) (fun _=>False)else K none σ) (fun _=>False):=by
 induction u using Option.casesOn with
 | some u =>
  revert h;refine oA2 ?_;intro h1 h2
  match cond,h1 with
  | [],_=>exact h2 _ _ hK
  | [c],h1=>exact h1 _ _ (h2 _ _ hK)
 | none =>
  match cond,h with
  | [c],h=>exact h _ _ hK
theorem KU{elt tgt it cond cap vs us}(he:Ev T it Λ σ (.ref j))(hj:σ[j]? = some (.list vs))(hg:Gath (EL T elt cond tgt (BE cap Λ) σ) vs us)(hf:vs.length<=1000000)(h:Q (.ref σ.length) (σ++[.list us])):wpE T (.comp elt tgt it cond cap) Λ σ Q X:=by
 refine he _ _ (AI (a:=(vs,fun τ=>AK τ j=some vs)) ?_ ?_)
 ·simp only[items,AG hj]
 ·refine GT (AG hj) (fun x u hp K hK=>GU hp hK) (acc:=[]) hg ?_ h
  have:=hg.len
  unfold fits;rw[decide_eq_true_iff];simp only[List.nil_append];exact ar12
theorem ZS{elt tgt it cond cap us}{x:Str}{t:Bool}(he:Ev T it Λ σ (.str x t))(hg:Gath (EL T elt cond tgt (BE cap Λ) σ) (IX x) us)(hf:x.length<=1000000)(h:Q (.ref σ.length) (σ++[.list us])):wpE T (.comp elt tgt it cond cap) Λ σ Q X:=by
 refine he _ _ (AI (a:=(IX x,fun _=>True)) rfl ?_)
 refine GT trivial (fun x u hp K hK=>GU hp hK) (acc:=[]) hg ?_ h
 have:=hg.len
 have e:(IX x).length=x.length:=by unfold IX;rw[List.length_map];rfl
 unfold fits;rw[decide_eq_true_iff];simp only[List.nil_append];lia
noncomputable def Ext(σ σ':St):Prop:=∀ (k:Nat) (a:AO),σ[k]? = some a->σ'[k]? = some a
theorem Ext.refl:Ext σ σ:=fun _ _ h=>h
theorem Ext.trans(h:Ext σ τ)(h':Ext τ ρ):Ext σ ρ:=fun k a e=>h' k a (h k a e)
theorem Ext.app{x:St}:Ext σ (σ++x):=fun _ _ h=>AP h
theorem Ext.len(h:Ext σ τ):σ.length<=τ.length:=by
 by_cases h0:σ.length=0
 ·exact ar16
 ·have:σ[σ.length-1]? = some σ[σ.length-1]:=List.getElem?_eq_getElem (by lia)
  have:=(List.getElem?_eq_some_iff.mp (h _ _ this)).1
  lia
noncomputable def CfgAt(σ:St)(c:Nat)(ps:List Pc):Prop:=∃ j refs,σ[c]? = some (.inst 5 [(18,.ref j)])/\σ[j]? = some (.list (refs.map .ref))/\PcsAt σ refs ps
theorem CfgAt.ext{ps:List Pc}(h:CfgAt σ c ps)(e:Ext σ τ):CfgAt τ c ps:=by
 revert h;refine DO ?_;intro j refs h1 h2 h3
 exact⟨j,refs,e _ _ h1,e _ _ h2,h3.keep fun q _ a ha=>e _ _ ha⟩
noncomputable def CfgN(σ:St)(c:Nat)(ps:List Pc):Prop:=∃ j refs,σ[c]? = some (.inst 5 [(18,.ref j)])/\σ[j]? = some (.list (refs.map .ref))/\PcsAt σ refs ps/\refs.Nodup
theorem CfgN.ext{ps:List Pc}(h:CfgN σ c ps)(e:Ext σ τ):CfgN τ c ps:=by
 obtain⟨j,refs,h1,h2,h3,h4⟩:=h
 exact⟨j,refs,e _ _ h1,e _ _ h2,h3.keep fun q _ a ha=>e _ _ ha,h4⟩
theorem CfgN.at{ps:List Pc}(h:CfgN σ c ps):CfgAt σ c ps:=let⟨j,refs,h1,h2,h3,_⟩:=h;⟨j,refs,h1,h2,h3⟩
theorem a8d(h0:σ[i]? = some (.inst 4 []))(h:Q .none ((σ++[AO.list []]).set i (RO o o 1 σ.length))):(U b (n+1)).C 9 [.ref i,.bytes o] σ Q X:=by
 refine AV (mb:=b_ConfigReader_init) (Λ:=[(0,.ref i),(15,.bytes o)]) rfl rfl rfl rfl ?_
 refine FL (AC (AA rfl) (AC (AA rfl) (AI (CQ h0 rfl (by decide)) ?_)))
 refine FL (AC AH (AC (AA rfl) (AI (CQ (AW h0) rfl (by simp[put])) ?_)))
 refine FL (AC AH (AC (AA rfl) (AI (CQ (AW (AW h0)) rfl (by simp[put])) ?_)))
 refine FL (CG (BC (AC (AA rfl) (AI (CQ (AP (AW (AW (AW h0)))) rfl (by simp[put])) (AX ?_)))))
 show Q _ _
 have hl:i<σ.length:=(List.getElem?_eq_some_iff.mp h0).1
 rw[List.set_append_left _ _ hl]at h
 simp only[List.set_set,List.length_set]
 rw[List.set_append_left _ _ (by rw[List.length_set];exact hl),List.set_set]
 have e:RO o o 1 σ.length=AO.inst 4 (put 18 (.ref σ.length) (put 17 (.int 1) (put 16 (.int 0) (put 15 (.bytes o) [])))):=by
  unfold RO
  rw[Nat.sub_self];rfl
 rw[e]at h
 exact h
theorem b0g{res:List Pc}{m:Nat}(H:RdB o)(h0:σ[c]? = some (.inst 5 []))(hm:m<=100000)(e:rdL m none o o []=some res)
  (h:∀ σ',(∀ (k:Nat) (a:AO),k≠c->σ[k]? = some a->σ'[k]? = some a)->CfgN σ' c res->Q .none σ'):(U b (n+8)).C 22 [.ref c,.bytes o] σ Q X:=by
 have hc:c<σ.length:=(List.getElem?_eq_some_iff.mp h0).1
 refine AV (mb:=b_Config_init) (Λ:=[(0,.ref c),(15,.bytes o)]) rfl rfl rfl rfl ?_
 refine FL (DE (NX (BB (AB (AA rfl) AE) ?_)))
 rw[NV]
 refine a8d (i:=σ.length) (n:=n+6) app_new ⟨rfl,?_⟩
 have hlen:(σ++[AO.inst 4 []]).length=σ.length+1:=by simp
 rw[hlen]
 have e1:((σ++[AO.inst 4 []]++[AO.list []]).set σ.length (RO o o 1 (σ.length+1)))=σ++[RO o o 1 (σ.length+1),.list []]:=by simp
 rw[e1]
 have g1:(σ++[RO o o 1 (σ.length+1),.list []])[σ.length]? = some (RO o o 1 (σ.length+1)):=by simp
 have g2:(σ++[RO o o 1 (σ.length+1),.list []])[σ.length+1]? = some (.list []):=by simp
 refine AI (BO g1 rfl rfl) (BC ?_)
 refine b5g H g1 g2 (by lia) hm e fun σ' row refs I=>?_
 have hb:∀ (k:Nat) (a:AO),σ[k]? = some a->σ'[k]? = some a:=fun k a hk=>by
  have:=(List.getElem?_eq_some_iff.mp hk).1
  exact I.fr k a (by lia) (by lia) (AP hk)
 refine AC (AA rfl) (AI (CQ (hb _ _ h0) rfl (by decide)) (AX ?_))
 refine h _ (fun k a hk hs=>BK (hb k a hs) (Ne.symm hk)) ⟨σ.length+1,refs,AW (hb _ _ h0),BK I.ls (by lia),I.pcs.keep fun q hq a ha=>BK ha (fun e=>?_),I.nd⟩
 have:=I.new q hq
 simp at this
 lia
end
noncomputable def All2{α β:Type}(R:α->β->Prop):List α->List β->Prop
 | [],[]=>True
 | a::as,b::bs=>R a b/\All2 R as bs
 | _,_=>False
@[elab_as_elim] theorem All2.ind{α β:Type}{R:α->β->Prop}{P:List α->List β->Prop}(n:P [] [])(c:∀ a as b bs,R a b->All2 R as bs->P as bs->P (a::as) (b::bs)){as:List α}{bs:List β}(h:All2 R as bs):P as bs:=by
 induction as generalizing bs with
 | nil=>induction bs using List.casesOn with
  | nil=>exact n
  | cons _ _=>exact h.elim
 | cons a as ih=>induction bs using List.casesOn with
  | nil=>exact h.elim
  | cons b bs=>exact c a as b bs h.1 h.2 (ih h.2)
theorem All2.len{α β:Type}{R:α->β->Prop}:∀ {as:List α} {bs:List β},All2 R as bs->as.length=bs.length
 | [],[],_=>rfl
 | _::_,_::_,h=>congrArg (· + 1) (All2.len h.2)
 | [],_::_,h=>h.elim
 | _::_,[],h=>h.elim
theorem All2.app{α β:Type}{R:α->β->Prop}{a:α}{b:β}(hr:R a b):∀ {as:List α} {bs:List β},All2 R as bs->All2 R (as++[a]) (bs++[b])
 | [],[],_=>⟨hr,trivial⟩
 | _::_,_::_,h=>⟨h.1,All2.app hr h.2⟩
 | [],_::_,h=>h.elim
 | _::_,[],h=>h.elim
section
variable {b:Bool}{n i j k f c:Nat}{T:Tb}{Λ Λ':Loc}{σ σ₀ τ ρ:St}{Q:PV->St->Prop}{X:St->Prop}{R:Fl->Loc->St->Prop}{o r s:List UInt8}{row:Int}
theorem bytesOf_map(l:List Pc):DF (l.map fun p=>PV.bytes p.raw)=some (l.map Pc.raw):=by
 induction l with
 | nil=>rfl
 | cons p l ih=>exact b3h ih
theorem GV{p:Pc}{a:AO}{q:Nat}(h:σ[q]? = some a)(hp:PcV p a) :
  (∃ t,attr σ (.ref q) 10=some (.str p.word t))/\attr σ (.ref q) 11=some (.bytes p.raw)/\(∃ t,attr σ (.ref q) 9=some (.str p.sec t))/\(∃ t,attr σ (.ref q) 12=some (.str p.name t))/\(∃ v,attr σ (.ref q) 13=some v/\VO p.val v):=by
 obtain⟨ow,os,on,v,osp,hv,rfl⟩:=hp
 exact⟨⟨ow,BF h rfl rfl⟩,BF h rfl rfl,⟨os,BF h rfl rfl⟩,⟨on,BF h rfl rfl⟩,⟨v,BF h rfl rfl,hv⟩⟩
theorem WV{tgt:Nat}:∀ {refs:List Nat} {ps:List Pc},PcsAt σ refs ps->Gath (EL T (.attr (.var 22) 11) [] 22 Λ σ) (refs.map .ref) (ps.map fun p=>.bytes p.raw)
 | [],[],_=>.nil
 | q::qs,p::ps,h=>by
  revert h;refine oA2 ?_;rintro⟨a,h1,h2⟩ h3
  exact .one ⟨trivial,AQ (AA AU) (GV h1 h2).2.1⟩ (WV (tgt:=tgt) h3)
 | [],_::_,h=>h.elim
 | _::_,[],h=>h.elim
noncomputable def octP(ps:List Pc):List UInt8:=(ps.map Pc.raw).flatten
theorem WW{ps:List Pc}(h:CfgAt σ c ps)(hl:ps.length<=1000000)(ho:(octP ps).length<=1000000)(hQ:∀ σ',Ext σ σ'->Q (.bytes (octP ps)) σ'):(U b (n+1)).C 23 [.ref c] σ Q X:=by
 revert h;refine DO ?_;intro j refs h1 h2 h3
 refine AV (mb:=b_Config_octets) (Λ:=[(0,.ref c)]) rfl rfl rfl rfl ?_
 refine BA (DE (AC HQ (AI (a:=none) rfl (BS (KU (AQ (AA rfl) (BF h1 rfl rfl)) h2 (WV (tgt:=22) h3) (by rw[List.length_map,h3.len];exact hl) (BC ?_))))))
 refine AI (a:=(.bytes (octP ps),σ++[AO.list (ps.map fun p=>.bytes p.raw)])) ?_ (hQ (σ++[AO.list (ps.map fun p=>.bytes p.raw)]) .app)
 have f1:fits (ps.map Pc.raw).flatten.length=true:=by unfold fits;rw[decide_eq_true_iff];exact ho
 have f2:fits (ps.map Pc.raw).length=true:=by unfold fits;rw[decide_eq_true_iff,List.length_map];exact hl
 simp only[b4s,AG (app_new (σ:=σ)),bytesOf_map,f1,f2,Bool.and_self,if_true]
 rfl
noncomputable def ItV(it:Str×Option Str)(u:PV):Prop:=∃ t v,u = .tup [.str it.1 t,v]/\VO it.2 v
noncomputable def CT(ps:List Pc):List (Str×Option Str):=(ps.filter fun p=>decide (p.word=Str.ofString "value")).map fun p=>(p.sec++Str.ofString "."++p.name,p.val)
noncomputable def Sm(p:Pc):Prop:=p.sec.length<=1000/\p.name.length<=1000
theorem str_len_app(x y:Str):(x++y).length=x.length+y.length:=Array.size_append
theorem RC:∀ {refs:List Nat} {ps:List Pc},PcsAt σ refs ps->(∀ p∈ps,Sm p)->∃ us,Gath (EL T (.tup [(.bin .add (.bin .add (.attr (.var 22) 9) (.str ".")) (.attr (.var 22) 12)),(.attr (.var 22) 13)]) [(.cmp .eq (.attr (.var 22) 10) (.str "value"))] 22 Λ σ) (refs.map .ref) us/\All2 ItV (CT ps) us
 | [],[],_,_=>⟨[],.nil,trivial⟩
 | q::qs,p::ps,h,hs=>by
  revert h;refine oA2 ?_;rintro⟨a,h1,h2⟩ h3
  refine AD ?_<|RC h3 fun p hp=>hs p (.tail _ hp);intro us g1 g2
  refine oA5 ?_<|GV h1 h2;rintro⟨t10,a10⟩ a11 ⟨t9,a9⟩ ⟨t12,a12⟩ ⟨v,a13,hv⟩
  have hg:get 22 (put 22 (PV.ref q) Λ)=some (.ref q):=AU
  refine oA2 ?_<|hs p (.head _);intro hs1 hs2
  by_cases hw:p.word=Str.ofString "value"
  ·refine⟨.tup [.str (p.sec++Str.ofString "."++p.name) (t9&&true&&t12),v]::us,.one ⟨AF (AQ (AA hg) a10) AM (by rw[BU,decide_eq_true hw]),IC (AB (AT (AT (AQ (AA hg) a9) AM (add_str ?_)) (AQ (AA hg) a12) (add_str ?_)) (AB (AQ (AA hg) a13) AE))⟩ g1,?_⟩
   ·have:(Str.ofString ".").length=1:=by decide
    unfold fits;rw[decide_eq_true_iff,this];exact ar2
   ·have:(Str.ofString ".").length=1:=by decide
    unfold fits;rw[decide_eq_true_iff,str_len_app,this];lia
   ·unfold CT
    rw[List.filter_cons_of_pos (by simpa using hw)]
    exact⟨⟨_,v,rfl,hv⟩,g2⟩
  ·refine⟨us,.no (AF (AQ (AA hg) a10) AM (by rw[BU,decide_eq_false hw])) g1,?_⟩
   unfold CT
   rw[List.filter_cons_of_neg (by simpa using hw)]
   exact g2
 | [],_::_,h,_=>h.elim
 | _::_,[],h,_=>h.elim
theorem b2o{ps:List Pc}(h:CfgAt σ c ps)(hl:ps.length<=1000000)(hs:∀ p∈ps,Sm p)(hQ:∀ us,All2 ItV (CT ps) us->Q (.ref σ.length) (σ++[.list us])):(U b (n+1)).C 24 [.ref c] σ Q X:=by
 revert h;refine DO ?_;intro j refs h1 h2 h3
 refine AV (mb:=b_Config_items) (Λ:=[(0,.ref c)]) rfl rfl rfl rfl ?_
 refine AD ?_<|RC (T:=U b n) (Λ:=BE [] [(0,.ref c)]) h3 hs;intro us g1 g2
 exact BA (KU (AQ (AA rfl) (BF h1 rfl rfl)) h2 g1 (by rw[List.length_map,h3.len];exact hl) (hQ us g2))
noncomputable def GF(acc:List Str):List Pc->List Str
 | []=>acc
 | p::ps=>GF (if p.word=Str.ofString "section"/\p.sec∉acc then acc++[p.sec]else acc) ps
theorem RD{us:List PV}{l:List Str}{x:Str}{t:Bool}(h:BJ us=some l):BJ (us++[.str x t])=some (l++[x]):=by
 induction us generalizing l with
 | nil=>replace h:=sj h;subst h;rfl
 | cons u us ih =>
  exact OT (C:=fun u l=>BJ (u::us++[.str x t])=some (l++[x])) h fun y o m e=>NO (ih e)
theorem RE{us:List PV}{l:List Str}(h:BJ us=some l):us.length=l.length:=by
 induction us generalizing l with
 | nil=>replace h:=sj h;subst h;rfl
 | cons u us ih =>
  exact OT (C:=fun u l=>(u::us).length=l.length) h fun y o m e=>congrArg (· + 1) (ih e)
theorem a4f{rs:List PV}{j:Nat}(hj:σ[j]? = some (.list rs)):∀ {refs:List Nat} {ps:List Pc} {us:List PV} {acc:List Str} {Λ:Loc},PcsAt σ refs ps->BJ us=some acc->get 30 Λ=some (.ref σ.length)->us.length+ps.length<=1000000 →
  (∀ us,BJ us=some (GF acc ps)->Q (.ref σ.length) (σ++[.list us])) →
  turns (DB j rs) (BN (U b n) 22 [.ifS (.and (.cmp .eq (.attr (.var 22) 10) (.str "section")) (.cmp .notin (.attr (.var 22) 9) (.var 30))) [.exp (.meth (.var 30) .append [(.attr (.var 22) 9)])] []] X) (refs.map .ref) Λ (σ++[.list us]) (sq (U b n) [.ret (.var 30)] (Ends Q) X):=by
 intro refs
 induction refs with
 | nil =>
  intro l2 us acc Λ hE hu h30 hl hQ
  induction l2 using List.casesOn with
  | nil=>exact⟨AG (AP hj),BA (AC (AA h30) (hQ us hu))⟩
  | cons _ _=>exact hE.elim
 | cons q qs ih =>
  intro l2 us acc Λ h hu h30 hl hQ
  induction l2 using List.casesOn with
  | nil=>exact h.elim
  | cons p ps =>
  revert h;refine oA2 ?_;rintro⟨a,h1,h2⟩ h3
  have h1':(σ++[AO.list us])[q]? = some a:=AP h1
  refine oA4 ?_<|GV h1' h2;rintro⟨t10,a10⟩ a11 ⟨t9,a9⟩ _
  have hg:get 22 (put 22 (PV.ref q) Λ)=some (.ref q):=AU
  have g30:get 30 (put 22 (PV.ref q) Λ)=some (.ref σ.length):=AL rfl h30
  have hin:cmp (σ++[AO.list us]) .notin (.str p.sec t9) (.ref σ.length)=some (!acc.contains p.sec):=by
   simp only[a1h,cm_ni,in_ref,AG (app_new (σ:=σ)),hu];rfl
  refine turn (AG (AP hj)) ?_
  simp only[List.length_cons]at hl
  by_cases hw:p.word=Str.ofString "section"
  ·by_cases hm:p.sec∈acc
   ·refine BL (MZ (AF (AQ (AA hg) a10) AM (by rw[BU,decide_eq_true hw])) (AF (AQ (AA hg) a9) (AA g30) (by rw[hin];simp[hm]))) (AX ?_)
    refine ih h3 hu g30 (by exact ar6) fun us h=>hQ us ?_
    rw[GF]
    rw[if_neg (fun z=>z.2 hm)];exact h
   ·refine BV (JJ (AF (AQ (AA hg) a10) AM (by rw[BU,decide_eq_true hw])) (AF (AQ (AA hg) a9) (AA g30) (by rw[hin];simp[hm]))) ?_
    refine GC (DE (AC (AA g30) (AI (EK app_new) (BS (AC (AQ (AA hg) a9) (BC ?_))))))
    have hf:fits us.length=true:=by unfold fits;rw[decide_eq_true_iff];exact ar14
    refine AI (a:=(.none,σ++[AO.list (us++[.str p.sec t9])])) ?_ (BD (AX ?_))
    ·simp only[mt_app,AG (app_new (σ:=σ)),hf,if_true,KS]
    ·refine ih h3 (RD hu) g30 (by simp;exact ar7) fun us h=>hQ us ?_
     rw[GF]
     rw[if_pos ⟨hw,hm⟩];exact h
  ·refine BL (HW (AF (AQ (AA hg) a10) AM (by rw[BU,decide_eq_false hw]))) (AX ?_)
   refine ih h3 hu g30 (by exact ar6) fun us h=>hQ us ?_
   rw[GF]
   rw[if_neg (fun z=>hw z.1)];exact h
theorem b5h{ps:List Pc}(h:CfgAt σ c ps)(hl:ps.length<=1000000)(hQ:∀ us,BJ us=some (GF [] ps)->Q (.ref σ.length) (σ++[.list us])):(U b (n+1)).C 25 [.ref c] σ Q X:=by
 revert h;refine DO ?_;intro j refs h1 h2 h3
 refine AV (mb:=b_Config_sections) (Λ:=[(0,.ref c)]) rfl rfl rfl rfl ?_
 refine AS (CG (BC (GL (j:=j) (vs:=refs.map .ref) (AQ (AA rfl) (BF (AP h1) rfl rfl)) (AP h2) ?_)))
 exact a4f h2 h3 rfl rfl (by simpa using hl) hQ
noncomputable abbrev C1(c:Nat):Str:=⟨#[c]⟩
theorem AY{k:Nat}(h:k<=1000000):fits k=true:=by unfold fits;rw[decide_eq_true_iff];exact h
noncomputable def SameBut(k:Nat)(Λ Λ':Loc):Prop:=∀ j,j≠k->get j Λ'=get j Λ
theorem SameBut.put{v:PV}:SameBut k Λ (put k v Λ):=fun j hj=>by rw[get_put,if_neg hj]
theorem SameBut.trans{Λ'':Loc}(h:SameBut k Λ Λ')(h':SameBut k Λ' Λ''):SameBut k Λ Λ'':=fun j hj=>(h' j hj).trans (h j hj)
theorem SameBut.refl:SameBut k Λ Λ:=fun _ _=>rfl
theorem PJ{p:Nat->Bool}{cond:ME}{r':List MS}(hc:∀ Λ c,get 4 Λ=some (.str (C1 c) true)->Ev T cond Λ σ (.bool (!p c))):∀ {l:List Nat} {Λ:Loc},(l.all p=true->∀ Λ',SameBut 4 Λ Λ'->AN T r' Λ' σ R X)->(l.all p=false->T.free/\X σ) →
  turns (fun _=>True) (BN T 4 [.ifS cond [.raise 2 [.int 0]] []] X) (l.map fun c=>.str (C1 c) true) Λ σ (sq T r' R X)
 | [],Λ,h1,_=>⟨trivial,h1 rfl Λ .refl⟩
 | c::l,Λ,h1,h2=>by
  refine turn trivial ?_
  refine QU (hc (put 4 (.str (C1 c) true) Λ) c AU) (fun e=>h2 ?_) fun e=>AX (PJ hc (fun h Λ' hs=>h1 ?_ Λ' (SameBut.put.trans hs)) fun h=>h2 ?_)
  ·rw[List.all_cons,show p c=false from by simpa using e];rfl
  ·rw[List.all_cons,show p c=true from by simpa using e,h];rfl
  ·rw[List.all_cons,show p c=true from by simpa using e,h];rfl
theorem KV{τ:St}:bi τ .ord [.str (C1 c) true]=some (.int (c:Nat),τ):=rfl
noncomputable def EA(x:Str):Int:=Txt.find x (Str.ofString ".")
noncomputable def cHd(x:Str):Str:=if EA x<0 then x else Txt.slice x none (some (EA x))
noncomputable def cTl(x:Str):Str:=Txt.slice x (some (EA x)) none
noncomputable def a1o(c:Nat):Bool := !(decide (C1 c=Str.ofString "\n")||(((c:Int)==0)||decide ((c:Int)>255)))
noncomputable def KG(x:Str):Option Str :=
 if cHd x=E0 then none
 else if(cHd x).cps.toList.all (fun c=>KR (c:Nat))=false then none
 else if EA x<0 then some (Txt.lower (cHd x))
 else if(cTl x).cps.toList.all a1o=false then none
 else some (Txt.lower (cHd x)++cTl x)
noncomputable def NA(x:Str):Bool:=fits (cHd x).length&&fits ((Txt.lower (cHd x)).length+(cTl x).length)
theorem NB{x:Str}{t:Bool}(hf:NA x=true)(h1:∀ y u,KG x=some y->Q (.str y u) σ)(h2:KG x=none->b=true/\X σ):(U b (n+3)).C 4 [.str x t] σ Q X:=by
 unfold NA at hf
 rw[Bool.and_eq_true]at hf
 refine AV (mb:=b_config_section) (Λ:=[(2,.str x t)]) rfl rfl rfl rfl ?_
 refine AS (AC (v:=.int (EA x)) (CO (AA rfl) rfl (AB AM AE) rfl) ?_)
 refine AS (AC (v:=.str (cHd x) t) ?_ ?_)
 ·have:=b4p (T:=U b (n+2)) (σ:=σ) (Λ:=put 7 (.int (EA x)) [(2,.str x t)]) (c:=.cmp .lt (.var 7) (.int 0)) (a:=.var 2) (d:=.sliceR (.var 2) (.var 7)) (t:=decide (EA x<0)) (u:=.str x t) (v:=.str (Txt.slice x none (some (EA x))) t) (AF (AA rfl) AH rfl) (fun _=>AA rfl) fun _=>EZ (AA rfl) (AA rfl) rfl
  unfold cHd
  by_cases hc:EA x<0
  ·rw[if_pos hc];rw[decide_eq_true hc]at this;exact this
  ·rw[if_neg hc];rw[decide_eq_false hc]at this;exact this
 have hU:X σ->b=true->(U b (n+2)).free/\X σ:=fun hx hb=>⟨(FK b (n+2)).mpr hb,hx⟩
 have key:put 8 (PV.str (cHd x) t) (put 7 (PV.int (EA x)) [(2,PV.str x t)])=[(2,PV.str x t),(7,PV.int (EA x)),(8,PV.str (cHd x) t)]:=rfl
 rw[key]
 unfold KG at h1 h2
 by_cases he:cHd x=E0
 ·rw[if_pos he]at h2
  refine QU (t:=true) ?_ (fun _=>hU (h2 rfl).2 (h2 rfl).1) fun e=>nomatch e
  have:=a4c (T:=U b (n+2)) (Λ:=[(2,PV.str x t),(7,PV.int (EA x)),(8,PV.str (cHd x) t)]) (k:=8) (x:=cHd x) (u:=t) (τ:=σ) rfl
  rw[he]at this ⊢;exact this
 ·rw[if_neg he]at h1 h2
  refine BL (QZ rfl he) ?_
  refine RB (t:=t) (x:=cHd x) (AA rfl) (PJ (p:=fun c=>KR (c:Nat)) (fun Λ c h4=>DD (DL (AB (BR (AB (AA h4) AE) KV) AE) WO)) (fun hall Λ₁ s1=>?_) fun hall=>?_)
  ·rw[if_neg (by rw[hall];decide)]at h1 h2
   have g2:get 2 Λ₁=some (.str x t):=s1 2 (by decide)
   have g7:get 7 Λ₁=some (.int (EA x)):=s1 7 (by decide)
   have g8:get 8 Λ₁=some (.str (cHd x) t):=s1 8 (by decide)
   have low:∀ {Λ:Loc},get 8 Λ=some (.str (cHd x) t)->Ev (U b (n+2)) (.meth (.var 8) .lower []) Λ σ (.str (Txt.lower (cHd x)) true):=fun g=>CO (AA g) rfl AE (LT hf.1)
   by_cases hc:EA x<0
   ·rw[if_pos hc]at h1
    refine BV (AF (AA g7) AH (by show some (decide _)=_;rw[decide_eq_true hc])) ?_
    exact BA (AC (low g8) (h1 _ _ rfl))
   ·rw[if_neg hc]at h1 h2
    refine BL (AF (AA g7) AH (by show some (decide _)=_;rw[decide_eq_false hc])) ?_
    refine RB (t:=t) (x:=cTl x) (EY (AA g2) (AA g7) rfl) (PJ (p:=a1o) (fun Λ c h4=>?_) (fun hall Λ₂ s2=>?_) fun hall=>?_)
    ·have z:=CC (T:=U b (n+2)) (σ:=σ) (AF (AA h4) AM (BU (y:=Str.ofString "\n") (u:=true))) fun _=>CC (AF (op:=.eq) (BR (AB (AA h4) AE) KV) (AH (i:=0)) rfl) fun _=>AF (op:=.gt) (BR (AB (AA h4) AE) KV) (AH (i:=255)) rfl
     unfold a1o
     rw[Bool.not_not];exact z
    ·rw[if_neg (by rw[hall];decide)]at h1
     have k2:get 2 Λ₂=some (.str x t):=(s2 2 (by decide)).trans g2
     have k7:get 7 Λ₂=some (.int (EA x)):=(s2 7 (by decide)).trans g7
     have k8:get 8 Λ₂=some (.str (cHd x) t):=(s2 8 (by decide)).trans g8
     exact BA (AC (AT (low k8) (EY (AA k2) (AA k7) rfl) (add_str hf.2)) (h1 _ _ rfl))
    ·rw[if_pos hall]at h2
     exact hU (h2 rfl).2 (h2 rfl).1
  ·rw[if_pos hall]at h2
   exact hU (h2 rfl).2 (h2 rfl).1
noncomputable def oct(x:Str):List UInt8:=x.cps.toList.map Nat.toUInt8
noncomputable def Low(x:Str):Bool:=x.cps.toList.all fun c=>decide (c<256)
theorem PK:∀ {l:List Nat},Gath (EL T (.bi .ord [(.var 4)]) [] 4 Λ σ) (l.map fun c=>.str (C1 c) true) (l.map fun c=>.int (c:Nat))
 | []=>.nil
 | c::l=>.one ⟨trivial,BR (AB (AA AU) AE) KV⟩ PK
theorem RF:∀ (l:List Nat),CR (l.map fun(c:Nat)=>PV.int (c:Nat))=some (l.map fun(c:Nat)=>(c:Int))
 | []=>rfl
 | c::l=>b0p (RF l)
theorem WX{x:Str}(hx:Low x=true)(h:σ[i]? = some (.list (x.cps.toList.map fun c=>.int (c:Nat)))):bi σ .bytes [.ref i]=some (.bytes (oct x),σ):=by
 simp only[b4t,AG h,RF]
 rw[if_pos]
 ·unfold oct
  rw[List.map_map];rfl
 ·rw[List.all_map]
  unfold Low at hx
  rw[List.all_eq_true]at hx ⊢
  intro c hc
  have:=hx c hc
  simp only[decide_eq_true_eq]at this
  simp only[Function.comp,Bool.and_eq_true,decide_eq_true_eq]
  lia
theorem ZT{x:Str}{t:Bool}(hx:Low x=true)(hl:x.length<=1000000)(h:∀ σ',Ext σ σ'->Q (.bytes (oct x)) σ'):(U b (n+1)).C 1 [.str x t] σ Q X:=by
 refine AV (mb:=b_octets_of) (Λ:=[(2,.str x t)]) rfl rfl rfl rfl ?_
 refine AS (ZS (t:=t) (x:=x) (AA rfl) PK hl ?_)
 refine GL (j:=σ.length) (AA rfl) app_new ?_
 have loop:∀ {l:List Nat} {Λ:Loc},(∀ c∈l,c<256)->get 3 Λ=some (.ref σ.length)->turns (DB σ.length (x.cps.toList.map fun c=>.int (c:Nat))) (BN (U b n) 5 [.ifS (.cmp .gt (.var 5) (.int 255)) [.raise 1 [(.var 2)]] []] X) (l.map fun c=>.int (c:Nat)) Λ (σ++[.list (x.cps.toList.map fun c=>.int (c:Nat))]) (sq (U b n) [.ret (.bi .bytes [(.var 3)])] (Ends Q) X):=by
  intro l
  induction l with
  | nil =>
   intro Λ _ h3
   refine⟨AG app_new,?_⟩
   exact BA (AC (BR (AB (AA h3) AE) (WX hx app_new)) (h _ .app))
  | cons c l ih =>
   intro Λ hl h3
   refine turn (AG app_new) ?_
   refine BL (AF (AA (v:=.int (c:Nat)) AU) AH ?_) (AX (ih (fun c hc=>hl c (.tail _ hc)) (AL rfl h3)))
   have:=hl c (.head _)
   show some (decide _)=_
   rw[decide_eq_false (by lia)]
 refine loop (fun c hc=>?_) rfl
 unfold Low at hx
 rw[List.all_eq_true]at hx
 simpa using hx c hc
theorem a8e{x:Str}{t:Bool}(hx:Low x=true)(hl:x.length<=1000000)(h:∀ σ',Ext σ σ'->Q (.bytes (oct x)) σ'):(U b (n+1)).C 43 [.str x t] σ Q X:=by
 refine AV (mb:=b_law_octets) (Λ:=[(2,.str x t)]) rfl rfl rfl rfl ?_
 refine BA (a1g (BS (ZS (t:=t) (x:=x) (AA rfl) PK hl (BC (AI (WX hx app_new) ?_)))))
 exact h (σ++[AO.list (x.cps.toList.map fun c=>.int (c:Nat))]) .app
noncomputable def a8f(c:Nat):Bool:=decide (Builtin.Str.occurrences (Str.ofString "\"\\") (C1 c) 0 (Str.ofString "\"\\").length 1≠[])
noncomputable def esc1(c:Nat):Str:=if a8f c=true then Str.ofString "\\"++C1 c else C1 c
noncomputable def OA(a:Str)(l:List Nat):Str:=l.foldl (fun a c=>a++esc1 c) a
theorem WY(c:Nat):(esc1 c).length<=2:=by
 unfold esc1
 split
 ·rw[str_len_app];exact Nat.le_refl _
 ·exact Nat.le_succ _
theorem WZ:∀ (l:List Nat) (a:Str),(OA a l).length<=a.length+2*l.length
 | [],_=>Nat.le_refl _
 | c::l,a=>by
  have h1:=WZ l (a++esc1 c)
  have h2:=WY c
  rw[str_len_app]at h1
  show(OA (a++esc1 c) l).length<=_
  simp only[List.length_cons];lia
noncomputable def KH(x:Str):Str:=Txt.slice x (some (EA x+1)) none
noncomputable def FF(x:Str):Str:=if EA x<0 then Str.ofString "["++x++Str.ofString "]" else Str.ofString "["++Txt.slice x none (some (EA x))++Str.ofString " \""++OA E0 (KH x).cps.toList++Str.ofString "\"]"
noncomputable def KW(x:Str):Bool:=Low (FF x)&&(decide (x.length<=1000)&&(decide ((Txt.slice x none (some (EA x))).length<=1000)&&decide ((KH x).length<=1000)))
theorem TQ{r':List MS}:∀ {l:List Nat} {Λ:Loc} {a:Str},a.length+2*l.length<=100000->get 1 Λ=some (.str a true)->(∀ Λ',get 1 Λ'=some (.str (OA a l) true)->(∀ k,k≠1->k≠4->get k Λ'=get k Λ)->AN T r' Λ' σ R X) →
  turns (fun _=>True) (BN T 4 [.asg 1 (.bin .add (.var 1) (.ite (.cmp .isin (.var 4) (.str "\"\\")) (.bin .add (.str "\\") (.var 4)) (.var 4)))] X) (l.map fun c=>.str (C1 c) true) Λ σ (sq T r' R X)
 | [],Λ,a,_,h1,h=>⟨trivial,h Λ h1 fun _ _ _=>rfl⟩
 | c::l,Λ,a,hl,h1,h=>by
  refine turn trivial ?_
  have g4:get 4 (put 4 (PV.str (C1 c) true) Λ)=some (.str (C1 c) true):=AU
  have g1:get 1 (put 4 (PV.str (C1 c) true) Λ)=some (.str a true):=AL rfl h1
  simp only[List.length_cons]at hl
  have e:Ev T (.ite (.cmp .isin (.var 4) (.str "\"\\")) (.bin .add (.str "\\") (.var 4)) (.var 4)) (put 4 (PV.str (C1 c) true) Λ) σ (.str (esc1 c) true):=by
   have ci:Ev T (.cmp .isin (.var 4) (.str "\"\\")) (put 4 (PV.str (C1 c) true) Λ) σ (.bool (a8f c)):=AF (AA g4) AM rfl
   unfold esc1
   cases hq:a8f c with
   | true=>rw[hq]at ci;exact GB ci (AT AM (AA g4) (add_str (show fits ((Str.ofString "\\").length+1)=true by decide)))
   | false=>rw[hq]at ci;exact ER ci (AA g4)
  have hl1:=WY c
  refine AS (AC (AT (AA g1) e (add_str (AY (by lia)))) (AX ?_))
  refine TQ (a:=a++esc1 c) (by rw[str_len_app];lia) AU fun Λ' k1 k2=>h Λ' k1 fun k n1 n4=>(k2 k n1 n4).trans (by rw[get_put,if_neg n1,get_put,if_neg n4])
theorem b5i{x:Str}{t:Bool}(hx:KW x=true)(h:∀ σ',Ext σ σ'->Q (.bytes (oct (FF x))) σ'):(U b (n+2)).C 5 [.str x t] σ Q X:=by
 unfold KW at hx
 simp only[Bool.and_eq_true,decide_eq_true_eq]at hx
 revert hx;refine oA4 ?_;intro hlow hl hl1 hl2
 refine AV (mb:=b_config_header) (Λ:=[(9,.str x t)]) rfl rfl rfl rfl ?_
 refine AS (AC (v:=.int (EA x)) (CO (AA rfl) rfl (AB AM AE) rfl) ?_)
 have one:∀ y:String,(Str.ofString y).length=(Str.ofString y).cps.size:=fun _=>rfl
 by_cases hc:EA x<0
 ·have e:FF x=Str.ofString "["++x++Str.ofString "]":=by unfold FF;rw[if_pos hc]
  rw[e]at hlow h
  refine BV (AF (AA rfl) AH (by show some (decide _)=_;rw[decide_eq_true hc])) (BA (CP (BB (AB (AT (AT AM (AA rfl) (add_str (AY ?_))) AM (add_str (AY ?_))) AE) (ZT hlow ?_ h))))
  ·have:(Str.ofString "[").length=1:=by decide
   lia
  ·have:(Str.ofString "[").length=1:=by decide
   have:(Str.ofString "]").length=1:=by decide
   rw[str_len_app];lia
  ·have:(Str.ofString "[").length=1:=by decide
   have:(Str.ofString "]").length=1:=by decide
   rw[str_len_app,str_len_app];lia
 ·have e:FF x=Str.ofString "["++Txt.slice x none (some (EA x))++Str.ofString " \""++OA E0 (KH x).cps.toList++Str.ofString "\"]":=by unfold FF;rw[if_neg hc]
  rw[e]at hlow h
  refine BL (AF (AA rfl) AH (by show some (decide _)=_;rw[decide_eq_false hc])) (AS (AC AM ?_))
  have htl:(OA E0 (KH x).cps.toList).length<=2000:=by
   have:=WZ (KH x).cps.toList E0
   have e0:E0.length=0:=by decide
   have e1:(KH x).cps.toList.length=(KH x).length:=rfl
   lia
  refine RB (t:=t) (x:=KH x) (EY (AA rfl) (AT (AA rfl) AH rfl) rfl) ?_
  refine TQ (a:=E0) ?_ rfl fun Λ' k1 k2=>?_
  ·have e0:E0.length=0:=by decide
   have e1:(KH x).cps.toList.length=(KH x).length:=rfl
   lia
  ·have g9:get 9 Λ'=some (.str x t):=k2 9 (by decide) (by decide)
   have g7:get 7 Λ'=some (.int (EA x)):=k2 7 (by decide) (by decide)
   have l1:(Str.ofString "[").length=1:=by decide
   have l2:(Str.ofString " \"").length=2:=by decide
   have l3:(Str.ofString "\"]").length=2:=by decide
   refine BA (CP (BB (AB (AT (AT (AT (AT AM (EZ (AA g9) (AA g7) rfl) (add_str (AY ?_))) AM (add_str (AY ?_))) (AA k1) (add_str (AY ?_))) AM (add_str (AY ?_))) AE) (ZT hlow ?_ h)))
   all_goals simp only[str_len_app,l1,l2,l3];lia
noncomputable def NC(raw:List UInt8):List UInt8:=BQ raw none (some (PU raw [91]))
theorem a8g{q:Nat}{p:Pc}{a:AO}(h1:σ[q]? = some a)(hp:PcV p a)(hw:p.word=Str.ofString "section"):Pu (U b (n+1)) 8 [.ref q] σ (.bytes (NC p.raw)):=fun Q X h=>by
 refine oA3 ?_<|GV h1 hp;rintro⟨t10,a10⟩ a11 _
 refine AV (mb:=b_ConfigPiece_indent) (Λ:=[(0,.ref q)]) rfl rfl rfl rfl ?_
 refine BV (AF (AQ (AA rfl) a10) AM (by rw[BU,decide_eq_true hw])) ?_
 exact BA (AC (EZ (AQ (AA rfl) a11) (CO (AQ (AA rfl) a11) rfl (AB HQ AE) rfl) rfl) h)
theorem a8h{q:Nat}{p:Pc}{a:AO}(h1:σ[q]? = some a)(hp:PcV p a):Pu (U b (n+1)) 7 [.ref q] σ (.bool (!HA p.raw [10])):=fun Q X h=>by
 refine oA3 ?_<|GV h1 hp;intro _ a11 _
 refine AV (mb:=b_ConfigPiece_is_open) (Λ:=[(0,.ref q)]) rfl rfl rfl rfl ?_
 exact BA (AC (DD (CO (AQ (AA rfl) a11) rfl (AB HQ AE) rfl)) h)
noncomputable def ExtP(σ σ':St):Prop:=∀ (k:Nat) (a:AO),(∀ fs,a≠.inst 3 fs)->σ[k]? = some a->σ'[k]? = some a
noncomputable def Chg(qs:List Nat)(σ σ':St):Prop:=∀ (k:Nat) (a:AO),k∉qs->σ[k]? = some a->σ'[k]? = some a
noncomputable def DS(near far:Str)(hb:List UInt8)(p:Pc):Pc :=
 if p.word≠Str.ofString "gap"/\p.sec=near then(if p.word=Str.ofString "section" then{p with sec:=far,raw:=NC p.raw++hb }else{p with sec:=far })else p
noncomputable def isHd(near:Str)(p:Pc):Bool:=decide (p.word=Str.ofString "section"/\p.sec=near)
noncomputable def EV(near:Str)(ps:List Pc):Nat:=(ps.filter (isHd near)).length
theorem PcsAt.notList{qs:List Nat}{ps:List Pc}{vs:List PV}(h:PcsAt σ qs ps)(hj:σ[j]? = some (.list vs)):j∉qs:=by
 intro hm
 induction qs generalizing ps with
 | nil=>cases hm
 | cons q qs ih =>
  induction ps using List.casesOn with
  | nil=>exact h.elim
  | cons p ps =>
   rcases List.mem_cons.mp hm with rfl | hm
   ·revert h;refine oA2 ?_;rintro⟨a,h1,h2⟩ _
    rw[hj]at h1
    obtain⟨_,_,_,_,_,_,e⟩:=h2
    replace h1:=sj h1;subst h1;cases e
   ·exact ih h.2 hm
theorem PcsAt.isInst{qs:List Nat}{ps:List Pc}(h:PcsAt σ qs ps){q:Nat}(hm:q∈qs):∃ fs,σ[q]? = some (.inst 3 fs):=by
 induction qs generalizing ps with
 | nil=>cases hm
 | cons q' qs ih =>
  induction ps using List.casesOn with
  | nil=>exact h.elim
  | cons p ps =>
   rcases List.mem_cons.mp hm with rfl | hm
   ·revert h;refine oA2 ?_;rintro⟨a,h1,h2⟩ _
    obtain⟨_,_,_,_,_,_,rfl⟩:=h2
    exact⟨_,h1⟩
   ·exact ih h.2 hm
theorem b5j{l:List UInt8}{x:Option Int}:(BQ l none x).length<=l.length:=by
 exact UW _ _ _
noncomputable abbrev SM:List MS:=[.ifS (.and (.cmp .ne (.attr (.var 22) 10) (.str "gap")) (.cmp .eq (.attr (.var 22) 9) (.var 38))) [.setA (.var 22) 9 (.var 39),.ifS (.cmp .eq (.attr (.var 22) 10) (.str "section")) [.setA (.var 22) 11 (.bin .add (.meth (.var 22) (.own 41) []) (.call 5 [(.var 39)])),.asg 40 (.bin .add (.var 40) (.int 1))] []] []]
theorem a8i{near far:Str}{t u:Bool}{rs:List PV}{r':List MS}(hfar:KW far=true)(hbl:(oct (FF far)).length<=100000):∀ {qs:List Nat} {ps:List Pc} {τ:St} {Λ:Loc} {m:Nat},qs.Nodup->PcsAt τ qs ps->τ[j]? = some (.list rs)->(∀ p∈ps,p.raw.length<=100000) →
  get 38 Λ=some (.str near t)->get 39 Λ=some (.str far u)->get 40 Λ=some (.int (m:Nat)) →
  (∀ τ' Λ',Chg qs τ τ'->PcsAt τ' qs (ps.map (DS near far (oct (FF far))))->get 40 Λ'=some (.int ((m+EV near ps:Nat):Int))->AN (U b (n+2)) r' Λ' τ' R X) →
  turns (DB j rs) (BN (U b (n+2)) 22 SM X) (qs.map .ref) Λ τ (sq (U b (n+2)) r' R X):=by
 intro qs
 induction qs with
 | nil =>
  intro l2 τ Λ m _ hE hj _ h38 h39 h40 h
  induction l2 using List.casesOn with
  | nil=>exact⟨AG hj,h τ Λ (fun _ _ _ h=>h) trivial h40⟩
  | cons _ _=>exact hE.elim
 | cons q qs ih =>
  intro l2 τ Λ m hn hp hj hraw h38 h39 h40 h
  induction l2 using List.casesOn with
  | nil=>exact hp.elim
  | cons p ps =>
  revert hp;refine oA2 ?_;rintro⟨a,h1,h2⟩ h3
  have hjq:j≠q:=fun e=>PcsAt.notList (σ:=τ) (qs:=q::qs) (ps:=p::ps) ⟨⟨a,h1,h2⟩,h3⟩ hj (e ▸ .head _)
  rw[List.nodup_cons]at hn
  refine oA4 ?_<|GV h1 h2;rintro⟨t10,a10⟩ a11 ⟨t9,a9⟩ _
  have g22:get 22 (put 22 (PV.ref q) Λ)=some (.ref q):=AU
  have g38:get 38 (put 22 (PV.ref q) Λ)=some (.str near t):=AL rfl h38
  have g39:get 39 (put 22 (PV.ref q) Λ)=some (.str far u):=AL rfl h39
  have g40:get 40 (put 22 (PV.ref q) Λ)=some (.int (m:Nat)):=AL rfl h40
  refine turn (AG hj) ?_
  show AN (U b (n+2)) SM (put 22 (PV.ref q) Λ) τ _ X
  revert g22 g38 g39 g40
  generalize put 22 (PV.ref q) Λ=Λ₁
  intro g22 g38 g39 g40
  have keepRest:∀ {τ₂:St},Chg [q] τ τ₂->PcsAt τ₂ qs ps:=fun hc=>h3.keep fun q' hq' a' ha'=>hc q' a' (by rw[List.mem_singleton];rintro rfl;exact hn.1 hq') ha'
  have keepJ:∀ {τ₂:St},Chg [q] τ τ₂->τ₂[j]? = some (.list rs):=fun hc=>hc j _ (by rw[List.mem_singleton];exact hjq) hj
  have go:∀ {τ₂:St} {Λ₂:Loc} {m₂:Nat} {a₂:AO},Chg [q] τ τ₂->τ₂[q]? = some a₂->PcV (DS near far (oct (FF far)) p) a₂->m₂=m+(if isHd near p=true then 1 else 0)->get 38 Λ₂=some (.str near t)->get 39 Λ₂=some (.str far u)->get 40 Λ₂=some (.int (m₂:Nat)) →
    turns (DB j rs) (BN (U b (n+2)) 22 SM X) (qs.map .ref) Λ₂ τ₂ (sq (U b (n+2)) r' R X):=fun{τ₂ Λ₂ m₂ a₂} hc hq hv hm k38 k39 k40=>by
   refine ih hn.2 (keepRest hc) (keepJ hc) (fun p hp=>hraw p (.tail _ hp)) k38 k39 k40 fun τ' Λ' c1 c2 c3=>h τ' Λ' (fun k a hk ha=>?_) ?_ ?_
   ·exact c1 k a (fun hm=>hk (.tail _ hm)) (hc k a (by rw[List.mem_singleton];rintro rfl;exact hk (.head _)) ha)
   ·exact⟨⟨a₂,c1 q a₂ hn.1 hq,hv⟩,c2⟩
   ·rw[c3]
    have:m₂+EV near ps=m+EV near (p::ps):=by
     unfold EV
     rw[hm,List.filter_cons]
     cases isHd near p<;>simp<;>lia
    rw[this]
  by_cases hw:p.word≠Str.ofString "gap"/\p.sec=near
  ·refine BV (JJ (AF (AQ (AA g22) a10) AM (by rw[DW,decide_eq_false hw.1];rfl)) (AF (AQ (AA g22) a9) (AA g38) (by rw[BU,decide_eq_true hw.2]))) ?_
   obtain⟨ow,os,on,v,osp,hv,ea⟩:=id h2
   subst ea
   refine FL (AC (AA g39) (AC (AA g22) (AI (CQ h1 rfl (by simp)) ?_)))
   have s1:(τ.set q (.inst 3 (put 9 (.str far u) [(10,.str p.word ow),(11,.bytes p.raw),(9,.str p.sec os),(12,.str p.name on),(13,v),(14,.str p.spelt osp)])))[q]? = some (.inst 3 [(10,.str p.word ow),(11,.bytes p.raw),(9,.str far u),(12,.str p.name on),(13,v),(14,.str p.spelt osp)]):=AW h1
   have c1:Chg [q] τ (τ.set q (.inst 3 (put 9 (.str far u) [(10,.str p.word ow),(11,.bytes p.raw),(9,.str p.sec os),(12,.str p.name on),(13,v),(14,.str p.spelt osp)]))):=fun k a hk ha=>BK ha (by rw[List.mem_singleton]at hk;exact Ne.symm hk)
   revert s1 c1
   generalize τ.set q (.inst 3 (put 9 (.str far u) [(10,.str p.word ow),(11,.bytes p.raw),(9,.str p.sec os),(12,.str p.name on),(13,v),(14,.str p.spelt osp)]))=τ₁
   intro s1 c1
   have v1:PcV {p with sec:=far } (.inst 3 [(10,.str p.word ow),(11,.bytes p.raw),(9,.str far u),(12,.str p.name on),(13,v),(14,.str p.spelt osp)]):=⟨ow,u,on,v,osp,hv,rfl⟩
   refine oA2 ?_<|GV s1 v1;rintro⟨t10',b10⟩ _
   by_cases hs:p.word=Str.ofString "section"
   ·refine BV (AF (AQ (AA g22) b10) AM (by rw[BU,decide_eq_true hs])) ?_
    refine FL (FQ (EC (AA g22) (BO s1 rfl rfl) (BC (a8g s1 v1 hs _ _ (CP (BB (AB (AA g39) AE) (b5i hfar fun τ₂ e2=>?_)))))))
    refine AI (a:=(.bytes (NC p.raw++oct (FF far)),τ₂)) ?_ ?_
    ·have l1:(NC p.raw).length<=p.raw.length:=b5j
     have l2:=hraw p (.head _)
     show(if fits _=true then _ else none)=_
     rw[if_pos (AY (by show(NC p.raw).length+_<=_;lia))]
    ·refine AC (AA g22) (AI (CQ (e2 _ _ s1) rfl (by simp)) (AS (AC (AT (AA g40) AH rfl) (BD (BD (AX ?_))))))
     refine go (m₂:=m+1) (fun k a hk ha=>BK (e2 _ _ (c1 k a hk ha)) (by rw[List.mem_singleton]at hk;exact Ne.symm hk)) (AW (e2 _ _ s1)) ?_ ?_ (AL rfl g38) (AL rfl g39) AU
     ·unfold DS
      rw[if_pos hw,if_pos hs]
      exact⟨ow,u,on,v,osp,hv,rfl⟩
     ·unfold isHd
      rw[if_pos (by simpa using ⟨hs,hw.2⟩)]
   ·refine BL (AF (AQ (AA g22) b10) AM (by rw[BU,decide_eq_false hs])) (BD (AX ?_))
    refine go (m₂:=m) c1 s1 ?_ ?_ g38 g39 g40
    ·unfold DS
     rw[if_pos hw,if_neg hs]
     exact v1
    ·unfold isHd
     rw[if_neg (by simp[hs])];rfl
  ·refine BL (c:=.and (.cmp .ne (.attr (.var 22) 10) (.str "gap")) (.cmp .eq (.attr (.var 22) 9) (.var 38))) ?_ (AX ?_)
   ·refine WT (t := !decide (p.word=Str.ofString "gap")) (u:=decide (p.sec=near)) (AF (AQ (AA g22) a10) AM DW) (fun _=>AF (AQ (AA g22) a9) (AA g38) BU) ?_
    cases hz:(!decide (p.word=Str.ofString "gap")&&decide (p.sec=near))with
    | false=>rfl
    | true =>
     rw[Bool.and_eq_true,Bool.not_eq_true',decide_eq_false_iff_not,decide_eq_true_eq]at hz
     exact absurd hz hw
   ·refine go (m₂:=m) (fun _ _ _ h=>h) h1 ?_ ?_ g38 g39 g40
    ·unfold DS
     rw[if_neg hw];exact h2
    ·unfold isHd
     rw[if_neg];rfl
     rw[decide_eq_true_eq]
     rintro⟨e1,e2⟩
     exact hw ⟨by rw[e1];decide,e2⟩
theorem XA{old new near:Str}{t t':Bool}{ps:List Pc}(h:CfgN σ c ps)(ho:NA old=true)(hn:NA new=true)(hnear:KG old=some near)(hraw:∀ p∈ps,p.raw.length<=100000)
  (h1:∀ far,KG new=some far->KW far=true/\(oct (FF far)).length<=100000/\∀ σ',ExtP σ σ'->CfgAt σ' c (ps.map (DS near far (oct (FF far))))->Q (.int (EV near ps:Nat)) σ') (h2:KG new=none->b=true/\X σ):(U b (n+4)).C 26 [.ref c,.str old t,.str new t'] σ Q X:=by
 obtain⟨j,refs,c1,c2,c3,c4⟩:=h
 refine AV (mb:=b_Config_rename_section) (Λ:=[(0,.ref c),(36,.str old t),(37,.str new t')]) rfl rfl rfl rfl ?_
 refine KQ (BS (CP (BB (AB (AA rfl) AE) (NB ho (fun y u hy=>?_) fun hy=>by rw[hnear]at hy;exact noT hy))))
 rw[hnear]at hy
 replace hy:=sj hy;subst hy
 refine BS (CP (BB (AB (AA rfl) AE) (NB hn (fun far u' hf=>BC ?_) h2)))
 refine oA3 ?_<|h1 far hf;intro k1 k2 k3
 refine AS (AC AH (GL (j:=j) (vs:=refs.map .ref) (AQ (AA rfl) (BF c1 rfl rfl)) c2 ?_))
 refine a8i (near:=near) (far:=far) (t:=u) (u:=u') (m:=0) k1 k2 c4 c3 c2 hraw rfl rfl rfl fun τ' Λ' d1 d2 d3=>BA (AC (AA d3) ?_)
 have ep:ExtP σ τ':=fun k a ha hk=>d1 k a (fun hm=>by
  refine AR ?_<|c3.isInst hm;intro fs e
  rw[hk]at e;replace e:=sj e;subst e
  exact ha fs rfl) hk
 rw[Nat.zero_add]
 exact k3 τ' ep ⟨j,refs,ep _ _ (fun fs e=>by cases e) c1,ep _ _ (fun fs e=>by cases e) c2,d2⟩
noncomputable def inF(near:Str)(isin:Bool)(p:Pc):Bool:=if p.word=Str.ofString "section" then decide (p.sec=near)else isin
noncomputable def shut(kept:List Pc):Bool:=match kept.getLast? with
 | none=>true
 | some p=>HA p.raw [10]
noncomputable def remF(near:Str):Bool->List Pc->List Pc->Option (List Pc)
 | _,kept,[]=>some kept
 | isin,kept,p::ps=>if inF near isin p=true then(if shut kept=true then remF near true kept ps else none)else remF near false (kept++[p]) ps
noncomputable abbrev OB:List MS:=[.ifS (.cmp .eq (.attr (.var 22) 10) (.str "section")) [.asg 42 (.cmp .eq (.attr (.var 22) 9) (.var 38)),.asg 40 (.bin .add (.var 40) (.bi .int [(.var 42)]))] [],.ifS (.not (.var 42)) [.exp (.meth (.var 32) .append [(.var 22)])] [.ifS (.and (.cmp .ne (.var 32) (.lst [])) (.meth (.idx (.var 32) (.int (-1))) (.own 43) [])) [.exp (.meth (.var 32) .append [(.new 3 [(.str "gap"),(.bytes [10])])])] []]]
theorem PcsAt.last{kr:List Nat}{kept:List Pc}{q:Nat}(h:PcsAt σ kr kept)(hq:kr.getLast? = some q):∃ p a,kept.getLast? = some p/\σ[q]? = some a/\PcV p a:=by
 induction kr generalizing kept with
 | nil=>exact noS hq
 | cons x xs ih =>
  induction kept using List.casesOn with
  | nil=>exact h.elim
  | cons y ys =>
   induction xs using List.casesOn with
   | nil =>
    induction ys using List.casesOn with
    | nil =>
     revert h;refine oA2 ?_;rintro⟨a,h1,h2⟩ _
     replace hq:=sj hq;subst hq
     exact⟨y,a,rfl,h1,h2⟩
    | cons z zs=>exact h.2.elim
   | cons x' xs' =>
    induction ys using List.casesOn with
    | nil=>exact h.2.elim
    | cons z zs =>
     rw[List.getLast?_cons_cons]at hq ⊢
     exact ih h.2 hq
theorem a8j{kr:List Nat}{q:Nat}(hk:σ[k]? = some (.list (kr.map .ref)))(hq:kr.getLast? = some q):idx σ (.ref k) (.int (-1))=some (.ref q):=by
 have hne:kr≠[]:=by rintro rfl;exact noS hq
 have hl:0<kr.length:=List.length_pos_iff.mpr hne
 rw[List.getLast?_eq_getElem?]at hq
 show(match AK σ k with | some vs=>if CF (-1)then at? vs (-1)else none | none=>none)=_
 rw[AG hk]
 show(if CF (-1)=true then at? (kr.map PV.ref) (-1)else none)=_
 rw[if_pos (by decide)]
 unfold at?
 rw[if_neg (by decide),List.length_map,if_pos (by lia)]
 rw[show((-1:Int)+(kr.length:Int)).toNat=kr.length-1 from by lia,List.getElem?_map,hq];rfl
set_option tactic.hygienic true in
theorem a8k{near:Str}{t:Bool}{rs:List PV}{r':List MS}{k₀:Nat}(hjk:j≠k₀):∀ {qs:List Nat} {ps kept res:List Pc} {kr:List Nat} {τ:St} {Λ:Loc} {m:Nat} {isin:Bool},PcsAt τ qs ps->PcsAt τ kr kept->τ[j]? = some (.list rs)->τ[k₀]? = some (.list (kr.map .ref))->kr.length+ps.length<=1000000->remF near isin kept ps=some res →
  get 38 Λ=some (.str near t)->get 32 Λ=some (.ref k₀)->get 40 Λ=some (.int (m:Nat))->get 42 Λ=some (.bool isin)->get 0 Λ=some (.ref c) →
  (∀ τ' Λ' kr',(∀ k a,k≠k₀->τ[k]? = some a->τ'[k]? = some a)->τ'[k₀]? = some (.list (kr'.map .ref))->PcsAt τ' kr' res->get 32 Λ'=some (.ref k₀)->get 0 Λ'=some (.ref c)->get 40 Λ'=some (.int ((m+EV near ps:Nat):Int))->AN (U b (n+1)) r' Λ' τ' R X) →
  turns (DB j rs) (BN (U b (n+1)) 22 OB X) (qs.map .ref) Λ τ (sq (U b (n+1)) r' R X):=by
 intro qs
 induction qs with
 | nil =>
  intro l2 kept res kr τ Λ m isin hE hkp hj hk _ e h38 h32 h40 h42 h0 h
  induction l2 using List.casesOn with
  | nil=>exact(by
  replace e:=sj e;subst e
  exact⟨AG hj,h τ Λ kr (fun _ _ _ h=>h) hk hkp h32 h0 h40⟩)
  | cons _ _=>exact hE.elim
 | cons q qs ih =>
  intro l2 kept res kr τ Λ m isin hp hkp hj hk hl e h38 h32 h40 h42 h0 h
  induction l2 using List.casesOn with
  | nil=>exact hp.elim
  | cons p ps =>
  refine oA2 ?_<|id hp;rintro⟨a,h1,h2⟩ h3
  have hkq:k₀∉q::qs:=hp.notList hk
  have hkk:k₀∉kr:=hkp.notList hk
  simp only[List.length_cons]at hl
  refine oA4 ?_<|GV h1 h2;rintro⟨t10,a10⟩ a11 ⟨t9,a9⟩ _
  have g22:get 22 (put 22 (PV.ref q) Λ)=some (.ref q):=AU
  have g38:get 38 (put 22 (PV.ref q) Λ)=some (.str near t):=AL rfl h38
  have g32:get 32 (put 22 (PV.ref q) Λ)=some (.ref k₀):=AL rfl h32
  have g40:get 40 (put 22 (PV.ref q) Λ)=some (.int (m:Nat)):=AL rfl h40
  have g42:get 42 (put 22 (PV.ref q) Λ)=some (.bool isin):=AL rfl h42
  have g0:get 0 (put 22 (PV.ref q) Λ)=some (.ref c):=AL rfl h0
  refine turn (AG hj) ?_
  show AN (U b (n+1)) OB (put 22 (PV.ref q) Λ) τ _ X
  revert g22 g38 g32 g40 g42 g0
  generalize put 22 (PV.ref q) Λ=Λ₁
  intro g22 g38 g32 g40 g42 g0
  -- behind the count
  have rest:∀ {Λ₂:Loc} {m₂:Nat},m₂=m+(if isHd near p=true then 1 else 0)->get 22 Λ₂=some (.ref q)->get 38 Λ₂=some (.str near t)->get 32 Λ₂=some (.ref k₀)->get 40 Λ₂=some (.int (m₂:Nat))->get 42 Λ₂=some (.bool (inF near isin p))->get 0 Λ₂=some (.ref c) →
    AN (U b (n+1)) [.ifS (.not (.var 42)) [.exp (.meth (.var 32) .append [(.var 22)])] [.ifS (.and (.cmp .ne (.var 32) (.lst [])) (.meth (.idx (.var 32) (.int (-1))) (.own 43) [])) [.exp (.meth (.var 32) .append [(.new 3 [(.str "gap"),(.bytes [10])])])] []]] Λ₂ τ (tk (DB j rs) (BN (U b (n+1)) 22 OB X) (qs.map .ref) (sq (U b (n+1)) r' R X)) X:=by
   intro Λ₂ m₂ hm k22 k38 k32 k40 k42 k0
   have cnt:m₂+EV near ps=m+EV near (p::ps):=by
    unfold EV
    rw[hm,List.filter_cons]
    cases isHd near p<;>simp<;>lia
   rw[remF]at e
   cases hin:inF near isin p with
   | false =>
    rw[hin]at e k42
    rw[if_neg (by decide)]at e
    refine BV (b0f (AA k42)) (GC (DE (AC (AA k32) (AI (EK hk) (BS (AC (AA k22) (BC ?_)))))))
    refine AI (a:=(.none,τ.set k₀ (.list ((kr++[q]).map .ref)))) ?_ (BD (AX ?_))
    ·have hf:fits (kr.map PV.ref).length=true:=AY (by rw[List.length_map];exact ar14)
     simp only[mt_app,AG hk,hf,if_true,List.map_append,List.map_cons,List.map_nil]
    ·have kp:∀ {x a},x≠k₀->τ[x]? = some a->(τ.set k₀ (.list ((kr++[q]).map .ref)))[x]? = some a:=fun hx ha=>BK ha (Ne.symm hx)
     refine ih (kept:=kept++[p]) (kr:=kr++[q]) (m:=m₂) (isin:=false) (h3.keep fun x hx a ha=>kp (by rintro rfl;exact hkq (.tail _ hx)) ha) (PcsAt.app (kp (by rintro rfl;exact hkq (.head _)) h1) h2 (hkp.keep fun x hx a ha=>kp (by rintro rfl;exact hkk hx) ha)) (kp hjk hj) (AW hk) (by simp;exact ar7) e k38 k32 k40 k42 k0 fun τ' Λ' kr' d1 d2 d3 d4 d5 d6=>?_
     exact h τ' Λ' kr' (fun x a hx ha=>d1 x a hx (kp hx ha)) d2 d3 d4 d5 (by rw[d6,cnt])
   | true =>
    rw[hin]at e k42
    rw[if_pos rfl]at e
    split at e
    ·rename_i hsh
     refine FY (b0e (AA k42)) ?_
     refine MV (NW (FS (AC (AA k32) (CG (BC ?_)))))
     have hk':(τ++[AO.list []])[k₀]? = some (.list (kr.map .ref)):=AP hk
     have fin:AN (U b (n+1)) [] Λ₂ (τ++[AO.list []]) (sq (U b (n+1)) [] (sq (U b (n+1)) [] (tk (DB j rs) (BN (U b (n+1)) 22 OB X) (qs.map .ref) (sq (U b (n+1)) r' R X)) X) X) X:=by
      refine BD (BD (AX ?_))
      refine ih (kept:=kept) (kr:=kr) (m:=m₂) (isin:=true) (h3.keep fun x hx a ha=>AP ha) (hkp.keep fun x hx a ha=>AP ha) (AP hj) hk' (by exact ar6) e k38 k32 k40 k42 k0 fun τ' Λ' kr' d1 d2 d3 d4 d5 d6=>?_
      exact h τ' Λ' kr' (fun x a hx ha=>d1 x a hx (AP ha)) d2 d3 d4 d5 (by rw[d6,cnt])
     cases hkr:kr.getLast? with
     | none =>
      have:kr=[]:=List.getLast?_eq_none_iff.mp hkr
      subst this
      refine AI (a:=false) ?_ ?_
      ·simp only[NY,cm_ne,eq_ref,AG hk',AG (app_new (σ:=τ))]
       rfl
      ·exact fin
     | some q' =>
      have hne:kr≠[]:=by rintro rfl;exact noS hkr
      have hl0:(kr.map PV.ref).length≠([]:List PV).length:=by rw[List.length_map];simpa using hne
      refine AI (a:=true) ?_ ?_
      ·simp only[NY,cm_ne,eq_ref,AG hk',AG (app_new (σ:=τ))]
       rw[if_pos hl0];rfl
      ·refine DO ?_<|hkp.last hkr;intro p' a' e1 e2 e3
       obtain⟨_,_,_,_,_,_,e4⟩:=id e3
       subst e4
       have e2':=AP (τ:=[AO.list []]) e2
       have hsh':HA p'.raw [10]=true:=by
        unfold shut at hsh
        rw[e1]at hsh;exact hsh
       show wpE _ _ _ _ _ _
       refine AC (DZ (BH (AA k32) AH (a8j hk' hkr)) (BO e2' rfl rfl) AE (a8h e2' e3)) ?_
       rw[hsh']
       exact fin
    ·exact noS e
  by_cases hs:p.word=Str.ofString "section"
  ·refine BV (AF (AQ (AA g22) a10) AM (by rw[BU,decide_eq_true hs])) ?_
   refine AS (AC (AF (AQ (AA g22) a9) (AA g38) BU) ?_)
   refine AS (AC (v:=.int ((m+(if isHd near p=true then 1 else 0):Nat):Int)) (AT (AA (v:=.int (m:Nat)) (AL rfl g40)) (BR (AB (AA (v:=.bool (decide (p.sec=near))) AU) AE) rfl) ?_) (BD ?_))
   ·show some (PV.int ((m:Int)+(if decide (p.sec=near)=true then 1 else 0)),τ)=_
    unfold isHd
    by_cases hn:p.sec=near
    ·rw[if_pos (by simpa using hn),if_pos (by simpa using ⟨hs,hn⟩)];rfl
    ·rw[if_neg (by simpa using hn),if_neg (by simp[hn])];rfl
   ·refine rest rfl (by rw[get_put,get_put];exact g22) (by rw[get_put,get_put];exact g38) (by rw[get_put,get_put];exact g32) AU (by rw[get_put,get_put];unfold inF;rw[if_pos hs];rfl) (by rw[get_put,get_put];exact g0)
  ·refine BL (AF (AQ (AA g22) a10) AM (by rw[BU,decide_eq_false hs])) ?_
   refine rest (m₂:=m) ?_ g22 g38 g32 g40 (by unfold inF;rw[if_neg hs];exact g42) g0
   unfold isHd
   rw[if_neg (by simp[hs])];rfl
theorem a8l{old near:Str}{t:Bool}{ps res:List Pc}(h:CfgAt σ c ps)(ho:NA old=true)(hnear:KG old=some near)(hl:ps.length<=1000000)(e:remF near false [] ps=some res)
  (h1:∀ σ',(∀ (k:Nat) (a:AO),k≠c->σ[k]? = some a->σ'[k]? = some a)->CfgAt σ' c res->Q (.int (EV near ps:Nat)) σ'):(U b (n+4)).C 27 [.ref c,.str old t] σ Q X:=by
 revert h;refine DO ?_;intro j refs c1 c2 c3
 refine AV (mb:=b_Config_remove_section) (Λ:=[(0,.ref c),(36,.str old t)]) rfl rfl rfl rfl ?_
 refine AS (CP (BB (AB (AA rfl) AE) (NB ho (fun y u hy=>?_) fun hy=>by rw[hnear]at hy;exact noT hy)))
 rw[hnear]at hy
 replace hy:=sj hy;subst hy
 refine AS (CG (BC (AS (AC AH (AS (AC CS (GL (j:=j) (vs:=refs.map .ref) (AQ (AA rfl) (BF (AP c1) rfl rfl)) (AP c2) ?_)))))))
 have hjl:=(List.getElem?_eq_some_iff.mp c2).1
 have hcl:=(List.getElem?_eq_some_iff.mp c1).1
 refine a8k (c:=c) (near:=near) (t:=u) (k₀:=σ.length) (m:=0) (isin:=false) (kr:=[]) (kept:=[]) (by lia) (c3.keep fun x hx a ha=>AP ha) trivial (AP c2) app_new (by simpa using hl) e rfl rfl rfl rfl rfl fun τ' Λ' kr' d1 d2 d3 d4 d5 d6=>?_
 refine FL (AC (AA d4) (AC (AA d5) (AI (CQ (d1 _ _ (by lia) (AP c1)) rfl (by simp)) (BA (AC (AA d6) ?_)))))
 rw[Nat.zero_add]
 have hcc:c∉kr':=fun hm=>by
  refine AR ?_<|d3.isInst hm;intro fs e
  rw[d1 c _ (by lia) (AP c1)]at e
  replace e:=sj e;cases e
 refine h1 _ (fun k a hk ha=>BK (d1 k a (by have:=(List.getElem?_eq_some_iff.mp ha).1;lia) (AP ha)) (Ne.symm hk)) ⟨σ.length,kr',AW (d1 _ _ (by lia) (AP c1)),BK d2 (by lia),d3.keep fun x hx a ha=>BK ha (by rintro rfl;exact hcc hx)⟩
end
inductive Row where
 | head (pre br post name:Str)
 | val (text name:Str) (v:Option Str)
 | gap (text:Str)
noncomputable def DT:Row->PV->Prop
 | .head a b c d,v=>∃ t1 t2 t3 t4,v = .tup [.str a t1,.str b t2,.str c t3,.str d t4]
 | .val x n w,v=>∃ t1 t2 u,v = .tup [.str x t1,.str n t2,u]/\VO w u
 | .gap x,v=>∃ t1,v = .tup [.str x t1,.none,.none]
noncomputable def rowText:Row->Str
 | .head a b c _=>a++b++c
 | .val x _ _=>x
 | .gap x=>x
noncomputable abbrev nl:Str:=Str.ofString "\n"
noncomputable def CD:Row->Bool
 | .head a b c d=>decide (a.length<=100)&&(decide (b.length<=100)&&(decide (c.length<=100)&&(decide (d.length<=100)&&(Low (a++b++c)&&Low d))))
 | .val x n v=>decide (x.length<=100)&&(decide (n.length<=100)&&(Low x&&(Low n&&(match v with | none=>true | some y=>Low y))))
 | .gap x=>decide (x.length<=100)&&Low x
noncomputable def written(rows:List Row):List UInt8:=(rows.map fun r=>oct (rowText r++nl)).flatten
section
variable {b:Bool}{n i j k f c:Nat}{T:Tb}{Λ Λ':Loc}{σ σ₀ τ ρ:St}{Q:PV->St->Prop}{X:St->Prop}{R:Fl->Loc->St->Prop}{o r s:List UInt8}{row:Int}
theorem oct_app(x y:Str):oct (x++y)=oct x++oct y:=by
 unfold oct
 rw[show(x++y).cps=x.cps++y.cps from rfl,Array.toList_append,List.map_append]
theorem low_app(x y:Str):Low (x++y)=(Low x&&Low y):=by
 unfold Low
 rw[show(x++y).cps=x.cps++y.cps from rfl,Array.toList_append,List.all_append]
theorem join_list:∀ (l:List Str),(Txt.join E0 l).cps.toList=(l.map fun x=>x.cps.toList).flatten:=by
 intro l
 show(Builtin.Str.glued E0 l).cps.toList=_
 have go:∀ (l:List Str) (a:Array Nat),(l.foldl (fun acc p=>acc++E0.cps++p.cps) a).toList=a.toList++(l.map fun x=>x.cps.toList).flatten:=by
  intro l
  induction l with
  | nil=>intro a;simp
  | cons x l ih =>
   intro a
   rw[List.foldl_cons,ih]
   have:E0.cps = #[]:=rfl
   rw[this]
   simp
 induction l using List.casesOn with
 | nil=>rfl
 | cons x l =>
  unfold Builtin.Str.glued
  simp only[List.drop_succ_cons,List.drop_zero,List.headD_cons]
  rw[go];simp
theorem b2p{l:List Str}(h:(l.map Str.length).sum<=1000000):JoinOk E0 l=true:=by
 unfold JoinOk
 have go:∀ (l:List Str) (a:Nat),l.foldl (fun n x=>n+x.length+E0.length) a=a+(l.map Str.length).sum:=by
  intro l
  induction l with
  | nil=>intro a;simp
  | cons x l ih =>
   intro a
   have e0:E0.length=0:=by decide
   rw[List.foldl_cons,ih,e0,List.map_cons,List.sum_cons];lia
 rw[List.foldl_toArray,go,Nat.zero_add]
 unfold Builtin.Str.tooLong
 rw[Bool.not_eq_true',decide_eq_false_iff_not,sizeLine_eq]
 lia
theorem ND(x:Str):x.length=x.cps.toList.length:=rfl
theorem ZU{r:Row}(h:CD r=true):(rowText r).length<=300:=by
 induction r using Row.casesOn<;>simp only[CD,Bool.and_eq_true,decide_eq_true_eq,rowText,str_len_app]at h ⊢ <;> lia
theorem b2q{r:Row}(h:CD r=true):Low (rowText r)=true:=by
 induction r using Row.casesOn<;>simp only[CD,Bool.and_eq_true,decide_eq_true_eq,rowText]at h ⊢
 ·exact h.2.2.2.2.1
 ·exact h.2.2.1
 ·exact h.2
theorem a4g:nl.length=1:=by decide
theorem b5k{r:Row}{v:PV}{k:Nat}(hr:CD r=true)(hv:DT r v)(hg:get k Λ=some v):∃ t,Ev T (.bin .add (.ite (.cmp .eq (.bi .len [(.var k)]) (.int 4)) (.bin .add (.bin .add (.idx (.var k) (.int 0)) (.idx (.var k) (.int 1))) (.idx (.var k) (.int 2))) (.idx (.var k) (.int 0))) (.str "\n")) Λ σ (.str (rowText r++nl) t):=by
 have hl:=ZU hr
 have hn:=a4g
 induction r using Row.casesOn with
 | head a b' c d =>
  revert hv;refine UR ?_;rintro t1 t2 t3 t4 rfl
  simp only[rowText,str_len_app]at hl
  refine⟨(t1&&t2)&&t3&&true,AT (GB (AF (BR (AB (AA hg) AE) rfl) AH rfl) (AT (AT (BH (AA hg) AH rfl) (BH (AA hg) AH rfl) (add_str (AY ?_))) (BH (AA hg) AH rfl) (add_str (AY ?_)))) AM (add_str (AY ?_))⟩
  all_goals first | (simp only[str_len_app,hn];lia) | exact ar15
 | val x n' w =>
  revert hv;refine DP ?_;rintro t1 t2 u rfl hu
  simp only[rowText]at hl
  exact⟨_,AT (ER (AF (BR (AB (AA hg) AE) rfl) AH rfl) (BH (AA hg) AH rfl)) AM (add_str (AY (by rw[hn];exact ar2)))⟩
 | gap x =>
  revert hv;refine AR ?_;rintro t1 rfl
  simp only[rowText]at hl
  exact⟨_,AT (ER (AF (BR (AB (AA hg) AE) rfl) AH rfl) (BH (AA hg) AH rfl)) AM (add_str (AY (by rw[hn];exact ar2)))⟩
theorem TR:∀ {rows:List Row} {us:List PV},All2 DT rows us->(∀ r∈rows,CD r=true)->∃ ws,Gath (EL T (.bin .add (.ite (.cmp .eq (.bi .len [(.var 17)]) (.int 4)) (.bin .add (.bin .add (.idx (.var 17) (.int 0)) (.idx (.var 17) (.int 1))) (.idx (.var 17) (.int 2))) (.idx (.var 17) (.int 0))) (.str "\n")) [] 17 Λ σ) us ws/\BJ ws=some (rows.map fun r=>rowText r++nl)
 | [],[],_,_=>⟨[],.nil,rfl⟩
 | r::rows,v::us,h,hs=>by
  refine AD ?_<|TR h.2 fun r hr=>hs r (.tail _ hr);intro ws g1 g2
  refine AR ?_<|b5k (T:=T) (σ:=σ) (Λ:=put 17 v Λ) (k:=17) (hs r (.head _)) h.1 AU;intro t e
  exact⟨.str (rowText r++nl) t::ws,.one ⟨trivial,e⟩ g1,NO g2⟩
 | [],_::_,h,_=>h.elim
 | _::_,[],h,_=>h.elim
theorem NE(rows:List Row):oct (Txt.join E0 (rows.map fun r=>rowText r++nl))=written rows:=by
 unfold oct written
 rw[join_list,List.map_flatten,List.map_map,List.map_map]
 rfl
theorem lens{rows:List Row}(hs:∀ r∈rows,CD r=true):((rows.map fun r=>rowText r++nl).map Str.length).sum<=301*rows.length:=by
 induction rows with
 | nil=>simp
 | cons r rows ih =>
  have h1:=ih fun r hr=>hs r (.tail _ hr)
  have h2:=ZU (hs r (.head _))
  have hn:=a4g
  simp only[List.map_cons,List.sum_cons,str_len_app,hn,List.length_cons]at h1 ⊢
  lia
theorem PL{l:List Str}:(Txt.join E0 l).length=(l.map Str.length).sum:=by
 rw[ND,join_list,List.length_flatten,List.map_map]
 rfl
theorem TS{rows:List Row}{us:List PV}(hj:σ[j]? = some (.list us))(hr:All2 DT rows us)(hs:∀ r∈rows,CD r=true)(hl:rows.length<=1000)(h:∀ σ',Ext σ σ'->Q (.bytes (written rows)) σ'):(U b (n+2)).C 44 [.ref j] σ Q X:=by
 refine AV (mb:=b_law_written) (Λ:=[(64,.ref j)]) rfl rfl rfl rfl ?_
 refine AD ?_<|TR (T:=U b (n+1)) (Λ:=BE [] [(64,.ref j)]) (σ:=σ) hr hs;intro ws g1 g2
 have hlen:=lens hs
 have hle:us.length<=1000000:=by rw[← hr.len];exact ar1
 refine BA (CP (BS (DE (AC AM (AI (a:=none) rfl (BS (KU (AA rfl) hj g1 hle (BC ?_))))))))
 refine AI (a:=(.str (Txt.join E0 (rows.map fun r=>rowText r++nl)) false,σ++[.list ws])) ?_ (BC (a8e ?_ ?_ fun σ' e=>?_))
 ·simp only[a3z,AG (app_new (σ:=σ)),g2]
  rw[if_pos ⟨b2p (by lia),AY (by rw[PL];lia)⟩]
 ·unfold Low
  rw[join_list,List.all_eq_true]
  intro x hx
  rw[List.map_map,List.mem_flatten]at hx
  revert hx;refine AD ?_;intro l hl hx
  refine AD ?_<|List.mem_map.mp hl;rintro r hr' rfl
  have h1:Low (rowText r++nl)=true:=by rw[low_app,b2q (hs r hr')];rfl
  unfold Low at h1
  rw[List.all_eq_true]at h1
  exact h1 x hx
 ·show(Txt.join E0 _).length<=_
  rw[PL];lia
 ·rw[NE]
  exact h σ' (Ext.app.trans e)
noncomputable def EW:Str->List Row->List (Str×Option Str)
 | _,[]=>[]
 | _,.head _ _ _ d::rs=>EW d rs
 | sec,.val _ n v::rs=>(sec++Str.ofString "."++n,v)::EW sec rs
 | sec,.gap _::rs=>EW sec rs
theorem a1p{rs:List PV}(hj:σ[j]? = some (.list rs)):∀ {rows:List Row} {us ws:List PV} {acc:List (Str×Option Str)} {sec:Str} {t:Bool} {Λ:Loc},All2 DT rows us->All2 ItV acc ws->(∀ r∈rows,CD r=true)->sec.length<=100->ws.length+rows.length<=100000->get 30 Λ=some (.ref σ.length)->get 9 Λ=some (.str sec t) →
  (∀ ws,All2 ItV (acc++EW sec rows) ws->Q (.ref σ.length) (σ++[.list ws])) →
  turns (DB j rs) (BN (U b n) 17 [.ifS (.cmp .eq (.bi .len [(.var 17)]) (.int 4)) [.asg 9 (.idx (.var 17) (.int 3))] [.ifS (.cmp .isnot (.idx (.var 17) (.int 1)) .none) [.exp (.meth (.var 30) .append [(.tup [(.bin .add (.bin .add (.var 9) (.str ".")) (.idx (.var 17) (.int 1))),(.idx (.var 17) (.int 2))])])] []]] X) us Λ (σ++[.list ws]) (sq (U b n) [.ret (.var 30)] (Ends Q) X):=by
 intro rows
 induction rows with
 | nil =>
  intro l2 ws acc sec t Λ hE ha _ _ _ h30 _ h
  induction l2 using List.casesOn with
  | nil=>exact⟨AG (AP hj),BA (AC (AA h30) (h ws (by simpa [EW] using ha)))⟩
  | cons _ _=>exact hE.elim
 | cons r rows ih =>
  intro l2 ws acc sec t Λ hr ha hs hsec hl h30 h9 h
  induction l2 using List.casesOn with
  | nil=>exact hr.elim
  | cons v us =>
  refine turn (AG (AP hj)) ?_
  have g17:get 17 (put 17 v Λ)=some v:=AU
  have g30:get 30 (put 17 v Λ)=some (.ref σ.length):=AL rfl h30
  have g9:get 9 (put 17 v Λ)=some (.str sec t):=AL rfl h9
  have hs1:=hs r (.head _)
  have hs2:∀ r∈rows,CD r=true:=fun r hr=>hs r (.tail _ hr)
  simp only[List.length_cons]at hl
  induction r using Row.casesOn with
  | head a b' c d =>
   revert hr;refine oA2 ?_;rintro⟨t1,t2,t3,t4,rfl⟩ hr2
   refine BV (AF (BR (AB (AA g17) AE) rfl) AH rfl) (AS (AC (BH (AA g17) AH rfl) (BD (AX ?_))))
   simp only[CD,Bool.and_eq_true,decide_eq_true_eq]at hs1
   exact ih hr2 ha hs2 hs1.2.2.2.1 (by exact ar6) (AL rfl g30) AU h
  | val x n' w =>
   revert hr;refine oA2 ?_;rintro⟨t1,t2,u,rfl,hu⟩ hr2
   simp only[CD,Bool.and_eq_true,decide_eq_true_eq]at hs1
   have hd:(Str.ofString ".").length=1:=by decide
   refine FY (AF (BR (AB (AA g17) AE) rfl) AH rfl) (BV (AF (BH (AA g17) AH rfl) BI rfl) ?_)
   refine GC (DE (AC (AA g30) (AI (EK app_new) (BS (AC (IC (AB (AT (AT (AA g9) AM (add_str (AY (by rw[hd];exact ar2)))) (BH (AA g17) AH rfl) (add_str (AY (by rw[str_len_app,hd];lia)))) (AB (BH (AA g17) AH rfl) AE))) (BC ?_))))))
   refine AI (a:=(.none,σ++[AO.list (ws++[.tup [.str (sec++Str.ofString "."++n') (t&&true&&t2),u]])])) ?_ (BD (BD (AX ?_)))
   ·have hf:fits ws.length=true:=AY (by exact ar15)
    simp only[mt_app,AG (app_new (σ:=σ)),hf,if_true,KS]
   ·refine ih hr2 (acc:=acc++[(sec++Str.ofString "."++n',w)]) (All2.app ⟨_,u,rfl,hu⟩ ha) hs2 hsec (by simp;exact ar7) g30 g9 fun ws hw=>h ws ?_
    rw[EW]
    rw[List.append_assoc]at hw
    exact hw
  | gap x =>
   revert hr;refine oA2 ?_;rintro⟨t1,rfl⟩ hr2
   refine FY (AF (BR (AB (AA g17) AE) rfl) AH rfl) (BL (AF (BH (AA g17) AH rfl) BI rfl) (BD (AX ?_)))
   exact ih hr2 ha hs2 hsec (by exact ar6) g30 g9 h
theorem a1q{rows:List Row}{us:List PV}(hj:σ[j]? = some (.list us))(hr:All2 DT rows us)(hs:∀ r∈rows,CD r=true)(hl:rows.length<=1000)(h:∀ ws,All2 ItV (EW E0 rows) ws->Q (.ref σ.length) (σ++[.list ws])):(U b (n+1)).C 45 [.ref j] σ Q X:=by
 refine AV (mb:=b_law_items) (Λ:=[(64,.ref j)]) rfl rfl rfl rfl ?_
 refine KQ (BS (CG (BC (BS (AC AM (BC ?_))))))
 refine GL (j:=j) (vs:=us) (AA rfl) (AP hj) ?_
 exact a1p hj hr (acc:=[]) (ws:=[]) trivial hs (by decide) (by simp;exact ar1) rfl rfl h
end
noncomputable def Flat:PyData->Bool
 | .none=>true
 | .bool _=>true
 | .str x=>PyData.strOk x
 | _=>false
noncomputable def Flat2:PyData->Bool
 | .tuple l=>l.all Flat
 | .none=>true
 | .bool _=>true
 | .str x=>PyData.strOk x
 | _=>false
theorem a4h{d:PyData}(h:Flat d=true):PyData.eqv d d=true/\PyData.canLay0 d=true/\PyData.depth d=0:=by
 induction d using PyData.casesOn with
 | none=>simp[PyData.eqv,PyData.canLay0,PyData.depth]
 | bool b=>simp[PyData.eqv,PyData.canLay0,PyData.depth]
 | str x =>
  have h:PyData.strOk x=true:=h
  simp[PyData.eqv,PyData.canLay0,PyData.depth,h]
 | int _=>exact noF h
 | list _=>exact noF h
 | dict _=>exact noF h
 | tuple _=>exact noF h
theorem RG:∀ {l:List PyData},l.all Flat=true->PyData.eqvAll l l=true/\PyData.canLayAll0 l=true/\PyData.depthAll l=0
 | [],_=>by simp[PyData.eqvAll,PyData.canLayAll0,PyData.depthAll]
 | d::l,h=>by
  rw[List.all_cons,Bool.and_eq_true]at h
  refine oA3 ?_<|a4h h.1;intro a b c
  refine oA3 ?_<|RG h.2;intro a' b' c'
  rw[PyData.eqvAll,PyData.canLayAll0,PyData.depthAll,a,a',b,b',c,c']
  exact⟨rfl,rfl,rfl⟩
theorem a1r{d:PyData}(h:Flat2 d=true):PyData.eqv d d=true/\PyData.canLay0 d=true/\PyData.depth d<=1:=by
 induction d using PyData.casesOn with
 | tuple l =>
  refine oA3 ?_<|RG (l:=l) h;intro a b c
  rw[PyData.eqv,PyData.canLay0,PyData.depth,c]
  exact⟨a,b,Nat.le_refl _⟩
 | none=>simp[PyData.eqv,PyData.canLay0,PyData.depth]
 | bool b=>simp[PyData.eqv,PyData.canLay0,PyData.depth]
 | str x =>
  have h:PyData.strOk x=true:=h
  simp[PyData.eqv,PyData.canLay0,PyData.depth,h]
 | int _=>exact noF h
 | list _=>exact noF h
 | dict _=>exact noF h
theorem KI:∀ {l:List PyData},l.all Flat2=true->PyData.eqvAll l l=true/\PyData.canLayAll0 l=true/\PyData.depthAll l<=1
 | [],_=>by simp[PyData.eqvAll,PyData.canLayAll0,PyData.depthAll]
 | d::l,h=>by
  rw[List.all_cons,Bool.and_eq_true]at h
  refine oA3 ?_<|a1r h.1;intro a b c
  refine oA3 ?_<|KI h.2;intro a' b' c'
  rw[PyData.eqvAll,PyData.canLayAll0,PyData.depthAll,a,a',b,b']
  exact⟨rfl,rfl,by lia⟩
theorem shaped2{l:List PyData}(h:l.all Flat2=true):SeqAt.shaped (.list l)=true:=by
 refine oA3 ?_<|KI h;intro _ h1 h2
 unfold SeqAt.shaped
 rw[Bool.and_eq_true,decide_eq_true_iff,PyData.canLay0,PyData.depth]
 exact⟨h1,by exact ar2⟩
theorem GW{x:Str}(h:Low x=true):PyData.strOk x=true:=by
 unfold PyData.strOk
 unfold Low at h
 rw[← Array.all_toList,List.all_eq_true]
 rw[List.all_eq_true]at h
 intro c hc
 have:=h c hc
 simp only[decide_eq_true_eq]at this ⊢
 exact ar3
section
variable {b:Bool}{n i j k f c:Nat}{T:Tb}{Λ Λ':Loc}{σ σ₀ τ ρ:St}{Q:PV->St->Prop}{X:St->Prop}{R:Fl->Loc->St->Prop}{o r s:List UInt8}{row:Int}
theorem NF{vs us:List PV}{l:List PyData}(hi:σ[i]? = some (.list vs))(hj:σ[j]? = some (.list us))(h1:datas vs=some l)(h2:datas us=some l)(hf:l.all Flat2=true)(hl:vs.length=us.length):eqv σ (.ref i) (.ref j)=some true:=by
 simp only[eq_ref,AG hi,AG hj,h1,h2]
 rw[if_neg (by simpa using hl),shaped2 hf,(KI hf).1]
 rfl
theorem RH{us:List PV}{l:List Str}(h:BJ us=some l):datas us=some (l.map .str):=by
 induction us generalizing l with
 | nil=>replace h:=sj h;subst h;rfl
 | cons u us ih =>
  exact OT (C:=fun u l=>datas (u::us)=some (l.map .str)) h fun y o m e=>LE rfl (ih e)
theorem a8m{us ws:List PV}{l:List Str}(hi:σ[i]? = some (.list us))(hj:σ[j]? = some (.list ws))(h1:BJ us=some l)(h2:BJ ws=some l)(hl:∀ x∈l,Low x=true):eqv σ (.ref i) (.ref j)=some true:=by
 refine NF hi hj (RH h1) (RH h2) ?_ ?_
 ·rw[List.all_map,List.all_eq_true]
  intro x hx
  exact GW (hl x hx)
 ·rw[RE h1,RE h2]
noncomputable def itD(it:Str×Option Str):PyData:=.tuple [.str it.1,match it.2 with | none=>.none | some x=>.str x]
noncomputable def a8n:Option Str->Bool
 | none=>true
 | some y=>Low y
theorem TT{us:List PV}{l:List (Str×Option Str)}(h:All2 ItV l us):datas us=some (l.map itD):=by
 induction l generalizing us with
 | nil =>
  induction us using List.casesOn with
  | nil=>rfl
  | cons _ _=>exact h.elim
 | cons it l ih =>
  induction us using List.casesOn with
  | nil=>exact h.elim
  | cons u us =>
   revert h;refine oA2 ?_;rintro⟨t,v,rfl,hv⟩ h2
   obtain⟨a,o⟩:=it
   induction o using Option.casesOn with
   | none =>
    obtain rfl:v = .none:=hv
    exact LE rfl (ih h2)
   | some y =>
    revert hv;refine AR ?_;rintro t' rfl
    exact LE rfl (ih h2)
theorem b2r{us ws:List PV}{l:List (Str×Option Str)}(hi:σ[i]? = some (.list us))(hj:σ[j]? = some (.list ws))(h1:All2 ItV l us)(h2:All2 ItV l ws)(hl:∀ x∈l,Low x.1=true/\a8n x.2=true):eqv σ (.ref i) (.ref j)=some true:=by
 refine NF hi hj (TT h1) (TT h2) ?_ ?_
 ·rw[List.all_map,List.all_eq_true]
  intro x hx
  refine oA2 ?_<|hl x hx;intro a b
  obtain⟨y,o⟩:=x
  induction o using Option.casesOn with
  | none=>show(PyData.strOk _&&(true&&true))=true;rw[GW a];rfl
  | some z=>show(PyData.strOk _&&(PyData.strOk _&&true))=true;rw[GW a,GW (show Low z=true from b)];rfl
 ·rw[← h1.len,← h2.len]
noncomputable def EO(acc:List Str):List Row->List Str
 | []=>acc
 | .head _ _ _ d::rs=>EO (if d∉acc then acc++[d]else acc) rs
 | .val _ _ _::rs=>EO acc rs
 | .gap _::rs=>EO acc rs
theorem a4i{rs:List PV}{r':List MS}(hj:σ[j]? = some (.list rs)):∀ {rows:List Row} {us ws:List PV} {acc:List Str} {Λ:Loc},All2 DT rows us->BJ ws=some acc->ws.length+rows.length<=100000->get 68 Λ=some (.ref σ.length) →
  (∀ ws Λ',BJ ws=some (EO acc rows)->SameBut 17 Λ Λ'->AN (U b n) r' Λ' (σ++[.list ws]) R X) →
  turns (DB j rs) (BN (U b n) 17 [.ifS (.and (.cmp .eq (.bi .len [(.var 17)]) (.int 4)) (.cmp .notin (.idx (.var 17) (.int 3)) (.var 68))) [.exp (.meth (.var 68) .append [(.idx (.var 17) (.int 3))])] []] X) us Λ (σ++[.list ws]) (sq (U b n) r' R X):=by
 intro rows
 induction rows with
 | nil =>
  intro l2 ws acc Λ hE ha _ h68 h
  induction l2 using List.casesOn with
  | nil=>exact⟨AG (AP hj),h ws Λ ha .refl⟩
  | cons _ _=>exact hE.elim
 | cons r rows ih =>
  intro l2 ws acc Λ hr ha hl h68 h
  induction l2 using List.casesOn with
  | nil=>exact hr.elim
  | cons v us =>
  refine turn (AG (AP hj)) ?_
  have g17:get 17 (put 17 v Λ)=some v:=AU
  have g68:get 68 (put 17 v Λ)=some (.ref σ.length):=AL rfl h68
  simp only[List.length_cons]at hl
  induction r using Row.casesOn with
  | head a b' c d =>
   revert hr;refine oA2 ?_;rintro⟨t1,t2,t3,t4,rfl⟩ hr2
   have hin:cmp (σ++[AO.list ws]) .notin (.str d t4) (.ref σ.length)=some (!acc.contains d):=by
    simp only[a1h,cm_ni,in_ref,AG (app_new (σ:=σ)),ha];rfl
   by_cases hm:d∈acc
   ·refine BL (MZ (AF (BR (AB (AA g17) AE) rfl) AH rfl) (AF (BH (AA g17) AH rfl) (AA g68) (by rw[hin];simp[hm]))) (AX ?_)
    refine ih hr2 ha (by exact ar6) g68 fun ws Λ' h1 h2=>h ws Λ' ?_ (SameBut.put.trans h2)
    rw[EO]
    rw[if_neg (by simpa using hm)];exact h1
   ·refine BV (JJ (AF (BR (AB (AA g17) AE) rfl) AH rfl) (AF (BH (AA g17) AH rfl) (AA g68) (by rw[hin];simp[hm]))) ?_
    refine GC (DE (AC (AA g68) (AI (EK app_new) (BS (AC (BH (AA g17) AH rfl) (BC ?_))))))
    have hf:fits ws.length=true:=AY (by exact ar15)
    refine AI (a:=(.none,σ++[AO.list (ws++[.str d t4])])) ?_ (BD (AX ?_))
    ·simp only[mt_app,AG (app_new (σ:=σ)),hf,if_true,KS]
    ·refine ih hr2 (RD ha) (by simp;exact ar7) g68 fun ws Λ' h1 h2=>h ws Λ' ?_ (SameBut.put.trans h2)
     rw[EO]
     rw[if_pos hm];exact h1
  | val x n' w =>
   revert hr;refine oA2 ?_;rintro⟨t1,t2,u,rfl,hu⟩ hr2
   refine BL (HW (AF (BR (AB (AA g17) AE) rfl) AH rfl)) (AX ?_)
   exact ih hr2 ha (by exact ar6) g68 fun ws Λ' h1 h2=>h ws Λ' h1 (SameBut.put.trans h2)
  | gap x =>
   revert hr;refine oA2 ?_;rintro⟨t1,rfl⟩ hr2
   refine BL (HW (AF (BR (AB (AA g17) AE) rfl) AH rfl)) (AX ?_)
   exact ih hr2 ha (by exact ar6) g68 fun ws Λ' h1 h2=>h ws Λ' h1 (SameBut.put.trans h2)
structure Like(ps:List Pc)(rows:List Row):Prop where
 oct:octP ps=written rows
 sec:GF [] ps=EO [] rows
 its:CT ps=EW E0 rows
 small:∀ p∈ps,Sm p
 few:ps.length<=100000
structure RowsOk(rows:List Row):Prop where
 sm:∀ r∈rows,CD r=true
 few:rows.length<=1000
 rd:RdB (written rows)
 secs:∀ x∈EO [] rows,Low x=true
 its:∀ x∈EW E0 rows,Low x.1=true/\a8n x.2=true
theorem OO{rows:List Row}(hs:∀ r∈rows,CD r=true):(written rows).length<=301*rows.length:=by
 have:=lens hs
 rw[← NE]
 show((Txt.join E0 _).cps.toList.map _).length<=_
 rw[List.length_map,← ND,PL];exact this
theorem GX{A B:Prop}(h:B):opt (truth (.bool false)) fun t=>if t=true then A else B:=h
theorem GY{A B:Prop}(h:A):opt (truth (.bool true)) fun t=>if t=true then A else B:=h
theorem OC{elt tgt it cond cap}(h:wpE T it Λ σ (fun v σ=>opt (items σ v) fun r =>
   gathers r.2 (fun x σ K=>US T cond (put tgt x (BE cap Λ)) σ (fun t σ=>if t=true then wpE T elt (put tgt x (BE cap Λ)) σ (fun u σ=>K (some u) σ) (fun _=>False)else K none σ) (fun _=>False))
    r.1 [] σ fun vs σ=>Q (.ref σ.length) (σ++[.list vs])) X):wpE T (.comp elt tgt it cond cap) Λ σ Q X:=h
theorem ZV:∀ {us:List PV} {l:List (Str×Option Str)},All2 ItV l us->Gath (EL T (.bi .tuple [(.var 6)]) [] 6 Λ σ) us us
 | [],[],_=>.nil
 | u::us,it::l,h=>by
  revert h;refine oA2 ?_;rintro⟨t,v,rfl,hv⟩ h2
  exact .one ⟨trivial,BR (AB (AA AU) AE) rfl⟩ (ZV h2)
 | [],_::_,h=>h.elim
 | _::_,[],h=>h.elim
theorem b5l{rows:List Row}{us:List PV}{ps res:List Pc}{m:Nat}(hc:CfgAt σ c ps)(hj:σ[j]? = some (.list us))(hr:All2 DT rows us)(L:Like ps rows)(O:RowsOk rows)(hm:m<=100000)(e:rdL m none (written rows) (written rows) []=some res)(L':Like res rows)
  (h:∀ σ',Ext σ σ'->Q (.bool true) σ'):(U b (n+9)).C 47 [.ref c,.ref j] σ Q X:=by
 have hwl:=OO O.sm
 have hfew:=O.few
 refine AV (mb:=b_law_same) (Λ:=[(67,.ref c),(64,.ref j)]) rfl rfl rfl rfl ?_
 refine AS (CG (BC (GL (j:=j) (vs:=us) (AA rfl) (AP hj) ?_)))
 refine a4i hj hr (ws:=[]) (acc:=[]) rfl (by simp;exact ar1) rfl fun ws Λ₁ hws s1=>?_
 have g64:get 64 Λ₁=some (.ref j):=s1 64 (by decide)
 have g67:get 67 Λ₁=some (.ref c):=s1 67 (by decide)
 have g68:get 68 Λ₁=some (.ref σ.length):=s1 68 (by decide)
 have e1:Ext σ (σ++[AO.list ws]):=.app
 refine AS (CP (BB (AB (AA g64) AE) (TS (n:=n+6) (e1 _ _ hj) hr O.sm O.few fun σ₂ e2=>?_)))
 have h64:get 64 (put 15 (PV.bytes (written rows)) Λ₁)=some (.ref j):=AL rfl g64
 have h67:get 67 (put 15 (PV.bytes (written rows)) Λ₁)=some (.ref c):=AL rfl g67
 have h68:get 68 (put 15 (PV.bytes (written rows)) Λ₁)=some (.ref σ.length):=AL rfl g68
 have h15:get 15 (put 15 (PV.bytes (written rows)) Λ₁)=some (.bytes (written rows)):=AU
 revert h64 h67 h68 h15
 generalize put 15 (PV.bytes (written rows)) Λ₁=Λ₂
 intro h64 h67 h68 h15
 have cbeq:∀ {τ:St},cmp τ .ne (.bytes (octP ps)) (.bytes (written rows))=some false:=fun{τ}=>by
  rw[L.oct]
  show some (!((written rows)==(written rows)))=_
  rw[beq_self_eq_true];rfl
 have hol:(octP ps).length<=1000000:=by rw[L.oct];lia
 have E2:=e1.trans e2
 refine DO ?_<|id hc;intro jj refs c1 c2 c3
 refine MV (a7s (FS (EC (AA h67) (BO (E2 _ _ c1) rfl rfl) (BC (WW (n:=n+7) (hc.ext E2) (by have:=L.few;exact ar1) hol fun σ₃ e3=>AC (AA h15) (AI cbeq ?_))))))
 show wpE _ _ _ _ _ _
 have E3:=E2.trans e3
 refine FS (a1g (BS (EC (AA h67) (BO (E3 _ _ c1) rfl rfl) (BC (b5h (n:=n+7) (hc.ext E3) (by have:=L.few;exact ar1) fun ss hss=>BC ?_)))))
 refine AI (a:=(.ref (σ₃++[AO.list ss]).length,σ₃++[AO.list ss]++[AO.list ss])) ?_ ?_
 ·simp only[b4u,AG (app_new (σ:=σ₃))]
 have E4:Ext σ₃ (σ₃++[AO.list ss]++[AO.list ss]):=Ext.app.trans .app
 have hsec:eqv (σ₃++[AO.list ss]++[AO.list ss]) (.ref (σ₃++[AO.list ss]).length) (.ref σ.length)=some true:=by
  refine a8m app_new ((e2.trans (e3.trans E4)) _ _ app_new) hss ?_ (by rw[L.sec];exact O.secs)
  rw[L.sec];exact hws
 refine AC (AA h68) (AI (a:=false) (by simp only[cm_ne,hsec];rfl) ?_)
 refine GX (BD (BA (NW (FS ?_))))
 revert E4
 generalize σ₃++[AO.list ss]++[AO.list ss]=σ₄
 intro E4
 have E5:=E3.trans E4
 -- the items
 have comp:∀ {K:PV->St->Prop} {X:St->Prop},(∀ τ it k,Ext σ₄ τ->τ[k]? = some (.list it)->All2 ItV (CT ps) it->K (.ref k) τ)->wpE (U b (n+8)) (.comp (.bi .tuple [(.var 6)]) 6 (.meth (.var 67) (.own 69) []) [] []) Λ₂ σ₄ K X:=fun{K X} hK=>by
  refine OC (EC (AA h67) (BO (E5 _ _ c1) rfl rfl) (BC (b2o (n:=n+7) (hc.ext E5) (by have:=L.few;exact ar1) L.small fun it hit=>?_)))
  refine AI (a:=(it,fun τ=>AK τ σ₄.length=some it)) ?_ ?_
  ·simp only[items,AG (app_new (σ:=σ₄))]
  ·refine GT (AG app_new) (fun x u hp K hK=>GU hp hK) (acc:=[]) (ZV hit) ?_ ?_
   ·have h1:=hit.len
    have h2:(CT ps).length<=ps.length:=by unfold CT;rw[List.length_map];exact List.length_filter_le _ _
    have h3:=L.few
    exact AY (by show([]++it).length<=_;rw[List.nil_append];lia)
   ·exact hK _ it _ (Ext.app.trans .app) app_new hit
 refine comp fun τ it k e6 hk hit=>?_
 have E6:=E5.trans e6
 refine CP (BB (AB (AA h64) AE) (a1q (n:=n+7) (E6 _ _ hj) hr O.sm O.few fun ws2 hw2=>?_))
 have E7:=E6.trans (Ext.app (x:=[AO.list ws2]))
 have hits:eqv (τ++[AO.list ws2]) (.ref k) (.ref τ.length)=some true:=b2r (AP hk) app_new (l:=EW E0 rows) (L.its▸hit) hw2 O.its
 refine AI (a:=true) hits ?_
 show wpE _ _ _ _ _ _
 refine FS (DE (NX (BB (AB (AA h15) AE) ?_)))
 rw[NV]
 refine b0g (n:=n) (c:=(τ++[AO.list ws2]).length) O.rd app_new hm e fun σ₈ k8 hc8=>⟨rfl,?_⟩
 have E8:Ext (τ++[AO.list ws2]) σ₈:=fun k a hk=>k8 k a (by have:=(List.getElem?_eq_some_iff.mp hk).1;lia) (AP hk)
 obtain⟨j8,refs8,d1,d2,d3,d4⟩:=id hc8
 have hol':(octP res).length<=1000000:=by rw[L'.oct];lia
 refine AI (BO d1 rfl rfl) (BC (WW (n:=n+7) hc8.at (by have:=L'.few;exact ar1) hol' fun σ₉ e9=>AC (AA h15) (AI (a:=true) ?_ ?_)))
 ·rw[L'.oct]
  show some ((written rows)==(written rows))=_
  rw[beq_self_eq_true]
 ·exact h _ (E7.trans (E8.trans e9))
end
theorem SN(a r:List UInt8):CW (a++r) r=a:=by
 unfold CW
 rw[List.length_append,Nat.add_sub_cancel,List.take_left]
theorem GO{m sec s c r ps}:rdL (m+1) sec s (c::r) ps =
  if c=10 then rdL m sec r r (EU ps (gapP (CW s r)))
  else if c=32\/c=9\/c=13 then rdL m sec s r ps
  else if c=35\/c=59 then rdL m sec s (skip ne10 (c::r)) ps
  else if c=91 then(match KF 1000 r E0 with
   | some (h,r')=>rdL m (some h) r' r' (EU ps ⟨Str.ofString "section",CW s r',h,E0,none,E0⟩)
   | none=>none)
  else if FV (c.toNat:Int)=true then(match sec with
   | some x=>(match KE 1000 (c::r) E0 with
    | some (y,r₁)=>(match val r₁ with
     | some (v,r₂)=>if fits y.length=true then rdL m sec r₂ r₂ (EU ps ⟨Str.ofString "value",CW s r₂,x,Txt.lower y,v,y⟩)else none
     | none=>none)
    | none=>none)
   | none=>none)
  else none:=rfl
theorem b8m{m sec s r ps}:rdL (m+1) sec s (10::r) ps=rdL m sec r r (EU ps (gapP (CW s r))):=by
 rw[GO,if_pos rfl]
theorem UL{m sec s r ps}{c:UInt8}(h:c=32\/c=9):rdL (m+1) sec s (c::r) ps=rdL m sec s r ps:=by
 rcases h with rfl | rfl
 ·rw[GO,if_neg (by decide),if_pos (by decide)]
 ·rw[GO,if_neg (by decide),if_pos (by decide)]
theorem a1s{m sec s r ps}{c:UInt8}(h:c=35\/c=59):rdL (m+1) sec s (c::r) ps=rdL m sec s (skip ne10 (c::r)) ps:=by
 rcases h with rfl | rfl
 ·rw[GO,if_neg (by decide),if_neg (by decide),if_pos (by decide)]
 ·rw[GO,if_neg (by decide),if_neg (by decide),if_pos (by decide)]
theorem b8n{m sec s r r' ps h}(e:KF 1000 r E0=some (h,r')):rdL (m+1) sec s (91::r) ps=rdL m (some h) r' r' (EU ps ⟨Str.ofString "section",CW s r',h,E0,none,E0⟩):=by
 rw[GO,if_neg (by decide),if_neg (by decide),if_neg (by decide),if_pos rfl,e]
theorem b5m{m x s r r₁ r₂ ps y v}{c:UInt8}(hc:FV (c.toNat:Int)=true)(hn:c≠10/\¬ (c=32\/c=9\/c=13)/\¬ (c=35\/c=59)/\c≠91)(e:KE 1000 (c::r) E0=some (y,r₁))(e':val r₁=some (v,r₂))(hf:fits y.length=true) :
  rdL (m+1) (some x) s (c::r) ps=rdL m (some x) r₂ r₂ (EU ps ⟨Str.ofString "value",CW s r₂,x,Txt.lower y,v,y⟩):=by
 rw[GO,if_neg hn.1,if_neg hn.2.1,if_neg hn.2.2.1,if_neg hn.2.2.2,if_pos hc]
 simp only[e,e',if_pos hf]
noncomputable def rowPcs(sec:Str):Row->List Pc
 | .head a b c d=>[⟨Str.ofString "section",oct a++oct b,d,E0,none,E0⟩,gapP (oct c++[10])]
 | .val x n v=>[⟨Str.ofString "value",oct x++[10],sec,n,v,n⟩]
 | .gap x=>[gapP (oct x++[10])]
noncomputable def KY(sec:Str):Row->Str
 | .head _ _ _ d=>d
 | .val _ _ _=>sec
 | .gap _=>sec
noncomputable def LU(b d:Str):Prop:=∃ tl,oct b=91::tl/\∀ r,KF 1000 (tl++r) E0=some (d,r)
noncomputable def OD(a:Str):Prop:=∃ k,k<=5/\∀ m sec s r ps,rdL (m+k) sec s (oct a++r) ps=rdL m sec s r ps
noncomputable def IF(c:Str):Prop:=∃ k,k<=5/\∀ m sec r ps,rdL (m+k) sec (oct c++10::r) (oct c++10::r) ps=rdL m sec r r (ps++[gapP (oct c++[10])])
noncomputable def Reads1(r:Row):Prop:=∃ k,k<=20/\∀ m sec x rest ps,((∀ a b c d,r≠.head a b c d)->sec=some x)->rdL (m+k) sec (oct (rowText r++nl)++rest) (oct (rowText r++nl)++rest) ps=rdL m (some (KY x r)) rest rest (ps++rowPcs x r)
theorem oct_nl:oct nl=[10]:=by decide +kernel
theorem FG{a b c d:Str}(ha:OD a)(hb:LU b d)(hc:IF c):Reads1 (.head a b c d):=by
 revert ha;refine AD ?_;intro k1 l1 ha
 revert hb;refine AD ?_;intro tl e1 hb
 revert hc;refine AD ?_;intro k3 l3 hc
 refine⟨k3+1+k1,by lia,fun m sec x rest ps _=>?_⟩
 have e:oct (rowText (.head a b c d)++nl)++rest=oct a++(91::(tl++(oct c++10::rest))):=by
  simp only[rowText,oct_app,oct_nl,e1,List.append_assoc,List.cons_append,List.nil_append]
 rw[e,show m+(k3+1+k1)=(m+k3+1)+k1 from by lia,ha,b8n (hb _)]
 have e3:CW (oct a++91::(tl++(oct c++10::rest))) (oct c++10::rest)=oct a++oct b:=by
  rw[e1,show oct a++91::(tl++(oct c++10::rest))=(oct a++91::tl)++(oct c++10::rest) from by simp,SN]
 rw[e3]
 have e4:EU ps ⟨Str.ofString "section",oct a++oct b,d,E0,none,E0⟩=ps++[⟨Str.ofString "section",oct a++oct b,d,E0,none,E0⟩]:=by
  unfold EU
  rw[if_neg (by rw[e1];simp)]
 rw[e4,hc,List.append_assoc]
 rfl
theorem OE{c:Str}{k:Nat}(hk:k<=4)(h:∀ m sec s r ps,rdL (m+k) sec s (oct c++10::r) ps=rdL m sec s (10::r) ps):IF c:=by
 refine⟨k+1,by exact ar2,fun m sec r ps=>?_⟩
 rw[show m+(k+1)=(m+1)+k from by lia,h,b8m]
 rw[show oct c++10::r=(oct c++[10])++r from by simp,SN]
 unfold EU
 rw[if_neg (by simp[gapP])]
theorem pre1:OD (Str.ofString ""):=⟨0,by decide,fun m sec s r ps=>rfl⟩
theorem pre2:OD (Str.ofString "  "):=⟨2,by decide,fun m sec s r ps=>by
 rw[show oct (Str.ofString "  ")=[32,32] from by decide +kernel]
 exact(UL (.inl rfl)).trans (UL (.inl rfl))⟩
theorem pre3:OD (Str.ofString "\t"):=⟨1,by decide,fun m sec s r ps=>by
 rw[show oct (Str.ofString "\t")=[9] from by decide +kernel]
 exact UL (.inr rfl)⟩
theorem post1:IF (Str.ofString ""):=OE (k:=0) (by decide) fun m sec s r ps=>rfl
theorem post2:IF (Str.ofString " ; x"):=OE (k:=2) (by decide) fun m sec s r ps=>by
 rw[show oct (Str.ofString " ; x")=[32,59,32,120] from by decide +kernel]
 exact(UL (.inl rfl)).trans ((a1s (.inr rfl)).trans rfl)
theorem post3:IF (Str.ofString "# y"):=OE (k:=1) (by decide) fun m sec s r ps=>by
 rw[show oct (Str.ofString "# y")=[35,32,121] from by decide +kernel]
 exact(a1s (.inl rfl)).trans rfl
theorem br1:LU (Str.ofString "[core]") (Str.ofString "core"):=⟨[99,111,114,101,93],by decide +kernel,fun r=>by kernel_rfl⟩
theorem br2:LU (Str.ofString "[CORE]") (Str.ofString "core"):=⟨[67,79,82,69,93],by decide +kernel,fun r=>by kernel_rfl⟩
theorem br3:LU (Str.ofString "[a \"S q\"]") (Str.ofString "a.S q"):=⟨[97,32,34,83,32,113,34,93],by decide +kernel,fun r=>by kernel_rfl⟩
theorem br4:LU (Str.ofString "[a.low]") (Str.ofString "a.low"):=⟨[97,46,108,111,119,93],by decide +kernel,fun r=>by kernel_rfl⟩
theorem br5:LU (Str.ofString "[A]") (Str.ofString "a"):=⟨[65,93],by decide +kernel,fun r=>by kernel_rfl⟩
theorem br6:LU (Str.ofString "[b]") (Str.ofString "b"):=⟨[98,93],by decide +kernel,fun r=>by kernel_rfl⟩
theorem br7:LU (Str.ofString "[b \"T \\\"u\"]") (Str.ofString "b.T \"u"):=⟨[98,32,34,84,32,92,34,117,34,93],by decide +kernel,fun r=>by kernel_rfl⟩
theorem TU{c:Str}(hc:IF c):Reads1 (.gap c):=by
 revert hc;refine AD ?_;intro k l hc
 refine⟨k,by exact ar1,fun m sec x rest ps hs=>?_⟩
 have hsec:=hs (fun _ _ _ _ e=>by cases e)
 rw[show oct (rowText (.gap c)++nl)++rest=oct c++10::rest from by simp only[rowText,oct_app,oct_nl,List.append_assoc,List.cons_append,List.nil_append],hc,hsec]
 rfl
theorem post4:IF (Str.ofString "# hi"):=OE (k:=1) (by decide) fun m sec s r ps=>by
 rw[show oct (Str.ofString "# hi")=[35,32,104,105] from by decide +kernel]
 exact(a1s (.inl rfl)).trans rfl
theorem JX{x n pre:Str}{v:Option Str}{c:UInt8}{tl:List UInt8}{r₁:List UInt8->List UInt8}(hp:OD pre)(hx:oct x=oct pre++c::tl)(hc:FV (c.toNat:Int)=true)(hn:c≠10/\¬ (c=32\/c=9\/c=13)/\¬ (c=35\/c=59)/\c≠91)
  (e:∀ r,KE 1000 (c::(tl++10::r)) E0=some (n,r₁ r)) (e':∀ r,val (r₁ r)=some (v,r)) (hf:fits n.length=true) (hlow:Txt.lower n=n):Reads1 (.val x n v):=by
 revert hp;refine AD ?_;intro k l hp
 refine⟨1+k,by lia,fun m sec y rest ps hs=>?_⟩
 have hsec:=hs (fun _ _ _ _ e=>by cases e)
 subst hsec
 have e1:oct (rowText (.val x n v)++nl)++rest=oct pre++(c::(tl++10::rest)):=by
  simp only[rowText,oct_app,oct_nl,hx,List.append_assoc,List.cons_append,List.nil_append]
 rw[e1,show m+(1+k)=(m+1)+k from by lia,hp,b5m hc hn (e rest) (e' rest) hf,hlow]
 have e2:CW (oct pre++c::(tl++10::rest)) rest=oct x++[10]:=by
  rw[show oct pre++c::(tl++10::rest)=(oct x++[10])++rest from by rw[hx];simp,SN]
 rw[e2]
 have e4:EU ps ⟨Str.ofString "value",oct x++[10],y,n,v,n⟩=ps++[⟨Str.ofString "value",oct x++[10],y,n,v,n⟩]:=by
  unfold EU
  rw[if_neg (by simp)]
 rw[e4]
 rfl
theorem row1:Reads1 (.val (Str.ofString "\tname = v") (Str.ofString "name") (some (Str.ofString "v"))) :=
 JX (pre:=Str.ofString "\t") (c:=110) (tl:=[97,109,101,32,61,32,118]) (r₁:=fun r=>[32,61,32,118,10]++r) pre3 (by decide +kernel) (by decide) (by decide) (fun r=>by kernel_rfl) (fun r=>by kernel_rfl) (by decide) (by decide +kernel)
theorem row2:Reads1 (.val (Str.ofString "x = \"a;b\" # r") (Str.ofString "x") (some (Str.ofString "a;b"))) :=
 JX (pre:=Str.ofString "") (c:=120) (tl:=[32,61,32,34,97,59,98,34,32,35,32,114]) (r₁:=fun r=>[32,61,32,34,97,59,98,34,32,35,32,114,10]++r) pre1 (by decide +kernel) (by decide) (by decide) (fun r=>by kernel_rfl) (fun r=>by kernel_rfl) (by decide) (by decide +kernel)
theorem row3:Reads1 (.val (Str.ofString "  name = one \\\n two") (Str.ofString "name") (some (Str.ofString "one  two"))) :=
 JX (pre:=Str.ofString "  ") (c:=110) (tl:=[97,109,101,32,61,32,111,110,101,32,92,10,32,116,119,111]) (r₁:=fun r=>[32,61,32,111,110,101,32,92,10,32,116,119,111,10]++r) pre2 (by decide +kernel) (by decide) (by decide) (fun r=>by kernel_rfl) (fun r=>by kernel_rfl) (by decide) (by decide +kernel)
theorem row4:Reads1 (.gap (Str.ofString "# hi")):=TU post4
theorem row5:Reads1 (.gap (Str.ofString "")):=TU post1
theorem row6:Reads1 (.val (Str.ofString "y") (Str.ofString "y") none) :=
 JX (pre:=Str.ofString "") (c:=121) (tl:=[]) (r₁:=fun r=>10::r) pre1 (by decide +kernel) (by decide) (by decide) (fun r=>by kernel_rfl) (fun r=>by kernel_rfl) (by decide) (by decide +kernel)
noncomputable def AZ:Str->List Row->List Pc
 | _,[]=>[]
 | s,r::rs=>rowPcs s r++AZ (KY s r) rs
noncomputable def DX:List Row->Prop
 | []=>True
 | .head _ _ _ _::_=>True
 | _=>False
noncomputable def XB(r:Row):Bool:=(oct (rowText r)).all fun c=>decide (c≠13)&&decide (c≠239)
noncomputable def RJ:Row->Bool
 | .head a b _ _=>decide (NC (oct a++oct b)=oct a)
 | _=>true
structure Good1(r:Row):Prop where
 reads:Reads1 r
 sm:CD r=true
 asc:XB r=true
 ind:RJ r=true
theorem NG(r:Row)(rows:List Row):written (r::rows)=oct (rowText r++nl)++written rows:=rfl
theorem NH:∀ {rows:List Row},(∀ r∈rows,Reads1 r)->∀ sec x ps,(DX rows\/sec=some x)->∃ k,k<=20*rows.length+1/\∀ m,rdL (m+k) sec (written rows) (written rows) ps=some (ps++AZ x rows)
 | [],_,sec,x,ps,_=>⟨1,by simp,fun m=>by
  show some (EU ps (gapP (CW [] [])))=some (ps++[])
  unfold EU
  rw[if_pos (show(gapP (CW [] [])).raw=[] from rfl),List.append_nil]⟩
 | r::rows,h,sec,x,ps,hs=>by
  refine AD ?_<|h r (.head _);intro k1 l1 h1
  refine AD ?_<|NH (fun r hr=>h r (.tail _ hr)) (some (KY x r)) (KY x r) (ps++rowPcs x r) (.inr rfl);intro k2 l2 h2
  refine⟨k2+k1,by simp only[List.length_cons];lia,fun m=>?_⟩
  rw[NG,show m+(k2+k1)=(m+k2)+k1 from by lia,h1 (m+k2) sec x (written rows) ps,h2 m,List.append_assoc]
  ·rfl
  ·intro hh
   rcases hs with hs | hs
   ·induction r using Row.casesOn with
    | head a b c d=>exact absurd rfl (hh a b c d)
    | val _ _ _=>exact hs.elim
    | gap _=>exact hs.elim
   ·exact hs
theorem a8o(a b:List Pc):octP (a++b)=octP a++octP b:=by simp[octP]
theorem TV:∀ (rows:List Row) (s:Str),octP (AZ s rows)=written rows
 | [],_=>rfl
 | r::rows,s=>by
  show octP (rowPcs s r++AZ _ rows)=_
  rw[a8o,TV rows,NG]
  congr 1
  induction r using Row.casesOn<;>simp[rowPcs,octP,gapP,rowText,oct_app,oct_nl]
theorem XC:∀ (a b:List Pc) (acc:List Str),GF acc (a++b)=GF (GF acc a) b
 | [],_,_=>rfl
 | p::a,b,acc=>by
  show GF _ (a++b)=GF (GF _ a) b
  rw[XC a b]
theorem w_ne:Str.ofString "gap"≠Str.ofString "section"/\Str.ofString "value"≠Str.ofString "section"/\Str.ofString "section"≠Str.ofString "value"/\Str.ofString "gap"≠Str.ofString "value"/\Str.ofString "section"≠Str.ofString "gap"/\Str.ofString "value"≠Str.ofString "gap":=by decide +kernel
theorem TX:∀ (rows:List Row) (s:Str) (acc:List Str),GF acc (AZ s rows)=EO acc rows
 | [],_,_=>rfl
 | r::rows,s,acc=>by
  show GF acc (rowPcs s r++AZ _ rows)=_
  rw[XC,TX rows]
  induction r using Row.casesOn with
  | head a b c d =>
   show EO (GF acc [_,_]) rows=EO (if d∉acc then acc++[d]else acc) rows
   congr 1
   show(if Str.ofString "gap"=Str.ofString "section"/\E0∉(if Str.ofString "section"=Str.ofString "section"/\d∉acc then acc++[d]else acc)then(if Str.ofString "section"=Str.ofString "section"/\d∉acc then acc++[d]else acc)++[E0]else(if Str.ofString "section"=Str.ofString "section"/\d∉acc then acc++[d]else acc))=_
   rw[if_neg (fun h=>w_ne.1 h.1)]
   by_cases hd:d∉acc
   ·rw[if_pos ⟨rfl,hd⟩,if_pos hd]
   ·rw[if_neg (fun h=>hd h.2),if_neg hd]
  | val x n v =>
   show EO (if Str.ofString "value"=Str.ofString "section"/\s∉acc then acc++[s]else acc) rows=EO acc rows
   rw[if_neg (fun h=>w_ne.2.1 h.1)]
  | gap x =>
   show EO (if Str.ofString "gap"=Str.ofString "section"/\E0∉acc then acc++[E0]else acc) rows=EO acc rows
   rw[if_neg (fun h=>w_ne.1 h.1)]
theorem a1t(a b:List Pc):CT (a++b)=CT a++CT b:=by simp[CT]
theorem OQ:∀ (rows:List Row) (s:Str),CT (AZ s rows)=EW s rows
 | [],_=>rfl
 | r::rows,s=>by
  show CT (rowPcs s r++AZ _ rows)=_
  rw[a1t,OQ rows]
  induction r using Row.casesOn with
  | head a b c d =>
   have:CT (rowPcs s (.head a b c d))=[]:=by
    simp only[CT,rowPcs,gapP,List.filter_cons,decide_eq_false w_ne.2.2.1,decide_eq_false w_ne.2.2.2.1,List.filter_nil];rfl
   rw[this];rfl
  | val x n v =>
   have:CT (rowPcs s (.val x n v))=[(s++Str.ofString "."++n,v)]:=by
    simp only[CT,rowPcs,List.filter_cons,decide_eq_true rfl,List.filter_nil];rfl
   rw[this];rfl
  | gap x =>
   have:CT (rowPcs s (.gap x))=[]:=by
    simp only[CT,rowPcs,gapP,List.filter_cons,decide_eq_false w_ne.2.2.2.1,List.filter_nil];rfl
   rw[this];rfl
theorem XD(rows:List Row):∀ (s:Str),(AZ s rows).length<=2*rows.length:=by
 induction rows with
 | nil=>exact fun _=>Nat.zero_le _
 | cons r rows ih =>
  intro s
  show(rowPcs s r++AZ (KY s r) rows).length<=2*rows.length+2
  rw[List.length_append,Nat.add_comm]
  exact Nat.add_le_add (ih _) (by induction r using Row.casesOn<;>exact Nat.le_of_ble_eq_true rfl)
theorem LV:∀ {rows:List Row} {s:Str},(∀ r∈rows,CD r=true)->s.length<=100->∀ p∈AZ s rows,Sm p/\p.raw.length<=1000
 | [],_,_,_,p,hp=>by cases hp
 | r::rows,s,h,hs,p,hp=>by
  have h1:=h r (.head _)
  have e0:E0.length=0:=by decide
  have lo:∀ x:Str,(oct x).length=x.length:=fun x=>by unfold oct;rw[List.length_map];rfl
  rcases List.mem_append.mp (show p∈rowPcs s r++AZ _ rows from hp)with hp | hp
  ·induction r using Row.casesOn with
   | head a b c d =>
    simp only[CD,Bool.and_eq_true,decide_eq_true_eq]at h1
    rcases List.mem_cons.mp hp with rfl | hp
    ·refine⟨⟨by show d.length<=1000;lia,by show E0.length<=1000;exact ar16⟩,?_⟩
     show(oct a++oct b).length<=1000
     rw[List.length_append,lo,lo];lia
    ·rw[List.mem_singleton]at hp
     subst hp
     refine⟨⟨by show E0.length<=1000;exact ar16,by show E0.length<=1000;exact ar16⟩,?_⟩
     show(oct c++[10]).length<=1000
     rw[List.length_append,lo];simp;lia
   | val x n v =>
    simp only[CD,Bool.and_eq_true,decide_eq_true_eq]at h1
    rw[show rowPcs s (.val x n v)=[⟨Str.ofString "value",oct x++[10],s,n,v,n⟩] from rfl,List.mem_singleton]at hp
    subst hp
    refine⟨⟨by show s.length<=1000;exact ar1,by show n.length<=1000;lia⟩,?_⟩
    show(oct x++[10]).length<=1000
    rw[List.length_append,lo];simp;lia
   | gap x =>
    simp only[CD,Bool.and_eq_true,decide_eq_true_eq]at h1
    rw[show rowPcs s (.gap x)=[gapP (oct x++[10])] from rfl,List.mem_singleton]at hp
    subst hp
    refine⟨⟨by show E0.length<=1000;exact ar16,by show E0.length<=1000;exact ar16⟩,?_⟩
    show(oct x++[10]).length<=1000
    rw[List.length_append,lo];simp;lia
  ·refine LV (fun r hr=>h r (.tail _ hr)) ?_ p hp
   induction r using Row.casesOn with
   | head a b c d =>
    simp only[CD,Bool.and_eq_true,decide_eq_true_eq]at h1
    show d.length<=100;lia
   | val x n v=>exact hs
   | gap x=>exact hs
theorem a4j{rows:List Row}(h:∀ r∈rows,CD r=true)(hl:rows.length<=1000):Like (AZ E0 rows) rows :=
 ⟨TV _ _,TX _ _ _,OQ _ _,fun p hp=>(LV h (by decide) p hp).1,by have:=XD rows E0;lia⟩
theorem LW:∀ {rows:List Row} {acc:List Str},(∀ r∈rows,CD r=true)->(∀ x∈acc,Low x=true)->∀ x∈EO acc rows,Low x=true
 | [],_,_,ha,x,hx=>ha x hx
 | .head a b c d::rows,acc,h,ha,x,hx=>by
  have h1:=h _ (.head _)
  simp only[CD,Bool.and_eq_true,decide_eq_true_eq]at h1
  refine LW (rows:=rows) (fun r hr=>h r (.tail _ hr)) (fun y hy=>?_) x hx
  split at hy
  ·rcases List.mem_append.mp hy with hy | hy
   ·exact ha y hy
   ·rw[List.mem_singleton.mp hy];exact h1.2.2.2.2.2
  ·exact ha y hy
 | .val _ _ _::rows,acc,h,ha,x,hx=>LW (rows:=rows) (fun r hr=>h r (.tail _ hr)) ha x hx
 | .gap _::rows,acc,h,ha,x,hx=>LW (rows:=rows) (fun r hr=>h r (.tail _ hr)) ha x hx
theorem OF:∀ {rows:List Row} {s:Str},(∀ r∈rows,CD r=true)->Low s=true->∀ x∈EW s rows,Low x.1=true/\a8n x.2=true
 | [],_,_,_,x,hx=>by cases hx
 | .head a b c d::rows,s,h,hs,x,hx=>by
  have h1:=h _ (.head _)
  simp only[CD,Bool.and_eq_true,decide_eq_true_eq]at h1
  exact OF (rows:=rows) (fun r hr=>h r (.tail _ hr)) h1.2.2.2.2.2 x hx
 | .val y n v::rows,s,h,hs,x,hx=>by
  have h1:=h _ (.head _)
  simp only[CD,Bool.and_eq_true,decide_eq_true_eq]at h1
  rcases List.mem_cons.mp (show x∈(s++Str.ofString "."++n,v)::EW s rows from hx)with rfl | hx
  ·refine⟨?_,?_⟩
   ·show Low (s++Str.ofString "."++n)=true
    rw[low_app,low_app,hs,h1.2.2.2.1];rfl
   ·induction v using Option.casesOn with
    | none=>rfl
    | some z=>exact h1.2.2.2.2
  ·exact OF (rows:=rows) (fun r hr=>h r (.tail _ hr)) hs x hx
 | .gap _::rows,s,h,hs,x,hx=>OF (rows:=rows) (fun r hr=>h r (.tail _ hr)) hs x hx
theorem ZW{rows:List Row}(h:∀ r∈rows,Good1 r)(hl:rows.length<=1000):RowsOk rows:=by
 have hs:∀ r∈rows,CD r=true:=fun r hr=>(h r hr).sm
 have hc:∀ c∈written rows,c≠13/\c≠239:=by
  intro c hc
  unfold written at hc
  rw[List.mem_flatten]at hc
  revert hc;refine AD ?_;intro l hl hc
  refine AD ?_<|List.mem_map.mp hl;rintro r hr rfl
  rw[oct_app,oct_nl]at hc
  rcases List.mem_append.mp hc with hc | hc
  ·have:=(h r hr).asc
   unfold XB at this
   rw[List.all_eq_true]at this
   have:=this c hc
   simpa using this
  ·rw[List.mem_singleton.mp hc];decide
 exact⟨hs,hl,{no:=fun q=>(hc _ q).1 rfl,len:=by have:=OO hs;lia,bom:=fun q=>(hc _ q).2 rfl },LW hs (fun _ h=>by cases h),OF hs (by decide)⟩
noncomputable def JL(near far brk:Str):Row->Row
 | .head a b c d=>if d=near then .head a brk c far else .head a b c d
 | r=>r
noncomputable def cntR(near:Str)(rows:List Row):Nat:=(rows.filter fun r=>match r with | .head _ _ _ d=>decide (d=near) | _=>false).length
theorem XE{near far brk:Str}{hb:List UInt8}(hbr:hb=oct brk):∀ {rows:List Row} {s:Str},(∀ r∈rows,RJ r=true)->(AZ s rows).map (DS near far hb)=AZ (if s=near then far else s) (rows.map (JL near far brk))
 | [],_,_=>rfl
 | r::rows,s,h=>by
  show(rowPcs s r++AZ _ rows).map _=rowPcs _ (JL near far brk r)++AZ _ (rows.map _)
  rw[List.map_append,XE hbr (fun r hr=>h r (.tail _ hr))]
  have h1:=h r (.head _)
  induction r using Row.casesOn with
  | head a b c d =>
   have hi:NC (oct a++oct b)=oct a:=by simpa [RJ] using h1
   by_cases hd:d=near
   ·subst hd
    have e:JL d far brk (.head a b c d) = .head a brk c far:=by show(if d=d then _ else _)=_;rw[if_pos rfl]
    rw[e]
    show[DS d far hb ⟨Str.ofString "section",oct a++oct b,d,E0,none,E0⟩,DS d far hb (gapP (oct c++[10]))]++AZ (if d=d then far else d) _=[_,_]++AZ far _
    rw[if_pos rfl]
    have e1:DS d far hb ⟨Str.ofString "section",oct a++oct b,d,E0,none,E0⟩=⟨Str.ofString "section",oct a++oct brk,far,E0,none,E0⟩:=by
     unfold DS
     rw[if_pos ⟨w_ne.2.2.2.2.1,rfl⟩,if_pos rfl]
     show Pc.mk _ (NC (oct a++oct b)++hb) _ _ _ _=_
     rw[hi,hbr]
    have e2:DS d far hb (gapP (oct c++[10]))=gapP (oct c++[10]):=by
     unfold DS
     rw[if_neg (fun z=>z.1 rfl)]
    rw[e1,e2]
   ·have e:JL near far brk (.head a b c d) = .head a b c d:=by show(if d=near then _ else _)=_;rw[if_neg hd]
    rw[e]
    show[DS near far hb ⟨Str.ofString "section",oct a++oct b,d,E0,none,E0⟩,DS near far hb (gapP (oct c++[10]))]++AZ (if d=near then far else d) _=[_,_]++AZ d _
    rw[if_neg hd]
    have e1:DS near far hb ⟨Str.ofString "section",oct a++oct b,d,E0,none,E0⟩=⟨Str.ofString "section",oct a++oct b,d,E0,none,E0⟩:=by
     unfold DS
     rw[if_neg (fun z=>hd z.2)]
    have e2:DS near far hb (gapP (oct c++[10]))=gapP (oct c++[10]):=by
     unfold DS
     rw[if_neg (fun z=>z.1 rfl)]
    rw[e1,e2]
  | val x n v =>
   show[DS near far hb ⟨Str.ofString "value",oct x++[10],s,n,v,n⟩]++AZ (if s=near then far else s) _=[_]++AZ (if s=near then far else s) _
   congr 2
   unfold DS
   by_cases hd:s=near
   ·rw[if_pos ⟨w_ne.2.2.2.2.2,hd⟩,if_neg w_ne.2.1,if_pos hd]
   ·rw[if_neg (fun z=>hd z.2),if_neg hd]
  | gap x =>
   show[DS near far hb (gapP (oct x++[10]))]++AZ (if s=near then far else s) _=[_]++AZ (if s=near then far else s) _
   rw[show DS near far hb (gapP (oct x++[10]))=gapP (oct x++[10]) from if_neg (fun z=>z.1 rfl)]
theorem PM{near:Str}:∀ (rows:List Row) (s:Str),EV near (AZ s rows)=cntR near rows
 | [],_=>rfl
 | r::rows,s=>by
  have ih:=PM (near:=near) rows (KY s r)
  have app:∀ a b:List Pc,EV near (a++b)=EV near a+EV near b:=fun a b=>by simp[EV]
  show EV near (rowPcs s r++AZ _ rows)=_
  rw[app,ih]
  induction r using Row.casesOn with
  | head a b c d =>
   by_cases hd:d=near
   ·simp[EV,cntR,rowPcs,isHd,gapP,hd,w_ne.1,List.filter_cons];lia
   ·simp[EV,cntR,rowPcs,isHd,gapP,hd,w_ne.1,List.filter_cons]
  | val x n v=>simp[EV,cntR,rowPcs,isHd,w_ne.2.1,List.filter_cons]
  | gap x=>simp[EV,cntR,rowPcs,isHd,gapP,w_ne.1,List.filter_cons]
noncomputable def inR(near:Str)(isin:Bool):Row->Bool
 | .head _ _ _ d=>decide (d=near)
 | .val _ _ _=>isin
 | .gap _=>isin
noncomputable def remR(near:Str):Bool->List Row->List Row
 | _,[]=>[]
 | isin,r::rs=>if inR near isin r=true then remR near true rs else r::remR near false rs
theorem SO(x:List UInt8):HA (x++[10]) [10]=true:=by
 unfold HA
 rw[Bool.and_eq_true,decide_eq_true_iff]
 refine⟨by simp,?_⟩
 rw[beq_iff_eq]
 apply Array.toList_inj.mp
 simp
theorem PN{kept:List Pc}{p:Pc}(h:HA p.raw [10]=true):shut (kept++[p])=true:=by
 unfold shut
 rw[List.getLast?_append]
 exact h
theorem GP{near:Str}:∀ {rows:List Row} {s:Str} {kept:List Pc},shut kept=true →
  remF near false kept (AZ s rows)=some (kept++AZ s (remR near false rows))/\∀ s',remF near true kept (AZ s rows)=some (kept++AZ s' (remR near true rows))
 | [],s,kept,_=>⟨by simp[AZ,remF,remR],fun s'=>by simp[AZ,remF,remR]⟩
 | r::rows,s,kept,hk=>by
  induction r using Row.casesOn with
  | head a b c d =>
   have key:∀ isin s',remF near isin kept (AZ s (.head a b c d::rows))=some (kept++AZ s' (remR near isin (.head a b c d::rows))):=by
    intro isin s'
    show remF near isin kept (⟨Str.ofString "section",oct a++oct b,d,E0,none,E0⟩::gapP (oct c++[10])::AZ d rows)=_
    have i1:inF near isin ⟨Str.ofString "section",oct a++oct b,d,E0,none,E0⟩=decide (d=near):=by unfold inF;rw[if_pos rfl]
    have i2:∀ z,inF near z (gapP (oct c++[10]))=z:=fun z=>if_neg w_ne.1
    by_cases hd:d=near
    ·rw[remF,i1,decide_eq_true hd,if_pos rfl,if_pos hk,remF,i2,if_pos rfl,if_pos hk,(GP hk).2 s']
     have:remR near isin (.head a b c d::rows)=remR near true rows:=by
      show(if decide (d=near)=true then _ else _)=_
      rw[if_pos (by simpa using hd)]
     rw[this]
    ·rw[remF,i1,decide_eq_false hd,if_neg (by decide),remF,i2,if_neg (by decide),(GP (PN (SO _))).1]
     have:remR near isin (.head a b c d::rows) = .head a b c d::remR near false rows:=by
      show(if decide (d=near)=true then _ else _)=_
      rw[if_neg (by simpa using hd)]
     rw[this,List.append_assoc,List.append_assoc]
     rfl
   exact⟨key false s,key true⟩
  | val x n v =>
   have i2:∀ z,inF near z ⟨Str.ofString "value",oct x++[10],s,n,v,n⟩=z:=fun z=>if_neg w_ne.2.1
   refine⟨?_,fun s'=>?_⟩
   ·show remF near false kept (⟨Str.ofString "value",oct x++[10],s,n,v,n⟩::AZ s rows)=_
    rw[remF,i2,if_neg (by decide),(GP (PN (SO _))).1,List.append_assoc]
    rfl
   ·show remF near true kept (⟨Str.ofString "value",oct x++[10],s,n,v,n⟩::AZ s rows)=_
    rw[remF,i2,if_pos rfl,if_pos hk,(GP hk).2 s']
    rfl
  | gap x =>
   have i2:∀ z,inF near z (gapP (oct x++[10]))=z:=fun z=>if_neg w_ne.1
   refine⟨?_,fun s'=>?_⟩
   ·show remF near false kept (gapP (oct x++[10])::AZ s rows)=_
    rw[remF,i2,if_neg (by decide),(GP (PN (SO _))).1,List.append_assoc]
    rfl
   ·show remF near true kept (gapP (oct x++[10])::AZ s rows)=_
    rw[remF,i2,if_pos rfl,if_pos hk,(GP hk).2 s']
    rfl
theorem rem_start{near:Str}:∀ {rows:List Row},DX (remR near true rows)/\(DX rows->DX (remR near false rows))
 | []=>⟨trivial,fun _=>trivial⟩
 | .head a b c d::rows=>by
  have key:∀ isin,DX (remR near isin (.head a b c d::rows)):=fun isin=>by
   show DX (if decide (d=near)=true then _ else _)
   split
   ·exact rem_start.1
   ·trivial
  exact⟨key true,fun _=>key false⟩
 | .val _ _ _::rows=>⟨(rem_start (rows:=rows)).1,fun h=>h.elim⟩
 | .gap _::rows=>⟨(rem_start (rows:=rows)).1,fun h=>h.elim⟩
theorem SP{near:Str}:∀ {rows:List Row} {isin:Bool} {r:Row},r∈remR near isin rows->r∈rows
 | [],_,_,h=>by cases h
 | r'::rows,isin,r,h=>by
  rw[remR]at h
  split at h
  ·exact .tail _ (SP h)
  ·rcases List.mem_cons.mp h with rfl | h
   ·exact .head _
   ·exact .tail _ (SP h)
theorem SQ{near:Str}:∀ (rows:List Row) (isin:Bool),(remR near isin rows).length<=rows.length
 | [],_=>Nat.le_refl _
 | r'::rows,isin=>by
  rw[remR]
  split
  ·exact Nat.le_succ_of_le (SQ rows true)
  ·exact Nat.succ_le_succ (SQ rows false)
section
variable {b:Bool}{n i j k f c d:Nat}{T:Tb}{Λ Λ':Loc}{σ σ₀ τ ρ:St}{Q:PV->St->Prop}{X:St->Prop}{R:Fl->Loc->St->Prop}{o r s:List UInt8}{row:Int}
noncomputable def ExtD(d:Nat)(σ σ':St):Prop:=∀ (k:Nat) (a:AO),k≠d->σ[k]? = some a->σ'[k]? = some a
theorem Ext.toD(h:Ext σ τ):ExtD d σ τ:=fun k a _ e=>h k a e
theorem ExtD.trans(h:ExtD d σ τ)(h':ExtD d τ ρ):ExtD d σ ρ:=fun k a hk e=>h' k a hk (h k a hk e)
noncomputable abbrev sAt:Str:=Str.ofString "at"
noncomputable abbrev sCells:Str:=Str.ofString "cells"
noncomputable def DeckAt(σ:St)(d:Nat)(a:Nat):Prop:=∃ (c:Nat) (cells:List Int),c<d/\σ[d]? = some (.dict [(sCells,.ref c),(sAt,.int (a:Nat))])/\σ[c]? = some (.list (cells.map .int))/\cells.length<=1000/\∀ x∈cells,0<=x/\x<1000000007
theorem DeckAt.ext{a:Nat}(h:DeckAt σ d a)(e:Ext σ τ):DeckAt τ d a:=by
 obtain⟨c,cells,h1,h2,h3,h4⟩:=h
 exact⟨c,cells,h1,e _ _ h2,e _ _ h3,h4⟩
theorem a4k:sAt≠sCells:=by decide +kernel
theorem LX{x:Int}(h : -1000000000000<=x/\x<=1000000000000):CF x=true:=by
 unfold CF;rw[Bool.and_eq_true,decide_eq_true_iff,decide_eq_true_iff];lia
theorem KZ{x y:Int}(hy:y≠0):bin σ .mod (.int x) (.int y)=some (.int (Int.fmod x y),σ):=by
 show(if y≠0 then _ else none)=_
 rw[if_pos hy]
theorem a4l{x y:Int}(hx:CF x=true)(hy:CF y=true):bin σ .mul (.int x) (.int y)=some (.int (x*y),σ):=by
 show(if CF x&&CF y then _ else none)=_
 rw[hx,hy];rfl
theorem ZX{x y:Int}(hy:y≠0/\y.natAbs<1073741824):bin σ .fdiv (.int x) (.int y)=some (.int (Int.fdiv x y),σ):=by
 show(if y≠0/\y.natAbs<1073741824 then _ else none)=_
 rw[if_pos hy]
theorem FZ{vs:List PV}{k:Nat}{v:PV}(h:σ[i]? = some (.list vs))(hk:vs[k]? = some v)(hl:vs.length<=1000000):idx σ (.ref i) (.int (k:Nat))=some v:=by
 have:=(List.getElem?_eq_some_iff.mp hk).1
 show(match AK σ i with | some vs=>if CF (k:Int)then at? vs (k:Int)else none | none=>none)=_
 rw[AG h]
 show(if CF (k:Int)=true then at? vs (k:Int)else none)=_
 rw[if_pos (TN (by lia))]
 unfold at?
 rw[if_pos (by lia),Int.toNat_natCast,hk]
theorem XF{x:Int}{m:Nat}(hm:0<m):∃ v:Nat,v<m/\Int.fmod x (m:Int)=(v:Int):=by
 have h1:=Int.fmod_nonneg_of_pos x (b:=(m:Int)) (by lia)
 have h2:=Int.fmod_lt_of_pos x (b:=(m:Int)) (by lia)
 exact⟨(Int.fmod x m).toNat,by lia,by lia⟩
theorem b5n{a below:Nat}(D:DeckAt σ d a)(ha:a<=1000)(hb:0<below)(h:∀ (v:Nat) σ',v<below->ExtD d σ σ'->DeckAt σ' d (a+1)->Q (.int (v:Nat)) σ'):(U b (n+1)).C 42 [.ref d,.int (below:Nat)] σ Q X:=by
 obtain⟨c,cells,hcd',h2,h3,h4,h5⟩:=D
 have hcd:c≠d:=Nat.ne_of_lt hcd'
 have hb':((below:Nat):Int)≠0:=by lia
 refine AV (mb:=b_law_draw) (Λ:=[(61,.ref d),(62,.int (below:Nat))]) rfl rfl rfl rfl ?_
 have i1:idx σ (.ref d) (.str sAt true)=some (.int (a:Nat)):=by
  show(match dictAt σ d with | some kvs=>DQ sAt kvs | none=>none)=_
  rw[FC h2]
  show(if sAt=sCells then _ else(if sAt=sAt then _ else _))=_
  rw[if_neg a4k,if_pos rfl]
 have i2:idx σ (.ref d) (.str sCells true)=some (.ref c):=by
  show(match dictAt σ d with | some kvs=>DQ sCells kvs | none=>none)=_
  rw[FC h2]
  show(if sCells=sCells then _ else _)=_
  rw[if_pos rfl]
 refine KQ (BB (AB (BH (AA rfl) AM i1) (AB (BH (AA rfl) AM i2) AE)) ?_)
 have g61:get 61 ([(61,.ref d),(62,.int (below:Nat)),(63,.ref c),(16,.int (a:Nat))]:Loc)=some (.ref d):=rfl
 have g62:get 62 ([(61,.ref d),(62,.int (below:Nat)),(63,.ref c),(16,.int (a:Nat))]:Loc)=some (.int (below:Nat)):=rfl
 have g63:get 63 ([(61,.ref d),(62,.int (below:Nat)),(63,.ref c),(16,.int (a:Nat))]:Loc)=some (.ref c):=rfl
 have g16:get 16 ([(61,.ref d),(62,.int (below:Nat)),(63,.ref c),(16,.int (a:Nat))]:Loc)=some (.int (a:Nat)):=rfl
 show AN _ _ [(61,.ref d),(62,.int (below:Nat)),(63,.ref c),(16,.int (a:Nat))] _ _ _
 revert g61 g62 g63 g16
 generalize ([(61,.ref d),(62,.int (below:Nat)),(63,.ref c),(16,.int (a:Nat))]:Loc)=Λ
 intro g61 g62 g63 g16
 refine WK (AC (AT (AA g16) AH rfl) (AC (AA g61) (AC AM (AI (a:=σ.set d (.dict [(sCells,.ref c),(sAt,.int ((a+1:Nat):Int))])) ?_ ?_))))
 ·show(match dictAt σ d with | some kvs=>if fits kvs.length then some (σ.set d (.dict (IZ sAt (.int ((a:Int)+1)) kvs)))else none | none=>none)=_
  rw[FC h2]
  show some (σ.set d (.dict (if sAt=sCells then _ else _::(if sAt=sAt then _ else _))))=_
  rw[if_neg a4k,if_pos rfl];rfl
 ·have hd2:(σ.set d (.dict [(sCells,.ref c),(sAt,.int ((a+1:Nat):Int))]))[d]? = some (.dict [(sCells,.ref c),(sAt,.int ((a+1:Nat):Int))]):=AW h2
  have hc2:(σ.set d (.dict [(sCells,.ref c),(sAt,.int ((a+1:Nat):Int))]))[c]? = some (.list (cells.map .int)):=BK h3 (Ne.symm hcd)
  have he:ExtD d σ (σ.set d (.dict [(sCells,.ref c),(sAt,.int ((a+1:Nat):Int))])):=fun k x hk hx=>BK hx (Ne.symm hk)
  revert hd2 hc2 he
  generalize σ.set d (.dict [(sCells,.ref c),(sAt,.int ((a+1:Nat):Int))])=σ₁
  intro hd2 hc2 he
  have D1:DeckAt σ₁ d (a+1):=⟨c,cells,hcd',hd2,hc2,h4,h5⟩
  have fin:∀ {x:Int} {τ:St},Ext σ₁ τ->Q (.int (Int.fmod x (below:Nat))) τ:=fun{x τ} e=>by
   refine AD ?_<|XF (x:=x) hb;intro v hv hx
   rw[hx]
   exact h v τ hv (he.trans e.toD) (D1.ext e)
  have len:∀ {τ:St},τ[c]? = some (.list (cells.map .int))->Ev (U b n) (.bi .len [(.var 63)]) Λ τ (.int (cells.length:Nat)):=fun{τ} hc=>BR (AB (AA g63) AE) (by simp only[WM,AG hc,List.length_map])
  by_cases hl:a<cells.length
  ·refine BV (AF (AA g16) (len hc2) (by show some (decide ((a:Int)<(cells.length:Int)))=_;rw[decide_eq_true (by lia)])) (BA (AC (AT (v:=.int (Int.fmod cells[a] (below:Nat))) (BH (AA g63) (AA g16) (FZ (v:=.int cells[a]) hc2 (by simp[hl]) (by rw[List.length_map];exact ar1))) (AA g62) (KZ hb')) (fin .refl)))
  ·refine BL (AF (AA g16) (len hc2) (by show some (decide ((a:Int)<(cells.length:Int)))=_;rw[decide_eq_false (by lia)])) ?_
   refine MV (FS (AC (AA g63) (CG (BC ?_))))
   have e1:Ext σ₁ (σ₁++[AO.list []]):=.app
   have hc3:=e1 _ _ hc2
   induction cells using List.casesOn with
   | nil =>
    refine AI (a:=true) ?_ ?_
    ·simp only[NY,cm_ne,eq_ref,AG hc3,AG (app_new (σ:=σ₁))];rfl
    ·refine GY ?_
     have hm7:Ev (U b n) (.bin .mul (.var 16) (.int 7)) Λ (σ₁++[AO.list []]) (.int ((a:Int)*7)):=by
      refine' AT (x:=.int (a:Int)) (y:=.int 7) ?h1 ?h2 ?h3
      case h1=>exact AA g16
      case h2=>exact AH
      case h3=>exact a4l (LX (by lia)) (LX (by lia))
     have hd3:Ev (U b n) (.bin .fdiv (.var 16) (.int 3)) Λ (σ₁++[AO.list []]) (.int (Int.fdiv (a:Int) 3)):=by
      refine' AT (x:=.int (a:Int)) (y:=.int 3) ?h1 ?h2 ?h3
      case h1=>exact AA g16
      case h2=>exact AH
      case h3=>exact ZX (by decide)
     have ev:Ev (U b n) (.bin .mod (.bin .add (.bin .mul (.var 16) (.int 7)) (.bin .fdiv (.var 16) (.int 3))) (.var 62)) Λ (σ₁++[AO.list []]) (.int (Int.fmod ((a:Int)*7+Int.fdiv (a:Int) 3) (below:Nat))) :=
      AT (AT (x:=.int ((a:Int)*7)) (y:=.int (Int.fdiv (a:Int) 3)) hm7 hd3 rfl) (AA g62) (KZ hb')
     exact BA (AC ev (fin e1))
   | cons x cells =>
    refine AI (a:=false) ?_ ?_
    ·simp only[NY,cm_ne,eq_ref,AG hc3,AG (app_new (σ:=σ₁))];rfl
    ·refine GX (BD ?_)
     refine AD ?_ (XF (x:=(a:Int)) (m:=(x::cells).length) (by simp));intro v hv hx
     have ei:Ev (U b n) (.idx (.var 63) (.bin .mod (.var 16) (.bi .len [(.var 63)]))) Λ (σ₁++[AO.list []]) (.int (x::cells)[v]):=by
      refine BH (AA g63) (AT (AA g16) (len hc3) (KZ (by simp only[List.length_cons];lia))) ?_
      rw[hx]
      exact FZ hc3 (by rw[List.getElem?_map,List.getElem?_eq_getElem hv];rfl) (by rw[List.length_map];exact ar1)
     have hd1:Ev (U b n) (.bin .fdiv (.idx (.var 63) (.bin .mod (.var 16) (.bi .len [(.var 63)]))) (.bin .add (.var 16) (.int 1))) Λ (σ₁++[AO.list []]) (.int (Int.fdiv (x::cells)[v] ((a:Int)+1))):=by
      refine' AT (x:=.int (x::cells)[v]) (y:=.int ((a:Int)+1)) ?h1 ?h2 ?h3
      case h1=>exact ei
      case h2 =>
       refine' AT (x:=.int (a:Int)) (y:=.int 1) ?h4 ?h5 ?h6
       case h4=>exact AA g16
       case h5=>exact AH
       case h6=>rfl
      case h3=>exact ZX (by lia)
     have hm5:Ev (U b n) (.bin .mul (.var 16) (.int 5)) Λ (σ₁++[AO.list []]) (.int ((a:Int)*5)):=by
      refine' AT (x:=.int (a:Int)) (y:=.int 5) ?h1 ?h2 ?h3
      case h1=>exact AA g16
      case h2=>exact AH
      case h3=>exact a4l (LX (by lia)) (LX (by lia))
     have ev:Ev (U b n) (.bin .mod (.bin .add (.bin .fdiv (.idx (.var 63) (.bin .mod (.var 16) (.bi .len [(.var 63)]))) (.bin .add (.var 16) (.int 1))) (.bin .mul (.var 16) (.int 5))) (.var 62)) Λ (σ₁++[AO.list []]) (.int (Int.fmod (Int.fdiv (x::cells)[v] ((a:Int)+1)+(a:Int)*5) (below:Nat))) :=
      AT (AT (x:=.int (Int.fdiv (x::cells)[v] ((a:Int)+1))) (y:=.int ((a:Int)*5)) hd1 hm5 rfl) (AA g62) (KZ hb')
     exact BA (AC ev (fin e1))
theorem RK:∀ (l:List Int),Gath (EL T (.bin .mod (.bi .int [(.var 60)]) (.int 1000000007)) [] 60 Λ σ) (l.map .int) (l.map fun x=>.int (Int.fmod x 1000000007))
 | []=>.nil
 | x::l=>.one ⟨trivial,AT (BR (AB (AA AU) AE) rfl) AH (KZ (by decide))⟩ (RK l)
theorem b5o{ns:List Int}(hl:ns.length<=1000)(h:∀ d σ',Ext σ σ'->DeckAt σ' d 0->Q (.ref d) σ'):(U b (n+1)).C 41 [.flist (ns.map .int)] σ Q X:=by
 refine AV (mb:=b_law_deck) (Λ:=[(59,.flist (ns.map .int))]) rfl rfl rfl rfl ?_
 have hcut:BQ (ns.map PV.int) none (some 60)=(BQ ns none (some 60)).map PV.int:=by
  unfold BQ
  simp only[Option.elim,List.length_map,List.map_take,List.map_drop]
 refine BA (a1f (BS (OC (a7u (AC (AA rfl) (AC AH (AI (a:=(.ref σ.length,σ++[.list ((BQ ns none (some 60)).map .int)])) ?_ ?_)))))))
 ·show some (PV.ref σ.length,σ++[AO.list (BQ (ns.map PV.int) none (some 60))])=_
  rw[hcut]
 ·have hlen:(BQ ns none (some 60)).length<=ns.length:=by
   unfold BQ
   simp only[List.length_take,List.length_drop];lia
  refine AI (a:=((BQ ns none (some 60)).map PV.int,fun τ=>AK τ σ.length=some ((BQ ns none (some 60)).map PV.int))) ?_ ?_
  ·simp only[items,AG (app_new (σ:=σ))]
  ·refine GT (AG app_new) (fun x u hp K hK=>GU hp hK) (acc:=[]) (RK (BQ ns none (some 60))) (AY (by show([]++List.map _ _).length<=_;rw[List.nil_append,List.length_map];lia)) ?_
   rw[List.nil_append]
   refine BB (AB AH AE) ?_
   have e3:(σ++[AO.list ((BQ ns none (some 60)).map PV.int)]++[AO.list ((BQ ns none (some 60)).map fun x=>PV.int (Int.fmod x 1000000007))])[(σ++[AO.list ((BQ ns none (some 60)).map PV.int)]).length]? = some (AO.list ((BQ ns none (some 60)).map fun x=>PV.int (Int.fmod x 1000000007))):=app_new
   have e0:Ext σ (σ++[AO.list ((BQ ns none (some 60)).map PV.int)]++[AO.list ((BQ ns none (some 60)).map fun x=>PV.int (Int.fmod x 1000000007))]):=Ext.app.trans .app
   revert e3 e0
   generalize σ++[AO.list ((BQ ns none (some 60)).map PV.int)]++[AO.list ((BQ ns none (some 60)).map fun x=>PV.int (Int.fmod x 1000000007))]=σ₂
   intro e3 e0
   refine h _ _ (e0.trans .app) ⟨_,(BQ ns none (some 60)).map fun x=>Int.fmod x 1000000007,?_,app_new,?_,by rw[List.length_map];exact ar12,fun x hx=>?_⟩
   ·exact(List.getElem?_eq_some_iff.mp e3).1
   ·rw[List.map_map];exact AP e3
   ·refine AD ?_<|List.mem_map.mp hx;rintro y _ rfl
    exact⟨Int.fmod_nonneg_of_pos _ (by decide),Int.fmod_lt_of_pos _ (by decide)⟩
end
noncomputable abbrev sS(x:String):Str:=Str.ofString x
noncomputable def heads0:List Row:=[.head (sS "") (sS "[core]") (sS "") (sS "core"),.head (sS "") (sS "[CORE]") (sS " ; x") (sS "core"),.head (sS "  ") (sS "[a \"S q\"]") (sS "# y") (sS "a.S q"),.head (sS "") (sS "[a.low]") (sS "") (sS "a.low"),.head (sS "\t") (sS "[A]") (sS "") (sS "a"),.head (sS "") (sS "[a \"S q\"]") (sS "") (sS "a.S q")]
noncomputable def rows0:List Row:=[.val (sS "\tname = v") (sS "name") (some (sS "v")),.val (sS "x = \"a;b\" # r") (sS "x") (some (sS "a;b")),.val (sS "  name = one \\\n two") (sS "name") (some (sS "one  two")),.gap (sS "# hi"),.gap (sS ""),.val (sS "y") (sS "y") none]
noncomputable def newsL:List Str:=[sS "b",sS "core",sS "b.T \"u",sS "a.S q",sS "",sS "b c",sS "b_c"]
noncomputable abbrev pS(x:String):PV:=.str (sS x) true
noncomputable def XG:List PV:=[.tup [pS "",pS "[core]",pS "",pS "core"],.tup [pS "",pS "[CORE]",pS " ; x",pS "core"],.tup [pS "  ",pS "[a \"S q\"]",pS "# y",pS "a.S q"],.tup [pS "",pS "[a.low]",pS "",pS "a.low"],.tup [pS "\t",pS "[A]",pS "",pS "a"],.tup [pS "",pS "[a \"S q\"]",pS "",pS "a.S q"]]
noncomputable def a1u:List PV:=[.tup [pS "\tname = v",pS "name",pS "v"],.tup [pS "x = \"a;b\" # r",pS "x",pS "a;b"],.tup [pS "  name = one \\\n two",pS "name",pS "one  two"],.tup [pS "# hi",.none,.none],.tup [pS "",.none,.none],.tup [pS "y",pS "y",.none]]
noncomputable def a1v:List PV:=newsL.map fun x=>.str x true
theorem b2s:All2 DT heads0 XG:=⟨⟨_,_,_,_,rfl⟩,⟨_,_,_,_,rfl⟩,⟨_,_,_,_,rfl⟩,⟨_,_,_,_,rfl⟩,⟨_,_,_,_,rfl⟩,⟨_,_,_,_,rfl⟩,trivial⟩
theorem b5p:All2 DT rows0 a1u:=⟨⟨_,_,_,rfl,⟨_,rfl⟩⟩,⟨_,_,_,rfl,⟨_,rfl⟩⟩,⟨_,_,_,rfl,⟨_,rfl⟩⟩,⟨_,rfl⟩,⟨_,rfl⟩,⟨_,_,_,rfl,rfl⟩,trivial⟩
theorem a1w:∀ r∈heads0,Good1 r:=by
 unfold heads0
 simp only[List.forall_mem_cons]
 exact⟨⟨FG pre1 br1 post1,by decide +kernel,by decide +kernel,by decide +kernel⟩,⟨FG pre1 br2 post2,by decide +kernel,by decide +kernel,by decide +kernel⟩,⟨FG pre2 br3 post3,by decide +kernel,by decide +kernel,by decide +kernel⟩,
  ⟨FG pre1 br4 post1,by decide +kernel,by decide +kernel,by decide +kernel⟩,⟨FG pre3 br5 post1,by decide +kernel,by decide +kernel,by decide +kernel⟩,⟨FG pre1 br3 post1,by decide +kernel,by decide +kernel,by decide +kernel⟩,fun _ h=>by cases h⟩
theorem a4m:∀ r∈rows0,Good1 r:=by
 unfold rows0
 simp only[List.forall_mem_cons]
 exact⟨⟨row1,by decide +kernel,by decide +kernel,rfl⟩,⟨row2,by decide +kernel,by decide +kernel,rfl⟩,⟨row3,by decide +kernel,by decide +kernel,rfl⟩,⟨row4,by decide +kernel,by decide +kernel,rfl⟩,⟨row5,by decide +kernel,by decide +kernel,rfl⟩,⟨row6,by decide +kernel,by decide +kernel,rfl⟩,fun _ h=>by cases h⟩
noncomputable def Fam(r:Row):Prop:=r∈heads0\/r∈rows0
theorem PO{r:Row}(h:Fam r):Good1 r:=h.elim (a1w r) (a4m r)
theorem All2.at{α β:Type}{R:α->β->Prop}:∀ {as:List α} {bs:List β} {k:Nat} {y:β},All2 R as bs->bs[k]? = some y->∃ x,as[k]? = some x/\R x y
 | a::as,b::bs,0,y,h,e=>by replace e:=sj e;subst e;exact⟨a,rfl,h.1⟩
 | a::as,b::bs,k+1,y,h,e=>by
  refine AD ?_ (All2.at (k:=k) h.2 (by simpa using e));intro x h1 h2
  exact⟨x,by simpa using h1,h2⟩
 | [],[],_,_,_,e=>by exact noS e
 | [],_::_,_,_,h,_=>h.elim
 | _::_,[],_,_,h,_=>h.elim
section
variable {b:Bool}{n i j k f c d a m:Nat}{T:Tb}{Λ Λ':Loc}{σ σ₀ τ ρ:St}{Q:PV->St->Prop}{X:St->Prop}{R:Fl->Loc->St->Prop}{o r s:List UInt8}{row:Int}
theorem b2t(h:Q (.ref σ.length) (σ++[.list XG])):(U b (n+1)).C 35 [] σ Q X:=by
 refine AV (mb:=b_law_heads) (Λ:=[]) rfl rfl rfl rfl ?_
 exact BA (CG (BB (fun _ _ h=>h) h))
theorem b5q(h:Q (.ref σ.length) (σ++[.list a1u])):(U b (n+1)).C 36 [] σ Q X:=by
 refine AV (mb:=b_law_rows) (Λ:=[]) rfl rfl rfl rfl ?_
 exact BA (CG (BB (fun _ _ h=>h) h))
theorem b5r(h:Q (.ref σ.length) (σ++[.list a1v])):(U b (n+1)).C 37 [] σ Q X:=by
 refine AV (mb:=b_law_news) (Λ:=[]) rfl rfl rfl rfl ?_
 exact BA (CG (BB (fun _ _ h=>h) h))
theorem DeckAt.lt(D:DeckAt σ d a):d<σ.length:=by
 revert D;refine DO ?_;intro c cells _ h _
 exact(List.getElem?_eq_some_iff.mp h).1
theorem GK{below:Nat}{bi:Int}(D:DeckAt σ d a)(ha:a<=1000)(hb:0<below)(hbi:bi=(below:Nat))(g61:get 61 Λ=some (.ref d))(h:∀ (v:Nat) σ',v<below->ExtD d σ σ'->DeckAt σ' d (a+1)->Q (.int (v:Nat)) σ'):wpE (U b (n+1)) (.call 42 [(.var 61),(.int bi)]) Λ σ Q X:=by
 subst hbi
 exact CP (BB (AB (AA g61) (AB AH AE)) (b5n D ha hb h))
theorem NI{L:List PV}{bi:Int}(hf:∀ (σ:St) (Q:PV->St->Prop) (X:St->Prop),Q (.ref σ.length) (σ++[.list L])->(U b (n+1)).C f [] σ Q X)(hL:0<L.length)(hL':L.length<=1000)(hbi:bi=(L.length:Nat))(D:DeckAt σ d a)(ha:a<=1000)(g61:get 61 Λ=some (.ref d))
  (h:∀ (v:Nat) x σ',L[v]? = some x->ExtD d σ σ'->DeckAt σ' d (a+1)->Q x σ'):wpE (U b (n+1)) (.idx (.call f []) (.call 42 [(.var 61),(.int bi)])) Λ σ Q X:=by
 refine QT (CP (BC (hf _ _ _ (GK (D.ext .app) ha hL hbi g61 fun v σ' hv e D'=>?_))))
 have hlt:=D.lt
 have hk:σ'[σ.length]? = some (.list L):=e _ _ (by lia) app_new
 exact AI (FZ hk (List.getElem?_eq_getElem hv) (by exact ar1)) (h v _ σ' (List.getElem?_eq_getElem hv) (Ext.app.toD.trans e) D')
theorem c0a{k e bd r'}{m:Nat}(he:wpE T e Λ σ (fun v σ=>∃ m:Nat,v = .int (m:Nat)/\m<=1000/\turns (fun _=>T.free) (BN T k bd (fun _=>False)) ((List.range m).map fun(k:Nat)=>PV.int (k:Int)) Λ σ (sq T r' R X)) X)(hm:∀ (Q Q':PV->St->Prop),(∀ v σ,Q v σ->Q' v σ)->wpE T e Λ σ Q X->wpE T e Λ σ Q' X):AN T (.forR k e bd::r') Λ σ R X:=by
 refine LR (hm _ _ (fun v τ hv=>?_) he)
 revert hv;refine IY ?_;rintro m rfl hm h
 refine AI (a:=(List.range m).map fun(k:Nat)=>PV.int (k:Int)) ?_ h
 show(if 0<=(m:Int)/\(m:Int)<=1000 then some _ else none)=_
 rw[if_pos (by lia)]
 rfl
theorem KJ{m:Nat}(hm:m<=1000):EG (.int (m:Nat))=some ((List.range' 0 m).map fun(k:Nat)=>PV.int (k:Int)):=by
 show(if 0<=(m:Int)/\(m:Int)<=1000 then some _ else none)=_
 rw[if_pos (by lia),List.range_eq_range']
 rfl
structure Drawn1(σ:St)(r:Nat)(rows:List Row)(us:List PV):Prop where
 at_:σ[r]? = some (.list us)
 rv:All2 DT rows us
 fam:∀ x∈rows,Fam x
 start:DX rows
theorem TY{rows:List Row}{x:Row}(h:DX rows)(hn:rows≠[]):DX (rows++[x]):=by
 induction rows using List.casesOn with
 | nil=>exact absurd rfl hn
 | cons y rows=>induction y using Row.casesOn<;>first | exact h | trivial
noncomputable abbrev PP:List MS:=[.ifS (.or (.cmp .eq (.var 70) (.int 0)) (.cmp .eq (.call 42 [(.var 61),(.int 3)]) (.int 0))) [.exp (.meth (.var 64) .append [(.idx (.call 35 []) (.call 42 [(.var 61),(.int 6)]))])] [.exp (.meth (.var 64) .append [(.idx (.call 36 []) (.call 42 [(.var 61),(.int 6)]))])]]
theorem TZ{r':List MS}{r:Nat}(hrd':d<r):∀ {m t a:Nat} {rows:List Row} {us:List PV} {Λ:Loc} {σ:St},Drawn1 σ r rows us->rows.length=t->DeckAt σ d a->a<=5+2*t->t+m<=10->get 61 Λ=some (.ref d)->get 64 Λ=some (.ref r) →
  (∀ σ' rows us a Λ',Drawn1 σ' r rows us->rows.length<=10->DeckAt σ' d a->a<=30->SameBut 70 Λ Λ'->AN (U true (n+2)) r' Λ' σ' R X) →
  turns (fun _=>(U true (n+2)).free) (BN (U true (n+2)) 70 PP (fun _=>False)) ((List.range' t m).map fun(k:Nat)=>PV.int (k:Int)) Λ σ (sq (U true (n+2)) r' R X)
 | 0,t,a,rows,us,Λ,σ,hd,ht,D,ha,htm,g61,g64,h=>⟨(FK true _).mpr rfl,h σ rows us a Λ hd (by lia) D (by lia) .refl⟩
 | m+1,t,a,rows,us,Λ,σ,hd,ht,D,ha,htm,g61,g64,h=>by
  have hrd:r≠d:=Nat.ne_of_gt hrd'
  rw[List.range'_succ]
  refine turn ((FK true _).mpr rfl) ?_
  show AN (U true (n+2)) PP (put 70 (PV.int (t:Int)) Λ) σ _ _
  have k61:get 61 (put 70 (PV.int (t:Int)) Λ)=some (.ref d):=AL rfl g61
  have k64:get 64 (put 70 (PV.int (t:Int)) Λ)=some (.ref r):=AL rfl g64
  have k70:get 70 (put 70 (PV.int (t:Int)) Λ)=some (.int (t:Nat)):=AU
  have ks:SameBut 70 Λ (put 70 (PV.int (t:Int)) Λ):=.put
  revert k61 k64 k70 ks
  generalize put 70 (PV.int (t:Int)) Λ=Λ₁
  intro k61 k64 k70 ks
  have app:∀ {f:Nat} {L:List PV} {Rs:List Row} {τ:St} {a:Nat},(∀ (σ:St) (Q:PV->St->Prop) (X:St->Prop),Q (.ref σ.length) (σ++[.list L])->(U true (n+2)).C f [] σ Q X)->L.length=6->All2 DT Rs L->(∀ x∈Rs,Fam x)->(∀ x∈Rs,DX (rows++[x]))->τ[r]? = some (.list us)->DeckAt τ d a->a<=6+2*t →
    AN (U true (n+2)) [.exp (.meth (.var 64) .append [(.idx (.call f []) (.call 42 [(.var 61),(.int 6)]))])] Λ₁ τ (sq (U true (n+2)) [] (tk (fun _=>(U true (n+2)).free) (BN (U true (n+2)) 70 PP (fun _=>False)) ((List.range' (t+1) m).map fun(k:Nat)=>PV.int (k:Int)) (sq (U true (n+2)) r' R X)) (fun _=>False)) (fun _=>False):=by
   intro f L Rs τ a hf hL hv hfam hst hr D ha
   refine GC (DE (AC (AA k64) (AI (EK hr) (BS (NI hf (by lia) (by exact ar16) (by rw[hL];rfl) D (by lia) k61 fun v x τ' hx e D'=>BC ?_)))))
   have hr':=e _ _ hrd hr
   refine AI (a:=(.none,τ'.set r (.list (us++[x])))) ?_ (BD (AX ?_))
   ·have hf:fits us.length=true:=AY (by rw[← hd.rv.len];lia)
    simp only[mt_app,AG hr',hf,if_true]
   ·refine AD ?_<|hv.at hx;intro y hy hyx
    have hm:=List.mem_of_getElem? hy
    obtain⟨c,cells,c1,c2,c3,c4⟩:=D'
    have hcr:c≠r:=by lia
    exact TZ hrd' ⟨AW hr',All2.app hyx hd.rv,fun z hz=>(List.mem_append.mp hz).elim (hd.fam z) fun hz=>by rw[List.mem_singleton.mp hz];exact hfam y hm,hst y hm⟩ (by simp[ht]) ⟨c,cells,c1,BK c2 hrd,BK c3 (Ne.symm hcr),c4⟩ (by lia) (by exact ar7) k61 k64 fun σ' rows us a Λ' q1 q2 q3 q4 q5=>h σ' rows us a Λ' q1 q2 q3 q4 (ks.trans q5)
  have yes:∀ {τ:St} {a:Nat},τ[r]? = some (.list us)->DeckAt τ d a->a<=6+2*t->_:=fun{τ a} hr D ha=>app (f:=35) (L:=XG) (Rs:=heads0) (τ:=τ) (a:=a) (fun σ Q X h=>b2t h) rfl b2s (fun x hx=>.inl hx) (fun x hx=>by
   induction rows using List.casesOn with
   | nil =>
    unfold heads0 at hx
    simp only[List.mem_cons,List.not_mem_nil,or_false]at hx
    rcases hx with rfl | rfl | rfl | rfl | rfl | rfl<;>trivial
   | cons y ys=>exact TY hd.start (by simp)) hr D ha
  induction t using Nat.casesAuxOn with
  | zero =>
   refine MV (a7s (AC (AF (AA k70) AH rfl) (GY ?_)))
   refine GY ?_
   exact yes hd.at_ D (by exact ar1)
  | succ t =>
   refine MV (a7s (AC (AF (t:=false) (AA k70) AH ?_) (GX (FS (GK (below:=3) D (by lia) (by decide) rfl k61 fun v τ hv e D'=>AC AH (AI rfl ?_))))))
   ·show some (((t+1:Nat):Int)==0)=_
    rw[beq_eq_false_iff_ne.mpr (by lia)]
   ·refine CN (fun _=>yes (e _ _ hrd hd.at_) D' (by lia)) fun _=>?_
    refine app (f:=36) (L:=a1u) (Rs:=rows0) (fun σ Q X h=>b5q h) rfl b5p (fun x hx=>.inr hx) (fun x hx=>TY hd.start (fun e=>by rw[e]at ht;cases ht)) (e _ _ hrd hd.at_) D' (by lia)
noncomputable def spl(x:Str):List Str:=Txt.split x (sS ".")
noncomputable def mid0(x:Str):Str:=Txt.join (sS ".") (BQ (spl x) (some 1) none)
noncomputable def mid1(x:Str):Str:=Txt.replace (mid0 x) (sS "\\") (sS "\\\\")
noncomputable def mid2(x:Str):Str:=Txt.replace (mid1 x) (sS "\"") (sS "\\\"")
noncomputable def brk(x:Str):Str:=if(spl x).length=1 then sS "["++x++sS "]" else sS "["++(spl x).headD E0++sS " \""++mid2 x++sS "\"]"
noncomputable def JY(x y z:Str):Bool:=decide (y≠z/\fits (x.length+(x.length+1)*z.length)=true/\fits (Txt.replace x y z).length=true)
noncomputable def a1x(x:Str):Bool:=(decide (x.length<=1000)&&(decide ((sS ".").length≠0/\fits x.length=true/\(spl x).all (fun z=>fits z.length)=true/\fits (spl x).length=true)))&&((decide (JoinOk (sS ".") (BQ (spl x) (some 1) none)=true/\fits (mid0 x).length=true)&&(JY (mid0 x) (sS "\\") (sS "\\\\")&&JY (mid1 x) (sS "\"") (sS "\\\"")))&&(decide (((spl x).headD E0).length<=1000/\(mid2 x).length<=1000/\(spl x)≠[])))
theorem XH(l:List Str):BJ (l.map fun z=>.str z false)=some l:=by
 induction l with
 | nil=>rfl
 | cons x l ih=>exact NO ih
theorem RL{x y z:Str}{t:Bool}(h:JY x y z=true):meth τ (.str x t) .replace [.str y true,.str z true]=some (.str (Txt.replace x y z) false,τ):=by
 unfold JY at h
 rw[decide_eq_true_eq]at h
 show(if y≠z/\fits (x.length+(x.length+1)*z.length)=true/\fits (Txt.replace x y z).length=true then _ else none)=_
 rw[if_pos h]
theorem a4n{x:Str}{t:Bool}(hx:a1x x=true)(h:∀ u σ',Ext σ σ'->Q (.str (brk x) u) σ'):(U b (n+1)).C 46 [.str x t] σ Q X:=by
 unfold a1x at hx
 simp only[Bool.and_eq_true,decide_eq_true_eq]at hx
 revert hx;refine oA5 ?_;rintro⟨hl,hs⟩ ⟨hj,hr1,hr2⟩ h1 h2 h3
 refine AV (mb:=b_law_bracket) (Λ:=[(12,.str x t)]) rfl rfl rfl rfl ?_
 have e1:Ext σ (σ++[AO.list ((spl x).map fun z=>.str z false)]):=.app
 have hk:(σ++[AO.list ((spl x).map fun z=>PV.str z false)])[σ.length]? = some (.list ((spl x).map fun z=>.str z false)):=app_new
 refine AS (DE (AC (AA rfl) (AI (a:=none) rfl (BB (AB AM AE) (AI (a:=(.ref σ.length,σ++[AO.list ((spl x).map fun z=>.str z false)])) ?_ ?_)))))
 ·show(if(sS ".").length≠0/\fits x.length=true/\(spl x).all (fun z=>fits z.length)=true/\fits (spl x).length=true then _ else none)=_
  rw[if_pos hs];rfl
 ·have g12:get 12 (put 65 (PV.ref σ.length) [(12,.str x t)])=some (.str x t):=rfl
  have g65:get 65 (put 65 (PV.ref σ.length) [(12,.str x t)])=some (.ref σ.length):=rfl
  show AN _ _ (put 65 (PV.ref σ.length) [(12,.str x t)]) (σ++[AO.list ((spl x).map fun z=>.str z false)]) _ _
  revert g12 g65 hk e1
  generalize put 65 (PV.ref σ.length) [(12,.str x t)]=Λ
  generalize σ++[AO.list ((spl x).map fun z=>PV.str z false)]=σ₁
  generalize σ.length=k
  intro e1 hk g12 g65
  have l1:(sS "[").length=1:=by decide
  have l2:(sS "]").length=1:=by decide
  have l3:(sS " \"").length=2:=by decide
  have l4:(sS "\"]").length=2:=by decide
  have len:Ev (U b n) (.bi .len [(.var 65)]) Λ σ₁ (.int ((spl x).length:Nat)):=BR (AB (AA g65) AE) (by simp only[WM,AG hk,List.length_map])
  unfold brk at h
  by_cases hone:(spl x).length=1
  ·rw[if_pos hone]at h
   refine BV (AF len AH (by rw[hone];rfl)) (BA (AC (AT (AT AM (AA g12) (add_str (AY (by rw[l1];lia)))) AM (add_str (AY (by rw[str_len_app,l1,l2];lia)))) (h _ _ e1)))
  ·rw[if_neg hone]at h
   refine BL (AF (t:=false) len AH ?_) ?_
   ·show some (((spl x).length:Int)==1)=_
    rw[beq_eq_false_iff_ne.mpr (by lia)]
   ·have hcut:BQ ((spl x).map fun z=>PV.str z false) (some 1) none=(BQ (spl x) (some 1) none).map fun z=>PV.str z false:=by
     unfold BQ
     simp only[Option.elim,List.length_map,List.map_take,List.map_drop]
    refine AS (DE (DE (DE (AC AM (AI (a:=none) rfl (BS (a7t (AC (AA g65) (AC AH (AI (a:=(.ref σ₁.length,σ₁++[AO.list ((BQ (spl x) (some 1) none).map fun z=>.str z false)])) ?_ (BC (AI (a:=(.str (mid0 x) false,σ₁++[AO.list ((BQ (spl x) (some 1) none).map fun z=>.str z false)])) ?_ ?_))))))))))))
    ·show(match AK σ₁ k with | some vs=>some (PV.ref σ₁.length,σ₁++[AO.list (BQ vs (some 1) none)]) | none=>none)=_
     rw[AG hk]
     show some (PV.ref σ₁.length,σ₁++[AO.list (BQ ((spl x).map fun z=>PV.str z false) (some 1) none)])=_
     rw[hcut]
    ·simp only[a3z,AG (app_new (σ:=σ₁)),XH]
     exact if_pos hj
    ·refine AI (a:=none) rfl (BB (AB AM (AB AM AE)) (AI (RL hr1) ?_))
     refine AI (a:=none) rfl (BB (AB AM (AB AM AE)) (AI (RL hr2) ?_))
     have e2:=e1.trans (Ext.app (x:=[AO.list ((BQ (spl x) (some 1) none).map fun z=>.str z false)]))
     have hk2:=AP (τ:=[AO.list ((BQ (spl x) (some 1) none).map fun z=>PV.str z false)]) hk
     obtain⟨y,ys,hsp⟩:∃ y ys,spl x=y::ys:=by
      cases hsp:spl x with
      | nil=>exact absurd hsp h3
      | cons y ys=>exact⟨y,ys,rfl⟩
     have hy:((spl x).map fun z=>PV.str z false)[0]? = some (.str y false):=by rw[hsp];rfl
     have hh:(spl x).headD E0=y:=by rw[hsp];rfl
     rw[hh]at h h1
     have hfs:((spl x).map fun z=>PV.str z false).length<=1000000:=by
      have:=hs.2.2.2
      unfold fits at this
      rw[decide_eq_true_eq]at this
      rw[List.length_map];exact this
     show AN _ _ (put 66 (PV.str (mid2 x) false) Λ) (σ₁++[AO.list ((BQ (spl x) (some 1) none).map fun z=>.str z false)]) _ _
     refine BA (AC (AT (AT (AT (AT AM (BH (AA (AL rfl g65)) AH (FZ (k:=0) hk2 hy hfs)) (add_str (AY ?_))) AM (add_str (AY ?_))) (AA AU) (add_str (AY ?_))) AM (add_str (AY ?_))) (h _ _ e2))
     all_goals simp only[str_len_app,l1,l2,l3,l4];lia
noncomputable def GQ:List Str:=[sS "b",sS "core",sS "b.T \"u",sS "a.S q"]
noncomputable def badNews:List Str:=[sS "",sS "b c",sS "b_c"]
theorem b2u:∀ x∈GQ,a1x x=true/\KG x=some x/\NA x=true/\KW x=true/\oct (FF x)=oct (brk x)/\(oct (FF x)).length<=100000:=by decide +kernel
theorem b5s:∀ x∈badNews,KG x=none/\NA x=true:=by decide +kernel
noncomputable def LA:List Str:=[sS "core",sS "a.S q",sS "a.low",sS "a",sS "none",sS "CORE",sS "A.S q"]
noncomputable def DG(x:Str):Str:=if x=sS "CORE" then sS "core" else Txt.lower ⟨#[x.cps.getD 0 0]⟩++Txt.slice x (some 1) none
theorem LY:∀ x∈LA,KG x=some (DG x)/\NA x=true/\DG x≠E0/\0<x.length/\x.length<=100/\(Txt.lower ⟨#[x.cps.getD 0 0]⟩).length<=10:=by decide +kernel
theorem brs:∀ x∈GQ,LU (brk x) x:=by
 have e1:brk (sS "b")=sS "[b]":=by decide +kernel
 have e2:brk (sS "core")=sS "[core]":=by decide +kernel
 have e3:brk (sS "b.T \"u")=sS "[b \"T \\\"u\"]":=by decide +kernel
 have e4:brk (sS "a.S q")=sS "[a \"S q\"]":=by decide +kernel
 unfold GQ
 simp only[List.forall_mem_cons]
 rw[e1,e2,e3,e4]
 exact⟨br6,br1,br7,br3,fun _ h=>by cases h⟩
noncomputable def a4o(r:Row):Prop:=∃ a b c d,r = .head a b c d/\OD a/\IF c
theorem YW:∀ r∈heads0,a4o r:=by
 unfold heads0
 simp only[List.forall_mem_cons]
 exact⟨⟨_,_,_,_,rfl,pre1,post1⟩,⟨_,_,_,_,rfl,pre1,post2⟩,⟨_,_,_,_,rfl,pre2,post3⟩,⟨_,_,_,_,rfl,pre1,post1⟩,⟨_,_,_,_,rfl,pre3,post1⟩,⟨_,_,_,_,rfl,pre1,post1⟩,fun _ h=>by cases h⟩
noncomputable def SR(x:Str):Row->Row
 | .head a _ c _=>.head a (brk x) c x
 | r=>r
theorem a4p:∀ x∈GQ,∀ r∈heads0,CD (SR x r)=true/\XB (SR x r)=true/\RJ (SR x r)=true:=by decide +kernel
theorem a8p{near x:Str}{r:Row}(hx:x∈GQ)(hr:Fam r):Good1 (JL near x (brk x) r):=by
 have hg:=PO hr
 induction r using Row.casesOn with
 | head a b' c d =>
  show Good1 (if d=near then .head a (brk x) c x else .head a b' c d)
  split
  ·have hm:Row.head a b' c d∈heads0:=by
    rcases hr with h | h
    ·exact h
    ·exfalso
     unfold rows0 at h
     simp only[List.mem_cons,List.not_mem_nil,or_false]at h
     rcases h with h | h | h | h | h | h<;>cases h
   obtain⟨a',_,c',_,e,hp,hq⟩:=YW _ hm
   cases e
   refine oA3 ?_<|a4p x hx _ hm;intro n1 n2 n3
   exact⟨FG hp (brs x hx) hq,n1,n2,n3⟩
  ·exact hg
 | val y n' v=>exact hg
 | gap y=>exact hg
end
section
variable {b:Bool}{n i j k f c d a m:Nat}{T:Tb}{Λ Λ':Loc}{σ σ₀ τ ρ:St}{Q:PV->St->Prop}{X:St->Prop}{R:Fl->Loc->St->Prop}{o r s:List UInt8}{row:Int}{F:List PV->St->(Bool->Prop)->Prop}{Y:Bool->Prop}{K:Loc->St->Prop}
noncomputable def fk(T:Tb)(F:List PV->St->(Bool->Prop)->Prop)(Y:Bool->Prop)(r:List MS)(K:Loc->St->Prop):Fl->Loc->St->Prop
 | .next,Λ,σ=>wpF T F Y r Λ σ K
 | .ret v,_,_=>Fin Y (.ret v)
 | .cont,_,_=>False
theorem RM{k e r}(h:wpE T e Λ σ (fun v σ=>wpF T F Y r (put k v Λ) σ K) (fun _=>False)):wpF T F Y (.asg k e::r) Λ σ K:=h
theorem a4q{ks es r}(h:CX T es Λ σ (fun vs σ=>wpF T F Y r (puts ks.reverse vs.reverse Λ) σ K) (fun _=>False)):wpF T F Y (.asgT ks es::r) Λ σ K:=h
theorem XI{c a d r}(h:wpE T c Λ σ (fun x σ=>opt (truth x) fun t=>if t=true then wpF T F Y a Λ σ (fun Λ σ=>wpF T F Y r Λ σ K)else wpF T F Y d Λ σ (fun Λ σ=>wpF T F Y r Λ σ K)) (fun _=>False)):wpF T F Y (.ifS c a d::r) Λ σ K:=h
theorem OG(h:K Λ σ):wpF T F Y [] Λ σ K:=h
theorem a1y{e r}(he:not48 e=true)(h:wpE T e Λ σ (fun v _=>Fin Y (.ret v)) (fun _=>False)):wpF T F Y (.ret e::r) Λ σ K:=by
 show LM T F Y (.ret e) Λ σ _
 rw[TM he];exact h
theorem XJ{s r}(hp:QP s=true)(h:AN T [s] Λ σ (fk T F Y r K) (fun _=>False)):wpF T F Y (s::r) Λ σ K:=by
 show LM T F Y s Λ σ _
 rw[QQ hp]
 have h2:wpS T s Λ σ (sq T [] (fk T F Y r K) (fun _=>False)) (fun _=>False):=by rw[← b0b];exact h
 refine Eq.mp (congrArg (fun R=>wpS T s Λ σ R (fun _=>False)) ?_) h2
 funext f Λ σ;induction f using Fl.casesOn<;>rfl
theorem b0h{e h r}(hh:wpE T e Λ σ (fun _ σ=>wpF T F Y r Λ σ K) (fun σ=>AN T.under h Λ σ (fun f _ _=>Fin Y f) (fun _=>False))):wpF T F Y (.tryE [.exp e] 2 h::r) Λ σ K:=hh
theorem ZY{k e bd r'}(h:wpE T e Λ σ (fun v σ=>opt (EG v) fun l=>turns (fun _=>T.free) (BN T k bd (fun _=>False)) l Λ σ (sq T r' R X)) X):AN T (.forR k e bd::r') Λ σ R X:=LR h
noncomputable def ExtN(σ τ:St):Prop:=∀ (k:Nat) (a:AO),(∀ kvs,a≠.dict kvs)->σ[k]? = some a->τ[k]? = some a
theorem Ext.toN(h:Ext σ τ):ExtN σ τ:=fun k a _ e=>h k a e
theorem ExtN.trans(h:ExtN σ τ)(h':ExtN τ ρ):ExtN σ ρ:=fun k a hk e=>h' k a hk (h k a hk e)
theorem DeckAt.toN(D:DeckAt σ d a)(h:ExtD d σ τ):ExtN σ τ:=fun k x hx e=>h k x (by
 rintro rfl
 revert D;refine DO ?_;intro c cells _ h1 _
 rw[h1]at e;replace e:=sj e;subst e
 exact hx _ rfl) e
theorem ExtN.list{vs}(h:ExtN σ τ)(e:σ[k]? = some (.list vs)):τ[k]? = some (.list vs):=h k _ (fun _ q=>by cases q) e
theorem CfgN.extN{ps:List Pc}(h:CfgN σ c ps)(e:ExtN σ τ):CfgN τ c ps:=by
 obtain⟨j,refs,h1,h2,h3,h4⟩:=h
 refine⟨j,refs,e _ _ (fun _ q=>by cases q) h1,e.list h2,h3.keep fun q hq x hx=>e _ _ (fun _ z=>?_) hx,h4⟩
 refine AR ?_<|h3.isInst hq;intro fs hf
 rw[hx]at hf;replace hf:=sj hf;subst hf;cases z
theorem JZ{rows:List Row}{us:List PV}(hc:CfgAt σ c (AZ E0 rows))(hj:σ[j]? = some (.list us))(hr:All2 DT rows us)(hg:∀ r∈rows,Good1 r)(hl:rows.length<=100)(hst:DX rows)(h:∀ σ',Ext σ σ'->Q (.bool true) σ'):(U b (n+9)).C 47 [.ref c,.ref j] σ Q X:=by
 refine AD ?_<|NH (fun r hr=>(hg r hr).reads) none E0 [] (.inl hst);intro k hk e
 have L:=a4j (fun r hr=>(hg r hr).sm) (by exact ar1:rows.length<=1000)
 exact b5l (m:=0+k) hc hj hr L (ZW hg (by exact ar1)) (by lia) (e 0) L h
noncomputable def LB:List PV:=[.str (sS "core") false,.str (sS "a.S q") false,.str (sS "a.low") false,.str (sS "a") false,.str (sS "none") false,.str (sS "CORE") true,.str (sS "A.S q") true]
theorem asked_v:All2 (fun x v=>∃ t,v = .str x t) LA LB:=⟨⟨_,rfl⟩,⟨_,rfl⟩,⟨_,rfl⟩,⟨_,rfl⟩,⟨_,rfl⟩,⟨_,rfl⟩,⟨_,rfl⟩,trivial⟩
theorem news_v:All2 (fun x v=>v = .str x true) newsL a1v:=⟨rfl,rfl,rfl,rfl,rfl,rfl,rfl,trivial⟩
theorem a4r{vs us:List PV}(h:σ[j]? = some (.list us))(hf:fits (vs.length+us.length)=true):bin σ .add (.flist vs) (.ref j)=some (.ref σ.length,σ++[.list (vs++us)]):=by
 simp only[b8k,bn_ref,AG h,hf,if_true]
theorem b2v(D:DeckAt σ d a)(ha:a<=1000)(g61:get 61 Λ=some (.ref d))(h:∀ x t σ',x∈LA->ExtD d σ σ'->DeckAt σ' d (a+1)->Q (.str x t) σ') :
  wpE (U b (n+1)) (.idx (.bin .add (.glob 0) (.lst [(.str "CORE"),(.str "A.S q")])) (.call 42 [(.var 61),(.int 7)])) Λ σ Q X:=by
 refine QT (FQ (AC HR (CG (BB (AB AM (AB AM AE)) (AI (a:=(.ref (σ++[AO.list [pS "CORE",pS "A.S q"]]).length,σ++[AO.list [pS "CORE",pS "A.S q"]]++[.list LB])) ?_ ?_)))))
 ·exact a4r app_new (by decide)
 ·have e0:Ext σ (σ++[AO.list [pS "CORE",pS "A.S q"]]++[AO.list LB]):=Ext.app.trans .app
  refine GK (below:=7) (D.ext e0) ha (by decide) rfl g61 fun v σ' hv e D'=>?_
  have hlt:=(D.ext (Ext.app (x:=[AO.list [pS "CORE",pS "A.S q"]]))).lt
  have hk:σ'[(σ++[AO.list [pS "CORE",pS "A.S q"]]).length]? = some (.list LB):=e _ _ (by lia) app_new
  have hx:LB[v]? = some LB[v]:=List.getElem?_eq_getElem hv
  obtain⟨x,hx1,t,hx2⟩:=asked_v.at hx
  refine AI (FZ hk (hx.trans (by rw[hx2])) (by decide)) (h x t σ' (List.mem_of_getElem? hx1) (e0.toD.trans e) D')
theorem b8o{x:Str}{t:Bool}(hx:x∈LA)(g71:get 71 Λ=some (.str x t)):∃ u,Ev T (.ite (.cmp .ne (.var 71) (.str "CORE")) (.bin .add (.meth (.idx (.var 71) (.int 0)) .lower []) (.sliceL (.var 71) (.int 1))) (.str "core")) Λ σ (.str (DG x) u):=by
 obtain⟨_,_,_,h1,h2,h3⟩:=LY x hx
 unfold DG
 by_cases hc:x=sS "CORE"
 ·rw[if_pos hc]
  subst hc
  exact⟨true,ER (ZQ g71) AM⟩
 ·rw[if_neg hc]
  refine⟨true&&t,GB (ZP g71 hc) (AT (CO (BH (v:=.str ⟨#[x.cps.getD 0 0]⟩ false) (AA g71) AH ?_) rfl AE (LT rfl)) (EY (AA g71) AH rfl) (add_str (AY ?_)))⟩
  ·show(if 0<=(0:Int)/\CF 0=true then(x.cps[(0:Int).toNat]?).map (fun c=>PV.str ⟨#[c]⟩ false)else none)=_
   rw[if_pos (by decide)]
   have h0:0<x.cps.size:=h1
   have:x.cps[(0:Int).toNat]? = some (x.cps.getD 0 0):=by
    show x.cps[0]? = _
    rw[Array.getElem?_eq_getElem h0]
    simp[Array.getD,h0]
   rw[this];rfl
  ·have:(Txt.slice x (some 1) none).length<=1000:=by
    have key:∀ x∈LA,(Txt.slice x (some 1) none).length<=1000:=by decide +kernel
    exact key x hx
   lia
noncomputable def isOld(old:Str):Row->Bool
 | .head _ _ _ d=>decide (d=old)
 | .val _ _ _=>false
 | .gap _=>false
theorem a4s(old:Str)(r:Row)(rows:List Row):cntR old (r::rows)=(if isOld old r=true then 1 else 0)+cntR old rows:=by
 induction r using Row.casesOn with
 | head a b c d =>
  by_cases hd:d=old
  ·simp[cntR,isOld,hd,Nat.add_comm]
  ·simp[cntR,isOld,hd]
 | val _ _ _=>simp[cntR,isOld]
 | gap _=>simp[cntR,isOld]
theorem UA{r:Row}{v:PV}{old:Str}{u:Bool}(hv:DT r v)(g17:get 17 Λ=some v)(g36:get 36 Λ=some (.str old u)):Ev T (.and (.cmp .eq (.bi .len [(.var 17)]) (.int 4)) (.cmp .eq (.idx (.var 17) (.int 3)) (.var 36))) Λ σ (.bool (isOld old r)):=by
 induction r using Row.casesOn with
 | head a b' c d =>
  revert hv;refine UR ?_;rintro t1 t2 t3 t4 rfl
  exact EJ (t:=true) (AF (BR (AB (AA g17) AE) rfl) AH rfl) fun _=>AF (BH (AA g17) AH rfl) (AA g36) BU
 | val x n' w =>
  revert hv;refine DP ?_;rintro t1 t2 q rfl hq
  exact HW (AF (BR (AB (AA g17) AE) rfl) AH rfl)
 | gap x =>
  revert hv;refine AR ?_;rintro t1 rfl
  exact HW (AF (BR (AB (AA g17) AE) rfl) AH rfl)
theorem UB{old:Str}{u:Bool}{Λ:Loc}(g36:get 36 Λ=some (.str old u)):∀ {rows:List Row} {us:List PV},All2 DT rows us->∃ ws,Gath (EL T (.var 17) [(.and (.cmp .eq (.bi .len [(.var 17)]) (.int 4)) (.cmp .eq (.idx (.var 17) (.int 3)) (.var 36)))] 17 Λ σ) us ws/\ws.length=cntR old rows
 | [],[],_=>⟨[],.nil,rfl⟩
 | r::rows,v::us,h=>by
  refine AD ?_<|UB g36 h.2;intro ws g1 g2
  have g17:get 17 (put 17 v Λ)=some v:=AU
  have ev:=UA (T:=T) (σ:=σ) h.1 g17 (AL rfl g36)
  have hc:=a4s old r rows
  revert ev hc
  generalize isOld old r=t
  intro ev hc
  induction t using Bool.casesOn with
  | true=>exact⟨v::ws,.one ⟨ev,AA g17⟩ g1,by rw[hc,List.length_cons,g2];simp;lia⟩
  | false=>exact⟨ws,.no ev g1,by rw[hc,g2];simp⟩
 | [],_::_,h=>h.elim
 | _::_,[],h=>h.elim
theorem XK{Λ:Loc}:∀ {rows:List Row} {us:List PV},All2 DT rows us->∃ ws,Gath (EL T (.var 17) [(.and (.cmp .eq (.bi .len [(.var 17)]) (.int 4)) (.cmp .ne (.idx (.var 17) (.int 0)) (.str "")))] 17 Λ σ) us ws
 | [],[],_=>⟨[],.nil⟩
 | r::rows,v::us,h=>by
  refine AR ?_<|XK (Λ:=Λ) h.2;intro ws g1
  have g17:get 17 (put 17 v Λ)=some v:=AU
  induction r using Row.casesOn with
  | head a b' c d =>
   refine UR ?_<|h.1;rintro t1 t2 t3 t4 rfl
   have ev:=EJ (T:=T) (σ:=σ) (t:=true) (AF (op:=.eq) (BR (g:=.len) (AB (AA g17) AE) rfl) (AH (i:=4)) rfl) fun _=>AF (op:=.ne) (BH (AA g17) (AH (i:=0)) rfl) (AM (x:=sS "")) DW
   cases hz:decide (a=sS "")with
   | true=>rw[hz]at ev;exact⟨ws,.no ev g1⟩
   | false=>rw[hz]at ev;exact⟨_::ws,.one ⟨ev,AA g17⟩ g1⟩
  | val x n' w =>
   refine DP ?_<|h.1;rintro t1 t2 q rfl hq
   exact⟨ws,.no (HW (AF (BR (AB (AA g17) AE) rfl) AH rfl)) g1⟩
  | gap x =>
   refine AR ?_<|h.1;rintro t1 rfl
   exact⟨ws,.no (HW (AF (BR (AB (AA g17) AE) rfl) AH rfl)) g1⟩
 | [],_::_,h=>h.elim
 | _::_,[],h=>h.elim
end
section
variable {b:Bool}{n i j k f c d a m e:Nat}{T:Tb}{Λ Λ':Loc}{σ σ₀ τ ρ:St}{Q:PV->St->Prop}{X:St->Prop}{R:Fl->Loc->St->Prop}{o s:List UInt8}{row:Int}{F:List PV->St->(Bool->Prop)->Prop}{Y:Bool->Prop}{K:Loc->St->Prop}
theorem HX{x y z}(h:wpE T x Λ σ (fun v σ=>opt (truth v) fun t=>if t=true then wpE T y Λ σ Q X else wpE T z Λ σ Q X) X):wpE T (.ite x y z) Λ σ Q X:=h
theorem LZ{vs us:List PV}(hi:σ[i]? = some (.list vs))(hj:σ[j]? = some (.list us))(hf:vs.length+us.length<=1000000):bin σ .add (.ref i) (.ref j)=some (.ref σ.length,σ++[.list (vs++us)]):=by
 simp only[bn_ref,AG hi,AG hj,AY hf,if_true]
theorem All2.append{α β:Type}{R:α->β->Prop}{as':List α}{bs':List β}(h':All2 R as' bs'):∀ {as:List α} {bs:List β},All2 R as bs->All2 R (as++as') (bs++bs')
 | [],[],_=>h'
 | _::_,_::_,h=>⟨h.1,All2.append h' h.2⟩
 | [],_::_,h=>h.elim
 | _::_,[],h=>h.elim
noncomputable def ExtE(e:Nat)(σ τ:St):Prop:=∀ (k:Nat) (a:AO),k≠e->σ[k]? = some a->τ[k]? = some a
theorem ExtE.trans(h:ExtE e σ τ)(h':ExtE e τ ρ):ExtE e σ ρ:=fun k a hk x=>h' k a hk (h k a hk x)
noncomputable abbrev OH:List MS:=[.ifS (.and (.cmp .eq (.bi .len [(.var 17)]) (.int 4)) (.cmp .eq (.idx (.var 17) (.int 3)) (.var 36))) [.exp (.meth (.var 73) .append [(.tup [(.idx (.var 17) (.int 0)),(.call 46 [(.var 37)]),(.idx (.var 17) (.int 2)),(.var 37)])])] [.exp (.meth (.var 73) .append [(.var 17)])]]
theorem a8q{old new br:Str}{r:Row}(h:isOld old r=false):JL old new br r=r:=by
 induction r using Row.casesOn with
 | head a b c d=>exact if_neg (by simpa [isOld] using h)
 | val _ _ _=>rfl
 | gap _=>rfl
theorem a8r{old new:Str}{u v:Bool}{r:Nat}{rs:List PV}{r':List MS}(hnew:a1x new=true)(hre:r≠e):∀ {rows acc:List Row} {us ws:List PV} {Λ:Loc} {τ:St},All2 DT rows us->All2 DT acc ws->ws.length+rows.length<=1000->τ[r]? = some (.list rs)->τ[e]? = some (.list ws) →
  get 73 Λ=some (.ref e)->get 37 Λ=some (.str new v)->get 36 Λ=some (.str old u) →
  (∀ ws' τ' Λ',All2 DT (acc++rows.map (JL old new (brk new))) ws'->τ'[e]? = some (.list ws')->ExtE e τ τ'->SameBut 17 Λ Λ'->AN (U b (n+1)) r' Λ' τ' R X) →
  turns (DB r rs) (BN (U b (n+1)) 17 OH X) us Λ τ (sq (U b (n+1)) r' R X):=by
 intro rows acc us ws Λ τ hv'
 revert acc ws Λ τ
 refine no_implicit_lambda% (All2.ind ?_ ?_ hv')
 ·intro acc ws Λ τ ha _ hr he _ _ _ h
  exact⟨AG hr,h ws τ Λ (by simpa using ha) he (fun _ _ _ h=>h) .refl⟩
 ·clear hv'
  intro row rows x us hv _ ih acc ws Λ τ ha hl hr he g73 g37 g36 h
  refine turn (AG hr) ?_
  show AN (U b (n+1)) OH (put 17 x Λ) τ _ X
  have k17:get 17 (put 17 x Λ)=some x:=AU
  have k73:get 73 (put 17 x Λ)=some (.ref e):=AL rfl g73
  have k37:get 37 (put 17 x Λ)=some (.str new v):=AL rfl g37
  have k36:get 36 (put 17 x Λ)=some (.str old u):=AL rfl g36
  have ks:SameBut 17 Λ (put 17 x Λ):=.put
  revert k17 k73 k37 k36 ks
  generalize put 17 x Λ=Λ₁
  intro k17 k73 k37 k36 ks
  simp only[List.length_cons]at hl
  have next:∀ {τ':St} {y:PV},Ext τ τ'->DT (JL old new (brk new) row) y->turns (DB r rs) (BN (U b (n+1)) 17 OH X) us Λ₁ (τ'.set e (.list (ws++[y]))) (sq (U b (n+1)) r' R X):=fun{τ' y} ex hy=>by
   refine ih (acc:=acc++[JL old new (brk new) row]) (All2.app hy ha) (by simp;exact ar7) (BK (ex _ _ hr) (Ne.symm hre)) (AW (ex _ _ he)) k73 k37 k36 fun ws' τ'' Λ' h1 h2 h3 h4=>h ws' τ'' Λ' ?_ h2 (fun k a hk ha=>h3 k a hk (BK (ex _ _ ha) (Ne.symm hk))) (ks.trans h4)
   rw[List.append_assoc]at h1;exact h1
  have hf:fits ws.length=true:=AY (by exact ar15)
  have ev:=UA (T:=U b (n+1)) (σ:=τ) hv k17 k36
  cases ht:isOld old row with
  | true =>
   rw[ht]at ev
   induction row using Row.casesOn with
   | val _ _ _=>exact noF ht
   | gap _=>exact noF ht
   | head p q s d =>
    revert hv;refine UR ?_;rintro t1 t2 t3 t4 rfl
    have hd:d=old:=by simpa [isOld] using ht
    refine BV ev (GC (DE (AC (AA k73) (AI (EK he) (BS (a1e (BS (AC (BH (AA k17) AH rfl) (BS (CP (BB (AB (AA k37) AE) (a4n (n:=n) hnew fun z τ' ex=>BB (AB (BH (AA k17) AH rfl) (AB (AA k37) AE)) (BC ?_)))))))))))))
    refine AI (a:=(.none,τ'.set e (.list (ws++[.tup [.str p t1,.str (brk new) z,.str s t3,.str new v]])))) ?_ (BD (AX ?_))
    ·simp only[mt_app,AG (ex _ _ he),hf,if_true]
    ·refine next ex ?_
     have:JL old new (brk new) (.head p q s d) = .head p (brk new) s new:=if_pos hd
     rw[this]
     exact⟨_,_,_,_,rfl⟩
  | false =>
   rw[ht]at ev
   refine FY ev (GC (DE (AC (AA k73) (AI (EK he) (BS (AC (AA k17) (BC ?_)))))))
   refine AI (a:=(.none,τ.set e (.list (ws++[x])))) ?_ (BD (AX ?_))
   ·simp only[mt_app,AG he,hf,if_true]
   ·refine next .refl ?_
    rw[a8q ht];exact hv
noncomputable def Same3(Λ Λ':Loc):Prop:=∀ j,j≠17->j≠42->j≠73->get j Λ'=get j Λ
noncomputable abbrev OI:List MS:=[.asg 42 (.ite (.cmp .eq (.bi .len [(.var 17)]) (.int 4)) (.cmp .eq (.idx (.var 17) (.int 3)) (.var 36)) (.var 42)),.asg 73 (.bin .add (.var 73) (.ite (.var 42) (.lst []) (.lst [(.var 17)])))]
theorem a8s{old:Str}{u:Bool}{r:Nat}{rs:List PV}{r':List MS}:∀ {rows acc:List Row} {us ws:List PV} {Λ:Loc} {τ:St} {e:Nat} {isin:Bool},All2 DT rows us->All2 DT acc ws->ws.length+rows.length<=1000->τ[r]? = some (.list rs)->τ[e]? = some (.list ws) →
  get 73 Λ=some (.ref e)->get 42 Λ=some (.bool isin)->get 36 Λ=some (.str old u) →
  (∀ ws' τ' Λ' e',All2 DT (acc++remR old isin rows) ws'->τ'[e']? = some (.list ws')->get 73 Λ'=some (.ref e')->Ext τ τ'->Same3 Λ Λ'->AN (U b (n+1)) r' Λ' τ' R X) →
  turns (DB r rs) (BN (U b (n+1)) 17 OI X) us Λ τ (sq (U b (n+1)) r' R X):=by
 intro rows
 induction rows with
 | nil =>
  intro acc l2 ws Λ τ e isin hE ha _ hr he g73 _ _ h
  induction l2 using List.casesOn with
  | nil=>exact⟨AG hr,h ws τ Λ e (by simpa [remR] using ha) he g73 .refl fun _ _ _ _=>rfl⟩
  | cons _ _=>exact hE.elim
 | cons row rows ih =>
  intro acc l2 ws Λ τ e isin hv ha hl hr he g73 g42 g36 h
  induction l2 using List.casesOn with
  | nil=>exact hv.elim
  | cons x us =>
  refine turn (AG hr) ?_
  show AN (U b (n+1)) OI (put 17 x Λ) τ _ X
  have k17:get 17 (put 17 x Λ)=some x:=AU
  have k73:get 73 (put 17 x Λ)=some (.ref e):=AL rfl g73
  have k42:get 42 (put 17 x Λ)=some (.bool isin):=AL rfl g42
  have k36:get 36 (put 17 x Λ)=some (.str old u):=AL rfl g36
  have ks:Same3 Λ (put 17 x Λ):=fun j h1 _ _=>by rw[get_put,if_neg h1]
  revert k17 k73 k42 k36 ks
  generalize put 17 x Λ=Λ₁
  intro k17 k73 k42 k36 ks
  simp only[List.length_cons]at hl
  have ev:Ev (U b (n+1)) (.ite (.cmp .eq (.bi .len [(.var 17)]) (.int 4)) (.cmp .eq (.idx (.var 17) (.int 3)) (.var 36)) (.var 42)) Λ₁ τ (.bool (inR old isin row)):=by
   induction row using Row.casesOn with
   | head p q s d =>
    refine UR ?_<|hv.1;rintro t1 t2 t3 t4 rfl
    exact GB (AF (BR (AB (AA k17) AE) rfl) AH rfl) (AF (BH (AA k17) AH rfl) (AA k36) BU)
   | val y n' w =>
    refine DP ?_<|hv.1;rintro t1 t2 q rfl hq
    exact ER (AF (BR (AB (AA k17) AE) rfl) AH rfl) (AA k42)
   | gap y =>
    refine AR ?_<|hv.1;rintro t1 rfl
    exact ER (AF (BR (AB (AA k17) AE) rfl) AH rfl) (AA k42)
  refine AS (AC ev ?_)
  have m17:get 17 (put 42 (PV.bool (inR old isin row)) Λ₁)=some x:=AL rfl k17
  have m73:get 73 (put 42 (PV.bool (inR old isin row)) Λ₁)=some (.ref e):=AL rfl k73
  have m42:get 42 (put 42 (PV.bool (inR old isin row)) Λ₁)=some (.bool (inR old isin row)):=AU
  have m36:get 36 (put 42 (PV.bool (inR old isin row)) Λ₁)=some (.str old u):=AL rfl k36
  have ms:Same3 Λ (put 42 (PV.bool (inR old isin row)) Λ₁):=fun j h1 h2 h3=>by rw[get_put,if_neg h2];exact ks j h1 h2 h3
  revert m17 m73 m42 m36 ms
  generalize put 42 (PV.bool (inR old isin row)) Λ₁=Λ₂
  intro m17 m73 m42 m36 ms
  have fin:∀ {zs:List PV} {rs':List Row},All2 DT rs' zs->zs.length<=1->(rs'++remR old (inR old isin row) rows=remR old isin (row::rows)) →
    opt (bin (τ++[AO.list zs]) .add (.ref e) (.ref τ.length)) fun q=>AN (U b (n+1)) [] (put 73 q.1 Λ₂) q.2 (tk (DB r rs) (BN (U b (n+1)) 17 OI X) us (sq (U b (n+1)) r' R X)) X:=fun{zs rs'} hz hzl hq=>by
   refine AI (LZ (AP he) app_new (by lia)) (AX ?_)
   refine ih (acc:=acc++rs') hv.2 (All2.append hz ha) (by simp;lia) (AP (AP hr)) app_new AU (AL rfl m42) (AL rfl m36) fun ws' τ' Λ' e' h1 h2 h3 h4 h5=>h ws' τ' Λ' e' ?_ h2 h3 ((Ext.app.trans .app).trans h4) fun j a1 a2 a3=>(h5 j a1 a2 a3).trans (by rw[get_put,if_neg a3];exact ms j a1 a2 a3)
   rw[List.append_assoc,hq]at h1;exact h1
  refine AS (FQ (AC (AA m73) (HX (AC (AA m42) (CN (fun ht=>?_) fun ht=>?_)))))
  ·refine CG (BC (fin (zs:=[]) (rs':=[]) trivial (by simp) ?_))
   rw[ht,remR,ht,if_pos rfl];rfl
  ·refine CG (BB (AB (AA m17) AE) (fin (zs:=[x]) (rs':=[row]) ⟨hv.1,trivial⟩ (by simp) ?_))
   rw[ht,remR,ht,if_neg (by decide)];rfl
end
section
variable {b:Bool}{n i j k f c d a m e r:Nat}{T:Tb}{Λ Λ':Loc}{σ σ₀ τ ρ:St}{Q:PV->St->Prop}{X:St->Prop}{R:Fl->Loc->St->Prop}{o s:List UInt8}{row:Int}{F:List PV->St->(Bool->Prop)->Prop}{K:Loc->St->Prop}{rows:List Row}{us:List PV}
noncomputable abbrev isT:Bool->Prop:=fun b=>b=true
structure At48(Λ:Loc)(σ:St)(r c d a e:Nat)(rows:List Row)(us:List PV)(x:Str):Prop where
 g61:get 61 Λ=some (.ref d)
 g64:get 64 Λ=some (.ref r)
 g67:get 67 Λ=some (.ref c)
 g71:∃ t,get 71 Λ=some (.str x t)
 g36:∃ t,get 36 Λ=some (.str (DG x) t)
 g72:get 72 Λ=some (.int (cntR (DG x) rows:Nat))
 g73:get 73 Λ=some (.ref e)
 g42:get 42 Λ=some (.bool false)
 hx:x∈LA
 hr:σ[r]? = some (.list us)
 rv:All2 DT rows us
 fam:∀ x∈rows,Fam x
 start:DX rows
 len:rows.length<=10
 cfg:∃ j refs,j≠e/\σ[c]? = some (.inst 5 [(18,.ref j)])/\σ[j]? = some (.list (refs.map .ref))/\PcsAt σ refs (AZ E0 rows)/\refs.Nodup
 he:σ[e]? = some (.list [])
 hre:r≠e
 deck:DeckAt σ d a
 few:a<=100
variable {x:Str}
theorem At48.cfgN(h:At48 Λ σ r c d a e rows us x):CfgN σ c (AZ E0 rows):=let⟨j,refs,_,h1,h2,h3,h4⟩:=h.cfg;⟨j,refs,h1,h2,h3,h4⟩
theorem At48.move{a':Nat}(h:At48 Λ σ r c d a e rows us x)(hn:ExtN σ τ)(D:DeckAt τ d a')(ha:a'<=100):At48 Λ τ r c d a' e rows us x:=by
 obtain⟨j,refs,h0,h1,h2,h3,h4⟩:=h.cfg
 refine{h with hr:=hn.list h.hr,he:=hn.list h.he,deck:=D,few:=ha,cfg:=⟨j,refs,h0,hn _ _ (fun _ q=>by cases q) h1,hn.list h2,h3.keep fun q hq x hx=>hn _ _ (fun _ z=>?_) hx,h4⟩ }
 refine AR ?_<|h3.isInst hq;intro fs hf
 rw[hx]at hf;replace hf:=sj hf;subst hf;cases z
theorem At48.good(h:At48 Λ σ r c d a e rows us x):∀ r∈rows,Good1 r:=fun r hr=>PO (h.fam r hr)
theorem At48.raws(h:At48 Λ σ r c d a e rows us x):∀ p∈AZ E0 rows,p.raw.length<=100000:=fun p hp=>by
 have:=(LV (fun r hr=>(h.good r hr).sm) (by decide) p hp).2
 exact ar1
theorem CfgN.afterE{ps:List Pc}{j:Nat}{refs:List Nat}{vs:List PV}(h0:j≠e)(h1:σ[c]? = some (.inst 5 [(18,.ref j)]))(h2:σ[j]? = some (.list (refs.map .ref)))(h3:PcsAt σ refs ps)(h4:refs.Nodup)(he:σ[e]? = some (.list vs))(x:ExtE e σ τ):CfgN τ c ps:=by
 have hce:c≠e:=by rintro rfl;rw[h1]at he;replace he:=sj he;cases he
 exact⟨j,refs,x _ _ hce h1,x _ _ h0 h2,h3.keep fun q hq y hy=>x _ _ (by rintro rfl;exact h3.notList he hq) hy,h4⟩
theorem ExtP.list{vs}(h:ExtP σ τ)(e:σ[k]? = some (.list vs)):τ[k]? = some (.list vs):=h k _ (fun _ q=>by cases q) e
theorem a4t{new:Str}{v:Bool}(h:At48 Λ σ r c d a e rows us x)(hn:new∈GQ)(g37:get 37 Λ=some (.str new v)) :
  wpF (U true (n+12)) F isT [.for 17 (.var 64) OH,.ret (.and (.cmp .eq (.meth (.var 67) (.own 75) [(.var 71),(.var 37)]) (.var 72)) (.call 47 [(.var 67),(.var 73)]))] Λ σ K:=by
 obtain⟨n1,n2,n3,n4,n5,n6⟩:=b2u new hn
 refine oA4 ?_<|LY x h.hx;intro a1 a2 a3 _
 obtain⟨t,g71⟩:=h.g71
 obtain⟨t',g36⟩:=h.g36
 have hlen:=h.len
 refine XJ rfl (GL (j:=r) (vs:=us) (AA h.g64) h.hr ?_)
 refine a8r (n:=n+11) (acc:=[]) (ws:=[]) n1 h.hre h.rv trivial (by simp;exact ar1) h.hr h.he h.g73 g37 g36 fun ws τ Λ' d1 d2 d3 d4=>AX ?_
 have k67:get 67 Λ'=some (.ref c):=(d4 67 (by decide)).trans h.g67
 have k71:get 71 Λ'=some (.str x t):=(d4 71 (by decide)).trans g71
 have k37:get 37 Λ'=some (.str new v):=(d4 37 (by decide)).trans g37
 have k72:get 72 Λ'=some (.int (cntR (DG x) rows:Nat)):=(d4 72 (by decide)).trans h.g72
 have k73:get 73 Λ'=some (.ref e):=(d4 73 (by decide)).trans h.g73
 obtain⟨j,refs,h0,h1,h2,h3,h4⟩:=h.cfg
 have hc:CfgN τ c (AZ E0 rows):=CfgN.afterE h0 h1 h2 h3 h4 h.he d3
 obtain⟨j2,refs2,c1,c2,c3,c4⟩:=id hc
 refine a1y rfl (NW (FS (EC (AA k67) (BO c1 rfl rfl) (BB (AB (AA k71) (AB (AA k37) AE)) (XA (n:=n+8) hc a2 n3 a1 h.raws (fun far hf=>?_) fun hf=>by rw[n2]at hf;exact noT hf)))))
 rw[n2]at hf
 replace hf:=sj hf;subst hf
 refine⟨n4,n6,fun τ₂ hp hc2=>AC (AA k72) (AI (a:=true) ?_ ?_)⟩
 ·rw[PM]
  show some (((cntR (DG x) rows:Nat):Int)==((cntR (DG x) rows:Nat):Int))=_
  rw[beq_self_eq_true]
 ·refine GY ?_
  have hrows:(AZ E0 rows).map (DS (DG x) new (oct (FF new)))=AZ E0 (rows.map (JL (DG x) new (brk new))):=by
   rw[XE n5 (fun r hr=>(h.good r hr).ind),if_neg (Ne.symm a3)]
  rw[hrows]at hc2
  refine CP (BB (AB (AA k67) (AB (AA k73) AE)) (JZ (n:=n+3) hc2 (hp.list d2) d1 (fun q hq=>?_) (by rw[List.length_map];exact ar1) ?_ fun _ _=>rfl))
  ·refine AD ?_<|List.mem_map.mp hq;rintro q' hq' rfl
   exact a8p hn (h.fam q' hq')
  ·induction rows using List.casesOn with
   | nil=>trivial
   | cons q qs =>
    induction q using Row.casesOn with
    | head p1 p2 p3 p4 =>
     show DX ((if p4=DG x then _ else _)::_)
     split<;>trivial
    | val _ _ _=>exact h.start.elim
    | gap _=>exact h.start.elim
theorem a8t{new:Str}{v:Bool}{r':List MS}(h:At48 Λ σ r c d a e rows us x)(hn:new∈badNews)(g37:get 37 Λ=some (.str new v)) :
  wpF (U true (n+12)) F isT (.tryE [.exp (.meth (.var 67) (.own 75) [(.var 71),(.var 37)])] 2 [.ret (.call 47 [(.var 67),(.var 64)])]::r') Λ σ K:=by
 refine oA2 ?_<|b5s new hn;intro n1 n2
 refine oA4 ?_<|LY x h.hx;intro a1 a2 a3 _
 obtain⟨t,g71⟩:=h.g71
 have hlen:=h.len
 obtain⟨j2,refs2,c1,c2,c3,c4⟩:=h.cfgN
 refine b0h (EC (AA h.g67) (BO c1 rfl rfl) (BB (AB (AA g71) (AB (AA g37) AE)) (XA (n:=n+8) h.cfgN a2 n2 a1 h.raws (fun far hf=>by rw[n1]at hf;exact noS hf) fun _=>⟨rfl,?_⟩)))
 show AN (U false (n+12)) _ _ _ _ _
 exact BA (CP (BB (AB (AA h.g67) (AB (AA h.g64) AE)) (JZ (n:=n+3) h.cfgN.at h.hr h.rv h.good (by exact ar1) h.start fun _ _=>rfl)))
theorem a8u{r':List MS}(h:At48 Λ σ r c d a e rows us x) :
  wpF (U true (n+12)) F isT (.for 17 (.var 64) OI::.ret (.and (.cmp .eq (.meth (.var 67) (.own 74) [(.var 71)]) (.var 72)) (.call 47 [(.var 67),(.var 73)]))::r') Λ σ K:=by
 refine oA4 ?_<|LY x h.hx;intro a1 a2 a3 _
 obtain⟨t,g71⟩:=h.g71
 obtain⟨t',g36⟩:=h.g36
 have hlen:=h.len
 refine XJ rfl (GL (j:=r) (vs:=us) (AA h.g64) h.hr ?_)
 refine a8s (n:=n+11) (acc:=[]) (ws:=[]) h.rv trivial (by simp;exact ar1) h.hr h.he h.g73 h.g42 g36 fun ws τ Λ' e' d1 d2 d3 d4 d5=>AX ?_
 have k67:get 67 Λ'=some (.ref c):=(d5 67 (by decide) (by decide) (by decide)).trans h.g67
 have k71:get 71 Λ'=some (.str x t):=(d5 71 (by decide) (by decide) (by decide)).trans g71
 have k72:get 72 Λ'=some (.int (cntR (DG x) rows:Nat)):=(d5 72 (by decide) (by decide) (by decide)).trans h.g72
 have hc:=h.cfgN.ext d4
 obtain⟨j2,refs2,c1,c2,c3,c4⟩:=id hc
 have hrem:remF (DG x) false [] (AZ E0 rows)=some (AZ E0 (remR (DG x) false rows)):=(GP (kept:=[]) rfl).1
 have hfew:=XD rows E0
 refine a1y rfl (NW (FS (EC (AA k67) (BO c1 rfl rfl) (BB (AB (AA k71) AE) (a8l (n:=n+8) hc.at a2 a1 (by lia) hrem fun τ₂ hp hc2=>AC (AA k72) (AI (a:=true) ?_ ?_))))))
 ·rw[PM]
  show some (((cntR (DG x) rows:Nat):Int)==((cntR (DG x) rows:Nat):Int))=_
  rw[beq_self_eq_true]
 ·refine GY ?_
  have hee:e'≠c:=by rintro rfl;rw[c1]at d2;replace d2:=sj d2;cases d2
  have hrl:=SQ (near:=DG x) rows false
  exact CP (BB (AB (AA k67) (AB (AA d3) AE)) (JZ (n:=n+3) hc2 (hp _ _ hee d2) d1 (fun q hq=>h.good q (SP hq)) (by lia) (rem_start.2 h.start) fun _ _=>rfl))
theorem a8v(h:At48 Λ σ r c d a e rows us x)(ha:a<=90) :
  wpF (U true (n+12)) F isT (b_law_sections_right.drop 6) Λ σ K:=by
 have hlen:=h.len
 -- a renaming
 have B:∀ {τ:St} {a:Nat},At48 Λ τ r c d a e rows us x->a<=95->wpF (U true (n+12)) F isT (b_law_sections_right.drop 7) Λ τ K:=fun{τ a} h ha=>by
  refine RM (NI (n:=n+11) (f:=37) (L:=a1v) (fun σ Q X h=>b5r h) (by decide) (by decide) (by decide) h.deck (by exact ar1) h.g61 fun v y τ' hy ex D'=>?_)
  refine AD ?_<|news_v.at hy;rintro new hnew rfl
  have hmem:=List.mem_of_getElem? hnew
  have h':At48 (put 37 (PV.str new true) Λ) τ' r c d (a+1) e rows us x:=by
   have q:=h.move (h.deck.toN ex) D' (by exact ar2)
   obtain⟨t,g71⟩:=q.g71
   obtain⟨t',g36⟩:=q.g36
   exact{q with g61:=by rw[get_put];exact q.g61,g64:=by rw[get_put];exact q.g64,g67:=by rw[get_put];exact q.g67,g71:=⟨t,AL rfl g71⟩,g36:=⟨t',AL rfl g36⟩,g72:=by rw[get_put];exact q.g72,g73:=by rw[get_put];exact q.g73,g42:=by rw[get_put];exact q.g42 }
  have g37:get 37 (put 37 (PV.str new true) Λ)=some (.str new true):=AU
  revert h' g37
  generalize put 37 (PV.str new true) Λ=Λ₂
  intro h' g37
  have hin:cmp τ' .isin (.str new true) (.tup [pS "",pS "b c",pS "b_c"])=some (badNews.contains new):=rfl
  have key:∀ x∈newsL,(badNews.contains x=true->x∈badNews)/\(badNews.contains x=false->x∈GQ):=by decide +kernel
  refine XI (AC (AF (AA g37) (IC (AB AM (AB AM (AB AM AE)))) hin) (CN (fun ht=>?_) fun ht=>?_))
  ·exact a8t h' ((key new hmem).1 ht) g37
  ·exact OG (a4t h' ((key new hmem).2 ht) g37)
 refine XI (NW (FS (GK (n:=n+11) (below:=3) h.deck (by exact ar1) (by decide) rfl h.g61 fun v τ hv ex D'=>AC AH (AI rfl (CN (fun _=>?_) fun ht=>?_)))))
 rotate_left
 ·rw[ht]
  exact GX (OG (B (h.move (h.deck.toN ex) D' (by exact ar2)) (by exact ar2)))
 have h1:=h.move (h.deck.toN ex) D' (by exact ar2)
 refine AR ?_<|XK (T:=U true (n+12)) (σ:=τ) (Λ:=BE [] Λ) h1.rv;intro ws g1
 have hwl:=g1.len
 have hul:=h1.rv.len
 refine FS (KU (AA h1.g64) h1.hr g1 (by lia) (CG (BC ?_)))
 have e2:Ext τ (τ++[AO.list ws]++[AO.list []]):=Ext.app.trans .app
 have k1:(τ++[AO.list ws]++[AO.list []])[τ.length]? = some (.list ws):=AP app_new
 have k2:(τ++[AO.list ws]++[AO.list []])[(τ++[AO.list ws]).length]? = some (.list []):=app_new
 have h2:=h1.move e2.toN (D'.ext e2) h1.few
 have hcmp:∃ t,cmp (τ++[AO.list ws]++[AO.list []]) .eq (.ref τ.length) (.ref (τ++[AO.list ws]).length)=some t:=by
  simp only[NY,cm_ne,eq_ref,AG k1,AG k2]
  by_cases hz:ws.length=0
  ·have:ws=[]:=List.length_eq_zero_iff.mp hz
   subst this
   exact⟨true,rfl⟩
  ·rw[if_pos (by simpa using hz)]
   exact⟨false,rfl⟩
 revert hcmp;refine AR ?_;intro t ht
 refine AI ht (CN (fun _=>?_) fun _=>OG (B h2 (by exact ar2)))
 exact a8u h2
end
section
variable {b:Bool}{n i j k f c d a m e r:Nat}{T:Tb}{Λ Λ':Loc}{σ σ₀ τ ρ:St}{Q:PV->St->Prop}{X:St->Prop}{R:Fl->Loc->St->Prop}{o s:List UInt8}{row:Int}{F:List PV->St->(Bool->Prop)->Prop}{K:Loc->St->Prop}{rows:List Row}{us:List PV}
theorem HU(ks:List Nat):∀ (l:Loc) (j:Nat),ks.contains j=true->get j (BE ks l)=get j l
 | [],_,_=>rfl
 | (i,u)::r,j,hj=>by
  rw[a2e]
  by_cases hc:ks.contains i=true
  ·rw[if_pos hc,get_c,get_c,HU ks r j hj]
  ·rw[if_neg hc,HU ks r j hj]
   have hne:j≠i:=by rintro rfl;exact hc hj
   show _=(if j=i then some u else get j r)
   rw[if_neg hne]
theorem s48(D:DeckAt σ d a)(ha:a<=2):wpF (U true (n+12)) F isT b_law_sections_right [(61,.ref d)] σ K:=by
 have hdl:=D.lt
 refine RM (CG (BC ?_))
 have g61:get 61 (put 64 (PV.ref σ.length) [(61,PV.ref d)])=some (.ref d):=rfl
 have g64:get 64 (put 64 (PV.ref σ.length) [(61,PV.ref d)])=some (.ref σ.length):=rfl
 revert g61 g64
 generalize put 64 (PV.ref σ.length) [(61,PV.ref d)]=Λ₁
 intro g61 g64
 refine XJ rfl (ZY (FQ (AC AH (GK (n:=n+11) (below:=6) (D.ext .app) (by exact ar1) (by decide) rfl g61 fun v σ₂ hv ex D₂=>AI (a:=(.int ((1+v:Nat):Int),σ₂)) ?_ (AI (KJ (m:=1+v) (by lia)) ?_)))))
 ·show some (PV.int (1+(v:Int)),σ₂)=_
  rw[Int.natCast_add];rfl
 refine TZ (n:=n+10) (r:=σ.length) hdl (rows:=[]) (us:=[]) ⟨ex _ _ (by lia) app_new,trivial,fun _ h=>(by cases h),trivial⟩ rfl D₂ (by exact ar2) (by lia) g61 g64 fun σ₃ rows us a₃ Λ₃ hd hlen D₃ ha₃ sb=>AX ?_
 have k61:get 61 Λ₃=some (.ref d):=(sb 61 (by decide)).trans g61
 have k64:get 64 Λ₃=some (.ref σ.length):=(sb 64 (by decide)).trans g64
 have hgood:∀ r∈rows,Good1 r:=fun r hr=>PO (hd.fam r hr)
 refine AD ?_<|NH (fun r hr=>(hgood r hr).reads) none E0 [] (.inl hd.start);intro kk hkk erd
 have O:=ZW hgood (by exact ar1)
 -- the configuration
 refine a4q (BS (NX (BS (CP (BB (AB (AA k64) AE) (TS (n:=n+10) hd.at_ hd.rv O.sm (by exact ar1) fun σ₄ e₄=>BC ?_))))))
 rw[NV]
 refine b0g (n:=n+4) (c:=σ₄.length) O.rd app_new (by lia) (erd 0) fun σ₅ k5 hc₅=>⟨rfl,?_⟩
 have e₅:Ext σ₃ σ₅:=e₄.trans fun k x hx=>k5 k x (by have:=(List.getElem?_eq_some_iff.mp hx).1;lia) (AP hx)
 refine BS (b2v (n:=n+11) (D₃.ext e₅) (by exact ar1) k61 fun x t σ₆ hx ex₆ D₆=>BC ?_)
 have n₆:=(D₃.ext e₅).toN ex₆
 have hc₆:=hc₅.extN n₆
 have hr₆:σ₆[σ.length]? = some (.list us):=n₆.list (e₅ _ _ hd.at_)
 show wpF _ _ _ _ (put 67 (PV.ref σ₄.length) (put 71 (PV.str x t) Λ₃)) _ _
 have m61:get 61 (put 67 (PV.ref σ₄.length) (put 71 (PV.str x t) Λ₃))=some (.ref d):=by rw[get_put,get_put];exact k61
 have m64:get 64 (put 67 (PV.ref σ₄.length) (put 71 (PV.str x t) Λ₃))=some (.ref σ.length):=by rw[get_put,get_put];exact k64
 have m67:get 67 (put 67 (PV.ref σ₄.length) (put 71 (PV.str x t) Λ₃))=some (.ref σ₄.length):=AU
 have m71:get 71 (put 67 (PV.ref σ₄.length) (put 71 (PV.str x t) Λ₃))=some (.str x t):=by rw[get_put,get_put];rfl
 revert m61 m64 m67 m71
 generalize put 67 (PV.ref σ₄.length) (put 71 (PV.str x t) Λ₃)=Λ₄
 intro m61 m64 m67 m71
 refine AR ?_<|b8o (T:=U true (n+12)) (σ:=σ₆) hx m71;intro u eo
 refine RM (AC eo ?_)
 have q61:get 61 (put 36 (PV.str (DG x) u) Λ₄)=some (.ref d):=AL rfl m61
 have q64:get 64 (put 36 (PV.str (DG x) u) Λ₄)=some (.ref σ.length):=AL rfl m64
 have q67:get 67 (put 36 (PV.str (DG x) u) Λ₄)=some (.ref σ₄.length):=AL rfl m67
 have q71:get 71 (put 36 (PV.str (DG x) u) Λ₄)=some (.str x t):=AL rfl m71
 have q36:get 36 (put 36 (PV.str (DG x) u) Λ₄)=some (.str (DG x) u):=AU
 revert q61 q64 q67 q71 q36
 generalize put 36 (PV.str (DG x) u) Λ₄=Λ₅
 intro q61 q64 q67 q71 q36
 refine XI (b8j (CP (BB (AB (AA q67) (AB (AA q64) AE)) (JZ (n:=n+3) hc₆.at hr₆ hd.rv hgood (by exact ar1) hd.start fun σ₇ e₇=>?_))))
 refine AI (a:=true) rfl (GX (OG ?_))
 refine AD ?_ (UB (T:=U true (n+12)) (σ:=σ₇) (Λ:=BE [36] Λ₅) (old:=DG x) (u:=u) (by rw[HU _ _ _ rfl];exact q36) hd.rv);intro ws w1 w2
 have hul:=hd.rv.len
 have hwl:=w1.len
 refine a4q (BS (a1g (BS (KU (AA q64) (e₇ _ _ hr₆) w1 (by lia) (BC (AI (a:=(.int (ws.length:Nat),σ₇++[AO.list ws])) ?_ (BS (CG (BC (BS (AC CS (BC ?_)))))))))))) 
 ·simp only[WM,AG (app_new (σ:=σ₇))]
 rw[w2]
 show wpF _ _ _ (b_law_sections_right.drop 6) (put 72 (PV.int (cntR (DG x) rows:Nat)) (put 73 (PV.ref (σ₇++[AO.list ws]).length) (put 42 (PV.bool false) Λ₅))) _ _
 have e₈:Ext σ₇ (σ₇++[AO.list ws]++[AO.list []]):=Ext.app.trans .app
 obtain⟨jj,refs,c1,c2,c3,c4⟩:=hc₆.ext e₇
 have hj:=(List.getElem?_eq_some_iff.mp c2).1
 have hlr:=(List.getElem?_eq_some_iff.mp (e₇ _ _ hr₆)).1
 refine a8v (n:=n) (r:=σ.length) (c:=σ₄.length) (d:=d) (a:=a₃+1) (e:=(σ₇++[AO.list ws]).length) (rows:=rows) (us:=us) (x:=x) ?_ (by exact ar2)
 exact{
  g61:=by rw[get_put,get_put,get_put];exact q61
  g64:=by rw[get_put,get_put,get_put];exact q64
  g67:=by rw[get_put,get_put,get_put];exact q67
  g71:=⟨t,by rw[get_put,get_put,get_put];exact q71⟩
  g36:=⟨u,by rw[get_put,get_put,get_put];exact q36⟩
  g72:=AU
  g73:=by rw[get_put,get_put];rfl
  g42:=by rw[get_put,get_put,get_put];rfl
  hx:=hx
  hr:=e₈ _ _ (e₇ _ _ hr₆)
  rv:=hd.rv
  fam:=hd.fam
  start:=hd.start
  len:=hlen
  cfg:=⟨jj,refs,by simp;lia,e₈ _ _ c1,e₈ _ _ c2,c3.keep fun q _ y hy=>e₈ _ _ hy,c4⟩
  he:=app_new
  hre:=by simp;lia
  deck:=(D₆.ext e₇).ext e₈
  few:=by exact ar2 }
end
section
variable {b:Bool}{n i j k f c d a m e r:Nat}{T:Tb}{Λ Λ':Loc}{σ σ₀ τ ρ:St}{Q:PV->St->Prop}{X:St->Prop}{R:Fl->Loc->St->Prop}{o s:List UInt8}{row:Int}
noncomputable def inB(x y:Str):Bool:=decide (Builtin.Str.occurrences y x 0 y.length 1≠[])
theorem NJ{x y:Str}{t u:Bool}:cmp τ .isin (.str x t) (.str y u)=some (inB x y):=rfl
noncomputable def a8w(c:Nat):Bool := !(decide ((c:Int)<=32)||(((c:Int)==127)||inB (C1 c) (sS "~^:?[\\")))
noncomputable def RN(y:Str):Bool := !(decide ((Txt.count y (sS "*"):Int)>1)||(Txt.startswith y (sS "/")||(Txt.endswith y (sS "/")||(inB (sS "//") y||inB (sS "..") y))))&&y.cps.toList.all a8w
theorem XM{p:Nat->Bool}{cond:ME}{r':List MS}(hc:∀ Λ c,get 4 Λ=some (.str (C1 c) true)->Ev T cond Λ σ (.bool (!p c))):∀ {l:List Nat} {Λ:Loc},(l.all p=true->∀ Λ',SameBut 4 Λ Λ'->AN T r' Λ' σ R X)->(l.all p=false->∀ Λ',R (.ret (.bool false)) Λ' σ) →
  turns (fun _=>True) (BN T 4 [.ifS cond [.ret (.bool false)] []] X) (l.map fun c=>.str (C1 c) true) Λ σ (sq T r' R X)
 | [],Λ,h1,_=>⟨trivial,h1 rfl Λ .refl⟩
 | c::l,Λ,h1,h2=>by
  refine turn trivial ?_
  refine DR (hc (put 4 (.str (C1 c) true) Λ) c AU) (fun e=>BA (AC CS (h2 ?_ _))) fun e=>AX (XM hc (fun h Λ' hs=>h1 ?_ Λ' (SameBut.put.trans hs)) fun h=>h2 ?_)
  ·rw[List.all_cons,show p c=false from by simpa using e];rfl
  ·rw[List.all_cons,show p c=true from by simpa using e,h];rfl
  ·rw[List.all_cons,show p c=true from by simpa using e,h];rfl
theorem a4u{y:Str}{t:Bool}:Pu (U b (n+1)) 32 [.str y t] σ (.bool (RN y)):=fun Q X h=>by
 refine AV (mb:=b_refspec_side) (Λ:=[(2,.str y t)]) rfl rfl rfl rfl ?_
 unfold RN at h
 have g2:get 2 ([(2,PV.str y t)]:Loc)=some (.str y t):=rfl
 have me:∀ {m:Mt} {z:String} {v:PV},mok (U b n).mth σ (.str y t) m [.str (sS z)]=some none->meth σ (.str y t) m [.str (sS z) true]=some (v,σ)->Ev (U b n) (.meth (.var 2) m [.str (sS z)]) [(2,.str y t)] σ v:=fun h1 h2=>CO (AA g2) h1 (AB AM AE) h2
 refine' DR (t:=decide ((Txt.count y (sS "*"):Int)>1)||(Txt.startswith y (sS "/")||(Txt.endswith y (sS "/")||(inB (sS "//") y||inB (sS "..") y)))) ?h1 ?h2 ?h3
 case h1=>exact CC (AF (me rfl rfl) AH rfl) fun _=>CC (me rfl rfl) fun _=>CC (me rfl rfl) fun _=>CC (AF AM (AA g2) NJ) fun _=>AF AM (AA g2) NJ
 case h2 =>
  intro ht
  rw[ht]at h
  exact BA (AC CS h)
 case h3 =>
  intro ht
  rw[ht]at h
  refine AX (RB (t:=t) (x:=y) (AA g2) (XM (p:=a8w) (fun Λ c g4=>?_) (fun hall Λ' _=>?_) fun hall Λ'=>?_))
  ·unfold a8w
   rw[Bool.not_not]
   exact CC (AF (op:=.le) (BR (AB (AA g4) AE) KV) (AH (i:=32)) rfl) fun _=>CC (AF (op:=.eq) (BR (AB (AA g4) AE) KV) (AH (i:=127)) rfl) fun _=>AF (AA g4) AM NJ
  ·rw[hall]at h
   exact BA (AC CS h)
  ·rw[hall]at h
   exact h
noncomputable def DK(x:Str):Bool:=Txt.startswith x (sS "+")
noncomputable def CL(x:Str):Bool:=Txt.startswith x (sS "^")
noncomputable def GM(x:Str):Str:=if(DK x||CL x)=true then Txt.slice x (some 1) none else x
noncomputable def GR(x:Str):Int:=Txt.find (GM x) (sS ":")
noncomputable def BX(x:Str):Str:=if GR x<0 then GM x else Txt.slice (GM x) none (some (GR x))
noncomputable def CE(x:Str):Str:=if GR x<0 then E0 else Txt.slice (GM x) (some (GR x+1)) none
noncomputable def MA(x:Str):Bool:=inB (sS "*") (BX x)
noncomputable def rs1(x:Str):Bool:=CL x&&(decide (GR x>=0)||decide (BX x=E0))
noncomputable def rs2(x:Str):Bool := !RN (BX x) || !RN (CE x)
noncomputable def rs3(x:Str):Bool := !decide (CE x=E0) && !(MA x==inB (sS "*") (CE x))
noncomputable def PQ(x:Str):Bool := !rs1 x&&(!rs2 x && !rs3 x)
noncomputable def RsV(x:Str)(a:AO):Prop:=∃ t1 t2 t3,a = .inst 6 [(2,.str x t1),(44,.bool (DK x)),(45,.bool (CL x)),(47,.str (BX x) t2),(48,.str (CE x) t3),(49,.bool (MA x))]
theorem LC{fs:List (Nat×PV)}{k:Nat}{ev:ME}{v:PV}{r':List MS}(h0:σ[i]? = some (.inst 6 fs))(he:Ev T ev Λ σ v)(hk:GZ 6 k=true)(hl:fs.length<50)(g0:get 0 Λ=some (.ref i))(h:AN T r' Λ (σ.set i (.inst 6 (put k v fs))) R X):AN T (.setA (.var 0) k ev::r') Λ σ R X :=
 FL (AC he (AC (AA g0) (AI (CQ h0 hk (by exact ar3)) h)))
theorem XN{x:Str}{t:Bool}(h0:σ[i]? = some (.inst 6 []))(h1:PQ x=true->∀ a,RsV x a->Q .none (σ.set i a))(h2:PQ x=false->b=true/\∀ σ',X σ'):(U b (n+2)).C 28 [.ref i,.str x t] σ Q X:=by
 refine AV (mb:=b_RefSpec_init) (Λ:=[(0,.ref i),(2,.str x t)]) rfl rfl rfl rfl ?_
 refine LC (v:=.str x t) h0 (AA rfl) rfl (by decide) rfl ?_
 have s1:(σ.set i (.inst 6 (put 2 (.str x t) [])))[i]? = some (.inst 6 [(2,.str x t)]):=AW h0
 refine LC (v:=.bool (DK x)) s1 (CO (AA rfl) rfl (AB AM AE) rfl) rfl (by simp) rfl ?_
 rw[List.set_set]
 have s2:(σ.set i (.inst 6 [(2,.str x t),(44,.bool (DK x))]))[i]? = some (.inst 6 [(2,.str x t),(44,.bool (DK x))]):=AW h0
 refine LC (v:=.bool (CL x)) s2 (CO (AA rfl) rfl (AB AM AE) rfl) rfl (by simp) rfl ?_
 have s3:(σ.set i (.inst 6 [(2,.str x t),(44,.bool (DK x)),(45,.bool (CL x))]))[i]? = some (.inst 6 [(2,.str x t),(44,.bool (DK x)),(45,.bool (CL x))]):=AW h0
 show AN _ _ _ ((σ.set i _).set i (.inst 6 [(2,.str x t),(44,.bool (DK x)),(45,.bool (CL x))])) _ _
 rw[List.set_set]
 have er:Ev (U b (n+1)) (.ite (.or (.attr (.var 0) 44) (.attr (.var 0) 45)) (.sliceL (.var 2) (.int 1)) (.var 2)) [(0,.ref i),(2,.str x t)] (σ.set i (.inst 6 [(2,.str x t),(44,.bool (DK x)),(45,.bool (CL x))])) (.str (GM x) t):=by
  have hc:Ev (U b (n+1)) (.or (.attr (.var 0) 44) (.attr (.var 0) 45)) [(0,.ref i),(2,.str x t)] (σ.set i (.inst 6 [(2,.str x t),(44,.bool (DK x)),(45,.bool (CL x))])) (.bool (DK x||CL x)):=CC (AQ (AA rfl) (BF s3 rfl rfl)) fun _=>AQ (AA rfl) (BF s3 rfl rfl)
  unfold GM
  cases hz:(DK x||CL x)with
  | true=>rw[hz]at hc;rw[if_pos rfl];exact GB hc (EY (AA rfl) AH rfl)
  | false=>rw[hz]at hc;rw[if_neg (by decide)];exact ER hc (AA rfl)
 refine AS (AC er (AS (AC (v:=.int (GR x)) (CO (AA rfl) rfl (AB AM AE) rfl) ?_)))
 show AN _ _ [(0,.ref i),(2,.str x t),(46,.str (GM x) t),(7,.int (GR x))] _ _ _
 have g0:get 0 ([(0,.ref i),(2,.str x t),(46,.str (GM x) t),(7,.int (GR x))]:Loc)=some (.ref i):=rfl
 have g46:get 46 ([(0,.ref i),(2,.str x t),(46,.str (GM x) t),(7,.int (GR x))]:Loc)=some (.str (GM x) t):=rfl
 have g7:get 7 ([(0,.ref i),(2,.str x t),(46,.str (GM x) t),(7,.int (GR x))]:Loc)=some (.int (GR x)):=rfl
 revert g0 g46 g7
 generalize ([(0,.ref i),(2,.str x t),(46,.str (GM x) t),(7,.int (GR x))]:Loc)=Λ
 intro g0 g46 g7
 have hcut:∀ {τ:St},Ev (U b (n+1)) (.cmp .lt (.var 7) (.int 0)) Λ τ (.bool (decide (GR x<0))):=AF (AA g7) AH rfl
 have es:∀ {τ:St},Ev (U b (n+1)) (.ite (.cmp .lt (.var 7) (.int 0)) (.var 46) (.sliceR (.var 46) (.var 7))) Λ τ (.str (BX x) t):=fun{τ}=>by
  have hc:=hcut (τ:=τ)
  unfold BX
  by_cases hz:GR x<0
  ·rw[decide_eq_true hz]at hc;rw[if_pos hz];exact GB hc (AA g46)
  ·rw[decide_eq_false hz]at hc;rw[if_neg hz];exact ER hc (EZ (AA g46) (AA g7) rfl)
 have et:∀ {τ:St},∃ u,Ev (U b (n+1)) (.ite (.cmp .lt (.var 7) (.int 0)) (.str "") (.sliceL (.var 46) (.bin .add (.var 7) (.int 1)))) Λ τ (.str (CE x) u):=fun{τ}=>by
  have hc:=hcut (τ:=τ)
  unfold CE
  by_cases hz:GR x<0
  ·rw[decide_eq_true hz]at hc;rw[if_pos hz];exact⟨_,GB hc AM⟩
  ·rw[decide_eq_false hz]at hc;rw[if_neg hz];exact⟨_,ER hc (EY (AA g46) (AT (AA g7) AH rfl) rfl)⟩
 refine LC s3 es rfl (by simp) g0 ?_
 show AN _ _ _ ((σ.set i _).set i (.inst 6 [(2,.str x t),(44,.bool (DK x)),(45,.bool (CL x)),(47,.str (BX x) t)])) _ _
 rw[List.set_set]
 have s4:(σ.set i (.inst 6 [(2,.str x t),(44,.bool (DK x)),(45,.bool (CL x)),(47,.str (BX x) t)]))[i]? = some (.inst 6 [(2,.str x t),(44,.bool (DK x)),(45,.bool (CL x)),(47,.str (BX x) t)]):=AW h0
 refine AR ?_<|et (τ:=σ.set i (.inst 6 [(2,.str x t),(44,.bool (DK x)),(45,.bool (CL x)),(47,.str (BX x) t)]));intro u et
 refine LC s4 et rfl (by simp) g0 ?_
 show AN _ _ _ ((σ.set i _).set i (.inst 6 [(2,.str x t),(44,.bool (DK x)),(45,.bool (CL x)),(47,.str (BX x) t),(48,.str (CE x) u)])) _ _
 rw[List.set_set]
 have s5:(σ.set i (.inst 6 [(2,.str x t),(44,.bool (DK x)),(45,.bool (CL x)),(47,.str (BX x) t),(48,.str (CE x) u)]))[i]? = some (.inst 6 [(2,.str x t),(44,.bool (DK x)),(45,.bool (CL x)),(47,.str (BX x) t),(48,.str (CE x) u)]):=AW h0
 refine LC (v:=.bool (MA x)) s5 (AF AM (AQ (AA g0) (BF s5 rfl rfl)) NJ) rfl (by simp) g0 ?_
 show AN _ _ _ ((σ.set i _).set i (.inst 6 [(2,.str x t),(44,.bool (DK x)),(45,.bool (CL x)),(47,.str (BX x) t),(48,.str (CE x) u),(49,.bool (MA x))])) _ _
 rw[List.set_set]
 have s6:(σ.set i (.inst 6 [(2,.str x t),(44,.bool (DK x)),(45,.bool (CL x)),(47,.str (BX x) t),(48,.str (CE x) u),(49,.bool (MA x))]))[i]? = some (.inst 6 [(2,.str x t),(44,.bool (DK x)),(45,.bool (CL x)),(47,.str (BX x) t),(48,.str (CE x) u),(49,.bool (MA x))]):=AW h0
 have h1':PQ x=true->Q .none (σ.set i (.inst 6 [(2,.str x t),(44,.bool (DK x)),(45,.bool (CL x)),(47,.str (BX x) t),(48,.str (CE x) u),(49,.bool (MA x))])):=fun hx=>h1 hx _ ⟨t,t,u,rfl⟩
 revert s6 h1'
 generalize σ.set i (.inst 6 [(2,.str x t),(44,.bool (DK x)),(45,.bool (CL x)),(47,.str (BX x) t),(48,.str (CE x) u),(49,.bool (MA x))])=σ₆
 intro s6 h1'
 have a45:Ev (U b (n+1)) (.attr (.var 0) 45) Λ σ₆ (.bool (CL x)):=AQ (AA g0) (BF s6 rfl rfl)
 have a47:Ev (U b (n+1)) (.attr (.var 0) 47) Λ σ₆ (.str (BX x) t):=AQ (AA g0) (BF s6 rfl rfl)
 have a48:Ev (U b (n+1)) (.attr (.var 0) 48) Λ σ₆ (.str (CE x) u):=AQ (AA g0) (BF s6 rfl rfl)
 have a49:Ev (U b (n+1)) (.attr (.var 0) 49) Λ σ₆ (.bool (MA x)):=AQ (AA g0) (BF s6 rfl rfl)
 have bad:PQ x=false->(U b (n+1)).free/\X σ₆:=fun hx=>⟨(FK b _).mpr (h2 hx).1,(h2 hx).2 _⟩
 unfold PQ at bad h1'
 refine QU (t:=rs1 x) ?_ (fun ht=>bad (by rw[ht];rfl)) fun ht=>?_
 ·unfold rs1
  exact EJ a45 fun _=>CC (AF (op:=.ge) (AA g7) (AH (i:=0)) rfl) fun _=>AF (op:=.eq) a47 (AM (x:=E0)) BU
 ·refine QU (t:=rs2 x) ?_ (fun ht'=>bad (by rw[ht,ht'];rfl)) fun ht'=>?_
  ·unfold rs2
   exact CC (DD (DL (AB a47 AE) a4u)) fun _=>DD (DL (AB a48 AE) a4u)
  ·refine QU (t:=rs3 x) ?_ (fun ht''=>bad (by rw[ht,ht',ht''];rfl)) fun ht''=>AX (h1' (by rw[ht,ht',ht''];rfl))
   unfold rs3
   exact EJ (AF (op:=.ne) a48 (AM (x:=E0)) DW) fun _=>AF (op:=.ne) a49 (AF (op:=.isin) (AM (x:=sS "*")) a48 NJ) rfl
noncomputable def oV(t:Bool):Option Str->PV
 | none=>.none
 | some y=>.str y t
theorem b5t{x:Option Str}{t:Bool}:cmp τ .is (oV t x) .none=some x.isNone:=by induction x using Option.casesOn<;>rfl
theorem GD{x:Option Str}{t:Bool}:cmp τ .isnot (oV t x) .none=some x.isSome:=by induction x using Option.casesOn<;>rfl
noncomputable def IK(p:Str):Int:=Txt.find p (sS "*")
noncomputable def qHd(p:Str):Str:=Txt.slice p none (some (IK p))
noncomputable def qTl(p:Str):Str:=Txt.slice p (some (IK p+1)) none
noncomputable def qNo(p x:Str):Bool:=decide ((x.length:Int)<(qHd p).length+(qTl p).length)||(!Txt.startswith x (qHd p) || !Txt.endswith x (qTl p))
noncomputable def DU(p x:Str):Option Str :=
 if IK p<0 then(if(decide (p=x) && !decide (p=E0))=true then some E0 else none)
 else if qNo p x=true then none
 else some (Txt.slice x (some ((qHd p).length:Int)) (some ((x.length:Int)-(qTl p).length)))
theorem XO{p x:Str}{t:Bool}:Pu (U b (n+1)) 33 [.str p t,.str x true] σ (oV true (DU p x)):=fun Q X h=>by
 refine AV (mb:=b_refspec_rest) (Λ:=[(50,.str p t),(12,.str x true)]) rfl rfl rfl rfl ?_
 refine AS (AC (v:=.int (IK p)) (CO (AA rfl) rfl (AB AM AE) rfl) ?_)
 unfold DU at h
 have hcut:Ev (U b n) (.cmp .lt (.var 7) (.int 0)) (put 7 (.int (IK p)) [(50,.str p t),(12,.str x true)]) σ (.bool (decide (IK p<0))):=AF (AA rfl) AH rfl
 by_cases hc:IK p<0
 ·rw[decide_eq_true hc]at hcut
  rw[if_pos hc]at h
  refine BV hcut (BA (HX (AC (EJ (AF (op:=.eq) (AA rfl) (AA rfl) BU) fun _=>AF (op:=.ne) (AA rfl) (AM (x:=E0)) DW) (CN (fun ht=>?_) fun ht=>?_))))
  ·rw[ht,if_pos rfl]at h
   exact AC AM h
  ·rw[ht,if_neg (by decide)]at h
   exact AC BI h
 ·rw[decide_eq_false hc]at hcut
  rw[if_neg hc]at h
  refine BL hcut (KQ (BB (AB (v:=.str (qHd p) t) (EZ (AA rfl) (AA rfl) rfl) (AB (v:=.str (qTl p) t) (EY (AA rfl) (AT (AA rfl) AH rfl) rfl) AE)) ?_))
  show AN _ _ [(50,.str p t),(12,.str x true),(7,.int (IK p)),(51,.str (qTl p) t),(8,.str (qHd p) t)] _ _ _
  have g12:get 12 ([(50,.str p t),(12,.str x true),(7,.int (IK p)),(51,.str (qTl p) t),(8,.str (qHd p) t)]:Loc)=some (.str x true):=rfl
  have g51:get 51 ([(50,.str p t),(12,.str x true),(7,.int (IK p)),(51,.str (qTl p) t),(8,.str (qHd p) t)]:Loc)=some (.str (qTl p) t):=rfl
  have g8:get 8 ([(50,.str p t),(12,.str x true),(7,.int (IK p)),(51,.str (qTl p) t),(8,.str (qHd p) t)]:Loc)=some (.str (qHd p) t):=rfl
  revert g12 g51 g8
  generalize ([(50,.str p t),(12,.str x true),(7,.int (IK p)),(51,.str (qTl p) t),(8,.str (qHd p) t)]:Loc)=Λ
  intro g12 g51 g8
  have len:∀ {k:Nat} {y:Str} {u:Bool},get k Λ=some (.str y u)->Ev (U b n) (.bi .len [(.var k)]) Λ σ (.int (y.length:Nat)):=fun g=>BR (AB (AA g) AE) rfl
  refine DR (t:=qNo p x) (CC (AF (op:=.lt) (len g12) (AT (len g8) (len g51) rfl) rfl) fun _=>CC (DD (CO (AA g12) rfl (AB (AA g8) AE) rfl)) fun _=>DD (CO (AA g12) rfl (AB (AA g51) AE) rfl)) (fun ht=>?_) fun ht=>?_
  ·rw[if_pos ht]at h
   exact BA (AC BI h)
  ·rw[if_neg (by rw[ht];decide)]at h
   exact AX (BA (AC (MU (AA g12) (len g8) (AT (len g12) (len g51) rfl) rfl) h))
noncomputable def RsAt(σ:St)(x:Str)(i:Nat):Prop:=∃ a,σ[i]? = some a/\RsV x a
theorem RsAt.ext{x:Str}(h:RsAt σ x i)(e:ExtN σ τ):RsAt τ x i:=by
 revert h;refine AD ?_;intro a h1 h2
 refine⟨a,e _ _ (fun kvs q=>?_) h1,h2⟩
 revert h2;refine b3f ?_;rintro _ _ _ rfl
 cases q
theorem RsAt.at44{x:Str}(h:RsAt σ x i)(g:get k Λ=some (.ref i)):Ev T (.attr (.var k) 44) Λ σ (.bool (DK x)):=by
 obtain⟨a,h1,_,_,_,rfl⟩:=h
 exact AQ (AA g) (BF h1 rfl rfl)
theorem RsAt.at45{x:Str}(h:RsAt σ x i)(g:get k Λ=some (.ref i)):Ev T (.attr (.var k) 45) Λ σ (.bool (CL x)):=by
 obtain⟨a,h1,_,_,_,rfl⟩:=h
 exact AQ (AA g) (BF h1 rfl rfl)
theorem RsAt.at47{x:Str}(h:RsAt σ x i)(g:get k Λ=some (.ref i)):∃ t,Ev T (.attr (.var k) 47) Λ σ (.str (BX x) t):=by
 obtain⟨a,h1,_,_,_,rfl⟩:=h
 exact⟨_,AQ (AA g) (BF h1 rfl rfl)⟩
theorem RsAt.at48{x:Str}(h:RsAt σ x i)(g:get k Λ=some (.ref i)):∃ t,Ev T (.attr (.var k) 48) Λ σ (.str (CE x) t):=by
 obtain⟨a,h1,_,_,_,rfl⟩:=h
 exact⟨_,AQ (AA g) (BF h1 rfl rfl)⟩
theorem RsAt.mok{x:Str}{es:List ME}(h:RsAt σ x i)(h1:get k [(2,PV.none),(44,.none),(45,.none),(47,.none),(48,.none),(49,.none)]=none)(hm:methF 6 k=some f):mok (U b n).mth σ (.ref i) (.own k) es=some (some f):=by
 obtain⟨a,h0,_,_,_,rfl⟩:=h
 exact BO h0 (a5i (by rfl) h1) hm
theorem a4v{x y:Str}(h:RsAt σ x i):Pu (U b (n+2)) 29 [.ref i,.str y true] σ (.bool (DU (BX x) y).isSome):=fun Q X hQ=>by
 refine AV (mb:=b_RefSpec_fits) (Λ:=[(0,.ref i),(12,.str y true)]) rfl rfl rfl rfl ?_
 refine AR ?_<|h.at47 (T:=U b (n+1)) (Λ:=[(0,.ref i),(12,.str y true)]) (k:=0) rfl;intro t e47
 exact BA (AC (AF (DL (AB e47 (AB (AA rfl) AE)) XO) BI GD) hQ)
noncomputable def a1z(x y:Str):Option Str:=match DU (BX x) y with
 | none=>none
 | some z=>if(decide (CE x=E0)||CL x)=true then none else some (Txt.replace (CE x) (sS "*") z)
noncomputable def UM(x y:Str):Bool:=match DU (BX x) y with
 | none=>true
 | some z=>(decide (CE x=E0)||CL x)||JY (CE x) (sS "*") z
theorem PR{x y:Str}(h:RsAt σ x i)(hm:UM x y=true):Pu (U b (n+2)) 30 [.ref i,.str y true] σ (oV false (a1z x y)):=fun Q X hQ=>by
 refine AV (mb:=b_RefSpec_mapped) (Λ:=[(0,.ref i),(12,.str y true)]) rfl rfl rfl rfl ?_
 refine AR ?_<|h.at47 (T:=U b (n+1)) (Λ:=[(0,.ref i),(12,.str y true)]) (k:=0) rfl;intro t e47
 refine AS (AC (DL (AB e47 (AB (AA rfl) AE)) XO) ?_)
 unfold a1z at hQ
 unfold UM at hm
 have g0:get 0 (put 46 (oV true (DU (BX x) y)) [(0,.ref i),(12,.str y true)])=some (.ref i):=rfl
 have g46:get 46 (put 46 (oV true (DU (BX x) y)) [(0,.ref i),(12,.str y true)])=some (oV true (DU (BX x) y)):=rfl
 revert g0 g46
 generalize put 46 (oV true (DU (BX x) y)) [(0,.ref i),(12,.str y true)]=Λ
 intro g0 g46
 refine AR ?_<|h.at48 (T:=U b (n+1)) (Λ:=Λ) (k:=0) g0;intro u e48
 revert hQ hm g46
 generalize DU (BX x) y=z
 intro hm hQ g46
 induction z using Option.casesOn with
 | none =>
  exact BV (a1n (AF (AA g46) BI rfl)) (BA (AC BI hQ))
 | some z =>
  have ec:Ev (U b (n+1)) (.or (.cmp .is (.var 46) .none) (.or (.cmp .eq (.attr (.var 0) 48) (.str "")) (.attr (.var 0) 45))) Λ σ (.bool (false||(decide (CE x=E0)||CL x))):=CC (AF (op:=.is) (AA g46) BI rfl) fun _=>CC (AF (op:=.eq) e48 (AM (x:=E0)) BU) fun _=>h.at45 g0
  refine DR ec (fun ht=>?_) fun ht=>AX ?_
  ·have ht:(decide (CE x=E0)||CL x)=true:=ht
   have hQ:Q (oV false (if(decide (CE x=E0)||CL x)=true then none else some (Txt.replace (CE x) (sS "*") z))) σ:=hQ
   rw[if_pos ht]at hQ
   exact BA (AC BI hQ)
  ·have ht:(decide (CE x=E0)||CL x)=false:=ht
   have hQ:Q (oV false (if(decide (CE x=E0)||CL x)=true then none else some (Txt.replace (CE x) (sS "*") z))) σ:=hQ
   have hm:((decide (CE x=E0)||CL x)||JY (CE x) (sS "*") z)=true:=hm
   rw[if_neg (by rw[ht];decide)]at hQ
   rw[ht,Bool.false_or]at hm
   exact BA (AC (CO e48 rfl (AB AM (AB (AA g46) AE)) (RL hm)) hQ)
noncomputable def UN(x y:Str):Option Str:=match DU (CE x) y with
 | none=>none
 | some z=>if BX x=E0 then none else some (Txt.replace (BX x) (sS "*") z)
noncomputable def RP(x y:Str):Bool:=match DU (CE x) y with
 | none=>true
 | some z=>decide (BX x=E0)||JY (BX x) (sS "*") z
theorem b5u{x y:Str}(h:RsAt σ x i)(hm:RP x y=true):Pu (U b (n+2)) 31 [.ref i,.str y true] σ (oV false (UN x y)):=fun Q X hQ=>by
 refine AV (mb:=b_RefSpec_back) (Λ:=[(0,.ref i),(12,.str y true)]) rfl rfl rfl rfl ?_
 refine AR ?_<|h.at48 (T:=U b (n+1)) (Λ:=[(0,.ref i),(12,.str y true)]) (k:=0) rfl;intro t e48
 refine AS (AC (DL (AB e48 (AB (AA rfl) AE)) XO) ?_)
 unfold UN at hQ
 unfold RP at hm
 have g0:get 0 (put 46 (oV true (DU (CE x) y)) [(0,.ref i),(12,.str y true)])=some (.ref i):=rfl
 have g46:get 46 (put 46 (oV true (DU (CE x) y)) [(0,.ref i),(12,.str y true)])=some (oV true (DU (CE x) y)):=rfl
 revert g0 g46
 generalize put 46 (oV true (DU (CE x) y)) [(0,.ref i),(12,.str y true)]=Λ
 intro g0 g46
 refine AR ?_<|h.at47 (T:=U b (n+1)) (Λ:=Λ) (k:=0) g0;intro u e47
 revert hQ hm g46
 generalize DU (CE x) y=z
 intro hm hQ g46
 induction z using Option.casesOn with
 | none =>
  exact BA (HX (AC (a1n (AF (op:=.is) (AA g46) BI rfl)) (GY (AC BI hQ))))
 | some z =>
  have ec:Ev (U b (n+1)) (.or (.cmp .is (.var 46) .none) (.cmp .eq (.attr (.var 0) 47) (.str ""))) Λ σ (.bool (false||decide (BX x=E0))):=CC (AF (op:=.is) (AA g46) BI rfl) fun _=>AF (op:=.eq) e47 (AM (x:=E0)) BU
  have hQ:Q (oV false (if BX x=E0 then none else some (Txt.replace (BX x) (sS "*") z))) σ:=hQ
  have hm:(decide (BX x=E0)||JY (BX x) (sS "*") z)=true:=hm
  by_cases hz:BX x=E0
  ·rw[if_pos hz]at hQ
   rw[decide_eq_true hz]at ec
   exact BA (HX (AC ec (GY (AC BI hQ))))
  ·rw[if_neg hz]at hQ
   rw[decide_eq_false hz]at ec hm
   exact BA (HX (AC ec (GX (AC (CO e47 rfl (AB AM (AB (AA g46) AE)) (RL hm)) hQ))))
end
structure Sd where
 hd:Str
 tl:Option Str
noncomputable def sdV(s:Sd):PV:=.tup [.str s.hd true,oV true s.tl]
structure Sp where
 txt:Str
 src:Sd
 tgt:Option Sd
 fo:Bool
 ng:Bool
noncomputable def tgV:Option Sd->PV
 | none=>.none
 | some s=>sdV s
noncomputable def SpV(s:Sp)(v:PV):Prop:=∃ t,v = .tup [.str s.txt t,sdV s.src,tgV s.tgt,.bool s.fo,.bool s.ng]
noncomputable def FN(s:Sd)(x:Str):Option Str:=match s.tl with
 | none=>if x=s.hd then some E0 else none
 | some t=>if((decide ((x.length:Int)-s.hd.length-t.length<0))||(!decide (Txt.slice x none (some (s.hd.length:Int))=s.hd) || !decide (Txt.slice x (some ((s.hd.length:Int)+((x.length:Int)-s.hd.length-t.length))) none=t)))=true then none
  else some (Txt.slice x (some (s.hd.length:Int)) (some ((s.hd.length:Int)+((x.length:Int)-s.hd.length-t.length))))
noncomputable def IT(s:Sd):Str:=match s.tl with
 | none=>s.hd
 | some t=>s.hd++sS "*"++t
section
variable {b:Bool}{n i j k f c d a m e r:Nat}{T:Tb}{Λ Λ':Loc}{σ σ₀ τ ρ:St}{Q:PV->St->Prop}{X:St->Prop}{R:Fl->Loc->St->Prop}{o:List UInt8}{row:Int}
theorem sd0{s:Sd}(g:get k Λ=some (sdV s)):Ev T (.idx (.var k) (.int 0)) Λ σ (.str s.hd true):=BH (AA g) AH rfl
theorem sd1{s:Sd}(g:get k Λ=some (sdV s)):Ev T (.idx (.var k) (.int 1)) Λ σ (oV true s.tl):=BH (AA g) AH rfl
theorem b0i{s:Sd}{x:Str}:Pu (U b (n+1)) 49 [sdV s,.str x true] σ (oV true (FN s x)):=fun Q X h=>by
 refine AV (mb:=b_law_cut) (Λ:=[(50,sdV s),(12,.str x true)]) rfl rfl rfl rfl ?_
 have g50:get 50 ([(50,sdV s),(12,.str x true)]:Loc)=some (sdV s):=rfl
 have g12:get 12 ([(50,sdV s),(12,.str x true)]:Loc)=some (.str x true):=rfl
 revert g50 g12
 generalize ([(50,sdV s),(12,.str x true)]:Loc)=Λ
 intro g50 g12
 have e1:=AF (sd1 (T:=U b n) (σ:=σ) g50) BI b5t
 unfold FN at h
 have e0:∀ {Λ:Loc},get 50 Λ=some (sdV s)->Ev (U b n) (.idx (.var 50) (.int 0)) Λ σ (.str s.hd true):=fun g=>sd0 g
 have e1':∀ {Λ:Loc},get 50 Λ=some (sdV s)->Ev (U b n) (.idx (.var 50) (.int 1)) Λ σ (oV true s.tl):=fun g=>sd1 g
 revert h e1 e0 e1'
 generalize s.hd=hd
 generalize s.tl=tl
 intro h e1 e0 e1'
 induction tl using Option.casesOn with
 | none =>
  refine BV e1 (BA (HX (AC (AF (op:=.eq) (AA g12) (e0 g50) BU) (CN (fun ht=>?_) fun ht=>?_))))
  ·have h:Q (oV true (if x=hd then some E0 else none)) σ:=h
   rw[if_pos (by simpa using ht)]at h
   exact AC AM h
  ·have h:Q (oV true (if x=hd then some E0 else none)) σ:=h
   rw[if_neg (by simpa using ht)]at h
   exact AC BI h
 | some t =>
  have l12:∀ {Λ:Loc},get 12 Λ=some (.str x true)->Ev (U b n) (.bi .len [(.var 12)]) Λ σ (.int (x.length:Nat)):=fun g=>BR (AB (AA g) AE) rfl
  have l0:∀ {Λ:Loc},get 50 Λ=some (sdV s)->Ev (U b n) (.bi .len [(.idx (.var 50) (.int 0))]) Λ σ (.int (hd.length:Nat)):=fun g=>BR (AB (e0 g) AE) rfl
  have l1:∀ {Λ:Loc},get 50 Λ=some (sdV s)->Ev (U b n) (.bi .len [(.idx (.var 50) (.int 1))]) Λ σ (.int (t.length:Nat)):=fun g=>BR (AB (e1' g) AE) rfl
  refine BL e1 (AS (AC (v:=.int ((x.length:Int)-hd.length-t.length)) (AT (AT (l12 g12) (l0 g50) rfl) (l1 g50) rfl) ?_))
  have k50:get 50 (put 72 (PV.int ((x.length:Int)-hd.length-t.length)) Λ)=some (sdV s):=AL rfl g50
  have k12:get 12 (put 72 (PV.int ((x.length:Int)-hd.length-t.length)) Λ)=some (.str x true):=AL rfl g12
  have k72:get 72 (put 72 (PV.int ((x.length:Int)-hd.length-t.length)) Λ)=some (.int ((x.length:Int)-hd.length-t.length)):=AU
  revert k50 k12 k72
  generalize put 72 (PV.int ((x.length:Int)-hd.length-t.length)) Λ=Λ₁
  intro k50 k12 k72
  have h:Q (oV true (if((decide ((x.length:Int)-hd.length-t.length<0))||(!decide (Txt.slice x none (some (hd.length:Int))=hd) || !decide (Txt.slice x (some ((hd.length:Int)+((x.length:Int)-hd.length-t.length))) none=t)))=true then none
   else some (Txt.slice x (some (hd.length:Int)) (some ((hd.length:Int)+((x.length:Int)-hd.length-t.length)))))) σ:=h
  refine DR (CC (AF (op:=.lt) (AA k72) AH rfl) fun _=>CC (AF (op:=.ne) (EZ (AA k12) (l0 k50) rfl) (e0 k50) DW) fun _=>AF (op:=.ne) (EY (AA k12) (AT (l0 k50) (AA k72) rfl) rfl) (e1' k50) DW) (fun ht=>?_) fun ht=>?_
  ·rw[if_pos ht]at h
   exact BA (AC BI h)
  ·rw[if_neg (by rw[ht];decide)]at h
   exact AX (BA (AC (MU (AA k12) (l0 k50) (AT (l0 k50) (AA k72) rfl) rfl) h))
noncomputable def SS(s:Sd):Bool:=decide (s.hd.length<=1000)&&(match s.tl with | none=>true | some t=>decide (t.length<=1000))
theorem XQ{s:Sd}(hs:SS s=true):Pu (U b (n+1)) 50 [sdV s] σ (.str (IT s) true):=fun Q X h=>by
 refine AV (mb:=b_law_side) (Λ:=[(50,sdV s)]) rfl rfl rfl rfl ?_
 have g50:get 50 ([(50,sdV s)]:Loc)=some (sdV s):=rfl
 revert g50
 generalize ([(50,sdV s)]:Loc)=Λ
 intro g50
 have e1:=AF (sd1 (T:=U b n) (σ:=σ) g50) BI b5t
 have e0:Ev (U b n) (.idx (.var 50) (.int 0)) Λ σ (.str s.hd true):=sd0 g50
 have e1':Ev (U b n) (.idx (.var 50) (.int 1)) Λ σ (oV true s.tl):=sd1 g50
 unfold IT at h
 unfold SS at hs
 revert h e1 e0 e1' hs
 generalize s.hd=hd
 generalize s.tl=tl
 intro hs h e1 e0 e1'
 induction tl using Option.casesOn with
 | none=>exact BA (HX (AC e1 (GY (AC e0 h))))
 | some t =>
  have hs:(decide (hd.length<=1000)&&decide (t.length<=1000))=true:=hs
  rw[Bool.and_eq_true,decide_eq_true_eq,decide_eq_true_eq]at hs
  have l1:(sS "*").length=1:=by decide
  exact BA (HX (AC e1 (GX (AC (AT (AT e0 AM (add_str (AY (by rw[l1];lia)))) e1' (add_str (AY (by rw[str_len_app,l1];lia)))) h))))
end
noncomputable def partsL:List Sd:=[⟨sS "refs/heads/",some E0⟩,⟨sS "refs/",some (sS "/x")⟩,⟨sS "refs/heads/m",none⟩,⟨sS "a",some (sS "a")⟩,⟨E0,some E0⟩]
noncomputable def XR:List PV:=[.tup [pS "refs/heads/",pS ""],.tup [pS "refs/",pS "/x"],.tup [pS "refs/heads/m",.none],.tup [pS "a",pS "a"],.tup [pS "",pS ""]]
noncomputable def namesL:List Str:=[sS "refs/heads/m",sS "refs/heads/",sS "refs/x",sS "refs/h/x",sS "refs/heads/m/x",sS "a",sS "aa",sS "aba"]
noncomputable def XS:List PV:=namesL.map fun x=>.str x true
noncomputable def oddL:List Str:=[sS "a:b*",sS "a*:b",sS "a**:b**",sS "^a:b",sS "^",sS "a//b",sS "a..b",sS "/a",sS "a b",sS "a~1",sS "a:b:c",sS "a/"]
noncomputable def a8x:List PV:=oddL.map fun x=>.str x true
theorem parts_v:All2 (fun s v=>v=sdV s) partsL XR:=⟨rfl,rfl,rfl,rfl,rfl,trivial⟩
theorem names_v:All2 (fun x v=>v = .str x true) namesL XS:=⟨rfl,rfl,rfl,rfl,rfl,rfl,rfl,rfl,trivial⟩
theorem odd_v:All2 (fun x v=>v = .str x true) oddL a8x:=⟨rfl,rfl,rfl,rfl,rfl,rfl,rfl,rfl,rfl,rfl,rfl,rfl,trivial⟩
theorem b5v:∀ x∈oddL,PQ x=false:=by decide +kernel
section
variable {b:Bool}{n:Nat}{σ:St}{Q:PV->St->Prop}{X:St->Prop}
theorem b2w(h:Q (.ref σ.length) (σ++[.list XR])):(U b (n+1)).C 38 [] σ Q X:=by
 refine AV (mb:=b_law_parts) (Λ:=[]) rfl rfl rfl rfl ?_
 exact BA (CG (BB (fun _ _ h=>h) h))
theorem b2x(h:Q (.ref σ.length) (σ++[.list XS])):(U b (n+1)).C 39 [] σ Q X:=by
 refine AV (mb:=b_law_names) (Λ:=[]) rfl rfl rfl rfl ?_
 exact BA (CG (BB (fun _ _ h=>h) h))
theorem b8p(h:Q (.ref σ.length) (σ++[.list a8x])):(U b (n+1)).C 40 [] σ Q X:=by
 refine AV (mb:=b_law_odd) (Λ:=[]) rfl rfl rfl rfl ?_
 exact BA (CG (BB (fun _ _ h=>h) h))
end
noncomputable def b0j(s:Sd):Sp:=⟨sS "^"++IT s,s,none,false,true⟩
noncomputable def a8y(s:Sd)(x:Str):Sp:=⟨IT s++x,s,none,false,false⟩
noncomputable def HG(s:Sd)(w:Nat):Sd:=if s.tl.isSome=true then(if w % 2=0 then⟨sS "refs/remotes/o/",some E0⟩else⟨sS "t/",some E0⟩)else(if w % 2=0 then⟨sS "refs/t",none⟩else⟨sS "u",none⟩)
noncomputable def ST(s:Sd)(w:Nat):Sp:=⟨(if 2<w then sS "+" else E0)++IT s++sS ":"++IT (HG s w),s,some (HG s w),decide (2<w),false⟩
noncomputable def UO(s:Sd):List Sp:=[b0j s,a8y s E0,a8y s (sS ":"),ST s 1,ST s 2,ST s 3,ST s 4]
noncomputable def CU:List Sp:=partsL.flatMap UO
noncomputable def DA(s:Sp)(x:Str):Option Str:=match FN s.src x with
 | none=>none
 | some y=>match s.tgt with
  | none=>none
  | some t=>some (t.hd++(match t.tl with | none=>E0 | some z=>y++z))
noncomputable def XT(s:Sp):Bool:=PQ s.txt&&(DK s.txt==s.fo)&&(CL s.txt==s.ng)&&decide (s.txt.length<=1000)
noncomputable def a4w(s:Sp)(x:Str):Bool:=((DU (BX s.txt) x).isSome==(FN s.src x).isSome)&&UM s.txt x&&decide (a1z s.txt x=DA s x) &&
 (match FN s.src x with | none=>true | some y=>decide (y.length<=1000))&&(match DA s x with | none=>true | some y=>RP s.txt y&&decide (UN s.txt y=some x)&&Low y&&decide (y.length<=1000))
theorem UP:∀ s∈CU,XT s=true:=by decide +kernel
theorem b2y:∀ s∈CU,∀ x∈namesL,a4w s x=true:=by decide +kernel
theorem a8z:∀ s∈partsL,SS s=true/\(IT s).length<=100/\∀ w,w<5->SS (HG s w)=true/\(IT (HG s w)).length<=100:=by decide +kernel
theorem a4x:∀ x∈namesL,Low x=true:=by decide +kernel
section
variable {b:Bool}{n i j k f c d a m e r:Nat}{T:Tb}{Λ Λ':Loc}{σ σ₀ τ ρ:St}{Q:PV->St->Prop}{X:St->Prop}{R:Fl->Loc->St->Prop}{o:List UInt8}{row:Int}
theorem SU{s:Sd}{z:Sp}(hs:s∈partsL)(hz:z∈UO s):z∈CU:=List.mem_flatMap.mpr ⟨s,hs,hz⟩
theorem b5w(D:DeckAt σ d a)(ha:a<=900)(h:∀ s v σ' a',s∈CU->SpV s v->ExtD d σ σ'->DeckAt σ' d a'->a'<=a+4->Q v σ'):(U b (n+2)).C 51 [.ref d] σ Q X:=by
 refine AV (mb:=b_law_spec) (Λ:=[(61,.ref d)]) rfl rfl rfl rfl ?_
 refine AS (NI (n:=n) (L:=XR) (fun σ Q X h=>b2w h) (by decide) (by decide) rfl D (by exact ar1) rfl fun v x σ₁ hx e₁ D₁=>?_)
 refine AD ?_<|parts_v.at hx;rintro s hs rfl
 have hs:=List.mem_of_getElem? hs
 refine oA3 ?_<|a8z s hs;intro hok hlen hways
 refine AS (GK (n:=n) (below:=5) D₁ (by exact ar2) (by decide) rfl rfl fun w σ₂ hw e₂ D₂=>?_)
 have e₂:=e₁.trans e₂
 show AN _ _ [(61,.ref d),(47,sdV s),(76,.int (w:Nat))] _ _ _
 have g61:get 61 ([(61,.ref d),(47,sdV s),(76,.int (w:Nat))]:Loc)=some (.ref d):=rfl
 have g47:get 47 ([(61,.ref d),(47,sdV s),(76,.int (w:Nat))]:Loc)=some (sdV s):=rfl
 have g76:get 76 ([(61,.ref d),(47,sdV s),(76,.int (w:Nat))]:Loc)=some (.int (w:Nat)):=rfl
 revert g61 g47 g76
 generalize ([(61,.ref d),(47,sdV s),(76,.int (w:Nat))]:Loc)=Λ
 intro g61 g47 g76
 have side:∀ {Λ:Loc} {σ:St},get 47 Λ=some (sdV s)->Ev (U b (n+1)) (.call 50 [(.var 47)]) Λ σ (.str (IT s) true):=fun g=>DL (AB (AA g) AE) (XQ hok)
 have lc:(sS "^").length=1:=by decide
 have lp:(sS "+").length=1:=by decide
 have lk:(sS ":").length=1:=by decide
 have le:E0.length=0:=by decide
 have cw:∀ {z:Nat},Ev (U b (n+1)) (.cmp .eq (.var 76) (.int (z:Nat))) Λ σ₂ (.bool ((w:Int)==(z:Nat))):=AF (op:=.eq) (AA g76) AH rfl
 refine DR (cw (z:=0)) (fun ht=>?_) fun h0=>AX ?_
 ·refine BA (AC (IC (AB (AT AM (side g47) (add_str (AY (by rw[lc];lia)))) (AB (AA g47) (AB BI (AB CS (AB CS AE)))))) ?_)
  exact h (b0j s) _ σ₂ _ (SU hs (.head _)) ⟨_,rfl⟩ e₂ D₂ (by lia)
 ·have h0:w≠0:=fun e=>by subst e;exact noG h0
  -- the ways that have a target
  have way:∀ {σ₃:St} {a₃:Nat},ExtD d σ σ₃->DeckAt σ₃ d a₃->a₃<=a+4->AN (U b (n+1)) (b_law_spec.drop 4) Λ σ₃ (Ends Q) X:=fun{σ₃ a₃} e₃ D₃ ha₃=>by
   have hfin:∀ {σ₄:St},Ext σ₃ σ₄->AN (U b (n+1)) (b_law_spec.drop 5) (put 48 (sdV (HG s w)) Λ) σ₄ (Ends Q) X:=fun{σ₄} e₄=>by
    refine oA2 ?_<|hways w hw;intro tok tlen
    have k47:get 47 (put 48 (sdV (HG s w)) Λ)=some (sdV s):=AL rfl g47
    have k48:get 48 (put 48 (sdV (HG s w)) Λ)=some (sdV (HG s w)):=AU
    have k76:get 76 (put 48 (sdV (HG s w)) Λ)=some (.int (w:Nat)):=AL rfl g76
    revert k47 k48 k76
    generalize put 48 (sdV (HG s w)) Λ=Λ₁
    intro k47 k48 k76
    refine AS (AC (v:=.bool (decide (2<w))) (AF (op:=.gt) (AA k76) AH ?_) ?_)
    ·show some (decide ((w:Int)>2))=_
     congr 1
     exact decide_eq_decide.mpr (by lia)
    have q47:get 47 (put 44 (.bool (decide (2<w))) Λ₁)=some (sdV s):=AL rfl k47
    have q48:get 48 (put 44 (.bool (decide (2<w))) Λ₁)=some (sdV (HG s w)):=AL rfl k48
    have q44:get 44 (put 44 (.bool (decide (2<w))) Λ₁)=some (.bool (decide (2<w))):=AU
    revert q47 q48 q44
    generalize put 44 (.bool (decide (2<w))) Λ₁=Λ₂
    intro q47 q48 q44
    have hm:ST s w∈CU:=SU hs (by
     unfold UO
     have:w=1\/w=2\/w=3\/w=4:=by lia
     rcases this with rfl | rfl | rfl | rfl<;>simp)
    have hsgn:Ev (U b (n+1)) (.ite (.var 44) (.str "+") (.str "")) Λ₂ σ₄ (.str (if 2<w then sS "+" else E0) true):=by
     by_cases h2:2<w
     ·rw[decide_eq_true h2]at q44
      rw[if_pos h2]
      exact GB (AA q44) AM
     ·rw[decide_eq_false h2]at q44
      rw[if_neg h2]
      exact ER (AA q44) AM
    have hl:(if 2<w then sS "+" else E0).length<=1:=by split<;>exact ar16
    refine BA (AC (IC (AB (AT (AT (AT hsgn (side q47) (add_str (AY (by lia)))) AM (add_str (AY (by rw[str_len_app,lk];lia)))) (DL (AB (AA q48) AE) (XQ tok)) (add_str (AY (by rw[str_len_app,str_len_app,lk];lia)))) (AB (AA q47) (AB (AA q48) (AB (AA q44) (AB CS AE)))))) ?_)
    exact h (ST s w) _ σ₄ a₃ hm ⟨_,rfl⟩ (e₃.trans e₄.toD) (D₃.ext e₄) ha₃
   have hmod:∀ {σ₄:St},Ev (U b (n+1)) (.bin .mod (.var 76) (.int 2)) Λ σ₄ (.int ((w % 2:Nat):Int)):=fun{σ₄}=>by
    refine' AT (x:=.int (w:Int)) (y:=.int 2) ?h1 ?h2 ?h3
    case h1=>exact AA g76
    case h2=>exact AH
    case h3 =>
     rw[KZ (by decide)]
     have:Int.fmod (w:Int) 2=((w % 2:Nat):Int):=by
      rw[Int.fmod_eq_emod_of_nonneg _ (by decide)];lia
     rw[this]
   refine AS (HX (AC (AF (sd1 g47) BI GD) (CN (fun ht=>?_) fun ht=>?_)))
   ·refine QT (CG (BB (AB (v:=sdV ⟨sS "refs/remotes/o/",some E0⟩) (IC (AB AM (AB AM AE))) (AB (v:=sdV ⟨sS "t/",some E0⟩) (IC (AB AM (AB AM AE))) AE)) (AC hmod (AI (a:=sdV (HG s w)) (FZ app_new ?_ (by decide)) (hfin .app)))))
    unfold HG
    rw[if_pos ht]
    have:w % 2=0\/w % 2=1:=by lia
    rcases this with hz | hz<;>rw[hz]<;>rfl
   ·refine a1e (BS (QT (CG (BB (AB AM (AB AM AE)) (AC hmod (AI (a:=.str (if w % 2=0 then sS "refs/t" else sS "u") true) (FZ app_new ?_ (by decide)) (BB (AB BI AE) ?_)))))))
    ·have:w % 2=0\/w % 2=1:=by lia
     rcases this with hz | hz<;>rw[hz]<;>rfl
    ·have hq:=hfin (σ₄:=σ₃++[AO.list [pS "refs/t",pS "u"]]) .app
     unfold HG at hq
     rw[if_neg (by rw[ht];decide)]at hq
     have:w % 2=0\/w % 2=1:=by lia
     rcases this with hz | hz<;>rw[hz]at hq ⊢ <;> exact hq
  refine MV (NW (AC (cw (z:=1)) (CN (fun ht=>?_) fun ht=>?_)))
  ·refine FS (GK (n:=n) (below:=2) D₂ (by lia) (by decide) rfl g61 fun v σ₃ hv e₃ D₃=>AC AH (AI (a:=((v:Int)==1)) rfl (CN (fun _=>?_) fun _=>BD (way (e₂.trans e₃) D₃ (by lia)))))
   refine BA (a1e (BS (FQ (AC (side g47) (QT (CG (BB (AB AM (AB AM AE)) (GK (n:=n) (below:=2) (D₃.ext .app) (by lia) (by decide) rfl g61 fun u σ₄ hu e₄ D₄=>?_))))))))
   have hlt:=D₃.lt
   have hk:σ₄[σ₃.length]? = some (.list [pS "",pS ":"]):=e₄ _ _ (by lia) app_new
   have hu':u=0\/u=1:=by lia
   refine AI (a:=.str (if u=0 then E0 else sS ":") true) (FZ hk ?_ (by decide)) ?_
   ·rcases hu' with rfl | rfl<;>rfl
   ·have hl:(if u=0 then E0 else sS ":").length<=1:=by split<;>exact ar16
    refine AI (add_str (AY (by lia))) (BB (AB (AA g47) (AB BI (AB CS (AB CS AE)))) ?_)
    refine h (a8y s (if u=0 then E0 else sS ":")) _ σ₄ _ (SU hs ?_) ⟨_,rfl⟩ ((e₂.trans e₃).trans (Ext.app.toD.trans e₄)) D₄ (by lia)
    unfold UO
    rcases hu' with rfl | rfl<;>simp
  ·refine Eq.mpr (congrArg (fun t=>opt (truth (.bool t)) _) ht) ?_
   exact GX (BD (way e₂ D₂ (by lia)))
end
theorem All2.imp{α β:Type}{R S:α->β->Prop}(h:∀ a b,R a b->S a b):∀ {as:List α} {bs:List β},All2 R as bs->All2 S as bs
 | [],[],_=>trivial
 | _::_,_::_,q=>⟨h _ _ q.1,All2.imp h q.2⟩
 | [],_::_,q=>q.elim
 | _::_,[],q=>q.elim
noncomputable def Only(ks:List Nat)(Λ Λ':Loc):Prop:=∀ j,ks.contains j=false->get j Λ'=get j Λ
section
variable {b:Bool}{n i j k f c d a m e r:Nat}{T:Tb}{Λ Λ':Loc}{σ σ₀ τ ρ:St}{Q:PV->St->Prop}{X:St->Prop}{R:Fl->Loc->St->Prop}{o:List UInt8}{row:Int}
theorem Only.refl{ks:List Nat}:Only ks Λ Λ:=fun _ _=>rfl
theorem Only.trans{ks:List Nat}{Λ'':Loc}(h:Only ks Λ Λ')(h':Only ks Λ' Λ''):Only ks Λ Λ'':=fun j hj=>(h' j hj).trans (h j hj)
theorem Only.put{ks:List Nat}{v:PV}(hk:ks.contains k=true):Only ks Λ (put k v Λ):=fun j hj=>by
 rw[get_put,if_neg]
 rintro rfl
 rw[hk]at hj;exact noG hj
theorem Only.get{ks:List Nat}{v:PV}(h:Only ks Λ Λ')(g:get k Λ=some v)(hk:ks.contains k=false):get k Λ'=some v:=(h k hk).trans g
theorem b2z{elt tgt e cap}(h:wpE T e Λ σ (fun v σ=>opt (EG v) fun l=>gathers (fun _=>T.free) (fun x σ K=>wpE T elt (put tgt x (BE cap Λ)) σ (fun u σ=>K (some u) σ) (fun _=>False)) l [] σ fun vs σ=>Q (.ref σ.length) (σ++[.list vs])) X):wpE T (.compR elt tgt e cap) Λ σ Q X:=h
theorem NK{Λ:Loc}{G:List PV->St->Prop}(g61:∀ x,get 61 (put 70 x Λ)=some (.ref d)):∀ {l:List PV} {sps:List Sp} {vs:List PV} {σ:St} {a:Nat},All2 SpV sps vs->(∀ s∈sps,s∈CU)->DeckAt σ d a->a+4*l.length<=100->sps.length+l.length<=100 →
  (∀ sps' vs' σ' a',All2 SpV sps' vs'->(∀ s∈sps',s∈CU)->sps'.length<=sps.length+l.length->ExtD d σ σ'->DeckAt σ' d a'->a'<=a+4*l.length->G vs' σ') →
  gathers (fun _=>(U true (n+2)).free) (fun x σ K=>wpE (U true (n+2)) (.call 51 [(.var 61)]) (put 70 x Λ) σ (fun u σ=>K (some u) σ) (fun _=>False)) l vs σ G
 | [],sps,vs,σ,a,hv,hs,D,ha,hl,h=>⟨(FK true _).mpr rfl,AY (by rw[← hv.len];exact ar15),h sps vs σ a hv hs (by simp) (fun _ _ _ q=>q) D (by exact ar0)⟩
 | x::l,sps,vs,σ,a,hv,hs,D,ha,hl,h=>by
  simp only[List.length_cons]at ha hl
  refine⟨(FK true _).mpr rfl,?_⟩
  refine CP (BB (AB (AA (g61 x)) AE) (b5w (n:=n) D (by exact ar15) fun s v σ₁ a₁ hs₁ hv₁ e₁ D₁ ha₁=>?_))
  refine NK g61 (sps:=sps++[s]) (All2.app hv₁ hv) (fun z hz=>(List.mem_append.mp hz).elim (hs z) fun hz=>by rw[List.mem_singleton.mp hz];exact hs₁) D₁ (by lia) (by simp;exact ar7) fun sps' vs' σ' a' q1 q2 q3 q4 q5 q6=>h sps' vs' σ' a' q1 q2 ?_ (e₁.trans q4) q5 ?_
  ·simp only[List.length_append,List.length_cons,List.length_nil]at q3 ⊢;lia
  ·simp only[List.length_cons];lia
noncomputable abbrev nmV(ns:List Str):List PV:=ns.map fun x=>.str x true
theorem a2a(l:List Str):BJ (nmV l)=some l:=by
 induction l with
 | nil=>rfl
 | cons x l ih=>exact NO ih
noncomputable abbrev NL:List MS:=[.asg 12 (.idx (.call 39 []) (.call 42 [(.var 61),(.int 8)])),.asg 53 (.bin .add (.var 53) (.ite (.cmp .notin (.var 12) (.var 53)) (.lst [(.var 12)]) (.lst [])))]
theorem a2b:∀ {l:List PV} {ns:List Str} {r a:Nat} {Λ:Loc} {σ:St},d<r->σ[r]? = some (.list (nmV ns))->(∀ x∈ns,x∈namesL)->DeckAt σ d a->a+l.length<=100->ns.length+l.length<=100->get 61 Λ=some (.ref d)->get 53 Λ=some (.ref r) →
  (∀ ns' r' Λ' σ',d<r'->σ'[r']? = some (.list (nmV ns'))->(∀ x∈ns',x∈namesL)->ns'.length<=100->ExtD d σ σ'->Only [70,12,53] Λ Λ'->get 53 Λ'=some (.ref r')->R .next Λ' σ') →
  turns (fun _=>(U true (n+2)).free) (BN (U true (n+2)) 70 NL (fun _=>False)) l Λ σ R:=by
 intro l
 induction l with
 | nil =>
  intro ns r a Λ σ hr hl hn D ha hc g61 g53 h
  exact⟨(FK true _).mpr rfl,h ns r Λ σ hr hl hn (by exact ar14) (fun _ _ _ q=>q) .refl g53⟩
 | cons x l ih =>
  intro ns r a Λ σ hr hl hn D ha hc g61 g53 h
  simp only[List.length_cons]at ha hc
  refine turn ((FK true _).mpr rfl) ?_
  show AN (U true (n+2)) NL (put 70 x Λ) σ _ _
  have k61:get 61 (put 70 x Λ)=some (.ref d):=AL rfl g61
  have k53:get 53 (put 70 x Λ)=some (.ref r):=AL rfl g53
  have ks:Only [70,12,53] Λ (put 70 x Λ):=.put rfl
  revert k61 k53 ks
  generalize put 70 x Λ=Λ₁
  intro k61 k53 ks
  refine AS (NI (n:=n+1) (L:=XS) (fun σ Q X h=>b2x h) (by decide) (by decide) rfl D (by exact ar15) k61 fun v y σ₁ hy e₁ D₁=>?_)
  refine AD ?_<|names_v.at hy;rintro y hy1 rfl
  have hy:=List.mem_of_getElem? hy1
  have q61:get 61 (put 12 (PV.str y true) Λ₁)=some (.ref d):=AL rfl k61
  have q53:get 53 (put 12 (PV.str y true) Λ₁)=some (.ref r):=AL rfl k53
  have q12:get 12 (put 12 (PV.str y true) Λ₁)=some (.str y true):=AU
  have qs:=ks.trans (.put (k:=12) (v:=PV.str y true) rfl)
  revert q61 q53 q12 qs
  generalize put 12 (PV.str y true) Λ₁=Λ₂
  intro q61 q53 q12 qs
  have hl₁:=e₁ _ _ (Nat.ne_of_gt hr) hl
  have hin:cmp σ₁ .notin (.str y true) (.ref r)=some (!ns.contains y):=by
   simp only[a1h,cm_ni,in_ref,AG hl₁,a2a];rfl
  have go:∀ {ms:List Str},(∀ x∈ms,x∈namesL)->ms.length<=1->AN (U true (n+2)) [] (put 53 (.ref (σ₁++[AO.list (nmV ms)]).length) Λ₂) (σ₁++[AO.list (nmV ms)]++[AO.list (nmV ns++nmV ms)]) (tk (fun _=>(U true (n+2)).free) (BN (U true (n+2)) 70 NL (fun _=>False)) l R) (fun _=>False):=fun{ms} hms hml=>by
   have e₂:Ext σ₁ (σ₁++[AO.list (nmV ms)]++[AO.list (nmV ns++nmV ms)]):=Ext.app.trans .app
   have hlt:=D₁.lt
   refine AX (ih (ns:=ns++ms) (r:=(σ₁++[AO.list (nmV ms)]).length) (by simp;exact ar5) (by rw[app_new];unfold nmV;rw[List.map_append]) (fun z hz=>(List.mem_append.mp hz).elim (hn z) (hms z)) (D₁.ext e₂) (by exact ar7) (by simp;lia) (AL rfl q61) AU fun ns' r' Λ' σ' z1 z2 z3 z4 z5 z6 z7=>h ns' r' Λ' σ' z1 z2 z3 z4 ((e₁.trans e₂.toD).trans z5) ((qs.trans (.put rfl)).trans z6) z7)
  refine AS (FQ (AC (AA q53) (HX (AC (AF (AA q12) (AA q53) hin) (CN (fun _=>?_) fun _=>?_)))))
  ·refine CG (BB (AB (AA q12) AE) (AI (LZ (vs:=nmV ns) (us:=nmV [y]) (AP hl₁) app_new (by simp;exact ar15)) (go (ms:=[y]) (fun z hz=>by rw[List.mem_singleton.mp hz];exact hy) (by simp))))
  ·refine CG (BC (AI (LZ (vs:=nmV ns) (us:=nmV []) (AP hl₁) app_new (by simp;exact ar15)) (go (ms:=[]) (fun z hz=>by cases hz) (by simp))))
noncomputable def XU(T:Tb)(Λ:Loc):PV->St->(Option PV->St->Prop)->Prop:=fun x σ K=>US T [] (put 6 x Λ) σ (fun t σ=>if t=true then wpE T (.new 6 [(.idx (.var 6) (.int 0))]) (put 6 x Λ) σ (fun u σ=>K (some u) σ) (fun _=>False)else K none σ) (fun _=>False)
theorem a4y{x:PV}{K:Option PV->St->Prop}(h:wpE T (.new 6 [(.idx (.var 6) (.int 0))]) (put 6 x Λ) σ (fun u σ=>K (some u) σ) (fun _=>False)):XU T Λ x σ K:=h
theorem OS{c:Nat}{vs₀:List PV}{G:List PV->St->Prop}{Λ:Loc}:∀ {sps don:List Sp} {vs:List PV} {refs:List Nat} {σ:St},All2 SpV sps vs->(∀ s∈sps,s∈CU)->All2 (fun s i=>RsAt σ (Sp.txt s) i) don refs->σ[c]? = some (.list vs₀)->don.length+sps.length<=100 →
  (∀ refs' σ',All2 (fun s i=>RsAt σ' (Sp.txt s) i) (don++sps) refs'->Ext σ σ'->G (refs'.map .ref) σ') →
  gathers (DB c vs₀) (XU (U b (n+3)) Λ) vs (refs.map .ref) σ G
 | [],don,[],refs,σ,_,_,hd,hc,hl,h=>⟨AG hc,AY (by rw[List.length_map,← hd.len];exact ar15),h refs σ (by simpa using hd) .refl⟩
 | s::sps,don,v::vs,refs,σ,hv,hs,hd,hc,hl,h=>by
  simp only[List.length_cons]at hl
  refine AR ?_<|hv.1;rintro t rfl
  refine⟨AG hc,?_⟩
  have g6:get 6 (put 6 (PV.tup [.str s.txt t,sdV s.src,tgV s.tgt,.bool s.fo,.bool s.ng]) Λ)=some (PV.tup [.str s.txt t,sdV s.src,tgV s.tgt,.bool s.fo,.bool s.ng]):=AU
  refine a4y ?_
  refine NX (BB (AB (BH (AA g6) AH rfl) AE) ?_)
  rw[NV]
  have hok:=UP s (hs s (.head _))
  unfold XT at hok
  simp only[Bool.and_eq_true]at hok
  refine XN (n:=n+1) (i:=σ.length) app_new (fun _ a ha=>⟨rfl,?_⟩) fun hno=>?_
  ·have e1:(σ++[AO.inst 6 []]).set σ.length a=σ++[a]:=KS
   rw[e1]
   have e2:Ext σ (σ++[a]):=.app
   have hk:RsAt (σ++[a]) s.txt σ.length:=⟨a,app_new,ha⟩
   have hq:=OS (c:=c) (vs₀:=vs₀) (G:=G) (Λ:=Λ) (sps:=sps) (don:=don++[s]) (vs:=vs) (refs:=refs++[σ.length]) (σ:=σ++[a]) hv.2 (fun z hz=>hs z (.tail _ hz)) (All2.app (R:=fun(s:Sp) i=>RsAt (σ++[a]) s.txt i) hk ?_) (AP hc) (by simp;exact ar7) fun refs' σ' z1 z2=>h refs' σ' (by rw[List.append_assoc]at z1;exact z1) (e2.trans z2)
   ·rw[List.map_append]at hq
    exact hq
   ·exact All2.imp (fun _ _ q=>RsAt.ext q e2.toN) hd
  ·rw[hno]at hok
   exact absurd hok.1.1.1 (by decide)
 | [],_,_::_,_,_,h,_,_,_,_,_=>h.elim
 | _::_,_,[],_,_,h,_,_,_,_,_=>h.elim
end
noncomputable def a9a(s:Sp):Bool:=(match s.tgt with | none=>true | some t=>SS t)&&(!s.ng||s.tgt.isNone)
theorem b0k:∀ s∈CU,a9a s=true:=by decide +kernel
noncomputable def zOk(T:Tb)(i j:Nat)(vs us:List PV):St->Prop:=fun τ=>T.free/\(AK τ i=some vs/\AK τ j=some us)
noncomputable def UQ(T:Tb)(k j:Nat)(bd:List MS):PV×PV->Loc->St->(Fl->Loc->St->Prop)->Prop:=fun x Λ σ K=>AN T bd (put j x.2 (put k x.1 Λ)) σ K (fun _=>False)
noncomputable def tkZ(ok:St->Prop)(step:PV×PV->Loc->St->(Fl->Loc->St->Prop)->Prop)(vs:List (PV×PV))(R:Fl->Loc->St->Prop):Fl->Loc->St->Prop
 | .ret u,Λ,σ=>R (.ret u) Λ σ
 | .next,Λ,σ=>EH ok step vs Λ σ R
 | .cont,Λ,σ=>EH ok step vs Λ σ R
section
variable {b:Bool}{n i j k f c d a m e r q:Nat}{T:Tb}{Λ Λ':Loc}{σ σ₀ τ ρ:St}{Q:PV->St->Prop}{X:St->Prop}{R:Fl->Loc->St->Prop}{o:List UInt8}{row:Int}{x:Str}{s:Sp}
theorem b0l{ok:St->Prop}{step:PV×PV->Loc->St->(Fl->Loc->St->Prop)->Prop}{v:PV×PV}{vs:List (PV×PV)}(h1:ok σ)(h2:step v Λ σ (tkZ ok step vs R)):EH ok step (v::vs) Λ σ R:=by
 refine⟨h1,?_⟩
 have e:(fun f Λ' σ'=>match f with | .ret u=>R (.ret u) Λ' σ' | _=>EH ok step vs Λ' σ' R)=tkZ ok step vs R:=by
  funext f Λ σ;induction f using Fl.casesOn<;>rfl
 rw[← e]at h2;exact h2
theorem a4z{k j':Nat}{e e':ME}{bd r':List MS}{vs us:List PV}(h1:Ev T e Λ σ (.ref i))(h2:Ev T e' Λ σ (.ref j))(hi:σ[i]? = some (.list vs))(hj:σ[j]? = some (.list us))(hl:vs.length=us.length)(h:EH (zOk T i j vs us) (UQ T k j' bd) (vs.zip us) Λ σ (sq T r' R X)):AN T (.forZ k j' e e' bd::r') Λ σ R X:=by
 refine LR (h1 _ _ (h2 _ _ ?_))
 refine AI (a:=(vs.zip us,fun τ=>AK τ i=some vs/\AK τ j=some us)) ?_ h
 simp only[OU,AG hi,AG hj,hl,if_true]
theorem b5x{x:Option Str}{t u:Bool}:cmp τ .ne (oV t x) (oV u x)=some false:=by induction x using Option.casesOn with | none=>rfl | some x=>exact congrArg (fun b=>some (!b)) (beq_self_eq_true x)
theorem a9b{t:Bool}:cmp τ .ne (.bool t) (.bool t)=some false:=congrArg (fun b=>some (!b)) (beq_self_eq_true t)
theorem IG(hs:s∈CU)(hx:x∈namesL):(DU (BX s.txt) x).isSome=(FN s.src x).isSome/\UM s.txt x=true/\a1z s.txt x=DA s x/\(∀ y,FN s.src x=some y->y.length<=1000)/\(∀ y,DA s x=some y->RP s.txt y=true/\UN s.txt y=some x/\Low y=true/\y.length<=1000):=by
 have h:=b2y s hs x hx
 unfold a4w at h
 simp only[Bool.and_eq_true,decide_eq_true_eq,beq_iff_eq]at h
 revert h;refine oA2 ?_;rintro⟨⟨⟨h1,h2⟩,h3⟩,h4⟩ h5
 refine⟨h1,h2,h3,fun y hy=>?_,fun y hy=>?_⟩
 ·rw[hy]at h4;simpa using h4
 ·rw[hy]at h5
  simp only[Bool.and_eq_true,decide_eq_true_eq]at h5
  exact⟨h5.1.1.1,h5.1.1.2,h5.1.2,h5.2⟩
noncomputable abbrev spT(s:Sp)(t:Bool):PV:=.tup [.str s.txt t,sdV s.src,tgV s.tgt,.bool s.fo,.bool s.ng]
noncomputable abbrev innerB:List MS:=[.asg 78 (.call 49 [(.idx (.var 6) (.int 1)),(.var 12)]),.ifS (.cmp .ne (.meth (.var 56) (.own 58) [(.var 12)]) (.cmp .isnot (.var 78) .none)) [.ret (.bool false)] [],.asg 73 .none,.ifS (.and (.cmp .isnot (.var 78) .none) (.cmp .isnot (.idx (.var 6) (.int 2)) .none)) [.asg 73 (.bin .add (.idx (.idx (.var 6) (.int 2)) (.int 0)) (.ite (.cmp .isnot (.idx (.idx (.var 6) (.int 2)) (.int 1)) .none) (.bin .add (.var 78) (.idx (.idx (.var 6) (.int 2)) (.int 1))) (.str "")))] [],.ifS (.cmp .ne (.meth (.var 56) (.own 57) [(.var 12)]) (.var 73)) [.ret (.bool false)] [],.ifS (.and (.cmp .isnot (.var 73) .none) (.cmp .ne (.meth (.var 56) (.own 79) [(.var 73)]) (.var 12))) [.ret (.bool false)] []]
theorem a2c{t:Bool}(hs:s∈CU)(hx:x∈namesL)(hr:RsAt σ s.txt q)(g6:get 6 Λ=some (spT s t))(g56:get 56 Λ=some (.ref q))(g12:get 12 Λ=some (.str x true))(h:∀ Λ',Only [12,78,73] Λ Λ'->R .next Λ' σ):AN (U b (n+2)) innerB Λ σ R X:=by
 refine oA5 ?_<|IG hs hx;intro h1 h2 h3 h4 h5
 have ht:=b0k s hs
 refine AS (AC (DL (AB (BH (v:=sdV s.src) (AA g6) AH rfl) (AB (AA g12) AE)) b0i) ?_)
 have k6:get 6 (put 78 (oV true (FN s.src x)) Λ)=some (spT s t):=AL rfl g6
 have k56:get 56 (put 78 (oV true (FN s.src x)) Λ)=some (.ref q):=AL rfl g56
 have k12:get 12 (put 78 (oV true (FN s.src x)) Λ)=some (.str x true):=AL rfl g12
 have k78:get 78 (put 78 (oV true (FN s.src x)) Λ)=some (oV true (FN s.src x)):=AU
 have ks:Only [12,78,73] Λ (put 78 (oV true (FN s.src x)) Λ):=.put rfl
 revert k6 k56 k12 k78 ks
 generalize put 78 (oV true (FN s.src x)) Λ=Λ₁
 intro k6 k56 k12 k78 ks
 refine BL (AF (DZ (AA k56) (hr.mok rfl rfl) (AB (AA k12) AE) (a4v hr)) (AF (AA k78) BI GD) (by rw[h1];exact a9b)) ?_
 refine AS (AC BI ?_)
 have q6:get 6 (put 73 PV.none Λ₁)=some (spT s t):=AL rfl k6
 have q56:get 56 (put 73 PV.none Λ₁)=some (.ref q):=AL rfl k56
 have q12:get 12 (put 73 PV.none Λ₁)=some (.str x true):=AL rfl k12
 have q78:get 78 (put 73 PV.none Λ₁)=some (oV true (FN s.src x)):=AL rfl k78
 have q73:get 73 (put 73 PV.none Λ₁)=some .none:=AU
 have qs:=ks.trans (.put (k:=73) (v:=PV.none) rfl)
 revert q6 q56 q12 q78 q73 qs
 generalize put 73 PV.none Λ₁=Λ₂
 intro q6 q56 q12 q78 q73 qs
 have fin:∀ {Λ₃:Loc},Only [12,78,73] Λ₂ Λ₃->get 12 Λ₃=some (.str x true)->get 73 Λ₃=some (oV true (DA s x))->AN (U b (n+2)) (innerB.drop 4) Λ₃ σ R X:=fun{Λ₃} z z12 z73=>by
  have z56:get 56 Λ₃=some (.ref q):=z.get q56 rfl
  refine BL (AF (DZ (AA z56) (hr.mok rfl rfl) (AB (AA z12) AE) (PR hr h2)) (AA z73) (by rw[h3];exact b5x)) ?_
  have e1:=AF (T:=U b (n+2)) (σ:=σ) (AA z73) BI GD
  revert z73 e1 h5
  generalize DA s x=y
  intro h5 z73 e1
  induction y using Option.casesOn with
  | none=>exact BL (HW e1) (AX (h _ (qs.trans z)))
  | some y =>
   refine oA3 ?_<|h5 y rfl;intro b1 b2 _
   refine BL (MZ e1 (AF (DZ (AA z56) (hr.mok rfl rfl) (AB (AA z73) AE) (b5u hr b1)) (AA z12) ?_)) (AX (h _ (qs.trans z)))
   rw[b2]
   exact b5x (x:=some x) (t:=false) (u:=true)
 have e2:Ev (U b (n+2)) (.idx (.var 6) (.int 2)) Λ₂ σ (tgV s.tgt):=BH (AA q6) AH rfl
 have e1:=AF (T:=U b (n+2)) (σ:=σ) (AA q78) BI GD
 unfold DA at fin
 unfold a9a at ht
 revert q78 e1 e2 fin h4 ht
 generalize FN s.src x=y
 generalize s.tgt=tg
 intro h4 ht q78 fin e2 e1
 induction y using Option.casesOn with
 | none=>exact BL (HW e1) (fin .refl q12 q73)
 | some y =>
  induction tg using Option.casesOn with
  | none=>exact BL (MZ e1 (AF e2 BI rfl)) (fin .refl q12 q73)
  | some z =>
   have hy:=h4 y rfl
   obtain⟨hd,tl⟩:=z
   simp only[Bool.and_eq_true]at ht
   have hz:=ht.1
   unfold SS at hz
   have f0:Ev (U b (n+2)) (.idx (.idx (.var 6) (.int 2)) (.int 0)) Λ₂ σ (.str hd true):=BH e2 AH rfl
   have f1:Ev (U b (n+2)) (.idx (.idx (.var 6) (.int 2)) (.int 1)) Λ₂ σ (oV true tl):=BH e2 AH rfl
   have f2:=AF f1 BI GD
   have le:E0.length=0:=by decide
   refine BV (JJ e1 (AF e2 BI rfl)) ?_
   simp only[Bool.and_eq_true,decide_eq_true_eq]at hz
   induction tl using Option.casesOn with
   | none=>exact AS (AC (AT f0 (ER f2 AM) (add_str (AY (by show hd.length+E0.length<=_;lia)))) (BD (fin (.put rfl) (AL rfl q12) AU)))
   | some w =>
    have hw:w.length<=1000:=by simpa using hz.2
    exact AS (AC (AT f0 (GB f2 (AT (AA q78) f1 (add_str (AY (by lia))))) (add_str (AY (by rw[str_len_app];lia)))) (BD (fin (.put rfl) (AL rfl q12) AU)))
theorem RQ{ns:List Str}{t:Bool}{G:Fl->Loc->St->Prop}(hs:s∈CU)(hr:RsAt σ s.txt q)(hl:σ[r]? = some (.list (nmV ns))):∀ {ms:List Str} {Λ:Loc},(∀ x∈ms,x∈namesL)->get 6 Λ=some (spT s t)->get 56 Λ=some (.ref q)->(∀ Λ',Only [12,78,73] Λ Λ'->G .next Λ' σ) →
  turns (DB r (nmV ns)) (BN (U b (n+2)) 12 innerB X) (nmV ms) Λ σ G
 | [],Λ,_,g6,g56,h=>⟨AG hl,h Λ .refl⟩
 | x::ms,Λ,hm,g6,g56,h=>by
  refine turn (AG hl) ?_
  show AN (U b (n+2)) innerB (put 12 (.str x true) Λ) σ _ _
  refine a2c (t:=t) hs (hm x (.head _)) hr (AL rfl g6) (AL rfl g56) AU fun Λ' z=>?_
  have z':Only [12,78,73] Λ Λ':=(Only.put (k:=12) rfl).trans z
  exact RQ hs hr hl (fun y hy=>hm y (.tail _ hy)) (z'.get g6 rfl) (z'.get g56 rfl) fun Λ'' w=>h Λ'' (z'.trans w)
noncomputable abbrev a5a:List MS:=[.ifS (.or (.cmp .ne (.attr (.var 56) 44) (.idx (.var 6) (.int 3))) (.cmp .ne (.attr (.var 56) 45) (.idx (.var 6) (.int 4)))) [.ret (.bool false)] [],.for 12 (.var 53) innerB]
theorem RS{ns:List Str}{G:Fl->Loc->St->Prop}{ok:St->Prop}(hok:ok σ)(hl:σ[r]? = some (.list (nmV ns)))(hn:∀ x∈ns,x∈namesL):∀ {sps:List Sp} {vs:List PV} {refs:List Nat} {Λ:Loc},All2 SpV sps vs->All2 (fun s i=>RsAt σ (Sp.txt s) i) sps refs->(∀ s∈sps,s∈CU)->get 53 Λ=some (.ref r)->(∀ Λ',Only [56,6,12,78,73] Λ Λ'->G .next Λ' σ) →
  EH ok (UQ (U b (n+2)) 56 6 a5a) ((refs.map .ref).zip vs) Λ σ G
 | [],[],[],Λ,_,_,_,_,h=>⟨hok,h Λ .refl⟩
 | s::sps,v::vs,q::refs,Λ,hv,hr,hs,g53,h=>by
  refine AR ?_<|hv.1;rintro t rfl
  have hr1:RsAt σ s.txt q:=hr.1
  refine b0l hok ?_
  show AN (U b (n+2)) a5a (put 6 (spT s t) (put 56 (.ref q) Λ)) σ _ _
  have k6:get 6 (put 6 (spT s t) (put 56 (.ref q) Λ))=some (spT s t):=AU
  have k56:get 56 (put 6 (spT s t) (put 56 (.ref q) Λ))=some (.ref q):=by rw[get_put,get_put];rfl
  have k53:get 53 (put 6 (spT s t) (put 56 (.ref q) Λ))=some (.ref r):=by rw[get_put,get_put];exact g53
  have ks:Only [56,6,12,78,73] Λ (put 6 (spT s t) (put 56 (.ref q) Λ)):=(Only.put (k:=56) rfl).trans (.put rfl)
  revert k6 k56 k53 ks
  generalize put 6 (spT s t) (put 56 (.ref q) Λ)=Λ₁
  intro k6 k56 k53 ks
  have hsp:=UP s (hs s (.head _))
  unfold XT at hsp
  simp only[Bool.and_eq_true,beq_iff_eq]at hsp
  revert hsp;refine oA2 ?_;rintro⟨⟨_,hf⟩,hg⟩ _
  refine BL (QY (AF (hr1.at44 k56) (BH (AA k6) AH rfl) (by rw[hf];exact a9b)) (AF (hr1.at45 k56) (BH (AA k6) AH rfl) (by rw[hg];exact a9b))) ?_
  refine GL (j:=r) (vs:=nmV ns) (AA k53) hl (RQ (t:=t) (hs s (.head _)) hr1 hl hn k6 k56 fun Λ₂ z=>?_)
  have z':Only [56,6,12,78,73] Λ₁ Λ₂:=fun j hj=>z j (by
   simp only[List.contains_cons,Bool.or_eq_false_iff,List.contains_nil]at hj ⊢
   exact⟨hj.2.2.1,hj.2.2.2.1,hj.2.2.2.2.1,trivial⟩)
  exact RS hok hl hn hv.2 hr.2 (fun w hw=>hs w (.tail _ hw)) (z'.get k53 rfl) fun Λ' y=>h Λ' ((ks.trans z').trans y)
 | [],[],_::_,_,_,h,_,_,_=>h.elim
 | [],_::_,_,_,h,_,_,_,_=>h.elim
 | _::_,[],_,_,h,_,_,_,_=>h.elim
 | _::_,_::_,[],_,_,h,_,_,_=>h.elim
end
noncomputable abbrev BM:=List (Str×Bool)
noncomputable def kvs(bm:BM):List (Str×PV):=bm.map fun p=>(p.1,PV.bool p.2)
noncomputable def KK(k:Str):BM->Option Bool
 | []=>none
 | (j,v)::r=>if k=j then some v else KK k r
noncomputable def MB(k:Str)(v:Bool):BM->BM
 | []=>[(k,v)]
 | (j,u)::r=>if k=j then(j,v)::r else(j,u)::MB k v r
theorem PT(k:Str):∀ bm:BM,DQ k (kvs bm)=(KK k bm).map .bool
 | []=>rfl
 | (j,v)::r=>by
  show(if k=j then _ else _)=_
  rw[KK]
  by_cases h:k=j
  ·rw[if_pos h,if_pos h];rfl
  ·rw[if_neg h,if_neg h];exact PT k r
theorem XV(k:Str)(v:Bool):∀ bm:BM,IZ k (.bool v) (kvs bm)=kvs (MB k v bm)
 | []=>rfl
 | (j,u)::r=>by
  show(if k=j then _ else _)=_
  rw[MB]
  by_cases h:k=j
  ·rw[if_pos h,if_pos h];rfl
  ·rw[if_neg h,if_neg h]
   have:=XV k v r
   show _::IZ k (.bool v) (kvs r)=_
   rw[this];rfl
theorem XW(k:Str)(v:Bool):∀ bm:BM,(MB k v bm).length<=bm.length+1
 | []=>Nat.le_refl _
 | (j,u)::r=>by
  rw[MB]
  split
  ·exact Nat.le_succ _
  ·exact Nat.succ_le_succ (XW k v r)
set_option tactic.hygienic true in
theorem XX{k:Str}{v:Bool}{p:Str×Bool}:∀ {bm:BM},p∈MB k v bm->p.1=k\/p∈bm
 | [],h=>by
  rw[List.mem_singleton.mp h];exact .inl rfl
 | (j,u)::r,h=>by
  rw[MB]at h
  split at h
  ·rename_i e
   rcases List.mem_cons.mp h with h | h
   ·rw[h];exact .inl e.symm
   ·exact .inr (.tail _ h)
  ·rcases List.mem_cons.mp h with h | h
   ·rw[h];exact .inr (.head _)
   ·exact(XX h).imp id fun h=>.tail _ h
theorem XY{p:Str×Bool}:∀ {bm:BM},p∈bm->∃ v,KK p.1 bm=some v
 | (j,u)::r,h=>by
  rw[KK]
  by_cases e:p.1=j
  ·rw[if_pos e];exact⟨_,rfl⟩
  ·rw[if_neg e]
   rcases List.mem_cons.mp h with h | h
   ·rw[h]at e;exact absurd rfl e
   ·exact XY h
noncomputable def CY(x:Str)(bm:BM)(s:Sp):BM:=match DA s x with
 | none=>bm
 | some y=>MB y ((KK y bm).getD false||s.fo) bm
noncomputable def GG(x:Str)(s:Sp):Bool:=s.ng&&(FN s.src x).isSome
noncomputable def HH(x:Str)(bm:BM):List PV:=bm.map fun p=>.tup [.str x true,.str p.1 false,.bool ((KK p.1 bm).getD false)]
noncomputable def told1(sps:List Sp)(x:Str):List PV:=if sps.any (GG x)=true then[]else HH x (sps.foldl (CY x) [])
noncomputable def FH(sps:List Sp)(ns:List Str):List PV:=ns.flatMap (told1 sps)
noncomputable def XZ(bm:BM):Prop:=∀ p∈bm,Low p.1=true/\p.1.length<=1000
section
variable {b:Bool}{n i j k f c d a m e r q:Nat}{T:Tb}{Λ Λ':Loc}{σ σ₀ τ ρ:St}{Q:PV->St->Prop}{X:St->Prop}{R:Fl->Loc->St->Prop}{o:List UInt8}{row:Int}{x:Str}{s:Sp}{bm:BM}
theorem NM(x:Str)(bm:BM)(s:Sp):(CY x bm s).length<=bm.length+1:=by
 unfold CY
 split
 ·exact Nat.le_succ _
 ·exact XW _ _ _
theorem a9c(hs:s∈CU)(hx:x∈namesL)(h:XZ bm):XZ (CY x bm s):=by
 refine oA5 ?_<|IG hs hx;intro _ _ _ _ h5
 unfold CY
 revert h5
 generalize DA s x=y
 intro h5
 induction y using Option.casesOn with
 | none=>exact h
 | some y =>
  intro p hp
  rcases XX hp with e | hp
  ·rw[e];exact⟨(h5 y rfl).2.2.1,(h5 y rfl).2.2.2⟩
  ·exact h p hp
theorem LD(hx:x∈namesL):∀ {sps:List Sp} {bm:BM},(∀ s∈sps,s∈CU)->XZ bm->XZ (sps.foldl (CY x) bm)/\(sps.foldl (CY x) bm).length<=bm.length+sps.length
 | [],bm,_,h=>⟨h,Nat.le_refl _⟩
 | s::sps,bm,hs,h=>by
  refine oA2 ?_<|LD hx (fun z hz=>hs z (.tail _ hz)) (a9c (hs s (.head _)) hx h);intro h1 h2
  have:=NM x bm s
  refine⟨h1,?_⟩
  simp only[List.foldl_cons,List.length_cons]at h2 ⊢
  lia
theorem ZZ{y:Str}{t v:Bool}(h:σ[m]? = some (.dict (kvs bm)))(hl:bm.length<=1000):setItem σ (.ref m) (.str y t) (.bool v)=some (σ.set m (.dict (kvs (MB y v bm)))):=by
 have hf:fits (kvs bm).length=true:=AY (by unfold kvs;rw[List.length_map];exact ar1)
 simp only[setItem,FC h,hf,if_true,XV]
theorem a5b{y:Str}{t:Bool}(h:σ[m]? = some (.dict (kvs bm))):meth σ (.ref m) .get [.str y t,.bool false]=some (.bool ((KK y bm).getD false),σ):=by
 simp only[b4r,FC h,PT]
 cases KK y bm<;>rfl
theorem YA{l:List (Str×PV)}{l':List (Str×PV)}(h:σ[m]? = some (.dict l)):ExtN σ (σ.set m (.dict l')):=fun k a hk ha=>BK ha (by
 rintro rfl
 rw[h]at ha;replace ha:=sj ha;subst ha
 exact hk _ rfl)
theorem b3a{elt tgt it cap}(h:wpE T it Λ σ (fun v σ=>opt (HY σ v) fun l=>gathers (fun _=>T.free) (fun x σ K=>wpE T elt (put tgt x (BE cap Λ)) σ (fun u σ=>K (some u) σ) (fun _=>False)) l [] σ fun vs σ=>Q (.ref σ.length) (σ++[.list vs])) X):wpE T (.compD elt tgt it cap) Λ σ Q X:=h
theorem YB{kv kd:Nat}{bm₀:BM}(h12:12≠kv)(hkd:kd≠kv)(hm:σ[m]? = some (.dict (kvs bm₀)))(g12:get 12 Λ=some (.str x true))(gd:get kd Λ=some (.ref m)):∀ {bm:BM},(∀ p∈bm,p∈bm₀)->Gath (EL T (.tup [(.var 12),(.var kv),(.idx (.var kd) (.var kv))]) [] kv Λ σ) (bm.map fun p=>.str p.1 false) (bm.map fun p=>.tup [.str x true,.str p.1 false,.bool ((KK p.1 bm₀).getD false)])
 | [],_=>.nil
 | p::bm,h=>by
  refine .one ⟨trivial,?_⟩ (YB h12 hkd hm g12 gd fun z hz=>h z (.tail _ hz))
  have k12:get 12 (put kv (PV.str p.1 false) Λ)=some (.str x true):=by rw[get_put,if_neg h12];exact g12
  have kd':get kd (put kv (PV.str p.1 false) Λ)=some (.ref m):=by rw[get_put,if_neg hkd];exact gd
  have kk:get kv (put kv (PV.str p.1 false) Λ)=some (.str p.1 false):=by rw[get_put,if_pos rfl]
  refine IC (AB (AA k12) (AB (AA kk) (AB (BH (AA kd') (AA kk) ?_) AE)))
  show(match dictAt σ m with | some kvs=>DQ p.1 kvs | none=>none)=_
  rw[FC hm]
  show DQ p.1 (kvs bm₀)=_
  refine AR ?_<|XY (h p (.head _));intro v hv
  rw[PT,hv];rfl
theorem a5c{kv kd:Nat}(h12:12≠kv)(hkd:kd≠kv)(hm:σ[m]? = some (.dict (kvs bm)))(hb:XZ bm)(hl:bm.length<=1000)(g12:get 12 Λ=some (.str x true))(gd:get kd Λ=some (.ref m))(h:Q (.ref σ.length) (σ++[.list (HH x bm)])) :
  wpE (U true n) (.compD (.tup [(.var 12),(.var kv),(.idx (.var kd) (.var kv))]) kv (.var kd) [12,kd]) Λ σ Q X:=by
 refine b3a (AC (AA gd) (AI (a:=bm.map fun p=>.str p.1 false) ?_ ?_))
 ·have h1:(fits (kvs bm).length&&(kvs bm).all (fun p=>fits p.1.length))=true:=by
   rw[Bool.and_eq_true]
   refine⟨AY (by unfold kvs;rw[List.length_map];exact ar1),?_⟩
   unfold kvs
   rw[List.all_map,List.all_eq_true]
   exact fun p hp=>AY (by have:=(hb p hp).2;show p.1.length<=_;exact ar1)
  simp only[HY,FC hm]
  rw[if_pos h1]
  unfold kvs
  rw[List.map_map];rfl
 ·refine GT ((FK true n).mpr rfl) (fun y u hp K hK=>?_) (acc:=[]) (YB (T:=U true n) (σ:=σ) (Λ:=BE [12,kd] Λ) (bm₀:=bm) h12 hkd hm (by rw[HU _ _ _ (by simp)];exact g12) (by rw[HU _ _ _ (by simp)];exact gd) fun _ h=>h) (AY (by simp;exact ar1)) ?_
  ·have:=GU hp hK
   induction u using Option.casesOn with
   | none=>exact hp.elim
   | some u=>exact hp.2 _ _ hK
  ·rw[List.nil_append];exact h
end
noncomputable def ExtX(e:Nat)(σ τ:St):Prop:=∀ (k:Nat) (a:AO),k≠e->(∀ l,a≠.dict l)->σ[k]? = some a->τ[k]? = some a
noncomputable abbrev map1B:List MS:=[.asg 48 (.meth (.var 56) (.own 57) [(.var 12)]),.ifS (.and (.attr (.var 56) 45) (.meth (.var 56) (.own 58) [(.var 12)])) [.asg 54 (.bool true)] [.ifS (.cmp .isnot (.var 48) .none) [.setI (.var 55) (.var 48) (.or (.meth (.var 55) .get [(.var 48),(.bool false)]) (.attr (.var 56) 44))] []]]
noncomputable abbrev map2B:List MS:=[.asg 54 (.bool false),.asg 55 (.dct [] []),.for 56 (.var 52) map1B,.ifS (.not (.var 54)) [.exp (.meth (.var 30) .extend [(.compD (.tup [(.var 12),(.var 48),(.idx (.var 55) (.var 48))]) 48 (.var 55) [12,55])])] []]
section
variable {b:Bool}{n i j k f c d a m e r q:Nat}{T:Tb}{Λ Λ':Loc}{σ σ₀ τ ρ:St}{Q:PV->St->Prop}{X:St->Prop}{R:Fl->Loc->St->Prop}{o:List UInt8}{row:Int}{x:Str}{s:Sp}{bm:BM}
theorem ExtX.trans(h:ExtX e σ τ)(h':ExtX e τ ρ):ExtX e σ ρ:=fun k a hk hd ha=>h' k a hk hd (h k a hk hd ha)
theorem ExtN.toX(h:ExtN σ τ):ExtX e σ τ:=fun k a _ hd ha=>h k a hd ha
theorem RsAt.extX{us:List PV}(h:RsAt σ x i)(ex:ExtX e σ τ)(he:σ[e]? = some (.list us)):RsAt τ x i:=by
 revert h;refine AD ?_;intro a h1 h2
 revert h2;refine b3f ?_;rintro t1 t2 t3 rfl
 refine⟨_,ex _ _ ?_ (fun l q=>by cases q) h1,t1,t2,t3,rfl⟩
 rintro rfl
 rw[h1]at he;replace he:=sj he;cases he
theorem negs(hs:s∈CU)(hx:x∈namesL)(h:GG x s=true):DA s x=none/\s.ng=true:=by
 unfold GG at h
 rw[Bool.and_eq_true]at h
 have ht:=b0k s hs
 unfold a9a at ht
 simp only[Bool.and_eq_true,h.1,Bool.not_true,Bool.false_or]at ht
 refine⟨?_,h.1⟩
 unfold DA
 revert ht
 generalize s.tgt=tg
 intro ht
 induction tg using Option.casesOn with
 | none=>cases FN s.src x<;>rfl
 | some _=>exact absurd ht.2 (by simp)
theorem b5y(hs:s∈CU)(hx:x∈namesL)(hr:RsAt σ s.txt q)(g56:get 56 Λ=some (.ref q))(g12:get 12 Λ=some (.str x true)):Ev (U b (n+2)) (.and (.attr (.var 56) 45) (.meth (.var 56) (.own 58) [(.var 12)])) Λ σ (.bool (GG x s)):=by
 refine oA2 ?_<|IG hs hx;intro h1 _
 have hsp:=UP s hs
 unfold XT at hsp
 simp only[Bool.and_eq_true,beq_iff_eq]at hsp
 unfold GG
 rw[← hsp.1.2,← h1]
 exact EJ (hr.at45 g56) fun _=>DZ (AA g56) (hr.mok rfl rfl) (AB (AA g12) AE) (a4v hr)
theorem a5d{rs:List PV}{G:Fl->Loc->St->Prop}(hx:x∈namesL):∀ {sps:List Sp} {refs:List Nat} {bm:BM} {t:Bool} {Λ:Loc} {σ:St},All2 (fun s i=>RsAt σ (Sp.txt s) i) sps refs->(∀ s∈sps,s∈CU)->σ[c]? = some (.list rs)->σ[m]? = some (.dict (kvs bm))->bm.length+sps.length<=1000->get 12 Λ=some (.str x true)->get 54 Λ=some (.bool t)->get 55 Λ=some (.ref m) →
  (∀ Λ' σ',Only [56,48,54] Λ Λ'->get 54 Λ'=some (.bool (t||sps.any (GG x)))->σ'[m]? = some (.dict (kvs (sps.foldl (CY x) bm)))->ExtN σ σ'->G .next Λ' σ') →
  turns (DB c rs) (BN (U b (n+2)) 56 map1B X) (refs.map .ref) Λ σ G:=by
 intro sps
 induction sps with
 | nil =>
  intro l2 bm t Λ σ hE _ hc hm _ g12 g54 g55 h
  induction l2 using List.casesOn with
  | nil=>exact⟨AG hc,h Λ σ .refl (by rw[List.any_nil,Bool.or_false];exact g54) hm fun _ _ _ q=>q⟩
  | cons _ _=>exact hE.elim
 | cons s sps ih =>
  intro l2 bm t Λ σ hr hs hc hm hl g12 g54 g55 h
  induction l2 using List.casesOn with
  | nil=>exact hr.elim
  | cons q refs =>
  have hr1:RsAt σ s.txt q:=hr.1
  have hs1:=hs s (.head _)
  refine oA5 ?_<|IG hs1 hx;intro h1 h2 h3 h4 h5
  simp only[List.length_cons]at hl
  refine turn (AG hc) ?_
  show AN (U b (n+2)) map1B (put 56 (.ref q) Λ) σ _ _
  refine AS (AC (DZ (AA AU) (hr1.mok rfl rfl) (AB (AA (AL rfl g12)) AE) (PR hr1 h2)) ?_)
  rw[h3]
  have k12:get 12 (put 48 (oV false (DA s x)) (put 56 (.ref q) Λ))=some (.str x true):=by rw[get_put,get_put];exact g12
  have k54:get 54 (put 48 (oV false (DA s x)) (put 56 (.ref q) Λ))=some (.bool t):=by rw[get_put,get_put];exact g54
  have k55:get 55 (put 48 (oV false (DA s x)) (put 56 (.ref q) Λ))=some (.ref m):=by rw[get_put,get_put];exact g55
  have k56:get 56 (put 48 (oV false (DA s x)) (put 56 (.ref q) Λ))=some (.ref q):=by rw[get_put,get_put];rfl
  have k48:get 48 (put 48 (oV false (DA s x)) (put 56 (.ref q) Λ))=some (oV false (DA s x)):=AU
  have ks:Only [56,48,54] Λ (put 48 (oV false (DA s x)) (put 56 (.ref q) Λ)):=(Only.put (k:=56) rfl).trans (.put rfl)
  revert k12 k54 k55 k56 k48 ks
  generalize put 48 (oV false (DA s x)) (put 56 (.ref q) Λ)=Λ₁
  intro k12 k54 k55 k56 k48 ks
  have ev:=b5y (b:=b) (n:=n) hs1 hx hr1 k56 k12
  have next:∀ {Λ₂:Loc} {σ₂:St},Only [56,48,54] Λ₁ Λ₂->get 54 Λ₂=some (.bool (t||GG x s))->σ₂[m]? = some (.dict (kvs (CY x bm s)))->ExtN σ σ₂->turns (DB c rs) (BN (U b (n+2)) 56 map1B X) (refs.map .ref) Λ₂ σ₂ G:=fun{Λ₂ σ₂} z z54 zm ze=>by
   have hlen:=NM x bm s
   refine ih (All2.imp (fun _ _ q=>RsAt.ext q ze) hr.2) (fun w hw=>hs w (.tail _ hw)) (ze.list hc) zm (by lia) (z.get k12 rfl) z54 (z.get k55 rfl) fun Λ' σ' y1 y2 y3 y4=>h Λ' σ' ((ks.trans z).trans y1) ?_ y3 (ze.trans y4)
   rw[List.any_cons,← Bool.or_assoc];exact y2
  cases hn:GG x s with
  | true =>
   rw[hn]at ev next
   have hd:=(negs hs1 hx hn).1
   have hst:CY x bm s=bm:=by unfold CY;rw[hd]
   rw[hst]at next
   refine BV ev (AS (AC CS (BD (AX (next (.put rfl) ?_ hm fun _ _ _ q=>q)))))
   rw[get_put,Bool.or_true];rfl
  | false =>
   rw[hn,Bool.or_false]at next
   rw[hn]at ev
   refine FY ev ?_
   have e1:=AF (T:=U b (n+2)) (σ:=σ) (AA k48) BI GD
   have hsp:=UP s hs1
   unfold XT at hsp
   simp only[Bool.and_eq_true,beq_iff_eq]at hsp
   revert hsp;refine oA2 ?_;rintro⟨⟨_,hf⟩,_⟩ _
   unfold CY at next
   revert k48 e1 next
   generalize DA s x=y
   intro k48 next e1
   induction y using Option.casesOn with
   | none=>exact BL e1 (BD (AX (next .refl k54 hm fun _ _ _ q=>q)))
   | some y =>
    refine BV e1 (WK (AC (CC (CO (AA k55) (ZN hm) (AB (AA k48) (AB CS AE)) (a5b hm)) fun _=>hr1.at44 k56) (AC (AA k55) (AC (AA k48) (AI (ZZ hm (by exact ar14)) (BD (BD (AX ?_))))))))
    rw[hf]
    exact next .refl k54 (AW hm) (YA hm)
theorem a5e{sps:List Sp}{refs:List Nat}{ns₀:List Str}{G:Fl->Loc->St->Prop}(hs:∀ s∈sps,s∈CU)(hls:sps.length<=100)(hec:c≠e)(her:r≠e):∀ {ns:List Str} {us:List PV} {Λ:Loc} {σ:St},(∀ x∈ns,x∈namesL)->All2 (fun s i=>RsAt σ (Sp.txt s) i) sps refs->σ[c]? = some (.list (refs.map .ref))->σ[r]? = some (.list (nmV ns₀))->σ[e]? = some (.list us)->get 52 Λ=some (.ref c)->get 30 Λ=some (.ref e)->us.length+100*ns.length<=100000 →
  (∀ Λ' σ',get 30 Λ'=some (.ref e)->σ'[e]? = some (.list (us++FH sps ns))->ExtX e σ σ'->G .next Λ' σ') →
  turns (DB r (nmV ns₀)) (BN (U true (n+2)) 12 map2B X) (nmV ns) Λ σ G:=by
 intro ns
 induction ns with
 | nil =>
  intro us Λ σ _ _ _ hr he _ g30 _ h
  exact⟨AG hr,h Λ σ g30 (by rw[show FH sps []=[] from rfl,List.append_nil];exact he) fun _ _ _ _ q=>q⟩
 | cons x ns ih =>
  intro us Λ σ hn hrs hc hr he g52 g30 hl h
  simp only[List.length_cons]at hl
  have hx:=hn x (.head _)
  refine turn (AG hr) ?_
  show AN (U true (n+2)) map2B (put 12 (.str x true) Λ) σ _ _
  refine AS (AC CS (AS (a1f (BC ?_))))
  have hm:(σ++[AO.dict (kvs [])])[σ.length]? = some (.dict (kvs [])):=app_new
  have e1:Ext σ (σ++[AO.dict (kvs [])]):=.app
  show AN _ _ (put 55 (.ref σ.length) (put 54 (.bool false) (put 12 (.str x true) Λ))) (σ++[AO.dict (kvs [])]) _ _
  have k12:get 12 (put 55 (.ref σ.length) (put 54 (.bool false) (put 12 (.str x true) Λ)))=some (.str x true):=by rw[get_put,get_put,get_put];rfl
  have k54:get 54 (put 55 (.ref σ.length) (put 54 (.bool false) (put 12 (.str x true) Λ)))=some (.bool false):=by rw[get_put,get_put];rfl
  have k55:get 55 (put 55 (.ref σ.length) (put 54 (.bool false) (put 12 (.str x true) Λ)))=some (.ref σ.length):=AU
  have k52:get 52 (put 55 (.ref σ.length) (put 54 (.bool false) (put 12 (.str x true) Λ)))=some (.ref c):=by rw[get_put,get_put,get_put];exact g52
  have k30:get 30 (put 55 (.ref σ.length) (put 54 (.bool false) (put 12 (.str x true) Λ)))=some (.ref e):=by rw[get_put,get_put,get_put];exact g30
  revert k12 k54 k55 k52 k30
  generalize put 55 (.ref σ.length) (put 54 (.bool false) (put 12 (.str x true) Λ))=Λ₁
  intro k12 k54 k55 k52 k30
  refine GL (j:=c) (vs:=refs.map .ref) (AA k52) (e1 _ _ hc) (a5d hx (All2.imp (fun _ _ q=>RsAt.ext q e1.toN) hrs) hs (e1 _ _ hc) hm (by simp;exact ar1) k12 k54 k55 fun Λ₂ σ₂ z1 z2 z3 z4=>?_)
  rw[Bool.false_or]at z2
  have z30:=z1.get k30 rfl
  have z52:=z1.get k52 rfl
  have z12:=z1.get k12 rfl
  have z55:=z1.get k55 rfl
  have n2:ExtN σ σ₂:=e1.toN.trans z4
  have he2:=n2.list he
  refine oA2 ?_ (LD (x:=x) hx (bm:=[]) hs fun p hp=>by cases hp);intro f1 f2
  simp only[List.length_nil,Nat.zero_add]at f2
  have next:∀ {σ₃:St} {l:List PV},ExtX e σ σ₃->σ₃[e]? = some (.list (us++l))->l=told1 sps x->l.length<=100->turns (DB r (nmV ns₀)) (BN (U true (n+2)) 12 map2B X) (nmV ns) Λ₂ σ₃ G:=fun{σ₃ l} x3 y3 hl1 hl2=>by
   have b1:σ₃[c]? = some (.list (refs.map .ref)):=x3 _ _ hec (fun _ q=>by cases q) hc
   have b2:σ₃[r]? = some (.list (nmV ns₀)):=x3 _ _ her (fun _ q=>by cases q) hr
   refine ih (fun y hy=>hn y (.tail _ hy)) (All2.imp (fun _ _ q=>RsAt.extX q x3 he) hrs) b1 b2 y3 z52 z30 (by rw[List.length_append];lia) fun Λ' σ' w1 w2 w3=>h Λ' σ' w1 ?_ (x3.trans w3)
   rw[w2,hl1,List.append_assoc];rfl
  refine DR (DD (AA z2)) (fun ht=>?_) fun ht=>AX ?_
  ·have ht:sps.any (GG x)=false:=by simpa using ht
   have hent:HH x (sps.foldl (CY x) [])=told1 sps x:=by unfold told1;rw[ht,if_neg (by decide)]
   have hll:(HH x (sps.foldl (CY x) [])).length<=100:=by unfold HH;rw[List.length_map];exact ar12
   refine GC (DE (AC (AA z30) (AI (a1i he2) (BS (a5c (by decide) (by decide) z3 f1 (by lia) z12 z55 (BC ?_))))))
   have hlt:=(List.getElem?_eq_some_iff.mp he2).1
   have hfit:fits (us.length+(HH x (sps.foldl (CY x) [])).length)=true:=AY (by lia)
   refine AI (a:=(.none,(σ₂++[AO.list (HH x (sps.foldl (CY x) []))]).set e (.list (us++HH x (sps.foldl (CY x) []))))) ?_ (BD (AX (next ?_ (AW (AP he2)) hent hll)))
   ·simp only[b4q,mt_app,AG (AP he2),AG (app_new (σ:=σ₂))]
    exact if_pos ⟨by lia,hfit⟩
   ·exact fun k a hk hd ha=>BK (AP (n2 k a hd ha)) (Ne.symm hk)
  ·have ht:sps.any (GG x)=true:=by simpa using ht
   refine next n2.toX (l:=[]) (by rw[List.append_nil];exact he2) ?_ (by simp)
   unfold told1
   rw[if_pos ht]
theorem b8q{sps:List Sp}{refs:List Nat}{ns:List Str}(hs:∀ s∈sps,s∈CU)(hls:sps.length<=100)(hn:∀ x∈ns,x∈namesL)(hln:ns.length<=100)(hrs:All2 (fun s i=>RsAt σ (Sp.txt s) i) sps refs)(hc:σ[c]? = some (.list (refs.map .ref)))(hr:σ[r]? = some (.list (nmV ns)))
  (h:∀ e σ',σ'[e]? = some (.list (FH sps ns))->ExtN σ σ'->Q (.ref e) σ'):(U true (n+3)).C 34 [.ref c,.ref r] σ Q X:=by
 refine AV (mb:=b_refspec_map) (Λ:=[(52,.ref c),(53,.ref r)]) rfl rfl rfl rfl ?_
 have l1:=(List.getElem?_eq_some_iff.mp hc).1
 have l2:=(List.getElem?_eq_some_iff.mp hr).1
 have e1:Ext σ (σ++[AO.list []]):=.app
 refine AS (CG (BC (GL (j:=r) (vs:=nmV ns) (AA rfl) (e1 _ _ hr) (a5e (c:=c) (e:=σ.length) hs hls (by lia) (by lia) hn (All2.imp (fun _ _ q=>RsAt.ext q e1.toN) hrs) (e1 _ _ hc) (e1 _ _ hr) app_new rfl rfl (by simp;lia) fun Λ' σ' y1 y2 y3=>?_))))
 refine BA (AC (AA y1) (h _ _ y2 fun k a hd ha=>y3 k a ?_ hd (e1 _ _ ha)))
 have:=(List.getElem?_eq_some_iff.mp ha).1
 lia
end
noncomputable abbrev told1B:List MS:=[.asg 73 (.meth (.var 56) (.own 57) [(.var 12)]),.ifS (.cmp .isnot (.var 73) .none) [.setI (.var 80) (.var 73) (.or (.meth (.var 80) .get [(.var 73),(.bool false)]) (.idx (.var 6) (.int 3)))] []]
noncomputable abbrev told2B:List MS:=[.ifS (.cmp .eq (.comp (.var 6) 6 (.var 77) [(.and (.idx (.var 6) (.int 4)) (.cmp .isnot (.call 49 [(.idx (.var 6) (.int 1)),(.var 12)]) .none))] [12]) (.lst [])) [.asg 80 (.dct [] []),.forZ 56 6 (.var 52) (.var 77) told1B,.asg 1 (.bin .add (.var 1) (.compD (.tup [(.var 12),(.var 73),(.idx (.var 80) (.var 73))]) 73 (.var 80) [12,80]))] []]
section
variable {b:Bool}{n i j k f c d a m e r q w:Nat}{T:Tb}{Λ Λ':Loc}{σ σ₀ τ ρ:St}{Q:PV->St->Prop}{X:St->Prop}{R:Fl->Loc->St->Prop}{o:List UInt8}{row:Int}{x:Str}{s:Sp}{bm:BM}
theorem RT{rs ws:List PV}{G:Fl->Loc->St->Prop}(hx:x∈namesL):∀ {sps:List Sp} {vs:List PV} {refs:List Nat} {bm:BM} {Λ:Loc} {σ:St},All2 SpV sps vs->All2 (fun s i=>RsAt σ (Sp.txt s) i) sps refs->(∀ s∈sps,s∈CU)->σ[c]? = some (.list rs)->σ[w]? = some (.list ws)->σ[m]? = some (.dict (kvs bm))->bm.length+sps.length<=1000->get 12 Λ=some (.str x true)->get 80 Λ=some (.ref m) →
  (∀ Λ' σ',Only [56,6,73] Λ Λ'->σ'[m]? = some (.dict (kvs (sps.foldl (CY x) bm)))->ExtN σ σ'->G .next Λ' σ') →
  EH (zOk (U true (n+2)) c w rs ws) (UQ (U true (n+2)) 56 6 told1B) ((refs.map .ref).zip vs) Λ σ G
 | [],[],[],bm,Λ,σ,_,_,_,hc,hw,hm,_,g12,g80,h=>⟨⟨(FK true _).mpr rfl,AG hc,AG hw⟩,h Λ σ .refl hm fun _ _ _ q=>q⟩
 | s::sps,v::vs,q::refs,bm,Λ,σ,hv,hr,hs,hc,hw,hm,hl,g12,g80,h=>by
  refine AR ?_<|hv.1;rintro t rfl
  have hr1:RsAt σ s.txt q:=hr.1
  have hs1:=hs s (.head _)
  refine oA5 ?_<|IG hs1 hx;intro h1 h2 h3 h4 h5
  simp only[List.length_cons]at hl
  refine b0l ⟨(FK true _).mpr rfl,AG hc,AG hw⟩ ?_
  show AN (U true (n+2)) told1B (put 6 (spT s t) (put 56 (.ref q) Λ)) σ _ _
  refine AS (AC (DZ (o:=.ref q) (AA (by rw[get_put,get_put];rfl)) (hr1.mok rfl rfl) (AB (v:=.str x true) (AA (by rw[get_put,get_put];exact g12)) AE) (PR hr1 h2)) ?_)
  rw[h3]
  have k12:get 12 (put 73 (oV false (DA s x)) (put 6 (spT s t) (put 56 (.ref q) Λ)))=some (.str x true):=by rw[get_put,get_put,get_put];exact g12
  have k80:get 80 (put 73 (oV false (DA s x)) (put 6 (spT s t) (put 56 (.ref q) Λ)))=some (.ref m):=by rw[get_put,get_put,get_put];exact g80
  have k6:get 6 (put 73 (oV false (DA s x)) (put 6 (spT s t) (put 56 (.ref q) Λ)))=some (spT s t):=by rw[get_put,get_put];rfl
  have k73:get 73 (put 73 (oV false (DA s x)) (put 6 (spT s t) (put 56 (.ref q) Λ)))=some (oV false (DA s x)):=AU
  have ks:Only [56,6,73] Λ (put 73 (oV false (DA s x)) (put 6 (spT s t) (put 56 (.ref q) Λ))):=((Only.put (k:=56) rfl).trans (.put rfl)).trans (.put rfl)
  revert k12 k80 k6 k73 ks
  generalize put 73 (oV false (DA s x)) (put 6 (spT s t) (put 56 (.ref q) Λ))=Λ₁
  intro k12 k80 k6 k73 ks
  have next:∀ {σ₂:St},σ₂[m]? = some (.dict (kvs (CY x bm s)))->ExtN σ σ₂->EH (zOk (U true (n+2)) c w rs ws) (UQ (U true (n+2)) 56 6 told1B) ((refs.map .ref).zip vs) Λ₁ σ₂ G:=fun{σ₂} zm ze=>by
   have hlen:=NM x bm s
   exact RT hx hv.2 (All2.imp (fun _ _ q=>RsAt.ext q ze) hr.2) (fun w hw=>hs w (.tail _ hw)) (ze.list hc) (ze.list hw) zm (by lia) k12 k80 fun Λ' σ' y1 y2 y3=>h Λ' σ' (ks.trans y1) y2 (ze.trans y3)
  have e1:=AF (T:=U true (n+2)) (σ:=σ) (AA k73) BI GD
  unfold CY at next
  revert k73 e1 next
  generalize DA s x=y
  intro k73 next e1
  induction y using Option.casesOn with
  | none=>exact BL e1 (AX (next hm fun _ _ _ q=>q))
  | some y =>
   refine BV e1 (WK (AC (CC (CO (AA k80) (ZN hm) (AB (AA k73) (AB CS AE)) (a5b hm)) fun _=>BH (v:=.bool s.fo) (AA k6) AH rfl) (AC (AA k80) (AC (AA k73) (AI (ZZ hm (by exact ar14)) (BD (AX ?_)))))))
   exact next (AW hm) (YA hm)
 | [],[],_::_,_,_,_,_,h,_,_,_,_,_,_,_,_=>h.elim
 | [],_::_,_,_,_,_,h,_,_,_,_,_,_,_,_,_=>h.elim
 | _::_,[],_,_,_,_,h,_,_,_,_,_,_,_,_,_=>h.elim
 | _::_,_::_,[],_,_,_,_,h,_,_,_,_,_,_,_,_=>h.elim
theorem YC{Λ:Loc}(g12:get 12 Λ=some (.str x true)):∀ {sps:List Sp} {vs:List PV},All2 SpV sps vs->∃ us,Gath (EL (U b (n+1)) (.var 6) [(.and (.idx (.var 6) (.int 4)) (.cmp .isnot (.call 49 [(.idx (.var 6) (.int 1)),(.var 12)]) .none))] 6 Λ σ) vs us/\us.isEmpty = !sps.any (GG x)
 | [],[],_=>⟨[],.nil,rfl⟩
 | s::sps,v::vs,h=>by
  refine AD ?_<|YC g12 h.2;intro us g1 g2
  refine AR ?_<|h.1;rintro t rfl
  have g6:get 6 (put 6 (spT s t) Λ)=some (spT s t):=AU
  have k12:get 12 (put 6 (spT s t) Λ)=some (.str x true):=AL rfl g12
  have ev:Ev (U b (n+1)) (.and (.idx (.var 6) (.int 4)) (.cmp .isnot (.call 49 [(.idx (.var 6) (.int 1)),(.var 12)]) .none)) (put 6 (spT s t) Λ) σ (.bool (GG x s)) :=
   EJ (BH (AA g6) AH rfl) fun _=>AF (DL (AB (BH (v:=sdV s.src) (AA g6) AH rfl) (AB (AA k12) AE)) b0i) BI GD
  cases hn:GG x s with
  | true=>rw[hn]at ev;exact⟨_::us,.one ⟨ev,AA g6⟩ g1,by rw[List.any_cons,hn];rfl⟩
  | false=>rw[hn]at ev;exact⟨us,.no ev g1,by rw[List.any_cons,hn,g2];rfl⟩
 | [],_::_,h=>h.elim
 | _::_,[],h=>h.elim
theorem b5z{us:List PV}(hi:σ[i]? = some (.list us))(hj:σ[j]? = some (.list [])):cmp σ .eq (.ref i) (.ref j)=some us.isEmpty:=by
 induction us using List.casesOn<;>simp only[NY,cm_ne,eq_ref,AG hi,AG hj]<;>rfl
theorem a2d{sps:List Sp}{refs:List Nat}{vs:List PV}{ns₀:List Str}{G:Fl->Loc->St->Prop}(hs:∀ s∈sps,s∈CU)(hls:sps.length<=100)(hv:All2 SpV sps vs):∀ {ns:List Str} {us:List PV} {l:Nat} {Λ:Loc} {σ:St},(∀ x∈ns,x∈namesL)->All2 (fun s i=>RsAt σ (Sp.txt s) i) sps refs->σ[c]? = some (.list (refs.map .ref))->σ[w]? = some (.list vs)->σ[r]? = some (.list (nmV ns₀))->σ[l]? = some (.list us)->get 52 Λ=some (.ref c)->get 77 Λ=some (.ref w)->get 1 Λ=some (.ref l)->us.length+100*ns.length<=100000 →
  (∀ Λ' σ' l,Only [12,80,56,6,73,1] Λ Λ'->get 1 Λ'=some (.ref l)->σ'[l]? = some (.list (us++FH sps ns))->ExtN σ σ'->G .next Λ' σ') →
  turns (DB r (nmV ns₀)) (BN (U true (n+2)) 12 told2B X) (nmV ns) Λ σ G:=by
 intro ns
 induction ns with
 | nil =>
  intro us l Λ σ _ _ _ _ hr hl' _ _ g1 _ h
  exact⟨AG hr,h Λ σ l .refl g1 (by rw[show FH sps []=[] from rfl,List.append_nil];exact hl') fun _ _ _ q=>q⟩
 | cons x ns ih =>
  intro us l Λ σ hn hrs hc hw hr hl' g52 g77 g1 hl h
  simp only[List.length_cons]at hl
  have hx:=hn x (.head _)
  refine turn (AG hr) ?_
  show AN (U true (n+2)) told2B (put 12 (.str x true) Λ) σ _ _
  have k12:get 12 (put 12 (.str x true) Λ)=some (.str x true):=AU
  have k52:get 52 (put 12 (.str x true) Λ)=some (.ref c):=AL rfl g52
  have k77:get 77 (put 12 (.str x true) Λ)=some (.ref w):=AL rfl g77
  have k1:get 1 (put 12 (.str x true) Λ)=some (.ref l):=AL rfl g1
  have ks:Only [12,80,56,6,73,1] Λ (put 12 (.str x true) Λ):=.put rfl
  revert k12 k52 k77 k1 ks
  generalize put 12 (.str x true) Λ=Λ₁
  intro k12 k52 k77 k1 ks
  refine AD ?_ (YC (b:=true) (n:=n+1) (σ:=σ) (Λ:=BE [12] Λ₁) (x:=x) (by rw[HU _ _ _ rfl];exact k12) hv);intro ng n1 n2
  have hvl:=hv.len
  refine oA2 ?_ (LD (x:=x) hx (bm:=[]) hs fun p hp=>by cases hp);intro f1 f2
  simp only[List.length_nil,Nat.zero_add]at f2
  have next:∀ {Λ₂:Loc} {σ₂:St} {z:List PV} {l₂:Nat},ExtN σ σ₂->Only [12,80,56,6,73,1] Λ₁ Λ₂->get 1 Λ₂=some (.ref l₂)->σ₂[l₂]? = some (.list (us++z))->z=told1 sps x->z.length<=100->turns (DB r (nmV ns₀)) (BN (U true (n+2)) 12 told2B X) (nmV ns) Λ₂ σ₂ G:=fun{Λ₂ σ₂ z l₂} x2 o2 y1 y2 y3 y4=>by
   refine ih (fun y hy=>hn y (.tail _ hy)) (All2.imp (fun _ _ q=>RsAt.ext q x2) hrs) (x2.list hc) (x2.list hw) (x2.list hr) y2 (o2.get k52 rfl) (o2.get k77 rfl) y1 (by rw[List.length_append];lia) fun Λ' σ' l w1 w2 w3 w4=>h Λ' σ' l ((ks.trans o2).trans w1) w2 ?_ (x2.trans w4)
   rw[w3,y3,List.append_assoc];rfl
  refine MV (FS (KU (AA k77) hw n1 (by lia) (CG (BC (AI (a := !sps.any (GG x)) ?_ (CN (fun ht=>?_) fun ht=>BD ?_))))))
  ·rw[← n2];exact b5z (AP app_new) app_new
  ·have ht:sps.any (GG x)=false:=by simpa using ht
   have hent:HH x (sps.foldl (CY x) [])=told1 sps x:=by unfold told1;rw[ht,if_neg (by decide)]
   have hll:(HH x (sps.foldl (CY x) [])).length<=100:=by unfold HH;rw[List.length_map];exact ar12
   have e2:Ext σ (σ++[AO.list ng]++[AO.list []]):=Ext.app.trans .app
   revert e2
   generalize σ++[AO.list ng]++[AO.list []]=σ₂
   intro e2
   refine AS (a1f (BC ?_))
   have hm:(σ₂++[AO.dict (kvs [])])[σ₂.length]? = some (.dict (kvs [])):=app_new
   have e3:Ext σ (σ₂++[AO.dict (kvs [])]):=e2.trans .app
   show AN _ _ (put 80 (.ref σ₂.length) Λ₁) (σ₂++[AO.dict (kvs [])]) _ _
   have q12:get 12 (put 80 (.ref σ₂.length) Λ₁)=some (.str x true):=AL rfl k12
   have q52:get 52 (put 80 (.ref σ₂.length) Λ₁)=some (.ref c):=AL rfl k52
   have q77:get 77 (put 80 (.ref σ₂.length) Λ₁)=some (.ref w):=AL rfl k77
   have q1:get 1 (put 80 (.ref σ₂.length) Λ₁)=some (.ref l):=AL rfl k1
   have q80:get 80 (put 80 (.ref σ₂.length) Λ₁)=some (.ref σ₂.length):=AU
   have qs:Only [12,80,56,6,73,1] Λ₁ (put 80 (.ref σ₂.length) Λ₁):=.put rfl
   revert q12 q52 q77 q1 q80 qs
   generalize put 80 (.ref σ₂.length) Λ₁=Λ₂
   intro q12 q52 q77 q1 q80 qs
   refine a4z (i:=c) (j:=w) (AA q52) (AA q77) (e3 _ _ hc) (e3 _ _ hw) (by rw[List.length_map,← hrs.len,hvl]) (RT hx hv (All2.imp (fun _ _ q=>RsAt.ext q e3.toN) hrs) hs (e3 _ _ hc) (e3 _ _ hw) hm (by simp;exact ar1) q12 q80 fun Λ₃ σ₃ z1 z2 z3=>?_)
   have e4:ExtN σ σ₃:=e3.toN.trans z3
   have z1':Only [12,80,56,6,73,1] Λ₂ Λ₃:=fun j hj=>z1 j (by
    simp only[List.contains_cons,Bool.or_eq_false_iff,List.contains_nil]at hj ⊢
    exact⟨hj.2.2.1,hj.2.2.2.1,hj.2.2.2.2.1,trivial⟩)
   refine AS (FQ (AC (AA (z1.get q1 rfl)) (a5c (by decide) (by decide) z2 f1 (by lia) (z1.get q12 rfl) (z1.get q80 rfl) (AI (LZ (AP (e4.list hl')) app_new (by lia)) ?_))))
   refine AX (next (z:=HH x (sps.foldl (CY x) [])) ((e4.trans Ext.app.toN).trans Ext.app.toN) ((qs.trans z1').trans (.put (k:=1) rfl)) AU app_new hent hll)
  ·have ht:sps.any (GG x)=true:=by simpa using ht
   refine next (z:=[]) (Ext.app.trans .app:Ext σ (σ++[AO.list ng]++[AO.list []])).toN .refl k1 (by rw[List.append_nil];exact AP (AP hl')) ?_ (by simp)
   unfold told1
   rw[if_pos ht]
end
noncomputable def TdV(v:PV):Prop:=∃ x y t,v = .tup [.str x true,.str y false,.bool t]/\Low x=true/\Low y=true
theorem b6a{sps:List Sp}{ns:List Str}(hs:∀ s∈sps,s∈CU)(hn:∀ x∈ns,x∈namesL):∀ v∈FH sps ns,TdV v:=fun v hv=>by
 unfold FH at hv
 refine AD ?_<|List.mem_flatMap.mp hv;intro x hx hv
 unfold told1 at hv
 split at hv
 ·cases hv
 ·unfold HH at hv
  refine AD ?_<|List.mem_map.mp hv;rintro p hp rfl
  refine oA2 ?_ (LD (x:=x) (hn x hx) (bm:=[]) hs fun p hp=>by cases hp);intro f1 _
  exact⟨_,_,_,rfl,a4x x (hn x hx),(f1 p hp).1⟩
theorem a0a{sps:List Sp}(hs:∀ s∈sps,s∈CU):∀ {ns:List Str},(∀ x∈ns,x∈namesL)->(FH sps ns).length<=sps.length*ns.length
 | [],_=>Nat.le_refl _
 | x::ns,hn=>by
  have ih:=a0a hs (ns:=ns) fun y hy=>hn y (.tail _ hy)
  have h1:(told1 sps x).length<=sps.length:=by
   unfold told1
   split
   ·exact Nat.zero_le _
   ·refine oA2 ?_ (LD (x:=x) (hn x (.head _)) (bm:=[]) hs fun p hp=>by cases hp);intro _ f2
    unfold HH
    rw[List.length_map]
    simpa using f2
  have:(FH sps (x::ns)).length=(told1 sps x).length+(FH sps ns).length:=by
   unfold FH
   rw[List.flatMap_cons,List.length_append]
  rw[this,List.length_cons,Nat.mul_succ]
  lia
theorem YD:∀ {us:List PV},(∀ v∈us,TdV v)->∃ l,datas us=some l/\l.all Flat2=true
 | [],_=>⟨[],rfl,rfl⟩
 | v::us,h=>by
  refine AD ?_<|YD fun z hz=>h z (.tail _ hz);intro l h1 h2
  obtain⟨x,y,t,rfl,hx,hy⟩:=h v (.head _)
  refine⟨.tuple [.str x,.str y,.bool t]::l,?_,?_⟩
  ·exact LE rfl h1
  ·rw[List.all_cons,h2,Bool.and_true]
   show(PyData.strOk _&&(PyData.strOk _&&(true&&true)))=true
   rw[GW hx,GW hy];rfl
section
variable {b:Bool}{n i j k f c d a m e r q w:Nat}{T:Tb}{Λ Λ':Loc}{σ σ₀ τ ρ:St}{Q:PV->St->Prop}{X:St->Prop}{R:Fl->Loc->St->Prop}{o:List UInt8}{row:Int}{x:Str}{s:Sp}{bm:BM}
theorem YE:∀ {us:List PV},(∀ v∈us,TdV v)->Gath (EL T (.bi .tuple [(.var 6)]) [] 6 Λ σ) us us
 | [],_=>.nil
 | v::us,h=>by
  obtain⟨x,y,t,rfl,_,_⟩:=h v (.head _)
  exact .one ⟨trivial,BR (AB (AA AU) AE) rfl⟩ (YE fun z hz=>h z (.tail _ hz))
theorem s52(D:DeckAt σ d a)(ha:a<=2)(h:∀ σ',Q (.bool true) σ'):(U true (n+5)).C 52 [.ref d] σ Q X:=by
 refine AV (mb:=b_law_specs_right) (Λ:=[(61,.ref d)]) rfl rfl rfl rfl ?_
 refine KQ (BS (b2z (FQ (AC AH (GK (n:=n+3) (below:=3) D (by exact ar1) (by decide) rfl rfl fun v σ₁ hv e₁ D₁=>AI (a:=(.int ((1+v:Nat):Int),σ₁)) ?_ (AI (KJ (m:=1+v) (by lia)) ?_))))))
 ·show some (PV.int (1+(v:Int)),σ₁)=_
  rw[Int.natCast_add];rfl
 have hll:((List.range' 0 (1+v)).map fun(k:Nat)=>PV.int (k:Int)).length<=3:=by
  rw[List.length_map,List.length_range'];lia
 refine NK (n:=n+2) (Λ:=[(61,.ref d)]) (fun x=>rfl) (sps:=[]) (vs:=[]) trivial (fun _ h=>by cases h) D₁ (by lia) (by simp;lia) fun sps vs σ₂ a₂ hv₂ hs hls e₂ D₂ ha₂=>?_
 simp only[List.length_nil,Nat.zero_add]at hls
 have hls:sps.length<=3:=by exact ar12
 refine BS (CG (BC (BC ?_)))
 have e3:Ext σ₂ (σ₂++[AO.list vs]++[AO.list []]):=Ext.app.trans .app
 have hw3:(σ₂++[AO.list vs]++[AO.list []])[σ₂.length]? = some (.list vs):=AP app_new
 have hr3:(σ₂++[AO.list vs]++[AO.list []])[(σ₂++[AO.list vs]).length]? = some (.list (nmV [])):=app_new
 have D₃:=D₂.ext e3
 have hdr:d<(σ₂++[AO.list vs]).length:=by have:=D₂.lt;simp;exact ar5
 have hdw:σ₂.length≠d:=by have:=D₂.lt;lia
 show AN _ _ [(61,.ref d),(53,.ref (σ₂++[AO.list vs]).length),(77,.ref σ₂.length)] _ _ _
 have g61:get 61 [(61,.ref d),(53,.ref (σ₂++[AO.list vs]).length),(77,.ref σ₂.length)]=some (.ref d):=rfl
 have g53:get 53 [(61,.ref d),(53,.ref (σ₂++[AO.list vs]).length),(77,.ref σ₂.length)]=some (.ref (σ₂++[AO.list vs]).length):=rfl
 have g77:get 77 [(61,.ref d),(53,.ref (σ₂++[AO.list vs]).length),(77,.ref σ₂.length)]=some (.ref σ₂.length):=rfl
 revert g61 g53 g77
 generalize ([(61,.ref d),(53,.ref (σ₂++[AO.list vs]).length),(77,.ref σ₂.length)]:Loc)=Λ₁
 revert hw3 hr3 D₃ hdr hdw
 generalize (σ₂++[AO.list vs]).length=r
 generalize σ₂.length=w
 clear e3
 generalize σ₂++[AO.list vs]++[AO.list []]=σ₃
 intro hw3 hr3 D₃ hdr hdw g61 g53 g77
 -- the names
 refine ZY (AC AH (AI (KJ (m:=3) (by decide)) ?_))
 refine a2b (n:=n+2) hdr hr3 (fun _ h=>by cases h) D₃ (by simp;lia) (by simp) g61 g53 fun ns r' Λ₂ σ₄ hdr' hr4 hn hln e4 o4 g53'=>?_
 have hw4:σ₄[w]? = some (.list vs):=e4 _ _ hdw hw3
 have g77':get 77 Λ₂=some (.ref w):=o4.get g77 rfl
 clear g61 g53 g77 o4
 -- the specs
 refine KQ (BS (OC (AC (AA g77') (AI (a:=(vs,fun τ=>AK τ w=some vs)) ?_ ?_))))
 ·simp only[items,AG hw4]
 refine OS (b:=true) (n:=n+1) (c:=w) (vs₀:=vs) (Λ:=BE [] Λ₂) (sps:=sps) (don:=[]) (refs:=[]) hv₂ hs trivial hw4 (by simp;exact ar1) fun refs σ₅ hrs e5=>?_
 refine BS (CG (BC (BC ?_)))
 have hrs:All2 (fun s i=>RsAt σ₅ (Sp.txt s) i) sps refs:=hrs
 have e6:Ext σ₅ (σ₅++[AO.list (refs.map .ref)]++[AO.list []]):=Ext.app.trans .app
 have hc6:(σ₅++[AO.list (refs.map .ref)]++[AO.list []])[σ₅.length]? = some (.list (refs.map .ref)):=AP app_new
 have ht6:(σ₅++[AO.list (refs.map .ref)]++[AO.list []])[(σ₅++[AO.list (refs.map .ref)]).length]? = some (.list []):=app_new
 show AN _ _ (put 52 (.ref σ₅.length) (put 1 (.ref (σ₅++[AO.list (refs.map .ref)]).length) Λ₂)) _ _ _
 have k52:get 52 (put 52 (.ref σ₅.length) (put 1 (.ref (σ₅++[AO.list (refs.map .ref)]).length) Λ₂))=some (.ref σ₅.length):=AU
 have k1:get 1 (put 52 (.ref σ₅.length) (put 1 (.ref (σ₅++[AO.list (refs.map .ref)]).length) Λ₂))=some (.ref (σ₅++[AO.list (refs.map .ref)]).length):=by rw[get_put,get_put];rfl
 have k53:get 53 (put 52 (.ref σ₅.length) (put 1 (.ref (σ₅++[AO.list (refs.map .ref)]).length) Λ₂))=some (.ref r'):=by rw[get_put,get_put];exact g53'
 have k77:get 77 (put 52 (.ref σ₅.length) (put 1 (.ref (σ₅++[AO.list (refs.map .ref)]).length) Λ₂))=some (.ref w):=by rw[get_put,get_put];exact g77'
 revert k52 k1 k53 k77
 generalize put 52 (.ref σ₅.length) (put 1 (.ref (σ₅++[AO.list (refs.map .ref)]).length) Λ₂)=Λ₃
 revert e6 hc6 ht6
 generalize (σ₅++[AO.list (refs.map .ref)]).length=l
 generalize σ₅.length=c
 generalize σ₅++[AO.list (refs.map .ref)]++[AO.list []]=σ₆
 intro e6 hc6 ht6 k52 k1 k53 k77
 have hr6:=e6 _ _ (e5 _ _ hr4)
 have hw6:=e6 _ _ (e5 _ _ hw4)
 have hrs6:All2 (fun s i=>RsAt σ₆ (Sp.txt s) i) sps refs:=All2.imp (fun _ _ q=>RsAt.ext q e6.toN) hrs
 have hvl:=hv₂.len
 have hrl:=hrs.len
 refine a4z (i:=c) (j:=w) (AA k52) (AA k77) hc6 hw6 (by rw[List.length_map,← hrl,hvl]) (RS (b:=true) (n:=n+2) (r:=r') (ns:=ns) ⟨(FK true _).mpr rfl,AG hc6,AG hw6⟩ hr6 hn hv₂ hrs6 hs k53 fun Λ₄ o7=>?_)
 refine GL (j:=r') (vs:=nmV ns) (AA (o7.get k53 rfl)) hr6 (a2d (n:=n+2) (c:=c) (w:=w) (refs:=refs) hs (by exact ar1) hv₂ (us:=[]) hn hrs6 hc6 hw6 hr6 ht6 (o7.get k52 rfl) (o7.get k77 rfl) (o7.get k1 rfl) (by simp;lia) fun Λ₅ σ₈ l' o8 k1' h8 e8=>?_)
 have k53':get 53 Λ₅=some (.ref r'):=o8.get (o7.get k53 rfl) rfl
 have k52':get 52 Λ₅=some (.ref c):=o8.get (o7.get k52 rfl) rfl
 have hrs8:All2 (fun s i=>RsAt σ₈ (Sp.txt s) i) sps refs:=All2.imp (fun _ _ q=>RsAt.ext q e8) hrs6
 rw[List.nil_append]at h8
 have htd:=b6a hs hn
 have htl:=a0a hs hn
 have htl':(FH sps ns).length<=3*100:=Nat.le_trans htl (Nat.mul_le_mul hls hln)
 refine BA (FS (OC (CP (BB (AB (AA k52') (AB (AA k53') AE)) (b8q (n:=n+1) hs (by exact ar1) hn hln hrs8 (e8.list hc6) (e8.list hr6) fun e σ₉ h9 e9=>AI (a:=(FH sps ns,fun τ=>AK τ e=some (FH sps ns))) ?_ ?_)))))
 ·simp only[items,AG h9]
 refine GT (AG h9) (fun x u hp K hK=>GU hp hK) (acc:=[]) (YE htd) (AY (by show([]++FH sps ns).length<=_;rw[List.nil_append];exact ar1)) ?_
 rw[List.nil_append]
 refine AD ?_<|YD htd;intro dl d1 d2
 refine AC (AA k1') (AI (a:=true) (NF app_new (AP (e9.list h8)) d1 d1 d2 rfl) (h _))
end
end Mine
end
section
open PySem PySem.W PyProof.Rows
set_option maxRecDepth 100000
set_option maxHeartbeats 0
namespace Mine
set_option tactic.hygienic false
noncomputable abbrev pw:Program:=PySem.Challenge.pw_nt0297_01
noncomputable def sv(x:String)(t:Nat):Value:=.str (Str.ofString x) t
noncomputable def dO(P:Params)(n:Nat)(l:List (String×Nat×Value)):Obj:=⟨.type "dict",none,.dict (l.map fun p=>⟨PyData.keyHash P (Str.ofString p.1),.str (Str.ofString p.1) p.2.1,p.2.2⟩).toArray n,#[]⟩
noncomputable def clO(x:String)(a:Nat)(bs:List Value)(r:List Value)(sub:List Value)(b0:Option Value)(t u:Nat)(nw:String):Obj:=⟨.type "type",none,.cls {name:=Str.ofString x,bases:=bs,mro:=.ref a::r,ns:=a-1,qualname:=Str.ofString x,subclasses:=sub },#[b0,none,some (sv x t),some (sv x u),some (.builtin nw),some (.bool true)]⟩
noncomputable def stM(i j:Nat):Option (Stmt×Option Str):=match pw.main.body[i]? with | some (.ClassDef c _ _ b _ _ _ _ _ _ _)=>(b[j]?).map fun s=>(s,some c) | some s=>some (s,none) | none=>none
noncomputable def mdV(i:Nat):Value:=if i<6 then sv "gitcore.base" 194 else if i<19 then sv "gitcore.configtext" 264 else if i<25 then sv "gitcore.configs" 557 else sv "law_nt0297_01" 856
noncomputable def fcO(r:Nat×Nat×Nat×Nat×Nat×Nat×Nat):Frag:=match r with
 | (a,i,j,t,u,d,k)=>match stM i j with
  | some (.FunctionDef n ar b _ _ _ sc _ _ p,c) =>
   let q:=match c with | some c=>c++Str.ofString "."++n | none=>n
   let l:Value:=.int (p.line:Int) 0
   let c:=a-1
   let v:List Value:=if k=1 then[.ref (c-3),.bool true,.int 181 0,.ref (c-2),.none,.none,.none]else[.ref (c-5),.bool true,.int 181 0,.ref (c-4),.none,.ref (c-3),.ref (c-2)]
   [(c,⟨.type "code",none,.fields (.str n t::.str q (t+1)::sv "/claim/cut.py" (t+2)::l::.int (ar.args.length:Int) 0::.int 0 0::.int 0 0::.int 3 0::(v++[.ref (c-1),.int (u:Int) 0,l,sv "/claim/cut.py" (u+1)])).toArray,#[]⟩),
    (a,⟨.type "function",none,.func {name:=n,qualname:=q,params:=ar,body:=.stmts b,scope:=sc,globals:=3,closure:=[],defaults:=if d=0 then .none else .ref d,kwdefaults:=.none,pyModule:=mdV i,code:=.ref c },#[]⟩)]
  | _=>[]
noncomputable def fcT:List (Nat×Nat×Nat×Nat×Nat×Nat×Nat):=[(36,2,0,209,214,29,0),(71,5,0,258,261,0,1),(80,9,0,287,291,0,0),(87,10,0,294,298,0,0),(101,12,0,309,316,0,0),(115,14,0,327,334,0,0),(144,17,0,374,384,137,0),(151,17,1,387,391,0,0),(165,17,3,401,405,0,0),(186,18,0,434,439,0,0),(193,18,1,442,446,0,0),(200,18,2,449,454,0,0),(207,18,3,457,462,0,0),(214,18,4,465,469,0,0),(221,18,5,472,477,0,0),(228,18,6,480,490,0,0),(235,18,7,493,499,0,0),(242,18,8,502,507,0,0),(249,18,9,510,515,0,0),(256,18,10,518,522,0,0),(263,18,11,525,533,0,0),(270,18,12,536,542,0,0),(292,20,0,572,577,285,0),(297,20,1,580,583,0,1),(302,20,2,586,589,0,1),(337,20,7,630,636,0,0),(408,20,17,715,725,0,0),(415,20,18,728,738,0,0),(452,21,0,781,788,0,0),(459,21,1,791,796,0,0),(466,21,2,799,805,0,0),(473,21,3,808,814,0,0),(487,22,0,831,836,0,0),(494,23,0,839,847,0,0),(499,24,0,850,853,0,1),(506,26,0,858,861,0,0),(513,27,0,864,867,0,0),(521,29,0,876,879,0,0),(528,30,0,882,885,0,0),(535,31,0,888,891,0,0),(542,32,0,894,897,0,0),(547,33,0,900,903,0,1),(554,34,0,906,913,0,0),(559,35,0,916,919,0,1),(564,36,0,922,925,0,1),(571,37,0,928,935,0,0),(578,38,0,938,944,0,0),(583,39,0,947,950,0,1),(588,40,0,953,956,0,1),(595,41,0,959,965,0,0),(602,42,0,968,972,0,0),(609,43,0,975,983,0,0),(614,44,0,986,989,0,1),(621,45,0,992,998,0,0)]
@[irreducible] noncomputable def HK(P:Params):Frag:=fcT.flatMap fcO++[
 (3,dO P 51 [("__name__",165,(sv "law_nt0297_01" 856)),("__doc__",166,.none),("__package__",167,.none),("__loader__",168,(.builtin "__main__.__loader__#opaque")),("__spec__",169,.none),("__annotations__",170,(.ref 6)),("__builtins__",171,(.ref 4)),("__file__",173,(sv "/claim/cut.py" 172)),("__cached__",174,.none),("_wall",193,(.ref 21)),("GitError",225,(.ref 39)),("BadObject",241,(.ref 52)),("BadConfig",257,(.ref 64)),("octets_of",263,(.ref 71)),("CONFIG_WHITE",270,(.ref 72)),("CONFIG_ESCAPES",286,(.ref 73)),("config_is_letter",293,(.ref 80)),("config_is_sign",300,(.ref 87)),("config_name",308,(.ref 94)),("config_section",318,(.ref 101)),("config_key",326,(.ref 108)),("config_header",336,(.ref 115)),("config_figures",347,(.ref 122)),("int_of",358,(.ref 129)),("ConfigPiece",421,(.ref 168)),("ConfigReader",556,(.ref 273)),("Config",768,(.ref 434)),("RefSpec",830,(.ref 476)),("refspec_side",838,(.ref 487)),("refspec_rest",849,(.ref 494)),("refspec_map",855,(.ref 499)),("_law_heads",863,(.ref 506)),("_law_rows",869,(.ref 513)),("_law_sections",875,(.ref 514)),("_law_news",881,(.ref 521)),("_law_parts",887,(.ref 528)),("_law_names",893,(.ref 535)),("_law_odd",899,(.ref 542)),("_law_deck",905,(.ref 547)),("_law_draw",915,(.ref 554)),("_law_octets",921,(.ref 559)),("_law_written",927,(.ref 564)),("_law_items",937,(.ref 571)),("_law_bracket",946,(.ref 578)),("_law_same",952,(.ref 583)),("_law_sections_right",958,(.ref 588)),("_law_cut",967,(.ref 595)),("_law_side",974,(.ref 602)),("_law_spec",985,(.ref 609)),("_law_specs_right",991,(.ref 614)),("law",1000,(.ref 621))]),
 (38,dO P 3 [("__module__",203,(sv "gitcore.base" 194)),("__firstlineno__",207,(.int 5 206)),("__init__",216,(.ref 36)),("__static_attributes__",218,(.ref 37)),("__weakref__",220,(.ref 40)),("__doc__",221,.none)]),
 (51,dO P 2 [("__module__",233,(sv "gitcore.base" 194)),("__firstlineno__",237,(.int 9 236)),("__static_attributes__",238,(.ref 50)),("__doc__",239,.none)]),
 (63,dO P 2 [("__module__",249,(sv "gitcore.base" 194)),("__firstlineno__",253,(.int 11 252)),("__static_attributes__",254,(.ref 62)),("__doc__",255,.none)]),
 (167,dO P 4 [("__module__",366,(sv "gitcore.configtext" 264)),("__firstlineno__",370,(.int 89 369)),("__init__",386,(.ref 144)),("is_open",393,(.ref 151)),("is_note",400,(.ref 158)),("indent",407,(.ref 165)),("__static_attributes__",414,(.ref 166)),("__dict__",416,(.ref 169)),("__weakref__",418,(.ref 170)),("__doc__",419,.none)]),
 (272,dO P 4 [("__module__",429,(sv "gitcore.configtext" 264)),("__firstlineno__",433,(.int 109 432)),("__init__",441,(.ref 186)),("is_over",448,(.ref 193)),("peek",456,(.ref 200)),("take",464,(.ref 207)),("skip_blanks",471,(.ref 214)),("keep",479,(.ref 221)),("read",492,(.ref 228)),("read_header",501,(.ref 235)),("read_subsection",509,(.ref 242)),("read_spelt",517,(.ref 249)),("read_value",524,(.ref 256)),("read_signs",535,(.ref 263)),("read_escape",544,(.ref 270)),("__static_attributes__",549,(.ref 271)),("__dict__",551,(.ref 274)),("__weakref__",553,(.ref 275)),("__doc__",554,.none)]),
 (433,dO P 4 [("__module__",566,(sv "gitcore.configs" 557)),("__firstlineno__",570,(.int 262 569)),("__init__",579,(.ref 292)),("octets",585,(.ref 297)),("items",591,(.ref 302)),("spots",604,(.ref 309)),("has",612,(.ref 316)),("get",621,(.ref 323)),("get_all",629,(.ref 330)),("sections",638,(.ref 337)),("row_of",646,(.ref 344)),("put",655,(.ref 351)),("put_over",664,(.ref 358)),("drop",672,(.ref 365)),("close_row",680,(.ref 372)),("end_of",688,(.ref 379)),("add",697,(.ref 386)),("unset",706,(.ref 394)),("drop_bare",714,(.ref 401)),("rename_section",727,(.ref 408)),("remove_section",740,(.ref 415)),("flag",749,(.ref 423)),("number",759,(.ref 431)),("__static_attributes__",761,(.ref 432)),("__dict__",763,(.ref 435)),("__weakref__",765,(.ref 436)),("__doc__",766,.none)]),
 (475,dO P 4 [("__module__",776,(sv "gitcore.configs" 557)),("__firstlineno__",780,(.int 357 779)),("__init__",790,(.ref 452)),("fits",798,(.ref 459)),("mapped",807,(.ref 466)),("back",816,(.ref 473)),("__static_attributes__",823,(.ref 474)),("__dict__",825,(.ref 477)),("__weakref__",827,(.ref 478)),("__doc__",828,.none)]),
 (73,dO P 5 [("n",271,(sv "\n" 272)),("t",273,(sv "\t" 274)),("b",275,(sv "\x08" 276)),("\"",277,(sv "\"" 278)),("\\",279,(sv "\\" 280))]),
 (29,⟨.type "tuple",none,.seq #[(sv "" 208)] 0,#[]⟩),
 (137,⟨.type "tuple",none,.seq #[(sv "" 371),(sv "" 372),.none,(sv "" 373)] 0,#[]⟩),
 (285,⟨.type "tuple",none,.seq #[.bytes #[] 571] 0,#[]⟩),
 (72,⟨.type "tuple",none,.seq #[.int 32 266,.int 9 267,.int 10 268,.int 13 269] 0,#[]⟩),
 (514,⟨.type "list",none,.seq #[(sv "core" 870),(sv "a.S q" 871),(sv "a.low" 872),(sv "a" 873),(sv "none" 874)] 0,#[]⟩),
 (39,clO "GitError" 39 [.type "Exception"] [.type "Exception",.type "BaseException",.type "object"] [.ref 52,.ref 64] (some (.ref 22)) 196 204 "Exception.__new__"),
 (52,clO "BadObject" 52 [.ref 39] [.ref 39,.type "Exception",.type "BaseException",.type "object"] [] (some (.ref 43)) 226 234 "Exception.__new__"),
 (64,clO "BadConfig" 64 [.ref 39] [.ref 39,.type "Exception",.type "BaseException",.type "object"] [] (some (.ref 55)) 242 250 "Exception.__new__"),
 (168,clO "ConfigPiece" 168 [.type "object"] [.type "object"] [] none 359 367 "object.__new__"),
 (273,clO "ConfigReader" 273 [.type "object"] [.type "object"] [] none 422 430 "object.__new__"),
 (434,clO "Config" 434 [.type "object"] [.type "object"] [] none 559 567 "object.__new__"),
 (476,clO "RefSpec" 476 [.type "object"] [.type "object"] [] none 769 777 "object.__new__")]
noncomputable def kaL:List Addr:=(fcT.flatMap fun r=>[r.1-1,r.1])++[3,38,51,63,167,272,433,475,73,29,137,285,72,514,39,52,64,168,273,434,476]
noncomputable def rT(st:SharedT->Thread->Option (SharedT×Thread))(ok:Thread->Bool)(n:Nat):SharedT->Thread->Option SharedT :=
 Nat.rec (motive:=fun _=>SharedT->Thread->Option SharedT) (fun _ _=>none) (fun _ ih s t=>match through t with | true=>some s | false=>match ok t with | false=>none | true=>match st s t with | some (s',t')=>ih s' t' | none=>none) n
theorem a0b{tb:String->Option Builtin}{p:Program}{w:World}{m:Nat}{ann:Option Value}:∀ {n:Nat} {s s':SharedT} {t:Thread},rT (stepT (denote tb) p w) (stepOk m ann) n s t=some s'->topRun tb p w m ann n s.abs t=some s'.abs
 | 0,_,_,_,h=>nomatch h
 | n+1,s,s',t,h=>by
  replace h:(match through t with | true=>some s | false=>match stepOk m ann t with | false=>none | true=>match stepT (denote tb) p w s t with | some (s',t')=>rT (stepT (denote tb) p w) (stepOk m ann) n s' t' | none=>none)=some s':=h
  unfold topRun
  cases h1:through t with
  | true=>rw[h1]at h;cases h;rfl
  | false =>
   rw[h1]at h
   cases h2:stepOk m ann t with
   | false=>rw[h2]at h;cases h
   | true =>
    rw[h2]at h
    cases h3:stepT (denote tb) p w s t with
    | none=>rw[h3]at h;cases h
    | some r=>rw[h3]at h;rw[stepT_spec h3];exact a0b h
noncomputable def mkT(l:List Obj):BT:=(l.zipIdx).foldl (fun t p=>t.ins p.2 p.1) .nil
noncomputable def t0(P:Params):BT:=mkT (boot_heap P).objs.toList
noncomputable def lf0(P:Params):Life:=(boot_heap P).life
theorem b3b{p q:Program}{loose:List Str}{Xt:Shared->Bool}{α:Type}{Yf:Shared->α}{Ya:World->α}{N m M:Nat}{ann:Option Value}{H:Params->Heap}{T:Params->BT}{lf:Params->Life}{d:Drawn}{k:Nat}
  (ho:∀ w:World,(fencedOpening treeTable p w N).map (fun s=>(s.heap,s.gens,s.drawn,s.toks))=some (H w.params,Array.mk [],d,k)) (ht:∀ P,H P=absHeap (T P) m (lf P))
  (hs:∀ w:World,((H w.params).isNs mainGlobals,(H w.params).objs.size,(H w.params).nsMap mainGlobals "__annotations__")=(true,m,ann)) (le:Nat.ble M N=true)
  (run:∀ (w:World) (os:OsState),(rT (stepT (denote treeTable) p w) (stepOk m ann) M ⟨T w.params,m,lf w.params,Array.mk [],d,k,os⟩ (topStub p)).map (fun s=>((staticsOk (importedModules p.main.body) (H w.params) s.abs.heap&&namesBound p s.abs.heap&&gensDone s.abs&&laidKept (H w.params) s.abs.heap),openSeen q loose (importedModules p.main.body) Xt true s.abs,Yf s.abs))=some (true,openGood q loose,Ya w)):LeftO p q loose Xt Yf Ya N true:=fun w=>by
 obtain⟨⟨h,gs,d',k',os⟩,e,e'⟩:=Option.map_eq_some_iff.mp (ho w)
 obtain⟨rfl,rfl,rfl,rfl⟩:h=H w.params/\gs=Array.mk []/\d'=d/\k'=k:=by simpa using e'
 obtain⟨z1,z2,z3⟩:_/\_/\_:=by simpa only[Prod.mk.injEq] using hs w
 obtain⟨s,hr,l⟩:=Option.map_eq_some_iff.mp (run w os)
 obtain⟨l1,l2,l3⟩:_/\_/\_:=by simpa only[Prod.mk.injEq] using l
 have r:=a0b hr
 have hb:(SharedT.abs ⟨T w.params,m,lf w.params,Array.mk [],d',k',os⟩)=⟨H w.params,Array.mk [],d',k',os⟩:=by rw[ht];rfl
 rw[hb]at r
 have r:=topRun_mono (N-M) _ _ _ _ r
 rw[show M+(N-M)=N by have:=Nat.le_of_ble_eq_true le;omega]at r
 have t:topFrom treeTable p w N ⟨H w.params,Array.mk [],d',k',os⟩=some s.abs:=by
  unfold topFrom
  dsimp only
  rw[z1,z2,z3,r]
  show(match staticsOk (importedModules p.main.body) (H w.params) s.abs.heap&&namesBound p s.abs.heap&&gensDone s.abs&&laidKept (H w.params) s.abs.heap with | true=>_ | false=>_)=_
  rw[l1]
 unfold openEnds
 rw[e]
 show(topFrom treeTable p w N _).map _=_
 rw[t]
 exact congrArg some (Prod.ext l2 l3)
noncomputable abbrev YF:Str:=Str.ofString "law"
noncomputable def vw:Program:={pw with main:={pw.main with body:=pw.main.body.drop 45 } }
noncomputable def lsN:List Str:=pw.boundNames.filter (· != YF)
noncomputable def hk0:Hook:=kHook HK kaL (fun _=>by kernel_rfl)
noncomputable def RU(w:World):Prop:=∀ os:OsState,(rT (stepT (denote treeTable) pw w) (stepOk 11 (some (.ref 6))) 4000 ⟨t0 w.params,11,lf0 w.params,Array.mk [],boot_drawn,boot_toks,os⟩ (topStub pw)).map (fun s=>((staticsOk (importedModules pw.main.body) (boot_heap w.params) s.abs.heap&&namesBound pw s.abs.heap&&gensDone s.abs&&laidKept (boot_heap w.params) s.abs.heap),openSeen vw lsN (importedModules pw.main.body) (fun s=>xlAt vw [] s&&recOk [] s) true s.abs,hk0.obs s.abs))=some (true,openGood vw lsN,hk0.val w)
theorem b8r(w:World):RU (w.withFollow "special-get-raises" false):=by
 unfold RU
 intro os
 rw[PySem.W.Fast.te10156331382660048174,PySem.W.Fast.te11892475500146522536,PySem.W.Fast.te14364793385576792824,PySem.W.Fast.te6613529449190102663,PySem.W.Fast.te4187177175401517315]
 kernel_rfl
theorem b8s(w:World):RU (w.withFollow "special-get-raises" true):=by
 unfold RU
 intro os
 rw[PySem.W.Fast.te10156331382660048174,PySem.W.Fast.te11892475500146522536,PySem.W.Fast.te14364793385576792824,PySem.W.Fast.te6613529449190102663,PySem.W.Fast.te4187177175401517315]
 kernel_rfl
theorem b3c(w:World):RU w:=byRow2 "special-get-raises" b8r b8s w
theorem open0:∀ w:World,(fencedOpening treeTable pw w 8000).map (fun s=>(s.heap,s.gens,s.drawn,s.toks))=some (boot_heap w.params,Array.mk [],boot_drawn,boot_toks):=boot_open (by kernel_rfl) (by kernel_rfl) fun s=>by kernel_rfl
theorem a9d(P:Params):boot_heap P=absHeap (t0 P) 11 (lf0 P):=by kernel_rfl
theorem a5f(w:World):((boot_heap w.params).isNs mainGlobals,(boot_heap w.params).objs.size,(boot_heap w.params).nsMap mainGlobals "__annotations__")=(true,11,some (.ref 6)):=by kernel_rfl
theorem left0:LeftO pw vw lsN (fun s=>xlAt vw [] s&&recOk [] s) hk0.obs hk0.val 8000 true :=
 b3b (H:=boot_heap) (T:=t0) (lf:=lf0) (M:=4000) (m:=11) (ann:=some (.ref 6)) open0 a9d a5f (by kernel_rfl) b3c
noncomputable abbrev rp:Program:=PySem.Challenge.rw_nt0297_01.row.prog
theorem a9e:namesResolve rp=true:=by
 kernel_rfl
theorem b3d:namesMeet rp rp.main.body (fun _ n=>attrL n)=true:=by
 kernel_rfl
theorem b6b:looksOpen rp=true:=by
 unfold looksOpen
 repeat' (with_reducible refine look_both ?_ ?_)
 ·kernel_rfl
 ·kernel_rfl
 ·exact a9e
 ·kernel_rfl
 ·rw[PySem.W.Fast.te8326940854005059898]
  kernel_rfl
 ·exact b3d
theorem a9f:PySem.Challenge.rw_nt0297_01.row.wellSaid=true:=by
 unfold OpenRow.wellSaid OpenRow.partSaid
 repeat' (with_reducible refine look_both ?_ ?_)
 ·exact b6b
 all_goals kernel_rfl
theorem said0:PySem.Challenge.rw_nt0297_01.wellSaid=true:=by
 unfold OpenLaw.wellSaid
 repeat' (with_reducible refine look_both ?_ ?_)
 ·exact a9f
 all_goals
  try rw[PySem.W.Fast.te8326940854005059898]
  try rw[PySem.W.Fast.te8179353310426384613]
  kernel_rfl
theorem b3e:(defOf vw YF).isSome=true:=by kernel_rfl
noncomputable def dk:DefRec×List (Str×Expr):=(defOf vw YF).get b3e
theorem b8t:defOf vw YF=some (dk.1,dk.2):=by kernel_rfl
theorem b6c:pw.theDef YF=some (dk.1.params,dk.1.body,dk.1.scope):=by kernel_rfl
theorem b8u:kwWritten? dk.1.params.kwonlyargs dk.1.params.kw_defaults=some dk.2:=by kernel_rfl
theorem b9q(h:WalkO vw lsN (XL vw []) hk0.says PySem.Challenge.rw_nt0297_01.row.toRowW dk.1 dk.2 fun f vs=>PySem.call f vs):PySem.Challenge.rw_nt0297_01.Holds:=by
 refine holds_law said0 fun said=>?_
 refine holds_open (q:=vw) (loose:=lsN) (Xt:=fun s=>xlAt vw [] s&&recOk [] s) (XP:=XL vw []) (Yf:=hk0.obs) (Ya:=hk0.val) (YP:=hk0.says) (N:=8000) left0 hk0.of hk0.keeps (fun s e=>xl_of s (Bool.and_eq_true_iff.mp e).1) XL.keeps b8t b6c b8u (fun s e=>recFacts_of (Bool.and_eq_true_iff.mp e).2) rfl said ?_ ⟨rfl,rfl,rfl,rfl,rfl,by decide +kernel⟩ ?_ h
 ·kernel_rfl
 ·w_witness2
end Mine
end
section
open PySem PySem.W PyProof.Rows PySem.Calls
set_option maxRecDepth 100000
set_option maxHeartbeats 0
namespace Mine
set_option tactic.hygienic false
noncomputable def faL:List Nat:=[36,71,80,87,101,115,144,151,165,186,193,200,207,214,221,228,235,242,249,256,263,270,292,297,302,337,408,415,452,459,466,473,487,494,499,506,513,521,528,535,542,547,554,559,564,571,578,583,588,595,602,609,614,621]
noncomputable def caL:List Nat:=[39,52,64,168,273,434,476]
noncomputable def fdA(K:Frag)(a:Nat):FuncData:=match K.lookup a with | some ⟨_,_,.func fd,_⟩=>fd | _=>{name:=⟨#[]⟩,qualname:=⟨#[]⟩,params:=default,body:=.stmts [],scope:=default,globals:=0,closure:=[],defaults:=.none,kwdefaults:=.none,code:=.none }
noncomputable def HI(fd:FuncData):List Stmt:=match fd.body with | .stmts b=>b | _=>[]
noncomputable def b0m(k:ScopeKind):Bool:=match k with | .function=>true | _=>false
noncomputable def a9g(K:Frag)(f:Nat)(fd:FuncData):Bool:=codeIn K fd.code fd.qualname&&(fd.closure.isEmpty&&(b0m fd.scope.kind&&(!fd.scope.isCoroutine&&(!fd.scope.isGenerator&&(fd.globals==mainGlobals&&(fd.builtins==builtinsNs&&(distinct (fd.scope.names.map (·.1))&&((parF f).all (fun k=>IP fd.scope.names (nm k))&&decide (parF f).Nodup))))))))
noncomputable def dvs:List Value:=[.str (Str.ofString "") 371,.str (Str.ofString "") 372,.none,.str (Str.ofString "") 373]
theorem b6d{g:G}{T h ρ}:VRs g T h ρ dfl dvs:=.cons (.str _ _ _ (by decide) (fun e=>nomatch e)) (.cons (.str _ _ _ (by decide) (fun e=>nomatch e)) (.cons .none (.cons (.str _ _ _ (by decide) (fun e=>nomatch e)) .nil)))
theorem a9h{g:G}{f:Nat}{fd:FuncData}{body:List Stmt}(hK:g.K.In g.B)(h1:g.K.lookup (g.fa f)=some ⟨.type "function",none,.func fd,#[]⟩)(h2:a9g g.K f fd=true)(h3:fd.body = .stmts body)
  (hb:∀ (xs:List Value) (s:Shared),CM f (parF f).length xs.length=true->(∀ b o,g.B.get? b=some o->s.heap.get? b=some o)->BindsTo s fd ⟨xs,[]⟩ (((parF f).map nm).zip (fillV dvs f xs))):DefOk g f (parF f) fd.scope.names body:=by
 unfold a9g at h2
 simp only[Bool.and_eq_true,List.isEmpty_iff,Bool.not_eq_true',beq_iff_eq,List.all_eq_true,decide_eq_true_eq]at h2
 obtain⟨a,b,c,d,e,f1,g1,h,i,j⟩:=h2
 refine⟨⟨_,fd,dvs,hK _ _ h1,rfl,codeRec_of hK a,h3,b,?_,d,e,f1,g1,rfl,fun _ _ _=>b6d,hb⟩,KD h,fun k hk=>GN (i k hk),j⟩
 unfold b0m at c
 split at c
 ·assumption
 ·exact noF c
noncomputable def b0n(fd:FuncData)(pos:List Value):{k:Option (Array Value)->Sem (List (Str×Value)) // bindArgs fd ⟨pos,[]⟩=seqItems? fd.defaults >>= k }:=⟨_,by with_unfolding_all rfl⟩
theorem HJ{K:Frag}{s:Shared}{fd:FuncData}{pos:List Value}{binds:List (Str×Value)}{T:Addr}{items:Array Value}(X:K.In s.heap)(ho:K.lookup T=some ⟨.type "tuple",none,.seq items 0,#[]⟩)(hd:fd.defaults = .ref T)
  (h:(b0n fd pos).1 (some items)=pure binds):BindsTo s fd ⟨pos,[]⟩ binds:=binds_K X hd ho rfl (b0n fd pos).2 h
theorem bind6{s:Shared}{fd:FuncData}{xs:List Value}(hc:CM 6 (parF 6).length xs.length=true)
  (h3:∀ a b c,BindsTo s fd ⟨[a,b,c],[]⟩ (((parF 6).map nm).zip (fillV dvs 6 [a,b,c])))
  (h4:∀ a b c d,BindsTo s fd ⟨[a,b,c,d],[]⟩ (((parF 6).map nm).zip (fillV dvs 6 [a,b,c,d])))
  (h7:∀ a b c d e f g,BindsTo s fd ⟨[a,b,c,d,e,f,g],[]⟩ (((parF 6).map nm).zip (fillV dvs 6 [a,b,c,d,e,f,g]))):BindsTo s fd ⟨xs,[]⟩ (((parF 6).map nm).zip (fillV dvs 6 xs)):=by
 unfold CM at hc
 rw[if_pos rfl,Bool.or_eq_true,Bool.or_eq_true,beq_iff_eq,beq_iff_eq,beq_iff_eq]at hc
 match xs,hc with
 | [],hc=>simp at hc
 | [_],hc=>simp at hc
 | [_,_],hc=>simp at hc
 | [a,b,c],_=>exact h3 a b c
 | [a,b,c,d],_=>exact h4 a b c d
 | [_,_,_,_,_],hc=>simp at hc
 | [_,_,_,_,_,_],hc=>simp at hc
 | [a,b,c,d,e,f,g],_=>exact h7 a b c d e f g
 | _::_::_::_::_::_::_::_::_,hc=>simp at hc
theorem bind0{s:Shared}{f:Nat}{fd:FuncData}{xs:List Value}(hf:f≠6)(hp:parF f=[])(hc:CM f (parF f).length xs.length=true)(h:bindArgs fd ⟨[],[]⟩=pure []):BindsTo s fd ⟨xs,[]⟩ (((parF f).map nm).zip (fillV dvs f xs)):=by
 rw[hp]at hc ⊢
 unfold CM at hc;rw[if_neg hf]at hc
 match xs,hc with
 | [],_=>exact .of_eq (by rw[h];rfl)
theorem bind1{s:Shared}{f a:Nat}{fd:FuncData}{xs:List Value}(hf:f≠6)(hp:parF f=[a])(hc:CM f (parF f).length xs.length=true)(h:∀ x,bindArgs fd ⟨[x],[]⟩=pure [(nm a,x)]):BindsTo s fd ⟨xs,[]⟩ (((parF f).map nm).zip (fillV dvs f xs)):=by
 rw[hp]at hc ⊢
 unfold CM at hc;rw[if_neg hf]at hc
 match xs,hc with
 | [x],_=>exact .of_eq (by rw[h,fillV,if_neg hf];rfl)
theorem bind2{s:Shared}{f a b:Nat}{fd:FuncData}{xs:List Value}(hf:f≠6)(hp:parF f=[a,b])(hc:CM f (parF f).length xs.length=true)(h:∀ x y,BindsTo s fd ⟨[x,y],[]⟩ [(nm a,x),(nm b,y)]):BindsTo s fd ⟨xs,[]⟩ (((parF f).map nm).zip (fillV dvs f xs)):=by
 rw[hp]at hc ⊢
 unfold CM at hc;rw[if_neg hf]at hc
 match xs,hc with
 | [x,y],_=>rw[fillV,if_neg hf];exact h x y
theorem bind3{s:Shared}{f a b c:Nat}{fd:FuncData}{xs:List Value}(hf:f≠6)(hp:parF f=[a,b,c])(hc:CM f (parF f).length xs.length=true)(h:∀ x y z,bindArgs fd ⟨[x,y,z],[]⟩=pure [(nm a,x),(nm b,y),(nm c,z)]):BindsTo s fd ⟨xs,[]⟩ (((parF f).map nm).zip (fillV dvs f xs)):=by
 rw[hp]at hc ⊢
 unfold CM at hc;rw[if_neg hf]at hc
 match xs,hc with
 | [x,y,z],_=>exact .of_eq (by rw[h,fillV,if_neg hf];rfl)
noncomputable def faF(f:Nat):Nat:=faL.getD f 0
noncomputable def caF(c:Nat):Nat:=caL.getD c 0
noncomputable def gOf(w:World)(h:Heap):G:=⟨PySem.Challenge.rw_nt0297_01.row.prog,w,h,HK w.params,caF,faF,[]⟩
section
variable {w:World}{h:Heap}
noncomputable abbrev DfT(w:World)(h:Heap)(f a:Nat):Prop:=DefOk (gOf w h) f (parF f) (fdA (HK w.params) a).scope.names (HI (fdA (HK w.params) a))
noncomputable abbrev BdT(w:World)(h:Heap)(f a:Nat):Prop:=∀ (xs:List Value) (s:Shared),CM f (parF f).length xs.length=true->(∀ b o,(gOf w h).B.get? b=some o->s.heap.get? b=some o)->BindsTo s (fdA (HK w.params) a) ⟨xs,[]⟩ (((parF f).map nm).zip (fillV dvs f xs))
variable {f a p q r:Nat}
theorem dfm(hK:(HK w.params).In h)(hb:BdT w h f a)(h1:(gOf w h).K.lookup ((gOf w h).fa f)=some ⟨.type "function",none,.func (fdA (HK w.params) a),#[]⟩)(h2:a9g (gOf w h).K f (fdA (HK w.params) a)=true)(h3:(fdA (HK w.params) a).body = .stmts (HI (fdA (HK w.params) a))):DfT w h f a:=a9h hK h1 h2 h3 hb
theorem bd0(hf:f≠6)(hp:parF f=[])(hq:bindArgs (fdA (HK w.params) a) ⟨[],[]⟩=pure []):BdT w h f a:=fun xs s hc _=>bind0 hf hp hc hq
theorem bd1(hf:f≠6)(hp:parF f=[p])(hq:∀ x,bindArgs (fdA (HK w.params) a) ⟨[x],[]⟩=pure [(nm p,x)]):BdT w h f a:=fun xs s hc _=>bind1 hf hp hc hq
theorem bd2(hf:f≠6)(hp:parF f=[p,q])(hq:∀ x y,bindArgs (fdA (HK w.params) a) ⟨[x,y],[]⟩=pure [(nm p,x),(nm q,y)]):BdT w h f a:=fun xs s hc _=>bind2 hf hp hc fun x y=>.of_eq (hq x y)
theorem bd3(hf:f≠6)(hp:parF f=[p,q,r])(hq:∀ x y z,bindArgs (fdA (HK w.params) a) ⟨[x,y,z],[]⟩=pure [(nm p,x),(nm q,y),(nm r,z)]):BdT w h f a:=fun xs s hc _=>bind3 hf hp hc hq
theorem b0o(hK:(HK w.params).In h):DfT w h 0 36:=dfm hK (fun xs s hc hB=>bind2 (f:=0) (a:=0) (b:=1) (by decide) rfl hc fun x y=>HJ (K:=HK w.params) (T:=29) (items := #[.str (Str.ofString "") 208]) (hK.keeps hB) (by kernel_rfl) (by kernel_rfl) (by kernel_rfl)) (by kernel_rfl) (by kernel_rfl) (by kernel_rfl)
theorem b8v(hK:(HK w.params).In h):DfT w h 1 71:=dfm hK (bd1 (p:=2) (by decide) rfl fun x=>by kernel_rfl) (by kernel_rfl) (by kernel_rfl) (by kernel_rfl)
theorem b8w(hK:(HK w.params).In h):DfT w h 2 80:=dfm hK (bd1 (p:=6) (by decide) rfl fun x=>by kernel_rfl) (by kernel_rfl) (by kernel_rfl) (by kernel_rfl)
theorem b8x(hK:(HK w.params).In h):DfT w h 3 87:=dfm hK (bd1 (p:=6) (by decide) rfl fun x=>by kernel_rfl) (by kernel_rfl) (by kernel_rfl) (by kernel_rfl)
theorem b8y(hK:(HK w.params).In h):DfT w h 4 101:=dfm hK (bd1 (p:=2) (by decide) rfl fun x=>by kernel_rfl) (by kernel_rfl) (by kernel_rfl) (by kernel_rfl)
theorem b8z(hK:(HK w.params).In h):DfT w h 5 115:=dfm hK (bd1 (p:=9) (by decide) rfl fun x=>by kernel_rfl) (by kernel_rfl) (by kernel_rfl) (by kernel_rfl)
theorem b9a(hK:(HK w.params).In h):DfT w h 6 144:=dfm hK (fun xs s hc hB=>bind6 hc (fun a b c=>HJ (K:=HK w.params) (T:=137) (items := #[.str (Str.ofString "") 371,.str (Str.ofString "") 372,.none,.str (Str.ofString "") 373]) (hK.keeps hB) (by kernel_rfl) (by kernel_rfl) (by kernel_rfl)) (fun a b c d=>HJ (K:=HK w.params) (T:=137) (items := #[.str (Str.ofString "") 371,.str (Str.ofString "") 372,.none,.str (Str.ofString "") 373]) (hK.keeps hB) (by kernel_rfl) (by kernel_rfl) (by kernel_rfl)) (fun a b c d e f g=>HJ (K:=HK w.params) (T:=137) (items := #[.str (Str.ofString "") 371,.str (Str.ofString "") 372,.none,.str (Str.ofString "") 373]) (hK.keeps hB) (by kernel_rfl) (by kernel_rfl) (by kernel_rfl))) (by kernel_rfl) (by kernel_rfl) (by kernel_rfl)
theorem b9b(hK:(HK w.params).In h):DfT w h 7 151:=dfm hK (bd1 (p:=0) (by decide) rfl fun x=>by kernel_rfl) (by kernel_rfl) (by kernel_rfl) (by kernel_rfl)
theorem b9c(hK:(HK w.params).In h):DfT w h 8 165:=dfm hK (bd1 (p:=0) (by decide) rfl fun x=>by kernel_rfl) (by kernel_rfl) (by kernel_rfl) (by kernel_rfl)
theorem b9d(hK:(HK w.params).In h):DfT w h 9 186:=dfm hK (bd2 (p:=0) (q:=15) (by decide) rfl fun x y=>by kernel_rfl) (by kernel_rfl) (by kernel_rfl) (by kernel_rfl)
theorem b6e(hK:(HK w.params).In h):DfT w h 10 193:=dfm hK (bd1 (p:=0) (by decide) rfl fun x=>by kernel_rfl) (by kernel_rfl) (by kernel_rfl) (by kernel_rfl)
theorem b6f(hK:(HK w.params).In h):DfT w h 11 200:=dfm hK (bd1 (p:=0) (by decide) rfl fun x=>by kernel_rfl) (by kernel_rfl) (by kernel_rfl) (by kernel_rfl)
theorem b6g(hK:(HK w.params).In h):DfT w h 12 207:=dfm hK (bd1 (p:=0) (by decide) rfl fun x=>by kernel_rfl) (by kernel_rfl) (by kernel_rfl) (by kernel_rfl)
theorem b6h(hK:(HK w.params).In h):DfT w h 13 214:=dfm hK (bd1 (p:=0) (by decide) rfl fun x=>by kernel_rfl) (by kernel_rfl) (by kernel_rfl) (by kernel_rfl)
theorem b6i(hK:(HK w.params).In h):DfT w h 14 221:=dfm hK (bd2 (p:=0) (q:=22) (by decide) rfl fun x y=>by kernel_rfl) (by kernel_rfl) (by kernel_rfl) (by kernel_rfl)
theorem b6j(hK:(HK w.params).In h):DfT w h 15 228:=dfm hK (bd1 (p:=0) (by decide) rfl fun x=>by kernel_rfl) (by kernel_rfl) (by kernel_rfl) (by kernel_rfl)
theorem b6k(hK:(HK w.params).In h):DfT w h 16 235:=dfm hK (bd1 (p:=0) (by decide) rfl fun x=>by kernel_rfl) (by kernel_rfl) (by kernel_rfl) (by kernel_rfl)
theorem b6l(hK:(HK w.params).In h):DfT w h 17 242:=dfm hK (bd1 (p:=0) (by decide) rfl fun x=>by kernel_rfl) (by kernel_rfl) (by kernel_rfl) (by kernel_rfl)
theorem b6m(hK:(HK w.params).In h):DfT w h 18 249:=dfm hK (bd1 (p:=0) (by decide) rfl fun x=>by kernel_rfl) (by kernel_rfl) (by kernel_rfl) (by kernel_rfl)
theorem b6n(hK:(HK w.params).In h):DfT w h 19 256:=dfm hK (bd1 (p:=0) (by decide) rfl fun x=>by kernel_rfl) (by kernel_rfl) (by kernel_rfl) (by kernel_rfl)
theorem b6o(hK:(HK w.params).In h):DfT w h 20 263:=dfm hK (bd1 (p:=0) (by decide) rfl fun x=>by kernel_rfl) (by kernel_rfl) (by kernel_rfl) (by kernel_rfl)
theorem b6p(hK:(HK w.params).In h):DfT w h 21 270:=dfm hK (bd1 (p:=0) (by decide) rfl fun x=>by kernel_rfl) (by kernel_rfl) (by kernel_rfl) (by kernel_rfl)
theorem b6q(hK:(HK w.params).In h):DfT w h 22 292:=dfm hK (fun xs s hc hB=>bind2 (f:=22) (a:=0) (b:=15) (by decide) rfl hc fun x y=>HJ (K:=HK w.params) (T:=285) (items := #[.bytes #[] 571]) (hK.keeps hB) (by kernel_rfl) (by kernel_rfl) (by kernel_rfl)) (by kernel_rfl) (by kernel_rfl) (by kernel_rfl)
theorem b6r(hK:(HK w.params).In h):DfT w h 23 297:=dfm hK (bd1 (p:=0) (by decide) rfl fun x=>by kernel_rfl) (by kernel_rfl) (by kernel_rfl) (by kernel_rfl)
theorem b6s(hK:(HK w.params).In h):DfT w h 24 302:=dfm hK (bd1 (p:=0) (by decide) rfl fun x=>by kernel_rfl) (by kernel_rfl) (by kernel_rfl) (by kernel_rfl)
theorem b6t(hK:(HK w.params).In h):DfT w h 25 337:=dfm hK (bd1 (p:=0) (by decide) rfl fun x=>by kernel_rfl) (by kernel_rfl) (by kernel_rfl) (by kernel_rfl)
theorem b6u(hK:(HK w.params).In h):DfT w h 26 408:=dfm hK (bd3 (p:=0) (q:=36) (r:=37) (by decide) rfl fun x y z=>by kernel_rfl) (by kernel_rfl) (by kernel_rfl) (by kernel_rfl)
theorem b6v(hK:(HK w.params).In h):DfT w h 27 415:=dfm hK (bd2 (p:=0) (q:=36) (by decide) rfl fun x y=>by kernel_rfl) (by kernel_rfl) (by kernel_rfl) (by kernel_rfl)
theorem b6w(hK:(HK w.params).In h):DfT w h 28 452:=dfm hK (bd2 (p:=0) (q:=2) (by decide) rfl fun x y=>by kernel_rfl) (by kernel_rfl) (by kernel_rfl) (by kernel_rfl)
theorem b6x(hK:(HK w.params).In h):DfT w h 29 459:=dfm hK (bd2 (p:=0) (q:=12) (by decide) rfl fun x y=>by kernel_rfl) (by kernel_rfl) (by kernel_rfl) (by kernel_rfl)
theorem b6y(hK:(HK w.params).In h):DfT w h 30 466:=dfm hK (bd2 (p:=0) (q:=12) (by decide) rfl fun x y=>by kernel_rfl) (by kernel_rfl) (by kernel_rfl) (by kernel_rfl)
theorem b6z(hK:(HK w.params).In h):DfT w h 31 473:=dfm hK (bd2 (p:=0) (q:=12) (by decide) rfl fun x y=>by kernel_rfl) (by kernel_rfl) (by kernel_rfl) (by kernel_rfl)
theorem b7a(hK:(HK w.params).In h):DfT w h 32 487:=dfm hK (bd1 (p:=2) (by decide) rfl fun x=>by kernel_rfl) (by kernel_rfl) (by kernel_rfl) (by kernel_rfl)
theorem b7b(hK:(HK w.params).In h):DfT w h 33 494:=dfm hK (bd2 (p:=50) (q:=12) (by decide) rfl fun x y=>by kernel_rfl) (by kernel_rfl) (by kernel_rfl) (by kernel_rfl)
theorem b7c(hK:(HK w.params).In h):DfT w h 34 499:=dfm hK (bd2 (p:=52) (q:=53) (by decide) rfl fun x y=>by kernel_rfl) (by kernel_rfl) (by kernel_rfl) (by kernel_rfl)
theorem b7d(hK:(HK w.params).In h):DfT w h 35 506:=dfm hK (bd0 (by decide) rfl (by kernel_rfl)) (by kernel_rfl) (by kernel_rfl) (by kernel_rfl)
theorem b7e(hK:(HK w.params).In h):DfT w h 36 513:=dfm hK (bd0 (by decide) rfl (by kernel_rfl)) (by kernel_rfl) (by kernel_rfl) (by kernel_rfl)
theorem b7f(hK:(HK w.params).In h):DfT w h 37 521:=dfm hK (bd0 (by decide) rfl (by kernel_rfl)) (by kernel_rfl) (by kernel_rfl) (by kernel_rfl)
theorem b7g(hK:(HK w.params).In h):DfT w h 38 528:=dfm hK (bd0 (by decide) rfl (by kernel_rfl)) (by kernel_rfl) (by kernel_rfl) (by kernel_rfl)
theorem b7h(hK:(HK w.params).In h):DfT w h 39 535:=dfm hK (bd0 (by decide) rfl (by kernel_rfl)) (by kernel_rfl) (by kernel_rfl) (by kernel_rfl)
theorem b7i(hK:(HK w.params).In h):DfT w h 40 542:=dfm hK (bd0 (by decide) rfl (by kernel_rfl)) (by kernel_rfl) (by kernel_rfl) (by kernel_rfl)
theorem b7j(hK:(HK w.params).In h):DfT w h 41 547:=dfm hK (bd1 (p:=59) (by decide) rfl fun x=>by kernel_rfl) (by kernel_rfl) (by kernel_rfl) (by kernel_rfl)
theorem b7k(hK:(HK w.params).In h):DfT w h 42 554:=dfm hK (bd2 (p:=61) (q:=62) (by decide) rfl fun x y=>by kernel_rfl) (by kernel_rfl) (by kernel_rfl) (by kernel_rfl)
theorem b7l(hK:(HK w.params).In h):DfT w h 43 559:=dfm hK (bd1 (p:=2) (by decide) rfl fun x=>by kernel_rfl) (by kernel_rfl) (by kernel_rfl) (by kernel_rfl)
theorem b7m(hK:(HK w.params).In h):DfT w h 44 564:=dfm hK (bd1 (p:=64) (by decide) rfl fun x=>by kernel_rfl) (by kernel_rfl) (by kernel_rfl) (by kernel_rfl)
theorem b7n(hK:(HK w.params).In h):DfT w h 45 571:=dfm hK (bd1 (p:=64) (by decide) rfl fun x=>by kernel_rfl) (by kernel_rfl) (by kernel_rfl) (by kernel_rfl)
theorem b7o(hK:(HK w.params).In h):DfT w h 46 578:=dfm hK (bd1 (p:=12) (by decide) rfl fun x=>by kernel_rfl) (by kernel_rfl) (by kernel_rfl) (by kernel_rfl)
theorem b7p(hK:(HK w.params).In h):DfT w h 47 583:=dfm hK (bd2 (p:=67) (q:=64) (by decide) rfl fun x y=>by kernel_rfl) (by kernel_rfl) (by kernel_rfl) (by kernel_rfl)
theorem b7q(hK:(HK w.params).In h):DfT w h 48 588:=dfm hK (bd1 (p:=61) (by decide) rfl fun x=>by kernel_rfl) (by kernel_rfl) (by kernel_rfl) (by kernel_rfl)
theorem b7r(hK:(HK w.params).In h):DfT w h 49 595:=dfm hK (bd2 (p:=50) (q:=12) (by decide) rfl fun x y=>by kernel_rfl) (by kernel_rfl) (by kernel_rfl) (by kernel_rfl)
theorem b7s(hK:(HK w.params).In h):DfT w h 50 602:=dfm hK (bd1 (p:=50) (by decide) rfl fun x=>by kernel_rfl) (by kernel_rfl) (by kernel_rfl) (by kernel_rfl)
theorem b7t(hK:(HK w.params).In h):DfT w h 51 609:=dfm hK (bd1 (p:=61) (by decide) rfl fun x=>by kernel_rfl) (by kernel_rfl) (by kernel_rfl) (by kernel_rfl)
theorem b7u(hK:(HK w.params).In h):DfT w h 52 614:=dfm hK (bd1 (p:=61) (by decide) rfl fun x=>by kernel_rfl) (by kernel_rfl) (by kernel_rfl) (by kernel_rfl)
theorem a5g(hK:(HK w.params).In h):DfT w h 53 621:=dfm hK (bd1 (p:=59) (by decide) rfl fun x=>by kernel_rfl) (by kernel_rfl) (by kernel_rfl) (by kernel_rfl)
end
section
variable {w:World}{h:Heap}
theorem b7v{c:Nat}(C:c=3\/c=4\/c=5\/c=6):ClsOk (gOf w h) c:=by
 rcases C with rfl | rfl | rfl | rfl
 all_goals exact⟨by kernel_rfl,by kernel_rfl,by kernel_rfl,by kernel_rfl,by kernel_rfl,by kernel_rfl,by kernel_rfl,by kernel_rfl⟩
theorem b7w:∀ p∈flds,findIn (gOf w h).K (.ref ((gOf w h).ca p.1)) (nm p.2)=some none:=by
 unfold flds
 simp only[List.forall_mem_cons]
 repeat' apply And.intro
 all_goals first | kernel_rfl | (intro _ h;cases h)
theorem fnk_ok:∀ p∈fnames,keepIn (gOf w h).K (.ref ((gOf w h).fa p.2))=true:=by
 unfold fnames strn
 simp only[List.map_cons,List.map_nil,List.forall_mem_cons]
 repeat' apply And.intro
 all_goals first | kernel_rfl | (intro _ h;cases h)
theorem mths_ok:∀ p∈meths,findIn (gOf w h).K (.ref ((gOf w h).ca p.1)) (nm p.2.1)=some (some (.ref ((gOf w h).fa p.2.2)))/\typeIn (gOf w h).K (.ref ((gOf w h).fa p.2.2))=some (.type "function")/\keepIn (gOf w h).K (.ref ((gOf w h).fa p.2.2))=true:=by
 unfold meths
 simp only[List.forall_mem_cons]
 repeat' apply And.intro
 all_goals first | kernel_rfl | (intro _ h;cases h)
noncomputable def secL:List Value:=[.str (Str.ofString "core") 870,.str (Str.ofString "a.S q") 871,.str (Str.ofString "a.low") 872,.str (Str.ofString "a") 873,.str (Str.ofString "none") 874]
noncomputable def whiL:List Value:=[.int 32 266,.int 9 267,.int 10 268,.int 13 269]
noncomputable def b7x:List (Str×Value):=[(Str.ofString "n",.str (Str.ofString "\n") 272),(Str.ofString "t",.str (Str.ofString "\t") 274),(Str.ofString "b",.str (Str.ofString "\x08") 276),(Str.ofString "\"",.str (Str.ofString "\"") 278),(Str.ofString "\\",.str (Str.ofString "\\") 280)]
noncomputable def a9i(P:Params):Array DictEntry := #[⟨PyData.keyHash P (Str.ofString "n"),.str (Str.ofString "n") 271,.str (Str.ofString "\n") 272⟩,⟨PyData.keyHash P (Str.ofString "t"),.str (Str.ofString "t") 273,.str (Str.ofString "\t") 274⟩,
 ⟨PyData.keyHash P (Str.ofString "b"),.str (Str.ofString "b") 275,.str (Str.ofString "\x08") 276⟩,⟨PyData.keyHash P (Str.ofString "\""),.str (Str.ofString "\"") 277,.str (Str.ofString "\"") 278⟩,⟨PyData.keyHash P (Str.ofString "\\"),.str (Str.ofString "\\") 279,.str (Str.ofString "\\") 280⟩]
theorem b7y{P}:(HK P).lookup 514=some ⟨.type "list",none,.seq secL.toArray 0,#[]⟩:=by kernel_rfl
theorem a5h{P}:(HK P).lookup 72=some ⟨.type "tuple",none,.seq whiL.toArray 0,#[]⟩:=by kernel_rfl
theorem b7z{P}:(HK P).lookup 73=some ⟨.type "dict",none,.dict (a9i P) 5,#[]⟩:=by kernel_rfl
theorem a9j(hK:(HK w.params).In h){prog}:h.DictOf (strKind prog w) 73 b7x:=by
 refine⟨_,a9i w.params,5,hK _ _ b7z,⟨rfl,rfl,rfl⟩,rfl,?_,?_,by decide⟩
 ·intro e he
  simp only[a9i,List.mem_toArray,List.mem_cons,List.not_mem_nil,or_false]at he
  rcases he with rfl | rfl | rfl | rfl | rfl
  all_goals exact⟨_,strKind_is _ _ _ _,rfl⟩
 ·exact .cons (strKind_is _ _ _ _) rfl (.cons (strKind_is _ _ _ _) rfl (.cons (strKind_is _ _ _ _) rfl (.cons (strKind_is _ _ _ _) rfl (.cons (strKind_is _ _ _ _) rfl .nil))))
theorem b9e(hK:(HK w.params).In h){mg:Str->Option Value}(Gg:h.Ns mainGlobals mg):∀ p∈gnames,∃ v,mg p.1=some v/\∀ Z T h' ρ,(∀ b o,(gOf w h).B.get? b=some o->h'.get? b=some o)->(∀ z∈Z,(gOf w h).B.get? z=none)->VR ((gOf w h).at Z) T h' ρ (glv p.2) v:=by
 unfold gnames strn
 simp only[List.map_cons,List.map_nil,List.forall_mem_cons]
 refine⟨⟨.ref 514,mg_of hK Gg (by kernel_rfl),fun Z T h' ρ hB hZ=>?_⟩,⟨.ref 72,mg_of hK Gg (by kernel_rfl),fun Z T h' ρ hB hZ=>?_⟩,⟨.ref 73,mg_of hK Gg (by kernel_rfl),fun Z T h' ρ hB hZ=>?_⟩,fun _ h=>by cases h⟩
 ·refine VR.flist (xs:=secL) ⟨_,hK _ _ b7y,rfl,_,rfl⟩ (by decide) ?_
  exact .cons (.str _ _ _ (by decide) (fun e=>nomatch e)) (.cons (.str _ _ _ (by decide) (fun e=>nomatch e)) (.cons (.str _ _ _ (by decide) (fun e=>nomatch e)) (.cons (.str _ _ _ (by decide) (fun e=>nomatch e)) (.cons (.str _ _ _ (by decide) (fun e=>nomatch e)) .nil))))
 ·refine VR.tup (xs:=whiL) (fun hz=>?_) ⟨_,hB _ _ (hK _ _ a5h),rfl,_,rfl⟩ (by decide) ?_
  ·have:=hZ _ hz
   rw[show(gOf w h).B.get? 72=_ from hK _ _ a5h]at this
   exact noT this
  ·exact .cons (.int _ _) (.cons (.int _ _) (.cons (.int _ _) (.cons (.int _ _) .nil)))
 ·refine VR.fdict (xs:=b7x) (a9j hK) (by decide) ?_
  exact .cons (.str _ _ _ (by decide) (fun e=>nomatch e)) (.cons (.str _ _ _ (by decide) (fun e=>nomatch e)) (.cons (.str _ _ _ (by decide) (fun e=>nomatch e)) (.cons (.str _ _ _ (by decide) (fun e=>nomatch e)) (.cons (.str _ _ _ (by decide) (fun e=>nomatch e)) .nil))))
theorem b8a(hK:(HK w.params).In h){mg:Str->Option Value}(Gg:h.Ns mainGlobals mg):∀ p∈fnames,mg p.1=some (.ref ((gOf w h).fa p.2)):=by
 unfold fnames strn
 simp only[List.map_cons,List.map_nil,List.forall_mem_cons]
 repeat' apply And.intro
 all_goals first | exact mg_of hK Gg (by kernel_rfl) | (intro _ h;cases h)
theorem b8b(hK:(HK w.params).In h){mg:Str->Option Value}(Gg:h.Ns mainGlobals mg):∀ p∈cnames,mg p.1=some (.ref ((gOf w h).ca p.2)):=by
 unfold cnames strn
 simp only[List.map_cons,List.map_nil,List.forall_mem_cons]
 repeat' apply And.intro
 all_goals first | exact mg_of hK Gg (by kernel_rfl) | (intro _ h;cases h)
theorem b8c(hK:(HK w.params).In h){mg mb:Str->Option Value}(Gg:h.Ns mainGlobals mg)(hb:∀ x:Str,x≠"__name__"->mb x=bootBuiltins x):∀ p∈bnames,mg p.1=none/\mb p.1=some p.2:=by
 unfold bnames
 simp only[List.map_cons,List.map_nil,List.forall_mem_cons]
 repeat' apply And.intro
 all_goals first | exact mg_none_of hK Gg (by kernel_rfl) | (refine(hb _ (by decide)).trans ?_;boot_by_name) | (intro _ h;cases h)
theorem b9r(hK:(HK w.params).In h)(hl:h.NoLimit){mg mb:Str->Option Value}(Gg:h.Ns mainGlobals mg)(Gb:h.Ns builtinsNs mb)(hb:∀ x:Str,x≠"__name__"->mb x=bootBuiltins x):Ok (gOf w h) :=
 ⟨hK,hl,fun _=>b7v,fun c k hf=>by
  unfold GZ at hf
  refine AD ?_<|List.any_eq_true.mp hf;intro p hp e
  rw[Bool.and_eq_true,beq_iff_eq,beq_iff_eq]at e
  revert e;refine oA2 ?_;rintro rfl rfl
  exact b7w p hp,⟨mg,mb,Gg,Gb,b8a hK Gg,b8b hK Gg,b9e hK Gg,b8c hK Gg hb⟩,fnk_ok,mths_ok⟩
theorem lk_exc{P}:(HK P).lookup 64=some (SA 64):=by kernel_rfl
theorem b8d(hK:(HK w.params).In h):∃ p1 p2 p3 pos,DefOk (gOf w h) 0 [0,1] [(nm 0,.local),(nm 1,.local)] [.Assign [.Attribute (.Name (nm 0) p1) (nm 1) p2] (.Name (nm 1) p3) pos]:=by
 have D:DefOk (gOf w h) 0 (parF 0) (fdA (HK w.params) 36).scope.names (HI (fdA (HK w.params) 36)):=b0o hK
 have e1:(fdA (HK w.params) 36).scope.names=[(nm 0,.local),(nm 1,.local)]:=by kernel_rfl
 have e2:HI (fdA (HK w.params) 36)=[.Assign [.Attribute (.Name (nm 0) ⟨8,8,8,12⟩) (nm 1) ⟨8,8,8,17⟩] (.Name (nm 1) ⟨8,20,8,24⟩) ⟨8,8,8,24⟩]:=by kernel_rfl
 rw[e1,e2]at D
 exact⟨_,_,_,_,D⟩
theorem b9f(hK:(HK w.params).In h){mg:Str->Option Value}(Gg:h.Ns mainGlobals mg):ExcOk (gOf w h) :=
 ⟨lk_exc,by kernel_rfl,by kernel_rfl,by kernel_rfl,by kernel_rfl,by kernel_rfl,by kernel_rfl,by kernel_rfl,b8d hK,⟨mg,Gg,mg_of hK Gg (by kernel_rfl)⟩⟩
noncomputable abbrev Ck(w:World)(a f:Nat):Prop:=HO (ckS 12) (fdA (HK w.params) a).scope.names (HI (fdA (HK w.params) a)) (EN f)=true
theorem ckm{a f:Nat}(h:HO (ckS 12) (fdA (HK w.params) a).scope.names (HI (fdA (HK w.params) a)) (EN f)=true):Ck w a f:=h
theorem ck_0:Ck w 36 0:=ckm (by kernel_rfl)
theorem ck_1:Ck w 71 1:=ckm (by kernel_rfl)
theorem ck_2:Ck w 80 2:=ckm (by kernel_rfl)
theorem ck_3:Ck w 87 3:=ckm (by kernel_rfl)
theorem ck_4:Ck w 101 4:=ckm (by kernel_rfl)
theorem ck_5:Ck w 115 5:=ckm (by kernel_rfl)
theorem ck_6:Ck w 144 6:=ckm (by kernel_rfl)
theorem ck_7:Ck w 151 7:=ckm (by kernel_rfl)
theorem ck_8:Ck w 165 8:=ckm (by kernel_rfl)
theorem ck_9:Ck w 186 9:=ckm (by kernel_rfl)
theorem ck_10:Ck w 193 10:=ckm (by kernel_rfl)
theorem ck_11:Ck w 200 11:=ckm (by kernel_rfl)
theorem ck_12:Ck w 207 12:=ckm (by kernel_rfl)
theorem ck_13:Ck w 214 13:=ckm (by kernel_rfl)
theorem ck_14:Ck w 221 14:=ckm (by kernel_rfl)
theorem ck_15:Ck w 228 15:=ckm (by kernel_rfl)
theorem ck_16:Ck w 235 16:=ckm (by kernel_rfl)
theorem ck_17:Ck w 242 17:=ckm (by kernel_rfl)
theorem ck_18:Ck w 249 18:=ckm (by kernel_rfl)
theorem ck_19:Ck w 256 19:=ckm (by kernel_rfl)
theorem ck_20:Ck w 263 20:=ckm (by kernel_rfl)
theorem ck_21:Ck w 270 21:=ckm (by kernel_rfl)
theorem ck_22:Ck w 292 22:=ckm (by kernel_rfl)
theorem ck_23:Ck w 297 23:=ckm (by kernel_rfl)
theorem ck_24:Ck w 302 24:=ckm (by kernel_rfl)
theorem ck_25:Ck w 337 25:=ckm (by kernel_rfl)
theorem ck_26:Ck w 408 26:=ckm (by kernel_rfl)
theorem ck_27:Ck w 415 27:=ckm (by kernel_rfl)
theorem ck_28:Ck w 452 28:=ckm (by kernel_rfl)
theorem ck_29:Ck w 459 29:=ckm (by kernel_rfl)
theorem ck_30:Ck w 466 30:=ckm (by kernel_rfl)
theorem ck_31:Ck w 473 31:=ckm (by kernel_rfl)
theorem ck_32:Ck w 487 32:=ckm (by kernel_rfl)
theorem ck_33:Ck w 494 33:=ckm (by kernel_rfl)
theorem ck_34:Ck w 499 34:=ckm (by kernel_rfl)
theorem ck_35:Ck w 506 35:=ckm (by kernel_rfl)
theorem ck_36:Ck w 513 36:=ckm (by kernel_rfl)
theorem ck_37:Ck w 521 37:=ckm (by kernel_rfl)
theorem ck_38:Ck w 528 38:=ckm (by kernel_rfl)
theorem ck_39:Ck w 535 39:=ckm (by kernel_rfl)
theorem ck_40:Ck w 542 40:=ckm (by kernel_rfl)
theorem ck_41:Ck w 547 41:=ckm (by kernel_rfl)
theorem ck_42:Ck w 554 42:=ckm (by kernel_rfl)
theorem ck_43:Ck w 559 43:=ckm (by kernel_rfl)
theorem ck_44:Ck w 564 44:=ckm (by kernel_rfl)
theorem ck_45:Ck w 571 45:=ckm (by kernel_rfl)
theorem ck_46:Ck w 578 46:=ckm (by kernel_rfl)
theorem ck_47:Ck w 583 47:=ckm (by kernel_rfl)
theorem ck_48:ckF 12 (fdA (HK w.params) 588).scope.names (HI (fdA (HK w.params) 588)) (EN 48)=true:=by kernel_rfl
theorem ck_49:Ck w 595 49:=ckm (by kernel_rfl)
theorem ck_50:Ck w 602 50:=ckm (by kernel_rfl)
theorem ck_51:Ck w 609 51:=ckm (by kernel_rfl)
theorem ck_52:Ck w 614 52:=ckm (by kernel_rfl)
theorem ck_53:ckF 12 (fdA (HK w.params) 621).scope.names (HI (fdA (HK w.params) 621)) (EN 53)=true:=by kernel_rfl
noncomputable def Has(g:G)(f:Nat):Prop:=∃ sc body,DefOk g f (parF f) sc body/\(if f=48\/f=53 then ckF 12 sc body (EN f)=true else HO (ckS 12) sc body (EN f)=true)
theorem a0c(hK:(HK w.params).In h):∀ f∈List.range 54,Has (gOf w h) f:=by
 rw[show List.range 54=[0,1,2,3,4,5,6,7,8,9,10,11,12,13,14,15,16,17,18,19,20,21,22,23,24,25,26,27,28,29,30,31,32,33,34,35,36,37,38,39,40,41,42,43,44,45,46,47,48,49,50,51,52,53] from by decide]
 simp only[List.forall_mem_cons]
 refine⟨⟨_,_,b0o hK,ck_0⟩,⟨_,_,b8v hK,ck_1⟩,⟨_,_,b8w hK,ck_2⟩,⟨_,_,b8x hK,ck_3⟩,⟨_,_,b8y hK,ck_4⟩,⟨_,_,b8z hK,ck_5⟩,⟨_,_,b9a hK,ck_6⟩,⟨_,_,b9b hK,ck_7⟩,⟨_,_,b9c hK,ck_8⟩,⟨_,_,b9d hK,ck_9⟩,⟨_,_,b6e hK,ck_10⟩,⟨_,_,b6f hK,ck_11⟩,⟨_,_,b6g hK,ck_12⟩,⟨_,_,b6h hK,ck_13⟩,⟨_,_,b6i hK,ck_14⟩,⟨_,_,b6j hK,ck_15⟩,⟨_,_,b6k hK,ck_16⟩,⟨_,_,b6l hK,ck_17⟩,⟨_,_,b6m hK,ck_18⟩,⟨_,_,b6n hK,ck_19⟩,⟨_,_,b6o hK,ck_20⟩,⟨_,_,b6p hK,ck_21⟩,⟨_,_,b6q hK,ck_22⟩,⟨_,_,b6r hK,ck_23⟩,⟨_,_,b6s hK,ck_24⟩,⟨_,_,b6t hK,ck_25⟩,⟨_,_,b6u hK,ck_26⟩,⟨_,_,b6v hK,ck_27⟩,⟨_,_,b6w hK,ck_28⟩,⟨_,_,b6x hK,ck_29⟩,⟨_,_,b6y hK,ck_30⟩,⟨_,_,b6z hK,ck_31⟩,⟨_,_,b7a hK,ck_32⟩,⟨_,_,b7b hK,ck_33⟩,⟨_,_,b7c hK,ck_34⟩,⟨_,_,b7d hK,ck_35⟩,⟨_,_,b7e hK,ck_36⟩,⟨_,_,b7f hK,ck_37⟩,⟨_,_,b7g hK,ck_38⟩,⟨_,_,b7h hK,ck_39⟩,⟨_,_,b7i hK,ck_40⟩,⟨_,_,b7j hK,ck_41⟩,⟨_,_,b7k hK,ck_42⟩,⟨_,_,b7l hK,ck_43⟩,⟨_,_,b7m hK,ck_44⟩,⟨_,_,b7n hK,ck_45⟩,⟨_,_,b7o hK,ck_46⟩,⟨_,_,b7p hK,ck_47⟩,⟨_,_,b7q hK,ck_48⟩,⟨_,_,b7r hK,ck_49⟩,⟨_,_,b7s hK,ck_50⟩,⟨_,_,b7t hK,ck_51⟩,⟨_,_,b7u hK,ck_52⟩,⟨_,_,a5g hK,ck_53⟩,fun _ h=>by cases h⟩
theorem b8e(hK:(HK w.params).In h)(hg:Ok (gOf w h))(hX:ExcOk (gOf w h)):Defs (gOf w h):=by
 refine⟨fun f hf=>?_,fun f hf=>?_⟩
 ·unfold QR at hf
  simp only[Bool.and_eq_true,decide_eq_true_eq]at hf
  refine FD ?_<|a0c hK f (List.mem_range.mpr hf.1.1);intro sc body D ck
  rw[if_neg (by lia)]at ck
  exact⟨sc,body,D,fun Z=>TL (hg.at Z) (hX.at Z) ck⟩
 ·refine FD ?_ (a0c hK f (List.mem_range.mpr (by lia)));intro sc body D ck
  rw[if_pos hf]at ck
  exact⟨sc,body,D,a3y hg hX _ _ _ _ ck⟩
end
end Mine
end
section
open PySem PySem.W PyProof.Rows PySem.Calls
set_option maxRecDepth 100000
namespace Mine
set_option tactic.hygienic false
theorem NN:∀ (names:List (Str×NameKind)) (n:Nat) (acc:List (Str×Addr)),(∀ x∈names,x.2≠.cell)->cellsFrom n names acc=acc
 | [],_,_,_=>rfl
 | (m,k)::r,n,acc,h=>by
  unfold cellsFrom
  have:=h _ (.head _)
  rw[if_neg (by simpa using this)]
  exact NN r n acc fun x hx=>h x (.tail _ hx)
section
variable {g:G}{sc:List (Str×NameKind)}
theorem b8f(hg:Ok g)(hZ:g.Z=[]){n k:Nat}{body:List Stmt}{mb:List MS}{T:Tb}{F:List PV->St->(Bool->Prop)->Prop}{v:PV}{Y:Bool->Prop}(D:DefOk g 53 [k] sc body)(hb:JF g sc body mb)(hT:TOk g true n T)(hF:∀ vs σ Y,F vs σ Y->LN g n 48 vs σ Y)
  (hnc:∀ x∈sc,x.2≠.cell) (h:wpF T F Y mb (puts [k] [v] []) [] (fun _ _=>False)) {A:Around} {s:Shared} {x:Value} {R:Result->Shared->Prop} (hroom:PX A (n+1)) (h1:A.handled=none) (h2:A.frames=some []) (hB:∀ b o,g.B.get? b=some o->s.heap.get? b=some o) (hlim:s.heap.NoLimit)
  (V:VR g (s.toks+1) s.heap [] v x) (hY:∀ b s',Done g s s'->Y b->R (.ok (.ret (.bool b))) s'):codeAny (model g.prog g.w) A (.call (.ref (g.fa 53)) ⟨[x],[]⟩) R s:=by
 obtain⟨o,fd,dv,ho,hd,hcd,hbody,hcl,hkd,hco,hgen,hgl,hbl,hnm,hdv,hbind⟩:=D.obj
 have hdep:A.depth<recursionLimit:=by have:=hroom.1;lia
 have hfv:fillV dv 53 [x]=[x]:=by unfold fillV;rw[if_neg (by decide)]
 have hbd:=hbind [x] s rfl hB
 rw[hfv]at hbd
 have hkl:sc.lookup (nm k)=some .local:=by
  rcases D.par k (.head _)with hk | hk
  ·exact hk
  ·exact absurd rfl (hnc _ (FT hk))
 have henv:callEnv fd s.heap.objs.size (g.fa 53)=callEnvC fd s.heap.objs.size (g.fa 53):=by
  unfold callEnv callEnvC
  rw[NN fd.scope.names _ [] (by rw[hnm];exact hnc),hcl]
 refine codeAny_call_def hdep (hB _ _ ho) hd hlim (hcd.keeps hB) hbody hbd (by rw[hnm];exact hnc) (fun y hy=>?_) (fun h₀ ns hk₀=>?_) hco hgen hkd
 ·simp only[List.map_cons,List.map_nil,List.zip_cons_cons,List.zip_nil_right,List.mem_singleton]at hy
  subst hy
  rw[hnm];exact hkl
 ·rw[henv]
  have c:At g true A [] [] {s with toks:=s.toks+1 }:=⟨.inl h1,⟨[],h2,fun _ he=>by cases he⟩,{base:=hB,len:=rfl,obj:=fun i p o e=>(by simp at e),apart:=fun i j p q e=>(by simp at e),new:=fun p hp=>(by cases hp),hid:=fun z hz=>(by rw[hZ]at hz;cases hz) },Nat.succ_pos _⟩
  have ic:InCallC {s with toks:=s.toks+1 } (callEnvC fd s.heap.objs.size (g.fa 53)).locals (bindL (callEnvC fd s.heap.objs.size (g.fa 53)).kindOf (([k].map nm).zip [x]) fun _=>none) (callEnvC fd s.heap.objs.size (g.fa 53)).cells (bindC (callEnvC fd s.heap.objs.size (g.fa 53)).kindOf (([k].map nm).zip [x]) fun _=>none) {s with heap:=h₀,toks:=s.toks+1 }:=by
   have hc:(callEnvC fd s.heap.objs.size (g.fa 53)).cells=[]:=NN fd.scope.names _ [] (by rw[hnm];exact hnc)
   have hko:(callEnvC fd s.heap.objs.size (g.fa 53)).kindOf (nm k)=some .local:=by show fd.scope.names.lookup _=_;rw[hnm];exact hkl
   refine⟨⟨⟨_,_,rfl⟩,?_,hk₀,Nat.le_refl _⟩,fun nn cl q=>(by rw[hc]at q;exact noS q),by rw[hc];exact .nil,fun nn cl q=>(by rw[hc]at q;cases q)⟩
   have:(fun y=>((([k].map nm).zip [x]).reverse).lookup y)=bindL (callEnvC fd s.heap.objs.size (g.fa 53)).kindOf (([k].map nm).zip [x]) fun _=>none:=by
    funext y
    simp only[List.map_cons,List.map_nil,List.zip_cons_cons,List.zip_nil_right,List.reverse_cons,List.reverse_nil,List.nil_append,List.lookup_cons,List.lookup_nil,bindL_one,hko,if_true]
    by_cases e:y=nm k
    ·subst e;simp
    ·have:(y==nm k)=false:=by simpa using e
     simp[this,e]
   rw[← this];exact ns
  have hsz:s.heap.objs.size<=h₀.objs.size:=by
   refine DP ?_<|id ns;intro o' es ep ho' _
   exact Nat.le_of_lt (Heap.lt_size ho')
  refine oA4 ?_<|PC (fd:=fd) (a:=g.fa 53) (ps:=[k]) (vs:=[v]) (xs:=[x]) (s:={s with toks:=s.toks+1 }) (s':={s with heap:=h₀,toks:=s.toks+1 }) c (Nat.le_refl _) hsz hcl hkd hgl hbl hnm D.nodup D.par D.psn (.cons V .nil) ic;intro envok p L low
  have hl':(A.deeper (callEnvC fd s.heap.objs.size (g.fa 53))).frames=some [callEnvC fd s.heap.objs.size (g.fa 53)]:=by
   show A.frames.map _=_
   rw[h2];rfl
  have c1:=c.next0 p
  have cx:Ctx g true n (A.deeper (callEnvC fd s.heap.objs.size (g.fa 53))) (callEnvC fd s.heap.objs.size (g.fa 53)) sc (puts [k] [v] []) [] [] {s with heap:=h₀,toks:=s.toks+1 }:=by
   refine⟨envok,⟨?_,?_⟩,⟨c1.hand,⟨_,hl',fun e he=>?_⟩,c1.rel,c1.toks⟩,L⟩
   ·show A.depth+1+3*n+3<=_;have:=hroom.1;lia
   ·show A.units+3+20*n+100<=_;have:=hroom.2;lia
   ·rcases List.mem_cons.mp he with rfl | he
    ·have:=L.out _ (.head _)
     exact⟨by rw[envok.kind];decide,_,rfl,this.1,this.2,.ns ic.toInCall.ns⟩
    ·cases he
  have tp:Top (A.deeper (callEnvC fd s.heap.objs.size (g.fa 53))) (callEnvC fd s.heap.objs.size (g.fa 53)):=⟨[],_,hl',rfl⟩
  exact hb hT hF cx tp h (fun b s'' d q=>hY b s'' ⟨d.base,⟨d.same.gens,d.same.drawn,d.same.os⟩⟩ q) fun _ _ _ _ _ _ q=>q.elim
end
theorem YG{g:G}{T h ρ}:∀ {vs:List Value} {ns:List Int},IntsAre vs ns->VRs g T h ρ (ns.map PV.int) vs
 | _,_,.nil=>.nil
 | _,_,.cons n t r=>.cons (.int n t) (YG r)
theorem YH:∀ {vs:List Value} {ns:List Int},IntsAre vs ns->vs.length=ns.length
 | _,_,.nil=>rfl
 | _,_,.cons _ _ r=>by simp[YH r]
theorem a9k{w:World}{s:Shared}{a:Addr}{vs:List Value}{ns:List Int}{R:Result->Shared->Prop}{n:Nat}(hn:n<=30)(hK:(HK w.params).In s.heap)(hOk:Ok (gOf w s.heap))(hX:ExcOk (gOf w s.heap))(hDf:Defs (gOf w s.heap))(hlen:ns.length<=63)
  (hI:IntsAre vs ns) (hL:s.heap.IsList a vs.toArray) (h:wpF (Tn n) (Fn n) (fun b=>b=true) (EN 53) (puts [59] [.flist (ns.map PV.int)] []) [] (fun _ _=>False))
  (hR:∀ s',(∀ b o,s.heap.get? b=some o->s'.heap.get? b=some o)->s'.gens=s.gens->s'.os=s.os->R (.ok (.ret (.bool true))) s'):codeAny (model PySem.Challenge.rw_nt0297_01.row.prog w) callerA (.call (.ref 621) ⟨[.ref a],[]⟩) R s:=by
 have hnc:∀ x∈(fdA (HK w.params) 621).scope.names,x.2≠.cell:=by
  rw[show(fdA (HK w.params) 621).scope.names=[(Str.ofString "script",NameKind.local),(Str.ofString "deck",NameKind.local),(Str.ofString "way",NameKind.local),(Str.ofString "_law_deck",NameKind.globalImplicit),(Str.ofString "_law_draw",NameKind.globalImplicit),(Str.ofString "_law_sections_right",NameKind.globalImplicit),
   (Str.ofString "_law_specs_right",NameKind.globalImplicit),(Str.ofString "RefSpec",NameKind.globalImplicit),(Str.ofString "_law_odd",NameKind.globalImplicit),(Str.ofString "BadConfig",NameKind.globalImplicit)] from by kernel_rfl]
  decide
 have hs:JF (gOf w s.heap) (fdA (HK w.params) 621).scope.names (HI (fdA (HK w.params) 621)) (EN 53):=a3y hOk hX 12 _ _ _ ck_53
 refine b8f (g:=gOf w s.heap) (k:=59) hOk rfl (a5g hK) hs (QS hOk hDf n) (b0a hOk hDf n) hnc h ⟨?_,?_⟩ rfl rfl (fun _ _ e=>e) hOk.lim (.flist hL ?_ (YG hI)) fun b s' d q=>?_
 ·show 301+3*(n+1)+1<=1000;lia
 ·show 4+20*(n+1)+90<=9900;lia
 ·rw[YH hI,sizeLine_eq];exact ar1
 ·subst q
  exact hR s' d.base d.same.gens d.same.os
set_option tactic.hygienic true in
theorem head(n:Nat)(hn:n<=30)(H:∀ ns:List Int,ns.length<=63->wpF (Tn n) (Fn n) (fun b=>b=true) (EN 53) (puts [59] [.flist (ns.map PV.int)] []) [] (fun _ _=>False)):PySem.Challenge.rw_nt0297_01.Holds:=by
 apply b9q
 intro w s₀ s₁ mg mb G Y fa o pm cd doc dV kV ho hd hcd hD hmg hg args vals as hpre hlay hrd hwl hlo
 have KX:=kIn_of Y
 clear Y
 refine Ground.open G ?_
 intro T B D TE TW
 clear D TE TW B hD
 have hK:(HK w.params).In s₁.heap:=KX
 have hOk:=b9r hK T.nolimit T.g T.b T.builtins
 have hX:=b9f hK T.g
 have hDf:=b8e hK hOk hX
 have hfa:fa=621:=by
  have e1:=hmg
  have e2:mg (Str.ofString "law")=some (.ref 621):=mg_of hK T.g (by kernel_rfl)
  cases (show some (Value.ref fa)=_ from e1.symm.trans e2)
  rfl
 subst hfa
 clear hmg ho hd hcd T KX
 wrow_args hpre hlay hrd hwl hlo
 rename_i ns _ _ _ _ _ _ _ a vs _ hL _ _ _ hI _ hlen _
 refine wpAny_call (a9k hn hK hOk hX hDf (by lia) hI hL (H ns (by lia)) fun s' h1 h2 h3=>?_)
 refine GoodW.toG (c:=PySem.Challenge.rw_nt0297_01.row.claim) ?_
 refine⟨.inl ⟨_,.bool true,[],rfl,?_,.bool true,?_,unshared_nil⟩,h1,h3,h2.trans hg⟩
 ·intro cls
  first | rfl | (show _=false;wrow_none_raised)
 ·first | rfl | wrow_post
end Mine
end
section
open PySem PySem.W PyProof.Rows
set_option maxRecDepth 100000
set_option linter.unusedVariables false
namespace Mine
set_option tactic.hygienic false
section
theorem s53(ns:List Int)(hl:ns.length<=63):wpF (Tn 13) (Fn 13) (fun b=>b=true) (EN 53) (puts [59] [.flist (ns.map PV.int)] []) [] (fun _ _=>False):=by
 show wpF (U true 13) (Fn 13) (fun b=>b=true) a9m [(59,.flist (ns.map PV.int))] [] (fun _ _=>False)
 refine RM (CP (BB (AB (AA rfl) AE) (b5o (n:=12) (by exact ar1) fun d σ₁ e₁ D₁=>?_)))
 show wpF _ _ _ _ [(59,.flist (ns.map PV.int)),(61,.ref d)] _ _
 have g61:get 61 [(59,.flist (ns.map PV.int)),(61,PV.ref d)]=some (.ref d):=rfl
 revert g61
 generalize ([(59,.flist (ns.map PV.int)),(61,PV.ref d)]:Loc)=Λ₁
 intro g61
 refine RM (GK (n:=12) (below:=5) D₁ (by lia) (by decide) rfl g61 fun w σ₂ hw e₂ D₂=>?_)
 have k61:get 61 (put 76 (PV.int (w:Nat)) Λ₁)=some (.ref d):=AL rfl g61
 have k76:get 76 (put 76 (PV.int (w:Nat)) Λ₁)=some (.int (w:Nat)):=AU
 revert k61 k76
 generalize put 76 (PV.int (w:Nat)) Λ₁=Λ₂
 intro k61 k76
 refine XI (AC (AF (op:=.lt) (AA k76) AH rfl) (CN (fun _=>?_) fun _=>OG ?_))
 ·show CX (U true 13) [.var 61] Λ₂ σ₂ (fun vs σ=>Fn 13 vs σ fun b=>b=true) (fun _=>False)
  exact BB (AB (AA k61) AE) ⟨rfl,s48 (n:=0) D₂ (by lia)⟩
 refine XI (AC (AF (op:=.lt) (AA k76) AH rfl) (CN (fun _=>?_) fun _=>OG ?_))
 ·exact a1y rfl (CP (BB (AB (AA k61) AE) (s52 (n:=8) D₂ (by lia) fun σ'=>rfl)))
 ·refine b0h (NX (BS (NI (n:=12) (L:=a8x) (fun σ Q X h=>b8p h) (by decide) (by decide) rfl D₂ (by lia) k61 fun v x σ₃ hx e₃ D₃=>BC ?_)))
  rw[NV]
  refine AD ?_<|odd_v.at hx;rintro y hy rfl
  have hno:=b5v y (List.mem_of_getElem? hy)
  refine XN (n:=11) (i:=σ₃.length) app_new (fun h=>?_) fun _=>⟨rfl,fun σ'=>?_⟩
  ·rw[hno]at h;exact noF h
  ·exact BA (AC CS rfl)
end
end Mine
end
theorem PySem.Challenge.cw_nt0297_01_holds : PySem.Challenge.rw_nt0297_01.Holds := by
 exact Mine.head 13 (by decide) fun ns h=>Mine.s53 ns h
