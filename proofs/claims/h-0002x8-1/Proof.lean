import JvmDerived
import JvmDerived.Pilot.@@N@@Statement
import JvmDerived.Pilot.@@N@@Code
set_option linter.unusedVariables false
set_option linter.unusedSimpArgs false
namespace Jvm.OM
open Sem ClassFile Op Lib Jvm.Stand Jvm.Free Jvm.LawKit Jvm.RoadKit
section Fix
variable {α ρ:Type}
abbrev Plan(α ρ:Type):=Option (ρ⊕(α⊕(α×(ρ->α))))
def run(P:α->Plan α ρ)(f:α->Option ρ)(c:α):Option ρ:=
 match P c with
 |none=>none
 |some (.inl r)=>some r
 |some (.inr (.inl c'))=>f c'
 |some (.inr (.inr q))=>(f q.1).bind fun r=>f (q.2 r)
def iter(P:α->Plan α ρ):Nat->α->Option ρ
 |0,_=>none
 |n+1,c=>run P (iter P n) c
theorem run_mono{P:α->Plan α ρ}{f g:α->Option ρ}(h:∀c r,f c=some r->g c=some r){c:α}{r:ρ}(e:run P f c=some r):run P g c=some r:=by
 unfold run at e ⊢
 split at e
 ·cases e
 ·exact e
 ·exact h _ _ e
 ·rename_i q _
  obtain⟨x,h1,h2⟩:=Option.bind_eq_some_iff.mp e
  exact Option.bind_eq_some_iff.mpr ⟨x,h _ _ h1,h _ _ h2⟩
theorem iter_succ{P:α->Plan α ρ}:∀ {n:Nat} {c:α} {r:ρ},iter P n c=some r->iter P (n+1) c=some r
 |0,_,_,e=>by cases e
 |n+1,c,r,e=>run_mono (f:=iter P n) (g:=iter P (n+1)) (fun _ _ h=>iter_succ h) e
theorem iter_le{P:α->Plan α ρ}{n k:Nat}{c:α}{r:ρ}(e:iter P n c=some r)(h:n<=k):iter P k c=some r:=by
 induction h with
 |refl=>exact e
 |step _ ih=>exact iter_succ ih
theorem exists_fix(P:α->Plan α ρ):∃f:α->Option ρ,(∀c,f c=run P f c)/\∀c r,f c=some r->∃n,iter P n c=some r:=by
 classical
 have key:∃f:α->Option ρ,∀c r,f c=some r↔∃n,iter P n c=some r:=by
  refine⟨fun c=>if h:∃r n,iter P n c=some r then some h.choose else none,fun c r=>?_⟩
  constructor
  ·intro e
   dsimp only at e
   split at e
   ·rename_i h
    cases e
    exact h.choose_spec
   ·cases e
  ·rintro ⟨n,e⟩
   have h:∃r n,iter P n c=some r:=⟨r,n,e⟩
   dsimp only
   rw[dif_pos h]
   obtain⟨k,e'⟩:=h.choose_spec
   have a:=iter_le e (Nat.le_max_left n k)
   have b:=iter_le e' (Nat.le_max_right n k)
   rw[a] at b
   exact b.symm
 obtain⟨f,hf⟩:=key
 refine⟨f,fun c=>?_,fun c r h=>(hf c r).mp h⟩
 have hle:∀n c r,iter P n c=some r->f c=some r:=fun n c r e=>(hf c r).mpr ⟨n,e⟩
 apply Option.ext
 intro r
 constructor
 ·intro e
  obtain⟨n,e⟩:=(hf c r).mp e
  cases n with
  |zero=>cases e
  |succ n=>exact run_mono (fun c r h=>hle n c r h) e
 ·intro e
  refine (hf c r).mpr ?_
  unfold run at e
  split at e
  ·cases e
  ·rename_i q hq
   exact⟨1,by simp only[iter,run,hq];exact e⟩
  ·rename_i c' hq
   obtain⟨n,h⟩:=(hf _ _).mp e
   exact⟨n+1,by simp only[iter,run,hq];exact h⟩
  ·rename_i q hq
   obtain⟨x,h1,h2⟩:=Option.bind_eq_some_iff.mp e
   obtain⟨n,h1⟩:=(hf _ _).mp h1
   obtain⟨k,h2⟩:=(hf _ _).mp h2
   exact⟨max n k+1,by
    simp only[iter,run,hq]
    rw[iter_le h1 (Nat.le_max_left n k)]
    exact iter_le h2 (Nat.le_max_right n k)⟩
end Fix
def setL:List Value->Nat->Value->List Value
 |[],0,v=>[v]
 |[],n+1,v => .null::setL [] n v
 |_::r,0,v=>v::r
 |x::r,n+1,v=>x::setL r n v
def nolong:Value->Value
 | .long _ => .null
 | .double _ => .null
 |v=>v
def clrL:List Value->Nat->List Value
 |[],_=>[]
 |x::r,0=>nolong x::r
 |x::r,n+1=>x::clrL r n
def st1(ls:List Value)(i:Nat)(v:Value):List Value:=match i with
 |0=>setL ls 0 v
 |j+1=>setL (clrL ls j) (j+1) v
def st2(ls:List Value)(i:Nat)(v:Value):List Value:=setL (st1 ls i v) (i+1) .null
def entL:List Value->List Value
 |[]=>[]
 | .long v::r => .long v :: .null::entL r
 |v::r=>v::entL r
def ii(g:Int32->Int32->Int32):List Value->Option (List Value)
 | .int y :: .int x::r=>some (.int (g x y)::r)
 |_=>none
def iz(g:Int32->Int32->Int32):List Value->Option (List Value)
 | .int y :: .int x::r=>if y=0 then none else some (.int (g x y)::r)
 |_=>none
def ll(g:Int64->Int64->Int64):List Value->Option (List Value)
 | .long y :: .long x::r=>some (.long (g x y)::r)
 |_=>none
def lz(g:Int64->Int64->Int64):List Value->Option (List Value)
 | .long y :: .long x::r=>if y=0 then none else some (.long (g x y)::r)
 |_=>none
def li(g:Int64->Int32->Int64):List Value->Option (List Value)
 | .int y :: .long x::r=>some (.long (g x y)::r)
 |_=>none
def i1(g:Int32->Value):List Value->Option (List Value)
 | .int x::r=>some (g x::r)
 |_=>none
def l1(g:Int64->Value):List Value->Option (List Value)
 | .long x::r=>some (g x::r)
 |_=>none
def lc(g:Int64->Int64->Int32):List Value->Option (List Value)
 | .long y :: .long x::r=>some (.int (g x y)::r)
 |_=>none
def pop1:List Value->Option (List Value)
 | .int _::r=>some r
 | .ref _::r=>some r
 |_=>none
def dup1:List Value->Option (List Value)
 | .int x::r=>some (.int x :: .int x::r)
 | .ref x::r=>some (.ref x :: .ref x::r)
 |_=>none
def dup2':List Value->Option (List Value)
 | .int y :: .int x::r=>some (.int y :: .int x :: .int y :: .int x::r)
 | .int y :: .ref x::r=>some (.int y :: .ref x :: .int y :: .ref x::r)
 | .long x::r=>some (.long x :: .long x::r)
 |_=>none
def alu(i:Instr)(st:List Value):Option (List Value):=match i with
 | .iconst i=>some (.int (Int32.ofInt i)::st)
 | .lconst k=>some (.long (Int64.ofNat k)::st)
 | .ldc2_w n=>some (.long (Int64.ofNat n)::st)
 | .iadd=>ii (fun x y=>x+y) st
 | .isub=>ii (fun x y=>x-y) st
 | .imul=>ii (fun x y=>x*y) st
 | .idiv=>iz (fun x y=>x/y) st
 | .irem=>iz (fun x y=>x%y) st
 | .ineg=>i1 (fun x => .int (-x)) st
 | .iand=>ii (fun x y=>x&&&y) st
 | .ior=>ii (fun x y=>x|||y) st
 | .ixor=>ii (fun x y=>x^^^y) st
 | .ishl=>ii (fun x y=>x<<<(y&&&31)) st
 | .ishr=>ii (fun x y=>x>>>(y&&&31)) st
 | .iushr=>ii (fun x y=>XT.ushr x y) st
 | .ladd=>ll (fun x y=>x+y) st
 | .lsub=>ll (fun x y=>x-y) st
 | .lmul=>ll (fun x y=>x*y) st
 | .land=>ll (fun x y=>x&&&y) st
 | .lor=>ll (fun x y=>x|||y) st
 | .lxor=>ll (fun x y=>x^^^y) st
 | .lshl=>li (fun x y=>x<<<(y.toInt64&&&63)) st
 | .lushr=>li (fun x y=>XT.ushrL x y) st
 | .lrem=>lz (fun x y=>x%y) st
 | .lcmp=>lc (fun x y=>XT.cmpL x y) st
 | .i2l=>i1 (fun x => .long x.toInt64) st
 | .l2i=>l1 (fun x => .int x.toInt32) st
 | .i2b=>i1 (fun x => .int x.toInt8.toInt32) st
 | .pop=>pop1 st
 | .dup=>dup1 st
 | .dup2=>dup2' st
 |_=>none
def ldI(ls:List Value)(k:Nat):Option Value:=match ls[k]? with
 |some (.int v)=>some (.int v)
 |_=>none
def ldA(ls:List Value)(k:Nat):Option Value:=match ls[k]? with
 |some (.ref v)=>some (.ref v)
 |_=>none
def ldL(ls:List Value)(k:Nat):Option Value:=match ls[k]? with
 |some (.long v)=>some (.long v)
 |_=>none
def incI(ls:List Value)(k:Nat)(c:Int):Option (List Value):=match ls[k]? with
 |some (.int v)=>some (st1 ls k (.int (v+Int32.ofInt c)))
 |_=>none
def stI'(ls:List Value)(k:Nat):List Value->Option (List Value×List Value)
 | .int v::st=>some (st1 ls k (.int v),st)
 |_=>none
def stA'(ls:List Value)(k:Nat):List Value->Option (List Value×List Value)
 | .ref v::st=>some (st1 ls k (.ref v),st)
 |_=>none
def stL'(ls:List Value)(k:Nat):List Value->Option (List Value×List Value)
 | .long v::st=>some (st2 ls k (.long v),st)
 |_=>none
def loc(i:Instr)(ls st:List Value):Option (List Value×List Value):=match i with
 | .iload k=>(ldI ls k).map fun v=>(ls,v::st)
 | .aload k=>(ldA ls k).map fun v=>(ls,v::st)
 | .lload k=>(ldL ls k).map fun v=>(ls,v::st)
 | .istore k=>stI' ls k st
 | .astore k=>stA' ls k st
 | .lstore k=>stL' ls k st
 | .iinc k c=>(incI ls k c).map fun l=>(l,st)
 |i=>(alu i st).map fun st'=>(ls,st')
def cnd{β:Type}(c:ClassFile.Cond)(x y:Int32)(a b:β):β:=match c with
 | .eq=>if x=y then a else b
 | .ne=>if x=y then b else a
 | .lt=>if x<y then a else b
 | .ge=>if x<y then b else a
 | .gt=>if y<x then a else b
 | .le=>if y<x then b else a
def swc{β:Type}(x:Int32):Int->List Int->(Nat->β)->β->β
 |_,[],_,d=>d
 |lo,t::ts,k,d=>if x=Int32.ofInt lo then k t.toNat else swc x (lo+1) ts k d
def tk(kp:Option Nat)(ls:List Value):List Value:=match kp with
 |none=>ls
 |some k=>ls.take k
def takeA:Nat->List Value->List Value->Option (List Value×List Value)
 |0,acc,st=>some (acc,st)
 |n+1,acc,v::st=>takeA n (v::acc) st
 |_+1,_,[]=>none
def cats(st:List Value):Nat:=(st.map fun v=>v.category).sum
section Machine
variable {τ:Type}
abbrev Cfg(τ:Type):=Nat×Nat×List Value×List Value×τ
abbrev Res(τ:Type):=Option Value×τ
abbrev Codes:=Nat->Nat->Option (Instr×Nat×Option Nat)
abbrev Mop(τ:Type):=Nat->Instr->List Value->τ->Option (List Value×τ)
abbrev Cop:=Nat->Instr->List Value->Option (Nat×List Value×List Value)
def retV(t:Option FieldType)(i:Instr)(st:List Value):Option (Option Value):=match i with
 | .return_=>(match t,st with
  |none,[]=>some none
  |_,_=>none)
 | .ireturn=>(match t,st with
  |some .int,[.int v]=>some (some (.int v))
  |some .boolean,[.int v]=>some (some (.int (v&&&1)))
  |_,_=>none)
 | .lreturn=>(match t,st with
  |some .long,[.long v]=>some (some (.long v))
  |_,_=>none)
 |_=>none
def rest(rt:Option FieldType)(mop:Mop τ)(cop:Cop)(m pn:Nat)(i:Instr)(ls st:List Value)(S:τ):Plan (Cfg τ) (Res τ):=
 match retV rt i st with
 |some v=>some (.inl (v,S))
 |none=>match loc i ls st with
  |some q=>some (.inr (.inl (m,pn,q.1,q.2,S)))
  |none=>match mop m i st S with
   |some q=>some (.inr (.inl (m,pn,ls,q.1,q.2)))
   |none=>match cop m i st with
    |some q=>some (.inr (.inr ((q.1,0,entL q.2.1,[],S),fun r=>(m,pn,ls,r.1.toList++q.2.2,r.2))))
    |none=>none
def pl1(m pn:Nat)(cd:ClassFile.Cond)(t:Nat)(ls:List Value)(S:τ):List Value->Plan (Cfg τ) (Res τ)
 | .int x::st=>some (.inr (.inl (cnd cd x 0 (m,t,ls,st,S) (m,pn,ls,st,S))))
 |_=>none
def pl2(m pn:Nat)(cd:ClassFile.Cond)(t:Nat)(ls:List Value)(S:τ):List Value->Plan (Cfg τ) (Res τ)
 | .int y :: .int x::st=>some (.inr (.inl (cnd cd x y (m,t,ls,st,S) (m,pn,ls,st,S))))
 |_=>none
def pl3(m d:Nat)(lo:Int)(ts:List Int)(ls:List Value)(S:τ):List Value->Plan (Cfg τ) (Res τ)
 | .int x::st=>some (.inr (.inl (swc x lo ts (fun t=>(m,t,ls,st,S)) (m,d,ls,st,S))))
 |_=>none
def plan(code:Codes)(rt:Nat->Option FieldType)(mop:Mop τ)(cop:Cop)(c:Cfg τ):Plan (Cfg τ) (Res τ):=
 match code c.1 c.2.1 with
 |none=>none
 |some q=>match q.1 with
  | .goto t=>some (.inr (.inl (c.1,t.toNat,tk q.2.2 c.2.2.1,c.2.2.2.1,c.2.2.2.2)))
  | .ifCond cd t=>pl1 c.1 q.2.1 cd t.toNat (tk q.2.2 c.2.2.1) c.2.2.2.2 c.2.2.2.1
  | .if_icmp cd t=>pl2 c.1 q.2.1 cd t.toNat (tk q.2.2 c.2.2.1) c.2.2.2.2 c.2.2.2.1
  | .tableswitch d lo _ ts=>pl3 c.1 d.toNat lo ts.toList (tk q.2.2 c.2.2.1) c.2.2.2.2 c.2.2.2.1
  |i=>rest (rt c.1) mop cop c.1 q.2.1 i (tk q.2.2 c.2.2.1) c.2.2.2.1 c.2.2.2.2
theorem cnd_map{β γ:Type}(g:β->γ)(c:ClassFile.Cond)(x y:Int32)(a b:β):g (cnd c x y a b)=cnd c x y (g a) (g b):=by
 cases c<;>simp only[cnd]<;>split<;>rfl
theorem swc_map{β γ:Type}(g:β->γ)(x:Int32)(k:Nat->β)(d:β):∀(ts:List Int) (lo:Int),g (swc x lo ts k d)=swc x lo ts (fun t=>g (k t)) (g d)
 |[],_=>rfl
 |t::ts,lo=>by
  simp only[swc]
  split
  ·rfl
  ·exact swc_map g x k d ts (lo+1)
end Machine
def lk{β:Type}(k:Nat):List (Nat×β)->Option β
 |[]=>none
 |q::r=>if q.1=k then some q.2 else lk k r
theorem lk_mem{β:Type}{k:Nat}{b:β}:∀ {l:List (Nat×β)},lk k l=some b->(k,b)∈l
 |[],h=>by cases h
 |q::r,h=>by
  simp only[lk] at h
  split at h
  ·rename_i e
   cases h
   subst e
   exact List.mem_cons_self ..
  ·exact List.mem_cons_of_mem _ (lk_mem h)
abbrev Tabs:=List (Nat×String×String×Nat)×List (Nat×Nat)×List (Nat×Nat)×List (Nat×Int32)×List (Nat×Int64)×List (Nat×Nat)×List (Nat×Nat)
def absT(pc:Nat)(o:Int):Option Int:=if 0<=(pc:Int)+o then some ((pc:Int)+o) else none
def lt(ml k:Nat)(i:Instr):Option Instr:=if k<ml then some i else none
def plain1:Instr->Bool
 | .lconst _ | .iadd | .isub | .imul | .idiv | .irem | .ineg | .iand | .ior | .ixor | .ishl | .ishr | .iushr | .ladd | .lsub | .lmul | .land | .lor | .lxor | .lshl | .lushr | .lrem | .lcmp | .i2l | .l2i | .i2b | .pop | .dup | .dup2=>true
 |_=>false
def heapy:Instr->Bool
 | .iaload | .iastore | .baload | .bastore | .arraylength | .ireturn | .lreturn | .return_=>true
 |_=>false
def canon(T:Tabs)(ml pc:Nat)(i:Instr):Option Instr:=match i with
 | .iload_n k=>some (.iload k.val)
 | .iload k=>some (.iload k)
 | .aload_n k=>some (.aload k.val)
 | .aload k=>some (.aload k)
 | .lload_n k=>some (.lload k.val)
 | .lload k=>some (.lload k)
 | .istore_n k=>lt ml k.val (.istore k.val)
 | .istore k=>lt ml k (.istore k)
 | .astore_n k=>lt ml k.val (.astore k.val)
 | .astore k=>lt ml k (.astore k)
 | .lstore_n k=>lt ml (k.val+1) (.lstore k.val)
 | .lstore k=>lt ml (k+1) (.lstore k)
 | .iinc k c=>lt ml k (.iinc k c)
 | .iconst i=>some (.iconst i)
 | .bipush i=>some (.iconst (Int8.ofInt i).toInt32.toInt)
 | .sipush i=>some (.iconst (Int16.ofInt i).toInt32.toInt)
 | .ldc k=>(lk k T.2.2.2.1).map fun v => .iconst v.toInt
 | .ldc2_w k=>(lk k T.2.2.2.2.1).map fun v => .ldc2_w v.toUInt64.toNat
 | .goto o=>(absT pc o).map fun t => .goto t
 | .ifCond cd o=>(absT pc o).map fun t => .ifCond cd t
 | .if_icmp cd o=>(absT pc o).map fun t => .if_icmp cd t
 | .tableswitch d lo hi offs=>if (0<=(pc:Int)+d)/\(offs.all fun o=>decide (0<=(pc:Int)+o))=true/\(offs.size:Int)=hi-lo+1 /\ -2147483648<=lo/\hi<2147483648 then some (.tableswitch (pc+d) lo hi (offs.map fun o=>(pc:Int)+o)) else none
 | .getfield k=>(lk k T.1).map fun q => .getfield q.2.2
 | .putfield k=>(lk k T.1).map fun q => .putfield q.2.2
 | .invokevirtual k=>(lk k T.2.1).map fun q => .invokevirtual q
 | .invokestatic k=>(lk k T.2.2.1).map fun q => .invokestatic q
 | .new k=>(lk k T.2.2.2.2.2.1).map fun q => .new q
 | .invokespecial k=>(lk k T.2.2.2.2.2.2).map fun q => .invokespecial q
 |i=>if plain1 i||heapy i then some i else none
def cv(ρ:Nat->Nat):Value->Value
 | .ref r => .ref (ρ r)
 |v=>v
def LocRel(ρ:Nat->Nat)(ls:List Value)(L:Array Slot):Prop:=∀(i:Nat) (v:Value),ls[i]? = some v->v ≠ .null->L[i]? = some (.val (cv ρ v))
def WFL(L:Array Slot):Prop:=(∀i:Nat,L[i]? = some .second->∃(j:Nat) (v:Value),i=j+1/\L[j]? = some (.val v)/\v.category=2)/\∀(i:Nat) (v:Value),L[i]? = some (.val v)->v.category=2->L[i+1]? = some .second
theorem setL_get(v:Value):∀(ls:List Value) (k i:Nat) (w:Value),(setL ls k v)[i]? = some w->(i=k/\w=v)\/(i≠k/\(w = .null\/ls[i]? = some w))
 |[],0,i,w,h=>by
  cases i with
  |zero=>simp[setL] at h;exact Or.inl ⟨rfl,h.symm⟩
  |succ i=>simp[setL] at h
 |[],k+1,i,w,h=>by
  cases i with
  |zero=>simp[setL] at h;exact Or.inr ⟨by omega,Or.inl h.symm⟩
  |succ i=>
   simp[setL] at h
   rcases setL_get v [] k i w h with⟨a,b⟩ | ⟨a,b⟩
   ·exact Or.inl ⟨by omega,b⟩
   ·exact Or.inr ⟨by omega,b.imp id (fun q=>by simp at q)⟩
 |x::r,0,i,w,h=>by
  cases i with
  |zero=>simp[setL] at h;exact Or.inl ⟨rfl,h.symm⟩
  |succ i=>simp[setL] at h;exact Or.inr ⟨by omega,Or.inr (by simpa using h)⟩
 |x::r,k+1,i,w,h=>by
  cases i with
  |zero=>simp[setL] at h;exact Or.inr ⟨by omega,Or.inr (by simpa using h)⟩
  |succ i=>
   simp[setL] at h
   rcases setL_get v r k i w h with⟨a,b⟩ | ⟨a,b⟩
   ·exact Or.inl ⟨by omega,b⟩
   ·exact Or.inr ⟨by omega,b.imp id (fun q=>by simpa using q)⟩
theorem clrL_get:∀(ls:List Value) (k i:Nat) (w:Value),(clrL ls k)[i]? = some w->w ≠ .null->ls[i]? = some w/\(i=k->w.category=1)
 |[],k,i,w,h,_=>by simp[clrL] at h
 |x::r,0,i,w,h,hn=>by
  cases i with
  |zero=>
   simp[clrL] at h
   cases x<;>simp[nolong] at h<;>subst h<;>first | exact absurd rfl hn | exact⟨rfl,fun _=>rfl⟩
  |succ i=>simp[clrL] at h;exact⟨by simpa using h,fun q=>by omega⟩
 |x::r,k+1,i,w,h,hn=>by
  cases i with
  |zero=>simp[clrL] at h;exact⟨by simpa using h,fun q=>by omega⟩
  |succ i=>
   simp[clrL] at h
   obtain⟨a,b⟩:=clrL_get r k i w h hn
   exact⟨by simpa using a,fun q=>b (by omega)⟩
theorem setAt_in{L:Array Slot}{i:Nat}(h:i<L.size)(x:Slot):setAt L i x=some (L.setIfInBounds i x):=by simp[setAt,h]
theorem get_set_ne{L:Array Slot}{i j:Nat}(h:i≠j)(x:Slot):(L.setIfInBounds i x)[j]? = L[j]? := Array.getElem?_setIfInBounds_ne h
theorem get_set_eq{L:Array Slot}{i:Nat}(h:i<L.size)(x:Slot):(L.setIfInBounds i x)[i]? = some x:=by simp[h]
theorem free_rel {ρ : Nat -> Nat} {ls : List Value} {L : Array Slot} {k : Nat} (R : LocRel ρ ls L) (W : WFL L) (hk : k < L.size) :
    ∃ L1 : Array Slot, L1.size = L.size /\ (∀ w, storeLocals L k w = storeSelf L1 k w) /\ WFL (L1.setIfInBounds k .unset) /\ (∀ i, i ≠ k -> L1[i]? = L[i]? \/ L1[i]? = some .unset) /\
      ∀ (i : Nat) (v : Value), i ≠ k -> ls[i]? = some v -> v ≠ .null -> (i + 1 = k -> v.category = 1) -> L1[i]? = some (.val (cv ρ v)) := by
  have cvc : ∀ v : Value, (cv ρ v).category = v.category := fun v => by cases v <;> rfl
  obtain ⟨x, hx⟩ : ∃ x, L[k]? = some x := ⟨L[k], by simp [hk]⟩
  cases x with
  | unset =>
    refine ⟨L, rfl, fun w => by simp [storeLocals, hx], ⟨fun i h => ?_, fun i v h hc => ?_⟩, fun i _ => Or.inl rfl, fun i v hi h hn _ => R i v h hn⟩
    · by_cases e : k = i
      · subst e; rw [get_set_eq hk] at h; cases h
      · rw [get_set_ne e] at h
        obtain ⟨j, v, e1, e2, e3⟩ := W.1 i h
        refine ⟨j, v, e1, ?_, e3⟩
        by_cases q : k = j
        · subst q; rw [hx] at e2; cases e2
        · rw [get_set_ne q]; exact e2
    · by_cases e : k = i
      · subst e; rw [get_set_eq hk] at h; cases h
      · rw [get_set_ne e] at h
        have := W.2 i v h hc
        by_cases q : k = i + 1
        · subst q; rw [hx] at this; cases this
        · rw [get_set_ne q]; exact this
  | second =>
    obtain ⟨j, v0, rfl, e2, e3⟩ := W.1 k hx
    have hj : j < L.size := by omega
    refine ⟨L.setIfInBounds j .unset, by simp, fun w => by simp [storeLocals, hx, setAt_in hj], ⟨fun i h => ?_, fun i v h hc => ?_⟩, fun i _ => ?_, fun i v hi h hn hc => ?_⟩
    · by_cases e : j + 1 = i
      · subst e; rw [get_set_eq (by simpa using hk)] at h; cases h
      · rw [get_set_ne e] at h
        by_cases q : j = i
        · subst q; rw [get_set_eq hj] at h; cases h
        · rw [get_set_ne q] at h
          obtain ⟨j', v, f1, f2, f3⟩ := W.1 i h
          refine ⟨j', v, f1, ?_, f3⟩
          have g1 : j + 1 ≠ j' := fun q' => by subst q'; rw [hx] at f2; cases f2
          have g2 : j ≠ j' := fun q' => by subst q'; exact e f1.symm
          rw [get_set_ne g1, get_set_ne g2]; exact f2
    · by_cases e : j + 1 = i
      · subst e; rw [get_set_eq (by simpa using hk)] at h; cases h
      · rw [get_set_ne e] at h
        by_cases q : j = i
        · subst q; rw [get_set_eq hj] at h; cases h
        · rw [get_set_ne q] at h
          have t := W.2 i v h hc
          have g1 : j + 1 ≠ i + 1 := by omega
          have g2 : j ≠ i + 1 := fun q' => by subst q'; rw [e2] at t; cases t
          rw [get_set_ne g1, get_set_ne g2]; exact t
    · by_cases q : j = i
      · subst q; exact Or.inr (get_set_eq hj _)
      · exact Or.inl (get_set_ne q _)
    · by_cases q : j = i
      · subst q
        have := R j v h hn
        rw [e2] at this
        have e4 : v0 = cv ρ v := by simpa using this
        rw [e4, cvc, hc rfl] at e3; cases e3
      · rw [get_set_ne q]; exact R i v h hn
  | val old =>
    by_cases hc2 : old.category = 2
    · have hs := W.2 k old hx hc2
      have hk1 : k + 1 < L.size := (Array.getElem?_eq_some_iff.mp hs).1
      refine ⟨L.setIfInBounds (k + 1) .unset, by simp, fun w => by simp [storeLocals, hx, setAt_in hk1, hc2], ⟨fun i h => ?_, fun i v h hc => ?_⟩, fun i _ => ?_, fun i v hi h hn hc => ?_⟩
      · by_cases e : k = i
        · subst e; rw [get_set_eq (by simpa using hk)] at h; cases h
        · rw [get_set_ne e] at h
          by_cases q : k + 1 = i
          · subst q; rw [get_set_eq hk1] at h; cases h
          · rw [get_set_ne q] at h
            obtain ⟨j', v, f1, f2, f3⟩ := W.1 i h
            refine ⟨j', v, f1, ?_, f3⟩
            have g1 : k ≠ j' := fun q' => by subst q'; exact q f1.symm
            have g2 : k + 1 ≠ j' := fun q' => by subst q'; rw [hs] at f2; cases f2
            rw [get_set_ne g1, get_set_ne g2]; exact f2
      · by_cases e : k = i
        · subst e; rw [get_set_eq (by simpa using hk)] at h; cases h
        · rw [get_set_ne e] at h
          by_cases q : k + 1 = i
          · subst q; rw [get_set_eq hk1] at h; cases h
          · rw [get_set_ne q] at h
            have t := W.2 i v h hc
            have g1 : k ≠ i + 1 := fun q' => by subst q'; rw [hx] at t; cases t
            have g2 : k + 1 ≠ i + 1 := by omega
            rw [get_set_ne g1, get_set_ne g2]; exact t
      · by_cases q : k + 1 = i
        · subst q; exact Or.inr (get_set_eq hk1 _)
        · exact Or.inl (get_set_ne q _)
      · by_cases q : k + 1 = i
        · subst q
          have := R _ v h hn
          rw [hs] at this; cases this
        · rw [get_set_ne q]; exact R i v h hn
    · refine ⟨L, rfl, fun w => by simp [storeLocals, hx, hc2], ⟨fun i h => ?_, fun i v h hc => ?_⟩, fun i _ => Or.inl rfl, fun i v hi h hn _ => R i v h hn⟩
      · by_cases e : k = i
        · subst e; rw [get_set_eq hk] at h; cases h
        · rw [get_set_ne e] at h
          obtain ⟨j, v, e1, e2, e3⟩ := W.1 i h
          refine ⟨j, v, e1, ?_, e3⟩
          by_cases q : k = j
          · subst q; rw [hx] at e2; cases e2; exact absurd e3 hc2
          · rw [get_set_ne q]; exact e2
      · by_cases e : k = i
        · subst e; rw [get_set_eq hk] at h; cases h
        · rw [get_set_ne e] at h
          have := W.2 i v h hc
          by_cases q : k = i + 1
          · subst q; rw [hx] at this; cases this
          · rw [get_set_ne q]; exact this
theorem st1_get{ls:List Value}{k i:Nat}{v w:Value}(h:(st1 ls k v)[i]? = some w)(hn:w ≠ .null):(i=k/\w=v)\/(i≠k/\ls[i]? = some w/\(i+1=k->w.category=1)):=by
 cases k with
 |zero=>
  rcases setL_get v ls 0 i w h with q | ⟨q1,q2 | q2⟩
  ·exact Or.inl q
  ·exact absurd q2 hn
  ·exact Or.inr ⟨q1,q2,fun q=>by omega⟩
 |succ k=>
  rcases setL_get v (clrL ls k) (k+1) i w h with q | ⟨q1,q2 | q2⟩
  ·exact Or.inl q
  ·exact absurd q2 hn
  ·obtain⟨a,b⟩:=clrL_get ls k i w q2 hn
   exact Or.inr ⟨q1,a,fun q=>b (by omega)⟩
theorem store1{ρ:Nat->Nat}{ls:List Value}{L:Array Slot}{k:Nat}{v:Value}(R:LocRel ρ ls L)(W:WFL L)(hk:k<L.size)(hv:v.category=1) :
  ∃L',storeLocals L k (cv ρ v)=some L'/\LocRel ρ (st1 ls k v) L'/\WFL L'/\L'.size=L.size:=by
 have cvc:(cv ρ v).category=1:=by cases v<;>first | rfl | exact hv
 obtain⟨L1,z,hs,wf,hu,hl⟩:=free_rel R W hk
 have hk1:k<L1.size:=by omega
 refine⟨L1.setIfInBounds k (.val (cv ρ v)),by rw[hs];simp[storeSelf,setAt_in hk1,cvc],fun i w h hn=>?_,⟨fun i h=>?_,fun i w h hc=>?_⟩,by simp[z]⟩
 ·rcases st1_get h hn with⟨rfl,rfl⟩ | ⟨a,b,c⟩
  ·exact get_set_eq hk1 _
  ·rw[get_set_ne (Ne.symm a)];exact hl i w a b hn c
 ·by_cases e:k=i
  ·subst e;rw[get_set_eq hk1] at h;cases h
  ·rw[get_set_ne e] at h
   obtain⟨j,w,e1,e2,e3⟩:=wf.1 i (by rw[get_set_ne e];exact h)
   refine⟨j,w,e1,?_,e3⟩
   by_cases q:k=j
   ·subst q;rw[get_set_eq hk1] at e2;cases e2
   ·rw[get_set_ne q] at e2 ⊢;exact e2
 ·by_cases e:k=i
  ·subst e
   rw[get_set_eq hk1] at h
   have:cv ρ v=w:=by simpa using h
   rw[<-this,cvc] at hc;cases hc
  ·rw[get_set_ne e] at h
   have t:=wf.2 i w (by rw[get_set_ne e];exact h) hc
   by_cases q:k=i+1
   ·rw[q,get_set_eq (by omega)] at t;cases t
   ·rw[get_set_ne q] at t ⊢;exact t
theorem store2{ρ:Nat->Nat}{ls:List Value}{L:Array Slot}{k:Nat}{x:Int64}(R:LocRel ρ ls L)(W:WFL L)(hk:k+1<L.size) :
  ∃L',storeLocals L k (.long x)=some L'/\LocRel ρ (st2 ls k (.long x)) L'/\WFL L'/\L'.size=L.size:=by
 obtain⟨L1,z,hs,wf,hu,hl⟩:=free_rel R W (by omega:k<L.size)
 have hk0:k<L1.size:=by omega
 have hk1:k+1<L1.size:=by omega
 have hk1':k+1<(L1.setIfInBounds k (.val (.long x))).size:=by simpa using hk1
 have e1:(L1.setIfInBounds k (.val (.long x)))[k+1]? = L1[k+1]? := get_set_ne (by omega) _
 have ns:L1[k+1]? ≠ some .second:=fun q=>by
  obtain⟨j,w,f1,f2,f3⟩:=wf.1 (k+1) (by rw[get_set_ne (by omega)];exact q)
  have:j=k:=by omega
  subst this
  rw[get_set_eq hk0] at f2;cases f2
 have key:∃L2:Array Slot,storeSelf L1 k (.long x)=some (L2.setIfInBounds (k+1) .second)/\L2.size=L.size/\L2[k]? = some (.val (.long x))/\(∀i,i≠k->i≠k+1->i≠k+2->L2[i]? = L1[i]?) /\
   ((L2[k+2]? = L1[k+2]? /\ ∀w,L1[k+1]? = some (.val w)->w.category≠2)\/(L2[k+2]? = some .unset/\L1[k+2]? = some .second)):=by
  obtain⟨y,hy⟩:∃y,L1[k+1]? = some y:=⟨L1[k+1],by simp[hk1]⟩
  cases y with
  |second=>exact absurd hy ns
  |unset=>
   refine⟨L1.setIfInBounds k (.val (.long x)),by simp[storeSelf,setAt_in hk0,Value.category,e1,hy,setAt_in hk1'],by simp[z],get_set_eq hk0 _,fun i a b c=>get_set_ne (Ne.symm a) _,Or.inl ⟨get_set_ne (by omega) _,fun w q=>by rw[hy] at q;cases q⟩⟩
  |val old=>
   by_cases hc:old.category=2
   ·have t:=wf.2 (k+1) old (by rw[get_set_ne (by omega)];exact hy) hc
    rw[get_set_ne (by omega)] at t
    have hk2:k+2<L1.size:=(Array.getElem?_eq_some_iff.mp t).1
    refine⟨(L1.setIfInBounds k (.val (.long x))).setIfInBounds (k+2) .unset,?_,by simp[z],by rw[get_set_ne (by omega)];exact get_set_eq hk0 _,fun i a b c=>by rw[get_set_ne (Ne.symm c),get_set_ne (Ne.symm a)],Or.inr ⟨get_set_eq (by simpa using hk2) _,t⟩⟩
    simp[storeSelf,setAt,hk0,show (Value.long x).category=2 from rfl,e1,hc,hk1,hk2]
    rw[(Array.getElem?_eq_some_iff.mp hy).2]
    simp[hc]
   ·refine⟨L1.setIfInBounds k (.val (.long x)),?_,by simp[z],get_set_eq hk0 _,fun i a b c=>get_set_ne (Ne.symm a) _,Or.inl ⟨get_set_ne (by omega) _,fun w q=>by rw[hy] at q;cases q;exact hc⟩⟩
    simp[storeSelf,setAt,hk0,show (Value.long x).category=2 from rfl,e1,hc,hk1]
    rw[(Array.getElem?_eq_some_iff.mp hy).2]
    simp[hc]
 obtain⟨L2,s2,z2,g0,gi,g2⟩:=key
 have hk2:k+1<L2.size:=by omega
 refine⟨L2.setIfInBounds (k+1) .second,by rw[hs];exact s2,fun i w h hn=>?_,⟨fun i h=>?_,fun i w h hc=>?_⟩,by simp[z2]⟩
 ·rcases setL_get .null _ _ _ _ h with⟨a,b⟩ | ⟨a,b | b⟩
  ·exact absurd b hn
  ·exact absurd b hn
  ·rw[get_set_ne (Ne.symm a)]
   rcases st1_get b hn with⟨rfl,rfl⟩ | ⟨a',b',c'⟩
   ·exact g0
   ·have t:=hl i w a' b' hn c'
    by_cases q:i=k+2
    ·subst q
     rcases g2 with⟨q1,-⟩ | ⟨-,q2⟩
     ·rw[q1];exact t
     ·rw[q2] at t;cases t
    ·rw[gi i a' a q];exact t
 ·by_cases e:k+1=i
  ·subst e;exact⟨k,.long x,rfl,by rw[get_set_ne (by omega)];exact g0,rfl⟩
  ·rw[get_set_ne e] at h
   by_cases e0:i=k
   ·subst e0;rw[g0] at h;cases h
   ·have h':L1[i]? = some .second/\∀w,i=k+2->L1[k+1]? = some (.val w)->w.category≠2:=by
     by_cases q:i=k+2
     ·subst q
      rcases g2 with⟨q1,q3⟩ | ⟨q2,-⟩
      ·rw[q1] at h;exact⟨h,fun w _=>q3 w⟩
      ·rw[q2] at h;cases h
     ·rw[gi i e0 (Ne.symm e) q] at h;exact⟨h,fun w q'=>absurd q' q⟩
    obtain⟨j,w,f1,f2,f3⟩:=wf.1 i (by rw[get_set_ne (Ne.symm e0)];exact h'.1)
    have jk:j≠k:=by omega
    rw[get_set_ne (Ne.symm jk)] at f2
    have jk1:j≠k+1:=fun q=>by subst q;exact h'.2 w f1 f2 f3
    refine⟨j,w,f1,?_,f3⟩
    rw[get_set_ne (Ne.symm jk1)]
    by_cases q:j=k+2
    ·subst q
     rcases g2 with⟨q1,-⟩ | ⟨-,q2⟩
     ·rw[q1];exact f2
     ·rw[q2] at f2;cases f2
    ·rw[gi j jk jk1 q];exact f2
 ·by_cases e:k+1=i
  ·subst e;rw[get_set_eq hk2] at h;cases h
  ·rw[get_set_ne e] at h
   by_cases e0:i=k
   ·subst e0;exact get_set_eq hk2 _
   ·have h':L1[i]? = some (.val w):=by
     by_cases q:i=k+2
     ·subst q
      rcases g2 with⟨q1,-⟩ | ⟨q2,-⟩
      ·rw[q1] at h;exact h
      ·rw[q2] at h;cases h
     ·rw[gi i e0 (Ne.symm e) q] at h;exact h
    have t:=wf.2 i w (by rw[get_set_ne (Ne.symm e0)];exact h') hc
    have n1:i+1≠k:=fun q=>by rw[q,get_set_eq hk0] at t;cases t
    rw[get_set_ne (Ne.symm n1)] at t
    have n2:i+1≠k+1:=by omega
    rw[get_set_ne (Ne.symm n2)]
    by_cases q:i+1=k+2
    ·have:i=k+1:=by omega
     exact absurd this.symm e
    ·rw[gi (i+1) n1 n2 q];exact t
theorem ii_inv{g:Int32->Int32->Int32}{st st':List Value}(h:ii g st=some st'):∃x y r,st = .int y :: .int x::r/\st' = .int (g x y)::r:=by
 unfold ii at h;split at h
 ·cases h;exact⟨_,_,_,rfl,rfl⟩
 ·cases h
theorem iz_inv{g:Int32->Int32->Int32}{st st':List Value}(h:iz g st=some st'):∃x y r,y≠0/\st = .int y :: .int x::r/\st' = .int (g x y)::r:=by
 unfold iz at h;split at h
 ·split at h
  ·cases h
  ·rename_i q;cases h;exact⟨_,_,_,q,rfl,rfl⟩
 ·cases h
theorem ll_inv{g:Int64->Int64->Int64}{st st':List Value}(h:ll g st=some st'):∃x y r,st = .long y :: .long x::r/\st' = .long (g x y)::r:=by
 unfold ll at h;split at h
 ·cases h;exact⟨_,_,_,rfl,rfl⟩
 ·cases h
theorem lz_inv{g:Int64->Int64->Int64}{st st':List Value}(h:lz g st=some st'):∃x y r,y≠0/\st = .long y :: .long x::r/\st' = .long (g x y)::r:=by
 unfold lz at h;split at h
 ·split at h
  ·cases h
  ·rename_i q;cases h;exact⟨_,_,_,q,rfl,rfl⟩
 ·cases h
theorem li_inv{g:Int64->Int32->Int64}{st st':List Value}(h:li g st=some st'):∃x y r,st = .int y :: .long x::r/\st' = .long (g x y)::r:=by
 unfold li at h;split at h
 ·cases h;exact⟨_,_,_,rfl,rfl⟩
 ·cases h
theorem lc_inv{g:Int64->Int64->Int32}{st st':List Value}(h:lc g st=some st'):∃x y r,st = .long y :: .long x::r/\st' = .int (g x y)::r:=by
 unfold lc at h;split at h
 ·cases h;exact⟨_,_,_,rfl,rfl⟩
 ·cases h
theorem i1_inv{g:Int32->Value}{st st':List Value}(h:i1 g st=some st'):∃x r,st = .int x::r/\st'=g x::r:=by
 unfold i1 at h;split at h
 ·cases h;exact⟨_,_,rfl,rfl⟩
 ·cases h
theorem l1_inv{g:Int64->Value}{st st':List Value}(h:l1 g st=some st'):∃x r,st = .long x::r/\st'=g x::r:=by
 unfold l1 at h;split at h
 ·cases h;exact⟨_,_,rfl,rfl⟩
 ·cases h
section Sim
variable {p:Program} {l:Launch} {e:Env} {R:Room} {s:State} {m:MethodId} {args:Array Value} {below:List Frame} {meth:Method} {c:Code} {T:State} {locs:List Loc} {cells slots:Nat} {ρ:Nat->Nat}
set_option maxHeartbeats 4000000 in
theorem simAlu(X:Stand p l e R s m args below meth c T locs cells slots)(hx:p.tables.exec=Jvm.exec){pc:Nat}{i0:Instr}(hd:decode c.code pc = .ok (i0,1))(hp:plain1 i0=true){st st':List Value}(ha:alu i0 st=some st'){L:Array Slot}{target:State}
  (k:Steps p.tables e below (T.setTop (mkF m (pc+1) L (st'.map (cv ρ)))) target):Steps p.tables e below (T.setTop (mkF m pc L (st.map (cv ρ)))) target:=by
 cases i0<;>try (simp[plain1] at hp;done)
 case lconst j=>cases ha;exact XT.lconst X.here hx rfl hd k
 case iadd=>obtain⟨x,y,r,rfl,rfl⟩:=ii_inv ha;exact XS.iadd X.here hx rfl hd rfl k
 case isub=>obtain⟨x,y,r,rfl,rfl⟩:=ii_inv ha;exact XS.isub X.here hx rfl hd rfl k
 case imul=>obtain⟨x,y,r,rfl,rfl⟩:=ii_inv ha;exact XS.imul X.here hx rfl hd rfl k
 case idiv=>obtain⟨x,y,r,hy,rfl,rfl⟩:=iz_inv ha;exact XS.idiv X.here hx rfl hd rfl hy k
 case irem=>obtain⟨x,y,r,hy,rfl,rfl⟩:=iz_inv ha;exact iremM X hx rfl hd rfl hy k
 case ineg=>obtain⟨x,r,rfl,rfl⟩:=i1_inv ha;exact XS.ineg X.here hx rfl hd rfl k
 case iand=>obtain⟨x,y,r,rfl,rfl⟩:=ii_inv ha;exact XS.iand X.here hx rfl hd rfl k
 case ior=>obtain⟨x,y,r,rfl,rfl⟩:=ii_inv ha;exact XT.ior X.here hx rfl hd rfl k
 case ixor=>obtain⟨x,y,r,rfl,rfl⟩:=ii_inv ha;exact XT.ixor X.here hx rfl hd rfl k
 case ishl=>obtain⟨x,y,r,rfl,rfl⟩:=ii_inv ha;exact XT.ishl X.here hx rfl hd rfl k
 case ishr=>obtain⟨x,y,r,rfl,rfl⟩:=ii_inv ha;exact XT.ishr X.here hx rfl hd rfl k
 case iushr=>obtain⟨x,y,r,rfl,rfl⟩:=ii_inv ha;exact XT.iushr X.here hx rfl hd rfl k
 case ladd=>obtain⟨x,y,r,rfl,rfl⟩:=ll_inv ha;exact XT.ladd X.here hx rfl hd rfl k
 case lsub=>obtain⟨x,y,r,rfl,rfl⟩:=ll_inv ha;exact XT.lsub X.here hx rfl hd rfl k
 case lmul=>obtain⟨x,y,r,rfl,rfl⟩:=ll_inv ha;exact XT.lmul X.here hx rfl hd rfl k
 case land=>obtain⟨x,y,r,rfl,rfl⟩:=ll_inv ha;exact XT.land X.here hx rfl hd rfl k
 case lor=>obtain⟨x,y,r,rfl,rfl⟩:=ll_inv ha;exact XT.lor X.here hx rfl hd rfl k
 case lxor=>obtain⟨x,y,r,rfl,rfl⟩:=ll_inv ha;exact XT.lxor X.here hx rfl hd rfl k
 case lshl=>obtain⟨x,y,r,rfl,rfl⟩:=li_inv ha;exact XT.lshl X.here hx rfl hd rfl k
 case lushr=>obtain⟨x,y,r,rfl,rfl⟩:=li_inv ha;exact XT.lushr X.here hx rfl hd rfl k
 case lrem=>
  obtain⟨x,y,r,hy,rfl,rfl⟩:=lz_inv ha
  have k':Steps p.tables e below (T.setTop (mkF m (pc+1) L (.long (x-x/y*y)::r.map (cv ρ)))) target:=by rw[lrem_mod];exact k
  exact XT.lrem X.here hx rfl hd rfl hy k'
 case lcmp=>obtain⟨x,y,r,rfl,rfl⟩:=lc_inv ha;exact XT.lcmp X.here hx rfl hd rfl k
 case i2l=>obtain⟨x,r,rfl,rfl⟩:=i1_inv ha;exact XT.i2l X.here hx rfl hd rfl k
 case l2i=>obtain⟨x,r,rfl,rfl⟩:=l1_inv ha;exact XT.l2i X.here hx rfl hd rfl k
 case i2b=>obtain⟨x,r,rfl,rfl⟩:=i1_inv ha;exact XT.i2b X.here hx rfl hd rfl k
 case pop=>
  simp only[alu,pop1] at ha
  split at ha
  ·cases ha;exact XT.pop X.here hx rfl hd rfl rfl k
  ·cases ha;exact XT.pop X.here hx rfl hd rfl rfl k
  ·cases ha
 case dup=>
  simp only[alu,dup1] at ha
  split at ha
  ·cases ha;exact XS.dup X.here hx rfl hd rfl rfl k
  ·cases ha;exact XS.dup X.here hx rfl hd rfl rfl k
  ·cases ha
 case dup2=>
  simp only[alu,dup2'] at ha
  split at ha
  ·cases ha;exact XT.dup2 X.here hx rfl hd rfl rfl rfl k
  ·cases ha;exact XT.dup2 X.here hx rfl hd rfl rfl rfl k
  ·cases ha;exact XT.dup2L X.here hx rfl hd rfl k
  ·cases ha
def ilen:Instr->Nat
 | .iload _ | .aload _ | .lload _ | .istore _ | .astore _ | .lstore _ | .bipush _ | .ldc _=>2
 | .iinc _ _ | .sipush _ | .ldc2_w _ | .goto _ | .ifCond _ _ | .if_icmp _ _ | .getfield _ | .putfield _ | .invokevirtual _ | .invokestatic _ | .invokespecial _ | .new _=>3
 |_=>1
def lenOK(i:Instr)(len:Nat):Bool:=match i with
 | .tableswitch _ _ _ _=>true
 |i=>len==ilen i
theorem lt_inv{ml k:Nat}{i j:Instr}(h:lt ml k i=some j):k<ml/\i=j:=by
 unfold lt at h;split at h
 ·cases h;exact⟨by assumption,rfl⟩
 ·cases h
theorem ldI_inv{ls:List Value}{k:Nat}{v:Value}(h:ldI ls k=some v):∃x,v = .int x/\ls[k]? = some (.int x):=by
 unfold ldI at h;split at h
 ·cases h;exact⟨_,rfl,by assumption⟩
 ·cases h
theorem ldA_inv{ls:List Value}{k:Nat}{v:Value}(h:ldA ls k=some v):∃x,v = .ref x/\ls[k]? = some (.ref x):=by
 unfold ldA at h;split at h
 ·cases h;exact⟨_,rfl,by assumption⟩
 ·cases h
theorem ldL_inv{ls:List Value}{k:Nat}{v:Value}(h:ldL ls k=some v):∃x,v = .long x/\ls[k]? = some (.long x):=by
 unfold ldL at h;split at h
 ·cases h;exact⟨_,rfl,by assumption⟩
 ·cases h
theorem incI_inv{ls:List Value}{k:Nat}{c:Int}{ls':List Value}(h:incI ls k c=some ls'):∃x,ls[k]? = some (.int x)/\ls'=st1 ls k (.int (x+Int32.ofInt c)):=by
 unfold incI at h;split at h
 ·cases h;exact⟨_,by assumption,rfl⟩
 ·cases h
theorem stI_inv{ls st:List Value}{k:Nat}{q:List Value×List Value}(h:stI' ls k st=some q):∃x r,st = .int x::r/\q=(st1 ls k (.int x),r):=by
 unfold stI' at h;split at h
 ·cases h;exact⟨_,_,rfl,rfl⟩
 ·cases h
theorem stA_inv{ls st:List Value}{k:Nat}{q:List Value×List Value}(h:stA' ls k st=some q):∃x r,st = .ref x::r/\q=(st1 ls k (.ref x),r):=by
 unfold stA' at h;split at h
 ·cases h;exact⟨_,_,rfl,rfl⟩
 ·cases h
theorem stL_inv{ls st:List Value}{k:Nat}{q:List Value×List Value}(h:stL' ls k st=some q):∃x r,st = .long x::r/\q=(st2 ls k (.long x),r):=by
 unfold stL' at h;split at h
 ·cases h;exact⟨_,_,rfl,rfl⟩
 ·cases h
end Sim
section Sim
variable {p:Program} {l:Launch} {e:Env} {R:Room} {s:State} {m:MethodId} {args:Array Value} {below:List Frame} {meth:Method} {c:Code} {T:State} {locs:List Loc} {cells slots:Nat} {ρ:Nat->Nat}
def Cst(Tb:Tabs)(Z:State)(a0:Array Value)(own:String):Prop:=(∀k v,(k,v)∈Tb.2.2.2.1->(Cond.constant own k v).before a0 Z=true)/\∀k v,(k,v)∈Tb.2.2.2.2.1->(Cond.constantLong own k v).before a0 Z=true
theorem cst1{Z:State}{a0:Array Value}(hZ:Z.Warmed39 s.vm){own:String}{Tb:Tabs}(hC:Cst Tb Z a0 own){j:Nat}{w:Int32}(hw:lk j Tb.2.2.2.1=some w):(Cond.constant own j w).before args s=true:=by
 have h:=hC.1 _ _ (lk_mem hw)
 exact mvT hZ h
theorem cst2{Z:State}{a0:Array Value}(hZ:Z.Warmed39 s.vm){own:String}{Tb:Tabs}(hC:Cst Tb Z a0 own){j:Nat}{w:Int64}(hw:lk j Tb.2.2.2.2.1=some w):(Cond.constantLong own j w).before args s=true:=by
 have h:=hC.2 _ _ (lk_mem hw)
 exact mvT hZ h
theorem own64(w:Int64):Int64.ofNat w.toUInt64.toNat=w:=by
 apply Int64.toBitVec_inj.mp
 simp
set_option maxHeartbeats 1000000 in
theorem simLoc (X : Stand p l e R s m args below meth c T locs cells slots) (hx : p.tables.exec = Jvm.exec) {Z : State} {a0 : Array Value} (hZ : Z.Warmed39 s.vm) {own : String} (hown : s.vm.findClass own = some m.cls) {Tb : Tabs} (hC : Cst Tb Z a0 own)
    {pc : Nat} {i0 i : Instr} {len : Nat} (hd : decode c.code pc = .ok (i0, len)) (ho : lenOK i0 len = true) {L : Array Slot} (hc : canon Tb L.size pc i0 = some i) {ls st ls' st' : List Value} (hl : loc i ls st = some (ls', st')) (RL : LocRel ρ ls L) (W : WFL L) :
    ∃ L', LocRel ρ ls' L' /\ WFL L' /\ L'.size = L.size /\ ∀ target, Steps p.tables e below (T.setTop (mkF m (pc + len) L' (st'.map (cv ρ)))) target -> Steps p.tables e below (T.setTop (mkF m pc L (st.map (cv ρ)))) target := by
  have i32 : ∀ x : Int32, Int32.ofInt x.toInt = x := fun x => Int32.ofInt_toInt x
  cases i0
  case iload_n k =>
    cases hc; obtain rfl : len = 1 := by simpa [lenOK, ilen] using ho
    obtain ⟨v, h1, h2⟩ := Option.map_eq_some_iff.mp hl; cases h2
    obtain ⟨x, rfl, h3⟩ := ldI_inv h1
    exact ⟨L, RL, W, rfl, fun t k' => XS.iloadN X.here hx rfl hd (RL _ _ h3 (by simp)) k'⟩
  case iload k =>
    cases hc; obtain rfl : len = 2 := by simpa [lenOK, ilen] using ho
    obtain ⟨v, h1, h2⟩ := Option.map_eq_some_iff.mp hl; cases h2
    obtain ⟨x, rfl, h3⟩ := ldI_inv h1
    exact ⟨L, RL, W, rfl, fun t k' => XS.iload X.here hx rfl hd (RL _ _ h3 (by simp)) k'⟩
  case aload_n k =>
    cases hc; obtain rfl : len = 1 := by simpa [lenOK, ilen] using ho
    obtain ⟨v, h1, h2⟩ := Option.map_eq_some_iff.mp hl; cases h2
    obtain ⟨x, rfl, h3⟩ := ldA_inv h1
    exact ⟨L, RL, W, rfl, fun t k' => XS.aloadN X.here hx rfl hd (RL _ _ h3 (by simp)) rfl k'⟩
  case aload k =>
    cases hc; obtain rfl : len = 2 := by simpa [lenOK, ilen] using ho
    obtain ⟨v, h1, h2⟩ := Option.map_eq_some_iff.mp hl; cases h2
    obtain ⟨x, rfl, h3⟩ := ldA_inv h1
    exact ⟨L, RL, W, rfl, fun t k' => XS.aload X.here hx rfl hd (RL _ _ h3 (by simp)) rfl k'⟩
  case lload_n k =>
    cases hc; obtain rfl : len = 1 := by simpa [lenOK, ilen] using ho
    obtain ⟨v, h1, h2⟩ := Option.map_eq_some_iff.mp hl; cases h2
    obtain ⟨x, rfl, h3⟩ := ldL_inv h1
    exact ⟨L, RL, W, rfl, fun t k' => XT.lloadN X.here hx rfl hd (RL _ _ h3 (by simp)) k'⟩
  case lload k =>
    cases hc; obtain rfl : len = 2 := by simpa [lenOK, ilen] using ho
    obtain ⟨v, h1, h2⟩ := Option.map_eq_some_iff.mp hl; cases h2
    obtain ⟨x, rfl, h3⟩ := ldL_inv h1
    exact ⟨L, RL, W, rfl, fun t k' => XT.lload X.here hx rfl hd (RL _ _ h3 (by simp)) k'⟩
  case istore_n k =>
    obtain ⟨hk, rfl⟩ := lt_inv hc; obtain rfl : len = 1 := by simpa [lenOK, ilen] using ho
    obtain ⟨x, r, rfl, h2⟩ := stI_inv hl; cases h2
    obtain ⟨L', q1, q2, q3, q4⟩ := store1 (v := .int x) RL W hk rfl
    exact ⟨L', q2, q3, q4, fun t k' => XS.istoreN X.here hx rfl hd rfl q1 k'⟩
  case istore k =>
    obtain ⟨hk, rfl⟩ := lt_inv hc; obtain rfl : len = 2 := by simpa [lenOK, ilen] using ho
    obtain ⟨x, r, rfl, h2⟩ := stI_inv hl; cases h2
    obtain ⟨L', q1, q2, q3, q4⟩ := store1 (v := .int x) RL W hk rfl
    exact ⟨L', q2, q3, q4, fun t k' => XS.istore X.here hx rfl hd rfl q1 k'⟩
  case astore_n k =>
    obtain ⟨hk, rfl⟩ := lt_inv hc; obtain rfl : len = 1 := by simpa [lenOK, ilen] using ho
    obtain ⟨x, r, rfl, h2⟩ := stA_inv hl; cases h2
    obtain ⟨L', q1, q2, q3, q4⟩ := store1 (v := .ref x) RL W hk rfl
    exact ⟨L', q2, q3, q4, fun t k' => XS.astoreN X.here hx rfl hd rfl rfl q1 k'⟩
  case astore k =>
    obtain ⟨hk, rfl⟩ := lt_inv hc; obtain rfl : len = 2 := by simpa [lenOK, ilen] using ho
    obtain ⟨x, r, rfl, h2⟩ := stA_inv hl; cases h2
    obtain ⟨L', q1, q2, q3, q4⟩ := store1 (v := .ref x) RL W hk rfl
    exact ⟨L', q2, q3, q4, fun t k' => XS.astore X.here hx rfl hd rfl rfl q1 k'⟩
  case lstore_n k =>
    obtain ⟨hk, rfl⟩ := lt_inv hc; obtain rfl : len = 1 := by simpa [lenOK, ilen] using ho
    obtain ⟨x, r, rfl, h2⟩ := stL_inv hl; cases h2
    obtain ⟨L', q1, q2, q3, q4⟩ := store2 (x := x) RL W hk
    exact ⟨L', q2, q3, q4, fun t k' => XT.lstoreN X.here hx rfl hd rfl q1 k'⟩
  case lstore k =>
    obtain ⟨hk, rfl⟩ := lt_inv hc; obtain rfl : len = 2 := by simpa [lenOK, ilen] using ho
    obtain ⟨x, r, rfl, h2⟩ := stL_inv hl; cases h2
    obtain ⟨L', q1, q2, q3, q4⟩ := store2 (x := x) RL W hk
    exact ⟨L', q2, q3, q4, fun t k' => XT.lstore X.here hx rfl hd rfl q1 k'⟩
  case iinc k cst =>
    obtain ⟨hk, rfl⟩ := lt_inv hc; obtain rfl : len = 3 := by simpa [lenOK, ilen] using ho
    obtain ⟨v, h1, h2⟩ := Option.map_eq_some_iff.mp hl; cases h2
    obtain ⟨x, h3, rfl⟩ := incI_inv h1
    obtain ⟨L', q1, q2, q3, q4⟩ := store1 (v := .int (x + Int32.ofInt cst)) RL W hk rfl
    exact ⟨L', q2, q3, q4, fun t k' => XS.iinc X.here hx rfl hd (RL _ _ h3 (by simp)) q1 k'⟩
  case iconst j =>
    cases hc; obtain rfl : len = 1 := by simpa [lenOK, ilen] using ho
    simp only [loc, alu, Option.map_some, Option.some.injEq, Prod.mk.injEq] at hl; obtain ⟨rfl, rfl⟩ := hl
    exact ⟨L, RL, W, rfl, fun t k' => XS.iconst X.here hx rfl hd k'⟩
  case bipush j =>
    cases hc; obtain rfl : len = 2 := by simpa [lenOK, ilen] using ho
    simp only [loc, alu, Option.map_some, Option.some.injEq, Prod.mk.injEq] at hl; obtain ⟨rfl, rfl⟩ := hl
    rw [i32]
    exact ⟨L, RL, W, rfl, fun t k' => XS.bipush X.here hx rfl hd k'⟩
  case sipush j =>
    cases hc; obtain rfl : len = 3 := by simpa [lenOK, ilen] using ho
    simp only [loc, alu, Option.map_some, Option.some.injEq, Prod.mk.injEq] at hl; obtain ⟨rfl, rfl⟩ := hl
    rw [i32]
    exact ⟨L, RL, W, rfl, fun t k' => XS.sipush X.here hx rfl hd k'⟩
  case ldc j =>
    obtain ⟨w, hw, hc⟩ := Option.map_eq_some_iff.mp hc; cases hc; obtain rfl : len = 2 := by simpa [lenOK, ilen] using ho
    simp only [loc, alu, Option.map_some, Option.some.injEq, Prod.mk.injEq] at hl; obtain ⟨rfl, rfl⟩ := hl
    rw [i32]
    exact ⟨L, RL, W, rfl, fun t k' => X.ldcInt hx hown (cst1 hZ hC hw) (g := mkF m pc L (st.map (cv ρ))) rfl hd _ k'⟩
  case ldc2_w j =>
    obtain ⟨w, hw, hc⟩ := Option.map_eq_some_iff.mp hc; cases hc; obtain rfl : len = 3 := by simpa [lenOK, ilen] using ho
    simp only [loc, alu, Option.map_some, Option.some.injEq, Prod.mk.injEq] at hl; obtain ⟨rfl, rfl⟩ := hl
    rw [own64]
    exact ⟨L, RL, W, rfl, fun t k' => X.ldc2Long hx hown (cst2 hZ hC hw) (g := mkF m pc L (st.map (cv ρ))) rfl hd _ k'⟩
  case tableswitch d lo hi offs =>
    simp only [canon] at hc
    split at hc
    · cases hc
      simp [loc, alu] at hl
    · cases hc
  all_goals first
    | (simp [canon, plain1, heapy] at hc; done)
    | (simp only [canon, plain1, heapy, Bool.or_false, Bool.or_true, Bool.false_or, if_true, Option.some.injEq] at hc
       subst hc
       simp only [loc] at hl
       obtain ⟨v, h1, h2⟩ := Option.map_eq_some_iff.mp hl
       first
         | (cases h1; done)
         | (simp only [alu] at h1; cases h1; done)
         | (cases h2
            obtain rfl : len = 1 := by simpa [lenOK, ilen] using ho
            exact ⟨L, RL, W, rfl, fun t k' => simAlu X hx hd rfl h1 k'⟩))
    | (simp only [canon] at hc
       first
         | (obtain ⟨w, hw, hc⟩ := Option.map_eq_some_iff.mp hc
            cases hc
            simp [loc, alu] at hl))
end Sim
theorem swc_spec{β:Type}(x:Int32)(k:Nat->β)(d:β):∀(ts:List Int) (lo:Int),-2147483648<=lo->lo+ts.length<=2147483648 ->
  (∃t,lo<=x.toInt/\x.toInt<lo+ts.length/\ts[(x.toInt-lo).toNat]? = some t/\swc x lo ts k d=k t.toNat)\/((x.toInt<lo\/lo+ts.length<=x.toInt)/\swc x lo ts k d=d)
 |[],lo,_,_=>Or.inr ⟨by simp;omega,rfl⟩
 |t::ts,lo,h1,h2=>by
  simp only[List.length_cons] at h2
  have e:x=Int32.ofInt lo↔x.toInt=lo:=by
   constructor
   ·intro q;subst q;exact Int32.toInt_ofInt_of_le h1 (by omega)
   ·intro q;rw[<-q,Int32.ofInt_toInt]
  simp only[swc]
  by_cases q:x=Int32.ofInt lo
  ·rw[if_pos q]
   have q':=e.mp q
   refine Or.inl ⟨t,by omega,by simp;omega,?_,rfl⟩
   rw[q'];simp
  ·rw[if_neg q]
   have q':x.toInt≠lo:=fun h=>q (e.mpr h)
   rcases swc_spec x k d ts (lo+1) (by omega) (by omega) with⟨t',a,b,c,f⟩ | ⟨a,b⟩
   ·refine Or.inl ⟨t',by omega,by simp;omega,?_,f⟩
    have:(x.toInt-lo).toNat=(x.toInt-(lo+1)).toNat+1:=by omega
    rw[this];simpa using c
   ·refine Or.inr ⟨?_,b⟩
    simp only[List.length_cons]
    omega
section Sim
variable {p:Program} {l:Launch} {e:Env} {R:Room} {s:State} {m:MethodId} {args:Array Value} {below:List Frame} {meth:Method} {c:Code} {T:State} {locs:List Loc} {cells slots:Nat} {ρ:Nat->Nat}
theorem cnd_pick{β:Type}(cd:ClassFile.Cond)(x y:Int32)(a b:β):cnd cd x y a b=if if_icmp.holds cd x y=true then a else b:=by
 cases cd
 ·by_cases h:x=y
  ·simp only[cnd];rw[if_pos h,(teq h).1,if_pos rfl]
  ·simp only[cnd,(feq h).1,h,if_false,Bool.false_eq_true]
 ·by_cases h:x=y
  ·simp only[cnd];rw[if_pos h,(teq h).2,if_neg (by decide)]
  ·simp only[cnd,(feq h).2,h,if_true,if_false]
 ·by_cases h:x<y
  ·simp only[cnd,(tlt h).1,h,if_true]
  ·simp only[cnd,(flt h).1,h,if_false,Bool.false_eq_true]
 ·by_cases h:x<y
  ·simp only[cnd,(tlt h).2.1,h,if_true,if_false,Bool.false_eq_true]
  ·simp only[cnd,(flt h).2.1,h,if_true,if_false]
 ·by_cases h:y<x
  ·simp only[cnd,(tlt h).2.2.1,h,if_true]
  ·simp only[cnd,(flt h).2.2.1,h,if_false,Bool.false_eq_true]
 ·by_cases h:y<x
  ·simp only[cnd,(tlt h).2.2.2,h,if_true,if_false,Bool.false_eq_true]
  ·simp only[cnd,(flt h).2.2.2,h,if_true,if_false]
theorem simGoto(X:Stand p l e R s m args below meth c T locs cells slots)(hx:p.tables.exec=Jvm.exec){Tb:Tabs}{ml pc len:Nat}{i0:Instr}{t:Int}(hd:decode c.code pc = .ok (i0,len))(ho:lenOK i0 len=true)(hc:canon Tb ml pc i0=some (.goto t)){L:Array Slot}{st:List Value}{target:State}
  (k:Steps p.tables e below (T.setTop (mkF m t.toNat L st)) target):Steps p.tables e below (T.setTop (mkF m pc L st)) target:=by
 cases i0<;>try (simp[canon,lt,plain1,heapy] at hc;done)
 case goto o=>
  obtain rfl:len=3:=by simpa [lenOK,ilen] using ho
  simp only[canon,absT] at hc
  split at hc
  ·rename_i q
   simp at hc;subst hc
   exact XS.goto X.here hx rfl rfl hd q rfl k
  ·cases hc
theorem simIf(X:Stand p l e R s m args below meth c T locs cells slots)(hx:p.tables.exec=Jvm.exec){Tb:Tabs}{ml pc len:Nat}{i0:Instr}{t:Int}{cd:ClassFile.Cond}(hd:decode c.code pc = .ok (i0,len))(ho:lenOK i0 len=true)(hc:canon Tb ml pc i0=some (.ifCond cd t)){L:Array Slot}{x:Int32}{st:List Value}{target:State}
  (k:Steps p.tables e below (T.setTop (mkF m (if if_icmp.holds cd x 0=true then t.toNat else pc+len) L st)) target):Steps p.tables e below (T.setTop (mkF m pc L (.int x::st))) target:=by
 cases i0<;>try (simp[canon,lt,plain1,heapy] at hc;done)
 case ifCond cd' o=>
  obtain rfl:len=3:=by simpa [lenOK,ilen] using ho
  simp only[canon,absT] at hc
  split at hc
  ·rename_i q
   simp at hc;obtain⟨rfl,rfl⟩:=hc
   by_cases h:if_icmp.holds cd' x 0=true
   ·rw[if_pos h] at k
    exact XS.ifYes X.here hx rfl rfl hd rfl (by rw[if0];exact h) q rfl k
   ·rw[if_neg h] at k
    exact XS.ifNo X.here hx rfl hd rfl (by rw[if0];simpa using h) k
  ·cases hc
theorem simIcmp(X:Stand p l e R s m args below meth c T locs cells slots)(hx:p.tables.exec=Jvm.exec){Tb:Tabs}{ml pc len:Nat}{i0:Instr}{t:Int}{cd:ClassFile.Cond}(hd:decode c.code pc = .ok (i0,len))(ho:lenOK i0 len=true)(hc:canon Tb ml pc i0=some (.if_icmp cd t)){L:Array Slot}{x y:Int32}{st:List Value}{target:State}
  (k:Steps p.tables e below (T.setTop (mkF m (if if_icmp.holds cd x y=true then t.toNat else pc+len) L st)) target):Steps p.tables e below (T.setTop (mkF m pc L (.int y :: .int x::st))) target:=by
 cases i0<;>try (simp[canon,lt,plain1,heapy] at hc;done)
 case if_icmp cd' o=>
  obtain rfl:len=3:=by simpa [lenOK,ilen] using ho
  simp only[canon,absT] at hc
  split at hc
  ·rename_i q
   simp at hc;obtain⟨rfl,rfl⟩:=hc
   by_cases h:if_icmp.holds cd' x y=true
   ·rw[if_pos h] at k
    exact XS.icmpYes X.here hx rfl rfl hd rfl h q rfl k
   ·rw[if_neg h] at k
    exact XS.icmpNo X.here hx rfl hd rfl (by simpa using h) k
  ·cases hc
theorem simSw(X:Stand p l e R s m args below meth c T locs cells slots)(hx:p.tables.exec=Jvm.exec){Tb:Tabs}{ml pc len:Nat}{i0:Instr}{d lo hi:Int}{ts:Array Int}(hd:decode c.code pc = .ok (i0,len))(hc:canon Tb ml pc i0=some (.tableswitch d lo hi ts)){L:Array Slot}{x:Int32}{st:List Value}{target:State}
  (k:Steps p.tables e below (T.setTop (mkF m (swc x lo ts.toList (fun t=>t) d.toNat) L st)) target):Steps p.tables e below (T.setTop (mkF m pc L (.int x::st))) target:=by
 cases i0<;>try (simp[canon,lt,plain1,heapy] at hc;done)
 case tableswitch d' lo' hi' offs=>
  simp only[canon] at hc
  split at hc
  ·rename_i q
   obtain⟨q1,q2,q3,q4,q5⟩:=q
   simp at hc;obtain⟨rfl,rfl,rfl,rfl⟩:=hc
   have hlen:((offs.map fun o=>(pc:Int)+o).toList.length:Int)=hi'-lo'+1:=by simpa using q3
   rcases swc_spec x (fun t=>t) ((pc:Int)+d').toNat (offs.map fun o=>(pc:Int)+o).toList lo' q4 (by omega) with⟨t,a,b,cc,f⟩ | ⟨a,b⟩
   ·rw[f] at k
    obtain⟨o,o1,o2⟩:∃o,offs[(x.toInt-lo').toNat]? = some o/\(pc:Int)+o=t:=by
     simpa using cc
    have hoff:0<=(pc:Int)+o:=by
     have:=Array.all_eq_true_iff_forall_mem.mp q2 o (Array.mem_of_getElem? o1)
     simpa using this
    exact XS.tswIn X.here hx rfl rfl hd rfl (by omega) o1 hoff (by rw[o2]) k
   ·rw[b] at k
    exact XS.tswOut X.here hx rfl rfl hd rfl (by omega) q1 rfl k
  ·cases hc
theorem retV_ok{t:Option FieldType}{i:Instr}{st:List Value}{v:Option Value}(hv:retV t i st=some v):(t=none->v=none)/\∀ρ',v.map (cv ρ')=v:=by
 unfold retV at hv
 split at hv
 ·split at hv
  ·cases hv;exact⟨fun _=>rfl,fun _=>rfl⟩
  ·cases hv
 ·split at hv
  ·cases hv;exact⟨fun h=>(by cases h),fun _=>rfl⟩
  ·cases hv;exact⟨fun h=>(by cases h),fun _=>rfl⟩
  ·cases hv
 ·split at hv
  ·cases hv;exact⟨fun h=>(by cases h),fun _=>rfl⟩
  ·cases hv
 ·cases hv
theorem simRet(X:Stand p l e R s m args below meth c T locs cells slots)(hx:p.tables.exec=Jvm.exec){Tb:Tabs}{ml pc len:Nat}{i0 i:Instr}(hd:decode c.code pc = .ok (i0,len))(ho:lenOK i0 len=true)(hc:canon Tb ml pc i0=some i){L:Array Slot}{st:List Value}{v:Option Value}
  (hv:retV meth.sig.returnType i st=some v) {fs:List Frame} (hl:∀(f:JFrame) (acts:List Action),f.method=m->f.locked=none->f.entered=[]->(doReturn e (T.setTop f) acts v).1=T.setFrames fs) :
  Steps p.tables e below (T.setTop (mkF m pc L (st.map (cv ρ)))) (T.setFrames fs):=by
 have hr:i = .return_\/i = .ireturn\/i = .lreturn:=by
  unfold retV at hv
  split at hv<;>first | exact Or.inl rfl | exact Or.inr (Or.inl rfl) | exact Or.inr (Or.inr rfl) | cases hv
 have hi:i0=i/\len=1:=by
  rcases hr with rfl | rfl | rfl <;>
   (cases i0<;>first | (simp[canon,lt,plain1,heapy] at hc;done) | exact⟨rfl,by simpa [lenOK,ilen] using ho⟩)
 obtain⟨rfl,rfl⟩:=hi
 rcases hr with rfl | rfl | rfl
 ·simp only[retV] at hv
  split at hv
  ·rename_i h1
   cases hv
   exact X.returnOut hx h1 hd hl
  ·cases hv
 ·simp only[retV] at hv
  split at hv
  ·rename_i h1
   cases hv
   exact retOut X hx h1 rfl (Or.inl ⟨rfl,Or.inl rfl,_,rfl⟩) hd hl
  ·rename_i h1
   cases hv
   exact retN X hx (t:= .boolean) h1 (Or.inl rfl) hd hl
  ·cases hv
 ·simp only[retV] at hv
  split at hv
  ·rename_i h1
   cases hv
   exact retOut X hx h1 rfl (Or.inr (Or.inl ⟨rfl,rfl,_,rfl⟩)) hd hl
  ·cases hv
end Sim
def Go(p:Program)(e:Env)(below:List Frame)(T:State)(g:JFrame)(T':State)(g':JFrame):Prop:=∀target,Steps p.tables e below (T'.setTop g') target->Steps p.tables e below (T.setTop g) target
abbrev MI:=Nat->MethodName×ByteArray×Nat×Nat×Nat
def Frm(mi:MI)(rt:Nat->Option FieldType)(own:String)(Z:State)(mm:Nat)(p:Program)(R:Room)(s:State)(m:MethodId)(meth:Method)(c:Code):Prop:=
 p.tables.exec=Jvm.exec/\Z.Warmed39 s.vm/\s.vm.findClass own=some m.cls/\c.code=(mi mm).2.1/\c.maxLocals=(mi mm).2.2.1/\meth.sig.returnType=rt mm/\meth.name=(mi mm).1.name/\(mi mm).2.2.2.1<=R.frames/\(mi mm).2.2.2.2<=R.locals
def chkE(Tb:Tabs)(bytes:ByteArray)(ml:Nat)(q:Nat×Instr×Nat×Option Nat):Bool:=match decode bytes q.1 with
 | .ok (i0,len)=>decide (canon Tb ml q.1 i0=some q.2.1)&&decide (q.2.2.1=q.1+len)&&lenOK i0 len
 |_=>false
def Good(Tb:Tabs)(mi:MI)(code:Codes):Prop:=∀mm pc q,code mm pc=some q->chkE Tb (mi mm).2.1 (mi mm).2.2.1 (pc,q)=true
theorem chkE_spec{Tb:Tabs}{bytes:ByteArray}{ml pc pn:Nat}{i:Instr}{kp:Option Nat}(h:chkE Tb bytes ml (pc,i,pn,kp)=true):∃i0 len,decode bytes pc = .ok (i0,len)/\canon Tb ml pc i0=some i/\pn=pc+len/\lenOK i0 len=true:=by
 simp only[chkE] at h
 split at h
 ·rename_i i0 len hd
  simp only[Bool.and_eq_true,decide_eq_true_eq] at h
  exact⟨i0,len,hd,h.1.1,h.1.2,h.2⟩
 ·cases h
section Walk
variable {τ ι:Type} (code:Codes) (rt:Nat->Option FieldType) (mop:Mop τ) (cop:Cop) (Tb:Tabs) (mi:MI) (own:String) (Z:State) (l:Launch) (ρ:ι->Nat->Nat) (J:ι->Room->State->Nat->τ->State->List Loc->Nat->Nat->Prop)
def Walks (n : Nat) : Prop := ∀ (x : ι) (p : Program) (e : Env) (R : Room) (s : State) (m : MethodId) (args : Array Value) (below : List Frame) (meth : Method) (c : Code) (mm pc : Nat) (ls st : List Value) (S : τ) (r : Res τ),
  iter (plan code rt mop cop) n (mm, pc, ls, st, S) = some r -> ∀ (T : State) (locs : List Loc) (cells slots : Nat) (L : Array Slot), Stand p l e R s m args below meth c T locs cells slots -> Frm mi rt own Z mm p R s m meth c -> J x R s mm S T locs cells slots -> LocRel (ρ x) ls L -> WFL L -> L.size = c.maxLocals ->
  ∃ (T' : State) (locs' : List Loc) (cells' slots' : Nat), Stand p l e R s m args below meth c T' locs' cells' slots' /\ J x R s mm r.2 T' locs' cells' slots' /\ ((meth.sig.returnType = none -> r.1 = none) /\ ∀ ρ', r.1.map (cv ρ') = r.1) /\
    ∀ fs, (∀ (f : JFrame) (acts : List Action), f.method = m -> f.locked = none -> f.entered = [] -> (doReturn e (T'.setTop f) acts r.1).1 = T'.setFrames fs) -> Steps p.tables e below (T.setTop (mkF m pc L (st.map (cv (ρ x))))) (T'.setFrames fs)
def MopOK:Prop:=∀(x:ι) (p:Program) (e:Env) (R:Room) (s:State) (m:MethodId) (args:Array Value) (below:List Frame) (meth:Method) (c:Code) (mm pc len:Nat) (i0 i:Instr) (st st':List Value) (S S':τ) (T:State) (locs:List Loc) (cells slots:Nat) (L:Array Slot),
 Stand p l e R s m args below meth c T locs cells slots->Frm mi rt own Z mm p R s m meth c->J x R s mm S T locs cells slots->L.size=c.maxLocals->decode c.code pc = .ok (i0,len)->lenOK i0 len=true->canon Tb c.maxLocals pc i0=some i->(∃kp,code mm pc=some (i,pc+len,kp))->mop mm i st S=some (st',S') ->
 ∃(T':State) (locs':List Loc) (cells' slots':Nat),Stand p l e R s m args below meth c T' locs' cells' slots'/\J x R s mm S' T' locs' cells' slots'/\Go p e below T (mkF m pc L (st.map (cv (ρ x)))) T' (mkF m (pc+len) L (st'.map (cv (ρ x))))
def CopOK:Prop:=∀n,Walks code rt mop cop mi own Z l ρ J n->∀(x:ι) (p:Program) (e:Env) (R:Room) (s:State) (m:MethodId) (args:Array Value) (below:List Frame) (meth:Method) (c:Code) (mm pc len:Nat) (i0 i:Instr) (st:List Value) (q:Nat×List Value×List Value) (S:τ) (r:Res τ) (T:State) (locs:List Loc) (cells slots:Nat) (L:Array Slot),
 Stand p l e R s m args below meth c T locs cells slots->Frm mi rt own Z mm p R s m meth c->J x R s mm S T locs cells slots->L.size=c.maxLocals->decode c.code pc = .ok (i0,len)->lenOK i0 len=true->canon Tb c.maxLocals pc i0=some i->(∃kp,code mm pc=some (i,pc+len,kp))->cop mm i st=some q->iter (plan code rt mop cop) n (q.1,0,entL q.2.1,[],S)=some r ->
 ∃(T':State) (locs':List Loc) (cells' slots':Nat),Stand p l e R s m args below meth c T' locs' cells' slots'/\J x R s mm r.2 T' locs' cells' slots'/\Go p e below T (mkF m pc L (st.map (cv (ρ x)))) T' (mkF m (pc+len) L ((r.1.toList++q.2.2).map (cv (ρ x))))
theorem tk_rel{ρ:Nat->Nat}{ls:List Value}{L:Array Slot}(kp:Option Nat)(h:LocRel ρ ls L):LocRel ρ (tk kp ls) L:=by
 cases kp with
 |none=>exact h
 |some k=>
  intro i v q hn
  simp only[tk,List.getElem?_take] at q
  split at q
  ·exact h i v q hn
  ·cases q
set_option maxHeartbeats 1000000 in
theorem walks{a0:Array Value}(hC:Cst Tb Z a0 own)(hG:Good Tb mi code)(hM:MopOK code rt mop Tb mi own Z l ρ J)(hP:CopOK code rt mop cop Tb mi own Z l ρ J):∀n,Walks code rt mop cop mi own Z l ρ J n:=by
 intro n
 induction n with
 |zero=>intro x p e R s m args below meth c mm pc ls st S r h;cases h
 |succ n ih=>
  intro x p e R s m args below meth c mm pc ls st S r h T locs cells slots L X F hJ RL W hs
  have hx:=F.1
  simp only[iter,run] at h
  cases hq:code mm pc with
  |none=>simp only[plan,hq] at h;cases h
  |some q=>
   obtain⟨i,pn,kp⟩:=q
   obtain⟨i0,len,hd,hc,rfl,ho⟩:=chkE_spec (hG mm pc _ hq)
   have RL':=tk_rel kp RL
   rw[<-F.2.2.2.1] at hd
   rw[<-F.2.2.2.2.1] at hc
   simp only[plan,hq] at h
   split at h
   ·cases h
   ·-- a return
    rename_i r' hpl
    split at hpl
    ·cases hpl
    ·simp only[pl1] at hpl;split at hpl<;>cases hpl
    ·simp only[pl2] at hpl;split at hpl<;>cases hpl
    ·simp only[pl3] at hpl;split at hpl<;>cases hpl
    ·simp only[rest] at hpl
     split at hpl
     ·rename_i v hv
      cases hpl;cases h
      rw[<-F.2.2.2.2.2.1] at hv
      exact⟨T,locs,cells,slots,X,hJ,retV_ok hv,fun fs hl=>simRet X hx hd ho hc hv hl⟩
     ·split at hpl
      ·cases hpl
      ·split at hpl
       ·cases hpl
       ·split at hpl<;>cases hpl
   ·-- the next step
    rename_i c' hpl
    split at hpl
    ·cases hpl
     obtain⟨T',L',k',n',X',hJ',ok',st'⟩:=ih x p e R s m args below meth c _ _ _ _ _ _ h T locs cells slots L X F hJ RL' W hs
     exact⟨T',L',k',n',X',hJ',ok',fun fs hl=>simGoto X hx hd ho hc (st' fs hl)⟩
    ·rename_i cd t
     simp only[pl1] at hpl
     split at hpl
     ·rename_i y r0
      cases hpl
      rw[cnd_pick] at h
      have h':iter (plan code rt mop cop) n (mm,(if if_icmp.holds cd y 0=true then t.toNat else pc+len),tk kp ls,r0,S)=some r:=by
       by_cases q:if_icmp.holds cd y 0=true
       ·rw[if_pos q] at h ⊢;exact h
       ·rw[if_neg q] at h ⊢;exact h
      obtain⟨T',L',k',n',X',hJ',ok',st'⟩:=ih x p e R s m args below meth c _ _ _ _ _ _ h' T locs cells slots L X F hJ RL' W hs
      exact⟨T',L',k',n',X',hJ',ok',fun fs hl=>simIf X hx hd ho hc (st' fs hl)⟩
     ·cases hpl
    ·rename_i cd t
     simp only[pl2] at hpl
     split at hpl
     ·rename_i y y' r0
      cases hpl
      rw[cnd_pick] at h
      have h':iter (plan code rt mop cop) n (mm,(if if_icmp.holds cd y' y=true then t.toNat else pc+len),tk kp ls,r0,S)=some r:=by
       by_cases q:if_icmp.holds cd y' y=true
       ·rw[if_pos q] at h ⊢;exact h
       ·rw[if_neg q] at h ⊢;exact h
      obtain⟨T',L',k',n',X',hJ',ok',st'⟩:=ih x p e R s m args below meth c _ _ _ _ _ _ h' T locs cells slots L X F hJ RL' W hs
      exact⟨T',L',k',n',X',hJ',ok',fun fs hl=>simIcmp X hx hd ho hc (st' fs hl)⟩
     ·cases hpl
    ·rename_i d lo hi ts
     simp only[pl3] at hpl
     split at hpl
     ·rename_i y r0
      cases hpl
      have h':iter (plan code rt mop cop) n (mm,swc y lo ts.toList (fun t=>t) d.toNat,tk kp ls,r0,S)=some r:=by
       rw[<-h,swc_map (fun t=>(mm,t,tk kp ls,r0,S))]
      obtain⟨T',L',k',n',X',hJ',ok',st'⟩:=ih x p e R s m args below meth c _ _ _ _ _ _ h' T locs cells slots L X F hJ RL' W hs
      exact⟨T',L',k',n',X',hJ',ok',fun fs hl=>simSw X hx hd hc (st' fs hl)⟩
     ·cases hpl
    ·simp only[rest] at hpl
     split at hpl
     ·cases hpl
     ·split at hpl
      ·rename_i q hq'
       cases hpl
       obtain⟨L1,RL1,W1,z1,st1⟩:=simLoc X hx F.2.1 F.2.2.1 hC hd ho (by rw[hs];exact hc) hq' RL' W
       obtain⟨T',L',k',n',X',hJ',ok',st'⟩:=ih x p e R s m args below meth c _ _ _ _ _ _ h T locs cells slots L1 X F hJ RL1 W1 (z1.trans hs)
       exact⟨T',L',k',n',X',hJ',ok',fun fs hl=>st1 _ (st' fs hl)⟩
      ·split at hpl
       ·rename_i q hq'
        cases hpl
        obtain⟨T1,o1,k1,n1,X1,J1,G1⟩:=hM x p e R s m args below meth c mm pc len i0 _ st q.1 S q.2 T locs cells slots L X F hJ hs hd ho hc ⟨kp,hq⟩ hq'
        obtain⟨T',L',k',n',X',hJ',ok',st'⟩:=ih x p e R s m args below meth c _ _ _ _ _ _ h T1 o1 k1 n1 L X1 F J1 RL' W hs
        exact⟨T',L',k',n',X',hJ',ok',fun fs hl=>G1 _ (st' fs hl)⟩
       ·split at hpl<;>cases hpl
   ·-- a call
    rename_i q hpl
    split at hpl
    ·cases hpl
    ·simp only[pl1] at hpl;split at hpl<;>cases hpl
    ·simp only[pl2] at hpl;split at hpl<;>cases hpl
    ·simp only[pl3] at hpl;split at hpl<;>cases hpl
    ·simp only[rest] at hpl
     split at hpl
     ·cases hpl
     ·split at hpl
      ·cases hpl
      ·split at hpl
       ·cases hpl
       ·split at hpl
        ·rename_i q' hq'
         cases hpl
         obtain⟨r1,h1,h2⟩:=Option.bind_eq_some_iff.mp h
         obtain⟨T1,o1,k1,n1,X1,J1,G1⟩:=hP n ih x p e R s m args below meth c mm pc len i0 _ st q' S r1 T locs cells slots L X F hJ hs hd ho hc ⟨kp,hq⟩ hq' h1
         obtain⟨T',L',k',n',X',hJ',ok',st'⟩:=ih x p e R s m args below meth c _ _ _ _ _ _ h2 T1 o1 k1 n1 L X1 F J1 RL' W hs
         exact⟨T',L',k',n',X',hJ',ok',fun fs hl=>G1 _ (st' fs hl)⟩
        ·cases hpl
end Walk
section Call
variable {p:Program} {l:Launch} {e:Env} {R:Room} {s:State} {m:MethodId} {args:Array Value} {below:List Frame} {meth:Method} {c:Code} {T:State} {locs:List Loc} {cells slots:Nat} {Z:State} {a0:Array Value} {h:Heap}
def VirtW(Z:State)(a0:Array Value)(C own:String)(idx:Nat)(y:MethodName)(bytes:ByteArray)(ml:Nat)(ret:Option FieldType):Prop:=
 y.cls=C/\(Cond.methodLink own idx y).before a0 Z=true/\(Cond.instanceMethod y).before a0 Z=true/\(Cond.code y bytes ml ret).before a0 Z=true /\
 ((Cond.privateMethod y).before a0 Z=true\/((Cond.declares y).before a0 Z=true/\(Cond.selects C y y).before a0 Z=true))
theorem callV(X:Stand p l e R s m args below meth c T locs cells slots)(hx:p.tables.exec=Jvm.exec)(hZ:Z.Warmed39 s.vm){own C:String}(hown:s.vm.findClass own=some m.cls){idx kk:Nat}{y:MethodName}{bytes:ByteArray}{ml:Nat}{ret:Option FieldType}
  (hw:VirtW Z a0 C own idx y bytes ml ret) (wi:(Cond.instantiable C kk).before a0 Z=true) (wz:(Cond.initialized C).before a0 Z=true) (hC:C ≠ "java/lang/invoke/MethodHandle" /\ C ≠ "java/lang/invoke/VarHandle")
  {ps:List FieldType} (hd:parseMethodDescriptor y.desc=some ⟨ps,ret⟩) {rm:Room} {as':List Value} (hl:as'.length=ps.length) {a:Nat} {Q:Option Value->Heap->List Loc->Prop}
  (hM:MetFree l y (head1 [Cond.code y bytes ml ret] rm) (fun A U=>A=(.ref a::as').toArray/\Z.Warmed39 U.vm/\U.heap=h) (fun _ _ _ _ _=>True) (fun _ U o U'=>∃v L,o = .returned v/\Q v U'.heap L/\FrameEnd U o U' L rm.cells rm.slots))
  (eT:T.heap=h) (E:Exa Z h a C) {W:Nat} (hf:rm.frames+1<=R.frames) (hlo:W+(ml+11)+rm.locals<=R.locals) (hce:cells+rm.cells<=R.cells) (hsl:slots+rm.slots<=R.slots)
  {pc:Nat} {L:Array Slot} (hs:L.size=c.maxLocals) {rest st:List Value} (hst:st=as'.reverse ++ .ref a::rest) (hW:(rest.map fun v=>v.category).sum<=W) (hdg:decode c.code pc = .ok (.invokevirtual idx,3)) :
  ∃(v:Option Value) (T':State) (Lc:List Loc),Stand p l e R s m args below meth c T' (locs++Lc) (cells+rm.cells) (slots+rm.slots)/\Q v T'.heap Lc/\Go p e below T (mkF m pc L st) T' (mkF m (pc+3) L (v.toList++rest)):=by
 obtain⟨rfl,w1,w2,w3,w4⟩:=hw
 have hB:=backOf (W:=W) hM hZ w3 wz hf hlo (R:=R) (p:=p) (e:=e) (below:=below) (s:=s) (args:=args) (len:=3)
 have hW':2*(mkF m pc L st).monitorRoom+(rest.map fun v=>v.category).sum<=W:=by
  show 2*0+_<=W
  omega
 rcases w4 with w4 | ⟨w4,w5⟩
 ·obtain⟨cl,kc,q1,q2,-,q4,-⟩:=Cond.instantiable_spec (mvT hZ wi (args:=args))
  have hni:kc.isInterface=false:=by
   have:=q4
   simp only[Bool.or_eq_false_iff] at this
   exact this.1
  have hpr:s.PrivateAt y:=Cond.privateMethod_at (mvP hZ w4 (args:=args))
  obtain⟨cell,q5,q6⟩:=E.cell
  obtain⟨v,vm₁,⟨T',L',c',s'⟩,-,X',⟨Lc,hQ,l1,l2,l3⟩,st'⟩:=X.privateBack hx (y:=y) hown (mvT hZ w1) (mvT hZ w2) (selects_self_of_private q1 q2 hni hpr (mvT hZ w2) hC) hpr (mvT hZ w3) hC hB (g:=mkF m pc L st) rfl hs (Steps.refl _) (a:=a) (by rw[eT];exact q5) q6 (argsL:=as') (rest:=rest) (lenOf hd hl) hst hW' hdg
   (fun vm _=>⟨rfl,eT,hce,hsl⟩)
  dsimp only [Pt.U,Pt.locs,Pt.cells,Pt.slots] at X' l1 l2 l3 st' hQ
  subst l1 l2 l3
  exact⟨v,T',Lc,X',hQ,fun t k=>st'.trans k⟩
 ·obtain⟨cq,kq,qa,qb,qc⟩:=isOf hZ eT E
  obtain⟨v,vm₁,⟨T',L',c',s'⟩,-,X',⟨Lc,hQ,l1,l2,l3⟩,st'⟩:=X.virtualBack hx (y:=y) (z:=y) hown (mvT hZ w1) (mvT hZ w4) (notFace_of_selects (args := #[]) (mvT hZ w5)) (mvT hZ w5) (mvT hZ w2) hC hB qa qc (g:=mkF m pc L st) rfl hs (Steps.refl _) (argsL:=as') (rest:=rest) (lenOf hd hl) hst hW' hdg
   (fun vm _=>⟨rfl,eT,hce,hsl⟩)
  dsimp only [Pt.U,Pt.locs,Pt.cells,Pt.slots] at X' l1 l2 l3 st' hQ
  subst l1 l2 l3
  exact⟨v,T',Lc,X',hQ,fun t k=>st'.trans k⟩
end Call
def slotsOf:List Value->List Slot
 |[]=>[]
 |v::r=>if v.category=2 then .val v :: .second::slotsOf r else .val v::slotsOf r
theorem args_slots(vs:List Value)(ml:Nat):argsToLocals vs.toArray ml=((slotsOf vs)++List.replicate (ml-(slotsOf vs).length) Slot.unset).toArray:=by
 have key:∀(vs:List Value) (acc:Array Slot),vs.foldl (fun (acc:Array Slot) v=>if v.category=2 then (acc.push (.val v)).push .second else acc.push (.val v)) acc=acc++(slotsOf vs).toArray:=by
  intro vs
  induction vs with
  |nil=>intro acc;simp[slotsOf]
  |cons v r ih=>
   intro acc
   simp only[List.foldl_cons,slotsOf]
   rw[ih]
   split
   ·apply Array.toList_inj.mp;simp
   ·apply Array.toList_inj.mp;simp
 unfold argsToLocals
 have e:Array.foldl (fun (acc:Array Slot) (v:Value)=>if v.category=2 then (acc.push (.val v)).push .second else acc.push (.val v)) #[] vs.toArray=(slotsOf vs).toArray:=by
  rw[List.foldl_toArray,key];simp
 simp only[e]
 apply Array.toList_inj.mp
 simp
theorem slotsOf_len(ρ:Nat->Nat):∀vs:List Value,(∀v∈vs,(∃x,v = .int x)\/(∃x,v = .long x)\/∃x,v = .ref x)->(slotsOf (vs.map (cv ρ))).length=(entL vs).length
 |[],_=>rfl
 |v::r,h=>by
  have ih:=slotsOf_len ρ r (fun w hw=>h w (List.mem_cons_of_mem _ hw))
  rcases h v (List.mem_cons_self ..) with⟨x,rfl⟩ | ⟨x,rfl⟩ | ⟨x,rfl⟩<;>simp[slotsOf,entL,cv,Value.category,ih]
theorem entL_rel(ρ:Nat->Nat):∀vs:List Value,(∀v∈vs,(∃x,v = .int x)\/(∃x,v = .long x)\/∃x,v = .ref x)->∀(i:Nat) (w:Value),(entL vs)[i]? = some w->w ≠ .null->(slotsOf (vs.map (cv ρ)))[i]? = some (.val (cv ρ w))
 |[],_,i,w,h,_=>by simp[entL] at h
 |v::r,h,i,w,hi,hn=>by
  have ih:=entL_rel ρ r (fun w hw=>h w (List.mem_cons_of_mem _ hw))
  rcases h v (List.mem_cons_self ..) with⟨x,rfl⟩ | ⟨x,rfl⟩ | ⟨x,rfl⟩
  ·cases i with
   |zero=>simp[entL] at hi;subst hi;simp[slotsOf,cv,Value.category]
   |succ i=>simp[entL] at hi;simpa [slotsOf,cv,Value.category] using ih i w hi hn
  ·cases i with
   |zero=>simp[entL] at hi;subst hi;simp[slotsOf,cv,Value.category]
   |succ i=>
    cases i with
    |zero=>simp[entL] at hi;exact absurd hi.symm hn
    |succ i=>simp[entL] at hi;simpa [slotsOf,cv,Value.category] using ih i w hi hn
  ·cases i with
   |zero=>simp[entL] at hi;subst hi;simp[slotsOf,cv,Value.category]
   |succ i=>simp[entL] at hi;simpa [slotsOf,cv,Value.category] using ih i w hi hn
theorem slotsOf_wf:∀(vs:List Value) (tl:List Slot),(∀x∈tl,x = .unset)->(∀i:Nat,(slotsOf vs++tl)[i]? = some .second->∃(j:Nat) (v:Value),i=j+1/\(slotsOf vs++tl)[j]? = some (.val v)/\v.category=2)/\∀(i:Nat) (v:Value),(slotsOf vs++tl)[i]? = some (.val v)->v.category=2->(slotsOf vs++tl)[i+1]? = some .second
 |[],tl,h=>by
  refine⟨fun i q=>?_,fun i v q _=>?_⟩
  ·have:=h _ (List.mem_of_getElem? (by simpa [slotsOf] using q));cases this
  ·have:=h _ (List.mem_of_getElem? (by simpa [slotsOf] using q));cases this
 |v::r,tl,h=>by
  obtain⟨a,b⟩:=slotsOf_wf r tl h
  by_cases hc:v.category=2
  ·refine⟨fun i q=>?_,fun i w q hw=>?_⟩
   ·cases i with
    |zero=>simp[slotsOf,hc] at q
    |succ i=>
     cases i with
     |zero=>exact⟨0,v,rfl,by simp[slotsOf,hc],hc⟩
     |succ i=>
      simp only[slotsOf,hc,if_true,List.cons_append,List.getElem?_cons_succ] at q
      obtain⟨j,w,q1,q2,q3⟩:=a i q
      exact⟨j+2,w,by omega,by simpa [slotsOf,hc] using q2,q3⟩
   ·cases i with
    |zero=>simp[slotsOf,hc]
    |succ i=>
     cases i with
     |zero=>simp[slotsOf,hc] at q
     |succ i=>
      simp only[slotsOf,hc,if_true,List.cons_append,List.getElem?_cons_succ] at q ⊢
      exact b i w q hw
  ·refine⟨fun i q=>?_,fun i w q hw=>?_⟩
   ·cases i with
    |zero=>simp[slotsOf,hc] at q
    |succ i=>
     simp only[slotsOf,hc,if_false,List.cons_append,List.getElem?_cons_succ] at q
     obtain⟨j,w,q1,q2,q3⟩:=a i q
     exact⟨j+1,w,by omega,by simpa [slotsOf,hc] using q2,q3⟩
   ·cases i with
    |zero=>simp[slotsOf,hc] at q;subst q;exact absurd hw hc
    |succ i=>
     simp only[slotsOf,hc,if_false,List.cons_append,List.getElem?_cons_succ] at q ⊢
     exact b i w q hw
def okv:List Value->Bool
 |[]=>true
 | .int _::r=>okv r
 | .long _::r=>okv r
 | .ref _::r=>okv r
 |_::_=>false
theorem okv_spec:∀ {vs:List Value},okv vs=true->∀v∈vs,(∃x,v = .int x)\/(∃x,v = .long x)\/∃x,v = .ref x
 |[],_,v,h=>by cases h
 |w::r,h,v,hv=>by
  cases w<;>simp only[okv] at h<;>try (cases h;done)
  all_goals
   rcases List.mem_cons.mp hv with rfl | q
   ·first | exact Or.inl ⟨_,rfl⟩ | exact Or.inr (Or.inl ⟨_,rfl⟩) | exact Or.inr (Or.inr ⟨_,rfl⟩)
   ·exact okv_spec h v q
theorem entry_rel(ρ:Nat->Nat){vs:List Value}(h:okv vs=true){ml:Nat}(hl:(entL vs).length<=ml) :
  ∃L,(∀m,entryFrame m (vs.map (cv ρ)).toArray ml=mkF m 0 L [])/\LocRel ρ (entL vs) L/\WFL L/\L.size=ml:=by
 have hk:=okv_spec h
 have e1:=slotsOf_len ρ vs hk
 refine⟨_,fun m=>by unfold entryFrame;rw[args_slots],fun i w q hn=>?_,?_,by simp[e1];omega⟩
 ·have:=entL_rel ρ vs hk i w q hn
  simp only[List.getElem?_toArray]
  rw[List.getElem?_append_left ((List.getElem?_eq_some_iff.mp this).1)]
  exact this
 ·obtain⟨a,b⟩:=slotsOf_wf (vs.map (cv ρ)) (List.replicate (ml-(slotsOf (vs.map (cv ρ))).length) Slot.unset) (fun x hx=>(List.mem_replicate.mp hx).2)
  exact⟨fun i q=>by simpa using a i (by simpa using q),fun i v q hc=>by simpa using b i v (by simpa using q) hc⟩
def inb(i:Int32)(n:Nat):Bool := !(decide (i<0)||decide (n<=i.toNatClampNeg))
theorem inb_spec{i:Int32}{n:Nat}(h:inb i n=true):¬(i<0\/n<=i.toNatClampNeg):=by
 simp only[inb,Bool.not_eq_true',Bool.or_eq_false_iff,decide_eq_false_iff_not] at h
 exact fun q=>q.elim h.1 h.2
section Ops
variable {σ:Type}
def gf(G:σ->Nat->Nat->Int32)(k:Nat)(S:σ):List Value->Option (List Value×σ)
 | .ref 0::r=>if k%3=2 then some (.ref (k/3+1)::r,S) else some (.int (G S 0 (k/3))::r,S)
 |_=>none
def pf(P:σ->Nat->Nat->Int32->σ)(k:Nat)(S:σ):List Value->Option (List Value×σ)
 | .int v :: .ref 0::r=>if k%3=0 then some (r,P S 0 (k/3) v) else if k%3=1 then some (r,P S 0 (k/3) (v&&&1)) else none
 |_=>none
def isI:FieldType->Bool
 | .int=>true
 |_=>false
def isB:FieldType->Bool
 | .boolean=>true
 | .byte=>true
 |_=>false
def al(arrs:List (FieldType×Nat))(G:σ->Nat->Nat->Int32)(ok:FieldType->Bool)(S:σ):List Value->Option (List Value×σ)
 | .int i :: .ref (j+1)::r=>match arrs[j]? with
  |some q=>if ok q.1=true/\inb i q.2=true then some (.int (G S (j+1) i.toNatClampNeg)::r,S) else none
  |none=>none
 |_=>none
def sa(arrs:List (FieldType×Nat))(P:σ->Nat->Nat->Int32->σ)(ok:FieldType->Bool)(S:σ):List Value->Option (List Value×σ)
 | .int v :: .int i :: .ref (j+1)::r=>match arrs[j]? with
  |some q=>if ok q.1=true/\inb i q.2=true then some (r,P S (j+1) i.toNatClampNeg (nar q.1 v)) else none
  |none=>none
 |_=>none
def la(arrs:List (FieldType×Nat))(S:σ):List Value->Option (List Value×σ)
 | .ref (j+1)::r=>match arrs[j]? with
  |some q=>some (.int (Int32.ofNat q.2)::r,S)
  |none=>none
 |_=>none
def mop1(arrs:List (FieldType×Nat))(G:σ->Nat->Nat->Int32)(P:σ->Nat->Nat->Int32->σ):Mop σ:=fun _ i st S=>match i with
 | .getfield k=>gf G k S st
 | .putfield k=>pf P k S st
 | .iaload=>al arrs G isI S st
 | .baload=>al arrs G isB S st
 | .iastore=>sa arrs P isI S st
 | .bastore=>sa arrs P isB S st
 | .arraylength=>la arrs S st
 |_=>none
def okn:List Value->Bool
 |[]=>true
 | .int _::r=>okn r
 | .long _::r=>okn r
 |_::_=>false
def cop1(na ml wm:Nat->Nat):Cop:=fun m i st=>match i with
 | .invokevirtual k=>(match takeA (na k) [] st with
  |some (as,.ref 0::r)=>if okn as=true/\cats r<=wm m/\(entL (.ref 0::as)).length<=ml k then some (k,.ref 0::as,r) else none
  |_=>none)
 |_=>none
end Ops
theorem takeA_spec:∀ {n:Nat} {acc st as r:List Value},takeA n acc st=some (as,r)->∃q,q.length=n/\as=q++acc/\st=q.reverse++r
 |0,acc,st,as,r,h=>by cases h;exact⟨[],rfl,rfl,rfl⟩
 |n+1,acc,[],as,r,h=>by cases h
 |n+1,acc,v::st,as,r,h=>by
  obtain⟨q,h1,h2,h3⟩:=takeA_spec (n:=n) h
  exact⟨q++[v],by simp[h1],by simp[h2],by simp[h3]⟩
theorem okn_spec:∀ {vs:List Value},okn vs=true->okv vs=true/\∀ρ,vs.map (cv ρ)=vs
 |[],_=>⟨rfl,fun _=>rfl⟩
 |w::r,h=>by
  cases w<;>simp only[okn] at h<;>try (cases h;done)
  all_goals
   obtain⟨a,b⟩:=okn_spec h
   exact⟨a,fun ρ=>by rw[List.map_cons,b];rfl⟩
def ObjAt(C:String)(fds:List (String×String×Nat))(arrs:List (FieldType×Nat))(Z:State)(h:Heap)(a:Nat)(g:Nat->Nat->Int32):Prop:=
 Exa Z h a C/\(∀n d k,(n,d,k)∈fds->Fld Z h a C n d (if k%3=2 then .ref (a+(k/3+1)) else .int (g 0 (k/3)))) /\
 ∀(j:Nat) (ty:FieldType) (len:Nat),arrs[j]? = some (ty,len)->∃cell,Arr Z h (a+(j+1)) cell ty/\cell.slots.size=len/\∀i,i<len->cell.slots[i]? = some (.int (g (j+1) i))
def ClsOK(C:String)(fds:List (String×String×Nat))(arrs:List (FieldType×Nat))(Tb:Tabs)(Z:State)(a0:Array Value):Prop:=
 (∃kk,(Cond.instantiable C kk).before a0 Z=true) /\
 (∀n d k,(n,d,k)∈fds->Laid Z a0 C C n d/\(k%3≠2->(Cond.lays C C n d).before a0 Z=true)/\(k%3=0->d = "I")/\(k%3=1->d = "Z")/\∃t,parseFieldDescriptor d=some t) /\
 (∀n d k n' d' k',(n,d,k)∈fds->(n',d',k')∈fds->n=n'->d=d'/\k=k') /\
 (∀n d k n' d' k',(n,d,k)∈fds->(n',d',k')∈fds->n≠n'->k%3≠2->k'%3≠2->k/3≠k'/3) /\
 (∀idx n d k,(idx,n,d,k)∈Tb.1->(Cond.fieldLink C idx C n d).before a0 Z=true/\(n,d,k)∈fds) /\
 ∀(j:Nat) (ty:FieldType) (n:Nat),arrs[j]? = some (ty,n)->ty = .int\/ty = .boolean\/ty = .byte
def rng(arrs:List (FieldType×Nat))(a:Nat):List Nat:=(List.range (arrs.length+1)).map fun r=>a+r
theorem mem_rng{arrs:List (FieldType×Nat)}{a r:Nat}(h:r<=arrs.length):a+r∈rng arrs a:=List.mem_map.mpr ⟨r,List.mem_range.mpr (by omega),rfl⟩
section Obj
variable {C:String} {fds:List (String×String×Nat)} {arrs:List (FieldType×Nat)} {Tb:Tabs} {Z:State} {a0:Array Value} {h h':Heap} {a:Nat} {g g':Nat->Nat->Int32}
theorem ne1(a j:Nat):a+(j+1)≠a:=by omega
theorem ne2(a j:Nat):a≠a+(j+1):=by omega
theorem ne3(a:Nat){j j':Nat}(h:j'≠j):a+(j'+1)≠a+(j+1):=by omega
theorem ObjAt.put(K:ClsOK C fds arrs Tb Z a0)(O:ObjAt C fds arrs Z h a g){n d:String}{k:Nat}(hm:(n,d,k)∈fds)(hk:k%3≠2){v:Int32}(W:Wr h h' a (Jvm.RoadKit.slotOf Z C n d) (.int v))
  (hg:∀c i,g' c i=if c=0/\i=k/3 then v else g c i):ObjAt C fds arrs Z h' a g':=by
 obtain⟨O1,O2,O3⟩:=O
 obtain⟨-,K2,K3,K4,-,-⟩:=K
 refine⟨O1.wr W,fun n' d' k' hm'=>?_,fun j ty len hj=>?_⟩
 ·have F:=O2 n' d' k' hm'
  by_cases e:n=n'
  ·obtain⟨rfl,rfl⟩:=K3 _ _ _ _ _ _ hm hm' e
   subst e
   rw[if_neg hk] at F ⊢
   rw[hg,if_pos ⟨rfl,rfl⟩]
   exact F.same W
  ·obtain⟨l1,-,-,-,t1,p1⟩:=K2 _ _ _ hm
   obtain⟨l2,-,-,-,t2,p2⟩:=K2 _ _ _ hm'
   have F':=F.other W (Or.inr (slot_ne l2 l1 (Ne.symm e) p2 p1))
   by_cases q:k'%3=2
   ·rw[if_pos q] at F' ⊢;exact F'
   ·rw[if_neg q] at F' ⊢
    rw[hg,if_neg (fun x=>K4 _ _ _ _ _ _ hm hm' e hk q x.2.symm)]
    exact F'
 ·obtain⟨cell,A,z,H⟩:=O3 j ty len hj
  refine⟨cell,A.other W (ne1 a j),z,fun i hi=>?_⟩
  rw[hg,if_neg (fun x=>by omega)]
  exact H i hi
theorem ObjAt.set(O:ObjAt C fds arrs Z h a g){j:Nat}{ty:FieldType}{len:Nat}(hj:arrs[j]? = some (ty,len)){i:Nat}(hi:i<len){v:Int32}(W:Wr h h' (a+(j+1)) i (.int v))
  (hg:∀c r,g' c r=if c=j+1/\r=i then v else g c r):ObjAt C fds arrs Z h' a g':=by
 obtain⟨O1,O2,O3⟩:=O
 refine⟨O1.wr W,fun n' d' k' hm'=>?_,fun j' ty' len' hj'=>?_⟩
 ·have F:=(O2 n' d' k' hm').other W (Or.inl (ne2 a j))
  by_cases q:k'%3=2
  ·rw[if_pos q] at F ⊢;exact F
  ·rw[if_neg q] at F ⊢
   rw[hg,if_neg (fun x=>by omega)]
   exact F
 ·obtain⟨cell,A,z,H⟩:=O3 j' ty' len' hj'
  by_cases e:j'=j
  ·subst e
   cases hj.symm.trans hj'
   refine⟨cell.setSlot i (.int v),A.same W,by rw[sz_set];exact z,fun r hr=>?_⟩
   rw[hg]
   by_cases q:r=i
   ·subst q
    rw[if_pos ⟨rfl,rfl⟩]
    simp[Cell.setSlot,z,hr]
   ·rw[if_neg (fun x=>q x.2)]
    have:=H r hr
    simp only[Cell.setSlot]
    rw[Array.getElem?_setIfInBounds_ne (Ne.symm q)]
    exact this
  ·refine⟨cell,A.other W (ne3 a e),z,fun r hr=>?_⟩
   rw[hg,if_neg (fun x=>by omega)]
   exact H r hr
theorem ObjAt.keep{ws:List Nat}(O:ObjAt C fds arrs Z h a g)(K:Keep h h' ws)(hn:∀r,r<=arrs.length->a+r∉ws):ObjAt C fds arrs Z h' a g:=by
 obtain⟨O1,O2,O3⟩:=O
 have ha:a∉ws:=hn 0 (Nat.zero_le _)
 refine⟨?_,fun n d k hm=>?_,fun j ty len hj=>?_⟩
 ·obtain⟨cell,k,h1,r⟩:=O1
  exact⟨cell,k,K.2.1 a cell h1 ha,r⟩
 ·obtain⟨cell,cf,kc,i,f,h1,r⟩:=O2 n d k hm
  exact⟨cell,cf,kc,i,f,K.2.1 a cell h1 ha,r⟩
 ·obtain⟨cell,A,r⟩:=O3 j ty len hj
  have hlt:=(List.getElem?_eq_some_iff.mp hj).1
  exact⟨cell,⟨K.2.1 _ cell A.1 (hn _ (by omega)),A.2⟩,r⟩
end Obj
section L1
variable {σ:Type} (C:String) (fds:List (String×String×Nat)) (arrs:List (FieldType×Nat)) (Tb:Tabs) (Z:State) (a0:Array Value) (G:σ->Nat->Nat->Int32) (P:σ->Nat->Nat->Int32->σ) (mi:MI) (rt:Nat->Option FieldType) (l:Launch)
abbrev I1:=Nat×Heap×Nat×Nat×Nat
def rho1(x:I1)(r:Nat):Nat:=x.1+r
def J1(x:I1)(R:Room)(_:State)(_:Nat)(S:σ)(T:State)(locs:List Loc)(cells slots:Nat):Prop:=
 cells=x.2.2.2.1/\slots=x.2.2.2.2/\cells<=R.cells/\slots<=R.slots/\ObjAt C fds arrs Z T.heap x.1 (G S)/\Keep x.2.1 T.heap (rng arrs x.1)/\Fr x.2.2.1 locs/\x.2.2.1<=x.1
variable {C fds arrs Tb Z a0 G P mi rt l}
theorem canon_get{ml pc k:Nat}{i0:Instr}(h:canon Tb ml pc i0=some (.getfield k)):∃idx n d,i0 = .getfield idx/\(idx,n,d,k)∈Tb.1:=by
 cases i0<;>try (simp[canon,lt,plain1,heapy] at h;done)
 case getfield idx=>
  obtain⟨⟨n,d,k'⟩,h1,h2⟩:=Option.map_eq_some_iff.mp h
  cases h2
  exact⟨idx,n,d,rfl,lk_mem h1⟩
theorem canon_put{ml pc k:Nat}{i0:Instr}(h:canon Tb ml pc i0=some (.putfield k)):∃idx n d,i0 = .putfield idx/\(idx,n,d,k)∈Tb.1:=by
 cases i0<;>try (simp[canon,lt,plain1,heapy] at h;done)
 case putfield idx=>
  obtain⟨⟨n,d,k'⟩,h1,h2⟩:=Option.map_eq_some_iff.mp h
  cases h2
  exact⟨idx,n,d,rfl,lk_mem h1⟩
theorem canon_heapy {ml pc : Nat} {i0 i : Instr} (hi : heapy i = true) (h : canon Tb ml pc i0 = some i) : i0 = i := by
  cases i0
  all_goals first
    | (simp [canon, plain1, heapy] at h; done)
    | (simp [canon, plain1, heapy] at h; exact h)
    | (exfalso
       simp only [canon] at h
       first
         | (cases h; simp [heapy] at hi; done)
         | (obtain ⟨w, h1, h2⟩ := Option.map_eq_some_iff.mp h; cases h2; simp [heapy] at hi; done)
         | (obtain ⟨h1, h2⟩ := lt_inv h; subst h2; simp [heapy] at hi; done)
         | (split at h
            · cases h; simp [heapy] at hi
            · cases h)
         | (simp [plain1] at h; subst h; simp [heapy] at hi; done))
theorem canon_inv{ml pc k:Nat}{i0:Instr}(h:canon Tb ml pc i0=some (.invokevirtual k)):∃idx,i0 = .invokevirtual idx/\(idx,k)∈Tb.2.1:=by
 cases i0<;>try (simp[canon,lt,plain1,heapy] at h;done)
 case invokevirtual idx=>
  obtain⟨k',h1,h2⟩:=Option.map_eq_some_iff.mp h
  cases h2
  exact⟨idx,rfl,lk_mem h1⟩
set_option maxHeartbeats 1000000 in
theorem mop1_ok{code:Codes}(K:ClsOK C fds arrs Tb Z a0)(hGP:∀S c i v c' i',G (P S c i v) c' i'=if c'=c/\i'=i then v else G S c' i'):MopOK code rt (mop1 arrs G P) Tb mi C Z l rho1 (J1 C fds arrs Z G):=by
 intro x p e R s m args below meth c mm pc len i0 i st st' S S' T locs cells slots L X F hJ hs hd ho hc hcd hm
 obtain⟨hx,hZ,hown,-,-,-,-,-,-⟩:=F
 obtain⟨hc0,hs0,hcR,hsR,O,Kp,N,hn⟩:=hJ
 have hlt:∀ {j:Nat} {q:FieldType×Nat},arrs[j]? = some q->j+1<=arrs.length:=fun q=>by have:=(List.getElem?_eq_some_iff.mp q).1;omega
 unfold mop1 at hm
 split at hm
 ·-- getfield
  rename_i k
  obtain⟨idx,n,d,rfl,hmem⟩:=canon_get hc
  obtain rfl:len=3:=by simpa [lenOK,ilen] using ho
  obtain⟨wl,hf⟩:=K.2.2.2.2.1 _ _ _ _ hmem
  have Fd:=O.2.1 n d k hf
  unfold gf at hm
  split at hm
  ·rename_i r
   obtain⟨T',X',e',st1⟩:=getF X hx hZ hown (host := "") (Or.inl wl) Via.refl rfl Fd (g:=mkF m pc L (.ref x.1::r.map (cv (rho1 x)))) rfl rfl hd
   refine⟨T',locs,cells,slots,X',⟨hc0,hs0,hcR,hsR,?_⟩,?_⟩
   ·rw[e']
    split at hm<;>(cases hm;exact⟨O,Kp,N,hn⟩)
   ·split at hm
    ·rename_i q
     cases hm
     rw[if_pos q] at st1
     exact fun t kt=>st1 t kt
    ·rename_i q
     cases hm
     rw[if_neg q] at st1
     exact fun t kt=>st1 t kt
  ·cases hm
 ·-- putfield
  rename_i k
  obtain⟨idx,n,d,rfl,hmem⟩:=canon_put hc
  obtain rfl:len=3:=by simpa [lenOK,ilen] using ho
  obtain⟨wl,hf⟩:=K.2.2.2.2.1 _ _ _ _ hmem
  have Fd:=O.2.1 n d k hf
  obtain⟨-,k2,k3,k4,-⟩:=K.2.1 n d k hf
  obtain⟨kk,wi⟩:=K.1
  unfold pf at hm
  split at hm
  ·rename_i v r
   split at hm
   ·rename_i q
    have q2:k%3≠2:=by omega
    cases hm
    have hd':=k3 q
    subst hd'
    obtain⟨T',h',X',e',W,st1⟩:=putFN X hx hZ hown wl Via.refl rfl Fd O.1 (Or.inl (k2 q2)) wi (ty:= .int) (by decide) (v:= .int v) (v':= .int v) rfl rfl (g:=mkF m pc L (.int v :: .ref x.1::st'.map (cv (rho1 x)))) rfl rfl hd
    subst e'
    exact⟨T',_,cells,slots,X',⟨hc0,hs0,hcR,hsR,O.put K hf q2 W (fun c i=>hGP S 0 (k/3) v c i),Kp.wr W (Or.inl (mem_rng (r:=0) (Nat.zero_le _))),N.app fun y hy=>by cases List.mem_singleton.mp hy;exact hn,hn⟩,fun t kt=>st1 t kt⟩
   ·split at hm
    ·rename_i q
     have q2:k%3≠2:=by omega
     cases hm
     have hd':=k4 q
     subst hd'
     obtain⟨T',h',X',e',W,st1⟩:=putFN X hx hZ hown wl Via.refl rfl Fd O.1 (Or.inl (k2 q2)) wi (ty:= .boolean) (by decide) (v:= .int v) (v':= .int (v&&&1)) rfl (fits_nar_bool v) (g:=mkF m pc L (.int v :: .ref x.1::st'.map (cv (rho1 x)))) rfl rfl hd
     subst e'
     exact⟨T',_,cells,slots,X',⟨hc0,hs0,hcR,hsR,O.put K hf q2 W (fun c i=>hGP S 0 (k/3) (v&&&1) c i),Kp.wr W (Or.inl (mem_rng (r:=0) (Nat.zero_le _))),N.app fun y hy=>by cases List.mem_singleton.mp hy;exact hn,hn⟩,fun t kt=>st1 t kt⟩
    ·cases hm
  ·cases hm
 ·-- iaload
  obtain rfl:=canon_heapy rfl hc
  obtain rfl:len=1:=by simpa [lenOK,ilen] using ho
  unfold al at hm
  split at hm
  ·rename_i j a r
   split at hm
   ·rename_i q hq
    split at hm
    ·rename_i hb
     cases hm
     obtain⟨ty,n⟩:=q
     obtain⟨cell,A,z,H⟩:=O.2.2 _ _ _ hq
     obtain rfl:ty = .int:=by cases ty<;>simp[isI] at hb ⊢
     have hin:=inb_spec hb.2
     rw[<-z] at hin
     have hv:=H j.toNatClampNeg (by rw[<-z];exact Nat.lt_of_not_le fun q=>hin (Or.inr q))
     exact⟨T,locs,cells,slots,X,⟨hc0,hs0,hcR,hsR,O,Kp,N,hn⟩,fun t kt=>X.iaload hx A.1 (State.isArrayOf_alike hZ.alike A.2.1) A.2.2 hin hv (g:=mkF m pc L (.int j :: .ref (x.1+(a+1))::r.map (cv (rho1 x)))) rfl rfl hd t kt⟩
    ·cases hm
   ·cases hm
  ·cases hm
 ·-- baload
  obtain rfl:=canon_heapy rfl hc
  obtain rfl:len=1:=by simpa [lenOK,ilen] using ho
  unfold al at hm
  split at hm
  ·rename_i j a r
   split at hm
   ·rename_i q hq
    split at hm
    ·rename_i hb
     cases hm
     obtain⟨ty,n⟩:=q
     obtain⟨cell,A,z,H⟩:=O.2.2 _ _ _ hq
     have hin:=inb_spec hb.2
     rw[<-z] at hin
     have hv:=H j.toNatClampNeg (by rw[<-z];exact Nat.lt_of_not_le fun q=>hin (Or.inr q))
     refine⟨T,locs,cells,slots,X,⟨hc0,hs0,hcR,hsR,O,Kp,N,hn⟩,fun t kt=>?_⟩
     have hty:ty = .boolean\/ty = .byte:=by cases ty<;>simp[isB] at hb ⊢
     rcases hty with rfl | rfl
     ·exact X.baloadBooleans hx A.1 (State.isArrayOf_alike hZ.alike A.2.1) A.2.2 hin hv (g:=mkF m pc L (.int j :: .ref (x.1+(a+1))::r.map (cv (rho1 x)))) rfl rfl hd t kt
     ·exact X.baloadBytes hx A.1 (State.isArrayOf_alike hZ.alike A.2.1) A.2.2 hin hv (g:=mkF m pc L (.int j :: .ref (x.1+(a+1))::r.map (cv (rho1 x)))) rfl rfl hd t kt
    ·cases hm
   ·cases hm
  ·cases hm
 ·-- iastore
  obtain rfl:=canon_heapy rfl hc
  obtain rfl:len=1:=by simpa [lenOK,ilen] using ho
  unfold sa at hm
  split at hm
  ·rename_i v j a r
   split at hm
   ·rename_i q hq
    split at hm
    ·rename_i hb
     cases hm
     obtain⟨ty,n⟩:=q
     obtain⟨cell,A,z,H⟩:=O.2.2 _ _ _ hq
     obtain rfl:ty = .int:=by cases ty<;>simp[isI] at hb ⊢
     have hin:=inb_spec hb.2
     have hlt':j.toNatClampNeg<n:=Nat.lt_of_not_le fun q=>hin (Or.inr q)
     rw[<-z] at hin
     obtain⟨T',h',X',e',W,st1⟩:=stI X hx hZ rfl A (j:=j) hin (g:=mkF m pc L (.int v :: .int j :: .ref (x.1+(a+1))::st'.map (cv (rho1 x)))) rfl rfl hd
     subst e'
     exact⟨T',_,cells,slots,X',⟨hc0,hs0,hcR,hsR,O.set hq hlt' W (fun c i=>hGP S (a+1) _ v c i),Kp.wr W (Or.inl (mem_rng (hlt hq))),N.app fun y hy=>by cases List.mem_singleton.mp hy;exact Nat.le_trans hn (Nat.le_add_right _ _),hn⟩,fun t kt=>st1 t kt⟩
    ·cases hm
   ·cases hm
  ·cases hm
 ·-- bastore
  obtain rfl:=canon_heapy rfl hc
  obtain rfl:len=1:=by simpa [lenOK,ilen] using ho
  unfold sa at hm
  split at hm
  ·rename_i v j a r
   split at hm
   ·rename_i q hq
    split at hm
    ·rename_i hb
     cases hm
     obtain⟨ty,n⟩:=q
     obtain⟨cell,A,z,H⟩:=O.2.2 _ _ _ hq
     have hin:=inb_spec hb.2
     have hlt':j.toNatClampNeg<n:=Nat.lt_of_not_le fun q=>hin (Or.inr q)
     rw[<-z] at hin
     have hty:ty = .boolean\/ty = .byte:=by cases ty<;>simp[isB] at hb ⊢
     rcases hty with rfl | rfl
     ·obtain⟨T',h',X',e',W,st1⟩:=stZ X hx hZ rfl A (j:=j) hin (g:=mkF m pc L (.int v :: .int j :: .ref (x.1+(a+1))::st'.map (cv (rho1 x)))) rfl rfl hd
      subst e'
      exact⟨T',_,cells,slots,X',⟨hc0,hs0,hcR,hsR,O.set hq hlt' W (fun c i=>hGP S (a+1) _ _ c i),Kp.wr W (Or.inl (mem_rng (hlt hq))),N.app fun y hy=>by cases List.mem_singleton.mp hy;exact Nat.le_trans hn (Nat.le_add_right _ _),hn⟩,fun t kt=>st1 t kt⟩
     ·obtain⟨T',h',X',e',W,st1⟩:=stB X hx hZ rfl A (j:=j) hin (g:=mkF m pc L (.int v :: .int j :: .ref (x.1+(a+1))::st'.map (cv (rho1 x)))) rfl rfl hd
      subst e'
      exact⟨T',_,cells,slots,X',⟨hc0,hs0,hcR,hsR,O.set hq hlt' W (fun c i=>hGP S (a+1) _ _ c i),Kp.wr W (Or.inl (mem_rng (hlt hq))),N.app fun y hy=>by cases List.mem_singleton.mp hy;exact Nat.le_trans hn (Nat.le_add_right _ _),hn⟩,fun t kt=>st1 t kt⟩
    ·cases hm
   ·cases hm
  ·cases hm
 ·-- arraylength
  obtain rfl:=canon_heapy rfl hc
  obtain rfl:len=1:=by simpa [lenOK,ilen] using ho
  unfold la at hm
  split at hm
  ·rename_i a r
   split at hm
   ·rename_i q hq
    cases hm
    obtain⟨ty,n⟩:=q
    obtain⟨cell,A,z,H⟩:=O.2.2 _ _ _ hq
    subst z
    exact⟨T,locs,cells,slots,X,⟨hc0,hs0,hcR,hsR,O,Kp,N,hn⟩,fun t kt=>X.arraylength hx A.1 (State.isArrayOf_alike hZ.alike A.2.1) (g:=mkF m pc L (.ref (x.1+(a+1))::r.map (cv (rho1 x)))) rfl rfl hd t kt⟩
   ·cases hm
  ·cases hm
 ·cases hm
def MthOK(C:String)(Tb:Tabs)(Z:State)(a0:Array Value)(mi:MI)(rt:Nat->Option FieldType)(own:String)(k:Nat)(na:Nat->Nat):Prop:=
 (∀idx,(idx,k)∈Tb.2.1->VirtW Z a0 C own idx (mi k).1 (mi k).2.1 (mi k).2.2.1 (rt k))/\∃ps,parseMethodDescriptor (mi k).1.desc=some ⟨ps,rt k⟩/\ps.length=na k
theorem met1{code:Codes}{mop:Mop σ}{cop:Cop}{n:Nat}(hW:Walks code rt mop cop mi C Z l rho1 (J1 C fds arrs Z G) n)(hpn:plainName C=true){k:Nat}(hcls:(mi k).1.cls=C){as:List Value}(hok:okn as=true)(hlen:(entL (.ref 0::as)).length<=(mi k).2.2.1)
  {S:σ} {r:Res σ} (hit:iter (plan code rt mop cop) n (k,0,entL (.ref 0::as),[],S)=some r) {a:Nat} {h:Heap} {n0:Nat} (O:ObjAt C fds arrs Z h a (G S)) (hn:n0<=a) (ws:List Jvm.Cond) :
  MetFree l (mi k).1 (head1 (Cond.code (mi k).1 (mi k).2.1 (mi k).2.2.1 (rt k)::ws) ({ frames:=(mi k).2.2.2.1,cells:=0,slots:=0,locals:=(mi k).2.2.2.2 }:Room))
   (fun A U=>A=(.ref a::as).toArray/\Z.Warmed39 U.vm/\U.heap=h) (fun _ _ _ _ _=>True)
   (fun _ U o U'=>∃v L,o = .returned v/\(v=r.1/\(∀ρ',r.1.map (cv ρ')=r.1)/\Fr n0 L/\Keep h U'.heap (rng arrs a)/\ObjAt C fds arrs Z U'.heap a (G r.2))/\FrameEnd U o U' L 0 0):=by
 refine MetFree.of_bodySF (plainFor_of_name (by rw[hcls];exact hpn)) hisR ?_
 intro p e s m args below meth c s₁ Bd hml0 hP hK
 obtain⟨rfl,hZ,hh⟩:=hP
 have hown:s.vm.findClass C=some m.cls:=by rw[<-hcls];exact findClass_of_methodNamed Bd.named
 have hnm:=(name_of_methodNamed Bd.named Bd.method).1
 have X0:=Stand.of_body Bd
 have e0:s₁.heap=h:=by rw[<-hh,Bd.state];rfl
 obtain⟨L,q1,q2,q3,q4⟩:=entry_rel (rho1 (a,h,n0,0,0)) (vs:= .ref 0::as) (by simpa [okv] using (okn_spec hok).1) hlen
 obtain⟨T',L',k',n',X',⟨j1,j2,-,-,j5,j6,j7,-⟩,⟨ok1,ok2⟩,st⟩:=hW (a,h,n0,0,0) p e _ s m _ below meth c k 0 _ [] S r hit s₁ [] 0 0 L X0 ⟨Bd.exec,hZ,hown,Bd.bytes,hml0,Bd.returns,hnm,Nat.le_refl _,Nat.le_refl _⟩
  ⟨rfl,rfl,Nat.le_refl _,Nat.le_refl _,by rw[e0];exact O,by rw[e0];exact Keep.refl _ _,Fr.nil _,hn⟩ q2 q3 (by rw[q4,hml0])
 obtain⟨fs,hr,hrun,hended,hWm,hsame⟩:=X'.leave (v:=r.1) ok1
 refine⟨_,_,?_,hrun,hended,_,_,rfl,⟨rfl,ok2,j7,j6,j5⟩,⟨_,rfl⟩,hWm,by subst j1 j2;exact hsame⟩
 have:=st fs hr
 rw[show entryFrame m (.ref a::as).toArray (mi k).2.2.1=mkF m 0 L [] from by rw[<-q1 m,List.map_cons,(okn_spec hok).2];rfl]
 exact this
def RoomOK(code:Codes)(mi:MI)(wm:Nat->Nat):Prop:=∀mm pc k pn kp,code mm pc=some (.invokevirtual k,pn,kp)->(mi k).2.2.2.1+1<=(mi mm).2.2.2.1/\wm mm+((mi k).2.2.1+11)+(mi k).2.2.2.2<=(mi mm).2.2.2.2
theorem cop1_ok{code:Codes}{na wm:Nat->Nat}{mop:Mop σ}(K:ClsOK C fds arrs Tb Z a0)(hpn:plainName C=true)(wz:(Cond.initialized C).before a0 Z=true)(hC:C ≠ "java/lang/invoke/MethodHandle" /\ C ≠ "java/lang/invoke/VarHandle")
  (hm:∀k idx,(idx,k)∈Tb.2.1->MthOK C Tb Z a0 mi rt C k na) (hR:RoomOK code mi wm) :
  CopOK code rt mop (cop1 na (fun k=>(mi k).2.2.1) wm) Tb mi C Z l rho1 (J1 C fds arrs Z G):=by
 intro n hW x p e R s m args below meth c mm pc len i0 i st q S r T locs cells slots L X F hJ hs hd ho hc hne hq hit
 obtain⟨hx,hZ,hown,f4,f5,f6,f7,f8,f9⟩:=F
 obtain⟨hc0,hs0,hcR,hsR,O,Kp,N,hn⟩:=hJ
 unfold cop1 at hq
 split at hq
 ·rename_i k
  split at hq
  ·rename_i as r0 ht
   split at hq
   ·rename_i hb
    cases hq
    obtain⟨hok,hcat,hlen⟩:=hb
    obtain⟨idx,rfl,hmem⟩:=canon_inv hc
    obtain rfl:len=3:=by simpa [lenOK,ilen] using ho
    obtain⟨hv,ps,hps,hna⟩:=hm k idx hmem
    have hv:=hv idx hmem
    obtain⟨kk,wi⟩:=K.1
    obtain⟨qs,q1,q2,q3⟩:=takeA_spec ht
    have q2':as=qs:=by simpa using q2
    subst q2'
    obtain⟨kp,hcd⟩:=hne
    have hroom:=hR mm pc k _ kp hcd
    have hM:=met1 (ws:=[]) hW hpn (hv.1) hok hlen hit O hn
    have hcR':cells+0<=R.cells:=hcR
    have hsR':slots+0<=R.slots:=hsR
    obtain⟨v,T',Lc,X',⟨e1,e0,e2,e3,e4⟩,G'⟩:=callV X hx hZ hown hv wi wz hC hps (as':=as) (by omega) (Q:=fun v h' L=>v=r.1/\(∀ρ',r.1.map (cv ρ')=r.1)/\Fr x.2.2.1 L/\Keep T.heap h' (rng arrs x.1)/\ObjAt C fds arrs Z h' x.1 (G r.2)) hM rfl O.1 (W:=wm mm) (rm:={ frames:=(mi k).2.2.2.1,cells:=0,slots:=0,locals:=(mi k).2.2.2.2 }) (Nat.le_trans hroom.1 f8) (Nat.le_trans hroom.2 f9) hcR' hsR' hs (rest:=r0.map (cv (rho1 x))) (st:=st.map (cv (rho1 x)))
     (by rw[q3,List.map_append,List.map_reverse,(okn_spec hok).2];rfl) (by
      have:(r0.map (cv (rho1 x))).map (fun v=>v.category)=r0.map fun v=>v.category:=by
       rw[List.map_map];apply List.map_congr_left;intro v _;cases v<;>rfl
      rw[this];exact hcat) hd
    subst e1
    refine⟨T',_,_,_,X',⟨hc0,hs0,hcR,hsR,e4,Kp.trans e3 (fun y hy=>Or.inl hy),N.app e2,hn⟩,?_⟩
    have:(r.1.toList++r0).map (cv (rho1 x))=r.1.toList++r0.map (cv (rho1 x)):=by
     rw[List.map_append]
     congr 1
     have:=e0 (rho1 x)
     cases hr:r.1 with
     |none=>rfl
     |some w=>rw[hr] at this;simpa using this
    rw[this]
    exact G'
   ·cases hq
  ·cases hq
 ·cases hq
end L1
abbrev Item:=Option ArrayType×Nat×String×String
def Part(C:String)(gds:List (String×String))(fds:List (String×String×Nat))(arrs:List (FieldType×Nat))(Z:State)(h:Heap)(a:Nat)(g:Nat->Int32)(k:Nat):Prop:=
 Exa Z h a C/\(∀n d,(n,d)∈gds->∃v,Fld Z h a C n d v) /\
 (∀n d q,(n,d,q)∈fds->if q%3=2 then (if q/3<k then Fld Z h a C n d (.ref (a+(q/3+1))) else ∃v,Fld Z h a C n d v) else Fld Z h a C n d (.int (g (q/3)))) /\
 (∀(j:Nat) (ty:FieldType) (len:Nat),j<k->arrs[j]? = some (ty,len)->∃cell,Arr Z h (a+(j+1)) cell ty/\cell.slots.size=len/\∀i,i<len->cell.slots[i]? = some (.int 0))/\h.size=a+1+k
def proChk(bytes:ByteArray)(Tb:Tabs)(ml:Nat)(gds:List (String×String))(fds:List (String×String×Nat))(arrs:List (FieldType×Nat))(pe:Nat):List Item->Nat->Nat->List (Nat×Int)->Bool
 |[],pc,k,iv=>decide (pc=pe)&&decide (k=arrs.length)&&decide (iv=[])
 |(t,idx,n,d)::r,pc,k,iv=>(match decode bytes pc with
  | .ok (.aload_n 0,1)=>(match decode bytes (pc+1) with
   | .ok (ip,lp)=>lenOK ip lp&&(match canon Tb ml (pc+1) ip with
    |some (.iconst v)=>(match t with
     |some t=>(match decode bytes (pc+1+lp),decode bytes (pc+1+lp+2) with
      | .ok (.newarray t',2),.ok (.putfield idx',3)=>decide (t'=t)&&decide (idx'=idx)&&decide (0<=v)&&decide (v<65536)&&decide (arrs[k]? = some (newarray.typeOf t,v.toNat))&&decide ((n,d,3*k+2)∈fds)&&proChk bytes Tb ml gds fds arrs pe r (pc+1+lp+5) (k+1) iv
      |_,_=>false)
     |none=>(match decode bytes (pc+1+lp) with
      | .ok (.putfield idx',3)=>decide (idx'=idx)&&(if (n,d)∈gds then proChk bytes Tb ml gds fds arrs pe r (pc+1+lp+3) k iv else (match iv with
       |q::iv=>decide ((n,d,3*q.1)∈fds)&&decide (q.2=v)&&proChk bytes Tb ml gds fds arrs pe r (pc+1+lp+3) k iv
       |[]=>false))
      |_=>false))
    |_=>false)
   |_=>false)
  |_=>false)
def finG(g:Nat->Int32)(iv:List (Nat×Int)):Nat->Int32:=iv.foldl (fun g q=>fun i=>if i=q.1 then Int32.ofInt q.2 else g i) g
def slotSum(arrs:List (FieldType×Nat))(k:Nat):Nat:=((arrs.take k).map (·.2)).sum
theorem slotSum_succ{arrs:List (FieldType×Nat)}{k:Nat}{q:FieldType×Nat}(h:arrs[k]? = some q):slotSum arrs (k+1)=slotSum arrs k+q.2:=by
 unfold slotSum
 rw[List.take_add_one,h]
 simp
theorem slotSum_le{arrs:List (FieldType×Nat)}:∀ {k n:Nat},k<=n->slotSum arrs k<=slotSum arrs n:=by
 intro k n h
 induction h with
 |refl=>exact Nat.le_refl _
 | @step m _ ih=>
  cases hq:arrs[m]? with
  |none=>
   have:arrs.length<=m:=by simpa using hq
   unfold slotSum at ih ⊢
   rw[List.take_of_length_le (Nat.le_succ_of_le this)]
   rw[List.take_of_length_le this] at ih
   exact ih
  |some q=>rw[slotSum_succ hq];omega
section Maker
variable {C:String} {gds:List (String×String)} {fds:List (String×String×Nat)} {arrs:List (FieldType×Nat)} {Tb:Tabs} {Z:State} {a0:Array Value} {h h':Heap} {a:Nat}
def MakOK(C:String)(gds:List (String×String))(fds:List (String×String×Nat))(arrs:List (FieldType×Nat))(items:List Item)(Z:State)(a0:Array Value):Prop:=
 (∀t idx n d,(t,idx,n,d)∈items->(Cond.fieldLink C idx C n d).before a0 Z=true/\Laid Z a0 C C n d/\(t=none->d = "I")/\(t≠none->∃u,parseFieldDescriptor d=some (.array u))/\∀t',t=some t'->(Cond.arrayClass (newarray.typeOf t')).before a0 Z=true) /\
 (∀n d,(n,d)∈gds->Laid Z a0 C C n d/\d = "I" /\ ∀n' d' k',(n',d',k')∈fds->n≠n') /\
 (∀n d n' d' q,(n,d,q)∈fds->(n',d',q)∈fds->n=n') /\
 (∀n d n' d',(n,d)∈gds->(n',d')∈gds->n=n'->d=d')/\∀(j:Nat) (ty:FieldType) (n:Nat),arrs[j]? = some (ty,n)->defaultValue ty = .int 0
theorem i32_lit{v:Int}(h0:0<=v)(h1:v<65536):¬Int32.ofInt v<0/\(Int32.ofInt v).toNatClampNeg=v.toNat:=by
 have e:(Int32.ofInt v).toInt=v:=Int32.toInt_ofInt_of_le (by omega) (by omega)
 constructor
 ·rw[Int32.lt_iff_toInt_lt,e]
  have:(0:Int32).toInt=0:=rfl
  omega
 ·simp only[Int32.toNatClampNeg,e]
section Pro
variable {p:Program} {l:Launch} {e:Env} {R:Room} {s:State} {m:MethodId} {args:Array Value} {below:List Frame} {meth:Method} {c:Code} {ρ:Nat->Nat} {items:List Item} {pe n0:Nat} {h0:Heap} {ls:List Value} {L:Array Slot}
theorem simPush{T:State}{locs:List Loc}{cells slots:Nat}(X:Stand p l e R s m args below meth c T locs cells slots)(hx:p.tables.exec=Jvm.exec)(hZ:Z.Warmed39 s.vm){own:String}(hown:s.vm.findClass own=some m.cls)(hC:Cst Tb Z a0 own){pc lp ml:Nat}{ip:Instr}{v:Int}(hd:decode c.code pc = .ok (ip,lp))(ho:lenOK ip lp=true)(hc:canon Tb ml pc ip=some (.iconst v)){st:List Value} :
  Go p e below T (mkF m pc L st) T (mkF m (pc+lp) L (.int (Int32.ofInt v)::st)):=by
 intro t kt
 cases ip<;>try (simp[canon,lt,plain1,heapy] at hc;done)
 case iconst j=>
  cases hc;obtain rfl:lp=1:=by simpa [lenOK,ilen] using ho
  exact XS.iconst X.here hx rfl hd kt
 case bipush j=>
  cases hc;obtain rfl:lp=2:=by simpa [lenOK,ilen] using ho
  rw[Int32.ofInt_toInt] at kt
  exact XS.bipush X.here hx rfl hd kt
 case sipush j=>
  cases hc;obtain rfl:lp=3:=by simpa [lenOK,ilen] using ho
  rw[Int32.ofInt_toInt] at kt
  exact XS.sipush X.here hx rfl hd kt
 case ldc j=>
  obtain⟨w,hw,hc⟩:=Option.map_eq_some_iff.mp hc;cases hc;obtain rfl:lp=2:=by simpa [lenOK,ilen] using ho
  rw[Int32.ofInt_toInt] at kt
  exact X.ldcInt hx hown (cst1 hZ hC hw) (g:=mkF m pc L st) rfl hd _ kt
set_option maxHeartbeats 1000000 in
theorem pro_walk (K : ClsOK C fds arrs Tb Z a0) (M : MakOK C gds fds arrs items Z a0) (hx : p.tables.exec = Jvm.exec) (hZ : Z.Warmed39 s.vm) (hown : s.vm.findClass C = some m.cls) (hCs : Cst Tb Z a0 C) (hnm : meth.name = "<init>") (hn : n0 <= a) (RL : LocRel ρ (.ref 0 :: ls) L) (W : WFL L) (hρ : ρ 0 = a) (hsz : s.heap.size = a + 1)
    (hRc : arrs.length <= R.cells) (hRs : slotSum arrs arrs.length <= R.slots) :
    ∀ (its : List Item) (pc k : Nat) (iv : List (Nat × Int)) (g : Nat -> Int32) (T : State) (locs : List Loc), (∀ it ∈ its, it ∈ items) -> proChk c.code Tb L.size gds fds arrs pe its pc k iv = true -> Stand p l e R s m args below meth c T locs k (slotSum arrs k) -> Part C gds fds arrs Z T.heap a g k -> Keep h0 T.heap (rng arrs a) -> Fr n0 locs ->
      ∃ T' locs', Stand p l e R s m args below meth c T' locs' arrs.length (slotSum arrs arrs.length) /\ Part C gds fds arrs Z T'.heap a (finG g iv) arrs.length /\ Keep h0 T'.heap (rng arrs a) /\ Fr n0 locs' /\ Go p e below T (mkF m pc L []) T' (mkF m pe L []) := by
  intro its
  induction its with
  | nil =>
    intro pc k iv g T locs _ hp X Pt Kp N
    simp only [proChk, Bool.and_eq_true, decide_eq_true_eq] at hp
    obtain ⟨⟨rfl, rfl⟩, rfl⟩ := hp
    exact ⟨T, locs, X, Pt, Kp, N, fun t kt => kt⟩
  | cons it r ih =>
    intro pc k iv g T locs hin hp X Pt Kp N
    obtain ⟨t, idx, n, d⟩ := it
    obtain ⟨wl, ld, hd1, hd2, hd3⟩ := M.1 t idx n d (hin _ (List.mem_cons_self ..))
    have hin' : ∀ it ∈ r, it ∈ items := fun it h => hin it (List.mem_cons_of_mem _ h)
    obtain ⟨kk, wi⟩ := K.1
    obtain ⟨P1, P2, P3, P4, P5⟩ := Pt
    simp only [proChk] at hp
    split at hp
    · rename_i hdA
      split at hp
      · rename_i ip lp hdP
        simp only [Bool.and_eq_true] at hp
        obtain ⟨hlo, hp⟩ := hp
        split at hp
        · rename_i v hcan
          have sA : ∀ (T : State) (locs : List Loc) (cells slots : Nat), Stand p l e R s m args below meth c T locs cells slots -> Go p e below T (mkF m pc L []) T (mkF m (pc + 1 + lp) L [.int (Int32.ofInt v), .ref a]) := by
            intro T locs cells slots X t kt
            refine XS.aloadN X.here hx rfl hdA (RL 0 (.ref 0) rfl (by simp)) rfl ?_
            show Steps p.tables e below (T.setTop (mkF m (pc + 1) L [.ref (ρ 0)])) t
            rw [hρ]
            exact simPush X hx hZ hown hCs hdP hlo hcan t kt
          split at hp
          · -- an array
            rename_i t
            split at hp
            · rename_i t' idx' hdN hdF
              simp only [Bool.and_eq_true, decide_eq_true_eq] at hp
              obtain ⟨⟨⟨⟨⟨⟨rfl, rfl⟩, h1⟩, h2⟩, h3⟩, h4⟩, hp⟩ := hp
              obtain ⟨hneg, hnat⟩ := i32_lit h1 h2
              have hk : k < arrs.length := (List.getElem?_eq_some_iff.mp h3).1
              have hS := slotSum_succ h3
              have hle := slotSum_le (arrs := arrs) (show k + 1 <= arrs.length from hk)
              simp only [] at hS
              obtain ⟨T1, hh1, cA, X1, e1, E1, A1, st1⟩ := newP X hx hZ (hd3 t' rfl) rfl (g := mkF m (pc + 1 + lp) L [.int (Int32.ofInt v), .ref a]) rfl hdN rfl hneg (cap := v.toNat) (by omega) (by omega) (by omega) (by omega)
              subst e1
              have hsz1 : T1.heap.size = a + 1 + (k + 1) := by
                have u := X1.heapSize
                have lo : T.heap.size < T1.heap.size := A1.lt
                omega
              have eA : T.heap.size = a + (k + 1) := by omega
              have F1 : ∃ v, Fld Z T.heap a C n d v := by
                have := P3 n d _ h4
                rw [if_pos (by omega), if_neg (by omega)] at this
                exact this
              obtain ⟨v0, F1⟩ := F1
              obtain ⟨u, hu⟩ := hd2 (by simp)
              have LL : (Cond.lays C C n d).before a0 Z = true \/ ((Cond.laysFinal C C n d).before a0 Z = true /\ C = C /\ meth.name = "<init>") := ld.imp id (fun q => ⟨q, rfl, hnm⟩)
              obtain ⟨T2, hh2, X2, e2, W2, st2⟩ := putF X1 hx hZ hown (host := "") (Or.inl wl) Via.refl rfl (F1.ext E1) (P1.ext E1) LL wi (ty := .array u) hu (v := .ref T.heap.size) rfl rfl (g := mkF m (pc + 1 + lp + 2) L [.ref T.heap.size, .ref a]) rfl rfl hdF
              subst e2
              rw [<- hS] at X2
              have Pt2 : Part C gds fds arrs Z T2.heap a g (k + 1) := by
                refine ⟨(P1.ext E1).wr W2, fun n' d' hg => ?_, fun n' d' q hq => ?_, fun j ty len hj hq => ?_, by rw [W2.size]; exact hsz1⟩
                · obtain ⟨v', Fg⟩ := P2 n' d' hg
                  obtain ⟨lg, rfl, hne⟩ := M.2.1 n' d' hg
                  exact ⟨v', (Fg.ext E1).other W2 (Or.inr (slot_ne lg ld (hne _ _ _ h4) (t := .int) (by decide) hu))⟩
                · have Fq := P3 n' d' q hq
                  by_cases e' : n' = n
                  · obtain ⟨rfl, rfl⟩ := K.2.2.1 _ _ _ _ _ _ hq h4 e'
                    subst e'
                    rw [if_pos (by omega), if_pos (by omega)]
                    have hsame := (F1.ext E1).same W2
                    have e3 : (3 * k + 2) / 3 + 1 = k + 1 := by omega
                    rw [e3, <- eA]
                    exact hsame
                  · obtain ⟨l2, -, -, -, t2, p2⟩ := K.2.1 _ _ _ hq
                    have ns := slot_ne l2 ld e' p2 hu
                    by_cases q3 : q % 3 = 2
                    · rw [if_pos q3] at Fq ⊢
                      by_cases q4 : q / 3 < k
                      · rw [if_pos q4] at Fq
                        rw [if_pos (by omega)]
                        exact (Fq.ext E1).other W2 (Or.inr ns)
                      · rw [if_neg q4] at Fq
                        have : ¬ q / 3 < k + 1 := fun q5 => by
                          have : q = 3 * k + 2 := by omega
                          subst this
                          exact e' (M.2.2.1 _ _ _ _ _ hq h4)
                        rw [if_neg this]
                        obtain ⟨v', Fq⟩ := Fq
                        exact ⟨v', (Fq.ext E1).other W2 (Or.inr ns)⟩
                    · rw [if_neg q3] at Fq ⊢
                      exact (Fq.ext E1).other W2 (Or.inr ns)
                · by_cases q4 : j < k
                  · obtain ⟨cell, A, z, H⟩ := P4 j ty len q4 hq
                    exact ⟨cell, (A.ext E1).other W2 (ne1 a j), z, H⟩
                  · have : j = k := by omega
                    subst this
                    cases h3.symm.trans hq
                    rw [eA] at A1
                    refine ⟨_, A1.other W2 (ne1 a j), by rw [sz_new, hnat], fun i hi => ?_⟩
                    have := M.2.2.2.2 j _ _ hq
                    simp only [newA, this, hnat]
                    rw [Array.getElem?_replicate, if_pos hi]
              obtain ⟨T', locs', X', Pt', Kp', N', G'⟩ := ih (pc + 1 + lp + 5) (k + 1) iv g T2 _ hin' hp X2 Pt2 ((Kp.ext E1).wr W2 (Or.inl (mem_rng (r := 0) (Nat.zero_le _)))) (N.app fun y hy => by cases List.mem_singleton.mp hy; exact hn)
              exact ⟨T', locs', X', Pt', Kp', N', fun t kt => sA T locs _ _ X t (st1 t (st2 t (G' t kt)))⟩
            · cases hp
          · -- a constant field
            split at hp
            · rename_i idx' hdF
              simp only [Bool.and_eq_true, decide_eq_true_eq] at hp
              obtain ⟨rfl, hp⟩ := hp
              split at hp
              · -- one that is not read
                rename_i hg
                obtain ⟨v0, F1⟩ := P2 n d hg
                obtain ⟨lg, rfl, hne⟩ := M.2.1 n d hg
                have LL : (Cond.lays C C n "I").before a0 Z = true \/ ((Cond.laysFinal C C n "I").before a0 Z = true /\ C = C /\ meth.name = "<init>") := ld.imp id (fun q => ⟨q, rfl, hnm⟩)
                obtain ⟨T2, hh2, X2, e2, W2, st2⟩ := putF X hx hZ hown (host := "") (Or.inl wl) Via.refl rfl F1 P1 LL wi (ty := .int) (by decide) (v := .int (Int32.ofInt v)) rfl rfl (g := mkF m (pc + 1 + lp) L [.int (Int32.ofInt v), .ref a]) rfl rfl hdF
                subst e2
                have Pt2 : Part C gds fds arrs Z T2.heap a g k := by
                  refine ⟨P1.wr W2, fun n' d' hg' => ?_, fun n' d' q hq => ?_, fun j ty len hj hq => ?_, by rw [W2.size]; exact P5⟩
                  · obtain ⟨v', Fg⟩ := P2 n' d' hg'
                    by_cases e' : n' = n
                    · obtain rfl := M.2.2.2.1 _ _ _ _ hg' hg e'
                      subst e'
                      exact ⟨_, Fg.same W2⟩
                    · obtain ⟨lg', rfl, -⟩ := M.2.1 n' d' hg'
                      exact ⟨v', Fg.other W2 (Or.inr (slot_ne lg' lg e' (t := .int) (t' := .int) (by decide) (by decide)))⟩
                  · have Fq := P3 n' d' q hq
                    obtain ⟨l2, -, -, -, t2, p2⟩ := K.2.1 _ _ _ hq
                    have ns := slot_ne l2 lg (Ne.symm (hne _ _ _ hq)) p2 (t' := .int) (by decide)
                    by_cases q3 : q % 3 = 2
                    · rw [if_pos q3] at Fq ⊢
                      by_cases q4 : q / 3 < k
                      · rw [if_pos q4] at Fq ⊢
                        exact Fq.other W2 (Or.inr ns)
                      · rw [if_neg q4] at Fq ⊢
                        obtain ⟨v', Fq⟩ := Fq
                        exact ⟨v', Fq.other W2 (Or.inr ns)⟩
                    · rw [if_neg q3] at Fq ⊢
                      exact Fq.other W2 (Or.inr ns)
                  · obtain ⟨cell, A, z, H⟩ := P4 j ty len hj hq
                    exact ⟨cell, A.other W2 (ne1 a j), z, H⟩
                obtain ⟨T', locs', X', Pt', Kp', N', G'⟩ := ih (pc + 1 + lp + 3) k iv g T2 _ hin' hp X2 Pt2 (Kp.wr W2 (Or.inl (mem_rng (r := 0) (Nat.zero_le _)))) (N.app fun y hy => by cases List.mem_singleton.mp hy; exact hn)
                exact ⟨T', locs', X', Pt', Kp', N', fun t kt => sA T locs _ _ X t (st2 t (G' t kt))⟩
              · -- one that is read
                split at hp
                · rename_i q0 iv
                  obtain ⟨sl0, v1⟩ := q0
                  simp only [Bool.and_eq_true, decide_eq_true_eq] at hp
                  obtain ⟨⟨hm, rfl⟩, hp⟩ := hp
                  have F1 := P3 n d _ hm
                  rw [if_neg (by omega)] at F1
                  obtain ⟨-, kl, kI, -⟩ := K.2.1 n d _ hm
                  obtain rfl := kI (by omega)
                  have e3 : 3 * sl0 / 3 = sl0 := by omega
                  rw [e3] at F1
                  obtain ⟨T2, hh2, X2, e2, W2, st2⟩ := putF X hx hZ hown (host := "") (Or.inl wl) Via.refl rfl F1 P1 (Or.inl (kl (by omega))) wi (ty := .int) (by decide) (v := .int (Int32.ofInt v1)) rfl rfl (g := mkF m (pc + 1 + lp) L [.int (Int32.ofInt v1), .ref a]) rfl rfl hdF
                  subst e2
                  have Pt2 : Part C gds fds arrs Z T2.heap a (fun i => if i = sl0 then Int32.ofInt v1 else g i) k := by
                    refine ⟨P1.wr W2, fun n' d' hg' => ?_, fun n' d' q hq => ?_, fun j ty len hj hq => ?_, by rw [W2.size]; exact P5⟩
                    · obtain ⟨v', Fg⟩ := P2 n' d' hg'
                      obtain ⟨lg', rfl, hne⟩ := M.2.1 n' d' hg'
                      exact ⟨v', Fg.other W2 (Or.inr (slot_ne lg' ld (hne _ _ _ hm) (t := .int) (t' := .int) (by decide) (by decide)))⟩
                    · have Fq := P3 n' d' q hq
                      by_cases e' : n' = n
                      · obtain ⟨rfl, rfl⟩ := K.2.2.1 _ _ _ _ _ _ hq hm e'
                        subst e'
                        rw [if_neg (by omega)] at Fq ⊢
                        rw [e3]
                        dsimp only
                        rw [if_pos rfl]
                        exact Fq.same W2
                      · obtain ⟨l2, -, -, -, t2, p2⟩ := K.2.1 _ _ _ hq
                        have ns := slot_ne l2 ld e' p2 (t' := .int) (by decide)
                        by_cases q3 : q % 3 = 2
                        · rw [if_pos q3] at Fq ⊢
                          split at Fq
                          · rename_i q4; rw [if_pos q4]; exact Fq.other W2 (Or.inr ns)
                          · rename_i q4; rw [if_neg q4]
                            obtain ⟨v', Fq⟩ := Fq
                            exact ⟨v', Fq.other W2 (Or.inr ns)⟩
                        · rw [if_neg q3] at Fq ⊢
                          have : q / 3 ≠ sl0 := fun q5 => K.2.2.2.1 _ _ _ _ _ _ hq hm e' q3 (by omega) (by omega)
                          dsimp only
                          rw [if_neg this]
                          exact Fq.other W2 (Or.inr ns)
                    · obtain ⟨cell, A, z, H⟩ := P4 j ty len hj hq
                      exact ⟨cell, A.other W2 (ne1 a j), z, H⟩
                  obtain ⟨T', locs', X', Pt', Kp', N', G'⟩ := ih (pc + 1 + lp + 3) k iv _ T2 _ hin' hp X2 Pt2 (Kp.wr W2 (Or.inl (mem_rng (r := 0) (Nat.zero_le _)))) (N.app fun y hy => by cases List.mem_singleton.mp hy; exact hn)
                  exact ⟨T', locs', X', Pt', Kp', N', fun t kt => sA T locs _ _ X t (st2 t (G' t kt))⟩
                · cases hp
            · cases hp
        · cases hp
      · cases hp
    · cases hp
end Pro
theorem Part.done(K:ClsOK C fds arrs Tb Z a0)(hcov:∀n d q,(n,d,q)∈fds->q%3=2->q/3<arrs.length){g:Nat->Nat->Int32}{g0:Nat->Int32}(hg0:∀i,g 0 i=g0 i)(hg:∀c i,g (c+1) i=0)(Pt:Part C gds fds arrs Z h a g0 arrs.length):ObjAt C fds arrs Z h a g:=by
 obtain⟨P1,P2,P3,P4,P5⟩:=Pt
 refine⟨P1,fun n d q hq=>?_,fun j ty len hj=>?_⟩
 ·have F:=P3 n d q hq
  by_cases q3:q%3=2
  ·rw[if_pos q3,if_pos (hcov n d q hq q3)] at F
   rw[if_pos q3];exact F
  ·rw[if_neg q3] at F ⊢
   rw[hg0];exact F
 ·obtain⟨cell,A,z,H⟩:=P4 j ty len (List.getElem?_eq_some_iff.mp hj).1 hj
  exact⟨cell,A,z,fun i hi=>by rw[hg];exact H i hi⟩
section Met0
variable {σ:Type} {G:σ->Nat->Nat->Int32} {mi:MI} {rt:Nat->Option FieldType} {l:Launch} {items:List Item} {pe oi:Nat} {iv:List (Nat×Int)}
theorem met0{code:Codes}{mop:Mop σ}{cop:Cop}{n:Nat}(hW:Walks code rt mop cop mi C Z l rho1 (J1 C fds arrs Z G) n)(hpn:plainName C=true)(hcls:(mi 0).1.cls=C)(hnm0:(mi 0).1.name = "<init>")(hrt:rt 0=none)(K:ClsOK C fds arrs Tb Z a0)(M:MakOK C gds fds arrs items Z a0)(hCs:Cst Tb Z a0 C)
  (hcov:∀n d q,(n,d,q)∈fds->q%3=2->q/3<arrs.length) (hp:proChk (mi 0).2.1 Tb (mi 0).2.2.1 gds fds arrs pe items 4 0 iv=true) (d0:decode (mi 0).2.1 0 = .ok (.aload_n 0,1)) (d1:decode (mi 0).2.1 1 = .ok (.invokespecial oi,3))
  (w1:(Cond.methodLink C oi Lib.objectInit).before a0 Z=true) (w2:(Cond.instanceMethod Lib.objectInit).before a0 Z=true) (w3:(Cond.code Lib.objectInit ⟨#[0xb1]⟩ 1 none).before a0 Z=true) (hf:1<=(mi 0).2.2.2.1) (hlw:12<=(mi 0).2.2.2.2)
  {as:List Value} (hok:okn as=true) (hlen:(entL (.ref 0::as)).length<=(mi 0).2.2.1) {S:σ} (hS0:∀i,G S 0 i=finG (fun _=>0) iv i) (hS:∀c i,G S (c+1) i=0) {r:Res σ} (hit:iter (plan code rt mop cop) n (0,pe,entL (.ref 0::as),[],S)=some r) {a:Nat} {h:Heap} {n0:Nat} (Pt:Part C gds fds arrs Z h a (fun _=>0) 0) (hn:n0<=a) (ws:List Jvm.Cond) :
  MetFree l (mi 0).1 (head1 (Cond.code (mi 0).1 (mi 0).2.1 (mi 0).2.2.1 none::ws) ({ frames:=(mi 0).2.2.2.1,cells:=arrs.length,slots:=slotSum arrs arrs.length,locals:=(mi 0).2.2.2.2 }:Room))
   (fun A U=>A=(.ref a::as).toArray/\Z.Warmed39 U.vm/\U.heap=h) (fun _ _ _ _ _=>True)
   (fun _ U o U'=>∃v L,o = .returned v/\(v=none/\Fr n0 L/\Keep h U'.heap (rng arrs a)/\ObjAt C fds arrs Z U'.heap a (G r.2))/\FrameEnd U o U' L arrs.length (slotSum arrs arrs.length)):=by
 refine MetFree.of_bodySF (plainFor_of_name (by rw[hcls];exact hpn)) hisR ?_
 intro p e s m args below meth c s₁ Bd hml0 hP hK
 obtain⟨rfl,hZ,hh⟩:=hP
 have hx:=Bd.exec
 have hby:=Bd.bytes
 have hown:s.vm.findClass C=some m.cls:=by rw[<-hcls];exact findClass_of_methodNamed Bd.named
 have hnm:=(name_of_methodNamed Bd.named Bd.method).1
 have X0:=Stand.of_body Bd
 have e0:s₁.heap=h:=by rw[<-hh,Bd.state];rfl
 have x:I1:=(a,h,n0,arrs.length,slotSum arrs arrs.length)
 obtain⟨L,q1,q2,q3,q4⟩:=entry_rel (rho1 (a,h,n0,arrs.length,slotSum arrs arrs.length)) (vs:= .ref 0::as) (by simpa [okv] using (okn_spec hok).1) hlen
 have hsz:L.size=c.maxLocals:=by rw[q4,hml0]
 have q2':LocRel (rho1 (a,h,n0,arrs.length,slotSum arrs arrs.length)) (.ref 0::entL as) L:=q2
 obtain⟨T1,X1,e1,st1⟩:=initO X0 hx hZ hown w1 w2 w3 e0 (g:=mkF m 1 L [.ref a]) rfl hsz rfl (hb hby d1) hf (W:=0) (by show 2*0+_<=_;exact Nat.le_of_eq rfl) (by show 0+12<=(mi 0).2.2.2.2;omega)
 obtain⟨T2,locs2,X2,P2,K2,N2,G2⟩:=pro_walk (ρ:=rho1 (a,h,n0,arrs.length,slotSum arrs arrs.length)) (pe:=pe) (h0:=h) (items:=items) K M hx hZ hown hCs (hnm.trans hnm0) hn q2' q3 rfl (by rw[hh];exact Pt.2.2.2.2) (Nat.le_refl _) (Nat.le_refl _) items 4 0 iv (fun _=>0) T1 [] (fun _ h=>h) (by rw[hby,q4];exact hp) X1 (by rw[e1];exact Pt) (by rw[e1];exact Keep.refl _ _) (Fr.nil _)
 obtain⟨T',L',k',n',X',⟨j1,j2,-,-,j5,j6,j7,-⟩,⟨ok1,ok2⟩,st⟩:=hW (a,h,n0,arrs.length,slotSum arrs arrs.length) p e _ s m _ below meth c 0 pe _ [] S r hit T2 locs2 _ _ L X2 ⟨hx,hZ,hown,hby,hml0,by rw[hrt];exact Bd.returns,hnm,Nat.le_refl _,Nat.le_refl _⟩
  ⟨rfl,rfl,Nat.le_refl _,Nat.le_refl _,P2.done K hcov hS0 hS,K2,N2,hn⟩ q2 q3 hsz
 have hr0:r.1=none:=ok1 Bd.returns
 obtain⟨fs,hr,hrun,hended,hWm,hsame⟩:=X'.leave (v:=none) (fun _=>rfl)
 rw[hr0] at st
 refine⟨_,_,?_,hrun,hended,_,_,rfl,⟨rfl,j7,j6,j5⟩,⟨_,rfl⟩,hWm,by subst j1 j2;exact hsame⟩
 rw[show entryFrame m (.ref a::as).toArray (mi 0).2.2.1=mkF m 0 L [] from by rw[<-q1 m,List.map_cons,(okn_spec hok).2];rfl]
 refine XS.aloadN X0.here hx rfl (hb hby d0) (q2' 0 (.ref 0) rfl (by simp)) rfl ?_
 exact st1 _ (G2 _ (st fs hr))
end Met0
end Maker
section Ops2
variable {σ:Type}
abbrev W2(σ:Type):=Bool×List σ
def nw(nmax m:Nat)(st:List Value):W2 σ->Option (List Value×W2 σ)
 |(false,ob)=>if m=0/\ob.length<nmax then some (.ref (ob.length+1)::st,(true,ob)) else none
 |_=>none
def ct(f1:Cfg σ->Option (Res σ))(Z0:σ)(pe na0 ml0 w m:Nat)(st:List Value):W2 σ->Option (List Value×W2 σ)
 |(true,ob)=>(match takeA na0 [] st with
  |some (as,.ref r::rest)=>if (m=0/\r=ob.length+1)/\okn as=true/\cats rest<=w/\(entL (.ref 0::as)).length<=ml0 then (f1 (0,pe,entL (.ref 0::as),[],Z0)).map fun q=>(rest,(false,ob++[q.2])) else none
  |_=>none)
 |_=>none
def vt(f1:Cfg σ->Option (Res σ))(na ml:Nat->Nat)(w k:Nat)(st:List Value):W2 σ->Option (List Value×W2 σ)
 |(false,ob)=>(match takeA (na k) [] st with
  |some (as,.ref (o+1)::rest)=>(match ob[o]? with
   |some S=>if okn as=true/\cats rest<=w/\(entL (.ref 0::as)).length<=ml k then (f1 (k,0,entL (.ref 0::as),[],S)).map fun q=>(q.1.toList++rest,(false,ob.set o q.2)) else none
   |none=>none)
  |_=>none)
 |_=>none
def sl(sc:List Int32)(w:W2 σ):List Value->Option (List Value×W2 σ)
 | .int i :: .ref 0::r=>if inb i sc.length=true then some (.int (sc.getD i.toNatClampNeg 0)::r,w) else none
 |_=>none
def sn(sc:List Int32)(w:W2 σ):List Value->Option (List Value×W2 σ)
 | .ref 0::r=>some (.int (Int32.ofNat sc.length)::r,w)
 |_=>none
def mop2(f1:Cfg σ->Option (Res σ))(Z0:σ)(pe nmax:Nat)(na ml wm:Nat->Nat)(sc:Option (List Int32)):Mop (W2 σ):=fun m i st w=>match i with
 | .new _=>nw nmax m st w
 | .invokespecial _=>ct f1 Z0 pe (na 0) (ml 0) (wm m) m st w
 | .invokevirtual k=>vt f1 na ml (wm m) k st w
 | .iaload=>(match sc with
  |some xs=>sl xs w st
  |none=>none)
 | .arraylength=>(match sc with
  |some xs=>sn xs w st
  |none=>none)
 |_=>none
def cop2(na ml wm:Nat->Nat):Cop:=fun m i st=>match i with
 | .invokestatic k=>(match takeA (na k) [] st with
  |some (as,r)=>if k≠0/\okv as=true/\cats r<=wm m/\(entL as).length<=ml k then some (k,as,r) else none
  |none=>none)
 |_=>none
def cnt(K1:Nat)(w:W2 σ):Nat:=w.2.length*K1+(if w.1=true then 1 else 0)
def scn(fs s1:Nat)(w:W2 σ):Nat:=w.2.length*(fs+s1)+(if w.1=true then fs else 0)
end Ops2
section L2
variable {σ:Type} (C:String) (gds:List (String×String)) (fds:List (String×String×Nat)) (arrs:List (FieldType×Nat)) (Z:State) (G:σ->Nat->Nat->Int32) (fs nmax:Nat) (sc:Option (List Int32))
abbrev I2:=Nat×Nat×Nat×Nat
def rho2(K1:Nat)(x:I2):Nat->Nat
 |0=>x.1
 |o+1=>x.2.1+o*K1
def Heap2(sa n0:Nat)(w:W2 σ)(h:Heap):Prop:=
 (∀(o:Nat) (S:σ),w.2[o]? = some S->ObjAt C fds arrs Z h (n0+o*(arrs.length+1)) (G S))/\(w.1=true->Part C gds fds arrs Z h (n0+w.2.length*(arrs.length+1)) (fun _=>0) 0/\w.2.length<nmax)/\h.size=n0+cnt (arrs.length+1) w /\
 ∀xs,sc=some xs->sa<n0/\xs.length<2147483648/\∃cell,Arr Z h sa cell .int/\cell.slots.size=xs.length/\∀i,i<xs.length->cell.slots[i]? = some (.int (xs.getD i 0))
def J2(x:I2)(R:Room)(s:State)(mm:Nat)(w:W2 σ)(T:State)(locs:List Loc)(cells slots:Nat):Prop:=
 (cells+x.2.2.1=cnt (arrs.length+1) w/\slots+x.2.2.2=scn fs (slotSum arrs arrs.length) w)/\(cells<=R.cells/\slots<=R.slots) /\
 (mm=0->x.2.2.1=0/\x.2.2.2=0/\nmax*(arrs.length+1)<=R.cells/\nmax*(fs+slotSum arrs arrs.length)<=R.slots)/\(mm≠0->cells=0/\slots=0)/\s.heap.size=x.2.1+x.2.2.1/\Heap2 C gds fds arrs Z G nmax sc x.1 x.2.1 w T.heap/\Fr x.2.1 locs
variable {C gds fds arrs Z G fs nmax sc}
theorem ObjAt.ext{h h':Heap}{a:Nat}{g:Nat->Nat->Int32}(O:ObjAt C fds arrs Z h a g)(E:Ext h h'):ObjAt C fds arrs Z h' a g:=
 ⟨O.1.ext E,fun n d k hm=>(O.2.1 n d k hm).ext E,fun j ty len hj=>by obtain⟨cell,A,r⟩:=O.2.2 j ty len hj;exact⟨cell,A.ext E,r⟩⟩
theorem rng_far{K:List (FieldType×Nat)}{n0 o o' r:Nat}(h:o≠o')(hr:r<=K.length):n0+o*(K.length+1)+r∉rng K (n0+o'*(K.length+1)):=by
 intro q
 obtain⟨r',h1,h2⟩:=List.mem_map.mp q
 have h1:=List.mem_range.mp h1
 rcases Nat.lt_or_gt_of_ne h with c | c
 ·have:=Nat.mul_le_mul_right (K.length+1) (show o+1<=o' from c)
  rw[Nat.add_mul] at this
  omega
 ·have:=Nat.mul_le_mul_right (K.length+1) (show o'+1<=o from c)
  rw[Nat.add_mul] at this
  omega
theorem rng_low{K:List (FieldType×Nat)}{n0 o sa:Nat}(h:sa<n0):sa∉rng K (n0+o*(K.length+1)):=by
 intro q
 obtain⟨r',h1,h2⟩:=List.mem_map.mp q
 omega
variable {Tb1 Tb2:Tabs} {a0:Array Value} {mi1 mi2:MI} {rt1 rt2:Nat->Option FieldType} {l:Launch} {own:String} {na1 na2 wm1 wm2:Nat->Nat} {code1:Codes} {P:σ->Nat->Nat->Int32->σ} {items:List Item} {pe oi:Nat} {Z0:σ} {iv:List (Nat×Int)}
def CtW(Z:State)(a0:Array Value)(Tb2:Tabs)(own:String)(y:MethodName)(bytes:ByteArray)(ml:Nat):Prop:=
 (∀idx q,(idx,q)∈Tb2.2.2.2.2.2.2->(Cond.methodLink own idx y).before a0 Z=true)/\(Cond.instanceMethod y).before a0 Z=true/\(Cond.code y bytes ml none).before a0 Z=true
theorem canon_new{Tb:Tabs}{ml pc k:Nat}{i0:Instr}(h:canon Tb ml pc i0=some (.new k)):∃idx,i0 = .new idx/\(idx,k)∈Tb.2.2.2.2.2.1:=by
 cases i0<;>try (simp[canon,lt,plain1,heapy] at h;done)
 case new idx=>
  obtain⟨k',h1,h2⟩:=Option.map_eq_some_iff.mp h
  cases h2
  exact⟨idx,rfl,lk_mem h1⟩
theorem canon_spec{Tb:Tabs}{ml pc k:Nat}{i0:Instr}(h:canon Tb ml pc i0=some (.invokespecial k)):∃idx,i0 = .invokespecial idx/\(idx,k)∈Tb.2.2.2.2.2.2:=by
 cases i0<;>try (simp[canon,lt,plain1,heapy] at h;done)
 case invokespecial idx=>
  obtain⟨k',h1,h2⟩:=Option.map_eq_some_iff.mp h
  cases h2
  exact⟨idx,rfl,lk_mem h1⟩
theorem canon_stat{Tb:Tabs}{ml pc k:Nat}{i0:Instr}(h:canon Tb ml pc i0=some (.invokestatic k)):∃idx,i0 = .invokestatic idx/\(idx,k)∈Tb.2.2.1:=by
 cases i0<;>try (simp[canon,lt,plain1,heapy] at h;done)
 case invokestatic idx=>
  obtain⟨k',h1,h2⟩:=Option.map_eq_some_iff.mp h
  cases h2
  exact⟨idx,rfl,lk_mem h1⟩
def Base(C:String)(gds:List (String×String))(fds:List (String×String×Nat))(arrs:List (FieldType×Nat))(items:List Item)(Z:State)(a0:Array Value)(fs:Nat)(Tb1:Tabs)(mi1:MI)(rt1:Nat->Option FieldType)(na1:Nat->Nat)(pe oi:Nat)(iv:List (Nat×Int)):Prop:=
 (ClsOK C fds arrs Tb1 Z a0/\MakOK C gds fds arrs items Z a0/\Cst Tb1 Z a0 C/\(Cond.instantiable C fs).before a0 Z=true/\(Cond.initialized C).before a0 Z=true) /\
 (plainName C=true/\(C ≠ "java/lang/invoke/MethodHandle" /\ C ≠ "java/lang/invoke/VarHandle")/\(mi1 0).1.cls=C/\(mi1 0).1.name = "<init>" /\ rt1 0=none) /\
 (∀n d q,(n,d,q)∈fds->q%3=2->q/3<arrs.length) /\
 (proChk (mi1 0).2.1 Tb1 (mi1 0).2.2.1 gds fds arrs pe items 4 0 iv=true/\decode (mi1 0).2.1 0 = .ok (.aload_n 0,1)/\decode (mi1 0).2.1 1 = .ok (.invokespecial oi,3)) /\
 ((Cond.methodLink C oi Lib.objectInit).before a0 Z=true/\(Cond.instanceMethod Lib.objectInit).before a0 Z=true/\(Cond.code Lib.objectInit ⟨#[0xb1]⟩ 1 none).before a0 Z=true) /\
 (1<=(mi1 0).2.2.2.1/\12<=(mi1 0).2.2.2.2)/\∃ps,parseMethodDescriptor (mi1 0).1.desc=some ⟨ps,none⟩/\ps.length=na1 0
def Room2(mi1 mi2:MI)(wm2:Nat->Nat)(mm k:Nat):Prop:=(mi1 k).2.2.2.1+1<=(mi2 mm).2.2.2.1/\wm2 mm+((mi1 k).2.2.1+11)+(mi1 k).2.2.2.2<=(mi2 mm).2.2.2.2
set_option maxHeartbeats 1000000 in
theorem mop2_ok{code2:Codes}{f1:Cfg σ->Option (Res σ)}(B:Base C gds fds arrs items Z a0 fs Tb1 mi1 rt1 na1 pe oi iv){mop:Mop σ}{cop:Cop}(hW:∀n,Walks code1 rt1 mop cop mi1 C Z l rho1 (J1 C fds arrs Z G) n)(hf1:∀c r,f1 c=some r->∃n,iter (plan code1 rt1 mop cop) n c=some r)(hZ00:∀i,G Z0 0 i=finG (fun _=>0) iv i)(hZ0:∀c i,G Z0 (c+1) i=0)
  (hnew:∀idx q,(idx,q)∈Tb2.2.2.2.2.2.1->(Cond.classLink own idx C).before a0 Z=true) (hct:CtW Z a0 Tb2 own (mi1 0).1 (mi1 0).2.1 (mi1 0).2.2.1) (hvt:∀k idx,(idx,k)∈Tb2.2.1->MthOK C Tb2 Z a0 mi1 rt1 own k na1)
  (hR:∀mm pc k pn kp,code2 mm pc=some (.invokevirtual k,pn,kp)->Room2 mi1 mi2 wm2 mm k) (hR0:∀mm pc k pn kp,code2 mm pc=some (.invokespecial k,pn,kp)->Room2 mi1 mi2 wm2 mm 0) :
  MopOK code2 rt2 (mop2 f1 Z0 pe nmax na1 (fun k=>(mi1 k).2.2.1) wm2 sc) Tb2 mi2 own Z l (rho2 (arrs.length+1)) (J2 C gds fds arrs Z G fs nmax sc):=by
 intro x p e R s m args below meth c mm pc len i0 i st st' w w' T locs cells slots L X F hJ hs hd ho hc hcd hm
 obtain⟨hx,hZ,hown,f4,f5,f6,f7,f8,f9⟩:=F
 obtain⟨⟨j1,j2⟩,⟨j3,j4⟩,j5,j6,j7,⟨H1,H2,H3,H4⟩,N⟩:=hJ
 obtain⟨⟨K,M,hCs,wi,wz⟩,⟨hpn,hC,hcls,hnm0,hrt0⟩,hcov,⟨hp,d0,d1⟩,⟨w1,w2,w3⟩,⟨hfr,hlw⟩,ps0,hps0,hna0⟩:=B
 have hcat:∀(ρ:Nat->Nat) (r0:List Value),((r0.map (cv ρ)).map fun v=>v.category).sum=cats r0:=by
  intro ρ r0
  have:(r0.map (cv ρ)).map (fun v=>v.category)=r0.map fun v=>v.category:=by
   rw[List.map_map];apply List.map_congr_left;intro v _;cases v<;>rfl
  rw[this];rfl
 unfold mop2 at hm
 split at hm
 ·-- new
  rename_i k
  obtain⟨idx,rfl,hmem⟩:=canon_new hc
  obtain rfl:len=3:=by simpa [lenOK,ilen] using ho
  unfold nw at hm
  split at hm
  ·rename_i ob
   split at hm
   ·rename_i hb
    obtain⟨rfl,hlt⟩:=hb
    cases hm
    obtain⟨c0,s0,hRc,hRs⟩:=j5 rfl
    have m1:(ob.length+1)*(arrs.length+1)<=nmax*(arrs.length+1):=Nat.mul_le_mul_right _ hlt
    have m2:(ob.length+1)*(fs+slotSum arrs arrs.length)<=nmax*(fs+slotSum arrs arrs.length):=Nat.mul_le_mul_right _ hlt
    rw[Nat.add_mul] at m1 m2
    simp only[cnt,scn,Bool.false_eq_true,if_false] at j1 j2 H3
    obtain⟨T1,h1,X1,e1,E1,A1,D1,-,st1⟩:=newO X hx hZ hown (hnew _ _ hmem) wi wz rfl (g:=mkF m pc L (st.map (cv (rho2 (arrs.length+1) x)))) rfl hd (by omega) (by omega)
    subst e1
    have hsz1:T1.heap.size=x.2.1+ob.length*(arrs.length+1)+1:=by
     have u:=X1.heapSize
     have lo:T.heap.size<T1.heap.size:=A1.lt
     omega
    have eA:T.heap.size=x.2.1+ob.length*(arrs.length+1):=by omega
    refine⟨T1,locs,_,_,X1,⟨⟨?_,?_⟩,⟨by omega,by omega⟩,j5,fun q=>absurd rfl q,j7,⟨fun o S hS=>(H1 o S hS).ext E1,fun _=>?_,?_,fun xs hxs=>?_⟩,N⟩,fun t kt=>st1 t (by
     show Steps p.tables e below (T1.setTop (mkF m (pc+3) L (.ref T.heap.size::st.map (cv (rho2 (arrs.length+1) x))))) t
     rw[eA];exact kt)⟩
    ·simp only[cnt,if_true];omega
    ·simp only[scn,if_true];omega
    ·refine⟨?_,hlt⟩
     rw[eA] at A1 D1
     refine⟨A1,fun n d hg=>?_,fun n d q hq=>?_,fun j ty ln hj=>absurd hj (Nat.not_lt_zero _),hsz1⟩
     ·obtain⟨lg,rfl,-⟩:=M.2.1 n d hg
      exact⟨_,D1 lg (ty:= .int) (by decide)⟩
     ·obtain⟨l1,-,k3,k4,t1,p1⟩:=K.2.1 n d q hq
      by_cases q3:q%3=2
      ·rw[if_pos q3,if_neg (Nat.not_lt_zero _)]
       exact⟨_,D1 l1 p1⟩
      ·rw[if_neg q3]
       have h01:q%3=0\/q%3=1:=by omega
       rcases h01 with h0 | h1
       ·obtain rfl:=k3 h0
        exact D1 l1 (ty:= .int) (by decide)
       ·obtain rfl:=k4 h1
        exact D1 l1 (ty:= .boolean) (by decide)
    ·simp only[cnt,if_true];omega
    ·obtain⟨a1,a2,cell,A,r⟩:=H4 xs hxs
     exact⟨a1,a2,cell,A.ext E1,r⟩
   ·cases hm
  ·cases hm
 ·-- the maker
  rename_i k
  obtain⟨idx,rfl,hmem⟩:=canon_spec hc
  obtain rfl:len=3:=by simpa [lenOK,ilen] using ho
  unfold ct at hm
  split at hm
  ·rename_i ob
   split at hm
   ·rename_i as r rest ht
    split at hm
    ·rename_i hb
     obtain⟨⟨rfl,rfl⟩,hok,hct',hlen⟩:=hb
     obtain⟨q,hq,hm⟩:=Option.map_eq_some_iff.mp hm
     cases hm
     obtain⟨c0,s0,hRc,hRs⟩:=j5 rfl
     obtain⟨n,hit⟩:=hf1 _ _ hq
     obtain⟨qs,q1,q2,q3⟩:=takeA_spec ht
     have q2':as=qs:=by simpa using q2
     subst q2'
     obtain⟨Pq,hlt⟩:=H2 rfl
     simp only[] at Pq hlt
     have m1:(ob.length+1)*(arrs.length+1)<=nmax*(arrs.length+1):=Nat.mul_le_mul_right _ hlt
     have m2:(ob.length+1)*(fs+slotSum arrs arrs.length)<=nmax*(fs+slotSum arrs arrs.length):=Nat.mul_le_mul_right _ hlt
     rw[Nat.add_mul] at m1 m2
     have hM:=met0 (hW n) hpn hcls hnm0 hrt0 K M hCs hcov hp d0 d1 w1 w2 w3 hfr hlw hok hlen hZ00 hZ0 hit Pq (n0:=x.2.1) (Nat.le_add_right _ _) []
     obtain⟨kp,hcd⟩:=hcd
     have hroom:Room2 mi1 mi2 wm2 0 0:=hR0 _ _ _ _ _ hcd
     have hB:=backOf (W:=wm2 0) (rm:={ frames:=(mi1 0).2.2.2.1,cells:=arrs.length,slots:=slotSum arrs arrs.length,locals:=(mi1 0).2.2.2.2 }) (Q:=fun v h' L=>v=none/\Fr x.2.1 L/\Keep T.heap h' (rng arrs (x.2.1+ob.length*(arrs.length+1)))/\ObjAt C fds arrs Z h' (x.2.1+ob.length*(arrs.length+1)) (G q.2)) hM hZ hct.2.2 (by rw[hcls];exact wz) (Nat.le_trans hroom.1 f8) (Nat.le_trans hroom.2 f9) (R:=R) (p:=p) (e:=e) (below:=below) (s:=s) (args:=args) (len:=3)
     simp only[cnt,scn,if_true] at j1 j2 H3
     obtain⟨v,vm₁,⟨T',L',c',s'⟩,-,X',⟨Lc,⟨hv0,hN,hK,hO⟩,l1,l2,l3⟩,st1⟩:=X.specialBack hx (y:=(mi1 0).1) hnm0 hown (mvT hZ (hct.1 _ _ hmem)) (mvT hZ hct.2.1) (mvT hZ hct.2.2) (by rw[hcls];exact hC) hB (g:=mkF m pc L (st.map (cv (rho2 (arrs.length+1) x)))) rfl hs (Steps.refl _) (a:=x.2.1+ob.length*(arrs.length+1)) (argsL:=as) (rest:=st'.map (cv (rho2 (arrs.length+1) x))) (lenOf hps0 (by omega))
      (by show st.map _=_;rw[q3,List.map_append,List.map_reverse,(okn_spec hok).2];rfl) (by show 2*0+_<=_;rw[hcat];omega) hd (fun vm _=>⟨rfl,rfl,by show cells+arrs.length<=R.cells;omega,by show slots+slotSum arrs arrs.length<=R.slots;omega⟩)
     dsimp only [Pt.U,Pt.locs,Pt.cells,Pt.slots] at X' l1 l2 l3 st1 hN hK hO
     subst l1 l2 l3 hv0
     have hsz1:T'.heap.size=x.2.1+(ob.length+1)*(arrs.length+1):=by
      have u:=X'.heapSize
      have lo:x.2.1+ob.length*(arrs.length+1)+arrs.length<T'.heap.size:=by
       by_cases har:arrs.length=0
       ·have:=hO.1.lt
        rw[har] at this ⊢
        exact this
       ·have hk1:arrs.length-1<arrs.length:=by omega
        obtain⟨⟨ty,ln⟩,hq'⟩:∃q,arrs[arrs.length-1]? = some q:=⟨arrs[arrs.length-1],by simp[hk1]⟩
        obtain⟨cell,A,-⟩:=hO.2.2 _ ty ln hq'
        have lt1:x.2.1+ob.length*(arrs.length+1)+(arrs.length-1+1)<T'.heap.size:=A.lt
        omega
      rw[Nat.add_mul]
      omega
     refine⟨T',_,_,_,X',⟨⟨?_,?_⟩,⟨?_,?_⟩,j5,fun q=>absurd rfl q,j7,⟨fun o S hS=>?_,fun q=>(by cases q),?_,fun xs hxs=>?_⟩,N.app hN⟩,fun t kt=>st1.trans kt⟩
     ·show cells+arrs.length+x.2.2.1=_
      simp only[cnt,List.length_append,List.length_singleton,Bool.false_eq_true,if_false,Nat.add_mul];omega
     ·show slots+slotSum arrs arrs.length+x.2.2.2=_
      simp only[scn,List.length_append,List.length_singleton,Bool.false_eq_true,if_false,Nat.add_mul];omega
     ·show cells+arrs.length<=_;omega
     ·show slots+slotSum arrs arrs.length<=_;omega
     ·simp only[] at hS
      by_cases q:o<ob.length
      ·rw[List.getElem?_append_left q] at hS
       exact (H1 o S hS).keep hK fun r hr=>rng_far (by omega) hr
      ·have:o=ob.length:=by
        have:=(List.getElem?_eq_some_iff.mp hS).1
        simp at this;omega
       subst this
       simp at hS
       subst hS
       exact hO
     ·simp only[cnt,List.length_append,List.length_singleton,Bool.false_eq_true,if_false];exact hsz1
     ·obtain⟨a1,a2,cell,A,r⟩:=H4 xs hxs
      exact⟨a1,a2,cell,⟨hK.2.1 _ _ A.1 (rng_low a1),A.2⟩,r⟩
    ·cases hm
   ·cases hm
  ·cases hm
 ·-- a method of the object
  rename_i k
  obtain⟨idx,rfl,hmem⟩:=canon_inv hc
  obtain rfl:len=3:=by simpa [lenOK,ilen] using ho
  unfold vt at hm
  split at hm
  ·rename_i ob
   split at hm
   ·rename_i as o rest ht
    split at hm
    ·rename_i S hS
     split at hm
     ·rename_i hb
      obtain⟨hok,hct',hlen⟩:=hb
      obtain⟨q,hq,hm⟩:=Option.map_eq_some_iff.mp hm
      cases hm
      obtain⟨n,hit⟩:=hf1 _ _ hq
      obtain⟨qs,q1,q2,q3⟩:=takeA_spec ht
      have q2':as=qs:=by simpa using q2
      subst q2'
      obtain⟨hv,ps,hps,hna⟩:=hvt k idx hmem
      have hv:=hv idx hmem
      have O:=H1 o S hS
      have hM:=met1 (ws:=[]) (hW n) hpn hv.1 hok hlen hit O (n0:=x.2.1) (Nat.le_add_right _ _)
      obtain⟨kp,hcd⟩:=hcd
      have hroom:Room2 mi1 mi2 wm2 mm k:=hR _ _ _ _ _ hcd
      obtain⟨v,T',Lc,X',⟨e1,e0,e2,e3,e4⟩,G'⟩:=callV X hx hZ hown hv wi wz hC hps (as':=as) (by omega) (Q:=fun v h' L=>v=q.1/\(∀ρ',q.1.map (cv ρ')=q.1)/\Fr x.2.1 L/\Keep T.heap h' (rng arrs (x.2.1+o*(arrs.length+1)))/\ObjAt C fds arrs Z h' (x.2.1+o*(arrs.length+1)) (G q.2)) hM rfl O.1 (W:=wm2 mm) (rm:={ frames:=(mi1 k).2.2.2.1,cells:=0,slots:=0,locals:=(mi1 k).2.2.2.2 }) (Nat.le_trans hroom.1 f8) (Nat.le_trans hroom.2 f9) (show cells+0<=R.cells from j3) (show slots+0<=R.slots from j4) hs (rest:=rest.map (cv (rho2 (arrs.length+1) x))) (st:=st.map (cv (rho2 (arrs.length+1) x)))
       (by rw[q3,List.map_append,List.map_reverse,(okn_spec hok).2];rfl) (by rw[hcat];exact hct') hd
      subst e1
      have hol:o<ob.length:=(List.getElem?_eq_some_iff.mp hS).1
      have hsz1:T'.heap.size=T.heap.size:=by
       have u:=X'.heapSize
       have lo:=e3.1
       simp only[Nat.add_zero] at u
       omega
      refine⟨T',_,_,_,X',⟨⟨?_,?_⟩,⟨j3,j4⟩,j5,j6,j7,⟨fun o' S' hS'=>?_,fun q=>(by cases q),?_,fun xs hxs=>?_⟩,N.app e2⟩,?_⟩
      ·simpa [cnt] using j1
      ·simpa [scn] using j2
      ·simp only[] at hS'
       by_cases q':o=o'
       ·subst q'
        rw[List.getElem?_set_self hol] at hS'
        cases hS'
        exact e4
       ·rw[List.getElem?_set_ne q'] at hS'
        exact (H1 o' S' hS').keep e3 fun r hr=>rng_far (Ne.symm q') hr
      ·rw[hsz1,H3];simp[cnt]
      ·obtain⟨a1,a2,cell,A,r⟩:=H4 xs hxs
       exact⟨a1,a2,cell,⟨e3.2.1 _ _ A.1 (rng_low a1),A.2⟩,r⟩
      ·have:(q.1.toList++rest).map (cv (rho2 (arrs.length+1) x))=q.1.toList++rest.map (cv (rho2 (arrs.length+1) x)):=by
        rw[List.map_append]
        congr 1
        have:=e0 (rho2 (arrs.length+1) x)
        cases hr:q.1 with
        |none=>rfl
        |some w=>rw[hr] at this;simpa using this
       rw[this]
       exact G'
     ·cases hm
    ·cases hm
   ·cases hm
  ·cases hm
 ·-- the script's places
  obtain rfl:=canon_heapy rfl hc
  obtain rfl:len=1:=by simpa [lenOK,ilen] using ho
  split at hm
  ·rename_i xs
   unfold sl at hm
   split at hm
   ·rename_i j r
    split at hm
    ·rename_i hb
     cases hm
     obtain⟨a1,a2,cell,A,z,H⟩:=H4 xs rfl
     have hin:=inb_spec hb
     have hv:=H j.toNatClampNeg (Nat.lt_of_not_le fun q=>hin (Or.inr q))
     rw[<-z] at hin
     exact⟨T,locs,cells,slots,X,⟨⟨j1,j2⟩,⟨j3,j4⟩,j5,j6,j7,⟨H1,H2,H3,H4⟩,N⟩,fun t kt=>X.iaload hx A.1 (State.isArrayOf_alike hZ.alike A.2.1) A.2.2 hin hv (g:=mkF m pc L (.int j :: .ref x.1::r.map (cv (rho2 (arrs.length+1) x)))) rfl rfl hd t kt⟩
    ·cases hm
   ·cases hm
  ·cases hm
 ·-- the script's length
  obtain rfl:=canon_heapy rfl hc
  obtain rfl:len=1:=by simpa [lenOK,ilen] using ho
  split at hm
  ·rename_i xs
   unfold sn at hm
   split at hm
   ·rename_i r
    cases hm
    obtain⟨a1,a2,cell,A,z,H⟩:=H4 xs rfl
    refine⟨T,locs,cells,slots,X,⟨⟨j1,j2⟩,⟨j3,j4⟩,j5,j6,j7,⟨H1,H2,H3,H4⟩,N⟩,fun t kt=>X.arraylength hx A.1 (State.isArrayOf_alike hZ.alike A.2.1) (g:=mkF m pc L (.ref x.1::r.map (cv (rho2 (arrs.length+1) x)))) rfl rfl hd t ?_⟩
    rw[z]
    exact kt
   ·cases hm
  ·cases hm
 ·cases hm
def StaOK(Tb2:Tabs)(Z:State)(a0:Array Value)(mi2:MI)(rt2:Nat->Option FieldType)(own:String)(na2:Nat->Nat):Prop:=
 ∀idx k,(idx,k)∈Tb2.2.2.1->(mi2 k).1.cls=own/\(Cond.methodLink own idx (mi2 k).1).before a0 Z=true/\(Cond.static (mi2 k).1).before a0 Z=true/\(Cond.initialized own).before a0 Z=true/\(Cond.code (mi2 k).1 (mi2 k).2.1 (mi2 k).2.2.1 (rt2 k)).before a0 Z=true/\∃ps,parseMethodDescriptor (mi2 k).1.desc=some ⟨ps,rt2 k⟩/\ps.length=na2 k
def RoomS(code2:Codes)(mi2:MI)(wm2:Nat->Nat):Prop:=∀mm pc k pn kp,code2 mm pc=some (.invokestatic k,pn,kp)->(mi2 k).2.2.2.1+1<=(mi2 mm).2.2.2.1/\wm2 mm+((mi2 k).2.2.1+11)+(mi2 k).2.2.2.2<=(mi2 mm).2.2.2.2
set_option maxHeartbeats 1000000 in
theorem met2{code2:Codes}{mop:Mop (W2 σ)}{cop:Cop}{n:Nat}(hW:Walks code2 rt2 mop cop mi2 own Z l (rho2 (arrs.length+1)) (J2 C gds fds arrs Z G fs nmax sc) n)(hpn:plainName own=true){k:Nat}(hk:k≠0)(hcls:(mi2 k).1.cls=own){as:List Value}(hok:okv as=true)(hlen:(entL as).length<=(mi2 k).2.2.1)
  {w:W2 σ} {r:Res (W2 σ)} (hit:iter (plan code2 rt2 mop cop) n (k,0,entL as,[],w)=some r) {h:Heap} {sa n0:Nat} (H:Heap2 C gds fds arrs Z G nmax sc sa n0 w h) (ws:List Jvm.Cond) (x:I2) (hx1:x.1=sa) (hx2:x.2.1=n0) :
  MetFree l (mi2 k).1 (head1 (Cond.code (mi2 k).1 (mi2 k).2.1 (mi2 k).2.2.1 (rt2 k)::ws) ({ frames:=(mi2 k).2.2.2.1,cells:=0,slots:=0,locals:=(mi2 k).2.2.2.2 }:Room))
   (fun A U=>A=(as.map (cv (rho2 (arrs.length+1) x))).toArray/\Z.Warmed39 U.vm/\U.heap=h) (fun _ _ _ _ _=>True)
   (fun _ U o U'=>∃v L,o = .returned v/\(v=r.1/\(∀ρ',r.1.map (cv ρ')=r.1)/\Fr n0 L/\Heap2 C gds fds arrs Z G nmax sc sa n0 r.2 U'.heap/\cnt (arrs.length+1) r.2=cnt (arrs.length+1) w/\scn fs (slotSum arrs arrs.length) r.2=scn fs (slotSum arrs arrs.length) w)/\FrameEnd U o U' L 0 0):=by
 refine MetFree.of_bodySF (plainFor_of_name (by rw[hcls];exact hpn)) hisR ?_
 intro p e s m args below meth c s₁ Bd hml0 hP hK
 obtain⟨rfl,hZ,hh⟩:=hP
 subst hx1 hx2
 have hown:s.vm.findClass own=some m.cls:=by rw[<-hcls];exact findClass_of_methodNamed Bd.named
 have hnm:=(name_of_methodNamed Bd.named Bd.method).1
 have X0:=Stand.of_body Bd
 have e0:s₁.heap=h:=by rw[<-hh,Bd.state];rfl
 have ρe:rho2 (arrs.length+1) (x.1,x.2.1,cnt (arrs.length+1) w,scn fs (slotSum arrs arrs.length) w)=rho2 (arrs.length+1) x:=by
  funext r;cases r<;>rfl
 obtain⟨L,q1,q2,q3,q4⟩:=entry_rel (rho2 (arrs.length+1) x) (vs:=as) hok hlen
 obtain⟨T',L',k',n',X',⟨⟨j1,j2⟩,-,-,j6,j7,jH,jN⟩,⟨ok1,ok2⟩,st⟩:=hW (x.1,x.2.1,cnt (arrs.length+1) w,scn fs (slotSum arrs arrs.length) w) p e _ s m _ below meth c k 0 _ [] w r hit s₁ [] 0 0 L X0 ⟨Bd.exec,hZ,hown,Bd.bytes,hml0,Bd.returns,hnm,Nat.le_refl _,Nat.le_refl _⟩
  ⟨⟨Nat.zero_add _,Nat.zero_add _⟩,⟨Nat.le_refl _,Nat.le_refl _⟩,fun q=>absurd q hk,fun _=>⟨rfl,rfl⟩,by rw[hh];exact H.2.2.1,by rw[e0];exact H,Fr.nil _⟩ (by rw[ρe];exact q2) q3 (by rw[q4,hml0])
 obtain⟨fs',hr,hrun,hended,hWm,hsame⟩:=X'.leave (v:=r.1) ok1
 obtain⟨k0,n00⟩:=j6 hk
 subst k0 n00
 refine⟨_,_,?_,hrun,hended,_,_,rfl,⟨rfl,ok2,jN,jH,by simpa using j1.symm,by simpa using j2.symm⟩,⟨_,rfl⟩,hWm,hsame⟩
 have:=st fs' hr
 rw[q1 m]
 exact this
set_option maxHeartbeats 1000000 in
theorem cop2_ok{code2:Codes}{mop:Mop (W2 σ)}(hpn:plainName own=true)(hC:own ≠ "java/lang/invoke/MethodHandle" /\ own ≠ "java/lang/invoke/VarHandle")(hS:StaOK Tb2 Z a0 mi2 rt2 own na2)(hR:RoomS code2 mi2 wm2) :
  CopOK code2 rt2 mop (cop2 na2 (fun k=>(mi2 k).2.2.1) wm2) Tb2 mi2 own Z l (rho2 (arrs.length+1)) (J2 C gds fds arrs Z G fs nmax sc):=by
 intro n hW x p e R s m args below meth c mm pc len i0 i st q w r T locs cells slots L X F hJ hs hd ho hc hne hq hit
 obtain⟨hx,hZ,hown,f4,f5,f6,f7,f8,f9⟩:=F
 obtain⟨⟨j1,j2⟩,⟨j3,j4⟩,j5,j6,j7,H,N⟩:=hJ
 unfold cop2 at hq
 split at hq
 ·rename_i k
  split at hq
  ·rename_i as r0 ht
   split at hq
   ·rename_i hb
    cases hq
    obtain⟨hk,hok,hcat',hlen⟩:=hb
    obtain⟨idx,rfl,hmem⟩:=canon_stat hc
    obtain rfl:len=3:=by simpa [lenOK,ilen] using ho
    obtain⟨g1,g2,g3,g4,g5,ps,hps,hna⟩:=hS idx k hmem
    obtain⟨qs,q1,q2,q3⟩:=takeA_spec ht
    have q2':as=qs:=by simpa using q2
    subst q2'
    obtain⟨kp,hcd⟩:=hne
    have hroom:=hR mm pc k _ kp hcd
    have hM:=met2 (hW:=hW) hpn hk g1 hok hlen hit H [] x rfl rfl
    have hB:=backOf (W:=wm2 mm) (rm:={ frames:=(mi2 k).2.2.2.1,cells:=0,slots:=0,locals:=(mi2 k).2.2.2.2 }) (Q:=fun v h' L=>v=r.1/\(∀ρ',r.1.map (cv ρ')=r.1)/\Fr x.2.1 L/\Heap2 C gds fds arrs Z G nmax sc x.1 x.2.1 r.2 h'/\cnt (arrs.length+1) r.2=cnt (arrs.length+1) w/\scn fs (slotSum arrs arrs.length) r.2=scn fs (slotSum arrs arrs.length) w) hM hZ g5 (by rw[g1];exact g4) (Nat.le_trans hroom.1 f8) (Nat.le_trans hroom.2 f9) (R:=R) (p:=p) (e:=e) (below:=below) (s:=s) (args:=args) (len:=3)
    have hcat:((r0.map (cv (rho2 (arrs.length+1) x))).map fun v=>v.category).sum=cats r0:=by
     have:(r0.map (cv (rho2 (arrs.length+1) x))).map (fun v=>v.category)=r0.map fun v=>v.category:=by
      rw[List.map_map];apply List.map_congr_left;intro v _;cases v<;>rfl
     rw[this];rfl
    obtain⟨v,vm₁,⟨T',L',c',s'⟩,-,X',⟨Lc,⟨hv0,ok2,hN,hH,z1,z2⟩,l1,l2,l3⟩,st1⟩:=Jvm.LawKit.callS X hx (y:=(mi2 k).1) hown (mvT hZ g2) (mvT hZ g3) (by rw[g1];exact mvT hZ g4) (mvT hZ g5) (by rw[g1];exact hC) hB (g:=mkF m pc L (st.map (cv (rho2 (arrs.length+1) x)))) rfl hs (argsL:=as.map (cv (rho2 (arrs.length+1) x))) (rest:=r0.map (cv (rho2 (arrs.length+1) x))) (lenOf hps (by simp;omega))
     (by show st.map _=_;rw[q3,List.map_append,List.map_reverse]) (by show 2*0+_<=_;rw[hcat];omega) hd (fun vm _=>⟨rfl,rfl,by simpa using j3,by simpa using j4⟩)
    dsimp only [Pt.U,Pt.locs,Pt.cells,Pt.slots] at X' l1 l2 l3 st1 hN hH
    subst l1 l2 l3 hv0
    refine⟨T',_,_,_,X',⟨⟨by rw[z1];exact j1,by rw[z2];exact j2⟩,⟨j3,j4⟩,j5,j6,j7,hH,N.app hN⟩,?_⟩
    have:(r.1.toList++r0).map (cv (rho2 (arrs.length+1) x))=r.1.toList++r0.map (cv (rho2 (arrs.length+1) x)):=by
     rw[List.map_append]
     congr 1
     have:=ok2 (rho2 (arrs.length+1) x)
     cases hr:r.1 with
     |none=>rfl
     |some w=>rw[hr] at this;simpa using this
    rw[this]
    exact fun t kt=>st1 t kt
   ·cases hq
  ·cases hq
 ·cases hq
end L2
theorem ite2{β:Type}{p:Prop}[Decidable p]{a b a' b':β}(h1:a=a')(h2:b=b'):(if p then a else b)=if p then a' else b':=by rw[h1,h2]
theorem iteH{β:Type}{p:Prop}[Decidable p]{a b a':β}(h1:p->a=a'):(if p then a else b)=if p then a' else b:=by
 by_cases h:p
 ·rw[if_pos h,if_pos h,h1 h]
 ·rw[if_neg h,if_neg h]
namespace F
variable {τ:Type} {code:Codes} {rt:Nat->Option FieldType} {mop:Mop τ} {cop:Cop} {f:Cfg τ->Option (Res τ)} {m pc pn:Nat} {kp:Option Nat} {ls st:List Value} {S:τ}
theorem head(hf:∀c,f c=run (plan code rt mop cop) f c){i:Instr}{k:Nat}(h:code m pc=some (i,pn,some k)):f (m,pc,ls,st,S)=f (m,pc,ls.take k,st,S):=by
 rw[hf,hf (m,pc,ls.take k,st,S)]
 simp only[run,plan,h,tk,List.take_take,Nat.min_self]
theorem iadd(hf:∀c,f c=run (plan code rt mop cop) f c){x y:Int32}(h:code m pc=some (.iadd,pn,kp))(hk:tk kp ls=ls):f (m,pc,ls,.int y :: .int x::st,S)=f (m,pn,ls,.int (x+y)::st,S):=by
 rw[hf]
 simp only[run,plan,h,hk,rest,retV,loc,alu,ii,iz,ll,lz,li,lc,i1,l1,pop1,dup1,dup2',Option.map_some]
theorem isub(hf:∀c,f c=run (plan code rt mop cop) f c){x y:Int32}(h:code m pc=some (.isub,pn,kp))(hk:tk kp ls=ls):f (m,pc,ls,.int y :: .int x::st,S)=f (m,pn,ls,.int (x-y)::st,S):=by
 rw[hf]
 simp only[run,plan,h,hk,rest,retV,loc,alu,ii,iz,ll,lz,li,lc,i1,l1,pop1,dup1,dup2',Option.map_some]
theorem imul(hf:∀c,f c=run (plan code rt mop cop) f c){x y:Int32}(h:code m pc=some (.imul,pn,kp))(hk:tk kp ls=ls):f (m,pc,ls,.int y :: .int x::st,S)=f (m,pn,ls,.int (x*y)::st,S):=by
 rw[hf]
 simp only[run,plan,h,hk,rest,retV,loc,alu,ii,iz,ll,lz,li,lc,i1,l1,pop1,dup1,dup2',Option.map_some]
theorem iand(hf:∀c,f c=run (plan code rt mop cop) f c){x y:Int32}(h:code m pc=some (.iand,pn,kp))(hk:tk kp ls=ls):f (m,pc,ls,.int y :: .int x::st,S)=f (m,pn,ls,.int (x&&&y)::st,S):=by
 rw[hf]
 simp only[run,plan,h,hk,rest,retV,loc,alu,ii,iz,ll,lz,li,lc,i1,l1,pop1,dup1,dup2',Option.map_some]
theorem ior(hf:∀c,f c=run (plan code rt mop cop) f c){x y:Int32}(h:code m pc=some (.ior,pn,kp))(hk:tk kp ls=ls):f (m,pc,ls,.int y :: .int x::st,S)=f (m,pn,ls,.int (x|||y)::st,S):=by
 rw[hf]
 simp only[run,plan,h,hk,rest,retV,loc,alu,ii,iz,ll,lz,li,lc,i1,l1,pop1,dup1,dup2',Option.map_some]
theorem ixor(hf:∀c,f c=run (plan code rt mop cop) f c){x y:Int32}(h:code m pc=some (.ixor,pn,kp))(hk:tk kp ls=ls):f (m,pc,ls,.int y :: .int x::st,S)=f (m,pn,ls,.int (x^^^y)::st,S):=by
 rw[hf]
 simp only[run,plan,h,hk,rest,retV,loc,alu,ii,iz,ll,lz,li,lc,i1,l1,pop1,dup1,dup2',Option.map_some]
theorem ishl(hf:∀c,f c=run (plan code rt mop cop) f c){x y:Int32}(h:code m pc=some (.ishl,pn,kp))(hk:tk kp ls=ls):f (m,pc,ls,.int y :: .int x::st,S)=f (m,pn,ls,.int (x<<<(y&&&31))::st,S):=by
 rw[hf]
 simp only[run,plan,h,hk,rest,retV,loc,alu,ii,iz,ll,lz,li,lc,i1,l1,pop1,dup1,dup2',Option.map_some]
theorem ishr(hf:∀c,f c=run (plan code rt mop cop) f c){x y:Int32}(h:code m pc=some (.ishr,pn,kp))(hk:tk kp ls=ls):f (m,pc,ls,.int y :: .int x::st,S)=f (m,pn,ls,.int (x>>>(y&&&31))::st,S):=by
 rw[hf]
 simp only[run,plan,h,hk,rest,retV,loc,alu,ii,iz,ll,lz,li,lc,i1,l1,pop1,dup1,dup2',Option.map_some]
theorem iushr(hf:∀c,f c=run (plan code rt mop cop) f c){x y:Int32}(h:code m pc=some (.iushr,pn,kp))(hk:tk kp ls=ls):f (m,pc,ls,.int y :: .int x::st,S)=f (m,pn,ls,.int (XT.ushr x y)::st,S):=by
 rw[hf]
 simp only[run,plan,h,hk,rest,retV,loc,alu,ii,iz,ll,lz,li,lc,i1,l1,pop1,dup1,dup2',Option.map_some]
theorem idiv(hf:∀c,f c=run (plan code rt mop cop) f c){x y:Int32}(h:code m pc=some (.idiv,pn,kp))(hk:tk kp ls=ls)(hy:y≠0):f (m,pc,ls,.int y :: .int x::st,S)=f (m,pn,ls,.int (x/y)::st,S):=by
 rw[hf]
 simp only[run,plan,h,hk,rest,retV,loc,alu,ii,iz,ll,lz,li,lc,i1,l1,pop1,dup1,dup2',Option.map_some,hy,if_false]
theorem irem(hf:∀c,f c=run (plan code rt mop cop) f c){x y:Int32}(h:code m pc=some (.irem,pn,kp))(hk:tk kp ls=ls)(hy:y≠0):f (m,pc,ls,.int y :: .int x::st,S)=f (m,pn,ls,.int (x%y)::st,S):=by
 rw[hf]
 simp only[run,plan,h,hk,rest,retV,loc,alu,ii,iz,ll,lz,li,lc,i1,l1,pop1,dup1,dup2',Option.map_some,hy,if_false]
theorem lrem(hf:∀c,f c=run (plan code rt mop cop) f c){x y:Int64}(h:code m pc=some (.lrem,pn,kp))(hk:tk kp ls=ls)(hy:y≠0):f (m,pc,ls,.long y :: .long x::st,S)=f (m,pn,ls,.long (x%y)::st,S):=by
 rw[hf]
 simp only[run,plan,h,hk,rest,retV,loc,alu,ii,iz,ll,lz,li,lc,i1,l1,pop1,dup1,dup2',Option.map_some,hy,if_false]
theorem ladd(hf:∀c,f c=run (plan code rt mop cop) f c){x y:Int64}(h:code m pc=some (.ladd,pn,kp))(hk:tk kp ls=ls):f (m,pc,ls,.long y :: .long x::st,S)=f (m,pn,ls,.long (x+y)::st,S):=by
 rw[hf]
 simp only[run,plan,h,hk,rest,retV,loc,alu,ii,iz,ll,lz,li,lc,i1,l1,pop1,dup1,dup2',Option.map_some]
theorem lsub(hf:∀c,f c=run (plan code rt mop cop) f c){x y:Int64}(h:code m pc=some (.lsub,pn,kp))(hk:tk kp ls=ls):f (m,pc,ls,.long y :: .long x::st,S)=f (m,pn,ls,.long (x-y)::st,S):=by
 rw[hf]
 simp only[run,plan,h,hk,rest,retV,loc,alu,ii,iz,ll,lz,li,lc,i1,l1,pop1,dup1,dup2',Option.map_some]
theorem lmul(hf:∀c,f c=run (plan code rt mop cop) f c){x y:Int64}(h:code m pc=some (.lmul,pn,kp))(hk:tk kp ls=ls):f (m,pc,ls,.long y :: .long x::st,S)=f (m,pn,ls,.long (x*y)::st,S):=by
 rw[hf]
 simp only[run,plan,h,hk,rest,retV,loc,alu,ii,iz,ll,lz,li,lc,i1,l1,pop1,dup1,dup2',Option.map_some]
theorem land(hf:∀c,f c=run (plan code rt mop cop) f c){x y:Int64}(h:code m pc=some (.land,pn,kp))(hk:tk kp ls=ls):f (m,pc,ls,.long y :: .long x::st,S)=f (m,pn,ls,.long (x&&&y)::st,S):=by
 rw[hf]
 simp only[run,plan,h,hk,rest,retV,loc,alu,ii,iz,ll,lz,li,lc,i1,l1,pop1,dup1,dup2',Option.map_some]
theorem lor(hf:∀c,f c=run (plan code rt mop cop) f c){x y:Int64}(h:code m pc=some (.lor,pn,kp))(hk:tk kp ls=ls):f (m,pc,ls,.long y :: .long x::st,S)=f (m,pn,ls,.long (x|||y)::st,S):=by
 rw[hf]
 simp only[run,plan,h,hk,rest,retV,loc,alu,ii,iz,ll,lz,li,lc,i1,l1,pop1,dup1,dup2',Option.map_some]
theorem lxor(hf:∀c,f c=run (plan code rt mop cop) f c){x y:Int64}(h:code m pc=some (.lxor,pn,kp))(hk:tk kp ls=ls):f (m,pc,ls,.long y :: .long x::st,S)=f (m,pn,ls,.long (x^^^y)::st,S):=by
 rw[hf]
 simp only[run,plan,h,hk,rest,retV,loc,alu,ii,iz,ll,lz,li,lc,i1,l1,pop1,dup1,dup2',Option.map_some]
theorem lshl(hf:∀c,f c=run (plan code rt mop cop) f c){x:Int64}{y:Int32}(h:code m pc=some (.lshl,pn,kp))(hk:tk kp ls=ls):f (m,pc,ls,.int y :: .long x::st,S)=f (m,pn,ls,.long (x<<<(y.toInt64&&&63))::st,S):=by
 rw[hf]
 simp only[run,plan,h,hk,rest,retV,loc,alu,ii,iz,ll,lz,li,lc,i1,l1,pop1,dup1,dup2',Option.map_some]
theorem lushr(hf:∀c,f c=run (plan code rt mop cop) f c){x:Int64}{y:Int32}(h:code m pc=some (.lushr,pn,kp))(hk:tk kp ls=ls):f (m,pc,ls,.int y :: .long x::st,S)=f (m,pn,ls,.long (XT.ushrL x y)::st,S):=by
 rw[hf]
 simp only[run,plan,h,hk,rest,retV,loc,alu,ii,iz,ll,lz,li,lc,i1,l1,pop1,dup1,dup2',Option.map_some]
theorem lcmp(hf:∀c,f c=run (plan code rt mop cop) f c){x y:Int64}(h:code m pc=some (.lcmp,pn,kp))(hk:tk kp ls=ls):f (m,pc,ls,.long y :: .long x::st,S)=f (m,pn,ls,.int (XT.cmpL x y)::st,S):=by
 rw[hf]
 simp only[run,plan,h,hk,rest,retV,loc,alu,ii,iz,ll,lz,li,lc,i1,l1,pop1,dup1,dup2',Option.map_some]
theorem ineg(hf:∀c,f c=run (plan code rt mop cop) f c){x:Int32}(h:code m pc=some (.ineg,pn,kp))(hk:tk kp ls=ls):f (m,pc,ls,.int x::st,S)=f (m,pn,ls,.int (-x)::st,S):=by
 rw[hf]
 simp only[run,plan,h,hk,rest,retV,loc,alu,ii,iz,ll,lz,li,lc,i1,l1,pop1,dup1,dup2',Option.map_some]
theorem i2l(hf:∀c,f c=run (plan code rt mop cop) f c){x:Int32}(h:code m pc=some (.i2l,pn,kp))(hk:tk kp ls=ls):f (m,pc,ls,.int x::st,S)=f (m,pn,ls,.long x.toInt64::st,S):=by
 rw[hf]
 simp only[run,plan,h,hk,rest,retV,loc,alu,ii,iz,ll,lz,li,lc,i1,l1,pop1,dup1,dup2',Option.map_some]
theorem l2i(hf:∀c,f c=run (plan code rt mop cop) f c){x:Int64}(h:code m pc=some (.l2i,pn,kp))(hk:tk kp ls=ls):f (m,pc,ls,.long x::st,S)=f (m,pn,ls,.int x.toInt32::st,S):=by
 rw[hf]
 simp only[run,plan,h,hk,rest,retV,loc,alu,ii,iz,ll,lz,li,lc,i1,l1,pop1,dup1,dup2',Option.map_some]
theorem i2b(hf:∀c,f c=run (plan code rt mop cop) f c){x:Int32}(h:code m pc=some (.i2b,pn,kp))(hk:tk kp ls=ls):f (m,pc,ls,.int x::st,S)=f (m,pn,ls,.int x.toInt8.toInt32::st,S):=by
 rw[hf]
 simp only[run,plan,h,hk,rest,retV,loc,alu,ii,iz,ll,lz,li,lc,i1,l1,pop1,dup1,dup2',Option.map_some]
theorem popI(hf:∀c,f c=run (plan code rt mop cop) f c){x:Int32}(h:code m pc=some (.pop,pn,kp))(hk:tk kp ls=ls):f (m,pc,ls,.int x::st,S)=f (m,pn,ls,st,S):=by
 rw[hf]
 simp only[run,plan,h,hk,rest,retV,loc,alu,ii,iz,ll,lz,li,lc,i1,l1,pop1,dup1,dup2',Option.map_some]
theorem dupA(hf:∀c,f c=run (plan code rt mop cop) f c){x:Nat}(h:code m pc=some (.dup,pn,kp))(hk:tk kp ls=ls):f (m,pc,ls,.ref x::st,S)=f (m,pn,ls,.ref x :: .ref x::st,S):=by
 rw[hf]
 simp only[run,plan,h,hk,rest,retV,loc,alu,ii,iz,ll,lz,li,lc,i1,l1,pop1,dup1,dup2',Option.map_some]
theorem iconst(hf:∀c,f c=run (plan code rt mop cop) f c){i:Int}{v:Int32}(h:code m pc=some (.iconst i,pn,kp))(hk:tk kp ls=ls)(hv:Int32.ofInt i=v):f (m,pc,ls,st,S)=f (m,pn,ls,.int v::st,S):=by
 rw[hf]
 simp only[run,plan,h,hk,rest,retV,loc,alu,ii,iz,ll,lz,li,lc,i1,l1,pop1,dup1,dup2',Option.map_some,hv]
theorem lconst(hf:∀c,f c=run (plan code rt mop cop) f c){i:Fin 2}{v:Int64}(h:code m pc=some (.lconst i,pn,kp))(hk:tk kp ls=ls)(hv:Int64.ofNat i=v):f (m,pc,ls,st,S)=f (m,pn,ls,.long v::st,S):=by
 rw[hf]
 simp only[run,plan,h,hk,rest,retV,loc,alu,ii,iz,ll,lz,li,lc,i1,l1,pop1,dup1,dup2',Option.map_some,hv]
theorem iload(hf:∀c,f c=run (plan code rt mop cop) f c){k:Nat}{v:Int32}(h:code m pc=some (.iload k,pn,kp))(hk:tk kp ls=ls)(hl:ls[k]? = some (.int v)):f (m,pc,ls,st,S)=f (m,pn,ls,.int v::st,S):=by
 rw[hf]
 simp only[run,plan,h,hk,rest,retV,loc,ldI,ldA,ldL,stI',stA',stL',incI,Option.map_some,hl]
theorem aload(hf:∀c,f c=run (plan code rt mop cop) f c){k v:Nat}(h:code m pc=some (.aload k,pn,kp))(hk:tk kp ls=ls)(hl:ls[k]? = some (.ref v)):f (m,pc,ls,st,S)=f (m,pn,ls,.ref v::st,S):=by
 rw[hf]
 simp only[run,plan,h,hk,rest,retV,loc,ldI,ldA,ldL,stI',stA',stL',incI,Option.map_some,hl]
theorem lload(hf:∀c,f c=run (plan code rt mop cop) f c){k:Nat}{v:Int64}(h:code m pc=some (.lload k,pn,kp))(hk:tk kp ls=ls)(hl:ls[k]? = some (.long v)):f (m,pc,ls,st,S)=f (m,pn,ls,.long v::st,S):=by
 rw[hf]
 simp only[run,plan,h,hk,rest,retV,loc,ldI,ldA,ldL,stI',stA',stL',incI,Option.map_some,hl]
theorem istore(hf:∀c,f c=run (plan code rt mop cop) f c){k:Nat}{v:Int32}{l:List Value}(h:code m pc=some (.istore k,pn,kp))(hk:tk kp ls=ls)(hl:st1 ls k (.int v)=l):f (m,pc,ls,.int v::st,S)=f (m,pn,l,st,S):=by
 rw[hf]
 simp only[run,plan,h,hk,rest,retV,loc,ldI,ldA,ldL,stI',stA',stL',incI,Option.map_some,hl]
theorem astore(hf:∀c,f c=run (plan code rt mop cop) f c){k v:Nat}{l:List Value}(h:code m pc=some (.astore k,pn,kp))(hk:tk kp ls=ls)(hl:st1 ls k (.ref v)=l):f (m,pc,ls,.ref v::st,S)=f (m,pn,l,st,S):=by
 rw[hf]
 simp only[run,plan,h,hk,rest,retV,loc,ldI,ldA,ldL,stI',stA',stL',incI,Option.map_some,hl]
theorem lstore(hf:∀c,f c=run (plan code rt mop cop) f c){k:Nat}{v:Int64}{l:List Value}(h:code m pc=some (.lstore k,pn,kp))(hk:tk kp ls=ls)(hl:st2 ls k (.long v)=l):f (m,pc,ls,.long v::st,S)=f (m,pn,l,st,S):=by
 rw[hf]
 simp only[run,plan,h,hk,rest,retV,loc,ldI,ldA,ldL,stI',stA',stL',incI,Option.map_some,hl]
theorem iinc(hf:∀c,f c=run (plan code rt mop cop) f c){k:Nat}{c:Int}{v v':Int32}{l:List Value}(h:code m pc=some (.iinc k c,pn,kp))(hk:tk kp ls=ls)(hv:Int32.ofInt c=v')(hl0:ls[k]? = some (.int v))(hl:st1 ls k (.int (v+v'))=l):f (m,pc,ls,st,S)=f (m,pn,l,st,S):=by
 rw[hf]
 simp only[run,plan,h,hk,rest,retV,loc,ldI,ldA,ldL,stI',stA',stL',incI,Option.map_some,hl0,hv,hl]
theorem goto(hf:∀c,f c=run (plan code rt mop cop) f c){t:Nat}(h:code m pc=some (.goto (Int.ofNat t),pn,kp))(hk:tk kp ls=ls):f (m,pc,ls,st,S)=f (m,t,ls,st,S):=by
 rw[hf]
 simp only[run,plan,h,hk,Int.ofNat_eq_natCast,Int.toNat_natCast]
theorem ifeq(hf:∀c,f c=run (plan code rt mop cop) f c){t:Nat}{x:Int32}(h:code m pc=some (.ifCond .eq (Int.ofNat t),pn,kp))(hk:tk kp ls=ls):f (m,pc,ls,.int x::st,S)=if x=0 then f (m,t,ls,st,S) else f (m,pn,ls,st,S):=by
 rw[hf]
 simp only[run,plan,h,hk,pl1,Int.ofNat_eq_natCast,Int.toNat_natCast]
 exact cnd_map f _ _ _ _ _
theorem iceq(hf:∀c,f c=run (plan code rt mop cop) f c){t:Nat}{x y:Int32}(h:code m pc=some (.if_icmp .eq (Int.ofNat t),pn,kp))(hk:tk kp ls=ls):f (m,pc,ls,.int y :: .int x::st,S)=if x=y then f (m,t,ls,st,S) else f (m,pn,ls,st,S):=by
 rw[hf]
 simp only[run,plan,h,hk,pl2,Int.ofNat_eq_natCast,Int.toNat_natCast]
 exact cnd_map f _ _ _ _ _
theorem ifne(hf:∀c,f c=run (plan code rt mop cop) f c){t:Nat}{x:Int32}(h:code m pc=some (.ifCond .ne (Int.ofNat t),pn,kp))(hk:tk kp ls=ls):f (m,pc,ls,.int x::st,S)=if x=0 then f (m,pn,ls,st,S) else f (m,t,ls,st,S):=by
 rw[hf]
 simp only[run,plan,h,hk,pl1,Int.ofNat_eq_natCast,Int.toNat_natCast]
 exact cnd_map f _ _ _ _ _
theorem icne(hf:∀c,f c=run (plan code rt mop cop) f c){t:Nat}{x y:Int32}(h:code m pc=some (.if_icmp .ne (Int.ofNat t),pn,kp))(hk:tk kp ls=ls):f (m,pc,ls,.int y :: .int x::st,S)=if x=y then f (m,pn,ls,st,S) else f (m,t,ls,st,S):=by
 rw[hf]
 simp only[run,plan,h,hk,pl2,Int.ofNat_eq_natCast,Int.toNat_natCast]
 exact cnd_map f _ _ _ _ _
theorem iflt(hf:∀c,f c=run (plan code rt mop cop) f c){t:Nat}{x:Int32}(h:code m pc=some (.ifCond .lt (Int.ofNat t),pn,kp))(hk:tk kp ls=ls):f (m,pc,ls,.int x::st,S)=if x<0 then f (m,t,ls,st,S) else f (m,pn,ls,st,S):=by
 rw[hf]
 simp only[run,plan,h,hk,pl1,Int.ofNat_eq_natCast,Int.toNat_natCast]
 exact cnd_map f _ _ _ _ _
theorem iclt(hf:∀c,f c=run (plan code rt mop cop) f c){t:Nat}{x y:Int32}(h:code m pc=some (.if_icmp .lt (Int.ofNat t),pn,kp))(hk:tk kp ls=ls):f (m,pc,ls,.int y :: .int x::st,S)=if x<y then f (m,t,ls,st,S) else f (m,pn,ls,st,S):=by
 rw[hf]
 simp only[run,plan,h,hk,pl2,Int.ofNat_eq_natCast,Int.toNat_natCast]
 exact cnd_map f _ _ _ _ _
theorem ifge(hf:∀c,f c=run (plan code rt mop cop) f c){t:Nat}{x:Int32}(h:code m pc=some (.ifCond .ge (Int.ofNat t),pn,kp))(hk:tk kp ls=ls):f (m,pc,ls,.int x::st,S)=if x<0 then f (m,pn,ls,st,S) else f (m,t,ls,st,S):=by
 rw[hf]
 simp only[run,plan,h,hk,pl1,Int.ofNat_eq_natCast,Int.toNat_natCast]
 exact cnd_map f _ _ _ _ _
theorem icge(hf:∀c,f c=run (plan code rt mop cop) f c){t:Nat}{x y:Int32}(h:code m pc=some (.if_icmp .ge (Int.ofNat t),pn,kp))(hk:tk kp ls=ls):f (m,pc,ls,.int y :: .int x::st,S)=if x<y then f (m,pn,ls,st,S) else f (m,t,ls,st,S):=by
 rw[hf]
 simp only[run,plan,h,hk,pl2,Int.ofNat_eq_natCast,Int.toNat_natCast]
 exact cnd_map f _ _ _ _ _
theorem ifgt(hf:∀c,f c=run (plan code rt mop cop) f c){t:Nat}{x:Int32}(h:code m pc=some (.ifCond .gt (Int.ofNat t),pn,kp))(hk:tk kp ls=ls):f (m,pc,ls,.int x::st,S)=if 0<x then f (m,t,ls,st,S) else f (m,pn,ls,st,S):=by
 rw[hf]
 simp only[run,plan,h,hk,pl1,Int.ofNat_eq_natCast,Int.toNat_natCast]
 exact cnd_map f _ _ _ _ _
theorem icgt(hf:∀c,f c=run (plan code rt mop cop) f c){t:Nat}{x y:Int32}(h:code m pc=some (.if_icmp .gt (Int.ofNat t),pn,kp))(hk:tk kp ls=ls):f (m,pc,ls,.int y :: .int x::st,S)=if y<x then f (m,t,ls,st,S) else f (m,pn,ls,st,S):=by
 rw[hf]
 simp only[run,plan,h,hk,pl2,Int.ofNat_eq_natCast,Int.toNat_natCast]
 exact cnd_map f _ _ _ _ _
theorem ifle(hf:∀c,f c=run (plan code rt mop cop) f c){t:Nat}{x:Int32}(h:code m pc=some (.ifCond .le (Int.ofNat t),pn,kp))(hk:tk kp ls=ls):f (m,pc,ls,.int x::st,S)=if 0<x then f (m,pn,ls,st,S) else f (m,t,ls,st,S):=by
 rw[hf]
 simp only[run,plan,h,hk,pl1,Int.ofNat_eq_natCast,Int.toNat_natCast]
 exact cnd_map f _ _ _ _ _
theorem icle(hf:∀c,f c=run (plan code rt mop cop) f c){t:Nat}{x y:Int32}(h:code m pc=some (.if_icmp .le (Int.ofNat t),pn,kp))(hk:tk kp ls=ls):f (m,pc,ls,.int y :: .int x::st,S)=if y<x then f (m,pn,ls,st,S) else f (m,t,ls,st,S):=by
 rw[hf]
 simp only[run,plan,h,hk,pl2,Int.ofNat_eq_natCast,Int.toNat_natCast]
 exact cnd_map f _ _ _ _ _
theorem retn(hf:∀c,f c=run (plan code rt mop cop) f c)(h:code m pc=some (.return_,pn,kp))(hr:rt m=none):f (m,pc,ls,[],S)=some (none,S):=by
 rw[hf]
 simp only[run,plan,h,rest,retV,hr]
theorem reti(hf:∀c,f c=run (plan code rt mop cop) f c){v:Int32}(h:code m pc=some (.ireturn,pn,kp))(hr:rt m=some .int):f (m,pc,ls,[.int v],S)=some (some (.int v),S):=by
 rw[hf]
 simp only[run,plan,h,rest,retV,hr]
theorem retb(hf:∀c,f c=run (plan code rt mop cop) f c){v:Int32}(h:code m pc=some (.ireturn,pn,kp))(hr:rt m=some .boolean):f (m,pc,ls,[.int v],S)=some (some (.int (v&&&1)),S):=by
 rw[hf]
 simp only[run,plan,h,rest,retV,hr]
end F
abbrev MS:=Nat->Nat->Int32
abbrev FT1:=Cfg MS->Option (Res MS)
abbrev FT2:=Cfg (Bool×List MS)->Option (Res (Bool×List MS))
def upd(S:MS)(c i:Nat)(v:Int32):MS:=fun c' i'=>if c'=c/\i'=i then v else S c' i'
abbrev gS:MS->Nat->Nat->Int32:=fun S c i=>S c i
theorem upd_law(S:MS)(c i:Nat)(v:Int32)(c' i':Nat):gS (upd S c i v) c' i'=if c'=c/\i'=i then v else gS S c' i':=rfl
namespace F
variable {code:Codes} {rt:Nat->Option FieldType} {arrs:List (FieldType×Nat)} {na ml wm:Nat->Nat} {f:Cfg MS->Option (Res MS)} {m pc pn:Nat} {kp:Option Nat} {ls st:List Value} {S:MS}
theorem getI(hf:∀c,f c=run (plan code rt (mop1 arrs gS upd) (cop1 na ml wm)) f c){s k:Nat}(h:code m pc=some (.getfield k,pn,kp))(hk:tk kp ls=ls)(h3:k%3≠2)(hs:k/3=s){w:Int32}(hw:S 0 s=w):f (m,pc,ls,.ref 0::st,S)=f (m,pn,ls,.int w::st,S):=by
 subst hw
 rw[hf]
 simp only[run,plan,h,hk,rest,retV,loc,alu,mop1,gf,pf,al,sa,la,Option.map_none,h3,if_false,hs]
theorem getA(hf:∀c,f c=run (plan code rt (mop1 arrs gS upd) (cop1 na ml wm)) f c){s k:Nat}(h:code m pc=some (.getfield k,pn,kp))(hk:tk kp ls=ls)(h3:k%3=2)(hs:k/3+1=s):f (m,pc,ls,.ref 0::st,S)=f (m,pn,ls,.ref s::st,S):=by
 rw[hf]
 simp only[run,plan,h,hk,rest,retV,loc,alu,mop1,gf,pf,al,sa,la,Option.map_none,h3,if_true,hs]
theorem putI(hf:∀c,f c=run (plan code rt (mop1 arrs gS upd) (cop1 na ml wm)) f c){s k:Nat}{v:Int32}(h:code m pc=some (.putfield k,pn,kp))(hk:tk kp ls=ls)(h3:k%3=0)(hs:k/3=s):f (m,pc,ls,.int v :: .ref 0::st,S)=f (m,pn,ls,st,upd S 0 s v):=by
 rw[hf]
 simp only[run,plan,h,hk,rest,retV,loc,alu,mop1,gf,pf,al,sa,la,Option.map_none,h3,if_true,hs]
theorem iaload(hf:∀c,f c=run (plan code rt (mop1 arrs gS upd) (cop1 na ml wm)) f c){j n:Nat}{ty:FieldType}{i:Int32}(h:code m pc=some (.iaload,pn,kp))(hk:tk kp ls=ls)(ha:arrs[j]? = some (ty,n))(ht:isI ty=true){w:Int32}(hw:S (j+1) i.toNatClampNeg=w):f (m,pc,ls,.int i :: .ref (j+1)::st,S)=if inb i n=true then f (m,pn,ls,.int w::st,S) else none:=by
 subst hw
 rw[hf]
 simp only[run,plan,h,hk,rest,retV,loc,alu,mop1,gf,pf,al,sa,la,Option.map_none,ha,ht,true_and]
 by_cases q:inb i n=true
 ·simp only[q,if_true]
 ·simp only[q,if_false,cop1,Bool.false_eq_true]
theorem ialoadT(hf:∀c,f c=run (plan code rt (mop1 arrs gS upd) (cop1 na ml wm)) f c){j n:Nat}{ty:FieldType}{i:Int32}(h:code m pc=some (.iaload,pn,kp))(hk:tk kp ls=ls)(ha:arrs[j]? = some (ty,n))(ht:isI ty=true)(hi:inb i n=true){z:Nat}(hz:i.toNatClampNeg=z){w:Int32}(hw:S (j+1) z=w):f (m,pc,ls,.int i :: .ref (j+1)::st,S)=f (m,pn,ls,.int w::st,S):=by
 subst hz
 rw[iaload hf h hk ha ht hw,if_pos hi]
theorem baload(hf:∀c,f c=run (plan code rt (mop1 arrs gS upd) (cop1 na ml wm)) f c){j n:Nat}{ty:FieldType}{i:Int32}(h:code m pc=some (.baload,pn,kp))(hk:tk kp ls=ls)(ha:arrs[j]? = some (ty,n))(ht:isB ty=true){w:Int32}(hw:S (j+1) i.toNatClampNeg=w):f (m,pc,ls,.int i :: .ref (j+1)::st,S)=if inb i n=true then f (m,pn,ls,.int w::st,S) else none:=by
 subst hw
 rw[hf]
 simp only[run,plan,h,hk,rest,retV,loc,alu,mop1,gf,pf,al,sa,la,Option.map_none,ha,ht,true_and]
 by_cases q:inb i n=true
 ·simp only[q,if_true]
 ·simp only[q,if_false,cop1,Bool.false_eq_true]
theorem baloadT(hf:∀c,f c=run (plan code rt (mop1 arrs gS upd) (cop1 na ml wm)) f c){j n:Nat}{ty:FieldType}{i:Int32}(h:code m pc=some (.baload,pn,kp))(hk:tk kp ls=ls)(ha:arrs[j]? = some (ty,n))(ht:isB ty=true)(hi:inb i n=true){z:Nat}(hz:i.toNatClampNeg=z){w:Int32}(hw:S (j+1) z=w):f (m,pc,ls,.int i :: .ref (j+1)::st,S)=f (m,pn,ls,.int w::st,S):=by
 subst hz
 rw[baload hf h hk ha ht hw,if_pos hi]
theorem iastore(hf:∀c,f c=run (plan code rt (mop1 arrs gS upd) (cop1 na ml wm)) f c){j n:Nat}{ty:FieldType}{i v:Int32}(h:code m pc=some (.iastore,pn,kp))(hk:tk kp ls=ls)(ha:arrs[j]? = some (ty,n))(ht:isI ty=true){v':Int32}(hv:nar ty v=v'):f (m,pc,ls,.int v :: .int i :: .ref (j+1)::st,S)=if inb i n=true then f (m,pn,ls,st,upd S (j+1) i.toNatClampNeg v') else none:=by
 rw[hf]
 simp only[run,plan,h,hk,rest,retV,loc,alu,mop1,gf,pf,al,sa,la,Option.map_none,ha,ht,true_and,hv]
 by_cases q:inb i n=true
 ·simp only[q,if_true]
 ·simp only[q,if_false,cop1,Bool.false_eq_true]
theorem iastoreT(hf:∀c,f c=run (plan code rt (mop1 arrs gS upd) (cop1 na ml wm)) f c){j n:Nat}{ty:FieldType}{i v:Int32}(h:code m pc=some (.iastore,pn,kp))(hk:tk kp ls=ls)(ha:arrs[j]? = some (ty,n))(ht:isI ty=true){v':Int32}(hv:nar ty v=v')(hi:inb i n=true){z:Nat}(hz:i.toNatClampNeg=z):f (m,pc,ls,.int v :: .int i :: .ref (j+1)::st,S)=f (m,pn,ls,st,upd S (j+1) z v'):=by
 rw[iastore hf h hk ha ht hv,if_pos hi,hz]
theorem bastore(hf:∀c,f c=run (plan code rt (mop1 arrs gS upd) (cop1 na ml wm)) f c){j n:Nat}{ty:FieldType}{i v:Int32}(h:code m pc=some (.bastore,pn,kp))(hk:tk kp ls=ls)(ha:arrs[j]? = some (ty,n))(ht:isB ty=true){v':Int32}(hv:nar ty v=v'):f (m,pc,ls,.int v :: .int i :: .ref (j+1)::st,S)=if inb i n=true then f (m,pn,ls,st,upd S (j+1) i.toNatClampNeg v') else none:=by
 rw[hf]
 simp only[run,plan,h,hk,rest,retV,loc,alu,mop1,gf,pf,al,sa,la,Option.map_none,ha,ht,true_and,hv]
 by_cases q:inb i n=true
 ·simp only[q,if_true]
 ·simp only[q,if_false,cop1,Bool.false_eq_true]
theorem bastoreT(hf:∀c,f c=run (plan code rt (mop1 arrs gS upd) (cop1 na ml wm)) f c){j n:Nat}{ty:FieldType}{i v:Int32}(h:code m pc=some (.bastore,pn,kp))(hk:tk kp ls=ls)(ha:arrs[j]? = some (ty,n))(ht:isB ty=true){v':Int32}(hv:nar ty v=v')(hi:inb i n=true){z:Nat}(hz:i.toNatClampNeg=z):f (m,pc,ls,.int v :: .int i :: .ref (j+1)::st,S)=f (m,pn,ls,st,upd S (j+1) z v'):=by
 rw[bastore hf h hk ha ht hv,if_pos hi,hz]
theorem call(hf:∀c,f c=run (plan code rt (mop1 arrs gS upd) (cop1 na ml wm)) f c){k:Nat}{as r as':List Value}(h:code m pc=some (.invokevirtual k,pn,kp))(hk:tk kp ls=ls)(ht:takeA (na k) [] st=some (as,.ref 0::r))(hc:okn as=true/\cats r<=wm m/\(entL (.ref 0::as)).length<=ml k)(he:entL (.ref 0::as)=as'):f (m,pc,ls,st,S)=(f (k,0,as',[],S)).bind fun q=>f (m,pn,ls,q.1.toList++r,q.2):=by
 rw[hf]
 simp only[run,plan,h,hk,rest,retV,loc,alu,mop1,gf,pf,al,sa,la,Option.map_none,cop1,ht,he]
 rw[<-he,if_pos hc]
end F
namespace F
variable {σ:Type} {code:Codes} {rt:Nat->Option FieldType} {f1:Cfg σ->Option (Res σ)} {Z0:σ} {pe nmax:Nat} {na1 ml1 wm na ml:Nat->Nat} {sc:Option (List Int32)} {f:Cfg (W2 σ)->Option (Res (W2 σ))} {m pc pn:Nat} {kp:Option Nat} {ls st:List Value} {ob:List σ} {b:Bool}
theorem new(hf:∀c,f c=run (plan code rt (mop2 f1 Z0 pe nmax na1 ml1 wm sc) (cop2 na ml wm)) f c){q r:Nat}(h:code 0 pc=some (.new q,pn,kp))(hk:tk kp ls=ls)(hl:ob.length<nmax)(hr:ob.length+1=r):f (0,pc,ls,st,(false,ob))=f (0,pn,ls,.ref r::st,(true,ob)):=by
 rw[hf]
 simp only[run,plan,h,hk,rest,retV,loc,alu,Option.map_none,mop2,nw,hl,true_and,if_true,hr]
theorem ctor(hf:∀c,f c=run (plan code rt (mop2 f1 Z0 pe nmax na1 ml1 wm sc) (cop2 na ml wm)) f c){q r:Nat}{as as' rs:List Value}(h:code 0 pc=some (.invokespecial q,pn,kp))(hk:tk kp ls=ls)(ht:takeA (na1 0) [] st=some (as,.ref r::rs))(hr:r=ob.length+1)(hc:okn as=true/\cats rs<=wm 0/\(entL (.ref 0::as)).length<=ml1 0)(he:entL (.ref 0::as)=as') :
  f (0,pc,ls,st,(true,ob))=(f1 (0,pe,as',[],Z0)).bind fun q=>f (0,pn,ls,rs,(false,ob++[q.2])):=by
 rw[hf]
 subst he
 simp only[run,plan,h,hk,rest,retV,loc,alu,Option.map_none,mop2,ct,ht]
 rw[if_pos ⟨⟨trivial,hr⟩,hc⟩]
 cases f1 (0,pe,entL (.ref 0::as),[],Z0) with
 |none=>simp only[Option.map_none,cop2,Option.bind_none]
 |some q=>simp only[Option.map_some,Option.bind_some]
theorem virt(hf:∀c,f c=run (plan code rt (mop2 f1 Z0 pe nmax na1 ml1 wm sc) (cop2 na ml wm)) f c){k o:Nat}{as as' rs:List Value}{S:σ}(h:code m pc=some (.invokevirtual k,pn,kp))(hk:tk kp ls=ls)(ht:takeA (na1 k) [] st=some (as,.ref (o+1)::rs))(hS:ob[o]? = some S)(hc:okn as=true/\cats rs<=wm m/\(entL (.ref 0::as)).length<=ml1 k)(he:entL (.ref 0::as)=as') :
  f (m,pc,ls,st,(false,ob))=(f1 (k,0,as',[],S)).bind fun q=>f (m,pn,ls,q.1.toList++rs,(false,ob.set o q.2)):=by
 rw[hf]
 subst he
 simp only[run,plan,h,hk,rest,retV,loc,alu,Option.map_none,mop2,vt,ht,hS]
 rw[if_pos hc]
 cases f1 (k,0,entL (.ref 0::as),[],S) with
 |none=>simp only[Option.map_none,cop2,Option.bind_none]
 |some q=>simp only[Option.map_some,Option.bind_some]
theorem sload(hf:∀c,f c=run (plan code rt (mop2 f1 Z0 pe nmax na1 ml1 wm sc) (cop2 na ml wm)) f c){i:Int32}{xs:List Int32}(hx:sc=some xs)(h:code m pc=some (.iaload,pn,kp))(hk:tk kp ls=ls){w:W2 σ}:f (m,pc,ls,.int i :: .ref 0::st,w)=if inb i xs.length=true then f (m,pn,ls,.int (xs.getD i.toNatClampNeg 0)::st,w) else none:=by
 rw[hf]
 subst hx
 simp only[run,plan,h,hk,rest,retV,loc,alu,Option.map_none,mop2,sl]
 by_cases q:inb i xs.length=true
 ·simp only[q,if_true]
 ·simp only[q,if_false,cop2,Bool.false_eq_true]
theorem slen(hf:∀c,f c=run (plan code rt (mop2 f1 Z0 pe nmax na1 ml1 wm sc) (cop2 na ml wm)) f c){xs:List Int32}(hx:sc=some xs)(h:code m pc=some (.arraylength,pn,kp))(hk:tk kp ls=ls){w:W2 σ}:f (m,pc,ls,.ref 0::st,w)=f (m,pn,ls,.int (Int32.ofNat xs.length)::st,w):=by
 rw[hf]
 subst hx
 simp only[run,plan,h,hk,rest,retV,loc,alu,Option.map_none,mop2,sn]
theorem stat(hf:∀c,f c=run (plan code rt (mop2 f1 Z0 pe nmax na1 ml1 wm sc) (cop2 na ml wm)) f c){k:Nat}{as as' rs:List Value}{w:W2 σ}(h:code m pc=some (.invokestatic k,pn,kp))(hk:tk kp ls=ls)(ht:takeA (na k) [] st=some (as,rs))(hc:k≠0/\okv as=true/\cats rs<=wm m/\(entL as).length<=ml k)(he:entL as=as') :
  f (m,pc,ls,st,w)=(f (k,0,as',[],w)).bind fun q=>f (m,pn,ls,q.1.toList++rs,q.2):=by
 rw[hf]
 subst he
 simp only[run,plan,h,hk,rest,retV,loc,alu,Option.map_none,mop2,cop2,ht]
 rw[if_pos hc]
end F
section Top
variable {σ:Type} {C:String} {gds:List (String×String)} {fds:List (String×String×Nat)} {arrs:List (FieldType×Nat)} {Z:State} {G:σ->Nat->Nat->Int32} {fs nmax:Nat} {sc:Option (List Int32)} {mi2:MI} {rt2:Nat->Option FieldType} {l:Launch} {own:String}
set_option maxHeartbeats 1000000 in
theorem top{code2:Codes}{mop:Mop (W2 σ)}{cop:Cop}{n:Nat}(hW:Walks code2 rt2 mop cop mi2 own Z l (rho2 (arrs.length+1)) (J2 C gds fds arrs Z G fs nmax sc) n)(hpn:plainName own=true)(hcls:(mi2 0).1.cls=own){as:List Value}(hok:okv as=true)(hlen:(entL as).length<=(mi2 0).2.2.1)
  {r:Res (W2 σ)} (hit:iter (plan code2 rt2 mop cop) n (0,0,entL as,[],(false,[]))=some r) {rm:Room} (hfr:(mi2 0).2.2.2.1<=rm.frames) (hlw:(mi2 0).2.2.2.2<=rm.locals) (hRc:nmax*(arrs.length+1)<=rm.cells) (hRs:nmax*(fs+slotSum arrs arrs.length)<=rm.slots) {h:Heap} {sa:Nat}
  (hsc:∀xs,sc=some xs->sa<h.size/\xs.length<2147483648/\∃cell,Arr Z h sa cell .int/\cell.slots.size=xs.length/\∀i,i<xs.length->cell.slots[i]? = some (.int (xs.getD i 0))) (ws:List Jvm.Cond) :
  MetFree l (mi2 0).1 (head1 (Cond.code (mi2 0).1 (mi2 0).2.1 (mi2 0).2.2.1 (rt2 0)::ws) rm)
   (fun A U=>A=(as.map (cv (rho2 (arrs.length+1) (sa,h.size,0,0)))).toArray/\Z.Warmed39 U.vm/\U.heap=h) (fun _ _ _ _ _=>True)
   (fun _ U o U'=>∃v L,o = .returned v/\(v=r.1/\Fr h.size L)/\FrameEnd U o U' L rm.cells rm.slots):=by
 refine MetFree.of_bodySF (plainFor_of_name (by rw[hcls];exact hpn)) hisR ?_
 intro p e s m args below meth c s₁ Bd hml0 hP hK
 obtain⟨rfl,hZ,hh⟩:=hP
 have hown:s.vm.findClass own=some m.cls:=by rw[<-hcls];exact findClass_of_methodNamed Bd.named
 have hnm:=(name_of_methodNamed Bd.named Bd.method).1
 have X0:=Stand.of_body Bd
 have e0:s₁.heap=h:=by rw[<-hh,Bd.state];rfl
 obtain⟨L,q1,q2,q3,q4⟩:=entry_rel (rho2 (arrs.length+1) (sa,h.size,0,0)) (vs:=as) hok hlen
 obtain⟨T',L',k',n',X',⟨-,⟨j3,j4⟩,-,-,-,-,jN⟩,⟨ok1,ok2⟩,st⟩:=hW (sa,h.size,0,0) p e _ s m _ below meth c 0 0 _ [] (false,[]) r hit s₁ [] 0 0 L X0 ⟨Bd.exec,hZ,hown,Bd.bytes,hml0,Bd.returns,hnm,hfr,hlw⟩
  ⟨⟨by simp[cnt],by simp[scn]⟩,⟨Nat.zero_le _,Nat.zero_le _⟩,fun _=>⟨rfl,rfl,hRc,hRs⟩,fun q=>absurd rfl q,by rw[hh];rfl,by rw[e0];exact⟨fun o S q=>by simp at q,fun q=>(by cases q),by simp[cnt],hsc⟩,Fr.nil _⟩ q2 q3 (by rw[q4,hml0])
 obtain⟨fs',hr,hrun,hended,hWm,hsame⟩:=X'.leave (v:=r.1) ok1
 refine⟨_,_,?_,hrun,hended,_,_,rfl,⟨rfl,jN⟩,⟨_,rfl⟩,hWm,hsame.mono j3 j4⟩
 have:=st fs' hr
 rw[q1 m]
 exact this
end Top
def laidW(fin:Bool)(C n d:String):Jvm.Cond:=if fin=true then .laysFinal C C n d else .lays C C n d
abbrev Ent:=Nat×Instr×Nat×Option Nat
abbrev Mth:=MethodName×ByteArray×Nat×Nat×Nat×Option FieldType×Nat×Nat×Bool×List Ent
def m0:Mth:=(⟨"","",""⟩,⟨#[]⟩,0,0,0,none,0,0,false,[])
def miOf(ms:List Mth)(k:Nat):MethodName×ByteArray×Nat×Nat×Nat:=let q:=ms.getD k m0;(q.1,q.2.1,q.2.2.1,q.2.2.2.1,q.2.2.2.2.1)
def rtOf(ms:List Mth)(k:Nat):Option FieldType:=(ms.getD k m0).2.2.2.2.2.1
def naOf(ms:List Mth)(k:Nat):Nat:=(ms.getD k m0).2.2.2.2.2.2.1
def wmOf(ms:List Mth)(k:Nat):Nat:=(ms.getD k m0).2.2.2.2.2.2.2.1
def clOf(ms:List Mth)(k:Nat):List Ent:=(ms.getD k m0).2.2.2.2.2.2.2.2.2
def cdOf(ms:List Mth):Codes:=fun m pc=>lk pc (clOf ms m)
def goodB(Tb:Tabs)(ms:List Mth):Bool:=ms.all fun q=>q.2.2.2.2.2.2.2.2.2.all (chkE Tb q.2.1 q.2.2.1)
theorem good_of{Tb:Tabs}{ms:List Mth}(h:goodB Tb ms=true):Good Tb (miOf ms) (cdOf ms):=by
 intro mm pc q hq
 have hq':=lk_mem hq
 unfold clOf at hq'
 by_cases hm:mm<ms.length
 ·have e:ms.getD mm m0=ms[mm]:=by simp[List.getD,hm]
  have h1:=List.all_eq_true.mp h ms[mm] (List.getElem_mem hm)
  have h2:=List.all_eq_true.mp h1 (pc,q) (by rw[e] at hq';exact hq')
  show chkE Tb (ms.getD mm m0).2.1 (ms.getD mm m0).2.2.1 (pc,q)=true
  rw[e];exact h2
 ·have e:ms.getD mm m0=m0:=by simp[List.getD,hm]
  rw[e] at hq'
  cases hq'
def roomB(ms callees:List Mth)(isCall:Instr->Option Nat):Bool:=ms.all fun q=>q.2.2.2.2.2.2.2.2.2.all fun en=>match isCall en.2.1 with
 |some k=>decide ((callees.getD k m0).2.2.2.1+1<=q.2.2.2.1)&&decide (q.2.2.2.2.2.2.2.1+((callees.getD k m0).2.2.1+11)+(callees.getD k m0).2.2.2.2.1<=q.2.2.2.2.1)
 |none=>true
theorem room_of{ms callees:List Mth}{isCall:Instr->Option Nat}(h:roomB ms callees isCall=true){mm pc k:Nat}{i:Instr}{pn:Nat}{kp:Option Nat}(hc:cdOf ms mm pc=some (i,pn,kp))(hi:isCall i=some k) :
  (miOf callees k).2.2.2.1+1<=(miOf ms mm).2.2.2.1/\wmOf ms mm+((miOf callees k).2.2.1+11)+(miOf callees k).2.2.2.2<=(miOf ms mm).2.2.2.2:=by
 have hq':=lk_mem hc
 unfold clOf at hq'
 by_cases hm:mm<ms.length
 ·have e:ms.getD mm m0=ms[mm]:=by simp[List.getD,hm]
  have h1:=List.all_eq_true.mp h ms[mm] (List.getElem_mem hm)
  have h2:=List.all_eq_true.mp h1 (pc,i,pn,kp) (by rw[e] at hq';exact hq')
  simp only[hi,Bool.and_eq_true,decide_eq_true_eq] at h2
  simp only[miOf,wmOf,e]
  exact h2
 ·have e:ms.getD mm m0=m0:=by simp[List.getD,hm]
  rw[e] at hq'
  cases hq'
def callVk:Instr->Option Nat
 | .invokevirtual k=>some k
 |_=>none
def callSk:Instr->Option Nat
 | .invokestatic k=>some k
 |_=>none
abbrev Cls:=String×Nat×List (String×String)×List (String×String×Nat)×List (FieldType×Nat)×Bool×List Item×Nat×Nat×List (Nat×Int)×Tabs×List Mth
def mthW(C:String)(q:Mth):List Jvm.Cond:=if q.1.cls = "" then [] else [.instanceMethod q.1,.code q.1 q.2.1 q.2.2.1 q.2.2.2.2.2.1]++(if q.2.2.2.2.2.2.2.2.1=true then [.privateMethod q.1] else [.declares q.1,.selects C q.1 q.1])
def needs1(D:Cls):List Jvm.Cond:=match D with
 |(C,fs,gds,fds,_,fa,items,_,oi,_,Tb,ms)=>
  [.instantiable C fs,.initialized C,.methodLink C oi Lib.objectInit,.instanceMethod Lib.objectInit,.code Lib.objectInit ⟨#[0xb1]⟩ 1 none,.instanceMethod (ms.getD 0 m0).1,.code (ms.getD 0 m0).1 (ms.getD 0 m0).2.1 (ms.getD 0 m0).2.2.1 none] ++
  fds.map (fun q=>if q.2.2%3=2 then laidW fa C q.1 q.2.1 else .lays C C q.1 q.2.1)++gds.map (fun q=>laidW true C q.1 q.2)++Tb.1.map (fun q => .fieldLink C q.1 C q.2.1 q.2.2.1)++items.map (fun q => .fieldLink C q.2.1 C q.2.2.1 q.2.2.2) ++
  items.filterMap (fun q=>q.1.map fun t => .arrayClass (newarray.typeOf t))++Tb.2.1.map (fun q => .methodLink C q.1 (ms.getD q.2 m0).1)++(ms.drop 1).flatMap (mthW C)++Tb.2.2.2.1.map (fun q => .constant C q.1 q.2)++Tb.2.2.2.2.1.map (fun q => .constantLong C q.1 q.2)
def descB(q:Mth):Bool:=match parseMethodDescriptor q.1.desc with
 |some ⟨ps,r⟩=>decide (r=q.2.2.2.2.2.1)&&decide (ps.length=q.2.2.2.2.2.2.1)
 |none=>false
def isArrD(d:String):Bool:=match parseFieldDescriptor d with
 |some (.array _)=>true
 |_=>false
def data1(D:Cls):Bool:=match D with
 |(C,fs,gds,fds,arrs,fa,items,pe,oi,iv,Tb,ms)=>
  decide ((gds.map (·.1)++fds.map (·.1)).Nodup)&&decide ((fds.map fun q=>q.2.2).Nodup)&&decide (((fds.filter fun q=>decide (q.2.2%3≠2)).map fun q=>q.2.2/3).Nodup) &&
  fds.all (fun q=>decide (q.2.2%3=0->q.2.1 = "I")&&decide (q.2.2%3=1->q.2.1 = "Z")&&decide (q.2.2%3=2->(isArrD q.2.1=true/\q.2.2/3<arrs.length)))&&gds.all (fun q=>decide (q.2 = "I"))&&Tb.1.all (fun q=>decide ((q.2.1,q.2.2.1,q.2.2.2)∈fds)) &&
  arrs.all (fun q=>decide (q.1 = .int\/q.1 = .boolean\/q.1 = .byte))&&items.all (fun q=>match q.1 with
   |none=>decide ((q.2.2.1,q.2.2.2)∈gds)||fds.any fun w=>decide (w.1=q.2.2.1)&&decide (w.2.1=q.2.2.2)&&decide (w.2.2%3=0)
   |some _=>fds.any fun w=>decide (w.1=q.2.2.1)&&decide (w.2.1=q.2.2.2)&&decide (w.2.2%3=2)) &&
  Tb.2.1.all (fun q=>decide (1<=q.2)&&decide (q.2<ms.length)&&decide ((ms.getD q.2 m0).1.cls=C))&&ms.all (fun q=>decide (q.1.cls = "")||descB q)&&decide (C ≠ "")&&decide ((ms.getD 0 m0).1.cls=C)&&decide (C ≠ "java/lang/invoke/MethodHandle")&&decide (C ≠ "java/lang/invoke/VarHandle")&&plainName C &&
  decide ((ms.getD 0 m0).1.name = "<init>")&&decide ((ms.getD 0 m0).2.2.2.2.2.1=none)&&decide (0<ms.length)&&decide (1<=(ms.getD 0 m0).2.2.2.1)&&decide (12<=(ms.getD 0 m0).2.2.2.2.1) &&
  proChk (ms.getD 0 m0).2.1 Tb (ms.getD 0 m0).2.2.1 gds fds arrs pe items 4 0 iv&&(match decode (ms.getD 0 m0).2.1 0,decode (ms.getD 0 m0).2.1 1 with
   | .ok (.aload_n 0,1),.ok (.invokespecial oi',3)=>decide (oi'=oi)
   |_,_=>false)
theorem nodup_inj{α β:Type}{f:α->β}:∀ {l:List α},(l.map f).Nodup->∀ {a b:α},a∈l->b∈l->f a=f b->a=b
 |[],_,a,b,ha,_,_=>by cases ha
 |x::l,h,a,b,ha,hb,e=>by
  rw[List.map_cons,List.nodup_cons] at h
  rcases List.mem_cons.mp ha with rfl | ha'<;>rcases List.mem_cons.mp hb with rfl | hb'
  ·rfl
  ·exact absurd (e▸List.mem_map_of_mem hb') h.1
  ·exact absurd (e.symm▸List.mem_map_of_mem ha') h.1
  ·exact nodup_inj h.2 ha' hb' e
theorem laid_of{Z:State}{a0:Array Value}{fin:Bool}{C n d:String}(h:(laidW fin C n d).before a0 Z=true):Laid Z a0 C C n d:=by
 unfold laidW at h
 split at h
 ·exact Or.inr h
 ·exact Or.inl h
set_option maxHeartbeats 1000000 in
theorem base_of{C:String}{fs:Nat}{gds:List (String×String)}{fds:List (String×String×Nat)}{arrs:List (FieldType×Nat)}{fa:Bool}{items:List Item}{pe oi:Nat}{iv:List (Nat×Int)}{Tb:Tabs}{ms:List Mth}{Z:State}{a0:Array Value}
  (hD:data1 (C,fs,gds,fds,arrs,fa,items,pe,oi,iv,Tb,ms)=true) (hw:∀w∈needs1 (C,fs,gds,fds,arrs,fa,items,pe,oi,iv,Tb,ms),w.before a0 Z=true) :
  Base C gds fds arrs items Z a0 fs Tb (miOf ms) (rtOf ms) (naOf ms) pe oi iv/\∀own k idx Tb',(∀idx',(idx',k)∈Tb'.2.1->(Cond.methodLink own idx' (miOf ms k).1).before a0 Z=true)->(idx,k)∈Tb'.2.1->(ms.getD k m0).1.cls=C->k≠0->MthOK C Tb' Z a0 (miOf ms) (rtOf ms) own k (naOf ms):=by
 simp only[data1,Bool.and_eq_true,decide_eq_true_eq] at hD
 obtain⟨⟨⟨⟨⟨⟨⟨⟨⟨⟨⟨⟨⟨⟨⟨⟨⟨⟨⟨⟨⟨h1,h2⟩,h3⟩,h4⟩,h5⟩,h6⟩,h7⟩,h8⟩,h9⟩,h10⟩,h10a⟩,h10b⟩,h11⟩,h12⟩,h13⟩,h14⟩,h15⟩,h16⟩,h17⟩,h18⟩,h19⟩,h20⟩:=hD
 simp only[List.all_eq_true,Bool.and_eq_true,decide_eq_true_eq] at h4 h5 h6 h7 h9
 have h1g:(gds.map (·.1)).Nodup:=(List.nodup_append.mp h1).1
 have h1f:(fds.map (·.1)).Nodup:=(List.nodup_append.mp h1).2.1
 have h1d:∀n∈gds.map (·.1),∀n'∈fds.map (·.1),n≠n':=(List.nodup_append.mp h1).2.2
 have w0:(Cond.instantiable C fs).before a0 Z=true:=hw _ (by simp[needs1])
 have w1:(Cond.initialized C).before a0 Z=true:=hw _ (by simp[needs1])
 have w2:(Cond.methodLink C oi Lib.objectInit).before a0 Z=true:=hw _ (by simp[needs1])
 have w3:(Cond.instanceMethod Lib.objectInit).before a0 Z=true:=hw _ (by simp[needs1])
 have w4:(Cond.code Lib.objectInit ⟨#[0xb1]⟩ 1 none).before a0 Z=true:=hw _ (by simp[needs1])
 have wf:∀q∈fds,(if q.2.2%3=2 then laidW fa C q.1 q.2.1 else Jvm.Cond.lays C C q.1 q.2.1).before a0 Z=true:=fun q hq=>hw _ (by
  simp only[needs1,List.mem_append]
  exact Or.inl (Or.inl (Or.inl (Or.inl (Or.inl (Or.inl (Or.inl (Or.inl (Or.inr (List.mem_map.mpr ⟨q,hq,rfl⟩))))))))))
 have wg:∀q∈gds,(laidW true C q.1 q.2).before a0 Z=true:=fun q hq=>hw _ (by
  simp only[needs1,List.mem_append]
  exact Or.inl (Or.inl (Or.inl (Or.inl (Or.inl (Or.inl (Or.inl (Or.inr (List.mem_map.mpr ⟨q,hq,rfl⟩)))))))))
 have wl:∀q∈Tb.1,(Jvm.Cond.fieldLink C q.1 C q.2.1 q.2.2.1).before a0 Z=true:=fun q hq=>hw _ (by
  simp only[needs1,List.mem_append]
  exact Or.inl (Or.inl (Or.inl (Or.inl (Or.inl (Or.inl (Or.inr (List.mem_map.mpr ⟨q,hq,rfl⟩))))))))
 have wi:∀q∈items,(Jvm.Cond.fieldLink C q.2.1 C q.2.2.1 q.2.2.2).before a0 Z=true:=fun q hq=>hw _ (by
  simp only[needs1,List.mem_append]
  exact Or.inl (Or.inl (Or.inl (Or.inl (Or.inl (Or.inr (List.mem_map.mpr ⟨q,hq,rfl⟩)))))))
 have wa:∀q∈items,∀t,q.1=some t->(Jvm.Cond.arrayClass (newarray.typeOf t)).before a0 Z=true:=fun q hq t ht=>hw _ (by
  simp only[needs1,List.mem_append]
  exact Or.inl (Or.inl (Or.inl (Or.inl (Or.inr (List.mem_filterMap.mpr ⟨q,hq,by rw[ht];rfl⟩))))))
 have wm:∀q∈ms.drop 1,∀w∈mthW C q,w.before a0 Z=true:=fun q hq w hw'=>hw _ (by
  simp only[needs1,List.mem_append]
  exact Or.inl (Or.inl (Or.inr (List.mem_flatMap.mpr ⟨q,hq,hw'⟩))))
 have wc:∀q∈Tb.2.2.2.1,(Jvm.Cond.constant C q.1 q.2).before a0 Z=true:=fun q hq=>hw _ (by
  simp only[needs1,List.mem_append]
  exact Or.inl (Or.inr (List.mem_map.mpr ⟨q,hq,rfl⟩)))
 have wcl:∀q∈Tb.2.2.2.2.1,(Jvm.Cond.constantLong C q.1 q.2).before a0 Z=true:=fun q hq=>hw _ (by
  simp only[needs1,List.mem_append]
  exact Or.inr (List.mem_map.mpr ⟨q,hq,rfl⟩))
 have lf:∀n d k,(n,d,k)∈fds->Laid Z a0 C C n d:=fun n d k hq=>by
  have:=wf _ hq
  dsimp only at this
  split at this
  ·exact laid_of this
  ·exact Or.inl this
 have pf':∀n d k,(n,d,k)∈fds->∃t,parseFieldDescriptor d=some t:=fun n d k hq=>by
  obtain⟨⟨a,b⟩,c⟩:=h4 _ hq
  dsimp only at a b c
  have:k%3=0\/k%3=1\/k%3=2:=by omega
  rcases this with q | q | q
  ·rw[a q];exact⟨.int,by decide⟩
  ·rw[b q];exact⟨.boolean,by decide⟩
  ·have:=(c q).1
   unfold isArrD at this
   split at this
   ·rename_i u hu;exact⟨_,hu⟩
   ·cases this
 have K:ClsOK C fds arrs Tb Z a0:=by
  refine⟨⟨fs,w0⟩,fun n d k hq=>⟨lf n d k hq,fun q=>?_,fun q=>(h4 _ hq).1.1 q,fun q=>(h4 _ hq).1.2 q,pf' n d k hq⟩,fun n d k n' d' k' hq hq' e=>?_,fun n d k n' d' k' hq hq' e q q'=>?_,fun idx n d k hq=>⟨wl _ hq,h6 _ hq⟩,fun j ty n hj=>h7 _ (List.mem_of_getElem? hj)⟩
  ·have:=wf _ hq
   dsimp only at this
   rw[if_neg q] at this
   exact this
  ·have:=nodup_inj h1f hq hq' e
   simp only[Prod.mk.injEq] at this
   exact this.2
  ·intro e'
   have m1:(n,d,k)∈fds.filter fun q=>decide (q.2.2%3≠2):=List.mem_filter.mpr ⟨hq,by simpa using q⟩
   have m2:(n',d',k')∈fds.filter fun q=>decide (q.2.2%3≠2):=List.mem_filter.mpr ⟨hq',by simpa using q'⟩
   have:=nodup_inj h3 m1 m2 e'
   simp only[Prod.mk.injEq] at this
   exact e this.1
 have M:MakOK C gds fds arrs items Z a0:=by
  refine⟨fun t idx n d hq=>⟨wi _ hq,?_,fun ht=>?_,fun ht=>?_,fun t' ht=>wa _ hq t' ht⟩,fun n d hq=>⟨laid_of (wg _ hq),?_,fun n' d' k' hq' e=>h1d n (List.mem_map_of_mem hq) n' (List.mem_map_of_mem hq') e⟩,fun n d n' d' q hq hq'=>?_,fun n d n' d' hq hq' e=>?_,fun j ty n hj=>?_⟩
  ·have:=List.all_eq_true.mp h8 _ hq
   dsimp only at this
   split at this
   ·simp only[Bool.or_eq_true,decide_eq_true_eq,List.any_eq_true,Bool.and_eq_true] at this
    rcases this with q | ⟨⟨n1,d1,k1⟩,m1,⟨e1,e2⟩,e3⟩
    ·exact laid_of (wg _ q)
    ·dsimp only at e1 e2;subst e1 e2;exact lf _ _ _ m1
   ·simp only[decide_eq_true_eq,List.any_eq_true,Bool.and_eq_true] at this
    obtain⟨⟨n1,d1,k1⟩,m1,⟨e1,e2⟩,e3⟩:=this
    dsimp only at e1 e2;subst e1 e2;exact lf _ _ _ m1
  ·have:=List.all_eq_true.mp h8 _ hq
   dsimp only at this
   subst ht
   simp only[Bool.or_eq_true,decide_eq_true_eq,List.any_eq_true,Bool.and_eq_true] at this
   rcases this with q | ⟨⟨n1,d1,k1⟩,m1,⟨e1,e2⟩,e3⟩
   ·exact h5 _ q
   ·dsimp only at e1 e2 e3;subst e1 e2;exact (h4 _ m1).1.1 e3
  ·have:=List.all_eq_true.mp h8 _ hq
   dsimp only at this
   cases t with
   |none=>exact absurd rfl ht
   |some t'=>
    simp only[decide_eq_true_eq,List.any_eq_true,Bool.and_eq_true] at this
    obtain⟨⟨n1,d1,k1⟩,m1,⟨e1,e2⟩,e3⟩:=this
    dsimp only at e1 e2 e3;subst e1 e2
    have:=((h4 _ m1).2 e3).1
    unfold isArrD at this
    split at this
    ·rename_i u hu;exact⟨u,hu⟩
    ·cases this
  ·exact h5 _ hq
  ·have:=nodup_inj h2 hq hq' rfl
   simp only[Prod.mk.injEq] at this
   exact this.1
  ·have:=nodup_inj h1g hq hq' e
   simp only[Prod.mk.injEq] at this
   exact this.2
  ·rcases h7 _ (List.mem_of_getElem? hj) with q | q | q<;>(dsimp only at q;subst q;rfl)
 have hdesc:∀k,(ms.getD k m0).1.cls=C->∃ps,parseMethodDescriptor (miOf ms k).1.desc=some ⟨ps,rtOf ms k⟩/\ps.length=naOf ms k:=by
  intro k hk
  have hm:k<ms.length:=by
   apply Classical.byContradiction
   intro q
   have e:ms.getD k m0=m0:=by simp[List.getD,q]
   rw[e] at hk
   exact h10a hk.symm
  have e:ms.getD k m0=ms[k]:=by simp[List.getD,hm]
  have:=List.all_eq_true.mp h10 ms[k] (List.getElem_mem hm)
  rw[<-e] at this
  simp only[Bool.or_eq_true,decide_eq_true_eq] at this
  rcases this with q | q
  ·rw[hk] at q;exact absurd q h10a
  ·unfold descB at q
   split at q
   ·rename_i ps r hp
    simp only[Bool.and_eq_true,decide_eq_true_eq] at q
    refine⟨ps,?_,q.2⟩
    rw[show rtOf ms k=r from q.1.symm]
    exact hp
   ·cases q
 refine⟨⟨⟨K,M,⟨fun k v hq=>wc _ hq,fun k v hq=>wcl _ hq⟩,w0,w1⟩,⟨h13,⟨h11,h12⟩,h10b,h14,h15⟩,fun n d q hq q3=>((h4 _ hq).2 q3).2,⟨h19,?_⟩,⟨w2,w3,w4⟩,⟨h17,h18⟩,?_⟩,?_⟩
 ·split at h20
  ·rename_i q1 q2
   simp only[decide_eq_true_eq] at h20
   subst h20
   exact⟨q1,q2⟩
  ·cases h20
 ·obtain⟨ps,q1,q2⟩:=hdesc 0 h10b
  refine⟨ps,?_,q2⟩
  rw[q1]
  have:rtOf ms 0=none:=h15
  rw[this]
 ·intro own k idx Tb' hl hidx hk hk0
  refine⟨fun idx' hidx'=>⟨hk,hl idx' hidx',?_⟩,hdesc k hk⟩
  have hm:k<ms.length:=by
   apply Classical.byContradiction
   intro q
   have e:ms.getD k m0=m0:=by simp[List.getD,q]
   rw[e] at hk
   exact h10a hk.symm
  have e:ms.getD k m0=ms[k]:=by simp[List.getD,hm]
  have hmem:ms.getD k m0∈ms.drop 1:=by
   rw[e]
   obtain⟨k',rfl⟩:∃k',k=k'+1:=⟨k-1,by omega⟩
   exact List.mem_of_getElem? (i:=k') (by rw[List.getElem?_drop];simp[Nat.add_comm,hm])
  have hw1:=wm _ hmem
  have hne:(ms.getD k m0).1.cls ≠ "" := by rw[hk];exact h10a
  simp only[mthW,if_neg hne] at hw1
  refine⟨hw1 _ (List.mem_append_left _ (List.mem_cons_self ..)),hw1 _ (List.mem_append_left _ (List.mem_cons_of_mem _ (List.mem_cons_self ..))),?_⟩
  by_cases hp:(ms.getD k m0).2.2.2.2.2.2.2.2.1=true
  ·exact Or.inl (hw1 _ (List.mem_append_right _ (by rw[if_pos hp];exact List.mem_cons_self ..)))
  ·exact Or.inr ⟨hw1 _ (List.mem_append_right _ (by rw[if_neg hp];exact List.mem_cons_self ..)),hw1 _ (List.mem_append_right _ (by rw[if_neg hp];exact List.mem_cons_of_mem _ (List.mem_cons_self ..)))⟩
def data2(C own:String)(ms ms2:List Mth)(Tb2:Tabs):Bool:=
 decide (own ≠ "java/lang/invoke/MethodHandle")&&decide (own ≠ "java/lang/invoke/VarHandle")&&plainName own&&ms2.all (fun q=>decide (q.1.cls=own)&&descB q)&&Tb2.2.1.all (fun q=>decide (q.2≠0)&&decide ((ms.getD q.2 m0).1.cls=C))&&Tb2.2.2.1.all (fun q=>decide (q.2<ms2.length))&&decide (0<ms2.length)
def needs2(C own:String)(ms ms2:List Mth)(Tb2:Tabs):List Jvm.Cond:=
 Tb2.2.2.2.2.2.1.map (fun q => .classLink own q.1 C)++Tb2.2.2.2.2.2.2.map (fun q => .methodLink own q.1 (ms.getD 0 m0).1)++Tb2.2.1.map (fun q => .methodLink own q.1 (ms.getD q.2 m0).1) ++
 Tb2.2.2.1.flatMap (fun q=>[.methodLink own q.1 (ms2.getD q.2 m0).1,.static (ms2.getD q.2 m0).1,.initialized own,.code (ms2.getD q.2 m0).1 (ms2.getD q.2 m0).2.1 (ms2.getD q.2 m0).2.2.1 (ms2.getD q.2 m0).2.2.2.2.2.1]) ++
 Tb2.2.2.2.1.map (fun q => .constant own q.1 q.2)++Tb2.2.2.2.2.1.map (fun q => .constantLong own q.1 q.2)
def callCk:Instr->Option Nat
 | .invokespecial _=>some 0
 |_=>none
def hasB(tw:List Jvm.Cond):List Jvm.Cond->List Nat->Bool
 |[],[]=>true
 |w::ws,i::is=>decide (tw[i]? = some w)&&hasB tw ws is
 |_,_=>false
theorem has_of{tw:List Jvm.Cond}:∀ {ws:List Jvm.Cond} {is:List Nat},hasB tw ws is=true->∀w∈ws,w∈tw
 |[],[],_,w,h=>by cases h
 |w::ws,i::is,h,v,hv=>by
  simp only[hasB,Bool.and_eq_true,decide_eq_true_eq] at h
  rcases List.mem_cons.mp hv with rfl | q
  ·exact List.mem_of_getElem? h.1
  ·exact has_of h.2 v q
 |[],_::_,h,w,hw=>by cases hw
 |_::_,[],h,w,hw=>by cases h
def iniS(iv:List (Nat×Int)):MS:=iv.foldl (fun S q=>upd S 0 q.1 (Int32.ofInt q.2)) (fun _ _=>0)
theorem iniS_spec(iv:List (Nat×Int)):(∀i,iniS iv 0 i=finG (fun _=>0) iv i)/\∀c i,iniS iv (c+1) i=0:=by
 have key:∀(iv:List (Nat×Int)) (S:MS) (g:Nat->Int32),(∀i,S 0 i=g i)->(∀c i,S (c+1) i=0)->(∀i,(iv.foldl (fun S q=>upd S 0 q.1 (Int32.ofInt q.2)) S) 0 i=finG g iv i)/\∀c i,(iv.foldl (fun S q=>upd S 0 q.1 (Int32.ofInt q.2)) S) (c+1) i=0:=by
  intro iv
  induction iv with
  |nil=>intro S g h1 h2;exact⟨h1,h2⟩
  |cons q r ih=>
   intro S g h1 h2
   refine ih (upd S 0 q.1 (Int32.ofInt q.2)) (fun i=>if i=q.1 then Int32.ofInt q.2 else g i) (fun i=>?_) (fun c i=>?_)
   ·simp only[upd,true_and,h1]
   ·simp only[upd,h2]
    rw[if_neg (by simp)]
 exact key iv (fun _ _=>0) (fun _=>0) (fun _=>rfl) (fun _ _=>rfl)
abbrev Fix1(arrs:List (FieldType×Nat))(ms:List Mth)(f1:Cfg MS->Option (Res MS)):Prop:=∀c,f1 c=run (plan (cdOf ms) (rtOf ms) (mop1 arrs gS upd) (cop1 (naOf ms) (fun k=>(miOf ms k).2.2.1) (wmOf ms))) f1 c
abbrev Fix2(ms ms2:List Mth)(iv:List (Nat×Int))(pe nmax:Nat)(sc:Option (List Int32))(f1:Cfg MS->Option (Res MS))(f2:Cfg (W2 MS)->Option (Res (W2 MS))):Prop:=
 ∀c,f2 c=run (plan (cdOf ms2) (rtOf ms2) (mop2 f1 (iniS iv) pe nmax (naOf ms) (fun k=>(miOf ms k).2.2.1) (wmOf ms2) sc) (cop2 (naOf ms2) (fun k=>(miOf ms2 k).2.2.1) (wmOf ms2))) f2 c
set_option maxHeartbeats 1000000 in
theorem law_of{C own:String}{fs:Nat}{gds:List (String×String)}{fds:List (String×String×Nat)}{arrs:List (FieldType×Nat)}{fa:Bool}{items:List Item}{pe oi:Nat}{iv:List (Nat×Int)}{Tb Tb2:Tabs}{ms ms2:List Mth}{Z:State}{a0:Array Value}{l:Launch}{tw:List Jvm.Cond}{is1 is2:List Nat}{nmax:Nat}
  (hD:data1 (C,fs,gds,fds,arrs,fa,items,pe,oi,iv,Tb,ms)=true) (hG1:goodB Tb ms=true) (hR1:roomB ms ms callVk=true) (hD2:data2 C own ms ms2 Tb2=true) (hG2:goodB Tb2 ms2=true) (hRv:roomB ms2 ms callVk=true) (hRc:roomB ms2 ms callCk=true) (hRs:roomB ms2 ms2 callSk=true)
  (hb1:hasB tw (needs1 (C,fs,gds,fds,arrs,fa,items,pe,oi,iv,Tb,ms)) is1=true) (hb2:hasB tw (needs2 C own ms ms2 Tb2) is2=true) (hw:∀d∈tw,d.before a0 Z=true)
  {as:List Value} (hok:okv as=true) (hlen:(entL as).length<=(miOf ms2 0).2.2.1) {rm:Room} (hfr:(miOf ms2 0).2.2.2.1<=rm.frames) (hlw:(miOf ms2 0).2.2.2.2<=rm.locals) (hcl:nmax*(arrs.length+1)<=rm.cells) (hsl:nmax*(fs+slotSum arrs arrs.length)<=rm.slots) {h:Heap} {sa:Nat} {sc:Option (List Int32)}
  (hsc:∀xs,sc=some xs->sa<h.size/\xs.length<2147483648/\∃cell,Arr Z h sa cell .int/\cell.slots.size=xs.length/\∀i,i<xs.length->cell.slots[i]? = some (.int (xs.getD i 0)))
  {v:Option Value} (hrun:∀f1 f2,Fix1 arrs ms f1->Fix2 ms ms2 iv pe nmax sc f1 f2->∃W,f2 (0,0,entL as,[],(false,[]))=some (v,W)) (ws:List Jvm.Cond) :
  MetFree l (miOf ms2 0).1 (head1 (Cond.code (miOf ms2 0).1 (miOf ms2 0).2.1 (miOf ms2 0).2.2.1 (rtOf ms2 0)::ws) rm)
   (fun A U=>A=(as.map (cv (rho2 (arrs.length+1) (sa,h.size,0,0)))).toArray/\Z.Warmed39 U.vm/\U.heap=h) (fun _ _ _ _ _=>True)
   (fun _ U o U'=>∃v' L,o = .returned v'/\(v'=v/\Fr h.size L)/\FrameEnd U o U' L rm.cells rm.slots):=by
 have hw1:∀w∈needs1 (C,fs,gds,fds,arrs,fa,items,pe,oi,iv,Tb,ms),w.before a0 Z=true:=fun w h=>hw w (has_of hb1 w h)
 have hw2:∀w∈needs2 C own ms ms2 Tb2,w.before a0 Z=true:=fun w h=>hw w (has_of hb2 w h)
 obtain⟨B,hM⟩:=base_of hD hw1
 simp only[data2,Bool.and_eq_true,decide_eq_true_eq,List.all_eq_true] at hD2
 obtain⟨⟨⟨⟨⟨⟨d1,d2⟩,d3⟩,d4⟩,d5⟩,d6⟩,d7⟩:=hD2
 have u1:∀q∈Tb2.2.2.2.2.2.1,(Jvm.Cond.classLink own q.1 C).before a0 Z=true:=fun q hq=>hw2 _ (by
  simp only[needs2,List.mem_append]
  exact Or.inl (Or.inl (Or.inl (Or.inl (Or.inl (List.mem_map.mpr ⟨q,hq,rfl⟩))))))
 have u2:∀q∈Tb2.2.2.2.2.2.2,(Jvm.Cond.methodLink own q.1 (ms.getD 0 m0).1).before a0 Z=true:=fun q hq=>hw2 _ (by
  simp only[needs2,List.mem_append]
  exact Or.inl (Or.inl (Or.inl (Or.inl (Or.inr (List.mem_map.mpr ⟨q,hq,rfl⟩))))))
 have u3:∀q∈Tb2.2.1,(Jvm.Cond.methodLink own q.1 (ms.getD q.2 m0).1).before a0 Z=true:=fun q hq=>hw2 _ (by
  simp only[needs2,List.mem_append]
  exact Or.inl (Or.inl (Or.inl (Or.inr (List.mem_map.mpr ⟨q,hq,rfl⟩)))))
 have u4:∀q∈Tb2.2.2.1,∀w∈[Jvm.Cond.methodLink own q.1 (ms2.getD q.2 m0).1,.static (ms2.getD q.2 m0).1,.initialized own,.code (ms2.getD q.2 m0).1 (ms2.getD q.2 m0).2.1 (ms2.getD q.2 m0).2.2.1 (ms2.getD q.2 m0).2.2.2.2.2.1],w.before a0 Z=true:=fun q hq w hw'=>hw2 _ (by
  simp only[needs2,List.mem_append]
  exact Or.inl (Or.inl (Or.inr (List.mem_flatMap.mpr ⟨q,hq,hw'⟩))))
 have u5:∀q∈Tb2.2.2.2.1,(Jvm.Cond.constant own q.1 q.2).before a0 Z=true:=fun q hq=>hw2 _ (by
  simp only[needs2,List.mem_append]
  exact Or.inl (Or.inr (List.mem_map.mpr ⟨q,hq,rfl⟩)))
 have u6:∀q∈Tb2.2.2.2.2.1,(Jvm.Cond.constantLong own q.1 q.2).before a0 Z=true:=fun q hq=>hw2 _ (by
  simp only[needs2,List.mem_append]
  exact Or.inr (List.mem_map.mpr ⟨q,hq,rfl⟩))
 have v0:(Jvm.Cond.instanceMethod (ms.getD 0 m0).1).before a0 Z=true:=hw1 _ (by simp[needs1])
 have v1:(Jvm.Cond.code (ms.getD 0 m0).1 (ms.getD 0 m0).2.1 (ms.getD 0 m0).2.2.1 none).before a0 Z=true:=hw1 _ (by simp[needs1])
 have hdD:=hD
 simp only[data1,Bool.and_eq_true,decide_eq_true_eq] at hdD
 have h9:∀q∈Tb.2.1,(1<=q.2/\q.2<ms.length)/\(ms.getD q.2 m0).1.cls=C:=by
  have:=hdD.1.1.1.1.1.1.1.1.1.1.1.1.1.2
  simpa only [List.all_eq_true,Bool.and_eq_true,decide_eq_true_eq] using this
 have wl1:∀q∈Tb.2.1,(Jvm.Cond.methodLink C q.1 (ms.getD q.2 m0).1).before a0 Z=true:=fun q hq=>hw1 _ (by
  simp only[needs1,List.mem_append]
  exact Or.inl (Or.inl (Or.inl (Or.inr (List.mem_map.mpr ⟨q,hq,rfl⟩)))))
 have B':=B
 obtain⟨⟨K,-,hCs,-,wz⟩,⟨hpn,hC,-,-,-⟩,-⟩:=B'
 have W1:∀n,Walks (cdOf ms) (rtOf ms) (mop1 arrs gS upd) (cop1 (naOf ms) (fun k=>(miOf ms k).2.2.1) (wmOf ms)) (miOf ms) C Z l rho1 (J1 C fds arrs Z gS) n:=
  walks (cdOf ms) (rtOf ms) _ _ Tb (miOf ms) C Z l rho1 _ hCs (good_of hG1) (mop1_ok K upd_law)
   (cop1_ok K hpn wz hC (fun k idx hk=>hM C k idx Tb (fun idx' h'=>wl1 _ h') hk (h9 _ hk).2 (by have:=(h9 _ hk).1.1;simp only at this;omega)) (fun mm pc k pn kp hc=>room_of hR1 hc rfl))
 obtain⟨f1,hf1,hi1⟩:=exists_fix (plan (cdOf ms) (rtOf ms) (mop1 arrs gS upd) (cop1 (naOf ms) (fun k=>(miOf ms k).2.2.1) (wmOf ms)))
 have hcst2:Cst Tb2 Z a0 own:=⟨fun k v hq=>u5 _ hq,fun k v hq=>u6 _ hq⟩
 have hsta:StaOK Tb2 Z a0 (miOf ms2) (rtOf ms2) own (naOf ms2):=by
  intro idx k hk
  have hlt:=d6 _ hk
  simp only at hlt
  have e:ms2.getD k m0=ms2[k]:=by simp[List.getD,hlt]
  obtain⟨q1,q2⟩:=d4 ms2[k] (List.getElem_mem hlt)
  rw[<-e] at q1 q2
  refine⟨q1,u4 _ hk _ (List.mem_cons_self ..),u4 _ hk _ (List.mem_cons_of_mem _ (List.mem_cons_self ..)),u4 _ hk _ (List.mem_cons_of_mem _ (List.mem_cons_of_mem _ (List.mem_cons_self ..))),u4 _ hk _ (List.mem_cons_of_mem _ (List.mem_cons_of_mem _ (List.mem_cons_of_mem _ (List.mem_cons_self ..)))),?_⟩
  unfold descB at q2
  split at q2
  ·rename_i ps r hp
   simp only[Bool.and_eq_true,decide_eq_true_eq] at q2
   refine⟨ps,?_,q2.2⟩
   rw[show rtOf ms2 k=r from q2.1.symm]
   exact hp
  ·cases q2
 obtain⟨z1,z2⟩:=iniS_spec iv
 have rV:∀mm pc k pn kp,cdOf ms2 mm pc=some (.invokevirtual k,pn,kp)->Room2 (miOf ms) (miOf ms2) (wmOf ms2) mm k:=fun mm pc k pn kp hc=>room_of (callees:=ms) (k:=k) hRv hc rfl
 have rC:∀mm pc k pn kp,cdOf ms2 mm pc=some (.invokespecial k,pn,kp)->Room2 (miOf ms) (miOf ms2) (wmOf ms2) mm 0:=fun mm pc k pn kp hc=>room_of (callees:=ms) (k:=0) hRc hc rfl
 have hvm:∀k idx,(idx,k)∈Tb2.2.1->MthOK C Tb2 Z a0 (miOf ms) (rtOf ms) own k (naOf ms):=fun k idx hk=>hM own k idx Tb2 (fun idx' h'=>u3 _ h') hk (d5 _ hk).2 (d5 _ hk).1
 have hnw:∀idx q,(idx,q)∈Tb2.2.2.2.2.2.1->(Cond.classLink own idx C).before a0 Z=true:=fun idx q hq=>u1 (idx,q) hq
 have hcw:CtW Z a0 Tb2 own (miOf ms 0).1 (miOf ms 0).2.1 (miOf ms 0).2.2.1:=⟨fun idx q hq=>u2 _ hq,v0,v1⟩
 have hmop:MopOK (cdOf ms2) (rtOf ms2) (mop2 f1 (iniS iv) pe nmax (naOf ms) (fun k=>(miOf ms k).2.2.1) (wmOf ms2) sc) Tb2 (miOf ms2) own Z l (rho2 (arrs.length+1)) (J2 C gds fds arrs Z gS fs nmax sc):=
  mop2_ok (σ:=MS) (C:=C) (gds:=gds) (fds:=fds) (arrs:=arrs) (Z:=Z) (G:=gS) (fs:=fs) (nmax:=nmax) (sc:=sc) (Tb1:=Tb) (Tb2:=Tb2) (a0:=a0) (mi1:=miOf ms) (mi2:=miOf ms2) (rt1:=rtOf ms) (rt2:=rtOf ms2) (l:=l) (own:=own) (na1:=naOf ms) (wm2:=wmOf ms2) (code1:=cdOf ms) (items:=items) (pe:=pe) (oi:=oi) (Z0:=iniS iv) (iv:=iv) (code2:=cdOf ms2) (f1:=f1) B W1 hi1 z1 z2 hnw hcw hvm rV rC
 have hcop:CopOK (cdOf ms2) (rtOf ms2) (mop2 f1 (iniS iv) pe nmax (naOf ms) (fun k=>(miOf ms k).2.2.1) (wmOf ms2) sc) (cop2 (naOf ms2) (fun k=>(miOf ms2 k).2.2.1) (wmOf ms2)) Tb2 (miOf ms2) own Z l (rho2 (arrs.length+1)) (J2 C gds fds arrs Z gS fs nmax sc):=
  cop2_ok (σ:=MS) (C:=C) (gds:=gds) (fds:=fds) (arrs:=arrs) (Z:=Z) (G:=gS) (fs:=fs) (nmax:=nmax) (sc:=sc) (Tb2:=Tb2) (a0:=a0) (mi2:=miOf ms2) (rt2:=rtOf ms2) (l:=l) (own:=own) (na2:=naOf ms2) (wm2:=wmOf ms2) (code2:=cdOf ms2) d3 ⟨d1,d2⟩ hsta (fun mm pc k pn kp hc=>room_of hRs hc rfl)
 have W2':∀n,Walks (cdOf ms2) (rtOf ms2) (mop2 f1 (iniS iv) pe nmax (naOf ms) (fun k=>(miOf ms k).2.2.1) (wmOf ms2) sc) (cop2 (naOf ms2) (fun k=>(miOf ms2 k).2.2.1) (wmOf ms2)) (miOf ms2) own Z l (rho2 (arrs.length+1)) (J2 C gds fds arrs Z gS fs nmax sc) n:=
  walks (cdOf ms2) (rtOf ms2) _ _ Tb2 (miOf ms2) own Z l (rho2 (arrs.length+1)) _ hcst2 (good_of hG2) hmop hcop
 obtain⟨f2,hf2,hi2⟩:=exists_fix (plan (cdOf ms2) (rtOf ms2) (mop2 f1 (iniS iv) pe nmax (naOf ms) (fun k=>(miOf ms k).2.2.1) (wmOf ms2) sc) (cop2 (naOf ms2) (fun k=>(miOf ms2 k).2.2.1) (wmOf ms2)))
 obtain⟨W,hW⟩:=hrun f1 f2 hf1 hf2
 obtain⟨n,hn⟩:=hi2 _ _ hW
 have e:ms2.getD 0 m0=ms2[0]:=by simp[List.getD,d7]
 have q1:=(d4 ms2[0] (List.getElem_mem d7)).1
 rw[<-e] at q1
 have q1':(miOf ms2 0).1.cls=own:=q1
 exact top (W2' n) d3 q1' hok hlen hn hfr hlw hcl hsl hsc ws
def evB(o:Jvm.Binary)(x y:Int32):Int32:=match o with
 | .iand=>x&&&y
 | .ior=>x|||y
 | .ixor=>x^^^y
 | .ishl=>x<<<(y&&&31)
 | .ishr=>x>>>(y&&&31)
 | .iushr=>XT.ushr x y
 |_=>0
def evU(o:Jvm.Unary)(x:Int32):Int32:=match o with
 | .ineg => -x
 | .i2b=>x.toInt8.toInt32
 |_=>0
def ev(ρ:Nat->Int32):Jvm.Term->Int32
 | .int v=>v
 | .arg i=>ρ i
 | .add a b=>ev ρ a+ev ρ b
 | .sub a b=>ev ρ a-ev ρ b
 | .mul a b=>ev ρ a*ev ρ b
 | .div a b=>ev ρ a/ev ρ b
 | .rem a b=>ev ρ a%ev ρ b
 | .op2 o a b=>evB o (ev ρ a) (ev ρ b)
 | .op1 o a=>evU o (ev ρ a)
 |_=>0
def cst(t:Jvm.Term):Option Int32:=match t with
 | .int v=>some v
 |_=>none
def msk(t:Jvm.Term):Option (Jvm.Term×Int32):=match t with
 | .op2 .iand a b=>(cst b).map fun x=>(a,x)
 |_=>none
abbrev SV:=Jvm.Term⊕Value
abbrev SL:=List SV
def cs(ρ:Nat->Int32):SV->Value
 | .inl t => .int (ev ρ t)
 | .inr v=>v
section Alu
variable {ρ:Nat->Int32} {st st' ls:SL}
abbrev two(ρ:Nat->Int32)(q:SL×SL):List Value×List Value:=(q.1.map (cs ρ),q.2.map (cs ρ))
variable {q:SL×SL} {k:Nat}
def pr(ls:SL)(o:Option SL):Option (SL×SL):=o.map fun st'=>(ls,st')
end Alu
abbrev Fct:=Bool×Jvm.Term×Jvm.Term×Bool
abbrev Pth:=List Fct
abbrev Rng:=Int×Int
def full:Rng:=(-2147483648,2147483647)
def one(x:Int32):Rng:=(x.toInt,x.toInt)
def mn(a b:Int):Int:=if a<=b then a else b
def mx(a b:Int):Int:=if a<=b then b else a
def tg(t:Jvm.Term):Nat:=match t with
 | .int _=>0
 | .arg _=>1
 | .add _ _=>2
 | .sub _ _=>3
 | .mul _ _=>4
 | .op2 _ _ _=>5
 |_=>6
def eqT(a b:Jvm.Term):Bool:=Nat.beq (tg a) (tg b)&&decide (a=b)
def cut(r s:Rng):Rng:=if s.1=s.2 then (if s.1=r.1 then (r.1+1,r.2) else if s.1=r.2 then (r.1,r.2-1) else r) else r
def fb1(g:Jvm.Term->Rng)(t:Jvm.Term)(f:Fct)(r:Rng):Rng:=match f with
 |(true,a,b,true)=>if eqT a t=true then (r.1,mn r.2 ((g b).2-1)) else if eqT b t=true then (mx r.1 ((g a).1+1),r.2) else r
 |(true,a,b,false)=>if eqT a t=true then (mx r.1 (g b).1,r.2) else if eqT b t=true then (r.1,mn r.2 (g a).2) else r
 |(false,a,b,true)=>if eqT a t=true then (mx r.1 (g b).1,mn r.2 (g b).2) else if eqT b t=true then (mx r.1 (g a).1,mn r.2 (g a).2) else r
 |(false,a,b,false)=>if eqT a t=true then cut r (g b) else if eqT b t=true then cut r (g a) else r
section Paths
variable {ρ:Nat->Int32}
def fb(g:Jvm.Term->Rng)(t:Jvm.Term):Pth->Rng->Rng
 |[],r=>r
 |f::P,r=>fb1 g t f (fb g t P r)
def g0(t:Jvm.Term):Rng:=match cst t with
 |some c=>one c
 |none=>full
def rng0(P:Pth)(t:Jvm.Term):Rng:=fb g0 t P (g0 t)
def bin(g:Int32->Int32->Int32)(x y:Rng):Rng:=if x.1=x.2/\y.1=y.2 then one (g (Int32.ofInt x.1) (Int32.ofInt y.1)) else full
def unr(g:Int32->Int32)(x:Rng):Rng:=if x.1=x.2 then one (g (Int32.ofInt x.1)) else full
def mab(o:Jvm.Binary)(x y:Rng):Rng:=match o with
 | .iand=>if (x.1=x.2/\y.1=y.2)\/¬(y.1=y.2/\0<=y.1) then bin (evB .iand) x y else (0,y.1)
 |o=>bin (evB o) x y
def dvb(x y:Rng):Rng:=if (x.1=x.2/\y.1=y.2)\/¬(y.1=y.2/\0<y.1) then bin (fun x y=>x/y) x y else (x.1.tdiv y.1,x.2.tdiv y.1)
def rng1(P:Pth):Jvm.Term->Rng
 | .int c=>one c
 | .arg i=>fb (rng0 P) (.arg i) P full
 | .add a b=>fb (rng0 P) (.add a b) P (bin (fun x y=>x+y) (rng1 P a) (rng1 P b))
 | .sub a b=>fb (rng0 P) (.sub a b) P (bin (fun x y=>x-y) (rng1 P a) (rng1 P b))
 | .mul a b=>fb (rng0 P) (.mul a b) P (bin (fun x y=>x*y) (rng1 P a) (rng1 P b))
 | .div a b=>fb (rng0 P) (.div a b) P (dvb (rng1 P a) (rng1 P b))
 | .rem a b=>fb (rng0 P) (.rem a b) P (bin (fun x y=>x%y) (rng1 P a) (rng1 P b))
 | .op2 o a b=>fb (rng0 P) (.op2 o a b) P (mab o (rng1 P a) (rng1 P b))
 | .op1 o a=>fb (rng0 P) (.op1 o a) P (unr (evU o) (rng1 P a))
 |_=>full
def lv:Jvm.Term->List Jvm.Term
 | .arg i=>[.arg i]
 | .add a b=>lv a++lv b
 | .sub a b=>lv a++lv b
 | .mul a b=>lv a++lv b
 | .div a b=>lv a++lv b
 | .rem a b=>lv a++lv b
 | .op2 o a b=>if (msk (.op2 o a b)).isSome=true then lv a++[.op2 o a b] else lv a++lv b
 | .op1 _ a=>lv a
 |_=>[]
def pickS(P:Pth):List Jvm.Term->Option Jvm.Term
 |[]=>none
 |t::r=>if (rng1 P t).1<(rng1 P t).2/\(rng1 P t).2-(rng1 P t).1<=300 then some t else pickS P r
def sml(P:Pth)(t:Jvm.Term):Option Jvm.Term:=if Nat.ble (tg t) 1=true then none else match msk t with
 |some q=>if (msk q.1).isSome=true then none else pickS P (lv q.1)
 |none=>pickS P (lv t)
def smf(P:Pth)(a b:Jvm.Term):Option Jvm.Term:=match sml P a with
 |some w=>some w
 |none=>sml P b
end Paths
abbrev CF:=Nat×Nat×SL×SL
abbrev SS:=List (List (List Jvm.Term))
def gT(S:SS)(c i:Nat):Jvm.Term:=((S.getD c []).getD (i/16) []).getD (i%16) (.int 0)
def setC{α β:Type}(d:α):List α->Nat->α->(List α->β)->β
 |[],0,v,k=>k [v]
 |[],n+1,v,k=>setC d [] n v fun r=>k (d::r)
 |_::r,0,v,k=>k (v::r)
 |x::r,n+1,v,k=>setC d r n v fun r'=>k (x::r')
def fN{β:Type}(n:Nat)(k:Nat->β):β:=match n with
 |0=>k 0
 |n+1=>k (n+1)
def fI{β:Type}(x:Int32)(k:Int32->β):β:=fN x.toBitVec.toNat fun n=>k (Int32.ofBitVec (BitVec.ofNat 32 n))
def fT{β:Type}(t:Jvm.Term)(k:Jvm.Term->β):β:=match cst t with
 |some x=>fI x fun y=>k (.int y)
 |none=>k t
def wr{β:Type}(S:SS)(c i:Nat)(v:Jvm.Term)(k:SS->β):β:=fT v fun v=>fN (i/16) fun a=>fN (i%16) fun b=>setC (.int 0) ((S.getD c []).getD a []) b v fun l=>setC [] (S.getD c []) a l fun r=>setC [] S c r k
def tkS:Nat->SL->SL->Option (SL×SL)
 |0,acc,st=>some (acc,st)
 |n+1,acc,v::st=>tkS n (v::acc) st
 |_+1,_,[]=>none
def okns:SL->Bool
 |[]=>true
 | .inl _::r=>okns r
 | .inr (.long _)::r=>okns r
 |_::_=>false
def okvs:SL->Bool
 |[]=>true
 | .inl _::r=>okvs r
 | .inr (.long _)::r=>okvs r
 | .inr (.ref _)::r=>okvs r
 |_::_=>false
def catS:SV->Nat
 | .inl _=>1
 | .inr v=>v.category
def catsS:SL->Nat
 |[]=>0
 |v::r=>catS v+catsS r
def entLs:SL->SL
 |[]=>[]
 | .inr (.long v)::r => .inr (.long v) :: .inr .null::entLs r
 |v::r=>v::entLs r
abbrev Fr:=Nat×Nat×SL×SL
abbrev Ctx:=List Fr×Option Nat×List SS×Bool×List Fr
abbrev Rec:=Pth->Bool->CF->SS->Ctx->Bool
section Whole
variable (cd1 cd2:Codes) (rt1 rt2:Nat->Option FieldType) (arrs:List (FieldType×Nat)) (na1 ml1 wm1 na2 ml2 wm2:Nat->Nat) (Z0:SS) (pe nmax:Nat) (fin:Pth->Option SV->SS->Bool) (hv:Nat->Nat->Option Nat)
def s2new(r:Rec)(P:Pth)(m pn:Nat)(ls st:SL)(ob:List SS)(raw:Bool)(K2:List Fr):Bool:=match raw with
 |true=>false
 |false=>if (Nat.beq m 0&&Nat.blt ob.length nmax)=true then r P false (m,pn,ls,.inr (.ref (ob.length+1))::st) [] ([],none,ob,true,K2) else false
def s2ct(r:Rec)(P:Pth)(m pn:Nat)(ls st:SL)(ob:List SS)(raw:Bool)(K2:List Fr):Bool:=match raw with
 |false=>false
 |true=>(match tkS (na1 0) [] st with
  |some (as,.inr (.ref x)::rs)=>if (Nat.beq m 0&&Nat.beq x (ob.length+1)&&okns as&&Nat.ble (catsS rs) (wm2 m)&&Nat.ble (entLs (.inr (.ref 0)::as)).length (ml1 0))=true then r P true (0,pe,entLs (.inr (.ref 0)::as),[]) Z0 ([],none,ob,false,(m,pn,ls,rs)::K2) else false
  |_=>false)
def s2vt(r:Rec)(P:Pth)(k m pn:Nat)(ls st:SL)(ob:List SS)(raw:Bool)(K2:List Fr):Bool:=match raw with
 |true=>false
 |false=>(match tkS (na1 k) [] st with
  |some (as,.inr (.ref (j+1))::rs)=>(match ob[j]? with
   |some S=>if (okns as&&Nat.ble (catsS rs) (wm2 m)&&Nat.ble (entLs (.inr (.ref 0)::as)).length (ml1 k))=true then r P true (k,0,entLs (.inr (.ref 0)::as),[]) S ([],some j,ob,false,(m,pn,ls,rs)::K2) else false
   |none=>false)
  |_=>false)
def s2st(r:Rec)(P:Pth)(k m pn:Nat)(ls st:SL)(ob:List SS)(raw:Bool)(K2:List Fr):Bool:=match tkS (na2 k) [] st with
 |some (as,rs)=>if (!(Nat.beq k 0)&&okvs as&&Nat.ble (catsS rs) (wm2 m)&&Nat.ble (entLs as).length (ml2 k))=true then r P false (k,0,entLs as,[]) [] ([],none,ob,raw,(m,pn,ls,rs)::K2) else false
 |none=>false
abbrev Lhd:=Rec->Pth->Nat->Nat->SL->SL->List SS->Bool->List Fr->Bool
def s2(i:Instr):Option Lhd:=match i with
 | .new _=>some fun r P m pn ls st ob raw K2=>s2new nmax r P m pn ls st ob raw K2
 | .invokespecial _=>some fun r P m pn ls st ob raw K2=>s2ct na1 ml1 wm2 Z0 pe r P m pn ls st ob raw K2
 | .invokevirtual k=>some fun r P m pn ls st ob raw K2=>s2vt na1 ml1 wm2 r P k m pn ls st ob raw K2
 | .invokestatic k=>some fun r P m pn ls st ob raw K2=>s2st na2 ml2 wm2 r P k m pn ls st ob raw K2
 |_=>none
end Whole
theorem getD_ge{α:Type}{l:List α}{i:Nat}{d:α}(h:¬i<l.length):l.getD i d=d:=by simp[List.getD,h]
theorem bm32{x:Int}(h1 : -2147483648<=x)(h2:x<=2147483647):x.bmod (2 ^ 32)=x:=by
 show Int.bmod x 4294967296=x
 rw[Int.bmod_def]
 split<;>omega
abbrev K4:=Nat×Nat×List Value×List Value
theorem getD_some{α:Type}{l:List (Option α)}{i:Nat}{r:α}(h:l.getD i none=some r):i<l.length:=by
 by_cases q:i<l.length
 ·exact q
 ·rw[getD_ge q] at h;cases h
abbrev HF{τ:Type}(code:Codes)(rt:Nat->Option FieldType)(mop:Mop τ)(cop:Cop)(f:Cfg τ->Option (Res τ)):Prop:=∀c,f c=run (plan code rt mop cop) f c
section S0
variable {τ:Type} {code:Codes} {rt:Nat->Option FieldType} {mop:Mop τ} {cop:Cop} {f:Cfg τ->Option (Res τ)} {m pc pn k t a:Nat} {kp:Option Nat} {ls st:List Value} {S:τ} {R R':Option (Res τ)} {x y v v':Int32} {X Y:Int64} {i:Instr} {c:Int}
theorem Jr(hf:HF code rt mop cop f)(h:code m pc=some (i,pn,some k))(r:f (m,pc,ls.take k,st,S)=R):f (m,pc,ls,st,S)=R:=(F.head hf h).trans r
theorem Jt(hf:HF code rt mop cop f)(h:code m pc=some (.iadd,pn,kp))(r:f (m,pn,ls,.int (x+y)::st,S)=R)(hk:tk kp ls=ls:=by rfl):f (m,pc,ls,.int y :: .int x::st,S)=R:=(F.iadd hf h hk).trans r
theorem JG(hf:HF code rt mop cop f)(h:code m pc=some (.isub,pn,kp))(r:f (m,pn,ls,.int (x-y)::st,S)=R)(hk:tk kp ls=ls:=by rfl):f (m,pc,ls,.int y :: .int x::st,S)=R:=(F.isub hf h hk).trans r
theorem Jz(hf:HF code rt mop cop f)(h:code m pc=some (.imul,pn,kp))(r:f (m,pn,ls,.int (x*y)::st,S)=R)(hk:tk kp ls=ls:=by rfl):f (m,pc,ls,.int y :: .int x::st,S)=R:=(F.imul hf h hk).trans r
theorem Ju(hf:HF code rt mop cop f)(h:code m pc=some (.iand,pn,kp))(r:f (m,pn,ls,.int (x&&&y)::st,S)=R)(hk:tk kp ls=ls:=by rfl):f (m,pc,ls,.int y :: .int x::st,S)=R:=(F.iand hf h hk).trans r
theorem JY(hf:HF code rt mop cop f)(h:code m pc=some (.ior,pn,kp))(r:f (m,pn,ls,.int (x|||y)::st,S)=R)(hk:tk kp ls=ls:=by rfl):f (m,pc,ls,.int y :: .int x::st,S)=R:=(F.ior hf h hk).trans r
theorem JD(hf:HF code rt mop cop f)(h:code m pc=some (.ixor,pn,kp))(r:f (m,pn,ls,.int (x^^^y)::st,S)=R)(hk:tk kp ls=ls:=by rfl):f (m,pc,ls,.int y :: .int x::st,S)=R:=(F.ixor hf h hk).trans r
theorem JI(hf:HF code rt mop cop f)(h:code m pc=some (.ishl,pn,kp))(r:f (m,pn,ls,.int (x<<<(y&&&31))::st,S)=R)(hk:tk kp ls=ls:=by rfl):f (m,pc,ls,.int y :: .int x::st,S)=R:=(F.ishl hf h hk).trans r
theorem JV(hf:HF code rt mop cop f)(h:code m pc=some (.ishr,pn,kp))(r:f (m,pn,ls,.int (x>>>(y&&&31))::st,S)=R)(hk:tk kp ls=ls:=by rfl):f (m,pc,ls,.int y :: .int x::st,S)=R:=(F.ishr hf h hk).trans r
theorem JN(hf:HF code rt mop cop f)(h:code m pc=some (.dup,pn,kp))(r:f (m,pn,ls,.ref a :: .ref a::st,S)=R)(hk:tk kp ls=ls:=by rfl):f (m,pc,ls,.ref a::st,S)=R:=(F.dupA hf h hk).trans r
theorem JM(hf:HF code rt mop cop f)(h:code m pc=some (.pop,pn,kp))(r:f (m,pn,ls,st,S)=R)(hk:tk kp ls=ls:=by rfl):f (m,pc,ls,.int x::st,S)=R:=(F.popI hf h hk).trans r
theorem Jc(hf:HF code rt mop cop f)(h:code m pc=some (.iconst c,pn,kp))(hv:Int32.ofInt c=v)(r:f (m,pn,ls,.int v::st,S)=R)(hk:tk kp ls=ls:=by rfl):f (m,pc,ls,st,S)=R:=(F.iconst hf h hk hv).trans r
theorem Jb(hf:HF code rt mop cop f)(h:code m pc=some (.iload k,pn,kp))(hl:ls[k]? = some (.int v))(r:f (m,pn,ls,.int v::st,S)=R)(hk:tk kp ls=ls:=by rfl):f (m,pc,ls,st,S)=R:=(F.iload hf h hk hl).trans r
theorem Jd(hf:HF code rt mop cop f)(h:code m pc=some (.aload k,pn,kp))(hl:ls[k]? = some (.ref a))(r:f (m,pn,ls,.ref a::st,S)=R)(hk:tk kp ls=ls:=by rfl):f (m,pc,ls,st,S)=R:=(F.aload hf h hk hl).trans r
theorem Je(hf:HF code rt mop cop f)(h:code m pc=some (.istore k,pn,kp))(l:List Value)(r:f (m,pn,l,st,S)=R)(hk:tk kp ls=ls:=by rfl)(hl:st1 ls k (.int v)=l:=by rfl):f (m,pc,ls,.int v::st,S)=R:=(F.istore hf h hk hl).trans r
theorem Jaa(hf:HF code rt mop cop f)(h:code m pc=some (.astore k,pn,kp))(l:List Value)(r:f (m,pn,l,st,S)=R)(hk:tk kp ls=ls:=by rfl)(hl:st1 ls k (.ref a)=l:=by rfl):f (m,pc,ls,.ref a::st,S)=R:=(F.astore hf h hk hl).trans r
theorem Jn(hf:HF code rt mop cop f)(h:code m pc=some (.iinc k c,pn,kp))(hv:Int32.ofInt c=v')(hl0:ls[k]? = some (.int v))(l:List Value)(r:f (m,pn,l,st,S)=R)(hk:tk kp ls=ls:=by rfl)(hl:st1 ls k (.int (v+v'))=l:=by rfl):f (m,pc,ls,st,S)=R:=(F.iinc hf h hk hv hl0 hl).trans r
theorem Jh(hf:HF code rt mop cop f)(h:code m pc=some (.goto (Int.ofNat t),pn,kp))(r:f (m,t,ls,st,S)=R)(hk:tk kp ls=ls:=by rfl):f (m,pc,ls,st,S)=R:=(F.goto hf h hk).trans r
theorem Jy(hf:HF code rt mop cop f)(h:code m pc=some (.ifCond .eq (Int.ofNat t),pn,kp))(r:f (m,t,ls,st,S)=R)(r':f (m,pn,ls,st,S)=R')(hk:tk kp ls=ls:=by rfl):f (m,pc,ls,.int x::st,S)=if x=0 then R else R':=(F.ifeq hf h hk).trans (ite2 r r')
theorem JA(hf:HF code rt mop cop f)(h:code m pc=some (.if_icmp .eq (Int.ofNat t),pn,kp))(r:f (m,t,ls,st,S)=R)(r':f (m,pn,ls,st,S)=R')(hk:tk kp ls=ls:=by rfl):f (m,pc,ls,.int y :: .int x::st,S)=if x=y then R else R':=(F.iceq hf h hk).trans (ite2 r r')
theorem Js(hf:HF code rt mop cop f)(h:code m pc=some (.ifCond .ne (Int.ofNat t),pn,kp))(r:f (m,pn,ls,st,S)=R)(r':f (m,t,ls,st,S)=R')(hk:tk kp ls=ls:=by rfl):f (m,pc,ls,.int x::st,S)=if x=0 then R else R':=(F.ifne hf h hk).trans (ite2 r r')
theorem Jp(hf:HF code rt mop cop f)(h:code m pc=some (.if_icmp .ne (Int.ofNat t),pn,kp))(r:f (m,pn,ls,st,S)=R)(r':f (m,t,ls,st,S)=R')(hk:tk kp ls=ls:=by rfl):f (m,pc,ls,.int y :: .int x::st,S)=if x=y then R else R':=(F.icne hf h hk).trans (ite2 r r')
theorem JB(hf:HF code rt mop cop f)(h:code m pc=some (.ifCond .lt (Int.ofNat t),pn,kp))(r:f (m,t,ls,st,S)=R)(r':f (m,pn,ls,st,S)=R')(hk:tk kp ls=ls:=by rfl):f (m,pc,ls,.int x::st,S)=if x<0 then R else R':=(F.iflt hf h hk).trans (ite2 r r')
theorem JJ(hf:HF code rt mop cop f)(h:code m pc=some (.if_icmp .lt (Int.ofNat t),pn,kp))(r:f (m,t,ls,st,S)=R)(r':f (m,pn,ls,st,S)=R')(hk:tk kp ls=ls:=by rfl):f (m,pc,ls,.int y :: .int x::st,S)=if x<y then R else R':=(F.iclt hf h hk).trans (ite2 r r')
theorem JP(hf:HF code rt mop cop f)(h:code m pc=some (.ifCond .ge (Int.ofNat t),pn,kp))(r:f (m,pn,ls,st,S)=R)(r':f (m,t,ls,st,S)=R')(hk:tk kp ls=ls:=by rfl):f (m,pc,ls,.int x::st,S)=if x<0 then R else R':=(F.ifge hf h hk).trans (ite2 r r')
theorem Jm(hf:HF code rt mop cop f)(h:code m pc=some (.if_icmp .ge (Int.ofNat t),pn,kp))(r:f (m,pn,ls,st,S)=R)(r':f (m,t,ls,st,S)=R')(hk:tk kp ls=ls:=by rfl):f (m,pc,ls,.int y :: .int x::st,S)=if x<y then R else R':=(F.icge hf h hk).trans (ite2 r r')
theorem Jat(hf:HF code rt mop cop f)(h:code m pc=some (.ifCond .gt (Int.ofNat t),pn,kp))(r:f (m,t,ls,st,S)=R)(r':f (m,pn,ls,st,S)=R')(hk:tk kp ls=ls:=by rfl):f (m,pc,ls,.int x::st,S)=if 0<x then R else R':=(F.ifgt hf h hk).trans (ite2 r r')
theorem JT(hf:HF code rt mop cop f)(h:code m pc=some (.if_icmp .gt (Int.ofNat t),pn,kp))(r:f (m,t,ls,st,S)=R)(r':f (m,pn,ls,st,S)=R')(hk:tk kp ls=ls:=by rfl):f (m,pc,ls,.int y :: .int x::st,S)=if y<x then R else R':=(F.icgt hf h hk).trans (ite2 r r')
theorem Jac(hf:HF code rt mop cop f)(h:code m pc=some (.ifCond .le (Int.ofNat t),pn,kp))(r:f (m,pn,ls,st,S)=R)(r':f (m,t,ls,st,S)=R')(hk:tk kp ls=ls:=by rfl):f (m,pc,ls,.int x::st,S)=if 0<x then R else R':=(F.ifle hf h hk).trans (ite2 r r')
theorem JO(hf:HF code rt mop cop f)(h:code m pc=some (.if_icmp .le (Int.ofNat t),pn,kp))(r:f (m,pn,ls,st,S)=R)(r':f (m,t,ls,st,S)=R')(hk:tk kp ls=ls:=by rfl):f (m,pc,ls,.int y :: .int x::st,S)=if y<x then R else R':=(F.icle hf h hk).trans (ite2 r r')
theorem Jk(hf:HF code rt mop cop f)(h:code m pc=some (.return_,pn,kp))(hr:rt m=none:=by rfl):f (m,pc,ls,[],S)=some (none,S):=F.retn hf h hr
theorem Ji(hf:HF code rt mop cop f)(h:code m pc=some (.ireturn,pn,kp))(hr:rt m=some .int:=by rfl):f (m,pc,ls,[.int v],S)=some (some (.int v),S):=F.reti hf h hr
theorem J6(hf:HF code rt mop cop f)(h:code m pc=some (.ireturn,pn,kp))(hr:rt m=some .boolean:=by rfl):f (m,pc,ls,[.int v],S)=some (some (.int (v&&&1)),S):=F.retb hf h hr
theorem Jl(hf:HF code rt mop cop f)(h:code m pc=some (.ireturn,pn,kp))(hr:rt m=some .boolean:=by rfl):f (m,pc,ls,[.int 0],S)=some (some (.int 0),S):=F.retb hf h hr
theorem JC(hf:HF code rt mop cop f)(h:code m pc=some (.ireturn,pn,kp))(hr:rt m=some .boolean:=by rfl):f (m,pc,ls,[.int 1],S)=some (some (.int 1),S):=F.retb hf h hr
end S0
section S1
variable {code:Codes} {rt:Nat->Option FieldType} {arrs:List (FieldType×Nat)} {na ml wm:Nat->Nat} {f:Cfg MS->Option (Res MS)} {m pc pn j n k:Nat} {kp:Option Nat} {ls st:List Value} {S:MS} {R:Option (Res MS)} {v i:Int32} {ty:FieldType}
abbrev HF1(code:Codes)(rt:Nat->Option FieldType)(arrs:List (FieldType×Nat))(na ml wm:Nat->Nat)(f:Cfg MS->Option (Res MS)):Prop:=∀c,f c=run (plan code rt (mop1 arrs gS upd) (cop1 na ml wm)) f c
theorem Jj(hf:HF1 code rt arrs na ml wm f)(h:code m pc=some (.getfield k,pn,kp))(w:Int32)(r:f (m,pn,ls,.int w::st,S)=R)(hk:tk kp ls=ls:=by rfl)(h3:k%3≠2:=by decide)(hw:S 0 (k/3)=w:=by rfl):f (m,pc,ls,.ref 0::st,S)=R:=(F.getI hf h hk h3 rfl hw).trans r
theorem Jg(hf:HF1 code rt arrs na ml wm f)(h:code m pc=some (.getfield k,pn,kp))(r:f (m,pn,ls,.ref (k/3+1)::st,S)=R)(hk:tk kp ls=ls:=by rfl)(h3:k%3=2:=by rfl):f (m,pc,ls,.ref 0::st,S)=R:=(F.getA hf h hk h3 rfl).trans r
theorem Jw(hf:HF1 code rt arrs na ml wm f)(h:code m pc=some (.putfield k,pn,kp))(r:f (m,pn,ls,st,upd S 0 (k/3) v)=R)(hk:tk kp ls=ls:=by rfl)(h3:k%3=0:=by rfl):f (m,pc,ls,.int v :: .ref 0::st,S)=R:=(F.putI hf h hk h3 rfl).trans r
theorem Jo(hf:HF1 code rt arrs na ml wm f)(h:code m pc=some (.iaload,pn,kp))(ha:arrs[j]? = some (ty,n))(w:Int32)(r:inb i n=true->f (m,pn,ls,.int w::st,S)=R)(hk:tk kp ls=ls:=by rfl)(ht:isI ty=true:=by rfl)(hw:S (j+1) i.toNatClampNeg=w:=by rfl):f (m,pc,ls,.int i :: .ref (j+1)::st,S)=if inb i n=true then R else none:=(F.iaload hf h hk ha ht hw).trans (iteH r)
theorem JF(hf:HF1 code rt arrs na ml wm f)(h:code m pc=some (.iaload,pn,kp))(ha:arrs[j]? = some (ty,n))(hi:inb i n=true)(w:Int32)(r:f (m,pn,ls,.int w::st,S)=R)(hk:tk kp ls=ls:=by rfl)(ht:isI ty=true:=by rfl)(hw:S (j+1) i.toNatClampNeg=w:=by rfl):f (m,pc,ls,.int i :: .ref (j+1)::st,S)=R:=(F.ialoadT hf h hk ha ht hi rfl hw).trans r
theorem Jaz(hf:HF1 code rt arrs na ml wm f)(h:code m pc=some (.iaload,pn,kp))(ha:arrs[j]? = some (ty,n))(z:Nat)(w:Int32)(r:f (m,pn,ls,.int w::st,S)=R)(hk:tk kp ls=ls:=by rfl)(ht:isI ty=true:=by rfl)(hi:inb i n=true:=by first | decide | rfl)(hz:i.toNatClampNeg=z:=by first | decide | rfl)(hw:S (j+1) z=w:=by rfl):f (m,pc,ls,.int i :: .ref (j+1)::st,S)=R:=(F.ialoadT hf h hk ha ht hi hz hw).trans r
theorem J3(hf:HF1 code rt arrs na ml wm f)(h:code m pc=some (.baload,pn,kp))(ha:arrs[j]? = some (ty,n))(w:Int32)(r:inb i n=true->f (m,pn,ls,.int w::st,S)=R)(hk:tk kp ls=ls:=by rfl)(ht:isB ty=true:=by rfl)(hw:S (j+1) i.toNatClampNeg=w:=by rfl):f (m,pc,ls,.int i :: .ref (j+1)::st,S)=if inb i n=true then R else none:=(F.baload hf h hk ha ht hw).trans (iteH r)
theorem JaA(hf:HF1 code rt arrs na ml wm f)(h:code m pc=some (.baload,pn,kp))(ha:arrs[j]? = some (ty,n))(hi:inb i n=true)(w:Int32)(r:f (m,pn,ls,.int w::st,S)=R)(hk:tk kp ls=ls:=by rfl)(ht:isB ty=true:=by rfl)(hw:S (j+1) i.toNatClampNeg=w:=by rfl):f (m,pc,ls,.int i :: .ref (j+1)::st,S)=R:=(F.baloadT hf h hk ha ht hi rfl hw).trans r
theorem Jv(hf:HF1 code rt arrs na ml wm f)(h:code m pc=some (.iastore,pn,kp))(ha:arrs[j]? = some (ty,n))(w:Int32)(r:inb i n=true->f (m,pn,ls,st,upd S (j+1) i.toNatClampNeg w)=R)(hk:tk kp ls=ls:=by rfl)(ht:isI ty=true:=by rfl)(hv:nar ty v=w:=by first | rfl | decide):f (m,pc,ls,.int v :: .int i :: .ref (j+1)::st,S)=if inb i n=true then R else none:=(F.iastore hf h hk ha ht hv).trans (iteH r)
theorem Jx(hf:HF1 code rt arrs na ml wm f)(h:code m pc=some (.iastore,pn,kp))(ha:arrs[j]? = some (ty,n))(w:Int32)(hi:inb i n=true)(r:f (m,pn,ls,st,upd S (j+1) i.toNatClampNeg w)=R)(hk:tk kp ls=ls:=by rfl)(ht:isI ty=true:=by rfl)(hv:nar ty v=w:=by first | rfl | decide):f (m,pc,ls,.int v :: .int i :: .ref (j+1)::st,S)=R:=(F.iastoreT hf h hk ha ht hv hi rfl).trans r
theorem JaC(hf:HF1 code rt arrs na ml wm f)(h:code m pc=some (.iastore,pn,kp))(ha:arrs[j]? = some (ty,n))(w:Int32)(z:Nat)(r:f (m,pn,ls,st,upd S (j+1) z w)=R)(hk:tk kp ls=ls:=by rfl)(ht:isI ty=true:=by rfl)(hv:nar ty v=w:=by first | rfl | decide)(hi:inb i n=true:=by first | decide | rfl)(hz:i.toNatClampNeg=z:=by first | decide | rfl):f (m,pc,ls,.int v :: .int i :: .ref (j+1)::st,S)=R:=(F.iastoreT hf h hk ha ht hv hi hz).trans r
theorem Jab(hf:HF1 code rt arrs na ml wm f)(h:code m pc=some (.bastore,pn,kp))(ha:arrs[j]? = some (ty,n))(w:Int32)(r:inb i n=true->f (m,pn,ls,st,upd S (j+1) i.toNatClampNeg w)=R)(hk:tk kp ls=ls:=by rfl)(ht:isB ty=true:=by rfl)(hv:nar ty v=w:=by first | rfl | decide):f (m,pc,ls,.int v :: .int i :: .ref (j+1)::st,S)=if inb i n=true then R else none:=(F.bastore hf h hk ha ht hv).trans (iteH r)
theorem J4(hf:HF1 code rt arrs na ml wm f)(h:code m pc=some (.bastore,pn,kp))(ha:arrs[j]? = some (ty,n))(w:Int32)(hi:inb i n=true)(r:f (m,pn,ls,st,upd S (j+1) i.toNatClampNeg w)=R)(hk:tk kp ls=ls:=by rfl)(ht:isB ty=true:=by rfl)(hv:nar ty v=w:=by first | rfl | decide):f (m,pc,ls,.int v :: .int i :: .ref (j+1)::st,S)=R:=(F.bastoreT hf h hk ha ht hv hi rfl).trans r
theorem JaD(hf:HF1 code rt arrs na ml wm f)(h:code m pc=some (.bastore,pn,kp))(ha:arrs[j]? = some (ty,n))(w:Int32)(z:Nat)(r:f (m,pn,ls,st,upd S (j+1) z w)=R)(hk:tk kp ls=ls:=by rfl)(ht:isB ty=true:=by rfl)(hv:nar ty v=w:=by first | rfl | decide)(hi:inb i n=true:=by first | decide | rfl)(hz:i.toNatClampNeg=z:=by first | decide | rfl):f (m,pc,ls,.int v :: .int i :: .ref (j+1)::st,S)=R:=(F.bastoreT hf h hk ha ht hv hi hz).trans r
theorem Jf(hf:HF1 code rt arrs na ml wm f){as r as':List Value}(h:code m pc=some (.invokevirtual k,pn,kp))(ht:takeA (na k) [] st=some (as,.ref 0::r))(hk:tk kp ls=ls:=by rfl)(hc:okn as=true/\cats r<=wm m/\(entL (.ref 0::as)).length<=ml k:=by exact⟨rfl,Nat.le_of_ble_eq_true rfl,Nat.le_of_ble_eq_true rfl⟩)(he:entL (.ref 0::as)=as':=by rfl):f (m,pc,ls,st,S)=(f (k,0,as',[],S)).bind fun q=>f (m,pn,ls,q.1.toList++r,q.2):=F.call hf h hk ht hc he
end S1
section S2
variable {σ:Type} {code:Codes} {rt:Nat->Option FieldType} {f1:Cfg σ->Option (Res σ)} {Z0:σ} {pe nmax k q o:Nat} {na1 ml1 wm na ml:Nat->Nat} {xs:List Int32} {sc:Option (List Int32)} {f:Cfg (W2 σ)->Option (Res (W2 σ))} {m pc pn:Nat} {kp:Option Nat} {ls st as as' rs:List Value} {ob:List σ} {b:Bool} {S:σ} {w:W2 σ} {i:Int32} {R:Option (Res (W2 σ))}
abbrev HF2(code:Codes)(rt:Nat->Option FieldType)(f1:Cfg σ->Option (Res σ))(Z0:σ)(pe nmax:Nat)(na1 ml1 wm na ml:Nat->Nat)(sc:Option (List Int32))(f:Cfg (W2 σ)->Option (Res (W2 σ))):Prop:=∀c,f c=run (plan code rt (mop2 f1 Z0 pe nmax na1 ml1 wm sc) (cop2 na ml wm)) f c
theorem JX(hf:HF2 code rt f1 Z0 pe nmax na1 ml1 wm na ml sc f)(h:code 0 pc=some (.new q,pn,kp))(r:f (0,pn,ls,.ref (ob.length+1)::st,(true,ob))=R)(hk:tk kp ls=ls:=by rfl)(hl:ob.length<nmax:=by exact Nat.le_of_ble_eq_true rfl):f (0,pc,ls,st,(false,ob))=R:=(F.new hf h hk hl rfl).trans r
theorem JZ(hf:HF2 code rt f1 Z0 pe nmax na1 ml1 wm na ml sc f){r:Nat}(h:code 0 pc=some (.invokespecial q,pn,kp))(ht:takeA (na1 0) [] st=some (as,.ref r::rs))(hk:tk kp ls=ls:=by rfl)(hr:r=ob.length+1:=by rfl)(hc:okn as=true/\cats rs<=wm 0/\(entL (.ref 0::as)).length<=ml1 0:=by exact⟨rfl,Nat.le_of_ble_eq_true rfl,Nat.le_of_ble_eq_true rfl⟩)(he:entL (.ref 0::as)=as':=by rfl):f (0,pc,ls,st,(true,ob))=(f1 (0,pe,as',[],Z0)).bind fun q=>f (0,pn,ls,rs,(false,ob++[q.2])):=F.ctor hf h hk ht hr hc he
theorem Jq(hf:HF2 code rt f1 Z0 pe nmax na1 ml1 wm na ml sc f)(o:Nat)(h:code m pc=some (.invokevirtual k,pn,kp))(ht:takeA (na1 k) [] st=some (as,.ref (o+1)::rs))(hS:ob[o]? = some S)(hk:tk kp ls=ls:=by rfl)(hc:okn as=true/\cats rs<=wm m/\(entL (.ref 0::as)).length<=ml1 k:=by exact⟨rfl,Nat.le_of_ble_eq_true rfl,Nat.le_of_ble_eq_true rfl⟩)(he:entL (.ref 0::as)=as':=by rfl):f (m,pc,ls,st,(false,ob))=(f1 (k,0,as',[],S)).bind fun q=>f (m,pn,ls,q.1.toList++rs,(false,ob.set o q.2)):=F.virt hf h hk ht hS hc he
theorem JR(hf:HF2 code rt f1 Z0 pe nmax na1 ml1 wm na ml (some xs) f)(h:code m pc=some (.iaload,pn,kp))(r:inb i xs.length=true->f (m,pn,ls,.int (xs.getD i.toNatClampNeg 0)::st,w)=R)(hk:tk kp ls=ls:=by rfl):f (m,pc,ls,.int i :: .ref 0::st,w)=if inb i xs.length=true then R else none:=(F.sload hf rfl h hk).trans (iteH r)
theorem J9(hf:HF2 code rt f1 Z0 pe nmax na1 ml1 wm na ml (some xs) f)(h:code m pc=some (.arraylength,pn,kp))(r:f (m,pn,ls,.int (Int32.ofNat xs.length)::st,w)=R)(hk:tk kp ls=ls:=by rfl):f (m,pc,ls,.ref 0::st,w)=R:=(F.slen hf rfl h hk).trans r
theorem JE(hf:HF2 code rt f1 Z0 pe nmax na1 ml1 wm na ml sc f)(h:code m pc=some (.invokestatic k,pn,kp))(ht:takeA (na k) [] st=some (as,rs))(hk:tk kp ls=ls:=by rfl)(hc:k≠0/\okv as=true/\cats rs<=wm m/\(entL as).length<=ml k:=by exact⟨by decide,rfl,Nat.le_of_ble_eq_true rfl,Nat.le_of_ble_eq_true rfl⟩)(he:entL as=as':=by rfl):f (m,pc,ls,st,w)=(f (k,0,as',[],w)).bind fun q=>f (m,pn,ls,q.1.toList++rs,q.2):=F.stat hf h hk ht hc he
end S2
end Jvm.OM
namespace Jvm.Pilot.@@N@@
open Jvm Jvm.ClassFile Sem Op Lib Jvm.Free Jvm.Stand Jvm.LawKit Jvm.RoadKit Bundle Jvm.Pilot.@@N@@.Jvm.D Jvm.OM
theorem zz:(∀{α β:Type}(a:α)(f:α->Option β),(some a).bind f=f a)/\(∀{α:Type}(a:α),(some a).toList=[a])/\(∀{α:Type},(none:Option α).toList=[])/\(∀{α:Type}(a:α)(l m:List α),a::l++m=a::(l++m))/\(∀{α:Type}(l:List α),[]++l=l)/\∀{α:Type}(l:List α),l++[]=l:=⟨fun _ _=>rfl,fun _=>rfl,rfl,fun _ _ _=>rfl,fun _=>rfl,List.append_nil⟩
def zal:=@Bool.and_eq_true
def zaq:=@Bool.and_false
def zaf:=@Bool.and_true
def zak:=@Bool.false_or
def zH:=@Bool.not_eq_true
def zai:=@Bool.or_eq_true
def zaw:=@Cond.before_iff
def zL:=@Int32.lt_iff_toInt_lt
def zp:=@Int32.lt_irrefl
def zas:=@Int32.toBitVec_inj
def zau:=@List.Perm.flatMap_right
def zC:=@List.all_eq_true
def zG:=@List.append_assoc
def zay:=@List.append_eq_nil_iff
def zk:=@List.append_nil
def zg:=@List.count_append
def zan:=@List.count_nil
def zw:=@List.count_pos_iff
def zao:=@List.exists_mem_of_ne_nil
def zj:=@List.flatMap_append
def zf:=@List.flatMap_cons
def zat:=@List.flatMap_map
def zo:=@List.flatMap_nil
def ze:=@List.getD_eq_getElem?_getD
def zs:=@List.getElem_mem
def zd:=@List.length_append
def zq:=@List.length_cons
def zN:=@List.length_filter_le
def zi:=@List.length_map
def zZ:=@List.length_pos_iff
def zap:=@List.length_range
def zX:=@List.length_reverse
def zam:=@List.length_singleton
def zr:=@List.map_append
def zO:=@List.map_cons
def zae:=@List.map_reverse
def zc:=@List.mem_append
def zA:=@List.mem_cons
def zt:=@List.mem_flatMap
def z8:=@List.mem_map
def zx:=@List.mem_range
def zy:=@List.mem_reverse
def zh:=@List.mem_singleton
def zac:=@List.nil_append
def zl:=@List.nodup_append
def zF:=@List.nodup_iff_count
def zaA:=@List.nodup_nil
def zE:=@List.perm_iff_count
def zab:=@List.reverse_append
def zaz:=@List.reverse_cons
def zav:=@List.reverse_eq_nil_iff
def zv:=@List.reverse_perm
def zah:=@List.take_add_one
def zax:=@List.take_of_length_le
def z7:=@Nat.add_assoc
def zad:=@Nat.le_of_ble_eq_true
def zn:=@Nat.le_refl
def zB:=@Nat.le_trans
def zP:=@Nat.mul_assoc
def zS:=@Nat.mul_comm
def zag:=@Nat.mul_le_mul
def zY:=@Nat.mul_le_mul_left
def zU:=@Nat.mul_le_mul_right
def zI:=@Nat.mul_left_comm
def zQ:=@Nat.mul_lt_mul_of_pos_left
def zaj:=@Nat.mul_lt_mul_of_pos_right
def zar:=@Nat.mul_one
def zJ:=@Nat.mul_pos
def zD:=@Nat.zero_add
def z9:=@decide_eq_false
def zV:=@decide_eq_true
def za:=@if_neg
def zb:=@if_pos
def zaa:=@of_decide_eq_true
set_option maxRecDepth 65536
set_option maxHeartbeats 4000000
def tb1:Jvm.OM.Tabs:=([(28,"kind","[I",2),(32,"parent","[I",5),(35,"degree","[I",8),(38,"kids","[I",11),(41,"live","[Z",14),(45,"savedKind","[I",17),(48,"savedParent","[I",20),(51,"savedDegree","[I",23),(54,"savedKids","[I",26),(57,"savedLive","[Z",29),(60,"label","[I",32),(63,"leafSet","[I",35),(66,"post","[I",38),(69,"stackNode","[I",41),(72,"stackIdx","[I",44),(75,"seq","[I",47),(78,"emptyKids","[I",50),(81,"fullKids","[I",53),(84,"partKids","[I",56),(87,"firstLeast","[I",59),(90,"startSet","[I",62),(93,"least","[I",65),(96,"leastPos","[I",68),(99,"n","I",0),(108,"pending","I",3),(111,"acceptedCount","I",6),(114,"rejectedCount","I",9),(138,"orderCount","I",33),(141,"startCols","I",36),(162,"root","I",12),(173,"savedRoot","I",15),(176,"postLen","I",18),(235,"emptyCount","I",24),(238,"fullCount","I",27),(241,"partCount","I",30),(250,"seqLen","I",21)],[(102,2),(105,31),(117,66),(120,18),(124,16),(128,19),(132,17),(135,35),(144,20),(147,34),(150,42),(153,36),(156,67),(159,21),(165,29),(169,30),(179,22),(182,23),(185,24),(189,40),(195,33),(198,25),(202,37),(205,43),(208,44),(211,45),(214,46),(217,39),(220,38),(223,57),(226,58),(229,59),(232,65),(244,26),(247,32),(253,50),(256,55),(259,47),(262,48),(266,49),(269,52),(273,53),(276,56),(279,54),(282,60),(285,61),(288,62),(291,51),(294,63),(297,64),(300,69),(303,28),(306,72),(309,68),(312,70),(315,71),(318,27),(321,73),(324,74),(327,75)],[],[],[],[],[])
def cx_0:List (List Jvm.OM.Ent):=[[],[],[],[],[],[],[],[],[],[],[],[],[],[(222,.iload 1,223,none),(223,.istore 2,224,none)],[(224,.iload 2,225,none),(225,.iconst 1,226,none),(226,.if_icmp .ge 231,229,none),(229,.iconst 1,230,none),(230,.istore 2,231,none),(231,.iload 2,232,some 3),(232,.iconst 8,234,none),(234,.if_icmp .le 240,237,none),(237,.iconst 8,239,none),(239,.istore 2,240,none)],[(240,.aload 0,241,some 3),(241,.iload 2,242,none),(242,.putfield 0,245,none),(245,.aload 0,246,none),(246,.invokevirtual 2,249,none),(249,.return_,250,none)]]
def cx_1:List (List Jvm.OM.Ent):=[[(0,.aload 0,1,none),(1,.getfield 0,4,none),(4,.ireturn,5,none)]]
def cx_2:List (List Jvm.OM.Ent):=[[(0,.aload 0,1,none),(1,.invokevirtual 31,4,none),(4,.aload 0,5,none),(5,.iconst 0,6,none),(6,.putfield 3,9,none),(9,.aload 0,10,none),(10,.iconst 0,11,none),(11,.putfield 6,14,none),(14,.aload 0,15,none),(15,.iconst 0,16,none)],[(16,.putfield 9,19,none),(19,.aload 0,20,none),(20,.invokevirtual 66,23,none),(23,.return_,24,none)]]
def cx_3:List (List Jvm.OM.Ent):=[[(0,.aload 0,1,none),(1,.iconst 0,2,none),(2,.putfield 3,5,none),(5,.return_,6,none)]]
def cx_4:List (List Jvm.OM.Ent):=[[(0,.iload 1,1,none),(1,.ifCond .lt 12,4,none),(4,.iload 1,5,none),(5,.aload 0,6,none),(6,.getfield 0,9,none),(9,.if_icmp .lt 14,12,none),(12,.iconst 0,13,some 2),(13,.ireturn,14,none),(14,.aload 0,15,none),(15,.getfield 3,18,none)],[(18,.iload 1,19,none),(19,.ishr,20,none),(20,.iconst 1,21,none),(21,.iand,22,none),(22,.iconst 1,23,none),(23,.if_icmp .ne 28,26,none),(26,.iconst 0,27,none),(27,.ireturn,28,none),(28,.aload 0,29,none),(29,.aload 0,30,none),(30,.getfield 3,33,none)],[(33,.iconst 1,34,none),(34,.iload 1,35,none),(35,.ishl,36,none),(36,.ior,37,none),(37,.putfield 3,40,none),(40,.iconst 1,41,none),(41,.ireturn,42,none)]]
def cx_5:List (List Jvm.OM.Ent):=[[(0,.iload 1,1,none),(1,.ifCond .lt 12,4,none),(4,.iload 1,5,none),(5,.aload 0,6,none),(6,.getfield 0,9,none),(9,.if_icmp .lt 14,12,none),(12,.iconst 0,13,some 2),(13,.ireturn,14,none),(14,.aload 0,15,none),(15,.getfield 3,18,none)],[(18,.iload 1,19,none),(19,.ishr,20,none),(20,.iconst 1,21,none),(21,.iand,22,none),(22,.ifCond .ne 27,25,none),(25,.iconst 0,26,none),(26,.ireturn,27,none),(27,.aload 0,28,none),(28,.aload 0,29,none),(29,.getfield 3,32,none)],[(32,.iconst 1,33,none),(33,.iload 1,34,none),(34,.ishl,35,none),(35,.iconst (-1),36,none),(36,.ixor,37,none),(37,.iand,38,none),(38,.putfield 3,41,none),(41,.iconst 1,42,none),(42,.ireturn,43,none)]]
def cx_6:List (List Jvm.OM.Ent):=[[(0,.aload 0,1,none),(1,.getfield 3,4,none),(4,.ireturn,5,none)]]
def cx_7:List (List Jvm.OM.Ent):=[[(0,.aload 0,1,none),(1,.invokevirtual 18,4,none),(4,.istore 1,5,none),(5,.aload 0,6,none),(6,.getfield 3,9,none),(9,.iload 1,10,none),(10,.iand,11,none),(11,.istore 2,12,none),(12,.aload 0,13,none),(13,.iload 2,14,none),(14,.invokevirtual 16,17,none)],[(17,.istore 3,18,none),(18,.aload 0,19,none),(19,.iconst 0,20,none),(20,.putfield 3,23,none),(23,.iload 3,24,none),(24,.ireturn,25,none)]]
def cx_8:List (List Jvm.OM.Ent):=[[(0,.aload 0,1,none),(1,.iload 1,2,none),(2,.invokevirtual 19,5,none),(5,.ifCond .ne 10,8,none),(8,.iconst 0,9,none),(9,.ireturn,10,none),(10,.aload 0,11,none),(11,.iload 1,12,none),(12,.invokevirtual 16,15,none),(15,.ireturn,16,none)]]
def cx_9:List (List Jvm.OM.Ent):=[[(0,.aload 0,1,none),(1,.iload 1,2,none),(2,.invokevirtual 19,5,none),(5,.ifCond .ne 10,8,none),(8,.iconst 0,9,none),(9,.ireturn,10,none),(10,.aload 0,11,none),(11,.iload 1,12,none),(12,.invokevirtual 17,15,none),(15,.istore 2,16,none)],[(16,.iload 2,17,none),(17,.iconst 1,18,none),(18,.if_icmp .ne 25,21,none),(21,.aload 0,22,none),(22,.invokevirtual 35,25,none),(25,.iload 2,26,some 3),(26,.ireturn,27,none)]]
def cx_10:List (List Jvm.OM.Ent):=[[(0,.aload 0,1,none),(1,.getfield 33,4,none),(4,.ireturn,5,none)]]
def cx_11:List (List Jvm.OM.Ent):=[[(0,.iload 1,1,none),(1,.ifCond .lt 12,4,none),(4,.iload 1,5,none),(5,.aload 0,6,none),(6,.getfield 0,9,none),(9,.if_icmp .lt 14,12,none),(12,.iconst (-1),13,some 2),(13,.ireturn,14,none),(14,.aload 0,15,none),(15,.getfield 65,18,none)],[(18,.iload 1,19,none),(19,.iaload,20,none),(20,.ireturn,21,none)]]
def cx_12:List (List Jvm.OM.Ent):=[[(0,.iload 1,1,none),(1,.ifCond .lt 12,4,none),(4,.iload 1,5,none),(5,.aload 0,6,none),(6,.getfield 0,9,none),(9,.if_icmp .lt 14,12,none),(12,.iconst (-1),13,some 2),(13,.ireturn,14,none),(14,.aload 0,15,none),(15,.getfield 68,18,none)],[(18,.iload 1,19,none),(19,.iaload,20,none),(20,.ireturn,21,none)]]
def cx_13:List (List Jvm.OM.Ent):=[[(0,.aload 0,1,none),(1,.getfield 36,4,none),(4,.ireturn,5,none)]]
def cx_14:List (List Jvm.OM.Ent):=[[(0,.aload 0,1,none),(1,.getfield 6,4,none),(4,.ireturn,5,none)]]
def cx_15:List (List Jvm.OM.Ent):=[[(0,.aload 0,1,none),(1,.getfield 9,4,none),(4,.ireturn,5,none)]]
def cx_16:List (List Jvm.OM.Ent):=[[(0,.aload 0,1,none),(1,.iload 1,2,none),(2,.invokevirtual 17,5,none),(5,.istore 2,6,none),(6,.iload 2,7,none),(7,.iconst 3,8,none),(8,.if_icmp .ne 24,11,none),(11,.aload 0,12,none),(12,.dup,13,none),(13,.getfield 9,16,none)],[(16,.iconst 1,17,none),(17,.iadd,18,none),(18,.putfield 9,21,none),(21,.goto 34,24,none),(24,.aload 0,25,none),(25,.dup,26,none),(26,.getfield 6,29,none),(29,.iconst 1,30,none),(30,.iadd,31,none),(31,.putfield 6,34,none)],[(34,.iload 2,35,some 3),(35,.iconst 1,36,none),(36,.if_icmp .ne 43,39,none),(39,.aload 0,40,none),(40,.invokevirtual 66,43,none),(43,.iload 2,44,some 3),(44,.ireturn,45,none)]]
def cx_17:List (List Jvm.OM.Ent):=[[(0,.aload 0,1,none),(1,.iload 1,2,none),(2,.invokevirtual 20,5,none),(5,.ifCond .eq 10,8,none),(8,.iconst 2,9,none),(9,.ireturn,10,none),(10,.aload 0,11,none),(11,.invokevirtual 34,14,none),(14,.aload 0,15,none),(15,.iload 1,16,none)],[(16,.invokevirtual 42,19,none),(19,.ifCond .ne 28,22,none),(22,.aload 0,23,none),(23,.invokevirtual 35,26,none),(26,.iconst 3,27,none),(27,.ireturn,28,none),(28,.aload 0,29,none),(29,.invokevirtual 36,32,none)],[(32,.aload 0,33,none),(33,.invokevirtual 67,36,none),(36,.istore 2,37,none),(37,.iload 2,38,none),(38,.aload 0,39,none),(39,.getfield 33,42,none),(42,.if_icmp .ne 51,45,none),(45,.aload 0,46,none),(46,.invokevirtual 35,49,none)],[(49,.iconst 2,50,none),(50,.ireturn,51,none),(51,.iconst 1,52,none),(52,.ireturn,53,none)]]
def cx_18:List (List Jvm.OM.Ent):=[[(0,.iconst 1,1,none),(1,.aload 0,2,none),(2,.getfield 0,5,none),(5,.ishl,6,none),(6,.iconst 1,7,none),(7,.isub,8,none),(8,.ireturn,9,none)]]
def cx_19:List (List Jvm.OM.Ent):=[[(0,.aload 0,1,none),(1,.invokevirtual 18,4,none),(4,.istore 2,5,none),(5,.iload 1,6,none),(6,.iload 2,7,none),(7,.iconst (-1),8,none),(8,.ixor,9,none),(9,.iand,10,none),(10,.ifCond .ne 17,13,none),(13,.iconst 1,14,none),(14,.goto 18,17,none)],[(17,.iconst 0,18,none),(18,.ireturn,19,some 3)]]
def cx_20:List (List Jvm.OM.Ent):=[[(0,.iconst 0,1,none),(1,.istore 2,2,none),(2,.iconst 0,3,none),(3,.istore 3,4,none),(4,.iload 3,5,some 4),(5,.iconst 8,7,none),(7,.if_icmp .ge 28,10,none),(10,.iload 1,11,none),(11,.iload 3,12,none),(12,.ishr,13,none),(13,.iconst 1,14,none),(14,.iand,15,none),(15,.iconst 1,16,none)],[(16,.if_icmp .ne 22,19,none),(19,.iinc 2 1,22,none),(22,.iinc 3 1,25,some 4),(25,.goto 4,28,none),(28,.iload 2,29,none),(29,.iconst 1,30,none),(30,.if_icmp .gt 35,33,none)],[(33,.iconst 1,34,none),(34,.ireturn,35,none),(35,.aload 0,36,none),(36,.invokevirtual 18,39,none),(39,.istore 3,40,none),(40,.iload 1,41,none),(41,.iload 3,42,none),(42,.if_icmp .ne 49,45,none),(45,.iconst 1,46,none),(46,.goto 50,49,none)],[(49,.iconst 0,50,none),(50,.ireturn,51,some 4)]]
def cx_21:List (List Jvm.OM.Ent):=[[(0,.iload 1,1,none),(1,.ifCond .lt 14,4,none),(4,.iload 1,5,none),(5,.iconst 64,7,none),(7,.if_icmp .ge 14,10,none),(10,.iconst 1,11,none),(11,.goto 15,14,none),(14,.iconst 0,15,some 2),(15,.ireturn,16,some 2)]]
def cx_22:List (List Jvm.OM.Ent):=[[(0,.aload 0,1,none),(1,.iload 1,2,none),(2,.invokevirtual 21,5,none),(5,.ifCond .eq 21,8,none),(8,.aload 0,9,none),(9,.getfield 2,12,none),(12,.iload 1,13,none),(13,.iaload,14,none),(14,.ifCond .eq 21,17,none)],[(17,.iconst 1,18,none),(18,.goto 22,21,none),(21,.iconst 0,22,some 2),(22,.ireturn,23,some 2)]]
def cx_23:List (List Jvm.OM.Ent):=[[(0,.aload 0,1,none),(1,.iload 1,2,none),(2,.invokevirtual 21,5,none),(5,.ifCond .ne 10,8,none),(8,.iconst 0,9,none),(9,.ireturn,10,none),(10,.aload 0,11,none),(11,.getfield 8,14,none),(14,.iload 1,15,none),(15,.iaload,16,none)],[(16,.istore 2,17,none),(17,.iload 2,18,none),(18,.ifCond .ge 23,21,none),(21,.iconst 0,22,none),(22,.ireturn,23,none),(23,.iload 2,24,none),(24,.iconst 8,26,none),(26,.if_icmp .le 32,29,none),(29,.iconst 8,31,none),(31,.ireturn,32,none)],[(32,.iload 2,33,none),(33,.ireturn,34,none)]]
def cx_24:List (List Jvm.OM.Ent):=[[(0,.aload 0,1,none),(1,.iload 1,2,none),(2,.invokevirtual 21,5,none),(5,.ifCond .eq 18,8,none),(8,.iload 2,9,none),(9,.ifCond .lt 18,12,none),(12,.iload 2,13,none),(13,.iconst 8,15,none),(15,.if_icmp .lt 20,18,none)],[(18,.iconst (-1),19,some 3),(19,.ireturn,20,none),(20,.aload 0,21,none),(21,.getfield 11,24,none),(24,.iload 1,25,none),(25,.iconst 8,27,none),(27,.imul,28,none),(28,.iload 2,29,none),(29,.iadd,30,none),(30,.iaload,31,none),(31,.ireturn,32,none)]]
def cx_25:List (List Jvm.OM.Ent):=[[(0,.aload 0,1,none),(1,.iload 1,2,none),(2,.invokevirtual 21,5,none),(5,.ifCond .eq 30,8,none),(8,.iload 2,9,none),(9,.ifCond .lt 30,12,none),(12,.iload 2,13,none),(13,.iconst 8,15,none),(15,.if_icmp .ge 30,18,none)],[(18,.aload 0,19,none),(19,.getfield 11,22,none),(22,.iload 1,23,none),(23,.iconst 8,25,none),(25,.imul,26,none),(26,.iload 2,27,none),(27,.iadd,28,none),(28,.iload 3,29,none),(29,.iastore,30,none),(30,.return_,31,some 4)]]
def cx_26:List (List Jvm.OM.Ent):=[[(0,.aload 0,1,none),(1,.iload 1,2,none),(2,.invokevirtual 21,5,none),(5,.ifCond .ne 10,8,none),(8,.iconst 0,9,none),(9,.ireturn,10,none),(10,.aload 0,11,none),(11,.getfield 32,14,none),(14,.iload 1,15,none),(15,.iaload,16,none)],[(16,.ireturn,17,none)]]
def cx_27:List (List Jvm.OM.Ent):=[[(0,.aload 0,1,none),(1,.iload 1,2,none),(2,.invokevirtual 21,5,none),(5,.ifCond .ne 11,8,none),(8,.iconst 64,10,none),(10,.ireturn,11,none),(11,.aload 0,12,none),(12,.getfield 59,15,none),(15,.iload 1,16,none)],[(16,.iaload,17,none),(17,.ireturn,18,none)]]
def cx_28:List (List Jvm.OM.Ent):=[[(0,.aload 0,1,none),(1,.iload 1,2,none),(2,.invokevirtual 21,5,none),(5,.ifCond .ne 10,8,none),(8,.iconst 0,9,none),(9,.ireturn,10,none),(10,.aload 0,11,none),(11,.getfield 62,14,none),(14,.iload 1,15,none),(15,.iaload,16,none)],[(16,.ireturn,17,none)]]
def cx_29:List (List Jvm.OM.Ent):=[[(0,.aload 0,1,none),(1,.iload 1,2,none),(2,.invokevirtual 21,5,none),(5,.ifCond .eq 16,8,none),(8,.aload 0,9,none),(9,.iload 2,10,none),(10,.invokevirtual 21,13,none),(13,.ifCond .ne 18,16,none)],[(16,.iconst 0,17,some 3),(17,.ireturn,18,none),(18,.aload 0,19,none),(19,.getfield 8,22,none),(22,.iload 1,23,none),(23,.iaload,24,none),(24,.istore 3,25,none),(25,.iload 3,26,none),(26,.ifCond .lt 35,29,none),(29,.iload 3,30,none),(30,.iconst 8,32,none)],[(32,.if_icmp .lt 37,35,none),(35,.iconst 0,36,some 4),(36,.ireturn,37,none),(37,.aload 0,38,none),(38,.getfield 11,41,none),(41,.iload 1,42,none),(42,.iconst 8,44,none),(44,.imul,45,none),(45,.iload 3,46,none),(46,.iadd,47,none),(47,.iload 2,48,none)],[(48,.iastore,49,none),(49,.aload 0,50,none),(50,.getfield 8,53,none),(53,.iload 1,54,none),(54,.iload 3,55,none),(55,.iconst 1,56,none),(56,.iadd,57,none),(57,.iastore,58,none),(58,.aload 0,59,none),(59,.getfield 5,62,none),(62,.iload 2,63,none),(63,.iload 1,64,none)],[(64,.iastore,65,none),(65,.iconst 1,66,none),(66,.ireturn,67,none)]]
def cx_30:List (List Jvm.OM.Ent):=[[(0,.aload 0,1,none),(1,.iload 1,2,none),(2,.invokevirtual 21,5,none),(5,.ifCond .ne 9,8,none),(8,.return_,9,none),(9,.iload 1,10,none),(10,.iconst 8,12,none),(12,.imul,13,none),(13,.istore 2,14,none),(14,.iconst 0,15,none),(15,.istore 3,16,none)],[(16,.iload 3,17,some 4),(17,.iconst 8,19,none),(19,.if_icmp .ge 37,22,none),(22,.aload 0,23,none),(23,.getfield 11,26,none),(26,.iload 2,27,none),(27,.iload 3,28,none),(28,.iadd,29,none),(29,.iconst (-1),30,none),(30,.iastore,31,none),(31,.iinc 3 1,34,none)],[(34,.goto 16,37,none),(37,.aload 0,38,none),(38,.getfield 8,41,none),(41,.iload 1,42,none),(42,.iconst 0,43,none),(43,.iastore,44,none),(44,.return_,45,none)]]
def cx_31:List (List Jvm.OM.Ent):=[[(0,.iconst 0,1,none),(1,.istore 1,2,none),(2,.iload 1,3,some 2),(3,.iconst 64,5,none),(5,.if_icmp .ge 49,8,none),(8,.aload 0,9,none),(9,.getfield 2,12,none),(12,.iload 1,13,none),(13,.iconst 0,14,none),(14,.iastore,15,none),(15,.aload 0,16,none)],[(16,.getfield 5,19,none),(19,.iload 1,20,none),(20,.iconst (-1),21,none),(21,.iastore,22,none),(22,.aload 0,23,none),(23,.getfield 8,26,none),(26,.iload 1,27,none),(27,.iconst 0,28,none),(28,.iastore,29,none),(29,.aload 0,30,none),(30,.getfield 14,33,none)],[(33,.iload 1,34,none),(34,.iconst 0,35,none),(35,.bastore,36,none),(36,.aload 0,37,none),(37,.getfield 32,40,none),(40,.iload 1,41,none),(41,.iconst 0,42,none),(42,.iastore,43,none),(43,.iinc 1 1,46,none),(46,.goto 2,49,none)],[(49,.iconst 0,50,none),(50,.istore 1,51,none),(51,.iload 1,52,some 2),(52,.iconst 512,55,none),(55,.if_icmp .ge 71,58,none),(58,.aload 0,59,none),(59,.getfield 11,62,none),(62,.iload 1,63,none),(63,.iconst (-1),64,none)],[(64,.iastore,65,none),(65,.iinc 1 1,68,none),(68,.goto 51,71,none),(71,.iconst 0,72,none),(72,.istore 1,73,none),(73,.iload 1,74,some 2),(74,.aload 0,75,none),(75,.getfield 0,78,none),(78,.if_icmp .ge 100,81,none)],[(81,.iload 1,82,none),(82,.iconst 8,84,none),(84,.if_icmp .ge 100,87,none),(87,.aload 0,88,none),(88,.getfield 14,91,none),(91,.iload 1,92,none),(92,.iconst 1,93,none),(93,.bastore,94,none),(94,.iinc 1 1,97,none)],[(97,.goto 73,100,none),(100,.aload 0,101,some 2),(101,.getfield 0,104,none),(104,.iconst 2,105,none),(105,.if_icmp .ge 114,108,none),(108,.aload 0,109,none),(109,.iconst 0,110,none),(110,.putfield 12,113,none)],[(113,.return_,114,none),(114,.aload 0,115,none),(115,.iconst 8,117,none),(117,.putfield 12,120,none),(120,.aload 0,121,none),(121,.getfield 14,124,none),(124,.aload 0,125,none),(125,.getfield 12,128,none)],[(128,.iconst 1,129,none),(129,.bastore,130,none),(130,.aload 0,131,none),(131,.getfield 2,134,none),(134,.aload 0,135,none),(135,.getfield 12,138,none),(138,.iconst 1,139,none),(139,.iastore,140,none),(140,.iconst 0,141,none),(141,.istore 1,142,none),(142,.iload 1,143,some 2),(143,.aload 0,144,none)],[(144,.getfield 0,147,none),(147,.if_icmp .ge 172,150,none),(150,.iload 1,151,none),(151,.iconst 8,153,none),(153,.if_icmp .ge 172,156,none),(156,.aload 0,157,none),(157,.aload 0,158,none),(158,.getfield 12,161,none)],[(161,.iload 1,162,none),(162,.invokevirtual 29,165,none),(165,.pop,166,none),(166,.iinc 1 1,169,none),(169,.goto 142,172,none),(172,.return_,173,some 2)]]
def cx_32:List (List Jvm.OM.Ent):=[[(0,.iconst 8,2,none),(2,.istore 3,3,none),(3,.iload 3,4,some 4),(4,.iconst 64,6,none),(6,.if_icmp .ge 59,9,none),(9,.aload 0,10,none),(10,.getfield 14,13,none),(13,.iload 3,14,none),(14,.baload,15,none),(15,.ifCond .ne 53,18,none)],[(18,.aload 0,19,none),(19,.getfield 14,22,none),(22,.iload 3,23,none),(23,.iconst 1,24,none),(24,.bastore,25,none),(25,.aload 0,26,none),(26,.getfield 2,29,none),(29,.iload 3,30,none),(30,.iload 1,31,none),(31,.iastore,32,none)],[(32,.aload 0,33,none),(33,.iload 3,34,none),(34,.invokevirtual 30,37,none),(37,.aload 0,38,none),(38,.getfield 5,41,none),(41,.iload 3,42,none),(42,.iconst (-1),43,none),(43,.iastore,44,none),(44,.aload 0,45,none),(45,.getfield 32,48,none)],[(48,.iload 3,49,none),(49,.iload 2,50,none),(50,.iastore,51,none),(51,.iload 3,52,none),(52,.ireturn,53,none),(53,.iinc 3 1,56,none),(56,.goto 3,59,none),(59,.iconst (-1),60,none),(60,.ireturn,61,none)]]
def cx_33:List (List Jvm.OM.Ent):=[[(0,.iload 1,1,none),(1,.iconst 8,3,none),(3,.if_icmp .lt 12,6,none),(6,.iload 1,7,none),(7,.iconst 64,9,none),(9,.if_icmp .lt 13,12,none),(12,.return_,13,some 2),(13,.aload 0,14,none),(14,.getfield 14,17,none)],[(17,.iload 1,18,none),(18,.iconst 0,19,none),(19,.bastore,20,none),(20,.aload 0,21,none),(21,.iload 1,22,none),(22,.invokevirtual 30,25,none),(25,.aload 0,26,none),(26,.getfield 5,29,none),(29,.iload 1,30,none),(30,.iconst (-1),31,none),(31,.iastore,32,none)],[(32,.return_,33,none)]]
def cx_34:List (List Jvm.OM.Ent):=[[(0,.aload 0,1,none),(1,.aload 0,2,none),(2,.getfield 12,5,none),(5,.putfield 15,8,none),(8,.iconst 0,9,none),(9,.istore 1,10,none),(10,.iload 1,11,some 2),(11,.iconst 64,13,none),(13,.if_icmp .ge 70,16,none)],[(16,.aload 0,17,none),(17,.getfield 17,20,none),(20,.iload 1,21,none),(21,.aload 0,22,none),(22,.getfield 2,25,none),(25,.iload 1,26,none),(26,.iaload,27,none),(27,.iastore,28,none),(28,.aload 0,29,none),(29,.getfield 20,32,none)],[(32,.iload 1,33,none),(33,.aload 0,34,none),(34,.getfield 5,37,none),(37,.iload 1,38,none),(38,.iaload,39,none),(39,.iastore,40,none),(40,.aload 0,41,none),(41,.getfield 23,44,none),(44,.iload 1,45,none),(45,.aload 0,46,none),(46,.getfield 8,49,none)],[(49,.iload 1,50,none),(50,.iaload,51,none),(51,.iastore,52,none),(52,.aload 0,53,none),(53,.getfield 29,56,none),(56,.iload 1,57,none),(57,.aload 0,58,none),(58,.getfield 14,61,none),(61,.iload 1,62,none),(62,.baload,63,none),(63,.bastore,64,none)],[(64,.iinc 1 1,67,none),(67,.goto 10,70,none),(70,.iconst 0,71,none),(71,.istore 1,72,none),(72,.iload 1,73,some 2),(73,.iconst 512,76,none),(76,.if_icmp .ge 97,79,none),(79,.aload 0,80,none)],[(80,.getfield 26,83,none),(83,.iload 1,84,none),(84,.aload 0,85,none),(85,.getfield 11,88,none),(88,.iload 1,89,none),(89,.iaload,90,none),(90,.iastore,91,none),(91,.iinc 1 1,94,none),(94,.goto 72,97,none)],[(97,.return_,98,none)]]
def cx_35:List (List Jvm.OM.Ent):=[[(0,.aload 0,1,none),(1,.aload 0,2,none),(2,.getfield 15,5,none),(5,.putfield 12,8,none),(8,.iconst 0,9,none),(9,.istore 1,10,none),(10,.iload 1,11,some 2),(11,.iconst 64,13,none),(13,.if_icmp .ge 70,16,none)],[(16,.aload 0,17,none),(17,.getfield 2,20,none),(20,.iload 1,21,none),(21,.aload 0,22,none),(22,.getfield 17,25,none),(25,.iload 1,26,none),(26,.iaload,27,none),(27,.iastore,28,none),(28,.aload 0,29,none),(29,.getfield 5,32,none)],[(32,.iload 1,33,none),(33,.aload 0,34,none),(34,.getfield 20,37,none),(37,.iload 1,38,none),(38,.iaload,39,none),(39,.iastore,40,none),(40,.aload 0,41,none),(41,.getfield 8,44,none),(44,.iload 1,45,none),(45,.aload 0,46,none),(46,.getfield 23,49,none)],[(49,.iload 1,50,none),(50,.iaload,51,none),(51,.iastore,52,none),(52,.aload 0,53,none),(53,.getfield 14,56,none),(56,.iload 1,57,none),(57,.aload 0,58,none),(58,.getfield 29,61,none),(61,.iload 1,62,none),(62,.baload,63,none),(63,.bastore,64,none)],[(64,.iinc 1 1,67,none),(67,.goto 10,70,none),(70,.iconst 0,71,none),(71,.istore 1,72,none),(72,.iload 1,73,some 2),(73,.iconst 512,76,none),(76,.if_icmp .ge 97,79,none),(79,.aload 0,80,none)],[(80,.getfield 11,83,none),(83,.iload 1,84,none),(84,.aload 0,85,none),(85,.getfield 26,88,none),(88,.iload 1,89,none),(89,.iaload,90,none),(90,.iastore,91,none),(91,.iinc 1 1,94,none),(94,.goto 72,97,none)],[(97,.return_,98,none)]]
def cx_36:List (List Jvm.OM.Ent):=[[(0,.aload 0,1,none),(1,.iconst 0,2,none),(2,.putfield 18,5,none),(5,.aload 0,6,none),(6,.aload 0,7,none),(7,.getfield 12,10,none),(10,.invokevirtual 21,13,none),(13,.ifCond .ne 17,16,none)],[(16,.return_,17,none),(17,.aload 0,18,none),(18,.getfield 41,21,none),(21,.iconst 0,22,none),(22,.aload 0,23,none),(23,.getfield 12,26,none),(26,.iastore,27,none),(27,.aload 0,28,none),(28,.getfield 44,31,none),(31,.iconst 0,32,none)],[(32,.iconst 0,33,none),(33,.iastore,34,none),(34,.iconst 1,35,none),(35,.istore 1,36,none),(36,.iconst 0,37,none),(37,.istore 2,38,none),(38,.iload 2,39,some 3),(39,.iconst 1024,42,none),(42,.if_icmp .ge 185,45,none),(45,.iload 1,46,none),(46,.ifCond .le 185,49,none)],[(49,.iload 1,50,none),(50,.iconst 1,51,none),(51,.isub,52,none),(52,.istore 3,53,none),(53,.aload 0,54,none),(54,.getfield 41,57,none),(57,.iload 3,58,none),(58,.iaload,59,none),(59,.istore 4,61,none),(61,.aload 0,62,none),(62,.getfield 44,65,none)],[(65,.iload 3,66,none),(66,.iaload,67,none),(67,.istore 5,69,none),(69,.aload 0,70,none),(70,.iload 4,72,none),(72,.invokevirtual 22,75,none),(75,.ifCond .eq 146,78,none),(78,.iload 5,80,none)],[(80,.aload 0,81,none),(81,.iload 4,83,none),(83,.invokevirtual 23,86,none),(86,.if_icmp .ge 146,89,none),(89,.aload 0,90,none),(90,.getfield 44,93,none),(93,.iload 3,94,none),(94,.iload 5,96,none)],[(96,.iconst 1,97,none),(97,.iadd,98,none),(98,.iastore,99,none),(99,.aload 0,100,none),(100,.iload 4,102,none),(102,.iload 5,104,none),(104,.invokevirtual 24,107,none),(107,.istore 6,109,none),(109,.aload 0,110,none),(110,.iload 6,112,none)],[(112,.invokevirtual 21,115,none),(115,.ifCond .eq 143,118,none),(118,.iload 1,119,none),(119,.iconst 128,122,none),(122,.if_icmp .ge 143,125,none),(125,.aload 0,126,none),(126,.getfield 41,129,none)],[(129,.iload 1,130,none),(130,.iload 6,132,none),(132,.iastore,133,none),(133,.aload 0,134,none),(134,.getfield 44,137,none),(137,.iload 1,138,none),(138,.iconst 0,139,none),(139,.iastore,140,none),(140,.iinc 1 1,143,none),(143,.goto 179,146,some 7)],[(146,.iinc 1 (-1),149,some 6),(149,.aload 0,150,none),(150,.getfield 18,153,none),(153,.iconst 64,155,none),(155,.if_icmp .ge 179,158,none),(158,.aload 0,159,none),(159,.getfield 38,162,none)],[(162,.aload 0,163,none),(163,.getfield 18,166,none),(166,.iload 4,168,none),(168,.iastore,169,none),(169,.aload 0,170,none),(170,.dup,171,none),(171,.getfield 18,174,none),(174,.iconst 1,175,none),(175,.iadd,176,none)],[(176,.putfield 18,179,none),(179,.iinc 2 1,182,some 6),(182,.goto 38,185,none),(185,.return_,186,some 3)]]
def cx_37:List (List Jvm.OM.Ent):=[[(0,.iconst 0,1,none),(1,.istore 1,2,none),(2,.iload 1,3,some 2),(3,.aload 0,4,none),(4,.getfield 18,7,none),(7,.if_icmp .ge 138,10,none),(10,.iload 1,11,none),(11,.iconst 64,13,none),(13,.if_icmp .ge 138,16,none)],[(16,.aload 0,17,none),(17,.getfield 38,20,none),(20,.iload 1,21,none),(21,.iaload,22,none),(22,.istore 2,23,none),(23,.aload 0,24,none),(24,.iload 2,25,none),(25,.invokevirtual 21,28,none),(28,.ifCond .ne 34,31,none),(31,.goto 132,34,none)],[(34,.aload 0,35,none),(35,.getfield 2,38,none),(38,.iload 2,39,none),(39,.iaload,40,none),(40,.ifCond .ne 65,43,none),(43,.aload 0,44,none),(44,.getfield 35,47,none),(47,.iload 2,48,none)],[(48,.iload 2,49,none),(49,.iconst 8,51,none),(51,.if_icmp .ge 60,54,none),(54,.iconst 1,55,none),(55,.iload 2,56,none),(56,.ishl,57,none),(57,.goto 61,60,none),(60,.iconst 0,61,none),(61,.iastore,62,some 3),(62,.goto 132,65,none)],[(65,.iconst 0,66,none),(66,.istore 3,67,none),(67,.aload 0,68,none),(68,.iload 2,69,none),(69,.invokevirtual 23,72,none),(72,.istore 4,74,none),(74,.iconst 0,75,none),(75,.istore 5,77,none),(77,.iload 5,79,some 6),(79,.iload 4,81,none)],[(81,.if_icmp .ge 125,84,none),(84,.iload 5,86,none),(86,.iconst 8,88,none),(88,.if_icmp .ge 125,91,none),(91,.aload 0,92,none),(92,.iload 2,93,none),(93,.iload 5,95,none),(95,.invokevirtual 24,98,none)],[(98,.istore 6,100,none),(100,.aload 0,101,none),(101,.iload 6,103,none),(103,.invokevirtual 21,106,none),(106,.ifCond .eq 119,109,none),(109,.iload 3,110,none),(110,.aload 0,111,none),(111,.getfield 35,114,none)],[(114,.iload 6,116,none),(116,.iaload,117,none),(117,.ior,118,none),(118,.istore 3,119,none),(119,.iinc 5 1,122,some 7),(122,.goto 77,125,none),(125,.aload 0,126,some 6),(126,.getfield 35,129,none)],[(129,.iload 2,130,none),(130,.iload 3,131,none),(131,.iastore,132,none),(132,.iinc 1 1,135,some 3),(135,.goto 2,138,none),(138,.return_,139,some 2)]]
def cx_38:List (List Jvm.OM.Ent):=[[(0,.aload 0,1,none),(1,.invokevirtual 36,4,none),(4,.iconst 8,6,none),(6,.istore 1,7,none),(7,.iload 1,8,some 2),(8,.iconst 64,10,none),(10,.if_icmp .ge 26,13,none),(13,.aload 0,14,none),(14,.getfield 14,17,none)],[(17,.iload 1,18,none),(18,.iconst 0,19,none),(19,.bastore,20,none),(20,.iinc 1 1,23,none),(23,.goto 7,26,none),(26,.iconst 0,27,none),(27,.istore 1,28,none),(28,.iload 1,29,some 2),(29,.aload 0,30,none),(30,.getfield 18,33,none)],[(33,.if_icmp .ge 70,36,none),(36,.iload 1,37,none),(37,.iconst 64,39,none),(39,.if_icmp .ge 70,42,none),(42,.aload 0,43,none),(43,.getfield 38,46,none),(46,.iload 1,47,none),(47,.iaload,48,none)],[(48,.istore 2,49,none),(49,.aload 0,50,none),(50,.iload 2,51,none),(51,.invokevirtual 21,54,none),(54,.ifCond .eq 64,57,none),(57,.aload 0,58,none),(58,.getfield 14,61,none),(61,.iload 2,62,none),(62,.iconst 1,63,none),(63,.bastore,64,none)],[(64,.iinc 1 1,67,some 3),(67,.goto 28,70,none),(70,.iconst 0,71,some 2),(71,.istore 1,72,none),(72,.iload 1,73,some 2),(73,.aload 0,74,none),(74,.getfield 0,77,none),(77,.if_icmp .ge 99,80,none)],[(80,.iload 1,81,none),(81,.iconst 8,83,none),(83,.if_icmp .ge 99,86,none),(86,.aload 0,87,none),(87,.getfield 14,90,none),(90,.iload 1,91,none),(91,.iconst 1,92,none),(92,.bastore,93,none),(93,.iinc 1 1,96,none)],[(96,.goto 72,99,none),(99,.return_,100,some 2)]]
def cx_39:List (List Jvm.OM.Ent):=[[(0,.iconst 0,1,none),(1,.istore 1,2,none),(2,.iload 1,3,none),(3,.iconst 64,5,none),(5,.if_icmp .ge 33,8,none),(8,.aload 0,9,none),(9,.invokevirtual 36,12,none),(12,.aload 0,13,none),(13,.invokevirtual 40,16,none)],[(16,.istore 2,17,none),(17,.iload 2,18,none),(18,.ifCond .ge 22,21,none),(21,.return_,22,none),(22,.aload 0,23,none),(23,.iload 2,24,none)],[(33,.return_,34,none)]]
def cx_40:List (List Jvm.OM.Ent):=[[(0,.iconst 0,1,none),(1,.istore 1,2,none),(2,.iload 1,3,some 2),(3,.aload 0,4,none),(4,.getfield 18,7,none),(7,.if_icmp .ge 75,10,none),(10,.iload 1,11,none),(11,.iconst 64,13,none),(13,.if_icmp .ge 75,16,none)],[(16,.aload 0,17,none),(17,.getfield 38,20,none),(20,.iload 1,21,none),(21,.iaload,22,none),(22,.istore 2,23,none),(23,.aload 0,24,none),(24,.iload 2,25,none),(25,.invokevirtual 22,28,none),(28,.ifCond .ne 34,31,none),(31,.goto 69,34,none)],[(34,.aload 0,35,none),(35,.iload 2,36,none),(36,.invokevirtual 23,39,none),(39,.istore 3,40,none),(40,.aload 0,41,none),(41,.getfield 2,44,none),(44,.iload 2,45,none),(45,.iaload,46,none),(46,.iconst 2,47,none),(47,.if_icmp .ne 62,50,none)],[(50,.iload 3,51,none),(51,.iconst 2,52,none),(52,.if_icmp .ne 62,55,none),(55,.aload 0,56,none),(56,.getfield 2,59,none),(59,.iload 2,60,none),(60,.iconst 1,61,none),(61,.iastore,62,none),(62,.iload 3,63,some 4),(63,.iconst 1,64,none)],[(64,.if_icmp .ne 69,67,none),(67,.iload 2,68,none),(68,.ireturn,69,none),(69,.iinc 1 1,72,some 3),(72,.goto 2,75,none),(75,.iconst (-1),76,some 2),(76,.ireturn,77,none)]]
def cx_42:List (List Jvm.OM.Ent):=[[(0,.aload 0,1,none),(1,.invokevirtual 36,4,none),(4,.aload 0,5,none),(5,.invokevirtual 37,8,none),(8,.aload 0,9,none),(9,.iload 1,10,none),(10,.invokevirtual 43,13,none),(13,.aload 0,14,none),(14,.iload 1,15,none),(15,.invokevirtual 44,18,none)],[(18,.istore 2,19,none),(19,.iload 2,20,none),(20,.ifCond .ge 25,23,none),(23,.iconst 0,24,none),(24,.ireturn,25,none),(25,.iconst 0,26,none),(26,.istore 3,27,none),(27,.iload 3,28,some 4),(28,.iload 2,29,none),(29,.if_icmp .ge 84,32,none)],[(32,.iload 3,33,none),(33,.iconst 64,35,none),(35,.if_icmp .ge 84,38,none),(38,.aload 0,39,none),(39,.getfield 38,42,none),(42,.iload 3,43,none),(43,.iaload,44,none),(44,.istore 4,46,none),(46,.aload 0,47,none),(47,.iload 4,49,none)],[(49,.invokevirtual 22,52,none),(52,.ifCond .eq 78,55,none),(55,.aload 0,56,none),(56,.getfield 35,59,none),(59,.iload 4,61,none),(61,.iaload,62,none),(62,.iload 1,63,none),(63,.iand,64,none)],[(64,.ifCond .eq 78,67,none),(67,.aload 0,68,none),(68,.iload 4,70,none),(70,.invokevirtual 45,73,none),(73,.ifCond .ne 78,76,none),(76,.iconst 0,77,none),(77,.ireturn,78,none),(78,.iinc 3 1,81,some 5)],[(81,.goto 27,84,none),(84,.aload 0,85,some 4),(85,.getfield 38,88,none),(88,.iload 2,89,none),(89,.iaload,90,none),(90,.istore 3,91,none),(91,.aload 0,92,none),(92,.iload 3,93,none),(93,.invokevirtual 46,96,none)],[(96,.ifCond .ne 101,99,none),(99,.iconst 0,100,none),(100,.ireturn,101,none),(101,.aload 0,102,none),(102,.invokevirtual 39,105,none),(105,.aload 0,106,none),(106,.invokevirtual 38,109,none),(109,.iconst 1,110,none),(110,.ireturn,111,none)]]
def cx_43:List (List Jvm.OM.Ent):=[[(0,.iconst 0,1,none),(1,.istore 2,2,none),(2,.iload 2,3,some 3),(3,.iconst 64,5,none),(5,.if_icmp .ge 21,8,none),(8,.aload 0,9,none),(9,.getfield 32,12,none),(12,.iload 2,13,none),(13,.iconst 0,14,none),(14,.iastore,15,none),(15,.iinc 2 1,18,none)],[(18,.goto 2,21,none),(21,.iconst 0,22,none),(22,.istore 2,23,none),(23,.iload 2,24,some 3),(24,.aload 0,25,none),(25,.getfield 0,28,none),(28,.if_icmp .ge 59,31,none),(31,.iload 2,32,none)],[(32,.iconst 8,34,none),(34,.if_icmp .ge 59,37,none),(37,.iload 1,38,none),(38,.iload 2,39,none),(39,.ishr,40,none),(40,.iconst 1,41,none),(41,.iand,42,none),(42,.iconst 1,43,none),(43,.if_icmp .ne 53,46,none),(46,.aload 0,47,none),(47,.getfield 32,50,none)],[(50,.iload 2,51,none),(51,.iconst 1,52,none),(52,.iastore,53,none),(53,.iinc 2 1,56,some 3),(56,.goto 23,59,none),(59,.return_,60,some 3)]]
def cx_44:List (List Jvm.OM.Ent):=[[(0,.iconst 0,1,none),(1,.istore 2,2,none),(2,.iload 2,3,some 3),(3,.aload 0,4,none),(4,.getfield 18,7,none),(7,.if_icmp .ge 51,10,none),(10,.iload 2,11,none),(11,.iconst 64,13,none),(13,.if_icmp .ge 51,16,none)],[(16,.aload 0,17,none),(17,.getfield 38,20,none),(20,.iload 2,21,none),(21,.iaload,22,none),(22,.istore 3,23,none),(23,.aload 0,24,none),(24,.iload 3,25,none),(25,.invokevirtual 21,28,none),(28,.ifCond .eq 45,31,none),(31,.aload 0,32,none)],[(32,.getfield 35,35,none),(35,.iload 3,36,none),(36,.iaload,37,none),(37,.iload 1,38,none),(38,.iand,39,none),(39,.iload 1,40,none),(40,.if_icmp .ne 45,43,none),(43,.iload 2,44,none),(44,.ireturn,45,none),(45,.iinc 2 1,48,some 4)],[(48,.goto 2,51,none),(51,.iconst (-1),52,some 3),(52,.ireturn,53,none)]]
def cx_45:List (List Jvm.OM.Ent):=[[(0,.aload 0,1,none),(1,.getfield 2,4,none),(4,.iload 1,5,none),(5,.iaload,6,none),(6,.iconst 1,7,none),(7,.if_icmp .ne 16,10,none),(10,.aload 0,11,none),(11,.iload 1,12,none),(12,.invokevirtual 57,15,none),(15,.ireturn,16,none)],[(16,.aload 0,17,none),(17,.iload 1,18,none),(18,.invokevirtual 58,21,none),(21,.ireturn,22,none)]]
def cx_46:List (List Jvm.OM.Ent):=[[(0,.aload 0,1,none),(1,.iload 1,2,none),(2,.invokevirtual 22,5,none),(5,.ifCond .ne 10,8,none),(8,.iconst 1,9,none),(9,.ireturn,10,none),(10,.aload 0,11,none),(11,.getfield 2,14,none),(14,.iload 1,15,none),(15,.iaload,16,none)],[(16,.iconst 1,17,none),(17,.if_icmp .ne 26,20,none),(20,.aload 0,21,none),(21,.iload 1,22,none),(22,.invokevirtual 59,25,none),(25,.ireturn,26,none),(26,.aload 0,27,none),(27,.iload 1,28,none),(28,.invokevirtual 65,31,none),(31,.ireturn,32,none)]]
def cx_47:List (List Jvm.OM.Ent):=[[(0,.aload 0,1,none),(1,.iconst 0,2,none),(2,.putfield 24,5,none),(5,.aload 0,6,none),(6,.iconst 0,7,none),(7,.putfield 27,10,none),(10,.aload 0,11,none),(11,.iconst 0,12,none),(12,.putfield 30,15,none),(15,.aload 0,16,none)],[(16,.iload 1,17,none),(17,.invokevirtual 23,20,none),(20,.istore 2,21,none),(21,.iconst 0,22,none),(22,.istore 3,23,none),(23,.iload 3,24,some 4),(24,.iload 2,25,none),(25,.if_icmp .ge 164,28,none),(28,.iload 3,29,none),(29,.iconst 8,31,none),(31,.if_icmp .ge 164,34,none)],[(34,.aload 0,35,none),(35,.iload 1,36,none),(36,.iload 3,37,none),(37,.invokevirtual 24,40,none),(40,.istore 4,42,none),(42,.aload 0,43,none),(43,.iload 4,45,none),(45,.invokevirtual 26,48,none)],[(48,.istore 5,50,none),(50,.iload 5,52,none),(52,.iconst 1,53,none),(53,.if_icmp .ne 89,56,none),(56,.aload 0,57,none),(57,.getfield 27,60,none),(60,.iconst 8,62,none),(62,.if_icmp .ge 89,65,none)],[(65,.aload 0,66,none),(66,.getfield 53,69,none),(69,.aload 0,70,none),(70,.getfield 27,73,none),(73,.iload 4,75,none),(75,.iastore,76,none),(76,.aload 0,77,none),(77,.dup,78,none),(78,.getfield 27,81,none)],[(81,.iconst 1,82,none),(82,.iadd,83,none),(83,.putfield 27,86,none),(86,.goto 158,89,none),(89,.iload 5,91,some 6),(91,.iconst 2,92,none),(92,.if_icmp .ne 128,95,none),(95,.aload 0,96,none)],[(96,.getfield 30,99,none),(99,.iconst 8,101,none),(101,.if_icmp .ge 128,104,none),(104,.aload 0,105,none),(105,.getfield 56,108,none),(108,.aload 0,109,none),(109,.getfield 30,112,none)],[(112,.iload 4,114,none),(114,.iastore,115,none),(115,.aload 0,116,none),(116,.dup,117,none),(117,.getfield 30,120,none),(120,.iconst 1,121,none),(121,.iadd,122,none),(122,.putfield 30,125,none),(125,.goto 158,128,none)],[(128,.aload 0,129,some 6),(129,.getfield 24,132,none),(132,.iconst 8,134,none),(134,.if_icmp .ge 158,137,none),(137,.aload 0,138,none),(138,.getfield 50,141,none),(141,.aload 0,142,none),(142,.getfield 24,145,none)],[(145,.iload 4,147,none),(147,.iastore,148,none),(148,.aload 0,149,none),(149,.dup,150,none),(150,.getfield 24,153,none),(153,.iconst 1,154,none),(154,.iadd,155,none),(155,.putfield 24,158,none),(158,.iinc 3 1,161,some 6)],[(161,.goto 23,164,none),(164,.return_,165,some 4)]]
def cx_48:List (List Jvm.OM.Ent):=[[(0,.iload 1,1,none),(1,.ifCond .eq 11,4,none),(4,.aload 0,5,none),(5,.getfield 27,8,none),(8,.goto 15,11,none),(11,.aload 0,12,none),(12,.getfield 24,15,none),(15,.istore 2,16,some 2)],[(16,.iload 2,17,none),(17,.ifCond .gt 22,20,none),(20,.iconst (-1),21,none),(21,.ireturn,22,none),(22,.iload 2,23,none),(23,.iconst 1,24,none),(24,.if_icmp .ne 47,27,none),(27,.iload 1,28,none),(28,.ifCond .eq 40,31,none),(31,.aload 0,32,none)],[(32,.getfield 53,35,none),(35,.iconst 0,36,none),(36,.iaload,37,none),(37,.goto 46,40,none),(40,.aload 0,41,none),(41,.getfield 50,44,none),(44,.iconst 0,45,none),(45,.iaload,46,none),(46,.ireturn,47,some 3),(47,.iload 1,48,none)],[(48,.ifCond .eq 55,51,none),(51,.iconst 1,52,none),(52,.goto 56,55,none),(55,.iconst 0,56,none),(56,.istore 3,57,some 3),(57,.aload 0,58,none),(58,.iconst 1,59,none),(59,.iload 3,60,none),(60,.invokevirtual 32,63,none),(63,.istore 4,65,none)],[(65,.iload 4,67,none),(67,.ifCond .ge 73,70,none),(70,.iconst (-2),72,none),(72,.ireturn,73,none),(73,.iconst 0,74,none),(74,.istore 5,76,none),(76,.iload 5,78,some 6),(78,.iload 2,79,none),(79,.if_icmp .ge 127,82,none)],[(82,.iload 5,84,none),(84,.iconst 8,86,none),(86,.if_icmp .ge 127,89,none),(89,.iload 1,90,none),(90,.ifCond .eq 103,93,none),(93,.aload 0,94,none),(94,.getfield 53,97,none)],[(97,.iload 5,99,none),(99,.iaload,100,none),(100,.goto 110,103,none),(103,.aload 0,104,none),(104,.getfield 50,107,none),(107,.iload 5,109,none),(109,.iaload,110,none),(110,.istore 6,112,some 6)],[(112,.aload 0,113,none),(113,.iload 4,115,none),(115,.iload 6,117,none),(117,.invokevirtual 29,120,none),(120,.pop,121,none),(121,.iinc 5 1,124,none),(124,.goto 76,127,none),(127,.iload 4,129,some 6)],[(129,.ireturn,130,none)]]
def cx_49:List (List Jvm.OM.Ent):=[[(0,.aload 0,1,none),(1,.iconst 0,2,none),(2,.putfield 21,5,none),(5,.return_,6,none)]]
def cx_50:List (List Jvm.OM.Ent):=[[(0,.iload 1,1,none),(1,.ifCond .ge 5,4,none),(4,.return_,5,none),(5,.aload 0,6,none),(6,.getfield 21,9,none),(9,.iconst 16,11,none),(11,.if_icmp .ge 34,14,none),(14,.aload 0,15,none),(15,.getfield 47,18,none)],[(18,.aload 0,19,none),(19,.getfield 21,22,none),(22,.iload 1,23,none),(23,.iastore,24,none),(24,.aload 0,25,none),(25,.dup,26,none),(26,.getfield 21,29,none),(29,.iconst 1,30,none),(30,.iadd,31,none),(31,.putfield 21,34,none)],[(34,.return_,35,some 2)]]
def cx_51:List (List Jvm.OM.Ent):=[[(0,.iconst 0,1,none),(1,.istore 1,2,none),(2,.iload 1,3,some 2),(3,.aload 0,4,none),(4,.getfield 24,7,none),(7,.if_icmp .ge 32,10,none),(10,.iload 1,11,none),(11,.iconst 8,13,none),(13,.if_icmp .ge 32,16,none)],[(16,.aload 0,17,none),(17,.aload 0,18,none),(18,.getfield 50,21,none),(21,.iload 1,22,none),(22,.iaload,23,none),(23,.invokevirtual 50,26,none),(26,.iinc 1 1,29,none),(29,.goto 2,32,none)],[(32,.return_,33,some 2)]]
def cx_52:List (List Jvm.OM.Ent):=[[(0,.aload 0,1,none),(1,.iload 1,2,none),(2,.invokevirtual 23,5,none),(5,.istore 3,6,none),(6,.iconst 0,7,none),(7,.istore 4,9,none),(9,.iload 4,11,some 5),(11,.iload 3,12,none),(12,.if_icmp .ge 60,15,none),(15,.iload 4,17,none)],[(17,.iconst 8,19,none),(19,.if_icmp .ge 60,22,none),(22,.iload 2,23,none),(23,.ifCond .eq 35,26,none),(26,.iload 3,27,none),(27,.iconst 1,28,none),(28,.isub,29,none),(29,.iload 4,31,none),(31,.isub,32,none)],[(32,.goto 37,35,none),(35,.iload 4,37,none),(37,.istore 5,39,some 5),(39,.aload 0,40,none),(40,.iload 1,41,none),(41,.iload 5,43,none),(43,.invokevirtual 24,46,none),(46,.istore 6,48,none)],[(48,.aload 0,49,none),(49,.iload 6,51,none),(51,.invokevirtual 50,54,none),(54,.iinc 4 1,57,none),(57,.goto 9,60,none),(60,.return_,61,some 5)]]
def cx_53:List (List Jvm.OM.Ent):=[[(0,.aload 0,1,none),(1,.iload 1,2,none),(2,.invokevirtual 21,5,none),(5,.ifCond .eq 17,8,none),(8,.aload 0,9,none),(9,.getfield 21,12,none),(12,.iconst 8,14,none),(14,.if_icmp .le 19,17,none)],[(17,.iconst 0,18,some 2),(18,.ireturn,19,none),(19,.aload 0,20,none),(20,.iload 1,21,none),(21,.invokevirtual 30,24,none),(24,.iconst 0,25,none),(25,.istore 2,26,none),(26,.iload 2,27,some 3),(27,.aload 0,28,none),(28,.getfield 21,31,none),(31,.if_icmp .ge 62,34,none)],[(34,.iload 2,35,none),(35,.iconst 16,37,none),(37,.if_icmp .ge 62,40,none),(40,.aload 0,41,none),(41,.iload 1,42,none),(42,.aload 0,43,none),(43,.getfield 47,46,none),(46,.iload 2,47,none),(47,.iaload,48,none)],[(48,.invokevirtual 29,51,none),(51,.ifCond .ne 56,54,none),(54,.iconst 0,55,none),(55,.ireturn,56,none),(56,.iinc 2 1,59,none),(59,.goto 26,62,none),(62,.iconst 1,63,some 3),(63,.ireturn,64,none)]]
def cx_54:List (List Jvm.OM.Ent):=[[(0,.aload 0,1,none),(1,.iload 1,2,none),(2,.invokevirtual 23,5,none),(5,.istore 2,6,none),(6,.iconst 0,7,none),(7,.istore 3,8,none),(8,.iload 3,9,some 4),(9,.iconst 8,11,none),(11,.if_icmp .ge 68,14,none),(14,.iload 2,15,none),(15,.iconst 1,16,none)],[(16,.isub,17,none),(17,.iload 3,18,none),(18,.isub,19,none),(19,.istore 4,21,none),(21,.iload 3,22,none),(22,.iload 4,24,none),(24,.if_icmp .lt 28,27,none),(27,.return_,28,none),(28,.aload 0,29,none),(29,.iload 1,30,none),(30,.iload 3,31,none),(31,.invokevirtual 24,34,none)],[(34,.istore 5,36,none),(36,.aload 0,37,none),(37,.iload 1,38,none),(38,.iload 4,40,none),(40,.invokevirtual 24,43,none),(43,.istore 6,45,none),(45,.aload 0,46,none),(46,.iload 1,47,none),(47,.iload 3,48,none)],[(48,.iload 6,50,none),(50,.invokevirtual 25,53,none),(53,.aload 0,54,none),(54,.iload 1,55,none),(55,.iload 4,57,none),(57,.iload 5,59,none),(59,.invokevirtual 25,62,none),(62,.iinc 3 1,65,none)],[(65,.goto 8,68,none),(68,.return_,69,none)]]
def cx_55:List (List Jvm.OM.Ent):=[[(0,.iload 1,1,none),(1,.ifCond .ne 6,4,none),(4,.iconst 0,5,none),(5,.ireturn,6,none),(6,.iload 1,7,none),(7,.iconst 2,8,none),(8,.if_icmp .ne 13,11,none),(11,.iconst 1,12,none),(12,.ireturn,13,none),(13,.iconst 2,14,none),(14,.ireturn,15,none)]]
def cx_56:List (List Jvm.OM.Ent):=[[(0,.aload 0,1,none),(1,.iload 1,2,none),(2,.invokevirtual 23,5,none),(5,.istore 2,6,none),(6,.iconst 1,7,none),(7,.istore 3,8,none),(8,.iconst 1,9,none),(9,.istore 4,11,none),(11,.iconst (-1),12,none),(12,.istore 5,14,none),(14,.iconst 0,15,none),(15,.istore 6,17,none)],[(17,.iload 6,19,some 7),(19,.iload 2,20,none),(20,.if_icmp .ge 94,23,none),(23,.iload 6,25,none),(25,.iconst 8,27,none),(27,.if_icmp .ge 94,30,none),(30,.aload 0,31,none),(31,.iload 1,32,none)],[(32,.iload 6,34,none),(34,.invokevirtual 24,37,none),(37,.istore 7,39,none),(39,.aload 0,40,none),(40,.iload 7,42,none),(42,.invokevirtual 26,45,none),(45,.istore 8,47,none),(47,.aload 0,48,none)],[(48,.iload 8,50,none),(50,.invokevirtual 55,53,none),(53,.istore 9,55,none),(55,.iload 6,57,none),(57,.ifCond .le 69,60,none),(60,.iload 9,62,none),(62,.iload 5,64,none)],[(64,.if_icmp .ge 69,67,none),(67,.iconst 0,68,none),(68,.istore 3,69,none),(69,.iload 6,71,some 10),(71,.ifCond .le 84,74,none),(74,.iload 9,76,none),(76,.iload 5,78,none),(78,.if_icmp .le 84,81,none)],[(81,.iconst 0,82,none),(82,.istore 4,84,none),(84,.iload 9,86,some 10),(86,.istore 5,88,none),(88,.iinc 6 1,91,none),(91,.goto 17,94,none),(94,.iload 3,95,some 7),(95,.ifCond .eq 100,98,none)],[(98,.iconst 1,99,none),(99,.ireturn,100,none),(100,.iload 4,102,none),(102,.ifCond .eq 107,105,none),(105,.iconst (-1),106,none),(106,.ireturn,107,none),(107,.iconst 0,108,none),(108,.ireturn,109,none)]]
def cx_57:List (List Jvm.OM.Ent):=[[(0,.aload 0,1,none),(1,.iload 1,2,none),(2,.invokevirtual 47,5,none),(5,.aload 0,6,none),(6,.getfield 30,9,none),(9,.iconst 2,10,none),(10,.if_icmp .lt 15,13,none),(13,.iconst 0,14,none),(14,.ireturn,15,none),(15,.aload 0,16,none)],[(16,.getfield 30,19,none),(19,.ifCond .ne 38,22,none),(22,.aload 0,23,none),(23,.getfield 24,26,none),(26,.ifCond .ne 38,29,none),(29,.aload 0,30,none),(30,.getfield 32,33,none)],[(33,.iload 1,34,none),(34,.iconst 1,35,none),(35,.iastore,36,none),(36,.iconst 1,37,none),(37,.ireturn,38,none),(38,.aload 0,39,some 2),(39,.getfield 30,42,none),(42,.ifCond .ne 61,45,none),(45,.aload 0,46,none),(46,.getfield 27,49,none)],[(49,.ifCond .ne 61,52,none),(52,.aload 0,53,none),(53,.getfield 32,56,none),(56,.iload 1,57,none),(57,.iconst 0,58,none),(58,.iastore,59,none),(59,.iconst 1,60,none),(60,.ireturn,61,none),(61,.aload 0,62,some 2),(62,.getfield 30,65,none)],[(65,.iconst 1,66,none),(66,.if_icmp .ne 78,69,none),(69,.aload 0,70,none),(70,.getfield 56,73,none),(73,.iconst 0,74,none),(74,.iaload,75,none),(75,.goto 79,78,none),(78,.iconst (-1),79,none),(79,.istore 2,80,some 2)],[(80,.aload 0,81,none),(81,.iconst 0,82,none),(82,.invokevirtual 48,85,none),(85,.istore 3,86,none),(86,.aload 0,87,none),(87,.iconst 1,88,none),(88,.invokevirtual 48,91,none),(91,.istore 4,93,none),(93,.iload 3,94,none),(94,.iconst (-1),95,none),(95,.if_icmp .lt 104,98,none)],[(98,.iload 4,100,none),(100,.iconst (-1),101,none),(101,.if_icmp .ge 106,104,none),(104,.iconst 0,105,some 5),(105,.ireturn,106,none),(106,.aload 0,107,none),(107,.invokevirtual 49,110,none),(110,.aload 0,111,none),(111,.iload 3,112,none)],[(112,.invokevirtual 50,115,none),(115,.iload 2,116,none),(116,.ifCond .lt 125,119,none),(119,.aload 0,120,none),(120,.iload 2,121,none),(121,.iconst 0,122,none),(122,.invokevirtual 52,125,none),(125,.aload 0,126,some 5),(126,.iload 4,128,none)],[(128,.invokevirtual 50,131,none),(131,.aload 0,132,none),(132,.getfield 2,135,none),(135,.iload 1,136,none),(136,.iconst 2,137,none),(137,.iastore,138,none),(138,.aload 0,139,none),(139,.getfield 32,142,none),(142,.iload 1,143,none),(143,.iconst 2,144,none)],[(144,.iastore,145,none),(145,.aload 0,146,none),(146,.iload 1,147,none),(147,.invokevirtual 53,150,none),(150,.ifCond .ne 155,153,none),(153,.iconst 0,154,none),(154,.ireturn,155,none),(155,.aload 0,156,none),(156,.iload 2,157,none),(157,.invokevirtual 33,160,none)],[(160,.iconst 1,161,none),(161,.ireturn,162,none)]]
def cx_58:List (List Jvm.OM.Ent):=[[(0,.aload 0,1,none),(1,.iload 1,2,none),(2,.invokevirtual 47,5,none),(5,.aload 0,6,none),(6,.getfield 30,9,none),(9,.iconst 2,10,none),(10,.if_icmp .lt 15,13,none),(13,.iconst 0,14,none),(14,.ireturn,15,none),(15,.aload 0,16,none)],[(16,.getfield 30,19,none),(19,.ifCond .ne 38,22,none),(22,.aload 0,23,none),(23,.getfield 24,26,none),(26,.ifCond .ne 38,29,none),(29,.aload 0,30,none),(30,.getfield 32,33,none)],[(33,.iload 1,34,none),(34,.iconst 1,35,none),(35,.iastore,36,none),(36,.iconst 1,37,none),(37,.ireturn,38,none),(38,.aload 0,39,some 2),(39,.getfield 30,42,none),(42,.ifCond .ne 61,45,none),(45,.aload 0,46,none),(46,.getfield 27,49,none)],[(49,.ifCond .ne 61,52,none),(52,.aload 0,53,none),(53,.getfield 32,56,none),(56,.iload 1,57,none),(57,.iconst 0,58,none),(58,.iastore,59,none),(59,.iconst 1,60,none),(60,.ireturn,61,none),(61,.aload 0,62,some 2),(62,.iload 1,63,none),(63,.invokevirtual 56,66,none)],[(66,.istore 2,67,none),(67,.iload 2,68,none),(68,.ifCond .ne 73,71,none),(71,.iconst 0,72,none),(72,.ireturn,73,none),(73,.iload 2,74,none),(74,.ifCond .ge 82,77,none),(77,.aload 0,78,none),(78,.iload 1,79,none),(79,.invokevirtual 54,82,none)],[(82,.aload 0,83,some 3),(83,.getfield 30,86,none),(86,.iconst 1,87,none),(87,.if_icmp .ne 99,90,none),(90,.aload 0,91,none),(91,.getfield 56,94,none),(94,.iconst 0,95,none),(95,.iaload,96,none)],[(96,.goto 100,99,none),(99,.iconst (-1),100,none),(100,.istore 3,101,some 3),(101,.aload 0,102,none),(102,.invokevirtual 49,105,none),(105,.aload 0,106,none),(106,.iload 1,107,none),(107,.invokevirtual 23,110,none),(110,.istore 4,112,none)],[(112,.iconst 0,113,none),(113,.istore 5,115,none),(115,.iload 5,117,some 6),(117,.iload 4,119,none),(119,.if_icmp .ge 166,122,none),(122,.iload 5,124,none),(124,.iconst 8,126,none),(126,.if_icmp .ge 166,129,none)],[(129,.aload 0,130,none),(130,.iload 1,131,none),(131,.iload 5,133,none),(133,.invokevirtual 24,136,none),(136,.istore 6,138,none),(138,.iload 6,140,none),(140,.iload 3,141,none),(141,.if_icmp .ne 154,144,none)],[(144,.aload 0,145,none),(145,.iload 6,147,none),(147,.iconst 0,148,none),(148,.invokevirtual 52,151,none),(151,.goto 160,154,none),(154,.aload 0,155,none),(155,.iload 6,157,none),(157,.invokevirtual 50,160,none)],[(160,.iinc 5 1,163,some 7),(163,.goto 115,166,none),(166,.aload 0,167,some 6),(167,.iload 1,168,none),(168,.invokevirtual 53,171,none),(171,.ifCond .ne 176,174,none),(174,.iconst 0,175,none),(175,.ireturn,176,none)],[(176,.aload 0,177,none),(177,.iload 3,178,none),(178,.invokevirtual 33,181,none),(181,.aload 0,182,none),(182,.getfield 32,185,none),(185,.iload 1,186,none),(186,.iconst 2,187,none),(187,.iastore,188,none),(188,.iconst 1,189,none),(189,.ireturn,190,none)]]
def cx_59:List (List Jvm.OM.Ent):=[[(0,.aload 0,1,none),(1,.iload 1,2,none),(2,.invokevirtual 47,5,none),(5,.aload 0,6,none),(6,.getfield 30,9,none),(9,.iconst 3,10,none),(10,.if_icmp .lt 15,13,none),(13,.iconst 0,14,none),(14,.ireturn,15,none),(15,.aload 0,16,none)],[(16,.getfield 30,19,none),(19,.ifCond .ne 28,22,none),(22,.aload 0,23,none),(23,.iload 1,24,none),(24,.invokevirtual 60,27,none),(27,.ireturn,28,none),(28,.aload 0,29,none),(29,.getfield 30,32,none)],[(32,.iconst 1,33,none),(33,.if_icmp .ne 42,36,none),(36,.aload 0,37,none),(37,.iload 1,38,none),(38,.invokevirtual 61,41,none),(41,.ireturn,42,none),(42,.aload 0,43,none),(43,.iload 1,44,none),(44,.invokevirtual 62,47,none),(47,.ireturn,48,none)]]
def cx_60:List (List Jvm.OM.Ent):=[[(0,.aload 0,1,none),(1,.getfield 24,4,none),(4,.ifCond .eq 15,7,none),(7,.aload 0,8,none),(8,.getfield 27,11,none),(11,.iconst 2,12,none),(12,.if_icmp .ge 17,15,none),(15,.iconst 1,16,some 2)],[(16,.ireturn,17,none),(17,.aload 0,18,none),(18,.iconst 1,19,none),(19,.invokevirtual 48,22,none),(22,.istore 2,23,none),(23,.iload 2,24,none),(24,.ifCond .ge 29,27,none),(27,.iconst 0,28,none),(28,.ireturn,29,none),(29,.aload 0,30,none),(30,.invokevirtual 49,33,none)],[(33,.aload 0,34,none),(34,.invokevirtual 51,37,none),(37,.aload 0,38,none),(38,.iload 2,39,none),(39,.invokevirtual 50,42,none),(42,.aload 0,43,none),(43,.iload 1,44,none),(44,.invokevirtual 53,47,none),(47,.ireturn,48,none)]]
def cx_61:List (List Jvm.OM.Ent):=[[(0,.aload 0,1,none),(1,.getfield 56,4,none),(4,.iconst 0,5,none),(5,.iaload,6,none),(6,.istore 2,7,none),(7,.aload 0,8,none),(8,.iconst 1,9,none),(9,.invokevirtual 48,12,none),(12,.istore 3,13,none),(13,.iload 3,14,none),(14,.iconst (-1),15,none),(15,.if_icmp .ge 20,18,none)],[(18,.iconst 0,19,none),(19,.ireturn,20,none),(20,.aload 0,21,none),(21,.invokevirtual 49,24,none),(24,.aload 0,25,none),(25,.iload 2,26,none),(26,.iconst 0,27,none),(27,.invokevirtual 52,30,none),(30,.aload 0,31,none),(31,.iload 3,32,none)],[(32,.invokevirtual 50,35,none),(35,.aload 0,36,none),(36,.getfield 24,39,none),(39,.ifCond .ne 66,42,none),(42,.aload 0,43,none),(43,.getfield 2,46,none),(46,.iload 1,47,none),(47,.iconst 2,48,none)],[(48,.iastore,49,none),(49,.aload 0,50,none),(50,.iload 1,51,none),(51,.invokevirtual 53,54,none),(54,.ifCond .ne 59,57,none),(57,.iconst 0,58,none),(58,.ireturn,59,none),(59,.aload 0,60,none),(60,.iload 2,61,none),(61,.invokevirtual 33,64,none)],[(64,.iconst 1,65,none),(65,.ireturn,66,none),(66,.aload 0,67,none),(67,.getfield 2,70,none),(70,.iload 2,71,none),(71,.iconst 2,72,none),(72,.iastore,73,none),(73,.aload 0,74,none),(74,.iload 2,75,none),(75,.invokevirtual 53,78,none),(78,.ifCond .ne 83,81,none)],[(81,.iconst 0,82,none),(82,.ireturn,83,none),(83,.aload 0,84,none),(84,.invokevirtual 49,87,none),(87,.aload 0,88,none),(88,.invokevirtual 51,91,none),(91,.aload 0,92,none),(92,.iload 2,93,none),(93,.invokevirtual 50,96,none)],[(96,.aload 0,97,none),(97,.iload 1,98,none),(98,.invokevirtual 53,101,none),(101,.ireturn,102,none)]]
def cx_62:List (List Jvm.OM.Ent):=[[(0,.aload 0,1,none),(1,.getfield 56,4,none),(4,.iconst 0,5,none),(5,.iaload,6,none),(6,.istore 2,7,none),(7,.aload 0,8,none),(8,.getfield 56,11,none),(11,.iconst 1,12,none),(12,.iaload,13,none),(13,.istore 3,14,none),(14,.aload 0,15,none),(15,.iconst 1,16,none)],[(16,.invokevirtual 48,19,none),(19,.istore 4,21,none),(21,.iload 4,23,none),(23,.iconst (-1),24,none),(24,.if_icmp .ge 29,27,none),(27,.iconst 0,28,none),(28,.ireturn,29,none),(29,.aload 0,30,none),(30,.invokevirtual 49,33,none)],[(33,.aload 0,34,none),(34,.iload 2,35,none),(35,.iconst 0,36,none),(36,.invokevirtual 52,39,none),(39,.aload 0,40,none),(40,.iload 4,42,none),(42,.invokevirtual 50,45,none),(45,.aload 0,46,none),(46,.iload 3,47,none),(47,.iconst 1,48,none)],[(48,.invokevirtual 52,51,none),(51,.aload 0,52,none),(52,.getfield 24,55,none),(55,.ifCond .ne 87,58,none),(58,.aload 0,59,none),(59,.getfield 2,62,none),(62,.iload 1,63,none),(63,.iconst 2,64,none)],[(64,.iastore,65,none),(65,.aload 0,66,none),(66,.iload 1,67,none),(67,.invokevirtual 53,70,none),(70,.ifCond .ne 75,73,none),(73,.iconst 0,74,none),(74,.ireturn,75,none),(75,.aload 0,76,none),(76,.iload 2,77,none),(77,.invokevirtual 33,80,none)],[(80,.aload 0,81,none),(81,.iload 3,82,none),(82,.invokevirtual 33,85,none),(85,.iconst 1,86,none),(86,.ireturn,87,none),(87,.aload 0,88,none),(88,.getfield 2,91,none),(91,.iload 2,92,none),(92,.iconst 2,93,none),(93,.iastore,94,none),(94,.aload 0,95,none),(95,.iload 2,96,none)],[(96,.invokevirtual 53,99,none),(99,.ifCond .ne 104,102,none),(102,.iconst 0,103,none),(103,.ireturn,104,none),(104,.aload 0,105,none),(105,.iload 3,106,none),(106,.invokevirtual 33,109,none),(109,.aload 0,110,none),(110,.invokevirtual 49,113,none)],[(113,.aload 0,114,none),(114,.invokevirtual 51,117,none),(117,.aload 0,118,none),(118,.iload 2,119,none),(119,.invokevirtual 50,122,none),(122,.aload 0,123,none),(123,.iload 1,124,none),(124,.invokevirtual 53,127,none),(127,.ireturn,128,none)]]
def cx_63:List (List Jvm.OM.Ent):=[[(0,.aload 0,1,none),(1,.iload 1,2,none),(2,.invokevirtual 23,5,none),(5,.istore 2,6,none),(6,.iconst 0,7,none),(7,.istore 3,8,none),(8,.iload 3,9,some 4),(9,.iload 2,10,none),(10,.if_icmp .ge 44,13,none),(13,.iload 3,14,none),(14,.iconst 8,16,none)],[(16,.if_icmp .ge 44,19,none),(19,.aload 0,20,none),(20,.iload 1,21,none),(21,.iload 3,22,none),(22,.invokevirtual 24,25,none),(25,.istore 4,27,none),(27,.aload 0,28,none),(28,.iload 4,30,none),(30,.invokevirtual 26,33,none)],[(33,.ifCond .eq 38,36,none),(36,.iload 3,37,none),(37,.ireturn,38,none),(38,.iinc 3 1,41,none),(41,.goto 8,44,none),(44,.iconst (-1),45,some 4),(45,.ireturn,46,none)]]
def cx_64:List (List Jvm.OM.Ent):=[[(0,.aload 0,1,none),(1,.iload 1,2,none),(2,.invokevirtual 23,5,none),(5,.istore 2,6,none),(6,.iload 2,7,none),(7,.iconst 1,8,none),(8,.isub,9,none),(9,.istore 3,10,none),(10,.iload 3,11,some 4),(11,.ifCond .lt 45,14,none),(14,.iload 3,15,none),(15,.iconst 8,17,none)],[(17,.if_icmp .ge 45,20,none),(20,.aload 0,21,none),(21,.iload 1,22,none),(22,.iload 3,23,none),(23,.invokevirtual 24,26,none),(26,.istore 4,28,none),(28,.aload 0,29,none),(29,.iload 4,31,none),(31,.invokevirtual 26,34,none)],[(34,.ifCond .eq 39,37,none),(37,.iload 3,38,none),(38,.ireturn,39,none),(39,.iinc 3 (-1),42,none),(42,.goto 10,45,none),(45,.iconst (-1),46,some 4),(46,.ireturn,47,none)]]
def cx_65:List (List Jvm.OM.Ent):=[[(0,.aload 0,1,none),(1,.iload 1,2,none),(2,.invokevirtual 63,5,none),(5,.istore 2,6,none),(6,.aload 0,7,none),(7,.iload 1,8,none),(8,.invokevirtual 64,11,none),(11,.istore 3,12,none),(12,.iload 2,13,none),(13,.ifCond .ge 18,16,none)],[(16,.iconst 1,17,none),(17,.ireturn,18,none),(18,.iload 2,19,none),(19,.iconst 1,20,none),(20,.iadd,21,none),(21,.istore 4,23,none),(23,.iload 4,25,some 5),(25,.iload 3,26,none),(26,.if_icmp .ge 63,29,none),(29,.iload 4,31,none),(31,.iconst 8,33,none)],[(33,.if_icmp .ge 63,36,none),(36,.aload 0,37,none),(37,.iload 1,38,none),(38,.iload 4,40,none),(40,.invokevirtual 24,43,none),(43,.istore 5,45,none),(45,.aload 0,46,none),(46,.iload 5,48,none)],[(48,.invokevirtual 26,51,none),(51,.iconst 1,52,none),(52,.if_icmp .eq 57,55,none),(55,.iconst 0,56,none),(56,.ireturn,57,none),(57,.iinc 4 1,60,none),(60,.goto 23,63,none),(63,.aload 0,64,some 5)],[(64,.invokevirtual 49,67,none),(67,.aload 0,68,none),(68,.iload 1,69,none),(69,.invokevirtual 23,72,none),(72,.istore 4,74,none),(74,.iconst 0,75,none),(75,.istore 5,77,none),(77,.iload 5,79,some 6),(79,.iload 4,81,none)],[(81,.if_icmp .ge 156,84,none),(84,.iload 5,86,none),(86,.iconst 8,88,none),(88,.if_icmp .ge 156,91,none),(91,.aload 0,92,none),(92,.iload 1,93,none),(93,.iload 5,95,none),(95,.invokevirtual 24,98,none)],[(98,.istore 6,100,none),(100,.aload 0,101,none),(101,.iload 6,103,none),(103,.invokevirtual 26,106,none),(106,.istore 7,108,none),(108,.iload 7,110,none),(110,.iconst 2,111,none),(111,.if_icmp .ne 144,114,none)],[(114,.iload 5,116,none),(116,.iload 3,117,none),(117,.if_icmp .ne 130,120,none),(120,.iload 5,122,none),(122,.iload 2,123,none),(123,.if_icmp .eq 130,126,none),(126,.iconst 1,127,none),(127,.goto 131,130,none)],[(130,.iconst 0,131,some 8),(131,.istore 8,133,some 8),(133,.aload 0,134,none),(134,.iload 6,136,none),(136,.iload 8,138,none),(138,.invokevirtual 52,141,none),(141,.goto 150,144,none)],[(144,.aload 0,145,none),(145,.iload 6,147,none),(147,.invokevirtual 50,150,none),(150,.iinc 5 1,153,some 8),(153,.goto 77,156,none),(156,.aload 0,157,some 6),(157,.iload 1,158,none),(158,.invokevirtual 53,161,none)],[(161,.ireturn,162,none)]]
def cx_66:List (List Jvm.OM.Ent):=[[(0,.aload 0,1,none),(1,.invokevirtual 36,4,none),(4,.aload 0,5,none),(5,.invokevirtual 69,8,none),(8,.aload 0,9,none),(9,.aload 0,10,none),(10,.invokevirtual 67,13,none),(13,.putfield 33,16,none)],[(16,.aload 0,17,none),(17,.aload 0,18,none),(18,.aload 0,19,none),(19,.getfield 12,22,none),(22,.invokevirtual 28,25,none),(25,.putfield 36,28,none),(28,.aload 0,29,none),(29,.invokevirtual 72,32,none)],[(32,.return_,33,none)]]
def cx_67:List (List Jvm.OM.Ent):=[[(0,.iconst 1,1,none),(1,.istore 1,2,none),(2,.iconst 0,3,none),(3,.istore 2,4,none),(4,.iload 2,5,some 3),(5,.aload 0,6,none),(6,.getfield 18,9,none),(9,.if_icmp .ge 75,12,none),(12,.iload 2,13,none),(13,.iconst 64,15,none),(15,.if_icmp .ge 75,18,none)],[(18,.aload 0,19,none),(19,.getfield 38,22,none),(22,.iload 2,23,none),(23,.iaload,24,none),(24,.istore 3,25,none),(25,.aload 0,26,none),(26,.iload 3,27,none),(27,.invokevirtual 22,30,none),(30,.ifCond .ne 36,33,none)],[(33,.goto 69,36,none),(36,.aload 0,37,none),(37,.iload 3,38,none),(38,.invokevirtual 23,41,none),(41,.istore 4,43,none),(43,.aload 0,44,none),(44,.getfield 2,47,none),(47,.iload 3,48,none)],[(48,.iaload,49,none),(49,.iconst 1,50,none),(50,.if_icmp .ne 65,53,none),(53,.iload 1,54,none),(54,.aload 0,55,none),(55,.iload 4,57,none),(57,.invokevirtual 68,60,none),(60,.imul,61,none),(61,.istore 1,62,none),(62,.goto 69,65,none)],[(65,.iload 1,66,none),(66,.iconst 2,67,none),(67,.imul,68,none),(68,.istore 1,69,none),(69,.iinc 2 1,72,some 4),(72,.goto 4,75,none),(75,.iload 1,76,some 3),(76,.ireturn,77,none)]]
def cx_68:List (List Jvm.OM.Ent):=[[(0,.iconst 1,1,none),(1,.istore 2,2,none),(2,.iconst 2,3,none),(3,.istore 3,4,none),(4,.iload 3,5,some 4),(5,.iload 1,6,none),(6,.if_icmp .gt 25,9,none),(9,.iload 3,10,none),(10,.iconst 8,12,none),(12,.if_icmp .gt 25,15,none),(15,.iload 2,16,none)],[(16,.iload 3,17,none),(17,.imul,18,none),(18,.istore 2,19,none),(19,.iinc 3 1,22,none),(22,.goto 4,25,none),(25,.iload 2,26,some 4),(26,.ireturn,27,none)]]
def cx_69:List (List Jvm.OM.Ent):=[[(0,.iconst 0,1,none),(1,.istore 1,2,none),(2,.iload 1,3,some 2),(3,.aload 0,4,none),(4,.getfield 18,7,none),(7,.if_icmp .ge 101,10,none),(10,.iload 1,11,none),(11,.iconst 64,13,none),(13,.if_icmp .ge 101,16,none)],[(16,.aload 0,17,none),(17,.getfield 38,20,none),(20,.iload 1,21,none),(21,.iaload,22,none),(22,.istore 2,23,none),(23,.aload 0,24,none),(24,.iload 2,25,none),(25,.invokevirtual 21,28,none),(28,.ifCond .ne 34,31,none),(31,.goto 95,34,none)],[(34,.aload 0,35,none),(35,.getfield 2,38,none),(38,.iload 2,39,none),(39,.iaload,40,none),(40,.ifCond .ne 72,43,none),(43,.aload 0,44,none),(44,.getfield 59,47,none),(47,.iload 2,48,none)],[(48,.iload 2,49,none),(49,.iastore,50,none),(50,.aload 0,51,none),(51,.getfield 62,54,none),(54,.iload 2,55,none),(55,.iload 2,56,none),(56,.iconst 8,58,none),(58,.if_icmp .ge 67,61,none),(61,.iconst 1,62,none),(62,.iload 2,63,none),(63,.ishl,64,none)],[(64,.goto 68,67,none),(67,.iconst 0,68,none),(68,.iastore,69,some 3),(69,.goto 95,72,none),(72,.aload 0,73,none),(73,.getfield 2,76,none),(76,.iload 2,77,none),(77,.iaload,78,none),(78,.iconst 1,79,none),(79,.if_icmp .ne 90,82,none)],[(82,.aload 0,83,none),(83,.iload 2,84,none),(84,.invokevirtual 70,87,none),(87,.goto 95,90,none),(90,.aload 0,91,none),(91,.iload 2,92,none),(92,.invokevirtual 71,95,none),(95,.iinc 1 1,98,some 3)],[(98,.goto 2,101,none),(101,.return_,102,some 2)]]
def cx_70:List (List Jvm.OM.Ent):=[[(0,.iconst 64,2,none),(2,.istore 2,3,none),(3,.iconst 0,4,none),(4,.istore 3,5,none),(5,.aload 0,6,none),(6,.iload 1,7,none),(7,.invokevirtual 23,10,none),(10,.istore 4,12,none),(12,.iconst 0,13,none),(13,.istore 5,15,none),(15,.iload 5,17,some 6)],[(17,.iload 4,19,none),(19,.if_icmp .ge 82,22,none),(22,.iload 5,24,none),(24,.iconst 8,26,none),(26,.if_icmp .ge 82,29,none),(29,.aload 0,30,none),(30,.iload 1,31,none),(31,.iload 5,33,none)],[(33,.invokevirtual 24,36,none),(36,.istore 6,38,none),(38,.aload 0,39,none),(39,.iload 6,41,none),(41,.invokevirtual 21,44,none),(44,.ifCond .eq 76,47,none),(47,.aload 0,48,none)],[(48,.getfield 59,51,none),(51,.iload 6,53,none),(53,.iaload,54,none),(54,.iload 2,55,none),(55,.if_icmp .ge 66,58,none),(58,.aload 0,59,none),(59,.getfield 59,62,none),(62,.iload 6,64,none)],[(64,.iaload,65,none),(65,.istore 2,66,none),(66,.iload 3,67,some 7),(67,.aload 0,68,none),(68,.getfield 62,71,none),(71,.iload 6,73,none),(73,.iaload,74,none),(74,.ior,75,none),(75,.istore 3,76,none),(76,.iinc 5 1,79,some 7),(79,.goto 15,82,none)],[(82,.aload 0,83,some 6),(83,.getfield 59,86,none),(86,.iload 1,87,none),(87,.iload 2,88,none),(88,.iastore,89,none),(89,.aload 0,90,none),(90,.getfield 62,93,none),(93,.iload 1,94,none),(94,.iload 3,95,none),(95,.iastore,96,none)],[(96,.return_,97,none)]]
def cx_71:List (List Jvm.OM.Ent):=[[(0,.aload 0,1,none),(1,.iload 1,2,none),(2,.invokevirtual 23,5,none),(5,.istore 2,6,none),(6,.aload 0,7,none),(7,.iload 1,8,none),(8,.iconst 0,9,none),(9,.invokevirtual 24,12,none),(12,.istore 3,13,none),(13,.aload 0,14,none),(14,.iload 1,15,none),(15,.iload 2,16,none)],[(16,.iconst 1,17,none),(17,.isub,18,none),(18,.invokevirtual 24,21,none),(21,.istore 4,23,none),(23,.aload 0,24,none),(24,.iload 3,25,none),(25,.invokevirtual 27,28,none),(28,.istore 5,30,none),(30,.aload 0,31,none),(31,.iload 4,33,none)],[(33,.invokevirtual 27,36,none),(36,.istore 6,38,none),(38,.aload 0,39,none),(39,.getfield 59,42,none),(42,.iload 1,43,none),(43,.iload 5,45,none),(45,.iload 6,47,none),(47,.if_icmp .ge 55,50,none)],[(50,.iload 5,52,none),(52,.goto 57,55,none),(55,.iload 6,57,none),(57,.iastore,58,some 7),(58,.aload 0,59,none),(59,.iload 3,60,none),(60,.invokevirtual 28,63,none),(63,.istore 7,65,none)],[(65,.aload 0,66,none),(66,.iload 4,68,none),(68,.invokevirtual 28,71,none),(71,.istore 8,73,none),(73,.aload 0,74,none),(74,.getfield 62,77,none),(77,.iload 1,78,none),(78,.iload 7,80,none)],[(80,.iload 8,82,none),(82,.ior,83,none),(83,.iastore,84,none),(84,.return_,85,none)]]
def cx_72:List (List Jvm.OM.Ent):=[[(0,.iconst 0,1,none),(1,.istore 1,2,none),(2,.iload 1,3,some 2),(3,.iconst 8,5,none),(5,.if_icmp .ge 28,8,none),(8,.aload 0,9,none),(9,.getfield 65,12,none),(12,.iload 1,13,none),(13,.iconst (-1),14,none),(14,.iastore,15,none),(15,.aload 0,16,none)],[(16,.getfield 68,19,none),(19,.iload 1,20,none),(20,.iconst (-1),21,none),(21,.iastore,22,none),(22,.iinc 1 1,25,none),(25,.goto 2,28,none),(28,.aload 0,29,none),(29,.aload 0,30,none),(30,.getfield 12,33,none)],[(33,.invokevirtual 21,36,none),(36,.ifCond .ne 40,39,none),(39,.return_,40,none),(40,.aload 0,41,none),(41,.getfield 41,44,none),(44,.iconst 0,45,none),(45,.aload 0,46,none),(46,.getfield 12,49,none)],[(49,.iastore,50,none),(50,.iconst 1,51,none),(51,.istore 1,52,none),(52,.iconst 0,53,none),(53,.istore 2,54,none),(54,.iconst 0,55,none),(55,.istore 3,56,none),(56,.iload 3,57,some 4),(57,.iconst 1024,60,none),(60,.if_icmp .ge 163,63,none),(63,.iload 1,64,none)],[(64,.ifCond .le 163,67,none),(67,.iinc 1 (-1),70,none),(70,.aload 0,71,none),(71,.getfield 41,74,none),(74,.iload 1,75,none),(75,.iaload,76,none),(76,.istore 4,78,none),(78,.aload 0,79,none),(79,.iload 4,81,none)],[(81,.invokevirtual 21,84,none),(84,.ifCond .ne 90,87,none),(87,.goto 157,90,none),(90,.aload 0,91,none),(91,.getfield 2,94,none),(94,.iload 4,96,none)],[(96,.iaload,97,none),(97,.ifCond .ne 127,100,none),(100,.iload 2,101,none),(101,.iconst 8,103,none),(103,.if_icmp .ge 157,106,none),(106,.iload 4,108,none),(108,.iconst 8,110,none),(110,.if_icmp .ge 157,113,none)],[(113,.aload 0,114,none),(114,.getfield 65,117,none),(117,.iload 2,118,none),(118,.iload 4,120,none),(120,.iastore,121,none),(121,.iinc 2 1,124,none),(124,.goto 157,127,none),(127,.aload 0,128,none)],[(128,.getfield 2,131,none),(131,.iload 4,133,none),(133,.iaload,134,none),(134,.iconst 1,135,none),(135,.if_icmp .ne 149,138,none),(138,.aload 0,139,none),(139,.iload 4,141,none),(141,.iload 1,142,none),(142,.invokevirtual 73,145,none)],[(145,.istore 1,146,none),(146,.goto 157,149,none),(149,.aload 0,150,none),(150,.iload 4,152,none),(152,.iload 1,153,none),(153,.invokevirtual 74,156,none),(156,.istore 1,157,none),(157,.iinc 3 1,160,some 5)],[(160,.goto 56,163,none),(163,.aload 0,164,some 4),(164,.invokevirtual 75,167,none),(167,.return_,168,none)]]
def cx_73:List (List Jvm.OM.Ent):=[[(0,.aload 0,1,none),(1,.iload 1,2,none),(2,.invokevirtual 23,5,none),(5,.istore 3,6,none),(6,.iconst 0,7,none),(7,.istore 4,9,none),(9,.iload 2,10,none),(10,.istore 5,12,none),(12,.iconst 0,13,none),(13,.istore 6,15,none),(15,.iload 6,17,some 7)],[(17,.iload 3,18,none),(18,.if_icmp .ge 166,21,none),(21,.iload 6,23,none),(23,.iconst 8,25,none),(25,.if_icmp .ge 166,28,none),(28,.iconst (-1),29,none),(29,.istore 7,31,none),(31,.iconst (-1),32,none)],[(32,.istore 8,34,none),(34,.iconst 0,35,none),(35,.istore 9,37,none),(37,.iload 9,39,some 10),(39,.iload 3,40,none),(40,.if_icmp .ge 114,43,none),(43,.iload 9,45,none),(45,.iconst 8,47,none),(47,.if_icmp .ge 114,50,none)],[(50,.aload 0,51,none),(51,.iload 1,52,none),(52,.iload 9,54,none),(54,.invokevirtual 24,57,none),(57,.istore 10,59,none),(59,.iload 4,61,none),(61,.iload 9,63,none),(63,.ishr,64,none)],[(64,.iconst 1,65,none),(65,.iand,66,none),(66,.ifCond .ne 108,69,none),(69,.aload 0,70,none),(70,.iload 10,72,none),(72,.invokevirtual 21,75,none),(75,.ifCond .eq 108,78,none),(78,.iload 7,80,none)],[(80,.ifCond .lt 95,83,none),(83,.aload 0,84,none),(84,.getfield 59,87,none),(87,.iload 10,89,none),(89,.iaload,90,none),(90,.iload 8,92,none),(92,.if_icmp .le 108,95,none),(95,.iload 9,97,some 11)],[(97,.istore 7,99,none),(99,.aload 0,100,none),(100,.getfield 59,103,none),(103,.iload 10,105,none),(105,.iaload,106,none),(106,.istore 8,108,none),(108,.iinc 9 1,111,some 11),(111,.goto 37,114,none)],[(114,.iload 7,116,some 10),(116,.ifCond .ge 122,119,none),(119,.iload 5,121,none),(121,.ireturn,122,none),(122,.iload 4,124,none),(124,.iconst 1,125,none),(125,.iload 7,127,none),(127,.ishl,128,none)],[(128,.ior,129,none),(129,.istore 4,131,none),(131,.aload 0,132,none),(132,.iload 1,133,none),(133,.iload 7,135,none),(135,.invokevirtual 24,138,none),(138,.istore 9,140,none),(140,.iload 5,142,none),(142,.iconst 128,145,none)],[(145,.if_icmp .ge 160,148,none),(148,.aload 0,149,none),(149,.getfield 41,152,none),(152,.iload 5,154,none),(154,.iload 9,156,none),(156,.iastore,157,none),(157,.iinc 5 1,160,none)],[(160,.iinc 6 1,163,some 10),(163,.goto 15,166,none),(166,.iload 5,168,some 7),(168,.ireturn,169,none)]]
def cx_74:List (List Jvm.OM.Ent):=[[(0,.aload 0,1,none),(1,.iload 1,2,none),(2,.invokevirtual 23,5,none),(5,.istore 3,6,none),(6,.iload 3,7,none),(7,.ifCond .gt 12,10,none),(10,.iload 2,11,none),(11,.ireturn,12,none),(12,.aload 0,13,none),(13,.iload 1,14,none),(14,.iconst 0,15,none),(15,.invokevirtual 24,18,none)],[(18,.istore 4,20,none),(20,.aload 0,21,none),(21,.iload 1,22,none),(22,.iload 3,23,none),(23,.iconst 1,24,none),(24,.isub,25,none),(25,.invokevirtual 24,28,none),(28,.istore 5,30,none),(30,.aload 0,31,none),(31,.iload 4,33,none)],[(33,.invokevirtual 27,36,none),(36,.istore 6,38,none),(38,.aload 0,39,none),(39,.iload 5,41,none),(41,.invokevirtual 27,44,none),(44,.istore 7,46,none),(46,.iload 2,47,none),(47,.istore 8,49,none)],[(49,.iconst 0,50,none),(50,.istore 9,52,none),(52,.iload 9,54,some 10),(54,.iload 3,55,none),(55,.if_icmp .ge 120,58,none),(58,.iload 9,60,none),(60,.iconst 8,62,none),(62,.if_icmp .ge 120,65,none)],[(65,.iload 6,67,none),(67,.iload 7,69,none),(69,.if_icmp .ge 81,72,none),(72,.iload 3,73,none),(73,.iconst 1,74,none),(74,.isub,75,none),(75,.iload 9,77,none),(77,.isub,78,none),(78,.goto 83,81,none)],[(81,.iload 9,83,none),(83,.istore 10,85,some 10),(85,.aload 0,86,none),(86,.iload 1,87,none),(87,.iload 10,89,none),(89,.invokevirtual 24,92,none),(92,.istore 11,94,none),(94,.iload 8,96,none)],[(96,.iconst 128,99,none),(99,.if_icmp .ge 114,102,none),(102,.aload 0,103,none),(103,.getfield 41,106,none),(106,.iload 8,108,none),(108,.iload 11,110,none),(110,.iastore,111,none),(111,.iinc 8 1,114,none)],[(114,.iinc 9 1,117,some 12),(117,.goto 52,120,none),(120,.iload 8,122,some 10),(122,.ireturn,123,none)]]
def cx_75:List (List Jvm.OM.Ent):=[[(0,.iconst 0,1,none),(1,.istore 1,2,none),(2,.iload 1,3,some 2),(3,.aload 0,4,none),(4,.getfield 0,7,none),(7,.if_icmp .ge 46,10,none),(10,.iload 1,11,none),(11,.iconst 8,13,none),(13,.if_icmp .ge 46,16,none)],[(16,.aload 0,17,none),(17,.getfield 65,20,none),(20,.iload 1,21,none),(21,.iaload,22,none),(22,.istore 2,23,none),(23,.iload 2,24,none),(24,.ifCond .lt 40,27,none),(27,.iload 2,28,none),(28,.iconst 8,30,none),(30,.if_icmp .ge 40,33,none)],[(33,.aload 0,34,none),(34,.getfield 68,37,none),(37,.iload 2,38,none),(38,.iload 1,39,none),(39,.iastore,40,none),(40,.iinc 1 1,43,some 3),(43,.goto 2,46,none),(46,.return_,47,some 2)]]
def me_0:Jvm.OM.Mth:=(⟨"PqOnesOrder","<init>","(I)V"⟩,prog_1_method_1_code,3,6,91,none,1,0,false,cx_0.flatten)
def me_1:Jvm.OM.Mth:=(⟨"PqOnesOrder","columns","()I"⟩,prog_1_method_2_code,1,0,0,(some .int),0,0,false,cx_1.flatten)
def me_2:Jvm.OM.Mth:=(⟨"PqOnesOrder","reset","()V"⟩,prog_1_method_3_code,1,5,79,none,0,0,false,cx_2.flatten)
def me_3:Jvm.OM.Mth:=(⟨"PqOnesOrder","clearRow","()V"⟩,prog_1_method_4_code,1,0,0,none,0,0,false,cx_3.flatten)
def me_4:Jvm.OM.Mth:=(⟨"PqOnesOrder","addColumn","(I)Z"⟩,prog_1_method_5_code,2,0,0,(some .boolean),1,0,false,cx_4.flatten)
def me_5:Jvm.OM.Mth:=(⟨"PqOnesOrder","removeColumn","(I)Z"⟩,prog_1_method_6_code,2,0,0,(some .boolean),1,0,false,cx_5.flatten)
def me_6:Jvm.OM.Mth:=(⟨"PqOnesOrder","pendingMask","()I"⟩,prog_1_method_7_code,1,0,0,(some .int),0,0,false,cx_6.flatten)
def me_7:Jvm.OM.Mth:=(⟨"PqOnesOrder","commitRow","()I"⟩,prog_1_method_8_code,4,10,147,(some .int),0,0,false,cx_7.flatten)
def me_8:Jvm.OM.Mth:=(⟨"PqOnesOrder","addRowMask","(I)I"⟩,prog_1_method_9_code,2,10,147,(some .int),1,0,false,cx_8.flatten)
def me_9:Jvm.OM.Mth:=(⟨"PqOnesOrder","classify","(I)I"⟩,prog_1_method_10_code,3,9,133,(some .int),1,0,false,cx_9.flatten)
def me_10:Jvm.OM.Mth:=(⟨"PqOnesOrder","countOrders","()I"⟩,prog_1_method_11_code,1,0,0,(some .int),0,0,false,cx_10.flatten)
def me_11:Jvm.OM.Mth:=(⟨"PqOnesOrder","leastOrderAt","(I)I"⟩,prog_1_method_12_code,2,0,0,(some .int),1,0,false,cx_11.flatten)
def me_12:Jvm.OM.Mth:=(⟨"PqOnesOrder","leastPositionOf","(I)I"⟩,prog_1_method_13_code,2,0,0,(some .int),1,0,false,cx_12.flatten)
def me_13:Jvm.OM.Mth:=(⟨"PqOnesOrder","startMask","()I"⟩,prog_1_method_14_code,1,0,0,(some .int),0,0,false,cx_13.flatten)
def me_14:Jvm.OM.Mth:=(⟨"PqOnesOrder","acceptedRows","()I"⟩,prog_1_method_15_code,1,0,0,(some .int),0,0,false,cx_14.flatten)
def me_15:Jvm.OM.Mth:=(⟨"PqOnesOrder","rejectedRows","()I"⟩,prog_1_method_16_code,1,0,0,(some .int),0,0,false,cx_15.flatten)
def me_16:Jvm.OM.Mth:=(⟨"PqOnesOrder","addMask","(I)I"⟩,prog_1_method_17_code,3,9,133,(some .int),1,0,true,cx_16.flatten)
def me_17:Jvm.OM.Mth:=(⟨"PqOnesOrder","verdict","(I)I"⟩,prog_1_method_18_code,3,8,119,(some .int),1,0,true,cx_17.flatten)
def me_18:Jvm.OM.Mth:=(⟨"PqOnesOrder","allMask","()I"⟩,prog_1_method_19_code,1,0,0,(some .int),0,0,true,cx_18.flatten)
def me_19:Jvm.OM.Mth:=(⟨"PqOnesOrder","inRange","(I)Z"⟩,prog_1_method_20_code,3,1,12,(some .boolean),1,0,true,cx_19.flatten)
def me_20:Jvm.OM.Mth:=(⟨"PqOnesOrder","isTrivial","(I)Z"⟩,prog_1_method_21_code,4,1,12,(some .boolean),1,0,true,cx_20.flatten)
def me_21:Jvm.OM.Mth:=(⟨"PqOnesOrder","isNode","(I)Z"⟩,prog_1_method_22_code,2,0,0,(some .boolean),1,0,true,cx_21.flatten)
def me_22:Jvm.OM.Mth:=(⟨"PqOnesOrder","isInner","(I)Z"⟩,prog_1_method_23_code,2,1,13,(some .boolean),1,0,true,cx_22.flatten)
def me_23:Jvm.OM.Mth:=(⟨"PqOnesOrder","degreeOf","(I)I"⟩,prog_1_method_24_code,3,1,13,(some .int),1,0,true,cx_23.flatten)
def me_24:Jvm.OM.Mth:=(⟨"PqOnesOrder","kidAt","(II)I"⟩,prog_1_method_25_code,3,1,13,(some .int),2,0,true,cx_24.flatten)
def me_25:Jvm.OM.Mth:=(⟨"PqOnesOrder","putKid","(III)V"⟩,prog_1_method_26_code,4,1,13,none,3,0,true,cx_25.flatten)
def me_26:Jvm.OM.Mth:=(⟨"PqOnesOrder","labelOf","(I)I"⟩,prog_1_method_27_code,2,1,13,(some .int),1,0,true,cx_26.flatten)
def me_27:Jvm.OM.Mth:=(⟨"PqOnesOrder","firstLeastOf","(I)I"⟩,prog_1_method_28_code,2,1,13,(some .int),1,0,true,cx_27.flatten)
def me_28:Jvm.OM.Mth:=(⟨"PqOnesOrder","startSetOf","(I)I"⟩,prog_1_method_29_code,2,1,13,(some .int),1,0,true,cx_28.flatten)
def me_29:Jvm.OM.Mth:=(⟨"PqOnesOrder","appendKid","(II)Z"⟩,prog_1_method_30_code,4,1,13,(some .boolean),2,0,true,cx_29.flatten)
def me_30:Jvm.OM.Mth:=(⟨"PqOnesOrder","clearKids","(I)V"⟩,prog_1_method_31_code,4,1,13,none,1,0,true,cx_30.flatten)
def me_31:Jvm.OM.Mth:=(⟨"PqOnesOrder","initTree","()V"⟩,prog_1_method_32_code,2,2,28,none,0,0,true,cx_31.flatten)
def me_32:Jvm.OM.Mth:=(⟨"PqOnesOrder","allocNode","(II)I"⟩,prog_1_method_33_code,4,2,28,(some .int),2,0,true,cx_32.flatten)
def me_33:Jvm.OM.Mth:=(⟨"PqOnesOrder","freeNode","(I)V"⟩,prog_1_method_34_code,2,2,28,none,1,0,true,cx_33.flatten)
def me_34:Jvm.OM.Mth:=(⟨"PqOnesOrder","saveTree","()V"⟩,prog_1_method_35_code,2,0,0,none,0,0,true,cx_34.flatten)
def me_35:Jvm.OM.Mth:=(⟨"PqOnesOrder","restoreTree","()V"⟩,prog_1_method_36_code,2,0,0,none,0,0,true,cx_35.flatten)
def me_36:Jvm.OM.Mth:=(⟨"PqOnesOrder","computePost","()V"⟩,prog_1_method_37_code,7,2,28,none,0,1,true,cx_36.flatten)
def me_37:Jvm.OM.Mth:=(⟨"PqOnesOrder","computeLeafSets","()V"⟩,prog_1_method_38_code,7,2,27,none,0,0,true,cx_37.flatten)
def me_38:Jvm.OM.Mth:=(⟨"PqOnesOrder","collectGarbage","()V"⟩,prog_1_method_39_code,3,3,46,none,0,0,true,cx_38.flatten)
def me_39:Jvm.OM.Mth:=(⟨"PqOnesOrder","normalize","()V"⟩,prog_1_method_40_code,3,3,46,none,0,0,true,cx_39.flatten)
def me_40:Jvm.OM.Mth:=(⟨"PqOnesOrder","findSingleKid","()I"⟩,prog_1_method_41_code,4,2,27,(some .int),0,0,true,cx_40.flatten)
def me_42:Jvm.OM.Mth:=(⟨"PqOnesOrder","reduce","(I)Z"⟩,prog_1_method_43_code,5,7,103,(some .boolean),1,0,true,cx_42.flatten)
def me_43:Jvm.OM.Mth:=(⟨"PqOnesOrder","labelLeaves","(I)V"⟩,prog_1_method_44_code,3,0,0,none,1,0,true,cx_43.flatten)
def me_44:Jvm.OM.Mth:=(⟨"PqOnesOrder","findPertinentRoot","(I)I"⟩,prog_1_method_45_code,4,1,13,(some .int),1,0,true,cx_44.flatten)
def me_45:Jvm.OM.Mth:=(⟨"PqOnesOrder","reduceInner","(I)Z"⟩,prog_1_method_46_code,2,5,77,(some .boolean),1,0,true,cx_45.flatten)
def me_46:Jvm.OM.Mth:=(⟨"PqOnesOrder","reduceRoot","(I)Z"⟩,prog_1_method_47_code,2,6,90,(some .boolean),1,0,true,cx_46.flatten)
def me_47:Jvm.OM.Mth:=(⟨"PqOnesOrder","sortKids","(I)V"⟩,prog_1_method_48_code,6,2,27,none,1,0,true,cx_47.flatten)
def me_48:Jvm.OM.Mth:=(⟨"PqOnesOrder","groupOf","(Z)I"⟩,prog_1_method_49_code,7,3,43,(some .int),1,0,true,cx_48.flatten)
def me_49:Jvm.OM.Mth:=(⟨"PqOnesOrder","seqStart","()V"⟩,prog_1_method_50_code,1,0,0,none,0,0,true,cx_49.flatten)
def me_50:Jvm.OM.Mth:=(⟨"PqOnesOrder","seqPush","(I)V"⟩,prog_1_method_51_code,2,0,0,none,1,0,true,cx_50.flatten)
def me_51:Jvm.OM.Mth:=(⟨"PqOnesOrder","seqPushEmpties","()V"⟩,prog_1_method_52_code,2,1,13,none,0,0,true,cx_51.flatten)
def me_52:Jvm.OM.Mth:=(⟨"PqOnesOrder","seqPushKids","(IZ)V"⟩,prog_1_method_53_code,7,2,27,none,2,0,true,cx_52.flatten)
def me_53:Jvm.OM.Mth:=(⟨"PqOnesOrder","installSeq","(I)Z"⟩,prog_1_method_54_code,3,2,28,(some .boolean),1,0,true,cx_53.flatten)
def me_54:Jvm.OM.Mth:=(⟨"PqOnesOrder","reverseKids","(I)V"⟩,prog_1_method_55_code,7,2,28,none,1,0,true,cx_54.flatten)
def me_55:Jvm.OM.Mth:=(⟨"PqOnesOrder","rankOf","(I)I"⟩,prog_1_method_56_code,2,0,0,(some .int),1,0,true,cx_55.flatten)
def me_56:Jvm.OM.Mth:=(⟨"PqOnesOrder","direction","(I)I"⟩,prog_1_method_57_code,10,2,27,(some .int),1,0,true,cx_56.flatten)
def me_57:Jvm.OM.Mth:=(⟨"PqOnesOrder","pInner","(I)Z"⟩,prog_1_method_58_code,5,4,61,(some .boolean),1,0,true,cx_57.flatten)
def me_58:Jvm.OM.Mth:=(⟨"PqOnesOrder","qInner","(I)Z"⟩,prog_1_method_59_code,7,3,48,(some .boolean),1,0,true,cx_58.flatten)
def me_59:Jvm.OM.Mth:=(⟨"PqOnesOrder","pRoot","(I)Z"⟩,prog_1_method_60_code,2,5,77,(some .boolean),1,0,true,cx_59.flatten)
def me_60:Jvm.OM.Mth:=(⟨"PqOnesOrder","pRootNoPartial","(I)Z"⟩,prog_1_method_61_code,3,4,61,(some .boolean),1,0,true,cx_60.flatten)
def me_61:Jvm.OM.Mth:=(⟨"PqOnesOrder","pRootOnePartial","(I)Z"⟩,prog_1_method_62_code,4,4,61,(some .boolean),1,0,true,cx_61.flatten)
def me_62:Jvm.OM.Mth:=(⟨"PqOnesOrder","pRootTwoPartial","(I)Z"⟩,prog_1_method_63_code,5,4,61,(some .boolean),1,0,true,cx_62.flatten)
def me_63:Jvm.OM.Mth:=(⟨"PqOnesOrder","firstNonEmpty","(I)I"⟩,prog_1_method_64_code,5,2,27,(some .int),1,0,true,cx_63.flatten)
def me_64:Jvm.OM.Mth:=(⟨"PqOnesOrder","lastNonEmpty","(I)I"⟩,prog_1_method_65_code,5,2,27,(some .int),1,0,true,cx_64.flatten)
def me_65:Jvm.OM.Mth:=(⟨"PqOnesOrder","qRoot","(I)Z"⟩,prog_1_method_66_code,9,3,45,(some .boolean),1,0,true,cx_65.flatten)
def me_66:Jvm.OM.Mth:=(⟨"PqOnesOrder","refreshCaches","()V"⟩,prog_1_method_67_code,1,4,67,none,0,1,true,cx_66.flatten)
def me_67:Jvm.OM.Mth:=(⟨"PqOnesOrder","countFromPost","()I"⟩,prog_1_method_68_code,5,2,28,(some .int),0,1,true,cx_67.flatten)
def me_68:Jvm.OM.Mth:=(⟨"PqOnesOrder","factorial","(I)I"⟩,prog_1_method_69_code,4,0,0,(some .int),1,0,true,cx_68.flatten)
def me_69:Jvm.OM.Mth:=(⟨"PqOnesOrder","computeFirstAndStart","()V"⟩,prog_1_method_70_code,3,3,47,none,0,0,true,cx_69.flatten)
def me_70:Jvm.OM.Mth:=(⟨"PqOnesOrder","pFirstStart","(I)V"⟩,prog_1_method_71_code,7,2,27,none,1,0,true,cx_70.flatten)
def me_71:Jvm.OM.Mth:=(⟨"PqOnesOrder","qFirstStart","(I)V"⟩,prog_1_method_72_code,9,2,27,none,1,0,true,cx_71.flatten)
def me_72:Jvm.OM.Mth:=(⟨"PqOnesOrder","buildLeastOrder","()V"⟩,prog_1_method_73_code,5,3,50,none,0,0,true,cx_72.flatten)
def me_73:Jvm.OM.Mth:=(⟨"PqOnesOrder","pushPOrdered","(II)I"⟩,prog_1_method_74_code,11,2,27,(some .int),2,0,true,cx_73.flatten)
def me_74:Jvm.OM.Mth:=(⟨"PqOnesOrder","pushQOrdered","(II)I"⟩,prog_1_method_75_code,12,2,27,(some .int),2,0,true,cx_74.flatten)
def me_75:Jvm.OM.Mth:=(⟨"PqOnesOrder","fillPositions","()V"⟩,prog_1_method_76_code,3,0,0,none,0,0,true,cx_75.flatten)
def ms1:List Jvm.OM.Mth:=[me_0,me_1,me_2,me_3,me_4,me_5,me_6,me_7,me_8,me_9,me_10,me_11,me_12,me_13,me_14,me_15,me_16,me_17,me_18,me_19,me_20,me_21,me_22,me_23,me_24,me_25,me_26,me_27,me_28,me_29,me_30,me_31,me_32,me_33,me_34,me_35,me_36,me_37,me_38,me_39,me_40,Jvm.OM.m0,me_42,me_43,me_44,me_45,me_46,me_47,me_48,me_49,me_50,me_51,me_52,me_53,me_54,me_55,me_56,me_57,me_58,me_59,me_60,me_61,me_62,me_63,me_64,me_65,me_66,me_67,me_68,me_69,me_70,me_71,me_72,me_73,me_74,me_75]
def fds1:List (String×String×Nat):=[("n","I",0),("kind","[I",2),("pending","I",3),("parent","[I",5),("acceptedCount","I",6),("degree","[I",8),("rejectedCount","I",9),("kids","[I",11),("root","I",12),("live","[Z",14),("savedRoot","I",15),("savedKind","[I",17),("postLen","I",18),("savedParent","[I",20),("seqLen","I",21),("savedDegree","[I",23),("emptyCount","I",24),("savedKids","[I",26),("fullCount","I",27),("savedLive","[Z",29),("partCount","I",30),("label","[I",32),("orderCount","I",33),("leafSet","[I",35),("startCols","I",36),("post","[I",38),("stackNode","[I",41),("stackIdx","[I",44),("seq","[I",47),("emptyKids","[I",50),("fullKids","[I",53),("partKids","[I",56),("firstLeast","[I",59),("startSet","[I",62),("least","[I",65),("leastPos","[I",68)]
def arr1:List (FieldType×Nat):=[(.int,64),(.int,64),(.int,64),(.int,512),(.boolean,64),(.int,64),(.int,64),(.int,64),(.int,512),(.boolean,64),(.int,64),(.int,64),(.int,64),(.int,128),(.int,128),(.int,16),(.int,8),(.int,8),(.int,8),(.int,64),(.int,64),(.int,8),(.int,8)]
def cls1:Jvm.OM.Cls:=("PqOnesOrder",42,[("leafKind","I"),("pKind","I"),("qKind","I"),("emptyLabel","I"),("fullLabel","I"),("partialLabel","I")],fds1,arr1,true,[(none,7,"leafKind","I"),(none,13,"pKind","I"),(none,16,"qKind","I"),(none,19,"emptyLabel","I"),(none,22,"fullLabel","I"),(none,25,"partialLabel","I"),(some .int,28,"kind","[I"),(some .int,32,"parent","[I"),(some .int,35,"degree","[I"),(some .int,38,"kids","[I"),(some .boolean,41,"live","[Z"),(some .int,45,"savedKind","[I"),(some .int,48,"savedParent","[I"),(some .int,51,"savedDegree","[I"),(some .int,54,"savedKids","[I"),(some .boolean,57,"savedLive","[Z"),(some .int,60,"label","[I"),(some .int,63,"leafSet","[I"),(some .int,66,"post","[I"),(some .int,69,"stackNode","[I"),(some .int,72,"stackIdx","[I"),(some .int,75,"seq","[I"),(some .int,78,"emptyKids","[I"),(some .int,81,"fullKids","[I"),(some .int,84,"partKids","[I"),(some .int,87,"firstLeast","[I"),(some .int,90,"startSet","[I"),(some .int,93,"least","[I"),(some .int,96,"leastPos","[I")],222,1,[],tb1,ms1)
def tb2:Jvm.OM.Tabs:=([],[(7,11),(13,12),(19,4),(23,5),(26,9),(29,7),(33,8),(36,3),(39,2),(42,10),(45,1),(48,6),(51,14),(54,15),(67,13)],[(57,1),(63,2)],[],[],[(8,0)],[(16,0)])
def cl_0:List (List Jvm.OM.Ent):=[[(0,.new 0,3,none),(3,.dup,4,none),(4,.iconst 6,6,none),(6,.invokespecial 0,9,none),(9,.astore 1,10,none),(10,.iconst 0,11,none),(11,.istore 2,12,none),(12,.iconst 0,13,none),(13,.istore 3,14,none),(14,.iconst 0,15,none),(15,.istore 4,17,none)],[(17,.iconst 720,20,none),(20,.istore 5,22,none),(22,.iconst 0,23,none),(23,.istore 6,25,none),(25,.iconst 0,26,none),(26,.istore 7,28,none),(28,.iload 7,30,some 8),(30,.iconst 1,31,none),(31,.iadd,32,none)],[(32,.aload 0,33,none),(33,.arraylength,34,none),(34,.if_icmp .ge 548,37,none),(37,.aload 0,38,none),(38,.iload 7,40,none),(40,.iaload,41,none),(41,.iconst 7,43,none),(43,.iand,44,none),(44,.istore 8,46,none),(46,.aload 0,47,none),(47,.iload 7,49,none)],[(49,.iconst 1,50,none),(50,.iadd,51,none),(51,.iaload,52,none),(52,.istore 9,54,none),(54,.iconst (-1),55,none),(55,.istore 10,57,none),(57,.iconst 0,58,none),(58,.istore 11,60,none),(60,.iconst 0,61,none),(61,.istore 12,63,none),(63,.iload 8,65,none)],[(65,.ifCond .eq 75,68,none),(68,.iload 8,70,none),(70,.iconst 6,72,none),(72,.if_icmp .ne 133,75,none),(75,.iload 9,77,some 13),(77,.iconst 7,79,none),(79,.iand,80,none)],[(80,.istore 13,82,none),(82,.iload 13,84,none),(84,.iconst 6,86,none),(86,.if_icmp .ge 102,89,none),(89,.iload 2,90,none),(90,.iload 13,92,none),(92,.ishr,93,none),(93,.iconst 1,94,none),(94,.iand,95,none),(95,.ifCond .ne 102,98,none)],[(98,.iconst 1,99,none),(99,.goto 103,102,none),(102,.iconst 0,103,some 14),(103,.istore 14,105,some 14),(105,.aload 1,106,none),(106,.iload 13,108,none),(108,.invokevirtual 4,111,none),(111,.iload 14,113,none)],[(113,.if_icmp .eq 118,116,none),(116,.iconst 0,117,none),(117,.ireturn,118,none),(118,.iload 14,120,none),(120,.ifCond .eq 130,123,none),(123,.iload 2,124,none),(124,.iconst 1,125,none),(125,.iload 13,127,none),(127,.ishl,128,none)],[(128,.ior,129,none),(129,.istore 2,130,none),(130,.goto 347,133,some 15),(133,.iload 8,135,none),(135,.iconst 1,136,none),(136,.if_icmp .ne 200,139,none),(139,.iload 9,141,none),(141,.iconst 7,143,none),(143,.iand,144,none)],[(144,.istore 13,146,none),(146,.iload 13,148,none),(148,.iconst 6,150,none),(150,.if_icmp .ge 167,153,none),(153,.iload 2,154,none),(154,.iload 13,156,none),(156,.ishr,157,none),(157,.iconst 1,158,none),(158,.iand,159,none),(159,.iconst 1,160,none)],[(160,.if_icmp .ne 167,163,none),(163,.iconst 1,164,none),(164,.goto 168,167,none),(167,.iconst 0,168,some 14),(168,.istore 14,170,some 14),(170,.aload 1,171,none),(171,.iload 13,173,none),(173,.invokevirtual 5,176,none)],[(176,.iload 14,178,none),(178,.if_icmp .eq 183,181,none),(181,.iconst 0,182,none),(182,.ireturn,183,none),(183,.iload 14,185,none),(185,.ifCond .eq 197,188,none),(188,.iload 2,189,none),(189,.iconst 1,190,none),(190,.iload 13,192,none)],[(192,.ishl,193,none),(193,.iconst (-1),194,none),(194,.ixor,195,none),(195,.iand,196,none),(196,.istore 2,197,none),(197,.goto 347,200,some 15),(200,.iload 8,202,none),(202,.iconst 2,203,none),(203,.if_icmp .eq 213,206,none),(206,.iload 8,208,none)],[(208,.iconst 7,210,none),(210,.if_icmp .ne 235,213,none),(213,.iload 2,214,some 13),(214,.istore 10,216,none),(216,.aload 1,217,none),(217,.iload 10,219,none),(219,.invokevirtual 9,222,none),(222,.istore 11,224,none)],[(224,.aload 1,225,none),(225,.invokevirtual 7,228,none),(228,.istore 12,230,none),(230,.iconst 0,231,none),(231,.istore 2,232,none),(232,.goto 347,235,none),(235,.iload 8,237,none),(237,.iconst 3,238,none),(238,.if_icmp .ne 305,241,none)],[(241,.iload 9,243,none),(243,.iconst 1023,246,none),(246,.iand,247,none),(247,.istore 10,249,none),(249,.iload 10,251,none),(251,.iconst 1000,254,none),(254,.if_icmp .ge 264,257,none)],[(257,.iload 10,259,none),(259,.iconst 63,261,none),(261,.iand,262,none),(262,.istore 10,264,none),(264,.aload 1,265,some 13),(265,.iload 10,267,none),(267,.invokevirtual 9,270,none),(270,.istore 11,272,none)],[(272,.aload 1,273,none),(273,.iload 10,275,none),(275,.invokevirtual 8,278,none),(278,.istore 12,280,none),(280,.iload 10,282,none),(282,.iconst 63,284,none),(284,.if_icmp .le 347,287,none),(287,.iload 11,289,none)],[(289,.ifCond .ne 297,292,none),(292,.iload 12,294,none),(294,.ifCond .eq 299,297,none),(297,.iconst 0,298,some 13),(298,.ireturn,299,none),(299,.iconst (-1),300,none),(300,.istore 10,302,none),(302,.goto 347,305,none)],[(305,.iload 8,307,none),(307,.iconst 4,308,none),(308,.if_icmp .eq 319,311,none),(311,.iload 9,313,none),(313,.iconst 7,315,none),(315,.iand,316,none),(316,.ifCond .eq 328,319,none),(319,.aload 1,320,some 13)],[(320,.invokevirtual 3,323,none),(323,.iconst 0,324,none),(324,.istore 2,325,none),(325,.goto 347,328,none),(328,.aload 1,329,none),(329,.invokevirtual 2,332,none),(332,.iconst 0,333,none),(333,.istore 2,334,none),(334,.iconst 0,335,none),(335,.istore 3,336,none)],[(336,.iconst 0,337,none),(337,.istore 4,339,none),(339,.iconst 720,342,none),(342,.istore 5,344,none),(344,.iconst 0,345,none),(345,.istore 6,347,none),(347,.iload 10,349,some 13),(349,.ifCond .lt 426,352,none)],[(352,.aload 1,353,none),(353,.invokevirtual 10,356,none),(356,.istore 13,358,none),(358,.iload 12,360,none),(360,.iload 11,362,none),(362,.if_icmp .eq 367,365,none),(365,.iconst 0,366,none),(366,.ireturn,367,none),(367,.iload 12,369,none)],[(369,.iconst 1,370,none),(370,.if_icmp .ne 396,373,none),(373,.iload 13,375,none),(375,.iload 5,377,none),(377,.if_icmp .lt 382,380,none),(380,.iconst 0,381,none),(381,.ireturn,382,none),(382,.iinc 3 1,385,none)],[(385,.iload 13,387,none),(387,.istore 5,389,none),(389,.iload 10,391,none),(391,.istore 6,393,none),(393,.goto 426,396,none),(396,.iload 12,398,none),(398,.iconst 2,399,none),(399,.if_icmp .ne 412,402,none)],[(402,.iinc 3 1,405,none),(405,.iload 10,407,none),(407,.istore 6,409,none),(409,.goto 426,412,none),(412,.iload 12,414,none),(414,.iconst 3,415,none),(415,.if_icmp .ne 424,418,none)],[(418,.iinc 4 1,421,none),(421,.goto 426,424,none),(424,.iconst 0,425,none),(425,.ireturn,426,none),(426,.aload 1,427,some 13),(427,.invokevirtual 1,430,none),(430,.iconst 6,432,none)],[(432,.if_icmp .ne 443,435,none),(435,.aload 1,436,none),(436,.invokevirtual 6,439,none),(439,.iload 2,440,none),(440,.if_icmp .eq 445,443,none),(443,.iconst 0,444,some 13),(444,.ireturn,445,none),(445,.aload 1,446,none),(446,.invokevirtual 14,449,none)],[(449,.iload 3,450,none),(450,.if_icmp .ne 471,453,none),(453,.aload 1,454,none),(454,.invokevirtual 15,457,none),(457,.iload 4,459,none),(459,.if_icmp .ne 471,462,none),(462,.aload 1,463,none),(463,.invokevirtual 10,466,none)],[(466,.iload 5,468,none),(468,.if_icmp .eq 473,471,none),(471,.iconst 0,472,some 13),(472,.ireturn,473,none),(473,.aload 1,474,none),(474,.invokestatic 1,477,none),(477,.ifCond .ne 482,480,none)],[(480,.iconst 0,481,none),(481,.ireturn,482,none),(482,.aload 1,483,none),(483,.iload 6,485,none),(485,.invokestatic 2,488,none),(488,.ifCond .ne 493,491,none),(491,.iconst 0,492,none),(492,.ireturn,493,none),(493,.aload 1,494,none),(494,.iload 6,496,none)],[(496,.invokevirtual 9,499,none),(499,.iconst 2,500,none),(500,.if_icmp .eq 505,503,none),(503,.iconst 0,504,none),(504,.ireturn,505,none),(505,.aload 1,506,none),(506,.invokevirtual 13,509,none),(509,.istore 13,511,none),(511,.aload 1,512,none)],[(512,.iconst 0,513,none),(513,.invokevirtual 11,516,none),(516,.istore 14,518,none),(518,.iload 13,520,none),(520,.ifCond .le 540,523,none),(523,.iload 13,525,none),(525,.iconst 63,527,none),(527,.if_icmp .gt 540,530,none)],[(530,.iload 13,532,none),(532,.iload 14,534,none),(534,.ishr,535,none),(535,.iconst 1,536,none),(536,.iand,537,none),(537,.ifCond .ne 542,540,none),(540,.iconst 0,541,some 15),(541,.ireturn,542,none),(542,.iinc 7 2,545,none)],[(545,.goto 28,548,none),(548,.iconst 1,549,none),(549,.ireturn,550,none)]]
def cl_1:List (List Jvm.OM.Ent):=[[(0,.iconst 0,1,none),(1,.istore 1,2,none),(2,.iconst 0,3,none),(3,.istore 2,4,none),(4,.iload 2,5,some 3),(5,.iconst 6,7,none),(7,.if_icmp .ge 51,10,none),(10,.aload 0,11,none),(11,.iload 2,12,none),(12,.invokevirtual 11,15,none),(15,.istore 3,16,none)],[(16,.iload 3,17,none),(17,.ifCond .lt 26,20,none),(20,.iload 3,21,none),(21,.iconst 6,23,none),(23,.if_icmp .lt 28,26,none),(26,.iconst 0,27,some 4),(27,.ireturn,28,none),(28,.aload 0,29,none),(29,.iload 3,30,none),(30,.invokevirtual 12,33,none)],[(33,.iload 2,34,none),(34,.if_icmp .eq 39,37,none),(37,.iconst 0,38,none),(38,.ireturn,39,none),(39,.iload 1,40,none),(40,.iconst 1,41,none),(41,.iload 3,42,none),(42,.ishl,43,none),(43,.ior,44,none),(44,.istore 1,45,none),(45,.iinc 2 1,48,none)],[(48,.goto 4,51,none),(51,.iload 1,52,none),(52,.iconst 63,54,none),(54,.if_icmp .ne 81,57,none),(57,.aload 0,58,none),(58,.iconst 6,60,none),(60,.invokevirtual 11,63,none),(63,.iconst (-1),64,none)],[(64,.if_icmp .ne 81,67,none),(67,.aload 0,68,none),(68,.iconst 6,70,none),(70,.invokevirtual 12,73,none),(73,.iconst (-1),74,none),(74,.if_icmp .ne 81,77,none),(77,.iconst 1,78,none),(78,.goto 82,81,none)],[(81,.iconst 0,82,some 3),(82,.ireturn,83,some 3)]]
def cl_2:List (List Jvm.OM.Ent):=[[(0,.iconst (-1),1,none),(1,.istore 2,2,none),(2,.iconst (-1),3,none),(3,.istore 3,4,none),(4,.iconst 0,5,none),(5,.istore 4,7,none),(7,.iconst 0,8,none),(8,.istore 5,10,none),(10,.iload 5,12,some 6),(12,.iconst 6,14,none),(14,.if_icmp .ge 54,17,none)],[(17,.aload 0,18,none),(18,.iload 5,20,none),(20,.invokevirtual 11,23,none),(23,.istore 6,25,none),(25,.iload 1,26,none),(26,.iload 6,28,none),(28,.ishr,29,none),(29,.iconst 1,30,none),(30,.iand,31,none),(31,.iconst 1,32,none)],[(32,.if_icmp .ne 48,35,none),(35,.iload 2,36,none),(36,.ifCond .ge 42,39,none),(39,.iload 5,41,none),(41,.istore 2,42,none),(42,.iload 5,44,some 7),(44,.istore 3,45,none),(45,.iinc 4 1,48,none)],[(48,.iinc 5 1,51,some 7),(51,.goto 10,54,none),(54,.iload 4,56,none),(56,.ifCond .eq 69,59,none),(59,.iload 3,60,none),(60,.iload 2,61,none),(61,.isub,62,none),(62,.iconst 1,63,none),(63,.iadd,64,none)],[(64,.iload 4,66,none),(66,.if_icmp .ne 73,69,none),(69,.iconst 1,70,some 6),(70,.goto 74,73,none),(73,.iconst 0,74,none),(74,.ireturn,75,some 6)]]
def ml_0:Jvm.OM.Mth:=(⟨"PqOnesOrderL6","law","([I)Z"⟩,code,15,11,163,(some .boolean),1,1,false,cl_0.flatten)
def ml_1:Jvm.OM.Mth:=(⟨"PqOnesOrderL6","perm","(LPqOnesOrder;)Z"⟩,method_2_code,4,1,13,(some .boolean),1,0,false,cl_1.flatten)
def ml_2:Jvm.OM.Mth:=(⟨"PqOnesOrderL6","consec","(LPqOnesOrder;I)Z"⟩,method_3_code,7,1,13,(some .boolean),2,0,false,cl_2.flatten)
def ms2:List Jvm.OM.Mth:=[ml_0,ml_1,ml_2]
def iv1:List (Nat×Int):=[]
abbrev nmax1:Nat:=1
abbrev sc1:Option (List Int32):=none
theorem own_d1:data1 cls1=true:=by decide +kernel
theorem own_g1:goodB tb1 ms1=true:=by decide +kernel
theorem own_r1:roomB ms1 ms1 callVk=true:=by decide +kernel
theorem own_d2:data2 "PqOnesOrder" "PqOnesOrderL6" ms1 ms2 tb2=true:=by decide +kernel
theorem own_g2:goodB tb2 ms2=true:=by decide +kernel
theorem own_rv:roomB ms2 ms1 callVk=true:=by decide +kernel
theorem own_rc:roomB ms2 ms1 callCk=true:=by decide +kernel
theorem own_rs:roomB ms2 ms2 callSk=true:=by decide +kernel
theorem own_hcut{tw:List Jvm.Cond}:∀(n:Nat) {ws:List Jvm.Cond} {is:List Nat},hasB tw (ws.take n) (is.take n)=true->hasB tw (ws.drop n) (is.drop n)=true->hasB tw ws is=true
 |0,ws,is,_,h=>h
 |n+1,[],[],_,h=>rfl
 |n+1,w::ws,i::is,h,h'=>by
  simp only[List.take_succ_cons,hasB,zal] at h
  simp only[List.drop_succ_cons] at h'
  simp only[hasB,zal]
  exact⟨h.1,own_hcut n h.2 h'⟩
 |n+1,[],i::is,h,_=>by
  simp[List.take_succ_cons,hasB] at h
 |n+1,w::ws,[],h,_=>by
  simp[List.take_succ_cons,hasB] at h
def own_is1:List Nat:=[1,2,6,7,8,4,5,70,23,91,25,93,27,95,29,81,32,251,34,105,36,311,38,281,40,283,42,285,44,135,46,141,48,50,52,54,56,58,60,62,64,66,68,10,12,14,16,18,20,22,24,26,28,31,33,35,37,39,41,43,45,47,49,51,53,55,57,59,61,63,65,67,69,90,92,94,134,140,80,250,104,280,282,284,310,9,11,13,15,17,19,22,24,26,28,31,33,35,37,39,41,43,45,47,49,51,53,55,57,59,61,63,65,67,21,21,21,21,30,21,21,21,21,30,21,21,21,21,21,21,21,21,21,21,21,21,21,71,76,96,163,180,159,167,336,171,246,252,100,126,86,82,302,106,110,114,328,348,400,256,260,264,340,268,324,332,344,384,272,372,286,298,316,392,276,294,306,356,320,388,396,290,352,410,312,376,380,118,136,142,130,122,360,364,146,368,150,191,193,190,192,73,75,72,74,407,409,406,408,243,245,242,244,233,235,232,234,196,198,195,197,238,240,237,239,177,179,176,178,156,158,155,157,186,188,185,187,215,217,214,216,220,222,219,221,228,230,227,229,201,203,200,202,206,208,205,207,181,183,182,168,170,169,164,166,165,160,162,161,172,174,173,87,89,88,107,109,108,111,113,112,115,117,116,401,403,402,287,289,288,365,367,366,137,139,138,83,85,84,303,305,304,77,79,78,299,301,300,349,351,350,247,249,248,337,339,338,101,103,102,257,259,258,333,335,334,325,327,326,329,331,330,253,255,254,261,263,262,265,267,266,341,343,342,269,271,270,277,279,278,295,297,296,307,309,308,317,319,318,313,315,314,357,359,358,321,323,322,397,399,398,393,395,394,389,391,390,345,347,346,385,387,386,273,275,274,291,293,292,353,355,354,411,413,412,377,379,378,381,383,382,373,375,374,97,99,98,127,129,128,131,133,132,119,121,120,123,125,124,361,363,362,143,145,144,147,149,148,369,371,370,151,153,152]
theorem own_h1_0:hasB tables_1 ((needs1 cls1).take 60) (own_is1.take 60)=true:=by decide +kernel
theorem own_h1_1:hasB tables_1 (((needs1 cls1).drop 60).take 60) ((own_is1.drop 60).take 60)=true:=by decide +kernel
theorem own_h1_2:hasB tables_1 ((((needs1 cls1).drop 60).drop 60).take 60) (((own_is1.drop 60).drop 60).take 60)=true:=by decide +kernel
theorem own_h1_3:hasB tables_1 (((((needs1 cls1).drop 60).drop 60).drop 60).take 60) ((((own_is1.drop 60).drop 60).drop 60).take 60)=true:=by decide +kernel
theorem own_h1_4:hasB tables_1 ((((((needs1 cls1).drop 60).drop 60).drop 60).drop 60).take 60) (((((own_is1.drop 60).drop 60).drop 60).drop 60).take 60)=true:=by decide +kernel
theorem own_h1_5:hasB tables_1 (((((((needs1 cls1).drop 60).drop 60).drop 60).drop 60).drop 60).take 60) ((((((own_is1.drop 60).drop 60).drop 60).drop 60).drop 60).take 60)=true:=by decide +kernel
theorem own_h1_6:hasB tables_1 ((((((((needs1 cls1).drop 60).drop 60).drop 60).drop 60).drop 60).drop 60).take 60) (((((((own_is1.drop 60).drop 60).drop 60).drop 60).drop 60).drop 60).take 60)=true:=by decide +kernel
theorem own_h1_7:hasB tables_1 ((((((((needs1 cls1).drop 60).drop 60).drop 60).drop 60).drop 60).drop 60).drop 60) (((((((own_is1.drop 60).drop 60).drop 60).drop 60).drop 60).drop 60).drop 60)=true:=by decide +kernel
theorem own_h1:hasB tables_1 (needs1 cls1) own_is1=true:=(own_hcut 60 own_h1_0 (own_hcut 60 own_h1_1 (own_hcut 60 own_h1_2 (own_hcut 60 own_h1_3 (own_hcut 60 own_h1_4 (own_hcut 60 own_h1_5 (own_hcut 60 own_h1_6 own_h1_7)))))))
theorem own_h2:hasB tables_1 (needs2 "PqOnesOrder" "PqOnesOrderL6" ms1 ms2 tb2) [0,3,213,218,241,231,154,236,175,405,404,184,189,194,199,204,226,209,210,211,212,223,224,211,225]=true:=by decide +kernel
theorem k_m2:Int32.ofInt (-2)=(-2):=by decide
theorem k_m1:Int32.ofInt (-1)=(-1):=by decide
theorem k_0:Int32.ofInt 0=0:=by decide
theorem k_1:Int32.ofInt 1=1:=by decide
theorem k_2:Int32.ofInt 2=2:=by decide
theorem k_3:Int32.ofInt 3=3:=by decide
theorem k_4:Int32.ofInt 4=4:=by decide
theorem k_6:Int32.ofInt 6=6:=by decide
theorem k_7:Int32.ofInt 7=7:=by decide
theorem k_8:Int32.ofInt 8=8:=by decide
theorem k_16:Int32.ofInt 16=16:=by decide
theorem k_63:Int32.ofInt 63=63:=by decide
theorem k_64:Int32.ofInt 64=64:=by decide
theorem k_128:Int32.ofInt 128=128:=by decide
theorem k_512:Int32.ofInt 512=512:=by decide
theorem k_720:Int32.ofInt 720=720:=by decide
theorem k_1000:Int32.ofInt 1000=1000:=by decide
theorem k_1023:Int32.ofInt 1023=1023:=by decide
theorem k_1024:Int32.ofInt 1024=1024:=by decide
abbrev Fx(f1:FT1):=Fix1 arr1 ms1 f1
abbrev Fy(xs:List Int32)(f1:FT1)(f2:FT2):=Fix2 ms1 ms2 iv1 222 nmax1 (some xs) f1 f2
theorem Ee{f1}(h:Fx f1)(x1:Int32)(S):f1 (0,222,[.ref 0,.int x1],[],S)=if x1<1 then f1 (0,231,[.ref 0,.int x1,.int 1],[],S) else f1 (0,231,[.ref 0,.int x1,.int x1],[],S):=Jb h rfl rfl<|Je h rfl [.ref 0,.int x1,.int x1]<|Jb h rfl rfl<|Jc h rfl k_1<|Jm h rfl (Jc h rfl k_1<|Je h rfl [.ref 0,.int x1,.int 1] rfl) rfl
theorem Ei{f1}(h:Fx f1)(x1 x2:Int32)(S):f1 (0,231,[.ref 0,.int x1,.int x2],[],S)=if 8<x2 then (f1 (2,0,[.ref 0],[],(upd S 0 0 8))).bind fun q=>f1 (0,249,[.ref 0,.int x1,.int 8],q.1.toList++[],q.2) else (f1 (2,0,[.ref 0],[],(upd S 0 0 x2))).bind fun q=>f1 (0,249,[.ref 0,.int x1,.int x2],q.1.toList++[],q.2):=Jb h rfl rfl<|Jc h rfl k_8<|JO h rfl (Jc h rfl k_8<|Je h rfl [.ref 0,.int x1,.int 8]<|Jd h rfl rfl<|Jb h rfl rfl<|Jw h rfl<|Jd h rfl rfl<|Jf h rfl rfl) (Jd h rfl rfl<|Jb h rfl rfl<|Jw h rfl<|Jd h rfl rfl<|Jf h rfl rfl)
theorem Ej{f1}(h:Fx f1)(x1 x2:Int32)(S):f1 (0,249,[.ref 0,.int x1,.int x2],[],S)=some (none,S):=Jk h rfl
theorem EaR{f1}(h:Fx f1)(S):f1 (2,0,[.ref 0],[],S)=(f1 (31,0,[.ref 0],[],S)).bind fun q=>f1 (2,4,[.ref 0],q.1.toList++[],q.2):=Jd h rfl rfl<|Jf h rfl rfl
theorem EaS{f1}(h:Fx f1)(S):f1 (2,4,[.ref 0],[],S)=(f1 (66,0,[.ref 0],[],(upd (upd (upd S 0 1 0) 0 2 0) 0 3 0))).bind fun q=>f1 (2,23,[.ref 0],q.1.toList++[],q.2):=Jd h rfl rfl<|Jc h rfl k_0<|Jw h rfl<|Jd h rfl rfl<|Jc h rfl k_0<|Jw h rfl<|Jd h rfl rfl<|Jc h rfl k_0<|Jw h rfl<|Jd h rfl rfl<|Jf h rfl rfl
theorem EdN{f1}(h:Fx f1)(S):f1 (2,23,[.ref 0],[],S)=some (none,S):=Jk h rfl
theorem Edk{f1}(h:Fx f1)(S):f1 (31,0,[.ref 0],[],S)=f1 (31,2,[.ref 0,.int 0],[],S):=Jc h rfl k_0<|Je h rfl [.ref 0,.int 0] rfl
theorem Eai{f1}(h:Fx f1)(x1:Int32)(S):f1 (31,2,[.ref 0,.int x1],[],S)=if x1<64 then if inb x1 64=true then f1 (31,2,[.ref 0,.int (x1+1)],[],(upd (upd (upd (upd (upd S 1 (x1).toNatClampNeg 0) 2 (x1).toNatClampNeg (-1)) 3 (x1).toNatClampNeg 0) 5 (x1).toNatClampNeg 0) 11 (x1).toNatClampNeg 0)) else none else f1 (31,51,[.ref 0,.int 0],[],S):=Jb h rfl rfl<|Jc h rfl k_64<|Jm h rfl (Jd h rfl rfl<|Jg h rfl<|Jb h rfl rfl<|Jc h rfl k_0<|Jv h rfl rfl 0 fun i0=>Jd h rfl rfl<|Jg h rfl<|Jb h rfl rfl<|Jc h rfl k_m1<|Jx h rfl rfl (-1) i0<|Jd h rfl rfl<|Jg h rfl<|Jb h rfl rfl<|Jc h rfl k_0<|Jx h rfl rfl 0 i0<|Jd h rfl rfl<|Jg h rfl<|Jb h rfl rfl<|Jc h rfl k_0<|J4 h rfl rfl 0 i0<|Jd h rfl rfl<|Jg h rfl<|Jb h rfl rfl<|Jc h rfl k_0<|Jx h rfl rfl 0 i0<|Jn h rfl k_1 rfl [.ref 0,.int (x1+1)]<|Jh h rfl rfl) (Jc h rfl k_0<|Je h rfl [.ref 0,.int 0] rfl)
theorem EaG{f1}(h:Fx f1)(x1:Int32)(S):f1 (31,51,[.ref 0,.int x1],[],S)=if x1<512 then if inb x1 512=true then f1 (31,51,[.ref 0,.int (x1+1)],[],(upd S 4 (x1).toNatClampNeg (-1))) else none else f1 (31,73,[.ref 0,.int 0],[],S):=Jb h rfl rfl<|Jc h rfl k_512<|Jm h rfl (Jd h rfl rfl<|Jg h rfl<|Jb h rfl rfl<|Jc h rfl k_m1<|Jv h rfl rfl (-1) fun i0=>Jn h rfl k_1 rfl [.ref 0,.int (x1+1)]<|Jh h rfl rfl) (Jc h rfl k_0<|Je h rfl [.ref 0,.int 0] rfl)
theorem Eah{f1}(h:Fx f1)(x1:Int32)(S):f1 (31,73,[.ref 0,.int x1],[],S)=if x1<(S 0 0) then if x1<8 then if inb x1 64=true then f1 (31,73,[.ref 0,.int (x1+1)],[],(upd S 5 (x1).toNatClampNeg 1)) else none else f1 (31,100,[.ref 0,.int x1],[],S) else f1 (31,100,[.ref 0,.int x1],[],S):=Jb h rfl rfl<|Jd h rfl rfl<|Jj h rfl (S 0 0)<|Jm h rfl (Jb h rfl rfl<|Jc h rfl k_8<|Jm h rfl (Jd h rfl rfl<|Jg h rfl<|Jb h rfl rfl<|Jc h rfl k_1<|Jab h rfl rfl 1 fun i0=>Jn h rfl k_1 rfl [.ref 0,.int (x1+1)]<|Jh h rfl rfl) rfl) rfl
theorem Ecv{f1}(h:Fx f1)(x1:Int32)(S):f1 (31,100,[.ref 0,.int x1],[],S)=if (S 0 0)<2 then some (none,(upd S 0 4 0)) else f1 (31,142,[.ref 0,.int 0],[],(upd (upd (upd S 0 4 8) 5 8 1) 1 8 1)):=Jd h rfl rfl<|Jj h rfl (S 0 0)<|Jc h rfl k_2<|Jm h rfl (Jd h rfl rfl<|Jc h rfl k_0<|Jw h rfl<|Jk h rfl) (Jd h rfl rfl<|Jc h rfl k_8<|Jw h rfl<|Jd h rfl rfl<|Jg h rfl<|Jd h rfl rfl<|Jj h rfl 8<|Jc h rfl k_1<|JaD h rfl rfl 1 8<|Jd h rfl rfl<|Jg h rfl<|Jd h rfl rfl<|Jj h rfl 8<|Jc h rfl k_1<|JaC h rfl rfl 1 8<|Jc h rfl k_0<|Je h rfl [.ref 0,.int 0] rfl)
theorem EaF{f1}(h:Fx f1)(x1:Int32)(S):f1 (31,142,[.ref 0,.int x1],[],S)=if x1<(S 0 0) then if x1<8 then (f1 (29,0,[.ref 0,.int (S 0 4),.int x1],[],S)).bind fun q=>f1 (31,165,[.ref 0,.int x1],q.1.toList++[],q.2) else some (none,S) else some (none,S):=Jb h rfl rfl<|Jd h rfl rfl<|Jj h rfl (S 0 0)<|Jm h rfl (Jb h rfl rfl<|Jc h rfl k_8<|Jm h rfl (Jd h rfl rfl<|Jd h rfl rfl<|Jj h rfl (S 0 4)<|Jb h rfl rfl<|Jf h rfl rfl) (Jk h rfl)) (Jk h rfl)
theorem Ea1{f1}(h:Fx f1)(x1 y0:Int32)(S):f1 (31,165,[.ref 0,.int x1],[.int y0],S)=f1 (31,142,[.ref 0,.int (x1+1)],[],S):=JM h rfl<|Jn h rfl k_1 rfl [.ref 0,.int (x1+1)]<|Jh h rfl rfl
theorem EeI{f1}(h:Fx f1)(x1 x2:Int32)(S):f1 (29,0,[.ref 0,.int x1,.int x2],[],S)=(f1 (21,0,[.ref 0,.int x1],[],S)).bind fun q=>f1 (29,5,[.ref 0,.int x1,.int x2],q.1.toList++[],q.2):=Jd h rfl rfl<|Jb h rfl rfl<|Jf h rfl rfl
theorem EbA{f1}(h:Fx f1)(x1 x2 y0:Int32)(S):f1 (29,5,[.ref 0,.int x1,.int x2],[.int y0],S)=if y0=0 then some (some (.int 0),S) else (f1 (21,0,[.ref 0,.int x2],[],S)).bind fun q=>f1 (29,13,[.ref 0,.int x1,.int x2],q.1.toList++[],q.2):=Jy h rfl (Jc h rfl k_0<|Jl h rfl) (Jd h rfl rfl<|Jb h rfl rfl<|Jf h rfl rfl)
theorem Eba{f1}(h:Fx f1)(x1 x2 y0:Int32)(S):f1 (29,13,[.ref 0,.int x1,.int x2],[.int y0],S)=if y0=0 then some (some (.int 0),S) else if inb x1 64=true then if (S 3 (x1).toNatClampNeg)<0 then some (some (.int 0),S) else if (S 3 (x1).toNatClampNeg)<8 then if inb ((x1*8)+(S 3 (x1).toNatClampNeg)) 512=true then if inb x2 64=true then some (some (.int 1),(upd (upd (upd S 4 (((x1*8)+(S 3 (x1).toNatClampNeg))).toNatClampNeg x2) 3 (x1).toNatClampNeg ((S 3 (x1).toNatClampNeg)+1)) 2 (x2).toNatClampNeg x1)) else none else none else some (some (.int 0),S) else none:=Js h rfl (Jc h rfl k_0<|Jl h rfl) (Jd h rfl rfl<|Jg h rfl<|Jb h rfl rfl<|Jo h rfl rfl (S 3 (x1).toNatClampNeg) fun i0=>Je h rfl [.ref 0,.int x1,.int x2,.int (S 3 (x1).toNatClampNeg)]<|Jb h rfl rfl<|JB h rfl (Jc h rfl k_0<|Jl h rfl) (Jb h rfl rfl<|Jc h rfl k_8<|JJ h rfl (Jd h rfl rfl<|Jg h rfl<|Jb h rfl rfl<|Jc h rfl k_8<|Jz h rfl<|Jb h rfl rfl<|Jt h rfl<|Jb h rfl rfl<|Jv h rfl rfl x2 fun i1=>Jd h rfl rfl<|Jg h rfl<|Jb h rfl rfl<|Jb h rfl rfl<|Jc h rfl k_1<|Jt h rfl<|Jx h rfl rfl ((S 3 (x1).toNatClampNeg)+1) i0<|Jd h rfl rfl<|Jg h rfl<|Jb h rfl rfl<|Jb h rfl rfl<|Jv h rfl rfl x1 fun i2=>Jc h rfl k_1<|JC h rfl) (Jc h rfl k_0<|Jl h rfl)))
theorem Eb7{f1}(h:Fx f1)(x1:Int32)(S):f1 (21,0,[.ref 0,.int x1],[],S)=if x1<0 then some (some (.int 0),S) else if x1<64 then some (some (.int 1),S) else some (some (.int 0),S):=Jb h rfl rfl<|JB h rfl (Jc h rfl k_0<|Jl h rfl) (Jb h rfl rfl<|Jc h rfl k_64<|Jm h rfl (Jc h rfl k_1<|Jh h rfl<|JC h rfl) (Jc h rfl k_0<|Jl h rfl))
theorem Ecy{f1}(h:Fx f1)(S):f1 (66,0,[.ref 0],[],S)=(f1 (36,0,[.ref 0],[],S)).bind fun q=>f1 (66,4,[.ref 0],q.1.toList++[],q.2):=Jd h rfl rfl<|Jf h rfl rfl
theorem Eep{f1}(h:Fx f1)(S):f1 (66,4,[.ref 0],[],S)=(f1 (69,0,[.ref 0],[],S)).bind fun q=>f1 (66,8,[.ref 0],q.1.toList++[],q.2):=Jd h rfl rfl<|Jf h rfl rfl
theorem Ea3{f1}(h:Fx f1)(S):f1 (66,8,[.ref 0],[],S)=(f1 (67,0,[.ref 0],[],S)).bind fun q=>f1 (66,13,[.ref 0],q.1.toList++[.ref 0],q.2):=Jd h rfl rfl<|Jd h rfl rfl<|Jf h rfl rfl
theorem EcO{f1}(h:Fx f1)(y0:Int32)(S):f1 (66,13,[.ref 0],[.int y0,.ref 0],S)=(f1 (28,0,[.ref 0,.int (S 0 4)],[],(upd S 0 11 y0))).bind fun q=>f1 (66,25,[.ref 0],q.1.toList++[.ref 0],q.2):=Jw h rfl<|Jd h rfl rfl<|Jd h rfl rfl<|Jd h rfl rfl<|Jj h rfl (S 0 4)<|Jf h rfl rfl
theorem Ee3{f1}(h:Fx f1)(y0:Int32)(S):f1 (66,25,[.ref 0],[.int y0,.ref 0],S)=(f1 (72,0,[.ref 0],[],(upd S 0 12 y0))).bind fun q=>f1 (66,32,[.ref 0],q.1.toList++[],q.2):=Jw h rfl<|Jd h rfl rfl<|Jf h rfl rfl
theorem EaW{f1}(h:Fx f1)(S):f1 (66,32,[.ref 0],[],S)=some (none,S):=Jk h rfl
theorem EcS{f1}(h:Fx f1)(S):f1 (36,0,[.ref 0],[],S)=(f1 (21,0,[.ref 0,.int (S 0 4)],[],(upd S 0 6 0))).bind fun q=>f1 (36,13,[.ref 0],q.1.toList++[],q.2):=Jd h rfl rfl<|Jc h rfl k_0<|Jw h rfl<|Jd h rfl rfl<|Jd h rfl rfl<|Jj h rfl (S 0 4)<|Jf h rfl rfl
theorem EbV{f1}(h:Fx f1)(y0:Int32)(S):f1 (36,13,[.ref 0],[.int y0],S)=if y0=0 then some (none,S) else f1 (36,38,[.ref 0,.int 1,.int 0],[],(upd (upd S 14 0 (S 0 4)) 15 0 0)):=Js h rfl (Jk h rfl) (Jd h rfl rfl<|Jg h rfl<|Jc h rfl k_0<|Jd h rfl rfl<|Jj h rfl (S 0 4)<|JaC h rfl rfl (S 0 4) 0<|Jd h rfl rfl<|Jg h rfl<|Jc h rfl k_0<|Jc h rfl k_0<|JaC h rfl rfl 0 0<|Jc h rfl k_1<|Je h rfl [.ref 0,.int 1]<|Jc h rfl k_0<|Je h rfl [.ref 0,.int 1,.int 0] rfl)
theorem Eaj{f1}(h:Fx f1)(x1 x2:Int32)(S):f1 (36,38,[.ref 0,.int x1,.int x2],[],S)=if x2<1024 then if 0<x1 then if inb (x1-1) 128=true then (f1 (22,0,[.ref 0,.int (S 14 ((x1-1)).toNatClampNeg)],[],S)).bind fun q=>f1 (36,75,[.ref 0,.int x1,.int x2,.int (x1-1),.int (S 14 ((x1-1)).toNatClampNeg),.int (S 15 ((x1-1)).toNatClampNeg)],q.1.toList++[],q.2) else none else some (none,S) else some (none,S):=Jb h rfl rfl<|Jc h rfl k_1024<|Jm h rfl (Jb h rfl rfl<|Jac h rfl (Jb h rfl rfl<|Jc h rfl k_1<|JG h rfl<|Je h rfl [.ref 0,.int x1,.int x2,.int (x1-1)]<|Jd h rfl rfl<|Jg h rfl<|Jb h rfl rfl<|Jo h rfl rfl (S 14 ((x1-1)).toNatClampNeg) fun i0=>Je h rfl [.ref 0,.int x1,.int x2,.int (x1-1),.int (S 14 ((x1-1)).toNatClampNeg)]<|Jd h rfl rfl<|Jg h rfl<|Jb h rfl rfl<|JF h rfl rfl i0 (S 15 ((x1-1)).toNatClampNeg)<|Je h rfl [.ref 0,.int x1,.int x2,.int (x1-1),.int (S 14 ((x1-1)).toNatClampNeg),.int (S 15 ((x1-1)).toNatClampNeg)]<|Jd h rfl rfl<|Jb h rfl rfl<|Jf h rfl rfl) (Jk h rfl)) (Jk h rfl)
theorem Eg{f1}(h:Fx f1)(x1 x2 x3 x4 x5 y0:Int32)(S):f1 (36,75,[.ref 0,.int x1,.int x2,.int x3,.int x4,.int x5],[.int y0],S)=if y0=0 then f1 (36,146,[.ref 0,.int x1,.int x2,.int x3,.int x4,.int x5],[],S) else (f1 (23,0,[.ref 0,.int x4],[],S)).bind fun q=>f1 (36,86,[.ref 0,.int x1,.int x2,.int x3,.int x4,.int x5],q.1.toList++[.int x5],q.2):=Jy h rfl rfl (Jb h rfl rfl<|Jd h rfl rfl<|Jb h rfl rfl<|Jf h rfl rfl)
theorem EO{f1}(h:Fx f1)(x1 x2 x3 x4 x5 y0 y1:Int32)(S):f1 (36,86,[.ref 0,.int x1,.int x2,.int x3,.int x4,.int x5],[.int y0,.int y1],S)=if y1<y0 then if inb x3 128=true then (f1 (24,0,[.ref 0,.int x4,.int x5],[],(upd S 15 (x3).toNatClampNeg (x5+1)))).bind fun q=>f1 (36,107,[.ref 0,.int x1,.int x2,.int x3,.int x4,.int x5],q.1.toList++[],q.2) else none else f1 (36,146,[.ref 0,.int x1,.int x2,.int x3,.int x4,.int x5],[],S):=Jm h rfl (Jd h rfl rfl<|Jg h rfl<|Jb h rfl rfl<|Jb h rfl rfl<|Jc h rfl k_1<|Jt h rfl<|Jv h rfl rfl (x5+1) fun i0=>Jd h rfl rfl<|Jb h rfl rfl<|Jb h rfl rfl<|Jf h rfl rfl) rfl
theorem Ed4{f1}(h:Fx f1)(x1 x2 x3 x4 x5 y0:Int32)(S):f1 (36,107,[.ref 0,.int x1,.int x2,.int x3,.int x4,.int x5],[.int y0],S)=(f1 (21,0,[.ref 0,.int y0],[],S)).bind fun q=>f1 (36,115,[.ref 0,.int x1,.int x2,.int x3,.int x4,.int x5,.int y0],q.1.toList++[],q.2):=Je h rfl [.ref 0,.int x1,.int x2,.int x3,.int x4,.int x5,.int y0]<|Jd h rfl rfl<|Jb h rfl rfl<|Jf h rfl rfl
theorem EbS{f1}(h:Fx f1)(x1 x2 x3 x4 x5 x6 y0:Int32)(S):f1 (36,115,[.ref 0,.int x1,.int x2,.int x3,.int x4,.int x5,.int x6],[.int y0],S)=if y0=0 then f1 (36,38,[.ref 0,.int x1,.int (x2+1)],[],S) else if x1<128 then if inb x1 128=true then f1 (36,38,[.ref 0,.int (x1+1),.int (x2+1)],[],(upd (upd S 14 (x1).toNatClampNeg x6) 15 (x1).toNatClampNeg 0)) else none else f1 (36,38,[.ref 0,.int x1,.int (x2+1)],[],S):=Jy h rfl (Jh h rfl<|Jr h rfl<|Jn h rfl k_1 rfl [.ref 0,.int x1,.int (x2+1),.int x3,.int x4,.int x5]<|Jh h rfl<|Jr h rfl rfl) (Jb h rfl rfl<|Jc h rfl k_128<|Jm h rfl (Jd h rfl rfl<|Jg h rfl<|Jb h rfl rfl<|Jb h rfl rfl<|Jv h rfl rfl x6 fun i0=>Jd h rfl rfl<|Jg h rfl<|Jb h rfl rfl<|Jc h rfl k_0<|Jx h rfl rfl 0 i0<|Jn h rfl k_1 rfl [.ref 0,.int (x1+1),.int x2,.int x3,.int x4,.int x5,.int x6]<|Jh h rfl<|Jr h rfl<|Jn h rfl k_1 rfl [.ref 0,.int (x1+1),.int (x2+1),.int x3,.int x4,.int x5]<|Jh h rfl<|Jr h rfl rfl) (Jh h rfl<|Jr h rfl<|Jn h rfl k_1 rfl [.ref 0,.int x1,.int (x2+1),.int x3,.int x4,.int x5]<|Jh h rfl<|Jr h rfl rfl))
theorem EeM{f1}(h:Fx f1)(x1 x2 x3 x4 x5:Int32)(S):f1 (36,146,[.ref 0,.int x1,.int x2,.int x3,.int x4,.int x5],[],S)=if (S 0 6)<64 then if inb (S 0 6) 64=true then f1 (36,38,[.ref 0,.int (x1+(-1)),.int (x2+1)],[],(upd (upd S 13 ((S 0 6)).toNatClampNeg x4) 0 6 ((S 0 6)+1))) else none else f1 (36,38,[.ref 0,.int (x1+(-1)),.int (x2+1)],[],S):=Jn h rfl k_m1 rfl [.ref 0,.int (x1+(-1)),.int x2,.int x3,.int x4,.int x5]<|Jd h rfl rfl<|Jj h rfl (S 0 6)<|Jc h rfl k_64<|Jm h rfl (Jd h rfl rfl<|Jg h rfl<|Jd h rfl rfl<|Jj h rfl (S 0 6)<|Jb h rfl rfl<|Jv h rfl rfl x4 fun i0=>Jd h rfl rfl<|JN h rfl<|Jj h rfl (S 0 6)<|Jc h rfl k_1<|Jt h rfl<|Jw h rfl<|Jn h rfl k_1 rfl [.ref 0,.int (x1+(-1)),.int (x2+1),.int x3,.int x4,.int x5]<|Jh h rfl<|Jr h rfl rfl) (Jn h rfl k_1 rfl [.ref 0,.int (x1+(-1)),.int (x2+1),.int x3,.int x4,.int x5]<|Jh h rfl<|Jr h rfl rfl)
theorem EdJ{f1}(h:Fx f1)(x1:Int32)(S):f1 (22,0,[.ref 0,.int x1],[],S)=(f1 (21,0,[.ref 0,.int x1],[],S)).bind fun q=>f1 (22,5,[.ref 0,.int x1],q.1.toList++[],q.2):=Jd h rfl rfl<|Jb h rfl rfl<|Jf h rfl rfl
theorem Ebs{f1}(h:Fx f1)(x1 y0:Int32)(S):f1 (22,5,[.ref 0,.int x1],[.int y0],S)=if y0=0 then some (some (.int 0),S) else if inb x1 64=true then if (S 1 (x1).toNatClampNeg)=0 then some (some (.int 0),S) else some (some (.int 1),S) else none:=Jy h rfl (Jc h rfl k_0<|Jl h rfl) (Jd h rfl rfl<|Jg h rfl<|Jb h rfl rfl<|Jo h rfl rfl (S 1 (x1).toNatClampNeg) fun i0=>Jy h rfl (Jc h rfl k_0<|Jl h rfl) (Jc h rfl k_1<|Jh h rfl<|JC h rfl))
theorem EeQ{f1}(h:Fx f1)(x1:Int32)(S):f1 (23,0,[.ref 0,.int x1],[],S)=(f1 (21,0,[.ref 0,.int x1],[],S)).bind fun q=>f1 (23,5,[.ref 0,.int x1],q.1.toList++[],q.2):=Jd h rfl rfl<|Jb h rfl rfl<|Jf h rfl rfl
theorem EbI{f1}(h:Fx f1)(x1 y0:Int32)(S):f1 (23,5,[.ref 0,.int x1],[.int y0],S)=if y0=0 then some (some (.int 0),S) else if inb x1 64=true then if (S 3 (x1).toNatClampNeg)<0 then some (some (.int 0),S) else if 8<(S 3 (x1).toNatClampNeg) then some (some (.int 8),S) else some (some (.int (S 3 (x1).toNatClampNeg)),S) else none:=Js h rfl (Jc h rfl k_0<|Ji h rfl) (Jd h rfl rfl<|Jg h rfl<|Jb h rfl rfl<|Jo h rfl rfl (S 3 (x1).toNatClampNeg) fun i0=>Je h rfl [.ref 0,.int x1,.int (S 3 (x1).toNatClampNeg)]<|Jb h rfl rfl<|JP h rfl (Jc h rfl k_0<|Ji h rfl) (Jb h rfl rfl<|Jc h rfl k_8<|JO h rfl (Jc h rfl k_8<|Ji h rfl) (Jb h rfl rfl<|Ji h rfl)))
theorem Eb4{f1}(h:Fx f1)(x1 x2:Int32)(S):f1 (24,0,[.ref 0,.int x1,.int x2],[],S)=(f1 (21,0,[.ref 0,.int x1],[],S)).bind fun q=>f1 (24,5,[.ref 0,.int x1,.int x2],q.1.toList++[],q.2):=Jd h rfl rfl<|Jb h rfl rfl<|Jf h rfl rfl
theorem Ecu{f1}(h:Fx f1)(x1 x2 y0:Int32)(S):f1 (24,5,[.ref 0,.int x1,.int x2],[.int y0],S)=if y0=0 then some (some (.int (-1)),S) else if x2<0 then some (some (.int (-1)),S) else if x2<8 then if inb ((x1*8)+x2) 512=true then some (some (.int (S 4 (((x1*8)+x2)).toNatClampNeg)),S) else none else some (some (.int (-1)),S):=Jy h rfl (Jc h rfl k_m1<|Ji h rfl) (Jb h rfl rfl<|JB h rfl (Jc h rfl k_m1<|Ji h rfl) (Jb h rfl rfl<|Jc h rfl k_8<|JJ h rfl (Jd h rfl rfl<|Jg h rfl<|Jb h rfl rfl<|Jc h rfl k_8<|Jz h rfl<|Jb h rfl rfl<|Jt h rfl<|Jo h rfl rfl (S 4 (((x1*8)+x2)).toNatClampNeg) fun i0=>Ji h rfl) (Jc h rfl k_m1<|Ji h rfl)))
theorem Ec5{f1}(h:Fx f1)(S):f1 (69,0,[.ref 0],[],S)=f1 (69,2,[.ref 0,.int 0],[],S):=Jc h rfl k_0<|Je h rfl [.ref 0,.int 0] rfl
theorem E8{f1}(h:Fx f1)(x1:Int32)(S):f1 (69,2,[.ref 0,.int x1],[],S)=if x1<(S 0 6) then if x1<64 then if inb x1 64=true then (f1 (21,0,[.ref 0,.int (S 13 (x1).toNatClampNeg)],[],S)).bind fun q=>f1 (69,28,[.ref 0,.int x1,.int (S 13 (x1).toNatClampNeg)],q.1.toList++[],q.2) else none else some (none,S) else some (none,S):=Jb h rfl rfl<|Jd h rfl rfl<|Jj h rfl (S 0 6)<|Jm h rfl (Jb h rfl rfl<|Jc h rfl k_64<|Jm h rfl (Jd h rfl rfl<|Jg h rfl<|Jb h rfl rfl<|Jo h rfl rfl (S 13 (x1).toNatClampNeg) fun i0=>Je h rfl [.ref 0,.int x1,.int (S 13 (x1).toNatClampNeg)]<|Jd h rfl rfl<|Jb h rfl rfl<|Jf h rfl rfl) (Jk h rfl)) (Jk h rfl)
theorem Ev{f1}(h:Fx f1)(x1 x2 y0:Int32)(S):f1 (69,28,[.ref 0,.int x1,.int x2],[.int y0],S)=if y0=0 then f1 (69,95,[.ref 0,.int x1,.int x2],[],S) else if inb x2 64=true then if (S 1 (x2).toNatClampNeg)=0 then if x2<8 then f1 (69,95,[.ref 0,.int x1,.int x2],[],(upd (upd S 20 (x2).toNatClampNeg x2) 21 (x2).toNatClampNeg (1<<<(x2&&&31)))) else f1 (69,95,[.ref 0,.int x1,.int x2],[],(upd (upd S 20 (x2).toNatClampNeg x2) 21 (x2).toNatClampNeg 0)) else if (S 1 (x2).toNatClampNeg)=1 then (f1 (70,0,[.ref 0,.int x2],[],S)).bind fun q=>f1 (69,87,[.ref 0,.int x1,.int x2],q.1.toList++[],q.2) else (f1 (71,0,[.ref 0,.int x2],[],S)).bind fun q=>f1 (69,95,[.ref 0,.int x1,.int x2],q.1.toList++[],q.2) else none:=Js h rfl (Jh h rfl rfl) (Jd h rfl rfl<|Jg h rfl<|Jb h rfl rfl<|Jo h rfl rfl (S 1 (x2).toNatClampNeg) fun i0=>Js h rfl (Jd h rfl rfl<|Jg h rfl<|Jb h rfl rfl<|Jb h rfl rfl<|Jx h rfl rfl x2 i0<|Jd h rfl rfl<|Jg h rfl<|Jb h rfl rfl<|Jb h rfl rfl<|Jc h rfl k_8<|Jm h rfl (Jc h rfl k_1<|Jb h rfl rfl<|JI h rfl<|Jh h rfl<|Jx h rfl rfl (1<<<(x2&&&31)) i0<|Jh h rfl rfl) (Jc h rfl k_0<|Jx h rfl rfl 0 i0<|Jh h rfl rfl)) (Jd h rfl rfl<|Jg h rfl<|Jb h rfl rfl<|JF h rfl rfl i0 (S 1 (x2).toNatClampNeg)<|Jc h rfl k_1<|Jp h rfl (Jd h rfl rfl<|Jb h rfl rfl<|Jf h rfl rfl) (Jd h rfl rfl<|Jb h rfl rfl<|Jf h rfl rfl)))
theorem Ebw{f1}(h:Fx f1)(x1 x2:Int32)(S):f1 (69,87,[.ref 0,.int x1,.int x2],[],S)=f1 (69,95,[.ref 0,.int x1,.int x2],[],S):=Jh h rfl rfl
theorem EX{f1}(h:Fx f1)(x1 x2:Int32)(S):f1 (69,95,[.ref 0,.int x1,.int x2],[],S)=f1 (69,2,[.ref 0,.int (x1+1)],[],S):=Jn h rfl k_1 rfl [.ref 0,.int (x1+1),.int x2]<|Jh h rfl<|Jr h rfl rfl
theorem Ec0{f1}(h:Fx f1)(x1:Int32)(S):f1 (70,0,[.ref 0,.int x1],[],S)=(f1 (23,0,[.ref 0,.int x1],[],S)).bind fun q=>f1 (70,10,[.ref 0,.int x1,.int 64,.int 0],q.1.toList++[],q.2):=Jc h rfl k_64<|Je h rfl [.ref 0,.int x1,.int 64]<|Jc h rfl k_0<|Je h rfl [.ref 0,.int x1,.int 64,.int 0]<|Jd h rfl rfl<|Jb h rfl rfl<|Jf h rfl rfl
theorem EbE{f1}(h:Fx f1)(x1 x2 x3 y0:Int32)(S):f1 (70,10,[.ref 0,.int x1,.int x2,.int x3],[.int y0],S)=f1 (70,15,[.ref 0,.int x1,.int x2,.int x3,.int y0,.int 0],[],S):=Je h rfl [.ref 0,.int x1,.int x2,.int x3,.int y0]<|Jc h rfl k_0<|Je h rfl [.ref 0,.int x1,.int x2,.int x3,.int y0,.int 0] rfl
theorem Eac{f1}(h:Fx f1)(x1 x2 x3 x4 x5:Int32)(S):f1 (70,15,[.ref 0,.int x1,.int x2,.int x3,.int x4,.int x5],[],S)=if x5<x4 then if x5<8 then (f1 (24,0,[.ref 0,.int x1,.int x5],[],S)).bind fun q=>f1 (70,36,[.ref 0,.int x1,.int x2,.int x3,.int x4,.int x5],q.1.toList++[],q.2) else f1 (70,82,[.ref 0,.int x1,.int x2,.int x3,.int x4,.int x5],[],S) else f1 (70,82,[.ref 0,.int x1,.int x2,.int x3,.int x4,.int x5],[],S):=Jb h rfl rfl<|Jb h rfl rfl<|Jm h rfl (Jb h rfl rfl<|Jc h rfl k_8<|Jm h rfl (Jd h rfl rfl<|Jb h rfl rfl<|Jb h rfl rfl<|Jf h rfl rfl) rfl) rfl
theorem Ea6{f1}(h:Fx f1)(x1 x2 x3 x4 x5 y0:Int32)(S):f1 (70,36,[.ref 0,.int x1,.int x2,.int x3,.int x4,.int x5],[.int y0],S)=(f1 (21,0,[.ref 0,.int y0],[],S)).bind fun q=>f1 (70,44,[.ref 0,.int x1,.int x2,.int x3,.int x4,.int x5,.int y0],q.1.toList++[],q.2):=Je h rfl [.ref 0,.int x1,.int x2,.int x3,.int x4,.int x5,.int y0]<|Jd h rfl rfl<|Jb h rfl rfl<|Jf h rfl rfl
theorem EeW{f1}(h:Fx f1)(x1 x2 x3 x4 x5 x6 y0:Int32)(S):f1 (70,44,[.ref 0,.int x1,.int x2,.int x3,.int x4,.int x5,.int x6],[.int y0],S)=if y0=0 then f1 (70,15,[.ref 0,.int x1,.int x2,.int x3,.int x4,.int (x5+1)],[],S) else if inb x6 64=true then if (S 20 (x6).toNatClampNeg)<x2 then f1 (70,15,[.ref 0,.int x1,.int (S 20 (x6).toNatClampNeg),.int (x3|||(S 21 (x6).toNatClampNeg)),.int x4,.int (x5+1)],[],S) else f1 (70,15,[.ref 0,.int x1,.int x2,.int (x3|||(S 21 (x6).toNatClampNeg)),.int x4,.int (x5+1)],[],S) else none:=Jy h rfl (Jn h rfl k_1 rfl [.ref 0,.int x1,.int x2,.int x3,.int x4,.int (x5+1),.int x6]<|Jh h rfl<|Jr h rfl rfl) (Jd h rfl rfl<|Jg h rfl<|Jb h rfl rfl<|Jo h rfl rfl (S 20 (x6).toNatClampNeg) fun i0=>Jb h rfl rfl<|Jm h rfl (Jd h rfl rfl<|Jg h rfl<|Jb h rfl rfl<|JF h rfl rfl i0 (S 20 (x6).toNatClampNeg)<|Je h rfl [.ref 0,.int x1,.int (S 20 (x6).toNatClampNeg),.int x3,.int x4,.int x5,.int x6]<|Jb h rfl rfl<|Jd h rfl rfl<|Jg h rfl<|Jb h rfl rfl<|JF h rfl rfl i0 (S 21 (x6).toNatClampNeg)<|JY h rfl<|Je h rfl [.ref 0,.int x1,.int (S 20 (x6).toNatClampNeg),.int (x3|||(S 21 (x6).toNatClampNeg)),.int x4,.int x5,.int x6]<|Jn h rfl k_1 rfl [.ref 0,.int x1,.int (S 20 (x6).toNatClampNeg),.int (x3|||(S 21 (x6).toNatClampNeg)),.int x4,.int (x5+1),.int x6]<|Jh h rfl<|Jr h rfl rfl) (Jb h rfl rfl<|Jd h rfl rfl<|Jg h rfl<|Jb h rfl rfl<|JF h rfl rfl i0 (S 21 (x6).toNatClampNeg)<|JY h rfl<|Je h rfl [.ref 0,.int x1,.int x2,.int (x3|||(S 21 (x6).toNatClampNeg)),.int x4,.int x5,.int x6]<|Jn h rfl k_1 rfl [.ref 0,.int x1,.int x2,.int (x3|||(S 21 (x6).toNatClampNeg)),.int x4,.int (x5+1),.int x6]<|Jh h rfl<|Jr h rfl rfl))
theorem Ebz{f1}(h:Fx f1)(x1 x2 x3 x4 x5:Int32)(S):f1 (70,82,[.ref 0,.int x1,.int x2,.int x3,.int x4,.int x5],[],S)=if inb x1 64=true then some (none,(upd (upd S 20 (x1).toNatClampNeg x2) 21 (x1).toNatClampNeg x3)) else none:=Jd h rfl rfl<|Jg h rfl<|Jb h rfl rfl<|Jb h rfl rfl<|Jv h rfl rfl x2 fun i0=>Jd h rfl rfl<|Jg h rfl<|Jb h rfl rfl<|Jb h rfl rfl<|Jx h rfl rfl x3 i0<|Jk h rfl
theorem EG{f1}(h:Fx f1)(S):f1 (67,0,[.ref 0],[],S)=f1 (67,4,[.ref 0,.int 1,.int 0],[],S):=Jc h rfl k_1<|Je h rfl [.ref 0,.int 1]<|Jc h rfl k_0<|Je h rfl [.ref 0,.int 1,.int 0] rfl
theorem Eh{f1}(h:Fx f1)(x1 x2:Int32)(S):f1 (67,4,[.ref 0,.int x1,.int x2],[],S)=if x2<(S 0 6) then if x2<64 then if inb x2 64=true then (f1 (22,0,[.ref 0,.int (S 13 (x2).toNatClampNeg)],[],S)).bind fun q=>f1 (67,30,[.ref 0,.int x1,.int x2,.int (S 13 (x2).toNatClampNeg)],q.1.toList++[],q.2) else none else some (some (.int x1),S) else some (some (.int x1),S):=Jb h rfl rfl<|Jd h rfl rfl<|Jj h rfl (S 0 6)<|Jm h rfl (Jb h rfl rfl<|Jc h rfl k_64<|Jm h rfl (Jd h rfl rfl<|Jg h rfl<|Jb h rfl rfl<|Jo h rfl rfl (S 13 (x2).toNatClampNeg) fun i0=>Je h rfl [.ref 0,.int x1,.int x2,.int (S 13 (x2).toNatClampNeg)]<|Jd h rfl rfl<|Jb h rfl rfl<|Jf h rfl rfl) (Jb h rfl rfl<|Ji h rfl)) (Jb h rfl rfl<|Ji h rfl)
theorem EaC{f1}(h:Fx f1)(x1 x2 x3 y0:Int32)(S):f1 (67,30,[.ref 0,.int x1,.int x2,.int x3],[.int y0],S)=if y0=0 then f1 (67,4,[.ref 0,.int x1,.int (x2+1)],[],S) else (f1 (23,0,[.ref 0,.int x3],[],S)).bind fun q=>f1 (67,41,[.ref 0,.int x1,.int x2,.int x3],q.1.toList++[],q.2):=Js h rfl (Jh h rfl<|Jn h rfl k_1 rfl [.ref 0,.int x1,.int (x2+1),.int x3]<|Jh h rfl<|Jr h rfl rfl) (Jd h rfl rfl<|Jb h rfl rfl<|Jf h rfl rfl)
theorem EdE{f1}(h:Fx f1)(x1 x2 x3 y0:Int32)(S):f1 (67,41,[.ref 0,.int x1,.int x2,.int x3],[.int y0],S)=if inb x3 64=true then if (S 1 (x3).toNatClampNeg)=1 then (f1 (68,0,[.ref 0,.int y0],[],S)).bind fun q=>f1 (67,60,[.ref 0,.int x1,.int x2,.int x3,.int y0],q.1.toList++[.int x1],q.2) else f1 (67,4,[.ref 0,.int (x1*2),.int (x2+1)],[],S) else none:=Je h rfl [.ref 0,.int x1,.int x2,.int x3,.int y0]<|Jd h rfl rfl<|Jg h rfl<|Jb h rfl rfl<|Jo h rfl rfl (S 1 (x3).toNatClampNeg) fun i0=>Jc h rfl k_1<|Jp h rfl (Jb h rfl rfl<|Jd h rfl rfl<|Jb h rfl rfl<|Jf h rfl rfl) (Jb h rfl rfl<|Jc h rfl k_2<|Jz h rfl<|Je h rfl [.ref 0,.int (x1*2),.int x2,.int x3,.int y0]<|Jr h rfl<|Jn h rfl k_1 rfl [.ref 0,.int (x1*2),.int (x2+1),.int x3]<|Jh h rfl<|Jr h rfl rfl)
theorem EbG{f1}(h:Fx f1)(x1 x2 x3 x4 y0 y1:Int32)(S):f1 (67,60,[.ref 0,.int x1,.int x2,.int x3,.int x4],[.int y0,.int y1],S)=f1 (67,4,[.ref 0,.int (y1*y0),.int (x2+1)],[],S):=Jz h rfl<|Je h rfl [.ref 0,.int (y1*y0),.int x2,.int x3,.int x4]<|Jh h rfl<|Jr h rfl<|Jn h rfl k_1 rfl [.ref 0,.int (y1*y0),.int (x2+1),.int x3]<|Jh h rfl<|Jr h rfl rfl
theorem Ebh{f1}(h:Fx f1)(x1:Int32)(S):f1 (68,0,[.ref 0,.int x1],[],S)=f1 (68,4,[.ref 0,.int x1,.int 1,.int 2],[],S):=Jc h rfl k_1<|Je h rfl [.ref 0,.int x1,.int 1]<|Jc h rfl k_2<|Je h rfl [.ref 0,.int x1,.int 1,.int 2] rfl
theorem Er{f1}(h:Fx f1)(x1 x2 x3:Int32)(S):f1 (68,4,[.ref 0,.int x1,.int x2,.int x3],[],S)=if x1<x3 then some (some (.int x2),S) else if 8<x3 then some (some (.int x2),S) else f1 (68,4,[.ref 0,.int x1,.int (x2*x3),.int (x3+1)],[],S):=Jb h rfl rfl<|Jb h rfl rfl<|JT h rfl (Jb h rfl rfl<|Ji h rfl) (Jb h rfl rfl<|Jc h rfl k_8<|JT h rfl (Jb h rfl rfl<|Ji h rfl) (Jb h rfl rfl<|Jb h rfl rfl<|Jz h rfl<|Je h rfl [.ref 0,.int x1,.int (x2*x3),.int x3]<|Jn h rfl k_1 rfl [.ref 0,.int x1,.int (x2*x3),.int (x3+1)]<|Jh h rfl rfl))
theorem Eeo{f1}(h:Fx f1)(x1:Int32)(S):f1 (28,0,[.ref 0,.int x1],[],S)=(f1 (21,0,[.ref 0,.int x1],[],S)).bind fun q=>f1 (28,5,[.ref 0,.int x1],q.1.toList++[],q.2):=Jd h rfl rfl<|Jb h rfl rfl<|Jf h rfl rfl
theorem Eeh{f1}(h:Fx f1)(x1 y0:Int32)(S):f1 (28,5,[.ref 0,.int x1],[.int y0],S)=if y0=0 then some (some (.int 0),S) else if inb x1 64=true then some (some (.int (S 21 (x1).toNatClampNeg)),S) else none:=Js h rfl (Jc h rfl k_0<|Ji h rfl) (Jd h rfl rfl<|Jg h rfl<|Jb h rfl rfl<|Jo h rfl rfl (S 21 (x1).toNatClampNeg) fun i0=>Ji h rfl)
theorem Edo{f1}(h:Fx f1)(S):f1 (72,0,[.ref 0],[],S)=f1 (72,2,[.ref 0,.int 0],[],S):=Jc h rfl k_0<|Je h rfl [.ref 0,.int 0] rfl
theorem EM{f1}(h:Fx f1)(x1:Int32)(S):f1 (72,2,[.ref 0,.int x1],[],S)=if x1<8 then if inb x1 8=true then f1 (72,2,[.ref 0,.int (x1+1)],[],(upd (upd S 22 (x1).toNatClampNeg (-1)) 23 (x1).toNatClampNeg (-1))) else none else (f1 (21,0,[.ref 0,.int (S 0 4)],[],S)).bind fun q=>f1 (72,36,[.ref 0,.int x1],q.1.toList++[],q.2):=Jb h rfl rfl<|Jc h rfl k_8<|Jm h rfl (Jd h rfl rfl<|Jg h rfl<|Jb h rfl rfl<|Jc h rfl k_m1<|Jv h rfl rfl (-1) fun i0=>Jd h rfl rfl<|Jg h rfl<|Jb h rfl rfl<|Jc h rfl k_m1<|Jx h rfl rfl (-1) i0<|Jn h rfl k_1 rfl [.ref 0,.int (x1+1)]<|Jh h rfl rfl) (Jd h rfl rfl<|Jd h rfl rfl<|Jj h rfl (S 0 4)<|Jf h rfl rfl)
theorem EcG{f1}(h:Fx f1)(x1 y0:Int32)(S):f1 (72,36,[.ref 0,.int x1],[.int y0],S)=if y0=0 then some (none,S) else f1 (72,56,[.ref 0,.int 1,.int 0,.int 0],[],(upd S 14 0 (S 0 4))):=Js h rfl (Jk h rfl) (Jd h rfl rfl<|Jg h rfl<|Jc h rfl k_0<|Jd h rfl rfl<|Jj h rfl (S 0 4)<|JaC h rfl rfl (S 0 4) 0<|Jc h rfl k_1<|Je h rfl [.ref 0,.int 1]<|Jc h rfl k_0<|Je h rfl [.ref 0,.int 1,.int 0]<|Jc h rfl k_0<|Je h rfl [.ref 0,.int 1,.int 0,.int 0] rfl)
theorem Ean{f1}(h:Fx f1)(x1 x2 x3:Int32)(S):f1 (72,56,[.ref 0,.int x1,.int x2,.int x3],[],S)=if x3<1024 then if 0<x1 then if inb (x1+(-1)) 128=true then (f1 (21,0,[.ref 0,.int (S 14 ((x1+(-1))).toNatClampNeg)],[],S)).bind fun q=>f1 (72,84,[.ref 0,.int (x1+(-1)),.int x2,.int x3,.int (S 14 ((x1+(-1))).toNatClampNeg)],q.1.toList++[],q.2) else none else (f1 (75,0,[.ref 0],[],S)).bind fun q=>f1 (72,167,[.ref 0,.int x1,.int x2,.int x3],q.1.toList++[],q.2) else (f1 (75,0,[.ref 0],[],S)).bind fun q=>f1 (72,167,[.ref 0,.int x1,.int x2,.int x3],q.1.toList++[],q.2):=Jb h rfl rfl<|Jc h rfl k_1024<|Jm h rfl (Jb h rfl rfl<|Jac h rfl (Jn h rfl k_m1 rfl [.ref 0,.int (x1+(-1)),.int x2,.int x3]<|Jd h rfl rfl<|Jg h rfl<|Jb h rfl rfl<|Jo h rfl rfl (S 14 ((x1+(-1))).toNatClampNeg) fun i0=>Je h rfl [.ref 0,.int (x1+(-1)),.int x2,.int x3,.int (S 14 ((x1+(-1))).toNatClampNeg)]<|Jd h rfl rfl<|Jb h rfl rfl<|Jf h rfl rfl) (Jd h rfl rfl<|Jf h rfl rfl)) (Jd h rfl rfl<|Jf h rfl rfl)
theorem Eae{f1}(h:Fx f1)(x1 x2 x3 x4 y0:Int32)(S):f1 (72,84,[.ref 0,.int x1,.int x2,.int x3,.int x4],[.int y0],S)=if y0=0 then f1 (72,56,[.ref 0,.int x1,.int x2,.int (x3+1)],[],S) else if inb x4 64=true then if (S 1 (x4).toNatClampNeg)=0 then if x2<8 then if x4<8 then if inb x2 8=true then f1 (72,56,[.ref 0,.int x1,.int (x2+1),.int (x3+1)],[],(upd S 22 (x2).toNatClampNeg x4)) else none else f1 (72,56,[.ref 0,.int x1,.int x2,.int (x3+1)],[],S) else f1 (72,56,[.ref 0,.int x1,.int x2,.int (x3+1)],[],S) else if (S 1 (x4).toNatClampNeg)=1 then (f1 (73,0,[.ref 0,.int x4,.int x1],[],S)).bind fun q=>f1 (72,145,[.ref 0,.int x1,.int x2,.int x3,.int x4],q.1.toList++[],q.2) else (f1 (74,0,[.ref 0,.int x4,.int x1],[],S)).bind fun q=>f1 (72,156,[.ref 0,.int x1,.int x2,.int x3,.int x4],q.1.toList++[],q.2) else none:=Js h rfl (Jh h rfl<|Jn h rfl k_1 rfl [.ref 0,.int x1,.int x2,.int (x3+1),.int x4]<|Jh h rfl<|Jr h rfl rfl) (Jd h rfl rfl<|Jg h rfl<|Jb h rfl rfl<|Jo h rfl rfl (S 1 (x4).toNatClampNeg) fun i0=>Js h rfl (Jb h rfl rfl<|Jc h rfl k_8<|Jm h rfl (Jb h rfl rfl<|Jc h rfl k_8<|Jm h rfl (Jd h rfl rfl<|Jg h rfl<|Jb h rfl rfl<|Jb h rfl rfl<|Jv h rfl rfl x4 fun i1=>Jn h rfl k_1 rfl [.ref 0,.int x1,.int (x2+1),.int x3,.int x4]<|Jh h rfl<|Jn h rfl k_1 rfl [.ref 0,.int x1,.int (x2+1),.int (x3+1),.int x4]<|Jh h rfl<|Jr h rfl rfl) (Jn h rfl k_1 rfl [.ref 0,.int x1,.int x2,.int (x3+1),.int x4]<|Jh h rfl<|Jr h rfl rfl)) (Jn h rfl k_1 rfl [.ref 0,.int x1,.int x2,.int (x3+1),.int x4]<|Jh h rfl<|Jr h rfl rfl)) (Jd h rfl rfl<|Jg h rfl<|Jb h rfl rfl<|JF h rfl rfl i0 (S 1 (x4).toNatClampNeg)<|Jc h rfl k_1<|Jp h rfl (Jd h rfl rfl<|Jb h rfl rfl<|Jb h rfl rfl<|Jf h rfl rfl) (Jd h rfl rfl<|Jb h rfl rfl<|Jb h rfl rfl<|Jf h rfl rfl)))
theorem Edx{f1}(h:Fx f1)(x1 x2 x3 x4 y0:Int32)(S):f1 (72,145,[.ref 0,.int x1,.int x2,.int x3,.int x4],[.int y0],S)=f1 (72,56,[.ref 0,.int y0,.int x2,.int (x3+1)],[],S):=Je h rfl [.ref 0,.int y0,.int x2,.int x3,.int x4]<|Jh h rfl<|Jn h rfl k_1 rfl [.ref 0,.int y0,.int x2,.int (x3+1),.int x4]<|Jh h rfl<|Jr h rfl rfl
theorem EeN{f1}(h:Fx f1)(x1 x2 x3 x4 y0:Int32)(S):f1 (72,156,[.ref 0,.int x1,.int x2,.int x3,.int x4],[.int y0],S)=f1 (72,56,[.ref 0,.int y0,.int x2,.int (x3+1)],[],S):=Je h rfl [.ref 0,.int y0,.int x2,.int x3,.int x4]<|Jn h rfl k_1 rfl [.ref 0,.int y0,.int x2,.int (x3+1),.int x4]<|Jh h rfl<|Jr h rfl rfl
theorem EaK{f1}(h:Fx f1)(x1 x2 x3:Int32)(S):f1 (72,167,[.ref 0,.int x1,.int x2,.int x3],[],S)=some (none,S):=Jk h rfl
theorem Eem{f1}(h:Fx f1)(x1 x2:Int32)(S):f1 (73,0,[.ref 0,.int x1,.int x2],[],S)=(f1 (23,0,[.ref 0,.int x1],[],S)).bind fun q=>f1 (73,5,[.ref 0,.int x1,.int x2],q.1.toList++[],q.2):=Jd h rfl rfl<|Jb h rfl rfl<|Jf h rfl rfl
theorem EdH{f1}(h:Fx f1)(x1 x2 y0:Int32)(S):f1 (73,5,[.ref 0,.int x1,.int x2],[.int y0],S)=f1 (73,15,[.ref 0,.int x1,.int x2,.int y0,.int 0,.int x2,.int 0],[],S):=Je h rfl [.ref 0,.int x1,.int x2,.int y0]<|Jc h rfl k_0<|Je h rfl [.ref 0,.int x1,.int x2,.int y0,.int 0]<|Jb h rfl rfl<|Je h rfl [.ref 0,.int x1,.int x2,.int y0,.int 0,.int x2]<|Jc h rfl k_0<|Je h rfl [.ref 0,.int x1,.int x2,.int y0,.int 0,.int x2,.int 0] rfl
theorem EZ{f1}(h:Fx f1)(x1 x2 x3 x4 x5 x6:Int32)(S):f1 (73,15,[.ref 0,.int x1,.int x2,.int x3,.int x4,.int x5,.int x6],[],S)=if x6<x3 then if x6<8 then f1 (73,37,[.ref 0,.int x1,.int x2,.int x3,.int x4,.int x5,.int x6,.int (-1),.int (-1),.int 0],[],S) else some (some (.int x5),S) else some (some (.int x5),S):=Jb h rfl rfl<|Jb h rfl rfl<|Jm h rfl (Jb h rfl rfl<|Jc h rfl k_8<|Jm h rfl (Jc h rfl k_m1<|Je h rfl [.ref 0,.int x1,.int x2,.int x3,.int x4,.int x5,.int x6,.int (-1)]<|Jc h rfl k_m1<|Je h rfl [.ref 0,.int x1,.int x2,.int x3,.int x4,.int x5,.int x6,.int (-1),.int (-1)]<|Jc h rfl k_0<|Je h rfl [.ref 0,.int x1,.int x2,.int x3,.int x4,.int x5,.int x6,.int (-1),.int (-1),.int 0] rfl) (Jb h rfl rfl<|Ji h rfl)) (Jb h rfl rfl<|Ji h rfl)
theorem EN{f1}(h:Fx f1)(x1 x2 x3 x4 x5 x6 x7 x8 x9:Int32)(S):f1 (73,37,[.ref 0,.int x1,.int x2,.int x3,.int x4,.int x5,.int x6,.int x7,.int x8,.int x9],[],S)=if x9<x3 then if x9<8 then (f1 (24,0,[.ref 0,.int x1,.int x9],[],S)).bind fun q=>f1 (73,57,[.ref 0,.int x1,.int x2,.int x3,.int x4,.int x5,.int x6,.int x7,.int x8,.int x9],q.1.toList++[],q.2) else f1 (73,114,[.ref 0,.int x1,.int x2,.int x3,.int x4,.int x5,.int x6,.int x7,.int x8,.int x9],[],S) else f1 (73,114,[.ref 0,.int x1,.int x2,.int x3,.int x4,.int x5,.int x6,.int x7,.int x8,.int x9],[],S):=Jb h rfl rfl<|Jb h rfl rfl<|Jm h rfl (Jb h rfl rfl<|Jc h rfl k_8<|Jm h rfl (Jd h rfl rfl<|Jb h rfl rfl<|Jb h rfl rfl<|Jf h rfl rfl) rfl) rfl
theorem EcI{f1}(h:Fx f1)(x1 x2 x3 x4 x5 x6 x7 x8 x9 y0:Int32)(S):f1 (73,57,[.ref 0,.int x1,.int x2,.int x3,.int x4,.int x5,.int x6,.int x7,.int x8,.int x9],[.int y0],S)=if ((x4>>>(x9&&&31))&&&1)=0 then (f1 (21,0,[.ref 0,.int y0],[],S)).bind fun q=>f1 (73,75,[.ref 0,.int x1,.int x2,.int x3,.int x4,.int x5,.int x6,.int x7,.int x8,.int x9,.int y0],q.1.toList++[],q.2) else f1 (73,37,[.ref 0,.int x1,.int x2,.int x3,.int x4,.int x5,.int x6,.int x7,.int x8,.int (x9+1)],[],S):=Je h rfl [.ref 0,.int x1,.int x2,.int x3,.int x4,.int x5,.int x6,.int x7,.int x8,.int x9,.int y0]<|Jb h rfl rfl<|Jb h rfl rfl<|JV h rfl<|Jc h rfl k_1<|Ju h rfl<|Js h rfl (Jd h rfl rfl<|Jb h rfl rfl<|Jf h rfl rfl) (Jn h rfl k_1 rfl [.ref 0,.int x1,.int x2,.int x3,.int x4,.int x5,.int x6,.int x7,.int x8,.int (x9+1),.int y0]<|Jh h rfl<|Jr h rfl rfl)
theorem EdC{f1}(h:Fx f1)(x1 x2 x3 x4 x5 x6 x7 x8 x9 x10 y0:Int32)(S):f1 (73,75,[.ref 0,.int x1,.int x2,.int x3,.int x4,.int x5,.int x6,.int x7,.int x8,.int x9,.int x10],[.int y0],S)=if y0=0 then f1 (73,37,[.ref 0,.int x1,.int x2,.int x3,.int x4,.int x5,.int x6,.int x7,.int x8,.int (x9+1)],[],S) else if x7<0 then if inb x10 64=true then f1 (73,37,[.ref 0,.int x1,.int x2,.int x3,.int x4,.int x5,.int x6,.int x9,.int (S 20 (x10).toNatClampNeg),.int (x9+1)],[],S) else none else if inb x10 64=true then if x8<(S 20 (x10).toNatClampNeg) then f1 (73,37,[.ref 0,.int x1,.int x2,.int x3,.int x4,.int x5,.int x6,.int x9,.int (S 20 (x10).toNatClampNeg),.int (x9+1)],[],S) else f1 (73,37,[.ref 0,.int x1,.int x2,.int x3,.int x4,.int x5,.int x6,.int x7,.int x8,.int (x9+1)],[],S) else none:=Jy h rfl (Jn h rfl k_1 rfl [.ref 0,.int x1,.int x2,.int x3,.int x4,.int x5,.int x6,.int x7,.int x8,.int (x9+1),.int x10]<|Jh h rfl<|Jr h rfl rfl) (Jb h rfl rfl<|JB h rfl (Jb h rfl rfl<|Je h rfl [.ref 0,.int x1,.int x2,.int x3,.int x4,.int x5,.int x6,.int x9,.int x8,.int x9,.int x10]<|Jd h rfl rfl<|Jg h rfl<|Jb h rfl rfl<|Jo h rfl rfl (S 20 (x10).toNatClampNeg) fun i0=>Je h rfl [.ref 0,.int x1,.int x2,.int x3,.int x4,.int x5,.int x6,.int x9,.int (S 20 (x10).toNatClampNeg),.int x9,.int x10]<|Jn h rfl k_1 rfl [.ref 0,.int x1,.int x2,.int x3,.int x4,.int x5,.int x6,.int x9,.int (S 20 (x10).toNatClampNeg),.int (x9+1),.int x10]<|Jh h rfl<|Jr h rfl rfl) (Jd h rfl rfl<|Jg h rfl<|Jb h rfl rfl<|Jo h rfl rfl (S 20 (x10).toNatClampNeg) fun i0=>Jb h rfl rfl<|JO h rfl (Jb h rfl rfl<|Je h rfl [.ref 0,.int x1,.int x2,.int x3,.int x4,.int x5,.int x6,.int x9,.int x8,.int x9,.int x10]<|Jd h rfl rfl<|Jg h rfl<|Jb h rfl rfl<|JF h rfl rfl i0 (S 20 (x10).toNatClampNeg)<|Je h rfl [.ref 0,.int x1,.int x2,.int x3,.int x4,.int x5,.int x6,.int x9,.int (S 20 (x10).toNatClampNeg),.int x9,.int x10]<|Jn h rfl k_1 rfl [.ref 0,.int x1,.int x2,.int x3,.int x4,.int x5,.int x6,.int x9,.int (S 20 (x10).toNatClampNeg),.int (x9+1),.int x10]<|Jh h rfl<|Jr h rfl rfl) (Jn h rfl k_1 rfl [.ref 0,.int x1,.int x2,.int x3,.int x4,.int x5,.int x6,.int x7,.int x8,.int (x9+1),.int x10]<|Jh h rfl<|Jr h rfl rfl)))
theorem Eb3{f1}(h:Fx f1)(x1 x2 x3 x4 x5 x6 x7 x8 x9:Int32)(S):f1 (73,114,[.ref 0,.int x1,.int x2,.int x3,.int x4,.int x5,.int x6,.int x7,.int x8,.int x9],[],S)=if x7<0 then some (some (.int x5),S) else (f1 (24,0,[.ref 0,.int x1,.int x7],[],S)).bind fun q=>f1 (73,138,[.ref 0,.int x1,.int x2,.int x3,.int (x4|||(1<<<(x7&&&31))),.int x5,.int x6,.int x7,.int x8,.int x9],q.1.toList++[],q.2):=Jb h rfl rfl<|JP h rfl (Jb h rfl rfl<|Ji h rfl) (Jb h rfl rfl<|Jc h rfl k_1<|Jb h rfl rfl<|JI h rfl<|JY h rfl<|Je h rfl [.ref 0,.int x1,.int x2,.int x3,.int (x4|||(1<<<(x7&&&31))),.int x5,.int x6,.int x7,.int x8,.int x9]<|Jd h rfl rfl<|Jb h rfl rfl<|Jb h rfl rfl<|Jf h rfl rfl)
theorem Ea4{f1}(h:Fx f1)(x1 x2 x3 x4 x5 x6 x7 x8 x9 y0:Int32)(S):f1 (73,138,[.ref 0,.int x1,.int x2,.int x3,.int x4,.int x5,.int x6,.int x7,.int x8,.int x9],[.int y0],S)=if x5<128 then if inb x5 128=true then f1 (73,15,[.ref 0,.int x1,.int x2,.int x3,.int x4,.int (x5+1),.int (x6+1)],[],(upd S 14 (x5).toNatClampNeg y0)) else none else f1 (73,15,[.ref 0,.int x1,.int x2,.int x3,.int x4,.int x5,.int (x6+1)],[],S):=Je h rfl [.ref 0,.int x1,.int x2,.int x3,.int x4,.int x5,.int x6,.int x7,.int x8,.int y0]<|Jb h rfl rfl<|Jc h rfl k_128<|Jm h rfl (Jd h rfl rfl<|Jg h rfl<|Jb h rfl rfl<|Jb h rfl rfl<|Jv h rfl rfl y0 fun i0=>Jn h rfl k_1 rfl [.ref 0,.int x1,.int x2,.int x3,.int x4,.int (x5+1),.int x6,.int x7,.int x8,.int y0]<|Jn h rfl k_1 rfl [.ref 0,.int x1,.int x2,.int x3,.int x4,.int (x5+1),.int (x6+1),.int x7,.int x8,.int y0]<|Jh h rfl<|Jr h rfl rfl) (Jn h rfl k_1 rfl [.ref 0,.int x1,.int x2,.int x3,.int x4,.int x5,.int (x6+1),.int x7,.int x8,.int y0]<|Jh h rfl<|Jr h rfl rfl)
theorem EcT{f1}(h:Fx f1)(S):f1 (75,0,[.ref 0],[],S)=f1 (75,2,[.ref 0,.int 0],[],S):=Jc h rfl k_0<|Je h rfl [.ref 0,.int 0] rfl
theorem EQ{f1}(h:Fx f1)(x1:Int32)(S):f1 (75,2,[.ref 0,.int x1],[],S)=if x1<(S 0 0) then if x1<8 then if inb x1 8=true then if (S 22 (x1).toNatClampNeg)<0 then f1 (75,2,[.ref 0,.int (x1+1)],[],S) else if (S 22 (x1).toNatClampNeg)<8 then if inb (S 22 (x1).toNatClampNeg) 8=true then f1 (75,2,[.ref 0,.int (x1+1)],[],(upd S 23 ((S 22 (x1).toNatClampNeg)).toNatClampNeg x1)) else none else f1 (75,2,[.ref 0,.int (x1+1)],[],S) else none else some (none,S) else some (none,S):=Jb h rfl rfl<|Jd h rfl rfl<|Jj h rfl (S 0 0)<|Jm h rfl (Jb h rfl rfl<|Jc h rfl k_8<|Jm h rfl (Jd h rfl rfl<|Jg h rfl<|Jb h rfl rfl<|Jo h rfl rfl (S 22 (x1).toNatClampNeg) fun i0=>Je h rfl [.ref 0,.int x1,.int (S 22 (x1).toNatClampNeg)]<|Jb h rfl rfl<|JB h rfl (Jn h rfl k_1 rfl [.ref 0,.int (x1+1),.int (S 22 (x1).toNatClampNeg)]<|Jh h rfl<|Jr h rfl rfl) (Jb h rfl rfl<|Jc h rfl k_8<|Jm h rfl (Jd h rfl rfl<|Jg h rfl<|Jb h rfl rfl<|Jb h rfl rfl<|Jv h rfl rfl x1 fun i1=>Jn h rfl k_1 rfl [.ref 0,.int (x1+1),.int (S 22 (x1).toNatClampNeg)]<|Jh h rfl<|Jr h rfl rfl) (Jn h rfl k_1 rfl [.ref 0,.int (x1+1),.int (S 22 (x1).toNatClampNeg)]<|Jh h rfl<|Jr h rfl rfl))) (Jk h rfl)) (Jk h rfl)
theorem EaU{f1}(h:Fx f1)(x1:Int32)(S):f1 (9,0,[.ref 0,.int x1],[],S)=(f1 (19,0,[.ref 0,.int x1],[],S)).bind fun q=>f1 (9,5,[.ref 0,.int x1],q.1.toList++[],q.2):=Jd h rfl rfl<|Jb h rfl rfl<|Jf h rfl rfl
theorem EcM{f1}(h:Fx f1)(x1 y0:Int32)(S):f1 (9,5,[.ref 0,.int x1],[.int y0],S)=if y0=0 then some (some (.int 0),S) else (f1 (17,0,[.ref 0,.int x1],[],S)).bind fun q=>f1 (9,15,[.ref 0,.int x1],q.1.toList++[],q.2):=Js h rfl (Jc h rfl k_0<|Ji h rfl) (Jd h rfl rfl<|Jb h rfl rfl<|Jf h rfl rfl)
theorem Eco{f1}(h:Fx f1)(x1 y0:Int32)(S):f1 (9,15,[.ref 0,.int x1],[.int y0],S)=if y0=1 then (f1 (35,0,[.ref 0],[],S)).bind fun q=>f1 (9,25,[.ref 0,.int x1,.int y0],q.1.toList++[],q.2) else f1 (9,25,[.ref 0,.int x1,.int y0],[],S):=Je h rfl [.ref 0,.int x1,.int y0]<|Jb h rfl rfl<|Jc h rfl k_1<|Jp h rfl (Jd h rfl rfl<|Jf h rfl rfl) rfl
theorem E6{f1}(h:Fx f1)(x1 x2:Int32)(S):f1 (9,25,[.ref 0,.int x1,.int x2],[],S)=some (some (.int x2),S):=Jb h rfl rfl<|Ji h rfl
theorem EbY{f1}(h:Fx f1)(x1:Int32)(S):f1 (19,0,[.ref 0,.int x1],[],S)=(f1 (18,0,[.ref 0],[],S)).bind fun q=>f1 (19,4,[.ref 0,.int x1],q.1.toList++[],q.2):=Jd h rfl rfl<|Jf h rfl rfl
theorem EaP{f1}(h:Fx f1)(x1 y0:Int32)(S):f1 (19,4,[.ref 0,.int x1],[.int y0],S)=if (x1&&&(y0^^^(-1)))=0 then some (some (.int 1),S) else some (some (.int 0),S):=Je h rfl [.ref 0,.int x1,.int y0]<|Jb h rfl rfl<|Jb h rfl rfl<|Jc h rfl k_m1<|JD h rfl<|Ju h rfl<|Js h rfl (Jc h rfl k_1<|Jh h rfl<|JC h rfl) (Jc h rfl k_0<|Jl h rfl)
theorem EbQ{f1}(h:Fx f1)(S):f1 (18,0,[.ref 0],[],S)=some (some (.int ((1<<<((S 0 0)&&&31))-1)),S):=Jc h rfl k_1<|Jd h rfl rfl<|Jj h rfl (S 0 0)<|JI h rfl<|Jc h rfl k_1<|JG h rfl<|Ji h rfl
theorem Ebm{f1}(h:Fx f1)(x1:Int32)(S):f1 (17,0,[.ref 0,.int x1],[],S)=(f1 (20,0,[.ref 0,.int x1],[],S)).bind fun q=>f1 (17,5,[.ref 0,.int x1],q.1.toList++[],q.2):=Jd h rfl rfl<|Jb h rfl rfl<|Jf h rfl rfl
theorem EeU{f1}(h:Fx f1)(x1 y0:Int32)(S):f1 (17,5,[.ref 0,.int x1],[.int y0],S)=if y0=0 then (f1 (34,0,[.ref 0],[],S)).bind fun q=>f1 (17,14,[.ref 0,.int x1],q.1.toList++[],q.2) else some (some (.int 2),S):=Jy h rfl (Jd h rfl rfl<|Jf h rfl rfl) (Jc h rfl k_2<|Ji h rfl)
theorem EdP{f1}(h:Fx f1)(x1:Int32)(S):f1 (17,14,[.ref 0,.int x1],[],S)=(f1 (42,0,[.ref 0,.int x1],[],S)).bind fun q=>f1 (17,19,[.ref 0,.int x1],q.1.toList++[],q.2):=Jd h rfl rfl<|Jb h rfl rfl<|Jf h rfl rfl
theorem Eau{f1}(h:Fx f1)(x1 y0:Int32)(S):f1 (17,19,[.ref 0,.int x1],[.int y0],S)=if y0=0 then (f1 (35,0,[.ref 0],[],S)).bind fun q=>f1 (17,26,[.ref 0,.int x1],q.1.toList++[],q.2) else (f1 (36,0,[.ref 0],[],S)).bind fun q=>f1 (17,32,[.ref 0,.int x1],q.1.toList++[],q.2):=Js h rfl (Jd h rfl rfl<|Jf h rfl rfl) (Jd h rfl rfl<|Jf h rfl rfl)
theorem Ebg{f1}(h:Fx f1)(x1:Int32)(S):f1 (17,26,[.ref 0,.int x1],[],S)=some (some (.int 3),S):=Jc h rfl k_3<|Ji h rfl
theorem Ebe{f1}(h:Fx f1)(x1:Int32)(S):f1 (17,32,[.ref 0,.int x1],[],S)=(f1 (67,0,[.ref 0],[],S)).bind fun q=>f1 (17,36,[.ref 0,.int x1],q.1.toList++[],q.2):=Jd h rfl rfl<|Jf h rfl rfl
theorem Ee0{f1}(h:Fx f1)(x1 y0:Int32)(S):f1 (17,36,[.ref 0,.int x1],[.int y0],S)=if y0=(S 0 11) then (f1 (35,0,[.ref 0],[],S)).bind fun q=>f1 (17,49,[.ref 0,.int x1,.int y0],q.1.toList++[],q.2) else some (some (.int 1),S):=Je h rfl [.ref 0,.int x1,.int y0]<|Jb h rfl rfl<|Jd h rfl rfl<|Jj h rfl (S 0 11)<|Jp h rfl (Jd h rfl rfl<|Jf h rfl rfl) (Jc h rfl k_1<|Ji h rfl)
theorem Eck{f1}(h:Fx f1)(x1 x2:Int32)(S):f1 (17,49,[.ref 0,.int x1,.int x2],[],S)=some (some (.int 2),S):=Jc h rfl k_2<|Ji h rfl
theorem Ecc{f1}(h:Fx f1)(x1:Int32)(S):f1 (20,0,[.ref 0,.int x1],[],S)=f1 (20,4,[.ref 0,.int x1,.int 0,.int 0],[],S):=Jc h rfl k_0<|Je h rfl [.ref 0,.int x1,.int 0]<|Jc h rfl k_0<|Je h rfl [.ref 0,.int x1,.int 0,.int 0] rfl
theorem Ex{f1}(h:Fx f1)(x1 x2 x3:Int32)(S):f1 (20,4,[.ref 0,.int x1,.int x2,.int x3],[],S)=if x3<8 then if ((x1>>>(x3&&&31))&&&1)=1 then f1 (20,4,[.ref 0,.int x1,.int (x2+1),.int (x3+1)],[],S) else f1 (20,4,[.ref 0,.int x1,.int x2,.int (x3+1)],[],S) else if 1<x2 then (f1 (18,0,[.ref 0],[],S)).bind fun q=>f1 (20,39,[.ref 0,.int x1,.int x2,.int x3],q.1.toList++[],q.2) else some (some (.int 1),S):=Jb h rfl rfl<|Jc h rfl k_8<|Jm h rfl (Jb h rfl rfl<|Jb h rfl rfl<|JV h rfl<|Jc h rfl k_1<|Ju h rfl<|Jc h rfl k_1<|Jp h rfl (Jn h rfl k_1 rfl [.ref 0,.int x1,.int (x2+1),.int x3]<|Jn h rfl k_1 rfl [.ref 0,.int x1,.int (x2+1),.int (x3+1)]<|Jh h rfl rfl) (Jn h rfl k_1 rfl [.ref 0,.int x1,.int x2,.int (x3+1)]<|Jh h rfl rfl)) (Jb h rfl rfl<|Jc h rfl k_1<|JT h rfl (Jd h rfl rfl<|Jf h rfl rfl) (Jc h rfl k_1<|JC h rfl))
theorem EdI{f1}(h:Fx f1)(x1 x2 x3 y0:Int32)(S):f1 (20,39,[.ref 0,.int x1,.int x2,.int x3],[.int y0],S)=if x1=y0 then some (some (.int 1),S) else some (some (.int 0),S):=Je h rfl [.ref 0,.int x1,.int x2,.int y0]<|Jb h rfl rfl<|Jb h rfl rfl<|Jp h rfl (Jc h rfl k_1<|Jh h rfl<|JC h rfl) (Jc h rfl k_0<|Jl h rfl)
theorem Ecj{f1}(h:Fx f1)(x1:Int32)(S):f1 (8,0,[.ref 0,.int x1],[],S)=(f1 (19,0,[.ref 0,.int x1],[],S)).bind fun q=>f1 (8,5,[.ref 0,.int x1],q.1.toList++[],q.2):=Jd h rfl rfl<|Jb h rfl rfl<|Jf h rfl rfl
theorem EdS{f1}(h:Fx f1)(x1 y0:Int32)(S):f1 (8,5,[.ref 0,.int x1],[.int y0],S)=if y0=0 then some (some (.int 0),S) else (f1 (16,0,[.ref 0,.int x1],[],S)).bind fun q=>f1 (8,15,[.ref 0,.int x1],q.1.toList++[],q.2):=Js h rfl (Jc h rfl k_0<|Ji h rfl) (Jd h rfl rfl<|Jb h rfl rfl<|Jf h rfl rfl)
theorem Ea7{f1}(h:Fx f1)(x1 y0:Int32)(S):f1 (8,15,[.ref 0,.int x1],[.int y0],S)=some (some (.int y0),S):=Ji h rfl
theorem Ebi{f1}(h:Fx f1)(x1:Int32)(S):f1 (16,0,[.ref 0,.int x1],[],S)=(f1 (17,0,[.ref 0,.int x1],[],S)).bind fun q=>f1 (16,5,[.ref 0,.int x1],q.1.toList++[],q.2):=Jd h rfl rfl<|Jb h rfl rfl<|Jf h rfl rfl
theorem Een{f1}(h:Fx f1)(x1 y0:Int32)(S):f1 (16,5,[.ref 0,.int x1],[.int y0],S)=if y0=3 then f1 (16,34,[.ref 0,.int x1,.int y0],[],(upd S 0 3 ((S 0 3)+1))) else f1 (16,34,[.ref 0,.int x1,.int y0],[],(upd S 0 2 ((S 0 2)+1))):=Je h rfl [.ref 0,.int x1,.int y0]<|Jb h rfl rfl<|Jc h rfl k_3<|Jp h rfl (Jd h rfl rfl<|JN h rfl<|Jj h rfl (S 0 3)<|Jc h rfl k_1<|Jt h rfl<|Jw h rfl<|Jh h rfl rfl) (Jd h rfl rfl<|JN h rfl<|Jj h rfl (S 0 2)<|Jc h rfl k_1<|Jt h rfl<|Jw h rfl rfl)
theorem Es{f1}(h:Fx f1)(x1 x2:Int32)(S):f1 (16,34,[.ref 0,.int x1,.int x2],[],S)=if x2=1 then (f1 (66,0,[.ref 0],[],S)).bind fun q=>f1 (16,43,[.ref 0,.int x1,.int x2],q.1.toList++[],q.2) else f1 (16,43,[.ref 0,.int x1,.int x2],[],S):=Jb h rfl rfl<|Jc h rfl k_1<|Jp h rfl (Jd h rfl rfl<|Jf h rfl rfl) rfl
theorem En{f1}(h:Fx f1)(x1 x2:Int32)(S):f1 (16,43,[.ref 0,.int x1,.int x2],[],S)=some (some (.int x2),S):=Jb h rfl rfl<|Ji h rfl
theorem E7{f1}(h:Fx f1)(S):f1 (10,0,[.ref 0],[],S)=some (some (.int (S 0 11)),S):=Jd h rfl rfl<|Jj h rfl (S 0 11)<|Ji h rfl
theorem Edv{f1}(h:Fx f1)(S):f1 (1,0,[.ref 0],[],S)=some (some (.int (S 0 0)),S):=Jd h rfl rfl<|Jj h rfl (S 0 0)<|Ji h rfl
theorem EeX{f1}(h:Fx f1)(S):f1 (6,0,[.ref 0],[],S)=some (some (.int (S 0 1)),S):=Jd h rfl rfl<|Jj h rfl (S 0 1)<|Ji h rfl
theorem Eeg{f1}(h:Fx f1)(S):f1 (14,0,[.ref 0],[],S)=some (some (.int (S 0 2)),S):=Jd h rfl rfl<|Jj h rfl (S 0 2)<|Ji h rfl
theorem Ee4{f1}(h:Fx f1)(S):f1 (15,0,[.ref 0],[],S)=some (some (.int (S 0 3)),S):=Jd h rfl rfl<|Jj h rfl (S 0 3)<|Ji h rfl
theorem Ea0{f1}(h:Fx f1)(x1:Int32)(S):f1 (11,0,[.ref 0,.int x1],[],S)=if x1<0 then some (some (.int (-1)),S) else if x1<(S 0 0) then if inb x1 8=true then some (some (.int (S 22 (x1).toNatClampNeg)),S) else none else some (some (.int (-1)),S):=Jb h rfl rfl<|JB h rfl (Jc h rfl k_m1<|Ji h rfl) (Jb h rfl rfl<|Jd h rfl rfl<|Jj h rfl (S 0 0)<|JJ h rfl (Jd h rfl rfl<|Jg h rfl<|Jb h rfl rfl<|Jo h rfl rfl (S 22 (x1).toNatClampNeg) fun i0=>Ji h rfl) (Jc h rfl k_m1<|Ji h rfl))
theorem Eap{f1}(h:Fx f1)(x1:Int32)(S):f1 (12,0,[.ref 0,.int x1],[],S)=if x1<0 then some (some (.int (-1)),S) else if x1<(S 0 0) then if inb x1 8=true then some (some (.int (S 23 (x1).toNatClampNeg)),S) else none else some (some (.int (-1)),S):=Jb h rfl rfl<|JB h rfl (Jc h rfl k_m1<|Ji h rfl) (Jb h rfl rfl<|Jd h rfl rfl<|Jj h rfl (S 0 0)<|JJ h rfl (Jd h rfl rfl<|Jg h rfl<|Jb h rfl rfl<|Jo h rfl rfl (S 23 (x1).toNatClampNeg) fun i0=>Ji h rfl) (Jc h rfl k_m1<|Ji h rfl))
theorem EcE{f1}(h:Fx f1)(S):f1 (13,0,[.ref 0],[],S)=some (some (.int (S 0 12)),S):=Jd h rfl rfl<|Jj h rfl (S 0 12)<|Ji h rfl
theorem Em{f1}(h:Fx f1)(x1:Int32)(S):f1 (5,0,[.ref 0,.int x1],[],S)=if x1<0 then some (some (.int 0),S) else if x1<(S 0 0) then if (((S 0 1)>>>(x1&&&31))&&&1)=0 then some (some (.int 0),S) else some (some (.int 1),(upd S 0 1 ((S 0 1)&&&((1<<<(x1&&&31))^^^(-1))))) else some (some (.int 0),S):=Jb h rfl rfl<|JB h rfl (Jc h rfl k_0<|Jl h rfl) (Jb h rfl rfl<|Jd h rfl rfl<|Jj h rfl (S 0 0)<|JJ h rfl (Jd h rfl rfl<|Jj h rfl (S 0 1)<|Jb h rfl rfl<|JV h rfl<|Jc h rfl k_1<|Ju h rfl<|Js h rfl (Jc h rfl k_0<|Jl h rfl) (Jd h rfl rfl<|Jd h rfl rfl<|Jj h rfl (S 0 1)<|Jc h rfl k_1<|Jb h rfl rfl<|JI h rfl<|Jc h rfl k_m1<|JD h rfl<|Ju h rfl<|Jw h rfl<|Jc h rfl k_1<|JC h rfl)) (Jc h rfl k_0<|Jl h rfl))
theorem Ecz{f1}(h:Fx f1)(S):f1 (7,0,[.ref 0],[],S)=(f1 (18,0,[.ref 0],[],S)).bind fun q=>f1 (7,4,[.ref 0],q.1.toList++[],q.2):=Jd h rfl rfl<|Jf h rfl rfl
theorem Eex{f1}(h:Fx f1)(y0:Int32)(S):f1 (7,4,[.ref 0],[.int y0],S)=(f1 (16,0,[.ref 0,.int ((S 0 1)&&&y0)],[],S)).bind fun q=>f1 (7,17,[.ref 0,.int y0,.int ((S 0 1)&&&y0)],q.1.toList++[],q.2):=Je h rfl [.ref 0,.int y0]<|Jd h rfl rfl<|Jj h rfl (S 0 1)<|Jb h rfl rfl<|Ju h rfl<|Je h rfl [.ref 0,.int y0,.int ((S 0 1)&&&y0)]<|Jd h rfl rfl<|Jb h rfl rfl<|Jf h rfl rfl
theorem EeP{f1}(h:Fx f1)(x1 x2 y0:Int32)(S):f1 (7,17,[.ref 0,.int x1,.int x2],[.int y0],S)=some (some (.int y0),(upd S 0 1 0)):=Je h rfl [.ref 0,.int x1,.int x2,.int y0]<|Jd h rfl rfl<|Jc h rfl k_0<|Jw h rfl<|Jb h rfl rfl<|Ji h rfl
theorem Eo{f1}(h:Fx f1)(x1:Int32)(S):f1 (4,0,[.ref 0,.int x1],[],S)=if x1<0 then some (some (.int 0),S) else if x1<(S 0 0) then if (((S 0 1)>>>(x1&&&31))&&&1)=1 then some (some (.int 0),S) else some (some (.int 1),(upd S 0 1 ((S 0 1)|||(1<<<(x1&&&31))))) else some (some (.int 0),S):=Jb h rfl rfl<|JB h rfl (Jc h rfl k_0<|Jl h rfl) (Jb h rfl rfl<|Jd h rfl rfl<|Jj h rfl (S 0 0)<|JJ h rfl (Jd h rfl rfl<|Jj h rfl (S 0 1)<|Jb h rfl rfl<|JV h rfl<|Jc h rfl k_1<|Ju h rfl<|Jc h rfl k_1<|Jp h rfl (Jc h rfl k_0<|Jl h rfl) (Jd h rfl rfl<|Jd h rfl rfl<|Jj h rfl (S 0 1)<|Jc h rfl k_1<|Jb h rfl rfl<|JI h rfl<|JY h rfl<|Jw h rfl<|Jc h rfl k_1<|JC h rfl)) (Jc h rfl k_0<|Jl h rfl))
theorem EeF{f1}(h:Fx f1)(S):f1 (34,0,[.ref 0],[],S)=f1 (34,10,[.ref 0,.int 0],[],(upd S 0 5 (S 0 4))):=Jd h rfl rfl<|Jd h rfl rfl<|Jj h rfl (S 0 4)<|Jw h rfl<|Jc h rfl k_0<|Je h rfl [.ref 0,.int 0] rfl
theorem Eak{f1}(h:Fx f1)(x1:Int32)(S):f1 (34,10,[.ref 0,.int x1],[],S)=if x1<64 then if inb x1 64=true then f1 (34,10,[.ref 0,.int (x1+1)],[],(upd (upd (upd (upd S 6 (x1).toNatClampNeg (S 1 (x1).toNatClampNeg)) 7 (x1).toNatClampNeg (S 2 (x1).toNatClampNeg)) 8 (x1).toNatClampNeg (S 3 (x1).toNatClampNeg)) 10 (x1).toNatClampNeg ((S 5 (x1).toNatClampNeg)&&&1))) else none else f1 (34,72,[.ref 0,.int 0],[],S):=Jb h rfl rfl<|Jc h rfl k_64<|Jm h rfl (Jd h rfl rfl<|Jg h rfl<|Jb h rfl rfl<|Jd h rfl rfl<|Jg h rfl<|Jb h rfl rfl<|Jo h rfl rfl (S 1 (x1).toNatClampNeg) fun i0=>Jx h rfl rfl (S 1 (x1).toNatClampNeg) i0<|Jd h rfl rfl<|Jg h rfl<|Jb h rfl rfl<|Jd h rfl rfl<|Jg h rfl<|Jb h rfl rfl<|JF h rfl rfl i0 (S 2 (x1).toNatClampNeg)<|Jx h rfl rfl (S 2 (x1).toNatClampNeg) i0<|Jd h rfl rfl<|Jg h rfl<|Jb h rfl rfl<|Jd h rfl rfl<|Jg h rfl<|Jb h rfl rfl<|JF h rfl rfl i0 (S 3 (x1).toNatClampNeg)<|Jx h rfl rfl (S 3 (x1).toNatClampNeg) i0<|Jd h rfl rfl<|Jg h rfl<|Jb h rfl rfl<|Jd h rfl rfl<|Jg h rfl<|Jb h rfl rfl<|JaA h rfl rfl i0 (S 5 (x1).toNatClampNeg)<|J4 h rfl rfl ((S 5 (x1).toNatClampNeg)&&&1) i0<|Jn h rfl k_1 rfl [.ref 0,.int (x1+1)]<|Jh h rfl rfl) (Jc h rfl k_0<|Je h rfl [.ref 0,.int 0] rfl)
theorem Eal{f1}(h:Fx f1)(x1:Int32)(S):f1 (34,72,[.ref 0,.int x1],[],S)=if x1<512 then if inb x1 512=true then f1 (34,72,[.ref 0,.int (x1+1)],[],(upd S 9 (x1).toNatClampNeg (S 4 (x1).toNatClampNeg))) else none else some (none,S):=Jb h rfl rfl<|Jc h rfl k_512<|Jm h rfl (Jd h rfl rfl<|Jg h rfl<|Jb h rfl rfl<|Jd h rfl rfl<|Jg h rfl<|Jb h rfl rfl<|Jo h rfl rfl (S 4 (x1).toNatClampNeg) fun i0=>Jx h rfl rfl (S 4 (x1).toNatClampNeg) i0<|Jn h rfl k_1 rfl [.ref 0,.int (x1+1)]<|Jh h rfl rfl) (Jk h rfl)
theorem Eby{f1}(h:Fx f1)(x1:Int32)(S):f1 (42,0,[.ref 0,.int x1],[],S)=(f1 (36,0,[.ref 0],[],S)).bind fun q=>f1 (42,4,[.ref 0,.int x1],q.1.toList++[],q.2):=Jd h rfl rfl<|Jf h rfl rfl
theorem Eeb{f1}(h:Fx f1)(x1:Int32)(S):f1 (42,4,[.ref 0,.int x1],[],S)=(f1 (37,0,[.ref 0],[],S)).bind fun q=>f1 (42,8,[.ref 0,.int x1],q.1.toList++[],q.2):=Jd h rfl rfl<|Jf h rfl rfl
theorem Ea8{f1}(h:Fx f1)(x1:Int32)(S):f1 (42,8,[.ref 0,.int x1],[],S)=(f1 (43,0,[.ref 0,.int x1],[],S)).bind fun q=>f1 (42,13,[.ref 0,.int x1],q.1.toList++[],q.2):=Jd h rfl rfl<|Jb h rfl rfl<|Jf h rfl rfl
theorem Ea5{f1}(h:Fx f1)(x1:Int32)(S):f1 (42,13,[.ref 0,.int x1],[],S)=(f1 (44,0,[.ref 0,.int x1],[],S)).bind fun q=>f1 (42,18,[.ref 0,.int x1],q.1.toList++[],q.2):=Jd h rfl rfl<|Jb h rfl rfl<|Jf h rfl rfl
theorem EbX{f1}(h:Fx f1)(x1 y0:Int32)(S):f1 (42,18,[.ref 0,.int x1],[.int y0],S)=if y0<0 then some (some (.int 0),S) else f1 (42,27,[.ref 0,.int x1,.int y0,.int 0],[],S):=Je h rfl [.ref 0,.int x1,.int y0]<|Jb h rfl rfl<|JP h rfl (Jc h rfl k_0<|Jl h rfl) (Jc h rfl k_0<|Je h rfl [.ref 0,.int x1,.int y0,.int 0] rfl)
theorem ED{f1}(h:Fx f1)(x1 x2 x3:Int32)(S):f1 (42,27,[.ref 0,.int x1,.int x2,.int x3],[],S)=if x3<x2 then if x3<64 then if inb x3 64=true then (f1 (22,0,[.ref 0,.int (S 13 (x3).toNatClampNeg)],[],S)).bind fun q=>f1 (42,52,[.ref 0,.int x1,.int x2,.int x3,.int (S 13 (x3).toNatClampNeg)],q.1.toList++[],q.2) else none else if inb x2 64=true then (f1 (46,0,[.ref 0,.int (S 13 (x2).toNatClampNeg)],[],S)).bind fun q=>f1 (42,96,[.ref 0,.int x1,.int x2,.int (S 13 (x2).toNatClampNeg)],q.1.toList++[],q.2) else none else if inb x2 64=true then (f1 (46,0,[.ref 0,.int (S 13 (x2).toNatClampNeg)],[],S)).bind fun q=>f1 (42,96,[.ref 0,.int x1,.int x2,.int (S 13 (x2).toNatClampNeg)],q.1.toList++[],q.2) else none:=Jb h rfl rfl<|Jb h rfl rfl<|Jm h rfl (Jb h rfl rfl<|Jc h rfl k_64<|Jm h rfl (Jd h rfl rfl<|Jg h rfl<|Jb h rfl rfl<|Jo h rfl rfl (S 13 (x3).toNatClampNeg) fun i0=>Je h rfl [.ref 0,.int x1,.int x2,.int x3,.int (S 13 (x3).toNatClampNeg)]<|Jd h rfl rfl<|Jb h rfl rfl<|Jf h rfl rfl) (Jd h rfl rfl<|Jg h rfl<|Jb h rfl rfl<|Jo h rfl rfl (S 13 (x2).toNatClampNeg) fun i0=>Je h rfl [.ref 0,.int x1,.int x2,.int (S 13 (x2).toNatClampNeg)]<|Jd h rfl rfl<|Jb h rfl rfl<|Jf h rfl rfl)) (Jd h rfl rfl<|Jg h rfl<|Jb h rfl rfl<|Jo h rfl rfl (S 13 (x2).toNatClampNeg) fun i0=>Je h rfl [.ref 0,.int x1,.int x2,.int (S 13 (x2).toNatClampNeg)]<|Jd h rfl rfl<|Jb h rfl rfl<|Jf h rfl rfl)
theorem Ec{f1}(h:Fx f1)(x1 x2 x3 x4 y0:Int32)(S):f1 (42,52,[.ref 0,.int x1,.int x2,.int x3,.int x4],[.int y0],S)=if y0=0 then f1 (42,27,[.ref 0,.int x1,.int x2,.int (x3+1)],[],S) else if inb x4 64=true then if ((S 12 (x4).toNatClampNeg)&&&x1)=0 then f1 (42,27,[.ref 0,.int x1,.int x2,.int (x3+1)],[],S) else (f1 (45,0,[.ref 0,.int x4],[],S)).bind fun q=>f1 (42,73,[.ref 0,.int x1,.int x2,.int x3,.int x4],q.1.toList++[],q.2) else none:=Jy h rfl (Jn h rfl k_1 rfl [.ref 0,.int x1,.int x2,.int (x3+1),.int x4]<|Jh h rfl<|Jr h rfl rfl) (Jd h rfl rfl<|Jg h rfl<|Jb h rfl rfl<|Jo h rfl rfl (S 12 (x4).toNatClampNeg) fun i0=>Jb h rfl rfl<|Ju h rfl<|Jy h rfl (Jn h rfl k_1 rfl [.ref 0,.int x1,.int x2,.int (x3+1),.int x4]<|Jh h rfl<|Jr h rfl rfl) (Jd h rfl rfl<|Jb h rfl rfl<|Jf h rfl rfl))
theorem EbB{f1}(h:Fx f1)(x1 x2 x3 x4 y0:Int32)(S):f1 (42,73,[.ref 0,.int x1,.int x2,.int x3,.int x4],[.int y0],S)=if y0=0 then some (some (.int 0),S) else f1 (42,27,[.ref 0,.int x1,.int x2,.int (x3+1)],[],S):=Js h rfl (Jc h rfl k_0<|Jl h rfl) (Jn h rfl k_1 rfl [.ref 0,.int x1,.int x2,.int (x3+1),.int x4]<|Jh h rfl<|Jr h rfl rfl)
theorem Ey{f1}(h:Fx f1)(x1 x2 x3 y0:Int32)(S):f1 (42,96,[.ref 0,.int x1,.int x2,.int x3],[.int y0],S)=if y0=0 then some (some (.int 0),S) else (f1 (39,0,[.ref 0],[],S)).bind fun q=>f1 (42,105,[.ref 0,.int x1,.int x2,.int x3],q.1.toList++[],q.2):=Js h rfl (Jc h rfl k_0<|Jl h rfl) (Jd h rfl rfl<|Jf h rfl rfl)
theorem Ecs{f1}(h:Fx f1)(x1 x2 x3:Int32)(S):f1 (42,105,[.ref 0,.int x1,.int x2,.int x3],[],S)=(f1 (38,0,[.ref 0],[],S)).bind fun q=>f1 (42,109,[.ref 0,.int x1,.int x2,.int x3],q.1.toList++[],q.2):=Jd h rfl rfl<|Jf h rfl rfl
theorem Edn{f1}(h:Fx f1)(x1 x2 x3:Int32)(S):f1 (42,109,[.ref 0,.int x1,.int x2,.int x3],[],S)=some (some (.int 1),S):=Jc h rfl k_1<|JC h rfl
theorem Edr{f1}(h:Fx f1)(S):f1 (37,0,[.ref 0],[],S)=f1 (37,2,[.ref 0,.int 0],[],S):=Jc h rfl k_0<|Je h rfl [.ref 0,.int 0] rfl
theorem Eas{f1}(h:Fx f1)(x1:Int32)(S):f1 (37,2,[.ref 0,.int x1],[],S)=if x1<(S 0 6) then if x1<64 then if inb x1 64=true then (f1 (21,0,[.ref 0,.int (S 13 (x1).toNatClampNeg)],[],S)).bind fun q=>f1 (37,28,[.ref 0,.int x1,.int (S 13 (x1).toNatClampNeg)],q.1.toList++[],q.2) else none else some (none,S) else some (none,S):=Jb h rfl rfl<|Jd h rfl rfl<|Jj h rfl (S 0 6)<|Jm h rfl (Jb h rfl rfl<|Jc h rfl k_64<|Jm h rfl (Jd h rfl rfl<|Jg h rfl<|Jb h rfl rfl<|Jo h rfl rfl (S 13 (x1).toNatClampNeg) fun i0=>Je h rfl [.ref 0,.int x1,.int (S 13 (x1).toNatClampNeg)]<|Jd h rfl rfl<|Jb h rfl rfl<|Jf h rfl rfl) (Jk h rfl)) (Jk h rfl)
theorem EaE{f1}(h:Fx f1)(x1 x2 y0:Int32)(S):f1 (37,28,[.ref 0,.int x1,.int x2],[.int y0],S)=if y0=0 then f1 (37,2,[.ref 0,.int (x1+1)],[],S) else if inb x2 64=true then if (S 1 (x2).toNatClampNeg)=0 then if x2<8 then f1 (37,2,[.ref 0,.int (x1+1)],[],(upd S 12 (x2).toNatClampNeg (1<<<(x2&&&31)))) else f1 (37,2,[.ref 0,.int (x1+1)],[],(upd S 12 (x2).toNatClampNeg 0)) else (f1 (23,0,[.ref 0,.int x2],[],S)).bind fun q=>f1 (37,72,[.ref 0,.int x1,.int x2,.int 0],q.1.toList++[],q.2) else none:=Js h rfl (Jh h rfl<|Jn h rfl k_1 rfl [.ref 0,.int (x1+1),.int x2]<|Jh h rfl<|Jr h rfl rfl) (Jd h rfl rfl<|Jg h rfl<|Jb h rfl rfl<|Jo h rfl rfl (S 1 (x2).toNatClampNeg) fun i0=>Js h rfl (Jd h rfl rfl<|Jg h rfl<|Jb h rfl rfl<|Jb h rfl rfl<|Jc h rfl k_8<|Jm h rfl (Jc h rfl k_1<|Jb h rfl rfl<|JI h rfl<|Jh h rfl<|Jx h rfl rfl (1<<<(x2&&&31)) i0<|Jh h rfl<|Jn h rfl k_1 rfl [.ref 0,.int (x1+1),.int x2]<|Jh h rfl<|Jr h rfl rfl) (Jc h rfl k_0<|Jx h rfl rfl 0 i0<|Jh h rfl<|Jn h rfl k_1 rfl [.ref 0,.int (x1+1),.int x2]<|Jh h rfl<|Jr h rfl rfl)) (Jc h rfl k_0<|Je h rfl [.ref 0,.int x1,.int x2,.int 0]<|Jd h rfl rfl<|Jb h rfl rfl<|Jf h rfl rfl))
theorem Edt{f1}(h:Fx f1)(x1 x2 x3 y0:Int32)(S):f1 (37,72,[.ref 0,.int x1,.int x2,.int x3],[.int y0],S)=f1 (37,77,[.ref 0,.int x1,.int x2,.int x3,.int y0,.int 0],[],S):=Je h rfl [.ref 0,.int x1,.int x2,.int x3,.int y0]<|Jc h rfl k_0<|Je h rfl [.ref 0,.int x1,.int x2,.int x3,.int y0,.int 0] rfl
theorem EaH{f1}(h:Fx f1)(x1 x2 x3 x4 x5:Int32)(S):f1 (37,77,[.ref 0,.int x1,.int x2,.int x3,.int x4,.int x5],[],S)=if x5<x4 then if x5<8 then (f1 (24,0,[.ref 0,.int x2,.int x5],[],S)).bind fun q=>f1 (37,98,[.ref 0,.int x1,.int x2,.int x3,.int x4,.int x5],q.1.toList++[],q.2) else if inb x2 64=true then f1 (37,2,[.ref 0,.int (x1+1)],[],(upd S 12 (x2).toNatClampNeg x3)) else none else if inb x2 64=true then f1 (37,2,[.ref 0,.int (x1+1)],[],(upd S 12 (x2).toNatClampNeg x3)) else none:=Jb h rfl rfl<|Jb h rfl rfl<|Jm h rfl (Jb h rfl rfl<|Jc h rfl k_8<|Jm h rfl (Jd h rfl rfl<|Jb h rfl rfl<|Jb h rfl rfl<|Jf h rfl rfl) (Jd h rfl rfl<|Jg h rfl<|Jb h rfl rfl<|Jb h rfl rfl<|Jv h rfl rfl x3 fun i0=>Jr h rfl<|Jn h rfl k_1 rfl [.ref 0,.int (x1+1),.int x2]<|Jh h rfl<|Jr h rfl rfl)) (Jd h rfl rfl<|Jg h rfl<|Jb h rfl rfl<|Jb h rfl rfl<|Jv h rfl rfl x3 fun i0=>Jr h rfl<|Jn h rfl k_1 rfl [.ref 0,.int (x1+1),.int x2]<|Jh h rfl<|Jr h rfl rfl)
theorem EbO{f1}(h:Fx f1)(x1 x2 x3 x4 x5 y0:Int32)(S):f1 (37,98,[.ref 0,.int x1,.int x2,.int x3,.int x4,.int x5],[.int y0],S)=(f1 (21,0,[.ref 0,.int y0],[],S)).bind fun q=>f1 (37,106,[.ref 0,.int x1,.int x2,.int x3,.int x4,.int x5,.int y0],q.1.toList++[],q.2):=Je h rfl [.ref 0,.int x1,.int x2,.int x3,.int x4,.int x5,.int y0]<|Jd h rfl rfl<|Jb h rfl rfl<|Jf h rfl rfl
theorem EcP{f1}(h:Fx f1)(x1 x2 x3 x4 x5 x6 y0:Int32)(S):f1 (37,106,[.ref 0,.int x1,.int x2,.int x3,.int x4,.int x5,.int x6],[.int y0],S)=if y0=0 then f1 (37,77,[.ref 0,.int x1,.int x2,.int x3,.int x4,.int (x5+1)],[],S) else if inb x6 64=true then f1 (37,77,[.ref 0,.int x1,.int x2,.int (x3|||(S 12 (x6).toNatClampNeg)),.int x4,.int (x5+1)],[],S) else none:=Jy h rfl (Jn h rfl k_1 rfl [.ref 0,.int x1,.int x2,.int x3,.int x4,.int (x5+1),.int x6]<|Jh h rfl<|Jr h rfl rfl) (Jb h rfl rfl<|Jd h rfl rfl<|Jg h rfl<|Jb h rfl rfl<|Jo h rfl rfl (S 12 (x6).toNatClampNeg) fun i0=>JY h rfl<|Je h rfl [.ref 0,.int x1,.int x2,.int (x3|||(S 12 (x6).toNatClampNeg)),.int x4,.int x5,.int x6]<|Jn h rfl k_1 rfl [.ref 0,.int x1,.int x2,.int (x3|||(S 12 (x6).toNatClampNeg)),.int x4,.int (x5+1),.int x6]<|Jh h rfl<|Jr h rfl rfl)
theorem Eb9{f1}(h:Fx f1)(x1:Int32)(S):f1 (43,0,[.ref 0,.int x1],[],S)=f1 (43,2,[.ref 0,.int x1,.int 0],[],S):=Jc h rfl k_0<|Je h rfl [.ref 0,.int x1,.int 0] rfl
theorem Eag{f1}(h:Fx f1)(x1 x2:Int32)(S):f1 (43,2,[.ref 0,.int x1,.int x2],[],S)=if x2<64 then if inb x2 64=true then f1 (43,2,[.ref 0,.int x1,.int (x2+1)],[],(upd S 11 (x2).toNatClampNeg 0)) else none else f1 (43,23,[.ref 0,.int x1,.int 0],[],S):=Jb h rfl rfl<|Jc h rfl k_64<|Jm h rfl (Jd h rfl rfl<|Jg h rfl<|Jb h rfl rfl<|Jc h rfl k_0<|Jv h rfl rfl 0 fun i0=>Jn h rfl k_1 rfl [.ref 0,.int x1,.int (x2+1)]<|Jh h rfl rfl) (Jc h rfl k_0<|Je h rfl [.ref 0,.int x1,.int 0] rfl)
theorem EV{f1}(h:Fx f1)(x1 x2:Int32)(S):f1 (43,23,[.ref 0,.int x1,.int x2],[],S)=if x2<(S 0 0) then if x2<8 then if ((x1>>>(x2&&&31))&&&1)=1 then if inb x2 64=true then f1 (43,23,[.ref 0,.int x1,.int (x2+1)],[],(upd S 11 (x2).toNatClampNeg 1)) else none else f1 (43,23,[.ref 0,.int x1,.int (x2+1)],[],S) else some (none,S) else some (none,S):=Jb h rfl rfl<|Jd h rfl rfl<|Jj h rfl (S 0 0)<|Jm h rfl (Jb h rfl rfl<|Jc h rfl k_8<|Jm h rfl (Jb h rfl rfl<|Jb h rfl rfl<|JV h rfl<|Jc h rfl k_1<|Ju h rfl<|Jc h rfl k_1<|Jp h rfl (Jd h rfl rfl<|Jg h rfl<|Jb h rfl rfl<|Jc h rfl k_1<|Jv h rfl rfl 1 fun i0=>Jn h rfl k_1 rfl [.ref 0,.int x1,.int (x2+1)]<|Jh h rfl rfl) (Jn h rfl k_1 rfl [.ref 0,.int x1,.int (x2+1)]<|Jh h rfl rfl)) (Jk h rfl)) (Jk h rfl)
theorem Ecb{f1}(h:Fx f1)(x1:Int32)(S):f1 (44,0,[.ref 0,.int x1],[],S)=f1 (44,2,[.ref 0,.int x1,.int 0],[],S):=Jc h rfl k_0<|Je h rfl [.ref 0,.int x1,.int 0] rfl
theorem Ee1{f1}(h:Fx f1)(x1 x2:Int32)(S):f1 (44,2,[.ref 0,.int x1,.int x2],[],S)=if x2<(S 0 6) then if x2<64 then if inb x2 64=true then (f1 (21,0,[.ref 0,.int (S 13 (x2).toNatClampNeg)],[],S)).bind fun q=>f1 (44,28,[.ref 0,.int x1,.int x2,.int (S 13 (x2).toNatClampNeg)],q.1.toList++[],q.2) else none else some (some (.int (-1)),S) else some (some (.int (-1)),S):=Jb h rfl rfl<|Jd h rfl rfl<|Jj h rfl (S 0 6)<|Jm h rfl (Jb h rfl rfl<|Jc h rfl k_64<|Jm h rfl (Jd h rfl rfl<|Jg h rfl<|Jb h rfl rfl<|Jo h rfl rfl (S 13 (x2).toNatClampNeg) fun i0=>Je h rfl [.ref 0,.int x1,.int x2,.int (S 13 (x2).toNatClampNeg)]<|Jd h rfl rfl<|Jb h rfl rfl<|Jf h rfl rfl) (Jc h rfl k_m1<|Ji h rfl)) (Jc h rfl k_m1<|Ji h rfl)
theorem EdG{f1}(h:Fx f1)(x1 x2 x3 y0:Int32)(S):f1 (44,28,[.ref 0,.int x1,.int x2,.int x3],[.int y0],S)=if y0=0 then f1 (44,2,[.ref 0,.int x1,.int (x2+1)],[],S) else if inb x3 64=true then if ((S 12 (x3).toNatClampNeg)&&&x1)=x1 then some (some (.int x2),S) else f1 (44,2,[.ref 0,.int x1,.int (x2+1)],[],S) else none:=Jy h rfl (Jn h rfl k_1 rfl [.ref 0,.int x1,.int (x2+1),.int x3]<|Jh h rfl<|Jr h rfl rfl) (Jd h rfl rfl<|Jg h rfl<|Jb h rfl rfl<|Jo h rfl rfl (S 12 (x3).toNatClampNeg) fun i0=>Jb h rfl rfl<|Ju h rfl<|Jb h rfl rfl<|Jp h rfl (Jb h rfl rfl<|Ji h rfl) (Jn h rfl k_1 rfl [.ref 0,.int x1,.int (x2+1),.int x3]<|Jh h rfl<|Jr h rfl rfl))
theorem Eab{f1}(h:Fx f1)(x1:Int32)(S):f1 (46,0,[.ref 0,.int x1],[],S)=(f1 (22,0,[.ref 0,.int x1],[],S)).bind fun q=>f1 (46,5,[.ref 0,.int x1],q.1.toList++[],q.2):=Jd h rfl rfl<|Jb h rfl rfl<|Jf h rfl rfl
theorem Eao{f1}(h:Fx f1)(x1 y0:Int32)(S):f1 (46,5,[.ref 0,.int x1],[.int y0],S)=if y0=0 then some (some (.int 1),S) else if inb x1 64=true then if (S 1 (x1).toNatClampNeg)=1 then (f1 (59,0,[.ref 0,.int x1],[],S)).bind fun q=>f1 (46,25,[.ref 0,.int x1],q.1.toList++[],q.2) else (f1 (65,0,[.ref 0,.int x1],[],S)).bind fun q=>f1 (46,31,[.ref 0,.int x1],q.1.toList++[],q.2) else none:=Js h rfl (Jc h rfl k_1<|JC h rfl) (Jd h rfl rfl<|Jg h rfl<|Jb h rfl rfl<|Jo h rfl rfl (S 1 (x1).toNatClampNeg) fun i0=>Jc h rfl k_1<|Jp h rfl (Jd h rfl rfl<|Jb h rfl rfl<|Jf h rfl rfl) (Jd h rfl rfl<|Jb h rfl rfl<|Jf h rfl rfl))
theorem Ech{f1}(h:Fx f1)(x1 y0:Int32)(S):f1 (46,25,[.ref 0,.int x1],[.int y0],S)=some (some (.int (y0&&&1)),S):=J6 h rfl
theorem EeB{f1}(h:Fx f1)(x1 y0:Int32)(S):f1 (46,31,[.ref 0,.int x1],[.int y0],S)=some (some (.int (y0&&&1)),S):=J6 h rfl
theorem Ebu{f1}(h:Fx f1)(x1:Int32)(S):f1 (59,0,[.ref 0,.int x1],[],S)=(f1 (47,0,[.ref 0,.int x1],[],S)).bind fun q=>f1 (59,5,[.ref 0,.int x1],q.1.toList++[],q.2):=Jd h rfl rfl<|Jb h rfl rfl<|Jf h rfl rfl
theorem EbP{f1}(h:Fx f1)(x1:Int32)(S):f1 (59,5,[.ref 0,.int x1],[],S)=if (S 0 10)<3 then if (S 0 10)=0 then (f1 (60,0,[.ref 0,.int x1],[],S)).bind fun q=>f1 (59,27,[.ref 0,.int x1],q.1.toList++[],q.2) else if (S 0 10)=1 then (f1 (61,0,[.ref 0,.int x1],[],S)).bind fun q=>f1 (59,41,[.ref 0,.int x1],q.1.toList++[],q.2) else (f1 (62,0,[.ref 0,.int x1],[],S)).bind fun q=>f1 (59,47,[.ref 0,.int x1],q.1.toList++[],q.2) else some (some (.int 0),S):=Jd h rfl rfl<|Jj h rfl (S 0 10)<|Jc h rfl k_3<|JJ h rfl (Jd h rfl rfl<|Jj h rfl (S 0 10)<|Js h rfl (Jd h rfl rfl<|Jb h rfl rfl<|Jf h rfl rfl) (Jd h rfl rfl<|Jj h rfl (S 0 10)<|Jc h rfl k_1<|Jp h rfl (Jd h rfl rfl<|Jb h rfl rfl<|Jf h rfl rfl) (Jd h rfl rfl<|Jb h rfl rfl<|Jf h rfl rfl))) (Jc h rfl k_0<|Jl h rfl)
theorem EeT{f1}(h:Fx f1)(x1 y0:Int32)(S):f1 (59,27,[.ref 0,.int x1],[.int y0],S)=some (some (.int (y0&&&1)),S):=J6 h rfl
theorem EdK{f1}(h:Fx f1)(x1 y0:Int32)(S):f1 (59,41,[.ref 0,.int x1],[.int y0],S)=some (some (.int (y0&&&1)),S):=J6 h rfl
theorem EbZ{f1}(h:Fx f1)(x1 y0:Int32)(S):f1 (59,47,[.ref 0,.int x1],[.int y0],S)=some (some (.int (y0&&&1)),S):=J6 h rfl
theorem Ec8{f1}(h:Fx f1)(x1:Int32)(S):f1 (47,0,[.ref 0,.int x1],[],S)=(f1 (23,0,[.ref 0,.int x1],[],(upd (upd (upd S 0 8 0) 0 9 0) 0 10 0))).bind fun q=>f1 (47,20,[.ref 0,.int x1],q.1.toList++[],q.2):=Jd h rfl rfl<|Jc h rfl k_0<|Jw h rfl<|Jd h rfl rfl<|Jc h rfl k_0<|Jw h rfl<|Jd h rfl rfl<|Jc h rfl k_0<|Jw h rfl<|Jd h rfl rfl<|Jb h rfl rfl<|Jf h rfl rfl
theorem Eed{f1}(h:Fx f1)(x1 y0:Int32)(S):f1 (47,20,[.ref 0,.int x1],[.int y0],S)=f1 (47,23,[.ref 0,.int x1,.int y0,.int 0],[],S):=Je h rfl [.ref 0,.int x1,.int y0]<|Jc h rfl k_0<|Je h rfl [.ref 0,.int x1,.int y0,.int 0] rfl
theorem Ear{f1}(h:Fx f1)(x1 x2 x3:Int32)(S):f1 (47,23,[.ref 0,.int x1,.int x2,.int x3],[],S)=if x3<x2 then if x3<8 then (f1 (24,0,[.ref 0,.int x1,.int x3],[],S)).bind fun q=>f1 (47,40,[.ref 0,.int x1,.int x2,.int x3],q.1.toList++[],q.2) else some (none,S) else some (none,S):=Jb h rfl rfl<|Jb h rfl rfl<|Jm h rfl (Jb h rfl rfl<|Jc h rfl k_8<|Jm h rfl (Jd h rfl rfl<|Jb h rfl rfl<|Jb h rfl rfl<|Jf h rfl rfl) (Jk h rfl)) (Jk h rfl)
theorem EeE{f1}(h:Fx f1)(x1 x2 x3 y0:Int32)(S):f1 (47,40,[.ref 0,.int x1,.int x2,.int x3],[.int y0],S)=(f1 (26,0,[.ref 0,.int y0],[],S)).bind fun q=>f1 (47,48,[.ref 0,.int x1,.int x2,.int x3,.int y0],q.1.toList++[],q.2):=Je h rfl [.ref 0,.int x1,.int x2,.int x3,.int y0]<|Jd h rfl rfl<|Jb h rfl rfl<|Jf h rfl rfl
theorem Eb1{f1}(h:Fx f1)(x1 x2 x3 x4 y0:Int32)(S):f1 (47,48,[.ref 0,.int x1,.int x2,.int x3,.int x4],[.int y0],S)=if y0=1 then if (S 0 9)<8 then if inb (S 0 9) 8=true then f1 (47,23,[.ref 0,.int x1,.int x2,.int (x3+1)],[],(upd (upd S 18 ((S 0 9)).toNatClampNeg x4) 0 9 ((S 0 9)+1))) else none else f1 (47,89,[.ref 0,.int x1,.int x2,.int x3,.int x4,.int y0],[],S) else f1 (47,89,[.ref 0,.int x1,.int x2,.int x3,.int x4,.int y0],[],S):=Je h rfl [.ref 0,.int x1,.int x2,.int x3,.int x4,.int y0]<|Jb h rfl rfl<|Jc h rfl k_1<|Jp h rfl (Jd h rfl rfl<|Jj h rfl (S 0 9)<|Jc h rfl k_8<|Jm h rfl (Jd h rfl rfl<|Jg h rfl<|Jd h rfl rfl<|Jj h rfl (S 0 9)<|Jb h rfl rfl<|Jv h rfl rfl x4 fun i0=>Jd h rfl rfl<|JN h rfl<|Jj h rfl (S 0 9)<|Jc h rfl k_1<|Jt h rfl<|Jw h rfl<|Jh h rfl<|Jn h rfl k_1 rfl [.ref 0,.int x1,.int x2,.int (x3+1),.int x4,.int y0]<|Jh h rfl<|Jr h rfl rfl) rfl) rfl
theorem Eay{f1}(h:Fx f1)(x1 x2 x3 x4 x5:Int32)(S):f1 (47,89,[.ref 0,.int x1,.int x2,.int x3,.int x4,.int x5],[],S)=if x5=2 then if (S 0 10)<8 then if inb (S 0 10) 8=true then f1 (47,23,[.ref 0,.int x1,.int x2,.int (x3+1)],[],(upd (upd S 19 ((S 0 10)).toNatClampNeg x4) 0 10 ((S 0 10)+1))) else none else f1 (47,128,[.ref 0,.int x1,.int x2,.int x3,.int x4,.int x5],[],S) else f1 (47,128,[.ref 0,.int x1,.int x2,.int x3,.int x4,.int x5],[],S):=Jb h rfl rfl<|Jc h rfl k_2<|Jp h rfl (Jd h rfl rfl<|Jj h rfl (S 0 10)<|Jc h rfl k_8<|Jm h rfl (Jd h rfl rfl<|Jg h rfl<|Jd h rfl rfl<|Jj h rfl (S 0 10)<|Jb h rfl rfl<|Jv h rfl rfl x4 fun i0=>Jd h rfl rfl<|JN h rfl<|Jj h rfl (S 0 10)<|Jc h rfl k_1<|Jt h rfl<|Jw h rfl<|Jh h rfl<|Jn h rfl k_1 rfl [.ref 0,.int x1,.int x2,.int (x3+1),.int x4,.int x5]<|Jh h rfl<|Jr h rfl rfl) rfl) rfl
theorem Edh{f1}(h:Fx f1)(x1 x2 x3 x4 x5:Int32)(S):f1 (47,128,[.ref 0,.int x1,.int x2,.int x3,.int x4,.int x5],[],S)=if (S 0 8)<8 then if inb (S 0 8) 8=true then f1 (47,23,[.ref 0,.int x1,.int x2,.int (x3+1)],[],(upd (upd S 17 ((S 0 8)).toNatClampNeg x4) 0 8 ((S 0 8)+1))) else none else f1 (47,23,[.ref 0,.int x1,.int x2,.int (x3+1)],[],S):=Jd h rfl rfl<|Jj h rfl (S 0 8)<|Jc h rfl k_8<|Jm h rfl (Jd h rfl rfl<|Jg h rfl<|Jd h rfl rfl<|Jj h rfl (S 0 8)<|Jb h rfl rfl<|Jv h rfl rfl x4 fun i0=>Jd h rfl rfl<|JN h rfl<|Jj h rfl (S 0 8)<|Jc h rfl k_1<|Jt h rfl<|Jw h rfl<|Jn h rfl k_1 rfl [.ref 0,.int x1,.int x2,.int (x3+1),.int x4,.int x5]<|Jh h rfl<|Jr h rfl rfl) (Jn h rfl k_1 rfl [.ref 0,.int x1,.int x2,.int (x3+1),.int x4,.int x5]<|Jh h rfl<|Jr h rfl rfl)
theorem Eew{f1}(h:Fx f1)(x1:Int32)(S):f1 (26,0,[.ref 0,.int x1],[],S)=(f1 (21,0,[.ref 0,.int x1],[],S)).bind fun q=>f1 (26,5,[.ref 0,.int x1],q.1.toList++[],q.2):=Jd h rfl rfl<|Jb h rfl rfl<|Jf h rfl rfl
theorem Eb6{f1}(h:Fx f1)(x1 y0:Int32)(S):f1 (26,5,[.ref 0,.int x1],[.int y0],S)=if y0=0 then some (some (.int 0),S) else if inb x1 64=true then some (some (.int (S 11 (x1).toNatClampNeg)),S) else none:=Js h rfl (Jc h rfl k_0<|Ji h rfl) (Jd h rfl rfl<|Jg h rfl<|Jb h rfl rfl<|Jo h rfl rfl (S 11 (x1).toNatClampNeg) fun i0=>Ji h rfl)
theorem Ed1{f1}(h:Fx f1)(x1:Int32)(S):f1 (60,0,[.ref 0,.int x1],[],S)=if (S 0 8)=0 then some (some (.int 1),S) else if (S 0 9)<2 then some (some (.int 1),S) else (f1 (48,0,[.ref 0,.int 1],[],S)).bind fun q=>f1 (60,22,[.ref 0,.int x1],q.1.toList++[],q.2):=Jd h rfl rfl<|Jj h rfl (S 0 8)<|Jy h rfl (Jc h rfl k_1<|JC h rfl) (Jd h rfl rfl<|Jj h rfl (S 0 9)<|Jc h rfl k_2<|Jm h rfl (Jc h rfl k_1<|JC h rfl) (Jd h rfl rfl<|Jc h rfl k_1<|Jf h rfl rfl))
theorem EcF{f1}(h:Fx f1)(x1 y0:Int32)(S):f1 (60,22,[.ref 0,.int x1],[.int y0],S)=if y0<0 then some (some (.int 0),S) else (f1 (49,0,[.ref 0],[],S)).bind fun q=>f1 (60,33,[.ref 0,.int x1,.int y0],q.1.toList++[],q.2):=Je h rfl [.ref 0,.int x1,.int y0]<|Jb h rfl rfl<|JP h rfl (Jc h rfl k_0<|Jl h rfl) (Jd h rfl rfl<|Jf h rfl rfl)
theorem EaQ{f1}(h:Fx f1)(x1 x2:Int32)(S):f1 (60,33,[.ref 0,.int x1,.int x2],[],S)=(f1 (51,0,[.ref 0],[],S)).bind fun q=>f1 (60,37,[.ref 0,.int x1,.int x2],q.1.toList++[],q.2):=Jd h rfl rfl<|Jf h rfl rfl
theorem Edi{f1}(h:Fx f1)(x1 x2:Int32)(S):f1 (60,37,[.ref 0,.int x1,.int x2],[],S)=(f1 (50,0,[.ref 0,.int x2],[],S)).bind fun q=>f1 (60,42,[.ref 0,.int x1,.int x2],q.1.toList++[],q.2):=Jd h rfl rfl<|Jb h rfl rfl<|Jf h rfl rfl
theorem Ecx{f1}(h:Fx f1)(x1 x2:Int32)(S):f1 (60,42,[.ref 0,.int x1,.int x2],[],S)=(f1 (53,0,[.ref 0,.int x1],[],S)).bind fun q=>f1 (60,47,[.ref 0,.int x1,.int x2],q.1.toList++[],q.2):=Jd h rfl rfl<|Jb h rfl rfl<|Jf h rfl rfl
theorem Ebc{f1}(h:Fx f1)(x1 x2 y0:Int32)(S):f1 (60,47,[.ref 0,.int x1,.int x2],[.int y0],S)=some (some (.int (y0&&&1)),S):=J6 h rfl
theorem Ed{f1}(h:Fx f1)(x1:Int32)(S):f1 (48,0,[.ref 0,.int x1],[],S)=if x1=0 then f1 (48,15,[.ref 0,.int x1],[.int (S 0 8)],S) else f1 (48,15,[.ref 0,.int x1],[.int (S 0 9)],S):=Jb h rfl rfl<|Jy h rfl (Jd h rfl rfl<|Jj h rfl (S 0 8) rfl) (Jd h rfl rfl<|Jj h rfl (S 0 9)<|Jh h rfl rfl)
theorem Eb{f1}(h:Fx f1)(x1 y0:Int32)(S):f1 (48,15,[.ref 0,.int x1],[.int y0],S)=if 0<y0 then if y0=1 then if x1=0 then some (some (.int (S 17 0)),S) else some (some (.int (S 18 0)),S) else if x1=0 then (f1 (32,0,[.ref 0,.int 1,.int 0],[],S)).bind fun q=>f1 (48,63,[.ref 0,.int x1,.int y0,.int 0],q.1.toList++[],q.2) else (f1 (32,0,[.ref 0,.int 1,.int 1],[],S)).bind fun q=>f1 (48,63,[.ref 0,.int x1,.int y0,.int 1],q.1.toList++[],q.2) else some (some (.int (-1)),S):=Je h rfl [.ref 0,.int x1,.int y0]<|Jb h rfl rfl<|Jat h rfl (Jb h rfl rfl<|Jc h rfl k_1<|Jp h rfl (Jb h rfl rfl<|Jy h rfl (Jd h rfl rfl<|Jg h rfl<|Jc h rfl k_0<|Jaz h rfl rfl 0 (S 17 0)<|Ji h rfl) (Jd h rfl rfl<|Jg h rfl<|Jc h rfl k_0<|Jaz h rfl rfl 0 (S 18 0)<|Jh h rfl<|Ji h rfl)) (Jb h rfl rfl<|Jy h rfl (Jc h rfl k_0<|Je h rfl [.ref 0,.int x1,.int y0,.int 0]<|Jd h rfl rfl<|Jc h rfl k_1<|Jb h rfl rfl<|Jf h rfl rfl) (Jc h rfl k_1<|Jh h rfl<|Je h rfl [.ref 0,.int x1,.int y0,.int 1]<|Jd h rfl rfl<|Jc h rfl k_1<|Jb h rfl rfl<|Jf h rfl rfl))) (Jc h rfl k_m1<|Ji h rfl)
theorem Eu{f1}(h:Fx f1)(x1 x2 x3 y0:Int32)(S):f1 (48,63,[.ref 0,.int x1,.int x2,.int x3],[.int y0],S)=if y0<0 then some (some (.int (-2)),S) else f1 (48,76,[.ref 0,.int x1,.int x2,.int x3,.int y0,.int 0],[],S):=Je h rfl [.ref 0,.int x1,.int x2,.int x3,.int y0]<|Jb h rfl rfl<|JP h rfl (Jc h rfl k_m2<|Ji h rfl) (Jc h rfl k_0<|Je h rfl [.ref 0,.int x1,.int x2,.int x3,.int y0,.int 0] rfl)
theorem EaD{f1}(h:Fx f1)(x1 x2 x3 x4 x5:Int32)(S):f1 (48,76,[.ref 0,.int x1,.int x2,.int x3,.int x4,.int x5],[],S)=if x5<x2 then if x5<8 then if x1=0 then if inb x5 8=true then (f1 (29,0,[.ref 0,.int x4,.int (S 17 (x5).toNatClampNeg)],[],S)).bind fun q=>f1 (48,120,[.ref 0,.int x1,.int x2,.int x3,.int x4,.int x5,.int (S 17 (x5).toNatClampNeg)],q.1.toList++[],q.2) else none else if inb x5 8=true then (f1 (29,0,[.ref 0,.int x4,.int (S 18 (x5).toNatClampNeg)],[],S)).bind fun q=>f1 (48,120,[.ref 0,.int x1,.int x2,.int x3,.int x4,.int x5,.int (S 18 (x5).toNatClampNeg)],q.1.toList++[],q.2) else none else some (some (.int x4),S) else some (some (.int x4),S):=Jb h rfl rfl<|Jb h rfl rfl<|Jm h rfl (Jb h rfl rfl<|Jc h rfl k_8<|Jm h rfl (Jb h rfl rfl<|Jy h rfl (Jd h rfl rfl<|Jg h rfl<|Jb h rfl rfl<|Jo h rfl rfl (S 17 (x5).toNatClampNeg) fun i0=>Je h rfl [.ref 0,.int x1,.int x2,.int x3,.int x4,.int x5,.int (S 17 (x5).toNatClampNeg)]<|Jd h rfl rfl<|Jb h rfl rfl<|Jb h rfl rfl<|Jf h rfl rfl) (Jd h rfl rfl<|Jg h rfl<|Jb h rfl rfl<|Jo h rfl rfl (S 18 (x5).toNatClampNeg) fun i0=>Jh h rfl<|Je h rfl [.ref 0,.int x1,.int x2,.int x3,.int x4,.int x5,.int (S 18 (x5).toNatClampNeg)]<|Jd h rfl rfl<|Jb h rfl rfl<|Jb h rfl rfl<|Jf h rfl rfl)) (Jb h rfl rfl<|Ji h rfl)) (Jb h rfl rfl<|Ji h rfl)
theorem EeG{f1}(h:Fx f1)(x1 x2 x3 x4 x5 x6 y0:Int32)(S):f1 (48,120,[.ref 0,.int x1,.int x2,.int x3,.int x4,.int x5,.int x6],[.int y0],S)=f1 (48,76,[.ref 0,.int x1,.int x2,.int x3,.int x4,.int (x5+1)],[],S):=JM h rfl<|Jn h rfl k_1 rfl [.ref 0,.int x1,.int x2,.int x3,.int x4,.int (x5+1),.int x6]<|Jh h rfl<|Jr h rfl rfl
theorem Ebx{f1}(h:Fx f1)(x1 x2:Int32)(S):f1 (32,0,[.ref 0,.int x1,.int x2],[],S)=f1 (32,3,[.ref 0,.int x1,.int x2,.int 8],[],S):=Jc h rfl k_8<|Je h rfl [.ref 0,.int x1,.int x2,.int 8] rfl
theorem Eb5{f1}(h:Fx f1)(x1 x2 x3:Int32)(S):f1 (32,3,[.ref 0,.int x1,.int x2,.int x3],[],S)=if x3<64 then if inb x3 64=true then if (S 5 (x3).toNatClampNeg)=0 then (f1 (30,0,[.ref 0,.int x3],[],(upd (upd S 5 (x3).toNatClampNeg 1) 1 (x3).toNatClampNeg x1))).bind fun q=>f1 (32,37,[.ref 0,.int x1,.int x2,.int x3],q.1.toList++[],q.2) else f1 (32,3,[.ref 0,.int x1,.int x2,.int (x3+1)],[],S) else none else some (some (.int (-1)),S):=Jb h rfl rfl<|Jc h rfl k_64<|Jm h rfl (Jd h rfl rfl<|Jg h rfl<|Jb h rfl rfl<|J3 h rfl rfl (S 5 (x3).toNatClampNeg) fun i0=>Js h rfl (Jd h rfl rfl<|Jg h rfl<|Jb h rfl rfl<|Jc h rfl k_1<|J4 h rfl rfl 1 i0<|Jd h rfl rfl<|Jg h rfl<|Jb h rfl rfl<|Jb h rfl rfl<|Jx h rfl rfl x1 i0<|Jd h rfl rfl<|Jb h rfl rfl<|Jf h rfl rfl) (Jn h rfl k_1 rfl [.ref 0,.int x1,.int x2,.int (x3+1)]<|Jh h rfl rfl)) (Jc h rfl k_m1<|Ji h rfl)
theorem EcD{f1}(h:Fx f1)(x1 x2 x3:Int32)(S):f1 (32,37,[.ref 0,.int x1,.int x2,.int x3],[],S)=if inb x3 64=true then some (some (.int x3),(upd (upd S 2 (x3).toNatClampNeg (-1)) 11 (x3).toNatClampNeg x2)) else none:=Jd h rfl rfl<|Jg h rfl<|Jb h rfl rfl<|Jc h rfl k_m1<|Jv h rfl rfl (-1) fun i0=>Jd h rfl rfl<|Jg h rfl<|Jb h rfl rfl<|Jb h rfl rfl<|Jx h rfl rfl x2 i0<|Jb h rfl rfl<|Ji h rfl
theorem EcJ{f1}(h:Fx f1)(x1:Int32)(S):f1 (30,0,[.ref 0,.int x1],[],S)=(f1 (21,0,[.ref 0,.int x1],[],S)).bind fun q=>f1 (30,5,[.ref 0,.int x1],q.1.toList++[],q.2):=Jd h rfl rfl<|Jb h rfl rfl<|Jf h rfl rfl
theorem EcQ{f1}(h:Fx f1)(x1 y0:Int32)(S):f1 (30,5,[.ref 0,.int x1],[.int y0],S)=if y0=0 then some (none,S) else f1 (30,16,[.ref 0,.int x1,.int (x1*8),.int 0],[],S):=Js h rfl (Jk h rfl) (Jb h rfl rfl<|Jc h rfl k_8<|Jz h rfl<|Je h rfl [.ref 0,.int x1,.int (x1*8)]<|Jc h rfl k_0<|Je h rfl [.ref 0,.int x1,.int (x1*8),.int 0] rfl)
theorem EaI{f1}(h:Fx f1)(x1 x2 x3:Int32)(S):f1 (30,16,[.ref 0,.int x1,.int x2,.int x3],[],S)=if x3<8 then if inb (x2+x3) 512=true then f1 (30,16,[.ref 0,.int x1,.int x2,.int (x3+1)],[],(upd S 4 ((x2+x3)).toNatClampNeg (-1))) else none else if inb x1 64=true then some (none,(upd S 3 (x1).toNatClampNeg 0)) else none:=Jb h rfl rfl<|Jc h rfl k_8<|Jm h rfl (Jd h rfl rfl<|Jg h rfl<|Jb h rfl rfl<|Jb h rfl rfl<|Jt h rfl<|Jc h rfl k_m1<|Jv h rfl rfl (-1) fun i0=>Jn h rfl k_1 rfl [.ref 0,.int x1,.int x2,.int (x3+1)]<|Jh h rfl rfl) (Jd h rfl rfl<|Jg h rfl<|Jb h rfl rfl<|Jc h rfl k_0<|Jv h rfl rfl 0 fun i0=>Jk h rfl)
theorem Ea{f1}(h:Fx f1)(S):f1 (49,0,[.ref 0],[],S)=some (none,(upd S 0 7 0)):=Jd h rfl rfl<|Jc h rfl k_0<|Jw h rfl<|Jk h rfl
theorem EdA{f1}(h:Fx f1)(S):f1 (51,0,[.ref 0],[],S)=f1 (51,2,[.ref 0,.int 0],[],S):=Jc h rfl k_0<|Je h rfl [.ref 0,.int 0] rfl
theorem EY{f1}(h:Fx f1)(x1:Int32)(S):f1 (51,2,[.ref 0,.int x1],[],S)=if x1<(S 0 8) then if x1<8 then if inb x1 8=true then (f1 (50,0,[.ref 0,.int (S 17 (x1).toNatClampNeg)],[],S)).bind fun q=>f1 (51,26,[.ref 0,.int x1],q.1.toList++[],q.2) else none else some (none,S) else some (none,S):=Jb h rfl rfl<|Jd h rfl rfl<|Jj h rfl (S 0 8)<|Jm h rfl (Jb h rfl rfl<|Jc h rfl k_8<|Jm h rfl (Jd h rfl rfl<|Jd h rfl rfl<|Jg h rfl<|Jb h rfl rfl<|Jo h rfl rfl (S 17 (x1).toNatClampNeg) fun i0=>Jf h rfl rfl) (Jk h rfl)) (Jk h rfl)
theorem Ecd{f1}(h:Fx f1)(x1:Int32)(S):f1 (51,26,[.ref 0,.int x1],[],S)=f1 (51,2,[.ref 0,.int (x1+1)],[],S):=Jn h rfl k_1 rfl [.ref 0,.int (x1+1)]<|Jh h rfl rfl
theorem EF{f1}(h:Fx f1)(x1:Int32)(S):f1 (50,0,[.ref 0,.int x1],[],S)=if x1<0 then some (none,S) else if (S 0 7)<16 then if inb (S 0 7) 16=true then some (none,(upd (upd S 16 ((S 0 7)).toNatClampNeg x1) 0 7 ((S 0 7)+1))) else none else some (none,S):=Jb h rfl rfl<|JP h rfl (Jk h rfl) (Jd h rfl rfl<|Jj h rfl (S 0 7)<|Jc h rfl k_16<|Jm h rfl (Jd h rfl rfl<|Jg h rfl<|Jd h rfl rfl<|Jj h rfl (S 0 7)<|Jb h rfl rfl<|Jv h rfl rfl x1 fun i0=>Jd h rfl rfl<|JN h rfl<|Jj h rfl (S 0 7)<|Jc h rfl k_1<|Jt h rfl<|Jw h rfl<|Jk h rfl) (Jk h rfl))
theorem EcA{f1}(h:Fx f1)(x1:Int32)(S):f1 (53,0,[.ref 0,.int x1],[],S)=(f1 (21,0,[.ref 0,.int x1],[],S)).bind fun q=>f1 (53,5,[.ref 0,.int x1],q.1.toList++[],q.2):=Jd h rfl rfl<|Jb h rfl rfl<|Jf h rfl rfl
theorem EdO{f1}(h:Fx f1)(x1 y0:Int32)(S):f1 (53,5,[.ref 0,.int x1],[.int y0],S)=if y0=0 then some (some (.int 0),S) else if 8<(S 0 7) then some (some (.int 0),S) else (f1 (30,0,[.ref 0,.int x1],[],S)).bind fun q=>f1 (53,24,[.ref 0,.int x1],q.1.toList++[],q.2):=Jy h rfl (Jc h rfl k_0<|Jl h rfl) (Jd h rfl rfl<|Jj h rfl (S 0 7)<|Jc h rfl k_8<|JO h rfl (Jc h rfl k_0<|Jl h rfl) (Jd h rfl rfl<|Jb h rfl rfl<|Jf h rfl rfl))
theorem Eca{f1}(h:Fx f1)(x1:Int32)(S):f1 (53,24,[.ref 0,.int x1],[],S)=f1 (53,26,[.ref 0,.int x1,.int 0],[],S):=Jc h rfl k_0<|Je h rfl [.ref 0,.int x1,.int 0] rfl
theorem EaB{f1}(h:Fx f1)(x1 x2:Int32)(S):f1 (53,26,[.ref 0,.int x1,.int x2],[],S)=if x2<(S 0 7) then if x2<16 then if inb x2 16=true then (f1 (29,0,[.ref 0,.int x1,.int (S 16 (x2).toNatClampNeg)],[],S)).bind fun q=>f1 (53,51,[.ref 0,.int x1,.int x2],q.1.toList++[],q.2) else none else some (some (.int 1),S) else some (some (.int 1),S):=Jb h rfl rfl<|Jd h rfl rfl<|Jj h rfl (S 0 7)<|Jm h rfl (Jb h rfl rfl<|Jc h rfl k_16<|Jm h rfl (Jd h rfl rfl<|Jb h rfl rfl<|Jd h rfl rfl<|Jg h rfl<|Jb h rfl rfl<|Jo h rfl rfl (S 16 (x2).toNatClampNeg) fun i0=>Jf h rfl rfl) (Jc h rfl k_1<|JC h rfl)) (Jc h rfl k_1<|JC h rfl)
theorem EaY{f1}(h:Fx f1)(x1 x2 y0:Int32)(S):f1 (53,51,[.ref 0,.int x1,.int x2],[.int y0],S)=if y0=0 then some (some (.int 0),S) else f1 (53,26,[.ref 0,.int x1,.int (x2+1)],[],S):=Js h rfl (Jc h rfl k_0<|Jl h rfl) (Jn h rfl k_1 rfl [.ref 0,.int x1,.int (x2+1)]<|Jh h rfl rfl)
theorem EcH{f1}(h:Fx f1)(S):f1 (39,0,[.ref 0],[],S)=if (0:Int32)<64 then (f1 (36,0,[.ref 0],[],S)).bind fun q=>f1 (39,12,[.ref 0,.int 0],q.1.toList++[],q.2) else some (none,S):=Jc h rfl k_0<|Je h rfl [.ref 0,.int 0]<|Jb h rfl rfl<|Jc h rfl k_64<|Jm h rfl (Jd h rfl rfl<|Jf h rfl rfl) (Jk h rfl)
theorem Eeq{f1}(h:Fx f1)(x1:Int32)(S):f1 (39,12,[.ref 0,.int x1],[],S)=(f1 (40,0,[.ref 0],[],S)).bind fun q=>f1 (39,16,[.ref 0,.int x1],q.1.toList++[],q.2):=Jd h rfl rfl<|Jf h rfl rfl
theorem Eey{f1}(h:Fx f1)(x1 y0:Int32)(S):f1 (39,16,[.ref 0,.int x1],[.int y0],S)=if y0<0 then some (none,S) else f1 (39,24,[.ref 0,.int x1,.int y0],[.int y0,.ref 0],S):=Je h rfl [.ref 0,.int x1,.int y0]<|Jb h rfl rfl<|JP h rfl (Jk h rfl) (Jd h rfl rfl<|Jb h rfl rfl rfl)
theorem Edf{f1}(h:Fx f1)(S):f1 (40,0,[.ref 0],[],S)=f1 (40,2,[.ref 0,.int 0],[],S):=Jc h rfl k_0<|Je h rfl [.ref 0,.int 0] rfl
theorem EU{f1}(h:Fx f1)(x1:Int32)(S):f1 (40,2,[.ref 0,.int x1],[],S)=if x1<(S 0 6) then if x1<64 then if inb x1 64=true then (f1 (22,0,[.ref 0,.int (S 13 (x1).toNatClampNeg)],[],S)).bind fun q=>f1 (40,28,[.ref 0,.int x1,.int (S 13 (x1).toNatClampNeg)],q.1.toList++[],q.2) else none else some (some (.int (-1)),S) else some (some (.int (-1)),S):=Jb h rfl rfl<|Jd h rfl rfl<|Jj h rfl (S 0 6)<|Jm h rfl (Jb h rfl rfl<|Jc h rfl k_64<|Jm h rfl (Jd h rfl rfl<|Jg h rfl<|Jb h rfl rfl<|Jo h rfl rfl (S 13 (x1).toNatClampNeg) fun i0=>Je h rfl [.ref 0,.int x1,.int (S 13 (x1).toNatClampNeg)]<|Jd h rfl rfl<|Jb h rfl rfl<|Jf h rfl rfl) (Jc h rfl k_m1<|Ji h rfl)) (Jc h rfl k_m1<|Ji h rfl)
theorem Eaq{f1}(h:Fx f1)(x1 x2 y0:Int32)(S):f1 (40,28,[.ref 0,.int x1,.int x2],[.int y0],S)=if y0=0 then f1 (40,2,[.ref 0,.int (x1+1)],[],S) else (f1 (23,0,[.ref 0,.int x2],[],S)).bind fun q=>f1 (40,39,[.ref 0,.int x1,.int x2],q.1.toList++[],q.2):=Js h rfl (Jh h rfl<|Jn h rfl k_1 rfl [.ref 0,.int (x1+1),.int x2]<|Jh h rfl<|Jr h rfl rfl) (Jd h rfl rfl<|Jb h rfl rfl<|Jf h rfl rfl)
theorem Ecn{f1}(h:Fx f1)(x1 x2 y0:Int32)(S):f1 (40,39,[.ref 0,.int x1,.int x2],[.int y0],S)=if inb x2 64=true then if (S 1 (x2).toNatClampNeg)=2 then if y0=2 then f1 (40,62,[.ref 0,.int x1,.int x2,.int y0],[],(upd S 1 (x2).toNatClampNeg 1)) else f1 (40,62,[.ref 0,.int x1,.int x2,.int y0],[],S) else f1 (40,62,[.ref 0,.int x1,.int x2,.int y0],[],S) else none:=Je h rfl [.ref 0,.int x1,.int x2,.int y0]<|Jd h rfl rfl<|Jg h rfl<|Jb h rfl rfl<|Jo h rfl rfl (S 1 (x2).toNatClampNeg) fun i0=>Jc h rfl k_2<|Jp h rfl (Jb h rfl rfl<|Jc h rfl k_2<|Jp h rfl (Jd h rfl rfl<|Jg h rfl<|Jb h rfl rfl<|Jc h rfl k_1<|Jx h rfl rfl 1 i0 rfl) rfl) rfl
theorem EeO{f1}(h:Fx f1)(x1 x2 x3:Int32)(S):f1 (40,62,[.ref 0,.int x1,.int x2,.int x3],[],S)=if x3=1 then some (some (.int x2),S) else f1 (40,2,[.ref 0,.int (x1+1)],[],S):=Jb h rfl rfl<|Jc h rfl k_1<|Jp h rfl (Jb h rfl rfl<|Ji h rfl) (Jr h rfl<|Jn h rfl k_1 rfl [.ref 0,.int (x1+1),.int x2]<|Jh h rfl<|Jr h rfl rfl)
theorem EeK{f1}(h:Fx f1)(S):f1 (38,0,[.ref 0],[],S)=(f1 (36,0,[.ref 0],[],S)).bind fun q=>f1 (38,4,[.ref 0],q.1.toList++[],q.2):=Jd h rfl rfl<|Jf h rfl rfl
theorem EaT{f1}(h:Fx f1)(S):f1 (38,4,[.ref 0],[],S)=f1 (38,7,[.ref 0,.int 8],[],S):=Jc h rfl k_8<|Je h rfl [.ref 0,.int 8] rfl
theorem EL{f1}(h:Fx f1)(x1:Int32)(S):f1 (38,7,[.ref 0,.int x1],[],S)=if x1<64 then if inb x1 64=true then f1 (38,7,[.ref 0,.int (x1+1)],[],(upd S 5 (x1).toNatClampNeg 0)) else none else f1 (38,28,[.ref 0,.int 0],[],S):=Jb h rfl rfl<|Jc h rfl k_64<|Jm h rfl (Jd h rfl rfl<|Jg h rfl<|Jb h rfl rfl<|Jc h rfl k_0<|Jab h rfl rfl 0 fun i0=>Jn h rfl k_1 rfl [.ref 0,.int (x1+1)]<|Jh h rfl rfl) (Jc h rfl k_0<|Je h rfl [.ref 0,.int 0] rfl)
theorem ER{f1}(h:Fx f1)(x1:Int32)(S):f1 (38,28,[.ref 0,.int x1],[],S)=if x1<(S 0 6) then if x1<64 then if inb x1 64=true then (f1 (21,0,[.ref 0,.int (S 13 (x1).toNatClampNeg)],[],S)).bind fun q=>f1 (38,54,[.ref 0,.int x1,.int (S 13 (x1).toNatClampNeg)],q.1.toList++[],q.2) else none else f1 (38,72,[.ref 0,.int 0],[],S) else f1 (38,72,[.ref 0,.int 0],[],S):=Jb h rfl rfl<|Jd h rfl rfl<|Jj h rfl (S 0 6)<|Jm h rfl (Jb h rfl rfl<|Jc h rfl k_64<|Jm h rfl (Jd h rfl rfl<|Jg h rfl<|Jb h rfl rfl<|Jo h rfl rfl (S 13 (x1).toNatClampNeg) fun i0=>Je h rfl [.ref 0,.int x1,.int (S 13 (x1).toNatClampNeg)]<|Jd h rfl rfl<|Jb h rfl rfl<|Jf h rfl rfl) (Jc h rfl k_0<|Je h rfl [.ref 0,.int 0] rfl)) (Jc h rfl k_0<|Je h rfl [.ref 0,.int 0] rfl)
theorem Eda{f1}(h:Fx f1)(x1 x2 y0:Int32)(S):f1 (38,54,[.ref 0,.int x1,.int x2],[.int y0],S)=if y0=0 then f1 (38,28,[.ref 0,.int (x1+1)],[],S) else if inb x2 64=true then f1 (38,28,[.ref 0,.int (x1+1)],[],(upd S 5 (x2).toNatClampNeg 1)) else none:=Jy h rfl (Jn h rfl k_1 rfl [.ref 0,.int (x1+1),.int x2]<|Jh h rfl<|Jr h rfl rfl) (Jd h rfl rfl<|Jg h rfl<|Jb h rfl rfl<|Jc h rfl k_1<|Jab h rfl rfl 1 fun i0=>Jn h rfl k_1 rfl [.ref 0,.int (x1+1),.int x2]<|Jh h rfl<|Jr h rfl rfl)
theorem EC{f1}(h:Fx f1)(x1:Int32)(S):f1 (38,72,[.ref 0,.int x1],[],S)=if x1<(S 0 0) then if x1<8 then if inb x1 64=true then f1 (38,72,[.ref 0,.int (x1+1)],[],(upd S 5 (x1).toNatClampNeg 1)) else none else some (none,S) else some (none,S):=Jb h rfl rfl<|Jd h rfl rfl<|Jj h rfl (S 0 0)<|Jm h rfl (Jb h rfl rfl<|Jc h rfl k_8<|Jm h rfl (Jd h rfl rfl<|Jg h rfl<|Jb h rfl rfl<|Jc h rfl k_1<|Jab h rfl rfl 1 fun i0=>Jn h rfl k_1 rfl [.ref 0,.int (x1+1)]<|Jh h rfl rfl) (Jk h rfl)) (Jk h rfl)
theorem EcZ{f1}(h:Fx f1)(S):f1 (35,0,[.ref 0],[],S)=f1 (35,10,[.ref 0,.int 0],[],(upd S 0 4 (S 0 5))):=Jd h rfl rfl<|Jd h rfl rfl<|Jj h rfl (S 0 5)<|Jw h rfl<|Jc h rfl k_0<|Je h rfl [.ref 0,.int 0] rfl
theorem EE{f1}(h:Fx f1)(x1:Int32)(S):f1 (35,10,[.ref 0,.int x1],[],S)=if x1<64 then if inb x1 64=true then f1 (35,10,[.ref 0,.int (x1+1)],[],(upd (upd (upd (upd S 1 (x1).toNatClampNeg (S 6 (x1).toNatClampNeg)) 2 (x1).toNatClampNeg (S 7 (x1).toNatClampNeg)) 3 (x1).toNatClampNeg (S 8 (x1).toNatClampNeg)) 5 (x1).toNatClampNeg ((S 10 (x1).toNatClampNeg)&&&1))) else none else f1 (35,72,[.ref 0,.int 0],[],S):=Jb h rfl rfl<|Jc h rfl k_64<|Jm h rfl (Jd h rfl rfl<|Jg h rfl<|Jb h rfl rfl<|Jd h rfl rfl<|Jg h rfl<|Jb h rfl rfl<|Jo h rfl rfl (S 6 (x1).toNatClampNeg) fun i0=>Jx h rfl rfl (S 6 (x1).toNatClampNeg) i0<|Jd h rfl rfl<|Jg h rfl<|Jb h rfl rfl<|Jd h rfl rfl<|Jg h rfl<|Jb h rfl rfl<|JF h rfl rfl i0 (S 7 (x1).toNatClampNeg)<|Jx h rfl rfl (S 7 (x1).toNatClampNeg) i0<|Jd h rfl rfl<|Jg h rfl<|Jb h rfl rfl<|Jd h rfl rfl<|Jg h rfl<|Jb h rfl rfl<|JF h rfl rfl i0 (S 8 (x1).toNatClampNeg)<|Jx h rfl rfl (S 8 (x1).toNatClampNeg) i0<|Jd h rfl rfl<|Jg h rfl<|Jb h rfl rfl<|Jd h rfl rfl<|Jg h rfl<|Jb h rfl rfl<|JaA h rfl rfl i0 (S 10 (x1).toNatClampNeg)<|J4 h rfl rfl ((S 10 (x1).toNatClampNeg)&&&1) i0<|Jn h rfl k_1 rfl [.ref 0,.int (x1+1)]<|Jh h rfl rfl) (Jc h rfl k_0<|Je h rfl [.ref 0,.int 0] rfl)
theorem Eat{f1}(h:Fx f1)(x1:Int32)(S):f1 (35,72,[.ref 0,.int x1],[],S)=if x1<512 then if inb x1 512=true then f1 (35,72,[.ref 0,.int (x1+1)],[],(upd S 4 (x1).toNatClampNeg (S 9 (x1).toNatClampNeg))) else none else some (none,S):=Jb h rfl rfl<|Jc h rfl k_512<|Jm h rfl (Jd h rfl rfl<|Jg h rfl<|Jb h rfl rfl<|Jd h rfl rfl<|Jg h rfl<|Jb h rfl rfl<|Jo h rfl rfl (S 9 (x1).toNatClampNeg) fun i0=>Jx h rfl rfl (S 9 (x1).toNatClampNeg) i0<|Jn h rfl k_1 rfl [.ref 0,.int (x1+1)]<|Jh h rfl rfl) (Jk h rfl)
theorem Ed8{f1}(h:Fx f1)(x1:Int32)(S):f1 (45,0,[.ref 0,.int x1],[],S)=if inb x1 64=true then if (S 1 (x1).toNatClampNeg)=1 then (f1 (57,0,[.ref 0,.int x1],[],S)).bind fun q=>f1 (45,15,[.ref 0,.int x1],q.1.toList++[],q.2) else (f1 (58,0,[.ref 0,.int x1],[],S)).bind fun q=>f1 (45,21,[.ref 0,.int x1],q.1.toList++[],q.2) else none:=Jd h rfl rfl<|Jg h rfl<|Jb h rfl rfl<|Jo h rfl rfl (S 1 (x1).toNatClampNeg) fun i0=>Jc h rfl k_1<|Jp h rfl (Jd h rfl rfl<|Jb h rfl rfl<|Jf h rfl rfl) (Jd h rfl rfl<|Jb h rfl rfl<|Jf h rfl rfl)
theorem Ecw{f1}(h:Fx f1)(x1 y0:Int32)(S):f1 (45,15,[.ref 0,.int x1],[.int y0],S)=some (some (.int (y0&&&1)),S):=J6 h rfl
theorem Ed9{f1}(h:Fx f1)(x1 y0:Int32)(S):f1 (45,21,[.ref 0,.int x1],[.int y0],S)=some (some (.int (y0&&&1)),S):=J6 h rfl
theorem EdZ{f1}(h:Fx f1)(x1:Int32)(S):f1 (57,0,[.ref 0,.int x1],[],S)=(f1 (47,0,[.ref 0,.int x1],[],S)).bind fun q=>f1 (57,5,[.ref 0,.int x1],q.1.toList++[],q.2):=Jd h rfl rfl<|Jb h rfl rfl<|Jf h rfl rfl
theorem Ec7{f1}(h:Fx f1)(x1:Int32)(S):f1 (57,5,[.ref 0,.int x1],[],S)=if (S 0 10)<2 then if (S 0 10)=0 then if (S 0 8)=0 then if inb x1 64=true then some (some (.int 1),(upd S 11 (x1).toNatClampNeg 1)) else none else f1 (57,38,[.ref 0,.int x1],[],S) else f1 (57,38,[.ref 0,.int x1],[],S) else some (some (.int 0),S):=Jd h rfl rfl<|Jj h rfl (S 0 10)<|Jc h rfl k_2<|JJ h rfl (Jd h rfl rfl<|Jj h rfl (S 0 10)<|Js h rfl (Jd h rfl rfl<|Jj h rfl (S 0 8)<|Js h rfl (Jd h rfl rfl<|Jg h rfl<|Jb h rfl rfl<|Jc h rfl k_1<|Jv h rfl rfl 1 fun i0=>Jc h rfl k_1<|JC h rfl) rfl) rfl) (Jc h rfl k_0<|Jl h rfl)
theorem EP{f1}(h:Fx f1)(x1:Int32)(S):f1 (57,38,[.ref 0,.int x1],[],S)=if (S 0 10)=0 then if (S 0 9)=0 then if inb x1 64=true then some (some (.int 1),(upd S 11 (x1).toNatClampNeg 0)) else none else f1 (57,61,[.ref 0,.int x1],[],S) else f1 (57,61,[.ref 0,.int x1],[],S):=Jd h rfl rfl<|Jj h rfl (S 0 10)<|Js h rfl (Jd h rfl rfl<|Jj h rfl (S 0 9)<|Js h rfl (Jd h rfl rfl<|Jg h rfl<|Jb h rfl rfl<|Jc h rfl k_0<|Jv h rfl rfl 0 fun i0=>Jc h rfl k_1<|JC h rfl) rfl) rfl
theorem Eej{f1}(h:Fx f1)(x1:Int32)(S):f1 (57,61,[.ref 0,.int x1],[],S)=if (S 0 10)=1 then (f1 (48,0,[.ref 0,.int 0],[],S)).bind fun q=>f1 (57,85,[.ref 0,.int x1,.int (S 19 0)],q.1.toList++[],q.2) else (f1 (48,0,[.ref 0,.int 0],[],S)).bind fun q=>f1 (57,85,[.ref 0,.int x1,.int (-1)],q.1.toList++[],q.2):=Jd h rfl rfl<|Jj h rfl (S 0 10)<|Jc h rfl k_1<|Jp h rfl (Jd h rfl rfl<|Jg h rfl<|Jc h rfl k_0<|Jaz h rfl rfl 0 (S 19 0)<|Jh h rfl<|Je h rfl [.ref 0,.int x1,.int (S 19 0)]<|Jd h rfl rfl<|Jc h rfl k_0<|Jf h rfl rfl) (Jc h rfl k_m1<|Je h rfl [.ref 0,.int x1,.int (-1)]<|Jd h rfl rfl<|Jc h rfl k_0<|Jf h rfl rfl)
theorem EdM{f1}(h:Fx f1)(x1 x2 y0:Int32)(S):f1 (57,85,[.ref 0,.int x1,.int x2],[.int y0],S)=(f1 (48,0,[.ref 0,.int 1],[],S)).bind fun q=>f1 (57,91,[.ref 0,.int x1,.int x2,.int y0],q.1.toList++[],q.2):=Je h rfl [.ref 0,.int x1,.int x2,.int y0]<|Jd h rfl rfl<|Jc h rfl k_1<|Jf h rfl rfl
theorem Ec1{f1}(h:Fx f1)(x1 x2 x3 y0:Int32)(S):f1 (57,91,[.ref 0,.int x1,.int x2,.int x3],[.int y0],S)=if x3<(-1) then some (some (.int 0),S) else if y0<(-1) then some (some (.int 0),S) else (f1 (49,0,[.ref 0],[],S)).bind fun q=>f1 (57,110,[.ref 0,.int x1,.int x2,.int x3,.int y0],q.1.toList++[],q.2):=Je h rfl [.ref 0,.int x1,.int x2,.int x3,.int y0]<|Jb h rfl rfl<|Jc h rfl k_m1<|JJ h rfl (Jc h rfl k_0<|Jl h rfl) (Jb h rfl rfl<|Jc h rfl k_m1<|Jm h rfl (Jc h rfl k_0<|Jl h rfl) (Jd h rfl rfl<|Jf h rfl rfl))
theorem Eb2{f1}(h:Fx f1)(x1 x2 x3 x4:Int32)(S):f1 (57,110,[.ref 0,.int x1,.int x2,.int x3,.int x4],[],S)=(f1 (50,0,[.ref 0,.int x3],[],S)).bind fun q=>f1 (57,115,[.ref 0,.int x1,.int x2,.int x3,.int x4],q.1.toList++[],q.2):=Jd h rfl rfl<|Jb h rfl rfl<|Jf h rfl rfl
theorem Eb8{f1}(h:Fx f1)(x1 x2 x3 x4:Int32)(S):f1 (57,115,[.ref 0,.int x1,.int x2,.int x3,.int x4],[],S)=if x2<0 then f1 (57,125,[.ref 0,.int x1,.int x2,.int x3,.int x4],[],S) else (f1 (52,0,[.ref 0,.int x2,.int 0],[],S)).bind fun q=>f1 (57,125,[.ref 0,.int x1,.int x2,.int x3,.int x4],q.1.toList++[],q.2):=Jb h rfl rfl<|JB h rfl rfl (Jd h rfl rfl<|Jb h rfl rfl<|Jc h rfl k_0<|Jf h rfl rfl)
theorem Edj{f1}(h:Fx f1)(x1 x2 x3 x4:Int32)(S):f1 (57,125,[.ref 0,.int x1,.int x2,.int x3,.int x4],[],S)=(f1 (50,0,[.ref 0,.int x4],[],S)).bind fun q=>f1 (57,131,[.ref 0,.int x1,.int x2,.int x3,.int x4],q.1.toList++[],q.2):=Jd h rfl rfl<|Jb h rfl rfl<|Jf h rfl rfl
theorem EcN{f1}(h:Fx f1)(x1 x2 x3 x4:Int32)(S):f1 (57,131,[.ref 0,.int x1,.int x2,.int x3,.int x4],[],S)=if inb x1 64=true then (f1 (53,0,[.ref 0,.int x1],[],(upd (upd S 1 (x1).toNatClampNeg 2) 11 (x1).toNatClampNeg 2))).bind fun q=>f1 (57,150,[.ref 0,.int x1,.int x2,.int x3,.int x4],q.1.toList++[],q.2) else none:=Jd h rfl rfl<|Jg h rfl<|Jb h rfl rfl<|Jc h rfl k_2<|Jv h rfl rfl 2 fun i0=>Jd h rfl rfl<|Jg h rfl<|Jb h rfl rfl<|Jc h rfl k_2<|Jx h rfl rfl 2 i0<|Jd h rfl rfl<|Jb h rfl rfl<|Jf h rfl rfl
theorem EdR{f1}(h:Fx f1)(x1 x2 x3 x4 y0:Int32)(S):f1 (57,150,[.ref 0,.int x1,.int x2,.int x3,.int x4],[.int y0],S)=if y0=0 then some (some (.int 0),S) else (f1 (33,0,[.ref 0,.int x2],[],S)).bind fun q=>f1 (57,160,[.ref 0,.int x1,.int x2,.int x3,.int x4],q.1.toList++[],q.2):=Js h rfl (Jc h rfl k_0<|Jl h rfl) (Jd h rfl rfl<|Jb h rfl rfl<|Jf h rfl rfl)
theorem EbT{f1}(h:Fx f1)(x1 x2 x3 x4:Int32)(S):f1 (57,160,[.ref 0,.int x1,.int x2,.int x3,.int x4],[],S)=some (some (.int 1),S):=Jc h rfl k_1<|JC h rfl
theorem Ep{f1}(h:Fx f1)(x1:Int32)(S):f1 (33,0,[.ref 0,.int x1],[],S)=if x1<8 then some (none,S) else if x1<64 then if inb x1 64=true then (f1 (30,0,[.ref 0,.int x1],[],(upd S 5 (x1).toNatClampNeg 0))).bind fun q=>f1 (33,25,[.ref 0,.int x1],q.1.toList++[],q.2) else none else some (none,S):=Jb h rfl rfl<|Jc h rfl k_8<|JJ h rfl (Jk h rfl) (Jb h rfl rfl<|Jc h rfl k_64<|JJ h rfl (Jd h rfl rfl<|Jg h rfl<|Jb h rfl rfl<|Jc h rfl k_0<|Jab h rfl rfl 0 fun i0=>Jd h rfl rfl<|Jb h rfl rfl<|Jf h rfl rfl) (Jk h rfl))
theorem Ec3{f1}(h:Fx f1)(x1:Int32)(S):f1 (33,25,[.ref 0,.int x1],[],S)=if inb x1 64=true then some (none,(upd S 2 (x1).toNatClampNeg (-1))) else none:=Jd h rfl rfl<|Jg h rfl<|Jb h rfl rfl<|Jc h rfl k_m1<|Jv h rfl rfl (-1) fun i0=>Jk h rfl
theorem Eel{f1}(h:Fx f1)(x1:Int32)(S):f1 (61,0,[.ref 0,.int x1],[],S)=(f1 (48,0,[.ref 0,.int 1],[],S)).bind fun q=>f1 (61,12,[.ref 0,.int x1,.int (S 19 0)],q.1.toList++[],q.2):=Jd h rfl rfl<|Jg h rfl<|Jc h rfl k_0<|Jaz h rfl rfl 0 (S 19 0)<|Je h rfl [.ref 0,.int x1,.int (S 19 0)]<|Jd h rfl rfl<|Jc h rfl k_1<|Jf h rfl rfl
theorem EbK{f1}(h:Fx f1)(x1 x2 y0:Int32)(S):f1 (61,12,[.ref 0,.int x1,.int x2],[.int y0],S)=if y0<(-1) then some (some (.int 0),S) else (f1 (49,0,[.ref 0],[],S)).bind fun q=>f1 (61,24,[.ref 0,.int x1,.int x2,.int y0],q.1.toList++[],q.2):=Je h rfl [.ref 0,.int x1,.int x2,.int y0]<|Jb h rfl rfl<|Jc h rfl k_m1<|Jm h rfl (Jc h rfl k_0<|Jl h rfl) (Jd h rfl rfl<|Jf h rfl rfl)
theorem EdD{f1}(h:Fx f1)(x1 x2 x3:Int32)(S):f1 (61,24,[.ref 0,.int x1,.int x2,.int x3],[],S)=(f1 (52,0,[.ref 0,.int x2,.int 0],[],S)).bind fun q=>f1 (61,30,[.ref 0,.int x1,.int x2,.int x3],q.1.toList++[],q.2):=Jd h rfl rfl<|Jb h rfl rfl<|Jc h rfl k_0<|Jf h rfl rfl
theorem EeC{f1}(h:Fx f1)(x1 x2 x3:Int32)(S):f1 (61,30,[.ref 0,.int x1,.int x2,.int x3],[],S)=(f1 (50,0,[.ref 0,.int x3],[],S)).bind fun q=>f1 (61,35,[.ref 0,.int x1,.int x2,.int x3],q.1.toList++[],q.2):=Jd h rfl rfl<|Jb h rfl rfl<|Jf h rfl rfl
theorem Ect{f1}(h:Fx f1)(x1 x2 x3:Int32)(S):f1 (61,35,[.ref 0,.int x1,.int x2,.int x3],[],S)=if (S 0 8)=0 then if inb x1 64=true then (f1 (53,0,[.ref 0,.int x1],[],(upd S 1 (x1).toNatClampNeg 2))).bind fun q=>f1 (61,54,[.ref 0,.int x1,.int x2,.int x3],q.1.toList++[],q.2) else none else if inb x2 64=true then (f1 (53,0,[.ref 0,.int x2],[],(upd S 1 (x2).toNatClampNeg 2))).bind fun q=>f1 (61,78,[.ref 0,.int x1,.int x2,.int x3],q.1.toList++[],q.2) else none:=Jd h rfl rfl<|Jj h rfl (S 0 8)<|Js h rfl (Jd h rfl rfl<|Jg h rfl<|Jb h rfl rfl<|Jc h rfl k_2<|Jv h rfl rfl 2 fun i0=>Jd h rfl rfl<|Jb h rfl rfl<|Jf h rfl rfl) (Jd h rfl rfl<|Jg h rfl<|Jb h rfl rfl<|Jc h rfl k_2<|Jv h rfl rfl 2 fun i0=>Jd h rfl rfl<|Jb h rfl rfl<|Jf h rfl rfl)
theorem EbF{f1}(h:Fx f1)(x1 x2 x3 y0:Int32)(S):f1 (61,54,[.ref 0,.int x1,.int x2,.int x3],[.int y0],S)=if y0=0 then some (some (.int 0),S) else (f1 (33,0,[.ref 0,.int x2],[],S)).bind fun q=>f1 (61,64,[.ref 0,.int x1,.int x2,.int x3],q.1.toList++[],q.2):=Js h rfl (Jc h rfl k_0<|Jl h rfl) (Jd h rfl rfl<|Jb h rfl rfl<|Jf h rfl rfl)
theorem Edz{f1}(h:Fx f1)(x1 x2 x3:Int32)(S):f1 (61,64,[.ref 0,.int x1,.int x2,.int x3],[],S)=some (some (.int 1),S):=Jc h rfl k_1<|JC h rfl
theorem EeD{f1}(h:Fx f1)(x1 x2 x3 y0:Int32)(S):f1 (61,78,[.ref 0,.int x1,.int x2,.int x3],[.int y0],S)=if y0=0 then some (some (.int 0),S) else (f1 (49,0,[.ref 0],[],S)).bind fun q=>f1 (61,87,[.ref 0,.int x1,.int x2,.int x3],q.1.toList++[],q.2):=Js h rfl (Jc h rfl k_0<|Jl h rfl) (Jd h rfl rfl<|Jf h rfl rfl)
theorem Ebq{f1}(h:Fx f1)(x1 x2 x3:Int32)(S):f1 (61,87,[.ref 0,.int x1,.int x2,.int x3],[],S)=(f1 (51,0,[.ref 0],[],S)).bind fun q=>f1 (61,91,[.ref 0,.int x1,.int x2,.int x3],q.1.toList++[],q.2):=Jd h rfl rfl<|Jf h rfl rfl
theorem Ebl{f1}(h:Fx f1)(x1 x2 x3:Int32)(S):f1 (61,91,[.ref 0,.int x1,.int x2,.int x3],[],S)=(f1 (50,0,[.ref 0,.int x2],[],S)).bind fun q=>f1 (61,96,[.ref 0,.int x1,.int x2,.int x3],q.1.toList++[],q.2):=Jd h rfl rfl<|Jb h rfl rfl<|Jf h rfl rfl
theorem EdB{f1}(h:Fx f1)(x1 x2 x3:Int32)(S):f1 (61,96,[.ref 0,.int x1,.int x2,.int x3],[],S)=(f1 (53,0,[.ref 0,.int x1],[],S)).bind fun q=>f1 (61,101,[.ref 0,.int x1,.int x2,.int x3],q.1.toList++[],q.2):=Jd h rfl rfl<|Jb h rfl rfl<|Jf h rfl rfl
theorem EbN{f1}(h:Fx f1)(x1 x2 x3 y0:Int32)(S):f1 (61,101,[.ref 0,.int x1,.int x2,.int x3],[.int y0],S)=some (some (.int (y0&&&1)),S):=J6 h rfl
theorem Ec9{f1}(h:Fx f1)(x1 x2:Int32)(S):f1 (52,0,[.ref 0,.int x1,.int x2],[],S)=(f1 (23,0,[.ref 0,.int x1],[],S)).bind fun q=>f1 (52,5,[.ref 0,.int x1,.int x2],q.1.toList++[],q.2):=Jd h rfl rfl<|Jb h rfl rfl<|Jf h rfl rfl
theorem EcX{f1}(h:Fx f1)(x1 x2 y0:Int32)(S):f1 (52,5,[.ref 0,.int x1,.int x2],[.int y0],S)=f1 (52,9,[.ref 0,.int x1,.int x2,.int y0,.int 0],[],S):=Je h rfl [.ref 0,.int x1,.int x2,.int y0]<|Jc h rfl k_0<|Je h rfl [.ref 0,.int x1,.int x2,.int y0,.int 0] rfl
theorem ET{f1}(h:Fx f1)(x1 x2 x3 x4:Int32)(S):f1 (52,9,[.ref 0,.int x1,.int x2,.int x3,.int x4],[],S)=if x4<x3 then if x4<8 then if x2=0 then (f1 (24,0,[.ref 0,.int x1,.int x4],[],S)).bind fun q=>f1 (52,46,[.ref 0,.int x1,.int x2,.int x3,.int x4,.int x4],q.1.toList++[],q.2) else (f1 (24,0,[.ref 0,.int x1,.int ((x3-1)-x4)],[],S)).bind fun q=>f1 (52,46,[.ref 0,.int x1,.int x2,.int x3,.int x4,.int ((x3-1)-x4)],q.1.toList++[],q.2) else some (none,S) else some (none,S):=Jb h rfl rfl<|Jb h rfl rfl<|Jm h rfl (Jb h rfl rfl<|Jc h rfl k_8<|Jm h rfl (Jb h rfl rfl<|Jy h rfl (Jb h rfl rfl<|Je h rfl [.ref 0,.int x1,.int x2,.int x3,.int x4,.int x4]<|Jd h rfl rfl<|Jb h rfl rfl<|Jb h rfl rfl<|Jf h rfl rfl) (Jb h rfl rfl<|Jc h rfl k_1<|JG h rfl<|Jb h rfl rfl<|JG h rfl<|Jh h rfl<|Je h rfl [.ref 0,.int x1,.int x2,.int x3,.int x4,.int ((x3-1)-x4)]<|Jd h rfl rfl<|Jb h rfl rfl<|Jb h rfl rfl<|Jf h rfl rfl)) (Jk h rfl)) (Jk h rfl)
theorem Eef{f1}(h:Fx f1)(x1 x2 x3 x4 x5 y0:Int32)(S):f1 (52,46,[.ref 0,.int x1,.int x2,.int x3,.int x4,.int x5],[.int y0],S)=(f1 (50,0,[.ref 0,.int y0],[],S)).bind fun q=>f1 (52,54,[.ref 0,.int x1,.int x2,.int x3,.int x4,.int x5,.int y0],q.1.toList++[],q.2):=Je h rfl [.ref 0,.int x1,.int x2,.int x3,.int x4,.int x5,.int y0]<|Jd h rfl rfl<|Jb h rfl rfl<|Jf h rfl rfl
theorem Ec4{f1}(h:Fx f1)(x1 x2 x3 x4 x5 x6:Int32)(S):f1 (52,54,[.ref 0,.int x1,.int x2,.int x3,.int x4,.int x5,.int x6],[],S)=f1 (52,9,[.ref 0,.int x1,.int x2,.int x3,.int (x4+1)],[],S):=Jn h rfl k_1 rfl [.ref 0,.int x1,.int x2,.int x3,.int (x4+1),.int x5,.int x6]<|Jh h rfl<|Jr h rfl rfl
theorem Ede{f1}(h:Fx f1)(x1:Int32)(S):f1 (71,0,[.ref 0,.int x1],[],S)=(f1 (23,0,[.ref 0,.int x1],[],S)).bind fun q=>f1 (71,5,[.ref 0,.int x1],q.1.toList++[],q.2):=Jd h rfl rfl<|Jb h rfl rfl<|Jf h rfl rfl
theorem Ebr{f1}(h:Fx f1)(x1 y0:Int32)(S):f1 (71,5,[.ref 0,.int x1],[.int y0],S)=(f1 (24,0,[.ref 0,.int x1,.int 0],[],S)).bind fun q=>f1 (71,12,[.ref 0,.int x1,.int y0],q.1.toList++[],q.2):=Je h rfl [.ref 0,.int x1,.int y0]<|Jd h rfl rfl<|Jb h rfl rfl<|Jc h rfl k_0<|Jf h rfl rfl
theorem EcL{f1}(h:Fx f1)(x1 x2 y0:Int32)(S):f1 (71,12,[.ref 0,.int x1,.int x2],[.int y0],S)=(f1 (24,0,[.ref 0,.int x1,.int (x2-1)],[],S)).bind fun q=>f1 (71,21,[.ref 0,.int x1,.int x2,.int y0],q.1.toList++[],q.2):=Je h rfl [.ref 0,.int x1,.int x2,.int y0]<|Jd h rfl rfl<|Jb h rfl rfl<|Jb h rfl rfl<|Jc h rfl k_1<|JG h rfl<|Jf h rfl rfl
theorem EaL{f1}(h:Fx f1)(x1 x2 x3 y0:Int32)(S):f1 (71,21,[.ref 0,.int x1,.int x2,.int x3],[.int y0],S)=(f1 (27,0,[.ref 0,.int x3],[],S)).bind fun q=>f1 (71,28,[.ref 0,.int x1,.int x2,.int x3,.int y0],q.1.toList++[],q.2):=Je h rfl [.ref 0,.int x1,.int x2,.int x3,.int y0]<|Jd h rfl rfl<|Jb h rfl rfl<|Jf h rfl rfl
theorem Edb{f1}(h:Fx f1)(x1 x2 x3 x4 y0:Int32)(S):f1 (71,28,[.ref 0,.int x1,.int x2,.int x3,.int x4],[.int y0],S)=(f1 (27,0,[.ref 0,.int x4],[],S)).bind fun q=>f1 (71,36,[.ref 0,.int x1,.int x2,.int x3,.int x4,.int y0],q.1.toList++[],q.2):=Je h rfl [.ref 0,.int x1,.int x2,.int x3,.int x4,.int y0]<|Jd h rfl rfl<|Jb h rfl rfl<|Jf h rfl rfl
theorem EcK{f1}(h:Fx f1)(x1 x2 x3 x4 x5 y0:Int32)(S):f1 (71,36,[.ref 0,.int x1,.int x2,.int x3,.int x4,.int x5],[.int y0],S)=if x5<y0 then if inb x1 64=true then (f1 (28,0,[.ref 0,.int x3],[],(upd S 20 (x1).toNatClampNeg x5))).bind fun q=>f1 (71,63,[.ref 0,.int x1,.int x2,.int x3,.int x4,.int x5,.int y0],q.1.toList++[],q.2) else none else if inb x1 64=true then (f1 (28,0,[.ref 0,.int x3],[],(upd S 20 (x1).toNatClampNeg y0))).bind fun q=>f1 (71,63,[.ref 0,.int x1,.int x2,.int x3,.int x4,.int x5,.int y0],q.1.toList++[],q.2) else none:=Je h rfl [.ref 0,.int x1,.int x2,.int x3,.int x4,.int x5,.int y0]<|Jd h rfl rfl<|Jg h rfl<|Jb h rfl rfl<|Jb h rfl rfl<|Jb h rfl rfl<|Jm h rfl (Jb h rfl rfl<|Jh h rfl<|Jv h rfl rfl x5 fun i0=>Jd h rfl rfl<|Jb h rfl rfl<|Jf h rfl rfl) (Jb h rfl rfl<|Jv h rfl rfl y0 fun i0=>Jd h rfl rfl<|Jb h rfl rfl<|Jf h rfl rfl)
theorem Ed0{f1}(h:Fx f1)(x1 x2 x3 x4 x5 x6 y0:Int32)(S):f1 (71,63,[.ref 0,.int x1,.int x2,.int x3,.int x4,.int x5,.int x6],[.int y0],S)=(f1 (28,0,[.ref 0,.int x4],[],S)).bind fun q=>f1 (71,71,[.ref 0,.int x1,.int x2,.int x3,.int x4,.int x5,.int x6,.int y0],q.1.toList++[],q.2):=Je h rfl [.ref 0,.int x1,.int x2,.int x3,.int x4,.int x5,.int x6,.int y0]<|Jd h rfl rfl<|Jb h rfl rfl<|Jf h rfl rfl
theorem EbD{f1}(h:Fx f1)(x1 x2 x3 x4 x5 x6 x7 y0:Int32)(S):f1 (71,71,[.ref 0,.int x1,.int x2,.int x3,.int x4,.int x5,.int x6,.int x7],[.int y0],S)=if inb x1 64=true then some (none,(upd S 21 (x1).toNatClampNeg (x7|||y0))) else none:=Je h rfl [.ref 0,.int x1,.int x2,.int x3,.int x4,.int x5,.int x6,.int x7,.int y0]<|Jd h rfl rfl<|Jg h rfl<|Jb h rfl rfl<|Jb h rfl rfl<|Jb h rfl rfl<|JY h rfl<|Jv h rfl rfl (x7|||y0) fun i0=>Jk h rfl
theorem EcU{f1}(h:Fx f1)(x1:Int32)(S):f1 (27,0,[.ref 0,.int x1],[],S)=(f1 (21,0,[.ref 0,.int x1],[],S)).bind fun q=>f1 (27,5,[.ref 0,.int x1],q.1.toList++[],q.2):=Jd h rfl rfl<|Jb h rfl rfl<|Jf h rfl rfl
theorem Ecl{f1}(h:Fx f1)(x1 y0:Int32)(S):f1 (27,5,[.ref 0,.int x1],[.int y0],S)=if y0=0 then some (some (.int 64),S) else if inb x1 64=true then some (some (.int (S 20 (x1).toNatClampNeg)),S) else none:=Js h rfl (Jc h rfl k_64<|Ji h rfl) (Jd h rfl rfl<|Jg h rfl<|Jb h rfl rfl<|Jo h rfl rfl (S 20 (x1).toNatClampNeg) fun i0=>Ji h rfl)
theorem Edu{f1}(h:Fx f1)(x1 x2:Int32)(S):f1 (74,0,[.ref 0,.int x1,.int x2],[],S)=(f1 (23,0,[.ref 0,.int x1],[],S)).bind fun q=>f1 (74,5,[.ref 0,.int x1,.int x2],q.1.toList++[],q.2):=Jd h rfl rfl<|Jb h rfl rfl<|Jf h rfl rfl
theorem EcR{f1}(h:Fx f1)(x1 x2 y0:Int32)(S):f1 (74,5,[.ref 0,.int x1,.int x2],[.int y0],S)=if 0<y0 then (f1 (24,0,[.ref 0,.int x1,.int 0],[],S)).bind fun q=>f1 (74,18,[.ref 0,.int x1,.int x2,.int y0],q.1.toList++[],q.2) else some (some (.int x2),S):=Je h rfl [.ref 0,.int x1,.int x2,.int y0]<|Jb h rfl rfl<|Jat h rfl (Jd h rfl rfl<|Jb h rfl rfl<|Jc h rfl k_0<|Jf h rfl rfl) (Jb h rfl rfl<|Ji h rfl)
theorem Ebt{f1}(h:Fx f1)(x1 x2 x3 y0:Int32)(S):f1 (74,18,[.ref 0,.int x1,.int x2,.int x3],[.int y0],S)=(f1 (24,0,[.ref 0,.int x1,.int (x3-1)],[],S)).bind fun q=>f1 (74,28,[.ref 0,.int x1,.int x2,.int x3,.int y0],q.1.toList++[],q.2):=Je h rfl [.ref 0,.int x1,.int x2,.int x3,.int y0]<|Jd h rfl rfl<|Jb h rfl rfl<|Jb h rfl rfl<|Jc h rfl k_1<|JG h rfl<|Jf h rfl rfl
theorem Edc{f1}(h:Fx f1)(x1 x2 x3 x4 y0:Int32)(S):f1 (74,28,[.ref 0,.int x1,.int x2,.int x3,.int x4],[.int y0],S)=(f1 (27,0,[.ref 0,.int x4],[],S)).bind fun q=>f1 (74,36,[.ref 0,.int x1,.int x2,.int x3,.int x4,.int y0],q.1.toList++[],q.2):=Je h rfl [.ref 0,.int x1,.int x2,.int x3,.int x4,.int y0]<|Jd h rfl rfl<|Jb h rfl rfl<|Jf h rfl rfl
theorem EbH{f1}(h:Fx f1)(x1 x2 x3 x4 x5 y0:Int32)(S):f1 (74,36,[.ref 0,.int x1,.int x2,.int x3,.int x4,.int x5],[.int y0],S)=(f1 (27,0,[.ref 0,.int x5],[],S)).bind fun q=>f1 (74,44,[.ref 0,.int x1,.int x2,.int x3,.int x4,.int x5,.int y0],q.1.toList++[],q.2):=Je h rfl [.ref 0,.int x1,.int x2,.int x3,.int x4,.int x5,.int y0]<|Jd h rfl rfl<|Jb h rfl rfl<|Jf h rfl rfl
theorem EeZ{f1}(h:Fx f1)(x1 x2 x3 x4 x5 x6 y0:Int32)(S):f1 (74,44,[.ref 0,.int x1,.int x2,.int x3,.int x4,.int x5,.int x6],[.int y0],S)=f1 (74,52,[.ref 0,.int x1,.int x2,.int x3,.int x4,.int x5,.int x6,.int y0,.int x2,.int 0],[],S):=Je h rfl [.ref 0,.int x1,.int x2,.int x3,.int x4,.int x5,.int x6,.int y0]<|Jb h rfl rfl<|Je h rfl [.ref 0,.int x1,.int x2,.int x3,.int x4,.int x5,.int x6,.int y0,.int x2]<|Jc h rfl k_0<|Je h rfl [.ref 0,.int x1,.int x2,.int x3,.int x4,.int x5,.int x6,.int y0,.int x2,.int 0] rfl
theorem EK{f1}(h:Fx f1)(x1 x2 x3 x4 x5 x6 x7 x8 x9:Int32)(S):f1 (74,52,[.ref 0,.int x1,.int x2,.int x3,.int x4,.int x5,.int x6,.int x7,.int x8,.int x9],[],S)=if x9<x3 then if x9<8 then if x6<x7 then (f1 (24,0,[.ref 0,.int x1,.int ((x3-1)-x9)],[],S)).bind fun q=>f1 (74,92,[.ref 0,.int x1,.int x2,.int x3,.int x4,.int x5,.int x6,.int x7,.int x8,.int x9,.int ((x3-1)-x9)],q.1.toList++[],q.2) else (f1 (24,0,[.ref 0,.int x1,.int x9],[],S)).bind fun q=>f1 (74,92,[.ref 0,.int x1,.int x2,.int x3,.int x4,.int x5,.int x6,.int x7,.int x8,.int x9,.int x9],q.1.toList++[],q.2) else some (some (.int x8),S) else some (some (.int x8),S):=Jb h rfl rfl<|Jb h rfl rfl<|Jm h rfl (Jb h rfl rfl<|Jc h rfl k_8<|Jm h rfl (Jb h rfl rfl<|Jb h rfl rfl<|Jm h rfl (Jb h rfl rfl<|Jc h rfl k_1<|JG h rfl<|Jb h rfl rfl<|JG h rfl<|Jh h rfl<|Je h rfl [.ref 0,.int x1,.int x2,.int x3,.int x4,.int x5,.int x6,.int x7,.int x8,.int x9,.int ((x3-1)-x9)]<|Jd h rfl rfl<|Jb h rfl rfl<|Jb h rfl rfl<|Jf h rfl rfl) (Jb h rfl rfl<|Je h rfl [.ref 0,.int x1,.int x2,.int x3,.int x4,.int x5,.int x6,.int x7,.int x8,.int x9,.int x9]<|Jd h rfl rfl<|Jb h rfl rfl<|Jb h rfl rfl<|Jf h rfl rfl)) (Jb h rfl rfl<|Ji h rfl)) (Jb h rfl rfl<|Ji h rfl)
theorem Ecg{f1}(h:Fx f1)(x1 x2 x3 x4 x5 x6 x7 x8 x9 x10 y0:Int32)(S):f1 (74,92,[.ref 0,.int x1,.int x2,.int x3,.int x4,.int x5,.int x6,.int x7,.int x8,.int x9,.int x10],[.int y0],S)=if x8<128 then if inb x8 128=true then f1 (74,52,[.ref 0,.int x1,.int x2,.int x3,.int x4,.int x5,.int x6,.int x7,.int (x8+1),.int (x9+1)],[],(upd S 14 (x8).toNatClampNeg y0)) else none else f1 (74,52,[.ref 0,.int x1,.int x2,.int x3,.int x4,.int x5,.int x6,.int x7,.int x8,.int (x9+1)],[],S):=Je h rfl [.ref 0,.int x1,.int x2,.int x3,.int x4,.int x5,.int x6,.int x7,.int x8,.int x9,.int x10,.int y0]<|Jb h rfl rfl<|Jc h rfl k_128<|Jm h rfl (Jd h rfl rfl<|Jg h rfl<|Jb h rfl rfl<|Jb h rfl rfl<|Jv h rfl rfl y0 fun i0=>Jn h rfl k_1 rfl [.ref 0,.int x1,.int x2,.int x3,.int x4,.int x5,.int x6,.int x7,.int (x8+1),.int x9,.int x10,.int y0]<|Jn h rfl k_1 rfl [.ref 0,.int x1,.int x2,.int x3,.int x4,.int x5,.int x6,.int x7,.int (x8+1),.int (x9+1),.int x10,.int y0]<|Jh h rfl<|Jr h rfl rfl) (Jn h rfl k_1 rfl [.ref 0,.int x1,.int x2,.int x3,.int x4,.int x5,.int x6,.int x7,.int x8,.int (x9+1),.int x10,.int y0]<|Jh h rfl<|Jr h rfl rfl)
theorem EaM{f1}(h:Fx f1)(x1:Int32)(S):f1 (65,0,[.ref 0,.int x1],[],S)=(f1 (63,0,[.ref 0,.int x1],[],S)).bind fun q=>f1 (65,5,[.ref 0,.int x1],q.1.toList++[],q.2):=Jd h rfl rfl<|Jb h rfl rfl<|Jf h rfl rfl
theorem Ea2{f1}(h:Fx f1)(x1 y0:Int32)(S):f1 (65,5,[.ref 0,.int x1],[.int y0],S)=(f1 (64,0,[.ref 0,.int x1],[],S)).bind fun q=>f1 (65,11,[.ref 0,.int x1,.int y0],q.1.toList++[],q.2):=Je h rfl [.ref 0,.int x1,.int y0]<|Jd h rfl rfl<|Jb h rfl rfl<|Jf h rfl rfl
theorem Ebk{f1}(h:Fx f1)(x1 x2 y0:Int32)(S):f1 (65,11,[.ref 0,.int x1,.int x2],[.int y0],S)=if x2<0 then some (some (.int 1),S) else f1 (65,23,[.ref 0,.int x1,.int x2,.int y0,.int (x2+1)],[],S):=Je h rfl [.ref 0,.int x1,.int x2,.int y0]<|Jb h rfl rfl<|JP h rfl (Jc h rfl k_1<|JC h rfl) (Jb h rfl rfl<|Jc h rfl k_1<|Jt h rfl<|Je h rfl [.ref 0,.int x1,.int x2,.int y0,.int (x2+1)] rfl)
theorem Ek{f1}(h:Fx f1)(x1 x2 x3 x4:Int32)(S):f1 (65,23,[.ref 0,.int x1,.int x2,.int x3,.int x4],[],S)=if x4<x3 then if x4<8 then (f1 (24,0,[.ref 0,.int x1,.int x4],[],S)).bind fun q=>f1 (65,43,[.ref 0,.int x1,.int x2,.int x3,.int x4],q.1.toList++[],q.2) else (f1 (49,0,[.ref 0],[],S)).bind fun q=>f1 (65,67,[.ref 0,.int x1,.int x2,.int x3,.int x4],q.1.toList++[],q.2) else (f1 (49,0,[.ref 0],[],S)).bind fun q=>f1 (65,67,[.ref 0,.int x1,.int x2,.int x3,.int x4],q.1.toList++[],q.2):=Jb h rfl rfl<|Jb h rfl rfl<|Jm h rfl (Jb h rfl rfl<|Jc h rfl k_8<|Jm h rfl (Jd h rfl rfl<|Jb h rfl rfl<|Jb h rfl rfl<|Jf h rfl rfl) (Jd h rfl rfl<|Jf h rfl rfl)) (Jd h rfl rfl<|Jf h rfl rfl)
theorem Edy{f1}(h:Fx f1)(x1 x2 x3 x4 y0:Int32)(S):f1 (65,43,[.ref 0,.int x1,.int x2,.int x3,.int x4],[.int y0],S)=(f1 (26,0,[.ref 0,.int y0],[],S)).bind fun q=>f1 (65,51,[.ref 0,.int x1,.int x2,.int x3,.int x4,.int y0],q.1.toList++[],q.2):=Je h rfl [.ref 0,.int x1,.int x2,.int x3,.int x4,.int y0]<|Jd h rfl rfl<|Jb h rfl rfl<|Jf h rfl rfl
theorem Ee2{f1}(h:Fx f1)(x1 x2 x3 x4 x5 y0:Int32)(S):f1 (65,51,[.ref 0,.int x1,.int x2,.int x3,.int x4,.int x5],[.int y0],S)=if y0=1 then f1 (65,23,[.ref 0,.int x1,.int x2,.int x3,.int (x4+1)],[],S) else some (some (.int 0),S):=Jc h rfl k_1<|JA h rfl (Jn h rfl k_1 rfl [.ref 0,.int x1,.int x2,.int x3,.int (x4+1),.int x5]<|Jh h rfl<|Jr h rfl rfl) (Jc h rfl k_0<|Jl h rfl)
theorem Ebf{f1}(h:Fx f1)(x1 x2 x3 x4:Int32)(S):f1 (65,67,[.ref 0,.int x1,.int x2,.int x3,.int x4],[],S)=(f1 (23,0,[.ref 0,.int x1],[],S)).bind fun q=>f1 (65,72,[.ref 0,.int x1,.int x2,.int x3,.int x4],q.1.toList++[],q.2):=Jd h rfl rfl<|Jb h rfl rfl<|Jf h rfl rfl
theorem EaZ{f1}(h:Fx f1)(x1 x2 x3 x4 y0:Int32)(S):f1 (65,72,[.ref 0,.int x1,.int x2,.int x3,.int x4],[.int y0],S)=f1 (65,77,[.ref 0,.int x1,.int x2,.int x3,.int y0,.int 0],[],S):=Je h rfl [.ref 0,.int x1,.int x2,.int x3,.int y0]<|Jc h rfl k_0<|Je h rfl [.ref 0,.int x1,.int x2,.int x3,.int y0,.int 0] rfl
theorem EaA{f1}(h:Fx f1)(x1 x2 x3 x4 x5:Int32)(S):f1 (65,77,[.ref 0,.int x1,.int x2,.int x3,.int x4,.int x5],[],S)=if x5<x4 then if x5<8 then (f1 (24,0,[.ref 0,.int x1,.int x5],[],S)).bind fun q=>f1 (65,98,[.ref 0,.int x1,.int x2,.int x3,.int x4,.int x5],q.1.toList++[],q.2) else (f1 (53,0,[.ref 0,.int x1],[],S)).bind fun q=>f1 (65,161,[.ref 0,.int x1,.int x2,.int x3,.int x4,.int x5],q.1.toList++[],q.2) else (f1 (53,0,[.ref 0,.int x1],[],S)).bind fun q=>f1 (65,161,[.ref 0,.int x1,.int x2,.int x3,.int x4,.int x5],q.1.toList++[],q.2):=Jb h rfl rfl<|Jb h rfl rfl<|Jm h rfl (Jb h rfl rfl<|Jc h rfl k_8<|Jm h rfl (Jd h rfl rfl<|Jb h rfl rfl<|Jb h rfl rfl<|Jf h rfl rfl) (Jd h rfl rfl<|Jb h rfl rfl<|Jf h rfl rfl)) (Jd h rfl rfl<|Jb h rfl rfl<|Jf h rfl rfl)
theorem EcB{f1}(h:Fx f1)(x1 x2 x3 x4 x5 y0:Int32)(S):f1 (65,98,[.ref 0,.int x1,.int x2,.int x3,.int x4,.int x5],[.int y0],S)=(f1 (26,0,[.ref 0,.int y0],[],S)).bind fun q=>f1 (65,106,[.ref 0,.int x1,.int x2,.int x3,.int x4,.int x5,.int y0],q.1.toList++[],q.2):=Je h rfl [.ref 0,.int x1,.int x2,.int x3,.int x4,.int x5,.int y0]<|Jd h rfl rfl<|Jb h rfl rfl<|Jf h rfl rfl
theorem EdF{f1}(h:Fx f1)(x1 x2 x3 x4 x5 x6 y0:Int32)(S):f1 (65,106,[.ref 0,.int x1,.int x2,.int x3,.int x4,.int x5,.int x6],[.int y0],S)=if y0=2 then if x5=x3 then if x5=x2 then (f1 (52,0,[.ref 0,.int x6,.int 0],[],S)).bind fun q=>f1 (65,141,[.ref 0,.int x1,.int x2,.int x3,.int x4,.int x5,.int x6,.int y0,.int 0],q.1.toList++[],q.2) else (f1 (52,0,[.ref 0,.int x6,.int 1],[],S)).bind fun q=>f1 (65,141,[.ref 0,.int x1,.int x2,.int x3,.int x4,.int x5,.int x6,.int y0,.int 1],q.1.toList++[],q.2) else (f1 (52,0,[.ref 0,.int x6,.int 0],[],S)).bind fun q=>f1 (65,141,[.ref 0,.int x1,.int x2,.int x3,.int x4,.int x5,.int x6,.int y0,.int 0],q.1.toList++[],q.2) else (f1 (50,0,[.ref 0,.int x6],[],S)).bind fun q=>f1 (65,150,[.ref 0,.int x1,.int x2,.int x3,.int x4,.int x5,.int x6,.int y0],q.1.toList++[],q.2):=Je h rfl [.ref 0,.int x1,.int x2,.int x3,.int x4,.int x5,.int x6,.int y0]<|Jb h rfl rfl<|Jc h rfl k_2<|Jp h rfl (Jb h rfl rfl<|Jb h rfl rfl<|Jp h rfl (Jb h rfl rfl<|Jb h rfl rfl<|JA h rfl (Jc h rfl k_0<|Je h rfl [.ref 0,.int x1,.int x2,.int x3,.int x4,.int x5,.int x6,.int y0,.int 0]<|Jd h rfl rfl<|Jb h rfl rfl<|Jb h rfl rfl<|Jf h rfl rfl) (Jc h rfl k_1<|Jh h rfl<|Je h rfl [.ref 0,.int x1,.int x2,.int x3,.int x4,.int x5,.int x6,.int y0,.int 1]<|Jd h rfl rfl<|Jb h rfl rfl<|Jb h rfl rfl<|Jf h rfl rfl)) (Jc h rfl k_0<|Je h rfl [.ref 0,.int x1,.int x2,.int x3,.int x4,.int x5,.int x6,.int y0,.int 0]<|Jd h rfl rfl<|Jb h rfl rfl<|Jb h rfl rfl<|Jf h rfl rfl)) (Jd h rfl rfl<|Jb h rfl rfl<|Jf h rfl rfl)
theorem Edg{f1}(h:Fx f1)(x1 x2 x3 x4 x5 x6 x7 x8:Int32)(S):f1 (65,141,[.ref 0,.int x1,.int x2,.int x3,.int x4,.int x5,.int x6,.int x7,.int x8],[],S)=f1 (65,150,[.ref 0,.int x1,.int x2,.int x3,.int x4,.int x5,.int x6,.int x7],[],S):=Jh h rfl<|Jr h rfl rfl
theorem Eaf{f1}(h:Fx f1)(x1 x2 x3 x4 x5 x6 x7:Int32)(S):f1 (65,150,[.ref 0,.int x1,.int x2,.int x3,.int x4,.int x5,.int x6,.int x7],[],S)=f1 (65,77,[.ref 0,.int x1,.int x2,.int x3,.int x4,.int (x5+1)],[],S):=Jn h rfl k_1 rfl [.ref 0,.int x1,.int x2,.int x3,.int x4,.int (x5+1),.int x6,.int x7]<|Jh h rfl<|Jr h rfl rfl
theorem Ecf{f1}(h:Fx f1)(x1 x2 x3 x4 x5 y0:Int32)(S):f1 (65,161,[.ref 0,.int x1,.int x2,.int x3,.int x4,.int x5],[.int y0],S)=some (some (.int (y0&&&1)),S):=J6 h rfl
theorem Ed7{f1}(h:Fx f1)(x1:Int32)(S):f1 (63,0,[.ref 0,.int x1],[],S)=(f1 (23,0,[.ref 0,.int x1],[],S)).bind fun q=>f1 (63,5,[.ref 0,.int x1],q.1.toList++[],q.2):=Jd h rfl rfl<|Jb h rfl rfl<|Jf h rfl rfl
theorem Eet{f1}(h:Fx f1)(x1 y0:Int32)(S):f1 (63,5,[.ref 0,.int x1],[.int y0],S)=f1 (63,8,[.ref 0,.int x1,.int y0,.int 0],[],S):=Je h rfl [.ref 0,.int x1,.int y0]<|Jc h rfl k_0<|Je h rfl [.ref 0,.int x1,.int y0,.int 0] rfl
theorem Eev{f1}(h:Fx f1)(x1 x2 x3:Int32)(S):f1 (63,8,[.ref 0,.int x1,.int x2,.int x3],[],S)=if x3<x2 then if x3<8 then (f1 (24,0,[.ref 0,.int x1,.int x3],[],S)).bind fun q=>f1 (63,25,[.ref 0,.int x1,.int x2,.int x3],q.1.toList++[],q.2) else some (some (.int (-1)),S) else some (some (.int (-1)),S):=Jb h rfl rfl<|Jb h rfl rfl<|Jm h rfl (Jb h rfl rfl<|Jc h rfl k_8<|Jm h rfl (Jd h rfl rfl<|Jb h rfl rfl<|Jb h rfl rfl<|Jf h rfl rfl) (Jc h rfl k_m1<|Ji h rfl)) (Jc h rfl k_m1<|Ji h rfl)
theorem Ec6{f1}(h:Fx f1)(x1 x2 x3 y0:Int32)(S):f1 (63,25,[.ref 0,.int x1,.int x2,.int x3],[.int y0],S)=(f1 (26,0,[.ref 0,.int y0],[],S)).bind fun q=>f1 (63,33,[.ref 0,.int x1,.int x2,.int x3,.int y0],q.1.toList++[],q.2):=Je h rfl [.ref 0,.int x1,.int x2,.int x3,.int y0]<|Jd h rfl rfl<|Jb h rfl rfl<|Jf h rfl rfl
theorem Ece{f1}(h:Fx f1)(x1 x2 x3 x4 y0:Int32)(S):f1 (63,33,[.ref 0,.int x1,.int x2,.int x3,.int x4],[.int y0],S)=if y0=0 then f1 (63,8,[.ref 0,.int x1,.int x2,.int (x3+1)],[],S) else some (some (.int x3),S):=Jy h rfl (Jn h rfl k_1 rfl [.ref 0,.int x1,.int x2,.int (x3+1),.int x4]<|Jh h rfl<|Jr h rfl rfl) (Jb h rfl rfl<|Ji h rfl)
theorem EdU{f1}(h:Fx f1)(x1:Int32)(S):f1 (64,0,[.ref 0,.int x1],[],S)=(f1 (23,0,[.ref 0,.int x1],[],S)).bind fun q=>f1 (64,5,[.ref 0,.int x1],q.1.toList++[],q.2):=Jd h rfl rfl<|Jb h rfl rfl<|Jf h rfl rfl
theorem Eci{f1}(h:Fx f1)(x1 y0:Int32)(S):f1 (64,5,[.ref 0,.int x1],[.int y0],S)=f1 (64,10,[.ref 0,.int x1,.int y0,.int (y0-1)],[],S):=Je h rfl [.ref 0,.int x1,.int y0]<|Jb h rfl rfl<|Jc h rfl k_1<|JG h rfl<|Je h rfl [.ref 0,.int x1,.int y0,.int (y0-1)] rfl
theorem Eaw{f1}(h:Fx f1)(x1 x2 x3:Int32)(S):f1 (64,10,[.ref 0,.int x1,.int x2,.int x3],[],S)=if x3<0 then some (some (.int (-1)),S) else if x3<8 then (f1 (24,0,[.ref 0,.int x1,.int x3],[],S)).bind fun q=>f1 (64,26,[.ref 0,.int x1,.int x2,.int x3],q.1.toList++[],q.2) else some (some (.int (-1)),S):=Jb h rfl rfl<|JB h rfl (Jc h rfl k_m1<|Ji h rfl) (Jb h rfl rfl<|Jc h rfl k_8<|Jm h rfl (Jd h rfl rfl<|Jb h rfl rfl<|Jb h rfl rfl<|Jf h rfl rfl) (Jc h rfl k_m1<|Ji h rfl))
theorem EW{f1}(h:Fx f1)(x1 x2 x3 y0:Int32)(S):f1 (64,26,[.ref 0,.int x1,.int x2,.int x3],[.int y0],S)=(f1 (26,0,[.ref 0,.int y0],[],S)).bind fun q=>f1 (64,34,[.ref 0,.int x1,.int x2,.int x3,.int y0],q.1.toList++[],q.2):=Je h rfl [.ref 0,.int x1,.int x2,.int x3,.int y0]<|Jd h rfl rfl<|Jb h rfl rfl<|Jf h rfl rfl
theorem E5{f1}(h:Fx f1)(x1 x2 x3 x4 y0:Int32)(S):f1 (64,34,[.ref 0,.int x1,.int x2,.int x3,.int x4],[.int y0],S)=if y0=0 then f1 (64,10,[.ref 0,.int x1,.int x2,.int (x3+(-1))],[],S) else some (some (.int x3),S):=Jy h rfl (Jn h rfl k_m1 rfl [.ref 0,.int x1,.int x2,.int (x3+(-1)),.int x4]<|Jh h rfl<|Jr h rfl rfl) (Jb h rfl rfl<|Ji h rfl)
theorem Ed3{f1}(h:Fx f1)(x1:Int32)(S):f1 (58,0,[.ref 0,.int x1],[],S)=(f1 (47,0,[.ref 0,.int x1],[],S)).bind fun q=>f1 (58,5,[.ref 0,.int x1],q.1.toList++[],q.2):=Jd h rfl rfl<|Jb h rfl rfl<|Jf h rfl rfl
theorem EcV{f1}(h:Fx f1)(x1:Int32)(S):f1 (58,5,[.ref 0,.int x1],[],S)=if (S 0 10)<2 then if (S 0 10)=0 then if (S 0 8)=0 then if inb x1 64=true then some (some (.int 1),(upd S 11 (x1).toNatClampNeg 1)) else none else f1 (58,38,[.ref 0,.int x1],[],S) else f1 (58,38,[.ref 0,.int x1],[],S) else some (some (.int 0),S):=Jd h rfl rfl<|Jj h rfl (S 0 10)<|Jc h rfl k_2<|JJ h rfl (Jd h rfl rfl<|Jj h rfl (S 0 10)<|Js h rfl (Jd h rfl rfl<|Jj h rfl (S 0 8)<|Js h rfl (Jd h rfl rfl<|Jg h rfl<|Jb h rfl rfl<|Jc h rfl k_1<|Jv h rfl rfl 1 fun i0=>Jc h rfl k_1<|JC h rfl) rfl) rfl) (Jc h rfl k_0<|Jl h rfl)
theorem Ead{f1}(h:Fx f1)(x1:Int32)(S):f1 (58,38,[.ref 0,.int x1],[],S)=if (S 0 10)=0 then if (S 0 9)=0 then if inb x1 64=true then some (some (.int 1),(upd S 11 (x1).toNatClampNeg 0)) else none else (f1 (56,0,[.ref 0,.int x1],[],S)).bind fun q=>f1 (58,66,[.ref 0,.int x1],q.1.toList++[],q.2) else (f1 (56,0,[.ref 0,.int x1],[],S)).bind fun q=>f1 (58,66,[.ref 0,.int x1],q.1.toList++[],q.2):=Jd h rfl rfl<|Jj h rfl (S 0 10)<|Js h rfl (Jd h rfl rfl<|Jj h rfl (S 0 9)<|Js h rfl (Jd h rfl rfl<|Jg h rfl<|Jb h rfl rfl<|Jc h rfl k_0<|Jv h rfl rfl 0 fun i0=>Jc h rfl k_1<|JC h rfl) (Jd h rfl rfl<|Jb h rfl rfl<|Jf h rfl rfl)) (Jd h rfl rfl<|Jb h rfl rfl<|Jf h rfl rfl)
theorem EdV{f1}(h:Fx f1)(x1 y0:Int32)(S):f1 (58,66,[.ref 0,.int x1],[.int y0],S)=if y0=0 then some (some (.int 0),S) else if y0<0 then (f1 (54,0,[.ref 0,.int x1],[],S)).bind fun q=>f1 (58,82,[.ref 0,.int x1,.int y0],q.1.toList++[],q.2) else f1 (58,82,[.ref 0,.int x1,.int y0],[],S):=Je h rfl [.ref 0,.int x1,.int y0]<|Jb h rfl rfl<|Js h rfl (Jc h rfl k_0<|Jl h rfl) (Jb h rfl rfl<|JP h rfl (Jd h rfl rfl<|Jb h rfl rfl<|Jf h rfl rfl) rfl)
theorem Ed5{f1}(h:Fx f1)(x1 x2:Int32)(S):f1 (58,82,[.ref 0,.int x1,.int x2],[],S)=if (S 0 10)=1 then (f1 (49,0,[.ref 0],[],S)).bind fun q=>f1 (58,105,[.ref 0,.int x1,.int x2,.int (S 19 0)],q.1.toList++[],q.2) else (f1 (49,0,[.ref 0],[],S)).bind fun q=>f1 (58,105,[.ref 0,.int x1,.int x2,.int (-1)],q.1.toList++[],q.2):=Jd h rfl rfl<|Jj h rfl (S 0 10)<|Jc h rfl k_1<|Jp h rfl (Jd h rfl rfl<|Jg h rfl<|Jc h rfl k_0<|Jaz h rfl rfl 0 (S 19 0)<|Jh h rfl<|Je h rfl [.ref 0,.int x1,.int x2,.int (S 19 0)]<|Jd h rfl rfl<|Jf h rfl rfl) (Jc h rfl k_m1<|Je h rfl [.ref 0,.int x1,.int x2,.int (-1)]<|Jd h rfl rfl<|Jf h rfl rfl)
theorem EeR{f1}(h:Fx f1)(x1 x2 x3:Int32)(S):f1 (58,105,[.ref 0,.int x1,.int x2,.int x3],[],S)=(f1 (23,0,[.ref 0,.int x1],[],S)).bind fun q=>f1 (58,110,[.ref 0,.int x1,.int x2,.int x3],q.1.toList++[],q.2):=Jd h rfl rfl<|Jb h rfl rfl<|Jf h rfl rfl
theorem Ecm{f1}(h:Fx f1)(x1 x2 x3 y0:Int32)(S):f1 (58,110,[.ref 0,.int x1,.int x2,.int x3],[.int y0],S)=f1 (58,115,[.ref 0,.int x1,.int x2,.int x3,.int y0,.int 0],[],S):=Je h rfl [.ref 0,.int x1,.int x2,.int x3,.int y0]<|Jc h rfl k_0<|Je h rfl [.ref 0,.int x1,.int x2,.int x3,.int y0,.int 0] rfl
theorem EB{f1}(h:Fx f1)(x1 x2 x3 x4 x5:Int32)(S):f1 (58,115,[.ref 0,.int x1,.int x2,.int x3,.int x4,.int x5],[],S)=if x5<x4 then if x5<8 then (f1 (24,0,[.ref 0,.int x1,.int x5],[],S)).bind fun q=>f1 (58,136,[.ref 0,.int x1,.int x2,.int x3,.int x4,.int x5],q.1.toList++[],q.2) else (f1 (53,0,[.ref 0,.int x1],[],S)).bind fun q=>f1 (58,171,[.ref 0,.int x1,.int x2,.int x3,.int x4,.int x5],q.1.toList++[],q.2) else (f1 (53,0,[.ref 0,.int x1],[],S)).bind fun q=>f1 (58,171,[.ref 0,.int x1,.int x2,.int x3,.int x4,.int x5],q.1.toList++[],q.2):=Jb h rfl rfl<|Jb h rfl rfl<|Jm h rfl (Jb h rfl rfl<|Jc h rfl k_8<|Jm h rfl (Jd h rfl rfl<|Jb h rfl rfl<|Jb h rfl rfl<|Jf h rfl rfl) (Jd h rfl rfl<|Jb h rfl rfl<|Jf h rfl rfl)) (Jd h rfl rfl<|Jb h rfl rfl<|Jf h rfl rfl)
theorem Edl{f1}(h:Fx f1)(x1 x2 x3 x4 x5 y0:Int32)(S):f1 (58,136,[.ref 0,.int x1,.int x2,.int x3,.int x4,.int x5],[.int y0],S)=if y0=x3 then (f1 (52,0,[.ref 0,.int y0,.int 0],[],S)).bind fun q=>f1 (58,151,[.ref 0,.int x1,.int x2,.int x3,.int x4,.int x5,.int y0],q.1.toList++[],q.2) else (f1 (50,0,[.ref 0,.int y0],[],S)).bind fun q=>f1 (58,160,[.ref 0,.int x1,.int x2,.int x3,.int x4,.int x5,.int y0],q.1.toList++[],q.2):=Je h rfl [.ref 0,.int x1,.int x2,.int x3,.int x4,.int x5,.int y0]<|Jb h rfl rfl<|Jb h rfl rfl<|Jp h rfl (Jd h rfl rfl<|Jb h rfl rfl<|Jc h rfl k_0<|Jf h rfl rfl) (Jd h rfl rfl<|Jb h rfl rfl<|Jf h rfl rfl)
theorem Edm{f1}(h:Fx f1)(x1 x2 x3 x4 x5 x6:Int32)(S):f1 (58,151,[.ref 0,.int x1,.int x2,.int x3,.int x4,.int x5,.int x6],[],S)=f1 (58,160,[.ref 0,.int x1,.int x2,.int x3,.int x4,.int x5,.int x6],[],S):=Jh h rfl rfl
theorem Eax{f1}(h:Fx f1)(x1 x2 x3 x4 x5 x6:Int32)(S):f1 (58,160,[.ref 0,.int x1,.int x2,.int x3,.int x4,.int x5,.int x6],[],S)=f1 (58,115,[.ref 0,.int x1,.int x2,.int x3,.int x4,.int (x5+1)],[],S):=Jn h rfl k_1 rfl [.ref 0,.int x1,.int x2,.int x3,.int x4,.int (x5+1),.int x6]<|Jh h rfl<|Jr h rfl rfl
theorem EdW{f1}(h:Fx f1)(x1 x2 x3 x4 x5 y0:Int32)(S):f1 (58,171,[.ref 0,.int x1,.int x2,.int x3,.int x4,.int x5],[.int y0],S)=if y0=0 then some (some (.int 0),S) else (f1 (33,0,[.ref 0,.int x3],[],S)).bind fun q=>f1 (58,181,[.ref 0,.int x1,.int x2,.int x3,.int x4,.int x5],q.1.toList++[],q.2):=Js h rfl (Jc h rfl k_0<|Jl h rfl) (Jd h rfl rfl<|Jb h rfl rfl<|Jf h rfl rfl)
theorem Ees{f1}(h:Fx f1)(x1 x2 x3 x4 x5:Int32)(S):f1 (58,181,[.ref 0,.int x1,.int x2,.int x3,.int x4,.int x5],[],S)=if inb x1 64=true then some (some (.int 1),(upd S 11 (x1).toNatClampNeg 2)) else none:=Jd h rfl rfl<|Jg h rfl<|Jb h rfl rfl<|Jc h rfl k_2<|Jv h rfl rfl 2 fun i0=>Jc h rfl k_1<|JC h rfl
theorem EaO{f1}(h:Fx f1)(x1:Int32)(S):f1 (56,0,[.ref 0,.int x1],[],S)=(f1 (23,0,[.ref 0,.int x1],[],S)).bind fun q=>f1 (56,5,[.ref 0,.int x1],q.1.toList++[],q.2):=Jd h rfl rfl<|Jb h rfl rfl<|Jf h rfl rfl
theorem Ebv{f1}(h:Fx f1)(x1 y0:Int32)(S):f1 (56,5,[.ref 0,.int x1],[.int y0],S)=f1 (56,17,[.ref 0,.int x1,.int y0,.int 1,.int 1,.int (-1),.int 0],[],S):=Je h rfl [.ref 0,.int x1,.int y0]<|Jc h rfl k_1<|Je h rfl [.ref 0,.int x1,.int y0,.int 1]<|Jc h rfl k_1<|Je h rfl [.ref 0,.int x1,.int y0,.int 1,.int 1]<|Jc h rfl k_m1<|Je h rfl [.ref 0,.int x1,.int y0,.int 1,.int 1,.int (-1)]<|Jc h rfl k_0<|Je h rfl [.ref 0,.int x1,.int y0,.int 1,.int 1,.int (-1),.int 0] rfl
theorem Eaa{f1}(h:Fx f1)(x1 x2 x3 x4 x5 x6:Int32)(S):f1 (56,17,[.ref 0,.int x1,.int x2,.int x3,.int x4,.int x5,.int x6],[],S)=if x6<x2 then if x6<8 then (f1 (24,0,[.ref 0,.int x1,.int x6],[],S)).bind fun q=>f1 (56,37,[.ref 0,.int x1,.int x2,.int x3,.int x4,.int x5,.int x6],q.1.toList++[],q.2) else f1 (56,94,[.ref 0,.int x1,.int x2,.int x3,.int x4,.int x5,.int x6],[],S) else f1 (56,94,[.ref 0,.int x1,.int x2,.int x3,.int x4,.int x5,.int x6],[],S):=Jb h rfl rfl<|Jb h rfl rfl<|Jm h rfl (Jb h rfl rfl<|Jc h rfl k_8<|Jm h rfl (Jd h rfl rfl<|Jb h rfl rfl<|Jb h rfl rfl<|Jf h rfl rfl) rfl) rfl
theorem EeL{f1}(h:Fx f1)(x1 x2 x3 x4 x5 x6 y0:Int32)(S):f1 (56,37,[.ref 0,.int x1,.int x2,.int x3,.int x4,.int x5,.int x6],[.int y0],S)=(f1 (26,0,[.ref 0,.int y0],[],S)).bind fun q=>f1 (56,45,[.ref 0,.int x1,.int x2,.int x3,.int x4,.int x5,.int x6,.int y0],q.1.toList++[],q.2):=Je h rfl [.ref 0,.int x1,.int x2,.int x3,.int x4,.int x5,.int x6,.int y0]<|Jd h rfl rfl<|Jb h rfl rfl<|Jf h rfl rfl
theorem EcW{f1}(h:Fx f1)(x1 x2 x3 x4 x5 x6 x7 y0:Int32)(S):f1 (56,45,[.ref 0,.int x1,.int x2,.int x3,.int x4,.int x5,.int x6,.int x7],[.int y0],S)=(f1 (55,0,[.ref 0,.int y0],[],S)).bind fun q=>f1 (56,53,[.ref 0,.int x1,.int x2,.int x3,.int x4,.int x5,.int x6,.int x7,.int y0],q.1.toList++[],q.2):=Je h rfl [.ref 0,.int x1,.int x2,.int x3,.int x4,.int x5,.int x6,.int x7,.int y0]<|Jd h rfl rfl<|Jb h rfl rfl<|Jf h rfl rfl
theorem EaJ{f1}(h:Fx f1)(x1 x2 x3 x4 x5 x6 x7 x8 y0:Int32)(S):f1 (56,53,[.ref 0,.int x1,.int x2,.int x3,.int x4,.int x5,.int x6,.int x7,.int x8],[.int y0],S)=if 0<x6 then if y0<x5 then f1 (56,69,[.ref 0,.int x1,.int x2,.int 0,.int x4,.int x5,.int x6,.int x7,.int x8,.int y0],[],S) else f1 (56,69,[.ref 0,.int x1,.int x2,.int x3,.int x4,.int x5,.int x6,.int x7,.int x8,.int y0],[],S) else f1 (56,69,[.ref 0,.int x1,.int x2,.int x3,.int x4,.int x5,.int x6,.int x7,.int x8,.int y0],[],S):=Je h rfl [.ref 0,.int x1,.int x2,.int x3,.int x4,.int x5,.int x6,.int x7,.int x8,.int y0]<|Jb h rfl rfl<|Jac h rfl (Jb h rfl rfl<|Jb h rfl rfl<|Jm h rfl (Jc h rfl k_0<|Je h rfl [.ref 0,.int x1,.int x2,.int 0,.int x4,.int x5,.int x6,.int x7,.int x8,.int y0] rfl) rfl) rfl
theorem Ew{f1}(h:Fx f1)(x1 x2 x3 x4 x5 x6 x7 x8 x9:Int32)(S):f1 (56,69,[.ref 0,.int x1,.int x2,.int x3,.int x4,.int x5,.int x6,.int x7,.int x8,.int x9],[],S)=if 0<x6 then if x5<x9 then f1 (56,17,[.ref 0,.int x1,.int x2,.int x3,.int 0,.int x9,.int (x6+1)],[],S) else f1 (56,17,[.ref 0,.int x1,.int x2,.int x3,.int x4,.int x9,.int (x6+1)],[],S) else f1 (56,17,[.ref 0,.int x1,.int x2,.int x3,.int x4,.int x9,.int (x6+1)],[],S):=Jb h rfl rfl<|Jac h rfl (Jb h rfl rfl<|Jb h rfl rfl<|JO h rfl (Jc h rfl k_0<|Je h rfl [.ref 0,.int x1,.int x2,.int x3,.int 0,.int x5,.int x6,.int x7,.int x8,.int x9]<|Jb h rfl rfl<|Je h rfl [.ref 0,.int x1,.int x2,.int x3,.int 0,.int x9,.int x6,.int x7,.int x8,.int x9]<|Jn h rfl k_1 rfl [.ref 0,.int x1,.int x2,.int x3,.int 0,.int x9,.int (x6+1),.int x7,.int x8,.int x9]<|Jh h rfl<|Jr h rfl rfl) (Jb h rfl rfl<|Je h rfl [.ref 0,.int x1,.int x2,.int x3,.int x4,.int x9,.int x6,.int x7,.int x8,.int x9]<|Jn h rfl k_1 rfl [.ref 0,.int x1,.int x2,.int x3,.int x4,.int x9,.int (x6+1),.int x7,.int x8,.int x9]<|Jh h rfl<|Jr h rfl rfl)) (Jb h rfl rfl<|Je h rfl [.ref 0,.int x1,.int x2,.int x3,.int x4,.int x9,.int x6,.int x7,.int x8,.int x9]<|Jn h rfl k_1 rfl [.ref 0,.int x1,.int x2,.int x3,.int x4,.int x9,.int (x6+1),.int x7,.int x8,.int x9]<|Jh h rfl<|Jr h rfl rfl)
theorem Ebo{f1}(h:Fx f1)(x1 x2 x3 x4 x5 x6:Int32)(S):f1 (56,94,[.ref 0,.int x1,.int x2,.int x3,.int x4,.int x5,.int x6],[],S)=if x3=0 then if x4=0 then some (some (.int 0),S) else some (some (.int (-1)),S) else some (some (.int 1),S):=Jb h rfl rfl<|Jy h rfl (Jb h rfl rfl<|Jy h rfl (Jc h rfl k_0<|Ji h rfl) (Jc h rfl k_m1<|Ji h rfl)) (Jc h rfl k_1<|Ji h rfl)
theorem EeA{f1}(h:Fx f1)(x1:Int32)(S):f1 (55,0,[.ref 0,.int x1],[],S)=if x1=0 then some (some (.int 0),S) else if x1=2 then some (some (.int 1),S) else some (some (.int 2),S):=Jb h rfl rfl<|Js h rfl (Jc h rfl k_0<|Ji h rfl) (Jb h rfl rfl<|Jc h rfl k_2<|Jp h rfl (Jc h rfl k_1<|Ji h rfl) (Jc h rfl k_2<|Ji h rfl))
theorem EaN{f1}(h:Fx f1)(x1:Int32)(S):f1 (54,0,[.ref 0,.int x1],[],S)=(f1 (23,0,[.ref 0,.int x1],[],S)).bind fun q=>f1 (54,5,[.ref 0,.int x1],q.1.toList++[],q.2):=Jd h rfl rfl<|Jb h rfl rfl<|Jf h rfl rfl
theorem EaV{f1}(h:Fx f1)(x1 y0:Int32)(S):f1 (54,5,[.ref 0,.int x1],[.int y0],S)=f1 (54,8,[.ref 0,.int x1,.int y0,.int 0],[],S):=Je h rfl [.ref 0,.int x1,.int y0]<|Jc h rfl k_0<|Je h rfl [.ref 0,.int x1,.int y0,.int 0] rfl
theorem EI{f1}(h:Fx f1)(x1 x2 x3:Int32)(S):f1 (54,8,[.ref 0,.int x1,.int x2,.int x3],[],S)=if x3<8 then if x3<((x2-1)-x3) then (f1 (24,0,[.ref 0,.int x1,.int x3],[],S)).bind fun q=>f1 (54,34,[.ref 0,.int x1,.int x2,.int x3,.int ((x2-1)-x3)],q.1.toList++[],q.2) else some (none,S) else some (none,S):=Jb h rfl rfl<|Jc h rfl k_8<|Jm h rfl (Jb h rfl rfl<|Jc h rfl k_1<|JG h rfl<|Jb h rfl rfl<|JG h rfl<|Je h rfl [.ref 0,.int x1,.int x2,.int x3,.int ((x2-1)-x3)]<|Jb h rfl rfl<|Jb h rfl rfl<|JJ h rfl (Jd h rfl rfl<|Jb h rfl rfl<|Jb h rfl rfl<|Jf h rfl rfl) (Jk h rfl)) (Jk h rfl)
theorem EbJ{f1}(h:Fx f1)(x1 x2 x3 x4 y0:Int32)(S):f1 (54,34,[.ref 0,.int x1,.int x2,.int x3,.int x4],[.int y0],S)=(f1 (24,0,[.ref 0,.int x1,.int x4],[],S)).bind fun q=>f1 (54,43,[.ref 0,.int x1,.int x2,.int x3,.int x4,.int y0],q.1.toList++[],q.2):=Je h rfl [.ref 0,.int x1,.int x2,.int x3,.int x4,.int y0]<|Jd h rfl rfl<|Jb h rfl rfl<|Jb h rfl rfl<|Jf h rfl rfl
theorem Ee5{f1}(h:Fx f1)(x1 x2 x3 x4 x5 y0:Int32)(S):f1 (54,43,[.ref 0,.int x1,.int x2,.int x3,.int x4,.int x5],[.int y0],S)=(f1 (25,0,[.ref 0,.int x1,.int x3,.int y0],[],S)).bind fun q=>f1 (54,53,[.ref 0,.int x1,.int x2,.int x3,.int x4,.int x5,.int y0],q.1.toList++[],q.2):=Je h rfl [.ref 0,.int x1,.int x2,.int x3,.int x4,.int x5,.int y0]<|Jd h rfl rfl<|Jb h rfl rfl<|Jb h rfl rfl<|Jb h rfl rfl<|Jf h rfl rfl
theorem EeH{f1}(h:Fx f1)(x1 x2 x3 x4 x5 x6:Int32)(S):f1 (54,53,[.ref 0,.int x1,.int x2,.int x3,.int x4,.int x5,.int x6],[],S)=(f1 (25,0,[.ref 0,.int x1,.int x4,.int x5],[],S)).bind fun q=>f1 (54,62,[.ref 0,.int x1,.int x2,.int x3,.int x4,.int x5,.int x6],q.1.toList++[],q.2):=Jd h rfl rfl<|Jb h rfl rfl<|Jb h rfl rfl<|Jb h rfl rfl<|Jf h rfl rfl
theorem EdQ{f1}(h:Fx f1)(x1 x2 x3 x4 x5 x6:Int32)(S):f1 (54,62,[.ref 0,.int x1,.int x2,.int x3,.int x4,.int x5,.int x6],[],S)=f1 (54,8,[.ref 0,.int x1,.int x2,.int (x3+1)],[],S):=Jn h rfl k_1 rfl [.ref 0,.int x1,.int x2,.int (x3+1),.int x4,.int x5,.int x6]<|Jh h rfl<|Jr h rfl rfl
theorem EbW{f1}(h:Fx f1)(x1 x2 x3:Int32)(S):f1 (25,0,[.ref 0,.int x1,.int x2,.int x3],[],S)=(f1 (21,0,[.ref 0,.int x1],[],S)).bind fun q=>f1 (25,5,[.ref 0,.int x1,.int x2,.int x3],q.1.toList++[],q.2):=Jd h rfl rfl<|Jb h rfl rfl<|Jf h rfl rfl
theorem Eeu{f1}(h:Fx f1)(x1 x2 x3 y0:Int32)(S):f1 (25,5,[.ref 0,.int x1,.int x2,.int x3],[.int y0],S)=if y0=0 then some (none,S) else if x2<0 then some (none,S) else if x2<8 then if inb ((x1*8)+x2) 512=true then some (none,(upd S 4 (((x1*8)+x2)).toNatClampNeg x3)) else none else some (none,S):=Jy h rfl (Jk h rfl) (Jb h rfl rfl<|JB h rfl (Jk h rfl) (Jb h rfl rfl<|Jc h rfl k_8<|Jm h rfl (Jd h rfl rfl<|Jg h rfl<|Jb h rfl rfl<|Jc h rfl k_8<|Jz h rfl<|Jb h rfl rfl<|Jt h rfl<|Jb h rfl rfl<|Jv h rfl rfl x3 fun i0=>Jk h rfl) (Jk h rfl)))
theorem EcC{f1}(h:Fx f1)(S):f1 (3,0,[.ref 0],[],S)=some (none,(upd S 0 1 0)):=Jd h rfl rfl<|Jc h rfl k_0<|Jw h rfl<|Jk h rfl
theorem EbL{f1}(h:Fx f1)(x1:Int32)(S):f1 (62,0,[.ref 0,.int x1],[],S)=(f1 (48,0,[.ref 0,.int 1],[],S)).bind fun q=>f1 (62,19,[.ref 0,.int x1,.int (S 19 0),.int (S 19 1)],q.1.toList++[],q.2):=Jd h rfl rfl<|Jg h rfl<|Jc h rfl k_0<|Jaz h rfl rfl 0 (S 19 0)<|Je h rfl [.ref 0,.int x1,.int (S 19 0)]<|Jd h rfl rfl<|Jg h rfl<|Jc h rfl k_1<|Jaz h rfl rfl 1 (S 19 1)<|Je h rfl [.ref 0,.int x1,.int (S 19 0),.int (S 19 1)]<|Jd h rfl rfl<|Jc h rfl k_1<|Jf h rfl rfl
theorem EeJ{f1}(h:Fx f1)(x1 x2 x3 y0:Int32)(S):f1 (62,19,[.ref 0,.int x1,.int x2,.int x3],[.int y0],S)=if y0<(-1) then some (some (.int 0),S) else (f1 (49,0,[.ref 0],[],S)).bind fun q=>f1 (62,33,[.ref 0,.int x1,.int x2,.int x3,.int y0],q.1.toList++[],q.2):=Je h rfl [.ref 0,.int x1,.int x2,.int x3,.int y0]<|Jb h rfl rfl<|Jc h rfl k_m1<|Jm h rfl (Jc h rfl k_0<|Jl h rfl) (Jd h rfl rfl<|Jf h rfl rfl)
theorem Eb0{f1}(h:Fx f1)(x1 x2 x3 x4:Int32)(S):f1 (62,33,[.ref 0,.int x1,.int x2,.int x3,.int x4],[],S)=(f1 (52,0,[.ref 0,.int x2,.int 0],[],S)).bind fun q=>f1 (62,39,[.ref 0,.int x1,.int x2,.int x3,.int x4],q.1.toList++[],q.2):=Jd h rfl rfl<|Jb h rfl rfl<|Jc h rfl k_0<|Jf h rfl rfl
theorem Ebd{f1}(h:Fx f1)(x1 x2 x3 x4:Int32)(S):f1 (62,39,[.ref 0,.int x1,.int x2,.int x3,.int x4],[],S)=(f1 (50,0,[.ref 0,.int x4],[],S)).bind fun q=>f1 (62,45,[.ref 0,.int x1,.int x2,.int x3,.int x4],q.1.toList++[],q.2):=Jd h rfl rfl<|Jb h rfl rfl<|Jf h rfl rfl
theorem Edw{f1}(h:Fx f1)(x1 x2 x3 x4:Int32)(S):f1 (62,45,[.ref 0,.int x1,.int x2,.int x3,.int x4],[],S)=(f1 (52,0,[.ref 0,.int x3,.int 1],[],S)).bind fun q=>f1 (62,51,[.ref 0,.int x1,.int x2,.int x3,.int x4],q.1.toList++[],q.2):=Jd h rfl rfl<|Jb h rfl rfl<|Jc h rfl k_1<|Jf h rfl rfl
theorem EdT{f1}(h:Fx f1)(x1 x2 x3 x4:Int32)(S):f1 (62,51,[.ref 0,.int x1,.int x2,.int x3,.int x4],[],S)=if (S 0 8)=0 then if inb x1 64=true then (f1 (53,0,[.ref 0,.int x1],[],(upd S 1 (x1).toNatClampNeg 2))).bind fun q=>f1 (62,70,[.ref 0,.int x1,.int x2,.int x3,.int x4],q.1.toList++[],q.2) else none else if inb x2 64=true then (f1 (53,0,[.ref 0,.int x2],[],(upd S 1 (x2).toNatClampNeg 2))).bind fun q=>f1 (62,99,[.ref 0,.int x1,.int x2,.int x3,.int x4],q.1.toList++[],q.2) else none:=Jd h rfl rfl<|Jj h rfl (S 0 8)<|Js h rfl (Jd h rfl rfl<|Jg h rfl<|Jb h rfl rfl<|Jc h rfl k_2<|Jv h rfl rfl 2 fun i0=>Jd h rfl rfl<|Jb h rfl rfl<|Jf h rfl rfl) (Jd h rfl rfl<|Jg h rfl<|Jb h rfl rfl<|Jc h rfl k_2<|Jv h rfl rfl 2 fun i0=>Jd h rfl rfl<|Jb h rfl rfl<|Jf h rfl rfl)
theorem Eek{f1}(h:Fx f1)(x1 x2 x3 x4 y0:Int32)(S):f1 (62,70,[.ref 0,.int x1,.int x2,.int x3,.int x4],[.int y0],S)=if y0=0 then some (some (.int 0),S) else (f1 (33,0,[.ref 0,.int x2],[],S)).bind fun q=>f1 (62,80,[.ref 0,.int x1,.int x2,.int x3,.int x4],q.1.toList++[],q.2):=Js h rfl (Jc h rfl k_0<|Jl h rfl) (Jd h rfl rfl<|Jb h rfl rfl<|Jf h rfl rfl)
theorem EbU{f1}(h:Fx f1)(x1 x2 x3 x4:Int32)(S):f1 (62,80,[.ref 0,.int x1,.int x2,.int x3,.int x4],[],S)=(f1 (33,0,[.ref 0,.int x3],[],S)).bind fun q=>f1 (62,85,[.ref 0,.int x1,.int x2,.int x3,.int x4],q.1.toList++[],q.2):=Jd h rfl rfl<|Jb h rfl rfl<|Jf h rfl rfl
theorem EdY{f1}(h:Fx f1)(x1 x2 x3 x4:Int32)(S):f1 (62,85,[.ref 0,.int x1,.int x2,.int x3,.int x4],[],S)=some (some (.int 1),S):=Jc h rfl k_1<|JC h rfl
theorem Ec2{f1}(h:Fx f1)(x1 x2 x3 x4 y0:Int32)(S):f1 (62,99,[.ref 0,.int x1,.int x2,.int x3,.int x4],[.int y0],S)=if y0=0 then some (some (.int 0),S) else (f1 (33,0,[.ref 0,.int x3],[],S)).bind fun q=>f1 (62,109,[.ref 0,.int x1,.int x2,.int x3,.int x4],q.1.toList++[],q.2):=Js h rfl (Jc h rfl k_0<|Jl h rfl) (Jd h rfl rfl<|Jb h rfl rfl<|Jf h rfl rfl)
theorem Edd{f1}(h:Fx f1)(x1 x2 x3 x4:Int32)(S):f1 (62,109,[.ref 0,.int x1,.int x2,.int x3,.int x4],[],S)=(f1 (49,0,[.ref 0],[],S)).bind fun q=>f1 (62,113,[.ref 0,.int x1,.int x2,.int x3,.int x4],q.1.toList++[],q.2):=Jd h rfl rfl<|Jf h rfl rfl
theorem Ed6{f1}(h:Fx f1)(x1 x2 x3 x4:Int32)(S):f1 (62,113,[.ref 0,.int x1,.int x2,.int x3,.int x4],[],S)=(f1 (51,0,[.ref 0],[],S)).bind fun q=>f1 (62,117,[.ref 0,.int x1,.int x2,.int x3,.int x4],q.1.toList++[],q.2):=Jd h rfl rfl<|Jf h rfl rfl
theorem Eea{f1}(h:Fx f1)(x1 x2 x3 x4:Int32)(S):f1 (62,117,[.ref 0,.int x1,.int x2,.int x3,.int x4],[],S)=(f1 (50,0,[.ref 0,.int x2],[],S)).bind fun q=>f1 (62,122,[.ref 0,.int x1,.int x2,.int x3,.int x4],q.1.toList++[],q.2):=Jd h rfl rfl<|Jb h rfl rfl<|Jf h rfl rfl
theorem EeY{f1}(h:Fx f1)(x1 x2 x3 x4:Int32)(S):f1 (62,122,[.ref 0,.int x1,.int x2,.int x3,.int x4],[],S)=(f1 (53,0,[.ref 0,.int x1],[],S)).bind fun q=>f1 (62,127,[.ref 0,.int x1,.int x2,.int x3,.int x4],q.1.toList++[],q.2):=Jd h rfl rfl<|Jb h rfl rfl<|Jf h rfl rfl
theorem EeS{f1}(h:Fx f1)(x1 x2 x3 x4 y0:Int32)(S):f1 (62,127,[.ref 0,.int x1,.int x2,.int x3,.int x4],[.int y0],S)=some (some (.int (y0&&&1)),S):=J6 h rfl
theorem Eer{f1 f2 xs}(h:Fy xs f1 f2):f2 (0,0,[.ref 0],[],(false,[]))=(f1 (0,222,[.ref 0,.int 6],[],iniS iv1)).bind fun q=>f2 (0,9,[.ref 0],[.ref 1],(false,[q.2])):=JX h rfl<|JN h rfl<|Jc h rfl k_6<|JZ h rfl rfl
theorem Eds{f1 f2 xs}(h:Fy xs f1 f2)(S0):f2 (0,9,[.ref 0],[.ref 1],(false,[S0]))=f2 (0,28,[.ref 0,.ref 1,.int 0,.int 0,.int 0,.int 720,.int 0,.int 0],[],(false,[S0])):=Jaa h rfl [.ref 0,.ref 1]<|Jc h rfl k_0<|Je h rfl [.ref 0,.ref 1,.int 0]<|Jc h rfl k_0<|Je h rfl [.ref 0,.ref 1,.int 0,.int 0]<|Jc h rfl k_0<|Je h rfl [.ref 0,.ref 1,.int 0,.int 0,.int 0]<|Jc h rfl k_720<|Je h rfl [.ref 0,.ref 1,.int 0,.int 0,.int 0,.int 720]<|Jc h rfl k_0<|Je h rfl [.ref 0,.ref 1,.int 0,.int 0,.int 0,.int 720,.int 0]<|Jc h rfl k_0<|Je h rfl [.ref 0,.ref 1,.int 0,.int 0,.int 0,.int 720,.int 0,.int 0] rfl
theorem EJ{f1 f2 xs}(h:Fy xs f1 f2)(x2 x3 x4 x5 x6 x7:Int32)(S0):f2 (0,28,[.ref 0,.ref 1,.int x2,.int x3,.int x4,.int x5,.int x6,.int x7],[],(false,[S0]))=if (x7+1)<(Int32.ofNat xs.length) then if inb x7 xs.length=true then if inb (x7+1) xs.length=true then if ((xs.getD (x7).toNatClampNeg 0)&&&7)=0 then f2 (0,75,[.ref 0,.ref 1,.int x2,.int x3,.int x4,.int x5,.int x6,.int x7,.int ((xs.getD (x7).toNatClampNeg 0)&&&7),.int (xs.getD ((x7+1)).toNatClampNeg 0),.int (-1),.int 0,.int 0],[],(false,[S0])) else if ((xs.getD (x7).toNatClampNeg 0)&&&7)=6 then f2 (0,75,[.ref 0,.ref 1,.int x2,.int x3,.int x4,.int x5,.int x6,.int x7,.int ((xs.getD (x7).toNatClampNeg 0)&&&7),.int (xs.getD ((x7+1)).toNatClampNeg 0),.int (-1),.int 0,.int 0],[],(false,[S0])) else if ((xs.getD (x7).toNatClampNeg 0)&&&7)=1 then if ((xs.getD ((x7+1)).toNatClampNeg 0)&&&7)<6 then if ((x2>>>(((xs.getD ((x7+1)).toNatClampNeg 0)&&&7)&&&31))&&&1)=1 then (f1 (5,0,[.ref 0,.int ((xs.getD ((x7+1)).toNatClampNeg 0)&&&7)],[],S0)).bind fun q=>f2 (0,176,[.ref 0,.ref 1,.int x2,.int x3,.int x4,.int x5,.int x6,.int x7,.int ((xs.getD (x7).toNatClampNeg 0)&&&7),.int (xs.getD ((x7+1)).toNatClampNeg 0),.int (-1),.int 0,.int 0,.int ((xs.getD ((x7+1)).toNatClampNeg 0)&&&7),.int 1],q.1.toList++[],(false,[q.2])) else (f1 (5,0,[.ref 0,.int ((xs.getD ((x7+1)).toNatClampNeg 0)&&&7)],[],S0)).bind fun q=>f2 (0,176,[.ref 0,.ref 1,.int x2,.int x3,.int x4,.int x5,.int x6,.int x7,.int ((xs.getD (x7).toNatClampNeg 0)&&&7),.int (xs.getD ((x7+1)).toNatClampNeg 0),.int (-1),.int 0,.int 0,.int ((xs.getD ((x7+1)).toNatClampNeg 0)&&&7),.int 0],q.1.toList++[],(false,[q.2])) else (f1 (5,0,[.ref 0,.int ((xs.getD ((x7+1)).toNatClampNeg 0)&&&7)],[],S0)).bind fun q=>f2 (0,176,[.ref 0,.ref 1,.int x2,.int x3,.int x4,.int x5,.int x6,.int x7,.int ((xs.getD (x7).toNatClampNeg 0)&&&7),.int (xs.getD ((x7+1)).toNatClampNeg 0),.int (-1),.int 0,.int 0,.int ((xs.getD ((x7+1)).toNatClampNeg 0)&&&7),.int 0],q.1.toList++[],(false,[q.2])) else if ((xs.getD (x7).toNatClampNeg 0)&&&7)=2 then (f1 (9,0,[.ref 0,.int x2],[],S0)).bind fun q=>f2 (0,222,[.ref 0,.ref 1,.int x2,.int x3,.int x4,.int x5,.int x6,.int x7,.int ((xs.getD (x7).toNatClampNeg 0)&&&7),.int (xs.getD ((x7+1)).toNatClampNeg 0),.int x2,.int 0,.int 0],q.1.toList++[],(false,[q.2])) else if ((xs.getD (x7).toNatClampNeg 0)&&&7)=7 then (f1 (9,0,[.ref 0,.int x2],[],S0)).bind fun q=>f2 (0,222,[.ref 0,.ref 1,.int x2,.int x3,.int x4,.int x5,.int x6,.int x7,.int ((xs.getD (x7).toNatClampNeg 0)&&&7),.int (xs.getD ((x7+1)).toNatClampNeg 0),.int x2,.int 0,.int 0],q.1.toList++[],(false,[q.2])) else if ((xs.getD (x7).toNatClampNeg 0)&&&7)=3 then if ((xs.getD ((x7+1)).toNatClampNeg 0)&&&1023)<1000 then (f1 (9,0,[.ref 0,.int (((xs.getD ((x7+1)).toNatClampNeg 0)&&&1023)&&&63)],[],S0)).bind fun q=>f2 (0,270,[.ref 0,.ref 1,.int x2,.int x3,.int x4,.int x5,.int x6,.int x7,.int ((xs.getD (x7).toNatClampNeg 0)&&&7),.int (xs.getD ((x7+1)).toNatClampNeg 0),.int (((xs.getD ((x7+1)).toNatClampNeg 0)&&&1023)&&&63),.int 0,.int 0],q.1.toList++[],(false,[q.2])) else (f1 (9,0,[.ref 0,.int ((xs.getD ((x7+1)).toNatClampNeg 0)&&&1023)],[],S0)).bind fun q=>f2 (0,270,[.ref 0,.ref 1,.int x2,.int x3,.int x4,.int x5,.int x6,.int x7,.int ((xs.getD (x7).toNatClampNeg 0)&&&7),.int (xs.getD ((x7+1)).toNatClampNeg 0),.int ((xs.getD ((x7+1)).toNatClampNeg 0)&&&1023),.int 0,.int 0],q.1.toList++[],(false,[q.2])) else if ((xs.getD (x7).toNatClampNeg 0)&&&7)=4 then (f1 (3,0,[.ref 0],[],S0)).bind fun q=>f2 (0,323,[.ref 0,.ref 1,.int x2,.int x3,.int x4,.int x5,.int x6,.int x7,.int ((xs.getD (x7).toNatClampNeg 0)&&&7),.int (xs.getD ((x7+1)).toNatClampNeg 0),.int (-1),.int 0,.int 0],q.1.toList++[],(false,[q.2])) else if ((xs.getD ((x7+1)).toNatClampNeg 0)&&&7)=0 then (f1 (2,0,[.ref 0],[],S0)).bind fun q=>f2 (0,332,[.ref 0,.ref 1,.int x2,.int x3,.int x4,.int x5,.int x6,.int x7,.int ((xs.getD (x7).toNatClampNeg 0)&&&7),.int (xs.getD ((x7+1)).toNatClampNeg 0),.int (-1),.int 0,.int 0],q.1.toList++[],(false,[q.2])) else (f1 (3,0,[.ref 0],[],S0)).bind fun q=>f2 (0,323,[.ref 0,.ref 1,.int x2,.int x3,.int x4,.int x5,.int x6,.int x7,.int ((xs.getD (x7).toNatClampNeg 0)&&&7),.int (xs.getD ((x7+1)).toNatClampNeg 0),.int (-1),.int 0,.int 0],q.1.toList++[],(false,[q.2])) else none else none else some (some (.int 1),(false,[S0])):=Jb h rfl rfl<|Jc h rfl k_1<|Jt h rfl<|Jd h rfl rfl<|J9 h rfl<|Jm h rfl (Jd h rfl rfl<|Jb h rfl rfl<|JR h rfl fun _=>Jc h rfl k_7<|Ju h rfl<|Je h rfl [.ref 0,.ref 1,.int x2,.int x3,.int x4,.int x5,.int x6,.int x7,.int ((xs.getD (x7).toNatClampNeg 0)&&&7)]<|Jd h rfl rfl<|Jb h rfl rfl<|Jc h rfl k_1<|Jt h rfl<|JR h rfl fun _=>Je h rfl [.ref 0,.ref 1,.int x2,.int x3,.int x4,.int x5,.int x6,.int x7,.int ((xs.getD (x7).toNatClampNeg 0)&&&7),.int (xs.getD ((x7+1)).toNatClampNeg 0)]<|Jc h rfl k_m1<|Je h rfl [.ref 0,.ref 1,.int x2,.int x3,.int x4,.int x5,.int x6,.int x7,.int ((xs.getD (x7).toNatClampNeg 0)&&&7),.int (xs.getD ((x7+1)).toNatClampNeg 0),.int (-1)]<|Jc h rfl k_0<|Je h rfl [.ref 0,.ref 1,.int x2,.int x3,.int x4,.int x5,.int x6,.int x7,.int ((xs.getD (x7).toNatClampNeg 0)&&&7),.int (xs.getD ((x7+1)).toNatClampNeg 0),.int (-1),.int 0]<|Jc h rfl k_0<|Je h rfl [.ref 0,.ref 1,.int x2,.int x3,.int x4,.int x5,.int x6,.int x7,.int ((xs.getD (x7).toNatClampNeg 0)&&&7),.int (xs.getD ((x7+1)).toNatClampNeg 0),.int (-1),.int 0,.int 0]<|Jb h rfl rfl<|Jy h rfl rfl (Jb h rfl rfl<|Jc h rfl k_6<|Jp h rfl rfl (Jb h rfl rfl<|Jc h rfl k_1<|Jp h rfl (Jb h rfl rfl<|Jc h rfl k_7<|Ju h rfl<|Je h rfl [.ref 0,.ref 1,.int x2,.int x3,.int x4,.int x5,.int x6,.int x7,.int ((xs.getD (x7).toNatClampNeg 0)&&&7),.int (xs.getD ((x7+1)).toNatClampNeg 0),.int (-1),.int 0,.int 0,.int ((xs.getD ((x7+1)).toNatClampNeg 0)&&&7)]<|Jb h rfl rfl<|Jc h rfl k_6<|Jm h rfl (Jb h rfl rfl<|Jb h rfl rfl<|JV h rfl<|Jc h rfl k_1<|Ju h rfl<|Jc h rfl k_1<|Jp h rfl (Jc h rfl k_1<|Jh h rfl<|Je h rfl [.ref 0,.ref 1,.int x2,.int x3,.int x4,.int x5,.int x6,.int x7,.int ((xs.getD (x7).toNatClampNeg 0)&&&7),.int (xs.getD ((x7+1)).toNatClampNeg 0),.int (-1),.int 0,.int 0,.int ((xs.getD ((x7+1)).toNatClampNeg 0)&&&7),.int 1]<|Jd h rfl rfl<|Jb h rfl rfl<|Jq h 0 rfl rfl rfl) (Jc h rfl k_0<|Je h rfl [.ref 0,.ref 1,.int x2,.int x3,.int x4,.int x5,.int x6,.int x7,.int ((xs.getD (x7).toNatClampNeg 0)&&&7),.int (xs.getD ((x7+1)).toNatClampNeg 0),.int (-1),.int 0,.int 0,.int ((xs.getD ((x7+1)).toNatClampNeg 0)&&&7),.int 0]<|Jd h rfl rfl<|Jb h rfl rfl<|Jq h 0 rfl rfl rfl)) (Jc h rfl k_0<|Je h rfl [.ref 0,.ref 1,.int x2,.int x3,.int x4,.int x5,.int x6,.int x7,.int ((xs.getD (x7).toNatClampNeg 0)&&&7),.int (xs.getD ((x7+1)).toNatClampNeg 0),.int (-1),.int 0,.int 0,.int ((xs.getD ((x7+1)).toNatClampNeg 0)&&&7),.int 0]<|Jd h rfl rfl<|Jb h rfl rfl<|Jq h 0 rfl rfl rfl)) (Jb h rfl rfl<|Jc h rfl k_2<|JA h rfl (Jb h rfl rfl<|Je h rfl [.ref 0,.ref 1,.int x2,.int x3,.int x4,.int x5,.int x6,.int x7,.int ((xs.getD (x7).toNatClampNeg 0)&&&7),.int (xs.getD ((x7+1)).toNatClampNeg 0),.int x2,.int 0,.int 0]<|Jd h rfl rfl<|Jb h rfl rfl<|Jq h 0 rfl rfl rfl) (Jb h rfl rfl<|Jc h rfl k_7<|Jp h rfl (Jb h rfl rfl<|Je h rfl [.ref 0,.ref 1,.int x2,.int x3,.int x4,.int x5,.int x6,.int x7,.int ((xs.getD (x7).toNatClampNeg 0)&&&7),.int (xs.getD ((x7+1)).toNatClampNeg 0),.int x2,.int 0,.int 0]<|Jd h rfl rfl<|Jb h rfl rfl<|Jq h 0 rfl rfl rfl) (Jb h rfl rfl<|Jc h rfl k_3<|Jp h rfl (Jb h rfl rfl<|Jc h rfl k_1023<|Ju h rfl<|Je h rfl [.ref 0,.ref 1,.int x2,.int x3,.int x4,.int x5,.int x6,.int x7,.int ((xs.getD (x7).toNatClampNeg 0)&&&7),.int (xs.getD ((x7+1)).toNatClampNeg 0),.int ((xs.getD ((x7+1)).toNatClampNeg 0)&&&1023),.int 0,.int 0]<|Jb h rfl rfl<|Jc h rfl k_1000<|Jm h rfl (Jb h rfl rfl<|Jc h rfl k_63<|Ju h rfl<|Je h rfl [.ref 0,.ref 1,.int x2,.int x3,.int x4,.int x5,.int x6,.int x7,.int ((xs.getD (x7).toNatClampNeg 0)&&&7),.int (xs.getD ((x7+1)).toNatClampNeg 0),.int (((xs.getD ((x7+1)).toNatClampNeg 0)&&&1023)&&&63),.int 0,.int 0]<|Jd h rfl rfl<|Jb h rfl rfl<|Jq h 0 rfl rfl rfl) (Jd h rfl rfl<|Jb h rfl rfl<|Jq h 0 rfl rfl rfl)) (Jb h rfl rfl<|Jc h rfl k_4<|JA h rfl (Jd h rfl rfl<|Jq h 0 rfl rfl rfl) (Jb h rfl rfl<|Jc h rfl k_7<|Ju h rfl<|Jy h rfl (Jd h rfl rfl<|Jq h 0 rfl rfl rfl) (Jd h rfl rfl<|Jq h 0 rfl rfl rfl))))))))) (Jc h rfl k_1<|JC h rfl)
theorem EdX{f1 f2 xs}(h:Fy xs f1 f2)(x2 x3 x4 x5 x6 x7 x8 x9 x10 x11 x12:Int32)(S0):f2 (0,75,[.ref 0,.ref 1,.int x2,.int x3,.int x4,.int x5,.int x6,.int x7,.int x8,.int x9,.int x10,.int x11,.int x12],[],(false,[S0]))=if (x9&&&7)<6 then if ((x2>>>((x9&&&7)&&&31))&&&1)=0 then (f1 (4,0,[.ref 0,.int (x9&&&7)],[],S0)).bind fun q=>f2 (0,111,[.ref 0,.ref 1,.int x2,.int x3,.int x4,.int x5,.int x6,.int x7,.int x8,.int x9,.int x10,.int x11,.int x12,.int (x9&&&7),.int 1],q.1.toList++[],(false,[q.2])) else (f1 (4,0,[.ref 0,.int (x9&&&7)],[],S0)).bind fun q=>f2 (0,111,[.ref 0,.ref 1,.int x2,.int x3,.int x4,.int x5,.int x6,.int x7,.int x8,.int x9,.int x10,.int x11,.int x12,.int (x9&&&7),.int 0],q.1.toList++[],(false,[q.2])) else (f1 (4,0,[.ref 0,.int (x9&&&7)],[],S0)).bind fun q=>f2 (0,111,[.ref 0,.ref 1,.int x2,.int x3,.int x4,.int x5,.int x6,.int x7,.int x8,.int x9,.int x10,.int x11,.int x12,.int (x9&&&7),.int 0],q.1.toList++[],(false,[q.2])):=Jb h rfl rfl<|Jc h rfl k_7<|Ju h rfl<|Je h rfl [.ref 0,.ref 1,.int x2,.int x3,.int x4,.int x5,.int x6,.int x7,.int x8,.int x9,.int x10,.int x11,.int x12,.int (x9&&&7)]<|Jb h rfl rfl<|Jc h rfl k_6<|Jm h rfl (Jb h rfl rfl<|Jb h rfl rfl<|JV h rfl<|Jc h rfl k_1<|Ju h rfl<|Js h rfl (Jc h rfl k_1<|Jh h rfl<|Je h rfl [.ref 0,.ref 1,.int x2,.int x3,.int x4,.int x5,.int x6,.int x7,.int x8,.int x9,.int x10,.int x11,.int x12,.int (x9&&&7),.int 1]<|Jd h rfl rfl<|Jb h rfl rfl<|Jq h 0 rfl rfl rfl) (Jc h rfl k_0<|Je h rfl [.ref 0,.ref 1,.int x2,.int x3,.int x4,.int x5,.int x6,.int x7,.int x8,.int x9,.int x10,.int x11,.int x12,.int (x9&&&7),.int 0]<|Jd h rfl rfl<|Jb h rfl rfl<|Jq h 0 rfl rfl rfl)) (Jc h rfl k_0<|Je h rfl [.ref 0,.ref 1,.int x2,.int x3,.int x4,.int x5,.int x6,.int x7,.int x8,.int x9,.int x10,.int x11,.int x12,.int (x9&&&7),.int 0]<|Jd h rfl rfl<|Jb h rfl rfl<|Jq h 0 rfl rfl rfl)
theorem Ez{f1 f2 xs}(h:Fy xs f1 f2)(x2 x3 x4 x5 x6 x7 x8 x9 x10 x11 x12 x13 x14 y0:Int32)(S0):f2 (0,111,[.ref 0,.ref 1,.int x2,.int x3,.int x4,.int x5,.int x6,.int x7,.int x8,.int x9,.int x10,.int x11,.int x12,.int x13,.int x14],[.int y0],(false,[S0]))=if y0=x14 then if x14=0 then f2 (0,130,[.ref 0,.ref 1,.int x2,.int x3,.int x4,.int x5,.int x6,.int x7,.int x8,.int x9,.int x10,.int x11,.int x12,.int x13,.int x14],[],(false,[S0])) else f2 (0,130,[.ref 0,.ref 1,.int (x2|||(1<<<(x13&&&31))),.int x3,.int x4,.int x5,.int x6,.int x7,.int x8,.int x9,.int x10,.int x11,.int x12,.int x13,.int x14],[],(false,[S0])) else some (some (.int 0),(false,[S0])):=Jb h rfl rfl<|JA h rfl (Jb h rfl rfl<|Jy h rfl rfl (Jb h rfl rfl<|Jc h rfl k_1<|Jb h rfl rfl<|JI h rfl<|JY h rfl<|Je h rfl [.ref 0,.ref 1,.int (x2|||(1<<<(x13&&&31))),.int x3,.int x4,.int x5,.int x6,.int x7,.int x8,.int x9,.int x10,.int x11,.int x12,.int x13,.int x14] rfl)) (Jc h rfl k_0<|Jl h rfl)
theorem E9{f1 f2 xs}(h:Fy xs f1 f2)(x2 x3 x4 x5 x6 x7 x8 x9 x10 x11 x12 x13 x14:Int32)(S0):f2 (0,130,[.ref 0,.ref 1,.int x2,.int x3,.int x4,.int x5,.int x6,.int x7,.int x8,.int x9,.int x10,.int x11,.int x12,.int x13,.int x14],[],(false,[S0]))=f2 (0,347,[.ref 0,.ref 1,.int x2,.int x3,.int x4,.int x5,.int x6,.int x7,.int x8,.int x9,.int x10,.int x11,.int x12],[],(false,[S0])):=Jh h rfl<|Jr h rfl rfl
theorem Et{f1 f2 xs}(h:Fy xs f1 f2)(x2 x3 x4 x5 x6 x7 x8 x9 x10 x11 x12 x13 x14 y0:Int32)(S0):f2 (0,176,[.ref 0,.ref 1,.int x2,.int x3,.int x4,.int x5,.int x6,.int x7,.int x8,.int x9,.int x10,.int x11,.int x12,.int x13,.int x14],[.int y0],(false,[S0]))=if y0=x14 then if x14=0 then f2 (0,197,[.ref 0,.ref 1,.int x2,.int x3,.int x4,.int x5,.int x6,.int x7,.int x8,.int x9,.int x10,.int x11,.int x12,.int x13,.int x14],[],(false,[S0])) else f2 (0,197,[.ref 0,.ref 1,.int (x2&&&((1<<<(x13&&&31))^^^(-1))),.int x3,.int x4,.int x5,.int x6,.int x7,.int x8,.int x9,.int x10,.int x11,.int x12,.int x13,.int x14],[],(false,[S0])) else some (some (.int 0),(false,[S0])):=Jb h rfl rfl<|JA h rfl (Jb h rfl rfl<|Jy h rfl rfl (Jb h rfl rfl<|Jc h rfl k_1<|Jb h rfl rfl<|JI h rfl<|Jc h rfl k_m1<|JD h rfl<|Ju h rfl<|Je h rfl [.ref 0,.ref 1,.int (x2&&&((1<<<(x13&&&31))^^^(-1))),.int x3,.int x4,.int x5,.int x6,.int x7,.int x8,.int x9,.int x10,.int x11,.int x12,.int x13,.int x14] rfl)) (Jc h rfl k_0<|Jl h rfl)
theorem EA{f1 f2 xs}(h:Fy xs f1 f2)(x2 x3 x4 x5 x6 x7 x8 x9 x10 x11 x12 x13 x14:Int32)(S0):f2 (0,197,[.ref 0,.ref 1,.int x2,.int x3,.int x4,.int x5,.int x6,.int x7,.int x8,.int x9,.int x10,.int x11,.int x12,.int x13,.int x14],[],(false,[S0]))=f2 (0,347,[.ref 0,.ref 1,.int x2,.int x3,.int x4,.int x5,.int x6,.int x7,.int x8,.int x9,.int x10,.int x11,.int x12],[],(false,[S0])):=Jh h rfl<|Jr h rfl rfl
theorem Ebj{f1 f2 xs}(h:Fy xs f1 f2)(x2 x3 x4 x5 x6 x7 x8 x9 x10 x11 x12 y0:Int32)(S0):f2 (0,222,[.ref 0,.ref 1,.int x2,.int x3,.int x4,.int x5,.int x6,.int x7,.int x8,.int x9,.int x10,.int x11,.int x12],[.int y0],(false,[S0]))=(f1 (7,0,[.ref 0],[],S0)).bind fun q=>f2 (0,228,[.ref 0,.ref 1,.int x2,.int x3,.int x4,.int x5,.int x6,.int x7,.int x8,.int x9,.int x10,.int y0,.int x12],q.1.toList++[],(false,[q.2])):=Je h rfl [.ref 0,.ref 1,.int x2,.int x3,.int x4,.int x5,.int x6,.int x7,.int x8,.int x9,.int x10,.int y0,.int x12]<|Jd h rfl rfl<|Jq h 0 rfl rfl rfl
theorem Edq{f1 f2 xs}(h:Fy xs f1 f2)(x2 x3 x4 x5 x6 x7 x8 x9 x10 x11 x12 y0:Int32)(S0):f2 (0,228,[.ref 0,.ref 1,.int x2,.int x3,.int x4,.int x5,.int x6,.int x7,.int x8,.int x9,.int x10,.int x11,.int x12],[.int y0],(false,[S0]))=f2 (0,347,[.ref 0,.ref 1,.int 0,.int x3,.int x4,.int x5,.int x6,.int x7,.int x8,.int x9,.int x10,.int x11,.int y0],[],(false,[S0])):=Je h rfl [.ref 0,.ref 1,.int x2,.int x3,.int x4,.int x5,.int x6,.int x7,.int x8,.int x9,.int x10,.int x11,.int y0]<|Jc h rfl k_0<|Je h rfl [.ref 0,.ref 1,.int 0,.int x3,.int x4,.int x5,.int x6,.int x7,.int x8,.int x9,.int x10,.int x11,.int y0]<|Jh h rfl rfl
theorem Eaz{f1 f2 xs}(h:Fy xs f1 f2)(x2 x3 x4 x5 x6 x7 x8 x9 x10 x11 x12 y0:Int32)(S0):f2 (0,270,[.ref 0,.ref 1,.int x2,.int x3,.int x4,.int x5,.int x6,.int x7,.int x8,.int x9,.int x10,.int x11,.int x12],[.int y0],(false,[S0]))=(f1 (8,0,[.ref 0,.int x10],[],S0)).bind fun q=>f2 (0,278,[.ref 0,.ref 1,.int x2,.int x3,.int x4,.int x5,.int x6,.int x7,.int x8,.int x9,.int x10,.int y0,.int x12],q.1.toList++[],(false,[q.2])):=Je h rfl [.ref 0,.ref 1,.int x2,.int x3,.int x4,.int x5,.int x6,.int x7,.int x8,.int x9,.int x10,.int y0,.int x12]<|Jd h rfl rfl<|Jb h rfl rfl<|Jq h 0 rfl rfl rfl
theorem Eav{f1 f2 xs}(h:Fy xs f1 f2)(x2 x3 x4 x5 x6 x7 x8 x9 x10 x11 x12 y0:Int32)(S0):f2 (0,278,[.ref 0,.ref 1,.int x2,.int x3,.int x4,.int x5,.int x6,.int x7,.int x8,.int x9,.int x10,.int x11,.int x12],[.int y0],(false,[S0]))=if 63<x10 then if x11=0 then if y0=0 then f2 (0,347,[.ref 0,.ref 1,.int x2,.int x3,.int x4,.int x5,.int x6,.int x7,.int x8,.int x9,.int (-1),.int x11,.int y0],[],(false,[S0])) else some (some (.int 0),(false,[S0])) else some (some (.int 0),(false,[S0])) else f2 (0,347,[.ref 0,.ref 1,.int x2,.int x3,.int x4,.int x5,.int x6,.int x7,.int x8,.int x9,.int x10,.int x11,.int y0],[],(false,[S0])):=Je h rfl [.ref 0,.ref 1,.int x2,.int x3,.int x4,.int x5,.int x6,.int x7,.int x8,.int x9,.int x10,.int x11,.int y0]<|Jb h rfl rfl<|Jc h rfl k_63<|JO h rfl (Jb h rfl rfl<|Js h rfl (Jb h rfl rfl<|Jy h rfl (Jc h rfl k_m1<|Je h rfl [.ref 0,.ref 1,.int x2,.int x3,.int x4,.int x5,.int x6,.int x7,.int x8,.int x9,.int (-1),.int x11,.int y0]<|Jh h rfl rfl) (Jc h rfl k_0<|Jl h rfl)) (Jc h rfl k_0<|Jl h rfl)) rfl
theorem EbC{f1 f2 xs}(h:Fy xs f1 f2)(x2 x3 x4 x5 x6 x7 x8 x9 x10 x11 x12:Int32)(S0):f2 (0,323,[.ref 0,.ref 1,.int x2,.int x3,.int x4,.int x5,.int x6,.int x7,.int x8,.int x9,.int x10,.int x11,.int x12],[],(false,[S0]))=f2 (0,347,[.ref 0,.ref 1,.int 0,.int x3,.int x4,.int x5,.int x6,.int x7,.int x8,.int x9,.int x10,.int x11,.int x12],[],(false,[S0])):=Jc h rfl k_0<|Je h rfl [.ref 0,.ref 1,.int 0,.int x3,.int x4,.int x5,.int x6,.int x7,.int x8,.int x9,.int x10,.int x11,.int x12]<|Jh h rfl rfl
theorem EbM{f1 f2 xs}(h:Fy xs f1 f2)(x2 x3 x4 x5 x6 x7 x8 x9 x10 x11 x12:Int32)(S0):f2 (0,332,[.ref 0,.ref 1,.int x2,.int x3,.int x4,.int x5,.int x6,.int x7,.int x8,.int x9,.int x10,.int x11,.int x12],[],(false,[S0]))=f2 (0,347,[.ref 0,.ref 1,.int 0,.int 0,.int 0,.int 720,.int 0,.int x7,.int x8,.int x9,.int x10,.int x11,.int x12],[],(false,[S0])):=Jc h rfl k_0<|Je h rfl [.ref 0,.ref 1,.int 0,.int x3,.int x4,.int x5,.int x6,.int x7,.int x8,.int x9,.int x10,.int x11,.int x12]<|Jc h rfl k_0<|Je h rfl [.ref 0,.ref 1,.int 0,.int 0,.int x4,.int x5,.int x6,.int x7,.int x8,.int x9,.int x10,.int x11,.int x12]<|Jc h rfl k_0<|Je h rfl [.ref 0,.ref 1,.int 0,.int 0,.int 0,.int x5,.int x6,.int x7,.int x8,.int x9,.int x10,.int x11,.int x12]<|Jc h rfl k_720<|Je h rfl [.ref 0,.ref 1,.int 0,.int 0,.int 0,.int 720,.int x6,.int x7,.int x8,.int x9,.int x10,.int x11,.int x12]<|Jc h rfl k_0<|Je h rfl [.ref 0,.ref 1,.int 0,.int 0,.int 0,.int 720,.int 0,.int x7,.int x8,.int x9,.int x10,.int x11,.int x12] rfl
theorem EH{f1 f2 xs}(h:Fy xs f1 f2)(x2 x3 x4 x5 x6 x7 x8 x9 x10 x11 x12:Int32)(S0):f2 (0,347,[.ref 0,.ref 1,.int x2,.int x3,.int x4,.int x5,.int x6,.int x7,.int x8,.int x9,.int x10,.int x11,.int x12],[],(false,[S0]))=if x10<0 then (f1 (1,0,[.ref 0],[],S0)).bind fun q=>f2 (0,430,[.ref 0,.ref 1,.int x2,.int x3,.int x4,.int x5,.int x6,.int x7,.int x8,.int x9,.int x10,.int x11,.int x12],q.1.toList++[],(false,[q.2])) else (f1 (10,0,[.ref 0],[],S0)).bind fun q=>f2 (0,356,[.ref 0,.ref 1,.int x2,.int x3,.int x4,.int x5,.int x6,.int x7,.int x8,.int x9,.int x10,.int x11,.int x12],q.1.toList++[],(false,[q.2])):=Jb h rfl rfl<|JB h rfl (Jd h rfl rfl<|Jq h 0 rfl rfl rfl) (Jd h rfl rfl<|Jq h 0 rfl rfl rfl)
theorem Ea9{f1 f2 xs}(h:Fy xs f1 f2)(x2 x3 x4 x5 x6 x7 x8 x9 x10 x11 x12 y0:Int32)(S0):f2 (0,356,[.ref 0,.ref 1,.int x2,.int x3,.int x4,.int x5,.int x6,.int x7,.int x8,.int x9,.int x10,.int x11,.int x12],[.int y0],(false,[S0]))=if x12=x11 then if x12=1 then if y0<x5 then (f1 (1,0,[.ref 0],[],S0)).bind fun q=>f2 (0,430,[.ref 0,.ref 1,.int x2,.int (x3+1),.int x4,.int y0,.int x10,.int x7,.int x8,.int x9,.int x10,.int x11,.int x12],q.1.toList++[],(false,[q.2])) else some (some (.int 0),(false,[S0])) else if x12=2 then (f1 (1,0,[.ref 0],[],S0)).bind fun q=>f2 (0,430,[.ref 0,.ref 1,.int x2,.int (x3+1),.int x4,.int x5,.int x10,.int x7,.int x8,.int x9,.int x10,.int x11,.int x12],q.1.toList++[],(false,[q.2])) else if x12=3 then (f1 (1,0,[.ref 0],[],S0)).bind fun q=>f2 (0,430,[.ref 0,.ref 1,.int x2,.int x3,.int (x4+1),.int x5,.int x6,.int x7,.int x8,.int x9,.int x10,.int x11,.int x12],q.1.toList++[],(false,[q.2])) else some (some (.int 0),(false,[S0])) else some (some (.int 0),(false,[S0])):=Je h rfl [.ref 0,.ref 1,.int x2,.int x3,.int x4,.int x5,.int x6,.int x7,.int x8,.int x9,.int x10,.int x11,.int x12,.int y0]<|Jb h rfl rfl<|Jb h rfl rfl<|JA h rfl (Jb h rfl rfl<|Jc h rfl k_1<|Jp h rfl (Jb h rfl rfl<|Jb h rfl rfl<|JJ h rfl (Jn h rfl k_1 rfl [.ref 0,.ref 1,.int x2,.int (x3+1),.int x4,.int x5,.int x6,.int x7,.int x8,.int x9,.int x10,.int x11,.int x12,.int y0]<|Jb h rfl rfl<|Je h rfl [.ref 0,.ref 1,.int x2,.int (x3+1),.int x4,.int y0,.int x6,.int x7,.int x8,.int x9,.int x10,.int x11,.int x12,.int y0]<|Jb h rfl rfl<|Je h rfl [.ref 0,.ref 1,.int x2,.int (x3+1),.int x4,.int y0,.int x10,.int x7,.int x8,.int x9,.int x10,.int x11,.int x12,.int y0]<|Jh h rfl<|Jr h rfl<|Jd h rfl rfl<|Jq h 0 rfl rfl rfl) (Jc h rfl k_0<|Jl h rfl)) (Jb h rfl rfl<|Jc h rfl k_2<|Jp h rfl (Jn h rfl k_1 rfl [.ref 0,.ref 1,.int x2,.int (x3+1),.int x4,.int x5,.int x6,.int x7,.int x8,.int x9,.int x10,.int x11,.int x12,.int y0]<|Jb h rfl rfl<|Je h rfl [.ref 0,.ref 1,.int x2,.int (x3+1),.int x4,.int x5,.int x10,.int x7,.int x8,.int x9,.int x10,.int x11,.int x12,.int y0]<|Jh h rfl<|Jr h rfl<|Jd h rfl rfl<|Jq h 0 rfl rfl rfl) (Jb h rfl rfl<|Jc h rfl k_3<|Jp h rfl (Jn h rfl k_1 rfl [.ref 0,.ref 1,.int x2,.int x3,.int (x4+1),.int x5,.int x6,.int x7,.int x8,.int x9,.int x10,.int x11,.int x12,.int y0]<|Jh h rfl<|Jr h rfl<|Jd h rfl rfl<|Jq h 0 rfl rfl rfl) (Jc h rfl k_0<|Jl h rfl)))) (Jc h rfl k_0<|Jl h rfl)
theorem Eee{f1 f2 xs}(h:Fy xs f1 f2)(x2 x3 x4 x5 x6 x7 x8 x9 x10 x11 x12 y0:Int32)(S0):f2 (0,430,[.ref 0,.ref 1,.int x2,.int x3,.int x4,.int x5,.int x6,.int x7,.int x8,.int x9,.int x10,.int x11,.int x12],[.int y0],(false,[S0]))=if y0=6 then (f1 (6,0,[.ref 0],[],S0)).bind fun q=>f2 (0,439,[.ref 0,.ref 1,.int x2,.int x3,.int x4,.int x5,.int x6,.int x7,.int x8,.int x9,.int x10,.int x11,.int x12],q.1.toList++[],(false,[q.2])) else some (some (.int 0),(false,[S0])):=Jc h rfl k_6<|Jp h rfl (Jd h rfl rfl<|Jq h 0 rfl rfl rfl) (Jc h rfl k_0<|Jl h rfl)
theorem Ecp{f1 f2 xs}(h:Fy xs f1 f2)(x2 x3 x4 x5 x6 x7 x8 x9 x10 x11 x12 y0:Int32)(S0):f2 (0,439,[.ref 0,.ref 1,.int x2,.int x3,.int x4,.int x5,.int x6,.int x7,.int x8,.int x9,.int x10,.int x11,.int x12],[.int y0],(false,[S0]))=if y0=x2 then (f1 (14,0,[.ref 0],[],S0)).bind fun q=>f2 (0,449,[.ref 0,.ref 1,.int x2,.int x3,.int x4,.int x5,.int x6,.int x7,.int x8,.int x9,.int x10,.int x11,.int x12],q.1.toList++[],(false,[q.2])) else some (some (.int 0),(false,[S0])):=Jb h rfl rfl<|JA h rfl (Jd h rfl rfl<|Jq h 0 rfl rfl rfl) (Jc h rfl k_0<|Jl h rfl)
theorem EeV{f1 f2 xs}(h:Fy xs f1 f2)(x2 x3 x4 x5 x6 x7 x8 x9 x10 x11 x12 y0:Int32)(S0):f2 (0,449,[.ref 0,.ref 1,.int x2,.int x3,.int x4,.int x5,.int x6,.int x7,.int x8,.int x9,.int x10,.int x11,.int x12],[.int y0],(false,[S0]))=if y0=x3 then (f1 (15,0,[.ref 0],[],S0)).bind fun q=>f2 (0,457,[.ref 0,.ref 1,.int x2,.int x3,.int x4,.int x5,.int x6,.int x7,.int x8,.int x9,.int x10,.int x11,.int x12],q.1.toList++[],(false,[q.2])) else some (some (.int 0),(false,[S0])):=Jb h rfl rfl<|Jp h rfl (Jd h rfl rfl<|Jq h 0 rfl rfl rfl) (Jc h rfl k_0<|Jl h rfl)
theorem Ebb{f1 f2 xs}(h:Fy xs f1 f2)(x2 x3 x4 x5 x6 x7 x8 x9 x10 x11 x12 y0:Int32)(S0):f2 (0,457,[.ref 0,.ref 1,.int x2,.int x3,.int x4,.int x5,.int x6,.int x7,.int x8,.int x9,.int x10,.int x11,.int x12],[.int y0],(false,[S0]))=if y0=x4 then (f1 (10,0,[.ref 0],[],S0)).bind fun q=>f2 (0,466,[.ref 0,.ref 1,.int x2,.int x3,.int x4,.int x5,.int x6,.int x7,.int x8,.int x9,.int x10,.int x11,.int x12],q.1.toList++[],(false,[q.2])) else some (some (.int 0),(false,[S0])):=Jb h rfl rfl<|Jp h rfl (Jd h rfl rfl<|Jq h 0 rfl rfl rfl) (Jc h rfl k_0<|Jl h rfl)
theorem Eez{f1 f2 xs}(h:Fy xs f1 f2)(x2 x3 x4 x5 x6 x7 x8 x9 x10 x11 x12 y0:Int32)(S0):f2 (0,466,[.ref 0,.ref 1,.int x2,.int x3,.int x4,.int x5,.int x6,.int x7,.int x8,.int x9,.int x10,.int x11,.int x12],[.int y0],(false,[S0]))=if y0=x5 then (f2 (1,0,[.ref 1],[],(false,[S0]))).bind fun q=>f2 (0,477,[.ref 0,.ref 1,.int x2,.int x3,.int x4,.int x5,.int x6,.int x7,.int x8,.int x9,.int x10,.int x11,.int x12],q.1.toList++[],q.2) else some (some (.int 0),(false,[S0])):=Jb h rfl rfl<|JA h rfl (Jd h rfl rfl<|JE h rfl rfl) (Jc h rfl k_0<|Jl h rfl)
theorem Ed2{f1 f2 xs}(h:Fy xs f1 f2)(x2 x3 x4 x5 x6 x7 x8 x9 x10 x11 x12 y0:Int32)(S0):f2 (0,477,[.ref 0,.ref 1,.int x2,.int x3,.int x4,.int x5,.int x6,.int x7,.int x8,.int x9,.int x10,.int x11,.int x12],[.int y0],(false,[S0]))=if y0=0 then some (some (.int 0),(false,[S0])) else (f2 (2,0,[.ref 1,.int x6],[],(false,[S0]))).bind fun q=>f2 (0,488,[.ref 0,.ref 1,.int x2,.int x3,.int x4,.int x5,.int x6,.int x7,.int x8,.int x9,.int x10,.int x11,.int x12],q.1.toList++[],q.2):=Js h rfl (Jc h rfl k_0<|Jl h rfl) (Jd h rfl rfl<|Jb h rfl rfl<|JE h rfl rfl)
theorem Eei{f1 f2 xs}(h:Fy xs f1 f2)(x2 x3 x4 x5 x6 x7 x8 x9 x10 x11 x12 y0:Int32)(S0):f2 (0,488,[.ref 0,.ref 1,.int x2,.int x3,.int x4,.int x5,.int x6,.int x7,.int x8,.int x9,.int x10,.int x11,.int x12],[.int y0],(false,[S0]))=if y0=0 then some (some (.int 0),(false,[S0])) else (f1 (9,0,[.ref 0,.int x6],[],S0)).bind fun q=>f2 (0,499,[.ref 0,.ref 1,.int x2,.int x3,.int x4,.int x5,.int x6,.int x7,.int x8,.int x9,.int x10,.int x11,.int x12],q.1.toList++[],(false,[q.2])):=Js h rfl (Jc h rfl k_0<|Jl h rfl) (Jd h rfl rfl<|Jb h rfl rfl<|Jq h 0 rfl rfl rfl)
theorem Edp{f1 f2 xs}(h:Fy xs f1 f2)(x2 x3 x4 x5 x6 x7 x8 x9 x10 x11 x12 y0:Int32)(S0):f2 (0,499,[.ref 0,.ref 1,.int x2,.int x3,.int x4,.int x5,.int x6,.int x7,.int x8,.int x9,.int x10,.int x11,.int x12],[.int y0],(false,[S0]))=if y0=2 then (f1 (13,0,[.ref 0],[],S0)).bind fun q=>f2 (0,509,[.ref 0,.ref 1,.int x2,.int x3,.int x4,.int x5,.int x6,.int x7,.int x8,.int x9,.int x10,.int x11,.int x12],q.1.toList++[],(false,[q.2])) else some (some (.int 0),(false,[S0])):=Jc h rfl k_2<|JA h rfl (Jd h rfl rfl<|Jq h 0 rfl rfl rfl) (Jc h rfl k_0<|Jl h rfl)
theorem Eec{f1 f2 xs}(h:Fy xs f1 f2)(x2 x3 x4 x5 x6 x7 x8 x9 x10 x11 x12 y0:Int32)(S0):f2 (0,509,[.ref 0,.ref 1,.int x2,.int x3,.int x4,.int x5,.int x6,.int x7,.int x8,.int x9,.int x10,.int x11,.int x12],[.int y0],(false,[S0]))=(f1 (11,0,[.ref 0,.int 0],[],S0)).bind fun q=>f2 (0,516,[.ref 0,.ref 1,.int x2,.int x3,.int x4,.int x5,.int x6,.int x7,.int x8,.int x9,.int x10,.int x11,.int x12,.int y0],q.1.toList++[],(false,[q.2])):=Je h rfl [.ref 0,.ref 1,.int x2,.int x3,.int x4,.int x5,.int x6,.int x7,.int x8,.int x9,.int x10,.int x11,.int x12,.int y0]<|Jd h rfl rfl<|Jc h rfl k_0<|Jq h 0 rfl rfl rfl
theorem EdL{f1 f2 xs}(h:Fy xs f1 f2)(x2 x3 x4 x5 x6 x7 x8 x9 x10 x11 x12 x13 y0:Int32)(S0):f2 (0,516,[.ref 0,.ref 1,.int x2,.int x3,.int x4,.int x5,.int x6,.int x7,.int x8,.int x9,.int x10,.int x11,.int x12,.int x13],[.int y0],(false,[S0]))=if 0<x13 then if 63<x13 then some (some (.int 0),(false,[S0])) else if ((x13>>>(y0&&&31))&&&1)=0 then some (some (.int 0),(false,[S0])) else f2 (0,28,[.ref 0,.ref 1,.int x2,.int x3,.int x4,.int x5,.int x6,.int (x7+2)],[],(false,[S0])) else some (some (.int 0),(false,[S0])):=Je h rfl [.ref 0,.ref 1,.int x2,.int x3,.int x4,.int x5,.int x6,.int x7,.int x8,.int x9,.int x10,.int x11,.int x12,.int x13,.int y0]<|Jb h rfl rfl<|Jac h rfl (Jb h rfl rfl<|Jc h rfl k_63<|JT h rfl (Jc h rfl k_0<|Jl h rfl) (Jb h rfl rfl<|Jb h rfl rfl<|JV h rfl<|Jc h rfl k_1<|Ju h rfl<|Js h rfl (Jc h rfl k_0<|Jl h rfl) (Jn h rfl k_2 rfl [.ref 0,.ref 1,.int x2,.int x3,.int x4,.int x5,.int x6,.int (x7+2),.int x8,.int x9,.int x10,.int x11,.int x12,.int x13,.int y0]<|Jh h rfl<|Jr h rfl rfl))) (Jc h rfl k_0<|Jl h rfl)
theorem Ecq{f1 f2 xs}(h:Fy xs f1 f2)(ob:List MS)(o0:Nat):f2 (1,0,[.ref (o0+1)],[],(false,ob))=f2 (1,4,[.ref (o0+1),.int 0,.int 0],[],(false,ob)):=Jc h rfl k_0<|Je h rfl [.ref (o0+1),.int 0]<|Jc h rfl k_0<|Je h rfl [.ref (o0+1),.int 0,.int 0] rfl
theorem Eam{f1 f2 xs}(h:Fy xs f1 f2)(x1 x2:Int32)(ob:List MS)(o0:Nat)(A0:MS)(ho0:ob[o0]? = some A0):f2 (1,4,[.ref (o0+1),.int x1,.int x2],[],(false,ob))=if x2<6 then (f1 (11,0,[.ref 0,.int x2],[],A0)).bind fun q=>f2 (1,15,[.ref (o0+1),.int x1,.int x2],q.1.toList++[],(false,ob.set o0 q.2)) else if x1=63 then (f1 (11,0,[.ref 0,.int 6],[],A0)).bind fun q=>f2 (1,63,[.ref (o0+1),.int x1,.int x2],q.1.toList++[],(false,ob.set o0 q.2)) else some (some (.int 0),(false,ob)):=Jb h rfl rfl<|Jc h rfl k_6<|Jm h rfl (Jd h rfl rfl<|Jb h rfl rfl<|Jq h _ rfl rfl ho0) (Jb h rfl rfl<|Jc h rfl k_63<|Jp h rfl (Jd h rfl rfl<|Jc h rfl k_6<|Jq h _ rfl rfl ho0) (Jc h rfl k_0<|Jl h rfl))
theorem Ecr{f1 f2 xs}(h:Fy xs f1 f2)(x1 x2 y0:Int32)(ob:List MS)(o0:Nat)(A0:MS)(ho0:ob[o0]? = some A0):f2 (1,15,[.ref (o0+1),.int x1,.int x2],[.int y0],(false,ob))=if y0<0 then some (some (.int 0),(false,ob)) else if y0<6 then (f1 (12,0,[.ref 0,.int y0],[],A0)).bind fun q=>f2 (1,33,[.ref (o0+1),.int x1,.int x2,.int y0],q.1.toList++[],(false,ob.set o0 q.2)) else some (some (.int 0),(false,ob)):=Je h rfl [.ref (o0+1),.int x1,.int x2,.int y0]<|Jb h rfl rfl<|JB h rfl (Jc h rfl k_0<|Jl h rfl) (Jb h rfl rfl<|Jc h rfl k_6<|JJ h rfl (Jd h rfl rfl<|Jb h rfl rfl<|Jq h _ rfl rfl ho0) (Jc h rfl k_0<|Jl h rfl))
theorem EbR{f1 f2 xs}(h:Fy xs f1 f2)(x1 x2 x3 y0:Int32)(ob:List MS)(o0:Nat):f2 (1,33,[.ref (o0+1),.int x1,.int x2,.int x3],[.int y0],(false,ob))=if y0=x2 then f2 (1,4,[.ref (o0+1),.int (x1|||(1<<<(x3&&&31))),.int (x2+1)],[],(false,ob)) else some (some (.int 0),(false,ob)):=Jb h rfl rfl<|JA h rfl (Jb h rfl rfl<|Jc h rfl k_1<|Jb h rfl rfl<|JI h rfl<|JY h rfl<|Je h rfl [.ref (o0+1),.int (x1|||(1<<<(x3&&&31))),.int x2,.int x3]<|Jn h rfl k_1 rfl [.ref (o0+1),.int (x1|||(1<<<(x3&&&31))),.int (x2+1),.int x3]<|Jh h rfl<|Jr h rfl rfl) (Jc h rfl k_0<|Jl h rfl)
theorem EaX{f1 f2 xs}(h:Fy xs f1 f2)(x1 x2 y0:Int32)(ob:List MS)(o0:Nat)(A0:MS)(ho0:ob[o0]? = some A0):f2 (1,63,[.ref (o0+1),.int x1,.int x2],[.int y0],(false,ob))=if y0=(-1) then (f1 (12,0,[.ref 0,.int 6],[],A0)).bind fun q=>f2 (1,73,[.ref (o0+1),.int x1,.int x2],q.1.toList++[],(false,ob.set o0 q.2)) else some (some (.int 0),(false,ob)):=Jc h rfl k_m1<|Jp h rfl (Jd h rfl rfl<|Jc h rfl k_6<|Jq h _ rfl rfl ho0) (Jc h rfl k_0<|Jl h rfl)
theorem Ebn{f1 f2 xs}(h:Fy xs f1 f2)(x1 x2 y0:Int32)(ob:List MS)(o0:Nat):f2 (1,73,[.ref (o0+1),.int x1,.int x2],[.int y0],(false,ob))=if y0=(-1) then some (some (.int 1),(false,ob)) else some (some (.int 0),(false,ob)):=Jc h rfl k_m1<|Jp h rfl (Jc h rfl k_1<|Jh h rfl<|JC h rfl) (Jc h rfl k_0<|Jl h rfl)
theorem Ebp{f1 f2 xs}(h:Fy xs f1 f2)(x1:Int32)(ob:List MS)(o0:Nat):f2 (2,0,[.ref (o0+1),.int x1],[],(false,ob))=f2 (2,10,[.ref (o0+1),.int x1,.int (-1),.int (-1),.int 0,.int 0],[],(false,ob)):=Jc h rfl k_m1<|Je h rfl [.ref (o0+1),.int x1,.int (-1)]<|Jc h rfl k_m1<|Je h rfl [.ref (o0+1),.int x1,.int (-1),.int (-1)]<|Jc h rfl k_0<|Je h rfl [.ref (o0+1),.int x1,.int (-1),.int (-1),.int 0]<|Jc h rfl k_0<|Je h rfl [.ref (o0+1),.int x1,.int (-1),.int (-1),.int 0,.int 0] rfl
theorem ES{f1 f2 xs}(h:Fy xs f1 f2)(x1 x2 x3 x4 x5:Int32)(ob:List MS)(o0:Nat)(A0:MS)(ho0:ob[o0]? = some A0):f2 (2,10,[.ref (o0+1),.int x1,.int x2,.int x3,.int x4,.int x5],[],(false,ob))=if x5<6 then (f1 (11,0,[.ref 0,.int x5],[],A0)).bind fun q=>f2 (2,23,[.ref (o0+1),.int x1,.int x2,.int x3,.int x4,.int x5],q.1.toList++[],(false,ob.set o0 q.2)) else if x4=0 then some (some (.int 1),(false,ob)) else if ((x3-x2)+1)=x4 then some (some (.int 1),(false,ob)) else some (some (.int 0),(false,ob)):=Jb h rfl rfl<|Jc h rfl k_6<|Jm h rfl (Jd h rfl rfl<|Jb h rfl rfl<|Jq h _ rfl rfl ho0) (Jb h rfl rfl<|Jy h rfl (Jc h rfl k_1<|Jh h rfl<|JC h rfl) (Jb h rfl rfl<|Jb h rfl rfl<|JG h rfl<|Jc h rfl k_1<|Jt h rfl<|Jb h rfl rfl<|Jp h rfl (Jc h rfl k_1<|Jh h rfl<|JC h rfl) (Jc h rfl k_0<|Jl h rfl)))
theorem EcY{f1 f2 xs}(h:Fy xs f1 f2)(x1 x2 x3 x4 x5 y0:Int32)(ob:List MS)(o0:Nat):f2 (2,23,[.ref (o0+1),.int x1,.int x2,.int x3,.int x4,.int x5],[.int y0],(false,ob))=if ((x1>>>(y0&&&31))&&&1)=1 then if x2<0 then f2 (2,10,[.ref (o0+1),.int x1,.int x5,.int x5,.int (x4+1),.int (x5+1)],[],(false,ob)) else f2 (2,10,[.ref (o0+1),.int x1,.int x2,.int x5,.int (x4+1),.int (x5+1)],[],(false,ob)) else f2 (2,10,[.ref (o0+1),.int x1,.int x2,.int x3,.int x4,.int (x5+1)],[],(false,ob)):=Je h rfl [.ref (o0+1),.int x1,.int x2,.int x3,.int x4,.int x5,.int y0]<|Jb h rfl rfl<|Jb h rfl rfl<|JV h rfl<|Jc h rfl k_1<|Ju h rfl<|Jc h rfl k_1<|Jp h rfl (Jb h rfl rfl<|JP h rfl (Jb h rfl rfl<|Je h rfl [.ref (o0+1),.int x1,.int x5,.int x3,.int x4,.int x5,.int y0]<|Jb h rfl rfl<|Je h rfl [.ref (o0+1),.int x1,.int x5,.int x5,.int x4,.int x5,.int y0]<|Jn h rfl k_1 rfl [.ref (o0+1),.int x1,.int x5,.int x5,.int (x4+1),.int x5,.int y0]<|Jn h rfl k_1 rfl [.ref (o0+1),.int x1,.int x5,.int x5,.int (x4+1),.int (x5+1),.int y0]<|Jh h rfl<|Jr h rfl rfl) (Jb h rfl rfl<|Je h rfl [.ref (o0+1),.int x1,.int x2,.int x5,.int x4,.int x5,.int y0]<|Jn h rfl k_1 rfl [.ref (o0+1),.int x1,.int x2,.int x5,.int (x4+1),.int x5,.int y0]<|Jn h rfl k_1 rfl [.ref (o0+1),.int x1,.int x2,.int x5,.int (x4+1),.int (x5+1),.int y0]<|Jh h rfl<|Jr h rfl rfl)) (Jn h rfl k_1 rfl [.ref (o0+1),.int x1,.int x2,.int x3,.int x4,.int (x5+1),.int y0]<|Jh h rfl<|Jr h rfl rfl)
def Qc9(xs:List Int32):Prop:=xs.length<=260
theorem Qak{a:Nat}(ha:a<2147483648):(Int32.ofNat a).toInt=a:=Int32.toInt_ofNat_of_lt ha
theorem Ql{a b:Nat}(ha:a<2147483648)(hb:b<2147483648):Int32.ofNat a<Int32.ofNat b↔a<b:=by
 rw[zL,Qak ha,Qak hb];omega
theorem Q0{a:Nat}(ha:a<2147483648):¬Int32.ofNat a<0:=by
 rw[zL,Qak ha]
 have:(0:Int32).toInt=0:=rfl
 omega
theorem Qv(a:Nat):Int32.ofNat a+1=Int32.ofNat (a+1):=(Int32.ofNat_add a 1).symm
theorem Qu{a:Nat}(ha:a<2147483648):(Int32.ofNat a).toNatClampNeg=a:=by
 simp only[Int32.toNatClampNeg,Qak ha];omega
theorem Qt{a n:Nat}(ha:a<2147483648)(h:a<n):inb (Int32.ofNat a) n=true:=by
 simp only[inb,Q0 ha,Qu ha,decide_false,zak,Bool.not_eq_true',decide_eq_false_iff_not];omega
theorem Qh{S:MS}{c i c' i':Nat}{v:Int32}:upd S c i v c' i'=if c'=c/\i'=i then v else S c' i':=rfl
abbrev Qf:=Jvm.Term
theorem Qau{α:Type}(F:Nat->α):∀ {n:Nat},(∀i,i<n->F i=F (i+1))->F 0=F n
 |0,_=>rfl
 |n+1,h=>(Qau F (n:=n) fun i hi=>h i (by omega)).trans (h n (by omega))
theorem QbZ(a b:Nat):Int32.ofNat a+Int32.ofNat b=Int32.ofNat (a+b):=(Int32.ofNat_add a b).symm
theorem Qbw(a b:Nat):Int32.ofNat a*Int32.ofNat b=Int32.ofNat (a*b):=(Int32.ofNat_mul a b).symm
theorem Qbl{a b:Nat}(h:b<=a):Int32.ofNat a-Int32.ofNat b=Int32.ofNat (a-b):=by
 rw[show a=(a-b)+b from by omega,<-QbZ,Nat.add_sub_cancel];exact Int32.add_sub_cancel _ _
def QaD(o:Jvm.Binary):Int32:=if o = .iand then 1 else 2
def Qg:Qf->Nat
 | .arg c=>c
 | .op2 _ (.arg x) _=>x
 |_=>0
def Qd:Qf->List Qf
 | .add t f=>t::Qd f
 |_=>[]
def Qa:Qf->List Nat
 | .arg c=>[c]
 | .op2 _ (.arg x) f=>Qa f++[x]
 | .add t f=>Qa t++Qa f
 |_=>[]
def Qo:Qf->Prop
 | .arg _=>True
 | .op2 _ (.arg _) _=>True
 |_=>False
def QJ:Qf->Prop
 | .add _ _=>True
 | .null=>True
 |_=>False
def Qp:Qf->Prop
 | .arg c=>c<8
 | .op2 o (.arg x) f=>(8<=x/\x<64)/\(o = .iand\/o = .ior)/\(2<=(Qd f).length/\(Qd f).length<=8)/\QJ f/\Qp f
 | .add t f=>Qo t/\QJ f/\Qp t/\Qp f
 | .null=>True
 |_=>False
def QA(S:MS):Qf->Prop
 | .arg c=>S 1 c=0
 | .op2 o (.arg x) f=>S 1 x=QaD o/\S 3 x=Int32.ofNat (Qd f).length/\(∀i,i<(Qd f).length->S 4 (8*x+i)=Int32.ofNat (Qg ((Qd f).getD i .null)))/\QA S f
 | .add t f=>QA S t/\QA S f
 |_=>True
theorem Qbo{o:Jvm.Binary}:QaD o≠0:=by unfold QaD;split<;>decide
theorem Qas:∀ {t:Qf},Qo t->Qp t->Qg t<64
 | .arg c,_,h=>by have:c<8:=h;show c<64;omega
 | .op2 _ (.arg x) f,_,h=>h.1.2
theorem Qam:∀ {f:Qf},Qp f->∀t∈Qd f,Qo t/\Qp t
 | .add t f,h,u,hu=>by
  rcases zA.mp hu with e | e
  ·subst e;exact⟨h.1,h.2.2.1⟩
  ·exact Qam h.2.2.2 u e
 | .null,_,u,hu=>absurd hu (by simp[Qd])
 | .arg _,_,u,hu=>absurd hu (by simp[Qd])
 | .op2 _ (.arg _) _,_,u,hu=>absurd hu (by simp[Qd])
def Qcg(S S':MS)(p:Nat)(l:List Nat)(sp:Nat):Prop:=(∀c i,c≠13->c≠14->c≠15->¬(c=0/\i=6)->S' c i=S c i)/\S' 0 6=Int32.ofNat (p+l.length)/\(∀i,i<p->S' 13 i=S 13 i)/\(∀i,i<l.length->S' 13 (p+i)=Int32.ofNat (l.getD i 0))/\∀i,i<sp->S' 14 i=S 14 i/\S' 15 i=S 15 i
theorem QdB{S S' S'':MS}{p sp sp':Nat}{l l':List Nat}(h:Qcg S S' p l sp)(h':Qcg S' S'' (p+l.length) l' sp')(hs:sp<=sp'):Qcg S S'' p (l++l') sp:=by
 obtain⟨a1,a2,a3,a4,a5⟩:=h
 obtain⟨b1,b2,b3,b4,b5⟩:=h'
 refine⟨fun c i h1 h2 h3 h4=>(b1 c i h1 h2 h3 h4).trans (a1 c i h1 h2 h3 h4),by rw[b2,zd,z7],fun i hi=>(b3 i (by omega)).trans (a3 i hi),fun i hi=>?_,fun i hi=>⟨(b5 i (by omega)).1.trans (a5 i hi).1,(b5 i (by omega)).2.trans (a5 i hi).2⟩⟩
 rw[zd] at hi
 by_cases q:i<l.length
 ·rw[b3 _ (by omega),a4 i q]
  congr 1
  simp only[ze,List.getElem?_append_left q]
 ·rw[show p+i=p+l.length+(i-l.length) from by omega,b4 _ (by omega)]
  congr 1
  simp only[ze,List.getElem?_append_right (Nat.le_of_not_lt q)]
theorem QR{P:Qf->Prop}(leaf:∀c,c<8->P (.arg c))(node:∀o x f,Qp (.op2 o (.arg x) f)->P f->P (.op2 o (.arg x) f))(cons:∀t f,Qp (.add t f)->P t->P f->P (.add t f))(nil:P .null):∀t,Qp t->P t
 | .arg c,h=>leaf c h
 | .op2 o (.arg x) f,h=>node o x f h (QR leaf node cons nil f h.2.2.2.2)
 | .add t f,h=>cons t f h (QR leaf node cons nil t h.2.2.1) (QR leaf node cons nil f h.2.2.2)
 | .null,_=>nil
theorem QW{S S':MS}(h:∀i,S' 1 i=S 1 i/\S' 3 i=S 3 i)(h':∀i,S' 4 i=S 4 i):∀t,Qp t->QA S t->QA S' t:=QR
 (fun c _ r=>(h c).1.trans r)
 (fun o x f _ ih r=>⟨(h x).1.trans r.1,(h x).2.trans r.2.1,fun i hi=>(h' _).trans (r.2.2.1 i hi),ih r.2.2.2⟩)
 (fun t f _ ih ih' r=>⟨ih r.1,ih' r.2⟩) (fun _=>trivial)
theorem QdC:∀t,Qp t->Qo t->1<=(Qa t).length
 | .arg _,_,_=>zn 1
 | .op2 _ (.arg _) f,_,_=>by simp[Qa]
section Walk
variable {f1:FT1}
theorem Qae(hf1:Fx f1)(S:MS){x:Nat}(hx:x<64):f1 (21,0,[.ref 0,.int (Int32.ofNat x)],[],S)=some (some (.int 1),S):=by
 rw[Eb7 hf1,za (Q0 (by omega)),zb (show Int32.ofNat x<64 from (Ql (b:=64) (by omega) (by omega)).mpr hx)]
theorem QbE(hf1:Fx f1)(S:MS){x:Nat}(hx:x<64):f1 (22,0,[.ref 0,.int (Int32.ofNat x)],[],S)=some (some (.int (if S 1 x=0 then 0 else 1)),S):=by
 rw[EdJ hf1,Qae hf1 S hx];simp only[zz]
 rw[Ebs hf1,za (by decide),zb (Qt (by omega) hx),Qu (by omega)]
 split<;>rfl
theorem Qax(hf1:Fx f1){S:MS}{x d:Nat}(hx:x<64)(h:S 3 x=Int32.ofNat d)(hd:d<=8):f1 (23,0,[.ref 0,.int (Int32.ofNat x)],[],S)=some (some (.int (Int32.ofNat d)),S):=by
 rw[EeQ hf1,Qae hf1 S hx];simp only[zz]
 rw[EbI hf1,za (by decide),zb (Qt (by omega) hx),Qu (by omega),h,za (Q0 (by omega)),za (show ¬8<Int32.ofNat d by rw[show (8:Int32)=Int32.ofNat 8 from rfl,Ql (by omega) (by omega)];omega)]
theorem Q8(hf1:Fx f1)(S:MS){x k:Nat}(hx:x<64)(hk:k<8):f1 (24,0,[.ref 0,.int (Int32.ofNat x),.int (Int32.ofNat k)],[],S)=some (some (.int (S 4 (8*x+k))),S):=by
 rw[Eb4 hf1,Qae hf1 S hx];simp only[zz]
 rw[Ecu hf1,za (by decide),za (Q0 (by omega)),zb (show Int32.ofNat k<8 from (Ql (b:=8) (by omega) (by omega)).mpr hk),show Int32.ofNat x*8+Int32.ofNat k=Int32.ofNat (8*x+k) from by rw[<-QbZ,zS,<-Qbw];rfl,zb (Qt (by omega) (by omega)),Qu (by omega)]
theorem Qf4(hf1:Fx f1):∀t,Qp t->(Qo t->∀sp g p S,QA S t->S 14 sp=Int32.ofNat (Qg t)->S 15 sp=0->S 0 6=Int32.ofNat p->p+(Qa t).length<=64->sp+(Qa t).length<=127->g+2*(Qa t).length<=1025->∃S',f1 (36,38,[.ref 0,.int (Int32.ofNat (sp+1)),.int (Int32.ofNat g)],[],S)=f1 (36,38,[.ref 0,.int (Int32.ofNat sp),.int (Int32.ofNat (g+(2*(Qa t).length-1)))],[],S')/\Qcg S S' p (Qa t) sp)/\(QJ t->∀sp g p S x k n,QA S t->x<64->S 1 x≠0->n<=8->S 3 x=Int32.ofNat n->k+(Qd t).length=n->(∀i,i<(Qd t).length->S 4 (8*x+(k+i))=Int32.ofNat (Qg ((Qd t).getD i .null)))->S 14 sp=Int32.ofNat x->S 15 sp=Int32.ofNat k->S 0 6=Int32.ofNat p->p+(Qa t).length<=64->sp+(Qa t).length<=126->g+2*(Qa t).length<=1024->∃S',f1 (36,38,[.ref 0,.int (Int32.ofNat (sp+1)),.int (Int32.ofNat g)],[],S)=f1 (36,38,[.ref 0,.int (Int32.ofNat (sp+1)),.int (Int32.ofNat (g+2*(Qa t).length))],[],S')/\Qcg S S' p (Qa t) sp/\S' 14 sp=S 14 sp/\S' 15 sp=Int32.ofNat n):=by
 have pop:∀(sp g p:Nat) (S:MS) (x:Nat) (v:Int32),sp+1<=128->g<1024->p<64->x<64->S 0 6=Int32.ofNat p->S 14 sp=Int32.ofNat x->f1 (36,146,[.ref 0,.int (Int32.ofNat (sp+1)),.int (Int32.ofNat g),.int (Int32.ofNat sp),.int (Int32.ofNat x),.int v],[],S)=f1 (36,38,[.ref 0,.int (Int32.ofNat sp),.int (Int32.ofNat (g+1))],[],Jvm.OM.upd (Jvm.OM.upd S 13 p (Int32.ofNat x)) 0 6 (Int32.ofNat (p+1))):=fun sp g p S x v h1 h2 h3 h4 h5 h6=>by
  rw[EeM hf1,h5,zb (show Int32.ofNat p<64 from (Ql (b:=64) (by omega) (by omega)).mpr h3),zb (Qt (by omega) h3),Qu (by omega),Qv,Qv,<-Qv sp]
  rw[show Int32.ofNat sp+1 + -1=Int32.ofNat sp from by rw[Int32.add_assoc,show (1:Int32) + -1=0 from by decide,Int32.add_zero]]
 have top:∀(sp g:Nat) (S:MS) (x:Nat),sp+1<=128->g<1024->S 14 sp=Int32.ofNat x->f1 (36,38,[.ref 0,.int (Int32.ofNat (sp+1)),.int (Int32.ofNat g)],[],S)=(f1 (22,0,[.ref 0,.int (Int32.ofNat x)],[],S)).bind fun q=>f1 (36,75,[.ref 0,.int (Int32.ofNat (sp+1)),.int (Int32.ofNat g),.int (Int32.ofNat sp),.int (Int32.ofNat x),.int (S 15 sp)],q.1.toList++[],q.2):=fun sp g S x h1 h2 h3=>by
  rw[Eaj hf1,zb (show Int32.ofNat g<1024 from (Ql (b:=1024) (by omega) (by omega)).mpr h2),zb (show 0<Int32.ofNat (sp+1) from (Ql (a:=0) (by omega) (by omega)).mpr (by omega)),show Int32.ofNat (sp+1)-1=Int32.ofNat sp from by rw[<-Qv];exact Int32.add_sub_cancel _ _,zb (Qt (by omega) (by omega)),Qu (by omega),h3]
 refine QR (fun c hc=>⟨fun _ sp g p S r h14 h15 h6 l1 l2 l3=>?_,fun h=>absurd h id⟩) (fun o x f w ih=>⟨fun _ sp g p S r h14 h15 h6 l1 l2 l3=>?_,fun h=>absurd h id⟩) (fun t f w iht ihf=>⟨fun h=>absurd h id,fun _ sp g p S x k n r hx h1 hn h3 hk h4 h14 h15 h6 l1 l2 l3=>?_⟩) ⟨fun h=>absurd h id,fun _ sp g p S x k n r hx h1 hn h3 hk h4 h14 h15 h6 l1 l2 l3=>?_⟩
 ·have hl:(Qa (.arg c)).length=1:=rfl
  rw[hl] at l1 l2 l3
  have e1:S 1 c=0:=r
  rw[top sp g S c (by omega) (by omega) h14,QbE hf1 S (by omega),zb e1];simp only[zz]
  rw[Eg hf1,zb rfl,pop sp g p S c _ (by omega) (by omega) (by omega) (by omega) h6 h14]
  refine⟨_,rfl,fun d i d1 d2 d3 d4=>?_,?_,fun i hi=>?_,fun i hi=>?_,fun i hi=>?_⟩
  ·rw[Qh,za d4,Qh,za (by omega)]
  ·rfl
  ·rw[Qh,za (by omega),Qh,za (by omega)]
  ·have:i=0:=by have:i<1:=hi;omega
   subst this
   rw[Qh,za (by omega),Qh,zb ⟨rfl,rfl⟩];rfl
  ·exact⟨rfl,rfl⟩
 ·have hl:(Qa (.op2 o (.arg x) f)).length=(Qa f).length+1:=by show (Qa f++[x]).length=_;rw[zd];rfl
  rw[hl] at l1 l2 l3
  obtain⟨r1,r3,r4,rf⟩:=r
  obtain⟨⟨w1,w2⟩,w3,⟨w4,w5⟩,w6,w7⟩:=w
  have k1:S 1 x≠0:=by rw[r1];exact Qbo
  obtain⟨S',e,wk,e14,e15⟩:=ih.2 w6 sp g p S x 0 _ rf w2 k1 w5 r3 (by omega) (fun i hi=>by rw[zD];exact r4 i hi) h14 h15 h6 (by omega) (by omega) (by omega)
  rw[e]
  have h14':S' 14 sp=Int32.ofNat x:=e14.trans h14
  have k1':S' 1 x≠0:=by rw[wk.1 1 x (by decide) (by decide) (by decide) (by omega)];exact k1
  rw[top sp _ S' x (by omega) (by omega) h14',QbE hf1 S' w2,za k1'];simp only[zz]
  have r3':S' 3 x=Int32.ofNat (Qd f).length:=(wk.1 3 x (by decide) (by decide) (by decide) (by omega)).trans r3
  rw[Eg hf1,za (by decide),Qax hf1 w2 r3' w5];simp only[zz]
  rw[EO hf1,e15,za zp,pop sp _ (p+(Qa f).length) S' x _ (by omega) (by omega) (by omega) w2 wk.2.1 h14']
  rw[hl,show g+2*(Qa f).length+1=g+(2*((Qa f).length+1)-1) from by omega]
  refine⟨_,rfl,?_⟩
  refine QdB (l:=Qa f) (l':=[x]) (sp':=sp) wk ⟨fun d i d1 d2 d3 d4=>?_,?_,fun i hi=>?_,fun i hi=>?_,fun i hi=>?_⟩ (zn sp)
  ·rw[Qh,za d4,Qh,za (by omega)]
  ·rfl
  ·rw[Qh,za (by omega),Qh,za (by omega)]
  ·have:i=0:=by have:i<1:=hi;omega
   subst this
   rw[Qh,za (by omega),Qh,zb ⟨rfl,rfl⟩];rfl
  ·exact⟨rfl,rfl⟩
 ·have hl:(Qa (.add t f)).length=(Qa t).length+(Qa f).length:=by show (Qa t++Qa f).length=_;rw[zd]
  rw[hl] at l1 l2 l3
  have hkl:(Qd (.add t f)).length=(Qd f).length+1:=rfl
  rw[hkl] at hk h4
  obtain⟨w1,w2,w3,w4⟩:=w
  have ht:=QdC t w3 w1
  have hsl:=Qas w1 w3
  obtain⟨rt,rf⟩:=r
  rw[top sp g S x (by omega) (by omega) h14,QbE hf1 S hx,za h1];simp only[zz]
  rw[Eg hf1,za (by decide),Qax hf1 hx h3 hn];simp only[zz]
  rw[EO hf1,h15,zb ((Ql (by omega) (by omega)).mpr (by omega)),zb (Qt (by omega) (by omega)),Qu (by omega),Q8 hf1 _ hx (by omega)];simp only[zz]
  have hkid:Jvm.OM.upd S 15 sp (Int32.ofNat k+1) 4 (8*x+k)=Int32.ofNat (Qg t):=h4 0 (by omega)
  rw[hkid,Ed4 hf1,Qae hf1 _ hsl];simp only[zz]
  rw[EbS hf1,za (by decide),zb (show Int32.ofNat (sp+1)<128 from (Ql (b:=128) (by omega) (by omega)).mpr (by omega)),zb (Qt (by omega) (by omega)),Qu (by omega),Qv,Qv,Qv]
  generalize hA:Jvm.OM.upd (Jvm.OM.upd (Jvm.OM.upd S 15 sp (Int32.ofNat (k+1))) 14 (sp+1) (Int32.ofNat (Qg t))) 15 (sp+1) 0=A
  have A0:∀d i,d≠14->d≠15->A d i=S d i:=fun d i d1 d2=>by rw[<-hA,Qh,za (by omega),Qh,za (by omega),Qh,za (by omega)]
  have A14:∀i,i<=sp->A 14 i=S 14 i:=fun i hi=>by rw[<-hA,Qh,za (by omega),Qh,za (by omega),Qh,za (by omega)]
  have A15:∀i,i<sp->A 15 i=S 15 i:=fun i hi=>by rw[<-hA,Qh,za (by omega),Qh,za (by omega),Qh,za (by omega)]
  have A15s:A 15 sp=Int32.ofNat (k+1):=by rw[<-hA,Qh,za (by omega),Qh,za (by omega),Qh,zb ⟨rfl,rfl⟩]
  have A14t:A 14 (sp+1)=Int32.ofNat (Qg t):=by rw[<-hA,Qh,za (by omega),Qh,zb ⟨rfl,rfl⟩]
  have A15t:A 15 (sp+1)=0:=by rw[<-hA,Qh,zb ⟨rfl,rfl⟩]
  have rtA:QA A t:=QW (fun i=>⟨A0 1 i (by decide) (by decide),A0 3 i (by decide) (by decide)⟩) (fun i=>A0 4 i (by decide) (by decide)) t w3 rt
  obtain⟨B,eB,wB⟩:=iht.1 w1 (sp+1) (g+1) p A rtA A14t A15t ((A0 0 6 (by decide) (by decide)).trans h6) (by omega) (by omega) (by omega)
  rw[eB]
  have B0:∀d i,d≠13->d≠14->d≠15->¬(d=0/\i=6)->B d i=S d i:=fun d i d1 d2 d3 d4=>(wB.1 d i d1 d2 d3 d4).trans (A0 d i d2 d3)
  have rfB:QA B f:=QW (fun i=>⟨B0 1 i (by decide) (by decide) (by decide) (by omega),B0 3 i (by decide) (by decide) (by decide) (by omega)⟩) (fun i=>B0 4 i (by decide) (by decide) (by decide) (by omega)) f w4 rf
  obtain⟨D,eD,wD,D14,D15⟩:=ihf.2 w2 sp (g+1+(2*(Qa t).length-1)) (p+(Qa t).length) B x (k+1) n rfB hx (by rw[B0 1 x (by decide) (by decide) (by decide) (by omega)];exact h1) hn ((B0 3 x (by decide) (by decide) (by decide) (by omega)).trans h3) (by omega) (fun i hi=>by
   rw[B0 4 _ (by decide) (by decide) (by decide) (by omega),show k+1+i=k+(i+1) from by omega]
   exact h4 (i+1) (by omega)) ((wB.2.2.2.2 sp (by omega)).1.trans ((A14 sp (by omega)).trans h14)) ((wB.2.2.2.2 sp (by omega)).2.trans A15s) wB.2.1 (by omega) (by omega) (by omega)
  rw[eD]
  have AW:Qcg S A p [] sp:=⟨fun d i d1 d2 d3 d4=>A0 d i d2 d3,(A0 0 6 (by decide) (by decide)).trans h6,fun i hi=>A0 13 i (by decide) (by decide),fun i hi=>absurd hi (by simp),fun i hi=>⟨A14 i (by omega),A15 i hi⟩⟩
  refine⟨D,?_,?_,D14.trans ((wB.2.2.2.2 sp (by omega)).1.trans (A14 sp (by omega))),D15⟩
  ·rw[show g+1+(2*(Qa t).length-1)+2*(Qa f).length=g+2*(Qa (.add t f)).length from by omega]
  ·exact QdB (QdB AW wB (by omega)) wD (zn sp)
 ·have hkl:(Qd (.null:Qf)).length=0:=rfl
  rw[hkl] at hk
  exact⟨S,rfl,⟨fun _ _ _ _ _ _=>rfl,h6,fun _ _=>rfl,fun i hi=>absurd hi (by simp[Qa]),fun _ _=>⟨rfl,rfl⟩⟩,rfl,by rw[h15];congr 1⟩
theorem QcC(hf1:Fx f1){S:MS}{t:Qf}(w:Qp t)(ht:Qo t)(r:QA S t)(h4:S 0 4=Int32.ofNat (Qg t))(hl:(Qa t).length<=64):∃S',f1 (36,0,[.ref 0],[],S)=some (none,S')/\(∀c i,c≠13->c≠14->c≠15->¬(c=0/\i=6)->S' c i=S c i)/\S' 0 6=Int32.ofNat (Qa t).length/\∀i,i<(Qa t).length->S' 13 i=Int32.ofNat ((Qa t).getD i 0):=by
 have hsl:=Qas ht w
 rw[EcS hf1,h4,Qae hf1 _ hsl];simp only[zz]
 rw[EbV hf1,za (by decide)]
 rw[show Jvm.OM.upd S 0 6 0 0 4=Int32.ofNat (Qg t) from h4]
 obtain⟨S',e,wk⟩:=(Qf4 hf1 t w).1 ht 0 0 0 (Jvm.OM.upd (Jvm.OM.upd (Jvm.OM.upd S 0 6 0) 14 0 (Int32.ofNat (Qg t))) 15 0 0) (QW (S:=S) (S':=Jvm.OM.upd (Jvm.OM.upd (Jvm.OM.upd S 0 6 0) 14 0 (Int32.ofNat (Qg t))) 15 0 0) (fun i=>⟨rfl,rfl⟩) (fun i=>rfl) t w r) rfl rfl rfl (by omega) (by omega) (by omega)
 refine⟨S',?_,fun c i h1 h2 h3 h4=>?_,?_,fun i hi=>?_⟩
 ·refine Eq.trans e ?_
  rw[Eaj hf1,zb (show Int32.ofNat _<1024 from (Ql (b:=1024) (by omega) (by omega)).mpr (by omega)),za (by decide)]
 ·rw[wk.1 c i h1 h2 h3 h4,Qh,za (by omega),Qh,za (by omega),Qh,za (by omega)]
 ·rw[wk.2.1,zD]
 ·have:=wk.2.2.2.1 i hi
  rw[zD] at this;exact this
end Walk
def Qap(Q:Qf->Prop):Qf->Prop
 | .arg c=>Q (.arg c)
 | .op2 o (.arg x) f=>Q (.op2 o (.arg x) f)/\Qap Q f
 | .add t f=>Qap Q t/\Qap Q f
 |_=>True
theorem Qbk{Q Q':Qf->Prop}:∀t,Qp t->(∀u,Qo u->Qg u∈Qa t->Q u->Q' u)->Qap Q t->Qap Q' t:=QR
 (fun c _ h q=>h (.arg c) trivial (by simp[Qg,Qa]) q)
 (fun o x f _ ih h q=>⟨h (.op2 o (.arg x) f) trivial (by simp[Qg,Qa]) q.1,ih (fun u hu hm=>h u hu (by simp only[Qa,zc];exact Or.inl hm)) q.2⟩)
 (fun t f _ iht ihf h q=>⟨iht (fun u hu hm=>h u hu (by simp only[Qa,zc];exact Or.inl hm)) q.1,ihf (fun u hu hm=>h u hu (by simp only[Qa,zc];exact Or.inr hm)) q.2⟩) (fun _ _=>trivial)
theorem QcY{Q:Qf->Prop}:∀ {t:Qf},Qo t->Qap Q t->Q t
 | .arg _,_,q=>q
 | .op2 _ (.arg _) _,_,q=>q.1
theorem Qcl{Q:Qf->Prop}:∀ {f:Qf},Qp f->Qap Q f->∀u∈Qd f,Qap Q u
 | .add t f,w,q,u,hu=>by
  rcases zA.mp hu with e | e
  ·subst e;exact q.1
  ·exact Qcl w.2.2.2 q.2 u e
 | .null,_,_,u,hu=>absurd hu (by simp[Qd])
 | .arg _,_,_,u,hu=>absurd hu (by simp[Qd])
 | .op2 _ (.arg _) _,_,_,u,hu=>absurd hu (by simp[Qd])
theorem QcN:∀t,Qp t->Qo t->Qg t∈Qa t
 | .arg c,_,_=>by simp[Qg,Qa]
 | .op2 _ (.arg x) f,_,_=>by simp[Qg,Qa]
theorem QeO:∀ {f:Qf},Qp f->∀u∈Qd f,∀x∈Qa u,x∈Qa f
 | .add t f,w,u,hu,x,hx=>by
  simp only[Qa,zc]
  rcases zA.mp hu with e | e
  ·subst e;exact Or.inl hx
  ·exact Or.inr (QeO w.2.2.2 u e x hx)
 | .null,_,u,hu,_,_=>absurd hu (by simp[Qd])
 | .arg _,_,u,hu,_,_=>absurd hu (by simp[Qd])
 | .op2 _ (.arg _) _,_,u,hu,_,_=>absurd hu (by simp[Qd])
theorem QcD:∀t,Qp t->∀x∈Qa t,x<64:=QR
 (fun c hc x hx=>by simp only[Qa,zh] at hx;omega)
 (fun o y f w ih x hx=>by
  simp only[Qa,zc,zh] at hx
  rcases hx with hx | hx
  ·exact ih x hx
  ·rw[hx];exact w.1.2)
 (fun t f _ iht ihf x hx=>by
  simp only[Qa,zc] at hx
  rcases hx with hx | hx
  ·exact iht x hx
  ·exact ihf x hx) (fun x hx=>absurd hx (by simp[Qa]))
def Qao(S:MS)(p:Nat)(l:List Nat)(tot:Nat):Prop:=S 0 6=Int32.ofNat tot/\p+l.length<=tot/\tot<=64/\∀i,i<l.length->S 13 (p+i)=Int32.ofNat (l.getD i 0)
theorem Qav{S:MS}{p tot:Nat}{l l':List Nat}(h:Qao S p (l++l') tot):Qao S p l tot:=by
 obtain⟨a,b,c,d⟩:=h
 rw[zd] at b d
 refine⟨a,by omega,c,fun i hi=>?_⟩
 rw[d i (by omega)]
 congr 1
 simp only[ze,List.getElem?_append_left hi]
theorem Qaz{S:MS}{p tot:Nat}{l l':List Nat}(h:Qao S p (l++l') tot):Qao S (p+l.length) l' tot:=by
 obtain⟨a,b,c,d⟩:=h
 rw[zd] at b d
 refine⟨a,by omega,c,fun i hi=>?_⟩
 rw[z7,d (l.length+i) (by omega)]
 congr 1
 simp only[ze,List.getElem?_append_right (Nat.le_add_right _ _),Nat.add_sub_cancel_left]
theorem QbX{S S':MS}{p tot:Nat}{l:List Nat}(h0:S' 0 6=S 0 6)(h:∀i,S' 13 i=S 13 i)(g:Qao S p l tot):Qao S' p l tot:=
 ⟨h0.trans g.1,g.2.1,g.2.2.1,fun i hi=>(h _).trans (g.2.2.2 i hi)⟩
def QU:Qf->Int32
 | .arg c=>1<<<(Int32.ofNat c&&&31)
 | .op2 _ (.arg _) f=>QU f
 | .add t f=>QU t|||QU f
 |_=>0
theorem QeP(acc:Int32):∀f,Qp f->QJ f->(Qd f).foldl (fun a u=>a|||QU u) acc=acc|||QU f
 | .add t f,w,_=>by
  show (Qd f).foldl (fun a u=>a|||QU u) (acc|||QU t)=acc|||(QU t|||QU f)
  rw[QeP (acc|||QU t) f w.2.2.2 w.2.1,Int32.or_assoc]
 | .null,_,_=>by show acc=acc|||0;rw[Int32.or_zero]
theorem Q9{l:List Qf}{i:Nat}(h:i<l.length):l.getD i .null∈l:=by
 rw[ze,List.getElem?_eq_getElem h];exact zs h
theorem QdD{α:Type}(g:α->Qf->α)(a:α)(l:List Qf){n:Nat}(h:n<l.length):(l.take (n+1)).foldl g a=g ((l.take n).foldl g a) (l.getD n .null):=by
 rw[zah,List.foldl_append,ze,List.getElem?_eq_getElem h]
 rfl
section Loops
variable {f1:FT1}
theorem QfI(hf1:Fx f1):∀t,Qp t->∀p tot S,(Qa t).Nodup->QA S t->Qao S p (Qa t) tot->∃S',f1 (37,2,[.ref 0,.int (Int32.ofNat p)],[],S)=f1 (37,2,[.ref 0,.int (Int32.ofNat (p+(Qa t).length))],[],S')/\(∀c i,c≠12->S' c i=S c i)/\(∀i,i∉Qa t->S' 12 i=S 12 i)/\Qap (fun u=>S' 12 (Qg u)=QU u) t:=by
 have step:∀(p tot:Nat) (S:MS) (x:Nat),x<64->p<tot->tot<=64->S 0 6=Int32.ofNat tot->S 13 p=Int32.ofNat x->f1 (37,2,[.ref 0,.int (Int32.ofNat p)],[],S)=f1 (37,28,[.ref 0,.int (Int32.ofNat p),.int (Int32.ofNat x)],[.int 1],S):=fun p tot S x hx h1 h2 h3 h4=>by
  rw[Eas hf1,h3,zb ((Ql (by omega) (by omega)).mpr h1),zb (show Int32.ofNat p<64 from (Ql (b:=64) (by omega) (by omega)).mpr (by omega)),zb (Qt (by omega) (by omega)),Qu (by omega),h4,Qae hf1 S hx];simp only[zz]
 refine QR (fun c hc p tot S nd r g=>?_) (fun o x f w ih p tot S nd r g=>?_) (fun t f w iht ihf p tot S nd r g=>?_) (fun p tot S nd r g=>?_)
 ·have e13:S 13 p=Int32.ofNat c:=g.2.2.2 0 (by simp[Qa])
  have hp:p+1<=tot:=g.2.1
  have e1:S 1 c=0:=r
  rw[step p tot S c (by omega) (by omega) g.2.2.1 g.1 e13,EaE hf1,za (by decide),zb (Qt (by omega) (by omega)),Qu (by omega),e1,zb rfl,zb (show Int32.ofNat c<8 from (Ql (b:=8) (by omega) (by omega)).mpr hc),Qv]
  refine⟨_,rfl,fun d i hd=>by rw[Qh,za (by omega)],fun i hi=>?_,?_⟩
  ·rw[Qh,za]
   rintro ⟨-,e⟩
   exact hi (by rw[e];simp[Qa])
  ·show Jvm.OM.upd S 12 c _ 12 c=_
   rw[Qh,zb ⟨rfl,rfl⟩];rfl
 ·obtain⟨r1,r3,r4,rf⟩:=r
  have w':=w
  obtain⟨⟨w1,w2⟩,w3,⟨w4,w5⟩,w6,w7⟩:=w
  have ep:Qa (.op2 o (.arg x) f)=Qa f++[x]:=rfl
  rw[ep] at nd g
  obtain⟨nd1,-,nd3⟩:=zl.mp nd
  have hxf:x∉Qa f:=fun h=>nd3 x h x (by simp) rfl
  obtain⟨S',e,F,F12,A⟩:=ih p tot S nd1 rf (Qav g)
  have g':=Qaz g
  have hp:p+(Qa f).length+1<=tot:=g'.2.1
  have e13:S' 13 (p+(Qa f).length)=Int32.ofNat x:=by
   rw[F 13 _ (by decide)];exact g'.2.2.2 0 (by simp)
  have tl:=g.2.2.1
  rw[e,step _ tot S' x w2 (by omega) tl ((F 0 6 (by decide)).trans g.1) e13,EaE hf1,za (by decide),zb (Qt (by omega) w2),Qu (a:=x) (by omega)]
  have k1:S' 1 x≠0:=by rw[F 1 x (by decide),r1];exact Qbo
  have k3:S' 3 x=Int32.ofNat (Qd f).length:=(F 3 x (by decide)).trans r3
  rw[za k1,Qax hf1 w2 k3 w5];simp only[zz]
  rw[Edt hf1]
  have key:=Qau (fun j=>f1 (37,77,[.ref 0,.int (Int32.ofNat (p+(Qa f).length)),.int (Int32.ofNat x),.int (((Qd f).take j).foldl (fun a u=>a|||QU u) 0),.int (Int32.ofNat (Qd f).length),.int (Int32.ofNat j)],[],S')) (n:=(Qd f).length) fun j hj=>by
   show f1 _=f1 _
   have hm:=Q9 hj
   obtain⟨ut,uw⟩:=Qam w7 _ hm
   have us:=Qas ut uw
   rw[EaH hf1,zb ((Ql (by omega) (by omega)).mpr hj),zb (show Int32.ofNat j<8 from (Ql (b:=8) (by omega) (by omega)).mpr (by omega)),Q8 hf1 S' w2 (by omega),F 4 _ (by decide),r4 j hj];simp only[zz]
   rw[EbO hf1,Qae hf1 S' us];simp only[zz]
   rw[EcP hf1,za (by decide),zb (Qt (by omega) us),Qu (by omega),Qv,QdD _ _ _ hj]
   rw[show S' 12 (Qg ((Qd f).getD j .null))=QU ((Qd f).getD j .null) from QcY (Q:=fun u=>S' 12 (Qg u)=QU u) ut (Qcl w7 A _ hm)]
  have key':f1 (37,77,[.ref 0,.int (Int32.ofNat (p+(Qa f).length)),.int (Int32.ofNat x),.int 0,.int (Int32.ofNat (Qd f).length),.int 0],[],S')=f1 (37,77,[.ref 0,.int (Int32.ofNat (p+(Qa f).length)),.int (Int32.ofNat x),.int (QU f),.int (Int32.ofNat (Qd f).length),.int (Int32.ofNat (Qd f).length)],[],S'):=by
   refine Eq.trans ?_ (key.trans ?_)
   ·rfl
   ·show f1 _=f1 _
    rw[List.take_length,QeP 0 f w7 w6,Int32.zero_or]
  rw[key',EaH hf1,za zp,zb (Qt (by omega) w2),Qu (by omega),Qv]
  refine⟨Jvm.OM.upd S' 12 x (QU f),?_,fun d i hd=>by rw[Qh,za (by omega)];exact F d i hd,fun i hi=>?_,?_,?_⟩
  ·rw[ep,zd];rfl
  ·rw[ep] at hi
   simp only[zc,zh,not_or] at hi
   rw[Qh,za (fun q=>hi.2 q.2)]
   exact F12 i hi.1
  ·show Jvm.OM.upd S' 12 x _ 12 x=_
   rw[Qh,zb ⟨rfl,rfl⟩];rfl
  ·refine Qbk f w7 (fun u hu hm q=>?_) A
   rw[Qh,za (fun e=>hxf (by rw[<-e.2];exact hm))];exact q
 ·have ep:Qa (.add t f)=Qa t++Qa f:=rfl
  rw[ep] at nd g
  obtain⟨nd1,nd2,nd3⟩:=zl.mp nd
  obtain⟨A,eA,FA,FA12,AA⟩:=iht p tot S nd1 r.1 (Qav g)
  obtain⟨w1,w2,w3,w4⟩:=w
  obtain⟨B,eB,FB,FB12,AB⟩:=ihf (p+(Qa t).length) tot A nd2 (QW (fun i=>⟨FA 1 i (by decide),FA 3 i (by decide)⟩) (fun i=>FA 4 i (by decide)) f w4 r.2) (QbX (FA 0 6 (by decide)) (fun i=>FA 13 i (by decide)) (Qaz g))
  refine⟨B,?_,fun d i hd=>(FB d i hd).trans (FA d i hd),fun i hi=>?_,?_,AB⟩
  ·rw[eA,eB,ep,zd,z7]
  ·rw[ep,zc,not_or] at hi
   exact (FB12 i hi.2).trans (FA12 i hi.1)
  ·exact Qbk t w3 (fun u hu hm q=>by rw[FB12 _ (fun h=>nd3 _ hm _ h rfl)];exact q) AA
 ·exact⟨S,rfl,fun _ _ _=>rfl,fun _ _=>rfl,trivial⟩
end Loops
def Q2(a v:Int32):Int32:=if v<a then v else a
def QF:Qf->List Int32
 | .arg c=>[Int32.ofNat c]
 | .op2 o (.arg _) f=>[if o = .iand then (QF f).foldl Q2 64 else Q2 ((QF f).getD ((QF f).length-1) 0) ((QF f).getD 0 0)]
 | .add t f=>QF t++QF f
 |_=>[]
def Qaq:Qf->List Int32
  | .arg c=>[1<<<(Int32.ofNat c&&&31)]
  | .op2 o (.arg _) f=>[if o = .iand then (Qaq f).foldl (· ||| ·) 0 else (Qaq f).getD 0 0|||(Qaq f).getD ((Qaq f).length-1) 0]
  | .add t f=>Qaq t++Qaq f
  |_=>[]
def QC(t:Qf):Int32:=(QF t).getD 0 0
def QO(t:Qf):Int32:=(Qaq t).getD 0 0
theorem Qfn:∀t,Qo t->QF t=[QC t]
 | .arg _,_=>rfl
 | .op2 _ (.arg _) _,_=>rfl
theorem QgX:∀t,Qo t->Qaq t=[QO t]
 | .arg _,_=>rfl
 | .op2 _ (.arg _) _,_=>rfl
theorem QbG:∀f,Qp f->QJ f->QF f=(Qd f).map QC
 | .add t f,w,_=>by show QF t++QF f=QC t::(Qd f).map QC;rw[Qfn t w.1,QbG f w.2.2.2 w.2.1];rfl
 | .null,_,_=>rfl
theorem QeE:∀f,Qp f->QJ f->Qaq f=(Qd f).map QO
 | .add t f,w,_=>by show Qaq t++Qaq f=QO t::(Qd f).map QO;rw[QgX t w.1,QeE f w.2.2.2 w.2.1];rfl
 | .null,_,_=>rfl
theorem Qbs(g:Qf->Int32){l:List Qf}{i:Nat}(h:i<l.length):(l.map g).getD i 0=g (l.getD i .null):=by
 simp only[ze,List.getElem?_map,List.getElem?_eq_getElem h,Option.map_some,Option.getD_some]
theorem QcP{o:Jvm.Binary}{x:Nat}{f:Qf}(w:Qp (.op2 o (.arg x) f)):QC (.op2 o (.arg x) f)=(if o = .iand then (Qd f).foldl (fun a u=>Q2 a (QC u)) 64 else Q2 (QC ((Qd f).getD ((Qd f).length-1) .null)) (QC ((Qd f).getD 0 .null))):=by
 obtain⟨-,-,⟨w4,w5⟩,w6,w7⟩:=w
 show (if o = .iand then (QF f).foldl Q2 64 else Q2 ((QF f).getD ((QF f).length-1) 0) ((QF f).getD 0 0))=_
 rw[QbG f w7 w6,List.foldl_map,zi,Qbs _ (by omega),Qbs _ (by omega)]
theorem Qdu{o:Jvm.Binary}{x:Nat}{f:Qf}(w:Qp (.op2 o (.arg x) f)):QO (.op2 o (.arg x) f)=(if o = .iand then (Qd f).foldl (fun a u=>a|||QO u) 0 else QO ((Qd f).getD 0 .null)|||QO ((Qd f).getD ((Qd f).length-1) .null)):=by
  obtain⟨-,-,⟨w4,w5⟩,w6,w7⟩:=w
  show (if o = .iand then (Qaq f).foldl (· ||| ·) 0 else (Qaq f).getD 0 0|||(Qaq f).getD ((Qaq f).length-1) 0)=_
  rw[QeE f w7 w6,List.foldl_map,zi,Qbs _ (by omega),Qbs _ (by omega)]
def QaA(d:Nat):Nat->Int32
 |0=>1
 |i+1=>if i+2<=d then QaA d i*Int32.ofNat (i+2) else QaA d i
def QH:Qf->Int32
 | .arg _=>1
 | .op2 o (.arg _) f=>QH f*(if o = .iand then QaA (Qd f).length 7 else 2)
 | .add t f=>QH t*QH f
 |_=>1
section Fst
variable {f1:FT1}
theorem QcK(hf1:Fx f1)(S:MS){x:Nat}(hx:x<64):f1 (27,0,[.ref 0,.int (Int32.ofNat x)],[],S)=some (some (.int (S 20 x)),S):=by
 rw[EcU hf1,Qae hf1 S hx];simp only[zz]
 rw[Ecl hf1,za (by decide),zb (Qt (by omega) hx),Qu (by omega)]
theorem QdY(hf1:Fx f1)(S:MS){x:Nat}(hx:x<64):f1 (28,0,[.ref 0,.int (Int32.ofNat x)],[],S)=some (some (.int (S 21 x)),S):=by
 rw[Eeo hf1,Qae hf1 S hx];simp only[zz]
 rw[Eeh hf1,za (by decide),zb (Qt (by omega) hx),Qu (by omega)]
theorem Qf7(hf1:Fx f1):∀t,Qp t->∀p tot S,(Qa t).Nodup->QA S t->Qao S p (Qa t) tot->∃S',f1 (69,2,[.ref 0,.int (Int32.ofNat p)],[],S)=f1 (69,2,[.ref 0,.int (Int32.ofNat (p+(Qa t).length))],[],S')/\(∀c i,c≠20->c≠21->S' c i=S c i)/\(∀i,i∉Qa t->S' 20 i=S 20 i/\S' 21 i=S 21 i)/\Qap (fun u=>S' 20 (Qg u)=QC u/\S' 21 (Qg u)=QO u) t:=by
 have step:∀(p tot:Nat) (S:MS) (x:Nat),x<64->p<tot->tot<=64->S 0 6=Int32.ofNat tot->S 13 p=Int32.ofNat x->f1 (69,2,[.ref 0,.int (Int32.ofNat p)],[],S)=f1 (69,28,[.ref 0,.int (Int32.ofNat p),.int (Int32.ofNat x)],[.int 1],S):=fun p tot S x hx h1 h2 h3 h4=>by
  rw[E8 hf1,h3,zb ((Ql (by omega) (by omega)).mpr h1),zb (show Int32.ofNat p<64 from (Ql (b:=64) (by omega) (by omega)).mpr (by omega)),zb (Qt (by omega) (by omega)),Qu (by omega),h4,Qae hf1 S hx];simp only[zz]
 refine QR (fun c hc p tot S nd r g=>?_) (fun o x f w ih p tot S nd r g=>?_) (fun t f w iht ihf p tot S nd r g=>?_) (fun p tot S nd r g=>?_)
 ·have e13:S 13 p=Int32.ofNat c:=g.2.2.2 0 (by simp[Qa])
  have hp:p+1<=tot:=g.2.1
  have e1:S 1 c=0:=r
  rw[step p tot S c (by omega) (by omega) g.2.2.1 g.1 e13,Ev hf1,za (by decide),zb (Qt (by omega) (by omega)),Qu (by omega),e1,zb rfl,zb (show Int32.ofNat c<8 from (Ql (b:=8) (by omega) (by omega)).mpr hc),EX hf1,Qv]
  refine⟨_,rfl,fun d i hd hd'=>by rw[Qh,za (by omega),Qh,za (by omega)],fun i hi=>?_,?_⟩
  ·have hi':i≠c:=fun e=>hi (by rw[e];simp[Qa])
   exact⟨by rw[Qh,za (by omega),Qh,za (fun q=>hi' q.2)],by rw[Qh,za (fun q=>hi' q.2),Qh,za (by omega)]⟩
  ·show Jvm.OM.upd _ 21 c _ 20 c=_/\Jvm.OM.upd _ 21 c _ 21 c=_
   exact⟨by rw[Qh,za (by omega),Qh,zb ⟨rfl,rfl⟩];rfl,by rw[Qh,zb ⟨rfl,rfl⟩];rfl⟩
 ·obtain⟨r1,r3,r4,rf⟩:=r
  have w':=w
  obtain⟨⟨w1,w2⟩,w3,⟨w4,w5⟩,w6,w7⟩:=w
  have ep:Qa (.op2 o (.arg x) f)=Qa f++[x]:=rfl
  rw[ep] at nd g
  obtain⟨nd1,-,nd3⟩:=zl.mp nd
  have hxf:x∉Qa f:=fun h=>nd3 x h x (by simp) rfl
  obtain⟨S',e,F,F12,A⟩:=ih p tot S nd1 rf (Qav g)
  have g':=Qaz g
  have hp:p+(Qa f).length+1<=tot:=g'.2.1
  have e13:S' 13 (p+(Qa f).length)=Int32.ofNat x:=by
   rw[F 13 _ (by decide) (by decide)];exact g'.2.2.2 0 (by simp)
  have tl:=g.2.2.1
  rw[e,step _ tot S' x w2 (by omega) tl ((F 0 6 (by decide) (by decide)).trans g.1) e13,Ev hf1,za (by decide),zb (Qt (by omega) w2),Qu (a:=x) (by omega)]
  have k1:S' 1 x=QaD o:=(F 1 x (by decide) (by decide)).trans r1
  have k3:S' 3 x=Int32.ofNat (Qd f).length:=(F 3 x (by decide) (by decide)).trans r3
  have kv:∀j,j<(Qd f).length->S' 4 (8*x+j)=Int32.ofNat (Qg ((Qd f).getD j .null))/\Qg ((Qd f).getD j .null)<64/\S' 20 (Qg ((Qd f).getD j .null))=QC ((Qd f).getD j .null)/\S' 21 (Qg ((Qd f).getD j .null))=QO ((Qd f).getD j .null)/\Qg ((Qd f).getD j .null)≠x:=fun j hj=>by
   have hm:=Q9 hj
   obtain⟨ut,uw⟩:=Qam w7 _ hm
   have q:=QcY (Q:=fun u=>S' 20 (Qg u)=QC u/\S' 21 (Qg u)=QO u) ut (Qcl w7 A _ hm)
   exact⟨(F 4 _ (by decide) (by decide)).trans (r4 j hj),Qas ut uw,q.1,q.2,fun e=>hxf (e▸QeO w7 _ hm _ (QcN _ uw ut))⟩
  have fin:∀v1 v2,v1=QC (.op2 o (.arg x) f)->v2=QO (.op2 o (.arg x) f)->∃S'',f1 (69,95,[.ref 0,.int (Int32.ofNat (p+(Qa f).length)),.int (Int32.ofNat x)],[],Jvm.OM.upd (Jvm.OM.upd S' 20 x v1) 21 x v2)=f1 (69,2,[.ref 0,.int (Int32.ofNat (p+(Qa (.op2 o (.arg x) f)).length))],[],S'')/\(∀c i,c≠20->c≠21->S'' c i=S c i)/\(∀i,i∉Qa (.op2 o (.arg x) f)->S'' 20 i=S 20 i/\S'' 21 i=S 21 i)/\Qap (fun u=>S'' 20 (Qg u)=QC u/\S'' 21 (Qg u)=QO u) (.op2 o (.arg x) f):=fun v1 v2 h1 h2=>by
   rw[EX hf1,Qv]
   refine⟨Jvm.OM.upd (Jvm.OM.upd S' 20 x v1) 21 x v2,?_,fun d i hd hd'=>by rw[Qh,za (by omega),Qh,za (by omega)];exact F d i hd hd',fun i hi=>?_,?_,?_⟩
   ·rw[ep,zd];rfl
   ·rw[ep] at hi
    simp only[zc,zh,not_or] at hi
    exact⟨by rw[Qh,za (by omega),Qh,za (fun q=>hi.2 q.2)];exact (F12 i hi.1).1,by rw[Qh,za (fun q=>hi.2 q.2),Qh,za (by omega)];exact (F12 i hi.1).2⟩
   ·show Jvm.OM.upd _ 21 x _ 20 x=_/\Jvm.OM.upd _ 21 x _ 21 x=_
    exact⟨by rw[Qh,za (by omega),Qh,zb ⟨rfl,rfl⟩];exact h1,by rw[Qh,zb ⟨rfl,rfl⟩];exact h2⟩
   ·refine Qbk f w7 (fun u hu hm q=>?_) A
    have hne:Qg u≠x:=fun e=>hxf (e▸hm)
    exact⟨by rw[Qh,za (by omega),Qh,za (fun e=>hne e.2)];exact q.1,by rw[Qh,za (fun e=>hne e.2),Qh,za (by omega)];exact q.2⟩
  rw[za (show ¬S' 1 x=0 by rw[k1];exact Qbo)]
  by_cases ho:o = .iand
  ·have hk:S' 1 x=1:=by rw[k1,QaD,zb ho]
   rw[zb hk,Ec0 hf1,Qax hf1 w2 k3 w5];simp only[zz]
   rw[EbE hf1]
   have key:=Qau (fun j=>f1 (70,15,[.ref 0,.int (Int32.ofNat x),.int (((Qd f).take j).foldl (fun a u=>Q2 a (QC u)) 64),.int (((Qd f).take j).foldl (fun a u=>a|||QO u) 0),.int (Int32.ofNat (Qd f).length),.int (Int32.ofNat j)],[],S')) (n:=(Qd f).length) fun j hj=>by
    show f1 _=f1 _
    obtain⟨v4,v64,v20,v21,-⟩:=kv j hj
    rw[Eac hf1,zb ((Ql (by omega) (by omega)).mpr hj),zb (show Int32.ofNat j<8 from (Ql (b:=8) (by omega) (by omega)).mpr (by omega)),Q8 hf1 S' w2 (by omega),v4];simp only[zz]
    rw[Ea6 hf1,Qae hf1 S' v64];simp only[zz]
    rw[EeW hf1,za (by decide),zb (Qt (by omega) v64),Qu (by omega),Qv,QdD _ _ _ hj,QdD _ _ _ hj,v20,v21]
    unfold Q2
    by_cases q:QC ((Qd f).getD j .null)<((Qd f).take j).foldl (fun a u=>if QC u<a then QC u else a) 64
    ·rw[zb q,zb q]
    ·rw[za q,za q]
   have key':f1 (70,15,[.ref 0,.int (Int32.ofNat x),.int 64,.int 0,.int (Int32.ofNat (Qd f).length),.int 0],[],S')=some (none,Jvm.OM.upd (Jvm.OM.upd S' 20 x ((Qd f).foldl (fun a u=>Q2 a (QC u)) 64)) 21 x ((Qd f).foldl (fun a u=>a|||QO u) 0)):=by
    refine Eq.trans ?_ (key.trans ?_)
    ·rfl
    ·show f1 _=_
     rw[List.take_length,Eac hf1,za zp,Ebz hf1,zb (Qt (by omega) w2),Qu (by omega)]
   rw[key'];simp only[zz]
   rw[Ebw hf1]
   exact fin _ _ (by rw[QcP w',zb ho]) (by rw[Qdu w',zb ho])
  ·have hk:¬S' 1 x=1:=by rw[k1,QaD,za ho];decide
   obtain⟨a4,a64,a20,a21,anx⟩:=kv 0 (by omega)
   obtain⟨b4,b64,b20,b21,bnx⟩:=kv ((Qd f).length-1) (by omega)
   rw[za hk,Ede hf1,Qax hf1 w2 k3 w5];simp only[zz]
   rw[Ebr hf1,show (0:Int32)=Int32.ofNat 0 from rfl,Q8 hf1 S' w2 (by omega),a4];simp only[zz]
   rw[EcL hf1,show Int32.ofNat (Qd f).length-1=Int32.ofNat ((Qd f).length-1) from Qbl (b:=1) (by omega),Q8 hf1 S' w2 (by omega),b4];simp only[zz]
   rw[EaL hf1,QcK hf1 S' a64,a20];simp only[zz]
   rw[Edb hf1,QcK hf1 S' b64,b20];simp only[zz]
   have q2:∀v,v=QC (.op2 o (.arg x) f)->∃S'',(((f1 (28,0,[.ref 0,.int (Int32.ofNat (Qg ((Qd f).getD 0 .null)))],[],Jvm.OM.upd S' 20 x v)).bind fun q=>f1 (71,63,[.ref 0,.int (Int32.ofNat x),.int (Int32.ofNat (Qd f).length),.int (Int32.ofNat (Qg ((Qd f).getD 0 .null))),.int (Int32.ofNat (Qg ((Qd f).getD ((Qd f).length-1) .null))),.int (QC ((Qd f).getD 0 .null)),.int (QC ((Qd f).getD ((Qd f).length-1) .null))],q.1.toList++[],q.2)).bind fun q=>f1 (69,95,[.ref 0,.int (Int32.ofNat (p+(Qa f).length)),.int (Int32.ofNat x)],q.1.toList,q.2))=f1 (69,2,[.ref 0,.int (Int32.ofNat (p+(Qa (.op2 o (.arg x) f)).length))],[],S'')/\(∀c i,c≠20->c≠21->S'' c i=S c i)/\(∀i,i∉Qa (.op2 o (.arg x) f)->S'' 20 i=S 20 i/\S'' 21 i=S 21 i)/\Qap (fun u=>S'' 20 (Qg u)=QC u/\S'' 21 (Qg u)=QO u) (.op2 o (.arg x) f):=fun v hv=>by
    rw[QdY hf1 _ a64];simp only[zz]
    rw[Ed0 hf1,QdY hf1 _ b64];simp only[zz]
    rw[EbD hf1,zb (Qt (by omega) w2),Qu (by omega)];simp only[zz]
    refine fin _ _ hv ?_
    rw[Qh,za (by omega),Qh,za (by omega),a21,b21,Qdu w',za ho]
   rw[EcK hf1]
   by_cases q:QC ((Qd f).getD 0 .null)<QC ((Qd f).getD ((Qd f).length-1) .null)
   ·rw[zb q,zb (Qt (by omega) w2),Qu (by omega)]
    exact q2 _ (by rw[QcP w',za ho,Q2,zb q])
   ·rw[za q,zb (Qt (by omega) w2),Qu (by omega)]
    exact q2 _ (by rw[QcP w',za ho,Q2,za q])
 ·have ep:Qa (.add t f)=Qa t++Qa f:=rfl
  rw[ep] at nd g
  obtain⟨nd1,nd2,nd3⟩:=zl.mp nd
  obtain⟨A,eA,FA,FA12,AA⟩:=iht p tot S nd1 r.1 (Qav g)
  obtain⟨w1,w2,w3,w4⟩:=w
  obtain⟨B,eB,FB,FB12,AB⟩:=ihf (p+(Qa t).length) tot A nd2 (QW (fun i=>⟨FA 1 i (by decide) (by decide),FA 3 i (by decide) (by decide)⟩) (fun i=>FA 4 i (by decide) (by decide)) f w4 r.2) (QbX (FA 0 6 (by decide) (by decide)) (fun i=>FA 13 i (by decide) (by decide)) (Qaz g))
  refine⟨B,?_,fun d i hd hd'=>(FB d i hd hd').trans (FA d i hd hd'),fun i hi=>?_,?_,AB⟩
  ·rw[eA,eB,ep,zd,z7]
  ·rw[ep,zc,not_or] at hi
   exact⟨(FB12 i hi.2).1.trans (FA12 i hi.1).1,(FB12 i hi.2).2.trans (FA12 i hi.1).2⟩
  ·exact Qbk t w3 (fun u hu hm q=>by rw[(FB12 _ (fun h=>nd3 _ hm _ h rfl)).1,(FB12 _ (fun h=>nd3 _ hm _ h rfl)).2];exact q) AA
 ·exact⟨S,rfl,fun _ _ _ _=>rfl,fun _ _=>⟨rfl,rfl⟩,trivial⟩
theorem QfZ (hf1 : Fx f1) (S : MS) {d : Nat} (hd : d <= 8) : f1 (68, 0, [.ref 0, .int (Int32.ofNat d)], [], S) = some (some (.int (QaA d 7)), S) := by
  rw [Ebh hf1]
  have go : ∀ m i, i + m = 7 -> f1 (68, 4, [.ref 0, .int (Int32.ofNat d), .int (QaA d i), .int (Int32.ofNat (i + 2))], [], S) = some (some (.int (QaA d 7)), S) := fun m => by
    induction m with
    | zero => intro i e; have e' : i = 7 := by omega
              subst e'
              rw [Er hf1]
              split
              · rfl
              · rw [zb (by decide)]
    | succ m ih =>
      intro i e
      rw [Er hf1]
      by_cases q : i + 2 <= d
      · rw [za (by rw [Ql (by omega) (by omega)]; omega), za (show ¬ 8 < Int32.ofNat (i + 2) by rw [show (8 : Int32) = Int32.ofNat 8 from rfl, Ql (by omega) (by omega)]; omega), Qv, show QaA d i * Int32.ofNat (i + 2) = QaA d (i + 1) from by simp only [QaA]; rw [zb q]]
        exact ih (i + 1) (by omega)
      · rw [zb ((Ql (by omega) (by omega)).mpr (by omega))]
        have cst : ∀ k, i + k <= 7 -> QaA d (i + k) = QaA d i := fun k => by
          induction k with
          | zero => intro _; rfl
          | succ k ihk => intro h; show (if i + k + 2 <= d then _ else QaA d (i + k)) = _; rw [za (by omega)]; exact ihk (by omega)
        rw [<- cst (7 - i) (by omega), show i + (7 - i) = 7 from by omega]
  exact go 7 0 rfl
theorem QeD(hf1:Fx f1):∀t,Qp t->∀p tot S v,QA S t->Qao S p (Qa t) tot->f1 (67,4,[.ref 0,.int v,.int (Int32.ofNat p)],[],S)=f1 (67,4,[.ref 0,.int (v*QH t),.int (Int32.ofNat (p+(Qa t).length))],[],S):=by
 have step:∀(p tot:Nat) (S:MS) (x:Nat) (v:Int32),x<64->p<tot->tot<=64->S 0 6=Int32.ofNat tot->S 13 p=Int32.ofNat x->f1 (67,4,[.ref 0,.int v,.int (Int32.ofNat p)],[],S)=f1 (67,30,[.ref 0,.int v,.int (Int32.ofNat p),.int (Int32.ofNat x)],[.int (if S 1 x=0 then 0 else 1)],S):=fun p tot S x v hx h1 h2 h3 h4=>by
  rw[Eh hf1,h3,zb ((Ql (by omega) (by omega)).mpr h1),zb (show Int32.ofNat p<64 from (Ql (b:=64) (by omega) (by omega)).mpr (by omega)),zb (Qt (by omega) (by omega)),Qu (by omega),h4,QbE hf1 S hx];simp only[zz]
 refine QR (fun c hc p tot S v r g=>?_) (fun o x f w ih p tot S v r g=>?_) (fun t f w iht ihf p tot S v r g=>?_) (fun p tot S v r g=>?_)
 ·have e13:S 13 p=Int32.ofNat c:=g.2.2.2 0 (by simp[Qa])
  have hp:p+1<=tot:=g.2.1
  have e1:S 1 c=0:=r
  rw[step p tot S c v (by omega) (by omega) g.2.2.1 g.1 e13,zb e1,EaC hf1,zb rfl,Qv]
  show _=f1 (_,_,[_,.int (v*1),_],_,_)
  rw[Int32.mul_one];rfl
 ·obtain⟨r1,r3,r4,rf⟩:=r
  obtain⟨⟨w1,w2⟩,w3,⟨w4,w5⟩,w6,w7⟩:=w
  have ep:Qa (.op2 o (.arg x) f)=Qa f++[x]:=rfl
  rw[ep] at g
  have g':=Qaz g
  have hp:p+(Qa f).length+1<=tot:=g'.2.1
  have e13:S 13 (p+(Qa f).length)=Int32.ofNat x:=g'.2.2.2 0 (by simp)
  have tl:=g.2.2.1
  rw[ih p tot S v rf (Qav g),step _ tot S x _ w2 (by omega) tl g.1 e13,za (by rw[r1];exact Qbo),EaC hf1,za (by decide),Qax hf1 w2 r3 w5];simp only[zz]
  rw[EdE hf1,zb (Qt (by omega) w2),Qu (by omega),r1,ep,zd]
  show _=f1 (_,_,[_,.int (v*(QH f*_)),_],_,_)
  by_cases ho:o = .iand
  ·rw[QaD,zb ho,zb rfl,QfZ hf1 S w5];simp only[zz]
   rw[EbG hf1,zb ho,Qv,Int32.mul_assoc];rfl
  ·rw[QaD,za ho,za (by decide),za ho,Qv,Int32.mul_assoc];rfl
 ·have ep:Qa (.add t f)=Qa t++Qa f:=rfl
  rw[ep] at g
  rw[iht p tot S v r.1 (Qav g),ihf _ tot S _ r.2 (Qaz g),ep,zd,z7,Int32.mul_assoc]
  rfl
 ·show _=f1 (_,_,[_,.int (v*1),_],_,_)
  rw[Int32.mul_one];rfl
end Fst
def Qah(vs:List Int32)(m:Nat):Nat->Option Nat
 |0=>none
 |k+1=>match Qah vs m k with
  |none=>if m.testBit k=true then none else some k
  |some j=>if m.testBit k=true then some j else if vs.getD j 0<vs.getD k 0 then some k else some j
def QY(vs:List Int32)(d:Nat):Nat->Nat->List Nat
 |0,_=>[]
 |r+1,m=>match Qah vs m d with
  |none=>[]
  |some j=>j::QY vs d r (m|||2 ^ j)
def QX:Qf->List (List Nat)
 | .arg c=>[[c]]
 | .op2 o (.arg _) f=>[if o = .iand then (QY (QF f) (QF f).length (QF f).length 0).reverse.flatMap fun i=>(QX f).getD i [] else if (QF f).getD 0 0<(QF f).getD ((QF f).length-1) 0 then (QX f).flatMap id else (QX f).reverse.flatMap id]
 | .add t f=>QX t++QX f
 |_=>[]
def Qz(t:Qf):List Nat:=(QX t).getD 0 []
def Qe:Qf->List Nat
 | .arg c=>[c]
 | .op2 _ (.arg _) f=>Qe f
 | .add t f=>Qe t++Qe f
 |_=>[]
theorem Qe9:∀t,Qo t->QX t=[Qz t]
 | .arg _,_=>rfl
 | .op2 _ (.arg _) _,_=>rfl
theorem QbH:∀f,Qp f->QJ f->QX f=(Qd f).map Qz
 | .add t f,w,_=>by show QX t++QX f=Qz t::(Qd f).map Qz;rw[Qe9 t w.1,QbH f w.2.2.2 w.2.1];rfl
 | .null,_,_=>rfl
theorem QbP{vs:List Int32}{m:Nat}:∀k,(∀j,Qah vs m k=some j->j<k/\m.testBit j=false)/\(Qah vs m k=none->∀j,j<k->m.testBit j=true)
 |0=>⟨fun j h=>absurd h (by simp[Qah]),fun _ j hj=>absurd hj (by omega)⟩
 |k+1=>by
  obtain⟨a,b⟩:=QbP (vs:=vs) (m:=m) k
  simp only[Qah]
  cases h:Qah vs m k with
  |none=>
   by_cases q:m.testBit k=true
   ·simp only[zb q]
    refine⟨fun j hj=>absurd hj (by simp),fun _ j hj=>?_⟩
    by_cases e:j=k
    ·rw[e];exact q
    ·exact b h j (by omega)
   ·simp only[za q]
    refine⟨fun j hj=>?_,fun hj=>absurd hj (by simp)⟩
    have e:k=j:=Option.some.inj hj
    subst e
    exact⟨by omega,by simpa using q⟩
  |some i=>
   obtain⟨a1,a2⟩:=a i h
   by_cases q:m.testBit k=true
   ·simp only[zb q]
    refine⟨fun j hj=>?_,fun hj=>absurd hj (by simp)⟩
    have e:i=j:=Option.some.inj hj
    subst e
    exact⟨by omega,a2⟩
   ·simp only[za q]
    by_cases r:vs.getD i 0<vs.getD k 0
    ·simp only[zb r]
     refine⟨fun j hj=>?_,fun hj=>absurd hj (by simp)⟩
     have e:k=j:=Option.some.inj hj
     subst e
     exact⟨by omega,by simpa using q⟩
    ·simp only[za r]
     refine⟨fun j hj=>?_,fun hj=>absurd hj (by simp)⟩
     have e:i=j:=Option.some.inj hj
     subst e
     exact⟨by omega,a2⟩
theorem QeZ{vs:List Int32}{d:Nat}:∀r m (R:List Nat),R.length=r->(∀k,k∈R↔k<d/\m.testBit k=false)->R.Nodup->(QY vs d r m).Perm R
 |0,m,R,hl,_,_=>by rw[List.length_eq_zero_iff.mp hl];exact List.Perm.refl _
 |r+1,m,R,hl,hR,nd=>by
  simp only[QY]
  cases h:Qah vs m d with
  |none=>
   exfalso
   match R,hl,hR with
   |k::_,_,hR=>
    obtain⟨h1,h2⟩:=(hR k).mp (by simp)
    rw[(QbP d).2 h k h1] at h2
    exact absurd h2 (by decide)
  |some j=>
   obtain⟨h1,h2⟩:=(QbP d).1 j h
   have hj:j∈R:=(hR j).mpr ⟨h1,h2⟩
   refine List.Perm.trans (List.Perm.cons j (QeZ r (m|||2 ^ j) (R.erase j) ?_ (fun k=>?_) (nd.erase j))) (List.perm_cons_erase hj).symm
   ·rw[List.length_erase_of_mem hj,hl];rfl
   ·rw[nd.mem_erase_iff,hR k,Nat.testBit_or,Nat.testBit_two_pow]
    by_cases e:j=k
    ·subst e;simp
    ·have e':k≠j:=fun q=>e q.symm
     simp[e,e']
theorem QcX(vs:List Int32)(d:Nat):(QY vs d d 0).Perm (List.range d):=
 QeZ d 0 (List.range d) zap (fun k=>by simp) List.nodup_range
theorem QgF{α:Type}(l:List (List α)):(List.range l.length).flatMap (fun i=>l.getD i [])=l.flatMap id:=by
 have h:(List.range l.length).map (fun i=>l.getD i [])=l:=List.ext_getElem (by simp) fun i h1 h2=>by
  rw[List.getElem_map,List.getElem_range,ze,List.getElem?_eq_getElem h2];rfl
 have h2:((List.range l.length).map (fun i=>l.getD i [])).flatMap id=l.flatMap id:=by rw[h]
 rw[zat] at h2
 exact h2
theorem QfK:∀t,Qp t->((QX t).flatMap id).Perm (Qe t):=QR
 (fun c _=>List.Perm.refl _)
 (fun o x f w ih=>by
  have hl:(QF f).length=(QX f).length:=by rw[QbG f w.2.2.2.2 w.2.2.2.1,QbH f w.2.2.2.2 w.2.2.2.1,zi,zi]
  show (([if o = .iand then (QY (QF f) (QF f).length (QF f).length 0).reverse.flatMap fun i=>(QX f).getD i [] else if (QF f).getD 0 0<(QF f).getD ((QF f).length-1) 0 then (QX f).flatMap id else (QX f).reverse.flatMap id]:List (List Nat)).flatMap id).Perm (Qe f)
  rw[zf,zo,zk]
  show List.Perm (if o = .iand then _ else _) _
  split
  ·refine List.Perm.trans (zau _ ((zv _).trans (QcX _ _))) ?_
   rw[hl,QgF];exact ih
  ·split
   ·exact ih
   ·exact (zau _ (zv _)).trans ih)
 (fun t f _ iht ihf=>by
  show ((QX t++QX f).flatMap id).Perm (Qe t++Qe f)
  rw[zj]
  exact List.Perm.append iht ihf) (List.Perm.refl _)
theorem Qbg{t:Qf}(w:Qp t)(h:Qo t):(Qz t).Perm (Qe t):=by
 have:=QfK t w
 rw[Qe9 t h,zf,zo,zk] at this
 exact this
def Qce(S S':MS)(sp out:Nat)(l:List Nat):Prop:=(∀c i,c≠14->c≠22->S' c i=S c i)/\(∀i,i<sp->S' 14 i=S 14 i)/\(∀i,i<out->S' 22 i=S 22 i)/\(∀i,out+l.length<=i->S' 22 i=S 22 i)/\∀i,i<l.length->S' 22 (out+i)=Int32.ofNat (l.getD i 0)
theorem QgM{S S' S'':MS}{sp sp' out:Nat}{l l':List Nat}(h:Qce S S' sp out l)(h':Qce S' S'' sp' (out+l.length) l')(hs:sp<=sp'):Qce S S'' sp out (l++l'):=by
 obtain⟨a1,a2,a3,a4,a5⟩:=h
 obtain⟨b1,b2,b3,b4,b5⟩:=h'
 refine⟨fun c i h1 h2=>(b1 c i h1 h2).trans (a1 c i h1 h2),fun i hi=>(b2 i (by omega)).trans (a2 i hi),fun i hi=>(b3 i (by omega)).trans (a3 i hi),fun i hi=>?_,fun i hi=>?_⟩
 ·rw[zd] at hi;exact (b4 i (by omega)).trans (a4 i (by omega))
 ·rw[zd] at hi
  by_cases q:i<l.length
  ·rw[b3 _ (by omega),a5 i q]
   congr 1
   simp only[ze,List.getElem?_append_left q]
  ·rw[show out+i=out+l.length+(i-l.length) from by omega,b5 _ (by omega)]
   congr 1
   simp only[ze,List.getElem?_append_right (Nat.le_of_not_lt q)]
def Qch:Option Nat->Int32
 |none => -1
 |some j=>Int32.ofNat j
theorem Qgk:Qch none = -1:=rfl
theorem QgY(j:Nat):Qch (some j)=Int32.ofNat j:=rfl
def QcI(vs:List Int32):Option Nat->Int32
 |none => -1
 |some j=>vs.getD j 0
theorem QfC:∀m,m<256->∀k,k<8->(((Int32.ofNat m>>>(Int32.ofNat k&&&31))&&&1=0)↔m.testBit k=false):=by decide +kernel
theorem QgS:∀m,m<256->∀k,k<8->Int32.ofNat m|||((1:Int32)<<<(Int32.ofNat k&&&31))=Int32.ofNat (m|||2 ^ k)/\m|||2 ^ k<256:=by decide +kernel
section Least
variable {f1:FT1}
theorem Qfg(hf1:Fx f1){S:MS}{x d m:Nat}{vs:List Int32}{sl:Nat->Nat}(hx:x<64)(hd:d<=8)(hm:m<256)(hk:∀j,j<d->S 4 (8*x+j)=Int32.ofNat (sl j)/\sl j<64/\S 20 (sl j)=vs.getD j 0)(v2 v5 v6:Int32):f1 (73,37,[.ref 0,.int (Int32.ofNat x),.int v2,.int (Int32.ofNat d),.int (Int32.ofNat m),.int v5,.int v6,.int (-1),.int (-1),.int 0],[],S)=f1 (73,114,[.ref 0,.int (Int32.ofNat x),.int v2,.int (Int32.ofNat d),.int (Int32.ofNat m),.int v5,.int v6,.int (Qch (Qah vs m d)),.int (QcI vs (Qah vs m d)),.int (Int32.ofNat d)],[],S):=by
 refine Eq.trans ?_ ((Qau (fun k=>f1 (73,37,[.ref 0,.int (Int32.ofNat x),.int v2,.int (Int32.ofNat d),.int (Int32.ofNat m),.int v5,.int v6,.int (Qch (Qah vs m k)),.int (QcI vs (Qah vs m k)),.int (Int32.ofNat k)],[],S)) (n:=d) fun k hkd=>?_).trans ?_)
 ·rfl
 ·show f1 _=f1 _
  obtain⟨k4,k64,k20⟩:=hk k hkd
  rw[EN hf1,zb ((Ql (by omega) (by omega)).mpr hkd),zb (show Int32.ofNat k<8 from (Ql (b:=8) (by omega) (by omega)).mpr (by omega)),Q8 hf1 S hx (by omega),k4];simp only[zz]
  rw[EcI hf1]
  have hb:=QfC m hm k (by omega)
  simp only[Qah]
  by_cases q:m.testBit k=true
  ·rw[za (fun e=>by rw[hb.mp e] at q;exact absurd q (by decide)),Qv]
   cases Qah vs m k with
   |none=>simp only[zb q]
   |some j=>simp only[zb q]
  ·have q':m.testBit k=false:=by simpa using q
   rw[zb (hb.mpr q'),Qae hf1 S k64];simp only[zz]
   rw[EdC hf1,za (by decide),zb (Qt (by omega) k64),zb (Qt (by omega) k64),Qu (by omega),Qv,k20]
   have ob:=(QbP (vs:=vs) (m:=m) k).1
   cases h:Qah vs m k with
   |none=>
    simp only[za q,Qch,QcI]
    exact zb (by decide)
   |some j=>
    obtain⟨hj,-⟩:=ob j h
    simp only[za q]
    refine (za (Q0 (by omega))).trans ?_
    by_cases r:vs.getD j 0<vs.getD k 0
    ·refine (zb r).trans ?_;simp only[zb r,Qch,QcI]
    ·refine (za r).trans ?_;simp only[za r]
 ·show f1 _=_
  rw[EN hf1,za zp]
theorem QeG(hf1:Fx f1){x d:Nat}{vs:List Int32}{sl:Nat->Nat}(hx:x<64)(hd:d<=8)(v2:Int32):∀r r0 m top S,r0+r=d->m<256->top+r<=128->(∀j,j<d->S 4 (8*x+j)=Int32.ofNat (sl j)/\sl j<64/\S 20 (sl j)=vs.getD j 0)->∃S',f1 (73,15,[.ref 0,.int (Int32.ofNat x),.int v2,.int (Int32.ofNat d),.int (Int32.ofNat m),.int (Int32.ofNat top),.int (Int32.ofNat r0)],[],S)=some (some (.int (Int32.ofNat (top+(QY vs d r m).length))),S')/\(∀c i,¬(c=14/\top<=i)->S' c i=S c i)/\∀i,i<(QY vs d r m).length->S' 14 (top+i)=Int32.ofNat (sl ((QY vs d r m).getD i 0))
 |0,r0,m,top,S,e,hm,ht,hk=>by
  have e':r0=d:=by omega
  subst e'
  rw[EZ hf1,za zp]
  exact⟨S,rfl,fun _ _ _=>rfl,fun i hi=>absurd hi (by simp[QY])⟩
 |r+1,r0,m,top,S,e,hm,ht,hk=>by
  rw[EZ hf1,zb ((Ql (by omega) (by omega)).mpr (by omega)),zb (show Int32.ofNat r0<8 from (Ql (b:=8) (by omega) (by omega)).mpr (by omega)),Qfg hf1 hx hd hm hk,Eb3 hf1]
  have ob:=(QbP (vs:=vs) (m:=m) d).1
  simp only[QY]
  cases h:Qah vs m d with
  |none=>
   rw[Qgk,zb (show (-1:Int32)<0 by decide)]
   exact⟨S,rfl,fun _ _ _=>rfl,fun i hi=>absurd hi (by simp)⟩
  |some j=>
   obtain⟨hj,-⟩:=ob j h
   obtain⟨j4,j64,j20⟩:=hk j hj
   rw[QgY]
   obtain⟨m1,m2⟩:=QgS m hm j (by omega)
   rw[za (Q0 (by omega)),Q8 hf1 S hx (by omega),j4,m1];simp only[zz]
   rw[Ea4 hf1,zb (show Int32.ofNat top<128 from (Ql (b:=128) (by omega) (by omega)).mpr (by omega)),zb (Qt (by omega) (by omega)),Qu (by omega),Qv,Qv]
   obtain⟨S',e',F,G⟩:=QeG hf1 hx hd v2 r (r0+1) (m|||2 ^ j) (top+1) (Jvm.OM.upd S 14 top (Int32.ofNat (sl j))) (by omega) m2 (by omega) hk
   refine⟨S',?_,fun c i hc=>?_,fun i hi=>?_⟩
   ·rw[e',zq,show top+1+(QY vs d r (m|||2 ^ j)).length=top+((QY vs d r (m|||2 ^ j)).length+1) from by omega]
   ·rw[F c i (by omega),Qh,za (by omega)]
   ·rw[zq] at hi
    by_cases q:i=0
    ·subst q
     rw[F 14 _ (by omega),Qh,zb ⟨rfl,rfl⟩];rfl
    ·obtain⟨i',hi'⟩:∃i',i=i'+1:=⟨i-1,by omega⟩
     subst hi'
     rw[show top+(i'+1)=top+1+i' from by omega,G i' (by omega)]
     rfl
theorem QeJ(hf1:Fx f1){x d:Nat}{sl:Nat->Nat}{v2 v4 v5 v6 v7:Int32}(hx:x<64)(hd:d<=8):∀r k top S,k+r=d->top+r<=128->(∀j,j<d->S 4 (8*x+j)=Int32.ofNat (sl j))->∃S',f1 (74,52,[.ref 0,.int (Int32.ofNat x),.int v2,.int (Int32.ofNat d),.int v4,.int v5,.int v6,.int v7,.int (Int32.ofNat top),.int (Int32.ofNat k)],[],S)=some (some (.int (Int32.ofNat (top+r))),S')/\(∀c i,¬(c=14/\top<=i)->S' c i=S c i)/\∀i,i<r->S' 14 (top+i)=Int32.ofNat (sl (if v6<v7 then d-1-(k+i) else k+i))
 |0,k,top,S,e,ht,hk=>by
  have e':k=d:=by omega
  subst e'
  rw[EK hf1,za zp]
  exact⟨S,rfl,fun _ _ _=>rfl,fun i hi=>absurd hi (by omega)⟩
 |r+1,k,top,S,e,ht,hk=>by
  rw[EK hf1,zb ((Ql (by omega) (by omega)).mpr (by omega)),zb (show Int32.ofNat k<8 from (Ql (b:=8) (by omega) (by omega)).mpr (by omega))]
  have go:∀(v10:Int32) (a:Nat),a=(if v6<v7 then d-1-k else k)->∃S',f1 (74,92,[.ref 0,.int (Int32.ofNat x),.int v2,.int (Int32.ofNat d),.int v4,.int v5,.int v6,.int v7,.int (Int32.ofNat top),.int (Int32.ofNat k),.int v10],[.int (Int32.ofNat (sl a))],S)=some (some (.int (Int32.ofNat (top+(r+1)))),S')/\(∀c i,¬(c=14/\top<=i)->S' c i=S c i)/\∀i,i<r+1->S' 14 (top+i)=Int32.ofNat (sl (if v6<v7 then d-1-(k+i) else k+i)):=fun v10 a ha=>by
   rw[Ecg hf1,zb (show Int32.ofNat top<128 from (Ql (b:=128) (by omega) (by omega)).mpr (by omega)),zb (Qt (by omega) (by omega)),Qu (by omega),Qv,Qv]
   obtain⟨S',e',F,G⟩:=QeJ hf1 (v2:=v2) (v4:=v4) (v5:=v5) (v6:=v6) (v7:=v7) hx hd r (k+1) (top+1) (Jvm.OM.upd S 14 top (Int32.ofNat (sl a))) (by omega) (by omega) hk
   refine⟨S',?_,fun c i hc=>?_,fun i hi=>?_⟩
   ·rw[e',show top+1+r=top+(r+1) from by omega]
   ·rw[F c i (by omega),Qh,za (by omega)]
   ·by_cases q:i=0
    ·subst q
     rw[F 14 _ (by omega),Qh,zb ⟨rfl,rfl⟩,ha];rfl
    ·obtain⟨i',hi'⟩:∃i',i=i'+1:=⟨i-1,by omega⟩
     subst hi'
     rw[show top+(i'+1)=top+1+i' from by omega,G i' (by omega),show k+1+i'=k+(i'+1) from by omega]
  by_cases q:v6<v7
  ·rw[zb q,show Int32.ofNat d-1=Int32.ofNat (d-1) from Qbl (b:=1) (by omega),Qbl (by omega),Q8 hf1 S hx (by omega),hk _ (by omega)];simp only[zz]
   exact go _ _ (by rw[zb q])
  ·rw[za q,Q8 hf1 S hx (by omega),hk _ (by omega)];simp only[zz]
   exact go _ _ (by rw[za q])
end Least
def Qb8(S:MS)(sp:Nat):List Qf->Prop
 |[]=>True
 |u::r=>S 14 (sp+r.length)=Int32.ofNat (Qg u)/\Qb8 S sp r
theorem QeS{S S':MS}{sp:Nat}:∀ {l:List Qf},(∀i,i<sp+l.length->S' 14 i=S 14 i)->Qb8 S sp l->Qb8 S' sp l
 |[],_,_=>trivial
 |u::r,h,k=>⟨(h _ (by simp)).trans k.1,QeS (fun i hi=>h i (by simp only[zq];omega)) k.2⟩
theorem Qc2{S:MS}{sp:Nat}:∀(l:List Qf),(∀i,i<l.length->S 14 (sp+(l.length-1-i))=Int32.ofNat (Qg (l.getD i .null)))->Qb8 S sp l
 |[],_=>trivial
 |u::r,h=>⟨by have:=h 0 (by simp);simpa using this,Qc2 r fun i hi=>by
   have:=h (i+1) (by simp;omega)
   rw[show (u::r).length-1-(i+1)=r.length-1-i from by simp only[zq];omega] at this
   simpa using this⟩
theorem Qa1(g:Qf->List Nat)(hg:∀t f,g (.add t f)=g t++g f)(h0:g .null=[]):∀f,Qp f->QJ f->(Qd f).flatMap g=g f
 | .add t f,w,_=>by
  show (t::Qd f).flatMap g=_
  rw[zf,Qa1 g hg h0 f w.2.2.2 w.2.1,hg]
 | .null,_,_=>by show [].flatMap g=_;rw[h0];rfl
theorem QfR{l:List Qf}{i:Nat}(h:i<l.length):l.reverse.getD i .null=l.getD (l.length-1-i) .null:=by
 simp only[ze,List.getElem?_reverse h]
theorem Qe7(l:List Qf):(List.range l.length).map (fun i=>l.getD i .null)=l:=List.ext_getElem (by simp) fun i h1 h2=>by
 rw[List.getElem_map,List.getElem_range,ze,List.getElem?_eq_getElem h2];rfl
theorem Qcp{S:MS}:∀ {f:Qf},Qp f->QA S f->∀u∈Qd f,QA S u
 | .add t f,w,r,u,hu=>by
  rcases zA.mp hu with e | e
  ·subst e;exact r.1
  ·exact Qcp w.2.2.2 r.2 u e
 | .null,_,_,u,hu=>absurd hu (by simp[Qd])
 | .arg _,_,_,u,hu=>absurd hu (by simp[Qd])
 | .op2 _ (.arg _) _,_,_,u,hu=>absurd hu (by simp[Qd])
section Lst
variable {f1:FT1}
def Qdw(f1:FT1)(t:Qf):Prop:=∀sp out g S,QA S t->Qap (fun u=>S 20 (Qg u)=QC u) t->S 14 sp=Int32.ofNat (Qg t)->out+(Qe t).length<=8->sp+(Qa t).length<=128->g+(Qa t).length<=1024->∃S',f1 (72,56,[.ref 0,.int (Int32.ofNat (sp+1)),.int (Int32.ofNat out),.int (Int32.ofNat g)],[],S)=f1 (72,56,[.ref 0,.int (Int32.ofNat sp),.int (Int32.ofNat (out+(Qe t).length)),.int (Int32.ofNat (g+(Qa t).length))],[],S')/\Qce S S' sp out (Qz t)
theorem QeR:∀(l:List Qf),(∀u∈l,Qp u/\Qo u/\Qdw f1 u)->∀sp out g S,(∀u∈l,QA S u/\Qap (fun u=>S 20 (Qg u)=QC u) u)->Qb8 S sp l->out+(l.flatMap Qe).length<=8->sp+(l.flatMap Qa).length<=128->g+(l.flatMap Qa).length<=1024->∃S',f1 (72,56,[.ref 0,.int (Int32.ofNat (sp+l.length)),.int (Int32.ofNat out),.int (Int32.ofNat g)],[],S)=f1 (72,56,[.ref 0,.int (Int32.ofNat sp),.int (Int32.ofNat (out+(l.flatMap Qe).length)),.int (Int32.ofNat (g+(l.flatMap Qa).length))],[],S')/\Qce S S' sp out (l.flatMap Qz)
 |[],_,sp,out,g,S,_,_,_,_,_=>⟨S,rfl,fun _ _ _ _=>rfl,fun _ _=>rfl,fun _ _=>rfl,fun _ _=>rfl,fun i hi=>absurd hi (by simp)⟩
 |u::r,h,sp,out,g,S,hr,hs,l1,l2,l3=>by
  obtain⟨uw,ut,ts⟩:=h u (by simp)
  obtain⟨ur,ua⟩:=hr u (by simp)
  rw[zf,zd] at l1 l2 l3
  have hrl:r.length<=(r.flatMap Qa).length:=by
   have:∀l:List Qf,(∀u∈l,Qp u/\Qo u)->l.length<=(l.flatMap Qa).length:=fun l=>by
    induction l with
    |nil=>intro _;simp
    |cons a l ih=>
     intro hl
     have h1:=QdC a (hl a (by simp)).1 (hl a (by simp)).2
     have h2:=ih fun u hu=>hl u (by simp[hu])
     rw[zf,zd,zq];omega
   exact this r fun u hu=>⟨(h u (by simp[hu])).1,(h u (by simp[hu])).2.1⟩
  obtain⟨A,eA,FA⟩:=ts (sp+r.length) out g S ur ua hs.1 (by omega) (by omega) (by omega)
  have hll:(Qz u).length=(Qe u).length:=(Qbg uw ut).length_eq
  obtain⟨B,eB,FB⟩:=QeR r (fun v hv=>h v (by simp[hv])) sp (out+(Qe u).length) (g+(Qa u).length) A (fun v hv=>by
   obtain⟨vr,va⟩:=hr v (by simp[hv])
   have vw:=(h v (by simp[hv])).1
   exact⟨QW (fun i=>⟨FA.1 1 i (by decide) (by decide),FA.1 3 i (by decide) (by decide)⟩) (fun i=>FA.1 4 i (by decide) (by decide)) v vw vr,Qbk v vw (fun w _ _ q=>by rw[FA.1 20 _ (by decide) (by decide)];exact q) va⟩) (QeS FA.2.1 hs.2) (by omega) (by omega) (by omega)
  refine⟨B,?_,?_⟩
  ·rw[zq,<-z7,eA,eB,zf,zf,zd,zd,z7,z7]
  ·rw[zf]
   rw[<-hll] at FB
   exact QgM (sp:=sp) ⟨FA.1,fun i hi=>FA.2.1 i (by omega),FA.2.2⟩ FB (zn sp)
theorem QfY(hf1:Fx f1):∀t,Qp t->(Qo t->Qdw f1 t)/\∀u∈Qd t,Qdw f1 u:=by
 have top:∀(sp out g:Nat) (S:MS) (x:Nat),sp+1<=128->g<1024->x<64->S 14 sp=Int32.ofNat x->f1 (72,56,[.ref 0,.int (Int32.ofNat (sp+1)),.int (Int32.ofNat out),.int (Int32.ofNat g)],[],S)=f1 (72,84,[.ref 0,.int (Int32.ofNat sp),.int (Int32.ofNat out),.int (Int32.ofNat g),.int (Int32.ofNat x)],[.int 1],S):=fun sp out g S x h1 h2 h3 h4=>by
  rw[Ean hf1,zb (show Int32.ofNat g<1024 from (Ql (b:=1024) (by omega) (by omega)).mpr h2),zb (show 0<Int32.ofNat (sp+1) from (Ql (a:=0) (by omega) (by omega)).mpr (by omega)),show Int32.ofNat (sp+1) + -1=Int32.ofNat sp from by rw[<-Qv,Int32.add_assoc,show (1:Int32) + -1=0 from by decide,Int32.add_zero],zb (Qt (by omega) (by omega)),Qu (by omega),h4,Qae hf1 S h3];simp only[zz]
 refine QR (fun c hc=>⟨fun _ sp out g S r a h14 l1 l2 l3=>?_,fun u hu=>absurd hu (by simp[Qd])⟩) (fun o x f w ih=>⟨fun _ sp out g S r a h14 l1 l2 l3=>?_,fun u hu=>absurd hu (by simp[Qd])⟩) (fun t f w iht ihf=>⟨fun h=>absurd h id,fun u hu=>?_⟩) ⟨fun h=>absurd h id,fun u hu=>absurd hu (by simp[Qd])⟩
 ·have hl1:out+1<=8:=l1
  have hl2:sp+1<=128:=l2
  have hl3:g+1<=1024:=l3
  have e1:S 1 c=0:=r
  rw[top sp out g S c (by omega) (by omega) (by omega) h14,Eae hf1,za (by decide),zb (Qt (by omega) (by omega)),Qu (a:=c) (by omega),e1,zb rfl,zb (show Int32.ofNat out<8 from (Ql (b:=8) (by omega) (by omega)).mpr (by omega)),zb (show Int32.ofNat c<8 from (Ql (b:=8) (by omega) (by omega)).mpr hc),zb (Qt (by omega) (by omega)),Qu (by omega),Qv,Qv]
  refine⟨_,rfl,fun d i d1 d2=>by rw[Qh,za (by omega)],fun i hi=>rfl,fun i hi=>by rw[Qh,za (by omega)],fun i hi=>?_,fun i hi=>?_⟩
  ·have hi':out+1<=i:=hi
   rw[Qh,za (by omega)]
  ·have hi':i=0:=by have:i<1:=hi;omega
   subst hi'
   rw[Qh,zb ⟨rfl,rfl⟩];rfl
 ·obtain⟨r1,r3,r4,rf⟩:=r
  have w':=w
  obtain⟨⟨w1,w2⟩,w3,⟨w4,w5⟩,w6,w7⟩:=w
  have hpl:(Qa (.op2 o (.arg x) f)).length=(Qa f).length+1:=by show (Qa f++[x]).length=_;rw[zd];rfl
  have hlv:Qe (.op2 o (.arg x) f)=Qe f:=rfl
  rw[hpl] at l2 l3
  rw[hlv] at l1
  have kpo:(Qd f).flatMap Qa=Qa f:=Qa1 Qa (fun _ _=>rfl) rfl f w7 w6
  have klv:(Qd f).flatMap Qe=Qe f:=Qa1 Qe (fun _ _=>rfl) rfl f w7 w6
  have kl:(Qd f).length<=(Qa f).length:=by
   rw[<-kpo]
   have:∀l:List Qf,(∀u∈l,Qp u/\Qo u)->l.length<=(l.flatMap Qa).length:=fun l=>by
    induction l with
    |nil=>intro _;simp
    |cons a l ih=>
     intro hl
     have h1:=QdC a (hl a (by simp)).1 (hl a (by simp)).2
     have h2:=ih fun u hu=>hl u (by simp[hu])
     rw[zf,zd,zq];omega
   exact this _ fun u hu=>⟨(Qam w7 u hu).2,(Qam w7 u hu).1⟩
  have kv:∀j,j<(Qd f).length->S 4 (8*x+j)=Int32.ofNat (Qg ((Qd f).getD j .null))/\Qg ((Qd f).getD j .null)<64/\S 20 (Qg ((Qd f).getD j .null))=QC ((Qd f).getD j .null):=fun j hj=>by
   have hm:=Q9 hj
   obtain⟨ut,uw⟩:=Qam w7 _ hm
   exact⟨r4 j hj,Qas ut uw,QcY (Q:=fun u=>S 20 (Qg u)=QC u) ut (Qcl w7 a.2 _ hm)⟩
  have fin:∀(rs:List Qf) (A:MS),rs.Perm (Qd f)->Qz (.op2 o (.arg x) f)=rs.flatMap Qz->(∀d i,¬(d=14/\sp<=i)->A d i=S d i)->Qb8 A sp rs->∃S',f1 (72,56,[.ref 0,.int (Int32.ofNat (sp+rs.length)),.int (Int32.ofNat out),.int (Int32.ofNat (g+1))],[],A)=f1 (72,56,[.ref 0,.int (Int32.ofNat sp),.int (Int32.ofNat (out+(Qe (.op2 o (.arg x) f)).length)),.int (Int32.ofNat (g+(Qa (.op2 o (.arg x) f)).length))],[],S')/\Qce S S' sp out (Qz (.op2 o (.arg x) f)):=fun rs A hp hll hA hs=>by
   have q1:(rs.flatMap Qa).length=(Qa f).length:=by rw[<-kpo];exact (zau _ hp).length_eq
   have q2:(rs.flatMap Qe).length=(Qe f).length:=by rw[<-klv];exact (zau _ hp).length_eq
   obtain⟨S',e,F⟩:=QeR rs (fun u hu=>⟨(Qam w7 u (hp.mem_iff.mp hu)).2,(Qam w7 u (hp.mem_iff.mp hu)).1,ih.2 u (hp.mem_iff.mp hu)⟩) sp out (g+1) A (fun u hu=>by
    have hu':=hp.mem_iff.mp hu
    have uw:=(Qam w7 u hu').2
    exact⟨QW (fun i=>⟨hA 1 i (by omega),hA 3 i (by omega)⟩) (fun i=>hA 4 i (by omega)) u uw (Qcp w7 rf u hu'),Qbk u uw (fun v _ _ q=>by rw[hA 20 _ (by omega)];exact q) (Qcl w7 a.2 u hu')⟩) hs (by omega) (by omega) (by omega)
   refine⟨S',?_,?_⟩
   ·rw[e,q1,q2,hlv,hpl,show g+1+(Qa f).length=g+((Qa f).length+1) from by omega]
   ·rw[hll]
    exact⟨fun d i d1 d2=>(F.1 d i d1 d2).trans (hA d i (by omega)),fun i hi=>(F.2.1 i hi).trans (hA 14 i (by omega)),fun i hi=>(F.2.2.1 i hi).trans (hA 22 i (by omega)),fun i hi=>(F.2.2.2.1 i hi).trans (hA 22 i (by omega)),F.2.2.2.2⟩
  rw[top sp out g S x (by omega) (by omega) w2 h14,Eae hf1,za (by decide),zb (Qt (by omega) w2),Qu (a:=x) (by omega),za (show ¬S 1 x=0 by rw[r1];exact Qbo)]
  have FVl:(QF f).length=(Qd f).length:=by rw[QbG f w7 w6,zi]
  have FVg:∀j,j<(Qd f).length->(QF f).getD j 0=QC ((Qd f).getD j .null):=fun j hj=>by rw[QbG f w7 w6,Qbs _ hj]
  by_cases ho:o = .iand
  ·rw[zb (show S 1 x=1 by rw[r1,QaD,zb ho]),Eem hf1,Qax hf1 w2 r3 w5];simp only[zz]
   rw[EdH hf1]
   obtain⟨A,eA,FA,GA⟩:=QeG hf1 (x:=x) (d:=(Qd f).length) (vs:=QF f) (sl:=fun j=>Qg ((Qd f).getD j .null)) w2 w5 (Int32.ofNat sp) (Qd f).length 0 0 sp S (by omega) (by omega) (by omega) (fun j hj=>⟨(kv j hj).1,(kv j hj).2.1,by rw[FVg j hj];exact (kv j hj).2.2⟩)
   have eA':f1 (73,15,[.ref 0,.int (Int32.ofNat x),.int (Int32.ofNat sp),.int (Int32.ofNat (Qd f).length),.int 0,.int (Int32.ofNat sp),.int 0],[],S)=some (some (.int (Int32.ofNat (sp+(QY (QF f) (Qd f).length (Qd f).length 0).length))),A):=eA
   rw[eA'];simp only[zz]
   rw[Edx hf1,Qv]
   have pp:=QcX (QF f) (Qd f).length
   generalize hpk:QY (QF f) (Qd f).length (Qd f).length 0=pk at GA pp eA'
   have e2:((pk.reverse).map fun i=>(Qd f).getD i .null).length=pk.length:=by rw[zi,zX]
   rw[<-e2]
   refine fin ((pk.reverse).map fun i=>(Qd f).getD i .null) A ?_ ?_ (fun d i h=>FA d i h) (Qc2 _ fun i hi=>?_)
   ·have:=((zv pk).trans pp).map fun i=>(Qd f).getD i .null
    rw[Qe7] at this;exact this
   ·show (if o = .iand then (QY (QF f) (QF f).length (QF f).length 0).reverse.flatMap fun i=>(QX f).getD i [] else _)=_
    rw[zb ho,FVl,hpk,zat]
    have:∀l:List Nat,(∀i∈l,i<(Qd f).length)->(l.flatMap fun i=>(QX f).getD i [])=l.flatMap fun i=>Qz ((Qd f).getD i .null):=fun l=>by
     induction l with
     |nil=>intro _;rfl
     |cons a l ih=>
      intro hl
      rw[zf,zf,ih fun i hi=>hl i (by simp[hi])]
      congr 1
      have ha:=hl a (by simp)
      rw[QbH f w7 w6]
      simp only[ze,List.getElem?_map,List.getElem?_eq_getElem ha,Option.map_some,Option.getD_some]
    exact this _ fun i hi=>by
     have:=pp.mem_iff.mp (zy.mp hi)
     exact zx.mp this
   ·rw[e2] at hi ⊢
    have hi2:pk.length-1-i<pk.length:=by omega
    rw[GA _ hi2]
    congr 2
    simp only[ze,List.getElem?_map,List.getElem?_reverse hi,List.getElem?_eq_getElem hi2,Option.map_some,Option.getD_some]
  ·rw[za (show ¬S 1 x=1 by rw[r1,QaD,za ho];decide),Edu hf1,Qax hf1 w2 r3 w5];simp only[zz]
   obtain⟨a4,a64,a20⟩:=kv 0 (by omega)
   obtain⟨b4,b64,b20⟩:=kv ((Qd f).length-1) (by omega)
   rw[EcR hf1,zb (show 0<Int32.ofNat (Qd f).length from (Ql (a:=0) (by omega) (by omega)).mpr (by omega)),show (0:Int32)=Int32.ofNat 0 from rfl,Q8 hf1 S w2 (by omega),a4];simp only[zz]
   rw[Ebt hf1,show Int32.ofNat (Qd f).length-1=Int32.ofNat ((Qd f).length-1) from Qbl (b:=1) (by omega),Q8 hf1 S w2 (by omega),b4];simp only[zz]
   rw[Edc hf1,QcK hf1 S a64,a20];simp only[zz]
   rw[EbH hf1,QcK hf1 S b64,b20];simp only[zz]
   rw[EeZ hf1]
   obtain⟨A,eA,FA,GA⟩:=QeJ hf1 (x:=x) (d:=(Qd f).length) (sl:=fun j=>Qg ((Qd f).getD j .null)) (v2:=Int32.ofNat sp) (v4:=Int32.ofNat (Qg ((Qd f).getD 0 .null))) (v5:=Int32.ofNat (Qg ((Qd f).getD ((Qd f).length-1) .null))) (v6:=QC ((Qd f).getD 0 .null)) (v7:=QC ((Qd f).getD ((Qd f).length-1) .null)) w2 w5 (Qd f).length 0 sp S (by omega) (by omega) (fun j hj=>(kv j hj).1)
   rw[show (0:Int32)=Int32.ofNat 0 from rfl,eA];simp only[zz]
   rw[EeN hf1,Qv]
   have LL:Qz (.op2 o (.arg x) f)=if QC ((Qd f).getD 0 .null)<QC ((Qd f).getD ((Qd f).length-1) .null) then (QX f).flatMap id else (QX f).reverse.flatMap id:=by
    show (if o = .iand then _ else if (QF f).getD 0 0<(QF f).getD ((QF f).length-1) 0 then _ else _)=_
    rw[za ho,FVl,FVg 0 (by omega),FVg _ (by omega)]
   by_cases q:QC ((Qd f).getD 0 .null)<QC ((Qd f).getD ((Qd f).length-1) .null)
   ·refine fin (Qd f) A (List.Perm.refl _) ?_ (fun d i h=>FA d i h) (Qc2 _ fun i hi=>?_)
    ·rw[LL,zb q,QbH f w7 w6,zat];rfl
    ·rw[GA _ (by omega),zb q,show (Qd f).length-1-(0+((Qd f).length-1-i))=i from by omega]
   ·rw[show (Qd f).length=(Qd f).reverse.length from by rw[zX]]
    refine fin (Qd f).reverse A (zv _) ?_ (fun d i h=>FA d i h) (Qc2 _ fun i hi=>?_)
    ·rw[LL,za q,QbH f w7 w6,<-zae,zat];rfl
    ·rw[zX] at hi ⊢
     rw[GA _ (by omega),za q,QfR hi,zD]
 ·rcases zA.mp hu with e | e
  ·subst e;exact iht.1 w.1
  ·exact ihf.2 u e
end Lst
def Qck(n:Nat)(t:Qf):Prop:=Qp t/\Qo t/\(Qa t).Nodup/\(Qe t).length=n/\n<=8
def Qcb(S:MS)(t:Qf):Prop:=S 0 11=QH t/\S 0 12=QO t/\(∀i,i<(Qz t).length->S 22 i=Int32.ofNat ((Qz t).getD i 0))/\∀i,i<(Qz t).length->S 23 ((Qz t).getD i 0)=Int32.ofNat i
theorem QcZ:∀t,Qp t->(Qe t).Sublist (Qa t):=QR
 (fun c _=>List.Sublist.refl _)
 (fun o x f _ ih=>List.Sublist.trans ih (List.sublist_append_left _ _))
 (fun t f _ iht ihf=>List.Sublist.append iht ihf) (List.Sublist.refl _)
theorem Qf2:∀t,Qp t->∀c∈Qe t,c<8:=QR
 (fun c hc x hx=>by simp only[Qe,zh] at hx;omega)
 (fun o x f _ ih=>ih)
 (fun t f _ iht ihf x hx=>by
  simp only[Qe,zc] at hx
  rcases hx with hx | hx
  ·exact iht x hx
  ·exact ihf x hx) (fun x hx=>absurd hx (by simp[Qe]))
theorem Qd4:∀t,Qp t->(Qo t->(Qa t).length+1<=2*(Qe t).length)/\(QJ t->(Qa t).length+(Qd t).length<=2*(Qe t).length):=QR
 (fun c _=>⟨fun _=>zn _,fun h=>absurd h id⟩)
 (fun o x f w ih=>⟨fun _=>by
  have h:=ih.2 w.2.2.2.1
  have h2:=w.2.2.1.1
  show (Qa f++[x]).length+1<=2*(Qe f).length
  rw[zd]
  show (Qa f).length+1+1<=_
  omega,fun h=>absurd h id⟩)
 (fun t f w iht ihf=>⟨fun h=>absurd h id,fun _=>by
  have h1:=iht.1 w.1
  have h2:=ihf.2 w.2.1
  show (Qa t++Qa f).length+((Qd f).length+1)<=2*(Qe t++Qe f).length
  rw[zd,zd];omega⟩)
 ⟨fun h=>absurd h id,fun _=>zn _⟩
theorem Qcr{n:Nat}{t:Qf}(h:Qck n t):(Qa t).length<=15:=by
 have:=(Qd4 t h.1).1 h.2.1
 have:=h.2.2.2
 omega
section Cache
variable {f1:FT1}
theorem Qgw(hf1:Fx f1){S:MS}{n:Nat}{t:Qf}(G:Qck n t)(h0:S 0 0=Int32.ofNat n)(h4:S 0 4=Int32.ofNat (Qg t))(r:QA S t)(a:Qap (fun u=>S 20 (Qg u)=QC u) t):∃S',f1 (72,0,[.ref 0],[],S)=some (none,S')/\(∀c i,c≠14->c≠22->c≠23->S' c i=S c i)/\(∀i,i<(Qz t).length->S' 22 i=Int32.ofNat ((Qz t).getD i 0))/\∀i,i<(Qz t).length->S' 23 ((Qz t).getD i 0)=Int32.ofNat i:=by
 have hp:=Qcr G
 obtain⟨w,ht,nd,hn,h8⟩:=G
 have hsl:=Qas ht w
 have lp:=Qbg w ht
 have hll:(Qz t).length=n:=by rw[lp.length_eq,hn]
 rw[Edo hf1]
 have key:=Qau (fun k=>f1 (72,2,[.ref 0,.int (Int32.ofNat k)],[],fun c i=>if (c=22\/c=23)/\i<k then -1 else S c i)) (n:=8) fun k hk=>by
  show f1 _=f1 _
  rw[EM hf1,zb (show Int32.ofNat k<8 from (Ql (b:=8) (by omega) (by omega)).mpr hk),zb (Qt (by omega) hk),Qu (by omega),Qv]
  congr 5
  funext c i
  simp only[Jvm.OM.upd]
  by_cases q:(c=22\/c=23)/\i<k+1
  ·rw[zb q]
   by_cases q1:c=23/\i=k
   ·rw[zb q1]
   rw[za q1]
   by_cases q2:c=22/\i=k
   ·rw[zb q2]
   rw[za q2,zb (by omega)]
  ·rw[za q,za (by omega),za (by omega),za (by omega)]
 have e1:f1 (72,2,[.ref 0,.int 0],[],S)=f1 (72,2,[.ref 0,.int (Int32.ofNat 8)],[],fun c i=>if (c=22\/c=23)/\i<8 then -1 else S c i):=by
  refine Eq.trans ?_ key
  show f1 _=f1 _
  congr 5
  funext c i
  rw[za (by omega)]
 rw[e1]
 have A0:∀c i,c≠22->c≠23->(fun c i=>if (c=22\/c=23)/\i<8 then -1 else S c i:MS) c i=S c i:=fun c i h1 h2=>by
  show (if (c=22\/c=23)/\i<8 then _ else _)=_
  rw[za (by omega)]
 generalize (fun c i=>if (c=22\/c=23)/\i<8 then -1 else S c i:MS)=A at A0
 rw[EM hf1,za (by decide),A0 0 4 (by decide) (by decide),h4,Qae hf1 _ hsl];simp only[zz]
 rw[EcG hf1,za (by decide),A0 0 4 (by decide) (by decide),h4]
 have B0:∀c i,c≠14->c≠22->c≠23->Jvm.OM.upd A 14 0 (Int32.ofNat (Qg t)) c i=S c i:=fun c i h1 h2 h3=>by rw[Qh,za (by omega)];exact A0 c i h2 h3
 obtain⟨D,eD,FD⟩:=(QfY hf1 t w).1 ht 0 0 0 (Jvm.OM.upd A 14 0 (Int32.ofNat (Qg t))) (QW (fun i=>⟨B0 1 i (by decide) (by decide) (by decide),B0 3 i (by decide) (by decide) (by decide)⟩) (fun i=>B0 4 i (by decide) (by decide) (by decide)) t w r) (Qbk t w (fun u _ _ q=>by rw[B0 20 _ (by decide) (by decide) (by decide)];exact q) a) rfl (by omega) (by omega) (by omega)
 have eD':f1 (72,56,[.ref 0,.int 1,.int 0,.int 0],[],Jvm.OM.upd A 14 0 (Int32.ofNat (Qg t)))=f1 (72,56,[.ref 0,.int (Int32.ofNat 0),.int (Int32.ofNat (0+(Qe t).length)),.int (Int32.ofNat (0+(Qa t).length))],[],D):=eD
 rw[eD',Ean hf1,zb (show Int32.ofNat (0+(Qa t).length)<1024 from (Ql (b:=1024) (by omega) (by omega)).mpr (by omega)),za (by decide),EcT hf1]
 have D0:D 0 0=Int32.ofNat n:=(FD.1 0 0 (by decide) (by decide)).trans ((B0 0 0 (by decide) (by decide) (by decide)).trans h0)
 have D22:∀i,i<n->D 22 i=Int32.ofNat ((Qz t).getD i 0):=fun i hi=>by
  have:=FD.2.2.2.2 i (by omega)
  rw[zD] at this;exact this
 have l8:∀i,i<n->(Qz t).getD i 0<8:=fun i hi=>by
  rw[ze,List.getElem?_eq_getElem (by omega)]
  exact Qf2 t w _ (lp.mem_iff.mp (zs _))
 have ndl:(Qz t).Nodup:=lp.nodup_iff.mpr (List.Nodup.sublist (QcZ t w) nd)
 have inj:∀i j,i<n->j<n->(Qz t).getD i 0=(Qz t).getD j 0->i=j:=fun i j hi hj e=>by
  rw[ze,List.getElem?_eq_getElem (by omega),ze,List.getElem?_eq_getElem (by omega)] at e
  exact (List.getElem_inj ndl).mp e
 have k2:∀k,k<=n->∃E,f1 (75,2,[.ref 0,.int 0],[],D)=f1 (75,2,[.ref 0,.int (Int32.ofNat k)],[],E)/\(∀c i,c≠23->E c i=D c i)/\∀i,i<k->E 23 ((Qz t).getD i 0)=Int32.ofNat i:=fun k=>by
  induction k with
  |zero=>exact fun _=>⟨D,rfl,fun _ _ _=>rfl,fun i hi=>absurd hi (by omega)⟩
  |succ k ih=>
   intro hk
   obtain⟨E,eE,FE,GE⟩:=ih (by omega)
   have c8:=l8 k (by omega)
   rw[eE,EQ hf1,FE 0 0 (by decide),D0,zb ((Ql (by omega) (by omega)).mpr (by omega)),zb (show Int32.ofNat k<8 from (Ql (b:=8) (by omega) (by omega)).mpr (by omega)),zb (Qt (by omega) (by omega)),Qu (a:=k) (by omega),FE 22 k (by decide),D22 k (by omega),za (Q0 (by omega)),zb (show Int32.ofNat _<8 from (Ql (b:=8) (by omega) (by omega)).mpr c8),zb (Qt (by omega) c8),Qu (by omega),Qv]
   refine⟨_,rfl,fun c i hc=>by rw[Qh,za (by omega)];exact FE c i hc,fun i hi=>?_⟩
   by_cases q:i=k
   ·subst q;rw[Qh,zb ⟨rfl,rfl⟩]
   ·rw[Qh,za (fun e=>q (inj i k (by omega) (by omega) e.2))];exact GE i (by omega)
 obtain⟨E,eE,FE,GE⟩:=k2 n (zn n)
 rw[eE,EQ hf1,FE 0 0 (by decide),D0,za zp];simp only[zz]
 rw[EaK hf1]
 refine⟨E,rfl,fun c i h1 h2 h3=>(FE c i h3).trans ((FD.1 c i h1 h2).trans (B0 c i h1 h2 h3)),fun i hi=>(FE 22 i (by decide)).trans (D22 i (by omega)),fun i hi=>GE i (by omega)⟩
theorem Qfc(hf1:Fx f1){S:MS}{n:Nat}{t:Qf}(G:Qck n t)(h0:S 0 0=Int32.ofNat n)(h4:S 0 4=Int32.ofNat (Qg t))(r:QA S t):∃S',f1 (66,0,[.ref 0],[],S)=some (none,S')/\(∀c i,c<13->¬(c=0/\(i=6\/i=11\/i=12))->S' c i=S c i)/\Qcb S' t:=by
 have hp:=Qcr G
 have G':=G
 obtain⟨w,ht,nd,hn,h8⟩:=G
 have hsl:=Qas ht w
 obtain⟨A,eA,FA,A6,A13⟩:=QcC hf1 w ht r h4 (by omega)
 rw[Ecy hf1,eA];simp only[zz]
 have rA:QA A t:=QW (fun i=>⟨FA 1 i (by decide) (by decide) (by decide) (by omega),FA 3 i (by decide) (by decide) (by decide) (by omega)⟩) (fun i=>FA 4 i (by decide) (by decide) (by decide) (by omega)) t w r
 have sA:Qao A 0 (Qa t) (Qa t).length:=⟨A6,by omega,by omega,fun i hi=>by rw[zD];exact A13 i hi⟩
 rw[Eep hf1,Ec5 hf1]
 obtain⟨B,eB,FB,-,AB⟩:=Qf7 hf1 t w 0 _ A nd rA sA
 have eB':f1 (69,2,[.ref 0,.int 0],[],A)=some (none,B):=by
  refine Eq.trans eB ?_
  rw[E8 hf1,(FB 0 6 (by decide) (by decide)).trans A6,zD,za zp]
 rw[eB'];simp only[zz]
 have rB:QA B t:=QW (fun i=>⟨FB 1 i (by decide) (by decide),FB 3 i (by decide) (by decide)⟩) (fun i=>FB 4 i (by decide) (by decide)) t w rA
 have sB:Qao B 0 (Qa t) (Qa t).length:=QbX (FB 0 6 (by decide) (by decide)) (fun i=>FB 13 i (by decide) (by decide)) sA
 rw[Ea3 hf1,EG hf1]
 have eC:f1 (67,4,[.ref 0,.int 1,.int 0],[],B)=some (some (.int (QH t)),B):=by
  refine Eq.trans (QeD hf1 t w 0 _ B 1 rB sB) ?_
  rw[Eh hf1,sB.1,zD,za zp,Int32.one_mul]
 rw[eC];simp only[zz]
 have hd:=QcY (Q:=fun u=>B 20 (Qg u)=QC u/\B 21 (Qg u)=QO u) ht AB
 have B4:B 0 4=Int32.ofNat (Qg t):=(FB 0 4 (by decide) (by decide)).trans ((FA 0 4 (by decide) (by decide) (by decide) (by omega)).trans h4)
 have B00:B 0 0=Int32.ofNat n:=(FB 0 0 (by decide) (by decide)).trans ((FA 0 0 (by decide) (by decide) (by decide) (by omega)).trans h0)
 rw[EcO hf1,B4,QdY hf1 _ hsl];simp only[zz]
 rw[Ee3 hf1,show Jvm.OM.upd B 0 11 (QH t) 21 (Qg t)=QO t from hd.2]
 have C0:∀c i,¬(c=0/\(i=11\/i=12))->Jvm.OM.upd (Jvm.OM.upd B 0 11 (QH t)) 0 12 (QO t) c i=B c i:=fun c i h=>by rw[Qh,za (by omega),Qh,za (by omega)]
 have C11:Jvm.OM.upd (Jvm.OM.upd B 0 11 (QH t)) 0 12 (QO t) 0 11=QH t:=rfl
 have C12:Jvm.OM.upd (Jvm.OM.upd B 0 11 (QH t)) 0 12 (QO t) 0 12=QO t:=rfl
 generalize Jvm.OM.upd (Jvm.OM.upd B 0 11 (QH t)) 0 12 (QO t)=C at C0 C11 C12
 obtain⟨D,eD,FD,D22,D23⟩:=Qgw hf1 (S:=C) G' ((C0 0 0 (by omega)).trans B00) ((C0 0 4 (by omega)).trans B4) (QW (fun i=>⟨C0 1 i (by omega),C0 3 i (by omega)⟩) (fun i=>C0 4 i (by omega)) t w rB) (Qbk t w (fun u _ _ q=>by rw[C0 20 _ (by omega)];exact q.1) AB)
 rw[eD];simp only[zz]
 rw[EaW hf1]
 refine⟨D,rfl,fun c i hc h=>?_,(FD 0 11 (by decide) (by decide) (by decide)).trans C11,(FD 0 12 (by decide) (by decide) (by decide)).trans C12,D22,D23⟩
 rw[FD c i (by omega) (by omega) (by omega),C0 c i (by omega),FB c i (by omega) (by omega),FA c i (by omega) (by omega) (by omega) (by omega)]
end Cache
def Qx(S:MS)(c a b:Nat)(g:Nat->Int32):MS:=fun c' i=>if c'=c/\a<=i/\i<b then g i else S c' i
theorem QaG(S:MS)(c a:Nat)(g:Nat->Int32):Qx S c a a g=S:=by
 funext c' i;simp only[Qx];rw[za (by omega)]
theorem Qw{S:MS}{c a b:Nat}{g:Nat->Int32}{c' i:Nat}(h:c'≠c):Qx S c a b g c' i=S c' i:=za fun q=>h q.1
theorem Qbm{S:MS}{c a b:Nat}{g:Nat->Int32}{i:Nat}(h:a<=i)(h':i<b):Qx S c a b g c i=g i:=zb ⟨rfl,h,h'⟩
theorem Qa5{S:MS}{c a b:Nat}{g:Nat->Int32}{v:Int32}(h:a<=b)(hv:v=g b):Jvm.OM.upd (Qx S c a b g) c b v=Qx S c a (b+1) g:=by
 funext c' i
 simp only[Qx,Jvm.OM.upd]
 by_cases q:c'=c/\i=b
 ·obtain⟨q1,q2⟩:=q;subst q1;subst q2;rw[zb ⟨rfl,rfl⟩,zb ⟨rfl,h,by omega⟩,hv]
 ·rw[za q]
  by_cases q':c'=c/\a<=i/\i<b
  ·rw[zb q',zb ⟨q'.1,q'.2.1,by omega⟩]
  ·rw[za q',za]
   rintro ⟨e1,e2,e3⟩
   rcases Nat.lt_or_ge i b with e | e
   ·exact q' ⟨e1,e2,e⟩
   ·exact q ⟨e1,by omega⟩
theorem Qcd{S:MS}{c a b:Nat}{g:Nat->Int32}{c' i:Nat}{v:Int32}(h:c'≠c):Jvm.OM.upd (Qx S c a b g) c' i v=Qx (Jvm.OM.upd S c' i v) c a b g:=by
 funext d j
 simp only[Qx,Jvm.OM.upd]
 by_cases q:d=c/\a<=j/\j<b
 ·rw[za (by omega),zb q,zb q]
 ·rw[za q,za q]
theorem Qe3{S:MS}{c1 c2 c3 c4 n:Nat}{g1 g2 g3 g4:Nat->Int32}{v1 v2 v3 v4:Int32}(h12:c1≠c2)(h13:c1≠c3)(h14:c1≠c4)(h23:c2≠c3)(h24:c2≠c4)(h34:c3≠c4)(e1:v1=g1 n)(e2:v2=g2 n)(e3:v3=g3 n)(e4:v4=g4 n):Jvm.OM.upd (Jvm.OM.upd (Jvm.OM.upd (Jvm.OM.upd (Qx (Qx (Qx (Qx S c1 0 n g1) c2 0 n g2) c3 0 n g3) c4 0 n g4) c1 n v1) c2 n v2) c3 n v3) c4 n v4=Qx (Qx (Qx (Qx S c1 0 (n+1) g1) c2 0 (n+1) g2) c3 0 (n+1) g3) c4 0 (n+1) g4:=by
 rw[Qcd (c':=c1) h14,Qcd (c':=c1) h13,Qcd (c':=c1) h12,Qa5 (Nat.zero_le n) e1,Qcd (c':=c2) h24,Qcd (c':=c2) h23,Qa5 (Nat.zero_le n) e2,Qcd (c':=c3) h34,Qa5 (Nat.zero_le n) e3,Qa5 (Nat.zero_le n) e4]
def Qa3(S:MS):MS:=Qx (Qx (Qx (Qx (Qx (Jvm.OM.upd S 0 5 (S 0 4)) 6 0 64 (S 1)) 7 0 64 (S 2)) 8 0 64 (S 3)) 10 0 64 fun i=>S 5 i&&&1) 9 0 512 (S 4)
def Qat(S:MS):MS:=Qx (Qx (Qx (Qx (Qx (Jvm.OM.upd S 0 4 (S 0 5)) 1 0 64 (S 6)) 2 0 64 (S 7)) 3 0 64 (S 8)) 5 0 64 fun i=>S 10 i&&&1) 4 0 512 (S 9)
section Save
variable {f1:FT1}
theorem Qfv(hf1:Fx f1)(S:MS):f1 (34,0,[.ref 0],[],S)=some (none,Qa3 S):=by
 rw[EeF hf1]
 have key:=Qau (fun n=>f1 (34,10,[.ref 0,.int (Int32.ofNat n)],[],Qx (Qx (Qx (Qx (Jvm.OM.upd S 0 5 (S 0 4)) 6 0 n (S 1)) 7 0 n (S 2)) 8 0 n (S 3)) 10 0 n fun i=>S 5 i&&&1)) (n:=64) fun n hn=>by
  show f1 _=f1 _
  rw[Eak hf1,zb (show Int32.ofNat n<64 from (Ql (b:=64) (by omega) (by omega)).mpr hn),zb (Qt (by omega) hn),Qu (by omega),Qv,Qe3 (by decide) (by decide) (by decide) (by decide) (by decide) (by decide)]
  ·rw[Qw (by decide),Qw (by decide),Qw (by decide),Qw (by decide)];rfl
  ·rw[Qw (by decide),Qw (by decide),Qw (by decide),Qw (by decide)];rfl
  ·rw[Qw (by decide),Qw (by decide),Qw (by decide),Qw (by decide)];rfl
  ·rw[Qw (by decide),Qw (by decide),Qw (by decide),Qw (by decide)];rfl
 refine Eq.trans ?_ (key.trans ?_)
 ·show _=f1 (_,_,_,_,Qx (Qx (Qx (Qx _ 6 0 0 _) 7 0 0 _) 8 0 0 _) 10 0 0 _)
  rw[QaG,QaG,QaG,QaG];rfl
 show f1 _=_
 rw[Eak hf1,za (by decide)]
 have k2:=Qau (fun n=>f1 (34,72,[.ref 0,.int (Int32.ofNat n)],[],Qx (Qx (Qx (Qx (Qx (Jvm.OM.upd S 0 5 (S 0 4)) 6 0 64 (S 1)) 7 0 64 (S 2)) 8 0 64 (S 3)) 10 0 64 fun i=>S 5 i&&&1) 9 0 n (S 4))) (n:=512) fun n hn=>by
  show f1 _=f1 _
  rw[Eal hf1,zb (show Int32.ofNat n<512 from (Ql (b:=512) (by omega) (by omega)).mpr hn),zb (Qt (by omega) hn),Qu (by omega),Qv,Qa5 (Nat.zero_le n)]
  rw[Qw (by decide),Qw (by decide),Qw (by decide),Qw (by decide),Qw (by decide)];rfl
 refine Eq.trans ?_ (k2.trans ?_)
 ·show _=f1 (_,_,_,_,Qx _ 9 0 0 _)
  rw[QaG];rfl
 show f1 _=_
 rw[Eal hf1,za (by decide)]
 rfl
theorem QdG(hf1:Fx f1)(S:MS):f1 (35,0,[.ref 0],[],S)=some (none,Qat S):=by
 rw[EcZ hf1]
 have key:=Qau (fun n=>f1 (35,10,[.ref 0,.int (Int32.ofNat n)],[],Qx (Qx (Qx (Qx (Jvm.OM.upd S 0 4 (S 0 5)) 1 0 n (S 6)) 2 0 n (S 7)) 3 0 n (S 8)) 5 0 n fun i=>S 10 i&&&1)) (n:=64) fun n hn=>by
  show f1 _=f1 _
  rw[EE hf1,zb (show Int32.ofNat n<64 from (Ql (b:=64) (by omega) (by omega)).mpr hn),zb (Qt (by omega) hn),Qu (by omega),Qv,Qe3 (by decide) (by decide) (by decide) (by decide) (by decide) (by decide)]
  ·rw[Qw (by decide),Qw (by decide),Qw (by decide),Qw (by decide)];rfl
  ·rw[Qw (by decide),Qw (by decide),Qw (by decide),Qw (by decide)];rfl
  ·rw[Qw (by decide),Qw (by decide),Qw (by decide),Qw (by decide)];rfl
  ·rw[Qw (by decide),Qw (by decide),Qw (by decide),Qw (by decide)];rfl
 refine Eq.trans ?_ (key.trans ?_)
 ·show _=f1 (_,_,_,_,Qx (Qx (Qx (Qx _ 1 0 0 _) 2 0 0 _) 3 0 0 _) 5 0 0 _)
  rw[QaG,QaG,QaG,QaG];rfl
 show f1 _=_
 rw[EE hf1,za (by decide)]
 have k2:=Qau (fun n=>f1 (35,72,[.ref 0,.int (Int32.ofNat n)],[],Qx (Qx (Qx (Qx (Qx (Jvm.OM.upd S 0 4 (S 0 5)) 1 0 64 (S 6)) 2 0 64 (S 7)) 3 0 64 (S 8)) 5 0 64 fun i=>S 10 i&&&1) 4 0 n (S 9))) (n:=512) fun n hn=>by
  show f1 _=f1 _
  rw[Eat hf1,zb (show Int32.ofNat n<512 from (Ql (b:=512) (by omega) (by omega)).mpr hn),zb (Qt (by omega) hn),Qu (by omega),Qv,Qa5 (Nat.zero_le n)]
  rw[Qw (by decide),Qw (by decide),Qw (by decide),Qw (by decide),Qw (by decide)];rfl
 refine Eq.trans ?_ (k2.trans ?_)
 ·show _=f1 (_,_,_,_,Qx _ 4 0 0 _)
  rw[QaG];rfl
 show f1 _=_
 rw[Eat hf1,za (by decide)]
 rfl
end Save
def QE(S:MS)(cell cnt:Nat)(l:List Nat):Prop:=S 0 cnt=Int32.ofNat l.length/\∀i,i<l.length->S cell i=Int32.ofNat (l.getD i 0)
theorem Qep{l:List Nat}{v:Nat}:(l++[v]).getD l.length 0=v:=by
 simp[ze]
theorem Qd0{l l':List Nat}{i:Nat}(h:i<l.length):(l++l').getD i 0=l.getD i 0:=by
 simp only[ze,List.getElem?_append_left h]
section Tools
variable {f1:FT1}
theorem QdQ(hf1:Fx f1)(S:MS){x:Nat}(hx:x<64):f1 (30,0,[.ref 0,.int (Int32.ofNat x)],[],S)=some (none,Jvm.OM.upd (Qx S 4 (8*x) (8*x+8) fun _ => -1) 3 x 0):=by
 rw[EcJ hf1,Qae hf1 S hx];simp only[zz]
 rw[EcQ hf1,za (by decide),show Int32.ofNat x*8=Int32.ofNat (8*x) from by rw[zS,<-Qbw];rfl]
 have key:=Qau (fun k=>f1 (30,16,[.ref 0,.int (Int32.ofNat x),.int (Int32.ofNat (8*x)),.int (Int32.ofNat k)],[],Qx S 4 (8*x) (8*x+k) fun _ => -1)) (n:=8) fun k hk=>by
  show f1 _=f1 _
  rw[EaI hf1,zb (show Int32.ofNat k<8 from (Ql (b:=8) (by omega) (by omega)).mpr hk),QbZ,zb (Qt (by omega) (by omega)),Qu (by omega),Qv,Qa5 (by omega) rfl]
  rfl
 refine Eq.trans ?_ (key.trans ?_)
 ·show _=f1 (_,_,_,_,Qx S 4 (8*x) (8*x) _)
  rw[QaG];rfl
 ·show f1 _=_
  rw[EaI hf1,za (by decide),zb (Qt (by omega) hx),Qu (by omega)]
theorem Qdo(hf1:Fx f1)(S:MS){x c d:Nat}(hx:x<64)(hc:c<64)(hd:d<8)(h3:S 3 x=Int32.ofNat d):f1 (29,0,[.ref 0,.int (Int32.ofNat x),.int (Int32.ofNat c)],[],S)=some (some (.int 1),Jvm.OM.upd (Jvm.OM.upd (Jvm.OM.upd S 4 (8*x+d) (Int32.ofNat c)) 3 x (Int32.ofNat (d+1))) 2 c (Int32.ofNat x)):=by
 rw[EeI hf1,Qae hf1 S hx];simp only[zz]
 rw[EbA hf1,za (by decide),Qae hf1 S hc];simp only[zz]
 rw[Eba hf1,za (by decide),zb (Qt (by omega) hx),Qu (a:=x) (by omega),h3,za (Q0 (by omega)),zb (show Int32.ofNat d<8 from (Ql (b:=8) (by omega) (by omega)).mpr hd),show Int32.ofNat x*8+Int32.ofNat d=Int32.ofNat (8*x+d) from by rw[<-QbZ,zS,<-Qbw];rfl,zb (Qt (by omega) (by omega)),zb (Qt (by omega) hc),Qu (by omega),Qu (by omega),Qv]
def Qb0(S S':MS)(x:Nat):Prop:=∀c i,c≠2->¬(c=3/\i=x)->¬(c=4/\8*x<=i/\i<8*x+8)->S' c i=S c i
theorem QdO(hf1:Fx f1){S:MS}{x:Nat}{q:List Nat}(hx:x<64)(hq:q.length<=8)(h:QE S 16 7 q)(h64:∀u∈q,u<64):∃S',f1 (53,0,[.ref 0,.int (Int32.ofNat x)],[],S)=some (some (.int 1),S')/\Qb0 S S' x/\S' 3 x=Int32.ofNat q.length/\∀i,i<q.length->S' 4 (8*x+i)=Int32.ofNat (q.getD i 0):=by
 rw[EcA hf1,Qae hf1 S hx];simp only[zz]
 rw[EdO hf1,za (by decide),h.1,za (show ¬8<Int32.ofNat q.length by rw[show (8:Int32)=Int32.ofNat 8 from rfl,Ql (by omega) (by omega)];omega),QdQ hf1 S hx];simp only[zz]
 rw[Eca hf1]
 generalize hA:Jvm.OM.upd (Qx S 4 (8*x) (8*x+8) fun _ => -1) 3 x 0=A
 have A0:Qb0 S A x:=fun c i h2 h3 h4=>by rw[<-hA,Qh,za h3,Qx,za h4]
 have A3:A 3 x=Int32.ofNat 0:=by rw[<-hA,Qh,zb ⟨rfl,rfl⟩];rfl
 have key:∀k,k<=q.length->∃B,f1 (53,26,[.ref 0,.int (Int32.ofNat x),.int 0],[],A)=f1 (53,26,[.ref 0,.int (Int32.ofNat x),.int (Int32.ofNat k)],[],B)/\Qb0 S B x/\B 3 x=Int32.ofNat k/\∀i,i<k->B 4 (8*x+i)=Int32.ofNat (q.getD i 0):=fun k=>by
  induction k with
  |zero=>exact fun _=>⟨A,rfl,A0,A3,fun i hi=>absurd hi (by omega)⟩
  |succ k ih=>
   intro hk
   obtain⟨B,eB,FB,B3,B4⟩:=ih (by omega)
   have u64:q.getD k 0<64:=by
    rw[ze,List.getElem?_eq_getElem (by omega)];exact h64 _ (zs _)
   rw[eB,EaB hf1,FB 0 7 (by decide) (by omega) (by omega),h.1,zb ((Ql (by omega) (by omega)).mpr (by omega)),zb (show Int32.ofNat k<16 from (Ql (b:=16) (by omega) (by omega)).mpr (by omega)),zb (Qt (by omega) (by omega)),Qu (by omega),FB 16 k (by decide) (by omega) (by omega),h.2 k (by omega),Qdo hf1 B hx u64 (by omega) B3];simp only[zz]
   rw[EaY hf1,za (by decide),Qv]
   refine⟨_,rfl,fun c i h2 h3 h4=>?_,?_,fun i hi=>?_⟩
   ·rw[Qh,za (by omega),Qh,za (by omega),Qh,za (by omega)];exact FB c i h2 h3 h4
   ·rw[Qh,za (by omega),Qh,zb ⟨rfl,rfl⟩]
   ·rw[Qh,za (by omega),Qh,za (by omega),Qh]
    by_cases e:i=k
    ·subst e;rw[zb ⟨rfl,rfl⟩]
    ·rw[za (by omega)];exact B4 i (by omega)
 obtain⟨B,eB,FB,B3,B4⟩:=key q.length (zn _)
 refine⟨B,?_,FB,B3,B4⟩
 rw[eB,EaB hf1,FB 0 7 (by decide) (by omega) (by omega),h.1,za zp]
theorem QbT(hf1:Fx f1){S:MS}{q:List Nat}{v:Nat}(hv:v<64)(hq:q.length<16)(h:QE S 16 7 q):∃S',f1 (50,0,[.ref 0,.int (Int32.ofNat v)],[],S)=some (none,S')/\(∀c i,c≠16->¬(c=0/\i=7)->S' c i=S c i)/\QE S' 16 7 (q++[v]):=by
 rw[EF hf1,za (Q0 (by omega)),h.1,zb (show Int32.ofNat q.length<16 from (Ql (b:=16) (by omega) (by omega)).mpr hq),zb (Qt (by omega) hq),Qu (by omega),Qv]
 refine⟨_,rfl,fun c i h1 h2=>by rw[Qh,za h2,Qh,za (by omega)],?_,fun i hi=>?_⟩
 ·rw[Qh,zb ⟨rfl,rfl⟩,zd];rfl
 ·rw[zd] at hi
  have hi':i<q.length+1:=hi
  rw[Qh,za (by omega),Qh]
  by_cases e:i=q.length
  ·subst e;rw[zb ⟨rfl,rfl⟩,Qep]
  ·rw[za (by omega),Qd0 (by omega)];exact h.2 i (by omega)
theorem Qgb(hf1:Fx f1)(S:MS){v:Int32}(hv:v<0):f1 (50,0,[.ref 0,.int v],[],S)=some (none,S):=by
 rw[EF hf1,zb hv]
theorem QgP(hf1:Fx f1){S:MS}{q l:List Nat}{y:Nat}(b:Bool)(hy:y<64)(hl:l.length<=8)(h64:∀u∈l,u<64)(hq:q.length+l.length<=16)(h3:S 3 y=Int32.ofNat l.length)(h4:∀i,i<l.length->S 4 (8*y+i)=Int32.ofNat (l.getD i 0))(h:QE S 16 7 q):∃S',f1 (52,0,[.ref 0,.int (Int32.ofNat y),.int (if b=true then 1 else 0)],[],S)=some (none,S')/\(∀c i,c≠16->¬(c=0/\i=7)->S' c i=S c i)/\QE S' 16 7 (q++if b=true then l.reverse else l):=by
 rw[Ec9 hf1,Qax hf1 hy h3 hl];simp only[zz]
 rw[EcX hf1]
 have key:∀k,k<=l.length->∃B,f1 (52,9,[.ref 0,.int (Int32.ofNat y),.int (if b=true then 1 else 0),.int (Int32.ofNat l.length),.int 0],[],S)=f1 (52,9,[.ref 0,.int (Int32.ofNat y),.int (if b=true then 1 else 0),.int (Int32.ofNat l.length),.int (Int32.ofNat k)],[],B)/\(∀c i,c≠16->¬(c=0/\i=7)->B c i=S c i)/\QE B 16 7 (q++(if b=true then l.reverse else l).take k):=fun k=>by
  induction k with
  |zero=>exact fun _=>⟨S,rfl,fun _ _ _ _=>rfl,by rw[List.take_zero,zk];exact h⟩
  |succ k ih=>
   intro hk
   obtain⟨B,eB,FB,LB⟩:=ih (by omega)
   have hlen:(if b=true then l.reverse else l).length=l.length:=by split<;>simp
   have hql:(q++(if b=true then l.reverse else l).take k).length=q.length+k:=by rw[zd,List.length_take,hlen,Nat.min_eq_left (by omega)]
   have step:∀(v:Nat) (x5:Int32),v=(if b=true then l.reverse else l).getD k 0->v<64->∃B',f1 (52,46,[.ref 0,.int (Int32.ofNat y),.int (if b=true then 1 else 0),.int (Int32.ofNat l.length),.int (Int32.ofNat k),.int x5],[.int (Int32.ofNat v)],B)=f1 (52,9,[.ref 0,.int (Int32.ofNat y),.int (if b=true then 1 else 0),.int (Int32.ofNat l.length),.int (Int32.ofNat (k+1))],[],B')/\(∀c i,c≠16->¬(c=0/\i=7)->B' c i=S c i)/\QE B' 16 7 (q++(if b=true then l.reverse else l).take (k+1)):=fun v x5 hv v64=>by
    obtain⟨D,eD,FD,LD⟩:=QbT hf1 v64 (by omega) LB
    rw[Eef hf1,eD];simp only[zz]
    rw[Ec4 hf1,Qv]
    refine⟨D,rfl,fun c i h1 h2=>(FD c i h1 h2).trans (FB c i h1 h2),?_⟩
    rw[zah,List.getElem?_eq_getElem (show k<(if b=true then l.reverse else l).length by omega),<-zG]
    have:v=(if b=true then l.reverse else l)[k]'(by omega):=by rw[hv,ze,List.getElem?_eq_getElem (by omega)];rfl
    rw[<-this];exact LD
   rw[eB,ET hf1,zb ((Ql (by omega) (by omega)).mpr (by omega)),zb (show Int32.ofNat k<8 from (Ql (b:=8) (by omega) (by omega)).mpr (by omega))]
   have g64:∀i,i<l.length->l.getD i 0<64:=fun i hi=>by
    rw[ze,List.getElem?_eq_getElem hi];exact h64 _ (zs _)
   cases b with
   |false=>
    rw[zb (by decide),Q8 hf1 B hy (by omega),FB 4 _ (by decide) (by omega),h4 k (by omega)];simp only[zz]
    exact step _ _ rfl (g64 k (by omega))
   |true=>
    rw[za (by decide),show Int32.ofNat l.length-1=Int32.ofNat (l.length-1) from Qbl (b:=1) (by omega),Qbl (by omega),Q8 hf1 B hy (by omega),FB 4 _ (by decide) (by omega),h4 _ (by omega)];simp only[zz]
    refine step _ _ ?_ (g64 _ (by omega))
    show _=l.reverse.getD k 0
    simp only[ze,List.getElem?_reverse (show k<l.length by omega)]
 obtain⟨B,eB,FB,LB⟩:=key l.length (zn _)
 refine⟨B,?_,FB,?_⟩
 ·rw[eB,ET hf1,za zp]
 ·rw[zax (by split<;>simp)] at LB;exact LB
end Tools
def Qc1(S S':MS)(g:Nat):Prop:=∀c i,c≠2->¬((c=1\/c=3\/c=5\/c=11)/\i=g)->¬(c=4/\8*g<=i/\i<8*g+8)->S' c i=S c i
section Tools2
variable {f1:FT1}
theorem QbS(hf1:Fx f1)(S:MS){x:Nat}(hx:x<64):f1 (26,0,[.ref 0,.int (Int32.ofNat x)],[],S)=some (some (.int (S 11 x)),S):=by
 rw[Eew hf1,Qae hf1 S hx];simp only[zz]
 rw[Eb6 hf1,za (by decide),zb (Qt (by omega) hx),Qu (by omega)]
theorem QgU(hf1:Fx f1){S:MS}(k lab:Int32)(h:∃i,8<=i/\i<64/\S 5 i=0):∃g S',8<=g/\g<64/\S 5 g=0/\f1 (32,0,[.ref 0,.int k,.int lab],[],S)=some (some (.int (Int32.ofNat g)),S')/\Qc1 S S' g/\S' 5 g=1/\S' 1 g=k/\S' 3 g=0/\S' 11 g=lab:=by
 rw[Ebx hf1]
 have go:∀m j,j+m=64->8<=j->(∃i,j<=i/\i<64/\S 5 i=0)->∃g S',8<=g/\g<64/\S 5 g=0/\f1 (32,3,[.ref 0,.int k,.int lab,.int (Int32.ofNat j)],[],S)=some (some (.int (Int32.ofNat g)),S')/\Qc1 S S' g/\S' 5 g=1/\S' 1 g=k/\S' 3 g=0/\S' 11 g=lab:=fun m=>by
  induction m with
  |zero=>intro j e _ ⟨i,h1,h2,_⟩;omega
  |succ m ih=>
   intro j e hj ⟨i,h1,h2,h3⟩
   rw[Eb5 hf1,zb (show Int32.ofNat j<64 from (Ql (b:=64) (by omega) (by omega)).mpr (by omega)),zb (Qt (by omega) (by omega)),Qu (by omega)]
   by_cases q:S 5 j=0
   ·rw[zb q,QdQ hf1 _ (by omega)];simp only[zz]
    rw[EcD hf1,zb (Qt (by omega) (by omega)),Qu (by omega)]
    refine⟨j,_,hj,by omega,q,rfl,fun c i h2 h3 h4=>?_,?_,?_,?_,?_⟩
    ·rw[Qh,za (by omega),Qh,za (by omega),Qh,za (by omega),Qx,za (by omega),Qh,za (by omega),Qh,za (by omega)]
    ·rw[Qh,za (by omega),Qh,za (by omega),Qh,za (by omega),Qw (by decide),Qh,za (by omega),Qh,zb ⟨rfl,rfl⟩]
    ·rw[Qh,za (by omega),Qh,za (by omega),Qh,za (by omega),Qw (by decide),Qh,zb ⟨rfl,rfl⟩]
    ·rw[Qh,za (by omega),Qh,za (by omega),Qh,zb ⟨rfl,rfl⟩]
    ·rw[Qh,zb ⟨rfl,rfl⟩]
   ·rw[za q,Qv]
    have hij:i≠j:=fun e=>q (e▸h3)
    exact ih (j+1) (by omega) (by omega) ⟨i,by omega,h2,h3⟩
 exact go 56 8 rfl (zn 8) h
theorem Qdn(hf1:Fx f1)(S:MS){y:Nat}(h8:8<=y)(hy:y<64):∃S',f1 (33,0,[.ref 0,.int (Int32.ofNat y)],[],S)=some (none,S')/\(∀c i,c≠2->¬((c=3\/c=5)/\i=y)->¬(c=4/\8*y<=i/\i<8*y+8)->S' c i=S c i)/\S' 5 y=0:=by
 rw[Ep hf1,za (show ¬Int32.ofNat y<8 by rw[show (8:Int32)=Int32.ofNat 8 from rfl,Ql (by omega) (by omega)];omega),zb (show Int32.ofNat y<64 from (Ql (b:=64) (by omega) (by omega)).mpr hy),zb (Qt (by omega) hy),Qu (by omega),QdQ hf1 _ hy];simp only[zz]
 rw[Ec3 hf1,zb (Qt (by omega) hy),Qu (by omega)]
 refine⟨_,rfl,fun c i h2 h3 h4=>?_,?_⟩
 ·rw[Qh,za (by omega),Qh,za (by omega),Qx,za (by omega),Qh,za (by omega)]
 ·rw[Qh,za (by omega),Qh,za (by omega),Qw (by decide),Qh,zb ⟨rfl,rfl⟩]
theorem Qd9(hf1:Fx f1)(S:MS){y:Int32}(h:y<8):f1 (33,0,[.ref 0,.int y],[],S)=some (none,S):=by
 rw[Ep hf1,zb h]
theorem Qfp(hf1:Fx f1){S:MS}{q l:List Nat}(hl:l.length<=8)(h64:∀u∈l,u<64)(hq:q.length+l.length<=16)(hE:QE S 17 8 l)(h:QE S 16 7 q):∃S',f1 (51,0,[.ref 0],[],S)=some (none,S')/\(∀c i,c≠16->¬(c=0/\i=7)->S' c i=S c i)/\QE S' 16 7 (q++l):=by
 rw[EdA hf1]
 have key:∀k,k<=l.length->∃B,f1 (51,2,[.ref 0,.int 0],[],S)=f1 (51,2,[.ref 0,.int (Int32.ofNat k)],[],B)/\(∀c i,c≠16->¬(c=0/\i=7)->B c i=S c i)/\QE B 16 7 (q++l.take k):=fun k=>by
  induction k with
  |zero=>exact fun _=>⟨S,rfl,fun _ _ _ _=>rfl,by rw[List.take_zero,zk];exact h⟩
  |succ k ih=>
   intro hk
   obtain⟨B,eB,FB,LB⟩:=ih (by omega)
   have hql:(q++l.take k).length=q.length+k:=by rw[zd,List.length_take,Nat.min_eq_left (by omega)]
   have v64:l.getD k 0<64:=by rw[ze,List.getElem?_eq_getElem (by omega)];exact h64 _ (zs _)
   obtain⟨D,eD,FD,LD⟩:=QbT hf1 v64 (by omega) LB
   rw[eB,EY hf1,FB 0 8 (by decide) (by omega),hE.1,zb ((Ql (by omega) (by omega)).mpr (by omega)),zb (show Int32.ofNat k<8 from (Ql (b:=8) (by omega) (by omega)).mpr (by omega)),zb (Qt (by omega) (by omega)),Qu (by omega),FB 17 k (by decide) (by omega),hE.2 k (by omega),eD];simp only[zz]
   rw[Ecd hf1,Qv]
   refine⟨D,rfl,fun c i h1 h2=>(FD c i h1 h2).trans (FB c i h1 h2),?_⟩
   rw[zah,List.getElem?_eq_getElem (show k<l.length by omega),<-zG]
   have:l.getD k 0=l[k]'(by omega):=by rw[ze,List.getElem?_eq_getElem (by omega)];rfl
   rw[this] at LD;exact LD
 obtain⟨B,eB,FB,LB⟩:=key l.length (zn _)
 refine⟨B,?_,FB,?_⟩
 ·rw[eB,EY hf1,FB 0 8 (by decide) (by omega),hE.1,za zp]
 ·rw[zax (zn _)] at LB;exact LB
def Q6(S:MS)(v:Int32)(l:List Nat):List Nat:=l.filter fun u=>decide (S 11 u=v)
theorem Qgo(hf1:Fx f1){S:MS}{x:Nat}{l:List Nat}(hx:x<64)(hl:l.length<=8)(h64:∀u∈l,u<64)(h3:S 3 x=Int32.ofNat l.length)(h4:∀i,i<l.length->S 4 (8*x+i)=Int32.ofNat (l.getD i 0))(hb:∀u∈l,S 11 u=0\/S 11 u=1\/S 11 u=2):∃S',f1 (47,0,[.ref 0,.int (Int32.ofNat x)],[],S)=some (none,S')/\(∀c i,c≠17->c≠18->c≠19->¬(c=0/\(i=8\/i=9\/i=10))->S' c i=S c i)/\QE S' 17 8 (Q6 S 0 l)/\QE S' 18 9 (Q6 S 1 l)/\QE S' 19 10 (Q6 S 2 l):=by
 rw[Ec8 hf1,Qax hf1 (S:=Jvm.OM.upd (Jvm.OM.upd (Jvm.OM.upd S 0 8 0) 0 9 0) 0 10 0) hx h3 hl];simp only[zz]
 rw[Eed hf1]
 generalize hA:Jvm.OM.upd (Jvm.OM.upd (Jvm.OM.upd S 0 8 0) 0 9 0) 0 10 0=A
 have A0:∀c i,¬(c=0/\(i=8\/i=9\/i=10))->A c i=S c i:=fun c i h=>by rw[<-hA,Qh,za (by omega),Qh,za (by omega),Qh,za (by omega)]
 have key:∀k,k<=l.length->∃B,f1 (47,23,[.ref 0,.int (Int32.ofNat x),.int (Int32.ofNat l.length),.int 0],[],A)=f1 (47,23,[.ref 0,.int (Int32.ofNat x),.int (Int32.ofNat l.length),.int (Int32.ofNat k)],[],B)/\(∀c i,c≠17->c≠18->c≠19->¬(c=0/\(i=8\/i=9\/i=10))->B c i=S c i)/\QE B 17 8 (Q6 S 0 (l.take k))/\QE B 18 9 (Q6 S 1 (l.take k))/\QE B 19 10 (Q6 S 2 (l.take k)):=fun k=>by
  induction k with
  |zero=>
   intro _
   refine⟨A,rfl,fun c i _ _ _ h=>A0 c i h,⟨?_,fun i hi=>absurd hi (by simp[Q6])⟩,⟨?_,fun i hi=>absurd hi (by simp[Q6])⟩,⟨?_,fun i hi=>absurd hi (by simp[Q6])⟩⟩<;>rw[<-hA]<;>rfl
  |succ k ih=>
   intro hk
   obtain⟨B,eB,FB,L0,L1,L2⟩:=ih (by omega)
   have hmem:l[k]'(by omega)∈l:=zs _
   have hg:l.getD k 0=l[k]'(by omega):=by rw[ze,List.getElem?_eq_getElem (by omega)];rfl
   have v64:=h64 _ hmem
   have hb':=hb _ hmem
   have ht:l.take (k+1)=l.take k++[l[k]'(by omega)]:=by rw[zah,List.getElem?_eq_getElem (show k<l.length by omega)];rfl
   have fl:∀v,Q6 S v (l.take (k+1))=Q6 S v (l.take k)++(if S 11 (l[k]'(by omega))=v then [l[k]'(by omega)] else []):=fun v=>by
    rw[ht];unfold Q6;rw[List.filter_append]
    congr 1
    by_cases e:S 11 (l[k]'(by omega))=v
    ·rw[zb e,List.filter_cons_of_pos (by simpa using e),List.filter_nil]
    ·rw[za e,List.filter_cons_of_neg (by simpa using e),List.filter_nil]
   have len:∀v,(Q6 S v (l.take k)).length<=k:=fun v=>zB (zN _ _) (by rw[List.length_take];omega)
   rw[eB,Ear hf1,zb ((Ql (by omega) (by omega)).mpr (by omega)),zb (show Int32.ofNat k<8 from (Ql (b:=8) (by omega) (by omega)).mpr (by omega)),Q8 hf1 B hx (by omega),FB 4 _ (by decide) (by decide) (by decide) (by omega),h4 k (by omega),hg];simp only[zz]
   rw[EeE hf1,QbS hf1 B v64,FB 11 _ (by decide) (by decide) (by decide) (by omega)];simp only[zz]
   rw[Eb1 hf1]
   have put:∀(cell cnt:Nat) (v:Int32),((cell=17/\cnt=8/\v=0)\/(cell=18/\cnt=9/\v=1)\/(cell=19/\cnt=10/\v=2))->S 11 (l[k]'(by omega))=v->∀m,m=(Q6 S v (l.take k)).length->(∀c i,c≠17->c≠18->c≠19->¬(c=0/\(i=8\/i=9\/i=10))->Jvm.OM.upd (Jvm.OM.upd B cell m (Int32.ofNat (l[k]'(by omega)))) 0 cnt (Int32.ofNat (m+1)) c i=S c i)/\QE (Jvm.OM.upd (Jvm.OM.upd B cell m (Int32.ofNat (l[k]'(by omega)))) 0 cnt (Int32.ofNat (m+1))) 17 8 (Q6 S 0 (l.take (k+1)))/\QE (Jvm.OM.upd (Jvm.OM.upd B cell m (Int32.ofNat (l[k]'(by omega)))) 0 cnt (Int32.ofNat (m+1))) 18 9 (Q6 S 1 (l.take (k+1)))/\QE (Jvm.OM.upd (Jvm.OM.upd B cell m (Int32.ofNat (l[k]'(by omega)))) 0 cnt (Int32.ofNat (m+1))) 19 10 (Q6 S 2 (l.take (k+1))):=fun cell cnt v hc hv m hm=>by
    have same:∀(c2 n2:Nat) (v2:Int32),v≠v2->c2≠cell->n2≠cnt->c2≠0->QE B c2 n2 (Q6 S v2 (l.take k))->QE (Jvm.OM.upd (Jvm.OM.upd B cell m (Int32.ofNat (l[k]'(by omega)))) 0 cnt (Int32.ofNat (m+1))) c2 n2 (Q6 S v2 (l.take (k+1))):=fun c2 n2 v2 h1 h2 h3 h4 hL=>by
     rw[fl v2,za (fun e=>h1 (hv.symm.trans e)),zk]
     refine⟨?_,fun i hi=>?_⟩
     ·rw[Qh,za (by omega),Qh,za (by omega)];exact hL.1
     ·rw[Qh,za (by omega),Qh,za (by omega)];exact hL.2 i hi
    have new:cell≠0->QE B cell cnt (Q6 S v (l.take k))->QE (Jvm.OM.upd (Jvm.OM.upd B cell m (Int32.ofNat (l[k]'(by omega)))) 0 cnt (Int32.ofNat (m+1))) cell cnt (Q6 S v (l.take (k+1))):=fun h4 hL=>by
     rw[fl v,zb hv]
     refine⟨?_,fun i hi=>?_⟩
     ·rw[Qh,zb ⟨rfl,rfl⟩,zd,hm];rfl
     ·rw[zd] at hi
      have hi':i<(Q6 S v (l.take k)).length+1:=hi
      rw[Qh,za (by omega),Qh]
      by_cases e:i=m
      ·rw[zb ⟨rfl,e⟩,e,hm,Qep]
      ·rw[za (by omega),Qd0 (by omega)];exact hL.2 i (by omega)
    refine⟨fun c i h1 h2 h3 h4=>?_,?_⟩
    ·rw[Qh,za (by omega),Qh,za (by omega)];exact FB c i h1 h2 h3 h4
    rcases hc with⟨rfl,rfl,rfl⟩ | ⟨rfl,rfl,rfl⟩ | ⟨rfl,rfl,rfl⟩
    ·exact⟨new (by decide) L0,same 18 9 1 (by decide) (by decide) (by decide) (by decide) L1,same 19 10 2 (by decide) (by decide) (by decide) (by decide) L2⟩
    ·exact⟨same 17 8 0 (by decide) (by decide) (by decide) (by decide) L0,new (by decide) L1,same 19 10 2 (by decide) (by decide) (by decide) (by decide) L2⟩
    ·exact⟨same 17 8 0 (by decide) (by decide) (by decide) (by decide) L0,same 18 9 1 (by decide) (by decide) (by decide) (by decide) L1,new (by decide) L2⟩
   have len0:=len 0
   have len1:=len 1
   have len2:=len 2
   rcases hb' with e | e | e
   ·rw[za (by rw[e];decide),Eay hf1,za (by rw[e];decide),Edh hf1,L0.1,zb (show Int32.ofNat _<8 from (Ql (b:=8) (by omega) (by omega)).mpr (by omega)),zb (Qt (by omega) (by omega)),Qu (by omega),Qv,Qv]
    exact⟨_,rfl,put 17 8 0 (Or.inl ⟨rfl,rfl,rfl⟩) e _ rfl⟩
   ·rw[zb e,L1.1,zb (show Int32.ofNat _<8 from (Ql (b:=8) (by omega) (by omega)).mpr (by omega)),zb (Qt (by omega) (by omega)),Qu (by omega),Qv,Qv]
    exact⟨_,rfl,put 18 9 1 (Or.inr (Or.inl ⟨rfl,rfl,rfl⟩)) e _ rfl⟩
   ·rw[za (by rw[e];decide),Eay hf1,zb e,L2.1,zb (show Int32.ofNat _<8 from (Ql (b:=8) (by omega) (by omega)).mpr (by omega)),zb (Qt (by omega) (by omega)),Qu (by omega),Qv,Qv]
    exact⟨_,rfl,put 19 10 2 (Or.inr (Or.inr ⟨rfl,rfl,rfl⟩)) e _ rfl⟩
 obtain⟨B,eB,FB,L0,L1,L2⟩:=key l.length (zn _)
 rw[zax (zn _)] at L0 L1 L2
 refine⟨B,?_,FB,L0,L1,L2⟩
 rw[eB,Ear hf1,za zp]
end Tools2
def QL(v:Int32):Nat:=if v=0 then 0 else if v=2 then 1 else 2
def Qac(r:Nat->Nat):Nat->Bool
 |0=>true
 |k+1=>Qac r k&&(k==0||decide (r (k-1)<=r k))
def Qab(r:Nat->Nat):Nat->Bool
 |0=>true
 |k+1=>Qab r k&&(k==0||decide (r k<=r (k-1)))
def Qbn(b:Bool):Int32:=if b=true then 1 else 0
section Grp
variable {f1:FT1}
theorem Qgl(hf1:Fx f1)(S:MS){x1:Int32}{cnt:Nat}(hx:(x1=0/\cnt=8)\/(x1=1/\cnt=9))(h:S 0 cnt=0):f1 (48,0,[.ref 0,.int x1],[],S)=some (some (.int (-1)),S):=by
 rw[Ed hf1]
 rcases hx with⟨rfl,rfl⟩ | ⟨rfl,rfl⟩
 ·rw[zb rfl,Eb hf1,h,za (by decide)]
 ·rw[za (by decide),Eb hf1,h,za (by decide)]
theorem QgK(hf1:Fx f1)(S:MS){x1:Int32}{cell cnt:Nat}(hx:(x1=0/\cell=17/\cnt=8)\/(x1=1/\cell=18/\cnt=9))(h:S 0 cnt=1):f1 (48,0,[.ref 0,.int x1],[],S)=some (some (.int (S cell 0)),S):=by
 rw[Ed hf1]
 rcases hx with⟨rfl,rfl,rfl⟩ | ⟨rfl,rfl,rfl⟩
 ·rw[zb rfl,Eb hf1,h,zb (by decide),zb rfl,zb rfl]
 ·rw[za (by decide),Eb hf1,h,zb (by decide),zb rfl,za (by decide)]
theorem Qfr(hf1:Fx f1){S:MS}{x1 lab:Int32}{cell cnt:Nat}{l:List Nat}(hx:(x1=0/\cell=17/\cnt=8/\lab=0)\/(x1=1/\cell=18/\cnt=9/\lab=1))(hl:2<=l.length/\l.length<=8)(h64:∀u∈l,u<64)(h:QE S cell cnt l)(hfree:∃i,8<=i/\i<64/\S 5 i=0):∃g S',8<=g/\g<64/\S 5 g=0/\f1 (48,0,[.ref 0,.int x1],[],S)=some (some (.int (Int32.ofNat g)),S')/\Qc1 S S' g/\S' 5 g=1/\S' 1 g=1/\S' 3 g=Int32.ofNat l.length/\S' 11 g=lab/\∀i,i<l.length->S' 4 (8*g+i)=Int32.ofNat (l.getD i 0):=by
 obtain⟨g,A,g8,g64,gf,eA,FA,A5,A1,A3,A11⟩:=QgU hf1 (S:=S) 1 lab hfree
 have n1:¬Int32.ofNat l.length=1:=fun e=>by
  have:=congrArg Int32.toInt e
  rw[Qak (by omega)] at this
  have l1:(1:Int32).toInt=1:=rfl
  omega
 have p0:0<Int32.ofNat l.length:=(Ql (a:=0) (by omega) (by omega)).mpr (by omega)
 have start:f1 (48,0,[.ref 0,.int x1],[],S)=f1 (48,76,[.ref 0,.int x1,.int (Int32.ofNat l.length),.int lab,.int (Int32.ofNat g),.int 0],[],A):=by
  rw[Ed hf1]
  rcases hx with⟨rfl,rfl,rfl,rfl⟩ | ⟨rfl,rfl,rfl,rfl⟩
  ·rw[zb rfl,Eb hf1,h.1,zb p0,za n1,zb rfl,eA];simp only[zz]
   rw[Eu hf1,za (Q0 (by omega))]
  ·rw[za (by decide),Eb hf1,h.1,zb p0,za n1,za (by decide),eA];simp only[zz]
   rw[Eu hf1,za (Q0 (by omega))]
 have key:∀k,k<=l.length->∃B,f1 (48,76,[.ref 0,.int x1,.int (Int32.ofNat l.length),.int lab,.int (Int32.ofNat g),.int 0],[],A)=f1 (48,76,[.ref 0,.int x1,.int (Int32.ofNat l.length),.int lab,.int (Int32.ofNat g),.int (Int32.ofNat k)],[],B)/\Qb0 A B g/\B 3 g=Int32.ofNat k/\∀i,i<k->B 4 (8*g+i)=Int32.ofNat (l.getD i 0):=fun k=>by
  induction k with
  |zero=>exact fun _=>⟨A,rfl,fun _ _ _ _ _=>rfl,A3,fun i hi=>absurd hi (by omega)⟩
  |succ k ih=>
   intro hk
   obtain⟨B,eB,FB,B3,B4⟩:=ih (by omega)
   have u64:l.getD k 0<64:=by
    rw[ze,List.getElem?_eq_getElem (by omega)];exact h64 _ (zs _)
   have hB:B cell k=Int32.ofNat (l.getD k 0):=by
    have:cell=17\/cell=18:=by rcases hx with⟨-,e,-⟩ | ⟨-,e,-⟩<;>omega
    rw[FB cell k (by omega) (by omega) (by omega),FA cell k (by omega) (by omega) (by omega)];exact h.2 k (by omega)
   rw[eB,EaD hf1,zb ((Ql (by omega) (by omega)).mpr (by omega)),zb (show Int32.ofNat k<8 from (Ql (b:=8) (by omega) (by omega)).mpr (by omega)),Qu (a:=k) (by omega),zb (Qt (by omega) (by omega))]
   have step:∃D,((f1 (29,0,[.ref 0,.int (Int32.ofNat g),.int (B cell k)],[],B)).bind fun q=>f1 (48,120,[.ref 0,.int x1,.int (Int32.ofNat l.length),.int lab,.int (Int32.ofNat g),.int (Int32.ofNat k),.int (B cell k)],q.1.toList++[],q.2))=f1 (48,76,[.ref 0,.int x1,.int (Int32.ofNat l.length),.int lab,.int (Int32.ofNat g),.int (Int32.ofNat (k+1))],[],D)/\Qb0 A D g/\D 3 g=Int32.ofNat (k+1)/\∀i,i<k+1->D 4 (8*g+i)=Int32.ofNat (l.getD i 0):=by
    rw[hB,Qdo hf1 B g64 u64 (by omega) B3];simp only[zz]
    rw[EeG hf1,Qv]
    refine⟨_,rfl,fun c i h2 h3 h4=>?_,?_,fun i hi=>?_⟩
    ·rw[Qh,za (by omega),Qh,za (by omega),Qh,za (by omega)];exact FB c i h2 h3 h4
    ·rw[Qh,za (by omega),Qh,zb ⟨rfl,rfl⟩]
    ·rw[Qh,za (by omega),Qh,za (by omega),Qh]
     by_cases e:i=k
     ·subst e;rw[zb ⟨rfl,rfl⟩]
     ·rw[za (by omega)];exact B4 i (by omega)
   rcases hx with⟨rfl,rfl,rfl,rfl⟩ | ⟨rfl,rfl,rfl,rfl⟩
   ·rw[zb rfl];exact step
   ·rw[za (by decide),zb (Qt (by omega) (by omega))];exact step
 obtain⟨B,eB,FB,B3,B4⟩:=key l.length (zn _)
 refine⟨g,B,g8,g64,gf,?_,fun c i h2 h3 h4=>?_,?_,?_,B3,?_,B4⟩
 ·rw[start,eB,EaD hf1,za zp]
 ·rw[FB c i h2 (by omega) h4];exact FA c i h2 h3 h4
 ·rw[FB 5 g (by decide) (by omega) (by omega)];exact A5
 ·rw[FB 1 g (by decide) (by omega) (by omega)];exact A1
 ·rw[FB 11 g (by decide) (by omega) (by omega)];exact A11
theorem Qf9(hf1:Fx f1)(S:MS)(v:Int32):f1 (55,0,[.ref 0,.int v],[],S)=some (some (.int (Int32.ofNat (QL v))),S):=by
 rw[EeA hf1]
 unfold QL
 split
 ·rfl
 ·split<;>rfl
theorem Qfy(hf1:Fx f1){S:MS}{x:Nat}{l:List Nat}(hx:x<64)(hl:l.length<=8)(h64:∀u∈l,u<64)(h3:S 3 x=Int32.ofNat l.length)(h4:∀i,i<l.length->S 4 (8*x+i)=Int32.ofNat (l.getD i 0)):f1 (56,0,[.ref 0,.int (Int32.ofNat x)],[],S)=some (some (.int (if Qac (fun i=>QL (S 11 (l.getD i 0))) l.length=true then 1 else if Qab (fun i=>QL (S 11 (l.getD i 0))) l.length=true then -1 else 0)),S):=by
 rw[EaO hf1,Qax hf1 hx h3 hl];simp only[zz]
 rw[Ebv hf1]
 generalize hr:(fun i=>QL (S 11 (l.getD i 0)))=r
 have r2:∀i,r i<=2:=fun i=>by rw[<-hr];show QL _<=2;unfold QL;split<;>(try split)<;>omega
 have key:=Qau (fun k=>f1 (56,17,[.ref 0,.int (Int32.ofNat x),.int (Int32.ofNat l.length),.int (Qbn (Qac r k)),.int (Qbn (Qab r k)),.int (if k=0 then -1 else Int32.ofNat (r (k-1))),.int (Int32.ofNat k)],[],S)) (n:=l.length) fun k hk=>by
  show f1 _=f1 _
  have u64:l.getD k 0<64:=by
   rw[ze,List.getElem?_eq_getElem (by omega)];exact h64 _ (zs _)
  have hrk:QL (S 11 (l.getD k 0))=r k:=by rw[<-hr]
  rw[Eaa hf1,zb ((Ql (by omega) (by omega)).mpr hk),zb (show Int32.ofNat k<8 from (Ql (b:=8) (by omega) (by omega)).mpr (by omega)),Q8 hf1 S hx (by omega),h4 k hk];simp only[zz]
  rw[EeL hf1,QbS hf1 S u64];simp only[zz]
  rw[EcW hf1,Qf9 hf1,hrk];simp only[zz]
  rw[EaJ hf1]
  have a1:=r2 k
  have a2:=r2 (k-1)
  by_cases k0:k=0
  ·subst k0
   rw[za (by decide),Ew hf1,za (by decide),Qv]
   show f1 _=f1 (_,_,[_,_,_,.int (Qbn (Qac r 0&&(true||_))),.int (Qbn (Qab r 0&&(true||_))),.int (if 0+1=0 then _ else Int32.ofNat (r 0)),_],_,_)
   rw[Bool.true_or,zaf,zaf,za (by omega)]
  ·have kp:0<Int32.ofNat k:=(Ql (a:=0) (by omega) (by omega)).mpr (by omega)
   rw[zb kp,za k0]
   have ub:Qac r (k+1)=(Qac r k&&decide (r (k-1)<=r k)):=by show (Qac r k&&(k==0||_))=_;rw[show (k==0)=false from by simpa using k0,zak]
   have db:Qab r (k+1)=(Qab r k&&decide (r k<=r (k-1))):=by show (Qab r k&&(k==0||_))=_;rw[show (k==0)=false from by simpa using k0,zak]
   have step:∀v3,v3=Qbn (Qac r (k+1))->f1 (56,69,[.ref 0,.int (Int32.ofNat x),.int (Int32.ofNat l.length),.int v3,.int (Qbn (Qab r k)),.int (Int32.ofNat (r (k-1))),.int (Int32.ofNat k),.int (Int32.ofNat (l.getD k 0)),.int (S 11 (l.getD k 0)),.int (Int32.ofNat (r k))],[],S)=f1 (56,17,[.ref 0,.int (Int32.ofNat x),.int (Int32.ofNat l.length),.int (Qbn (Qac r (k+1))),.int (Qbn (Qab r (k+1))),.int (if k+1=0 then -1 else Int32.ofNat (r (k+1-1))),.int (Int32.ofNat (k+1))],[],S):=fun v3 hv=>by
    rw[Ew hf1,zb kp,hv,Qv,za (show ¬k+1=0 by omega),Nat.add_sub_cancel]
    by_cases q:r (k-1)<r k
    ·rw[zb ((Ql (by omega) (by omega)).mpr q),db,show decide (r k<=r (k-1))=false from z9 (by omega),zaq];rfl
    ·rw[za (by rw[Ql (by omega) (by omega)];exact q),db,show decide (r k<=r (k-1))=true from zV (by omega),zaf]
   by_cases q:r k<r (k-1)
   ·rw[zb ((Ql (by omega) (by omega)).mpr q)]
    exact step 0 (by rw[ub,show decide (r (k-1)<=r k)=false from z9 (by omega),zaq];rfl)
   ·rw[za (by rw[Ql (by omega) (by omega)];exact q)]
    exact step _ (by rw[ub,show decide (r (k-1)<=r k)=true from zV (by omega),zaf])
 refine Eq.trans ?_ (key.trans ?_)
 ·rfl
 ·show f1 _=_
  rw[Eaa hf1,za zp,Ebo hf1]
  cases Qac r l.length<;>cases Qab r l.length<;>rfl
theorem Qgh(hf1:Fx f1){S:MS}{x:Nat}{l:List Nat}(hx:x<64)(hl:l.length<=8)(h64:∀u∈l,u<64)(h3:S 3 x=Int32.ofNat l.length)(h4:∀i,i<l.length->S 4 (8*x+i)=Int32.ofNat (l.getD i 0))(hne:∃i,i<l.length/\S 11 (l.getD i 0)≠0):∃a,a<l.length/\S 11 (l.getD a 0)≠0/\(∀i,i<a->S 11 (l.getD i 0)=0)/\f1 (63,0,[.ref 0,.int (Int32.ofNat x)],[],S)=some (some (.int (Int32.ofNat a)),S):=by
 rw[Ed7 hf1,Qax hf1 hx h3 hl];simp only[zz]
 rw[Eet hf1]
 have go:∀m k,k+m=l.length->(∀i,i<k->S 11 (l.getD i 0)=0)->∃a,a<l.length/\S 11 (l.getD a 0)≠0/\(∀i,i<a->S 11 (l.getD i 0)=0)/\f1 (63,8,[.ref 0,.int (Int32.ofNat x),.int (Int32.ofNat l.length),.int (Int32.ofNat k)],[],S)=some (some (.int (Int32.ofNat a)),S):=fun m=>by
  induction m with
  |zero=>intro k e h;obtain⟨i,h1,h2⟩:=hne;exact absurd (h i (by omega)) h2
  |succ m ih=>
   intro k e h
   have u64:l.getD k 0<64:=by
    rw[ze,List.getElem?_eq_getElem (by omega)];exact h64 _ (zs _)
   rw[Eev hf1,zb ((Ql (by omega) (by omega)).mpr (by omega)),zb (show Int32.ofNat k<8 from (Ql (b:=8) (by omega) (by omega)).mpr (by omega)),Q8 hf1 S hx (by omega),h4 k (by omega)];simp only[zz]
   rw[Ec6 hf1,QbS hf1 S u64];simp only[zz]
   rw[Ece hf1]
   by_cases q:S 11 (l.getD k 0)=0
   ·rw[zb q,Qv]
    exact ih (k+1) (by omega) fun i hi=>by
     by_cases e:i=k
     ·rw[e];exact q
     ·exact h i (by omega)
   ·rw[za q];exact⟨k,by omega,q,h,rfl⟩
 exact go l.length 0 (by omega) fun i hi=>absurd hi (by omega)
end Grp
section Rev
variable {f1:FT1}
theorem Qf5(hf1:Fx f1){S:MS}{x:Nat}{l:List Nat}(hx:x<64)(hl:l.length<=8)(h64:∀u∈l,u<64)(h3:S 3 x=Int32.ofNat l.length)(h4:∀i,i<l.length->S 4 (8*x+i)=Int32.ofNat (l.getD i 0))(hne:∃i,i<l.length/\S 11 (l.getD i 0)≠0):∃a,a<l.length/\S 11 (l.getD a 0)≠0/\(∀i,a<i->i<l.length->S 11 (l.getD i 0)=0)/\f1 (64,0,[.ref 0,.int (Int32.ofNat x)],[],S)=some (some (.int (Int32.ofNat a)),S):=by
 have hpos:0<l.length:=by obtain⟨i,h,-⟩:=hne;omega
 rw[EdU hf1,Qax hf1 hx h3 hl];simp only[zz]
 rw[Eci hf1,show Int32.ofNat l.length-1=Int32.ofNat (l.length-1) from Qbl (b:=1) (by omega)]
 have go:∀k,k<l.length->(∀i,k<i->i<l.length->S 11 (l.getD i 0)=0)->∃a,a<l.length/\S 11 (l.getD a 0)≠0/\(∀i,a<i->i<l.length->S 11 (l.getD i 0)=0)/\f1 (64,10,[.ref 0,.int (Int32.ofNat x),.int (Int32.ofNat l.length),.int (Int32.ofNat k)],[],S)=some (some (.int (Int32.ofNat a)),S):=fun k=>by
  induction k with
  |zero=>
   intro hk h
   obtain⟨i,h1,h2⟩:=hne
   have i0:i=0:=by
    rcases Nat.eq_zero_or_pos i with e | e
    ·exact e
    ·exact absurd (h i e h1) h2
   subst i0
   have u64:l.getD 0 0<64:=by
    rw[ze,List.getElem?_eq_getElem (by omega)];exact h64 _ (zs _)
   rw[Eaw hf1,za (Q0 (by omega)),zb (by decide),Q8 hf1 S hx (by omega),h4 0 (by omega)];simp only[zz]
   rw[EW hf1,QbS hf1 S u64];simp only[zz]
   rw[E5 hf1,za h2]
   exact⟨0,hk,h2,h,rfl⟩
  |succ k ih=>
   intro hk h
   have u64:l.getD (k+1) 0<64:=by
    rw[ze,List.getElem?_eq_getElem (by omega)];exact h64 _ (zs _)
   rw[Eaw hf1,za (Q0 (by omega)),zb (show Int32.ofNat (k+1)<8 from (Ql (b:=8) (by omega) (by omega)).mpr (by omega)),Q8 hf1 S hx (by omega),h4 (k+1) (by omega)];simp only[zz]
   rw[EW hf1,QbS hf1 S u64];simp only[zz]
   rw[E5 hf1]
   by_cases q:S 11 (l.getD (k+1) 0)=0
   ·rw[zb q,show Int32.ofNat (k+1) + -1=Int32.ofNat k from by rw[<-Qv,Int32.add_assoc,show (1:Int32) + -1=0 from by decide,Int32.add_zero]]
    exact ih (by omega) fun i h1 h2=>by
     by_cases e:i=k+1
     ·rw[e];exact q
     ·exact h i (by omega) h2
   ·rw[za q];exact⟨k+1,hk,q,h,rfl⟩
 exact go (l.length-1) (by omega) fun i h1 h2=>absurd h1 (by omega)
theorem Qef(hf1:Fx f1)(S:MS){x k:Nat}(hx:x<64)(hk:k<8)(v:Int32):f1 (25,0,[.ref 0,.int (Int32.ofNat x),.int (Int32.ofNat k),.int v],[],S)=some (none,Jvm.OM.upd S 4 (8*x+k) v):=by
 rw[EbW hf1,Qae hf1 S hx];simp only[zz]
 rw[Eeu hf1,za (by decide),za (Q0 (by omega)),zb (show Int32.ofNat k<8 from (Ql (b:=8) (by omega) (by omega)).mpr hk),show Int32.ofNat x*8+Int32.ofNat k=Int32.ofNat (8*x+k) from by rw[<-QbZ,zS,<-Qbw];rfl,zb (Qt (by omega) (by omega)),Qu (by omega)]
theorem QfG(hf1:Fx f1){S:MS}{x:Nat}{l:List Nat}(hx:x<64)(hl:l.length<=8)(h2:1<=l.length)(h3:S 3 x=Int32.ofNat l.length)(h4:∀i,i<l.length->S 4 (8*x+i)=Int32.ofNat (l.getD i 0)):∃S',f1 (54,0,[.ref 0,.int (Int32.ofNat x)],[],S)=some (none,S')/\(∀c i,¬(c=4/\8*x<=i/\i<8*x+8)->S' c i=S c i)/\∀i,i<l.length->S' 4 (8*x+i)=Int32.ofNat (l.reverse.getD i 0):=by
 rw[EaN hf1,Qax hf1 hx h3 hl];simp only[zz]
 rw[EaV hf1]
 have rv:∀i,i<l.length->l.reverse.getD i 0=l.getD (l.length-1-i) 0:=fun i hi=>by
  simp only[ze,List.getElem?_reverse hi]
 have go:∀m k B,k+m=8->(∀c i,¬(c=4/\8*x<=i/\i<8*x+8)->B c i=S c i)->(∀i,i<l.length->B 4 (8*x+i)=Int32.ofNat (if i<k\/l.length<=i+k then l.getD (l.length-1-i) 0 else l.getD i 0))->∃S',f1 (54,8,[.ref 0,.int (Int32.ofNat x),.int (Int32.ofNat l.length),.int (Int32.ofNat k)],[],B)=some (none,S')/\(∀c i,¬(c=4/\8*x<=i/\i<8*x+8)->S' c i=S c i)/\∀i,i<l.length->S' 4 (8*x+i)=Int32.ofNat (l.reverse.getD i 0):=fun m=>by
  induction m with
  |zero=>
   intro k B e F h
   have e':k=8:=by omega
   subst e'
   rw[EI hf1,za (by decide)]
   exact⟨B,rfl,F,fun i hi=>by rw[h i hi,zb (by omega),rv i hi]⟩
  |succ m ih=>
   intro k B e F h
   rw[EI hf1,zb (show Int32.ofNat k<8 from (Ql (b:=8) (by omega) (by omega)).mpr (by omega)),show Int32.ofNat l.length-1=Int32.ofNat (l.length-1) from Qbl (b:=1) (by omega)]
   by_cases hkl:k<=l.length-1
   ·rw[Qbl hkl]
    by_cases q:k<l.length-1-k
    ·rw[zb ((Ql (by omega) (by omega)).mpr q),Q8 hf1 B hx (by omega)];simp only[zz]
     rw[EbJ hf1,Q8 hf1 B hx (by omega)];simp only[zz]
     rw[Ee5 hf1,Qef hf1 B hx (by omega)];simp only[zz]
     rw[EeH hf1,Qef hf1 _ hx (by omega)];simp only[zz]
     rw[EdQ hf1,Qv]
     refine ih (k+1) _ (by omega) (fun c i hc=>?_) (fun i hi=>?_)
     ·rw[Qh,za (by omega),Qh,za (by omega)];exact F c i hc
     ·rw[Qh]
      by_cases e1:i=l.length-1-k
      ·rw[zb ⟨rfl,by omega⟩,h k (by omega),za (by omega),zb (by omega),show l.length-1-i=k from by omega]
      ·rw[za (by omega),Qh]
       by_cases e2:i=k
       ·rw[zb ⟨rfl,by omega⟩,h _ (by omega),za (by omega),zb (by omega),e2]
       ·rw[za (by omega),h i hi]
        by_cases e3:i<k\/l.length<=i+k
        ·rw[zb e3,zb (by omega)]
        ·rw[za e3,za (by omega)]
    ·rw[za (by rw[Ql (by omega) (by omega)];exact q)]
     refine⟨B,rfl,F,fun i hi=>?_⟩
     rw[h i hi,rv i hi]
     by_cases e3:i<k\/l.length<=i+k
     ·rw[zb e3]
     ·rw[za e3,show l.length-1-i=i from by omega]
   ·rw[za (by
     rw[zL,Qak (by omega),Int32.toInt_sub,Qak (by omega),Qak (by omega),bm32 (by omega) (by omega)];omega)]
    refine⟨B,rfl,F,fun i hi=>?_⟩
    rw[h i hi,rv i hi,zb (by omega)]
 exact go 8 0 S rfl (fun _ _ _=>rfl) (fun i hi=>by rw[h4 i hi,za (by omega)])
end Rev
def Qk:List Qf->Qf
 |[] => .null
 |t::l => .add t (Qk l)
theorem QaY:∀l,QJ (Qk l)
 |[]=>trivial
 |_::_=>trivial
theorem QV:∀l,Qd (Qk l)=l
 |[]=>rfl
 |t::l=>by show t::Qd (Qk l)=_;rw[QV l]
theorem Qco:∀ {l:List Qf},(∀t∈l,Qo t/\Qp t)->Qp (Qk l)
 |[],_=>trivial
 |t::l,h=>⟨(h t (by simp)).1,QaY l,(h t (by simp)).2,Qco fun u hu=>h u (by simp[hu])⟩
theorem Qcv:∀l,Qa (Qk l)=l.flatMap Qa
 |[]=>rfl
 |t::l=>by show Qa t++Qa (Qk l)=_;rw[Qcv l,zf]
theorem QaM:∀l,Qe (Qk l)=l.flatMap Qe
 |[]=>rfl
 |t::l=>by show Qe t++Qe (Qk l)=_;rw[QaM l,zf]
theorem Qcz{S:MS}:∀ {l:List Qf},(∀t∈l,QA S t)->QA S (Qk l)
 |[],_=>trivial
 |t::l,h=>⟨h t (by simp),Qcz fun u hu=>h u (by simp[hu])⟩
def Qc:Qf->Qf
 | .arg c => .arg c
 | .op2 o (.arg _) f => .op2 o (.arg 0) (Qc f)
 | .add t f => .add (Qc t) (Qc f)
 |_ => .null
theorem Qby:∀f,Qp f->QJ f->Qd (Qc f)=(Qd f).map Qc
 | .add t f,w,_=>by show Qc t::Qd (Qc f)=_;rw[Qby f w.2.2.2 w.2.1];rfl
 | .null,_,_=>rfl
theorem QaB:∀l,Qc (Qk l)=Qk (l.map Qc)
 |[]=>rfl
 |t::l=>by show Jvm.Term.add (Qc t) (Qc (Qk l))=_;rw[QaB l];rfl
theorem Qde:∀t,Qp t->Qe (Qc t)=Qe t:=QR
 (fun c _=>rfl) (fun o x f _ ih=>ih) (fun t f _ iht ihf=>by show Qe (Qc t)++Qe (Qc f)=_;rw[iht,ihf];rfl) rfl
theorem QbU:∀t,Qp t->QF (Qc t)=QF t/\Qaq (Qc t)=Qaq t/\QX (Qc t)=QX t/\QH (Qc t)=QH t:=QR
 (fun c _=>⟨rfl,rfl,rfl,rfl⟩)
 (fun o x f w ih=>by
  obtain⟨i1,i2,i3,i4⟩:=ih
  have hk:(Qd (Qc f)).length=(Qd f).length:=by rw[Qby f w.2.2.2.2 w.2.2.2.1,zi]
  refine⟨?_,?_,?_,?_⟩
  ·show ([_]:List Int32)=[_];rw[i1]
  ·show ([_]:List Int32)=[_];rw[i2]
  ·show ([_]:List (List Nat))=[_];rw[i1,i3]
  ·show QH (Qc f)*_=QH f*_;rw[i4,hk])
 (fun t f _ iht ihf=>by
  obtain⟨i1,i2,i3,i4⟩:=iht
  obtain⟨j1,j2,j3,j4⟩:=ihf
  refine⟨?_,?_,?_,?_⟩
  ·show QF (Qc t)++QF (Qc f)=_;rw[i1,j1];rfl
  ·show Qaq (Qc t)++Qaq (Qc f)=_;rw[i2,j2];rfl
  ·show QX (Qc t)++QX (Qc f)=_;rw[i3,j3];rfl
  ·show QH (Qc t)*QH (Qc f)=_;rw[i4,j4];rfl)
 ⟨rfl,rfl,rfl,rfl⟩
def Qi(b:Nat->Bool)(t:Qf):Int32:=if (Qe t).all b=true then 1 else if (Qe t).all (fun c => !b c)=true then 0 else 2
theorem Qbq(b:Nat->Bool)(t:Qf)(w:Qp t):Qi b (Qc t)=Qi b t:=by unfold Qi;rw[Qde t w]
def Qm:Qf->List Qf
 | .op2 _ (.arg _) f=>Qd f
 |_=>[]
def QI:List Qf->List Qf
 |[]=>[]
 |[u]=>[u]
 |u::v::l=>[.op2 .iand (.arg 0) (Qk (u::v::l))]
def Qb(b:Nat->Bool)(v:Int32)(l:List Qf):List Qf:=l.filter fun u=>decide (Qi b u=v)
def QaQ(b:Nat->Bool)(l:List Qf):Option Qf:=
 if 2<=(Qb b 2 l).length then none
 else if (Qb b 2 l).length=0/\((Qb b 0 l).length=0\/(Qb b 1 l).length=0) then some (.op2 .iand (.arg 0) (Qk l))
 else some (.op2 .ior (.arg 0) (Qk (QI (Qb b 0 l)++(Qb b 2 l).flatMap Qm++QI (Qb b 1 l))))
def QK(b:Nat->Bool)(l:List Qf):List Qf:=l.flatMap fun u=>if Qi b u=2 then Qm u else [u]
def QaS(b:Nat->Bool)(l:List Qf):Option Qf:=
 if 2<=(Qb b 2 l).length then none
 else if (Qb b 2 l).length=0/\((Qb b 0 l).length=0\/(Qb b 1 l).length=0) then some (.op2 .ior (.arg 0) (Qk l))
 else if Qac (fun i=>QL (Qi b (l.getD i .null))) l.length=true then some (.op2 .ior (.arg 0) (Qk (QK b l)))
 else if Qab (fun i=>QL (Qi b (l.getD i .null))) l.length=true then some (.op2 .ior (.arg 0) (Qk (QK b l.reverse)))
 else none
def QM(b:Nat->Bool):Qf->Option Qf
 | .arg c=>some (.arg c)
 | .op2 o (.arg x) f=>if Qi b (.op2 o (.arg x) f)=0 then some (.op2 o (.arg 0) (Qc f)) else (QM b f).bind fun f'=>if o = .iand then QaQ b (Qd f') else QaS b (Qd f')
 | .add t f=>(QM b t).bind fun t'=>(QM b f).bind fun f'=>some (.add t' f')
 |_=>some .null
def QaO(S S':MS)(G:List Nat):Prop:=∀c i,c≠2->¬((c=1\/c=3\/c=5\/c=11)/\i∈G)->¬(c=4/\i/8∈G)->S' c i=S c i
def Q3(S S':MS)(G:List Nat):Prop:=∀c i,c≠2->(c<16\/19<c)->¬(c=0/\7<=i/\i<=10)->¬((c=1\/c=3\/c=5\/c=11)/\i∈G)->¬(c=4/\i/8∈G)->S' c i=S c i
theorem QZ{S S':MS}{G:List Nat}(h:QaO S S' G):Q3 S S' G:=fun c i h2 _ _ h5 h6=>h c i h2 h5 h6
theorem Qbh{S A B:MS}{G H:List Nat}(h:Q3 S A G)(h':Q3 A B H):Q3 S B (G++H):=fun c i h1 h2 h3 h4 h5=>
 (h' c i h1 h2 h3 (fun q=>h4 ⟨q.1,zc.mpr (Or.inr q.2)⟩) (fun q=>h5 ⟨q.1,zc.mpr (Or.inr q.2)⟩)).trans
 (h c i h1 h2 h3 (fun q=>h4 ⟨q.1,zc.mpr (Or.inl q.2)⟩) (fun q=>h5 ⟨q.1,zc.mpr (Or.inl q.2)⟩))
theorem Qfj{S A B:MS}{G H:List Nat}(h:QaO S A G)(h':QaO A B H):QaO S B (G++H):=fun c i h1 h4 h5=>
 (h' c i h1 (fun q=>h4 ⟨q.1,zc.mpr (Or.inr q.2)⟩) (fun q=>h5 ⟨q.1,zc.mpr (Or.inr q.2)⟩)).trans
 (h c i h1 (fun q=>h4 ⟨q.1,zc.mpr (Or.inl q.2)⟩) (fun q=>h5 ⟨q.1,zc.mpr (Or.inl q.2)⟩))
theorem QgE{S S':MS}{G H:List Nat}(h:Q3 S S' G)(m:∀i∈G,i∈H):Q3 S S' H:=fun c i h1 h2 h3 h4 h5=>
 h c i h1 h2 h3 (fun q=>h4 ⟨q.1,m _ q.2⟩) (fun q=>h5 ⟨q.1,m _ q.2⟩)
theorem QgQ{S S':MS}(h:∀c i,c≠16->¬(c=0/\i=7)->S' c i=S c i):Q3 S S' []:=fun c i _ h2 h3 _ _=>h c i (by omega) (by omega)
theorem Qgi{S S':MS}{g:Nat}(h:Qc1 S S' g):QaO S S' [g]:=fun c i h1 h2 h3=>h c i h1 (fun q=>h2 ⟨q.1,by simp[q.2]⟩) (fun q=>h3 ⟨q.1,by rw[zh];omega⟩)
theorem QdU{S S':MS}{g:Nat}(h:Qb0 S S' g):QaO S S' [g]:=fun c i h1 h2 h3=>h c i h1 (fun q=>h2 ⟨Or.inr (Or.inl q.1),by simp[q.2]⟩) (fun q=>h3 ⟨q.1,by rw[zh];omega⟩)
def Qay(S S':MS)(i:Nat):Prop:=S' 1 i=S 1 i/\S' 3 i=S 3 i/\S' 5 i=S 5 i/\S' 11 i=S 11 i/\∀k,k<8->S' 4 (8*i+k)=S 4 (8*i+k)
theorem Qe2{S A B:MS}{i:Nat}(h:Qay S A i)(h':Qay A B i):Qay S B i:=
 ⟨h'.1.trans h.1,h'.2.1.trans h.2.1,h'.2.2.1.trans h.2.2.1,h'.2.2.2.1.trans h.2.2.2.1,fun k hk=>(h'.2.2.2.2 k hk).trans (h.2.2.2.2 k hk)⟩
theorem Qaf{S S':MS}{G:List Nat}(h:Q3 S S' G){i:Nat}(hi:i∉G):Qay S S' i:=
 ⟨h 1 i (by decide) (by decide) (by omega) (fun q=>hi q.2) (by omega),h 3 i (by decide) (by decide) (by omega) (fun q=>hi q.2) (by omega),h 5 i (by decide) (by decide) (by omega) (fun q=>hi q.2) (by omega),h 11 i (by decide) (by decide) (by omega) (fun q=>hi q.2) (by omega),fun k hk=>h 4 _ (by decide) (by decide) (by omega) (by omega) (fun q=>hi (by have:=q.2;rw[show (8*i+k)/8=i from by omega] at this;exact this))⟩
theorem Qbt{S S':MS}:∀t,Qp t->(∀i∈Qa t,Qay S S' i)->QA S t->QA S' t:=QR
 (fun c _ h r=>(h c (by simp[Qa])).1.trans r)
 (fun o x f w ih h r=>by
  have hx:=h x (by simp[Qa])
  have hw:=w.2.2.1.2
  exact⟨hx.1.trans r.1,hx.2.1.trans r.2.1,fun i hi=>(hx.2.2.2.2 i (by omega)).trans (r.2.2.1 i hi),ih (fun i hi=>h i (by simp only[Qa,zc];exact Or.inl hi)) r.2.2.2⟩)
 (fun t f _ ih ih' h r=>⟨ih (fun i hi=>h i (by simp only[Qa,zc];exact Or.inl hi)) r.1,ih' (fun i hi=>h i (by simp only[Qa,zc];exact Or.inr hi)) r.2⟩) (fun _ _=>trivial)
def QaH(S:MS)(m:Nat):Prop:=∃L:List Nat,L.length<=m/\∀i,8<=i->i<64->S 5 i≠0->i∈L
theorem Qg0{S:MS}{m:Nat}(h:QaH S m)(hm:m<56):∃i,8<=i/\i<64/\S 5 i=0:=by
 obtain⟨L,hL,h⟩:=h
 refine Classical.byContradiction fun q=>?_
 have sub:List.range' 8 56 ⊆ L:=fun i hi=>by
  rw[List.mem_range'] at hi
  obtain⟨j,hj,e⟩:=hi
  exact h i (by omega) (by omega) fun e0=>q ⟨i,by omega,by omega,e0⟩
 have:=List.Nodup.length_le_of_subset (List.nodup_range') sub
 rw[List.length_range'] at this
 omega
theorem QgC{S S':MS}{m g:Nat}(h:QaH S m)(e:∀i,i≠g->S' 5 i=S 5 i):QaH S' (m+1):=by
 obtain⟨L,hL,h⟩:=h
 refine⟨g::L,by simp;omega,fun i h1 h2 h3=>?_⟩
 by_cases q:i=g
 ·simp[q]
 ·exact List.mem_cons_of_mem _ (h i h1 h2 (by rw[<-e i q];exact h3))
theorem Q7{S S':MS}{m m':Nat}(h:QaH S m)(hm:m<=m')(e:∀i,S' 5 i=S 5 i\/S' 5 i=0):QaH S' m':=by
 obtain⟨L,hL,h⟩:=h
 refine⟨L,by omega,fun i h1 h2 h3=>h i h1 h2 ?_⟩
 rcases e i with q | q
 ·rw[<-q];exact h3
 ·exact absurd q h3
def QQ(S S':MS)(P:List Nat):Prop:=(∀c i,c≠1->c≠2->c≠3->c≠4->c≠5->c≠11->(c<16\/19<c)->¬(c=0/\7<=i/\i<=10)->S' c i=S c i)/\∀i,(i<8\/(i∉P/\S 5 i≠0))->Qay S S' i
theorem Qbz{S S':MS}{G P:List Nat}(h:Q3 S S' G)(hG:∀g∈G,8<=g/\(g∈P\/S 5 g=0)):QQ S S' P:=⟨fun c i h1 h2 h3 h4 h5 h6 h7 h8=>h c i h2 h7 h8 (by omega) (by omega),fun i hi=>Qaf h fun q=>by
 have:=hG i q
 rcases hi with hi | ⟨hi,h5⟩
 ·omega
 ·rcases this.2 with e | e
  ·exact hi e
  ·exact h5 e⟩
theorem Qba{S A B:MS}{P Q R:List Nat}(h:QQ S A P)(h':QQ A B Q)(hP:∀i∈P,i∈R)(hQ:∀i∈Q,8<=i->i∈R\/S 5 i=0):QQ S B R:=⟨fun c i h1 h2 h3 h4 h5 h6 h7 h8=>(h'.1 c i h1 h2 h3 h4 h5 h6 h7 h8).trans (h.1 c i h1 h2 h3 h4 h5 h6 h7 h8),fun i hi=>by
 by_cases i8:i<8
 ·exact Qe2 (h.2 i (Or.inl i8)) (h'.2 i (Or.inl i8))
 rcases hi with hi | ⟨hi,h5⟩
 ·exact absurd hi i8
 have a:=h.2 i (Or.inr ⟨fun q=>hi (hP i q),h5⟩)
 refine Qe2 a (h'.2 i (Or.inr ⟨fun q=>?_,by rw[a.2.2.1];exact h5⟩))
 rcases hQ i q (by omega) with e | e
 ·exact hi e
 ·exact h5 e⟩
theorem Qa2(S:MS)(P:List Nat):QQ S S P:=⟨fun _ _ _ _ _ _ _ _ _ _=>rfl,fun _ _=>⟨rfl,rfl,rfl,rfl,fun _ _=>rfl⟩⟩
def Q5(S S':MS)(x:Nat)(P l:List Nat)(m:Nat)(T:Qf):Prop:=Qp T/\Qo T/\Qg T=x/\QA S' T/\(Qa T).Nodup/\(∀i∈Qa T,i∈P\/(8<=i/\S 5 i=0))/\(∀i∈Qa T,8<=i->S' 5 i≠0)/\(Qe T).Perm l/\QaH S' m
theorem Qc0{S':MS}{x:Nat}{Ks:List Qf}(h4:∀i,i<(Ks.map Qg).length->S' 4 (8*x+i)=Int32.ofNat ((Ks.map Qg).getD i 0)):∀i,i<Ks.length->S' 4 (8*x+i)=Int32.ofNat (Qg (Ks.getD i .null)):=fun i hi=>by
 rw[h4 i (by rw[zi];exact hi)]
 congr 1
 simp only[ze,List.getElem?_map,List.getElem?_eq_getElem hi]
 rfl
theorem QbL{S':MS}{x:Nat}{Ks:List Qf}(h4:∀i,i<Ks.length->S' 4 (8*x+i)=Int32.ofNat (Qg (Ks.getD i .null))):∀i,i<(Ks.map Qg).length->S' 4 (8*x+i)=Int32.ofNat ((Ks.map Qg).getD i 0):=fun i hi=>by
 rw[zi] at hi
 rw[h4 i hi]
 congr 1
 simp only[ze,List.getElem?_map,List.getElem?_eq_getElem hi]
 rfl
theorem Qbe{l P G:List Nat}(h:∀a,l.count a<=P.count a+G.count a)(nP:P.Nodup)(nG:G.Nodup)(d:∀a∈G,a∉P):l.Nodup/\∀a∈l,a∈P\/a∈G:=by
 refine⟨zF.mpr fun a=>?_,fun a ha=>?_⟩
 ·have h1:=h a
  have h2:=zF.mp nP a
  have h3:=zF.mp nG a
  by_cases q:a∈G
  ·rw[List.count_eq_zero.mpr (d a q)] at h1;omega
  ·rw[List.count_eq_zero.mpr q] at h1;omega
 ·have h1:=h a
  have h2:=zw.mpr ha
  by_cases q:a∈P
  ·exact Or.inl q
  ·rw[List.count_eq_zero.mpr q] at h1
   exact Or.inr (zw.mp (by omega))
theorem QcH{S S':MS}{o:Jvm.Binary}{x m:Nat}{Ks:List Qf}{P G l:List Nat}(hx:8<=x/\x<64)(ho:o = .iand\/o = .ior)(hK:∀u∈Ks,Qo u/\Qp u/\QA S' u)(hk:2<=Ks.length/\Ks.length<=8)(h1:S' 1 x=QaD o)(h3:S' 3 x=Int32.ofNat Ks.length)(h4:∀i,i<(Ks.map Qg).length->S' 4 (8*x+i)=Int32.ofNat ((Ks.map Qg).getD i 0))(nP:P.Nodup)(nG:G.Nodup)(hG:∀g∈G,8<=g/\S 5 g=0)(hP:∀i∈P,8<=i->S 5 i≠0)(hC:∀a,(Ks.flatMap Qa++[x]).count a<=P.count a+G.count a)(hL:∀i∈Ks.flatMap Qa++[x],8<=i->S' 5 i≠0)(hV:∀a,(Ks.flatMap Qe).count a=l.count a)(hc:QaH S' m):Q5 S S' x P l m (.op2 o (.arg x) (Qk Ks)):=by
 have ep:Qa (.op2 o (.arg x) (Qk Ks))=Ks.flatMap Qa++[x]:=by show Qa (Qk Ks)++[x]=_;rw[Qcv]
 have ev:Qe (.op2 o (.arg x) (Qk Ks))=Ks.flatMap Qe:=by show Qe (Qk Ks)=_;rw[QaM]
 have N:=Qbe hC nP nG fun a ha hp=>hP a hp (hG a ha).1 (hG a ha).2
 refine⟨⟨hx,ho,by rw[QV];exact hk,QaY _,Qco fun u hu=>⟨(hK u hu).1,(hK u hu).2.1⟩⟩,trivial,rfl,⟨h1,by rw[QV];exact h3,by rw[QV];exact Qc0 h4,Qcz fun u hu=>(hK u hu).2.2⟩,by rw[ep];exact N.1,fun i hi=>?_,by rw[ep];exact hL,by rw[ev];exact zE.mpr hV,hc⟩
 rw[ep] at hi
 rcases N.2 i hi with q | q
 ·exact Or.inl q
 ·exact Or.inr (hG i q)
def Qag(b:Nat->Bool)(l:List Nat):Int32:=if l.all b=true then 1 else if l.all (fun c => !b c)=true then 0 else 2
theorem QcF{b:Nat->Bool}{l l':List Nat}(h:l.Perm l'):Qag b l=Qag b l':=by
 unfold Qag
 rw[h.all_eq,h.all_eq]
theorem QaN(b:Nat->Bool)(t:Qf):Qi b t=0\/Qi b t=1\/Qi b t=2:=by
 unfold Qi;split
 ·exact Or.inr (Or.inl rfl)
 ·split
  ·exact Or.inl rfl
  ·exact Or.inr (Or.inr rfl)
theorem QbY:∀t,Qp t->Qo t->Qe t≠[]:=fun t w h e=>by
 have:=(Qd4 t w).1 h
 rw[e] at this
 exact absurd this (by simp)
theorem QD{b:Nat->Bool}{v:Int32}{l:List Qf}{u:Qf}:u∈Qb b v l↔u∈l/\Qi b u=v:=by
 unfold Qb;rw[List.mem_filter,decide_eq_true_iff]
theorem QaP{b:Nat->Bool}{v:Int32}{l:List Qf}:Qb b v l=[]↔∀u∈l,Qi b u≠v:=by
 unfold Qb;rw[List.filter_eq_nil_iff];simp
theorem Qa8{b:Nat->Bool}{t:Qf}(h:Qi b t=1):(Qe t).all b=true:=by
 unfold Qi at h;split at h
 ·assumption
 ·split at h<;>exact absurd h (by decide)
theorem QaX{b:Nat->Bool}{t:Qf}(h:Qi b t=0):(Qe t).all (fun c => !b c)=true:=by
 unfold Qi at h;split at h
 ·exact absurd h (by decide)
 ·split at h
  ·assumption
  ·exact absurd h (by decide)
theorem Qb7{b:Nat->Bool}{t:Qf}(h:Qi b t=2):¬(Qe t).all b=true/\¬(Qe t).all (fun c => !b c)=true:=by
 unfold Qi at h;split at h
 ·exact absurd h (by decide)
 ·split at h
  ·exact absurd h (by decide)
  ·constructor<;>assumption
theorem Qar{p:Nat->Bool}{K:List Qf}:(K.flatMap Qe).all p=true↔∀u∈K,(Qe u).all p=true:=by
 simp only[zC,zt]
 exact⟨fun h u hu c hc=>h c ⟨u,hu,hc⟩,fun h c ⟨u,hu,hc⟩=>h u hu c hc⟩
theorem Qdq{b:Nat->Bool}{K:List Qf}(h0:Qb b 0 K=[])(h2:Qb b 2 K=[]):Qag b (K.flatMap Qe)=1:=by
 unfold Qag
 rw[zb]
 rw[Qar]
 intro u hu
 rcases QaN b u with e | e | e
 ·exact absurd e (QaP.mp h0 u hu)
 ·exact Qa8 e
 ·exact absurd e (QaP.mp h2 u hu)
theorem QbA{p:Nat->Bool}{l:List Nat}(hl:l≠[])(h1:l.all p=true)(h2:l.all (fun c => !p c)=true):False:=by
 cases l with
 |nil=>exact hl rfl
 |cons a l=>
  have e1:=zC.mp h1 a (by simp)
  have e2:=zC.mp h2 a (by simp)
  rw[e1] at e2;exact absurd e2 (by decide)
theorem Qd8{b:Nat->Bool}{K:List Qf}(hK:∀u∈K,Qo u/\Qp u)(hn:K≠[])(h0:Qb b 1 K=[])(h2:Qb b 2 K=[]):Qag b (K.flatMap Qe)=0:=by
 have ha:∀u∈K,(Qe u).all (fun c => !b c)=true:=fun u hu=>by
  rcases QaN b u with e | e | e
  ·exact QaX e
  ·exact absurd e (QaP.mp h0 u hu)
  ·exact absurd e (QaP.mp h2 u hu)
 unfold Qag
 rw[za,zb (Qar.mpr ha)]
 intro q
 cases K with
 |nil=>exact hn rfl
 |cons u K=>
  have hu:=hK u (by simp)
  exact QbA (QbY u hu.2 hu.1) (Qar.mp q u (by simp)) (ha u (by simp))
theorem Qe6{b:Nat->Bool}{K:List Qf}(hK:∀u∈K,Qo u/\Qp u)(h:Qb b 2 K≠[]\/(Qb b 0 K≠[]/\Qb b 1 K≠[])):Qag b (K.flatMap Qe)=2:=by
 have ex:∀v,Qb b v K≠[]->∃u∈K,Qi b u=v:=fun v hv=>by
  obtain⟨u,hu⟩:=zao _ hv
  exact⟨u,(QD.mp hu).1,(QD.mp hu).2⟩
 unfold Qag
 rw[za,za]
 ·intro q
  rw[Qar] at q
  rcases h with h | ⟨-,h⟩
  ·obtain⟨u,hu,e⟩:=ex 2 h;exact (Qb7 e).2 (q u hu)
  ·obtain⟨u,hu,e⟩:=ex 1 h;exact QbA (QbY u (hK u hu).2 (hK u hu).1) (Qa8 e) (q u hu)
 ·intro q
  rw[Qar] at q
  rcases h with h | ⟨h,-⟩
  ·obtain⟨u,hu,e⟩:=ex 2 h;exact (Qb7 e).1 (q u hu)
  ·obtain⟨u,hu,e⟩:=ex 0 h;exact QbA (QbY u (hK u hu).2 (hK u hu).1) (q u hu) (QaX e)
theorem Qa0(b:Nat->Bool)(g:Qf->List Nat)(a:Nat):∀K:List Qf,(K.flatMap g).count a=((Qb b 0 K).flatMap g).count a+((Qb b 2 K).flatMap g).count a+((Qb b 1 K).flatMap g).count a
 |[]=>rfl
 |u::K=>by
  have ih:=Qa0 b g a K
  have st:∀v,Qb b v (u::K)=if Qi b u=v then u::Qb b v K else Qb b v K:=fun v=>by
   unfold Qb;rw[List.filter_cons]
   by_cases e:Qi b u=v
   ·rw[zb (by simpa using e),zb e]
   ·rw[za (by simpa using e),za e]
  rw[st 0,st 1,st 2,zf,zg]
  rcases QaN b u with e | e | e
  ·rw[e,zb rfl,za (by decide),za (by decide),zf,zg];omega
  ·rw[e,zb rfl,za (by decide),za (by decide),zf,zg];omega
  ·rw[e,zb rfl,za (by decide),za (by decide),zf,zg];omega
theorem QaT:∀l:List Qf,(∀u∈l,Qo u/\Qp u)->l.length<=(l.flatMap Qe).length
 |[],_=>zn _
 |u::l,h=>by
  have ih:=QaT l fun v hv=>h v (by simp[hv])
  have hu:=h u (by simp)
  have:=zZ.mpr (QbY u hu.2 hu.1)
  rw[zf,zd,zq];omega
theorem Qbp(b:Nat->Bool)(v:Int32)(K:List Qf)(hK:∀u∈K,Qp u):Qb b v (K.map Qc)=(Qb b v K).map Qc:=by
 unfold Qb
 rw[List.filter_map]
 congr 1
 refine List.filter_congr fun u hu=>?_
 show decide (Qi b (Qc u)=v)=_
 rw[Qbq b u (hK u hu)]
theorem Qfw{S:MS}{b:Nat->Bool}(v:Int32)(K:List Qf)(hK:∀u∈K,S 11 (Qg u)=Qi b u):Q6 S v (K.map Qg)=(Qb b v K).map Qg:=by
 unfold Qb Q6
 rw[List.filter_map]
 congr 1
 refine List.filter_congr fun u hu=>?_
 show decide (S 11 (Qg u)=v)=_
 rw[hK u hu]
theorem Qaw{b:Nat->Bool}:∀ {y:Qf},Qo y->Qp y->Qi b y=2->(8<=Qg y/\Qg y<64)/\(2<=(Qm y).length/\(Qm y).length<=8)/\(∀u∈Qm y,Qo u/\Qp u)/\Qa y=(Qm y).flatMap Qa++[Qg y]/\Qe y=(Qm y).flatMap Qe/\Qm (Qc y)=(Qm y).map Qc/\∀S,QA S y->(∀u∈Qm y,QA S u)/\S 3 (Qg y)=Int32.ofNat (Qm y).length/\∀i,i<(Qm y).length->S 4 (8*Qg y+i)=Int32.ofNat (Qg ((Qm y).getD i .null))
 | .arg c,_,w,h=>by
  exfalso
  have h2:=Qb7 h
  simp only[Qe,List.all_cons,List.all_nil,zaf] at h2
  cases e:b c
  ·exact h2.2 (by rw[e];rfl)
  ·exact h2.1 e
 | .op2 o (.arg x) f,_,w,h=>by
  obtain⟨w1,w3,w4,w6,w7⟩:=w
  refine⟨w1,w4,Qam w7,?_,(Qa1 Qe (fun _ _=>rfl) rfl f w7 w6).symm,Qby f w7 w6,fun S r=>⟨Qcp w7 r.2.2.2,r.2.1,r.2.2.1⟩⟩
  show Qa f++[x]=(Qd f).flatMap Qa++[x]
  rw[Qa1 Qa (fun _ _=>rfl) rfl f w7 w6]
def Qai(S:MS)(b:Nat->Bool)(o:Jvm.Binary)(x:Nat)(K:List Qf)(m:Nat):Prop:=(8<=x/\x<64)/\(∀u∈K,Qo u/\Qp u/\QA S u/\S 11 (Qg u)=Qi b u)/\(2<=K.length/\K.length<=8)/\S 1 x=QaD o/\S 3 x=Int32.ofNat K.length/\(∀i,i<K.length->S 4 (8*x+i)=Int32.ofNat (Qg (K.getD i .null)))/\(K.flatMap Qa++[x]).Nodup/\(∀i∈K.flatMap Qa++[x],8<=i->S 5 i≠0)/\(K.flatMap Qe).length<=8/\QaH S m
theorem QfN{S S':MS}{b:Nat->Bool}{o:Jvm.Binary}{x:Nat}{K:List Qf}{m:Nat}(h:∀c i,(c=1\/c=3\/c=4\/c=5\/c=11)->S' c i=S c i)(k:Qai S b o x K m):Qai S' b o x K m:=by
 obtain⟨k1,k2,k3,k4,k5,k6,k7,k8,k9,k10⟩:=k
 have h1:=fun i=>h 1 i (by decide)
 have h3:=fun i=>h 3 i (by decide)
 have h4:=fun i=>h 4 i (by decide)
 have h5:=fun i=>h 5 i (by decide)
 have h11:=fun i=>h 11 i (by decide)
 refine⟨k1,fun u hu=>⟨(k2 u hu).1,(k2 u hu).2.1,QW (fun i=>⟨h1 i,h3 i⟩) h4 u (k2 u hu).2.1 (k2 u hu).2.2.1,(h11 _).trans (k2 u hu).2.2.2⟩,k3,(h1 x).trans k4,(h3 x).trans k5,fun i hi=>(h4 _).trans (k6 i hi),k7,fun i hi h8=>by rw[h5];exact k8 i hi h8,k9,Q7 k10 (zn _) fun i=>Or.inl (h5 i)⟩
theorem Qa9{S S':MS}{cell cnt:Nat}{l:List Nat}(h0:S' 0 cnt=S 0 cnt)(h:∀i,S' cell i=S cell i)(L:QE S cell cnt l):QE S' cell cnt l:=⟨h0.trans L.1,fun i hi=>(h i).trans (L.2 i hi)⟩
theorem Qaa{n:Nat}(h:n<100):Int32.ofNat n=0↔n=0:=⟨fun e=>by
 have:=congrArg Int32.toInt e
 rw[Qak (by omega)] at this
 have l1:(0:Int32).toInt=0:=rfl
 omega,fun e=>by rw[e];rfl⟩
theorem QgR{n:Nat}(h:n<100):Int32.ofNat n=1↔n=1:=⟨fun e=>by
 have:=congrArg Int32.toInt e
 rw[Qak (by omega)] at this
 have l1:(1:Int32).toInt=1:=rfl
 omega,fun e=>by rw[e];rfl⟩
theorem Qbc{l:List Qf}(h:∀u∈l,Qo u/\Qp u):∀v∈l.map Qg,v<64:=fun v hv=>by
 obtain⟨u,hu,e⟩:=z8.mp hv
 rw[<-e];exact Qas (h u hu).1 (h u hu).2
section Inner
variable {f1:FT1}
theorem QdF(hf1:Fx f1){S:MS}{x1 lab:Int32}{cell cnt:Nat}{L:List Qf}{m:Nat}(hx:(x1=0/\cell=17/\cnt=8/\lab=0)\/(x1=1/\cell=18/\cnt=9/\lab=1))(hl:L.length<=8)(hL:∀u∈L,Qo u/\Qp u/\QA S u)(h:QE S cell cnt (L.map Qg))(hc:QaH S m)(hm:m<56)(live:∀i∈L.flatMap Qa,8<=i->S 5 i≠0):∃v R G S',f1 (48,0,[.ref 0,.int x1],[],S)=some (some (.int v),S')/\QaO S S' G/\(∀g∈G,8<=g/\g<64/\S 5 g=0/\S' 5 g≠0)/\G.Nodup/\QaH S' (m+1)/\(∀u∈R,Qo u/\Qp u/\QA S' u)/\QI (L.map Qc)=R.map Qc/\R.flatMap Qe=L.flatMap Qe/\R.flatMap Qa=L.flatMap Qa++G/\((R=[]/\v = -1)\/∃r,R=[r]/\v=Int32.ofNat (Qg r))/\(L≠[]->R≠[])/\(2<=L.length->0<=v):=by
 match L,hl,hL,h,live with
 |[],_,_,h,_=>
  exact⟨-1,[],[],S,Qgl hf1 S (by rcases hx with⟨a,-,c,-⟩ | ⟨a,-,c,-⟩;exact Or.inl ⟨a,c⟩;exact Or.inr ⟨a,c⟩) h.1,fun _ _ _ _ _=>rfl,fun g hg=>absurd hg (by simp),zaA,Q7 hc (by omega) fun i=>Or.inl rfl,fun u hu=>absurd hu (by simp),rfl,rfl,rfl,Or.inl ⟨rfl,rfl⟩,fun q=>absurd rfl q,fun q=>absurd q (by simp)⟩
 |[u],_,hL,h,_=>
  refine⟨_,[u],[],S,QgK hf1 S (cell:=cell) (by rcases hx with⟨a,e,c,-⟩ | ⟨a,e,c,-⟩;exact Or.inl ⟨a,e,c⟩;exact Or.inr ⟨a,e,c⟩) h.1,fun _ _ _ _ _=>rfl,fun g hg=>absurd hg (by simp),zaA,Q7 hc (by omega) fun i=>Or.inl rfl,hL,rfl,rfl,(zk _).symm,Or.inr ⟨u,rfl,h.2 0 (by simp)⟩,fun _=>by simp,fun q=>absurd q (by simp)⟩
 |u::v::L,hl,hL,h,live=>
  have h64:=Qbc (l:=u::v::L) fun w hw=>⟨(hL w hw).1,(hL w hw).2.1⟩
  have hlen:((u::v::L).map Qg).length=(u::v::L).length:=zi _
  obtain⟨g,S',g8,g64,gf,e,F,G5,G1,G3,G11,G4⟩:=Qfr hf1 hx (l:=(u::v::L).map Qg) ⟨by simp,by rw[hlen];exact hl⟩ h64 h (Qg0 hc hm)
  have C:=Qgi F
  refine⟨_,[.op2 .iand (.arg g) (Qk (u::v::L))],[g],S',e,C,fun g' hg=>?_,by simp,QgC (g:=g) hc fun i hi=>F 5 i (by decide) (by omega) (by omega),fun t ht=>?_,?_,?_,?_,Or.inr ⟨_,rfl,rfl⟩,fun _=>by simp,fun _=>?_⟩
  ·rw[zh] at hg
   rw[hg];exact⟨g8,g64,gf,by rw[G5];decide⟩
  ·rw[zh] at ht
   subst ht
   refine⟨trivial,⟨⟨g8,g64⟩,Or.inl rfl,by rw[QV];exact⟨by simp,hl⟩,QaY _,Qco fun w hw=>⟨(hL w hw).1,(hL w hw).2.1⟩⟩,G1,?_,?_,Qcz fun w hw=>?_⟩
   ·rw[QV,G3,hlen]
   ·rw[QV];exact Qc0 G4
   ·refine Qbt w (hL w hw).2.1 (fun i hi=>Qaf (QZ C) fun q=>?_) (hL w hw).2.2
    rw[zh] at q
    exact live i (zt.mpr ⟨w,hw,hi⟩) (by omega) (by rw[q];exact gf)
  ·show [Jvm.Term.op2 _ _ (Qk ((u::v::L).map Qc))]=[Jvm.Term.op2 _ _ (Qc (Qk (u::v::L)))]
   rw[QaB]
  ·show Qe (Qk (u::v::L))++[]=_
   rw[QaM,zk]
  ·show (Qa (Qk (u::v::L))++[g])++[]=_
   rw[Qcv,zk]
  ·exact Int32.not_lt.mp (Q0 (by omega))
theorem QcL(hf1:Fx f1){S:MS}{q:List Nat}{v:Int32}{R:List Qf}(hR:∀u∈R,Qo u/\Qp u)(hv:(R=[]/\v = -1)\/∃r,R=[r]/\v=Int32.ofNat (Qg r))(hq:q.length<16)(h:QE S 16 7 q):∃S',f1 (50,0,[.ref 0,.int v],[],S)=some (none,S')/\(∀c i,c≠16->¬(c=0/\i=7)->S' c i=S c i)/\QE S' 16 7 (q++R.map Qg):=by
 rcases hv with⟨e,ev⟩ | ⟨r,e,ev⟩
 ·subst e ev
  exact⟨S,Qgb hf1 S (by decide),fun _ _ _ _=>rfl,by rw[List.map_nil,zk];exact h⟩
 ·subst e ev
  exact QbT hf1 (Qas (hR r (by simp)).1 (hR r (by simp)).2) hq h
theorem QbV(hf1:Fx f1){S:MS}{b:Nat->Bool}{q:List Nat}{y:Qf}(bk:Bool)(ht:Qo y)(w:Qp y)(hb:Qi b y=2)(r:QA S y)(hq:q.length+(Qm y).length<=16)(h:QE S 16 7 q):∃S',f1 (52,0,[.ref 0,.int (Int32.ofNat (Qg y)),.int (if bk=true then 1 else 0)],[],S)=some (none,S')/\(∀c i,c≠16->¬(c=0/\i=7)->S' c i=S c i)/\QE S' 16 7 (q++(if bk=true then (Qm y).reverse else Qm y).map Qg):=by
 obtain⟨k1,k2,k3,k4,k5,k6,k7⟩:=Qaw ht w hb
 obtain⟨r1,r3,r4⟩:=k7 S r
 have hlen:((Qm y).map Qg).length=(Qm y).length:=zi _
 obtain⟨S',e,F,L⟩:=QgP hf1 bk (l:=(Qm y).map Qg) k1.2 (by rw[hlen];exact k2.2) (Qbc k3) (by rw[hlen];exact hq) (by rw[hlen];exact r3) (QbL r4) h
 refine⟨S',e,F,?_⟩
 cases bk with
 |false=>exact L
 |true=>
  show QE S' 16 7 (q++(Qm y).reverse.map Qg)
  rw[zae];exact L
theorem Qdv(hf1:Fx f1){S:MS}{b:Nat->Bool}{o:Jvm.Binary}{x:Nat}{K:List Qf}{m:Nat}(k:Qai S b o x K m):∃S',f1 (47,0,[.ref 0,.int (Int32.ofNat x)],[],S)=some (none,S')/\Q3 S S' []/\Qai S' b o x K m/\QE S' 17 8 ((Qb b 0 K).map Qg)/\QE S' 18 9 ((Qb b 1 K).map Qg)/\QE S' 19 10 ((Qb b 2 K).map Qg):=by
 have k':=k
 obtain⟨k1,k2,k3,k4,k5,k6,k7,k8,k9,k10⟩:=k
 have hlen:(K.map Qg).length=K.length:=zi _
 obtain⟨S',e,F,L0,L1,L2⟩:=Qgo hf1 (l:=K.map Qg) k1.2 (by rw[hlen];exact k3.2) (Qbc fun u hu=>⟨(k2 u hu).1,(k2 u hu).2.1⟩) (by rw[hlen];exact k5) (QbL k6) (fun v hv=>by
  obtain⟨u,hu,e⟩:=z8.mp hv
  rw[<-e,(k2 u hu).2.2.2];exact QaN b u)
 rw[Qfw _ K fun u hu=>(k2 u hu).2.2.2] at L0 L1 L2
 exact⟨S',e,fun c i h1 h2 h3 _ _=>F c i (by omega) (by omega) (by omega) (by omega),QfN (fun c i hc=>F c i (by omega) (by omega) (by omega) (by omega)) k',L0,L1,L2⟩
end Inner
theorem Qbi{S S':MS}{G:List Nat}{L:List Qf}(h:∀u∈L,Qo u/\Qp u/\QA S u)(C:Q3 S S' G)(d:∀i∈L.flatMap Qa,i∉G):∀u∈L,Qo u/\Qp u/\QA S' u:=fun u hu=>
 ⟨(h u hu).1,(h u hu).2.1,Qbt u (h u hu).2.1 (fun i hi=>Qaf C (d i (zt.mpr ⟨u,hu,hi⟩))) (h u hu).2.2⟩
theorem Qd3{b:Nat->Bool}:∀ {Y:List Qf},(∀y∈Y,Qo y/\Qp y/\Qi b y=2)->(Y.map Qc).flatMap Qm=(Y.flatMap Qm).map Qc/\(∀a,(Y.flatMap Qa).count a=((Y.flatMap Qm).flatMap Qa).count a+(Y.map Qg).count a)/\Y.flatMap Qe=(Y.flatMap Qm).flatMap Qe/\∀u∈Y.flatMap Qm,Qo u/\Qp u
 |[],_=>⟨rfl,fun _=>rfl,rfl,fun u hu=>absurd hu (by simp)⟩
 |y::Y,h=>by
  obtain⟨i1,i2,i3,i4⟩:=Qd3 (Y:=Y) fun u hu=>h u (by simp[hu])
  obtain⟨y1,y2,y3⟩:=h y (by simp)
  obtain⟨k1,k2,k3,k4,k5,k6,-⟩:=Qaw y1 y2 y3
  refine⟨?_,fun a=>?_,?_,fun u hu=>?_⟩
  ·rw[zO,zf,zf,zr,i1,k6]
  ·rw[zf,zf,zj,zO,zg,zg,i2 a,k4,zg,show (Qg y::Y.map Qg).count a=[Qg y].count a+(Y.map Qg).count a from by rw[<-zg];rfl]
   omega
  ·rw[zf,zf,zj,i3,k5]
  ·rw[zf,zc] at hu
   rcases hu with hu | hu
   ·exact k3 u hu
   ·exact i4 u hu
theorem Qc6(b:Nat->Bool)(o:Jvm.Binary)(x:Nat)(Ks:List Qf):Qi b (.op2 o (.arg x) (Qk Ks))=Qag b (Ks.flatMap Qe):=by
 unfold Qi Qag
 rw[show Qe (.op2 o (.arg x) (Qk Ks))=Ks.flatMap Qe from QaM Ks]
theorem QdR{S A S':MS}{b:Nat->Bool}{o:Jvm.Binary}{x m:Nat}{K:List Qf}(ho:o = .iand\/o = .ior)(k:Qai A b o x K m)(C:Q3 S A [])(h:∀c i,¬(c=11/\i=x)->S' c i=A c i):Q5 S S' x (K.flatMap Qa++[x]) (K.flatMap Qe) (m+2) (.op2 o (.arg x) (Qk K))/\QQ S S' (K.flatMap Qa++[x]):=by
 obtain⟨k1,k2,k3,k4,k5,k6,k7,k8,k9,k10⟩:=k
 have h5:∀i,A 5 i=S 5 i:=fun i=>(Qaf C (by simp)).2.2.1
 refine⟨QcH (G:=[]) k1 ho (fun u hu=>⟨(k2 u hu).1,(k2 u hu).2.1,QW (fun i=>⟨h 1 i (by omega),h 3 i (by omega)⟩) (fun i=>h 4 i (by omega)) u (k2 u hu).2.1 (k2 u hu).2.2.1⟩) k3 ((h 1 x (by omega)).trans k4) ((h 3 x (by omega)).trans k5) (QbL fun i hi=>(h 4 _ (by omega)).trans (k6 i hi)) k7 zaA (fun g hg=>absurd hg (by simp)) (fun i hi h8=>by rw[<-h5];exact k8 i hi h8) (fun a=>Nat.le_add_right _ _) (fun i hi h8=>by rw[h 5 i (by omega)];exact k8 i hi h8) (fun _=>rfl) (Q7 k10 (by omega) fun i=>Or.inl (h 5 i (by omega))),?_⟩
 refine Qbz (G:=[]++[x]) (Qbh C (B:=S') (H:=[x]) fun c i h1 h2 h3 h4 h5=>h c i fun q=>h4 ⟨by omega,by simp[q.2]⟩) fun g hg=>?_
 rw[zac,zh] at hg
 rw[hg];exact⟨k1.1,Or.inl (by simp)⟩
section InnerP
variable {f1:FT1}
theorem Qf1(hf1:Fx f1){A:MS}{b:Nat->Bool}{x m:Nat}{K:List Qf}(k:Qai A b .iand x K m)(hm:m<54)(LE:QE A 17 8 ((Qb b 0 K).map Qg))(LF:QE A 18 9 ((Qb b 1 K).map Qg))(LY:QE A 19 10 ((Qb b 2 K).map Qg))(y1:(Qb b 2 K).length<=1)(hp:Qb b 2 K≠[]\/(Qb b 0 K≠[]/\Qb b 1 K≠[])):∃S',f1 (57,61,[.ref 0,.int (Int32.ofNat x)],[],A)=some (some (.int 1),S')/\(∃H,Q3 A S' H/\∀g∈H,8<=g/\(g∈K.flatMap Qa++[x]\/A 5 g=0))/\S' 11 x=2/\∃Ks,Q5 A S' x (K.flatMap Qa++[x]) (K.flatMap Qe) (m+2) (.op2 .ior (.arg x) (Qk Ks))/\Ks.map Qc=QI ((Qb b 0 K).map Qc)++((Qb b 2 K).map Qc).flatMap Qm++QI ((Qb b 1 K).map Qc):=by
 obtain⟨k1,k2,k3,k4,k5,k6,k7,k8,k9,k10⟩:=k
 have pv:=Qa0 b Qe
 have pp:=Qa0 b Qa
 have mE:∀v,∀u∈Qb b v K,Qo u/\Qp u/\QA A u:=fun v u hu=>⟨(k2 u (QD.mp hu).1).1,(k2 u (QD.mp hu).1).2.1,(k2 u (QD.mp hu).1).2.2.1⟩
 have mY:∀y∈Qb b 2 K,Qo y/\Qp y/\Qi b y=2:=fun y hy=>⟨(mE 2 y hy).1,(mE 2 y hy).2.1,(QD.mp hy).2⟩
 have lnE:∀v,(Qb b v K).length<=8:=fun v=>zB (zN _ _) k3.2
 have inK:∀v,∀i∈(Qb b v K).flatMap Qa,i∈K.flatMap Qa++[x]:=fun v i hi=>by
  obtain⟨u,hu,h⟩:=zt.mp hi
  exact zc.mpr (Or.inl (zt.mpr ⟨u,(QD.mp hu).1,h⟩))
 have pv0:=fun a=>pv a K
 have pp0:=fun a=>pp a K
 have mE0:=mE 0
 have mE1:=mE 1
 have mE2:=mE 2
 have ln0:=lnE 0
 have ln1:=lnE 1
 have in0:=inK 0
 have in1:=inK 1
 have in2:=inK 2
 clear mE lnE inK pv pp
 generalize Qb b 0 K=E at *
 generalize Qb b 1 K=F at *
 generalize Qb b 2 K=Y at *
 obtain⟨Y1,Y2,Y3,Y4⟩:=Qd3 mY
 have hy:∃yv,((Y=[]/\yv = -1)\/∃y,Y=[y]/\yv=Int32.ofNat (Qg y))/\f1 (57,61,[.ref 0,.int (Int32.ofNat x)],[],A)=(f1 (48,0,[.ref 0,.int 0],[],A)).bind fun q=>f1 (57,85,[.ref 0,.int (Int32.ofNat x),.int yv],q.1.toList++[],q.2):=by
  rw[Eej hf1,LY.1]
  match Y,y1,LY with
  |[],_,_=>exact⟨-1,Or.inl ⟨rfl,rfl⟩,by rw[za (by decide)]⟩
  |[y],_,LY=>exact⟨_,Or.inr ⟨y,rfl,rfl⟩,by rw[zb (show Int32.ofNat (List.map Qg [y]).length=1 from rfl),LY.2 0 (by simp)];rfl⟩
  |_::_::_,h,_=>exact absurd h (by simp)
 obtain⟨yv,hyv,e61⟩:=hy
 rw[e61]
 obtain⟨v0,R0,G0,B,eB,CB,fB,nB,cB,mR0,sR0,lR0,pR0,hv0,ne0,-⟩:=QdF hf1 (Or.inl ⟨rfl,rfl,rfl,rfl⟩) ln0 mE0 LE k10 (by omega) fun i hi=>k8 i (in0 i hi)
 rw[eB];simp only[zz]
 have dB:∀i,i∈K.flatMap Qa++[x]->i∉G0:=fun i hi q=>k8 i hi (fB i q).1 (fB i q).2.2.1
 have B5:∀i,i∉G0->B 5 i=A 5 i:=fun i hi=>(Qaf (QZ CB) hi).2.2.1
 obtain⟨v1,R1,G1,D,eD,CD,fD,nD,cD,mR1,sR1,lR1,pR1,hv1,ne1,-⟩:=QdF hf1 (S:=B) (L:=F) (m:=m+1) (Or.inr ⟨rfl,rfl,rfl,rfl⟩) ln1 (Qbi mE1 (QZ CB) fun i hi=>dB i (in1 i hi)) (Qa9 (CB 0 9 (by decide) (by omega) (by omega)) (fun i=>CB 18 i (by decide) (by omega) (by omega)) LF) cB (by omega) fun i hi h8=>by rw[B5 i (dB i (in1 i hi))];exact k8 i (in1 i hi) h8
 rw[EdM hf1,eD];simp only[zz]
 have dD:∀i,i∈K.flatMap Qa++[x]->i∉G1:=fun i hi q=>k8 i hi (fD i q).1 (by rw[<-B5 i (dB i hi)];exact (fD i q).2.2.1)
 have dG:∀i∈G0,i∉G1:=fun i hi q=>(fB i hi).2.2.2 (fD i q).2.2.1
 have D5:∀i,i∉G1->D 5 i=B 5 i:=fun i hi=>(Qaf (QZ CD) hi).2.2.1
 have mR0':=Qbi mR0 (QZ CD) fun i hi=>by
  rw[pR0,zc] at hi
  rcases hi with hi | hi
  ·exact dD i (in0 i hi)
  ·exact dG i hi
 have CAD:=Qbh (QZ CB) (QZ CD)
 have mY':=Qbi mE2 CAD fun i hi=>by
  rw[zc,not_or];exact⟨dB i (in2 i hi),dD i (in2 i hi)⟩
 have nv:∀ {v:Int32} {R:List Qf},((R=[]/\v = -1)\/∃r,R=[r]/\v=Int32.ofNat (Qg r))->(∀u∈R,Qo u/\Qp u)->¬v < -1:=fun h hR=>by
  rcases h with⟨-,e⟩ | ⟨r,e',e⟩
  ·rw[e];decide
  ·have:=Qas (hR r (by rw[e'];simp)).1 (hR r (by rw[e'];simp)).2
   intro q
   rw[e,zL,Qak (by omega)] at q
   have:(-1:Int32).toInt = -1:=rfl
   omega
 have tR0:=fun u hu=>(⟨(mR0 u hu).1,(mR0 u hu).2.1⟩:Qo u/\Qp u)
 have tR1:=fun u hu=>(⟨(mR1 u hu).1,(mR1 u hu).2.1⟩:Qo u/\Qp u)
 have ll:∀ {v:Int32} {R:List Qf},((R=[]/\v = -1)\/∃r,R=[r]/\v=Int32.ofNat (Qg r))->R.length<=1:=fun h=>by
  rcases h with⟨e,-⟩ | ⟨r,e,-⟩<;>rw[e]<;>simp
 have l0:=ll hv0
 have l1:=ll hv1
 have lk:(Y.flatMap Qm).length<=8:=by
  match Y,y1,mY with
  |[],_,_=>simp
  |[y],_,h=>rw[zf,zo,zk];exact (Qaw (h y (by simp)).1 (h y (by simp)).2.1 (h y (by simp)).2.2).2.1.2
  |_::_::_,h,_=>exact absurd h (by simp)
 rw[Ec1 hf1,za (nv hv0 tR0),za (nv hv1 tR1),Ea hf1];simp only[zz]
 obtain⟨D2,e2,F2,L2⟩:=QcL hf1 (S:=Jvm.OM.upd D 0 7 0) (q:=[]) tR0 hv0 (by simp) ⟨rfl,fun i hi=>absurd hi (by simp)⟩
 rw[zac] at L2
 rw[Eb2 hf1,e2];simp only[zz]
 have F2':∀c i,c≠16->¬(c=0/\i=7)->D2 c i=D c i:=fun c i h1 h2=>by rw[F2 c i h1 h2,Qh,za h2]
 have st3:∃D3,f1 (57,115,[.ref 0,.int (Int32.ofNat x),.int yv,.int v0,.int v1],[],D2)=f1 (57,125,[.ref 0,.int (Int32.ofNat x),.int yv,.int v0,.int v1],[],D3)/\(∀c i,c≠16->¬(c=0/\i=7)->D3 c i=D c i)/\QE D3 16 7 (R0.map Qg++(Y.flatMap Qm).map Qg):=by
  rw[Eb8 hf1]
  rcases hyv with⟨e,ev⟩ | ⟨y,e,ev⟩
  ·subst e ev
   rw[zb (by decide)]
   exact⟨D2,rfl,F2',by rw[zo,List.map_nil,zk];exact L2⟩
  ·subst e ev
   obtain⟨h1,h2,h3⟩:=mY y (by simp)
   have r2:QA D2 y:=QW (fun i=>⟨F2' 1 i (by decide) (by omega),F2' 3 i (by decide) (by omega)⟩) (fun i=>F2' 4 i (by decide) (by omega)) y h2 (mY' y (by simp)).2.2
   have hkl:=(Qaw h1 h2 h3).2.1.2
   obtain⟨D3,e3,F3,L3⟩:=QbV hf1 false h1 h2 h3 r2 (by rw[zi];omega) L2
   have e3':f1 (52,0,[.ref 0,.int (Int32.ofNat (Qg y)),.int 0],[],D2)=some (none,D3):=e3
   have:=Qas h1 h2
   rw[za (Q0 (by omega)),e3'];simp only[zz]
   refine⟨D3,rfl,fun c i h1 h2=>(F3 c i h1 h2).trans (F2' c i h1 h2),?_⟩
   rw[zf,zo,zk];exact L3
 obtain⟨D3,e3,F3,L3⟩:=st3
 obtain⟨D4,e4,F4,L4⟩:=QcL hf1 tR1 hv1 (by rw[zd,zi,zi];omega) L3
 rw[e3,Edj hf1,e4];simp only[zz]
 have F4':∀c i,c≠16->¬(c=0/\i=7)->D4 c i=D c i:=fun c i h1 h2=>(F4 c i h1 h2).trans (F3 c i h1 h2)
 rw[<-zr,<-zr] at L4
 have sKs:(R0++Y.flatMap Qm++R1).map Qc=QI (E.map Qc)++(Y.map Qc).flatMap Qm++QI (F.map Qc):=by
  rw[zr,zr,sR0,sR1,Y1]
 have cKs:∀a,((R0++Y.flatMap Qm++R1).flatMap Qa++[x]++Y.map Qg).count a=(K.flatMap Qa++[x]).count a+(G0++G1).count a:=fun a=>by
  have h1:=pp0 a
  have h2:=Y2 a
  rw[zj,zj,pR0,pR1]
  simp only[zg] at h1 h2 ⊢
  omega
 have vKs:∀a,((R0++Y.flatMap Qm++R1).flatMap Qe).count a=(K.flatMap Qe).count a:=fun a=>by
  rw[zj,zj,lR0,lR1,<-Y3,pv0 a]
  simp only[zg]
 have tKs:∀u∈R0++Y.flatMap Qm++R1,Qo u/\Qp u:=fun u hu=>by
  rw[zc,zc] at hu
  rcases hu with (hu | hu) | hu
  ·exact tR0 u hu
  ·exact Y4 u hu
  ·exact tR1 u hu
 have nKs:2<=(R0++Y.flatMap Qm++R1).length:=by
  rw[zd,zd]
  match Y,y1,mY,hp with
  |[],_,_,hp=>
   rcases hp with hp | ⟨p0,p1⟩
   ·exact absurd rfl hp
   ·have:=zZ.mpr (ne0 p0)
    have:=zZ.mpr (ne1 p1)
    omega
  |[y],_,h,_=>
   rw[zf,zo,zk]
   have:=(Qaw (h y (by simp)).1 (h y (by simp)).2.1 (h y (by simp)).2.2).2.1.1
   omega
  |_::_::_,h,_,_=>exact absurd h (by simp)
 have rKs:∀u∈R0++Y.flatMap Qm++R1,Qo u/\Qp u/\QA D u:=fun u hu=>by
  rw[zc,zc] at hu
  rcases hu with (hu | hu) | hu
  ·exact mR0' u hu
  ·obtain⟨y,hy,hu'⟩:=zt.mp hu
   obtain⟨h1,h2,h3⟩:=mY y hy
   exact⟨(Y4 u hu).1,(Y4 u hu).2,((Qaw h1 h2 h3).2.2.2.2.2.2 D (mY' y hy).2.2).1 u hu'⟩
  ·exact mR1 u hu
 generalize R0++Y.flatMap Qm++R1=Ks at *
 have lKs:Ks.length<=8:=by
  have h1:=QaT Ks tKs
  have h2:=(zE.mpr vKs).length_eq
  omega
 have slK:(Ks.map Qg).length=Ks.length:=zi _
 have P0:=Qbe (l:=Ks.flatMap Qa++[x]++Y.map Qg) (P:=K.flatMap Qa++[x]) (G:=G0++G1) (fun a=>Nat.le_of_eq (cKs a)) k7 (zl.mpr ⟨nB,nD,fun a h1 c h2 q=>dG a h1 (q▸h2)⟩) (fun a ha hK=>by
  rcases zc.mp ha with q | q
  ·exact dB a hK q
  ·exact dD a hK q)
 obtain⟨P1,P2⟩:=P0
 obtain⟨P3,-,P4⟩:=zl.mp P1
 obtain⟨-,-,P5⟩:=zl.mp P3
 rw[EcN hf1,zb (Qt (by omega) k1.2),Qu (by omega)]
 generalize hD5:Jvm.OM.upd (Jvm.OM.upd D4 1 x 2) 11 x 2=D5'
 have F5:∀c i,c≠16->¬(c=0/\i=7)->¬(c=1/\i=x)->¬(c=11/\i=x)->D5' c i=D c i:=fun c i h1 h2 h3 h4=>by
  rw[<-hD5,Qh,za h4,Qh,za h3];exact F4' c i h1 h2
 have L5:QE D5' 16 7 (Ks.map Qg):=Qa9 (by rw[<-hD5];rfl) (fun i=>by rw[<-hD5];rfl) L4
 obtain⟨D6,e6,F6,D63,D64⟩:=QdO hf1 k1.2 (by rw[slK];exact lKs) L5 (Qbc tKs)
 rw[e6];simp only[zz]
 rw[EdR hf1,za (by decide)]
 have st7:∃D7,f1 (33,0,[.ref 0,.int yv],[],D6)=some (none,D7)/\QaO D6 D7 (Y.map Qg)/\(∀i,D7 5 i=D6 5 i\/D7 5 i=0):=by
  rcases hyv with⟨e,ev⟩ | ⟨y,e,ev⟩
  ·subst e ev
   exact⟨D6,Qd9 hf1 D6 (by decide),fun _ _ _ _ _=>rfl,fun i=>Or.inl rfl⟩
  ·subst e ev
   obtain⟨h1,h2,h3⟩:=mY y (by simp)
   have hs:=(Qaw h1 h2 h3).1
   obtain⟨D7,e7,F7,D75⟩:=Qdn hf1 D6 hs.1 hs.2
   refine⟨D7,e7,fun c i g1 g2 g3=>F7 c i g1 (fun q=>g2 ⟨by omega,by simp[q.2]⟩) (fun q=>g3 ⟨q.1,by rw[zO,List.map_nil,zh];omega⟩),fun i=>?_⟩
   by_cases q:i=Qg y
   ·rw[q];exact Or.inr D75
   ·exact Or.inl (F7 5 i (by decide) (by omega) (by omega))
 obtain⟨D7,e7,C7,D75⟩:=st7
 rw[e7];simp only[zz]
 rw[EbT hf1]
 have xY:x∉Y.map Qg:=fun q=>P4 x (by simp) x q rfl
 have C6:=QdU F6
 have s57:Q3 D D7 ([x]++Y.map Qg):=by
  refine Qbh (A:=D6) (fun c i h1 h2 h3 h4 h5=>?_) (QZ C7)
  rw[C6 c i h1 h4 h5]
  exact F5 c i (by omega) (by omega) (fun q=>h4 ⟨by omega,by simp[q.2]⟩) (fun q=>h4 ⟨by omega,by simp[q.2]⟩)
 have x7:Qay D6 D7 x:=Qaf (QZ C7) xY
 have f7:∀i,i∉Y.map Qg->D7 5 i=D 5 i:=fun i hi=>by
  rw[(Qaf (QZ C7) hi).2.2.1,F6 5 i (by decide) (by omega) (by omega),F5 5 i (by decide) (by omega) (by omega) (by omega)]
 refine⟨D7,rfl,⟨G0++G1++([x]++Y.map Qg),Qbh CAD s57,fun g hg=>?_⟩,?_,Ks,?_,sKs⟩
 ·rcases zc.mp hg with q | q
  ·have hA:A 5 g=0/\8<=g:=by
    rcases zc.mp q with q | q
    ·exact⟨(fB g q).2.2.1,(fB g q).1⟩
    ·exact⟨by rw[<-B5 g fun q'=>dG g q' q];exact (fD g q).2.2.1,(fD g q).1⟩
   exact⟨hA.2,Or.inr hA.1⟩
  ·rcases zc.mp q with q | q
   ·rw[zh] at q
    rw[q];exact⟨k1.1,Or.inl (by simp)⟩
   ·obtain⟨y,hy,e⟩:=z8.mp q
    obtain⟨h1,h2,h3⟩:=mY y hy
    rw[<-e]
    exact⟨(Qaw h1 h2 h3).1.1,Or.inl (in2 _ (zt.mpr ⟨y,hy,QcN y h2 h1⟩))⟩
 ·rw[x7.2.2.2.1,F6 11 x (by decide) (by omega) (by omega),<-hD5,Qh,zb ⟨rfl,rfl⟩]
 ·refine QcH (G:=G0++G1) k1 (Or.inr rfl) (Qbi rKs s57 fun i hi q=>?_) ⟨nKs,lKs⟩ ?_ ?_ (fun i hi=>?_) k7 (zl.mpr ⟨nB,nD,fun a h1 c h2 q=>dG a h1 (q▸h2)⟩) (fun g q=>?_) k8 (fun a=>?_) (fun i hi h8=>?_) vKs (Q7 cD (by omega) fun i=>?_)
  ·rcases zc.mp q with q | q
   ·exact P5 i hi x (by simp) (zh.mp q)
   ·exact P4 i (zc.mpr (Or.inl hi)) i q rfl
  ·rw[x7.1,F6 1 x (by decide) (by omega) (by omega),<-hD5,Qh,za (by omega),Qh,zb ⟨rfl,rfl⟩];rfl
  ·rw[x7.2.1,D63,slK]
  ·rw[slK] at hi
   rw[x7.2.2.2.2 i (by omega)];exact D64 i (by rw[slK];exact hi)
  ·rcases zc.mp q with q | q
   ·exact⟨(fB g q).1,(fB g q).2.2.1⟩
   ·exact⟨(fD g q).1,by rw[<-B5 g fun q'=>dG g q' q];exact (fD g q).2.2.1⟩
  ·have:=cKs a
   rw[zg] at this
   omega
  ·rw[f7 i fun q=>P4 i hi i q rfl]
   rcases P2 i (zc.mpr (Or.inl hi)) with q | q
   ·rw[D5 i (dD i q),B5 i (dB i q)];exact k8 i q h8
   ·by_cases q1:i∈G1
    ·exact (fD i q1).2.2.2
    ·rw[D5 i q1]
     rcases zc.mp q with q | q
     ·exact (fB i q).2.2.2
     ·exact absurd q q1
  ·rcases D75 i with q | q
   ·exact Or.inl (by rw[q,F6 5 i (by decide) (by omega) (by omega),F5 5 i (by decide) (by omega) (by omega) (by omega)])
   ·exact Or.inr q
end InnerP
theorem QfS(b:Nat->Bool)(K:List Qf)(hK:∀u∈K,Qp u):QaQ b (K.map Qc)=if 2<=(Qb b 2 K).length then none else if (Qb b 2 K).length=0/\((Qb b 0 K).length=0\/(Qb b 1 K).length=0) then some (.op2 .iand (.arg 0) (Qk (K.map Qc))) else some (.op2 .ior (.arg 0) (Qk (QI ((Qb b 0 K).map Qc)++((Qb b 2 K).map Qc).flatMap Qm++QI ((Qb b 1 K).map Qc)))):=by
 unfold QaQ
 rw[Qbp b 2 K hK,Qbp b 1 K hK,Qbp b 0 K hK]
 simp only[zi]
theorem QdT{r r':Nat->Nat}:∀ {n:Nat},(∀i,i<n->r i=r' i)->Qac r n=Qac r' n/\Qab r n=Qab r' n
 |0,_=>⟨rfl,rfl⟩
 |n+1,h=>by
  have ih:=QdT (n:=n) fun i hi=>h i (by omega)
  have e1:=h n (by omega)
  have e2:=h (n-1) (by omega)
  constructor
  ·show (Qac r n&&_)=(Qac r' n&&_);rw[ih.1,e1,e2]
  ·show (Qab r n&&_)=(Qab r' n&&_);rw[ih.2,e1,e2]
theorem Q4{α:Type}{l:List α}:l.length=0↔l=[]:=List.length_eq_zero_iff
theorem Qcn(b:Nat->Bool)(u:Qf)(l:List Qf):QK b (u::l)=(if Qi b u=2 then Qm u else [u])++QK b l:=by
 unfold QK;rw[zf]
theorem Qc7{b:Nat->Bool}:∀ {l:List Qf},(∀u∈l,Qo u/\Qp u)->(QK b l).map Qc=QK b (l.map Qc)/\(∀a,(l.flatMap Qa).count a=((QK b l).flatMap Qa).count a+((Qb b 2 l).map Qg).count a)/\(QK b l).flatMap Qe=l.flatMap Qe/\(∀u∈QK b l,Qo u/\Qp u)/\l.length<=(QK b l).length/\∀S,(∀u∈l,QA S u)->∀u∈QK b l,QA S u
 |[],_=>⟨rfl,fun _=>rfl,rfl,fun u hu=>absurd hu (by simp[QK]),zn _,fun S _ u hu=>absurd hu (by simp[QK])⟩
 |y::l,h=>by
  obtain⟨i1,i2,i3,i4,i5,i6⟩:=Qc7 (b:=b) (l:=l) fun u hu=>h u (by simp[hu])
  obtain⟨y1,y2⟩:=h y (by simp)
  have st:Qb b 2 (y::l)=if Qi b y=2 then y::Qb b 2 l else Qb b 2 l:=by
   unfold Qb;rw[List.filter_cons]
   by_cases e:Qi b y=2
   ·rw[zb (by simpa using e),zb e]
   ·rw[za (by simpa using e),za e]
  rw[Qcn,st]
  by_cases e:Qi b y=2
  ·rw[zb e,zb e]
   obtain⟨k1,k2,k3,k4,k5,k6,k7⟩:=Qaw y1 y2 e
   refine⟨?_,fun a=>?_,?_,fun u hu=>?_,?_,fun S hS u hu=>?_⟩
   ·rw[zr,i1,zO,Qcn,Qbq b y y2,zb e,k6]
   ·rw[zf,zj,zO,zg,zg,i2 a,k4,zg,show (Qg y::(Qb b 2 l).map Qg).count a=[Qg y].count a+((Qb b 2 l).map Qg).count a from by rw[<-zg];rfl]
    omega
   ·rw[zj,zf,i3,k5]
   ·rcases zc.mp hu with hu | hu
    ·exact k3 u hu
    ·exact i4 u hu
   ·rw[zq,zd];omega
   ·rcases zc.mp hu with hu | hu
    ·exact (k7 S (hS y (by simp))).1 u hu
    ·exact i6 S (fun v hv=>hS v (by simp[hv])) u hu
  ·rw[za e,za e]
   refine⟨?_,fun a=>?_,?_,fun u hu=>?_,?_,fun S hS u hu=>?_⟩
   ·rw[zr,i1,zO,zO,Qcn,Qbq b y y2,za e];rfl
   ·rw[zf,zj,zf,zo,zk,zg,zg,i2 a]
    omega
   ·rw[zj,zf,zf,zo,zk,i3]
   ·rcases zc.mp hu with hu | hu
    ·rw[zh] at hu;rw[hu];exact⟨y1,y2⟩
    ·exact i4 u hu
   ·rw[zq,zd,zam];omega
   ·rcases zc.mp hu with hu | hu
    ·rw[zh] at hu;rw[hu];exact hS y (by simp)
    ·exact i6 S (fun v hv=>hS v (by simp[hv])) u hu
theorem Qez(b:Nat->Bool)(l:List Qf){k:Nat}(hk:k<l.length):QK b (l.take (k+1))=QK b (l.take k)++(if Qi b (l.getD k .null)=2 then Qm (l.getD k .null) else [l.getD k .null]):=by
 unfold QK
 rw[zah,List.getElem?_eq_getElem hk,zj,ze,List.getElem?_eq_getElem hk]
 show _++List.flatMap _ [_]=_
 rw[zf,zo,zk]
 rfl
theorem QgD(b:Nat->Bool)(l:List Qf)(k:Nat):(QK b (l.take k)).length<=(QK b l).length:=by
 have:QK b l=QK b (l.take k)++QK b (l.drop k):=by
  unfold QK;rw[<-zj,List.take_append_drop]
 rw[this,zd];omega
section InnerQ
variable {f1:FT1}
theorem Qgg(hf1:Fx f1){S:MS}{b:Nat->Bool}{x m:Nat}{K:List Qf}(k:Qai S b .iand x K m)(hm:m<54):∃a S',f1 (57,0,[.ref 0,.int (Int32.ofNat x)],[],S)=some (some (.int a),S')/\QQ S S' (K.flatMap Qa++[x])/\((a=0/\QaQ b (K.map Qc)=none)\/(a=1/\∃T,Q5 S S' x (K.flatMap Qa++[x]) (K.flatMap Qe) (m+2) T/\S' 11 x=Qi b T/\QaQ b (K.map Qc)=some (Qc T))):=by
 obtain⟨A,eA,CA,kA,L0,L1,L2⟩:=Qdv hf1 k
 have hw:∀u∈K,Qp u:=fun u hu=>(k.2.1 u hu).2.1
 have htw:∀u∈K,Qo u/\Qp u:=fun u hu=>⟨(k.2.1 u hu).1,(k.2.1 u hu).2.1⟩
 have hk:=k.2.2.1
 have hx:=k.1
 rw[QfS b K hw,EdZ hf1,eA];simp only[zz]
 have ln:∀v,(Qb b v K).length<=8:=fun v=>zB (zN _ _) hk.2
 have ln0:=ln 0
 have ln1:=ln 1
 have ln2:=ln 2
 have E0:=L0.1
 have E1:=L1.1
 have E2:=L2.1
 rw[zi] at E0 E1 E2
 have h5:∀i,A 5 i=S 5 i:=fun i=>(Qaf CA (by simp)).2.2.1
 have fin:∀(y1:(Qb b 2 K).length<=1) (hp:Qb b 2 K≠[]\/(Qb b 0 K≠[]/\Qb b 1 K≠[])),∃a S',f1 (57,61,[.ref 0,.int (Int32.ofNat x)],[],A)=some (some (.int a),S')/\QQ S S' (K.flatMap Qa++[x])/\((a=0/\(some (Jvm.Term.op2 .ior (.arg 0) (Qk (QI ((Qb b 0 K).map Qc)++((Qb b 2 K).map Qc).flatMap Qm++QI ((Qb b 1 K).map Qc)))):Option Qf)=none)\/(a=1/\∃T,Q5 S S' x (K.flatMap Qa++[x]) (K.flatMap Qe) (m+2) T/\S' 11 x=Qi b T/\some (Jvm.Term.op2 .ior (.arg 0) (Qk (QI ((Qb b 0 K).map Qc)++((Qb b 2 K).map Qc).flatMap Qm++QI ((Qb b 1 K).map Qc))))=some (Qc T))):=fun y1 hp=>by
  obtain⟨S',e,⟨H,C,hH⟩,l11,Ks,TR,sK⟩:=Qf1 hf1 kA hm L0 L1 L2 y1 hp
  refine⟨1,S',e,?_,Or.inr ⟨rfl,.op2 .ior (.arg x) (Qk Ks),?_,?_,?_⟩⟩
  ·exact Qbz (G:=[]++H) (Qbh CA C) fun g hg=>by
    rw[zac] at hg
    rw[<-h5];exact hH g hg
  ·obtain⟨t1,t2,t3,t4,t5,t6,t7,t8,t9⟩:=TR
   exact⟨t1,t2,t3,t4,t5,fun i hi=>by rw[<-h5];exact t6 i hi,t7,t8,t9⟩
  ·rw[l11,Qc6,QcF (show (Ks.flatMap Qe).Perm (K.flatMap Qe) by
    have:=TR.2.2.2.2.2.2.2.1
    rw[show Qe (.op2 .ior (.arg x) (Qk Ks))=Ks.flatMap Qe from QaM Ks] at this
    exact this),Qe6 htw hp]
  ·show _=some (Jvm.Term.op2 .ior (.arg 0) (Qc (Qk Ks)))
   rw[QaB,sK]
 have stay:∀v,Qag b (K.flatMap Qe)=v->∃a S',some (some (Jvm.Value.int 1),Jvm.OM.upd A 11 x v)=some (some (.int a),S')/\QQ S S' (K.flatMap Qa++[x])/\((a=0/\(some (Jvm.Term.op2 .iand (.arg 0) (Qk (K.map Qc))):Option Qf)=none)\/(a=1/\∃T,Q5 S S' x (K.flatMap Qa++[x]) (K.flatMap Qe) (m+2) T/\S' 11 x=Qi b T/\some (Jvm.Term.op2 .iand (.arg 0) (Qk (K.map Qc)))=some (Qc T))):=fun v hv=>by
  obtain⟨TR,FR⟩:=QdR (S':=Jvm.OM.upd A 11 x v) (Or.inl rfl) kA CA fun c i q=>by rw[Qh,za q]
  refine⟨1,_,rfl,FR,Or.inr ⟨rfl,_,TR,?_,?_⟩⟩
  ·rw[Qh,zb ⟨rfl,rfl⟩,Qc6,hv]
  ·show _=some (Jvm.Term.op2 .iand (.arg 0) (Qc (Qk K)))
   rw[QaB]
 rw[Ec7 hf1,E2,E0]
 by_cases q2:2<=(Qb b 2 K).length
 ·rw[za (show ¬Int32.ofNat (Qb b 2 K).length<2 from fun q=>absurd ((Ql (a:=(Qb b 2 K).length) (b:=2) (by omega) (by omega)).mp q) (by omega)),zb q2]
  exact⟨0,A,rfl,Qbz CA fun g hg=>absurd hg (by simp),Or.inl ⟨rfl,rfl⟩⟩
 rw[zb (show Int32.ofNat _<2 from (Ql (b:=2) (by omega) (by omega)).mpr (by omega)),za q2]
 by_cases qY:(Qb b 2 K).length=0
 ·rw[zb ((Qaa (by omega)).mpr qY)]
  by_cases qE:(Qb b 0 K).length=0
  ·rw[zb ((Qaa (by omega)).mpr qE),zb (Qt (by omega) hx.2),Qu (by omega),zb ⟨qY,Or.inl qE⟩]
   exact stay 1 (Qdq (Q4.mp qE) (Q4.mp qY))
  ·rw[za (fun e=>qE ((Qaa (by omega)).mp e)),EP hf1,E2,E1,zb ((Qaa (by omega)).mpr qY)]
   by_cases qF:(Qb b 1 K).length=0
   ·rw[zb ((Qaa (by omega)).mpr qF),zb (Qt (by omega) hx.2),Qu (by omega),zb ⟨qY,Or.inr qF⟩]
    exact stay 0 (Qd8 htw (fun e=>by rw[e] at hk;exact absurd hk.1 (by simp)) (Q4.mp qF) (Q4.mp qY))
   ·rw[za (fun e=>qF ((Qaa (by omega)).mp e)),za (by omega)]
    exact fin (by omega) (Or.inr ⟨fun e=>qE (by rw[e];rfl),fun e=>qF (by rw[e];rfl)⟩)
 ·rw[za (fun e=>qY ((Qaa (by omega)).mp e)),EP hf1,E2,za (fun e=>qY ((Qaa (by omega)).mp e)),za (by omega)]
  exact fin (by omega) (Or.inl fun e=>qY (by rw[e];rfl))
theorem QfP(hf1:Fx f1)(b:Nat->Bool)(K:List Qf)(hK:∀u∈K,Qp u):QaS b (K.map Qc)=if 2<=(Qb b 2 K).length then none else if (Qb b 2 K).length=0/\((Qb b 0 K).length=0\/(Qb b 1 K).length=0) then some (.op2 .ior (.arg 0) (Qk (K.map Qc))) else if Qac (fun i=>QL (Qi b (K.getD i .null))) K.length=true then some (.op2 .ior (.arg 0) (Qk (QK b (K.map Qc)))) else if Qab (fun i=>QL (Qi b (K.getD i .null))) K.length=true then some (.op2 .ior (.arg 0) (Qk (QK b (K.map Qc).reverse))) else none:=by
 unfold QaS
 rw[Qbp b 2 K hK,Qbp b 1 K hK,Qbp b 0 K hK]
 simp only[zi]
 have c:=QdT (r:=fun i=>QL (Qi b ((K.map Qc).getD i .null))) (r':=fun i=>QL (Qi b (K.getD i .null))) (n:=K.length) fun i hi=>by
  show QL (Qi b ((K.map Qc).getD i .null))=QL (Qi b (K.getD i .null))
  rw[show (K.map Qc).getD i .null=Qc (K.getD i .null) from by simp only[ze,List.getElem?_map,List.getElem?_eq_getElem hi];rfl,Qbq b _ (hK _ (Q9 hi))]
 rw[c.1,c.2]
theorem QfW(hf1:Fx f1){A:MS}{b:Nat->Bool}{x m:Nat}{x2:Int32}{K Kd:List Qf}(hKd:Kd=K\/Kd=K.reverse)(k:Qai A b .ior x Kd m)(LY:QE A 19 10 ((Qb b 2 K).map Qg))(y1:(Qb b 2 K).length<=1):∃S',f1 (58,82,[.ref 0,.int (Int32.ofNat x),.int x2],[],A)=some (some (.int 1),S')/\(∃H,Q3 A S' H/\∀g∈H,8<=g/\g∈Kd.flatMap Qa++[x])/\S' 11 x=2/\Q5 A S' x (Kd.flatMap Qa++[x]) (Kd.flatMap Qe) (m+2) (.op2 .ior (.arg x) (Qk (QK b Kd))):=by
 obtain⟨k1,k2,k3,k4,k5,k6,k7,k8,k9,k10⟩:=k
 have htw:∀u∈Kd,Qo u/\Qp u:=fun u hu=>⟨(k2 u hu).1,(k2 u hu).2.1⟩
 obtain⟨x1,x2',x3,x4,x5,x6⟩:=Qc7 (b:=b) htw
 have fbr:∀u,u∈Qb b 2 K↔u∈Qb b 2 Kd:=fun u=>by
  rw[QD,QD]
  rcases hKd with e | e
  ·rw[e]
  ·rw[e,zy]
 have fbp:((Qb b 2 K).map Qg).Perm ((Qb b 2 Kd).map Qg):=by
  rcases hKd with e | e
  ·rw[e]
  ·rw[e];unfold Qb;rw[List.filter_reverse,zae];exact (zv _).symm
 have hy:∃yv,((Qb b 2 K=[]/\yv = -1)\/∃y,Qb b 2 K=[y]/\yv=Int32.ofNat (Qg y))/\f1 (58,82,[.ref 0,.int (Int32.ofNat x),.int x2],[],A)=(f1 (49,0,[.ref 0],[],A)).bind fun q=>f1 (58,105,[.ref 0,.int (Int32.ofNat x),.int x2,.int yv],q.1.toList++[],q.2):=by
  rw[Ed5 hf1,LY.1]
  clear fbr fbp
  generalize Qb b 2 K=Y at *
  match Y,y1,LY with
  |[],_,_=>exact⟨-1,Or.inl ⟨rfl,rfl⟩,by rw[za (by decide)]⟩
  |[y],_,LY=>exact⟨_,Or.inr ⟨y,rfl,rfl⟩,by rw[zb (show Int32.ofNat (List.map Qg [y]).length=1 from rfl),LY.2 0 (by simp)];rfl⟩
  |_::_::_,h,_=>exact absurd h (by simp)
 obtain⟨yv,hyv,e82⟩:=hy
 have is2:∀u∈Kd,(Int32.ofNat (Qg u)=yv↔Qi b u=2):=fun u hu=>by
  have us:=Qas (htw u hu).1 (htw u hu).2
  rcases hyv with⟨e,ev⟩ | ⟨y,e,ev⟩
  ·rw[ev]
   constructor
   ·intro q
    have:=congrArg Int32.toInt q
    rw[Qak (by omega)] at this
    have l1:(-1:Int32).toInt = -1:=rfl
    omega
   ·intro q
    have:=(fbr u).mpr (QD.mpr ⟨hu,q⟩)
    rw[e] at this;exact absurd this (by simp)
  ·have ym:y∈Qb b 2 Kd:=(fbr y).mp (by rw[e];simp)
   have ys:=Qas (htw y (QD.mp ym).1).1 (htw y (QD.mp ym).1).2
   rw[ev]
   constructor
   ·intro q
    have:=congrArg Int32.toInt q
    rw[Qak (by omega),Qak (by omega)] at this
    have es:Qg u=Qg y:=by omega
    rw[<-(k2 u hu).2.2.2,es,(k2 y (QD.mp ym).1).2.2.2];exact (QD.mp ym).2
   ·intro q
    have:=(fbr u).mpr (QD.mpr ⟨hu,q⟩)
    rw[e,zh] at this
    rw[this]
 have lKs:(QK b Kd).length<=8:=by
  have h1:=QaT _ x4
  rw[x3] at h1
  omega
 rw[e82,Ea hf1];simp only[zz]
 rw[EeR hf1,Qax hf1 (S:=Jvm.OM.upd A 0 7 0) k1.2 k5 k3.2];simp only[zz]
 rw[Ecm hf1]
 have key:∀j,j<=Kd.length->∃B,f1 (58,115,[.ref 0,.int (Int32.ofNat x),.int x2,.int yv,.int (Int32.ofNat Kd.length),.int 0],[],Jvm.OM.upd A 0 7 0)=f1 (58,115,[.ref 0,.int (Int32.ofNat x),.int x2,.int yv,.int (Int32.ofNat Kd.length),.int (Int32.ofNat j)],[],B)/\(∀c i,c≠16->¬(c=0/\i=7)->B c i=A c i)/\QE B 16 7 ((QK b (Kd.take j)).map Qg):=fun j=>by
  induction j with
  |zero=>exact fun _=>⟨_,rfl,fun c i _ h=>by rw[Qh,za h],⟨rfl,fun i hi=>absurd hi (by simp[QK])⟩⟩
  |succ j ih=>
   intro hj
   obtain⟨B,eB,FB,LB⟩:=ih (by omega)
   have hj':j<Kd.length:=hj
   have hm:=Q9 hj'
   have us:=Qas (htw _ hm).1 (htw _ hm).2
   have ln:=QgD b Kd j
   rw[eB,EB hf1,zb ((Ql (by omega) (by omega)).mpr hj'),zb (show Int32.ofNat j<8 from (Ql (b:=8) (by omega) (by omega)).mpr (by omega)),Q8 hf1 B k1.2 (by omega),FB 4 _ (by decide) (by omega),k6 j hj'];simp only[zz]
   rw[Edl hf1]
   by_cases q:Qi b (Kd.getD j .null)=2
   ·have rB:QA B (Kd.getD j .null):=QW (fun i=>⟨FB 1 i (by decide) (by omega),FB 3 i (by decide) (by omega)⟩) (fun i=>FB 4 i (by decide) (by omega)) _ (htw _ hm).2 (k2 _ hm).2.2.1
    have kl:=(Qaw (htw _ hm).1 (htw _ hm).2 q).2.1.2
    obtain⟨D,eD,FD,LD⟩:=QbV hf1 false (htw _ hm).1 (htw _ hm).2 q rB (by rw[zi];omega) LB
    have eD':f1 (52,0,[.ref 0,.int (Int32.ofNat (Qg (Kd.getD j .null))),.int 0],[],B)=some (none,D):=eD
    rw[zb ((is2 _ hm).mpr q),eD'];simp only[zz]
    rw[Edm hf1,Eax hf1,Qv]
    refine⟨D,rfl,fun c i h1 h2=>(FD c i h1 h2).trans (FB c i h1 h2),?_⟩
    rw[Qez b Kd hj',zb q,zr];exact LD
   ·obtain⟨D,eD,FD,LD⟩:=QbT hf1 us (by rw[zi];omega) LB
    rw[za (fun e=>q ((is2 _ hm).mp e)),eD];simp only[zz]
    rw[Eax hf1,Qv]
    refine⟨D,rfl,fun c i h1 h2=>(FD c i h1 h2).trans (FB c i h1 h2),?_⟩
    rw[Qez b Kd hj',za q,zr];exact LD
 obtain⟨B,eB,FB,LB⟩:=key _ (zn _)
 rw[List.take_length] at LB
 rw[eB,EB hf1,za zp]
 have slK:((QK b Kd).map Qg).length=(QK b Kd).length:=zi _
 obtain⟨D6,e6,F6,D63,D64⟩:=QdO hf1 k1.2 (by rw[slK];exact lKs) LB (Qbc x4)
 rw[e6];simp only[zz]
 rw[EdW hf1,za (by decide)]
 have st7:∃D7,f1 (33,0,[.ref 0,.int yv],[],D6)=some (none,D7)/\QaO D6 D7 ((Qb b 2 Kd).map Qg)/\(∀i,D7 5 i=D6 5 i\/D7 5 i=0):=by
  rcases hyv with⟨e,ev⟩ | ⟨y,e,ev⟩
  ·subst ev
   exact⟨D6,Qd9 hf1 D6 (by decide),fun _ _ _ _ _=>rfl,fun i=>Or.inl rfl⟩
  ·subst ev
   have ym:y∈Qb b 2 Kd:=(fbr y).mp (by rw[e];simp)
   obtain⟨h1,h2⟩:=htw y (QD.mp ym).1
   have hs:=(Qaw h1 h2 (QD.mp ym).2).1
   obtain⟨D7,e7,F7,D75⟩:=Qdn hf1 D6 hs.1 hs.2
   have sm:Qg y∈(Qb b 2 Kd).map Qg:=z8.mpr ⟨y,ym,rfl⟩
   refine⟨D7,e7,fun c i g1 g2 g3=>F7 c i g1 (fun q=>g2 ⟨by omega,by rw[q.2];exact sm⟩) (fun q=>g3 ⟨q.1,by rw[show i/8=Qg y from by omega];exact sm⟩),fun i=>?_⟩
   by_cases q:i=Qg y
   ·rw[q];exact Or.inr D75
   ·exact Or.inl (F7 5 i (by decide) (by omega) (by omega))
 obtain⟨D7,e7,C7,D75⟩:=st7
 rw[e7];simp only[zz]
 rw[Ees hf1,zb (Qt (by omega) k1.2),Qu (by omega)]
 generalize hD8:Jvm.OM.upd D7 11 x 2=D8
 have F8:∀c i,¬(c=11/\i=x)->D8 c i=D7 c i:=fun c i q=>by rw[<-hD8,Qh,za q]
 have cKs:∀a,((QK b Kd).flatMap Qa++[x]++(Qb b 2 Kd).map Qg).count a=(Kd.flatMap Qa++[x]).count a:=fun a=>by
  have h1:=x2' a
  simp only[zg] at h1 ⊢
  omega
 obtain⟨P1,P2⟩:=Qbe (l:=(QK b Kd).flatMap Qa++[x]++(Qb b 2 Kd).map Qg) (P:=Kd.flatMap Qa++[x]) (G:=[]) (fun a=>by rw[cKs a];exact zn _) k7 zaA (fun a ha=>absurd ha (by simp))
 obtain⟨P3,-,P4⟩:=zl.mp P1
 obtain⟨-,-,P5⟩:=zl.mp P3
 have xY:x∉(Qb b 2 Kd).map Qg:=fun q=>P4 x (by simp) x q rfl
 have C6:=QdU F6
 have s57:Q3 A D8 ([x]++(Qb b 2 Kd).map Qg):=fun c i h1 h2 h3 h4 h5=>by
  rw[F8 c i (fun q=>h4 ⟨by omega,by simp[q.2]⟩),C7 c i h1 (fun q=>h4 ⟨q.1,zc.mpr (Or.inr q.2)⟩) (fun q=>h5 ⟨q.1,zc.mpr (Or.inr q.2)⟩),C6 c i h1 (fun q=>h4 ⟨q.1,zc.mpr (Or.inl q.2)⟩) (fun q=>h5 ⟨q.1,zc.mpr (Or.inl q.2)⟩)]
  exact FB c i (by omega) (by omega)
 have x7:Qay D6 D7 x:=Qaf (QZ C7) xY
 have f7:∀i,i∉(Qb b 2 Kd).map Qg->D8 5 i=A 5 i:=fun i hi=>by
  rw[F8 5 i (by omega),(Qaf (QZ C7) hi).2.2.1,F6 5 i (by decide) (by omega) (by omega),FB 5 i (by decide) (by omega)]
 refine⟨D8,rfl,⟨[x]++(Qb b 2 Kd).map Qg,s57,fun g hg=>?_⟩,by rw[<-hD8,Qh,zb ⟨rfl,rfl⟩],?_⟩
 ·rcases zc.mp hg with q | q
  ·rw[zh] at q
   rw[q];exact⟨k1.1,by simp⟩
  ·obtain⟨y,hy,e⟩:=z8.mp q
   obtain⟨h1,h2⟩:=htw y (QD.mp hy).1
   rw[<-e]
   exact⟨(Qaw h1 h2 (QD.mp hy).2).1.1,zc.mpr (Or.inl (zt.mpr ⟨y,(QD.mp hy).1,QcN y h2 h1⟩))⟩
 ·refine QcH (G:=[]) k1 (Or.inr rfl) (Qbi (fun u hu=>⟨(x4 u hu).1,(x4 u hu).2,x6 A (fun v hv=>(k2 v hv).2.2.1) u hu⟩) s57 fun i hi q=>?_) ⟨by omega,lKs⟩ ?_ ?_ (fun i hi=>?_) k7 zaA (fun g hg=>absurd hg (by simp)) k8 (fun a=>?_) (fun i hi h8=>?_) (fun a=>by rw[x3]) (Q7 k10 (by omega) fun i=>?_)
  ·rcases zc.mp q with q | q
   ·exact P5 i hi x (by simp) (zh.mp q)
   ·exact P4 i (zc.mpr (Or.inl hi)) i q rfl
  ·rw[F8 1 x (by omega),x7.1,F6 1 x (by decide) (by omega) (by omega),FB 1 x (by decide) (by omega)];exact k4
  ·rw[F8 3 x (by omega),x7.2.1,D63,slK]
  ·rw[slK] at hi
   rw[F8 4 _ (by omega),x7.2.2.2.2 i (by omega)];exact D64 i (by rw[slK];exact hi)
  ·have:=cKs a
   rw[zg] at this
   omega
  ·rw[f7 i fun q=>P4 i hi i q rfl]
   rcases P2 i (zc.mpr (Or.inl hi)) with q | q
   ·exact k8 i q h8
   ·exact absurd q (by simp)
  ·rw[F8 5 i (by omega)]
   rcases D75 i with q | q
   ·exact Or.inl (by rw[q,F6 5 i (by decide) (by omega) (by omega),FB 5 i (by decide) (by omega)])
   ·exact Or.inr q
theorem Qfl(hf1:Fx f1){S:MS}{b:Nat->Bool}{x m:Nat}{K:List Qf}(k:Qai S b .ior x K m)(hm:m<54):∃a S',f1 (58,0,[.ref 0,.int (Int32.ofNat x)],[],S)=some (some (.int a),S')/\QQ S S' (K.flatMap Qa++[x])/\((a=0/\QaS b (K.map Qc)=none)\/(a=1/\∃T,Q5 S S' x (K.flatMap Qa++[x]) (K.flatMap Qe) (m+2) T/\S' 11 x=Qi b T/\QaS b (K.map Qc)=some (Qc T))):=by
 obtain⟨A,eA,CA,kA,L0,L1,L2⟩:=Qdv hf1 k
 have hw:∀u∈K,Qp u:=fun u hu=>(k.2.1 u hu).2.1
 have htw:∀u∈K,Qo u/\Qp u:=fun u hu=>⟨(k.2.1 u hu).1,(k.2.1 u hu).2.1⟩
 have hk:=k.2.2.1
 have hx:=k.1
 rw[QfP hf1 b K hw,Ed3 hf1,eA];simp only[zz]
 have ln:∀v,(Qb b v K).length<=8:=fun v=>zB (zN _ _) hk.2
 have ln0:=ln 0
 have ln1:=ln 1
 have ln2:=ln 2
 have E0:=L0.1
 have E1:=L1.1
 have E2:=L2.1
 rw[zi] at E0 E1 E2
 have h5:∀i,A 5 i=S 5 i:=fun i=>(Qaf CA (by simp)).2.2.1
 have stay:∀v,Qag b (K.flatMap Qe)=v->∃a S',some (some (Jvm.Value.int 1),Jvm.OM.upd A 11 x v)=some (some (.int a),S')/\QQ S S' (K.flatMap Qa++[x])/\((a=0/\(some (Jvm.Term.op2 .ior (.arg 0) (Qk (K.map Qc))):Option Qf)=none)\/(a=1/\∃T,Q5 S S' x (K.flatMap Qa++[x]) (K.flatMap Qe) (m+2) T/\S' 11 x=Qi b T/\some (Jvm.Term.op2 .ior (.arg 0) (Qk (K.map Qc)))=some (Qc T))):=fun v hv=>by
  obtain⟨TR,FR⟩:=QdR (S':=Jvm.OM.upd A 11 x v) (Or.inr rfl) kA CA fun c i q=>by rw[Qh,za q]
  refine⟨1,_,rfl,FR,Or.inr ⟨rfl,_,TR,?_,?_⟩⟩
  ·rw[Qh,zb ⟨rfl,rfl⟩,Qc6,hv]
  ·show _=some (Jvm.Term.op2 .ior (.arg 0) (Qc (Qk K)))
   rw[QaB]
 have fin:∀(A':MS) (x2:Int32) (Kd:List Qf) (hKd:Kd=K\/Kd=K.reverse) (C:Q3 S A' [x]) (A5:∀i,A' 5 i=S 5 i) (kd:Qai A' b .ior x Kd m) (LY:QE A' 19 10 ((Qb b 2 K).map Qg)) (y1:(Qb b 2 K).length<=1) (hp:Qb b 2 K≠[]\/(Qb b 0 K≠[]/\Qb b 1 K≠[])),∃a S',f1 (58,82,[.ref 0,.int (Int32.ofNat x),.int x2],[],A')=some (some (.int a),S')/\QQ S S' (K.flatMap Qa++[x])/\((a=0/\(some (Jvm.Term.op2 .ior (.arg 0) (Qk (QK b (Kd.map Qc)))):Option Qf)=none)\/(a=1/\∃T,Q5 S S' x (K.flatMap Qa++[x]) (K.flatMap Qe) (m+2) T/\S' 11 x=Qi b T/\some (Jvm.Term.op2 .ior (.arg 0) (Qk (QK b (Kd.map Qc))))=some (Qc T))):=fun A' x2 Kd hKd C A5 kd LY y1 hp=>by
  have pK:Kd.Perm K:=by
   rcases hKd with e | e
   ·rw[e]
   ·rw[e];exact zv _
  have tKd:∀u∈Kd,Qo u/\Qp u:=fun u hu=>htw u (pK.mem_iff.mp hu)
  obtain⟨S',e,⟨H,C',hH⟩,l11,TR⟩:=QfW hf1 (x2:=x2) hKd kd LY y1
  have pp:=pK.flatMap_right Qa
  have pl:=pK.flatMap_right Qe
  have ppx:∀i,i∈Kd.flatMap Qa++[x]↔i∈K.flatMap Qa++[x]:=fun i=>by rw[zc,zc,pp.mem_iff]
  refine⟨1,S',e,?_,Or.inr ⟨rfl,.op2 .ior (.arg x) (Qk (QK b Kd)),?_,?_,?_⟩⟩
  ·exact Qbz (G:=[x]++H) (Qbh C C') fun g hg=>by
    rcases zc.mp hg with q | q
    ·rw[zh] at q;rw[q];exact⟨hx.1,Or.inl (by simp)⟩
    ·exact⟨(hH g q).1,Or.inl ((ppx g).mp (hH g q).2)⟩
  ·obtain⟨t1,t2,t3,t4,t5,t6,t7,t8,t9⟩:=TR
   exact⟨t1,t2,t3,t4,t5,fun i hi=>by rw[<-A5,<-ppx];exact t6 i hi,t7,t8.trans pl,t9⟩
  ·rw[l11,Qc6,(Qc7 (b:=b) tKd).2.2.1,QcF pl,Qe6 htw hp]
  ·show _=some (Jvm.Term.op2 .ior (.arg 0) (Qc (Qk (QK b Kd))))
   rw[QaB,(Qc7 (b:=b) tKd).1]
 have kA':=kA
 obtain⟨k1,k2,k3,k4,k5,k6,k7,k8,k9,k10⟩:=kA
 have hlen:(K.map Qg).length=K.length:=zi _
 have dir:=Qfy hf1 (S:=A) (l:=K.map Qg) k1.2 (by rw[hlen];exact k3.2) (Qbc htw) (by rw[hlen];exact k5) (QbL k6)
 have cc:=QdT (r:=fun i=>QL (A 11 ((K.map Qg).getD i 0))) (r':=fun i=>QL (Qi b (K.getD i .null))) (n:=K.length) fun i hi=>by
  show QL (A 11 ((K.map Qg).getD i 0))=QL (Qi b (K.getD i .null))
  rw[show (K.map Qg).getD i 0=Qg (K.getD i .null) from by simp only[ze,List.getElem?_map,List.getElem?_eq_getElem hi];rfl,(k2 _ (Q9 hi)).2.2.2]
 rw[hlen,cc.1,cc.2] at dir
 have go:∀(y1:(Qb b 2 K).length<=1) (hp:Qb b 2 K≠[]\/(Qb b 0 K≠[]/\Qb b 1 K≠[])),∃a S',((f1 (56,0,[.ref 0,.int (Int32.ofNat x)],[],A)).bind fun q=>f1 (58,66,[.ref 0,.int (Int32.ofNat x)],q.1.toList++[],q.2))=some (some (.int a),S')/\QQ S S' (K.flatMap Qa++[x])/\((a=0/\(if Qac (fun i=>QL (Qi b (K.getD i .null))) K.length=true then some (.op2 .ior (.arg 0) (Qk (QK b (K.map Qc)))) else if Qab (fun i=>QL (Qi b (K.getD i .null))) K.length=true then some (.op2 .ior (.arg 0) (Qk (QK b (K.map Qc).reverse))) else none:Option Qf)=none)\/(a=1/\∃T,Q5 S S' x (K.flatMap Qa++[x]) (K.flatMap Qe) (m+2) T/\S' 11 x=Qi b T/\(if Qac (fun i=>QL (Qi b (K.getD i .null))) K.length=true then some (.op2 .ior (.arg 0) (Qk (QK b (K.map Qc)))) else if Qab (fun i=>QL (Qi b (K.getD i .null))) K.length=true then some (.op2 .ior (.arg 0) (Qk (QK b (K.map Qc).reverse))) else none:Option Qf)=some (Qc T))):=fun y1 hp=>by
  rw[dir];simp only[zz]
  rw[EdV hf1]
  by_cases u1:Qac (fun i=>QL (Qi b (K.getD i .null))) K.length=true
  ·rw[zb u1,za (by decide),za (by decide),zb u1]
   exact fin A 1 K (Or.inl rfl) (QgE CA fun i hi=>absurd hi (by simp)) h5 kA' L2 y1 hp
  rw[za u1,za u1]
  by_cases d1:Qab (fun i=>QL (Qi b (K.getD i .null))) K.length=true
  ·rw[zb d1,za (by decide),zb (by decide),zb d1]
   obtain⟨A',e',F',A4⟩:=QfG hf1 (S:=A) (l:=K.map Qg) k1.2 (by rw[hlen];exact k3.2) (by rw[hlen];omega) (by rw[hlen];exact k5) (QbL k6)
   rw[e',<-zae];simp only[zz]
   have C':QaO A A' [x]:=fun c i _ _ h=>F' c i fun q=>h ⟨q.1,by rw[zh];omega⟩
   have A5:∀i,A' 5 i=A 5 i:=fun i=>F' 5 i (by omega)
   have pp:(K.reverse.flatMap Qa).Perm (K.flatMap Qa):=(zv K).flatMap_right Qa
   have pl:(K.reverse.flatMap Qe).Perm (K.flatMap Qe):=(zv K).flatMap_right Qe
   have xK:∀i∈K.flatMap Qa,i∉[x]:=fun i hi q=>(zl.mp k7).2.2 i hi x (by simp) (zh.mp q)
   have mK:=Qbi (fun u hu=>⟨(k2 u hu).1,(k2 u hu).2.1,(k2 u hu).2.2.1⟩) (QZ C') xK
   refine fin A' (-1) K.reverse (Or.inr rfl) (Qbh CA (QZ C')) (fun i=>(A5 i).trans (h5 i)) ⟨k1,fun u hu=>?_,by rw[zX];exact k3,(F' 1 x (by omega)).trans k4,by rw[zX,F' 3 x (by omega)];exact k5,fun i hi=>?_,(pp.append_right [x]).nodup_iff.mpr k7,fun i hi h8=>?_,by rw[pl.length_eq];exact k9,Q7 k10 (zn _) fun i=>Or.inl (A5 i)⟩ (Qa9 (F' 0 10 (by omega)) (fun i=>F' 19 i (by omega)) L2) y1 hp
   ·rw[zy] at hu
    exact⟨(mK u hu).1,(mK u hu).2.1,(mK u hu).2.2,(F' 11 _ (by omega)).trans (k2 u hu).2.2.2⟩
   ·rw[zX] at hi
    have h4:∀i,i<(K.reverse.map Qg).length->A' 4 (8*x+i)=Int32.ofNat ((K.reverse.map Qg).getD i 0):=fun i hi=>by
     rw[zae]
     exact A4 i (by rw[zi,zX] at hi;rw[hlen];exact hi)
    exact Qc0 h4 i (by rw[zX];exact hi)
   ·rw[A5]
    exact k8 i ((pp.append_right [x]).mem_iff.mp hi) h8
  ·rw[za d1,zb rfl,za d1]
   exact⟨0,A,rfl,Qbz CA fun g hg=>absurd hg (by simp),Or.inl ⟨rfl,rfl⟩⟩
 rw[EcV hf1,E2,E0]
 by_cases q2:2<=(Qb b 2 K).length
 ·rw[za (show ¬Int32.ofNat (Qb b 2 K).length<2 from fun q=>absurd ((Ql (a:=(Qb b 2 K).length) (b:=2) (by omega) (by omega)).mp q) (by omega)),zb q2]
  exact⟨0,A,rfl,Qbz CA fun g hg=>absurd hg (by simp),Or.inl ⟨rfl,rfl⟩⟩
 rw[zb (show Int32.ofNat _<2 from (Ql (b:=2) (by omega) (by omega)).mpr (by omega)),za q2]
 by_cases qY:(Qb b 2 K).length=0
 ·rw[zb ((Qaa (by omega)).mpr qY)]
  by_cases qE:(Qb b 0 K).length=0
  ·rw[zb ((Qaa (by omega)).mpr qE),zb (Qt (by omega) hx.2),Qu (by omega),zb ⟨qY,Or.inl qE⟩]
   exact stay 1 (Qdq (Q4.mp qE) (Q4.mp qY))
  ·rw[za (fun e=>qE ((Qaa (by omega)).mp e)),Ead hf1,E2,E1,zb ((Qaa (by omega)).mpr qY)]
   by_cases qF:(Qb b 1 K).length=0
   ·rw[zb ((Qaa (by omega)).mpr qF),zb (Qt (by omega) hx.2),Qu (by omega),zb ⟨qY,Or.inr qF⟩]
    exact stay 0 (Qd8 htw (fun e=>by rw[e] at hk;exact absurd hk.1 (by simp)) (Q4.mp qF) (Q4.mp qY))
   ·rw[za (fun e=>qF ((Qaa (by omega)).mp e)),za (show ¬(_/\(_\/_)) by omega)]
    exact go (by omega) (Or.inr ⟨fun e=>qE (by rw[e];rfl),fun e=>qF (by rw[e];rfl)⟩)
 ·rw[za (fun e=>qY ((Qaa (by omega)).mp e)),Ead hf1,E2,za (fun e=>qY ((Qaa (by omega)).mp e)),za (show ¬(_/\(_\/_)) by omega)]
  exact go (by omega) (Or.inl fun e=>qY (by rw[e];rfl))
end InnerQ
def Qer(S S':MS)(P l:List Nat)(m:Nat)(T:Qf):Prop:=Qp T/\QA S' T/\(Qa T).Nodup/\(∀i∈Qa T,i∈P\/(8<=i/\S 5 i=0))/\(∀i∈Qa T,8<=i->S' 5 i≠0)/\(Qe T).Perm l/\QaH S' m
def Qb6(S:MS)(b:Nat->Bool)(p tot m:Nat)(t:Qf):Prop:=QA S t/\Qao S p (Qa t) tot/\(Qa t).Nodup/\(∀i∈Qa t,8<=i->S 5 i≠0/\S 11 i=0)/\(∀c∈Qe t,S 11 c=Qi b (.arg c))/\Qap (fun u=>S 12 (Qg u)=QU u) t/\(Qe t).length<=8/\QaH S m/\m+2*(Qa t).length<=54
theorem Qff(x y z:Int32):(x|||y)&&&z=(x&&&z)|||(y&&&z):=by
 rw[<-zas]
 exact BitVec.and_or_distrib_right
theorem Qee{s:Int32}{b:Nat->Bool}(hb:∀c,c<8->((1<<<(Int32.ofNat c&&&31))&&&s=0↔b c=false)):∀t,Qp t->(QU t&&&s=0↔(Qe t).all (fun c => !b c)=true):=QR
 (fun c hc=>by
  show _&&&s=0↔([c]:List Nat).all _=true
  rw[List.all_cons,List.all_nil,zaf,Bool.not_eq_true'];exact hb c hc)
 (fun o x f w ih=>ih)
 (fun t f w iht ihf=>by
  show (QU t|||QU f)&&&s=0↔(Qe t++Qe f).all _=true
  rw[List.all_append,zal,<-iht,<-ihf,Qff,Int32.or_eq_zero_iff])
 (by show (0:Int32)&&&s=0↔_;rw[Int32.zero_and];exact⟨fun _=>rfl,fun _=>rfl⟩)
section Seg
variable {f1:FT1}
theorem QcG(hf1:Fx f1){S:MS}{s:Int32}{pi p x:Nat}(hp:p<pi)(hpi:pi<64)(hx:x<64)(h13:S 13 p=Int32.ofNat x):f1 (42,27,[.ref 0,.int s,.int (Int32.ofNat pi),.int (Int32.ofNat p)],[],S)=f1 (42,52,[.ref 0,.int s,.int (Int32.ofNat pi),.int (Int32.ofNat p),.int (Int32.ofNat x)],[.int (if S 1 x=0 then 0 else 1)],S):=by
 rw[ED hf1,zb ((Ql (by omega) (by omega)).mpr hp),zb (show Int32.ofNat p<64 from (Ql (b:=64) (by omega) (by omega)).mpr (by omega)),zb (Qt (by omega) (by omega)),Qu (by omega),h13,QbE hf1 S hx];simp only[zz]
theorem Qew(hf1:Fx f1){S:MS}{s:Int32}{b:Nat->Bool}{pi tot:Nat}(hb:∀c,c<8->((1<<<(Int32.ofNat c&&&31))&&&s=0↔b c=false))(hpi:pi<64):∀t,Qp t->∀p,QA S t->Qao S p (Qa t) tot->p+(Qa t).length<=pi->Qap (fun u=>S 12 (Qg u)=QU u) t->(Qe t).all (fun c => !b c)=true->f1 (42,27,[.ref 0,.int s,.int (Int32.ofNat pi),.int (Int32.ofNat p)],[],S)=f1 (42,27,[.ref 0,.int s,.int (Int32.ofNat pi),.int (Int32.ofNat (p+(Qa t).length))],[],S):=QR
 (fun c hc p r g hp a hl=>by
  have hp':p+1<=pi:=hp
  have e13:S 13 p=Int32.ofNat c:=g.2.2.2 0 (by simp[Qa])
  rw[QcG hf1 (by omega) hpi (by omega) e13,zb (show S 1 c=0 from r),Ec hf1,zb rfl,Qv]
  rfl)
 (fun o x f w ih p r g hp a hl=>by
  have ep:Qa (.op2 o (.arg x) f)=Qa f++[x]:=rfl
  rw[ep] at g
  rw[ep,zd] at hp
  have hp':p+((Qa f).length+1)<=pi:=hp
  have g':=Qaz g
  have e13:S 13 (p+(Qa f).length)=Int32.ofNat x:=g'.2.2.2 0 (by simp)
  have k1:S 1 x≠0:=by rw[r.1];exact Qbo
  rw[ih p r.2.2.2 (Qav g) (by omega) a.2 hl,QcG hf1 (by omega) hpi w.1.2 e13,za k1,Ec hf1,za (by decide),zb (Qt (by have:=w.1.2;omega) w.1.2),Qu (by have:=w.1.2;omega),show S 12 x=QU f from a.1,zb ((Qee hb f w.2.2.2.2).mpr hl),Qv,ep,zd]
  rfl)
 (fun t f w iht ihf p r g hp a hl=>by
  have ep:Qa (.add t f)=Qa t++Qa f:=rfl
  rw[ep] at g
  rw[ep,zd] at hp
  have hl':(Qe t++Qe f).all (fun c => !b c)=true:=hl
  rw[List.all_append,zal] at hl'
  rw[iht p r.1 (Qav g) (by omega) a.1 hl'.1,ihf _ r.2 (Qaz g) (by omega) a.2 hl'.2,ep,zd,z7])
 (fun p r g hp a hl=>rfl)
theorem QgT(hf1:Fx f1){S:MS}{b:Nat->Bool}{o:Jvm.Binary}{x m:Nat}{K:List Qf}(ho:o = .iand\/o = .ior)(k:Qai S b o x K m)(hm:m<54):∃a S',f1 (45,0,[.ref 0,.int (Int32.ofNat x)],[],S)=some (some (.int a),S')/\QQ S S' (K.flatMap Qa++[x])/\((a=0/\(if o = .iand then QaQ b (K.map Qc) else QaS b (K.map Qc))=none)\/(a=1/\∃T,Q5 S S' x (K.flatMap Qa++[x]) (K.flatMap Qe) (m+2) T/\S' 11 x=Qi b T/\(if o = .iand then QaQ b (K.map Qc) else QaS b (K.map Qc))=some (Qc T))):=by
 have hx:=k.1
 have k4:=k.2.2.2.1
 rw[Ed8 hf1,zb (Qt (by omega) hx.2),Qu (by omega),k4]
 rcases ho with e | e
 ·subst e
  obtain⟨a,S',e,F,h⟩:=Qgg hf1 k hm
  rw[zb (by decide),e];simp only[zz]
  rw[Ecw hf1]
  have ha:a&&&1=a:=by rcases h with⟨h,-⟩ | ⟨h,-⟩<;>rw[h]<;>decide
  rw[ha]
  refine⟨a,S',rfl,F,?_⟩
  rw[zb trivial];exact h
 ·subst e
  obtain⟨a,S',e,F,h⟩:=Qfl hf1 k hm
  rw[za (by decide),e];simp only[zz]
  rw[Ed9 hf1]
  have ha:a&&&1=a:=by rcases h with⟨h,-⟩ | ⟨h,-⟩<;>rw[h]<;>decide
  rw[ha]
  refine⟨a,S',rfl,F,?_⟩
  rw[za (by decide)];exact h
theorem Qgp(hf1:Fx f1){s:Int32}{b:Nat->Bool}{pi tot:Nat}(hb:∀c,c<8->((1<<<(Int32.ofNat c&&&31))&&&s=0↔b c=false))(hpi:pi<64):∀t,Qp t->∀p m S,Qb6 S b p tot m t->p+(Qa t).length<=pi->∃S',QQ S S' (Qa t)/\((f1 (42,27,[.ref 0,.int s,.int (Int32.ofNat pi),.int (Int32.ofNat p)],[],S)=some (some (.int 0),S')/\QM b t=none)\/(f1 (42,27,[.ref 0,.int s,.int (Int32.ofNat pi),.int (Int32.ofNat p)],[],S)=f1 (42,27,[.ref 0,.int s,.int (Int32.ofNat pi),.int (Int32.ofNat (p+(Qa t).length))],[],S')/\∃T,QM b t=some (Qc T)/\Qer S S' (Qa t) (Qe t) (m+2*(Qa t).length) T/\(Qo t->Qo T/\Qg T=Qg t/\S' 11 (Qg t)=Qi b T)/\(QJ t->QJ T/\(Qd T).map Qg=(Qd t).map Qg/\∀u∈Qd T,S' 11 (Qg u)=Qi b u))):=by
 refine QR (fun c hc p m S L hp=>?_) (fun o x f w ih p m S L hp=>?_) (fun t f w iht ihf p m S L hp=>?_) (fun p m S L hp=>?_)
 ·obtain⟨r,g,nd,l1,l2,a,l8,cv,hm⟩:=L
  have hp':p+1<=pi:=hp
  have e13:S 13 p=Int32.ofNat c:=g.2.2.2 0 (by simp[Qa])
  refine⟨S,Qa2 S _,Or.inr ⟨?_,.arg c,rfl,⟨hc,r,nd,fun i hi=>Or.inl hi,fun i hi h8=>(l1 i hi h8).1,List.Perm.refl _,Q7 cv (by omega) fun i=>Or.inl rfl⟩,fun _=>⟨trivial,rfl,l2 c (by simp[Qe])⟩,fun h=>absurd h id⟩⟩
  rw[QcG hf1 (by omega) hpi (by omega) e13,zb (show S 1 c=0 from r),Ec hf1,zb rfl,Qv]
  rfl
 ·obtain⟨r,g,nd,l1,l2,a,l8,cv,hm⟩:=L
  have ep:Qa (.op2 o (.arg x) f)=Qa f++[x]:=rfl
  have w':=w
  obtain⟨⟨w1,w2⟩,w3,⟨w4,w5⟩,w6,w7⟩:=w
  have eI:QM b (.op2 o (.arg x) f)=if Qi b (.op2 o (.arg x) f)=0 then some (.op2 o (.arg 0) (Qc f)) else (QM b f).bind fun f'=>if o = .iand then QaQ b (Qd f') else QaS b (Qd f'):=rfl
  by_cases q0:Qi b (.op2 o (.arg x) f)=0
  ·refine⟨S,Qa2 S _,Or.inr ⟨Qew hf1 hb hpi _ w' p r g hp a (QaX q0),.op2 o (.arg x) f,?_,⟨w',r,nd,fun i hi=>Or.inl hi,fun i hi h8=>(l1 i hi h8).1,List.Perm.refl _,Q7 cv (by omega) fun i=>Or.inl rfl⟩,fun _=>⟨trivial,rfl,?_⟩,fun h=>absurd h id⟩⟩
   ·rw[eI,zb q0];rfl
   ·rw[q0];exact (l1 x (by rw[ep];simp) w1).2
  rw[eI,za q0]
  rw[ep] at g nd l1
  rw[ep,zd] at hp hm
  have hp':p+((Qa f).length+1)<=pi:=hp
  have hm':m+2*((Qa f).length+1)<=54:=hm
  obtain⟨nd1,-,nd3⟩:=zl.mp nd
  have hxf:x∉Qa f:=fun h=>nd3 x h x (by simp) rfl
  have x5:=(l1 x (by simp) w1).1
  have lx:∀i∈Qa f,8<=i->S 5 i≠0/\S 11 i=0:=fun i hi=>l1 i (zc.mpr (Or.inl hi))
  obtain⟨S1,F1,h1⟩:=ih p m S ⟨r.2.2.2,Qav g,nd1,lx,l2,a.2,l8,cv,by omega⟩ (by omega)
  rcases h1 with⟨e1,n1⟩ | ⟨e1,T,n1,TF,-,hT⟩
  ·refine⟨S1,Qba F1 (Qa2 S1 []) (fun i hi=>by rw[ep];exact zc.mpr (Or.inl hi)) (fun i hi=>absurd hi (by simp)),Or.inl ⟨e1,by rw[n1];rfl⟩⟩
  obtain⟨T1,T2,T3,T4,T5,T6,T7⟩:=TF
  obtain⟨tF,tK,tL⟩:=hT w6
  have smx:Qay S S1 x:=F1.2 x (Or.inr ⟨hxf,x5⟩)
  have kpo:(Qd T).flatMap Qa=Qa T:=Qa1 Qa (fun _ _=>rfl) rfl T T1 tF
  have klv:(Qd T).flatMap Qe=Qe T:=Qa1 Qe (fun _ _=>rfl) rfl T T1 tF
  have kln:(Qd T).length=(Qd f).length:=by have:=congrArg List.length tK;rw[zi,zi] at this;exact this
  have gds:∀i,i<(Qd f).length->Qg ((Qd T).getD i .null)=Qg ((Qd f).getD i .null):=fun i hi=>by
   have:=congrArg (fun l=>l[i]?) tK
   simp only[List.getElem?_map] at this
   rw[List.getElem?_eq_getElem hi,List.getElem?_eq_getElem (by omega)] at this
   rw[ze,ze,List.getElem?_eq_getElem hi,List.getElem?_eq_getElem (by omega)]
   exact Option.some.inj this
  have xT:x∉Qa T:=fun h=>by
   rcases T4 x h with q | q
   ·exact hxf q
   ·exact x5 q.2
  have kc:Qai S1 b o x (Qd T) (m+2*(Qa f).length):=by
   refine⟨⟨w1,w2⟩,fun u hu=>⟨(Qam T1 u hu).1,(Qam T1 u hu).2,Qcp T1 T2 u hu,tL u hu⟩,by rw[kln];exact⟨w4,w5⟩,smx.1.trans r.1,by rw[kln];exact smx.2.1.trans r.2.1,fun i hi=>?_,?_,fun i hi h8=>?_,by rw[klv,T6.length_eq];exact l8,T7⟩
   ·rw[kln] at hi
    rw[smx.2.2.2.2 i (by omega),r.2.2.1 i hi,gds i hi]
   ·rw[kpo,zl]
    exact⟨T3,by simp,fun i hi j hj e=>xT (by rw[zh] at hj;rw[<-hj,<-e];exact hi)⟩
   ·rw[kpo] at hi
    rcases zc.mp hi with q | q
    ·exact T5 i q h8
    ·rw[zh] at q;rw[q,smx.2.2.1];exact x5
  obtain⟨av,S2,e2,F2,h2⟩:=QgT hf1 w3 kc (by omega)
  rw[kpo] at F2
  have hQ:∀i∈Qa T++[x],8<=i->i∈Qa f++[x]\/S 5 i=0:=fun i hi h8=>by
   rcases zc.mp hi with q | q
   ·rcases T4 i q with q | q
    ·exact Or.inl (zc.mpr (Or.inl q))
    ·exact Or.inr q.2
   ·exact Or.inl (zc.mpr (Or.inr q))
  have FF:QQ S S2 (Qa (.op2 o (.arg x) f)):=Qba F1 F2 (fun i hi=>by rw[ep];exact zc.mpr (Or.inl hi)) hQ
  have g':=Qaz g
  have e13:S1 13 (p+(Qa f).length)=Int32.ofNat x:=by rw[F1.1 13 _ (by decide) (by decide) (by decide) (by decide) (by decide) (by decide) (by decide) (by omega)];exact g'.2.2.2 0 (by simp)
  have k1:S1 1 x≠0:=by rw[smx.1,r.1];exact Qbo
  have e12:S1 12 x=QU f:=by rw[F1.1 12 _ (by decide) (by decide) (by decide) (by decide) (by decide) (by decide) (by decide) (by omega)];exact a.1
  have ne0:¬QU f&&&s=0:=fun q=>by
   have hl:=(Qee hb f w7).mp q
   refine q0 ?_
   show (if (Qe f).all b=true then (1:Int32) else if (Qe f).all (fun c => !b c)=true then 0 else 2)=0
   rw[za,zb hl]
   exact fun h=>QbA (QbY _ w' trivial) h hl
  have step:f1 (42,27,[.ref 0,.int s,.int (Int32.ofNat pi),.int (Int32.ofNat p)],[],S)=if av=0 then some (some (.int 0),S2) else f1 (42,27,[.ref 0,.int s,.int (Int32.ofNat pi),.int (Int32.ofNat (p+(Qa f).length+1))],[],S2):=by
   rw[e1,QcG hf1 (by omega) hpi w2 e13,za k1,Ec hf1,za (by decide),zb (Qt (by omega) w2),Qu (by omega),e12,za ne0,e2];simp only[zz]
   rw[EbB hf1,Qv]
  have mapk:(Qd T).map Qc=Qd (Qc T):=(Qby T T1 tF).symm
  rw[mapk] at h2
  rcases h2 with⟨ea,n2⟩ | ⟨ea,T',TR,l11,n2⟩
  ·refine⟨S2,FF,Or.inl ⟨by rw[step,zb ea],?_⟩⟩
   rw[n1];exact n2
  ·obtain⟨t1,t2,t3,t4,t5,t6,t7,t8,t9⟩:=TR
   refine⟨S2,FF,Or.inr ⟨?_,T',?_,⟨t1,t4,t5,fun i hi=>?_,t7,?_,?_⟩,fun _=>⟨t2,t3,l11⟩,fun h=>absurd h id⟩⟩
   ·rw[step,za (by rw[ea];decide),ep,zd];rfl
   ·rw[n1];exact n2
   ·rw[ep]
    rcases t6 i hi with q | q
    ·rw[kpo] at q
     by_cases h8:8<=i
     ·rcases hQ i q h8 with q | q
      ·exact Or.inl q
      ·exact Or.inr ⟨h8,q⟩
     ·rcases zc.mp q with q | q
      ·rcases T4 i q with q | q
       ·exact Or.inl (zc.mpr (Or.inl q))
       ·exact absurd q.1 h8
      ·rw[zh] at q;omega
    ·by_cases qf:i∈Qa f
     ·exact Or.inl (zc.mpr (Or.inl qf))
     ·by_cases q5:S 5 i=0
      ·exact Or.inr ⟨q.1,q5⟩
      ·exact absurd ((F1.2 i (Or.inr ⟨qf,q5⟩)).2.2.1.symm.trans q.2) q5
   ·rw[klv] at t8;exact t8.trans T6
   ·rw[ep,zd];exact Q7 t9 (by show _<=m+2*((Qa f).length+1);omega) fun i=>Or.inl rfl
 ·obtain⟨r,g,nd,l1,l2,a,l8,cv,hm⟩:=L
  have ep:Qa (.add t f)=Qa t++Qa f:=rfl
  have ev:Qe (.add t f)=Qe t++Qe f:=rfl
  rw[ep] at g nd l1
  rw[ep,zd] at hp hm
  rw[ev] at l2
  rw[ev,zd] at l8
  obtain⟨nd1,nd2,nd3⟩:=zl.mp nd
  obtain⟨w1,w2,w3,w4⟩:=w
  have eI:QM b (.add t f)=(QM b t).bind fun t'=>(QM b f).bind fun f'=>some (.add t' f'):=rfl
  rw[eI]
  obtain⟨S1,F1,h1⟩:=iht p m S ⟨r.1,Qav g,nd1,fun i hi=>l1 i (zc.mpr (Or.inl hi)),fun c hc=>l2 c (zc.mpr (Or.inl hc)),a.1,by omega,cv,by omega⟩ (by omega)
  rcases h1 with⟨e1,n1⟩ | ⟨e1,T,n1,TF,hT,-⟩
  ·refine⟨S1,Qba F1 (Qa2 S1 []) (fun i hi=>by rw[ep];exact zc.mpr (Or.inl hi)) (fun i hi=>absurd hi (by simp)),Or.inl ⟨e1,by rw[n1];rfl⟩⟩
  obtain⟨T1,T2,T3,T4,T5,T6,T7⟩:=TF
  obtain⟨tT,tS,tL⟩:=hT w1
  have f0:∀c i,c≠1->c≠2->c≠3->c≠4->c≠5->c≠11->(c<16\/19<c)->¬(c=0/\7<=i/\i<=10)->S1 c i=S c i:=F1.1
  have smf:∀i∈Qa f,Qay S S1 i:=fun i hi=>by
   by_cases h8:8<=i
   ·exact F1.2 i (Or.inr ⟨fun q=>nd3 i q i hi rfl,(l1 i (zc.mpr (Or.inr hi)) h8).1⟩)
   ·exact F1.2 i (Or.inl (by omega))
  obtain⟨S2,F2,h2⟩:=ihf (p+(Qa t).length) (m+2*(Qa t).length) S1 ⟨Qbt f w4 smf r.2,QbX (f0 0 6 (by decide) (by decide) (by decide) (by decide) (by decide) (by decide) (by decide) (by omega)) (fun i=>f0 13 i (by decide) (by decide) (by decide) (by decide) (by decide) (by decide) (by decide) (by omega)) (Qaz g),nd2,fun i hi h8=>by rw[(smf i hi).2.2.1,(smf i hi).2.2.2.1];exact l1 i (zc.mpr (Or.inr hi)) h8,fun c hc=>by rw[(smf c ((QcZ f w4).subset hc)).2.2.2.1];exact l2 c (zc.mpr (Or.inr hc)),Qbk f w4 (fun u _ _ q=>by rw[f0 12 _ (by decide) (by decide) (by decide) (by decide) (by decide) (by decide) (by decide) (by omega)];exact q) a.2,by omega,T7,by omega⟩ (by omega)
  have FF:QQ S S2 (Qa (.add t f)):=Qba F1 F2 (fun i hi=>by rw[ep];exact zc.mpr (Or.inl hi)) (fun i hi h8=>by rw[ep];exact Or.inl (zc.mpr (Or.inr hi)))
  rcases h2 with⟨e2,n2⟩ | ⟨e2,T',n2,TF',-,hT'⟩
  ·exact⟨S2,FF,Or.inl ⟨by rw[e1,e2],by rw[n1,n2];rfl⟩⟩
  obtain⟨t1,t2,t3,t4,t5,t6,t7⟩:=TF'
  obtain⟨tF,tK,tL'⟩:=hT' w2
  have dis:∀i∈Qa T,8<=i->i∉Qa f:=fun i hi h8 q=>by
   rcases T4 i hi with q' | q'
   ·exact nd3 i q' i q rfl
   ·exact (l1 i (zc.mpr (Or.inr q)) h8).1 q'.2
  have smT:∀i∈Qa T,Qay S1 S2 i:=fun i hi=>by
   by_cases h8:8<=i
   ·exact F2.2 i (Or.inr ⟨dis i hi h8,T5 i hi h8⟩)
   ·exact F2.2 i (Or.inl (by omega))
  refine⟨S2,FF,Or.inr ⟨?_,.add T T',?_,⟨⟨tT,tF,T1,t1⟩,⟨Qbt T T1 smT T2,t2⟩,?_,fun i hi=>?_,fun i hi h8=>?_,?_,?_⟩,fun h=>absurd h id,fun _=>⟨trivial,?_,fun u hu=>?_⟩⟩⟩
  ·rw[e1,e2,ep,zd,z7]
  ·rw[n1,n2];rfl
  ·show (Qa T++Qa T').Nodup
   refine zl.mpr ⟨T3,t3,fun i hi j hj e=>?_⟩
   subst e
   by_cases h8:8<=i
   ·rcases t4 i hj with q | q
    ·exact dis i hi h8 q
    ·exact T5 i hi h8 q.2
   ·have a1:i∈Qa t:=by
     rcases T4 i hi with q | q
     ·exact q
     ·omega
    have a2:i∈Qa f:=by
     rcases t4 i hj with q | q
     ·exact q
     ·omega
    exact nd3 i a1 i a2 rfl
  ·rw[ep]
   rcases zc.mp (show i∈Qa T++Qa T' from hi) with q | q
   ·rcases T4 i q with q | q
    ·exact Or.inl (zc.mpr (Or.inl q))
    ·exact Or.inr q
   ·rcases t4 i q with q | q
    ·exact Or.inl (zc.mpr (Or.inr q))
    ·by_cases qt:i∈Qa t
     ·exact Or.inl (zc.mpr (Or.inl qt))
     ·by_cases q5:S 5 i=0
      ·exact Or.inr ⟨q.1,q5⟩
      ·exact absurd ((F1.2 i (Or.inr ⟨qt,q5⟩)).2.2.1.symm.trans q.2) q5
  ·rcases zc.mp (show i∈Qa T++Qa T' from hi) with q | q
   ·rw[(smT i q).2.2.1];exact T5 i q h8
   ·exact t5 i q h8
  ·exact List.Perm.append T6 t6
  ·rw[ep,zd];exact Q7 t7 (by omega) fun i=>Or.inl rfl
  ·show Qg T::(Qd T').map Qg=Qg t::(Qd f).map Qg
   rw[tS,tK]
  ·rcases zA.mp hu with e | e
   ·rw[e,(smT _ (QcN T T1 tT)).2.2.2.1,tS];exact tL
   ·exact tL' u e
 ·obtain⟨r,g,nd,l1,l2,a,l8,cv,hm⟩:=L
  exact⟨S,Qa2 S _,Or.inr ⟨rfl,.null,rfl,⟨trivial,trivial,nd,fun i hi=>Or.inl hi,fun i hi h8=>(l1 i hi h8).1,List.Perm.refl _,Q7 cv (by omega) fun i=>Or.inl rfl⟩,fun h=>absurd h id,fun _=>⟨trivial,rfl,fun u hu=>absurd hu (by simp[Qd])⟩⟩⟩
end Seg
def QeU(l E F:List Qf):List Qf->Option Qf
 |[]=>if E.length=0\/F.length<2 then some (.op2 .iand (.arg 0) (Qk l)) else some (.op2 .iand (.arg 0) (Qk (E++QI F)))
 |[y]=>if E.length=0 then some (.op2 .ior (.arg 0) (Qk (Qm y++QI F))) else some (.op2 .iand (.arg 0) (Qk (E++[.op2 .ior (.arg 0) (Qk (Qm y++QI F))])))
 |[y,z]=>if E.length=0 then some (.op2 .ior (.arg 0) (Qk (Qm y++QI F++(Qm z).reverse))) else some (.op2 .iand (.arg 0) (Qk (E++[.op2 .ior (.arg 0) (Qk (Qm y++QI F++(Qm z).reverse))])))
 |_=>none
def QaI(b:Nat->Bool)(l:List Qf):Option Qf:=QeU l (Qb b 0 l) (Qb b 1 l) (Qb b 2 l)
theorem QcB{A D S':MS}{P G H Z l:List Nat}{x m:Nat}{o:Jvm.Binary}{Ks:List Qf}(hx:8<=x/\x<64)(ho:o = .iand\/o = .ior)(hP:P.Nodup)(xP:x∈P)(lP:∀i∈P,8<=i->A 5 i≠0)(nG:G.Nodup)(hG:∀g∈G,8<=g/\A 5 g=0)(CD:Q3 A D H)(hH:∀h∈H,8<=h/\(h∈P\/A 5 h=0))(rK:∀u∈Ks,Qo u/\Qp u/\QA D u)(hk:2<=Ks.length/\Ks.length<=8)(cK:∀a,(Ks.flatMap Qa++[x]++Z).count a<=P.count a+G.count a)(vK:∀a,(Ks.flatMap Qe).count a=l.count a)(CS:Q3 D S' ([x]++Z))(hZ:∀z∈Z,8<=z)(S5:∀i,i∉Z->S' 5 i=D 5 i)(lD:∀i∈Ks.flatMap Qa++[x],8<=i->D 5 i≠0)(h1:S' 1 x=QaD o)(h3:S' 3 x=Int32.ofNat Ks.length)(h4:∀i,i<(Ks.map Qg).length->S' 4 (8*x+i)=Int32.ofNat ((Ks.map Qg).getD i 0))(cS:QaH S' m):Q5 A S' x P l m (.op2 o (.arg x) (Qk Ks))/\QQ A S' P:=by
 obtain⟨P1,P2⟩:=Qbe cK hP nG fun a ha hp=>lP a hp (hG a ha).1 (hG a ha).2
 obtain⟨P3,-,P4⟩:=zl.mp P1
 obtain⟨-,-,P5⟩:=zl.mp P3
 refine⟨QcH (G:=G) hx ho (Qbi rK CS fun i hi q=>?_) hk h1 h3 h4 hP nG hG lP (fun a=>?_) (fun i hi h8=>?_) vK cS,Qbz (Qbh CD CS) fun g hg=>?_⟩
 ·rcases zc.mp q with q | q
  ·exact P5 i hi x (by simp) (zh.mp q)
  ·exact P4 i (zc.mpr (Or.inl hi)) i q rfl
 ·have:=cK a
  rw[zg] at this
  omega
 ·rw[S5 i fun q=>P4 i hi i q rfl];exact lD i hi h8
 ·rcases zc.mp hg with q | q
  ·exact hH g q
  ·rcases zc.mp q with q | q
   ·rw[zh] at q;rw[q];exact⟨hx.1,Or.inl xP⟩
   ·refine⟨hZ g q,?_⟩
    rcases P2 g (zc.mpr (Or.inr q)) with q | q
    ·exact Or.inl q
    ·exact Or.inr (hG g q).2
section RootP
variable {f1:FT1}
theorem Qcf(hf1:Fx f1){S:MS}{z:Nat}{Ks:List Qf}(hz:z<64)(hK:∀u∈Ks,Qo u/\Qp u)(lK:Ks.length<=8)(L:QE S 16 7 (Ks.map Qg)):∃S',f1 (53,0,[.ref 0,.int (Int32.ofNat z)],[],S)=some (some (.int 1),S')/\QaO S S' [z]/\S' 1 z=S 1 z/\(∀i,S' 5 i=S 5 i)/\S' 3 z=Int32.ofNat Ks.length/\∀i,i<(Ks.map Qg).length->S' 4 (8*z+i)=Int32.ofNat ((Ks.map Qg).getD i 0):=by
 have slK:(Ks.map Qg).length=Ks.length:=zi _
 obtain⟨D6,e6,F6,D63,D64⟩:=QdO hf1 hz (by rw[slK];exact lK) L (Qbc hK)
 exact⟨D6,e6,QdU F6,F6 1 z (by decide) (by omega) (by omega),fun i=>F6 5 i (by decide) (by omega) (by omega),by rw[D63,slK],D64⟩
theorem Qc3(hf1:Fx f1)(S:MS){y:Nat}(hs:8<=y/\y<64):∃S',f1 (33,0,[.ref 0,.int (Int32.ofNat y)],[],S)=some (none,S')/\QaO S S' [y]/\∀i,S' 5 i=S 5 i\/S' 5 i=0:=by
 obtain⟨D7,e7,F7,D75⟩:=Qdn hf1 S hs.1 hs.2
 refine⟨D7,e7,fun c i g1 g2 g3=>F7 c i g1 (fun q=>g2 ⟨by omega,by simp[q.2]⟩) (fun q=>g3 ⟨q.1,by rw[zh];omega⟩),fun i=>?_⟩
 by_cases q:i=y
 ·rw[q];exact Or.inr D75
 ·exact Or.inl (F7 5 i (by decide) (by omega) (by omega))
theorem QdE(hf1:Fx f1){A D:MS}{x z:Nat}{E:List Qf}{T1:Qf}(hx:x<64)(hE:∀u∈E,Qo u/\Qp u)(h1:Qo T1)(w1:Qp T1)(hz:Qg T1=z)(lE:E.length+1<=8)(LE:QE D 17 8 (E.map Qg)):∃D1 D2 S',f1 (51,0,[.ref 0],[],Jvm.OM.upd D 0 7 0)=some (none,D1)/\f1 (50,0,[.ref 0,.int (Int32.ofNat z)],[],D1)=some (none,D2)/\f1 (53,0,[.ref 0,.int (Int32.ofNat x)],[],D2)=some (some (.int 1),S')/\Q3 D S' [x]/\S' 1 x=D 1 x/\(∀i,S' 5 i=D 5 i)/\S' 3 x=Int32.ofNat (E++[T1]).length/\∀i,i<((E++[T1]).map Qg).length->S' 4 (8*x+i)=Int32.ofNat (((E++[T1]).map Qg).getD i 0):=by
 have slE:(E.map Qg).length=E.length:=zi _
 obtain⟨D1,e1,F1,L1⟩:=Qfp hf1 (S:=Jvm.OM.upd D 0 7 0) (q:=[]) (l:=E.map Qg) (by rw[slE];omega) (Qbc hE) (by rw[slE];simp;omega) (Qa9 (by rw[Qh,za (by omega)]) (fun i=>by rw[Qh,za (by omega)]) LE) ⟨rfl,fun i hi=>absurd hi (by simp)⟩
 rw[zac] at L1
 obtain⟨D2,e2,F2,L2⟩:=QbT hf1 (Qas h1 w1) (by rw[slE];omega) L1
 rw[hz] at e2
 have hT:∀u∈E++[T1],Qo u/\Qp u:=fun u hu=>by
  rcases zc.mp hu with q | q
  ·exact hE u q
  ·rw[zh] at q;rw[q];exact⟨h1,w1⟩
 obtain⟨S',e3,C3,k1,k5,k3,k4⟩:=Qcf hf1 (S:=D2) (z:=x) (Ks:=E++[T1]) hx hT (by rw[zd];exact lE) (by rw[zr];exact L2)
 have f2:∀c i,c≠16->¬(c=0/\i=7)->D2 c i=D c i:=fun c i h1 h2=>by rw[F2 c i h1 h2,F1 c i h1 h2,Qh,za h2]
 refine⟨D1,D2,S',e1,e2,e3,Qbh (QgQ f2) (QZ C3),k1.trans (f2 1 x (by decide) (by omega)),fun i=>(k5 i).trans (f2 5 i (by decide) (by omega)),k3,k4⟩
theorem QfU(hf1:Fx f1){v:Int32}{R:List Qf}(h:(R=[]/\v = -1)\/∃r,R=[r]/\v=Int32.ofNat (Qg r))(hR:∀u∈R,Qo u/\Qp u):¬v < -1/\R.length<=1:=by
 rcases h with⟨e',e⟩ | ⟨r,e',e⟩
 ·rw[e,e'];exact⟨by decide,by simp⟩
 ·have:=Qas (hR r (by rw[e'];simp)).1 (hR r (by rw[e'];simp)).2
  refine⟨fun q=>?_,by rw[e'];simp⟩
  rw[e,zL,Qak (by omega)] at q
  have:(-1:Int32).toInt = -1:=rfl
  omega
theorem QdS(hf1:Fx f1){A:MS}{b:Nat->Bool}{x m:Nat}{K:List Qf}{o:Jvm.Binary}(k:Qai A b o x K m)(hm:m<54)(LF:QE A 18 9 ((Qb b 1 K).map Qg)):∃v R G B,f1 (48,0,[.ref 0,.int 1],[],A)=some (some (.int v),B)/\QaO A B G/\(∀g∈G,8<=g/\g<64/\A 5 g=0/\B 5 g≠0)/\G.Nodup/\QaH B (m+2)/\(∀u∈R,Qo u/\Qp u/\QA B u)/\QI ((Qb b 1 K).map Qc)=R.map Qc/\R.flatMap Qe=(Qb b 1 K).flatMap Qe/\R.flatMap Qa=(Qb b 1 K).flatMap Qa++G/\((R=[]/\v = -1)\/∃r,R=[r]/\v=Int32.ofNat (Qg r))/\(2<=(Qb b 1 K).length->¬v<0)/\(∀u∈K,Qo u/\Qp u/\QA B u)/\(∀i∈K.flatMap Qa++[x],8<=i->B 5 i≠0)/\¬v < -1/\R.length<=1:=by
 obtain⟨k1,k2,k3,k4,k5,k6,k7,k8,k9,k10⟩:=k
 have in1:∀i∈(Qb b 1 K).flatMap Qa,i∈K.flatMap Qa++[x]:=fun i hi=>by
  obtain⟨u,hu,h⟩:=zt.mp hi
  exact zc.mpr (Or.inl (zt.mpr ⟨u,(QD.mp hu).1,h⟩))
 obtain⟨v,R,G,B,eB,CB,fB,nB,cB,mR,sR,lR,pR,hv,ne,v0⟩:=QdF hf1 (S:=A) (L:=Qb b 1 K) (m:=m) (Or.inr ⟨rfl,rfl,rfl,rfl⟩) (zB (zN _ _) k3.2) (fun u hu=>⟨(k2 u (QD.mp hu).1).1,(k2 u (QD.mp hu).1).2.1,(k2 u (QD.mp hu).1).2.2.1⟩) LF k10 (by omega) fun i hi=>k8 i (in1 i hi)
 have dB:∀i,i∈K.flatMap Qa++[x]->i∉G:=fun i hi q=>k8 i hi (fB i q).1 (fB i q).2.2.1
 have n:=QfU hf1 hv fun u hu=>⟨(mR u hu).1,(mR u hu).2.1⟩
 refine⟨v,R,G,B,eB,CB,fB,nB,Q7 cB (by omega) (fun i=>Or.inl rfl),mR,sR,lR,pR,hv,fun h q=>?_,Qbi (fun u hu=>⟨(k2 u hu).1,(k2 u hu).2.1,(k2 u hu).2.2.1⟩) (QZ CB) fun i hi=>dB i (zc.mpr (Or.inl hi)),fun i hi h8=>by rw[(Qaf (QZ CB) (dB i hi)).2.2.1];exact k8 i hi h8,n.1,n.2⟩
 exact Int32.not_lt.mpr (v0 h) q
theorem QcT(hf1:Fx f1){A B D6 S':MS}{b:Nat->Bool}{x m:Nat}{K Ks1:List Qf}{y:Qf}{G Z2:List Nat}(k:Qai A b .iand x K m)(CB:QaO A B G)(fB:∀g∈G,8<=g/\g<64/\A 5 g=0/\B 5 g≠0)(nG:G.Nodup)(cB:QaH B (m+2))(mE:∀u∈Qb b 0 K,Qo u/\Qp u/\QA B u)(lB:∀i∈K.flatMap Qa++[x],8<=i->B 5 i≠0)(hy:8<=Qg y/\Qg y<64)(mK:∀u∈Ks1,Qo u/\Qp u/\QA B u)(nK:2<=Ks1.length/\Ks1.length<=8)(nE:Qb b 0 K≠[])(cK:∀a,(Ks1.flatMap Qa++(Qb b 0 K).flatMap Qa++[Qg y]++[x]++Z2).count a=(K.flatMap Qa++[x]).count a+G.count a)(vK:∀a,((Qb b 0 K).flatMap Qe++Ks1.flatMap Qe).count a=(K.flatMap Qe).count a)(C6:Q3 B D6 ([Qg y]++Z2))(hZ:∀z∈Z2,8<=z)(D1:D6 1 (Qg y)=2)(D3:D6 3 (Qg y)=Int32.ofNat Ks1.length)(D4:∀i,i<(Ks1.map Qg).length->D6 4 (8*Qg y+i)=Int32.ofNat ((Ks1.map Qg).getD i 0))(D5:∀i,i∉Z2->D6 5 i=B 5 i)(D5':∀i,D6 5 i=B 5 i\/D6 5 i=0)(D1x:D6 1 x=1):(Qo (.op2 .ior (.arg (Qg y)) (Qk Ks1))/\Qp (.op2 .ior (.arg (Qg y)) (Qk Ks1))/\(Qb b 0 K).length+1<=8)/\(Q3 D6 S' [x]->S' 1 x=D6 1 x->(∀i,S' 5 i=D6 5 i)->S' 3 x=Int32.ofNat (Qb b 0 K++[Jvm.Term.op2 .ior (.arg (Qg y)) (Qk Ks1)]).length->(∀i,i<((Qb b 0 K++[Jvm.Term.op2 .ior (.arg (Qg y)) (Qk Ks1)]).map Qg).length->S' 4 (8*x+i)=Int32.ofNat (((Qb b 0 K++[Jvm.Term.op2 .ior (.arg (Qg y)) (Qk Ks1)]).map Qg).getD i 0))->Q5 A S' x (K.flatMap Qa++[x]) (K.flatMap Qe) (m+2) (.op2 .iand (.arg x) (Qk (Qb b 0 K++[Jvm.Term.op2 .ior (.arg (Qg y)) (Qk Ks1)])))/\QQ A S' (K.flatMap Qa++[x])):=by
 obtain⟨k1,k2,k3,k4,k5,k6,k7,k8,k9,k10⟩:=k
 have wT:Qp (.op2 .ior (.arg (Qg y)) (Qk Ks1)):=⟨hy,Or.inr rfl,by rw[QV];exact nK,QaY _,Qco fun u hu=>⟨(mK u hu).1,(mK u hu).2.1⟩⟩
 have eT:Qa (.op2 .ior (.arg (Qg y)) (Qk Ks1))=Ks1.flatMap Qa++[Qg y]:=by show Qa (Qk Ks1)++_=_;rw[Qcv]
 have vT:Qe (.op2 .ior (.arg (Qg y)) (Qk Ks1))=Ks1.flatMap Qe:=QaM Ks1
 have n8:(Qb b 0 K).length+1<=8:=by
  have h1:=QaT (Qb b 0 K) fun u hu=>⟨(mE u hu).1,(mE u hu).2.1⟩
  have h2:=QaT Ks1 fun u hu=>⟨(mK u hu).1,(mK u hu).2.1⟩
  have h3:=(zE.mpr vK).length_eq
  rw[zd] at h3
  omega
 refine⟨⟨trivial,wT,n8⟩,fun C h1 h5 h3 h4=>?_⟩
 obtain⟨P1,P2⟩:=Qbe (fun a=>Nat.le_of_eq (cK a)) k7 nG fun a ha hp=>k8 a hp (fB a ha).1 (fB a ha).2.2.1
 have cnt:∀a∈Ks1.flatMap Qa++(Qb b 0 K).flatMap Qa,a∉[Qg y]++Z2:=fun a ha q=>by
  have h:=zF.mp P1 a
  have h1:=zw.mpr ha
  have h2:=zw.mpr q
  simp only[zg] at h h1 h2
  omega
 have xn:x∉[Qg y]++Z2:=fun q=>by
  have h:=zF.mp P1 x
  have h2:=zw.mpr q
  have h3:[x].count x=1:=by simp
  simp only[zg] at h h2
  omega
 have yn:Qg y∉Z2:=fun q=>by
  have h:=zF.mp P1 (Qg y)
  have h2:=zw.mpr q
  have h3:[Qg y].count (Qg y)=1:=by simp
  simp only[zg] at h
  omega
 have mK6:=Qbi mK C6 fun i hi=>cnt i (zc.mpr (Or.inl hi))
 have mE6:=Qbi mE C6 fun i hi=>cnt i (zc.mpr (Or.inr hi))
 have rT:QA D6 (.op2 .ior (.arg (Qg y)) (Qk Ks1)):=⟨D1,by rw[QV];exact D3,by rw[QV];exact Qc0 D4,Qcz fun u hu=>(mK6 u hu).2.2⟩
 have lv0:∀i∈Ks1.flatMap Qa++(Qb b 0 K).flatMap Qa++[Qg y]++[x],8<=i->B 5 i≠0:=fun i hi h8=>by
  rcases P2 i (zc.mpr (Or.inl hi)) with q | q
  ·exact lB i q h8
  ·exact (fB i q).2.2.2
 refine QcB (D:=D6) (H:=G++([Qg y]++Z2)) (Z:=[]) (G:=G) k1 (Or.inl rfl) k7 (by simp) k8 nG (fun g hg=>⟨(fB g hg).1,(fB g hg).2.2.1⟩) (Qbh (QZ CB) C6) (fun h hh=>?_) (fun u hu=>?_) ⟨?_,by rw[zd];exact n8⟩ (fun a=>?_) (fun a=>?_) (by rw[zk];exact C) (fun z hz=>absurd hz (by simp)) (fun i _=>h5 i) (fun i hi h8=>?_) (h1.trans D1x) h3 h4 (Q7 cB (zn _) fun i=>by rw[h5];exact D5' i)
 ·rcases zc.mp hh with q | q
  ·exact⟨(fB h q).1,Or.inr (fB h q).2.2.1⟩
  ·refine⟨?_,?_⟩
   ·rcases zc.mp q with q | q
    ·rw[zh] at q;rw[q];exact hy.1
    ·exact hZ h q
   ·have:h∈Ks1.flatMap Qa++(Qb b 0 K).flatMap Qa++[Qg y]++[x]++Z2:=by
     rcases zc.mp q with q | q
     ·exact zc.mpr (Or.inl (zc.mpr (Or.inl (zc.mpr (Or.inr q)))))
     ·exact zc.mpr (Or.inr q)
    rcases P2 h this with q | q
    ·exact Or.inl q
    ·exact Or.inr (fB h q).2.2.1
 ·rcases zc.mp hu with q | q
  ·exact mE6 u q
  ·rw[zh] at q;rw[q];exact⟨trivial,wT,rT⟩
 ·have:=zZ.mpr nE
  rw[zd,zam];omega
 ·have h:=cK a
  rw[zj,zf,zo,eT,zk,zk]
  simp only[zg] at h ⊢
  omega
 ·have h:=vK a
  rw[zj,zf,zo,vT,zk];exact h
 ·rw[zj,zf,zo,eT,zk] at hi
  have hi':i∈Ks1.flatMap Qa++(Qb b 0 K).flatMap Qa++[Qg y]++[x]:=by
   simp only[zc] at hi ⊢
   rcases hi with (q | q | q) | q
   ·exact Or.inl (Or.inl (Or.inr q))
   ·exact Or.inl (Or.inl (Or.inl q))
   ·exact Or.inl (Or.inr q)
   ·exact Or.inr q
  rw[D5 i]
  ·exact lv0 i hi' h8
  ·intro q
   have h:=zF.mp P1 i
   have h1:=zw.mpr hi'
   have h2:=zw.mpr q
   rw[zg] at h
   omega
theorem QfX(hf1:Fx f1){A:MS}{b:Nat->Bool}{x m:Nat}{K:List Qf}(k:Qai A b .iand x K m)(hm:m<54)(LE:QE A 17 8 ((Qb b 0 K).map Qg))(LF:QE A 18 9 ((Qb b 1 K).map Qg))(hY:Qb b 2 K=[]):∃S' T,f1 (60,0,[.ref 0,.int (Int32.ofNat x)],[],A)=some (some (.int 1),S')/\(Q5 A S' x (K.flatMap Qa++[x]) (K.flatMap Qe) (m+2) T/\QQ A S' (K.flatMap Qa++[x]))/\(if (Qb b 0 K).length=0\/(Qb b 1 K).length<2 then some (.op2 .iand (.arg 0) (Qk (K.map Qc))) else some (.op2 .iand (.arg 0) (Qk ((Qb b 0 K).map Qc++QI ((Qb b 1 K).map Qc)))))=some (Qc T):=by
 have ln:∀v,(Qb b v K).length<=8:=fun v=>zB (zN _ _) k.2.2.1.2
 have ln0:=ln 0
 have ln1:=ln 1
 have E0:=LE.1
 have E1:=LF.1
 rw[zi] at E0 E1
 have stay:∃S' T,some (some (Jvm.Value.int 1),A)=some (some (.int 1),S')/\(Q5 A S' x (K.flatMap Qa++[x]) (K.flatMap Qe) (m+2) T/\QQ A S' (K.flatMap Qa++[x]))/\some (.op2 .iand (.arg 0) (Qk (K.map Qc)))=some (Qc T):=by
  refine⟨A,_,rfl,QdR (S:=A) (S':=A) (Or.inl rfl) k (fun _ _ _ _ _ _ _=>rfl) (fun _ _ _=>rfl),?_⟩
  show _=some (Jvm.Term.op2 .iand (.arg 0) (Qc (Qk K)))
  rw[QaB]
 rw[Ed1 hf1,E0,E1]
 by_cases qE:(Qb b 0 K).length=0
 ·rw[zb ((Qaa (by omega)).mpr qE),zb (Or.inl qE)];exact stay
 rw[za (fun e=>qE ((Qaa (by omega)).mp e))]
 by_cases qF:(Qb b 1 K).length<2
 ·rw[zb (show Int32.ofNat _<2 from (Ql (b:=2) (by omega) (by omega)).mpr qF),zb (Or.inr qF)];exact stay
 rw[za (show ¬Int32.ofNat (Qb b 1 K).length<2 from fun q=>absurd ((Ql (a:=(Qb b 1 K).length) (b:=2) (by omega) (by omega)).mp q) qF),za (by omega)]
 obtain⟨v,R,G,B,eB,CB,fB,nG,cB,mR,sR,lR,pR,hv,v0,mK,lB,-,-⟩:=QdS hf1 k hm LF
 have v0':=v0 (by omega)
 rw[eB];simp only[zz]
 rw[EcF hf1,za v0',Ea hf1];simp only[zz]
 rcases hv with⟨-,e⟩ | ⟨r,e,ev⟩
 ·exact absurd (by rw[e];decide) v0'
 subst e ev
 obtain⟨k1,k2,k3,k4,k5,k6,k7,k8,k9,k10⟩:=k
 have mE:∀u∈Qb b 0 K,Qo u/\Qp u/\QA B u:=fun u hu=>mK u (QD.mp hu).1
 have mr:=mR r (by simp)
 rw[zf,zo,zk] at lR pR
 have cV:∀a,((Qb b 0 K++[r]).flatMap Qe).count a=(K.flatMap Qe).count a:=fun a=>by
  rw[Qa0 b Qe a K,hY,zj,zf,zo,zk,lR,zg]
  show _=_+0+_
  omega
 have tE:∀u∈Qb b 0 K++[r],Qo u/\Qp u/\QA B u:=fun u hu=>by
  rcases zc.mp hu with q | q
  ·exact mE u q
  ·exact mR u q
 have n8:(Qb b 0 K).length+1<=8:=by
  have h1:=QaT (Qb b 0 K++[r]) fun u hu=>⟨(tE u hu).1,(tE u hu).2.1⟩
  have h3:=(zE.mpr cV).length_eq
  rw[zd,zam] at h1
  omega
 obtain⟨D1,D2,S',e1,e2,e3,C,h1,h5,h3,h4⟩:=QdE hf1 (A:=A) (D:=B) (x:=x) (T1:=r) k1.2 (fun u hu=>⟨(mE u hu).1,(mE u hu).2.1⟩) mr.1 mr.2.1 rfl n8 (Qa9 (CB 0 8 (by decide) (by omega) (by omega)) (fun i=>CB 17 i (by decide) (by omega) (by omega)) LE)
 have cK:∀a,((Qb b 0 K++[r]).flatMap Qa++[x]++[]).count a<=(K.flatMap Qa++[x]).count a+G.count a:=fun a=>by
  rw[zk,zg,zg,Qa0 b Qa a K,hY,zj,zf,zo,zk,pR,zg,zg]
  show _<=_+0+_+_+_
  omega
 rw[EaQ hf1,e1];simp only[zz]
 rw[Edi hf1,e2];simp only[zz]
 rw[Ecx hf1,e3];simp only[zz]
 rw[Ebc hf1]
 have P2:=(Qbe cK k7 nG fun a ha hp=>k8 a hp (fB a ha).1 (fB a ha).2.2.1).2
 have dx:x∉G:=fun q=>k8 x (by simp) k1.1 (fB x q).2.2.1
 refine⟨S',.op2 .iand (.arg x) (Qk (Qb b 0 K++[r])),rfl,QcB (D:=B) (H:=G) (Z:=[]) (G:=G) k1 (Or.inl rfl) k7 (by simp) k8 nG (fun g hg=>⟨(fB g hg).1,(fB g hg).2.2.1⟩) (QZ CB) (fun h hh=>⟨(fB h hh).1,Or.inr (fB h hh).2.2.1⟩) tE ⟨?_,by rw[zd];exact n8⟩ cK cV (by rw[zk];exact C) (fun z hz=>absurd hz (by simp)) (fun i _=>h5 i) (fun i hi h8=>?_) (h1.trans ((CB 1 x (by decide) (fun q=>dx q.2) (by omega)).trans k4)) h3 h4 (Q7 cB (zn _) fun i=>Or.inl (h5 i)),?_⟩
 ·rw[zd,zam];omega
 ·rcases P2 i (by rw[zk];exact hi) with q | q
  ·exact lB i q h8
  ·exact (fB i q).2.2.2
 ·show _=some (Jvm.Term.op2 .iand (.arg 0) (Qc (Qk (Qb b 0 K++[r]))))
  rw[QaB,zr,<-sR]
end RootP
section RootP2
variable {f1:FT1}
theorem QfF(hf1:Fx f1){A:MS}{b:Nat->Bool}{x m:Nat}{K:List Qf}{y:Qf}(k:Qai A b .iand x K m)(hm:m<54)(LE:QE A 17 8 ((Qb b 0 K).map Qg))(LF:QE A 18 9 ((Qb b 1 K).map Qg))(LY:QE A 19 10 ((Qb b 2 K).map Qg))(hY:Qb b 2 K=[y]):∃S' T,f1 (61,0,[.ref 0,.int (Int32.ofNat x)],[],A)=some (some (.int 1),S')/\(Q5 A S' x (K.flatMap Qa++[x]) (K.flatMap Qe) (m+2) T/\QQ A S' (K.flatMap Qa++[x]))/\(if (Qb b 0 K).length=0 then some (.op2 .ior (.arg 0) (Qk (Qm (Qc y)++QI ((Qb b 1 K).map Qc)))) else some (.op2 .iand (.arg 0) (Qk ((Qb b 0 K).map Qc++[Jvm.Term.op2 .ior (.arg 0) (Qk (Qm (Qc y)++QI ((Qb b 1 K).map Qc)))]))))=some (Qc T):=by
 have ln0:(Qb b 0 K).length<=8:=zB (zN _ _) k.2.2.1.2
 obtain⟨v,R,G,B,eB,CB,fB,nG,cB,mR,sR,lR,pR,hv,-,mK,lB,n1,nR⟩:=QdS hf1 k hm LF
 have ym:y∈Qb b 2 K:=by rw[hY];simp
 have yK:=(QD.mp ym).1
 have y2:=(QD.mp ym).2
 obtain⟨yT,yW,yR⟩:=mK y yK
 obtain⟨q1,q2,q3,q4,q5,q6,q7⟩:=Qaw yT yW y2
 have e19:A 19 0=Int32.ofNat (Qg y):=by rw[hY] at LY;exact LY.2 0 (by simp)
 have kx:=k
 obtain⟨k1,k2,k3,k4,k5,k6,k7,k8,k9,k10⟩:=k
 rw[Eel hf1,eB];simp only[zz]
 rw[e19,EbK hf1,za n1,Ea hf1];simp only[zz]
 obtain⟨D2,e2,F2,L2⟩:=QbV hf1 (S:=Jvm.OM.upd B 0 7 0) (q:=[]) false yT yW y2 (QW (S:=B) (S':=Jvm.OM.upd B 0 7 0) (fun i=>⟨rfl,rfl⟩) (fun i=>rfl) y yW yR) (by simp;omega) ⟨rfl,fun i hi=>absurd hi (by simp)⟩
 have e2':f1 (52,0,[.ref 0,.int (Int32.ofNat (Qg y)),.int 0],[],Jvm.OM.upd B 0 7 0)=some (none,D2):=e2
 have L2':QE D2 16 7 ((Qm y).map Qg):=by rw[zac] at L2;exact L2
 obtain⟨D3,e3,F3,L3⟩:=QcL hf1 (fun u hu=>⟨(mR u hu).1,(mR u hu).2.1⟩) hv (by rw[zi];omega) L2'
 rw[<-zr] at L3
 rw[EdD hf1,e2'];simp only[zz]
 rw[EeC hf1,e3];simp only[zz]
 have f3:∀c i,c≠16->¬(c=0/\i=7)->D3 c i=B c i:=fun c i h1 h2=>by rw[F3 c i h1 h2,F2 c i h1 h2,Qh,za h2]
 have rK:∀u∈Qm y++R,Qo u/\Qp u/\QA B u:=fun u hu=>by
  rcases zc.mp hu with q | q
  ·exact⟨(q3 u q).1,(q3 u q).2,(q7 B yR).1 u q⟩
  ·exact mR u q
 have tK:∀u∈Qm y++R,Qo u/\Qp u:=fun u hu=>⟨(rK u hu).1,(rK u hu).2.1⟩
 have cP:∀a,(K.flatMap Qa).count a+G.count a=((Qm y++R).flatMap Qa).count a+((Qb b 0 K).flatMap Qa).count a+[Qg y].count a:=fun a=>by
  rw[Qa0 b Qa a K,hY,zj,pR,zf,zo,zk,q4]
  simp only[zg]
  omega
 have cV:∀a,(K.flatMap Qe).count a=((Qm y++R).flatMap Qe).count a+((Qb b 0 K).flatMap Qe).count a:=fun a=>by
  rw[Qa0 b Qe a K,hY,zj,lR,zf,zo,zk,q5]
  simp only[zg]
  omega
 have shK:(Qm y++R).map Qc=Qm (Qc y)++QI ((Qb b 1 K).map Qc):=by rw[zr,q6,sR]
 have nK2:2<=(Qm y++R).length:=by rw[zd];omega
 have nK8:(Qm y++R).length<=8:=by
  have h1:=QaT _ tK
  have h2:(K.flatMap Qe).Perm ((Qm y++R).flatMap Qe++(Qb b 0 K).flatMap Qe):=zE.mpr fun a=>by rw[zg];exact cV a
  have h3:=h2.length_eq
  rw[zd] at h3
  omega
 generalize hKs:Qm y++R=Ks at *
 have E0:D3 0 8=Int32.ofNat (Qb b 0 K).length:=by
  have:=LE.1
  rw[zi] at this
  rw[f3 0 8 (by decide) (by omega),CB 0 8 (by decide) (by omega) (by omega)];exact this
 have dx:x∉G:=fun q=>k8 x (by simp) k1.1 (fB x q).2.2.1
 have B1x:B 1 x=1:=(CB 1 x (by decide) (fun q=>dx q.2) (by omega)).trans k4
 rw[Ect hf1,E0]
 by_cases qE:(Qb b 0 K).length=0
 ·have hE:=Q4.mp qE
  rw[hE] at cP cV
  rw[zb ((Qaa (by omega)).mpr qE),zb (Qt (by omega) k1.2),Qu (by omega),zb qE]
  obtain⟨D6,e6,C6,k61,k65,k63,k64⟩:=Qcf hf1 (S:=Jvm.OM.upd D3 1 x 2) (z:=x) (Ks:=Ks) k1.2 tK nK8 (Qa9 (by rw[Qh,za (by omega)]) (fun i=>by rw[Qh,za (by omega)]) L3)
  rw[e6];simp only[zz]
  obtain⟨D7,e7,C7,k75⟩:=Qc3 hf1 D6 q1
  rw[EbF hf1,za (by decide),e7];simp only[zz]
  rw[Edz hf1]
  have cK:∀a,(Ks.flatMap Qa++[x]++[Qg y]).count a<=(K.flatMap Qa++[x]).count a+G.count a:=fun a=>by
   have h:=cP a
   rw[zo,zan] at h
   simp only[zg] at h ⊢
   omega
  obtain⟨P1,P2⟩:=Qbe cK k7 nG fun a ha hp=>k8 a hp (fB a ha).1 (fB a ha).2.2.1
  have xy:x∉[Qg y]:=fun q=>(zl.mp P1).2.2 x (by simp) x q rfl
  have s7:=Qaf (QZ C7) xy
  refine⟨D7,.op2 .ior (.arg x) (Qk Ks),rfl,QcB (D:=B) (H:=G) (Z:=[Qg y]) (G:=G) k1 (Or.inr rfl) k7 (by simp) k8 nG (fun g hg=>⟨(fB g hg).1,(fB g hg).2.2.1⟩) (QZ CB) (fun h hh=>⟨(fB h hh).1,Or.inr (fB h hh).2.2.1⟩) rK ⟨nK2,nK8⟩ cK (fun a=>?_) (fun c i h1 h2 h3 h4 h5=>?_) (fun z hz=>?_) (fun i hi=>?_) (fun i hi h8=>?_) ?_ ?_ (fun i hi=>?_) (Q7 cB (zn _) fun i=>?_),?_⟩
  ·have h:=cV a
   rw[zo,zan] at h
   omega
  ·rw[C7 c i h1 (fun q=>h4 ⟨q.1,zc.mpr (Or.inr q.2)⟩) (fun q=>h5 ⟨q.1,zc.mpr (Or.inr q.2)⟩),C6 c i h1 (fun q=>h4 ⟨q.1,zc.mpr (Or.inl q.2)⟩) (fun q=>h5 ⟨q.1,zc.mpr (Or.inl q.2)⟩),Qh,za (fun q=>h4 ⟨by omega,by simp[q.2]⟩)]
   exact f3 c i (by omega) (by omega)
  ·rw[zh] at hz;rw[hz];exact q1.1
  ·rw[(Qaf (QZ C7) hi).2.2.1,k65,Qh,za (by omega),f3 5 i (by decide) (by omega)]
  ·rcases P2 i (zc.mpr (Or.inl hi)) with q | q
   ·exact lB i q h8
   ·exact (fB i q).2.2.2
  ·rw[s7.1,k61,Qh,zb ⟨rfl,rfl⟩];rfl
  ·rw[s7.2.1,k63]
  ·rw[s7.2.2.2.2 i (by rw[zi] at hi;omega)];exact k64 i hi
  ·rcases k75 i with q | q
   ·exact Or.inl (by rw[q,k65,Qh,za (by omega),f3 5 i (by decide) (by omega)])
   ·exact Or.inr q
  ·show _=some (Jvm.Term.op2 .ior (.arg 0) (Qc (Qk Ks)))
   rw[QaB,shK]
 ·rw[za (fun e=>qE ((Qaa (by omega)).mp e)),zb (Qt (by omega) q1.2),Qu (by omega),za qE]
  obtain⟨D6,e6,C6,k61,k65,k63,k64⟩:=Qcf hf1 (S:=Jvm.OM.upd D3 1 (Qg y) 2) (z:=Qg y) (Ks:=Ks) q1.2 tK nK8 (Qa9 (by rw[Qh,za (by omega)]) (fun i=>by rw[Qh,za (by omega)]) L3)
  rw[e6];simp only[zz]
  rw[EeD hf1,za (by decide),Ea hf1];simp only[zz]
  have cK:∀a,(Ks.flatMap Qa++(Qb b 0 K).flatMap Qa++[Qg y]++[x]++[]).count a=(K.flatMap Qa++[x]).count a+G.count a:=fun a=>by
   have h:=cP a
   simp only[zg,zan] at h ⊢
   omega
  have P1:=(Qbe (fun a=>Nat.le_of_eq (cK a)) k7 nG fun a ha hp=>k8 a hp (fB a ha).1 (fB a ha).2.2.1).1
  rw[zk] at P1
  have xy:x≠Qg y:=fun q=>(zl.mp P1).2.2 (Qg y) (by simp) x (by simp) q.symm
  have C6':Q3 B D6 ([Qg y]++[]):=fun c i h1 h2 h3 h4 h5=>by
   rw[zk] at h4 h5
   rw[C6 c i h1 h4 h5,Qh,za (fun q=>h4 ⟨by omega,by simp[q.2]⟩)]
   exact f3 c i (by omega) (by omega)
  have N:=QcT hf1 (S':=A) (y:=y) (Z2:=[]) kx CB fB nG cB (fun u hu=>mK u (QD.mp hu).1) lB q1 rK ⟨nK2,nK8⟩ (fun e=>qE (by rw[e];rfl)) cK (fun a=>by rw[zg,cV a];omega) C6' (fun z hz=>absurd hz (by simp)) (by rw[k61,Qh,zb ⟨rfl,rfl⟩]) k63 k64 (fun i _=>by rw[k65,Qh,za (by omega),f3 5 i (by decide) (by omega)]) (fun i=>Or.inl (by rw[k65,Qh,za (by omega),f3 5 i (by decide) (by omega)])) (by rw[C6 1 x (by decide) (by simp[xy]) (by omega),Qh,za (by omega),f3 1 x (by decide) (by omega)];exact B1x)
  obtain⟨⟨nt,nw,n8⟩,-⟩:=N
  obtain⟨D8,D9,S',e8,e9,eS,C,h1,h5,h3,h4⟩:=QdE hf1 (A:=A) (D:=D6) (x:=x) k1.2 (fun u hu=>⟨(mK u (QD.mp hu).1).1,(mK u (QD.mp hu).1).2.1⟩) nt nw rfl n8 (Qa9 (by rw[C6 0 8 (by decide) (by omega) (by omega),Qh,za (by omega),f3 0 8 (by decide) (by omega),CB 0 8 (by decide) (by omega) (by omega)]) (fun i=>by rw[C6 17 i (by decide) (by omega) (by omega),Qh,za (by omega),f3 17 i (by decide) (by omega),CB 17 i (by decide) (by omega) (by omega)]) LE)
  have e9':f1 (50,0,[.ref 0,.int (Int32.ofNat (Qg y))],[],D8)=some (none,D9):=e9
  rw[Ebq hf1,e8];simp only[zz]
  rw[Ebl hf1,e9'];simp only[zz]
  rw[EdB hf1,eS];simp only[zz]
  rw[EbN hf1]
  refine⟨S',.op2 .iand (.arg x) (Qk (Qb b 0 K++[Jvm.Term.op2 .ior (.arg (Qg y)) (Qk Ks)])),rfl,(QcT hf1 (S':=S') (y:=y) (Z2:=[]) kx CB fB nG cB (fun u hu=>mK u (QD.mp hu).1) lB q1 rK ⟨nK2,nK8⟩ (fun e=>qE (by rw[e];rfl)) cK (fun a=>by rw[zg,cV a];omega) C6' (fun z hz=>absurd hz (by simp)) (by rw[k61,Qh,zb ⟨rfl,rfl⟩]) k63 k64 (fun i _=>by rw[k65,Qh,za (by omega),f3 5 i (by decide) (by omega)]) (fun i=>Or.inl (by rw[k65,Qh,za (by omega),f3 5 i (by decide) (by omega)])) (by rw[C6 1 x (by decide) (by simp[xy]) (by omega),Qh,za (by omega),f3 1 x (by decide) (by omega)];exact B1x)).2 C h1 h5 h3 h4,?_⟩
  show _=some (Jvm.Term.op2 .iand (.arg 0) (Qc (Qk (Qb b 0 K++[Jvm.Term.op2 .ior (.arg (Qg y)) (Qk Ks)]))))
  rw[QaB,zr]
  show _=some (Jvm.Term.op2 .iand (.arg 0) (Qk (_++[Jvm.Term.op2 .ior (.arg 0) (Qc (Qk Ks))])))
  rw[QaB,shK]
theorem Qgx(hf1:Fx f1){A:MS}{b:Nat->Bool}{x m:Nat}{K:List Qf}{y z:Qf}(k:Qai A b .iand x K m)(hm:m<54)(LE:QE A 17 8 ((Qb b 0 K).map Qg))(LF:QE A 18 9 ((Qb b 1 K).map Qg))(LY:QE A 19 10 ((Qb b 2 K).map Qg))(hY:Qb b 2 K=[y,z]):∃S' T,f1 (62,0,[.ref 0,.int (Int32.ofNat x)],[],A)=some (some (.int 1),S')/\(Q5 A S' x (K.flatMap Qa++[x]) (K.flatMap Qe) (m+2) T/\QQ A S' (K.flatMap Qa++[x]))/\(if (Qb b 0 K).length=0 then some (.op2 .ior (.arg 0) (Qk (Qm (Qc y)++QI ((Qb b 1 K).map Qc)++(Qm (Qc z)).reverse))) else some (.op2 .iand (.arg 0) (Qk ((Qb b 0 K).map Qc++[Jvm.Term.op2 .ior (.arg 0) (Qk (Qm (Qc y)++QI ((Qb b 1 K).map Qc)++(Qm (Qc z)).reverse))]))))=some (Qc T):=by
 have ln0:(Qb b 0 K).length<=8:=zB (zN _ _) k.2.2.1.2
 obtain⟨v,R,G,B,eB,CB,fB,nG,cB,mR,sR,lR,pR,hv,-,mK,lB,n1,nR⟩:=QdS hf1 k hm LF
 have ym:y∈Qb b 2 K:=by rw[hY];simp
 have yK:=(QD.mp ym).1
 have y2:=(QD.mp ym).2
 obtain⟨yT,yW,yR⟩:=mK y yK
 obtain⟨q1,q2,q3,q4,q5,q6,q7⟩:=Qaw yT yW y2
 have zm:z∈Qb b 2 K:=by rw[hY];simp
 have zK:=(QD.mp zm).1
 have z2:=(QD.mp zm).2
 obtain⟨zT,zW,zR⟩:=mK z zK
 obtain⟨r1,r2,r3,r4,r5,r6,r7⟩:=Qaw zT zW z2
 have e191:A 19 1=Int32.ofNat (Qg z):=by rw[hY] at LY;exact LY.2 1 (by simp)
 have e19:A 19 0=Int32.ofNat (Qg y):=by rw[hY] at LY;exact LY.2 0 (by simp)
 have kx:=k
 obtain⟨k1,k2,k3,k4,k5,k6,k7,k8,k9,k10⟩:=k
 rw[EbL hf1,eB];simp only[zz]
 rw[e19,e191,EeJ hf1,za n1,Ea hf1];simp only[zz]
 obtain⟨D2,e2,F2,L2⟩:=QbV hf1 (S:=Jvm.OM.upd B 0 7 0) (q:=[]) false yT yW y2 (QW (S:=B) (S':=Jvm.OM.upd B 0 7 0) (fun i=>⟨rfl,rfl⟩) (fun i=>rfl) y yW yR) (by simp;omega) ⟨rfl,fun i hi=>absurd hi (by simp)⟩
 have e2':f1 (52,0,[.ref 0,.int (Int32.ofNat (Qg y)),.int 0],[],Jvm.OM.upd B 0 7 0)=some (none,D2):=e2
 have L2':QE D2 16 7 ((Qm y).map Qg):=by rw[zac] at L2;exact L2
 obtain⟨D3,e3,F3,L3⟩:=QcL hf1 (fun u hu=>⟨(mR u hu).1,(mR u hu).2.1⟩) hv (by rw[zi];omega) L2'
 rw[<-zr] at L3
 rw[Eb0 hf1,e2'];simp only[zz]
 rw[Ebd hf1,e3];simp only[zz]
 have f30:∀c i,c≠16->¬(c=0/\i=7)->D3 c i=B c i:=fun c i h1 h2=>by rw[F3 c i h1 h2,F2 c i h1 h2,Qh,za h2]
 have bnd:(Qm y).length+R.length+(Qm z).length<=8:=by
  have h1:=QaT _ q3
  have h2:=QaT R fun u hu=>⟨(mR u hu).1,(mR u hu).2.1⟩
  have h3:=QaT _ r3
  have hp:(K.flatMap Qe).Perm ((Qb b 0 K).flatMap Qe++((Qm y).flatMap Qe++(Qm z).flatMap Qe)++R.flatMap Qe):=zE.mpr fun a=>by
   rw[Qa0 b Qe a K,hY,lR,zf,zf,zo,zk,q5,r5]
   simp only[zg]
  have:=hp.length_eq
  simp only[zd] at this
  omega
 obtain⟨D30,e30,F30,L30⟩:=QbV hf1 (S:=D3) true zT zW z2 (QW (S:=B) (S':=D3) (fun i=>⟨f30 1 i (by decide) (by omega),f30 3 i (by decide) (by omega)⟩) (fun i=>f30 4 i (by decide) (by omega)) z zW zR) (by rw[zi,zd];omega) L3
 have e30':f1 (52,0,[.ref 0,.int (Int32.ofNat (Qg z)),.int 1],[],D3)=some (none,D30):=e30
 have L30':QE D30 16 7 ((Qm y++R++(Qm z).reverse).map Qg):=by rw[zr];exact L30
 rw[Edw hf1,e30'];simp only[zz]
 have f3:∀c i,c≠16->¬(c=0/\i=7)->D30 c i=B c i:=fun c i h1 h2=>by rw[F30 c i h1 h2,f30 c i h1 h2]
 have rvp:=(zv (Qm z)).flatMap_right Qa
 have rvv:=(zv (Qm z)).flatMap_right Qe
 have rK:∀u∈Qm y++R++(Qm z).reverse,Qo u/\Qp u/\QA B u:=fun u hu=>by
  rcases zc.mp hu with q | q
  ·rcases zc.mp q with q | q
   ·exact⟨(q3 u q).1,(q3 u q).2,(q7 B yR).1 u q⟩
   ·exact mR u q
  ·rw[zy] at q
   exact⟨(r3 u q).1,(r3 u q).2,(r7 B zR).1 u q⟩
 have tK:∀u∈Qm y++R++(Qm z).reverse,Qo u/\Qp u:=fun u hu=>⟨(rK u hu).1,(rK u hu).2.1⟩
 have cP:∀a,(K.flatMap Qa).count a+G.count a=((Qm y++R++(Qm z).reverse).flatMap Qa).count a+((Qb b 0 K).flatMap Qa).count a+[Qg y].count a+[Qg z].count a:=fun a=>by
  rw[Qa0 b Qa a K,hY,zj,zj,pR,zf,zf,zo,zk,q4,r4]
  simp only[zg]
  rw[rvp.count_eq]
  omega
 have cV:∀a,(K.flatMap Qe).count a=((Qm y++R++(Qm z).reverse).flatMap Qe).count a+((Qb b 0 K).flatMap Qe).count a:=fun a=>by
  rw[Qa0 b Qe a K,hY,zj,zj,lR,zf,zf,zo,zk,q5,r5]
  simp only[zg]
  rw[rvv.count_eq]
  omega
 have shK:(Qm y++R++(Qm z).reverse).map Qc=Qm (Qc y)++QI ((Qb b 1 K).map Qc)++(Qm (Qc z)).reverse:=by rw[zr,zr,zae,q6,r6,sR]
 have nK2:2<=(Qm y++R++(Qm z).reverse).length:=by rw[zd,zd];omega
 have nK8:(Qm y++R++(Qm z).reverse).length<=8:=by
  have h1:=QaT _ tK
  have h2:(K.flatMap Qe).Perm ((Qm y++R++(Qm z).reverse).flatMap Qe++(Qb b 0 K).flatMap Qe):=zE.mpr fun a=>by rw[zg];exact cV a
  have h3:=h2.length_eq
  rw[zd] at h3
  omega
 generalize hKs:Qm y++R++(Qm z).reverse=Ks at *
 have E0:D30 0 8=Int32.ofNat (Qb b 0 K).length:=by
  have:=LE.1
  rw[zi] at this
  rw[f3 0 8 (by decide) (by omega),CB 0 8 (by decide) (by omega) (by omega)];exact this
 have dx:x∉G:=fun q=>k8 x (by simp) k1.1 (fB x q).2.2.1
 have B1x:B 1 x=1:=(CB 1 x (by decide) (fun q=>dx q.2) (by omega)).trans k4
 rw[EdT hf1,E0]
 by_cases qE:(Qb b 0 K).length=0
 ·have hE:=Q4.mp qE
  rw[hE] at cP cV
  rw[zb ((Qaa (by omega)).mpr qE),zb (Qt (by omega) k1.2),Qu (by omega),zb qE]
  obtain⟨D6,e6,C6,k61,k65,k63,k64⟩:=Qcf hf1 (S:=Jvm.OM.upd D30 1 x 2) (z:=x) (Ks:=Ks) k1.2 tK nK8 (Qa9 (by rw[Qh,za (by omega)]) (fun i=>by rw[Qh,za (by omega)]) L30')
  rw[e6];simp only[zz]
  obtain⟨D70,e70,C70,k705⟩:=Qc3 hf1 D6 q1
  obtain⟨D7,e7,C71,k715⟩:=Qc3 hf1 D70 r1
  have C7:=Qfj C70 C71
  have k75:∀i,D7 5 i=D6 5 i\/D7 5 i=0:=fun i=>by
   rcases k715 i with q | q
   ·rw[q];exact k705 i
   ·exact Or.inr q
  rw[Eek hf1,za (by decide),e70];simp only[zz]
  rw[EbU hf1,e7];simp only[zz]
  rw[EdY hf1]
  have cK:∀a,(Ks.flatMap Qa++[x]++([Qg y]++[Qg z])).count a<=(K.flatMap Qa++[x]).count a+G.count a:=fun a=>by
   have h:=cP a
   rw[zo,zan] at h
   simp only[zg] at h ⊢
   omega
  obtain⟨P1,P2⟩:=Qbe cK k7 nG fun a ha hp=>k8 a hp (fB a ha).1 (fB a ha).2.2.1
  have xy:x∉[Qg y]++[Qg z]:=fun q=>(zl.mp P1).2.2 x (by simp) x q rfl
  have s7:=Qaf (QZ C7) xy
  refine⟨D7,.op2 .ior (.arg x) (Qk Ks),rfl,QcB (D:=B) (H:=G) (Z:=[Qg y]++[Qg z]) (G:=G) k1 (Or.inr rfl) k7 (by simp) k8 nG (fun g hg=>⟨(fB g hg).1,(fB g hg).2.2.1⟩) (QZ CB) (fun h hh=>⟨(fB h hh).1,Or.inr (fB h hh).2.2.1⟩) rK ⟨nK2,nK8⟩ cK (fun a=>?_) (fun c i h1 h2 h3 h4 h5=>?_) (fun z hz=>?_) (fun i hi=>?_) (fun i hi h8=>?_) ?_ ?_ (fun i hi=>?_) (Q7 cB (zn _) fun i=>?_),?_⟩
  ·have h:=cV a
   rw[zo,zan] at h
   omega
  ·rw[C7 c i h1 (fun q=>h4 ⟨q.1,zc.mpr (Or.inr q.2)⟩) (fun q=>h5 ⟨q.1,zc.mpr (Or.inr q.2)⟩),C6 c i h1 (fun q=>h4 ⟨q.1,zc.mpr (Or.inl q.2)⟩) (fun q=>h5 ⟨q.1,zc.mpr (Or.inl q.2)⟩),Qh,za (fun q=>h4 ⟨by omega,by simp[q.2]⟩)]
   exact f3 c i (by omega) (by omega)
  ·rcases zc.mp hz with hz | hz<;>rw[zh] at hz<;>rw[hz]
   ·exact q1.1
   ·exact r1.1
  ·rw[(Qaf (QZ C7) hi).2.2.1,k65,Qh,za (by omega),f3 5 i (by decide) (by omega)]
  ·rcases P2 i (zc.mpr (Or.inl hi)) with q | q
   ·exact lB i q h8
   ·exact (fB i q).2.2.2
  ·rw[s7.1,k61,Qh,zb ⟨rfl,rfl⟩];rfl
  ·rw[s7.2.1,k63]
  ·rw[s7.2.2.2.2 i (by rw[zi] at hi;omega)];exact k64 i hi
  ·rcases k75 i with q | q
   ·exact Or.inl (by rw[q,k65,Qh,za (by omega),f3 5 i (by decide) (by omega)])
   ·exact Or.inr q
  ·show _=some (Jvm.Term.op2 .ior (.arg 0) (Qc (Qk Ks)))
   rw[QaB,shK]
 ·rw[za (fun e=>qE ((Qaa (by omega)).mp e)),zb (Qt (by omega) q1.2),Qu (by omega),za qE]
  obtain⟨D6,e6,C6,k61,k65,k63,k64⟩:=Qcf hf1 (S:=Jvm.OM.upd D30 1 (Qg y) 2) (z:=Qg y) (Ks:=Ks) q1.2 tK nK8 (Qa9 (by rw[Qh,za (by omega)]) (fun i=>by rw[Qh,za (by omega)]) L30')
  obtain⟨D7,e7,C7,k75⟩:=Qc3 hf1 D6 r1
  rw[e6];simp only[zz]
  rw[Ec2 hf1,za (by decide),e7];simp only[zz]
  rw[Edd hf1,Ea hf1];simp only[zz]
  have cK:∀a,(Ks.flatMap Qa++(Qb b 0 K).flatMap Qa++[Qg y]++[x]++[Qg z]).count a=(K.flatMap Qa++[x]).count a+G.count a:=fun a=>by
   have h:=cP a
   simp only[zg,zan] at h ⊢
   omega
  have P1:=(Qbe (fun a=>Nat.le_of_eq (cK a)) k7 nG fun a ha hp=>k8 a hp (fB a ha).1 (fB a ha).2.2.1).1
  have P1z:=(zl.mp P1).2.2
  have xz:x≠Qg z:=fun q=>P1z x (by simp) (Qg z) (by simp) q
  have yz:Qg y∉[Qg z]:=fun q=>P1z (Qg y) (by simp) (Qg z) (by simp) (zh.mp q)
  have P1y:=(zl.mp P1).1
  have xy:x≠Qg y:=fun q=>(zl.mp P1y).2.2 (Qg y) (by simp) x (by simp) q.symm
  have s7:=Qaf (QZ C7) yz
  have s7x:=Qaf (QZ C7) (show x∉[Qg z] by simp[xz])
  have C6':Q3 B D7 ([Qg y]++[Qg z]):=fun c i h1 h2 h3 h4 h5=>by
   rw[C7 c i h1 (fun q=>h4 ⟨q.1,zc.mpr (Or.inr q.2)⟩) (fun q=>h5 ⟨q.1,zc.mpr (Or.inr q.2)⟩),C6 c i h1 (fun q=>h4 ⟨q.1,zc.mpr (Or.inl q.2)⟩) (fun q=>h5 ⟨q.1,zc.mpr (Or.inl q.2)⟩),Qh,za (fun q=>h4 ⟨by omega,by simp[q.2]⟩)]
   exact f3 c i (by omega) (by omega)
  have N:=QcT hf1 (S':=A) (y:=y) (Z2:=[Qg z]) kx CB fB nG cB (fun u hu=>mK u (QD.mp hu).1) lB q1 rK ⟨nK2,nK8⟩ (fun e=>qE (by rw[e];rfl)) cK (fun a=>by rw[zg,cV a];omega) C6' (fun w hw=>by rw[zh] at hw;rw[hw];exact r1.1) (by rw[s7.1,k61,Qh,zb ⟨rfl,rfl⟩]) (s7.2.1.trans k63) (fun i hi=>by rw[s7.2.2.2.2 i (by rw[zi] at hi;omega)];exact k64 i hi) (fun i hi=>by rw[(Qaf (QZ C7) hi).2.2.1,k65,Qh,za (by omega),f3 5 i (by decide) (by omega)]) (fun i=>by rcases k75 i with q | q;exact Or.inl (by rw[q,k65,Qh,za (by omega),f3 5 i (by decide) (by omega)]);exact Or.inr q) (by rw[s7x.1,C6 1 x (by decide) (by simp[xy]) (by omega),Qh,za (by omega),f3 1 x (by decide) (by omega)];exact B1x)
  obtain⟨⟨nt,nw,n8⟩,-⟩:=N
  obtain⟨D8,D9,S',e8,e9,eS,C,h1,h5,h3,h4⟩:=QdE hf1 (A:=A) (D:=D7) (x:=x) k1.2 (fun u hu=>⟨(mK u (QD.mp hu).1).1,(mK u (QD.mp hu).1).2.1⟩) nt nw rfl n8 (Qa9 (by rw[C7 0 8 (by decide) (by omega) (by omega),C6 0 8 (by decide) (by omega) (by omega),Qh,za (by omega),f3 0 8 (by decide) (by omega),CB 0 8 (by decide) (by omega) (by omega)]) (fun i=>by rw[C7 17 i (by decide) (by omega) (by omega),C6 17 i (by decide) (by omega) (by omega),Qh,za (by omega),f3 17 i (by decide) (by omega),CB 17 i (by decide) (by omega) (by omega)]) LE)
  have e9':f1 (50,0,[.ref 0,.int (Int32.ofNat (Qg y))],[],D8)=some (none,D9):=e9
  rw[Ed6 hf1,e8];simp only[zz]
  rw[Eea hf1,e9'];simp only[zz]
  rw[EeY hf1,eS];simp only[zz]
  rw[EeS hf1]
  refine⟨S',.op2 .iand (.arg x) (Qk (Qb b 0 K++[Jvm.Term.op2 .ior (.arg (Qg y)) (Qk Ks)])),rfl,(QcT hf1 (S':=S') (y:=y) (Z2:=[Qg z]) kx CB fB nG cB (fun u hu=>mK u (QD.mp hu).1) lB q1 rK ⟨nK2,nK8⟩ (fun e=>qE (by rw[e];rfl)) cK (fun a=>by rw[zg,cV a];omega) C6' (fun w hw=>by rw[zh] at hw;rw[hw];exact r1.1) (by rw[s7.1,k61,Qh,zb ⟨rfl,rfl⟩]) (s7.2.1.trans k63) (fun i hi=>by rw[s7.2.2.2.2 i (by rw[zi] at hi;omega)];exact k64 i hi) (fun i hi=>by rw[(Qaf (QZ C7) hi).2.2.1,k65,Qh,za (by omega),f3 5 i (by decide) (by omega)]) (fun i=>by rcases k75 i with q | q;exact Or.inl (by rw[q,k65,Qh,za (by omega),f3 5 i (by decide) (by omega)]);exact Or.inr q) (by rw[s7x.1,C6 1 x (by decide) (by simp[xy]) (by omega),Qh,za (by omega),f3 1 x (by decide) (by omega)];exact B1x)).2 C h1 h5 h3 h4,?_⟩
  show _=some (Jvm.Term.op2 .iand (.arg 0) (Qc (Qk (Qb b 0 K++[Jvm.Term.op2 .ior (.arg (Qg y)) (Qk Ks)]))))
  rw[QaB,zr]
  show _=some (Jvm.Term.op2 .iand (.arg 0) (Qk (_++[Jvm.Term.op2 .ior (.arg 0) (Qc (Qk Ks))])))
  rw[QaB,shK]
end RootP2
def QaC(b:Nat->Bool):List Qf->Nat
 |[]=>0
 |u::l=>if Qi b u=0 then QaC b l+1 else 0
def QaV(b:Nat->Bool)(l:List Qf):Nat:=l.length-1-QaC b l.reverse
def QT(b:Nat->Bool)(f la:Nat):Nat->List Qf->List Qf
 |_,[]=>[]
 |k,u::l=>(if Qi b u=2 then (if k=la/\k≠f then (Qm u).reverse else Qm u) else [u])++QT b f la (k+1) l
def Qbj(b:Nat->Bool)(f la:Nat)(l:List Qf):Prop:=∀k,f<k->k<la->k<l.length->Qi b (l.getD k .null)=1
def QbW(b:Nat->Bool)(f la:Nat)(l:List Qf):Bool:=(List.range l.length).all fun k=>decide (k<=f)||(decide (la<=k)||decide (Qi b (l.getD k .null)=1))
theorem QbB{b:Nat->Bool}{f la:Nat}{l:List Qf}:QbW b f la l=true↔Qbj b f la l:=by
 unfold QbW Qbj
 simp only[zC,zx,zai,decide_eq_true_eq]
 constructor
 ·intro h k h1 h2 h3
  rcases h k h3 with q | q | q
  ·omega
  ·omega
  ·exact q
 ·intro h k hk
  by_cases h1:k<=f
  ·exact Or.inl h1
  ·by_cases h2:la<=k
   ·exact Or.inr (Or.inl h2)
   ·exact Or.inr (Or.inr (h k (by omega) (by omega) hk))
def QaL(b:Nat->Bool)(l:List Qf):Option Qf:=if QbW b (QaC b l) (QaV b l) l=true then some (.op2 .ior (.arg 0) (Qk (QT b (QaC b l) (QaV b l) 0 l))) else none
theorem Qdt(b:Nat->Bool):∀l:List Qf,(∀u∈l,Qp u)->QaC b (l.map Qc)=QaC b l
 |[],_=>rfl
 |u::l,h=>by
  show (if Qi b (Qc u)=0 then QaC b (l.map Qc)+1 else 0)=if Qi b u=0 then QaC b l+1 else 0
  rw[Qbq b u (h u (by simp)),Qdt b l fun v hv=>h v (by simp[hv])]
theorem Qdp{b:Nat->Bool}:∀ {l:List Qf} {a:Nat},a<l.length->Qi b (l.getD a .null)≠0->(∀i,i<a->Qi b (l.getD i .null)=0)->QaC b l=a
 |[],_,h,_,_=>absurd h (by simp)
 |u::l,0,_,h,_=>by
  show (if Qi b u=0 then _ else 0)=0
  rw[za];exact h
 |u::l,a+1,h,h1,h2=>by
  show (if Qi b u=0 then QaC b l+1 else 0)=a+1
  rw[zb (show Qi b u=0 from h2 0 (by omega)),Qdp (l:=l) (a:=a) (by simp at h;omega) h1 fun i hi=>h2 (i+1) (by omega)]
theorem Qfb{l:List Qf}{i:Nat}(h:i<l.length):l.reverse.getD i .null=l.getD (l.length-1-i) .null:=by
 simp only[ze,List.getElem?_reverse h]
theorem QgZ{b:Nat->Bool}{l:List Qf}{a:Nat}(h:a<l.length)(h1:Qi b (l.getD a .null)≠0)(h2:∀i,a<i->i<l.length->Qi b (l.getD i .null)=0):QaV b l=a:=by
 unfold QaV
 rw[Qdp (l:=l.reverse) (a:=l.length-1-a) (by rw[zX];omega)]
 ·omega
 ·rw[Qfb (by omega),show l.length-1-(l.length-1-a)=a from by omega];exact h1
 ·intro i hi
  rw[Qfb (by omega)];exact h2 _ (by omega) (by omega)
theorem Qfz(b:Nat->Bool)(l:List Qf)(h:∀u∈l,Qp u):QaV b (l.map Qc)=QaV b l:=by
 unfold QaV
 rw[zi,<-zae,Qdt b l.reverse fun u hu=>h u (zy.mp hu)]
theorem Qej{l:List Qf}{i:Nat}(h:i<l.length):(l.map Qc).getD i .null=Qc (l.getD i .null):=by
 simp only[ze,List.getElem?_map,List.getElem?_eq_getElem h];rfl
theorem QeC(b:Nat->Bool)(f la:Nat)(l:List Qf)(h:∀u∈l,Qp u):Qbj b f la (l.map Qc)↔Qbj b f la l:=by
 unfold Qbj
 rw[zi]
 constructor<;>intro q k h1 h2 h3<;>have:=q k h1 h2 h3
 ·rw[Qej h3,Qbq b _ (h _ (Q9 h3))] at this;exact this
 ·rw[Qej h3,Qbq b _ (h _ (Q9 h3))];exact this
theorem Qcw(b:Nat->Bool)(f la:Nat):∀(l l':List Qf) (k:Nat),QT b f la k (l++l')=QT b f la k l++QT b f la (k+l.length) l'
 |[],l',k=>rfl
 |u::l,l',k=>by
  show _++QT b f la (k+1) (l++l')=(_++QT b f la (k+1) l)++_
  rw[Qcw b f la l l' (k+1),zG,zq,show k+1+l.length=k+(l.length+1) from by omega]
theorem QfH(b:Nat->Bool)(f la:Nat)(l:List Qf){k:Nat}(hk:k<l.length):QT b f la 0 (l.take (k+1))=QT b f la 0 (l.take k)++(if Qi b (l.getD k .null)=2 then (if k=la/\k≠f then (Qm (l.getD k .null)).reverse else Qm (l.getD k .null)) else [l.getD k .null]):=by
 rw[zah,List.getElem?_eq_getElem hk,Qcw,ze,List.getElem?_eq_getElem hk,List.length_take,Nat.min_eq_left (by omega),zD]
 show _++(_++[])=_
 rw[zk];rfl
theorem QfA(b:Nat->Bool)(f la:Nat)(l:List Qf)(k:Nat):(QT b f la 0 (l.take k)).length<=(QT b f la 0 l).length:=by
 have h:=Qcw b f la (l.take k) (l.drop k) 0
 rw[List.take_append_drop] at h
 rw[h,zd];omega
theorem Qeu{b:Nat->Bool}{f la:Nat}:∀ {l:List Qf} (k:Nat),(∀u∈l,Qo u/\Qp u)->(QT b f la k l).map Qc=QT b f la k (l.map Qc)/\(∀a,((QT b f la k l).flatMap Qa).count a<=(l.flatMap Qa).count a)/\(∀a,((QT b f la k l).flatMap Qe).count a=(l.flatMap Qe).count a)/\(∀u∈QT b f la k l,Qo u/\Qp u)/\l.length<=(QT b f la k l).length/\∀S,(∀u∈l,QA S u)->∀u∈QT b f la k l,QA S u
 |[],_,_=>⟨rfl,fun _=>zn _,fun _=>rfl,fun u hu=>absurd hu (by simp[QT]),zn _,fun S _ u hu=>absurd hu (by simp[QT])⟩
 |y::l,k,h=>by
  obtain⟨i1,i2,i3,i4,i5,i6⟩:=Qeu (b:=b) (f:=f) (la:=la) (l:=l) (k+1) fun u hu=>h u (by simp[hu])
  obtain⟨y1,y2⟩:=h y (by simp)
  have ex:∀v:Qf,∀l:List Qf,QT b f la k (v::l)=(if Qi b v=2 then (if k=la/\k≠f then (Qm v).reverse else Qm v) else [v])++QT b f la (k+1) l:=fun _ _=>rfl
  rw[zO,ex,ex,Qbq b y y2]
  by_cases e:Qi b y=2
  ·rw[zb e,zb e]
   obtain⟨k1,k2,k3,k4,k5,k6,k7⟩:=Qaw y1 y2 e
   have pr:(if k=la/\k≠f then (Qm y).reverse else Qm y).Perm (Qm y):=by
    split
    ·exact zv _
    ·exact List.Perm.refl _
   have ms:(if k=la/\k≠f then (Qm y).reverse else Qm y).map Qc=if k=la/\k≠f then (Qm (Qc y)).reverse else Qm (Qc y):=by
    rw[k6]
    split
    ·rw[zae]
    ·rfl
   rw[<-ms]
   generalize (if k=la/\k≠f then (Qm y).reverse else Qm y)=Q at pr
   refine⟨by rw[zr,i1],fun a=>?_,fun a=>?_,fun u hu=>?_,?_,fun S hS u hu=>?_⟩
   ·have:=i2 a
    rw[zj,zf,zg,zg,k4,zg,(pr.flatMap_right Qa).count_eq];omega
   ·have:=i3 a
    rw[zj,zf,zg,zg,k5,(pr.flatMap_right Qe).count_eq];omega
   ·rcases zc.mp hu with hu | hu
    ·exact k3 u (pr.mem_iff.mp hu)
    ·exact i4 u hu
   ·rw[zq,zd,pr.length_eq];omega
   ·rcases zc.mp hu with hu | hu
    ·exact (k7 S (hS y (by simp))).1 u (pr.mem_iff.mp hu)
    ·exact i6 S (fun v hv=>hS v (by simp[hv])) u hu
  ·rw[za e,za e]
   refine⟨by rw[zr,i1];rfl,fun a=>?_,fun a=>?_,fun u hu=>?_,?_,fun S hS u hu=>?_⟩
   ·have:=i2 a
    rw[zj,zf,zf,zo,zk,zg,zg];omega
   ·have:=i3 a
    rw[zj,zf,zf,zo,zk,zg,zg];omega
   ·rcases zc.mp hu with hu | hu
    ·rw[zh] at hu;rw[hu];exact⟨y1,y2⟩
    ·exact i4 u hu
   ·rw[zq,zd,zam];omega
   ·rcases zc.mp hu with hu | hu
    ·rw[zh] at hu;rw[hu];exact hS y (by simp)
    ·exact i6 S (fun v hv=>hS v (by simp[hv])) u hu
theorem Qb3{a c:Nat}(ha:a<100)(hc:c<100):Int32.ofNat a=Int32.ofNat c↔a=c:=⟨fun e=>by
 have:=congrArg Int32.toInt e
 rw[Qak (by omega),Qak (by omega)] at this
 omega,fun e=>by rw[e]⟩
section RootQ
variable {f1:FT1}
theorem Qgn(hf1:Fx f1){S:MS}{b:Nat->Bool}{x m:Nat}{K:List Qf}(k:Qai S b .iand x K m)(hm:m<54):∃a S',f1 (59,0,[.ref 0,.int (Int32.ofNat x)],[],S)=some (some (.int a),S')/\QQ S S' (K.flatMap Qa++[x])/\((a=0/\QaI b (K.map Qc)=none)\/(a=1/\∃T,Q5 S S' x (K.flatMap Qa++[x]) (K.flatMap Qe) (m+2) T/\QaI b (K.map Qc)=some (Qc T))):=by
 obtain⟨A,eA,CA,kA,L0,L1,L2⟩:=Qdv hf1 k
 have hw:∀u∈K,Qp u:=fun u hu=>(k.2.1 u hu).2.1
 have hk:=k.2.2.1
 have h5:∀i,A 5 i=S 5 i:=fun i=>(Qaf CA (by simp)).2.2.1
 have ln2:(Qb b 2 K).length<=8:=zB (zN _ _) hk.2
 have E2:=L2.1
 rw[zi] at E2
 have tp:QaI b (K.map Qc)=QeU (K.map Qc) ((Qb b 0 K).map Qc) ((Qb b 1 K).map Qc) ((Qb b 2 K).map Qc):=by
  unfold QaI
  rw[Qbp b 0 K hw,Qbp b 1 K hw,Qbp b 2 K hw]
 rw[tp,Ebu hf1,eA];simp only[zz]
 have FA:QQ S A []:=Qbz CA fun g hg=>absurd hg (by simp)
 have lift:∀S' T,Q5 A S' x (K.flatMap Qa++[x]) (K.flatMap Qe) (m+2) T/\QQ A S' (K.flatMap Qa++[x])->QQ S S' (K.flatMap Qa++[x])/\Q5 S S' x (K.flatMap Qa++[x]) (K.flatMap Qe) (m+2) T:=fun S' T h=>by
  obtain⟨⟨t1,t2,t3,t4,t5,t6,t7,t8,t9⟩,F⟩:=h
  exact⟨Qba FA F (fun i hi=>absurd hi (by simp)) fun i hi _=>Or.inl hi,t1,t2,t3,t4,t5,fun i hi=>by rw[<-h5];exact t6 i hi,t7,t8,t9⟩
 rw[EbP hf1,E2]
 match hY:Qb b 2 K with
 |[]=>
  rw[zb (by decide),zb (by decide)]
  obtain⟨S',T,e,h,hT⟩:=QfX hf1 kA hm L0 L1 hY
  rw[e];simp only[zz]
  rw[EeT hf1]
  obtain⟨F,TR⟩:=lift S' T h
  refine⟨1,S',rfl,F,Or.inr ⟨rfl,T,TR,?_⟩⟩
  show (if ((Qb b 0 K).map Qc).length=0\/((Qb b 1 K).map Qc).length<2 then _ else _)=_
  rw[zi,zi];exact hT
 |[y]=>
  rw[zb (show Int32.ofNat [y].length<3 by show (1:Int32)<3;decide),za (show ¬Int32.ofNat [y].length=0 by show ¬(1:Int32)=0;decide),zb (show Int32.ofNat [y].length=1 from rfl)]
  obtain⟨S',T,e,h,hT⟩:=QfF hf1 kA hm L0 L1 L2 hY
  rw[e];simp only[zz]
  rw[EdK hf1]
  obtain⟨F,TR⟩:=lift S' T h
  refine⟨1,S',rfl,F,Or.inr ⟨rfl,T,TR,?_⟩⟩
  show (if ((Qb b 0 K).map Qc).length=0 then _ else _)=_
  rw[zi];exact hT
 |[y,z]=>
  rw[zb (show Int32.ofNat [y,z].length<3 by show (2:Int32)<3;decide),za (show ¬Int32.ofNat [y,z].length=0 by show ¬(2:Int32)=0;decide),za (show ¬Int32.ofNat [y,z].length=1 by show ¬(2:Int32)=1;decide)]
  obtain⟨S',T,e,h,hT⟩:=Qgx hf1 kA hm L0 L1 L2 hY
  rw[e];simp only[zz]
  rw[EbZ hf1]
  obtain⟨F,TR⟩:=lift S' T h
  refine⟨1,S',rfl,F,Or.inr ⟨rfl,T,TR,?_⟩⟩
  show (if ((Qb b 0 K).map Qc).length=0 then _ else _)=_
  rw[zi];exact hT
 |y::z::w::l=>
  rw[hY] at ln2
  have h3:¬Int32.ofNat (y::z::w::l).length<3:=fun q=>absurd ((Ql (b:=3) (by omega) (by omega)).mp q) (by simp)
  rw[za h3]
  exact⟨0,A,rfl,Qba FA (Qa2 A []) (fun i hi=>absurd hi (by simp)) (fun i hi=>absurd hi (by simp)),Or.inl ⟨rfl,rfl⟩⟩
theorem Qf3(hf1:Fx f1){S:MS}{b:Nat->Bool}{x m:Nat}{K:List Qf}(k:Qai S b .ior x K m)(hne:∃u∈K,Qi b u≠0):∃a S',f1 (65,0,[.ref 0,.int (Int32.ofNat x)],[],S)=some (some (.int a),S')/\QQ S S' (K.flatMap Qa++[x])/\((a=0/\QaL b (K.map Qc)=none)\/(a=1/\∃T,Q5 S S' x (K.flatMap Qa++[x]) (K.flatMap Qe) (m+2) T/\QaL b (K.map Qc)=some (Qc T))):=by
 obtain⟨k1,k2,k3,k4,k5,k6,k7,k8,k9,k10⟩:=k
 have hw:∀u∈K,Qp u:=fun u hu=>(k2 u hu).2.1
 have htw:∀u∈K,Qo u/\Qp u:=fun u hu=>⟨(k2 u hu).1,(k2 u hu).2.1⟩
 have hlen:(K.map Qg).length=K.length:=zi _
 have lab:∀i,i<K.length->S 11 ((K.map Qg).getD i 0)=Qi b (K.getD i .null):=fun i hi=>by
  rw[show (K.map Qg).getD i 0=Qg (K.getD i .null) from by simp only[ze,List.getElem?_map,List.getElem?_eq_getElem hi];rfl,(k2 _ (Q9 hi)).2.2.2]
 have hne':∃i,i<(K.map Qg).length/\S 11 ((K.map Qg).getD i 0)≠0:=by
  obtain⟨u,hu,h⟩:=hne
  obtain⟨i,hi,e⟩:=List.getElem_of_mem hu
  refine⟨i,by rw[hlen];exact hi,?_⟩
  rw[lab i hi,ze,List.getElem?_eq_getElem hi]
  show Qi b K[i]≠0
  rw[e];exact h
 obtain⟨f,hf,hf1',hf2,ef⟩:=Qgh hf1 k1.2 (by rw[hlen];exact k3.2) (Qbc htw) (by rw[hlen];exact k5) (QbL k6) hne'
 obtain⟨la,hl,hl1,hl2,el⟩:=Qf5 hf1 k1.2 (by rw[hlen];exact k3.2) (Qbc htw) (by rw[hlen];exact k5) (QbL k6) hne'
 rw[hlen] at hf hl
 rw[lab f hf] at hf1'
 rw[lab la hl] at hl1
 have Ef:QaC b K=f:=Qdp hf hf1' fun i hi=>by rw[<-lab i (by omega)];exact hf2 i hi
 have El:QaV b K=la:=QgZ hl hl1 fun i h1 h2=>by rw[<-lab i h2];exact hl2 i h1 (by rw[hlen];exact h2)
 have tq:QaL b (K.map Qc)=if QbW b f la K=true then some (.op2 .ior (.arg 0) (Qk (QT b f la 0 (K.map Qc)))) else none:=by
  unfold QaL
  rw[Qdt b K hw,Qfz b K hw,Ef,El]
  by_cases q:Qbj b f la K
  ·rw[zb (QbB.mpr q),zb (QbB.mpr ((QeC b f la K hw).mpr q))]
  ·rw[za (fun h=>q (QbB.mp h)),za (fun h=>q ((QeC b f la K hw).mp (QbB.mp h)))]
 rw[tq,EaM hf1,ef];simp only[zz]
 rw[Ea2 hf1,el];simp only[zz]
 rw[Ebk hf1,za (Q0 (by omega)),Qv]
 have mid:∀n j,j+n=la->f<j->(∀i,f<i->i<j->Qi b (K.getD i .null)=1)->(Qbj b f la K/\f1 (65,23,[.ref 0,.int (Int32.ofNat x),.int (Int32.ofNat f),.int (Int32.ofNat la),.int (Int32.ofNat j)],[],S)=f1 (65,23,[.ref 0,.int (Int32.ofNat x),.int (Int32.ofNat f),.int (Int32.ofNat la),.int (Int32.ofNat la)],[],S))\/(¬Qbj b f la K/\f1 (65,23,[.ref 0,.int (Int32.ofNat x),.int (Int32.ofNat f),.int (Int32.ofNat la),.int (Int32.ofNat j)],[],S)=some (some (.int 0),S)):=fun n=>by
  induction n with
  |zero=>
   intro j hj h1 h2
   have:j=la:=by omega
   subst this
   exact Or.inl ⟨fun i h3 h4 _=>h2 i h3 h4,rfl⟩
  |succ n ih=>
   intro j hj h1 h2
   have hjK:j<K.length:=by omega
   have us:=Qas (htw _ (Q9 hjK)).1 (htw _ (Q9 hjK)).2
   rw[Ek hf1,zb ((Ql (by omega) (by omega)).mpr (by omega)),zb (show Int32.ofNat j<8 from (Ql (b:=8) (by omega) (by omega)).mpr (by omega)),Q8 hf1 S k1.2 (by omega),k6 j hjK];simp only[zz]
   rw[Edy hf1,QbS hf1 S us,(k2 _ (Q9 hjK)).2.2.2];simp only[zz]
   rw[Ee2 hf1]
   by_cases q:Qi b (K.getD j .null)=1
   ·rw[zb q,Qv]
    exact ih (j+1) (by omega) (by omega) fun i h3 h4=>by
     by_cases e:i=j
     ·rw[e];exact q
     ·exact h2 i h3 (by omega)
   ·rw[za q]
    exact Or.inr ⟨fun h=>q (h j h1 (by omega) hjK),rfl⟩
 obtain⟨x1,x2,x3,x4,x5,x6⟩:=Qeu (b:=b) (f:=f) (la:=la) (l:=K) 0 htw
 have lKs:(QT b f la 0 K).length<=8:=by
  have h1:=QaT _ x4
  have h2:=(zE.mpr x3).length_eq
  omega
 have fin:∀x4v:Int32,∃S',f1 (65,67,[.ref 0,.int (Int32.ofNat x),.int (Int32.ofNat f),.int (Int32.ofNat la),.int x4v],[],Jvm.OM.upd S 0 7 0)=some (some (.int 1),S')/\Q5 S S' x (K.flatMap Qa++[x]) (K.flatMap Qe) (m+2) (.op2 .ior (.arg x) (Qk (QT b f la 0 K)))/\QQ S S' (K.flatMap Qa++[x]):=fun x4v=>by
  rw[Ebf hf1,Qax hf1 (S:=Jvm.OM.upd S 0 7 0) k1.2 k5 k3.2];simp only[zz]
  rw[EaZ hf1]
  have key:∀j,j<=K.length->∃B,f1 (65,77,[.ref 0,.int (Int32.ofNat x),.int (Int32.ofNat f),.int (Int32.ofNat la),.int (Int32.ofNat K.length),.int 0],[],Jvm.OM.upd S 0 7 0)=f1 (65,77,[.ref 0,.int (Int32.ofNat x),.int (Int32.ofNat f),.int (Int32.ofNat la),.int (Int32.ofNat K.length),.int (Int32.ofNat j)],[],B)/\(∀c i,c≠16->¬(c=0/\i=7)->B c i=S c i)/\QE B 16 7 ((QT b f la 0 (K.take j)).map Qg):=fun j=>by
   induction j with
   |zero=>exact fun _=>⟨_,rfl,fun c i _ h=>by rw[Qh,za h],⟨rfl,fun i hi=>absurd hi (by simp[QT])⟩⟩
   |succ j ih=>
    intro hj
    obtain⟨B,eB,FB,LB⟩:=ih (by omega)
    have hj':j<K.length:=hj
    have hm:=Q9 hj'
    have us:=Qas (htw _ hm).1 (htw _ hm).2
    have ln:=QfA b f la K j
    have lb':B 11 (Qg (K.getD j .null))=Qi b (K.getD j .null):=by rw[FB 11 _ (by decide) (by omega)];exact (k2 _ hm).2.2.2
    rw[eB,EaA hf1,zb ((Ql (by omega) (by omega)).mpr hj'),zb (show Int32.ofNat j<8 from (Ql (b:=8) (by omega) (by omega)).mpr (by omega)),Q8 hf1 B k1.2 (by omega),FB 4 _ (by decide) (by omega),k6 j hj'];simp only[zz]
    rw[EcB hf1,QbS hf1 B us,lb'];simp only[zz]
    rw[EdF hf1,QfH b f la K hj']
    by_cases q:Qi b (K.getD j .null)=2
    ·have rB:QA B (K.getD j .null):=QW (fun i=>⟨FB 1 i (by decide) (by omega),FB 3 i (by decide) (by omega)⟩) (fun i=>FB 4 i (by decide) (by omega)) _ (htw _ hm).2 (k2 _ hm).2.2.1
     have kl:=(Qaw (htw _ hm).1 (htw _ hm).2 q).2.1.2
     rw[zb q,zb q,zr]
     have push:∀(bk:Bool) (w:Int32),w=(if bk=true then 1 else 0)->∃D,((f1 (52,0,[.ref 0,.int (Int32.ofNat (Qg (K.getD j .null))),.int w],[],B)).bind fun q=>f1 (65,141,[.ref 0,.int (Int32.ofNat x),.int (Int32.ofNat f),.int (Int32.ofNat la),.int (Int32.ofNat K.length),.int (Int32.ofNat j),.int (Int32.ofNat (Qg (K.getD j .null))),.int (Qi b (K.getD j .null)),.int w],q.1.toList++[],q.2))=f1 (65,77,[.ref 0,.int (Int32.ofNat x),.int (Int32.ofNat f),.int (Int32.ofNat la),.int (Int32.ofNat K.length),.int (Int32.ofNat (j+1))],[],D)/\(∀c i,c≠16->¬(c=0/\i=7)->D c i=S c i)/\QE D 16 7 ((QT b f la 0 (K.take j)).map Qg++(if bk=true then (Qm (K.getD j .null)).reverse else Qm (K.getD j .null)).map Qg):=fun bk w hw=>by
      obtain⟨D,eD,FD,LD⟩:=QbV hf1 bk (htw _ hm).1 (htw _ hm).2 q rB (by rw[zi];omega) LB
      rw[<-hw] at eD
      rw[eD];simp only[zz]
      rw[Edg hf1,Eaf hf1,Qv]
      exact⟨D,rfl,fun c i h1 h2=>(FD c i h1 h2).trans (FB c i h1 h2),LD⟩
     by_cases q1:j=la
     ·rw[zb ((Qb3 (by omega) (by omega)).mpr q1)]
      by_cases q2:j=f
      ·rw[zb ((Qb3 (by omega) (by omega)).mpr q2),za (fun h=>h.2 q2)]
       exact push false 0 rfl
      ·rw[za (fun h=>q2 ((Qb3 (by omega) (by omega)).mp h)),zb ⟨q1,q2⟩]
       exact push true 1 rfl
     ·rw[za (fun h=>q1 ((Qb3 (by omega) (by omega)).mp h)),za (fun h=>q1 h.1)]
      exact push false 0 rfl
    ·obtain⟨D,eD,FD,LD⟩:=QbT hf1 us (by rw[zi];omega) LB
     rw[za q,za q,eD];simp only[zz]
     rw[Eaf hf1,Qv]
     refine⟨D,rfl,fun c i h1 h2=>(FD c i h1 h2).trans (FB c i h1 h2),?_⟩
     rw[zr];exact LD
  obtain⟨B,eB,FB,LB⟩:=key _ (zn _)
  rw[List.take_length] at LB
  obtain⟨D6,e6,C6,k61,k65,k63,k64⟩:=Qcf hf1 k1.2 x4 lKs LB
  rw[eB,EaA hf1,za zp,e6];simp only[zz]
  rw[Ecf hf1]
  refine⟨D6,rfl,QcB (D:=S) (H:=[]) (Z:=[]) (G:=[]) k1 (Or.inr rfl) k7 (by simp) k8 zaA (fun g hg=>absurd hg (by simp)) (fun _ _ _ _ _ _ _=>rfl) (fun h hh=>absurd hh (by simp)) (fun u hu=>⟨(x4 u hu).1,(x4 u hu).2,x6 S (fun v hv=>(k2 v hv).2.2.1) u hu⟩) ⟨by omega,lKs⟩ (fun a=>?_) x3 (fun c i h1 h2 h3 h4 h5=>?_) (fun z hz=>absurd hz (by simp)) (fun i _=>(k65 i).trans (FB 5 i (by decide) (by omega))) (fun i hi h8=>?_) ((k61.trans (FB 1 x (by decide) (by omega))).trans k4) k63 k64 (Q7 k10 (by omega) fun i=>Or.inl ((k65 i).trans (FB 5 i (by decide) (by omega))))⟩
  ·have h:=x2 a
   rw[zk,zan]
   simp only[zg] at h ⊢
   omega
  ·rw[zk] at h4 h5
   rw[C6 c i h1 h4 h5];exact FB c i (by omega) (by omega)
  ·refine k8 i ?_ h8
   have h:=x2 i
   have h1:=zw.mpr hi
   refine zw.mp ?_
   simp only[zg] at h h1 ⊢
   omega
 have mid':(Qbj b f la K/\∃w,f1 (65,23,[.ref 0,.int (Int32.ofNat x),.int (Int32.ofNat f),.int (Int32.ofNat la),.int (Int32.ofNat (f+1))],[],S)=f1 (65,67,[.ref 0,.int (Int32.ofNat x),.int (Int32.ofNat f),.int (Int32.ofNat la),.int w],[],Jvm.OM.upd S 0 7 0))\/(¬Qbj b f la K/\f1 (65,23,[.ref 0,.int (Int32.ofNat x),.int (Int32.ofNat f),.int (Int32.ofNat la),.int (Int32.ofNat (f+1))],[],S)=some (some (.int 0),S)):=by
  by_cases q:f+1<=la
  ·rcases mid (la-(f+1)) (f+1) (by omega) (by omega) (fun i h1 h2=>by omega) with⟨h,e⟩ | h
   ·refine Or.inl ⟨h,Int32.ofNat la,?_⟩
    rw[e,Ek hf1,za zp,Ea hf1];simp only[zz]
   ·exact Or.inr h
  ·refine Or.inl ⟨fun i h1 h2 _=>by omega,Int32.ofNat (f+1),?_⟩
   rw[Ek hf1,za (by rw[Ql (by omega) (by omega)];omega),Ea hf1];simp only[zz]
 rcases mid' with⟨h,w,e⟩ | ⟨h,e⟩
 ·obtain⟨S',e',TR,FR⟩:=fin w
  rw[e,e',zb (QbB.mpr h)]
  refine⟨1,S',rfl,FR,Or.inr ⟨rfl,_,TR,?_⟩⟩
  show _=some (Jvm.Term.op2 .ior (.arg 0) (Qc (Qk (QT b f la 0 K))))
  rw[QaB,x1]
 ·rw[e,za (fun q=>h (QbB.mp q))]
  exact⟨0,S,rfl,Qa2 S _,Or.inl ⟨rfl,rfl⟩⟩
theorem Qgz(hf1:Fx f1){S:MS}{b:Nat->Bool}{o:Jvm.Binary}{x m:Nat}{K:List Qf}(ho:o = .iand\/o = .ior)(k:Qai S b o x K m)(hm:m<54)(hne:∃u∈K,Qi b u≠0):∃a S',f1 (46,0,[.ref 0,.int (Int32.ofNat x)],[],S)=some (some (.int a),S')/\QQ S S' (K.flatMap Qa++[x])/\((a=0/\(if o = .iand then QaI b (K.map Qc) else QaL b (K.map Qc))=none)\/(a=1/\∃T,Q5 S S' x (K.flatMap Qa++[x]) (K.flatMap Qe) (m+2) T/\(if o = .iand then QaI b (K.map Qc) else QaL b (K.map Qc))=some (Qc T))):=by
 have hx:=k.1
 have k4:=k.2.2.2.1
 have k1:S 1 x≠0:=by rw[k4];exact Qbo
 rw[Eab hf1,QbE hf1 S hx.2,za k1];simp only[zz]
 rw[Eao hf1,za (by decide),zb (Qt (by omega) hx.2),Qu (by omega),k4]
 rcases ho with e | e
 ·subst e
  obtain⟨a,S',e,F,h⟩:=Qgn hf1 k hm
  rw[zb (by decide),e];simp only[zz]
  rw[Ech hf1]
  have ha:a&&&1=a:=by rcases h with⟨h,-⟩ | ⟨h,-⟩<;>rw[h]<;>decide
  rw[ha]
  refine⟨a,S',rfl,F,?_⟩
  rw[zb trivial];exact h
 ·subst e
  obtain⟨a,S',e,F,h⟩:=Qf3 hf1 k hne
  rw[za (by decide),e];simp only[zz]
  rw[EeB hf1]
  have ha:a&&&1=a:=by rcases h with⟨h,-⟩ | ⟨h,-⟩<;>rw[h]<;>decide
  rw[ha]
  refine⟨a,S',rfl,F,?_⟩
  rw[za (by decide)];exact h
end RootQ
def Qj(s:Int32)(c:Nat):Bool:=s.toBitVec.getLsbD c
theorem QeN{c:Nat}(h:c<32):(Int32.ofNat c&&&31)=Int32.ofNat c:=by
 rw[<-zas,Int32.toBitVec_and]
 apply BitVec.eq_of_toNat_eq
 rw[BitVec.toNat_and]
 show (BitVec.ofNat 32 c).toNat&&&31=(BitVec.ofNat 32 c).toNat
 rw[BitVec.toNat_ofNat,Nat.mod_eq_of_lt (by omega),show 31=2 ^ 5-1 from rfl,Nat.and_two_pow_sub_one_eq_mod,Nat.mod_eq_of_lt (by omega)]
theorem Qe8{c:Nat}(h:c<32):((Int32.ofNat c).toBitVec.smod 32).toNat=c:=by
 have:(Int32.ofNat c).toBitVec=BitVec.ofNat 32 c:=rfl
 rw[this]
 have e:∀c:Fin 32,((BitVec.ofNat 32 c.val).smod 32).toNat=c.val:=by decide
 exact e ⟨c,h⟩
theorem Qcc{c:Nat}(h:c<32)(i:Nat):((1:Int32)<<<(Int32.ofNat c&&&31)).toBitVec.getLsbD i=decide (i=c):=by
 rw[QeN h,Int32.toBitVec_shiftLeft,BitVec.shiftLeft_eq',Qe8 h,BitVec.getLsbD_shiftLeft]
 show (decide (i<32) && !decide (i<c)&&(1#32).getLsbD (i-c))=_
 rw[BitVec.getLsbD_one]
 by_cases e:i=c
 ·subst e;simp[h]
 ·rw[z9 e]
  by_cases q:i<c
  ·simp[q]
  ·have:¬i-c=0:=by omega
   simp[this]
theorem Qa4(s:Int32){c:Nat}(h:c<32):((s>>>(Int32.ofNat c&&&31))&&&1=1)↔Qj s c=true:=by
 have e:((s>>>(Int32.ofNat c&&&31))&&&1).toBitVec=if Qj s c=true then 1#32 else 0#32:=by
  apply BitVec.eq_of_getLsbD_eq
  intro i hi
  rw[Int32.toBitVec_and,BitVec.getLsbD_and,QeN h,Int32.toBitVec_shiftRight,BitVec.sshiftRight_eq',Qe8 h,BitVec.getLsbD_sshiftRight]
  show ((!decide (32<=i)&&if c+i<32 then s.toBitVec.getLsbD (c+i) else s.toBitVec.msb)&&(1#32).getLsbD i)=_
  rw[BitVec.getLsbD_one]
  by_cases i0:i=0
  ·subst i0
   unfold Qj
   by_cases q:s.toBitVec.getLsbD c=true
   ·rw[zb q,zb (show c+0<32 by omega),Nat.add_zero,q];decide
   ·rw[za q,zb (show c+0<32 by omega),Nat.add_zero]
    rw[zH] at q
    rw[q];decide
  ·rw[show decide (i=0)=false from z9 i0,zaq,zaq]
   split
   ·rw[BitVec.getLsbD_one,z9 i0,zaq]
   ·exact BitVec.getLsbD_zero.symm
 rw[<-zas,e]
 by_cases q:Qj s c=true
 ·rw[zb q];exact⟨fun _=>q,fun _=>rfl⟩
 ·rw[za q];exact⟨fun h=>absurd h (by decide),fun h=>absurd h q⟩
theorem Qbb(v:Int32):v=0↔∀c,Qj v c=false:=by
 rw[<-zas]
 constructor
 ·intro h c;unfold Qj;rw[h];exact BitVec.getLsbD_zero
 ·intro h
  apply BitVec.eq_of_getLsbD_eq
  intro i _
  exact (h i).trans BitVec.getLsbD_zero.symm
theorem Qbu(v w:Int32)(c:Nat):Qj (v&&&w) c=(Qj v c&&Qj w c):=by
 unfold Qj;rw[Int32.toBitVec_and,BitVec.getLsbD_and]
theorem Qct(v w:Int32)(c:Nat):Qj (v|||w) c=(Qj v c||Qj w c):=by
 unfold Qj;rw[Int32.toBitVec_or,BitVec.getLsbD_or]
theorem Qdh{v w:Int32}(h:∀c,Qj v c=Qj w c):v=w:=by
 rw[<-zas]
 apply BitVec.eq_of_getLsbD_eq
 exact fun i _=>h i
theorem Qga(s:Int32)(c:Nat)(hc:c<8):(1<<<(Int32.ofNat c&&&31))&&&s=0↔Qj s c=false:=by
 rw[Qbb]
 constructor
 ·intro h
  have:=h c
  rw[Qbu,show Qj ((1:Int32)<<<(Int32.ofNat c&&&31)) c=true from (Qcc (by omega) c).trans (by simp),Bool.true_and] at this
  exact this
 ·intro h i
  rw[Qbu,show Qj ((1:Int32)<<<(Int32.ofNat c&&&31)) i=decide (i=c) from Qcc (by omega) i]
  by_cases e:i=c
  ·rw[e,h,zaq]
  ·rw[z9 e,Bool.false_and]
theorem Qei:∀t,Qp t->∀c,Qj (QU t) c=decide (c∈Qe t):=QR
 (fun a ha c=>by
  show Qj ((1:Int32)<<<(Int32.ofNat a&&&31)) c=_
  rw[show Qj ((1:Int32)<<<(Int32.ofNat a&&&31)) c=decide (c=a) from Qcc (by omega) c]
  simp only[Qe,zh])
 (fun o x f w ih=>ih)
 (fun t f w iht ihf c=>by
  show Qj (QU t|||QU f) c=decide (c∈Qe t++Qe f)
  rw[Qct,iht c,ihf c,<-Bool.decide_or]
  simp only[zc])
 (fun c=>by show Qj 0 c=_;rw[(Qbb 0).mp rfl c];simp[Qe])
def Qq(b:Nat->Bool)(t:Qf):Bool:=(List.range 32).all fun c => !b c||(Qe t).contains c
theorem Qad{b:Nat->Bool}{t:Qf}:Qq b t=true↔∀c,c<32->b c=true->c∈Qe t:=by
 unfold Qq
 simp only[zC,zx,zai,Bool.not_eq_true',List.contains_iff_mem]
 constructor
 ·intro h c hc hb
  rcases h c hc with q | q
  ·rw[hb] at q;exact absurd q (by decide)
  ·exact q
 ·intro h c hc
  cases e:b c
  ·exact Or.inl rfl
  ·exact Or.inr (h c hc e)
theorem Qb9(s:Int32){c:Nat}(h:Qj s c=true):c<32:=Classical.byContradiction fun q=>by
 unfold Qj at h
 rw[BitVec.getLsbD_of_ge _ _ (by omega)] at h
 exact absurd h (by decide)
theorem QcM(s:Int32)(t:Qf)(w:Qp t):QU t&&&s=s↔Qq (Qj s) t=true:=by
 rw[Qad]
 constructor
 ·intro h c hc hb
  have:=congrArg (fun v=>Qj v c) h
  simp only[Qbu,hb,zaf] at this
  rw[Qei t w c] at this
  exact zaa this
 ·intro h
  refine Qdh fun c=>?_
  rw[Qbu,Qei t w c]
  by_cases e:Qj s c=true
  ·rw[e,zaf];exact zV (h c (Qb9 s e) e)
  ·rw[zH] at e;rw[e,zaq]
theorem QdI(b:Nat->Bool)(t:Qf)(w:Qp t):Qq b (Qc t)=Qq b t:=by unfold Qq;rw[Qde t w]
theorem QgV{b:Nat->Bool}{t u:Qf}(h:∀c∈Qe u,c∈Qe t)(a:Qq b u=true):Qq b t=true:=Qad.mpr fun c hc hb=>h c (Qad.mp a c hc hb)
def Qal(b:Nat->Bool):Qf->Nat
 | .arg _=>0
 | .op2 _ (.arg _) f=>if (Qd f).any (Qq b)=true then Qal b f else (Qa f).length
 | .add t f=>if Qq b t=true then Qal b t else (Qa t).length+Qal b f
 |_=>0
def QP(b:Nat->Bool):Qf->Option Qf
 | .arg c=>some (.arg c)
 | .op2 o (.arg _) f=>if (Qd f).any (Qq b)=true then (QP b f).bind fun f'=>some (.op2 o (.arg 0) f') else (QM b f).bind fun f'=>if o = .iand then QaI b (Qd f') else QaL b (Qd f')
 | .add t f=>if Qq b t=true then (QP b t).bind fun t'=>some (.add t' (Qc f)) else (QP b f).bind fun f'=>some (.add (Qc t) f')
 |_=>some .null
theorem Qdl:∀t,Qp t->Qc (Qc t)=Qc t:=QR
 (fun c _=>rfl) (fun o x f _ ih=>by show Jvm.Term.op2 o (.arg 0) (Qc (Qc f)) = .op2 o (.arg 0) (Qc f);rw[ih]) (fun t f _ iht ihf=>by show Jvm.Term.add (Qc (Qc t)) (Qc (Qc f)) = .add (Qc t) (Qc f);rw[iht,ihf]) rfl
theorem QgO(b:Nat->Bool):∀t,Qp t->QM b (Qc t)=QM b t:=QR
 (fun c _=>rfl)
 (fun o x f w ih=>by
  show (if Qi b (.op2 o (.arg 0) (Qc f))=0 then some (Jvm.Term.op2 o (.arg 0) (Qc (Qc f))) else (QM b (Qc f)).bind _)=if Qi b (.op2 o (.arg x) f)=0 then _ else (QM b f).bind _
  rw[ih,Qdl f w.2.2.2.2,show Qi b (.op2 o (.arg 0) (Qc f))=Qi b (.op2 o (.arg x) f) from Qbq b (.op2 o (.arg x) f) w])
 (fun t f w iht ihf=>by
  show (QM b (Qc t)).bind (fun t'=>(QM b (Qc f)).bind _)=(QM b t).bind fun t'=>(QM b f).bind _
  rw[iht,ihf]) rfl
theorem QeB(b:Nat->Bool)(f:Qf)(w:Qp f)(hF:QJ f):(Qd (Qc f)).any (Qq b)=(Qd f).any (Qq b):=by
 rw[Qby f w hF,List.any_map]
 have:∀l:List Qf,(∀u∈l,Qp u)->l.any (Qq b ∘ Qc)=l.any (Qq b):=fun l=>by
  induction l with
  |nil=>exact fun _=>rfl
  |cons u l ih=>
   intro h
   rw[List.any_cons,List.any_cons,ih fun v hv=>h v (by simp[hv])]
   show (Qq b (Qc u)||_)=_
   rw[QdI b u (h u (by simp))]
 exact this _ fun u hu=>(Qam w u hu).2
theorem QgN(b:Nat->Bool):∀t,Qp t->QP b (Qc t)=QP b t:=QR
 (fun c _=>rfl)
 (fun o x f w ih=>by
  show (if (Qd (Qc f)).any (Qq b)=true then (QP b (Qc f)).bind _ else (QM b (Qc f)).bind _)=if (Qd f).any (Qq b)=true then (QP b f).bind _ else (QM b f).bind _
  rw[ih,QgO b f w.2.2.2.2,QeB b f w.2.2.2.2 w.2.2.2.1])
 (fun t f w iht ihf=>by
  show (if Qq b (Qc t)=true then (QP b (Qc t)).bind (fun t'=>some (Jvm.Term.add t' (Qc (Qc f)))) else (QP b (Qc f)).bind fun f'=>some (Jvm.Term.add (Qc (Qc t)) f'))=if Qq b t=true then (QP b t).bind _ else (QP b f).bind _
  rw[iht,ihf,QdI b t w.2.2.1,Qdl f w.2.2.2,Qdl t w.2.2.1]) rfl
theorem Qdm{f:Qf}(w:Qp f)(hF:QJ f):∀u∈Qd f,∀c∈Qe u,c∈Qe f:=fun u hu c hc=>by
 rw[<-Qa1 Qe (fun _ _=>rfl) rfl f w hF]
 exact zt.mpr ⟨u,hu,hc⟩
section Pert
variable {f1:FT1}
theorem Qea(hf1:Fx f1){S:MS}{s:Int32}{p x tot:Nat}(hp:p<tot)(h64:tot<=64)(h6:S 0 6=Int32.ofNat tot)(hx:x<64)(h13:S 13 p=Int32.ofNat x):f1 (44,2,[.ref 0,.int s,.int (Int32.ofNat p)],[],S)=if (S 12 x&&&s)=s then some (some (.int (Int32.ofNat p)),S) else f1 (44,2,[.ref 0,.int s,.int (Int32.ofNat (p+1))],[],S):=by
 rw[Ee1 hf1,h6,zb ((Ql (by omega) (by omega)).mpr hp),zb (show Int32.ofNat p<64 from (Ql (b:=64) (by omega) (by omega)).mpr (by omega)),zb (Qt (by omega) (by omega)),Qu (by omega),h13,Qae hf1 S hx];simp only[zz]
 rw[EdG hf1,za (by decide),zb (Qt (by omega) hx),Qu (by omega),Qv]
theorem Qgy(hf1:Fx f1){S:MS}{s:Int32}{tot:Nat}:∀t,Qp t->∀p,Qao S p (Qa t) tot->Qap (fun u=>S 12 (Qg u)=QU u) t->((Qo t->Qq (Qj s) t=true)/\(QJ t->(Qd t).any (Qq (Qj s))=true)->f1 (44,2,[.ref 0,.int s,.int (Int32.ofNat p)],[],S)=some (some (.int (Int32.ofNat (p+Qal (Qj s) t))),S)/\Qal (Qj s) t<(Qa t).length)/\((Qo t->Qq (Qj s) t=false)/\(QJ t->(Qd t).any (Qq (Qj s))=false)->f1 (44,2,[.ref 0,.int s,.int (Int32.ofNat p)],[],S)=f1 (44,2,[.ref 0,.int s,.int (Int32.ofNat (p+(Qa t).length))],[],S)):=by
 refine QR (fun c hc p g a=>?_) (fun o x f w ih p g a=>?_) (fun t f w iht ihf p g a=>?_) (fun p g a=>?_)
 ·have e13:S 13 p=Int32.ofNat c:=g.2.2.2 0 (by simp[Qa])
  have hp:p+1<=tot:=g.2.1
  have e12:S 12 c=QU (.arg c):=a
  have wc:Qp (.arg c):=hc
  rw[Qea hf1 (by omega) g.2.2.1 g.1 (by omega) e13,e12]
  refine⟨fun h=>⟨?_,by simp[Qal,Qa]⟩,fun h=>?_⟩
  ·rw[zb ((QcM s _ wc).mpr (h.1 trivial))];rfl
  ·rw[za (fun q=>by rw[(QcM s _ wc).mp q] at h;exact absurd (h.1 trivial) (by decide))];rfl
 ·have ep:Qa (.op2 o (.arg x) f)=Qa f++[x]:=rfl
  have w':=w
  obtain⟨⟨w1,w2⟩,w3,⟨w4,w5⟩,w6,w7⟩:=w
  rw[ep] at g
  have i:=ih p (Qav g) a.2
  have g':=Qaz g
  have hp:p+(Qa f).length+1<=tot:=g'.2.1
  have e13:S 13 (p+(Qa f).length)=Int32.ofNat x:=g'.2.2.2 0 (by simp)
  have e12:S 12 x=QU (.op2 o (.arg x) f):=a.1
  have nT:Qo f->False:=fun h=>by
   match f,w6,h with
   | .add _ _,_,h=>exact h
   | .null,_,h=>exact h
  have px:Qal (Qj s) (.op2 o (.arg x) f)=if (Qd f).any (Qq (Qj s))=true then Qal (Qj s) f else (Qa f).length:=rfl
  by_cases q:(Qd f).any (Qq (Qj s))=true
  ·have e:=i.1 ⟨fun h=>absurd h nT,fun _=>q⟩
   refine⟨fun _=>⟨?_,?_⟩,fun h=>?_⟩
   ·rw[px,zb q];exact e.1
   ·rw[px,zb q,ep,zd];exact Nat.lt_of_lt_of_le e.2 (Nat.le_add_right _ _)
   ·exfalso
    obtain⟨u,hu,au⟩:=List.any_eq_true.mp q
    have:=QgV (t:= .op2 o (.arg x) f) (Qdm w7 w6 u hu) au
    rw[h.1 trivial] at this;exact absurd this (by decide)
  ·have q':(Qd f).any (Qq (Qj s))=false:=by rw[zH] at q;exact q
   have e:=i.2 ⟨fun h=>absurd h nT,fun _=>q'⟩
   rw[e,Qea hf1 (by omega) g.2.2.1 g.1 w2 e13,e12]
   refine⟨fun h=>⟨?_,?_⟩,fun h=>?_⟩
   ·rw[zb ((QcM s _ w').mpr (h.1 trivial)),px,za q]
   ·rw[px,za q,ep,zd];exact Nat.lt_succ_self _
   ·rw[za (fun q=>by rw[(QcM s _ w').mp q] at h;exact absurd (h.1 trivial) (by decide)),ep,zd];rfl
 ·have ep:Qa (.add t f)=Qa t++Qa f:=rfl
  obtain⟨w1,w2,w3,w4⟩:=w
  rw[ep] at g
  have it:=iht p (Qav g) a.1
  have jf:=ihf (p+(Qa t).length) (Qaz g) a.2
  have nT:Qo f->False:=fun h=>by
   match f,w2,h with
   | .add _ _,_,h=>exact h
   | .null,_,h=>exact h
  have nF:QJ t->False:=fun h=>by
   match t,w1,h with
   | .arg _,_,h=>exact h
   | .op2 _ (.arg _) _,_,h=>exact h
  have px:Qal (Qj s) (.add t f)=if Qq (Qj s) t=true then Qal (Qj s) t else (Qa t).length+Qal (Qj s) f:=rfl
  have an:(Qd (.add t f)).any (Qq (Qj s))=(Qq (Qj s) t||(Qd f).any (Qq (Qj s))):=rfl
  refine⟨fun h=>?_,fun h=>?_⟩
  ·have h2:=h.2 trivial
   rw[an] at h2
   by_cases q:Qq (Qj s) t=true
   ·have e:=it.1 ⟨fun _=>q,fun h=>absurd h nF⟩
    rw[px,zb q,ep,zd]
    exact⟨e.1,Nat.lt_of_lt_of_le e.2 (Nat.le_add_right _ _)⟩
   ·have q':Qq (Qj s) t=false:=by rw[zH] at q;exact q
    rw[q',zak] at h2
    have e:=jf.1 ⟨fun h=>absurd h nT,fun _=>h2⟩
    rw[px,za q,ep,zd,it.2 ⟨fun _=>q',fun h=>absurd h nF⟩,e.1,z7]
    exact⟨rfl,Nat.add_lt_add_left e.2 _⟩
  ·have h2:=h.2 trivial
   rw[an,Bool.or_eq_false_iff] at h2
   rw[it.2 ⟨fun _=>h2.1,fun h=>absurd h nF⟩,jf.2 ⟨fun h=>absurd h nT,fun _=>h2.2⟩,ep,zd,z7]
 ·exact⟨fun h=>absurd (h.2 trivial) (by simp[Qd]),fun _=>rfl⟩
end Pert
theorem QaK{f:Qf}(h:QJ f)(h':Qo f):False:=by
 match f,h,h' with
 | .add _ _,_,h'=>exact h'
 | .null,_,h'=>exact h'
section Red
variable {f1:FT1}
theorem Qe5(hf1:Fx f1){S:MS}{s:Int32}{pi x:Nat}(hpi:pi<64)(h13:S 13 pi=Int32.ofNat x):f1 (42,27,[.ref 0,.int s,.int (Int32.ofNat pi),.int (Int32.ofNat pi)],[],S)=(f1 (46,0,[.ref 0,.int (Int32.ofNat x)],[],S)).bind fun q=>f1 (42,96,[.ref 0,.int s,.int (Int32.ofNat pi),.int (Int32.ofNat x)],q.1.toList++[],q.2):=by
 rw[ED hf1,za zp,zb (Qt (by omega) hpi),Qu (by omega),h13]
theorem Qf0(hf1:Fx f1){s:Int32}{tot pi:Nat}(hpi:pi<64):∀t,Qp t->∀p m S,Qb6 S (Qj s) p tot m t->pi=p+Qal (Qj s) t->((Qo t->Qq (Qj s) t=true)/\(QJ t->(Qd t).any (Qq (Qj s))=true))->∃S',QQ S S' (Qa t)/\((f1 (42,27,[.ref 0,.int s,.int (Int32.ofNat pi),.int (Int32.ofNat p)],[],S)=some (some (.int 0),S')/\QP (Qj s) t=none)\/((∃xt,f1 (42,27,[.ref 0,.int s,.int (Int32.ofNat pi),.int (Int32.ofNat p)],[],S)=f1 (42,96,[.ref 0,.int s,.int (Int32.ofNat pi),.int xt],[.int 1],S'))/\∃T,QP (Qj s) t=some (Qc T)/\Qer S S' (Qa t) (Qe t) (m+2*(Qa t).length) T/\(Qo t->Qo T/\Qg T=Qg t)/\(QJ t->QJ T/\(Qd T).map Qg=(Qd t).map Qg))):=by
 have hb:=Qga s
 refine QR (fun c hc p m S L hp al=>?_) (fun o x f w ih p m S L hp al=>?_) (fun t f w iht ihf p m S L hp al=>?_) (fun p m S L hp al=>absurd (al.2 trivial) (by simp[Qd]))
 ·obtain⟨r,g,nd,l1,l2,a,l8,cv,hm⟩:=L
  have hp':pi=p:=hp
  subst hp'
  have e13:S 13 pi=Int32.ofNat c:=g.2.2.2 0 (by simp[Qa])
  have e1:S 1 c=0:=r
  refine⟨S,Qa2 S _,Or.inr ⟨⟨Int32.ofNat c,?_⟩,.arg c,rfl,⟨hc,r,nd,fun i hi=>Or.inl hi,fun i hi h8=>(l1 i hi h8).1,List.Perm.refl _,Q7 cv (by omega) fun i=>Or.inl rfl⟩,fun _=>⟨trivial,rfl⟩,fun h=>absurd h id⟩⟩
  rw[Qe5 hf1 hpi e13,Eab hf1,QbE hf1 S (by omega),zb e1];simp only[zz]
  rw[Eao hf1,zb rfl];simp only[zz]
 ·obtain⟨r,g,nd,l1,l2,a,l8,cv,hm⟩:=L
  have ep:Qa (.op2 o (.arg x) f)=Qa f++[x]:=rfl
  have w':=w
  obtain⟨⟨w1,w2⟩,w3,⟨w4,w5⟩,w6,w7⟩:=w
  have eR:QP (Qj s) (.op2 o (.arg x) f)=if (Qd f).any (Qq (Qj s))=true then (QP (Qj s) f).bind fun f'=>some (.op2 o (.arg 0) f') else (QM (Qj s) f).bind fun f'=>if o = .iand then QaI (Qj s) (Qd f') else QaL (Qj s) (Qd f'):=rfl
  have px:Qal (Qj s) (.op2 o (.arg x) f)=if (Qd f).any (Qq (Qj s))=true then Qal (Qj s) f else (Qa f).length:=rfl
  rw[px] at hp
  rw[ep] at g nd l1
  rw[ep,zd] at hm
  have hm':m+2*((Qa f).length+1)<=54:=hm
  obtain⟨nd1,-,nd3⟩:=zl.mp nd
  have hxf:x∉Qa f:=fun h=>nd3 x h x (by simp) rfl
  have x5:=(l1 x (by simp) w1).1
  have lx:∀i∈Qa f,8<=i->S 5 i≠0/\S 11 i=0:=fun i hi=>l1 i (zc.mpr (Or.inl hi))
  have LF:Qb6 S (Qj s) p tot m f:=⟨r.2.2.2,Qav g,nd1,lx,l2,a.2,l8,cv,by omega⟩
  have gdsL:∀T:Qf,(Qd T).map Qg=(Qd f).map Qg->(Qd T).length=(Qd f).length/\∀i,i<(Qd f).length->Qg ((Qd T).getD i .null)=Qg ((Qd f).getD i .null):=fun T tK=>by
   have kln:(Qd T).length=(Qd f).length:=by have:=congrArg List.length tK;rw[zi,zi] at this;exact this
   refine⟨kln,fun i hi=>?_⟩
   have:=congrArg (fun l=>l[i]?) tK
   simp only[List.getElem?_map] at this
   rw[List.getElem?_eq_getElem hi,List.getElem?_eq_getElem (by omega)] at this
   rw[ze,ze,List.getElem?_eq_getElem hi,List.getElem?_eq_getElem (by omega)]
   exact Option.some.inj this
  by_cases q:(Qd f).any (Qq (Qj s))=true
  ·rw[zb q] at hp
   rw[eR,zb q]
   obtain⟨S1,F1,h1⟩:=ih p m S LF hp ⟨fun h=>absurd h (QaK w6),fun _=>q⟩
   have FF:QQ S S1 (Qa (.op2 o (.arg x) f)):=Qba F1 (Qa2 S1 []) (fun i hi=>by rw[ep];exact zc.mpr (Or.inl hi)) (fun i hi=>absurd hi (by simp))
   rcases h1 with⟨e1,n1⟩ | ⟨e1,T,n1,TF,-,hT⟩
   ·exact⟨S1,FF,Or.inl ⟨e1,by rw[n1];rfl⟩⟩
   obtain⟨T1,T2,T3,T4,T5,T6,T7⟩:=TF
   obtain⟨tF,tK⟩:=hT w6
   obtain⟨kln,gds⟩:=gdsL T tK
   have smx:Qay S S1 x:=F1.2 x (Or.inr ⟨hxf,x5⟩)
   have xT:x∉Qa T:=fun h=>by
    rcases T4 x h with q | q
    ·exact hxf q
    ·exact x5 q.2
   refine⟨S1,FF,Or.inr ⟨e1,.op2 o (.arg x) T,by rw[n1];rfl,⟨⟨⟨w1,w2⟩,w3,by rw[kln];exact⟨w4,w5⟩,tF,T1⟩,⟨smx.1.trans r.1,by rw[kln];exact smx.2.1.trans r.2.1,fun i hi=>?_,T2⟩,?_,fun i hi=>?_,fun i hi h8=>?_,T6,?_⟩,fun _=>⟨trivial,rfl⟩,fun h=>absurd h id⟩⟩
   ·rw[kln] at hi
    rw[smx.2.2.2.2 i (by omega),r.2.2.1 i hi,gds i hi]
   ·show (Qa T++[x]).Nodup
    rw[zl]
    exact⟨T3,by simp,fun i hi j hj e=>xT (by rw[zh] at hj;rw[<-hj,<-e];exact hi)⟩
   ·rw[ep]
    rcases zc.mp (show i∈Qa T++[x] from hi) with q | q
    ·rcases T4 i q with q | q
     ·exact Or.inl (zc.mpr (Or.inl q))
     ·exact Or.inr q
    ·exact Or.inl (zc.mpr (Or.inr q))
   ·rcases zc.mp (show i∈Qa T++[x] from hi) with q | q
    ·exact T5 i q h8
    ·rw[zh] at q;rw[q,smx.2.2.1];exact x5
   ·rw[ep,zd];exact Q7 T7 (by show _<=m+2*((Qa f).length+1);omega) fun i=>Or.inl rfl
  ·rw[za q] at hp
   rw[eR,za q]
   obtain⟨S1,F1,h1⟩:=Qgp hf1 hb hpi f w7 p m S LF (by omega)
   have FF:QQ S S1 (Qa (.op2 o (.arg x) f)):=Qba F1 (Qa2 S1 []) (fun i hi=>by rw[ep];exact zc.mpr (Or.inl hi)) (fun i hi=>absurd hi (by simp))
   rcases h1 with⟨e1,n1⟩ | ⟨e1,T,n1,TF,-,hT⟩
   ·exact⟨S1,FF,Or.inl ⟨e1,by rw[n1];rfl⟩⟩
   obtain⟨T1,T2,T3,T4,T5,T6,T7⟩:=TF
   obtain⟨tF,tK,tL⟩:=hT w6
   obtain⟨kln,gds⟩:=gdsL T tK
   have smx:Qay S S1 x:=F1.2 x (Or.inr ⟨hxf,x5⟩)
   have kpo:(Qd T).flatMap Qa=Qa T:=Qa1 Qa (fun _ _=>rfl) rfl T T1 tF
   have klv:(Qd T).flatMap Qe=Qe T:=Qa1 Qe (fun _ _=>rfl) rfl T T1 tF
   have xT:x∉Qa T:=fun h=>by
    rcases T4 x h with q | q
    ·exact hxf q
    ·exact x5 q.2
   have kc:Qai S1 (Qj s) o x (Qd T) (m+2*(Qa f).length):=by
    refine⟨⟨w1,w2⟩,fun u hu=>⟨(Qam T1 u hu).1,(Qam T1 u hu).2,Qcp T1 T2 u hu,tL u hu⟩,by rw[kln];exact⟨w4,w5⟩,smx.1.trans r.1,by rw[kln];exact smx.2.1.trans r.2.1,fun i hi=>?_,?_,fun i hi h8=>?_,by rw[klv,T6.length_eq];exact l8,T7⟩
    ·rw[kln] at hi
     rw[smx.2.2.2.2 i (by omega),r.2.2.1 i hi,gds i hi]
    ·rw[kpo,zl]
     exact⟨T3,by simp,fun i hi j hj e=>xT (by rw[zh] at hj;rw[<-hj,<-e];exact hi)⟩
    ·rw[kpo] at hi
     rcases zc.mp hi with q | q
     ·exact T5 i q h8
     ·rw[zh] at q;rw[q,smx.2.2.1];exact x5
   have hne:∃u∈Qd T,Qi (Qj s) u≠0:=by
    have hk0:Qd f≠[]:=fun e=>by rw[e] at w4;exact absurd w4 (by simp)
    obtain⟨u0,hu0⟩:=zao _ hk0
    have:¬Qq (Qj s) u0=true:=fun h=>q (List.any_eq_true.mpr ⟨u0,hu0,h⟩)
    have ex:∃c,Qj s c=true:=Classical.byContradiction fun hn=>this (Qad.mpr fun c _ hc=>absurd ⟨c,hc⟩ hn)
    obtain⟨c,hc⟩:=ex
    have hcl:c∈Qe f:=Qad.mp (al.1 trivial) c (Qb9 s hc) hc
    have hcT:c∈(Qd T).flatMap Qe:=by rw[klv];exact T6.mem_iff.mpr hcl
    obtain⟨u,hu,hcu⟩:=zt.mp hcT
    refine⟨u,hu,fun e=>?_⟩
    have:=zC.mp (QaX e) c hcu
    rw[hc] at this;exact absurd this (by decide)
   obtain⟨av,S2,e2,F2,h2⟩:=Qgz hf1 w3 kc (by omega) hne
   rw[kpo] at F2
   have hQ:∀i∈Qa T++[x],8<=i->i∈Qa f++[x]\/S 5 i=0:=fun i hi h8=>by
    rcases zc.mp hi with q | q
    ·rcases T4 i q with q | q
     ·exact Or.inl (zc.mpr (Or.inl q))
     ·exact Or.inr q.2
    ·exact Or.inl (zc.mpr (Or.inr q))
   have FF2:QQ S S2 (Qa (.op2 o (.arg x) f)):=Qba F1 F2 (fun i hi=>by rw[ep];exact zc.mpr (Or.inl hi)) hQ
   have g':=Qaz g
   have e13:S1 13 pi=Int32.ofNat x:=by rw[hp,F1.1 13 _ (by decide) (by decide) (by decide) (by decide) (by decide) (by decide) (by decide) (by omega)];exact g'.2.2.2 0 (by simp)
   have step:f1 (42,27,[.ref 0,.int s,.int (Int32.ofNat pi),.int (Int32.ofNat p)],[],S)=f1 (42,96,[.ref 0,.int s,.int (Int32.ofNat pi),.int (Int32.ofNat x)],[.int av],S2):=by
    rw[e1,<-hp,Qe5 hf1 hpi e13,e2];simp only[zz]
   have mapk:(Qd T).map Qc=Qd (Qc T):=(Qby T T1 tF).symm
   rw[mapk] at h2
   rcases h2 with⟨ea,n2⟩ | ⟨ea,T',TR,n2⟩
   ·refine⟨S2,FF2,Or.inl ⟨?_,by rw[n1];exact n2⟩⟩
    rw[step,Ey hf1,zb ea]
   ·obtain⟨t1,t2,t3,t4,t5,t6,t7,t8,t9⟩:=TR
    refine⟨S2,FF2,Or.inr ⟨⟨Int32.ofNat x,by rw[step,ea]⟩,T',by rw[n1];exact n2,⟨t1,t4,t5,fun i hi=>?_,t7,?_,?_⟩,fun _=>⟨t2,t3⟩,fun h=>absurd h id⟩⟩
    ·rw[ep]
     rcases t6 i hi with q | q
     ·rw[kpo] at q
      by_cases h8:8<=i
      ·rcases hQ i q h8 with q | q
       ·exact Or.inl q
       ·exact Or.inr ⟨h8,q⟩
      ·rcases zc.mp q with q | q
       ·rcases T4 i q with q | q
        ·exact Or.inl (zc.mpr (Or.inl q))
        ·exact absurd q.1 h8
       ·rw[zh] at q;omega
     ·by_cases qf:i∈Qa f
      ·exact Or.inl (zc.mpr (Or.inl qf))
      ·by_cases q5:S 5 i=0
       ·exact Or.inr ⟨q.1,q5⟩
       ·exact absurd ((F1.2 i (Or.inr ⟨qf,q5⟩)).2.2.1.symm.trans q.2) q5
    ·rw[klv] at t8;exact t8.trans T6
    ·rw[ep,zd];exact Q7 t9 (by show _<=m+2*((Qa f).length+1);omega) fun i=>Or.inl rfl
 ·obtain⟨r,g,nd,l1,l2,a,l8,cv,hm⟩:=L
  have ep:Qa (.add t f)=Qa t++Qa f:=rfl
  have ev:Qe (.add t f)=Qe t++Qe f:=rfl
  rw[ep] at g nd l1
  rw[ep,zd] at hm
  rw[ev] at l2
  rw[ev,zd] at l8
  obtain⟨nd1,nd2,nd3⟩:=zl.mp nd
  obtain⟨w1,w2,w3,w4⟩:=w
  have eR:QP (Qj s) (.add t f)=if Qq (Qj s) t=true then (QP (Qj s) t).bind fun t'=>some (.add t' (Qc f)) else (QP (Qj s) f).bind fun f'=>some (.add (Qc t) f'):=rfl
  have px:Qal (Qj s) (.add t f)=if Qq (Qj s) t=true then Qal (Qj s) t else (Qa t).length+Qal (Qj s) f:=rfl
  have Lt:Qb6 S (Qj s) p tot m t:=⟨r.1,Qav g,nd1,fun i hi=>l1 i (zc.mpr (Or.inl hi)),fun c hc=>l2 c (zc.mpr (Or.inl hc)),a.1,by omega,cv,by omega⟩
  have Lf:Qb6 S (Qj s) (p+(Qa t).length) tot m f:=⟨r.2,Qaz g,nd2,fun i hi=>l1 i (zc.mpr (Or.inr hi)),fun c hc=>l2 c (zc.mpr (Or.inr hc)),a.2,by omega,cv,by omega⟩
  rw[px] at hp
  by_cases q:Qq (Qj s) t=true
  ·rw[zb q] at hp
   rw[eR,zb q]
   have nF:QJ t->False:=fun h=>QaK h w1
   obtain⟨S1,F1,h1⟩:=iht p m S Lt hp ⟨fun _=>q,fun h=>absurd h nF⟩
   have FF:QQ S S1 (Qa (.add t f)):=Qba F1 (Qa2 S1 []) (fun i hi=>by rw[ep];exact zc.mpr (Or.inl hi)) (fun i hi=>absurd hi (by simp))
   rcases h1 with⟨e1,n1⟩ | ⟨e1,T,n1,TF,hT,-⟩
   ·exact⟨S1,FF,Or.inl ⟨e1,by rw[n1];rfl⟩⟩
   obtain⟨T1,T2,T3,T4,T5,T6,T7⟩:=TF
   obtain⟨tT,tS⟩:=hT w1
   have smf:∀i∈Qa f,Qay S S1 i:=fun i hi=>by
    by_cases h8:8<=i
    ·exact F1.2 i (Or.inr ⟨fun q=>nd3 i q i hi rfl,(l1 i (zc.mpr (Or.inr hi)) h8).1⟩)
    ·exact F1.2 i (Or.inl (by omega))
   refine⟨S1,FF,Or.inr ⟨e1,.add T f,by rw[n1];rfl,⟨⟨tT,w2,T1,w4⟩,⟨T2,Qbt f w4 smf r.2⟩,?_,fun i hi=>?_,fun i hi h8=>?_,List.Perm.append T6 (List.Perm.refl _),?_⟩,fun h=>absurd h id,fun _=>⟨trivial,?_⟩⟩⟩
   ·show (Qa T++Qa f).Nodup
    refine zl.mpr ⟨T3,nd2,fun i hi j hj e=>?_⟩
    subst e
    rcases T4 i hi with q | q
    ·exact nd3 i q i hj rfl
    ·exact (l1 i (zc.mpr (Or.inr hj)) q.1).1 q.2
   ·rw[ep]
    rcases zc.mp (show i∈Qa T++Qa f from hi) with q | q
    ·rcases T4 i q with q | q
     ·exact Or.inl (zc.mpr (Or.inl q))
     ·exact Or.inr q
    ·exact Or.inl (zc.mpr (Or.inr q))
   ·rcases zc.mp (show i∈Qa T++Qa f from hi) with q | q
    ·exact T5 i q h8
    ·rw[(smf i q).2.2.1];exact (l1 i (zc.mpr (Or.inr q)) h8).1
   ·rw[ep,zd];exact Q7 T7 (by omega) fun i=>Or.inl rfl
   ·show Qg T::(Qd f).map Qg=Qg t::(Qd f).map Qg
    rw[tS]
  ·rw[za q] at hp
   rw[eR,za q]
   have an:(Qd (.add t f)).any (Qq (Qj s))=(Qq (Qj s) t||(Qd f).any (Qq (Qj s))):=rfl
   have h2:=al.2 trivial
   have q':Qq (Qj s) t=false:=by rw[zH] at q;exact q
   rw[an,q',zak] at h2
   have sk:(Qe t).all (fun c => !Qj s c)=true:=by
    rw[zC]
    intro c hc
    cases e:Qj s c
    ·rfl
    ·exfalso
     obtain⟨u,hu,au⟩:=List.any_eq_true.mp h2
     have h3:=Qdm w4 w2 u hu c (Qad.mp au c (Qb9 s e) e)
     exact nd3 c ((QcZ t w3).subset hc) c ((QcZ f w4).subset h3) rfl
   have e0:=Qew hf1 (s:=s) hb hpi t w3 p r.1 (Qav g) (by omega) a.1 sk
   obtain⟨S1,F1,h1⟩:=ihf (p+(Qa t).length) m S Lf (by omega) ⟨fun h=>absurd h (QaK w2),fun _=>h2⟩
   have FF:QQ S S1 (Qa (.add t f)):=Qba F1 (Qa2 S1 []) (fun i hi=>by rw[ep];exact zc.mpr (Or.inr hi)) (fun i hi=>absurd hi (by simp))
   rw[e0]
   rcases h1 with⟨e1,n1⟩ | ⟨e1,T,n1,TF,-,hT⟩
   ·exact⟨S1,FF,Or.inl ⟨e1,by rw[n1];rfl⟩⟩
   obtain⟨T1,T2,T3,T4,T5,T6,T7⟩:=TF
   obtain⟨tF,tK⟩:=hT w2
   have smt:∀i∈Qa t,Qay S S1 i:=fun i hi=>by
    by_cases h8:8<=i
    ·exact F1.2 i (Or.inr ⟨fun q=>nd3 i hi i q rfl,(l1 i (zc.mpr (Or.inl hi)) h8).1⟩)
    ·exact F1.2 i (Or.inl (by omega))
   refine⟨S1,FF,Or.inr ⟨e1,.add t T,by rw[n1];rfl,⟨⟨w1,tF,w3,T1⟩,⟨Qbt t w3 smt r.1,T2⟩,?_,fun i hi=>?_,fun i hi h8=>?_,List.Perm.append (List.Perm.refl _) T6,?_⟩,fun h=>absurd h id,fun _=>⟨trivial,?_⟩⟩⟩
   ·show (Qa t++Qa T).Nodup
    refine zl.mpr ⟨nd1,T3,fun i hi j hj e=>?_⟩
    subst e
    rcases T4 i hj with q | q
    ·exact nd3 i hi i q rfl
    ·exact (l1 i (zc.mpr (Or.inl hi)) q.1).1 q.2
   ·rw[ep]
    rcases zc.mp (show i∈Qa t++Qa T from hi) with q | q
    ·exact Or.inl (zc.mpr (Or.inl q))
    ·rcases T4 i q with q | q
     ·exact Or.inl (zc.mpr (Or.inr q))
     ·exact Or.inr q
   ·rcases zc.mp (show i∈Qa t++Qa T from hi) with q | q
    ·rw[(smt i q).2.2.1];exact (l1 i (zc.mpr (Or.inl q)) h8).1
    ·exact T5 i q h8
   ·rw[ep,zd];exact Q7 T7 (by omega) fun i=>Or.inl rfl
   ·show Qg t::(Qd T).map Qg=Qg t::(Qd f).map Qg
    rw[tK]
end Red
def QB:Qf->Qf
 | .arg c => .arg c
 | .op2 o (.arg x) f => .op2 (if (Qd f).length=2 then .iand else o) (.arg x) (QB f)
 | .add t f => .add (QB t) (QB f)
 |_ => .null
theorem Qdx:∀t,Qo t->Qo (QB t)/\Qg (QB t)=Qg t
 | .arg _,_=>⟨trivial,rfl⟩
 | .op2 _ (.arg _) _,_=>⟨trivial,rfl⟩
theorem QeW:∀t,QJ t->QJ (QB t)
 | .add _ _,_=>trivial
 | .null,_=>trivial
theorem QdZ:∀f,Qp f->QJ f->Qd (QB f)=(Qd f).map QB
 | .add t f,w,_=>by show QB t::Qd (QB f)=_;rw[QdZ f w.2.2.2 w.2.1];rfl
 | .null,_,_=>rfl
theorem QcA:∀t,Qp t->Qa (QB t)=Qa t/\Qe (QB t)=Qe t/\Qp (QB t)/\Qc (QB t)=QB (Qc t):=QR
 (fun c hc=>⟨rfl,rfl,hc,rfl⟩)
 (fun o x f w ih=>by
  obtain⟨i1,i2,i3,i4⟩:=ih
  have hk:=QdZ f w.2.2.2.2 w.2.2.2.1
  have hs:=Qby f w.2.2.2.2 w.2.2.2.1
  refine⟨?_,i2,⟨w.1,?_,?_,QeW f w.2.2.2.1,i3⟩,?_⟩
  ·show Qa (QB f)++[x]=Qa f++[x];rw[i1]
  ·show (if (Qd f).length=2 then Jvm.Binary.iand else o) = .iand\/_
   split
   ·exact Or.inl rfl
   ·exact w.2.1
  ·rw[hk,zi];exact w.2.2.1
  ·show Jvm.Term.op2 _ (.arg 0) (Qc (QB f)) = .op2 (if (Qd (Qc f)).length=2 then .iand else o) (.arg 0) (QB (Qc f))
   rw[i4,hs,zi])
 (fun t f w iht ihf=>by
  obtain⟨i1,i2,i3,i4⟩:=iht
  obtain⟨j1,j2,j3,j4⟩:=ihf
  refine⟨?_,?_,⟨(Qdx t w.1).1,QeW f w.2.1,i3,j3⟩,?_⟩
  ·show Qa (QB t)++Qa (QB f)=_;rw[i1,j1];rfl
  ·show Qe (QB t)++Qe (QB f)=_;rw[i2,j2];rfl
  ·show Jvm.Term.add (Qc (QB t)) (Qc (QB f)) = .add (QB (Qc t)) (QB (Qc f));rw[i4,j4])
 ⟨rfl,rfl,trivial,rfl⟩
def QaE(n:Nat)(t:Qf)(S:MS):Prop:=Qck n t/\(Qe t).Perm (List.range n)/\S 0 0=Int32.ofNat n/\S 0 4=Int32.ofNat (Qg t)/\QA S t/\(∀i∈Qa t,8<=i->S 5 i=1)/\∀i,8<=i->i<64->i∉Qa t->S 5 i=0
def Qcq(S S':MS):Prop:=∀c i,((c=0/\(i<=5\/11<=i))\/(6<=c/\c<=10)\/20<=c)->S' c i=S c i
section Norm
variable {f1:FT1}
theorem Qgv(hf1:Fx f1):∀t,Qp t->∀p tot S,(Qa t).Nodup->QA S t->Qao S p (Qa t) tot->∃S',f1 (40,2,[.ref 0,.int (Int32.ofNat p)],[],S)=f1 (40,2,[.ref 0,.int (Int32.ofNat (p+(Qa t).length))],[],S')/\(∀c i,¬(c=1/\i∈Qa t)->S' c i=S c i)/\QA S' (QB t):=by
 have step:∀(p tot:Nat) (S:MS) (x:Nat),x<64->p<tot->tot<=64->S 0 6=Int32.ofNat tot->S 13 p=Int32.ofNat x->f1 (40,2,[.ref 0,.int (Int32.ofNat p)],[],S)=f1 (40,28,[.ref 0,.int (Int32.ofNat p),.int (Int32.ofNat x)],[.int (if S 1 x=0 then 0 else 1)],S):=fun p tot S x hx h1 h2 h3 h4=>by
  rw[EU hf1,h3,zb ((Ql (by omega) (by omega)).mpr h1),zb (show Int32.ofNat p<64 from (Ql (b:=64) (by omega) (by omega)).mpr (by omega)),zb (Qt (by omega) (by omega)),Qu (by omega),h4,QbE hf1 S hx];simp only[zz]
 refine QR (fun c hc p tot S nd r g=>?_) (fun o x f w ih p tot S nd r g=>?_) (fun t f w iht ihf p tot S nd r g=>?_) (fun p tot S nd r g=>⟨S,rfl,fun _ _ _=>rfl,trivial⟩)
 ·have e13:S 13 p=Int32.ofNat c:=g.2.2.2 0 (by simp[Qa])
  have hp:p+1<=tot:=g.2.1
  have e1:S 1 c=0:=r
  rw[step p tot S c (by omega) (by omega) g.2.2.1 g.1 e13,zb e1,Eaq hf1,zb rfl,Qv]
  exact⟨S,rfl,fun _ _ _=>rfl,r⟩
 ·have ep:Qa (.op2 o (.arg x) f)=Qa f++[x]:=rfl
  have w':=w
  obtain⟨⟨w1,w2⟩,w3,⟨w4,w5⟩,w6,w7⟩:=w
  rw[ep] at nd g
  obtain⟨nd1,-,nd3⟩:=zl.mp nd
  have hxf:x∉Qa f:=fun h=>nd3 x h x (by simp) rfl
  obtain⟨r1,r3,r4,rf⟩:=r
  obtain⟨A,eA,FA,rA⟩:=ih p tot S nd1 rf (Qav g)
  have g':=Qaz g
  have hp:p+(Qa f).length+1<=tot:=g'.2.1
  have hln:=zd (as:=Qa f) (bs:=[x])
  have e13:A 13 (p+(Qa f).length)=Int32.ofNat x:=by rw[FA 13 _ (by omega)];exact g'.2.2.2 0 (by simp)
  have A1:A 1 x=QaD o:=(FA 1 x (fun q=>hxf q.2)).trans r1
  have k1:A 1 x≠0:=by rw[A1];exact Qbo
  have A3:A 3 x=Int32.ofNat (Qd f).length:=(FA 3 x (by omega)).trans r3
  have hk:=QdZ f w7 w6
  have pz:=(QcA f w7).1
  rw[eA,step _ tot A x w2 (by omega) g.2.2.1 ((FA 0 6 (by omega)).trans g.1) e13,za k1,Eaq hf1,za (by decide),Qax hf1 w2 A3 w5];simp only[zz]
  rw[Ecn hf1,zb (Qt (by omega) w2),Qu (by omega),A1]
  have kids:∀B:MS,(∀i,B 4 i=A 4 i)->∀i,i<(Qd (QB f)).length->B 4 (8*x+i)=Int32.ofNat (Qg ((Qd (QB f)).getD i .null)):=fun B hB i hi=>by
   rw[hk,zi] at hi
   rw[hB,FA 4 _ (by omega),r4 i hi,hk]
   congr 1
   simp only[ze,List.getElem?_map,List.getElem?_eq_getElem hi]
   show Qg (Qd f)[i]=Qg (QB (Qd f)[i])
   rw[(Qdx _ (Qam w7 _ (zs hi)).1).2]
  have n1:¬Int32.ofNat (Qd f).length=1:=fun e=>by have:=(QgR (by omega)).mp e;omega
  have fin:∀(B:MS) (o':Jvm.Binary),(∀c i,¬(c=1/\i=x)->B c i=A c i)->B 1 x=QaD o'->o'=(if (Qd f).length=2 then .iand else o)->∃S',f1 (40,62,[.ref 0,.int (Int32.ofNat (p+(Qa f).length)),.int (Int32.ofNat x),.int (Int32.ofNat (Qd f).length)],[],B)=f1 (40,2,[.ref 0,.int (Int32.ofNat (p+(Qa (.op2 o (.arg x) f)).length))],[],S')/\(∀c i,¬(c=1/\i∈Qa (.op2 o (.arg x) f))->S' c i=S c i)/\QA S' (QB (.op2 o (.arg x) f)):=fun B o' FB B1 ho=>by
   rw[EeO hf1,za n1,Qv,ep,hln]
   refine⟨B,rfl,fun c i q=>?_,?_,?_,?_,?_⟩
   ·rw[FB c i fun e=>q ⟨e.1,by rw[e.2];simp⟩]
    exact FA c i fun e=>q ⟨e.1,zc.mpr (Or.inl e.2)⟩
   ·rw[B1,ho]
   ·rw[hk,zi,FB 3 x (by omega)];exact A3
   ·exact kids B fun i=>FB 4 i (by omega)
   ·refine Qbt _ (QcA f w7).2.2.1 (fun i hi=>?_) rA
    rw[pz] at hi
    have ix:i≠x:=fun e=>hxf (e▸hi)
    exact⟨FB 1 i (by omega),FB 3 i (by omega),FB 5 i (by omega),FB 11 i (by omega),fun k _=>FB 4 _ (by omega)⟩
  by_cases q2:QaD o=2
  ·rw[zb q2]
   have ho:o = .ior:=by
    rcases w3 with e | e
    ·rw[e] at q2;exact absurd q2 (by decide)
    ·exact e
   by_cases d2:(Qd f).length=2
   ·rw[zb (by rw[d2];rfl)]
    exact fin _ .iand (fun c i q=>by rw[Qh,za q]) (by rw[Qh,zb ⟨rfl,rfl⟩];rfl) (by rw[zb d2])
   ·rw[za (show ¬Int32.ofNat (Qd f).length=2 from fun e=>d2 ((Qb3 (c:=2) (by omega) (by omega)).mp e))]
    exact fin A o (fun _ _ _=>rfl) A1 (by rw[za d2])
  ·rw[za q2]
   have ho:o = .iand:=by
    rcases w3 with e | e
    ·exact e
    ·rw[e] at q2;exact absurd rfl q2
   exact fin A o (fun _ _ _=>rfl) A1 (by rw[ho];split<;>rfl)
 ·have ep:Qa (.add t f)=Qa t++Qa f:=rfl
  obtain⟨w1,w2,w3,w4⟩:=w
  rw[ep] at nd g
  obtain⟨nd1,nd2,nd3⟩:=zl.mp nd
  obtain⟨A,eA,FA,rA⟩:=iht p tot S nd1 r.1 (Qav g)
  have smf:∀i∈Qa f,Qay S A i:=fun i hi=>⟨FA 1 i fun q=>nd3 i q.2 i hi rfl,FA 3 i (by omega),FA 5 i (by omega),FA 11 i (by omega),fun k _=>FA 4 _ (by omega)⟩
  obtain⟨B,eB,FB,rB⟩:=ihf (p+(Qa t).length) tot A nd2 (Qbt f w4 smf r.2) (QbX (FA 0 6 (by omega)) (fun i=>FA 13 i (by omega)) (Qaz g))
  refine⟨B,?_,fun c i q=>?_,?_,rB⟩
  ·rw[eA,eB,ep,zd,z7]
  ·rw[ep] at q
   rw[FB c i fun e=>q ⟨e.1,zc.mpr (Or.inr e.2)⟩]
   exact FA c i fun e=>q ⟨e.1,zc.mpr (Or.inl e.2)⟩
  ·refine Qbt _ (QcA t w3).2.2.1 (fun i hi=>?_) rA
   rw[(QcA t w3).1] at hi
   exact⟨FB 1 i fun q=>nd3 i hi i q.2 rfl,FB 3 i (by omega),FB 5 i (by omega),FB 11 i (by omega),fun k _=>FB 4 _ (by omega)⟩
theorem QgJ(hf1:Fx f1){S:MS}{t:Qf}(w:Qp t)(ht:Qo t)(nd:(Qa t).Nodup)(r:QA S t)(h4:S 0 4=Int32.ofNat (Qg t))(hl:(Qa t).length<=64):∃S',f1 (39,0,[.ref 0],[],S)=some (none,S')/\(∀c i,c≠1->c≠13->c≠14->c≠15->¬(c=0/\i=6)->S' c i=S c i)/\QA S' (QB t):=by
 obtain⟨A,eA,FA,A6,A13⟩:=QcC hf1 w ht r h4 hl
 have rA:QA A t:=QW (fun i=>⟨FA 1 i (by decide) (by decide) (by decide) (by omega),FA 3 i (by decide) (by decide) (by decide) (by omega)⟩) (fun i=>FA 4 i (by decide) (by decide) (by decide) (by omega)) t w r
 have sA:Qao A 0 (Qa t) (Qa t).length:=⟨A6,by omega,by omega,fun i hi=>by rw[zD];exact A13 i hi⟩
 obtain⟨B,eB,FB,rB⟩:=Qgv hf1 t w 0 _ A nd rA sA
 rw[EcH hf1,zb (by decide),eA];simp only[zz]
 have eB':f1 (40,0,[.ref 0],[],A)=some (some (.int (-1)),B):=by
  rw[Edf hf1]
  refine Eq.trans eB ?_
  rw[EU hf1,(FB 0 6 (by omega)).trans A6,zD,za zp]
 rw[Eeq hf1,eB'];simp only[zz]
 rw[Eey hf1,zb (by decide)]
 exact⟨B,rfl,fun c i h1 h2 h3 h4 h5=>(FB c i (fun q=>h1 q.1)).trans (FA c i h2 h3 h4 h5),rB⟩
theorem Qgr(hf1:Fx f1){S:MS}{n:Nat}{t:Qf}(w:Qp t)(ht:Qo t)(r:QA S t)(h0:S 0 0=Int32.ofNat n)(hn:n<=8)(h4:S 0 4=Int32.ofNat (Qg t))(hl:(Qa t).length<=64):∃S',f1 (38,0,[.ref 0],[],S)=some (none,S')/\(∀c i,c≠5->c≠13->c≠14->c≠15->¬(c=0/\i=6)->S' c i=S c i)/\(∀i∈Qa t,S' 5 i=1)/\∀i,8<=i->i<64->i∉Qa t->S' 5 i=0:=by
 obtain⟨A,eA,FA,A6,A13⟩:=QcC hf1 w ht r h4 hl
 rw[EeK hf1,eA];simp only[zz]
 rw[EaT hf1]
 have k1:=Qau (fun k=>f1 (38,7,[.ref 0,.int (Int32.ofNat (8+k))],[],Qx A 5 8 (8+k) fun _=>0)) (n:=56) fun k hk=>by
  show f1 _=f1 _
  rw[EL hf1,zb (show Int32.ofNat (8+k)<64 from (Ql (b:=64) (by omega) (by omega)).mpr (by omega)),zb (Qt (by omega) (by omega)),Qu (by omega),Qv,Qa5 (by omega) rfl]
  rfl
 have e1:f1 (38,7,[.ref 0,.int 8],[],A)=f1 (38,28,[.ref 0,.int 0],[],Qx A 5 8 64 fun _=>0):=by
  refine Eq.trans ?_ (k1.trans ?_)
  ·show _=f1 (_,_,_,_,Qx A 5 8 8 _)
   rw[QaG];rfl
  ·show f1 _=_
   rw[EL hf1,za (by decide)]
 rw[e1]
 generalize hD:Qx A 5 8 64 (fun _=>0)=D
 have FD:∀c i,c≠5->D c i=A c i:=fun c i h=>by rw[<-hD,Qw h]
 have D5:∀i,8<=i->i<64->D 5 i=0:=fun i h1 h2=>by rw[<-hD,Qbm h1 h2]
 have k2:∀k,k<=(Qa t).length->∃B,f1 (38,28,[.ref 0,.int 0],[],D)=f1 (38,28,[.ref 0,.int (Int32.ofNat k)],[],B)/\(∀c i,c≠5->B c i=A c i)/\(∀i∈(Qa t).take k,B 5 i=1)/\∀i,8<=i->i<64->i∉(Qa t).take k->B 5 i=0:=fun k=>by
  induction k with
  |zero=>exact fun _=>⟨D,rfl,FD,fun i hi=>absurd hi (by simp),fun i h1 h2 _=>D5 i h1 h2⟩
  |succ k ih=>
   intro hk
   obtain⟨B,eB,FB,B1,B0⟩:=ih (by omega)
   have gd:(Qa t).getD k 0=(Qa t)[k]'(by omega):=by rw[ze,List.getElem?_eq_getElem (by omega)];rfl
   have x64:=QcD t w _ (zs (show k<(Qa t).length by omega))
   have e13:B 13 k=Int32.ofNat ((Qa t)[k]'(by omega)):=by rw[FB 13 k (by decide),A13 k (by omega),gd]
   have tk:(Qa t).take (k+1)=(Qa t).take k++[(Qa t)[k]'(by omega)]:=by rw[zah,List.getElem?_eq_getElem (show k<(Qa t).length by omega)];rfl
   rw[eB,ER hf1,FB 0 6 (by decide),A6,zb ((Ql (by omega) (by omega)).mpr (by omega)),zb (show Int32.ofNat k<64 from (Ql (b:=64) (by omega) (by omega)).mpr (by omega)),zb (Qt (by omega) (by omega)),Qu (by omega),e13,Qae hf1 B x64];simp only[zz]
   rw[Eda hf1,za (by decide),zb (Qt (by omega) x64),Qu (by omega),Qv]
   refine⟨_,rfl,fun c i h=>by rw[Qh,za (by omega)];exact FB c i h,fun i hi=>?_,fun i h1 h2 h3=>?_⟩
   ·rw[Qh]
    by_cases e:i=(Qa t)[k]'(by omega)
    ·rw[zb ⟨rfl,e⟩]
    ·rw[za (fun q=>e q.2)]
     rw[tk,zc,zh] at hi
     rcases hi with hi | hi
     ·exact B1 i hi
     ·exact absurd hi e
   ·rw[tk,zc,zh,not_or] at h3
    rw[Qh,za (fun q=>h3.2 q.2)];exact B0 i h1 h2 h3.1
 obtain⟨B,eB,FB,B1,B0⟩:=k2 _ (zn _)
 rw[List.take_length] at B1 B0
 rw[eB,ER hf1,FB 0 6 (by decide),A6,za zp]
 have B00:B 0 0=Int32.ofNat n:=by rw[FB 0 0 (by decide),FA 0 0 (by decide) (by decide) (by decide) (by omega)];exact h0
 have k3:∀k,k<=n->∃E,f1 (38,72,[.ref 0,.int 0],[],B)=f1 (38,72,[.ref 0,.int (Int32.ofNat k)],[],E)/\(∀c i,¬(c=5/\i<k)->E c i=B c i)/\∀i,i<k->E 5 i=1:=fun k=>by
  induction k with
  |zero=>exact fun _=>⟨B,rfl,fun _ _ _=>rfl,fun i hi=>absurd hi (by omega)⟩
  |succ k ih=>
   intro hk
   obtain⟨E,eE,FE,E1⟩:=ih (by omega)
   rw[eE,EC hf1,FE 0 0 (by omega),B00,zb ((Ql (by omega) (by omega)).mpr (by omega)),zb (show Int32.ofNat k<8 from (Ql (b:=8) (by omega) (by omega)).mpr (by omega)),zb (Qt (by omega) (by omega)),Qu (by omega),Qv]
   refine⟨_,rfl,fun c i h=>by rw[Qh,za (by omega)];exact FE c i (by omega),fun i hi=>?_⟩
   rw[Qh]
   by_cases e:i=k
   ·rw[zb ⟨rfl,e⟩]
   ·rw[za (by omega)];exact E1 i (by omega)
 obtain⟨E,eE,FE,E1⟩:=k3 n (zn n)
 rw[eE,EC hf1,FE 0 0 (by omega),B00,za zp]
 refine⟨E,rfl,fun c i h1 h2 h3 h4 h5=>?_,fun i hi=>?_,fun i h1 h2 h3=>?_⟩
 ·rw[FE c i (by omega),FB c i h1];exact FA c i h2 h3 h4 h5
 ·by_cases q:i<n
  ·exact E1 i q
  ·rw[FE 5 i (by omega)];exact B1 i hi
 ·rw[FE 5 i (by omega)];exact B0 i h1 h2 h3
theorem Qfq(hf1:Fx f1){S:MS}{n:Nat}{s:Int32}(h0:S 0 0=Int32.ofNat n)(hn:n<=8):∃S',f1 (43,0,[.ref 0,.int s],[],S)=some (none,S')/\(∀c i,c≠11->S' c i=S c i)/\(∀i,8<=i->i<64->S' 11 i=0)/\∀c,c<n->S' 11 c=if Qj s c=true then 1 else 0:=by
 rw[Eb9 hf1]
 have k1:=Qau (fun k=>f1 (43,2,[.ref 0,.int s,.int (Int32.ofNat k)],[],Qx S 11 0 k fun _=>0)) (n:=64) fun k hk=>by
  show f1 _=f1 _
  rw[Eag hf1,zb (show Int32.ofNat k<64 from (Ql (b:=64) (by omega) (by omega)).mpr hk),zb (Qt (by omega) hk),Qu (by omega),Qv,Qa5 (by omega) rfl]
 have e1:f1 (43,2,[.ref 0,.int s,.int 0],[],S)=f1 (43,23,[.ref 0,.int s,.int 0],[],Qx S 11 0 64 fun _=>0):=by
  refine Eq.trans ?_ (k1.trans ?_)
  ·show _=f1 (_,_,_,_,Qx S 11 0 0 _)
   rw[QaG];rfl
  ·show f1 _=_
   rw[Eag hf1,za (by decide)]
 rw[e1]
 generalize hD:Qx S 11 0 64 (fun _=>0)=D
 have FD:∀c i,c≠11->D c i=S c i:=fun c i h=>by rw[<-hD,Qw h]
 have D11:∀i,i<64->D 11 i=0:=fun i h=>by rw[<-hD,Qbm (by omega) h]
 have k2:∀k,k<=n->∃B,f1 (43,23,[.ref 0,.int s,.int 0],[],D)=f1 (43,23,[.ref 0,.int s,.int (Int32.ofNat k)],[],B)/\(∀c i,c≠11->B c i=S c i)/\(∀i,k<=i->i<64->B 11 i=0)/\∀c,c<k->B 11 c=if Qj s c=true then 1 else 0:=fun k=>by
  induction k with
  |zero=>exact fun _=>⟨D,rfl,FD,fun i _ h=>D11 i h,fun i hi=>absurd hi (by omega)⟩
  |succ k ih=>
   intro hk
   obtain⟨B,eB,FB,B0,B1⟩:=ih (by omega)
   rw[eB,EV hf1,FB 0 0 (by decide),h0,zb ((Ql (by omega) (by omega)).mpr (by omega)),zb (show Int32.ofNat k<8 from (Ql (b:=8) (by omega) (by omega)).mpr (by omega)),Qv]
   by_cases q:Qj s k=true
   ·rw[zb ((Qa4 s (by omega)).mpr q),zb (Qt (by omega) (by omega)),Qu (by omega)]
    refine⟨_,rfl,fun c i h=>by rw[Qh,za (by omega)];exact FB c i h,fun i h1 h2=>by rw[Qh,za (by omega)];exact B0 i (by omega) h2,fun c hc=>?_⟩
    rw[Qh]
    by_cases e:c=k
    ·rw[zb ⟨rfl,e⟩,e,zb q]
    ·rw[za (by omega)];exact B1 c (by omega)
   ·rw[za (fun h=>q ((Qa4 s (by omega)).mp h))]
    refine⟨B,rfl,FB,fun i h1 h2=>B0 i (by omega) h2,fun c hc=>?_⟩
    by_cases e:c=k
    ·rw[e,za q];exact B0 k (by omega) (by omega)
    ·exact B1 c (by omega)
 obtain⟨B,eB,FB,B0,B1⟩:=k2 n (zn n)
 rw[eB,EV hf1,FB 0 0 (by decide),h0,za zp]
 exact⟨B,rfl,FB,fun i h1 h2=>B0 i (by omega) h2,B1⟩
theorem Qfu(hf1:Fx f1){S:MS}{n:Nat}{t:Qf}{s:Int32}(v:QaE n t S)(hs:∀c,Qj s c=true->c<n):∃S',Qcq S S'/\((f1 (42,0,[.ref 0,.int s],[],S)=some (some (.int 0),S')/\QP (Qj s) (Qc t)=none)\/(f1 (42,0,[.ref 0,.int s],[],S)=some (some (.int 1),S')/\∃t',QaE n t' S'/\(QP (Qj s) (Qc t)).map QB=some (Qc t'))):=by
 obtain⟨G,pm,h0,h4,r,v1,v0⟩:=v
 have hp:=Qcr G
 obtain⟨w,ht,nd,hn,h8⟩:=G
 obtain⟨A,eA,FA,A6,A13⟩:=QcC hf1 w ht r h4 (by omega)
 have rA:QA A t:=QW (fun i=>⟨FA 1 i (by decide) (by decide) (by decide) (by omega),FA 3 i (by decide) (by decide) (by decide) (by omega)⟩) (fun i=>FA 4 i (by decide) (by decide) (by decide) (by omega)) t w r
 have sA:Qao A 0 (Qa t) (Qa t).length:=⟨A6,by omega,by omega,fun i hi=>by rw[zD];exact A13 i hi⟩
 rw[Eby hf1,eA];simp only[zz]
 obtain⟨B,eB,FB,-,AB⟩:=QfI hf1 t w 0 _ A nd rA sA
 have eB':f1 (37,0,[.ref 0],[],A)=some (none,B):=by
  rw[Edr hf1]
  refine Eq.trans eB ?_
  rw[Eas hf1,(FB 0 6 (by decide)).trans A6,zD,za zp]
 rw[Eeb hf1,eB'];simp only[zz]
 obtain⟨D,eD,FD,D0,D1⟩:=Qfq hf1 (S:=B) (n:=n) (s:=s) (by rw[FB 0 0 (by decide),FA 0 0 (by decide) (by decide) (by decide) (by omega)];exact h0) h8
 rw[Ea8 hf1,eD];simp only[zz]
 have FS:∀c i,c≠11->c≠12->c≠13->c≠14->c≠15->¬(c=0/\i=6)->D c i=S c i:=fun c i g1 g2 g3 g4 g5 g6=>by rw[FD c i g1,FB c i g2];exact FA c i g3 g4 g5 g6
 have sD:Qao D 0 (Qa t) (Qa t).length:=QbX ((FD 0 6 (by decide)).trans (FB 0 6 (by decide))) (fun i=>(FD 13 i (by decide)).trans (FB 13 i (by decide))) sA
 have AD:Qap (fun u=>D 12 (Qg u)=QU u) t:=Qbk t w (fun u _ _ q=>by rw[FD 12 _ (by decide)];exact q) AB
 have al:Qq (Qj s) t=true:=Qad.mpr fun c _ hc=>pm.mem_iff.mpr (zx.mpr (hs c hc))
 have nF:QJ t->False:=fun h=>QaK h ht
 obtain⟨eP,hP⟩:=(Qgy hf1 (S:=D) (s:=s) t w 0 sD AD).1 ⟨fun _=>al,fun h=>absurd h nF⟩
 rw[zD] at eP
 have eP':f1 (44,0,[.ref 0,.int s],[],D)=some (some (.int (Int32.ofNat (Qal (Qj s) t))),D):=by rw[Ecb hf1];exact eP
 rw[Ea5 hf1,eP'];simp only[zz]
 rw[EbX hf1,za (Q0 (by omega))]
 have LP:Qb6 D (Qj s) 0 (Qa t).length 15 t:=by
  refine⟨QW (fun i=>⟨FS 1 i (by decide) (by decide) (by decide) (by decide) (by decide) (by omega),FS 3 i (by decide) (by decide) (by decide) (by decide) (by decide) (by omega)⟩) (fun i=>FS 4 i (by decide) (by decide) (by decide) (by decide) (by decide) (by omega)) t w r,sD,nd,fun i hi h8=>⟨?_,D0 i h8 (QcD t w i hi)⟩,fun c hc=>?_,AD,by omega,⟨Qa t,hp,fun i h1 h2 h3=>?_⟩,by omega⟩
  ·rw[FS 5 i (by decide) (by decide) (by decide) (by decide) (by decide) (by omega),v1 i hi h8];decide
  ·have hcn:=zx.mp (pm.mem_iff.mp hc)
   rw[D1 c hcn]
   unfold Qi
   show _=if ([c]:List Nat).all _=true then (1:Int32) else if ([c]:List Nat).all _=true then 0 else 2
   rw[List.all_cons,List.all_nil,zaf,List.all_cons,List.all_nil,zaf]
   by_cases q:Qj s c=true
   ·rw[zb q,zb q]
   ·rw[za q,za q,zb (by rw[zH] at q;rw[q];rfl)]
  ·refine Classical.byContradiction fun q=>h3 ?_
   rw[FS 5 i (by decide) (by decide) (by decide) (by decide) (by decide) (by omega)];exact v0 i h1 h2 q
 obtain⟨S1,F1,h1⟩:=Qf0 hf1 (s:=s) (pi:=Qal (Qj s) t) (by omega) t w 0 15 D LP (by omega) ⟨fun _=>al,fun h=>absurd h nF⟩
 have f1':∀c i,c≠1->c≠2->c≠3->c≠4->c≠5->c≠11->c≠12->c≠13->c≠14->c≠15->(c<16\/19<c)->¬(c=0/\6<=i/\i<=10)->S1 c i=S c i:=fun c i a1 a2 a3 a4 a5 a6 a7 a8 a9 a10 a11 a12=>by
  rw[F1.1 c i a1 a2 a3 a4 a5 a6 a11 (by omega)];exact FS c i a6 a7 a8 a9 a10 (by omega)
 have sc1:Qcq S S1:=fun c i q=>f1' c i (by omega) (by omega) (by omega) (by omega) (by omega) (by omega) (by omega) (by omega) (by omega) (by omega) (by omega) (by omega)
 rw[QgN (Qj s) t w]
 rcases h1 with⟨e1,n1⟩ | ⟨⟨xt,e1⟩,T,n1,TF,hT,-⟩
 ·exact⟨S1,sc1,Or.inl ⟨e1,n1⟩⟩
 obtain⟨T1,T2,T3,T4,T5,T6,T7⟩:=TF
 obtain⟨tT,tS⟩:=hT ht
 have GT:Qck n T:=⟨T1,tT,T3,by rw[T6.length_eq];exact hn,h8⟩
 have hpT:=Qcr GT
 obtain⟨S2,e2,F2,r2⟩:=QgJ hf1 T1 tT T3 T2 (by rw[sc1 0 4 (by omega),tS];exact h4) (by omega)
 obtain⟨z1,z2,z3,z4⟩:=QcA T T1
 obtain⟨z5,z6⟩:=Qdx T tT
 have e04:S2 0 4=Int32.ofNat (Qg (QB T)):=by rw[F2 0 4 (by decide) (by decide) (by decide) (by decide) (by omega),sc1 0 4 (by omega),z6,tS];exact h4
 have e00:S2 0 0=Int32.ofNat n:=by rw[F2 0 0 (by decide) (by decide) (by decide) (by decide) (by omega),sc1 0 0 (by omega)];exact h0
 obtain⟨S3,e3,F3,L1,L0⟩:=Qgr hf1 z3 z5 r2 e00 h8 e04 (by rw[z1];omega)
 have e1':f1 (42,27,[.ref 0,.int s,.int (Int32.ofNat (Qal (Qj s) t)),.int 0],[],D)=some (some (.int 1),S3):=by
  refine Eq.trans e1 ?_
  rw[Ey hf1,za (by decide),e2];simp only[zz]
  rw[Ecs hf1,e3];simp only[zz]
  rw[Edn hf1]
 refine⟨S3,fun c i q=>?_,Or.inr ⟨e1',QB T,⟨⟨z3,z5,by rw[z1];exact T3,by rw[z2,T6.length_eq];exact hn,h8⟩,by rw[z2];exact T6.trans pm,(F3 0 0 (by decide) (by decide) (by decide) (by decide) (by omega)).trans e00,(F3 0 4 (by decide) (by decide) (by decide) (by decide) (by omega)).trans e04,QW (fun i=>⟨F3 1 i (by decide) (by decide) (by decide) (by decide) (by omega),F3 3 i (by decide) (by decide) (by decide) (by decide) (by omega)⟩) (fun i=>F3 4 i (by decide) (by decide) (by decide) (by decide) (by omega)) _ z3 r2,fun i hi _=>L1 i hi,L0⟩,?_⟩⟩
 ·rw[F3 c i (by omega) (by omega) (by omega) (by omega) (by omega),F2 c i (by omega) (by omega) (by omega) (by omega) (by omega)];exact sc1 c i q
 ·rw[n1,Option.map_some,z4]
end Norm
theorem Qfi{S S':MS}:∀t,Qp t->(∀i∈Qa t,S' 1 i=S 1 i/\S' 3 i=S 3 i/\∀k,k<8->S' 4 (8*i+k)=S 4 (8*i+k))->QA S t->QA S' t:=QR
 (fun c _ h r=>(h c (by simp[Qa])).1.trans r)
 (fun o x f w ih h r=>by
  have hx:=h x (by simp[Qa])
  have hw:=w.2.2.1.2
  exact⟨hx.1.trans r.1,hx.2.1.trans r.2.1,fun i hi=>(hx.2.2 i (by omega)).trans (r.2.2.1 i hi),ih (fun i hi=>h i (by simp only[Qa,zc];exact Or.inl hi)) r.2.2.2⟩)
 (fun t f _ ih ih' h r=>⟨ih (fun i hi=>h i (by simp only[Qa,zc];exact Or.inl hi)) r.1,ih' (fun i hi=>h i (by simp only[Qa,zc];exact Or.inr hi)) r.2⟩) (fun _ _=>trivial)
def QaW(S S':MS):Prop:=∀c i,((c=0/\(i<=3\/11<=i))\/20<=c)->S' c i=S c i
theorem QbN{S A B:MS}(h:QaW S A)(h':QaW A B):QaW S B:=fun c i q=>(h' c i q).trans (h c i q)
theorem Qft(S:MS):QaW S (Qa3 S):=fun c i q=>by
 unfold Qa3
 rw[Qw (by omega),Qw (by omega),Qw (by omega),Qw (by omega),Qw (by omega),Qh,za (by omega)]
theorem Qfe(S:MS):∀c i,(c≠6/\c≠7/\c≠8/\c≠9/\c≠10)->¬(c=0/\i=5)->Qa3 S c i=S c i:=fun c i q h=>by
 unfold Qa3
 rw[Qw (by omega),Qw (by omega),Qw (by omega),Qw (by omega),Qw (by omega),Qh,za (by omega)]
theorem Qgj{n:Nat}{t:Qf}{S:MS}(v:QaE n t S):QaE n t (Qa3 S):=by
 have h:=Qfe S
 obtain⟨G,pm,h0,h4,r,v1,v0⟩:=v
 exact⟨G,pm,(h 0 0 (by decide) (by omega)).trans h0,(h 0 4 (by decide) (by omega)).trans h4,QW (fun i=>⟨h 1 i (by decide) (by omega),h 3 i (by decide) (by omega)⟩) (fun i=>h 4 i (by decide) (by omega)) t G.1 r,fun i hi h8=>(h 5 i (by decide) (by omega)).trans (v1 i hi h8),fun i a1 a2 a3=>(h 5 i (by decide) (by omega)).trans (v0 i a1 a2 a3)⟩
theorem Qey{n:Nat}{t:Qf}{S A:MS}(v:QaE n t S)(sc:Qcq (Qa3 S) A):QaE n t (Qat A)/\QaW A (Qat A):=by
 obtain⟨G,pm,h0,h4,r,v1,v0⟩:=v
 have e4:Qat A 0 4=S 0 4:=by
  show A 0 5=_
  rw[sc 0 5 (by omega)];rfl
 have e1:∀i,i<64->Qat A 1 i=S 1 i:=fun i hi=>by
  unfold Qat
  rw[Qw (by omega),Qw (by omega),Qw (by omega),Qw (by omega),Qbm (by omega) hi,sc 6 i (by omega)]
  unfold Qa3
  rw[Qw (by omega),Qw (by omega),Qw (by omega),Qw (by omega),Qbm (by omega) hi]
 have e3:∀i,i<64->Qat A 3 i=S 3 i:=fun i hi=>by
  unfold Qat
  rw[Qw (by omega),Qw (by omega),Qbm (by omega) hi,sc 8 i (by omega)]
  unfold Qa3
  rw[Qw (by omega),Qw (by omega),Qbm (by omega) hi]
 have e5:∀i,i<64->Qat A 5 i=(S 5 i&&&1)&&&1:=fun i hi=>by
  unfold Qat
  rw[Qw (by omega),Qbm (by omega) hi,sc 10 i (by omega)]
  unfold Qa3
  rw[Qw (by omega),Qbm (by omega) hi]
 have e4k:∀i,i<512->Qat A 4 i=S 4 i:=fun i hi=>by
  unfold Qat
  rw[Qbm (by omega) hi,sc 9 i (by omega)]
  unfold Qa3
  rw[Qbm (by omega) hi]
 refine⟨⟨G,pm,?_,e4.trans h4,Qfi t G.1 (fun i hi=>?_) r,fun i hi h8=>?_,fun i a1 a2 a3=>?_⟩,fun c i q=>?_⟩
 ·show A 0 0=_
  rw[sc 0 0 (by omega)];exact h0
 ·have:=QcD t G.1 i hi
  exact⟨e1 i this,e3 i this,fun k hk=>e4k _ (by omega)⟩
 ·rw[e5 i (QcD t G.1 i hi),v1 i hi h8];decide
 ·rw[e5 i a2,v0 i a1 a2 a3];decide
 ·unfold Qat
  rw[Qw (by omega),Qw (by omega),Qw (by omega),Qw (by omega),Qw (by omega),Qh,za (by omega)]
def QaZ(n:Nat):Int32:=(1<<<(Int32.ofNat n&&&31))-1
def QaJ(n:Nat)(s:Int32):Bool:=decide (((List.range 8).filter (Qj s)).length<=1)||decide (s=QaZ n)
def Qan(s:Int32)(t:Qf):Option Qf:=(QP (Qj s) t).map QB
def QN(n:Nat)(s:Int32)(t:Qf):Int32:=
 if QaJ n s=true then 2 else match Qan s t with
 |none=>3
 |some t'=>if QH t'=QH t then 2 else 1
def Qbd(n:Nat)(s:Int32)(t:Qf):Qf:=if QN n s t=1 then (Qan s t).getD t else t
def QaU(n:Nat)(x:Int32):Bool:=decide ((x&&&(QaZ n^^^(-1)))=0)
def QaF(n:Nat)(x:Int32)(t:Qf):Int32:=if QaU n x=true then QN n x t else 0
theorem Qcj{n:Nat}(hn:n<=8)(c:Nat):Qj (QaZ n) c=decide (c<n):=by
 have e:QaZ n=Int32.ofNat (2 ^ n-1):=by
  have:∀k:Fin 9,QaZ k.val=Int32.ofNat (2 ^ k.val-1):=by decide
  exact this ⟨n,by omega⟩
 rw[e]
 show (BitVec.ofNat 32 (2 ^ n-1)).getLsbD c=_
 rw[BitVec.getLsbD_ofNat,Nat.testBit_two_pow_sub_one]
 by_cases q:c<n
 ·rw[zV q,zV (show c<32 by omega)];rfl
 ·rw[z9 q,zaq]
theorem QdA{n:Nat}(hn:n<=8){x:Int32}(h:QaU n x=true)(c:Nat)(hc:Qj x c=true):c<n:=by
 have h':=(Qbb _).mp (zaa h) c
 refine Classical.byContradiction fun q=>?_
 have c32:=Qb9 x hc
 rw[Qbu,hc,Bool.true_and] at h'
 have e:Qj (QaZ n^^^(-1)) c=true:=by
  unfold Qj
  rw[Int32.toBitVec_xor,BitVec.getLsbD_xor]
  have:=Qcj hn c
  unfold Qj at this
  rw[this,z9 q]
  show (false ^^ (BitVec.allOnes 32).getLsbD c)=true
  rw[BitVec.getLsbD_allOnes,zV c32];rfl
 rw[e] at h'
 exact absurd h' (by decide)
def Qaj(n:Nat)(t:Qf)(S:MS):Prop:=QaE n t S/\Qcb S t
theorem QcS{S S':MS}{t:Qf}(h:QaW S S')(c:Qcb S t):Qcb S' t:=
 ⟨(h 0 11 (by omega)).trans c.1,(h 0 12 (by omega)).trans c.2.1,fun i hi=>(h 22 i (by omega)).trans (c.2.2.1 i hi),fun i hi=>(h 23 _ (by omega)).trans (c.2.2.2 i hi)⟩
theorem Qfs{S S':MS}(h:Qcq S S'):QaW S S':=fun c i q=>h c i (by omega)
section Verd
variable {f1:FT1}
theorem Qdi(hf1:Fx f1){S:MS}{n:Nat}(h0:S 0 0=Int32.ofNat n):f1 (18,0,[.ref 0],[],S)=some (some (.int (QaZ n)),S):=by
 rw[EbQ hf1,h0];rfl
theorem Qe1(hf1:Fx f1){S:MS}{n:Nat}{x:Int32}(h0:S 0 0=Int32.ofNat n):f1 (19,0,[.ref 0,.int x],[],S)=some (some (.int (Qbn (QaU n x))),S):=by
 rw[EbY hf1,Qdi hf1 h0];simp only[zz]
 rw[EaP hf1]
 unfold QaU
 by_cases q:(x&&&(QaZ n^^^(-1)))=0
 ·rw[zb q,zV q];rfl
 ·rw[za q,z9 q];rfl
theorem Qgu(hf1:Fx f1){S:MS}{n:Nat}{s:Int32}(h0:S 0 0=Int32.ofNat n):f1 (20,0,[.ref 0,.int s],[],S)=some (some (.int (Qbn (QaJ n s))),S):=by
 rw[Ecc hf1]
 have key:=Qau (fun k=>f1 (20,4,[.ref 0,.int s,.int (Int32.ofNat ((List.range k).filter (Qj s)).length),.int (Int32.ofNat k)],[],S)) (n:=8) fun k hk=>by
  show f1 _=f1 _
  rw[Ex hf1,zb (show Int32.ofNat k<8 from (Ql (b:=8) (by omega) (by omega)).mpr hk),Qv,Qv,List.range_succ,List.filter_append]
  by_cases q:Qj s k=true
  ·rw[zb ((Qa4 s (by omega)).mpr q),List.filter_cons_of_pos q,zd];rfl
  ·rw[za (fun h=>q ((Qa4 s (by omega)).mp h)),List.filter_cons_of_neg q,List.filter_nil,zk]
 refine Eq.trans key ?_
 show f1 _=_
 have l8:((List.range 8).filter (Qj s)).length<=8:=zB (zN _ _) (by simp)
 rw[Ex hf1,za (by decide)]
 unfold QaJ
 by_cases q:((List.range 8).filter (Qj s)).length<=1
 ·rw[za (show ¬1<Int32.ofNat _ from fun h=>absurd ((Ql (a:=1) (by omega) (by omega)).mp h) (by omega)),zV q,Bool.true_or];rfl
 ·rw[zb (show 1<Int32.ofNat _ from (Ql (a:=1) (by omega) (by omega)).mpr (by omega)),Qdi hf1 h0,z9 q,zak];simp only[zz]
  rw[EdI hf1]
  by_cases e:s=QaZ n
  ·rw[zb e,zV e];rfl
  ·rw[za e,z9 e];rfl
theorem Qd5(hf1:Fx f1){S:MS}{n:Nat}{t:Qf}{s:Int32}(W:Qaj n t S)(hs:∀c,Qj s c=true->c<n):∃S',f1 (17,0,[.ref 0,.int s],[],S)=some (some (.int (QN n s (Qc t))),S')/\QaW S S'/\(QN n s (Qc t)=1->(∃t',QaE n t' S'/\Qan s (Qc t)=some (Qc t'))/\QaE n t (Qat S')/\QaW S' (Qat S'))/\(QN n s (Qc t)≠1->QaE n t S'):=by
 obtain⟨v,ca⟩:=W
 have w:=v.1.1
 have ecn:QH (Qc t)=QH t:=(QbU t w).2.2.2
 rw[Ebm hf1,Qgu hf1 v.2.2.1];simp only[zz]
 rw[EeU hf1]
 by_cases q:QaJ n s=true
 ·have hv:QN n s (Qc t)=2:=by unfold QN;rw[zb q]
  rw[za (by rw[q];decide),hv]
  exact⟨S,rfl,fun _ _ _=>rfl,fun h=>absurd h (by decide),fun _=>v⟩
 ·have q':QaJ n s=false:=by rw[zH] at q;exact q
  rw[zb (by rw[q'];rfl),Qfv hf1 S];simp only[zz]
  have vs:=Qgj v
  obtain⟨S1,sc,h⟩:=Qfu hf1 (s:=s) vs hs
  rw[EdP hf1]
  have k1:QaW S S1:=QbN (Qft S) (Qfs sc)
  have vf:QN n s (Qc t)=match Qan s (Qc t) with | none=>3 | some t'=>if QH t'=QH (Qc t) then 2 else 1:=by unfold QN;rw[za q]
  rcases h with⟨e,nn⟩ | ⟨e,t',v',hR⟩
  ·rw[e];simp only[zz]
   rw[Eau hf1,zb rfl,QdG hf1 S1];simp only[zz]
   rw[Ebg hf1]
   have hR:Qan s (Qc t)=none:=by unfold Qan;rw[nn];rfl
   obtain⟨rv,rk⟩:=Qey v sc
   rw[vf,hR]
   exact⟨Qat S1,rfl,QbN k1 rk,fun h=>absurd (show (3:Int32)=1 from h) (by decide),fun _=>rv⟩
  ·rw[e];simp only[zz]
   have hR':Qan s (Qc t)=some (Qc t'):=hR
   have hp:=Qcr v'.1
   have vG:=v'.1
   obtain⟨G',pm',h0',h4',r',v1',v0'⟩:=v'
   obtain⟨w',ht',nd',-,-⟩:=G'
   obtain⟨A,eA,FA,A6,A13⟩:=QcC hf1 w' ht' r' h4' (by omega)
   rw[Eau hf1,za (by decide),eA];simp only[zz]
   have rA:QA A t':=QW (fun i=>⟨FA 1 i (by decide) (by decide) (by decide) (by omega),FA 3 i (by decide) (by decide) (by decide) (by omega)⟩) (fun i=>FA 4 i (by decide) (by decide) (by decide) (by omega)) t' w' r'
   have sA:Qao A 0 (Qa t') (Qa t').length:=⟨A6,by omega,by omega,fun i hi=>by rw[zD];exact A13 i hi⟩
   have eC:f1 (67,0,[.ref 0],[],A)=some (some (.int (QH t')),A):=by
    rw[EG hf1]
    refine Eq.trans (QeD hf1 t' w' 0 _ A 1 rA sA) ?_
    rw[Eh hf1,A6,zD,za zp,Int32.one_mul]
   rw[Ebe hf1,eC];simp only[zz]
   have kA:QaW S1 A:=fun c i hq=>FA c i (by omega) (by omega) (by omega) (by omega)
   have scA:Qcq (Qa3 S) A:=fun c i hq=>(FA c i (by omega) (by omega) (by omega) (by omega)).trans (sc c i hq)
   have ecn':QH (Qc t')=QH t':=(QbU t' w').2.2.2
   have A11:A 0 11=QH t:=by rw[kA 0 11 (by omega),k1 0 11 (by omega)];exact ca.1
   rw[Ee0 hf1,A11,vf,hR']
   obtain⟨rv,rk⟩:=Qey v scA
   show ∃S',_=some (some (Jvm.Value.int (if QH (Qc t')=QH (Qc t) then 2 else 1)),S')/\_/\((if QH (Qc t')=QH (Qc t) then (2:Int32) else 1)=1->_)/\((if QH (Qc t')=QH (Qc t) then (2:Int32) else 1)≠1->_)
   rw[ecn,ecn']
   by_cases e2:QH t'=QH t
   ·rw[zb e2,zb e2,QdG hf1 A];simp only[zz]
    rw[Eck hf1]
    exact⟨Qat A,rfl,QbN (QbN k1 kA) rk,fun h=>absurd h (by decide),fun _=>rv⟩
   ·rw[za e2,za e2]
    refine⟨A,rfl,QbN k1 kA,fun _=>⟨⟨t',⟨vG,pm',?_,?_,rA,fun i hi h8=>?_,fun i a1 a2 a3=>?_⟩,rfl⟩,rv,rk⟩,fun h=>absurd rfl h⟩
    ·exact (FA 0 0 (by decide) (by decide) (by decide) (by omega)).trans h0'
    ·exact (FA 0 4 (by decide) (by decide) (by decide) (by omega)).trans h4'
    ·exact (FA 5 i (by decide) (by decide) (by decide) (by omega)).trans (v1' i hi h8)
    ·exact (FA 5 i (by decide) (by decide) (by decide) (by omega)).trans (v0' i a1 a2 a3)
theorem Qem(hf1:Fx f1){S:MS}{n:Nat}{t:Qf}{s:Int32}(W:Qaj n t S)(hs:∀c,Qj s c=true->c<n):∃S' t',f1 (16,0,[.ref 0,.int s],[],S)=some (some (.int (QN n s (Qc t))),S')/\Qaj n t' S'/\Qc t'=Qbd n s (Qc t)/\S' 0 1=S 0 1/\S' 0 2=(if QN n s (Qc t)=3 then S 0 2 else S 0 2+1)/\S' 0 3=(if QN n s (Qc t)=3 then S 0 3+1 else S 0 3):=by
 obtain⟨S1,e,k,h1,h2⟩:=Qd5 hf1 W hs
 rw[Ebi hf1,e];simp only[zz]
 rw[Een hf1]
 have vU:∀(A:MS) (t':Qf) (j:Nat) (w:Int32),(j=2\/j=3)->QaE n t' A->QaE n t' (Jvm.OM.upd A 0 j w):=fun A t' j w hj v=>by
  obtain⟨G,pm,h0,h4,r,v1,v0⟩:=v
  have u:∀c i,¬(c=0/\(i=2\/i=3))->Jvm.OM.upd A 0 j w c i=A c i:=fun c i h=>by rw[Qh,za (by omega)]
  exact⟨G,pm,(u 0 0 (by omega)).trans h0,(u 0 4 (by omega)).trans h4,QW (fun i=>⟨u 1 i (by omega),u 3 i (by omega)⟩) (fun i=>u 4 i (by omega)) t' G.1 r,fun i hi h8=>(u 5 i (by omega)).trans (v1 i hi h8),fun i a1 a2 a3=>(u 5 i (by omega)).trans (v0 i a1 a2 a3)⟩
 have cU:∀(A:MS) (t':Qf) (j:Nat) (w:Int32),(j=2\/j=3)->Qcb A t'->Qcb (Jvm.OM.upd A 0 j w) t':=fun A t' j w hj c=>
  ⟨by rw[Qh,za (by omega)];exact c.1,by rw[Qh,za (by omega)];exact c.2.1,fun i hi=>by rw[Qh,za (by omega)];exact c.2.2.1 i hi,fun i hi=>by rw[Qh,za (by omega)];exact c.2.2.2 i hi⟩
 by_cases q3:QN n s (Qc t)=3
 ·have q1:QN n s (Qc t)≠1:=by rw[q3];decide
  rw[zb q3,Es hf1,za q1,En hf1,zb q3,zb q3]
  refine⟨_,t,rfl,⟨vU _ t 3 _ (Or.inr rfl) (h2 q1),cU _ t 3 _ (Or.inr rfl) (QcS k W.2)⟩,by unfold Qbd;rw[za q1],?_,?_,?_⟩
  ·rw[Qh,za (by omega)];exact k 0 1 (by omega)
  ·rw[Qh,za (by omega)];exact k 0 2 (by omega)
  ·rw[Qh,zb ⟨rfl,rfl⟩,k 0 3 (by omega)]
 ·rw[za q3,Es hf1,za q3,za q3]
  by_cases q1:QN n s (Qc t)=1
  ·obtain⟨⟨t',v',hR⟩,-,-⟩:=h1 q1
   have vA:=vU S1 t' 2 (S1 0 2+1) (Or.inl rfl) v'
   obtain⟨D,eD,FD,cD⟩:=Qfc hf1 (S:=Jvm.OM.upd S1 0 2 (S1 0 2+1)) vA.1 vA.2.2.1 vA.2.2.2.1 vA.2.2.2.2.1
   rw[zb q1,eD];simp only[zz]
   rw[En hf1]
   obtain⟨G,pm,h0,h4,r,v1,v0⟩:=vA
   refine⟨D,t',rfl,⟨⟨G,pm,(FD 0 0 (by decide) (by omega)).trans h0,(FD 0 4 (by decide) (by omega)).trans h4,QW (fun i=>⟨FD 1 i (by decide) (by omega),FD 3 i (by decide) (by omega)⟩) (fun i=>FD 4 i (by decide) (by omega)) t' G.1 r,fun i hi h8=>(FD 5 i (by decide) (by omega)).trans (v1 i hi h8),fun i a1 a2 a3=>(FD 5 i (by decide) (by omega)).trans (v0 i a1 a2 a3)⟩,cD⟩,by unfold Qbd;rw[zb q1,hR];rfl,?_,?_,?_⟩
   ·rw[FD 0 1 (by decide) (by omega),Qh,za (by omega)];exact k 0 1 (by omega)
   ·rw[FD 0 2 (by decide) (by omega),Qh,zb ⟨rfl,rfl⟩,k 0 2 (by omega)]
   ·rw[FD 0 3 (by decide) (by omega),Qh,za (by omega)];exact k 0 3 (by omega)
  ·rw[za q1,En hf1]
   refine⟨_,t,rfl,⟨vU _ t 2 _ (Or.inl rfl) (h2 q1),cU _ t 2 _ (Or.inl rfl) (QcS k W.2)⟩,by unfold Qbd;rw[za q1],?_,?_,?_⟩
   ·rw[Qh,za (by omega)];exact k 0 1 (by omega)
   ·rw[Qh,zb ⟨rfl,rfl⟩,k 0 2 (by omega)]
   ·rw[Qh,za (by omega)];exact k 0 3 (by omega)
end Verd
def QcO(n:Nat)(x:Int32)(t:Qf):Qf:=if QaU n x=true then Qbd n x t else t
theorem Qdd(n:Nat)(s:Int32)(t:Qf):QN n s t=1\/QN n s t=2\/QN n s t=3:=by
 unfold QN
 split
 ·exact Or.inr (Or.inl rfl)
 ·split
  ·exact Or.inr (Or.inr rfl)
  ·split
   ·exact Or.inr (Or.inl rfl)
   ·exact Or.inl rfl
theorem Qdy{n:Nat}(hn:n<=8){x:Int32}:QaU n x=true↔∀c,Qj x c=true->c<n:=by
 refine⟨QdA hn,fun h=>zV ((Qbb _).mpr fun c=>?_)⟩
 rw[Qbu]
 cases e:Qj x c
 ·rfl
 ·rw[Bool.true_and]
  have hc:=h c e
  unfold Qj
  rw[Int32.toBitVec_xor,BitVec.getLsbD_xor]
  have:=Qcj hn c
  unfold Qj at this
  rw[this,zV hc]
  show (true ^^ (BitVec.allOnes 32).getLsbD c)=false
  rw[BitVec.getLsbD_allOnes,zV (show c<32 by omega)];rfl
theorem Qec{n:Nat}(hn:n<=8){x:Int32}(h:∀c,Qj x c=true->c<n):x&&&QaZ n=x:=Qdh fun c=>by
 rw[Qbu,Qcj hn c]
 cases e:Qj x c
 ·rfl
 ·rw[Bool.true_and];exact zV (h c e)
theorem Qdk(g:Qf->List Nat)(hg:∀c,g (.arg c)=[c]):∀l:List Nat,(l.map Jvm.Term.arg).flatMap g=l
 |[]=>rfl
 |c::l=>by rw[zO,zf,Qdk g hg l,hg];rfl
def Qb2(n:Nat):Qf:=if n<2 then .arg 0 else .op2 .iand (.arg 8) (Qk ((List.range n).map .arg))
section Sys
variable {f1:FT1}
theorem Qd6(hf1:Fx f1){S:MS}{n:Nat}{t:Qf}{x:Int32}(W:Qaj n t S):∃S' t',f1 (8,0,[.ref 0,.int x],[],S)=some (some (.int (QaF n x (Qc t))),S')/\Qaj n t' S'/\Qc t'=QcO n x (Qc t)/\S' 0 1=S 0 1/\S' 0 2=(if QaF n x (Qc t)=1\/QaF n x (Qc t)=2 then S 0 2+1 else S 0 2)/\S' 0 3=(if QaF n x (Qc t)=3 then S 0 3+1 else S 0 3):=by
 rw[Ecj hf1,Qe1 hf1 W.1.2.2.1];simp only[zz]
 rw[EdS hf1]
 unfold QaF QcO
 by_cases q:QaU n x=true
 ·rw[za (by rw[q];decide),zb q,zb q]
  obtain⟨S1,t',e,W',h1,h2,h3,h4⟩:=Qem hf1 W (QdA W.1.1.2.2.2.2 q)
  rw[e];simp only[zz]
  rw[Ea7 hf1]
  refine⟨S1,t',rfl,W',h1,h2,?_,h4⟩
  rw[h3]
  rcases Qdd n x (Qc t) with v | v | v
  ·rw[v,za (by decide),zb (Or.inl rfl)]
  ·rw[v,za (by decide),zb (Or.inr rfl)]
  ·rw[v,zb rfl,za (by decide)]
 ·have q':QaU n x=false:=by rw[zH] at q;exact q
  rw[zb (by rw[q'];rfl),za q,za q]
  exact⟨S,t,rfl,W,rfl,rfl,by rw[za (by decide)],by rw[za (by decide)]⟩
theorem Qfo(hf1:Fx f1){S:MS}{n:Nat}{t:Qf}(W:Qaj n t S)(hp:∀c,Qj (S 0 1) c=true->c<n):∃S' t',f1 (7,0,[.ref 0],[],S)=some (some (.int (QN n (S 0 1) (Qc t))),S')/\Qaj n t' S'/\Qc t'=Qbd n (S 0 1) (Qc t)/\S' 0 1=0/\S' 0 2=(if QN n (S 0 1) (Qc t)=3 then S 0 2 else S 0 2+1)/\S' 0 3=(if QN n (S 0 1) (Qc t)=3 then S 0 3+1 else S 0 3):=by
 rw[Ecz hf1,Qdi hf1 W.1.2.2.1];simp only[zz]
 obtain⟨S1,t',e,W',h1,h2,h3,h4⟩:=Qem hf1 W hp
 rw[Eex hf1,Qec W.1.1.2.2.2.2 hp,e];simp only[zz]
 rw[EeP hf1]
 obtain⟨⟨G,pm,h0,h4',r,v1,v0⟩,c1,c2,c3,c4⟩:=W'
 have u:∀c i,¬(c=0/\i=1)->Jvm.OM.upd S1 0 1 0 c i=S1 c i:=fun c i h=>by rw[Qh,za h]
 exact⟨Jvm.OM.upd S1 0 1 0,t',rfl,⟨⟨G,pm,(u 0 0 (by omega)).trans h0,(u 0 4 (by omega)).trans h4',QW (fun i=>⟨u 1 i (by omega),u 3 i (by omega)⟩) (fun i=>u 4 i (by omega)) t' G.1 r,fun i hi h8=>(u 5 i (by omega)).trans (v1 i hi h8),fun i a1 a2 a3=>(u 5 i (by omega)).trans (v0 i a1 a2 a3)⟩,(u 0 11 (by omega)).trans c1,(u 0 12 (by omega)).trans c2,fun i hi=>(u 22 i (by omega)).trans (c3 i hi),fun i hi=>(u 23 _ (by omega)).trans (c4 i hi)⟩,h1,rfl,(u 0 2 (by omega)).trans h3,(u 0 3 (by omega)).trans h4⟩
theorem QdK(hf1:Fx f1){S S':MS}{n:Nat}{t:Qf}(W:Qaj n t S)(u:∀c i,¬(c=0/\i=1)->S' c i=S c i):Qaj n t S':=by
 obtain⟨⟨G,pm,h0,h4',r,v1,v0⟩,c1,c2,c3,c4⟩:=W
 exact⟨⟨G,pm,(u 0 0 (by omega)).trans h0,(u 0 4 (by omega)).trans h4',QW (fun i=>⟨u 1 i (by omega),u 3 i (by omega)⟩) (fun i=>u 4 i (by omega)) t G.1 r,fun i hi h8=>(u 5 i (by omega)).trans (v1 i hi h8),fun i a1 a2 a3=>(u 5 i (by omega)).trans (v0 i a1 a2 a3)⟩,(u 0 11 (by omega)).trans c1,(u 0 12 (by omega)).trans c2,fun i hi=>(u 22 i (by omega)).trans (c3 i hi),fun i hi=>(u 23 _ (by omega)).trans (c4 i hi)⟩
theorem QgW(hf1:Fx f1){S:MS}{n:Nat}(hn:1<=n/\n<=8)(h0:S 0 0=Int32.ofNat n):∃S',f1 (31,0,[.ref 0],[],S)=some (none,S')/\QaE n (Qb2 n) S':=by
 rw[Edk hf1]
 have k1:∀k,k<=64->∃B,f1 (31,2,[.ref 0,.int 0],[],S)=f1 (31,2,[.ref 0,.int (Int32.ofNat k)],[],B)/\(∀i,B 0 i=S 0 i)/\∀i,i<k->B 1 i=0/\B 3 i=0/\B 5 i=0:=fun k=>by
  induction k with
  |zero=>exact fun _=>⟨S,rfl,fun _=>rfl,fun i hi=>absurd hi (by omega)⟩
  |succ k ih=>
   intro hk
   obtain⟨B,eB,FB,B0⟩:=ih (by omega)
   rw[eB,Eai hf1,zb (show Int32.ofNat k<64 from (Ql (b:=64) (by omega) (by omega)).mpr (by omega)),zb (Qt (by omega) (by omega)),Qu (by omega),Qv]
   refine⟨_,rfl,fun i=>FB i,fun i hi=>?_⟩
   by_cases e:i=k
   ·subst e
    refine⟨?_,?_,?_⟩
    ·rw[Qh,za (by omega),Qh,za (by omega),Qh,za (by omega),Qh,za (by omega),Qh,zb ⟨rfl,rfl⟩]
    ·rw[Qh,za (by omega),Qh,za (by omega),Qh,zb ⟨rfl,rfl⟩]
    ·rw[Qh,za (by omega),Qh,zb ⟨rfl,rfl⟩]
   ·obtain⟨b1,b3,b5⟩:=B0 i (by omega)
    refine⟨?_,?_,?_⟩<;>rw[Qh,za (by omega),Qh,za (by omega),Qh,za (by omega),Qh,za (by omega),Qh,za (by omega)]
    ·exact b1
    ·exact b3
    ·exact b5
 obtain⟨B,eB,FB,B0⟩:=k1 64 (zn _)
 rw[eB,Eai hf1,za (by decide)]
 have k2:=Qau (fun k=>f1 (31,51,[.ref 0,.int (Int32.ofNat k)],[],Qx B 4 0 k fun _ => -1)) (n:=512) fun k hk=>by
  show f1 _=f1 _
  rw[EaG hf1,zb (show Int32.ofNat k<512 from (Ql (b:=512) (by omega) (by omega)).mpr hk),zb (Qt (by omega) hk),Qu (by omega),Qv,Qa5 (by omega) rfl]
 have e2:f1 (31,51,[.ref 0,.int 0],[],B)=f1 (31,73,[.ref 0,.int 0],[],Qx B 4 0 512 fun _ => -1):=by
  refine Eq.trans ?_ (k2.trans ?_)
  ·show _=f1 (_,_,_,_,Qx B 4 0 0 _)
   rw[QaG];rfl
  ·show f1 _=_
   rw[EaG hf1,za (by decide)]
 rw[e2]
 generalize hC:Qx B 4 0 512 (fun _ => -1)=C
 have FC:∀c i,c≠4->C c i=B c i:=fun c i h=>by rw[<-hC,Qw h]
 have C00:C 0 0=Int32.ofNat n:=by rw[FC 0 0 (by decide),FB];exact h0
 have k3:=Qau (fun k=>f1 (31,73,[.ref 0,.int (Int32.ofNat k)],[],Qx C 5 0 k fun _=>1)) (n:=n) fun k hk=>by
  show f1 _=f1 _
  rw[Eah hf1,Qw (by decide),C00,zb ((Ql (by omega) (by omega)).mpr hk),zb (show Int32.ofNat k<8 from (Ql (b:=8) (by omega) (by omega)).mpr (by omega)),zb (Qt (by omega) (by omega)),Qu (by omega),Qv,Qa5 (by omega) rfl]
 have e3:f1 (31,73,[.ref 0,.int 0],[],C)=f1 (31,100,[.ref 0,.int (Int32.ofNat n)],[],Qx C 5 0 n fun _=>1):=by
  refine Eq.trans ?_ (k3.trans ?_)
  ·show _=f1 (_,_,_,_,Qx C 5 0 0 _)
   rw[QaG];rfl
  ·show f1 _=_
   rw[Eah hf1,Qw (by decide),C00,za zp]
 rw[e3]
 generalize hD:Qx C 5 0 n (fun _=>1)=D
 have FD:∀c i,c≠5->D c i=C c i:=fun c i h=>by rw[<-hD,Qw h]
 have D00:D 0 0=Int32.ofNat n:=by rw[FD 0 0 (by decide)];exact C00
 have D5:∀i,8<=i->i<64->D 5 i=0:=fun i h1 h2=>by
  rw[<-hD]
  show (if 5=5/\0<=i/\i<n then _ else _)=_
  rw[za (by omega),FC 5 i (by decide)];exact (B0 i h2).2.2
 have D1:∀i,i<64->D 1 i=0:=fun i h=>by rw[FD 1 i (by decide),FC 1 i (by decide)];exact (B0 i h).1
 have D3:∀i,i<64->D 3 i=0:=fun i h=>by rw[FD 3 i (by decide),FC 3 i (by decide)];exact (B0 i h).2.1
 rw[Ecv hf1,D00]
 unfold Qb2
 by_cases q:n<2
 ·have n1:n=1:=by omega
  subst n1
  rw[zb (by decide),zb (by decide)]
  refine⟨_,rfl,⟨by show (0:Nat)<8;omega,trivial,by simp[Qa],rfl,by omega⟩,List.Perm.refl _,?_,rfl,?_,fun i hi h8=>?_,fun i h1 h2 _=>?_⟩
  ·rw[Qh,za (by omega)];exact D00
  ·show Jvm.OM.upd D 0 4 0 1 0=0
   rw[Qh,za (by omega)];exact D1 0 (by omega)
  ·simp only[Qa,zh] at hi;omega
  ·rw[Qh,za (by omega)];exact D5 i h1 h2
 ·rw[za (show ¬Int32.ofNat n<2 from fun h=>q ((Ql (b:=2) (by omega) (by omega)).mp h)),za q]
  have k4:∀k,k<=n->∃E,f1 (31,142,[.ref 0,.int 0],[],Jvm.OM.upd (Jvm.OM.upd (Jvm.OM.upd D 0 4 8) 5 8 1) 1 8 1)=f1 (31,142,[.ref 0,.int (Int32.ofNat k)],[],E)/\(∀c i,c≠2->¬(c=3/\i=8)->¬(c=4/\64<=i/\i<72)->E c i=Jvm.OM.upd (Jvm.OM.upd (Jvm.OM.upd D 0 4 8) 5 8 1) 1 8 1 c i)/\E 3 8=Int32.ofNat k/\∀i,i<k->E 4 (64+i)=Int32.ofNat i:=fun k=>by
   induction k with
   |zero=>exact fun _=>⟨_,rfl,fun _ _ _ _ _=>rfl,D3 8 (by omega),fun i hi=>absurd hi (by omega)⟩
   |succ k ih=>
    intro hk
    obtain⟨E,eE,FE,E3,E4⟩:=ih (by omega)
    have E00:E 0 0=Int32.ofNat n:=(FE 0 0 (by decide) (by omega) (by omega)).trans D00
    have E04:E 0 4=Int32.ofNat 8:=FE 0 4 (by decide) (by omega) (by omega)
    rw[eE,EaF hf1,E00,E04,zb ((Ql (by omega) (by omega)).mpr (by omega)),zb (show Int32.ofNat k<8 from (Ql (b:=8) (by omega) (by omega)).mpr (by omega)),Qdo hf1 E (x:=8) (c:=k) (d:=k) (by omega) (by omega) (by omega) E3];simp only[zz]
    rw[Ea1 hf1,Qv]
    refine⟨_,rfl,fun c i h1 h2 h3=>?_,?_,fun i hi=>?_⟩
    ·rw[Qh,za (by omega),Qh,za (by omega),Qh,za (by omega)];exact FE c i h1 h2 h3
    ·rw[Qh,za (by omega),Qh,zb ⟨rfl,rfl⟩]
    ·rw[Qh,za (by omega),Qh,za (by omega),Qh]
     by_cases e:i=k
     ·rw[zb ⟨rfl,by omega⟩,e]
     ·rw[za (by omega)];exact E4 i (by omega)
  obtain⟨E,eE,FE,E3,E4⟩:=k4 n (zn _)
  have E00:E 0 0=Int32.ofNat n:=(FE 0 0 (by decide) (by omega) (by omega)).trans D00
  rw[eE,EaF hf1,E00,za zp]
  have hk:(Qd (Qk ((List.range n).map Jvm.Term.arg))).length=n:=by rw[QV,zi,zap]
  have mem:∀u∈(List.range n).map Jvm.Term.arg,∃c,c<n/\u = .arg c:=fun u hu=>by
   obtain⟨c,hc,e⟩:=z8.mp hu
   exact⟨c,zx.mp hc,e.symm⟩
  have ep:Qa (.op2 .iand (.arg 8) (Qk ((List.range n).map Jvm.Term.arg)))=List.range n++[8]:=by
   show Qa (Qk _)++[8]=_
   rw[Qcv,Qdk Qa (fun _=>rfl)]
  have ev:Qe (.op2 .iand (.arg 8) (Qk ((List.range n).map Jvm.Term.arg)))=List.range n:=by
   show Qe (Qk _)=_
   rw[QaM,Qdk Qe (fun _=>rfl)]
  refine⟨E,rfl,⟨⟨⟨by omega,by omega⟩,Or.inl rfl,by rw[hk];omega,QaY _,Qco fun u hu=>?_⟩,trivial,?_,by rw[ev,zap],hn.2⟩,by rw[ev],E00,FE 0 4 (by decide) (by omega) (by omega),⟨FE 1 8 (by decide) (by omega) (by omega),by rw[hk];exact E3,fun i hi=>?_,Qcz fun u hu=>?_⟩,fun i hi h8=>?_,fun i h1 h2 h3=>?_⟩
  ·obtain⟨c,hc,e⟩:=mem u hu
   rw[e];exact⟨trivial,by show c<8;omega⟩
  ·rw[ep,zl]
   refine⟨List.nodup_range,by simp,fun a ha c hc e=>?_⟩
   rw[zh] at hc
   have:=zx.mp ha
   omega
  ·rw[hk] at hi
   rw[QV,show 8*8+i=64+i from rfl,E4 i hi]
   congr 1
   rw[ze,List.getElem?_map,List.getElem?_range hi]
   rfl
  ·obtain⟨c,hc,e⟩:=mem u hu
   rw[e]
   show E 1 c=0
   rw[FE 1 c (by decide) (by omega) (by omega),Qh,za (by omega),Qh,za (by omega),Qh,za (by omega)];exact D1 c (by omega)
  ·rw[ep,zc,zh,zx] at hi
   have e:i=8:=by omega
   rw[e,FE 5 8 (by decide) (by omega) (by omega),Qh,za (by omega),Qh,zb ⟨rfl,rfl⟩]
  ·rw[ep,zc,zh,not_or] at h3
   rw[FE 5 i (by decide) (by omega) (by omega),Qh,za (by omega),Qh,za (by omega),Qh,za (by omega)];exact D5 i h1 h2
theorem Qc8(hf1:Fx f1)(n:Nat)(S:MS)(h1:1<=n)(h8:n<=8)(h0:S 0 0=Int32.ofNat n):∃S',f1 (2,0,[.ref 0],[],S)=some (none,S')/\Qaj n (Qb2 n) S'/\S' 0 1=0/\S' 0 2=0/\S' 0 3=0:=by
 obtain⟨A,eA,V⟩:=QgW hf1 ⟨h1,h8⟩ h0
 rw[EaR hf1,eA];simp only[zz]
 have vU:∀(A:MS) (j:Nat),(j=1\/j=2\/j=3)->QaE n (Qb2 n) A->QaE n (Qb2 n) (Jvm.OM.upd A 0 j 0):=fun A j hj v=>by
  obtain⟨G,pm,h0,h4,r,v1,v0⟩:=v
  have u:∀c i,¬(c=0/\(i=1\/i=2\/i=3))->Jvm.OM.upd A 0 j 0 c i=A c i:=fun c i h=>by rw[Qh,za (by omega)]
  exact⟨G,pm,(u 0 0 (by omega)).trans h0,(u 0 4 (by omega)).trans h4,QW (fun i=>⟨u 1 i (by omega),u 3 i (by omega)⟩) (fun i=>u 4 i (by omega)) _ G.1 r,fun i hi h8=>(u 5 i (by omega)).trans (v1 i hi h8),fun i a1 a2 a3=>(u 5 i (by omega)).trans (v0 i a1 a2 a3)⟩
 have vA:=vU _ 3 (Or.inr (Or.inr rfl)) (vU _ 2 (Or.inr (Or.inl rfl)) (vU A 1 (Or.inl rfl) V))
 obtain⟨D,eD,FD,cD⟩:=Qfc hf1 vA.1 vA.2.2.1 vA.2.2.2.1 vA.2.2.2.2.1
 rw[EaS hf1,eD];simp only[zz]
 rw[EdN hf1]
 obtain⟨G,pm,h0,h4,r,v1,v0⟩:=vA
 exact⟨D,rfl,⟨⟨G,pm,(FD 0 0 (by decide) (by omega)).trans h0,(FD 0 4 (by decide) (by omega)).trans h4,QW (fun i=>⟨FD 1 i (by decide) (by omega),FD 3 i (by decide) (by omega)⟩) (fun i=>FD 4 i (by decide) (by omega)) _ G.1 r,fun i hi h8=>(FD 5 i (by decide) (by omega)).trans (v1 i hi h8),fun i a1 a2 a3=>(FD 5 i (by decide) (by omega)).trans (v0 i a1 a2 a3)⟩,cD⟩,FD 0 1 (by decide) (by omega),FD 0 2 (by decide) (by omega),FD 0 3 (by decide) (by omega)⟩
theorem Qge(hf1:Fx f1)(x:Int32):∃n,1<=n/\n<=8/\Int32.ofNat n=(if x<1 then 1 else if 8<x then 8 else x)/\∀S,∃S',f1 (0,222,[.ref 0,.int x],[],S)=some (none,S')/\Qaj n (Qb2 n) S'/\S' 0 1=0/\S' 0 2=0/\S' 0 3=0:=by
 by_cases q1:x<1
 ·refine⟨1,by omega,by omega,by rw[zb q1];rfl,fun S=>?_⟩
  rw[Ee hf1,zb q1,Ei hf1,za (by decide)]
  obtain⟨S',e,h⟩:=Qc8 hf1 1 (Jvm.OM.upd S 0 0 1) (by omega) (by omega) rfl
  rw[e];simp only[zz]
  rw[Ej hf1]
  exact⟨S',rfl,h⟩
 by_cases q2:8<x
 ·refine⟨8,by omega,by omega,by rw[za q1,zb q2];rfl,fun S=>?_⟩
  rw[Ee hf1,za q1,Ei hf1,zb q2]
  obtain⟨S',e,h⟩:=Qc8 hf1 8 (Jvm.OM.upd S 0 0 8) (by omega) (by omega) rfl
  rw[e];simp only[zz]
  rw[Ej hf1]
  exact⟨S',rfl,h⟩
 have i1:1<=x.toInt:=by
  have:=Int32.le_iff_toInt_le.mp (Int32.not_lt.mp q1)
  have e:(1:Int32).toInt=1:=rfl
  omega
 have i2:x.toInt<=8:=by
  have:=Int32.le_iff_toInt_le.mp (Int32.not_lt.mp q2)
  have e:(8:Int32).toInt=8:=rfl
  omega
 have ex:x=Int32.ofNat x.toInt.toNat:=by
  rw[<-Int32.toInt_inj,Qak (by omega)];omega
 refine⟨x.toInt.toNat,by omega,by omega,by rw[za q1,za q2];exact ex.symm,fun S=>?_⟩
 rw[Ee hf1,za q1,Ei hf1,za q2]
 obtain⟨S',e,h⟩:=Qc8 hf1 x.toInt.toNat (Jvm.OM.upd S 0 0 x) (by omega) (by omega) (by rw[Qh,zb ⟨rfl,rfl⟩];exact ex)
 rw[e];simp only[zz]
 rw[Ej hf1]
 exact⟨S',rfl,h⟩
end Sys
theorem Qe4{vs:List Int32}{m:Nat}:∀k j,Qah vs m k=some j->∀i,i<k->m.testBit i=false->¬vs.getD j 0<vs.getD i 0
 |0,j,h,_,_,_=>absurd h (by simp[Qah])
 |k+1,j,h,i,hi,hm=>by
  have ih:=Qe4 (vs:=vs) (m:=m) k
  simp only[Qah] at h
  cases e:Qah vs m k with
  |none=>
   rw[e] at h
   have h':(if m.testBit k=true then none else some k)=some j:=h
   by_cases q:m.testBit k=true
   ·rw[zb q] at h';exact absurd h' (by simp)
   ·rw[za q] at h'
    have ej:k=j:=Option.some.inj h'
    by_cases ik:i=k
    ·rw[ik,<-ej];exact zp
    ·have:=(QbP (vs:=vs) (m:=m) k).2 e i (by omega)
     rw[this] at hm;exact absurd hm (by decide)
  |some j0=>
   rw[e] at h
   have h':(if m.testBit k=true then some j0 else if vs.getD j0 0<vs.getD k 0 then some k else some j0)=some j:=h
   by_cases q:m.testBit k=true
   ·rw[zb q] at h'
    have ej:j0=j:=Option.some.inj h'
    by_cases ik:i=k
    ·rw[ik,q] at hm;exact absurd hm (by decide)
    ·rw[<-ej];exact ih j0 e i (by omega) hm
   ·rw[za q] at h'
    by_cases r:vs.getD j0 0<vs.getD k 0
    ·rw[zb r] at h'
     have ej:k=j:=Option.some.inj h'
     by_cases ik:i=k
     ·rw[ik,<-ej];exact zp
     ·rw[<-ej]
      have:=ih j0 e i (by omega) hm
      rw[zL] at this r ⊢
      omega
    ·rw[za r] at h'
     have ej:j0=j:=Option.some.inj h'
     by_cases ik:i=k
     ·rw[ik,<-ej];exact r
     ·rw[<-ej];exact ih j0 e i (by omega) hm
theorem Qeo{vs:List Int32}{d:Nat}:∀r m,(QY vs d r m).Pairwise (fun a c=>¬vs.getD a 0<vs.getD c 0)/\∀j∈QY vs d r m,j<d/\m.testBit j=false
 |0,m=>⟨List.Pairwise.nil,fun j hj=>absurd hj (by simp[QY])⟩
 |r+1,m=>by
  simp only[QY]
  cases e:Qah vs m d with
  |none=>exact⟨List.Pairwise.nil,fun j hj=>absurd hj (by simp)⟩
  |some j0=>
   obtain⟨i1,i2⟩:=Qeo (vs:=vs) (d:=d) r (m|||2 ^ j0)
   have h0:=(QbP (vs:=vs) (m:=m) d).1 j0 e
   have un:∀j∈QY vs d r (m|||2 ^ j0),j<d/\m.testBit j=false:=fun j hj=>by
    have:=i2 j hj
    refine⟨this.1,?_⟩
    have h:=this.2
    rw[Nat.testBit_or,Bool.or_eq_false_iff] at h
    exact h.1
   refine⟨List.pairwise_cons.mpr ⟨fun c hc=>Qe4 d j0 e c (un c hc).1 (un c hc).2,i1⟩,fun j hj=>?_⟩
   rcases zA.mp hj with q | q
   ·rw[q];exact h0
   ·exact un j q
theorem QeX:∀(l:List Int32) (acc:Int32),¬acc<l.foldl Q2 acc/\(∀v∈l,¬v<l.foldl Q2 acc)/\(l.foldl Q2 acc=acc\/l.foldl Q2 acc∈l)
 |[],acc=>⟨zp,fun v hv=>absurd hv (by simp),Or.inl rfl⟩
 |w::l,acc=>by
  obtain⟨i1,i2,i3⟩:=QeX l (Q2 acc w)
  rw[List.foldl_cons]
  have m1:¬acc<Q2 acc w/\¬w<Q2 acc w/\(Q2 acc w=acc\/Q2 acc w=w):=by
   unfold Q2
   by_cases q:w<acc
   ·rw[zb q]
    refine⟨fun h=>?_,zp,Or.inr rfl⟩
    rw[zL] at q h;omega
   ·rw[za q];exact⟨zp,q,Or.inl rfl⟩
  refine⟨fun h=>?_,fun v hv=>?_,?_⟩
  ·have a:=m1.1
   rw[zL] at h a i1;omega
  ·rcases zA.mp hv with e | e
   ·subst e
    intro h
    have a:=m1.2.1
    rw[zL] at h a i1;omega
   ·exact i2 v e
  ·rcases i3 with e | e
   ·rcases m1.2.2 with e' | e'
    ·exact Or.inl (e.trans e')
    ·exact Or.inr (by rw[e,e'];simp)
   ·exact Or.inr (List.mem_cons_of_mem _ e)
theorem Qen(c:Nat):∀(l:List Qf) (acc:Int32),Qj (l.foldl (fun a u=>a|||QO u) acc) c=true↔Qj acc c=true\/∃u∈l,Qj (QO u) c=true
 |[],acc=>by simp
 |u::l,acc=>by
  rw[List.foldl_cons,Qen c l (acc|||QO u),Qct,zai]
  constructor
  ·rintro ((h | h) | ⟨v,hv,h⟩)
   ·exact Or.inl h
   ·exact Or.inr ⟨u,by simp,h⟩
   ·exact Or.inr ⟨v,by simp[hv],h⟩
  ·rintro (h | ⟨v,hv,h⟩)
   ·exact Or.inl (Or.inl h)
   ·rcases zA.mp hv with e | e
    ·exact Or.inl (Or.inr (e▸h))
    ·exact Or.inr ⟨v,e,h⟩
def Qel(t:Qf):Prop:=∃a z,(Qz t).head? = some a/\(Qz t).getLast? = some z/\QC t=Int32.ofNat a/\Qj (QO t) a=true/\Qj (QO t) z=true/\a<8/\∀c,Qj (QO t) c=true->c∈Qe t/\a<=c
theorem QdN{α:Type}{l l':List α}{a:α}(h:l.head? = some a):(l++l').head? = some a:=by rw[List.head?_append,h];rfl
theorem QdX{α:Type}{l l':List α}{a:α}(h:l'.getLast? = some a):(l++l').getLast? = some a:=by rw[List.getLast?_append,h];rfl
theorem Qdj{l:List Qf}{i:Nat}(h:i<l.length):(l.map Qz).getD i []=Qz (l.getD i .null):=by
 simp only[ze,List.getElem?_map,List.getElem?_eq_getElem h,Option.map_some,Option.getD_some]
theorem Qgt:∀t,Qp t->(Qo t->Qel t)/\(QJ t->∀u∈Qd t,Qel u):=QR
 (fun c hc=>⟨fun _=>by
  have b:∀i,Qj (QO (.arg c)) i=decide (i=c):=fun i=>Qcc (by omega) i
  refine⟨c,c,rfl,rfl,rfl,by rw[b];simp,by rw[b];simp,hc,fun i hi=>?_⟩
  rw[b] at hi
  have:=zaa hi
  rw[this];exact⟨by simp[Qe],zn _⟩,fun h=>absurd h id⟩)
 (fun o x f w ih=>⟨fun _=>by
  have hs:=Qdu w
  have hf:=QcP w
  obtain⟨w1,w3,⟨w4,w5⟩,w6,w7⟩:=w
  have X:=ih.2 w6
  have kF:=QbG f w7 w6
  have kL:=QbH f w7 w6
  have lvK:=Qdm w7 w6
  have hll:Qz (.op2 o (.arg x) f)=if o = .iand then (QY (QF f) (QF f).length (QF f).length 0).reverse.flatMap (fun i=>(QX f).getD i []) else if (QF f).getD 0 0<(QF f).getD ((QF f).length-1) 0 then (QX f).flatMap id else (QX f).reverse.flatMap id:=rfl
  rw[kF,kL,zi] at hll
  have hlv:Qe (.op2 o (.arg x) f)=Qe f:=rfl
  generalize Qd f=K at *
  by_cases ho:o = .iand
  ·rw[zb ho] at hll hs hf
   have pm:=QcX (K.map QC) K.length
   have pw:=(Qeo (vs:=K.map QC) (d:=K.length) K.length 0).1
   have ne:QY (K.map QC) K.length K.length 0≠[]:=fun e=>by
    have:=pm.length_eq
    rw[e,zap] at this
    simp at this;omega
   have mem:∀i,i∈QY (K.map QC) K.length K.length 0↔i<K.length:=fun i=>by rw[pm.mem_iff,zx]
   generalize QY (K.map QC) K.length K.length 0=L at *
   obtain⟨i1,L1,eL1⟩:∃i1 L1,L=i1::L1:=by
    cases L with
    |nil=>exact absurd rfl ne
    |cons a l=>exact⟨a,l,rfl⟩
   have eL0:L=L.dropLast++[L.getLast ne]:=(List.dropLast_concat_getLast ne).symm
   generalize L.getLast ne=i0 at eL0
   have h0:i0<K.length:=(mem i0).mp (by rw[eL0];simp)
   have h1:i1<K.length:=(mem i1).mp (by rw[eL1];simp)
   have mn:∀u∈K,¬QC u<QC (K.getD i0 .null):=fun u hu=>by
    obtain⟨j,hj,e⟩:=List.getElem_of_mem hu
    have hjL:=(mem j).mpr hj
    have gj:(K.map QC).getD j 0=QC u:=by rw[Qbs QC hj,ze,List.getElem?_eq_getElem hj];show QC K[j]=_;rw[e]
    have g0:(K.map QC).getD i0 0=QC (K.getD i0 .null):=Qbs QC h0
    rw[eL0] at hjL pw
    rcases zc.mp hjL with q | q
    ·have:=(List.pairwise_append.mp pw).2.2 j q i0 (by simp)
     rw[gj,g0] at this;exact this
    ·rw[zh] at q
     rw[<-gj,<-g0,q];exact zp
   obtain⟨a0,z0,x1,x2,x3,x4,x5,x6,x7⟩:=X _ (Q9 h0)
   obtain⟨a1,z1,y1,y2,y3,y4,y5,y6,y7⟩:=X _ (Q9 h1)
   have fs0:QC (.op2 o (.arg x) f)=Int32.ofNat a0:=by
    rw[hf,<-List.foldl_map (f:=QC) (g:=Q2),<-x3]
    obtain⟨m1,m2,m3⟩:=QeX (K.map QC) 64
    have up:¬QC (K.getD i0 .null)<(K.map QC).foldl Q2 64:=m2 _ (z8.mpr ⟨_,Q9 h0,rfl⟩)
    rcases m3 with e | e
    ·rw[e,x3] at up
     exact absurd (show Int32.ofNat a0<64 from (Ql (b:=64) (by omega) (by omega)).mpr (by omega)) up
    ·obtain⟨u,hu,eu⟩:=z8.mp e
     have lo:=mn u hu
     rw[eu] at lo
     rw[<-Int32.toInt_inj]
     rw[zL] at lo up
     omega
   have ssb:∀c,Qj (QO (.op2 o (.arg x) f)) c=true↔∃u∈K,Qj (QO u) c=true:=fun c=>by
    rw[hs,Qen c K 0,(Qbb 0).mp rfl c];simp
   refine⟨a0,z1,?_,?_,fs0,(ssb a0).mpr ⟨_,Q9 h0,x4⟩,(ssb z1).mpr ⟨_,Q9 h1,y5⟩,x6,fun c hc=>?_⟩
   ·rw[hll,eL0,zab,List.reverse_singleton,List.singleton_append,zf]
    exact QdN (by rw[Qdj h0];exact x1)
   ·rw[hll,eL1,zaz,zj,zf,zo,zk]
    exact QdX (by rw[Qdj h1];exact y2)
   ·obtain⟨u,hu,hb⟩:=(ssb c).mp hc
    obtain⟨au,zu,u1,u2,u3,u4,u5,u6,u7⟩:=X u hu
    refine⟨lvK u hu c (u7 c hb).1,?_⟩
    have lo:=mn u hu
    rw[u3,x3,Ql (by omega) (by omega)] at lo
    have:=(u7 c hb).2
    omega
  ·rw[za ho] at hll hs hf
   have h0:0<K.length:=by omega
   have h1:K.length-1<K.length:=by omega
   have hKn:K≠[]:=fun e=>by rw[e] at w4;exact absurd w4 (by simp)
   obtain⟨u0,K0,eK0⟩:∃u0 K0,K=u0::K0:=by
    cases K with
    |nil=>exact absurd rfl hKn
    |cons a l=>exact⟨a,l,rfl⟩
   have eK1:K=K.dropLast++[K.getLast hKn]:=(List.dropLast_concat_getLast hKn).symm
   have g0:K.getD 0 .null=u0:=by rw[eK0];rfl
   have g1:K.getD (K.length-1) .null=K.getLast hKn:=by
    rw[ze,List.getElem?_eq_getElem h1,List.getLast_eq_getElem];rfl
   obtain⟨a0,z0,x1,x2,x3,x4,x5,x6,x7⟩:=X _ (Q9 h0)
   obtain⟨a1,z1,y1,y2,y3,y4,y5,y6,y7⟩:=X _ (Q9 h1)
   have m0:=Q9 h0
   have m1:=Q9 h1
   rw[Qbs QC h0,Qbs QC h1] at hll
   rw[g0] at hll hs hf x1 x2 x3 x4 x5 x7 m0
   rw[g1] at hll hs hf y1 y2 y3 y4 y5 y7 m1
   generalize K.getLast hKn=ul at *
   have ssb:∀c,Qj (QO (.op2 o (.arg x) f)) c=true↔Qj (QO u0) c=true\/Qj (QO ul) c=true:=fun c=>by
    rw[hs,Qct,zai]
   by_cases q:QC u0<QC ul
   ·rw[zb q] at hll
    have q':=q
    rw[x3,y3,Ql (by omega) (by omega)] at q'
    refine⟨a0,z1,?_,?_,?_,(ssb a0).mpr (Or.inl x4),(ssb z1).mpr (Or.inr y5),x6,fun c hc=>?_⟩
    ·rw[hll,eK0,zO,zf];exact QdN x1
    ·rw[hll,eK1,zr,zj,zO,List.map_nil,zf,zo,zk];exact QdX y2
    ·rw[hf];unfold Q2;rw[zb q];exact x3
    ·rcases (ssb c).mp hc with h | h
     ·exact⟨lvK u0 m0 c (x7 c h).1,(x7 c h).2⟩
     ·exact⟨lvK ul m1 c (y7 c h).1,by have:=(y7 c h).2;omega⟩
   ·rw[za q] at hll
    have q':=q
    rw[x3,y3,Ql (by omega) (by omega)] at q'
    refine⟨a1,z0,?_,?_,?_,(ssb a1).mpr (Or.inr y4),(ssb z0).mpr (Or.inl x5),y6,fun c hc=>?_⟩
    ·rw[hll,eK1,zr,zab,zO,List.map_nil,List.reverse_singleton,List.singleton_append,zf];exact QdN y1
    ·rw[hll,eK0,zO,zaz,zj,zf,zo,zk];exact QdX x2
    ·rw[hf];unfold Q2;rw[za q];exact y3
    ·rcases (ssb c).mp hc with h | h
     ·exact⟨lvK u0 m0 c (x7 c h).1,by have:=(x7 c h).2;omega⟩
     ·exact⟨lvK ul m1 c (y7 c h).1,(y7 c h).2⟩,fun h=>absurd h id⟩)
 (fun t f w iht ihf=>⟨fun h=>absurd h id,fun _ u hu=>by
  rcases zA.mp hu with e | e
  ·rw[e];exact iht.1 w.1
  ·exact ihf.2 w.2.1 u e⟩)
 ⟨fun h=>absurd h id,fun _ u hu=>absurd hu (by simp[Qd])⟩
def Qs:Nat->Nat
 |0=>1
 |n+1=>(n+1)*Qs n
def Qr:Qf->Nat
 | .arg _=>1
 | .op2 o (.arg _) f=>Qr f*(if o = .iand then Qs (Qd f).length else 2)
 | .add t f=>Qr t*Qr f
 |_=>1
theorem Qbv:∀n,1<=Qs n
 |0=>zn _
 |n+1=>zJ (by omega) (Qbv n)
theorem QcU(m:Nat):∀a,Qs (a+1)*Qs (m+1)<=Qs (m+(a+1))
 |0=>by show 1*1*Qs (m+1)<=Qs (m+1);omega
 |a+1=>by
  have ih:=QcU m a
  show (a+1+1)*Qs (a+1)*Qs (m+1)<=(m+(a+1)+1)*Qs (m+(a+1))
  rw[zP]
  exact zag (by omega) ih
theorem QeA:∀t,Qp t->QH t=Int32.ofNat (Qr t):=QR
 (fun c _=>rfl)
 (fun o x f w ih=>by
  show QH f*(if o = .iand then QaA (Qd f).length 7 else 2)=Int32.ofNat (Qr f*(if o = .iand then Qs (Qd f).length else 2))
  rw[ih,<-Qbw]
  congr 1
  have fe:∀k:Fin 9,QaA k.val 7=Int32.ofNat (Qs k.val):=by decide
  split
  ·exact fe ⟨(Qd f).length,by have:=w.2.2.1.2;omega⟩
  ·rfl)
 (fun t f _ iht ihf=>by show QH t*QH f=Int32.ofNat (Qr t*Qr f);rw[iht,ihf,Qbw]) rfl
theorem Qd7:∀t,Qp t->1<=Qr t/\(Qo t->Qr t<=Qs (Qe t).length)/\(QJ t->Qr t*Qs (Qd t).length<=Qs (Qe t).length):=QR
 (fun c _=>⟨zn _,fun _=>zn _,fun h=>absurd h id⟩)
 (fun o x f w ih=>by
  obtain⟨i1,-,i3⟩:=ih
  have i3:=i3 w.2.2.2.1
  have k2:=w.2.2.1.1
  have f2:2<=Qs (Qd f).length:=by
   obtain⟨k,e⟩:∃k,(Qd f).length=k+2:=⟨(Qd f).length-2,by omega⟩
   rw[e]
   show 2<=(k+2)*((k+1)*Qs k)
   have:=Qbv k
   have h1:1<=(k+1)*Qs k:=zJ (by omega) this
   exact zB (by omega) (zag (show 2<=k+2 by omega) h1)
  have ex:Qr (.op2 o (.arg x) f)=Qr f*(if o = .iand then Qs (Qd f).length else 2):=rfl
  rw[ex]
  refine⟨?_,fun _=>?_,fun h=>absurd h id⟩
  ·refine zJ i1 ?_
   split
   ·exact Qbv _
   ·omega
  ·refine zB (zY _ ?_) i3
   split
   ·exact zn _
   ·exact f2)
 (fun t f w iht ihf=>by
  obtain⟨i1,i2,-⟩:=iht
  obtain⟨j1,-,j3⟩:=ihf
  have i2:=i2 w.1
  have j3:=j3 w.2.1
  have ex:Qr (.add t f)=Qr t*Qr f:=rfl
  have ev:(Qe (.add t f)).length=(Qe f).length+(Qe t).length:=by show (Qe t++Qe f).length=_;rw[zd];omega
  have ek:(Qd (.add t f)).length=(Qd f).length+1:=rfl
  rw[ex,ev,ek]
  refine⟨zJ i1 j1,fun h=>absurd h id,fun _=>?_⟩
  have hp:=zZ.mpr (QbY t w.2.2.1 w.1)
  have hk:(Qd f).length<=(Qe f).length:=by
   have:=QaT (Qd f) (Qam w.2.2.2)
   rw[Qa1 Qe (fun _ _=>rfl) rfl f w.2.2.2 w.2.1] at this;exact this
  obtain⟨a,ea⟩:∃a,(Qe t).length=a+1:=⟨(Qe t).length-1,by omega⟩
  rw[ea] at i2 ⊢
  refine zB ?_ (QcU (Qe f).length a)
  show Qr t*Qr f*(((Qd f).length+1)*Qs (Qd f).length)<=Qs (a+1)*(((Qe f).length+1)*Qs (Qe f).length)
  rw[zP]
  refine zag i2 ?_
  rw[zI]
  exact zag (by omega) j3)
 ⟨zn _,fun h=>absurd h id,fun _=>zn _⟩
def Qy:Qf->Prop
 | .arg c=>c<8
 | .op2 o (.arg _) f=>(o = .iand\/o = .ior)/\2<=(Qd f).length/\QJ f/\Qy f
 | .add t f=>Qo t/\QJ f/\Qy t/\Qy f
 | .null=>True
 |_=>False
theorem QaR{P:Qf->Prop}(leaf:∀c,c<8->P (.arg c))(node:∀o x f,Qy (.op2 o (.arg x) f)->P f->P (.op2 o (.arg x) f))(cons:∀t f,Qy (.add t f)->P t->P f->P (.add t f))(nil:P .null):∀t,Qy t->P t
 | .arg c,h=>leaf c h
 | .op2 o (.arg x) f,h=>node o x f h (QaR leaf node cons nil f h.2.2.2)
 | .add t f,h=>cons t f h (QaR leaf node cons nil t h.2.2.1) (QaR leaf node cons nil f h.2.2.2)
 | .null,_=>nil
theorem Qda:∀t,Qp t->Qy t:=QR (fun c h=>h) (fun o x f w ih=>⟨w.2.1,w.2.2.1.1,w.2.2.2.1,ih⟩) (fun t f w iht ihf=>⟨w.1,w.2.1,iht,ihf⟩) trivial
theorem QbM:∀ {f:Qf},Qy f->∀u∈Qd f,Qo u/\Qy u
 | .add t f,h,u,hu=>by
  rcases zA.mp hu with e | e
  ·subst e;exact⟨h.1,h.2.2.1⟩
  ·exact QbM h.2.2.2 u e
 | .null,_,u,hu=>absurd hu (by simp[Qd])
 | .arg _,_,u,hu=>absurd hu (by simp[Qd])
 | .op2 _ (.arg _) _,_,u,hu=>absurd hu (by simp[Qd])
theorem QbR:∀ {l:List Qf},(∀t∈l,Qo t/\Qy t)->Qy (Qk l)
 |[],_=>trivial
 |t::l,h=>⟨(h t (by simp)).1,QaY l,(h t (by simp)).2,QbR fun u hu=>h u (by simp[hu])⟩
theorem QbQ(g:Qf->List Nat)(hg:∀t f,g (.add t f)=g t++g f)(h0:g .null=[]):∀f,Qy f->QJ f->(Qd f).flatMap g=g f
 | .add t f,w,_=>by show (t::Qd f).flatMap g=_;rw[zf,QbQ g hg h0 f w.2.2.2 w.2.1,hg]
 | .null,_,_=>by rw[h0];rfl
theorem Qcs:∀f,Qy f->QJ f->Qk (Qd f)=f
 | .add t f,w,_=>by show Jvm.Term.add t (Qk (Qd f))=_;rw[Qcs f w.2.2.2 w.2.1]
 | .null,_,_=>rfl
theorem QbK:∀t,Qy t->Qo t->Qe t≠[]:=fun t w=>(QaR (P:=fun t=>(Qo t->Qe t≠[])/\(QJ t->Qd t≠[]->Qe t≠[]))
 (fun c _=>⟨fun _=>by simp[Qe],fun h=>absurd h id⟩)
 (fun o x f w ih=>⟨fun _=>ih.2 w.2.2.1 (fun e=>by have:=w.2.1;rw[e] at this;exact absurd this (by simp)),fun h=>absurd h id⟩)
 (fun t f w iht ihf=>⟨fun h=>absurd h id,fun _ _ e=>by
  have:Qe t++Qe f=[]:=e
  exact iht.1 w.1 (zay.mp this).1⟩)
 ⟨fun h=>absurd h id,fun _ h=>absurd rfl h⟩ t w).1
def Qn:List Qf->Nat
 |[]=>1
 |u::l=>Qr u*Qn l
theorem Qa6:∀l l':List Qf,Qn (l++l')=Qn l*Qn l'
 |[],l'=>(Nat.one_mul _).symm
 |u::l,l'=>by show Qr u*Qn (l++l')=Qr u*Qn l*Qn l';rw[Qa6 l l',zP]
theorem QcJ(l:List Qf):Qn l.reverse=Qn l:=by
 induction l with
 |nil=>rfl
 |cons u l ih=>rw[zaz,Qa6,ih];show Qn l*(Qr u*1)=Qr u*Qn l;rw[zar,zS]
theorem QbO:∀l,Qr (Qk l)=Qn l
 |[]=>rfl
 |u::l=>by show Qr u*Qr (Qk l)=_;rw[QbO l];rfl
theorem QeT(f:Qf)(w:Qy f)(h:QJ f):Qr f=Qn (Qd f):=by rw[<-QbO,Qcs f w h]
theorem Qb5:∀t,Qy t->Qr (Qc t)=Qr t/\(QJ t->(Qd (Qc t)).length=(Qd t).length):=QaR
 (fun c _=>⟨rfl,fun h=>absurd h id⟩)
 (fun o x f w ih=>⟨by show Qr (Qc f)*_=Qr f*_;rw[ih.1,ih.2 w.2.2.1],fun h=>absurd h id⟩)
 (fun t f w iht ihf=>⟨by show Qr (Qc t)*Qr (Qc f)=_;rw[iht.1,ihf.1];rfl,fun _=>by show (Qd (Qc f)).length+1=(Qd f).length+1;rw[ihf.2 w.2.1]⟩)
 ⟨rfl,fun _=>rfl⟩
theorem Qbf:∀t,Qy t->Qe (Qc t)=Qe t/\Qy (Qc t)/\(Qo t->Qo (Qc t))/\(QJ t->QJ (Qc t)/\Qd (Qc t)=(Qd t).map Qc)/\Qc (Qc t)=Qc t:=QaR
 (fun c h=>⟨rfl,h,fun _=>trivial,fun h=>absurd h id,rfl⟩)
 (fun o x f w ih=>by
  obtain⟨i1,i2,i3,i4,i5⟩:=ih
  obtain⟨j1,j2⟩:=i4 w.2.2.1
  refine⟨i1,⟨w.1,by rw[j2,zi];exact w.2.1,j1,i2⟩,fun _=>trivial,fun h=>absurd h id,?_⟩
  show Jvm.Term.op2 o (.arg 0) (Qc (Qc f)) = .op2 o (.arg 0) (Qc f);rw[i5])
 (fun t f w iht ihf=>by
  obtain⟨i1,i2,i3,i4,i5⟩:=iht
  obtain⟨j1,j2,j3,j4,j5⟩:=ihf
  refine⟨?_,⟨i3 w.1,(j4 w.2.1).1,i2,j2⟩,fun h=>absurd h id,fun _=>⟨trivial,?_⟩,?_⟩
  ·show Qe (Qc t)++Qe (Qc f)=_;rw[i1,j1];rfl
  ·show Qc t::Qd (Qc f)=_;rw[(j4 w.2.1).2];rfl
  ·show Jvm.Term.add (Qc (Qc t)) (Qc (Qc f)) = .add (Qc t) (Qc f);rw[i5,j5])
 ⟨rfl,trivial,fun h=>absurd h id,fun _=>⟨trivial,rfl⟩,rfl⟩
theorem QdH:∀t,Qy t->1<=Qr t:=QaR (fun c _=>zn _)
 (fun o x f w ih=>zJ ih (by split;exact Qbv _;omega)) (fun t f _ iht ihf=>zJ iht ihf) (zn _)
theorem Qa7:∀l:List Qf,(∀u∈l,Qy u)->1<=Qn l
 |[],_=>zn _
 |u::l,h=>zJ (QdH u (h u (by simp))) (Qa7 l fun v hv=>h v (by simp[hv]))
theorem Qbx(b:Nat->Bool)(v:Int32)(u:Qf)(K:List Qf):Qb b v (u::K)=if Qi b u=v then u::Qb b v K else Qb b v K:=by
 unfold Qb;rw[List.filter_cons]
 by_cases e:Qi b u=v
 ·rw[zb (by simpa using e),zb e]
 ·rw[za (by simpa using e),za e]
theorem QdW(b:Nat->Bool):∀K:List Qf,Qn K=Qn (Qb b 0 K)*Qn (Qb b 2 K)*Qn (Qb b 1 K)/\K.length=(Qb b 0 K).length+(Qb b 2 K).length+(Qb b 1 K).length
 |[]=>⟨rfl,rfl⟩
 |u::K=>by
  obtain⟨i1,i2⟩:=QdW b K
  rw[Qbx,Qbx,Qbx]
  have ex:Qn (u::K)=Qr u*Qn K:=rfl
  rw[ex,i1,zq,i2]
  rcases QaN b u with e | e | e
  ·rw[e,zb rfl,za (by decide),za (by decide)]
   refine⟨?_,by rw[zq];omega⟩
   show _=Qr u*_*_*_
   simp only[zP]
  ·rw[e,zb rfl,za (by decide),za (by decide)]
   refine⟨?_,by rw[zq];omega⟩
   show _=_*_*(Qr u*_)
   rw[zI]
  ·rw[e,zb rfl,za (by decide),za (by decide)]
   refine⟨?_,by rw[zq];omega⟩
   show _=_*(Qr u*_)*_
   simp only[zP,zI]
theorem QdJ{b:Nat->Bool}{v:Int32}:∀ {L:List Qf},(∀u∈L,Qo u/\Qy u/\Qi b u=v)->v≠2->Qn (QI L)=Qn L*Qs L.length/\(QI L).flatMap Qe=L.flatMap Qe/\(∀u∈QI L,Qo u/\Qy u/\Qi b u=v)/\(L≠[]->QI L≠[])/\(QI L).length<=1
 |[],_,_=>⟨rfl,rfl,fun u hu=>absurd hu (by simp[QI]),fun h=>absurd rfl h,by simp[QI]⟩
 |[u],h,_=>⟨by show Qr u*1=Qr u*1*1;omega,rfl,h,fun _=>by simp[QI],by simp[QI]⟩
 |u::w::L,h,hv=>by
  have ev:Qe (.op2 .iand (.arg 0) (Qk (u::w::L)))=(u::w::L).flatMap Qe:=QaM _
  refine⟨?_,?_,fun t ht=>?_,fun _=>by simp[QI],by simp[QI]⟩
  ·show Qr (.op2 .iand (.arg 0) (Qk (u::w::L)))*1=_
   show Qr (Qk (u::w::L))*(if Jvm.Binary.iand = .iand then Qs (Qd (Qk (u::w::L))).length else 2)*1=_
   rw[zb rfl,QV,QbO,zar]
  ·show Qe (.op2 .iand (.arg 0) (Qk (u::w::L)))++[]=_
   rw[ev,zk]
  ·have ht':t = .op2 .iand (.arg 0) (Qk (u::w::L)):=zh.mp ht
   subst ht'
   refine⟨trivial,⟨Or.inl rfl,by rw[QV];simp,QaY _,QbR fun x hx=>⟨(h x hx).1,(h x hx).2.1⟩⟩,?_⟩
   have hu:=h u (by simp)
   have all1:∀p:Nat->Bool,(∀x∈u::w::L,(Qe x).all p=true)->(Qe (.op2 .iand (.arg 0) (Qk (u::w::L)))).all p=true:=fun p hp=>by rw[ev];exact Qar.mpr hp
   rcases QaN b u with e | e | e
   ·have e0:v=0:=by rw[<-hu.2.2,e]
    rw[e0] at h ⊢
    have a0:=all1 _ fun x hx=>QaX (h x hx).2.2
    unfold Qi
    rw[za,zb a0]
    intro q
    rw[ev] at q a0
    exact QbA (QbK u hu.2.1 hu.1) (Qar.mp q u (by simp)) (Qar.mp a0 u (by simp))
   ·have e0:v=1:=by rw[<-hu.2.2,e]
    rw[e0] at h ⊢
    unfold Qi
    rw[zb (all1 _ fun x hx=>Qa8 (h x hx).2.2)]
   ·exact absurd (hu.2.2.symm.trans e) hv
theorem Qfd{b:Nat->Bool}{K:List Qf}(hK:∀u∈K,Qo u/\Qy u)(hn:K≠[])(h0:Qb b 1 K=[])(h2:Qb b 2 K=[]):Qag b (K.flatMap Qe)=0:=by
 have ha:∀u∈K,(Qe u).all (fun c => !b c)=true:=fun u hu=>by
  rcases QaN b u with e | e | e
  ·exact QaX e
  ·exact absurd e (QaP.mp h0 u hu)
  ·exact absurd e (QaP.mp h2 u hu)
 unfold Qag
 rw[za,zb (Qar.mpr ha)]
 intro q
 cases K with
 |nil=>exact hn rfl
 |cons u K=>
  have hu:=hK u (by simp)
  exact QbA (QbK u hu.2 hu.1) (Qar.mp q u (by simp)) (ha u (by simp))
theorem QfM{b:Nat->Bool}{K:List Qf}(hK:∀u∈K,Qo u/\Qy u)(h:Qb b 2 K≠[]\/(Qb b 0 K≠[]/\Qb b 1 K≠[])):Qag b (K.flatMap Qe)=2:=by
 have ex:∀v,Qb b v K≠[]->∃u∈K,Qi b u=v:=fun v hv=>by
  obtain⟨u,hu⟩:=zao _ hv
  exact⟨u,(QD.mp hu).1,(QD.mp hu).2⟩
 unfold Qag
 rw[za,za]
 ·intro q
  rw[Qar] at q
  rcases h with h | ⟨-,h⟩
  ·obtain⟨u,hu,e⟩:=ex 2 h;exact (Qb7 e).2 (q u hu)
  ·obtain⟨u,hu,e⟩:=ex 1 h;exact QbA (QbK u (hK u hu).2 (hK u hu).1) (Qa8 e) (q u hu)
 ·intro q
  rw[Qar] at q
  rcases h with h | ⟨h,-⟩
  ·obtain⟨u,hu,e⟩:=ex 2 h;exact (Qb7 e).1 (q u hu)
  ·obtain⟨u,hu,e⟩:=ex 0 h;exact QbA (QbK u (hK u hu).2 (hK u hu).1) (q u hu) (QaX e)
def QcR(b:Nat->Bool)(T:Qf):Prop:=∃L0 L1,T = .op2 .ior (.arg 0) (Qk (L0++L1))/\L0≠[]/\L1≠[]/\(∀u∈L0,Qo u/\Qy u/\Qi b u=0)/\∀u∈L1,Qo u/\Qy u/\Qi b u=1
def Qci(b:Nat->Bool)(t T:Qf):Prop:=Qo T/\Qy T/\(Qe T).Perm (Qe t)/\(Qi b t≠2->T=Qc t)/\(Qi b t=2->Qr T<=Qr t/\QcR b T)
def Qcx(b:Nat->Bool):List Qf->List Qf->Prop
 |[],[]=>True
 |u::l,v::l'=>Qci b u v/\Qcx b l l'
 |_,_=>False
theorem QfB{b:Nat->Bool}{t T:Qf}(h:Qci b t T):Qi b T=Qi b t:=by
 show Qag b (Qe T)=Qag b (Qe t)
 exact QcF h.2.2.1
theorem QcQ{b:Nat->Bool}:∀ {K K':List Qf},(∀u∈K,Qy u)->Qcx b K K'->(∀u∈K',Qo u/\Qy u)/\(K'.flatMap Qe).Perm (K.flatMap Qe)/\Qn K'<=Qn K/\K'.length=K.length/\((∀u∈K',Qi b u≠2)->K'=K.map Qc)/\(∀u∈K',Qi b u=2->QcR b u)/\((∀u∈K,Qq b u=false)->∀u∈K',Qq b u=false)
 |[],[],_,_=>⟨fun u hu=>absurd hu (by simp),List.Perm.refl _,zn _,rfl,fun _=>rfl,fun u hu=>absurd hu (by simp),fun _ u hu=>absurd hu (by simp)⟩
 |u::K,v::K',hw,h=>by
  obtain⟨i1,i2,i3,i4,i5,i6,i7⟩:=QcQ (fun x hx=>hw x (by simp[hx])) h.2
  have lb:=QfB h.1
  obtain⟨g1,g2,g3,g4,g5⟩:=h.1
  refine⟨fun x hx=>?_,?_,?_,by rw[zq,zq,i4],fun hx=>?_,fun x hx e=>?_,fun ha x hx=>?_⟩
  ·rcases zA.mp hx with e | e
   ·rw[e];exact⟨g1,g2⟩
   ·exact i1 x e
  ·rw[zf,zf];exact List.Perm.append g3 i2
  ·show Qr v*Qn K'<=Qr u*Qn K
   refine zag ?_ i3
   by_cases q:Qi b u=2
   ·exact (g5 q).1
   ·rw[g4 q,(Qb5 u (hw u (by simp))).1];exact zn _
  ·rw[zO,i5 fun x hx'=>hx x (by simp[hx']),g4 (by rw[<-lb];exact hx v (by simp))]
  ·rcases zA.mp hx with e' | e'
   ·subst e';exact (g5 (by rw[<-lb];exact e)).2
   ·exact i6 x e' e
  ·rcases zA.mp hx with e | e
   ·subst e
    have:Qq b x=Qq b u:=by
     rw[Bool.eq_iff_iff,Qad,Qad]
     exact⟨fun h c h1 h2=>g3.mem_iff.mp (h c h1 h2),fun h c h1 h2=>g3.mem_iff.mpr (h c h1 h2)⟩
    rw[this];exact ha u (by simp)
   ·exact i7 (fun y hy=>ha y (by simp[hy])) x e
theorem Qeq{b:Nat->Bool}{t:Qf}{A0 A1 Y K':List Qf}(hY:Y.length<=1)(mY:∀y∈Y,QcR b y)(h0:∀u∈A0,Qo u/\Qy u/\Qi b u=0)(h1:∀u∈A1,Qo u/\Qy u/\Qi b u=1)(ne:Y≠[]\/(A0≠[]/\A1≠[])):QcR b (.op2 .ior (.arg 0) (Qk (A0++Y.flatMap Qm++A1)))/\Qy (.op2 .ior (.arg 0) (Qk (A0++Y.flatMap Qm++A1)))/\Qn Y=Qn (Y.flatMap Qm)*2 ^ Y.length/\Y.flatMap Qe=(Y.flatMap Qm).flatMap Qe:=by
 have wzI:∀L0 L1:List Qf,L0≠[]->L1≠[]->(∀u∈L0,Qo u/\Qy u/\Qi b u=0)->(∀u∈L1,Qo u/\Qy u/\Qi b u=1)->Qy (.op2 .ior (.arg 0) (Qk (L0++L1))):=fun L0 L1 n0 n1 m0 m1=>by
  refine⟨Or.inr rfl,?_,QaY _,QbR fun u hu=>?_⟩
  ·rw[QV,zd]
   have:=zZ.mpr n0
   have:=zZ.mpr n1
   omega
  ·rcases zc.mp hu with q | q
   ·exact⟨(m0 u q).1,(m0 u q).2.1⟩
   ·exact⟨(m1 u q).1,(m1 u q).2.1⟩
 match Y,hY,mY,ne with
 |[],_,_,ne=>
  have ne':A0≠[]/\A1≠[]:=by
   rcases ne with h | h
   ·exact absurd rfl h
   ·exact h
  rw[zo,zk]
  exact⟨⟨A0,A1,rfl,ne'.1,ne'.2,h0,h1⟩,wzI A0 A1 ne'.1 ne'.2 h0 h1,rfl,rfl⟩
 |[y],_,mY,_=>
  obtain⟨L0,L1,e,n0,n1,m0,m1⟩:=mY y (by simp)
  have ek:Qm y=L0++L1:=by rw[e];exact QV _
  have el:Qe y=(L0++L1).flatMap Qe:=by rw[e];exact QaM _
  have ec:Qr y=Qn (L0++L1)*2:=by
   rw[e]
   show Qr (Qk (L0++L1))*(if Jvm.Binary.ior = .iand then _ else 2)=_
   rw[za (by decide),QbO]
  rw[zf,zo,zk,ek,show A0++(L0++L1)++A1=(A0++L0)++(L1++A1) from by simp only[zG]]
  have n0':A0++L0≠[]:=fun h=>n0 (zay.mp h).2
  have n1':L1++A1≠[]:=fun h=>n1 (zay.mp h).1
  have m0':∀u∈A0++L0,Qo u/\Qy u/\Qi b u=0:=fun u hu=>by
   rcases zc.mp hu with q | q
   ·exact h0 u q
   ·exact m0 u q
  have m1':∀u∈L1++A1,Qo u/\Qy u/\Qi b u=1:=fun u hu=>by
   rcases zc.mp hu with q | q
   ·exact m1 u q
   ·exact h1 u q
  refine⟨⟨A0++L0,L1++A1,rfl,n0',n1',m0',m1'⟩,wzI _ _ n0' n1' m0' m1',?_,?_⟩
  ·show Qr y*1=Qn (L0++L1)*2 ^ 1
   rw[ec,zar]
  ·rw[zf,zo,zk,el]
 |_::_::_,h,_,_=>exact absurd h (by simp)
theorem Qet{e f:Nat}(he:1<=e)(hf:1<=f):2*(Qs e*Qs f)<=Qs (e+f):=by
 obtain⟨a,rfl⟩:∃a,e=a+1:=⟨e-1,by omega⟩
 obtain⟨m,rfl⟩:∃m,f=m+1:=⟨f-1,by omega⟩
 have h:=QcU m a
 show _<=Qs (a+1+m+1)
 have h2:Qs (a+1+m+1)=(a+1+m+1)*Qs (m+(a+1)):=by rw[show m+(a+1)=a+1+m from by omega];rfl
 rw[h2]
 exact zag (by omega) h
theorem Qeh(e f:Nat):Qs e*Qs f<=Qs (e+f):=by
 rcases Nat.eq_zero_or_pos e with h | h
 ·subst h;show 1*Qs f<=Qs (0+f);rw[zD];omega
 rcases Nat.eq_zero_or_pos f with h' | h'
 ·subst h';show Qs e*1<=Qs e;rw[zar];exact zn _
 have:=Qet h h'
 omega
theorem QcW(n:Nat):Qs n<=Qs (n+1):=Nat.le_mul_of_pos_left _ (by omega)
theorem Qes{b:Nat->Bool}:∀ {l:List Qf},l.Pairwise (fun u v=>QL (Qi b u)<=QL (Qi b v))->l=Qb b 0 l++Qb b 2 l++Qb b 1 l
 |[],_=>rfl
 |u::l,h=>by
  obtain⟨h1,h2⟩:=List.pairwise_cons.mp h
  have ih:=Qes h2
  rw[Qbx,Qbx,Qbx]
  have r0:QL 0=0:=rfl
  have r2:QL 2=1:=rfl
  have r1:QL 1=2:=rfl
  rcases QaN b u with e | e | e
  ·rw[e,zb rfl,za (by decide),za (by decide)]
   rw[List.cons_append,List.cons_append,<-ih]
  ·have z0:Qb b 0 l=[]:=QaP.mpr fun v hv q=>by have:=h1 v hv;rw[e,q,r0,r1] at this;omega
   have z2:Qb b 2 l=[]:=QaP.mpr fun v hv q=>by have:=h1 v hv;rw[e,q,r2,r1] at this;omega
   rw[z0,z2] at ih
   rw[e,za (by decide),za (by decide),zb rfl,z0,z2]
   show u::l=u::Qb b 1 l
   rw[zac,zac] at ih
   rw[<-ih]
  ·have z0:Qb b 0 l=[]:=QaP.mpr fun v hv q=>by have:=h1 v hv;rw[e,q,r0,r2] at this;omega
   rw[z0,zac] at ih
   rw[e,za (by decide),zb rfl,za (by decide),z0]
   show u::l=u::(Qb b 2 l++Qb b 1 l)
   rw[<-ih]
theorem QdL{r:Nat->Nat}:∀ {n:Nat},Qac r n=true->∀i j,i<=j->j<n->r i<=r j
 |0,_,_,_,_,h=>absurd h (by omega)
 |n+1,h,i,j,hij,hj=>by
  have h':(Qac r n&&(n==0||decide (r (n-1)<=r n)))=true:=h
  rw[zal] at h'
  by_cases e:j=n
  ·subst e
   by_cases e':i=j
   ·rw[e'];exact zn _
   have ih:=QdL h'.1 i (j-1) (by omega) (by omega)
   have h2:=h'.2
   rw[zai] at h2
   rcases h2 with q | q
   ·have:j=0:=by simpa using q
    omega
   ·exact zB ih (zaa q)
  ·exact QdL h'.1 i j hij (by omega)
theorem Qdg{r:Nat->Nat}:∀ {n:Nat},Qab r n=true->∀i j,i<=j->j<n->r j<=r i
 |0,_,_,_,_,h=>absurd h (by omega)
 |n+1,h,i,j,hij,hj=>by
  have h':(Qab r n&&(n==0||decide (r n<=r (n-1))))=true:=h
  rw[zal] at h'
  by_cases e:j=n
  ·subst e
   by_cases e':i=j
   ·rw[e'];exact zn _
   have ih:=Qdg h'.1 i (j-1) (by omega) (by omega)
   have h2:=h'.2
   rw[zai] at h2
   rcases h2 with q | q
   ·have:j=0:=by simpa using q
    omega
   ·exact zB (zaa q) ih
  ·exact Qdg h'.1 i j hij (by omega)
theorem Qf8{b:Nat->Bool}{l:List Qf}(h:Qac (fun i=>QL (Qi b (l.getD i .null))) l.length=true):l.Pairwise (fun u v=>QL (Qi b u)<=QL (Qi b v)):=by
 rw[List.pairwise_iff_getElem]
 intro i j hi hj hij
 have:=QdL h i j (by omega) hj
 simp only[ze,List.getElem?_eq_getElem hi,List.getElem?_eq_getElem hj] at this
 exact this
theorem QfT{b:Nat->Bool}{l:List Qf}(h:Qab (fun i=>QL (Qi b (l.getD i .null))) l.length=true):l.reverse.Pairwise (fun u v=>QL (Qi b u)<=QL (Qi b v)):=by
 rw[List.pairwise_reverse,List.pairwise_iff_getElem]
 intro i j hi hj hij
 have:=Qdg h i j (by omega) hj
 simp only[ze,List.getElem?_eq_getElem hi,List.getElem?_eq_getElem hj] at this
 exact this
theorem Qfa(b:Nat->Bool)(l l':List Qf):QK b (l++l')=QK b l++QK b l':=by unfold QK;rw[zj]
theorem Qdf{b:Nat->Bool}:∀ {l:List Qf},(∀u∈l,Qi b u≠2)->QK b l=l
 |[],_=>rfl
 |u::l,h=>by rw[Qcn,za (h u (by simp)),Qdf fun v hv=>h v (by simp[hv])];rfl
theorem QeV{b:Nat->Bool}:∀ {l:List Qf},(∀u∈l,Qi b u=2)->QK b l=l.flatMap Qm
 |[],_=>rfl
 |u::l,h=>by rw[Qcn,zb (h u (by simp)),QeV fun v hv=>h v (by simp[hv]),zf]
theorem Qd1{b:Nat->Bool}{l:List Qf}(h:l.Pairwise (fun u v=>QL (Qi b u)<=QL (Qi b v))):QK b l=Qb b 0 l++(Qb b 2 l).flatMap Qm++Qb b 1 l:=by
 have e:QK b l=QK b (Qb b 0 l++Qb b 2 l++Qb b 1 l):=by rw[<-Qes h]
 rw[e,Qfa,Qfa,Qdf (l:=Qb b 0 l) (fun u hu=>by rw[(QD.mp hu).2];decide),Qdf (l:=Qb b 1 l) (fun u hu=>by rw[(QD.mp hu).2];decide),QeV (l:=Qb b 2 l) fun u hu=>(QD.mp hu).2]
theorem QdV(b:Nat->Bool)(v:Int32)(l:List Qf):Qb b v l.reverse=(Qb b v l).reverse:=by unfold Qb;rw[List.filter_reverse]
theorem QfE (b : Nat -> Bool) : ∀ t, Qy t -> (Qo t -> ∀ T, QM b t = some T -> Qci b t T) /\ (QJ t -> ∀ f', QM b t = some f' -> QJ f' /\ Qcx b (Qd t) (Qd f')) := QaR
  (fun c hc => ⟨fun _ T h => by
    have e : T = .arg c := (Option.some.inj h).symm
    subst e
    refine ⟨trivial, hc, List.Perm.refl _, fun _ => rfl, fun h => ?_⟩
    exfalso
    have h2 := Qb7 h
    simp only [Qe, List.all_cons, List.all_nil, zaf] at h2
    cases e : b c
    · exact h2.2 (by rw [e]; rfl)
    · exact h2.1 e, fun h => absurd h id⟩)
  (fun o x f w ih => ⟨fun _ T h => by
    have w' := w
    obtain ⟨wo, w2, wF, wf⟩ := w
    have eI : QM b (.op2 o (.arg x) f) = if Qi b (.op2 o (.arg x) f) = 0 then some (.op2 o (.arg 0) (Qc f)) else (QM b f).bind fun f' => if o = .iand then QaQ b (Qd f') else QaS b (Qd f') := rfl
    obtain ⟨s1, s2, s3, s4, s5⟩ := Qbf _ w'
    have stay : T = Qc (.op2 o (.arg x) f) -> Qi b (.op2 o (.arg x) f) ≠ 2 -> Qci b (.op2 o (.arg x) f) T := fun e q => by
      subst e
      exact ⟨s3 trivial, s2, by rw [s1], fun _ => rfl, fun h => absurd h q⟩
    rw [eI] at h
    by_cases q0 : Qi b (.op2 o (.arg x) f) = 0
    · rw [zb q0] at h
      exact stay (Option.some.inj h).symm (by rw [q0]; decide)
    rw [za q0] at h
    cases hf : QM b f with
    | none => rw [hf] at h; exact absurd h (by simp)
    | some f' =>
      rw [hf] at h
      have h' : (if o = .iand then QaQ b (Qd f') else QaS b (Qd f')) = some T := h
      obtain ⟨F', A⟩ := ih.2 wF f' hf
      have kz := QbM wf
      obtain ⟨a1, a2, a3, a4, a5, a6, -⟩ := QcQ (fun u hu => (kz u hu).2) A
      have lvf : Qe (.op2 o (.arg x) f) = (Qd f).flatMap Qe := (QbQ Qe (fun _ _ => rfl) rfl f wf wF).symm
      have lbt : Qi b (.op2 o (.arg x) f) = Qag b ((Qd f').flatMap Qe) := by
        show Qag b (Qe (.op2 o (.arg x) f)) = _
        rw [lvf]; exact QcF a2.symm
      have prt : Qr (.op2 o (.arg x) f) = Qn (Qd f) * (if o = .iand then Qs (Qd f).length else 2) := by
        show Qr f * _ = _; rw [QeT f wf wF]
      generalize Qd f' = K' at *
      have n2 : K' ≠ [] := fun e => by rw [e] at a4; simp at a4; omega
      have same : Qb b 2 K' = [] -> (Qb b 0 K' = [] \/ Qb b 1 K' = []) -> T = .op2 o (.arg 0) (Qk K') -> Qci b (.op2 o (.arg x) f) T := fun z2 z e => by
        refine stay ?_ ?_
        · rw [e, a5 (QaP.mp z2), <- QaB, Qcs f wf wF]; rfl
        · rw [lbt]
          rcases z with z | z
          · rw [Qdq z z2]; decide
          · rw [Qfd a1 n2 z z2]; decide
      have mixed : ∀ (A0 A1 : List Qf), (Qb b 2 K').length <= 1 -> (Qb b 2 K' ≠ [] \/ (Qb b 0 K' ≠ [] /\ Qb b 1 K' ≠ [])) -> (Qb b 0 K' ≠ [] -> A0 ≠ []) -> (Qb b 1 K' ≠ [] -> A1 ≠ []) -> (∀ u ∈ A0, Qo u /\ Qy u /\ Qi b u = 0) -> (∀ u ∈ A1, Qo u /\ Qy u /\ Qi b u = 1) -> (∀ a, (A0.flatMap Qe).count a = ((Qb b 0 K').flatMap Qe).count a) -> (∀ a, (A1.flatMap Qe).count a = ((Qb b 1 K').flatMap Qe).count a) -> 2 * (Qn A0 * Qn ((Qb b 2 K').flatMap Qm) * Qn A1) <= Qr (.op2 o (.arg x) f) -> T = .op2 .ior (.arg 0) (Qk (A0 ++ (Qb b 2 K').flatMap Qm ++ A1)) -> Qci b (.op2 o (.arg x) f) T := fun A0 A1 y1 ne n0 n1 m0 m1 v0 v1 hc e => by
        have ne' : Qb b 2 K' ≠ [] \/ (A0 ≠ [] /\ A1 ≠ []) := by
          rcases ne with h | h
          · exact Or.inl h
          · exact Or.inr ⟨n0 h.1, n1 h.2⟩
        obtain ⟨x1, x2, x3, x4⟩ := Qeq (t := T) (K' := K') y1 (fun y hy => a6 y (QD.mp hy).1 (QD.mp hy).2) m0 m1 ne'
        rw [<- e] at x1 x2
        refine ⟨by rw [e]; exact trivial, x2, ?_, fun q => absurd (by rw [lbt]; exact QfM a1 ne) q, fun _ => ⟨?_, x1⟩⟩
        · refine List.Perm.trans (l₂ := K'.flatMap Qe) ?_ (by rw [lvf]; exact a2)
          rw [e, show Qe (.op2 .ior (.arg 0) (Qk (A0 ++ (Qb b 2 K').flatMap Qm ++ A1))) = (A0 ++ (Qb b 2 K').flatMap Qm ++ A1).flatMap Qe from QaM _]
          refine zE.mpr fun a => ?_
          rw [zj, zj, <- x4, zg, zg, v0, v1, Qa0 b Qe a K']
        · rw [e]
          show Qr (Qk _) * (if Jvm.Binary.ior = .iand then _ else 2) <= _
          rw [za (by decide), QbO, Qa6, Qa6, zS]; exact hc
      have mE : ∀ v, ∀ u ∈ Qb b v K', Qo u /\ Qy u /\ Qi b u = v := fun v u hu => ⟨(a1 u (QD.mp hu).1).1, (a1 u (QD.mp hu).1).2, (QD.mp hu).2⟩
      have p3 := QdW b K'
      have prY : ∀ y1 : (Qb b 2 K').length <= 1, Qn (Qb b 2 K') = Qn ((Qb b 2 K').flatMap Qm) * 2 ^ (Qb b 2 K').length := fun y1 => by
        by_cases qy : Qb b 2 K' = []
        · rw [qy]; rfl
        · exact (Qeq (b := b) (t := T) (K' := K') (A0 := []) (A1 := []) y1 (fun y hy => a6 y (QD.mp hy).1 (QD.mp hy).2) (fun u hu => absurd hu (by simp)) (fun u hu => absurd hu (by simp)) (Or.inl qy)).2.2.1
      by_cases ho : o = .iand
      · rw [zb ho] at h' prt
        unfold QaQ at h'
        by_cases y2 : 2 <= (Qb b 2 K').length
        · rw [zb y2] at h'; exact absurd h' (by simp)
        rw [za y2] at h'
        by_cases z : (Qb b 2 K').length = 0 /\ ((Qb b 0 K').length = 0 \/ (Qb b 1 K').length = 0)
        · rw [zb z] at h'
          exact same (Q4.mp z.1) (by rcases z.2 with q | q; exact Or.inl (Q4.mp q); exact Or.inr (Q4.mp q)) (by rw [ho]; exact (Option.some.inj h').symm)
        rw [za z] at h'
        obtain ⟨g1, g2, g3, g4, -⟩ := QdJ (mE 0) (by decide)
        obtain ⟨k1, k2, k3, k4, -⟩ := QdJ (mE 1) (by decide)
        have ne : Qb b 2 K' ≠ [] \/ (Qb b 0 K' ≠ [] /\ Qb b 1 K' ≠ []) := by
          by_cases qy : Qb b 2 K' = []
          · refine Or.inr ⟨fun q => z ⟨by rw [qy]; rfl, Or.inl (by rw [q]; rfl)⟩, fun q => z ⟨by rw [qy]; rfl, Or.inr (by rw [q]; rfl)⟩⟩
          · exact Or.inl qy
        refine mixed _ _ (by omega) ne g4 k4 g3 k3 (fun a => by rw [g2]) (fun a => by rw [k2]) ?_ (Option.some.inj h').symm
        rw [prt, g1, k1]
        refine zB ?_ (zag a3 (zn _))
        have py := prY (by omega)
        rw [p3.1, py, <- a4, p3.2]
        generalize Qn (Qb b 0 K') = PE
        generalize Qn (Qb b 1 K') = PF
        generalize Qn ((Qb b 2 K').flatMap Qm) = PX
        by_cases qy : (Qb b 2 K').length = 0
        · have e1 : 1 <= (Qb b 0 K').length := Nat.pos_of_ne_zero fun q => z ⟨qy, Or.inl q⟩
          have e2 : 1 <= (Qb b 1 K').length := Nat.pos_of_ne_zero fun q => z ⟨qy, Or.inr q⟩
          have := Qet e1 e2
          rw [qy, Nat.add_zero]
          show 2 * (PE * _ * PX * (PF * _)) <= PE * (PX * 1) * PF * _
          calc 2 * (PE * Qs (Qb b 0 K').length * PX * (PF * Qs (Qb b 1 K').length)) = PE * (PX * 1) * PF * (2 * (Qs (Qb b 0 K').length * Qs (Qb b 1 K').length)) := by
                simp only [zar, zP, zS, zI]
            _ <= _ := zY _ this
        · have e1 : (Qb b 2 K').length = 1 := by omega
          have h1 := Qeh (Qb b 0 K').length (Qb b 1 K').length
          have h2 := QcW ((Qb b 0 K').length + (Qb b 1 K').length)
          rw [e1, show (Qb b 0 K').length + 1 + (Qb b 1 K').length = (Qb b 0 K').length + (Qb b 1 K').length + 1 from by omega]
          show 2 * (PE * _ * PX * (PF * _)) <= PE * (PX * 2) * PF * _
          calc 2 * (PE * Qs (Qb b 0 K').length * PX * (PF * Qs (Qb b 1 K').length)) = PE * (PX * 2) * PF * (Qs (Qb b 0 K').length * Qs (Qb b 1 K').length) := by
                simp only [zP, zS, zI]
            _ <= _ := zY _ (zB h1 h2)
      · rw [za ho] at h' prt
        have hoi : o = .ior := by
          rcases wo with e | e
          · exact absurd e ho
          · exact e
        unfold QaS at h'
        by_cases y2 : 2 <= (Qb b 2 K').length
        · rw [zb y2] at h'; exact absurd h' (by simp)
        rw [za y2] at h'
        by_cases z : (Qb b 2 K').length = 0 /\ ((Qb b 0 K').length = 0 \/ (Qb b 1 K').length = 0)
        · rw [zb z] at h'
          exact same (Q4.mp z.1) (by rcases z.2 with q | q; exact Or.inl (Q4.mp q); exact Or.inr (Q4.mp q)) (by rw [hoi]; exact (Option.some.inj h').symm)
        rw [za z] at h'
        have ne : Qb b 2 K' ≠ [] \/ (Qb b 0 K' ≠ [] /\ Qb b 1 K' ≠ []) := by
          by_cases qy : Qb b 2 K' = []
          · refine Or.inr ⟨fun q => z ⟨by rw [qy]; rfl, Or.inl (by rw [q]; rfl)⟩, fun q => z ⟨by rw [qy]; rfl, Or.inr (by rw [q]; rfl)⟩⟩
          · exact Or.inl qy
        have py := prY (by omega)
        have cnt : 2 * (Qn (Qb b 0 K') * Qn ((Qb b 2 K').flatMap Qm) * Qn (Qb b 1 K')) <= Qr (.op2 o (.arg x) f) := by
          rw [prt, zS]
          refine zag (zB ?_ a3) (zn _)
          rw [p3.1, py]
          have : Qn ((Qb b 2 K').flatMap Qm) <= Qn ((Qb b 2 K').flatMap Qm) * 2 ^ (Qb b 2 K').length := Nat.le_mul_of_pos_right _ (Nat.pow_pos (by omega))
          exact zag (zY _ this) (zn _)
        by_cases ub : Qac (fun i => QL (Qi b (K'.getD i .null))) K'.length = true
        · rw [zb ub] at h'
          refine mixed _ _ (by omega) ne (fun h => h) (fun h => h) (mE 0) (mE 1) (fun _ => rfl) (fun _ => rfl) cnt ?_
          rw [<- Qd1 (Qf8 ub)]; exact (Option.some.inj h').symm
        rw [za ub] at h'
        by_cases db : Qab (fun i => QL (Qi b (K'.getD i .null))) K'.length = true
        · rw [zb db] at h'
          have es := Qd1 (QfT db)
          rw [QdV, QdV, QdV] at es
          have rY : (Qb b 2 K').reverse = Qb b 2 K' := by
            have : (Qb b 2 K').length <= 1 := by omega
            match Qb b 2 K', this with
            | [], _ => rfl
            | [_], _ => rfl
            | _ :: _ :: _, h => exact absurd h (by simp)
          rw [rY] at es
          refine mixed (Qb b 0 K').reverse (Qb b 1 K').reverse (by omega) ne (fun h q => h (zav.mp q)) (fun h q => h (zav.mp q)) (fun u hu => mE 0 u (zy.mp hu)) (fun u hu => mE 1 u (zy.mp hu)) (fun a => ((zv _).flatMap_right Qe).count_eq a) (fun a => ((zv _).flatMap_right Qe).count_eq a) (by rw [QcJ, QcJ]; exact cnt) ?_
          rw [<- es]; exact (Option.some.inj h').symm
        · rw [za db] at h'; exact absurd h' (by simp), fun h => absurd h id⟩)
  (fun t f w iht ihf => ⟨fun h => absurd h id, fun _ f' h => by
    have eI : QM b (.add t f) = (QM b t).bind fun t' => (QM b f).bind fun f' => some (.add t' f') := rfl
    rw [eI] at h
    cases ht : QM b t with
    | none => rw [ht] at h; exact absurd h (by simp)
    | some t1 =>
      cases hf : QM b f with
      | none => rw [ht, hf] at h; exact absurd h (by simp)
      | some f1 =>
        rw [ht, hf] at h
        have e : f' = .add t1 f1 := (Option.some.inj h).symm
        subst e
        exact ⟨trivial, iht.1 w.1 t1 ht, (ihf.2 w.2.1 f1 hf).2⟩⟩)
  ⟨fun h => absurd h id, fun _ f' h => by
    have e : f' = .null := (Option.some.inj h).symm
    subst e
    exact ⟨trivial, trivial⟩⟩
def QbC(b:Nat->Bool)(K:List Qf):Prop:=∃Z0 Z1 Z2,K=Z0++Z1++Z2/\(∀u∈Z0,Qi b u=0)/\(∀u∈Z1,Qi b u=1)/\∀u∈Z2,Qi b u=0
def Qgd(b:Nat->Bool)(o:Jvm.Binary)(K:List Qf):Prop:=(K.flatMap Qe).all b=true\/(o = .ior/\QbC b K)
def Q1(b:Nat->Bool):Qf->Prop
 | .arg _=>True
 | .op2 o (.arg _) f=>((Qd f).any (Qq b)=true/\Q1 b f)\/((Qd f).any (Qq b)=false/\Qgd b o (Qd f))
 | .add t f=>(Qq b t=true/\Q1 b t)\/(Qq b t=false/\Q1 b f)
 |_=>True
theorem QbJ{b:Nat->Bool}{l:List Qf}:l.any (Qq b)=false↔∀u∈l,Qq b u=false:=by
 rw[List.any_eq_false];simp only[zH]
theorem Qgc{b:Nat->Bool}{A B:List Qf}{u:Qf}(hA:∀w∈A,Qi b w=0)(hB:∀w∈B,Qi b w=0)(hin:∀c,b c=true->c∈(A++u::B).flatMap Qe):Qq b u=true:=Qad.mpr fun c _ hc=>by
 have h:=hin c hc
 rw[zj,zf,zc,zc] at h
 have no:∀L:List Qf,(∀w∈L,Qi b w=0)->c∉L.flatMap Qe:=fun L hL q=>by
  obtain⟨w,hw,hcw⟩:=zt.mp q
  have:=zC.mp (QaX (hL w hw)) c hcw
  rw[hc] at this;exact absurd this (by decide)
 rcases h with q | q | q
 ·exact absurd q (no A hA)
 ·exact q
 ·exact absurd q (no B hB)
theorem QfJ{b:Nat->Bool}(h32:∀c,b c=true->c<32){A B C:List Qf}{u v:Qf}(nd:((A++u::B++v::C).flatMap Qe).Nodup)(hu:Qe u≠[])(hv:Qe v≠[])(bu:Qi b u=1)(bv:Qi b v=1):∀w∈A++u::B++v::C,Qq b w=false:=fun w hw=>by
 rw[Bool.eq_false_iff]
 intro al
 obtain⟨c,hc⟩:=zao _ hu
 obtain⟨d,hd⟩:=zao _ hv
 have bc:b c=true:=zC.mp (Qa8 bu) c hc
 have bd:b d=true:=zC.mp (Qa8 bv) d hd
 have wc:=Qad.mp al c (h32 c bc) bc
 have wd:=Qad.mp al d (h32 d bd) bd
 have cnt:=zF.mp nd
 have pos:∀(L:List Qf) (a:Nat),w∈L->a∈Qe w->1<=(L.flatMap Qe).count a:=fun L a h1 h2=>zw.mpr (zt.mpr ⟨w,h1,h2⟩)
 have c1:=zw.mpr hc
 have d1:=zw.mpr hd
 have nc:=cnt c
 have ndd:=cnt d
 simp only[zj,zf,zg] at nc ndd
 rcases zc.mp hw with q | q
 ·rcases zc.mp q with q | q
  ·have:=pos A c q wc;omega
  ·rcases zA.mp q with e | q
   ·subst e
    have:=zw.mpr wd;omega
   ·have:=pos B c q wc;omega
 ·rcases zA.mp q with e | q
  ·subst e
   have:=zw.mpr wc;omega
  ·have:=pos C c q wc;omega
theorem QeM{b:Nat->Bool}{g:Qf}(hg:Qq b g=true)(og:Q1 b g):∀ {E:List Qf},(∀u∈E,Qq b u=false)->Q1 b (Qk (E++[g]))
 |[],_=>Or.inl ⟨hg,og⟩
 |u::E,h=>Or.inr ⟨h u (by simp),QeM hg og fun v hv=>h v (by simp[hv])⟩
theorem Qgq{b:Nat->Bool}(h32:∀c,b c=true->c<32)(hc:∃c,b c=true){u:Qf}(h:Qi b u=0):Qq b u=false:=by
 rw[Bool.eq_false_iff]
 intro al
 obtain⟨c,hc⟩:=hc
 have:=zC.mp (QaX h) c (Qad.mp al c (h32 c hc) hc)
 rw[hc] at this;exact absurd this (by decide)
theorem QbF(L:List Qf):Qr (.op2 .ior (.arg 0) (Qk L))=Qn L*2:=by
 show Qr (Qk L)*(if Jvm.Binary.ior = .iand then _ else 2)=_
 rw[za (by decide),QbO]
theorem Qdr(L:List Qf):Qr (.op2 .iand (.arg 0) (Qk L))=Qn L*Qs L.length:=by
 show Qr (Qk L)*(if Jvm.Binary.iand = .iand then Qs (Qd (Qk L)).length else 2)=_
 rw[zb rfl,QbO,QV]
theorem QbD(o:Jvm.Binary)(L:List Qf):Qe (.op2 o (.arg 0) (Qk L))=L.flatMap Qe:=QaM L
theorem Qev{b:Nat->Bool}(h32:∀c,b c=true->c<32){Z0 A B C Z2:List Qf}{u v:Qf}(h:∀w∈Z0++(A++u::B++v::C)++Z2,Qo w/\Qy w)(m0:∀w∈Z0,Qi b w=0)(m1:∀w∈A++u::B++v::C,Qi b w=1)(m2:∀w∈Z2,Qi b w=0)(nd:((Z0++(A++u::B++v::C)++Z2).flatMap Qe).Nodup):Qy (.op2 .ior (.arg 0) (Qk (Z0++(A++u::B++v::C)++Z2)))/\Q1 b (.op2 .ior (.arg 0) (Qk (Z0++(A++u::B++v::C)++Z2))):=by
 have hu:=h u (by simp)
 have hv:=h v (by simp)
 have na:∀w∈Z0++(A++u::B++v::C)++Z2,Qq b w=false:=by
  have e:Z0++(A++u::B++v::C)++Z2=(Z0++A)++u::B++v::(C++Z2):=by simp only[zG,List.cons_append]
  rw[e] at nd ⊢
  exact QfJ h32 nd (QbK u hu.2 hu.1) (QbK v hv.2 hv.1) (m1 u (by simp)) (m1 v (by simp))
 refine⟨⟨Or.inr rfl,?_,QaY _,QbR h⟩,Or.inr ⟨?_,Or.inr ⟨rfl,Z0,_,Z2,QV _,m0,m1,m2⟩⟩⟩
 ·rw[QV];simp only[zd,zq];omega
 ·rw[QV];exact QbJ.mpr na
theorem Qdc{b:Nat->Bool}:∀ {l:List Qf},(∃u∈l,Qi b u≠0)->∃Z u l',l=Z++u::l'/\(∀w∈Z,Qi b w=0)/\Qi b u≠0
 |[],h=>by obtain⟨u,hu,-⟩:=h;exact absurd hu (by simp)
 |x::l,h=>by
  by_cases q:Qi b x=0
  ·have:∃u∈l,Qi b u≠0:=by
    obtain⟨u,hu,hn⟩:=h
    rcases zA.mp hu with e | e
    ·rw[e] at hn;exact absurd q hn
    ·exact⟨u,e,hn⟩
   obtain⟨Z,u,l',e,hz,hn⟩:=Qdc this
   refine⟨x::Z,u,l',by rw[e];rfl,fun w hw=>?_,hn⟩
   rcases zA.mp hw with e' | e'
   ·rw[e'];exact q
   ·exact hz w e'
  ·exact⟨[],x,l,rfl,fun w hw=>absurd hw (by simp),q⟩
theorem Qg1{b:Nat->Bool}{l:List Qf}(h:∃u∈l,Qi b u≠0):∃M v Z,l=M++v::Z/\(∀w∈Z,Qi b w=0)/\Qi b v≠0:=by
 obtain⟨Z,v,l',e,hz,hn⟩:=Qdc (l:=l.reverse) (b:=b) (by obtain⟨u,hu,h⟩:=h;exact⟨u,zy.mpr hu,h⟩)
 refine⟨l'.reverse,v,Z.reverse,?_,fun w hw=>hz w (zy.mp hw),hn⟩
 have:=congrArg List.reverse e
 rw[List.reverse_reverse,zab,zaz,zG] at this
 exact this
theorem QdP{b:Nat->Bool}{u:Qf}{l:List Qf}(hn:Qi b u≠0):∀ {Z:List Qf},(∀w∈Z,Qi b w=0)->QaC b (Z++u::l)=Z.length
 |[],_=>by show (if Qi b u=0 then _ else 0)=0;rw[za hn]
 |x::Z,h=>by show (if Qi b x=0 then QaC b (Z++u::l)+1 else 0)=_;rw[zb (h x (by simp)),QdP hn fun w hw=>h w (by simp[hw])];rfl
theorem Qfm{b:Nat->Bool}{v:Qf}{l Z:List Qf}(hn:Qi b v≠0)(hz:∀w∈Z,Qi b w=0):QaV b (l++v::Z)=l.length:=by
 unfold QaV
 rw[zab,zaz,zG,List.singleton_append,QdP hn fun w hw=>hz w (zy.mp hw),zX,zd,zq]
 omega
theorem Qcm{b:Nat->Bool}{f la:Nat}:∀ {l:List Qf} (k:Nat),(∀u∈l,Qi b u≠2)->QT b f la k l=l
 |[],_,_=>rfl
 |u::l,k,h=>by
  show (if Qi b u=2 then _ else [u])++QT b f la (k+1) l=_
  rw[za (h u (by simp)),Qcm (k+1) fun v hv=>h v (by simp[hv])];rfl
theorem QcV{b:Nat->Bool}{K:List Qf}(hK:∀u∈K,Qq b u=false)(hc:∃c,b c=true)(hin:∀c,b c=true->c∈K.flatMap Qe):∃Z0 u M v Z2,K=Z0++u::(M++v::Z2)/\(∀w∈Z0,Qi b w=0)/\Qi b u≠0/\Qi b v≠0/\(∀w∈Z2,Qi b w=0)/\QaC b K=Z0.length/\QaV b K=Z0.length+1+M.length:=by
 have ex:∃u∈K,Qi b u≠0:=by
  obtain⟨c,hc⟩:=hc
  obtain⟨u,hu,hcu⟩:=zt.mp (hin c hc)
  refine⟨u,hu,fun e=>?_⟩
  have:=zC.mp (QaX e) c hcu
  rw[hc] at this;exact absurd this (by decide)
 obtain⟨Z0,u,l',e,m0,nu⟩:=Qdc ex
 have ex':∃w∈l',Qi b w≠0:=Classical.byContradiction fun q=>by
  have hl':∀w∈l',Qi b w=0:=fun w hw=>Classical.byContradiction fun h=>q ⟨w,hw,h⟩
  have:=Qgc m0 hl' (by rw[<-e];exact hin)
  rw[hK u (by rw[e];simp)] at this
  exact absurd this (by decide)
 obtain⟨M,v,Z2,e',m2,nv⟩:=Qg1 ex'
 refine⟨Z0,u,M,v,Z2,by rw[e,e'],m0,nu,nv,m2,by rw[e];exact QdP nu m0,?_⟩
 have:K=(Z0++u::M)++v::Z2:=by rw[e,e'];simp only[zG,List.cons_append]
 rw[this,Qfm nv m2,zd,zq];omega
theorem Qgm{Z0 M Z2:List Qf}{u v:Qf}{j:Nat}(hj:j<M.length):(Z0++u::(M++v::Z2)).getD (Z0.length+1+j) .null=M.getD j .null:=by
 simp only[ze]
 rw[List.getElem?_append_right (by omega),show Z0.length+1+j-Z0.length=j+1 from by omega,List.getElem?_cons_succ,List.getElem?_append_left hj]
theorem Qe0(b:Nat->Bool)(f la k:Nat)(u:Qf)(l:List Qf):QT b f la k (u::l)=(if Qi b u=2 then (if k=la/\k≠f then (Qm u).reverse else Qm u) else [u])++QT b f la (k+1) l:=rfl
theorem QeF {n : Nat} (h : 1 <= n) : Qs n < Qs (n + 1) := by
  show Qs n < (n + 1) * Qs n
  have := Qbv n
  calc Qs n < 2 * Qs n := by omega
    _ <= _ := zU _ (by omega)
theorem QeY : ∀ {e f : Nat}, 1 <= e -> 2 <= f -> Qs (e + 1) * Qs f < Qs (e + f)
  | 1, f, _, hf => by
    show 2 * (1 * 1) * Qs f < Qs (1 + f)
    rw [Nat.add_comm]
    show _ < (f + 1) * Qs f
    have := Qbv f
    calc 2 * (1 * 1) * Qs f < 3 * Qs f := by omega
      _ <= _ := zU _ (by omega)
  | e + 2, f, _, hf => by
    have ih := QeY (e := e + 1) (f := f) (by omega) hf
    show (e + 3) * Qs (e + 2) * Qs f < Qs (e + 2 + f)
    rw [show e + 2 + f = (e + 1 + f) + 1 from by omega, zP]
    show _ < (e + 1 + f + 1) * Qs (e + 1 + f)
    calc (e + 3) * (Qs (e + 2) * Qs f) < (e + 3) * Qs (e + 1 + f) := zQ ih (by omega)
      _ <= _ := zU _ (by omega)
theorem QgI{b:Nat->Bool}{K:List Qf}(hK:∀u∈K,Qq b u=false)(hc:∃c,b c=true)(hin:∀c,b c=true->c∈K.flatMap Qe):2<=(Qb b 1 K).length+(Qb b 2 K).length:=by
 obtain⟨Z0,u,M,v,Z2,e,-,nu,nv,-,-,-⟩:=QcV hK hc hin
 have ap:∀w (l l':List Qf),(Qb b w (l++l')).length=(Qb b w l).length+(Qb b w l').length:=fun w l l'=>by unfold Qb;rw[List.filter_append,zd]
 have one:∀w l,Qi b w≠0->(Qb b 1 l).length+(Qb b 2 l).length+1<=(Qb b 1 (w::l)).length+(Qb b 2 (w::l)).length:=fun w l h=>by
  rw[Qbx,Qbx]
  rcases QaN b w with q | q | q
  ·exact absurd q h
  ·rw[q,zb rfl,za (by decide),zq];omega
  ·rw[q,zb rfl,za (by decide),zq];omega
 have h1:=one u (M++v::Z2) nu
 have h2:=one v Z2 nv
 rw[e,ap,ap]
 have h3:=ap 1 M (v::Z2)
 have h4:=ap 2 M (v::Z2)
 omega
def Qek(b:Nat->Bool)(K:List Qf)(N:Nat)(P:Prop)(T:Qf):Prop:=Qo T/\Qy T/\(Qe T).Perm (K.flatMap Qe)/\Q1 b T/\Qr T<=N/\(Qr T=N->P)
theorem QgL {b : Nat -> Bool} (h32 : ∀ c, b c = true -> c < 32) (hc : ∃ c, b c = true) {K K' : List Qf} (hK : ∀ u ∈ K, Qy u) (A : Qcx b K K') (hal : ∀ u ∈ K, Qq b u = false) (hin : ∀ c, b c = true -> c ∈ K.flatMap Qe) (nd : (K.flatMap Qe).Nodup) (k2 : 2 <= K.length) {T : Qf} (h : QaI b K' = some T) : Qek b K (Qn K * Qs K.length) ((K.flatMap Qe).all b = true) T := by
  obtain ⟨a1, a2, a3, a4, a5, a6, a7⟩ := QcQ hK A
  have na := a7 hal
  have hin' : ∀ c, b c = true -> c ∈ K'.flatMap Qe := fun c hc => a2.mem_iff.mpr (hin c hc)
  have nd' : (K'.flatMap Qe).Nodup := a2.nodup_iff.mpr nd
  have c2 := QgI na hc hin'
  have p3 := QdW b K'
  have mE : ∀ v, ∀ u ∈ Qb b v K', Qo u /\ Qy u /\ Qi b u = v := fun v u hu => ⟨(a1 u (QD.mp hu).1).1, (a1 u (QD.mp hu).1).2, (QD.mp hu).2⟩
  have pE := Qa7 (Qb b 0 K') fun u hu => (mE 0 u hu).2.1
  have pF := Qa7 (Qb b 1 K') fun u hu => (mE 1 u hu).2.1
  have le : Qn K' * Qs K'.length <= Qn K * Qs K.length := by rw [a4]; exact zU _ a3
  have strict : Qr T < Qn K' * Qs K'.length -> Qr T <= Qn K * Qs K.length /\ (Qr T = Qn K * Qs K.length -> (K.flatMap Qe).all b = true) := fun q => ⟨by omega, fun e => by omega⟩
  obtain ⟨g1, g2, g3, g4, g5⟩ := QdJ (mE 1) (by decide)
  have lc := Qa0 b Qe
  have e0 : ∀ u ∈ Qb b 0 K', Qq b u = false := fun u hu => Qgq h32 hc (mE 0 u hu).2.2
  have nest : ∀ g : Qf, Qo g -> Qy g -> Q1 b g -> Qb b 0 K' ≠ [] -> (∀ a, (K'.flatMap Qe).count a = ((Qb b 0 K').flatMap Qe).count a + (Qe g).count a) -> T = .op2 .iand (.arg 0) (Qk (Qb b 0 K' ++ [g])) -> Qo T /\ Qy T /\ (Qe T).Perm (K.flatMap Qe) /\ Q1 b T := fun g gT gz gO eN cg e => by
    have ag : Qq b g = true := Qad.mpr fun c _ hb => by
      have h1 := zw.mpr (hin' c hb)
      rw [cg c] at h1
      have h2 : ((Qb b 0 K').flatMap Qe).count c = 0 := List.count_eq_zero.mpr fun q => by
        obtain ⟨w, hw, hcw⟩ := zt.mp q
        have := zC.mp (QaX (mE 0 w hw).2.2) c hcw
        rw [hb] at this; exact absurd this (by decide)
      exact zw.mp (by omega)
    subst e
    refine ⟨trivial, ⟨Or.inl rfl, ?_, QaY _, QbR fun u hu => ?_⟩, ?_, Or.inl ⟨?_, QeM ag gO e0⟩⟩
    · have := zZ.mpr eN
      rw [QV, zd, zam]; omega
    · rcases zc.mp hu with q | q
      · exact ⟨(mE 0 u q).1, (mE 0 u q).2.1⟩
      · rw [zh] at q; rw [q]; exact ⟨gT, gz⟩
    · refine List.Perm.trans (l₂ := K'.flatMap Qe) (zE.mpr fun a => ?_) a2
      rw [QbD, zj, zf, zo, zk, zg, cg a]
    · rw [QV]; exact List.any_eq_true.mpr ⟨g, by simp, ag⟩
  have prN : ∀ g, Qr (.op2 .iand (.arg 0) (Qk (Qb b 0 K' ++ [g]))) = Qn (Qb b 0 K') * Qr g * Qs ((Qb b 0 K').length + 1) := fun g => by
    rw [Qdr, Qa6, zd]; show _ * (Qr g * 1) * _ = _; rw [zar]; rfl
  unfold QaI at h
  have flat : ∀ (L0 L1 R' : List Qf), Qb b 0 K' = [] \/ True -> (∀ u ∈ L0, Qo u /\ Qy u /\ Qi b u = 0) -> (∀ u ∈ R', Qo u /\ Qy u /\ Qi b u = 0) -> L1 ≠ [] -> (∀ u ∈ L1, Qo u /\ Qy u /\ Qi b u = 1) -> ∀ L2, L2 ≠ [] -> (∀ u ∈ L2, Qo u /\ Qy u /\ Qi b u = 1) -> (∀ a, (K'.flatMap Qe).count a = ((Qb b 0 K').flatMap Qe).count a + ((L0 ++ (L1 ++ L2) ++ R').flatMap Qe).count a) -> Qy (.op2 .ior (.arg 0) (Qk (L0 ++ (L1 ++ L2) ++ R'))) /\ Q1 b (.op2 .ior (.arg 0) (Qk (L0 ++ (L1 ++ L2) ++ R'))) := fun L0 L1 R' _ m0 m2 n1 m1 L2 n2 m1' cg => by
    obtain ⟨u, l1, e1⟩ : ∃ u l1, L1 = u :: l1 := by
      cases L1 with
      | nil => exact absurd rfl n1
      | cons x y => exact ⟨x, y, rfl⟩
    obtain ⟨v, l2, e2⟩ : ∃ v l2, L2 = v :: l2 := by
      cases L2 with
      | nil => exact absurd rfl n2
      | cons x y => exact ⟨x, y, rfl⟩
    have eq : L1 ++ L2 = [] ++ u :: l1 ++ v :: l2 := by rw [e1, e2]; rfl
    have nd3 : ((L0 ++ (L1 ++ L2) ++ R').flatMap Qe).Nodup := zF.mpr fun a => by
      have := zF.mp nd' a
      rw [cg a] at this; omega
    rw [eq] at nd3 ⊢
    refine Qev h32 (fun w hw => ?_) (fun w hw => (m0 w hw).2.2) (fun w hw => ?_) (fun w hw => (m2 w hw).2.2) nd3
    · rw [<- eq, zc, zc, zc] at hw
      rcases hw with (q | q | q) | q
      · exact ⟨(m0 w q).1, (m0 w q).2.1⟩
      · exact ⟨(m1 w q).1, (m1 w q).2.1⟩
      · exact ⟨(m1' w q).1, (m1' w q).2.1⟩
      · exact ⟨(m2 w q).1, (m2 w q).2.1⟩
    · rw [<- eq, zc] at hw
      rcases hw with q | q
      · exact (m1 w q).2.2
      · exact (m1' w q).2.2
  match hY : Qb b 2 K' with
  | [] =>
    rw [hY] at h c2 p3
    have h' : (if (Qb b 0 K').length = 0 \/ (Qb b 1 K').length < 2 then some (Jvm.Term.op2 .iand (.arg 0) (Qk K')) else some (.op2 .iand (.arg 0) (Qk (Qb b 0 K' ++ QI (Qb b 1 K'))))) = some T := h
    have f2 : 2 <= (Qb b 1 K').length := c2
    have lc' : ∀ a, (K'.flatMap Qe).count a = ((Qb b 0 K').flatMap Qe).count a + ((Qb b 1 K').flatMap Qe).count a := fun a => by rw [lc a K', hY]; show _ + 0 + _ = _; omega
    by_cases qE : (Qb b 0 K').length = 0
    · rw [zb (Or.inl qE)] at h'
      have e := (Option.some.inj h').symm
      have allb : (K'.flatMap Qe).all b = true := Qar.mpr fun u hu => by
        rcases QaN b u with q | q | q
        · have := QD.mpr ⟨hu, q⟩; rw [Q4.mp qE] at this; exact absurd this (by simp)
        · exact Qa8 q
        · have := QD.mpr ⟨hu, q⟩; rw [hY] at this; exact absurd this (by simp)
      subst e
      refine ⟨trivial, ⟨Or.inl rfl, by rw [QV]; omega, QaY _, QbR a1⟩, by rw [QbD]; exact a2, Or.inr ⟨by rw [QV]; exact QbJ.mpr na, Or.inl (by rw [QV]; exact allb)⟩, by rw [Qdr]; exact le, fun _ => by rw [<- a2.all_eq]; exact allb⟩
    · rw [za (by omega)] at h'
      obtain ⟨u, v, l, eF⟩ : ∃ u v l, Qb b 1 K' = u :: v :: l := by
        match Qb b 1 K', f2 with
        | u :: v :: l, _ => exact ⟨u, v, l, rfl⟩
        | [_], h => exact absurd h (by simp)
        | [], h => exact absurd h (by simp)
      have eG : QI (Qb b 1 K') = [.op2 .iand (.arg 0) (Qk (Qb b 1 K'))] := by rw [eF]; rfl
      rw [eG] at h'
      have e := (Option.some.inj h').symm
      have eN : Qb b 0 K' ≠ [] := fun q => qE (by rw [q]; rfl)
      have gz : Qy (.op2 .iand (.arg 0) (Qk (Qb b 1 K'))) := ⟨Or.inl rfl, by rw [QV]; exact f2, QaY _, QbR fun u hu => ⟨(mE 1 u hu).1, (mE 1 u hu).2.1⟩⟩
      have gO : Q1 b (.op2 .iand (.arg 0) (Qk (Qb b 1 K'))) := Or.inr ⟨by rw [QV]; exact QbJ.mpr fun u hu => na u (QD.mp hu).1, Or.inl (by rw [QV]; exact Qar.mpr fun u hu => Qa8 (mE 1 u hu).2.2)⟩
      obtain ⟨t1, t2, t3, t4⟩ := nest (.op2 _ (.arg 0) _) trivial gz gO eN (fun a => by rw [QbD]; exact lc' a) e
      obtain ⟨s1, s2⟩ := strict (by
        rw [e, prN, Qdr, p3.1, p3.2]
        have hs := QeY (e := (Qb b 0 K').length) (f := (Qb b 1 K').length) (by omega) f2
        show _ < Qn (Qb b 0 K') * 1 * Qn (Qb b 1 K') * Qs ((Qb b 0 K').length + 0 + (Qb b 1 K').length)
        rw [Nat.add_zero, zar]
        calc Qn (Qb b 0 K') * (Qn (Qb b 1 K') * Qs (Qb b 1 K').length) * Qs ((Qb b 0 K').length + 1) = Qn (Qb b 0 K') * Qn (Qb b 1 K') * (Qs ((Qb b 0 K').length + 1) * Qs (Qb b 1 K').length) := by
              simp only [zP, zS, zI]
          _ < _ := zQ hs (zJ pE pF))
      exact ⟨t1, t2, t3, t4, s1, s2⟩
  | [y] =>
    rw [hY] at h c2 p3
    have f1 : 1 <= (Qb b 1 K').length := by have : 2 <= (Qb b 1 K').length + 1 := c2; omega
    have yM : y ∈ Qb b 2 K' := by rw [hY]; simp
    obtain ⟨L0, L1, ey, n0, n1, m0, m1⟩ := a6 y (QD.mp yM).1 (QD.mp yM).2
    have ek : Qm y = L0 ++ L1 := by rw [ey]; exact QV _
    have el : Qe y = (L0 ++ L1).flatMap Qe := by rw [ey]; exact QaM _
    have ec : Qr y = Qn (L0 ++ L1) * 2 := by rw [ey]; exact QbF _
    have h' : (if (Qb b 0 K').length = 0 then some (Jvm.Term.op2 .ior (.arg 0) (Qk (Qm y ++ QI (Qb b 1 K')))) else some (.op2 .iand (.arg 0) (Qk (Qb b 0 K' ++ [.op2 .ior (.arg 0) (Qk (Qm y ++ QI (Qb b 1 K')))])))) = some T := h
    have eR : Qm y ++ QI (Qb b 1 K') = L0 ++ (L1 ++ QI (Qb b 1 K')) ++ [] := by rw [ek, zk, zG]
    have nR : QI (Qb b 1 K') ≠ [] := g4 fun q => by rw [q] at f1; exact absurd f1 (by simp)
    have lc' : ∀ a, (K'.flatMap Qe).count a = ((Qb b 0 K').flatMap Qe).count a + ((Qm y ++ QI (Qb b 1 K')).flatMap Qe).count a := fun a => by
      rw [lc a K', hY, zj, g2, zf, zo, zk, el, ek, zg]; omega
    rw [eR] at h' lc'
    obtain ⟨qz, qO⟩ := flat L0 L1 [] (Or.inr trivial) m0 (fun u hu => absurd hu (by simp)) n1 m1 _ nR g3 lc'
    have pX : 1 <= Qn (L0 ++ L1) := Qa7 _ fun u hu => by
      rcases zc.mp hu with q | q
      · exact (m0 u q).2.1
      · exact (m1 u q).2.1
    have cQ : Qr (.op2 .ior (.arg 0) (Qk (L0 ++ (L1 ++ QI (Qb b 1 K')) ++ []))) = Qn (L0 ++ L1) * (Qn (Qb b 1 K') * Qs (Qb b 1 K').length) * 2 := by
      rw [QbF, <- eR, ek, Qa6, g1]
    have pK : Qn K' = Qn (Qb b 0 K') * (Qn (L0 ++ L1) * 2) * Qn (Qb b 1 K') := by
      rw [p3.1]; show _ * (Qr y * 1) * _ = _; rw [ec, zar]
    have kl : K'.length = (Qb b 0 K').length + 1 + (Qb b 1 K').length := p3.2
    by_cases qE : (Qb b 0 K').length = 0
    · rw [zb qE] at h'
      have e := (Option.some.inj h').symm
      obtain ⟨s1, s2⟩ := strict (by
        rw [e, cQ, pK, kl, qE, zD, Q4.mp qE]
        show _ < 1 * (Qn (L0 ++ L1) * 2) * Qn (Qb b 1 K') * Qs (1 + (Qb b 1 K').length)
        rw [Nat.one_mul, Nat.add_comm 1]
        calc Qn (L0 ++ L1) * (Qn (Qb b 1 K') * Qs (Qb b 1 K').length) * 2 = Qn (L0 ++ L1) * 2 * Qn (Qb b 1 K') * Qs (Qb b 1 K').length := by
              simp only [zP, zS, zI]
          _ < _ := zQ (QeF f1) (zJ (zJ pX (by omega)) pF))
      refine ⟨by rw [e]; exact trivial, by rw [e]; exact qz, ?_, by rw [e]; exact qO, s1, s2⟩
      rw [e, QbD]
      refine List.Perm.trans (l₂ := K'.flatMap Qe) (zE.mpr fun a => ?_) a2
      rw [lc' a, Q4.mp qE, zo, zan, zD]
    · rw [za qE] at h'
      have e := (Option.some.inj h').symm
      obtain ⟨t1, t2, t3, t4⟩ := nest (.op2 _ (.arg 0) _) trivial qz qO (fun q => qE (by rw [q]; rfl)) (fun a => by rw [QbD]; exact lc' a) e
      obtain ⟨s1, s2⟩ := strict (by
        rw [e, prN, cQ, pK, kl]
        obtain ⟨f', ef⟩ : ∃ f', (Qb b 1 K').length = f' + 1 := ⟨(Qb b 1 K').length - 1, by omega⟩
        have h1 := QcU f' (Qb b 0 K').length
        have h2 := QeF (n := f' + ((Qb b 0 K').length + 1)) (by omega)
        rw [ef, show (Qb b 0 K').length + 1 + (f' + 1) = f' + ((Qb b 0 K').length + 1) + 1 from by omega]
        calc Qn (Qb b 0 K') * (Qn (L0 ++ L1) * (Qn (Qb b 1 K') * Qs (f' + 1)) * 2) * Qs ((Qb b 0 K').length + 1) = Qn (Qb b 0 K') * (Qn (L0 ++ L1) * 2) * Qn (Qb b 1 K') * (Qs ((Qb b 0 K').length + 1) * Qs (f' + 1)) := by
              simp only [zP, zS, zI]
          _ < _ := zQ (Nat.lt_of_le_of_lt h1 h2) (zJ (zJ pE (zJ pX (by omega))) pF))
      exact ⟨t1, t2, t3, t4, s1, s2⟩
  | [y, z] =>
    rw [hY] at h c2 p3
    have yM : y ∈ Qb b 2 K' := by rw [hY]; simp
    have zM : z ∈ Qb b 2 K' := by rw [hY]; simp
    obtain ⟨L0, L1, ey, n0, n1, m0, m1⟩ := a6 y (QD.mp yM).1 (QD.mp yM).2
    obtain ⟨N0, N1, ez, n0', n1', m0', m1'⟩ := a6 z (QD.mp zM).1 (QD.mp zM).2
    have ek : Qm y = L0 ++ L1 := by rw [ey]; exact QV _
    have el : Qe y = (L0 ++ L1).flatMap Qe := by rw [ey]; exact QaM _
    have ec : Qr y = Qn (L0 ++ L1) * 2 := by rw [ey]; exact QbF _
    have ek' : Qm z = N0 ++ N1 := by rw [ez]; exact QV _
    have el' : Qe z = (N0 ++ N1).flatMap Qe := by rw [ez]; exact QaM _
    have ec' : Qr z = Qn (N0 ++ N1) * 2 := by rw [ez]; exact QbF _
    have h' : (if (Qb b 0 K').length = 0 then some (Jvm.Term.op2 .ior (.arg 0) (Qk (Qm y ++ QI (Qb b 1 K') ++ (Qm z).reverse))) else some (.op2 .iand (.arg 0) (Qk (Qb b 0 K' ++ [.op2 .ior (.arg 0) (Qk (Qm y ++ QI (Qb b 1 K') ++ (Qm z).reverse))])))) = some T := h
    have eR : Qm y ++ QI (Qb b 1 K') ++ (Qm z).reverse = L0 ++ ((L1 ++ QI (Qb b 1 K')) ++ N1.reverse) ++ N0.reverse := by rw [ek, ek', zab]; simp only [zG]
    have lc' : ∀ a, (K'.flatMap Qe).count a = ((Qb b 0 K').flatMap Qe).count a + ((Qm y ++ QI (Qb b 1 K') ++ (Qm z).reverse).flatMap Qe).count a := fun a => by
      rw [lc a K', hY, zj, zj, g2, zf, zf, zo, zk, el, el', ek, ek', zg, zg, zg, ((zv (N0 ++ N1)).flatMap_right Qe).count_eq]; omega
    rw [eR] at h' lc'
    have mL : ∀ u ∈ L1 ++ QI (Qb b 1 K'), Qo u /\ Qy u /\ Qi b u = 1 := fun u hu => by
      rcases zc.mp hu with q | q
      · exact m1 u q
      · exact g3 u q
    obtain ⟨qz, qO⟩ := flat L0 (L1 ++ QI (Qb b 1 K')) N0.reverse (Or.inr trivial) m0 (fun u hu => m0' u (zy.mp hu)) (fun q => n1 (zay.mp q).1) mL N1.reverse (fun q => n1' (zav.mp q)) (fun u hu => m1' u (zy.mp hu)) lc'
    have pX : 1 <= Qn (L0 ++ L1) := Qa7 _ fun u hu => by
      rcases zc.mp hu with q | q
      · exact (m0 u q).2.1
      · exact (m1 u q).2.1
    have pX' : 1 <= Qn (N0 ++ N1) := Qa7 _ fun u hu => by
      rcases zc.mp hu with q | q
      · exact (m0' u q).2.1
      · exact (m1' u q).2.1
    have cQ : Qr (.op2 .ior (.arg 0) (Qk (L0 ++ ((L1 ++ QI (Qb b 1 K')) ++ N1.reverse) ++ N0.reverse))) = Qn (L0 ++ L1) * (Qn (Qb b 1 K') * Qs (Qb b 1 K').length) * Qn (N0 ++ N1) * 2 := by
      rw [QbF, <- eR, ek, ek', Qa6, Qa6, g1, QcJ]
    have pK : Qn K' = Qn (Qb b 0 K') * (Qn (L0 ++ L1) * 2 * (Qn (N0 ++ N1) * 2)) * Qn (Qb b 1 K') := by
      rw [p3.1]; show _ * (Qr y * (Qr z * 1)) * _ = _; rw [ec, ec', zar]
    have kl : K'.length = (Qb b 0 K').length + 2 + (Qb b 1 K').length := p3.2
    have two : ∀ P Q : Nat, 1 <= P -> Q <= Qs K'.length -> P * 2 * Q < P * 4 * Qs K'.length := fun P Q hP hQ => by
      have h1 := Qbv K'.length
      calc P * 2 * Q <= P * 2 * Qs K'.length := zY _ hQ
        _ < _ := zaj (by omega) h1
    by_cases qE : (Qb b 0 K').length = 0
    · rw [zb qE] at h'
      have e := (Option.some.inj h').symm
      obtain ⟨s1, s2⟩ := strict (by
        rw [e, cQ, pK, Q4.mp qE]
        show _ < 1 * _ * _ * _
        have hQ : Qs (Qb b 1 K').length <= Qs K'.length := by
          rw [kl, qE, show 0 + 2 + (Qb b 1 K').length = (Qb b 1 K').length + 1 + 1 from by omega]
          exact zB (QcW _) (QcW _)
        have := two (Qn (L0 ++ L1) * Qn (N0 ++ N1) * Qn (Qb b 1 K')) _ (zJ (zJ pX pX') pF) hQ
        calc Qn (L0 ++ L1) * (Qn (Qb b 1 K') * Qs (Qb b 1 K').length) * Qn (N0 ++ N1) * 2 = Qn (L0 ++ L1) * Qn (N0 ++ N1) * Qn (Qb b 1 K') * 2 * Qs (Qb b 1 K').length := by
              simp only [zP, zS, zI]
          _ < _ := this
          _ = _ := by rw [Nat.one_mul, show (4 : Nat) = 2 * 2 from rfl]; simp only [zP, zS, zI])
      refine ⟨by rw [e]; exact trivial, by rw [e]; exact qz, ?_, by rw [e]; exact qO, s1, s2⟩
      rw [e, QbD]
      refine List.Perm.trans (l₂ := K'.flatMap Qe) (zE.mpr fun a => ?_) a2
      rw [lc' a, Q4.mp qE, zo, zan, zD]
    · rw [za qE] at h'
      have e := (Option.some.inj h').symm
      obtain ⟨t1, t2, t3, t4⟩ := nest (.op2 _ (.arg 0) _) trivial qz qO (fun q => qE (by rw [q]; rfl)) (fun a => by rw [QbD]; exact lc' a) e
      obtain ⟨s1, s2⟩ := strict (by
        rw [e, prN, cQ, pK]
        have hQ : Qs ((Qb b 0 K').length + 1) * Qs (Qb b 1 K').length <= Qs K'.length := by
          refine zB (Qeh _ _) ?_
          rw [kl, show (Qb b 0 K').length + 2 + (Qb b 1 K').length = (Qb b 0 K').length + 1 + (Qb b 1 K').length + 1 from by omega]
          exact QcW _
        have := two (Qn (Qb b 0 K') * Qn (L0 ++ L1) * Qn (N0 ++ N1) * Qn (Qb b 1 K')) _ (zJ (zJ (zJ pE pX) pX') pF) hQ
        calc Qn (Qb b 0 K') * (Qn (L0 ++ L1) * (Qn (Qb b 1 K') * Qs (Qb b 1 K').length) * Qn (N0 ++ N1) * 2) * Qs ((Qb b 0 K').length + 1) = Qn (Qb b 0 K') * Qn (L0 ++ L1) * Qn (N0 ++ N1) * Qn (Qb b 1 K') * 2 * (Qs ((Qb b 0 K').length + 1) * Qs (Qb b 1 K').length) := by
              simp only [zP, zS, zI]
          _ < _ := this
          _ = _ := by rw [show (4 : Nat) = 2 * 2 from rfl]; simp only [zP, zS, zI])
      exact ⟨t1, t2, t3, t4, s1, s2⟩
  | y :: z :: w :: l =>
    rw [hY] at h
    exact absurd h (by show ¬ (none : Option Qf) = some T; simp)
theorem QdM(b:Nat->Bool)(t:Qf)(w:Qy t):Qi b (Qc t)=Qi b t:=by unfold Qi;rw[(Qbf t w).1]
theorem QeI{b:Nat->Bool}{K:List Qf}(hK:∀u∈K,Qy u)(h:QbC b (K.map Qc)):QbC b K:=by
 obtain⟨Z0,Z1,Z2,e,m0,m1,m2⟩:=h
 obtain⟨l01,l2,e1,e2,e3⟩:=List.map_eq_append_iff.mp e
 obtain⟨l0,l1,e4,e5,e6⟩:=List.map_eq_append_iff.mp e2
 have go:∀(l Z:List Qf) (v:Int32),(∀u∈l,u∈K)->l.map Qc=Z->(∀u∈Z,Qi b u=v)->∀u∈l,Qi b u=v:=fun l Z v hl he hZ u hu=>by
  rw[<-QdM b u (hK u (hl u hu))]
  exact hZ _ (by rw[<-he];exact z8.mpr ⟨u,hu,rfl⟩)
 refine⟨l0,l1,l2,by rw[e1,e4],go l0 Z0 0 (fun u hu=>?_) e5 m0,go l1 Z1 1 (fun u hu=>?_) e6 m1,go l2 Z2 0 (fun u hu=>?_) e3 m2⟩
 ·rw[e1,e4];simp[hu]
 ·rw[e1,e4];simp[hu]
 ·rw[e1];simp[hu]
theorem QfO {b : Nat -> Bool} (h32 : ∀ c, b c = true -> c < 32) (hc : ∃ c, b c = true) {K K' : List Qf} (hK : ∀ u ∈ K, Qy u) (A : Qcx b K K') (hal : ∀ u ∈ K, Qq b u = false) (hin : ∀ c, b c = true -> c ∈ K.flatMap Qe) (nd : (K.flatMap Qe).Nodup) {T : Qf} (h : QaL b K' = some T) : Qek b K (Qn K * 2) (QbC b K) T := by
  obtain ⟨a1, a2, a3, a4, a5, a6, a7⟩ := QcQ hK A
  have na := a7 hal
  have hin' : ∀ c, b c = true -> c ∈ K'.flatMap Qe := fun c hc => a2.mem_iff.mpr (hin c hc)
  have nd' : (K'.flatMap Qe).Nodup := a2.nodup_iff.mpr nd
  obtain ⟨Z0, u, M, v, Z2, e, m0, nu, nv, m2, ef, ela⟩ := QcV na hc hin'
  unfold QaL at h
  by_cases md : QbW b (QaC b K') (QaV b K') K' = true
  · rw [zb md] at h
    have eT := (Option.some.inj h).symm
    have mP := QbB.mp md
    rw [ef, ela] at mP eT
    have mM : ∀ w ∈ M, Qi b w = 1 := fun w hw => by
      obtain ⟨j, hj, ej⟩ := List.getElem_of_mem hw
      have := mP (Z0.length + 1 + j) (by omega) (by omega) (by rw [e, zd, zq, zd]; omega)
      rw [e, Qgm hj, ze, List.getElem?_eq_getElem hj] at this
      have h2 : Qi b M[j] = 1 := this
      rw [ej] at h2; exact h2
    have open1 : ∀ w ∈ K', Qi b w ≠ 0 -> ∃ L0 L1, (if Qi b w = 2 then Qm w else [w]) = L0 ++ L1 /\ L1 ≠ [] /\ (∀ x ∈ L0, Qo x /\ Qy x /\ Qi b x = 0) /\ (∀ x ∈ L1, Qo x /\ Qy x /\ Qi b x = 1) /\ Qr w = Qn (L0 ++ L1) * (if Qi b w = 2 then 2 else 1) /\ Qe w = (L0 ++ L1).flatMap Qe := fun w hw nw => by
      by_cases q : Qi b w = 2
      · obtain ⟨L0, L1, ey, n0, n1, k0, k1⟩ := a6 w hw q
        rw [zb q, zb q]
        exact ⟨L0, L1, by rw [ey]; exact QV _, n1, k0, k1, by rw [ey]; exact QbF _, by rw [ey]; exact QaM _⟩
      · rw [za q, za q]
        have w1 : Qi b w = 1 := by
          rcases QaN b w with q' | q' | q'
          · exact absurd q' nw
          · exact q'
          · exact absurd q' q
        refine ⟨[], [w], rfl, by simp, fun x hx => absurd hx (by simp), fun x hx => ?_, ?_, ?_⟩
        · rw [zh] at hx; rw [hx]; exact ⟨(a1 w hw).1, (a1 w hw).2, w1⟩
        · show Qr w = Qr w * 1 * 1; omega
        · show Qe w = Qe w ++ []; rw [zk]
    have uK : u ∈ K' := by rw [e]; simp
    have vK : v ∈ K' := by rw [e]; simp
    obtain ⟨L0, L1, eu, n1, l0, l1, cu, lu⟩ := open1 u uK nu
    obtain ⟨N0, N1, ev, n1', k0, k1, cv, lv'⟩ := open1 v vK nv
    have xr : QT b Z0.length (Z0.length + 1 + M.length) 0 K' = (Z0 ++ L0) ++ ((L1 ++ M) ++ N1.reverse) ++ (N0.reverse ++ Z2) := by
      rw [e, Qcw, Qcm 0 (fun w hw => by rw [m0 w hw]; decide), zD, Qe0, za (fun q => by omega : ¬ (Z0.length = Z0.length + 1 + M.length /\ Z0.length ≠ Z0.length)), eu, Qcw, Qcm (Z0.length + 1) (fun w hw => by rw [mM w hw]; decide), Qe0, zb (show Z0.length + 1 + M.length = Z0.length + 1 + M.length /\ Z0.length + 1 + M.length ≠ Z0.length from ⟨rfl, by omega⟩), Qcm _ (fun w hw => by rw [m2 w hw]; decide)]
      have er : (if Qi b v = 2 then (Qm v).reverse else [v]) = N1.reverse ++ N0.reverse := by
        rw [<- zab, <- ev]
        split <;> rfl
      rw [er]
      simp only [zG]
    rw [xr] at eT
    have prK : Qn K' = Qn Z0 * (Qr u * (Qn M * (Qr v * Qn Z2))) := by
      rw [e, Qa6]; show _ * (Qr u * Qn (M ++ v :: Z2)) = _; rw [Qa6]; rfl
    have prX : Qn ((Z0 ++ L0) ++ ((L1 ++ M) ++ N1.reverse) ++ (N0.reverse ++ Z2)) = Qn Z0 * (Qn (L0 ++ L1) * (Qn M * (Qn (N0 ++ N1) * Qn Z2))) := by
      simp only [Qa6, QcJ, zP, zI, zS]
    have lvc : ∀ a, (((Z0 ++ L0) ++ ((L1 ++ M) ++ N1.reverse) ++ (N0.reverse ++ Z2)).flatMap Qe).count a = (K'.flatMap Qe).count a := fun a => by
      rw [e]
      simp only [zj, zf, zg, lu, lv', ((zv N1).flatMap_right Qe).count_eq, ((zv N0).flatMap_right Qe).count_eq]
      omega
    obtain ⟨p, l1', e1⟩ : ∃ p l1', L1 = p :: l1' := by
      cases L1 with
      | nil => exact absurd rfl n1
      | cons x y => exact ⟨x, y, rfl⟩
    obtain ⟨q, l2', e2⟩ : ∃ q l2', N1.reverse = q :: l2' := by
      cases hN : N1.reverse with
      | nil => exact absurd (zav.mp hN) n1'
      | cons x y => exact ⟨x, y, rfl⟩
    have eq : (L1 ++ M) ++ N1.reverse = [] ++ p :: (l1' ++ M) ++ q :: l2' := by rw [e1, e2]; rfl
    have tz : ∀ w ∈ Z0, Qo w /\ Qy w := fun w hw => a1 w (by rw [e]; simp [hw])
    have tz2 : ∀ w ∈ Z2, Qo w /\ Qy w := fun w hw => a1 w (by rw [e]; simp [hw])
    have tm : ∀ w ∈ M, Qo w /\ Qy w := fun w hw => a1 w (by rw [e]; simp [hw])
    have m1' : ∀ w ∈ (L1 ++ M) ++ N1.reverse, Qo w /\ Qy w /\ Qi b w = 1 := fun w hw => by
      rw [zc, zc] at hw
      rcases hw with (q | q) | q
      · exact l1 w q
      · exact ⟨(tm w q).1, (tm w q).2, mM w q⟩
      · exact k1 w (zy.mp q)
    have m0' : ∀ w ∈ Z0 ++ L0, Qo w /\ Qy w /\ Qi b w = 0 := fun w hw => by
      rcases zc.mp hw with q | q
      · exact ⟨(tz w q).1, (tz w q).2, m0 w q⟩
      · exact l0 w q
    have m2' : ∀ w ∈ N0.reverse ++ Z2, Qo w /\ Qy w /\ Qi b w = 0 := fun w hw => by
      rcases zc.mp hw with q | q
      · exact k0 w (zy.mp q)
      · exact ⟨(tz2 w q).1, (tz2 w q).2, m2 w q⟩
    have nd3 : (((Z0 ++ L0) ++ ((L1 ++ M) ++ N1.reverse) ++ (N0.reverse ++ Z2)).flatMap Qe).Nodup := zF.mpr fun a => by
      rw [lvc a]; exact zF.mp nd' a
    have QG : Qy (.op2 .ior (.arg 0) (Qk ((Z0 ++ L0) ++ ((L1 ++ M) ++ N1.reverse) ++ (N0.reverse ++ Z2)))) /\ Q1 b (.op2 .ior (.arg 0) (Qk ((Z0 ++ L0) ++ ((L1 ++ M) ++ N1.reverse) ++ (N0.reverse ++ Z2)))) := by
      rw [eq] at nd3 m1' ⊢
      refine Qev h32 (fun w hw => ?_) (fun w hw => (m0' w hw).2.2) (fun w hw => (m1' w hw).2.2) (fun w hw => (m2' w hw).2.2) nd3
      rw [zc, zc] at hw
      rcases hw with (q | q) | q
      · exact ⟨(m0' w q).1, (m0' w q).2.1⟩
      · exact ⟨(m1' w q).1, (m1' w q).2.1⟩
      · exact ⟨(m2' w q).1, (m2' w q).2.1⟩
    have cT : Qr T = Qn Z0 * (Qn (L0 ++ L1) * (Qn M * (Qn (N0 ++ N1) * Qn Z2))) * 2 := by rw [eT, QbF, prX]
    have pz := Qa7 Z0 fun w hw => (tz w hw).2
    have pz2 := Qa7 Z2 fun w hw => (tz2 w hw).2
    have pm := Qa7 M fun w hw => (tm w hw).2
    have pu : 1 <= Qn (L0 ++ L1) := Qa7 _ fun w hw => by
      rcases zc.mp hw with q | q
      · exact (l0 w q).2.1
      · exact (l1 w q).2.1
    have pv : 1 <= Qn (N0 ++ N1) := Qa7 _ fun w hw => by
      rcases zc.mp hw with q | q
      · exact (k0 w q).2.1
      · exact (k1 w q).2.1
    have le : Qn K' * 2 <= Qn K * 2 := zU _ a3
    refine ⟨by rw [eT]; exact trivial, by rw [eT]; exact QG.1, ?_, by rw [eT]; exact QG.2, ?_, fun eN => ?_⟩
    · rw [eT, QbD]
      exact List.Perm.trans (l₂ := K'.flatMap Qe) (zE.mpr lvc) a2
    · refine zB ?_ le
      rw [cT, prK, cu, cv]
      refine zU _ (zY _ (zag ?_ (zY _ (zU _ ?_))))
      · split <;> omega
      · split <;> omega
    · -- no mixed child
      have big : ¬ Qr T < Qn K' * 2 := fun q => by omega
      have u2 : Qi b u ≠ 2 := fun q => big (by
        rw [cT, prK, cu, cv, zb q]
        refine zaj (zQ ?_ pz) (by omega)
        calc Qn (L0 ++ L1) * (Qn M * (Qn (N0 ++ N1) * Qn Z2)) < Qn (L0 ++ L1) * 2 * (Qn M * (Qn (N0 ++ N1) * Qn Z2)) := zaj (by omega) (zJ pm (zJ pv pz2))
          _ <= _ := zY _ (zY _ (zU _ (by split <;> omega))))
      have v2 : Qi b v ≠ 2 := fun q => big (by
        rw [cT, prK, cu, cv, zb q, za u2, zar]
        refine zaj (zQ (zQ (zQ (zaj (by omega) pz2) pm) pu) pz) (by omega))
      have no2 : ∀ w ∈ K', Qi b w ≠ 2 := fun w hw => by
        rw [e, zc, zA, zc, zA] at hw
        rcases hw with q | q | q | q | q
        · rw [m0 w q]; decide
        · rw [q]; exact u2
        · rw [mM w q]; decide
        · rw [q]; exact v2
        · rw [m2 w q]; decide
      have one : ∀ w, Qi b w ≠ 0 -> Qi b w ≠ 2 -> Qi b w = 1 := fun w h0 h2 => by
        rcases QaN b w with q | q | q
        · exact absurd q h0
        · exact q
        · exact absurd q h2
      refine QeI hK ?_
      rw [<- a5 no2]
      refine ⟨Z0, u :: M ++ [v], Z2, by rw [e]; simp only [zG, List.cons_append, zac], m0, fun w hw => ?_, m2⟩
      rw [zc, zA, zh] at hw
      rcases hw with (q | q) | q
      · rw [q]; exact one u nu u2
      · exact mM w q
      · rw [q]; exact one v nv v2
  · rw [za md] at h; exact absurd h (by simp)
theorem QeL{b:Nat->Bool}{t T:Qf}(h:(Qe T).Perm (Qe t)):Qq b T=Qq b t:=by
 rw[Bool.eq_iff_iff,Qad,Qad]
 exact⟨fun q c h1 h2=>h.mem_iff.mp (q c h1 h2),fun q c h1 h2=>h.mem_iff.mpr (q c h1 h2)⟩
theorem Qd2(b:Nat->Bool)(t:Qf)(w:Qy t):Qq b (Qc t)=Qq b t:=by unfold Qq;rw[(Qbf t w).1]
theorem QgB{b:Nat->Bool}(h32:∀c,b c=true->c<32)(hc:∃c,b c=true):∀t,Qy t->(Qe t).Nodup->((Qo t->Qq b t=true)/\(QJ t->(Qd t).any (Qq b)=true))->∀T,QP b t=some T->Qy T/\(Qe T).Perm (Qe t)/\Q1 b T/\Qr T<=Qr t/\(Qr T=Qr t->Q1 b t)/\(Qo t->Qo T)/\(QJ t->QJ T/\(Qd T).any (Qq b)=true/\(Qd T).length=(Qd t).length):=QaR
 (fun c hc' nd al T h=>by
  have e:T = .arg c:=(Option.some.inj h).symm
  subst e
  exact⟨hc',List.Perm.refl _,trivial,zn _,fun _=>trivial,fun _=>trivial,fun h=>absurd h id⟩)
 (fun o x f w ih nd al T h=>by
  have w':=w
  obtain⟨wo,w2,wF,wf⟩:=w
  have eR:QP b (.op2 o (.arg x) f)=if (Qd f).any (Qq b)=true then (QP b f).bind fun f'=>some (.op2 o (.arg 0) f') else (QM b f).bind fun f'=>if o = .iand then QaI b (Qd f') else QaL b (Qd f'):=rfl
  have lvf:Qe (.op2 o (.arg x) f)=Qe f:=rfl
  have kf:=QbQ Qe (fun _ _=>rfl) rfl f wf wF
  have cf:Qr (.op2 o (.arg x) f)=Qr f*(if o = .iand then Qs (Qd f).length else 2):=rfl
  have fpos:1<=(if o = .iand then Qs (Qd f).length else 2):=by split;exact Qbv _;omega
  rw[eR] at h
  by_cases q:(Qd f).any (Qq b)=true
  ·rw[zb q] at h
   cases hf:QP b f with
   |none=>rw[hf] at h;exact absurd h (by simp)
   |some f'=>
    rw[hf] at h
    have e:T = .op2 o (.arg 0) f':=(Option.some.inj h).symm
    obtain⟨i1,i2,i3,i4,i5,-,i7⟩:=ih nd ⟨fun h=>absurd h (QaK wF),fun _=>q⟩ f' hf
    obtain⟨j1,j2,j3⟩:=i7 wF
    subst e
    have cf':Qr (.op2 o (.arg 0) f')=Qr f'*(if o = .iand then Qs (Qd f).length else 2):=by
     show Qr f'*(if o = .iand then Qs (Qd f').length else 2)=_;rw[j3]
    refine⟨⟨wo,by rw[j3];exact w2,j1,i1⟩,i2,Or.inl ⟨j2,i3⟩,by rw[cf,cf'];exact zU _ i4,fun e=>Or.inl ⟨q,i5 ?_⟩,fun _=>trivial,fun h=>absurd h id⟩
    rw[cf,cf'] at e
    exact Nat.eq_of_mul_eq_mul_right fpos e
  ·have q':(Qd f).any (Qq b)=false:=by rw[zH] at q;exact q
   rw[za q] at h
   cases hf:QM b f with
   |none=>rw[hf] at h;exact absurd h (by simp)
   |some f'=>
    rw[hf] at h
    have h':(if o = .iand then QaI b (Qd f') else QaL b (Qd f'))=some T:=h
    obtain⟨F',A⟩:=(QfE b f wf).2 wF f' hf
    have kz:=fun u hu=>(QbM wf u hu).2
    have hin:∀c,b c=true->c∈(Qd f).flatMap Qe:=fun c hb=>by rw[kf];exact Qad.mp (al.1 trivial) c (h32 c hb) hb
    have nd':((Qd f).flatMap Qe).Nodup:=by rw[kf];exact nd
    have cp:=QeT f wf wF
    by_cases ho:o = .iand
    ·rw[zb ho] at h'
     obtain⟨r1,r2,r3,r4,r5,r6⟩:=QgL h32 hc kz A (QbJ.mp q') hin nd' w2 h'
     rw[cf,zb ho,cp]
     refine⟨r2,by rw[kf] at r3;exact r3,r4,r5,fun e=>Or.inr ⟨q',Or.inl (r6 e)⟩,fun _=>r1,fun h=>absurd h id⟩
    ·rw[za ho] at h'
     obtain⟨r1,r2,r3,r4,r5,r6⟩:=QfO h32 hc kz A (QbJ.mp q') hin nd' h'
     rw[cf,za ho,cp]
     have hoi:o = .ior:=by
      rcases wo with e | e
      ·exact absurd e ho
      ·exact e
     refine⟨r2,by rw[kf] at r3;exact r3,r4,r5,fun e=>Or.inr ⟨q',Or.inr ⟨hoi,r6 e⟩⟩,fun _=>r1,fun h=>absurd h id⟩)
 (fun t f w iht ihf nd al T h=>by
  have eR:QP b (.add t f)=if Qq b t=true then (QP b t).bind fun t'=>some (.add t' (Qc f)) else (QP b f).bind fun f'=>some (.add (Qc t) f'):=rfl
  obtain⟨w1,w2,w3,w4⟩:=w
  have nd0:(Qe t++Qe f).Nodup:=nd
  obtain⟨nd1,nd2,-⟩:=zl.mp nd0
  have ct:Qr (.add t f)=Qr t*Qr f:=rfl
  rw[eR] at h
  obtain⟨st1,st2,st3,-,-⟩:=Qbf t w3
  obtain⟨sf1,sf2,-,sf4,-⟩:=Qbf f w4
  by_cases q:Qq b t=true
  ·rw[zb q] at h
   cases ht:QP b t with
   |none=>rw[ht] at h;exact absurd h (by simp)
   |some t'=>
    rw[ht] at h
    have e:T = .add t' (Qc f):=(Option.some.inj h).symm
    subst e
    obtain⟨i1,i2,i3,i4,i5,i6,-⟩:=iht nd1 ⟨fun _=>q,fun h=>absurd w1 (QaK h)⟩ t' ht
    have a':Qq b t'=true:=by rw[QeL i2];exact q
    have cT:Qr (.add t' (Qc f))=Qr t'*Qr f:=by show Qr t'*Qr (Qc f)=_;rw[(Qb5 f w4).1]
    refine⟨⟨i6 w1,(sf4 w2).1,i1,sf2⟩,?_,Or.inl ⟨a',i3⟩,by rw[cT,ct];exact zU _ i4,fun e=>Or.inl ⟨q,i5 ?_⟩,fun h=>absurd h id,fun _=>⟨trivial,?_,?_⟩⟩
    ·show (Qe t'++Qe (Qc f)).Perm (Qe t++Qe f);rw[sf1];exact List.Perm.append i2 (List.Perm.refl _)
    ·rw[cT,ct] at e;exact Nat.eq_of_mul_eq_mul_right (QdH f w4) e
    ·show (Qq b t'||_)=true;rw[a'];rfl
    ·show (Qd (Qc f)).length+1=(Qd f).length+1;rw[(sf4 w2).2,zi]
  ·have q':Qq b t=false:=by rw[zH] at q;exact q
   rw[za q] at h
   have an:(Qd f).any (Qq b)=true:=by
    have:(Qq b t||(Qd f).any (Qq b))=true:=al.2 trivial
    rw[q',zak] at this;exact this
   cases hf:QP b f with
   |none=>rw[hf] at h;exact absurd h (by simp)
   |some f'=>
    rw[hf] at h
    have e:T = .add (Qc t) f':=(Option.some.inj h).symm
    subst e
    obtain⟨i1,i2,i3,i4,i5,-,i7⟩:=ihf nd2 ⟨fun h=>absurd h (QaK w2),fun _=>an⟩ f' hf
    obtain⟨j1,j2,j3⟩:=i7 w2
    have cT:Qr (.add (Qc t) f')=Qr t*Qr f':=by show Qr (Qc t)*Qr f'=_;rw[(Qb5 t w3).1]
    have a':Qq b (Qc t)=false:=by rw[Qd2 b t w3];exact q'
    refine⟨⟨st3 w1,j1,st2,i1⟩,?_,Or.inr ⟨a',i3⟩,by rw[cT,ct];exact zY _ i4,fun e=>Or.inr ⟨q',i5 ?_⟩,fun h=>absurd h id,fun _=>⟨trivial,?_,?_⟩⟩
    ·show (Qe (Qc t)++Qe f').Perm (Qe t++Qe f);rw[st1];exact List.Perm.append (List.Perm.refl _) i2
    ·rw[cT,ct] at e;exact Nat.eq_of_mul_eq_mul_left (QdH t w3) e
    ·show (Qq b (Qc t)||(Qd f').any (Qq b))=true;rw[j2,Bool.or_true]
    ·show (Qd f').length+1=(Qd f).length+1;rw[j3])
 (fun nd al T h=>absurd (al.2 trivial) (by simp[Qd]))
theorem Qb4:∀t,Qy t->Qe (QB t)=Qe t/\Qy (QB t)/\Qr (QB t)=Qr t/\(Qo t->Qo (QB t))/\(QJ t->QJ (QB t)/\Qd (QB t)=(Qd t).map QB):=QaR
 (fun c h=>⟨rfl,h,rfl,fun _=>trivial,fun h=>absurd h id⟩)
 (fun o x f w ih=>by
  obtain⟨i1,i2,i3,i4,i5⟩:=ih
  obtain⟨j1,j2⟩:=i5 w.2.2.1
  refine⟨i1,⟨?_,by rw[j2,zi];exact w.2.1,j1,i2⟩,?_,fun _=>trivial,fun h=>absurd h id⟩
  ·split
   ·exact Or.inl rfl
   ·exact w.1
  ·show Qr (QB f)*(if (if (Qd f).length=2 then Jvm.Binary.iand else o) = .iand then Qs (Qd (QB f)).length else 2)=Qr f*(if o = .iand then Qs (Qd f).length else 2)
   rw[i3,j2,zi]
   by_cases q:(Qd f).length=2
   ·rw[zb q,zb rfl,q]
    by_cases ho:o = .iand
    ·rw[zb ho]
    ·rw[za ho];rfl
   ·rw[za q])
 (fun t f w iht ihf=>by
  obtain⟨i1,i2,i3,i4,i5⟩:=iht
  obtain⟨j1,j2,j3,j4,j5⟩:=ihf
  refine⟨?_,⟨i4 w.1,(j5 w.2.1).1,i2,j2⟩,?_,fun h=>absurd h id,fun _=>⟨trivial,?_⟩⟩
  ·show Qe (QB t)++Qe (QB f)=_;rw[i1,j1];rfl
  ·show Qr (QB t)*Qr (QB f)=_;rw[i3,j3];rfl
  ·show QB t::Qd (QB f)=_;rw[(j5 w.2.1).2];rfl)
 ⟨rfl,trivial,rfl,fun h=>absurd h id,fun _=>⟨trivial,rfl⟩⟩
theorem QeQ(b:Nat->Bool)(t:Qf)(w:Qy t):Qq b (QB t)=Qq b t:=by unfold Qq;rw[(Qb4 t w).1]
theorem Qfk(b:Nat->Bool)(t:Qf)(w:Qy t):Qi b (QB t)=Qi b t:=by unfold Qi;rw[(Qb4 t w).1]
theorem Qex{b:Nat->Bool}{g:Qf->Qf}:∀ {l:List Qf},(∀u∈l,Qq b (g u)=Qq b u)->(l.map g).any (Qq b)=l.any (Qq b)
 |[],_=>rfl
 |u::l,h=>by rw[zO,List.any_cons,List.any_cons,h u (by simp),Qex fun v hv=>h v (by simp[hv])]
theorem Qdz{g:Qf->Qf}:∀ {l:List Qf},(∀u∈l,Qe (g u)=Qe u)->(l.map g).flatMap Qe=l.flatMap Qe
 |[],_=>rfl
 |u::l,h=>by rw[zO,zf,zf,h u (by simp),Qdz fun v hv=>h v (by simp[hv])]
theorem QeK{b:Nat->Bool}{g:Qf->Qf}{K:List Qf}(h:∀u∈K,Qi b (g u)=Qi b u)(r:QbC b K):QbC b (K.map g):=by
 obtain⟨Z0,Z1,Z2,e,m0,m1,m2⟩:=r
 have go:∀(Z:List Qf) (v:Int32),(∀u∈Z,u∈K)->(∀u∈Z,Qi b u=v)->∀u∈Z.map g,Qi b u=v:=fun Z v hZ m u hu=>by
  obtain⟨w,hw,ew⟩:=z8.mp hu
  rw[<-ew,h w (hZ w hw)];exact m w hw
 refine⟨Z0.map g,Z1.map g,Z2.map g,by rw[e,zr,zr],go Z0 0 (fun u hu=>by rw[e];simp[hu]) m0,go Z1 1 (fun u hu=>by rw[e];simp[hu]) m1,go Z2 0 (fun u hu=>by rw[e];simp[hu]) m2⟩
theorem QgA{b:Nat->Bool}(h32:∀c,b c=true->c<32)(hc:∃c,b c=true):∀t,Qy t->((Qo t->Qq b t=true)/\(QJ t->(Qd t).any (Qq b)=true))->Q1 b t->Q1 b (QB t):=QaR
 (fun c _ _ _=>trivial)
 (fun o x f w ih al h=>by
  obtain⟨wo,w2,wF,wf⟩:=w
  have kz:=fun u hu=>(QbM wf u hu).2
  obtain⟨-,-,-,-,n5⟩:=Qb4 f wf
  obtain⟨n6,n7⟩:=n5 wF
  have an:(Qd (QB f)).any (Qq b)=(Qd f).any (Qq b):=by rw[n7];exact Qex fun u hu=>QeQ b u (kz u hu)
  have lvn:(Qd (QB f)).flatMap Qe=(Qd f).flatMap Qe:=by rw[n7];exact Qdz fun u hu=>(Qb4 u (kz u hu)).1
  rcases h with⟨q,h⟩ | ⟨q,h⟩
  ·exact Or.inl ⟨by rw[an];exact q,ih ⟨fun h=>absurd h (QaK wF),fun _=>q⟩ h⟩
  ·refine Or.inr ⟨by rw[an];exact q,?_⟩
   rcases h with h | ⟨ho,h⟩
   ·exact Or.inl (by rw[lvn];exact h)
   ·by_cases k2:(Qd f).length=2
    ·refine Or.inl ?_
     rw[lvn]
     have kf:=QbQ Qe (fun _ _=>rfl) rfl f wf wF
     have hin:∀c,b c=true->c∈(Qd f).flatMap Qe:=fun c hb=>by rw[kf];exact Qad.mp (al.1 trivial) c (h32 c hb) hb
     obtain⟨Z0,u,M,v,Z2,e,-,nu,nv,-,-,-⟩:=QcV (QbJ.mp q) hc hin
     obtain⟨Y0,Y1,Y2,e',m0,m1,m2⟩:=h
     have no2:∀w∈Qd f,Qi b w≠0->Qi b w=1:=fun w hw hn=>by
      rw[e',zc,zc] at hw
      rcases hw with (q | q) | q
      ·exact absurd (m0 w q) hn
      ·exact m1 w q
      ·exact absurd (m2 w q) hn
     have eZ:Z0=[]/\M=[]/\Z2=[]:=by
      have:=congrArg List.length e
      rw[k2,zd,zq,zd,zq] at this
      exact⟨Q4.mp (by omega),Q4.mp (by omega),Q4.mp (by omega)⟩
     refine Qar.mpr fun w hw=>Qa8 (no2 w hw ?_)
     rw[e,eZ.1,eZ.2.1,eZ.2.2] at hw
     have hw':w=u\/w=v:=by simpa using hw
     rcases hw' with q | q
     ·rw[q];exact nu
     ·rw[q];exact nv
    ·exact Or.inr ⟨by show (if (Qd f).length=2 then _ else o)=_;rw[za k2];exact ho,by rw[n7];exact QeK (fun u hu=>Qfk b u (kz u hu)) h⟩)
 (fun t f w iht ihf al h=>by
  obtain⟨w1,w2,w3,w4⟩:=w
  have at':=QeQ b t w3
  rcases h with⟨q,h⟩ | ⟨q,h⟩
  ·exact Or.inl ⟨by rw[at'];exact q,iht ⟨fun _=>q,fun h=>absurd w1 (QaK h)⟩ h⟩
  ·have an:(Qd f).any (Qq b)=true:=by
    have:(Qq b t||(Qd f).any (Qq b))=true:=al.2 trivial
    rw[q,zak] at this;exact this
   exact Or.inr ⟨by rw[at'];exact q,ihf ⟨fun h=>absurd h (QaK w2),fun _=>an⟩ h⟩)
 (fun _ _=>trivial)
theorem Qfx(b:Nat->Bool):∀t,Qy t->(Qo t->Qi b t≠2->QM b t=some (Qc t))/\(QJ t->(∀u∈Qd t,Qi b u≠2)->QM b t=some (Qc t)):=QaR
 (fun c _=>⟨fun _ _=>rfl,fun h=>absurd h id⟩)
 (fun o x f w ih=>⟨fun _ h=>by
  obtain⟨wo,w2,wF,wf⟩:=w
  have kf:=QbQ Qe (fun _ _=>rfl) rfl f wf wF
  have eI:QM b (.op2 o (.arg x) f)=if Qi b (.op2 o (.arg x) f)=0 then some (.op2 o (.arg 0) (Qc f)) else (QM b f).bind fun f'=>if o = .iand then QaQ b (Qd f') else QaS b (Qd f'):=rfl
  rw[eI]
  by_cases q0:Qi b (.op2 o (.arg x) f)=0
  ·rw[zb q0];rfl
  ·have q1:Qi b (.op2 o (.arg x) f)=1:=by
    rcases QaN b (.op2 o (.arg x) f) with q | q | q
    ·exact absurd q q0
    ·exact q
    ·exact absurd q h
   have all1:∀u∈Qd f,Qi b u=1:=fun u hu=>by
    have ha:(Qe f).all b=true:=Qa8 q1
    rw[<-kf] at ha
    unfold Qi
    rw[zb (Qar.mp ha u hu)]
   rw[za q0,ih.2 wF fun u hu=>by rw[all1 u hu];decide]
   obtain⟨-,-,-,s4,-⟩:=Qbf f wf
   obtain⟨s5,s6⟩:=s4 wF
   have all1':∀u∈Qd (Qc f),Qi b u=1:=fun u hu=>by
    rw[s6] at hu
    obtain⟨w,hw,ew⟩:=z8.mp hu
    rw[<-ew,QdM b w (QbM wf w hw).2];exact all1 w hw
   have z0:Qb b 0 (Qd (Qc f))=[]:=QaP.mpr fun u hu=>by rw[all1' u hu];decide
   have z2:Qb b 2 (Qd (Qc f))=[]:=QaP.mpr fun u hu=>by rw[all1' u hu];decide
   have kk:Qk (Qd (Qc f))=Qc f:=Qcs _ (Qbf f wf).2.1 s5
   show (if o = .iand then QaQ b (Qd (Qc f)) else QaS b (Qd (Qc f)))=_
   by_cases ho:o = .iand
   ·rw[zb ho];unfold QaQ
    rw[z0,z2,za (by simp),zb ⟨rfl,Or.inl rfl⟩,kk,ho];rfl
   ·have hoi:o = .ior:=by
     rcases wo with e | e
     ·exact absurd e ho
     ·exact e
    rw[za ho];unfold QaS
    rw[z0,z2,za (by simp),zb ⟨rfl,Or.inl rfl⟩,kk,hoi];rfl,fun h=>absurd h id⟩)
 (fun t f w iht ihf=>⟨fun h=>absurd h id,fun _ h=>by
  show (QM b t).bind (fun t'=>(QM b f).bind fun f'=>some (Jvm.Term.add t' f'))=_
  rw[iht.1 w.1 (h t (by simp[Qd])),ihf.2 w.2.1 fun u hu=>h u (by simp[Qd,hu])];rfl⟩)
 ⟨fun h=>absurd h id,fun _ _=>rfl⟩
theorem Qfh{b:Nat->Bool}(h32:∀c,b c=true->c<32)(hc:∃c,b c=true):∀t,Qy t->((Qo t->Qq b t=true)/\(QJ t->(Qd t).any (Qq b)=true))->Q1 b t->QP b t=some (Qc t):=QaR
 (fun c _ _ _=>rfl)
 (fun o x f w ih al h=>by
  obtain⟨wo,w2,wF,wf⟩:=w
  have eR:QP b (.op2 o (.arg x) f)=if (Qd f).any (Qq b)=true then (QP b f).bind fun f'=>some (.op2 o (.arg 0) f') else (QM b f).bind fun f'=>if o = .iand then QaI b (Qd f') else QaL b (Qd f'):=rfl
  rw[eR]
  rcases h with⟨q,h⟩ | ⟨q,h⟩
  ·rw[zb q,ih ⟨fun h=>absurd h (QaK wF),fun _=>q⟩ h];rfl
  ·rw[za (by rw[q];decide)]
   have kz:=fun u hu=>(QbM wf u hu).2
   obtain⟨-,sz,-,s4,-⟩:=Qbf f wf
   obtain⟨s5,s6⟩:=s4 wF
   have kk:Qk (Qd (Qc f))=Qc f:=Qcs _ sz s5
   have lbs:∀u∈Qd f,Qi b (Qc u)=Qi b u:=fun u hu=>QdM b u (kz u hu)
   have r3:QbC b (Qd f):=by
    rcases h with h | ⟨-,h⟩
    ·exact⟨[],Qd f,[],by simp,fun u hu=>absurd hu (by simp),fun u hu=>by unfold Qi;rw[zb (Qar.mp h u hu)],fun u hu=>absurd hu (by simp)⟩
    ·exact h
   have no2:∀u∈Qd f,Qi b u≠2:=fun u hu=>by
    obtain⟨Z0,Z1,Z2,e,m0,m1,m2⟩:=r3
    rw[e,zc,zc] at hu
    rcases hu with (q | q) | q
    ·rw[m0 u q];decide
    ·rw[m1 u q];decide
    ·rw[m2 u q];decide
   have no2':∀u∈Qd (Qc f),Qi b u≠2:=fun u hu=>by
    rw[s6] at hu
    obtain⟨w,hw,ew⟩:=z8.mp hu
    rw[<-ew,lbs w hw];exact no2 w hw
   rw[(Qfx b f wf).2 wF no2]
   show (if o = .iand then QaI b (Qd (Qc f)) else QaL b (Qd (Qc f)))=_
   have z2:Qb b 2 (Qd (Qc f))=[]:=QaP.mpr no2'
   by_cases ho:o = .iand
   ·rw[zb ho]
    rcases h with h | ⟨hoi,-⟩
    ·have z0:Qb b 0 (Qd (Qc f))=[]:=QaP.mpr fun u hu=>by
      rw[s6] at hu
      obtain⟨w,hw,ew⟩:=z8.mp hu
      rw[<-ew,lbs w hw]
      unfold Qi;rw[zb (Qar.mp h w hw)];decide
     unfold QaI
     rw[z2,z0]
     show (if ([]:List Qf).length=0\/(Qb b 1 (Qd (Qc f))).length<2 then some (Jvm.Term.op2 .iand (.arg 0) (Qk (Qd (Qc f)))) else some (Jvm.Term.op2 .iand (.arg 0) (Qk ([]++QI (Qb b 1 (Qd (Qc f)))))))=_
     rw[zb (show ([]:List Qf).length=0\/(Qb b 1 (Qd (Qc f))).length<2 from Or.inl rfl),kk,ho];rfl
    ·rw[hoi] at ho;exact absurd ho (by decide)
   ·have hoi:o = .ior:=by
     rcases wo with e | e
     ·exact absurd e ho
     ·exact e
    rw[za ho]
    unfold QaL
    have md:QbW b (QaC b (Qd (Qc f))) (QaV b (Qd (Qc f))) (Qd (Qc f))=true:=by
     have kf:=QbQ Qe (fun _ _=>rfl) rfl (Qc f) sz s5
     have hin:∀c,b c=true->c∈(Qd (Qc f)).flatMap Qe:=fun c hb=>by
      rw[kf,(Qbf f wf).1];exact Qad.mp (al.1 trivial) c (h32 c hb) hb
     have na:∀u∈Qd (Qc f),Qq b u=false:=fun u hu=>by
      rw[s6] at hu
      obtain⟨w,hw,ew⟩:=z8.mp hu
      rw[<-ew,Qd2 b w (kz w hw)];exact QbJ.mp q w hw
     have r3':QbC b (Qd (Qc f)):=by rw[s6];exact QeK lbs r3
     rw[QbB]
     obtain⟨Y0,Y1,Y2,e',m0,m1,m2⟩:=r3'
     obtain⟨Z0,u,M,v,Z2,e,z0,nu,nv,z2',ef,ela⟩:=QcV na hc hin
     rw[ef,ela]
     intro k h1 h2 h3
     refine Classical.byContradiction fun hk=>?_
     have gk:Qi b ((Qd (Qc f)).getD k .null)=0:=by
      have hm:=Q9 h3
      rcases QaN b ((Qd (Qc f)).getD k .null) with q | q | q
      ·exact q
      ·exact absurd q hk
      ·exact absurd q (no2' _ hm)
     have idx:∀i,i<(Qd (Qc f)).length->(Qi b ((Qd (Qc f)).getD i .null)≠0↔Y0.length<=i/\i<Y0.length+Y1.length):=fun i hi=>by
      rw[e',zd,zd] at hi
      rw[e',ze]
      by_cases c1:i<Y0.length
      ·rw[List.getElem?_append_left (by rw[zd];omega),List.getElem?_append_left c1,List.getElem?_eq_getElem c1]
       exact⟨fun h=>absurd (m0 _ (zs c1)) h,fun h=>by omega⟩
      ·by_cases c2:i<Y0.length+Y1.length
       ·rw[List.getElem?_append_left (by rw[zd];omega),List.getElem?_append_right (by omega),List.getElem?_eq_getElem (by omega)]
        refine⟨fun _=>⟨by omega,c2⟩,fun _=>?_⟩
        rw[show (some (Y1[i-Y0.length]'(by omega))).getD Jvm.Term.null=Y1[i-Y0.length]'(by omega) from rfl,m1 _ (zs _)];decide
       ·rw[List.getElem?_append_right (by rw[zd];omega),List.getElem?_eq_getElem (by rw[zd];omega)]
        exact⟨fun h=>absurd (m2 _ (zs _)) h,fun h=>by omega⟩
     have le:=congrArg List.length e
     rw[zd,zq,zd,zq] at le
     have iu:=(idx Z0.length (by omega)).mp (by rw[e,ze,List.getElem?_append_right (zn _),Nat.sub_self];exact nu)
     have iv:=(idx (Z0.length+1+M.length) (by omega)).mp (by
      rw[e,ze,List.getElem?_append_right (by omega),show Z0.length+1+M.length-Z0.length=M.length+1 from by omega,List.getElem?_cons_succ,List.getElem?_append_right (zn _),Nat.sub_self];exact nv)
     exact ((idx k h3).mpr ⟨by omega,by omega⟩) gk
    rw[zb md,Qcm 0 no2',kk,hoi];rfl)
 (fun t f w iht ihf al h=>by
  obtain⟨w1,w2,w3,w4⟩:=w
  show (if Qq b t=true then (QP b t).bind (fun t'=>some (Jvm.Term.add t' (Qc f))) else (QP b f).bind fun f'=>some (Jvm.Term.add (Qc t) f'))=_
  rcases h with⟨q,h⟩ | ⟨q,h⟩
  ·rw[zb q,iht ⟨fun _=>q,fun h=>absurd w1 (QaK h)⟩ h];rfl
  ·have an:(Qd f).any (Qq b)=true:=by
    have:(Qq b t||(Qd f).any (Qq b))=true:=al.2 trivial
    rw[q,zak] at this;exact this
   rw[za (by rw[q];decide),ihf ⟨fun h=>absurd h (QaK w2),fun _=>an⟩ h];rfl)
 (fun _ _=>rfl)
def Qb1(b:Nat->Bool)(l:List Nat):Prop:=∃l1 l2 l3,l=l1++l2++l3/\(∀c∈l1,b c=false)/\(∀c∈l2,b c=true)/\∀c∈l3,b c=false
theorem QfQ(b:Nat->Bool):∀t,Qp t->Q1 b (Qc t)->Q1 b t:=QR
 (fun c _ _=>trivial)
 (fun o x f w ih h=>by
  have w7:=w.2.2.2.2
  have w6:=w.2.2.2.1
  have an:=QeB b f w7 w6
  have sk:=Qby f w7 w6
  rcases h with⟨q,h⟩ | ⟨q,h⟩
  ·exact Or.inl ⟨by rw[<-an];exact q,ih h⟩
  ·refine Or.inr ⟨by rw[<-an];exact q,?_⟩
   rcases h with h | ⟨ho,h⟩
   ·refine Or.inl ?_
    rw[sk,Qdz fun u hu=>Qde u (Qam w7 u hu).2] at h
    exact h
   ·exact Or.inr ⟨ho,QeI (fun u hu=>Qda u (Qam w7 u hu).2) (by rw[<-sk];exact h)⟩)
 (fun t f w iht ihf h=>by
  have as:=QdI b t w.2.2.1
  rcases h with⟨q,h⟩ | ⟨q,h⟩
  ·exact Or.inl ⟨by rw[<-as];exact q,iht h⟩
  ·exact Or.inr ⟨by rw[<-as];exact q,ihf h⟩)
 (fun _=>trivial)
theorem QgH{o:Jvm.Binary}{x:Nat}{f:Qf}(w:Qp (.op2 o (.arg x) f)):∃Kp,Kp.Perm (Qd f)/\Qz (.op2 o (.arg x) f)=Kp.flatMap Qz/\(o ≠ .iand->Kp=Qd f\/Kp=(Qd f).reverse):=by
 obtain⟨w1,w3,⟨w4,w5⟩,w6,w7⟩:=w
 have kF:=QbG f w7 w6
 have kL:=QbH f w7 w6
 have hll:Qz (.op2 o (.arg x) f)=if o = .iand then (QY (QF f) (QF f).length (QF f).length 0).reverse.flatMap (fun i=>(QX f).getD i []) else if (QF f).getD 0 0<(QF f).getD ((QF f).length-1) 0 then (QX f).flatMap id else (QX f).reverse.flatMap id:=rfl
 rw[kF,kL,zi] at hll
 generalize Qd f=K at *
 have idm:∀l:List Qf,(l.map Qz).flatMap id=l.flatMap Qz:=fun l=>by rw[zat];rfl
 by_cases ho:o = .iand
 ·rw[zb ho] at hll
  have pm:=QcX (K.map QC) K.length
  refine⟨((QY (K.map QC) K.length K.length 0).reverse).map (fun i=>K.getD i .null),?_,?_,fun h=>absurd ho h⟩
  ·refine List.Perm.trans (List.Perm.map _ ((zv _).trans pm)) ?_
   rw[Qe7]
  ·rw[hll,zat]
   have mem:∀i∈(QY (K.map QC) K.length K.length 0).reverse,i<K.length:=fun i hi=>zx.mp (pm.mem_iff.mp (zy.mp hi))
   generalize (QY (K.map QC) K.length K.length 0).reverse=L at mem
   induction L with
   |nil=>rfl
   |cons i L ih=>rw[zf,zf,Qdj (mem i (by simp)),ih fun j hj=>mem j (by simp[hj])]
 ·rw[za ho] at hll
  by_cases q:(K.map QC).getD 0 0<(K.map QC).getD (K.length-1) 0
  ·rw[zb q,idm] at hll
   exact⟨K,List.Perm.refl _,hll,fun _=>Or.inl rfl⟩
  ·rw[za q,<-zae,idm] at hll
   exact⟨K.reverse,zv _,hll,fun _=>Or.inr rfl⟩
theorem Qeg{b:Nat->Bool}{u:Qf}(w:Qp u)(h:Qo u):(Qi b u=0->∀c∈Qz u,b c=false)/\(Qi b u=1->∀c∈Qz u,b c=true):=by
 have p:=Qbg w h
 refine⟨fun e c hc=>?_,fun e c hc=>zC.mp (Qa8 e) c (p.mem_iff.mp hc)⟩
 have:=zC.mp (QaX e) c (p.mem_iff.mp hc)
 rw[Bool.not_eq_true'] at this;exact this
theorem Qg2{b:Nat->Bool}(h32:∀c,b c=true->c<32):∀t,Qp t->(Qe t).Nodup->Q1 b t->(Qo t->Qq b t=true->Qb1 b (Qz t))/\(QJ t->(Qd t).any (Qq b)=true->∃u∈Qd t,Qq b u=true/\Qb1 b (Qz u)):=QR
 (fun c hc nd h=>⟨fun _ al=>by
  cases e:b c
  ·exact⟨[c],[],[],rfl,fun d hd=>by rw[zh] at hd;rw[hd];exact e,fun d hd=>absurd hd (by simp),fun d hd=>absurd hd (by simp)⟩
  ·exact⟨[],[c],[],rfl,fun d hd=>absurd hd (by simp),fun d hd=>by rw[zh] at hd;rw[hd];exact e,fun d hd=>absurd hd (by simp)⟩,fun h=>absurd h id⟩)
 (fun o x f w ih nd h=>⟨fun _ al=>by
  obtain⟨Kp,pK,eL,hQ⟩:=QgH w
  have w':=w
  obtain⟨w1,w3,⟨w4,w5⟩,w6,w7⟩:=w
  have kf:=Qa1 Qe (fun _ _=>rfl) rfl f w7 w6
  have hK:∀u∈Kp,Qo u/\Qp u:=fun u hu=>Qam w7 u (pK.mem_iff.mp hu)
  rcases h with⟨q,h⟩ | ⟨q,h⟩
  ·obtain⟨u,hu,au,c1,c2,c3,e,m1,m2,m3⟩:=(ih nd h).2 w6 q
   obtain⟨A,B,eK⟩:=List.append_of_mem (pK.mem_iff.mpr hu)
   have ndK:(Kp.flatMap Qe).Nodup:=(pK.flatMap_right Qe).nodup_iff.mpr (by rw[kf];exact nd)
   rw[eK,zj,zf] at ndK
   have no:∀w∈Kp,(∀c∈Qe w,c∉Qe u)->∀c∈Qz w,b c=false:=fun w hw d c hc=>by
    have hcw:=(Qbg (hK w hw).2 (hK w hw).1).mem_iff.mp hc
    cases e:b c
    ·rfl
    ·exact absurd (Qad.mp au c (h32 c e) e) (d c hcw)
   obtain⟨nA,nuB,dAB⟩:=zl.mp ndK
   obtain⟨-,nB,dB⟩:=zl.mp nuB
   have noA:∀c∈A.flatMap Qz,b c=false:=fun c hc=>by
    obtain⟨w,hw,hcw⟩:=zt.mp hc
    exact no w (by rw[eK];simp[hw]) (fun d hd hdu=>dAB d (zt.mpr ⟨w,hw,hd⟩) d (zc.mpr (Or.inl hdu)) rfl) c hcw
   have noB:∀c∈B.flatMap Qz,b c=false:=fun c hc=>by
    obtain⟨w,hw,hcw⟩:=zt.mp hc
    exact no w (by rw[eK];simp[hw]) (fun d hd hdu=>dB d hdu d (zt.mpr ⟨w,hw,hd⟩) rfl) c hcw
   refine⟨A.flatMap Qz++c1,c2,c3++B.flatMap Qz,?_,fun c hc=>?_,m2,fun c hc=>?_⟩
   ·rw[eL,eK,zj,zf,e];simp only[zG]
   ·rcases zc.mp hc with q | q
    ·exact noA c q
    ·exact m1 c q
   ·rcases zc.mp hc with q | q
    ·exact m3 c q
    ·exact noB c q
  ·rcases h with h | ⟨ho,h⟩
   ·refine⟨[],Qz (.op2 o (.arg x) f),[],by simp,fun c hc=>absurd hc (by simp),fun c hc=>?_,fun c hc=>absurd hc (by simp)⟩
    have:=(Qbg w' trivial).mem_iff.mp hc
    rw[kf] at h
    exact zC.mp h c this
   ·have fin:∀Z0 Z1 Z2:List Qf,Kp=Z0++Z1++Z2->(∀u∈Z0,Qi b u=0)->(∀u∈Z1,Qi b u=1)->(∀u∈Z2,Qi b u=0)->Qb1 b (Qz (.op2 o (.arg x) f)):=fun Z0 Z1 Z2 e m0 m1 m2=>by
     have go:∀(Z:List Qf),(∀u∈Z,u∈Kp)->((∀u∈Z,Qi b u=0)->∀c∈Z.flatMap Qz,b c=false)/\((∀u∈Z,Qi b u=1)->∀c∈Z.flatMap Qz,b c=true):=fun Z hZ=>
      ⟨fun m c hc=>by
       obtain⟨u,hu,hcu⟩:=zt.mp hc
       exact (Qeg (hK u (hZ u hu)).2 (hK u (hZ u hu)).1).1 (m u hu) c hcu,fun m c hc=>by
       obtain⟨u,hu,hcu⟩:=zt.mp hc
       exact (Qeg (hK u (hZ u hu)).2 (hK u (hZ u hu)).1).2 (m u hu) c hcu⟩
     refine⟨Z0.flatMap Qz,Z1.flatMap Qz,Z2.flatMap Qz,by rw[eL,e,zj,zj],(go Z0 fun u hu=>by rw[e];simp[hu]).1 m0,(go Z1 fun u hu=>by rw[e];simp[hu]).2 m1,(go Z2 fun u hu=>by rw[e];simp[hu]).1 m2⟩
    obtain⟨Z0,Z1,Z2,e,m0,m1,m2⟩:=h
    rcases hQ (by rw[ho];decide) with eq | eq
    ·exact fin Z0 Z1 Z2 (by rw[eq];exact e) m0 m1 m2
    ·exact fin Z2.reverse Z1.reverse Z0.reverse (by rw[eq,e,zab,zab,zG]) (fun u hu=>m2 u (zy.mp hu)) (fun u hu=>m1 u (zy.mp hu)) (fun u hu=>m0 u (zy.mp hu)),fun h=>absurd h id⟩)
 (fun t f w iht ihf nd h=>⟨fun h=>absurd h id,fun _ an=>by
  have nd0:(Qe t++Qe f).Nodup:=nd
  obtain⟨nd1,nd2,-⟩:=zl.mp nd0
  rcases h with⟨q,h⟩ | ⟨q,h⟩
  ·exact⟨t,by simp[Qd],q,(iht nd1 h).1 w.1 q⟩
  ·have an':(Qd f).any (Qq b)=true:=by
    have:(Qq b t||(Qd f).any (Qq b))=true:=an
    rw[q,zak] at this;exact this
   obtain⟨u,hu,h1,h2⟩:=(ihf nd2 h).2 w.2.1 an'
   exact⟨u,by simp[Qd,hu],h1,h2⟩⟩)
 (fun nd h=>⟨fun h=>absurd h id,fun _ an=>absurd an (by simp[Qd])⟩)
theorem Qdb:∀t,Qy t->(Qe t).length<=8->QH t=Int32.ofNat (Qr t):=QaR
 (fun c _ _=>rfl)
 (fun o x f w ih h=>by
  have hf:(Qe f).length<=8:=h
  have hk:(Qd f).length<=8:=by
   have kz:=QbM w.2.2.2
   have:(Qd f).length<=((Qd f).flatMap Qe).length:=by
    generalize Qd f=K at kz
    induction K with
    |nil=>exact zn _
    |cons u K ih2=>
     have:=ih2 fun v hv=>kz v (by simp[hv])
     have:=zZ.mpr (QbK u (kz u (by simp)).2 (kz u (by simp)).1)
     rw[zf,zd,zq];omega
   rw[QbQ Qe (fun _ _=>rfl) rfl f w.2.2.2 w.2.2.1] at this
   omega
  show QH f*(if o = .iand then QaA (Qd f).length 7 else 2)=Int32.ofNat (Qr f*(if o = .iand then Qs (Qd f).length else 2))
  rw[ih hf,<-Qbw]
  congr 1
  have fe:∀k:Fin 9,QaA k.val 7=Int32.ofNat (Qs k.val):=by decide
  split
  ·exact fe ⟨(Qd f).length,by omega⟩
  ·rfl)
 (fun t f _ iht ihf h=>by
  have h':(Qe t++Qe f).length<=8:=h
  rw[zd] at h'
  show QH t*QH f=Int32.ofNat (Qr t*Qr f);rw[iht (by omega),ihf (by omega),Qbw]) (fun _=>rfl)
theorem Qds{n:Nat}{t:Qf}{s:Int32}(w:Qp t)(ht:Qo t)(nd:(Qe t).Nodup)(h8:(Qe t).length<=8)(hin:∀c,Qj s c=true->c∈Qe t)(tv:QaJ n s=false):(QN n s (Qc t)=2->Q1 (Qj s) (Qc t))/\(QN n s (Qc t)=1->∃T,Qan s (Qc t)=some T/\Q1 (Qj s) T/\Qr T<Qr t)/\(Q1 (Qj s) (Qc t)->QN n s (Qc t)=2):=by
 have h32:∀c,Qj s c=true->c<32:=fun c hc=>Qb9 s hc
 have wz:=Qda t w
 obtain⟨s1,s2,s3,-,s5⟩:=Qbf t wz
 have hsT:=s3 ht
 have hc:∃c,Qj s c=true:=Classical.byContradiction fun hn=>by
  have e:(List.range 8).filter (Qj s)=[]:=List.filter_eq_nil_iff.mpr fun c _ hcc=>hn ⟨c,hcc⟩
  unfold QaJ at tv
  rw[e] at tv
  exact absurd tv (by simp)
 have al:Qq (Qj s) (Qc t)=true:=Qad.mpr fun c _ hb=>by rw[s1];exact hin c hb
 have nF:QJ (Qc t)->False:=fun h=>QaK h hsT
 have alh:(Qo (Qc t)->Qq (Qj s) (Qc t)=true)/\(QJ (Qc t)->(Qd (Qc t)).any (Qq (Qj s))=true):=⟨fun _=>al,fun h=>absurd h nF⟩
 have nds:(Qe (Qc t)).Nodup:=by rw[s1];exact nd
 have cs:=(Qb5 t wz).1
 have cnz:=Qdb _ s2 (by rw[s1];exact h8)
 have cb:=((Qd7 t w).2.1 ht)
 have c403:Qr t<=40320:=by
  have fe:∀k:Fin 9,Qs k.val<=40320:=by decide
  exact zB cb (fe ⟨(Qe t).length,by omega⟩)
 have vf:QN n s (Qc t)=match Qan s (Qc t) with | none=>3 | some t'=>if QH t'=QH (Qc t) then 2 else 1:=by unfold QN;exact za (by rw[tv];decide)
 have main:∀T0,QP (Qj s) (Qc t)=some T0->Q1 (Qj s) (QB T0)/\Qr (QB T0)<=Qr t/\(Qr (QB T0)=Qr t->Q1 (Qj s) (Qc t))/\QH (QB T0)=Int32.ofNat (Qr (QB T0)):=fun T0 h0=>by
  obtain⟨r1,r2,r3,r4,r5,r6,-⟩:=QgB h32 hc _ s2 nds alh T0 h0
  obtain⟨z1,z2,z3,z4,-⟩:=Qb4 T0 r1
  have aT:Qq (Qj s) T0=true:=by rw[QeL r2];exact al
  refine⟨QgA h32 hc T0 r1 ⟨fun _=>aT,fun h=>absurd (r6 hsT) (QaK h)⟩ r3,by rw[z3,<-cs];exact r4,fun e=>r5 (by rw[<-z3,e,cs]),Qdb _ z2 (by rw[z1,r2.length_eq,s1];exact h8)⟩
 refine⟨fun h=>?_,fun h=>?_,fun h=>?_⟩
 ·rw[vf] at h
  cases hR:QP (Qj s) (Qc t) with
  |none=>
   have e:Qan s (Qc t)=none:=by unfold Qan;rw[hR];rfl
   rw[e] at h;exact absurd (show (3:Int32)=2 from h) (by decide)
  |some T0=>
   have e:Qan s (Qc t)=some (QB T0):=by unfold Qan;rw[hR];rfl
   rw[e] at h
   have h':(if QH (QB T0)=QH (Qc t) then (2:Int32) else 1)=2:=h
   obtain⟨m1,m2,m3,m4⟩:=main T0 hR
   by_cases q:QH (QB T0)=QH (Qc t)
   ·rw[m4,cnz,cs] at q
    have q':=congrArg Int32.toInt q
    rw[Qak (by omega),Qak (by omega)] at q'
    exact m3 (by omega)
   ·rw[za q] at h';exact absurd h' (by decide)
 ·rw[vf] at h
  cases hR:QP (Qj s) (Qc t) with
  |none=>
   have e:Qan s (Qc t)=none:=by unfold Qan;rw[hR];rfl
   rw[e] at h;exact absurd (show (3:Int32)=1 from h) (by decide)
  |some T0=>
   have e:Qan s (Qc t)=some (QB T0):=by unfold Qan;rw[hR];rfl
   rw[e] at h
   have h':(if QH (QB T0)=QH (Qc t) then (2:Int32) else 1)=1:=h
   obtain⟨m1,m2,m3,m4⟩:=main T0 hR
   refine⟨QB T0,e,m1,Nat.lt_of_le_of_ne m2 fun q=>?_⟩
   rw[zb (by rw[m4,cnz,cs,q])] at h'
   exact absurd h' (by decide)
 ·have hR:=Qfh h32 hc _ s2 alh h
  rw[s5] at hR
  have e:Qan s (Qc t)=some (QB (Qc t)):=by unfold Qan;rw[hR];rfl
  rw[vf,e]
  obtain⟨z1,z2,z3,-,-⟩:=Qb4 _ s2
  show (if QH (QB (Qc t))=QH (Qc t) then (2:Int32) else 1)=2
  rw[zb]
  rw[Qdb _ z2 (by rw[z1,s1];exact h8),z3,cnz]
theorem QS{x y:Option (Jvm.OM.Res (W2 MS))}(h:x=y)(g:∃W,y=some (some (.int 1),W)):∃W,x=some (some (.int 1),W):=by rw[h];exact g
theorem Qcy(x:Int32){m:Nat}(hm:m<2147483648):∃k,k<=m/\x&&&Int32.ofNat m=Int32.ofNat k:=by
 refine⟨x.toBitVec.toNat&&&m,Nat.and_le_right,?_⟩
 rw[<-zas,Int32.toBitVec_and]
 apply BitVec.eq_of_toNat_eq
 rw[BitVec.toNat_and]
 have:x.toBitVec.toNat&&&m<=m:=Nat.and_le_right
 show x.toBitVec.toNat&&&(BitVec.ofNat 32 m).toNat=(BitVec.ofNat 32 (x.toBitVec.toNat&&&m)).toNat
 rw[BitVec.toNat_ofNat,BitVec.toNat_ofNat,Nat.mod_eq_of_lt (by omega),Nat.mod_eq_of_lt (by omega)]
theorem Qcu(s:Int32){c:Nat}(hc:c<32):((s>>>(Int32.ofNat c&&&31))&&&1=0)↔Qj s c=false:=by
 obtain⟨k,hk,e⟩:=Qcy (s>>>(Int32.ofNat c&&&31)) (m:=1) (by omega)
 have e':(s>>>(Int32.ofNat c&&&31))&&&1=Int32.ofNat k:=e
 have h:=Qa4 s hc
 rw[e'] at h ⊢
 by_cases q:k=0
 ·subst q
  refine⟨fun _=>?_,fun _=>rfl⟩
  cases eb:Qj s c
  ·rfl
  ·exact absurd (h.mpr eb) (by decide)
 ·have k1:k=1:=by omega
  subst k1
  refine⟨fun q=>absurd q (by decide),fun q=>?_⟩
  have:=h.mp rfl
  rw[q] at this;exact absurd this (by decide)
theorem Qeb{x:Int32}(h:∀c,Qj x c=true->c<6):∃k,k<=63/\x=Int32.ofNat k:=by
 have e:=Qec (n:=6) (by omega) h
 obtain⟨k,hk,ek⟩:=Qcy x (m:=63) (by omega)
 exact⟨k,hk,by rw[<-ek];exact e.symm⟩
theorem Qf6:∀k:Fin 24,QaU 6 (Int32.ofNat (1000+k.val))=false:=by decide
theorem QfD{n:Nat}{s:Int32}{l:List Nat}(hn:n<=8)(hl:∀c∈l,c<n)(nd:l.Nodup)(h:QaJ n s=true):Qb1 (Qj s) l:=by
 unfold QaJ at h
 rw[zai] at h
 rcases h with h | h
 ·have h1:=zaa h
  by_cases q:∃c∈l,Qj s c=true
  ·obtain⟨c,hc,hb⟩:=q
   obtain⟨A,B,e⟩:=List.append_of_mem hc
   have other:∀d∈l,d≠c->Qj s d=false:=fun d hd hne=>by
    cases eb:Qj s d
    ·rfl
    ·exfalso
     have sub:[c,d] ⊆ (List.range 8).filter (Qj s):=fun x hx=>by
      have hx':x=c\/x=d:=by simpa using hx
      rcases hx' with e | e
      ·rw[e];exact List.mem_filter.mpr ⟨zx.mpr (by have:=hl c hc;omega),hb⟩
      ·rw[e];exact List.mem_filter.mpr ⟨zx.mpr (by have:=hl d hd;omega),eb⟩
     have:=List.Nodup.length_le_of_subset (l₁:=[c,d]) (by simp[Ne.symm hne]) sub
     simp at this;omega
   rw[e] at nd
   obtain⟨nA,ncB,dAB⟩:=zl.mp nd
   have ncB':=List.nodup_cons.mp ncB
   refine⟨A,[c],B,by rw[e];simp,fun d hd=>other d (by rw[e];simp[hd]) (fun q=>dAB d hd c (by simp) q),fun d hd=>by rw[zh] at hd;rw[hd];exact hb,fun d hd=>other d (by rw[e];simp[hd]) (fun q=>ncB'.1 (q▸hd))⟩
  ·exact⟨l,[],[],by simp,fun c hc=>by
    cases eb:Qj s c
    ·rfl
    ·exact absurd ⟨c,hc,eb⟩ q,fun c hc=>absurd hc (by simp),fun c hc=>absurd hc (by simp)⟩
 ·have h1:=zaa h
  exact⟨[],l,[],by simp,fun c hc=>absurd hc (by simp),fun c hc=>by rw[h1,Qcj hn];exact zV (hl c hc),fun c hc=>absurd hc (by simp)⟩
def QbI(n:Nat)(t:Qf)(k:Nat):Int32:=if k<n then Int32.ofNat ((Qz t).getD k 0) else -1
def Qed(t:Qf)(last:Int32):Prop:=(∀c,Qj last c=true->c<6)/\(QaJ 6 last=true\/Q1 (Qj last) (Qc t))
def Qbr(S:MS)(last:Int32):Prop:=∃t,Qaj 6 t S/\(∀c,Qj (S 0 1) c=true->c<6)/\Qed t last
section Law
variable {f1:FT1}
theorem Qc4(hf1:Fx f1){S:MS}{n:Nat}{t:Qf}{x:Int32}(W:Qaj n t S):∃S',f1 (9,0,[.ref 0,.int x],[],S)=some (some (.int (QaF n x (Qc t))),S')/\Qaj n t S'/\QaW S S':=by
 rw[EaU hf1,Qe1 hf1 W.1.2.2.1];simp only[zz]
 rw[EcM hf1]
 unfold QaF
 by_cases q:QaU n x=true
 ·rw[za (by rw[q];decide),zb q]
  obtain⟨S1,e,k,h1,h2⟩:=Qd5 hf1 W (QdA W.1.1.2.2.2.2 q)
  rw[e];simp only[zz]
  rw[Eco hf1]
  by_cases qv:QN n x (Qc t)=1
  ·obtain⟨-,rv,rk⟩:=h1 qv
   rw[zb qv,QdG hf1 S1];simp only[zz]
   rw[E6 hf1]
   exact⟨Qat S1,rfl,⟨rv,QcS (QbN k rk) W.2⟩,QbN k rk⟩
  ·rw[za qv,E6 hf1]
   exact⟨S1,rfl,⟨h2 qv,QcS k W.2⟩,k⟩
 ·have q':QaU n x=false:=by rw[zH] at q;exact q
  rw[zb (by rw[q'];rfl),za q]
  exact⟨S,rfl,W,fun _ _ _=>rfl⟩
theorem Qc5(hf1:Fx f1){S:MS}{n:Nat}{t:Qf}(W:Qaj n t S){k:Nat}(hk:k<8):f1 (11,0,[.ref 0,.int (Int32.ofNat k)],[],S)=some (some (.int (QbI n t k)),S):=by
 have hn:=W.1.1.2.2.2.1
 have h8:=W.1.1.2.2.2.2
 have lp:=(Qbg W.1.1.1 W.1.1.2.1).length_eq
 rw[Ea0 hf1,za (Q0 (by omega)),W.1.2.2.1]
 unfold QbI
 by_cases q:k<n
 ·rw[zb ((Ql (by omega) (by omega)).mpr q),zb (Qt (by omega) hk),Qu (by omega),zb q,W.2.2.2.1 k (by omega)]
 ·rw[za (by rw[Ql (by omega) (by omega)];exact q),za q]
variable {f2:FT2} {xs:List Int32}
theorem Qgf(hf1:Fx f1)(hf2:Fix2 ms1 ms2 iv1 222 nmax1 (some xs) f1 f2){S:MS}{n:Nat}{t:Qf}(W:Qaj n t S){k:Nat}(hk:k<n):f1 (12,0,[.ref 0,.int (Int32.ofNat ((Qz t).getD k 0))],[],S)=some (some (.int (Int32.ofNat k)),S):=by
 have h8:=W.1.1.2.2.2.2
 have pr:(Qz t).Perm (List.range n):=(Qbg W.1.1.1 W.1.1.2.1).trans W.1.2.1
 have len:(Qz t).length=n:=by rw[pr.length_eq,zap]
 have v:(Qz t).getD k 0<n:=by
  rw[ze,List.getElem?_eq_getElem (by omega)]
  exact zx.mp (pr.mem_iff.mp (zs _))
 rw[Eap hf1,za (Q0 (by omega)),W.1.2.2.1,zb ((Ql (by omega) (by omega)).mpr v),zb (Qt (by omega) (by omega)),Qu (by omega),W.2.2.2.2 k (by omega)]
theorem QfL(hf1:Fx f1)(hf2:Fix2 ms1 ms2 iv1 222 nmax1 (some xs) f1 f2){S:MS}{t:Qf}(W:Qaj 6 t S):f2 (1,0,[.ref 1],[],(false,[S]))=some (some (.int 1),(false,[S])):=by
 have pr:(Qz t).Perm (List.range 6):=(Qbg W.1.1.1 W.1.1.2.1).trans W.1.2.1
 have len:(Qz t).length=6:=by rw[pr.length_eq,zap]
 have gm:∀i,i<6->(Qz t).getD i 0<6:=fun i hi=>by
  rw[ze,List.getElem?_eq_getElem (by omega)]
  exact zx.mp (pr.mem_iff.mp (zs _))
 have lo:∀i,i<6->QbI 6 t i=Int32.ofNat ((Qz t).getD i 0):=fun i hi=>by unfold QbI;rw[zb hi]
 refine Eq.trans (Ecq hf2 [S] 0) ?_
 have key:=Qau (fun k=>f2 (1,4,[.ref 1,.int (((Qz t).take k).foldl (fun a c=>a|||(1<<<(Int32.ofNat c&&&31))) 0),.int (Int32.ofNat k)],[],(false,[S]))) (n:=6) fun k hk=>by
  show f2 _=f2 _
  have v:=gm k hk
  refine Eq.trans (Eam hf2 _ _ [S] 0 S rfl) ?_
  rw[zb (show Int32.ofNat k<6 from (Ql (b:=6) (by omega) (by omega)).mpr hk),Qc5 hf1 W (by omega),lo k hk];simp only[zz]
  refine Eq.trans (Ecr hf2 _ _ _ [S] 0 S rfl) ?_
  rw[za (Q0 (by omega)),zb (show Int32.ofNat _<6 from (Ql (b:=6) (by omega) (by omega)).mpr v),Qgf hf1 hf2 W hk];simp only[zz]
  refine Eq.trans (EbR hf2 _ _ _ _ [S] 0) ?_
  rw[zb rfl,Qv,zah,List.getElem?_eq_getElem (show k<(Qz t).length by omega),List.foldl_append]
  rw[show (Qz t).getD k 0=(Qz t)[k]'(by omega) from by rw[ze,List.getElem?_eq_getElem (by omega)];rfl]
  rfl
 refine Eq.trans key ?_
 show f2 _=_
 refine Eq.trans (Eam hf2 _ _ [S] 0 S rfl) ?_
 have or6:∀(l:List Nat) (acc:Int32) (c:Nat),(∀d∈l,d<32)->(Qj (l.foldl (fun a c=>a|||(1<<<(Int32.ofNat c&&&31))) acc) c=true↔Qj acc c=true\/c∈l):=fun l=>by
  induction l with
  |nil=>intro acc c _;simp
  |cons d l ih=>
   intro acc c h
   rw[List.foldl_cons,ih _ c fun e he=>h e (by simp[he]),Qct,show Qj ((1:Int32)<<<(Int32.ofNat d&&&31)) c=decide (c=d) from Qcc (h d (by simp)) c,zai,decide_eq_true_eq,zA,or_assoc]
 have e63:((Qz t).take 6).foldl (fun a c=>a|||(1<<<(Int32.ofNat c&&&31))) 0=63:=by
  rw[zax (by omega),show (63:Int32)=QaZ 6 from by decide]
  refine Qdh fun c=>?_
  rw[Qcj (by omega),Bool.eq_iff_iff,or6 _ _ _ fun d hd=>by have:=zx.mp (pr.mem_iff.mp hd);omega,(Qbb 0).mp rfl c,decide_eq_true_eq,pr.mem_iff,zx]
  simp
 rw[za (by decide),e63,zb rfl]
 have l6:=Qc5 hf1 W (k:=6) (by omega)
 have l6':f1 (11,0,[.ref 0,.int 6],[],S)=some (some (.int (-1)),S):=l6
 rw[l6'];simp only[zz]
 refine Eq.trans (EaX hf2 _ _ _ [S] 0 S rfl) ?_
 have p6:f1 (12,0,[.ref 0,.int 6],[],S)=some (some (.int (-1)),S):=by
  rw[Eap hf1,za (by decide),W.1.2.2.1,za (by decide)]
 rw[zb rfl,p6];simp only[zz]
 refine Eq.trans (Ebn hf2 _ _ _ [S] 0) ?_
 rw[zb rfl]
theorem QgG(hf1:Fx f1)(hf2:Fix2 ms1 ms2 iv1 222 nmax1 (some xs) f1 f2){S:MS}{t:Qf}{m:Int32}(W:Qaj 6 t S)(cs:Qb1 (Qj m) (Qz t)):f2 (2,0,[.ref 1,.int m],[],(false,[S]))=some (some (.int 1),(false,[S])):=by
 have pr:(Qz t).Perm (List.range 6):=(Qbg W.1.1.1 W.1.1.2.1).trans W.1.2.1
 have len:(Qz t).length=6:=by rw[pr.length_eq,zap]
 have gm:∀i,i<6->(Qz t).getD i 0<6:=fun i hi=>by
  rw[ze,List.getElem?_eq_getElem (by omega)]
  exact zx.mp (pr.mem_iff.mp (zs _))
 have lo:∀i,i<6->QbI 6 t i=Int32.ofNat ((Qz t).getD i 0):=fun i hi=>by unfold QbI;rw[zb hi]
 obtain⟨l1,l2,l3,e,m1,m2,m3⟩:=cs
 have le:=congrArg List.length e
 rw[len,zd,zd] at le
 have idx:∀i,i<6->(Qj m ((Qz t).getD i 0)=true↔l1.length<=i/\i<l1.length+l2.length):=fun i hi=>by
  rw[e,ze]
  by_cases c1:i<l1.length
  ·rw[List.getElem?_append_left (by rw[zd];omega),List.getElem?_append_left c1,List.getElem?_eq_getElem c1]
   have:=m1 _ (zs c1)
   refine⟨fun h=>?_,fun h=>by omega⟩
   have h':Qj m l1[i]=true:=h
   rw[this] at h';exact absurd h' (by decide)
  ·by_cases c2:i<l1.length+l2.length
   ·rw[List.getElem?_append_left (by rw[zd];omega),List.getElem?_append_right (by omega),List.getElem?_eq_getElem (by omega)]
    exact⟨fun _=>⟨by omega,c2⟩,fun _=>m2 _ (zs _)⟩
   ·rw[List.getElem?_append_right (by rw[zd];omega),List.getElem?_eq_getElem (by rw[zd];omega)]
    have:=m3 (l3[i-(l1++l2).length]'(by rw[zd];omega)) (zs _)
    refine⟨fun h=>?_,fun h=>by omega⟩
    have h':Qj m (l3[i-(l1++l2).length]'(by rw[zd];omega))=true:=h
    rw[this] at h';exact absurd h' (by decide)
 generalize l1.length=p at *
 generalize l2.length=q at *
 refine Eq.trans (Ebp hf2 m [S] 0) ?_
 have key:=Qau (fun k=>f2 (2,10,[.ref 1,.int m,.int (if min (k-p) q=0 then -1 else Int32.ofNat p),.int (if min (k-p) q=0 then -1 else Int32.ofNat (p+min (k-p) q-1)),.int (Int32.ofNat (min (k-p) q)),.int (Int32.ofNat k)],[],(false,[S]))) (n:=6) fun k hk=>by
  show f2 _=f2 _
  have v:=gm k hk
  refine Eq.trans (ES hf2 m _ _ _ _ [S] 0 S rfl) ?_
  rw[zb (show Int32.ofNat k<6 from (Ql (b:=6) (by omega) (by omega)).mpr hk),Qc5 hf1 W (by omega),lo k hk];simp only[zz]
  refine Eq.trans (EcY hf2 m _ _ _ _ _ [S] 0) ?_
  by_cases b:Qj m ((Qz t).getD k 0)=true
  ·have ix:=(idx k hk).mp b
   rw[zb ((Qa4 m (by omega)).mpr b),Qv,Qv,za (show ¬min (k+1-p) q=0 by omega),za (show ¬min (k+1-p) q=0 by omega),show min (k+1-p) q=min (k-p) q+1 from by omega,show p+(min (k-p) q+1)-1=k from by omega]
   by_cases z:min (k-p) q=0
   ·rw[zb z,zb (by decide),show p=k from by omega]
   ·rw[za z,za (Q0 (by omega))]
  ·have ix:¬(p<=k/\k<p+q):=fun h=>b ((idx k hk).mpr h)
   rw[za (fun h=>b ((Qa4 m (by omega)).mp h)),Qv,show min (k+1-p) q=min (k-p) q from by omega]
 have z0:min (0-p) q=0:=by omega
 have key':f2 (2,10,[.ref 1,.int m,.int (-1),.int (-1),.int 0,.int 0],[],(false,[S]))=f2 (2,10,[.ref 1,.int m,.int (if min (6-p) q=0 then -1 else Int32.ofNat p),.int (if min (6-p) q=0 then -1 else Int32.ofNat (p+min (6-p) q-1)),.int (Int32.ofNat (min (6-p) q)),.int (Int32.ofNat 6)],[],(false,[S])):=by
  refine Eq.trans ?_ key
  show f2 _=f2 _
  rw[z0,zb rfl,zb rfl];rfl
 refine Eq.trans key' ?_
 refine Eq.trans (ES hf2 m _ _ _ _ [S] 0 S rfl) ?_
 rw[za (by decide)]
 by_cases z:min (6-p) q=0
 ·rw[z,zb (by decide)]
 ·rw[za (fun h=>z ((Qaa (by omega)).mp h)),za z,za z,Qbl (by omega),Qv,zb (by congr 1;omega)]
theorem QcE(hf1:Fx f1)(hf2:Fix2 ms1 ms2 iv1 222 nmax1 (some xs) f1 f2){S:MS}{last:Int32}(J:Qbr S last){j:Nat}(ih:∀S',Qbr S' last->S' 0 1=S 0 1->S' 0 2=S 0 2->S' 0 3=S 0 3->S' 0 11=S 0 11->∃W,f2 (0,28,[.ref 0,.ref 1,.int (S' 0 1),.int (S' 0 2),.int (S' 0 3),.int (S' 0 11),.int last,.int (Int32.ofNat (j+2))],[],(false,[S']))=some (some (.int 1),W))(x8 x9 x10 x11 x12:Int32):∃W,((f1 (1,0,[.ref 0],[],S)).bind fun q=>f2 (0,430,[.ref 0,.ref 1,.int (S 0 1),.int (S 0 2),.int (S 0 3),.int (S 0 11),.int last,.int (Int32.ofNat j),.int x8,.int x9,.int x10,.int x11,.int x12],q.1.toList++[],(false,[q.2])))=some (some (.int 1),W):=by
 obtain⟨t,W,hp,hl,hk⟩:=J
 have V:=W.1
 have G:=V.1
 have w:=G.1
 have ht:=G.2.1
 have ndl:(Qe t).Nodup:=V.2.1.nodup_iff.mpr List.nodup_range
 have inl:∀c,Qj last c=true->c∈Qe t:=fun c hc=>V.2.1.mem_iff.mpr (zx.mpr (hl c hc))
 have pl:=Qbg w ht
 have pr:(Qz t).Perm (List.range 6):=pl.trans V.2.1
 have len8:(Qe t).length<=8:=by rw[G.2.2.2.1];omega
 have al:Qq (Qj last) t=true:=Qad.mpr fun c _ hc=>inl c hc
 have cs:Qb1 (Qj last) (Qz t):=by
  rcases hk with h | h
  ·exact QfD (n:=6) (by omega) (fun c hc=>zx.mp (pr.mem_iff.mp hc)) (pr.nodup_iff.mpr List.nodup_range) h
  ·exact (Qg2 (fun c hc=>Qb9 last hc) t w ndl (QfQ _ t w h)).1 ht al
 have vf2:QN 6 last (Qc t)=2:=by
  cases tv:QaJ 6 last
  ·rcases hk with h | h
   ·rw[h] at tv;exact absurd tv (by decide)
   ·exact (Qds (n:=6) w ht ndl len8 inl tv).2.2 h
  ·unfold QN;rw[zb tv]
 obtain⟨A,eA,WA,kA⟩:=Qc4 hf1 (x:=last) W
 have cf:QaF 6 last (Qc t)=2:=by unfold QaF;rw[zb ((Qdy (by omega)).mpr hl)];exact vf2
 rw[cf] at eA
 rw[Edv hf1,V.2.2.1];simp only[zz]
 refine QS (Eee hf2 _ _ _ _ _ _ x8 x9 x10 x11 x12 _ S) ?_
 rw[zb (show Int32.ofNat 6=6 from rfl),EeX hf1];simp only[zz]
 refine QS (Ecp hf2 _ _ _ _ _ _ x8 x9 x10 x11 x12 _ S) ?_
 rw[zb rfl,Eeg hf1];simp only[zz]
 refine QS (EeV hf2 _ _ _ _ _ _ x8 x9 x10 x11 x12 _ S) ?_
 rw[zb rfl,Ee4 hf1];simp only[zz]
 refine QS (Ebb hf2 _ _ _ _ _ _ x8 x9 x10 x11 x12 _ S) ?_
 rw[zb rfl,E7 hf1];simp only[zz]
 refine QS (Eez hf2 _ _ _ _ _ _ x8 x9 x10 x11 x12 _ S) ?_
 rw[zb rfl,QfL hf1 hf2 W];simp only[zz]
 refine QS (Ed2 hf2 _ _ _ _ _ _ x8 x9 x10 x11 x12 _ S) ?_
 rw[za (by decide),QgG hf1 hf2 W cs];simp only[zz]
 refine QS (Eei hf2 _ _ _ _ _ _ x8 x9 x10 x11 x12 _ S) ?_
 rw[za (by decide),eA];simp only[zz]
 refine QS (Edp hf2 _ _ _ _ _ _ x8 x9 x10 x11 x12 _ A) ?_
 rw[zb rfl,EcE hf1];simp only[zz]
 refine QS (Eec hf2 _ _ _ _ _ _ x8 x9 x10 x11 x12 _ A) ?_
 obtain⟨a,z,y1,y2,y3,y4,y5,y6,y7⟩:=(Qgt t w).1 ht
 have ea:(Qz t).getD 0 0=a:=by rw[ze,<-List.head?_eq_getElem?,y1];rfl
 have l0:=Qc5 hf1 WA (k:=0) (by omega)
 have l0':f1 (11,0,[.ref 0,.int 0],[],A)=some (some (.int (Int32.ofNat a)),A):=by
  refine Eq.trans l0 ?_
  unfold QbI;rw[zb (by omega),ea]
 rw[l0'];simp only[zz]
 refine QS (EdL hf2 _ _ _ _ _ _ x8 x9 x10 x11 x12 _ _ A) ?_
 have eS:A 0 12=QO t:=WA.2.2.1
 obtain⟨k,k63,ek⟩:=Qeb (x:=QO t) fun c hc=>zx.mp (V.2.1.mem_iff.mp (y7 c hc).1)
 have kn:k≠0:=fun e=>by
  rw[e] at ek
  have:Qj (QO t) a=false:=(Qbb _).mp ek a
  rw[this] at y4;exact absurd y4 (by decide)
 rw[eS,za (show ¬((QO t>>>(Int32.ofNat a&&&31))&&&1)=0 from fun h=>by rw[(Qcu _ (by omega)).mp h] at y4;exact absurd y4 (by decide)),ek,zb (show 0<Int32.ofNat k from (Ql (a:=0) (by omega) (by omega)).mpr (by omega)),za (show ¬63<Int32.ofNat k from fun h=>absurd ((Ql (a:=63) (by omega) (by omega)).mp h) (by omega)),show Int32.ofNat j+2=Int32.ofNat (j+2) from QbZ j 2,<-kA 0 1 (by omega),<-kA 0 2 (by omega),<-kA 0 3 (by omega),<-kA 0 11 (by omega)]
 exact ih A ⟨t,WA,by rw[kA 0 1 (by omega)];exact hp,hl,hk⟩ (kA 0 1 (by omega)) (kA 0 2 (by omega)) (kA 0 3 (by omega)) (kA 0 11 (by omega))
theorem Qca(hf1:Fx f1)(hf2:Fix2 ms1 ms2 iv1 222 nmax1 (some xs) f1 f2){S:MS}{last:Int32}(J:Qbr S last){j:Nat}(nxt:∀S' last',Qbr S' last'->∃W,f2 (0,28,[.ref 0,.ref 1,.int (S' 0 1),.int (S' 0 2),.int (S' 0 3),.int (S' 0 11),.int last',.int (Int32.ofNat (j+2))],[],(false,[S']))=some (some (.int 1),W))(x8 x9 x10 x11 x12:Int32)(h:x10<0):∃W,f2 (0,347,[.ref 0,.ref 1,.int (S 0 1),.int (S 0 2),.int (S 0 3),.int (S 0 11),.int last,.int (Int32.ofNat j),.int x8,.int x9,.int x10,.int x11,.int x12],[],(false,[S]))=some (some (.int 1),W):=by
 refine QS (EH hf2 _ _ _ _ _ _ x8 x9 x10 x11 x12 S) ?_
 rw[zb h]
 exact QcE hf1 hf2 J (fun S' J' _ _ _ _=>nxt S' last J') x8 x9 x10 x11 x12
theorem QeH(hf1:Fx f1)(hf2:Fix2 ms1 ms2 iv1 222 nmax1 (some xs) f1 f2){S A:MS}{t t':Qf}{last m:Int32}(W:Qaj 6 t S)(hK:Qed t last)(WA:Qaj 6 t' A)(sh:Qc t'=Qbd 6 m (Qc t))(hm:∀c,Qj m c=true->c<6)(hpA:∀c,Qj (A 0 1) c=true->c<6)(a2:A 0 2=(if QN 6 m (Qc t)=3 then S 0 2 else S 0 2+1))(a3:A 0 3=(if QN 6 m (Qc t)=3 then S 0 3+1 else S 0 3)){j:Nat}(nxt:∀S' last',Qbr S' last'->∃W,f2 (0,28,[.ref 0,.ref 1,.int (S' 0 1),.int (S' 0 2),.int (S' 0 3),.int (S' 0 11),.int last',.int (Int32.ofNat (j+2))],[],(false,[S']))=some (some (.int 1),W))(x8 x9:Int32):∃W,f2 (0,347,[.ref 0,.ref 1,.int (A 0 1),.int (S 0 2),.int (S 0 3),.int (S 0 11),.int last,.int (Int32.ofNat j),.int x8,.int x9,.int m,.int (QN 6 m (Qc t)),.int (QN 6 m (Qc t))],[],(false,[A]))=some (some (.int 1),W):=by
 obtain⟨k,k63,ek⟩:=Qeb hm
 have V:=W.1
 have G:=V.1
 have w:=G.1
 have ht:=G.2.1
 have ndl:(Qe t).Nodup:=V.2.1.nodup_iff.mpr List.nodup_range
 have inl:∀c,Qj m c=true->c∈Qe t:=fun c hc=>V.2.1.mem_iff.mpr (zx.mpr (hm c hc))
 have len8:(Qe t).length<=8:=by rw[G.2.2.2.1];omega
 have w':=WA.1.1.1
 refine QS (EH hf2 _ _ _ _ _ _ x8 x9 m _ _ A) ?_
 rw[za (show ¬m<0 by rw[ek];exact Q0 (by omega)),E7 hf1];simp only[zz]
 refine QS (Ea9 hf2 _ _ _ _ _ _ x8 x9 m _ _ _ A) ?_
 rw[zb rfl]
 have same:QN 6 m (Qc t)≠1->Qc t'=Qc t:=fun h=>by rw[sh];unfold Qbd;rw[za h]
 have cnE:Qc t'=Qc t->A 0 11=S 0 11:=fun e=>by
  rw[WA.2.1,W.2.1,<-(QbU t' w').2.2.2,<-(QbU t w).2.2.2,e]
 rcases Qdd 6 m (Qc t) with v | v | v
 ·rw[v,zb rfl]
  rw[v,za (by decide)] at a2 a3
  have tv:QaJ 6 m=false:=by
   cases tv:QaJ 6 m
   ·rfl
   ·have:QN 6 m (Qc t)=2:=by unfold QN;rw[zb tv]
    rw[v] at this;exact absurd this (by decide)
  obtain⟨T,hR,hO,hlt⟩:=(Qds (n:=6) w ht ndl len8 inl tv).2.1 v
  have eT:Qc t'=T:=by rw[sh];unfold Qbd;rw[zb v,hR];rfl
  have cb:Qr t<=40320:=by
   have fe:∀k:Fin 9,Qs k.val<=40320:=by decide
   exact zB ((Qd7 t w).2.1 ht) (fe ⟨(Qe t).length,by omega⟩)
  have lt:A 0 11<S 0 11:=by
   rw[WA.2.1,W.2.1,QeA t' w',QeA t w,Ql (by rw[<-(Qb5 t' (Qda t' w')).1,eT];omega) (by omega),<-(Qb5 t' (Qda t' w')).1,eT]
   exact hlt
  rw[zb lt]
  have C:=QcE hf1 hf2 (S:=A) (last:=m) ⟨t',WA,hpA,hm,Or.inr (by rw[eT];exact hO)⟩ (fun S' J' _ _ _ _=>nxt S' m J') x8 x9 m 1 1
  rw[a2,a3] at C
  exact C
 ·rw[v,za (by decide),zb rfl]
  rw[v,za (by decide)] at a2 a3
  have es:=same (by rw[v];decide)
  have hk:QaJ 6 m=true\/Q1 (Qj m) (Qc t'):=by
   cases tv:QaJ 6 m
   ·exact Or.inr (by rw[es];exact (Qds (n:=6) w ht ndl len8 inl tv).1 v)
   ·exact Or.inl rfl
  have C:=QcE hf1 hf2 (S:=A) (last:=m) ⟨t',WA,hpA,hm,hk⟩ (fun S' J' _ _ _ _=>nxt S' m J') x8 x9 m 2 2
  rw[a2,a3,cnE es] at C
  exact C
 ·rw[v,za (by decide),za (by decide),zb rfl]
  rw[v,zb rfl] at a2 a3
  have es:=same (by rw[v];decide)
  have C:=QcE hf1 hf2 (S:=A) (last:=last) ⟨t',WA,hpA,hK.1,by rw[es];exact hK.2⟩ (fun S' J' _ _ _ _=>nxt S' last J') x8 x9 m 3 3
  rw[a2,a3,cnE es] at C
  exact C
theorem Qgs(hf1:Fx f1)(hf2:Fix2 ms1 ms2 iv1 222 nmax1 (some xs) f1 f2)(hlen:Qc9 xs):∀m j S last,xs.length<=j+m->j<=400->Qbr S last->∃W,f2 (0,28,[.ref 0,.ref 1,.int (S 0 1),.int (S 0 2),.int (S 0 3),.int (S 0 11),.int last,.int (Int32.ofNat j)],[],(false,[S]))=some (some (.int 1),W):=by
 intro m
 have hl:xs.length<=260:=hlen
 induction m with
 |zero=>
  intro j S last h1 h2 J
  refine QS (EJ hf2 _ _ _ _ _ _ S) ?_
  rw[Qv,za (by rw[Ql (by omega) (by omega)];omega)]
  exact⟨_,rfl⟩
 |succ m ih=>
  intro j S last h1 h2 J
  refine QS (EJ hf2 _ _ _ _ _ _ S) ?_
  rw[Qv]
  by_cases q:j+1<xs.length
  ·rw[zb ((Ql (by omega) (by omega)).mpr q),zb (Qt (by omega) (by omega)),zb (Qt (by omega) q)]
   generalize xs.getD (Int32.ofNat j).toNatClampNeg 0&&&7=op
   generalize xs.getD (Int32.ofNat (j+1)).toNatClampNeg 0=x
   have nxt:=fun S' last' (J':Qbr S' last')=>ih (j+2) S' last' (by omega) (by omega) J'
   have J0:=J
   obtain⟨t,W,hp,hK⟩:=J
   have V:=W.1
   have e00:S 0 0=Int32.ofNat 6:=V.2.2.1
   obtain⟨c,c7,ec⟩:=Qcy x (m:=7) (by omega)
   have ec':x&&&7=Int32.ofNat c:=ec
   have stay:=fun (op' r v:Int32)=>Qca hf1 hf2 J0 nxt op' x (-1) r v (by decide)
   have c6:Int32.ofNat c<6↔c<6:=Ql (b:=6) (by omega) (by omega)
   have add:∃W,f2 (0,75,[.ref 0,.ref 1,.int (S 0 1),.int (S 0 2),.int (S 0 3),.int (S 0 11),.int last,.int (Int32.ofNat j),.int op,.int x,.int (-1),.int 0,.int 0],[],(false,[S]))=some (some (.int 1),W):=by
    refine QS (EdX hf2 _ _ _ _ _ _ op x _ _ _ S) ?_
    rw[ec']
    have no:f1 (4,0,[.ref 0,.int (Int32.ofNat c)],[],S)=some (some (.int 0),S)->∃W,((f1 (4,0,[.ref 0,.int (Int32.ofNat c)],[],S)).bind fun q=>f2 (0,111,[.ref 0,.ref 1,.int (S 0 1),.int (S 0 2),.int (S 0 3),.int (S 0 11),.int last,.int (Int32.ofNat j),.int op,.int x,.int (-1),.int 0,.int 0,.int (Int32.ofNat c),.int 0],q.1.toList++[],(false,[q.2])))=some (some (.int 1),W):=fun e=>by
     rw[e];simp only[zz]
     refine QS (Ez hf2 _ _ _ _ _ _ op x _ _ _ _ _ _ S) ?_
     rw[zb rfl,zb rfl]
     refine QS (E9 hf2 _ _ _ _ _ _ op x _ _ _ _ _ S) ?_
     exact stay op 0 0
    by_cases q6:c<6
    ·rw[zb (c6.mpr q6)]
     by_cases qb:Qj (S 0 1) c=true
     ·rw[za (fun h=>by rw[(Qcu _ (by omega)).mp h] at qb;exact absurd qb (by decide))]
      refine no ?_
      rw[Eo hf1,za (Q0 (by omega)),e00,zb ((Ql (by omega) (by omega)).mpr q6),zb ((Qa4 _ (by omega)).mpr qb)]
     ·have qf:Qj (S 0 1) c=false:=by rw[zH] at qb;exact qb
      have e:f1 (4,0,[.ref 0,.int (Int32.ofNat c)],[],S)=some (some (.int 1),Jvm.OM.upd S 0 1 (S 0 1|||(1<<<(Int32.ofNat c&&&31)))):=by
       rw[Eo hf1,za (Q0 (by omega)),e00,zb ((Ql (by omega) (by omega)).mpr q6),za (fun h=>qb ((Qa4 _ (by omega)).mp h))]
      rw[zb ((Qcu _ (by omega)).mpr qf),e];simp only[zz]
      refine QS (Ez hf2 _ _ _ _ _ _ op x _ _ _ _ _ _ _) ?_
      rw[zb rfl,za (by decide)]
      refine QS (E9 hf2 _ _ _ _ _ _ op x _ _ _ _ _ _) ?_
      have J':Qbr (Jvm.OM.upd S 0 1 (S 0 1|||(1<<<(Int32.ofNat c&&&31)))) last:=⟨t,QdK hf1 W (fun d i h=>by rw[Qh,za h]),fun d hd=>by
       rw[Qh,zb ⟨rfl,rfl⟩,Qct,zai] at hd
       rcases hd with hd | hd
       ·exact hp d hd
       ·have:Qj ((1:Int32)<<<(Int32.ofNat c&&&31)) d=decide (d=c):=Qcc (by omega) d
        rw[this] at hd
        have:=zaa hd
        omega,hK⟩
      exact Qca hf1 hf2 J' nxt op x (-1) 0 0 (by decide)
    ·rw[za (fun h=>q6 (c6.mp h))]
     refine no ?_
     rw[Eo hf1,za (Q0 (by omega)),e00,za (by rw[Ql (by omega) (by omega)];exact q6)]
   by_cases o0:op=0
   ·rw[zb o0];exact add
   rw[za o0]
   by_cases o6:op=6
   ·rw[zb o6];exact add
   rw[za o6]
   by_cases o1:op=1
   ·rw[zb o1,ec']
    have no:f1 (5,0,[.ref 0,.int (Int32.ofNat c)],[],S)=some (some (.int 0),S)->∃W,((f1 (5,0,[.ref 0,.int (Int32.ofNat c)],[],S)).bind fun q=>f2 (0,176,[.ref 0,.ref 1,.int (S 0 1),.int (S 0 2),.int (S 0 3),.int (S 0 11),.int last,.int (Int32.ofNat j),.int op,.int x,.int (-1),.int 0,.int 0,.int (Int32.ofNat c),.int 0],q.1.toList++[],(false,[q.2])))=some (some (.int 1),W):=fun e=>by
     rw[e];simp only[zz]
     refine QS (Et hf2 _ _ _ _ _ _ op x _ _ _ _ _ _ S) ?_
     rw[zb rfl,zb rfl]
     refine QS (EA hf2 _ _ _ _ _ _ op x _ _ _ _ _ S) ?_
     exact stay op 0 0
    by_cases q6:c<6
    ·rw[zb (c6.mpr q6)]
     by_cases qb:Qj (S 0 1) c=true
     ·have e:f1 (5,0,[.ref 0,.int (Int32.ofNat c)],[],S)=some (some (.int 1),Jvm.OM.upd S 0 1 (S 0 1&&&((1<<<(Int32.ofNat c&&&31))^^^(-1)))):=by
       rw[Em hf1,za (Q0 (by omega)),e00,zb ((Ql (by omega) (by omega)).mpr q6),za (fun h=>by rw[(Qcu _ (by omega)).mp h] at qb;exact absurd qb (by decide))]
      rw[zb ((Qa4 _ (by omega)).mpr qb),e];simp only[zz]
      refine QS (Et hf2 _ _ _ _ _ _ op x _ _ _ _ _ _ _) ?_
      rw[zb rfl,za (by decide)]
      refine QS (EA hf2 _ _ _ _ _ _ op x _ _ _ _ _ _) ?_
      have J':Qbr (Jvm.OM.upd S 0 1 (S 0 1&&&((1<<<(Int32.ofNat c&&&31))^^^(-1)))) last:=⟨t,QdK hf1 W (fun d i h=>by rw[Qh,za h]),fun d hd=>by
       rw[Qh,zb ⟨rfl,rfl⟩,Qbu,zal] at hd
       exact hp d hd.1,hK⟩
      exact Qca hf1 hf2 J' nxt op x (-1) 0 0 (by decide)
     ·have qf:Qj (S 0 1) c=false:=by rw[zH] at qb;exact qb
      rw[za (fun h=>qb ((Qa4 _ (by omega)).mp h))]
      refine no ?_
      rw[Em hf1,za (Q0 (by omega)),e00,zb ((Ql (by omega) (by omega)).mpr q6),zb ((Qcu _ (by omega)).mpr qf)]
    ·rw[za (fun h=>q6 (c6.mp h))]
     refine no ?_
     rw[Em hf1,za (Q0 (by omega)),e00,za (by rw[Ql (by omega) (by omega)];exact q6)]
   rw[za o1]
   have com:∃W,((f1 (9,0,[.ref 0,.int (S 0 1)],[],S)).bind fun q=>f2 (0,222,[.ref 0,.ref 1,.int (S 0 1),.int (S 0 2),.int (S 0 3),.int (S 0 11),.int last,.int (Int32.ofNat j),.int op,.int x,.int (S 0 1),.int 0,.int 0],q.1.toList++[],(false,[q.2])))=some (some (.int 1),W):=by
    obtain⟨A,eA,WA,kA⟩:=Qc4 hf1 (x:=S 0 1) W
    have cf:QaF 6 (S 0 1) (Qc t)=QN 6 (S 0 1) (Qc t):=by unfold QaF;rw[zb ((Qdy (by omega)).mpr hp)]
    rw[cf] at eA
    rw[eA];simp only[zz]
    refine QS (Ebj hf2 _ _ _ _ _ _ op x _ _ _ _ A) ?_
    obtain⟨B,t',eB,WB,sB,b1,b2,b3⟩:=Qfo hf1 WA (by rw[kA 0 1 (by omega)];exact hp)
    rw[kA 0 1 (by omega)] at eB sB b2 b3
    rw[kA 0 2 (by omega)] at b2
    rw[kA 0 3 (by omega)] at b3
    rw[eB];simp only[zz]
    refine QS (Edq hf2 _ _ _ _ _ _ op x _ _ _ _ B) ?_
    have:=QeH hf1 hf2 W hK WB sB hp (fun c hc=>by rw[b1,(Qbb 0).mp rfl c] at hc;exact absurd hc (by decide)) b2 b3 nxt op x
    rw[b1] at this
    exact this
   by_cases o2:op=2
   ·rw[zb o2];exact com
   rw[za o2]
   by_cases o7:op=7
   ·rw[zb o7];exact com
   rw[za o7]
   by_cases o3:op=3
   ·rw[zb o3]
    obtain⟨k,k1023,ek⟩:=Qcy x (m:=1023) (by omega)
    have ek':x&&&1023=Int32.ofNat k:=ek
    rw[ek']
    by_cases q1000:k<1000
    ·rw[zb (show Int32.ofNat k<1000 from (Ql (b:=1000) (by omega) (by omega)).mpr q1000)]
     obtain⟨k',k63,ek2⟩:=Qcy (Int32.ofNat k) (m:=63) (by omega)
     have ek2':Int32.ofNat k&&&63=Int32.ofNat k':=ek2
     have hm:∀c,Qj (Int32.ofNat k&&&63) c=true->c<6:=fun c hc=>by
      rw[Qbu,zal,show (63:Int32)=QaZ 6 from by decide,Qcj (by omega)] at hc
      exact zaa hc.2
     rw[ek2'] at hm ⊢
     obtain⟨A,eA,WA,kA⟩:=Qc4 hf1 (x:=Int32.ofNat k') W
     have ir:QaU 6 (Int32.ofNat k')=true:=(Qdy (by omega)).mpr hm
     have cf:QaF 6 (Int32.ofNat k') (Qc t)=QN 6 (Int32.ofNat k') (Qc t):=by unfold QaF;rw[zb ir]
     rw[cf] at eA
     rw[eA];simp only[zz]
     refine QS (Eaz hf2 _ _ _ _ _ _ op x _ _ _ _ A) ?_
     obtain⟨B,t',eB,WB,sB,b1,b2,b3⟩:=Qd6 hf1 (x:=Int32.ofNat k') WA
     rw[cf] at eB b2 b3
     rw[kA 0 1 (by omega)] at b1
     rw[kA 0 2 (by omega)] at b2
     rw[kA 0 3 (by omega)] at b3
     have sB':Qc t'=Qbd 6 (Int32.ofNat k') (Qc t):=by rw[sB];unfold QcO;rw[zb ir]
     have b2':B 0 2=(if QN 6 (Int32.ofNat k') (Qc t)=3 then S 0 2 else S 0 2+1):=by
      rw[b2]
      rcases Qdd 6 (Int32.ofNat k') (Qc t) with v | v | v
      ·rw[v,zb (Or.inl rfl),za (by decide)]
      ·rw[v,zb (Or.inr rfl),za (by decide)]
      ·rw[v,za (by decide),zb rfl]
     rw[eB];simp only[zz]
     refine QS (Eav hf2 _ _ _ _ _ _ op x _ _ _ _ B) ?_
     rw[za (show ¬63<Int32.ofNat k' from fun h=>absurd ((Ql (a:=63) (by omega) (by omega)).mp h) (by omega))]
     have:=QeH hf1 hf2 W hK WB sB' hm (by rw[b1];exact hp) b2' b3 nxt op x
     rw[b1] at this
     exact this
    ·rw[za (show ¬Int32.ofNat k<1000 from fun h=>q1000 ((Ql (b:=1000) (by omega) (by omega)).mp h))]
     have ir:QaU 6 (Int32.ofNat k)=false:=by
      have:=Qf6 ⟨k-1000,by omega⟩
      rw[show 1000+(⟨k-1000,by omega⟩:Fin 24).val=k from by show 1000+(k-1000)=k;omega] at this
      exact this
     obtain⟨A,eA,WA,kA⟩:=Qc4 hf1 (x:=Int32.ofNat k) W
     have cf:QaF 6 (Int32.ofNat k) (Qc t)=0:=by unfold QaF;rw[za (by rw[ir];decide)]
     rw[cf] at eA
     rw[eA];simp only[zz]
     refine QS (Eaz hf2 _ _ _ _ _ _ op x _ _ _ _ A) ?_
     obtain⟨B,t',eB,WB,sB,b1,b2,b3⟩:=Qd6 hf1 (x:=Int32.ofNat k) WA
     rw[cf] at eB b2 b3
     rw[za (by decide),kA 0 2 (by omega)] at b2
     rw[za (by decide),kA 0 3 (by omega)] at b3
     rw[kA 0 1 (by omega)] at b1
     have sB':Qc t'=Qc t:=by rw[sB];unfold QcO;rw[za (by rw[ir];decide)]
     have b11:B 0 11=S 0 11:=by rw[WB.2.1,W.2.1,<-(QbU t' WB.1.1.1).2.2.2,<-(QbU t W.1.1.1).2.2.2,sB']
     rw[eB];simp only[zz]
     refine QS (Eav hf2 _ _ _ _ _ _ op x _ _ _ _ B) ?_
     rw[zb (show 63<Int32.ofNat k from (Ql (a:=63) (by omega) (by omega)).mpr (by omega)),zb rfl,zb rfl]
     have:=Qca hf1 hf2 (S:=B) (last:=last) ⟨t',WB,by rw[b1];exact hp,hK.1,by rw[sB'];exact hK.2⟩ nxt op x (-1) 0 0 (by decide)
     rw[b1,b2,b3,b11] at this
     exact this
   rw[za o3]
   have hz:∀c,Qj (0:Int32) c=true->c<6:=fun c hc=>by rw[(Qbb 0).mp rfl c] at hc;exact absurd hc (by decide)
   have clr:∃W,((f1 (3,0,[.ref 0],[],S)).bind fun q=>f2 (0,323,[.ref 0,.ref 1,.int (S 0 1),.int (S 0 2),.int (S 0 3),.int (S 0 11),.int last,.int (Int32.ofNat j),.int op,.int x,.int (-1),.int 0,.int 0],q.1.toList++[],(false,[q.2])))=some (some (.int 1),W):=by
    rw[EcC hf1];simp only[zz]
    refine QS (EbC hf2 _ _ _ _ _ _ op x _ _ _ _) ?_
    exact Qca hf1 hf2 (S:=Jvm.OM.upd S 0 1 0) (last:=last) ⟨t,QdK hf1 W (fun d i h=>by rw[Qh,za h]),hz,hK⟩ nxt op x (-1) 0 0 (by decide)
   by_cases o4:op=4
   ·rw[zb o4];exact clr
   rw[za o4]
   by_cases x0:x&&&7=0
   ·rw[zb x0]
    obtain⟨A,e,WA,p1,p2,p3⟩:=Qc8 hf1 6 S (by omega) (by omega) e00
    rw[e];simp only[zz]
    refine QS (EbM hf2 _ _ _ _ _ _ op x _ _ _ A) ?_
    have c720:A 0 11=720:=by rw[WA.2.1];decide
    have:=Qca hf1 hf2 (S:=A) (last:=0) ⟨_,WA,by rw[p1];exact hz,hz,Or.inl (by decide)⟩ nxt op x (-1) 0 0 (by decide)
    rw[p1,p2,p3,c720] at this
    exact this
   ·rw[za x0];exact clr
  ·rw[za (by rw[Ql (by omega) (by omega)];exact q)]
   exact⟨_,rfl⟩
end Law
theorem QfV{f1:FT1}{f2:FT2}{xs:List Int32}(hf1:Fx f1)(hf2:Fix2 ms1 ms2 iv1 222 nmax1 (some xs) f1 f2)(hxs:xs.length<2147483648)(hlen:Qc9 xs):∃W,f2 (0,0,[.ref 0],[],(false,[]))=some (some (.int 1),W):=by
 obtain⟨n,h1,h8,en,mk⟩:=Qge hf1 6
 have n6:n=6:=by
  rw[za (by decide),za (by decide)] at en
  exact (Qb3 (c:=6) (by omega) (by omega)).mp en
 subst n6
 obtain⟨S,e,W,p1,p2,p3⟩:=mk (iniS iv1)
 refine QS (Eer hf2) ?_
 rw[e];simp only[zz]
 refine QS (Eds hf2 S) ?_
 have hz:∀c,Qj (0:Int32) c=true->c<6:=fun c hc=>by rw[(Qbb 0).mp rfl c] at hc;exact absurd hc (by decide)
 have c720:S 0 11=720:=by rw[W.2.1];decide
 have L:=Qgs hf1 hf2 hlen 300 0 S 0 (by have:xs.length<=260:=hlen;omega) (by omega) ⟨_,W,by rw[p1];exact hz,hz,Or.inl (by decide)⟩
 rw[p1,p2,p3,c720] at L
 exact L
theorem own_script{s:State}{w0:Value}(hn:narrow_1.value #[w0] s none s []=some true)(hr:rest_1_c.before #[w0] s=true):∃(sa:Nat) (cell:Cell) (xs:List Int32),w0 = .ref sa/\sa<s.heap.size/\xs.length<2147483648/\Qc9 xs/\Arr s s.heap sa cell .int/\cell.slots.size=xs.length/\∀i,i<xs.length->cell.slots[i]? = some (.int (xs.getD i 0)):=by
 obtain⟨n1,n2⟩:=and_e hn
 obtain⟨r1,r2⟩:=and_e (zaw.mp hr)
 obtain⟨b,xs,hb,hx⟩:=State.ints_of_pre (t:= .arg 0) rfl (zaw.mpr n1) (zaw.mpr r1) (zaw.mpr r2)
 have hw:w0 = .ref b:=by simpa [Term.eval] using hb
 subst hw
 have hl:=hx.small
 have he:=hx.length_eval (t:= .arg 0) hb
 rw[Cond.le_ints he rfl] at n2
 obtain⟨cell,h1,h2,h3,h4⟩:=hx
 obtain⟨hc,-,-,-⟩:=State.arrayAt?_spec h1
 obtain⟨-,hu⟩:=Cond.arrayOf_spec (zaw.mpr n1) hb hc
 have hsz:cell.slots.size=xs.length:=by rw[<-Array.length_toList,h2,zi]
 refine⟨b,cell,xs,rfl,(Array.getElem?_eq_some_iff.mp hc).1,hl,?_,⟨hc,h3,hu⟩,hsz,fun i hi=>?_⟩
 ·have q:xs.length.toInt32<=260:=by simpa using n2
  rw[Int32.le_iff_toInt_le] at q
  have e1:xs.length.toInt32.toInt=xs.length:=Int32.toInt_ofNat_of_lt hl
  have e2:(260:Int32).toInt=260:=rfl
  rw[e1,e2] at q
  show xs.length<=260
  omega
 ·rw[<-Array.getElem?_toList,h2]
  simp[hi,List.getD]
theorem own_met(l:Launch)(Z:State)(a0:Array Value)(hw:∀d∈tables_1,d.before a0 Z=true)(ws:List Jvm.Cond)(h:Heap)(sa:Nat)(xs:List Int32)(hxs:xs.length<2147483648)(hlen:Qc9 xs)(hsa:sa<h.size)(cell:Cell)(A:Arr Z h sa cell .int)(hs:cell.slots.size=xs.length)(he:∀i,i<xs.length->cell.slots[i]? = some (.int (xs.getD i 0))) :
  MetFree l x (head1 (Jvm.Cond.code x code maxLocals ret::ws) room_1) (fun a U=>a = #[.ref sa]/\Z.Warmed39 U.vm/\U.heap=h) (fun _ _ _ _ _=>True)
   (fun _ U o U'=>∃v L,o = .returned v/\(v=some (.int 1)/\Fr h.size L)/\FrameEnd U o U' L room_1.cells room_1.slots):=
 law_of (sc:=some xs) (sa:=sa) (nmax:=nmax1) (as:=[.ref 0]) own_d1 own_g1 own_r1 own_d2 own_g2 own_rv own_rc own_rs own_h1 own_h2 hw rfl (zad rfl) (zad rfl) (zad rfl) (zad rfl) (zad rfl) (fun ys q=>by cases q;exact⟨hsa,hxs,cell,A,hs,he⟩)
  (fun f1 f2 hf1 hf2=>QfV hf1 hf2 hxs hlen) ws
theorem comes_1{Post:Tables->Env->Array Value->State->Outcome->State->Prop}(hpost:∀tb e args s v u,(limb_1_1.after args s (.returned v) u=true/\limb_1_2.after args s (.returned v) u=true/\True)->FrameEnd s (.returned v) u (Jvm.fieldLocs frame_1_writes args s++Jvm.arrayLocs frame_1_arrays args s++Jvm.staticLocs frame_1_statics s) 56 4544->Post tb e args s (.returned v) u) :
  ArmFor flags0 classFile x code maxLocals ret World_1 tables_1 room_1 Calls_1 rest_1 Pre_1 Post:=by
 intro l hfl _ _ p e ha hc hk s m args below hf hA hF happ hP
 obtain⟨hcalls,hrest,hpre⟩:=hP
 obtain⟨-,-,-,hnamed,-,-,-,hat⟩:=(Spec.applies_iff hf).mp happ
 obtain⟨hg,hn⟩:=and_e (zaw.mp (show (Jvm.Cond.and given_1 narrow_1).before args s=true from hpre))
 obtain⟨g0,q0⟩:=and_e hg
 obtain⟨w0,rfl⟩:∃w0:Value,args = #[w0]:=by
  have hs:args.size=1:=by simpa [Cond.value,given_1] using g0
  obtain⟨L⟩:=args
  match L,hs with
  |[w0],_=>exact⟨w0,rfl⟩
 have hw:=fun d (hd:d∈tables_1)=>atoms_spec (ws:=Jvm.Cond.code x code maxLocals ret::tables_1) hat d (List.mem_cons_of_mem _ hd)
 obtain⟨sa,cell,xs,rfl,hsa,hxs,hlen,A,hz,he⟩:=own_script hn (show rest_1_c.before _ _=true from hrest)
 obtain⟨n,o,h1,h2,h3,_,L,rfl,⟨rfl,N⟩,hq⟩:=own_met l s _ hw tables_1 s.heap sa xs hxs hlen hsa cell A hz he p e ha hc hk s m _ below hf ((Spec.applies_iff_loose hf).mp happ).1 ⟨rfl,State.Warmed39.refl s,rfl⟩ trivial
 refine⟨n,_,h1,h2,h3,hpost _ _ _ _ _ _ ⟨Cond.after_iff.mpr rfl,Cond.after_iff.mpr (eq_i res_at (Term.int_eval (1)) rfl),trivial⟩ ⟨hq.1,hq.2.1,(hq.2.2.sift fun y hy=>Or.inr (N y hy)).mono (zad rfl) (zad rfl)⟩⟩
theorem main_1_1:Claimed_1_1:=comes_1 fun _ _ _ _ _ _ h hF=>⟨h.1,hF⟩
theorem main_1_2:Claimed_1_2:=comes_1 fun _ _ _ _ _ _ h hF=>⟨h.2.1,hF⟩
end Jvm.Pilot.@@N@@
namespace Jvm.Pilot.@@N@@
open Jvm Jvm.ClassFile Sem Op Lib Jvm.Free Jvm.Stand Jvm.Pilot.@@N@@.Jvm.D
/-! MADE BY PROGRAM (witnessworld.py) out of the Statement's table words and the real class files: 11 classes;the members and pool entries that the words name. The judged class is class 1,her method 3. -/
set_option maxRecDepth 65536
namespace start1
open Jvm.ClassFile
def u (s:String):CpInfo:= .utf8 (stringToUtf16 s)
/-- a pool by its gaps: so many unusable entries,then the entry;so many at the end -/
def gap:Nat→List CpInfo→List CpInfo
  |0,r=>r
  |n+1,r => .unusable::gap n r
def poolList (es:List (Nat×CpInfo)) (last:Nat):List CpInfo:=es.foldr (fun e r=>gap e.1 (e.2::r)) (gap last [])
def pool (es:List (Nat×CpInfo)) (last:Nat):Array CpInfo:=⟨poolList es last⟩
def fileOf (pool:Array CpInfo) (this:Nat) (attrs:Array Attribute := #[]) (ms:Array MethodInfo := #[]) (fl:Nat:=33) (sup:Nat:=0) (ifs:Array Nat := #[]) (fds:Array FieldInfo := #[]):ClassFile where
  minorVersion:=0
  majorVersion:=65
  constantPool:=pool
  accessFlags:=fl
  thisClass:=this
  superClass:=sup
  interfaces:=ifs
  fields:=fds
  methods:=ms
  attributes:=attrs
def plain (name:String) (sup:Option ClassId):Class where
  name:=name
  kind:= .ordinary
  loader:=none
  accessFlags:=33
  super:=sup
  interfaces := #[]
  cf:=none
  fields := #[]
  methods := #[]
  instanceTypes := #[]
  staticTypes := #[]
  resolved := #[]
  callSites:=[]
  init:= .initialized
  statics:=none
  mirror:=none

def pool0:Array CpInfo:=pool [(5,u "<init>"),(0,u "()V"),(1,.class_ 10),(1,u "java/lang/Object")] 113

def k0c0:Code:=⟨0,1,object_method_1_code,#[],#[]⟩
def k0m0:Method:=⟨"<init>","()V",⟨[],none⟩,1,some k0c0⟩
/-- java/lang/Object -/
def k0:Class:={ plain "java/lang/Object" none with
  accessFlags:=33
  interfaces := #[]
  cf:=some (fileOf pool0 8 #[] #[⟨1,5,6,#[]⟩] 33 0 #[] #[])
  fields := #[]
  methods := #[k0m0]
  instanceTypes := #[]
  staticTypes := #[]
  resolved:=Array.replicate 124 none
  statics:=none }

def pool1:Array CpInfo:=pool [(2,.class_ 4),(1,u "java/lang/Object"),(0,u "<init>"),(0,u "()V"),(0,.methodref 8 9),(0,.class_ 10),(0,.nameAndType 11 12),(0,u "PqOnesOrder"),(0,u "leastOrderAt"),(0,u "(I)I"),(0,.methodref 8 14),(0,.nameAndType 15 12),(0,u "leastPositionOf"),(0,.methodref 8 17),(0,.nameAndType 5 18),(0,u "(I)V"),(0,.methodref 8 20),(0,.nameAndType 21 22),(0,u "addColumn"),(0,u "(I)Z"),(0,.methodref 8 24),(0,.nameAndType 25 22),(0,u "removeColumn"),(0,.methodref 8 27),(0,.nameAndType 28 12),(0,u "classify"),(0,.methodref 8 30),(0,.nameAndType 31 32),(0,u "commitRow"),(0,u "()I"),(0,.methodref 8 34),(0,.nameAndType 35 12),(0,u "addRowMask"),(0,.methodref 8 37),(0,.nameAndType 38 6),(0,u "clearRow"),(0,.methodref 8 40),(0,.nameAndType 41 6),(0,u "reset"),(0,.methodref 8 43),(0,.nameAndType 44 32),(0,u "countOrders"),(0,.methodref 8 46),(0,.nameAndType 47 32),(0,u "columns"),(0,.methodref 8 49),(0,.nameAndType 50 32),(0,u "pendingMask"),(0,.methodref 8 52),(0,.nameAndType 53 32),(0,u "acceptedRows"),(0,.methodref 8 55),(0,.nameAndType 56 32),(0,u "rejectedRows"),(0,.methodref 58 59),(0,.class_ 60),(0,.nameAndType 61 62),(0,u "PqOnesOrderL6"),(0,u "perm"),(0,u "(LPqOnesOrder;)Z"),(0,.methodref 58 64),(0,.nameAndType 65 66),(0,u "consec"),(0,u "(LPqOnesOrder;I)Z"),(0,.methodref 8 68),(0,.nameAndType 69 32),(0,u "startMask"),(3,u "law"),(0,u "([I)Z")] 4

def k1m0:Method:=⟨"<init>","()V",⟨[],none⟩,1,none⟩
def k1c1:Code:=⟨3,4,method_2_code,#[],#[]⟩
def k1m1:Method:=⟨"perm","(LPqOnesOrder;)Z",⟨[(.object "PqOnesOrder")],some .boolean⟩,10,some k1c1⟩
def k1c2:Code:=⟨2,7,method_3_code,#[],#[]⟩
def k1m2:Method:=⟨"consec","(LPqOnesOrder;I)Z",⟨[(.object "PqOnesOrder"),.int],some .boolean⟩,10,some k1c2⟩
def k1c3:Code:=⟨3,15,code,#[],#[]⟩
def k1m3:Method:=⟨"law","([I)Z",⟨[(.array .int)],some .boolean⟩,9,some k1c3⟩
/-- PqOnesOrderL6 -/
def k1:Class:={ plain "PqOnesOrderL6" (some 0) with
  accessFlags:=33
  interfaces := #[]
  cf:=some (fileOf pool1 58 #[] #[⟨1,5,6,#[]⟩,⟨10,61,62,#[]⟩,⟨10,65,66,#[]⟩,⟨9,73,74,#[]⟩] 33 2 #[] #[])
  fields := #[]
  methods := #[k1m0,k1m1,k1m2,k1m3]
  instanceTypes := #[]
  staticTypes := #[]
  resolved:=Array.replicate 79 none
  statics:=none }

def pool2:Array CpInfo:=pool [(1,.methodref 2 3),(0,.class_ 4),(0,.nameAndType 5 6),(0,u "java/lang/Object"),(0,u "<init>"),(0,u "()V"),(0,.fieldref 8 9),(0,.class_ 10),(0,.nameAndType 11 12),(0,u "PqOnesOrder"),(0,u "leafKind"),(0,u "I"),(0,.fieldref 8 14),(0,.nameAndType 15 12),(0,u "pKind"),(0,.fieldref 8 17),(0,.nameAndType 18 12),(0,u "qKind"),(0,.fieldref 8 20),(0,.nameAndType 21 12),(0,u "emptyLabel"),(0,.fieldref 8 23),(0,.nameAndType 24 12),(0,u "fullLabel"),(0,.fieldref 8 26),(0,.nameAndType 27 12),(0,u "partialLabel"),(0,.fieldref 8 29),(0,.nameAndType 30 31),(0,u "kind"),(0,u "[I"),(0,.fieldref 8 33),(0,.nameAndType 34 31),(0,u "parent"),(0,.fieldref 8 36),(0,.nameAndType 37 31),(0,u "degree"),(0,.fieldref 8 39),(0,.nameAndType 40 31),(0,u "kids"),(0,.fieldref 8 42),(0,.nameAndType 43 44),(0,u "live"),(0,u "[Z"),(0,.fieldref 8 46),(0,.nameAndType 47 31),(0,u "savedKind"),(0,.fieldref 8 49),(0,.nameAndType 50 31),(0,u "savedParent"),(0,.fieldref 8 52),(0,.nameAndType 53 31),(0,u "savedDegree"),(0,.fieldref 8 55),(0,.nameAndType 56 31),(0,u "savedKids"),(0,.fieldref 8 58),(0,.nameAndType 59 44),(0,u "savedLive"),(0,.fieldref 8 61),(0,.nameAndType 62 31),(0,u "label"),(0,.fieldref 8 64),(0,.nameAndType 65 31),(0,u "leafSet"),(0,.fieldref 8 67),(0,.nameAndType 68 31),(0,u "post"),(0,.fieldref 8 70),(0,.nameAndType 71 31),(0,u "stackNode"),(0,.fieldref 8 73),(0,.nameAndType 74 31),(0,u "stackIdx"),(0,.fieldref 8 76),(0,.nameAndType 77 31),(0,u "seq"),(0,.fieldref 8 79),(0,.nameAndType 80 31),(0,u "emptyKids"),(0,.fieldref 8 82),(0,.nameAndType 83 31),(0,u "fullKids"),(0,.fieldref 8 85),(0,.nameAndType 86 31),(0,u "partKids"),(0,.fieldref 8 88),(0,.nameAndType 89 31),(0,u "firstLeast"),(0,.fieldref 8 91),(0,.nameAndType 92 31),(0,u "startSet"),(0,.fieldref 8 94),(0,.nameAndType 95 31),(0,u "least"),(0,.fieldref 8 97),(0,.nameAndType 98 31),(0,u "leastPos"),(0,.fieldref 8 100),(0,.nameAndType 101 12),(0,u "n"),(0,.methodref 8 103),(0,.nameAndType 104 6),(0,u "reset"),(0,.methodref 8 106),(0,.nameAndType 107 6),(0,u "initTree"),(0,.fieldref 8 109),(0,.nameAndType 110 12),(0,u "pending"),(0,.fieldref 8 112),(0,.nameAndType 113 12),(0,u "acceptedCount"),(0,.fieldref 8 115),(0,.nameAndType 116 12),(0,u "rejectedCount"),(0,.methodref 8 118),(0,.nameAndType 119 6),(0,u "refreshCaches"),(0,.methodref 8 121),(0,.nameAndType 122 123),(0,u "allMask"),(0,u "()I"),(0,.methodref 8 125),(0,.nameAndType 126 127),(0,u "addMask"),(0,u "(I)I"),(0,.methodref 8 129),(0,.nameAndType 130 131),(0,u "inRange"),(0,u "(I)Z"),(0,.methodref 8 133),(0,.nameAndType 134 127),(0,u "verdict"),(0,.methodref 8 136),(0,.nameAndType 137 6),(0,u "restoreTree"),(0,.fieldref 8 139),(0,.nameAndType 140 12),(0,u "orderCount"),(0,.fieldref 8 142),(0,.nameAndType 143 12),(0,u "startCols"),(0,.methodref 8 145),(0,.nameAndType 146 131),(0,u "isTrivial"),(0,.methodref 8 148),(0,.nameAndType 149 6),(0,u "saveTree"),(0,.methodref 8 151),(0,.nameAndType 152 131),(0,u "reduce"),(0,.methodref 8 154),(0,.nameAndType 155 6),(0,u "computePost"),(0,.methodref 8 157),(0,.nameAndType 158 123),(0,u "countFromPost"),(0,.methodref 8 160),(0,.nameAndType 161 131),(0,u "isNode"),(0,.fieldref 8 163),(0,.nameAndType 164 12),(0,u "root"),(0,.methodref 8 166),(0,.nameAndType 167 168),(0,u "appendKid"),(0,u "(II)Z"),(0,.methodref 8 170),(0,.nameAndType 171 172),(0,u "clearKids"),(0,u "(I)V"),(0,.fieldref 8 174),(0,.nameAndType 175 12),(0,u "savedRoot"),(0,.fieldref 8 177),(0,.nameAndType 178 12),(0,u "postLen"),(0,.methodref 8 180),(0,.nameAndType 181 131),(0,u "isInner"),(0,.methodref 8 183),(0,.nameAndType 184 127),(0,u "degreeOf"),(0,.methodref 8 186),(0,.nameAndType 187 188),(0,u "kidAt"),(0,u "(II)I"),(0,.methodref 8 190),(0,.nameAndType 191 123),(0,u "findSingleKid"),(3,.methodref 8 196),(0,.nameAndType 197 172),(0,u "freeNode"),(0,.methodref 8 199),(0,.nameAndType 200 201),(0,u "putKid"),(0,u "(III)V"),(0,.methodref 8 203),(0,.nameAndType 204 6),(0,u "computeLeafSets"),(0,.methodref 8 206),(0,.nameAndType 207 172),(0,u "labelLeaves"),(0,.methodref 8 209),(0,.nameAndType 210 127),(0,u "findPertinentRoot"),(0,.methodref 8 212),(0,.nameAndType 213 131),(0,u "reduceInner"),(0,.methodref 8 215),(0,.nameAndType 216 131),(0,u "reduceRoot"),(0,.methodref 8 218),(0,.nameAndType 219 6),(0,u "normalize"),(0,.methodref 8 221),(0,.nameAndType 222 6),(0,u "collectGarbage"),(0,.methodref 8 224),(0,.nameAndType 225 131),(0,u "pInner"),(0,.methodref 8 227),(0,.nameAndType 228 131),(0,u "qInner"),(0,.methodref 8 230),(0,.nameAndType 231 131),(0,u "pRoot"),(0,.methodref 8 233),(0,.nameAndType 234 131),(0,u "qRoot"),(0,.fieldref 8 236),(0,.nameAndType 237 12),(0,u "emptyCount"),(0,.fieldref 8 239),(0,.nameAndType 240 12),(0,u "fullCount"),(0,.fieldref 8 242),(0,.nameAndType 243 12),(0,u "partCount"),(0,.methodref 8 245),(0,.nameAndType 246 127),(0,u "labelOf"),(0,.methodref 8 248),(0,.nameAndType 249 188),(0,u "allocNode"),(0,.fieldref 8 251),(0,.nameAndType 252 12),(0,u "seqLen"),(0,.methodref 8 254),(0,.nameAndType 255 172),(0,u "seqPush"),(0,.methodref 8 257),(0,.nameAndType 258 127),(0,u "rankOf"),(0,.methodref 8 260),(0,.nameAndType 261 172),(0,u "sortKids"),(0,.methodref 8 263),(0,.nameAndType 264 265),(0,u "groupOf"),(0,u "(Z)I"),(0,.methodref 8 267),(0,.nameAndType 268 6),(0,u "seqStart"),(0,.methodref 8 270),(0,.nameAndType 271 272),(0,u "seqPushKids"),(0,u "(IZ)V"),(0,.methodref 8 274),(0,.nameAndType 275 131),(0,u "installSeq"),(0,.methodref 8 277),(0,.nameAndType 278 127),(0,u "direction"),(0,.methodref 8 280),(0,.nameAndType 281 172),(0,u "reverseKids"),(0,.methodref 8 283),(0,.nameAndType 284 131),(0,u "pRootNoPartial"),(0,.methodref 8 286),(0,.nameAndType 287 131),(0,u "pRootOnePartial"),(0,.methodref 8 289),(0,.nameAndType 290 131),(0,u "pRootTwoPartial"),(0,.methodref 8 292),(0,.nameAndType 293 6),(0,u "seqPushEmpties"),(0,.methodref 8 295),(0,.nameAndType 296 127),(0,u "firstNonEmpty"),(0,.methodref 8 298),(0,.nameAndType 299 127),(0,u "lastNonEmpty"),(0,.methodref 8 301),(0,.nameAndType 302 6),(0,u "computeFirstAndStart"),(0,.methodref 8 304),(0,.nameAndType 305 127),(0,u "startSetOf"),(0,.methodref 8 307),(0,.nameAndType 308 6),(0,u "buildLeastOrder"),(0,.methodref 8 310),(0,.nameAndType 311 127),(0,u "factorial"),(0,.methodref 8 313),(0,.nameAndType 314 172),(0,u "pFirstStart"),(0,.methodref 8 316),(0,.nameAndType 317 172),(0,u "qFirstStart"),(0,.methodref 8 319),(0,.nameAndType 320 127),(0,u "firstLeastOf"),(0,.methodref 8 322),(0,.nameAndType 323 188),(0,u "pushPOrdered"),(0,.methodref 8 325),(0,.nameAndType 326 188),(0,u "pushQOrdered"),(0,.methodref 8 328),(0,.nameAndType 329 6),(0,u "fillPositions"),(0,u "INVALID"),(2,u "NEW"),(1,u "IMPLIED"),(1,u "REJECTED"),(1,u "MIN_COLUMNS"),(0,u "MAX_COLUMNS"),(4,u "columns"),(0,u "clearRow"),(0,u "addColumn"),(0,u "removeColumn"),(0,u "pendingMask"),(0,u "commitRow"),(0,u "addRowMask"),(0,u "classify"),(0,u "countOrders"),(0,u "leastOrderAt"),(0,u "leastPositionOf"),(0,u "startMask"),(0,u "acceptedRows"),(0,u "rejectedRows")] 3

def k2c0:Code:=⟨2,3,prog_1_method_1_code,#[],#[]⟩
def k2m0:Method:=⟨"<init>","(I)V",⟨[.int],none⟩,1,some k2c0⟩
def k2c1:Code:=⟨1,1,prog_1_method_2_code,#[],#[]⟩
def k2m1:Method:=⟨"columns","()I",⟨[],some .int⟩,1,some k2c1⟩
def k2c2:Code:=⟨2,1,prog_1_method_3_code,#[],#[]⟩
def k2m2:Method:=⟨"reset","()V",⟨[],none⟩,1,some k2c2⟩
def k2c3:Code:=⟨2,1,prog_1_method_4_code,#[],#[]⟩
def k2m3:Method:=⟨"clearRow","()V",⟨[],none⟩,1,some k2c3⟩
def k2c4:Code:=⟨4,2,prog_1_method_5_code,#[],#[]⟩
def k2m4:Method:=⟨"addColumn","(I)Z",⟨[.int],some .boolean⟩,1,some k2c4⟩
def k2c5:Code:=⟨4,2,prog_1_method_6_code,#[],#[]⟩
def k2m5:Method:=⟨"removeColumn","(I)Z",⟨[.int],some .boolean⟩,1,some k2c5⟩
def k2c6:Code:=⟨1,1,prog_1_method_7_code,#[],#[]⟩
def k2m6:Method:=⟨"pendingMask","()I",⟨[],some .int⟩,1,some k2c6⟩
def k2c7:Code:=⟨2,4,prog_1_method_8_code,#[],#[]⟩
def k2m7:Method:=⟨"commitRow","()I",⟨[],some .int⟩,1,some k2c7⟩
def k2c8:Code:=⟨2,2,prog_1_method_9_code,#[],#[]⟩
def k2m8:Method:=⟨"addRowMask","(I)I",⟨[.int],some .int⟩,1,some k2c8⟩
def k2c9:Code:=⟨2,3,prog_1_method_10_code,#[],#[]⟩
def k2m9:Method:=⟨"classify","(I)I",⟨[.int],some .int⟩,1,some k2c9⟩
def k2c10:Code:=⟨1,1,prog_1_method_11_code,#[],#[]⟩
def k2m10:Method:=⟨"countOrders","()I",⟨[],some .int⟩,1,some k2c10⟩
def k2c11:Code:=⟨2,2,prog_1_method_12_code,#[],#[]⟩
def k2m11:Method:=⟨"leastOrderAt","(I)I",⟨[.int],some .int⟩,1,some k2c11⟩
def k2c12:Code:=⟨2,2,prog_1_method_13_code,#[],#[]⟩
def k2m12:Method:=⟨"leastPositionOf","(I)I",⟨[.int],some .int⟩,1,some k2c12⟩
def k2c13:Code:=⟨1,1,prog_1_method_14_code,#[],#[]⟩
def k2m13:Method:=⟨"startMask","()I",⟨[],some .int⟩,1,some k2c13⟩
def k2c14:Code:=⟨1,1,prog_1_method_15_code,#[],#[]⟩
def k2m14:Method:=⟨"acceptedRows","()I",⟨[],some .int⟩,1,some k2c14⟩
def k2c15:Code:=⟨1,1,prog_1_method_16_code,#[],#[]⟩
def k2m15:Method:=⟨"rejectedRows","()I",⟨[],some .int⟩,1,some k2c15⟩
def k2c16:Code:=⟨3,3,prog_1_method_17_code,#[],#[]⟩
def k2m16:Method:=⟨"addMask","(I)I",⟨[.int],some .int⟩,2,some k2c16⟩
def k2c17:Code:=⟨2,3,prog_1_method_18_code,#[],#[]⟩
def k2m17:Method:=⟨"verdict","(I)I",⟨[.int],some .int⟩,2,some k2c17⟩
def k2c18:Code:=⟨2,1,prog_1_method_19_code,#[],#[]⟩
def k2m18:Method:=⟨"allMask","()I",⟨[],some .int⟩,2,some k2c18⟩
def k2c19:Code:=⟨3,3,prog_1_method_20_code,#[],#[]⟩
def k2m19:Method:=⟨"inRange","(I)Z",⟨[.int],some .boolean⟩,2,some k2c19⟩
def k2c20:Code:=⟨2,4,prog_1_method_21_code,#[],#[]⟩
def k2m20:Method:=⟨"isTrivial","(I)Z",⟨[.int],some .boolean⟩,2,some k2c20⟩
def k2c21:Code:=⟨2,2,prog_1_method_22_code,#[],#[]⟩
def k2m21:Method:=⟨"isNode","(I)Z",⟨[.int],some .boolean⟩,2,some k2c21⟩
def k2c22:Code:=⟨2,2,prog_1_method_23_code,#[],#[]⟩
def k2m22:Method:=⟨"isInner","(I)Z",⟨[.int],some .boolean⟩,2,some k2c22⟩
def k2c23:Code:=⟨2,3,prog_1_method_24_code,#[],#[]⟩
def k2m23:Method:=⟨"degreeOf","(I)I",⟨[.int],some .int⟩,2,some k2c23⟩
def k2c24:Code:=⟨3,3,prog_1_method_25_code,#[],#[]⟩
def k2m24:Method:=⟨"kidAt","(II)I",⟨[.int,.int],some .int⟩,2,some k2c24⟩
def k2c25:Code:=⟨3,4,prog_1_method_26_code,#[],#[]⟩
def k2m25:Method:=⟨"putKid","(III)V",⟨[.int,.int,.int],none⟩,2,some k2c25⟩
def k2c26:Code:=⟨2,2,prog_1_method_27_code,#[],#[]⟩
def k2m26:Method:=⟨"labelOf","(I)I",⟨[.int],some .int⟩,2,some k2c26⟩
def k2c27:Code:=⟨2,2,prog_1_method_28_code,#[],#[]⟩
def k2m27:Method:=⟨"firstLeastOf","(I)I",⟨[.int],some .int⟩,2,some k2c27⟩
def k2c28:Code:=⟨2,2,prog_1_method_29_code,#[],#[]⟩
def k2m28:Method:=⟨"startSetOf","(I)I",⟨[.int],some .int⟩,2,some k2c28⟩
def k2c29:Code:=⟨4,4,prog_1_method_30_code,#[],#[]⟩
def k2m29:Method:=⟨"appendKid","(II)Z",⟨[.int,.int],some .boolean⟩,2,some k2c29⟩
def k2c30:Code:=⟨3,4,prog_1_method_31_code,#[],#[]⟩
def k2m30:Method:=⟨"clearKids","(I)V",⟨[.int],none⟩,2,some k2c30⟩
def k2c31:Code:=⟨3,2,prog_1_method_32_code,#[],#[]⟩
def k2m31:Method:=⟨"initTree","()V",⟨[],none⟩,2,some k2c31⟩
def k2c32:Code:=⟨3,4,prog_1_method_33_code,#[],#[]⟩
def k2m32:Method:=⟨"allocNode","(II)I",⟨[.int,.int],some .int⟩,2,some k2c32⟩
def k2c33:Code:=⟨3,2,prog_1_method_34_code,#[],#[]⟩
def k2m33:Method:=⟨"freeNode","(I)V",⟨[.int],none⟩,2,some k2c33⟩
def k2c34:Code:=⟨4,2,prog_1_method_35_code,#[],#[]⟩
def k2m34:Method:=⟨"saveTree","()V",⟨[],none⟩,2,some k2c34⟩
def k2c35:Code:=⟨4,2,prog_1_method_36_code,#[],#[]⟩
def k2m35:Method:=⟨"restoreTree","()V",⟨[],none⟩,2,some k2c35⟩
def k2c36:Code:=⟨4,7,prog_1_method_37_code,#[],#[]⟩
def k2m36:Method:=⟨"computePost","()V",⟨[],none⟩,2,some k2c36⟩
def k2c37:Code:=⟨4,7,prog_1_method_38_code,#[],#[]⟩
def k2m37:Method:=⟨"computeLeafSets","()V",⟨[],none⟩,2,some k2c37⟩
def k2c38:Code:=⟨3,3,prog_1_method_39_code,#[],#[]⟩
def k2m38:Method:=⟨"collectGarbage","()V",⟨[],none⟩,2,some k2c38⟩
def k2c39:Code:=⟨2,3,prog_1_method_40_code,#[],#[]⟩
def k2m39:Method:=⟨"normalize","()V",⟨[],none⟩,2,some k2c39⟩
def k2c40:Code:=⟨3,4,prog_1_method_41_code,#[],#[]⟩
def k2m40:Method:=⟨"findSingleKid","()I",⟨[],some .int⟩,2,some k2c40⟩
def k2c41:Code:=⟨2,5,prog_1_method_43_code,#[],#[]⟩
def k2m41:Method:=⟨"reduce","(I)Z",⟨[.int],some .boolean⟩,2,some k2c41⟩
def k2c42:Code:=⟨3,3,prog_1_method_44_code,#[],#[]⟩
def k2m42:Method:=⟨"labelLeaves","(I)V",⟨[.int],none⟩,2,some k2c42⟩
def k2c43:Code:=⟨2,4,prog_1_method_45_code,#[],#[]⟩
def k2m43:Method:=⟨"findPertinentRoot","(I)I",⟨[.int],some .int⟩,2,some k2c43⟩
def k2c44:Code:=⟨2,2,prog_1_method_46_code,#[],#[]⟩
def k2m44:Method:=⟨"reduceInner","(I)Z",⟨[.int],some .boolean⟩,2,some k2c44⟩
def k2c45:Code:=⟨2,2,prog_1_method_47_code,#[],#[]⟩
def k2m45:Method:=⟨"reduceRoot","(I)Z",⟨[.int],some .boolean⟩,2,some k2c45⟩
def k2c46:Code:=⟨3,6,prog_1_method_48_code,#[],#[]⟩
def k2m46:Method:=⟨"sortKids","(I)V",⟨[.int],none⟩,2,some k2c46⟩
def k2c47:Code:=⟨3,7,prog_1_method_49_code,#[],#[]⟩
def k2m47:Method:=⟨"groupOf","(Z)I",⟨[.boolean],some .int⟩,2,some k2c47⟩
def k2c48:Code:=⟨2,1,prog_1_method_50_code,#[],#[]⟩
def k2m48:Method:=⟨"seqStart","()V",⟨[],none⟩,2,some k2c48⟩
def k2c49:Code:=⟨3,2,prog_1_method_51_code,#[],#[]⟩
def k2m49:Method:=⟨"seqPush","(I)V",⟨[.int],none⟩,2,some k2c49⟩
def k2c50:Code:=⟨3,2,prog_1_method_52_code,#[],#[]⟩
def k2m50:Method:=⟨"seqPushEmpties","()V",⟨[],none⟩,2,some k2c50⟩
def k2c51:Code:=⟨3,7,prog_1_method_53_code,#[],#[]⟩
def k2m51:Method:=⟨"seqPushKids","(IZ)V",⟨[.int,.boolean],none⟩,2,some k2c51⟩
def k2c52:Code:=⟨4,3,prog_1_method_54_code,#[],#[]⟩
def k2m52:Method:=⟨"installSeq","(I)Z",⟨[.int],some .boolean⟩,2,some k2c52⟩
def k2c53:Code:=⟨4,7,prog_1_method_55_code,#[],#[]⟩
def k2m53:Method:=⟨"reverseKids","(I)V",⟨[.int],none⟩,2,some k2c53⟩
def k2c54:Code:=⟨2,2,prog_1_method_56_code,#[],#[]⟩
def k2m54:Method:=⟨"rankOf","(I)I",⟨[.int],some .int⟩,2,some k2c54⟩
def k2c55:Code:=⟨3,10,prog_1_method_57_code,#[],#[]⟩
def k2m55:Method:=⟨"direction","(I)I",⟨[.int],some .int⟩,2,some k2c55⟩
def k2c56:Code:=⟨3,5,prog_1_method_58_code,#[],#[]⟩
def k2m56:Method:=⟨"pInner","(I)Z",⟨[.int],some .boolean⟩,2,some k2c56⟩
def k2c57:Code:=⟨3,7,prog_1_method_59_code,#[],#[]⟩
def k2m57:Method:=⟨"qInner","(I)Z",⟨[.int],some .boolean⟩,2,some k2c57⟩
def k2c58:Code:=⟨2,2,prog_1_method_60_code,#[],#[]⟩
def k2m58:Method:=⟨"pRoot","(I)Z",⟨[.int],some .boolean⟩,2,some k2c58⟩
def k2c59:Code:=⟨2,3,prog_1_method_61_code,#[],#[]⟩
def k2m59:Method:=⟨"pRootNoPartial","(I)Z",⟨[.int],some .boolean⟩,2,some k2c59⟩
def k2c60:Code:=⟨3,4,prog_1_method_62_code,#[],#[]⟩
def k2m60:Method:=⟨"pRootOnePartial","(I)Z",⟨[.int],some .boolean⟩,2,some k2c60⟩
def k2c61:Code:=⟨3,5,prog_1_method_63_code,#[],#[]⟩
def k2m61:Method:=⟨"pRootTwoPartial","(I)Z",⟨[.int],some .boolean⟩,2,some k2c61⟩
def k2c62:Code:=⟨3,5,prog_1_method_64_code,#[],#[]⟩
def k2m62:Method:=⟨"firstNonEmpty","(I)I",⟨[.int],some .int⟩,2,some k2c62⟩
def k2c63:Code:=⟨3,5,prog_1_method_65_code,#[],#[]⟩
def k2m63:Method:=⟨"lastNonEmpty","(I)I",⟨[.int],some .int⟩,2,some k2c63⟩
def k2c64:Code:=⟨3,9,prog_1_method_66_code,#[],#[]⟩
def k2m64:Method:=⟨"qRoot","(I)Z",⟨[.int],some .boolean⟩,2,some k2c64⟩
def k2c65:Code:=⟨3,1,prog_1_method_67_code,#[],#[]⟩
def k2m65:Method:=⟨"refreshCaches","()V",⟨[],none⟩,2,some k2c65⟩
def k2c66:Code:=⟨3,5,prog_1_method_68_code,#[],#[]⟩
def k2m66:Method:=⟨"countFromPost","()I",⟨[],some .int⟩,2,some k2c66⟩
def k2c67:Code:=⟨2,4,prog_1_method_69_code,#[],#[]⟩
def k2m67:Method:=⟨"factorial","(I)I",⟨[.int],some .int⟩,2,some k2c67⟩
def k2c68:Code:=⟨4,3,prog_1_method_70_code,#[],#[]⟩
def k2m68:Method:=⟨"computeFirstAndStart","()V",⟨[],none⟩,2,some k2c68⟩
def k2c69:Code:=⟨3,7,prog_1_method_71_code,#[],#[]⟩
def k2m69:Method:=⟨"pFirstStart","(I)V",⟨[.int],none⟩,2,some k2c69⟩
def k2c70:Code:=⟨4,9,prog_1_method_72_code,#[],#[]⟩
def k2m70:Method:=⟨"qFirstStart","(I)V",⟨[.int],none⟩,2,some k2c70⟩
def k2c71:Code:=⟨3,5,prog_1_method_73_code,#[],#[]⟩
def k2m71:Method:=⟨"buildLeastOrder","()V",⟨[],none⟩,2,some k2c71⟩
def k2c72:Code:=⟨3,11,prog_1_method_74_code,#[],#[]⟩
def k2m72:Method:=⟨"pushPOrdered","(II)I",⟨[.int,.int],some .int⟩,2,some k2c72⟩
def k2c73:Code:=⟨4,12,prog_1_method_75_code,#[],#[]⟩
def k2m73:Method:=⟨"pushQOrdered","(II)I",⟨[.int,.int],some .int⟩,2,some k2c73⟩
def k2c74:Code:=⟨3,3,prog_1_method_76_code,#[],#[]⟩
def k2m74:Method:=⟨"fillPositions","()V",⟨[],none⟩,2,some k2c74⟩
/-- PqOnesOrder -/
def k2:Class:={ plain "PqOnesOrder" (some 0) with
  accessFlags:=49
  interfaces := #[]
  cf:=some (fileOf pool2 8 #[] #[⟨1,5,172,#[]⟩,⟨1,345,123,#[]⟩,⟨1,104,6,#[]⟩,⟨1,346,6,#[]⟩,⟨1,347,131,#[]⟩,⟨1,348,131,#[]⟩,⟨1,349,123,#[]⟩,⟨1,350,123,#[]⟩,⟨1,351,127,#[]⟩,⟨1,352,127,#[]⟩,⟨1,353,123,#[]⟩,⟨1,354,127,#[]⟩,⟨1,355,127,#[]⟩,⟨1,356,123,#[]⟩,⟨1,357,123,#[]⟩,⟨1,358,123,#[]⟩,⟨2,126,127,#[]⟩,⟨2,134,127,#[]⟩,⟨2,122,123,#[]⟩,⟨2,130,131,#[]⟩,⟨2,146,131,#[]⟩,⟨2,161,131,#[]⟩,⟨2,181,131,#[]⟩,⟨2,184,127,#[]⟩,⟨2,187,188,#[]⟩,⟨2,200,201,#[]⟩,⟨2,246,127,#[]⟩,⟨2,320,127,#[]⟩,⟨2,305,127,#[]⟩,⟨2,167,168,#[]⟩,⟨2,171,172,#[]⟩,⟨2,107,6,#[]⟩,⟨2,249,188,#[]⟩,⟨2,197,172,#[]⟩,⟨2,149,6,#[]⟩,⟨2,137,6,#[]⟩,⟨2,155,6,#[]⟩,⟨2,204,6,#[]⟩,⟨2,222,6,#[]⟩,⟨2,219,6,#[]⟩,⟨2,191,123,#[]⟩,⟨2,152,131,#[]⟩,⟨2,207,172,#[]⟩,⟨2,210,127,#[]⟩,⟨2,213,131,#[]⟩,⟨2,216,131,#[]⟩,⟨2,261,172,#[]⟩,⟨2,264,265,#[]⟩,⟨2,268,6,#[]⟩,⟨2,255,172,#[]⟩,⟨2,293,6,#[]⟩,⟨2,271,272,#[]⟩,⟨2,275,131,#[]⟩,⟨2,281,172,#[]⟩,⟨2,258,127,#[]⟩,⟨2,278,127,#[]⟩,⟨2,225,131,#[]⟩,⟨2,228,131,#[]⟩,⟨2,231,131,#[]⟩,⟨2,284,131,#[]⟩,⟨2,287,131,#[]⟩,⟨2,290,131,#[]⟩,⟨2,296,127,#[]⟩,⟨2,299,127,#[]⟩,⟨2,234,131,#[]⟩,⟨2,119,6,#[]⟩,⟨2,158,123,#[]⟩,⟨2,311,127,#[]⟩,⟨2,302,6,#[]⟩,⟨2,314,172,#[]⟩,⟨2,317,172,#[]⟩,⟨2,308,6,#[]⟩,⟨2,323,188,#[]⟩,⟨2,326,188,#[]⟩,⟨2,329,6,#[]⟩] 49 2 #[] #[⟨25,330,12,#[]⟩,⟨25,333,12,#[]⟩,⟨25,335,12,#[]⟩,⟨25,337,12,#[]⟩,⟨25,339,12,#[]⟩,⟨25,340,12,#[]⟩,⟨18,11,12,#[]⟩,⟨18,15,12,#[]⟩,⟨18,18,12,#[]⟩,⟨18,21,12,#[]⟩,⟨18,24,12,#[]⟩,⟨18,27,12,#[]⟩,⟨2,101,12,#[]⟩,⟨2,110,12,#[]⟩,⟨2,113,12,#[]⟩,⟨2,116,12,#[]⟩,⟨2,164,12,#[]⟩,⟨18,30,31,#[]⟩,⟨18,34,31,#[]⟩,⟨18,37,31,#[]⟩,⟨18,40,31,#[]⟩,⟨18,43,44,#[]⟩,⟨2,175,12,#[]⟩,⟨18,47,31,#[]⟩,⟨18,50,31,#[]⟩,⟨18,53,31,#[]⟩,⟨18,56,31,#[]⟩,⟨18,59,44,#[]⟩,⟨18,62,31,#[]⟩,⟨18,65,31,#[]⟩,⟨18,68,31,#[]⟩,⟨2,178,12,#[]⟩,⟨18,71,31,#[]⟩,⟨18,74,31,#[]⟩,⟨18,77,31,#[]⟩,⟨2,252,12,#[]⟩,⟨18,80,31,#[]⟩,⟨2,237,12,#[]⟩,⟨18,83,31,#[]⟩,⟨2,240,12,#[]⟩,⟨18,86,31,#[]⟩,⟨2,243,12,#[]⟩,⟨18,89,31,#[]⟩,⟨18,92,31,#[]⟩,⟨2,140,12,#[]⟩,⟨2,143,12,#[]⟩,⟨18,95,31,#[]⟩,⟨18,98,31,#[]⟩])
  fields := #[{ name := "INVALID",type:= .int,accessFlags:=25,slot:=0,constantValue:=0 },{ name := "NEW",type:= .int,accessFlags:=25,slot:=1,constantValue:=0 },{ name := "IMPLIED",type:= .int,accessFlags:=25,slot:=2,constantValue:=0 },{ name := "REJECTED",type:= .int,accessFlags:=25,slot:=3,constantValue:=0 },{ name := "MIN_COLUMNS",type:= .int,accessFlags:=25,slot:=4,constantValue:=0 },{ name := "MAX_COLUMNS",type:= .int,accessFlags:=25,slot:=5,constantValue:=0 },{ name := "leafKind",type:= .int,accessFlags:=18,slot:=0,constantValue:=0 },{ name := "pKind",type:= .int,accessFlags:=18,slot:=1,constantValue:=0 },{ name := "qKind",type:= .int,accessFlags:=18,slot:=2,constantValue:=0 },{ name := "emptyLabel",type:= .int,accessFlags:=18,slot:=3,constantValue:=0 },{ name := "fullLabel",type:= .int,accessFlags:=18,slot:=4,constantValue:=0 },{ name := "partialLabel",type:= .int,accessFlags:=18,slot:=5,constantValue:=0 },{ name := "n",type:= .int,accessFlags:=2,slot:=6,constantValue:=0 },{ name := "pending",type:= .int,accessFlags:=2,slot:=7,constantValue:=0 },{ name := "acceptedCount",type:= .int,accessFlags:=2,slot:=8,constantValue:=0 },{ name := "rejectedCount",type:= .int,accessFlags:=2,slot:=9,constantValue:=0 },{ name := "root",type:= .int,accessFlags:=2,slot:=10,constantValue:=0 },{ name := "kind",type:=(.array .int),accessFlags:=18,slot:=11,constantValue:=0 },{ name := "parent",type:=(.array .int),accessFlags:=18,slot:=12,constantValue:=0 },{ name := "degree",type:=(.array .int),accessFlags:=18,slot:=13,constantValue:=0 },{ name := "kids",type:=(.array .int),accessFlags:=18,slot:=14,constantValue:=0 },{ name := "live",type:=(.array .boolean),accessFlags:=18,slot:=15,constantValue:=0 },{ name := "savedRoot",type:= .int,accessFlags:=2,slot:=16,constantValue:=0 },{ name := "savedKind",type:=(.array .int),accessFlags:=18,slot:=17,constantValue:=0 },{ name := "savedParent",type:=(.array .int),accessFlags:=18,slot:=18,constantValue:=0 },{ name := "savedDegree",type:=(.array .int),accessFlags:=18,slot:=19,constantValue:=0 },{ name := "savedKids",type:=(.array .int),accessFlags:=18,slot:=20,constantValue:=0 },{ name := "savedLive",type:=(.array .boolean),accessFlags:=18,slot:=21,constantValue:=0 },{ name := "label",type:=(.array .int),accessFlags:=18,slot:=22,constantValue:=0 },{ name := "leafSet",type:=(.array .int),accessFlags:=18,slot:=23,constantValue:=0 },{ name := "post",type:=(.array .int),accessFlags:=18,slot:=24,constantValue:=0 },{ name := "postLen",type:= .int,accessFlags:=2,slot:=25,constantValue:=0 },{ name := "stackNode",type:=(.array .int),accessFlags:=18,slot:=26,constantValue:=0 },{ name := "stackIdx",type:=(.array .int),accessFlags:=18,slot:=27,constantValue:=0 },{ name := "seq",type:=(.array .int),accessFlags:=18,slot:=28,constantValue:=0 },{ name := "seqLen",type:= .int,accessFlags:=2,slot:=29,constantValue:=0 },{ name := "emptyKids",type:=(.array .int),accessFlags:=18,slot:=30,constantValue:=0 },{ name := "emptyCount",type:= .int,accessFlags:=2,slot:=31,constantValue:=0 },{ name := "fullKids",type:=(.array .int),accessFlags:=18,slot:=32,constantValue:=0 },{ name := "fullCount",type:= .int,accessFlags:=2,slot:=33,constantValue:=0 },{ name := "partKids",type:=(.array .int),accessFlags:=18,slot:=34,constantValue:=0 },{ name := "partCount",type:= .int,accessFlags:=2,slot:=35,constantValue:=0 },{ name := "firstLeast",type:=(.array .int),accessFlags:=18,slot:=36,constantValue:=0 },{ name := "startSet",type:=(.array .int),accessFlags:=18,slot:=37,constantValue:=0 },{ name := "orderCount",type:= .int,accessFlags:=2,slot:=38,constantValue:=0 },{ name := "startCols",type:= .int,accessFlags:=2,slot:=39,constantValue:=0 },{ name := "least",type:=(.array .int),accessFlags:=18,slot:=40,constantValue:=0 },{ name := "leastPos",type:=(.array .int),accessFlags:=18,slot:=41,constantValue:=0 }]
  methods := #[k2m0,k2m1,k2m2,k2m3,k2m4,k2m5,k2m6,k2m7,k2m8,k2m9,k2m10,k2m11,k2m12,k2m13,k2m14,k2m15,k2m16,k2m17,k2m18,k2m19,k2m20,k2m21,k2m22,k2m23,k2m24,k2m25,k2m26,k2m27,k2m28,k2m29,k2m30,k2m31,k2m32,k2m33,k2m34,k2m35,k2m36,k2m37,k2m38,k2m39,k2m40,k2m41,k2m42,k2m43,k2m44,k2m45,k2m46,k2m47,k2m48,k2m49,k2m50,k2m51,k2m52,k2m53,k2m54,k2m55,k2m56,k2m57,k2m58,k2m59,k2m60,k2m61,k2m62,k2m63,k2m64,k2m65,k2m66,k2m67,k2m68,k2m69,k2m70,k2m71,k2m72,k2m73,k2m74]
  instanceTypes := #[.int,.int,.int,.int,.int,.int,.int,.int,.int,.int,.int,(.array .int),(.array .int),(.array .int),(.array .int),(.array .boolean),.int,(.array .int),(.array .int),(.array .int),(.array .int),(.array .boolean),(.array .int),(.array .int),(.array .int),.int,(.array .int),(.array .int),(.array .int),.int,(.array .int),.int,(.array .int),.int,(.array .int),.int,(.array .int),(.array .int),.int,.int,(.array .int),(.array .int)]
  staticTypes := #[.int,.int,.int,.int,.int,.int]
  resolved:=Array.replicate 362 none
  statics:=none }

def pool3:Array CpInfo:=pool [(1,u "java/lang/Cloneable"),(0,.class_ 1),(0,u "java/lang/Object"),(0,.class_ 3)] 3

/-- java/lang/Cloneable -/
def k3:Class:={ plain "java/lang/Cloneable" (some 0) with
  accessFlags:=1537
  interfaces := #[]
  cf:=some (fileOf pool3 2 #[] #[] 1537 4 #[] #[])
  fields := #[]
  methods := #[]
  instanceTypes := #[]
  staticTypes := #[]
  resolved:=Array.replicate 8 none
  statics:=none }

def pool4:Array CpInfo:=pool [(1,u "java/io/Serializable"),(0,.class_ 1),(0,u "java/lang/Object"),(0,.class_ 3)] 3

/-- java/io/Serializable -/
def k4:Class:={ plain "java/io/Serializable" (some 0) with
  accessFlags:=1537
  interfaces := #[]
  cf:=some (fileOf pool4 2 #[] #[] 1537 4 #[] #[])
  fields := #[]
  methods := #[]
  instanceTypes := #[]
  staticTypes := #[]
  resolved:=Array.replicate 8 none
  statics:=none }

/-- the primitive boolean -/
def k5:Class:={ plain "boolean" none with kind:= .primitive 'Z',accessFlags:=0x411 }
/-- [Z -/
def k6:Class:={ plain "[Z" (some 0) with kind:= .array 5 .boolean,interfaces := #[3,4],accessFlags:=1041 }

/-- the primitive byte -/
def k7:Class:={ plain "byte" none with kind:= .primitive 'B',accessFlags:=0x411 }
/-- [B -/
def k8:Class:={ plain "[B" (some 0) with kind:= .array 7 .byte,interfaces := #[3,4],accessFlags:=1041 }

/-- the primitive int -/
def k9:Class:={ plain "int" none with kind:= .primitive 'I',accessFlags:=0x411 }
/-- [I -/
def k10:Class:={ plain "[I" (some 0) with kind:= .array 9 .int,interfaces := #[3,4],accessFlags:=1041 }

def heap:Heap := #[{ cls:=10,slots := #[.int 0,.int 1,.int 2],vm:= .none }]
def classes:Array Class := #[k0,k1,k2,k3,k4,k5,k6,k7,k8,k9,k10]
def interned:List (Array UInt16×Addr):=[]
def slotsUsed:Nat:=3
def theMethod:MethodId:=⟨1,3⟩
def args0:Array Value := #[.ref 0]
def aboutOver (below:List Frame):State where
  vm:={ classes:=classes,interned:=interned.toArray }
  heap:=heap
  slotsUsed:=slotsUsed
  threads := #[{ frames:= .invoking theMethod args0::below }]
def below0:List Frame:=[.native { method:=⟨0,0⟩,args := #[] }]
def about1:State:=aboutOver below0
def p0:Program:= .bare "" "" ""
def e0:Env:=launch0.env 0 0 0
theorem w_frames:about1.frames=Frame.invoking theMethod args0::below0:=rfl
theorem w_args:argsFit about1.vm theMethod args0=true:=by decide +kernel
theorem w_heap:heapFits about1=true:=by decide +kernel
theorem w_runnable:about1.curStatus? = some .runnable:=by decide +kernel
theorem w_alone:about1.alone=true:=by decide +kernel
theorem w_named:about1.methodNamed? x=some theMethod:=by decide +kernel
theorem w_hears:about1.hears theMethod below0=true:=by decide +kernel
theorem w_ripe:about1.ripe theMethod args0 below0=true:=by decide +kernel
theorem w_running:about1.status = .running:=rfl
theorem w_room:about1.hasRoom e0.platform room_1=true:=
  launch0.hasRoom_least _ room_1 (by decide +kernel) (by decide +kernel) (by decide +kernel) (by decide +kernel) (by decide +kernel) (by decide +kernel)
theorem allAtoms_all (ts:List Jvm.Cond) (a:Array Jvm.Value) (st:Jvm.State):(allAtoms ts).before a st=ts.all (fun c=>c.before a st):=by
  induction ts with
  |nil=>rfl
  |cons c t ih=>
    show (Jvm.Cond.and c (allAtoms t)).before a st=_
    rw[Jvm.Cond.before_and,ih,List.all_cons]
def words1:List Jvm.Cond:=Jvm.Cond.code x code maxLocals ret::tables_1
/-- a 'code' word,met by the world's own term for the bytes: nothing is compared byte by byte -/
theorem code_word {y:MethodName} {bytes:ByteArray} {mx:Nat} {rt:Option FieldType} {a:Array Value} {s:State} {m:MethodId} {meth:Method} {c:Code} (h1:s.methodNamed? y=some m) (h2:s.vm.method? m=some meth) (h3:meth.code=some c) (h4:c.code=bytes)
    (h5:(c.maxLocals==mx&&c.exceptionTable.isEmpty&&decide (c.maxStack≤mostOperands)&&decide (meth.sig.returnType=rt) && !meth.locks&&decide (parseMethodDescriptor y.desc=some meth.sig))=true):(Jvm.Cond.code y bytes mx rt).before a s=true:=by
  simp only[Bool.and_eq_true,beq_iff_eq,Bool.not_eq_true',decide_eq_true_eq] at h5
  obtain⟨⟨⟨⟨⟨g1,g2⟩,g3⟩,g4⟩,g5⟩,g6⟩:=h5
  simp[Cond.before,Cond.holds,Cond.value,h1,h2,h3,h4,g1,g2,g3,g4,g5,g6]
def isCode:Jvm.Cond→Bool
  | .code _ _ _ _=>true
  |_=>false
theorem all_split {L:List Jvm.Cond} {P:Jvm.Cond→Bool} (h1:L.all (fun c=>isCode c||P c)=true) (h2:∀c∈L.filter isCode,P c=true):L.all P=true:=by
  refine List.all_eq_true.mpr fun c hc=>?_
  have h:=List.all_eq_true.mp h1 c hc
  rcases Bool.eq_false_or_eq_true (isCode c) with hi | hi
  · exact h2 c (List.mem_filter.mpr ⟨hc,hi⟩)
  · simpa [hi] using h
theorem w_c0:(Jvm.Cond.code x code maxLocals ret).before args0 about1=true:=code_word (m:=⟨1,3⟩) (meth:=k1m3) (c:=k1c3) (by decide +kernel) rfl rfl rfl (by decide +kernel)
theorem w_c1:(Jvm.Cond.code ⟨"PqOnesOrder","<init>","(I)V"⟩ prog_1_method_1_code 3 none).before args0 about1=true:=code_word (m:=⟨2,0⟩) (meth:=k2m0) (c:=k2c0) (by decide +kernel) rfl rfl rfl (by decide +kernel)
theorem w_c2:(Jvm.Cond.code ⟨"java/lang/Object","<init>","()V"⟩ object_method_1_code 1 none).before args0 about1=true:=code_word (m:=⟨0,0⟩) (meth:=k0m0) (c:=k0c0) (by decide +kernel) rfl rfl rfl (by decide +kernel)
theorem w_c3:(Jvm.Cond.code ⟨"PqOnesOrder","reset","()V"⟩ prog_1_method_3_code 1 none).before args0 about1=true:=code_word (m:=⟨2,2⟩) (meth:=k2m2) (c:=k2c2) (by decide +kernel) rfl rfl rfl (by decide +kernel)
theorem w_c4:(Jvm.Cond.code ⟨"PqOnesOrder","initTree","()V"⟩ prog_1_method_32_code 2 none).before args0 about1=true:=code_word (m:=⟨2,31⟩) (meth:=k2m31) (c:=k2c31) (by decide +kernel) rfl rfl rfl (by decide +kernel)
theorem w_c5:(Jvm.Cond.code ⟨"PqOnesOrder","appendKid","(II)Z"⟩ prog_1_method_30_code 4 (some .boolean)).before args0 about1=true:=code_word (m:=⟨2,29⟩) (meth:=k2m29) (c:=k2c29) (by decide +kernel) rfl rfl rfl (by decide +kernel)
theorem w_c6:(Jvm.Cond.code ⟨"PqOnesOrder","isNode","(I)Z"⟩ prog_1_method_22_code 2 (some .boolean)).before args0 about1=true:=code_word (m:=⟨2,21⟩) (meth:=k2m21) (c:=k2c21) (by decide +kernel) rfl rfl rfl (by decide +kernel)
theorem w_c7:(Jvm.Cond.code ⟨"PqOnesOrder","refreshCaches","()V"⟩ prog_1_method_67_code 1 none).before args0 about1=true:=code_word (m:=⟨2,65⟩) (meth:=k2m65) (c:=k2c65) (by decide +kernel) rfl rfl rfl (by decide +kernel)
theorem w_c8:(Jvm.Cond.code ⟨"PqOnesOrder","computePost","()V"⟩ prog_1_method_37_code 7 none).before args0 about1=true:=code_word (m:=⟨2,36⟩) (meth:=k2m36) (c:=k2c36) (by decide +kernel) rfl rfl rfl (by decide +kernel)
theorem w_c9:(Jvm.Cond.code ⟨"PqOnesOrder","isInner","(I)Z"⟩ prog_1_method_23_code 2 (some .boolean)).before args0 about1=true:=code_word (m:=⟨2,22⟩) (meth:=k2m22) (c:=k2c22) (by decide +kernel) rfl rfl rfl (by decide +kernel)
theorem w_c10:(Jvm.Cond.code ⟨"PqOnesOrder","degreeOf","(I)I"⟩ prog_1_method_24_code 3 (some .int)).before args0 about1=true:=code_word (m:=⟨2,23⟩) (meth:=k2m23) (c:=k2c23) (by decide +kernel) rfl rfl rfl (by decide +kernel)
theorem w_c11:(Jvm.Cond.code ⟨"PqOnesOrder","kidAt","(II)I"⟩ prog_1_method_25_code 3 (some .int)).before args0 about1=true:=code_word (m:=⟨2,24⟩) (meth:=k2m24) (c:=k2c24) (by decide +kernel) rfl rfl rfl (by decide +kernel)
theorem w_c12:(Jvm.Cond.code ⟨"PqOnesOrder","computeFirstAndStart","()V"⟩ prog_1_method_70_code 3 none).before args0 about1=true:=code_word (m:=⟨2,68⟩) (meth:=k2m68) (c:=k2c68) (by decide +kernel) rfl rfl rfl (by decide +kernel)
theorem w_c13:(Jvm.Cond.code ⟨"PqOnesOrder","pFirstStart","(I)V"⟩ prog_1_method_71_code 7 none).before args0 about1=true:=code_word (m:=⟨2,69⟩) (meth:=k2m69) (c:=k2c69) (by decide +kernel) rfl rfl rfl (by decide +kernel)
theorem w_c14:(Jvm.Cond.code ⟨"PqOnesOrder","countFromPost","()I"⟩ prog_1_method_68_code 5 (some .int)).before args0 about1=true:=code_word (m:=⟨2,66⟩) (meth:=k2m66) (c:=k2c66) (by decide +kernel) rfl rfl rfl (by decide +kernel)
theorem w_c15:(Jvm.Cond.code ⟨"PqOnesOrder","factorial","(I)I"⟩ prog_1_method_69_code 4 (some .int)).before args0 about1=true:=code_word (m:=⟨2,67⟩) (meth:=k2m67) (c:=k2c67) (by decide +kernel) rfl rfl rfl (by decide +kernel)
theorem w_c16:(Jvm.Cond.code ⟨"PqOnesOrder","startSetOf","(I)I"⟩ prog_1_method_29_code 2 (some .int)).before args0 about1=true:=code_word (m:=⟨2,28⟩) (meth:=k2m28) (c:=k2c28) (by decide +kernel) rfl rfl rfl (by decide +kernel)
theorem w_c17:(Jvm.Cond.code ⟨"PqOnesOrder","buildLeastOrder","()V"⟩ prog_1_method_73_code 5 none).before args0 about1=true:=code_word (m:=⟨2,71⟩) (meth:=k2m71) (c:=k2c71) (by decide +kernel) rfl rfl rfl (by decide +kernel)
theorem w_c18:(Jvm.Cond.code ⟨"PqOnesOrder","pushPOrdered","(II)I"⟩ prog_1_method_74_code 11 (some .int)).before args0 about1=true:=code_word (m:=⟨2,72⟩) (meth:=k2m72) (c:=k2c72) (by decide +kernel) rfl rfl rfl (by decide +kernel)
theorem w_c19:(Jvm.Cond.code ⟨"PqOnesOrder","fillPositions","()V"⟩ prog_1_method_76_code 3 none).before args0 about1=true:=code_word (m:=⟨2,74⟩) (meth:=k2m74) (c:=k2c74) (by decide +kernel) rfl rfl rfl (by decide +kernel)
theorem w_c20:(Jvm.Cond.code ⟨"PqOnesOrder","classify","(I)I"⟩ prog_1_method_10_code 3 (some .int)).before args0 about1=true:=code_word (m:=⟨2,9⟩) (meth:=k2m9) (c:=k2c9) (by decide +kernel) rfl rfl rfl (by decide +kernel)
theorem w_c21:(Jvm.Cond.code ⟨"PqOnesOrder","inRange","(I)Z"⟩ prog_1_method_20_code 3 (some .boolean)).before args0 about1=true:=code_word (m:=⟨2,19⟩) (meth:=k2m19) (c:=k2c19) (by decide +kernel) rfl rfl rfl (by decide +kernel)
theorem w_c22:(Jvm.Cond.code ⟨"PqOnesOrder","allMask","()I"⟩ prog_1_method_19_code 1 (some .int)).before args0 about1=true:=code_word (m:=⟨2,18⟩) (meth:=k2m18) (c:=k2c18) (by decide +kernel) rfl rfl rfl (by decide +kernel)
theorem w_c23:(Jvm.Cond.code ⟨"PqOnesOrder","verdict","(I)I"⟩ prog_1_method_18_code 3 (some .int)).before args0 about1=true:=code_word (m:=⟨2,17⟩) (meth:=k2m17) (c:=k2c17) (by decide +kernel) rfl rfl rfl (by decide +kernel)
theorem w_c24:(Jvm.Cond.code ⟨"PqOnesOrder","isTrivial","(I)Z"⟩ prog_1_method_21_code 4 (some .boolean)).before args0 about1=true:=code_word (m:=⟨2,20⟩) (meth:=k2m20) (c:=k2c20) (by decide +kernel) rfl rfl rfl (by decide +kernel)
theorem w_c25:(Jvm.Cond.code ⟨"PqOnesOrder","addRowMask","(I)I"⟩ prog_1_method_9_code 2 (some .int)).before args0 about1=true:=code_word (m:=⟨2,8⟩) (meth:=k2m8) (c:=k2c8) (by decide +kernel) rfl rfl rfl (by decide +kernel)
theorem w_c26:(Jvm.Cond.code ⟨"PqOnesOrder","addMask","(I)I"⟩ prog_1_method_17_code 3 (some .int)).before args0 about1=true:=code_word (m:=⟨2,16⟩) (meth:=k2m16) (c:=k2c16) (by decide +kernel) rfl rfl rfl (by decide +kernel)
theorem w_c27:(Jvm.Cond.code ⟨"PqOnesOrder","countOrders","()I"⟩ prog_1_method_11_code 1 (some .int)).before args0 about1=true:=code_word (m:=⟨2,10⟩) (meth:=k2m10) (c:=k2c10) (by decide +kernel) rfl rfl rfl (by decide +kernel)
theorem w_c28:(Jvm.Cond.code ⟨"PqOnesOrder","columns","()I"⟩ prog_1_method_2_code 1 (some .int)).before args0 about1=true:=code_word (m:=⟨2,1⟩) (meth:=k2m1) (c:=k2c1) (by decide +kernel) rfl rfl rfl (by decide +kernel)
theorem w_c29:(Jvm.Cond.code ⟨"PqOnesOrder","pendingMask","()I"⟩ prog_1_method_7_code 1 (some .int)).before args0 about1=true:=code_word (m:=⟨2,6⟩) (meth:=k2m6) (c:=k2c6) (by decide +kernel) rfl rfl rfl (by decide +kernel)
theorem w_c30:(Jvm.Cond.code ⟨"PqOnesOrder","acceptedRows","()I"⟩ prog_1_method_15_code 1 (some .int)).before args0 about1=true:=code_word (m:=⟨2,14⟩) (meth:=k2m14) (c:=k2c14) (by decide +kernel) rfl rfl rfl (by decide +kernel)
theorem w_c31:(Jvm.Cond.code ⟨"PqOnesOrder","rejectedRows","()I"⟩ prog_1_method_16_code 1 (some .int)).before args0 about1=true:=code_word (m:=⟨2,15⟩) (meth:=k2m15) (c:=k2c15) (by decide +kernel) rfl rfl rfl (by decide +kernel)
theorem w_c32:(Jvm.Cond.code ⟨"PqOnesOrderL6","perm","(LPqOnesOrder;)Z"⟩ method_2_code 4 (some .boolean)).before args0 about1=true:=code_word (m:=⟨1,1⟩) (meth:=k1m1) (c:=k1c1) (by decide +kernel) rfl rfl rfl (by decide +kernel)
theorem w_c33:(Jvm.Cond.code ⟨"PqOnesOrder","leastOrderAt","(I)I"⟩ prog_1_method_12_code 2 (some .int)).before args0 about1=true:=code_word (m:=⟨2,11⟩) (meth:=k2m11) (c:=k2c11) (by decide +kernel) rfl rfl rfl (by decide +kernel)
theorem w_c34:(Jvm.Cond.code ⟨"PqOnesOrder","leastPositionOf","(I)I"⟩ prog_1_method_13_code 2 (some .int)).before args0 about1=true:=code_word (m:=⟨2,12⟩) (meth:=k2m12) (c:=k2c12) (by decide +kernel) rfl rfl rfl (by decide +kernel)
theorem w_c35:(Jvm.Cond.code ⟨"PqOnesOrderL6","consec","(LPqOnesOrder;I)Z"⟩ method_3_code 7 (some .boolean)).before args0 about1=true:=code_word (m:=⟨1,2⟩) (meth:=k1m2) (c:=k1c2) (by decide +kernel) rfl rfl rfl (by decide +kernel)
theorem w_c36:(Jvm.Cond.code ⟨"PqOnesOrder","startMask","()I"⟩ prog_1_method_14_code 1 (some .int)).before args0 about1=true:=code_word (m:=⟨2,13⟩) (meth:=k2m13) (c:=k2c13) (by decide +kernel) rfl rfl rfl (by decide +kernel)
theorem w_c37:(Jvm.Cond.code ⟨"PqOnesOrder","removeColumn","(I)Z"⟩ prog_1_method_6_code 2 (some .boolean)).before args0 about1=true:=code_word (m:=⟨2,5⟩) (meth:=k2m5) (c:=k2c5) (by decide +kernel) rfl rfl rfl (by decide +kernel)
theorem w_c38:(Jvm.Cond.code ⟨"PqOnesOrder","commitRow","()I"⟩ prog_1_method_8_code 4 (some .int)).before args0 about1=true:=code_word (m:=⟨2,7⟩) (meth:=k2m7) (c:=k2c7) (by decide +kernel) rfl rfl rfl (by decide +kernel)
theorem w_c39:(Jvm.Cond.code ⟨"PqOnesOrder","addColumn","(I)Z"⟩ prog_1_method_5_code 2 (some .boolean)).before args0 about1=true:=code_word (m:=⟨2,4⟩) (meth:=k2m4) (c:=k2c4) (by decide +kernel) rfl rfl rfl (by decide +kernel)
theorem w_c40:(Jvm.Cond.code ⟨"PqOnesOrder","saveTree","()V"⟩ prog_1_method_35_code 2 none).before args0 about1=true:=code_word (m:=⟨2,34⟩) (meth:=k2m34) (c:=k2c34) (by decide +kernel) rfl rfl rfl (by decide +kernel)
theorem w_c41:(Jvm.Cond.code ⟨"PqOnesOrder","reduce","(I)Z"⟩ prog_1_method_43_code 5 (some .boolean)).before args0 about1=true:=code_word (m:=⟨2,41⟩) (meth:=k2m41) (c:=k2c41) (by decide +kernel) rfl rfl rfl (by decide +kernel)
theorem w_c42:(Jvm.Cond.code ⟨"PqOnesOrder","computeLeafSets","()V"⟩ prog_1_method_38_code 7 none).before args0 about1=true:=code_word (m:=⟨2,37⟩) (meth:=k2m37) (c:=k2c37) (by decide +kernel) rfl rfl rfl (by decide +kernel)
theorem w_c43:(Jvm.Cond.code ⟨"PqOnesOrder","labelLeaves","(I)V"⟩ prog_1_method_44_code 3 none).before args0 about1=true:=code_word (m:=⟨2,42⟩) (meth:=k2m42) (c:=k2c42) (by decide +kernel) rfl rfl rfl (by decide +kernel)
theorem w_c44:(Jvm.Cond.code ⟨"PqOnesOrder","findPertinentRoot","(I)I"⟩ prog_1_method_45_code 4 (some .int)).before args0 about1=true:=code_word (m:=⟨2,43⟩) (meth:=k2m43) (c:=k2c43) (by decide +kernel) rfl rfl rfl (by decide +kernel)
theorem w_c45:(Jvm.Cond.code ⟨"PqOnesOrder","reduceRoot","(I)Z"⟩ prog_1_method_47_code 2 (some .boolean)).before args0 about1=true:=code_word (m:=⟨2,45⟩) (meth:=k2m45) (c:=k2c45) (by decide +kernel) rfl rfl rfl (by decide +kernel)
theorem w_c46:(Jvm.Cond.code ⟨"PqOnesOrder","pRoot","(I)Z"⟩ prog_1_method_60_code 2 (some .boolean)).before args0 about1=true:=code_word (m:=⟨2,58⟩) (meth:=k2m58) (c:=k2c58) (by decide +kernel) rfl rfl rfl (by decide +kernel)
theorem w_c47:(Jvm.Cond.code ⟨"PqOnesOrder","sortKids","(I)V"⟩ prog_1_method_48_code 6 none).before args0 about1=true:=code_word (m:=⟨2,46⟩) (meth:=k2m46) (c:=k2c46) (by decide +kernel) rfl rfl rfl (by decide +kernel)
theorem w_c48:(Jvm.Cond.code ⟨"PqOnesOrder","labelOf","(I)I"⟩ prog_1_method_27_code 2 (some .int)).before args0 about1=true:=code_word (m:=⟨2,26⟩) (meth:=k2m26) (c:=k2c26) (by decide +kernel) rfl rfl rfl (by decide +kernel)
theorem w_c49:(Jvm.Cond.code ⟨"PqOnesOrder","pRootNoPartial","(I)Z"⟩ prog_1_method_61_code 3 (some .boolean)).before args0 about1=true:=code_word (m:=⟨2,59⟩) (meth:=k2m59) (c:=k2c59) (by decide +kernel) rfl rfl rfl (by decide +kernel)
theorem w_c50:(Jvm.Cond.code ⟨"PqOnesOrder","groupOf","(Z)I"⟩ prog_1_method_49_code 7 (some .int)).before args0 about1=true:=code_word (m:=⟨2,47⟩) (meth:=k2m47) (c:=k2c47) (by decide +kernel) rfl rfl rfl (by decide +kernel)
theorem w_c51:(Jvm.Cond.code ⟨"PqOnesOrder","allocNode","(II)I"⟩ prog_1_method_33_code 4 (some .int)).before args0 about1=true:=code_word (m:=⟨2,32⟩) (meth:=k2m32) (c:=k2c32) (by decide +kernel) rfl rfl rfl (by decide +kernel)
theorem w_c52:(Jvm.Cond.code ⟨"PqOnesOrder","clearKids","(I)V"⟩ prog_1_method_31_code 4 none).before args0 about1=true:=code_word (m:=⟨2,30⟩) (meth:=k2m30) (c:=k2c30) (by decide +kernel) rfl rfl rfl (by decide +kernel)
theorem w_c53:(Jvm.Cond.code ⟨"PqOnesOrder","seqStart","()V"⟩ prog_1_method_50_code 1 none).before args0 about1=true:=code_word (m:=⟨2,48⟩) (meth:=k2m48) (c:=k2c48) (by decide +kernel) rfl rfl rfl (by decide +kernel)
theorem w_c54:(Jvm.Cond.code ⟨"PqOnesOrder","seqPushEmpties","()V"⟩ prog_1_method_52_code 2 none).before args0 about1=true:=code_word (m:=⟨2,50⟩) (meth:=k2m50) (c:=k2c50) (by decide +kernel) rfl rfl rfl (by decide +kernel)
theorem w_c55:(Jvm.Cond.code ⟨"PqOnesOrder","seqPush","(I)V"⟩ prog_1_method_51_code 2 none).before args0 about1=true:=code_word (m:=⟨2,49⟩) (meth:=k2m49) (c:=k2c49) (by decide +kernel) rfl rfl rfl (by decide +kernel)
theorem w_c56:(Jvm.Cond.code ⟨"PqOnesOrder","installSeq","(I)Z"⟩ prog_1_method_54_code 3 (some .boolean)).before args0 about1=true:=code_word (m:=⟨2,52⟩) (meth:=k2m52) (c:=k2c52) (by decide +kernel) rfl rfl rfl (by decide +kernel)
theorem w_c57:(Jvm.Cond.code ⟨"PqOnesOrder","normalize","()V"⟩ prog_1_method_40_code 3 none).before args0 about1=true:=code_word (m:=⟨2,39⟩) (meth:=k2m39) (c:=k2c39) (by decide +kernel) rfl rfl rfl (by decide +kernel)
theorem w_c58:(Jvm.Cond.code ⟨"PqOnesOrder","findSingleKid","()I"⟩ prog_1_method_41_code 4 (some .int)).before args0 about1=true:=code_word (m:=⟨2,40⟩) (meth:=k2m40) (c:=k2c40) (by decide +kernel) rfl rfl rfl (by decide +kernel)
theorem w_c59:(Jvm.Cond.code ⟨"PqOnesOrder","collectGarbage","()V"⟩ prog_1_method_39_code 3 none).before args0 about1=true:=code_word (m:=⟨2,38⟩) (meth:=k2m38) (c:=k2c38) (by decide +kernel) rfl rfl rfl (by decide +kernel)
theorem w_c60:(Jvm.Cond.code ⟨"PqOnesOrder","restoreTree","()V"⟩ prog_1_method_36_code 2 none).before args0 about1=true:=code_word (m:=⟨2,35⟩) (meth:=k2m35) (c:=k2c35) (by decide +kernel) rfl rfl rfl (by decide +kernel)
theorem w_c61:(Jvm.Cond.code ⟨"PqOnesOrder","reduceInner","(I)Z"⟩ prog_1_method_46_code 2 (some .boolean)).before args0 about1=true:=code_word (m:=⟨2,44⟩) (meth:=k2m44) (c:=k2c44) (by decide +kernel) rfl rfl rfl (by decide +kernel)
theorem w_c62:(Jvm.Cond.code ⟨"PqOnesOrder","pInner","(I)Z"⟩ prog_1_method_58_code 5 (some .boolean)).before args0 about1=true:=code_word (m:=⟨2,56⟩) (meth:=k2m56) (c:=k2c56) (by decide +kernel) rfl rfl rfl (by decide +kernel)
theorem w_c63:(Jvm.Cond.code ⟨"PqOnesOrder","freeNode","(I)V"⟩ prog_1_method_34_code 2 none).before args0 about1=true:=code_word (m:=⟨2,33⟩) (meth:=k2m33) (c:=k2c33) (by decide +kernel) rfl rfl rfl (by decide +kernel)
theorem w_c64:(Jvm.Cond.code ⟨"PqOnesOrder","pRootOnePartial","(I)Z"⟩ prog_1_method_62_code 4 (some .boolean)).before args0 about1=true:=code_word (m:=⟨2,60⟩) (meth:=k2m60) (c:=k2c60) (by decide +kernel) rfl rfl rfl (by decide +kernel)
theorem w_c65:(Jvm.Cond.code ⟨"PqOnesOrder","seqPushKids","(IZ)V"⟩ prog_1_method_53_code 7 none).before args0 about1=true:=code_word (m:=⟨2,51⟩) (meth:=k2m51) (c:=k2c51) (by decide +kernel) rfl rfl rfl (by decide +kernel)
theorem w_c66:(Jvm.Cond.code ⟨"PqOnesOrder","qFirstStart","(I)V"⟩ prog_1_method_72_code 9 none).before args0 about1=true:=code_word (m:=⟨2,70⟩) (meth:=k2m70) (c:=k2c70) (by decide +kernel) rfl rfl rfl (by decide +kernel)
theorem w_c67:(Jvm.Cond.code ⟨"PqOnesOrder","firstLeastOf","(I)I"⟩ prog_1_method_28_code 2 (some .int)).before args0 about1=true:=code_word (m:=⟨2,27⟩) (meth:=k2m27) (c:=k2c27) (by decide +kernel) rfl rfl rfl (by decide +kernel)
theorem w_c68:(Jvm.Cond.code ⟨"PqOnesOrder","pushQOrdered","(II)I"⟩ prog_1_method_75_code 12 (some .int)).before args0 about1=true:=code_word (m:=⟨2,73⟩) (meth:=k2m73) (c:=k2c73) (by decide +kernel) rfl rfl rfl (by decide +kernel)
theorem w_c69:(Jvm.Cond.code ⟨"PqOnesOrder","qRoot","(I)Z"⟩ prog_1_method_66_code 9 (some .boolean)).before args0 about1=true:=code_word (m:=⟨2,64⟩) (meth:=k2m64) (c:=k2c64) (by decide +kernel) rfl rfl rfl (by decide +kernel)
theorem w_c70:(Jvm.Cond.code ⟨"PqOnesOrder","firstNonEmpty","(I)I"⟩ prog_1_method_64_code 5 (some .int)).before args0 about1=true:=code_word (m:=⟨2,62⟩) (meth:=k2m62) (c:=k2c62) (by decide +kernel) rfl rfl rfl (by decide +kernel)
theorem w_c71:(Jvm.Cond.code ⟨"PqOnesOrder","lastNonEmpty","(I)I"⟩ prog_1_method_65_code 5 (some .int)).before args0 about1=true:=code_word (m:=⟨2,63⟩) (meth:=k2m63) (c:=k2c63) (by decide +kernel) rfl rfl rfl (by decide +kernel)
theorem w_c72:(Jvm.Cond.code ⟨"PqOnesOrder","qInner","(I)Z"⟩ prog_1_method_59_code 7 (some .boolean)).before args0 about1=true:=code_word (m:=⟨2,57⟩) (meth:=k2m57) (c:=k2c57) (by decide +kernel) rfl rfl rfl (by decide +kernel)
theorem w_c73:(Jvm.Cond.code ⟨"PqOnesOrder","direction","(I)I"⟩ prog_1_method_57_code 10 (some .int)).before args0 about1=true:=code_word (m:=⟨2,55⟩) (meth:=k2m55) (c:=k2c55) (by decide +kernel) rfl rfl rfl (by decide +kernel)
theorem w_c74:(Jvm.Cond.code ⟨"PqOnesOrder","rankOf","(I)I"⟩ prog_1_method_56_code 2 (some .int)).before args0 about1=true:=code_word (m:=⟨2,54⟩) (meth:=k2m54) (c:=k2c54) (by decide +kernel) rfl rfl rfl (by decide +kernel)
theorem w_c75:(Jvm.Cond.code ⟨"PqOnesOrder","reverseKids","(I)V"⟩ prog_1_method_55_code 7 none).before args0 about1=true:=code_word (m:=⟨2,53⟩) (meth:=k2m53) (c:=k2c53) (by decide +kernel) rfl rfl rfl (by decide +kernel)
theorem w_c76:(Jvm.Cond.code ⟨"PqOnesOrder","putKid","(III)V"⟩ prog_1_method_26_code 4 none).before args0 about1=true:=code_word (m:=⟨2,25⟩) (meth:=k2m25) (c:=k2c25) (by decide +kernel) rfl rfl rfl (by decide +kernel)
theorem w_c77:(Jvm.Cond.code ⟨"PqOnesOrder","clearRow","()V"⟩ prog_1_method_4_code 1 none).before args0 about1=true:=code_word (m:=⟨2,3⟩) (meth:=k2m3) (c:=k2c3) (by decide +kernel) rfl rfl rfl (by decide +kernel)
theorem w_c78:(Jvm.Cond.code ⟨"PqOnesOrder","pRootTwoPartial","(I)Z"⟩ prog_1_method_63_code 5 (some .boolean)).before args0 about1=true:=code_word (m:=⟨2,61⟩) (meth:=k2m61) (c:=k2c61) (by decide +kernel) rfl rfl rfl (by decide +kernel)
def codes1:List Jvm.Cond:=[Jvm.Cond.code x code maxLocals ret,Jvm.Cond.code ⟨"PqOnesOrder","<init>","(I)V"⟩ prog_1_method_1_code 3 none,Jvm.Cond.code ⟨"java/lang/Object","<init>","()V"⟩ object_method_1_code 1 none,Jvm.Cond.code ⟨"PqOnesOrder","reset","()V"⟩ prog_1_method_3_code 1 none,Jvm.Cond.code ⟨"PqOnesOrder","initTree","()V"⟩ prog_1_method_32_code 2 none,Jvm.Cond.code ⟨"PqOnesOrder","appendKid","(II)Z"⟩ prog_1_method_30_code 4 (some .boolean),Jvm.Cond.code ⟨"PqOnesOrder","isNode","(I)Z"⟩ prog_1_method_22_code 2 (some .boolean),Jvm.Cond.code ⟨"PqOnesOrder","refreshCaches","()V"⟩ prog_1_method_67_code 1 none,Jvm.Cond.code ⟨"PqOnesOrder","computePost","()V"⟩ prog_1_method_37_code 7 none,Jvm.Cond.code ⟨"PqOnesOrder","isInner","(I)Z"⟩ prog_1_method_23_code 2 (some .boolean),Jvm.Cond.code ⟨"PqOnesOrder","degreeOf","(I)I"⟩ prog_1_method_24_code 3 (some .int),Jvm.Cond.code ⟨"PqOnesOrder","kidAt","(II)I"⟩ prog_1_method_25_code 3 (some .int),Jvm.Cond.code ⟨"PqOnesOrder","computeFirstAndStart","()V"⟩ prog_1_method_70_code 3 none,Jvm.Cond.code ⟨"PqOnesOrder","pFirstStart","(I)V"⟩ prog_1_method_71_code 7 none,Jvm.Cond.code ⟨"PqOnesOrder","countFromPost","()I"⟩ prog_1_method_68_code 5 (some .int),Jvm.Cond.code ⟨"PqOnesOrder","factorial","(I)I"⟩ prog_1_method_69_code 4 (some .int),Jvm.Cond.code ⟨"PqOnesOrder","startSetOf","(I)I"⟩ prog_1_method_29_code 2 (some .int),Jvm.Cond.code ⟨"PqOnesOrder","buildLeastOrder","()V"⟩ prog_1_method_73_code 5 none,Jvm.Cond.code ⟨"PqOnesOrder","pushPOrdered","(II)I"⟩ prog_1_method_74_code 11 (some .int),Jvm.Cond.code ⟨"PqOnesOrder","fillPositions","()V"⟩ prog_1_method_76_code 3 none,Jvm.Cond.code ⟨"PqOnesOrder","classify","(I)I"⟩ prog_1_method_10_code 3 (some .int),Jvm.Cond.code ⟨"PqOnesOrder","inRange","(I)Z"⟩ prog_1_method_20_code 3 (some .boolean),Jvm.Cond.code ⟨"PqOnesOrder","allMask","()I"⟩ prog_1_method_19_code 1 (some .int),Jvm.Cond.code ⟨"PqOnesOrder","verdict","(I)I"⟩ prog_1_method_18_code 3 (some .int),Jvm.Cond.code ⟨"PqOnesOrder","isTrivial","(I)Z"⟩ prog_1_method_21_code 4 (some .boolean),Jvm.Cond.code ⟨"PqOnesOrder","addRowMask","(I)I"⟩ prog_1_method_9_code 2 (some .int),Jvm.Cond.code ⟨"PqOnesOrder","addMask","(I)I"⟩ prog_1_method_17_code 3 (some .int),Jvm.Cond.code ⟨"PqOnesOrder","countOrders","()I"⟩ prog_1_method_11_code 1 (some .int),Jvm.Cond.code ⟨"PqOnesOrder","columns","()I"⟩ prog_1_method_2_code 1 (some .int),Jvm.Cond.code ⟨"PqOnesOrder","pendingMask","()I"⟩ prog_1_method_7_code 1 (some .int),Jvm.Cond.code ⟨"PqOnesOrder","acceptedRows","()I"⟩ prog_1_method_15_code 1 (some .int),Jvm.Cond.code ⟨"PqOnesOrder","rejectedRows","()I"⟩ prog_1_method_16_code 1 (some .int),Jvm.Cond.code ⟨"PqOnesOrderL6","perm","(LPqOnesOrder;)Z"⟩ method_2_code 4 (some .boolean),Jvm.Cond.code ⟨"PqOnesOrder","leastOrderAt","(I)I"⟩ prog_1_method_12_code 2 (some .int),Jvm.Cond.code ⟨"PqOnesOrder","leastPositionOf","(I)I"⟩ prog_1_method_13_code 2 (some .int),Jvm.Cond.code ⟨"PqOnesOrderL6","consec","(LPqOnesOrder;I)Z"⟩ method_3_code 7 (some .boolean),Jvm.Cond.code ⟨"PqOnesOrder","startMask","()I"⟩ prog_1_method_14_code 1 (some .int),Jvm.Cond.code ⟨"PqOnesOrder","removeColumn","(I)Z"⟩ prog_1_method_6_code 2 (some .boolean),Jvm.Cond.code ⟨"PqOnesOrder","commitRow","()I"⟩ prog_1_method_8_code 4 (some .int),Jvm.Cond.code ⟨"PqOnesOrder","addColumn","(I)Z"⟩ prog_1_method_5_code 2 (some .boolean),Jvm.Cond.code ⟨"PqOnesOrder","saveTree","()V"⟩ prog_1_method_35_code 2 none,Jvm.Cond.code ⟨"PqOnesOrder","reduce","(I)Z"⟩ prog_1_method_43_code 5 (some .boolean),Jvm.Cond.code ⟨"PqOnesOrder","computeLeafSets","()V"⟩ prog_1_method_38_code 7 none,Jvm.Cond.code ⟨"PqOnesOrder","labelLeaves","(I)V"⟩ prog_1_method_44_code 3 none,Jvm.Cond.code ⟨"PqOnesOrder","findPertinentRoot","(I)I"⟩ prog_1_method_45_code 4 (some .int),Jvm.Cond.code ⟨"PqOnesOrder","reduceRoot","(I)Z"⟩ prog_1_method_47_code 2 (some .boolean),Jvm.Cond.code ⟨"PqOnesOrder","pRoot","(I)Z"⟩ prog_1_method_60_code 2 (some .boolean),Jvm.Cond.code ⟨"PqOnesOrder","sortKids","(I)V"⟩ prog_1_method_48_code 6 none,Jvm.Cond.code ⟨"PqOnesOrder","labelOf","(I)I"⟩ prog_1_method_27_code 2 (some .int),Jvm.Cond.code ⟨"PqOnesOrder","pRootNoPartial","(I)Z"⟩ prog_1_method_61_code 3 (some .boolean),Jvm.Cond.code ⟨"PqOnesOrder","groupOf","(Z)I"⟩ prog_1_method_49_code 7 (some .int),Jvm.Cond.code ⟨"PqOnesOrder","allocNode","(II)I"⟩ prog_1_method_33_code 4 (some .int),Jvm.Cond.code ⟨"PqOnesOrder","clearKids","(I)V"⟩ prog_1_method_31_code 4 none,Jvm.Cond.code ⟨"PqOnesOrder","seqStart","()V"⟩ prog_1_method_50_code 1 none,Jvm.Cond.code ⟨"PqOnesOrder","seqPushEmpties","()V"⟩ prog_1_method_52_code 2 none,Jvm.Cond.code ⟨"PqOnesOrder","seqPush","(I)V"⟩ prog_1_method_51_code 2 none,Jvm.Cond.code ⟨"PqOnesOrder","installSeq","(I)Z"⟩ prog_1_method_54_code 3 (some .boolean),Jvm.Cond.code ⟨"PqOnesOrder","normalize","()V"⟩ prog_1_method_40_code 3 none,Jvm.Cond.code ⟨"PqOnesOrder","findSingleKid","()I"⟩ prog_1_method_41_code 4 (some .int),Jvm.Cond.code ⟨"PqOnesOrder","collectGarbage","()V"⟩ prog_1_method_39_code 3 none,Jvm.Cond.code ⟨"PqOnesOrder","restoreTree","()V"⟩ prog_1_method_36_code 2 none,Jvm.Cond.code ⟨"PqOnesOrder","reduceInner","(I)Z"⟩ prog_1_method_46_code 2 (some .boolean),Jvm.Cond.code ⟨"PqOnesOrder","pInner","(I)Z"⟩ prog_1_method_58_code 5 (some .boolean),Jvm.Cond.code ⟨"PqOnesOrder","freeNode","(I)V"⟩ prog_1_method_34_code 2 none,Jvm.Cond.code ⟨"PqOnesOrder","pRootOnePartial","(I)Z"⟩ prog_1_method_62_code 4 (some .boolean),Jvm.Cond.code ⟨"PqOnesOrder","seqPushKids","(IZ)V"⟩ prog_1_method_53_code 7 none,Jvm.Cond.code ⟨"PqOnesOrder","qFirstStart","(I)V"⟩ prog_1_method_72_code 9 none,Jvm.Cond.code ⟨"PqOnesOrder","firstLeastOf","(I)I"⟩ prog_1_method_28_code 2 (some .int),Jvm.Cond.code ⟨"PqOnesOrder","pushQOrdered","(II)I"⟩ prog_1_method_75_code 12 (some .int),Jvm.Cond.code ⟨"PqOnesOrder","qRoot","(I)Z"⟩ prog_1_method_66_code 9 (some .boolean),Jvm.Cond.code ⟨"PqOnesOrder","firstNonEmpty","(I)I"⟩ prog_1_method_64_code 5 (some .int),Jvm.Cond.code ⟨"PqOnesOrder","lastNonEmpty","(I)I"⟩ prog_1_method_65_code 5 (some .int),Jvm.Cond.code ⟨"PqOnesOrder","qInner","(I)Z"⟩ prog_1_method_59_code 7 (some .boolean),Jvm.Cond.code ⟨"PqOnesOrder","direction","(I)I"⟩ prog_1_method_57_code 10 (some .int),Jvm.Cond.code ⟨"PqOnesOrder","rankOf","(I)I"⟩ prog_1_method_56_code 2 (some .int),Jvm.Cond.code ⟨"PqOnesOrder","reverseKids","(I)V"⟩ prog_1_method_55_code 7 none,Jvm.Cond.code ⟨"PqOnesOrder","putKid","(III)V"⟩ prog_1_method_26_code 4 none,Jvm.Cond.code ⟨"PqOnesOrder","clearRow","()V"⟩ prog_1_method_4_code 1 none,Jvm.Cond.code ⟨"PqOnesOrder","pRootTwoPartial","(I)Z"⟩ prog_1_method_63_code 5 (some .boolean)]
theorem codes_eq:words1.filter isCode=codes1:=rfl
theorem w_codes:∀c∈words1.filter isCode,c.before args0 about1=true:=by
  rw[codes_eq]
  intro c hc
  simp only[codes1,List.mem_cons,List.not_mem_nil,or_false] at hc
  rcases hc with rfl | rfl | rfl | rfl | rfl | rfl | rfl | rfl | rfl | rfl | rfl | rfl | rfl | rfl | rfl | rfl | rfl | rfl | rfl | rfl | rfl | rfl | rfl | rfl | rfl | rfl | rfl | rfl | rfl | rfl | rfl | rfl | rfl | rfl | rfl | rfl | rfl | rfl | rfl | rfl | rfl | rfl | rfl | rfl | rfl | rfl | rfl | rfl | rfl | rfl | rfl | rfl | rfl | rfl | rfl | rfl | rfl | rfl | rfl | rfl | rfl | rfl | rfl | rfl | rfl | rfl | rfl | rfl | rfl | rfl | rfl | rfl | rfl | rfl | rfl | rfl | rfl | rfl | rfl
  · exact w_c0
  · exact w_c1
  · exact w_c2
  · exact w_c3
  · exact w_c4
  · exact w_c5
  · exact w_c6
  · exact w_c7
  · exact w_c8
  · exact w_c9
  · exact w_c10
  · exact w_c11
  · exact w_c12
  · exact w_c13
  · exact w_c14
  · exact w_c15
  · exact w_c16
  · exact w_c17
  · exact w_c18
  · exact w_c19
  · exact w_c20
  · exact w_c21
  · exact w_c22
  · exact w_c23
  · exact w_c24
  · exact w_c25
  · exact w_c26
  · exact w_c27
  · exact w_c28
  · exact w_c29
  · exact w_c30
  · exact w_c31
  · exact w_c32
  · exact w_c33
  · exact w_c34
  · exact w_c35
  · exact w_c36
  · exact w_c37
  · exact w_c38
  · exact w_c39
  · exact w_c40
  · exact w_c41
  · exact w_c42
  · exact w_c43
  · exact w_c44
  · exact w_c45
  · exact w_c46
  · exact w_c47
  · exact w_c48
  · exact w_c49
  · exact w_c50
  · exact w_c51
  · exact w_c52
  · exact w_c53
  · exact w_c54
  · exact w_c55
  · exact w_c56
  · exact w_c57
  · exact w_c58
  · exact w_c59
  · exact w_c60
  · exact w_c61
  · exact w_c62
  · exact w_c63
  · exact w_c64
  · exact w_c65
  · exact w_c66
  · exact w_c67
  · exact w_c68
  · exact w_c69
  · exact w_c70
  · exact w_c71
  · exact w_c72
  · exact w_c73
  · exact w_c74
  · exact w_c75
  · exact w_c76
  · exact w_c77
  · exact w_c78
theorem w_t1:(words1.take 24).all (fun c=>isCode c||c.before args0 about1)=true:=by decide +kernel
theorem w_t2:((words1.drop 24).take 24).all (fun c=>isCode c||c.before args0 about1)=true:=by decide +kernel
theorem w_t3:(((words1.drop 24).drop 24).take 24).all (fun c=>isCode c||c.before args0 about1)=true:=by decide +kernel
theorem w_t4:((((words1.drop 24).drop 24).drop 24).take 24).all (fun c=>isCode c||c.before args0 about1)=true:=by decide +kernel
theorem w_t5:(((((words1.drop 24).drop 24).drop 24).drop 24).take 24).all (fun c=>isCode c||c.before args0 about1)=true:=by decide +kernel
theorem w_t6:((((((words1.drop 24).drop 24).drop 24).drop 24).drop 24).take 24).all (fun c=>isCode c||c.before args0 about1)=true:=by decide +kernel
theorem w_t7:(((((((words1.drop 24).drop 24).drop 24).drop 24).drop 24).drop 24).take 24).all (fun c=>isCode c||c.before args0 about1)=true:=by decide +kernel
theorem w_t8:((((((((words1.drop 24).drop 24).drop 24).drop 24).drop 24).drop 24).drop 24).take 24).all (fun c=>isCode c||c.before args0 about1)=true:=by decide +kernel
theorem w_t9:(((((((((words1.drop 24).drop 24).drop 24).drop 24).drop 24).drop 24).drop 24).drop 24).take 24).all (fun c=>isCode c||c.before args0 about1)=true:=by decide +kernel
theorem w_t10:((((((((((words1.drop 24).drop 24).drop 24).drop 24).drop 24).drop 24).drop 24).drop 24).drop 24).take 24).all (fun c=>isCode c||c.before args0 about1)=true:=by decide +kernel
theorem w_t11:(((((((((((words1.drop 24).drop 24).drop 24).drop 24).drop 24).drop 24).drop 24).drop 24).drop 24).drop 24).take 24).all (fun c=>isCode c||c.before args0 about1)=true:=by decide +kernel
theorem w_t12:((((((((((((words1.drop 24).drop 24).drop 24).drop 24).drop 24).drop 24).drop 24).drop 24).drop 24).drop 24).drop 24).take 24).all (fun c=>isCode c||c.before args0 about1)=true:=by decide +kernel
theorem w_t13:(((((((((((((words1.drop 24).drop 24).drop 24).drop 24).drop 24).drop 24).drop 24).drop 24).drop 24).drop 24).drop 24).drop 24).take 24).all (fun c=>isCode c||c.before args0 about1)=true:=by decide +kernel
theorem w_t14:((((((((((((((words1.drop 24).drop 24).drop 24).drop 24).drop 24).drop 24).drop 24).drop 24).drop 24).drop 24).drop 24).drop 24).drop 24).take 24).all (fun c=>isCode c||c.before args0 about1)=true:=by decide +kernel
theorem w_t15:(((((((((((((((words1.drop 24).drop 24).drop 24).drop 24).drop 24).drop 24).drop 24).drop 24).drop 24).drop 24).drop 24).drop 24).drop 24).drop 24).take 24).all (fun c=>isCode c||c.before args0 about1)=true:=by decide +kernel
theorem w_t16:((((((((((((((((words1.drop 24).drop 24).drop 24).drop 24).drop 24).drop 24).drop 24).drop 24).drop 24).drop 24).drop 24).drop 24).drop 24).drop 24).drop 24).take 24).all (fun c=>isCode c||c.before args0 about1)=true:=by decide +kernel
theorem w_t17:(((((((((((((((((words1.drop 24).drop 24).drop 24).drop 24).drop 24).drop 24).drop 24).drop 24).drop 24).drop 24).drop 24).drop 24).drop 24).drop 24).drop 24).drop 24).take 24).all (fun c=>isCode c||c.before args0 about1)=true:=by decide +kernel
theorem w_t18:(((((((((((((((((words1.drop 24).drop 24).drop 24).drop 24).drop 24).drop 24).drop 24).drop 24).drop 24).drop 24).drop 24).drop 24).drop 24).drop 24).drop 24).drop 24).drop 24).all (fun c=>isCode c||c.before args0 about1)=true:=by decide +kernel
theorem w_tables:(allAtoms (Jvm.Cond.code x code maxLocals ret::tables_1)).before args0 about1=true:=by
  rw[allAtoms_all]
  show words1.all (fun c=>c.before args0 about1)=true
  refine all_split ?_ w_codes
  rw[←List.take_append_drop 24 words1,List.all_append,w_t1,←List.take_append_drop 24 (words1.drop 24),List.all_append,w_t2,←List.take_append_drop 24 ((words1.drop 24).drop 24),List.all_append,w_t3,←List.take_append_drop 24 (((words1.drop 24).drop 24).drop 24),List.all_append,w_t4,←List.take_append_drop 24 ((((words1.drop 24).drop 24).drop 24).drop 24),List.all_append,w_t5,←List.take_append_drop 24 (((((words1.drop 24).drop 24).drop 24).drop 24).drop 24),List.all_append,w_t6,←List.take_append_drop 24 ((((((words1.drop 24).drop 24).drop 24).drop 24).drop 24).drop 24),List.all_append,w_t7,←List.take_append_drop 24 (((((((words1.drop 24).drop 24).drop 24).drop 24).drop 24).drop 24).drop 24),List.all_append,w_t8,←List.take_append_drop 24 ((((((((words1.drop 24).drop 24).drop 24).drop 24).drop 24).drop 24).drop 24).drop 24),List.all_append,w_t9,←List.take_append_drop 24 (((((((((words1.drop 24).drop 24).drop 24).drop 24).drop 24).drop 24).drop 24).drop 24).drop 24),List.all_append,w_t10,←List.take_append_drop 24 ((((((((((words1.drop 24).drop 24).drop 24).drop 24).drop 24).drop 24).drop 24).drop 24).drop 24).drop 24),List.all_append,w_t11,←List.take_append_drop 24 (((((((((((words1.drop 24).drop 24).drop 24).drop 24).drop 24).drop 24).drop 24).drop 24).drop 24).drop 24).drop 24),List.all_append,w_t12,←List.take_append_drop 24 ((((((((((((words1.drop 24).drop 24).drop 24).drop 24).drop 24).drop 24).drop 24).drop 24).drop 24).drop 24).drop 24).drop 24),List.all_append,w_t13,←List.take_append_drop 24 (((((((((((((words1.drop 24).drop 24).drop 24).drop 24).drop 24).drop 24).drop 24).drop 24).drop 24).drop 24).drop 24).drop 24).drop 24),List.all_append,w_t14,←List.take_append_drop 24 ((((((((((((((words1.drop 24).drop 24).drop 24).drop 24).drop 24).drop 24).drop 24).drop 24).drop 24).drop 24).drop 24).drop 24).drop 24).drop 24),List.all_append,w_t15,←List.take_append_drop 24 (((((((((((((((words1.drop 24).drop 24).drop 24).drop 24).drop 24).drop 24).drop 24).drop 24).drop 24).drop 24).drop 24).drop 24).drop 24).drop 24).drop 24),List.all_append,w_t16,←List.take_append_drop 24 ((((((((((((((((words1.drop 24).drop 24).drop 24).drop 24).drop 24).drop 24).drop 24).drop 24).drop 24).drop 24).drop 24).drop 24).drop 24).drop 24).drop 24).drop 24),List.all_append,w_t17,w_t18]
  rfl
theorem w_rest:rest_1_c.before args0 about1=true:=by decide +kernel
theorem w_case:(Jvm.Cond.and given_1 narrow_1).before args0 about1=true:=by decide +kernel
theorem w_applies:(headSpec (Jvm.Cond.code x code maxLocals ret::tables_1) room_1).applies x e0.platform about1=true:=
  (Spec.applies_iff w_frames).mpr ⟨w_running,w_runnable,w_alone,w_named,w_hears,w_ripe,w_room,w_tables⟩
theorem atStart:AtStart classFile x code maxLocals ret World_1 tables_1 room_1 Calls_1 rest_1 Pre_1 launch0 p0 e0 about1 theMethod args0 below0:=
  ⟨lists_1,trivial,launch0.admits_env _ _ _,launch0.least_env,fairChoices_fair.cas,fairChoices_fair.clock,w_frames,w_args,w_heap,w_applies,trivial,w_rest,w_case⟩
end start1
theorem witness_1:WitnessClaimed_1:=⟨start1.p0,start1.e0,start1.about1,start1.theMethod,start1.args0,start1.below0,start1.atStart⟩
end Jvm.Pilot.@@N@@
