import JvmDerived
import JvmDerived.Pilot.@@N@@Statement
import JvmDerived.Pilot.@@N@@Code
set_option linter.unusedVariables false
set_option linter.unusedSimpArgs false
namespace Jvm.OM
open Sem ClassFile Op Lib Jvm.Stand Jvm.Free Jvm.LawKit Jvm.RoadKit
section Fix
variable {α ρ:Type}
abbrev Plan(α ρ:Type):=Option (ρ⊕(α⊕(α×(ρ->α))))
def run(P:α->Plan α ρ)(f:α->Option ρ)(c:α):Option ρ:=
 match P c with
 |none=>none
 |some (.inl r)=>some r
 |some (.inr (.inl c'))=>f c'
 |some (.inr (.inr q))=>(f q.1).bind fun r=>f (q.2 r)
def iter(P:α->Plan α ρ):Nat->α->Option ρ
 |0,_=>none
 |n+1,c=>run P (iter P n) c
theorem run_mono{P:α->Plan α ρ}{f g:α->Option ρ}(h:∀c r,f c=some r->g c=some r){c:α}{r:ρ}(e:run P f c=some r):run P g c=some r:=by
 unfold run at e ⊢
 split at e
 ·cases e
 ·exact e
 ·exact h _ _ e
 ·rename_i q _
  obtain⟨x,h1,h2⟩:=Option.bind_eq_some_iff.mp e;exact Option.bind_eq_some_iff.mpr ⟨x,h _ _ h1,h _ _ h2⟩
theorem iter_succ{P:α->Plan α ρ}:∀ {n:Nat} {c:α} {r:ρ},iter P n c=some r->iter P (n+1) c=some r
 |0,_,_,e=>by cases e
 |n+1,c,r,e=>run_mono (f:=iter P n) (g:=iter P (n+1)) (fun _ _ h=>iter_succ h) e
theorem iter_le{P:α->Plan α ρ}{n k:Nat}{c:α}{r:ρ}(e:iter P n c=some r)(h:n<=k):iter P k c=some r:=by
 induction h with
 |refl=>exact e
 |step _ ih=>exact iter_succ ih
theorem exists_fix(P:α->Plan α ρ):∃f:α->Option ρ,(∀c,f c=run P f c)/\∀c r,f c=some r->∃n,iter P n c=some r:=by
 classical
 have key:∃f:α->Option ρ,∀c r,f c=some r↔∃n,iter P n c=some r:=by
  refine⟨fun c=>if h:∃r n,iter P n c=some r then some h.choose else none,fun c r=>?_⟩;constructor
  ·intro e;dsimp only at e
   split at e
   ·rename_i h
    cases e
    exact h.choose_spec
   ·cases e
  ·rintro ⟨n,e⟩
   have h:∃r n,iter P n c=some r:=⟨r,n,e⟩;dsimp only;rw[dif_pos h];obtain⟨k,e'⟩:=h.choose_spec;have a:=iter_le e (Nat.le_max_left n k);have b:=iter_le e' (Nat.le_max_right n k);rw[a] at b;exact b.symm
 obtain⟨f,hf⟩:=key;refine⟨f,fun c=>?_,fun c r h=>(hf c r).mp h⟩;have hle:∀n c r,iter P n c=some r->f c=some r:=fun n c r e=>(hf c r).mpr ⟨n,e⟩;apply Option.ext;intro r;constructor
 ·intro e;obtain⟨n,e⟩:=(hf c r).mp e;cases n with
  |zero=>cases e
  |succ n=>exact run_mono (fun c r h=>hle n c r h) e
 ·intro e;refine (hf c r).mpr ?_;unfold run at e
  split at e
  ·cases e
  ·rename_i q hq
   exact⟨1,by simp only[iter,run,hq];exact e⟩
  ·rename_i c' hq
   obtain⟨n,h⟩:=(hf _ _).mp e;exact⟨n+1,by simp only[iter,run,hq];exact h⟩
  ·rename_i q hq
   obtain⟨x,h1,h2⟩:=Option.bind_eq_some_iff.mp e;obtain⟨n,h1⟩:=(hf _ _).mp h1;obtain⟨k,h2⟩:=(hf _ _).mp h2;exact⟨max n k+1,by
    simp only[iter,run,hq];rw[iter_le h1 (Nat.le_max_left n k)];exact iter_le h2 (Nat.le_max_right n k)⟩
end Fix
def setL:List Value->Nat->Value->List Value
 |[],0,v=>[v]
 |[],n+1,v => .null::setL [] n v
 |_::r,0,v=>v::r
 |x::r,n+1,v=>x::setL r n v
def nolong:Value->Value
 | .long _ => .null
 | .double _ => .null
 |v=>v
def clrL:List Value->Nat->List Value
 |[],_=>[]
 |x::r,0=>nolong x::r
 |x::r,n+1=>x::clrL r n
def st1(ls:List Value)(i:Nat)(v:Value):List Value:=match i with
 |0=>setL ls 0 v
 |j+1=>setL (clrL ls j) (j+1) v
def st2(ls:List Value)(i:Nat)(v:Value):List Value:=setL (st1 ls i v) (i+1) .null
def entL:List Value->List Value
 |[]=>[]
 | .long v::r => .long v :: .null::entL r
 |v::r=>v::entL r
def ii(g:Int32->Int32->Int32):List Value->Option (List Value)
 | .int y :: .int x::r=>some (.int (g x y)::r)
 |_=>none
def iz(g:Int32->Int32->Int32):List Value->Option (List Value)
 | .int y :: .int x::r=>if y=0 then none else some (.int (g x y)::r)
 |_=>none
def ll(g:Int64->Int64->Int64):List Value->Option (List Value)
 | .long y :: .long x::r=>some (.long (g x y)::r)
 |_=>none
def lz(g:Int64->Int64->Int64):List Value->Option (List Value)
 | .long y :: .long x::r=>if y=0 then none else some (.long (g x y)::r)
 |_=>none
def li(g:Int64->Int32->Int64):List Value->Option (List Value)
 | .int y :: .long x::r=>some (.long (g x y)::r)
 |_=>none
def i1(g:Int32->Value):List Value->Option (List Value)
 | .int x::r=>some (g x::r)
 |_=>none
def l1(g:Int64->Value):List Value->Option (List Value)
 | .long x::r=>some (g x::r)
 |_=>none
def lc(g:Int64->Int64->Int32):List Value->Option (List Value)
 | .long y :: .long x::r=>some (.int (g x y)::r)
 |_=>none
def pop1:List Value->Option (List Value)
 | .int _::r=>some r
 | .ref _::r=>some r
 |_=>none
def dup1:List Value->Option (List Value)
 | .int x::r=>some (.int x :: .int x::r)
 | .ref x::r=>some (.ref x :: .ref x::r)
 |_=>none
def dup2':List Value->Option (List Value)
 | .int y :: .int x::r=>some (.int y :: .int x :: .int y :: .int x::r)
 | .int y :: .ref x::r=>some (.int y :: .ref x :: .int y :: .ref x::r)
 | .long x::r=>some (.long x :: .long x::r)
 |_=>none
def alu(i:Instr)(st:List Value):Option (List Value):=match i with
 | .iconst i=>some (.int (Int32.ofInt i)::st)
 | .lconst k=>some (.long (Int64.ofNat k)::st)
 | .ldc2_w n=>some (.long (Int64.ofNat n)::st)
 | .iadd=>ii (fun x y=>x+y) st
 | .isub=>ii (fun x y=>x-y) st
 | .imul=>ii (fun x y=>x*y) st
 | .idiv=>iz (fun x y=>x/y) st
 | .irem=>iz (fun x y=>x%y) st
 | .ineg=>i1 (fun x => .int (-x)) st
 | .iand=>ii (fun x y=>x&&&y) st
 | .ior=>ii (fun x y=>x|||y) st
 | .ixor=>ii (fun x y=>x^^^y) st
 | .ishl=>ii (fun x y=>x<<<(y&&&31)) st
 | .ishr=>ii (fun x y=>x>>>(y&&&31)) st
 | .iushr=>ii (fun x y=>XT.ushr x y) st
 | .ladd=>ll (fun x y=>x+y) st
 | .lsub=>ll (fun x y=>x-y) st
 | .lmul=>ll (fun x y=>x*y) st
 | .land=>ll (fun x y=>x&&&y) st
 | .lor=>ll (fun x y=>x|||y) st
 | .lxor=>ll (fun x y=>x^^^y) st
 | .lshl=>li (fun x y=>x<<<(y.toInt64&&&63)) st
 | .lushr=>li (fun x y=>XT.ushrL x y) st
 | .lrem=>lz (fun x y=>x%y) st
 | .lcmp=>lc (fun x y=>XT.cmpL x y) st
 | .i2l=>i1 (fun x => .long x.toInt64) st
 | .l2i=>l1 (fun x => .int x.toInt32) st
 | .i2b=>i1 (fun x => .int x.toInt8.toInt32) st
 | .pop=>pop1 st
 | .dup=>dup1 st
 | .dup2=>dup2' st
 |_=>none
def ldI(ls:List Value)(k:Nat):Option Value:=match ls[k]? with
 |some (.int v)=>some (.int v)
 |_=>none
def ldA(ls:List Value)(k:Nat):Option Value:=match ls[k]? with
 |some (.ref v)=>some (.ref v)
 |_=>none
def ldL(ls:List Value)(k:Nat):Option Value:=match ls[k]? with
 |some (.long v)=>some (.long v)
 |_=>none
def incI(ls:List Value)(k:Nat)(c:Int):Option (List Value):=match ls[k]? with
 |some (.int v)=>some (st1 ls k (.int (v+Int32.ofInt c)))
 |_=>none
def stI'(ls:List Value)(k:Nat):List Value->Option (List Value×List Value)
 | .int v::st=>some (st1 ls k (.int v),st)
 |_=>none
def stA'(ls:List Value)(k:Nat):List Value->Option (List Value×List Value)
 | .ref v::st=>some (st1 ls k (.ref v),st)
 |_=>none
def stL'(ls:List Value)(k:Nat):List Value->Option (List Value×List Value)
 | .long v::st=>some (st2 ls k (.long v),st)
 |_=>none
def loc(i:Instr)(ls st:List Value):Option (List Value×List Value):=match i with
 | .iload k=>(ldI ls k).map fun v=>(ls,v::st)
 | .aload k=>(ldA ls k).map fun v=>(ls,v::st)
 | .lload k=>(ldL ls k).map fun v=>(ls,v::st)
 | .istore k=>stI' ls k st
 | .astore k=>stA' ls k st
 | .lstore k=>stL' ls k st
 | .iinc k c=>(incI ls k c).map fun l=>(l,st)
 |i=>(alu i st).map fun st'=>(ls,st')
def cnd{β:Type}(c:ClassFile.Cond)(x y:Int32)(a b:β):β:=match c with
 | .eq=>if x=y then a else b
 | .ne=>if x=y then b else a
 | .lt=>if x<y then a else b
 | .ge=>if x<y then b else a
 | .gt=>if y<x then a else b
 | .le=>if y<x then b else a
def swc{β:Type}(x:Int32):Int->List Int->(Nat->β)->β->β
 |_,[],_,d=>d
 |lo,t::ts,k,d=>if x=Int32.ofInt lo then k t.toNat else swc x (lo+1) ts k d
def tk(kp:Option Nat)(ls:List Value):List Value:=match kp with
 |none=>ls
 |some k=>ls.take k
def takeA:Nat->List Value->List Value->Option (List Value×List Value)
 |0,acc,st=>some (acc,st)
 |n+1,acc,v::st=>takeA n (v::acc) st
 |_+1,_,[]=>none
def cats(st:List Value):Nat:=(st.map fun v=>v.category).sum
section Machine
variable {τ:Type}
abbrev Cfg(τ:Type):=Nat×Nat×List Value×List Value×τ
abbrev Res(τ:Type):=Option Value×τ
abbrev Codes:=Nat->Nat->Option (Instr×Nat×Option Nat)
abbrev Mop(τ:Type):=Nat->Instr->List Value->τ->Option (List Value×τ)
abbrev Cop:=Nat->Instr->List Value->Option (Nat×List Value×List Value)
def retV(t:Option FieldType)(i:Instr)(st:List Value):Option (Option Value):=match i with
 | .return_=>(match t,st with
  |none,[]=>some none
  |_,_=>none)
 | .ireturn=>(match t,st with
  |some .int,[.int v]=>some (some (.int v))
  |some .boolean,[.int v]=>some (some (.int (v&&&1)))
  |_,_=>none)
 | .lreturn=>(match t,st with
  |some .long,[.long v]=>some (some (.long v))
  |_,_=>none)
 |_=>none
def rest(rt:Option FieldType)(mop:Mop τ)(cop:Cop)(m pn:Nat)(i:Instr)(ls st:List Value)(S:τ):Plan (Cfg τ) (Res τ):=
 match retV rt i st with
 |some v=>some (.inl (v,S))
 |none=>match loc i ls st with
  |some q=>some (.inr (.inl (m,pn,q.1,q.2,S)))
  |none=>match mop m i st S with
   |some q=>some (.inr (.inl (m,pn,ls,q.1,q.2)))
   |none=>match cop m i st with
    |some q=>some (.inr (.inr ((q.1,0,entL q.2.1,[],S),fun r=>(m,pn,ls,r.1.toList++q.2.2,r.2))))
    |none=>none
def pl1(m pn:Nat)(cd:ClassFile.Cond)(t:Nat)(ls:List Value)(S:τ):List Value->Plan (Cfg τ) (Res τ)
 | .int x::st=>some (.inr (.inl (cnd cd x 0 (m,t,ls,st,S) (m,pn,ls,st,S))))
 |_=>none
def pl2(m pn:Nat)(cd:ClassFile.Cond)(t:Nat)(ls:List Value)(S:τ):List Value->Plan (Cfg τ) (Res τ)
 | .int y :: .int x::st=>some (.inr (.inl (cnd cd x y (m,t,ls,st,S) (m,pn,ls,st,S))))
 |_=>none
def pl3(m d:Nat)(lo:Int)(ts:List Int)(ls:List Value)(S:τ):List Value->Plan (Cfg τ) (Res τ)
 | .int x::st=>some (.inr (.inl (swc x lo ts (fun t=>(m,t,ls,st,S)) (m,d,ls,st,S))))
 |_=>none
def plan(code:Codes)(rt:Nat->Option FieldType)(mop:Mop τ)(cop:Cop)(c:Cfg τ):Plan (Cfg τ) (Res τ):=
 match code c.1 c.2.1 with
 |none=>none
 |some q=>match q.1 with
  | .goto t=>some (.inr (.inl (c.1,t.toNat,tk q.2.2 c.2.2.1,c.2.2.2.1,c.2.2.2.2)))
  | .ifCond cd t=>pl1 c.1 q.2.1 cd t.toNat (tk q.2.2 c.2.2.1) c.2.2.2.2 c.2.2.2.1
  | .if_icmp cd t=>pl2 c.1 q.2.1 cd t.toNat (tk q.2.2 c.2.2.1) c.2.2.2.2 c.2.2.2.1
  | .tableswitch d lo _ ts=>pl3 c.1 d.toNat lo ts.toList (tk q.2.2 c.2.2.1) c.2.2.2.2 c.2.2.2.1
  |i=>rest (rt c.1) mop cop c.1 q.2.1 i (tk q.2.2 c.2.2.1) c.2.2.2.1 c.2.2.2.2
theorem cnd_map{β γ:Type}(g:β->γ)(c:ClassFile.Cond)(x y:Int32)(a b:β):g (cnd c x y a b)=cnd c x y (g a) (g b):=by
 cases c<;>simp only[cnd]<;>split<;>rfl
theorem swc_map{β γ:Type}(g:β->γ)(x:Int32)(k:Nat->β)(d:β):∀(ts:List Int) (lo:Int),g (swc x lo ts k d)=swc x lo ts (fun t=>g (k t)) (g d)
 |[],_=>rfl
 |t::ts,lo=>by
  simp only[swc]
  split
  ·rfl
  ·exact swc_map g x k d ts (lo+1)
end Machine
def lk{β:Type}(k:Nat):List (Nat×β)->Option β
 |[]=>none
 |q::r=>if q.1=k then some q.2 else lk k r
theorem lk_mem{β:Type}{k:Nat}{b:β}:∀ {l:List (Nat×β)},lk k l=some b->(k,b)∈l
 |[],h=>by cases h
 |q::r,h=>by
  simp only[lk] at h
  split at h
  ·rename_i e
   cases h
   subst e;exact List.mem_cons_self ..
  ·exact List.mem_cons_of_mem _ (lk_mem h)
abbrev Tabs:=List (Nat×String×String×Nat)×List (Nat×Nat)×List (Nat×Nat)×List (Nat×Int32)×List (Nat×Int64)×List (Nat×Nat)×List (Nat×Nat)
def absT(pc:Nat)(o:Int):Option Int:=if 0<=(pc:Int)+o then some ((pc:Int)+o) else none
def lt(ml k:Nat)(i:Instr):Option Instr:=if k<ml then some i else none
def plain1:Instr->Bool
 | .lconst _ | .iadd | .isub | .imul | .idiv | .irem | .ineg | .iand | .ior | .ixor | .ishl | .ishr | .iushr | .ladd | .lsub | .lmul | .land | .lor | .lxor | .lshl | .lushr | .lrem | .lcmp | .i2l | .l2i | .i2b | .pop | .dup | .dup2=>true
 |_=>false
def heapy:Instr->Bool
 | .iaload | .iastore | .baload | .bastore | .arraylength | .ireturn | .lreturn | .return_=>true
 |_=>false
def canon(T:Tabs)(ml pc:Nat)(i:Instr):Option Instr:=match i with
 | .iload_n k=>some (.iload k.val)
 | .iload k=>some (.iload k)
 | .aload_n k=>some (.aload k.val)
 | .aload k=>some (.aload k)
 | .lload_n k=>some (.lload k.val)
 | .lload k=>some (.lload k)
 | .istore_n k=>lt ml k.val (.istore k.val)
 | .istore k=>lt ml k (.istore k)
 | .astore_n k=>lt ml k.val (.astore k.val)
 | .astore k=>lt ml k (.astore k)
 | .lstore_n k=>lt ml (k.val+1) (.lstore k.val)
 | .lstore k=>lt ml (k+1) (.lstore k)
 | .iinc k c=>lt ml k (.iinc k c)
 | .iconst i=>some (.iconst i)
 | .bipush i=>some (.iconst (Int8.ofInt i).toInt32.toInt)
 | .sipush i=>some (.iconst (Int16.ofInt i).toInt32.toInt)
 | .ldc k=>(lk k T.2.2.2.1).map fun v => .iconst v.toInt
 | .ldc2_w k=>(lk k T.2.2.2.2.1).map fun v => .ldc2_w v.toUInt64.toNat
 | .goto o=>(absT pc o).map fun t => .goto t
 | .ifCond cd o=>(absT pc o).map fun t => .ifCond cd t
 | .if_icmp cd o=>(absT pc o).map fun t => .if_icmp cd t
 | .tableswitch d lo hi offs=>if (0<=(pc:Int)+d)/\(offs.all fun o=>decide (0<=(pc:Int)+o))=true/\(offs.size:Int)=hi-lo+1 /\ -2147483648<=lo/\hi<2147483648 then some (.tableswitch (pc+d) lo hi (offs.map fun o=>(pc:Int)+o)) else none
 | .getfield k=>(lk k T.1).map fun q => .getfield q.2.2
 | .putfield k=>(lk k T.1).map fun q => .putfield q.2.2
 | .invokevirtual k=>(lk k T.2.1).map fun q => .invokevirtual q
 | .invokestatic k=>(lk k T.2.2.1).map fun q => .invokestatic q
 | .new k=>(lk k T.2.2.2.2.2.1).map fun q => .new q
 | .invokespecial k=>(lk k T.2.2.2.2.2.2).map fun q => .invokespecial q
 |i=>if plain1 i||heapy i then some i else none
def cv(ρ:Nat->Nat):Value->Value
 | .ref r => .ref (ρ r)
 |v=>v
def LocRel(ρ:Nat->Nat)(ls:List Value)(L:Array Slot):Prop:=∀(i:Nat) (v:Value),ls[i]? = some v->v ≠ .null->L[i]? = some (.val (cv ρ v))
def WFL(L:Array Slot):Prop:=(∀i:Nat,L[i]? = some .second->∃(j:Nat) (v:Value),i=j+1/\L[j]? = some (.val v)/\v.category=2)/\∀(i:Nat) (v:Value),L[i]? = some (.val v)->v.category=2->L[i+1]? = some .second
theorem setL_get(v:Value):∀(ls:List Value) (k i:Nat) (w:Value),(setL ls k v)[i]? = some w->(i=k/\w=v)\/(i≠k/\(w = .null\/ls[i]? = some w))
 |[],0,i,w,h=>by
  cases i with
  |zero=>simp[setL] at h;exact Or.inl ⟨rfl,h.symm⟩
  |succ i=>simp[setL] at h
 |[],k+1,i,w,h=>by
  cases i with
  |zero=>simp[setL] at h;exact Or.inr ⟨by omega,Or.inl h.symm⟩
  |succ i=>
   simp[setL] at h;rcases setL_get v [] k i w h with⟨a,b⟩ | ⟨a,b⟩
   ·exact Or.inl ⟨by omega,b⟩
   ·exact Or.inr ⟨by omega,b.imp id (fun q=>by simp at q)⟩
 |x::r,0,i,w,h=>by
  cases i with
  |zero=>simp[setL] at h;exact Or.inl ⟨rfl,h.symm⟩
  |succ i=>simp[setL] at h;exact Or.inr ⟨by omega,Or.inr (by simpa using h)⟩
 |x::r,k+1,i,w,h=>by
  cases i with
  |zero=>simp[setL] at h;exact Or.inr ⟨by omega,Or.inr (by simpa using h)⟩
  |succ i=>
   simp[setL] at h;rcases setL_get v r k i w h with⟨a,b⟩ | ⟨a,b⟩
   ·exact Or.inl ⟨by omega,b⟩
   ·exact Or.inr ⟨by omega,b.imp id (fun q=>by simpa using q)⟩
theorem clrL_get:∀(ls:List Value) (k i:Nat) (w:Value),(clrL ls k)[i]? = some w->w ≠ .null->ls[i]? = some w/\(i=k->w.category=1)
 |[],k,i,w,h,_=>by simp[clrL] at h
 |x::r,0,i,w,h,hn=>by
  cases i with
  |zero=>
   simp[clrL] at h;cases x<;>simp[nolong] at h<;>subst h<;>first | exact absurd rfl hn | exact⟨rfl,fun _=>rfl⟩
  |succ i=>simp[clrL] at h;exact⟨by simpa using h,fun q=>by omega⟩
 |x::r,k+1,i,w,h,hn=>by
  cases i with
  |zero=>simp[clrL] at h;exact⟨by simpa using h,fun q=>by omega⟩
  |succ i=>
   simp[clrL] at h;obtain⟨a,b⟩:=clrL_get r k i w h hn;exact⟨by simpa using a,fun q=>b (by omega)⟩
theorem setAt_in{L:Array Slot}{i:Nat}(h:i<L.size)(x:Slot):setAt L i x=some (L.setIfInBounds i x):=by simp[setAt,h]
theorem get_set_ne{L:Array Slot}{i j:Nat}(h:i≠j)(x:Slot):(L.setIfInBounds i x)[j]? = L[j]? := Array.getElem?_setIfInBounds_ne h
theorem get_set_eq{L:Array Slot}{i:Nat}(h:i<L.size)(x:Slot):(L.setIfInBounds i x)[i]? = some x:=by simp[h]
theorem free_rel {ρ : Nat -> Nat} {ls : List Value} {L : Array Slot} {k : Nat} (R : LocRel ρ ls L) (W : WFL L) (hk : k < L.size) :
    ∃ L1 : Array Slot, L1.size = L.size /\ (∀ w, storeLocals L k w = storeSelf L1 k w) /\ WFL (L1.setIfInBounds k .unset) /\ (∀ i, i ≠ k -> L1[i]? = L[i]? \/ L1[i]? = some .unset) /\
      ∀(i:Nat) (v:Value),i≠k->ls[i]? = some v->v ≠ .null->(i+1=k->v.category=1)->L1[i]? = some (.val (cv ρ v)):=by
  have cvc:∀v:Value,(cv ρ v).category=v.category:=fun v=>by cases v<;>rfl
  obtain⟨x,hx⟩:∃x,L[k]? = some x:=⟨L[k],by simp[hk]⟩
  cases x with
  | unset=>
    refine⟨L,rfl,fun w=>by simp[storeLocals,hx],⟨fun i h=>?_,fun i v h hc=>?_⟩,fun i _=>Or.inl rfl,fun i v hi h hn _=>R i v h hn⟩
    · by_cases e : k = i
      · subst e;rw[get_set_eq hk] at h;cases h
      · rw [get_set_ne e] at h
        obtain⟨j,v,e1,e2,e3⟩:=W.1 i h
        refine⟨j,v,e1,?_,e3⟩
        by_cases q:k=j
        · subst q;rw[hx] at e2;cases e2
        · rw[get_set_ne q];exact e2
    · by_cases e : k = i
      · subst e;rw[get_set_eq hk] at h;cases h
      · rw [get_set_ne e] at h
        have:=W.2 i v h hc
        by_cases q:k=i+1
        · subst q;rw[hx] at this;cases this
        · rw[get_set_ne q];exact this
  | second=>
    obtain⟨j,v0,rfl,e2,e3⟩:=W.1 k hx
    have hj:j<L.size:=by omega
    refine⟨L.setIfInBounds j .unset,by simp,fun w=>by simp[storeLocals,hx,setAt_in hj],⟨fun i h=>?_,fun i v h hc=>?_⟩,fun i _=>?_,fun i v hi h hn hc=>?_⟩
    · by_cases e : j + 1 = i
      · subst e;rw[get_set_eq (by simpa using hk)] at h;cases h
      · rw [get_set_ne e] at h
        by_cases q:j=i
        · subst q;rw[get_set_eq hj] at h;cases h
        · rw [get_set_ne q] at h
          obtain⟨j',v,f1,f2,f3⟩:=W.1 i h
          refine⟨j',v,f1,?_,f3⟩
          have g1:j+1≠j':=fun q'=>by subst q';rw[hx] at f2;cases f2
          have g2:j≠j':=fun q'=>by subst q';exact e f1.symm
          rw[get_set_ne g1,get_set_ne g2];exact f2
    · by_cases e : j + 1 = i
      · subst e;rw[get_set_eq (by simpa using hk)] at h;cases h
      · rw [get_set_ne e] at h
        by_cases q:j=i
        · subst q;rw[get_set_eq hj] at h;cases h
        · rw [get_set_ne q] at h
          have t:=W.2 i v h hc
          have g1:j+1≠i+1:=by omega
          have g2:j≠i+1:=fun q'=>by subst q';rw[e2] at t;cases t
          rw[get_set_ne g1,get_set_ne g2];exact t
    · by_cases q : j = i
      · subst q;exact Or.inr (get_set_eq hj _)
      · exact Or.inl (get_set_ne q _)
    · by_cases q : j = i
      · subst q
        have:=R j v h hn
        rw[e2] at this
        have e4:v0=cv ρ v:=by simpa using this
        rw[e4,cvc,hc rfl] at e3;cases e3
      · rw[get_set_ne q];exact R i v h hn
  | val old=>
    by_cases hc2:old.category=2
    · have hs := W.2 k old hx hc2
      have hk1:k+1<L.size:=(Array.getElem?_eq_some_iff.mp hs).1
      refine⟨L.setIfInBounds (k+1) .unset,by simp,fun w=>by simp[storeLocals,hx,setAt_in hk1,hc2],⟨fun i h=>?_,fun i v h hc=>?_⟩,fun i _=>?_,fun i v hi h hn hc=>?_⟩
      · by_cases e : k = i
        · subst e;rw[get_set_eq (by simpa using hk)] at h;cases h
        · rw [get_set_ne e] at h
          by_cases q:k+1=i
          · subst q;rw[get_set_eq hk1] at h;cases h
          · rw [get_set_ne q] at h
            obtain⟨j',v,f1,f2,f3⟩:=W.1 i h
            refine⟨j',v,f1,?_,f3⟩
            have g1:k≠j':=fun q'=>by subst q';exact q f1.symm
            have g2:k+1≠j':=fun q'=>by subst q';rw[hs] at f2;cases f2
            rw[get_set_ne g1,get_set_ne g2];exact f2
      · by_cases e : k = i
        · subst e;rw[get_set_eq (by simpa using hk)] at h;cases h
        · rw [get_set_ne e] at h
          by_cases q:k+1=i
          · subst q;rw[get_set_eq hk1] at h;cases h
          · rw [get_set_ne q] at h
            have t:=W.2 i v h hc
            have g1:k≠i+1:=fun q'=>by subst q';rw[hx] at t;cases t
            have g2:k+1≠i+1:=by omega
            rw[get_set_ne g1,get_set_ne g2];exact t
      · by_cases q : k + 1 = i
        · subst q;exact Or.inr (get_set_eq hk1 _)
        · exact Or.inl (get_set_ne q _)
      · by_cases q : k + 1 = i
        · subst q
          have:=R _ v h hn
          rw[hs] at this;cases this
        · rw[get_set_ne q];exact R i v h hn
    · refine ⟨L, rfl, fun w => by simp [storeLocals, hx, hc2], ⟨fun i h => ?_, fun i v h hc => ?_⟩, fun i _ => Or.inl rfl, fun i v hi h hn _ => R i v h hn⟩
      · by_cases e : k = i
        · subst e;rw[get_set_eq hk] at h;cases h
        · rw [get_set_ne e] at h
          obtain⟨j,v,e1,e2,e3⟩:=W.1 i h
          refine⟨j,v,e1,?_,e3⟩
          by_cases q:k=j
          · subst q;rw[hx] at e2;cases e2;exact absurd e3 hc2
          · rw[get_set_ne q];exact e2
      · by_cases e : k = i
        · subst e;rw[get_set_eq hk] at h;cases h
        · rw [get_set_ne e] at h
          have:=W.2 i v h hc
          by_cases q:k=i+1
          · subst q;rw[hx] at this;cases this
          · rw[get_set_ne q];exact this
theorem st1_get{ls:List Value}{k i:Nat}{v w:Value}(h:(st1 ls k v)[i]? = some w)(hn:w ≠ .null):(i=k/\w=v)\/(i≠k/\ls[i]? = some w/\(i+1=k->w.category=1)):=by
 cases k with
 |zero=>
  rcases setL_get v ls 0 i w h with q | ⟨q1,q2 | q2⟩
  ·exact Or.inl q
  ·exact absurd q2 hn
  ·exact Or.inr ⟨q1,q2,fun q=>by omega⟩
 |succ k=>
  rcases setL_get v (clrL ls k) (k+1) i w h with q | ⟨q1,q2 | q2⟩
  ·exact Or.inl q
  ·exact absurd q2 hn
  ·obtain⟨a,b⟩:=clrL_get ls k i w q2 hn;exact Or.inr ⟨q1,a,fun q=>b (by omega)⟩
theorem store1{ρ:Nat->Nat}{ls:List Value}{L:Array Slot}{k:Nat}{v:Value}(R:LocRel ρ ls L)(W:WFL L)(hk:k<L.size)(hv:v.category=1) :
  ∃L',storeLocals L k (cv ρ v)=some L'/\LocRel ρ (st1 ls k v) L'/\WFL L'/\L'.size=L.size:=by
 have cvc:(cv ρ v).category=1:=by cases v<;>first | rfl | exact hv
 obtain⟨L1,z,hs,wf,hu,hl⟩:=free_rel R W hk;have hk1:k<L1.size:=by omega
 refine⟨L1.setIfInBounds k (.val (cv ρ v)),by rw[hs];simp[storeSelf,setAt_in hk1,cvc],fun i w h hn=>?_,⟨fun i h=>?_,fun i w h hc=>?_⟩,by simp[z]⟩
 ·rcases st1_get h hn with⟨rfl,rfl⟩ | ⟨a,b,c⟩
  ·exact get_set_eq hk1 _
  ·rw[get_set_ne (Ne.symm a)];exact hl i w a b hn c
 ·by_cases e:k=i
  ·subst e;rw[get_set_eq hk1] at h;cases h
  ·rw[get_set_ne e] at h;obtain⟨j,w,e1,e2,e3⟩:=wf.1 i (by rw[get_set_ne e];exact h);refine⟨j,w,e1,?_,e3⟩;by_cases q:k=j
   ·subst q;rw[get_set_eq hk1] at e2;cases e2
   ·rw[get_set_ne q] at e2 ⊢;exact e2
 ·by_cases e:k=i
  ·subst e;rw[get_set_eq hk1] at h;have:cv ρ v=w:=by simpa using h
   rw[<-this,cvc] at hc;cases hc
  ·rw[get_set_ne e] at h;have t:=wf.2 i w (by rw[get_set_ne e];exact h) hc;by_cases q:k=i+1
   ·rw[q,get_set_eq (by omega)] at t;cases t
   ·rw[get_set_ne q] at t ⊢;exact t
theorem store2{ρ:Nat->Nat}{ls:List Value}{L:Array Slot}{k:Nat}{x:Int64}(R:LocRel ρ ls L)(W:WFL L)(hk:k+1<L.size) :
  ∃L',storeLocals L k (.long x)=some L'/\LocRel ρ (st2 ls k (.long x)) L'/\WFL L'/\L'.size=L.size:=by
 obtain⟨L1,z,hs,wf,hu,hl⟩:=free_rel R W (by omega:k<L.size);have hk0:k<L1.size:=by omega
 have hk1:k+1<L1.size:=by omega
 have hk1':k+1<(L1.setIfInBounds k (.val (.long x))).size:=by simpa using hk1
 have e1:(L1.setIfInBounds k (.val (.long x)))[k+1]? = L1[k+1]? := get_set_ne (by omega) _;have ns:L1[k+1]? ≠ some .second:=fun q=>by
  obtain⟨j,w,f1,f2,f3⟩:=wf.1 (k+1) (by rw[get_set_ne (by omega)];exact q);have:j=k:=by omega
  subst this;rw[get_set_eq hk0] at f2;cases f2
 have key:∃L2:Array Slot,storeSelf L1 k (.long x)=some (L2.setIfInBounds (k+1) .second)/\L2.size=L.size/\L2[k]? = some (.val (.long x))/\(∀i,i≠k->i≠k+1->i≠k+2->L2[i]? = L1[i]?) /\
   ((L2[k+2]? = L1[k+2]? /\ ∀w,L1[k+1]? = some (.val w)->w.category≠2)\/(L2[k+2]? = some .unset/\L1[k+2]? = some .second)):=by
  obtain⟨y,hy⟩:∃y,L1[k+1]? = some y:=⟨L1[k+1],by simp[hk1]⟩;cases y with
  |second=>exact absurd hy ns
  |unset=>
   refine⟨L1.setIfInBounds k (.val (.long x)),by simp[storeSelf,setAt_in hk0,Value.category,e1,hy,setAt_in hk1'],by simp[z],get_set_eq hk0 _,fun i a b c=>get_set_ne (Ne.symm a) _,Or.inl ⟨get_set_ne (by omega) _,fun w q=>by rw[hy] at q;cases q⟩⟩
  |val old=>
   by_cases hc:old.category=2
   ·have t:=wf.2 (k+1) old (by rw[get_set_ne (by omega)];exact hy) hc;rw[get_set_ne (by omega)] at t;have hk2:k+2<L1.size:=(Array.getElem?_eq_some_iff.mp t).1;refine⟨(L1.setIfInBounds k (.val (.long x))).setIfInBounds (k+2) .unset,?_,by simp[z],by rw[get_set_ne (by omega)];exact get_set_eq hk0 _,fun i a b c=>by rw[get_set_ne (Ne.symm c),get_set_ne (Ne.symm a)],Or.inr ⟨get_set_eq (by simpa using hk2) _,t⟩⟩;simp[storeSelf,setAt,hk0,show (Value.long x).category=2 from rfl,e1,hc,hk1,hk2];rw[(Array.getElem?_eq_some_iff.mp hy).2];simp[hc]
   ·refine⟨L1.setIfInBounds k (.val (.long x)),?_,by simp[z],get_set_eq hk0 _,fun i a b c=>get_set_ne (Ne.symm a) _,Or.inl ⟨get_set_ne (by omega) _,fun w q=>by rw[hy] at q;cases q;exact hc⟩⟩;simp[storeSelf,setAt,hk0,show (Value.long x).category=2 from rfl,e1,hc,hk1];rw[(Array.getElem?_eq_some_iff.mp hy).2];simp[hc]
 obtain⟨L2,s2,z2,g0,gi,g2⟩:=key;have hk2:k+1<L2.size:=by omega
 refine⟨L2.setIfInBounds (k+1) .second,by rw[hs];exact s2,fun i w h hn=>?_,⟨fun i h=>?_,fun i w h hc=>?_⟩,by simp[z2]⟩
 ·rcases setL_get .null _ _ _ _ h with⟨a,b⟩ | ⟨a,b | b⟩
  ·exact absurd b hn
  ·exact absurd b hn
  ·rw[get_set_ne (Ne.symm a)];rcases st1_get b hn with⟨rfl,rfl⟩ | ⟨a',b',c'⟩
   ·exact g0
   ·have t:=hl i w a' b' hn c';by_cases q:i=k+2
    ·subst q;rcases g2 with⟨q1,-⟩ | ⟨-,q2⟩
     ·rw[q1];exact t
     ·rw[q2] at t;cases t
    ·rw[gi i a' a q];exact t
 ·by_cases e:k+1=i
  ·subst e;exact⟨k,.long x,rfl,by rw[get_set_ne (by omega)];exact g0,rfl⟩
  ·rw[get_set_ne e] at h;by_cases e0:i=k
   ·subst e0;rw[g0] at h;cases h
   ·have h':L1[i]? = some .second/\∀w,i=k+2->L1[k+1]? = some (.val w)->w.category≠2:=by
     by_cases q:i=k+2
     ·subst q;rcases g2 with⟨q1,q3⟩ | ⟨q2,-⟩
      ·rw[q1] at h;exact⟨h,fun w _=>q3 w⟩
      ·rw[q2] at h;cases h
     ·rw[gi i e0 (Ne.symm e) q] at h;exact⟨h,fun w q'=>absurd q' q⟩
    obtain⟨j,w,f1,f2,f3⟩:=wf.1 i (by rw[get_set_ne (Ne.symm e0)];exact h'.1);have jk:j≠k:=by omega
    rw[get_set_ne (Ne.symm jk)] at f2;have jk1:j≠k+1:=fun q=>by subst q;exact h'.2 w f1 f2 f3
    refine⟨j,w,f1,?_,f3⟩;rw[get_set_ne (Ne.symm jk1)];by_cases q:j=k+2
    ·subst q;rcases g2 with⟨q1,-⟩ | ⟨-,q2⟩
     ·rw[q1];exact f2
     ·rw[q2] at f2;cases f2
    ·rw[gi j jk jk1 q];exact f2
 ·by_cases e:k+1=i
  ·subst e;rw[get_set_eq hk2] at h;cases h
  ·rw[get_set_ne e] at h;by_cases e0:i=k
   ·subst e0;exact get_set_eq hk2 _
   ·have h':L1[i]? = some (.val w):=by
     by_cases q:i=k+2
     ·subst q;rcases g2 with⟨q1,-⟩ | ⟨q2,-⟩
      ·rw[q1] at h;exact h
      ·rw[q2] at h;cases h
     ·rw[gi i e0 (Ne.symm e) q] at h;exact h
    have t:=wf.2 i w (by rw[get_set_ne (Ne.symm e0)];exact h') hc;have n1:i+1≠k:=fun q=>by rw[q,get_set_eq hk0] at t;cases t
    rw[get_set_ne (Ne.symm n1)] at t;have n2:i+1≠k+1:=by omega
    rw[get_set_ne (Ne.symm n2)];by_cases q:i+1=k+2
    ·have:i=k+1:=by omega
     exact absurd this.symm e
    ·rw[gi (i+1) n1 n2 q];exact t
theorem ii_inv{g:Int32->Int32->Int32}{st st':List Value}(h:ii g st=some st'):∃x y r,st = .int y :: .int x::r/\st' = .int (g x y)::r:=by
 unfold ii at h;split at h
 ·cases h;exact⟨_,_,_,rfl,rfl⟩
 ·cases h
theorem iz_inv{g:Int32->Int32->Int32}{st st':List Value}(h:iz g st=some st'):∃x y r,y≠0/\st = .int y :: .int x::r/\st' = .int (g x y)::r:=by
 unfold iz at h;split at h
 ·split at h
  ·cases h
  ·rename_i q;cases h;exact⟨_,_,_,q,rfl,rfl⟩
 ·cases h
theorem ll_inv{g:Int64->Int64->Int64}{st st':List Value}(h:ll g st=some st'):∃x y r,st = .long y :: .long x::r/\st' = .long (g x y)::r:=by
 unfold ll at h;split at h
 ·cases h;exact⟨_,_,_,rfl,rfl⟩
 ·cases h
theorem lz_inv{g:Int64->Int64->Int64}{st st':List Value}(h:lz g st=some st'):∃x y r,y≠0/\st = .long y :: .long x::r/\st' = .long (g x y)::r:=by
 unfold lz at h;split at h
 ·split at h
  ·cases h
  ·rename_i q;cases h;exact⟨_,_,_,q,rfl,rfl⟩
 ·cases h
theorem li_inv{g:Int64->Int32->Int64}{st st':List Value}(h:li g st=some st'):∃x y r,st = .int y :: .long x::r/\st' = .long (g x y)::r:=by
 unfold li at h;split at h
 ·cases h;exact⟨_,_,_,rfl,rfl⟩
 ·cases h
theorem lc_inv{g:Int64->Int64->Int32}{st st':List Value}(h:lc g st=some st'):∃x y r,st = .long y :: .long x::r/\st' = .int (g x y)::r:=by
 unfold lc at h;split at h
 ·cases h;exact⟨_,_,_,rfl,rfl⟩
 ·cases h
theorem i1_inv{g:Int32->Value}{st st':List Value}(h:i1 g st=some st'):∃x r,st = .int x::r/\st'=g x::r:=by
 unfold i1 at h;split at h
 ·cases h;exact⟨_,_,rfl,rfl⟩
 ·cases h
theorem l1_inv{g:Int64->Value}{st st':List Value}(h:l1 g st=some st'):∃x r,st = .long x::r/\st'=g x::r:=by
 unfold l1 at h;split at h
 ·cases h;exact⟨_,_,rfl,rfl⟩
 ·cases h
section Sim
variable {p:Program} {l:Launch} {e:Env} {R:Room} {s:State} {m:MethodId} {args:Array Value} {below:List Frame} {meth:Method} {c:Code} {T:State} {locs:List Loc} {cells slots:Nat} {ρ:Nat->Nat}
set_option maxHeartbeats 4000000 in
theorem simAlu(X:Stand p l e R s m args below meth c T locs cells slots)(hx:p.tables.exec=Jvm.exec){pc:Nat}{i0:Instr}(hd:decode c.code pc = .ok (i0,1))(hp:plain1 i0=true){st st':List Value}(ha:alu i0 st=some st'){L:Array Slot}{target:State}
  (k:Steps p.tables e below (T.setTop (mkF m (pc+1) L (st'.map (cv ρ)))) target):Steps p.tables e below (T.setTop (mkF m pc L (st.map (cv ρ)))) target:=by
 cases i0<;>try (simp[plain1] at hp;done)
 case lconst j=>cases ha;exact XT.lconst X.here hx rfl hd k
 case iadd=>obtain⟨x,y,r,rfl,rfl⟩:=ii_inv ha;exact XS.iadd X.here hx rfl hd rfl k
 case isub=>obtain⟨x,y,r,rfl,rfl⟩:=ii_inv ha;exact XS.isub X.here hx rfl hd rfl k
 case imul=>obtain⟨x,y,r,rfl,rfl⟩:=ii_inv ha;exact XS.imul X.here hx rfl hd rfl k
 case idiv=>obtain⟨x,y,r,hy,rfl,rfl⟩:=iz_inv ha;exact XS.idiv X.here hx rfl hd rfl hy k
 case irem=>obtain⟨x,y,r,hy,rfl,rfl⟩:=iz_inv ha;exact iremM X hx rfl hd rfl hy k
 case ineg=>obtain⟨x,r,rfl,rfl⟩:=i1_inv ha;exact XS.ineg X.here hx rfl hd rfl k
 case iand=>obtain⟨x,y,r,rfl,rfl⟩:=ii_inv ha;exact XS.iand X.here hx rfl hd rfl k
 case ior=>obtain⟨x,y,r,rfl,rfl⟩:=ii_inv ha;exact XT.ior X.here hx rfl hd rfl k
 case ixor=>obtain⟨x,y,r,rfl,rfl⟩:=ii_inv ha;exact XT.ixor X.here hx rfl hd rfl k
 case ishl=>obtain⟨x,y,r,rfl,rfl⟩:=ii_inv ha;exact XT.ishl X.here hx rfl hd rfl k
 case ishr=>obtain⟨x,y,r,rfl,rfl⟩:=ii_inv ha;exact XT.ishr X.here hx rfl hd rfl k
 case iushr=>obtain⟨x,y,r,rfl,rfl⟩:=ii_inv ha;exact XT.iushr X.here hx rfl hd rfl k
 case ladd=>obtain⟨x,y,r,rfl,rfl⟩:=ll_inv ha;exact XT.ladd X.here hx rfl hd rfl k
 case lsub=>obtain⟨x,y,r,rfl,rfl⟩:=ll_inv ha;exact XT.lsub X.here hx rfl hd rfl k
 case lmul=>obtain⟨x,y,r,rfl,rfl⟩:=ll_inv ha;exact XT.lmul X.here hx rfl hd rfl k
 case land=>obtain⟨x,y,r,rfl,rfl⟩:=ll_inv ha;exact XT.land X.here hx rfl hd rfl k
 case lor=>obtain⟨x,y,r,rfl,rfl⟩:=ll_inv ha;exact XT.lor X.here hx rfl hd rfl k
 case lxor=>obtain⟨x,y,r,rfl,rfl⟩:=ll_inv ha;exact XT.lxor X.here hx rfl hd rfl k
 case lshl=>obtain⟨x,y,r,rfl,rfl⟩:=li_inv ha;exact XT.lshl X.here hx rfl hd rfl k
 case lushr=>obtain⟨x,y,r,rfl,rfl⟩:=li_inv ha;exact XT.lushr X.here hx rfl hd rfl k
 case lrem=>
  obtain⟨x,y,r,hy,rfl,rfl⟩:=lz_inv ha;have k':Steps p.tables e below (T.setTop (mkF m (pc+1) L (.long (x-x/y*y)::r.map (cv ρ)))) target:=by rw[lrem_mod];exact k
  exact XT.lrem X.here hx rfl hd rfl hy k'
 case lcmp=>obtain⟨x,y,r,rfl,rfl⟩:=lc_inv ha;exact XT.lcmp X.here hx rfl hd rfl k
 case i2l=>obtain⟨x,r,rfl,rfl⟩:=i1_inv ha;exact XT.i2l X.here hx rfl hd rfl k
 case l2i=>obtain⟨x,r,rfl,rfl⟩:=l1_inv ha;exact XT.l2i X.here hx rfl hd rfl k
 case i2b=>obtain⟨x,r,rfl,rfl⟩:=i1_inv ha;exact XT.i2b X.here hx rfl hd rfl k
 case pop=>
  simp only[alu,pop1] at ha
  split at ha
  ·cases ha;exact XT.pop X.here hx rfl hd rfl rfl k
  ·cases ha;exact XT.pop X.here hx rfl hd rfl rfl k
  ·cases ha
 case dup=>
  simp only[alu,dup1] at ha
  split at ha
  ·cases ha;exact XS.dup X.here hx rfl hd rfl rfl k
  ·cases ha;exact XS.dup X.here hx rfl hd rfl rfl k
  ·cases ha
 case dup2=>
  simp only[alu,dup2'] at ha
  split at ha
  ·cases ha;exact XT.dup2 X.here hx rfl hd rfl rfl rfl k
  ·cases ha;exact XT.dup2 X.here hx rfl hd rfl rfl rfl k
  ·cases ha;exact XT.dup2L X.here hx rfl hd rfl k
  ·cases ha
def ilen:Instr->Nat
 | .iload _ | .aload _ | .lload _ | .istore _ | .astore _ | .lstore _ | .bipush _ | .ldc _=>2
 | .iinc _ _ | .sipush _ | .ldc2_w _ | .goto _ | .ifCond _ _ | .if_icmp _ _ | .getfield _ | .putfield _ | .invokevirtual _ | .invokestatic _ | .invokespecial _ | .new _=>3
 |_=>1
def lenOK(i:Instr)(len:Nat):Bool:=match i with
 | .tableswitch _ _ _ _=>true
 |i=>len==ilen i
theorem lt_inv{ml k:Nat}{i j:Instr}(h:lt ml k i=some j):k<ml/\i=j:=by
 unfold lt at h;split at h
 ·cases h;exact⟨by assumption,rfl⟩
 ·cases h
theorem ldI_inv{ls:List Value}{k:Nat}{v:Value}(h:ldI ls k=some v):∃x,v = .int x/\ls[k]? = some (.int x):=by
 unfold ldI at h;split at h
 ·cases h;exact⟨_,rfl,by assumption⟩
 ·cases h
theorem ldA_inv{ls:List Value}{k:Nat}{v:Value}(h:ldA ls k=some v):∃x,v = .ref x/\ls[k]? = some (.ref x):=by
 unfold ldA at h;split at h
 ·cases h;exact⟨_,rfl,by assumption⟩
 ·cases h
theorem ldL_inv{ls:List Value}{k:Nat}{v:Value}(h:ldL ls k=some v):∃x,v = .long x/\ls[k]? = some (.long x):=by
 unfold ldL at h;split at h
 ·cases h;exact⟨_,rfl,by assumption⟩
 ·cases h
theorem incI_inv{ls:List Value}{k:Nat}{c:Int}{ls':List Value}(h:incI ls k c=some ls'):∃x,ls[k]? = some (.int x)/\ls'=st1 ls k (.int (x+Int32.ofInt c)):=by
 unfold incI at h;split at h
 ·cases h;exact⟨_,by assumption,rfl⟩
 ·cases h
theorem stI_inv{ls st:List Value}{k:Nat}{q:List Value×List Value}(h:stI' ls k st=some q):∃x r,st = .int x::r/\q=(st1 ls k (.int x),r):=by
 unfold stI' at h;split at h
 ·cases h;exact⟨_,_,rfl,rfl⟩
 ·cases h
theorem stA_inv{ls st:List Value}{k:Nat}{q:List Value×List Value}(h:stA' ls k st=some q):∃x r,st = .ref x::r/\q=(st1 ls k (.ref x),r):=by
 unfold stA' at h;split at h
 ·cases h;exact⟨_,_,rfl,rfl⟩
 ·cases h
theorem stL_inv{ls st:List Value}{k:Nat}{q:List Value×List Value}(h:stL' ls k st=some q):∃x r,st = .long x::r/\q=(st2 ls k (.long x),r):=by
 unfold stL' at h;split at h
 ·cases h;exact⟨_,_,rfl,rfl⟩
 ·cases h
end Sim
section Sim
variable {p:Program} {l:Launch} {e:Env} {R:Room} {s:State} {m:MethodId} {args:Array Value} {below:List Frame} {meth:Method} {c:Code} {T:State} {locs:List Loc} {cells slots:Nat} {ρ:Nat->Nat}
def Cst(Tb:Tabs)(Z:State)(a0:Array Value)(own:String):Prop:=(∀k v,(k,v)∈Tb.2.2.2.1->(Cond.constant own k v).before a0 Z=true)/\∀k v,(k,v)∈Tb.2.2.2.2.1->(Cond.constantLong own k v).before a0 Z=true
theorem cst1{Z:State}{a0:Array Value}(hZ:Z.Warmed39 s.vm){own:String}{Tb:Tabs}(hC:Cst Tb Z a0 own){j:Nat}{w:Int32}(hw:lk j Tb.2.2.2.1=some w):(Cond.constant own j w).before args s=true:=by
 have h:=hC.1 _ _ (lk_mem hw);exact mvT hZ h
theorem cst2{Z:State}{a0:Array Value}(hZ:Z.Warmed39 s.vm){own:String}{Tb:Tabs}(hC:Cst Tb Z a0 own){j:Nat}{w:Int64}(hw:lk j Tb.2.2.2.2.1=some w):(Cond.constantLong own j w).before args s=true:=by
 have h:=hC.2 _ _ (lk_mem hw);exact mvT hZ h
theorem own64(w:Int64):Int64.ofNat w.toUInt64.toNat=w:=by
 apply Int64.toBitVec_inj.mp;simp
set_option maxHeartbeats 1000000 in
theorem simLoc (X : Stand p l e R s m args below meth c T locs cells slots) (hx : p.tables.exec = Jvm.exec) {Z : State} {a0 : Array Value} (hZ : Z.Warmed39 s.vm) {own : String} (hown : s.vm.findClass own = some m.cls) {Tb : Tabs} (hC : Cst Tb Z a0 own)
    {pc:Nat} {i0 i:Instr} {len:Nat} (hd:decode c.code pc = .ok (i0,len)) (ho:lenOK i0 len=true) {L:Array Slot} (hc:canon Tb L.size pc i0=some i) {ls st ls' st':List Value} (hl:loc i ls st=some (ls',st')) (RL:LocRel ρ ls L) (W:WFL L) :
    ∃L',LocRel ρ ls' L'/\WFL L'/\L'.size=L.size/\∀target,Steps p.tables e below (T.setTop (mkF m (pc+len) L' (st'.map (cv ρ)))) target->Steps p.tables e below (T.setTop (mkF m pc L (st.map (cv ρ)))) target:=by
  have i32:∀x:Int32,Int32.ofInt x.toInt=x:=fun x=>Int32.ofInt_toInt x
  cases i0
  case iload_n k=>
    cases hc;obtain rfl:len=1:=by simpa [lenOK,ilen] using ho
    obtain⟨v,h1,h2⟩:=Option.map_eq_some_iff.mp hl;cases h2
    obtain⟨x,rfl,h3⟩:=ldI_inv h1
    exact⟨L,RL,W,rfl,fun t k'=>XS.iloadN X.here hx rfl hd (RL _ _ h3 (by simp)) k'⟩
  case iload k=>
    cases hc;obtain rfl:len=2:=by simpa [lenOK,ilen] using ho
    obtain⟨v,h1,h2⟩:=Option.map_eq_some_iff.mp hl;cases h2
    obtain⟨x,rfl,h3⟩:=ldI_inv h1
    exact⟨L,RL,W,rfl,fun t k'=>XS.iload X.here hx rfl hd (RL _ _ h3 (by simp)) k'⟩
  case aload_n k=>
    cases hc;obtain rfl:len=1:=by simpa [lenOK,ilen] using ho
    obtain⟨v,h1,h2⟩:=Option.map_eq_some_iff.mp hl;cases h2
    obtain⟨x,rfl,h3⟩:=ldA_inv h1
    exact⟨L,RL,W,rfl,fun t k'=>XS.aloadN X.here hx rfl hd (RL _ _ h3 (by simp)) rfl k'⟩
  case aload k=>
    cases hc;obtain rfl:len=2:=by simpa [lenOK,ilen] using ho
    obtain⟨v,h1,h2⟩:=Option.map_eq_some_iff.mp hl;cases h2
    obtain⟨x,rfl,h3⟩:=ldA_inv h1
    exact⟨L,RL,W,rfl,fun t k'=>XS.aload X.here hx rfl hd (RL _ _ h3 (by simp)) rfl k'⟩
  case lload_n k=>
    cases hc;obtain rfl:len=1:=by simpa [lenOK,ilen] using ho
    obtain⟨v,h1,h2⟩:=Option.map_eq_some_iff.mp hl;cases h2
    obtain⟨x,rfl,h3⟩:=ldL_inv h1
    exact⟨L,RL,W,rfl,fun t k'=>XT.lloadN X.here hx rfl hd (RL _ _ h3 (by simp)) k'⟩
  case lload k=>
    cases hc;obtain rfl:len=2:=by simpa [lenOK,ilen] using ho
    obtain⟨v,h1,h2⟩:=Option.map_eq_some_iff.mp hl;cases h2
    obtain⟨x,rfl,h3⟩:=ldL_inv h1
    exact⟨L,RL,W,rfl,fun t k'=>XT.lload X.here hx rfl hd (RL _ _ h3 (by simp)) k'⟩
  case istore_n k=>
    obtain⟨hk,rfl⟩:=lt_inv hc;obtain rfl:len=1:=by simpa [lenOK,ilen] using ho
    obtain⟨x,r,rfl,h2⟩:=stI_inv hl;cases h2
    obtain⟨L',q1,q2,q3,q4⟩:=store1 (v:= .int x) RL W hk rfl
    exact⟨L',q2,q3,q4,fun t k'=>XS.istoreN X.here hx rfl hd rfl q1 k'⟩
  case istore k=>
    obtain⟨hk,rfl⟩:=lt_inv hc;obtain rfl:len=2:=by simpa [lenOK,ilen] using ho
    obtain⟨x,r,rfl,h2⟩:=stI_inv hl;cases h2
    obtain⟨L',q1,q2,q3,q4⟩:=store1 (v:= .int x) RL W hk rfl
    exact⟨L',q2,q3,q4,fun t k'=>XS.istore X.here hx rfl hd rfl q1 k'⟩
  case astore_n k=>
    obtain⟨hk,rfl⟩:=lt_inv hc;obtain rfl:len=1:=by simpa [lenOK,ilen] using ho
    obtain⟨x,r,rfl,h2⟩:=stA_inv hl;cases h2
    obtain⟨L',q1,q2,q3,q4⟩:=store1 (v:= .ref x) RL W hk rfl
    exact⟨L',q2,q3,q4,fun t k'=>XS.astoreN X.here hx rfl hd rfl rfl q1 k'⟩
  case astore k=>
    obtain⟨hk,rfl⟩:=lt_inv hc;obtain rfl:len=2:=by simpa [lenOK,ilen] using ho
    obtain⟨x,r,rfl,h2⟩:=stA_inv hl;cases h2
    obtain⟨L',q1,q2,q3,q4⟩:=store1 (v:= .ref x) RL W hk rfl
    exact⟨L',q2,q3,q4,fun t k'=>XS.astore X.here hx rfl hd rfl rfl q1 k'⟩
  case lstore_n k=>
    obtain⟨hk,rfl⟩:=lt_inv hc;obtain rfl:len=1:=by simpa [lenOK,ilen] using ho
    obtain⟨x,r,rfl,h2⟩:=stL_inv hl;cases h2
    obtain⟨L',q1,q2,q3,q4⟩:=store2 (x:=x) RL W hk
    exact⟨L',q2,q3,q4,fun t k'=>XT.lstoreN X.here hx rfl hd rfl q1 k'⟩
  case lstore k=>
    obtain⟨hk,rfl⟩:=lt_inv hc;obtain rfl:len=2:=by simpa [lenOK,ilen] using ho
    obtain⟨x,r,rfl,h2⟩:=stL_inv hl;cases h2
    obtain⟨L',q1,q2,q3,q4⟩:=store2 (x:=x) RL W hk
    exact⟨L',q2,q3,q4,fun t k'=>XT.lstore X.here hx rfl hd rfl q1 k'⟩
  case iinc k cst=>
    obtain⟨hk,rfl⟩:=lt_inv hc;obtain rfl:len=3:=by simpa [lenOK,ilen] using ho
    obtain⟨v,h1,h2⟩:=Option.map_eq_some_iff.mp hl;cases h2
    obtain⟨x,h3,rfl⟩:=incI_inv h1
    obtain⟨L',q1,q2,q3,q4⟩:=store1 (v:= .int (x+Int32.ofInt cst)) RL W hk rfl
    exact⟨L',q2,q3,q4,fun t k'=>XS.iinc X.here hx rfl hd (RL _ _ h3 (by simp)) q1 k'⟩
  case iconst j=>
    cases hc;obtain rfl:len=1:=by simpa [lenOK,ilen] using ho
    simp only[loc,alu,Option.map_some,Option.some.injEq,Prod.mk.injEq] at hl;obtain⟨rfl,rfl⟩:=hl
    exact⟨L,RL,W,rfl,fun t k'=>XS.iconst X.here hx rfl hd k'⟩
  case bipush j=>
    cases hc;obtain rfl:len=2:=by simpa [lenOK,ilen] using ho
    simp only[loc,alu,Option.map_some,Option.some.injEq,Prod.mk.injEq] at hl;obtain⟨rfl,rfl⟩:=hl
    rw[i32]
    exact⟨L,RL,W,rfl,fun t k'=>XS.bipush X.here hx rfl hd k'⟩
  case sipush j=>
    cases hc;obtain rfl:len=3:=by simpa [lenOK,ilen] using ho
    simp only[loc,alu,Option.map_some,Option.some.injEq,Prod.mk.injEq] at hl;obtain⟨rfl,rfl⟩:=hl
    rw[i32]
    exact⟨L,RL,W,rfl,fun t k'=>XS.sipush X.here hx rfl hd k'⟩
  case ldc j=>
    obtain⟨w,hw,hc⟩:=Option.map_eq_some_iff.mp hc;cases hc;obtain rfl:len=2:=by simpa [lenOK,ilen] using ho
    simp only[loc,alu,Option.map_some,Option.some.injEq,Prod.mk.injEq] at hl;obtain⟨rfl,rfl⟩:=hl
    rw[i32]
    exact⟨L,RL,W,rfl,fun t k'=>X.ldcInt hx hown (cst1 hZ hC hw) (g:=mkF m pc L (st.map (cv ρ))) rfl hd _ k'⟩
  case ldc2_w j=>
    obtain⟨w,hw,hc⟩:=Option.map_eq_some_iff.mp hc;cases hc;obtain rfl:len=3:=by simpa [lenOK,ilen] using ho
    simp only[loc,alu,Option.map_some,Option.some.injEq,Prod.mk.injEq] at hl;obtain⟨rfl,rfl⟩:=hl
    rw[own64]
    exact⟨L,RL,W,rfl,fun t k'=>X.ldc2Long hx hown (cst2 hZ hC hw) (g:=mkF m pc L (st.map (cv ρ))) rfl hd _ k'⟩
  case tableswitch d lo hi offs=>
    simp only[canon] at hc
    split at hc
    · cases hc
      simp[loc,alu] at hl
    · cases hc
  all_goals first
    | (simp[canon,plain1,heapy] at hc;done)
    | (simp only [canon, plain1, heapy, Bool.or_false, Bool.or_true, Bool.false_or, if_true, Option.some.injEq] at hc
       subst hc
       simp only[loc] at hl
       obtain⟨v,h1,h2⟩:=Option.map_eq_some_iff.mp hl
       first
         | (cases h1;done)
         | (simp only[alu] at h1;cases h1;done)
         | (cases h2
            obtain rfl:len=1:=by simpa [lenOK,ilen] using ho
            exact⟨L,RL,W,rfl,fun t k'=>simAlu X hx hd rfl h1 k'⟩))
    | (simp only [canon] at hc
       first
         | (obtain ⟨w, hw, hc⟩ := Option.map_eq_some_iff.mp hc
            cases hc
            simp[loc,alu] at hl))
end Sim
theorem swc_spec{β:Type}(x:Int32)(k:Nat->β)(d:β):∀(ts:List Int) (lo:Int),-2147483648<=lo->lo+ts.length<=2147483648 ->
  (∃t,lo<=x.toInt/\x.toInt<lo+ts.length/\ts[(x.toInt-lo).toNat]? = some t/\swc x lo ts k d=k t.toNat)\/((x.toInt<lo\/lo+ts.length<=x.toInt)/\swc x lo ts k d=d)
 |[],lo,_,_=>Or.inr ⟨by simp;omega,rfl⟩
 |t::ts,lo,h1,h2=>by
  simp only[List.length_cons] at h2;have e:x=Int32.ofInt lo↔x.toInt=lo:=by
   constructor
   ·intro q;subst q;exact Int32.toInt_ofInt_of_le h1 (by omega)
   ·intro q;rw[<-q,Int32.ofInt_toInt]
  simp only[swc];by_cases q:x=Int32.ofInt lo
  ·rw[if_pos q];have q':=e.mp q;refine Or.inl ⟨t,by omega,by simp;omega,?_,rfl⟩;rw[q'];simp
  ·rw[if_neg q];have q':x.toInt≠lo:=fun h=>q (e.mpr h);rcases swc_spec x k d ts (lo+1) (by omega) (by omega) with⟨t',a,b,c,f⟩ | ⟨a,b⟩
   ·refine Or.inl ⟨t',by omega,by simp;omega,?_,f⟩;have:(x.toInt-lo).toNat=(x.toInt-(lo+1)).toNat+1:=by omega
    rw[this];simpa using c
   ·refine Or.inr ⟨?_,b⟩;simp only[List.length_cons];omega
section Sim
variable {p:Program} {l:Launch} {e:Env} {R:Room} {s:State} {m:MethodId} {args:Array Value} {below:List Frame} {meth:Method} {c:Code} {T:State} {locs:List Loc} {cells slots:Nat} {ρ:Nat->Nat}
theorem cnd_pick{β:Type}(cd:ClassFile.Cond)(x y:Int32)(a b:β):cnd cd x y a b=if if_icmp.holds cd x y=true then a else b:=by
 cases cd
 ·by_cases h:x=y
  ·simp only[cnd];rw[if_pos h,(teq h).1,if_pos rfl]
  ·simp only[cnd,(feq h).1,h,if_false,Bool.false_eq_true]
 ·by_cases h:x=y
  ·simp only[cnd];rw[if_pos h,(teq h).2,if_neg (by decide)]
  ·simp only[cnd,(feq h).2,h,if_true,if_false]
 ·by_cases h:x<y
  ·simp only[cnd,(tlt h).1,h,if_true]
  ·simp only[cnd,(flt h).1,h,if_false,Bool.false_eq_true]
 ·by_cases h:x<y
  ·simp only[cnd,(tlt h).2.1,h,if_true,if_false,Bool.false_eq_true]
  ·simp only[cnd,(flt h).2.1,h,if_true,if_false]
 ·by_cases h:y<x
  ·simp only[cnd,(tlt h).2.2.1,h,if_true]
  ·simp only[cnd,(flt h).2.2.1,h,if_false,Bool.false_eq_true]
 ·by_cases h:y<x
  ·simp only[cnd,(tlt h).2.2.2,h,if_true,if_false,Bool.false_eq_true]
  ·simp only[cnd,(flt h).2.2.2,h,if_true,if_false]
theorem simGoto(X:Stand p l e R s m args below meth c T locs cells slots)(hx:p.tables.exec=Jvm.exec){Tb:Tabs}{ml pc len:Nat}{i0:Instr}{t:Int}(hd:decode c.code pc = .ok (i0,len))(ho:lenOK i0 len=true)(hc:canon Tb ml pc i0=some (.goto t)){L:Array Slot}{st:List Value}{target:State}
  (k:Steps p.tables e below (T.setTop (mkF m t.toNat L st)) target):Steps p.tables e below (T.setTop (mkF m pc L st)) target:=by
 cases i0<;>try (simp[canon,lt,plain1,heapy] at hc;done)
 case goto o=>
  obtain rfl:len=3:=by simpa [lenOK,ilen] using ho
  simp only[canon,absT] at hc
  split at hc
  ·rename_i q
   simp at hc;subst hc;exact XS.goto X.here hx rfl rfl hd q rfl k
  ·cases hc
theorem simIf(X:Stand p l e R s m args below meth c T locs cells slots)(hx:p.tables.exec=Jvm.exec){Tb:Tabs}{ml pc len:Nat}{i0:Instr}{t:Int}{cd:ClassFile.Cond}(hd:decode c.code pc = .ok (i0,len))(ho:lenOK i0 len=true)(hc:canon Tb ml pc i0=some (.ifCond cd t)){L:Array Slot}{x:Int32}{st:List Value}{target:State}
  (k:Steps p.tables e below (T.setTop (mkF m (if if_icmp.holds cd x 0=true then t.toNat else pc+len) L st)) target):Steps p.tables e below (T.setTop (mkF m pc L (.int x::st))) target:=by
 cases i0<;>try (simp[canon,lt,plain1,heapy] at hc;done)
 case ifCond cd' o=>
  obtain rfl:len=3:=by simpa [lenOK,ilen] using ho
  simp only[canon,absT] at hc
  split at hc
  ·rename_i q
   simp at hc;obtain⟨rfl,rfl⟩:=hc;by_cases h:if_icmp.holds cd' x 0=true
   ·rw[if_pos h] at k;exact XS.ifYes X.here hx rfl rfl hd rfl (by rw[if0];exact h) q rfl k
   ·rw[if_neg h] at k;exact XS.ifNo X.here hx rfl hd rfl (by rw[if0];simpa using h) k
  ·cases hc
theorem simIcmp(X:Stand p l e R s m args below meth c T locs cells slots)(hx:p.tables.exec=Jvm.exec){Tb:Tabs}{ml pc len:Nat}{i0:Instr}{t:Int}{cd:ClassFile.Cond}(hd:decode c.code pc = .ok (i0,len))(ho:lenOK i0 len=true)(hc:canon Tb ml pc i0=some (.if_icmp cd t)){L:Array Slot}{x y:Int32}{st:List Value}{target:State}
  (k:Steps p.tables e below (T.setTop (mkF m (if if_icmp.holds cd x y=true then t.toNat else pc+len) L st)) target):Steps p.tables e below (T.setTop (mkF m pc L (.int y :: .int x::st))) target:=by
 cases i0<;>try (simp[canon,lt,plain1,heapy] at hc;done)
 case if_icmp cd' o=>
  obtain rfl:len=3:=by simpa [lenOK,ilen] using ho
  simp only[canon,absT] at hc
  split at hc
  ·rename_i q
   simp at hc;obtain⟨rfl,rfl⟩:=hc;by_cases h:if_icmp.holds cd' x y=true
   ·rw[if_pos h] at k;exact XS.icmpYes X.here hx rfl rfl hd rfl h q rfl k
   ·rw[if_neg h] at k;exact XS.icmpNo X.here hx rfl hd rfl (by simpa using h) k
  ·cases hc
theorem simSw(X:Stand p l e R s m args below meth c T locs cells slots)(hx:p.tables.exec=Jvm.exec){Tb:Tabs}{ml pc len:Nat}{i0:Instr}{d lo hi:Int}{ts:Array Int}(hd:decode c.code pc = .ok (i0,len))(hc:canon Tb ml pc i0=some (.tableswitch d lo hi ts)){L:Array Slot}{x:Int32}{st:List Value}{target:State}
  (k:Steps p.tables e below (T.setTop (mkF m (swc x lo ts.toList (fun t=>t) d.toNat) L st)) target):Steps p.tables e below (T.setTop (mkF m pc L (.int x::st))) target:=by
 cases i0<;>try (simp[canon,lt,plain1,heapy] at hc;done)
 case tableswitch d' lo' hi' offs=>
  simp only[canon] at hc
  split at hc
  ·rename_i q
   obtain⟨q1,q2,q3,q4,q5⟩:=q;simp at hc;obtain⟨rfl,rfl,rfl,rfl⟩:=hc;have hlen:((offs.map fun o=>(pc:Int)+o).toList.length:Int)=hi'-lo'+1:=by simpa using q3
   rcases swc_spec x (fun t=>t) ((pc:Int)+d').toNat (offs.map fun o=>(pc:Int)+o).toList lo' q4 (by omega) with⟨t,a,b,cc,f⟩ | ⟨a,b⟩
   ·rw[f] at k;obtain⟨o,o1,o2⟩:∃o,offs[(x.toInt-lo').toNat]? = some o/\(pc:Int)+o=t:=by
     simpa using cc
    have hoff:0<=(pc:Int)+o:=by
     have:=Array.all_eq_true_iff_forall_mem.mp q2 o (Array.mem_of_getElem? o1)
     simpa using this
    exact XS.tswIn X.here hx rfl rfl hd rfl (by omega) o1 hoff (by rw[o2]) k
   ·rw[b] at k;exact XS.tswOut X.here hx rfl rfl hd rfl (by omega) q1 rfl k
  ·cases hc
theorem retV_ok{t:Option FieldType}{i:Instr}{st:List Value}{v:Option Value}(hv:retV t i st=some v):(t=none->v=none)/\∀ρ',v.map (cv ρ')=v:=by
 unfold retV at hv
 split at hv
 ·split at hv
  ·cases hv;exact⟨fun _=>rfl,fun _=>rfl⟩
  ·cases hv
 ·split at hv
  ·cases hv;exact⟨fun h=>(by cases h),fun _=>rfl⟩
  ·cases hv;exact⟨fun h=>(by cases h),fun _=>rfl⟩
  ·cases hv
 ·split at hv
  ·cases hv;exact⟨fun h=>(by cases h),fun _=>rfl⟩
  ·cases hv
 ·cases hv
theorem simRet(X:Stand p l e R s m args below meth c T locs cells slots)(hx:p.tables.exec=Jvm.exec){Tb:Tabs}{ml pc len:Nat}{i0 i:Instr}(hd:decode c.code pc = .ok (i0,len))(ho:lenOK i0 len=true)(hc:canon Tb ml pc i0=some i){L:Array Slot}{st:List Value}{v:Option Value}
  (hv:retV meth.sig.returnType i st=some v) {fs:List Frame} (hl:∀(f:JFrame) (acts:List Action),f.method=m->f.locked=none->f.entered=[]->(doReturn e (T.setTop f) acts v).1=T.setFrames fs) :
  Steps p.tables e below (T.setTop (mkF m pc L (st.map (cv ρ)))) (T.setFrames fs):=by
 have hr:i = .return_\/i = .ireturn\/i = .lreturn:=by
  unfold retV at hv
  split at hv<;>first | exact Or.inl rfl | exact Or.inr (Or.inl rfl) | exact Or.inr (Or.inr rfl) | cases hv
 have hi:i0=i/\len=1:=by
  rcases hr with rfl | rfl | rfl <;>
   (cases i0<;>first | (simp[canon,lt,plain1,heapy] at hc;done) | exact⟨rfl,by simpa [lenOK,ilen] using ho⟩)
 obtain⟨rfl,rfl⟩:=hi;rcases hr with rfl | rfl | rfl
 ·simp only[retV] at hv
  split at hv
  ·rename_i h1
   cases hv
   exact X.returnOut hx h1 hd hl
  ·cases hv
 ·simp only[retV] at hv
  split at hv
  ·rename_i h1
   cases hv
   exact retOut X hx h1 rfl (Or.inl ⟨rfl,Or.inl rfl,_,rfl⟩) hd hl
  ·rename_i h1
   cases hv
   exact retN X hx (t:= .boolean) h1 (Or.inl rfl) hd hl
  ·cases hv
 ·simp only[retV] at hv
  split at hv
  ·rename_i h1
   cases hv
   exact retOut X hx h1 rfl (Or.inr (Or.inl ⟨rfl,rfl,_,rfl⟩)) hd hl
  ·cases hv
end Sim
def Go(p:Program)(e:Env)(below:List Frame)(T:State)(g:JFrame)(T':State)(g':JFrame):Prop:=∀target,Steps p.tables e below (T'.setTop g') target->Steps p.tables e below (T.setTop g) target
abbrev MI:=Nat->MethodName×ByteArray×Nat×Nat×Nat
def Frm(mi:MI)(rt:Nat->Option FieldType)(own:String)(Z:State)(mm:Nat)(p:Program)(R:Room)(s:State)(m:MethodId)(meth:Method)(c:Code):Prop:=
 p.tables.exec=Jvm.exec/\Z.Warmed39 s.vm/\s.vm.findClass own=some m.cls/\c.code=(mi mm).2.1/\c.maxLocals=(mi mm).2.2.1/\meth.sig.returnType=rt mm/\meth.name=(mi mm).1.name/\(mi mm).2.2.2.1<=R.frames/\(mi mm).2.2.2.2<=R.locals
def chkE(Tb:Tabs)(bytes:ByteArray)(ml:Nat)(q:Nat×Instr×Nat×Option Nat):Bool:=match decode bytes q.1 with
 | .ok (i0,len)=>decide (canon Tb ml q.1 i0=some q.2.1)&&decide (q.2.2.1=q.1+len)&&lenOK i0 len
 |_=>false
def Good(Tb:Tabs)(mi:MI)(code:Codes):Prop:=∀mm pc q,code mm pc=some q->chkE Tb (mi mm).2.1 (mi mm).2.2.1 (pc,q)=true
theorem chkE_spec{Tb:Tabs}{bytes:ByteArray}{ml pc pn:Nat}{i:Instr}{kp:Option Nat}(h:chkE Tb bytes ml (pc,i,pn,kp)=true):∃i0 len,decode bytes pc = .ok (i0,len)/\canon Tb ml pc i0=some i/\pn=pc+len/\lenOK i0 len=true:=by
 simp only[chkE] at h
 split at h
 ·rename_i i0 len hd
  simp only[Bool.and_eq_true,decide_eq_true_eq] at h;exact⟨i0,len,hd,h.1.1,h.1.2,h.2⟩
 ·cases h
section Walk
variable {τ ι:Type} (code:Codes) (rt:Nat->Option FieldType) (mop:Mop τ) (cop:Cop) (Tb:Tabs) (mi:MI) (own:String) (Z:State) (l:Launch) (ρ:ι->Nat->Nat) (J:ι->Room->State->Nat->τ->State->List Loc->Nat->Nat->Prop)
def Walks (n:Nat):Prop:=∀(x:ι) (p:Program) (e:Env) (R:Room) (s:State) (m:MethodId) (args:Array Value) (below:List Frame) (meth:Method) (c:Code) (mm pc:Nat) (ls st:List Value) (S:τ) (r:Res τ),
  iter (plan code rt mop cop) n (mm,pc,ls,st,S)=some r->∀(T:State) (locs:List Loc) (cells slots:Nat) (L:Array Slot),Stand p l e R s m args below meth c T locs cells slots->Frm mi rt own Z mm p R s m meth c->J x R s mm S T locs cells slots->LocRel (ρ x) ls L->WFL L->L.size=c.maxLocals ->
  ∃ (T' : State) (locs' : List Loc) (cells' slots' : Nat), Stand p l e R s m args below meth c T' locs' cells' slots' /\ J x R s mm r.2 T' locs' cells' slots' /\ ((meth.sig.returnType = none -> r.1 = none) /\ ∀ ρ', r.1.map (cv ρ') = r.1) /\
    ∀fs,(∀(f:JFrame) (acts:List Action),f.method=m->f.locked=none->f.entered=[]->(doReturn e (T'.setTop f) acts r.1).1=T'.setFrames fs)->Steps p.tables e below (T.setTop (mkF m pc L (st.map (cv (ρ x))))) (T'.setFrames fs)
def MopOK:Prop:=∀(x:ι) (p:Program) (e:Env) (R:Room) (s:State) (m:MethodId) (args:Array Value) (below:List Frame) (meth:Method) (c:Code) (mm pc len:Nat) (i0 i:Instr) (st st':List Value) (S S':τ) (T:State) (locs:List Loc) (cells slots:Nat) (L:Array Slot),
 Stand p l e R s m args below meth c T locs cells slots->Frm mi rt own Z mm p R s m meth c->J x R s mm S T locs cells slots->L.size=c.maxLocals->decode c.code pc = .ok (i0,len)->lenOK i0 len=true->canon Tb c.maxLocals pc i0=some i->(∃kp,code mm pc=some (i,pc+len,kp))->mop mm i st S=some (st',S') ->
 ∃(T':State) (locs':List Loc) (cells' slots':Nat),Stand p l e R s m args below meth c T' locs' cells' slots'/\J x R s mm S' T' locs' cells' slots'/\Go p e below T (mkF m pc L (st.map (cv (ρ x)))) T' (mkF m (pc+len) L (st'.map (cv (ρ x))))
def CopOK:Prop:=∀n,Walks code rt mop cop mi own Z l ρ J n->∀(x:ι) (p:Program) (e:Env) (R:Room) (s:State) (m:MethodId) (args:Array Value) (below:List Frame) (meth:Method) (c:Code) (mm pc len:Nat) (i0 i:Instr) (st:List Value) (q:Nat×List Value×List Value) (S:τ) (r:Res τ) (T:State) (locs:List Loc) (cells slots:Nat) (L:Array Slot),
 Stand p l e R s m args below meth c T locs cells slots->Frm mi rt own Z mm p R s m meth c->J x R s mm S T locs cells slots->L.size=c.maxLocals->decode c.code pc = .ok (i0,len)->lenOK i0 len=true->canon Tb c.maxLocals pc i0=some i->(∃kp,code mm pc=some (i,pc+len,kp))->cop mm i st=some q->iter (plan code rt mop cop) n (q.1,0,entL q.2.1,[],S)=some r ->
 ∃(T':State) (locs':List Loc) (cells' slots':Nat),Stand p l e R s m args below meth c T' locs' cells' slots'/\J x R s mm r.2 T' locs' cells' slots'/\Go p e below T (mkF m pc L (st.map (cv (ρ x)))) T' (mkF m (pc+len) L ((r.1.toList++q.2.2).map (cv (ρ x))))
theorem tk_rel{ρ:Nat->Nat}{ls:List Value}{L:Array Slot}(kp:Option Nat)(h:LocRel ρ ls L):LocRel ρ (tk kp ls) L:=by
 cases kp with
 |none=>exact h
 |some k=>
  intro i v q hn;simp only[tk,List.getElem?_take] at q
  split at q
  ·exact h i v q hn
  ·cases q
set_option maxHeartbeats 1000000 in
theorem walks{a0:Array Value}(hC:Cst Tb Z a0 own)(hG:Good Tb mi code)(hM:MopOK code rt mop Tb mi own Z l ρ J)(hP:CopOK code rt mop cop Tb mi own Z l ρ J):∀n,Walks code rt mop cop mi own Z l ρ J n:=by
 intro n
 induction n with
 |zero=>intro x p e R s m args below meth c mm pc ls st S r h;cases h
 |succ n ih=>
  intro x p e R s m args below meth c mm pc ls st S r h T locs cells slots L X F hJ RL W hs;have hx:=F.1;simp only[iter,run] at h;cases hq:code mm pc with
  |none=>simp only[plan,hq] at h;cases h
  |some q=>
   obtain⟨i,pn,kp⟩:=q;obtain⟨i0,len,hd,hc,rfl,ho⟩:=chkE_spec (hG mm pc _ hq);have RL':=tk_rel kp RL;rw[<-F.2.2.2.1] at hd;rw[<-F.2.2.2.2.1] at hc;simp only[plan,hq] at h
   split at h
   ·cases h
   ·-- a return
    rename_i r' hpl
    split at hpl
    ·cases hpl
    ·simp only[pl1] at hpl;split at hpl<;>cases hpl
    ·simp only[pl2] at hpl;split at hpl<;>cases hpl
    ·simp only[pl3] at hpl;split at hpl<;>cases hpl
    ·simp only[rest] at hpl
     split at hpl
     ·rename_i v hv
      cases hpl;cases h
      rw[<-F.2.2.2.2.2.1] at hv;exact⟨T,locs,cells,slots,X,hJ,retV_ok hv,fun fs hl=>simRet X hx hd ho hc hv hl⟩
     ·split at hpl
      ·cases hpl
      ·split at hpl
       ·cases hpl
       ·split at hpl<;>cases hpl
   ·-- the next step
    rename_i c' hpl
    split at hpl
    ·cases hpl
     obtain⟨T',L',k',n',X',hJ',ok',st'⟩:=ih x p e R s m args below meth c _ _ _ _ _ _ h T locs cells slots L X F hJ RL' W hs;exact⟨T',L',k',n',X',hJ',ok',fun fs hl=>simGoto X hx hd ho hc (st' fs hl)⟩
    ·rename_i cd t
     simp only[pl1] at hpl
     split at hpl
     ·rename_i y r0
      cases hpl
      rw[cnd_pick] at h;have h':iter (plan code rt mop cop) n (mm,(if if_icmp.holds cd y 0=true then t.toNat else pc+len),tk kp ls,r0,S)=some r:=by
       by_cases q:if_icmp.holds cd y 0=true
       ·rw[if_pos q] at h ⊢;exact h
       ·rw[if_neg q] at h ⊢;exact h
      obtain⟨T',L',k',n',X',hJ',ok',st'⟩:=ih x p e R s m args below meth c _ _ _ _ _ _ h' T locs cells slots L X F hJ RL' W hs;exact⟨T',L',k',n',X',hJ',ok',fun fs hl=>simIf X hx hd ho hc (st' fs hl)⟩
     ·cases hpl
    ·rename_i cd t
     simp only[pl2] at hpl
     split at hpl
     ·rename_i y y' r0
      cases hpl
      rw[cnd_pick] at h;have h':iter (plan code rt mop cop) n (mm,(if if_icmp.holds cd y' y=true then t.toNat else pc+len),tk kp ls,r0,S)=some r:=by
       by_cases q:if_icmp.holds cd y' y=true
       ·rw[if_pos q] at h ⊢;exact h
       ·rw[if_neg q] at h ⊢;exact h
      obtain⟨T',L',k',n',X',hJ',ok',st'⟩:=ih x p e R s m args below meth c _ _ _ _ _ _ h' T locs cells slots L X F hJ RL' W hs;exact⟨T',L',k',n',X',hJ',ok',fun fs hl=>simIcmp X hx hd ho hc (st' fs hl)⟩
     ·cases hpl
    ·rename_i d lo hi ts
     simp only[pl3] at hpl
     split at hpl
     ·rename_i y r0
      cases hpl
      have h':iter (plan code rt mop cop) n (mm,swc y lo ts.toList (fun t=>t) d.toNat,tk kp ls,r0,S)=some r:=by
       rw[<-h,swc_map (fun t=>(mm,t,tk kp ls,r0,S))]
      obtain⟨T',L',k',n',X',hJ',ok',st'⟩:=ih x p e R s m args below meth c _ _ _ _ _ _ h' T locs cells slots L X F hJ RL' W hs;exact⟨T',L',k',n',X',hJ',ok',fun fs hl=>simSw X hx hd hc (st' fs hl)⟩
     ·cases hpl
    ·simp only[rest] at hpl
     split at hpl
     ·cases hpl
     ·split at hpl
      ·rename_i q hq'
       cases hpl
       obtain⟨L1,RL1,W1,z1,st1⟩:=simLoc X hx F.2.1 F.2.2.1 hC hd ho (by rw[hs];exact hc) hq' RL' W;obtain⟨T',L',k',n',X',hJ',ok',st'⟩:=ih x p e R s m args below meth c _ _ _ _ _ _ h T locs cells slots L1 X F hJ RL1 W1 (z1.trans hs);exact⟨T',L',k',n',X',hJ',ok',fun fs hl=>st1 _ (st' fs hl)⟩
      ·split at hpl
       ·rename_i q hq'
        cases hpl
        obtain⟨T1,o1,k1,n1,X1,J1,G1⟩:=hM x p e R s m args below meth c mm pc len i0 _ st q.1 S q.2 T locs cells slots L X F hJ hs hd ho hc ⟨kp,hq⟩ hq';obtain⟨T',L',k',n',X',hJ',ok',st'⟩:=ih x p e R s m args below meth c _ _ _ _ _ _ h T1 o1 k1 n1 L X1 F J1 RL' W hs;exact⟨T',L',k',n',X',hJ',ok',fun fs hl=>G1 _ (st' fs hl)⟩
       ·split at hpl<;>cases hpl
   ·-- a call
    rename_i q hpl
    split at hpl
    ·cases hpl
    ·simp only[pl1] at hpl;split at hpl<;>cases hpl
    ·simp only[pl2] at hpl;split at hpl<;>cases hpl
    ·simp only[pl3] at hpl;split at hpl<;>cases hpl
    ·simp only[rest] at hpl
     split at hpl
     ·cases hpl
     ·split at hpl
      ·cases hpl
      ·split at hpl
       ·cases hpl
       ·split at hpl
        ·rename_i q' hq'
         cases hpl
         obtain⟨r1,h1,h2⟩:=Option.bind_eq_some_iff.mp h;obtain⟨T1,o1,k1,n1,X1,J1,G1⟩:=hP n ih x p e R s m args below meth c mm pc len i0 _ st q' S r1 T locs cells slots L X F hJ hs hd ho hc ⟨kp,hq⟩ hq' h1;obtain⟨T',L',k',n',X',hJ',ok',st'⟩:=ih x p e R s m args below meth c _ _ _ _ _ _ h2 T1 o1 k1 n1 L X1 F J1 RL' W hs;exact⟨T',L',k',n',X',hJ',ok',fun fs hl=>G1 _ (st' fs hl)⟩
        ·cases hpl
end Walk
section Call
variable {p:Program} {l:Launch} {e:Env} {R:Room} {s:State} {m:MethodId} {args:Array Value} {below:List Frame} {meth:Method} {c:Code} {T:State} {locs:List Loc} {cells slots:Nat} {Z:State} {a0:Array Value} {h:Heap}
def VirtW(Z:State)(a0:Array Value)(C own:String)(idx:Nat)(y:MethodName)(bytes:ByteArray)(ml:Nat)(ret:Option FieldType):Prop:=
 y.cls=C/\(Cond.methodLink own idx y).before a0 Z=true/\(Cond.instanceMethod y).before a0 Z=true/\(Cond.code y bytes ml ret).before a0 Z=true /\
 ((Cond.privateMethod y).before a0 Z=true\/((Cond.declares y).before a0 Z=true/\(Cond.selects C y y).before a0 Z=true))
theorem callV(X:Stand p l e R s m args below meth c T locs cells slots)(hx:p.tables.exec=Jvm.exec)(hZ:Z.Warmed39 s.vm){own C:String}(hown:s.vm.findClass own=some m.cls){idx kk:Nat}{y:MethodName}{bytes:ByteArray}{ml:Nat}{ret:Option FieldType}
  (hw:VirtW Z a0 C own idx y bytes ml ret) (wi:(Cond.instantiable C kk).before a0 Z=true) (wz:(Cond.initialized C).before a0 Z=true) (hC:C ≠ "java/lang/invoke/MethodHandle" /\ C ≠ "java/lang/invoke/VarHandle")
  {ps:List FieldType} (hd:parseMethodDescriptor y.desc=some ⟨ps,ret⟩) {rm:Room} {as':List Value} (hl:as'.length=ps.length) {a:Nat} {Q:Option Value->Heap->List Loc->Prop}
  (hM:MetFree l y (head1 [Cond.code y bytes ml ret] rm) (fun A U=>A=(.ref a::as').toArray/\Z.Warmed39 U.vm/\U.heap=h) (fun _ _ _ _ _=>True) (fun _ U o U'=>∃v L,o = .returned v/\Q v U'.heap L/\FrameEnd U o U' L rm.cells rm.slots))
  (eT:T.heap=h) (E:Exa Z h a C) {W:Nat} (hf:rm.frames+1<=R.frames) (hlo:W+(ml+11)+rm.locals<=R.locals) (hce:cells+rm.cells<=R.cells) (hsl:slots+rm.slots<=R.slots)
  {pc:Nat} {L:Array Slot} (hs:L.size=c.maxLocals) {rest st:List Value} (hst:st=as'.reverse ++ .ref a::rest) (hW:(rest.map fun v=>v.category).sum<=W) (hdg:decode c.code pc = .ok (.invokevirtual idx,3)) :
  ∃(v:Option Value) (T':State) (Lc:List Loc),Stand p l e R s m args below meth c T' (locs++Lc) (cells+rm.cells) (slots+rm.slots)/\Q v T'.heap Lc/\Go p e below T (mkF m pc L st) T' (mkF m (pc+3) L (v.toList++rest)):=by
 obtain⟨rfl,w1,w2,w3,w4⟩:=hw;have hB:=backOf (W:=W) hM hZ w3 wz hf hlo (R:=R) (p:=p) (e:=e) (below:=below) (s:=s) (args:=args) (len:=3);have hW':2*(mkF m pc L st).monitorRoom+(rest.map fun v=>v.category).sum<=W:=by
  show 2*0+_<=W;omega
 rcases w4 with w4 | ⟨w4,w5⟩
 ·obtain⟨cl,kc,q1,q2,-,q4,-⟩:=Cond.instantiable_spec (mvT hZ wi (args:=args));have hni:kc.isInterface=false:=by
   have:=q4;simp only[Bool.or_eq_false_iff] at this;exact this.1
  have hpr:s.PrivateAt y:=Cond.privateMethod_at (mvP hZ w4 (args:=args));obtain⟨cell,q5,q6⟩:=E.cell;obtain⟨v,vm₁,⟨T',L',c',s'⟩,-,X',⟨Lc,hQ,l1,l2,l3⟩,st'⟩:=X.privateBack hx (y:=y) hown (mvT hZ w1) (mvT hZ w2) (selects_self_of_private q1 q2 hni hpr (mvT hZ w2) hC) hpr (mvT hZ w3) hC hB (g:=mkF m pc L st) rfl hs (Steps.refl _) (a:=a) (by rw[eT];exact q5) q6 (argsL:=as') (rest:=rest) (lenOf hd hl) hst hW' hdg
   (fun vm _=>⟨rfl,eT,hce,hsl⟩)
  dsimp only [Pt.U,Pt.locs,Pt.cells,Pt.slots] at X' l1 l2 l3 st' hQ;subst l1 l2 l3;exact⟨v,T',Lc,X',hQ,fun t k=>st'.trans k⟩
 ·obtain⟨cq,kq,qa,qb,qc⟩:=isOf hZ eT E;obtain⟨v,vm₁,⟨T',L',c',s'⟩,-,X',⟨Lc,hQ,l1,l2,l3⟩,st'⟩:=X.virtualBack hx (y:=y) (z:=y) hown (mvT hZ w1) (mvT hZ w4) (notFace_of_selects (args := #[]) (mvT hZ w5)) (mvT hZ w5) (mvT hZ w2) hC hB qa qc (g:=mkF m pc L st) rfl hs (Steps.refl _) (argsL:=as') (rest:=rest) (lenOf hd hl) hst hW' hdg
   (fun vm _=>⟨rfl,eT,hce,hsl⟩)
  dsimp only [Pt.U,Pt.locs,Pt.cells,Pt.slots] at X' l1 l2 l3 st' hQ;subst l1 l2 l3;exact⟨v,T',Lc,X',hQ,fun t k=>st'.trans k⟩
end Call
def slotsOf:List Value->List Slot
 |[]=>[]
 |v::r=>if v.category=2 then .val v :: .second::slotsOf r else .val v::slotsOf r
theorem args_slots(vs:List Value)(ml:Nat):argsToLocals vs.toArray ml=((slotsOf vs)++List.replicate (ml-(slotsOf vs).length) Slot.unset).toArray:=by
 have key:∀(vs:List Value) (acc:Array Slot),vs.foldl (fun (acc:Array Slot) v=>if v.category=2 then (acc.push (.val v)).push .second else acc.push (.val v)) acc=acc++(slotsOf vs).toArray:=by
  intro vs
  induction vs with
  |nil=>intro acc;simp[slotsOf]
  |cons v r ih=>
   intro acc;simp only[List.foldl_cons,slotsOf];rw[ih]
   split
   ·apply Array.toList_inj.mp;simp
   ·apply Array.toList_inj.mp;simp
 unfold argsToLocals;have e:Array.foldl (fun (acc:Array Slot) (v:Value)=>if v.category=2 then (acc.push (.val v)).push .second else acc.push (.val v)) #[] vs.toArray=(slotsOf vs).toArray:=by
  rw[List.foldl_toArray,key];simp
 simp only[e];apply Array.toList_inj.mp;simp
theorem slotsOf_len(ρ:Nat->Nat):∀vs:List Value,(∀v∈vs,(∃x,v = .int x)\/(∃x,v = .long x)\/∃x,v = .ref x)->(slotsOf (vs.map (cv ρ))).length=(entL vs).length
 |[],_=>rfl
 |v::r,h=>by
  have ih:=slotsOf_len ρ r (fun w hw=>h w (List.mem_cons_of_mem _ hw));rcases h v (List.mem_cons_self ..) with⟨x,rfl⟩ | ⟨x,rfl⟩ | ⟨x,rfl⟩<;>simp[slotsOf,entL,cv,Value.category,ih]
theorem entL_rel(ρ:Nat->Nat):∀vs:List Value,(∀v∈vs,(∃x,v = .int x)\/(∃x,v = .long x)\/∃x,v = .ref x)->∀(i:Nat) (w:Value),(entL vs)[i]? = some w->w ≠ .null->(slotsOf (vs.map (cv ρ)))[i]? = some (.val (cv ρ w))
 |[],_,i,w,h,_=>by simp[entL] at h
 |v::r,h,i,w,hi,hn=>by
  have ih:=entL_rel ρ r (fun w hw=>h w (List.mem_cons_of_mem _ hw));rcases h v (List.mem_cons_self ..) with⟨x,rfl⟩ | ⟨x,rfl⟩ | ⟨x,rfl⟩
  ·cases i with
   |zero=>simp[entL] at hi;subst hi;simp[slotsOf,cv,Value.category]
   |succ i=>simp[entL] at hi;simpa [slotsOf,cv,Value.category] using ih i w hi hn
  ·cases i with
   |zero=>simp[entL] at hi;subst hi;simp[slotsOf,cv,Value.category]
   |succ i=>
    cases i with
    |zero=>simp[entL] at hi;exact absurd hi.symm hn
    |succ i=>simp[entL] at hi;simpa [slotsOf,cv,Value.category] using ih i w hi hn
  ·cases i with
   |zero=>simp[entL] at hi;subst hi;simp[slotsOf,cv,Value.category]
   |succ i=>simp[entL] at hi;simpa [slotsOf,cv,Value.category] using ih i w hi hn
theorem slotsOf_wf:∀(vs:List Value) (tl:List Slot),(∀x∈tl,x = .unset)->(∀i:Nat,(slotsOf vs++tl)[i]? = some .second->∃(j:Nat) (v:Value),i=j+1/\(slotsOf vs++tl)[j]? = some (.val v)/\v.category=2)/\∀(i:Nat) (v:Value),(slotsOf vs++tl)[i]? = some (.val v)->v.category=2->(slotsOf vs++tl)[i+1]? = some .second
 |[],tl,h=>by
  refine⟨fun i q=>?_,fun i v q _=>?_⟩
  ·have:=h _ (List.mem_of_getElem? (by simpa [slotsOf] using q));cases this
  ·have:=h _ (List.mem_of_getElem? (by simpa [slotsOf] using q));cases this
 |v::r,tl,h=>by
  obtain⟨a,b⟩:=slotsOf_wf r tl h;by_cases hc:v.category=2
  ·refine⟨fun i q=>?_,fun i w q hw=>?_⟩
   ·cases i with
    |zero=>simp[slotsOf,hc] at q
    |succ i=>
     cases i with
     |zero=>exact⟨0,v,rfl,by simp[slotsOf,hc],hc⟩
     |succ i=>
      simp only[slotsOf,hc,if_true,List.cons_append,List.getElem?_cons_succ] at q;obtain⟨j,w,q1,q2,q3⟩:=a i q;exact⟨j+2,w,by omega,by simpa [slotsOf,hc] using q2,q3⟩
   ·cases i with
    |zero=>simp[slotsOf,hc]
    |succ i=>
     cases i with
     |zero=>simp[slotsOf,hc] at q
     |succ i=>
      simp only[slotsOf,hc,if_true,List.cons_append,List.getElem?_cons_succ] at q ⊢;exact b i w q hw
  ·refine⟨fun i q=>?_,fun i w q hw=>?_⟩
   ·cases i with
    |zero=>simp[slotsOf,hc] at q
    |succ i=>
     simp only[slotsOf,hc,if_false,List.cons_append,List.getElem?_cons_succ] at q;obtain⟨j,w,q1,q2,q3⟩:=a i q;exact⟨j+1,w,by omega,by simpa [slotsOf,hc] using q2,q3⟩
   ·cases i with
    |zero=>simp[slotsOf,hc] at q;subst q;exact absurd hw hc
    |succ i=>
     simp only[slotsOf,hc,if_false,List.cons_append,List.getElem?_cons_succ] at q ⊢;exact b i w q hw
def okv:List Value->Bool
 |[]=>true
 | .int _::r=>okv r
 | .long _::r=>okv r
 | .ref _::r=>okv r
 |_::_=>false
theorem okv_spec:∀ {vs:List Value},okv vs=true->∀v∈vs,(∃x,v = .int x)\/(∃x,v = .long x)\/∃x,v = .ref x
 |[],_,v,h=>by cases h
 |w::r,h,v,hv=>by
  cases w<;>simp only[okv] at h<;>try (cases h;done)
  all_goals
   rcases List.mem_cons.mp hv with rfl | q
   ·first | exact Or.inl ⟨_,rfl⟩ | exact Or.inr (Or.inl ⟨_,rfl⟩) | exact Or.inr (Or.inr ⟨_,rfl⟩)
   ·exact okv_spec h v q
theorem entry_rel(ρ:Nat->Nat){vs:List Value}(h:okv vs=true){ml:Nat}(hl:(entL vs).length<=ml) :
  ∃L,(∀m,entryFrame m (vs.map (cv ρ)).toArray ml=mkF m 0 L [])/\LocRel ρ (entL vs) L/\WFL L/\L.size=ml:=by
 have hk:=okv_spec h;have e1:=slotsOf_len ρ vs hk;refine⟨_,fun m=>by unfold entryFrame;rw[args_slots],fun i w q hn=>?_,?_,by simp[e1];omega⟩
 ·have:=entL_rel ρ vs hk i w q hn;simp only[List.getElem?_toArray];rw[List.getElem?_append_left ((List.getElem?_eq_some_iff.mp this).1)];exact this
 ·obtain⟨a,b⟩:=slotsOf_wf (vs.map (cv ρ)) (List.replicate (ml-(slotsOf (vs.map (cv ρ))).length) Slot.unset) (fun x hx=>(List.mem_replicate.mp hx).2);exact⟨fun i q=>by simpa using a i (by simpa using q),fun i v q hc=>by simpa using b i v (by simpa using q) hc⟩
def inb(i:Int32)(n:Nat):Bool := !(decide (i<0)||decide (n<=i.toNatClampNeg))
theorem inb_spec{i:Int32}{n:Nat}(h:inb i n=true):¬(i<0\/n<=i.toNatClampNeg):=by
 simp only[inb,Bool.not_eq_true',Bool.or_eq_false_iff,decide_eq_false_iff_not] at h;exact fun q=>q.elim h.1 h.2
section Ops
variable {σ:Type}
def gf(G:σ->Nat->Nat->Int32)(k:Nat)(S:σ):List Value->Option (List Value×σ)
 | .ref 0::r=>if k%3=2 then some (.ref (k/3+1)::r,S) else some (.int (G S 0 (k/3))::r,S)
 |_=>none
def pf(P:σ->Nat->Nat->Int32->σ)(k:Nat)(S:σ):List Value->Option (List Value×σ)
 | .int v :: .ref 0::r=>if k%3=0 then some (r,P S 0 (k/3) v) else if k%3=1 then some (r,P S 0 (k/3) (v&&&1)) else none
 |_=>none
def isI:FieldType->Bool
 | .int=>true
 |_=>false
def isB:FieldType->Bool
 | .boolean=>true
 | .byte=>true
 |_=>false
def al(arrs:List (FieldType×Nat))(G:σ->Nat->Nat->Int32)(ok:FieldType->Bool)(S:σ):List Value->Option (List Value×σ)
 | .int i :: .ref (j+1)::r=>match arrs[j]? with
  |some q=>if ok q.1=true/\inb i q.2=true then some (.int (G S (j+1) i.toNatClampNeg)::r,S) else none
  |none=>none
 |_=>none
def sa(arrs:List (FieldType×Nat))(P:σ->Nat->Nat->Int32->σ)(ok:FieldType->Bool)(S:σ):List Value->Option (List Value×σ)
 | .int v :: .int i :: .ref (j+1)::r=>match arrs[j]? with
  |some q=>if ok q.1=true/\inb i q.2=true then some (r,P S (j+1) i.toNatClampNeg (nar q.1 v)) else none
  |none=>none
 |_=>none
def la(arrs:List (FieldType×Nat))(S:σ):List Value->Option (List Value×σ)
 | .ref (j+1)::r=>match arrs[j]? with
  |some q=>some (.int (Int32.ofNat q.2)::r,S)
  |none=>none
 |_=>none
def mop1(arrs:List (FieldType×Nat))(G:σ->Nat->Nat->Int32)(P:σ->Nat->Nat->Int32->σ):Mop σ:=fun _ i st S=>match i with
 | .getfield k=>gf G k S st
 | .putfield k=>pf P k S st
 | .iaload=>al arrs G isI S st
 | .baload=>al arrs G isB S st
 | .iastore=>sa arrs P isI S st
 | .bastore=>sa arrs P isB S st
 | .arraylength=>la arrs S st
 |_=>none
def okn:List Value->Bool
 |[]=>true
 | .int _::r=>okn r
 | .long _::r=>okn r
 |_::_=>false
def cop1(na ml wm:Nat->Nat):Cop:=fun m i st=>match i with
 | .invokevirtual k=>(match takeA (na k) [] st with
  |some (as,.ref 0::r)=>if okn as=true/\cats r<=wm m/\(entL (.ref 0::as)).length<=ml k then some (k,.ref 0::as,r) else none
  |_=>none)
 |_=>none
end Ops
theorem takeA_spec:∀ {n:Nat} {acc st as r:List Value},takeA n acc st=some (as,r)->∃q,q.length=n/\as=q++acc/\st=q.reverse++r
 |0,acc,st,as,r,h=>by cases h;exact⟨[],rfl,rfl,rfl⟩
 |n+1,acc,[],as,r,h=>by cases h
 |n+1,acc,v::st,as,r,h=>by
  obtain⟨q,h1,h2,h3⟩:=takeA_spec (n:=n) h;exact⟨q++[v],by simp[h1],by simp[h2],by simp[h3]⟩
theorem okn_spec:∀ {vs:List Value},okn vs=true->okv vs=true/\∀ρ,vs.map (cv ρ)=vs
 |[],_=>⟨rfl,fun _=>rfl⟩
 |w::r,h=>by
  cases w<;>simp only[okn] at h<;>try (cases h;done)
  all_goals
   obtain⟨a,b⟩:=okn_spec h;exact⟨a,fun ρ=>by rw[List.map_cons,b];rfl⟩
def ObjAt(C:String)(fds:List (String×String×Nat))(arrs:List (FieldType×Nat))(Z:State)(h:Heap)(a:Nat)(g:Nat->Nat->Int32):Prop:=
 Exa Z h a C/\(∀n d k,(n,d,k)∈fds->Fld Z h a C n d (if k%3=2 then .ref (a+(k/3+1)) else .int (g 0 (k/3)))) /\
 ∀(j:Nat) (ty:FieldType) (len:Nat),arrs[j]? = some (ty,len)->∃cell,Arr Z h (a+(j+1)) cell ty/\cell.slots.size=len/\∀i,i<len->cell.slots[i]? = some (.int (g (j+1) i))
def ClsOK(C:String)(fds:List (String×String×Nat))(arrs:List (FieldType×Nat))(Tb:Tabs)(Z:State)(a0:Array Value):Prop:=
 (∃kk,(Cond.instantiable C kk).before a0 Z=true) /\
 (∀n d k,(n,d,k)∈fds->Laid Z a0 C C n d/\(k%3≠2->(Cond.lays C C n d).before a0 Z=true)/\(k%3=0->d = "I")/\(k%3=1->d = "Z")/\∃t,parseFieldDescriptor d=some t) /\
 (∀n d k n' d' k',(n,d,k)∈fds->(n',d',k')∈fds->n=n'->d=d'/\k=k') /\
 (∀n d k n' d' k',(n,d,k)∈fds->(n',d',k')∈fds->n≠n'->k%3≠2->k'%3≠2->k/3≠k'/3) /\
 (∀idx n d k,(idx,n,d,k)∈Tb.1->(Cond.fieldLink C idx C n d).before a0 Z=true/\(n,d,k)∈fds) /\
 ∀(j:Nat) (ty:FieldType) (n:Nat),arrs[j]? = some (ty,n)->ty = .int\/ty = .boolean\/ty = .byte
def rng(arrs:List (FieldType×Nat))(a:Nat):List Nat:=(List.range (arrs.length+1)).map fun r=>a+r
theorem mem_rng{arrs:List (FieldType×Nat)}{a r:Nat}(h:r<=arrs.length):a+r∈rng arrs a:=List.mem_map.mpr ⟨r,List.mem_range.mpr (by omega),rfl⟩
section Obj
variable {C:String} {fds:List (String×String×Nat)} {arrs:List (FieldType×Nat)} {Tb:Tabs} {Z:State} {a0:Array Value} {h h':Heap} {a:Nat} {g g':Nat->Nat->Int32}
theorem ne1(a j:Nat):a+(j+1)≠a:=by omega
theorem ne2(a j:Nat):a≠a+(j+1):=by omega
theorem ne3(a:Nat){j j':Nat}(h:j'≠j):a+(j'+1)≠a+(j+1):=by omega
theorem ObjAt.put(K:ClsOK C fds arrs Tb Z a0)(O:ObjAt C fds arrs Z h a g){n d:String}{k:Nat}(hm:(n,d,k)∈fds)(hk:k%3≠2){v:Int32}(W:Wr h h' a (Jvm.RoadKit.slotOf Z C n d) (.int v))
  (hg:∀c i,g' c i=if c=0/\i=k/3 then v else g c i):ObjAt C fds arrs Z h' a g':=by
 obtain⟨O1,O2,O3⟩:=O;obtain⟨-,K2,K3,K4,-,-⟩:=K;refine⟨O1.wr W,fun n' d' k' hm'=>?_,fun j ty len hj=>?_⟩
 ·have F:=O2 n' d' k' hm';by_cases e:n=n'
  ·obtain⟨rfl,rfl⟩:=K3 _ _ _ _ _ _ hm hm' e;subst e;rw[if_neg hk] at F ⊢;rw[hg,if_pos ⟨rfl,rfl⟩];exact F.same W
  ·obtain⟨l1,-,-,-,t1,p1⟩:=K2 _ _ _ hm;obtain⟨l2,-,-,-,t2,p2⟩:=K2 _ _ _ hm';have F':=F.other W (Or.inr (slot_ne l2 l1 (Ne.symm e) p2 p1));by_cases q:k'%3=2
   ·rw[if_pos q] at F' ⊢;exact F'
   ·rw[if_neg q] at F' ⊢;rw[hg,if_neg (fun x=>K4 _ _ _ _ _ _ hm hm' e hk q x.2.symm)];exact F'
 ·obtain⟨cell,A,z,H⟩:=O3 j ty len hj;refine⟨cell,A.other W (ne1 a j),z,fun i hi=>?_⟩;rw[hg,if_neg (fun x=>by omega)];exact H i hi
theorem ObjAt.set(O:ObjAt C fds arrs Z h a g){j:Nat}{ty:FieldType}{len:Nat}(hj:arrs[j]? = some (ty,len)){i:Nat}(hi:i<len){v:Int32}(W:Wr h h' (a+(j+1)) i (.int v))
  (hg:∀c r,g' c r=if c=j+1/\r=i then v else g c r):ObjAt C fds arrs Z h' a g':=by
 obtain⟨O1,O2,O3⟩:=O;refine⟨O1.wr W,fun n' d' k' hm'=>?_,fun j' ty' len' hj'=>?_⟩
 ·have F:=(O2 n' d' k' hm').other W (Or.inl (ne2 a j));by_cases q:k'%3=2
  ·rw[if_pos q] at F ⊢;exact F
  ·rw[if_neg q] at F ⊢;rw[hg,if_neg (fun x=>by omega)];exact F
 ·obtain⟨cell,A,z,H⟩:=O3 j' ty' len' hj';by_cases e:j'=j
  ·subst e;cases hj.symm.trans hj'
   refine⟨cell.setSlot i (.int v),A.same W,by rw[sz_set];exact z,fun r hr=>?_⟩;rw[hg];by_cases q:r=i
   ·subst q;rw[if_pos ⟨rfl,rfl⟩];simp[Cell.setSlot,z,hr]
   ·rw[if_neg (fun x=>q x.2)];have:=H r hr;simp only[Cell.setSlot];rw[Array.getElem?_setIfInBounds_ne (Ne.symm q)];exact this
  ·refine⟨cell,A.other W (ne3 a e),z,fun r hr=>?_⟩;rw[hg,if_neg (fun x=>by omega)];exact H r hr
theorem ObjAt.keep{ws:List Nat}(O:ObjAt C fds arrs Z h a g)(K:Keep h h' ws)(hn:∀r,r<=arrs.length->a+r∉ws):ObjAt C fds arrs Z h' a g:=by
 obtain⟨O1,O2,O3⟩:=O;have ha:a∉ws:=hn 0 (Nat.zero_le _);refine⟨?_,fun n d k hm=>?_,fun j ty len hj=>?_⟩
 ·obtain⟨cell,k,h1,r⟩:=O1;exact⟨cell,k,K.2.1 a cell h1 ha,r⟩
 ·obtain⟨cell,cf,kc,i,f,h1,r⟩:=O2 n d k hm;exact⟨cell,cf,kc,i,f,K.2.1 a cell h1 ha,r⟩
 ·obtain⟨cell,A,r⟩:=O3 j ty len hj;have hlt:=(List.getElem?_eq_some_iff.mp hj).1;exact⟨cell,⟨K.2.1 _ cell A.1 (hn _ (by omega)),A.2⟩,r⟩
end Obj
section L1
variable {σ:Type} (C:String) (fds:List (String×String×Nat)) (arrs:List (FieldType×Nat)) (Tb:Tabs) (Z:State) (a0:Array Value) (G:σ->Nat->Nat->Int32) (P:σ->Nat->Nat->Int32->σ) (mi:MI) (rt:Nat->Option FieldType) (l:Launch)
abbrev I1:=Nat×Heap×Nat×Nat×Nat
def rho1(x:I1)(r:Nat):Nat:=x.1+r
def J1(x:I1)(R:Room)(_:State)(_:Nat)(S:σ)(T:State)(locs:List Loc)(cells slots:Nat):Prop:=
 cells=x.2.2.2.1/\slots=x.2.2.2.2/\cells<=R.cells/\slots<=R.slots/\ObjAt C fds arrs Z T.heap x.1 (G S)/\Keep x.2.1 T.heap (rng arrs x.1)/\Fr x.2.2.1 locs/\x.2.2.1<=x.1
variable {C fds arrs Tb Z a0 G P mi rt l}
theorem canon_get{ml pc k:Nat}{i0:Instr}(h:canon Tb ml pc i0=some (.getfield k)):∃idx n d,i0 = .getfield idx/\(idx,n,d,k)∈Tb.1:=by
 cases i0<;>try (simp[canon,lt,plain1,heapy] at h;done)
 case getfield idx=>
  obtain⟨⟨n,d,k'⟩,h1,h2⟩:=Option.map_eq_some_iff.mp h;cases h2
  exact⟨idx,n,d,rfl,lk_mem h1⟩
theorem canon_put{ml pc k:Nat}{i0:Instr}(h:canon Tb ml pc i0=some (.putfield k)):∃idx n d,i0 = .putfield idx/\(idx,n,d,k)∈Tb.1:=by
 cases i0<;>try (simp[canon,lt,plain1,heapy] at h;done)
 case putfield idx=>
  obtain⟨⟨n,d,k'⟩,h1,h2⟩:=Option.map_eq_some_iff.mp h;cases h2
  exact⟨idx,n,d,rfl,lk_mem h1⟩
theorem canon_heapy {ml pc:Nat} {i0 i:Instr} (hi:heapy i=true) (h:canon Tb ml pc i0=some i):i0=i:=by
  cases i0
  all_goals first
    | (simp[canon,plain1,heapy] at h;done)
    | (simp[canon,plain1,heapy] at h;exact h)
    | (exfalso
       simp only[canon] at h
       first
         | (cases h;simp[heapy] at hi;done)
         | (obtain⟨w,h1,h2⟩:=Option.map_eq_some_iff.mp h;cases h2;simp[heapy] at hi;done)
         | (obtain⟨h1,h2⟩:=lt_inv h;subst h2;simp[heapy] at hi;done)
         | (split at h
            · cases h;simp[heapy] at hi
            · cases h)
         | (simp[plain1] at h;subst h;simp[heapy] at hi;done))
theorem canon_inv{ml pc k:Nat}{i0:Instr}(h:canon Tb ml pc i0=some (.invokevirtual k)):∃idx,i0 = .invokevirtual idx/\(idx,k)∈Tb.2.1:=by
 cases i0<;>try (simp[canon,lt,plain1,heapy] at h;done)
 case invokevirtual idx=>
  obtain⟨k',h1,h2⟩:=Option.map_eq_some_iff.mp h;cases h2
  exact⟨idx,rfl,lk_mem h1⟩
set_option maxHeartbeats 1000000 in
theorem mop1_ok{code:Codes}(K:ClsOK C fds arrs Tb Z a0)(hGP:∀S c i v c' i',G (P S c i v) c' i'=if c'=c/\i'=i then v else G S c' i'):MopOK code rt (mop1 arrs G P) Tb mi C Z l rho1 (J1 C fds arrs Z G):=by
 intro x p e R s m args below meth c mm pc len i0 i st st' S S' T locs cells slots L X F hJ hs hd ho hc hcd hm;obtain⟨hx,hZ,hown,-,-,-,-,-,-⟩:=F;obtain⟨hc0,hs0,hcR,hsR,O,Kp,N,hn⟩:=hJ;have hlt:∀ {j:Nat} {q:FieldType×Nat},arrs[j]? = some q->j+1<=arrs.length:=fun q=>by have:=(List.getElem?_eq_some_iff.mp q).1;omega
 unfold mop1 at hm
 split at hm
 ·-- getfield
  rename_i k
  obtain⟨idx,n,d,rfl,hmem⟩:=canon_get hc;obtain rfl:len=3:=by simpa [lenOK,ilen] using ho
  obtain⟨wl,hf⟩:=K.2.2.2.2.1 _ _ _ _ hmem;have Fd:=O.2.1 n d k hf;unfold gf at hm
  split at hm
  ·rename_i r
   obtain⟨T',X',e',st1⟩:=getF X hx hZ hown (host := "") (Or.inl wl) Via.refl rfl Fd (g:=mkF m pc L (.ref x.1::r.map (cv (rho1 x)))) rfl rfl hd
   refine⟨T',locs,cells,slots,X',⟨hc0,hs0,hcR,hsR,?_⟩,?_⟩
   ·rw[e']
    split at hm<;>(cases hm;exact⟨O,Kp,N,hn⟩)
   ·split at hm
    ·rename_i q
     cases hm
     rw[if_pos q] at st1;exact fun t kt=>st1 t kt
    ·rename_i q
     cases hm
     rw[if_neg q] at st1;exact fun t kt=>st1 t kt
  ·cases hm
 ·-- putfield
  rename_i k
  obtain⟨idx,n,d,rfl,hmem⟩:=canon_put hc;obtain rfl:len=3:=by simpa [lenOK,ilen] using ho
  obtain⟨wl,hf⟩:=K.2.2.2.2.1 _ _ _ _ hmem;have Fd:=O.2.1 n d k hf;obtain⟨-,k2,k3,k4,-⟩:=K.2.1 n d k hf;obtain⟨kk,wi⟩:=K.1;unfold pf at hm
  split at hm
  ·rename_i v r
   split at hm
   ·rename_i q
    have q2:k%3≠2:=by omega
    cases hm
    have hd':=k3 q;subst hd';obtain⟨T',h',X',e',W,st1⟩:=putFN X hx hZ hown wl Via.refl rfl Fd O.1 (Or.inl (k2 q2)) wi (ty:= .int) (by decide) (v:= .int v) (v':= .int v) rfl rfl (g:=mkF m pc L (.int v :: .ref x.1::st'.map (cv (rho1 x)))) rfl rfl hd;subst e';exact⟨T',_,cells,slots,X',⟨hc0,hs0,hcR,hsR,O.put K hf q2 W (fun c i=>hGP S 0 (k/3) v c i),Kp.wr W (Or.inl (mem_rng (r:=0) (Nat.zero_le _))),N.app fun y hy=>by cases List.mem_singleton.mp hy;exact hn,hn⟩,fun t kt=>st1 t kt⟩
   ·split at hm
    ·rename_i q
     have q2:k%3≠2:=by omega
     cases hm
     have hd':=k4 q;subst hd';obtain⟨T',h',X',e',W,st1⟩:=putFN X hx hZ hown wl Via.refl rfl Fd O.1 (Or.inl (k2 q2)) wi (ty:= .boolean) (by decide) (v:= .int v) (v':= .int (v&&&1)) rfl (fits_nar_bool v) (g:=mkF m pc L (.int v :: .ref x.1::st'.map (cv (rho1 x)))) rfl rfl hd;subst e';exact⟨T',_,cells,slots,X',⟨hc0,hs0,hcR,hsR,O.put K hf q2 W (fun c i=>hGP S 0 (k/3) (v&&&1) c i),Kp.wr W (Or.inl (mem_rng (r:=0) (Nat.zero_le _))),N.app fun y hy=>by cases List.mem_singleton.mp hy;exact hn,hn⟩,fun t kt=>st1 t kt⟩
    ·cases hm
  ·cases hm
 ·-- iaload
  obtain rfl:=canon_heapy rfl hc;obtain rfl:len=1:=by simpa [lenOK,ilen] using ho
  unfold al at hm
  split at hm
  ·rename_i j a r
   split at hm
   ·rename_i q hq
    split at hm
    ·rename_i hb
     cases hm
     obtain⟨ty,n⟩:=q;obtain⟨cell,A,z,H⟩:=O.2.2 _ _ _ hq;obtain rfl:ty = .int:=by cases ty<;>simp[isI] at hb ⊢
     have hin:=inb_spec hb.2;rw[<-z] at hin;have hv:=H j.toNatClampNeg (by rw[<-z];exact Nat.lt_of_not_le fun q=>hin (Or.inr q));exact⟨T,locs,cells,slots,X,⟨hc0,hs0,hcR,hsR,O,Kp,N,hn⟩,fun t kt=>X.iaload hx A.1 (State.isArrayOf_alike hZ.alike A.2.1) A.2.2 hin hv (g:=mkF m pc L (.int j :: .ref (x.1+(a+1))::r.map (cv (rho1 x)))) rfl rfl hd t kt⟩
    ·cases hm
   ·cases hm
  ·cases hm
 ·-- baload
  obtain rfl:=canon_heapy rfl hc;obtain rfl:len=1:=by simpa [lenOK,ilen] using ho
  unfold al at hm
  split at hm
  ·rename_i j a r
   split at hm
   ·rename_i q hq
    split at hm
    ·rename_i hb
     cases hm
     obtain⟨ty,n⟩:=q;obtain⟨cell,A,z,H⟩:=O.2.2 _ _ _ hq;have hin:=inb_spec hb.2;rw[<-z] at hin;have hv:=H j.toNatClampNeg (by rw[<-z];exact Nat.lt_of_not_le fun q=>hin (Or.inr q));refine⟨T,locs,cells,slots,X,⟨hc0,hs0,hcR,hsR,O,Kp,N,hn⟩,fun t kt=>?_⟩;have hty:ty = .boolean\/ty = .byte:=by cases ty<;>simp[isB] at hb ⊢
     rcases hty with rfl | rfl
     ·exact X.baloadBooleans hx A.1 (State.isArrayOf_alike hZ.alike A.2.1) A.2.2 hin hv (g:=mkF m pc L (.int j :: .ref (x.1+(a+1))::r.map (cv (rho1 x)))) rfl rfl hd t kt
     ·exact X.baloadBytes hx A.1 (State.isArrayOf_alike hZ.alike A.2.1) A.2.2 hin hv (g:=mkF m pc L (.int j :: .ref (x.1+(a+1))::r.map (cv (rho1 x)))) rfl rfl hd t kt
    ·cases hm
   ·cases hm
  ·cases hm
 ·-- iastore
  obtain rfl:=canon_heapy rfl hc;obtain rfl:len=1:=by simpa [lenOK,ilen] using ho
  unfold sa at hm
  split at hm
  ·rename_i v j a r
   split at hm
   ·rename_i q hq
    split at hm
    ·rename_i hb
     cases hm
     obtain⟨ty,n⟩:=q;obtain⟨cell,A,z,H⟩:=O.2.2 _ _ _ hq;obtain rfl:ty = .int:=by cases ty<;>simp[isI] at hb ⊢
     have hin:=inb_spec hb.2;have hlt':j.toNatClampNeg<n:=Nat.lt_of_not_le fun q=>hin (Or.inr q);rw[<-z] at hin;obtain⟨T',h',X',e',W,st1⟩:=stI X hx hZ rfl A (j:=j) hin (g:=mkF m pc L (.int v :: .int j :: .ref (x.1+(a+1))::st'.map (cv (rho1 x)))) rfl rfl hd;subst e';exact⟨T',_,cells,slots,X',⟨hc0,hs0,hcR,hsR,O.set hq hlt' W (fun c i=>hGP S (a+1) _ v c i),Kp.wr W (Or.inl (mem_rng (hlt hq))),N.app fun y hy=>by cases List.mem_singleton.mp hy;exact Nat.le_trans hn (Nat.le_add_right _ _),hn⟩,fun t kt=>st1 t kt⟩
    ·cases hm
   ·cases hm
  ·cases hm
 ·-- bastore
  obtain rfl:=canon_heapy rfl hc;obtain rfl:len=1:=by simpa [lenOK,ilen] using ho
  unfold sa at hm
  split at hm
  ·rename_i v j a r
   split at hm
   ·rename_i q hq
    split at hm
    ·rename_i hb
     cases hm
     obtain⟨ty,n⟩:=q;obtain⟨cell,A,z,H⟩:=O.2.2 _ _ _ hq;have hin:=inb_spec hb.2;have hlt':j.toNatClampNeg<n:=Nat.lt_of_not_le fun q=>hin (Or.inr q);rw[<-z] at hin;have hty:ty = .boolean\/ty = .byte:=by cases ty<;>simp[isB] at hb ⊢
     rcases hty with rfl | rfl
     ·obtain⟨T',h',X',e',W,st1⟩:=stZ X hx hZ rfl A (j:=j) hin (g:=mkF m pc L (.int v :: .int j :: .ref (x.1+(a+1))::st'.map (cv (rho1 x)))) rfl rfl hd;subst e';exact⟨T',_,cells,slots,X',⟨hc0,hs0,hcR,hsR,O.set hq hlt' W (fun c i=>hGP S (a+1) _ _ c i),Kp.wr W (Or.inl (mem_rng (hlt hq))),N.app fun y hy=>by cases List.mem_singleton.mp hy;exact Nat.le_trans hn (Nat.le_add_right _ _),hn⟩,fun t kt=>st1 t kt⟩
     ·obtain⟨T',h',X',e',W,st1⟩:=stB X hx hZ rfl A (j:=j) hin (g:=mkF m pc L (.int v :: .int j :: .ref (x.1+(a+1))::st'.map (cv (rho1 x)))) rfl rfl hd;subst e';exact⟨T',_,cells,slots,X',⟨hc0,hs0,hcR,hsR,O.set hq hlt' W (fun c i=>hGP S (a+1) _ _ c i),Kp.wr W (Or.inl (mem_rng (hlt hq))),N.app fun y hy=>by cases List.mem_singleton.mp hy;exact Nat.le_trans hn (Nat.le_add_right _ _),hn⟩,fun t kt=>st1 t kt⟩
    ·cases hm
   ·cases hm
  ·cases hm
 ·-- arraylength
  obtain rfl:=canon_heapy rfl hc;obtain rfl:len=1:=by simpa [lenOK,ilen] using ho
  unfold la at hm
  split at hm
  ·rename_i a r
   split at hm
   ·rename_i q hq
    cases hm
    obtain⟨ty,n⟩:=q;obtain⟨cell,A,z,H⟩:=O.2.2 _ _ _ hq;subst z;exact⟨T,locs,cells,slots,X,⟨hc0,hs0,hcR,hsR,O,Kp,N,hn⟩,fun t kt=>X.arraylength hx A.1 (State.isArrayOf_alike hZ.alike A.2.1) (g:=mkF m pc L (.ref (x.1+(a+1))::r.map (cv (rho1 x)))) rfl rfl hd t kt⟩
   ·cases hm
  ·cases hm
 ·cases hm
def MthOK(C:String)(Tb:Tabs)(Z:State)(a0:Array Value)(mi:MI)(rt:Nat->Option FieldType)(own:String)(k:Nat)(na:Nat->Nat):Prop:=
 (∀idx,(idx,k)∈Tb.2.1->VirtW Z a0 C own idx (mi k).1 (mi k).2.1 (mi k).2.2.1 (rt k))/\∃ps,parseMethodDescriptor (mi k).1.desc=some ⟨ps,rt k⟩/\ps.length=na k
theorem met1{code:Codes}{mop:Mop σ}{cop:Cop}{n:Nat}(hW:Walks code rt mop cop mi C Z l rho1 (J1 C fds arrs Z G) n)(hpn:plainName C=true){k:Nat}(hcls:(mi k).1.cls=C){as:List Value}(hok:okn as=true)(hlen:(entL (.ref 0::as)).length<=(mi k).2.2.1)
  {S:σ} {r:Res σ} (hit:iter (plan code rt mop cop) n (k,0,entL (.ref 0::as),[],S)=some r) {a:Nat} {h:Heap} {n0:Nat} (O:ObjAt C fds arrs Z h a (G S)) (hn:n0<=a) (ws:List Jvm.Cond) :
  MetFree l (mi k).1 (head1 (Cond.code (mi k).1 (mi k).2.1 (mi k).2.2.1 (rt k)::ws) ({ frames:=(mi k).2.2.2.1,cells:=0,slots:=0,locals:=(mi k).2.2.2.2 }:Room))
   (fun A U=>A=(.ref a::as).toArray/\Z.Warmed39 U.vm/\U.heap=h) (fun _ _ _ _ _=>True)
   (fun _ U o U'=>∃v L,o = .returned v/\(v=r.1/\(∀ρ',r.1.map (cv ρ')=r.1)/\Fr n0 L/\Keep h U'.heap (rng arrs a)/\ObjAt C fds arrs Z U'.heap a (G r.2))/\FrameEnd U o U' L 0 0):=by
 refine MetFree.of_bodySF (plainFor_of_name (by rw[hcls];exact hpn)) hisR ?_;intro p e s m args below meth c s₁ Bd hml0 hP hK;obtain⟨rfl,hZ,hh⟩:=hP;have hown:s.vm.findClass C=some m.cls:=by rw[<-hcls];exact findClass_of_methodNamed Bd.named
 have hnm:=(name_of_methodNamed Bd.named Bd.method).1;have X0:=Stand.of_body Bd;have e0:s₁.heap=h:=by rw[<-hh,Bd.state];rfl
 obtain⟨L,q1,q2,q3,q4⟩:=entry_rel (rho1 (a,h,n0,0,0)) (vs:= .ref 0::as) (by simpa [okv] using (okn_spec hok).1) hlen;obtain⟨T',L',k',n',X',⟨j1,j2,-,-,j5,j6,j7,-⟩,⟨ok1,ok2⟩,st⟩:=hW (a,h,n0,0,0) p e _ s m _ below meth c k 0 _ [] S r hit s₁ [] 0 0 L X0 ⟨Bd.exec,hZ,hown,Bd.bytes,hml0,Bd.returns,hnm,Nat.le_refl _,Nat.le_refl _⟩
  ⟨rfl,rfl,Nat.le_refl _,Nat.le_refl _,by rw[e0];exact O,by rw[e0];exact Keep.refl _ _,Fr.nil _,hn⟩ q2 q3 (by rw[q4,hml0])
 obtain⟨fs,hr,hrun,hended,hWm,hsame⟩:=X'.leave (v:=r.1) ok1;refine⟨_,_,?_,hrun,hended,_,_,rfl,⟨rfl,ok2,j7,j6,j5⟩,⟨_,rfl⟩,hWm,by subst j1 j2;exact hsame⟩;have:=st fs hr;rw[show entryFrame m (.ref a::as).toArray (mi k).2.2.1=mkF m 0 L [] from by rw[<-q1 m,List.map_cons,(okn_spec hok).2];rfl];exact this
def RoomOK(code:Codes)(mi:MI)(wm:Nat->Nat):Prop:=∀mm pc k pn kp,code mm pc=some (.invokevirtual k,pn,kp)->(mi k).2.2.2.1+1<=(mi mm).2.2.2.1/\wm mm+((mi k).2.2.1+11)+(mi k).2.2.2.2<=(mi mm).2.2.2.2
theorem cop1_ok{code:Codes}{na wm:Nat->Nat}{mop:Mop σ}(K:ClsOK C fds arrs Tb Z a0)(hpn:plainName C=true)(wz:(Cond.initialized C).before a0 Z=true)(hC:C ≠ "java/lang/invoke/MethodHandle" /\ C ≠ "java/lang/invoke/VarHandle")
  (hm:∀k idx,(idx,k)∈Tb.2.1->MthOK C Tb Z a0 mi rt C k na) (hR:RoomOK code mi wm) :
  CopOK code rt mop (cop1 na (fun k=>(mi k).2.2.1) wm) Tb mi C Z l rho1 (J1 C fds arrs Z G):=by
 intro n hW x p e R s m args below meth c mm pc len i0 i st q S r T locs cells slots L X F hJ hs hd ho hc hne hq hit;obtain⟨hx,hZ,hown,f4,f5,f6,f7,f8,f9⟩:=F;obtain⟨hc0,hs0,hcR,hsR,O,Kp,N,hn⟩:=hJ;unfold cop1 at hq
 split at hq
 ·rename_i k
  split at hq
  ·rename_i as r0 ht
   split at hq
   ·rename_i hb
    cases hq
    obtain⟨hok,hcat,hlen⟩:=hb;obtain⟨idx,rfl,hmem⟩:=canon_inv hc;obtain rfl:len=3:=by simpa [lenOK,ilen] using ho
    obtain⟨hv,ps,hps,hna⟩:=hm k idx hmem;have hv:=hv idx hmem;obtain⟨kk,wi⟩:=K.1;obtain⟨qs,q1,q2,q3⟩:=takeA_spec ht;have q2':as=qs:=by simpa using q2
    subst q2';obtain⟨kp,hcd⟩:=hne;have hroom:=hR mm pc k _ kp hcd;have hM:=met1 (ws:=[]) hW hpn (hv.1) hok hlen hit O hn;have hcR':cells+0<=R.cells:=hcR;have hsR':slots+0<=R.slots:=hsR;obtain⟨v,T',Lc,X',⟨e1,e0,e2,e3,e4⟩,G'⟩:=callV X hx hZ hown hv wi wz hC hps (as':=as) (by omega) (Q:=fun v h' L=>v=r.1/\(∀ρ',r.1.map (cv ρ')=r.1)/\Fr x.2.2.1 L/\Keep T.heap h' (rng arrs x.1)/\ObjAt C fds arrs Z h' x.1 (G r.2)) hM rfl O.1 (W:=wm mm) (rm:={ frames:=(mi k).2.2.2.1,cells:=0,slots:=0,locals:=(mi k).2.2.2.2 }) (Nat.le_trans hroom.1 f8) (Nat.le_trans hroom.2 f9) hcR' hsR' hs (rest:=r0.map (cv (rho1 x))) (st:=st.map (cv (rho1 x)))
     (by rw[q3,List.map_append,List.map_reverse,(okn_spec hok).2];rfl) (by
      have:(r0.map (cv (rho1 x))).map (fun v=>v.category)=r0.map fun v=>v.category:=by
       rw[List.map_map];apply List.map_congr_left;intro v _;cases v<;>rfl
      rw[this];exact hcat) hd
    subst e1;refine⟨T',_,_,_,X',⟨hc0,hs0,hcR,hsR,e4,Kp.trans e3 (fun y hy=>Or.inl hy),N.app e2,hn⟩,?_⟩;have:(r.1.toList++r0).map (cv (rho1 x))=r.1.toList++r0.map (cv (rho1 x)):=by
     rw[List.map_append]
     congr 1
     have:=e0 (rho1 x);cases hr:r.1 with
     |none=>rfl
     |some w=>rw[hr] at this;simpa using this
    rw[this];exact G'
   ·cases hq
  ·cases hq
 ·cases hq
end L1
abbrev Item:=Option ArrayType×Nat×String×String
def Part(C:String)(gds:List (String×String))(fds:List (String×String×Nat))(arrs:List (FieldType×Nat))(Z:State)(h:Heap)(a:Nat)(g:Nat->Int32)(k:Nat):Prop:=
 Exa Z h a C/\(∀n d,(n,d)∈gds->∃v,Fld Z h a C n d v) /\
 (∀n d q,(n,d,q)∈fds->if q%3=2 then (if q/3<k then Fld Z h a C n d (.ref (a+(q/3+1))) else ∃v,Fld Z h a C n d v) else Fld Z h a C n d (.int (g (q/3)))) /\
 (∀(j:Nat) (ty:FieldType) (len:Nat),j<k->arrs[j]? = some (ty,len)->∃cell,Arr Z h (a+(j+1)) cell ty/\cell.slots.size=len/\∀i,i<len->cell.slots[i]? = some (.int 0))/\h.size=a+1+k
def proChk(bytes:ByteArray)(Tb:Tabs)(ml:Nat)(gds:List (String×String))(fds:List (String×String×Nat))(arrs:List (FieldType×Nat))(pe:Nat):List Item->Nat->Nat->List (Nat×Int)->Bool
 |[],pc,k,iv=>decide (pc=pe)&&decide (k=arrs.length)&&decide (iv=[])
 |(t,idx,n,d)::r,pc,k,iv=>(match decode bytes pc with
  | .ok (.aload_n 0,1)=>(match decode bytes (pc+1) with
   | .ok (ip,lp)=>lenOK ip lp&&(match canon Tb ml (pc+1) ip with
    |some (.iconst v)=>(match t with
     |some t=>(match decode bytes (pc+1+lp),decode bytes (pc+1+lp+2) with
      | .ok (.newarray t',2),.ok (.putfield idx',3)=>decide (t'=t)&&decide (idx'=idx)&&decide (0<=v)&&decide (v<65536)&&decide (arrs[k]? = some (newarray.typeOf t,v.toNat))&&decide ((n,d,3*k+2)∈fds)&&proChk bytes Tb ml gds fds arrs pe r (pc+1+lp+5) (k+1) iv
      |_,_=>false)
     |none=>(match decode bytes (pc+1+lp) with
      | .ok (.putfield idx',3)=>decide (idx'=idx)&&(if (n,d)∈gds then proChk bytes Tb ml gds fds arrs pe r (pc+1+lp+3) k iv else (match iv with
       |q::iv=>decide ((n,d,3*q.1)∈fds)&&decide (q.2=v)&&proChk bytes Tb ml gds fds arrs pe r (pc+1+lp+3) k iv
       |[]=>false))
      |_=>false))
    |_=>false)
   |_=>false)
  |_=>false)
def finG(g:Nat->Int32)(iv:List (Nat×Int)):Nat->Int32:=iv.foldl (fun g q=>fun i=>if i=q.1 then Int32.ofInt q.2 else g i) g
def slotSum(arrs:List (FieldType×Nat))(k:Nat):Nat:=((arrs.take k).map (·.2)).sum
theorem slotSum_succ{arrs:List (FieldType×Nat)}{k:Nat}{q:FieldType×Nat}(h:arrs[k]? = some q):slotSum arrs (k+1)=slotSum arrs k+q.2:=by
 unfold slotSum;rw[List.take_add_one,h];simp
theorem slotSum_le{arrs:List (FieldType×Nat)}:∀ {k n:Nat},k<=n->slotSum arrs k<=slotSum arrs n:=by
 intro k n h
 induction h with
 |refl=>exact Nat.le_refl _
 | @step m _ ih=>
  cases hq:arrs[m]? with
  |none=>
   have:arrs.length<=m:=by simpa using hq
   unfold slotSum at ih ⊢;rw[List.take_of_length_le (Nat.le_succ_of_le this)];rw[List.take_of_length_le this] at ih;exact ih
  |some q=>rw[slotSum_succ hq];omega
section Maker
variable {C:String} {gds:List (String×String)} {fds:List (String×String×Nat)} {arrs:List (FieldType×Nat)} {Tb:Tabs} {Z:State} {a0:Array Value} {h h':Heap} {a:Nat}
def MakOK(C:String)(gds:List (String×String))(fds:List (String×String×Nat))(arrs:List (FieldType×Nat))(items:List Item)(Z:State)(a0:Array Value):Prop:=
 (∀t idx n d,(t,idx,n,d)∈items->(Cond.fieldLink C idx C n d).before a0 Z=true/\Laid Z a0 C C n d/\(t=none->d = "I")/\(t≠none->∃u,parseFieldDescriptor d=some (.array u))/\∀t',t=some t'->(Cond.arrayClass (newarray.typeOf t')).before a0 Z=true) /\
 (∀n d,(n,d)∈gds->Laid Z a0 C C n d/\d = "I" /\ ∀n' d' k',(n',d',k')∈fds->n≠n') /\
 (∀n d n' d' q,(n,d,q)∈fds->(n',d',q)∈fds->n=n') /\
 (∀n d n' d',(n,d)∈gds->(n',d')∈gds->n=n'->d=d')/\∀(j:Nat) (ty:FieldType) (n:Nat),arrs[j]? = some (ty,n)->defaultValue ty = .int 0
theorem i32_lit{v:Int}(h0:0<=v)(h1:v<65536):¬Int32.ofInt v<0/\(Int32.ofInt v).toNatClampNeg=v.toNat:=by
 have e:(Int32.ofInt v).toInt=v:=Int32.toInt_ofInt_of_le (by omega) (by omega);constructor
 ·rw[Int32.lt_iff_toInt_lt,e];have:(0:Int32).toInt=0:=rfl;omega
 ·simp only[Int32.toNatClampNeg,e]
section Pro
variable {p:Program} {l:Launch} {e:Env} {R:Room} {s:State} {m:MethodId} {args:Array Value} {below:List Frame} {meth:Method} {c:Code} {ρ:Nat->Nat} {items:List Item} {pe n0:Nat} {h0:Heap} {ls:List Value} {L:Array Slot}
theorem simPush{T:State}{locs:List Loc}{cells slots:Nat}(X:Stand p l e R s m args below meth c T locs cells slots)(hx:p.tables.exec=Jvm.exec)(hZ:Z.Warmed39 s.vm){own:String}(hown:s.vm.findClass own=some m.cls)(hC:Cst Tb Z a0 own){pc lp ml:Nat}{ip:Instr}{v:Int}(hd:decode c.code pc = .ok (ip,lp))(ho:lenOK ip lp=true)(hc:canon Tb ml pc ip=some (.iconst v)){st:List Value} :
  Go p e below T (mkF m pc L st) T (mkF m (pc+lp) L (.int (Int32.ofInt v)::st)):=by
 intro t kt;cases ip<;>try (simp[canon,lt,plain1,heapy] at hc;done)
 case iconst j=>
  cases hc;obtain rfl:lp=1:=by simpa [lenOK,ilen] using ho
  exact XS.iconst X.here hx rfl hd kt
 case bipush j=>
  cases hc;obtain rfl:lp=2:=by simpa [lenOK,ilen] using ho
  rw[Int32.ofInt_toInt] at kt;exact XS.bipush X.here hx rfl hd kt
 case sipush j=>
  cases hc;obtain rfl:lp=3:=by simpa [lenOK,ilen] using ho
  rw[Int32.ofInt_toInt] at kt;exact XS.sipush X.here hx rfl hd kt
 case ldc j=>
  obtain⟨w,hw,hc⟩:=Option.map_eq_some_iff.mp hc;cases hc;obtain rfl:lp=2:=by simpa [lenOK,ilen] using ho
  rw[Int32.ofInt_toInt] at kt;exact X.ldcInt hx hown (cst1 hZ hC hw) (g:=mkF m pc L st) rfl hd _ kt
set_option maxHeartbeats 1000000 in
theorem pro_walk (K : ClsOK C fds arrs Tb Z a0) (M : MakOK C gds fds arrs items Z a0) (hx : p.tables.exec = Jvm.exec) (hZ : Z.Warmed39 s.vm) (hown : s.vm.findClass C = some m.cls) (hCs : Cst Tb Z a0 C) (hnm : meth.name = "<init>") (hn : n0 <= a) (RL : LocRel ρ (.ref 0 :: ls) L) (W : WFL L) (hρ : ρ 0 = a) (hsz : s.heap.size = a + 1)
    (hRc:arrs.length<=R.cells) (hRs:slotSum arrs arrs.length<=R.slots) :
    ∀ (its : List Item) (pc k : Nat) (iv : List (Nat × Int)) (g : Nat -> Int32) (T : State) (locs : List Loc), (∀ it ∈ its, it ∈ items) -> proChk c.code Tb L.size gds fds arrs pe its pc k iv = true -> Stand p l e R s m args below meth c T locs k (slotSum arrs k) -> Part C gds fds arrs Z T.heap a g k -> Keep h0 T.heap (rng arrs a) -> Fr n0 locs ->
      ∃T' locs',Stand p l e R s m args below meth c T' locs' arrs.length (slotSum arrs arrs.length)/\Part C gds fds arrs Z T'.heap a (finG g iv) arrs.length/\Keep h0 T'.heap (rng arrs a)/\Fr n0 locs'/\Go p e below T (mkF m pc L []) T' (mkF m pe L []):=by
  intro its
  induction its with
  | nil=>
    intro pc k iv g T locs _ hp X Pt Kp N
    simp only[proChk,Bool.and_eq_true,decide_eq_true_eq] at hp
    obtain⟨⟨rfl,rfl⟩,rfl⟩:=hp
    exact⟨T,locs,X,Pt,Kp,N,fun t kt=>kt⟩
  | cons it r ih=>
    intro pc k iv g T locs hin hp X Pt Kp N
    obtain⟨t,idx,n,d⟩:=it
    obtain⟨wl,ld,hd1,hd2,hd3⟩:=M.1 t idx n d (hin _ (List.mem_cons_self ..))
    have hin':∀it∈r,it∈items:=fun it h=>hin it (List.mem_cons_of_mem _ h)
    obtain⟨kk,wi⟩:=K.1
    obtain⟨P1,P2,P3,P4,P5⟩:=Pt
    simp only[proChk] at hp
    split at hp
    · rename_i hdA
      split at hp
      · rename_i ip lp hdP
        simp only[Bool.and_eq_true] at hp
        obtain⟨hlo,hp⟩:=hp
        split at hp
        · rename_i v hcan
          have sA:∀(T:State) (locs:List Loc) (cells slots:Nat),Stand p l e R s m args below meth c T locs cells slots->Go p e below T (mkF m pc L []) T (mkF m (pc+1+lp) L [.int (Int32.ofInt v),.ref a]):=by
            intro T locs cells slots X t kt
            refine XS.aloadN X.here hx rfl hdA (RL 0 (.ref 0) rfl (by simp)) rfl ?_
            show Steps p.tables e below (T.setTop (mkF m (pc+1) L [.ref (ρ 0)])) t
            rw[hρ]
            exact simPush X hx hZ hown hCs hdP hlo hcan t kt
          split at hp
          · -- an array
            rename_i t
            split at hp
            · rename_i t' idx' hdN hdF
              simp only[Bool.and_eq_true,decide_eq_true_eq] at hp
              obtain⟨⟨⟨⟨⟨⟨rfl,rfl⟩,h1⟩,h2⟩,h3⟩,h4⟩,hp⟩:=hp
              obtain⟨hneg,hnat⟩:=i32_lit h1 h2
              have hk:k<arrs.length:=(List.getElem?_eq_some_iff.mp h3).1
              have hS:=slotSum_succ h3
              have hle:=slotSum_le (arrs:=arrs) (show k+1<=arrs.length from hk)
              simp only[] at hS
              obtain⟨T1,hh1,cA,X1,e1,E1,A1,st1⟩:=newP X hx hZ (hd3 t' rfl) rfl (g:=mkF m (pc+1+lp) L [.int (Int32.ofInt v),.ref a]) rfl hdN rfl hneg (cap:=v.toNat) (by omega) (by omega) (by omega) (by omega)
              subst e1
              have hsz1:T1.heap.size=a+1+(k+1):=by
                have u:=X1.heapSize
                have lo:T.heap.size<T1.heap.size:=A1.lt
                omega
              have eA:T.heap.size=a+(k+1):=by omega
              have F1:∃v,Fld Z T.heap a C n d v:=by
                have:=P3 n d _ h4
                rw[if_pos (by omega),if_neg (by omega)] at this
                exact this
              obtain⟨v0,F1⟩:=F1
              obtain⟨u,hu⟩:=hd2 (by simp)
              have LL:(Cond.lays C C n d).before a0 Z=true\/((Cond.laysFinal C C n d).before a0 Z=true/\C=C/\meth.name = "<init>"):=ld.imp id (fun q=>⟨q,rfl,hnm⟩)
              obtain⟨T2,hh2,X2,e2,W2,st2⟩:=putF X1 hx hZ hown (host := "") (Or.inl wl) Via.refl rfl (F1.ext E1) (P1.ext E1) LL wi (ty:= .array u) hu (v:= .ref T.heap.size) rfl rfl (g:=mkF m (pc+1+lp+2) L [.ref T.heap.size,.ref a]) rfl rfl hdF
              subst e2
              rw[<-hS] at X2
              have Pt2:Part C gds fds arrs Z T2.heap a g (k+1):=by
                refine⟨(P1.ext E1).wr W2,fun n' d' hg=>?_,fun n' d' q hq=>?_,fun j ty len hj hq=>?_,by rw[W2.size];exact hsz1⟩
                · obtain ⟨v', Fg⟩ := P2 n' d' hg
                  obtain⟨lg,rfl,hne⟩:=M.2.1 n' d' hg
                  exact⟨v',(Fg.ext E1).other W2 (Or.inr (slot_ne lg ld (hne _ _ _ h4) (t:= .int) (by decide) hu))⟩
                · have Fq := P3 n' d' q hq
                  by_cases e':n'=n
                  · obtain ⟨rfl, rfl⟩ := K.2.2.1 _ _ _ _ _ _ hq h4 e'
                    subst e'
                    rw[if_pos (by omega),if_pos (by omega)]
                    have hsame:=(F1.ext E1).same W2
                    have e3:(3*k+2)/3+1=k+1:=by omega
                    rw[e3,<-eA]
                    exact hsame
                  · obtain ⟨l2, -, -, -, t2, p2⟩ := K.2.1 _ _ _ hq
                    have ns:=slot_ne l2 ld e' p2 hu
                    by_cases q3:q%3=2
                    · rw [if_pos q3] at Fq ⊢
                      by_cases q4:q/3<k
                      · rw [if_pos q4] at Fq
                        rw[if_pos (by omega)]
                        exact (Fq.ext E1).other W2 (Or.inr ns)
                      · rw [if_neg q4] at Fq
                        have:¬q/3<k+1:=fun q5=>by
                          have:q=3*k+2:=by omega
                          subst this
                          exact e' (M.2.2.1 _ _ _ _ _ hq h4)
                        rw[if_neg this]
                        obtain⟨v',Fq⟩:=Fq
                        exact⟨v',(Fq.ext E1).other W2 (Or.inr ns)⟩
                    · rw [if_neg q3] at Fq ⊢
                      exact (Fq.ext E1).other W2 (Or.inr ns)
                · by_cases q4 : j < k
                  · obtain ⟨cell, A, z, H⟩ := P4 j ty len q4 hq
                    exact⟨cell,(A.ext E1).other W2 (ne1 a j),z,H⟩
                  · have : j = k := by omega
                    subst this
                    cases h3.symm.trans hq
                    rw[eA] at A1
                    refine⟨_,A1.other W2 (ne1 a j),by rw[sz_new,hnat],fun i hi=>?_⟩
                    have:=M.2.2.2.2 j _ _ hq
                    simp only[newA,this,hnat]
                    rw[Array.getElem?_replicate,if_pos hi]
              obtain⟨T',locs',X',Pt',Kp',N',G'⟩:=ih (pc+1+lp+5) (k+1) iv g T2 _ hin' hp X2 Pt2 ((Kp.ext E1).wr W2 (Or.inl (mem_rng (r:=0) (Nat.zero_le _)))) (N.app fun y hy=>by cases List.mem_singleton.mp hy;exact hn)
              exact⟨T',locs',X',Pt',Kp',N',fun t kt=>sA T locs _ _ X t (st1 t (st2 t (G' t kt)))⟩
            · cases hp
          · -- a constant field
            split at hp
            · rename_i idx' hdF
              simp only[Bool.and_eq_true,decide_eq_true_eq] at hp
              obtain⟨rfl,hp⟩:=hp
              split at hp
              · -- one that is not read
                rename_i hg
                obtain⟨v0,F1⟩:=P2 n d hg
                obtain⟨lg,rfl,hne⟩:=M.2.1 n d hg
                have LL:(Cond.lays C C n "I").before a0 Z=true\/((Cond.laysFinal C C n "I").before a0 Z=true/\C=C/\meth.name = "<init>"):=ld.imp id (fun q=>⟨q,rfl,hnm⟩)
                obtain⟨T2,hh2,X2,e2,W2,st2⟩:=putF X hx hZ hown (host := "") (Or.inl wl) Via.refl rfl F1 P1 LL wi (ty:= .int) (by decide) (v:= .int (Int32.ofInt v)) rfl rfl (g:=mkF m (pc+1+lp) L [.int (Int32.ofInt v),.ref a]) rfl rfl hdF
                subst e2
                have Pt2:Part C gds fds arrs Z T2.heap a g k:=by
                  refine⟨P1.wr W2,fun n' d' hg'=>?_,fun n' d' q hq=>?_,fun j ty len hj hq=>?_,by rw[W2.size];exact P5⟩
                  · obtain ⟨v', Fg⟩ := P2 n' d' hg'
                    by_cases e':n'=n
                    · obtain rfl := M.2.2.2.1 _ _ _ _ hg' hg e'
                      subst e'
                      exact⟨_,Fg.same W2⟩
                    · obtain ⟨lg', rfl, -⟩ := M.2.1 n' d' hg'
                      exact⟨v',Fg.other W2 (Or.inr (slot_ne lg' lg e' (t:= .int) (t':= .int) (by decide) (by decide)))⟩
                  · have Fq := P3 n' d' q hq
                    obtain⟨l2,-,-,-,t2,p2⟩:=K.2.1 _ _ _ hq
                    have ns:=slot_ne l2 lg (Ne.symm (hne _ _ _ hq)) p2 (t':= .int) (by decide)
                    by_cases q3:q%3=2
                    · rw [if_pos q3] at Fq ⊢
                      by_cases q4:q/3<k
                      · rw [if_pos q4] at Fq ⊢
                        exact Fq.other W2 (Or.inr ns)
                      · rw [if_neg q4] at Fq ⊢
                        obtain⟨v',Fq⟩:=Fq
                        exact⟨v',Fq.other W2 (Or.inr ns)⟩
                    · rw [if_neg q3] at Fq ⊢
                      exact Fq.other W2 (Or.inr ns)
                  · obtain ⟨cell, A, z, H⟩ := P4 j ty len hj hq
                    exact⟨cell,A.other W2 (ne1 a j),z,H⟩
                obtain⟨T',locs',X',Pt',Kp',N',G'⟩:=ih (pc+1+lp+3) k iv g T2 _ hin' hp X2 Pt2 (Kp.wr W2 (Or.inl (mem_rng (r:=0) (Nat.zero_le _)))) (N.app fun y hy=>by cases List.mem_singleton.mp hy;exact hn)
                exact⟨T',locs',X',Pt',Kp',N',fun t kt=>sA T locs _ _ X t (st2 t (G' t kt))⟩
              · -- one that is read
                split at hp
                · rename_i q0 iv
                  obtain⟨sl0,v1⟩:=q0
                  simp only[Bool.and_eq_true,decide_eq_true_eq] at hp
                  obtain⟨⟨hm,rfl⟩,hp⟩:=hp
                  have F1:=P3 n d _ hm
                  rw[if_neg (by omega)] at F1
                  obtain⟨-,kl,kI,-⟩:=K.2.1 n d _ hm
                  obtain rfl:=kI (by omega)
                  have e3:3*sl0/3=sl0:=by omega
                  rw[e3] at F1
                  obtain⟨T2,hh2,X2,e2,W2,st2⟩:=putF X hx hZ hown (host := "") (Or.inl wl) Via.refl rfl F1 P1 (Or.inl (kl (by omega))) wi (ty:= .int) (by decide) (v:= .int (Int32.ofInt v1)) rfl rfl (g:=mkF m (pc+1+lp) L [.int (Int32.ofInt v1),.ref a]) rfl rfl hdF
                  subst e2
                  have Pt2:Part C gds fds arrs Z T2.heap a (fun i=>if i=sl0 then Int32.ofInt v1 else g i) k:=by
                    refine⟨P1.wr W2,fun n' d' hg'=>?_,fun n' d' q hq=>?_,fun j ty len hj hq=>?_,by rw[W2.size];exact P5⟩
                    · obtain ⟨v', Fg⟩ := P2 n' d' hg'
                      obtain⟨lg',rfl,hne⟩:=M.2.1 n' d' hg'
                      exact⟨v',Fg.other W2 (Or.inr (slot_ne lg' ld (hne _ _ _ hm) (t:= .int) (t':= .int) (by decide) (by decide)))⟩
                    · have Fq := P3 n' d' q hq
                      by_cases e':n'=n
                      · obtain ⟨rfl, rfl⟩ := K.2.2.1 _ _ _ _ _ _ hq hm e'
                        subst e'
                        rw[if_neg (by omega)] at Fq ⊢
                        rw[e3]
                        dsimp only
                        rw[if_pos rfl]
                        exact Fq.same W2
                      · obtain ⟨l2, -, -, -, t2, p2⟩ := K.2.1 _ _ _ hq
                        have ns:=slot_ne l2 ld e' p2 (t':= .int) (by decide)
                        by_cases q3:q%3=2
                        · rw [if_pos q3] at Fq ⊢
                          split at Fq
                          · rename_i q4;rw[if_pos q4];exact Fq.other W2 (Or.inr ns)
                          · rename_i q4; rw [if_neg q4]
                            obtain⟨v',Fq⟩:=Fq
                            exact⟨v',Fq.other W2 (Or.inr ns)⟩
                        · rw [if_neg q3] at Fq ⊢
                          have:q/3≠sl0:=fun q5=>K.2.2.2.1 _ _ _ _ _ _ hq hm e' q3 (by omega) (by omega)
                          dsimp only
                          rw[if_neg this]
                          exact Fq.other W2 (Or.inr ns)
                    · obtain ⟨cell, A, z, H⟩ := P4 j ty len hj hq
                      exact⟨cell,A.other W2 (ne1 a j),z,H⟩
                  obtain⟨T',locs',X',Pt',Kp',N',G'⟩:=ih (pc+1+lp+3) k iv _ T2 _ hin' hp X2 Pt2 (Kp.wr W2 (Or.inl (mem_rng (r:=0) (Nat.zero_le _)))) (N.app fun y hy=>by cases List.mem_singleton.mp hy;exact hn)
                  exact⟨T',locs',X',Pt',Kp',N',fun t kt=>sA T locs _ _ X t (st2 t (G' t kt))⟩
                · cases hp
            · cases hp
        · cases hp
      · cases hp
    · cases hp
end Pro
theorem Part.done(K:ClsOK C fds arrs Tb Z a0)(hcov:∀n d q,(n,d,q)∈fds->q%3=2->q/3<arrs.length){g:Nat->Nat->Int32}{g0:Nat->Int32}(hg0:∀i,g 0 i=g0 i)(hg:∀c i,g (c+1) i=0)(Pt:Part C gds fds arrs Z h a g0 arrs.length):ObjAt C fds arrs Z h a g:=by
 obtain⟨P1,P2,P3,P4,P5⟩:=Pt;refine⟨P1,fun n d q hq=>?_,fun j ty len hj=>?_⟩
 ·have F:=P3 n d q hq;by_cases q3:q%3=2
  ·rw[if_pos q3,if_pos (hcov n d q hq q3)] at F;rw[if_pos q3];exact F
  ·rw[if_neg q3] at F ⊢;rw[hg0];exact F
 ·obtain⟨cell,A,z,H⟩:=P4 j ty len (List.getElem?_eq_some_iff.mp hj).1 hj;exact⟨cell,A,z,fun i hi=>by rw[hg];exact H i hi⟩
section Met0
variable {σ:Type} {G:σ->Nat->Nat->Int32} {mi:MI} {rt:Nat->Option FieldType} {l:Launch} {items:List Item} {pe oi:Nat} {iv:List (Nat×Int)}
theorem met0{code:Codes}{mop:Mop σ}{cop:Cop}{n:Nat}(hW:Walks code rt mop cop mi C Z l rho1 (J1 C fds arrs Z G) n)(hpn:plainName C=true)(hcls:(mi 0).1.cls=C)(hnm0:(mi 0).1.name = "<init>")(hrt:rt 0=none)(K:ClsOK C fds arrs Tb Z a0)(M:MakOK C gds fds arrs items Z a0)(hCs:Cst Tb Z a0 C)
  (hcov:∀n d q,(n,d,q)∈fds->q%3=2->q/3<arrs.length) (hp:proChk (mi 0).2.1 Tb (mi 0).2.2.1 gds fds arrs pe items 4 0 iv=true) (d0:decode (mi 0).2.1 0 = .ok (.aload_n 0,1)) (d1:decode (mi 0).2.1 1 = .ok (.invokespecial oi,3))
  (w1:(Cond.methodLink C oi Lib.objectInit).before a0 Z=true) (w2:(Cond.instanceMethod Lib.objectInit).before a0 Z=true) (w3:(Cond.code Lib.objectInit ⟨#[0xb1]⟩ 1 none).before a0 Z=true) (hf:1<=(mi 0).2.2.2.1) (hlw:12<=(mi 0).2.2.2.2)
  {as:List Value} (hok:okn as=true) (hlen:(entL (.ref 0::as)).length<=(mi 0).2.2.1) {S:σ} (hS0:∀i,G S 0 i=finG (fun _=>0) iv i) (hS:∀c i,G S (c+1) i=0) {r:Res σ} (hit:iter (plan code rt mop cop) n (0,pe,entL (.ref 0::as),[],S)=some r) {a:Nat} {h:Heap} {n0:Nat} (Pt:Part C gds fds arrs Z h a (fun _=>0) 0) (hn:n0<=a) (ws:List Jvm.Cond) :
  MetFree l (mi 0).1 (head1 (Cond.code (mi 0).1 (mi 0).2.1 (mi 0).2.2.1 none::ws) ({ frames:=(mi 0).2.2.2.1,cells:=arrs.length,slots:=slotSum arrs arrs.length,locals:=(mi 0).2.2.2.2 }:Room))
   (fun A U=>A=(.ref a::as).toArray/\Z.Warmed39 U.vm/\U.heap=h) (fun _ _ _ _ _=>True)
   (fun _ U o U'=>∃v L,o = .returned v/\(v=none/\Fr n0 L/\Keep h U'.heap (rng arrs a)/\ObjAt C fds arrs Z U'.heap a (G r.2))/\FrameEnd U o U' L arrs.length (slotSum arrs arrs.length)):=by
 refine MetFree.of_bodySF (plainFor_of_name (by rw[hcls];exact hpn)) hisR ?_;intro p e s m args below meth c s₁ Bd hml0 hP hK;obtain⟨rfl,hZ,hh⟩:=hP;have hx:=Bd.exec;have hby:=Bd.bytes;have hown:s.vm.findClass C=some m.cls:=by rw[<-hcls];exact findClass_of_methodNamed Bd.named
 have hnm:=(name_of_methodNamed Bd.named Bd.method).1;have X0:=Stand.of_body Bd;have e0:s₁.heap=h:=by rw[<-hh,Bd.state];rfl
 have x:I1:=(a,h,n0,arrs.length,slotSum arrs arrs.length);obtain⟨L,q1,q2,q3,q4⟩:=entry_rel (rho1 (a,h,n0,arrs.length,slotSum arrs arrs.length)) (vs:= .ref 0::as) (by simpa [okv] using (okn_spec hok).1) hlen;have hsz:L.size=c.maxLocals:=by rw[q4,hml0]
 have q2':LocRel (rho1 (a,h,n0,arrs.length,slotSum arrs arrs.length)) (.ref 0::entL as) L:=q2;obtain⟨T1,X1,e1,st1⟩:=initO X0 hx hZ hown w1 w2 w3 e0 (g:=mkF m 1 L [.ref a]) rfl hsz rfl (hb hby d1) hf (W:=0) (by show 2*0+_<=_;exact Nat.le_of_eq rfl) (by show 0+12<=(mi 0).2.2.2.2;omega);obtain⟨T2,locs2,X2,P2,K2,N2,G2⟩:=pro_walk (ρ:=rho1 (a,h,n0,arrs.length,slotSum arrs arrs.length)) (pe:=pe) (h0:=h) (items:=items) K M hx hZ hown hCs (hnm.trans hnm0) hn q2' q3 rfl (by rw[hh];exact Pt.2.2.2.2) (Nat.le_refl _) (Nat.le_refl _) items 4 0 iv (fun _=>0) T1 [] (fun _ h=>h) (by rw[hby,q4];exact hp) X1 (by rw[e1];exact Pt) (by rw[e1];exact Keep.refl _ _) (Fr.nil _)
 obtain⟨T',L',k',n',X',⟨j1,j2,-,-,j5,j6,j7,-⟩,⟨ok1,ok2⟩,st⟩:=hW (a,h,n0,arrs.length,slotSum arrs arrs.length) p e _ s m _ below meth c 0 pe _ [] S r hit T2 locs2 _ _ L X2 ⟨hx,hZ,hown,hby,hml0,by rw[hrt];exact Bd.returns,hnm,Nat.le_refl _,Nat.le_refl _⟩
  ⟨rfl,rfl,Nat.le_refl _,Nat.le_refl _,P2.done K hcov hS0 hS,K2,N2,hn⟩ q2 q3 hsz
 have hr0:r.1=none:=ok1 Bd.returns;obtain⟨fs,hr,hrun,hended,hWm,hsame⟩:=X'.leave (v:=none) (fun _=>rfl);rw[hr0] at st;refine⟨_,_,?_,hrun,hended,_,_,rfl,⟨rfl,j7,j6,j5⟩,⟨_,rfl⟩,hWm,by subst j1 j2;exact hsame⟩;rw[show entryFrame m (.ref a::as).toArray (mi 0).2.2.1=mkF m 0 L [] from by rw[<-q1 m,List.map_cons,(okn_spec hok).2];rfl];refine XS.aloadN X0.here hx rfl (hb hby d0) (q2' 0 (.ref 0) rfl (by simp)) rfl ?_;exact st1 _ (G2 _ (st fs hr))
end Met0
end Maker
section Ops2
variable {σ:Type}
abbrev W2(σ:Type):=Bool×List σ
def nw(nmax m:Nat)(st:List Value):W2 σ->Option (List Value×W2 σ)
 |(false,ob)=>if m=0/\ob.length<nmax then some (.ref (ob.length+1)::st,(true,ob)) else none
 |_=>none
def ct(f1:Cfg σ->Option (Res σ))(Z0:σ)(pe na0 ml0 w m:Nat)(st:List Value):W2 σ->Option (List Value×W2 σ)
 |(true,ob)=>(match takeA na0 [] st with
  |some (as,.ref r::rest)=>if (m=0/\r=ob.length+1)/\okn as=true/\cats rest<=w/\(entL (.ref 0::as)).length<=ml0 then (f1 (0,pe,entL (.ref 0::as),[],Z0)).map fun q=>(rest,(false,ob++[q.2])) else none
  |_=>none)
 |_=>none
def vt(f1:Cfg σ->Option (Res σ))(na ml:Nat->Nat)(w k:Nat)(st:List Value):W2 σ->Option (List Value×W2 σ)
 |(false,ob)=>(match takeA (na k) [] st with
  |some (as,.ref (o+1)::rest)=>(match ob[o]? with
   |some S=>if okn as=true/\cats rest<=w/\(entL (.ref 0::as)).length<=ml k then (f1 (k,0,entL (.ref 0::as),[],S)).map fun q=>(q.1.toList++rest,(false,ob.set o q.2)) else none
   |none=>none)
  |_=>none)
 |_=>none
def sl(sc:List Int32)(w:W2 σ):List Value->Option (List Value×W2 σ)
 | .int i :: .ref 0::r=>if inb i sc.length=true then some (.int (sc.getD i.toNatClampNeg 0)::r,w) else none
 |_=>none
def sn(sc:List Int32)(w:W2 σ):List Value->Option (List Value×W2 σ)
 | .ref 0::r=>some (.int (Int32.ofNat sc.length)::r,w)
 |_=>none
def mop2(f1:Cfg σ->Option (Res σ))(Z0:σ)(pe nmax:Nat)(na ml wm:Nat->Nat)(sc:Option (List Int32)):Mop (W2 σ):=fun m i st w=>match i with
 | .new _=>nw nmax m st w
 | .invokespecial _=>ct f1 Z0 pe (na 0) (ml 0) (wm m) m st w
 | .invokevirtual k=>vt f1 na ml (wm m) k st w
 | .iaload=>(match sc with
  |some xs=>sl xs w st
  |none=>none)
 | .arraylength=>(match sc with
  |some xs=>sn xs w st
  |none=>none)
 |_=>none
def cop2(na ml wm:Nat->Nat):Cop:=fun m i st=>match i with
 | .invokestatic k=>(match takeA (na k) [] st with
  |some (as,r)=>if k≠0/\okv as=true/\cats r<=wm m/\(entL as).length<=ml k then some (k,as,r) else none
  |none=>none)
 |_=>none
def cnt(K1:Nat)(w:W2 σ):Nat:=w.2.length*K1+(if w.1=true then 1 else 0)
def scn(fs s1:Nat)(w:W2 σ):Nat:=w.2.length*(fs+s1)+(if w.1=true then fs else 0)
end Ops2
section L2
variable {σ:Type} (C:String) (gds:List (String×String)) (fds:List (String×String×Nat)) (arrs:List (FieldType×Nat)) (Z:State) (G:σ->Nat->Nat->Int32) (fs nmax:Nat) (sc:Option (List Int32))
abbrev I2:=Nat×Nat×Nat×Nat
def rho2(K1:Nat)(x:I2):Nat->Nat
 |0=>x.1
 |o+1=>x.2.1+o*K1
def Heap2(sa n0:Nat)(w:W2 σ)(h:Heap):Prop:=
 (∀(o:Nat) (S:σ),w.2[o]? = some S->ObjAt C fds arrs Z h (n0+o*(arrs.length+1)) (G S))/\(w.1=true->Part C gds fds arrs Z h (n0+w.2.length*(arrs.length+1)) (fun _=>0) 0/\w.2.length<nmax)/\h.size=n0+cnt (arrs.length+1) w /\
 ∀xs,sc=some xs->sa<n0/\xs.length<2147483648/\∃cell,Arr Z h sa cell .int/\cell.slots.size=xs.length/\∀i,i<xs.length->cell.slots[i]? = some (.int (xs.getD i 0))
def J2(x:I2)(R:Room)(s:State)(mm:Nat)(w:W2 σ)(T:State)(locs:List Loc)(cells slots:Nat):Prop:=
 (cells+x.2.2.1=cnt (arrs.length+1) w/\slots+x.2.2.2=scn fs (slotSum arrs arrs.length) w)/\(cells<=R.cells/\slots<=R.slots) /\
 (mm=0->x.2.2.1=0/\x.2.2.2=0/\nmax*(arrs.length+1)<=R.cells/\nmax*(fs+slotSum arrs arrs.length)<=R.slots)/\(mm≠0->cells=0/\slots=0)/\s.heap.size=x.2.1+x.2.2.1/\Heap2 C gds fds arrs Z G nmax sc x.1 x.2.1 w T.heap/\Fr x.2.1 locs
variable {C gds fds arrs Z G fs nmax sc}
theorem ObjAt.ext{h h':Heap}{a:Nat}{g:Nat->Nat->Int32}(O:ObjAt C fds arrs Z h a g)(E:Ext h h'):ObjAt C fds arrs Z h' a g:=
 ⟨O.1.ext E,fun n d k hm=>(O.2.1 n d k hm).ext E,fun j ty len hj=>by obtain⟨cell,A,r⟩:=O.2.2 j ty len hj;exact⟨cell,A.ext E,r⟩⟩
theorem rng_far{K:List (FieldType×Nat)}{n0 o o' r:Nat}(h:o≠o')(hr:r<=K.length):n0+o*(K.length+1)+r∉rng K (n0+o'*(K.length+1)):=by
 intro q;obtain⟨r',h1,h2⟩:=List.mem_map.mp q;have h1:=List.mem_range.mp h1;rcases Nat.lt_or_gt_of_ne h with c | c
 ·have:=Nat.mul_le_mul_right (K.length+1) (show o+1<=o' from c);rw[Nat.add_mul] at this;omega
 ·have:=Nat.mul_le_mul_right (K.length+1) (show o'+1<=o from c);rw[Nat.add_mul] at this;omega
theorem rng_low{K:List (FieldType×Nat)}{n0 o sa:Nat}(h:sa<n0):sa∉rng K (n0+o*(K.length+1)):=by
 intro q;obtain⟨r',h1,h2⟩:=List.mem_map.mp q;omega
variable {Tb1 Tb2:Tabs} {a0:Array Value} {mi1 mi2:MI} {rt1 rt2:Nat->Option FieldType} {l:Launch} {own:String} {na1 na2 wm1 wm2:Nat->Nat} {code1:Codes} {P:σ->Nat->Nat->Int32->σ} {items:List Item} {pe oi:Nat} {Z0:σ} {iv:List (Nat×Int)}
def CtW(Z:State)(a0:Array Value)(Tb2:Tabs)(own:String)(y:MethodName)(bytes:ByteArray)(ml:Nat):Prop:=
 (∀idx q,(idx,q)∈Tb2.2.2.2.2.2.2->(Cond.methodLink own idx y).before a0 Z=true)/\(Cond.instanceMethod y).before a0 Z=true/\(Cond.code y bytes ml none).before a0 Z=true
theorem canon_new{Tb:Tabs}{ml pc k:Nat}{i0:Instr}(h:canon Tb ml pc i0=some (.new k)):∃idx,i0 = .new idx/\(idx,k)∈Tb.2.2.2.2.2.1:=by
 cases i0<;>try (simp[canon,lt,plain1,heapy] at h;done)
 case new idx=>
  obtain⟨k',h1,h2⟩:=Option.map_eq_some_iff.mp h;cases h2
  exact⟨idx,rfl,lk_mem h1⟩
theorem canon_spec{Tb:Tabs}{ml pc k:Nat}{i0:Instr}(h:canon Tb ml pc i0=some (.invokespecial k)):∃idx,i0 = .invokespecial idx/\(idx,k)∈Tb.2.2.2.2.2.2:=by
 cases i0<;>try (simp[canon,lt,plain1,heapy] at h;done)
 case invokespecial idx=>
  obtain⟨k',h1,h2⟩:=Option.map_eq_some_iff.mp h;cases h2
  exact⟨idx,rfl,lk_mem h1⟩
theorem canon_stat{Tb:Tabs}{ml pc k:Nat}{i0:Instr}(h:canon Tb ml pc i0=some (.invokestatic k)):∃idx,i0 = .invokestatic idx/\(idx,k)∈Tb.2.2.1:=by
 cases i0<;>try (simp[canon,lt,plain1,heapy] at h;done)
 case invokestatic idx=>
  obtain⟨k',h1,h2⟩:=Option.map_eq_some_iff.mp h;cases h2
  exact⟨idx,rfl,lk_mem h1⟩
def Base(C:String)(gds:List (String×String))(fds:List (String×String×Nat))(arrs:List (FieldType×Nat))(items:List Item)(Z:State)(a0:Array Value)(fs:Nat)(Tb1:Tabs)(mi1:MI)(rt1:Nat->Option FieldType)(na1:Nat->Nat)(pe oi:Nat)(iv:List (Nat×Int)):Prop:=
 (ClsOK C fds arrs Tb1 Z a0/\MakOK C gds fds arrs items Z a0/\Cst Tb1 Z a0 C/\(Cond.instantiable C fs).before a0 Z=true/\(Cond.initialized C).before a0 Z=true) /\
 (plainName C=true/\(C ≠ "java/lang/invoke/MethodHandle" /\ C ≠ "java/lang/invoke/VarHandle")/\(mi1 0).1.cls=C/\(mi1 0).1.name = "<init>" /\ rt1 0=none) /\
 (∀n d q,(n,d,q)∈fds->q%3=2->q/3<arrs.length) /\
 (proChk (mi1 0).2.1 Tb1 (mi1 0).2.2.1 gds fds arrs pe items 4 0 iv=true/\decode (mi1 0).2.1 0 = .ok (.aload_n 0,1)/\decode (mi1 0).2.1 1 = .ok (.invokespecial oi,3)) /\
 ((Cond.methodLink C oi Lib.objectInit).before a0 Z=true/\(Cond.instanceMethod Lib.objectInit).before a0 Z=true/\(Cond.code Lib.objectInit ⟨#[0xb1]⟩ 1 none).before a0 Z=true) /\
 (1<=(mi1 0).2.2.2.1/\12<=(mi1 0).2.2.2.2)/\∃ps,parseMethodDescriptor (mi1 0).1.desc=some ⟨ps,none⟩/\ps.length=na1 0
def Room2(mi1 mi2:MI)(wm2:Nat->Nat)(mm k:Nat):Prop:=(mi1 k).2.2.2.1+1<=(mi2 mm).2.2.2.1/\wm2 mm+((mi1 k).2.2.1+11)+(mi1 k).2.2.2.2<=(mi2 mm).2.2.2.2
set_option maxHeartbeats 1000000 in
theorem mop2_ok{code2:Codes}{f1:Cfg σ->Option (Res σ)}(B:Base C gds fds arrs items Z a0 fs Tb1 mi1 rt1 na1 pe oi iv){mop:Mop σ}{cop:Cop}(hW:∀n,Walks code1 rt1 mop cop mi1 C Z l rho1 (J1 C fds arrs Z G) n)(hf1:∀c r,f1 c=some r->∃n,iter (plan code1 rt1 mop cop) n c=some r)(hZ00:∀i,G Z0 0 i=finG (fun _=>0) iv i)(hZ0:∀c i,G Z0 (c+1) i=0)
  (hnew:∀idx q,(idx,q)∈Tb2.2.2.2.2.2.1->(Cond.classLink own idx C).before a0 Z=true) (hct:CtW Z a0 Tb2 own (mi1 0).1 (mi1 0).2.1 (mi1 0).2.2.1) (hvt:∀k idx,(idx,k)∈Tb2.2.1->MthOK C Tb2 Z a0 mi1 rt1 own k na1)
  (hR:∀mm pc k pn kp,code2 mm pc=some (.invokevirtual k,pn,kp)->Room2 mi1 mi2 wm2 mm k) (hR0:∀mm pc k pn kp,code2 mm pc=some (.invokespecial k,pn,kp)->Room2 mi1 mi2 wm2 mm 0) :
  MopOK code2 rt2 (mop2 f1 Z0 pe nmax na1 (fun k=>(mi1 k).2.2.1) wm2 sc) Tb2 mi2 own Z l (rho2 (arrs.length+1)) (J2 C gds fds arrs Z G fs nmax sc):=by
 intro x p e R s m args below meth c mm pc len i0 i st st' w w' T locs cells slots L X F hJ hs hd ho hc hcd hm;obtain⟨hx,hZ,hown,f4,f5,f6,f7,f8,f9⟩:=F;obtain⟨⟨j1,j2⟩,⟨j3,j4⟩,j5,j6,j7,⟨H1,H2,H3,H4⟩,N⟩:=hJ;obtain⟨⟨K,M,hCs,wi,wz⟩,⟨hpn,hC,hcls,hnm0,hrt0⟩,hcov,⟨hp,d0,d1⟩,⟨w1,w2,w3⟩,⟨hfr,hlw⟩,ps0,hps0,hna0⟩:=B;have hcat:∀(ρ:Nat->Nat) (r0:List Value),((r0.map (cv ρ)).map fun v=>v.category).sum=cats r0:=by
  intro ρ r0;have:(r0.map (cv ρ)).map (fun v=>v.category)=r0.map fun v=>v.category:=by
   rw[List.map_map];apply List.map_congr_left;intro v _;cases v<;>rfl
  rw[this];rfl
 unfold mop2 at hm
 split at hm
 ·-- new
  rename_i k
  obtain⟨idx,rfl,hmem⟩:=canon_new hc;obtain rfl:len=3:=by simpa [lenOK,ilen] using ho
  unfold nw at hm
  split at hm
  ·rename_i ob
   split at hm
   ·rename_i hb
    obtain⟨rfl,hlt⟩:=hb;cases hm
    obtain⟨c0,s0,hRc,hRs⟩:=j5 rfl;have m1:(ob.length+1)*(arrs.length+1)<=nmax*(arrs.length+1):=Nat.mul_le_mul_right _ hlt;have m2:(ob.length+1)*(fs+slotSum arrs arrs.length)<=nmax*(fs+slotSum arrs arrs.length):=Nat.mul_le_mul_right _ hlt;rw[Nat.add_mul] at m1 m2;simp only[cnt,scn,Bool.false_eq_true,if_false] at j1 j2 H3;obtain⟨T1,h1,X1,e1,E1,A1,D1,-,st1⟩:=newO X hx hZ hown (hnew _ _ hmem) wi wz rfl (g:=mkF m pc L (st.map (cv (rho2 (arrs.length+1) x)))) rfl hd (by omega) (by omega);subst e1;have hsz1:T1.heap.size=x.2.1+ob.length*(arrs.length+1)+1:=by
     have u:=X1.heapSize;have lo:T.heap.size<T1.heap.size:=A1.lt;omega
    have eA:T.heap.size=x.2.1+ob.length*(arrs.length+1):=by omega
    refine⟨T1,locs,_,_,X1,⟨⟨?_,?_⟩,⟨by omega,by omega⟩,j5,fun q=>absurd rfl q,j7,⟨fun o S hS=>(H1 o S hS).ext E1,fun _=>?_,?_,fun xs hxs=>?_⟩,N⟩,fun t kt=>st1 t (by
     show Steps p.tables e below (T1.setTop (mkF m (pc+3) L (.ref T.heap.size::st.map (cv (rho2 (arrs.length+1) x))))) t;rw[eA];exact kt)⟩
    ·simp only[cnt,if_true];omega
    ·simp only[scn,if_true];omega
    ·refine⟨?_,hlt⟩;rw[eA] at A1 D1;refine⟨A1,fun n d hg=>?_,fun n d q hq=>?_,fun j ty ln hj=>absurd hj (Nat.not_lt_zero _),hsz1⟩
     ·obtain⟨lg,rfl,-⟩:=M.2.1 n d hg;exact⟨_,D1 lg (ty:= .int) (by decide)⟩
     ·obtain⟨l1,-,k3,k4,t1,p1⟩:=K.2.1 n d q hq;by_cases q3:q%3=2
      ·rw[if_pos q3,if_neg (Nat.not_lt_zero _)];exact⟨_,D1 l1 p1⟩
      ·rw[if_neg q3];have h01:q%3=0\/q%3=1:=by omega
       rcases h01 with h0 | h1
       ·obtain rfl:=k3 h0;exact D1 l1 (ty:= .int) (by decide)
       ·obtain rfl:=k4 h1;exact D1 l1 (ty:= .boolean) (by decide)
    ·simp only[cnt,if_true];omega
    ·obtain⟨a1,a2,cell,A,r⟩:=H4 xs hxs;exact⟨a1,a2,cell,A.ext E1,r⟩
   ·cases hm
  ·cases hm
 ·-- the maker
  rename_i k
  obtain⟨idx,rfl,hmem⟩:=canon_spec hc;obtain rfl:len=3:=by simpa [lenOK,ilen] using ho
  unfold ct at hm
  split at hm
  ·rename_i ob
   split at hm
   ·rename_i as r rest ht
    split at hm
    ·rename_i hb
     obtain⟨⟨rfl,rfl⟩,hok,hct',hlen⟩:=hb;obtain⟨q,hq,hm⟩:=Option.map_eq_some_iff.mp hm;cases hm
     obtain⟨c0,s0,hRc,hRs⟩:=j5 rfl;obtain⟨n,hit⟩:=hf1 _ _ hq;obtain⟨qs,q1,q2,q3⟩:=takeA_spec ht;have q2':as=qs:=by simpa using q2
     subst q2';obtain⟨Pq,hlt⟩:=H2 rfl;simp only[] at Pq hlt;have m1:(ob.length+1)*(arrs.length+1)<=nmax*(arrs.length+1):=Nat.mul_le_mul_right _ hlt;have m2:(ob.length+1)*(fs+slotSum arrs arrs.length)<=nmax*(fs+slotSum arrs arrs.length):=Nat.mul_le_mul_right _ hlt;rw[Nat.add_mul] at m1 m2;have hM:=met0 (hW n) hpn hcls hnm0 hrt0 K M hCs hcov hp d0 d1 w1 w2 w3 hfr hlw hok hlen hZ00 hZ0 hit Pq (n0:=x.2.1) (Nat.le_add_right _ _) [];obtain⟨kp,hcd⟩:=hcd;have hroom:Room2 mi1 mi2 wm2 0 0:=hR0 _ _ _ _ _ hcd;have hB:=backOf (W:=wm2 0) (rm:={ frames:=(mi1 0).2.2.2.1,cells:=arrs.length,slots:=slotSum arrs arrs.length,locals:=(mi1 0).2.2.2.2 }) (Q:=fun v h' L=>v=none/\Fr x.2.1 L/\Keep T.heap h' (rng arrs (x.2.1+ob.length*(arrs.length+1)))/\ObjAt C fds arrs Z h' (x.2.1+ob.length*(arrs.length+1)) (G q.2)) hM hZ hct.2.2 (by rw[hcls];exact wz) (Nat.le_trans hroom.1 f8) (Nat.le_trans hroom.2 f9) (R:=R) (p:=p) (e:=e) (below:=below) (s:=s) (args:=args) (len:=3)
     simp only[cnt,scn,if_true] at j1 j2 H3;obtain⟨v,vm₁,⟨T',L',c',s'⟩,-,X',⟨Lc,⟨hv0,hN,hK,hO⟩,l1,l2,l3⟩,st1⟩:=X.specialBack hx (y:=(mi1 0).1) hnm0 hown (mvT hZ (hct.1 _ _ hmem)) (mvT hZ hct.2.1) (mvT hZ hct.2.2) (by rw[hcls];exact hC) hB (g:=mkF m pc L (st.map (cv (rho2 (arrs.length+1) x)))) rfl hs (Steps.refl _) (a:=x.2.1+ob.length*(arrs.length+1)) (argsL:=as) (rest:=st'.map (cv (rho2 (arrs.length+1) x))) (lenOf hps0 (by omega))
      (by show st.map _=_;rw[q3,List.map_append,List.map_reverse,(okn_spec hok).2];rfl) (by show 2*0+_<=_;rw[hcat];omega) hd (fun vm _=>⟨rfl,rfl,by show cells+arrs.length<=R.cells;omega,by show slots+slotSum arrs arrs.length<=R.slots;omega⟩)
     dsimp only [Pt.U,Pt.locs,Pt.cells,Pt.slots] at X' l1 l2 l3 st1 hN hK hO;subst l1 l2 l3 hv0;have hsz1:T'.heap.size=x.2.1+(ob.length+1)*(arrs.length+1):=by
      have u:=X'.heapSize;have lo:x.2.1+ob.length*(arrs.length+1)+arrs.length<T'.heap.size:=by
       by_cases har:arrs.length=0
       ·have:=hO.1.lt;rw[har] at this ⊢;exact this
       ·have hk1:arrs.length-1<arrs.length:=by omega
        obtain⟨⟨ty,ln⟩,hq'⟩:∃q,arrs[arrs.length-1]? = some q:=⟨arrs[arrs.length-1],by simp[hk1]⟩;obtain⟨cell,A,-⟩:=hO.2.2 _ ty ln hq';have lt1:x.2.1+ob.length*(arrs.length+1)+(arrs.length-1+1)<T'.heap.size:=A.lt;omega
      rw[Nat.add_mul];omega
     refine⟨T',_,_,_,X',⟨⟨?_,?_⟩,⟨?_,?_⟩,j5,fun q=>absurd rfl q,j7,⟨fun o S hS=>?_,fun q=>(by cases q),?_,fun xs hxs=>?_⟩,N.app hN⟩,fun t kt=>st1.trans kt⟩
     ·show cells+arrs.length+x.2.2.1=_;simp only[cnt,List.length_append,List.length_singleton,Bool.false_eq_true,if_false,Nat.add_mul];omega
     ·show slots+slotSum arrs arrs.length+x.2.2.2=_;simp only[scn,List.length_append,List.length_singleton,Bool.false_eq_true,if_false,Nat.add_mul];omega
     ·show cells+arrs.length<=_;omega
     ·show slots+slotSum arrs arrs.length<=_;omega
     ·simp only[] at hS;by_cases q:o<ob.length
      ·rw[List.getElem?_append_left q] at hS;exact (H1 o S hS).keep hK fun r hr=>rng_far (by omega) hr
      ·have:o=ob.length:=by
        have:=(List.getElem?_eq_some_iff.mp hS).1;simp at this;omega
       subst this;simp at hS;subst hS;exact hO
     ·simp only[cnt,List.length_append,List.length_singleton,Bool.false_eq_true,if_false];exact hsz1
     ·obtain⟨a1,a2,cell,A,r⟩:=H4 xs hxs;exact⟨a1,a2,cell,⟨hK.2.1 _ _ A.1 (rng_low a1),A.2⟩,r⟩
    ·cases hm
   ·cases hm
  ·cases hm
 ·-- a method of the object
  rename_i k
  obtain⟨idx,rfl,hmem⟩:=canon_inv hc;obtain rfl:len=3:=by simpa [lenOK,ilen] using ho
  unfold vt at hm
  split at hm
  ·rename_i ob
   split at hm
   ·rename_i as o rest ht
    split at hm
    ·rename_i S hS
     split at hm
     ·rename_i hb
      obtain⟨hok,hct',hlen⟩:=hb;obtain⟨q,hq,hm⟩:=Option.map_eq_some_iff.mp hm;cases hm
      obtain⟨n,hit⟩:=hf1 _ _ hq;obtain⟨qs,q1,q2,q3⟩:=takeA_spec ht;have q2':as=qs:=by simpa using q2
      subst q2';obtain⟨hv,ps,hps,hna⟩:=hvt k idx hmem;have hv:=hv idx hmem;have O:=H1 o S hS;have hM:=met1 (ws:=[]) (hW n) hpn hv.1 hok hlen hit O (n0:=x.2.1) (Nat.le_add_right _ _);obtain⟨kp,hcd⟩:=hcd;have hroom:Room2 mi1 mi2 wm2 mm k:=hR _ _ _ _ _ hcd;obtain⟨v,T',Lc,X',⟨e1,e0,e2,e3,e4⟩,G'⟩:=callV X hx hZ hown hv wi wz hC hps (as':=as) (by omega) (Q:=fun v h' L=>v=q.1/\(∀ρ',q.1.map (cv ρ')=q.1)/\Fr x.2.1 L/\Keep T.heap h' (rng arrs (x.2.1+o*(arrs.length+1)))/\ObjAt C fds arrs Z h' (x.2.1+o*(arrs.length+1)) (G q.2)) hM rfl O.1 (W:=wm2 mm) (rm:={ frames:=(mi1 k).2.2.2.1,cells:=0,slots:=0,locals:=(mi1 k).2.2.2.2 }) (Nat.le_trans hroom.1 f8) (Nat.le_trans hroom.2 f9) (show cells+0<=R.cells from j3) (show slots+0<=R.slots from j4) hs (rest:=rest.map (cv (rho2 (arrs.length+1) x))) (st:=st.map (cv (rho2 (arrs.length+1) x)))
       (by rw[q3,List.map_append,List.map_reverse,(okn_spec hok).2];rfl) (by rw[hcat];exact hct') hd
      subst e1;have hol:o<ob.length:=(List.getElem?_eq_some_iff.mp hS).1;have hsz1:T'.heap.size=T.heap.size:=by
       have u:=X'.heapSize;have lo:=e3.1;simp only[Nat.add_zero] at u;omega
      refine⟨T',_,_,_,X',⟨⟨?_,?_⟩,⟨j3,j4⟩,j5,j6,j7,⟨fun o' S' hS'=>?_,fun q=>(by cases q),?_,fun xs hxs=>?_⟩,N.app e2⟩,?_⟩
      ·simpa [cnt] using j1
      ·simpa [scn] using j2
      ·simp only[] at hS';by_cases q':o=o'
       ·subst q';rw[List.getElem?_set_self hol] at hS';cases hS'
        exact e4
       ·rw[List.getElem?_set_ne q'] at hS';exact (H1 o' S' hS').keep e3 fun r hr=>rng_far (Ne.symm q') hr
      ·rw[hsz1,H3];simp[cnt]
      ·obtain⟨a1,a2,cell,A,r⟩:=H4 xs hxs;exact⟨a1,a2,cell,⟨e3.2.1 _ _ A.1 (rng_low a1),A.2⟩,r⟩
      ·have:(q.1.toList++rest).map (cv (rho2 (arrs.length+1) x))=q.1.toList++rest.map (cv (rho2 (arrs.length+1) x)):=by
        rw[List.map_append]
        congr 1
        have:=e0 (rho2 (arrs.length+1) x);cases hr:q.1 with
        |none=>rfl
        |some w=>rw[hr] at this;simpa using this
       rw[this];exact G'
     ·cases hm
    ·cases hm
   ·cases hm
  ·cases hm
 ·-- the script's places
  obtain rfl:=canon_heapy rfl hc;obtain rfl:len=1:=by simpa [lenOK,ilen] using ho
  split at hm
  ·rename_i xs
   unfold sl at hm
   split at hm
   ·rename_i j r
    split at hm
    ·rename_i hb
     cases hm
     obtain⟨a1,a2,cell,A,z,H⟩:=H4 xs rfl;have hin:=inb_spec hb;have hv:=H j.toNatClampNeg (Nat.lt_of_not_le fun q=>hin (Or.inr q));rw[<-z] at hin;exact⟨T,locs,cells,slots,X,⟨⟨j1,j2⟩,⟨j3,j4⟩,j5,j6,j7,⟨H1,H2,H3,H4⟩,N⟩,fun t kt=>X.iaload hx A.1 (State.isArrayOf_alike hZ.alike A.2.1) A.2.2 hin hv (g:=mkF m pc L (.int j :: .ref x.1::r.map (cv (rho2 (arrs.length+1) x)))) rfl rfl hd t kt⟩
    ·cases hm
   ·cases hm
  ·cases hm
 ·-- the script's length
  obtain rfl:=canon_heapy rfl hc;obtain rfl:len=1:=by simpa [lenOK,ilen] using ho
  split at hm
  ·rename_i xs
   unfold sn at hm
   split at hm
   ·rename_i r
    cases hm
    obtain⟨a1,a2,cell,A,z,H⟩:=H4 xs rfl;refine⟨T,locs,cells,slots,X,⟨⟨j1,j2⟩,⟨j3,j4⟩,j5,j6,j7,⟨H1,H2,H3,H4⟩,N⟩,fun t kt=>X.arraylength hx A.1 (State.isArrayOf_alike hZ.alike A.2.1) (g:=mkF m pc L (.ref x.1::r.map (cv (rho2 (arrs.length+1) x)))) rfl rfl hd t ?_⟩;rw[z];exact kt
   ·cases hm
  ·cases hm
 ·cases hm
def StaOK(Tb2:Tabs)(Z:State)(a0:Array Value)(mi2:MI)(rt2:Nat->Option FieldType)(own:String)(na2:Nat->Nat):Prop:=
 ∀idx k,(idx,k)∈Tb2.2.2.1->(mi2 k).1.cls=own/\(Cond.methodLink own idx (mi2 k).1).before a0 Z=true/\(Cond.static (mi2 k).1).before a0 Z=true/\(Cond.initialized own).before a0 Z=true/\(Cond.code (mi2 k).1 (mi2 k).2.1 (mi2 k).2.2.1 (rt2 k)).before a0 Z=true/\∃ps,parseMethodDescriptor (mi2 k).1.desc=some ⟨ps,rt2 k⟩/\ps.length=na2 k
def RoomS(code2:Codes)(mi2:MI)(wm2:Nat->Nat):Prop:=∀mm pc k pn kp,code2 mm pc=some (.invokestatic k,pn,kp)->(mi2 k).2.2.2.1+1<=(mi2 mm).2.2.2.1/\wm2 mm+((mi2 k).2.2.1+11)+(mi2 k).2.2.2.2<=(mi2 mm).2.2.2.2
set_option maxHeartbeats 1000000 in
theorem met2{code2:Codes}{mop:Mop (W2 σ)}{cop:Cop}{n:Nat}(hW:Walks code2 rt2 mop cop mi2 own Z l (rho2 (arrs.length+1)) (J2 C gds fds arrs Z G fs nmax sc) n)(hpn:plainName own=true){k:Nat}(hk:k≠0)(hcls:(mi2 k).1.cls=own){as:List Value}(hok:okv as=true)(hlen:(entL as).length<=(mi2 k).2.2.1)
  {w:W2 σ} {r:Res (W2 σ)} (hit:iter (plan code2 rt2 mop cop) n (k,0,entL as,[],w)=some r) {h:Heap} {sa n0:Nat} (H:Heap2 C gds fds arrs Z G nmax sc sa n0 w h) (ws:List Jvm.Cond) (x:I2) (hx1:x.1=sa) (hx2:x.2.1=n0) :
  MetFree l (mi2 k).1 (head1 (Cond.code (mi2 k).1 (mi2 k).2.1 (mi2 k).2.2.1 (rt2 k)::ws) ({ frames:=(mi2 k).2.2.2.1,cells:=0,slots:=0,locals:=(mi2 k).2.2.2.2 }:Room))
   (fun A U=>A=(as.map (cv (rho2 (arrs.length+1) x))).toArray/\Z.Warmed39 U.vm/\U.heap=h) (fun _ _ _ _ _=>True)
   (fun _ U o U'=>∃v L,o = .returned v/\(v=r.1/\(∀ρ',r.1.map (cv ρ')=r.1)/\Fr n0 L/\Heap2 C gds fds arrs Z G nmax sc sa n0 r.2 U'.heap/\cnt (arrs.length+1) r.2=cnt (arrs.length+1) w/\scn fs (slotSum arrs arrs.length) r.2=scn fs (slotSum arrs arrs.length) w)/\FrameEnd U o U' L 0 0):=by
 refine MetFree.of_bodySF (plainFor_of_name (by rw[hcls];exact hpn)) hisR ?_;intro p e s m args below meth c s₁ Bd hml0 hP hK;obtain⟨rfl,hZ,hh⟩:=hP;subst hx1 hx2;have hown:s.vm.findClass own=some m.cls:=by rw[<-hcls];exact findClass_of_methodNamed Bd.named
 have hnm:=(name_of_methodNamed Bd.named Bd.method).1;have X0:=Stand.of_body Bd;have e0:s₁.heap=h:=by rw[<-hh,Bd.state];rfl
 have ρe:rho2 (arrs.length+1) (x.1,x.2.1,cnt (arrs.length+1) w,scn fs (slotSum arrs arrs.length) w)=rho2 (arrs.length+1) x:=by
  funext r;cases r<;>rfl
 obtain⟨L,q1,q2,q3,q4⟩:=entry_rel (rho2 (arrs.length+1) x) (vs:=as) hok hlen;obtain⟨T',L',k',n',X',⟨⟨j1,j2⟩,-,-,j6,j7,jH,jN⟩,⟨ok1,ok2⟩,st⟩:=hW (x.1,x.2.1,cnt (arrs.length+1) w,scn fs (slotSum arrs arrs.length) w) p e _ s m _ below meth c k 0 _ [] w r hit s₁ [] 0 0 L X0 ⟨Bd.exec,hZ,hown,Bd.bytes,hml0,Bd.returns,hnm,Nat.le_refl _,Nat.le_refl _⟩
  ⟨⟨Nat.zero_add _,Nat.zero_add _⟩,⟨Nat.le_refl _,Nat.le_refl _⟩,fun q=>absurd q hk,fun _=>⟨rfl,rfl⟩,by rw[hh];exact H.2.2.1,by rw[e0];exact H,Fr.nil _⟩ (by rw[ρe];exact q2) q3 (by rw[q4,hml0])
 obtain⟨fs',hr,hrun,hended,hWm,hsame⟩:=X'.leave (v:=r.1) ok1;obtain⟨k0,n00⟩:=j6 hk;subst k0 n00;refine⟨_,_,?_,hrun,hended,_,_,rfl,⟨rfl,ok2,jN,jH,by simpa using j1.symm,by simpa using j2.symm⟩,⟨_,rfl⟩,hWm,hsame⟩;have:=st fs' hr;rw[q1 m];exact this
set_option maxHeartbeats 1000000 in
theorem cop2_ok{code2:Codes}{mop:Mop (W2 σ)}(hpn:plainName own=true)(hC:own ≠ "java/lang/invoke/MethodHandle" /\ own ≠ "java/lang/invoke/VarHandle")(hS:StaOK Tb2 Z a0 mi2 rt2 own na2)(hR:RoomS code2 mi2 wm2) :
  CopOK code2 rt2 mop (cop2 na2 (fun k=>(mi2 k).2.2.1) wm2) Tb2 mi2 own Z l (rho2 (arrs.length+1)) (J2 C gds fds arrs Z G fs nmax sc):=by
 intro n hW x p e R s m args below meth c mm pc len i0 i st q w r T locs cells slots L X F hJ hs hd ho hc hne hq hit;obtain⟨hx,hZ,hown,f4,f5,f6,f7,f8,f9⟩:=F;obtain⟨⟨j1,j2⟩,⟨j3,j4⟩,j5,j6,j7,H,N⟩:=hJ;unfold cop2 at hq
 split at hq
 ·rename_i k
  split at hq
  ·rename_i as r0 ht
   split at hq
   ·rename_i hb
    cases hq
    obtain⟨hk,hok,hcat',hlen⟩:=hb;obtain⟨idx,rfl,hmem⟩:=canon_stat hc;obtain rfl:len=3:=by simpa [lenOK,ilen] using ho
    obtain⟨g1,g2,g3,g4,g5,ps,hps,hna⟩:=hS idx k hmem;obtain⟨qs,q1,q2,q3⟩:=takeA_spec ht;have q2':as=qs:=by simpa using q2
    subst q2';obtain⟨kp,hcd⟩:=hne;have hroom:=hR mm pc k _ kp hcd;have hM:=met2 (hW:=hW) hpn hk g1 hok hlen hit H [] x rfl rfl;have hB:=backOf (W:=wm2 mm) (rm:={ frames:=(mi2 k).2.2.2.1,cells:=0,slots:=0,locals:=(mi2 k).2.2.2.2 }) (Q:=fun v h' L=>v=r.1/\(∀ρ',r.1.map (cv ρ')=r.1)/\Fr x.2.1 L/\Heap2 C gds fds arrs Z G nmax sc x.1 x.2.1 r.2 h'/\cnt (arrs.length+1) r.2=cnt (arrs.length+1) w/\scn fs (slotSum arrs arrs.length) r.2=scn fs (slotSum arrs arrs.length) w) hM hZ g5 (by rw[g1];exact g4) (Nat.le_trans hroom.1 f8) (Nat.le_trans hroom.2 f9) (R:=R) (p:=p) (e:=e) (below:=below) (s:=s) (args:=args) (len:=3)
    have hcat:((r0.map (cv (rho2 (arrs.length+1) x))).map fun v=>v.category).sum=cats r0:=by
     have:(r0.map (cv (rho2 (arrs.length+1) x))).map (fun v=>v.category)=r0.map fun v=>v.category:=by
      rw[List.map_map];apply List.map_congr_left;intro v _;cases v<;>rfl
     rw[this];rfl
    obtain⟨v,vm₁,⟨T',L',c',s'⟩,-,X',⟨Lc,⟨hv0,ok2,hN,hH,z1,z2⟩,l1,l2,l3⟩,st1⟩:=Jvm.LawKit.callS X hx (y:=(mi2 k).1) hown (mvT hZ g2) (mvT hZ g3) (by rw[g1];exact mvT hZ g4) (mvT hZ g5) (by rw[g1];exact hC) hB (g:=mkF m pc L (st.map (cv (rho2 (arrs.length+1) x)))) rfl hs (argsL:=as.map (cv (rho2 (arrs.length+1) x))) (rest:=r0.map (cv (rho2 (arrs.length+1) x))) (lenOf hps (by simp;omega))
     (by show st.map _=_;rw[q3,List.map_append,List.map_reverse]) (by show 2*0+_<=_;rw[hcat];omega) hd (fun vm _=>⟨rfl,rfl,by simpa using j3,by simpa using j4⟩)
    dsimp only [Pt.U,Pt.locs,Pt.cells,Pt.slots] at X' l1 l2 l3 st1 hN hH;subst l1 l2 l3 hv0;refine⟨T',_,_,_,X',⟨⟨by rw[z1];exact j1,by rw[z2];exact j2⟩,⟨j3,j4⟩,j5,j6,j7,hH,N.app hN⟩,?_⟩;have:(r.1.toList++r0).map (cv (rho2 (arrs.length+1) x))=r.1.toList++r0.map (cv (rho2 (arrs.length+1) x)):=by
     rw[List.map_append]
     congr 1
     have:=ok2 (rho2 (arrs.length+1) x);cases hr:r.1 with
     |none=>rfl
     |some w=>rw[hr] at this;simpa using this
    rw[this];exact fun t kt=>st1 t kt
   ·cases hq
  ·cases hq
 ·cases hq
end L2
theorem ite2{β:Type}{p:Prop}[Decidable p]{a b a' b':β}(h1:a=a')(h2:b=b'):(if p then a else b)=if p then a' else b':=by rw[h1,h2]
theorem iteH{β:Type}{p:Prop}[Decidable p]{a b a':β}(h1:p->a=a'):(if p then a else b)=if p then a' else b:=by
 by_cases h:p
 ·rw[if_pos h,if_pos h,h1 h]
 ·rw[if_neg h,if_neg h]
namespace F
variable {τ:Type} {code:Codes} {rt:Nat->Option FieldType} {mop:Mop τ} {cop:Cop} {f:Cfg τ->Option (Res τ)} {m pc pn:Nat} {kp:Option Nat} {ls st:List Value} {S:τ}
theorem head(hf:∀c,f c=run (plan code rt mop cop) f c){i:Instr}{k:Nat}(h:code m pc=some (i,pn,some k)):f (m,pc,ls,st,S)=f (m,pc,ls.take k,st,S):=by
 rw[hf,hf (m,pc,ls.take k,st,S)];simp only[run,plan,h,tk,List.take_take,Nat.min_self]
theorem iadd(hf:∀c,f c=run (plan code rt mop cop) f c){x y:Int32}(h:code m pc=some (.iadd,pn,kp))(hk:tk kp ls=ls):f (m,pc,ls,.int y :: .int x::st,S)=f (m,pn,ls,.int (x+y)::st,S):=by
 rw[hf];simp only[run,plan,h,hk,rest,retV,loc,alu,ii,iz,ll,lz,li,lc,i1,l1,pop1,dup1,dup2',Option.map_some]
theorem isub(hf:∀c,f c=run (plan code rt mop cop) f c){x y:Int32}(h:code m pc=some (.isub,pn,kp))(hk:tk kp ls=ls):f (m,pc,ls,.int y :: .int x::st,S)=f (m,pn,ls,.int (x-y)::st,S):=by
 rw[hf];simp only[run,plan,h,hk,rest,retV,loc,alu,ii,iz,ll,lz,li,lc,i1,l1,pop1,dup1,dup2',Option.map_some]
theorem imul(hf:∀c,f c=run (plan code rt mop cop) f c){x y:Int32}(h:code m pc=some (.imul,pn,kp))(hk:tk kp ls=ls):f (m,pc,ls,.int y :: .int x::st,S)=f (m,pn,ls,.int (x*y)::st,S):=by
 rw[hf];simp only[run,plan,h,hk,rest,retV,loc,alu,ii,iz,ll,lz,li,lc,i1,l1,pop1,dup1,dup2',Option.map_some]
theorem iand(hf:∀c,f c=run (plan code rt mop cop) f c){x y:Int32}(h:code m pc=some (.iand,pn,kp))(hk:tk kp ls=ls):f (m,pc,ls,.int y :: .int x::st,S)=f (m,pn,ls,.int (x&&&y)::st,S):=by
 rw[hf];simp only[run,plan,h,hk,rest,retV,loc,alu,ii,iz,ll,lz,li,lc,i1,l1,pop1,dup1,dup2',Option.map_some]
theorem ior(hf:∀c,f c=run (plan code rt mop cop) f c){x y:Int32}(h:code m pc=some (.ior,pn,kp))(hk:tk kp ls=ls):f (m,pc,ls,.int y :: .int x::st,S)=f (m,pn,ls,.int (x|||y)::st,S):=by
 rw[hf];simp only[run,plan,h,hk,rest,retV,loc,alu,ii,iz,ll,lz,li,lc,i1,l1,pop1,dup1,dup2',Option.map_some]
theorem ixor(hf:∀c,f c=run (plan code rt mop cop) f c){x y:Int32}(h:code m pc=some (.ixor,pn,kp))(hk:tk kp ls=ls):f (m,pc,ls,.int y :: .int x::st,S)=f (m,pn,ls,.int (x^^^y)::st,S):=by
 rw[hf];simp only[run,plan,h,hk,rest,retV,loc,alu,ii,iz,ll,lz,li,lc,i1,l1,pop1,dup1,dup2',Option.map_some]
theorem ishl(hf:∀c,f c=run (plan code rt mop cop) f c){x y:Int32}(h:code m pc=some (.ishl,pn,kp))(hk:tk kp ls=ls):f (m,pc,ls,.int y :: .int x::st,S)=f (m,pn,ls,.int (x<<<(y&&&31))::st,S):=by
 rw[hf];simp only[run,plan,h,hk,rest,retV,loc,alu,ii,iz,ll,lz,li,lc,i1,l1,pop1,dup1,dup2',Option.map_some]
theorem ishr(hf:∀c,f c=run (plan code rt mop cop) f c){x y:Int32}(h:code m pc=some (.ishr,pn,kp))(hk:tk kp ls=ls):f (m,pc,ls,.int y :: .int x::st,S)=f (m,pn,ls,.int (x>>>(y&&&31))::st,S):=by
 rw[hf];simp only[run,plan,h,hk,rest,retV,loc,alu,ii,iz,ll,lz,li,lc,i1,l1,pop1,dup1,dup2',Option.map_some]
theorem iushr(hf:∀c,f c=run (plan code rt mop cop) f c){x y:Int32}(h:code m pc=some (.iushr,pn,kp))(hk:tk kp ls=ls):f (m,pc,ls,.int y :: .int x::st,S)=f (m,pn,ls,.int (XT.ushr x y)::st,S):=by
 rw[hf];simp only[run,plan,h,hk,rest,retV,loc,alu,ii,iz,ll,lz,li,lc,i1,l1,pop1,dup1,dup2',Option.map_some]
theorem idiv(hf:∀c,f c=run (plan code rt mop cop) f c){x y:Int32}(h:code m pc=some (.idiv,pn,kp))(hk:tk kp ls=ls)(hy:y≠0):f (m,pc,ls,.int y :: .int x::st,S)=f (m,pn,ls,.int (x/y)::st,S):=by
 rw[hf];simp only[run,plan,h,hk,rest,retV,loc,alu,ii,iz,ll,lz,li,lc,i1,l1,pop1,dup1,dup2',Option.map_some,hy,if_false]
theorem irem(hf:∀c,f c=run (plan code rt mop cop) f c){x y:Int32}(h:code m pc=some (.irem,pn,kp))(hk:tk kp ls=ls)(hy:y≠0):f (m,pc,ls,.int y :: .int x::st,S)=f (m,pn,ls,.int (x%y)::st,S):=by
 rw[hf];simp only[run,plan,h,hk,rest,retV,loc,alu,ii,iz,ll,lz,li,lc,i1,l1,pop1,dup1,dup2',Option.map_some,hy,if_false]
theorem lrem(hf:∀c,f c=run (plan code rt mop cop) f c){x y:Int64}(h:code m pc=some (.lrem,pn,kp))(hk:tk kp ls=ls)(hy:y≠0):f (m,pc,ls,.long y :: .long x::st,S)=f (m,pn,ls,.long (x%y)::st,S):=by
 rw[hf];simp only[run,plan,h,hk,rest,retV,loc,alu,ii,iz,ll,lz,li,lc,i1,l1,pop1,dup1,dup2',Option.map_some,hy,if_false]
theorem ladd(hf:∀c,f c=run (plan code rt mop cop) f c){x y:Int64}(h:code m pc=some (.ladd,pn,kp))(hk:tk kp ls=ls):f (m,pc,ls,.long y :: .long x::st,S)=f (m,pn,ls,.long (x+y)::st,S):=by
 rw[hf];simp only[run,plan,h,hk,rest,retV,loc,alu,ii,iz,ll,lz,li,lc,i1,l1,pop1,dup1,dup2',Option.map_some]
theorem lsub(hf:∀c,f c=run (plan code rt mop cop) f c){x y:Int64}(h:code m pc=some (.lsub,pn,kp))(hk:tk kp ls=ls):f (m,pc,ls,.long y :: .long x::st,S)=f (m,pn,ls,.long (x-y)::st,S):=by
 rw[hf];simp only[run,plan,h,hk,rest,retV,loc,alu,ii,iz,ll,lz,li,lc,i1,l1,pop1,dup1,dup2',Option.map_some]
theorem lmul(hf:∀c,f c=run (plan code rt mop cop) f c){x y:Int64}(h:code m pc=some (.lmul,pn,kp))(hk:tk kp ls=ls):f (m,pc,ls,.long y :: .long x::st,S)=f (m,pn,ls,.long (x*y)::st,S):=by
 rw[hf];simp only[run,plan,h,hk,rest,retV,loc,alu,ii,iz,ll,lz,li,lc,i1,l1,pop1,dup1,dup2',Option.map_some]
theorem land(hf:∀c,f c=run (plan code rt mop cop) f c){x y:Int64}(h:code m pc=some (.land,pn,kp))(hk:tk kp ls=ls):f (m,pc,ls,.long y :: .long x::st,S)=f (m,pn,ls,.long (x&&&y)::st,S):=by
 rw[hf];simp only[run,plan,h,hk,rest,retV,loc,alu,ii,iz,ll,lz,li,lc,i1,l1,pop1,dup1,dup2',Option.map_some]
theorem lor(hf:∀c,f c=run (plan code rt mop cop) f c){x y:Int64}(h:code m pc=some (.lor,pn,kp))(hk:tk kp ls=ls):f (m,pc,ls,.long y :: .long x::st,S)=f (m,pn,ls,.long (x|||y)::st,S):=by
 rw[hf];simp only[run,plan,h,hk,rest,retV,loc,alu,ii,iz,ll,lz,li,lc,i1,l1,pop1,dup1,dup2',Option.map_some]
theorem lxor(hf:∀c,f c=run (plan code rt mop cop) f c){x y:Int64}(h:code m pc=some (.lxor,pn,kp))(hk:tk kp ls=ls):f (m,pc,ls,.long y :: .long x::st,S)=f (m,pn,ls,.long (x^^^y)::st,S):=by
 rw[hf];simp only[run,plan,h,hk,rest,retV,loc,alu,ii,iz,ll,lz,li,lc,i1,l1,pop1,dup1,dup2',Option.map_some]
theorem lshl(hf:∀c,f c=run (plan code rt mop cop) f c){x:Int64}{y:Int32}(h:code m pc=some (.lshl,pn,kp))(hk:tk kp ls=ls):f (m,pc,ls,.int y :: .long x::st,S)=f (m,pn,ls,.long (x<<<(y.toInt64&&&63))::st,S):=by
 rw[hf];simp only[run,plan,h,hk,rest,retV,loc,alu,ii,iz,ll,lz,li,lc,i1,l1,pop1,dup1,dup2',Option.map_some]
theorem lushr(hf:∀c,f c=run (plan code rt mop cop) f c){x:Int64}{y:Int32}(h:code m pc=some (.lushr,pn,kp))(hk:tk kp ls=ls):f (m,pc,ls,.int y :: .long x::st,S)=f (m,pn,ls,.long (XT.ushrL x y)::st,S):=by
 rw[hf];simp only[run,plan,h,hk,rest,retV,loc,alu,ii,iz,ll,lz,li,lc,i1,l1,pop1,dup1,dup2',Option.map_some]
theorem lcmp(hf:∀c,f c=run (plan code rt mop cop) f c){x y:Int64}(h:code m pc=some (.lcmp,pn,kp))(hk:tk kp ls=ls):f (m,pc,ls,.long y :: .long x::st,S)=f (m,pn,ls,.int (XT.cmpL x y)::st,S):=by
 rw[hf];simp only[run,plan,h,hk,rest,retV,loc,alu,ii,iz,ll,lz,li,lc,i1,l1,pop1,dup1,dup2',Option.map_some]
theorem ineg(hf:∀c,f c=run (plan code rt mop cop) f c){x:Int32}(h:code m pc=some (.ineg,pn,kp))(hk:tk kp ls=ls):f (m,pc,ls,.int x::st,S)=f (m,pn,ls,.int (-x)::st,S):=by
 rw[hf];simp only[run,plan,h,hk,rest,retV,loc,alu,ii,iz,ll,lz,li,lc,i1,l1,pop1,dup1,dup2',Option.map_some]
theorem i2l(hf:∀c,f c=run (plan code rt mop cop) f c){x:Int32}(h:code m pc=some (.i2l,pn,kp))(hk:tk kp ls=ls):f (m,pc,ls,.int x::st,S)=f (m,pn,ls,.long x.toInt64::st,S):=by
 rw[hf];simp only[run,plan,h,hk,rest,retV,loc,alu,ii,iz,ll,lz,li,lc,i1,l1,pop1,dup1,dup2',Option.map_some]
theorem l2i(hf:∀c,f c=run (plan code rt mop cop) f c){x:Int64}(h:code m pc=some (.l2i,pn,kp))(hk:tk kp ls=ls):f (m,pc,ls,.long x::st,S)=f (m,pn,ls,.int x.toInt32::st,S):=by
 rw[hf];simp only[run,plan,h,hk,rest,retV,loc,alu,ii,iz,ll,lz,li,lc,i1,l1,pop1,dup1,dup2',Option.map_some]
theorem i2b(hf:∀c,f c=run (plan code rt mop cop) f c){x:Int32}(h:code m pc=some (.i2b,pn,kp))(hk:tk kp ls=ls):f (m,pc,ls,.int x::st,S)=f (m,pn,ls,.int x.toInt8.toInt32::st,S):=by
 rw[hf];simp only[run,plan,h,hk,rest,retV,loc,alu,ii,iz,ll,lz,li,lc,i1,l1,pop1,dup1,dup2',Option.map_some]
theorem iconst(hf:∀c,f c=run (plan code rt mop cop) f c){i:Int}{v:Int32}(h:code m pc=some (.iconst i,pn,kp))(hk:tk kp ls=ls)(hv:Int32.ofInt i=v):f (m,pc,ls,st,S)=f (m,pn,ls,.int v::st,S):=by
 rw[hf];simp only[run,plan,h,hk,rest,retV,loc,alu,ii,iz,ll,lz,li,lc,i1,l1,pop1,dup1,dup2',Option.map_some,hv]
theorem lconst(hf:∀c,f c=run (plan code rt mop cop) f c){i:Fin 2}{v:Int64}(h:code m pc=some (.lconst i,pn,kp))(hk:tk kp ls=ls)(hv:Int64.ofNat i=v):f (m,pc,ls,st,S)=f (m,pn,ls,.long v::st,S):=by
 rw[hf];simp only[run,plan,h,hk,rest,retV,loc,alu,ii,iz,ll,lz,li,lc,i1,l1,pop1,dup1,dup2',Option.map_some,hv]
theorem iload(hf:∀c,f c=run (plan code rt mop cop) f c){k:Nat}{v:Int32}(h:code m pc=some (.iload k,pn,kp))(hk:tk kp ls=ls)(hl:ls[k]? = some (.int v)):f (m,pc,ls,st,S)=f (m,pn,ls,.int v::st,S):=by
 rw[hf];simp only[run,plan,h,hk,rest,retV,loc,ldI,ldA,ldL,stI',stA',stL',incI,Option.map_some,hl]
theorem aload(hf:∀c,f c=run (plan code rt mop cop) f c){k v:Nat}(h:code m pc=some (.aload k,pn,kp))(hk:tk kp ls=ls)(hl:ls[k]? = some (.ref v)):f (m,pc,ls,st,S)=f (m,pn,ls,.ref v::st,S):=by
 rw[hf];simp only[run,plan,h,hk,rest,retV,loc,ldI,ldA,ldL,stI',stA',stL',incI,Option.map_some,hl]
theorem lload(hf:∀c,f c=run (plan code rt mop cop) f c){k:Nat}{v:Int64}(h:code m pc=some (.lload k,pn,kp))(hk:tk kp ls=ls)(hl:ls[k]? = some (.long v)):f (m,pc,ls,st,S)=f (m,pn,ls,.long v::st,S):=by
 rw[hf];simp only[run,plan,h,hk,rest,retV,loc,ldI,ldA,ldL,stI',stA',stL',incI,Option.map_some,hl]
theorem istore(hf:∀c,f c=run (plan code rt mop cop) f c){k:Nat}{v:Int32}{l:List Value}(h:code m pc=some (.istore k,pn,kp))(hk:tk kp ls=ls)(hl:st1 ls k (.int v)=l):f (m,pc,ls,.int v::st,S)=f (m,pn,l,st,S):=by
 rw[hf];simp only[run,plan,h,hk,rest,retV,loc,ldI,ldA,ldL,stI',stA',stL',incI,Option.map_some,hl]
theorem astore(hf:∀c,f c=run (plan code rt mop cop) f c){k v:Nat}{l:List Value}(h:code m pc=some (.astore k,pn,kp))(hk:tk kp ls=ls)(hl:st1 ls k (.ref v)=l):f (m,pc,ls,.ref v::st,S)=f (m,pn,l,st,S):=by
 rw[hf];simp only[run,plan,h,hk,rest,retV,loc,ldI,ldA,ldL,stI',stA',stL',incI,Option.map_some,hl]
theorem lstore(hf:∀c,f c=run (plan code rt mop cop) f c){k:Nat}{v:Int64}{l:List Value}(h:code m pc=some (.lstore k,pn,kp))(hk:tk kp ls=ls)(hl:st2 ls k (.long v)=l):f (m,pc,ls,.long v::st,S)=f (m,pn,l,st,S):=by
 rw[hf];simp only[run,plan,h,hk,rest,retV,loc,ldI,ldA,ldL,stI',stA',stL',incI,Option.map_some,hl]
theorem iinc(hf:∀c,f c=run (plan code rt mop cop) f c){k:Nat}{c:Int}{v v':Int32}{l:List Value}(h:code m pc=some (.iinc k c,pn,kp))(hk:tk kp ls=ls)(hv:Int32.ofInt c=v')(hl0:ls[k]? = some (.int v))(hl:st1 ls k (.int (v+v'))=l):f (m,pc,ls,st,S)=f (m,pn,l,st,S):=by
 rw[hf];simp only[run,plan,h,hk,rest,retV,loc,ldI,ldA,ldL,stI',stA',stL',incI,Option.map_some,hl0,hv,hl]
theorem goto(hf:∀c,f c=run (plan code rt mop cop) f c){t:Nat}(h:code m pc=some (.goto (Int.ofNat t),pn,kp))(hk:tk kp ls=ls):f (m,pc,ls,st,S)=f (m,t,ls,st,S):=by
 rw[hf];simp only[run,plan,h,hk,Int.ofNat_eq_natCast,Int.toNat_natCast]
theorem ifeq(hf:∀c,f c=run (plan code rt mop cop) f c){t:Nat}{x:Int32}(h:code m pc=some (.ifCond .eq (Int.ofNat t),pn,kp))(hk:tk kp ls=ls):f (m,pc,ls,.int x::st,S)=if x=0 then f (m,t,ls,st,S) else f (m,pn,ls,st,S):=by
 rw[hf];simp only[run,plan,h,hk,pl1,Int.ofNat_eq_natCast,Int.toNat_natCast];exact cnd_map f _ _ _ _ _
theorem iceq(hf:∀c,f c=run (plan code rt mop cop) f c){t:Nat}{x y:Int32}(h:code m pc=some (.if_icmp .eq (Int.ofNat t),pn,kp))(hk:tk kp ls=ls):f (m,pc,ls,.int y :: .int x::st,S)=if x=y then f (m,t,ls,st,S) else f (m,pn,ls,st,S):=by
 rw[hf];simp only[run,plan,h,hk,pl2,Int.ofNat_eq_natCast,Int.toNat_natCast];exact cnd_map f _ _ _ _ _
theorem ifne(hf:∀c,f c=run (plan code rt mop cop) f c){t:Nat}{x:Int32}(h:code m pc=some (.ifCond .ne (Int.ofNat t),pn,kp))(hk:tk kp ls=ls):f (m,pc,ls,.int x::st,S)=if x=0 then f (m,pn,ls,st,S) else f (m,t,ls,st,S):=by
 rw[hf];simp only[run,plan,h,hk,pl1,Int.ofNat_eq_natCast,Int.toNat_natCast];exact cnd_map f _ _ _ _ _
theorem icne(hf:∀c,f c=run (plan code rt mop cop) f c){t:Nat}{x y:Int32}(h:code m pc=some (.if_icmp .ne (Int.ofNat t),pn,kp))(hk:tk kp ls=ls):f (m,pc,ls,.int y :: .int x::st,S)=if x=y then f (m,pn,ls,st,S) else f (m,t,ls,st,S):=by
 rw[hf];simp only[run,plan,h,hk,pl2,Int.ofNat_eq_natCast,Int.toNat_natCast];exact cnd_map f _ _ _ _ _
theorem iflt(hf:∀c,f c=run (plan code rt mop cop) f c){t:Nat}{x:Int32}(h:code m pc=some (.ifCond .lt (Int.ofNat t),pn,kp))(hk:tk kp ls=ls):f (m,pc,ls,.int x::st,S)=if x<0 then f (m,t,ls,st,S) else f (m,pn,ls,st,S):=by
 rw[hf];simp only[run,plan,h,hk,pl1,Int.ofNat_eq_natCast,Int.toNat_natCast];exact cnd_map f _ _ _ _ _
theorem iclt(hf:∀c,f c=run (plan code rt mop cop) f c){t:Nat}{x y:Int32}(h:code m pc=some (.if_icmp .lt (Int.ofNat t),pn,kp))(hk:tk kp ls=ls):f (m,pc,ls,.int y :: .int x::st,S)=if x<y then f (m,t,ls,st,S) else f (m,pn,ls,st,S):=by
 rw[hf];simp only[run,plan,h,hk,pl2,Int.ofNat_eq_natCast,Int.toNat_natCast];exact cnd_map f _ _ _ _ _
theorem ifge(hf:∀c,f c=run (plan code rt mop cop) f c){t:Nat}{x:Int32}(h:code m pc=some (.ifCond .ge (Int.ofNat t),pn,kp))(hk:tk kp ls=ls):f (m,pc,ls,.int x::st,S)=if x<0 then f (m,pn,ls,st,S) else f (m,t,ls,st,S):=by
 rw[hf];simp only[run,plan,h,hk,pl1,Int.ofNat_eq_natCast,Int.toNat_natCast];exact cnd_map f _ _ _ _ _
theorem icge(hf:∀c,f c=run (plan code rt mop cop) f c){t:Nat}{x y:Int32}(h:code m pc=some (.if_icmp .ge (Int.ofNat t),pn,kp))(hk:tk kp ls=ls):f (m,pc,ls,.int y :: .int x::st,S)=if x<y then f (m,pn,ls,st,S) else f (m,t,ls,st,S):=by
 rw[hf];simp only[run,plan,h,hk,pl2,Int.ofNat_eq_natCast,Int.toNat_natCast];exact cnd_map f _ _ _ _ _
theorem ifgt(hf:∀c,f c=run (plan code rt mop cop) f c){t:Nat}{x:Int32}(h:code m pc=some (.ifCond .gt (Int.ofNat t),pn,kp))(hk:tk kp ls=ls):f (m,pc,ls,.int x::st,S)=if 0<x then f (m,t,ls,st,S) else f (m,pn,ls,st,S):=by
 rw[hf];simp only[run,plan,h,hk,pl1,Int.ofNat_eq_natCast,Int.toNat_natCast];exact cnd_map f _ _ _ _ _
theorem icgt(hf:∀c,f c=run (plan code rt mop cop) f c){t:Nat}{x y:Int32}(h:code m pc=some (.if_icmp .gt (Int.ofNat t),pn,kp))(hk:tk kp ls=ls):f (m,pc,ls,.int y :: .int x::st,S)=if y<x then f (m,t,ls,st,S) else f (m,pn,ls,st,S):=by
 rw[hf];simp only[run,plan,h,hk,pl2,Int.ofNat_eq_natCast,Int.toNat_natCast];exact cnd_map f _ _ _ _ _
theorem ifle(hf:∀c,f c=run (plan code rt mop cop) f c){t:Nat}{x:Int32}(h:code m pc=some (.ifCond .le (Int.ofNat t),pn,kp))(hk:tk kp ls=ls):f (m,pc,ls,.int x::st,S)=if 0<x then f (m,pn,ls,st,S) else f (m,t,ls,st,S):=by
 rw[hf];simp only[run,plan,h,hk,pl1,Int.ofNat_eq_natCast,Int.toNat_natCast];exact cnd_map f _ _ _ _ _
theorem icle(hf:∀c,f c=run (plan code rt mop cop) f c){t:Nat}{x y:Int32}(h:code m pc=some (.if_icmp .le (Int.ofNat t),pn,kp))(hk:tk kp ls=ls):f (m,pc,ls,.int y :: .int x::st,S)=if y<x then f (m,pn,ls,st,S) else f (m,t,ls,st,S):=by
 rw[hf];simp only[run,plan,h,hk,pl2,Int.ofNat_eq_natCast,Int.toNat_natCast];exact cnd_map f _ _ _ _ _
theorem retn(hf:∀c,f c=run (plan code rt mop cop) f c)(h:code m pc=some (.return_,pn,kp))(hr:rt m=none):f (m,pc,ls,[],S)=some (none,S):=by
 rw[hf];simp only[run,plan,h,rest,retV,hr]
theorem reti(hf:∀c,f c=run (plan code rt mop cop) f c){v:Int32}(h:code m pc=some (.ireturn,pn,kp))(hr:rt m=some .int):f (m,pc,ls,[.int v],S)=some (some (.int v),S):=by
 rw[hf];simp only[run,plan,h,rest,retV,hr]
theorem retb(hf:∀c,f c=run (plan code rt mop cop) f c){v:Int32}(h:code m pc=some (.ireturn,pn,kp))(hr:rt m=some .boolean):f (m,pc,ls,[.int v],S)=some (some (.int (v&&&1)),S):=by
 rw[hf];simp only[run,plan,h,rest,retV,hr]
end F
abbrev MS:=Nat->Nat->Int32
abbrev FT1:=Cfg MS->Option (Res MS)
abbrev FT2:=Cfg (Bool×List MS)->Option (Res (Bool×List MS))
def upd(S:MS)(c i:Nat)(v:Int32):MS:=fun c' i'=>if c'=c/\i'=i then v else S c' i'
abbrev gS:MS->Nat->Nat->Int32:=fun S c i=>S c i
theorem upd_law(S:MS)(c i:Nat)(v:Int32)(c' i':Nat):gS (upd S c i v) c' i'=if c'=c/\i'=i then v else gS S c' i':=rfl
namespace F
variable {code:Codes} {rt:Nat->Option FieldType} {arrs:List (FieldType×Nat)} {na ml wm:Nat->Nat} {f:Cfg MS->Option (Res MS)} {m pc pn:Nat} {kp:Option Nat} {ls st:List Value} {S:MS}
theorem iaload(hf:∀c,f c=run (plan code rt (mop1 arrs gS upd) (cop1 na ml wm)) f c){j n:Nat}{ty:FieldType}{i:Int32}(h:code m pc=some (.iaload,pn,kp))(hk:tk kp ls=ls)(ha:arrs[j]? = some (ty,n))(ht:isI ty=true){w:Int32}(hw:S (j+1) i.toNatClampNeg=w):f (m,pc,ls,.int i :: .ref (j+1)::st,S)=if inb i n=true then f (m,pn,ls,.int w::st,S) else none:=by
 subst hw;rw[hf];simp only[run,plan,h,hk,rest,retV,loc,alu,mop1,gf,pf,al,sa,la,Option.map_none,ha,ht,true_and];by_cases q:inb i n=true
 ·simp only[q,if_true]
 ·simp only[q,if_false,cop1,Bool.false_eq_true]
theorem ialoadT(hf:∀c,f c=run (plan code rt (mop1 arrs gS upd) (cop1 na ml wm)) f c){j n:Nat}{ty:FieldType}{i:Int32}(h:code m pc=some (.iaload,pn,kp))(hk:tk kp ls=ls)(ha:arrs[j]? = some (ty,n))(ht:isI ty=true)(hi:inb i n=true){z:Nat}(hz:i.toNatClampNeg=z){w:Int32}(hw:S (j+1) z=w):f (m,pc,ls,.int i :: .ref (j+1)::st,S)=f (m,pn,ls,.int w::st,S):=by
 subst hz;rw[iaload hf h hk ha ht hw,if_pos hi]
theorem baload(hf:∀c,f c=run (plan code rt (mop1 arrs gS upd) (cop1 na ml wm)) f c){j n:Nat}{ty:FieldType}{i:Int32}(h:code m pc=some (.baload,pn,kp))(hk:tk kp ls=ls)(ha:arrs[j]? = some (ty,n))(ht:isB ty=true){w:Int32}(hw:S (j+1) i.toNatClampNeg=w):f (m,pc,ls,.int i :: .ref (j+1)::st,S)=if inb i n=true then f (m,pn,ls,.int w::st,S) else none:=by
 subst hw;rw[hf];simp only[run,plan,h,hk,rest,retV,loc,alu,mop1,gf,pf,al,sa,la,Option.map_none,ha,ht,true_and];by_cases q:inb i n=true
 ·simp only[q,if_true]
 ·simp only[q,if_false,cop1,Bool.false_eq_true]
theorem baloadT(hf:∀c,f c=run (plan code rt (mop1 arrs gS upd) (cop1 na ml wm)) f c){j n:Nat}{ty:FieldType}{i:Int32}(h:code m pc=some (.baload,pn,kp))(hk:tk kp ls=ls)(ha:arrs[j]? = some (ty,n))(ht:isB ty=true)(hi:inb i n=true){z:Nat}(hz:i.toNatClampNeg=z){w:Int32}(hw:S (j+1) z=w):f (m,pc,ls,.int i :: .ref (j+1)::st,S)=f (m,pn,ls,.int w::st,S):=by
 subst hz;rw[baload hf h hk ha ht hw,if_pos hi]
theorem iastore(hf:∀c,f c=run (plan code rt (mop1 arrs gS upd) (cop1 na ml wm)) f c){j n:Nat}{ty:FieldType}{i v:Int32}(h:code m pc=some (.iastore,pn,kp))(hk:tk kp ls=ls)(ha:arrs[j]? = some (ty,n))(ht:isI ty=true){v':Int32}(hv:nar ty v=v'):f (m,pc,ls,.int v :: .int i :: .ref (j+1)::st,S)=if inb i n=true then f (m,pn,ls,st,upd S (j+1) i.toNatClampNeg v') else none:=by
 rw[hf];simp only[run,plan,h,hk,rest,retV,loc,alu,mop1,gf,pf,al,sa,la,Option.map_none,ha,ht,true_and,hv];by_cases q:inb i n=true
 ·simp only[q,if_true]
 ·simp only[q,if_false,cop1,Bool.false_eq_true]
theorem iastoreT(hf:∀c,f c=run (plan code rt (mop1 arrs gS upd) (cop1 na ml wm)) f c){j n:Nat}{ty:FieldType}{i v:Int32}(h:code m pc=some (.iastore,pn,kp))(hk:tk kp ls=ls)(ha:arrs[j]? = some (ty,n))(ht:isI ty=true){v':Int32}(hv:nar ty v=v')(hi:inb i n=true){z:Nat}(hz:i.toNatClampNeg=z):f (m,pc,ls,.int v :: .int i :: .ref (j+1)::st,S)=f (m,pn,ls,st,upd S (j+1) z v'):=by
 rw[iastore hf h hk ha ht hv,if_pos hi,hz]
theorem bastore(hf:∀c,f c=run (plan code rt (mop1 arrs gS upd) (cop1 na ml wm)) f c){j n:Nat}{ty:FieldType}{i v:Int32}(h:code m pc=some (.bastore,pn,kp))(hk:tk kp ls=ls)(ha:arrs[j]? = some (ty,n))(ht:isB ty=true){v':Int32}(hv:nar ty v=v'):f (m,pc,ls,.int v :: .int i :: .ref (j+1)::st,S)=if inb i n=true then f (m,pn,ls,st,upd S (j+1) i.toNatClampNeg v') else none:=by
 rw[hf];simp only[run,plan,h,hk,rest,retV,loc,alu,mop1,gf,pf,al,sa,la,Option.map_none,ha,ht,true_and,hv];by_cases q:inb i n=true
 ·simp only[q,if_true]
 ·simp only[q,if_false,cop1,Bool.false_eq_true]
theorem bastoreT(hf:∀c,f c=run (plan code rt (mop1 arrs gS upd) (cop1 na ml wm)) f c){j n:Nat}{ty:FieldType}{i v:Int32}(h:code m pc=some (.bastore,pn,kp))(hk:tk kp ls=ls)(ha:arrs[j]? = some (ty,n))(ht:isB ty=true){v':Int32}(hv:nar ty v=v')(hi:inb i n=true){z:Nat}(hz:i.toNatClampNeg=z):f (m,pc,ls,.int v :: .int i :: .ref (j+1)::st,S)=f (m,pn,ls,st,upd S (j+1) z v'):=by
 rw[bastore hf h hk ha ht hv,if_pos hi,hz]
theorem call(hf:∀c,f c=run (plan code rt (mop1 arrs gS upd) (cop1 na ml wm)) f c){k:Nat}{as r as':List Value}(h:code m pc=some (.invokevirtual k,pn,kp))(hk:tk kp ls=ls)(ht:takeA (na k) [] st=some (as,.ref 0::r))(hc:okn as=true/\cats r<=wm m/\(entL (.ref 0::as)).length<=ml k)(he:entL (.ref 0::as)=as'):f (m,pc,ls,st,S)=(f (k,0,as',[],S)).bind fun q=>f (m,pn,ls,q.1.toList++r,q.2):=by
 rw[hf];simp only[run,plan,h,hk,rest,retV,loc,alu,mop1,gf,pf,al,sa,la,Option.map_none,cop1,ht,he];rw[<-he,if_pos hc]
end F
namespace F
variable {σ:Type} {code:Codes} {rt:Nat->Option FieldType} {f1:Cfg σ->Option (Res σ)} {Z0:σ} {pe nmax:Nat} {na1 ml1 wm na ml:Nat->Nat} {sc:Option (List Int32)} {f:Cfg (W2 σ)->Option (Res (W2 σ))} {m pc pn:Nat} {kp:Option Nat} {ls st:List Value} {ob:List σ} {b:Bool}
theorem new(hf:∀c,f c=run (plan code rt (mop2 f1 Z0 pe nmax na1 ml1 wm sc) (cop2 na ml wm)) f c){q r:Nat}(h:code 0 pc=some (.new q,pn,kp))(hk:tk kp ls=ls)(hl:ob.length<nmax)(hr:ob.length+1=r):f (0,pc,ls,st,(false,ob))=f (0,pn,ls,.ref r::st,(true,ob)):=by
 rw[hf];simp only[run,plan,h,hk,rest,retV,loc,alu,Option.map_none,mop2,nw,hl,true_and,if_true,hr]
theorem ctor(hf:∀c,f c=run (plan code rt (mop2 f1 Z0 pe nmax na1 ml1 wm sc) (cop2 na ml wm)) f c){q r:Nat}{as as' rs:List Value}(h:code 0 pc=some (.invokespecial q,pn,kp))(hk:tk kp ls=ls)(ht:takeA (na1 0) [] st=some (as,.ref r::rs))(hr:r=ob.length+1)(hc:okn as=true/\cats rs<=wm 0/\(entL (.ref 0::as)).length<=ml1 0)(he:entL (.ref 0::as)=as') :
  f (0,pc,ls,st,(true,ob))=(f1 (0,pe,as',[],Z0)).bind fun q=>f (0,pn,ls,rs,(false,ob++[q.2])):=by
 rw[hf];subst he;simp only[run,plan,h,hk,rest,retV,loc,alu,Option.map_none,mop2,ct,ht];rw[if_pos ⟨⟨trivial,hr⟩,hc⟩];cases f1 (0,pe,entL (.ref 0::as),[],Z0) with
 |none=>simp only[Option.map_none,cop2,Option.bind_none]
 |some q=>simp only[Option.map_some,Option.bind_some]
theorem virt(hf:∀c,f c=run (plan code rt (mop2 f1 Z0 pe nmax na1 ml1 wm sc) (cop2 na ml wm)) f c){k o:Nat}{as as' rs:List Value}{S:σ}(h:code m pc=some (.invokevirtual k,pn,kp))(hk:tk kp ls=ls)(ht:takeA (na1 k) [] st=some (as,.ref (o+1)::rs))(hS:ob[o]? = some S)(hc:okn as=true/\cats rs<=wm m/\(entL (.ref 0::as)).length<=ml1 k)(he:entL (.ref 0::as)=as') :
  f (m,pc,ls,st,(false,ob))=(f1 (k,0,as',[],S)).bind fun q=>f (m,pn,ls,q.1.toList++rs,(false,ob.set o q.2)):=by
 rw[hf];subst he;simp only[run,plan,h,hk,rest,retV,loc,alu,Option.map_none,mop2,vt,ht,hS];rw[if_pos hc];cases f1 (k,0,entL (.ref 0::as),[],S) with
 |none=>simp only[Option.map_none,cop2,Option.bind_none]
 |some q=>simp only[Option.map_some,Option.bind_some]
theorem sload(hf:∀c,f c=run (plan code rt (mop2 f1 Z0 pe nmax na1 ml1 wm sc) (cop2 na ml wm)) f c){i:Int32}{xs:List Int32}(hx:sc=some xs)(h:code m pc=some (.iaload,pn,kp))(hk:tk kp ls=ls){w:W2 σ}:f (m,pc,ls,.int i :: .ref 0::st,w)=if inb i xs.length=true then f (m,pn,ls,.int (xs.getD i.toNatClampNeg 0)::st,w) else none:=by
 rw[hf];subst hx;simp only[run,plan,h,hk,rest,retV,loc,alu,Option.map_none,mop2,sl];by_cases q:inb i xs.length=true
 ·simp only[q,if_true]
 ·simp only[q,if_false,cop2,Bool.false_eq_true]
theorem stat(hf:∀c,f c=run (plan code rt (mop2 f1 Z0 pe nmax na1 ml1 wm sc) (cop2 na ml wm)) f c){k:Nat}{as as' rs:List Value}{w:W2 σ}(h:code m pc=some (.invokestatic k,pn,kp))(hk:tk kp ls=ls)(ht:takeA (na k) [] st=some (as,rs))(hc:k≠0/\okv as=true/\cats rs<=wm m/\(entL as).length<=ml k)(he:entL as=as') :
  f (m,pc,ls,st,w)=(f (k,0,as',[],w)).bind fun q=>f (m,pn,ls,q.1.toList++rs,q.2):=by
 rw[hf];subst he;simp only[run,plan,h,hk,rest,retV,loc,alu,Option.map_none,mop2,cop2,ht];rw[if_pos hc]
end F
section Top
variable {σ:Type} {C:String} {gds:List (String×String)} {fds:List (String×String×Nat)} {arrs:List (FieldType×Nat)} {Z:State} {G:σ->Nat->Nat->Int32} {fs nmax:Nat} {sc:Option (List Int32)} {mi2:MI} {rt2:Nat->Option FieldType} {l:Launch} {own:String}
set_option maxHeartbeats 1000000 in
theorem top{code2:Codes}{mop:Mop (W2 σ)}{cop:Cop}{n:Nat}(hW:Walks code2 rt2 mop cop mi2 own Z l (rho2 (arrs.length+1)) (J2 C gds fds arrs Z G fs nmax sc) n)(hpn:plainName own=true)(hcls:(mi2 0).1.cls=own){as:List Value}(hok:okv as=true)(hlen:(entL as).length<=(mi2 0).2.2.1)
  {r:Res (W2 σ)} (hit:iter (plan code2 rt2 mop cop) n (0,0,entL as,[],(false,[]))=some r) {rm:Room} (hfr:(mi2 0).2.2.2.1<=rm.frames) (hlw:(mi2 0).2.2.2.2<=rm.locals) (hRc:nmax*(arrs.length+1)<=rm.cells) (hRs:nmax*(fs+slotSum arrs arrs.length)<=rm.slots) {h:Heap} {sa:Nat}
  (hsc:∀xs,sc=some xs->sa<h.size/\xs.length<2147483648/\∃cell,Arr Z h sa cell .int/\cell.slots.size=xs.length/\∀i,i<xs.length->cell.slots[i]? = some (.int (xs.getD i 0))) (ws:List Jvm.Cond) :
  MetFree l (mi2 0).1 (head1 (Cond.code (mi2 0).1 (mi2 0).2.1 (mi2 0).2.2.1 (rt2 0)::ws) rm)
   (fun A U=>A=(as.map (cv (rho2 (arrs.length+1) (sa,h.size,0,0)))).toArray/\Z.Warmed39 U.vm/\U.heap=h) (fun _ _ _ _ _=>True)
   (fun _ U o U'=>∃v L,o = .returned v/\(v=r.1/\Fr h.size L)/\FrameEnd U o U' L rm.cells rm.slots):=by
 refine MetFree.of_bodySF (plainFor_of_name (by rw[hcls];exact hpn)) hisR ?_;intro p e s m args below meth c s₁ Bd hml0 hP hK;obtain⟨rfl,hZ,hh⟩:=hP;have hown:s.vm.findClass own=some m.cls:=by rw[<-hcls];exact findClass_of_methodNamed Bd.named
 have hnm:=(name_of_methodNamed Bd.named Bd.method).1;have X0:=Stand.of_body Bd;have e0:s₁.heap=h:=by rw[<-hh,Bd.state];rfl
 obtain⟨L,q1,q2,q3,q4⟩:=entry_rel (rho2 (arrs.length+1) (sa,h.size,0,0)) (vs:=as) hok hlen;obtain⟨T',L',k',n',X',⟨-,⟨j3,j4⟩,-,-,-,-,jN⟩,⟨ok1,ok2⟩,st⟩:=hW (sa,h.size,0,0) p e _ s m _ below meth c 0 0 _ [] (false,[]) r hit s₁ [] 0 0 L X0 ⟨Bd.exec,hZ,hown,Bd.bytes,hml0,Bd.returns,hnm,hfr,hlw⟩
  ⟨⟨by simp[cnt],by simp[scn]⟩,⟨Nat.zero_le _,Nat.zero_le _⟩,fun _=>⟨rfl,rfl,hRc,hRs⟩,fun q=>absurd rfl q,by rw[hh];rfl,by rw[e0];exact⟨fun o S q=>by simp at q,fun q=>(by cases q),by simp[cnt],hsc⟩,Fr.nil _⟩ q2 q3 (by rw[q4,hml0])
 obtain⟨fs',hr,hrun,hended,hWm,hsame⟩:=X'.leave (v:=r.1) ok1;refine⟨_,_,?_,hrun,hended,_,_,rfl,⟨rfl,jN⟩,⟨_,rfl⟩,hWm,hsame.mono j3 j4⟩;have:=st fs' hr;rw[q1 m];exact this
end Top
def laidW(fin:Bool)(C n d:String):Jvm.Cond:=if fin=true then .laysFinal C C n d else .lays C C n d
abbrev Ent:=Nat×Instr×Nat×Option Nat
abbrev Mth:=MethodName×ByteArray×Nat×Nat×Nat×Option FieldType×Nat×Nat×Bool×List Ent
def m0:Mth:=(⟨"","",""⟩,⟨#[]⟩,0,0,0,none,0,0,false,[])
def miOf(ms:List Mth)(k:Nat):MethodName×ByteArray×Nat×Nat×Nat:=let q:=ms.getD k m0;(q.1,q.2.1,q.2.2.1,q.2.2.2.1,q.2.2.2.2.1)
def rtOf(ms:List Mth)(k:Nat):Option FieldType:=(ms.getD k m0).2.2.2.2.2.1
def naOf(ms:List Mth)(k:Nat):Nat:=(ms.getD k m0).2.2.2.2.2.2.1
def wmOf(ms:List Mth)(k:Nat):Nat:=(ms.getD k m0).2.2.2.2.2.2.2.1
def clOf(ms:List Mth)(k:Nat):List Ent:=(ms.getD k m0).2.2.2.2.2.2.2.2.2
def cdOf(ms:List Mth):Codes:=fun m pc=>lk pc (clOf ms m)
def goodB(Tb:Tabs)(ms:List Mth):Bool:=ms.all fun q=>q.2.2.2.2.2.2.2.2.2.all (chkE Tb q.2.1 q.2.2.1)
theorem good_of{Tb:Tabs}{ms:List Mth}(h:goodB Tb ms=true):Good Tb (miOf ms) (cdOf ms):=by
 intro mm pc q hq;have hq':=lk_mem hq;unfold clOf at hq';by_cases hm:mm<ms.length
 ·have e:ms.getD mm m0=ms[mm]:=by simp[List.getD,hm]
  have h1:=List.all_eq_true.mp h ms[mm] (List.getElem_mem hm);have h2:=List.all_eq_true.mp h1 (pc,q) (by rw[e] at hq';exact hq');show chkE Tb (ms.getD mm m0).2.1 (ms.getD mm m0).2.2.1 (pc,q)=true;rw[e];exact h2
 ·have e:ms.getD mm m0=m0:=by simp[List.getD,hm]
  rw[e] at hq';cases hq'
def roomB(ms callees:List Mth)(isCall:Instr->Option Nat):Bool:=ms.all fun q=>q.2.2.2.2.2.2.2.2.2.all fun en=>match isCall en.2.1 with
 |some k=>decide ((callees.getD k m0).2.2.2.1+1<=q.2.2.2.1)&&decide (q.2.2.2.2.2.2.2.1+((callees.getD k m0).2.2.1+11)+(callees.getD k m0).2.2.2.2.1<=q.2.2.2.2.1)
 |none=>true
theorem room_of{ms callees:List Mth}{isCall:Instr->Option Nat}(h:roomB ms callees isCall=true){mm pc k:Nat}{i:Instr}{pn:Nat}{kp:Option Nat}(hc:cdOf ms mm pc=some (i,pn,kp))(hi:isCall i=some k) :
  (miOf callees k).2.2.2.1+1<=(miOf ms mm).2.2.2.1/\wmOf ms mm+((miOf callees k).2.2.1+11)+(miOf callees k).2.2.2.2<=(miOf ms mm).2.2.2.2:=by
 have hq':=lk_mem hc;unfold clOf at hq';by_cases hm:mm<ms.length
 ·have e:ms.getD mm m0=ms[mm]:=by simp[List.getD,hm]
  have h1:=List.all_eq_true.mp h ms[mm] (List.getElem_mem hm);have h2:=List.all_eq_true.mp h1 (pc,i,pn,kp) (by rw[e] at hq';exact hq');simp only[hi,Bool.and_eq_true,decide_eq_true_eq] at h2;simp only[miOf,wmOf,e];exact h2
 ·have e:ms.getD mm m0=m0:=by simp[List.getD,hm]
  rw[e] at hq';cases hq'
def callVk:Instr->Option Nat
 | .invokevirtual k=>some k
 |_=>none
def callSk:Instr->Option Nat
 | .invokestatic k=>some k
 |_=>none
abbrev Cls:=String×Nat×List (String×String)×List (String×String×Nat)×List (FieldType×Nat)×Bool×List Item×Nat×Nat×List (Nat×Int)×Tabs×List Mth
def mthW(C:String)(q:Mth):List Jvm.Cond:=if q.1.cls = "" then [] else [.instanceMethod q.1,.code q.1 q.2.1 q.2.2.1 q.2.2.2.2.2.1]++(if q.2.2.2.2.2.2.2.2.1=true then [.privateMethod q.1] else [.declares q.1,.selects C q.1 q.1])
def needs1(D:Cls):List Jvm.Cond:=match D with
 |(C,fs,gds,fds,_,fa,items,_,oi,_,Tb,ms)=>
  [.instantiable C fs,.initialized C,.methodLink C oi Lib.objectInit,.instanceMethod Lib.objectInit,.code Lib.objectInit ⟨#[0xb1]⟩ 1 none,.instanceMethod (ms.getD 0 m0).1,.code (ms.getD 0 m0).1 (ms.getD 0 m0).2.1 (ms.getD 0 m0).2.2.1 none] ++
  fds.map (fun q=>if q.2.2%3=2 then laidW fa C q.1 q.2.1 else .lays C C q.1 q.2.1)++gds.map (fun q=>laidW true C q.1 q.2)++Tb.1.map (fun q => .fieldLink C q.1 C q.2.1 q.2.2.1)++items.map (fun q => .fieldLink C q.2.1 C q.2.2.1 q.2.2.2) ++
  items.filterMap (fun q=>q.1.map fun t => .arrayClass (newarray.typeOf t))++Tb.2.1.map (fun q => .methodLink C q.1 (ms.getD q.2 m0).1)++(ms.drop 1).flatMap (mthW C)++Tb.2.2.2.1.map (fun q => .constant C q.1 q.2)++Tb.2.2.2.2.1.map (fun q => .constantLong C q.1 q.2)
def descB(q:Mth):Bool:=match parseMethodDescriptor q.1.desc with
 |some ⟨ps,r⟩=>decide (r=q.2.2.2.2.2.1)&&decide (ps.length=q.2.2.2.2.2.2.1)
 |none=>false
def isArrD(d:String):Bool:=match parseFieldDescriptor d with
 |some (.array _)=>true
 |_=>false
def data1(D:Cls):Bool:=match D with
 |(C,fs,gds,fds,arrs,fa,items,pe,oi,iv,Tb,ms)=>
  decide ((gds.map (·.1)++fds.map (·.1)).Nodup)&&decide ((fds.map fun q=>q.2.2).Nodup)&&decide (((fds.filter fun q=>decide (q.2.2%3≠2)).map fun q=>q.2.2/3).Nodup) &&
  fds.all (fun q=>decide (q.2.2%3=0->q.2.1 = "I")&&decide (q.2.2%3=1->q.2.1 = "Z")&&decide (q.2.2%3=2->(isArrD q.2.1=true/\q.2.2/3<arrs.length)))&&gds.all (fun q=>decide (q.2 = "I"))&&Tb.1.all (fun q=>decide ((q.2.1,q.2.2.1,q.2.2.2)∈fds)) &&
  arrs.all (fun q=>decide (q.1 = .int\/q.1 = .boolean\/q.1 = .byte))&&items.all (fun q=>match q.1 with
   |none=>decide ((q.2.2.1,q.2.2.2)∈gds)||fds.any fun w=>decide (w.1=q.2.2.1)&&decide (w.2.1=q.2.2.2)&&decide (w.2.2%3=0)
   |some _=>fds.any fun w=>decide (w.1=q.2.2.1)&&decide (w.2.1=q.2.2.2)&&decide (w.2.2%3=2)) &&
  Tb.2.1.all (fun q=>decide (1<=q.2)&&decide (q.2<ms.length)&&decide ((ms.getD q.2 m0).1.cls=C))&&ms.all (fun q=>decide (q.1.cls = "")||descB q)&&decide (C ≠ "")&&decide ((ms.getD 0 m0).1.cls=C)&&decide (C ≠ "java/lang/invoke/MethodHandle")&&decide (C ≠ "java/lang/invoke/VarHandle")&&plainName C &&
  decide ((ms.getD 0 m0).1.name = "<init>")&&decide ((ms.getD 0 m0).2.2.2.2.2.1=none)&&decide (0<ms.length)&&decide (1<=(ms.getD 0 m0).2.2.2.1)&&decide (12<=(ms.getD 0 m0).2.2.2.2.1) &&
  proChk (ms.getD 0 m0).2.1 Tb (ms.getD 0 m0).2.2.1 gds fds arrs pe items 4 0 iv&&(match decode (ms.getD 0 m0).2.1 0,decode (ms.getD 0 m0).2.1 1 with
   | .ok (.aload_n 0,1),.ok (.invokespecial oi',3)=>decide (oi'=oi)
   |_,_=>false)
theorem nodup_inj{α β:Type}{f:α->β}:∀ {l:List α},(l.map f).Nodup->∀ {a b:α},a∈l->b∈l->f a=f b->a=b
 |[],_,a,b,ha,_,_=>by cases ha
 |x::l,h,a,b,ha,hb,e=>by
  rw[List.map_cons,List.nodup_cons] at h;rcases List.mem_cons.mp ha with rfl | ha'<;>rcases List.mem_cons.mp hb with rfl | hb'
  ·rfl
  ·exact absurd (e▸List.mem_map_of_mem hb') h.1
  ·exact absurd (e.symm▸List.mem_map_of_mem ha') h.1
  ·exact nodup_inj h.2 ha' hb' e
theorem laid_of{Z:State}{a0:Array Value}{fin:Bool}{C n d:String}(h:(laidW fin C n d).before a0 Z=true):Laid Z a0 C C n d:=by
 unfold laidW at h
 split at h
 ·exact Or.inr h
 ·exact Or.inl h
set_option maxHeartbeats 1000000 in
theorem base_of{C:String}{fs:Nat}{gds:List (String×String)}{fds:List (String×String×Nat)}{arrs:List (FieldType×Nat)}{fa:Bool}{items:List Item}{pe oi:Nat}{iv:List (Nat×Int)}{Tb:Tabs}{ms:List Mth}{Z:State}{a0:Array Value}
  (hD:data1 (C,fs,gds,fds,arrs,fa,items,pe,oi,iv,Tb,ms)=true) (hw:∀w∈needs1 (C,fs,gds,fds,arrs,fa,items,pe,oi,iv,Tb,ms),w.before a0 Z=true) :
  Base C gds fds arrs items Z a0 fs Tb (miOf ms) (rtOf ms) (naOf ms) pe oi iv/\∀own k idx Tb',(∀idx',(idx',k)∈Tb'.2.1->(Cond.methodLink own idx' (miOf ms k).1).before a0 Z=true)->(idx,k)∈Tb'.2.1->(ms.getD k m0).1.cls=C->k≠0->MthOK C Tb' Z a0 (miOf ms) (rtOf ms) own k (naOf ms):=by
 simp only[data1,Bool.and_eq_true,decide_eq_true_eq] at hD;obtain⟨⟨⟨⟨⟨⟨⟨⟨⟨⟨⟨⟨⟨⟨⟨⟨⟨⟨⟨⟨⟨h1,h2⟩,h3⟩,h4⟩,h5⟩,h6⟩,h7⟩,h8⟩,h9⟩,h10⟩,h10a⟩,h10b⟩,h11⟩,h12⟩,h13⟩,h14⟩,h15⟩,h16⟩,h17⟩,h18⟩,h19⟩,h20⟩:=hD;simp only[List.all_eq_true,Bool.and_eq_true,decide_eq_true_eq] at h4 h5 h6 h7 h9;have h1g:(gds.map (·.1)).Nodup:=(List.nodup_append.mp h1).1;have h1f:(fds.map (·.1)).Nodup:=(List.nodup_append.mp h1).2.1;have h1d:∀n∈gds.map (·.1),∀n'∈fds.map (·.1),n≠n':=(List.nodup_append.mp h1).2.2;have w0:(Cond.instantiable C fs).before a0 Z=true:=hw _ (by simp[needs1]);have w1:(Cond.initialized C).before a0 Z=true:=hw _ (by simp[needs1])
 have w2:(Cond.methodLink C oi Lib.objectInit).before a0 Z=true:=hw _ (by simp[needs1]);have w3:(Cond.instanceMethod Lib.objectInit).before a0 Z=true:=hw _ (by simp[needs1]);have w4:(Cond.code Lib.objectInit ⟨#[0xb1]⟩ 1 none).before a0 Z=true:=hw _ (by simp[needs1]);have wf:∀q∈fds,(if q.2.2%3=2 then laidW fa C q.1 q.2.1 else Jvm.Cond.lays C C q.1 q.2.1).before a0 Z=true:=fun q hq=>hw _ (by
  simp only[needs1,List.mem_append];exact Or.inl (Or.inl (Or.inl (Or.inl (Or.inl (Or.inl (Or.inl (Or.inl (Or.inr (List.mem_map.mpr ⟨q,hq,rfl⟩))))))))))
 have wg:∀q∈gds,(laidW true C q.1 q.2).before a0 Z=true:=fun q hq=>hw _ (by
  simp only[needs1,List.mem_append];exact Or.inl (Or.inl (Or.inl (Or.inl (Or.inl (Or.inl (Or.inl (Or.inr (List.mem_map.mpr ⟨q,hq,rfl⟩)))))))))
 have wl:∀q∈Tb.1,(Jvm.Cond.fieldLink C q.1 C q.2.1 q.2.2.1).before a0 Z=true:=fun q hq=>hw _ (by
  simp only[needs1,List.mem_append];exact Or.inl (Or.inl (Or.inl (Or.inl (Or.inl (Or.inl (Or.inr (List.mem_map.mpr ⟨q,hq,rfl⟩))))))))
 have wi:∀q∈items,(Jvm.Cond.fieldLink C q.2.1 C q.2.2.1 q.2.2.2).before a0 Z=true:=fun q hq=>hw _ (by
  simp only[needs1,List.mem_append];exact Or.inl (Or.inl (Or.inl (Or.inl (Or.inl (Or.inr (List.mem_map.mpr ⟨q,hq,rfl⟩)))))))
 have wa:∀q∈items,∀t,q.1=some t->(Jvm.Cond.arrayClass (newarray.typeOf t)).before a0 Z=true:=fun q hq t ht=>hw _ (by
  simp only[needs1,List.mem_append];exact Or.inl (Or.inl (Or.inl (Or.inl (Or.inr (List.mem_filterMap.mpr ⟨q,hq,by rw[ht];rfl⟩))))))
 have wm:∀q∈ms.drop 1,∀w∈mthW C q,w.before a0 Z=true:=fun q hq w hw'=>hw _ (by
  simp only[needs1,List.mem_append];exact Or.inl (Or.inl (Or.inr (List.mem_flatMap.mpr ⟨q,hq,hw'⟩))))
 have wc:∀q∈Tb.2.2.2.1,(Jvm.Cond.constant C q.1 q.2).before a0 Z=true:=fun q hq=>hw _ (by
  simp only[needs1,List.mem_append];exact Or.inl (Or.inr (List.mem_map.mpr ⟨q,hq,rfl⟩)))
 have wcl:∀q∈Tb.2.2.2.2.1,(Jvm.Cond.constantLong C q.1 q.2).before a0 Z=true:=fun q hq=>hw _ (by
  simp only[needs1,List.mem_append];exact Or.inr (List.mem_map.mpr ⟨q,hq,rfl⟩))
 have lf:∀n d k,(n,d,k)∈fds->Laid Z a0 C C n d:=fun n d k hq=>by
  have:=wf _ hq;dsimp only at this
  split at this
  ·exact laid_of this
  ·exact Or.inl this
 have pf':∀n d k,(n,d,k)∈fds->∃t,parseFieldDescriptor d=some t:=fun n d k hq=>by
  obtain⟨⟨a,b⟩,c⟩:=h4 _ hq;dsimp only at a b c;have:k%3=0\/k%3=1\/k%3=2:=by omega
  rcases this with q | q | q
  ·rw[a q];exact⟨.int,by decide⟩
  ·rw[b q];exact⟨.boolean,by decide⟩
  ·have:=(c q).1;unfold isArrD at this
   split at this
   ·rename_i u hu;exact⟨_,hu⟩
   ·cases this
 have K:ClsOK C fds arrs Tb Z a0:=by
  refine⟨⟨fs,w0⟩,fun n d k hq=>⟨lf n d k hq,fun q=>?_,fun q=>(h4 _ hq).1.1 q,fun q=>(h4 _ hq).1.2 q,pf' n d k hq⟩,fun n d k n' d' k' hq hq' e=>?_,fun n d k n' d' k' hq hq' e q q'=>?_,fun idx n d k hq=>⟨wl _ hq,h6 _ hq⟩,fun j ty n hj=>h7 _ (List.mem_of_getElem? hj)⟩
  ·have:=wf _ hq;dsimp only at this;rw[if_neg q] at this;exact this
  ·have:=nodup_inj h1f hq hq' e;simp only[Prod.mk.injEq] at this;exact this.2
  ·intro e';have m1:(n,d,k)∈fds.filter fun q=>decide (q.2.2%3≠2):=List.mem_filter.mpr ⟨hq,by simpa using q⟩;have m2:(n',d',k')∈fds.filter fun q=>decide (q.2.2%3≠2):=List.mem_filter.mpr ⟨hq',by simpa using q'⟩;have:=nodup_inj h3 m1 m2 e';simp only[Prod.mk.injEq] at this;exact e this.1
 have M:MakOK C gds fds arrs items Z a0:=by
  refine⟨fun t idx n d hq=>⟨wi _ hq,?_,fun ht=>?_,fun ht=>?_,fun t' ht=>wa _ hq t' ht⟩,fun n d hq=>⟨laid_of (wg _ hq),?_,fun n' d' k' hq' e=>h1d n (List.mem_map_of_mem hq) n' (List.mem_map_of_mem hq') e⟩,fun n d n' d' q hq hq'=>?_,fun n d n' d' hq hq' e=>?_,fun j ty n hj=>?_⟩
  ·have:=List.all_eq_true.mp h8 _ hq;dsimp only at this
   split at this
   ·simp only[Bool.or_eq_true,decide_eq_true_eq,List.any_eq_true,Bool.and_eq_true] at this;rcases this with q | ⟨⟨n1,d1,k1⟩,m1,⟨e1,e2⟩,e3⟩
    ·exact laid_of (wg _ q)
    ·dsimp only at e1 e2;subst e1 e2;exact lf _ _ _ m1
   ·simp only[decide_eq_true_eq,List.any_eq_true,Bool.and_eq_true] at this;obtain⟨⟨n1,d1,k1⟩,m1,⟨e1,e2⟩,e3⟩:=this;dsimp only at e1 e2;subst e1 e2;exact lf _ _ _ m1
  ·have:=List.all_eq_true.mp h8 _ hq;dsimp only at this;subst ht;simp only[Bool.or_eq_true,decide_eq_true_eq,List.any_eq_true,Bool.and_eq_true] at this;rcases this with q | ⟨⟨n1,d1,k1⟩,m1,⟨e1,e2⟩,e3⟩
   ·exact h5 _ q
   ·dsimp only at e1 e2 e3;subst e1 e2;exact (h4 _ m1).1.1 e3
  ·have:=List.all_eq_true.mp h8 _ hq;dsimp only at this;cases t with
   |none=>exact absurd rfl ht
   |some t'=>
    simp only[decide_eq_true_eq,List.any_eq_true,Bool.and_eq_true] at this;obtain⟨⟨n1,d1,k1⟩,m1,⟨e1,e2⟩,e3⟩:=this;dsimp only at e1 e2 e3;subst e1 e2;have:=((h4 _ m1).2 e3).1;unfold isArrD at this
    split at this
    ·rename_i u hu;exact⟨u,hu⟩
    ·cases this
  ·exact h5 _ hq
  ·have:=nodup_inj h2 hq hq' rfl;simp only[Prod.mk.injEq] at this;exact this.1
  ·have:=nodup_inj h1g hq hq' e;simp only[Prod.mk.injEq] at this;exact this.2
  ·rcases h7 _ (List.mem_of_getElem? hj) with q | q | q<;>(dsimp only at q;subst q;rfl)
 have hdesc:∀k,(ms.getD k m0).1.cls=C->∃ps,parseMethodDescriptor (miOf ms k).1.desc=some ⟨ps,rtOf ms k⟩/\ps.length=naOf ms k:=by
  intro k hk;have hm:k<ms.length:=by
   apply Classical.byContradiction;intro q;have e:ms.getD k m0=m0:=by simp[List.getD,q]
   rw[e] at hk;exact h10a hk.symm
  have e:ms.getD k m0=ms[k]:=by simp[List.getD,hm]
  have:=List.all_eq_true.mp h10 ms[k] (List.getElem_mem hm);rw[<-e] at this;simp only[Bool.or_eq_true,decide_eq_true_eq] at this;rcases this with q | q
  ·rw[hk] at q;exact absurd q h10a
  ·unfold descB at q
   split at q
   ·rename_i ps r hp
    simp only[Bool.and_eq_true,decide_eq_true_eq] at q;refine⟨ps,?_,q.2⟩;rw[show rtOf ms k=r from q.1.symm];exact hp
   ·cases q
 refine⟨⟨⟨K,M,⟨fun k v hq=>wc _ hq,fun k v hq=>wcl _ hq⟩,w0,w1⟩,⟨h13,⟨h11,h12⟩,h10b,h14,h15⟩,fun n d q hq q3=>((h4 _ hq).2 q3).2,⟨h19,?_⟩,⟨w2,w3,w4⟩,⟨h17,h18⟩,?_⟩,?_⟩
 ·split at h20
  ·rename_i q1 q2
   simp only[decide_eq_true_eq] at h20;subst h20;exact⟨q1,q2⟩
  ·cases h20
 ·obtain⟨ps,q1,q2⟩:=hdesc 0 h10b;refine⟨ps,?_,q2⟩;rw[q1];have:rtOf ms 0=none:=h15;rw[this]
 ·intro own k idx Tb' hl hidx hk hk0;refine⟨fun idx' hidx'=>⟨hk,hl idx' hidx',?_⟩,hdesc k hk⟩;have hm:k<ms.length:=by
   apply Classical.byContradiction;intro q;have e:ms.getD k m0=m0:=by simp[List.getD,q]
   rw[e] at hk;exact h10a hk.symm
  have e:ms.getD k m0=ms[k]:=by simp[List.getD,hm]
  have hmem:ms.getD k m0∈ms.drop 1:=by
   rw[e];obtain⟨k',rfl⟩:∃k',k=k'+1:=⟨k-1,by omega⟩;exact List.mem_of_getElem? (i:=k') (by rw[List.getElem?_drop];simp[Nat.add_comm,hm])
  have hw1:=wm _ hmem;have hne:(ms.getD k m0).1.cls ≠ "" := by rw[hk];exact h10a
  simp only[mthW,if_neg hne] at hw1;refine⟨hw1 _ (List.mem_append_left _ (List.mem_cons_self ..)),hw1 _ (List.mem_append_left _ (List.mem_cons_of_mem _ (List.mem_cons_self ..))),?_⟩;by_cases hp:(ms.getD k m0).2.2.2.2.2.2.2.2.1=true
  ·exact Or.inl (hw1 _ (List.mem_append_right _ (by rw[if_pos hp];exact List.mem_cons_self ..)))
  ·exact Or.inr ⟨hw1 _ (List.mem_append_right _ (by rw[if_neg hp];exact List.mem_cons_self ..)),hw1 _ (List.mem_append_right _ (by rw[if_neg hp];exact List.mem_cons_of_mem _ (List.mem_cons_self ..)))⟩
def data2(C own:String)(ms ms2:List Mth)(Tb2:Tabs):Bool:=
 decide (own ≠ "java/lang/invoke/MethodHandle")&&decide (own ≠ "java/lang/invoke/VarHandle")&&plainName own&&ms2.all (fun q=>decide (q.1.cls=own)&&descB q)&&Tb2.2.1.all (fun q=>decide (q.2≠0)&&decide ((ms.getD q.2 m0).1.cls=C))&&Tb2.2.2.1.all (fun q=>decide (q.2<ms2.length))&&decide (0<ms2.length)
def needs2(C own:String)(ms ms2:List Mth)(Tb2:Tabs):List Jvm.Cond:=
 Tb2.2.2.2.2.2.1.map (fun q => .classLink own q.1 C)++Tb2.2.2.2.2.2.2.map (fun q => .methodLink own q.1 (ms.getD 0 m0).1)++Tb2.2.1.map (fun q => .methodLink own q.1 (ms.getD q.2 m0).1) ++
 Tb2.2.2.1.flatMap (fun q=>[.methodLink own q.1 (ms2.getD q.2 m0).1,.static (ms2.getD q.2 m0).1,.initialized own,.code (ms2.getD q.2 m0).1 (ms2.getD q.2 m0).2.1 (ms2.getD q.2 m0).2.2.1 (ms2.getD q.2 m0).2.2.2.2.2.1]) ++
 Tb2.2.2.2.1.map (fun q => .constant own q.1 q.2)++Tb2.2.2.2.2.1.map (fun q => .constantLong own q.1 q.2)
def callCk:Instr->Option Nat
 | .invokespecial _=>some 0
 |_=>none
def hasB(tw:List Jvm.Cond):List Jvm.Cond->List Nat->Bool
 |[],[]=>true
 |w::ws,i::is=>decide (tw[i]? = some w)&&hasB tw ws is
 |_,_=>false
theorem has_of{tw:List Jvm.Cond}:∀ {ws:List Jvm.Cond} {is:List Nat},hasB tw ws is=true->∀w∈ws,w∈tw
 |[],[],_,w,h=>by cases h
 |w::ws,i::is,h,v,hv=>by
  simp only[hasB,Bool.and_eq_true,decide_eq_true_eq] at h;rcases List.mem_cons.mp hv with rfl | q
  ·exact List.mem_of_getElem? h.1
  ·exact has_of h.2 v q
 |[],_::_,h,w,hw=>by cases hw
 |_::_,[],h,w,hw=>by cases h
def iniS(iv:List (Nat×Int)):MS:=iv.foldl (fun S q=>upd S 0 q.1 (Int32.ofInt q.2)) (fun _ _=>0)
theorem iniS_spec(iv:List (Nat×Int)):(∀i,iniS iv 0 i=finG (fun _=>0) iv i)/\∀c i,iniS iv (c+1) i=0:=by
 have key:∀(iv:List (Nat×Int)) (S:MS) (g:Nat->Int32),(∀i,S 0 i=g i)->(∀c i,S (c+1) i=0)->(∀i,(iv.foldl (fun S q=>upd S 0 q.1 (Int32.ofInt q.2)) S) 0 i=finG g iv i)/\∀c i,(iv.foldl (fun S q=>upd S 0 q.1 (Int32.ofInt q.2)) S) (c+1) i=0:=by
  intro iv
  induction iv with
  |nil=>intro S g h1 h2;exact⟨h1,h2⟩
  |cons q r ih=>
   intro S g h1 h2;refine ih (upd S 0 q.1 (Int32.ofInt q.2)) (fun i=>if i=q.1 then Int32.ofInt q.2 else g i) (fun i=>?_) (fun c i=>?_)
   ·simp only[upd,true_and,h1]
   ·simp only[upd,h2];rw[if_neg (by simp)]
 exact key iv (fun _ _=>0) (fun _=>0) (fun _=>rfl) (fun _ _=>rfl)
abbrev Fix1(arrs:List (FieldType×Nat))(ms:List Mth)(f1:Cfg MS->Option (Res MS)):Prop:=∀c,f1 c=run (plan (cdOf ms) (rtOf ms) (mop1 arrs gS upd) (cop1 (naOf ms) (fun k=>(miOf ms k).2.2.1) (wmOf ms))) f1 c
abbrev Fix2(ms ms2:List Mth)(iv:List (Nat×Int))(pe nmax:Nat)(sc:Option (List Int32))(f1:Cfg MS->Option (Res MS))(f2:Cfg (W2 MS)->Option (Res (W2 MS))):Prop:=
 ∀c,f2 c=run (plan (cdOf ms2) (rtOf ms2) (mop2 f1 (iniS iv) pe nmax (naOf ms) (fun k=>(miOf ms k).2.2.1) (wmOf ms2) sc) (cop2 (naOf ms2) (fun k=>(miOf ms2 k).2.2.1) (wmOf ms2))) f2 c
set_option maxHeartbeats 1000000 in
theorem law_of{C own:String}{fs:Nat}{gds:List (String×String)}{fds:List (String×String×Nat)}{arrs:List (FieldType×Nat)}{fa:Bool}{items:List Item}{pe oi:Nat}{iv:List (Nat×Int)}{Tb Tb2:Tabs}{ms ms2:List Mth}{Z:State}{a0:Array Value}{l:Launch}{tw:List Jvm.Cond}{is1 is2:List Nat}{nmax:Nat}
  (hD:data1 (C,fs,gds,fds,arrs,fa,items,pe,oi,iv,Tb,ms)=true) (hG1:goodB Tb ms=true) (hR1:roomB ms ms callVk=true) (hD2:data2 C own ms ms2 Tb2=true) (hG2:goodB Tb2 ms2=true) (hRv:roomB ms2 ms callVk=true) (hRc:roomB ms2 ms callCk=true) (hRs:roomB ms2 ms2 callSk=true)
  (hb1:hasB tw (needs1 (C,fs,gds,fds,arrs,fa,items,pe,oi,iv,Tb,ms)) is1=true) (hb2:hasB tw (needs2 C own ms ms2 Tb2) is2=true) (hw:∀d∈tw,d.before a0 Z=true)
  {as:List Value} (hok:okv as=true) (hlen:(entL as).length<=(miOf ms2 0).2.2.1) {rm:Room} (hfr:(miOf ms2 0).2.2.2.1<=rm.frames) (hlw:(miOf ms2 0).2.2.2.2<=rm.locals) (hcl:nmax*(arrs.length+1)<=rm.cells) (hsl:nmax*(fs+slotSum arrs arrs.length)<=rm.slots) {h:Heap} {sa:Nat} {sc:Option (List Int32)}
  (hsc:∀xs,sc=some xs->sa<h.size/\xs.length<2147483648/\∃cell,Arr Z h sa cell .int/\cell.slots.size=xs.length/\∀i,i<xs.length->cell.slots[i]? = some (.int (xs.getD i 0)))
  {v:Option Value} (hrun:∀f1 f2,Fix1 arrs ms f1->Fix2 ms ms2 iv pe nmax sc f1 f2->∃W,f2 (0,0,entL as,[],(false,[]))=some (v,W)) (ws:List Jvm.Cond) :
  MetFree l (miOf ms2 0).1 (head1 (Cond.code (miOf ms2 0).1 (miOf ms2 0).2.1 (miOf ms2 0).2.2.1 (rtOf ms2 0)::ws) rm)
   (fun A U=>A=(as.map (cv (rho2 (arrs.length+1) (sa,h.size,0,0)))).toArray/\Z.Warmed39 U.vm/\U.heap=h) (fun _ _ _ _ _=>True)
   (fun _ U o U'=>∃v' L,o = .returned v'/\(v'=v/\Fr h.size L)/\FrameEnd U o U' L rm.cells rm.slots):=by
 have hw1:∀w∈needs1 (C,fs,gds,fds,arrs,fa,items,pe,oi,iv,Tb,ms),w.before a0 Z=true:=fun w h=>hw w (has_of hb1 w h);have hw2:∀w∈needs2 C own ms ms2 Tb2,w.before a0 Z=true:=fun w h=>hw w (has_of hb2 w h);obtain⟨B,hM⟩:=base_of hD hw1;simp only[data2,Bool.and_eq_true,decide_eq_true_eq,List.all_eq_true] at hD2;obtain⟨⟨⟨⟨⟨⟨d1,d2⟩,d3⟩,d4⟩,d5⟩,d6⟩,d7⟩:=hD2;have u1:∀q∈Tb2.2.2.2.2.2.1,(Jvm.Cond.classLink own q.1 C).before a0 Z=true:=fun q hq=>hw2 _ (by
  simp only[needs2,List.mem_append];exact Or.inl (Or.inl (Or.inl (Or.inl (Or.inl (List.mem_map.mpr ⟨q,hq,rfl⟩))))))
 have u2:∀q∈Tb2.2.2.2.2.2.2,(Jvm.Cond.methodLink own q.1 (ms.getD 0 m0).1).before a0 Z=true:=fun q hq=>hw2 _ (by
  simp only[needs2,List.mem_append];exact Or.inl (Or.inl (Or.inl (Or.inl (Or.inr (List.mem_map.mpr ⟨q,hq,rfl⟩))))))
 have u3:∀q∈Tb2.2.1,(Jvm.Cond.methodLink own q.1 (ms.getD q.2 m0).1).before a0 Z=true:=fun q hq=>hw2 _ (by
  simp only[needs2,List.mem_append];exact Or.inl (Or.inl (Or.inl (Or.inr (List.mem_map.mpr ⟨q,hq,rfl⟩)))))
 have u4:∀q∈Tb2.2.2.1,∀w∈[Jvm.Cond.methodLink own q.1 (ms2.getD q.2 m0).1,.static (ms2.getD q.2 m0).1,.initialized own,.code (ms2.getD q.2 m0).1 (ms2.getD q.2 m0).2.1 (ms2.getD q.2 m0).2.2.1 (ms2.getD q.2 m0).2.2.2.2.2.1],w.before a0 Z=true:=fun q hq w hw'=>hw2 _ (by
  simp only[needs2,List.mem_append];exact Or.inl (Or.inl (Or.inr (List.mem_flatMap.mpr ⟨q,hq,hw'⟩))))
 have u5:∀q∈Tb2.2.2.2.1,(Jvm.Cond.constant own q.1 q.2).before a0 Z=true:=fun q hq=>hw2 _ (by
  simp only[needs2,List.mem_append];exact Or.inl (Or.inr (List.mem_map.mpr ⟨q,hq,rfl⟩)))
 have u6:∀q∈Tb2.2.2.2.2.1,(Jvm.Cond.constantLong own q.1 q.2).before a0 Z=true:=fun q hq=>hw2 _ (by
  simp only[needs2,List.mem_append];exact Or.inr (List.mem_map.mpr ⟨q,hq,rfl⟩))
 have v0:(Jvm.Cond.instanceMethod (ms.getD 0 m0).1).before a0 Z=true:=hw1 _ (by simp[needs1]);have v1:(Jvm.Cond.code (ms.getD 0 m0).1 (ms.getD 0 m0).2.1 (ms.getD 0 m0).2.2.1 none).before a0 Z=true:=hw1 _ (by simp[needs1]);have hdD:=hD;simp only[data1,Bool.and_eq_true,decide_eq_true_eq] at hdD;have h9:∀q∈Tb.2.1,(1<=q.2/\q.2<ms.length)/\(ms.getD q.2 m0).1.cls=C:=by
  have:=hdD.1.1.1.1.1.1.1.1.1.1.1.1.1.2
  simpa only [List.all_eq_true,Bool.and_eq_true,decide_eq_true_eq] using this
 have wl1:∀q∈Tb.2.1,(Jvm.Cond.methodLink C q.1 (ms.getD q.2 m0).1).before a0 Z=true:=fun q hq=>hw1 _ (by
  simp only[needs1,List.mem_append];exact Or.inl (Or.inl (Or.inl (Or.inr (List.mem_map.mpr ⟨q,hq,rfl⟩)))))
 have B':=B;obtain⟨⟨K,-,hCs,-,wz⟩,⟨hpn,hC,-,-,-⟩,-⟩:=B';have W1:∀n,Walks (cdOf ms) (rtOf ms) (mop1 arrs gS upd) (cop1 (naOf ms) (fun k=>(miOf ms k).2.2.1) (wmOf ms)) (miOf ms) C Z l rho1 (J1 C fds arrs Z gS) n:=
  walks (cdOf ms) (rtOf ms) _ _ Tb (miOf ms) C Z l rho1 _ hCs (good_of hG1) (mop1_ok K upd_law)
   (cop1_ok K hpn wz hC (fun k idx hk=>hM C k idx Tb (fun idx' h'=>wl1 _ h') hk (h9 _ hk).2 (by have:=(h9 _ hk).1.1;simp only at this;omega)) (fun mm pc k pn kp hc=>room_of hR1 hc rfl))
 obtain⟨f1,hf1,hi1⟩:=exists_fix (plan (cdOf ms) (rtOf ms) (mop1 arrs gS upd) (cop1 (naOf ms) (fun k=>(miOf ms k).2.2.1) (wmOf ms)));have hcst2:Cst Tb2 Z a0 own:=⟨fun k v hq=>u5 _ hq,fun k v hq=>u6 _ hq⟩;have hsta:StaOK Tb2 Z a0 (miOf ms2) (rtOf ms2) own (naOf ms2):=by
  intro idx k hk;have hlt:=d6 _ hk;simp only at hlt;have e:ms2.getD k m0=ms2[k]:=by simp[List.getD,hlt]
  obtain⟨q1,q2⟩:=d4 ms2[k] (List.getElem_mem hlt);rw[<-e] at q1 q2;refine⟨q1,u4 _ hk _ (List.mem_cons_self ..),u4 _ hk _ (List.mem_cons_of_mem _ (List.mem_cons_self ..)),u4 _ hk _ (List.mem_cons_of_mem _ (List.mem_cons_of_mem _ (List.mem_cons_self ..))),u4 _ hk _ (List.mem_cons_of_mem _ (List.mem_cons_of_mem _ (List.mem_cons_of_mem _ (List.mem_cons_self ..)))),?_⟩;unfold descB at q2
  split at q2
  ·rename_i ps r hp
   simp only[Bool.and_eq_true,decide_eq_true_eq] at q2;refine⟨ps,?_,q2.2⟩;rw[show rtOf ms2 k=r from q2.1.symm];exact hp
  ·cases q2
 obtain⟨z1,z2⟩:=iniS_spec iv;have rV:∀mm pc k pn kp,cdOf ms2 mm pc=some (.invokevirtual k,pn,kp)->Room2 (miOf ms) (miOf ms2) (wmOf ms2) mm k:=fun mm pc k pn kp hc=>room_of (callees:=ms) (k:=k) hRv hc rfl;have rC:∀mm pc k pn kp,cdOf ms2 mm pc=some (.invokespecial k,pn,kp)->Room2 (miOf ms) (miOf ms2) (wmOf ms2) mm 0:=fun mm pc k pn kp hc=>room_of (callees:=ms) (k:=0) hRc hc rfl;have hvm:∀k idx,(idx,k)∈Tb2.2.1->MthOK C Tb2 Z a0 (miOf ms) (rtOf ms) own k (naOf ms):=fun k idx hk=>hM own k idx Tb2 (fun idx' h'=>u3 _ h') hk (d5 _ hk).2 (d5 _ hk).1;have hnw:∀idx q,(idx,q)∈Tb2.2.2.2.2.2.1->(Cond.classLink own idx C).before a0 Z=true:=fun idx q hq=>u1 (idx,q) hq
 have hcw:CtW Z a0 Tb2 own (miOf ms 0).1 (miOf ms 0).2.1 (miOf ms 0).2.2.1:=⟨fun idx q hq=>u2 _ hq,v0,v1⟩;have hmop:MopOK (cdOf ms2) (rtOf ms2) (mop2 f1 (iniS iv) pe nmax (naOf ms) (fun k=>(miOf ms k).2.2.1) (wmOf ms2) sc) Tb2 (miOf ms2) own Z l (rho2 (arrs.length+1)) (J2 C gds fds arrs Z gS fs nmax sc):=
  mop2_ok (σ:=MS) (C:=C) (gds:=gds) (fds:=fds) (arrs:=arrs) (Z:=Z) (G:=gS) (fs:=fs) (nmax:=nmax) (sc:=sc) (Tb1:=Tb) (Tb2:=Tb2) (a0:=a0) (mi1:=miOf ms) (mi2:=miOf ms2) (rt1:=rtOf ms) (rt2:=rtOf ms2) (l:=l) (own:=own) (na1:=naOf ms) (wm2:=wmOf ms2) (code1:=cdOf ms) (items:=items) (pe:=pe) (oi:=oi) (Z0:=iniS iv) (iv:=iv) (code2:=cdOf ms2) (f1:=f1) B W1 hi1 z1 z2 hnw hcw hvm rV rC
 have hcop:CopOK (cdOf ms2) (rtOf ms2) (mop2 f1 (iniS iv) pe nmax (naOf ms) (fun k=>(miOf ms k).2.2.1) (wmOf ms2) sc) (cop2 (naOf ms2) (fun k=>(miOf ms2 k).2.2.1) (wmOf ms2)) Tb2 (miOf ms2) own Z l (rho2 (arrs.length+1)) (J2 C gds fds arrs Z gS fs nmax sc):=
  cop2_ok (σ:=MS) (C:=C) (gds:=gds) (fds:=fds) (arrs:=arrs) (Z:=Z) (G:=gS) (fs:=fs) (nmax:=nmax) (sc:=sc) (Tb2:=Tb2) (a0:=a0) (mi2:=miOf ms2) (rt2:=rtOf ms2) (l:=l) (own:=own) (na2:=naOf ms2) (wm2:=wmOf ms2) (code2:=cdOf ms2) d3 ⟨d1,d2⟩ hsta (fun mm pc k pn kp hc=>room_of hRs hc rfl)
 have W2':∀n,Walks (cdOf ms2) (rtOf ms2) (mop2 f1 (iniS iv) pe nmax (naOf ms) (fun k=>(miOf ms k).2.2.1) (wmOf ms2) sc) (cop2 (naOf ms2) (fun k=>(miOf ms2 k).2.2.1) (wmOf ms2)) (miOf ms2) own Z l (rho2 (arrs.length+1)) (J2 C gds fds arrs Z gS fs nmax sc) n:=
  walks (cdOf ms2) (rtOf ms2) _ _ Tb2 (miOf ms2) own Z l (rho2 (arrs.length+1)) _ hcst2 (good_of hG2) hmop hcop
 obtain⟨f2,hf2,hi2⟩:=exists_fix (plan (cdOf ms2) (rtOf ms2) (mop2 f1 (iniS iv) pe nmax (naOf ms) (fun k=>(miOf ms k).2.2.1) (wmOf ms2) sc) (cop2 (naOf ms2) (fun k=>(miOf ms2 k).2.2.1) (wmOf ms2)));obtain⟨W,hW⟩:=hrun f1 f2 hf1 hf2;obtain⟨n,hn⟩:=hi2 _ _ hW;have e:ms2.getD 0 m0=ms2[0]:=by simp[List.getD,d7]
 have q1:=(d4 ms2[0] (List.getElem_mem d7)).1;rw[<-e] at q1;have q1':(miOf ms2 0).1.cls=own:=q1;exact top (W2' n) d3 q1' hok hlen hn hfr hlw hcl hsl hsc ws
def evB(o:Jvm.Binary)(x y:Int32):Int32:=match o with
 | .iand=>x&&&y
 | .ior=>x|||y
 | .ixor=>x^^^y
 | .ishl=>x<<<(y&&&31)
 | .ishr=>x>>>(y&&&31)
 | .iushr=>XT.ushr x y
 |_=>0
def evU(o:Jvm.Unary)(x:Int32):Int32:=match o with
 | .ineg => -x
 | .i2b=>x.toInt8.toInt32
 |_=>0
def ev(ρ:Nat->Int32):Jvm.Term->Int32
 | .int v=>v
 | .arg i=>ρ i
 | .add a b=>ev ρ a+ev ρ b
 | .sub a b=>ev ρ a-ev ρ b
 | .mul a b=>ev ρ a*ev ρ b
 | .div a b=>ev ρ a/ev ρ b
 | .rem a b=>ev ρ a%ev ρ b
 | .op2 o a b=>evB o (ev ρ a) (ev ρ b)
 | .op1 o a=>evU o (ev ρ a)
 |_=>0
def cst(t:Jvm.Term):Option Int32:=match t with
 | .int v=>some v
 |_=>none
def msk(t:Jvm.Term):Option (Jvm.Term×Int32):=match t with
 | .op2 .iand a b=>(cst b).map fun x=>(a,x)
 |_=>none
abbrev SV:=Jvm.Term⊕Value
abbrev SL:=List SV
def cs(ρ:Nat->Int32):SV->Value
 | .inl t => .int (ev ρ t)
 | .inr v=>v
section Alu
variable {ρ:Nat->Int32} {st st' ls:SL}
abbrev two(ρ:Nat->Int32)(q:SL×SL):List Value×List Value:=(q.1.map (cs ρ),q.2.map (cs ρ))
variable {q:SL×SL} {k:Nat}
def pr(ls:SL)(o:Option SL):Option (SL×SL):=o.map fun st'=>(ls,st')
end Alu
abbrev Fct:=Bool×Jvm.Term×Jvm.Term×Bool
abbrev Pth:=List Fct
abbrev Rng:=Int×Int
def full:Rng:=(-2147483648,2147483647)
def one(x:Int32):Rng:=(x.toInt,x.toInt)
def mn(a b:Int):Int:=if a<=b then a else b
def mx(a b:Int):Int:=if a<=b then b else a
def tg(t:Jvm.Term):Nat:=match t with
 | .int _=>0
 | .arg _=>1
 | .add _ _=>2
 | .sub _ _=>3
 | .mul _ _=>4
 | .op2 _ _ _=>5
 |_=>6
def eqT(a b:Jvm.Term):Bool:=Nat.beq (tg a) (tg b)&&decide (a=b)
def cut(r s:Rng):Rng:=if s.1=s.2 then (if s.1=r.1 then (r.1+1,r.2) else if s.1=r.2 then (r.1,r.2-1) else r) else r
def fb1(g:Jvm.Term->Rng)(t:Jvm.Term)(f:Fct)(r:Rng):Rng:=match f with
 |(true,a,b,true)=>if eqT a t=true then (r.1,mn r.2 ((g b).2-1)) else if eqT b t=true then (mx r.1 ((g a).1+1),r.2) else r
 |(true,a,b,false)=>if eqT a t=true then (mx r.1 (g b).1,r.2) else if eqT b t=true then (r.1,mn r.2 (g a).2) else r
 |(false,a,b,true)=>if eqT a t=true then (mx r.1 (g b).1,mn r.2 (g b).2) else if eqT b t=true then (mx r.1 (g a).1,mn r.2 (g a).2) else r
 |(false,a,b,false)=>if eqT a t=true then cut r (g b) else if eqT b t=true then cut r (g a) else r
section Paths
variable {ρ:Nat->Int32}
def fb(g:Jvm.Term->Rng)(t:Jvm.Term):Pth->Rng->Rng
 |[],r=>r
 |f::P,r=>fb1 g t f (fb g t P r)
def g0(t:Jvm.Term):Rng:=match cst t with
 |some c=>one c
 |none=>full
def rng0(P:Pth)(t:Jvm.Term):Rng:=fb g0 t P (g0 t)
def bin(g:Int32->Int32->Int32)(x y:Rng):Rng:=if x.1=x.2/\y.1=y.2 then one (g (Int32.ofInt x.1) (Int32.ofInt y.1)) else full
def unr(g:Int32->Int32)(x:Rng):Rng:=if x.1=x.2 then one (g (Int32.ofInt x.1)) else full
def mab(o:Jvm.Binary)(x y:Rng):Rng:=match o with
 | .iand=>if (x.1=x.2/\y.1=y.2)\/¬(y.1=y.2/\0<=y.1) then bin (evB .iand) x y else (0,y.1)
 |o=>bin (evB o) x y
def dvb(x y:Rng):Rng:=if (x.1=x.2/\y.1=y.2)\/¬(y.1=y.2/\0<y.1) then bin (fun x y=>x/y) x y else (x.1.tdiv y.1,x.2.tdiv y.1)
def rng1(P:Pth):Jvm.Term->Rng
 | .int c=>one c
 | .arg i=>fb (rng0 P) (.arg i) P full
 | .add a b=>fb (rng0 P) (.add a b) P (bin (fun x y=>x+y) (rng1 P a) (rng1 P b))
 | .sub a b=>fb (rng0 P) (.sub a b) P (bin (fun x y=>x-y) (rng1 P a) (rng1 P b))
 | .mul a b=>fb (rng0 P) (.mul a b) P (bin (fun x y=>x*y) (rng1 P a) (rng1 P b))
 | .div a b=>fb (rng0 P) (.div a b) P (dvb (rng1 P a) (rng1 P b))
 | .rem a b=>fb (rng0 P) (.rem a b) P (bin (fun x y=>x%y) (rng1 P a) (rng1 P b))
 | .op2 o a b=>fb (rng0 P) (.op2 o a b) P (mab o (rng1 P a) (rng1 P b))
 | .op1 o a=>fb (rng0 P) (.op1 o a) P (unr (evU o) (rng1 P a))
 |_=>full
def lv:Jvm.Term->List Jvm.Term
 | .arg i=>[.arg i]
 | .add a b=>lv a++lv b
 | .sub a b=>lv a++lv b
 | .mul a b=>lv a++lv b
 | .div a b=>lv a++lv b
 | .rem a b=>lv a++lv b
 | .op2 o a b=>if (msk (.op2 o a b)).isSome=true then lv a++[.op2 o a b] else lv a++lv b
 | .op1 _ a=>lv a
 |_=>[]
def pickS(P:Pth):List Jvm.Term->Option Jvm.Term
 |[]=>none
 |t::r=>if (rng1 P t).1<(rng1 P t).2/\(rng1 P t).2-(rng1 P t).1<=300 then some t else pickS P r
def sml(P:Pth)(t:Jvm.Term):Option Jvm.Term:=if Nat.ble (tg t) 1=true then none else match msk t with
 |some q=>if (msk q.1).isSome=true then none else pickS P (lv q.1)
 |none=>pickS P (lv t)
def smf(P:Pth)(a b:Jvm.Term):Option Jvm.Term:=match sml P a with
 |some w=>some w
 |none=>sml P b
end Paths
abbrev CF:=Nat×Nat×SL×SL
abbrev SS:=List (List (List Jvm.Term))
def gT(S:SS)(c i:Nat):Jvm.Term:=((S.getD c []).getD (i/16) []).getD (i%16) (.int 0)
def setC{α β:Type}(d:α):List α->Nat->α->(List α->β)->β
 |[],0,v,k=>k [v]
 |[],n+1,v,k=>setC d [] n v fun r=>k (d::r)
 |_::r,0,v,k=>k (v::r)
 |x::r,n+1,v,k=>setC d r n v fun r'=>k (x::r')
def fN{β:Type}(n:Nat)(k:Nat->β):β:=match n with
 |0=>k 0
 |n+1=>k (n+1)
def fI{β:Type}(x:Int32)(k:Int32->β):β:=fN x.toBitVec.toNat fun n=>k (Int32.ofBitVec (BitVec.ofNat 32 n))
def fT{β:Type}(t:Jvm.Term)(k:Jvm.Term->β):β:=match cst t with
 |some x=>fI x fun y=>k (.int y)
 |none=>k t
def wr{β:Type}(S:SS)(c i:Nat)(v:Jvm.Term)(k:SS->β):β:=fT v fun v=>fN (i/16) fun a=>fN (i%16) fun b=>setC (.int 0) ((S.getD c []).getD a []) b v fun l=>setC [] (S.getD c []) a l fun r=>setC [] S c r k
def tkS:Nat->SL->SL->Option (SL×SL)
 |0,acc,st=>some (acc,st)
 |n+1,acc,v::st=>tkS n (v::acc) st
 |_+1,_,[]=>none
def okns:SL->Bool
 |[]=>true
 | .inl _::r=>okns r
 | .inr (.long _)::r=>okns r
 |_::_=>false
def okvs:SL->Bool
 |[]=>true
 | .inl _::r=>okvs r
 | .inr (.long _)::r=>okvs r
 | .inr (.ref _)::r=>okvs r
 |_::_=>false
def catS:SV->Nat
 | .inl _=>1
 | .inr v=>v.category
def catsS:SL->Nat
 |[]=>0
 |v::r=>catS v+catsS r
def entLs:SL->SL
 |[]=>[]
 | .inr (.long v)::r => .inr (.long v) :: .inr .null::entLs r
 |v::r=>v::entLs r
abbrev Fr:=Nat×Nat×SL×SL
abbrev Ctx:=List Fr×Option Nat×List SS×Bool×List Fr
abbrev Rec:=Pth->Bool->CF->SS->Ctx->Bool
section Whole
variable (cd1 cd2:Codes) (rt1 rt2:Nat->Option FieldType) (arrs:List (FieldType×Nat)) (na1 ml1 wm1 na2 ml2 wm2:Nat->Nat) (Z0:SS) (pe nmax:Nat) (fin:Pth->Option SV->SS->Bool) (hv:Nat->Nat->Option Nat)
def s2new(r:Rec)(P:Pth)(m pn:Nat)(ls st:SL)(ob:List SS)(raw:Bool)(K2:List Fr):Bool:=match raw with
 |true=>false
 |false=>if (Nat.beq m 0&&Nat.blt ob.length nmax)=true then r P false (m,pn,ls,.inr (.ref (ob.length+1))::st) [] ([],none,ob,true,K2) else false
def s2ct(r:Rec)(P:Pth)(m pn:Nat)(ls st:SL)(ob:List SS)(raw:Bool)(K2:List Fr):Bool:=match raw with
 |false=>false
 |true=>(match tkS (na1 0) [] st with
  |some (as,.inr (.ref x)::rs)=>if (Nat.beq m 0&&Nat.beq x (ob.length+1)&&okns as&&Nat.ble (catsS rs) (wm2 m)&&Nat.ble (entLs (.inr (.ref 0)::as)).length (ml1 0))=true then r P true (0,pe,entLs (.inr (.ref 0)::as),[]) Z0 ([],none,ob,false,(m,pn,ls,rs)::K2) else false
  |_=>false)
def s2vt(r:Rec)(P:Pth)(k m pn:Nat)(ls st:SL)(ob:List SS)(raw:Bool)(K2:List Fr):Bool:=match raw with
 |true=>false
 |false=>(match tkS (na1 k) [] st with
  |some (as,.inr (.ref (j+1))::rs)=>(match ob[j]? with
   |some S=>if (okns as&&Nat.ble (catsS rs) (wm2 m)&&Nat.ble (entLs (.inr (.ref 0)::as)).length (ml1 k))=true then r P true (k,0,entLs (.inr (.ref 0)::as),[]) S ([],some j,ob,false,(m,pn,ls,rs)::K2) else false
   |none=>false)
  |_=>false)
def s2st(r:Rec)(P:Pth)(k m pn:Nat)(ls st:SL)(ob:List SS)(raw:Bool)(K2:List Fr):Bool:=match tkS (na2 k) [] st with
 |some (as,rs)=>if (!(Nat.beq k 0)&&okvs as&&Nat.ble (catsS rs) (wm2 m)&&Nat.ble (entLs as).length (ml2 k))=true then r P false (k,0,entLs as,[]) [] ([],none,ob,raw,(m,pn,ls,rs)::K2) else false
 |none=>false
abbrev Lhd:=Rec->Pth->Nat->Nat->SL->SL->List SS->Bool->List Fr->Bool
def s2(i:Instr):Option Lhd:=match i with
 | .new _=>some fun r P m pn ls st ob raw K2=>s2new nmax r P m pn ls st ob raw K2
 | .invokespecial _=>some fun r P m pn ls st ob raw K2=>s2ct na1 ml1 wm2 Z0 pe r P m pn ls st ob raw K2
 | .invokevirtual k=>some fun r P m pn ls st ob raw K2=>s2vt na1 ml1 wm2 r P k m pn ls st ob raw K2
 | .invokestatic k=>some fun r P m pn ls st ob raw K2=>s2st na2 ml2 wm2 r P k m pn ls st ob raw K2
 |_=>none
end Whole
theorem getD_ge{α:Type}{l:List α}{i:Nat}{d:α}(h:¬i<l.length):l.getD i d=d:=by simp[List.getD,h]
theorem bm32{x:Int}(h1 : -2147483648<=x)(h2:x<=2147483647):x.bmod (2 ^ 32)=x:=by
 show Int.bmod x 4294967296=x;rw[Int.bmod_def]
 split<;>omega
def vi:Value->Int
 | .int x=>x.toInt
 |_=>0
abbrev K4:=Nat×Nat×List Value×List Value
theorem getD_some{α:Type}{l:List (Option α)}{i:Nat}{r:α}(h:l.getD i none=some r):i<l.length:=by
 by_cases q:i<l.length
 ·exact q
 ·rw[getD_ge q] at h;cases h
abbrev HF{τ:Type}(code:Codes)(rt:Nat->Option FieldType)(mop:Mop τ)(cop:Cop)(f:Cfg τ->Option (Res τ)):Prop:=∀c,f c=run (plan code rt mop cop) f c
section S0
variable {τ:Type} {code:Codes} {rt:Nat->Option FieldType} {mop:Mop τ} {cop:Cop} {f:Cfg τ->Option (Res τ)} {m pc pn k t a:Nat} {kp:Option Nat} {ls st:List Value} {S:τ} {R R':Option (Res τ)} {x y v v':Int32} {X Y:Int64} {i:Instr} {c:Int}
theorem Jr(hf:HF code rt mop cop f)(h:code m pc=some (i,pn,some k))(r:f (m,pc,ls.take k,st,S)=R):f (m,pc,ls,st,S)=R:=(F.head hf h).trans r
theorem Jac(hf:HF code rt mop cop f)(h:code m pc=some (.idiv,pn,kp))(hy:y≠0)(r:f (m,pn,ls,.int (x/y)::st,S)=R)(hk:tk kp ls=ls:=by rfl):f (m,pc,ls,.int y :: .int x::st,S)=R:=(F.idiv hf h hk hy).trans r
theorem JW(hf:HF code rt mop cop f)(h:code m pc=some (.irem,pn,kp))(hy:y≠0)(r:f (m,pn,ls,.int (x%y)::st,S)=R)(hk:tk kp ls=ls:=by rfl):f (m,pc,ls,.int y :: .int x::st,S)=R:=(F.irem hf h hk hy).trans r
theorem Jc(hf:HF code rt mop cop f)(h:code m pc=some (.iconst c,pn,kp))(hv:Int32.ofInt c=v)(r:f (m,pn,ls,.int v::st,S)=R)(hk:tk kp ls=ls:=by rfl):f (m,pc,ls,st,S)=R:=(F.iconst hf h hk hv).trans r
theorem Jb(hf:HF code rt mop cop f)(h:code m pc=some (.iload k,pn,kp))(hl:ls[k]? = some (.int v))(r:f (m,pn,ls,.int v::st,S)=R)(hk:tk kp ls=ls:=by rfl):f (m,pc,ls,st,S)=R:=(F.iload hf h hk hl).trans r
theorem Jd(hf:HF code rt mop cop f)(h:code m pc=some (.aload k,pn,kp))(hl:ls[k]? = some (.ref a))(r:f (m,pn,ls,.ref a::st,S)=R)(hk:tk kp ls=ls:=by rfl):f (m,pc,ls,st,S)=R:=(F.aload hf h hk hl).trans r
theorem Je(hf:HF code rt mop cop f)(h:code m pc=some (.istore k,pn,kp))(l:List Value)(r:f (m,pn,l,st,S)=R)(hk:tk kp ls=ls:=by rfl)(hl:st1 ls k (.int v)=l:=by rfl):f (m,pc,ls,.int v::st,S)=R:=(F.istore hf h hk hl).trans r
theorem Jh(hf:HF code rt mop cop f)(h:code m pc=some (.goto (Int.ofNat t),pn,kp))(r:f (m,t,ls,st,S)=R)(hk:tk kp ls=ls:=by rfl):f (m,pc,ls,st,S)=R:=(F.goto hf h hk).trans r
theorem Jy(hf:HF code rt mop cop f)(h:code m pc=some (.ifCond .eq (Int.ofNat t),pn,kp))(r:f (m,t,ls,st,S)=R)(r':f (m,pn,ls,st,S)=R')(hk:tk kp ls=ls:=by rfl):f (m,pc,ls,.int x::st,S)=if x=0 then R else R':=(F.ifeq hf h hk).trans (ite2 r r')
theorem JA(hf:HF code rt mop cop f)(h:code m pc=some (.if_icmp .eq (Int.ofNat t),pn,kp))(r:f (m,t,ls,st,S)=R)(r':f (m,pn,ls,st,S)=R')(hk:tk kp ls=ls:=by rfl):f (m,pc,ls,.int y :: .int x::st,S)=if x=y then R else R':=(F.iceq hf h hk).trans (ite2 r r')
theorem Js(hf:HF code rt mop cop f)(h:code m pc=some (.ifCond .ne (Int.ofNat t),pn,kp))(r:f (m,pn,ls,st,S)=R)(r':f (m,t,ls,st,S)=R')(hk:tk kp ls=ls:=by rfl):f (m,pc,ls,.int x::st,S)=if x=0 then R else R':=(F.ifne hf h hk).trans (ite2 r r')
theorem Jp(hf:HF code rt mop cop f)(h:code m pc=some (.if_icmp .ne (Int.ofNat t),pn,kp))(r:f (m,pn,ls,st,S)=R)(r':f (m,t,ls,st,S)=R')(hk:tk kp ls=ls:=by rfl):f (m,pc,ls,.int y :: .int x::st,S)=if x=y then R else R':=(F.icne hf h hk).trans (ite2 r r')
theorem JB(hf:HF code rt mop cop f)(h:code m pc=some (.ifCond .lt (Int.ofNat t),pn,kp))(r:f (m,t,ls,st,S)=R)(r':f (m,pn,ls,st,S)=R')(hk:tk kp ls=ls:=by rfl):f (m,pc,ls,.int x::st,S)=if x<0 then R else R':=(F.iflt hf h hk).trans (ite2 r r')
theorem JJ(hf:HF code rt mop cop f)(h:code m pc=some (.if_icmp .lt (Int.ofNat t),pn,kp))(r:f (m,t,ls,st,S)=R)(r':f (m,pn,ls,st,S)=R')(hk:tk kp ls=ls:=by rfl):f (m,pc,ls,.int y :: .int x::st,S)=if x<y then R else R':=(F.iclt hf h hk).trans (ite2 r r')
theorem JP(hf:HF code rt mop cop f)(h:code m pc=some (.ifCond .ge (Int.ofNat t),pn,kp))(r:f (m,pn,ls,st,S)=R)(r':f (m,t,ls,st,S)=R')(hk:tk kp ls=ls:=by rfl):f (m,pc,ls,.int x::st,S)=if x<0 then R else R':=(F.ifge hf h hk).trans (ite2 r r')
theorem Jm(hf:HF code rt mop cop f)(h:code m pc=some (.if_icmp .ge (Int.ofNat t),pn,kp))(r:f (m,pn,ls,st,S)=R)(r':f (m,t,ls,st,S)=R')(hk:tk kp ls=ls:=by rfl):f (m,pc,ls,.int y :: .int x::st,S)=if x<y then R else R':=(F.icge hf h hk).trans (ite2 r r')
theorem Jas(hf:HF code rt mop cop f)(h:code m pc=some (.ifCond .gt (Int.ofNat t),pn,kp))(r:f (m,t,ls,st,S)=R)(r':f (m,pn,ls,st,S)=R')(hk:tk kp ls=ls:=by rfl):f (m,pc,ls,.int x::st,S)=if 0<x then R else R':=(F.ifgt hf h hk).trans (ite2 r r')
theorem JT(hf:HF code rt mop cop f)(h:code m pc=some (.if_icmp .gt (Int.ofNat t),pn,kp))(r:f (m,t,ls,st,S)=R)(r':f (m,pn,ls,st,S)=R')(hk:tk kp ls=ls:=by rfl):f (m,pc,ls,.int y :: .int x::st,S)=if y<x then R else R':=(F.icgt hf h hk).trans (ite2 r r')
theorem Jab(hf:HF code rt mop cop f)(h:code m pc=some (.ifCond .le (Int.ofNat t),pn,kp))(r:f (m,pn,ls,st,S)=R)(r':f (m,t,ls,st,S)=R')(hk:tk kp ls=ls:=by rfl):f (m,pc,ls,.int x::st,S)=if 0<x then R else R':=(F.ifle hf h hk).trans (ite2 r r')
theorem JO(hf:HF code rt mop cop f)(h:code m pc=some (.if_icmp .le (Int.ofNat t),pn,kp))(r:f (m,pn,ls,st,S)=R)(r':f (m,t,ls,st,S)=R')(hk:tk kp ls=ls:=by rfl):f (m,pc,ls,.int y :: .int x::st,S)=if y<x then R else R':=(F.icle hf h hk).trans (ite2 r r')
theorem Jk(hf:HF code rt mop cop f)(h:code m pc=some (.return_,pn,kp))(hr:rt m=none:=by rfl):f (m,pc,ls,[],S)=some (none,S):=F.retn hf h hr
theorem Ji(hf:HF code rt mop cop f)(h:code m pc=some (.ireturn,pn,kp))(hr:rt m=some .int:=by rfl):f (m,pc,ls,[.int v],S)=some (some (.int v),S):=F.reti hf h hr
theorem J5(hf:HF code rt mop cop f)(h:code m pc=some (.ireturn,pn,kp))(hr:rt m=some .boolean:=by rfl):f (m,pc,ls,[.int v],S)=some (some (.int (v&&&1)),S):=F.retb hf h hr
theorem Jl(hf:HF code rt mop cop f)(h:code m pc=some (.ireturn,pn,kp))(hr:rt m=some .boolean:=by rfl):f (m,pc,ls,[.int 0],S)=some (some (.int 0),S):=F.retb hf h hr
theorem JC(hf:HF code rt mop cop f)(h:code m pc=some (.ireturn,pn,kp))(hr:rt m=some .boolean:=by rfl):f (m,pc,ls,[.int 1],S)=some (some (.int 1),S):=F.retb hf h hr
end S0
section S1
variable {code:Codes} {rt:Nat->Option FieldType} {arrs:List (FieldType×Nat)} {na ml wm:Nat->Nat} {f:Cfg MS->Option (Res MS)} {m pc pn j n k:Nat} {kp:Option Nat} {ls st:List Value} {S:MS} {R:Option (Res MS)} {v i:Int32} {ty:FieldType}
abbrev HF1(code:Codes)(rt:Nat->Option FieldType)(arrs:List (FieldType×Nat))(na ml wm:Nat->Nat)(f:Cfg MS->Option (Res MS)):Prop:=∀c,f c=run (plan code rt (mop1 arrs gS upd) (cop1 na ml wm)) f c
theorem Jo(hf:HF1 code rt arrs na ml wm f)(h:code m pc=some (.iaload,pn,kp))(ha:arrs[j]? = some (ty,n))(r:inb i n=true->f (m,pn,ls,.int (S (j+1) i.toNatClampNeg)::st,S)=R)(hk:tk kp ls=ls:=by rfl)(ht:isI ty=true:=by rfl):f (m,pc,ls,.int i :: .ref (j+1)::st,S)=if inb i n=true then R else none:=(F.iaload hf h hk ha ht rfl).trans (iteH r)
theorem JF(hf:HF1 code rt arrs na ml wm f)(h:code m pc=some (.iaload,pn,kp))(ha:arrs[j]? = some (ty,n))(hi:inb i n=true)(r:f (m,pn,ls,.int (S (j+1) i.toNatClampNeg)::st,S)=R)(hk:tk kp ls=ls:=by rfl)(ht:isI ty=true:=by rfl):f (m,pc,ls,.int i :: .ref (j+1)::st,S)=R:=(F.ialoadT hf h hk ha ht hi rfl rfl).trans r
theorem Jay(hf:HF1 code rt arrs na ml wm f)(h:code m pc=some (.iaload,pn,kp))(ha:arrs[j]? = some (ty,n))(z:Nat)(r:f (m,pn,ls,.int (S (j+1) z)::st,S)=R)(hk:tk kp ls=ls:=by rfl)(ht:isI ty=true:=by rfl)(hi:inb i n=true:=by first | decide | rfl)(hz:i.toNatClampNeg=z:=by first | decide | rfl):f (m,pc,ls,.int i :: .ref (j+1)::st,S)=R:=(F.ialoadT hf h hk ha ht hi hz rfl).trans r
theorem J0(hf:HF1 code rt arrs na ml wm f)(h:code m pc=some (.baload,pn,kp))(ha:arrs[j]? = some (ty,n))(r:inb i n=true->f (m,pn,ls,.int (S (j+1) i.toNatClampNeg)::st,S)=R)(hk:tk kp ls=ls:=by rfl)(ht:isB ty=true:=by rfl):f (m,pc,ls,.int i :: .ref (j+1)::st,S)=if inb i n=true then R else none:=(F.baload hf h hk ha ht rfl).trans (iteH r)
theorem Jaz(hf:HF1 code rt arrs na ml wm f)(h:code m pc=some (.baload,pn,kp))(ha:arrs[j]? = some (ty,n))(hi:inb i n=true)(r:f (m,pn,ls,.int (S (j+1) i.toNatClampNeg)::st,S)=R)(hk:tk kp ls=ls:=by rfl)(ht:isB ty=true:=by rfl):f (m,pc,ls,.int i :: .ref (j+1)::st,S)=R:=(F.baloadT hf h hk ha ht hi rfl rfl).trans r
theorem Jv(hf:HF1 code rt arrs na ml wm f)(h:code m pc=some (.iastore,pn,kp))(ha:arrs[j]? = some (ty,n))(r:inb i n=true->f (m,pn,ls,st,upd S (j+1) i.toNatClampNeg (nar ty v))=R)(hk:tk kp ls=ls:=by rfl)(ht:isI ty=true:=by rfl):f (m,pc,ls,.int v :: .int i :: .ref (j+1)::st,S)=if inb i n=true then R else none:=(F.iastore hf h hk ha ht rfl).trans (iteH r)
theorem Jx(hf:HF1 code rt arrs na ml wm f)(h:code m pc=some (.iastore,pn,kp))(ha:arrs[j]? = some (ty,n))(hi:inb i n=true)(r:f (m,pn,ls,st,upd S (j+1) i.toNatClampNeg (nar ty v))=R)(hk:tk kp ls=ls:=by rfl)(ht:isI ty=true:=by rfl):f (m,pc,ls,.int v :: .int i :: .ref (j+1)::st,S)=R:=(F.iastoreT hf h hk ha ht rfl hi rfl).trans r
theorem JaB(hf:HF1 code rt arrs na ml wm f)(h:code m pc=some (.iastore,pn,kp))(ha:arrs[j]? = some (ty,n))(z:Nat)(r:f (m,pn,ls,st,upd S (j+1) z (nar ty v))=R)(hk:tk kp ls=ls:=by rfl)(ht:isI ty=true:=by rfl)(hi:inb i n=true:=by first | decide | rfl)(hz:i.toNatClampNeg=z:=by first | decide | rfl):f (m,pc,ls,.int v :: .int i :: .ref (j+1)::st,S)=R:=(F.iastoreT hf h hk ha ht rfl hi hz).trans r
theorem Jaa(hf:HF1 code rt arrs na ml wm f)(h:code m pc=some (.bastore,pn,kp))(ha:arrs[j]? = some (ty,n))(r:inb i n=true->f (m,pn,ls,st,upd S (j+1) i.toNatClampNeg (nar ty v))=R)(hk:tk kp ls=ls:=by rfl)(ht:isB ty=true:=by rfl):f (m,pc,ls,.int v :: .int i :: .ref (j+1)::st,S)=if inb i n=true then R else none:=(F.bastore hf h hk ha ht rfl).trans (iteH r)
theorem J3(hf:HF1 code rt arrs na ml wm f)(h:code m pc=some (.bastore,pn,kp))(ha:arrs[j]? = some (ty,n))(hi:inb i n=true)(r:f (m,pn,ls,st,upd S (j+1) i.toNatClampNeg (nar ty v))=R)(hk:tk kp ls=ls:=by rfl)(ht:isB ty=true:=by rfl):f (m,pc,ls,.int v :: .int i :: .ref (j+1)::st,S)=R:=(F.bastoreT hf h hk ha ht rfl hi rfl).trans r
theorem JaC(hf:HF1 code rt arrs na ml wm f)(h:code m pc=some (.bastore,pn,kp))(ha:arrs[j]? = some (ty,n))(z:Nat)(r:f (m,pn,ls,st,upd S (j+1) z (nar ty v))=R)(hk:tk kp ls=ls:=by rfl)(ht:isB ty=true:=by rfl)(hi:inb i n=true:=by first | decide | rfl)(hz:i.toNatClampNeg=z:=by first | decide | rfl):f (m,pc,ls,.int v :: .int i :: .ref (j+1)::st,S)=R:=(F.bastoreT hf h hk ha ht rfl hi hz).trans r
theorem Jf(hf:HF1 code rt arrs na ml wm f){as r as':List Value}(h:code m pc=some (.invokevirtual k,pn,kp))(ht:takeA (na k) [] st=some (as,.ref 0::r))(hk:tk kp ls=ls:=by rfl)(hc:okn as=true/\cats r<=wm m/\(entL (.ref 0::as)).length<=ml k:=by exact⟨rfl,Nat.le_of_ble_eq_true rfl,Nat.le_of_ble_eq_true rfl⟩)(he:entL (.ref 0::as)=as':=by rfl):f (m,pc,ls,st,S)=(f (k,0,as',[],S)).bind fun q=>f (m,pn,ls,q.1.toList++r,q.2):=F.call hf h hk ht hc he
end S1
section S2
variable {σ:Type} {code:Codes} {rt:Nat->Option FieldType} {f1:Cfg σ->Option (Res σ)} {Z0:σ} {pe nmax k q o:Nat} {na1 ml1 wm na ml:Nat->Nat} {xs:List Int32} {sc:Option (List Int32)} {f:Cfg (W2 σ)->Option (Res (W2 σ))} {m pc pn:Nat} {kp:Option Nat} {ls st as as' rs:List Value} {ob:List σ} {b:Bool} {S:σ} {w:W2 σ} {i:Int32} {R:Option (Res (W2 σ))}
abbrev HF2(code:Codes)(rt:Nat->Option FieldType)(f1:Cfg σ->Option (Res σ))(Z0:σ)(pe nmax:Nat)(na1 ml1 wm na ml:Nat->Nat)(sc:Option (List Int32))(f:Cfg (W2 σ)->Option (Res (W2 σ))):Prop:=∀c,f c=run (plan code rt (mop2 f1 Z0 pe nmax na1 ml1 wm sc) (cop2 na ml wm)) f c
theorem JX(hf:HF2 code rt f1 Z0 pe nmax na1 ml1 wm na ml sc f)(h:code 0 pc=some (.new q,pn,kp))(r:f (0,pn,ls,.ref (ob.length+1)::st,(true,ob))=R)(hk:tk kp ls=ls:=by rfl)(hl:ob.length<nmax:=by exact Nat.le_of_ble_eq_true rfl):f (0,pc,ls,st,(false,ob))=R:=(F.new hf h hk hl rfl).trans r
theorem JZ(hf:HF2 code rt f1 Z0 pe nmax na1 ml1 wm na ml sc f){r:Nat}(h:code 0 pc=some (.invokespecial q,pn,kp))(ht:takeA (na1 0) [] st=some (as,.ref r::rs))(hk:tk kp ls=ls:=by rfl)(hr:r=ob.length+1:=by rfl)(hc:okn as=true/\cats rs<=wm 0/\(entL (.ref 0::as)).length<=ml1 0:=by exact⟨rfl,Nat.le_of_ble_eq_true rfl,Nat.le_of_ble_eq_true rfl⟩)(he:entL (.ref 0::as)=as':=by rfl):f (0,pc,ls,st,(true,ob))=(f1 (0,pe,as',[],Z0)).bind fun q=>f (0,pn,ls,rs,(false,ob++[q.2])):=F.ctor hf h hk ht hr hc he
theorem Jq(hf:HF2 code rt f1 Z0 pe nmax na1 ml1 wm na ml sc f)(o:Nat)(h:code m pc=some (.invokevirtual k,pn,kp))(ht:takeA (na1 k) [] st=some (as,.ref (o+1)::rs))(hS:ob[o]? = some S)(hk:tk kp ls=ls:=by rfl)(hc:okn as=true/\cats rs<=wm m/\(entL (.ref 0::as)).length<=ml1 k:=by exact⟨rfl,Nat.le_of_ble_eq_true rfl,Nat.le_of_ble_eq_true rfl⟩)(he:entL (.ref 0::as)=as':=by rfl):f (m,pc,ls,st,(false,ob))=(f1 (k,0,as',[],S)).bind fun q=>f (m,pn,ls,q.1.toList++rs,(false,ob.set o q.2)):=F.virt hf h hk ht hS hc he
theorem JR(hf:HF2 code rt f1 Z0 pe nmax na1 ml1 wm na ml (some xs) f)(h:code m pc=some (.iaload,pn,kp))(r:inb i xs.length=true->f (m,pn,ls,.int (xs.getD i.toNatClampNeg 0)::st,w)=R)(hk:tk kp ls=ls:=by rfl):f (m,pc,ls,.int i :: .ref 0::st,w)=if inb i xs.length=true then R else none:=(F.sload hf rfl h hk).trans (iteH r)
theorem JE(hf:HF2 code rt f1 Z0 pe nmax na1 ml1 wm na ml sc f)(h:code m pc=some (.invokestatic k,pn,kp))(ht:takeA (na k) [] st=some (as,rs))(hk:tk kp ls=ls:=by rfl)(hc:k≠0/\okv as=true/\cats rs<=wm m/\(entL as).length<=ml k:=by exact⟨by decide,rfl,Nat.le_of_ble_eq_true rfl,Nat.le_of_ble_eq_true rfl⟩)(he:entL as=as':=by rfl):f (m,pc,ls,st,w)=(f (k,0,as',[],w)).bind fun q=>f (m,pn,ls,q.1.toList++rs,q.2):=F.stat hf h hk ht hc he
end S2
def sp{α ρ:Type}(P:α->Plan α ρ):Nat->α->Option α
 |0,c=>some c
 |n+1,c=>match P c with
  |some (.inr (.inl c'))=>sp P n c'
  |_=>none
theorem Ja{α ρ:Type}{P:α->Plan α ρ}{f:α->Option ρ}(hf:∀c,f c=run P f c):∀(n:Nat) {c c':α} {R:Option ρ},sp P n c=some c'->f c'=R->f c=R
 |0,c,c',R,h,r=>by
  cases h
  exact r
 |n+1,c,c',R,h,r=>by
  rw[hf];unfold sp at h;unfold run
  split at h
  ·rename_i e
   rw[e];exact Ja hf n h r
  ·cases h
end Jvm.OM
open Int32 renaming ofNat->O
namespace Jvm.Pilot.@@N@@
open Jvm Jvm.ClassFile Sem Op Lib Jvm.Free Jvm.Stand Jvm.LawKit Jvm.RoadKit Bundle Jvm.Pilot.@@N@@.Jvm.D Jvm.OM
theorem zz:(∀{α β:Type}(a:α)(f:α->Option β),(some a).bind f=f a)/\(∀{α:Type}(a:α),(some a).toList=[a])/\(∀{α:Type},(none:Option α).toList=[])/\(∀{α:Type}(a:α)(l m:List α),a::l++m=a::(l++m))/\(∀{α:Type}(l:List α),[]++l=l)/\∀{α:Type}(l:List α),l++[]=l:=⟨fun _ _=>rfl,fun _=>rfl,rfl,fun _ _ _=>rfl,fun _=>rfl,List.append_nil⟩
def zaM:=@BitVec.eq_of_getLsbD_eq
def zam:=@BitVec.getLsbD_zero
def zaR:=@BitVec.toNat_ofNat
def zaf:=@Bool.and_eq_true
def zau:=@Bool.and_false
def zae:=@Bool.and_true
def zaa:=@Bool.false_or
def zV:=@Bool.not_eq_true
def zaz:=@Bool.not_eq_true'
def zab:=@Bool.or_eq_true
def zaP:=@Bool.true_and
def zaT:=@Cond.before_iff
def zaZ:=@Int32.le_iff_toInt_le
def zY:=@Int32.lt_iff_toInt_lt
def zv:=@Int32.lt_irrefl
def zaC:=@Int32.toBitVec_inj
def zaK:=@List.Pairwise.imp_of_mem
def zaL:=@List.Perm.flatMap_right
def zaO:=@List.all_cons
def zw:=@List.all_eq_true
def zaX:=@List.all_nil
def zq:=@List.append_assoc
def zag:=@List.append_eq_nil_iff
def zk:=@List.append_nil
def zak:=@List.cons_append
def zj:=@List.count_append
def zaw:=@List.count_nil
def zH:=@List.count_pos_iff
def zan:=@List.exists_mem_of_ne_nil
def zaQ:=@List.filter_append
def zaV:=@List.filter_eq_nil_iff
def zn:=@List.flatMap_append
def zg:=@List.flatMap_cons
def zaG:=@List.flatMap_map
def zr:=@List.flatMap_nil
def zf:=@List.getD_eq_getElem?_getD
def zF:=@List.getElem_mem
def zd:=@List.length_append
def zs:=@List.length_cons
def zZ:=@List.length_filter_le
def zh:=@List.length_map
def zah:=@List.length_pos_iff
def zal:=@List.length_range
def zac:=@List.length_reverse
def zav:=@List.length_singleton
def zaH:=@List.length_take
def zA:=@List.map_append
def zE:=@List.map_cons
def zaE:=@List.map_eq_cons_iff
def zI:=@List.map_reverse
def zc:=@List.mem_append
def zt:=@List.mem_cons
def zx:=@List.mem_flatMap
def zD:=@List.mem_map
def zC:=@List.mem_range
def zp:=@List.mem_reverse
def zi:=@List.mem_singleton
def zJ:=@List.nil_append
def zl:=@List.nodup_append
def zS:=@List.nodup_iff_count
def zaF:=@List.nodup_nil
def zat:=@List.nodup_range
def zay:=@List.pairwise_cons
def zaD:=@List.pairwise_iff_getElem
def za0:=@List.perm_append_comm
def zO:=@List.perm_iff_count
def zaJ:=@List.perm_middle
def zas:=@List.perm_singleton
def zP:=@List.reverse_append
def zaW:=@List.reverse_cons
def zaN:=@List.reverse_eq_nil_iff
def zy:=@List.reverse_perm
def zG:=@List.reverse_reverse
def zaq:=@List.take_add_one
def zaU:=@List.take_of_length_le
def zaj:=@Nat.add_assoc
def zaY:=@Nat.add_zero
def zao:=@Nat.le_of_ble_eq_true
def zo:=@Nat.le_refl
def zN:=@Nat.le_trans
def zax:=@Nat.lt_of_lt_of_le
def zaS:=@Nat.lt_or_eq_of_le
def zaI:=@Nat.mod_eq_of_lt
def z7:=@Nat.mul_assoc
def zQ:=@Nat.mul_comm
def zap:=@Nat.mul_le_mul
def zad:=@Nat.mul_le_mul_left
def z9:=@Nat.mul_le_mul_right
def zU:=@Nat.mul_left_comm
def z8:=@Nat.mul_lt_mul_of_pos_left
def zar:=@Nat.mul_lt_mul_of_pos_right
def zaB:=@Nat.mul_one
def zX:=@Nat.mul_pos
def zL:=@Nat.zero_add
def zaA:=@Nat.zero_le
def zu:=@decide_eq_false
def zB:=@decide_eq_true
def za:=@if_neg
def zb:=@if_pos
def zai:=@of_decide_eq_true
set_option maxRecDepth 65536
set_option maxHeartbeats 4000000
def tb1:Tabs:=([(28,"kind","[I",2),(32,"parent","[I",5),(35,"degree","[I",8),(38,"kids","[I",11),(41,"live","[Z",14),(45,"savedKind","[I",17),(48,"savedParent","[I",20),(51,"savedDegree","[I",23),(54,"savedKids","[I",26),(57,"savedLive","[Z",29),(60,"label","[I",32),(63,"leafSet","[I",35),(66,"post","[I",38),(69,"stackNode","[I",41),(72,"stackIdx","[I",44),(75,"seq","[I",47),(78,"emptyKids","[I",50),(81,"fullKids","[I",53),(84,"partKids","[I",56),(87,"firstLeast","[I",59),(90,"startSet","[I",62),(93,"least","[I",65),(96,"leastPos","[I",68),(99,"n","I",0),(108,"pending","I",3),(111,"acceptedCount","I",6),(114,"rejectedCount","I",9),(138,"orderCount","I",33),(141,"startCols","I",36),(162,"root","I",12),(173,"savedRoot","I",15),(176,"postLen","I",18),(235,"emptyCount","I",24),(238,"fullCount","I",27),(241,"partCount","I",30),(250,"seqLen","I",21)],[(102,2),(105,31),(117,66),(120,18),(124,16),(128,19),(132,17),(135,35),(144,20),(147,34),(150,42),(153,36),(156,67),(159,21),(165,29),(169,30),(179,22),(182,23),(185,24),(189,40),(195,33),(198,25),(202,37),(205,43),(208,44),(211,45),(214,46),(217,39),(220,38),(223,57),(226,58),(229,59),(232,65),(244,26),(247,32),(253,50),(256,55),(259,47),(262,48),(266,49),(269,52),(273,53),(276,56),(279,54),(282,60),(285,61),(288,62),(291,51),(294,63),(297,64),(300,69),(303,28),(306,72),(309,68),(312,70),(315,71),(318,27),(321,73),(324,74),(327,75)],[],[],[],[],[])
abbrev Da(p:Nat):Ent:=(p,.aload 0,p+1,none)
abbrev Db(p k:Nat):Ent:=(p,.iload k,p+1,none)
abbrev Dc(p k:Nat):Ent:=(p,.iload k,p+2,none)
abbrev De(p k:Nat):Ent:=(p,.aload k,p+2,none)
abbrev Df(p k:Nat):Ent:=(p,.istore k,p+1,none)
abbrev Dg(p k:Nat):Ent:=(p,.istore k,p+2,none)
abbrev Dh(p k:Nat):Ent:=(p,.lload k,p+1,none)
abbrev Di(p k:Nat):Ent:=(p,.lload k,p+2,none)
abbrev Dk(p k:Nat):Ent:=(p,.lstore k,p+2,none)
abbrev Dm(p k:Nat):Ent:=(p,.astore k,p+2,none)
abbrev Dn(p:Nat)(c:Int):Ent:=(p,.iconst c,p+1,none)
abbrev Do(p:Nat)(c:Int):Ent:=(p,.iconst c,p+2,none)
abbrev Dp(p:Nat)(c:Int):Ent:=(p,.iconst c,p+3,none)
abbrev Dq(p k:Nat):Ent:=(p,.getfield k,p+3,none)
abbrev Dr(p k:Nat):Ent:=(p,.putfield k,p+3,none)
abbrev Ds(p k:Nat):Ent:=(p,.invokevirtual k,p+3,none)
abbrev Dt(p k:Nat):Ent:=(p,.invokestatic k,p+3,none)
abbrev Du(p k:Nat)(c:Int):Ent:=(p,.iinc k c,p+3,none)
abbrev Dv(p:Nat)(t:Int):Ent:=(p,.goto t,p+3,none)
abbrev Dw(p:Nat)(t:Int):Ent:=(p,.if_icmp .eq t,p+3,none)
abbrev Dx(p:Nat)(t:Int):Ent:=(p,.ifCond .eq t,p+3,none)
abbrev Dy(p:Nat)(t:Int):Ent:=(p,.if_icmp .ne t,p+3,none)
abbrev Dz(p:Nat)(t:Int):Ent:=(p,.ifCond .ne t,p+3,none)
abbrev DA(p:Nat)(t:Int):Ent:=(p,.if_icmp .lt t,p+3,none)
abbrev DB(p:Nat)(t:Int):Ent:=(p,.ifCond .lt t,p+3,none)
abbrev DC(p:Nat)(t:Int):Ent:=(p,.if_icmp .ge t,p+3,none)
abbrev DD(p:Nat)(t:Int):Ent:=(p,.ifCond .ge t,p+3,none)
abbrev DE(p:Nat)(t:Int):Ent:=(p,.if_icmp .gt t,p+3,none)
abbrev DF(p:Nat)(t:Int):Ent:=(p,.ifCond .gt t,p+3,none)
abbrev DG(p:Nat)(t:Int):Ent:=(p,.if_icmp .le t,p+3,none)
abbrev DH(p:Nat)(t:Int):Ent:=(p,.ifCond .le t,p+3,none)
abbrev DI(p:Nat):Ent:=(p,.ireturn,p+1,none)
abbrev DJ(p:Nat):Ent:=(p,.return_,p+1,none)
abbrev DK(p:Nat):Ent:=(p,.iadd,p+1,none)
abbrev DL(p:Nat):Ent:=(p,.isub,p+1,none)
abbrev DM(p:Nat):Ent:=(p,.imul,p+1,none)
abbrev DN(p:Nat):Ent:=(p,.iand,p+1,none)
abbrev DO(p:Nat):Ent:=(p,.ior,p+1,none)
abbrev DP(p:Nat):Ent:=(p,.ixor,p+1,none)
abbrev DQ(p:Nat):Ent:=(p,.ishl,p+1,none)
abbrev DR(p:Nat):Ent:=(p,.ishr,p+1,none)
abbrev DT(p:Nat):Ent:=(p,.iaload,p+1,none)
abbrev DU(p:Nat):Ent:=(p,.iastore,p+1,none)
abbrev DV(p:Nat):Ent:=(p,.baload,p+1,none)
abbrev DW(p:Nat):Ent:=(p,.bastore,p+1,none)
abbrev DX(p:Nat):Ent:=(p,.dup,p+1,none)
abbrev DZ(p:Nat):Ent:=(p,.pop,p+1,none)
abbrev Dac(p:Nat):Ent:=(p,.land,p+1,none)
abbrev Dad(p:Nat):Ent:=(p,.lor,p+1,none)
abbrev Dae(p:Nat):Ent:=(p,.lxor,p+1,none)
abbrev Daf(p:Nat):Ent:=(p,.lshl,p+1,none)
abbrev Dag(p:Nat):Ent:=(p,.lushr,p+1,none)
abbrev Dah(p:Nat):Ent:=(p,.lcmp,p+1,none)
abbrev Dai(p:Nat):Ent:=(p,.i2l,p+1,none)
abbrev Daj(p:Nat):Ent:=(p,.l2i,p+1,none)
def cx_0:List (List Ent):=[[],[],[],[],[],[],[],[],[],[],[],[],[],[Db 222 1,Df 223 2],[Db 224 2,Dn 225 1,DC 226 231,Dn 229 1,Df 230 2,(231,.iload 2,232,some 3),Do 232 8,DG 234 240,Do 237 8,Df 239 2],[(240,.aload 0,241,some 3),Db 241 2,Dr 242 0,Da 245,Ds 246 2,DJ 249]]
def cx_2:List (List Ent):=[[Da 0,Ds 1 31,Da 4,Dn 5 0,Dr 6 3,Da 9,Dn 10 0,Dr 11 6,Da 14,Dn 15 0],[Dr 16 9,Da 19,Ds 20 66,DJ 23]]
def cx_3:List (List Ent):=[[Da 0,Dn 1 0,Dr 2 3,DJ 5]]
def cx_4:List (List Ent):=[[Db 0 1,DB 1 12,Db 4 1,Da 5,Dq 6 0,DA 9 14,(12,.iconst 0,13,some 2),DI 13,Da 14,Dq 15 3],[Db 18 1,DR 19,Dn 20 1,DN 21,Dn 22 1,Dy 23 28,Dn 26 0,DI 27,Da 28,Da 29,Dq 30 3],[Dn 33 1,Db 34 1,DQ 35,DO 36,Dr 37 3,Dn 40 1,DI 41]]
def cx_5:List (List Ent):=[[Db 0 1,DB 1 12,Db 4 1,Da 5,Dq 6 0,DA 9 14,(12,.iconst 0,13,some 2),DI 13,Da 14,Dq 15 3],[Db 18 1,DR 19,Dn 20 1,DN 21,Dz 22 27,Dn 25 0,DI 26,Da 27,Da 28,Dq 29 3],[Dn 32 1,Db 33 1,DQ 34,Dn 35 (-1),DP 36,DN 37,Dr 38 3,Dn 41 1,DI 42]]
def cx_6:List (List Ent):=[[Da 0,Dq 1 3,DI 4]]
def cx_7:List (List Ent):=[[Da 0,Ds 1 18,Df 4 1,Da 5,Dq 6 3,Db 9 1,DN 10,Df 11 2,Da 12,Db 13 2,Ds 14 16],[Df 17 3,Da 18,Dn 19 0,Dr 20 3,Db 23 3,DI 24]]
def cx_8:List (List Ent):=[[Da 0,Db 1 1,Ds 2 19,Dz 5 10,Dn 8 0,DI 9,Da 10,Db 11 1,Ds 12 16,DI 15]]
def cx_9:List (List Ent):=[[Da 0,Db 1 1,Ds 2 19,Dz 5 10,Dn 8 0,DI 9,Da 10,Db 11 1,Ds 12 17,Df 15 2],[Db 16 2,Dn 17 1,Dy 18 25,Da 21,Ds 22 35,(25,.iload 2,26,some 3),DI 26]]
def cx_10:List (List Ent):=[[Da 0,Dq 1 33,DI 4]]
def cx_11:List (List Ent):=[[Db 0 1,DB 1 12,Db 4 1,Da 5,Dq 6 0,DA 9 14,(12,.iconst (-1),13,some 2),DI 13,Da 14,Dq 15 65],[Db 18 1,DT 19,DI 20]]
def cx_12:List (List Ent):=[[Db 0 1,DB 1 12,Db 4 1,Da 5,Dq 6 0,DA 9 14,(12,.iconst (-1),13,some 2),DI 13,Da 14,Dq 15 68],[Db 18 1,DT 19,DI 20]]
def cx_13:List (List Ent):=[[Da 0,Dq 1 36,DI 4]]
def cx_16:List (List Ent):=[[Da 0,Db 1 1,Ds 2 17,Df 5 2,Db 6 2,Dn 7 3,Dy 8 24,Da 11,DX 12,Dq 13 9],[Dn 16 1,DK 17,Dr 18 9,Dv 21 34,Da 24,DX 25,Dq 26 6,Dn 29 1,DK 30,Dr 31 6],[(34,.iload 2,35,some 3),Dn 35 1,Dy 36 43,Da 39,Ds 40 66,(43,.iload 2,44,some 3),DI 44]]
def cx_17:List (List Ent):=[[Da 0,Db 1 1,Ds 2 20,Dx 5 10,Dn 8 2,DI 9,Da 10,Ds 11 34,Da 14,Db 15 1],[Ds 16 42,Dz 19 28,Da 22,Ds 23 35,Dn 26 3,DI 27,Da 28,Ds 29 36],[Da 32,Ds 33 67,Df 36 2,Db 37 2,Da 38,Dq 39 33,Dy 42 51,Da 45,Ds 46 35],[Dn 49 2,DI 50,Dn 51 1,DI 52]]
def cx_18:List (List Ent):=[[Dn 0 1,Da 1,Dq 2 0,DQ 5,Dn 6 1,DL 7,DI 8]]
def cx_19:List (List Ent):=[[Da 0,Ds 1 18,Df 4 2,Db 5 1,Db 6 2,Dn 7 (-1),DP 8,DN 9,Dz 10 17,Dn 13 1,Dv 14 18],[Dn 17 0,(18,.ireturn,19,some 3)]]
def cx_20:List (List Ent):=[[Dn 0 0,Df 1 2,Dn 2 0,Df 3 3,(4,.iload 3,5,some 4),Do 5 8,DC 7 28,Db 10 1,Db 11 3,DR 12,Dn 13 1,DN 14,Dn 15 1],[Dy 16 22,Du 19 2 1,(22,.iinc 3 1,25,some 4),Dv 25 4,Db 28 2,Dn 29 1,DE 30 35],[Dn 33 1,DI 34,Da 35,Ds 36 18,Df 39 3,Db 40 1,Db 41 3,Dy 42 49,Dn 45 1,Dv 46 50],[Dn 49 0,(50,.ireturn,51,some 4)]]
def cx_21:List (List Ent):=[[Db 0 1,DB 1 14,Db 4 1,Do 5 64,DC 7 14,Dn 10 1,Dv 11 15,(14,.iconst 0,15,some 2),(15,.ireturn,16,some 2)]]
def cx_22:List (List Ent):=[[Da 0,Db 1 1,Ds 2 21,Dx 5 21,Da 8,Dq 9 2,Db 12 1,DT 13,Dx 14 21],[Dn 17 1,Dv 18 22,(21,.iconst 0,22,some 2),(22,.ireturn,23,some 2)]]
def cx_23:List (List Ent):=[[Da 0,Db 1 1,Ds 2 21,Dz 5 10,Dn 8 0,DI 9,Da 10,Dq 11 8,Db 14 1,DT 15],[Df 16 2,Db 17 2,DD 18 23,Dn 21 0,DI 22,Db 23 2,Do 24 8,DG 26 32,Do 29 8,DI 31],[Db 32 2,DI 33]]
def cx_24:List (List Ent):=[[Da 0,Db 1 1,Ds 2 21,Dx 5 18,Db 8 2,DB 9 18,Db 12 2,Do 13 8,DA 15 20],[(18,.iconst (-1),19,some 3),DI 19,Da 20,Dq 21 11,Db 24 1,Do 25 8,DM 27,Db 28 2,DK 29,DT 30,DI 31]]
def cx_25:List (List Ent):=[[Da 0,Db 1 1,Ds 2 21,Dx 5 30,Db 8 2,DB 9 30,Db 12 2,Do 13 8,DC 15 30],[Da 18,Dq 19 11,Db 22 1,Do 23 8,DM 25,Db 26 2,DK 27,Db 28 3,DU 29,(30,.return_,31,some 4)]]
def cx_26:List (List Ent):=[[Da 0,Db 1 1,Ds 2 21,Dz 5 10,Dn 8 0,DI 9,Da 10,Dq 11 32,Db 14 1,DT 15],[DI 16]]
def cx_27:List (List Ent):=[[Da 0,Db 1 1,Ds 2 21,Dz 5 11,Do 8 64,DI 10,Da 11,Dq 12 59,Db 15 1],[DT 16,DI 17]]
def cx_28:List (List Ent):=[[Da 0,Db 1 1,Ds 2 21,Dz 5 10,Dn 8 0,DI 9,Da 10,Dq 11 62,Db 14 1,DT 15],[DI 16]]
def cx_29:List (List Ent):=[[Da 0,Db 1 1,Ds 2 21,Dx 5 16,Da 8,Db 9 2,Ds 10 21,Dz 13 18],[(16,.iconst 0,17,some 3),DI 17,Da 18,Dq 19 8,Db 22 1,DT 23,Df 24 3,Db 25 3,DB 26 35,Db 29 3,Do 30 8],[DA 32 37,(35,.iconst 0,36,some 4),DI 36,Da 37,Dq 38 11,Db 41 1,Do 42 8,DM 44,Db 45 3,DK 46,Db 47 2],[DU 48,Da 49,Dq 50 8,Db 53 1,Db 54 3,Dn 55 1,DK 56,DU 57,Da 58,Dq 59 5,Db 62 2,Db 63 1],[DU 64,Dn 65 1,DI 66]]
def cx_30:List (List Ent):=[[Da 0,Db 1 1,Ds 2 21,Dz 5 9,DJ 8,Db 9 1,Do 10 8,DM 12,Df 13 2,Dn 14 0,Df 15 3],[(16,.iload 3,17,some 4),Do 17 8,DC 19 37,Da 22,Dq 23 11,Db 26 2,Db 27 3,DK 28,Dn 29 (-1),DU 30,Du 31 3 1],[Dv 34 16,Da 37,Dq 38 8,Db 41 1,Dn 42 0,DU 43,DJ 44]]
def cx_31:List (List Ent):=[[Dn 0 0,Df 1 1,(2,.iload 1,3,some 2),Do 3 64,DC 5 49,Da 8,Dq 9 2,Db 12 1,Dn 13 0,DU 14,Da 15],[Dq 16 5,Db 19 1,Dn 20 (-1),DU 21,Da 22,Dq 23 8,Db 26 1,Dn 27 0,DU 28,Da 29,Dq 30 14],[Db 33 1,Dn 34 0,DW 35,Da 36,Dq 37 32,Db 40 1,Dn 41 0,DU 42,Du 43 1 1,Dv 46 2],[Dn 49 0,Df 50 1,(51,.iload 1,52,some 2),Dp 52 512,DC 55 71,Da 58,Dq 59 11,Db 62 1,Dn 63 (-1)],[DU 64,Du 65 1 1,Dv 68 51,Dn 71 0,Df 72 1,(73,.iload 1,74,some 2),Da 74,Dq 75 0,DC 78 100],[Db 81 1,Do 82 8,DC 84 100,Da 87,Dq 88 14,Db 91 1,Dn 92 1,DW 93,Du 94 1 1],[Dv 97 73,(100,.aload 0,101,some 2),Dq 101 0,Dn 104 2,DC 105 114,Da 108,Dn 109 0,Dr 110 12],[DJ 113,Da 114,Do 115 8,Dr 117 12,Da 120,Dq 121 14,Da 124,Dq 125 12],[Dn 128 1,DW 129,Da 130,Dq 131 2,Da 134,Dq 135 12,Dn 138 1,DU 139,Dn 140 0,Df 141 1,(142,.iload 1,143,some 2),Da 143],[Dq 144 0,DC 147 172,Db 150 1,Do 151 8,DC 153 172,Da 156,Da 157,Dq 158 12],[Db 161 1,Ds 162 29,DZ 165,Du 166 1 1,Dv 169 142,(172,.return_,173,some 2)]]
def cx_32:List (List Ent):=[[Do 0 8,Df 2 3,(3,.iload 3,4,some 4),Do 4 64,DC 6 59,Da 9,Dq 10 14,Db 13 3,DV 14,Dz 15 53],[Da 18,Dq 19 14,Db 22 3,Dn 23 1,DW 24,Da 25,Dq 26 2,Db 29 3,Db 30 1,DU 31],[Da 32,Db 33 3,Ds 34 30,Da 37,Dq 38 5,Db 41 3,Dn 42 (-1),DU 43,Da 44,Dq 45 32],[Db 48 3,Db 49 2,DU 50,Db 51 3,DI 52,Du 53 3 1,Dv 56 3,Dn 59 (-1),DI 60]]
def cx_33:List (List Ent):=[[Db 0 1,Do 1 8,DA 3 12,Db 6 1,Do 7 64,DA 9 13,(12,.return_,13,some 2),Da 13,Dq 14 14],[Db 17 1,Dn 18 0,DW 19,Da 20,Db 21 1,Ds 22 30,Da 25,Dq 26 5,Db 29 1,Dn 30 (-1),DU 31],[DJ 32]]
def cx_34:List (List Ent):=[[Da 0,Da 1,Dq 2 12,Dr 5 15,Dn 8 0,Df 9 1,(10,.iload 1,11,some 2),Do 11 64,DC 13 70],[Da 16,Dq 17 17,Db 20 1,Da 21,Dq 22 2,Db 25 1,DT 26,DU 27,Da 28,Dq 29 20],[Db 32 1,Da 33,Dq 34 5,Db 37 1,DT 38,DU 39,Da 40,Dq 41 23,Db 44 1,Da 45,Dq 46 8],[Db 49 1,DT 50,DU 51,Da 52,Dq 53 29,Db 56 1,Da 57,Dq 58 14,Db 61 1,DV 62,DW 63],[Du 64 1 1,Dv 67 10,Dn 70 0,Df 71 1,(72,.iload 1,73,some 2),Dp 73 512,DC 76 97,Da 79],[Dq 80 26,Db 83 1,Da 84,Dq 85 11,Db 88 1,DT 89,DU 90,Du 91 1 1,Dv 94 72],[DJ 97]]
def cx_35:List (List Ent):=[[Da 0,Da 1,Dq 2 15,Dr 5 12,Dn 8 0,Df 9 1,(10,.iload 1,11,some 2),Do 11 64,DC 13 70],[Da 16,Dq 17 2,Db 20 1,Da 21,Dq 22 17,Db 25 1,DT 26,DU 27,Da 28,Dq 29 5],[Db 32 1,Da 33,Dq 34 20,Db 37 1,DT 38,DU 39,Da 40,Dq 41 8,Db 44 1,Da 45,Dq 46 23],[Db 49 1,DT 50,DU 51,Da 52,Dq 53 14,Db 56 1,Da 57,Dq 58 29,Db 61 1,DV 62,DW 63],[Du 64 1 1,Dv 67 10,Dn 70 0,Df 71 1,(72,.iload 1,73,some 2),Dp 73 512,DC 76 97,Da 79],[Dq 80 11,Db 83 1,Da 84,Dq 85 26,Db 88 1,DT 89,DU 90,Du 91 1 1,Dv 94 72],[DJ 97]]
def cx_36:List (List Ent):=[[Da 0,Dn 1 0,Dr 2 18,Da 5,Da 6,Dq 7 12,Ds 10 21,Dz 13 17],[DJ 16,Da 17,Dq 18 41,Dn 21 0,Da 22,Dq 23 12,DU 26,Da 27,Dq 28 44,Dn 31 0],[Dn 32 0,DU 33,Dn 34 1,Df 35 1,Dn 36 0,Df 37 2,(38,.iload 2,39,some 3),Dp 39 1024,DC 42 185,Db 45 1,DH 46 185],[Db 49 1,Dn 50 1,DL 51,Df 52 3,Da 53,Dq 54 41,Db 57 3,DT 58,Dg 59 4,Da 61,Dq 62 44],[Db 65 3,DT 66,Dg 67 5,Da 69,Dc 70 4,Ds 72 22,Dx 75 146,Dc 78 5],[Da 80,Dc 81 4,Ds 83 23,DC 86 146,Da 89,Dq 90 44,Db 93 3,Dc 94 5],[Dn 96 1,DK 97,DU 98,Da 99,Dc 100 4,Dc 102 5,Ds 104 24,Dg 107 6,Da 109,Dc 110 6],[Ds 112 21,Dx 115 143,Db 118 1,Dp 119 128,DC 122 143,Da 125,Dq 126 41],[Db 129 1,Dc 130 6,DU 132,Da 133,Dq 134 44,Db 137 1,Dn 138 0,DU 139,Du 140 1 1,(143,.goto 179,146,some 7)],[(146,.iinc 1 (-1),149,some 6),Da 149,Dq 150 18,Do 153 64,DC 155 179,Da 158,Dq 159 38],[Da 162,Dq 163 18,Dc 166 4,DU 168,Da 169,DX 170,Dq 171 18,Dn 174 1,DK 175],[Dr 176 18,(179,.iinc 2 1,182,some 6),Dv 182 38,(185,.return_,186,some 3)]]
def cx_37:List (List Ent):=[[Dn 0 0,Df 1 1,(2,.iload 1,3,some 2),Da 3,Dq 4 18,DC 7 138,Db 10 1,Do 11 64,DC 13 138],[Da 16,Dq 17 38,Db 20 1,DT 21,Df 22 2,Da 23,Db 24 2,Ds 25 21,Dz 28 34,Dv 31 132],[Da 34,Dq 35 2,Db 38 2,DT 39,Dz 40 65,Da 43,Dq 44 35,Db 47 2],[Db 48 2,Do 49 8,DC 51 60,Dn 54 1,Db 55 2,DQ 56,Dv 57 61,Dn 60 0,(61,.iastore,62,some 3),Dv 62 132],[Dn 65 0,Df 66 3,Da 67,Db 68 2,Ds 69 23,Dg 72 4,Dn 74 0,Dg 75 5,(77,.iload 5,79,some 6),Dc 79 4],[DC 81 125,Dc 84 5,Do 86 8,DC 88 125,Da 91,Db 92 2,Dc 93 5,Ds 95 24],[Dg 98 6,Da 100,Dc 101 6,Ds 103 21,Dx 106 119,Db 109 3,Da 110,Dq 111 35],[Dc 114 6,DT 116,DO 117,Df 118 3,(119,.iinc 5 1,122,some 7),Dv 122 77,(125,.aload 0,126,some 6),Dq 126 35],[Db 129 2,Db 130 3,DU 131,(132,.iinc 1 1,135,some 3),Dv 135 2,(138,.return_,139,some 2)]]
def cx_38:List (List Ent):=[[Da 0,Ds 1 36,Do 4 8,Df 6 1,(7,.iload 1,8,some 2),Do 8 64,DC 10 26,Da 13,Dq 14 14],[Db 17 1,Dn 18 0,DW 19,Du 20 1 1,Dv 23 7,Dn 26 0,Df 27 1,(28,.iload 1,29,some 2),Da 29,Dq 30 18],[DC 33 70,Db 36 1,Do 37 64,DC 39 70,Da 42,Dq 43 38,Db 46 1,DT 47],[Df 48 2,Da 49,Db 50 2,Ds 51 21,Dx 54 64,Da 57,Dq 58 14,Db 61 2,Dn 62 1,DW 63],[(64,.iinc 1 1,67,some 3),Dv 67 28,(70,.iconst 0,71,some 2),Df 71 1,(72,.iload 1,73,some 2),Da 73,Dq 74 0,DC 77 99],[Db 80 1,Do 81 8,DC 83 99,Da 86,Dq 87 14,Db 90 1,Dn 91 1,DW 92,Du 93 1 1],[Dv 96 72,(99,.return_,100,some 2)]]
def cx_39:List (List Ent):=[[Dn 0 0,Df 1 1,Db 2 1,Do 3 64,DC 5 33,Da 8,Ds 9 36,Da 12,Ds 13 40],[Df 16 2,Db 17 2,DD 18 22,DJ 21,Da 22,Db 23 2],[DJ 33]]
def cx_40:List (List Ent):=[[Dn 0 0,Df 1 1,(2,.iload 1,3,some 2),Da 3,Dq 4 18,DC 7 75,Db 10 1,Do 11 64,DC 13 75],[Da 16,Dq 17 38,Db 20 1,DT 21,Df 22 2,Da 23,Db 24 2,Ds 25 22,Dz 28 34,Dv 31 69],[Da 34,Db 35 2,Ds 36 23,Df 39 3,Da 40,Dq 41 2,Db 44 2,DT 45,Dn 46 2,Dy 47 62],[Db 50 3,Dn 51 2,Dy 52 62,Da 55,Dq 56 2,Db 59 2,Dn 60 1,DU 61,(62,.iload 3,63,some 4),Dn 63 1],[Dy 64 69,Db 67 2,DI 68,(69,.iinc 1 1,72,some 3),Dv 72 2,(75,.iconst (-1),76,some 2),DI 76]]
def cx_42:List (List Ent):=[[Da 0,Ds 1 36,Da 4,Ds 5 37,Da 8,Db 9 1,Ds 10 43,Da 13,Db 14 1,Ds 15 44],[Df 18 2,Db 19 2,DD 20 25,Dn 23 0,DI 24,Dn 25 0,Df 26 3,(27,.iload 3,28,some 4),Db 28 2,DC 29 84],[Db 32 3,Do 33 64,DC 35 84,Da 38,Dq 39 38,Db 42 3,DT 43,Dg 44 4,Da 46,Dc 47 4],[Ds 49 22,Dx 52 78,Da 55,Dq 56 35,Dc 59 4,DT 61,Db 62 1,DN 63],[Dx 64 78,Da 67,Dc 68 4,Ds 70 45,Dz 73 78,Dn 76 0,DI 77,(78,.iinc 3 1,81,some 5)],[Dv 81 27,(84,.aload 0,85,some 4),Dq 85 38,Db 88 2,DT 89,Df 90 3,Da 91,Db 92 3,Ds 93 46],[Dz 96 101,Dn 99 0,DI 100,Da 101,Ds 102 39,Da 105,Ds 106 38,Dn 109 1,DI 110]]
def cx_43:List (List Ent):=[[Dn 0 0,Df 1 2,(2,.iload 2,3,some 3),Do 3 64,DC 5 21,Da 8,Dq 9 32,Db 12 2,Dn 13 0,DU 14,Du 15 2 1],[Dv 18 2,Dn 21 0,Df 22 2,(23,.iload 2,24,some 3),Da 24,Dq 25 0,DC 28 59,Db 31 2],[Do 32 8,DC 34 59,Db 37 1,Db 38 2,DR 39,Dn 40 1,DN 41,Dn 42 1,Dy 43 53,Da 46,Dq 47 32],[Db 50 2,Dn 51 1,DU 52,(53,.iinc 2 1,56,some 3),Dv 56 23,(59,.return_,60,some 3)]]
def cx_44:List (List Ent):=[[Dn 0 0,Df 1 2,(2,.iload 2,3,some 3),Da 3,Dq 4 18,DC 7 51,Db 10 2,Do 11 64,DC 13 51],[Da 16,Dq 17 38,Db 20 2,DT 21,Df 22 3,Da 23,Db 24 3,Ds 25 21,Dx 28 45,Da 31],[Dq 32 35,Db 35 3,DT 36,Db 37 1,DN 38,Db 39 1,Dy 40 45,Db 43 2,DI 44,(45,.iinc 2 1,48,some 4)],[Dv 48 2,(51,.iconst (-1),52,some 3),DI 52]]
def cx_45:List (List Ent):=[[Da 0,Dq 1 2,Db 4 1,DT 5,Dn 6 1,Dy 7 16,Da 10,Db 11 1,Ds 12 57,DI 15],[Da 16,Db 17 1,Ds 18 58,DI 21]]
def cx_46:List (List Ent):=[[Da 0,Db 1 1,Ds 2 22,Dz 5 10,Dn 8 1,DI 9,Da 10,Dq 11 2,Db 14 1,DT 15],[Dn 16 1,Dy 17 26,Da 20,Db 21 1,Ds 22 59,DI 25,Da 26,Db 27 1,Ds 28 65,DI 31]]
def cx_47:List (List Ent):=[[Da 0,Dn 1 0,Dr 2 24,Da 5,Dn 6 0,Dr 7 27,Da 10,Dn 11 0,Dr 12 30,Da 15],[Db 16 1,Ds 17 23,Df 20 2,Dn 21 0,Df 22 3,(23,.iload 3,24,some 4),Db 24 2,DC 25 164,Db 28 3,Do 29 8,DC 31 164],[Da 34,Db 35 1,Db 36 3,Ds 37 24,Dg 40 4,Da 42,Dc 43 4,Ds 45 26],[Dg 48 5,Dc 50 5,Dn 52 1,Dy 53 89,Da 56,Dq 57 27,Do 60 8,DC 62 89],[Da 65,Dq 66 53,Da 69,Dq 70 27,Dc 73 4,DU 75,Da 76,DX 77,Dq 78 27],[Dn 81 1,DK 82,Dr 83 27,Dv 86 158,(89,.iload 5,91,some 6),Dn 91 2,Dy 92 128,Da 95],[Dq 96 30,Do 99 8,DC 101 128,Da 104,Dq 105 56,Da 108,Dq 109 30],[Dc 112 4,DU 114,Da 115,DX 116,Dq 117 30,Dn 120 1,DK 121,Dr 122 30,Dv 125 158],[(128,.aload 0,129,some 6),Dq 129 24,Do 132 8,DC 134 158,Da 137,Dq 138 50,Da 141,Dq 142 24],[Dc 145 4,DU 147,Da 148,DX 149,Dq 150 24,Dn 153 1,DK 154,Dr 155 24,(158,.iinc 3 1,161,some 6)],[Dv 161 23,(164,.return_,165,some 4)]]
def cx_48:List (List Ent):=[[Db 0 1,Dx 1 11,Da 4,Dq 5 27,Dv 8 15,Da 11,Dq 12 24,(15,.istore 2,16,some 2)],[Db 16 2,DF 17 22,Dn 20 (-1),DI 21,Db 22 2,Dn 23 1,Dy 24 47,Db 27 1,Dx 28 40,Da 31],[Dq 32 53,Dn 35 0,DT 36,Dv 37 46,Da 40,Dq 41 50,Dn 44 0,DT 45,(46,.ireturn,47,some 3),Db 47 1],[Dx 48 55,Dn 51 1,Dv 52 56,Dn 55 0,(56,.istore 3,57,some 3),Da 57,Dn 58 1,Db 59 3,Ds 60 32,Dg 63 4],[Dc 65 4,DD 67 73,Do 70 (-2),DI 72,Dn 73 0,Dg 74 5,(76,.iload 5,78,some 6),Db 78 2,DC 79 127],[Dc 82 5,Do 84 8,DC 86 127,Db 89 1,Dx 90 103,Da 93,Dq 94 53],[Dc 97 5,DT 99,Dv 100 110,Da 103,Dq 104 50,Dc 107 5,DT 109,(110,.istore 6,112,some 6)],[Da 112,Dc 113 4,Dc 115 6,Ds 117 29,DZ 120,Du 121 5 1,Dv 124 76,(127,.iload 4,129,some 6)],[DI 129]]
def cx_49:List (List Ent):=[[Da 0,Dn 1 0,Dr 2 21,DJ 5]]
def cx_50:List (List Ent):=[[Db 0 1,DD 1 5,DJ 4,Da 5,Dq 6 21,Do 9 16,DC 11 34,Da 14,Dq 15 47],[Da 18,Dq 19 21,Db 22 1,DU 23,Da 24,DX 25,Dq 26 21,Dn 29 1,DK 30,Dr 31 21],[(34,.return_,35,some 2)]]
def cx_51:List (List Ent):=[[Dn 0 0,Df 1 1,(2,.iload 1,3,some 2),Da 3,Dq 4 24,DC 7 32,Db 10 1,Do 11 8,DC 13 32],[Da 16,Da 17,Dq 18 50,Db 21 1,DT 22,Ds 23 50,Du 26 1 1,Dv 29 2],[(32,.return_,33,some 2)]]
def cx_52:List (List Ent):=[[Da 0,Db 1 1,Ds 2 23,Df 5 3,Dn 6 0,Dg 7 4,(9,.iload 4,11,some 5),Db 11 3,DC 12 60,Dc 15 4],[Do 17 8,DC 19 60,Db 22 2,Dx 23 35,Db 26 3,Dn 27 1,DL 28,Dc 29 4,DL 31],[Dv 32 37,Dc 35 4,(37,.istore 5,39,some 5),Da 39,Db 40 1,Dc 41 5,Ds 43 24,Dg 46 6],[Da 48,Dc 49 6,Ds 51 50,Du 54 4 1,Dv 57 9,(60,.return_,61,some 5)]]
def cx_53:List (List Ent):=[[Da 0,Db 1 1,Ds 2 21,Dx 5 17,Da 8,Dq 9 21,Do 12 8,DG 14 19],[(17,.iconst 0,18,some 2),DI 18,Da 19,Db 20 1,Ds 21 30,Dn 24 0,Df 25 2,(26,.iload 2,27,some 3),Da 27,Dq 28 21,DC 31 62],[Db 34 2,Do 35 16,DC 37 62,Da 40,Db 41 1,Da 42,Dq 43 47,Db 46 2,DT 47],[Ds 48 29,Dz 51 56,Dn 54 0,DI 55,Du 56 2 1,Dv 59 26,(62,.iconst 1,63,some 3),DI 63]]
def cx_54:List (List Ent):=[[Da 0,Db 1 1,Ds 2 23,Df 5 2,Dn 6 0,Df 7 3,(8,.iload 3,9,some 4),Do 9 8,DC 11 68,Db 14 2,Dn 15 1],[DL 16,Db 17 3,DL 18,Dg 19 4,Db 21 3,Dc 22 4,DA 24 28,DJ 27,Da 28,Db 29 1,Db 30 3,Ds 31 24],[Dg 34 5,Da 36,Db 37 1,Dc 38 4,Ds 40 24,Dg 43 6,Da 45,Db 46 1,Db 47 3],[Dc 48 6,Ds 50 25,Da 53,Db 54 1,Dc 55 4,Dc 57 5,Ds 59 25,Du 62 3 1],[Dv 65 8,DJ 68]]
def cx_55:List (List Ent):=[[Db 0 1,Dz 1 6,Dn 4 0,DI 5,Db 6 1,Dn 7 2,Dy 8 13,Dn 11 1,DI 12,Dn 13 2,DI 14]]
def cx_56:List (List Ent):=[[Da 0,Db 1 1,Ds 2 23,Df 5 2,Dn 6 1,Df 7 3,Dn 8 1,Dg 9 4,Dn 11 (-1),Dg 12 5,Dn 14 0,Dg 15 6],[(17,.iload 6,19,some 7),Db 19 2,DC 20 94,Dc 23 6,Do 25 8,DC 27 94,Da 30,Db 31 1],[Dc 32 6,Ds 34 24,Dg 37 7,Da 39,Dc 40 7,Ds 42 26,Dg 45 8,Da 47],[Dc 48 8,Ds 50 55,Dg 53 9,Dc 55 6,DH 57 69,Dc 60 9,Dc 62 5],[DC 64 69,Dn 67 0,Df 68 3,(69,.iload 6,71,some 10),DH 71 84,Dc 74 9,Dc 76 5,DG 78 84],[Dn 81 0,Dg 82 4,(84,.iload 9,86,some 10),Dg 86 5,Du 88 6 1,Dv 91 17,(94,.iload 3,95,some 7),Dx 95 100],[Dn 98 1,DI 99,Dc 100 4,Dx 102 107,Dn 105 (-1),DI 106,Dn 107 0,DI 108]]
def cx_57:List (List Ent):=[[Da 0,Db 1 1,Ds 2 47,Da 5,Dq 6 30,Dn 9 2,DA 10 15,Dn 13 0,DI 14,Da 15],[Dq 16 30,Dz 19 38,Da 22,Dq 23 24,Dz 26 38,Da 29,Dq 30 32],[Db 33 1,Dn 34 1,DU 35,Dn 36 1,DI 37,(38,.aload 0,39,some 2),Dq 39 30,Dz 42 61,Da 45,Dq 46 27],[Dz 49 61,Da 52,Dq 53 32,Db 56 1,Dn 57 0,DU 58,Dn 59 1,DI 60,(61,.aload 0,62,some 2),Dq 62 30],[Dn 65 1,Dy 66 78,Da 69,Dq 70 56,Dn 73 0,DT 74,Dv 75 79,Dn 78 (-1),(79,.istore 2,80,some 2)],[Da 80,Dn 81 0,Ds 82 48,Df 85 3,Da 86,Dn 87 1,Ds 88 48,Dg 91 4,Db 93 3,Dn 94 (-1),DA 95 104],[Dc 98 4,Dn 100 (-1),DC 101 106,(104,.iconst 0,105,some 5),DI 105,Da 106,Ds 107 49,Da 110,Db 111 3],[Ds 112 50,Db 115 2,DB 116 125,Da 119,Db 120 2,Dn 121 0,Ds 122 52,(125,.aload 0,126,some 5),Dc 126 4],[Ds 128 50,Da 131,Dq 132 2,Db 135 1,Dn 136 2,DU 137,Da 138,Dq 139 32,Db 142 1,Dn 143 2],[DU 144,Da 145,Db 146 1,Ds 147 53,Dz 150 155,Dn 153 0,DI 154,Da 155,Db 156 2,Ds 157 33],[Dn 160 1,DI 161]]
def cx_58:List (List Ent):=[[Da 0,Db 1 1,Ds 2 47,Da 5,Dq 6 30,Dn 9 2,DA 10 15,Dn 13 0,DI 14,Da 15],[Dq 16 30,Dz 19 38,Da 22,Dq 23 24,Dz 26 38,Da 29,Dq 30 32],[Db 33 1,Dn 34 1,DU 35,Dn 36 1,DI 37,(38,.aload 0,39,some 2),Dq 39 30,Dz 42 61,Da 45,Dq 46 27],[Dz 49 61,Da 52,Dq 53 32,Db 56 1,Dn 57 0,DU 58,Dn 59 1,DI 60,(61,.aload 0,62,some 2),Db 62 1,Ds 63 56],[Df 66 2,Db 67 2,Dz 68 73,Dn 71 0,DI 72,Db 73 2,DD 74 82,Da 77,Db 78 1,Ds 79 54],[(82,.aload 0,83,some 3),Dq 83 30,Dn 86 1,Dy 87 99,Da 90,Dq 91 56,Dn 94 0,DT 95],[Dv 96 100,Dn 99 (-1),(100,.istore 3,101,some 3),Da 101,Ds 102 49,Da 105,Db 106 1,Ds 107 23,Dg 110 4],[Dn 112 0,Dg 113 5,(115,.iload 5,117,some 6),Dc 117 4,DC 119 166,Dc 122 5,Do 124 8,DC 126 166],[Da 129,Db 130 1,Dc 131 5,Ds 133 24,Dg 136 6,Dc 138 6,Db 140 3,Dy 141 154],[Da 144,Dc 145 6,Dn 147 0,Ds 148 52,Dv 151 160,Da 154,Dc 155 6,Ds 157 50],[(160,.iinc 5 1,163,some 7),Dv 163 115,(166,.aload 0,167,some 6),Db 167 1,Ds 168 53,Dz 171 176,Dn 174 0,DI 175],[Da 176,Db 177 3,Ds 178 33,Da 181,Dq 182 32,Db 185 1,Dn 186 2,DU 187,Dn 188 1,DI 189]]
def cx_59:List (List Ent):=[[Da 0,Db 1 1,Ds 2 47,Da 5,Dq 6 30,Dn 9 3,DA 10 15,Dn 13 0,DI 14,Da 15],[Dq 16 30,Dz 19 28,Da 22,Db 23 1,Ds 24 60,DI 27,Da 28,Dq 29 30],[Dn 32 1,Dy 33 42,Da 36,Db 37 1,Ds 38 61,DI 41,Da 42,Db 43 1,Ds 44 62,DI 47]]
def cx_60:List (List Ent):=[[Da 0,Dq 1 24,Dx 4 15,Da 7,Dq 8 27,Dn 11 2,DC 12 17,(15,.iconst 1,16,some 2)],[DI 16,Da 17,Dn 18 1,Ds 19 48,Df 22 2,Db 23 2,DD 24 29,Dn 27 0,DI 28,Da 29,Ds 30 49],[Da 33,Ds 34 51,Da 37,Db 38 2,Ds 39 50,Da 42,Db 43 1,Ds 44 53,DI 47]]
def cx_61:List (List Ent):=[[Da 0,Dq 1 56,Dn 4 0,DT 5,Df 6 2,Da 7,Dn 8 1,Ds 9 48,Df 12 3,Db 13 3,Dn 14 (-1),DC 15 20],[Dn 18 0,DI 19,Da 20,Ds 21 49,Da 24,Db 25 2,Dn 26 0,Ds 27 52,Da 30,Db 31 3],[Ds 32 50,Da 35,Dq 36 24,Dz 39 66,Da 42,Dq 43 2,Db 46 1,Dn 47 2],[DU 48,Da 49,Db 50 1,Ds 51 53,Dz 54 59,Dn 57 0,DI 58,Da 59,Db 60 2,Ds 61 33],[Dn 64 1,DI 65,Da 66,Dq 67 2,Db 70 2,Dn 71 2,DU 72,Da 73,Db 74 2,Ds 75 53,Dz 78 83],[Dn 81 0,DI 82,Da 83,Ds 84 49,Da 87,Ds 88 51,Da 91,Db 92 2,Ds 93 50],[Da 96,Db 97 1,Ds 98 53,DI 101]]
def cx_62:List (List Ent):=[[Da 0,Dq 1 56,Dn 4 0,DT 5,Df 6 2,Da 7,Dq 8 56,Dn 11 1,DT 12,Df 13 3,Da 14,Dn 15 1],[Ds 16 48,Dg 19 4,Dc 21 4,Dn 23 (-1),DC 24 29,Dn 27 0,DI 28,Da 29,Ds 30 49],[Da 33,Db 34 2,Dn 35 0,Ds 36 52,Da 39,Dc 40 4,Ds 42 50,Da 45,Db 46 3,Dn 47 1],[Ds 48 52,Da 51,Dq 52 24,Dz 55 87,Da 58,Dq 59 2,Db 62 1,Dn 63 2],[DU 64,Da 65,Db 66 1,Ds 67 53,Dz 70 75,Dn 73 0,DI 74,Da 75,Db 76 2,Ds 77 33],[Da 80,Db 81 3,Ds 82 33,Dn 85 1,DI 86,Da 87,Dq 88 2,Db 91 2,Dn 92 2,DU 93,Da 94,Db 95 2],[Ds 96 53,Dz 99 104,Dn 102 0,DI 103,Da 104,Db 105 3,Ds 106 33,Da 109,Ds 110 49],[Da 113,Ds 114 51,Da 117,Db 118 2,Ds 119 50,Da 122,Db 123 1,Ds 124 53,DI 127]]
def cx_63:List (List Ent):=[[Da 0,Db 1 1,Ds 2 23,Df 5 2,Dn 6 0,Df 7 3,(8,.iload 3,9,some 4),Db 9 2,DC 10 44,Db 13 3,Do 14 8],[DC 16 44,Da 19,Db 20 1,Db 21 3,Ds 22 24,Dg 25 4,Da 27,Dc 28 4,Ds 30 26],[Dx 33 38,Db 36 3,DI 37,Du 38 3 1,Dv 41 8,(44,.iconst (-1),45,some 4),DI 45]]
def cx_64:List (List Ent):=[[Da 0,Db 1 1,Ds 2 23,Df 5 2,Db 6 2,Dn 7 1,DL 8,Df 9 3,(10,.iload 3,11,some 4),DB 11 45,Db 14 3,Do 15 8],[DC 17 45,Da 20,Db 21 1,Db 22 3,Ds 23 24,Dg 26 4,Da 28,Dc 29 4,Ds 31 26],[Dx 34 39,Db 37 3,DI 38,Du 39 3 (-1),Dv 42 10,(45,.iconst (-1),46,some 4),DI 46]]
def cx_65:List (List Ent):=[[Da 0,Db 1 1,Ds 2 63,Df 5 2,Da 6,Db 7 1,Ds 8 64,Df 11 3,Db 12 2,DD 13 18],[Dn 16 1,DI 17,Db 18 2,Dn 19 1,DK 20,Dg 21 4,(23,.iload 4,25,some 5),Db 25 3,DC 26 63,Dc 29 4,Do 31 8],[DC 33 63,Da 36,Db 37 1,Dc 38 4,Ds 40 24,Dg 43 5,Da 45,Dc 46 5],[Ds 48 26,Dn 51 1,Dw 52 57,Dn 55 0,DI 56,Du 57 4 1,Dv 60 23,(63,.aload 0,64,some 5)],[Ds 64 49,Da 67,Db 68 1,Ds 69 23,Dg 72 4,Dn 74 0,Dg 75 5,(77,.iload 5,79,some 6),Dc 79 4],[DC 81 156,Dc 84 5,Do 86 8,DC 88 156,Da 91,Db 92 1,Dc 93 5,Ds 95 24],[Dg 98 6,Da 100,Dc 101 6,Ds 103 26,Dg 106 7,Dc 108 7,Dn 110 2,Dy 111 144],[Dc 114 5,Db 116 3,Dy 117 130,Dc 120 5,Db 122 2,Dw 123 130,Dn 126 1,Dv 127 131],[(130,.iconst 0,131,some 8),(131,.istore 8,133,some 8),Da 133,Dc 134 6,Dc 136 8,Ds 138 52,Dv 141 150],[Da 144,Dc 145 6,Ds 147 50,(150,.iinc 5 1,153,some 8),Dv 153 77,(156,.aload 0,157,some 6),Db 157 1,Ds 158 53],[DI 161]]
def cx_66:List (List Ent):=[[Da 0,Ds 1 36,Da 4,Ds 5 69,Da 8,Da 9,Ds 10 67,Dr 13 33],[Da 16,Da 17,Da 18,Dq 19 12,Ds 22 28,Dr 25 36,Da 28,Ds 29 72],[DJ 32]]
def cx_67:List (List Ent):=[[Dn 0 1,Df 1 1,Dn 2 0,Df 3 2,(4,.iload 2,5,some 3),Da 5,Dq 6 18,DC 9 75,Db 12 2,Do 13 64,DC 15 75],[Da 18,Dq 19 38,Db 22 2,DT 23,Df 24 3,Da 25,Db 26 3,Ds 27 22,Dz 30 36],[Dv 33 69,Da 36,Db 37 3,Ds 38 23,Dg 41 4,Da 43,Dq 44 2,Db 47 3],[DT 48,Dn 49 1,Dy 50 65,Db 53 1,Da 54,Dc 55 4,Ds 57 68,DM 60,Df 61 1,Dv 62 69],[Db 65 1,Dn 66 2,DM 67,Df 68 1,(69,.iinc 2 1,72,some 4),Dv 72 4,(75,.iload 1,76,some 3),DI 76]]
def cx_68:List (List Ent):=[[Dn 0 1,Df 1 2,Dn 2 2,Df 3 3,(4,.iload 3,5,some 4),Db 5 1,DE 6 25,Db 9 3,Do 10 8,DE 12 25,Db 15 2],[Db 16 3,DM 17,Df 18 2,Du 19 3 1,Dv 22 4,(25,.iload 2,26,some 4),DI 26]]
def cx_69:List (List Ent):=[[Dn 0 0,Df 1 1,(2,.iload 1,3,some 2),Da 3,Dq 4 18,DC 7 101,Db 10 1,Do 11 64,DC 13 101],[Da 16,Dq 17 38,Db 20 1,DT 21,Df 22 2,Da 23,Db 24 2,Ds 25 21,Dz 28 34,Dv 31 95],[Da 34,Dq 35 2,Db 38 2,DT 39,Dz 40 72,Da 43,Dq 44 59,Db 47 2],[Db 48 2,DU 49,Da 50,Dq 51 62,Db 54 2,Db 55 2,Do 56 8,DC 58 67,Dn 61 1,Db 62 2,DQ 63],[Dv 64 68,Dn 67 0,(68,.iastore,69,some 3),Dv 69 95,Da 72,Dq 73 2,Db 76 2,DT 77,Dn 78 1,Dy 79 90],[Da 82,Db 83 2,Ds 84 70,Dv 87 95,Da 90,Db 91 2,Ds 92 71,(95,.iinc 1 1,98,some 3)],[Dv 98 2,(101,.return_,102,some 2)]]
def cx_70:List (List Ent):=[[Do 0 64,Df 2 2,Dn 3 0,Df 4 3,Da 5,Db 6 1,Ds 7 23,Dg 10 4,Dn 12 0,Dg 13 5,(15,.iload 5,17,some 6)],[Dc 17 4,DC 19 82,Dc 22 5,Do 24 8,DC 26 82,Da 29,Db 30 1,Dc 31 5],[Ds 33 24,Dg 36 6,Da 38,Dc 39 6,Ds 41 21,Dx 44 76,Da 47],[Dq 48 59,Dc 51 6,DT 53,Db 54 2,DC 55 66,Da 58,Dq 59 59,Dc 62 6],[DT 64,Df 65 2,(66,.iload 3,67,some 7),Da 67,Dq 68 62,Dc 71 6,DT 73,DO 74,Df 75 3,(76,.iinc 5 1,79,some 7),Dv 79 15],[(82,.aload 0,83,some 6),Dq 83 59,Db 86 1,Db 87 2,DU 88,Da 89,Dq 90 62,Db 93 1,Db 94 3,DU 95],[DJ 96]]
def cx_71:List (List Ent):=[[Da 0,Db 1 1,Ds 2 23,Df 5 2,Da 6,Db 7 1,Dn 8 0,Ds 9 24,Df 12 3,Da 13,Db 14 1,Db 15 2],[Dn 16 1,DL 17,Ds 18 24,Dg 21 4,Da 23,Db 24 3,Ds 25 27,Dg 28 5,Da 30,Dc 31 4],[Ds 33 27,Dg 36 6,Da 38,Dq 39 59,Db 42 1,Dc 43 5,Dc 45 6,DC 47 55],[Dc 50 5,Dv 52 57,Dc 55 6,(57,.iastore,58,some 7),Da 58,Db 59 3,Ds 60 28,Dg 63 7],[Da 65,Dc 66 4,Ds 68 28,Dg 71 8,Da 73,Dq 74 62,Db 77 1,Dc 78 7],[Dc 80 8,DO 82,DU 83,DJ 84]]
def cx_72:List (List Ent):=[[Dn 0 0,Df 1 1,(2,.iload 1,3,some 2),Do 3 8,DC 5 28,Da 8,Dq 9 65,Db 12 1,Dn 13 (-1),DU 14,Da 15],[Dq 16 68,Db 19 1,Dn 20 (-1),DU 21,Du 22 1 1,Dv 25 2,Da 28,Da 29,Dq 30 12],[Ds 33 21,Dz 36 40,DJ 39,Da 40,Dq 41 41,Dn 44 0,Da 45,Dq 46 12],[DU 49,Dn 50 1,Df 51 1,Dn 52 0,Df 53 2,Dn 54 0,Df 55 3,(56,.iload 3,57,some 4),Dp 57 1024,DC 60 163,Db 63 1],[DH 64 163,Du 67 1 (-1),Da 70,Dq 71 41,Db 74 1,DT 75,Dg 76 4,Da 78,Dc 79 4],[Ds 81 21,Dz 84 90,Dv 87 157,Da 90,Dq 91 2,Dc 94 4],[DT 96,Dz 97 127,Db 100 2,Do 101 8,DC 103 157,Dc 106 4,Do 108 8,DC 110 157],[Da 113,Dq 114 65,Db 117 2,Dc 118 4,DU 120,Du 121 2 1,Dv 124 157,Da 127],[Dq 128 2,Dc 131 4,DT 133,Dn 134 1,Dy 135 149,Da 138,Dc 139 4,Db 141 1,Ds 142 73],[Df 145 1,Dv 146 157,Da 149,Dc 150 4,Db 152 1,Ds 153 74,Df 156 1,(157,.iinc 3 1,160,some 5)],[Dv 160 56,(163,.aload 0,164,some 4),Ds 164 75,DJ 167]]
def cx_73:List (List Ent):=[[Da 0,Db 1 1,Ds 2 23,Df 5 3,Dn 6 0,Dg 7 4,Db 9 2,Dg 10 5,Dn 12 0,Dg 13 6,(15,.iload 6,17,some 7)],[Db 17 3,DC 18 166,Dc 21 6,Do 23 8,DC 25 166,Dn 28 (-1),Dg 29 7,Dn 31 (-1)],[Dg 32 8,Dn 34 0,Dg 35 9,(37,.iload 9,39,some 10),Db 39 3,DC 40 114,Dc 43 9,Do 45 8,DC 47 114],[Da 50,Db 51 1,Dc 52 9,Ds 54 24,Dg 57 10,Dc 59 4,Dc 61 9,DR 63],[Dn 64 1,DN 65,Dz 66 108,Da 69,Dc 70 10,Ds 72 21,Dx 75 108,Dc 78 7],[DB 80 95,Da 83,Dq 84 59,Dc 87 10,DT 89,Dc 90 8,DG 92 108,(95,.iload 9,97,some 11)],[Dg 97 7,Da 99,Dq 100 59,Dc 103 10,DT 105,Dg 106 8,(108,.iinc 9 1,111,some 11),Dv 111 37],[(114,.iload 7,116,some 10),DD 116 122,Dc 119 5,DI 121,Dc 122 4,Dn 124 1,Dc 125 7,DQ 127],[DO 128,Dg 129 4,Da 131,Db 132 1,Dc 133 7,Ds 135 24,Dg 138 9,Dc 140 5,Dp 142 128],[DC 145 160,Da 148,Dq 149 41,Dc 152 5,Dc 154 9,DU 156,Du 157 5 1],[(160,.iinc 6 1,163,some 10),Dv 163 15,(166,.iload 5,168,some 7),DI 168]]
def cx_74:List (List Ent):=[[Da 0,Db 1 1,Ds 2 23,Df 5 3,Db 6 3,DF 7 12,Db 10 2,DI 11,Da 12,Db 13 1,Dn 14 0,Ds 15 24],[Dg 18 4,Da 20,Db 21 1,Db 22 3,Dn 23 1,DL 24,Ds 25 24,Dg 28 5,Da 30,Dc 31 4],[Ds 33 27,Dg 36 6,Da 38,Dc 39 5,Ds 41 27,Dg 44 7,Db 46 2,Dg 47 8],[Dn 49 0,Dg 50 9,(52,.iload 9,54,some 10),Db 54 3,DC 55 120,Dc 58 9,Do 60 8,DC 62 120],[Dc 65 6,Dc 67 7,DC 69 81,Db 72 3,Dn 73 1,DL 74,Dc 75 9,DL 77,Dv 78 83],[Dc 81 9,(83,.istore 10,85,some 10),Da 85,Db 86 1,Dc 87 10,Ds 89 24,Dg 92 11,Dc 94 8],[Dp 96 128,DC 99 114,Da 102,Dq 103 41,Dc 106 8,Dc 108 11,DU 110,Du 111 8 1],[(114,.iinc 9 1,117,some 12),Dv 117 52,(120,.iload 8,122,some 10),DI 122]]
def cx_75:List (List Ent):=[[Dn 0 0,Df 1 1,(2,.iload 1,3,some 2),Da 3,Dq 4 0,DC 7 46,Db 10 1,Do 11 8,DC 13 46],[Da 16,Dq 17 65,Db 20 1,DT 21,Df 22 2,Db 23 2,DB 24 40,Db 27 2,Do 28 8,DC 30 40],[Da 33,Dq 34 68,Db 37 2,Db 38 1,DU 39,(40,.iinc 1 1,43,some 3),Dv 43 2,(46,.return_,47,some 2)]]
def me_0:Mth:=(⟨"PqOnesOrder","<init>","(I)V"⟩,prog_1_method_1_code,3,6,91,none,1,0,false,cx_0.flatten)
def me_2:Mth:=(⟨"PqOnesOrder","reset","()V"⟩,prog_1_method_3_code,1,5,79,none,0,0,false,cx_2.flatten)
def me_3:Mth:=(⟨"PqOnesOrder","clearRow","()V"⟩,prog_1_method_4_code,1,0,0,none,0,0,false,cx_3.flatten)
def me_4:Mth:=(⟨"PqOnesOrder","addColumn","(I)Z"⟩,prog_1_method_5_code,2,0,0,(some .boolean),1,0,false,cx_4.flatten)
def me_5:Mth:=(⟨"PqOnesOrder","removeColumn","(I)Z"⟩,prog_1_method_6_code,2,0,0,(some .boolean),1,0,false,cx_5.flatten)
def me_6:Mth:=(⟨"PqOnesOrder","pendingMask","()I"⟩,prog_1_method_7_code,1,0,0,(some .int),0,0,false,cx_6.flatten)
def me_7:Mth:=(⟨"PqOnesOrder","commitRow","()I"⟩,prog_1_method_8_code,4,10,147,(some .int),0,0,false,cx_7.flatten)
def me_8:Mth:=(⟨"PqOnesOrder","addRowMask","(I)I"⟩,prog_1_method_9_code,2,10,147,(some .int),1,0,false,cx_8.flatten)
def me_9:Mth:=(⟨"PqOnesOrder","classify","(I)I"⟩,prog_1_method_10_code,3,9,133,(some .int),1,0,false,cx_9.flatten)
def me_10:Mth:=(⟨"PqOnesOrder","countOrders","()I"⟩,prog_1_method_11_code,1,0,0,(some .int),0,0,false,cx_10.flatten)
def me_11:Mth:=(⟨"PqOnesOrder","leastOrderAt","(I)I"⟩,prog_1_method_12_code,2,0,0,(some .int),1,0,false,cx_11.flatten)
def me_12:Mth:=(⟨"PqOnesOrder","leastPositionOf","(I)I"⟩,prog_1_method_13_code,2,0,0,(some .int),1,0,false,cx_12.flatten)
def me_13:Mth:=(⟨"PqOnesOrder","startMask","()I"⟩,prog_1_method_14_code,1,0,0,(some .int),0,0,false,cx_13.flatten)
def me_16:Mth:=(⟨"PqOnesOrder","addMask","(I)I"⟩,prog_1_method_17_code,3,9,133,(some .int),1,0,true,cx_16.flatten)
def me_17:Mth:=(⟨"PqOnesOrder","verdict","(I)I"⟩,prog_1_method_18_code,3,8,119,(some .int),1,0,true,cx_17.flatten)
def me_18:Mth:=(⟨"PqOnesOrder","allMask","()I"⟩,prog_1_method_19_code,1,0,0,(some .int),0,0,true,cx_18.flatten)
def me_19:Mth:=(⟨"PqOnesOrder","inRange","(I)Z"⟩,prog_1_method_20_code,3,1,12,(some .boolean),1,0,true,cx_19.flatten)
def me_20:Mth:=(⟨"PqOnesOrder","isTrivial","(I)Z"⟩,prog_1_method_21_code,4,1,12,(some .boolean),1,0,true,cx_20.flatten)
def me_21:Mth:=(⟨"PqOnesOrder","isNode","(I)Z"⟩,prog_1_method_22_code,2,0,0,(some .boolean),1,0,true,cx_21.flatten)
def me_22:Mth:=(⟨"PqOnesOrder","isInner","(I)Z"⟩,prog_1_method_23_code,2,1,13,(some .boolean),1,0,true,cx_22.flatten)
def me_23:Mth:=(⟨"PqOnesOrder","degreeOf","(I)I"⟩,prog_1_method_24_code,3,1,13,(some .int),1,0,true,cx_23.flatten)
def me_24:Mth:=(⟨"PqOnesOrder","kidAt","(II)I"⟩,prog_1_method_25_code,3,1,13,(some .int),2,0,true,cx_24.flatten)
def me_25:Mth:=(⟨"PqOnesOrder","putKid","(III)V"⟩,prog_1_method_26_code,4,1,13,none,3,0,true,cx_25.flatten)
def me_26:Mth:=(⟨"PqOnesOrder","labelOf","(I)I"⟩,prog_1_method_27_code,2,1,13,(some .int),1,0,true,cx_26.flatten)
def me_27:Mth:=(⟨"PqOnesOrder","firstLeastOf","(I)I"⟩,prog_1_method_28_code,2,1,13,(some .int),1,0,true,cx_27.flatten)
def me_28:Mth:=(⟨"PqOnesOrder","startSetOf","(I)I"⟩,prog_1_method_29_code,2,1,13,(some .int),1,0,true,cx_28.flatten)
def me_29:Mth:=(⟨"PqOnesOrder","appendKid","(II)Z"⟩,prog_1_method_30_code,4,1,13,(some .boolean),2,0,true,cx_29.flatten)
def me_30:Mth:=(⟨"PqOnesOrder","clearKids","(I)V"⟩,prog_1_method_31_code,4,1,13,none,1,0,true,cx_30.flatten)
def me_31:Mth:=(⟨"PqOnesOrder","initTree","()V"⟩,prog_1_method_32_code,2,2,28,none,0,0,true,cx_31.flatten)
def me_32:Mth:=(⟨"PqOnesOrder","allocNode","(II)I"⟩,prog_1_method_33_code,4,2,28,(some .int),2,0,true,cx_32.flatten)
def me_33:Mth:=(⟨"PqOnesOrder","freeNode","(I)V"⟩,prog_1_method_34_code,2,2,28,none,1,0,true,cx_33.flatten)
def me_34:Mth:=(⟨"PqOnesOrder","saveTree","()V"⟩,prog_1_method_35_code,2,0,0,none,0,0,true,cx_34.flatten)
def me_35:Mth:=(⟨"PqOnesOrder","restoreTree","()V"⟩,prog_1_method_36_code,2,0,0,none,0,0,true,cx_35.flatten)
def me_36:Mth:=(⟨"PqOnesOrder","computePost","()V"⟩,prog_1_method_37_code,7,2,28,none,0,1,true,cx_36.flatten)
def me_37:Mth:=(⟨"PqOnesOrder","computeLeafSets","()V"⟩,prog_1_method_38_code,7,2,27,none,0,0,true,cx_37.flatten)
def me_38:Mth:=(⟨"PqOnesOrder","collectGarbage","()V"⟩,prog_1_method_39_code,3,3,46,none,0,0,true,cx_38.flatten)
def me_39:Mth:=(⟨"PqOnesOrder","normalize","()V"⟩,prog_1_method_40_code,3,3,46,none,0,0,true,cx_39.flatten)
def me_40:Mth:=(⟨"PqOnesOrder","findSingleKid","()I"⟩,prog_1_method_41_code,4,2,27,(some .int),0,0,true,cx_40.flatten)
def me_42:Mth:=(⟨"PqOnesOrder","reduce","(I)Z"⟩,prog_1_method_43_code,5,7,103,(some .boolean),1,0,true,cx_42.flatten)
def me_43:Mth:=(⟨"PqOnesOrder","labelLeaves","(I)V"⟩,prog_1_method_44_code,3,0,0,none,1,0,true,cx_43.flatten)
def me_44:Mth:=(⟨"PqOnesOrder","findPertinentRoot","(I)I"⟩,prog_1_method_45_code,4,1,13,(some .int),1,0,true,cx_44.flatten)
def me_45:Mth:=(⟨"PqOnesOrder","reduceInner","(I)Z"⟩,prog_1_method_46_code,2,5,77,(some .boolean),1,0,true,cx_45.flatten)
def me_46:Mth:=(⟨"PqOnesOrder","reduceRoot","(I)Z"⟩,prog_1_method_47_code,2,6,90,(some .boolean),1,0,true,cx_46.flatten)
def me_47:Mth:=(⟨"PqOnesOrder","sortKids","(I)V"⟩,prog_1_method_48_code,6,2,27,none,1,0,true,cx_47.flatten)
def me_48:Mth:=(⟨"PqOnesOrder","groupOf","(Z)I"⟩,prog_1_method_49_code,7,3,43,(some .int),1,0,true,cx_48.flatten)
def me_49:Mth:=(⟨"PqOnesOrder","seqStart","()V"⟩,prog_1_method_50_code,1,0,0,none,0,0,true,cx_49.flatten)
def me_50:Mth:=(⟨"PqOnesOrder","seqPush","(I)V"⟩,prog_1_method_51_code,2,0,0,none,1,0,true,cx_50.flatten)
def me_51:Mth:=(⟨"PqOnesOrder","seqPushEmpties","()V"⟩,prog_1_method_52_code,2,1,13,none,0,0,true,cx_51.flatten)
def me_52:Mth:=(⟨"PqOnesOrder","seqPushKids","(IZ)V"⟩,prog_1_method_53_code,7,2,27,none,2,0,true,cx_52.flatten)
def me_53:Mth:=(⟨"PqOnesOrder","installSeq","(I)Z"⟩,prog_1_method_54_code,3,2,28,(some .boolean),1,0,true,cx_53.flatten)
def me_54:Mth:=(⟨"PqOnesOrder","reverseKids","(I)V"⟩,prog_1_method_55_code,7,2,28,none,1,0,true,cx_54.flatten)
def me_55:Mth:=(⟨"PqOnesOrder","rankOf","(I)I"⟩,prog_1_method_56_code,2,0,0,(some .int),1,0,true,cx_55.flatten)
def me_56:Mth:=(⟨"PqOnesOrder","direction","(I)I"⟩,prog_1_method_57_code,10,2,27,(some .int),1,0,true,cx_56.flatten)
def me_57:Mth:=(⟨"PqOnesOrder","pInner","(I)Z"⟩,prog_1_method_58_code,5,4,61,(some .boolean),1,0,true,cx_57.flatten)
def me_58:Mth:=(⟨"PqOnesOrder","qInner","(I)Z"⟩,prog_1_method_59_code,7,3,48,(some .boolean),1,0,true,cx_58.flatten)
def me_59:Mth:=(⟨"PqOnesOrder","pRoot","(I)Z"⟩,prog_1_method_60_code,2,5,77,(some .boolean),1,0,true,cx_59.flatten)
def me_60:Mth:=(⟨"PqOnesOrder","pRootNoPartial","(I)Z"⟩,prog_1_method_61_code,3,4,61,(some .boolean),1,0,true,cx_60.flatten)
def me_61:Mth:=(⟨"PqOnesOrder","pRootOnePartial","(I)Z"⟩,prog_1_method_62_code,4,4,61,(some .boolean),1,0,true,cx_61.flatten)
def me_62:Mth:=(⟨"PqOnesOrder","pRootTwoPartial","(I)Z"⟩,prog_1_method_63_code,5,4,61,(some .boolean),1,0,true,cx_62.flatten)
def me_63:Mth:=(⟨"PqOnesOrder","firstNonEmpty","(I)I"⟩,prog_1_method_64_code,5,2,27,(some .int),1,0,true,cx_63.flatten)
def me_64:Mth:=(⟨"PqOnesOrder","lastNonEmpty","(I)I"⟩,prog_1_method_65_code,5,2,27,(some .int),1,0,true,cx_64.flatten)
def me_65:Mth:=(⟨"PqOnesOrder","qRoot","(I)Z"⟩,prog_1_method_66_code,9,3,45,(some .boolean),1,0,true,cx_65.flatten)
def me_66:Mth:=(⟨"PqOnesOrder","refreshCaches","()V"⟩,prog_1_method_67_code,1,4,67,none,0,1,true,cx_66.flatten)
def me_67:Mth:=(⟨"PqOnesOrder","countFromPost","()I"⟩,prog_1_method_68_code,5,2,28,(some .int),0,1,true,cx_67.flatten)
def me_68:Mth:=(⟨"PqOnesOrder","factorial","(I)I"⟩,prog_1_method_69_code,4,0,0,(some .int),1,0,true,cx_68.flatten)
def me_69:Mth:=(⟨"PqOnesOrder","computeFirstAndStart","()V"⟩,prog_1_method_70_code,3,3,47,none,0,0,true,cx_69.flatten)
def me_70:Mth:=(⟨"PqOnesOrder","pFirstStart","(I)V"⟩,prog_1_method_71_code,7,2,27,none,1,0,true,cx_70.flatten)
def me_71:Mth:=(⟨"PqOnesOrder","qFirstStart","(I)V"⟩,prog_1_method_72_code,9,2,27,none,1,0,true,cx_71.flatten)
def me_72:Mth:=(⟨"PqOnesOrder","buildLeastOrder","()V"⟩,prog_1_method_73_code,5,3,50,none,0,0,true,cx_72.flatten)
def me_73:Mth:=(⟨"PqOnesOrder","pushPOrdered","(II)I"⟩,prog_1_method_74_code,11,2,27,(some .int),2,0,true,cx_73.flatten)
def me_74:Mth:=(⟨"PqOnesOrder","pushQOrdered","(II)I"⟩,prog_1_method_75_code,12,2,27,(some .int),2,0,true,cx_74.flatten)
def me_75:Mth:=(⟨"PqOnesOrder","fillPositions","()V"⟩,prog_1_method_76_code,3,0,0,none,0,0,true,cx_75.flatten)
def ms1:List Mth:=[me_0,m0,me_2,me_3,me_4,me_5,me_6,me_7,me_8,me_9,me_10,me_11,me_12,me_13,m0,m0,me_16,me_17,me_18,me_19,me_20,me_21,me_22,me_23,me_24,me_25,me_26,me_27,me_28,me_29,me_30,me_31,me_32,me_33,me_34,me_35,me_36,me_37,me_38,me_39,me_40,m0,me_42,me_43,me_44,me_45,me_46,me_47,me_48,me_49,me_50,me_51,me_52,me_53,me_54,me_55,me_56,me_57,me_58,me_59,me_60,me_61,me_62,me_63,me_64,me_65,me_66,me_67,me_68,me_69,me_70,me_71,me_72,me_73,me_74,me_75]
def fds1:List (String×String×Nat):=[("n","I",0),("kind","[I",2),("pending","I",3),("parent","[I",5),("acceptedCount","I",6),("degree","[I",8),("rejectedCount","I",9),("kids","[I",11),("root","I",12),("live","[Z",14),("savedRoot","I",15),("savedKind","[I",17),("postLen","I",18),("savedParent","[I",20),("seqLen","I",21),("savedDegree","[I",23),("emptyCount","I",24),("savedKids","[I",26),("fullCount","I",27),("savedLive","[Z",29),("partCount","I",30),("label","[I",32),("orderCount","I",33),("leafSet","[I",35),("startCols","I",36),("post","[I",38),("stackNode","[I",41),("stackIdx","[I",44),("seq","[I",47),("emptyKids","[I",50),("fullKids","[I",53),("partKids","[I",56),("firstLeast","[I",59),("startSet","[I",62),("least","[I",65),("leastPos","[I",68)]
def arr1:List (FieldType×Nat):=[(.int,64),(.int,64),(.int,64),(.int,512),(.boolean,64),(.int,64),(.int,64),(.int,64),(.int,512),(.boolean,64),(.int,64),(.int,64),(.int,64),(.int,128),(.int,128),(.int,16),(.int,8),(.int,8),(.int,8),(.int,64),(.int,64),(.int,8),(.int,8)]
def cls1:Cls:=("PqOnesOrder",42,[("leafKind","I"),("pKind","I"),("qKind","I"),("emptyLabel","I"),("fullLabel","I"),("partialLabel","I")],fds1,arr1,true,[(none,7,"leafKind","I"),(none,13,"pKind","I"),(none,16,"qKind","I"),(none,19,"emptyLabel","I"),(none,22,"fullLabel","I"),(none,25,"partialLabel","I"),(some .int,28,"kind","[I"),(some .int,32,"parent","[I"),(some .int,35,"degree","[I"),(some .int,38,"kids","[I"),(some .boolean,41,"live","[Z"),(some .int,45,"savedKind","[I"),(some .int,48,"savedParent","[I"),(some .int,51,"savedDegree","[I"),(some .int,54,"savedKids","[I"),(some .boolean,57,"savedLive","[Z"),(some .int,60,"label","[I"),(some .int,63,"leafSet","[I"),(some .int,66,"post","[I"),(some .int,69,"stackNode","[I"),(some .int,72,"stackIdx","[I"),(some .int,75,"seq","[I"),(some .int,78,"emptyKids","[I"),(some .int,81,"fullKids","[I"),(some .int,84,"partKids","[I"),(some .int,87,"firstLeast","[I"),(some .int,90,"startSet","[I"),(some .int,93,"least","[I"),(some .int,96,"leastPos","[I")],222,1,[],tb1,ms1)
def tb2:Tabs:=([],[(33,10),(37,11),(40,12),(50,9),(53,4),(57,5),(60,3),(63,2),(66,13),(69,6),(72,7),(75,8)],[(7,3),(13,7),(17,1),(21,2),(29,4),(43,6),(47,5)],[],[(78,3),(80,-1)],[(24,0)],[(26,0)])
def cl_0:List (List Ent):=[[Da 0,Dn 1 0,Dt 2 1,Dn 5 5,Dt 6 2,Dn 9 1,DK 10,Df 11 1,Db 12 1,Dt 13 3],[Df 16 2,Dn 17 1,Db 18 1,DQ 19,Dn 20 1,DL 21,Df 22 3,(23,.new 0,26,none),DX 26,Db 27 1,(28,.invokespecial 0,31,none),Dm 31 4],[(33,.lconst 0,34,none),Dk 34 5,(36,.lconst 0,37,none),Dk 37 7,Dn 39 0,Dg 40 9,(42,.iload 9,44,some 10),Db 44 2,DC 45 85],[Dc 48 9,Do 50 64,DC 52 67,Di 55 5,(57,.lconst 1,58,none),Dc 58 9,Daf 60,Dad 61,Dk 62 5],[Dv 64 79,Di 67 7,(69,.lconst 1,70,none),Dc 70 9,Do 72 64,DL 74,Daf 75,Dad 76,Dk 77 7,(79,.iinc 9 1,82,some 10)],[Dv 82 42,Di 85 5,Dk 87 9,Di 89 7,Dk 91 11,(93,.lconst 0,94,none),Dk 94 13],[Dn 96 1,Dg 97 15,(99,.iconst 0,100,some 16),Dg 100 16,Dn 102 0,Dg 103 17,(105,.iload 17,107,some 18),Db 107 2,DC 108 132,Di 111 5],[Di 113 7,Dc 115 17,Dt 117 4,Dx 120 126,Du 123 16 1,(126,.iinc 17 1,129,some 18)],[Dv 129 105,De 132 4,Ds 134 10,Dc 137 16,Dy 139 148,Dc 142 16],[Dn 144 1,DC 145 150,(148,.iconst 0,149,some 18),DI 149,Dn 150 0,Dg 151 17,Dn 153 0,Dg 154 18,Dn 156 0,Dg 157 19,(159,.iload 19,161,some 20)],[Db 161 1,DC 162 238,De 165 4,Dc 167 19,Ds 169 11,Dg 172 20,Dc 174 20],[DB 176 195,Dc 179 20,Db 181 1,DC 182 195,Dc 185 17,Dc 187 20,DR 189,Dn 190 1,DN 191],[Dx 192 197,(195,.iconst 0,196,some 21),DI 196,Dc 197 17,Dn 199 1,Dc 200 20,DQ 202,DO 203,Dg 204 17,Dc 206 18],[Dc 208 20,Dn 210 3,Dc 211 19,DM 213,DQ 214,DO 215,Dg 216 18,De 218 4,Dc 220 20,Ds 222 12],[Dc 225 19,Dw 227 232,Dn 230 0,DI 231,Du 232 19 1,Dv 235 159,Dn 238 0,Dg 239 19],[(241,.iload 19,243,some 20),Db 243 3,DE 244 278,Di 247 13,Dc 249 19,Dag 251,(252,.lconst 1,253,none),Dac 253,(254,.lconst 0,255,none),Dah 255],[Dx 256 272,Dc 259 18,Dc 261 19,Db 263 1,Dt 264 6,Dz 267 272,Dn 270 0,DI 271],[(272,.iinc 19 1,275,some 20),Dv 275 241,(278,.lconst 0,279,none),Dk 279 19,Dn 281 0,Dg 282 21,(284,.iload 21,286,some 22),Db 286 2,DC 287 351],[Di 290 5,Di 292 7,Dc 294 21,Dt 296 4,Dx 299 345,Dc 302 21],[Db 304 1,Dt 305 5,Dg 308 22,Dn 310 0,Dg 311 23,(313,.iload 23,315,some 24),Db 315 3,DE 316 345,Dc 319 22],[Dc 321 23,Db 323 1,Dt 324 6,Dx 327 339,Di 330 19,(332,.lconst 1,333,none),Dc 333 23,Daf 335],[Dad 336,Dk 337 19,(339,.iinc 23 1,342,some 24),Dv 342 313,(345,.iinc 21 1,348,some 22),Dv 348 284,(351,.lconst 0,352,none)],[Dk 352 21,Dn 354 0,Dg 355 23,(357,.iload 23,359,some 24),Db 359 3,DE 360 438,De 363 4,Dc 365 23,Ds 367 9],[Dg 370 24,Dc 372 24,Dn 374 1,DA 375 384,Dc 378 24,Dn 380 3,DG 381 386],[(384,.iconst 0,385,some 25),DI 385,Dc 386 24,Dn 388 3,Dy 389 396,Dn 392 1,Dv 393 397,Dn 396 0,(397,.lload 19,399,some 25),Dc 399 23],[Dag 401,(402,.lconst 1,403,none),Dac 403,(404,.lconst 0,405,none),Dah 405,Dz 406 413,Dn 409 1,Dv 410 414,Dn 413 0,(414,.if_icmp .eq 419,417,some 25)],[Dn 417 0,DI 418,Di 419 21,Dc 421 24,Dai 423,Dn 424 2,Dc 425 23,DM 427,Daf 428,Dad 429,Dk 430 21],[Du 432 23 1,Dv 435 357,Dc 438 15,Da 440,(441,.arraylength,442,none),DA 442 448,Dv 445 879],[Da 448,Dc 449 15,Dt 451 1,Do 454 8,Dt 456 2,Dg 459 23,Da 461,Dc 462 15],[Dn 464 1,DK 465,Dt 466 1,Dg 469 24,Du 471 15 2,Dc 474 23,Dn 476 1,DE 477 499],[De 480 4,Dc 482 24,Db 484 1,Dn 485 2,DK 486,Dt 487 2,Dn 490 1,DL 491,Ds 492 4,DZ 495],[Dv 496 876,Dc 499 23,Dn 501 2,Dy 502 524,De 505 4,Dc 507 24,Db 509 1,Dn 510 2,DK 511],[Dt 512 2,Dn 515 1,DL 516,Ds 517 5,DZ 520,Dv 521 876,Dc 524 23,Do 526 6],[Dy 528 539,De 531 4,Ds 533 3,Dv 536 876,Dc 539 23,Do 541 7,Dy 543 574],[Dc 546 24,Dn 548 4,Dt 549 2,Dz 552 876,De 555 4,Ds 557 2],[(560,.lconst 0,561,none),Dk 561 13,Di 563 9,Dk 565 5,Di 567 11,Dk 569 7,Dv 571 876,De 574 4],[Ds 576 10,Dg 579 25,De 581 4,Ds 583 13,Dg 586 26,Dc 588 23,Dn 590 3,Dy 591 611],[De 594 4,Ds 596 6,Dg 599 27,De 601 4,Ds 603 7,Dg 606 28],[Dv 608 637,Dc 611 24,DD 613 621,Dc 616 24,Dv 618 626,Dc 621 24,Do 623 63],[DN 625,(626,.istore 27,628,some 27),De 628 4,Dc 630 27,Ds 632 8,Dg 635 28,(637,.iload 28,639,some 29),Dn 639 3],[Dy 640 760,De 643 4,Ds 645 10,Dc 648 25,Dy 650 663,De 653 4,Ds 655 13],[Dc 658 26,Dw 660 665,(663,.iconst 0,664,some 29),DI 664,Dn 665 0,Dg 666 29,(668,.iload 29,670,some 30),Db 670 1,DC 671 718],[De 674 4,Dc 676 29,Ds 678 11,Dc 681 18,Dc 683 29,Dt 685 7],[Dw 688 693,Dn 691 0,DI 692,De 693 4,Dc 695 18,Dc 697 29,Dt 699 7,Ds 702 12],[Dc 705 29,Dw 707 712,Dn 710 0,DI 711,Du 712 29 1,Dv 715 668,Dn 718 0,Dg 719 29],[(721,.iload 29,723,some 30),Db 723 3,DE 724 757,De 727 4,Dc 729 29,Ds 731 9,Di 734 21],[Dn 736 2,Dc 737 29,DM 739,Dag 740,(741,.ldc2_w 3,744,none),Dac 744,Daj 745,Dw 746 751,Dn 749 0,DI 750,Du 751 29 1],[Dv 754 721,Dv 757 876,Dc 760 28,Dn 762 1,Dw 763 772,Dc 766 28],[Dn 768 2,Dy 769 876,(772,.iload 27,774,some 29),DB 774 876,Dc 777 27,Db 779 3,Dn 780 (-1),DP 781,DN 782,Dz 783 876],[Di 786 13,(788,.lconst 1,789,none),Dc 789 27,Daf 791,Dad 792,Dk 793 13,Dn 795 0,Dg 796 29,(798,.iload 29,800,some 30)],[Db 800 2,DC 801 876,Di 804 5,Di 806 7,Dc 808 29,Dt 810 4,Dx 813 870],[Dc 816 29,Db 818 1,Dt 819 5,Dc 822 27,Db 824 1,Dt 825 6,Dz 828 870,Dc 831 29],[Do 833 64,DC 835 854,Di 838 5,(840,.lconst 1,841,none),Dc 841 29,Daf 843,(844,.ldc2_w 18446744073709551615,847,none),Dae 847],[Dac 848,Dk 849 5,Dv 851 870,Di 854 7,(856,.lconst 1,857,none),Dc 857 29,Do 859 64,DL 861,Daf 862,(863,.ldc2_w 18446744073709551615,866,none)],[Dae 866,Dac 867,Dk 868 7,(870,.iinc 29 1,873,some 30),Dv 873 798,(876,.goto 99,879,some 25),Dn 879 1],[DI 880]]
def cl_1:List (List Ent):=[[Db 0 1,Da 1,(2,.arraylength,3,none),DC 3 12,Da 6,Db 7 1,DT 8,Dv 9 13,Dn 12 0,(13,.ireturn,14,some 2)]]
def cl_2:List (List Ent):=[[Db 0 0,Db 1 1,(2,.irem,3,none),Df 3 2,Db 4 2,DD 5 14,Db 8 2,Db 9 1,DK 10,Dv 11 15,Db 14 2,(15,.ireturn,16,some 3)]]
def cl_3:List (List Ent):=[[Dn 0 1,Df 1 1,Dn 2 2,Df 3 2,(4,.iload 2,5,some 3),Db 5 0,DE 6 19,Db 9 1,Db 10 2,DM 11,Df 12 1,Du 13 2 1],[Dv 16 4,Db 19 1,DI 20]]
def cl_4:List (List Ent):=[[Dc 0 4,Do 2 64,DC 4 26,Dh 7 0,Dc 8 4,Dag 10,(11,.lconst 1,12,none),Dac 12,(13,.lconst 0,14,none),Dah 14,Dx 15 22],[Dn 18 1,Dv 19 45,Dn 22 0,Dv 23 45,Dh 26 2,Dc 27 4,Do 29 64,DL 31],[Dag 32,(33,.lconst 1,34,none),Dac 34,(35,.lconst 0,36,none),Dah 36,Dx 37 44,Dn 40 1,Dv 41 45,Dn 44 0,(45,.ireturn,46,some 5)]]
def cl_5:List (List Ent):=[[Dn 0 0,Df 1 2,Dn 2 0,Df 3 3,Dn 4 0,Dg 5 4,(7,.iload 4,9,some 5),Db 9 1,DC 10 101,Db 13 1,Dn 14 1,DL 15],[Dc 16 4,DL 18,Dt 19 3,Dg 22 5,Db 24 0,Dc 25 5,(27,.idiv,28,none),Dg 28 6,Db 30 0,Dc 31 5],[(33,.irem,34,none),Df 34 0,Dn 35 0,Dg 36 7,Dn 38 0,Dg 39 8,(41,.iload 8,43,some 9),Do 43 8,DC 45 78],[Db 48 2,Dc 49 8,DR 51,Dn 52 1,DN 53,Dz 54 72,Dc 57 6,Dz 59 69,Dc 62 8],[Dg 64 7,Dv 66 78,Du 69 6 (-1),(72,.iinc 8 1,75,some 9),Dv 75 41,(78,.iload 2,79,some 9),Dn 79 1],[Dc 80 7,DQ 82,DO 83,Df 84 2,Db 85 3,Dc 86 7,Dn 88 3,Dc 89 4,DM 91,DQ 92,DO 93,Df 94 3,Du 95 4 1],[Dv 98 7,Db 101 3,DI 102]]
def cl_6:List (List Ent):=[[Dn 0 0,Df 1 3,Dn 2 0,Dg 3 4,(5,.iload 4,7,some 5),Db 7 2,DC 8 37,Db 11 1,Db 12 0,Dc 13 4,Dt 15 7],[DR 18,Dn 19 1,DN 20,Dx 21 31,Db 24 3,Dn 25 1,Dc 26 4,DQ 28,DO 29,Df 30 3,(31,.iinc 4 1,34,some 5)],[Dv 34 5,Db 37 3,Dz 38 43,Dn 41 1,DI 42,(43,.iload 3,44,some 5),Dn 44 1,DN 45,Dz 46 56],[Db 49 3,Dn 50 1,DR 51,Df 52 3,Dv 53 43,Db 56 3,Db 57 3,Dn 58 1,DK 59,DN 60,Dz 61 68],[Dn 64 1,Dv 65 69,Dn 68 0,(69,.ireturn,70,some 5)]]
def cl_7:List (List Ent):=[[Db 0 0,Dn 1 3,Db 2 1,DM 3,DR 4,Do 5 7,DN 7,DI 8]]
def ml_0:Mth:=(⟨"PqOnesOrderOwnLaw","law","([I)Z"⟩,code,30,11,163,(some .boolean),1,1,false,cl_0.flatten)
def ml_1:Mth:=(⟨"PqOnesOrderOwnLaw","cell","([II)I"⟩,method_2_code,2,0,0,(some .int),2,0,false,cl_1.flatten)
def ml_2:Mth:=(⟨"PqOnesOrderOwnLaw","mod","(II)I"⟩,method_3_code,3,0,0,(some .int),2,0,false,cl_2.flatten)
def ml_3:Mth:=(⟨"PqOnesOrderOwnLaw","fact","(I)I"⟩,method_4_code,3,0,0,(some .int),1,0,false,cl_3.flatten)
def ml_4:Mth:=(⟨"PqOnesOrderOwnLaw","inS","(JJI)Z"⟩,method_8_code,5,0,0,(some .boolean),3,0,false,cl_4.flatten)
def ml_5:Mth:=(⟨"PqOnesOrderOwnLaw","perm","(II)I"⟩,method_5_code,9,1,14,(some .int),2,0,false,cl_5.flatten)
def ml_6:Mth:=(⟨"PqOnesOrderOwnLaw","consec","(III)Z"⟩,method_7_code,5,1,14,(some .boolean),3,1,false,cl_6.flatten)
def ml_7:Mth:=(⟨"PqOnesOrderOwnLaw","at","(II)I"⟩,method_6_code,2,0,0,(some .int),2,0,false,cl_7.flatten)
def ms2:List Mth:=[ml_0,ml_1,ml_2,ml_3,ml_4,ml_5,ml_6,ml_7]
def iv1:List (Nat×Int):=[]
abbrev nmax1:Nat:=1
abbrev sc1:Option (List Int32):=none
theorem own_d1:data1 cls1=true:=by decide +kernel
theorem own_g1:goodB tb1 ms1=true:=by decide +kernel
theorem own_r1:roomB ms1 ms1 callVk=true:=by decide +kernel
theorem own_d2:data2 "PqOnesOrder" "PqOnesOrderOwnLaw" ms1 ms2 tb2=true:=by decide +kernel
theorem own_g2:goodB tb2 ms2=true:=by decide +kernel
theorem own_rv:roomB ms2 ms1 callVk=true:=by decide +kernel
theorem own_rc:roomB ms2 ms1 callCk=true:=by decide +kernel
theorem own_rs:roomB ms2 ms2 callSk=true:=by decide +kernel
theorem own_hcut{tw:List Jvm.Cond}:∀(n:Nat) {ws:List Jvm.Cond} {is:List Nat},hasB tw (ws.take n) (is.take n)=true->hasB tw (ws.drop n) (is.drop n)=true->hasB tw ws is=true
 |0,ws,is,_,h=>h
 |n+1,[],[],_,h=>rfl
 |n+1,w::ws,i::is,h,h'=>by
  simp only[List.take_succ_cons,hasB,zaf] at h;simp only[List.drop_succ_cons] at h';simp only[hasB,zaf];exact⟨h.1,own_hcut n h.2 h'⟩
 |n+1,[],i::is,h,_=>by
  simp[List.take_succ_cons,hasB] at h
 |n+1,w::ws,[],h,_=>by
  simp[List.take_succ_cons,hasB] at h
def own_is1:List Nat:=[11,12,16,17,18,14,15,80,33,101,35,103,37,105,39,91,42,217,44,115,46,277,48,247,50,249,52,251,54,145,56,151,58,60,62,64,66,68,70,72,74,76,78,20,22,24,26,28,30,32,34,36,38,41,43,45,47,49,51,53,55,57,59,61,63,65,67,69,71,73,75,77,79,100,102,104,144,150,90,216,114,246,248,250,276,19,21,23,25,27,29,32,34,36,38,41,43,45,47,49,51,53,55,57,59,61,63,65,67,69,71,73,75,77,31,31,31,31,40,31,31,31,31,40,31,31,31,31,31,31,31,31,31,31,31,31,31,81,86,106,200,331,196,204,302,208,212,218,110,136,96,92,268,116,120,124,294,344,396,222,226,230,336,234,290,298,340,380,238,368,252,264,282,388,242,260,272,352,286,384,392,256,348,412,278,372,376,128,146,152,140,132,356,360,156,364,160,83,85,82,84,408,410,407,409,313,315,312,314,308,310,307,309,323,325,322,324,328,330,327,329,403,405,402,404,193,195,192,194,169,171,168,170,174,176,173,175,179,181,178,180,318,320,317,319,332,334,333,205,207,206,201,203,202,197,199,198,209,211,210,97,99,98,117,119,118,121,123,122,125,127,126,397,399,398,253,255,254,361,363,362,147,149,148,93,95,94,269,271,270,87,89,88,265,267,266,345,347,346,213,215,214,303,305,304,111,113,112,223,225,224,299,301,300,291,293,292,295,297,296,219,221,220,227,229,228,231,233,232,337,339,338,235,237,236,243,245,244,261,263,262,273,275,274,283,285,284,279,281,280,353,355,354,287,289,288,393,395,394,389,391,390,385,387,386,341,343,342,381,383,382,239,241,240,257,259,258,349,351,350,413,415,414,373,375,374,377,379,378,369,371,370,107,109,108,137,139,138,141,143,142,129,131,130,133,135,134,357,359,358,153,155,154,157,159,158,365,367,366,161,163,162]
theorem own_h1_0:hasB tables_1 ((needs1 cls1).take 60) (own_is1.take 60)=true:=by decide +kernel
theorem own_h1_1:hasB tables_1 (((needs1 cls1).drop 60).take 60) ((own_is1.drop 60).take 60)=true:=by decide +kernel
theorem own_h1_2:hasB tables_1 ((((needs1 cls1).drop 60).drop 60).take 60) (((own_is1.drop 60).drop 60).take 60)=true:=by decide +kernel
theorem own_h1_3:hasB tables_1 (((((needs1 cls1).drop 60).drop 60).drop 60).take 60) ((((own_is1.drop 60).drop 60).drop 60).take 60)=true:=by decide +kernel
theorem own_h1_4:hasB tables_1 ((((((needs1 cls1).drop 60).drop 60).drop 60).drop 60).take 60) (((((own_is1.drop 60).drop 60).drop 60).drop 60).take 60)=true:=by decide +kernel
theorem own_h1_5:hasB tables_1 (((((((needs1 cls1).drop 60).drop 60).drop 60).drop 60).drop 60).take 60) ((((((own_is1.drop 60).drop 60).drop 60).drop 60).drop 60).take 60)=true:=by decide +kernel
theorem own_h1_6:hasB tables_1 ((((((((needs1 cls1).drop 60).drop 60).drop 60).drop 60).drop 60).drop 60).take 60) (((((((own_is1.drop 60).drop 60).drop 60).drop 60).drop 60).drop 60).take 60)=true:=by decide +kernel
theorem own_h1_7:hasB tables_1 ((((((((needs1 cls1).drop 60).drop 60).drop 60).drop 60).drop 60).drop 60).drop 60) (((((((own_is1.drop 60).drop 60).drop 60).drop 60).drop 60).drop 60).drop 60)=true:=by decide +kernel
theorem own_h1:hasB tables_1 (needs1 cls1) own_is1=true:=(own_hcut 60 own_h1_0 (own_hcut 60 own_h1_1 (own_hcut 60 own_h1_2 (own_hcut 60 own_h1_3 (own_hcut 60 own_h1_4 (own_hcut 60 own_h1_5 (own_hcut 60 own_h1_6 own_h1_7)))))))
theorem own_h2:hasB tables_1 (needs2 "PqOnesOrder" "PqOnesOrderOwnLaw" ms1 ms2 tb2) [10,13,167,172,177,191,311,306,406,411,316,321,326,401,7,8,2,9,188,189,2,190,0,1,2,3,4,5,2,6,164,165,2,166,185,186,2,187,182,183,2,184,400,335]=true:=by decide +kernel
theorem k_m2:Int32.ofInt (-2)=(-2):=by decide
theorem k_m1:Int32.ofInt (-1)=(-1):=by decide
theorem k_0:Int32.ofInt 0=0:=by decide
theorem k_1:Int32.ofInt 1=1:=by decide
theorem k_2:Int32.ofInt 2=2:=by decide
theorem k_3:Int32.ofInt 3=3:=by decide
theorem k_5:Int32.ofInt 5=5:=by decide
theorem k_8:Int32.ofInt 8=8:=by decide
theorem k_64:Int32.ofInt 64=64:=by decide
open Jvm.OM renaming upd->Ua
section Sx
open Jvm.Value renaming int->I,ref->V,long->N,null->X
abbrev Fx(f1:FT1):=Fix1 arr1 ms1 f1
abbrev Fy(xs:List Int32)(f1:FT1)(f2:FT2):=Fix2 ms1 ms2 iv1 222 nmax1 (some xs) f1 f2
theorem En{f1}(h:Fx f1)(x1:Int32)(S):f1 (0,222,[V 0,I x1],[],S)=if x1<1 then f1 (0,231,[V 0,I x1,I 1],[],S) else f1 (0,231,[V 0,I x1,I x1],[],S):=Ja h 4 rfl<|Jm h rfl (Ja h 2 rfl rfl) rfl
theorem Ed{f1}(h:Fx f1)(x1 x2:Int32)(S):f1 (0,231,[V 0,I x1,I x2],[],S)=if 8<x2 then (f1 (2,0,[V 0],[],(upd S 0 0 8))).bind fun q=>f1 (0,249,[V 0,I x1,I 8],q.1.toList++[],q.2) else (f1 (2,0,[V 0],[],(upd S 0 0 x2))).bind fun q=>f1 (0,249,[V 0,I x1,I x2],q.1.toList++[],q.2):=Ja h 2 rfl<|JO h rfl (Ja h 6 rfl<|Jf h rfl rfl) (Ja h 4 rfl<|Jf h rfl rfl)
theorem Em{f1}(h:Fx f1)(x1 x2:Int32)(S):f1 (0,249,[V 0,I x1,I x2],[],S)=some (none,S):=Jk h rfl
theorem Ed0{f1}(h:Fx f1)(S):f1 (2,0,[V 0],[],S)=(f1 (31,0,[V 0],[],S)).bind fun q=>f1 (2,4,[V 0],q.1.toList++[],q.2):=Jd h rfl rfl<|Jf h rfl rfl
theorem Ea7{f1}(h:Fx f1)(S):f1 (2,4,[V 0],[],S)=(f1 (66,0,[V 0],[],(upd (upd (upd S 0 1 0) 0 2 0) 0 3 0))).bind fun q=>f1 (2,23,[V 0],q.1.toList++[],q.2):=Ja h 10 rfl<|Jf h rfl rfl
theorem Efo{f1}(h:Fx f1)(S):f1 (2,23,[V 0],[],S)=some (none,S):=Jk h rfl
theorem Edq{f1}(h:Fx f1)(S):f1 (31,0,[V 0],[],S)=f1 (31,2,[V 0,I 0],[],S):=Ja h 2 rfl rfl
theorem Eu{f1}(h:Fx f1)(x1:Int32)(S):f1 (31,2,[V 0,I x1],[],S)=if x1<64 then if inb x1 64=true then f1 (31,2,[V 0,I (x1+1)],[],(upd (upd (upd (upd (upd S 1 (x1).toNatClampNeg 0) 2 (x1).toNatClampNeg (-1)) 3 (x1).toNatClampNeg 0) 5 (x1).toNatClampNeg 0) 11 (x1).toNatClampNeg 0)) else none else f1 (31,51,[V 0,I 0],[],S):=Ja h 2 rfl<|Jm h rfl (Ja h 4 rfl<|Jv h rfl rfl fun i0=>Ja h 4 rfl<|Jx h rfl rfl i0<|Ja h 4 rfl<|Jx h rfl rfl i0<|Ja h 4 rfl<|J3 h rfl rfl i0<|Ja h 4 rfl<|Jx h rfl rfl i0<|Ja h 2 rfl rfl) (Ja h 2 rfl rfl)
theorem Ez{f1}(h:Fx f1)(x1:Int32)(S):f1 (31,51,[V 0,I x1],[],S)=if x1<512 then if inb x1 512=true then f1 (31,51,[V 0,I (x1+1)],[],(upd S 4 (x1).toNatClampNeg (-1))) else none else f1 (31,73,[V 0,I 0],[],S):=Ja h 2 rfl<|Jm h rfl (Ja h 4 rfl<|Jv h rfl rfl fun i0=>Ja h 2 rfl rfl) (Ja h 2 rfl rfl)
theorem EaL{f1}(h:Fx f1)(x1:Int32)(S):f1 (31,73,[V 0,I x1],[],S)=if x1<(S 0 0) then if x1<8 then if inb x1 64=true then f1 (31,73,[V 0,I (x1+1)],[],(upd S 5 (x1).toNatClampNeg 1)) else none else f1 (31,100,[V 0,I x1],[],S) else f1 (31,100,[V 0,I x1],[],S):=Ja h 3 rfl<|Jm h rfl (Ja h 2 rfl<|Jm h rfl (Ja h 4 rfl<|Jaa h rfl rfl fun i0=>Ja h 2 rfl rfl) rfl) rfl
theorem Ecg{f1}(h:Fx f1)(x1:Int32)(S):f1 (31,100,[V 0,I x1],[],S)=if (S 0 0)<2 then some (none,(upd S 0 4 0)) else f1 (31,142,[V 0,I 0],[],(upd (upd (upd S 0 4 8) 5 8 1) 1 8 1)):=Ja h 3 rfl<|Jm h rfl (Ja h 3 rfl<|Jk h rfl) (Ja h 8 rfl<|JaC h rfl rfl 8<|Ja h 5 rfl<|JaB h rfl rfl 8<|Ja h 2 rfl rfl)
theorem Eaf{f1}(h:Fx f1)(x1:Int32)(S):f1 (31,142,[V 0,I x1],[],S)=if x1<(S 0 0) then if x1<8 then (f1 (29,0,[V 0,I (S 0 4),I x1],[],S)).bind fun q=>f1 (31,165,[V 0,I x1],q.1.toList++[],q.2) else some (none,S) else some (none,S):=Ja h 3 rfl<|Jm h rfl (Ja h 2 rfl<|Jm h rfl (Ja h 4 rfl<|Jf h rfl rfl) (Jk h rfl)) (Jk h rfl)
theorem Eb4{f1}(h:Fx f1)(x1 y0:Int32)(S):f1 (31,165,[V 0,I x1],[I y0],S)=f1 (31,142,[V 0,I (x1+1)],[],S):=Ja h 3 rfl rfl
theorem Ea1{f1}(h:Fx f1)(x1 x2:Int32)(S):f1 (29,0,[V 0,I x1,I x2],[],S)=(f1 (21,0,[V 0,I x1],[],S)).bind fun q=>f1 (29,5,[V 0,I x1,I x2],q.1.toList++[],q.2):=Ja h 2 rfl<|Jf h rfl rfl
theorem EcT{f1}(h:Fx f1)(x1 x2 y0:Int32)(S):f1 (29,5,[V 0,I x1,I x2],[I y0],S)=if y0=0 then some (some (I 0),S) else (f1 (21,0,[V 0,I x2],[],S)).bind fun q=>f1 (29,13,[V 0,I x1,I x2],q.1.toList++[],q.2):=Jy h rfl (Jc h rfl k_0<|Jl h rfl) (Ja h 2 rfl<|Jf h rfl rfl)
theorem Edz{f1}(h:Fx f1)(x1 x2 y0:Int32)(S):f1 (29,13,[V 0,I x1,I x2],[I y0],S)=if y0=0 then some (some (I 0),S) else if inb x1 64=true then if (S 3 (x1).toNatClampNeg)<0 then some (some (I 0),S) else if (S 3 (x1).toNatClampNeg)<8 then if inb ((x1*8)+(S 3 (x1).toNatClampNeg)) 512=true then if inb x2 64=true then some (some (I 1),(upd (upd (upd S 4 (((x1*8)+(S 3 (x1).toNatClampNeg))).toNatClampNeg x2) 3 (x1).toNatClampNeg ((S 3 (x1).toNatClampNeg)+1)) 2 (x2).toNatClampNeg x1)) else none else none else some (some (I 0),S) else none:=Js h rfl (Jc h rfl k_0<|Jl h rfl) (Ja h 3 rfl<|Jo h rfl rfl fun i0=>Ja h 2 rfl<|JB h rfl (Jc h rfl k_0<|Jl h rfl) (Ja h 2 rfl<|JJ h rfl (Ja h 8 rfl<|Jv h rfl rfl fun i1=>Ja h 6 rfl<|Jx h rfl rfl i0<|Ja h 4 rfl<|Jv h rfl rfl fun i2=>Jc h rfl k_1<|JC h rfl) (Jc h rfl k_0<|Jl h rfl)))
theorem EaY{f1}(h:Fx f1)(x1:Int32)(S):f1 (21,0,[V 0,I x1],[],S)=if x1<0 then some (some (I 0),S) else if x1<64 then some (some (I 1),S) else some (some (I 0),S):=Jb h rfl rfl<|JB h rfl (Jc h rfl k_0<|Jl h rfl) (Ja h 2 rfl<|Jm h rfl (Ja h 2 rfl<|JC h rfl) (Jc h rfl k_0<|Jl h rfl))
theorem Ecx{f1}(h:Fx f1)(S):f1 (66,0,[V 0],[],S)=(f1 (36,0,[V 0],[],S)).bind fun q=>f1 (66,4,[V 0],q.1.toList++[],q.2):=Jd h rfl rfl<|Jf h rfl rfl
theorem Eep{f1}(h:Fx f1)(S):f1 (66,4,[V 0],[],S)=(f1 (69,0,[V 0],[],S)).bind fun q=>f1 (66,8,[V 0],q.1.toList++[],q.2):=Jd h rfl rfl<|Jf h rfl rfl
theorem Ebk{f1}(h:Fx f1)(S):f1 (66,8,[V 0],[],S)=(f1 (67,0,[V 0],[],S)).bind fun q=>f1 (66,13,[V 0],q.1.toList++[V 0],q.2):=Ja h 2 rfl<|Jf h rfl rfl
theorem Eev{f1}(h:Fx f1)(y0:Int32)(S):f1 (66,13,[V 0],[I y0,V 0],S)=(f1 (28,0,[V 0,I (S 0 4)],[],(upd S 0 11 y0))).bind fun q=>f1 (66,25,[V 0],q.1.toList++[V 0],q.2):=Ja h 5 rfl<|Jf h rfl rfl
theorem Eb8{f1}(h:Fx f1)(y0:Int32)(S):f1 (66,25,[V 0],[I y0,V 0],S)=(f1 (72,0,[V 0],[],(upd S 0 12 y0))).bind fun q=>f1 (66,32,[V 0],q.1.toList++[],q.2):=Ja h 2 rfl<|Jf h rfl rfl
theorem EeP{f1}(h:Fx f1)(S):f1 (66,32,[V 0],[],S)=some (none,S):=Jk h rfl
theorem Ees{f1}(h:Fx f1)(S):f1 (36,0,[V 0],[],S)=(f1 (21,0,[V 0,I (S 0 4)],[],(upd S 0 6 0))).bind fun q=>f1 (36,13,[V 0],q.1.toList++[],q.2):=Ja h 6 rfl<|Jf h rfl rfl
theorem EdM{f1}(h:Fx f1)(y0:Int32)(S):f1 (36,13,[V 0],[I y0],S)=if y0=0 then some (none,S) else f1 (36,38,[V 0,I 1,I 0],[],(upd (upd S 14 0 (S 0 4)) 15 0 0)):=Js h rfl (Jk h rfl) (Ja h 5 rfl<|JaB h rfl rfl 0<|Ja h 4 rfl<|JaB h rfl rfl 0<|Ja h 4 rfl rfl)
theorem EaO{f1}(h:Fx f1)(x1 x2:Int32)(S):f1 (36,38,[V 0,I x1,I x2],[],S)=if x2<1024 then if 0<x1 then if inb (x1-1) 128=true then (f1 (22,0,[V 0,I (S 14 ((x1-1)).toNatClampNeg)],[],S)).bind fun q=>f1 (36,75,[V 0,I x1,I x2,I (x1-1),I (S 14 ((x1-1)).toNatClampNeg),I (S 15 ((x1-1)).toNatClampNeg)],q.1.toList++[],q.2) else none else some (none,S) else some (none,S):=Ja h 2 rfl<|Jm h rfl (Jb h rfl rfl<|Jab h rfl (Ja h 7 rfl<|Jo h rfl rfl fun i0=>Ja h 4 rfl<|JF h rfl rfl i0<|Ja h 3 rfl<|Jf h rfl rfl) (Jk h rfl)) (Jk h rfl)
theorem Ek{f1}(h:Fx f1)(x1 x2 x3 x4 x5 y0:Int32)(S):f1 (36,75,[V 0,I x1,I x2,I x3,I x4,I x5],[I y0],S)=if y0=0 then f1 (36,146,[V 0,I x1,I x2,I x3,I x4,I x5],[],S) else (f1 (23,0,[V 0,I x4],[],S)).bind fun q=>f1 (36,86,[V 0,I x1,I x2,I x3,I x4,I x5],q.1.toList++[I x5],q.2):=Jy h rfl rfl (Ja h 3 rfl<|Jf h rfl rfl)
theorem Eaj{f1}(h:Fx f1)(x1 x2 x3 x4 x5 y0 y1:Int32)(S):f1 (36,86,[V 0,I x1,I x2,I x3,I x4,I x5],[I y0,I y1],S)=if y1<y0 then if inb x3 128=true then (f1 (24,0,[V 0,I x4,I x5],[],(upd S 15 (x3).toNatClampNeg (x5+1)))).bind fun q=>f1 (36,107,[V 0,I x1,I x2,I x3,I x4,I x5],q.1.toList++[],q.2) else none else f1 (36,146,[V 0,I x1,I x2,I x3,I x4,I x5],[],S):=Jm h rfl (Ja h 6 rfl<|Jv h rfl rfl fun i0=>Ja h 3 rfl<|Jf h rfl rfl) rfl
theorem EdH{f1}(h:Fx f1)(x1 x2 x3 x4 x5 y0:Int32)(S):f1 (36,107,[V 0,I x1,I x2,I x3,I x4,I x5],[I y0],S)=(f1 (21,0,[V 0,I y0],[],S)).bind fun q=>f1 (36,115,[V 0,I x1,I x2,I x3,I x4,I x5,I y0],q.1.toList++[],q.2):=Ja h 3 rfl<|Jf h rfl rfl
theorem Edt{f1}(h:Fx f1)(x1 x2 x3 x4 x5 x6 y0:Int32)(S):f1 (36,115,[V 0,I x1,I x2,I x3,I x4,I x5,I x6],[I y0],S)=if y0=0 then f1 (36,38,[V 0,I x1,I (x2+1)],[],S) else if x1<128 then if inb x1 128=true then f1 (36,38,[V 0,I (x1+1),I (x2+1)],[],(upd (upd S 14 (x1).toNatClampNeg x6) 15 (x1).toNatClampNeg 0)) else none else f1 (36,38,[V 0,I x1,I (x2+1)],[],S):=Jy h rfl (Ja h 3 rfl<|Jr h rfl rfl) (Ja h 2 rfl<|Jm h rfl (Ja h 4 rfl<|Jv h rfl rfl fun i0=>Ja h 4 rfl<|Jx h rfl rfl i0<|Ja h 4 rfl<|Jr h rfl rfl) (Ja h 3 rfl<|Jr h rfl rfl))
theorem EeM{f1}(h:Fx f1)(x1 x2 x3 x4 x5:Int32)(S):f1 (36,146,[V 0,I x1,I x2,I x3,I x4,I x5],[],S)=if (S 0 6)<64 then if inb (S 0 6) 64=true then f1 (36,38,[V 0,I (x1+(-1)),I (x2+1)],[],(upd (upd S 13 ((S 0 6)).toNatClampNeg x4) 0 6 ((S 0 6)+1))) else none else f1 (36,38,[V 0,I (x1+(-1)),I (x2+1)],[],S):=Ja h 4 rfl<|Jm h rfl (Ja h 5 rfl<|Jv h rfl rfl fun i0=>Ja h 8 rfl<|Jr h rfl rfl) (Ja h 2 rfl<|Jr h rfl rfl)
theorem Ee7{f1}(h:Fx f1)(x1:Int32)(S):f1 (22,0,[V 0,I x1],[],S)=(f1 (21,0,[V 0,I x1],[],S)).bind fun q=>f1 (22,5,[V 0,I x1],q.1.toList++[],q.2):=Ja h 2 rfl<|Jf h rfl rfl
theorem Ec7{f1}(h:Fx f1)(x1 y0:Int32)(S):f1 (22,5,[V 0,I x1],[I y0],S)=if y0=0 then some (some (I 0),S) else if inb x1 64=true then if (S 1 (x1).toNatClampNeg)=0 then some (some (I 0),S) else some (some (I 1),S) else none:=Jy h rfl (Jc h rfl k_0<|Jl h rfl) (Ja h 3 rfl<|Jo h rfl rfl fun i0=>Jy h rfl (Jc h rfl k_0<|Jl h rfl) (Ja h 2 rfl<|JC h rfl))
theorem EeS{f1}(h:Fx f1)(x1:Int32)(S):f1 (23,0,[V 0,I x1],[],S)=(f1 (21,0,[V 0,I x1],[],S)).bind fun q=>f1 (23,5,[V 0,I x1],q.1.toList++[],q.2):=Ja h 2 rfl<|Jf h rfl rfl
theorem EdU{f1}(h:Fx f1)(x1 y0:Int32)(S):f1 (23,5,[V 0,I x1],[I y0],S)=if y0=0 then some (some (I 0),S) else if inb x1 64=true then if (S 3 (x1).toNatClampNeg)<0 then some (some (I 0),S) else if 8<(S 3 (x1).toNatClampNeg) then some (some (I 8),S) else some (some (I (S 3 (x1).toNatClampNeg)),S) else none:=Js h rfl (Jc h rfl k_0<|Ji h rfl) (Ja h 3 rfl<|Jo h rfl rfl fun i0=>Ja h 2 rfl<|JP h rfl (Jc h rfl k_0<|Ji h rfl) (Ja h 2 rfl<|JO h rfl (Jc h rfl k_8<|Ji h rfl) (Jb h rfl rfl<|Ji h rfl)))
theorem Ebt{f1}(h:Fx f1)(x1 x2:Int32)(S):f1 (24,0,[V 0,I x1,I x2],[],S)=(f1 (21,0,[V 0,I x1],[],S)).bind fun q=>f1 (24,5,[V 0,I x1,I x2],q.1.toList++[],q.2):=Ja h 2 rfl<|Jf h rfl rfl
theorem Efi{f1}(h:Fx f1)(x1 x2 y0:Int32)(S):f1 (24,5,[V 0,I x1,I x2],[I y0],S)=if y0=0 then some (some (I (-1)),S) else if x2<0 then some (some (I (-1)),S) else if x2<8 then if inb ((x1*8)+x2) 512=true then some (some (I (S 4 (((x1*8)+x2)).toNatClampNeg)),S) else none else some (some (I (-1)),S):=Jy h rfl (Jc h rfl k_m1<|Ji h rfl) (Jb h rfl rfl<|JB h rfl (Jc h rfl k_m1<|Ji h rfl) (Ja h 2 rfl<|JJ h rfl (Ja h 7 rfl<|Jo h rfl rfl fun i0=>Ji h rfl) (Jc h rfl k_m1<|Ji h rfl)))
theorem Ebp{f1}(h:Fx f1)(S):f1 (69,0,[V 0],[],S)=f1 (69,2,[V 0,I 0],[],S):=Ja h 2 rfl rfl
theorem Eag{f1}(h:Fx f1)(x1:Int32)(S):f1 (69,2,[V 0,I x1],[],S)=if x1<(S 0 6) then if x1<64 then if inb x1 64=true then (f1 (21,0,[V 0,I (S 13 (x1).toNatClampNeg)],[],S)).bind fun q=>f1 (69,28,[V 0,I x1,I (S 13 (x1).toNatClampNeg)],q.1.toList++[],q.2) else none else some (none,S) else some (none,S):=Ja h 3 rfl<|Jm h rfl (Ja h 2 rfl<|Jm h rfl (Ja h 3 rfl<|Jo h rfl rfl fun i0=>Ja h 3 rfl<|Jf h rfl rfl) (Jk h rfl)) (Jk h rfl)
theorem EW{f1}(h:Fx f1)(x1 x2 y0:Int32)(S):f1 (69,28,[V 0,I x1,I x2],[I y0],S)=if y0=0 then f1 (69,95,[V 0,I x1,I x2],[],S) else if inb x2 64=true then if (S 1 (x2).toNatClampNeg)=0 then if x2<8 then f1 (69,95,[V 0,I x1,I x2],[],(upd (upd S 20 (x2).toNatClampNeg x2) 21 (x2).toNatClampNeg (1<<<(x2&&&31)))) else f1 (69,95,[V 0,I x1,I x2],[],(upd (upd S 20 (x2).toNatClampNeg x2) 21 (x2).toNatClampNeg 0)) else if (S 1 (x2).toNatClampNeg)=1 then (f1 (70,0,[V 0,I x2],[],S)).bind fun q=>f1 (69,87,[V 0,I x1,I x2],q.1.toList++[],q.2) else (f1 (71,0,[V 0,I x2],[],S)).bind fun q=>f1 (69,95,[V 0,I x1,I x2],q.1.toList++[],q.2) else none:=Js h rfl (Jh h rfl rfl) (Ja h 3 rfl<|Jo h rfl rfl fun i0=>Js h rfl (Ja h 4 rfl<|Jx h rfl rfl i0<|Ja h 5 rfl<|Jm h rfl (Ja h 4 rfl<|Jx h rfl rfl i0<|Jh h rfl rfl) (Jc h rfl k_0<|Jx h rfl rfl i0<|Jh h rfl rfl)) (Ja h 3 rfl<|JF h rfl rfl i0<|Jc h rfl k_1<|Jp h rfl (Ja h 2 rfl<|Jf h rfl rfl) (Ja h 2 rfl<|Jf h rfl rfl)))
theorem EaW{f1}(h:Fx f1)(x1 x2:Int32)(S):f1 (69,87,[V 0,I x1,I x2],[],S)=f1 (69,95,[V 0,I x1,I x2],[],S):=Jh h rfl rfl
theorem Eaa{f1}(h:Fx f1)(x1 x2:Int32)(S):f1 (69,95,[V 0,I x1,I x2],[],S)=f1 (69,2,[V 0,I (x1+1)],[],S):=Ja h 2 rfl<|Jr h rfl rfl
theorem EeY{f1}(h:Fx f1)(x1:Int32)(S):f1 (70,0,[V 0,I x1],[],S)=(f1 (23,0,[V 0,I x1],[],S)).bind fun q=>f1 (70,10,[V 0,I x1,I 64,I 0],q.1.toList++[],q.2):=Ja h 6 rfl<|Jf h rfl rfl
theorem Eca{f1}(h:Fx f1)(x1 x2 x3 y0:Int32)(S):f1 (70,10,[V 0,I x1,I x2,I x3],[I y0],S)=f1 (70,15,[V 0,I x1,I x2,I x3,I y0,I 0],[],S):=Ja h 3 rfl rfl
theorem Ew{f1}(h:Fx f1)(x1 x2 x3 x4 x5:Int32)(S):f1 (70,15,[V 0,I x1,I x2,I x3,I x4,I x5],[],S)=if x5<x4 then if x5<8 then (f1 (24,0,[V 0,I x1,I x5],[],S)).bind fun q=>f1 (70,36,[V 0,I x1,I x2,I x3,I x4,I x5],q.1.toList++[],q.2) else f1 (70,82,[V 0,I x1,I x2,I x3,I x4,I x5],[],S) else f1 (70,82,[V 0,I x1,I x2,I x3,I x4,I x5],[],S):=Ja h 2 rfl<|Jm h rfl (Ja h 2 rfl<|Jm h rfl (Ja h 3 rfl<|Jf h rfl rfl) rfl) rfl
theorem Edo{f1}(h:Fx f1)(x1 x2 x3 x4 x5 y0:Int32)(S):f1 (70,36,[V 0,I x1,I x2,I x3,I x4,I x5],[I y0],S)=(f1 (21,0,[V 0,I y0],[],S)).bind fun q=>f1 (70,44,[V 0,I x1,I x2,I x3,I x4,I x5,I y0],q.1.toList++[],q.2):=Ja h 3 rfl<|Jf h rfl rfl
theorem Efk{f1}(h:Fx f1)(x1 x2 x3 x4 x5 x6 y0:Int32)(S):f1 (70,44,[V 0,I x1,I x2,I x3,I x4,I x5,I x6],[I y0],S)=if y0=0 then f1 (70,15,[V 0,I x1,I x2,I x3,I x4,I (x5+1)],[],S) else if inb x6 64=true then if (S 20 (x6).toNatClampNeg)<x2 then f1 (70,15,[V 0,I x1,I (S 20 (x6).toNatClampNeg),I (x3|||(S 21 (x6).toNatClampNeg)),I x4,I (x5+1)],[],S) else f1 (70,15,[V 0,I x1,I x2,I (x3|||(S 21 (x6).toNatClampNeg)),I x4,I (x5+1)],[],S) else none:=Jy h rfl (Ja h 2 rfl<|Jr h rfl rfl) (Ja h 3 rfl<|Jo h rfl rfl fun i0=>Jb h rfl rfl<|Jm h rfl (Ja h 3 rfl<|JF h rfl rfl i0<|Ja h 5 rfl<|JF h rfl rfl i0<|Ja h 4 rfl<|Jr h rfl rfl) (Ja h 4 rfl<|JF h rfl rfl i0<|Ja h 4 rfl<|Jr h rfl rfl))
theorem Edr{f1}(h:Fx f1)(x1 x2 x3 x4 x5:Int32)(S):f1 (70,82,[V 0,I x1,I x2,I x3,I x4,I x5],[],S)=if inb x1 64=true then some (none,(upd (upd S 20 (x1).toNatClampNeg x2) 21 (x1).toNatClampNeg x3)) else none:=Ja h 4 rfl<|Jv h rfl rfl fun i0=>Ja h 4 rfl<|Jx h rfl rfl i0<|Jk h rfl
theorem EU{f1}(h:Fx f1)(S):f1 (67,0,[V 0],[],S)=f1 (67,4,[V 0,I 1,I 0],[],S):=Ja h 4 rfl rfl
theorem Ei{f1}(h:Fx f1)(x1 x2:Int32)(S):f1 (67,4,[V 0,I x1,I x2],[],S)=if x2<(S 0 6) then if x2<64 then if inb x2 64=true then (f1 (22,0,[V 0,I (S 13 (x2).toNatClampNeg)],[],S)).bind fun q=>f1 (67,30,[V 0,I x1,I x2,I (S 13 (x2).toNatClampNeg)],q.1.toList++[],q.2) else none else some (some (I x1),S) else some (some (I x1),S):=Ja h 3 rfl<|Jm h rfl (Ja h 2 rfl<|Jm h rfl (Ja h 3 rfl<|Jo h rfl rfl fun i0=>Ja h 3 rfl<|Jf h rfl rfl) (Jb h rfl rfl<|Ji h rfl)) (Jb h rfl rfl<|Ji h rfl)
theorem EG{f1}(h:Fx f1)(x1 x2 x3 y0:Int32)(S):f1 (67,30,[V 0,I x1,I x2,I x3],[I y0],S)=if y0=0 then f1 (67,4,[V 0,I x1,I (x2+1)],[],S) else (f1 (23,0,[V 0,I x3],[],S)).bind fun q=>f1 (67,41,[V 0,I x1,I x2,I x3],q.1.toList++[],q.2):=Js h rfl (Ja h 3 rfl<|Jr h rfl rfl) (Ja h 2 rfl<|Jf h rfl rfl)
theorem EfB{f1}(h:Fx f1)(x1 x2 x3 y0:Int32)(S):f1 (67,41,[V 0,I x1,I x2,I x3],[I y0],S)=if inb x3 64=true then if (S 1 (x3).toNatClampNeg)=1 then (f1 (68,0,[V 0,I y0],[],S)).bind fun q=>f1 (67,60,[V 0,I x1,I x2,I x3,I y0],q.1.toList++[I x1],q.2) else f1 (67,4,[V 0,I (x1*2),I (x2+1)],[],S) else none:=Ja h 4 rfl<|Jo h rfl rfl fun i0=>Jc h rfl k_1<|Jp h rfl (Ja h 3 rfl<|Jf h rfl rfl) (Ja h 6 rfl<|Jr h rfl rfl)
theorem Ecd{f1}(h:Fx f1)(x1 x2 x3 x4 y0 y1:Int32)(S):f1 (67,60,[V 0,I x1,I x2,I x3,I x4],[I y0,I y1],S)=f1 (67,4,[V 0,I (y1*y0),I (x2+1)],[],S):=Ja h 5 rfl<|Jr h rfl rfl
theorem EbL{f1}(h:Fx f1)(x1:Int32)(S):f1 (68,0,[V 0,I x1],[],S)=f1 (68,4,[V 0,I x1,I 1,I 2],[],S):=Ja h 4 rfl rfl
theorem EaD{f1}(h:Fx f1)(x1 x2 x3:Int32)(S):f1 (68,4,[V 0,I x1,I x2,I x3],[],S)=if x1<x3 then some (some (I x2),S) else if 8<x3 then some (some (I x2),S) else f1 (68,4,[V 0,I x1,I (x2*x3),I (x3+1)],[],S):=Ja h 2 rfl<|JT h rfl (Jb h rfl rfl<|Ji h rfl) (Ja h 2 rfl<|JT h rfl (Jb h rfl rfl<|Ji h rfl) (Ja h 6 rfl rfl))
theorem EdJ{f1}(h:Fx f1)(x1:Int32)(S):f1 (28,0,[V 0,I x1],[],S)=(f1 (21,0,[V 0,I x1],[],S)).bind fun q=>f1 (28,5,[V 0,I x1],q.1.toList++[],q.2):=Ja h 2 rfl<|Jf h rfl rfl
theorem EbC{f1}(h:Fx f1)(x1 y0:Int32)(S):f1 (28,5,[V 0,I x1],[I y0],S)=if y0=0 then some (some (I 0),S) else if inb x1 64=true then some (some (I (S 21 (x1).toNatClampNeg)),S) else none:=Js h rfl (Jc h rfl k_0<|Ji h rfl) (Ja h 3 rfl<|Jo h rfl rfl fun i0=>Ji h rfl)
theorem Ecs{f1}(h:Fx f1)(S):f1 (72,0,[V 0],[],S)=f1 (72,2,[V 0,I 0],[],S):=Ja h 2 rfl rfl
theorem EN{f1}(h:Fx f1)(x1:Int32)(S):f1 (72,2,[V 0,I x1],[],S)=if x1<8 then if inb x1 8=true then f1 (72,2,[V 0,I (x1+1)],[],(upd (upd S 22 (x1).toNatClampNeg (-1)) 23 (x1).toNatClampNeg (-1))) else none else (f1 (21,0,[V 0,I (S 0 4)],[],S)).bind fun q=>f1 (72,36,[V 0,I x1],q.1.toList++[],q.2):=Ja h 2 rfl<|Jm h rfl (Ja h 4 rfl<|Jv h rfl rfl fun i0=>Ja h 4 rfl<|Jx h rfl rfl i0<|Ja h 2 rfl rfl) (Ja h 3 rfl<|Jf h rfl rfl)
theorem EdS{f1}(h:Fx f1)(x1 y0:Int32)(S):f1 (72,36,[V 0,I x1],[I y0],S)=if y0=0 then some (none,S) else f1 (72,56,[V 0,I 1,I 0,I 0],[],(upd S 14 0 (S 0 4))):=Js h rfl (Jk h rfl) (Ja h 5 rfl<|JaB h rfl rfl 0<|Ja h 6 rfl rfl)
theorem EK{f1}(h:Fx f1)(x1 x2 x3:Int32)(S):f1 (72,56,[V 0,I x1,I x2,I x3],[],S)=if x3<1024 then if 0<x1 then if inb (x1+(-1)) 128=true then (f1 (21,0,[V 0,I (S 14 ((x1+(-1))).toNatClampNeg)],[],S)).bind fun q=>f1 (72,84,[V 0,I (x1+(-1)),I x2,I x3,I (S 14 ((x1+(-1))).toNatClampNeg)],q.1.toList++[],q.2) else none else (f1 (75,0,[V 0],[],S)).bind fun q=>f1 (72,167,[V 0,I x1,I x2,I x3],q.1.toList++[],q.2) else (f1 (75,0,[V 0],[],S)).bind fun q=>f1 (72,167,[V 0,I x1,I x2,I x3],q.1.toList++[],q.2):=Ja h 2 rfl<|Jm h rfl (Jb h rfl rfl<|Jab h rfl (Ja h 4 rfl<|Jo h rfl rfl fun i0=>Ja h 3 rfl<|Jf h rfl rfl) (Jd h rfl rfl<|Jf h rfl rfl)) (Jd h rfl rfl<|Jf h rfl rfl)
theorem Eas{f1}(h:Fx f1)(x1 x2 x3 x4 y0:Int32)(S):f1 (72,84,[V 0,I x1,I x2,I x3,I x4],[I y0],S)=if y0=0 then f1 (72,56,[V 0,I x1,I x2,I (x3+1)],[],S) else if inb x4 64=true then if (S 1 (x4).toNatClampNeg)=0 then if x2<8 then if x4<8 then if inb x2 8=true then f1 (72,56,[V 0,I x1,I (x2+1),I (x3+1)],[],(upd S 22 (x2).toNatClampNeg x4)) else none else f1 (72,56,[V 0,I x1,I x2,I (x3+1)],[],S) else f1 (72,56,[V 0,I x1,I x2,I (x3+1)],[],S) else if (S 1 (x4).toNatClampNeg)=1 then (f1 (73,0,[V 0,I x4,I x1],[],S)).bind fun q=>f1 (72,145,[V 0,I x1,I x2,I x3,I x4],q.1.toList++[],q.2) else (f1 (74,0,[V 0,I x4,I x1],[],S)).bind fun q=>f1 (72,156,[V 0,I x1,I x2,I x3,I x4],q.1.toList++[],q.2) else none:=Js h rfl (Ja h 3 rfl<|Jr h rfl rfl) (Ja h 3 rfl<|Jo h rfl rfl fun i0=>Js h rfl (Ja h 2 rfl<|Jm h rfl (Ja h 2 rfl<|Jm h rfl (Ja h 4 rfl<|Jv h rfl rfl fun i1=>Ja h 4 rfl<|Jr h rfl rfl) (Ja h 2 rfl<|Jr h rfl rfl)) (Ja h 2 rfl<|Jr h rfl rfl)) (Ja h 3 rfl<|JF h rfl rfl i0<|Jc h rfl k_1<|Jp h rfl (Ja h 3 rfl<|Jf h rfl rfl) (Ja h 3 rfl<|Jf h rfl rfl)))
theorem EeE{f1}(h:Fx f1)(x1 x2 x3 x4 y0:Int32)(S):f1 (72,145,[V 0,I x1,I x2,I x3,I x4],[I y0],S)=f1 (72,56,[V 0,I y0,I x2,I (x3+1)],[],S):=Ja h 4 rfl<|Jr h rfl rfl
theorem Ea5{f1}(h:Fx f1)(x1 x2 x3 x4 y0:Int32)(S):f1 (72,156,[V 0,I x1,I x2,I x3,I x4],[I y0],S)=f1 (72,56,[V 0,I y0,I x2,I (x3+1)],[],S):=Ja h 3 rfl<|Jr h rfl rfl
theorem Edy{f1}(h:Fx f1)(x1 x2 x3:Int32)(S):f1 (72,167,[V 0,I x1,I x2,I x3],[],S)=some (none,S):=Jk h rfl
theorem EbQ{f1}(h:Fx f1)(x1 x2:Int32)(S):f1 (73,0,[V 0,I x1,I x2],[],S)=(f1 (23,0,[V 0,I x1],[],S)).bind fun q=>f1 (73,5,[V 0,I x1,I x2],q.1.toList++[],q.2):=Ja h 2 rfl<|Jf h rfl rfl
theorem Edi{f1}(h:Fx f1)(x1 x2 y0:Int32)(S):f1 (73,5,[V 0,I x1,I x2],[I y0],S)=f1 (73,15,[V 0,I x1,I x2,I y0,I 0,I x2,I 0],[],S):=Ja h 7 rfl rfl
theorem EJ{f1}(h:Fx f1)(x1 x2 x3 x4 x5 x6:Int32)(S):f1 (73,15,[V 0,I x1,I x2,I x3,I x4,I x5,I x6],[],S)=if x6<x3 then if x6<8 then f1 (73,37,[V 0,I x1,I x2,I x3,I x4,I x5,I x6,I (-1),I (-1),I 0],[],S) else some (some (I x5),S) else some (some (I x5),S):=Ja h 2 rfl<|Jm h rfl (Ja h 2 rfl<|Jm h rfl (Ja h 6 rfl rfl) (Jb h rfl rfl<|Ji h rfl)) (Jb h rfl rfl<|Ji h rfl)
theorem EaS{f1}(h:Fx f1)(x1 x2 x3 x4 x5 x6 x7 x8 x9:Int32)(S):f1 (73,37,[V 0,I x1,I x2,I x3,I x4,I x5,I x6,I x7,I x8,I x9],[],S)=if x9<x3 then if x9<8 then (f1 (24,0,[V 0,I x1,I x9],[],S)).bind fun q=>f1 (73,57,[V 0,I x1,I x2,I x3,I x4,I x5,I x6,I x7,I x8,I x9],q.1.toList++[],q.2) else f1 (73,114,[V 0,I x1,I x2,I x3,I x4,I x5,I x6,I x7,I x8,I x9],[],S) else f1 (73,114,[V 0,I x1,I x2,I x3,I x4,I x5,I x6,I x7,I x8,I x9],[],S):=Ja h 2 rfl<|Jm h rfl (Ja h 2 rfl<|Jm h rfl (Ja h 3 rfl<|Jf h rfl rfl) rfl) rfl
theorem Ebr{f1}(h:Fx f1)(x1 x2 x3 x4 x5 x6 x7 x8 x9 y0:Int32)(S):f1 (73,57,[V 0,I x1,I x2,I x3,I x4,I x5,I x6,I x7,I x8,I x9],[I y0],S)=if ((x4>>>(x9&&&31))&&&1)=0 then (f1 (21,0,[V 0,I y0],[],S)).bind fun q=>f1 (73,75,[V 0,I x1,I x2,I x3,I x4,I x5,I x6,I x7,I x8,I x9,I y0],q.1.toList++[],q.2) else f1 (73,37,[V 0,I x1,I x2,I x3,I x4,I x5,I x6,I x7,I x8,I (x9+1)],[],S):=Ja h 6 rfl<|Js h rfl (Ja h 2 rfl<|Jf h rfl rfl) (Ja h 2 rfl<|Jr h rfl rfl)
theorem Ebb{f1}(h:Fx f1)(x1 x2 x3 x4 x5 x6 x7 x8 x9 x10 y0:Int32)(S):f1 (73,75,[V 0,I x1,I x2,I x3,I x4,I x5,I x6,I x7,I x8,I x9,I x10],[I y0],S)=if y0=0 then f1 (73,37,[V 0,I x1,I x2,I x3,I x4,I x5,I x6,I x7,I x8,I (x9+1)],[],S) else if x7<0 then if inb x10 64=true then f1 (73,37,[V 0,I x1,I x2,I x3,I x4,I x5,I x6,I x9,I (S 20 (x10).toNatClampNeg),I (x9+1)],[],S) else none else if inb x10 64=true then if x8<(S 20 (x10).toNatClampNeg) then f1 (73,37,[V 0,I x1,I x2,I x3,I x4,I x5,I x6,I x9,I (S 20 (x10).toNatClampNeg),I (x9+1)],[],S) else f1 (73,37,[V 0,I x1,I x2,I x3,I x4,I x5,I x6,I x7,I x8,I (x9+1)],[],S) else none:=Jy h rfl (Ja h 2 rfl<|Jr h rfl rfl) (Jb h rfl rfl<|JB h rfl (Ja h 5 rfl<|Jo h rfl rfl fun i0=>Ja h 3 rfl<|Jr h rfl rfl) (Ja h 3 rfl<|Jo h rfl rfl fun i0=>Jb h rfl rfl<|JO h rfl (Ja h 5 rfl<|JF h rfl rfl i0<|Ja h 3 rfl<|Jr h rfl rfl) (Ja h 2 rfl<|Jr h rfl rfl)))
theorem Eci{f1}(h:Fx f1)(x1 x2 x3 x4 x5 x6 x7 x8 x9:Int32)(S):f1 (73,114,[V 0,I x1,I x2,I x3,I x4,I x5,I x6,I x7,I x8,I x9],[],S)=if x7<0 then some (some (I x5),S) else (f1 (24,0,[V 0,I x1,I x7],[],S)).bind fun q=>f1 (73,138,[V 0,I x1,I x2,I x3,I (x4|||(1<<<(x7&&&31))),I x5,I x6,I x7,I x8,I x9],q.1.toList++[],q.2):=Jb h rfl rfl<|JP h rfl (Jb h rfl rfl<|Ji h rfl) (Ja h 9 rfl<|Jf h rfl rfl)
theorem Ecq{f1}(h:Fx f1)(x1 x2 x3 x4 x5 x6 x7 x8 x9 y0:Int32)(S):f1 (73,138,[V 0,I x1,I x2,I x3,I x4,I x5,I x6,I x7,I x8,I x9],[I y0],S)=if x5<128 then if inb x5 128=true then f1 (73,15,[V 0,I x1,I x2,I x3,I x4,I (x5+1),I (x6+1)],[],(upd S 14 (x5).toNatClampNeg y0)) else none else f1 (73,15,[V 0,I x1,I x2,I x3,I x4,I x5,I (x6+1)],[],S):=Ja h 3 rfl<|Jm h rfl (Ja h 4 rfl<|Jv h rfl rfl fun i0=>Ja h 3 rfl<|Jr h rfl rfl) (Ja h 2 rfl<|Jr h rfl rfl)
theorem EeH{f1}(h:Fx f1)(S):f1 (75,0,[V 0],[],S)=f1 (75,2,[V 0,I 0],[],S):=Ja h 2 rfl rfl
theorem Eax{f1}(h:Fx f1)(x1:Int32)(S):f1 (75,2,[V 0,I x1],[],S)=if x1<(S 0 0) then if x1<8 then if inb x1 8=true then if (S 22 (x1).toNatClampNeg)<0 then f1 (75,2,[V 0,I (x1+1)],[],S) else if (S 22 (x1).toNatClampNeg)<8 then if inb (S 22 (x1).toNatClampNeg) 8=true then f1 (75,2,[V 0,I (x1+1)],[],(upd S 23 ((S 22 (x1).toNatClampNeg)).toNatClampNeg x1)) else none else f1 (75,2,[V 0,I (x1+1)],[],S) else none else some (none,S) else some (none,S):=Ja h 3 rfl<|Jm h rfl (Ja h 2 rfl<|Jm h rfl (Ja h 3 rfl<|Jo h rfl rfl fun i0=>Ja h 2 rfl<|JB h rfl (Ja h 2 rfl<|Jr h rfl rfl) (Ja h 2 rfl<|Jm h rfl (Ja h 4 rfl<|Jv h rfl rfl fun i1=>Ja h 2 rfl<|Jr h rfl rfl) (Ja h 2 rfl<|Jr h rfl rfl))) (Jk h rfl)) (Jk h rfl)
theorem Eh{f1}(h:Fx f1)(S):f1 (10,0,[V 0],[],S)=some (some (I (S 0 11)),S):=Ja h 2 rfl<|Ji h rfl
theorem Ecy{f1}(h:Fx f1)(x1:Int32)(S):f1 (11,0,[V 0,I x1],[],S)=if x1<0 then some (some (I (-1)),S) else if x1<(S 0 0) then if inb x1 8=true then some (some (I (S 22 (x1).toNatClampNeg)),S) else none else some (some (I (-1)),S):=Jb h rfl rfl<|JB h rfl (Jc h rfl k_m1<|Ji h rfl) (Ja h 3 rfl<|JJ h rfl (Ja h 3 rfl<|Jo h rfl rfl fun i0=>Ji h rfl) (Jc h rfl k_m1<|Ji h rfl))
theorem EbT{f1}(h:Fx f1)(x1:Int32)(S):f1 (12,0,[V 0,I x1],[],S)=if x1<0 then some (some (I (-1)),S) else if x1<(S 0 0) then if inb x1 8=true then some (some (I (S 23 (x1).toNatClampNeg)),S) else none else some (some (I (-1)),S):=Jb h rfl rfl<|JB h rfl (Jc h rfl k_m1<|Ji h rfl) (Ja h 3 rfl<|JJ h rfl (Ja h 3 rfl<|Jo h rfl rfl fun i0=>Ji h rfl) (Jc h rfl k_m1<|Ji h rfl))
theorem Efe{f1}(h:Fx f1)(x1:Int32)(S):f1 (9,0,[V 0,I x1],[],S)=(f1 (19,0,[V 0,I x1],[],S)).bind fun q=>f1 (9,5,[V 0,I x1],q.1.toList++[],q.2):=Ja h 2 rfl<|Jf h rfl rfl
theorem Efv{f1}(h:Fx f1)(x1 y0:Int32)(S):f1 (9,5,[V 0,I x1],[I y0],S)=if y0=0 then some (some (I 0),S) else (f1 (17,0,[V 0,I x1],[],S)).bind fun q=>f1 (9,15,[V 0,I x1],q.1.toList++[],q.2):=Js h rfl (Jc h rfl k_0<|Ji h rfl) (Ja h 2 rfl<|Jf h rfl rfl)
theorem Ebx{f1}(h:Fx f1)(x1 y0:Int32)(S):f1 (9,15,[V 0,I x1],[I y0],S)=if y0=1 then (f1 (35,0,[V 0],[],S)).bind fun q=>f1 (9,25,[V 0,I x1,I y0],q.1.toList++[],q.2) else f1 (9,25,[V 0,I x1,I y0],[],S):=Ja h 3 rfl<|Jp h rfl (Jd h rfl rfl<|Jf h rfl rfl) rfl
theorem Eac{f1}(h:Fx f1)(x1 x2:Int32)(S):f1 (9,25,[V 0,I x1,I x2],[],S)=some (some (I x2),S):=Jb h rfl rfl<|Ji h rfl
theorem EfA{f1}(h:Fx f1)(x1:Int32)(S):f1 (19,0,[V 0,I x1],[],S)=(f1 (18,0,[V 0],[],S)).bind fun q=>f1 (19,4,[V 0,I x1],q.1.toList++[],q.2):=Jd h rfl rfl<|Jf h rfl rfl
theorem Ece{f1}(h:Fx f1)(x1 y0:Int32)(S):f1 (19,4,[V 0,I x1],[I y0],S)=if (x1&&&(y0^^^(-1)))=0 then some (some (I 1),S) else some (some (I 0),S):=Ja h 6 rfl<|Js h rfl (Ja h 2 rfl<|JC h rfl) (Jc h rfl k_0<|Jl h rfl)
theorem Ebd{f1}(h:Fx f1)(S):f1 (18,0,[V 0],[],S)=some (some (I ((1<<<((S 0 0)&&&31))-1)),S):=Ja h 6 rfl<|Ji h rfl
theorem EbI{f1}(h:Fx f1)(x1:Int32)(S):f1 (17,0,[V 0,I x1],[],S)=(f1 (20,0,[V 0,I x1],[],S)).bind fun q=>f1 (17,5,[V 0,I x1],q.1.toList++[],q.2):=Ja h 2 rfl<|Jf h rfl rfl
theorem Eb6{f1}(h:Fx f1)(x1 y0:Int32)(S):f1 (17,5,[V 0,I x1],[I y0],S)=if y0=0 then (f1 (34,0,[V 0],[],S)).bind fun q=>f1 (17,14,[V 0,I x1],q.1.toList++[],q.2) else some (some (I 2),S):=Jy h rfl (Jd h rfl rfl<|Jf h rfl rfl) (Jc h rfl k_2<|Ji h rfl)
theorem Ee3{f1}(h:Fx f1)(x1:Int32)(S):f1 (17,14,[V 0,I x1],[],S)=(f1 (42,0,[V 0,I x1],[],S)).bind fun q=>f1 (17,19,[V 0,I x1],q.1.toList++[],q.2):=Ja h 2 rfl<|Jf h rfl rfl
theorem EF{f1}(h:Fx f1)(x1 y0:Int32)(S):f1 (17,19,[V 0,I x1],[I y0],S)=if y0=0 then (f1 (35,0,[V 0],[],S)).bind fun q=>f1 (17,26,[V 0,I x1],q.1.toList++[],q.2) else (f1 (36,0,[V 0],[],S)).bind fun q=>f1 (17,32,[V 0,I x1],q.1.toList++[],q.2):=Js h rfl (Jd h rfl rfl<|Jf h rfl rfl) (Jd h rfl rfl<|Jf h rfl rfl)
theorem EeD{f1}(h:Fx f1)(x1:Int32)(S):f1 (17,26,[V 0,I x1],[],S)=some (some (I 3),S):=Jc h rfl k_3<|Ji h rfl
theorem EcZ{f1}(h:Fx f1)(x1:Int32)(S):f1 (17,32,[V 0,I x1],[],S)=(f1 (67,0,[V 0],[],S)).bind fun q=>f1 (17,36,[V 0,I x1],q.1.toList++[],q.2):=Jd h rfl rfl<|Jf h rfl rfl
theorem EeR{f1}(h:Fx f1)(x1 y0:Int32)(S):f1 (17,36,[V 0,I x1],[I y0],S)=if y0=(S 0 11) then (f1 (35,0,[V 0],[],S)).bind fun q=>f1 (17,49,[V 0,I x1,I y0],q.1.toList++[],q.2) else some (some (I 1),S):=Ja h 4 rfl<|Jp h rfl (Jd h rfl rfl<|Jf h rfl rfl) (Jc h rfl k_1<|Ji h rfl)
theorem EcR{f1}(h:Fx f1)(x1 x2:Int32)(S):f1 (17,49,[V 0,I x1,I x2],[],S)=some (some (I 2),S):=Jc h rfl k_2<|Ji h rfl
theorem Ecp{f1}(h:Fx f1)(x1:Int32)(S):f1 (20,0,[V 0,I x1],[],S)=f1 (20,4,[V 0,I x1,I 0,I 0],[],S):=Ja h 4 rfl rfl
theorem EaI{f1}(h:Fx f1)(x1 x2 x3:Int32)(S):f1 (20,4,[V 0,I x1,I x2,I x3],[],S)=if x3<8 then if ((x1>>>(x3&&&31))&&&1)=1 then f1 (20,4,[V 0,I x1,I (x2+1),I (x3+1)],[],S) else f1 (20,4,[V 0,I x1,I x2,I (x3+1)],[],S) else if 1<x2 then (f1 (18,0,[V 0],[],S)).bind fun q=>f1 (20,39,[V 0,I x1,I x2,I x3],q.1.toList++[],q.2) else some (some (I 1),S):=Ja h 2 rfl<|Jm h rfl (Ja h 6 rfl<|Jp h rfl (Ja h 3 rfl rfl) (Ja h 2 rfl rfl)) (Ja h 2 rfl<|JT h rfl (Jd h rfl rfl<|Jf h rfl rfl) (Jc h rfl k_1<|JC h rfl))
theorem Eec{f1}(h:Fx f1)(x1 x2 x3 y0:Int32)(S):f1 (20,39,[V 0,I x1,I x2,I x3],[I y0],S)=if x1=y0 then some (some (I 1),S) else some (some (I 0),S):=Ja h 3 rfl<|Jp h rfl (Ja h 2 rfl<|JC h rfl) (Jc h rfl k_0<|Jl h rfl)
theorem EdI{f1}(h:Fx f1)(S):f1 (34,0,[V 0],[],S)=f1 (34,10,[V 0,I 0],[],(upd S 0 5 (S 0 4))):=Ja h 6 rfl rfl
theorem Eaw{f1}(h:Fx f1)(x1:Int32)(S):f1 (34,10,[V 0,I x1],[],S)=if x1<64 then if inb x1 64=true then f1 (34,10,[V 0,I (x1+1)],[],(upd (upd (upd (upd S 6 (x1).toNatClampNeg (S 1 (x1).toNatClampNeg)) 7 (x1).toNatClampNeg (S 2 (x1).toNatClampNeg)) 8 (x1).toNatClampNeg (S 3 (x1).toNatClampNeg)) 10 (x1).toNatClampNeg ((S 5 (x1).toNatClampNeg)&&&1))) else none else f1 (34,72,[V 0,I 0],[],S):=Ja h 2 rfl<|Jm h rfl (Ja h 6 rfl<|Jo h rfl rfl fun i0=>Jx h rfl rfl i0<|Ja h 6 rfl<|JF h rfl rfl i0<|Jx h rfl rfl i0<|Ja h 6 rfl<|JF h rfl rfl i0<|Jx h rfl rfl i0<|Ja h 6 rfl<|Jaz h rfl rfl i0<|J3 h rfl rfl i0<|Ja h 2 rfl rfl) (Ja h 2 rfl rfl)
theorem EZ{f1}(h:Fx f1)(x1:Int32)(S):f1 (34,72,[V 0,I x1],[],S)=if x1<512 then if inb x1 512=true then f1 (34,72,[V 0,I (x1+1)],[],(upd S 9 (x1).toNatClampNeg (S 4 (x1).toNatClampNeg))) else none else some (none,S):=Ja h 2 rfl<|Jm h rfl (Ja h 6 rfl<|Jo h rfl rfl fun i0=>Jx h rfl rfl i0<|Ja h 2 rfl rfl) (Jk h rfl)
theorem Ecr{f1}(h:Fx f1)(x1:Int32)(S):f1 (42,0,[V 0,I x1],[],S)=(f1 (36,0,[V 0],[],S)).bind fun q=>f1 (42,4,[V 0,I x1],q.1.toList++[],q.2):=Jd h rfl rfl<|Jf h rfl rfl
theorem Efr{f1}(h:Fx f1)(x1:Int32)(S):f1 (42,4,[V 0,I x1],[],S)=(f1 (37,0,[V 0],[],S)).bind fun q=>f1 (42,8,[V 0,I x1],q.1.toList++[],q.2):=Jd h rfl rfl<|Jf h rfl rfl
theorem EbX{f1}(h:Fx f1)(x1:Int32)(S):f1 (42,8,[V 0,I x1],[],S)=(f1 (43,0,[V 0,I x1],[],S)).bind fun q=>f1 (42,13,[V 0,I x1],q.1.toList++[],q.2):=Ja h 2 rfl<|Jf h rfl rfl
theorem Ebq{f1}(h:Fx f1)(x1:Int32)(S):f1 (42,13,[V 0,I x1],[],S)=(f1 (44,0,[V 0,I x1],[],S)).bind fun q=>f1 (42,18,[V 0,I x1],q.1.toList++[],q.2):=Ja h 2 rfl<|Jf h rfl rfl
theorem EcK{f1}(h:Fx f1)(x1 y0:Int32)(S):f1 (42,18,[V 0,I x1],[I y0],S)=if y0<0 then some (some (I 0),S) else f1 (42,27,[V 0,I x1,I y0,I 0],[],S):=Ja h 2 rfl<|JP h rfl (Jc h rfl k_0<|Jl h rfl) (Ja h 2 rfl rfl)
theorem Eah{f1}(h:Fx f1)(x1 x2 x3:Int32)(S):f1 (42,27,[V 0,I x1,I x2,I x3],[],S)=if x3<x2 then if x3<64 then if inb x3 64=true then (f1 (22,0,[V 0,I (S 13 (x3).toNatClampNeg)],[],S)).bind fun q=>f1 (42,52,[V 0,I x1,I x2,I x3,I (S 13 (x3).toNatClampNeg)],q.1.toList++[],q.2) else none else if inb x2 64=true then (f1 (46,0,[V 0,I (S 13 (x2).toNatClampNeg)],[],S)).bind fun q=>f1 (42,96,[V 0,I x1,I x2,I (S 13 (x2).toNatClampNeg)],q.1.toList++[],q.2) else none else if inb x2 64=true then (f1 (46,0,[V 0,I (S 13 (x2).toNatClampNeg)],[],S)).bind fun q=>f1 (42,96,[V 0,I x1,I x2,I (S 13 (x2).toNatClampNeg)],q.1.toList++[],q.2) else none:=Ja h 2 rfl<|Jm h rfl (Ja h 2 rfl<|Jm h rfl (Ja h 3 rfl<|Jo h rfl rfl fun i0=>Ja h 3 rfl<|Jf h rfl rfl) (Ja h 3 rfl<|Jo h rfl rfl fun i0=>Ja h 3 rfl<|Jf h rfl rfl)) (Ja h 3 rfl<|Jo h rfl rfl fun i0=>Ja h 3 rfl<|Jf h rfl rfl)
theorem Ec{f1}(h:Fx f1)(x1 x2 x3 x4 y0:Int32)(S):f1 (42,52,[V 0,I x1,I x2,I x3,I x4],[I y0],S)=if y0=0 then f1 (42,27,[V 0,I x1,I x2,I (x3+1)],[],S) else if inb x4 64=true then if ((S 12 (x4).toNatClampNeg)&&&x1)=0 then f1 (42,27,[V 0,I x1,I x2,I (x3+1)],[],S) else (f1 (45,0,[V 0,I x4],[],S)).bind fun q=>f1 (42,73,[V 0,I x1,I x2,I x3,I x4],q.1.toList++[],q.2) else none:=Jy h rfl (Ja h 2 rfl<|Jr h rfl rfl) (Ja h 3 rfl<|Jo h rfl rfl fun i0=>Ja h 2 rfl<|Jy h rfl (Ja h 2 rfl<|Jr h rfl rfl) (Ja h 2 rfl<|Jf h rfl rfl))
theorem Ecv{f1}(h:Fx f1)(x1 x2 x3 x4 y0:Int32)(S):f1 (42,73,[V 0,I x1,I x2,I x3,I x4],[I y0],S)=if y0=0 then some (some (I 0),S) else f1 (42,27,[V 0,I x1,I x2,I (x3+1)],[],S):=Js h rfl (Jc h rfl k_0<|Jl h rfl) (Ja h 2 rfl<|Jr h rfl rfl)
theorem E8{f1}(h:Fx f1)(x1 x2 x3 y0:Int32)(S):f1 (42,96,[V 0,I x1,I x2,I x3],[I y0],S)=if y0=0 then some (some (I 0),S) else (f1 (39,0,[V 0],[],S)).bind fun q=>f1 (42,105,[V 0,I x1,I x2,I x3],q.1.toList++[],q.2):=Js h rfl (Jc h rfl k_0<|Jl h rfl) (Jd h rfl rfl<|Jf h rfl rfl)
theorem Edv{f1}(h:Fx f1)(x1 x2 x3:Int32)(S):f1 (42,105,[V 0,I x1,I x2,I x3],[],S)=(f1 (38,0,[V 0],[],S)).bind fun q=>f1 (42,109,[V 0,I x1,I x2,I x3],q.1.toList++[],q.2):=Jd h rfl rfl<|Jf h rfl rfl
theorem Ebn{f1}(h:Fx f1)(x1 x2 x3:Int32)(S):f1 (42,109,[V 0,I x1,I x2,I x3],[],S)=some (some (I 1),S):=Jc h rfl k_1<|JC h rfl
theorem Ed5{f1}(h:Fx f1)(S):f1 (37,0,[V 0],[],S)=f1 (37,2,[V 0,I 0],[],S):=Ja h 2 rfl rfl
theorem Ead{f1}(h:Fx f1)(x1:Int32)(S):f1 (37,2,[V 0,I x1],[],S)=if x1<(S 0 6) then if x1<64 then if inb x1 64=true then (f1 (21,0,[V 0,I (S 13 (x1).toNatClampNeg)],[],S)).bind fun q=>f1 (37,28,[V 0,I x1,I (S 13 (x1).toNatClampNeg)],q.1.toList++[],q.2) else none else some (none,S) else some (none,S):=Ja h 3 rfl<|Jm h rfl (Ja h 2 rfl<|Jm h rfl (Ja h 3 rfl<|Jo h rfl rfl fun i0=>Ja h 3 rfl<|Jf h rfl rfl) (Jk h rfl)) (Jk h rfl)
theorem EO{f1}(h:Fx f1)(x1 x2 y0:Int32)(S):f1 (37,28,[V 0,I x1,I x2],[I y0],S)=if y0=0 then f1 (37,2,[V 0,I (x1+1)],[],S) else if inb x2 64=true then if (S 1 (x2).toNatClampNeg)=0 then if x2<8 then f1 (37,2,[V 0,I (x1+1)],[],(upd S 12 (x2).toNatClampNeg (1<<<(x2&&&31)))) else f1 (37,2,[V 0,I (x1+1)],[],(upd S 12 (x2).toNatClampNeg 0)) else (f1 (23,0,[V 0,I x2],[],S)).bind fun q=>f1 (37,72,[V 0,I x1,I x2,I 0],q.1.toList++[],q.2) else none:=Js h rfl (Ja h 3 rfl<|Jr h rfl rfl) (Ja h 3 rfl<|Jo h rfl rfl fun i0=>Js h rfl (Ja h 5 rfl<|Jm h rfl (Ja h 4 rfl<|Jx h rfl rfl i0<|Ja h 3 rfl<|Jr h rfl rfl) (Jc h rfl k_0<|Jx h rfl rfl i0<|Ja h 3 rfl<|Jr h rfl rfl)) (Ja h 4 rfl<|Jf h rfl rfl))
theorem EeA{f1}(h:Fx f1)(x1 x2 x3 y0:Int32)(S):f1 (37,72,[V 0,I x1,I x2,I x3],[I y0],S)=f1 (37,77,[V 0,I x1,I x2,I x3,I y0,I 0],[],S):=Ja h 3 rfl rfl
theorem Eal{f1}(h:Fx f1)(x1 x2 x3 x4 x5:Int32)(S):f1 (37,77,[V 0,I x1,I x2,I x3,I x4,I x5],[],S)=if x5<x4 then if x5<8 then (f1 (24,0,[V 0,I x2,I x5],[],S)).bind fun q=>f1 (37,98,[V 0,I x1,I x2,I x3,I x4,I x5],q.1.toList++[],q.2) else if inb x2 64=true then f1 (37,2,[V 0,I (x1+1)],[],(upd S 12 (x2).toNatClampNeg x3)) else none else if inb x2 64=true then f1 (37,2,[V 0,I (x1+1)],[],(upd S 12 (x2).toNatClampNeg x3)) else none:=Ja h 2 rfl<|Jm h rfl (Ja h 2 rfl<|Jm h rfl (Ja h 3 rfl<|Jf h rfl rfl) (Ja h 4 rfl<|Jv h rfl rfl fun i0=>Ja h 2 rfl<|Jr h rfl rfl)) (Ja h 4 rfl<|Jv h rfl rfl fun i0=>Ja h 2 rfl<|Jr h rfl rfl)
theorem Efu{f1}(h:Fx f1)(x1 x2 x3 x4 x5 y0:Int32)(S):f1 (37,98,[V 0,I x1,I x2,I x3,I x4,I x5],[I y0],S)=(f1 (21,0,[V 0,I y0],[],S)).bind fun q=>f1 (37,106,[V 0,I x1,I x2,I x3,I x4,I x5,I y0],q.1.toList++[],q.2):=Ja h 3 rfl<|Jf h rfl rfl
theorem EcJ{f1}(h:Fx f1)(x1 x2 x3 x4 x5 x6 y0:Int32)(S):f1 (37,106,[V 0,I x1,I x2,I x3,I x4,I x5,I x6],[I y0],S)=if y0=0 then f1 (37,77,[V 0,I x1,I x2,I x3,I x4,I (x5+1)],[],S) else if inb x6 64=true then f1 (37,77,[V 0,I x1,I x2,I (x3|||(S 12 (x6).toNatClampNeg)),I x4,I (x5+1)],[],S) else none:=Jy h rfl (Ja h 2 rfl<|Jr h rfl rfl) (Ja h 4 rfl<|Jo h rfl rfl fun i0=>Ja h 4 rfl<|Jr h rfl rfl)
theorem Ecl{f1}(h:Fx f1)(x1:Int32)(S):f1 (43,0,[V 0,I x1],[],S)=f1 (43,2,[V 0,I x1,I 0],[],S):=Ja h 2 rfl rfl
theorem Eaq{f1}(h:Fx f1)(x1 x2:Int32)(S):f1 (43,2,[V 0,I x1,I x2],[],S)=if x2<64 then if inb x2 64=true then f1 (43,2,[V 0,I x1,I (x2+1)],[],(upd S 11 (x2).toNatClampNeg 0)) else none else f1 (43,23,[V 0,I x1,I 0],[],S):=Ja h 2 rfl<|Jm h rfl (Ja h 4 rfl<|Jv h rfl rfl fun i0=>Ja h 2 rfl rfl) (Ja h 2 rfl rfl)
theorem Eaz{f1}(h:Fx f1)(x1 x2:Int32)(S):f1 (43,23,[V 0,I x1,I x2],[],S)=if x2<(S 0 0) then if x2<8 then if ((x1>>>(x2&&&31))&&&1)=1 then if inb x2 64=true then f1 (43,23,[V 0,I x1,I (x2+1)],[],(upd S 11 (x2).toNatClampNeg 1)) else none else f1 (43,23,[V 0,I x1,I (x2+1)],[],S) else some (none,S) else some (none,S):=Ja h 3 rfl<|Jm h rfl (Ja h 2 rfl<|Jm h rfl (Ja h 6 rfl<|Jp h rfl (Ja h 4 rfl<|Jv h rfl rfl fun i0=>Ja h 2 rfl rfl) (Ja h 2 rfl rfl)) (Jk h rfl)) (Jk h rfl)
theorem Ed9{f1}(h:Fx f1)(x1:Int32)(S):f1 (44,0,[V 0,I x1],[],S)=f1 (44,2,[V 0,I x1,I 0],[],S):=Ja h 2 rfl rfl
theorem Ecj{f1}(h:Fx f1)(x1 x2:Int32)(S):f1 (44,2,[V 0,I x1,I x2],[],S)=if x2<(S 0 6) then if x2<64 then if inb x2 64=true then (f1 (21,0,[V 0,I (S 13 (x2).toNatClampNeg)],[],S)).bind fun q=>f1 (44,28,[V 0,I x1,I x2,I (S 13 (x2).toNatClampNeg)],q.1.toList++[],q.2) else none else some (some (I (-1)),S) else some (some (I (-1)),S):=Ja h 3 rfl<|Jm h rfl (Ja h 2 rfl<|Jm h rfl (Ja h 3 rfl<|Jo h rfl rfl fun i0=>Ja h 3 rfl<|Jf h rfl rfl) (Jc h rfl k_m1<|Ji h rfl)) (Jc h rfl k_m1<|Ji h rfl)
theorem EeG{f1}(h:Fx f1)(x1 x2 x3 y0:Int32)(S):f1 (44,28,[V 0,I x1,I x2,I x3],[I y0],S)=if y0=0 then f1 (44,2,[V 0,I x1,I (x2+1)],[],S) else if inb x3 64=true then if ((S 12 (x3).toNatClampNeg)&&&x1)=x1 then some (some (I x2),S) else f1 (44,2,[V 0,I x1,I (x2+1)],[],S) else none:=Jy h rfl (Ja h 2 rfl<|Jr h rfl rfl) (Ja h 3 rfl<|Jo h rfl rfl fun i0=>Ja h 3 rfl<|Jp h rfl (Jb h rfl rfl<|Ji h rfl) (Ja h 2 rfl<|Jr h rfl rfl))
theorem EP{f1}(h:Fx f1)(x1:Int32)(S):f1 (46,0,[V 0,I x1],[],S)=(f1 (22,0,[V 0,I x1],[],S)).bind fun q=>f1 (46,5,[V 0,I x1],q.1.toList++[],q.2):=Ja h 2 rfl<|Jf h rfl rfl
theorem EY{f1}(h:Fx f1)(x1 y0:Int32)(S):f1 (46,5,[V 0,I x1],[I y0],S)=if y0=0 then some (some (I 1),S) else if inb x1 64=true then if (S 1 (x1).toNatClampNeg)=1 then (f1 (59,0,[V 0,I x1],[],S)).bind fun q=>f1 (46,25,[V 0,I x1],q.1.toList++[],q.2) else (f1 (65,0,[V 0,I x1],[],S)).bind fun q=>f1 (46,31,[V 0,I x1],q.1.toList++[],q.2) else none:=Js h rfl (Jc h rfl k_1<|JC h rfl) (Ja h 3 rfl<|Jo h rfl rfl fun i0=>Jc h rfl k_1<|Jp h rfl (Ja h 2 rfl<|Jf h rfl rfl) (Ja h 2 rfl<|Jf h rfl rfl))
theorem Edf{f1}(h:Fx f1)(x1 y0:Int32)(S):f1 (46,25,[V 0,I x1],[I y0],S)=some (some (I (y0&&&1)),S):=J5 h rfl
theorem EdO{f1}(h:Fx f1)(x1 y0:Int32)(S):f1 (46,31,[V 0,I x1],[I y0],S)=some (some (I (y0&&&1)),S):=J5 h rfl
theorem Eco{f1}(h:Fx f1)(x1:Int32)(S):f1 (59,0,[V 0,I x1],[],S)=(f1 (47,0,[V 0,I x1],[],S)).bind fun q=>f1 (59,5,[V 0,I x1],q.1.toList++[],q.2):=Ja h 2 rfl<|Jf h rfl rfl
theorem Ec2{f1}(h:Fx f1)(x1:Int32)(S):f1 (59,5,[V 0,I x1],[],S)=if (S 0 10)<3 then if (S 0 10)=0 then (f1 (60,0,[V 0,I x1],[],S)).bind fun q=>f1 (59,27,[V 0,I x1],q.1.toList++[],q.2) else if (S 0 10)=1 then (f1 (61,0,[V 0,I x1],[],S)).bind fun q=>f1 (59,41,[V 0,I x1],q.1.toList++[],q.2) else (f1 (62,0,[V 0,I x1],[],S)).bind fun q=>f1 (59,47,[V 0,I x1],q.1.toList++[],q.2) else some (some (I 0),S):=Ja h 3 rfl<|JJ h rfl (Ja h 2 rfl<|Js h rfl (Ja h 2 rfl<|Jf h rfl rfl) (Ja h 3 rfl<|Jp h rfl (Ja h 2 rfl<|Jf h rfl rfl) (Ja h 2 rfl<|Jf h rfl rfl))) (Jc h rfl k_0<|Jl h rfl)
theorem EeW{f1}(h:Fx f1)(x1 y0:Int32)(S):f1 (59,27,[V 0,I x1],[I y0],S)=some (some (I (y0&&&1)),S):=J5 h rfl
theorem Ec8{f1}(h:Fx f1)(x1 y0:Int32)(S):f1 (59,41,[V 0,I x1],[I y0],S)=some (some (I (y0&&&1)),S):=J5 h rfl
theorem EdR{f1}(h:Fx f1)(x1 y0:Int32)(S):f1 (59,47,[V 0,I x1],[I y0],S)=some (some (I (y0&&&1)),S):=J5 h rfl
theorem Ebc{f1}(h:Fx f1)(x1:Int32)(S):f1 (47,0,[V 0,I x1],[],S)=(f1 (23,0,[V 0,I x1],[],(upd (upd (upd S 0 8 0) 0 9 0) 0 10 0))).bind fun q=>f1 (47,20,[V 0,I x1],q.1.toList++[],q.2):=Ja h 11 rfl<|Jf h rfl rfl
theorem EeU{f1}(h:Fx f1)(x1 y0:Int32)(S):f1 (47,20,[V 0,I x1],[I y0],S)=f1 (47,23,[V 0,I x1,I y0,I 0],[],S):=Ja h 3 rfl rfl
theorem Ey{f1}(h:Fx f1)(x1 x2 x3:Int32)(S):f1 (47,23,[V 0,I x1,I x2,I x3],[],S)=if x3<x2 then if x3<8 then (f1 (24,0,[V 0,I x1,I x3],[],S)).bind fun q=>f1 (47,40,[V 0,I x1,I x2,I x3],q.1.toList++[],q.2) else some (none,S) else some (none,S):=Ja h 2 rfl<|Jm h rfl (Ja h 2 rfl<|Jm h rfl (Ja h 3 rfl<|Jf h rfl rfl) (Jk h rfl)) (Jk h rfl)
theorem Ebv{f1}(h:Fx f1)(x1 x2 x3 y0:Int32)(S):f1 (47,40,[V 0,I x1,I x2,I x3],[I y0],S)=(f1 (26,0,[V 0,I y0],[],S)).bind fun q=>f1 (47,48,[V 0,I x1,I x2,I x3,I y0],q.1.toList++[],q.2):=Ja h 3 rfl<|Jf h rfl rfl
theorem EcB{f1}(h:Fx f1)(x1 x2 x3 x4 y0:Int32)(S):f1 (47,48,[V 0,I x1,I x2,I x3,I x4],[I y0],S)=if y0=1 then if (S 0 9)<8 then if inb (S 0 9) 8=true then f1 (47,23,[V 0,I x1,I x2,I (x3+1)],[],(upd (upd S 18 ((S 0 9)).toNatClampNeg x4) 0 9 ((S 0 9)+1))) else none else f1 (47,89,[V 0,I x1,I x2,I x3,I x4,I y0],[],S) else f1 (47,89,[V 0,I x1,I x2,I x3,I x4,I y0],[],S):=Ja h 3 rfl<|Jp h rfl (Ja h 3 rfl<|Jm h rfl (Ja h 5 rfl<|Jv h rfl rfl fun i0=>Ja h 9 rfl<|Jr h rfl rfl) rfl) rfl
theorem Eak{f1}(h:Fx f1)(x1 x2 x3 x4 x5:Int32)(S):f1 (47,89,[V 0,I x1,I x2,I x3,I x4,I x5],[],S)=if x5=2 then if (S 0 10)<8 then if inb (S 0 10) 8=true then f1 (47,23,[V 0,I x1,I x2,I (x3+1)],[],(upd (upd S 19 ((S 0 10)).toNatClampNeg x4) 0 10 ((S 0 10)+1))) else none else f1 (47,128,[V 0,I x1,I x2,I x3,I x4,I x5],[],S) else f1 (47,128,[V 0,I x1,I x2,I x3,I x4,I x5],[],S):=Ja h 2 rfl<|Jp h rfl (Ja h 3 rfl<|Jm h rfl (Ja h 5 rfl<|Jv h rfl rfl fun i0=>Ja h 9 rfl<|Jr h rfl rfl) rfl) rfl
theorem EbE{f1}(h:Fx f1)(x1 x2 x3 x4 x5:Int32)(S):f1 (47,128,[V 0,I x1,I x2,I x3,I x4,I x5],[],S)=if (S 0 8)<8 then if inb (S 0 8) 8=true then f1 (47,23,[V 0,I x1,I x2,I (x3+1)],[],(upd (upd S 17 ((S 0 8)).toNatClampNeg x4) 0 8 ((S 0 8)+1))) else none else f1 (47,23,[V 0,I x1,I x2,I (x3+1)],[],S):=Ja h 3 rfl<|Jm h rfl (Ja h 5 rfl<|Jv h rfl rfl fun i0=>Ja h 8 rfl<|Jr h rfl rfl) (Ja h 2 rfl<|Jr h rfl rfl)
theorem EaZ{f1}(h:Fx f1)(x1:Int32)(S):f1 (26,0,[V 0,I x1],[],S)=(f1 (21,0,[V 0,I x1],[],S)).bind fun q=>f1 (26,5,[V 0,I x1],q.1.toList++[],q.2):=Ja h 2 rfl<|Jf h rfl rfl
theorem Efb{f1}(h:Fx f1)(x1 y0:Int32)(S):f1 (26,5,[V 0,I x1],[I y0],S)=if y0=0 then some (some (I 0),S) else if inb x1 64=true then some (some (I (S 11 (x1).toNatClampNeg)),S) else none:=Js h rfl (Jc h rfl k_0<|Ji h rfl) (Ja h 3 rfl<|Jo h rfl rfl fun i0=>Ji h rfl)
theorem Ecb{f1}(h:Fx f1)(x1:Int32)(S):f1 (60,0,[V 0,I x1],[],S)=if (S 0 8)=0 then some (some (I 1),S) else if (S 0 9)<2 then some (some (I 1),S) else (f1 (48,0,[V 0,I 1],[],S)).bind fun q=>f1 (60,22,[V 0,I x1],q.1.toList++[],q.2):=Ja h 2 rfl<|Jy h rfl (Jc h rfl k_1<|JC h rfl) (Ja h 3 rfl<|Jm h rfl (Jc h rfl k_1<|JC h rfl) (Ja h 2 rfl<|Jf h rfl rfl))
theorem Ed2{f1}(h:Fx f1)(x1 y0:Int32)(S):f1 (60,22,[V 0,I x1],[I y0],S)=if y0<0 then some (some (I 0),S) else (f1 (49,0,[V 0],[],S)).bind fun q=>f1 (60,33,[V 0,I x1,I y0],q.1.toList++[],q.2):=Ja h 2 rfl<|JP h rfl (Jc h rfl k_0<|Jl h rfl) (Jd h rfl rfl<|Jf h rfl rfl)
theorem EbW{f1}(h:Fx f1)(x1 x2:Int32)(S):f1 (60,33,[V 0,I x1,I x2],[],S)=(f1 (51,0,[V 0],[],S)).bind fun q=>f1 (60,37,[V 0,I x1,I x2],q.1.toList++[],q.2):=Jd h rfl rfl<|Jf h rfl rfl
theorem Ee1{f1}(h:Fx f1)(x1 x2:Int32)(S):f1 (60,37,[V 0,I x1,I x2],[],S)=(f1 (50,0,[V 0,I x2],[],S)).bind fun q=>f1 (60,42,[V 0,I x1,I x2],q.1.toList++[],q.2):=Ja h 2 rfl<|Jf h rfl rfl
theorem Ee4{f1}(h:Fx f1)(x1 x2:Int32)(S):f1 (60,42,[V 0,I x1,I x2],[],S)=(f1 (53,0,[V 0,I x1],[],S)).bind fun q=>f1 (60,47,[V 0,I x1,I x2],q.1.toList++[],q.2):=Ja h 2 rfl<|Jf h rfl rfl
theorem Eda{f1}(h:Fx f1)(x1 x2 y0:Int32)(S):f1 (60,47,[V 0,I x1,I x2],[I y0],S)=some (some (I (y0&&&1)),S):=J5 h rfl
theorem Ej{f1}(h:Fx f1)(x1:Int32)(S):f1 (48,0,[V 0,I x1],[],S)=if x1=0 then f1 (48,15,[V 0,I x1],[I (S 0 8)],S) else f1 (48,15,[V 0,I x1],[I (S 0 9)],S):=Jb h rfl rfl<|Jy h rfl (Ja h 2 rfl rfl) (Ja h 3 rfl rfl)
theorem Eb{f1}(h:Fx f1)(x1 y0:Int32)(S):f1 (48,15,[V 0,I x1],[I y0],S)=if 0<y0 then if y0=1 then if x1=0 then some (some (I (S 17 0)),S) else some (some (I (S 18 0)),S) else if x1=0 then (f1 (32,0,[V 0,I 1,I 0],[],S)).bind fun q=>f1 (48,63,[V 0,I x1,I y0,I 0],q.1.toList++[],q.2) else (f1 (32,0,[V 0,I 1,I 1],[],S)).bind fun q=>f1 (48,63,[V 0,I x1,I y0,I 1],q.1.toList++[],q.2) else some (some (I (-1)),S):=Ja h 2 rfl<|Jas h rfl (Ja h 2 rfl<|Jp h rfl (Jb h rfl rfl<|Jy h rfl (Ja h 3 rfl<|Jay h rfl rfl 0<|Ji h rfl) (Ja h 3 rfl<|Jay h rfl rfl 0<|Jh h rfl<|Ji h rfl)) (Jb h rfl rfl<|Jy h rfl (Ja h 5 rfl<|Jf h rfl rfl) (Ja h 6 rfl<|Jf h rfl rfl))) (Jc h rfl k_m1<|Ji h rfl)
theorem E9{f1}(h:Fx f1)(x1 x2 x3 y0:Int32)(S):f1 (48,63,[V 0,I x1,I x2,I x3],[I y0],S)=if y0<0 then some (some (I (-2)),S) else f1 (48,76,[V 0,I x1,I x2,I x3,I y0,I 0],[],S):=Ja h 2 rfl<|JP h rfl (Jc h rfl k_m2<|Ji h rfl) (Ja h 2 rfl rfl)
theorem EaR{f1}(h:Fx f1)(x1 x2 x3 x4 x5:Int32)(S):f1 (48,76,[V 0,I x1,I x2,I x3,I x4,I x5],[],S)=if x5<x2 then if x5<8 then if x1=0 then if inb x5 8=true then (f1 (29,0,[V 0,I x4,I (S 17 (x5).toNatClampNeg)],[],S)).bind fun q=>f1 (48,120,[V 0,I x1,I x2,I x3,I x4,I x5,I (S 17 (x5).toNatClampNeg)],q.1.toList++[],q.2) else none else if inb x5 8=true then (f1 (29,0,[V 0,I x4,I (S 18 (x5).toNatClampNeg)],[],S)).bind fun q=>f1 (48,120,[V 0,I x1,I x2,I x3,I x4,I x5,I (S 18 (x5).toNatClampNeg)],q.1.toList++[],q.2) else none else some (some (I x4),S) else some (some (I x4),S):=Ja h 2 rfl<|Jm h rfl (Ja h 2 rfl<|Jm h rfl (Jb h rfl rfl<|Jy h rfl (Ja h 3 rfl<|Jo h rfl rfl fun i0=>Ja h 4 rfl<|Jf h rfl rfl) (Ja h 3 rfl<|Jo h rfl rfl fun i0=>Ja h 5 rfl<|Jf h rfl rfl)) (Jb h rfl rfl<|Ji h rfl)) (Jb h rfl rfl<|Ji h rfl)
theorem EcL{f1}(h:Fx f1)(x1 x2 x3 x4 x5 x6 y0:Int32)(S):f1 (48,120,[V 0,I x1,I x2,I x3,I x4,I x5,I x6],[I y0],S)=f1 (48,76,[V 0,I x1,I x2,I x3,I x4,I (x5+1)],[],S):=Ja h 3 rfl<|Jr h rfl rfl
theorem EbR{f1}(h:Fx f1)(x1 x2:Int32)(S):f1 (32,0,[V 0,I x1,I x2],[],S)=f1 (32,3,[V 0,I x1,I x2,I 8],[],S):=Ja h 2 rfl rfl
theorem EdD{f1}(h:Fx f1)(x1 x2 x3:Int32)(S):f1 (32,3,[V 0,I x1,I x2,I x3],[],S)=if x3<64 then if inb x3 64=true then if (S 5 (x3).toNatClampNeg)=0 then (f1 (30,0,[V 0,I x3],[],(upd (upd S 5 (x3).toNatClampNeg 1) 1 (x3).toNatClampNeg x1))).bind fun q=>f1 (32,37,[V 0,I x1,I x2,I x3],q.1.toList++[],q.2) else f1 (32,3,[V 0,I x1,I x2,I (x3+1)],[],S) else none else some (some (I (-1)),S):=Ja h 2 rfl<|Jm h rfl (Ja h 3 rfl<|J0 h rfl rfl fun i0=>Js h rfl (Ja h 4 rfl<|J3 h rfl rfl i0<|Ja h 4 rfl<|Jx h rfl rfl i0<|Ja h 2 rfl<|Jf h rfl rfl) (Ja h 2 rfl rfl)) (Jc h rfl k_m1<|Ji h rfl)
theorem EdV{f1}(h:Fx f1)(x1 x2 x3:Int32)(S):f1 (32,37,[V 0,I x1,I x2,I x3],[],S)=if inb x3 64=true then some (some (I x3),(upd (upd S 2 (x3).toNatClampNeg (-1)) 11 (x3).toNatClampNeg x2)) else none:=Ja h 4 rfl<|Jv h rfl rfl fun i0=>Ja h 4 rfl<|Jx h rfl rfl i0<|Jb h rfl rfl<|Ji h rfl
theorem Eee{f1}(h:Fx f1)(x1:Int32)(S):f1 (30,0,[V 0,I x1],[],S)=(f1 (21,0,[V 0,I x1],[],S)).bind fun q=>f1 (30,5,[V 0,I x1],q.1.toList++[],q.2):=Ja h 2 rfl<|Jf h rfl rfl
theorem Edg{f1}(h:Fx f1)(x1 y0:Int32)(S):f1 (30,5,[V 0,I x1],[I y0],S)=if y0=0 then some (none,S) else f1 (30,16,[V 0,I x1,I (x1*8),I 0],[],S):=Js h rfl (Jk h rfl) (Ja h 6 rfl rfl)
theorem EaP{f1}(h:Fx f1)(x1 x2 x3:Int32)(S):f1 (30,16,[V 0,I x1,I x2,I x3],[],S)=if x3<8 then if inb (x2+x3) 512=true then f1 (30,16,[V 0,I x1,I x2,I (x3+1)],[],(upd S 4 ((x2+x3)).toNatClampNeg (-1))) else none else if inb x1 64=true then some (none,(upd S 3 (x1).toNatClampNeg 0)) else none:=Ja h 2 rfl<|Jm h rfl (Ja h 6 rfl<|Jv h rfl rfl fun i0=>Ja h 2 rfl rfl) (Ja h 4 rfl<|Jv h rfl rfl fun i0=>Jk h rfl)
theorem Ea{f1}(h:Fx f1)(S):f1 (49,0,[V 0],[],S)=some (none,(upd S 0 7 0)):=Ja h 3 rfl<|Jk h rfl
theorem Ec3{f1}(h:Fx f1)(S):f1 (51,0,[V 0],[],S)=f1 (51,2,[V 0,I 0],[],S):=Ja h 2 rfl rfl
theorem EaM{f1}(h:Fx f1)(x1:Int32)(S):f1 (51,2,[V 0,I x1],[],S)=if x1<(S 0 8) then if x1<8 then if inb x1 8=true then (f1 (50,0,[V 0,I (S 17 (x1).toNatClampNeg)],[],S)).bind fun q=>f1 (51,26,[V 0,I x1],q.1.toList++[],q.2) else none else some (none,S) else some (none,S):=Ja h 3 rfl<|Jm h rfl (Ja h 2 rfl<|Jm h rfl (Ja h 4 rfl<|Jo h rfl rfl fun i0=>Jf h rfl rfl) (Jk h rfl)) (Jk h rfl)
theorem Ech{f1}(h:Fx f1)(x1:Int32)(S):f1 (51,26,[V 0,I x1],[],S)=f1 (51,2,[V 0,I (x1+1)],[],S):=Ja h 2 rfl rfl
theorem Eai{f1}(h:Fx f1)(x1:Int32)(S):f1 (50,0,[V 0,I x1],[],S)=if x1<0 then some (none,S) else if (S 0 7)<16 then if inb (S 0 7) 16=true then some (none,(upd (upd S 16 ((S 0 7)).toNatClampNeg x1) 0 7 ((S 0 7)+1))) else none else some (none,S):=Jb h rfl rfl<|JP h rfl (Jk h rfl) (Ja h 3 rfl<|Jm h rfl (Ja h 5 rfl<|Jv h rfl rfl fun i0=>Ja h 6 rfl<|Jk h rfl) (Jk h rfl))
theorem Efy{f1}(h:Fx f1)(x1:Int32)(S):f1 (53,0,[V 0,I x1],[],S)=(f1 (21,0,[V 0,I x1],[],S)).bind fun q=>f1 (53,5,[V 0,I x1],q.1.toList++[],q.2):=Ja h 2 rfl<|Jf h rfl rfl
theorem Ebl{f1}(h:Fx f1)(x1 y0:Int32)(S):f1 (53,5,[V 0,I x1],[I y0],S)=if y0=0 then some (some (I 0),S) else if 8<(S 0 7) then some (some (I 0),S) else (f1 (30,0,[V 0,I x1],[],S)).bind fun q=>f1 (53,24,[V 0,I x1],q.1.toList++[],q.2):=Jy h rfl (Jc h rfl k_0<|Jl h rfl) (Ja h 3 rfl<|JO h rfl (Jc h rfl k_0<|Jl h rfl) (Ja h 2 rfl<|Jf h rfl rfl))
theorem Eef{f1}(h:Fx f1)(x1:Int32)(S):f1 (53,24,[V 0,I x1],[],S)=f1 (53,26,[V 0,I x1,I 0],[],S):=Ja h 2 rfl rfl
theorem E5{f1}(h:Fx f1)(x1 x2:Int32)(S):f1 (53,26,[V 0,I x1,I x2],[],S)=if x2<(S 0 7) then if x2<16 then if inb x2 16=true then (f1 (29,0,[V 0,I x1,I (S 16 (x2).toNatClampNeg)],[],S)).bind fun q=>f1 (53,51,[V 0,I x1,I x2],q.1.toList++[],q.2) else none else some (some (I 1),S) else some (some (I 1),S):=Ja h 3 rfl<|Jm h rfl (Ja h 2 rfl<|Jm h rfl (Ja h 5 rfl<|Jo h rfl rfl fun i0=>Jf h rfl rfl) (Jc h rfl k_1<|JC h rfl)) (Jc h rfl k_1<|JC h rfl)
theorem Ebi{f1}(h:Fx f1)(x1 x2 y0:Int32)(S):f1 (53,51,[V 0,I x1,I x2],[I y0],S)=if y0=0 then some (some (I 0),S) else f1 (53,26,[V 0,I x1,I (x2+1)],[],S):=Js h rfl (Jc h rfl k_0<|Jl h rfl) (Ja h 2 rfl rfl)
theorem Ebe{f1}(h:Fx f1)(S):f1 (39,0,[V 0],[],S)=if (0:Int32)<64 then (f1 (36,0,[V 0],[],S)).bind fun q=>f1 (39,12,[V 0,I 0],q.1.toList++[],q.2) else some (none,S):=Ja h 4 rfl<|Jm h rfl (Jd h rfl rfl<|Jf h rfl rfl) (Jk h rfl)
theorem EdX{f1}(h:Fx f1)(x1:Int32)(S):f1 (39,12,[V 0,I x1],[],S)=(f1 (40,0,[V 0],[],S)).bind fun q=>f1 (39,16,[V 0,I x1],q.1.toList++[],q.2):=Jd h rfl rfl<|Jf h rfl rfl
theorem Ea0{f1}(h:Fx f1)(x1 y0:Int32)(S):f1 (39,16,[V 0,I x1],[I y0],S)=if y0<0 then some (none,S) else f1 (39,24,[V 0,I x1,I y0],[I y0,V 0],S):=Ja h 2 rfl<|JP h rfl (Jk h rfl) (Ja h 2 rfl rfl)
theorem Edh{f1}(h:Fx f1)(S):f1 (40,0,[V 0],[],S)=f1 (40,2,[V 0,I 0],[],S):=Ja h 2 rfl rfl
theorem EaG{f1}(h:Fx f1)(x1:Int32)(S):f1 (40,2,[V 0,I x1],[],S)=if x1<(S 0 6) then if x1<64 then if inb x1 64=true then (f1 (22,0,[V 0,I (S 13 (x1).toNatClampNeg)],[],S)).bind fun q=>f1 (40,28,[V 0,I x1,I (S 13 (x1).toNatClampNeg)],q.1.toList++[],q.2) else none else some (some (I (-1)),S) else some (some (I (-1)),S):=Ja h 3 rfl<|Jm h rfl (Ja h 2 rfl<|Jm h rfl (Ja h 3 rfl<|Jo h rfl rfl fun i0=>Ja h 3 rfl<|Jf h rfl rfl) (Jc h rfl k_m1<|Ji h rfl)) (Jc h rfl k_m1<|Ji h rfl)
theorem EaN{f1}(h:Fx f1)(x1 x2 y0:Int32)(S):f1 (40,28,[V 0,I x1,I x2],[I y0],S)=if y0=0 then f1 (40,2,[V 0,I (x1+1)],[],S) else (f1 (23,0,[V 0,I x2],[],S)).bind fun q=>f1 (40,39,[V 0,I x1,I x2],q.1.toList++[],q.2):=Js h rfl (Ja h 3 rfl<|Jr h rfl rfl) (Ja h 2 rfl<|Jf h rfl rfl)
theorem Ecu{f1}(h:Fx f1)(x1 x2 y0:Int32)(S):f1 (40,39,[V 0,I x1,I x2],[I y0],S)=if inb x2 64=true then if (S 1 (x2).toNatClampNeg)=2 then if y0=2 then f1 (40,62,[V 0,I x1,I x2,I y0],[],(upd S 1 (x2).toNatClampNeg 1)) else f1 (40,62,[V 0,I x1,I x2,I y0],[],S) else f1 (40,62,[V 0,I x1,I x2,I y0],[],S) else none:=Ja h 4 rfl<|Jo h rfl rfl fun i0=>Jc h rfl k_2<|Jp h rfl (Ja h 2 rfl<|Jp h rfl (Ja h 4 rfl<|Jx h rfl rfl i0 rfl) rfl) rfl
theorem Ee5{f1}(h:Fx f1)(x1 x2 x3:Int32)(S):f1 (40,62,[V 0,I x1,I x2,I x3],[],S)=if x3=1 then some (some (I x2),S) else f1 (40,2,[V 0,I (x1+1)],[],S):=Ja h 2 rfl<|Jp h rfl (Jb h rfl rfl<|Ji h rfl) (Ja h 2 rfl<|Jr h rfl rfl)
theorem Eb7{f1}(h:Fx f1)(S):f1 (38,0,[V 0],[],S)=(f1 (36,0,[V 0],[],S)).bind fun q=>f1 (38,4,[V 0],q.1.toList++[],q.2):=Jd h rfl rfl<|Jf h rfl rfl
theorem Ebs{f1}(h:Fx f1)(S):f1 (38,4,[V 0],[],S)=f1 (38,7,[V 0,I 8],[],S):=Ja h 2 rfl rfl
theorem EM{f1}(h:Fx f1)(x1:Int32)(S):f1 (38,7,[V 0,I x1],[],S)=if x1<64 then if inb x1 64=true then f1 (38,7,[V 0,I (x1+1)],[],(upd S 5 (x1).toNatClampNeg 0)) else none else f1 (38,28,[V 0,I 0],[],S):=Ja h 2 rfl<|Jm h rfl (Ja h 4 rfl<|Jaa h rfl rfl fun i0=>Ja h 2 rfl rfl) (Ja h 2 rfl rfl)
theorem Eae{f1}(h:Fx f1)(x1:Int32)(S):f1 (38,28,[V 0,I x1],[],S)=if x1<(S 0 6) then if x1<64 then if inb x1 64=true then (f1 (21,0,[V 0,I (S 13 (x1).toNatClampNeg)],[],S)).bind fun q=>f1 (38,54,[V 0,I x1,I (S 13 (x1).toNatClampNeg)],q.1.toList++[],q.2) else none else f1 (38,72,[V 0,I 0],[],S) else f1 (38,72,[V 0,I 0],[],S):=Ja h 3 rfl<|Jm h rfl (Ja h 2 rfl<|Jm h rfl (Ja h 3 rfl<|Jo h rfl rfl fun i0=>Ja h 3 rfl<|Jf h rfl rfl) (Ja h 2 rfl rfl)) (Ja h 2 rfl rfl)
theorem Eej{f1}(h:Fx f1)(x1 x2 y0:Int32)(S):f1 (38,54,[V 0,I x1,I x2],[I y0],S)=if y0=0 then f1 (38,28,[V 0,I (x1+1)],[],S) else if inb x2 64=true then f1 (38,28,[V 0,I (x1+1)],[],(upd S 5 (x2).toNatClampNeg 1)) else none:=Jy h rfl (Ja h 2 rfl<|Jr h rfl rfl) (Ja h 4 rfl<|Jaa h rfl rfl fun i0=>Ja h 2 rfl<|Jr h rfl rfl)
theorem EV{f1}(h:Fx f1)(x1:Int32)(S):f1 (38,72,[V 0,I x1],[],S)=if x1<(S 0 0) then if x1<8 then if inb x1 64=true then f1 (38,72,[V 0,I (x1+1)],[],(upd S 5 (x1).toNatClampNeg 1)) else none else some (none,S) else some (none,S):=Ja h 3 rfl<|Jm h rfl (Ja h 2 rfl<|Jm h rfl (Ja h 4 rfl<|Jaa h rfl rfl fun i0=>Ja h 2 rfl rfl) (Jk h rfl)) (Jk h rfl)
theorem Edw{f1}(h:Fx f1)(S):f1 (35,0,[V 0],[],S)=f1 (35,10,[V 0,I 0],[],(upd S 0 4 (S 0 5))):=Ja h 6 rfl rfl
theorem Eav{f1}(h:Fx f1)(x1:Int32)(S):f1 (35,10,[V 0,I x1],[],S)=if x1<64 then if inb x1 64=true then f1 (35,10,[V 0,I (x1+1)],[],(upd (upd (upd (upd S 1 (x1).toNatClampNeg (S 6 (x1).toNatClampNeg)) 2 (x1).toNatClampNeg (S 7 (x1).toNatClampNeg)) 3 (x1).toNatClampNeg (S 8 (x1).toNatClampNeg)) 5 (x1).toNatClampNeg ((S 10 (x1).toNatClampNeg)&&&1))) else none else f1 (35,72,[V 0,I 0],[],S):=Ja h 2 rfl<|Jm h rfl (Ja h 6 rfl<|Jo h rfl rfl fun i0=>Jx h rfl rfl i0<|Ja h 6 rfl<|JF h rfl rfl i0<|Jx h rfl rfl i0<|Ja h 6 rfl<|JF h rfl rfl i0<|Jx h rfl rfl i0<|Ja h 6 rfl<|Jaz h rfl rfl i0<|J3 h rfl rfl i0<|Ja h 2 rfl rfl) (Ja h 2 rfl rfl)
theorem E7{f1}(h:Fx f1)(x1:Int32)(S):f1 (35,72,[V 0,I x1],[],S)=if x1<512 then if inb x1 512=true then f1 (35,72,[V 0,I (x1+1)],[],(upd S 4 (x1).toNatClampNeg (S 9 (x1).toNatClampNeg))) else none else some (none,S):=Ja h 2 rfl<|Jm h rfl (Ja h 6 rfl<|Jo h rfl rfl fun i0=>Jx h rfl rfl i0<|Ja h 2 rfl rfl) (Jk h rfl)
theorem Efm{f1}(h:Fx f1)(x1:Int32)(S):f1 (5,0,[V 0,I x1],[],S)=if x1<0 then some (some (I 0),S) else if x1<(S 0 0) then if (((S 0 1)>>>(x1&&&31))&&&1)=0 then some (some (I 0),S) else some (some (I 1),(upd S 0 1 ((S 0 1)&&&((1<<<(x1&&&31))^^^(-1))))) else some (some (I 0),S):=Jb h rfl rfl<|JB h rfl (Jc h rfl k_0<|Jl h rfl) (Ja h 3 rfl<|JJ h rfl (Ja h 6 rfl<|Js h rfl (Jc h rfl k_0<|Jl h rfl) (Ja h 11 rfl<|JC h rfl)) (Jc h rfl k_0<|Jl h rfl))
theorem Ed1{f1}(h:Fx f1)(x1:Int32)(S):f1 (4,0,[V 0,I x1],[],S)=if x1<0 then some (some (I 0),S) else if x1<(S 0 0) then if (((S 0 1)>>>(x1&&&31))&&&1)=1 then some (some (I 0),S) else some (some (I 1),(upd S 0 1 ((S 0 1)|||(1<<<(x1&&&31))))) else some (some (I 0),S):=Jb h rfl rfl<|JB h rfl (Jc h rfl k_0<|Jl h rfl) (Ja h 3 rfl<|JJ h rfl (Ja h 7 rfl<|Jp h rfl (Jc h rfl k_0<|Jl h rfl) (Ja h 9 rfl<|JC h rfl)) (Jc h rfl k_0<|Jl h rfl))
theorem Eap{f1}(h:Fx f1)(S):f1 (13,0,[V 0],[],S)=some (some (I (S 0 12)),S):=Ja h 2 rfl<|Ji h rfl
theorem Ecm{f1}(h:Fx f1)(S):f1 (6,0,[V 0],[],S)=some (some (I (S 0 1)),S):=Ja h 2 rfl<|Ji h rfl
theorem Efa{f1}(h:Fx f1)(S):f1 (7,0,[V 0],[],S)=(f1 (18,0,[V 0],[],S)).bind fun q=>f1 (7,4,[V 0],q.1.toList++[],q.2):=Jd h rfl rfl<|Jf h rfl rfl
theorem Ee9{f1}(h:Fx f1)(y0:Int32)(S):f1 (7,4,[V 0],[I y0],S)=(f1 (16,0,[V 0,I ((S 0 1)&&&y0)],[],S)).bind fun q=>f1 (7,17,[V 0,I y0,I ((S 0 1)&&&y0)],q.1.toList++[],q.2):=Ja h 8 rfl<|Jf h rfl rfl
theorem EcP{f1}(h:Fx f1)(x1 x2 y0:Int32)(S):f1 (7,17,[V 0,I x1,I x2],[I y0],S)=some (some (I y0),(upd S 0 1 0)):=Ja h 5 rfl<|Ji h rfl
theorem Ebg{f1}(h:Fx f1)(x1:Int32)(S):f1 (16,0,[V 0,I x1],[],S)=(f1 (17,0,[V 0,I x1],[],S)).bind fun q=>f1 (16,5,[V 0,I x1],q.1.toList++[],q.2):=Ja h 2 rfl<|Jf h rfl rfl
theorem EcI{f1}(h:Fx f1)(x1 y0:Int32)(S):f1 (16,5,[V 0,I x1],[I y0],S)=if y0=3 then f1 (16,34,[V 0,I x1,I y0],[],(upd S 0 3 ((S 0 3)+1))) else f1 (16,34,[V 0,I x1,I y0],[],(upd S 0 2 ((S 0 2)+1))):=Ja h 3 rfl<|Jp h rfl (Ja h 7 rfl rfl) (Ja h 6 rfl rfl)
theorem EaK{f1}(h:Fx f1)(x1 x2:Int32)(S):f1 (16,34,[V 0,I x1,I x2],[],S)=if x2=1 then (f1 (66,0,[V 0],[],S)).bind fun q=>f1 (16,43,[V 0,I x1,I x2],q.1.toList++[],q.2) else f1 (16,43,[V 0,I x1,I x2],[],S):=Ja h 2 rfl<|Jp h rfl (Jd h rfl rfl<|Jf h rfl rfl) rfl
theorem Eg{f1}(h:Fx f1)(x1 x2:Int32)(S):f1 (16,43,[V 0,I x1,I x2],[],S)=some (some (I x2),S):=Jb h rfl rfl<|Ji h rfl
theorem EaV{f1}(h:Fx f1)(x1:Int32)(S):f1 (45,0,[V 0,I x1],[],S)=if inb x1 64=true then if (S 1 (x1).toNatClampNeg)=1 then (f1 (57,0,[V 0,I x1],[],S)).bind fun q=>f1 (45,15,[V 0,I x1],q.1.toList++[],q.2) else (f1 (58,0,[V 0,I x1],[],S)).bind fun q=>f1 (45,21,[V 0,I x1],q.1.toList++[],q.2) else none:=Ja h 3 rfl<|Jo h rfl rfl fun i0=>Jc h rfl k_1<|Jp h rfl (Ja h 2 rfl<|Jf h rfl rfl) (Ja h 2 rfl<|Jf h rfl rfl)
theorem Ede{f1}(h:Fx f1)(x1 y0:Int32)(S):f1 (45,15,[V 0,I x1],[I y0],S)=some (some (I (y0&&&1)),S):=J5 h rfl
theorem Ea9{f1}(h:Fx f1)(x1 y0:Int32)(S):f1 (45,21,[V 0,I x1],[I y0],S)=some (some (I (y0&&&1)),S):=J5 h rfl
theorem Efh{f1}(h:Fx f1)(x1:Int32)(S):f1 (57,0,[V 0,I x1],[],S)=(f1 (47,0,[V 0,I x1],[],S)).bind fun q=>f1 (57,5,[V 0,I x1],q.1.toList++[],q.2):=Ja h 2 rfl<|Jf h rfl rfl
theorem EeV{f1}(h:Fx f1)(x1:Int32)(S):f1 (57,5,[V 0,I x1],[],S)=if (S 0 10)<2 then if (S 0 10)=0 then if (S 0 8)=0 then if inb x1 64=true then some (some (I 1),(upd S 11 (x1).toNatClampNeg 1)) else none else f1 (57,38,[V 0,I x1],[],S) else f1 (57,38,[V 0,I x1],[],S) else some (some (I 0),S):=Ja h 3 rfl<|JJ h rfl (Ja h 2 rfl<|Js h rfl (Ja h 2 rfl<|Js h rfl (Ja h 4 rfl<|Jv h rfl rfl fun i0=>Jc h rfl k_1<|JC h rfl) rfl) rfl) (Jc h rfl k_0<|Jl h rfl)
theorem ED{f1}(h:Fx f1)(x1:Int32)(S):f1 (57,38,[V 0,I x1],[],S)=if (S 0 10)=0 then if (S 0 9)=0 then if inb x1 64=true then some (some (I 1),(upd S 11 (x1).toNatClampNeg 0)) else none else f1 (57,61,[V 0,I x1],[],S) else f1 (57,61,[V 0,I x1],[],S):=Ja h 2 rfl<|Js h rfl (Ja h 2 rfl<|Js h rfl (Ja h 4 rfl<|Jv h rfl rfl fun i0=>Jc h rfl k_1<|JC h rfl) rfl) rfl
theorem Eem{f1}(h:Fx f1)(x1:Int32)(S):f1 (57,61,[V 0,I x1],[],S)=if (S 0 10)=1 then (f1 (48,0,[V 0,I 0],[],S)).bind fun q=>f1 (57,85,[V 0,I x1,I (S 19 0)],q.1.toList++[],q.2) else (f1 (48,0,[V 0,I 0],[],S)).bind fun q=>f1 (57,85,[V 0,I x1,I (-1)],q.1.toList++[],q.2):=Ja h 3 rfl<|Jp h rfl (Ja h 3 rfl<|Jay h rfl rfl 0<|Ja h 4 rfl<|Jf h rfl rfl) (Ja h 4 rfl<|Jf h rfl rfl)
theorem EeO{f1}(h:Fx f1)(x1 x2 y0:Int32)(S):f1 (57,85,[V 0,I x1,I x2],[I y0],S)=(f1 (48,0,[V 0,I 1],[],S)).bind fun q=>f1 (57,91,[V 0,I x1,I x2,I y0],q.1.toList++[],q.2):=Ja h 3 rfl<|Jf h rfl rfl
theorem Ea8{f1}(h:Fx f1)(x1 x2 x3 y0:Int32)(S):f1 (57,91,[V 0,I x1,I x2,I x3],[I y0],S)=if x3<(-1) then some (some (I 0),S) else if y0<(-1) then some (some (I 0),S) else (f1 (49,0,[V 0],[],S)).bind fun q=>f1 (57,110,[V 0,I x1,I x2,I x3,I y0],q.1.toList++[],q.2):=Ja h 3 rfl<|JJ h rfl (Jc h rfl k_0<|Jl h rfl) (Ja h 2 rfl<|Jm h rfl (Jc h rfl k_0<|Jl h rfl) (Jd h rfl rfl<|Jf h rfl rfl))
theorem Edd{f1}(h:Fx f1)(x1 x2 x3 x4:Int32)(S):f1 (57,110,[V 0,I x1,I x2,I x3,I x4],[],S)=(f1 (50,0,[V 0,I x3],[],S)).bind fun q=>f1 (57,115,[V 0,I x1,I x2,I x3,I x4],q.1.toList++[],q.2):=Ja h 2 rfl<|Jf h rfl rfl
theorem Eey{f1}(h:Fx f1)(x1 x2 x3 x4:Int32)(S):f1 (57,115,[V 0,I x1,I x2,I x3,I x4],[],S)=if x2<0 then f1 (57,125,[V 0,I x1,I x2,I x3,I x4],[],S) else (f1 (52,0,[V 0,I x2,I 0],[],S)).bind fun q=>f1 (57,125,[V 0,I x1,I x2,I x3,I x4],q.1.toList++[],q.2):=Jb h rfl rfl<|JB h rfl rfl (Ja h 3 rfl<|Jf h rfl rfl)
theorem EdK{f1}(h:Fx f1)(x1 x2 x3 x4:Int32)(S):f1 (57,125,[V 0,I x1,I x2,I x3,I x4],[],S)=(f1 (50,0,[V 0,I x4],[],S)).bind fun q=>f1 (57,131,[V 0,I x1,I x2,I x3,I x4],q.1.toList++[],q.2):=Ja h 2 rfl<|Jf h rfl rfl
theorem Eds{f1}(h:Fx f1)(x1 x2 x3 x4:Int32)(S):f1 (57,131,[V 0,I x1,I x2,I x3,I x4],[],S)=if inb x1 64=true then (f1 (53,0,[V 0,I x1],[],(upd (upd S 1 (x1).toNatClampNeg 2) 11 (x1).toNatClampNeg 2))).bind fun q=>f1 (57,150,[V 0,I x1,I x2,I x3,I x4],q.1.toList++[],q.2) else none:=Ja h 4 rfl<|Jv h rfl rfl fun i0=>Ja h 4 rfl<|Jx h rfl rfl i0<|Ja h 2 rfl<|Jf h rfl rfl
theorem Ecc{f1}(h:Fx f1)(x1 x2 x3 x4 y0:Int32)(S):f1 (57,150,[V 0,I x1,I x2,I x3,I x4],[I y0],S)=if y0=0 then some (some (I 0),S) else (f1 (33,0,[V 0,I x2],[],S)).bind fun q=>f1 (57,160,[V 0,I x1,I x2,I x3,I x4],q.1.toList++[],q.2):=Js h rfl (Jc h rfl k_0<|Jl h rfl) (Ja h 2 rfl<|Jf h rfl rfl)
theorem Ea4{f1}(h:Fx f1)(x1 x2 x3 x4:Int32)(S):f1 (57,160,[V 0,I x1,I x2,I x3,I x4],[],S)=some (some (I 1),S):=Jc h rfl k_1<|JC h rfl
theorem EaB{f1}(h:Fx f1)(x1:Int32)(S):f1 (33,0,[V 0,I x1],[],S)=if x1<8 then some (none,S) else if x1<64 then if inb x1 64=true then (f1 (30,0,[V 0,I x1],[],(upd S 5 (x1).toNatClampNeg 0))).bind fun q=>f1 (33,25,[V 0,I x1],q.1.toList++[],q.2) else none else some (none,S):=Ja h 2 rfl<|JJ h rfl (Jk h rfl) (Ja h 2 rfl<|JJ h rfl (Ja h 4 rfl<|Jaa h rfl rfl fun i0=>Ja h 2 rfl<|Jf h rfl rfl) (Jk h rfl))
theorem EbG{f1}(h:Fx f1)(x1:Int32)(S):f1 (33,25,[V 0,I x1],[],S)=if inb x1 64=true then some (none,(upd S 2 (x1).toNatClampNeg (-1))) else none:=Ja h 4 rfl<|Jv h rfl rfl fun i0=>Jk h rfl
theorem Ee8{f1}(h:Fx f1)(x1:Int32)(S):f1 (61,0,[V 0,I x1],[],S)=(f1 (48,0,[V 0,I 1],[],S)).bind fun q=>f1 (61,12,[V 0,I x1,I (S 19 0)],q.1.toList++[],q.2):=Ja h 3 rfl<|Jay h rfl rfl 0<|Ja h 3 rfl<|Jf h rfl rfl
theorem Efd{f1}(h:Fx f1)(x1 x2 y0:Int32)(S):f1 (61,12,[V 0,I x1,I x2],[I y0],S)=if y0<(-1) then some (some (I 0),S) else (f1 (49,0,[V 0],[],S)).bind fun q=>f1 (61,24,[V 0,I x1,I x2,I y0],q.1.toList++[],q.2):=Ja h 3 rfl<|Jm h rfl (Jc h rfl k_0<|Jl h rfl) (Jd h rfl rfl<|Jf h rfl rfl)
theorem Efl{f1}(h:Fx f1)(x1 x2 x3:Int32)(S):f1 (61,24,[V 0,I x1,I x2,I x3],[],S)=(f1 (52,0,[V 0,I x2,I 0],[],S)).bind fun q=>f1 (61,30,[V 0,I x1,I x2,I x3],q.1.toList++[],q.2):=Ja h 3 rfl<|Jf h rfl rfl
theorem Ec1{f1}(h:Fx f1)(x1 x2 x3:Int32)(S):f1 (61,30,[V 0,I x1,I x2,I x3],[],S)=(f1 (50,0,[V 0,I x3],[],S)).bind fun q=>f1 (61,35,[V 0,I x1,I x2,I x3],q.1.toList++[],q.2):=Ja h 2 rfl<|Jf h rfl rfl
theorem EeK{f1}(h:Fx f1)(x1 x2 x3:Int32)(S):f1 (61,35,[V 0,I x1,I x2,I x3],[],S)=if (S 0 8)=0 then if inb x1 64=true then (f1 (53,0,[V 0,I x1],[],(upd S 1 (x1).toNatClampNeg 2))).bind fun q=>f1 (61,54,[V 0,I x1,I x2,I x3],q.1.toList++[],q.2) else none else if inb x2 64=true then (f1 (53,0,[V 0,I x2],[],(upd S 1 (x2).toNatClampNeg 2))).bind fun q=>f1 (61,78,[V 0,I x1,I x2,I x3],q.1.toList++[],q.2) else none:=Ja h 2 rfl<|Js h rfl (Ja h 4 rfl<|Jv h rfl rfl fun i0=>Ja h 2 rfl<|Jf h rfl rfl) (Ja h 4 rfl<|Jv h rfl rfl fun i0=>Ja h 2 rfl<|Jf h rfl rfl)
theorem EaU{f1}(h:Fx f1)(x1 x2 x3 y0:Int32)(S):f1 (61,54,[V 0,I x1,I x2,I x3],[I y0],S)=if y0=0 then some (some (I 0),S) else (f1 (33,0,[V 0,I x2],[],S)).bind fun q=>f1 (61,64,[V 0,I x1,I x2,I x3],q.1.toList++[],q.2):=Js h rfl (Jc h rfl k_0<|Jl h rfl) (Ja h 2 rfl<|Jf h rfl rfl)
theorem EdY{f1}(h:Fx f1)(x1 x2 x3:Int32)(S):f1 (61,64,[V 0,I x1,I x2,I x3],[],S)=some (some (I 1),S):=Jc h rfl k_1<|JC h rfl
theorem EeI{f1}(h:Fx f1)(x1 x2 x3 y0:Int32)(S):f1 (61,78,[V 0,I x1,I x2,I x3],[I y0],S)=if y0=0 then some (some (I 0),S) else (f1 (49,0,[V 0],[],S)).bind fun q=>f1 (61,87,[V 0,I x1,I x2,I x3],q.1.toList++[],q.2):=Js h rfl (Jc h rfl k_0<|Jl h rfl) (Jd h rfl rfl<|Jf h rfl rfl)
theorem Eez{f1}(h:Fx f1)(x1 x2 x3:Int32)(S):f1 (61,87,[V 0,I x1,I x2,I x3],[],S)=(f1 (51,0,[V 0],[],S)).bind fun q=>f1 (61,91,[V 0,I x1,I x2,I x3],q.1.toList++[],q.2):=Jd h rfl rfl<|Jf h rfl rfl
theorem EcG{f1}(h:Fx f1)(x1 x2 x3:Int32)(S):f1 (61,91,[V 0,I x1,I x2,I x3],[],S)=(f1 (50,0,[V 0,I x2],[],S)).bind fun q=>f1 (61,96,[V 0,I x1,I x2,I x3],q.1.toList++[],q.2):=Ja h 2 rfl<|Jf h rfl rfl
theorem Edp{f1}(h:Fx f1)(x1 x2 x3:Int32)(S):f1 (61,96,[V 0,I x1,I x2,I x3],[],S)=(f1 (53,0,[V 0,I x1],[],S)).bind fun q=>f1 (61,101,[V 0,I x1,I x2,I x3],q.1.toList++[],q.2):=Ja h 2 rfl<|Jf h rfl rfl
theorem Ecz{f1}(h:Fx f1)(x1 x2 x3 y0:Int32)(S):f1 (61,101,[V 0,I x1,I x2,I x3],[I y0],S)=some (some (I (y0&&&1)),S):=J5 h rfl
theorem Eew{f1}(h:Fx f1)(x1 x2:Int32)(S):f1 (52,0,[V 0,I x1,I x2],[],S)=(f1 (23,0,[V 0,I x1],[],S)).bind fun q=>f1 (52,5,[V 0,I x1,I x2],q.1.toList++[],q.2):=Ja h 2 rfl<|Jf h rfl rfl
theorem Ebu{f1}(h:Fx f1)(x1 x2 y0:Int32)(S):f1 (52,5,[V 0,I x1,I x2],[I y0],S)=f1 (52,9,[V 0,I x1,I x2,I y0,I 0],[],S):=Ja h 3 rfl rfl
theorem EaA{f1}(h:Fx f1)(x1 x2 x3 x4:Int32)(S):f1 (52,9,[V 0,I x1,I x2,I x3,I x4],[],S)=if x4<x3 then if x4<8 then if x2=0 then (f1 (24,0,[V 0,I x1,I x4],[],S)).bind fun q=>f1 (52,46,[V 0,I x1,I x2,I x3,I x4,I x4],q.1.toList++[],q.2) else (f1 (24,0,[V 0,I x1,I ((x3-1)-x4)],[],S)).bind fun q=>f1 (52,46,[V 0,I x1,I x2,I x3,I x4,I ((x3-1)-x4)],q.1.toList++[],q.2) else some (none,S) else some (none,S):=Ja h 2 rfl<|Jm h rfl (Ja h 2 rfl<|Jm h rfl (Jb h rfl rfl<|Jy h rfl (Ja h 5 rfl<|Jf h rfl rfl) (Ja h 10 rfl<|Jf h rfl rfl)) (Jk h rfl)) (Jk h rfl)
theorem Eet{f1}(h:Fx f1)(x1 x2 x3 x4 x5 y0:Int32)(S):f1 (52,46,[V 0,I x1,I x2,I x3,I x4,I x5],[I y0],S)=(f1 (50,0,[V 0,I y0],[],S)).bind fun q=>f1 (52,54,[V 0,I x1,I x2,I x3,I x4,I x5,I y0],q.1.toList++[],q.2):=Ja h 3 rfl<|Jf h rfl rfl
theorem EdG{f1}(h:Fx f1)(x1 x2 x3 x4 x5 x6:Int32)(S):f1 (52,54,[V 0,I x1,I x2,I x3,I x4,I x5,I x6],[],S)=f1 (52,9,[V 0,I x1,I x2,I x3,I (x4+1)],[],S):=Ja h 2 rfl<|Jr h rfl rfl
theorem Ed6{f1}(h:Fx f1)(x1:Int32)(S):f1 (71,0,[V 0,I x1],[],S)=(f1 (23,0,[V 0,I x1],[],S)).bind fun q=>f1 (71,5,[V 0,I x1],q.1.toList++[],q.2):=Ja h 2 rfl<|Jf h rfl rfl
theorem EaT{f1}(h:Fx f1)(x1 y0:Int32)(S):f1 (71,5,[V 0,I x1],[I y0],S)=(f1 (24,0,[V 0,I x1,I 0],[],S)).bind fun q=>f1 (71,12,[V 0,I x1,I y0],q.1.toList++[],q.2):=Ja h 4 rfl<|Jf h rfl rfl
theorem Ea6{f1}(h:Fx f1)(x1 x2 y0:Int32)(S):f1 (71,12,[V 0,I x1,I x2],[I y0],S)=(f1 (24,0,[V 0,I x1,I (x2-1)],[],S)).bind fun q=>f1 (71,21,[V 0,I x1,I x2,I y0],q.1.toList++[],q.2):=Ja h 6 rfl<|Jf h rfl rfl
theorem EbA{f1}(h:Fx f1)(x1 x2 x3 y0:Int32)(S):f1 (71,21,[V 0,I x1,I x2,I x3],[I y0],S)=(f1 (27,0,[V 0,I x3],[],S)).bind fun q=>f1 (71,28,[V 0,I x1,I x2,I x3,I y0],q.1.toList++[],q.2):=Ja h 3 rfl<|Jf h rfl rfl
theorem EbN{f1}(h:Fx f1)(x1 x2 x3 x4 y0:Int32)(S):f1 (71,28,[V 0,I x1,I x2,I x3,I x4],[I y0],S)=(f1 (27,0,[V 0,I x4],[],S)).bind fun q=>f1 (71,36,[V 0,I x1,I x2,I x3,I x4,I y0],q.1.toList++[],q.2):=Ja h 3 rfl<|Jf h rfl rfl
theorem Edu{f1}(h:Fx f1)(x1 x2 x3 x4 x5 y0:Int32)(S):f1 (71,36,[V 0,I x1,I x2,I x3,I x4,I x5],[I y0],S)=if x5<y0 then if inb x1 64=true then (f1 (28,0,[V 0,I x3],[],(upd S 20 (x1).toNatClampNeg x5))).bind fun q=>f1 (71,63,[V 0,I x1,I x2,I x3,I x4,I x5,I y0],q.1.toList++[],q.2) else none else if inb x1 64=true then (f1 (28,0,[V 0,I x3],[],(upd S 20 (x1).toNatClampNeg y0))).bind fun q=>f1 (71,63,[V 0,I x1,I x2,I x3,I x4,I x5,I y0],q.1.toList++[],q.2) else none:=Ja h 6 rfl<|Jm h rfl (Ja h 2 rfl<|Jv h rfl rfl fun i0=>Ja h 2 rfl<|Jf h rfl rfl) (Jb h rfl rfl<|Jv h rfl rfl fun i0=>Ja h 2 rfl<|Jf h rfl rfl)
theorem Edx{f1}(h:Fx f1)(x1 x2 x3 x4 x5 x6 y0:Int32)(S):f1 (71,63,[V 0,I x1,I x2,I x3,I x4,I x5,I x6],[I y0],S)=(f1 (28,0,[V 0,I x4],[],S)).bind fun q=>f1 (71,71,[V 0,I x1,I x2,I x3,I x4,I x5,I x6,I y0],q.1.toList++[],q.2):=Ja h 3 rfl<|Jf h rfl rfl
theorem Eeg{f1}(h:Fx f1)(x1 x2 x3 x4 x5 x6 x7 y0:Int32)(S):f1 (71,71,[V 0,I x1,I x2,I x3,I x4,I x5,I x6,I x7],[I y0],S)=if inb x1 64=true then some (none,(upd S 21 (x1).toNatClampNeg (x7|||y0))) else none:=Ja h 7 rfl<|Jv h rfl rfl fun i0=>Jk h rfl
theorem Eb5{f1}(h:Fx f1)(x1:Int32)(S):f1 (27,0,[V 0,I x1],[],S)=(f1 (21,0,[V 0,I x1],[],S)).bind fun q=>f1 (27,5,[V 0,I x1],q.1.toList++[],q.2):=Ja h 2 rfl<|Jf h rfl rfl
theorem Efs{f1}(h:Fx f1)(x1 y0:Int32)(S):f1 (27,5,[V 0,I x1],[I y0],S)=if y0=0 then some (some (I 64),S) else if inb x1 64=true then some (some (I (S 20 (x1).toNatClampNeg)),S) else none:=Js h rfl (Jc h rfl k_64<|Ji h rfl) (Ja h 3 rfl<|Jo h rfl rfl fun i0=>Ji h rfl)
theorem Efp{f1}(h:Fx f1)(x1 x2:Int32)(S):f1 (74,0,[V 0,I x1,I x2],[],S)=(f1 (23,0,[V 0,I x1],[],S)).bind fun q=>f1 (74,5,[V 0,I x1,I x2],q.1.toList++[],q.2):=Ja h 2 rfl<|Jf h rfl rfl
theorem EcE{f1}(h:Fx f1)(x1 x2 y0:Int32)(S):f1 (74,5,[V 0,I x1,I x2],[I y0],S)=if 0<y0 then (f1 (24,0,[V 0,I x1,I 0],[],S)).bind fun q=>f1 (74,18,[V 0,I x1,I x2,I y0],q.1.toList++[],q.2) else some (some (I x2),S):=Ja h 2 rfl<|Jas h rfl (Ja h 3 rfl<|Jf h rfl rfl) (Jb h rfl rfl<|Ji h rfl)
theorem Eeq{f1}(h:Fx f1)(x1 x2 x3 y0:Int32)(S):f1 (74,18,[V 0,I x1,I x2,I x3],[I y0],S)=(f1 (24,0,[V 0,I x1,I (x3-1)],[],S)).bind fun q=>f1 (74,28,[V 0,I x1,I x2,I x3,I y0],q.1.toList++[],q.2):=Ja h 6 rfl<|Jf h rfl rfl
theorem EdN{f1}(h:Fx f1)(x1 x2 x3 x4 y0:Int32)(S):f1 (74,28,[V 0,I x1,I x2,I x3,I x4],[I y0],S)=(f1 (27,0,[V 0,I x4],[],S)).bind fun q=>f1 (74,36,[V 0,I x1,I x2,I x3,I x4,I y0],q.1.toList++[],q.2):=Ja h 3 rfl<|Jf h rfl rfl
theorem Eby{f1}(h:Fx f1)(x1 x2 x3 x4 x5 y0:Int32)(S):f1 (74,36,[V 0,I x1,I x2,I x3,I x4,I x5],[I y0],S)=(f1 (27,0,[V 0,I x5],[],S)).bind fun q=>f1 (74,44,[V 0,I x1,I x2,I x3,I x4,I x5,I y0],q.1.toList++[],q.2):=Ja h 3 rfl<|Jf h rfl rfl
theorem Ec6{f1}(h:Fx f1)(x1 x2 x3 x4 x5 x6 y0:Int32)(S):f1 (74,44,[V 0,I x1,I x2,I x3,I x4,I x5,I x6],[I y0],S)=f1 (74,52,[V 0,I x1,I x2,I x3,I x4,I x5,I x6,I y0,I x2,I 0],[],S):=Ja h 5 rfl rfl
theorem ET{f1}(h:Fx f1)(x1 x2 x3 x4 x5 x6 x7 x8 x9:Int32)(S):f1 (74,52,[V 0,I x1,I x2,I x3,I x4,I x5,I x6,I x7,I x8,I x9],[],S)=if x9<x3 then if x9<8 then if x6<x7 then (f1 (24,0,[V 0,I x1,I ((x3-1)-x9)],[],S)).bind fun q=>f1 (74,92,[V 0,I x1,I x2,I x3,I x4,I x5,I x6,I x7,I x8,I x9,I ((x3-1)-x9)],q.1.toList++[],q.2) else (f1 (24,0,[V 0,I x1,I x9],[],S)).bind fun q=>f1 (74,92,[V 0,I x1,I x2,I x3,I x4,I x5,I x6,I x7,I x8,I x9,I x9],q.1.toList++[],q.2) else some (some (I x8),S) else some (some (I x8),S):=Ja h 2 rfl<|Jm h rfl (Ja h 2 rfl<|Jm h rfl (Ja h 2 rfl<|Jm h rfl (Ja h 10 rfl<|Jf h rfl rfl) (Ja h 5 rfl<|Jf h rfl rfl)) (Jb h rfl rfl<|Ji h rfl)) (Jb h rfl rfl<|Ji h rfl)
theorem EaX{f1}(h:Fx f1)(x1 x2 x3 x4 x5 x6 x7 x8 x9 x10 y0:Int32)(S):f1 (74,92,[V 0,I x1,I x2,I x3,I x4,I x5,I x6,I x7,I x8,I x9,I x10],[I y0],S)=if x8<128 then if inb x8 128=true then f1 (74,52,[V 0,I x1,I x2,I x3,I x4,I x5,I x6,I x7,I (x8+1),I (x9+1)],[],(upd S 14 (x8).toNatClampNeg y0)) else none else f1 (74,52,[V 0,I x1,I x2,I x3,I x4,I x5,I x6,I x7,I x8,I (x9+1)],[],S):=Ja h 3 rfl<|Jm h rfl (Ja h 4 rfl<|Jv h rfl rfl fun i0=>Ja h 3 rfl<|Jr h rfl rfl) (Ja h 2 rfl<|Jr h rfl rfl)
theorem Efw{f1}(h:Fx f1)(x1:Int32)(S):f1 (65,0,[V 0,I x1],[],S)=(f1 (63,0,[V 0,I x1],[],S)).bind fun q=>f1 (65,5,[V 0,I x1],q.1.toList++[],q.2):=Ja h 2 rfl<|Jf h rfl rfl
theorem Ed8{f1}(h:Fx f1)(x1 y0:Int32)(S):f1 (65,5,[V 0,I x1],[I y0],S)=(f1 (64,0,[V 0,I x1],[],S)).bind fun q=>f1 (65,11,[V 0,I x1,I y0],q.1.toList++[],q.2):=Ja h 3 rfl<|Jf h rfl rfl
theorem EdC{f1}(h:Fx f1)(x1 x2 y0:Int32)(S):f1 (65,11,[V 0,I x1,I x2],[I y0],S)=if x2<0 then some (some (I 1),S) else f1 (65,23,[V 0,I x1,I x2,I y0,I (x2+1)],[],S):=Ja h 2 rfl<|JP h rfl (Jc h rfl k_1<|JC h rfl) (Ja h 4 rfl rfl)
theorem Eo{f1}(h:Fx f1)(x1 x2 x3 x4:Int32)(S):f1 (65,23,[V 0,I x1,I x2,I x3,I x4],[],S)=if x4<x3 then if x4<8 then (f1 (24,0,[V 0,I x1,I x4],[],S)).bind fun q=>f1 (65,43,[V 0,I x1,I x2,I x3,I x4],q.1.toList++[],q.2) else (f1 (49,0,[V 0],[],S)).bind fun q=>f1 (65,67,[V 0,I x1,I x2,I x3,I x4],q.1.toList++[],q.2) else (f1 (49,0,[V 0],[],S)).bind fun q=>f1 (65,67,[V 0,I x1,I x2,I x3,I x4],q.1.toList++[],q.2):=Ja h 2 rfl<|Jm h rfl (Ja h 2 rfl<|Jm h rfl (Ja h 3 rfl<|Jf h rfl rfl) (Jd h rfl rfl<|Jf h rfl rfl)) (Jd h rfl rfl<|Jf h rfl rfl)
theorem Ebz{f1}(h:Fx f1)(x1 x2 x3 x4 y0:Int32)(S):f1 (65,43,[V 0,I x1,I x2,I x3,I x4],[I y0],S)=(f1 (26,0,[V 0,I y0],[],S)).bind fun q=>f1 (65,51,[V 0,I x1,I x2,I x3,I x4,I y0],q.1.toList++[],q.2):=Ja h 3 rfl<|Jf h rfl rfl
theorem EbU{f1}(h:Fx f1)(x1 x2 x3 x4 x5 y0:Int32)(S):f1 (65,51,[V 0,I x1,I x2,I x3,I x4,I x5],[I y0],S)=if y0=1 then f1 (65,23,[V 0,I x1,I x2,I x3,I (x4+1)],[],S) else some (some (I 0),S):=Jc h rfl k_1<|JA h rfl (Ja h 2 rfl<|Jr h rfl rfl) (Jc h rfl k_0<|Jl h rfl)
theorem EbD{f1}(h:Fx f1)(x1 x2 x3 x4:Int32)(S):f1 (65,67,[V 0,I x1,I x2,I x3,I x4],[],S)=(f1 (23,0,[V 0,I x1],[],S)).bind fun q=>f1 (65,72,[V 0,I x1,I x2,I x3,I x4],q.1.toList++[],q.2):=Ja h 2 rfl<|Jf h rfl rfl
theorem EdW{f1}(h:Fx f1)(x1 x2 x3 x4 y0:Int32)(S):f1 (65,72,[V 0,I x1,I x2,I x3,I x4],[I y0],S)=f1 (65,77,[V 0,I x1,I x2,I x3,I y0,I 0],[],S):=Ja h 3 rfl rfl
theorem Eao{f1}(h:Fx f1)(x1 x2 x3 x4 x5:Int32)(S):f1 (65,77,[V 0,I x1,I x2,I x3,I x4,I x5],[],S)=if x5<x4 then if x5<8 then (f1 (24,0,[V 0,I x1,I x5],[],S)).bind fun q=>f1 (65,98,[V 0,I x1,I x2,I x3,I x4,I x5],q.1.toList++[],q.2) else (f1 (53,0,[V 0,I x1],[],S)).bind fun q=>f1 (65,161,[V 0,I x1,I x2,I x3,I x4,I x5],q.1.toList++[],q.2) else (f1 (53,0,[V 0,I x1],[],S)).bind fun q=>f1 (65,161,[V 0,I x1,I x2,I x3,I x4,I x5],q.1.toList++[],q.2):=Ja h 2 rfl<|Jm h rfl (Ja h 2 rfl<|Jm h rfl (Ja h 3 rfl<|Jf h rfl rfl) (Ja h 2 rfl<|Jf h rfl rfl)) (Ja h 2 rfl<|Jf h rfl rfl)
theorem Eed{f1}(h:Fx f1)(x1 x2 x3 x4 x5 y0:Int32)(S):f1 (65,98,[V 0,I x1,I x2,I x3,I x4,I x5],[I y0],S)=(f1 (26,0,[V 0,I y0],[],S)).bind fun q=>f1 (65,106,[V 0,I x1,I x2,I x3,I x4,I x5,I y0],q.1.toList++[],q.2):=Ja h 3 rfl<|Jf h rfl rfl
theorem EcV{f1}(h:Fx f1)(x1 x2 x3 x4 x5 x6 y0:Int32)(S):f1 (65,106,[V 0,I x1,I x2,I x3,I x4,I x5,I x6],[I y0],S)=if y0=2 then if x5=x3 then if x5=x2 then (f1 (52,0,[V 0,I x6,I 0],[],S)).bind fun q=>f1 (65,141,[V 0,I x1,I x2,I x3,I x4,I x5,I x6,I y0,I 0],q.1.toList++[],q.2) else (f1 (52,0,[V 0,I x6,I 1],[],S)).bind fun q=>f1 (65,141,[V 0,I x1,I x2,I x3,I x4,I x5,I x6,I y0,I 1],q.1.toList++[],q.2) else (f1 (52,0,[V 0,I x6,I 0],[],S)).bind fun q=>f1 (65,141,[V 0,I x1,I x2,I x3,I x4,I x5,I x6,I y0,I 0],q.1.toList++[],q.2) else (f1 (50,0,[V 0,I x6],[],S)).bind fun q=>f1 (65,150,[V 0,I x1,I x2,I x3,I x4,I x5,I x6,I y0],q.1.toList++[],q.2):=Ja h 3 rfl<|Jp h rfl (Ja h 2 rfl<|Jp h rfl (Ja h 2 rfl<|JA h rfl (Ja h 5 rfl<|Jf h rfl rfl) (Ja h 6 rfl<|Jf h rfl rfl)) (Ja h 5 rfl<|Jf h rfl rfl)) (Ja h 2 rfl<|Jf h rfl rfl)
theorem Eft{f1}(h:Fx f1)(x1 x2 x3 x4 x5 x6 x7 x8:Int32)(S):f1 (65,141,[V 0,I x1,I x2,I x3,I x4,I x5,I x6,I x7,I x8],[],S)=f1 (65,150,[V 0,I x1,I x2,I x3,I x4,I x5,I x6,I x7],[],S):=Jh h rfl<|Jr h rfl rfl
theorem Eay{f1}(h:Fx f1)(x1 x2 x3 x4 x5 x6 x7:Int32)(S):f1 (65,150,[V 0,I x1,I x2,I x3,I x4,I x5,I x6,I x7],[],S)=f1 (65,77,[V 0,I x1,I x2,I x3,I x4,I (x5+1)],[],S):=Ja h 2 rfl<|Jr h rfl rfl
theorem Efq{f1}(h:Fx f1)(x1 x2 x3 x4 x5 y0:Int32)(S):f1 (65,161,[V 0,I x1,I x2,I x3,I x4,I x5],[I y0],S)=some (some (I (y0&&&1)),S):=J5 h rfl
theorem Ec4{f1}(h:Fx f1)(x1:Int32)(S):f1 (63,0,[V 0,I x1],[],S)=(f1 (23,0,[V 0,I x1],[],S)).bind fun q=>f1 (63,5,[V 0,I x1],q.1.toList++[],q.2):=Ja h 2 rfl<|Jf h rfl rfl
theorem EcC{f1}(h:Fx f1)(x1 y0:Int32)(S):f1 (63,5,[V 0,I x1],[I y0],S)=f1 (63,8,[V 0,I x1,I y0,I 0],[],S):=Ja h 3 rfl rfl
theorem EdL{f1}(h:Fx f1)(x1 x2 x3:Int32)(S):f1 (63,8,[V 0,I x1,I x2,I x3],[],S)=if x3<x2 then if x3<8 then (f1 (24,0,[V 0,I x1,I x3],[],S)).bind fun q=>f1 (63,25,[V 0,I x1,I x2,I x3],q.1.toList++[],q.2) else some (some (I (-1)),S) else some (some (I (-1)),S):=Ja h 2 rfl<|Jm h rfl (Ja h 2 rfl<|Jm h rfl (Ja h 3 rfl<|Jf h rfl rfl) (Jc h rfl k_m1<|Ji h rfl)) (Jc h rfl k_m1<|Ji h rfl)
theorem Ee2{f1}(h:Fx f1)(x1 x2 x3 y0:Int32)(S):f1 (63,25,[V 0,I x1,I x2,I x3],[I y0],S)=(f1 (26,0,[V 0,I y0],[],S)).bind fun q=>f1 (63,33,[V 0,I x1,I x2,I x3,I y0],q.1.toList++[],q.2):=Ja h 3 rfl<|Jf h rfl rfl
theorem Ect{f1}(h:Fx f1)(x1 x2 x3 x4 y0:Int32)(S):f1 (63,33,[V 0,I x1,I x2,I x3,I x4],[I y0],S)=if y0=0 then f1 (63,8,[V 0,I x1,I x2,I (x3+1)],[],S) else some (some (I x3),S):=Jy h rfl (Ja h 2 rfl<|Jr h rfl rfl) (Jb h rfl rfl<|Ji h rfl)
theorem EbK{f1}(h:Fx f1)(x1:Int32)(S):f1 (64,0,[V 0,I x1],[],S)=(f1 (23,0,[V 0,I x1],[],S)).bind fun q=>f1 (64,5,[V 0,I x1],q.1.toList++[],q.2):=Ja h 2 rfl<|Jf h rfl rfl
theorem EdZ{f1}(h:Fx f1)(x1 y0:Int32)(S):f1 (64,5,[V 0,I x1],[I y0],S)=f1 (64,10,[V 0,I x1,I y0,I (y0-1)],[],S):=Ja h 5 rfl rfl
theorem Eab{f1}(h:Fx f1)(x1 x2 x3:Int32)(S):f1 (64,10,[V 0,I x1,I x2,I x3],[],S)=if x3<0 then some (some (I (-1)),S) else if x3<8 then (f1 (24,0,[V 0,I x1,I x3],[],S)).bind fun q=>f1 (64,26,[V 0,I x1,I x2,I x3],q.1.toList++[],q.2) else some (some (I (-1)),S):=Jb h rfl rfl<|JB h rfl (Jc h rfl k_m1<|Ji h rfl) (Ja h 2 rfl<|Jm h rfl (Ja h 3 rfl<|Jf h rfl rfl) (Jc h rfl k_m1<|Ji h rfl))
theorem EaQ{f1}(h:Fx f1)(x1 x2 x3 y0:Int32)(S):f1 (64,26,[V 0,I x1,I x2,I x3],[I y0],S)=(f1 (26,0,[V 0,I y0],[],S)).bind fun q=>f1 (64,34,[V 0,I x1,I x2,I x3,I y0],q.1.toList++[],q.2):=Ja h 3 rfl<|Jf h rfl rfl
theorem EC{f1}(h:Fx f1)(x1 x2 x3 x4 y0:Int32)(S):f1 (64,34,[V 0,I x1,I x2,I x3,I x4],[I y0],S)=if y0=0 then f1 (64,10,[V 0,I x1,I x2,I (x3+(-1))],[],S) else some (some (I x3),S):=Jy h rfl (Ja h 2 rfl<|Jr h rfl rfl) (Jb h rfl rfl<|Ji h rfl)
theorem Ebj{f1}(h:Fx f1)(x1:Int32)(S):f1 (58,0,[V 0,I x1],[],S)=(f1 (47,0,[V 0,I x1],[],S)).bind fun q=>f1 (58,5,[V 0,I x1],q.1.toList++[],q.2):=Ja h 2 rfl<|Jf h rfl rfl
theorem EcU{f1}(h:Fx f1)(x1:Int32)(S):f1 (58,5,[V 0,I x1],[],S)=if (S 0 10)<2 then if (S 0 10)=0 then if (S 0 8)=0 then if inb x1 64=true then some (some (I 1),(upd S 11 (x1).toNatClampNeg 1)) else none else f1 (58,38,[V 0,I x1],[],S) else f1 (58,38,[V 0,I x1],[],S) else some (some (I 0),S):=Ja h 3 rfl<|JJ h rfl (Ja h 2 rfl<|Js h rfl (Ja h 2 rfl<|Js h rfl (Ja h 4 rfl<|Jv h rfl rfl fun i0=>Jc h rfl k_1<|JC h rfl) rfl) rfl) (Jc h rfl k_0<|Jl h rfl)
theorem EH{f1}(h:Fx f1)(x1:Int32)(S):f1 (58,38,[V 0,I x1],[],S)=if (S 0 10)=0 then if (S 0 9)=0 then if inb x1 64=true then some (some (I 1),(upd S 11 (x1).toNatClampNeg 0)) else none else (f1 (56,0,[V 0,I x1],[],S)).bind fun q=>f1 (58,66,[V 0,I x1],q.1.toList++[],q.2) else (f1 (56,0,[V 0,I x1],[],S)).bind fun q=>f1 (58,66,[V 0,I x1],q.1.toList++[],q.2):=Ja h 2 rfl<|Js h rfl (Ja h 2 rfl<|Js h rfl (Ja h 4 rfl<|Jv h rfl rfl fun i0=>Jc h rfl k_1<|JC h rfl) (Ja h 2 rfl<|Jf h rfl rfl)) (Ja h 2 rfl<|Jf h rfl rfl)
theorem Eer{f1}(h:Fx f1)(x1 y0:Int32)(S):f1 (58,66,[V 0,I x1],[I y0],S)=if y0=0 then some (some (I 0),S) else if y0<0 then (f1 (54,0,[V 0,I x1],[],S)).bind fun q=>f1 (58,82,[V 0,I x1,I y0],q.1.toList++[],q.2) else f1 (58,82,[V 0,I x1,I y0],[],S):=Ja h 2 rfl<|Js h rfl (Jc h rfl k_0<|Jl h rfl) (Jb h rfl rfl<|JP h rfl (Ja h 2 rfl<|Jf h rfl rfl) rfl)
theorem Eff{f1}(h:Fx f1)(x1 x2:Int32)(S):f1 (58,82,[V 0,I x1,I x2],[],S)=if (S 0 10)=1 then (f1 (49,0,[V 0],[],S)).bind fun q=>f1 (58,105,[V 0,I x1,I x2,I (S 19 0)],q.1.toList++[],q.2) else (f1 (49,0,[V 0],[],S)).bind fun q=>f1 (58,105,[V 0,I x1,I x2,I (-1)],q.1.toList++[],q.2):=Ja h 3 rfl<|Jp h rfl (Ja h 3 rfl<|Jay h rfl rfl 0<|Ja h 3 rfl<|Jf h rfl rfl) (Ja h 3 rfl<|Jf h rfl rfl)
theorem Edl{f1}(h:Fx f1)(x1 x2 x3:Int32)(S):f1 (58,105,[V 0,I x1,I x2,I x3],[],S)=(f1 (23,0,[V 0,I x1],[],S)).bind fun q=>f1 (58,110,[V 0,I x1,I x2,I x3],q.1.toList++[],q.2):=Ja h 2 rfl<|Jf h rfl rfl
theorem Ed3{f1}(h:Fx f1)(x1 x2 x3 y0:Int32)(S):f1 (58,110,[V 0,I x1,I x2,I x3],[I y0],S)=f1 (58,115,[V 0,I x1,I x2,I x3,I y0,I 0],[],S):=Ja h 3 rfl rfl
theorem ES{f1}(h:Fx f1)(x1 x2 x3 x4 x5:Int32)(S):f1 (58,115,[V 0,I x1,I x2,I x3,I x4,I x5],[],S)=if x5<x4 then if x5<8 then (f1 (24,0,[V 0,I x1,I x5],[],S)).bind fun q=>f1 (58,136,[V 0,I x1,I x2,I x3,I x4,I x5],q.1.toList++[],q.2) else (f1 (53,0,[V 0,I x1],[],S)).bind fun q=>f1 (58,171,[V 0,I x1,I x2,I x3,I x4,I x5],q.1.toList++[],q.2) else (f1 (53,0,[V 0,I x1],[],S)).bind fun q=>f1 (58,171,[V 0,I x1,I x2,I x3,I x4,I x5],q.1.toList++[],q.2):=Ja h 2 rfl<|Jm h rfl (Ja h 2 rfl<|Jm h rfl (Ja h 3 rfl<|Jf h rfl rfl) (Ja h 2 rfl<|Jf h rfl rfl)) (Ja h 2 rfl<|Jf h rfl rfl)
theorem EeB{f1}(h:Fx f1)(x1 x2 x3 x4 x5 y0:Int32)(S):f1 (58,136,[V 0,I x1,I x2,I x3,I x4,I x5],[I y0],S)=if y0=x3 then (f1 (52,0,[V 0,I y0,I 0],[],S)).bind fun q=>f1 (58,151,[V 0,I x1,I x2,I x3,I x4,I x5,I y0],q.1.toList++[],q.2) else (f1 (50,0,[V 0,I y0],[],S)).bind fun q=>f1 (58,160,[V 0,I x1,I x2,I x3,I x4,I x5,I y0],q.1.toList++[],q.2):=Ja h 3 rfl<|Jp h rfl (Ja h 3 rfl<|Jf h rfl rfl) (Ja h 2 rfl<|Jf h rfl rfl)
theorem Efz{f1}(h:Fx f1)(x1 x2 x3 x4 x5 x6:Int32)(S):f1 (58,151,[V 0,I x1,I x2,I x3,I x4,I x5,I x6],[],S)=f1 (58,160,[V 0,I x1,I x2,I x3,I x4,I x5,I x6],[],S):=Jh h rfl rfl
theorem E6{f1}(h:Fx f1)(x1 x2 x3 x4 x5 x6:Int32)(S):f1 (58,160,[V 0,I x1,I x2,I x3,I x4,I x5,I x6],[],S)=f1 (58,115,[V 0,I x1,I x2,I x3,I x4,I (x5+1)],[],S):=Ja h 2 rfl<|Jr h rfl rfl
theorem Eex{f1}(h:Fx f1)(x1 x2 x3 x4 x5 y0:Int32)(S):f1 (58,171,[V 0,I x1,I x2,I x3,I x4,I x5],[I y0],S)=if y0=0 then some (some (I 0),S) else (f1 (33,0,[V 0,I x3],[],S)).bind fun q=>f1 (58,181,[V 0,I x1,I x2,I x3,I x4,I x5],q.1.toList++[],q.2):=Js h rfl (Jc h rfl k_0<|Jl h rfl) (Ja h 2 rfl<|Jf h rfl rfl)
theorem Efx{f1}(h:Fx f1)(x1 x2 x3 x4 x5:Int32)(S):f1 (58,181,[V 0,I x1,I x2,I x3,I x4,I x5],[],S)=if inb x1 64=true then some (some (I 1),(upd S 11 (x1).toNatClampNeg 2)) else none:=Ja h 4 rfl<|Jv h rfl rfl fun i0=>Jc h rfl k_1<|JC h rfl
theorem Eea{f1}(h:Fx f1)(x1:Int32)(S):f1 (56,0,[V 0,I x1],[],S)=(f1 (23,0,[V 0,I x1],[],S)).bind fun q=>f1 (56,5,[V 0,I x1],q.1.toList++[],q.2):=Ja h 2 rfl<|Jf h rfl rfl
theorem EcD{f1}(h:Fx f1)(x1 y0:Int32)(S):f1 (56,5,[V 0,I x1],[I y0],S)=f1 (56,17,[V 0,I x1,I y0,I 1,I 1,I (-1),I 0],[],S):=Ja h 9 rfl rfl
theorem EaJ{f1}(h:Fx f1)(x1 x2 x3 x4 x5 x6:Int32)(S):f1 (56,17,[V 0,I x1,I x2,I x3,I x4,I x5,I x6],[],S)=if x6<x2 then if x6<8 then (f1 (24,0,[V 0,I x1,I x6],[],S)).bind fun q=>f1 (56,37,[V 0,I x1,I x2,I x3,I x4,I x5,I x6],q.1.toList++[],q.2) else f1 (56,94,[V 0,I x1,I x2,I x3,I x4,I x5,I x6],[],S) else f1 (56,94,[V 0,I x1,I x2,I x3,I x4,I x5,I x6],[],S):=Ja h 2 rfl<|Jm h rfl (Ja h 2 rfl<|Jm h rfl (Ja h 3 rfl<|Jf h rfl rfl) rfl) rfl
theorem Ed4{f1}(h:Fx f1)(x1 x2 x3 x4 x5 x6 y0:Int32)(S):f1 (56,37,[V 0,I x1,I x2,I x3,I x4,I x5,I x6],[I y0],S)=(f1 (26,0,[V 0,I y0],[],S)).bind fun q=>f1 (56,45,[V 0,I x1,I x2,I x3,I x4,I x5,I x6,I y0],q.1.toList++[],q.2):=Ja h 3 rfl<|Jf h rfl rfl
theorem EbO{f1}(h:Fx f1)(x1 x2 x3 x4 x5 x6 x7 y0:Int32)(S):f1 (56,45,[V 0,I x1,I x2,I x3,I x4,I x5,I x6,I x7],[I y0],S)=(f1 (55,0,[V 0,I y0],[],S)).bind fun q=>f1 (56,53,[V 0,I x1,I x2,I x3,I x4,I x5,I x6,I x7,I y0],q.1.toList++[],q.2):=Ja h 3 rfl<|Jf h rfl rfl
theorem Eb1{f1}(h:Fx f1)(x1 x2 x3 x4 x5 x6 x7 x8 y0:Int32)(S):f1 (56,53,[V 0,I x1,I x2,I x3,I x4,I x5,I x6,I x7,I x8],[I y0],S)=if 0<x6 then if y0<x5 then f1 (56,69,[V 0,I x1,I x2,I 0,I x4,I x5,I x6,I x7,I x8,I y0],[],S) else f1 (56,69,[V 0,I x1,I x2,I x3,I x4,I x5,I x6,I x7,I x8,I y0],[],S) else f1 (56,69,[V 0,I x1,I x2,I x3,I x4,I x5,I x6,I x7,I x8,I y0],[],S):=Ja h 2 rfl<|Jab h rfl (Ja h 2 rfl<|Jm h rfl (Ja h 2 rfl rfl) rfl) rfl
theorem EL{f1}(h:Fx f1)(x1 x2 x3 x4 x5 x6 x7 x8 x9:Int32)(S):f1 (56,69,[V 0,I x1,I x2,I x3,I x4,I x5,I x6,I x7,I x8,I x9],[],S)=if 0<x6 then if x5<x9 then f1 (56,17,[V 0,I x1,I x2,I x3,I 0,I x9,I (x6+1)],[],S) else f1 (56,17,[V 0,I x1,I x2,I x3,I x4,I x9,I (x6+1)],[],S) else f1 (56,17,[V 0,I x1,I x2,I x3,I x4,I x9,I (x6+1)],[],S):=Jb h rfl rfl<|Jab h rfl (Ja h 2 rfl<|JO h rfl (Ja h 6 rfl<|Jr h rfl rfl) (Ja h 4 rfl<|Jr h rfl rfl)) (Ja h 4 rfl<|Jr h rfl rfl)
theorem Ecn{f1}(h:Fx f1)(x1 x2 x3 x4 x5 x6:Int32)(S):f1 (56,94,[V 0,I x1,I x2,I x3,I x4,I x5,I x6],[],S)=if x3=0 then if x4=0 then some (some (I 0),S) else some (some (I (-1)),S) else some (some (I 1),S):=Jb h rfl rfl<|Jy h rfl (Jb h rfl rfl<|Jy h rfl (Jc h rfl k_0<|Ji h rfl) (Jc h rfl k_m1<|Ji h rfl)) (Jc h rfl k_1<|Ji h rfl)
theorem Edb{f1}(h:Fx f1)(x1:Int32)(S):f1 (55,0,[V 0,I x1],[],S)=if x1=0 then some (some (I 0),S) else if x1=2 then some (some (I 1),S) else some (some (I 2),S):=Jb h rfl rfl<|Js h rfl (Jc h rfl k_0<|Ji h rfl) (Ja h 2 rfl<|Jp h rfl (Jc h rfl k_1<|Ji h rfl) (Jc h rfl k_2<|Ji h rfl))
theorem EdT{f1}(h:Fx f1)(x1:Int32)(S):f1 (54,0,[V 0,I x1],[],S)=(f1 (23,0,[V 0,I x1],[],S)).bind fun q=>f1 (54,5,[V 0,I x1],q.1.toList++[],q.2):=Ja h 2 rfl<|Jf h rfl rfl
theorem EbB{f1}(h:Fx f1)(x1 y0:Int32)(S):f1 (54,5,[V 0,I x1],[I y0],S)=f1 (54,8,[V 0,I x1,I y0,I 0],[],S):=Ja h 3 rfl rfl
theorem EE{f1}(h:Fx f1)(x1 x2 x3:Int32)(S):f1 (54,8,[V 0,I x1,I x2,I x3],[],S)=if x3<8 then if x3<((x2-1)-x3) then (f1 (24,0,[V 0,I x1,I x3],[],S)).bind fun q=>f1 (54,34,[V 0,I x1,I x2,I x3,I ((x2-1)-x3)],q.1.toList++[],q.2) else some (none,S) else some (none,S):=Ja h 2 rfl<|Jm h rfl (Ja h 8 rfl<|JJ h rfl (Ja h 3 rfl<|Jf h rfl rfl) (Jk h rfl)) (Jk h rfl)
theorem Edj{f1}(h:Fx f1)(x1 x2 x3 x4 y0:Int32)(S):f1 (54,34,[V 0,I x1,I x2,I x3,I x4],[I y0],S)=(f1 (24,0,[V 0,I x1,I x4],[],S)).bind fun q=>f1 (54,43,[V 0,I x1,I x2,I x3,I x4,I y0],q.1.toList++[],q.2):=Ja h 4 rfl<|Jf h rfl rfl
theorem Ebm{f1}(h:Fx f1)(x1 x2 x3 x4 x5 y0:Int32)(S):f1 (54,43,[V 0,I x1,I x2,I x3,I x4,I x5],[I y0],S)=(f1 (25,0,[V 0,I x1,I x3,I y0],[],S)).bind fun q=>f1 (54,53,[V 0,I x1,I x2,I x3,I x4,I x5,I y0],q.1.toList++[],q.2):=Ja h 5 rfl<|Jf h rfl rfl
theorem Ee0{f1}(h:Fx f1)(x1 x2 x3 x4 x5 x6:Int32)(S):f1 (54,53,[V 0,I x1,I x2,I x3,I x4,I x5,I x6],[],S)=(f1 (25,0,[V 0,I x1,I x4,I x5],[],S)).bind fun q=>f1 (54,62,[V 0,I x1,I x2,I x3,I x4,I x5,I x6],q.1.toList++[],q.2):=Ja h 4 rfl<|Jf h rfl rfl
theorem EbP{f1}(h:Fx f1)(x1 x2 x3 x4 x5 x6:Int32)(S):f1 (54,62,[V 0,I x1,I x2,I x3,I x4,I x5,I x6],[],S)=f1 (54,8,[V 0,I x1,I x2,I (x3+1)],[],S):=Ja h 2 rfl<|Jr h rfl rfl
theorem EcO{f1}(h:Fx f1)(x1 x2 x3:Int32)(S):f1 (25,0,[V 0,I x1,I x2,I x3],[],S)=(f1 (21,0,[V 0,I x1],[],S)).bind fun q=>f1 (25,5,[V 0,I x1,I x2,I x3],q.1.toList++[],q.2):=Ja h 2 rfl<|Jf h rfl rfl
theorem Efj{f1}(h:Fx f1)(x1 x2 x3 y0:Int32)(S):f1 (25,5,[V 0,I x1,I x2,I x3],[I y0],S)=if y0=0 then some (none,S) else if x2<0 then some (none,S) else if x2<8 then if inb ((x1*8)+x2) 512=true then some (none,(upd S 4 (((x1*8)+x2)).toNatClampNeg x3)) else none else some (none,S):=Jy h rfl (Jk h rfl) (Jb h rfl rfl<|JB h rfl (Jk h rfl) (Ja h 2 rfl<|Jm h rfl (Ja h 8 rfl<|Jv h rfl rfl fun i0=>Jk h rfl) (Jk h rfl)))
theorem EcH{f1}(h:Fx f1)(x1:Int32)(S):f1 (8,0,[V 0,I x1],[],S)=(f1 (19,0,[V 0,I x1],[],S)).bind fun q=>f1 (8,5,[V 0,I x1],q.1.toList++[],q.2):=Ja h 2 rfl<|Jf h rfl rfl
theorem EbY{f1}(h:Fx f1)(x1 y0:Int32)(S):f1 (8,5,[V 0,I x1],[I y0],S)=if y0=0 then some (some (I 0),S) else (f1 (16,0,[V 0,I x1],[],S)).bind fun q=>f1 (8,15,[V 0,I x1],q.1.toList++[],q.2):=Js h rfl (Jc h rfl k_0<|Ji h rfl) (Ja h 2 rfl<|Jf h rfl rfl)
theorem EcQ{f1}(h:Fx f1)(x1 y0:Int32)(S):f1 (8,15,[V 0,I x1],[I y0],S)=some (some (I y0),S):=Ji h rfl
theorem Ecf{f1}(h:Fx f1)(S):f1 (3,0,[V 0],[],S)=some (none,(upd S 0 1 0)):=Ja h 3 rfl<|Jk h rfl
theorem Ebo{f1}(h:Fx f1)(x1:Int32)(S):f1 (62,0,[V 0,I x1],[],S)=(f1 (48,0,[V 0,I 1],[],S)).bind fun q=>f1 (62,19,[V 0,I x1,I (S 19 0),I (S 19 1)],q.1.toList++[],q.2):=Ja h 3 rfl<|Jay h rfl rfl 0<|Ja h 4 rfl<|Jay h rfl rfl 1<|Ja h 3 rfl<|Jf h rfl rfl
theorem Edk{f1}(h:Fx f1)(x1 x2 x3 y0:Int32)(S):f1 (62,19,[V 0,I x1,I x2,I x3],[I y0],S)=if y0<(-1) then some (some (I 0),S) else (f1 (49,0,[V 0],[],S)).bind fun q=>f1 (62,33,[V 0,I x1,I x2,I x3,I y0],q.1.toList++[],q.2):=Ja h 3 rfl<|Jm h rfl (Jc h rfl k_0<|Jl h rfl) (Jd h rfl rfl<|Jf h rfl rfl)
theorem Ec5{f1}(h:Fx f1)(x1 x2 x3 x4:Int32)(S):f1 (62,33,[V 0,I x1,I x2,I x3,I x4],[],S)=(f1 (52,0,[V 0,I x2,I 0],[],S)).bind fun q=>f1 (62,39,[V 0,I x1,I x2,I x3,I x4],q.1.toList++[],q.2):=Ja h 3 rfl<|Jf h rfl rfl
theorem Edn{f1}(h:Fx f1)(x1 x2 x3 x4:Int32)(S):f1 (62,39,[V 0,I x1,I x2,I x3,I x4],[],S)=(f1 (50,0,[V 0,I x4],[],S)).bind fun q=>f1 (62,45,[V 0,I x1,I x2,I x3,I x4],q.1.toList++[],q.2):=Ja h 2 rfl<|Jf h rfl rfl
theorem Eb9{f1}(h:Fx f1)(x1 x2 x3 x4:Int32)(S):f1 (62,45,[V 0,I x1,I x2,I x3,I x4],[],S)=(f1 (52,0,[V 0,I x3,I 1],[],S)).bind fun q=>f1 (62,51,[V 0,I x1,I x2,I x3,I x4],q.1.toList++[],q.2):=Ja h 3 rfl<|Jf h rfl rfl
theorem EdP{f1}(h:Fx f1)(x1 x2 x3 x4:Int32)(S):f1 (62,51,[V 0,I x1,I x2,I x3,I x4],[],S)=if (S 0 8)=0 then if inb x1 64=true then (f1 (53,0,[V 0,I x1],[],(upd S 1 (x1).toNatClampNeg 2))).bind fun q=>f1 (62,70,[V 0,I x1,I x2,I x3,I x4],q.1.toList++[],q.2) else none else if inb x2 64=true then (f1 (53,0,[V 0,I x2],[],(upd S 1 (x2).toNatClampNeg 2))).bind fun q=>f1 (62,99,[V 0,I x1,I x2,I x3,I x4],q.1.toList++[],q.2) else none:=Ja h 2 rfl<|Js h rfl (Ja h 4 rfl<|Jv h rfl rfl fun i0=>Ja h 2 rfl<|Jf h rfl rfl) (Ja h 4 rfl<|Jv h rfl rfl fun i0=>Ja h 2 rfl<|Jf h rfl rfl)
theorem Eek{f1}(h:Fx f1)(x1 x2 x3 x4 y0:Int32)(S):f1 (62,70,[V 0,I x1,I x2,I x3,I x4],[I y0],S)=if y0=0 then some (some (I 0),S) else (f1 (33,0,[V 0,I x2],[],S)).bind fun q=>f1 (62,80,[V 0,I x1,I x2,I x3,I x4],q.1.toList++[],q.2):=Js h rfl (Jc h rfl k_0<|Jl h rfl) (Ja h 2 rfl<|Jf h rfl rfl)
theorem Efc{f1}(h:Fx f1)(x1 x2 x3 x4:Int32)(S):f1 (62,80,[V 0,I x1,I x2,I x3,I x4],[],S)=(f1 (33,0,[V 0,I x3],[],S)).bind fun q=>f1 (62,85,[V 0,I x1,I x2,I x3,I x4],q.1.toList++[],q.2):=Ja h 2 rfl<|Jf h rfl rfl
theorem EcN{f1}(h:Fx f1)(x1 x2 x3 x4:Int32)(S):f1 (62,85,[V 0,I x1,I x2,I x3,I x4],[],S)=some (some (I 1),S):=Jc h rfl k_1<|JC h rfl
theorem Ec9{f1}(h:Fx f1)(x1 x2 x3 x4 y0:Int32)(S):f1 (62,99,[V 0,I x1,I x2,I x3,I x4],[I y0],S)=if y0=0 then some (some (I 0),S) else (f1 (33,0,[V 0,I x3],[],S)).bind fun q=>f1 (62,109,[V 0,I x1,I x2,I x3,I x4],q.1.toList++[],q.2):=Js h rfl (Jc h rfl k_0<|Jl h rfl) (Ja h 2 rfl<|Jf h rfl rfl)
theorem Ebf{f1}(h:Fx f1)(x1 x2 x3 x4:Int32)(S):f1 (62,109,[V 0,I x1,I x2,I x3,I x4],[],S)=(f1 (49,0,[V 0],[],S)).bind fun q=>f1 (62,113,[V 0,I x1,I x2,I x3,I x4],q.1.toList++[],q.2):=Jd h rfl rfl<|Jf h rfl rfl
theorem Efn{f1}(h:Fx f1)(x1 x2 x3 x4:Int32)(S):f1 (62,113,[V 0,I x1,I x2,I x3,I x4],[],S)=(f1 (51,0,[V 0],[],S)).bind fun q=>f1 (62,117,[V 0,I x1,I x2,I x3,I x4],q.1.toList++[],q.2):=Jd h rfl rfl<|Jf h rfl rfl
theorem Ebw{f1}(h:Fx f1)(x1 x2 x3 x4:Int32)(S):f1 (62,117,[V 0,I x1,I x2,I x3,I x4],[],S)=(f1 (50,0,[V 0,I x2],[],S)).bind fun q=>f1 (62,122,[V 0,I x1,I x2,I x3,I x4],q.1.toList++[],q.2):=Ja h 2 rfl<|Jf h rfl rfl
theorem Efg{f1}(h:Fx f1)(x1 x2 x3 x4:Int32)(S):f1 (62,122,[V 0,I x1,I x2,I x3,I x4],[],S)=(f1 (53,0,[V 0,I x1],[],S)).bind fun q=>f1 (62,127,[V 0,I x1,I x2,I x3,I x4],q.1.toList++[],q.2):=Ja h 2 rfl<|Jf h rfl rfl
theorem Eeu{f1}(h:Fx f1)(x1 x2 x3 x4 y0:Int32)(S):f1 (62,127,[V 0,I x1,I x2,I x3,I x4],[I y0],S)=some (some (I (y0&&&1)),S):=J5 h rfl
theorem Ea2{f1 f2 xs}(h:Fy xs f1 f2):f2 (0,0,[V 0],[],(false,[]))=(f2 (1,0,[V 0,I 0],[],(false,[]))).bind fun q=>f2 (0,5,[V 0],q.1.toList++[],q.2):=Ja h 2 rfl<|JE h rfl rfl
theorem EbS{f1 f2 xs}(h:Fy xs f1 f2)(y0:Int32):f2 (0,5,[V 0],[I y0],(false,[]))=(f2 (2,0,[I y0,I 5],[],(false,[]))).bind fun q=>f2 (0,9,[V 0],q.1.toList++[],q.2):=Jc h rfl k_5<|JE h rfl rfl
theorem EeT{f1 f2 xs}(h:Fy xs f1 f2)(y0:Int32):f2 (0,9,[V 0],[I y0],(false,[]))=(f2 (3,0,[I (y0+1)],[],(false,[]))).bind fun q=>f2 (0,16,[V 0,I (y0+1)],q.1.toList++[],q.2):=Ja h 4 rfl<|JE h rfl rfl
theorem EbJ{f1 f2 xs}(h:Fy xs f1 f2)(x1 y0:Int32):f2 (0,16,[V 0,I x1],[I y0],(false,[]))=(f1 (0,222,[V 0,I x1],[],iniS iv1)).bind fun q=>f2 (0,31,[V 0,I x1,I y0,I ((1<<<(x1&&&31))-1)],[V 1],(false,[q.2])):=Ja h 7 rfl<|JX h rfl<|Ja h 2 rfl<|JZ h rfl rfl
theorem Ec0{f1 f2 xs}(h:Fy xs f1 f2)(x1 x2 x3:Int32)(S0):f2 (0,31,[V 0,I x1,I x2,I x3],[V 1],(false,[S0]))=f2 (0,42,[V 0,I x1,I x2,I x3,V 1,N 0,X,N 0,X,I 0],[],(false,[S0])):=Ja h 7 rfl rfl
theorem EX{f1 f2 xs}(h:Fy xs f1 f2)(x1 x2 x3:Int32)(x5 x7:Int64)(x9:Int32)(S0):f2 (0,42,[V 0,I x1,I x2,I x3,V 1,N x5,X,N x7,X,I x9],[],(false,[S0]))=if x9<x2 then if x9<64 then f2 (0,42,[V 0,I x1,I x2,I x3,V 1,N (x5|||(1<<<((x9:Int32).toInt64&&&63))),X,N x7,X,I (x9+1)],[],(false,[S0])) else f2 (0,42,[V 0,I x1,I x2,I x3,V 1,N x5,X,N (x7|||(1<<<(((x9-64):Int32).toInt64&&&63))),X,I (x9+1)],[],(false,[S0])) else f2 (0,99,[V 0,I x1,I x2,I x3,V 1,N x5,X,N x7,X,N x5,X,N x7,X,N 0,X,I 1],[],(false,[S0])):=Ja h 2 rfl<|Jm h rfl (Ja h 2 rfl<|Jm h rfl (Ja h 9 rfl rfl) (Ja h 10 rfl rfl)) (Ja h 8 rfl rfl)
theorem Eeo{f1 f2 xs}(h:Fy xs f1 f2)(x1 x2 x3:Int32)(x5 x7 x9 x11 x13:Int64)(x15:Int32)(S0):f2 (0,99,[V 0,I x1,I x2,I x3,V 1,N x5,X,N x7,X,N x9,X,N x11,X,N x13,X,I x15],[],(false,[S0]))=f2 (0,105,[V 0,I x1,I x2,I x3,V 1,N x5,X,N x7,X,N x9,X,N x11,X,N x13,X,I x15,I 0,I 0],[],(false,[S0])):=Ja h 4 rfl rfl
theorem Ex{f1 f2 xs}(h:Fy xs f1 f2)(x1 x2 x3:Int32)(x5 x7 x9 x11 x13:Int64)(x15 x16 x17:Int32)(S0):f2 (0,105,[V 0,I x1,I x2,I x3,V 1,N x5,X,N x7,X,N x9,X,N x11,X,N x13,X,I x15,I x16,I x17],[],(false,[S0]))=if x17<x2 then (f2 (4,0,[N x5,X,N x7,X,I x17],[],(false,[S0]))).bind fun q=>f2 (0,120,[V 0,I x1,I x2,I x3,V 1,N x5,X,N x7,X,N x9,X,N x11,X,N x13,X,I x15,I x16,I x17],q.1.toList++[],q.2) else (f1 (10,0,[V 0],[],S0)).bind fun q=>f2 (0,137,[V 0,I x1,I x2,I x3,V 1,N x5,X,N x7,X,N x9,X,N x11,X,N x13,X,I x15,I x16,I x17],q.1.toList++[],(false,[q.2])):=Ja h 2 rfl<|Jm h rfl (Ja h 3 rfl<|JE h rfl rfl) (Jd h rfl rfl<|Jq h 0 rfl rfl rfl)
theorem EbZ{f1 f2 xs}(h:Fy xs f1 f2)(x1 x2 x3:Int32)(x5 x7 x9 x11 x13:Int64)(x15 x16 x17 y0:Int32)(S0):f2 (0,120,[V 0,I x1,I x2,I x3,V 1,N x5,X,N x7,X,N x9,X,N x11,X,N x13,X,I x15,I x16,I x17],[I y0],(false,[S0]))=if y0=0 then f2 (0,105,[V 0,I x1,I x2,I x3,V 1,N x5,X,N x7,X,N x9,X,N x11,X,N x13,X,I x15,I x16,I (x17+1)],[],(false,[S0])) else f2 (0,105,[V 0,I x1,I x2,I x3,V 1,N x5,X,N x7,X,N x9,X,N x11,X,N x13,X,I x15,I (x16+1),I (x17+1)],[],(false,[S0])):=Jy h rfl (Ja h 2 rfl rfl) (Ja h 3 rfl rfl)
theorem Edc{f1 f2 xs}(h:Fy xs f1 f2)(x1 x2 x3:Int32)(x5 x7 x9 x11 x13:Int64)(x15 x16 x17 y0:Int32)(S0):f2 (0,137,[V 0,I x1,I x2,I x3,V 1,N x5,X,N x7,X,N x9,X,N x11,X,N x13,X,I x15,I x16,I x17],[I y0],(false,[S0]))=if y0=x16 then if x16<1 then some (some (I 0),(false,[S0])) else f2 (0,159,[V 0,I x1,I x2,I x3,V 1,N x5,X,N x7,X,N x9,X,N x11,X,N x13,X,I x15,I x16,I 0,I 0,I 0],[],(false,[S0])) else some (some (I 0),(false,[S0])):=Jb h rfl rfl<|Jp h rfl (Ja h 2 rfl<|Jm h rfl (Jc h rfl k_0<|Jl h rfl) (Ja h 6 rfl rfl)) (Jc h rfl k_0<|Jl h rfl)
theorem ER{f1 f2 xs}(h:Fy xs f1 f2)(x1 x2 x3:Int32)(x5 x7 x9 x11 x13:Int64)(x15 x16 x17 x18 x19:Int32)(S0):f2 (0,159,[V 0,I x1,I x2,I x3,V 1,N x5,X,N x7,X,N x9,X,N x11,X,N x13,X,I x15,I x16,I x17,I x18,I x19],[],(false,[S0]))=if x19<x1 then (f1 (11,0,[V 0,I x19],[],S0)).bind fun q=>f2 (0,172,[V 0,I x1,I x2,I x3,V 1,N x5,X,N x7,X,N x9,X,N x11,X,N x13,X,I x15,I x16,I x17,I x18,I x19],q.1.toList++[],(false,[q.2])) else f2 (0,241,[V 0,I x1,I x2,I x3,V 1,N x5,X,N x7,X,N x9,X,N x11,X,N x13,X,I x15,I x16,I x17,I x18,I 0],[],(false,[S0])):=Ja h 2 rfl<|Jm h rfl (Ja h 2 rfl<|Jq h 0 rfl rfl rfl) (Ja h 2 rfl rfl)
theorem EeQ{f1 f2 xs}(h:Fy xs f1 f2)(x1 x2 x3:Int32)(x5 x7 x9 x11 x13:Int64)(x15 x16 x17 x18 x19 y0:Int32)(S0):f2 (0,172,[V 0,I x1,I x2,I x3,V 1,N x5,X,N x7,X,N x9,X,N x11,X,N x13,X,I x15,I x16,I x17,I x18,I x19],[I y0],(false,[S0]))=if y0<0 then some (some (I 0),(false,[S0])) else if y0<x1 then if ((x17>>>(y0&&&31))&&&1)=0 then (f1 (12,0,[V 0,I y0],[],S0)).bind fun q=>f2 (0,225,[V 0,I x1,I x2,I x3,V 1,N x5,X,N x7,X,N x9,X,N x11,X,N x13,X,I x15,I x16,I (x17|||(1<<<(y0&&&31))),I (x18|||(y0<<<((3*x19)&&&31))),I x19,I y0],q.1.toList++[],(false,[q.2])) else some (some (I 0),(false,[S0])) else some (some (I 0),(false,[S0])):=Ja h 2 rfl<|JB h rfl (Jc h rfl k_0<|Jl h rfl) (Ja h 2 rfl<|Jm h rfl (Ja h 5 rfl<|Jy h rfl (Ja h 16 rfl<|Jq h 0 rfl rfl rfl) (Jc h rfl k_0<|Jl h rfl)) (Jc h rfl k_0<|Jl h rfl))
theorem Ee6{f1 f2 xs}(h:Fy xs f1 f2)(x1 x2 x3:Int32)(x5 x7 x9 x11 x13:Int64)(x15 x16 x17 x18 x19 x20 y0:Int32)(S0):f2 (0,225,[V 0,I x1,I x2,I x3,V 1,N x5,X,N x7,X,N x9,X,N x11,X,N x13,X,I x15,I x16,I x17,I x18,I x19,I x20],[I y0],(false,[S0]))=if y0=x19 then f2 (0,159,[V 0,I x1,I x2,I x3,V 1,N x5,X,N x7,X,N x9,X,N x11,X,N x13,X,I x15,I x16,I x17,I x18,I (x19+1)],[],(false,[S0])) else some (some (I 0),(false,[S0])):=Jb h rfl rfl<|JA h rfl (Ja h 2 rfl<|Jr h rfl rfl) (Jc h rfl k_0<|Jl h rfl)
theorem EB{f1 f2 xs}(h:Fy xs f1 f2)(x1 x2 x3:Int32)(x5 x7 x9 x11 x13:Int64)(x15 x16 x17 x18 x19:Int32)(S0):f2 (0,241,[V 0,I x1,I x2,I x3,V 1,N x5,X,N x7,X,N x9,X,N x11,X,N x13,X,I x15,I x16,I x17,I x18,I x19],[],(false,[S0]))=if x3<x19 then f2 (0,284,[V 0,I x1,I x2,I x3,V 1,N x5,X,N x7,X,N x9,X,N x11,X,N x13,X,I x15,I x16,I x17,I x18,N 0,X,I 0],[],(false,[S0])) else if (XT.cmpL ((XT.ushrL x13 x19)&&&1) 0)=0 then f2 (0,241,[V 0,I x1,I x2,I x3,V 1,N x5,X,N x7,X,N x9,X,N x11,X,N x13,X,I x15,I x16,I x17,I x18,I (x19+1)],[],(false,[S0])) else (f2 (6,0,[I x18,I x19,I x1],[],(false,[S0]))).bind fun q=>f2 (0,267,[V 0,I x1,I x2,I x3,V 1,N x5,X,N x7,X,N x9,X,N x11,X,N x13,X,I x15,I x16,I x17,I x18,I x19],q.1.toList++[],q.2):=Ja h 2 rfl<|JT h rfl (Ja h 4 rfl rfl) (Ja h 7 rfl<|Jy h rfl (Ja h 2 rfl rfl) (Ja h 3 rfl<|JE h rfl rfl))
theorem EeF{f1 f2 xs}(h:Fy xs f1 f2)(x1 x2 x3:Int32)(x5 x7 x9 x11 x13:Int64)(x15 x16 x17 x18 x19 y0:Int32)(S0):f2 (0,267,[V 0,I x1,I x2,I x3,V 1,N x5,X,N x7,X,N x9,X,N x11,X,N x13,X,I x15,I x16,I x17,I x18,I x19],[I y0],(false,[S0]))=if y0=0 then some (some (I 0),(false,[S0])) else f2 (0,241,[V 0,I x1,I x2,I x3,V 1,N x5,X,N x7,X,N x9,X,N x11,X,N x13,X,I x15,I x16,I x17,I x18,I (x19+1)],[],(false,[S0])):=Js h rfl (Jc h rfl k_0<|Jl h rfl) (Ja h 2 rfl rfl)
theorem Es{f1 f2 xs}(h:Fy xs f1 f2)(x1 x2 x3:Int32)(x5 x7 x9 x11 x13:Int64)(x15 x16 x17 x18:Int32)(x19:Int64)(x21:Int32)(S0):f2 (0,284,[V 0,I x1,I x2,I x3,V 1,N x5,X,N x7,X,N x9,X,N x11,X,N x13,X,I x15,I x16,I x17,I x18,N x19,X,I x21],[],(false,[S0]))=if x21<x2 then (f2 (4,0,[N x5,X,N x7,X,I x21],[],(false,[S0]))).bind fun q=>f2 (0,299,[V 0,I x1,I x2,I x3,V 1,N x5,X,N x7,X,N x9,X,N x11,X,N x13,X,I x15,I x16,I x17,I x18,N x19,X,I x21],q.1.toList++[],q.2) else f2 (0,357,[V 0,I x1,I x2,I x3,V 1,N x5,X,N x7,X,N x9,X,N x11,X,N x13,X,I x15,I x16,I x17,I x18,N x19,X,N 0,X,I 0],[],(false,[S0])):=Ja h 2 rfl<|Jm h rfl (Ja h 3 rfl<|JE h rfl rfl) (Ja h 4 rfl rfl)
theorem EaH{f1 f2 xs}(h:Fy xs f1 f2)(x1 x2 x3:Int32)(x5 x7 x9 x11 x13:Int64)(x15 x16 x17 x18:Int32)(x19:Int64)(x21 y0:Int32)(S0):f2 (0,299,[V 0,I x1,I x2,I x3,V 1,N x5,X,N x7,X,N x9,X,N x11,X,N x13,X,I x15,I x16,I x17,I x18,N x19,X,I x21],[I y0],(false,[S0]))=if y0=0 then f2 (0,284,[V 0,I x1,I x2,I x3,V 1,N x5,X,N x7,X,N x9,X,N x11,X,N x13,X,I x15,I x16,I x17,I x18,N x19,X,I (x21+1)],[],(false,[S0])) else (f2 (5,0,[I x21,I x1],[],(false,[S0]))).bind fun q=>f2 (0,308,[V 0,I x1,I x2,I x3,V 1,N x5,X,N x7,X,N x9,X,N x11,X,N x13,X,I x15,I x16,I x17,I x18,N x19,X,I x21],q.1.toList++[],q.2):=Jy h rfl (Ja h 2 rfl rfl) (Ja h 2 rfl<|JE h rfl rfl)
theorem EeX{f1 f2 xs}(h:Fy xs f1 f2)(x1 x2 x3:Int32)(x5 x7 x9 x11 x13:Int64)(x15 x16 x17 x18:Int32)(x19:Int64)(x21 y0:Int32)(S0):f2 (0,308,[V 0,I x1,I x2,I x3,V 1,N x5,X,N x7,X,N x9,X,N x11,X,N x13,X,I x15,I x16,I x17,I x18,N x19,X,I x21],[I y0],(false,[S0]))=f2 (0,313,[V 0,I x1,I x2,I x3,V 1,N x5,X,N x7,X,N x9,X,N x11,X,N x13,X,I x15,I x16,I x17,I x18,N x19,X,I x21,I y0,I 0],[],(false,[S0])):=Ja h 3 rfl rfl
theorem Et{f1 f2 xs}(h:Fy xs f1 f2)(x1 x2 x3:Int32)(x5 x7 x9 x11 x13:Int64)(x15 x16 x17 x18:Int32)(x19:Int64)(x21 x22 x23:Int32)(S0):f2 (0,313,[V 0,I x1,I x2,I x3,V 1,N x5,X,N x7,X,N x9,X,N x11,X,N x13,X,I x15,I x16,I x17,I x18,N x19,X,I x21,I x22,I x23],[],(false,[S0]))=if x3<x23 then f2 (0,284,[V 0,I x1,I x2,I x3,V 1,N x5,X,N x7,X,N x9,X,N x11,X,N x13,X,I x15,I x16,I x17,I x18,N x19,X,I (x21+1)],[],(false,[S0])) else (f2 (6,0,[I x22,I x23,I x1],[],(false,[S0]))).bind fun q=>f2 (0,327,[V 0,I x1,I x2,I x3,V 1,N x5,X,N x7,X,N x9,X,N x11,X,N x13,X,I x15,I x16,I x17,I x18,N x19,X,I x21,I x22,I x23],q.1.toList++[],q.2):=Ja h 2 rfl<|JT h rfl (Ja h 2 rfl rfl) (Ja h 3 rfl<|JE h rfl rfl)
theorem Eam{f1 f2 xs}(h:Fy xs f1 f2)(x1 x2 x3:Int32)(x5 x7 x9 x11 x13:Int64)(x15 x16 x17 x18:Int32)(x19:Int64)(x21 x22 x23 y0:Int32)(S0):f2 (0,327,[V 0,I x1,I x2,I x3,V 1,N x5,X,N x7,X,N x9,X,N x11,X,N x13,X,I x15,I x16,I x17,I x18,N x19,X,I x21,I x22,I x23],[I y0],(false,[S0]))=if y0=0 then f2 (0,313,[V 0,I x1,I x2,I x3,V 1,N x5,X,N x7,X,N x9,X,N x11,X,N x13,X,I x15,I x16,I x17,I x18,N x19,X,I x21,I x22,I (x23+1)],[],(false,[S0])) else f2 (0,313,[V 0,I x1,I x2,I x3,V 1,N x5,X,N x7,X,N x9,X,N x11,X,N x13,X,I x15,I x16,I x17,I x18,N (x19|||(1<<<((x23:Int32).toInt64&&&63))),X,I x21,I x22,I (x23+1)],[],(false,[S0])):=Jy h rfl (Ja h 2 rfl rfl) (Ja h 8 rfl rfl)
theorem Ee{f1 f2 xs}(h:Fy xs f1 f2)(x1 x2 x3:Int32)(x5 x7 x9 x11 x13:Int64)(x15 x16 x17 x18:Int32)(x19 x21:Int64)(x23:Int32)(S0):f2 (0,357,[V 0,I x1,I x2,I x3,V 1,N x5,X,N x7,X,N x9,X,N x11,X,N x13,X,I x15,I x16,I x17,I x18,N x19,X,N x21,X,I x23],[],(false,[S0]))=if x3<x23 then if x15<(O xs.length) then (f2 (1,0,[V 0,I x15],[],(false,[S0]))).bind fun q=>f2 (0,454,[V 0,I x1,I x2,I x3,V 1,N x5,X,N x7,X,N x9,X,N x11,X,N x13,X,I x15,I x16,I x17,I x18,N x19,X,N x21,X,I x23],q.1.toList++[],q.2) else some (some (I 1),(false,[S0])) else (f1 (9,0,[V 0,I x23],[],S0)).bind fun q=>f2 (0,370,[V 0,I x1,I x2,I x3,V 1,N x5,X,N x7,X,N x9,X,N x11,X,N x13,X,I x15,I x16,I x17,I x18,N x19,X,N x21,X,I x23],q.1.toList++[],(false,[q.2])):=Ja h 2 rfl<|JT h rfl (Ja h 3 rfl<|JJ h rfl (Ja h 2 rfl<|JE h rfl rfl) (Ja h 2 rfl<|JC h rfl)) (Ja h 2 rfl<|Jq h 0 rfl rfl rfl)
theorem Eel{f1 f2 xs}(h:Fy xs f1 f2)(x1 x2 x3:Int32)(x5 x7 x9 x11 x13:Int64)(x15 x16 x17 x18:Int32)(x19 x21:Int64)(x23 y0:Int32)(S0):f2 (0,370,[V 0,I x1,I x2,I x3,V 1,N x5,X,N x7,X,N x9,X,N x11,X,N x13,X,I x15,I x16,I x17,I x18,N x19,X,N x21,X,I x23],[I y0],(false,[S0]))=if y0<1 then some (some (I 0),(false,[S0])) else if 3<y0 then some (some (I 0),(false,[S0])) else if y0=3 then f2 (0,397,[V 0,I x1,I x2,I x3,V 1,N x5,X,N x7,X,N x9,X,N x11,X,N x13,X,I x15,I x16,I x17,I x18,N x19,X,N x21,X,I x23,I y0],[I 1],(false,[S0])) else f2 (0,397,[V 0,I x1,I x2,I x3,V 1,N x5,X,N x7,X,N x9,X,N x11,X,N x13,X,I x15,I x16,I x17,I x18,N x19,X,N x21,X,I x23,I y0],[I 0],(false,[S0])):=Ja h 3 rfl<|JJ h rfl (Jc h rfl k_0<|Jl h rfl) (Ja h 2 rfl<|JO h rfl (Jc h rfl k_0<|Jl h rfl) (Ja h 2 rfl<|Jp h rfl (Ja h 2 rfl rfl) (Jc h rfl k_0 rfl)))
theorem EQ{f1 f2 xs}(h:Fy xs f1 f2)(x1 x2 x3:Int32)(x5 x7 x9 x11 x13:Int64)(x15 x16 x17 x18:Int32)(x19 x21:Int64)(x23 x24 y0:Int32)(S0):f2 (0,397,[V 0,I x1,I x2,I x3,V 1,N x5,X,N x7,X,N x9,X,N x11,X,N x13,X,I x15,I x16,I x17,I x18,N x19,X,N x21,X,I x23,I x24],[I y0],(false,[S0]))=if (XT.cmpL ((XT.ushrL x19 x23)&&&1) 0)=0 then f2 (0,414,[V 0,I x1,I x2,I x3,V 1,N x5,X,N x7,X,N x9,X,N x11,X,N x13,X,I x15,I x16,I x17,I x18,N x19,X,N x21,X,I x23,I x24],[I 1,I y0],(false,[S0])) else f2 (0,414,[V 0,I x1,I x2,I x3,V 1,N x5,X,N x7,X,N x9,X,N x11,X,N x13,X,I x15,I x16,I x17,I x18,N x19,X,N x21,X,I x23,I x24],[I 0,I y0],(false,[S0])):=Ja h 7 rfl<|Js h rfl (Ja h 2 rfl rfl) (Jc h rfl k_0 rfl)
theorem Ev{f1 f2 xs}(h:Fy xs f1 f2)(x1 x2 x3:Int32)(x5 x7 x9 x11 x13:Int64)(x15 x16 x17 x18:Int32)(x19 x21:Int64)(x23 x24 y0 y1:Int32)(S0):f2 (0,414,[V 0,I x1,I x2,I x3,V 1,N x5,X,N x7,X,N x9,X,N x11,X,N x13,X,I x15,I x16,I x17,I x18,N x19,X,N x21,X,I x23,I x24],[I y0,I y1],(false,[S0]))=if y1=y0 then f2 (0,357,[V 0,I x1,I x2,I x3,V 1,N x5,X,N x7,X,N x9,X,N x11,X,N x13,X,I x15,I x16,I x17,I x18,N x19,X,N (x21|||((x24).toInt64<<<(((2*x23):Int32).toInt64&&&63))),X,I (x23+1)],[],(false,[S0])) else some (some (I 0),(false,[S0])):=JA h rfl (Ja h 11 rfl<|Jr h rfl rfl) (Jc h rfl k_0<|Jl h rfl)
theorem Eb0{f1 f2 xs}(h:Fy xs f1 f2)(x1 x2 x3:Int32)(x5 x7 x9 x11 x13:Int64)(x15 x16 x17 x18:Int32)(x19 x21:Int64)(x23 y0:Int32)(S0):f2 (0,454,[V 0,I x1,I x2,I x3,V 1,N x5,X,N x7,X,N x9,X,N x11,X,N x13,X,I x15,I x16,I x17,I x18,N x19,X,N x21,X,I x23],[I y0],(false,[S0]))=(f2 (2,0,[I y0,I 8],[],(false,[S0]))).bind fun q=>f2 (0,459,[V 0,I x1,I x2,I x3,V 1,N x5,X,N x7,X,N x9,X,N x11,X,N x13,X,I x15,I x16,I x17,I x18,N x19,X,N x21,X,I x23],q.1.toList++[],q.2):=Jc h rfl k_8<|JE h rfl rfl
theorem EcS{f1 f2 xs}(h:Fy xs f1 f2)(x1 x2 x3:Int32)(x5 x7 x9 x11 x13:Int64)(x15 x16 x17 x18:Int32)(x19 x21:Int64)(x23 y0:Int32)(S0):f2 (0,459,[V 0,I x1,I x2,I x3,V 1,N x5,X,N x7,X,N x9,X,N x11,X,N x13,X,I x15,I x16,I x17,I x18,N x19,X,N x21,X,I x23],[I y0],(false,[S0]))=(f2 (1,0,[V 0,I (x15+1)],[],(false,[S0]))).bind fun q=>f2 (0,469,[V 0,I x1,I x2,I x3,V 1,N x5,X,N x7,X,N x9,X,N x11,X,N x13,X,I x15,I x16,I x17,I x18,N x19,X,N x21,X,I y0],q.1.toList++[],q.2):=Ja h 5 rfl<|JE h rfl rfl
theorem EeJ{f1 f2 xs}(h:Fy xs f1 f2)(x1 x2 x3:Int32)(x5 x7 x9 x11 x13:Int64)(x15 x16 x17 x18:Int32)(x19 x21:Int64)(x23 y0:Int32)(S0):f2 (0,469,[V 0,I x1,I x2,I x3,V 1,N x5,X,N x7,X,N x9,X,N x11,X,N x13,X,I x15,I x16,I x17,I x18,N x19,X,N x21,X,I x23],[I y0],(false,[S0]))=if 1<x23 then if x23=2 then (f2 (2,0,[I y0,I (x1+2)],[],(false,[S0]))).bind fun q=>f2 (0,515,[V 0,I x1,I x2,I x3,V 1,N x5,X,N x7,X,N x9,X,N x11,X,N x13,X,I (x15+2),I x16,I x17,I x18,N x19,X,N x21,X,I x23,I y0],q.1.toList++[V 1],q.2) else if x23=6 then (f1 (3,0,[V 0],[],S0)).bind fun q=>f2 (0,536,[V 0,I x1,I x2,I x3,V 1,N x5,X,N x7,X,N x9,X,N x11,X,N x13,X,I (x15+2),I x16,I x17,I x18,N x19,X,N x21,X,I x23,I y0],q.1.toList++[],(false,[q.2])) else if x23=7 then (f2 (2,0,[I y0,I 4],[],(false,[S0]))).bind fun q=>f2 (0,552,[V 0,I x1,I x2,I x3,V 1,N x5,X,N x7,X,N x9,X,N x11,X,N x13,X,I (x15+2),I x16,I x17,I x18,N x19,X,N x21,X,I x23,I y0],q.1.toList++[],q.2) else (f1 (10,0,[V 0],[],S0)).bind fun q=>f2 (0,579,[V 0,I x1,I x2,I x3,V 1,N x5,X,N x7,X,N x9,X,N x11,X,N x13,X,I (x15+2),I x16,I x17,I x18,N x19,X,N x21,X,I x23,I y0],q.1.toList++[],(false,[q.2])) else (f2 (2,0,[I y0,I (x1+2)],[],(false,[S0]))).bind fun q=>f2 (0,490,[V 0,I x1,I x2,I x3,V 1,N x5,X,N x7,X,N x9,X,N x11,X,N x13,X,I (x15+2),I x16,I x17,I x18,N x19,X,N x21,X,I x23,I y0],q.1.toList++[V 1],q.2):=Ja h 4 rfl<|JT h rfl (Ja h 2 rfl<|Jp h rfl (Ja h 5 rfl<|JE h rfl rfl) (Ja h 2 rfl<|Jp h rfl (Jd h rfl rfl<|Jq h 0 rfl rfl rfl) (Ja h 2 rfl<|Jp h rfl (Ja h 2 rfl<|JE h rfl rfl) (Jd h rfl rfl<|Jq h 0 rfl rfl rfl)))) (Ja h 5 rfl<|JE h rfl rfl)
theorem EeZ{f1 f2 xs}(h:Fy xs f1 f2)(x1 x2 x3:Int32)(x5 x7 x9 x11 x13:Int64)(x15 x16 x17 x18:Int32)(x19 x21:Int64)(x23 x24 y0:Int32)(S0):f2 (0,490,[V 0,I x1,I x2,I x3,V 1,N x5,X,N x7,X,N x9,X,N x11,X,N x13,X,I x15,I x16,I x17,I x18,N x19,X,N x21,X,I x23,I x24],[I y0,V 1],(false,[S0]))=(f1 (4,0,[V 0,I (y0-1)],[],S0)).bind fun q=>f2 (0,495,[V 0,I x1,I x2,I x3,V 1,N x5,X,N x7,X,N x9,X,N x11,X,N x13,X,I x15,I x16,I x17,I x18,N x19,X,N x21,X,I x23,I x24],q.1.toList++[],(false,[q.2])):=Ja h 2 rfl<|Jq h 0 rfl rfl rfl
theorem EcY{f1 f2 xs}(h:Fy xs f1 f2)(x1 x2 x3:Int32)(x5 x7 x9 x11 x13:Int64)(x15 x16 x17 x18:Int32)(x19 x21:Int64)(x23 x24 y0:Int32)(S0):f2 (0,495,[V 0,I x1,I x2,I x3,V 1,N x5,X,N x7,X,N x9,X,N x11,X,N x13,X,I x15,I x16,I x17,I x18,N x19,X,N x21,X,I x23,I x24],[I y0],(false,[S0]))=f2 (0,99,[V 0,I x1,I x2,I x3,V 1,N x5,X,N x7,X,N x9,X,N x11,X,N x13,X,I x15],[],(false,[S0])):=Ja h 3 rfl<|Jr h rfl rfl
theorem EcW{f1 f2 xs}(h:Fy xs f1 f2)(x1 x2 x3:Int32)(x5 x7 x9 x11 x13:Int64)(x15 x16 x17 x18:Int32)(x19 x21:Int64)(x23 x24 y0:Int32)(S0):f2 (0,515,[V 0,I x1,I x2,I x3,V 1,N x5,X,N x7,X,N x9,X,N x11,X,N x13,X,I x15,I x16,I x17,I x18,N x19,X,N x21,X,I x23,I x24],[I y0,V 1],(false,[S0]))=(f1 (5,0,[V 0,I (y0-1)],[],S0)).bind fun q=>f2 (0,520,[V 0,I x1,I x2,I x3,V 1,N x5,X,N x7,X,N x9,X,N x11,X,N x13,X,I x15,I x16,I x17,I x18,N x19,X,N x21,X,I x23,I x24],q.1.toList++[],(false,[q.2])):=Ja h 2 rfl<|Jq h 0 rfl rfl rfl
theorem Een{f1 f2 xs}(h:Fy xs f1 f2)(x1 x2 x3:Int32)(x5 x7 x9 x11 x13:Int64)(x15 x16 x17 x18:Int32)(x19 x21:Int64)(x23 x24 y0:Int32)(S0):f2 (0,520,[V 0,I x1,I x2,I x3,V 1,N x5,X,N x7,X,N x9,X,N x11,X,N x13,X,I x15,I x16,I x17,I x18,N x19,X,N x21,X,I x23,I x24],[I y0],(false,[S0]))=f2 (0,99,[V 0,I x1,I x2,I x3,V 1,N x5,X,N x7,X,N x9,X,N x11,X,N x13,X,I x15],[],(false,[S0])):=Ja h 3 rfl<|Jr h rfl rfl
theorem Ecw{f1 f2 xs}(h:Fy xs f1 f2)(x1 x2 x3:Int32)(x5 x7 x9 x11 x13:Int64)(x15 x16 x17 x18:Int32)(x19 x21:Int64)(x23 x24:Int32)(S0):f2 (0,536,[V 0,I x1,I x2,I x3,V 1,N x5,X,N x7,X,N x9,X,N x11,X,N x13,X,I x15,I x16,I x17,I x18,N x19,X,N x21,X,I x23,I x24],[],(false,[S0]))=f2 (0,99,[V 0,I x1,I x2,I x3,V 1,N x5,X,N x7,X,N x9,X,N x11,X,N x13,X,I x15],[],(false,[S0])):=Ja h 2 rfl<|Jr h rfl rfl
theorem EcA{f1 f2 xs}(h:Fy xs f1 f2)(x1 x2 x3:Int32)(x5 x7 x9 x11 x13:Int64)(x15 x16 x17 x18:Int32)(x19 x21:Int64)(x23 x24 y0:Int32)(S0):f2 (0,552,[V 0,I x1,I x2,I x3,V 1,N x5,X,N x7,X,N x9,X,N x11,X,N x13,X,I x15,I x16,I x17,I x18,N x19,X,N x21,X,I x23,I x24],[I y0],(false,[S0]))=if y0=0 then (f1 (2,0,[V 0],[],S0)).bind fun q=>f2 (0,560,[V 0,I x1,I x2,I x3,V 1,N x5,X,N x7,X,N x9,X,N x11,X,N x13,X,I x15,I x16,I x17,I x18,N x19,X,N x21,X,I x23,I x24],q.1.toList++[],(false,[q.2])) else f2 (0,99,[V 0,I x1,I x2,I x3,V 1,N x5,X,N x7,X,N x9,X,N x11,X,N x13,X,I x15],[],(false,[S0])):=Js h rfl (Jd h rfl rfl<|Jq h 0 rfl rfl rfl) (Jh h rfl<|Jr h rfl rfl)
theorem EbF{f1 f2 xs}(h:Fy xs f1 f2)(x1 x2 x3:Int32)(x5 x7 x9 x11 x13:Int64)(x15 x16 x17 x18:Int32)(x19 x21:Int64)(x23 x24:Int32)(S0):f2 (0,560,[V 0,I x1,I x2,I x3,V 1,N x5,X,N x7,X,N x9,X,N x11,X,N x13,X,I x15,I x16,I x17,I x18,N x19,X,N x21,X,I x23,I x24],[],(false,[S0]))=f2 (0,99,[V 0,I x1,I x2,I x3,V 1,N x9,X,N x11,X,N x9,X,N x11,X,N 0,X,I x15],[],(false,[S0])):=Ja h 8 rfl<|Jr h rfl rfl
theorem EdF{f1 f2 xs}(h:Fy xs f1 f2)(x1 x2 x3:Int32)(x5 x7 x9 x11 x13:Int64)(x15 x16 x17 x18:Int32)(x19 x21:Int64)(x23 x24 y0:Int32)(S0):f2 (0,579,[V 0,I x1,I x2,I x3,V 1,N x5,X,N x7,X,N x9,X,N x11,X,N x13,X,I x15,I x16,I x17,I x18,N x19,X,N x21,X,I x23,I x24],[I y0],(false,[S0]))=(f1 (13,0,[V 0],[],S0)).bind fun q=>f2 (0,586,[V 0,I x1,I x2,I x3,V 1,N x5,X,N x7,X,N x9,X,N x11,X,N x13,X,I x15,I x16,I x17,I x18,N x19,X,N x21,X,I x23,I x24,I y0],q.1.toList++[],(false,[q.2])):=Ja h 2 rfl<|Jq h 0 rfl rfl rfl
theorem Eck{f1 f2 xs}(h:Fy xs f1 f2)(x1 x2 x3:Int32)(x5 x7 x9 x11 x13:Int64)(x15 x16 x17 x18:Int32)(x19 x21:Int64)(x23 x24 x25 y0:Int32)(S0):f2 (0,586,[V 0,I x1,I x2,I x3,V 1,N x5,X,N x7,X,N x9,X,N x11,X,N x13,X,I x15,I x16,I x17,I x18,N x19,X,N x21,X,I x23,I x24,I x25],[I y0],(false,[S0]))=if x23=3 then (f1 (6,0,[V 0],[],S0)).bind fun q=>f2 (0,599,[V 0,I x1,I x2,I x3,V 1,N x5,X,N x7,X,N x9,X,N x11,X,N x13,X,I x15,I x16,I x17,I x18,N x19,X,N x21,X,I x23,I x24,I x25,I y0],q.1.toList++[],(false,[q.2])) else if x24<0 then (f1 (8,0,[V 0,I x24],[],S0)).bind fun q=>f2 (0,635,[V 0,I x1,I x2,I x3,V 1,N x5,X,N x7,X,N x9,X,N x11,X,N x13,X,I x15,I x16,I x17,I x18,N x19,X,N x21,X,I x23,I x24,I x25,I y0,I x24],q.1.toList++[],(false,[q.2])) else (f1 (8,0,[V 0,I (x24&&&63)],[],S0)).bind fun q=>f2 (0,635,[V 0,I x1,I x2,I x3,V 1,N x5,X,N x7,X,N x9,X,N x11,X,N x13,X,I x15,I x16,I x17,I x18,N x19,X,N x21,X,I x23,I x24,I x25,I y0,I (x24&&&63)],q.1.toList++[],(false,[q.2])):=Ja h 3 rfl<|Jp h rfl (Jd h rfl rfl<|Jq h 0 rfl rfl rfl) (Jb h rfl rfl<|JP h rfl (Ja h 5 rfl<|Jq h 0 rfl rfl rfl) (Ja h 6 rfl<|Jq h 0 rfl rfl rfl))
theorem Ed7{f1 f2 xs}(h:Fy xs f1 f2)(x1 x2 x3:Int32)(x5 x7 x9 x11 x13:Int64)(x15 x16 x17 x18:Int32)(x19 x21:Int64)(x23 x24 x25 x26 y0:Int32)(S0):f2 (0,599,[V 0,I x1,I x2,I x3,V 1,N x5,X,N x7,X,N x9,X,N x11,X,N x13,X,I x15,I x16,I x17,I x18,N x19,X,N x21,X,I x23,I x24,I x25,I x26],[I y0],(false,[S0]))=(f1 (7,0,[V 0],[],S0)).bind fun q=>f2 (0,606,[V 0,I x1,I x2,I x3,V 1,N x5,X,N x7,X,N x9,X,N x11,X,N x13,X,I x15,I x16,I x17,I x18,N x19,X,N x21,X,I x23,I x24,I x25,I x26,I y0],q.1.toList++[],(false,[q.2])):=Ja h 2 rfl<|Jq h 0 rfl rfl rfl
theorem Eb2{f1 f2 xs}(h:Fy xs f1 f2)(x1 x2 x3:Int32)(x5 x7 x9 x11 x13:Int64)(x15 x16 x17 x18:Int32)(x19 x21:Int64)(x23 x24 x25 x26 x27 y0:Int32)(S0):f2 (0,606,[V 0,I x1,I x2,I x3,V 1,N x5,X,N x7,X,N x9,X,N x11,X,N x13,X,I x15,I x16,I x17,I x18,N x19,X,N x21,X,I x23,I x24,I x25,I x26,I x27],[I y0],(false,[S0]))=f2 (0,637,[V 0,I x1,I x2,I x3,V 1,N x5,X,N x7,X,N x9,X,N x11,X,N x13,X,I x15,I x16,I x17,I x18,N x19,X,N x21,X,I x23,I x24,I x25,I x26,I x27,I y0],[],(false,[S0])):=Ja h 2 rfl rfl
theorem Eei{f1 f2 xs}(h:Fy xs f1 f2)(x1 x2 x3:Int32)(x5 x7 x9 x11 x13:Int64)(x15 x16 x17 x18:Int32)(x19 x21:Int64)(x23 x24 x25 x26 x27 y0:Int32)(S0):f2 (0,635,[V 0,I x1,I x2,I x3,V 1,N x5,X,N x7,X,N x9,X,N x11,X,N x13,X,I x15,I x16,I x17,I x18,N x19,X,N x21,X,I x23,I x24,I x25,I x26,I x27],[I y0],(false,[S0]))=f2 (0,637,[V 0,I x1,I x2,I x3,V 1,N x5,X,N x7,X,N x9,X,N x11,X,N x13,X,I x15,I x16,I x17,I x18,N x19,X,N x21,X,I x23,I x24,I x25,I x26,I x27,I y0],[],(false,[S0])):=Je h rfl [V 0,I x1,I x2,I x3,V 1,N x5,X,N x7,X,N x9,X,N x11,X,N x13,X,I x15,I x16,I x17,I x18,N x19,X,N x21,X,I x23,I x24,I x25,I x26,I x27,I y0] rfl
theorem Eeh{f1 f2 xs}(h:Fy xs f1 f2)(x1 x2 x3:Int32)(x5 x7 x9 x11 x13:Int64)(x15 x16 x17 x18:Int32)(x19 x21:Int64)(x23 x24 x25 x26 x27 x28:Int32)(S0):f2 (0,637,[V 0,I x1,I x2,I x3,V 1,N x5,X,N x7,X,N x9,X,N x11,X,N x13,X,I x15,I x16,I x17,I x18,N x19,X,N x21,X,I x23,I x24,I x25,I x26,I x27,I x28],[],(false,[S0]))=if x28=3 then (f1 (10,0,[V 0],[],S0)).bind fun q=>f2 (0,648,[V 0,I x1,I x2,I x3,V 1,N x5,X,N x7,X,N x9,X,N x11,X,N x13,X,I x15,I x16,I x17,I x18,N x19,X,N x21,X,I x23,I x24,I x25,I x26,I x27,I x28],q.1.toList++[],(false,[q.2])) else if x28=1 then f2 (0,772,[V 0,I x1,I x2,I x3,V 1,N x5,X,N x7,X,N x9,X,N x11,X,N x13,X,I x15,I x16,I x17,I x18,N x19,X,N x21,X,I x23,I x24,I x25,I x26,I x27,I x28],[],(false,[S0])) else if x28=2 then f2 (0,772,[V 0,I x1,I x2,I x3,V 1,N x5,X,N x7,X,N x9,X,N x11,X,N x13,X,I x15,I x16,I x17,I x18,N x19,X,N x21,X,I x23,I x24,I x25,I x26,I x27,I x28],[],(false,[S0])) else f2 (0,99,[V 0,I x1,I x2,I x3,V 1,N x5,X,N x7,X,N x9,X,N x11,X,N x13,X,I x15],[],(false,[S0])):=Ja h 2 rfl<|Jp h rfl (Jd h rfl rfl<|Jq h 0 rfl rfl rfl) (Ja h 2 rfl<|JA h rfl rfl (Ja h 2 rfl<|Jp h rfl rfl (Jr h rfl<|Jh h rfl<|Jr h rfl rfl)))
theorem EeL{f1 f2 xs}(h:Fy xs f1 f2)(x1 x2 x3:Int32)(x5 x7 x9 x11 x13:Int64)(x15 x16 x17 x18:Int32)(x19 x21:Int64)(x23 x24 x25 x26 x27 x28 y0:Int32)(S0):f2 (0,648,[V 0,I x1,I x2,I x3,V 1,N x5,X,N x7,X,N x9,X,N x11,X,N x13,X,I x15,I x16,I x17,I x18,N x19,X,N x21,X,I x23,I x24,I x25,I x26,I x27,I x28],[I y0],(false,[S0]))=if y0=x25 then (f1 (13,0,[V 0],[],S0)).bind fun q=>f2 (0,658,[V 0,I x1,I x2,I x3,V 1,N x5,X,N x7,X,N x9,X,N x11,X,N x13,X,I x15,I x16,I x17,I x18,N x19,X,N x21,X,I x23,I x24,I x25,I x26,I x27,I x28],q.1.toList++[],(false,[q.2])) else some (some (I 0),(false,[S0])):=Jb h rfl rfl<|Jp h rfl (Jd h rfl rfl<|Jq h 0 rfl rfl rfl) (Jc h rfl k_0<|Jl h rfl)
theorem EdA{f1 f2 xs}(h:Fy xs f1 f2)(x1 x2 x3:Int32)(x5 x7 x9 x11 x13:Int64)(x15 x16 x17 x18:Int32)(x19 x21:Int64)(x23 x24 x25 x26 x27 x28 y0:Int32)(S0):f2 (0,658,[V 0,I x1,I x2,I x3,V 1,N x5,X,N x7,X,N x9,X,N x11,X,N x13,X,I x15,I x16,I x17,I x18,N x19,X,N x21,X,I x23,I x24,I x25,I x26,I x27,I x28],[I y0],(false,[S0]))=if y0=x26 then f2 (0,668,[V 0,I x1,I x2,I x3,V 1,N x5,X,N x7,X,N x9,X,N x11,X,N x13,X,I x15,I x16,I x17,I x18,N x19,X,N x21,X,I x23,I x24,I x25,I x26,I x27,I x28,I 0],[],(false,[S0])) else some (some (I 0),(false,[S0])):=Jb h rfl rfl<|JA h rfl (Ja h 2 rfl rfl) (Jc h rfl k_0<|Jl h rfl)
theorem EaC{f1 f2 xs}(h:Fy xs f1 f2)(x1 x2 x3:Int32)(x5 x7 x9 x11 x13:Int64)(x15 x16 x17 x18:Int32)(x19 x21:Int64)(x23 x24 x25 x26 x27 x28 x29:Int32)(S0):f2 (0,668,[V 0,I x1,I x2,I x3,V 1,N x5,X,N x7,X,N x9,X,N x11,X,N x13,X,I x15,I x16,I x17,I x18,N x19,X,N x21,X,I x23,I x24,I x25,I x26,I x27,I x28,I x29],[],(false,[S0]))=if x29<x1 then (f1 (11,0,[V 0,I x29],[],S0)).bind fun q=>f2 (0,681,[V 0,I x1,I x2,I x3,V 1,N x5,X,N x7,X,N x9,X,N x11,X,N x13,X,I x15,I x16,I x17,I x18,N x19,X,N x21,X,I x23,I x24,I x25,I x26,I x27,I x28,I x29],q.1.toList++[],(false,[q.2])) else f2 (0,721,[V 0,I x1,I x2,I x3,V 1,N x5,X,N x7,X,N x9,X,N x11,X,N x13,X,I x15,I x16,I x17,I x18,N x19,X,N x21,X,I x23,I x24,I x25,I x26,I x27,I x28,I 0],[],(false,[S0])):=Ja h 2 rfl<|Jm h rfl (Ja h 2 rfl<|Jq h 0 rfl rfl rfl) (Ja h 2 rfl rfl)
theorem EcF{f1 f2 xs}(h:Fy xs f1 f2)(x1 x2 x3:Int32)(x5 x7 x9 x11 x13:Int64)(x15 x16 x17 x18:Int32)(x19 x21:Int64)(x23 x24 x25 x26 x27 x28 x29 y0:Int32)(S0):f2 (0,681,[V 0,I x1,I x2,I x3,V 1,N x5,X,N x7,X,N x9,X,N x11,X,N x13,X,I x15,I x16,I x17,I x18,N x19,X,N x21,X,I x23,I x24,I x25,I x26,I x27,I x28,I x29],[I y0],(false,[S0]))=(f2 (7,0,[I x18,I x29],[],(false,[S0]))).bind fun q=>f2 (0,688,[V 0,I x1,I x2,I x3,V 1,N x5,X,N x7,X,N x9,X,N x11,X,N x13,X,I x15,I x16,I x17,I x18,N x19,X,N x21,X,I x23,I x24,I x25,I x26,I x27,I x28,I x29],q.1.toList++[I y0],q.2):=Ja h 2 rfl<|JE h rfl rfl
theorem EdE{f1 f2 xs}(h:Fy xs f1 f2)(x1 x2 x3:Int32)(x5 x7 x9 x11 x13:Int64)(x15 x16 x17 x18:Int32)(x19 x21:Int64)(x23 x24 x25 x26 x27 x28 x29 y0 y1:Int32)(S0):f2 (0,688,[V 0,I x1,I x2,I x3,V 1,N x5,X,N x7,X,N x9,X,N x11,X,N x13,X,I x15,I x16,I x17,I x18,N x19,X,N x21,X,I x23,I x24,I x25,I x26,I x27,I x28,I x29],[I y0,I y1],(false,[S0]))=if y1=y0 then (f2 (7,0,[I x18,I x29],[],(false,[S0]))).bind fun q=>f2 (0,702,[V 0,I x1,I x2,I x3,V 1,N x5,X,N x7,X,N x9,X,N x11,X,N x13,X,I x15,I x16,I x17,I x18,N x19,X,N x21,X,I x23,I x24,I x25,I x26,I x27,I x28,I x29],q.1.toList++[V 1],q.2) else some (some (I 0),(false,[S0])):=JA h rfl (Ja h 3 rfl<|JE h rfl rfl) (Jc h rfl k_0<|Jl h rfl)
theorem Ebh{f1 f2 xs}(h:Fy xs f1 f2)(x1 x2 x3:Int32)(x5 x7 x9 x11 x13:Int64)(x15 x16 x17 x18:Int32)(x19 x21:Int64)(x23 x24 x25 x26 x27 x28 x29 y0:Int32)(S0):f2 (0,702,[V 0,I x1,I x2,I x3,V 1,N x5,X,N x7,X,N x9,X,N x11,X,N x13,X,I x15,I x16,I x17,I x18,N x19,X,N x21,X,I x23,I x24,I x25,I x26,I x27,I x28,I x29],[I y0,V 1],(false,[S0]))=(f1 (12,0,[V 0,I y0],[],S0)).bind fun q=>f2 (0,705,[V 0,I x1,I x2,I x3,V 1,N x5,X,N x7,X,N x9,X,N x11,X,N x13,X,I x15,I x16,I x17,I x18,N x19,X,N x21,X,I x23,I x24,I x25,I x26,I x27,I x28,I x29],q.1.toList++[],(false,[q.2])):=Jq h 0 rfl rfl rfl
theorem EcM{f1 f2 xs}(h:Fy xs f1 f2)(x1 x2 x3:Int32)(x5 x7 x9 x11 x13:Int64)(x15 x16 x17 x18:Int32)(x19 x21:Int64)(x23 x24 x25 x26 x27 x28 x29 y0:Int32)(S0):f2 (0,705,[V 0,I x1,I x2,I x3,V 1,N x5,X,N x7,X,N x9,X,N x11,X,N x13,X,I x15,I x16,I x17,I x18,N x19,X,N x21,X,I x23,I x24,I x25,I x26,I x27,I x28,I x29],[I y0],(false,[S0]))=if y0=x29 then f2 (0,668,[V 0,I x1,I x2,I x3,V 1,N x5,X,N x7,X,N x9,X,N x11,X,N x13,X,I x15,I x16,I x17,I x18,N x19,X,N x21,X,I x23,I x24,I x25,I x26,I x27,I x28,I (x29+1)],[],(false,[S0])) else some (some (I 0),(false,[S0])):=Jb h rfl rfl<|JA h rfl (Ja h 2 rfl rfl) (Jc h rfl k_0<|Jl h rfl)
theorem EA{f1 f2 xs}(h:Fy xs f1 f2)(x1 x2 x3:Int32)(x5 x7 x9 x11 x13:Int64)(x15 x16 x17 x18:Int32)(x19 x21:Int64)(x23 x24 x25 x26 x27 x28 x29:Int32)(S0):f2 (0,721,[V 0,I x1,I x2,I x3,V 1,N x5,X,N x7,X,N x9,X,N x11,X,N x13,X,I x15,I x16,I x17,I x18,N x19,X,N x21,X,I x23,I x24,I x25,I x26,I x27,I x28,I x29],[],(false,[S0]))=if x3<x29 then f2 (0,99,[V 0,I x1,I x2,I x3,V 1,N x5,X,N x7,X,N x9,X,N x11,X,N x13,X,I x15],[],(false,[S0])) else (f1 (9,0,[V 0,I x29],[],S0)).bind fun q=>f2 (0,734,[V 0,I x1,I x2,I x3,V 1,N x5,X,N x7,X,N x9,X,N x11,X,N x13,X,I x15,I x16,I x17,I x18,N x19,X,N x21,X,I x23,I x24,I x25,I x26,I x27,I x28,I x29],q.1.toList++[],(false,[q.2])):=Ja h 2 rfl<|JT h rfl (Ja h 2 rfl<|Jr h rfl rfl) (Ja h 2 rfl<|Jq h 0 rfl rfl rfl)
theorem Eeb{f1 f2 xs}(h:Fy xs f1 f2)(x1 x2 x3:Int32)(x5 x7 x9 x11 x13:Int64)(x15 x16 x17 x18:Int32)(x19 x21:Int64)(x23 x24 x25 x26 x27 x28 x29 y0:Int32)(S0):f2 (0,734,[V 0,I x1,I x2,I x3,V 1,N x5,X,N x7,X,N x9,X,N x11,X,N x13,X,I x15,I x16,I x17,I x18,N x19,X,N x21,X,I x23,I x24,I x25,I x26,I x27,I x28,I x29],[I y0],(false,[S0]))=if y0=(((XT.ushrL x21 (2*x29))&&&3)).toInt32 then f2 (0,721,[V 0,I x1,I x2,I x3,V 1,N x5,X,N x7,X,N x9,X,N x11,X,N x13,X,I x15,I x16,I x17,I x18,N x19,X,N x21,X,I x23,I x24,I x25,I x26,I x27,I x28,I (x29+1)],[],(false,[S0])) else some (some (I 0),(false,[S0])):=Ja h 8 rfl<|JA h rfl (Ja h 2 rfl rfl) (Jc h rfl k_0<|Jl h rfl)
theorem EdQ{f1 f2 xs}(h:Fy xs f1 f2)(x1 x2 x3:Int32)(x5 x7 x9 x11 x13:Int64)(x15 x16 x17 x18:Int32)(x19 x21:Int64)(x23 x24 x25 x26 x27 x28:Int32)(S0):f2 (0,772,[V 0,I x1,I x2,I x3,V 1,N x5,X,N x7,X,N x9,X,N x11,X,N x13,X,I x15,I x16,I x17,I x18,N x19,X,N x21,X,I x23,I x24,I x25,I x26,I x27,I x28],[],(false,[S0]))=if x27<0 then f2 (0,99,[V 0,I x1,I x2,I x3,V 1,N x5,X,N x7,X,N x9,X,N x11,X,N x13,X,I x15],[],(false,[S0])) else if (x27&&&(x3^^^(-1)))=0 then f2 (0,798,[V 0,I x1,I x2,I x3,V 1,N x5,X,N x7,X,N x9,X,N x11,X,N (x13|||(1<<<((x27:Int32).toInt64&&&63))),X,I x15,I x16,I x17,I x18,N x19,X,N x21,X,I x23,I x24,I x25,I x26,I x27,I x28,I 0],[],(false,[S0])) else f2 (0,99,[V 0,I x1,I x2,I x3,V 1,N x5,X,N x7,X,N x9,X,N x11,X,N x13,X,I x15],[],(false,[S0])):=Jb h rfl rfl<|JB h rfl (Jr h rfl<|Jh h rfl<|Jr h rfl rfl) (Ja h 5 rfl<|Js h rfl (Ja h 8 rfl rfl) (Jr h rfl<|Jh h rfl<|Jr h rfl rfl))
theorem EI{f1 f2 xs}(h:Fy xs f1 f2)(x1 x2 x3:Int32)(x5 x7 x9 x11 x13:Int64)(x15 x16 x17 x18:Int32)(x19 x21:Int64)(x23 x24 x25 x26 x27 x28 x29:Int32)(S0):f2 (0,798,[V 0,I x1,I x2,I x3,V 1,N x5,X,N x7,X,N x9,X,N x11,X,N x13,X,I x15,I x16,I x17,I x18,N x19,X,N x21,X,I x23,I x24,I x25,I x26,I x27,I x28,I x29],[],(false,[S0]))=if x29<x2 then (f2 (4,0,[N x5,X,N x7,X,I x29],[],(false,[S0]))).bind fun q=>f2 (0,813,[V 0,I x1,I x2,I x3,V 1,N x5,X,N x7,X,N x9,X,N x11,X,N x13,X,I x15,I x16,I x17,I x18,N x19,X,N x21,X,I x23,I x24,I x25,I x26,I x27,I x28,I x29],q.1.toList++[],q.2) else f2 (0,99,[V 0,I x1,I x2,I x3,V 1,N x5,X,N x7,X,N x9,X,N x11,X,N x13,X,I x15],[],(false,[S0])):=Ja h 2 rfl<|Jm h rfl (Ja h 3 rfl<|JE h rfl rfl) (Jr h rfl<|Jh h rfl<|Jr h rfl rfl)
theorem Ean{f1 f2 xs}(h:Fy xs f1 f2)(x1 x2 x3:Int32)(x5 x7 x9 x11 x13:Int64)(x15 x16 x17 x18:Int32)(x19 x21:Int64)(x23 x24 x25 x26 x27 x28 x29 y0:Int32)(S0):f2 (0,813,[V 0,I x1,I x2,I x3,V 1,N x5,X,N x7,X,N x9,X,N x11,X,N x13,X,I x15,I x16,I x17,I x18,N x19,X,N x21,X,I x23,I x24,I x25,I x26,I x27,I x28,I x29],[I y0],(false,[S0]))=if y0=0 then f2 (0,798,[V 0,I x1,I x2,I x3,V 1,N x5,X,N x7,X,N x9,X,N x11,X,N x13,X,I x15,I x16,I x17,I x18,N x19,X,N x21,X,I x23,I x24,I x25,I x26,I x27,I x28,I (x29+1)],[],(false,[S0])) else (f2 (5,0,[I x29,I x1],[],(false,[S0]))).bind fun q=>f2 (0,822,[V 0,I x1,I x2,I x3,V 1,N x5,X,N x7,X,N x9,X,N x11,X,N x13,X,I x15,I x16,I x17,I x18,N x19,X,N x21,X,I x23,I x24,I x25,I x26,I x27,I x28,I x29],q.1.toList++[],q.2):=Jy h rfl (Ja h 2 rfl rfl) (Ja h 2 rfl<|JE h rfl rfl)
theorem Ea3{f1 f2 xs}(h:Fy xs f1 f2)(x1 x2 x3:Int32)(x5 x7 x9 x11 x13:Int64)(x15 x16 x17 x18:Int32)(x19 x21:Int64)(x23 x24 x25 x26 x27 x28 x29 y0:Int32)(S0):f2 (0,822,[V 0,I x1,I x2,I x3,V 1,N x5,X,N x7,X,N x9,X,N x11,X,N x13,X,I x15,I x16,I x17,I x18,N x19,X,N x21,X,I x23,I x24,I x25,I x26,I x27,I x28,I x29],[I y0],(false,[S0]))=(f2 (6,0,[I y0,I x27,I x1],[],(false,[S0]))).bind fun q=>f2 (0,828,[V 0,I x1,I x2,I x3,V 1,N x5,X,N x7,X,N x9,X,N x11,X,N x13,X,I x15,I x16,I x17,I x18,N x19,X,N x21,X,I x23,I x24,I x25,I x26,I x27,I x28,I x29],q.1.toList++[],q.2):=Ja h 2 rfl<|JE h rfl rfl
theorem EaF{f1 f2 xs}(h:Fy xs f1 f2)(x1 x2 x3:Int32)(x5 x7 x9 x11 x13:Int64)(x15 x16 x17 x18:Int32)(x19 x21:Int64)(x23 x24 x25 x26 x27 x28 x29 y0:Int32)(S0):f2 (0,828,[V 0,I x1,I x2,I x3,V 1,N x5,X,N x7,X,N x9,X,N x11,X,N x13,X,I x15,I x16,I x17,I x18,N x19,X,N x21,X,I x23,I x24,I x25,I x26,I x27,I x28,I x29],[I y0],(false,[S0]))=if y0=0 then if x29<64 then f2 (0,798,[V 0,I x1,I x2,I x3,V 1,N (x5&&&((1<<<((x29:Int32).toInt64&&&63))^^^(-1))),X,N x7,X,N x9,X,N x11,X,N x13,X,I x15,I x16,I x17,I x18,N x19,X,N x21,X,I x23,I x24,I x25,I x26,I x27,I x28,I (x29+1)],[],(false,[S0])) else f2 (0,798,[V 0,I x1,I x2,I x3,V 1,N x5,X,N (x7&&&((1<<<(((x29-64):Int32).toInt64&&&63))^^^(-1))),X,N x9,X,N x11,X,N x13,X,I x15,I x16,I x17,I x18,N x19,X,N x21,X,I x23,I x24,I x25,I x26,I x27,I x28,I (x29+1)],[],(false,[S0])) else f2 (0,798,[V 0,I x1,I x2,I x3,V 1,N x5,X,N x7,X,N x9,X,N x11,X,N x13,X,I x15,I x16,I x17,I x18,N x19,X,N x21,X,I x23,I x24,I x25,I x26,I x27,I x28,I (x29+1)],[],(false,[S0])):=Js h rfl (Ja h 2 rfl<|Jm h rfl (Ja h 11 rfl rfl) (Ja h 12 rfl rfl)) (Ja h 2 rfl rfl)
theorem Eb3{f1 f2 xs}(h:Fy xs f1 f2)(x1:Int32)(ob:List MS):f2 (1,0,[V 0,I x1],[],(false,ob))=if x1<(O xs.length) then if inb x1 xs.length=true then some (some (I (xs.getD (x1).toNatClampNeg 0)),(false,ob)) else none else some (some (I 0),(false,ob)):=Ja h 3 rfl<|Jm h rfl (Ja h 2 rfl<|JR h rfl fun _=>Jh h rfl<|Ji h rfl) (Jc h rfl k_0<|Ji h rfl)
theorem EbM{f1 f2 xs}(h:Fy xs f1 f2)(x0 x1:Int32)(hz_x1:x1≠0)(ob:List MS):f2 (2,0,[I x0,I x1],[],(false,ob))=if (x0%x1)<0 then some (some (I ((x0%x1)+x1)),(false,ob)) else some (some (I (x0%x1)),(false,ob)):=Ja h 2 rfl<|JW h rfl hz_x1<|Ja h 2 rfl<|JP h rfl (Ja h 4 rfl<|Ji h rfl) (Jb h rfl rfl<|Ji h rfl)
theorem EbV{f1 f2 xs}(h:Fy xs f1 f2)(x0:Int32)(ob:List MS):f2 (3,0,[I x0],[],(false,ob))=f2 (3,4,[I x0,I 1,I 2],[],(false,ob)):=Ja h 4 rfl rfl
theorem Er{f1 f2 xs}(h:Fy xs f1 f2)(x0 x1 x2:Int32)(ob:List MS):f2 (3,4,[I x0,I x1,I x2],[],(false,ob))=if x0<x2 then some (some (I x1),(false,ob)) else f2 (3,4,[I x0,I (x1*x2),I (x2+1)],[],(false,ob)):=Ja h 2 rfl<|JT h rfl (Jb h rfl rfl<|Ji h rfl) (Ja h 6 rfl rfl)
theorem EbH{f1 f2 xs}(h:Fy xs f1 f2)(x0 x2:Int64)(x4:Int32)(ob:List MS):f2 (4,0,[N x0,X,N x2,X,I x4],[],(false,ob))=if x4<64 then if (XT.cmpL ((XT.ushrL x0 x4)&&&1) 0)=0 then some (some (I 0),(false,ob)) else some (some (I 1),(false,ob)) else if (XT.cmpL ((XT.ushrL x2 (x4-64))&&&1) 0)=0 then some (some (I 0),(false,ob)) else some (some (I 1),(false,ob)):=Ja h 2 rfl<|Jm h rfl (Ja h 7 rfl<|Jy h rfl (Ja h 2 rfl<|Jl h rfl) (Ja h 2 rfl<|JC h rfl)) (Ja h 9 rfl<|Jy h rfl (Jc h rfl k_0<|Jl h rfl) (Ja h 2 rfl<|JC h rfl))
theorem EdB{f1 f2 xs}(h:Fy xs f1 f2)(x0 x1:Int32)(ob:List MS):f2 (5,0,[I x0,I x1],[],(false,ob))=f2 (5,7,[I x0,I x1,I 0,I 0,I 0],[],(false,ob)):=Ja h 6 rfl rfl
theorem Eau{f1 f2 xs}(h:Fy xs f1 f2)(x0 x1 x2 x3 x4:Int32)(ob:List MS):f2 (5,7,[I x0,I x1,I x2,I x3,I x4],[],(false,ob))=if x4<x1 then (f2 (3,0,[I ((x1-1)-x4)],[],(false,ob))).bind fun q=>f2 (5,22,[I x0,I x1,I x2,I x3,I x4],q.1.toList++[],q.2) else some (some (I x3),(false,ob)):=Ja h 2 rfl<|Jm h rfl (Ja h 5 rfl<|JE h rfl rfl) (Jb h rfl rfl<|Ji h rfl)
theorem Edm{f1 f2 xs}(h:Fy xs f1 f2)(x0 x1 x2 x3 x4 y0:Int32)(hz_y0:y0≠0)(ob:List MS):f2 (5,22,[I x0,I x1,I x2,I x3,I x4],[I y0],(false,ob))=f2 (5,41,[I (x0%y0),I x1,I x2,I x3,I x4,I y0,I (x0/y0),I 0,I 0],[],(false,ob)):=Ja h 3 rfl<|Jac h rfl hz_y0<|Ja h 3 rfl<|JW h rfl hz_y0<|Ja h 5 rfl rfl
theorem EaE{f1 f2 xs}(h:Fy xs f1 f2)(x0 x1 x2 x3 x4 x5 x6 x7 x8:Int32)(ob:List MS):f2 (5,41,[I x0,I x1,I x2,I x3,I x4,I x5,I x6,I x7,I x8],[],(false,ob))=if x8<8 then if ((x2>>>(x8&&&31))&&&1)=0 then if x6=0 then f2 (5,78,[I x0,I x1,I x2,I x3,I x4,I x5,I x6,I x8,I x8],[],(false,ob)) else f2 (5,41,[I x0,I x1,I x2,I x3,I x4,I x5,I (x6+(-1)),I x7,I (x8+1)],[],(false,ob)) else f2 (5,41,[I x0,I x1,I x2,I x3,I x4,I x5,I x6,I x7,I (x8+1)],[],(false,ob)) else f2 (5,78,[I x0,I x1,I x2,I x3,I x4,I x5,I x6,I x7,I x8],[],(false,ob)):=Ja h 2 rfl<|Jm h rfl (Ja h 5 rfl<|Js h rfl (Jb h rfl rfl<|Js h rfl (Ja h 3 rfl rfl) (Ja h 3 rfl rfl)) (Ja h 2 rfl rfl)) rfl
theorem EeN{f1 f2 xs}(h:Fy xs f1 f2)(x0 x1 x2 x3 x4 x5 x6 x7 x8:Int32)(ob:List MS):f2 (5,78,[I x0,I x1,I x2,I x3,I x4,I x5,I x6,I x7,I x8],[],(false,ob))=f2 (5,7,[I x0,I x1,I (x2|||(1<<<(x7&&&31))),I (x3|||(x7<<<((3*x4)&&&31))),I (x4+1)],[],(false,ob)):=Ja h 16 rfl<|Jr h rfl rfl
theorem EeC{f1 f2 xs}(h:Fy xs f1 f2)(x0 x1 x2:Int32)(ob:List MS):f2 (6,0,[I x0,I x1,I x2],[],(false,ob))=f2 (6,5,[I x0,I x1,I x2,I 0,I 0],[],(false,ob)):=Ja h 4 rfl rfl
theorem Ear{f1 f2 xs}(h:Fy xs f1 f2)(x0 x1 x2 x3 x4:Int32)(ob:List MS):f2 (6,5,[I x0,I x1,I x2,I x3,I x4],[],(false,ob))=if x4<x2 then (f2 (7,0,[I x0,I x4],[],(false,ob))).bind fun q=>f2 (6,18,[I x0,I x1,I x2,I x3,I x4],q.1.toList++[I x1],q.2) else if x3=0 then some (some (I 1),(false,ob)) else f2 (6,43,[I x0,I x1,I x2,I x3,I x4],[],(false,ob)):=Ja h 2 rfl<|Jm h rfl (Ja h 3 rfl<|JE h rfl rfl) (Jb h rfl rfl<|Js h rfl (Jc h rfl k_1<|JC h rfl) rfl)
theorem Eba{f1 f2 xs}(h:Fy xs f1 f2)(x0 x1 x2 x3 x4 y0 y1:Int32)(ob:List MS):f2 (6,18,[I x0,I x1,I x2,I x3,I x4],[I y0,I y1],(false,ob))=if ((y1>>>(y0&&&31))&&&1)=0 then f2 (6,5,[I x0,I x1,I x2,I x3,I (x4+1)],[],(false,ob)) else f2 (6,5,[I x0,I x1,I x2,I (x3|||(1<<<(x4&&&31))),I (x4+1)],[],(false,ob)):=Ja h 3 rfl<|Jy h rfl (Ja h 2 rfl rfl) (Ja h 8 rfl rfl)
theorem EcX{f1 f2 xs}(h:Fy xs f1 f2)(x0 x1 x2 x3 x4:Int32)(ob:List MS):f2 (6,43,[I x0,I x1,I x2,I x3,I x4],[],(false,ob))=if (x3&&&1)=0 then f2 (6,43,[I x0,I x1,I x2,I (x3>>>((1:Int32)&&&31)),I x4],[],(false,ob)) else if (x3&&&(x3+1))=0 then some (some (I 1),(false,ob)) else some (some (I 0),(false,ob)):=Ja h 3 rfl<|Js h rfl (Ja h 5 rfl rfl) (Ja h 5 rfl<|Js h rfl (Ja h 2 rfl<|JC h rfl) (Jc h rfl k_0<|Jl h rfl))
theorem Eat{f1 f2 xs}(h:Fy xs f1 f2)(x0 x1:Int32)(ob:List MS):f2 (7,0,[I x0,I x1],[],(false,ob))=some (some (I ((x0>>>((3*x1)&&&31))&&&7)),(false,ob)):=Ja h 7 rfl<|Ji h rfl
def QdW(xs:List Int32):Prop:=xs.length<=260
theorem Qac{a:Nat}(ha:a<2147483648):(O a).toInt=a:=Int32.toInt_ofNat_of_lt ha
theorem Qq{a b:Nat}(ha:a<2147483648)(hb:b<2147483648):O a<O b↔a<b:=by
 rw[zY,Qac ha,Qac hb];omega
theorem Qap{a:Nat}(ha:a<2147483648):¬O a<0:=by
 rw[zY,Qac ha];have:(0:Int32).toInt=0:=rfl;omega
theorem Qx(a:Nat):O a+1=O (a+1):=(Int32.ofNat_add a 1).symm
theorem QA{a:Nat}(ha:a<2147483648):(O a).toNatClampNeg=a:=by
 simp only[Int32.toNatClampNeg,Qac ha];omega
theorem Qz{a n:Nat}(ha:a<2147483648)(h:a<n):inb (O a) n=true:=by
 simp only[inb,Qap ha,QA ha,decide_false,zaa,zaz,decide_eq_false_iff_not];omega
theorem Qhf{i:Int32}{n:Nat}:inb i n=true↔0<=i.toInt/\i.toInt<n:=by
 simp only[inb,zaz,Bool.or_eq_false_iff,decide_eq_false_iff_not,zY,Int32.toNatClampNeg];have:(0:Int32).toInt=0:=rfl;omega
theorem QiP{i:Int32}{n:Nat}(h1:¬i<0)(h2:i<O n)(hn:n<2147483648):inb i n=true:=by
 rw[zY] at h1 h2;rw[Qac hn] at h2;have:(0:Int32).toInt=0:=rfl;exact Qhf.mpr (by omega)
theorem Qi{S:MS}{c i c' i':Nat}{v:Int32}:upd S c i v c' i'=if c'=c/\i'=i then v else S c' i':=rfl
abbrev Qd:=Jvm.Term
theorem Qaw{α:Type}(F:Nat->α):∀ {n:Nat},(∀i,i<n->F i=F (i+1))->F 0=F n
 |0,_=>rfl
 |n+1,h=>(Qaw F (n:=n) fun i hi=>h i (by omega)).trans (h n (by omega))
theorem Qcq(a b:Nat):O a+O b=O (a+b):=(Int32.ofNat_add a b).symm
theorem Qbz(a b:Nat):O a*O b=O (a*b):=(Int32.ofNat_mul a b).symm
theorem Qba{a b:Nat}(h:b<=a):O a-O b=O (a-b):=by
 rw[show a=(a-b)+b from by omega,<-Qcq,Nat.add_sub_cancel];exact Int32.add_sub_cancel _ _
def QaZ(o:Jvm.Binary):Int32:=if o = .iand then 1 else 2
def Qh:Qd->Nat
 | .arg c=>c
 | .op2 _ (.arg x) _=>x
 |_=>0
def Qc:Qd->List Qd
 | .add t f=>t::Qc f
 |_=>[]
def Qb:Qd->List Nat
 | .arg c=>[c]
 | .op2 _ (.arg x) f=>Qb f++[x]
 | .add t f=>Qb t++Qb f
 |_=>[]
def Qp:Qd->Prop
 | .arg _=>True
 | .op2 _ (.arg _) _=>True
 |_=>False
def QM:Qd->Prop
 | .add _ _=>True
 | .null=>True
 |_=>False
def Qu:Qd->Prop
 | .arg c=>c<8
 | .op2 o (.arg x) f=>(8<=x/\x<64)/\(o = .iand\/o = .ior)/\(2<=(Qc f).length/\(Qc f).length<=8)/\QM f/\Qu f
 | .add t f=>Qp t/\QM f/\Qu t/\Qu f
 | .null=>True
 |_=>False
def QI(S:MS):Qd->Prop
 | .arg c=>S 1 c=0
 | .op2 o (.arg x) f=>S 1 x=QaZ o/\S 3 x=O (Qc f).length/\(∀i,i<(Qc f).length->S 4 (8*x+i)=O (Qh ((Qc f).getD i .null)))/\QI S f
 | .add t f=>QI S t/\QI S f
 |_=>True
theorem QbU{o:Jvm.Binary}:QaZ o≠0:=by unfold QaZ;split<;>decide
theorem QaL:∀ {t:Qd},Qp t->Qu t->Qh t<64
 | .arg c,_,h=>by have:c<8:=h;show c<64;omega
 | .op2 _ (.arg x) f,_,h=>h.1.2
theorem QaR:∀ {f:Qd},Qu f->∀t∈Qc f,Qp t/\Qu t
 | .add t f,h,u,hu=>by
  rcases zt.mp hu with e | e
  ·subst e;exact⟨h.1,h.2.2.1⟩
  ·exact QaR h.2.2.2 u e
 | .null,_,u,hu=>absurd hu (by simp[Qc])
 | .arg _,_,u,hu=>absurd hu (by simp[Qc])
 | .op2 _ (.arg _) _,_,u,hu=>absurd hu (by simp[Qc])
def QcM(S S':MS)(p:Nat)(l:List Nat)(sp:Nat):Prop:=(∀c i,c≠13->c≠14->c≠15->¬(c=0/\i=6)->S' c i=S c i)/\S' 0 6=O (p+l.length)/\(∀i,i<p->S' 13 i=S 13 i)/\(∀i,i<l.length->S' 13 (p+i)=O (l.getD i 0))/\∀i,i<sp->S' 14 i=S 14 i/\S' 15 i=S 15 i
theorem Qfe{S S' S'':MS}{p sp sp':Nat}{l l':List Nat}(h:QcM S S' p l sp)(h':QcM S' S'' (p+l.length) l' sp')(hs:sp<=sp'):QcM S S'' p (l++l') sp:=by
 obtain⟨a1,a2,a3,a4,a5⟩:=h;obtain⟨b1,b2,b3,b4,b5⟩:=h';refine⟨fun c i h1 h2 h3 h4=>(b1 c i h1 h2 h3 h4).trans (a1 c i h1 h2 h3 h4),by rw[b2,zd,zaj],fun i hi=>(b3 i (by omega)).trans (a3 i hi),fun i hi=>?_,fun i hi=>⟨(b5 i (by omega)).1.trans (a5 i hi).1,(b5 i (by omega)).2.trans (a5 i hi).2⟩⟩;rw[zd] at hi;by_cases q:i<l.length
 ·rw[b3 _ (by omega),a4 i q]
  congr 1
  simp only[zf,List.getElem?_append_left q]
 ·rw[show p+i=p+l.length+(i-l.length) from by omega,b4 _ (by omega)]
  congr 1
  simp only[zf,List.getElem?_append_right (Nat.le_of_not_lt q)]
theorem Q3{P:Qd->Prop}(leaf:∀c,c<8->P (.arg c))(node:∀o x f,Qu (.op2 o (.arg x) f)->P f->P (.op2 o (.arg x) f))(cons:∀t f,Qu (.add t f)->P t->P f->P (.add t f))(nil:P .null):∀t,Qu t->P t
 | .arg c,h=>leaf c h
 | .op2 o (.arg x) f,h=>node o x f h (Q3 leaf node cons nil f h.2.2.2.2)
 | .add t f,h=>cons t f h (Q3 leaf node cons nil t h.2.2.1) (Q3 leaf node cons nil f h.2.2.2)
 | .null,_=>nil
theorem Q6{S S':MS}(h:∀i,S' 1 i=S 1 i/\S' 3 i=S 3 i)(h':∀i,S' 4 i=S 4 i):∀t,Qu t->QI S t->QI S' t:=Q3
 (fun c _ r=>(h c).1.trans r)
 (fun o x f _ ih r=>⟨(h x).1.trans r.1,(h x).2.trans r.2.1,fun i hi=>(h' _).trans (r.2.2.1 i hi),ih r.2.2.2⟩)
 (fun t f _ ih ih' r=>⟨ih r.1,ih' r.2⟩) (fun _=>trivial)
theorem Qeq:∀t,Qu t->Qp t->1<=(Qb t).length
 | .arg _,_,_=>zo 1
 | .op2 _ (.arg _) f,_,_=>by simp[Qb]
section Walk
variable {f1:FT1}
theorem Qav(hf1:Fx f1)(S:MS){x:Nat}(hx:x<64):f1 (21,0,[V 0,I (O x)],[],S)=some (some (I 1),S):=by
 rw[EaY hf1,za (Qap (by omega)),zb (show O x<64 from (Qq (b:=64) (by omega) (by omega)).mpr hx)]
theorem Qb8(hf1:Fx f1)(S:MS){x:Nat}(hx:x<64):f1 (22,0,[V 0,I (O x)],[],S)=some (some (I (if S 1 x=0 then 0 else 1)),S):=by
 rw[Ee7 hf1,Qav hf1 S hx];simp only[zz];rw[Ec7 hf1,za (by decide),zb (Qz (by omega) hx),QA (by omega)]
 split<;>rfl
theorem QaS(hf1:Fx f1){S:MS}{x d:Nat}(hx:x<64)(h:S 3 x=O d)(hd:d<=8):f1 (23,0,[V 0,I (O x)],[],S)=some (some (I (O d)),S):=by
 rw[EeS hf1,Qav hf1 S hx];simp only[zz];rw[EdU hf1,za (by decide),zb (Qz (by omega) hx),QA (by omega),h,za (Qap (by omega)),za (show ¬8<O d by rw[show (8:Int32)=O 8 from rfl,Qq (by omega) (by omega)];omega)]
theorem Qaq(hf1:Fx f1)(S:MS){x k:Nat}(hx:x<64)(hk:k<8):f1 (24,0,[V 0,I (O x),I (O k)],[],S)=some (some (I (S 4 (8*x+k))),S):=by
 rw[Ebt hf1,Qav hf1 S hx];simp only[zz];rw[Efi hf1,za (by decide),za (Qap (by omega)),zb (show O k<8 from (Qq (b:=8) (by omega) (by omega)).mpr hk),show O x*8+O k=O (8*x+k) from by rw[<-Qcq,zQ,<-Qbz];rfl,zb (Qz (by omega) (by omega)),QA (by omega)]
theorem Qin(hf1:Fx f1):∀t,Qu t->(Qp t->∀sp g p S,QI S t->S 14 sp=O (Qh t)->S 15 sp=0->S 0 6=O p->p+(Qb t).length<=64->sp+(Qb t).length<=127->g+2*(Qb t).length<=1025->∃S',f1 (36,38,[V 0,I (O (sp+1)),I (O g)],[],S)=f1 (36,38,[V 0,I (O sp),I (O (g+(2*(Qb t).length-1)))],[],S')/\QcM S S' p (Qb t) sp)/\(QM t->∀sp g p S x k n,QI S t->x<64->S 1 x≠0->n<=8->S 3 x=O n->k+(Qc t).length=n->(∀i,i<(Qc t).length->S 4 (8*x+(k+i))=O (Qh ((Qc t).getD i .null)))->S 14 sp=O x->S 15 sp=O k->S 0 6=O p->p+(Qb t).length<=64->sp+(Qb t).length<=126->g+2*(Qb t).length<=1024->∃S',f1 (36,38,[V 0,I (O (sp+1)),I (O g)],[],S)=f1 (36,38,[V 0,I (O (sp+1)),I (O (g+2*(Qb t).length))],[],S')/\QcM S S' p (Qb t) sp/\S' 14 sp=S 14 sp/\S' 15 sp=O n):=by
 have pop:∀(sp g p:Nat) (S:MS) (x:Nat) (v:Int32),sp+1<=128->g<1024->p<64->x<64->S 0 6=O p->S 14 sp=O x->f1 (36,146,[V 0,I (O (sp+1)),I (O g),I (O sp),I (O x),I v],[],S)=f1 (36,38,[V 0,I (O sp),I (O (g+1))],[],Ua (Ua S 13 p (O x)) 0 6 (O (p+1))):=fun sp g p S x v h1 h2 h3 h4 h5 h6=>by
  rw[EeM hf1,h5,zb (show O p<64 from (Qq (b:=64) (by omega) (by omega)).mpr h3),zb (Qz (by omega) h3),QA (by omega),Qx,Qx,<-Qx sp];rw[show O sp+1 + -1=O sp from by rw[Int32.add_assoc,show (1:Int32) + -1=0 from by decide,Int32.add_zero]]
 have top:∀(sp g:Nat) (S:MS) (x:Nat),sp+1<=128->g<1024->S 14 sp=O x->f1 (36,38,[V 0,I (O (sp+1)),I (O g)],[],S)=(f1 (22,0,[V 0,I (O x)],[],S)).bind fun q=>f1 (36,75,[V 0,I (O (sp+1)),I (O g),I (O sp),I (O x),I (S 15 sp)],q.1.toList++[],q.2):=fun sp g S x h1 h2 h3=>by
  rw[EaO hf1,zb (show O g<1024 from (Qq (b:=1024) (by omega) (by omega)).mpr h2),zb (show 0<O (sp+1) from (Qq (a:=0) (by omega) (by omega)).mpr (by omega)),show O (sp+1)-1=O sp from by rw[<-Qx];exact Int32.add_sub_cancel _ _,zb (Qz (by omega) (by omega)),QA (by omega),h3]
 refine Q3 (fun c hc=>⟨fun _ sp g p S r h14 h15 h6 l1 l2 l3=>?_,fun h=>absurd h id⟩) (fun o x f w ih=>⟨fun _ sp g p S r h14 h15 h6 l1 l2 l3=>?_,fun h=>absurd h id⟩) (fun t f w iht ihf=>⟨fun h=>absurd h id,fun _ sp g p S x k n r hx h1 hn h3 hk h4 h14 h15 h6 l1 l2 l3=>?_⟩) ⟨fun h=>absurd h id,fun _ sp g p S x k n r hx h1 hn h3 hk h4 h14 h15 h6 l1 l2 l3=>?_⟩
 ·have hl:(Qb (.arg c)).length=1:=rfl;rw[hl] at l1 l2 l3;have e1:S 1 c=0:=r;rw[top sp g S c (by omega) (by omega) h14,Qb8 hf1 S (by omega),zb e1];simp only[zz];rw[Ek hf1,zb rfl,pop sp g p S c _ (by omega) (by omega) (by omega) (by omega) h6 h14];refine⟨_,rfl,fun d i d1 d2 d3 d4=>?_,?_,fun i hi=>?_,fun i hi=>?_,fun i hi=>?_⟩
  ·rw[Qi,za d4,Qi,za (by omega)]
  ·rfl
  ·rw[Qi,za (by omega),Qi,za (by omega)]
  ·have:i=0:=by have:i<1:=hi;omega
   subst this;rw[Qi,za (by omega),Qi,zb ⟨rfl,rfl⟩];rfl
  ·exact⟨rfl,rfl⟩
 ·have hl:(Qb (.op2 o (.arg x) f)).length=(Qb f).length+1:=by show (Qb f++[x]).length=_;rw[zd];rfl
  rw[hl] at l1 l2 l3;obtain⟨r1,r3,r4,rf⟩:=r;obtain⟨⟨w1,w2⟩,w3,⟨w4,w5⟩,w6,w7⟩:=w;have k1:S 1 x≠0:=by rw[r1];exact QbU
  obtain⟨S',e,wk,e14,e15⟩:=ih.2 w6 sp g p S x 0 _ rf w2 k1 w5 r3 (by omega) (fun i hi=>by rw[zL];exact r4 i hi) h14 h15 h6 (by omega) (by omega) (by omega);rw[e];have h14':S' 14 sp=O x:=e14.trans h14;have k1':S' 1 x≠0:=by rw[wk.1 1 x (by decide) (by decide) (by decide) (by omega)];exact k1
  rw[top sp _ S' x (by omega) (by omega) h14',Qb8 hf1 S' w2,za k1'];simp only[zz];have r3':S' 3 x=O (Qc f).length:=(wk.1 3 x (by decide) (by decide) (by decide) (by omega)).trans r3;rw[Ek hf1,za (by decide),QaS hf1 w2 r3' w5];simp only[zz];rw[Eaj hf1,e15,za zv,pop sp _ (p+(Qb f).length) S' x _ (by omega) (by omega) (by omega) w2 wk.2.1 h14'];rw[hl,show g+2*(Qb f).length+1=g+(2*((Qb f).length+1)-1) from by omega];refine⟨_,rfl,?_⟩;refine Qfe (l:=Qb f) (l':=[x]) (sp':=sp) wk ⟨fun d i d1 d2 d3 d4=>?_,?_,fun i hi=>?_,fun i hi=>?_,fun i hi=>?_⟩ (zo sp)
  ·rw[Qi,za d4,Qi,za (by omega)]
  ·rfl
  ·rw[Qi,za (by omega),Qi,za (by omega)]
  ·have:i=0:=by have:i<1:=hi;omega
   subst this;rw[Qi,za (by omega),Qi,zb ⟨rfl,rfl⟩];rfl
  ·exact⟨rfl,rfl⟩
 ·have hl:(Qb (.add t f)).length=(Qb t).length+(Qb f).length:=by show (Qb t++Qb f).length=_;rw[zd]
  rw[hl] at l1 l2 l3;have hkl:(Qc (.add t f)).length=(Qc f).length+1:=rfl;rw[hkl] at hk h4;obtain⟨w1,w2,w3,w4⟩:=w;have ht:=Qeq t w3 w1;have hsl:=QaL w1 w3;obtain⟨rt,rf⟩:=r;rw[top sp g S x (by omega) (by omega) h14,Qb8 hf1 S hx,za h1];simp only[zz];rw[Ek hf1,za (by decide),QaS hf1 hx h3 hn];simp only[zz];rw[Eaj hf1,h15,zb ((Qq (by omega) (by omega)).mpr (by omega)),zb (Qz (by omega) (by omega)),QA (by omega),Qaq hf1 _ hx (by omega)];simp only[zz];have hkid:Ua S 15 sp (O k+1) 4 (8*x+k)=O (Qh t):=h4 0 (by omega);rw[hkid,EdH hf1,Qav hf1 _ hsl];simp only[zz];rw[Edt hf1,za (by decide),zb (show O (sp+1)<128 from (Qq (b:=128) (by omega) (by omega)).mpr (by omega)),zb (Qz (by omega) (by omega)),QA (by omega),Qx,Qx,Qx]
  generalize hA:Ua (Ua (Ua S 15 sp (O (k+1))) 14 (sp+1) (O (Qh t))) 15 (sp+1) 0=A;have A0:∀d i,d≠14->d≠15->A d i=S d i:=fun d i d1 d2=>by rw[<-hA,Qi,za (by omega),Qi,za (by omega),Qi,za (by omega)]
  have A14:∀i,i<=sp->A 14 i=S 14 i:=fun i hi=>by rw[<-hA,Qi,za (by omega),Qi,za (by omega),Qi,za (by omega)]
  have A15:∀i,i<sp->A 15 i=S 15 i:=fun i hi=>by rw[<-hA,Qi,za (by omega),Qi,za (by omega),Qi,za (by omega)]
  have A15s:A 15 sp=O (k+1):=by rw[<-hA,Qi,za (by omega),Qi,za (by omega),Qi,zb ⟨rfl,rfl⟩]
  have A14t:A 14 (sp+1)=O (Qh t):=by rw[<-hA,Qi,za (by omega),Qi,zb ⟨rfl,rfl⟩]
  have A15t:A 15 (sp+1)=0:=by rw[<-hA,Qi,zb ⟨rfl,rfl⟩]
  have rtA:QI A t:=Q6 (fun i=>⟨A0 1 i (by decide) (by decide),A0 3 i (by decide) (by decide)⟩) (fun i=>A0 4 i (by decide) (by decide)) t w3 rt;obtain⟨B,eB,wB⟩:=iht.1 w1 (sp+1) (g+1) p A rtA A14t A15t ((A0 0 6 (by decide) (by decide)).trans h6) (by omega) (by omega) (by omega);rw[eB];have B0:∀d i,d≠13->d≠14->d≠15->¬(d=0/\i=6)->B d i=S d i:=fun d i d1 d2 d3 d4=>(wB.1 d i d1 d2 d3 d4).trans (A0 d i d2 d3);have rfB:QI B f:=Q6 (fun i=>⟨B0 1 i (by decide) (by decide) (by decide) (by omega),B0 3 i (by decide) (by decide) (by decide) (by omega)⟩) (fun i=>B0 4 i (by decide) (by decide) (by decide) (by omega)) f w4 rf
  obtain⟨D,eD,wD,D14,D15⟩:=ihf.2 w2 sp (g+1+(2*(Qb t).length-1)) (p+(Qb t).length) B x (k+1) n rfB hx (by rw[B0 1 x (by decide) (by decide) (by decide) (by omega)];exact h1) hn ((B0 3 x (by decide) (by decide) (by decide) (by omega)).trans h3) (by omega) (fun i hi=>by
   rw[B0 4 _ (by decide) (by decide) (by decide) (by omega),show k+1+i=k+(i+1) from by omega];exact h4 (i+1) (by omega)) ((wB.2.2.2.2 sp (by omega)).1.trans ((A14 sp (by omega)).trans h14)) ((wB.2.2.2.2 sp (by omega)).2.trans A15s) wB.2.1 (by omega) (by omega) (by omega)
  rw[eD];have AW:QcM S A p [] sp:=⟨fun d i d1 d2 d3 d4=>A0 d i d2 d3,(A0 0 6 (by decide) (by decide)).trans h6,fun i hi=>A0 13 i (by decide) (by decide),fun i hi=>absurd hi (by simp),fun i hi=>⟨A14 i (by omega),A15 i hi⟩⟩;refine⟨D,?_,?_,D14.trans ((wB.2.2.2.2 sp (by omega)).1.trans (A14 sp (by omega))),D15⟩
  ·rw[show g+1+(2*(Qb t).length-1)+2*(Qb f).length=g+2*(Qb (.add t f)).length from by omega]
  ·exact Qfe (Qfe AW wB (by omega)) wD (zo sp)
 ·have hkl:(Qc (.null:Qd)).length=0:=rfl;rw[hkl] at hk;exact⟨S,rfl,⟨fun _ _ _ _ _ _=>rfl,h6,fun _ _=>rfl,fun i hi=>absurd hi (by simp[Qb]),fun _ _=>⟨rfl,rfl⟩⟩,rfl,by rw[h15];congr 1⟩
theorem QcY(hf1:Fx f1){S:MS}{t:Qd}(w:Qu t)(ht:Qp t)(r:QI S t)(h4:S 0 4=O (Qh t))(hl:(Qb t).length<=64):∃S',f1 (36,0,[V 0],[],S)=some (none,S')/\(∀c i,c≠13->c≠14->c≠15->¬(c=0/\i=6)->S' c i=S c i)/\S' 0 6=O (Qb t).length/\∀i,i<(Qb t).length->S' 13 i=O ((Qb t).getD i 0):=by
 have hsl:=QaL ht w;rw[Ees hf1,h4,Qav hf1 _ hsl];simp only[zz];rw[EdM hf1,za (by decide)];rw[show Ua S 0 6 0 0 4=O (Qh t) from h4];obtain⟨S',e,wk⟩:=(Qin hf1 t w).1 ht 0 0 0 (Ua (Ua (Ua S 0 6 0) 14 0 (O (Qh t))) 15 0 0) (Q6 (S:=S) (S':=Ua (Ua (Ua S 0 6 0) 14 0 (O (Qh t))) 15 0 0) (fun i=>⟨rfl,rfl⟩) (fun i=>rfl) t w r) rfl rfl rfl (by omega) (by omega) (by omega);refine⟨S',?_,fun c i h1 h2 h3 h4=>?_,?_,fun i hi=>?_⟩
 ·refine Eq.trans e ?_;rw[EaO hf1,zb (show O _<1024 from (Qq (b:=1024) (by omega) (by omega)).mpr (by omega)),za (by decide)]
 ·rw[wk.1 c i h1 h2 h3 h4,Qi,za (by omega),Qi,za (by omega),Qi,za (by omega)]
 ·rw[wk.2.1,zL]
 ·have:=wk.2.2.2.1 i hi;rw[zL] at this;exact this
end Walk
def QaI(Q:Qd->Prop):Qd->Prop
 | .arg c=>Q (.arg c)
 | .op2 o (.arg x) f=>Q (.op2 o (.arg x) f)/\QaI Q f
 | .add t f=>QaI Q t/\QaI Q f
 |_=>True
theorem QbR{Q Q':Qd->Prop}:∀t,Qu t->(∀u,Qp u->Qh u∈Qb t->Q u->Q' u)->QaI Q t->QaI Q' t:=Q3
 (fun c _ h q=>h (.arg c) trivial (by simp[Qh,Qb]) q)
 (fun o x f _ ih h q=>⟨h (.op2 o (.arg x) f) trivial (by simp[Qh,Qb]) q.1,ih (fun u hu hm=>h u hu (by simp only[Qb,zc];exact Or.inl hm)) q.2⟩)
 (fun t f _ iht ihf h q=>⟨iht (fun u hu hm=>h u hu (by simp only[Qb,zc];exact Or.inl hm)) q.1,ihf (fun u hu hm=>h u hu (by simp only[Qb,zc];exact Or.inr hm)) q.2⟩) (fun _ _=>trivial)
theorem QdM{Q:Qd->Prop}:∀ {t:Qd},Qp t->QaI Q t->Q t
 | .arg _,_,q=>q
 | .op2 _ (.arg _) _,_,q=>q.1
theorem Qc1{Q:Qd->Prop}:∀ {f:Qd},Qu f->QaI Q f->∀u∈Qc f,QaI Q u
 | .add t f,w,q,u,hu=>by
  rcases zt.mp hu with e | e
  ·subst e;exact q.1
  ·exact Qc1 w.2.2.2 q.2 u e
 | .null,_,_,u,hu=>absurd hu (by simp[Qc])
 | .arg _,_,_,u,hu=>absurd hu (by simp[Qc])
 | .op2 _ (.arg _) _,_,_,u,hu=>absurd hu (by simp[Qc])
theorem QdC:∀t,Qu t->Qp t->Qh t∈Qb t
 | .arg c,_,_=>by simp[Qh,Qb]
 | .op2 _ (.arg x) f,_,_=>by simp[Qh,Qb]
theorem QgL:∀ {f:Qd},Qu f->∀u∈Qc f,∀x∈Qb u,x∈Qb f
 | .add t f,w,u,hu,x,hx=>by
  simp only[Qb,zc];rcases zt.mp hu with e | e
  ·subst e;exact Or.inl hx
  ·exact Or.inr (QgL w.2.2.2 u e x hx)
 | .null,_,u,hu,_,_=>absurd hu (by simp[Qc])
 | .arg _,_,u,hu,_,_=>absurd hu (by simp[Qc])
 | .op2 _ (.arg _) _,_,u,hu,_,_=>absurd hu (by simp[Qc])
theorem QdR:∀t,Qu t->∀x∈Qb t,x<64:=Q3
 (fun c hc x hx=>by simp only[Qb,zi] at hx;omega)
 (fun o y f w ih x hx=>by
  simp only[Qb,zc,zi] at hx;rcases hx with hx | hx
  ·exact ih x hx
  ·rw[hx];exact w.1.2)
 (fun t f _ iht ihf x hx=>by
  simp only[Qb,zc] at hx;rcases hx with hx | hx
  ·exact iht x hx
  ·exact ihf x hx) (fun x hx=>absurd hx (by simp[Qb]))
def QaF(S:MS)(p:Nat)(l:List Nat)(tot:Nat):Prop:=S 0 6=O tot/\p+l.length<=tot/\tot<=64/\∀i,i<l.length->S 13 (p+i)=O (l.getD i 0)
theorem QaQ{S:MS}{p tot:Nat}{l l':List Nat}(h:QaF S p (l++l') tot):QaF S p l tot:=by
 obtain⟨a,b,c,d⟩:=h;rw[zd] at b d;refine⟨a,by omega,c,fun i hi=>?_⟩;rw[d i (by omega)]
 congr 1
 simp only[zf,List.getElem?_append_left hi]
theorem QaV{S:MS}{p tot:Nat}{l l':List Nat}(h:QaF S p (l++l') tot):QaF S (p+l.length) l' tot:=by
 obtain⟨a,b,c,d⟩:=h;rw[zd] at b d;refine⟨a,by omega,c,fun i hi=>?_⟩;rw[zaj,d (l.length+i) (by omega)]
 congr 1
 simp only[zf,List.getElem?_append_right (Nat.le_add_right _ _),Nat.add_sub_cancel_left]
theorem QcQ{S S':MS}{p tot:Nat}{l:List Nat}(h0:S' 0 6=S 0 6)(h:∀i,S' 13 i=S 13 i)(g:QaF S p l tot):QaF S' p l tot:=
 ⟨h0.trans g.1,g.2.1,g.2.2.1,fun i hi=>(h _).trans (g.2.2.2 i hi)⟩
def Q5:Qd->Int32
 | .arg c=>1<<<(O c&&&31)
 | .op2 _ (.arg _) f=>Q5 f
 | .add t f=>Q5 t|||Q5 f
 |_=>0
theorem Qgo(acc:Int32):∀f,Qu f->QM f->(Qc f).foldl (fun a u=>a|||Q5 u) acc=acc|||Q5 f
 | .add t f,w,_=>by
  show (Qc f).foldl (fun a u=>a|||Q5 u) (acc|||Q5 t)=acc|||(Q5 t|||Q5 f);rw[Qgo (acc|||Q5 t) f w.2.2.2 w.2.1,Int32.or_assoc]
 | .null,_,_=>by show acc=acc|||0;rw[Int32.or_zero]
theorem Qa2{l:List Qd}{i:Nat}(h:i<l.length):l.getD i .null∈l:=by
 rw[zf,List.getElem?_eq_getElem h];exact zF h
theorem Qe5{α:Type}(g:α->Qd->α)(a:α)(l:List Qd){n:Nat}(h:n<l.length):(l.take (n+1)).foldl g a=g ((l.take n).foldl g a) (l.getD n .null):=by
 rw[zaq,List.foldl_append,zf,List.getElem?_eq_getElem h];rfl
section Loops
variable {f1:FT1}
theorem Qh4(hf1:Fx f1):∀t,Qu t->∀p tot S,(Qb t).Nodup->QI S t->QaF S p (Qb t) tot->∃S',f1 (37,2,[V 0,I (O p)],[],S)=f1 (37,2,[V 0,I (O (p+(Qb t).length))],[],S')/\(∀c i,c≠12->S' c i=S c i)/\(∀i,i∉Qb t->S' 12 i=S 12 i)/\QaI (fun u=>S' 12 (Qh u)=Q5 u) t:=by
 have step:∀(p tot:Nat) (S:MS) (x:Nat),x<64->p<tot->tot<=64->S 0 6=O tot->S 13 p=O x->f1 (37,2,[V 0,I (O p)],[],S)=f1 (37,28,[V 0,I (O p),I (O x)],[I 1],S):=fun p tot S x hx h1 h2 h3 h4=>by
  rw[Ead hf1,h3,zb ((Qq (by omega) (by omega)).mpr h1),zb (show O p<64 from (Qq (b:=64) (by omega) (by omega)).mpr (by omega)),zb (Qz (by omega) (by omega)),QA (by omega),h4,Qav hf1 S hx];simp only[zz]
 refine Q3 (fun c hc p tot S nd r g=>?_) (fun o x f w ih p tot S nd r g=>?_) (fun t f w iht ihf p tot S nd r g=>?_) (fun p tot S nd r g=>?_)
 ·have e13:S 13 p=O c:=g.2.2.2 0 (by simp[Qb]);have hp:p+1<=tot:=g.2.1;have e1:S 1 c=0:=r;rw[step p tot S c (by omega) (by omega) g.2.2.1 g.1 e13,EO hf1,za (by decide),zb (Qz (by omega) (by omega)),QA (by omega),e1,zb rfl,zb (show O c<8 from (Qq (b:=8) (by omega) (by omega)).mpr hc),Qx];refine⟨_,rfl,fun d i hd=>by rw[Qi,za (by omega)],fun i hi=>?_,?_⟩
  ·rw[Qi,za]
   rintro ⟨-,e⟩
   exact hi (by rw[e];simp[Qb])
  ·show Ua S 12 c _ 12 c=_;rw[Qi,zb ⟨rfl,rfl⟩];rfl
 ·obtain⟨r1,r3,r4,rf⟩:=r;have w':=w;obtain⟨⟨w1,w2⟩,w3,⟨w4,w5⟩,w6,w7⟩:=w;have ep:Qb (.op2 o (.arg x) f)=Qb f++[x]:=rfl;rw[ep] at nd g;obtain⟨nd1,-,nd3⟩:=zl.mp nd;have hxf:x∉Qb f:=fun h=>nd3 x h x (by simp) rfl;obtain⟨S',e,F,F12,A⟩:=ih p tot S nd1 rf (QaQ g);have g':=QaV g;have hp:p+(Qb f).length+1<=tot:=g'.2.1;have e13:S' 13 (p+(Qb f).length)=O x:=by
   rw[F 13 _ (by decide)];exact g'.2.2.2 0 (by simp)
  have tl:=g.2.2.1;rw[e,step _ tot S' x w2 (by omega) tl ((F 0 6 (by decide)).trans g.1) e13,EO hf1,za (by decide),zb (Qz (by omega) w2),QA (a:=x) (by omega)];have k1:S' 1 x≠0:=by rw[F 1 x (by decide),r1];exact QbU
  have k3:S' 3 x=O (Qc f).length:=(F 3 x (by decide)).trans r3;rw[za k1,QaS hf1 w2 k3 w5];simp only[zz];rw[EeA hf1];have key:=Qaw (fun j=>f1 (37,77,[V 0,I (O (p+(Qb f).length)),I (O x),I (((Qc f).take j).foldl (fun a u=>a|||Q5 u) 0),I (O (Qc f).length),I (O j)],[],S')) (n:=(Qc f).length) fun j hj=>by
   show f1 _=f1 _;have hm:=Qa2 hj;obtain⟨ut,uw⟩:=QaR w7 _ hm;have us:=QaL ut uw;rw[Eal hf1,zb ((Qq (by omega) (by omega)).mpr hj),zb (show O j<8 from (Qq (b:=8) (by omega) (by omega)).mpr (by omega)),Qaq hf1 S' w2 (by omega),F 4 _ (by decide),r4 j hj];simp only[zz];rw[Efu hf1,Qav hf1 S' us];simp only[zz];rw[EcJ hf1,za (by decide),zb (Qz (by omega) us),QA (by omega),Qx,Qe5 _ _ _ hj];rw[show S' 12 (Qh ((Qc f).getD j .null))=Q5 ((Qc f).getD j .null) from QdM (Q:=fun u=>S' 12 (Qh u)=Q5 u) ut (Qc1 w7 A _ hm)]
  have key':f1 (37,77,[V 0,I (O (p+(Qb f).length)),I (O x),I 0,I (O (Qc f).length),I 0],[],S')=f1 (37,77,[V 0,I (O (p+(Qb f).length)),I (O x),I (Q5 f),I (O (Qc f).length),I (O (Qc f).length)],[],S'):=by
   refine Eq.trans ?_ (key.trans ?_)
   ·rfl
   ·show f1 _=f1 _;rw[List.take_length,Qgo 0 f w7 w6,Int32.zero_or]
  rw[key',Eal hf1,za zv,zb (Qz (by omega) w2),QA (by omega),Qx];refine⟨Ua S' 12 x (Q5 f),?_,fun d i hd=>by rw[Qi,za (by omega)];exact F d i hd,fun i hi=>?_,?_,?_⟩
  ·rw[ep,zd];rfl
  ·rw[ep] at hi;simp only[zc,zi,not_or] at hi;rw[Qi,za (fun q=>hi.2 q.2)];exact F12 i hi.1
  ·show Ua S' 12 x _ 12 x=_;rw[Qi,zb ⟨rfl,rfl⟩];rfl
  ·refine QbR f w7 (fun u hu hm q=>?_) A;rw[Qi,za (fun e=>hxf (by rw[<-e.2];exact hm))];exact q
 ·have ep:Qb (.add t f)=Qb t++Qb f:=rfl;rw[ep] at nd g;obtain⟨nd1,nd2,nd3⟩:=zl.mp nd;obtain⟨A,eA,FA,FA12,AA⟩:=iht p tot S nd1 r.1 (QaQ g);obtain⟨w1,w2,w3,w4⟩:=w;obtain⟨B,eB,FB,FB12,AB⟩:=ihf (p+(Qb t).length) tot A nd2 (Q6 (fun i=>⟨FA 1 i (by decide),FA 3 i (by decide)⟩) (fun i=>FA 4 i (by decide)) f w4 r.2) (QcQ (FA 0 6 (by decide)) (fun i=>FA 13 i (by decide)) (QaV g));refine⟨B,?_,fun d i hd=>(FB d i hd).trans (FA d i hd),fun i hi=>?_,?_,AB⟩
  ·rw[eA,eB,ep,zd,zaj]
  ·rw[ep,zc,not_or] at hi;exact (FB12 i hi.2).trans (FA12 i hi.1)
  ·exact QbR t w3 (fun u hu hm q=>by rw[FB12 _ (fun h=>nd3 _ hm _ h rfl)];exact q) AA
 ·exact⟨S,rfl,fun _ _ _=>rfl,fun _ _=>rfl,trivial⟩
end Loops
def QbA(a v:Int32):Int32:=if v<a then v else a
def QR:Qd->List Int32
 | .arg c=>[O c]
 | .op2 o (.arg _) f=>[if o = .iand then (QR f).foldl QbA 64 else QbA ((QR f).getD ((QR f).length-1) 0) ((QR f).getD 0 0)]
 | .add t f=>QR t++QR f
 |_=>[]
def QaH:Qd->List Int32
  | .arg c=>[1<<<(O c&&&31)]
  | .op2 o (.arg _) f=>[if o = .iand then (QaH f).foldl (· ||| ·) 0 else (QaH f).getD 0 0|||(QaH f).getD ((QaH f).length-1) 0]
  | .add t f=>QaH t++QaH f
  |_=>[]
def QU(t:Qd):Int32:=(QR t).getD 0 0
def Qag(t:Qd):Int32:=(QaH t).getD 0 0
theorem QjB:∀t,Qp t->QR t=[QU t]
 | .arg _,_=>rfl
 | .op2 _ (.arg _) _,_=>rfl
theorem Qhl:∀t,Qp t->QaH t=[Qag t]
 | .arg _,_=>rfl
 | .op2 _ (.arg _) _,_=>rfl
theorem QcF:∀f,Qu f->QM f->QR f=(Qc f).map QU
 | .add t f,w,_=>by show QR t++QR f=QU t::(Qc f).map QU;rw[QjB t w.1,QcF f w.2.2.2 w.2.1];rfl
 | .null,_,_=>rfl
theorem QfH:∀f,Qu f->QM f->QaH f=(Qc f).map Qag
 | .add t f,w,_=>by show QaH t++QaH f=Qag t::(Qc f).map Qag;rw[Qhl t w.1,QfH f w.2.2.2 w.2.1];rfl
 | .null,_,_=>rfl
theorem QcZ(g:Qd->Int32){l:List Qd}{i:Nat}(h:i<l.length):(l.map g).getD i 0=g (l.getD i .null):=by
 simp only[zf,List.getElem?_map,List.getElem?_eq_getElem h,Option.map_some,Option.getD_some]
theorem QeL{o:Jvm.Binary}{x:Nat}{f:Qd}(w:Qu (.op2 o (.arg x) f)):QU (.op2 o (.arg x) f)=(if o = .iand then (Qc f).foldl (fun a u=>QbA a (QU u)) 64 else QbA (QU ((Qc f).getD ((Qc f).length-1) .null)) (QU ((Qc f).getD 0 .null))):=by
 obtain⟨-,-,⟨w4,w5⟩,w6,w7⟩:=w;show (if o = .iand then (QR f).foldl QbA 64 else QbA ((QR f).getD ((QR f).length-1) 0) ((QR f).getD 0 0))=_;rw[QcF f w7 w6,List.foldl_map,zh,QcZ _ (by omega),QcZ _ (by omega)]
theorem QfT{o:Jvm.Binary}{x:Nat}{f:Qd}(w:Qu (.op2 o (.arg x) f)):Qag (.op2 o (.arg x) f)=(if o = .iand then (Qc f).foldl (fun a u=>a|||Qag u) 0 else Qag ((Qc f).getD 0 .null)|||Qag ((Qc f).getD ((Qc f).length-1) .null)):=by
  obtain⟨-,-,⟨w4,w5⟩,w6,w7⟩:=w;show (if o = .iand then (QaH f).foldl (· ||| ·) 0 else (QaH f).getD 0 0|||(QaH f).getD ((QaH f).length-1) 0)=_;rw[QfH f w7 w6,List.foldl_map,zh,QcZ _ (by omega),QcZ _ (by omega)]
def QaX(d:Nat):Nat->Int32
 |0=>1
 |i+1=>if i+2<=d then QaX d i*O (i+2) else QaX d i
def QN:Qd->Int32
 | .arg _=>1
 | .op2 o (.arg _) f=>QN f*(if o = .iand then QaX (Qc f).length 7 else 2)
 | .add t f=>QN t*QN f
 |_=>1
section Fst
variable {f1:FT1}
theorem QdY(hf1:Fx f1)(S:MS){x:Nat}(hx:x<64):f1 (27,0,[V 0,I (O x)],[],S)=some (some (I (S 20 x)),S):=by
 rw[Eb5 hf1,Qav hf1 S hx];simp only[zz];rw[Efs hf1,za (by decide),zb (Qz (by omega) hx),QA (by omega)]
theorem QeB(hf1:Fx f1)(S:MS){x:Nat}(hx:x<64):f1 (28,0,[V 0,I (O x)],[],S)=some (some (I (S 21 x)),S):=by
 rw[EdJ hf1,Qav hf1 S hx];simp only[zz];rw[EbC hf1,za (by decide),zb (Qz (by omega) hx),QA (by omega)]
theorem Qjv(hf1:Fx f1):∀t,Qu t->∀p tot S,(Qb t).Nodup->QI S t->QaF S p (Qb t) tot->∃S',f1 (69,2,[V 0,I (O p)],[],S)=f1 (69,2,[V 0,I (O (p+(Qb t).length))],[],S')/\(∀c i,c≠20->c≠21->S' c i=S c i)/\(∀i,i∉Qb t->S' 20 i=S 20 i/\S' 21 i=S 21 i)/\QaI (fun u=>S' 20 (Qh u)=QU u/\S' 21 (Qh u)=Qag u) t:=by
 have step:∀(p tot:Nat) (S:MS) (x:Nat),x<64->p<tot->tot<=64->S 0 6=O tot->S 13 p=O x->f1 (69,2,[V 0,I (O p)],[],S)=f1 (69,28,[V 0,I (O p),I (O x)],[I 1],S):=fun p tot S x hx h1 h2 h3 h4=>by
  rw[Eag hf1,h3,zb ((Qq (by omega) (by omega)).mpr h1),zb (show O p<64 from (Qq (b:=64) (by omega) (by omega)).mpr (by omega)),zb (Qz (by omega) (by omega)),QA (by omega),h4,Qav hf1 S hx];simp only[zz]
 refine Q3 (fun c hc p tot S nd r g=>?_) (fun o x f w ih p tot S nd r g=>?_) (fun t f w iht ihf p tot S nd r g=>?_) (fun p tot S nd r g=>?_)
 ·have e13:S 13 p=O c:=g.2.2.2 0 (by simp[Qb]);have hp:p+1<=tot:=g.2.1;have e1:S 1 c=0:=r;rw[step p tot S c (by omega) (by omega) g.2.2.1 g.1 e13,EW hf1,za (by decide),zb (Qz (by omega) (by omega)),QA (by omega),e1,zb rfl,zb (show O c<8 from (Qq (b:=8) (by omega) (by omega)).mpr hc),Eaa hf1,Qx];refine⟨_,rfl,fun d i hd hd'=>by rw[Qi,za (by omega),Qi,za (by omega)],fun i hi=>?_,?_⟩
  ·have hi':i≠c:=fun e=>hi (by rw[e];simp[Qb]);exact⟨by rw[Qi,za (by omega),Qi,za (fun q=>hi' q.2)],by rw[Qi,za (fun q=>hi' q.2),Qi,za (by omega)]⟩
  ·show Ua _ 21 c _ 20 c=_/\Ua _ 21 c _ 21 c=_;exact⟨by rw[Qi,za (by omega),Qi,zb ⟨rfl,rfl⟩];rfl,by rw[Qi,zb ⟨rfl,rfl⟩];rfl⟩
 ·obtain⟨r1,r3,r4,rf⟩:=r;have w':=w;obtain⟨⟨w1,w2⟩,w3,⟨w4,w5⟩,w6,w7⟩:=w;have ep:Qb (.op2 o (.arg x) f)=Qb f++[x]:=rfl;rw[ep] at nd g;obtain⟨nd1,-,nd3⟩:=zl.mp nd;have hxf:x∉Qb f:=fun h=>nd3 x h x (by simp) rfl;obtain⟨S',e,F,F12,A⟩:=ih p tot S nd1 rf (QaQ g);have g':=QaV g;have hp:p+(Qb f).length+1<=tot:=g'.2.1;have e13:S' 13 (p+(Qb f).length)=O x:=by
   rw[F 13 _ (by decide) (by decide)];exact g'.2.2.2 0 (by simp)
  have tl:=g.2.2.1;rw[e,step _ tot S' x w2 (by omega) tl ((F 0 6 (by decide) (by decide)).trans g.1) e13,EW hf1,za (by decide),zb (Qz (by omega) w2),QA (a:=x) (by omega)];have k1:S' 1 x=QaZ o:=(F 1 x (by decide) (by decide)).trans r1;have k3:S' 3 x=O (Qc f).length:=(F 3 x (by decide) (by decide)).trans r3;have kv:∀j,j<(Qc f).length->S' 4 (8*x+j)=O (Qh ((Qc f).getD j .null))/\Qh ((Qc f).getD j .null)<64/\S' 20 (Qh ((Qc f).getD j .null))=QU ((Qc f).getD j .null)/\S' 21 (Qh ((Qc f).getD j .null))=Qag ((Qc f).getD j .null)/\Qh ((Qc f).getD j .null)≠x:=fun j hj=>by
   have hm:=Qa2 hj;obtain⟨ut,uw⟩:=QaR w7 _ hm;have q:=QdM (Q:=fun u=>S' 20 (Qh u)=QU u/\S' 21 (Qh u)=Qag u) ut (Qc1 w7 A _ hm);exact⟨(F 4 _ (by decide) (by decide)).trans (r4 j hj),QaL ut uw,q.1,q.2,fun e=>hxf (e▸QgL w7 _ hm _ (QdC _ uw ut))⟩
  have fin:∀v1 v2,v1=QU (.op2 o (.arg x) f)->v2=Qag (.op2 o (.arg x) f)->∃S'',f1 (69,95,[V 0,I (O (p+(Qb f).length)),I (O x)],[],Ua (Ua S' 20 x v1) 21 x v2)=f1 (69,2,[V 0,I (O (p+(Qb (.op2 o (.arg x) f)).length))],[],S'')/\(∀c i,c≠20->c≠21->S'' c i=S c i)/\(∀i,i∉Qb (.op2 o (.arg x) f)->S'' 20 i=S 20 i/\S'' 21 i=S 21 i)/\QaI (fun u=>S'' 20 (Qh u)=QU u/\S'' 21 (Qh u)=Qag u) (.op2 o (.arg x) f):=fun v1 v2 h1 h2=>by
   rw[Eaa hf1,Qx];refine⟨Ua (Ua S' 20 x v1) 21 x v2,?_,fun d i hd hd'=>by rw[Qi,za (by omega),Qi,za (by omega)];exact F d i hd hd',fun i hi=>?_,?_,?_⟩
   ·rw[ep,zd];rfl
   ·rw[ep] at hi;simp only[zc,zi,not_or] at hi;exact⟨by rw[Qi,za (by omega),Qi,za (fun q=>hi.2 q.2)];exact (F12 i hi.1).1,by rw[Qi,za (fun q=>hi.2 q.2),Qi,za (by omega)];exact (F12 i hi.1).2⟩
   ·show Ua _ 21 x _ 20 x=_/\Ua _ 21 x _ 21 x=_;exact⟨by rw[Qi,za (by omega),Qi,zb ⟨rfl,rfl⟩];exact h1,by rw[Qi,zb ⟨rfl,rfl⟩];exact h2⟩
   ·refine QbR f w7 (fun u hu hm q=>?_) A;have hne:Qh u≠x:=fun e=>hxf (e▸hm);exact⟨by rw[Qi,za (by omega),Qi,za (fun e=>hne e.2)];exact q.1,by rw[Qi,za (fun e=>hne e.2),Qi,za (by omega)];exact q.2⟩
  rw[za (show ¬S' 1 x=0 by rw[k1];exact QbU)];by_cases ho:o = .iand
  ·have hk:S' 1 x=1:=by rw[k1,QaZ,zb ho]
   rw[zb hk,EeY hf1,QaS hf1 w2 k3 w5];simp only[zz];rw[Eca hf1];have key:=Qaw (fun j=>f1 (70,15,[V 0,I (O x),I (((Qc f).take j).foldl (fun a u=>QbA a (QU u)) 64),I (((Qc f).take j).foldl (fun a u=>a|||Qag u) 0),I (O (Qc f).length),I (O j)],[],S')) (n:=(Qc f).length) fun j hj=>by
    show f1 _=f1 _;obtain⟨v4,v64,v20,v21,-⟩:=kv j hj;rw[Ew hf1,zb ((Qq (by omega) (by omega)).mpr hj),zb (show O j<8 from (Qq (b:=8) (by omega) (by omega)).mpr (by omega)),Qaq hf1 S' w2 (by omega),v4];simp only[zz];rw[Edo hf1,Qav hf1 S' v64];simp only[zz];rw[Efk hf1,za (by decide),zb (Qz (by omega) v64),QA (by omega),Qx,Qe5 _ _ _ hj,Qe5 _ _ _ hj,v20,v21];unfold QbA;by_cases q:QU ((Qc f).getD j .null)<((Qc f).take j).foldl (fun a u=>if QU u<a then QU u else a) 64
    ·rw[zb q,zb q]
    ·rw[za q,za q]
   have key':f1 (70,15,[V 0,I (O x),I 64,I 0,I (O (Qc f).length),I 0],[],S')=some (none,Ua (Ua S' 20 x ((Qc f).foldl (fun a u=>QbA a (QU u)) 64)) 21 x ((Qc f).foldl (fun a u=>a|||Qag u) 0)):=by
    refine Eq.trans ?_ (key.trans ?_)
    ·rfl
    ·show f1 _=_;rw[List.take_length,Ew hf1,za zv,Edr hf1,zb (Qz (by omega) w2),QA (by omega)]
   rw[key'];simp only[zz];rw[EaW hf1];exact fin _ _ (by rw[QeL w',zb ho]) (by rw[QfT w',zb ho])
  ·have hk:¬S' 1 x=1:=by rw[k1,QaZ,za ho];decide
   obtain⟨a4,a64,a20,a21,anx⟩:=kv 0 (by omega);obtain⟨b4,b64,b20,b21,bnx⟩:=kv ((Qc f).length-1) (by omega);rw[za hk,Ed6 hf1,QaS hf1 w2 k3 w5];simp only[zz];rw[EaT hf1,show (0:Int32)=O 0 from rfl,Qaq hf1 S' w2 (by omega),a4];simp only[zz];rw[Ea6 hf1,show O (Qc f).length-1=O ((Qc f).length-1) from Qba (b:=1) (by omega),Qaq hf1 S' w2 (by omega),b4];simp only[zz];rw[EbA hf1,QdY hf1 S' a64,a20];simp only[zz];rw[EbN hf1,QdY hf1 S' b64,b20];simp only[zz];have q2:∀v,v=QU (.op2 o (.arg x) f)->∃S'',(((f1 (28,0,[V 0,I (O (Qh ((Qc f).getD 0 .null)))],[],Ua S' 20 x v)).bind fun q=>f1 (71,63,[V 0,I (O x),I (O (Qc f).length),I (O (Qh ((Qc f).getD 0 .null))),I (O (Qh ((Qc f).getD ((Qc f).length-1) .null))),I (QU ((Qc f).getD 0 .null)),I (QU ((Qc f).getD ((Qc f).length-1) .null))],q.1.toList++[],q.2)).bind fun q=>f1 (69,95,[V 0,I (O (p+(Qb f).length)),I (O x)],q.1.toList,q.2))=f1 (69,2,[V 0,I (O (p+(Qb (.op2 o (.arg x) f)).length))],[],S'')/\(∀c i,c≠20->c≠21->S'' c i=S c i)/\(∀i,i∉Qb (.op2 o (.arg x) f)->S'' 20 i=S 20 i/\S'' 21 i=S 21 i)/\QaI (fun u=>S'' 20 (Qh u)=QU u/\S'' 21 (Qh u)=Qag u) (.op2 o (.arg x) f):=fun v hv=>by
    rw[QeB hf1 _ a64];simp only[zz];rw[Edx hf1,QeB hf1 _ b64];simp only[zz];rw[Eeg hf1,zb (Qz (by omega) w2),QA (by omega)];simp only[zz];refine fin _ _ hv ?_;rw[Qi,za (by omega),Qi,za (by omega),a21,b21,QfT w',za ho]
   rw[Edu hf1];by_cases q:QU ((Qc f).getD 0 .null)<QU ((Qc f).getD ((Qc f).length-1) .null)
   ·rw[zb q,zb (Qz (by omega) w2),QA (by omega)];exact q2 _ (by rw[QeL w',za ho,QbA,zb q])
   ·rw[za q,zb (Qz (by omega) w2),QA (by omega)];exact q2 _ (by rw[QeL w',za ho,QbA,za q])
 ·have ep:Qb (.add t f)=Qb t++Qb f:=rfl;rw[ep] at nd g;obtain⟨nd1,nd2,nd3⟩:=zl.mp nd;obtain⟨A,eA,FA,FA12,AA⟩:=iht p tot S nd1 r.1 (QaQ g);obtain⟨w1,w2,w3,w4⟩:=w;obtain⟨B,eB,FB,FB12,AB⟩:=ihf (p+(Qb t).length) tot A nd2 (Q6 (fun i=>⟨FA 1 i (by decide) (by decide),FA 3 i (by decide) (by decide)⟩) (fun i=>FA 4 i (by decide) (by decide)) f w4 r.2) (QcQ (FA 0 6 (by decide) (by decide)) (fun i=>FA 13 i (by decide) (by decide)) (QaV g));refine⟨B,?_,fun d i hd hd'=>(FB d i hd hd').trans (FA d i hd hd'),fun i hi=>?_,?_,AB⟩
  ·rw[eA,eB,ep,zd,zaj]
  ·rw[ep,zc,not_or] at hi;exact⟨(FB12 i hi.2).1.trans (FA12 i hi.1).1,(FB12 i hi.2).2.trans (FA12 i hi.1).2⟩
  ·exact QbR t w3 (fun u hu hm q=>by rw[(FB12 _ (fun h=>nd3 _ hm _ h rfl)).1,(FB12 _ (fun h=>nd3 _ hm _ h rfl)).2];exact q) AA
 ·exact⟨S,rfl,fun _ _ _ _=>rfl,fun _ _=>⟨rfl,rfl⟩,trivial⟩
theorem Qi2 (hf1:Fx f1) (S:MS) {d:Nat} (hd:d<=8):f1 (68,0,[V 0,I (O d)],[],S)=some (some (I (QaX d 7)),S):=by
  rw[EbL hf1];have go:∀m i,i+m=7->f1 (68,4,[V 0,I (O d),I (QaX d i),I (O (i+2))],[],S)=some (some (I (QaX d 7)),S):=fun m=>by
    induction m with
    | zero => intro i e; have e' : i = 7 := by omega
              subst e';rw[EaD hf1]
              split
              · rfl
              · rw[zb (by decide)]
    | succ m ih=>
      intro i e;rw[EaD hf1];by_cases q:i+2<=d
      · rw [za (by rw [Qq (by omega) (by omega)]; omega), za (show ¬ 8 < O (i + 2) by rw [show (8 : Int32) = O 8 from rfl, Qq (by omega) (by omega)]; omega), Qx, show QaX d i * O (i + 2) = QaX d (i + 1) from by simp only [QaX]; rw [zb q]]
        exact ih (i+1) (by omega)
      · rw [zb ((Qq (by omega) (by omega)).mpr (by omega))]
        have cst:∀k,i+k<=7->QaX d (i+k)=QaX d i:=fun k=>by
          induction k with
          | zero=>intro _;rfl
          | succ k ihk=>intro h;show (if i+k+2<=d then _ else QaX d (i+k))=_;rw[za (by omega)];exact ihk (by omega)
        rw[<-cst (7-i) (by omega),show i+(7-i)=7 from by omega]
  exact go 7 0 rfl
theorem Qfr(hf1:Fx f1):∀t,Qu t->∀p tot S v,QI S t->QaF S p (Qb t) tot->f1 (67,4,[V 0,I v,I (O p)],[],S)=f1 (67,4,[V 0,I (v*QN t),I (O (p+(Qb t).length))],[],S):=by
 have step:∀(p tot:Nat) (S:MS) (x:Nat) (v:Int32),x<64->p<tot->tot<=64->S 0 6=O tot->S 13 p=O x->f1 (67,4,[V 0,I v,I (O p)],[],S)=f1 (67,30,[V 0,I v,I (O p),I (O x)],[I (if S 1 x=0 then 0 else 1)],S):=fun p tot S x v hx h1 h2 h3 h4=>by
  rw[Ei hf1,h3,zb ((Qq (by omega) (by omega)).mpr h1),zb (show O p<64 from (Qq (b:=64) (by omega) (by omega)).mpr (by omega)),zb (Qz (by omega) (by omega)),QA (by omega),h4,Qb8 hf1 S hx];simp only[zz]
 refine Q3 (fun c hc p tot S v r g=>?_) (fun o x f w ih p tot S v r g=>?_) (fun t f w iht ihf p tot S v r g=>?_) (fun p tot S v r g=>?_)
 ·have e13:S 13 p=O c:=g.2.2.2 0 (by simp[Qb]);have hp:p+1<=tot:=g.2.1;have e1:S 1 c=0:=r;rw[step p tot S c v (by omega) (by omega) g.2.2.1 g.1 e13,zb e1,EG hf1,zb rfl,Qx];show _=f1 (_,_,[_,I (v*1),_],_,_);rw[Int32.mul_one];rfl
 ·obtain⟨r1,r3,r4,rf⟩:=r;obtain⟨⟨w1,w2⟩,w3,⟨w4,w5⟩,w6,w7⟩:=w;have ep:Qb (.op2 o (.arg x) f)=Qb f++[x]:=rfl;rw[ep] at g;have g':=QaV g;have hp:p+(Qb f).length+1<=tot:=g'.2.1;have e13:S 13 (p+(Qb f).length)=O x:=g'.2.2.2 0 (by simp);have tl:=g.2.2.1;rw[ih p tot S v rf (QaQ g),step _ tot S x _ w2 (by omega) tl g.1 e13,za (by rw[r1];exact QbU),EG hf1,za (by decide),QaS hf1 w2 r3 w5];simp only[zz];rw[EfB hf1,zb (Qz (by omega) w2),QA (by omega),r1,ep,zd];show _=f1 (_,_,[_,I (v*(QN f*_)),_],_,_);by_cases ho:o = .iand
  ·rw[QaZ,zb ho,zb rfl,Qi2 hf1 S w5];simp only[zz];rw[Ecd hf1,zb ho,Qx,Int32.mul_assoc];rfl
  ·rw[QaZ,za ho,za (by decide),za ho,Qx,Int32.mul_assoc];rfl
 ·have ep:Qb (.add t f)=Qb t++Qb f:=rfl;rw[ep] at g;rw[iht p tot S v r.1 (QaQ g),ihf _ tot S _ r.2 (QaV g),ep,zd,zaj,Int32.mul_assoc];rfl
 ·show _=f1 (_,_,[_,I (v*1),_],_,_);rw[Int32.mul_one];rfl
end Fst
def QaU(vs:List Int32)(m:Nat):Nat->Option Nat
 |0=>none
 |k+1=>match QaU vs m k with
  |none=>if m.testBit k=true then none else some k
  |some j=>if m.testBit k=true then some j else if vs.getD j 0<vs.getD k 0 then some k else some j
def QaA(vs:List Int32)(d:Nat):Nat->Nat->List Nat
 |0,_=>[]
 |r+1,m=>match QaU vs m d with
  |none=>[]
  |some j=>j::QaA vs d r (m|||2 ^ j)
def Q9:Qd->List (List Nat)
 | .arg c=>[[c]]
 | .op2 o (.arg _) f=>[if o = .iand then (QaA (QR f) (QR f).length (QR f).length 0).reverse.flatMap fun i=>(Q9 f).getD i [] else if (QR f).getD 0 0<(QR f).getD ((QR f).length-1) 0 then (Q9 f).flatMap id else (Q9 f).reverse.flatMap id]
 | .add t f=>Q9 t++Q9 f
 |_=>[]
def QC(t:Qd):List Nat:=(Q9 t).getD 0 []
def Qf:Qd->List Nat
 | .arg c=>[c]
 | .op2 _ (.arg _) f=>Qf f
 | .add t f=>Qf t++Qf f
 |_=>[]
theorem QgO:∀t,Qp t->Q9 t=[QC t]
 | .arg _,_=>rfl
 | .op2 _ (.arg _) _,_=>rfl
theorem QcG:∀f,Qu f->QM f->Q9 f=(Qc f).map QC
 | .add t f,w,_=>by show Q9 t++Q9 f=QC t::(Qc f).map QC;rw[QgO t w.1,QcG f w.2.2.2 w.2.1];rfl
 | .null,_,_=>rfl
theorem Qc9{vs:List Int32}{m:Nat}:∀k,(∀j,QaU vs m k=some j->j<k/\m.testBit j=false)/\(QaU vs m k=none->∀j,j<k->m.testBit j=true)
 |0=>⟨fun j h=>absurd h (by simp[QaU]),fun _ j hj=>absurd hj (by omega)⟩
 |k+1=>by
  obtain⟨a,b⟩:=Qc9 (vs:=vs) (m:=m) k;simp only[QaU];cases h:QaU vs m k with
  |none=>
   by_cases q:m.testBit k=true
   ·simp only[zb q];refine⟨fun j hj=>absurd hj (by simp),fun _ j hj=>?_⟩;by_cases e:j=k
    ·rw[e];exact q
    ·exact b h j (by omega)
   ·simp only[za q];refine⟨fun j hj=>?_,fun hj=>absurd hj (by simp)⟩;have e:k=j:=Option.some.inj hj;subst e;exact⟨by omega,by simpa using q⟩
  |some i=>
   obtain⟨a1,a2⟩:=a i h;by_cases q:m.testBit k=true
   ·simp only[zb q];refine⟨fun j hj=>?_,fun hj=>absurd hj (by simp)⟩;have e:i=j:=Option.some.inj hj;subst e;exact⟨by omega,a2⟩
   ·simp only[za q];by_cases r:vs.getD i 0<vs.getD k 0
    ·simp only[zb r];refine⟨fun j hj=>?_,fun hj=>absurd hj (by simp)⟩;have e:k=j:=Option.some.inj hj;subst e;exact⟨by omega,by simpa using q⟩
    ·simp only[za r];refine⟨fun j hj=>?_,fun hj=>absurd hj (by simp)⟩;have e:i=j:=Option.some.inj hj;subst e;exact⟨by omega,a2⟩
theorem Qge{vs:List Int32}{d:Nat}:∀r m (R:List Nat),R.length=r->(∀k,k∈R↔k<d/\m.testBit k=false)->R.Nodup->(QaA vs d r m).Perm R
 |0,m,R,hl,_,_=>by rw[List.length_eq_zero_iff.mp hl];exact List.Perm.refl _
 |r+1,m,R,hl,hR,nd=>by
  simp only[QaA];cases h:QaU vs m d with
  |none=>
   exfalso
   match R,hl,hR with
   |k::_,_,hR=>
    obtain⟨h1,h2⟩:=(hR k).mp (by simp);rw[(Qc9 d).2 h k h1] at h2;exact absurd h2 (by decide)
  |some j=>
   obtain⟨h1,h2⟩:=(Qc9 d).1 j h;have hj:j∈R:=(hR j).mpr ⟨h1,h2⟩;refine List.Perm.trans (List.Perm.cons j (Qge r (m|||2 ^ j) (R.erase j) ?_ (fun k=>?_) (nd.erase j))) (List.perm_cons_erase hj).symm
   ·rw[List.length_erase_of_mem hj,hl];rfl
   ·rw[nd.mem_erase_iff,hR k,Nat.testBit_or,Nat.testBit_two_pow];by_cases e:j=k
    ·subst e;simp
    ·have e':k≠j:=fun q=>e q.symm;simp[e,e']
theorem Qfj(vs:List Int32)(d:Nat):(QaA vs d d 0).Perm (List.range d):=
 Qge d 0 (List.range d) zal (fun k=>by simp) zat
theorem QjM{α:Type}(l:List (List α)):(List.range l.length).flatMap (fun i=>l.getD i [])=l.flatMap id:=by
 have h:(List.range l.length).map (fun i=>l.getD i [])=l:=List.ext_getElem (by simp) fun i h1 h2=>by
  rw[List.getElem_map,List.getElem_range,zf,List.getElem?_eq_getElem h2];rfl
 have h2:((List.range l.length).map (fun i=>l.getD i [])).flatMap id=l.flatMap id:=by rw[h]
 rw[zaG] at h2;exact h2
theorem Qjs:∀t,Qu t->((Q9 t).flatMap id).Perm (Qf t):=Q3
 (fun c _=>List.Perm.refl _)
 (fun o x f w ih=>by
  have hl:(QR f).length=(Q9 f).length:=by rw[QcF f w.2.2.2.2 w.2.2.2.1,QcG f w.2.2.2.2 w.2.2.2.1,zh,zh]
  show (([if o = .iand then (QaA (QR f) (QR f).length (QR f).length 0).reverse.flatMap fun i=>(Q9 f).getD i [] else if (QR f).getD 0 0<(QR f).getD ((QR f).length-1) 0 then (Q9 f).flatMap id else (Q9 f).reverse.flatMap id]:List (List Nat)).flatMap id).Perm (Qf f);rw[zg,zr,zk];show List.Perm (if o = .iand then _ else _) _
  split
  ·refine List.Perm.trans (zaL _ ((zy _).trans (Qfj _ _))) ?_;rw[hl,QjM];exact ih
  ·split
   ·exact ih
   ·exact (zaL _ (zy _)).trans ih)
 (fun t f _ iht ihf=>by
  show ((Q9 t++Q9 f).flatMap id).Perm (Qf t++Qf f);rw[zn];exact List.Perm.append iht ihf) (List.Perm.refl _)
theorem Qcw{t:Qd}(w:Qu t)(h:Qp t):(QC t).Perm (Qf t):=by
 have:=Qjs t w;rw[QgO t h,zg,zr,zk] at this;exact this
def QcD(S S':MS)(sp out:Nat)(l:List Nat):Prop:=(∀c i,c≠14->c≠22->S' c i=S c i)/\(∀i,i<sp->S' 14 i=S 14 i)/\(∀i,i<out->S' 22 i=S 22 i)/\(∀i,out+l.length<=i->S' 22 i=S 22 i)/\∀i,i<l.length->S' 22 (out+i)=O (l.getD i 0)
theorem Qis{S S' S'':MS}{sp sp' out:Nat}{l l':List Nat}(h:QcD S S' sp out l)(h':QcD S' S'' sp' (out+l.length) l')(hs:sp<=sp'):QcD S S'' sp out (l++l'):=by
 obtain⟨a1,a2,a3,a4,a5⟩:=h;obtain⟨b1,b2,b3,b4,b5⟩:=h';refine⟨fun c i h1 h2=>(b1 c i h1 h2).trans (a1 c i h1 h2),fun i hi=>(b2 i (by omega)).trans (a2 i hi),fun i hi=>(b3 i (by omega)).trans (a3 i hi),fun i hi=>?_,fun i hi=>?_⟩
 ·rw[zd] at hi;exact (b4 i (by omega)).trans (a4 i (by omega))
 ·rw[zd] at hi;by_cases q:i<l.length
  ·rw[b3 _ (by omega),a5 i q]
   congr 1
   simp only[zf,List.getElem?_append_left q]
  ·rw[show out+i=out+l.length+(i-l.length) from by omega,b5 _ (by omega)]
   congr 1
   simp only[zf,List.getElem?_append_right (Nat.le_of_not_lt q)]
def QcJ:Option Nat->Int32
 |none => -1
 |some j=>O j
theorem Qib:QcJ none = -1:=rfl
theorem Qja(j:Nat):QcJ (some j)=O j:=rfl
def Qd4(vs:List Int32):Option Nat->Int32
 |none => -1
 |some j=>vs.getD j 0
theorem Qgu:∀m,m<256->∀k,k<8->(((O m>>>(O k&&&31))&&&1=0)↔m.testBit k=false):=by decide +kernel
theorem Qe3:∀m,m<256->∀k,k<8->O m|||((1:Int32)<<<(O k&&&31))=O (m|||2 ^ k)/\m|||2 ^ k<256:=by decide +kernel
section Least
variable {f1:FT1}
theorem Qhd(hf1:Fx f1){S:MS}{x d m:Nat}{vs:List Int32}{sl:Nat->Nat}(hx:x<64)(hd:d<=8)(hm:m<256)(hk:∀j,j<d->S 4 (8*x+j)=O (sl j)/\sl j<64/\S 20 (sl j)=vs.getD j 0)(v2 v5 v6:Int32):f1 (73,37,[V 0,I (O x),I v2,I (O d),I (O m),I v5,I v6,I (-1),I (-1),I 0],[],S)=f1 (73,114,[V 0,I (O x),I v2,I (O d),I (O m),I v5,I v6,I (QcJ (QaU vs m d)),I (Qd4 vs (QaU vs m d)),I (O d)],[],S):=by
 refine Eq.trans ?_ ((Qaw (fun k=>f1 (73,37,[V 0,I (O x),I v2,I (O d),I (O m),I v5,I v6,I (QcJ (QaU vs m k)),I (Qd4 vs (QaU vs m k)),I (O k)],[],S)) (n:=d) fun k hkd=>?_).trans ?_)
 ·rfl
 ·show f1 _=f1 _;obtain⟨k4,k64,k20⟩:=hk k hkd;rw[EaS hf1,zb ((Qq (by omega) (by omega)).mpr hkd),zb (show O k<8 from (Qq (b:=8) (by omega) (by omega)).mpr (by omega)),Qaq hf1 S hx (by omega),k4];simp only[zz];rw[Ebr hf1];have hb:=Qgu m hm k (by omega);simp only[QaU];by_cases q:m.testBit k=true
  ·rw[za (fun e=>by rw[hb.mp e] at q;exact absurd q (by decide)),Qx];cases QaU vs m k with
   |none=>simp only[zb q]
   |some j=>simp only[zb q]
  ·have q':m.testBit k=false:=by simpa using q
   rw[zb (hb.mpr q'),Qav hf1 S k64];simp only[zz];rw[Ebb hf1,za (by decide),zb (Qz (by omega) k64),zb (Qz (by omega) k64),QA (by omega),Qx,k20];have ob:=(Qc9 (vs:=vs) (m:=m) k).1;cases h:QaU vs m k with
   |none=>
    simp only[za q,QcJ,Qd4];exact zb (by decide)
   |some j=>
    obtain⟨hj,-⟩:=ob j h;simp only[za q];refine (za (Qap (by omega))).trans ?_;by_cases r:vs.getD j 0<vs.getD k 0
    ·refine (zb r).trans ?_;simp only[zb r,QcJ,Qd4]
    ·refine (za r).trans ?_;simp only[za r]
 ·show f1 _=_;rw[EaS hf1,za zv]
theorem Qf6(hf1:Fx f1){x d:Nat}{vs:List Int32}{sl:Nat->Nat}(hx:x<64)(hd:d<=8)(v2:Int32):∀r r0 m top S,r0+r=d->m<256->top+r<=128->(∀j,j<d->S 4 (8*x+j)=O (sl j)/\sl j<64/\S 20 (sl j)=vs.getD j 0)->∃S',f1 (73,15,[V 0,I (O x),I v2,I (O d),I (O m),I (O top),I (O r0)],[],S)=some (some (I (O (top+(QaA vs d r m).length))),S')/\(∀c i,¬(c=14/\top<=i)->S' c i=S c i)/\∀i,i<(QaA vs d r m).length->S' 14 (top+i)=O (sl ((QaA vs d r m).getD i 0))
 |0,r0,m,top,S,e,hm,ht,hk=>by
  have e':r0=d:=by omega
  subst e';rw[EJ hf1,za zv];exact⟨S,rfl,fun _ _ _=>rfl,fun i hi=>absurd hi (by simp[QaA])⟩
 |r+1,r0,m,top,S,e,hm,ht,hk=>by
  rw[EJ hf1,zb ((Qq (by omega) (by omega)).mpr (by omega)),zb (show O r0<8 from (Qq (b:=8) (by omega) (by omega)).mpr (by omega)),Qhd hf1 hx hd hm hk,Eci hf1];have ob:=(Qc9 (vs:=vs) (m:=m) d).1;simp only[QaA];cases h:QaU vs m d with
  |none=>
   rw[Qib,zb (show (-1:Int32)<0 by decide)];exact⟨S,rfl,fun _ _ _=>rfl,fun i hi=>absurd hi (by simp)⟩
  |some j=>
   obtain⟨hj,-⟩:=ob j h;obtain⟨j4,j64,j20⟩:=hk j hj;rw[Qja];obtain⟨m1,m2⟩:=Qe3 m hm j (by omega);rw[za (Qap (by omega)),Qaq hf1 S hx (by omega),j4,m1];simp only[zz];rw[Ecq hf1,zb (show O top<128 from (Qq (b:=128) (by omega) (by omega)).mpr (by omega)),zb (Qz (by omega) (by omega)),QA (by omega),Qx,Qx];obtain⟨S',e',F,G⟩:=Qf6 hf1 hx hd v2 r (r0+1) (m|||2 ^ j) (top+1) (Ua S 14 top (O (sl j))) (by omega) m2 (by omega) hk;refine⟨S',?_,fun c i hc=>?_,fun i hi=>?_⟩
   ·rw[e',zs,show top+1+(QaA vs d r (m|||2 ^ j)).length=top+((QaA vs d r (m|||2 ^ j)).length+1) from by omega]
   ·rw[F c i (by omega),Qi,za (by omega)]
   ·rw[zs] at hi;by_cases q:i=0
    ·subst q;rw[F 14 _ (by omega),Qi,zb ⟨rfl,rfl⟩];rfl
    ·obtain⟨i',hi'⟩:∃i',i=i'+1:=⟨i-1,by omega⟩;subst hi';rw[show top+(i'+1)=top+1+i' from by omega,G i' (by omega)];rfl
theorem Qg5(hf1:Fx f1){x d:Nat}{sl:Nat->Nat}{v2 v4 v5 v6 v7:Int32}(hx:x<64)(hd:d<=8):∀r k top S,k+r=d->top+r<=128->(∀j,j<d->S 4 (8*x+j)=O (sl j))->∃S',f1 (74,52,[V 0,I (O x),I v2,I (O d),I v4,I v5,I v6,I v7,I (O top),I (O k)],[],S)=some (some (I (O (top+r))),S')/\(∀c i,¬(c=14/\top<=i)->S' c i=S c i)/\∀i,i<r->S' 14 (top+i)=O (sl (if v6<v7 then d-1-(k+i) else k+i))
 |0,k,top,S,e,ht,hk=>by
  have e':k=d:=by omega
  subst e';rw[ET hf1,za zv];exact⟨S,rfl,fun _ _ _=>rfl,fun i hi=>absurd hi (by omega)⟩
 |r+1,k,top,S,e,ht,hk=>by
  rw[ET hf1,zb ((Qq (by omega) (by omega)).mpr (by omega)),zb (show O k<8 from (Qq (b:=8) (by omega) (by omega)).mpr (by omega))];have go:∀(v10:Int32) (a:Nat),a=(if v6<v7 then d-1-k else k)->∃S',f1 (74,92,[V 0,I (O x),I v2,I (O d),I v4,I v5,I v6,I v7,I (O top),I (O k),I v10],[I (O (sl a))],S)=some (some (I (O (top+(r+1)))),S')/\(∀c i,¬(c=14/\top<=i)->S' c i=S c i)/\∀i,i<r+1->S' 14 (top+i)=O (sl (if v6<v7 then d-1-(k+i) else k+i)):=fun v10 a ha=>by
   rw[EaX hf1,zb (show O top<128 from (Qq (b:=128) (by omega) (by omega)).mpr (by omega)),zb (Qz (by omega) (by omega)),QA (by omega),Qx,Qx];obtain⟨S',e',F,G⟩:=Qg5 hf1 (v2:=v2) (v4:=v4) (v5:=v5) (v6:=v6) (v7:=v7) hx hd r (k+1) (top+1) (Ua S 14 top (O (sl a))) (by omega) (by omega) hk;refine⟨S',?_,fun c i hc=>?_,fun i hi=>?_⟩
   ·rw[e',show top+1+r=top+(r+1) from by omega]
   ·rw[F c i (by omega),Qi,za (by omega)]
   ·by_cases q:i=0
    ·subst q;rw[F 14 _ (by omega),Qi,zb ⟨rfl,rfl⟩,ha];rfl
    ·obtain⟨i',hi'⟩:∃i',i=i'+1:=⟨i-1,by omega⟩;subst hi';rw[show top+(i'+1)=top+1+i' from by omega,G i' (by omega),show k+1+i'=k+(i'+1) from by omega]
  by_cases q:v6<v7
  ·rw[zb q,show O d-1=O (d-1) from Qba (b:=1) (by omega),Qba (by omega),Qaq hf1 S hx (by omega),hk _ (by omega)];simp only[zz];exact go _ _ (by rw[zb q])
  ·rw[za q,Qaq hf1 S hx (by omega),hk _ (by omega)];simp only[zz];exact go _ _ (by rw[za q])
end Least
def QcR(S:MS)(sp:Nat):List Qd->Prop
 |[]=>True
 |u::r=>S 14 (sp+r.length)=O (Qh u)/\QcR S sp r
theorem QgZ{S S':MS}{sp:Nat}:∀ {l:List Qd},(∀i,i<sp+l.length->S' 14 i=S 14 i)->QcR S sp l->QcR S' sp l
 |[],_,_=>trivial
 |u::r,h,k=>⟨(h _ (by simp)).trans k.1,QgZ (fun i hi=>h i (by simp only[zs];omega)) k.2⟩
theorem Qea{S:MS}{sp:Nat}:∀(l:List Qd),(∀i,i<l.length->S 14 (sp+(l.length-1-i))=O (Qh (l.getD i .null)))->QcR S sp l
 |[],_=>trivial
 |u::r,h=>⟨by have:=h 0 (by simp);simpa using this,Qea r fun i hi=>by
   have:=h (i+1) (by simp;omega);rw[show (u::r).length-1-(i+1)=r.length-1-i from by simp only[zs];omega] at this
   simpa using this⟩
theorem Qby(g:Qd->List Nat)(hg:∀t f,g (.add t f)=g t++g f)(h0:g .null=[]):∀f,Qu f->QM f->(Qc f).flatMap g=g f
 | .add t f,w,_=>by
  show (t::Qc f).flatMap g=_;rw[zg,Qby g hg h0 f w.2.2.2 w.2.1,hg]
 | .null,_,_=>by show [].flatMap g=_;rw[h0];rfl
theorem Qhr{l:List Qd}{i:Nat}(h:i<l.length):l.reverse.getD i .null=l.getD (l.length-1-i) .null:=by
 simp only[zf,List.getElem?_reverse h]
theorem QgR(l:List Qd):(List.range l.length).map (fun i=>l.getD i .null)=l:=List.ext_getElem (by simp) fun i h1 h2=>by
 rw[List.getElem_map,List.getElem_range,zf,List.getElem?_eq_getElem h2];rfl
theorem Qdm{S:MS}:∀ {f:Qd},Qu f->QI S f->∀u∈Qc f,QI S u
 | .add t f,w,r,u,hu=>by
  rcases zt.mp hu with e | e
  ·subst e;exact r.1
  ·exact Qdm w.2.2.2 r.2 u e
 | .null,_,_,u,hu=>absurd hu (by simp[Qc])
 | .arg _,_,_,u,hu=>absurd hu (by simp[Qc])
 | .op2 _ (.arg _) _,_,_,u,hu=>absurd hu (by simp[Qc])
section Lst
variable {f1:FT1}
def QeN(f1:FT1)(t:Qd):Prop:=∀sp out g S,QI S t->QaI (fun u=>S 20 (Qh u)=QU u) t->S 14 sp=O (Qh t)->out+(Qf t).length<=8->sp+(Qb t).length<=128->g+(Qb t).length<=1024->∃S',f1 (72,56,[V 0,I (O (sp+1)),I (O out),I (O g)],[],S)=f1 (72,56,[V 0,I (O sp),I (O (out+(Qf t).length)),I (O (g+(Qb t).length))],[],S')/\QcD S S' sp out (QC t)
theorem Qf1:∀(l:List Qd),(∀u∈l,Qu u/\Qp u/\QeN f1 u)->∀sp out g S,(∀u∈l,QI S u/\QaI (fun u=>S 20 (Qh u)=QU u) u)->QcR S sp l->out+(l.flatMap Qf).length<=8->sp+(l.flatMap Qb).length<=128->g+(l.flatMap Qb).length<=1024->∃S',f1 (72,56,[V 0,I (O (sp+l.length)),I (O out),I (O g)],[],S)=f1 (72,56,[V 0,I (O sp),I (O (out+(l.flatMap Qf).length)),I (O (g+(l.flatMap Qb).length))],[],S')/\QcD S S' sp out (l.flatMap QC)
 |[],_,sp,out,g,S,_,_,_,_,_=>⟨S,rfl,fun _ _ _ _=>rfl,fun _ _=>rfl,fun _ _=>rfl,fun _ _=>rfl,fun i hi=>absurd hi (by simp)⟩
 |u::r,h,sp,out,g,S,hr,hs,l1,l2,l3=>by
  obtain⟨uw,ut,ts⟩:=h u (by simp);obtain⟨ur,ua⟩:=hr u (by simp);rw[zg,zd] at l1 l2 l3;have hrl:r.length<=(r.flatMap Qb).length:=by
   have:∀l:List Qd,(∀u∈l,Qu u/\Qp u)->l.length<=(l.flatMap Qb).length:=fun l=>by
    induction l with
    |nil=>intro _;simp
    |cons a l ih=>
     intro hl;have h1:=Qeq a (hl a (by simp)).1 (hl a (by simp)).2;have h2:=ih fun u hu=>hl u (by simp[hu]);rw[zg,zd,zs];omega
   exact this r fun u hu=>⟨(h u (by simp[hu])).1,(h u (by simp[hu])).2.1⟩
  obtain⟨A,eA,FA⟩:=ts (sp+r.length) out g S ur ua hs.1 (by omega) (by omega) (by omega);have hll:(QC u).length=(Qf u).length:=(Qcw uw ut).length_eq;obtain⟨B,eB,FB⟩:=Qf1 r (fun v hv=>h v (by simp[hv])) sp (out+(Qf u).length) (g+(Qb u).length) A (fun v hv=>by
   obtain⟨vr,va⟩:=hr v (by simp[hv]);have vw:=(h v (by simp[hv])).1;exact⟨Q6 (fun i=>⟨FA.1 1 i (by decide) (by decide),FA.1 3 i (by decide) (by decide)⟩) (fun i=>FA.1 4 i (by decide) (by decide)) v vw vr,QbR v vw (fun w _ _ q=>by rw[FA.1 20 _ (by decide) (by decide)];exact q) va⟩) (QgZ FA.2.1 hs.2) (by omega) (by omega) (by omega)
  refine⟨B,?_,?_⟩
  ·rw[zs,<-zaj,eA,eB,zg,zg,zd,zd,zaj,zaj]
  ·rw[zg];rw[<-hll] at FB;exact Qis (sp:=sp) ⟨FA.1,fun i hi=>FA.2.1 i (by omega),FA.2.2⟩ FB (zo sp)
theorem Qi1(hf1:Fx f1):∀t,Qu t->(Qp t->QeN f1 t)/\∀u∈Qc t,QeN f1 u:=by
 have top:∀(sp out g:Nat) (S:MS) (x:Nat),sp+1<=128->g<1024->x<64->S 14 sp=O x->f1 (72,56,[V 0,I (O (sp+1)),I (O out),I (O g)],[],S)=f1 (72,84,[V 0,I (O sp),I (O out),I (O g),I (O x)],[I 1],S):=fun sp out g S x h1 h2 h3 h4=>by
  rw[EK hf1,zb (show O g<1024 from (Qq (b:=1024) (by omega) (by omega)).mpr h2),zb (show 0<O (sp+1) from (Qq (a:=0) (by omega) (by omega)).mpr (by omega)),show O (sp+1) + -1=O sp from by rw[<-Qx,Int32.add_assoc,show (1:Int32) + -1=0 from by decide,Int32.add_zero],zb (Qz (by omega) (by omega)),QA (by omega),h4,Qav hf1 S h3];simp only[zz]
 refine Q3 (fun c hc=>⟨fun _ sp out g S r a h14 l1 l2 l3=>?_,fun u hu=>absurd hu (by simp[Qc])⟩) (fun o x f w ih=>⟨fun _ sp out g S r a h14 l1 l2 l3=>?_,fun u hu=>absurd hu (by simp[Qc])⟩) (fun t f w iht ihf=>⟨fun h=>absurd h id,fun u hu=>?_⟩) ⟨fun h=>absurd h id,fun u hu=>absurd hu (by simp[Qc])⟩
 ·have hl1:out+1<=8:=l1;have hl2:sp+1<=128:=l2;have hl3:g+1<=1024:=l3;have e1:S 1 c=0:=r;rw[top sp out g S c (by omega) (by omega) (by omega) h14,Eas hf1,za (by decide),zb (Qz (by omega) (by omega)),QA (a:=c) (by omega),e1,zb rfl,zb (show O out<8 from (Qq (b:=8) (by omega) (by omega)).mpr (by omega)),zb (show O c<8 from (Qq (b:=8) (by omega) (by omega)).mpr hc),zb (Qz (by omega) (by omega)),QA (by omega),Qx,Qx];refine⟨_,rfl,fun d i d1 d2=>by rw[Qi,za (by omega)],fun i hi=>rfl,fun i hi=>by rw[Qi,za (by omega)],fun i hi=>?_,fun i hi=>?_⟩
  ·have hi':out+1<=i:=hi;rw[Qi,za (by omega)]
  ·have hi':i=0:=by have:i<1:=hi;omega
   subst hi';rw[Qi,zb ⟨rfl,rfl⟩];rfl
 ·obtain⟨r1,r3,r4,rf⟩:=r;have w':=w;obtain⟨⟨w1,w2⟩,w3,⟨w4,w5⟩,w6,w7⟩:=w;have hpl:(Qb (.op2 o (.arg x) f)).length=(Qb f).length+1:=by show (Qb f++[x]).length=_;rw[zd];rfl
  have hlv:Qf (.op2 o (.arg x) f)=Qf f:=rfl;rw[hpl] at l2 l3;rw[hlv] at l1;have kpo:(Qc f).flatMap Qb=Qb f:=Qby Qb (fun _ _=>rfl) rfl f w7 w6;have klv:(Qc f).flatMap Qf=Qf f:=Qby Qf (fun _ _=>rfl) rfl f w7 w6;have kl:(Qc f).length<=(Qb f).length:=by
   rw[<-kpo];have:∀l:List Qd,(∀u∈l,Qu u/\Qp u)->l.length<=(l.flatMap Qb).length:=fun l=>by
    induction l with
    |nil=>intro _;simp
    |cons a l ih=>
     intro hl;have h1:=Qeq a (hl a (by simp)).1 (hl a (by simp)).2;have h2:=ih fun u hu=>hl u (by simp[hu]);rw[zg,zd,zs];omega
   exact this _ fun u hu=>⟨(QaR w7 u hu).2,(QaR w7 u hu).1⟩
  have kv:∀j,j<(Qc f).length->S 4 (8*x+j)=O (Qh ((Qc f).getD j .null))/\Qh ((Qc f).getD j .null)<64/\S 20 (Qh ((Qc f).getD j .null))=QU ((Qc f).getD j .null):=fun j hj=>by
   have hm:=Qa2 hj;obtain⟨ut,uw⟩:=QaR w7 _ hm;exact⟨r4 j hj,QaL ut uw,QdM (Q:=fun u=>S 20 (Qh u)=QU u) ut (Qc1 w7 a.2 _ hm)⟩
  have fin:∀(rs:List Qd) (A:MS),rs.Perm (Qc f)->QC (.op2 o (.arg x) f)=rs.flatMap QC->(∀d i,¬(d=14/\sp<=i)->A d i=S d i)->QcR A sp rs->∃S',f1 (72,56,[V 0,I (O (sp+rs.length)),I (O out),I (O (g+1))],[],A)=f1 (72,56,[V 0,I (O sp),I (O (out+(Qf (.op2 o (.arg x) f)).length)),I (O (g+(Qb (.op2 o (.arg x) f)).length))],[],S')/\QcD S S' sp out (QC (.op2 o (.arg x) f)):=fun rs A hp hll hA hs=>by
   have q1:(rs.flatMap Qb).length=(Qb f).length:=by rw[<-kpo];exact (zaL _ hp).length_eq
   have q2:(rs.flatMap Qf).length=(Qf f).length:=by rw[<-klv];exact (zaL _ hp).length_eq
   obtain⟨S',e,F⟩:=Qf1 rs (fun u hu=>⟨(QaR w7 u (hp.mem_iff.mp hu)).2,(QaR w7 u (hp.mem_iff.mp hu)).1,ih.2 u (hp.mem_iff.mp hu)⟩) sp out (g+1) A (fun u hu=>by
    have hu':=hp.mem_iff.mp hu;have uw:=(QaR w7 u hu').2;exact⟨Q6 (fun i=>⟨hA 1 i (by omega),hA 3 i (by omega)⟩) (fun i=>hA 4 i (by omega)) u uw (Qdm w7 rf u hu'),QbR u uw (fun v _ _ q=>by rw[hA 20 _ (by omega)];exact q) (Qc1 w7 a.2 u hu')⟩) hs (by omega) (by omega) (by omega)
   refine⟨S',?_,?_⟩
   ·rw[e,q1,q2,hlv,hpl,show g+1+(Qb f).length=g+((Qb f).length+1) from by omega]
   ·rw[hll];exact⟨fun d i d1 d2=>(F.1 d i d1 d2).trans (hA d i (by omega)),fun i hi=>(F.2.1 i hi).trans (hA 14 i (by omega)),fun i hi=>(F.2.2.1 i hi).trans (hA 22 i (by omega)),fun i hi=>(F.2.2.2.1 i hi).trans (hA 22 i (by omega)),F.2.2.2.2⟩
  rw[top sp out g S x (by omega) (by omega) w2 h14,Eas hf1,za (by decide),zb (Qz (by omega) w2),QA (a:=x) (by omega),za (show ¬S 1 x=0 by rw[r1];exact QbU)];have FVl:(QR f).length=(Qc f).length:=by rw[QcF f w7 w6,zh]
  have FVg:∀j,j<(Qc f).length->(QR f).getD j 0=QU ((Qc f).getD j .null):=fun j hj=>by rw[QcF f w7 w6,QcZ _ hj]
  by_cases ho:o = .iand
  ·rw[zb (show S 1 x=1 by rw[r1,QaZ,zb ho]),EbQ hf1,QaS hf1 w2 r3 w5];simp only[zz];rw[Edi hf1];obtain⟨A,eA,FA,GA⟩:=Qf6 hf1 (x:=x) (d:=(Qc f).length) (vs:=QR f) (sl:=fun j=>Qh ((Qc f).getD j .null)) w2 w5 (O sp) (Qc f).length 0 0 sp S (by omega) (by omega) (by omega) (fun j hj=>⟨(kv j hj).1,(kv j hj).2.1,by rw[FVg j hj];exact (kv j hj).2.2⟩);have eA':f1 (73,15,[V 0,I (O x),I (O sp),I (O (Qc f).length),I 0,I (O sp),I 0],[],S)=some (some (I (O (sp+(QaA (QR f) (Qc f).length (Qc f).length 0).length))),A):=eA;rw[eA'];simp only[zz];rw[EeE hf1,Qx];have pp:=Qfj (QR f) (Qc f).length;generalize hpk:QaA (QR f) (Qc f).length (Qc f).length 0=pk at GA pp eA'
   have e2:((pk.reverse).map fun i=>(Qc f).getD i .null).length=pk.length:=by rw[zh,zac]
   rw[<-e2];refine fin ((pk.reverse).map fun i=>(Qc f).getD i .null) A ?_ ?_ (fun d i h=>FA d i h) (Qea _ fun i hi=>?_)
   ·have:=((zy pk).trans pp).map fun i=>(Qc f).getD i .null;rw[QgR] at this;exact this
   ·show (if o = .iand then (QaA (QR f) (QR f).length (QR f).length 0).reverse.flatMap fun i=>(Q9 f).getD i [] else _)=_;rw[zb ho,FVl,hpk,zaG];have:∀l:List Nat,(∀i∈l,i<(Qc f).length)->(l.flatMap fun i=>(Q9 f).getD i [])=l.flatMap fun i=>QC ((Qc f).getD i .null):=fun l=>by
     induction l with
     |nil=>intro _;rfl
     |cons a l ih=>
      intro hl;rw[zg,zg,ih fun i hi=>hl i (by simp[hi])]
      congr 1
      have ha:=hl a (by simp);rw[QcG f w7 w6];simp only[zf,List.getElem?_map,List.getElem?_eq_getElem ha,Option.map_some,Option.getD_some]
    exact this _ fun i hi=>by
     have:=pp.mem_iff.mp (zp.mp hi);exact zC.mp this
   ·rw[e2] at hi ⊢;have hi2:pk.length-1-i<pk.length:=by omega
    rw[GA _ hi2]
    congr 2
    simp only[zf,List.getElem?_map,List.getElem?_reverse hi,List.getElem?_eq_getElem hi2,Option.map_some,Option.getD_some]
  ·rw[za (show ¬S 1 x=1 by rw[r1,QaZ,za ho];decide),Efp hf1,QaS hf1 w2 r3 w5];simp only[zz];obtain⟨a4,a64,a20⟩:=kv 0 (by omega);obtain⟨b4,b64,b20⟩:=kv ((Qc f).length-1) (by omega);rw[EcE hf1,zb (show 0<O (Qc f).length from (Qq (a:=0) (by omega) (by omega)).mpr (by omega)),show (0:Int32)=O 0 from rfl,Qaq hf1 S w2 (by omega),a4];simp only[zz];rw[Eeq hf1,show O (Qc f).length-1=O ((Qc f).length-1) from Qba (b:=1) (by omega),Qaq hf1 S w2 (by omega),b4];simp only[zz];rw[EdN hf1,QdY hf1 S a64,a20];simp only[zz];rw[Eby hf1,QdY hf1 S b64,b20];simp only[zz];rw[Ec6 hf1];obtain⟨A,eA,FA,GA⟩:=Qg5 hf1 (x:=x) (d:=(Qc f).length) (sl:=fun j=>Qh ((Qc f).getD j .null)) (v2:=O sp) (v4:=O (Qh ((Qc f).getD 0 .null))) (v5:=O (Qh ((Qc f).getD ((Qc f).length-1) .null))) (v6:=QU ((Qc f).getD 0 .null)) (v7:=QU ((Qc f).getD ((Qc f).length-1) .null)) w2 w5 (Qc f).length 0 sp S (by omega) (by omega) (fun j hj=>(kv j hj).1)
   rw[show (0:Int32)=O 0 from rfl,eA];simp only[zz];rw[Ea5 hf1,Qx];have LL:QC (.op2 o (.arg x) f)=if QU ((Qc f).getD 0 .null)<QU ((Qc f).getD ((Qc f).length-1) .null) then (Q9 f).flatMap id else (Q9 f).reverse.flatMap id:=by
    show (if o = .iand then _ else if (QR f).getD 0 0<(QR f).getD ((QR f).length-1) 0 then _ else _)=_;rw[za ho,FVl,FVg 0 (by omega),FVg _ (by omega)]
   by_cases q:QU ((Qc f).getD 0 .null)<QU ((Qc f).getD ((Qc f).length-1) .null)
   ·refine fin (Qc f) A (List.Perm.refl _) ?_ (fun d i h=>FA d i h) (Qea _ fun i hi=>?_)
    ·rw[LL,zb q,QcG f w7 w6,zaG];rfl
    ·rw[GA _ (by omega),zb q,show (Qc f).length-1-(0+((Qc f).length-1-i))=i from by omega]
   ·rw[show (Qc f).length=(Qc f).reverse.length from by rw[zac]];refine fin (Qc f).reverse A (zy _) ?_ (fun d i h=>FA d i h) (Qea _ fun i hi=>?_)
    ·rw[LL,za q,QcG f w7 w6,<-zI,zaG];rfl
    ·rw[zac] at hi ⊢;rw[GA _ (by omega),za q,Qhr hi,zL]
 ·rcases zt.mp hu with e | e
  ·subst e;exact iht.1 w.1
  ·exact ihf.2 u e
end Lst
def Qdh(n:Nat)(t:Qd):Prop:=Qu t/\Qp t/\(Qb t).Nodup/\(Qf t).length=n/\n<=8
def QcI(S:MS)(t:Qd):Prop:=S 0 11=QN t/\S 0 12=Qag t/\(∀i,i<(QC t).length->S 22 i=O ((QC t).getD i 0))/\∀i,i<(QC t).length->S 23 ((QC t).getD i 0)=O i
theorem Qd3:∀t,Qu t->(Qf t).Sublist (Qb t):=Q3
 (fun c _=>List.Sublist.refl _)
 (fun o x f _ ih=>List.Sublist.trans ih (List.sublist_append_left _ _))
 (fun t f _ iht ihf=>List.Sublist.append iht ihf) (List.Sublist.refl _)
theorem Qjy:∀t,Qu t->∀c∈Qf t,c<8:=Q3
 (fun c hc x hx=>by simp only[Qf,zi] at hx;omega)
 (fun o x f _ ih=>ih)
 (fun t f _ iht ihf x hx=>by
  simp only[Qf,zc] at hx;rcases hx with hx | hx
  ·exact iht x hx
  ·exact ihf x hx) (fun x hx=>absurd hx (by simp[Qf]))
theorem QgH:∀t,Qu t->(Qp t->(Qb t).length+1<=2*(Qf t).length)/\(QM t->(Qb t).length+(Qc t).length<=2*(Qf t).length):=Q3
 (fun c _=>⟨fun _=>zo _,fun h=>absurd h id⟩)
 (fun o x f w ih=>⟨fun _=>by
  have h:=ih.2 w.2.2.2.1;have h2:=w.2.2.1.1;show (Qb f++[x]).length+1<=2*(Qf f).length;rw[zd];show (Qb f).length+1+1<=_;omega,fun h=>absurd h id⟩)
 (fun t f w iht ihf=>⟨fun h=>absurd h id,fun _=>by
  have h1:=iht.1 w.1;have h2:=ihf.2 w.2.1;show (Qb t++Qb f).length+((Qc f).length+1)<=2*(Qf t++Qf f).length;rw[zd,zd];omega⟩)
 ⟨fun h=>absurd h id,fun _=>zo _⟩
theorem Qde{n:Nat}{t:Qd}(h:Qdh n t):(Qb t).length<=15:=by
 have:=(QgH t h.1).1 h.2.1;have:=h.2.2.2;omega
section Cache
variable {f1:FT1}
theorem Qik(hf1:Fx f1){S:MS}{n:Nat}{t:Qd}(G:Qdh n t)(h0:S 0 0=O n)(h4:S 0 4=O (Qh t))(r:QI S t)(a:QaI (fun u=>S 20 (Qh u)=QU u) t):∃S',f1 (72,0,[V 0],[],S)=some (none,S')/\(∀c i,c≠14->c≠22->c≠23->S' c i=S c i)/\(∀i,i<(QC t).length->S' 22 i=O ((QC t).getD i 0))/\∀i,i<(QC t).length->S' 23 ((QC t).getD i 0)=O i:=by
 have hp:=Qde G;obtain⟨w,ht,nd,hn,h8⟩:=G;have hsl:=QaL ht w;have lp:=Qcw w ht;have hll:(QC t).length=n:=by rw[lp.length_eq,hn]
 rw[Ecs hf1];have key:=Qaw (fun k=>f1 (72,2,[V 0,I (O k)],[],fun c i=>if (c=22\/c=23)/\i<k then -1 else S c i)) (n:=8) fun k hk=>by
  show f1 _=f1 _;rw[EN hf1,zb (show O k<8 from (Qq (b:=8) (by omega) (by omega)).mpr hk),zb (Qz (by omega) hk),QA (by omega),Qx]
  congr 5
  funext c i
  simp only[Ua];by_cases q:(c=22\/c=23)/\i<k+1
  ·rw[zb q];by_cases q1:c=23/\i=k
   ·rw[zb q1]
   rw[za q1];by_cases q2:c=22/\i=k
   ·rw[zb q2]
   rw[za q2,zb (by omega)]
  ·rw[za q,za (by omega),za (by omega),za (by omega)]
 have e1:f1 (72,2,[V 0,I 0],[],S)=f1 (72,2,[V 0,I (O 8)],[],fun c i=>if (c=22\/c=23)/\i<8 then -1 else S c i):=by
  refine Eq.trans ?_ key;show f1 _=f1 _
  congr 5
  funext c i
  rw[za (by omega)]
 rw[e1];have A0:∀c i,c≠22->c≠23->(fun c i=>if (c=22\/c=23)/\i<8 then -1 else S c i:MS) c i=S c i:=fun c i h1 h2=>by
  show (if (c=22\/c=23)/\i<8 then _ else _)=_;rw[za (by omega)]
 generalize (fun c i=>if (c=22\/c=23)/\i<8 then -1 else S c i:MS)=A at A0;rw[EN hf1,za (by decide),A0 0 4 (by decide) (by decide),h4,Qav hf1 _ hsl];simp only[zz];rw[EdS hf1,za (by decide),A0 0 4 (by decide) (by decide),h4];have B0:∀c i,c≠14->c≠22->c≠23->Ua A 14 0 (O (Qh t)) c i=S c i:=fun c i h1 h2 h3=>by rw[Qi,za (by omega)];exact A0 c i h2 h3
 obtain⟨D,eD,FD⟩:=(Qi1 hf1 t w).1 ht 0 0 0 (Ua A 14 0 (O (Qh t))) (Q6 (fun i=>⟨B0 1 i (by decide) (by decide) (by decide),B0 3 i (by decide) (by decide) (by decide)⟩) (fun i=>B0 4 i (by decide) (by decide) (by decide)) t w r) (QbR t w (fun u _ _ q=>by rw[B0 20 _ (by decide) (by decide) (by decide)];exact q) a) rfl (by omega) (by omega) (by omega);have eD':f1 (72,56,[V 0,I 1,I 0,I 0],[],Ua A 14 0 (O (Qh t)))=f1 (72,56,[V 0,I (O 0),I (O (0+(Qf t).length)),I (O (0+(Qb t).length))],[],D):=eD;rw[eD',EK hf1,zb (show O (0+(Qb t).length)<1024 from (Qq (b:=1024) (by omega) (by omega)).mpr (by omega)),za (by decide),EeH hf1]
 have D0:D 0 0=O n:=(FD.1 0 0 (by decide) (by decide)).trans ((B0 0 0 (by decide) (by decide) (by decide)).trans h0);have D22:∀i,i<n->D 22 i=O ((QC t).getD i 0):=fun i hi=>by
  have:=FD.2.2.2.2 i (by omega);rw[zL] at this;exact this
 have l8:∀i,i<n->(QC t).getD i 0<8:=fun i hi=>by
  rw[zf,List.getElem?_eq_getElem (by omega)];exact Qjy t w _ (lp.mem_iff.mp (zF _))
 have ndl:(QC t).Nodup:=lp.nodup_iff.mpr (List.Nodup.sublist (Qd3 t w) nd);have inj:∀i j,i<n->j<n->(QC t).getD i 0=(QC t).getD j 0->i=j:=fun i j hi hj e=>by
  rw[zf,List.getElem?_eq_getElem (by omega),zf,List.getElem?_eq_getElem (by omega)] at e;exact (List.getElem_inj ndl).mp e
 have k2:∀k,k<=n->∃E,f1 (75,2,[V 0,I 0],[],D)=f1 (75,2,[V 0,I (O k)],[],E)/\(∀c i,c≠23->E c i=D c i)/\∀i,i<k->E 23 ((QC t).getD i 0)=O i:=fun k=>by
  induction k with
  |zero=>exact fun _=>⟨D,rfl,fun _ _ _=>rfl,fun i hi=>absurd hi (by omega)⟩
  |succ k ih=>
   intro hk;obtain⟨E,eE,FE,GE⟩:=ih (by omega);have c8:=l8 k (by omega);rw[eE,Eax hf1,FE 0 0 (by decide),D0,zb ((Qq (by omega) (by omega)).mpr (by omega)),zb (show O k<8 from (Qq (b:=8) (by omega) (by omega)).mpr (by omega)),zb (Qz (by omega) (by omega)),QA (a:=k) (by omega),FE 22 k (by decide),D22 k (by omega),za (Qap (by omega)),zb (show O _<8 from (Qq (b:=8) (by omega) (by omega)).mpr c8),zb (Qz (by omega) c8),QA (by omega),Qx];refine⟨_,rfl,fun c i hc=>by rw[Qi,za (by omega)];exact FE c i hc,fun i hi=>?_⟩;by_cases q:i=k
   ·subst q;rw[Qi,zb ⟨rfl,rfl⟩]
   ·rw[Qi,za (fun e=>q (inj i k (by omega) (by omega) e.2))];exact GE i (by omega)
 obtain⟨E,eE,FE,GE⟩:=k2 n (zo n);rw[eE,Eax hf1,FE 0 0 (by decide),D0,za zv];simp only[zz];rw[Edy hf1];refine⟨E,rfl,fun c i h1 h2 h3=>(FE c i h3).trans ((FD.1 c i h1 h2).trans (B0 c i h1 h2 h3)),fun i hi=>(FE 22 i (by decide)).trans (D22 i (by omega)),fun i hi=>GE i (by omega)⟩
theorem Qg4(hf1:Fx f1){S:MS}{n:Nat}{t:Qd}(G:Qdh n t)(h0:S 0 0=O n)(h4:S 0 4=O (Qh t))(r:QI S t):∃S',f1 (66,0,[V 0],[],S)=some (none,S')/\(∀c i,c<13->¬(c=0/\(i=6\/i=11\/i=12))->S' c i=S c i)/\QcI S' t:=by
 have hp:=Qde G;have G':=G;obtain⟨w,ht,nd,hn,h8⟩:=G;have hsl:=QaL ht w;obtain⟨A,eA,FA,A6,A13⟩:=QcY hf1 w ht r h4 (by omega);rw[Ecx hf1,eA];simp only[zz];have rA:QI A t:=Q6 (fun i=>⟨FA 1 i (by decide) (by decide) (by decide) (by omega),FA 3 i (by decide) (by decide) (by decide) (by omega)⟩) (fun i=>FA 4 i (by decide) (by decide) (by decide) (by omega)) t w r;have sA:QaF A 0 (Qb t) (Qb t).length:=⟨A6,by omega,by omega,fun i hi=>by rw[zL];exact A13 i hi⟩;rw[Eep hf1,Ebp hf1];obtain⟨B,eB,FB,-,AB⟩:=Qjv hf1 t w 0 _ A nd rA sA;have eB':f1 (69,2,[V 0,I 0],[],A)=some (none,B):=by
  refine Eq.trans eB ?_;rw[Eag hf1,(FB 0 6 (by decide) (by decide)).trans A6,zL,za zv]
 rw[eB'];simp only[zz];have rB:QI B t:=Q6 (fun i=>⟨FB 1 i (by decide) (by decide),FB 3 i (by decide) (by decide)⟩) (fun i=>FB 4 i (by decide) (by decide)) t w rA;have sB:QaF B 0 (Qb t) (Qb t).length:=QcQ (FB 0 6 (by decide) (by decide)) (fun i=>FB 13 i (by decide) (by decide)) sA;rw[Ebk hf1,EU hf1];have eC:f1 (67,4,[V 0,I 1,I 0],[],B)=some (some (I (QN t)),B):=by
  refine Eq.trans (Qfr hf1 t w 0 _ B 1 rB sB) ?_;rw[Ei hf1,sB.1,zL,za zv,Int32.one_mul]
 rw[eC];simp only[zz];have hd:=QdM (Q:=fun u=>B 20 (Qh u)=QU u/\B 21 (Qh u)=Qag u) ht AB;have B4:B 0 4=O (Qh t):=(FB 0 4 (by decide) (by decide)).trans ((FA 0 4 (by decide) (by decide) (by decide) (by omega)).trans h4);have B00:B 0 0=O n:=(FB 0 0 (by decide) (by decide)).trans ((FA 0 0 (by decide) (by decide) (by decide) (by omega)).trans h0);rw[Eev hf1,B4,QeB hf1 _ hsl];simp only[zz];rw[Eb8 hf1,show Ua B 0 11 (QN t) 21 (Qh t)=Qag t from hd.2];have C0:∀c i,¬(c=0/\(i=11\/i=12))->Ua (Ua B 0 11 (QN t)) 0 12 (Qag t) c i=B c i:=fun c i h=>by rw[Qi,za (by omega),Qi,za (by omega)]
 have C11:Ua (Ua B 0 11 (QN t)) 0 12 (Qag t) 0 11=QN t:=rfl;have C12:Ua (Ua B 0 11 (QN t)) 0 12 (Qag t) 0 12=Qag t:=rfl;generalize Ua (Ua B 0 11 (QN t)) 0 12 (Qag t)=C at C0 C11 C12;obtain⟨D,eD,FD,D22,D23⟩:=Qik hf1 (S:=C) G' ((C0 0 0 (by omega)).trans B00) ((C0 0 4 (by omega)).trans B4) (Q6 (fun i=>⟨C0 1 i (by omega),C0 3 i (by omega)⟩) (fun i=>C0 4 i (by omega)) t w rB) (QbR t w (fun u _ _ q=>by rw[C0 20 _ (by omega)];exact q.1) AB);rw[eD];simp only[zz];rw[EeP hf1];refine⟨D,rfl,fun c i hc h=>?_,(FD 0 11 (by decide) (by decide) (by decide)).trans C11,(FD 0 12 (by decide) (by decide) (by decide)).trans C12,D22,D23⟩
 rw[FD c i (by omega) (by omega) (by omega),C0 c i (by omega),FB c i (by omega) (by omega),FA c i (by omega) (by omega) (by omega) (by omega)]
end Cache
def QE(S:MS)(c a b:Nat)(g:Nat->Int32):MS:=fun c' i=>if c'=c/\a<=i/\i<b then g i else S c' i
theorem Qa8(S:MS)(c a:Nat)(g:Nat->Int32):QE S c a a g=S:=by
 funext c' i;simp only[QE];rw[za (by omega)]
theorem QD{S:MS}{c a b:Nat}{g:Nat->Int32}{c' i:Nat}(h:c'≠c):QE S c a b g c' i=S c' i:=za fun q=>h q.1
theorem QbQ{S:MS}{c a b:Nat}{g:Nat->Int32}{i:Nat}(h:a<=i)(h':i<b):QE S c a b g c i=g i:=zb ⟨rfl,h,h'⟩
theorem QbG{S:MS}{c a b:Nat}{g:Nat->Int32}{v:Int32}(h:a<=b)(hv:v=g b):Ua (QE S c a b g) c b v=QE S c a (b+1) g:=by
 funext c' i
 simp only[QE,Ua];by_cases q:c'=c/\i=b
 ·obtain⟨q1,q2⟩:=q;subst q1;subst q2;rw[zb ⟨rfl,rfl⟩,zb ⟨rfl,h,by omega⟩,hv]
 ·rw[za q];by_cases q':c'=c/\a<=i/\i<b
  ·rw[zb q',zb ⟨q'.1,q'.2.1,by omega⟩]
  ·rw[za q',za]
   rintro ⟨e1,e2,e3⟩
   rcases Nat.lt_or_ge i b with e | e
   ·exact q' ⟨e1,e2,e⟩
   ·exact q ⟨e1,by omega⟩
theorem Qcz{S:MS}{c a b:Nat}{g:Nat->Int32}{c' i:Nat}{v:Int32}(h:c'≠c):Ua (QE S c a b g) c' i v=QE (Ua S c' i v) c a b g:=by
 funext d j
 simp only[QE,Ua];by_cases q:d=c/\a<=j/\j<b
 ·rw[za (by omega),zb q,zb q]
 ·rw[za q,za q]
theorem QfY{S:MS}{c1 c2 c3 c4 n:Nat}{g1 g2 g3 g4:Nat->Int32}{v1 v2 v3 v4:Int32}(h12:c1≠c2)(h13:c1≠c3)(h14:c1≠c4)(h23:c2≠c3)(h24:c2≠c4)(h34:c3≠c4)(e1:v1=g1 n)(e2:v2=g2 n)(e3:v3=g3 n)(e4:v4=g4 n):Ua (Ua (Ua (Ua (QE (QE (QE (QE S c1 0 n g1) c2 0 n g2) c3 0 n g3) c4 0 n g4) c1 n v1) c2 n v2) c3 n v3) c4 n v4=QE (QE (QE (QE S c1 0 (n+1) g1) c2 0 (n+1) g2) c3 0 (n+1) g3) c4 0 (n+1) g4:=by
 rw[Qcz (c':=c1) h14,Qcz (c':=c1) h13,Qcz (c':=c1) h12,QbG (zaA n) e1,Qcz (c':=c2) h24,Qcz (c':=c2) h23,QbG (zaA n) e2,Qcz (c':=c3) h34,QbG (zaA n) e3,QbG (zaA n) e4]
def Qbn(S:MS):MS:=QE (QE (QE (QE (QE (Ua S 0 5 (S 0 4)) 6 0 64 (S 1)) 7 0 64 (S 2)) 8 0 64 (S 3)) 10 0 64 fun i=>S 5 i&&&1) 9 0 512 (S 4)
def QaN(S:MS):MS:=QE (QE (QE (QE (QE (Ua S 0 4 (S 0 5)) 1 0 64 (S 6)) 2 0 64 (S 7)) 3 0 64 (S 8)) 5 0 64 fun i=>S 10 i&&&1) 4 0 512 (S 9)
section Save
variable {f1:FT1}
theorem Qih(hf1:Fx f1)(S:MS):f1 (34,0,[V 0],[],S)=some (none,Qbn S):=by
 rw[EdI hf1];have key:=Qaw (fun n=>f1 (34,10,[V 0,I (O n)],[],QE (QE (QE (QE (Ua S 0 5 (S 0 4)) 6 0 n (S 1)) 7 0 n (S 2)) 8 0 n (S 3)) 10 0 n fun i=>S 5 i&&&1)) (n:=64) fun n hn=>by
  show f1 _=f1 _;rw[Eaw hf1,zb (show O n<64 from (Qq (b:=64) (by omega) (by omega)).mpr hn),zb (Qz (by omega) hn),QA (by omega),Qx,QfY (by decide) (by decide) (by decide) (by decide) (by decide) (by decide)]
  ·rw[QD (by decide),QD (by decide),QD (by decide),QD (by decide)];rfl
  ·rw[QD (by decide),QD (by decide),QD (by decide),QD (by decide)];rfl
  ·rw[QD (by decide),QD (by decide),QD (by decide),QD (by decide)];rfl
  ·rw[QD (by decide),QD (by decide),QD (by decide),QD (by decide)];rfl
 refine Eq.trans ?_ (key.trans ?_)
 ·show _=f1 (_,_,_,_,QE (QE (QE (QE _ 6 0 0 _) 7 0 0 _) 8 0 0 _) 10 0 0 _);rw[Qa8,Qa8,Qa8,Qa8];rfl
 show f1 _=_;rw[Eaw hf1,za (by decide)];have k2:=Qaw (fun n=>f1 (34,72,[V 0,I (O n)],[],QE (QE (QE (QE (QE (Ua S 0 5 (S 0 4)) 6 0 64 (S 1)) 7 0 64 (S 2)) 8 0 64 (S 3)) 10 0 64 fun i=>S 5 i&&&1) 9 0 n (S 4))) (n:=512) fun n hn=>by
  show f1 _=f1 _;rw[EZ hf1,zb (show O n<512 from (Qq (b:=512) (by omega) (by omega)).mpr hn),zb (Qz (by omega) hn),QA (by omega),Qx,QbG (zaA n)];rw[QD (by decide),QD (by decide),QD (by decide),QD (by decide),QD (by decide)];rfl
 refine Eq.trans ?_ (k2.trans ?_)
 ·show _=f1 (_,_,_,_,QE _ 9 0 0 _);rw[Qa8];rfl
 show f1 _=_;rw[EZ hf1,za (by decide)];rfl
theorem Qfi(hf1:Fx f1)(S:MS):f1 (35,0,[V 0],[],S)=some (none,QaN S):=by
 rw[Edw hf1];have key:=Qaw (fun n=>f1 (35,10,[V 0,I (O n)],[],QE (QE (QE (QE (Ua S 0 4 (S 0 5)) 1 0 n (S 6)) 2 0 n (S 7)) 3 0 n (S 8)) 5 0 n fun i=>S 10 i&&&1)) (n:=64) fun n hn=>by
  show f1 _=f1 _;rw[Eav hf1,zb (show O n<64 from (Qq (b:=64) (by omega) (by omega)).mpr hn),zb (Qz (by omega) hn),QA (by omega),Qx,QfY (by decide) (by decide) (by decide) (by decide) (by decide) (by decide)]
  ·rw[QD (by decide),QD (by decide),QD (by decide),QD (by decide)];rfl
  ·rw[QD (by decide),QD (by decide),QD (by decide),QD (by decide)];rfl
  ·rw[QD (by decide),QD (by decide),QD (by decide),QD (by decide)];rfl
  ·rw[QD (by decide),QD (by decide),QD (by decide),QD (by decide)];rfl
 refine Eq.trans ?_ (key.trans ?_)
 ·show _=f1 (_,_,_,_,QE (QE (QE (QE _ 1 0 0 _) 2 0 0 _) 3 0 0 _) 5 0 0 _);rw[Qa8,Qa8,Qa8,Qa8];rfl
 show f1 _=_;rw[Eav hf1,za (by decide)];have k2:=Qaw (fun n=>f1 (35,72,[V 0,I (O n)],[],QE (QE (QE (QE (QE (Ua S 0 4 (S 0 5)) 1 0 64 (S 6)) 2 0 64 (S 7)) 3 0 64 (S 8)) 5 0 64 fun i=>S 10 i&&&1) 4 0 n (S 9))) (n:=512) fun n hn=>by
  show f1 _=f1 _;rw[E7 hf1,zb (show O n<512 from (Qq (b:=512) (by omega) (by omega)).mpr hn),zb (Qz (by omega) hn),QA (by omega),Qx,QbG (zaA n)];rw[QD (by decide),QD (by decide),QD (by decide),QD (by decide),QD (by decide)];rfl
 refine Eq.trans ?_ (k2.trans ?_)
 ·show _=f1 (_,_,_,_,QE _ 4 0 0 _);rw[Qa8];rfl
 show f1 _=_;rw[E7 hf1,za (by decide)];rfl
end Save
def QO(S:MS)(cell cnt:Nat)(l:List Nat):Prop:=S 0 cnt=O l.length/\∀i,i<l.length->S cell i=O (l.getD i 0)
theorem QgT{l:List Nat}{v:Nat}:(l++[v]).getD l.length 0=v:=by
 simp[zf]
theorem QgM{l l':List Nat}{i:Nat}(h:i<l.length):(l++l').getD i 0=l.getD i 0:=by
 simp only[zf,List.getElem?_append_left h]
section Tools
variable {f1:FT1}
theorem Qeu(hf1:Fx f1)(S:MS){x:Nat}(hx:x<64):f1 (30,0,[V 0,I (O x)],[],S)=some (none,Ua (QE S 4 (8*x) (8*x+8) fun _ => -1) 3 x 0):=by
 rw[Eee hf1,Qav hf1 S hx];simp only[zz];rw[Edg hf1,za (by decide),show O x*8=O (8*x) from by rw[zQ,<-Qbz];rfl];have key:=Qaw (fun k=>f1 (30,16,[V 0,I (O x),I (O (8*x)),I (O k)],[],QE S 4 (8*x) (8*x+k) fun _ => -1)) (n:=8) fun k hk=>by
  show f1 _=f1 _;rw[EaP hf1,zb (show O k<8 from (Qq (b:=8) (by omega) (by omega)).mpr hk),Qcq,zb (Qz (by omega) (by omega)),QA (by omega),Qx,QbG (by omega) rfl];rfl
 refine Eq.trans ?_ (key.trans ?_)
 ·show _=f1 (_,_,_,_,QE S 4 (8*x) (8*x) _);rw[Qa8];rfl
 ·show f1 _=_;rw[EaP hf1,za (by decide),zb (Qz (by omega) hx),QA (by omega)]
theorem QeI(hf1:Fx f1)(S:MS){x c d:Nat}(hx:x<64)(hc:c<64)(hd:d<8)(h3:S 3 x=O d):f1 (29,0,[V 0,I (O x),I (O c)],[],S)=some (some (I 1),Ua (Ua (Ua S 4 (8*x+d) (O c)) 3 x (O (d+1))) 2 c (O x)):=by
 rw[Ea1 hf1,Qav hf1 S hx];simp only[zz];rw[EcT hf1,za (by decide),Qav hf1 S hc];simp only[zz];rw[Edz hf1,za (by decide),zb (Qz (by omega) hx),QA (a:=x) (by omega),h3,za (Qap (by omega)),zb (show O d<8 from (Qq (b:=8) (by omega) (by omega)).mpr hd),show O x*8+O d=O (8*x+d) from by rw[<-Qcq,zQ,<-Qbz];rfl,zb (Qz (by omega) (by omega)),zb (Qz (by omega) hc),QA (by omega),QA (by omega),Qx]
def QcU(S S':MS)(x:Nat):Prop:=∀c i,c≠2->¬(c=3/\i=x)->¬(c=4/\8*x<=i/\i<8*x+8)->S' c i=S c i
theorem QeX(hf1:Fx f1){S:MS}{x:Nat}{q:List Nat}(hx:x<64)(hq:q.length<=8)(h:QO S 16 7 q)(h64:∀u∈q,u<64):∃S',f1 (53,0,[V 0,I (O x)],[],S)=some (some (I 1),S')/\QcU S S' x/\S' 3 x=O q.length/\∀i,i<q.length->S' 4 (8*x+i)=O (q.getD i 0):=by
 rw[Efy hf1,Qav hf1 S hx];simp only[zz];rw[Ebl hf1,za (by decide),h.1,za (show ¬8<O q.length by rw[show (8:Int32)=O 8 from rfl,Qq (by omega) (by omega)];omega),Qeu hf1 S hx];simp only[zz];rw[Eef hf1];generalize hA:Ua (QE S 4 (8*x) (8*x+8) fun _ => -1) 3 x 0=A;have A0:QcU S A x:=fun c i h2 h3 h4=>by rw[<-hA,Qi,za h3,QE,za h4]
 have A3:A 3 x=O 0:=by rw[<-hA,Qi,zb ⟨rfl,rfl⟩];rfl
 have key:∀k,k<=q.length->∃B,f1 (53,26,[V 0,I (O x),I 0],[],A)=f1 (53,26,[V 0,I (O x),I (O k)],[],B)/\QcU S B x/\B 3 x=O k/\∀i,i<k->B 4 (8*x+i)=O (q.getD i 0):=fun k=>by
  induction k with
  |zero=>exact fun _=>⟨A,rfl,A0,A3,fun i hi=>absurd hi (by omega)⟩
  |succ k ih=>
   intro hk;obtain⟨B,eB,FB,B3,B4⟩:=ih (by omega);have u64:q.getD k 0<64:=by
    rw[zf,List.getElem?_eq_getElem (by omega)];exact h64 _ (zF _)
   rw[eB,E5 hf1,FB 0 7 (by decide) (by omega) (by omega),h.1,zb ((Qq (by omega) (by omega)).mpr (by omega)),zb (show O k<16 from (Qq (b:=16) (by omega) (by omega)).mpr (by omega)),zb (Qz (by omega) (by omega)),QA (by omega),FB 16 k (by decide) (by omega) (by omega),h.2 k (by omega),QeI hf1 B hx u64 (by omega) B3];simp only[zz];rw[Ebi hf1,za (by decide),Qx];refine⟨_,rfl,fun c i h2 h3 h4=>?_,?_,fun i hi=>?_⟩
   ·rw[Qi,za (by omega),Qi,za (by omega),Qi,za (by omega)];exact FB c i h2 h3 h4
   ·rw[Qi,za (by omega),Qi,zb ⟨rfl,rfl⟩]
   ·rw[Qi,za (by omega),Qi,za (by omega),Qi];by_cases e:i=k
    ·subst e;rw[zb ⟨rfl,rfl⟩]
    ·rw[za (by omega)];exact B4 i (by omega)
 obtain⟨B,eB,FB,B3,B4⟩:=key q.length (zo _);refine⟨B,?_,FB,B3,B4⟩;rw[eB,E5 hf1,FB 0 7 (by decide) (by omega) (by omega),h.1,za zv]
theorem QcT(hf1:Fx f1){S:MS}{q:List Nat}{v:Nat}(hv:v<64)(hq:q.length<16)(h:QO S 16 7 q):∃S',f1 (50,0,[V 0,I (O v)],[],S)=some (none,S')/\(∀c i,c≠16->¬(c=0/\i=7)->S' c i=S c i)/\QO S' 16 7 (q++[v]):=by
 rw[Eai hf1,za (Qap (by omega)),h.1,zb (show O q.length<16 from (Qq (b:=16) (by omega) (by omega)).mpr hq),zb (Qz (by omega) hq),QA (by omega),Qx];refine⟨_,rfl,fun c i h1 h2=>by rw[Qi,za h2,Qi,za (by omega)],?_,fun i hi=>?_⟩
 ·rw[Qi,zb ⟨rfl,rfl⟩,zd];rfl
 ·rw[zd] at hi;have hi':i<q.length+1:=hi;rw[Qi,za (by omega),Qi];by_cases e:i=q.length
  ·subst e;rw[zb ⟨rfl,rfl⟩,QgT]
  ·rw[za (by omega),QgM (by omega)];exact h.2 i (by omega)
theorem QhG(hf1:Fx f1)(S:MS){v:Int32}(hv:v<0):f1 (50,0,[V 0,I v],[],S)=some (none,S):=by
 rw[Eai hf1,zb hv]
theorem QhP(hf1:Fx f1){S:MS}{q l:List Nat}{y:Nat}(b:Bool)(hy:y<64)(hl:l.length<=8)(h64:∀u∈l,u<64)(hq:q.length+l.length<=16)(h3:S 3 y=O l.length)(h4:∀i,i<l.length->S 4 (8*y+i)=O (l.getD i 0))(h:QO S 16 7 q):∃S',f1 (52,0,[V 0,I (O y),I (if b=true then 1 else 0)],[],S)=some (none,S')/\(∀c i,c≠16->¬(c=0/\i=7)->S' c i=S c i)/\QO S' 16 7 (q++if b=true then l.reverse else l):=by
 rw[Eew hf1,QaS hf1 hy h3 hl];simp only[zz];rw[Ebu hf1];have key:∀k,k<=l.length->∃B,f1 (52,9,[V 0,I (O y),I (if b=true then 1 else 0),I (O l.length),I 0],[],S)=f1 (52,9,[V 0,I (O y),I (if b=true then 1 else 0),I (O l.length),I (O k)],[],B)/\(∀c i,c≠16->¬(c=0/\i=7)->B c i=S c i)/\QO B 16 7 (q++(if b=true then l.reverse else l).take k):=fun k=>by
  induction k with
  |zero=>exact fun _=>⟨S,rfl,fun _ _ _ _=>rfl,by rw[List.take_zero,zk];exact h⟩
  |succ k ih=>
   intro hk;obtain⟨B,eB,FB,LB⟩:=ih (by omega);have hlen:(if b=true then l.reverse else l).length=l.length:=by split<;>simp
   have hql:(q++(if b=true then l.reverse else l).take k).length=q.length+k:=by rw[zd,zaH,hlen,Nat.min_eq_left (by omega)]
   have step:∀(v:Nat) (x5:Int32),v=(if b=true then l.reverse else l).getD k 0->v<64->∃B',f1 (52,46,[V 0,I (O y),I (if b=true then 1 else 0),I (O l.length),I (O k),I x5],[I (O v)],B)=f1 (52,9,[V 0,I (O y),I (if b=true then 1 else 0),I (O l.length),I (O (k+1))],[],B')/\(∀c i,c≠16->¬(c=0/\i=7)->B' c i=S c i)/\QO B' 16 7 (q++(if b=true then l.reverse else l).take (k+1)):=fun v x5 hv v64=>by
    obtain⟨D,eD,FD,LD⟩:=QcT hf1 v64 (by omega) LB;rw[Eet hf1,eD];simp only[zz];rw[EdG hf1,Qx];refine⟨D,rfl,fun c i h1 h2=>(FD c i h1 h2).trans (FB c i h1 h2),?_⟩;rw[zaq,List.getElem?_eq_getElem (show k<(if b=true then l.reverse else l).length by omega),<-zq];have:v=(if b=true then l.reverse else l)[k]'(by omega):=by rw[hv,zf,List.getElem?_eq_getElem (by omega)];rfl
    rw[<-this];exact LD
   rw[eB,EaA hf1,zb ((Qq (by omega) (by omega)).mpr (by omega)),zb (show O k<8 from (Qq (b:=8) (by omega) (by omega)).mpr (by omega))];have g64:∀i,i<l.length->l.getD i 0<64:=fun i hi=>by
    rw[zf,List.getElem?_eq_getElem hi];exact h64 _ (zF _)
   cases b with
   |false=>
    rw[zb (by decide),Qaq hf1 B hy (by omega),FB 4 _ (by decide) (by omega),h4 k (by omega)];simp only[zz];exact step _ _ rfl (g64 k (by omega))
   |true=>
    rw[za (by decide),show O l.length-1=O (l.length-1) from Qba (b:=1) (by omega),Qba (by omega),Qaq hf1 B hy (by omega),FB 4 _ (by decide) (by omega),h4 _ (by omega)];simp only[zz];refine step _ _ ?_ (g64 _ (by omega));show _=l.reverse.getD k 0;simp only[zf,List.getElem?_reverse (show k<l.length by omega)]
 obtain⟨B,eB,FB,LB⟩:=key l.length (zo _);refine⟨B,?_,FB,?_⟩
 ·rw[eB,EaA hf1,za zv]
 ·rw[zaU (by split<;>simp)] at LB;exact LB
end Tools
def Qdt(S S':MS)(g:Nat):Prop:=∀c i,c≠2->¬((c=1\/c=3\/c=5\/c=11)/\i=g)->¬(c=4/\8*g<=i/\i<8*g+8)->S' c i=S c i
section Tools2
variable {f1:FT1}
theorem Qcx(hf1:Fx f1)(S:MS){x:Nat}(hx:x<64):f1 (26,0,[V 0,I (O x)],[],S)=some (some (I (S 11 x)),S):=by
 rw[EaZ hf1,Qav hf1 S hx];simp only[zz];rw[Efb hf1,za (by decide),zb (Qz (by omega) hx),QA (by omega)]
theorem Qi4(hf1:Fx f1){S:MS}(k lab:Int32)(h:∃i,8<=i/\i<64/\S 5 i=0):∃g S',8<=g/\g<64/\S 5 g=0/\f1 (32,0,[V 0,I k,I lab],[],S)=some (some (I (O g)),S')/\Qdt S S' g/\S' 5 g=1/\S' 1 g=k/\S' 3 g=0/\S' 11 g=lab:=by
 rw[EbR hf1];have go:∀m j,j+m=64->8<=j->(∃i,j<=i/\i<64/\S 5 i=0)->∃g S',8<=g/\g<64/\S 5 g=0/\f1 (32,3,[V 0,I k,I lab,I (O j)],[],S)=some (some (I (O g)),S')/\Qdt S S' g/\S' 5 g=1/\S' 1 g=k/\S' 3 g=0/\S' 11 g=lab:=fun m=>by
  induction m with
  |zero=>intro j e _ ⟨i,h1,h2,_⟩;omega
  |succ m ih=>
   intro j e hj ⟨i,h1,h2,h3⟩;rw[EdD hf1,zb (show O j<64 from (Qq (b:=64) (by omega) (by omega)).mpr (by omega)),zb (Qz (by omega) (by omega)),QA (by omega)];by_cases q:S 5 j=0
   ·rw[zb q,Qeu hf1 _ (by omega)];simp only[zz];rw[EdV hf1,zb (Qz (by omega) (by omega)),QA (by omega)];refine⟨j,_,hj,by omega,q,rfl,fun c i h2 h3 h4=>?_,?_,?_,?_,?_⟩
    ·rw[Qi,za (by omega),Qi,za (by omega),Qi,za (by omega),QE,za (by omega),Qi,za (by omega),Qi,za (by omega)]
    ·rw[Qi,za (by omega),Qi,za (by omega),Qi,za (by omega),QD (by decide),Qi,za (by omega),Qi,zb ⟨rfl,rfl⟩]
    ·rw[Qi,za (by omega),Qi,za (by omega),Qi,za (by omega),QD (by decide),Qi,zb ⟨rfl,rfl⟩]
    ·rw[Qi,za (by omega),Qi,za (by omega),Qi,zb ⟨rfl,rfl⟩]
    ·rw[Qi,zb ⟨rfl,rfl⟩]
   ·rw[za q,Qx];have hij:i≠j:=fun e=>q (e▸h3);exact ih (j+1) (by omega) (by omega) ⟨i,by omega,h2,h3⟩
 exact go 56 8 rfl (zo 8) h
theorem Qfm(hf1:Fx f1)(S:MS){y:Nat}(h8:8<=y)(hy:y<64):∃S',f1 (33,0,[V 0,I (O y)],[],S)=some (none,S')/\(∀c i,c≠2->¬((c=3\/c=5)/\i=y)->¬(c=4/\8*y<=i/\i<8*y+8)->S' c i=S c i)/\S' 5 y=0:=by
 rw[EaB hf1,za (show ¬O y<8 by rw[show (8:Int32)=O 8 from rfl,Qq (by omega) (by omega)];omega),zb (show O y<64 from (Qq (b:=64) (by omega) (by omega)).mpr hy),zb (Qz (by omega) hy),QA (by omega),Qeu hf1 _ hy];simp only[zz];rw[EbG hf1,zb (Qz (by omega) hy),QA (by omega)];refine⟨_,rfl,fun c i h2 h3 h4=>?_,?_⟩
 ·rw[Qi,za (by omega),Qi,za (by omega),QE,za (by omega),Qi,za (by omega)]
 ·rw[Qi,za (by omega),Qi,za (by omega),QD (by decide),Qi,zb ⟨rfl,rfl⟩]
theorem QfR(hf1:Fx f1)(S:MS){y:Int32}(h:y<8):f1 (33,0,[V 0,I y],[],S)=some (none,S):=by
 rw[EaB hf1,zb h]
theorem QjR(hf1:Fx f1){S:MS}{q l:List Nat}(hl:l.length<=8)(h64:∀u∈l,u<64)(hq:q.length+l.length<=16)(hE:QO S 17 8 l)(h:QO S 16 7 q):∃S',f1 (51,0,[V 0],[],S)=some (none,S')/\(∀c i,c≠16->¬(c=0/\i=7)->S' c i=S c i)/\QO S' 16 7 (q++l):=by
 rw[Ec3 hf1];have key:∀k,k<=l.length->∃B,f1 (51,2,[V 0,I 0],[],S)=f1 (51,2,[V 0,I (O k)],[],B)/\(∀c i,c≠16->¬(c=0/\i=7)->B c i=S c i)/\QO B 16 7 (q++l.take k):=fun k=>by
  induction k with
  |zero=>exact fun _=>⟨S,rfl,fun _ _ _ _=>rfl,by rw[List.take_zero,zk];exact h⟩
  |succ k ih=>
   intro hk;obtain⟨B,eB,FB,LB⟩:=ih (by omega);have hql:(q++l.take k).length=q.length+k:=by rw[zd,zaH,Nat.min_eq_left (by omega)]
   have v64:l.getD k 0<64:=by rw[zf,List.getElem?_eq_getElem (by omega)];exact h64 _ (zF _)
   obtain⟨D,eD,FD,LD⟩:=QcT hf1 v64 (by omega) LB;rw[eB,EaM hf1,FB 0 8 (by decide) (by omega),hE.1,zb ((Qq (by omega) (by omega)).mpr (by omega)),zb (show O k<8 from (Qq (b:=8) (by omega) (by omega)).mpr (by omega)),zb (Qz (by omega) (by omega)),QA (by omega),FB 17 k (by decide) (by omega),hE.2 k (by omega),eD];simp only[zz];rw[Ech hf1,Qx];refine⟨D,rfl,fun c i h1 h2=>(FD c i h1 h2).trans (FB c i h1 h2),?_⟩;rw[zaq,List.getElem?_eq_getElem (show k<l.length by omega),<-zq];have:l.getD k 0=l[k]'(by omega):=by rw[zf,List.getElem?_eq_getElem (by omega)];rfl
   rw[this] at LD;exact LD
 obtain⟨B,eB,FB,LB⟩:=key l.length (zo _);refine⟨B,?_,FB,?_⟩
 ·rw[eB,EaM hf1,FB 0 8 (by decide) (by omega),hE.1,za zv]
 ·rw[zaU (zo _)] at LB;exact LB
def Qaj(S:MS)(v:Int32)(l:List Nat):List Nat:=l.filter fun u=>decide (S 11 u=v)
theorem Qjn(hf1:Fx f1){S:MS}{x:Nat}{l:List Nat}(hx:x<64)(hl:l.length<=8)(h64:∀u∈l,u<64)(h3:S 3 x=O l.length)(h4:∀i,i<l.length->S 4 (8*x+i)=O (l.getD i 0))(hb:∀u∈l,S 11 u=0\/S 11 u=1\/S 11 u=2):∃S',f1 (47,0,[V 0,I (O x)],[],S)=some (none,S')/\(∀c i,c≠17->c≠18->c≠19->¬(c=0/\(i=8\/i=9\/i=10))->S' c i=S c i)/\QO S' 17 8 (Qaj S 0 l)/\QO S' 18 9 (Qaj S 1 l)/\QO S' 19 10 (Qaj S 2 l):=by
 rw[Ebc hf1,QaS hf1 (S:=Ua (Ua (Ua S 0 8 0) 0 9 0) 0 10 0) hx h3 hl];simp only[zz];rw[EeU hf1];generalize hA:Ua (Ua (Ua S 0 8 0) 0 9 0) 0 10 0=A;have A0:∀c i,¬(c=0/\(i=8\/i=9\/i=10))->A c i=S c i:=fun c i h=>by rw[<-hA,Qi,za (by omega),Qi,za (by omega),Qi,za (by omega)]
 have key:∀k,k<=l.length->∃B,f1 (47,23,[V 0,I (O x),I (O l.length),I 0],[],A)=f1 (47,23,[V 0,I (O x),I (O l.length),I (O k)],[],B)/\(∀c i,c≠17->c≠18->c≠19->¬(c=0/\(i=8\/i=9\/i=10))->B c i=S c i)/\QO B 17 8 (Qaj S 0 (l.take k))/\QO B 18 9 (Qaj S 1 (l.take k))/\QO B 19 10 (Qaj S 2 (l.take k)):=fun k=>by
  induction k with
  |zero=>
   intro _;refine⟨A,rfl,fun c i _ _ _ h=>A0 c i h,⟨?_,fun i hi=>absurd hi (by simp[Qaj])⟩,⟨?_,fun i hi=>absurd hi (by simp[Qaj])⟩,⟨?_,fun i hi=>absurd hi (by simp[Qaj])⟩⟩<;>rw[<-hA]<;>rfl
  |succ k ih=>
   intro hk;obtain⟨B,eB,FB,L0,L1,L2⟩:=ih (by omega);have hmem:l[k]'(by omega)∈l:=zF _;have hg:l.getD k 0=l[k]'(by omega):=by rw[zf,List.getElem?_eq_getElem (by omega)];rfl
   have v64:=h64 _ hmem;have hb':=hb _ hmem;have ht:l.take (k+1)=l.take k++[l[k]'(by omega)]:=by rw[zaq,List.getElem?_eq_getElem (show k<l.length by omega)];rfl
   have fl:∀v,Qaj S v (l.take (k+1))=Qaj S v (l.take k)++(if S 11 (l[k]'(by omega))=v then [l[k]'(by omega)] else []):=fun v=>by
    rw[ht];unfold Qaj;rw[zaQ]
    congr 1
    by_cases e:S 11 (l[k]'(by omega))=v
    ·rw[zb e,List.filter_cons_of_pos (by simpa using e),List.filter_nil]
    ·rw[za e,List.filter_cons_of_neg (by simpa using e),List.filter_nil]
   have len:∀v,(Qaj S v (l.take k)).length<=k:=fun v=>zN (zZ _ _) (by rw[zaH];omega);rw[eB,Ey hf1,zb ((Qq (by omega) (by omega)).mpr (by omega)),zb (show O k<8 from (Qq (b:=8) (by omega) (by omega)).mpr (by omega)),Qaq hf1 B hx (by omega),FB 4 _ (by decide) (by decide) (by decide) (by omega),h4 k (by omega),hg];simp only[zz];rw[Ebv hf1,Qcx hf1 B v64,FB 11 _ (by decide) (by decide) (by decide) (by omega)];simp only[zz];rw[EcB hf1];have put:∀(cell cnt:Nat) (v:Int32),((cell=17/\cnt=8/\v=0)\/(cell=18/\cnt=9/\v=1)\/(cell=19/\cnt=10/\v=2))->S 11 (l[k]'(by omega))=v->∀m,m=(Qaj S v (l.take k)).length->(∀c i,c≠17->c≠18->c≠19->¬(c=0/\(i=8\/i=9\/i=10))->Ua (Ua B cell m (O (l[k]'(by omega)))) 0 cnt (O (m+1)) c i=S c i)/\QO (Ua (Ua B cell m (O (l[k]'(by omega)))) 0 cnt (O (m+1))) 17 8 (Qaj S 0 (l.take (k+1)))/\QO (Ua (Ua B cell m (O (l[k]'(by omega)))) 0 cnt (O (m+1))) 18 9 (Qaj S 1 (l.take (k+1)))/\QO (Ua (Ua B cell m (O (l[k]'(by omega)))) 0 cnt (O (m+1))) 19 10 (Qaj S 2 (l.take (k+1))):=fun cell cnt v hc hv m hm=>by
    have same:∀(c2 n2:Nat) (v2:Int32),v≠v2->c2≠cell->n2≠cnt->c2≠0->QO B c2 n2 (Qaj S v2 (l.take k))->QO (Ua (Ua B cell m (O (l[k]'(by omega)))) 0 cnt (O (m+1))) c2 n2 (Qaj S v2 (l.take (k+1))):=fun c2 n2 v2 h1 h2 h3 h4 hL=>by
     rw[fl v2,za (fun e=>h1 (hv.symm.trans e)),zk];refine⟨?_,fun i hi=>?_⟩
     ·rw[Qi,za (by omega),Qi,za (by omega)];exact hL.1
     ·rw[Qi,za (by omega),Qi,za (by omega)];exact hL.2 i hi
    have new:cell≠0->QO B cell cnt (Qaj S v (l.take k))->QO (Ua (Ua B cell m (O (l[k]'(by omega)))) 0 cnt (O (m+1))) cell cnt (Qaj S v (l.take (k+1))):=fun h4 hL=>by
     rw[fl v,zb hv];refine⟨?_,fun i hi=>?_⟩
     ·rw[Qi,zb ⟨rfl,rfl⟩,zd,hm];rfl
     ·rw[zd] at hi;have hi':i<(Qaj S v (l.take k)).length+1:=hi;rw[Qi,za (by omega),Qi];by_cases e:i=m
      ·rw[zb ⟨rfl,e⟩,e,hm,QgT]
      ·rw[za (by omega),QgM (by omega)];exact hL.2 i (by omega)
    refine⟨fun c i h1 h2 h3 h4=>?_,?_⟩
    ·rw[Qi,za (by omega),Qi,za (by omega)];exact FB c i h1 h2 h3 h4
    rcases hc with⟨rfl,rfl,rfl⟩ | ⟨rfl,rfl,rfl⟩ | ⟨rfl,rfl,rfl⟩
    ·exact⟨new (by decide) L0,same 18 9 1 (by decide) (by decide) (by decide) (by decide) L1,same 19 10 2 (by decide) (by decide) (by decide) (by decide) L2⟩
    ·exact⟨same 17 8 0 (by decide) (by decide) (by decide) (by decide) L0,new (by decide) L1,same 19 10 2 (by decide) (by decide) (by decide) (by decide) L2⟩
    ·exact⟨same 17 8 0 (by decide) (by decide) (by decide) (by decide) L0,same 18 9 1 (by decide) (by decide) (by decide) (by decide) L1,new (by decide) L2⟩
   have len0:=len 0;have len1:=len 1;have len2:=len 2;rcases hb' with e | e | e
   ·rw[za (by rw[e];decide),Eak hf1,za (by rw[e];decide),EbE hf1,L0.1,zb (show O _<8 from (Qq (b:=8) (by omega) (by omega)).mpr (by omega)),zb (Qz (by omega) (by omega)),QA (by omega),Qx,Qx];exact⟨_,rfl,put 17 8 0 (Or.inl ⟨rfl,rfl,rfl⟩) e _ rfl⟩
   ·rw[zb e,L1.1,zb (show O _<8 from (Qq (b:=8) (by omega) (by omega)).mpr (by omega)),zb (Qz (by omega) (by omega)),QA (by omega),Qx,Qx];exact⟨_,rfl,put 18 9 1 (Or.inr (Or.inl ⟨rfl,rfl,rfl⟩)) e _ rfl⟩
   ·rw[za (by rw[e];decide),Eak hf1,zb e,L2.1,zb (show O _<8 from (Qq (b:=8) (by omega) (by omega)).mpr (by omega)),zb (Qz (by omega) (by omega)),QA (by omega),Qx,Qx];exact⟨_,rfl,put 19 10 2 (Or.inr (Or.inr ⟨rfl,rfl,rfl⟩)) e _ rfl⟩
 obtain⟨B,eB,FB,L0,L1,L2⟩:=key l.length (zo _);rw[zaU (zo _)] at L0 L1 L2;refine⟨B,?_,FB,L0,L1,L2⟩;rw[eB,Ey hf1,za zv]
end Tools2
def QK(v:Int32):Nat:=if v=0 then 0 else if v=2 then 1 else 2
def Qaa(r:Nat->Nat):Nat->Bool
 |0=>true
 |k+1=>Qaa r k&&(k==0||decide (r (k-1)<=r k))
def Qad(r:Nat->Nat):Nat->Bool
 |0=>true
 |k+1=>Qad r k&&(k==0||decide (r k<=r (k-1)))
def QaB(b:Bool):Int32:=if b=true then 1 else 0
section Grp
variable {f1:FT1}
theorem Qjj(hf1:Fx f1)(S:MS){x1:Int32}{cnt:Nat}(hx:(x1=0/\cnt=8)\/(x1=1/\cnt=9))(h:S 0 cnt=0):f1 (48,0,[V 0,I x1],[],S)=some (some (I (-1)),S):=by
 rw[Ej hf1];rcases hx with⟨rfl,rfl⟩ | ⟨rfl,rfl⟩
 ·rw[zb rfl,Eb hf1,h,za (by decide)]
 ·rw[za (by decide),Eb hf1,h,za (by decide)]
theorem Qiw(hf1:Fx f1)(S:MS){x1:Int32}{cell cnt:Nat}(hx:(x1=0/\cell=17/\cnt=8)\/(x1=1/\cell=18/\cnt=9))(h:S 0 cnt=1):f1 (48,0,[V 0,I x1],[],S)=some (some (I (S cell 0)),S):=by
 rw[Ej hf1];rcases hx with⟨rfl,rfl,rfl⟩ | ⟨rfl,rfl,rfl⟩
 ·rw[zb rfl,Eb hf1,h,zb (by decide),zb rfl,zb rfl]
 ·rw[za (by decide),Eb hf1,h,zb (by decide),zb rfl,za (by decide)]
theorem Qh9(hf1:Fx f1){S:MS}{x1 lab:Int32}{cell cnt:Nat}{l:List Nat}(hx:(x1=0/\cell=17/\cnt=8/\lab=0)\/(x1=1/\cell=18/\cnt=9/\lab=1))(hl:2<=l.length/\l.length<=8)(h64:∀u∈l,u<64)(h:QO S cell cnt l)(hfree:∃i,8<=i/\i<64/\S 5 i=0):∃g S',8<=g/\g<64/\S 5 g=0/\f1 (48,0,[V 0,I x1],[],S)=some (some (I (O g)),S')/\Qdt S S' g/\S' 5 g=1/\S' 1 g=1/\S' 3 g=O l.length/\S' 11 g=lab/\∀i,i<l.length->S' 4 (8*g+i)=O (l.getD i 0):=by
 obtain⟨g,A,g8,g64,gf,eA,FA,A5,A1,A3,A11⟩:=Qi4 hf1 (S:=S) 1 lab hfree;have n1:¬O l.length=1:=fun e=>by
  have:=congrArg Int32.toInt e;rw[Qac (by omega)] at this;have l1:(1:Int32).toInt=1:=rfl;omega
 have p0:0<O l.length:=(Qq (a:=0) (by omega) (by omega)).mpr (by omega);have start:f1 (48,0,[V 0,I x1],[],S)=f1 (48,76,[V 0,I x1,I (O l.length),I lab,I (O g),I 0],[],A):=by
  rw[Ej hf1];rcases hx with⟨rfl,rfl,rfl,rfl⟩ | ⟨rfl,rfl,rfl,rfl⟩
  ·rw[zb rfl,Eb hf1,h.1,zb p0,za n1,zb rfl,eA];simp only[zz];rw[E9 hf1,za (Qap (by omega))]
  ·rw[za (by decide),Eb hf1,h.1,zb p0,za n1,za (by decide),eA];simp only[zz];rw[E9 hf1,za (Qap (by omega))]
 have key:∀k,k<=l.length->∃B,f1 (48,76,[V 0,I x1,I (O l.length),I lab,I (O g),I 0],[],A)=f1 (48,76,[V 0,I x1,I (O l.length),I lab,I (O g),I (O k)],[],B)/\QcU A B g/\B 3 g=O k/\∀i,i<k->B 4 (8*g+i)=O (l.getD i 0):=fun k=>by
  induction k with
  |zero=>exact fun _=>⟨A,rfl,fun _ _ _ _ _=>rfl,A3,fun i hi=>absurd hi (by omega)⟩
  |succ k ih=>
   intro hk;obtain⟨B,eB,FB,B3,B4⟩:=ih (by omega);have u64:l.getD k 0<64:=by
    rw[zf,List.getElem?_eq_getElem (by omega)];exact h64 _ (zF _)
   have hB:B cell k=O (l.getD k 0):=by
    have:cell=17\/cell=18:=by rcases hx with⟨-,e,-⟩ | ⟨-,e,-⟩<;>omega
    rw[FB cell k (by omega) (by omega) (by omega),FA cell k (by omega) (by omega) (by omega)];exact h.2 k (by omega)
   rw[eB,EaR hf1,zb ((Qq (by omega) (by omega)).mpr (by omega)),zb (show O k<8 from (Qq (b:=8) (by omega) (by omega)).mpr (by omega)),QA (a:=k) (by omega),zb (Qz (by omega) (by omega))];have step:∃D,((f1 (29,0,[V 0,I (O g),I (B cell k)],[],B)).bind fun q=>f1 (48,120,[V 0,I x1,I (O l.length),I lab,I (O g),I (O k),I (B cell k)],q.1.toList++[],q.2))=f1 (48,76,[V 0,I x1,I (O l.length),I lab,I (O g),I (O (k+1))],[],D)/\QcU A D g/\D 3 g=O (k+1)/\∀i,i<k+1->D 4 (8*g+i)=O (l.getD i 0):=by
    rw[hB,QeI hf1 B g64 u64 (by omega) B3];simp only[zz];rw[EcL hf1,Qx];refine⟨_,rfl,fun c i h2 h3 h4=>?_,?_,fun i hi=>?_⟩
    ·rw[Qi,za (by omega),Qi,za (by omega),Qi,za (by omega)];exact FB c i h2 h3 h4
    ·rw[Qi,za (by omega),Qi,zb ⟨rfl,rfl⟩]
    ·rw[Qi,za (by omega),Qi,za (by omega),Qi];by_cases e:i=k
     ·subst e;rw[zb ⟨rfl,rfl⟩]
     ·rw[za (by omega)];exact B4 i (by omega)
   rcases hx with⟨rfl,rfl,rfl,rfl⟩ | ⟨rfl,rfl,rfl,rfl⟩
   ·rw[zb rfl];exact step
   ·rw[za (by decide),zb (Qz (by omega) (by omega))];exact step
 obtain⟨B,eB,FB,B3,B4⟩:=key l.length (zo _);refine⟨g,B,g8,g64,gf,?_,fun c i h2 h3 h4=>?_,?_,?_,B3,?_,B4⟩
 ·rw[start,eB,EaR hf1,za zv]
 ·rw[FB c i h2 (by omega) h4];exact FA c i h2 h3 h4
 ·rw[FB 5 g (by decide) (by omega) (by omega)];exact A5
 ·rw[FB 1 g (by decide) (by omega) (by omega)];exact A1
 ·rw[FB 11 g (by decide) (by omega) (by omega)];exact A11
theorem QiZ(hf1:Fx f1)(S:MS)(v:Int32):f1 (55,0,[V 0,I v],[],S)=some (some (I (O (QK v))),S):=by
 rw[Edb hf1];unfold QK
 split
 ·rfl
 ·split<;>rfl
theorem QhE(hf1:Fx f1){S:MS}{x:Nat}{l:List Nat}(hx:x<64)(hl:l.length<=8)(h64:∀u∈l,u<64)(h3:S 3 x=O l.length)(h4:∀i,i<l.length->S 4 (8*x+i)=O (l.getD i 0)):f1 (56,0,[V 0,I (O x)],[],S)=some (some (I (if Qaa (fun i=>QK (S 11 (l.getD i 0))) l.length=true then 1 else if Qad (fun i=>QK (S 11 (l.getD i 0))) l.length=true then -1 else 0)),S):=by
 rw[Eea hf1,QaS hf1 hx h3 hl];simp only[zz];rw[EcD hf1];generalize hr:(fun i=>QK (S 11 (l.getD i 0)))=r;have r2:∀i,r i<=2:=fun i=>by rw[<-hr];show QK _<=2;unfold QK;split<;>(try split)<;>omega
 have key:=Qaw (fun k=>f1 (56,17,[V 0,I (O x),I (O l.length),I (QaB (Qaa r k)),I (QaB (Qad r k)),I (if k=0 then -1 else O (r (k-1))),I (O k)],[],S)) (n:=l.length) fun k hk=>by
  show f1 _=f1 _;have u64:l.getD k 0<64:=by
   rw[zf,List.getElem?_eq_getElem (by omega)];exact h64 _ (zF _)
  have hrk:QK (S 11 (l.getD k 0))=r k:=by rw[<-hr]
  rw[EaJ hf1,zb ((Qq (by omega) (by omega)).mpr hk),zb (show O k<8 from (Qq (b:=8) (by omega) (by omega)).mpr (by omega)),Qaq hf1 S hx (by omega),h4 k hk];simp only[zz];rw[Ed4 hf1,Qcx hf1 S u64];simp only[zz];rw[EbO hf1,QiZ hf1,hrk];simp only[zz];rw[Eb1 hf1];have a1:=r2 k;have a2:=r2 (k-1);by_cases k0:k=0
  ·subst k0;rw[za (by decide),EL hf1,za (by decide),Qx];show f1 _=f1 (_,_,[_,_,_,I (QaB (Qaa r 0&&(true||_))),I (QaB (Qad r 0&&(true||_))),I (if 0+1=0 then _ else O (r 0)),_],_,_);rw[Bool.true_or,zae,zae,za (by omega)]
  ·have kp:0<O k:=(Qq (a:=0) (by omega) (by omega)).mpr (by omega);rw[zb kp,za k0];have ub:Qaa r (k+1)=(Qaa r k&&decide (r (k-1)<=r k)):=by show (Qaa r k&&(k==0||_))=_;rw[show (k==0)=false from by simpa using k0,zaa]
   have db:Qad r (k+1)=(Qad r k&&decide (r k<=r (k-1))):=by show (Qad r k&&(k==0||_))=_;rw[show (k==0)=false from by simpa using k0,zaa]
   have step:∀v3,v3=QaB (Qaa r (k+1))->f1 (56,69,[V 0,I (O x),I (O l.length),I v3,I (QaB (Qad r k)),I (O (r (k-1))),I (O k),I (O (l.getD k 0)),I (S 11 (l.getD k 0)),I (O (r k))],[],S)=f1 (56,17,[V 0,I (O x),I (O l.length),I (QaB (Qaa r (k+1))),I (QaB (Qad r (k+1))),I (if k+1=0 then -1 else O (r (k+1-1))),I (O (k+1))],[],S):=fun v3 hv=>by
    rw[EL hf1,zb kp,hv,Qx,za (show ¬k+1=0 by omega),Nat.add_sub_cancel];by_cases q:r (k-1)<r k
    ·rw[zb ((Qq (by omega) (by omega)).mpr q),db,show decide (r k<=r (k-1))=false from zu (by omega),zau];rfl
    ·rw[za (by rw[Qq (by omega) (by omega)];exact q),db,show decide (r k<=r (k-1))=true from zB (by omega),zae]
   by_cases q:r k<r (k-1)
   ·rw[zb ((Qq (by omega) (by omega)).mpr q)];exact step 0 (by rw[ub,show decide (r (k-1)<=r k)=false from zu (by omega),zau];rfl)
   ·rw[za (by rw[Qq (by omega) (by omega)];exact q)];exact step _ (by rw[ub,show decide (r (k-1)<=r k)=true from zB (by omega),zae])
 refine Eq.trans ?_ (key.trans ?_)
 ·rfl
 ·show f1 _=_;rw[EaJ hf1,za zv,Ecn hf1];cases Qaa r l.length<;>cases Qad r l.length<;>rfl
theorem Qjt(hf1:Fx f1){S:MS}{x:Nat}{l:List Nat}(hx:x<64)(hl:l.length<=8)(h64:∀u∈l,u<64)(h3:S 3 x=O l.length)(h4:∀i,i<l.length->S 4 (8*x+i)=O (l.getD i 0))(hne:∃i,i<l.length/\S 11 (l.getD i 0)≠0):∃a,a<l.length/\S 11 (l.getD a 0)≠0/\(∀i,i<a->S 11 (l.getD i 0)=0)/\f1 (63,0,[V 0,I (O x)],[],S)=some (some (I (O a)),S):=by
 rw[Ec4 hf1,QaS hf1 hx h3 hl];simp only[zz];rw[EcC hf1];have go:∀m k,k+m=l.length->(∀i,i<k->S 11 (l.getD i 0)=0)->∃a,a<l.length/\S 11 (l.getD a 0)≠0/\(∀i,i<a->S 11 (l.getD i 0)=0)/\f1 (63,8,[V 0,I (O x),I (O l.length),I (O k)],[],S)=some (some (I (O a)),S):=fun m=>by
  induction m with
  |zero=>intro k e h;obtain⟨i,h1,h2⟩:=hne;exact absurd (h i (by omega)) h2
  |succ m ih=>
   intro k e h;have u64:l.getD k 0<64:=by
    rw[zf,List.getElem?_eq_getElem (by omega)];exact h64 _ (zF _)
   rw[EdL hf1,zb ((Qq (by omega) (by omega)).mpr (by omega)),zb (show O k<8 from (Qq (b:=8) (by omega) (by omega)).mpr (by omega)),Qaq hf1 S hx (by omega),h4 k (by omega)];simp only[zz];rw[Ee2 hf1,Qcx hf1 S u64];simp only[zz];rw[Ect hf1];by_cases q:S 11 (l.getD k 0)=0
   ·rw[zb q,Qx];exact ih (k+1) (by omega) fun i hi=>by
     by_cases e:i=k
     ·rw[e];exact q
     ·exact h i (by omega)
   ·rw[za q];exact⟨k,by omega,q,h,rfl⟩
 exact go l.length 0 (by omega) fun i hi=>absurd hi (by omega)
end Grp
section Rev
variable {f1:FT1}
theorem QhD(hf1:Fx f1){S:MS}{x:Nat}{l:List Nat}(hx:x<64)(hl:l.length<=8)(h64:∀u∈l,u<64)(h3:S 3 x=O l.length)(h4:∀i,i<l.length->S 4 (8*x+i)=O (l.getD i 0))(hne:∃i,i<l.length/\S 11 (l.getD i 0)≠0):∃a,a<l.length/\S 11 (l.getD a 0)≠0/\(∀i,a<i->i<l.length->S 11 (l.getD i 0)=0)/\f1 (64,0,[V 0,I (O x)],[],S)=some (some (I (O a)),S):=by
 have hpos:0<l.length:=by obtain⟨i,h,-⟩:=hne;omega
 rw[EbK hf1,QaS hf1 hx h3 hl];simp only[zz];rw[EdZ hf1,show O l.length-1=O (l.length-1) from Qba (b:=1) (by omega)];have go:∀k,k<l.length->(∀i,k<i->i<l.length->S 11 (l.getD i 0)=0)->∃a,a<l.length/\S 11 (l.getD a 0)≠0/\(∀i,a<i->i<l.length->S 11 (l.getD i 0)=0)/\f1 (64,10,[V 0,I (O x),I (O l.length),I (O k)],[],S)=some (some (I (O a)),S):=fun k=>by
  induction k with
  |zero=>
   intro hk h;obtain⟨i,h1,h2⟩:=hne;have i0:i=0:=by
    rcases Nat.eq_zero_or_pos i with e | e
    ·exact e
    ·exact absurd (h i e h1) h2
   subst i0;have u64:l.getD 0 0<64:=by
    rw[zf,List.getElem?_eq_getElem (by omega)];exact h64 _ (zF _)
   rw[Eab hf1,za (Qap (by omega)),zb (by decide),Qaq hf1 S hx (by omega),h4 0 (by omega)];simp only[zz];rw[EaQ hf1,Qcx hf1 S u64];simp only[zz];rw[EC hf1,za h2];exact⟨0,hk,h2,h,rfl⟩
  |succ k ih=>
   intro hk h;have u64:l.getD (k+1) 0<64:=by
    rw[zf,List.getElem?_eq_getElem (by omega)];exact h64 _ (zF _)
   rw[Eab hf1,za (Qap (by omega)),zb (show O (k+1)<8 from (Qq (b:=8) (by omega) (by omega)).mpr (by omega)),Qaq hf1 S hx (by omega),h4 (k+1) (by omega)];simp only[zz];rw[EaQ hf1,Qcx hf1 S u64];simp only[zz];rw[EC hf1];by_cases q:S 11 (l.getD (k+1) 0)=0
   ·rw[zb q,show O (k+1) + -1=O k from by rw[<-Qx,Int32.add_assoc,show (1:Int32) + -1=0 from by decide,Int32.add_zero]];exact ih (by omega) fun i h1 h2=>by
     by_cases e:i=k+1
     ·rw[e];exact q
     ·exact h i (by omega) h2
   ·rw[za q];exact⟨k+1,hk,q,h,rfl⟩
 exact go (l.length-1) (by omega) fun i h1 h2=>absurd h1 (by omega)
theorem Qgw(hf1:Fx f1)(S:MS){x k:Nat}(hx:x<64)(hk:k<8)(v:Int32):f1 (25,0,[V 0,I (O x),I (O k),I v],[],S)=some (none,Ua S 4 (8*x+k) v):=by
 rw[EcO hf1,Qav hf1 S hx];simp only[zz];rw[Efj hf1,za (by decide),za (Qap (by omega)),zb (show O k<8 from (Qq (b:=8) (by omega) (by omega)).mpr hk),show O x*8+O k=O (8*x+k) from by rw[<-Qcq,zQ,<-Qbz];rfl,zb (Qz (by omega) (by omega)),QA (by omega)]
theorem QjH(hf1:Fx f1){S:MS}{x:Nat}{l:List Nat}(hx:x<64)(hl:l.length<=8)(h2:1<=l.length)(h3:S 3 x=O l.length)(h4:∀i,i<l.length->S 4 (8*x+i)=O (l.getD i 0)):∃S',f1 (54,0,[V 0,I (O x)],[],S)=some (none,S')/\(∀c i,¬(c=4/\8*x<=i/\i<8*x+8)->S' c i=S c i)/\∀i,i<l.length->S' 4 (8*x+i)=O (l.reverse.getD i 0):=by
 rw[EdT hf1,QaS hf1 hx h3 hl];simp only[zz];rw[EbB hf1];have rv:∀i,i<l.length->l.reverse.getD i 0=l.getD (l.length-1-i) 0:=fun i hi=>by
  simp only[zf,List.getElem?_reverse hi]
 have go:∀m k B,k+m=8->(∀c i,¬(c=4/\8*x<=i/\i<8*x+8)->B c i=S c i)->(∀i,i<l.length->B 4 (8*x+i)=O (if i<k\/l.length<=i+k then l.getD (l.length-1-i) 0 else l.getD i 0))->∃S',f1 (54,8,[V 0,I (O x),I (O l.length),I (O k)],[],B)=some (none,S')/\(∀c i,¬(c=4/\8*x<=i/\i<8*x+8)->S' c i=S c i)/\∀i,i<l.length->S' 4 (8*x+i)=O (l.reverse.getD i 0):=fun m=>by
  induction m with
  |zero=>
   intro k B e F h;have e':k=8:=by omega
   subst e';rw[EE hf1,za (by decide)];exact⟨B,rfl,F,fun i hi=>by rw[h i hi,zb (by omega),rv i hi]⟩
  |succ m ih=>
   intro k B e F h;rw[EE hf1,zb (show O k<8 from (Qq (b:=8) (by omega) (by omega)).mpr (by omega)),show O l.length-1=O (l.length-1) from Qba (b:=1) (by omega)];by_cases hkl:k<=l.length-1
   ·rw[Qba hkl];by_cases q:k<l.length-1-k
    ·rw[zb ((Qq (by omega) (by omega)).mpr q),Qaq hf1 B hx (by omega)];simp only[zz];rw[Edj hf1,Qaq hf1 B hx (by omega)];simp only[zz];rw[Ebm hf1,Qgw hf1 B hx (by omega)];simp only[zz];rw[Ee0 hf1,Qgw hf1 _ hx (by omega)];simp only[zz];rw[EbP hf1,Qx];refine ih (k+1) _ (by omega) (fun c i hc=>?_) (fun i hi=>?_)
     ·rw[Qi,za (by omega),Qi,za (by omega)];exact F c i hc
     ·rw[Qi];by_cases e1:i=l.length-1-k
      ·rw[zb ⟨rfl,by omega⟩,h k (by omega),za (by omega),zb (by omega),show l.length-1-i=k from by omega]
      ·rw[za (by omega),Qi];by_cases e2:i=k
       ·rw[zb ⟨rfl,by omega⟩,h _ (by omega),za (by omega),zb (by omega),e2]
       ·rw[za (by omega),h i hi];by_cases e3:i<k\/l.length<=i+k
        ·rw[zb e3,zb (by omega)]
        ·rw[za e3,za (by omega)]
    ·rw[za (by rw[Qq (by omega) (by omega)];exact q)];refine⟨B,rfl,F,fun i hi=>?_⟩;rw[h i hi,rv i hi];by_cases e3:i<k\/l.length<=i+k
     ·rw[zb e3]
     ·rw[za e3,show l.length-1-i=i from by omega]
   ·rw[za (by
     rw[zY,Qac (by omega),Int32.toInt_sub,Qac (by omega),Qac (by omega),bm32 (by omega) (by omega)];omega)]
    refine⟨B,rfl,F,fun i hi=>?_⟩;rw[h i hi,rv i hi,zb (by omega)]
 exact go 8 0 S rfl (fun _ _ _=>rfl) (fun i hi=>by rw[h4 i hi,za (by omega)])
end Rev
def Qk:List Qd->Qd
 |[] => .null
 |t::l => .add t (Qk l)
theorem Qbs:∀l,QM (Qk l)
 |[]=>trivial
 |_::_=>trivial
theorem QT:∀l,Qc (Qk l)=l
 |[]=>rfl
 |t::l=>by show t::Qc (Qk l)=_;rw[QT l]
theorem Qdg:∀ {l:List Qd},(∀t∈l,Qp t/\Qu t)->Qu (Qk l)
 |[],_=>trivial
 |t::l,h=>⟨(h t (by simp)).1,Qbs l,(h t (by simp)).2,Qdg fun u hu=>h u (by simp[hu])⟩
theorem Qdi:∀l,Qb (Qk l)=l.flatMap Qb
 |[]=>rfl
 |t::l=>by show Qb t++Qb (Qk l)=_;rw[Qdi l,zg]
theorem Qa7:∀l,Qf (Qk l)=l.flatMap Qf
 |[]=>rfl
 |t::l=>by show Qf t++Qf (Qk l)=_;rw[Qa7 l,zg]
theorem Qdq{S:MS}:∀ {l:List Qd},(∀t∈l,QI S t)->QI S (Qk l)
 |[],_=>trivial
 |t::l,h=>⟨h t (by simp),Qdq fun u hu=>h u (by simp[hu])⟩
def Qe:Qd->Qd
 | .arg c => .arg c
 | .op2 o (.arg _) f => .op2 o (.arg 0) (Qe f)
 | .add t f => .add (Qe t) (Qe f)
 |_ => .null
theorem Qcm:∀f,Qu f->QM f->Qc (Qe f)=(Qc f).map Qe
 | .add t f,w,_=>by show Qe t::Qc (Qe f)=_;rw[Qcm f w.2.2.2 w.2.1];rfl
 | .null,_,_=>rfl
theorem Qa0:∀l,Qe (Qk l)=Qk (l.map Qe)
 |[]=>rfl
 |t::l=>by show Jvm.Term.add (Qe t) (Qe (Qk l))=_;rw[Qa0 l];rfl
theorem Qf0:∀t,Qu t->Qf (Qe t)=Qf t:=Q3
 (fun c _=>rfl) (fun o x f _ ih=>ih) (fun t f _ iht ihf=>by show Qf (Qe t)++Qf (Qe f)=_;rw[iht,ihf];rfl) rfl
theorem Qd0:∀t,Qu t->QR (Qe t)=QR t/\QaH (Qe t)=QaH t/\Q9 (Qe t)=Q9 t/\QN (Qe t)=QN t:=Q3
 (fun c _=>⟨rfl,rfl,rfl,rfl⟩)
 (fun o x f w ih=>by
  obtain⟨i1,i2,i3,i4⟩:=ih;have hk:(Qc (Qe f)).length=(Qc f).length:=by rw[Qcm f w.2.2.2.2 w.2.2.2.1,zh]
  refine⟨?_,?_,?_,?_⟩
  ·show ([_]:List Int32)=[_];rw[i1]
  ·show ([_]:List Int32)=[_];rw[i2]
  ·show ([_]:List (List Nat))=[_];rw[i1,i3]
  ·show QN (Qe f)*_=QN f*_;rw[i4,hk])
 (fun t f _ iht ihf=>by
  obtain⟨i1,i2,i3,i4⟩:=iht;obtain⟨j1,j2,j3,j4⟩:=ihf;refine⟨?_,?_,?_,?_⟩
  ·show QR (Qe t)++QR (Qe f)=_;rw[i1,j1];rfl
  ·show QaH (Qe t)++QaH (Qe f)=_;rw[i2,j2];rfl
  ·show Q9 (Qe t)++Q9 (Qe f)=_;rw[i3,j3];rfl
  ·show QN (Qe t)*QN (Qe f)=_;rw[i4,j4];rfl)
 ⟨rfl,rfl,rfl,rfl⟩
def Qg(b:Nat->Bool)(t:Qd):Int32:=if (Qf t).all b=true then 1 else if (Qf t).all (fun c => !b c)=true then 0 else 2
theorem QbW(b:Nat->Bool)(t:Qd)(w:Qu t):Qg b (Qe t)=Qg b t:=by unfold Qg;rw[Qf0 t w]
def Qn:Qd->List Qd
 | .op2 _ (.arg _) f=>Qc f
 |_=>[]
def QB:List Qd->List Qd
 |[]=>[]
 |[u]=>[u]
 |u::v::l=>[.op2 .iand (.arg 0) (Qk (u::v::l))]
def Qa(b:Nat->Bool)(v:Int32)(l:List Qd):List Qd:=l.filter fun u=>decide (Qg b u=v)
def QaE(b:Nat->Bool)(l:List Qd):Option Qd:=
 if 2<=(Qa b 2 l).length then none
 else if (Qa b 2 l).length=0/\((Qa b 0 l).length=0\/(Qa b 1 l).length=0) then some (.op2 .iand (.arg 0) (Qk l))
 else some (.op2 .ior (.arg 0) (Qk (QB (Qa b 0 l)++(Qa b 2 l).flatMap Qn++QB (Qa b 1 l))))
def QQ(b:Nat->Bool)(l:List Qd):List Qd:=l.flatMap fun u=>if Qg b u=2 then Qn u else [u]
def QaG(b:Nat->Bool)(l:List Qd):Option Qd:=
 if 2<=(Qa b 2 l).length then none
 else if (Qa b 2 l).length=0/\((Qa b 0 l).length=0\/(Qa b 1 l).length=0) then some (.op2 .ior (.arg 0) (Qk l))
 else if Qaa (fun i=>QK (Qg b (l.getD i .null))) l.length=true then some (.op2 .ior (.arg 0) (Qk (QQ b l)))
 else if Qad (fun i=>QK (Qg b (l.getD i .null))) l.length=true then some (.op2 .ior (.arg 0) (Qk (QQ b l.reverse)))
 else none
def QJ(b:Nat->Bool):Qd->Option Qd
 | .arg c=>some (.arg c)
 | .op2 o (.arg x) f=>if Qg b (.op2 o (.arg x) f)=0 then some (.op2 o (.arg 0) (Qe f)) else (QJ b f).bind fun f'=>if o = .iand then QaE b (Qc f') else QaG b (Qc f')
 | .add t f=>(QJ b t).bind fun t'=>(QJ b f).bind fun f'=>some (.add t' f')
 |_=>some .null
def Qbd(S S':MS)(G:List Nat):Prop:=∀c i,c≠2->¬((c=1\/c=3\/c=5\/c=11)/\i∈G)->¬(c=4/\i/8∈G)->S' c i=S c i
def Qak(S S':MS)(G:List Nat):Prop:=∀c i,c≠2->(c<16\/19<c)->¬(c=0/\7<=i/\i<=10)->¬((c=1\/c=3\/c=5\/c=11)/\i∈G)->¬(c=4/\i/8∈G)->S' c i=S c i
theorem Q8{S S':MS}{G:List Nat}(h:Qbd S S' G):Qak S S' G:=fun c i h2 _ _ h5 h6=>h c i h2 h5 h6
theorem QbN{S A B:MS}{G H:List Nat}(h:Qak S A G)(h':Qak A B H):Qak S B (G++H):=fun c i h1 h2 h3 h4 h5=>
 (h' c i h1 h2 h3 (fun q=>h4 ⟨q.1,zc.mpr (Or.inr q.2)⟩) (fun q=>h5 ⟨q.1,zc.mpr (Or.inr q.2)⟩)).trans
 (h c i h1 h2 h3 (fun q=>h4 ⟨q.1,zc.mpr (Or.inl q.2)⟩) (fun q=>h5 ⟨q.1,zc.mpr (Or.inl q.2)⟩))
theorem Qhq{S A B:MS}{G H:List Nat}(h:Qbd S A G)(h':Qbd A B H):Qbd S B (G++H):=fun c i h1 h4 h5=>
 (h' c i h1 (fun q=>h4 ⟨q.1,zc.mpr (Or.inr q.2)⟩) (fun q=>h5 ⟨q.1,zc.mpr (Or.inr q.2)⟩)).trans
 (h c i h1 (fun q=>h4 ⟨q.1,zc.mpr (Or.inl q.2)⟩) (fun q=>h5 ⟨q.1,zc.mpr (Or.inl q.2)⟩))
theorem Qiy{S S':MS}{G H:List Nat}(h:Qak S S' G)(m:∀i∈G,i∈H):Qak S S' H:=fun c i h1 h2 h3 h4 h5=>
 h c i h1 h2 h3 (fun q=>h4 ⟨q.1,m _ q.2⟩) (fun q=>h5 ⟨q.1,m _ q.2⟩)
theorem Qhw{S S':MS}(h:∀c i,c≠16->¬(c=0/\i=7)->S' c i=S c i):Qak S S' []:=fun c i _ h2 h3 _ _=>h c i (by omega) (by omega)
theorem QiL{S S':MS}{g:Nat}(h:Qdt S S' g):Qbd S S' [g]:=fun c i h1 h2 h3=>h c i h1 (fun q=>h2 ⟨q.1,by simp[q.2]⟩) (fun q=>h3 ⟨q.1,by rw[zi];omega⟩)
theorem QeV{S S':MS}{g:Nat}(h:QcU S S' g):Qbd S S' [g]:=fun c i h1 h2 h3=>h c i h1 (fun q=>h2 ⟨Or.inr (Or.inl q.1),by simp[q.2]⟩) (fun q=>h3 ⟨q.1,by rw[zi];omega⟩)
def QaT(S S':MS)(i:Nat):Prop:=S' 1 i=S 1 i/\S' 3 i=S 3 i/\S' 5 i=S 5 i/\S' 11 i=S 11 i/\∀k,k<8->S' 4 (8*i+k)=S 4 (8*i+k)
theorem QgU{S A B:MS}{i:Nat}(h:QaT S A i)(h':QaT A B i):QaT S B i:=
 ⟨h'.1.trans h.1,h'.2.1.trans h.2.1,h'.2.2.1.trans h.2.2.1,h'.2.2.2.1.trans h.2.2.2.1,fun k hk=>(h'.2.2.2.2 k hk).trans (h.2.2.2.2 k hk)⟩
theorem Qax{S S':MS}{G:List Nat}(h:Qak S S' G){i:Nat}(hi:i∉G):QaT S S' i:=
 ⟨h 1 i (by decide) (by decide) (by omega) (fun q=>hi q.2) (by omega),h 3 i (by decide) (by decide) (by omega) (fun q=>hi q.2) (by omega),h 5 i (by decide) (by decide) (by omega) (fun q=>hi q.2) (by omega),h 11 i (by decide) (by decide) (by omega) (fun q=>hi q.2) (by omega),fun k hk=>h 4 _ (by decide) (by decide) (by omega) (by omega) (fun q=>hi (by have:=q.2;rw[show (8*i+k)/8=i from by omega] at this;exact this))⟩
theorem QbX{S S':MS}:∀t,Qu t->(∀i∈Qb t,QaT S S' i)->QI S t->QI S' t:=Q3
 (fun c _ h r=>(h c (by simp[Qb])).1.trans r)
 (fun o x f w ih h r=>by
  have hx:=h x (by simp[Qb]);have hw:=w.2.2.1.2;exact⟨hx.1.trans r.1,hx.2.1.trans r.2.1,fun i hi=>(hx.2.2.2.2 i (by omega)).trans (r.2.2.1 i hi),ih (fun i hi=>h i (by simp only[Qb,zc];exact Or.inl hi)) r.2.2.2⟩)
 (fun t f _ ih ih' h r=>⟨ih (fun i hi=>h i (by simp only[Qb,zc];exact Or.inl hi)) r.1,ih' (fun i hi=>h i (by simp only[Qb,zc];exact Or.inr hi)) r.2⟩) (fun _ _=>trivial)
def Qa3(S:MS)(m:Nat):Prop:=∃L:List Nat,L.length<=m/\∀i,8<=i->i<64->S 5 i≠0->i∈L
theorem QiV{S:MS}{m:Nat}(h:Qa3 S m)(hm:m<56):∃i,8<=i/\i<64/\S 5 i=0:=by
 obtain⟨L,hL,h⟩:=h;refine Classical.byContradiction fun q=>?_;have sub:List.range' 8 56 ⊆ L:=fun i hi=>by
  rw[List.mem_range'] at hi;obtain⟨j,hj,e⟩:=hi;exact h i (by omega) (by omega) fun e0=>q ⟨i,by omega,by omega,e0⟩
 have:=List.Nodup.length_le_of_subset (List.nodup_range') sub;rw[List.length_range'] at this;omega
theorem Qii{S S':MS}{m g:Nat}(h:Qa3 S m)(e:∀i,i≠g->S' 5 i=S 5 i):Qa3 S' (m+1):=by
 obtain⟨L,hL,h⟩:=h;refine⟨g::L,by simp;omega,fun i h1 h2 h3=>?_⟩;by_cases q:i=g
 ·simp[q]
 ·exact List.mem_cons_of_mem _ (h i h1 h2 (by rw[<-e i q];exact h3))
theorem Qar{S S':MS}{m m':Nat}(h:Qa3 S m)(hm:m<=m')(e:∀i,S' 5 i=S 5 i\/S' 5 i=0):Qa3 S' m':=by
 obtain⟨L,hL,h⟩:=h;refine⟨L,by omega,fun i h1 h2 h3=>h i h1 h2 ?_⟩;rcases e i with q | q
 ·rw[<-q];exact h3
 ·exact absurd q h3
def QZ(S S':MS)(P:List Nat):Prop:=(∀c i,c≠1->c≠2->c≠3->c≠4->c≠5->c≠11->(c<16\/19<c)->¬(c=0/\7<=i/\i<=10)->S' c i=S c i)/\∀i,(i<8\/(i∉P/\S 5 i≠0))->QaT S S' i
theorem Qce{S S':MS}{G P:List Nat}(h:Qak S S' G)(hG:∀g∈G,8<=g/\(g∈P\/S 5 g=0)):QZ S S' P:=⟨fun c i h1 h2 h3 h4 h5 h6 h7 h8=>h c i h2 h7 h8 (by omega) (by omega),fun i hi=>Qax h fun q=>by
 have:=hG i q;rcases hi with hi | ⟨hi,h5⟩
 ·omega
 ·rcases this.2 with e | e
  ·exact hi e
  ·exact h5 e⟩
theorem QbF{S A B:MS}{P Q R:List Nat}(h:QZ S A P)(h':QZ A B Q)(hP:∀i∈P,i∈R)(hQ:∀i∈Q,8<=i->i∈R\/S 5 i=0):QZ S B R:=⟨fun c i h1 h2 h3 h4 h5 h6 h7 h8=>(h'.1 c i h1 h2 h3 h4 h5 h6 h7 h8).trans (h.1 c i h1 h2 h3 h4 h5 h6 h7 h8),fun i hi=>by
 by_cases i8:i<8
 ·exact QgU (h.2 i (Or.inl i8)) (h'.2 i (Or.inl i8))
 rcases hi with hi | ⟨hi,h5⟩
 ·exact absurd hi i8
 have a:=h.2 i (Or.inr ⟨fun q=>hi (hP i q),h5⟩);refine QgU a (h'.2 i (Or.inr ⟨fun q=>?_,by rw[a.2.2.1];exact h5⟩));rcases hQ i q (by omega) with e | e
 ·exact hi e
 ·exact h5 e⟩
theorem Qbq(S:MS)(P:List Nat):QZ S S P:=⟨fun _ _ _ _ _ _ _ _ _ _=>rfl,fun _ _=>⟨rfl,rfl,rfl,rfl,fun _ _=>rfl⟩⟩
def Qah(S S':MS)(x:Nat)(P l:List Nat)(m:Nat)(T:Qd):Prop:=Qu T/\Qp T/\Qh T=x/\QI S' T/\(Qb T).Nodup/\(∀i∈Qb T,i∈P\/(8<=i/\S 5 i=0))/\(∀i∈Qb T,8<=i->S' 5 i≠0)/\(Qf T).Perm l/\Qa3 S' m
theorem Qd2{S':MS}{x:Nat}{Ks:List Qd}(h4:∀i,i<(Ks.map Qh).length->S' 4 (8*x+i)=O ((Ks.map Qh).getD i 0)):∀i,i<Ks.length->S' 4 (8*x+i)=O (Qh (Ks.getD i .null)):=fun i hi=>by
 rw[h4 i (by rw[zh];exact hi)]
 congr 1
 simp only[zf,List.getElem?_map,List.getElem?_eq_getElem hi];rfl
theorem Qcn{S':MS}{x:Nat}{Ks:List Qd}(h4:∀i,i<Ks.length->S' 4 (8*x+i)=O (Qh (Ks.getD i .null))):∀i,i<(Ks.map Qh).length->S' 4 (8*x+i)=O ((Ks.map Qh).getD i 0):=fun i hi=>by
 rw[zh] at hi;rw[h4 i hi]
 congr 1
 simp only[zf,List.getElem?_map,List.getElem?_eq_getElem hi];rfl
theorem QbL{l P G:List Nat}(h:∀a,l.count a<=P.count a+G.count a)(nP:P.Nodup)(nG:G.Nodup)(d:∀a∈G,a∉P):l.Nodup/\∀a∈l,a∈P\/a∈G:=by
 refine⟨zS.mpr fun a=>?_,fun a ha=>?_⟩
 ·have h1:=h a;have h2:=zS.mp nP a;have h3:=zS.mp nG a;by_cases q:a∈G
  ·rw[List.count_eq_zero.mpr (d a q)] at h1;omega
  ·rw[List.count_eq_zero.mpr q] at h1;omega
 ·have h1:=h a;have h2:=zH.mpr ha;by_cases q:a∈P
  ·exact Or.inl q
  ·rw[List.count_eq_zero.mpr q] at h1;exact Or.inr (zH.mp (by omega))
theorem QdE{S S':MS}{o:Jvm.Binary}{x m:Nat}{Ks:List Qd}{P G l:List Nat}(hx:8<=x/\x<64)(ho:o = .iand\/o = .ior)(hK:∀u∈Ks,Qp u/\Qu u/\QI S' u)(hk:2<=Ks.length/\Ks.length<=8)(h1:S' 1 x=QaZ o)(h3:S' 3 x=O Ks.length)(h4:∀i,i<(Ks.map Qh).length->S' 4 (8*x+i)=O ((Ks.map Qh).getD i 0))(nP:P.Nodup)(nG:G.Nodup)(hG:∀g∈G,8<=g/\S 5 g=0)(hP:∀i∈P,8<=i->S 5 i≠0)(hC:∀a,(Ks.flatMap Qb++[x]).count a<=P.count a+G.count a)(hL:∀i∈Ks.flatMap Qb++[x],8<=i->S' 5 i≠0)(hV:∀a,(Ks.flatMap Qf).count a=l.count a)(hc:Qa3 S' m):Qah S S' x P l m (.op2 o (.arg x) (Qk Ks)):=by
 have ep:Qb (.op2 o (.arg x) (Qk Ks))=Ks.flatMap Qb++[x]:=by show Qb (Qk Ks)++[x]=_;rw[Qdi]
 have ev:Qf (.op2 o (.arg x) (Qk Ks))=Ks.flatMap Qf:=by show Qf (Qk Ks)=_;rw[Qa7]
 have Na:=QbL hC nP nG fun a ha hp=>hP a hp (hG a ha).1 (hG a ha).2;refine⟨⟨hx,ho,by rw[QT];exact hk,Qbs _,Qdg fun u hu=>⟨(hK u hu).1,(hK u hu).2.1⟩⟩,trivial,rfl,⟨h1,by rw[QT];exact h3,by rw[QT];exact Qd2 h4,Qdq fun u hu=>(hK u hu).2.2⟩,by rw[ep];exact Na.1,fun i hi=>?_,by rw[ep];exact hL,by rw[ev];exact zO.mpr hV,hc⟩;rw[ep] at hi;rcases Na.2 i hi with q | q
 ·exact Or.inl q
 ·exact Or.inr (hG i q)
def Qau(b:Nat->Bool)(l:List Nat):Int32:=if l.all b=true then 1 else if l.all (fun c => !b c)=true then 0 else 2
theorem QdS{b:Nat->Bool}{l l':List Nat}(h:l.Perm l'):Qau b l=Qau b l':=by
 unfold Qau;rw[h.all_eq,h.all_eq]
theorem QaC(b:Nat->Bool)(t:Qd):Qg b t=0\/Qg b t=1\/Qg b t=2:=by
 unfold Qg;split
 ·exact Or.inr (Or.inl rfl)
 ·split
  ·exact Or.inl rfl
  ·exact Or.inr (Or.inr rfl)
theorem QcC:∀t,Qu t->Qp t->Qf t≠[]:=fun t w h e=>by
 have:=(QgH t w).1 h;rw[e] at this;exact absurd this (by simp)
theorem Qy{b:Nat->Bool}{v:Int32}{l:List Qd}{u:Qd}:u∈Qa b v l↔u∈l/\Qg b u=v:=by
 unfold Qa;rw[List.mem_filter,decide_eq_true_iff]
theorem Q7{b:Nat->Bool}{v:Int32}{l:List Qd}:Qa b v l=[]↔∀u∈l,Qg b u≠v:=by
 unfold Qa;rw[zaV];simp
theorem Qbp{b:Nat->Bool}{t:Qd}(h:Qg b t=1):(Qf t).all b=true:=by
 unfold Qg at h;split at h
 ·assumption
 ·split at h<;>exact absurd h (by decide)
theorem Qbj{b:Nat->Bool}{t:Qd}(h:Qg b t=0):(Qf t).all (fun c => !b c)=true:=by
 unfold Qg at h;split at h
 ·exact absurd h (by decide)
 ·split at h
  ·assumption
  ·exact absurd h (by decide)
theorem Qb9{b:Nat->Bool}{t:Qd}(h:Qg b t=2):¬(Qf t).all b=true/\¬(Qf t).all (fun c => !b c)=true:=by
 unfold Qg at h;split at h
 ·exact absurd h (by decide)
 ·split at h
  ·exact absurd h (by decide)
  ·constructor<;>assumption
theorem QaJ{p:Nat->Bool}{K:List Qd}:(K.flatMap Qf).all p=true↔∀u∈K,(Qf u).all p=true:=by
 simp only[zw,zx];exact⟨fun h u hu c hc=>h c ⟨u,hu,hc⟩,fun h c ⟨u,hu,hc⟩=>h u hu c hc⟩
theorem QdX{b:Nat->Bool}{K:List Qd}(h0:Qa b 0 K=[])(h2:Qa b 2 K=[]):Qau b (K.flatMap Qf)=1:=by
 unfold Qau;rw[zb];rw[QaJ];intro u hu;rcases QaC b u with e | e | e
 ·exact absurd e (Q7.mp h0 u hu)
 ·exact Qbp e
 ·exact absurd e (Q7.mp h2 u hu)
theorem QbV{p:Nat->Bool}{l:List Nat}(hl:l≠[])(h1:l.all p=true)(h2:l.all (fun c => !p c)=true):False:=by
 cases l with
 |nil=>exact hl rfl
 |cons a l=>
  have e1:=zw.mp h1 a (by simp);have e2:=zw.mp h2 a (by simp);rw[e1] at e2;exact absurd e2 (by decide)
theorem QfE{b:Nat->Bool}{K:List Qd}(hK:∀u∈K,Qp u/\Qu u)(hn:K≠[])(h0:Qa b 1 K=[])(h2:Qa b 2 K=[]):Qau b (K.flatMap Qf)=0:=by
 have ha:∀u∈K,(Qf u).all (fun c => !b c)=true:=fun u hu=>by
  rcases QaC b u with e | e | e
  ·exact Qbj e
  ·exact absurd e (Q7.mp h0 u hu)
  ·exact absurd e (Q7.mp h2 u hu)
 unfold Qau;rw[za,zb (QaJ.mpr ha)];intro q;cases K with
 |nil=>exact hn rfl
 |cons u K=>
  have hu:=hK u (by simp);exact QbV (QcC u hu.2 hu.1) (QaJ.mp q u (by simp)) (ha u (by simp))
theorem Qgc{b:Nat->Bool}{K:List Qd}(hK:∀u∈K,Qp u/\Qu u)(h:Qa b 2 K≠[]\/(Qa b 0 K≠[]/\Qa b 1 K≠[])):Qau b (K.flatMap Qf)=2:=by
 have ex:∀v,Qa b v K≠[]->∃u∈K,Qg b u=v:=fun v hv=>by
  obtain⟨u,hu⟩:=zan _ hv;exact⟨u,(Qy.mp hu).1,(Qy.mp hu).2⟩
 unfold Qau;rw[za,za]
 ·intro q;rw[QaJ] at q;rcases h with h | ⟨-,h⟩
  ·obtain⟨u,hu,e⟩:=ex 2 h;exact (Qb9 e).2 (q u hu)
  ·obtain⟨u,hu,e⟩:=ex 1 h;exact QbV (QcC u (hK u hu).2 (hK u hu).1) (Qbp e) (q u hu)
 ·intro q;rw[QaJ] at q;rcases h with h | ⟨h,-⟩
  ·obtain⟨u,hu,e⟩:=ex 2 h;exact (Qb9 e).1 (q u hu)
  ·obtain⟨u,hu,e⟩:=ex 0 h;exact QbV (QcC u (hK u hu).2 (hK u hu).1) (q u hu) (Qbj e)
theorem Qbo(b:Nat->Bool)(g:Qd->List Nat)(a:Nat):∀K:List Qd,(K.flatMap g).count a=((Qa b 0 K).flatMap g).count a+((Qa b 2 K).flatMap g).count a+((Qa b 1 K).flatMap g).count a
 |[]=>rfl
 |u::K=>by
  have ih:=Qbo b g a K;have st:∀v,Qa b v (u::K)=if Qg b u=v then u::Qa b v K else Qa b v K:=fun v=>by
   unfold Qa;rw[List.filter_cons];by_cases e:Qg b u=v
   ·rw[zb (by simpa using e),zb e]
   ·rw[za (by simpa using e),za e]
  rw[st 0,st 1,st 2,zg,zj];rcases QaC b u with e | e | e
  ·rw[e,zb rfl,za (by decide),za (by decide),zg,zj];omega
  ·rw[e,zb rfl,za (by decide),za (by decide),zg,zj];omega
  ·rw[e,zb rfl,za (by decide),za (by decide),zg,zj];omega
theorem Qbl:∀l:List Qd,(∀u∈l,Qp u/\Qu u)->l.length<=(l.flatMap Qf).length
 |[],_=>zo _
 |u::l,h=>by
  have ih:=Qbl l fun v hv=>h v (by simp[hv]);have hu:=h u (by simp);have:=zah.mpr (QcC u hu.2 hu.1);rw[zg,zd,zs];omega
theorem QbZ(b:Nat->Bool)(v:Int32)(K:List Qd)(hK:∀u∈K,Qu u):Qa b v (K.map Qe)=(Qa b v K).map Qe:=by
 unfold Qa;rw[List.filter_map]
 congr 1
 refine List.filter_congr fun u hu=>?_;show decide (Qg b (Qe u)=v)=_;rw[QbW b u (hK u hu)]
theorem Qjc{S:MS}{b:Nat->Bool}(v:Int32)(K:List Qd)(hK:∀u∈K,S 11 (Qh u)=Qg b u):Qaj S v (K.map Qh)=(Qa b v K).map Qh:=by
 unfold Qa Qaj;rw[List.filter_map]
 congr 1
 refine List.filter_congr fun u hu=>?_;show decide (S 11 (Qh u)=v)=_;rw[hK u hu]
theorem QaO{b:Nat->Bool}:∀ {y:Qd},Qp y->Qu y->Qg b y=2->(8<=Qh y/\Qh y<64)/\(2<=(Qn y).length/\(Qn y).length<=8)/\(∀u∈Qn y,Qp u/\Qu u)/\Qb y=(Qn y).flatMap Qb++[Qh y]/\Qf y=(Qn y).flatMap Qf/\Qn (Qe y)=(Qn y).map Qe/\∀S,QI S y->(∀u∈Qn y,QI S u)/\S 3 (Qh y)=O (Qn y).length/\∀i,i<(Qn y).length->S 4 (8*Qh y+i)=O (Qh ((Qn y).getD i .null))
 | .arg c,_,w,h=>by
  exfalso;have h2:=Qb9 h;simp only[Qf,zaO,zaX,zae] at h2;cases e:b c
  ·exact h2.2 (by rw[e];rfl)
  ·exact h2.1 e
 | .op2 o (.arg x) f,_,w,h=>by
  obtain⟨w1,w3,w4,w6,w7⟩:=w;refine⟨w1,w4,QaR w7,?_,(Qby Qf (fun _ _=>rfl) rfl f w7 w6).symm,Qcm f w7 w6,fun S r=>⟨Qdm w7 r.2.2.2,r.2.1,r.2.2.1⟩⟩;show Qb f++[x]=(Qc f).flatMap Qb++[x];rw[Qby Qb (fun _ _=>rfl) rfl f w7 w6]
def Qay(S:MS)(b:Nat->Bool)(o:Jvm.Binary)(x:Nat)(K:List Qd)(m:Nat):Prop:=(8<=x/\x<64)/\(∀u∈K,Qp u/\Qu u/\QI S u/\S 11 (Qh u)=Qg b u)/\(2<=K.length/\K.length<=8)/\S 1 x=QaZ o/\S 3 x=O K.length/\(∀i,i<K.length->S 4 (8*x+i)=O (Qh (K.getD i .null)))/\(K.flatMap Qb++[x]).Nodup/\(∀i∈K.flatMap Qb++[x],8<=i->S 5 i≠0)/\(K.flatMap Qf).length<=8/\Qa3 S m
theorem Qhx{S S':MS}{b:Nat->Bool}{o:Jvm.Binary}{x:Nat}{K:List Qd}{m:Nat}(h:∀c i,(c=1\/c=3\/c=4\/c=5\/c=11)->S' c i=S c i)(k:Qay S b o x K m):Qay S' b o x K m:=by
 obtain⟨k1,k2,k3,k4,k5,k6,k7,k8,k9,k10⟩:=k;have h1:=fun i=>h 1 i (by decide);have h3:=fun i=>h 3 i (by decide);have h4:=fun i=>h 4 i (by decide);have h5:=fun i=>h 5 i (by decide);have h11:=fun i=>h 11 i (by decide);refine⟨k1,fun u hu=>⟨(k2 u hu).1,(k2 u hu).2.1,Q6 (fun i=>⟨h1 i,h3 i⟩) h4 u (k2 u hu).2.1 (k2 u hu).2.2.1,(h11 _).trans (k2 u hu).2.2.2⟩,k3,(h1 x).trans k4,(h3 x).trans k5,fun i hi=>(h4 _).trans (k6 i hi),k7,fun i hi h8=>by rw[h5];exact k8 i hi h8,k9,Qar k10 (zo _) fun i=>Or.inl (h5 i)⟩
theorem QbD{S S':MS}{cell cnt:Nat}{l:List Nat}(h0:S' 0 cnt=S 0 cnt)(h:∀i,S' cell i=S cell i)(L:QO S cell cnt l):QO S' cell cnt l:=⟨h0.trans L.1,fun i hi=>(h i).trans (L.2 i hi)⟩
theorem Qai{n:Nat}(h:n<100):O n=0↔n=0:=⟨fun e=>by
 have:=congrArg Int32.toInt e;rw[Qac (by omega)] at this;have l1:(0:Int32).toInt=0:=rfl;omega,fun e=>by rw[e];rfl⟩
theorem QjK{n:Nat}(h:n<100):O n=1↔n=1:=⟨fun e=>by
 have:=congrArg Int32.toInt e;rw[Qac (by omega)] at this;have l1:(1:Int32).toInt=1:=rfl;omega,fun e=>by rw[e];rfl⟩
theorem QbK{l:List Qd}(h:∀u∈l,Qp u/\Qu u):∀v∈l.map Qh,v<64:=fun v hv=>by
 obtain⟨u,hu,e⟩:=zD.mp hv;rw[<-e];exact QaL (h u hu).1 (h u hu).2
section Inner
variable {f1:FT1}
theorem Qet(hf1:Fx f1){S:MS}{x1 lab:Int32}{cell cnt:Nat}{L:List Qd}{m:Nat}(hx:(x1=0/\cell=17/\cnt=8/\lab=0)\/(x1=1/\cell=18/\cnt=9/\lab=1))(hl:L.length<=8)(hL:∀u∈L,Qp u/\Qu u/\QI S u)(h:QO S cell cnt (L.map Qh))(hc:Qa3 S m)(hm:m<56)(live:∀i∈L.flatMap Qb,8<=i->S 5 i≠0):∃v R G S',f1 (48,0,[V 0,I x1],[],S)=some (some (I v),S')/\Qbd S S' G/\(∀g∈G,8<=g/\g<64/\S 5 g=0/\S' 5 g≠0)/\G.Nodup/\Qa3 S' (m+1)/\(∀u∈R,Qp u/\Qu u/\QI S' u)/\QB (L.map Qe)=R.map Qe/\R.flatMap Qf=L.flatMap Qf/\R.flatMap Qb=L.flatMap Qb++G/\((R=[]/\v = -1)\/∃r,R=[r]/\v=O (Qh r))/\(L≠[]->R≠[])/\(2<=L.length->0<=v):=by
 match L,hl,hL,h,live with
 |[],_,_,h,_=>
  exact⟨-1,[],[],S,Qjj hf1 S (by rcases hx with⟨a,-,c,-⟩ | ⟨a,-,c,-⟩;exact Or.inl ⟨a,c⟩;exact Or.inr ⟨a,c⟩) h.1,fun _ _ _ _ _=>rfl,fun g hg=>absurd hg (by simp),zaF,Qar hc (by omega) fun i=>Or.inl rfl,fun u hu=>absurd hu (by simp),rfl,rfl,rfl,Or.inl ⟨rfl,rfl⟩,fun q=>absurd rfl q,fun q=>absurd q (by simp)⟩
 |[u],_,hL,h,_=>
  refine⟨_,[u],[],S,Qiw hf1 S (cell:=cell) (by rcases hx with⟨a,e,c,-⟩ | ⟨a,e,c,-⟩;exact Or.inl ⟨a,e,c⟩;exact Or.inr ⟨a,e,c⟩) h.1,fun _ _ _ _ _=>rfl,fun g hg=>absurd hg (by simp),zaF,Qar hc (by omega) fun i=>Or.inl rfl,hL,rfl,rfl,(zk _).symm,Or.inr ⟨u,rfl,h.2 0 (by simp)⟩,fun _=>by simp,fun q=>absurd q (by simp)⟩
 |u::v::L,hl,hL,h,live=>
  have h64:=QbK (l:=u::v::L) fun w hw=>⟨(hL w hw).1,(hL w hw).2.1⟩;have hlen:((u::v::L).map Qh).length=(u::v::L).length:=zh _;obtain⟨g,S',g8,g64,gf,e,F,G5,G1,G3,G11,G4⟩:=Qh9 hf1 hx (l:=(u::v::L).map Qh) ⟨by simp,by rw[hlen];exact hl⟩ h64 h (QiV hc hm);have C:=QiL F;refine⟨_,[.op2 .iand (.arg g) (Qk (u::v::L))],[g],S',e,C,fun g' hg=>?_,by simp,Qii (g:=g) hc fun i hi=>F 5 i (by decide) (by omega) (by omega),fun t ht=>?_,?_,?_,?_,Or.inr ⟨_,rfl,rfl⟩,fun _=>by simp,fun _=>?_⟩
  ·rw[zi] at hg;rw[hg];exact⟨g8,g64,gf,by rw[G5];decide⟩
  ·rw[zi] at ht;subst ht;refine⟨trivial,⟨⟨g8,g64⟩,Or.inl rfl,by rw[QT];exact⟨by simp,hl⟩,Qbs _,Qdg fun w hw=>⟨(hL w hw).1,(hL w hw).2.1⟩⟩,G1,?_,?_,Qdq fun w hw=>?_⟩
   ·rw[QT,G3,hlen]
   ·rw[QT];exact Qd2 G4
   ·refine QbX w (hL w hw).2.1 (fun i hi=>Qax (Q8 C) fun q=>?_) (hL w hw).2.2;rw[zi] at q;exact live i (zx.mpr ⟨w,hw,hi⟩) (by omega) (by rw[q];exact gf)
  ·show [Jvm.Term.op2 _ _ (Qk ((u::v::L).map Qe))]=[Jvm.Term.op2 _ _ (Qe (Qk (u::v::L)))];rw[Qa0]
  ·show Qf (Qk (u::v::L))++[]=_;rw[Qa7,zk]
  ·show (Qb (Qk (u::v::L))++[g])++[]=_;rw[Qdi,zk]
  ·exact Int32.not_lt.mp (Qap (by omega))
theorem QdL(hf1:Fx f1){S:MS}{q:List Nat}{v:Int32}{R:List Qd}(hR:∀u∈R,Qp u/\Qu u)(hv:(R=[]/\v = -1)\/∃r,R=[r]/\v=O (Qh r))(hq:q.length<16)(h:QO S 16 7 q):∃S',f1 (50,0,[V 0,I v],[],S)=some (none,S')/\(∀c i,c≠16->¬(c=0/\i=7)->S' c i=S c i)/\QO S' 16 7 (q++R.map Qh):=by
 rcases hv with⟨e,ev⟩ | ⟨r,e,ev⟩
 ·subst e ev;exact⟨S,QhG hf1 S (by decide),fun _ _ _ _=>rfl,by rw[List.map_nil,zk];exact h⟩
 ·subst e ev;exact QcT hf1 (QaL (hR r (by simp)).1 (hR r (by simp)).2) hq h
theorem QcS(hf1:Fx f1){S:MS}{b:Nat->Bool}{q:List Nat}{y:Qd}(bk:Bool)(ht:Qp y)(w:Qu y)(hb:Qg b y=2)(r:QI S y)(hq:q.length+(Qn y).length<=16)(h:QO S 16 7 q):∃S',f1 (52,0,[V 0,I (O (Qh y)),I (if bk=true then 1 else 0)],[],S)=some (none,S')/\(∀c i,c≠16->¬(c=0/\i=7)->S' c i=S c i)/\QO S' 16 7 (q++(if bk=true then (Qn y).reverse else Qn y).map Qh):=by
 obtain⟨k1,k2,k3,k4,k5,k6,k7⟩:=QaO ht w hb;obtain⟨r1,r3,r4⟩:=k7 S r;have hlen:((Qn y).map Qh).length=(Qn y).length:=zh _;obtain⟨S',e,F,L⟩:=QhP hf1 bk (l:=(Qn y).map Qh) k1.2 (by rw[hlen];exact k2.2) (QbK k3) (by rw[hlen];exact hq) (by rw[hlen];exact r3) (Qcn r4) h;refine⟨S',e,F,?_⟩;cases bk with
 |false=>exact L
 |true=>
  show QO S' 16 7 (q++(Qn y).reverse.map Qh);rw[zI];exact L
theorem Qep(hf1:Fx f1){S:MS}{b:Nat->Bool}{o:Jvm.Binary}{x:Nat}{K:List Qd}{m:Nat}(k:Qay S b o x K m):∃S',f1 (47,0,[V 0,I (O x)],[],S)=some (none,S')/\Qak S S' []/\Qay S' b o x K m/\QO S' 17 8 ((Qa b 0 K).map Qh)/\QO S' 18 9 ((Qa b 1 K).map Qh)/\QO S' 19 10 ((Qa b 2 K).map Qh):=by
 have k':=k;obtain⟨k1,k2,k3,k4,k5,k6,k7,k8,k9,k10⟩:=k;have hlen:(K.map Qh).length=K.length:=zh _;obtain⟨S',e,F,L0,L1,L2⟩:=Qjn hf1 (l:=K.map Qh) k1.2 (by rw[hlen];exact k3.2) (QbK fun u hu=>⟨(k2 u hu).1,(k2 u hu).2.1⟩) (by rw[hlen];exact k5) (Qcn k6) (fun v hv=>by
  obtain⟨u,hu,e⟩:=zD.mp hv;rw[<-e,(k2 u hu).2.2.2];exact QaC b u)
 rw[Qjc _ K fun u hu=>(k2 u hu).2.2.2] at L0 L1 L2;exact⟨S',e,fun c i h1 h2 h3 _ _=>F c i (by omega) (by omega) (by omega) (by omega),Qhx (fun c i hc=>F c i (by omega) (by omega) (by omega) (by omega)) k',L0,L1,L2⟩
end Inner
theorem QbI{S S':MS}{G:List Nat}{L:List Qd}(h:∀u∈L,Qp u/\Qu u/\QI S u)(C:Qak S S' G)(d:∀i∈L.flatMap Qb,i∉G):∀u∈L,Qp u/\Qu u/\QI S' u:=fun u hu=>
 ⟨(h u hu).1,(h u hu).2.1,QbX u (h u hu).2.1 (fun i hi=>Qax C (d i (zx.mpr ⟨u,hu,hi⟩))) (h u hu).2.2⟩
theorem Qg9{b:Nat->Bool}:∀ {Y:List Qd},(∀y∈Y,Qp y/\Qu y/\Qg b y=2)->(Y.map Qe).flatMap Qn=(Y.flatMap Qn).map Qe/\(∀a,(Y.flatMap Qb).count a=((Y.flatMap Qn).flatMap Qb).count a+(Y.map Qh).count a)/\Y.flatMap Qf=(Y.flatMap Qn).flatMap Qf/\∀u∈Y.flatMap Qn,Qp u/\Qu u
 |[],_=>⟨rfl,fun _=>rfl,rfl,fun u hu=>absurd hu (by simp)⟩
 |y::Y,h=>by
  obtain⟨i1,i2,i3,i4⟩:=Qg9 (Y:=Y) fun u hu=>h u (by simp[hu]);obtain⟨y1,y2,y3⟩:=h y (by simp);obtain⟨k1,k2,k3,k4,k5,k6,-⟩:=QaO y1 y2 y3;refine⟨?_,fun a=>?_,?_,fun u hu=>?_⟩
  ·rw[zE,zg,zg,zA,i1,k6]
  ·rw[zg,zg,zn,zE,zj,zj,i2 a,k4,zj,show (Qh y::Y.map Qh).count a=[Qh y].count a+(Y.map Qh).count a from by rw[<-zj];rfl];omega
  ·rw[zg,zg,zn,i3,k5]
  ·rw[zg,zc] at hu;rcases hu with hu | hu
   ·exact k3 u hu
   ·exact i4 u hu
theorem QdK(b:Nat->Bool)(o:Jvm.Binary)(x:Nat)(Ks:List Qd):Qg b (.op2 o (.arg x) (Qk Ks))=Qau b (Ks.flatMap Qf):=by
 unfold Qg Qau;rw[show Qf (.op2 o (.arg x) (Qk Ks))=Ks.flatMap Qf from Qa7 Ks]
theorem Qez{S A S':MS}{b:Nat->Bool}{o:Jvm.Binary}{x m:Nat}{K:List Qd}(ho:o = .iand\/o = .ior)(k:Qay A b o x K m)(C:Qak S A [])(h:∀c i,¬(c=11/\i=x)->S' c i=A c i):Qah S S' x (K.flatMap Qb++[x]) (K.flatMap Qf) (m+2) (.op2 o (.arg x) (Qk K))/\QZ S S' (K.flatMap Qb++[x]):=by
 obtain⟨k1,k2,k3,k4,k5,k6,k7,k8,k9,k10⟩:=k;have h5:∀i,A 5 i=S 5 i:=fun i=>(Qax C (by simp)).2.2.1;refine⟨QdE (G:=[]) k1 ho (fun u hu=>⟨(k2 u hu).1,(k2 u hu).2.1,Q6 (fun i=>⟨h 1 i (by omega),h 3 i (by omega)⟩) (fun i=>h 4 i (by omega)) u (k2 u hu).2.1 (k2 u hu).2.2.1⟩) k3 ((h 1 x (by omega)).trans k4) ((h 3 x (by omega)).trans k5) (Qcn fun i hi=>(h 4 _ (by omega)).trans (k6 i hi)) k7 zaF (fun g hg=>absurd hg (by simp)) (fun i hi h8=>by rw[<-h5];exact k8 i hi h8) (fun a=>Nat.le_add_right _ _) (fun i hi h8=>by rw[h 5 i (by omega)];exact k8 i hi h8) (fun _=>rfl) (Qar k10 (by omega) fun i=>Or.inl (h 5 i (by omega))),?_⟩
 refine Qce (G:=[]++[x]) (QbN C (B:=S') (H:=[x]) fun c i h1 h2 h3 h4 h5=>h c i fun q=>h4 ⟨by omega,by simp[q.2]⟩) fun g hg=>?_;rw[zJ,zi] at hg;rw[hg];exact⟨k1.1,Or.inl (by simp)⟩
section InnerP
variable {f1:FT1}
theorem QjG(hf1:Fx f1){A:MS}{b:Nat->Bool}{x m:Nat}{K:List Qd}(k:Qay A b .iand x K m)(hm:m<54)(LE:QO A 17 8 ((Qa b 0 K).map Qh))(LF:QO A 18 9 ((Qa b 1 K).map Qh))(LY:QO A 19 10 ((Qa b 2 K).map Qh))(y1:(Qa b 2 K).length<=1)(hp:Qa b 2 K≠[]\/(Qa b 0 K≠[]/\Qa b 1 K≠[])):∃S',f1 (57,61,[V 0,I (O x)],[],A)=some (some (I 1),S')/\(∃H,Qak A S' H/\∀g∈H,8<=g/\(g∈K.flatMap Qb++[x]\/A 5 g=0))/\S' 11 x=2/\∃Ks,Qah A S' x (K.flatMap Qb++[x]) (K.flatMap Qf) (m+2) (.op2 .ior (.arg x) (Qk Ks))/\Ks.map Qe=QB ((Qa b 0 K).map Qe)++((Qa b 2 K).map Qe).flatMap Qn++QB ((Qa b 1 K).map Qe):=by
 obtain⟨k1,k2,k3,k4,k5,k6,k7,k8,k9,k10⟩:=k;have pv:=Qbo b Qf;have pp:=Qbo b Qb;have mE:∀v,∀u∈Qa b v K,Qp u/\Qu u/\QI A u:=fun v u hu=>⟨(k2 u (Qy.mp hu).1).1,(k2 u (Qy.mp hu).1).2.1,(k2 u (Qy.mp hu).1).2.2.1⟩;have mY:∀y∈Qa b 2 K,Qp y/\Qu y/\Qg b y=2:=fun y hy=>⟨(mE 2 y hy).1,(mE 2 y hy).2.1,(Qy.mp hy).2⟩;have lnE:∀v,(Qa b v K).length<=8:=fun v=>zN (zZ _ _) k3.2;have inK:∀v,∀i∈(Qa b v K).flatMap Qb,i∈K.flatMap Qb++[x]:=fun v i hi=>by
  obtain⟨u,hu,h⟩:=zx.mp hi;exact zc.mpr (Or.inl (zx.mpr ⟨u,(Qy.mp hu).1,h⟩))
 have pv0:=fun a=>pv a K;have pp0:=fun a=>pp a K;have mE0:=mE 0;have mE1:=mE 1;have mE2:=mE 2;have ln0:=lnE 0;have ln1:=lnE 1;have in0:=inK 0;have in1:=inK 1;have in2:=inK 2;clear mE lnE inK pv pp;generalize Qa b 0 K=E at *;generalize Qa b 1 K=F at *;generalize Qa b 2 K=Y at *;obtain⟨Y1,Y2,Y3,Y4⟩:=Qg9 mY;have hy:∃yv,((Y=[]/\yv = -1)\/∃y,Y=[y]/\yv=O (Qh y))/\f1 (57,61,[V 0,I (O x)],[],A)=(f1 (48,0,[V 0,I 0],[],A)).bind fun q=>f1 (57,85,[V 0,I (O x),I yv],q.1.toList++[],q.2):=by
  rw[Eem hf1,LY.1]
  match Y,y1,LY with
  |[],_,_=>exact⟨-1,Or.inl ⟨rfl,rfl⟩,by rw[za (by decide)]⟩
  |[y],_,LY=>exact⟨_,Or.inr ⟨y,rfl,rfl⟩,by rw[zb (show O (List.map Qh [y]).length=1 from rfl),LY.2 0 (by simp)];rfl⟩
  |_::_::_,h,_=>exact absurd h (by simp)
 obtain⟨yv,hyv,e61⟩:=hy;rw[e61];obtain⟨v0,R0,G0,B,eB,CB,fB,nB,cB,mR0,sR0,lR0,pR0,hv0,ne0,-⟩:=Qet hf1 (Or.inl ⟨rfl,rfl,rfl,rfl⟩) ln0 mE0 LE k10 (by omega) fun i hi=>k8 i (in0 i hi);rw[eB];simp only[zz];have dB:∀i,i∈K.flatMap Qb++[x]->i∉G0:=fun i hi q=>k8 i hi (fB i q).1 (fB i q).2.2.1;have B5:∀i,i∉G0->B 5 i=A 5 i:=fun i hi=>(Qax (Q8 CB) hi).2.2.1;obtain⟨v1,R1,G1,D,eD,CD,fD,nD,cD,mR1,sR1,lR1,pR1,hv1,ne1,-⟩:=Qet hf1 (S:=B) (L:=F) (m:=m+1) (Or.inr ⟨rfl,rfl,rfl,rfl⟩) ln1 (QbI mE1 (Q8 CB) fun i hi=>dB i (in1 i hi)) (QbD (CB 0 9 (by decide) (by omega) (by omega)) (fun i=>CB 18 i (by decide) (by omega) (by omega)) LF) cB (by omega) fun i hi h8=>by rw[B5 i (dB i (in1 i hi))];exact k8 i (in1 i hi) h8
 rw[EeO hf1,eD];simp only[zz];have dD:∀i,i∈K.flatMap Qb++[x]->i∉G1:=fun i hi q=>k8 i hi (fD i q).1 (by rw[<-B5 i (dB i hi)];exact (fD i q).2.2.1);have dG:∀i∈G0,i∉G1:=fun i hi q=>(fB i hi).2.2.2 (fD i q).2.2.1;have D5:∀i,i∉G1->D 5 i=B 5 i:=fun i hi=>(Qax (Q8 CD) hi).2.2.1;have mR0':=QbI mR0 (Q8 CD) fun i hi=>by
  rw[pR0,zc] at hi;rcases hi with hi | hi
  ·exact dD i (in0 i hi)
  ·exact dG i hi
 have CAD:=QbN (Q8 CB) (Q8 CD);have mY':=QbI mE2 CAD fun i hi=>by
  rw[zc,not_or];exact⟨dB i (in2 i hi),dD i (in2 i hi)⟩
 have nv:∀ {v:Int32} {R:List Qd},((R=[]/\v = -1)\/∃r,R=[r]/\v=O (Qh r))->(∀u∈R,Qp u/\Qu u)->¬v < -1:=fun h hR=>by
  rcases h with⟨-,e⟩ | ⟨r,e',e⟩
  ·rw[e];decide
  ·have:=QaL (hR r (by rw[e'];simp)).1 (hR r (by rw[e'];simp)).2;intro q;rw[e,zY,Qac (by omega)] at q;have:(-1:Int32).toInt = -1:=rfl;omega
 have tR0:=fun u hu=>(⟨(mR0 u hu).1,(mR0 u hu).2.1⟩:Qp u/\Qu u);have tR1:=fun u hu=>(⟨(mR1 u hu).1,(mR1 u hu).2.1⟩:Qp u/\Qu u);have ll:∀ {v:Int32} {R:List Qd},((R=[]/\v = -1)\/∃r,R=[r]/\v=O (Qh r))->R.length<=1:=fun h=>by
  rcases h with⟨e,-⟩ | ⟨r,e,-⟩<;>rw[e]<;>simp
 have l0:=ll hv0;have l1:=ll hv1;have lk:(Y.flatMap Qn).length<=8:=by
  match Y,y1,mY with
  |[],_,_=>simp
  |[y],_,h=>rw[zg,zr,zk];exact (QaO (h y (by simp)).1 (h y (by simp)).2.1 (h y (by simp)).2.2).2.1.2
  |_::_::_,h,_=>exact absurd h (by simp)
 rw[Ea8 hf1,za (nv hv0 tR0),za (nv hv1 tR1),Ea hf1];simp only[zz];obtain⟨D2,e2,F2,L2⟩:=QdL hf1 (S:=Ua D 0 7 0) (q:=[]) tR0 hv0 (by simp) ⟨rfl,fun i hi=>absurd hi (by simp)⟩;rw[zJ] at L2;rw[Edd hf1,e2];simp only[zz];have F2':∀c i,c≠16->¬(c=0/\i=7)->D2 c i=D c i:=fun c i h1 h2=>by rw[F2 c i h1 h2,Qi,za h2]
 have st3:∃D3,f1 (57,115,[V 0,I (O x),I yv,I v0,I v1],[],D2)=f1 (57,125,[V 0,I (O x),I yv,I v0,I v1],[],D3)/\(∀c i,c≠16->¬(c=0/\i=7)->D3 c i=D c i)/\QO D3 16 7 (R0.map Qh++(Y.flatMap Qn).map Qh):=by
  rw[Eey hf1];rcases hyv with⟨e,ev⟩ | ⟨y,e,ev⟩
  ·subst e ev;rw[zb (by decide)];exact⟨D2,rfl,F2',by rw[zr,List.map_nil,zk];exact L2⟩
  ·subst e ev;obtain⟨h1,h2,h3⟩:=mY y (by simp);have r2:QI D2 y:=Q6 (fun i=>⟨F2' 1 i (by decide) (by omega),F2' 3 i (by decide) (by omega)⟩) (fun i=>F2' 4 i (by decide) (by omega)) y h2 (mY' y (by simp)).2.2;have hkl:=(QaO h1 h2 h3).2.1.2;obtain⟨D3,e3,F3,L3⟩:=QcS hf1 false h1 h2 h3 r2 (by rw[zh];omega) L2;have e3':f1 (52,0,[V 0,I (O (Qh y)),I 0],[],D2)=some (none,D3):=e3;have:=QaL h1 h2;rw[za (Qap (by omega)),e3'];simp only[zz];refine⟨D3,rfl,fun c i h1 h2=>(F3 c i h1 h2).trans (F2' c i h1 h2),?_⟩;rw[zg,zr,zk];exact L3
 obtain⟨D3,e3,F3,L3⟩:=st3;obtain⟨D4,e4,F4,L4⟩:=QdL hf1 tR1 hv1 (by rw[zd,zh,zh];omega) L3;rw[e3,EdK hf1,e4];simp only[zz];have F4':∀c i,c≠16->¬(c=0/\i=7)->D4 c i=D c i:=fun c i h1 h2=>(F4 c i h1 h2).trans (F3 c i h1 h2);rw[<-zA,<-zA] at L4;have sKs:(R0++Y.flatMap Qn++R1).map Qe=QB (E.map Qe)++(Y.map Qe).flatMap Qn++QB (F.map Qe):=by
  rw[zA,zA,sR0,sR1,Y1]
 have cKs:∀a,((R0++Y.flatMap Qn++R1).flatMap Qb++[x]++Y.map Qh).count a=(K.flatMap Qb++[x]).count a+(G0++G1).count a:=fun a=>by
  have h1:=pp0 a;have h2:=Y2 a;rw[zn,zn,pR0,pR1];simp only[zj] at h1 h2 ⊢;omega
 have vKs:∀a,((R0++Y.flatMap Qn++R1).flatMap Qf).count a=(K.flatMap Qf).count a:=fun a=>by
  rw[zn,zn,lR0,lR1,<-Y3,pv0 a];simp only[zj]
 have tKs:∀u∈R0++Y.flatMap Qn++R1,Qp u/\Qu u:=fun u hu=>by
  rw[zc,zc] at hu;rcases hu with (hu | hu) | hu
  ·exact tR0 u hu
  ·exact Y4 u hu
  ·exact tR1 u hu
 have nKs:2<=(R0++Y.flatMap Qn++R1).length:=by
  rw[zd,zd]
  match Y,y1,mY,hp with
  |[],_,_,hp=>
   rcases hp with hp | ⟨p0,p1⟩
   ·exact absurd rfl hp
   ·have:=zah.mpr (ne0 p0);have:=zah.mpr (ne1 p1);omega
  |[y],_,h,_=>
   rw[zg,zr,zk];have:=(QaO (h y (by simp)).1 (h y (by simp)).2.1 (h y (by simp)).2.2).2.1.1;omega
  |_::_::_,h,_,_=>exact absurd h (by simp)
 have rKs:∀u∈R0++Y.flatMap Qn++R1,Qp u/\Qu u/\QI D u:=fun u hu=>by
  rw[zc,zc] at hu;rcases hu with (hu | hu) | hu
  ·exact mR0' u hu
  ·obtain⟨y,hy,hu'⟩:=zx.mp hu;obtain⟨h1,h2,h3⟩:=mY y hy;exact⟨(Y4 u hu).1,(Y4 u hu).2,((QaO h1 h2 h3).2.2.2.2.2.2 D (mY' y hy).2.2).1 u hu'⟩
  ·exact mR1 u hu
 generalize R0++Y.flatMap Qn++R1=Ks at *;have lKs:Ks.length<=8:=by
  have h1:=Qbl Ks tKs;have h2:=(zO.mpr vKs).length_eq;omega
 have slK:(Ks.map Qh).length=Ks.length:=zh _;have P0:=QbL (l:=Ks.flatMap Qb++[x]++Y.map Qh) (P:=K.flatMap Qb++[x]) (G:=G0++G1) (fun a=>Nat.le_of_eq (cKs a)) k7 (zl.mpr ⟨nB,nD,fun a h1 c h2 q=>dG a h1 (q▸h2)⟩) (fun a ha hK=>by
  rcases zc.mp ha with q | q
  ·exact dB a hK q
  ·exact dD a hK q)
 obtain⟨P1,P2⟩:=P0;obtain⟨P3,-,P4⟩:=zl.mp P1;obtain⟨-,-,P5⟩:=zl.mp P3;rw[Eds hf1,zb (Qz (by omega) k1.2),QA (by omega)];generalize hD5:Ua (Ua D4 1 x 2) 11 x 2=D5';have F5:∀c i,c≠16->¬(c=0/\i=7)->¬(c=1/\i=x)->¬(c=11/\i=x)->D5' c i=D c i:=fun c i h1 h2 h3 h4=>by
  rw[<-hD5,Qi,za h4,Qi,za h3];exact F4' c i h1 h2
 have L5:QO D5' 16 7 (Ks.map Qh):=QbD (by rw[<-hD5];rfl) (fun i=>by rw[<-hD5];rfl) L4;obtain⟨D6,e6,F6,D63,D64⟩:=QeX hf1 k1.2 (by rw[slK];exact lKs) L5 (QbK tKs);rw[e6];simp only[zz];rw[Ecc hf1,za (by decide)];have st7:∃D7,f1 (33,0,[V 0,I yv],[],D6)=some (none,D7)/\Qbd D6 D7 (Y.map Qh)/\(∀i,D7 5 i=D6 5 i\/D7 5 i=0):=by
  rcases hyv with⟨e,ev⟩ | ⟨y,e,ev⟩
  ·subst e ev;exact⟨D6,QfR hf1 D6 (by decide),fun _ _ _ _ _=>rfl,fun i=>Or.inl rfl⟩
  ·subst e ev;obtain⟨h1,h2,h3⟩:=mY y (by simp);have hs:=(QaO h1 h2 h3).1;obtain⟨D7,e7,F7,D75⟩:=Qfm hf1 D6 hs.1 hs.2;refine⟨D7,e7,fun c i g1 g2 g3=>F7 c i g1 (fun q=>g2 ⟨by omega,by simp[q.2]⟩) (fun q=>g3 ⟨q.1,by rw[zE,List.map_nil,zi];omega⟩),fun i=>?_⟩;by_cases q:i=Qh y
   ·rw[q];exact Or.inr D75
   ·exact Or.inl (F7 5 i (by decide) (by omega) (by omega))
 obtain⟨D7,e7,C7,D75⟩:=st7;rw[e7];simp only[zz];rw[Ea4 hf1];have xY:x∉Y.map Qh:=fun q=>P4 x (by simp) x q rfl;have C6:=QeV F6;have s57:Qak D D7 ([x]++Y.map Qh):=by
  refine QbN (A:=D6) (fun c i h1 h2 h3 h4 h5=>?_) (Q8 C7);rw[C6 c i h1 h4 h5];exact F5 c i (by omega) (by omega) (fun q=>h4 ⟨by omega,by simp[q.2]⟩) (fun q=>h4 ⟨by omega,by simp[q.2]⟩)
 have x7:QaT D6 D7 x:=Qax (Q8 C7) xY;have f7:∀i,i∉Y.map Qh->D7 5 i=D 5 i:=fun i hi=>by
  rw[(Qax (Q8 C7) hi).2.2.1,F6 5 i (by decide) (by omega) (by omega),F5 5 i (by decide) (by omega) (by omega) (by omega)]
 refine⟨D7,rfl,⟨G0++G1++([x]++Y.map Qh),QbN CAD s57,fun g hg=>?_⟩,?_,Ks,?_,sKs⟩
 ·rcases zc.mp hg with q | q
  ·have hA:A 5 g=0/\8<=g:=by
    rcases zc.mp q with q | q
    ·exact⟨(fB g q).2.2.1,(fB g q).1⟩
    ·exact⟨by rw[<-B5 g fun q'=>dG g q' q];exact (fD g q).2.2.1,(fD g q).1⟩
   exact⟨hA.2,Or.inr hA.1⟩
  ·rcases zc.mp q with q | q
   ·rw[zi] at q;rw[q];exact⟨k1.1,Or.inl (by simp)⟩
   ·obtain⟨y,hy,e⟩:=zD.mp q;obtain⟨h1,h2,h3⟩:=mY y hy;rw[<-e];exact⟨(QaO h1 h2 h3).1.1,Or.inl (in2 _ (zx.mpr ⟨y,hy,QdC y h2 h1⟩))⟩
 ·rw[x7.2.2.2.1,F6 11 x (by decide) (by omega) (by omega),<-hD5,Qi,zb ⟨rfl,rfl⟩]
 ·refine QdE (G:=G0++G1) k1 (Or.inr rfl) (QbI rKs s57 fun i hi q=>?_) ⟨nKs,lKs⟩ ?_ ?_ (fun i hi=>?_) k7 (zl.mpr ⟨nB,nD,fun a h1 c h2 q=>dG a h1 (q▸h2)⟩) (fun g q=>?_) k8 (fun a=>?_) (fun i hi h8=>?_) vKs (Qar cD (by omega) fun i=>?_)
  ·rcases zc.mp q with q | q
   ·exact P5 i hi x (by simp) (zi.mp q)
   ·exact P4 i (zc.mpr (Or.inl hi)) i q rfl
  ·rw[x7.1,F6 1 x (by decide) (by omega) (by omega),<-hD5,Qi,za (by omega),Qi,zb ⟨rfl,rfl⟩];rfl
  ·rw[x7.2.1,D63,slK]
  ·rw[slK] at hi;rw[x7.2.2.2.2 i (by omega)];exact D64 i (by rw[slK];exact hi)
  ·rcases zc.mp q with q | q
   ·exact⟨(fB g q).1,(fB g q).2.2.1⟩
   ·exact⟨(fD g q).1,by rw[<-B5 g fun q'=>dG g q' q];exact (fD g q).2.2.1⟩
  ·have:=cKs a;rw[zj] at this;omega
  ·rw[f7 i fun q=>P4 i hi i q rfl];rcases P2 i (zc.mpr (Or.inl hi)) with q | q
   ·rw[D5 i (dD i q),B5 i (dB i q)];exact k8 i q h8
   ·by_cases q1:i∈G1
    ·exact (fD i q1).2.2.2
    ·rw[D5 i q1];rcases zc.mp q with q | q
     ·exact (fB i q).2.2.2
     ·exact absurd q q1
  ·rcases D75 i with q | q
   ·exact Or.inl (by rw[q,F6 5 i (by decide) (by omega) (by omega),F5 5 i (by decide) (by omega) (by omega) (by omega)])
   ·exact Or.inr q
end InnerP
theorem Qid(b:Nat->Bool)(K:List Qd)(hK:∀u∈K,Qu u):QaE b (K.map Qe)=if 2<=(Qa b 2 K).length then none else if (Qa b 2 K).length=0/\((Qa b 0 K).length=0\/(Qa b 1 K).length=0) then some (.op2 .iand (.arg 0) (Qk (K.map Qe))) else some (.op2 .ior (.arg 0) (Qk (QB ((Qa b 0 K).map Qe)++((Qa b 2 K).map Qe).flatMap Qn++QB ((Qa b 1 K).map Qe)))):=by
 unfold QaE;rw[QbZ b 2 K hK,QbZ b 1 K hK,QbZ b 0 K hK];simp only[zh]
theorem Qex{r r':Nat->Nat}:∀ {n:Nat},(∀i,i<n->r i=r' i)->Qaa r n=Qaa r' n/\Qad r n=Qad r' n
 |0,_=>⟨rfl,rfl⟩
 |n+1,h=>by
  have ih:=Qex (n:=n) fun i hi=>h i (by omega);have e1:=h n (by omega);have e2:=h (n-1) (by omega);constructor
  ·show (Qaa r n&&_)=(Qaa r' n&&_);rw[ih.1,e1,e2]
  ·show (Qad r n&&_)=(Qad r' n&&_);rw[ih.2,e1,e2]
theorem QX{α:Type}{l:List α}:l.length=0↔l=[]:=List.length_eq_zero_iff
theorem QcE(b:Nat->Bool)(u:Qd)(l:List Qd):QQ b (u::l)=(if Qg b u=2 then Qn u else [u])++QQ b l:=by
 unfold QQ;rw[zg]
theorem QdG{b:Nat->Bool}:∀ {l:List Qd},(∀u∈l,Qp u/\Qu u)->(QQ b l).map Qe=QQ b (l.map Qe)/\(∀a,(l.flatMap Qb).count a=((QQ b l).flatMap Qb).count a+((Qa b 2 l).map Qh).count a)/\(QQ b l).flatMap Qf=l.flatMap Qf/\(∀u∈QQ b l,Qp u/\Qu u)/\l.length<=(QQ b l).length/\∀S,(∀u∈l,QI S u)->∀u∈QQ b l,QI S u
 |[],_=>⟨rfl,fun _=>rfl,rfl,fun u hu=>absurd hu (by simp[QQ]),zo _,fun S _ u hu=>absurd hu (by simp[QQ])⟩
 |y::l,h=>by
  obtain⟨i1,i2,i3,i4,i5,i6⟩:=QdG (b:=b) (l:=l) fun u hu=>h u (by simp[hu]);obtain⟨y1,y2⟩:=h y (by simp);have st:Qa b 2 (y::l)=if Qg b y=2 then y::Qa b 2 l else Qa b 2 l:=by
   unfold Qa;rw[List.filter_cons];by_cases e:Qg b y=2
   ·rw[zb (by simpa using e),zb e]
   ·rw[za (by simpa using e),za e]
  rw[QcE,st];by_cases e:Qg b y=2
  ·rw[zb e,zb e];obtain⟨k1,k2,k3,k4,k5,k6,k7⟩:=QaO y1 y2 e;refine⟨?_,fun a=>?_,?_,fun u hu=>?_,?_,fun S hS u hu=>?_⟩
   ·rw[zA,i1,zE,QcE,QbW b y y2,zb e,k6]
   ·rw[zg,zn,zE,zj,zj,i2 a,k4,zj,show (Qh y::(Qa b 2 l).map Qh).count a=[Qh y].count a+((Qa b 2 l).map Qh).count a from by rw[<-zj];rfl];omega
   ·rw[zn,zg,i3,k5]
   ·rcases zc.mp hu with hu | hu
    ·exact k3 u hu
    ·exact i4 u hu
   ·rw[zs,zd];omega
   ·rcases zc.mp hu with hu | hu
    ·exact (k7 S (hS y (by simp))).1 u hu
    ·exact i6 S (fun v hv=>hS v (by simp[hv])) u hu
  ·rw[za e,za e];refine⟨?_,fun a=>?_,?_,fun u hu=>?_,?_,fun S hS u hu=>?_⟩
   ·rw[zA,i1,zE,zE,QcE,QbW b y y2,za e];rfl
   ·rw[zg,zn,zg,zr,zk,zj,zj,i2 a];omega
   ·rw[zn,zg,zg,zr,zk,i3]
   ·rcases zc.mp hu with hu | hu
    ·rw[zi] at hu;rw[hu];exact⟨y1,y2⟩
    ·exact i4 u hu
   ·rw[zs,zd,zav];omega
   ·rcases zc.mp hu with hu | hu
    ·rw[zi] at hu;rw[hu];exact hS y (by simp)
    ·exact i6 S (fun v hv=>hS v (by simp[hv])) u hu
theorem Qg8(b:Nat->Bool)(l:List Qd){k:Nat}(hk:k<l.length):QQ b (l.take (k+1))=QQ b (l.take k)++(if Qg b (l.getD k .null)=2 then Qn (l.getD k .null) else [l.getD k .null]):=by
 unfold QQ;rw[zaq,List.getElem?_eq_getElem hk,zn,zf,List.getElem?_eq_getElem hk];show _++List.flatMap _ [_]=_;rw[zg,zr,zk];rfl
theorem QhY(b:Nat->Bool)(l:List Qd)(k:Nat):(QQ b (l.take k)).length<=(QQ b l).length:=by
 have:QQ b l=QQ b (l.take k)++QQ b (l.drop k):=by
  unfold QQ;rw[<-zn,List.take_append_drop]
 rw[this,zd];omega
section InnerQ
variable {f1:FT1}
theorem Qjd(hf1:Fx f1){S:MS}{b:Nat->Bool}{x m:Nat}{K:List Qd}(k:Qay S b .iand x K m)(hm:m<54):∃a S',f1 (57,0,[V 0,I (O x)],[],S)=some (some (I a),S')/\QZ S S' (K.flatMap Qb++[x])/\((a=0/\QaE b (K.map Qe)=none)\/(a=1/\∃T,Qah S S' x (K.flatMap Qb++[x]) (K.flatMap Qf) (m+2) T/\S' 11 x=Qg b T/\QaE b (K.map Qe)=some (Qe T))):=by
 obtain⟨A,eA,CA,kA,L0,L1,L2⟩:=Qep hf1 k;have hw:∀u∈K,Qu u:=fun u hu=>(k.2.1 u hu).2.1;have htw:∀u∈K,Qp u/\Qu u:=fun u hu=>⟨(k.2.1 u hu).1,(k.2.1 u hu).2.1⟩;have hk:=k.2.2.1;have hx:=k.1;rw[Qid b K hw,Efh hf1,eA];simp only[zz];have ln:∀v,(Qa b v K).length<=8:=fun v=>zN (zZ _ _) hk.2;have ln0:=ln 0;have ln1:=ln 1;have ln2:=ln 2;have E0:=L0.1;have E1:=L1.1;have E2:=L2.1;rw[zh] at E0 E1 E2;have h5:∀i,A 5 i=S 5 i:=fun i=>(Qax CA (by simp)).2.2.1;have fin:∀(y1:(Qa b 2 K).length<=1) (hp:Qa b 2 K≠[]\/(Qa b 0 K≠[]/\Qa b 1 K≠[])),∃a S',f1 (57,61,[V 0,I (O x)],[],A)=some (some (I a),S')/\QZ S S' (K.flatMap Qb++[x])/\((a=0/\(some (Jvm.Term.op2 .ior (.arg 0) (Qk (QB ((Qa b 0 K).map Qe)++((Qa b 2 K).map Qe).flatMap Qn++QB ((Qa b 1 K).map Qe)))):Option Qd)=none)\/(a=1/\∃T,Qah S S' x (K.flatMap Qb++[x]) (K.flatMap Qf) (m+2) T/\S' 11 x=Qg b T/\some (Jvm.Term.op2 .ior (.arg 0) (Qk (QB ((Qa b 0 K).map Qe)++((Qa b 2 K).map Qe).flatMap Qn++QB ((Qa b 1 K).map Qe))))=some (Qe T))):=fun y1 hp=>by
  obtain⟨S',e,⟨H,C,hH⟩,l11,Ks,TR,sK⟩:=QjG hf1 kA hm L0 L1 L2 y1 hp;refine⟨1,S',e,?_,Or.inr ⟨rfl,.op2 .ior (.arg x) (Qk Ks),?_,?_,?_⟩⟩
  ·exact Qce (G:=[]++H) (QbN CA C) fun g hg=>by
    rw[zJ] at hg;rw[<-h5];exact hH g hg
  ·obtain⟨t1,t2,t3,t4,t5,t6,t7,t8,t9⟩:=TR;exact⟨t1,t2,t3,t4,t5,fun i hi=>by rw[<-h5];exact t6 i hi,t7,t8,t9⟩
  ·rw[l11,QdK,QdS (show (Ks.flatMap Qf).Perm (K.flatMap Qf) by
    have:=TR.2.2.2.2.2.2.2.1;rw[show Qf (.op2 .ior (.arg x) (Qk Ks))=Ks.flatMap Qf from Qa7 Ks] at this;exact this),Qgc htw hp]
  ·show _=some (Jvm.Term.op2 .ior (.arg 0) (Qe (Qk Ks)));rw[Qa0,sK]
 have stay:∀v,Qau b (K.flatMap Qf)=v->∃a S',some (some (Jvm.Value.int 1),Ua A 11 x v)=some (some (I a),S')/\QZ S S' (K.flatMap Qb++[x])/\((a=0/\(some (Jvm.Term.op2 .iand (.arg 0) (Qk (K.map Qe))):Option Qd)=none)\/(a=1/\∃T,Qah S S' x (K.flatMap Qb++[x]) (K.flatMap Qf) (m+2) T/\S' 11 x=Qg b T/\some (Jvm.Term.op2 .iand (.arg 0) (Qk (K.map Qe)))=some (Qe T))):=fun v hv=>by
  obtain⟨TR,FR⟩:=Qez (S':=Ua A 11 x v) (Or.inl rfl) kA CA fun c i q=>by rw[Qi,za q]
  refine⟨1,_,rfl,FR,Or.inr ⟨rfl,_,TR,?_,?_⟩⟩
  ·rw[Qi,zb ⟨rfl,rfl⟩,QdK,hv]
  ·show _=some (Jvm.Term.op2 .iand (.arg 0) (Qe (Qk K)));rw[Qa0]
 rw[EeV hf1,E2,E0];by_cases q2:2<=(Qa b 2 K).length
 ·rw[za (show ¬O (Qa b 2 K).length<2 from fun q=>absurd ((Qq (a:=(Qa b 2 K).length) (b:=2) (by omega) (by omega)).mp q) (by omega)),zb q2];exact⟨0,A,rfl,Qce CA fun g hg=>absurd hg (by simp),Or.inl ⟨rfl,rfl⟩⟩
 rw[zb (show O _<2 from (Qq (b:=2) (by omega) (by omega)).mpr (by omega)),za q2];by_cases qY:(Qa b 2 K).length=0
 ·rw[zb ((Qai (by omega)).mpr qY)];by_cases qE:(Qa b 0 K).length=0
  ·rw[zb ((Qai (by omega)).mpr qE),zb (Qz (by omega) hx.2),QA (by omega),zb ⟨qY,Or.inl qE⟩];exact stay 1 (QdX (QX.mp qE) (QX.mp qY))
  ·rw[za (fun e=>qE ((Qai (by omega)).mp e)),ED hf1,E2,E1,zb ((Qai (by omega)).mpr qY)];by_cases qF:(Qa b 1 K).length=0
   ·rw[zb ((Qai (by omega)).mpr qF),zb (Qz (by omega) hx.2),QA (by omega),zb ⟨qY,Or.inr qF⟩];exact stay 0 (QfE htw (fun e=>by rw[e] at hk;exact absurd hk.1 (by simp)) (QX.mp qF) (QX.mp qY))
   ·rw[za (fun e=>qF ((Qai (by omega)).mp e)),za (by omega)];exact fin (by omega) (Or.inr ⟨fun e=>qE (by rw[e];rfl),fun e=>qF (by rw[e];rfl)⟩)
 ·rw[za (fun e=>qY ((Qai (by omega)).mp e)),ED hf1,E2,za (fun e=>qY ((Qai (by omega)).mp e)),za (by omega)];exact fin (by omega) (Or.inl fun e=>qY (by rw[e];rfl))
theorem Qjo(hf1:Fx f1)(b:Nat->Bool)(K:List Qd)(hK:∀u∈K,Qu u):QaG b (K.map Qe)=if 2<=(Qa b 2 K).length then none else if (Qa b 2 K).length=0/\((Qa b 0 K).length=0\/(Qa b 1 K).length=0) then some (.op2 .ior (.arg 0) (Qk (K.map Qe))) else if Qaa (fun i=>QK (Qg b (K.getD i .null))) K.length=true then some (.op2 .ior (.arg 0) (Qk (QQ b (K.map Qe)))) else if Qad (fun i=>QK (Qg b (K.getD i .null))) K.length=true then some (.op2 .ior (.arg 0) (Qk (QQ b (K.map Qe).reverse))) else none:=by
 unfold QaG;rw[QbZ b 2 K hK,QbZ b 1 K hK,QbZ b 0 K hK];simp only[zh];have c:=Qex (r:=fun i=>QK (Qg b ((K.map Qe).getD i .null))) (r':=fun i=>QK (Qg b (K.getD i .null))) (n:=K.length) fun i hi=>by
  show QK (Qg b ((K.map Qe).getD i .null))=QK (Qg b (K.getD i .null));rw[show (K.map Qe).getD i .null=Qe (K.getD i .null) from by simp only[zf,List.getElem?_map,List.getElem?_eq_getElem hi];rfl,QbW b _ (hK _ (Qa2 hi))]
 rw[c.1,c.2]
theorem QhA(hf1:Fx f1){A:MS}{b:Nat->Bool}{x m:Nat}{x2:Int32}{K Kd:List Qd}(hKd:Kd=K\/Kd=K.reverse)(k:Qay A b .ior x Kd m)(LY:QO A 19 10 ((Qa b 2 K).map Qh))(y1:(Qa b 2 K).length<=1):∃S',f1 (58,82,[V 0,I (O x),I x2],[],A)=some (some (I 1),S')/\(∃H,Qak A S' H/\∀g∈H,8<=g/\g∈Kd.flatMap Qb++[x])/\S' 11 x=2/\Qah A S' x (Kd.flatMap Qb++[x]) (Kd.flatMap Qf) (m+2) (.op2 .ior (.arg x) (Qk (QQ b Kd))):=by
 obtain⟨k1,k2,k3,k4,k5,k6,k7,k8,k9,k10⟩:=k;have htw:∀u∈Kd,Qp u/\Qu u:=fun u hu=>⟨(k2 u hu).1,(k2 u hu).2.1⟩;obtain⟨x1,x2',x3,x4,x5,x6⟩:=QdG (b:=b) htw;have fbr:∀u,u∈Qa b 2 K↔u∈Qa b 2 Kd:=fun u=>by
  rw[Qy,Qy];rcases hKd with e | e
  ·rw[e]
  ·rw[e,zp]
 have fbp:((Qa b 2 K).map Qh).Perm ((Qa b 2 Kd).map Qh):=by
  rcases hKd with e | e
  ·rw[e]
  ·rw[e];unfold Qa;rw[List.filter_reverse,zI];exact (zy _).symm
 have hy:∃yv,((Qa b 2 K=[]/\yv = -1)\/∃y,Qa b 2 K=[y]/\yv=O (Qh y))/\f1 (58,82,[V 0,I (O x),I x2],[],A)=(f1 (49,0,[V 0],[],A)).bind fun q=>f1 (58,105,[V 0,I (O x),I x2,I yv],q.1.toList++[],q.2):=by
  rw[Eff hf1,LY.1];clear fbr fbp;generalize Qa b 2 K=Y at *
  match Y,y1,LY with
  |[],_,_=>exact⟨-1,Or.inl ⟨rfl,rfl⟩,by rw[za (by decide)]⟩
  |[y],_,LY=>exact⟨_,Or.inr ⟨y,rfl,rfl⟩,by rw[zb (show O (List.map Qh [y]).length=1 from rfl),LY.2 0 (by simp)];rfl⟩
  |_::_::_,h,_=>exact absurd h (by simp)
 obtain⟨yv,hyv,e82⟩:=hy;have is2:∀u∈Kd,(O (Qh u)=yv↔Qg b u=2):=fun u hu=>by
  have us:=QaL (htw u hu).1 (htw u hu).2;rcases hyv with⟨e,ev⟩ | ⟨y,e,ev⟩
  ·rw[ev];constructor
   ·intro q;have:=congrArg Int32.toInt q;rw[Qac (by omega)] at this;have l1:(-1:Int32).toInt = -1:=rfl;omega
   ·intro q;have:=(fbr u).mpr (Qy.mpr ⟨hu,q⟩);rw[e] at this;exact absurd this (by simp)
  ·have ym:y∈Qa b 2 Kd:=(fbr y).mp (by rw[e];simp);have ys:=QaL (htw y (Qy.mp ym).1).1 (htw y (Qy.mp ym).1).2;rw[ev];constructor
   ·intro q;have:=congrArg Int32.toInt q;rw[Qac (by omega),Qac (by omega)] at this;have es:Qh u=Qh y:=by omega
    rw[<-(k2 u hu).2.2.2,es,(k2 y (Qy.mp ym).1).2.2.2];exact (Qy.mp ym).2
   ·intro q;have:=(fbr u).mpr (Qy.mpr ⟨hu,q⟩);rw[e,zi] at this;rw[this]
 have lKs:(QQ b Kd).length<=8:=by
  have h1:=Qbl _ x4;rw[x3] at h1;omega
 rw[e82,Ea hf1];simp only[zz];rw[Edl hf1,QaS hf1 (S:=Ua A 0 7 0) k1.2 k5 k3.2];simp only[zz];rw[Ed3 hf1];have key:∀j,j<=Kd.length->∃B,f1 (58,115,[V 0,I (O x),I x2,I yv,I (O Kd.length),I 0],[],Ua A 0 7 0)=f1 (58,115,[V 0,I (O x),I x2,I yv,I (O Kd.length),I (O j)],[],B)/\(∀c i,c≠16->¬(c=0/\i=7)->B c i=A c i)/\QO B 16 7 ((QQ b (Kd.take j)).map Qh):=fun j=>by
  induction j with
  |zero=>exact fun _=>⟨_,rfl,fun c i _ h=>by rw[Qi,za h],⟨rfl,fun i hi=>absurd hi (by simp[QQ])⟩⟩
  |succ j ih=>
   intro hj;obtain⟨B,eB,FB,LB⟩:=ih (by omega);have hj':j<Kd.length:=hj;have hm:=Qa2 hj';have us:=QaL (htw _ hm).1 (htw _ hm).2;have ln:=QhY b Kd j;rw[eB,ES hf1,zb ((Qq (by omega) (by omega)).mpr hj'),zb (show O j<8 from (Qq (b:=8) (by omega) (by omega)).mpr (by omega)),Qaq hf1 B k1.2 (by omega),FB 4 _ (by decide) (by omega),k6 j hj'];simp only[zz];rw[EeB hf1];by_cases q:Qg b (Kd.getD j .null)=2
   ·have rB:QI B (Kd.getD j .null):=Q6 (fun i=>⟨FB 1 i (by decide) (by omega),FB 3 i (by decide) (by omega)⟩) (fun i=>FB 4 i (by decide) (by omega)) _ (htw _ hm).2 (k2 _ hm).2.2.1;have kl:=(QaO (htw _ hm).1 (htw _ hm).2 q).2.1.2;obtain⟨D,eD,FD,LD⟩:=QcS hf1 false (htw _ hm).1 (htw _ hm).2 q rB (by rw[zh];omega) LB;have eD':f1 (52,0,[V 0,I (O (Qh (Kd.getD j .null))),I 0],[],B)=some (none,D):=eD;rw[zb ((is2 _ hm).mpr q),eD'];simp only[zz];rw[Efz hf1,E6 hf1,Qx];refine⟨D,rfl,fun c i h1 h2=>(FD c i h1 h2).trans (FB c i h1 h2),?_⟩;rw[Qg8 b Kd hj',zb q,zA];exact LD
   ·obtain⟨D,eD,FD,LD⟩:=QcT hf1 us (by rw[zh];omega) LB;rw[za (fun e=>q ((is2 _ hm).mp e)),eD];simp only[zz];rw[E6 hf1,Qx];refine⟨D,rfl,fun c i h1 h2=>(FD c i h1 h2).trans (FB c i h1 h2),?_⟩;rw[Qg8 b Kd hj',za q,zA];exact LD
 obtain⟨B,eB,FB,LB⟩:=key _ (zo _);rw[List.take_length] at LB;rw[eB,ES hf1,za zv];have slK:((QQ b Kd).map Qh).length=(QQ b Kd).length:=zh _;obtain⟨D6,e6,F6,D63,D64⟩:=QeX hf1 k1.2 (by rw[slK];exact lKs) LB (QbK x4);rw[e6];simp only[zz];rw[Eex hf1,za (by decide)];have st7:∃D7,f1 (33,0,[V 0,I yv],[],D6)=some (none,D7)/\Qbd D6 D7 ((Qa b 2 Kd).map Qh)/\(∀i,D7 5 i=D6 5 i\/D7 5 i=0):=by
  rcases hyv with⟨e,ev⟩ | ⟨y,e,ev⟩
  ·subst ev;exact⟨D6,QfR hf1 D6 (by decide),fun _ _ _ _ _=>rfl,fun i=>Or.inl rfl⟩
  ·subst ev;have ym:y∈Qa b 2 Kd:=(fbr y).mp (by rw[e];simp);obtain⟨h1,h2⟩:=htw y (Qy.mp ym).1;have hs:=(QaO h1 h2 (Qy.mp ym).2).1;obtain⟨D7,e7,F7,D75⟩:=Qfm hf1 D6 hs.1 hs.2;have sm:Qh y∈(Qa b 2 Kd).map Qh:=zD.mpr ⟨y,ym,rfl⟩;refine⟨D7,e7,fun c i g1 g2 g3=>F7 c i g1 (fun q=>g2 ⟨by omega,by rw[q.2];exact sm⟩) (fun q=>g3 ⟨q.1,by rw[show i/8=Qh y from by omega];exact sm⟩),fun i=>?_⟩;by_cases q:i=Qh y
   ·rw[q];exact Or.inr D75
   ·exact Or.inl (F7 5 i (by decide) (by omega) (by omega))
 obtain⟨D7,e7,C7,D75⟩:=st7;rw[e7];simp only[zz];rw[Efx hf1,zb (Qz (by omega) k1.2),QA (by omega)];generalize hD8:Ua D7 11 x 2=D8;have F8:∀c i,¬(c=11/\i=x)->D8 c i=D7 c i:=fun c i q=>by rw[<-hD8,Qi,za q]
 have cKs:∀a,((QQ b Kd).flatMap Qb++[x]++(Qa b 2 Kd).map Qh).count a=(Kd.flatMap Qb++[x]).count a:=fun a=>by
  have h1:=x2' a;simp only[zj] at h1 ⊢;omega
 obtain⟨P1,P2⟩:=QbL (l:=(QQ b Kd).flatMap Qb++[x]++(Qa b 2 Kd).map Qh) (P:=Kd.flatMap Qb++[x]) (G:=[]) (fun a=>by rw[cKs a];exact zo _) k7 zaF (fun a ha=>absurd ha (by simp));obtain⟨P3,-,P4⟩:=zl.mp P1;obtain⟨-,-,P5⟩:=zl.mp P3;have xY:x∉(Qa b 2 Kd).map Qh:=fun q=>P4 x (by simp) x q rfl;have C6:=QeV F6;have s57:Qak A D8 ([x]++(Qa b 2 Kd).map Qh):=fun c i h1 h2 h3 h4 h5=>by
  rw[F8 c i (fun q=>h4 ⟨by omega,by simp[q.2]⟩),C7 c i h1 (fun q=>h4 ⟨q.1,zc.mpr (Or.inr q.2)⟩) (fun q=>h5 ⟨q.1,zc.mpr (Or.inr q.2)⟩),C6 c i h1 (fun q=>h4 ⟨q.1,zc.mpr (Or.inl q.2)⟩) (fun q=>h5 ⟨q.1,zc.mpr (Or.inl q.2)⟩)];exact FB c i (by omega) (by omega)
 have x7:QaT D6 D7 x:=Qax (Q8 C7) xY;have f7:∀i,i∉(Qa b 2 Kd).map Qh->D8 5 i=A 5 i:=fun i hi=>by
  rw[F8 5 i (by omega),(Qax (Q8 C7) hi).2.2.1,F6 5 i (by decide) (by omega) (by omega),FB 5 i (by decide) (by omega)]
 refine⟨D8,rfl,⟨[x]++(Qa b 2 Kd).map Qh,s57,fun g hg=>?_⟩,by rw[<-hD8,Qi,zb ⟨rfl,rfl⟩],?_⟩
 ·rcases zc.mp hg with q | q
  ·rw[zi] at q;rw[q];exact⟨k1.1,by simp⟩
  ·obtain⟨y,hy,e⟩:=zD.mp q;obtain⟨h1,h2⟩:=htw y (Qy.mp hy).1;rw[<-e];exact⟨(QaO h1 h2 (Qy.mp hy).2).1.1,zc.mpr (Or.inl (zx.mpr ⟨y,(Qy.mp hy).1,QdC y h2 h1⟩))⟩
 ·refine QdE (G:=[]) k1 (Or.inr rfl) (QbI (fun u hu=>⟨(x4 u hu).1,(x4 u hu).2,x6 A (fun v hv=>(k2 v hv).2.2.1) u hu⟩) s57 fun i hi q=>?_) ⟨by omega,lKs⟩ ?_ ?_ (fun i hi=>?_) k7 zaF (fun g hg=>absurd hg (by simp)) k8 (fun a=>?_) (fun i hi h8=>?_) (fun a=>by rw[x3]) (Qar k10 (by omega) fun i=>?_)
  ·rcases zc.mp q with q | q
   ·exact P5 i hi x (by simp) (zi.mp q)
   ·exact P4 i (zc.mpr (Or.inl hi)) i q rfl
  ·rw[F8 1 x (by omega),x7.1,F6 1 x (by decide) (by omega) (by omega),FB 1 x (by decide) (by omega)];exact k4
  ·rw[F8 3 x (by omega),x7.2.1,D63,slK]
  ·rw[slK] at hi;rw[F8 4 _ (by omega),x7.2.2.2.2 i (by omega)];exact D64 i (by rw[slK];exact hi)
  ·have:=cKs a;rw[zj] at this;omega
  ·rw[f7 i fun q=>P4 i hi i q rfl];rcases P2 i (zc.mpr (Or.inl hi)) with q | q
   ·exact k8 i q h8
   ·exact absurd q (by simp)
  ·rw[F8 5 i (by omega)];rcases D75 i with q | q
   ·exact Or.inl (by rw[q,F6 5 i (by decide) (by omega) (by omega),FB 5 i (by decide) (by omega)])
   ·exact Or.inr q
theorem QhU(hf1:Fx f1){S:MS}{b:Nat->Bool}{x m:Nat}{K:List Qd}(k:Qay S b .ior x K m)(hm:m<54):∃a S',f1 (58,0,[V 0,I (O x)],[],S)=some (some (I a),S')/\QZ S S' (K.flatMap Qb++[x])/\((a=0/\QaG b (K.map Qe)=none)\/(a=1/\∃T,Qah S S' x (K.flatMap Qb++[x]) (K.flatMap Qf) (m+2) T/\S' 11 x=Qg b T/\QaG b (K.map Qe)=some (Qe T))):=by
 obtain⟨A,eA,CA,kA,L0,L1,L2⟩:=Qep hf1 k;have hw:∀u∈K,Qu u:=fun u hu=>(k.2.1 u hu).2.1;have htw:∀u∈K,Qp u/\Qu u:=fun u hu=>⟨(k.2.1 u hu).1,(k.2.1 u hu).2.1⟩;have hk:=k.2.2.1;have hx:=k.1;rw[Qjo hf1 b K hw,Ebj hf1,eA];simp only[zz];have ln:∀v,(Qa b v K).length<=8:=fun v=>zN (zZ _ _) hk.2;have ln0:=ln 0;have ln1:=ln 1;have ln2:=ln 2;have E0:=L0.1;have E1:=L1.1;have E2:=L2.1;rw[zh] at E0 E1 E2;have h5:∀i,A 5 i=S 5 i:=fun i=>(Qax CA (by simp)).2.2.1;have stay:∀v,Qau b (K.flatMap Qf)=v->∃a S',some (some (Jvm.Value.int 1),Ua A 11 x v)=some (some (I a),S')/\QZ S S' (K.flatMap Qb++[x])/\((a=0/\(some (Jvm.Term.op2 .ior (.arg 0) (Qk (K.map Qe))):Option Qd)=none)\/(a=1/\∃T,Qah S S' x (K.flatMap Qb++[x]) (K.flatMap Qf) (m+2) T/\S' 11 x=Qg b T/\some (Jvm.Term.op2 .ior (.arg 0) (Qk (K.map Qe)))=some (Qe T))):=fun v hv=>by
  obtain⟨TR,FR⟩:=Qez (S':=Ua A 11 x v) (Or.inr rfl) kA CA fun c i q=>by rw[Qi,za q]
  refine⟨1,_,rfl,FR,Or.inr ⟨rfl,_,TR,?_,?_⟩⟩
  ·rw[Qi,zb ⟨rfl,rfl⟩,QdK,hv]
  ·show _=some (Jvm.Term.op2 .ior (.arg 0) (Qe (Qk K)));rw[Qa0]
 have fin:∀(A':MS) (x2:Int32) (Kd:List Qd) (hKd:Kd=K\/Kd=K.reverse) (C:Qak S A' [x]) (A5:∀i,A' 5 i=S 5 i) (kd:Qay A' b .ior x Kd m) (LY:QO A' 19 10 ((Qa b 2 K).map Qh)) (y1:(Qa b 2 K).length<=1) (hp:Qa b 2 K≠[]\/(Qa b 0 K≠[]/\Qa b 1 K≠[])),∃a S',f1 (58,82,[V 0,I (O x),I x2],[],A')=some (some (I a),S')/\QZ S S' (K.flatMap Qb++[x])/\((a=0/\(some (Jvm.Term.op2 .ior (.arg 0) (Qk (QQ b (Kd.map Qe)))):Option Qd)=none)\/(a=1/\∃T,Qah S S' x (K.flatMap Qb++[x]) (K.flatMap Qf) (m+2) T/\S' 11 x=Qg b T/\some (Jvm.Term.op2 .ior (.arg 0) (Qk (QQ b (Kd.map Qe))))=some (Qe T))):=fun A' x2 Kd hKd C A5 kd LY y1 hp=>by
  have pK:Kd.Perm K:=by
   rcases hKd with e | e
   ·rw[e]
   ·rw[e];exact zy _
  have tKd:∀u∈Kd,Qp u/\Qu u:=fun u hu=>htw u (pK.mem_iff.mp hu);obtain⟨S',e,⟨H,C',hH⟩,l11,TR⟩:=QhA hf1 (x2:=x2) hKd kd LY y1;have pp:=pK.flatMap_right Qb;have pl:=pK.flatMap_right Qf;have ppx:∀i,i∈Kd.flatMap Qb++[x]↔i∈K.flatMap Qb++[x]:=fun i=>by rw[zc,zc,pp.mem_iff]
  refine⟨1,S',e,?_,Or.inr ⟨rfl,.op2 .ior (.arg x) (Qk (QQ b Kd)),?_,?_,?_⟩⟩
  ·exact Qce (G:=[x]++H) (QbN C C') fun g hg=>by
    rcases zc.mp hg with q | q
    ·rw[zi] at q;rw[q];exact⟨hx.1,Or.inl (by simp)⟩
    ·exact⟨(hH g q).1,Or.inl ((ppx g).mp (hH g q).2)⟩
  ·obtain⟨t1,t2,t3,t4,t5,t6,t7,t8,t9⟩:=TR;exact⟨t1,t2,t3,t4,t5,fun i hi=>by rw[<-A5,<-ppx];exact t6 i hi,t7,t8.trans pl,t9⟩
  ·rw[l11,QdK,(QdG (b:=b) tKd).2.2.1,QdS pl,Qgc htw hp]
  ·show _=some (Jvm.Term.op2 .ior (.arg 0) (Qe (Qk (QQ b Kd))));rw[Qa0,(QdG (b:=b) tKd).1]
 have kA':=kA;obtain⟨k1,k2,k3,k4,k5,k6,k7,k8,k9,k10⟩:=kA;have hlen:(K.map Qh).length=K.length:=zh _;have dir:=QhE hf1 (S:=A) (l:=K.map Qh) k1.2 (by rw[hlen];exact k3.2) (QbK htw) (by rw[hlen];exact k5) (Qcn k6);have cc:=Qex (r:=fun i=>QK (A 11 ((K.map Qh).getD i 0))) (r':=fun i=>QK (Qg b (K.getD i .null))) (n:=K.length) fun i hi=>by
  show QK (A 11 ((K.map Qh).getD i 0))=QK (Qg b (K.getD i .null));rw[show (K.map Qh).getD i 0=Qh (K.getD i .null) from by simp only[zf,List.getElem?_map,List.getElem?_eq_getElem hi];rfl,(k2 _ (Qa2 hi)).2.2.2]
 rw[hlen,cc.1,cc.2] at dir;have go:∀(y1:(Qa b 2 K).length<=1) (hp:Qa b 2 K≠[]\/(Qa b 0 K≠[]/\Qa b 1 K≠[])),∃a S',((f1 (56,0,[V 0,I (O x)],[],A)).bind fun q=>f1 (58,66,[V 0,I (O x)],q.1.toList++[],q.2))=some (some (I a),S')/\QZ S S' (K.flatMap Qb++[x])/\((a=0/\(if Qaa (fun i=>QK (Qg b (K.getD i .null))) K.length=true then some (.op2 .ior (.arg 0) (Qk (QQ b (K.map Qe)))) else if Qad (fun i=>QK (Qg b (K.getD i .null))) K.length=true then some (.op2 .ior (.arg 0) (Qk (QQ b (K.map Qe).reverse))) else none:Option Qd)=none)\/(a=1/\∃T,Qah S S' x (K.flatMap Qb++[x]) (K.flatMap Qf) (m+2) T/\S' 11 x=Qg b T/\(if Qaa (fun i=>QK (Qg b (K.getD i .null))) K.length=true then some (.op2 .ior (.arg 0) (Qk (QQ b (K.map Qe)))) else if Qad (fun i=>QK (Qg b (K.getD i .null))) K.length=true then some (.op2 .ior (.arg 0) (Qk (QQ b (K.map Qe).reverse))) else none:Option Qd)=some (Qe T))):=fun y1 hp=>by
  rw[dir];simp only[zz];rw[Eer hf1];by_cases u1:Qaa (fun i=>QK (Qg b (K.getD i .null))) K.length=true
  ·rw[zb u1,za (by decide),za (by decide),zb u1];exact fin A 1 K (Or.inl rfl) (Qiy CA fun i hi=>absurd hi (by simp)) h5 kA' L2 y1 hp
  rw[za u1,za u1];by_cases d1:Qad (fun i=>QK (Qg b (K.getD i .null))) K.length=true
  ·rw[zb d1,za (by decide),zb (by decide),zb d1];obtain⟨A',e',F',A4⟩:=QjH hf1 (S:=A) (l:=K.map Qh) k1.2 (by rw[hlen];exact k3.2) (by rw[hlen];omega) (by rw[hlen];exact k5) (Qcn k6);rw[e',<-zI];simp only[zz];have C':Qbd A A' [x]:=fun c i _ _ h=>F' c i fun q=>h ⟨q.1,by rw[zi];omega⟩;have A5:∀i,A' 5 i=A 5 i:=fun i=>F' 5 i (by omega);have pp:(K.reverse.flatMap Qb).Perm (K.flatMap Qb):=(zy K).flatMap_right Qb;have pl:(K.reverse.flatMap Qf).Perm (K.flatMap Qf):=(zy K).flatMap_right Qf;have xK:∀i∈K.flatMap Qb,i∉[x]:=fun i hi q=>(zl.mp k7).2.2 i hi x (by simp) (zi.mp q);have mK:=QbI (fun u hu=>⟨(k2 u hu).1,(k2 u hu).2.1,(k2 u hu).2.2.1⟩) (Q8 C') xK
   refine fin A' (-1) K.reverse (Or.inr rfl) (QbN CA (Q8 C')) (fun i=>(A5 i).trans (h5 i)) ⟨k1,fun u hu=>?_,by rw[zac];exact k3,(F' 1 x (by omega)).trans k4,by rw[zac,F' 3 x (by omega)];exact k5,fun i hi=>?_,(pp.append_right [x]).nodup_iff.mpr k7,fun i hi h8=>?_,by rw[pl.length_eq];exact k9,Qar k10 (zo _) fun i=>Or.inl (A5 i)⟩ (QbD (F' 0 10 (by omega)) (fun i=>F' 19 i (by omega)) L2) y1 hp
   ·rw[zp] at hu;exact⟨(mK u hu).1,(mK u hu).2.1,(mK u hu).2.2,(F' 11 _ (by omega)).trans (k2 u hu).2.2.2⟩
   ·rw[zac] at hi;have h4:∀i,i<(K.reverse.map Qh).length->A' 4 (8*x+i)=O ((K.reverse.map Qh).getD i 0):=fun i hi=>by
     rw[zI];exact A4 i (by rw[zh,zac] at hi;rw[hlen];exact hi)
    exact Qd2 h4 i (by rw[zac];exact hi)
   ·rw[A5];exact k8 i ((pp.append_right [x]).mem_iff.mp hi) h8
  ·rw[za d1,zb rfl,za d1];exact⟨0,A,rfl,Qce CA fun g hg=>absurd hg (by simp),Or.inl ⟨rfl,rfl⟩⟩
 rw[EcU hf1,E2,E0];by_cases q2:2<=(Qa b 2 K).length
 ·rw[za (show ¬O (Qa b 2 K).length<2 from fun q=>absurd ((Qq (a:=(Qa b 2 K).length) (b:=2) (by omega) (by omega)).mp q) (by omega)),zb q2];exact⟨0,A,rfl,Qce CA fun g hg=>absurd hg (by simp),Or.inl ⟨rfl,rfl⟩⟩
 rw[zb (show O _<2 from (Qq (b:=2) (by omega) (by omega)).mpr (by omega)),za q2];by_cases qY:(Qa b 2 K).length=0
 ·rw[zb ((Qai (by omega)).mpr qY)];by_cases qE:(Qa b 0 K).length=0
  ·rw[zb ((Qai (by omega)).mpr qE),zb (Qz (by omega) hx.2),QA (by omega),zb ⟨qY,Or.inl qE⟩];exact stay 1 (QdX (QX.mp qE) (QX.mp qY))
  ·rw[za (fun e=>qE ((Qai (by omega)).mp e)),EH hf1,E2,E1,zb ((Qai (by omega)).mpr qY)];by_cases qF:(Qa b 1 K).length=0
   ·rw[zb ((Qai (by omega)).mpr qF),zb (Qz (by omega) hx.2),QA (by omega),zb ⟨qY,Or.inr qF⟩];exact stay 0 (QfE htw (fun e=>by rw[e] at hk;exact absurd hk.1 (by simp)) (QX.mp qF) (QX.mp qY))
   ·rw[za (fun e=>qF ((Qai (by omega)).mp e)),za (show ¬(_/\(_\/_)) by omega)];exact go (by omega) (Or.inr ⟨fun e=>qE (by rw[e];rfl),fun e=>qF (by rw[e];rfl)⟩)
 ·rw[za (fun e=>qY ((Qai (by omega)).mp e)),EH hf1,E2,za (fun e=>qY ((Qai (by omega)).mp e)),za (show ¬(_/\(_\/_)) by omega)];exact go (by omega) (Or.inl fun e=>qY (by rw[e];rfl))
end InnerQ
def Qfw(S S':MS)(P l:List Nat)(m:Nat)(T:Qd):Prop:=Qu T/\QI S' T/\(Qb T).Nodup/\(∀i∈Qb T,i∈P\/(8<=i/\S 5 i=0))/\(∀i∈Qb T,8<=i->S' 5 i≠0)/\(Qf T).Perm l/\Qa3 S' m
def QcP(S:MS)(b:Nat->Bool)(p tot m:Nat)(t:Qd):Prop:=QI S t/\QaF S p (Qb t) tot/\(Qb t).Nodup/\(∀i∈Qb t,8<=i->S 5 i≠0/\S 11 i=0)/\(∀c∈Qf t,S 11 c=Qg b (.arg c))/\QaI (fun u=>S 12 (Qh u)=Q5 u) t/\(Qf t).length<=8/\Qa3 S m/\m+2*(Qb t).length<=54
theorem QhF(x y z:Int32):(x|||y)&&&z=(x&&&z)|||(y&&&z):=by
 rw[<-zaC];exact BitVec.and_or_distrib_right
theorem QfW{s:Int32}{b:Nat->Bool}(hb:∀c,c<8->((1<<<(O c&&&31))&&&s=0↔b c=false)):∀t,Qu t->(Q5 t&&&s=0↔(Qf t).all (fun c => !b c)=true):=Q3
 (fun c hc=>by
  show _&&&s=0↔([c]:List Nat).all _=true;rw[zaO,zaX,zae,zaz];exact hb c hc)
 (fun o x f w ih=>ih)
 (fun t f w iht ihf=>by
  show (Q5 t|||Q5 f)&&&s=0↔(Qf t++Qf f).all _=true;rw[List.all_append,zaf,<-iht,<-ihf,QhF,Int32.or_eq_zero_iff])
 (by show (0:Int32)&&&s=0↔_;rw[Int32.zero_and];exact⟨fun _=>rfl,fun _=>rfl⟩)
section Seg
variable {f1:FT1}
theorem Qed(hf1:Fx f1){S:MS}{s:Int32}{pi p x:Nat}(hp:p<pi)(hpi:pi<64)(hx:x<64)(h13:S 13 p=O x):f1 (42,27,[V 0,I s,I (O pi),I (O p)],[],S)=f1 (42,52,[V 0,I s,I (O pi),I (O p),I (O x)],[I (if S 1 x=0 then 0 else 1)],S):=by
 rw[Eah hf1,zb ((Qq (by omega) (by omega)).mpr hp),zb (show O p<64 from (Qq (b:=64) (by omega) (by omega)).mpr (by omega)),zb (Qz (by omega) (by omega)),QA (by omega),h13,Qb8 hf1 S hx];simp only[zz]
theorem Qft(hf1:Fx f1){S:MS}{s:Int32}{b:Nat->Bool}{pi tot:Nat}(hb:∀c,c<8->((1<<<(O c&&&31))&&&s=0↔b c=false))(hpi:pi<64):∀t,Qu t->∀p,QI S t->QaF S p (Qb t) tot->p+(Qb t).length<=pi->QaI (fun u=>S 12 (Qh u)=Q5 u) t->(Qf t).all (fun c => !b c)=true->f1 (42,27,[V 0,I s,I (O pi),I (O p)],[],S)=f1 (42,27,[V 0,I s,I (O pi),I (O (p+(Qb t).length))],[],S):=Q3
 (fun c hc p r g hp a hl=>by
  have hp':p+1<=pi:=hp;have e13:S 13 p=O c:=g.2.2.2 0 (by simp[Qb]);rw[Qed hf1 (by omega) hpi (by omega) e13,zb (show S 1 c=0 from r),Ec hf1,zb rfl,Qx];rfl)
 (fun o x f w ih p r g hp a hl=>by
  have ep:Qb (.op2 o (.arg x) f)=Qb f++[x]:=rfl;rw[ep] at g;rw[ep,zd] at hp;have hp':p+((Qb f).length+1)<=pi:=hp;have g':=QaV g;have e13:S 13 (p+(Qb f).length)=O x:=g'.2.2.2 0 (by simp);have k1:S 1 x≠0:=by rw[r.1];exact QbU
  rw[ih p r.2.2.2 (QaQ g) (by omega) a.2 hl,Qed hf1 (by omega) hpi w.1.2 e13,za k1,Ec hf1,za (by decide),zb (Qz (by have:=w.1.2;omega) w.1.2),QA (by have:=w.1.2;omega),show S 12 x=Q5 f from a.1,zb ((QfW hb f w.2.2.2.2).mpr hl),Qx,ep,zd];rfl)
 (fun t f w iht ihf p r g hp a hl=>by
  have ep:Qb (.add t f)=Qb t++Qb f:=rfl;rw[ep] at g;rw[ep,zd] at hp;have hl':(Qf t++Qf f).all (fun c => !b c)=true:=hl;rw[List.all_append,zaf] at hl';rw[iht p r.1 (QaQ g) (by omega) a.1 hl'.1,ihf _ r.2 (QaV g) (by omega) a.2 hl'.2,ep,zd,zaj])
 (fun p r g hp a hl=>rfl)
theorem QiO(hf1:Fx f1){S:MS}{b:Nat->Bool}{o:Jvm.Binary}{x m:Nat}{K:List Qd}(ho:o = .iand\/o = .ior)(k:Qay S b o x K m)(hm:m<54):∃a S',f1 (45,0,[V 0,I (O x)],[],S)=some (some (I a),S')/\QZ S S' (K.flatMap Qb++[x])/\((a=0/\(if o = .iand then QaE b (K.map Qe) else QaG b (K.map Qe))=none)\/(a=1/\∃T,Qah S S' x (K.flatMap Qb++[x]) (K.flatMap Qf) (m+2) T/\S' 11 x=Qg b T/\(if o = .iand then QaE b (K.map Qe) else QaG b (K.map Qe))=some (Qe T))):=by
 have hx:=k.1;have k4:=k.2.2.2.1;rw[EaV hf1,zb (Qz (by omega) hx.2),QA (by omega),k4];rcases ho with e | e
 ·subst e;obtain⟨a,S',e,F,h⟩:=Qjd hf1 k hm;rw[zb (by decide),e];simp only[zz];rw[Ede hf1];have ha:a&&&1=a:=by rcases h with⟨h,-⟩ | ⟨h,-⟩<;>rw[h]<;>decide
  rw[ha];refine⟨a,S',rfl,F,?_⟩;rw[zb trivial];exact h
 ·subst e;obtain⟨a,S',e,F,h⟩:=QhU hf1 k hm;rw[za (by decide),e];simp only[zz];rw[Ea9 hf1];have ha:a&&&1=a:=by rcases h with⟨h,-⟩ | ⟨h,-⟩<;>rw[h]<;>decide
  rw[ha];refine⟨a,S',rfl,F,?_⟩;rw[za (by decide)];exact h
theorem Qip(hf1:Fx f1){s:Int32}{b:Nat->Bool}{pi tot:Nat}(hb:∀c,c<8->((1<<<(O c&&&31))&&&s=0↔b c=false))(hpi:pi<64):∀t,Qu t->∀p m S,QcP S b p tot m t->p+(Qb t).length<=pi->∃S',QZ S S' (Qb t)/\((f1 (42,27,[V 0,I s,I (O pi),I (O p)],[],S)=some (some (I 0),S')/\QJ b t=none)\/(f1 (42,27,[V 0,I s,I (O pi),I (O p)],[],S)=f1 (42,27,[V 0,I s,I (O pi),I (O (p+(Qb t).length))],[],S')/\∃T,QJ b t=some (Qe T)/\Qfw S S' (Qb t) (Qf t) (m+2*(Qb t).length) T/\(Qp t->Qp T/\Qh T=Qh t/\S' 11 (Qh t)=Qg b T)/\(QM t->QM T/\(Qc T).map Qh=(Qc t).map Qh/\∀u∈Qc T,S' 11 (Qh u)=Qg b u))):=by
 refine Q3 (fun c hc p m S L hp=>?_) (fun o x f w ih p m S L hp=>?_) (fun t f w iht ihf p m S L hp=>?_) (fun p m S L hp=>?_)
 ·obtain⟨r,g,nd,l1,l2,a,l8,cv,hm⟩:=L;have hp':p+1<=pi:=hp;have e13:S 13 p=O c:=g.2.2.2 0 (by simp[Qb]);refine⟨S,Qbq S _,Or.inr ⟨?_,.arg c,rfl,⟨hc,r,nd,fun i hi=>Or.inl hi,fun i hi h8=>(l1 i hi h8).1,List.Perm.refl _,Qar cv (by omega) fun i=>Or.inl rfl⟩,fun _=>⟨trivial,rfl,l2 c (by simp[Qf])⟩,fun h=>absurd h id⟩⟩;rw[Qed hf1 (by omega) hpi (by omega) e13,zb (show S 1 c=0 from r),Ec hf1,zb rfl,Qx];rfl
 ·obtain⟨r,g,nd,l1,l2,a,l8,cv,hm⟩:=L;have ep:Qb (.op2 o (.arg x) f)=Qb f++[x]:=rfl;have w':=w;obtain⟨⟨w1,w2⟩,w3,⟨w4,w5⟩,w6,w7⟩:=w;have eI:QJ b (.op2 o (.arg x) f)=if Qg b (.op2 o (.arg x) f)=0 then some (.op2 o (.arg 0) (Qe f)) else (QJ b f).bind fun f'=>if o = .iand then QaE b (Qc f') else QaG b (Qc f'):=rfl;by_cases q0:Qg b (.op2 o (.arg x) f)=0
  ·refine⟨S,Qbq S _,Or.inr ⟨Qft hf1 hb hpi _ w' p r g hp a (Qbj q0),.op2 o (.arg x) f,?_,⟨w',r,nd,fun i hi=>Or.inl hi,fun i hi h8=>(l1 i hi h8).1,List.Perm.refl _,Qar cv (by omega) fun i=>Or.inl rfl⟩,fun _=>⟨trivial,rfl,?_⟩,fun h=>absurd h id⟩⟩
   ·rw[eI,zb q0];rfl
   ·rw[q0];exact (l1 x (by rw[ep];simp) w1).2
  rw[eI,za q0];rw[ep] at g nd l1;rw[ep,zd] at hp hm;have hp':p+((Qb f).length+1)<=pi:=hp;have hm':m+2*((Qb f).length+1)<=54:=hm;obtain⟨nd1,-,nd3⟩:=zl.mp nd;have hxf:x∉Qb f:=fun h=>nd3 x h x (by simp) rfl;have x5:=(l1 x (by simp) w1).1;have lx:∀i∈Qb f,8<=i->S 5 i≠0/\S 11 i=0:=fun i hi=>l1 i (zc.mpr (Or.inl hi));obtain⟨S1,F1,h1⟩:=ih p m S ⟨r.2.2.2,QaQ g,nd1,lx,l2,a.2,l8,cv,by omega⟩ (by omega);rcases h1 with⟨e1,n1⟩ | ⟨e1,T,n1,TF,-,hT⟩
  ·refine⟨S1,QbF F1 (Qbq S1 []) (fun i hi=>by rw[ep];exact zc.mpr (Or.inl hi)) (fun i hi=>absurd hi (by simp)),Or.inl ⟨e1,by rw[n1];rfl⟩⟩
  obtain⟨T1,T2,T3,T4,T5,T6,T7⟩:=TF;obtain⟨tF,tK,tL⟩:=hT w6;have smx:QaT S S1 x:=F1.2 x (Or.inr ⟨hxf,x5⟩);have kpo:(Qc T).flatMap Qb=Qb T:=Qby Qb (fun _ _=>rfl) rfl T T1 tF;have klv:(Qc T).flatMap Qf=Qf T:=Qby Qf (fun _ _=>rfl) rfl T T1 tF;have kln:(Qc T).length=(Qc f).length:=by have:=congrArg List.length tK;rw[zh,zh] at this;exact this
  have gds:∀i,i<(Qc f).length->Qh ((Qc T).getD i .null)=Qh ((Qc f).getD i .null):=fun i hi=>by
   have:=congrArg (fun l=>l[i]?) tK;simp only[List.getElem?_map] at this;rw[List.getElem?_eq_getElem hi,List.getElem?_eq_getElem (by omega)] at this;rw[zf,zf,List.getElem?_eq_getElem hi,List.getElem?_eq_getElem (by omega)];exact Option.some.inj this
  have xT:x∉Qb T:=fun h=>by
   rcases T4 x h with q | q
   ·exact hxf q
   ·exact x5 q.2
  have kc:Qay S1 b o x (Qc T) (m+2*(Qb f).length):=by
   refine⟨⟨w1,w2⟩,fun u hu=>⟨(QaR T1 u hu).1,(QaR T1 u hu).2,Qdm T1 T2 u hu,tL u hu⟩,by rw[kln];exact⟨w4,w5⟩,smx.1.trans r.1,by rw[kln];exact smx.2.1.trans r.2.1,fun i hi=>?_,?_,fun i hi h8=>?_,by rw[klv,T6.length_eq];exact l8,T7⟩
   ·rw[kln] at hi;rw[smx.2.2.2.2 i (by omega),r.2.2.1 i hi,gds i hi]
   ·rw[kpo,zl];exact⟨T3,by simp,fun i hi j hj e=>xT (by rw[zi] at hj;rw[<-hj,<-e];exact hi)⟩
   ·rw[kpo] at hi;rcases zc.mp hi with q | q
    ·exact T5 i q h8
    ·rw[zi] at q;rw[q,smx.2.2.1];exact x5
  obtain⟨av,S2,e2,F2,h2⟩:=QiO hf1 w3 kc (by omega);rw[kpo] at F2;have hQ:∀i∈Qb T++[x],8<=i->i∈Qb f++[x]\/S 5 i=0:=fun i hi h8=>by
   rcases zc.mp hi with q | q
   ·rcases T4 i q with q | q
    ·exact Or.inl (zc.mpr (Or.inl q))
    ·exact Or.inr q.2
   ·exact Or.inl (zc.mpr (Or.inr q))
  have FF:QZ S S2 (Qb (.op2 o (.arg x) f)):=QbF F1 F2 (fun i hi=>by rw[ep];exact zc.mpr (Or.inl hi)) hQ;have g':=QaV g;have e13:S1 13 (p+(Qb f).length)=O x:=by rw[F1.1 13 _ (by decide) (by decide) (by decide) (by decide) (by decide) (by decide) (by decide) (by omega)];exact g'.2.2.2 0 (by simp)
  have k1:S1 1 x≠0:=by rw[smx.1,r.1];exact QbU
  have e12:S1 12 x=Q5 f:=by rw[F1.1 12 _ (by decide) (by decide) (by decide) (by decide) (by decide) (by decide) (by decide) (by omega)];exact a.1
  have ne0:¬Q5 f&&&s=0:=fun q=>by
   have hl:=(QfW hb f w7).mp q;refine q0 ?_;show (if (Qf f).all b=true then (1:Int32) else if (Qf f).all (fun c => !b c)=true then 0 else 2)=0;rw[za,zb hl];exact fun h=>QbV (QcC _ w' trivial) h hl
  have step:f1 (42,27,[V 0,I s,I (O pi),I (O p)],[],S)=if av=0 then some (some (I 0),S2) else f1 (42,27,[V 0,I s,I (O pi),I (O (p+(Qb f).length+1))],[],S2):=by
   rw[e1,Qed hf1 (by omega) hpi w2 e13,za k1,Ec hf1,za (by decide),zb (Qz (by omega) w2),QA (by omega),e12,za ne0,e2];simp only[zz];rw[Ecv hf1,Qx]
  have mapk:(Qc T).map Qe=Qc (Qe T):=(Qcm T T1 tF).symm;rw[mapk] at h2;rcases h2 with⟨ea,n2⟩ | ⟨ea,T',TR,l11,n2⟩
  ·refine⟨S2,FF,Or.inl ⟨by rw[step,zb ea],?_⟩⟩;rw[n1];exact n2
  ·obtain⟨t1,t2,t3,t4,t5,t6,t7,t8,t9⟩:=TR;refine⟨S2,FF,Or.inr ⟨?_,T',?_,⟨t1,t4,t5,fun i hi=>?_,t7,?_,?_⟩,fun _=>⟨t2,t3,l11⟩,fun h=>absurd h id⟩⟩
   ·rw[step,za (by rw[ea];decide),ep,zd];rfl
   ·rw[n1];exact n2
   ·rw[ep];rcases t6 i hi with q | q
    ·rw[kpo] at q;by_cases h8:8<=i
     ·rcases hQ i q h8 with q | q
      ·exact Or.inl q
      ·exact Or.inr ⟨h8,q⟩
     ·rcases zc.mp q with q | q
      ·rcases T4 i q with q | q
       ·exact Or.inl (zc.mpr (Or.inl q))
       ·exact absurd q.1 h8
      ·rw[zi] at q;omega
    ·by_cases qf:i∈Qb f
     ·exact Or.inl (zc.mpr (Or.inl qf))
     ·by_cases q5:S 5 i=0
      ·exact Or.inr ⟨q.1,q5⟩
      ·exact absurd ((F1.2 i (Or.inr ⟨qf,q5⟩)).2.2.1.symm.trans q.2) q5
   ·rw[klv] at t8;exact t8.trans T6
   ·rw[ep,zd];exact Qar t9 (by show _<=m+2*((Qb f).length+1);omega) fun i=>Or.inl rfl
 ·obtain⟨r,g,nd,l1,l2,a,l8,cv,hm⟩:=L;have ep:Qb (.add t f)=Qb t++Qb f:=rfl;have ev:Qf (.add t f)=Qf t++Qf f:=rfl;rw[ep] at g nd l1;rw[ep,zd] at hp hm;rw[ev] at l2;rw[ev,zd] at l8;obtain⟨nd1,nd2,nd3⟩:=zl.mp nd;obtain⟨w1,w2,w3,w4⟩:=w;have eI:QJ b (.add t f)=(QJ b t).bind fun t'=>(QJ b f).bind fun f'=>some (.add t' f'):=rfl;rw[eI];obtain⟨S1,F1,h1⟩:=iht p m S ⟨r.1,QaQ g,nd1,fun i hi=>l1 i (zc.mpr (Or.inl hi)),fun c hc=>l2 c (zc.mpr (Or.inl hc)),a.1,by omega,cv,by omega⟩ (by omega);rcases h1 with⟨e1,n1⟩ | ⟨e1,T,n1,TF,hT,-⟩
  ·refine⟨S1,QbF F1 (Qbq S1 []) (fun i hi=>by rw[ep];exact zc.mpr (Or.inl hi)) (fun i hi=>absurd hi (by simp)),Or.inl ⟨e1,by rw[n1];rfl⟩⟩
  obtain⟨T1,T2,T3,T4,T5,T6,T7⟩:=TF;obtain⟨tT,tS,tL⟩:=hT w1;have f0:∀c i,c≠1->c≠2->c≠3->c≠4->c≠5->c≠11->(c<16\/19<c)->¬(c=0/\7<=i/\i<=10)->S1 c i=S c i:=F1.1;have smf:∀i∈Qb f,QaT S S1 i:=fun i hi=>by
   by_cases h8:8<=i
   ·exact F1.2 i (Or.inr ⟨fun q=>nd3 i q i hi rfl,(l1 i (zc.mpr (Or.inr hi)) h8).1⟩)
   ·exact F1.2 i (Or.inl (by omega))
  obtain⟨S2,F2,h2⟩:=ihf (p+(Qb t).length) (m+2*(Qb t).length) S1 ⟨QbX f w4 smf r.2,QcQ (f0 0 6 (by decide) (by decide) (by decide) (by decide) (by decide) (by decide) (by decide) (by omega)) (fun i=>f0 13 i (by decide) (by decide) (by decide) (by decide) (by decide) (by decide) (by decide) (by omega)) (QaV g),nd2,fun i hi h8=>by rw[(smf i hi).2.2.1,(smf i hi).2.2.2.1];exact l1 i (zc.mpr (Or.inr hi)) h8,fun c hc=>by rw[(smf c ((Qd3 f w4).subset hc)).2.2.2.1];exact l2 c (zc.mpr (Or.inr hc)),QbR f w4 (fun u _ _ q=>by rw[f0 12 _ (by decide) (by decide) (by decide) (by decide) (by decide) (by decide) (by decide) (by omega)];exact q) a.2,by omega,T7,by omega⟩ (by omega)
  have FF:QZ S S2 (Qb (.add t f)):=QbF F1 F2 (fun i hi=>by rw[ep];exact zc.mpr (Or.inl hi)) (fun i hi h8=>by rw[ep];exact Or.inl (zc.mpr (Or.inr hi)));rcases h2 with⟨e2,n2⟩ | ⟨e2,T',n2,TF',-,hT'⟩
  ·exact⟨S2,FF,Or.inl ⟨by rw[e1,e2],by rw[n1,n2];rfl⟩⟩
  obtain⟨t1,t2,t3,t4,t5,t6,t7⟩:=TF';obtain⟨tF,tK,tL'⟩:=hT' w2;have dis:∀i∈Qb T,8<=i->i∉Qb f:=fun i hi h8 q=>by
   rcases T4 i hi with q' | q'
   ·exact nd3 i q' i q rfl
   ·exact (l1 i (zc.mpr (Or.inr q)) h8).1 q'.2
  have smT:∀i∈Qb T,QaT S1 S2 i:=fun i hi=>by
   by_cases h8:8<=i
   ·exact F2.2 i (Or.inr ⟨dis i hi h8,T5 i hi h8⟩)
   ·exact F2.2 i (Or.inl (by omega))
  refine⟨S2,FF,Or.inr ⟨?_,.add T T',?_,⟨⟨tT,tF,T1,t1⟩,⟨QbX T T1 smT T2,t2⟩,?_,fun i hi=>?_,fun i hi h8=>?_,?_,?_⟩,fun h=>absurd h id,fun _=>⟨trivial,?_,fun u hu=>?_⟩⟩⟩
  ·rw[e1,e2,ep,zd,zaj]
  ·rw[n1,n2];rfl
  ·show (Qb T++Qb T').Nodup;refine zl.mpr ⟨T3,t3,fun i hi j hj e=>?_⟩;subst e;by_cases h8:8<=i
   ·rcases t4 i hj with q | q
    ·exact dis i hi h8 q
    ·exact T5 i hi h8 q.2
   ·have a1:i∈Qb t:=by
     rcases T4 i hi with q | q
     ·exact q
     ·omega
    have a2:i∈Qb f:=by
     rcases t4 i hj with q | q
     ·exact q
     ·omega
    exact nd3 i a1 i a2 rfl
  ·rw[ep];rcases zc.mp (show i∈Qb T++Qb T' from hi) with q | q
   ·rcases T4 i q with q | q
    ·exact Or.inl (zc.mpr (Or.inl q))
    ·exact Or.inr q
   ·rcases t4 i q with q | q
    ·exact Or.inl (zc.mpr (Or.inr q))
    ·by_cases qt:i∈Qb t
     ·exact Or.inl (zc.mpr (Or.inl qt))
     ·by_cases q5:S 5 i=0
      ·exact Or.inr ⟨q.1,q5⟩
      ·exact absurd ((F1.2 i (Or.inr ⟨qt,q5⟩)).2.2.1.symm.trans q.2) q5
  ·rcases zc.mp (show i∈Qb T++Qb T' from hi) with q | q
   ·rw[(smT i q).2.2.1];exact T5 i q h8
   ·exact t5 i q h8
  ·exact List.Perm.append T6 t6
  ·rw[ep,zd];exact Qar t7 (by omega) fun i=>Or.inl rfl
  ·show Qh T::(Qc T').map Qh=Qh t::(Qc f).map Qh;rw[tS,tK]
  ·rcases zt.mp hu with e | e
   ·rw[e,(smT _ (QdC T T1 tT)).2.2.2.1,tS];exact tL
   ·exact tL' u e
 ·obtain⟨r,g,nd,l1,l2,a,l8,cv,hm⟩:=L;exact⟨S,Qbq S _,Or.inr ⟨rfl,.null,rfl,⟨trivial,trivial,nd,fun i hi=>Or.inl hi,fun i hi h8=>(l1 i hi h8).1,List.Perm.refl _,Qar cv (by omega) fun i=>Or.inl rfl⟩,fun h=>absurd h id,fun _=>⟨trivial,rfl,fun u hu=>absurd hu (by simp[Qc])⟩⟩⟩
end Seg
def QgX(l E F:List Qd):List Qd->Option Qd
 |[]=>if E.length=0\/F.length<2 then some (.op2 .iand (.arg 0) (Qk l)) else some (.op2 .iand (.arg 0) (Qk (E++QB F)))
 |[y]=>if E.length=0 then some (.op2 .ior (.arg 0) (Qk (Qn y++QB F))) else some (.op2 .iand (.arg 0) (Qk (E++[.op2 .ior (.arg 0) (Qk (Qn y++QB F))])))
 |[y,z]=>if E.length=0 then some (.op2 .ior (.arg 0) (Qk (Qn y++QB F++(Qn z).reverse))) else some (.op2 .iand (.arg 0) (Qk (E++[.op2 .ior (.arg 0) (Qk (Qn y++QB F++(Qn z).reverse))])))
 |_=>none
def Qal(b:Nat->Bool)(l:List Qd):Option Qd:=QgX l (Qa b 0 l) (Qa b 1 l) (Qa b 2 l)
theorem Qdj{A D S':MS}{P G H Z l:List Nat}{x m:Nat}{o:Jvm.Binary}{Ks:List Qd}(hx:8<=x/\x<64)(ho:o = .iand\/o = .ior)(hP:P.Nodup)(xP:x∈P)(lP:∀i∈P,8<=i->A 5 i≠0)(nG:G.Nodup)(hG:∀g∈G,8<=g/\A 5 g=0)(CD:Qak A D H)(hH:∀h∈H,8<=h/\(h∈P\/A 5 h=0))(rK:∀u∈Ks,Qp u/\Qu u/\QI D u)(hk:2<=Ks.length/\Ks.length<=8)(cK:∀a,(Ks.flatMap Qb++[x]++Z).count a<=P.count a+G.count a)(vK:∀a,(Ks.flatMap Qf).count a=l.count a)(CS:Qak D S' ([x]++Z))(hZ:∀z∈Z,8<=z)(S5:∀i,i∉Z->S' 5 i=D 5 i)(lD:∀i∈Ks.flatMap Qb++[x],8<=i->D 5 i≠0)(h1:S' 1 x=QaZ o)(h3:S' 3 x=O Ks.length)(h4:∀i,i<(Ks.map Qh).length->S' 4 (8*x+i)=O ((Ks.map Qh).getD i 0))(cS:Qa3 S' m):Qah A S' x P l m (.op2 o (.arg x) (Qk Ks))/\QZ A S' P:=by
 obtain⟨P1,P2⟩:=QbL cK hP nG fun a ha hp=>lP a hp (hG a ha).1 (hG a ha).2;obtain⟨P3,-,P4⟩:=zl.mp P1;obtain⟨-,-,P5⟩:=zl.mp P3;refine⟨QdE (G:=G) hx ho (QbI rK CS fun i hi q=>?_) hk h1 h3 h4 hP nG hG lP (fun a=>?_) (fun i hi h8=>?_) vK cS,Qce (QbN CD CS) fun g hg=>?_⟩
 ·rcases zc.mp q with q | q
  ·exact P5 i hi x (by simp) (zi.mp q)
  ·exact P4 i (zc.mpr (Or.inl hi)) i q rfl
 ·have:=cK a;rw[zj] at this;omega
 ·rw[S5 i fun q=>P4 i hi i q rfl];exact lD i hi h8
 ·rcases zc.mp hg with q | q
  ·exact hH g q
  ·rcases zc.mp q with q | q
   ·rw[zi] at q;rw[q];exact⟨hx.1,Or.inl xP⟩
   ·refine⟨hZ g q,?_⟩;rcases P2 g (zc.mpr (Or.inr q)) with q | q
    ·exact Or.inl q
    ·exact Or.inr (hG g q).2
section RootP
variable {f1:FT1}
theorem QcK(hf1:Fx f1){S:MS}{z:Nat}{Ks:List Qd}(hz:z<64)(hK:∀u∈Ks,Qp u/\Qu u)(lK:Ks.length<=8)(L:QO S 16 7 (Ks.map Qh)):∃S',f1 (53,0,[V 0,I (O z)],[],S)=some (some (I 1),S')/\Qbd S S' [z]/\S' 1 z=S 1 z/\(∀i,S' 5 i=S 5 i)/\S' 3 z=O Ks.length/\∀i,i<(Ks.map Qh).length->S' 4 (8*z+i)=O ((Ks.map Qh).getD i 0):=by
 have slK:(Ks.map Qh).length=Ks.length:=zh _;obtain⟨D6,e6,F6,D63,D64⟩:=QeX hf1 hz (by rw[slK];exact lK) L (QbK hK);exact⟨D6,e6,QeV F6,F6 1 z (by decide) (by omega) (by omega),fun i=>F6 5 i (by decide) (by omega) (by omega),by rw[D63,slK],D64⟩
theorem Qd6(hf1:Fx f1)(S:MS){y:Nat}(hs:8<=y/\y<64):∃S',f1 (33,0,[V 0,I (O y)],[],S)=some (none,S')/\Qbd S S' [y]/\∀i,S' 5 i=S 5 i\/S' 5 i=0:=by
 obtain⟨D7,e7,F7,D75⟩:=Qfm hf1 S hs.1 hs.2;refine⟨D7,e7,fun c i g1 g2 g3=>F7 c i g1 (fun q=>g2 ⟨by omega,by simp[q.2]⟩) (fun q=>g3 ⟨q.1,by rw[zi];omega⟩),fun i=>?_⟩;by_cases q:i=y
 ·rw[q];exact Or.inr D75
 ·exact Or.inl (F7 5 i (by decide) (by omega) (by omega))
theorem Qei(hf1:Fx f1){A D:MS}{x z:Nat}{E:List Qd}{T1:Qd}(hx:x<64)(hE:∀u∈E,Qp u/\Qu u)(h1:Qp T1)(w1:Qu T1)(hz:Qh T1=z)(lE:E.length+1<=8)(LE:QO D 17 8 (E.map Qh)):∃D1 D2 S',f1 (51,0,[V 0],[],Ua D 0 7 0)=some (none,D1)/\f1 (50,0,[V 0,I (O z)],[],D1)=some (none,D2)/\f1 (53,0,[V 0,I (O x)],[],D2)=some (some (I 1),S')/\Qak D S' [x]/\S' 1 x=D 1 x/\(∀i,S' 5 i=D 5 i)/\S' 3 x=O (E++[T1]).length/\∀i,i<((E++[T1]).map Qh).length->S' 4 (8*x+i)=O (((E++[T1]).map Qh).getD i 0):=by
 have slE:(E.map Qh).length=E.length:=zh _;obtain⟨D1,e1,F1,L1⟩:=QjR hf1 (S:=Ua D 0 7 0) (q:=[]) (l:=E.map Qh) (by rw[slE];omega) (QbK hE) (by rw[slE];simp;omega) (QbD (by rw[Qi,za (by omega)]) (fun i=>by rw[Qi,za (by omega)]) LE) ⟨rfl,fun i hi=>absurd hi (by simp)⟩;rw[zJ] at L1;obtain⟨D2,e2,F2,L2⟩:=QcT hf1 (QaL h1 w1) (by rw[slE];omega) L1;rw[hz] at e2;have hT:∀u∈E++[T1],Qp u/\Qu u:=fun u hu=>by
  rcases zc.mp hu with q | q
  ·exact hE u q
  ·rw[zi] at q;rw[q];exact⟨h1,w1⟩
 obtain⟨S',e3,C3,k1,k5,k3,k4⟩:=QcK hf1 (S:=D2) (z:=x) (Ks:=E++[T1]) hx hT (by rw[zd];exact lE) (by rw[zA];exact L2);have f2:∀c i,c≠16->¬(c=0/\i=7)->D2 c i=D c i:=fun c i h1 h2=>by rw[F2 c i h1 h2,F1 c i h1 h2,Qi,za h2]
 refine⟨D1,D2,S',e1,e2,e3,QbN (Qhw f2) (Q8 C3),k1.trans (f2 1 x (by decide) (by omega)),fun i=>(k5 i).trans (f2 5 i (by decide) (by omega)),k3,k4⟩
theorem Qim(hf1:Fx f1){v:Int32}{R:List Qd}(h:(R=[]/\v = -1)\/∃r,R=[r]/\v=O (Qh r))(hR:∀u∈R,Qp u/\Qu u):¬v < -1/\R.length<=1:=by
 rcases h with⟨e',e⟩ | ⟨r,e',e⟩
 ·rw[e,e'];exact⟨by decide,by simp⟩
 ·have:=QaL (hR r (by rw[e'];simp)).1 (hR r (by rw[e'];simp)).2;refine⟨fun q=>?_,by rw[e'];simp⟩;rw[e,zY,Qac (by omega)] at q;have:(-1:Int32).toInt = -1:=rfl;omega
theorem Qfa(hf1:Fx f1){A:MS}{b:Nat->Bool}{x m:Nat}{K:List Qd}{o:Jvm.Binary}(k:Qay A b o x K m)(hm:m<54)(LF:QO A 18 9 ((Qa b 1 K).map Qh)):∃v R G B,f1 (48,0,[V 0,I 1],[],A)=some (some (I v),B)/\Qbd A B G/\(∀g∈G,8<=g/\g<64/\A 5 g=0/\B 5 g≠0)/\G.Nodup/\Qa3 B (m+2)/\(∀u∈R,Qp u/\Qu u/\QI B u)/\QB ((Qa b 1 K).map Qe)=R.map Qe/\R.flatMap Qf=(Qa b 1 K).flatMap Qf/\R.flatMap Qb=(Qa b 1 K).flatMap Qb++G/\((R=[]/\v = -1)\/∃r,R=[r]/\v=O (Qh r))/\(2<=(Qa b 1 K).length->¬v<0)/\(∀u∈K,Qp u/\Qu u/\QI B u)/\(∀i∈K.flatMap Qb++[x],8<=i->B 5 i≠0)/\¬v < -1/\R.length<=1:=by
 obtain⟨k1,k2,k3,k4,k5,k6,k7,k8,k9,k10⟩:=k;have in1:∀i∈(Qa b 1 K).flatMap Qb,i∈K.flatMap Qb++[x]:=fun i hi=>by
  obtain⟨u,hu,h⟩:=zx.mp hi;exact zc.mpr (Or.inl (zx.mpr ⟨u,(Qy.mp hu).1,h⟩))
 obtain⟨v,R,G,B,eB,CB,fB,nB,cB,mR,sR,lR,pR,hv,ne,v0⟩:=Qet hf1 (S:=A) (L:=Qa b 1 K) (m:=m) (Or.inr ⟨rfl,rfl,rfl,rfl⟩) (zN (zZ _ _) k3.2) (fun u hu=>⟨(k2 u (Qy.mp hu).1).1,(k2 u (Qy.mp hu).1).2.1,(k2 u (Qy.mp hu).1).2.2.1⟩) LF k10 (by omega) fun i hi=>k8 i (in1 i hi);have dB:∀i,i∈K.flatMap Qb++[x]->i∉G:=fun i hi q=>k8 i hi (fB i q).1 (fB i q).2.2.1;have n:=Qim hf1 hv fun u hu=>⟨(mR u hu).1,(mR u hu).2.1⟩;refine⟨v,R,G,B,eB,CB,fB,nB,Qar cB (by omega) (fun i=>Or.inl rfl),mR,sR,lR,pR,hv,fun h q=>?_,QbI (fun u hu=>⟨(k2 u hu).1,(k2 u hu).2.1,(k2 u hu).2.2.1⟩) (Q8 CB) fun i hi=>dB i (zc.mpr (Or.inl hi)),fun i hi h8=>by rw[(Qax (Q8 CB) (dB i hi)).2.2.1];exact k8 i hi h8,n.1,n.2⟩
 exact Int32.not_lt.mpr (v0 h) q
theorem Qef(hf1:Fx f1){A B D6 S':MS}{b:Nat->Bool}{x m:Nat}{K Ks1:List Qd}{y:Qd}{G Z2:List Nat}(k:Qay A b .iand x K m)(CB:Qbd A B G)(fB:∀g∈G,8<=g/\g<64/\A 5 g=0/\B 5 g≠0)(nG:G.Nodup)(cB:Qa3 B (m+2))(mE:∀u∈Qa b 0 K,Qp u/\Qu u/\QI B u)(lB:∀i∈K.flatMap Qb++[x],8<=i->B 5 i≠0)(hy:8<=Qh y/\Qh y<64)(mK:∀u∈Ks1,Qp u/\Qu u/\QI B u)(nK:2<=Ks1.length/\Ks1.length<=8)(nE:Qa b 0 K≠[])(cK:∀a,(Ks1.flatMap Qb++(Qa b 0 K).flatMap Qb++[Qh y]++[x]++Z2).count a=(K.flatMap Qb++[x]).count a+G.count a)(vK:∀a,((Qa b 0 K).flatMap Qf++Ks1.flatMap Qf).count a=(K.flatMap Qf).count a)(C6:Qak B D6 ([Qh y]++Z2))(hZ:∀z∈Z2,8<=z)(D1:D6 1 (Qh y)=2)(D3:D6 3 (Qh y)=O Ks1.length)(D4:∀i,i<(Ks1.map Qh).length->D6 4 (8*Qh y+i)=O ((Ks1.map Qh).getD i 0))(D5:∀i,i∉Z2->D6 5 i=B 5 i)(D5':∀i,D6 5 i=B 5 i\/D6 5 i=0)(D1x:D6 1 x=1):(Qp (.op2 .ior (.arg (Qh y)) (Qk Ks1))/\Qu (.op2 .ior (.arg (Qh y)) (Qk Ks1))/\(Qa b 0 K).length+1<=8)/\(Qak D6 S' [x]->S' 1 x=D6 1 x->(∀i,S' 5 i=D6 5 i)->S' 3 x=O (Qa b 0 K++[Jvm.Term.op2 .ior (.arg (Qh y)) (Qk Ks1)]).length->(∀i,i<((Qa b 0 K++[Jvm.Term.op2 .ior (.arg (Qh y)) (Qk Ks1)]).map Qh).length->S' 4 (8*x+i)=O (((Qa b 0 K++[Jvm.Term.op2 .ior (.arg (Qh y)) (Qk Ks1)]).map Qh).getD i 0))->Qah A S' x (K.flatMap Qb++[x]) (K.flatMap Qf) (m+2) (.op2 .iand (.arg x) (Qk (Qa b 0 K++[Jvm.Term.op2 .ior (.arg (Qh y)) (Qk Ks1)])))/\QZ A S' (K.flatMap Qb++[x])):=by
 obtain⟨k1,k2,k3,k4,k5,k6,k7,k8,k9,k10⟩:=k;have wT:Qu (.op2 .ior (.arg (Qh y)) (Qk Ks1)):=⟨hy,Or.inr rfl,by rw[QT];exact nK,Qbs _,Qdg fun u hu=>⟨(mK u hu).1,(mK u hu).2.1⟩⟩;have eT:Qb (.op2 .ior (.arg (Qh y)) (Qk Ks1))=Ks1.flatMap Qb++[Qh y]:=by show Qb (Qk Ks1)++_=_;rw[Qdi]
 have vT:Qf (.op2 .ior (.arg (Qh y)) (Qk Ks1))=Ks1.flatMap Qf:=Qa7 Ks1;have n8:(Qa b 0 K).length+1<=8:=by
  have h1:=Qbl (Qa b 0 K) fun u hu=>⟨(mE u hu).1,(mE u hu).2.1⟩;have h2:=Qbl Ks1 fun u hu=>⟨(mK u hu).1,(mK u hu).2.1⟩;have h3:=(zO.mpr vK).length_eq;rw[zd] at h3;omega
 refine⟨⟨trivial,wT,n8⟩,fun C h1 h5 h3 h4=>?_⟩;obtain⟨P1,P2⟩:=QbL (fun a=>Nat.le_of_eq (cK a)) k7 nG fun a ha hp=>k8 a hp (fB a ha).1 (fB a ha).2.2.1;have cnt:∀a∈Ks1.flatMap Qb++(Qa b 0 K).flatMap Qb,a∉[Qh y]++Z2:=fun a ha q=>by
  have h:=zS.mp P1 a;have h1:=zH.mpr ha;have h2:=zH.mpr q;simp only[zj] at h h1 h2;omega
 have xn:x∉[Qh y]++Z2:=fun q=>by
  have h:=zS.mp P1 x;have h2:=zH.mpr q;have h3:[x].count x=1:=by simp
  simp only[zj] at h h2;omega
 have yn:Qh y∉Z2:=fun q=>by
  have h:=zS.mp P1 (Qh y);have h2:=zH.mpr q;have h3:[Qh y].count (Qh y)=1:=by simp
  simp only[zj] at h;omega
 have mK6:=QbI mK C6 fun i hi=>cnt i (zc.mpr (Or.inl hi));have mE6:=QbI mE C6 fun i hi=>cnt i (zc.mpr (Or.inr hi));have rT:QI D6 (.op2 .ior (.arg (Qh y)) (Qk Ks1)):=⟨D1,by rw[QT];exact D3,by rw[QT];exact Qd2 D4,Qdq fun u hu=>(mK6 u hu).2.2⟩;have lv0:∀i∈Ks1.flatMap Qb++(Qa b 0 K).flatMap Qb++[Qh y]++[x],8<=i->B 5 i≠0:=fun i hi h8=>by
  rcases P2 i (zc.mpr (Or.inl hi)) with q | q
  ·exact lB i q h8
  ·exact (fB i q).2.2.2
 refine Qdj (D:=D6) (H:=G++([Qh y]++Z2)) (Z:=[]) (G:=G) k1 (Or.inl rfl) k7 (by simp) k8 nG (fun g hg=>⟨(fB g hg).1,(fB g hg).2.2.1⟩) (QbN (Q8 CB) C6) (fun h hh=>?_) (fun u hu=>?_) ⟨?_,by rw[zd];exact n8⟩ (fun a=>?_) (fun a=>?_) (by rw[zk];exact C) (fun z hz=>absurd hz (by simp)) (fun i _=>h5 i) (fun i hi h8=>?_) (h1.trans D1x) h3 h4 (Qar cB (zo _) fun i=>by rw[h5];exact D5' i)
 ·rcases zc.mp hh with q | q
  ·exact⟨(fB h q).1,Or.inr (fB h q).2.2.1⟩
  ·refine⟨?_,?_⟩
   ·rcases zc.mp q with q | q
    ·rw[zi] at q;rw[q];exact hy.1
    ·exact hZ h q
   ·have:h∈Ks1.flatMap Qb++(Qa b 0 K).flatMap Qb++[Qh y]++[x]++Z2:=by
     rcases zc.mp q with q | q
     ·exact zc.mpr (Or.inl (zc.mpr (Or.inl (zc.mpr (Or.inr q)))))
     ·exact zc.mpr (Or.inr q)
    rcases P2 h this with q | q
    ·exact Or.inl q
    ·exact Or.inr (fB h q).2.2.1
 ·rcases zc.mp hu with q | q
  ·exact mE6 u q
  ·rw[zi] at q;rw[q];exact⟨trivial,wT,rT⟩
 ·have:=zah.mpr nE;rw[zd,zav];omega
 ·have h:=cK a;rw[zn,zg,zr,eT,zk,zk];simp only[zj] at h ⊢;omega
 ·have h:=vK a;rw[zn,zg,zr,vT,zk];exact h
 ·rw[zn,zg,zr,eT,zk] at hi;have hi':i∈Ks1.flatMap Qb++(Qa b 0 K).flatMap Qb++[Qh y]++[x]:=by
   simp only[zc] at hi ⊢;rcases hi with (q | q | q) | q
   ·exact Or.inl (Or.inl (Or.inr q))
   ·exact Or.inl (Or.inl (Or.inl q))
   ·exact Or.inl (Or.inr q)
   ·exact Or.inr q
  rw[D5 i]
  ·exact lv0 i hi' h8
  ·intro q;have h:=zS.mp P1 i;have h1:=zH.mpr hi';have h2:=zH.mpr q;rw[zj] at h;omega
theorem QiY(hf1:Fx f1){A:MS}{b:Nat->Bool}{x m:Nat}{K:List Qd}(k:Qay A b .iand x K m)(hm:m<54)(LE:QO A 17 8 ((Qa b 0 K).map Qh))(LF:QO A 18 9 ((Qa b 1 K).map Qh))(hY:Qa b 2 K=[]):∃S' T,f1 (60,0,[V 0,I (O x)],[],A)=some (some (I 1),S')/\(Qah A S' x (K.flatMap Qb++[x]) (K.flatMap Qf) (m+2) T/\QZ A S' (K.flatMap Qb++[x]))/\(if (Qa b 0 K).length=0\/(Qa b 1 K).length<2 then some (.op2 .iand (.arg 0) (Qk (K.map Qe))) else some (.op2 .iand (.arg 0) (Qk ((Qa b 0 K).map Qe++QB ((Qa b 1 K).map Qe)))))=some (Qe T):=by
 have ln:∀v,(Qa b v K).length<=8:=fun v=>zN (zZ _ _) k.2.2.1.2;have ln0:=ln 0;have ln1:=ln 1;have E0:=LE.1;have E1:=LF.1;rw[zh] at E0 E1;have stay:∃S' T,some (some (Jvm.Value.int 1),A)=some (some (I 1),S')/\(Qah A S' x (K.flatMap Qb++[x]) (K.flatMap Qf) (m+2) T/\QZ A S' (K.flatMap Qb++[x]))/\some (.op2 .iand (.arg 0) (Qk (K.map Qe)))=some (Qe T):=by
  refine⟨A,_,rfl,Qez (S:=A) (S':=A) (Or.inl rfl) k (fun _ _ _ _ _ _ _=>rfl) (fun _ _ _=>rfl),?_⟩;show _=some (Jvm.Term.op2 .iand (.arg 0) (Qe (Qk K)));rw[Qa0]
 rw[Ecb hf1,E0,E1];by_cases qE:(Qa b 0 K).length=0
 ·rw[zb ((Qai (by omega)).mpr qE),zb (Or.inl qE)];exact stay
 rw[za (fun e=>qE ((Qai (by omega)).mp e))];by_cases qF:(Qa b 1 K).length<2
 ·rw[zb (show O _<2 from (Qq (b:=2) (by omega) (by omega)).mpr qF),zb (Or.inr qF)];exact stay
 rw[za (show ¬O (Qa b 1 K).length<2 from fun q=>absurd ((Qq (a:=(Qa b 1 K).length) (b:=2) (by omega) (by omega)).mp q) qF),za (by omega)];obtain⟨v,R,G,B,eB,CB,fB,nG,cB,mR,sR,lR,pR,hv,v0,mK,lB,-,-⟩:=Qfa hf1 k hm LF;have v0':=v0 (by omega);rw[eB];simp only[zz];rw[Ed2 hf1,za v0',Ea hf1];simp only[zz];rcases hv with⟨-,e⟩ | ⟨r,e,ev⟩
 ·exact absurd (by rw[e];decide) v0'
 subst e ev;obtain⟨k1,k2,k3,k4,k5,k6,k7,k8,k9,k10⟩:=k;have mE:∀u∈Qa b 0 K,Qp u/\Qu u/\QI B u:=fun u hu=>mK u (Qy.mp hu).1;have mr:=mR r (by simp);rw[zg,zr,zk] at lR pR;have cV:∀a,((Qa b 0 K++[r]).flatMap Qf).count a=(K.flatMap Qf).count a:=fun a=>by
  rw[Qbo b Qf a K,hY,zn,zg,zr,zk,lR,zj];show _=_+0+_;omega
 have tE:∀u∈Qa b 0 K++[r],Qp u/\Qu u/\QI B u:=fun u hu=>by
  rcases zc.mp hu with q | q
  ·exact mE u q
  ·exact mR u q
 have n8:(Qa b 0 K).length+1<=8:=by
  have h1:=Qbl (Qa b 0 K++[r]) fun u hu=>⟨(tE u hu).1,(tE u hu).2.1⟩;have h3:=(zO.mpr cV).length_eq;rw[zd,zav] at h1;omega
 obtain⟨D1,D2,S',e1,e2,e3,C,h1,h5,h3,h4⟩:=Qei hf1 (A:=A) (D:=B) (x:=x) (T1:=r) k1.2 (fun u hu=>⟨(mE u hu).1,(mE u hu).2.1⟩) mr.1 mr.2.1 rfl n8 (QbD (CB 0 8 (by decide) (by omega) (by omega)) (fun i=>CB 17 i (by decide) (by omega) (by omega)) LE);have cK:∀a,((Qa b 0 K++[r]).flatMap Qb++[x]++[]).count a<=(K.flatMap Qb++[x]).count a+G.count a:=fun a=>by
  rw[zk,zj,zj,Qbo b Qb a K,hY,zn,zg,zr,zk,pR,zj,zj];show _<=_+0+_+_+_;omega
 rw[EbW hf1,e1];simp only[zz];rw[Ee1 hf1,e2];simp only[zz];rw[Ee4 hf1,e3];simp only[zz];rw[Eda hf1];have P2:=(QbL cK k7 nG fun a ha hp=>k8 a hp (fB a ha).1 (fB a ha).2.2.1).2;have dx:x∉G:=fun q=>k8 x (by simp) k1.1 (fB x q).2.2.1;refine⟨S',.op2 .iand (.arg x) (Qk (Qa b 0 K++[r])),rfl,Qdj (D:=B) (H:=G) (Z:=[]) (G:=G) k1 (Or.inl rfl) k7 (by simp) k8 nG (fun g hg=>⟨(fB g hg).1,(fB g hg).2.2.1⟩) (Q8 CB) (fun h hh=>⟨(fB h hh).1,Or.inr (fB h hh).2.2.1⟩) tE ⟨?_,by rw[zd];exact n8⟩ cK cV (by rw[zk];exact C) (fun z hz=>absurd hz (by simp)) (fun i _=>h5 i) (fun i hi h8=>?_) (h1.trans ((CB 1 x (by decide) (fun q=>dx q.2) (by omega)).trans k4)) h3 h4 (Qar cB (zo _) fun i=>Or.inl (h5 i)),?_⟩
 ·rw[zd,zav];omega
 ·rcases P2 i (by rw[zk];exact hi) with q | q
  ·exact lB i q h8
  ·exact (fB i q).2.2.2
 ·show _=some (Jvm.Term.op2 .iand (.arg 0) (Qe (Qk (Qa b 0 K++[r]))));rw[Qa0,zA,<-sR]
end RootP
section RootP2
variable {f1:FT1}
theorem Qh5(hf1:Fx f1){A:MS}{b:Nat->Bool}{x m:Nat}{K:List Qd}{y:Qd}(k:Qay A b .iand x K m)(hm:m<54)(LE:QO A 17 8 ((Qa b 0 K).map Qh))(LF:QO A 18 9 ((Qa b 1 K).map Qh))(LY:QO A 19 10 ((Qa b 2 K).map Qh))(hY:Qa b 2 K=[y]):∃S' T,f1 (61,0,[V 0,I (O x)],[],A)=some (some (I 1),S')/\(Qah A S' x (K.flatMap Qb++[x]) (K.flatMap Qf) (m+2) T/\QZ A S' (K.flatMap Qb++[x]))/\(if (Qa b 0 K).length=0 then some (.op2 .ior (.arg 0) (Qk (Qn (Qe y)++QB ((Qa b 1 K).map Qe)))) else some (.op2 .iand (.arg 0) (Qk ((Qa b 0 K).map Qe++[Jvm.Term.op2 .ior (.arg 0) (Qk (Qn (Qe y)++QB ((Qa b 1 K).map Qe)))]))))=some (Qe T):=by
 have ln0:(Qa b 0 K).length<=8:=zN (zZ _ _) k.2.2.1.2;obtain⟨v,R,G,B,eB,CB,fB,nG,cB,mR,sR,lR,pR,hv,-,mK,lB,n1,nR⟩:=Qfa hf1 k hm LF;have ym:y∈Qa b 2 K:=by rw[hY];simp
 have yK:=(Qy.mp ym).1;have y2:=(Qy.mp ym).2;obtain⟨yT,yW,yR⟩:=mK y yK;obtain⟨q1,q2,q3,q4,q5,q6,q7⟩:=QaO yT yW y2;have e19:A 19 0=O (Qh y):=by rw[hY] at LY;exact LY.2 0 (by simp)
 have kx:=k;obtain⟨k1,k2,k3,k4,k5,k6,k7,k8,k9,k10⟩:=k;rw[Ee8 hf1,eB];simp only[zz];rw[e19,Efd hf1,za n1,Ea hf1];simp only[zz];obtain⟨D2,e2,F2,L2⟩:=QcS hf1 (S:=Ua B 0 7 0) (q:=[]) false yT yW y2 (Q6 (S:=B) (S':=Ua B 0 7 0) (fun i=>⟨rfl,rfl⟩) (fun i=>rfl) y yW yR) (by simp;omega) ⟨rfl,fun i hi=>absurd hi (by simp)⟩;have e2':f1 (52,0,[V 0,I (O (Qh y)),I 0],[],Ua B 0 7 0)=some (none,D2):=e2;have L2':QO D2 16 7 ((Qn y).map Qh):=by rw[zJ] at L2;exact L2
 obtain⟨D3,e3,F3,L3⟩:=QdL hf1 (fun u hu=>⟨(mR u hu).1,(mR u hu).2.1⟩) hv (by rw[zh];omega) L2';rw[<-zA] at L3;rw[Efl hf1,e2'];simp only[zz];rw[Ec1 hf1,e3];simp only[zz];have f3:∀c i,c≠16->¬(c=0/\i=7)->D3 c i=B c i:=fun c i h1 h2=>by rw[F3 c i h1 h2,F2 c i h1 h2,Qi,za h2]
 have rK:∀u∈Qn y++R,Qp u/\Qu u/\QI B u:=fun u hu=>by
  rcases zc.mp hu with q | q
  ·exact⟨(q3 u q).1,(q3 u q).2,(q7 B yR).1 u q⟩
  ·exact mR u q
 have tK:∀u∈Qn y++R,Qp u/\Qu u:=fun u hu=>⟨(rK u hu).1,(rK u hu).2.1⟩;have cP:∀a,(K.flatMap Qb).count a+G.count a=((Qn y++R).flatMap Qb).count a+((Qa b 0 K).flatMap Qb).count a+[Qh y].count a:=fun a=>by
  rw[Qbo b Qb a K,hY,zn,pR,zg,zr,zk,q4];simp only[zj];omega
 have cV:∀a,(K.flatMap Qf).count a=((Qn y++R).flatMap Qf).count a+((Qa b 0 K).flatMap Qf).count a:=fun a=>by
  rw[Qbo b Qf a K,hY,zn,lR,zg,zr,zk,q5];simp only[zj];omega
 have shK:(Qn y++R).map Qe=Qn (Qe y)++QB ((Qa b 1 K).map Qe):=by rw[zA,q6,sR]
 have nK2:2<=(Qn y++R).length:=by rw[zd];omega
 have nK8:(Qn y++R).length<=8:=by
  have h1:=Qbl _ tK;have h2:(K.flatMap Qf).Perm ((Qn y++R).flatMap Qf++(Qa b 0 K).flatMap Qf):=zO.mpr fun a=>by rw[zj];exact cV a
  have h3:=h2.length_eq;rw[zd] at h3;omega
 generalize hKs:Qn y++R=Ks at *;have E0:D3 0 8=O (Qa b 0 K).length:=by
  have:=LE.1;rw[zh] at this;rw[f3 0 8 (by decide) (by omega),CB 0 8 (by decide) (by omega) (by omega)];exact this
 have dx:x∉G:=fun q=>k8 x (by simp) k1.1 (fB x q).2.2.1;have B1x:B 1 x=1:=(CB 1 x (by decide) (fun q=>dx q.2) (by omega)).trans k4;rw[EeK hf1,E0];by_cases qE:(Qa b 0 K).length=0
 ·have hE:=QX.mp qE;rw[hE] at cP cV;rw[zb ((Qai (by omega)).mpr qE),zb (Qz (by omega) k1.2),QA (by omega),zb qE];obtain⟨D6,e6,C6,k61,k65,k63,k64⟩:=QcK hf1 (S:=Ua D3 1 x 2) (z:=x) (Ks:=Ks) k1.2 tK nK8 (QbD (by rw[Qi,za (by omega)]) (fun i=>by rw[Qi,za (by omega)]) L3);rw[e6];simp only[zz];obtain⟨D7,e7,C7,k75⟩:=Qd6 hf1 D6 q1;rw[EaU hf1,za (by decide),e7];simp only[zz];rw[EdY hf1];have cK:∀a,(Ks.flatMap Qb++[x]++[Qh y]).count a<=(K.flatMap Qb++[x]).count a+G.count a:=fun a=>by
   have h:=cP a;rw[zr,zaw] at h;simp only[zj] at h ⊢;omega
  obtain⟨P1,P2⟩:=QbL cK k7 nG fun a ha hp=>k8 a hp (fB a ha).1 (fB a ha).2.2.1;have xy:x∉[Qh y]:=fun q=>(zl.mp P1).2.2 x (by simp) x q rfl;have s7:=Qax (Q8 C7) xy;refine⟨D7,.op2 .ior (.arg x) (Qk Ks),rfl,Qdj (D:=B) (H:=G) (Z:=[Qh y]) (G:=G) k1 (Or.inr rfl) k7 (by simp) k8 nG (fun g hg=>⟨(fB g hg).1,(fB g hg).2.2.1⟩) (Q8 CB) (fun h hh=>⟨(fB h hh).1,Or.inr (fB h hh).2.2.1⟩) rK ⟨nK2,nK8⟩ cK (fun a=>?_) (fun c i h1 h2 h3 h4 h5=>?_) (fun z hz=>?_) (fun i hi=>?_) (fun i hi h8=>?_) ?_ ?_ (fun i hi=>?_) (Qar cB (zo _) fun i=>?_),?_⟩
  ·have h:=cV a;rw[zr,zaw] at h;omega
  ·rw[C7 c i h1 (fun q=>h4 ⟨q.1,zc.mpr (Or.inr q.2)⟩) (fun q=>h5 ⟨q.1,zc.mpr (Or.inr q.2)⟩),C6 c i h1 (fun q=>h4 ⟨q.1,zc.mpr (Or.inl q.2)⟩) (fun q=>h5 ⟨q.1,zc.mpr (Or.inl q.2)⟩),Qi,za (fun q=>h4 ⟨by omega,by simp[q.2]⟩)];exact f3 c i (by omega) (by omega)
  ·rw[zi] at hz;rw[hz];exact q1.1
  ·rw[(Qax (Q8 C7) hi).2.2.1,k65,Qi,za (by omega),f3 5 i (by decide) (by omega)]
  ·rcases P2 i (zc.mpr (Or.inl hi)) with q | q
   ·exact lB i q h8
   ·exact (fB i q).2.2.2
  ·rw[s7.1,k61,Qi,zb ⟨rfl,rfl⟩];rfl
  ·rw[s7.2.1,k63]
  ·rw[s7.2.2.2.2 i (by rw[zh] at hi;omega)];exact k64 i hi
  ·rcases k75 i with q | q
   ·exact Or.inl (by rw[q,k65,Qi,za (by omega),f3 5 i (by decide) (by omega)])
   ·exact Or.inr q
  ·show _=some (Jvm.Term.op2 .ior (.arg 0) (Qe (Qk Ks)));rw[Qa0,shK]
 ·rw[za (fun e=>qE ((Qai (by omega)).mp e)),zb (Qz (by omega) q1.2),QA (by omega),za qE];obtain⟨D6,e6,C6,k61,k65,k63,k64⟩:=QcK hf1 (S:=Ua D3 1 (Qh y) 2) (z:=Qh y) (Ks:=Ks) q1.2 tK nK8 (QbD (by rw[Qi,za (by omega)]) (fun i=>by rw[Qi,za (by omega)]) L3);rw[e6];simp only[zz];rw[EeI hf1,za (by decide),Ea hf1];simp only[zz];have cK:∀a,(Ks.flatMap Qb++(Qa b 0 K).flatMap Qb++[Qh y]++[x]++[]).count a=(K.flatMap Qb++[x]).count a+G.count a:=fun a=>by
   have h:=cP a;simp only[zj,zaw] at h ⊢;omega
  have P1:=(QbL (fun a=>Nat.le_of_eq (cK a)) k7 nG fun a ha hp=>k8 a hp (fB a ha).1 (fB a ha).2.2.1).1;rw[zk] at P1;have xy:x≠Qh y:=fun q=>(zl.mp P1).2.2 (Qh y) (by simp) x (by simp) q.symm;have C6':Qak B D6 ([Qh y]++[]):=fun c i h1 h2 h3 h4 h5=>by
   rw[zk] at h4 h5;rw[C6 c i h1 h4 h5,Qi,za (fun q=>h4 ⟨by omega,by simp[q.2]⟩)];exact f3 c i (by omega) (by omega)
  have Na:=Qef hf1 (S':=A) (y:=y) (Z2:=[]) kx CB fB nG cB (fun u hu=>mK u (Qy.mp hu).1) lB q1 rK ⟨nK2,nK8⟩ (fun e=>qE (by rw[e];rfl)) cK (fun a=>by rw[zj,cV a];omega) C6' (fun z hz=>absurd hz (by simp)) (by rw[k61,Qi,zb ⟨rfl,rfl⟩]) k63 k64 (fun i _=>by rw[k65,Qi,za (by omega),f3 5 i (by decide) (by omega)]) (fun i=>Or.inl (by rw[k65,Qi,za (by omega),f3 5 i (by decide) (by omega)])) (by rw[C6 1 x (by decide) (by simp[xy]) (by omega),Qi,za (by omega),f3 1 x (by decide) (by omega)];exact B1x);obtain⟨⟨nt,nw,n8⟩,-⟩:=Na;obtain⟨D8,D9,S',e8,e9,eS,C,h1,h5,h3,h4⟩:=Qei hf1 (A:=A) (D:=D6) (x:=x) k1.2 (fun u hu=>⟨(mK u (Qy.mp hu).1).1,(mK u (Qy.mp hu).1).2.1⟩) nt nw rfl n8 (QbD (by rw[C6 0 8 (by decide) (by omega) (by omega),Qi,za (by omega),f3 0 8 (by decide) (by omega),CB 0 8 (by decide) (by omega) (by omega)]) (fun i=>by rw[C6 17 i (by decide) (by omega) (by omega),Qi,za (by omega),f3 17 i (by decide) (by omega),CB 17 i (by decide) (by omega) (by omega)]) LE)
  have e9':f1 (50,0,[V 0,I (O (Qh y))],[],D8)=some (none,D9):=e9;rw[Eez hf1,e8];simp only[zz];rw[EcG hf1,e9'];simp only[zz];rw[Edp hf1,eS];simp only[zz];rw[Ecz hf1];refine⟨S',.op2 .iand (.arg x) (Qk (Qa b 0 K++[Jvm.Term.op2 .ior (.arg (Qh y)) (Qk Ks)])),rfl,(Qef hf1 (S':=S') (y:=y) (Z2:=[]) kx CB fB nG cB (fun u hu=>mK u (Qy.mp hu).1) lB q1 rK ⟨nK2,nK8⟩ (fun e=>qE (by rw[e];rfl)) cK (fun a=>by rw[zj,cV a];omega) C6' (fun z hz=>absurd hz (by simp)) (by rw[k61,Qi,zb ⟨rfl,rfl⟩]) k63 k64 (fun i _=>by rw[k65,Qi,za (by omega),f3 5 i (by decide) (by omega)]) (fun i=>Or.inl (by rw[k65,Qi,za (by omega),f3 5 i (by decide) (by omega)])) (by rw[C6 1 x (by decide) (by simp[xy]) (by omega),Qi,za (by omega),f3 1 x (by decide) (by omega)];exact B1x)).2 C h1 h5 h3 h4,?_⟩
  show _=some (Jvm.Term.op2 .iand (.arg 0) (Qe (Qk (Qa b 0 K++[Jvm.Term.op2 .ior (.arg (Qh y)) (Qk Ks)]))));rw[Qa0,zA];show _=some (Jvm.Term.op2 .iand (.arg 0) (Qk (_++[Jvm.Term.op2 .ior (.arg 0) (Qe (Qk Ks))])));rw[Qa0,shK]
theorem QiN(hf1:Fx f1){A:MS}{b:Nat->Bool}{x m:Nat}{K:List Qd}{y z:Qd}(k:Qay A b .iand x K m)(hm:m<54)(LE:QO A 17 8 ((Qa b 0 K).map Qh))(LF:QO A 18 9 ((Qa b 1 K).map Qh))(LY:QO A 19 10 ((Qa b 2 K).map Qh))(hY:Qa b 2 K=[y,z]):∃S' T,f1 (62,0,[V 0,I (O x)],[],A)=some (some (I 1),S')/\(Qah A S' x (K.flatMap Qb++[x]) (K.flatMap Qf) (m+2) T/\QZ A S' (K.flatMap Qb++[x]))/\(if (Qa b 0 K).length=0 then some (.op2 .ior (.arg 0) (Qk (Qn (Qe y)++QB ((Qa b 1 K).map Qe)++(Qn (Qe z)).reverse))) else some (.op2 .iand (.arg 0) (Qk ((Qa b 0 K).map Qe++[Jvm.Term.op2 .ior (.arg 0) (Qk (Qn (Qe y)++QB ((Qa b 1 K).map Qe)++(Qn (Qe z)).reverse))]))))=some (Qe T):=by
 have ln0:(Qa b 0 K).length<=8:=zN (zZ _ _) k.2.2.1.2;obtain⟨v,R,G,B,eB,CB,fB,nG,cB,mR,sR,lR,pR,hv,-,mK,lB,n1,nR⟩:=Qfa hf1 k hm LF;have ym:y∈Qa b 2 K:=by rw[hY];simp
 have yK:=(Qy.mp ym).1;have y2:=(Qy.mp ym).2;obtain⟨yT,yW,yR⟩:=mK y yK;obtain⟨q1,q2,q3,q4,q5,q6,q7⟩:=QaO yT yW y2;have zm:z∈Qa b 2 K:=by rw[hY];simp
 have zK:=(Qy.mp zm).1;have z2:=(Qy.mp zm).2;obtain⟨zT,zW,zR⟩:=mK z zK;obtain⟨r1,r2,r3,r4,r5,r6,r7⟩:=QaO zT zW z2;have e191:A 19 1=O (Qh z):=by rw[hY] at LY;exact LY.2 1 (by simp)
 have e19:A 19 0=O (Qh y):=by rw[hY] at LY;exact LY.2 0 (by simp)
 have kx:=k;obtain⟨k1,k2,k3,k4,k5,k6,k7,k8,k9,k10⟩:=k;rw[Ebo hf1,eB];simp only[zz];rw[e19,e191,Edk hf1,za n1,Ea hf1];simp only[zz];obtain⟨D2,e2,F2,L2⟩:=QcS hf1 (S:=Ua B 0 7 0) (q:=[]) false yT yW y2 (Q6 (S:=B) (S':=Ua B 0 7 0) (fun i=>⟨rfl,rfl⟩) (fun i=>rfl) y yW yR) (by simp;omega) ⟨rfl,fun i hi=>absurd hi (by simp)⟩;have e2':f1 (52,0,[V 0,I (O (Qh y)),I 0],[],Ua B 0 7 0)=some (none,D2):=e2;have L2':QO D2 16 7 ((Qn y).map Qh):=by rw[zJ] at L2;exact L2
 obtain⟨D3,e3,F3,L3⟩:=QdL hf1 (fun u hu=>⟨(mR u hu).1,(mR u hu).2.1⟩) hv (by rw[zh];omega) L2';rw[<-zA] at L3;rw[Ec5 hf1,e2'];simp only[zz];rw[Edn hf1,e3];simp only[zz];have f30:∀c i,c≠16->¬(c=0/\i=7)->D3 c i=B c i:=fun c i h1 h2=>by rw[F3 c i h1 h2,F2 c i h1 h2,Qi,za h2]
 have bnd:(Qn y).length+R.length+(Qn z).length<=8:=by
  have h1:=Qbl _ q3;have h2:=Qbl R fun u hu=>⟨(mR u hu).1,(mR u hu).2.1⟩;have h3:=Qbl _ r3;have hp:(K.flatMap Qf).Perm ((Qa b 0 K).flatMap Qf++((Qn y).flatMap Qf++(Qn z).flatMap Qf)++R.flatMap Qf):=zO.mpr fun a=>by
   rw[Qbo b Qf a K,hY,lR,zg,zg,zr,zk,q5,r5];simp only[zj]
  have:=hp.length_eq;simp only[zd] at this;omega
 obtain⟨D30,e30,F30,L30⟩:=QcS hf1 (S:=D3) true zT zW z2 (Q6 (S:=B) (S':=D3) (fun i=>⟨f30 1 i (by decide) (by omega),f30 3 i (by decide) (by omega)⟩) (fun i=>f30 4 i (by decide) (by omega)) z zW zR) (by rw[zh,zd];omega) L3;have e30':f1 (52,0,[V 0,I (O (Qh z)),I 1],[],D3)=some (none,D30):=e30;have L30':QO D30 16 7 ((Qn y++R++(Qn z).reverse).map Qh):=by rw[zA];exact L30
 rw[Eb9 hf1,e30'];simp only[zz];have f3:∀c i,c≠16->¬(c=0/\i=7)->D30 c i=B c i:=fun c i h1 h2=>by rw[F30 c i h1 h2,f30 c i h1 h2]
 have rvp:=(zy (Qn z)).flatMap_right Qb;have rvv:=(zy (Qn z)).flatMap_right Qf;have rK:∀u∈Qn y++R++(Qn z).reverse,Qp u/\Qu u/\QI B u:=fun u hu=>by
  rcases zc.mp hu with q | q
  ·rcases zc.mp q with q | q
   ·exact⟨(q3 u q).1,(q3 u q).2,(q7 B yR).1 u q⟩
   ·exact mR u q
  ·rw[zp] at q;exact⟨(r3 u q).1,(r3 u q).2,(r7 B zR).1 u q⟩
 have tK:∀u∈Qn y++R++(Qn z).reverse,Qp u/\Qu u:=fun u hu=>⟨(rK u hu).1,(rK u hu).2.1⟩;have cP:∀a,(K.flatMap Qb).count a+G.count a=((Qn y++R++(Qn z).reverse).flatMap Qb).count a+((Qa b 0 K).flatMap Qb).count a+[Qh y].count a+[Qh z].count a:=fun a=>by
  rw[Qbo b Qb a K,hY,zn,zn,pR,zg,zg,zr,zk,q4,r4];simp only[zj];rw[rvp.count_eq];omega
 have cV:∀a,(K.flatMap Qf).count a=((Qn y++R++(Qn z).reverse).flatMap Qf).count a+((Qa b 0 K).flatMap Qf).count a:=fun a=>by
  rw[Qbo b Qf a K,hY,zn,zn,lR,zg,zg,zr,zk,q5,r5];simp only[zj];rw[rvv.count_eq];omega
 have shK:(Qn y++R++(Qn z).reverse).map Qe=Qn (Qe y)++QB ((Qa b 1 K).map Qe)++(Qn (Qe z)).reverse:=by rw[zA,zA,zI,q6,r6,sR]
 have nK2:2<=(Qn y++R++(Qn z).reverse).length:=by rw[zd,zd];omega
 have nK8:(Qn y++R++(Qn z).reverse).length<=8:=by
  have h1:=Qbl _ tK;have h2:(K.flatMap Qf).Perm ((Qn y++R++(Qn z).reverse).flatMap Qf++(Qa b 0 K).flatMap Qf):=zO.mpr fun a=>by rw[zj];exact cV a
  have h3:=h2.length_eq;rw[zd] at h3;omega
 generalize hKs:Qn y++R++(Qn z).reverse=Ks at *;have E0:D30 0 8=O (Qa b 0 K).length:=by
  have:=LE.1;rw[zh] at this;rw[f3 0 8 (by decide) (by omega),CB 0 8 (by decide) (by omega) (by omega)];exact this
 have dx:x∉G:=fun q=>k8 x (by simp) k1.1 (fB x q).2.2.1;have B1x:B 1 x=1:=(CB 1 x (by decide) (fun q=>dx q.2) (by omega)).trans k4;rw[EdP hf1,E0];by_cases qE:(Qa b 0 K).length=0
 ·have hE:=QX.mp qE;rw[hE] at cP cV;rw[zb ((Qai (by omega)).mpr qE),zb (Qz (by omega) k1.2),QA (by omega),zb qE];obtain⟨D6,e6,C6,k61,k65,k63,k64⟩:=QcK hf1 (S:=Ua D30 1 x 2) (z:=x) (Ks:=Ks) k1.2 tK nK8 (QbD (by rw[Qi,za (by omega)]) (fun i=>by rw[Qi,za (by omega)]) L30');rw[e6];simp only[zz];obtain⟨D70,e70,C70,k705⟩:=Qd6 hf1 D6 q1;obtain⟨D7,e7,C71,k715⟩:=Qd6 hf1 D70 r1;have C7:=Qhq C70 C71;have k75:∀i,D7 5 i=D6 5 i\/D7 5 i=0:=fun i=>by
   rcases k715 i with q | q
   ·rw[q];exact k705 i
   ·exact Or.inr q
  rw[Eek hf1,za (by decide),e70];simp only[zz];rw[Efc hf1,e7];simp only[zz];rw[EcN hf1];have cK:∀a,(Ks.flatMap Qb++[x]++([Qh y]++[Qh z])).count a<=(K.flatMap Qb++[x]).count a+G.count a:=fun a=>by
   have h:=cP a;rw[zr,zaw] at h;simp only[zj] at h ⊢;omega
  obtain⟨P1,P2⟩:=QbL cK k7 nG fun a ha hp=>k8 a hp (fB a ha).1 (fB a ha).2.2.1;have xy:x∉[Qh y]++[Qh z]:=fun q=>(zl.mp P1).2.2 x (by simp) x q rfl;have s7:=Qax (Q8 C7) xy;refine⟨D7,.op2 .ior (.arg x) (Qk Ks),rfl,Qdj (D:=B) (H:=G) (Z:=[Qh y]++[Qh z]) (G:=G) k1 (Or.inr rfl) k7 (by simp) k8 nG (fun g hg=>⟨(fB g hg).1,(fB g hg).2.2.1⟩) (Q8 CB) (fun h hh=>⟨(fB h hh).1,Or.inr (fB h hh).2.2.1⟩) rK ⟨nK2,nK8⟩ cK (fun a=>?_) (fun c i h1 h2 h3 h4 h5=>?_) (fun z hz=>?_) (fun i hi=>?_) (fun i hi h8=>?_) ?_ ?_ (fun i hi=>?_) (Qar cB (zo _) fun i=>?_),?_⟩
  ·have h:=cV a;rw[zr,zaw] at h;omega
  ·rw[C7 c i h1 (fun q=>h4 ⟨q.1,zc.mpr (Or.inr q.2)⟩) (fun q=>h5 ⟨q.1,zc.mpr (Or.inr q.2)⟩),C6 c i h1 (fun q=>h4 ⟨q.1,zc.mpr (Or.inl q.2)⟩) (fun q=>h5 ⟨q.1,zc.mpr (Or.inl q.2)⟩),Qi,za (fun q=>h4 ⟨by omega,by simp[q.2]⟩)];exact f3 c i (by omega) (by omega)
  ·rcases zc.mp hz with hz | hz<;>rw[zi] at hz<;>rw[hz]
   ·exact q1.1
   ·exact r1.1
  ·rw[(Qax (Q8 C7) hi).2.2.1,k65,Qi,za (by omega),f3 5 i (by decide) (by omega)]
  ·rcases P2 i (zc.mpr (Or.inl hi)) with q | q
   ·exact lB i q h8
   ·exact (fB i q).2.2.2
  ·rw[s7.1,k61,Qi,zb ⟨rfl,rfl⟩];rfl
  ·rw[s7.2.1,k63]
  ·rw[s7.2.2.2.2 i (by rw[zh] at hi;omega)];exact k64 i hi
  ·rcases k75 i with q | q
   ·exact Or.inl (by rw[q,k65,Qi,za (by omega),f3 5 i (by decide) (by omega)])
   ·exact Or.inr q
  ·show _=some (Jvm.Term.op2 .ior (.arg 0) (Qe (Qk Ks)));rw[Qa0,shK]
 ·rw[za (fun e=>qE ((Qai (by omega)).mp e)),zb (Qz (by omega) q1.2),QA (by omega),za qE];obtain⟨D6,e6,C6,k61,k65,k63,k64⟩:=QcK hf1 (S:=Ua D30 1 (Qh y) 2) (z:=Qh y) (Ks:=Ks) q1.2 tK nK8 (QbD (by rw[Qi,za (by omega)]) (fun i=>by rw[Qi,za (by omega)]) L30');obtain⟨D7,e7,C7,k75⟩:=Qd6 hf1 D6 r1;rw[e6];simp only[zz];rw[Ec9 hf1,za (by decide),e7];simp only[zz];rw[Ebf hf1,Ea hf1];simp only[zz];have cK:∀a,(Ks.flatMap Qb++(Qa b 0 K).flatMap Qb++[Qh y]++[x]++[Qh z]).count a=(K.flatMap Qb++[x]).count a+G.count a:=fun a=>by
   have h:=cP a;simp only[zj,zaw] at h ⊢;omega
  have P1:=(QbL (fun a=>Nat.le_of_eq (cK a)) k7 nG fun a ha hp=>k8 a hp (fB a ha).1 (fB a ha).2.2.1).1;have P1z:=(zl.mp P1).2.2;have xz:x≠Qh z:=fun q=>P1z x (by simp) (Qh z) (by simp) q;have yz:Qh y∉[Qh z]:=fun q=>P1z (Qh y) (by simp) (Qh z) (by simp) (zi.mp q);have P1y:=(zl.mp P1).1;have xy:x≠Qh y:=fun q=>(zl.mp P1y).2.2 (Qh y) (by simp) x (by simp) q.symm;have s7:=Qax (Q8 C7) yz;have s7x:=Qax (Q8 C7) (show x∉[Qh z] by simp[xz]);have C6':Qak B D7 ([Qh y]++[Qh z]):=fun c i h1 h2 h3 h4 h5=>by
   rw[C7 c i h1 (fun q=>h4 ⟨q.1,zc.mpr (Or.inr q.2)⟩) (fun q=>h5 ⟨q.1,zc.mpr (Or.inr q.2)⟩),C6 c i h1 (fun q=>h4 ⟨q.1,zc.mpr (Or.inl q.2)⟩) (fun q=>h5 ⟨q.1,zc.mpr (Or.inl q.2)⟩),Qi,za (fun q=>h4 ⟨by omega,by simp[q.2]⟩)];exact f3 c i (by omega) (by omega)
  have Na:=Qef hf1 (S':=A) (y:=y) (Z2:=[Qh z]) kx CB fB nG cB (fun u hu=>mK u (Qy.mp hu).1) lB q1 rK ⟨nK2,nK8⟩ (fun e=>qE (by rw[e];rfl)) cK (fun a=>by rw[zj,cV a];omega) C6' (fun w hw=>by rw[zi] at hw;rw[hw];exact r1.1) (by rw[s7.1,k61,Qi,zb ⟨rfl,rfl⟩]) (s7.2.1.trans k63) (fun i hi=>by rw[s7.2.2.2.2 i (by rw[zh] at hi;omega)];exact k64 i hi) (fun i hi=>by rw[(Qax (Q8 C7) hi).2.2.1,k65,Qi,za (by omega),f3 5 i (by decide) (by omega)]) (fun i=>by rcases k75 i with q | q;exact Or.inl (by rw[q,k65,Qi,za (by omega),f3 5 i (by decide) (by omega)]);exact Or.inr q) (by rw[s7x.1,C6 1 x (by decide) (by simp[xy]) (by omega),Qi,za (by omega),f3 1 x (by decide) (by omega)];exact B1x)
  obtain⟨⟨nt,nw,n8⟩,-⟩:=Na;obtain⟨D8,D9,S',e8,e9,eS,C,h1,h5,h3,h4⟩:=Qei hf1 (A:=A) (D:=D7) (x:=x) k1.2 (fun u hu=>⟨(mK u (Qy.mp hu).1).1,(mK u (Qy.mp hu).1).2.1⟩) nt nw rfl n8 (QbD (by rw[C7 0 8 (by decide) (by omega) (by omega),C6 0 8 (by decide) (by omega) (by omega),Qi,za (by omega),f3 0 8 (by decide) (by omega),CB 0 8 (by decide) (by omega) (by omega)]) (fun i=>by rw[C7 17 i (by decide) (by omega) (by omega),C6 17 i (by decide) (by omega) (by omega),Qi,za (by omega),f3 17 i (by decide) (by omega),CB 17 i (by decide) (by omega) (by omega)]) LE);have e9':f1 (50,0,[V 0,I (O (Qh y))],[],D8)=some (none,D9):=e9
  rw[Efn hf1,e8];simp only[zz];rw[Ebw hf1,e9'];simp only[zz];rw[Efg hf1,eS];simp only[zz];rw[Eeu hf1];refine⟨S',.op2 .iand (.arg x) (Qk (Qa b 0 K++[Jvm.Term.op2 .ior (.arg (Qh y)) (Qk Ks)])),rfl,(Qef hf1 (S':=S') (y:=y) (Z2:=[Qh z]) kx CB fB nG cB (fun u hu=>mK u (Qy.mp hu).1) lB q1 rK ⟨nK2,nK8⟩ (fun e=>qE (by rw[e];rfl)) cK (fun a=>by rw[zj,cV a];omega) C6' (fun w hw=>by rw[zi] at hw;rw[hw];exact r1.1) (by rw[s7.1,k61,Qi,zb ⟨rfl,rfl⟩]) (s7.2.1.trans k63) (fun i hi=>by rw[s7.2.2.2.2 i (by rw[zh] at hi;omega)];exact k64 i hi) (fun i hi=>by rw[(Qax (Q8 C7) hi).2.2.1,k65,Qi,za (by omega),f3 5 i (by decide) (by omega)]) (fun i=>by rcases k75 i with q | q;exact Or.inl (by rw[q,k65,Qi,za (by omega),f3 5 i (by decide) (by omega)]);exact Or.inr q) (by rw[s7x.1,C6 1 x (by decide) (by simp[xy]) (by omega),Qi,za (by omega),f3 1 x (by decide) (by omega)];exact B1x)).2 C h1 h5 h3 h4,?_⟩
  show _=some (Jvm.Term.op2 .iand (.arg 0) (Qe (Qk (Qa b 0 K++[Jvm.Term.op2 .ior (.arg (Qh y)) (Qk Ks)]))));rw[Qa0,zA];show _=some (Jvm.Term.op2 .iand (.arg 0) (Qk (_++[Jvm.Term.op2 .ior (.arg 0) (Qe (Qk Ks))])));rw[Qa0,shK]
end RootP2
def QaK(b:Nat->Bool):List Qd->Nat
 |[]=>0
 |u::l=>if Qg b u=0 then QaK b l+1 else 0
def Qa4(b:Nat->Bool)(l:List Qd):Nat:=l.length-1-QaK b l.reverse
def Q0(b:Nat->Bool)(f la:Nat):Nat->List Qd->List Qd
 |_,[]=>[]
 |k,u::l=>(if Qg b u=2 then (if k=la/\k≠f then (Qn u).reverse else Qn u) else [u])++Q0 b f la (k+1) l
def QbP(b:Nat->Bool)(f la:Nat)(l:List Qd):Prop:=∀k,f<k->k<la->k<l.length->Qg b (l.getD k .null)=1
def Qcr(b:Nat->Bool)(f la:Nat)(l:List Qd):Bool:=(List.range l.length).all fun k=>decide (k<=f)||(decide (la<=k)||decide (Qg b (l.getD k .null)=1))
theorem QbY{b:Nat->Bool}{f la:Nat}{l:List Qd}:Qcr b f la l=true↔QbP b f la l:=by
 unfold Qcr QbP;simp only[zw,zC,zab,decide_eq_true_eq];constructor
 ·intro h k h1 h2 h3;rcases h k h3 with q | q | q
  ·omega
  ·omega
  ·exact q
 ·intro h k hk;by_cases h1:k<=f
  ·exact Or.inl h1
  ·by_cases h2:la<=k
   ·exact Or.inr (Or.inl h2)
   ·exact Or.inr (Or.inr (h k (by omega) (by omega) hk))
def Qas(b:Nat->Bool)(l:List Qd):Option Qd:=if Qcr b (QaK b l) (Qa4 b l) l=true then some (.op2 .ior (.arg 0) (Qk (Q0 b (QaK b l) (Qa4 b l) 0 l))) else none
theorem Qem(b:Nat->Bool):∀l:List Qd,(∀u∈l,Qu u)->QaK b (l.map Qe)=QaK b l
 |[],_=>rfl
 |u::l,h=>by
  show (if Qg b (Qe u)=0 then QaK b (l.map Qe)+1 else 0)=if Qg b u=0 then QaK b l+1 else 0;rw[QbW b u (h u (by simp)),Qem b l fun v hv=>h v (by simp[hv])]
theorem Qfg{b:Nat->Bool}:∀ {l:List Qd} {a:Nat},a<l.length->Qg b (l.getD a .null)≠0->(∀i,i<a->Qg b (l.getD i .null)=0)->QaK b l=a
 |[],_,h,_,_=>absurd h (by simp)
 |u::l,0,_,h,_=>by
  show (if Qg b u=0 then _ else 0)=0;rw[za];exact h
 |u::l,a+1,h,h1,h2=>by
  show (if Qg b u=0 then QaK b l+1 else 0)=a+1;rw[zb (show Qg b u=0 from h2 0 (by omega)),Qfg (l:=l) (a:=a) (by simp at h;omega) h1 fun i hi=>h2 (i+1) (by omega)]
theorem QfJ{l:List Qd}{i:Nat}(h:i<l.length):l.reverse.getD i .null=l.getD (l.length-1-i) .null:=by
 simp only[zf,List.getElem?_reverse h]
theorem Qh3{b:Nat->Bool}{l:List Qd}{a:Nat}(h:a<l.length)(h1:Qg b (l.getD a .null)≠0)(h2:∀i,a<i->i<l.length->Qg b (l.getD i .null)=0):Qa4 b l=a:=by
 unfold Qa4;rw[Qfg (l:=l.reverse) (a:=l.length-1-a) (by rw[zac];omega)]
 ·omega
 ·rw[QfJ (by omega),show l.length-1-(l.length-1-a)=a from by omega];exact h1
 ·intro i hi;rw[QfJ (by omega)];exact h2 _ (by omega) (by omega)
theorem Qjk(b:Nat->Bool)(l:List Qd)(h:∀u∈l,Qu u):Qa4 b (l.map Qe)=Qa4 b l:=by
 unfold Qa4;rw[zh,<-zI,Qem b l.reverse fun u hu=>h u (zp.mp hu)]
theorem Qf7{l:List Qd}{i:Nat}(h:i<l.length):(l.map Qe).getD i .null=Qe (l.getD i .null):=by
 simp only[zf,List.getElem?_map,List.getElem?_eq_getElem h];rfl
theorem Qgy(b:Nat->Bool)(f la:Nat)(l:List Qd)(h:∀u∈l,Qu u):QbP b f la (l.map Qe)↔QbP b f la l:=by
 unfold QbP;rw[zh];constructor<;>intro q k h1 h2 h3<;>have:=q k h1 h2 h3
 ·rw[Qf7 h3,QbW b _ (h _ (Qa2 h3))] at this;exact this
 ·rw[Qf7 h3,QbW b _ (h _ (Qa2 h3))];exact this
theorem Qcs(b:Nat->Bool)(f la:Nat):∀(l l':List Qd) (k:Nat),Q0 b f la k (l++l')=Q0 b f la k l++Q0 b f la (k+l.length) l'
 |[],l',k=>rfl
 |u::l,l',k=>by
  show _++Q0 b f la (k+1) (l++l')=(_++Q0 b f la (k+1) l)++_;rw[Qcs b f la l l' (k+1),zq,zs,show k+1+l.length=k+(l.length+1) from by omega]
theorem Qir(b:Nat->Bool)(f la:Nat)(l:List Qd){k:Nat}(hk:k<l.length):Q0 b f la 0 (l.take (k+1))=Q0 b f la 0 (l.take k)++(if Qg b (l.getD k .null)=2 then (if k=la/\k≠f then (Qn (l.getD k .null)).reverse else Qn (l.getD k .null)) else [l.getD k .null]):=by
 rw[zaq,List.getElem?_eq_getElem hk,Qcs,zf,List.getElem?_eq_getElem hk,zaH,Nat.min_eq_left (by omega),zL];show _++(_++[])=_;rw[zk];rfl
theorem Qht(b:Nat->Bool)(f la:Nat)(l:List Qd)(k:Nat):(Q0 b f la 0 (l.take k)).length<=(Q0 b f la 0 l).length:=by
 have h:=Qcs b f la (l.take k) (l.drop k) 0;rw[List.take_append_drop] at h;rw[h,zd];omega
theorem QgD{b:Nat->Bool}{f la:Nat}:∀ {l:List Qd} (k:Nat),(∀u∈l,Qp u/\Qu u)->(Q0 b f la k l).map Qe=Q0 b f la k (l.map Qe)/\(∀a,((Q0 b f la k l).flatMap Qb).count a<=(l.flatMap Qb).count a)/\(∀a,((Q0 b f la k l).flatMap Qf).count a=(l.flatMap Qf).count a)/\(∀u∈Q0 b f la k l,Qp u/\Qu u)/\l.length<=(Q0 b f la k l).length/\∀S,(∀u∈l,QI S u)->∀u∈Q0 b f la k l,QI S u
 |[],_,_=>⟨rfl,fun _=>zo _,fun _=>rfl,fun u hu=>absurd hu (by simp[Q0]),zo _,fun S _ u hu=>absurd hu (by simp[Q0])⟩
 |y::l,k,h=>by
  obtain⟨i1,i2,i3,i4,i5,i6⟩:=QgD (b:=b) (f:=f) (la:=la) (l:=l) (k+1) fun u hu=>h u (by simp[hu]);obtain⟨y1,y2⟩:=h y (by simp);have ex:∀v:Qd,∀l:List Qd,Q0 b f la k (v::l)=(if Qg b v=2 then (if k=la/\k≠f then (Qn v).reverse else Qn v) else [v])++Q0 b f la (k+1) l:=fun _ _=>rfl;rw[zE,ex,ex,QbW b y y2];by_cases e:Qg b y=2
  ·rw[zb e,zb e];obtain⟨k1,k2,k3,k4,k5,k6,k7⟩:=QaO y1 y2 e;have pr:(if k=la/\k≠f then (Qn y).reverse else Qn y).Perm (Qn y):=by
    split
    ·exact zy _
    ·exact List.Perm.refl _
   have ms:(if k=la/\k≠f then (Qn y).reverse else Qn y).map Qe=if k=la/\k≠f then (Qn (Qe y)).reverse else Qn (Qe y):=by
    rw[k6]
    split
    ·rw[zI]
    ·rfl
   rw[<-ms];generalize (if k=la/\k≠f then (Qn y).reverse else Qn y)=Q at pr;refine⟨by rw[zA,i1],fun a=>?_,fun a=>?_,fun u hu=>?_,?_,fun S hS u hu=>?_⟩
   ·have:=i2 a;rw[zn,zg,zj,zj,k4,zj,(pr.flatMap_right Qb).count_eq];omega
   ·have:=i3 a;rw[zn,zg,zj,zj,k5,(pr.flatMap_right Qf).count_eq];omega
   ·rcases zc.mp hu with hu | hu
    ·exact k3 u (pr.mem_iff.mp hu)
    ·exact i4 u hu
   ·rw[zs,zd,pr.length_eq];omega
   ·rcases zc.mp hu with hu | hu
    ·exact (k7 S (hS y (by simp))).1 u (pr.mem_iff.mp hu)
    ·exact i6 S (fun v hv=>hS v (by simp[hv])) u hu
  ·rw[za e,za e];refine⟨by rw[zA,i1];rfl,fun a=>?_,fun a=>?_,fun u hu=>?_,?_,fun S hS u hu=>?_⟩
   ·have:=i2 a;rw[zn,zg,zg,zr,zk,zj,zj];omega
   ·have:=i3 a;rw[zn,zg,zg,zr,zk,zj,zj];omega
   ·rcases zc.mp hu with hu | hu
    ·rw[zi] at hu;rw[hu];exact⟨y1,y2⟩
    ·exact i4 u hu
   ·rw[zs,zd,zav];omega
   ·rcases zc.mp hu with hu | hu
    ·rw[zi] at hu;rw[hu];exact hS y (by simp)
    ·exact i6 S (fun v hv=>hS v (by simp[hv])) u hu
theorem Qda{a c:Nat}(ha:a<100)(hc:c<100):O a=O c↔a=c:=⟨fun e=>by
 have:=congrArg Int32.toInt e;rw[Qac (by omega),Qac (by omega)] at this;omega,fun e=>by rw[e]⟩
section RootQ
variable {f1:FT1}
theorem Qit(hf1:Fx f1){S:MS}{b:Nat->Bool}{x m:Nat}{K:List Qd}(k:Qay S b .iand x K m)(hm:m<54):∃a S',f1 (59,0,[V 0,I (O x)],[],S)=some (some (I a),S')/\QZ S S' (K.flatMap Qb++[x])/\((a=0/\Qal b (K.map Qe)=none)\/(a=1/\∃T,Qah S S' x (K.flatMap Qb++[x]) (K.flatMap Qf) (m+2) T/\Qal b (K.map Qe)=some (Qe T))):=by
 obtain⟨A,eA,CA,kA,L0,L1,L2⟩:=Qep hf1 k;have hw:∀u∈K,Qu u:=fun u hu=>(k.2.1 u hu).2.1;have hk:=k.2.2.1;have h5:∀i,A 5 i=S 5 i:=fun i=>(Qax CA (by simp)).2.2.1;have ln2:(Qa b 2 K).length<=8:=zN (zZ _ _) hk.2;have E2:=L2.1;rw[zh] at E2;have tp:Qal b (K.map Qe)=QgX (K.map Qe) ((Qa b 0 K).map Qe) ((Qa b 1 K).map Qe) ((Qa b 2 K).map Qe):=by
  unfold Qal;rw[QbZ b 0 K hw,QbZ b 1 K hw,QbZ b 2 K hw]
 rw[tp,Eco hf1,eA];simp only[zz];have FA:QZ S A []:=Qce CA fun g hg=>absurd hg (by simp);have lift:∀S' T,Qah A S' x (K.flatMap Qb++[x]) (K.flatMap Qf) (m+2) T/\QZ A S' (K.flatMap Qb++[x])->QZ S S' (K.flatMap Qb++[x])/\Qah S S' x (K.flatMap Qb++[x]) (K.flatMap Qf) (m+2) T:=fun S' T h=>by
  obtain⟨⟨t1,t2,t3,t4,t5,t6,t7,t8,t9⟩,F⟩:=h;exact⟨QbF FA F (fun i hi=>absurd hi (by simp)) fun i hi _=>Or.inl hi,t1,t2,t3,t4,t5,fun i hi=>by rw[<-h5];exact t6 i hi,t7,t8,t9⟩
 rw[Ec2 hf1,E2]
 match hY:Qa b 2 K with
 |[]=>
  rw[zb (by decide),zb (by decide)];obtain⟨S',T,e,h,hT⟩:=QiY hf1 kA hm L0 L1 hY;rw[e];simp only[zz];rw[EeW hf1];obtain⟨F,TR⟩:=lift S' T h;refine⟨1,S',rfl,F,Or.inr ⟨rfl,T,TR,?_⟩⟩;show (if ((Qa b 0 K).map Qe).length=0\/((Qa b 1 K).map Qe).length<2 then _ else _)=_;rw[zh,zh];exact hT
 |[y]=>
  rw[zb (show O [y].length<3 by show (1:Int32)<3;decide),za (show ¬O [y].length=0 by show ¬(1:Int32)=0;decide),zb (show O [y].length=1 from rfl)];obtain⟨S',T,e,h,hT⟩:=Qh5 hf1 kA hm L0 L1 L2 hY;rw[e];simp only[zz];rw[Ec8 hf1];obtain⟨F,TR⟩:=lift S' T h;refine⟨1,S',rfl,F,Or.inr ⟨rfl,T,TR,?_⟩⟩;show (if ((Qa b 0 K).map Qe).length=0 then _ else _)=_;rw[zh];exact hT
 |[y,z]=>
  rw[zb (show O [y,z].length<3 by show (2:Int32)<3;decide),za (show ¬O [y,z].length=0 by show ¬(2:Int32)=0;decide),za (show ¬O [y,z].length=1 by show ¬(2:Int32)=1;decide)];obtain⟨S',T,e,h,hT⟩:=QiN hf1 kA hm L0 L1 L2 hY;rw[e];simp only[zz];rw[EdR hf1];obtain⟨F,TR⟩:=lift S' T h;refine⟨1,S',rfl,F,Or.inr ⟨rfl,T,TR,?_⟩⟩;show (if ((Qa b 0 K).map Qe).length=0 then _ else _)=_;rw[zh];exact hT
 |y::z::w::l=>
  rw[hY] at ln2;have h3:¬O (y::z::w::l).length<3:=fun q=>absurd ((Qq (b:=3) (by omega) (by omega)).mp q) (by simp);rw[za h3];exact⟨0,A,rfl,QbF FA (Qbq A []) (fun i hi=>absurd hi (by simp)) (fun i hi=>absurd hi (by simp)),Or.inl ⟨rfl,rfl⟩⟩
theorem Qi9(hf1:Fx f1){S:MS}{b:Nat->Bool}{x m:Nat}{K:List Qd}(k:Qay S b .ior x K m)(hne:∃u∈K,Qg b u≠0):∃a S',f1 (65,0,[V 0,I (O x)],[],S)=some (some (I a),S')/\QZ S S' (K.flatMap Qb++[x])/\((a=0/\Qas b (K.map Qe)=none)\/(a=1/\∃T,Qah S S' x (K.flatMap Qb++[x]) (K.flatMap Qf) (m+2) T/\Qas b (K.map Qe)=some (Qe T))):=by
 obtain⟨k1,k2,k3,k4,k5,k6,k7,k8,k9,k10⟩:=k;have hw:∀u∈K,Qu u:=fun u hu=>(k2 u hu).2.1;have htw:∀u∈K,Qp u/\Qu u:=fun u hu=>⟨(k2 u hu).1,(k2 u hu).2.1⟩;have hlen:(K.map Qh).length=K.length:=zh _;have lab:∀i,i<K.length->S 11 ((K.map Qh).getD i 0)=Qg b (K.getD i .null):=fun i hi=>by
  rw[show (K.map Qh).getD i 0=Qh (K.getD i .null) from by simp only[zf,List.getElem?_map,List.getElem?_eq_getElem hi];rfl,(k2 _ (Qa2 hi)).2.2.2]
 have hne':∃i,i<(K.map Qh).length/\S 11 ((K.map Qh).getD i 0)≠0:=by
  obtain⟨u,hu,h⟩:=hne;obtain⟨i,hi,e⟩:=List.getElem_of_mem hu;refine⟨i,by rw[hlen];exact hi,?_⟩;rw[lab i hi,zf,List.getElem?_eq_getElem hi];show Qg b K[i]≠0;rw[e];exact h
 obtain⟨f,hf,hf1',hf2,ef⟩:=Qjt hf1 k1.2 (by rw[hlen];exact k3.2) (QbK htw) (by rw[hlen];exact k5) (Qcn k6) hne';obtain⟨la,hl,hl1,hl2,el⟩:=QhD hf1 k1.2 (by rw[hlen];exact k3.2) (QbK htw) (by rw[hlen];exact k5) (Qcn k6) hne';rw[hlen] at hf hl;rw[lab f hf] at hf1';rw[lab la hl] at hl1;have Ef:QaK b K=f:=Qfg hf hf1' fun i hi=>by rw[<-lab i (by omega)];exact hf2 i hi
 have El:Qa4 b K=la:=Qh3 hl hl1 fun i h1 h2=>by rw[<-lab i h2];exact hl2 i h1 (by rw[hlen];exact h2)
 have tq:Qas b (K.map Qe)=if Qcr b f la K=true then some (.op2 .ior (.arg 0) (Qk (Q0 b f la 0 (K.map Qe)))) else none:=by
  unfold Qas;rw[Qem b K hw,Qjk b K hw,Ef,El];by_cases q:QbP b f la K
  ·rw[zb (QbY.mpr q),zb (QbY.mpr ((Qgy b f la K hw).mpr q))]
  ·rw[za (fun h=>q (QbY.mp h)),za (fun h=>q ((Qgy b f la K hw).mp (QbY.mp h)))]
 rw[tq,Efw hf1,ef];simp only[zz];rw[Ed8 hf1,el];simp only[zz];rw[EdC hf1,za (Qap (by omega)),Qx];have mid:∀n j,j+n=la->f<j->(∀i,f<i->i<j->Qg b (K.getD i .null)=1)->(QbP b f la K/\f1 (65,23,[V 0,I (O x),I (O f),I (O la),I (O j)],[],S)=f1 (65,23,[V 0,I (O x),I (O f),I (O la),I (O la)],[],S))\/(¬QbP b f la K/\f1 (65,23,[V 0,I (O x),I (O f),I (O la),I (O j)],[],S)=some (some (I 0),S)):=fun n=>by
  induction n with
  |zero=>
   intro j hj h1 h2;have:j=la:=by omega
   subst this;exact Or.inl ⟨fun i h3 h4 _=>h2 i h3 h4,rfl⟩
  |succ n ih=>
   intro j hj h1 h2;have hjK:j<K.length:=by omega
   have us:=QaL (htw _ (Qa2 hjK)).1 (htw _ (Qa2 hjK)).2;rw[Eo hf1,zb ((Qq (by omega) (by omega)).mpr (by omega)),zb (show O j<8 from (Qq (b:=8) (by omega) (by omega)).mpr (by omega)),Qaq hf1 S k1.2 (by omega),k6 j hjK];simp only[zz];rw[Ebz hf1,Qcx hf1 S us,(k2 _ (Qa2 hjK)).2.2.2];simp only[zz];rw[EbU hf1];by_cases q:Qg b (K.getD j .null)=1
   ·rw[zb q,Qx];exact ih (j+1) (by omega) (by omega) fun i h3 h4=>by
     by_cases e:i=j
     ·rw[e];exact q
     ·exact h2 i h3 (by omega)
   ·rw[za q];exact Or.inr ⟨fun h=>q (h j h1 (by omega) hjK),rfl⟩
 obtain⟨x1,x2,x3,x4,x5,x6⟩:=QgD (b:=b) (f:=f) (la:=la) (l:=K) 0 htw;have lKs:(Q0 b f la 0 K).length<=8:=by
  have h1:=Qbl _ x4;have h2:=(zO.mpr x3).length_eq;omega
 have fin:∀x4v:Int32,∃S',f1 (65,67,[V 0,I (O x),I (O f),I (O la),I x4v],[],Ua S 0 7 0)=some (some (I 1),S')/\Qah S S' x (K.flatMap Qb++[x]) (K.flatMap Qf) (m+2) (.op2 .ior (.arg x) (Qk (Q0 b f la 0 K)))/\QZ S S' (K.flatMap Qb++[x]):=fun x4v=>by
  rw[EbD hf1,QaS hf1 (S:=Ua S 0 7 0) k1.2 k5 k3.2];simp only[zz];rw[EdW hf1];have key:∀j,j<=K.length->∃B,f1 (65,77,[V 0,I (O x),I (O f),I (O la),I (O K.length),I 0],[],Ua S 0 7 0)=f1 (65,77,[V 0,I (O x),I (O f),I (O la),I (O K.length),I (O j)],[],B)/\(∀c i,c≠16->¬(c=0/\i=7)->B c i=S c i)/\QO B 16 7 ((Q0 b f la 0 (K.take j)).map Qh):=fun j=>by
   induction j with
   |zero=>exact fun _=>⟨_,rfl,fun c i _ h=>by rw[Qi,za h],⟨rfl,fun i hi=>absurd hi (by simp[Q0])⟩⟩
   |succ j ih=>
    intro hj;obtain⟨B,eB,FB,LB⟩:=ih (by omega);have hj':j<K.length:=hj;have hm:=Qa2 hj';have us:=QaL (htw _ hm).1 (htw _ hm).2;have ln:=Qht b f la K j;have lb':B 11 (Qh (K.getD j .null))=Qg b (K.getD j .null):=by rw[FB 11 _ (by decide) (by omega)];exact (k2 _ hm).2.2.2
    rw[eB,Eao hf1,zb ((Qq (by omega) (by omega)).mpr hj'),zb (show O j<8 from (Qq (b:=8) (by omega) (by omega)).mpr (by omega)),Qaq hf1 B k1.2 (by omega),FB 4 _ (by decide) (by omega),k6 j hj'];simp only[zz];rw[Eed hf1,Qcx hf1 B us,lb'];simp only[zz];rw[EcV hf1,Qir b f la K hj'];by_cases q:Qg b (K.getD j .null)=2
    ·have rB:QI B (K.getD j .null):=Q6 (fun i=>⟨FB 1 i (by decide) (by omega),FB 3 i (by decide) (by omega)⟩) (fun i=>FB 4 i (by decide) (by omega)) _ (htw _ hm).2 (k2 _ hm).2.2.1;have kl:=(QaO (htw _ hm).1 (htw _ hm).2 q).2.1.2;rw[zb q,zb q,zA];have push:∀(bk:Bool) (w:Int32),w=(if bk=true then 1 else 0)->∃D,((f1 (52,0,[V 0,I (O (Qh (K.getD j .null))),I w],[],B)).bind fun q=>f1 (65,141,[V 0,I (O x),I (O f),I (O la),I (O K.length),I (O j),I (O (Qh (K.getD j .null))),I (Qg b (K.getD j .null)),I w],q.1.toList++[],q.2))=f1 (65,77,[V 0,I (O x),I (O f),I (O la),I (O K.length),I (O (j+1))],[],D)/\(∀c i,c≠16->¬(c=0/\i=7)->D c i=S c i)/\QO D 16 7 ((Q0 b f la 0 (K.take j)).map Qh++(if bk=true then (Qn (K.getD j .null)).reverse else Qn (K.getD j .null)).map Qh):=fun bk w hw=>by
      obtain⟨D,eD,FD,LD⟩:=QcS hf1 bk (htw _ hm).1 (htw _ hm).2 q rB (by rw[zh];omega) LB;rw[<-hw] at eD;rw[eD];simp only[zz];rw[Eft hf1,Eay hf1,Qx];exact⟨D,rfl,fun c i h1 h2=>(FD c i h1 h2).trans (FB c i h1 h2),LD⟩
     by_cases q1:j=la
     ·rw[zb ((Qda (by omega) (by omega)).mpr q1)];by_cases q2:j=f
      ·rw[zb ((Qda (by omega) (by omega)).mpr q2),za (fun h=>h.2 q2)];exact push false 0 rfl
      ·rw[za (fun h=>q2 ((Qda (by omega) (by omega)).mp h)),zb ⟨q1,q2⟩];exact push true 1 rfl
     ·rw[za (fun h=>q1 ((Qda (by omega) (by omega)).mp h)),za (fun h=>q1 h.1)];exact push false 0 rfl
    ·obtain⟨D,eD,FD,LD⟩:=QcT hf1 us (by rw[zh];omega) LB;rw[za q,za q,eD];simp only[zz];rw[Eay hf1,Qx];refine⟨D,rfl,fun c i h1 h2=>(FD c i h1 h2).trans (FB c i h1 h2),?_⟩;rw[zA];exact LD
  obtain⟨B,eB,FB,LB⟩:=key _ (zo _);rw[List.take_length] at LB;obtain⟨D6,e6,C6,k61,k65,k63,k64⟩:=QcK hf1 k1.2 x4 lKs LB;rw[eB,Eao hf1,za zv,e6];simp only[zz];rw[Efq hf1];refine⟨D6,rfl,Qdj (D:=S) (H:=[]) (Z:=[]) (G:=[]) k1 (Or.inr rfl) k7 (by simp) k8 zaF (fun g hg=>absurd hg (by simp)) (fun _ _ _ _ _ _ _=>rfl) (fun h hh=>absurd hh (by simp)) (fun u hu=>⟨(x4 u hu).1,(x4 u hu).2,x6 S (fun v hv=>(k2 v hv).2.2.1) u hu⟩) ⟨by omega,lKs⟩ (fun a=>?_) x3 (fun c i h1 h2 h3 h4 h5=>?_) (fun z hz=>absurd hz (by simp)) (fun i _=>(k65 i).trans (FB 5 i (by decide) (by omega))) (fun i hi h8=>?_) ((k61.trans (FB 1 x (by decide) (by omega))).trans k4) k63 k64 (Qar k10 (by omega) fun i=>Or.inl ((k65 i).trans (FB 5 i (by decide) (by omega))))⟩
  ·have h:=x2 a;rw[zk,zaw];simp only[zj] at h ⊢;omega
  ·rw[zk] at h4 h5;rw[C6 c i h1 h4 h5];exact FB c i (by omega) (by omega)
  ·refine k8 i ?_ h8;have h:=x2 i;have h1:=zH.mpr hi;refine zH.mp ?_;simp only[zj] at h h1 ⊢;omega
 have mid':(QbP b f la K/\∃w,f1 (65,23,[V 0,I (O x),I (O f),I (O la),I (O (f+1))],[],S)=f1 (65,67,[V 0,I (O x),I (O f),I (O la),I w],[],Ua S 0 7 0))\/(¬QbP b f la K/\f1 (65,23,[V 0,I (O x),I (O f),I (O la),I (O (f+1))],[],S)=some (some (I 0),S)):=by
  by_cases q:f+1<=la
  ·rcases mid (la-(f+1)) (f+1) (by omega) (by omega) (fun i h1 h2=>by omega) with⟨h,e⟩ | h
   ·refine Or.inl ⟨h,O la,?_⟩;rw[e,Eo hf1,za zv,Ea hf1];simp only[zz]
   ·exact Or.inr h
  ·refine Or.inl ⟨fun i h1 h2 _=>by omega,O (f+1),?_⟩;rw[Eo hf1,za (by rw[Qq (by omega) (by omega)];omega),Ea hf1];simp only[zz]
 rcases mid' with⟨h,w,e⟩ | ⟨h,e⟩
 ·obtain⟨S',e',TR,FR⟩:=fin w;rw[e,e',zb (QbY.mpr h)];refine⟨1,S',rfl,FR,Or.inr ⟨rfl,_,TR,?_⟩⟩;show _=some (Jvm.Term.op2 .ior (.arg 0) (Qe (Qk (Q0 b f la 0 K))));rw[Qa0,x1]
 ·rw[e,za (fun q=>h (QbY.mp q))];exact⟨0,S,rfl,Qbq S _,Or.inl ⟨rfl,rfl⟩⟩
theorem QiU(hf1:Fx f1){S:MS}{b:Nat->Bool}{o:Jvm.Binary}{x m:Nat}{K:List Qd}(ho:o = .iand\/o = .ior)(k:Qay S b o x K m)(hm:m<54)(hne:∃u∈K,Qg b u≠0):∃a S',f1 (46,0,[V 0,I (O x)],[],S)=some (some (I a),S')/\QZ S S' (K.flatMap Qb++[x])/\((a=0/\(if o = .iand then Qal b (K.map Qe) else Qas b (K.map Qe))=none)\/(a=1/\∃T,Qah S S' x (K.flatMap Qb++[x]) (K.flatMap Qf) (m+2) T/\(if o = .iand then Qal b (K.map Qe) else Qas b (K.map Qe))=some (Qe T))):=by
 have hx:=k.1;have k4:=k.2.2.2.1;have k1:S 1 x≠0:=by rw[k4];exact QbU
 rw[EP hf1,Qb8 hf1 S hx.2,za k1];simp only[zz];rw[EY hf1,za (by decide),zb (Qz (by omega) hx.2),QA (by omega),k4];rcases ho with e | e
 ·subst e;obtain⟨a,S',e,F,h⟩:=Qit hf1 k hm;rw[zb (by decide),e];simp only[zz];rw[Edf hf1];have ha:a&&&1=a:=by rcases h with⟨h,-⟩ | ⟨h,-⟩<;>rw[h]<;>decide
  rw[ha];refine⟨a,S',rfl,F,?_⟩;rw[zb trivial];exact h
 ·subst e;obtain⟨a,S',e,F,h⟩:=Qi9 hf1 k hne;rw[za (by decide),e];simp only[zz];rw[EdO hf1];have ha:a&&&1=a:=by rcases h with⟨h,-⟩ | ⟨h,-⟩<;>rw[h]<;>decide
  rw[ha];refine⟨a,S',rfl,F,?_⟩;rw[za (by decide)];exact h
end RootQ
def Qj(s:Int32)(c:Nat):Bool:=s.toBitVec.getLsbD c
theorem QfM{c:Nat}(h:c<32):(O c&&&31)=O c:=by
 rw[<-zaC,Int32.toBitVec_and];apply BitVec.eq_of_toNat_eq;rw[BitVec.toNat_and];show (BitVec.ofNat 32 c).toNat&&&31=(BitVec.ofNat 32 c).toNat;rw[zaR,zaI (by omega),show 31=2 ^ 5-1 from rfl,Nat.and_two_pow_sub_one_eq_mod,zaI (by omega)]
theorem QfU{c:Nat}(h:c<32):((O c).toBitVec.smod 32).toNat=c:=by
 have:(O c).toBitVec=BitVec.ofNat 32 c:=rfl;rw[this];have e:∀c:Fin 32,((BitVec.ofNat 32 c.val).smod 32).toNat=c.val:=by decide
 exact e ⟨c,h⟩
theorem Qdk{c:Nat}(h:c<32)(i:Nat):((1:Int32)<<<(O c&&&31)).toBitVec.getLsbD i=decide (i=c):=by
 rw[QfM h,Int32.toBitVec_shiftLeft,BitVec.shiftLeft_eq',QfU h,BitVec.getLsbD_shiftLeft];show (decide (i<32) && !decide (i<c)&&(1#32).getLsbD (i-c))=_;rw[BitVec.getLsbD_one];by_cases e:i=c
 ·subst e;simp[h]
 ·rw[zu e];by_cases q:i<c
  ·simp[q]
  ·have:¬i-c=0:=by omega
   simp[this]
theorem Qdb(s:Int32){c:Nat}(h:c<32):((s>>>(O c&&&31))&&&1=1)↔Qj s c=true:=by
 have e:((s>>>(O c&&&31))&&&1).toBitVec=if Qj s c=true then 1#32 else 0#32:=by
  apply zaM;intro i hi;rw[Int32.toBitVec_and,BitVec.getLsbD_and,QfM h,Int32.toBitVec_shiftRight,BitVec.sshiftRight_eq',QfU h,BitVec.getLsbD_sshiftRight];show ((!decide (32<=i)&&if c+i<32 then s.toBitVec.getLsbD (c+i) else s.toBitVec.msb)&&(1#32).getLsbD i)=_;rw[BitVec.getLsbD_one];by_cases i0:i=0
  ·subst i0;unfold Qj;by_cases q:s.toBitVec.getLsbD c=true
   ·rw[zb q,zb (show c+0<32 by omega),zaY,q];decide
   ·rw[za q,zb (show c+0<32 by omega),zaY];rw[zV] at q;rw[q];decide
  ·rw[show decide (i=0)=false from zu i0,zau,zau]
   split
   ·rw[BitVec.getLsbD_one,zu i0,zau]
   ·exact zam.symm
 rw[<-zaC,e];by_cases q:Qj s c=true
 ·rw[zb q];exact⟨fun _=>q,fun _=>rfl⟩
 ·rw[za q];exact⟨fun h=>absurd h (by decide),fun h=>absurd h q⟩
theorem QcV(v:Int32):v=0↔∀c,Qj v c=false:=by
 rw[<-zaC];constructor
 ·intro h c;unfold Qj;rw[h];exact zam
 ·intro h;apply zaM;intro i _;exact (h i).trans zam.symm
theorem Qcl(v w:Int32)(c:Nat):Qj (v&&&w) c=(Qj v c&&Qj w c):=by
 unfold Qj;rw[Int32.toBitVec_and,BitVec.getLsbD_and]
theorem Qe0(v w:Int32)(c:Nat):Qj (v|||w) c=(Qj v c||Qj w c):=by
 unfold Qj;rw[Int32.toBitVec_or,BitVec.getLsbD_or]
theorem Qfx{v w:Int32}(h:∀c,Qj v c=Qj w c):v=w:=by
 rw[<-zaC];apply zaM;exact fun i _=>h i
theorem QiQ(s:Int32)(c:Nat)(hc:c<8):(1<<<(O c&&&31))&&&s=0↔Qj s c=false:=by
 rw[QcV];constructor
 ·intro h;have:=h c;rw[Qcl,show Qj ((1:Int32)<<<(O c&&&31)) c=true from (Qdk (by omega) c).trans (by simp),zaP] at this;exact this
 ·intro h i;rw[Qcl,show Qj ((1:Int32)<<<(O c&&&31)) i=decide (i=c) from Qdk (by omega) i];by_cases e:i=c
  ·rw[e,h,zau]
  ·rw[zu e,Bool.false_and]
theorem Qfo:∀t,Qu t->∀c,Qj (Q5 t) c=decide (c∈Qf t):=Q3
 (fun a ha c=>by
  show Qj ((1:Int32)<<<(O a&&&31)) c=_;rw[show Qj ((1:Int32)<<<(O a&&&31)) c=decide (c=a) from Qdk (by omega) c];simp only[Qf,zi])
 (fun o x f w ih=>ih)
 (fun t f w iht ihf c=>by
  show Qj (Q5 t|||Q5 f) c=decide (c∈Qf t++Qf f);rw[Qe0,iht c,ihf c,<-Bool.decide_or];simp only[zc])
 (fun c=>by show Qj 0 c=_;rw[(QcV 0).mp rfl c];simp[Qf])
def Qs(b:Nat->Bool)(t:Qd):Bool:=(List.range 32).all fun c => !b c||(Qf t).contains c
theorem Qab{b:Nat->Bool}{t:Qd}:Qs b t=true↔∀c,c<32->b c=true->c∈Qf t:=by
 unfold Qs;simp only[zw,zC,zab,zaz,List.contains_iff_mem];constructor
 ·intro h c hc hb;rcases h c hc with q | q
  ·rw[hb] at q;exact absurd q (by decide)
  ·exact q
 ·intro h c hc;cases e:b c
  ·exact Or.inl rfl
  ·exact Or.inr (h c hc e)
theorem Qcd(s:Int32){c:Nat}(h:Qj s c=true):c<32:=Classical.byContradiction fun q=>by
 unfold Qj at h;rw[BitVec.getLsbD_of_ge _ _ (by omega)] at h;exact absurd h (by decide)
theorem Qdy(s:Int32)(t:Qd)(w:Qu t):Q5 t&&&s=s↔Qs (Qj s) t=true:=by
 rw[Qab];constructor
 ·intro h c hc hb;have:=congrArg (fun v=>Qj v c) h;simp only[Qcl,hb,zae] at this;rw[Qfo t w c] at this;exact zai this
 ·intro h;refine Qfx fun c=>?_;rw[Qcl,Qfo t w c];by_cases e:Qj s c=true
  ·rw[e,zae];exact zB (h c (Qcd s e) e)
  ·rw[zV] at e;rw[e,zau]
theorem QfI(b:Nat->Bool)(t:Qd)(w:Qu t):Qs b (Qe t)=Qs b t:=by unfold Qs;rw[Qf0 t w]
theorem Qh1{b:Nat->Bool}{t u:Qd}(h:∀c∈Qf u,c∈Qf t)(a:Qs b u=true):Qs b t=true:=Qab.mpr fun c hc hb=>h c (Qab.mp a c hc hb)
def QaD(b:Nat->Bool):Qd->Nat
 | .arg _=>0
 | .op2 _ (.arg _) f=>if (Qc f).any (Qs b)=true then QaD b f else (Qb f).length
 | .add t f=>if Qs b t=true then QaD b t else (Qb t).length+QaD b f
 |_=>0
def QL(b:Nat->Bool):Qd->Option Qd
 | .arg c=>some (.arg c)
 | .op2 o (.arg _) f=>if (Qc f).any (Qs b)=true then (QL b f).bind fun f'=>some (.op2 o (.arg 0) f') else (QJ b f).bind fun f'=>if o = .iand then Qal b (Qc f') else Qas b (Qc f')
 | .add t f=>if Qs b t=true then (QL b t).bind fun t'=>some (.add t' (Qe f)) else (QL b f).bind fun f'=>some (.add (Qe t) f')
 |_=>some .null
theorem Qeh:∀t,Qu t->Qe (Qe t)=Qe t:=Q3
 (fun c _=>rfl) (fun o x f _ ih=>by show Jvm.Term.op2 o (.arg 0) (Qe (Qe f)) = .op2 o (.arg 0) (Qe f);rw[ih]) (fun t f _ iht ihf=>by show Jvm.Term.add (Qe (Qe t)) (Qe (Qe f)) = .add (Qe t) (Qe f);rw[iht,ihf]) rfl
theorem QhX(b:Nat->Bool):∀t,Qu t->QJ b (Qe t)=QJ b t:=Q3
 (fun c _=>rfl)
 (fun o x f w ih=>by
  show (if Qg b (.op2 o (.arg 0) (Qe f))=0 then some (Jvm.Term.op2 o (.arg 0) (Qe (Qe f))) else (QJ b (Qe f)).bind _)=if Qg b (.op2 o (.arg x) f)=0 then _ else (QJ b f).bind _;rw[ih,Qeh f w.2.2.2.2,show Qg b (.op2 o (.arg 0) (Qe f))=Qg b (.op2 o (.arg x) f) from QbW b (.op2 o (.arg x) f) w])
 (fun t f w iht ihf=>by
  show (QJ b (Qe t)).bind (fun t'=>(QJ b (Qe f)).bind _)=(QJ b t).bind fun t'=>(QJ b f).bind _;rw[iht,ihf]) rfl
theorem QiJ(b:Nat->Bool)(f:Qd)(w:Qu f)(hF:QM f):(Qc (Qe f)).any (Qs b)=(Qc f).any (Qs b):=by
 rw[Qcm f w hF,List.any_map];have:∀l:List Qd,(∀u∈l,Qu u)->l.any (Qs b ∘ Qe)=l.any (Qs b):=fun l=>by
  induction l with
  |nil=>exact fun _=>rfl
  |cons u l ih=>
   intro h;rw[List.any_cons,List.any_cons,ih fun v hv=>h v (by simp[hv])];show (Qs b (Qe u)||_)=_;rw[QfI b u (h u (by simp))]
 exact this _ fun u hu=>(QaR w u hu).2
theorem Qjb(b:Nat->Bool):∀t,Qu t->QL b (Qe t)=QL b t:=Q3
 (fun c _=>rfl)
 (fun o x f w ih=>by
  show (if (Qc (Qe f)).any (Qs b)=true then (QL b (Qe f)).bind _ else (QJ b (Qe f)).bind _)=if (Qc f).any (Qs b)=true then (QL b f).bind _ else (QJ b f).bind _;rw[ih,QhX b f w.2.2.2.2,QiJ b f w.2.2.2.2 w.2.2.2.1])
 (fun t f w iht ihf=>by
  show (if Qs b (Qe t)=true then (QL b (Qe t)).bind (fun t'=>some (Jvm.Term.add t' (Qe (Qe f)))) else (QL b (Qe f)).bind fun f'=>some (Jvm.Term.add (Qe (Qe t)) f'))=if Qs b t=true then (QL b t).bind _ else (QL b f).bind _;rw[iht,ihf,QfI b t w.2.2.1,Qeh f w.2.2.2,Qeh t w.2.2.1]) rfl
theorem Qg3{f:Qd}(w:Qu f)(hF:QM f):∀u∈Qc f,∀c∈Qf u,c∈Qf f:=fun u hu c hc=>by
 rw[<-Qby Qf (fun _ _=>rfl) rfl f w hF];exact zx.mpr ⟨u,hu,hc⟩
section Pert
variable {f1:FT1}
theorem Qgm(hf1:Fx f1){S:MS}{s:Int32}{p x tot:Nat}(hp:p<tot)(h64:tot<=64)(h6:S 0 6=O tot)(hx:x<64)(h13:S 13 p=O x):f1 (44,2,[V 0,I s,I (O p)],[],S)=if (S 12 x&&&s)=s then some (some (I (O p)),S) else f1 (44,2,[V 0,I s,I (O (p+1))],[],S):=by
 rw[Ecj hf1,h6,zb ((Qq (by omega) (by omega)).mpr hp),zb (show O p<64 from (Qq (b:=64) (by omega) (by omega)).mpr (by omega)),zb (Qz (by omega) (by omega)),QA (by omega),h13,Qav hf1 S hx];simp only[zz];rw[EeG hf1,za (by decide),zb (Qz (by omega) hx),QA (by omega),Qx]
theorem Qjp(hf1:Fx f1){S:MS}{s:Int32}{tot:Nat}:∀t,Qu t->∀p,QaF S p (Qb t) tot->QaI (fun u=>S 12 (Qh u)=Q5 u) t->((Qp t->Qs (Qj s) t=true)/\(QM t->(Qc t).any (Qs (Qj s))=true)->f1 (44,2,[V 0,I s,I (O p)],[],S)=some (some (I (O (p+QaD (Qj s) t))),S)/\QaD (Qj s) t<(Qb t).length)/\((Qp t->Qs (Qj s) t=false)/\(QM t->(Qc t).any (Qs (Qj s))=false)->f1 (44,2,[V 0,I s,I (O p)],[],S)=f1 (44,2,[V 0,I s,I (O (p+(Qb t).length))],[],S)):=by
 refine Q3 (fun c hc p g a=>?_) (fun o x f w ih p g a=>?_) (fun t f w iht ihf p g a=>?_) (fun p g a=>?_)
 ·have e13:S 13 p=O c:=g.2.2.2 0 (by simp[Qb]);have hp:p+1<=tot:=g.2.1;have e12:S 12 c=Q5 (.arg c):=a;have wc:Qu (.arg c):=hc;rw[Qgm hf1 (by omega) g.2.2.1 g.1 (by omega) e13,e12];refine⟨fun h=>⟨?_,by simp[QaD,Qb]⟩,fun h=>?_⟩
  ·rw[zb ((Qdy s _ wc).mpr (h.1 trivial))];rfl
  ·rw[za (fun q=>by rw[(Qdy s _ wc).mp q] at h;exact absurd (h.1 trivial) (by decide))];rfl
 ·have ep:Qb (.op2 o (.arg x) f)=Qb f++[x]:=rfl;have w':=w;obtain⟨⟨w1,w2⟩,w3,⟨w4,w5⟩,w6,w7⟩:=w;rw[ep] at g;have i:=ih p (QaQ g) a.2;have g':=QaV g;have hp:p+(Qb f).length+1<=tot:=g'.2.1;have e13:S 13 (p+(Qb f).length)=O x:=g'.2.2.2 0 (by simp);have e12:S 12 x=Q5 (.op2 o (.arg x) f):=a.1;have nT:Qp f->False:=fun h=>by
   match f,w6,h with
   | .add _ _,_,h=>exact h
   | .null,_,h=>exact h
  have px:QaD (Qj s) (.op2 o (.arg x) f)=if (Qc f).any (Qs (Qj s))=true then QaD (Qj s) f else (Qb f).length:=rfl;by_cases q:(Qc f).any (Qs (Qj s))=true
  ·have e:=i.1 ⟨fun h=>absurd h nT,fun _=>q⟩;refine⟨fun _=>⟨?_,?_⟩,fun h=>?_⟩
   ·rw[px,zb q];exact e.1
   ·rw[px,zb q,ep,zd];exact zax e.2 (Nat.le_add_right _ _)
   ·exfalso;obtain⟨u,hu,au⟩:=List.any_eq_true.mp q;have:=Qh1 (t:= .op2 o (.arg x) f) (Qg3 w7 w6 u hu) au;rw[h.1 trivial] at this;exact absurd this (by decide)
  ·have q':(Qc f).any (Qs (Qj s))=false:=by rw[zV] at q;exact q
   have e:=i.2 ⟨fun h=>absurd h nT,fun _=>q'⟩;rw[e,Qgm hf1 (by omega) g.2.2.1 g.1 w2 e13,e12];refine⟨fun h=>⟨?_,?_⟩,fun h=>?_⟩
   ·rw[zb ((Qdy s _ w').mpr (h.1 trivial)),px,za q]
   ·rw[px,za q,ep,zd];exact Nat.lt_succ_self _
   ·rw[za (fun q=>by rw[(Qdy s _ w').mp q] at h;exact absurd (h.1 trivial) (by decide)),ep,zd];rfl
 ·have ep:Qb (.add t f)=Qb t++Qb f:=rfl;obtain⟨w1,w2,w3,w4⟩:=w;rw[ep] at g;have it:=iht p (QaQ g) a.1;have jf:=ihf (p+(Qb t).length) (QaV g) a.2;have nT:Qp f->False:=fun h=>by
   match f,w2,h with
   | .add _ _,_,h=>exact h
   | .null,_,h=>exact h
  have nF:QM t->False:=fun h=>by
   match t,w1,h with
   | .arg _,_,h=>exact h
   | .op2 _ (.arg _) _,_,h=>exact h
  have px:QaD (Qj s) (.add t f)=if Qs (Qj s) t=true then QaD (Qj s) t else (Qb t).length+QaD (Qj s) f:=rfl;have an:(Qc (.add t f)).any (Qs (Qj s))=(Qs (Qj s) t||(Qc f).any (Qs (Qj s))):=rfl;refine⟨fun h=>?_,fun h=>?_⟩
  ·have h2:=h.2 trivial;rw[an] at h2;by_cases q:Qs (Qj s) t=true
   ·have e:=it.1 ⟨fun _=>q,fun h=>absurd h nF⟩;rw[px,zb q,ep,zd];exact⟨e.1,zax e.2 (Nat.le_add_right _ _)⟩
   ·have q':Qs (Qj s) t=false:=by rw[zV] at q;exact q
    rw[q',zaa] at h2;have e:=jf.1 ⟨fun h=>absurd h nT,fun _=>h2⟩;rw[px,za q,ep,zd,it.2 ⟨fun _=>q',fun h=>absurd h nF⟩,e.1,zaj];exact⟨rfl,Nat.add_lt_add_left e.2 _⟩
  ·have h2:=h.2 trivial;rw[an,Bool.or_eq_false_iff] at h2;rw[it.2 ⟨fun _=>h2.1,fun h=>absurd h nF⟩,jf.2 ⟨fun h=>absurd h nT,fun _=>h2.2⟩,ep,zd,zaj]
 ·exact⟨fun h=>absurd (h.2 trivial) (by simp[Qc]),fun _=>rfl⟩
end Pert
theorem QaP{f:Qd}(h:QM f)(h':Qp f):False:=by
 match f,h,h' with
 | .add _ _,_,h'=>exact h'
 | .null,_,h'=>exact h'
section Red
variable {f1:FT1}
theorem QgF(hf1:Fx f1){S:MS}{s:Int32}{pi x:Nat}(hpi:pi<64)(h13:S 13 pi=O x):f1 (42,27,[V 0,I s,I (O pi),I (O pi)],[],S)=(f1 (46,0,[V 0,I (O x)],[],S)).bind fun q=>f1 (42,96,[V 0,I s,I (O pi),I (O x)],q.1.toList++[],q.2):=by
 rw[Eah hf1,za zv,zb (Qz (by omega) hpi),QA (by omega),h13]
theorem QhV(hf1:Fx f1){s:Int32}{tot pi:Nat}(hpi:pi<64):∀t,Qu t->∀p m S,QcP S (Qj s) p tot m t->pi=p+QaD (Qj s) t->((Qp t->Qs (Qj s) t=true)/\(QM t->(Qc t).any (Qs (Qj s))=true))->∃S',QZ S S' (Qb t)/\((f1 (42,27,[V 0,I s,I (O pi),I (O p)],[],S)=some (some (I 0),S')/\QL (Qj s) t=none)\/((∃xt,f1 (42,27,[V 0,I s,I (O pi),I (O p)],[],S)=f1 (42,96,[V 0,I s,I (O pi),I xt],[I 1],S'))/\∃T,QL (Qj s) t=some (Qe T)/\Qfw S S' (Qb t) (Qf t) (m+2*(Qb t).length) T/\(Qp t->Qp T/\Qh T=Qh t)/\(QM t->QM T/\(Qc T).map Qh=(Qc t).map Qh))):=by
 have hb:=QiQ s;refine Q3 (fun c hc p m S L hp al=>?_) (fun o x f w ih p m S L hp al=>?_) (fun t f w iht ihf p m S L hp al=>?_) (fun p m S L hp al=>absurd (al.2 trivial) (by simp[Qc]))
 ·obtain⟨r,g,nd,l1,l2,a,l8,cv,hm⟩:=L;have hp':pi=p:=hp;subst hp';have e13:S 13 pi=O c:=g.2.2.2 0 (by simp[Qb]);have e1:S 1 c=0:=r;refine⟨S,Qbq S _,Or.inr ⟨⟨O c,?_⟩,.arg c,rfl,⟨hc,r,nd,fun i hi=>Or.inl hi,fun i hi h8=>(l1 i hi h8).1,List.Perm.refl _,Qar cv (by omega) fun i=>Or.inl rfl⟩,fun _=>⟨trivial,rfl⟩,fun h=>absurd h id⟩⟩;rw[QgF hf1 hpi e13,EP hf1,Qb8 hf1 S (by omega),zb e1];simp only[zz];rw[EY hf1,zb rfl];simp only[zz]
 ·obtain⟨r,g,nd,l1,l2,a,l8,cv,hm⟩:=L;have ep:Qb (.op2 o (.arg x) f)=Qb f++[x]:=rfl;have w':=w;obtain⟨⟨w1,w2⟩,w3,⟨w4,w5⟩,w6,w7⟩:=w;have eR:QL (Qj s) (.op2 o (.arg x) f)=if (Qc f).any (Qs (Qj s))=true then (QL (Qj s) f).bind fun f'=>some (.op2 o (.arg 0) f') else (QJ (Qj s) f).bind fun f'=>if o = .iand then Qal (Qj s) (Qc f') else Qas (Qj s) (Qc f'):=rfl;have px:QaD (Qj s) (.op2 o (.arg x) f)=if (Qc f).any (Qs (Qj s))=true then QaD (Qj s) f else (Qb f).length:=rfl;rw[px] at hp;rw[ep] at g nd l1;rw[ep,zd] at hm;have hm':m+2*((Qb f).length+1)<=54:=hm;obtain⟨nd1,-,nd3⟩:=zl.mp nd;have hxf:x∉Qb f:=fun h=>nd3 x h x (by simp) rfl
  have x5:=(l1 x (by simp) w1).1;have lx:∀i∈Qb f,8<=i->S 5 i≠0/\S 11 i=0:=fun i hi=>l1 i (zc.mpr (Or.inl hi));have LF:QcP S (Qj s) p tot m f:=⟨r.2.2.2,QaQ g,nd1,lx,l2,a.2,l8,cv,by omega⟩;have gdsL:∀T:Qd,(Qc T).map Qh=(Qc f).map Qh->(Qc T).length=(Qc f).length/\∀i,i<(Qc f).length->Qh ((Qc T).getD i .null)=Qh ((Qc f).getD i .null):=fun T tK=>by
   have kln:(Qc T).length=(Qc f).length:=by have:=congrArg List.length tK;rw[zh,zh] at this;exact this
   refine⟨kln,fun i hi=>?_⟩;have:=congrArg (fun l=>l[i]?) tK;simp only[List.getElem?_map] at this;rw[List.getElem?_eq_getElem hi,List.getElem?_eq_getElem (by omega)] at this;rw[zf,zf,List.getElem?_eq_getElem hi,List.getElem?_eq_getElem (by omega)];exact Option.some.inj this
  by_cases q:(Qc f).any (Qs (Qj s))=true
  ·rw[zb q] at hp;rw[eR,zb q];obtain⟨S1,F1,h1⟩:=ih p m S LF hp ⟨fun h=>absurd h (QaP w6),fun _=>q⟩;have FF:QZ S S1 (Qb (.op2 o (.arg x) f)):=QbF F1 (Qbq S1 []) (fun i hi=>by rw[ep];exact zc.mpr (Or.inl hi)) (fun i hi=>absurd hi (by simp));rcases h1 with⟨e1,n1⟩ | ⟨e1,T,n1,TF,-,hT⟩
   ·exact⟨S1,FF,Or.inl ⟨e1,by rw[n1];rfl⟩⟩
   obtain⟨T1,T2,T3,T4,T5,T6,T7⟩:=TF;obtain⟨tF,tK⟩:=hT w6;obtain⟨kln,gds⟩:=gdsL T tK;have smx:QaT S S1 x:=F1.2 x (Or.inr ⟨hxf,x5⟩);have xT:x∉Qb T:=fun h=>by
    rcases T4 x h with q | q
    ·exact hxf q
    ·exact x5 q.2
   refine⟨S1,FF,Or.inr ⟨e1,.op2 o (.arg x) T,by rw[n1];rfl,⟨⟨⟨w1,w2⟩,w3,by rw[kln];exact⟨w4,w5⟩,tF,T1⟩,⟨smx.1.trans r.1,by rw[kln];exact smx.2.1.trans r.2.1,fun i hi=>?_,T2⟩,?_,fun i hi=>?_,fun i hi h8=>?_,T6,?_⟩,fun _=>⟨trivial,rfl⟩,fun h=>absurd h id⟩⟩
   ·rw[kln] at hi;rw[smx.2.2.2.2 i (by omega),r.2.2.1 i hi,gds i hi]
   ·show (Qb T++[x]).Nodup;rw[zl];exact⟨T3,by simp,fun i hi j hj e=>xT (by rw[zi] at hj;rw[<-hj,<-e];exact hi)⟩
   ·rw[ep];rcases zc.mp (show i∈Qb T++[x] from hi) with q | q
    ·rcases T4 i q with q | q
     ·exact Or.inl (zc.mpr (Or.inl q))
     ·exact Or.inr q
    ·exact Or.inl (zc.mpr (Or.inr q))
   ·rcases zc.mp (show i∈Qb T++[x] from hi) with q | q
    ·exact T5 i q h8
    ·rw[zi] at q;rw[q,smx.2.2.1];exact x5
   ·rw[ep,zd];exact Qar T7 (by show _<=m+2*((Qb f).length+1);omega) fun i=>Or.inl rfl
  ·rw[za q] at hp;rw[eR,za q];obtain⟨S1,F1,h1⟩:=Qip hf1 hb hpi f w7 p m S LF (by omega);have FF:QZ S S1 (Qb (.op2 o (.arg x) f)):=QbF F1 (Qbq S1 []) (fun i hi=>by rw[ep];exact zc.mpr (Or.inl hi)) (fun i hi=>absurd hi (by simp));rcases h1 with⟨e1,n1⟩ | ⟨e1,T,n1,TF,-,hT⟩
   ·exact⟨S1,FF,Or.inl ⟨e1,by rw[n1];rfl⟩⟩
   obtain⟨T1,T2,T3,T4,T5,T6,T7⟩:=TF;obtain⟨tF,tK,tL⟩:=hT w6;obtain⟨kln,gds⟩:=gdsL T tK;have smx:QaT S S1 x:=F1.2 x (Or.inr ⟨hxf,x5⟩);have kpo:(Qc T).flatMap Qb=Qb T:=Qby Qb (fun _ _=>rfl) rfl T T1 tF;have klv:(Qc T).flatMap Qf=Qf T:=Qby Qf (fun _ _=>rfl) rfl T T1 tF;have xT:x∉Qb T:=fun h=>by
    rcases T4 x h with q | q
    ·exact hxf q
    ·exact x5 q.2
   have kc:Qay S1 (Qj s) o x (Qc T) (m+2*(Qb f).length):=by
    refine⟨⟨w1,w2⟩,fun u hu=>⟨(QaR T1 u hu).1,(QaR T1 u hu).2,Qdm T1 T2 u hu,tL u hu⟩,by rw[kln];exact⟨w4,w5⟩,smx.1.trans r.1,by rw[kln];exact smx.2.1.trans r.2.1,fun i hi=>?_,?_,fun i hi h8=>?_,by rw[klv,T6.length_eq];exact l8,T7⟩
    ·rw[kln] at hi;rw[smx.2.2.2.2 i (by omega),r.2.2.1 i hi,gds i hi]
    ·rw[kpo,zl];exact⟨T3,by simp,fun i hi j hj e=>xT (by rw[zi] at hj;rw[<-hj,<-e];exact hi)⟩
    ·rw[kpo] at hi;rcases zc.mp hi with q | q
     ·exact T5 i q h8
     ·rw[zi] at q;rw[q,smx.2.2.1];exact x5
   have hne:∃u∈Qc T,Qg (Qj s) u≠0:=by
    have hk0:Qc f≠[]:=fun e=>by rw[e] at w4;exact absurd w4 (by simp)
    obtain⟨u0,hu0⟩:=zan _ hk0;have:¬Qs (Qj s) u0=true:=fun h=>q (List.any_eq_true.mpr ⟨u0,hu0,h⟩);have ex:∃c,Qj s c=true:=Classical.byContradiction fun hn=>this (Qab.mpr fun c _ hc=>absurd ⟨c,hc⟩ hn);obtain⟨c,hc⟩:=ex;have hcl:c∈Qf f:=Qab.mp (al.1 trivial) c (Qcd s hc) hc;have hcT:c∈(Qc T).flatMap Qf:=by rw[klv];exact T6.mem_iff.mpr hcl
    obtain⟨u,hu,hcu⟩:=zx.mp hcT;refine⟨u,hu,fun e=>?_⟩;have:=zw.mp (Qbj e) c hcu;rw[hc] at this;exact absurd this (by decide)
   obtain⟨av,S2,e2,F2,h2⟩:=QiU hf1 w3 kc (by omega) hne;rw[kpo] at F2;have hQ:∀i∈Qb T++[x],8<=i->i∈Qb f++[x]\/S 5 i=0:=fun i hi h8=>by
    rcases zc.mp hi with q | q
    ·rcases T4 i q with q | q
     ·exact Or.inl (zc.mpr (Or.inl q))
     ·exact Or.inr q.2
    ·exact Or.inl (zc.mpr (Or.inr q))
   have FF2:QZ S S2 (Qb (.op2 o (.arg x) f)):=QbF F1 F2 (fun i hi=>by rw[ep];exact zc.mpr (Or.inl hi)) hQ;have g':=QaV g;have e13:S1 13 pi=O x:=by rw[hp,F1.1 13 _ (by decide) (by decide) (by decide) (by decide) (by decide) (by decide) (by decide) (by omega)];exact g'.2.2.2 0 (by simp)
   have step:f1 (42,27,[V 0,I s,I (O pi),I (O p)],[],S)=f1 (42,96,[V 0,I s,I (O pi),I (O x)],[I av],S2):=by
    rw[e1,<-hp,QgF hf1 hpi e13,e2];simp only[zz]
   have mapk:(Qc T).map Qe=Qc (Qe T):=(Qcm T T1 tF).symm;rw[mapk] at h2;rcases h2 with⟨ea,n2⟩ | ⟨ea,T',TR,n2⟩
   ·refine⟨S2,FF2,Or.inl ⟨?_,by rw[n1];exact n2⟩⟩;rw[step,E8 hf1,zb ea]
   ·obtain⟨t1,t2,t3,t4,t5,t6,t7,t8,t9⟩:=TR;refine⟨S2,FF2,Or.inr ⟨⟨O x,by rw[step,ea]⟩,T',by rw[n1];exact n2,⟨t1,t4,t5,fun i hi=>?_,t7,?_,?_⟩,fun _=>⟨t2,t3⟩,fun h=>absurd h id⟩⟩
    ·rw[ep];rcases t6 i hi with q | q
     ·rw[kpo] at q;by_cases h8:8<=i
      ·rcases hQ i q h8 with q | q
       ·exact Or.inl q
       ·exact Or.inr ⟨h8,q⟩
      ·rcases zc.mp q with q | q
       ·rcases T4 i q with q | q
        ·exact Or.inl (zc.mpr (Or.inl q))
        ·exact absurd q.1 h8
       ·rw[zi] at q;omega
     ·by_cases qf:i∈Qb f
      ·exact Or.inl (zc.mpr (Or.inl qf))
      ·by_cases q5:S 5 i=0
       ·exact Or.inr ⟨q.1,q5⟩
       ·exact absurd ((F1.2 i (Or.inr ⟨qf,q5⟩)).2.2.1.symm.trans q.2) q5
    ·rw[klv] at t8;exact t8.trans T6
    ·rw[ep,zd];exact Qar t9 (by show _<=m+2*((Qb f).length+1);omega) fun i=>Or.inl rfl
 ·obtain⟨r,g,nd,l1,l2,a,l8,cv,hm⟩:=L;have ep:Qb (.add t f)=Qb t++Qb f:=rfl;have ev:Qf (.add t f)=Qf t++Qf f:=rfl;rw[ep] at g nd l1;rw[ep,zd] at hm;rw[ev] at l2;rw[ev,zd] at l8;obtain⟨nd1,nd2,nd3⟩:=zl.mp nd;obtain⟨w1,w2,w3,w4⟩:=w;have eR:QL (Qj s) (.add t f)=if Qs (Qj s) t=true then (QL (Qj s) t).bind fun t'=>some (.add t' (Qe f)) else (QL (Qj s) f).bind fun f'=>some (.add (Qe t) f'):=rfl;have px:QaD (Qj s) (.add t f)=if Qs (Qj s) t=true then QaD (Qj s) t else (Qb t).length+QaD (Qj s) f:=rfl;have Lt:QcP S (Qj s) p tot m t:=⟨r.1,QaQ g,nd1,fun i hi=>l1 i (zc.mpr (Or.inl hi)),fun c hc=>l2 c (zc.mpr (Or.inl hc)),a.1,by omega,cv,by omega⟩
  have Lf:QcP S (Qj s) (p+(Qb t).length) tot m f:=⟨r.2,QaV g,nd2,fun i hi=>l1 i (zc.mpr (Or.inr hi)),fun c hc=>l2 c (zc.mpr (Or.inr hc)),a.2,by omega,cv,by omega⟩;rw[px] at hp;by_cases q:Qs (Qj s) t=true
  ·rw[zb q] at hp;rw[eR,zb q];have nF:QM t->False:=fun h=>QaP h w1;obtain⟨S1,F1,h1⟩:=iht p m S Lt hp ⟨fun _=>q,fun h=>absurd h nF⟩;have FF:QZ S S1 (Qb (.add t f)):=QbF F1 (Qbq S1 []) (fun i hi=>by rw[ep];exact zc.mpr (Or.inl hi)) (fun i hi=>absurd hi (by simp));rcases h1 with⟨e1,n1⟩ | ⟨e1,T,n1,TF,hT,-⟩
   ·exact⟨S1,FF,Or.inl ⟨e1,by rw[n1];rfl⟩⟩
   obtain⟨T1,T2,T3,T4,T5,T6,T7⟩:=TF;obtain⟨tT,tS⟩:=hT w1;have smf:∀i∈Qb f,QaT S S1 i:=fun i hi=>by
    by_cases h8:8<=i
    ·exact F1.2 i (Or.inr ⟨fun q=>nd3 i q i hi rfl,(l1 i (zc.mpr (Or.inr hi)) h8).1⟩)
    ·exact F1.2 i (Or.inl (by omega))
   refine⟨S1,FF,Or.inr ⟨e1,.add T f,by rw[n1];rfl,⟨⟨tT,w2,T1,w4⟩,⟨T2,QbX f w4 smf r.2⟩,?_,fun i hi=>?_,fun i hi h8=>?_,List.Perm.append T6 (List.Perm.refl _),?_⟩,fun h=>absurd h id,fun _=>⟨trivial,?_⟩⟩⟩
   ·show (Qb T++Qb f).Nodup;refine zl.mpr ⟨T3,nd2,fun i hi j hj e=>?_⟩;subst e;rcases T4 i hi with q | q
    ·exact nd3 i q i hj rfl
    ·exact (l1 i (zc.mpr (Or.inr hj)) q.1).1 q.2
   ·rw[ep];rcases zc.mp (show i∈Qb T++Qb f from hi) with q | q
    ·rcases T4 i q with q | q
     ·exact Or.inl (zc.mpr (Or.inl q))
     ·exact Or.inr q
    ·exact Or.inl (zc.mpr (Or.inr q))
   ·rcases zc.mp (show i∈Qb T++Qb f from hi) with q | q
    ·exact T5 i q h8
    ·rw[(smf i q).2.2.1];exact (l1 i (zc.mpr (Or.inr q)) h8).1
   ·rw[ep,zd];exact Qar T7 (by omega) fun i=>Or.inl rfl
   ·show Qh T::(Qc f).map Qh=Qh t::(Qc f).map Qh;rw[tS]
  ·rw[za q] at hp;rw[eR,za q];have an:(Qc (.add t f)).any (Qs (Qj s))=(Qs (Qj s) t||(Qc f).any (Qs (Qj s))):=rfl;have h2:=al.2 trivial;have q':Qs (Qj s) t=false:=by rw[zV] at q;exact q
   rw[an,q',zaa] at h2;have sk:(Qf t).all (fun c => !Qj s c)=true:=by
    rw[zw];intro c hc;cases e:Qj s c
    ·rfl
    ·exfalso;obtain⟨u,hu,au⟩:=List.any_eq_true.mp h2;have h3:=Qg3 w4 w2 u hu c (Qab.mp au c (Qcd s e) e);exact nd3 c ((Qd3 t w3).subset hc) c ((Qd3 f w4).subset h3) rfl
   have e0:=Qft hf1 (s:=s) hb hpi t w3 p r.1 (QaQ g) (by omega) a.1 sk;obtain⟨S1,F1,h1⟩:=ihf (p+(Qb t).length) m S Lf (by omega) ⟨fun h=>absurd h (QaP w2),fun _=>h2⟩;have FF:QZ S S1 (Qb (.add t f)):=QbF F1 (Qbq S1 []) (fun i hi=>by rw[ep];exact zc.mpr (Or.inr hi)) (fun i hi=>absurd hi (by simp));rw[e0];rcases h1 with⟨e1,n1⟩ | ⟨e1,T,n1,TF,-,hT⟩
   ·exact⟨S1,FF,Or.inl ⟨e1,by rw[n1];rfl⟩⟩
   obtain⟨T1,T2,T3,T4,T5,T6,T7⟩:=TF;obtain⟨tF,tK⟩:=hT w2;have smt:∀i∈Qb t,QaT S S1 i:=fun i hi=>by
    by_cases h8:8<=i
    ·exact F1.2 i (Or.inr ⟨fun q=>nd3 i hi i q rfl,(l1 i (zc.mpr (Or.inl hi)) h8).1⟩)
    ·exact F1.2 i (Or.inl (by omega))
   refine⟨S1,FF,Or.inr ⟨e1,.add t T,by rw[n1];rfl,⟨⟨w1,tF,w3,T1⟩,⟨QbX t w3 smt r.1,T2⟩,?_,fun i hi=>?_,fun i hi h8=>?_,List.Perm.append (List.Perm.refl _) T6,?_⟩,fun h=>absurd h id,fun _=>⟨trivial,?_⟩⟩⟩
   ·show (Qb t++Qb T).Nodup;refine zl.mpr ⟨nd1,T3,fun i hi j hj e=>?_⟩;subst e;rcases T4 i hj with q | q
    ·exact nd3 i hi i q rfl
    ·exact (l1 i (zc.mpr (Or.inl hi)) q.1).1 q.2
   ·rw[ep];rcases zc.mp (show i∈Qb t++Qb T from hi) with q | q
    ·exact Or.inl (zc.mpr (Or.inl q))
    ·rcases T4 i q with q | q
     ·exact Or.inl (zc.mpr (Or.inr q))
     ·exact Or.inr q
   ·rcases zc.mp (show i∈Qb t++Qb T from hi) with q | q
    ·rw[(smt i q).2.2.1];exact (l1 i (zc.mpr (Or.inl q)) h8).1
    ·exact T5 i q h8
   ·rw[ep,zd];exact Qar T7 (by omega) fun i=>Or.inl rfl
   ·show Qh t::(Qc T).map Qh=Qh t::(Qc f).map Qh;rw[tK]
end Red
def QH:Qd->Qd
 | .arg c => .arg c
 | .op2 o (.arg x) f => .op2 (if (Qc f).length=2 then .iand else o) (.arg x) (QH f)
 | .add t f => .add (QH t) (QH f)
 |_ => .null
theorem Qer:∀t,Qp t->Qp (QH t)/\Qh (QH t)=Qh t
 | .arg _,_=>⟨trivial,rfl⟩
 | .op2 _ (.arg _) _,_=>⟨trivial,rfl⟩
theorem Qg2:∀t,QM t->QM (QH t)
 | .add _ _,_=>trivial
 | .null,_=>trivial
theorem Qe6:∀f,Qu f->QM f->Qc (QH f)=(Qc f).map QH
 | .add t f,w,_=>by show QH t::Qc (QH f)=_;rw[Qe6 f w.2.2.2 w.2.1];rfl
 | .null,_,_=>rfl
theorem Qc0:∀t,Qu t->Qb (QH t)=Qb t/\Qf (QH t)=Qf t/\Qu (QH t)/\Qe (QH t)=QH (Qe t):=Q3
 (fun c hc=>⟨rfl,rfl,hc,rfl⟩)
 (fun o x f w ih=>by
  obtain⟨i1,i2,i3,i4⟩:=ih;have hk:=Qe6 f w.2.2.2.2 w.2.2.2.1;have hs:=Qcm f w.2.2.2.2 w.2.2.2.1;refine⟨?_,i2,⟨w.1,?_,?_,Qg2 f w.2.2.2.1,i3⟩,?_⟩
  ·show Qb (QH f)++[x]=Qb f++[x];rw[i1]
  ·show (if (Qc f).length=2 then Jvm.Binary.iand else o) = .iand\/_
   split
   ·exact Or.inl rfl
   ·exact w.2.1
  ·rw[hk,zh];exact w.2.2.1
  ·show Jvm.Term.op2 _ (.arg 0) (Qe (QH f)) = .op2 (if (Qc (Qe f)).length=2 then .iand else o) (.arg 0) (QH (Qe f));rw[i4,hs,zh])
 (fun t f w iht ihf=>by
  obtain⟨i1,i2,i3,i4⟩:=iht;obtain⟨j1,j2,j3,j4⟩:=ihf;refine⟨?_,?_,⟨(Qer t w.1).1,Qg2 f w.2.1,i3,j3⟩,?_⟩
  ·show Qb (QH t)++Qb (QH f)=_;rw[i1,j1];rfl
  ·show Qf (QH t)++Qf (QH f)=_;rw[i2,j2];rfl
  ·show Jvm.Term.add (Qe (QH t)) (Qe (QH f)) = .add (QH (Qe t)) (QH (Qe f));rw[i4,j4])
 ⟨rfl,rfl,trivial,rfl⟩
def Qa9(n:Nat)(t:Qd)(S:MS):Prop:=Qdh n t/\(Qf t).Perm (List.range n)/\S 0 0=O n/\S 0 4=O (Qh t)/\QI S t/\(∀i∈Qb t,8<=i->S 5 i=1)/\∀i,8<=i->i<64->i∉Qb t->S 5 i=0
def Qdf(S S':MS):Prop:=∀c i,((c=0/\(i<=5\/11<=i))\/(6<=c/\c<=10)\/20<=c)->S' c i=S c i
section Norm
variable {f1:FT1}
theorem QiT(hf1:Fx f1):∀t,Qu t->∀p tot S,(Qb t).Nodup->QI S t->QaF S p (Qb t) tot->∃S',f1 (40,2,[V 0,I (O p)],[],S)=f1 (40,2,[V 0,I (O (p+(Qb t).length))],[],S')/\(∀c i,¬(c=1/\i∈Qb t)->S' c i=S c i)/\QI S' (QH t):=by
 have step:∀(p tot:Nat) (S:MS) (x:Nat),x<64->p<tot->tot<=64->S 0 6=O tot->S 13 p=O x->f1 (40,2,[V 0,I (O p)],[],S)=f1 (40,28,[V 0,I (O p),I (O x)],[I (if S 1 x=0 then 0 else 1)],S):=fun p tot S x hx h1 h2 h3 h4=>by
  rw[EaG hf1,h3,zb ((Qq (by omega) (by omega)).mpr h1),zb (show O p<64 from (Qq (b:=64) (by omega) (by omega)).mpr (by omega)),zb (Qz (by omega) (by omega)),QA (by omega),h4,Qb8 hf1 S hx];simp only[zz]
 refine Q3 (fun c hc p tot S nd r g=>?_) (fun o x f w ih p tot S nd r g=>?_) (fun t f w iht ihf p tot S nd r g=>?_) (fun p tot S nd r g=>⟨S,rfl,fun _ _ _=>rfl,trivial⟩)
 ·have e13:S 13 p=O c:=g.2.2.2 0 (by simp[Qb]);have hp:p+1<=tot:=g.2.1;have e1:S 1 c=0:=r;rw[step p tot S c (by omega) (by omega) g.2.2.1 g.1 e13,zb e1,EaN hf1,zb rfl,Qx];exact⟨S,rfl,fun _ _ _=>rfl,r⟩
 ·have ep:Qb (.op2 o (.arg x) f)=Qb f++[x]:=rfl;have w':=w;obtain⟨⟨w1,w2⟩,w3,⟨w4,w5⟩,w6,w7⟩:=w;rw[ep] at nd g;obtain⟨nd1,-,nd3⟩:=zl.mp nd;have hxf:x∉Qb f:=fun h=>nd3 x h x (by simp) rfl;obtain⟨r1,r3,r4,rf⟩:=r;obtain⟨A,eA,FA,rA⟩:=ih p tot S nd1 rf (QaQ g);have g':=QaV g;have hp:p+(Qb f).length+1<=tot:=g'.2.1;have hln:=zd (as:=Qb f) (bs:=[x]);have e13:A 13 (p+(Qb f).length)=O x:=by rw[FA 13 _ (by omega)];exact g'.2.2.2 0 (by simp)
  have A1:A 1 x=QaZ o:=(FA 1 x (fun q=>hxf q.2)).trans r1;have k1:A 1 x≠0:=by rw[A1];exact QbU
  have A3:A 3 x=O (Qc f).length:=(FA 3 x (by omega)).trans r3;have hk:=Qe6 f w7 w6;have pz:=(Qc0 f w7).1;rw[eA,step _ tot A x w2 (by omega) g.2.2.1 ((FA 0 6 (by omega)).trans g.1) e13,za k1,EaN hf1,za (by decide),QaS hf1 w2 A3 w5];simp only[zz];rw[Ecu hf1,zb (Qz (by omega) w2),QA (by omega),A1];have kids:∀B:MS,(∀i,B 4 i=A 4 i)->∀i,i<(Qc (QH f)).length->B 4 (8*x+i)=O (Qh ((Qc (QH f)).getD i .null)):=fun B hB i hi=>by
   rw[hk,zh] at hi;rw[hB,FA 4 _ (by omega),r4 i hi,hk]
   congr 1
   simp only[zf,List.getElem?_map,List.getElem?_eq_getElem hi];show Qh (Qc f)[i]=Qh (QH (Qc f)[i]);rw[(Qer _ (QaR w7 _ (zF hi)).1).2]
  have n1:¬O (Qc f).length=1:=fun e=>by have:=(QjK (by omega)).mp e;omega
  have fin:∀(B:MS) (o':Jvm.Binary),(∀c i,¬(c=1/\i=x)->B c i=A c i)->B 1 x=QaZ o'->o'=(if (Qc f).length=2 then .iand else o)->∃S',f1 (40,62,[V 0,I (O (p+(Qb f).length)),I (O x),I (O (Qc f).length)],[],B)=f1 (40,2,[V 0,I (O (p+(Qb (.op2 o (.arg x) f)).length))],[],S')/\(∀c i,¬(c=1/\i∈Qb (.op2 o (.arg x) f))->S' c i=S c i)/\QI S' (QH (.op2 o (.arg x) f)):=fun B o' FB B1 ho=>by
   rw[Ee5 hf1,za n1,Qx,ep,hln];refine⟨B,rfl,fun c i q=>?_,?_,?_,?_,?_⟩
   ·rw[FB c i fun e=>q ⟨e.1,by rw[e.2];simp⟩];exact FA c i fun e=>q ⟨e.1,zc.mpr (Or.inl e.2)⟩
   ·rw[B1,ho]
   ·rw[hk,zh,FB 3 x (by omega)];exact A3
   ·exact kids B fun i=>FB 4 i (by omega)
   ·refine QbX _ (Qc0 f w7).2.2.1 (fun i hi=>?_) rA;rw[pz] at hi;have ix:i≠x:=fun e=>hxf (e▸hi);exact⟨FB 1 i (by omega),FB 3 i (by omega),FB 5 i (by omega),FB 11 i (by omega),fun k _=>FB 4 _ (by omega)⟩
  by_cases q2:QaZ o=2
  ·rw[zb q2];have ho:o = .ior:=by
    rcases w3 with e | e
    ·rw[e] at q2;exact absurd q2 (by decide)
    ·exact e
   by_cases d2:(Qc f).length=2
   ·rw[zb (by rw[d2];rfl)];exact fin _ .iand (fun c i q=>by rw[Qi,za q]) (by rw[Qi,zb ⟨rfl,rfl⟩];rfl) (by rw[zb d2])
   ·rw[za (show ¬O (Qc f).length=2 from fun e=>d2 ((Qda (c:=2) (by omega) (by omega)).mp e))];exact fin A o (fun _ _ _=>rfl) A1 (by rw[za d2])
  ·rw[za q2];have ho:o = .iand:=by
    rcases w3 with e | e
    ·exact e
    ·rw[e] at q2;exact absurd rfl q2
   exact fin A o (fun _ _ _=>rfl) A1 (by rw[ho];split<;>rfl)
 ·have ep:Qb (.add t f)=Qb t++Qb f:=rfl;obtain⟨w1,w2,w3,w4⟩:=w;rw[ep] at nd g;obtain⟨nd1,nd2,nd3⟩:=zl.mp nd;obtain⟨A,eA,FA,rA⟩:=iht p tot S nd1 r.1 (QaQ g);have smf:∀i∈Qb f,QaT S A i:=fun i hi=>⟨FA 1 i fun q=>nd3 i q.2 i hi rfl,FA 3 i (by omega),FA 5 i (by omega),FA 11 i (by omega),fun k _=>FA 4 _ (by omega)⟩;obtain⟨B,eB,FB,rB⟩:=ihf (p+(Qb t).length) tot A nd2 (QbX f w4 smf r.2) (QcQ (FA 0 6 (by omega)) (fun i=>FA 13 i (by omega)) (QaV g));refine⟨B,?_,fun c i q=>?_,?_,rB⟩
  ·rw[eA,eB,ep,zd,zaj]
  ·rw[ep] at q;rw[FB c i fun e=>q ⟨e.1,zc.mpr (Or.inr e.2)⟩];exact FA c i fun e=>q ⟨e.1,zc.mpr (Or.inl e.2)⟩
  ·refine QbX _ (Qc0 t w3).2.2.1 (fun i hi=>?_) rA;rw[(Qc0 t w3).1] at hi;exact⟨FB 1 i fun q=>nd3 i hi i q.2 rfl,FB 3 i (by omega),FB 5 i (by omega),FB 11 i (by omega),fun k _=>FB 4 _ (by omega)⟩
theorem Qi0(hf1:Fx f1){S:MS}{t:Qd}(w:Qu t)(ht:Qp t)(nd:(Qb t).Nodup)(r:QI S t)(h4:S 0 4=O (Qh t))(hl:(Qb t).length<=64):∃S',f1 (39,0,[V 0],[],S)=some (none,S')/\(∀c i,c≠1->c≠13->c≠14->c≠15->¬(c=0/\i=6)->S' c i=S c i)/\QI S' (QH t):=by
 obtain⟨A,eA,FA,A6,A13⟩:=QcY hf1 w ht r h4 hl;have rA:QI A t:=Q6 (fun i=>⟨FA 1 i (by decide) (by decide) (by decide) (by omega),FA 3 i (by decide) (by decide) (by decide) (by omega)⟩) (fun i=>FA 4 i (by decide) (by decide) (by decide) (by omega)) t w r;have sA:QaF A 0 (Qb t) (Qb t).length:=⟨A6,by omega,by omega,fun i hi=>by rw[zL];exact A13 i hi⟩;obtain⟨B,eB,FB,rB⟩:=QiT hf1 t w 0 _ A nd rA sA;rw[Ebe hf1,zb (by decide),eA];simp only[zz];have eB':f1 (40,0,[V 0],[],A)=some (some (I (-1)),B):=by
  rw[Edh hf1];refine Eq.trans eB ?_;rw[EaG hf1,(FB 0 6 (by omega)).trans A6,zL,za zv]
 rw[EdX hf1,eB'];simp only[zz];rw[Ea0 hf1,zb (by decide)];exact⟨B,rfl,fun c i h1 h2 h3 h4 h5=>(FB c i (fun q=>h1 q.1)).trans (FA c i h2 h3 h4 h5),rB⟩
theorem Qju(hf1:Fx f1){S:MS}{n:Nat}{t:Qd}(w:Qu t)(ht:Qp t)(r:QI S t)(h0:S 0 0=O n)(hn:n<=8)(h4:S 0 4=O (Qh t))(hl:(Qb t).length<=64):∃S',f1 (38,0,[V 0],[],S)=some (none,S')/\(∀c i,c≠5->c≠13->c≠14->c≠15->¬(c=0/\i=6)->S' c i=S c i)/\(∀i∈Qb t,S' 5 i=1)/\∀i,8<=i->i<64->i∉Qb t->S' 5 i=0:=by
 obtain⟨A,eA,FA,A6,A13⟩:=QcY hf1 w ht r h4 hl;rw[Eb7 hf1,eA];simp only[zz];rw[Ebs hf1];have k1:=Qaw (fun k=>f1 (38,7,[V 0,I (O (8+k))],[],QE A 5 8 (8+k) fun _=>0)) (n:=56) fun k hk=>by
  show f1 _=f1 _;rw[EM hf1,zb (show O (8+k)<64 from (Qq (b:=64) (by omega) (by omega)).mpr (by omega)),zb (Qz (by omega) (by omega)),QA (by omega),Qx,QbG (by omega) rfl];rfl
 have e1:f1 (38,7,[V 0,I 8],[],A)=f1 (38,28,[V 0,I 0],[],QE A 5 8 64 fun _=>0):=by
  refine Eq.trans ?_ (k1.trans ?_)
  ·show _=f1 (_,_,_,_,QE A 5 8 8 _);rw[Qa8];rfl
  ·show f1 _=_;rw[EM hf1,za (by decide)]
 rw[e1];generalize hD:QE A 5 8 64 (fun _=>0)=D;have FD:∀c i,c≠5->D c i=A c i:=fun c i h=>by rw[<-hD,QD h]
 have D5:∀i,8<=i->i<64->D 5 i=0:=fun i h1 h2=>by rw[<-hD,QbQ h1 h2]
 have k2:∀k,k<=(Qb t).length->∃B,f1 (38,28,[V 0,I 0],[],D)=f1 (38,28,[V 0,I (O k)],[],B)/\(∀c i,c≠5->B c i=A c i)/\(∀i∈(Qb t).take k,B 5 i=1)/\∀i,8<=i->i<64->i∉(Qb t).take k->B 5 i=0:=fun k=>by
  induction k with
  |zero=>exact fun _=>⟨D,rfl,FD,fun i hi=>absurd hi (by simp),fun i h1 h2 _=>D5 i h1 h2⟩
  |succ k ih=>
   intro hk;obtain⟨B,eB,FB,B1,B0⟩:=ih (by omega);have gd:(Qb t).getD k 0=(Qb t)[k]'(by omega):=by rw[zf,List.getElem?_eq_getElem (by omega)];rfl
   have x64:=QdR t w _ (zF (show k<(Qb t).length by omega));have e13:B 13 k=O ((Qb t)[k]'(by omega)):=by rw[FB 13 k (by decide),A13 k (by omega),gd]
   have tk:(Qb t).take (k+1)=(Qb t).take k++[(Qb t)[k]'(by omega)]:=by rw[zaq,List.getElem?_eq_getElem (show k<(Qb t).length by omega)];rfl
   rw[eB,Eae hf1,FB 0 6 (by decide),A6,zb ((Qq (by omega) (by omega)).mpr (by omega)),zb (show O k<64 from (Qq (b:=64) (by omega) (by omega)).mpr (by omega)),zb (Qz (by omega) (by omega)),QA (by omega),e13,Qav hf1 B x64];simp only[zz];rw[Eej hf1,za (by decide),zb (Qz (by omega) x64),QA (by omega),Qx];refine⟨_,rfl,fun c i h=>by rw[Qi,za (by omega)];exact FB c i h,fun i hi=>?_,fun i h1 h2 h3=>?_⟩
   ·rw[Qi];by_cases e:i=(Qb t)[k]'(by omega)
    ·rw[zb ⟨rfl,e⟩]
    ·rw[za (fun q=>e q.2)];rw[tk,zc,zi] at hi;rcases hi with hi | hi
     ·exact B1 i hi
     ·exact absurd hi e
   ·rw[tk,zc,zi,not_or] at h3;rw[Qi,za (fun q=>h3.2 q.2)];exact B0 i h1 h2 h3.1
 obtain⟨B,eB,FB,B1,B0⟩:=k2 _ (zo _);rw[List.take_length] at B1 B0;rw[eB,Eae hf1,FB 0 6 (by decide),A6,za zv];have B00:B 0 0=O n:=by rw[FB 0 0 (by decide),FA 0 0 (by decide) (by decide) (by decide) (by omega)];exact h0
 have k3:∀k,k<=n->∃E,f1 (38,72,[V 0,I 0],[],B)=f1 (38,72,[V 0,I (O k)],[],E)/\(∀c i,¬(c=5/\i<k)->E c i=B c i)/\∀i,i<k->E 5 i=1:=fun k=>by
  induction k with
  |zero=>exact fun _=>⟨B,rfl,fun _ _ _=>rfl,fun i hi=>absurd hi (by omega)⟩
  |succ k ih=>
   intro hk;obtain⟨E,eE,FE,E1⟩:=ih (by omega);rw[eE,EV hf1,FE 0 0 (by omega),B00,zb ((Qq (by omega) (by omega)).mpr (by omega)),zb (show O k<8 from (Qq (b:=8) (by omega) (by omega)).mpr (by omega)),zb (Qz (by omega) (by omega)),QA (by omega),Qx];refine⟨_,rfl,fun c i h=>by rw[Qi,za (by omega)];exact FE c i (by omega),fun i hi=>?_⟩;rw[Qi];by_cases e:i=k
   ·rw[zb ⟨rfl,e⟩]
   ·rw[za (by omega)];exact E1 i (by omega)
 obtain⟨E,eE,FE,E1⟩:=k3 n (zo n);rw[eE,EV hf1,FE 0 0 (by omega),B00,za zv];refine⟨E,rfl,fun c i h1 h2 h3 h4 h5=>?_,fun i hi=>?_,fun i h1 h2 h3=>?_⟩
 ·rw[FE c i (by omega),FB c i h1];exact FA c i h2 h3 h4 h5
 ·by_cases q:i<n
  ·exact E1 i q
  ·rw[FE 5 i (by omega)];exact B1 i hi
 ·rw[FE 5 i (by omega)];exact B0 i h1 h2 h3
theorem Qhj(hf1:Fx f1){S:MS}{n:Nat}{s:Int32}(h0:S 0 0=O n)(hn:n<=8):∃S',f1 (43,0,[V 0,I s],[],S)=some (none,S')/\(∀c i,c≠11->S' c i=S c i)/\(∀i,8<=i->i<64->S' 11 i=0)/\∀c,c<n->S' 11 c=if Qj s c=true then 1 else 0:=by
 rw[Ecl hf1];have k1:=Qaw (fun k=>f1 (43,2,[V 0,I s,I (O k)],[],QE S 11 0 k fun _=>0)) (n:=64) fun k hk=>by
  show f1 _=f1 _;rw[Eaq hf1,zb (show O k<64 from (Qq (b:=64) (by omega) (by omega)).mpr hk),zb (Qz (by omega) hk),QA (by omega),Qx,QbG (by omega) rfl]
 have e1:f1 (43,2,[V 0,I s,I 0],[],S)=f1 (43,23,[V 0,I s,I 0],[],QE S 11 0 64 fun _=>0):=by
  refine Eq.trans ?_ (k1.trans ?_)
  ·show _=f1 (_,_,_,_,QE S 11 0 0 _);rw[Qa8];rfl
  ·show f1 _=_;rw[Eaq hf1,za (by decide)]
 rw[e1];generalize hD:QE S 11 0 64 (fun _=>0)=D;have FD:∀c i,c≠11->D c i=S c i:=fun c i h=>by rw[<-hD,QD h]
 have D11:∀i,i<64->D 11 i=0:=fun i h=>by rw[<-hD,QbQ (by omega) h]
 have k2:∀k,k<=n->∃B,f1 (43,23,[V 0,I s,I 0],[],D)=f1 (43,23,[V 0,I s,I (O k)],[],B)/\(∀c i,c≠11->B c i=S c i)/\(∀i,k<=i->i<64->B 11 i=0)/\∀c,c<k->B 11 c=if Qj s c=true then 1 else 0:=fun k=>by
  induction k with
  |zero=>exact fun _=>⟨D,rfl,FD,fun i _ h=>D11 i h,fun i hi=>absurd hi (by omega)⟩
  |succ k ih=>
   intro hk;obtain⟨B,eB,FB,B0,B1⟩:=ih (by omega);rw[eB,Eaz hf1,FB 0 0 (by decide),h0,zb ((Qq (by omega) (by omega)).mpr (by omega)),zb (show O k<8 from (Qq (b:=8) (by omega) (by omega)).mpr (by omega)),Qx];by_cases q:Qj s k=true
   ·rw[zb ((Qdb s (by omega)).mpr q),zb (Qz (by omega) (by omega)),QA (by omega)];refine⟨_,rfl,fun c i h=>by rw[Qi,za (by omega)];exact FB c i h,fun i h1 h2=>by rw[Qi,za (by omega)];exact B0 i (by omega) h2,fun c hc=>?_⟩;rw[Qi];by_cases e:c=k
    ·rw[zb ⟨rfl,e⟩,e,zb q]
    ·rw[za (by omega)];exact B1 c (by omega)
   ·rw[za (fun h=>q ((Qdb s (by omega)).mp h))];refine⟨B,rfl,FB,fun i h1 h2=>B0 i (by omega) h2,fun c hc=>?_⟩;by_cases e:c=k
    ·rw[e,za q];exact B0 k (by omega) (by omega)
    ·exact B1 c (by omega)
 obtain⟨B,eB,FB,B0,B1⟩:=k2 n (zo n);rw[eB,Eaz hf1,FB 0 0 (by decide),h0,za zv];exact⟨B,rfl,FB,fun i h1 h2=>B0 i (by omega) h2,B1⟩
theorem QhZ(hf1:Fx f1){S:MS}{n:Nat}{t:Qd}{s:Int32}(v:Qa9 n t S)(hs:∀c,Qj s c=true->c<n):∃S',Qdf S S'/\((f1 (42,0,[V 0,I s],[],S)=some (some (I 0),S')/\QL (Qj s) (Qe t)=none)\/(f1 (42,0,[V 0,I s],[],S)=some (some (I 1),S')/\∃t',Qa9 n t' S'/\(QL (Qj s) (Qe t)).map QH=some (Qe t'))):=by
 obtain⟨G,pm,h0,h4,r,v1,v0⟩:=v;have hp:=Qde G;obtain⟨w,ht,nd,hn,h8⟩:=G;obtain⟨A,eA,FA,A6,A13⟩:=QcY hf1 w ht r h4 (by omega);have rA:QI A t:=Q6 (fun i=>⟨FA 1 i (by decide) (by decide) (by decide) (by omega),FA 3 i (by decide) (by decide) (by decide) (by omega)⟩) (fun i=>FA 4 i (by decide) (by decide) (by decide) (by omega)) t w r;have sA:QaF A 0 (Qb t) (Qb t).length:=⟨A6,by omega,by omega,fun i hi=>by rw[zL];exact A13 i hi⟩;rw[Ecr hf1,eA];simp only[zz];obtain⟨B,eB,FB,-,AB⟩:=Qh4 hf1 t w 0 _ A nd rA sA;have eB':f1 (37,0,[V 0],[],A)=some (none,B):=by
  rw[Ed5 hf1];refine Eq.trans eB ?_;rw[Ead hf1,(FB 0 6 (by decide)).trans A6,zL,za zv]
 rw[Efr hf1,eB'];simp only[zz];obtain⟨D,eD,FD,D0,D1⟩:=Qhj hf1 (S:=B) (n:=n) (s:=s) (by rw[FB 0 0 (by decide),FA 0 0 (by decide) (by decide) (by decide) (by omega)];exact h0) h8;rw[EbX hf1,eD];simp only[zz];have FS:∀c i,c≠11->c≠12->c≠13->c≠14->c≠15->¬(c=0/\i=6)->D c i=S c i:=fun c i g1 g2 g3 g4 g5 g6=>by rw[FD c i g1,FB c i g2];exact FA c i g3 g4 g5 g6
 have sD:QaF D 0 (Qb t) (Qb t).length:=QcQ ((FD 0 6 (by decide)).trans (FB 0 6 (by decide))) (fun i=>(FD 13 i (by decide)).trans (FB 13 i (by decide))) sA;have AD:QaI (fun u=>D 12 (Qh u)=Q5 u) t:=QbR t w (fun u _ _ q=>by rw[FD 12 _ (by decide)];exact q) AB;have al:Qs (Qj s) t=true:=Qab.mpr fun c _ hc=>pm.mem_iff.mpr (zC.mpr (hs c hc));have nF:QM t->False:=fun h=>QaP h ht;obtain⟨eP,hP⟩:=(Qjp hf1 (S:=D) (s:=s) t w 0 sD AD).1 ⟨fun _=>al,fun h=>absurd h nF⟩;rw[zL] at eP;have eP':f1 (44,0,[V 0,I s],[],D)=some (some (I (O (QaD (Qj s) t))),D):=by rw[Ed9 hf1];exact eP
 rw[Ebq hf1,eP'];simp only[zz];rw[EcK hf1,za (Qap (by omega))];have LP:QcP D (Qj s) 0 (Qb t).length 15 t:=by
  refine⟨Q6 (fun i=>⟨FS 1 i (by decide) (by decide) (by decide) (by decide) (by decide) (by omega),FS 3 i (by decide) (by decide) (by decide) (by decide) (by decide) (by omega)⟩) (fun i=>FS 4 i (by decide) (by decide) (by decide) (by decide) (by decide) (by omega)) t w r,sD,nd,fun i hi h8=>⟨?_,D0 i h8 (QdR t w i hi)⟩,fun c hc=>?_,AD,by omega,⟨Qb t,hp,fun i h1 h2 h3=>?_⟩,by omega⟩
  ·rw[FS 5 i (by decide) (by decide) (by decide) (by decide) (by decide) (by omega),v1 i hi h8];decide
  ·have hcn:=zC.mp (pm.mem_iff.mp hc);rw[D1 c hcn];unfold Qg;show _=if ([c]:List Nat).all _=true then (1:Int32) else if ([c]:List Nat).all _=true then 0 else 2;rw[zaO,zaX,zae,zaO,zaX,zae];by_cases q:Qj s c=true
   ·rw[zb q,zb q]
   ·rw[za q,za q,zb (by rw[zV] at q;rw[q];rfl)]
  ·refine Classical.byContradiction fun q=>h3 ?_;rw[FS 5 i (by decide) (by decide) (by decide) (by decide) (by decide) (by omega)];exact v0 i h1 h2 q
 obtain⟨S1,F1,h1⟩:=QhV hf1 (s:=s) (pi:=QaD (Qj s) t) (by omega) t w 0 15 D LP (by omega) ⟨fun _=>al,fun h=>absurd h nF⟩;have f1':∀c i,c≠1->c≠2->c≠3->c≠4->c≠5->c≠11->c≠12->c≠13->c≠14->c≠15->(c<16\/19<c)->¬(c=0/\6<=i/\i<=10)->S1 c i=S c i:=fun c i a1 a2 a3 a4 a5 a6 a7 a8 a9 a10 a11 a12=>by
  rw[F1.1 c i a1 a2 a3 a4 a5 a6 a11 (by omega)];exact FS c i a6 a7 a8 a9 a10 (by omega)
 have sc1:Qdf S S1:=fun c i q=>f1' c i (by omega) (by omega) (by omega) (by omega) (by omega) (by omega) (by omega) (by omega) (by omega) (by omega) (by omega) (by omega);rw[Qjb (Qj s) t w];rcases h1 with⟨e1,n1⟩ | ⟨⟨xt,e1⟩,T,n1,TF,hT,-⟩
 ·exact⟨S1,sc1,Or.inl ⟨e1,n1⟩⟩
 obtain⟨T1,T2,T3,T4,T5,T6,T7⟩:=TF;obtain⟨tT,tS⟩:=hT ht;have GT:Qdh n T:=⟨T1,tT,T3,by rw[T6.length_eq];exact hn,h8⟩;have hpT:=Qde GT;obtain⟨S2,e2,F2,r2⟩:=Qi0 hf1 T1 tT T3 T2 (by rw[sc1 0 4 (by omega),tS];exact h4) (by omega);obtain⟨z1,z2,z3,z4⟩:=Qc0 T T1;obtain⟨z5,z6⟩:=Qer T tT;have e04:S2 0 4=O (Qh (QH T)):=by rw[F2 0 4 (by decide) (by decide) (by decide) (by decide) (by omega),sc1 0 4 (by omega),z6,tS];exact h4
 have e00:S2 0 0=O n:=by rw[F2 0 0 (by decide) (by decide) (by decide) (by decide) (by omega),sc1 0 0 (by omega)];exact h0
 obtain⟨S3,e3,F3,L1,L0⟩:=Qju hf1 z3 z5 r2 e00 h8 e04 (by rw[z1];omega);have e1':f1 (42,27,[V 0,I s,I (O (QaD (Qj s) t)),I 0],[],D)=some (some (I 1),S3):=by
  refine Eq.trans e1 ?_;rw[E8 hf1,za (by decide),e2];simp only[zz];rw[Edv hf1,e3];simp only[zz];rw[Ebn hf1]
 refine⟨S3,fun c i q=>?_,Or.inr ⟨e1',QH T,⟨⟨z3,z5,by rw[z1];exact T3,by rw[z2,T6.length_eq];exact hn,h8⟩,by rw[z2];exact T6.trans pm,(F3 0 0 (by decide) (by decide) (by decide) (by decide) (by omega)).trans e00,(F3 0 4 (by decide) (by decide) (by decide) (by decide) (by omega)).trans e04,Q6 (fun i=>⟨F3 1 i (by decide) (by decide) (by decide) (by decide) (by omega),F3 3 i (by decide) (by decide) (by decide) (by decide) (by omega)⟩) (fun i=>F3 4 i (by decide) (by decide) (by decide) (by decide) (by omega)) _ z3 r2,fun i hi _=>L1 i hi,L0⟩,?_⟩⟩
 ·rw[F3 c i (by omega) (by omega) (by omega) (by omega) (by omega),F2 c i (by omega) (by omega) (by omega) (by omega) (by omega)];exact sc1 c i q
 ·rw[n1,Option.map_some,z4]
end Norm
theorem QjO{S S':MS}:∀t,Qu t->(∀i∈Qb t,S' 1 i=S 1 i/\S' 3 i=S 3 i/\∀k,k<8->S' 4 (8*i+k)=S 4 (8*i+k))->QI S t->QI S' t:=Q3
 (fun c _ h r=>(h c (by simp[Qb])).1.trans r)
 (fun o x f w ih h r=>by
  have hx:=h x (by simp[Qb]);have hw:=w.2.2.1.2;exact⟨hx.1.trans r.1,hx.2.1.trans r.2.1,fun i hi=>(hx.2.2 i (by omega)).trans (r.2.2.1 i hi),ih (fun i hi=>h i (by simp only[Qb,zc];exact Or.inl hi)) r.2.2.2⟩)
 (fun t f _ ih ih' h r=>⟨ih (fun i hi=>h i (by simp only[Qb,zc];exact Or.inl hi)) r.1,ih' (fun i hi=>h i (by simp only[Qb,zc];exact Or.inr hi)) r.2⟩) (fun _ _=>trivial)
def Qa5(S S':MS):Prop:=∀c i,((c=0/\(i<=3\/11<=i))\/20<=c)->S' c i=S c i
theorem Qb1{S A B:MS}(h:Qa5 S A)(h':Qa5 A B):Qa5 S B:=fun c i q=>(h' c i q).trans (h c i q)
theorem Qiu(S:MS):Qa5 S (Qbn S):=fun c i q=>by
 unfold Qbn;rw[QD (by omega),QD (by omega),QD (by omega),QD (by omega),QD (by omega),Qi,za (by omega)]
theorem Qjh(S:MS):∀c i,(c≠6/\c≠7/\c≠8/\c≠9/\c≠10)->¬(c=0/\i=5)->Qbn S c i=S c i:=fun c i q h=>by
 unfold Qbn;rw[QD (by omega),QD (by omega),QD (by omega),QD (by omega),QD (by omega),Qi,za (by omega)]
theorem QjJ{n:Nat}{t:Qd}{S:MS}(v:Qa9 n t S):Qa9 n t (Qbn S):=by
 have h:=Qjh S;obtain⟨G,pm,h0,h4,r,v1,v0⟩:=v;exact⟨G,pm,(h 0 0 (by decide) (by omega)).trans h0,(h 0 4 (by decide) (by omega)).trans h4,Q6 (fun i=>⟨h 1 i (by decide) (by omega),h 3 i (by decide) (by omega)⟩) (fun i=>h 4 i (by decide) (by omega)) t G.1 r,fun i hi h8=>(h 5 i (by decide) (by omega)).trans (v1 i hi h8),fun i a1 a2 a3=>(h 5 i (by decide) (by omega)).trans (v0 i a1 a2 a3)⟩
theorem Qgh{n:Nat}{t:Qd}{S A:MS}(v:Qa9 n t S)(sc:Qdf (Qbn S) A):Qa9 n t (QaN A)/\Qa5 A (QaN A):=by
 obtain⟨G,pm,h0,h4,r,v1,v0⟩:=v;have e4:QaN A 0 4=S 0 4:=by
  show A 0 5=_;rw[sc 0 5 (by omega)];rfl
 have e1:∀i,i<64->QaN A 1 i=S 1 i:=fun i hi=>by
  unfold QaN;rw[QD (by omega),QD (by omega),QD (by omega),QD (by omega),QbQ (by omega) hi,sc 6 i (by omega)];unfold Qbn;rw[QD (by omega),QD (by omega),QD (by omega),QD (by omega),QbQ (by omega) hi]
 have e3:∀i,i<64->QaN A 3 i=S 3 i:=fun i hi=>by
  unfold QaN;rw[QD (by omega),QD (by omega),QbQ (by omega) hi,sc 8 i (by omega)];unfold Qbn;rw[QD (by omega),QD (by omega),QbQ (by omega) hi]
 have e5:∀i,i<64->QaN A 5 i=(S 5 i&&&1)&&&1:=fun i hi=>by
  unfold QaN;rw[QD (by omega),QbQ (by omega) hi,sc 10 i (by omega)];unfold Qbn;rw[QD (by omega),QbQ (by omega) hi]
 have e4k:∀i,i<512->QaN A 4 i=S 4 i:=fun i hi=>by
  unfold QaN;rw[QbQ (by omega) hi,sc 9 i (by omega)];unfold Qbn;rw[QbQ (by omega) hi]
 refine⟨⟨G,pm,?_,e4.trans h4,QjO t G.1 (fun i hi=>?_) r,fun i hi h8=>?_,fun i a1 a2 a3=>?_⟩,fun c i q=>?_⟩
 ·show A 0 0=_;rw[sc 0 0 (by omega)];exact h0
 ·have:=QdR t G.1 i hi;exact⟨e1 i this,e3 i this,fun k hk=>e4k _ (by omega)⟩
 ·rw[e5 i (QdR t G.1 i hi),v1 i hi h8];decide
 ·rw[e5 i a2,v0 i a1 a2 a3];decide
 ·unfold QaN;rw[QD (by omega),QD (by omega),QD (by omega),QD (by omega),QD (by omega),Qi,za (by omega)]
def QP(n:Nat):Int32:=(1<<<(O n&&&31))-1
def Qbb(n:Nat)(s:Int32):Bool:=decide (((List.range 8).filter (Qj s)).length<=1)||decide (s=QP n)
def Qaf(s:Int32)(t:Qd):Option Qd:=(QL (Qj s) t).map QH
def QS(n:Nat)(s:Int32)(t:Qd):Int32:=
 if Qbb n s=true then 2 else match Qaf s t with
 |none=>3
 |some t'=>if QN t'=QN t then 2 else 1
def QbE(n:Nat)(s:Int32)(t:Qd):Qd:=if QS n s t=1 then (Qaf s t).getD t else t
def Qbg(n:Nat)(x:Int32):Bool:=decide ((x&&&(QP n^^^(-1)))=0)
def Qbm(n:Nat)(x:Int32)(t:Qd):Int32:=if Qbg n x=true then QS n x t else 0
theorem Qeo{n:Nat}(hn:n<=8)(c:Nat):Qj (QP n) c=decide (c<n):=by
 have e:QP n=O (2 ^ n-1):=by
  have:∀k:Fin 9,QP k.val=O (2 ^ k.val-1):=by decide
  exact this ⟨n,by omega⟩
 rw[e];show (BitVec.ofNat 32 (2 ^ n-1)).getLsbD c=_;rw[BitVec.getLsbD_ofNat,Nat.testBit_two_pow_sub_one];by_cases q:c<n
 ·rw[zB q,zB (show c<32 by omega)];rfl
 ·rw[zu q,zau]
theorem QdB{n:Nat}(hn:n<=8){x:Int32}(h:Qbg n x=true)(c:Nat)(hc:Qj x c=true):c<n:=by
 have h':=(QcV _).mp (zai h) c;refine Classical.byContradiction fun q=>?_;have c32:=Qcd x hc;rw[Qcl,hc,zaP] at h';have e:Qj (QP n^^^(-1)) c=true:=by
  unfold Qj;rw[Int32.toBitVec_xor,BitVec.getLsbD_xor];have:=Qeo hn c;unfold Qj at this;rw[this,zu q];show (false ^^ (BitVec.allOnes 32).getLsbD c)=true;rw[BitVec.getLsbD_allOnes,zB c32];rfl
 rw[e] at h';exact absurd h' (by decide)
def Q2(n:Nat)(t:Qd)(S:MS):Prop:=Qa9 n t S/\QcI S t
theorem QdF{S S':MS}{t:Qd}(h:Qa5 S S')(c:QcI S t):QcI S' t:=
 ⟨(h 0 11 (by omega)).trans c.1,(h 0 12 (by omega)).trans c.2.1,fun i hi=>(h 22 i (by omega)).trans (c.2.2.1 i hi),fun i hi=>(h 23 _ (by omega)).trans (c.2.2.2 i hi)⟩
theorem Qhz{S S':MS}(h:Qdf S S'):Qa5 S S':=fun c i q=>h c i (by omega)
section Verd
variable {f1:FT1}
theorem Qe9(hf1:Fx f1){S:MS}{n:Nat}(h0:S 0 0=O n):f1 (18,0,[V 0],[],S)=some (some (I (QP n)),S):=by
 rw[Ebd hf1,h0];rfl
theorem Qfy(hf1:Fx f1){S:MS}{n:Nat}{x:Int32}(h0:S 0 0=O n):f1 (19,0,[V 0,I x],[],S)=some (some (I (QaB (Qbg n x))),S):=by
 rw[EfA hf1,Qe9 hf1 h0];simp only[zz];rw[Ece hf1];unfold Qbg;by_cases q:(x&&&(QP n^^^(-1)))=0
 ·rw[zb q,zB q];rfl
 ·rw[za q,zu q];rfl
theorem QhC(hf1:Fx f1){S:MS}{n:Nat}{s:Int32}(h0:S 0 0=O n):f1 (20,0,[V 0,I s],[],S)=some (some (I (QaB (Qbb n s))),S):=by
 rw[Ecp hf1];have key:=Qaw (fun k=>f1 (20,4,[V 0,I s,I (O ((List.range k).filter (Qj s)).length),I (O k)],[],S)) (n:=8) fun k hk=>by
  show f1 _=f1 _;rw[EaI hf1,zb (show O k<8 from (Qq (b:=8) (by omega) (by omega)).mpr hk),Qx,Qx,List.range_succ,zaQ];by_cases q:Qj s k=true
  ·rw[zb ((Qdb s (by omega)).mpr q),List.filter_cons_of_pos q,zd];rfl
  ·rw[za (fun h=>q ((Qdb s (by omega)).mp h)),List.filter_cons_of_neg q,List.filter_nil,zk]
 refine Eq.trans key ?_;show f1 _=_;have l8:((List.range 8).filter (Qj s)).length<=8:=zN (zZ _ _) (by simp);rw[EaI hf1,za (by decide)];unfold Qbb;by_cases q:((List.range 8).filter (Qj s)).length<=1
 ·rw[za (show ¬1<O _ from fun h=>absurd ((Qq (a:=1) (by omega) (by omega)).mp h) (by omega)),zB q,Bool.true_or];rfl
 ·rw[zb (show 1<O _ from (Qq (a:=1) (by omega) (by omega)).mpr (by omega)),Qe9 hf1 h0,zu q,zaa];simp only[zz];rw[Eec hf1];by_cases e:s=QP n
  ·rw[zb e,zB e];rfl
  ·rw[za e,zu e];rfl
theorem Qgt(hf1:Fx f1){S:MS}{n:Nat}{t:Qd}{s:Int32}(W:Q2 n t S)(hs:∀c,Qj s c=true->c<n):∃S',f1 (17,0,[V 0,I s],[],S)=some (some (I (QS n s (Qe t))),S')/\Qa5 S S'/\(QS n s (Qe t)=1->(∃t',Qa9 n t' S'/\Qaf s (Qe t)=some (Qe t'))/\Qa9 n t (QaN S')/\Qa5 S' (QaN S'))/\(QS n s (Qe t)≠1->Qa9 n t S'):=by
 obtain⟨v,ca⟩:=W;have w:=v.1.1;have ecn:QN (Qe t)=QN t:=(Qd0 t w).2.2.2;rw[EbI hf1,QhC hf1 v.2.2.1];simp only[zz];rw[Eb6 hf1];by_cases q:Qbb n s=true
 ·have hv:QS n s (Qe t)=2:=by unfold QS;rw[zb q]
  rw[za (by rw[q];decide),hv];exact⟨S,rfl,fun _ _ _=>rfl,fun h=>absurd h (by decide),fun _=>v⟩
 ·have q':Qbb n s=false:=by rw[zV] at q;exact q
  rw[zb (by rw[q'];rfl),Qih hf1 S];simp only[zz];have vs:=QjJ v;obtain⟨S1,sc,h⟩:=QhZ hf1 (s:=s) vs hs;rw[Ee3 hf1];have k1:Qa5 S S1:=Qb1 (Qiu S) (Qhz sc);have vf:QS n s (Qe t)=match Qaf s (Qe t) with | none=>3 | some t'=>if QN t'=QN (Qe t) then 2 else 1:=by unfold QS;rw[za q]
  rcases h with⟨e,nn⟩ | ⟨e,t',v',hR⟩
  ·rw[e];simp only[zz];rw[EF hf1,zb rfl,Qfi hf1 S1];simp only[zz];rw[EeD hf1];have hR:Qaf s (Qe t)=none:=by unfold Qaf;rw[nn];rfl
   obtain⟨rv,rk⟩:=Qgh v sc;rw[vf,hR];exact⟨QaN S1,rfl,Qb1 k1 rk,fun h=>absurd (show (3:Int32)=1 from h) (by decide),fun _=>rv⟩
  ·rw[e];simp only[zz];have hR':Qaf s (Qe t)=some (Qe t'):=hR;have hp:=Qde v'.1;have vG:=v'.1;obtain⟨G',pm',h0',h4',r',v1',v0'⟩:=v';obtain⟨w',ht',nd',-,-⟩:=G';obtain⟨A,eA,FA,A6,A13⟩:=QcY hf1 w' ht' r' h4' (by omega);rw[EF hf1,za (by decide),eA];simp only[zz];have rA:QI A t':=Q6 (fun i=>⟨FA 1 i (by decide) (by decide) (by decide) (by omega),FA 3 i (by decide) (by decide) (by decide) (by omega)⟩) (fun i=>FA 4 i (by decide) (by decide) (by decide) (by omega)) t' w' r';have sA:QaF A 0 (Qb t') (Qb t').length:=⟨A6,by omega,by omega,fun i hi=>by rw[zL];exact A13 i hi⟩;have eC:f1 (67,0,[V 0],[],A)=some (some (I (QN t')),A):=by
    rw[EU hf1];refine Eq.trans (Qfr hf1 t' w' 0 _ A 1 rA sA) ?_;rw[Ei hf1,A6,zL,za zv,Int32.one_mul]
   rw[EcZ hf1,eC];simp only[zz];have kA:Qa5 S1 A:=fun c i hq=>FA c i (by omega) (by omega) (by omega) (by omega);have scA:Qdf (Qbn S) A:=fun c i hq=>(FA c i (by omega) (by omega) (by omega) (by omega)).trans (sc c i hq);have ecn':QN (Qe t')=QN t':=(Qd0 t' w').2.2.2;have A11:A 0 11=QN t:=by rw[kA 0 11 (by omega),k1 0 11 (by omega)];exact ca.1
   rw[EeR hf1,A11,vf,hR'];obtain⟨rv,rk⟩:=Qgh v scA;show ∃S',_=some (some (Jvm.Value.int (if QN (Qe t')=QN (Qe t) then 2 else 1)),S')/\_/\((if QN (Qe t')=QN (Qe t) then (2:Int32) else 1)=1->_)/\((if QN (Qe t')=QN (Qe t) then (2:Int32) else 1)≠1->_);rw[ecn,ecn'];by_cases e2:QN t'=QN t
   ·rw[zb e2,zb e2,Qfi hf1 A];simp only[zz];rw[EcR hf1];exact⟨QaN A,rfl,Qb1 (Qb1 k1 kA) rk,fun h=>absurd h (by decide),fun _=>rv⟩
   ·rw[za e2,za e2];refine⟨A,rfl,Qb1 k1 kA,fun _=>⟨⟨t',⟨vG,pm',?_,?_,rA,fun i hi h8=>?_,fun i a1 a2 a3=>?_⟩,rfl⟩,rv,rk⟩,fun h=>absurd rfl h⟩
    ·exact (FA 0 0 (by decide) (by decide) (by decide) (by omega)).trans h0'
    ·exact (FA 0 4 (by decide) (by decide) (by decide) (by omega)).trans h4'
    ·exact (FA 5 i (by decide) (by decide) (by decide) (by omega)).trans (v1' i hi h8)
    ·exact (FA 5 i (by decide) (by decide) (by decide) (by omega)).trans (v0' i a1 a2 a3)
theorem Qgs(hf1:Fx f1){S:MS}{n:Nat}{t:Qd}{s:Int32}(W:Q2 n t S)(hs:∀c,Qj s c=true->c<n):∃S' t',f1 (16,0,[V 0,I s],[],S)=some (some (I (QS n s (Qe t))),S')/\Q2 n t' S'/\Qe t'=QbE n s (Qe t)/\S' 0 1=S 0 1/\S' 0 2=(if QS n s (Qe t)=3 then S 0 2 else S 0 2+1)/\S' 0 3=(if QS n s (Qe t)=3 then S 0 3+1 else S 0 3):=by
 obtain⟨S1,e,k,h1,h2⟩:=Qgt hf1 W hs;rw[Ebg hf1,e];simp only[zz];rw[EcI hf1];have vU:∀(A:MS) (t':Qd) (j:Nat) (w:Int32),(j=2\/j=3)->Qa9 n t' A->Qa9 n t' (Ua A 0 j w):=fun A t' j w hj v=>by
  obtain⟨G,pm,h0,h4,r,v1,v0⟩:=v;have u:∀c i,¬(c=0/\(i=2\/i=3))->Ua A 0 j w c i=A c i:=fun c i h=>by rw[Qi,za (by omega)]
  exact⟨G,pm,(u 0 0 (by omega)).trans h0,(u 0 4 (by omega)).trans h4,Q6 (fun i=>⟨u 1 i (by omega),u 3 i (by omega)⟩) (fun i=>u 4 i (by omega)) t' G.1 r,fun i hi h8=>(u 5 i (by omega)).trans (v1 i hi h8),fun i a1 a2 a3=>(u 5 i (by omega)).trans (v0 i a1 a2 a3)⟩
 have cU:∀(A:MS) (t':Qd) (j:Nat) (w:Int32),(j=2\/j=3)->QcI A t'->QcI (Ua A 0 j w) t':=fun A t' j w hj c=>
  ⟨by rw[Qi,za (by omega)];exact c.1,by rw[Qi,za (by omega)];exact c.2.1,fun i hi=>by rw[Qi,za (by omega)];exact c.2.2.1 i hi,fun i hi=>by rw[Qi,za (by omega)];exact c.2.2.2 i hi⟩
 by_cases q3:QS n s (Qe t)=3
 ·have q1:QS n s (Qe t)≠1:=by rw[q3];decide
  rw[zb q3,EaK hf1,za q1,Eg hf1,zb q3,zb q3];refine⟨_,t,rfl,⟨vU _ t 3 _ (Or.inr rfl) (h2 q1),cU _ t 3 _ (Or.inr rfl) (QdF k W.2)⟩,by unfold QbE;rw[za q1],?_,?_,?_⟩
  ·rw[Qi,za (by omega)];exact k 0 1 (by omega)
  ·rw[Qi,za (by omega)];exact k 0 2 (by omega)
  ·rw[Qi,zb ⟨rfl,rfl⟩,k 0 3 (by omega)]
 ·rw[za q3,EaK hf1,za q3,za q3];by_cases q1:QS n s (Qe t)=1
  ·obtain⟨⟨t',v',hR⟩,-,-⟩:=h1 q1;have vA:=vU S1 t' 2 (S1 0 2+1) (Or.inl rfl) v';obtain⟨D,eD,FD,cD⟩:=Qg4 hf1 (S:=Ua S1 0 2 (S1 0 2+1)) vA.1 vA.2.2.1 vA.2.2.2.1 vA.2.2.2.2.1;rw[zb q1,eD];simp only[zz];rw[Eg hf1];obtain⟨G,pm,h0,h4,r,v1,v0⟩:=vA;refine⟨D,t',rfl,⟨⟨G,pm,(FD 0 0 (by decide) (by omega)).trans h0,(FD 0 4 (by decide) (by omega)).trans h4,Q6 (fun i=>⟨FD 1 i (by decide) (by omega),FD 3 i (by decide) (by omega)⟩) (fun i=>FD 4 i (by decide) (by omega)) t' G.1 r,fun i hi h8=>(FD 5 i (by decide) (by omega)).trans (v1 i hi h8),fun i a1 a2 a3=>(FD 5 i (by decide) (by omega)).trans (v0 i a1 a2 a3)⟩,cD⟩,by unfold QbE;rw[zb q1,hR];rfl,?_,?_,?_⟩
   ·rw[FD 0 1 (by decide) (by omega),Qi,za (by omega)];exact k 0 1 (by omega)
   ·rw[FD 0 2 (by decide) (by omega),Qi,zb ⟨rfl,rfl⟩,k 0 2 (by omega)]
   ·rw[FD 0 3 (by decide) (by omega),Qi,za (by omega)];exact k 0 3 (by omega)
  ·rw[za q1,Eg hf1];refine⟨_,t,rfl,⟨vU _ t 2 _ (Or.inl rfl) (h2 q1),cU _ t 2 _ (Or.inl rfl) (QdF k W.2)⟩,by unfold QbE;rw[za q1],?_,?_,?_⟩
   ·rw[Qi,za (by omega)];exact k 0 1 (by omega)
   ·rw[Qi,zb ⟨rfl,rfl⟩,k 0 2 (by omega)]
   ·rw[Qi,za (by omega)];exact k 0 3 (by omega)
end Verd
def QeU(n:Nat)(x:Int32)(t:Qd):Qd:=if Qbg n x=true then QbE n x t else t
theorem QcB(n:Nat)(s:Int32)(t:Qd):QS n s t=1\/QS n s t=2\/QS n s t=3:=by
 unfold QS
 split
 ·exact Or.inr (Or.inl rfl)
 ·split
  ·exact Or.inr (Or.inr rfl)
  ·split
   ·exact Or.inr (Or.inl rfl)
   ·exact Or.inl rfl
theorem Qha{n:Nat}(hn:n<=8){x:Int32}(h:∀c,Qj x c=true->c<n):x&&&QP n=x:=Qfx fun c=>by
 rw[Qcl,Qeo hn c];cases e:Qj x c
 ·rfl
 ·rw[zaP];exact zB (h c e)
theorem Qek(g:Qd->List Nat)(hg:∀c,g (.arg c)=[c]):∀l:List Nat,(l.map Jvm.Term.arg).flatMap g=l
 |[]=>rfl
 |c::l=>by rw[zE,zg,Qek g hg l,hg];rfl
def Qbu(n:Nat):Qd:=if n<2 then .arg 0 else .op2 .iand (.arg 8) (Qk ((List.range n).map .arg))
section Sys
variable {f1:FT1}
theorem Qia(hf1:Fx f1){S:MS}{n:Nat}{t:Qd}{x:Int32}(W:Q2 n t S):∃S' t',f1 (8,0,[V 0,I x],[],S)=some (some (I (Qbm n x (Qe t))),S')/\Q2 n t' S'/\Qe t'=QeU n x (Qe t)/\S' 0 1=S 0 1/\S' 0 2=(if Qbm n x (Qe t)=1\/Qbm n x (Qe t)=2 then S 0 2+1 else S 0 2)/\S' 0 3=(if Qbm n x (Qe t)=3 then S 0 3+1 else S 0 3):=by
 rw[EcH hf1,Qfy hf1 W.1.2.2.1];simp only[zz];rw[EbY hf1];unfold Qbm QeU;by_cases q:Qbg n x=true
 ·rw[za (by rw[q];decide),zb q,zb q];obtain⟨S1,t',e,W',h1,h2,h3,h4⟩:=Qgs hf1 W (QdB W.1.1.2.2.2.2 q);rw[e];simp only[zz];rw[EcQ hf1];refine⟨S1,t',rfl,W',h1,h2,?_,h4⟩;rw[h3];rcases QcB n x (Qe t) with v | v | v
  ·rw[v,za (by decide),zb (Or.inl rfl)]
  ·rw[v,za (by decide),zb (Or.inr rfl)]
  ·rw[v,zb rfl,za (by decide)]
 ·have q':Qbg n x=false:=by rw[zV] at q;exact q
  rw[zb (by rw[q'];rfl),za q,za q];exact⟨S,t,rfl,W,rfl,rfl,by rw[za (by decide)],by rw[za (by decide)]⟩
theorem QhJ(hf1:Fx f1){S:MS}{n:Nat}{t:Qd}(W:Q2 n t S)(hp:∀c,Qj (S 0 1) c=true->c<n):∃S' t',f1 (7,0,[V 0],[],S)=some (some (I (QS n (S 0 1) (Qe t))),S')/\Q2 n t' S'/\Qe t'=QbE n (S 0 1) (Qe t)/\S' 0 1=0/\S' 0 2=(if QS n (S 0 1) (Qe t)=3 then S 0 2 else S 0 2+1)/\S' 0 3=(if QS n (S 0 1) (Qe t)=3 then S 0 3+1 else S 0 3):=by
 rw[Efa hf1,Qe9 hf1 W.1.2.2.1];simp only[zz];obtain⟨S1,t',e,W',h1,h2,h3,h4⟩:=Qgs hf1 W hp;rw[Ee9 hf1,Qha W.1.1.2.2.2.2 hp,e];simp only[zz];rw[EcP hf1];obtain⟨⟨G,pm,h0,h4',r,v1,v0⟩,c1,c2,c3,c4⟩:=W';have u:∀c i,¬(c=0/\i=1)->Ua S1 0 1 0 c i=S1 c i:=fun c i h=>by rw[Qi,za h]
 exact⟨Ua S1 0 1 0,t',rfl,⟨⟨G,pm,(u 0 0 (by omega)).trans h0,(u 0 4 (by omega)).trans h4',Q6 (fun i=>⟨u 1 i (by omega),u 3 i (by omega)⟩) (fun i=>u 4 i (by omega)) t' G.1 r,fun i hi h8=>(u 5 i (by omega)).trans (v1 i hi h8),fun i a1 a2 a3=>(u 5 i (by omega)).trans (v0 i a1 a2 a3)⟩,(u 0 11 (by omega)).trans c1,(u 0 12 (by omega)).trans c2,fun i hi=>(u 22 i (by omega)).trans (c3 i hi),fun i hi=>(u 23 _ (by omega)).trans (c4 i hi)⟩,h1,rfl,(u 0 2 (by omega)).trans h3,(u 0 3 (by omega)).trans h4⟩
theorem Qfb(hf1:Fx f1){S S':MS}{n:Nat}{t:Qd}(W:Q2 n t S)(u:∀c i,¬(c=0/\i=1)->S' c i=S c i):Q2 n t S':=by
 obtain⟨⟨G,pm,h0,h4',r,v1,v0⟩,c1,c2,c3,c4⟩:=W;exact⟨⟨G,pm,(u 0 0 (by omega)).trans h0,(u 0 4 (by omega)).trans h4',Q6 (fun i=>⟨u 1 i (by omega),u 3 i (by omega)⟩) (fun i=>u 4 i (by omega)) t G.1 r,fun i hi h8=>(u 5 i (by omega)).trans (v1 i hi h8),fun i a1 a2 a3=>(u 5 i (by omega)).trans (v0 i a1 a2 a3)⟩,(u 0 11 (by omega)).trans c1,(u 0 12 (by omega)).trans c2,fun i hi=>(u 22 i (by omega)).trans (c3 i hi),fun i hi=>(u 23 _ (by omega)).trans (c4 i hi)⟩
theorem Qh2(hf1:Fx f1){S:MS}{n:Nat}{x:Int32}(h0:S 0 0=O n)(hn:n<=8)(hp:∀c,Qj (S 0 1) c=true->c<n):∃r S',f1 (4,0,[V 0,I x],[],S)=some (some (I r),S')/\(∀c i,¬(c=0/\i=1)->S' c i=S c i)/\∀c,Qj (S' 0 1) c=true->c<n:=by
 rw[Ed1 hf1,h0];by_cases q1:x<0
 ·rw[zb q1];exact⟨0,S,rfl,fun _ _ _=>rfl,hp⟩
 rw[za q1];by_cases q2:x<O n
 ·rw[zb q2];by_cases q3:((S 0 1>>>(x&&&31))&&&1)=1
  ·rw[zb q3];exact⟨0,S,rfl,fun _ _ _=>rfl,hp⟩
  ·rw[za q3];refine⟨1,_,rfl,fun c i h=>by rw[Qi,za h],fun c hc=>?_⟩;rw[Qi,zb ⟨rfl,rfl⟩,Qe0,zab] at hc;rcases hc with hc | hc
   ·exact hp c hc
   ·have i1:0<=x.toInt:=by
     have:=zaZ.mp (Int32.not_lt.mp q1);have e:(0:Int32).toInt=0:=rfl;omega
    have i2:x.toInt<n:=by
     have h:=zY.mp q2;rw[Qac (by omega)] at h;exact h
    have ex:x=O x.toInt.toNat:=by
     rw[<-Int32.toInt_inj,Qac (by omega)];omega
    rw[ex] at hc;have:Qj ((1:Int32)<<<(O x.toInt.toNat&&&31)) c=decide (c=x.toInt.toNat):=Qdk (by omega) c;rw[this] at hc;have:=zai hc;omega
 ·rw[za q2];exact⟨0,S,rfl,fun _ _ _=>rfl,hp⟩
theorem QjI(hf1:Fx f1){S:MS}{n:Nat}{x:Int32}(hp:∀c,Qj (S 0 1) c=true->c<n):∃r S',f1 (5,0,[V 0,I x],[],S)=some (some (I r),S')/\(∀c i,¬(c=0/\i=1)->S' c i=S c i)/\∀c,Qj (S' 0 1) c=true->c<n:=by
 rw[Efm hf1];by_cases q1:x<0
 ·rw[zb q1];exact⟨0,S,rfl,fun _ _ _=>rfl,hp⟩
 rw[za q1];by_cases q2:x<S 0 0
 ·rw[zb q2];by_cases q3:((S 0 1>>>(x&&&31))&&&1)=0
  ·rw[zb q3];exact⟨0,S,rfl,fun _ _ _=>rfl,hp⟩
  ·rw[za q3];refine⟨1,_,rfl,fun c i h=>by rw[Qi,za h],fun c hc=>?_⟩;rw[Qi,zb ⟨rfl,rfl⟩,Qcl,zaf] at hc;exact hp c hc.1
 ·rw[za q2];exact⟨0,S,rfl,fun _ _ _=>rfl,hp⟩
theorem Qhh(hf1:Fx f1){S:MS}{n:Nat}(hn:1<=n/\n<=8)(h0:S 0 0=O n):∃S',f1 (31,0,[V 0],[],S)=some (none,S')/\Qa9 n (Qbu n) S':=by
 rw[Edq hf1];have k1:∀k,k<=64->∃B,f1 (31,2,[V 0,I 0],[],S)=f1 (31,2,[V 0,I (O k)],[],B)/\(∀i,B 0 i=S 0 i)/\∀i,i<k->B 1 i=0/\B 3 i=0/\B 5 i=0:=fun k=>by
  induction k with
  |zero=>exact fun _=>⟨S,rfl,fun _=>rfl,fun i hi=>absurd hi (by omega)⟩
  |succ k ih=>
   intro hk;obtain⟨B,eB,FB,B0⟩:=ih (by omega);rw[eB,Eu hf1,zb (show O k<64 from (Qq (b:=64) (by omega) (by omega)).mpr (by omega)),zb (Qz (by omega) (by omega)),QA (by omega),Qx];refine⟨_,rfl,fun i=>FB i,fun i hi=>?_⟩;by_cases e:i=k
   ·subst e;refine⟨?_,?_,?_⟩
    ·rw[Qi,za (by omega),Qi,za (by omega),Qi,za (by omega),Qi,za (by omega),Qi,zb ⟨rfl,rfl⟩]
    ·rw[Qi,za (by omega),Qi,za (by omega),Qi,zb ⟨rfl,rfl⟩]
    ·rw[Qi,za (by omega),Qi,zb ⟨rfl,rfl⟩]
   ·obtain⟨b1,b3,b5⟩:=B0 i (by omega);refine⟨?_,?_,?_⟩<;>rw[Qi,za (by omega),Qi,za (by omega),Qi,za (by omega),Qi,za (by omega),Qi,za (by omega)]
    ·exact b1
    ·exact b3
    ·exact b5
 obtain⟨B,eB,FB,B0⟩:=k1 64 (zo _);rw[eB,Eu hf1,za (by decide)];have k2:=Qaw (fun k=>f1 (31,51,[V 0,I (O k)],[],QE B 4 0 k fun _ => -1)) (n:=512) fun k hk=>by
  show f1 _=f1 _;rw[Ez hf1,zb (show O k<512 from (Qq (b:=512) (by omega) (by omega)).mpr hk),zb (Qz (by omega) hk),QA (by omega),Qx,QbG (by omega) rfl]
 have e2:f1 (31,51,[V 0,I 0],[],B)=f1 (31,73,[V 0,I 0],[],QE B 4 0 512 fun _ => -1):=by
  refine Eq.trans ?_ (k2.trans ?_)
  ·show _=f1 (_,_,_,_,QE B 4 0 0 _);rw[Qa8];rfl
  ·show f1 _=_;rw[Ez hf1,za (by decide)]
 rw[e2];generalize hC:QE B 4 0 512 (fun _ => -1)=C;have FC:∀c i,c≠4->C c i=B c i:=fun c i h=>by rw[<-hC,QD h]
 have C00:C 0 0=O n:=by rw[FC 0 0 (by decide),FB];exact h0
 have k3:=Qaw (fun k=>f1 (31,73,[V 0,I (O k)],[],QE C 5 0 k fun _=>1)) (n:=n) fun k hk=>by
  show f1 _=f1 _;rw[EaL hf1,QD (by decide),C00,zb ((Qq (by omega) (by omega)).mpr hk),zb (show O k<8 from (Qq (b:=8) (by omega) (by omega)).mpr (by omega)),zb (Qz (by omega) (by omega)),QA (by omega),Qx,QbG (by omega) rfl]
 have e3:f1 (31,73,[V 0,I 0],[],C)=f1 (31,100,[V 0,I (O n)],[],QE C 5 0 n fun _=>1):=by
  refine Eq.trans ?_ (k3.trans ?_)
  ·show _=f1 (_,_,_,_,QE C 5 0 0 _);rw[Qa8];rfl
  ·show f1 _=_;rw[EaL hf1,QD (by decide),C00,za zv]
 rw[e3];generalize hD:QE C 5 0 n (fun _=>1)=D;have FD:∀c i,c≠5->D c i=C c i:=fun c i h=>by rw[<-hD,QD h]
 have D00:D 0 0=O n:=by rw[FD 0 0 (by decide)];exact C00
 have D5:∀i,8<=i->i<64->D 5 i=0:=fun i h1 h2=>by
  rw[<-hD];show (if 5=5/\0<=i/\i<n then _ else _)=_;rw[za (by omega),FC 5 i (by decide)];exact (B0 i h2).2.2
 have D1:∀i,i<64->D 1 i=0:=fun i h=>by rw[FD 1 i (by decide),FC 1 i (by decide)];exact (B0 i h).1
 have D3:∀i,i<64->D 3 i=0:=fun i h=>by rw[FD 3 i (by decide),FC 3 i (by decide)];exact (B0 i h).2.1
 rw[Ecg hf1,D00];unfold Qbu;by_cases q:n<2
 ·have n1:n=1:=by omega
  subst n1;rw[zb (by decide),zb (by decide)];refine⟨_,rfl,⟨by show (0:Nat)<8;omega,trivial,by simp[Qb],rfl,by omega⟩,List.Perm.refl _,?_,rfl,?_,fun i hi h8=>?_,fun i h1 h2 _=>?_⟩
  ·rw[Qi,za (by omega)];exact D00
  ·show Ua D 0 4 0 1 0=0;rw[Qi,za (by omega)];exact D1 0 (by omega)
  ·simp only[Qb,zi] at hi;omega
  ·rw[Qi,za (by omega)];exact D5 i h1 h2
 ·rw[za (show ¬O n<2 from fun h=>q ((Qq (b:=2) (by omega) (by omega)).mp h)),za q];have k4:∀k,k<=n->∃E,f1 (31,142,[V 0,I 0],[],Ua (Ua (Ua D 0 4 8) 5 8 1) 1 8 1)=f1 (31,142,[V 0,I (O k)],[],E)/\(∀c i,c≠2->¬(c=3/\i=8)->¬(c=4/\64<=i/\i<72)->E c i=Ua (Ua (Ua D 0 4 8) 5 8 1) 1 8 1 c i)/\E 3 8=O k/\∀i,i<k->E 4 (64+i)=O i:=fun k=>by
   induction k with
   |zero=>exact fun _=>⟨_,rfl,fun _ _ _ _ _=>rfl,D3 8 (by omega),fun i hi=>absurd hi (by omega)⟩
   |succ k ih=>
    intro hk;obtain⟨E,eE,FE,E3,E4⟩:=ih (by omega);have E00:E 0 0=O n:=(FE 0 0 (by decide) (by omega) (by omega)).trans D00;have E04:E 0 4=O 8:=FE 0 4 (by decide) (by omega) (by omega);rw[eE,Eaf hf1,E00,E04,zb ((Qq (by omega) (by omega)).mpr (by omega)),zb (show O k<8 from (Qq (b:=8) (by omega) (by omega)).mpr (by omega)),QeI hf1 E (x:=8) (c:=k) (d:=k) (by omega) (by omega) (by omega) E3];simp only[zz];rw[Eb4 hf1,Qx];refine⟨_,rfl,fun c i h1 h2 h3=>?_,?_,fun i hi=>?_⟩
    ·rw[Qi,za (by omega),Qi,za (by omega),Qi,za (by omega)];exact FE c i h1 h2 h3
    ·rw[Qi,za (by omega),Qi,zb ⟨rfl,rfl⟩]
    ·rw[Qi,za (by omega),Qi,za (by omega),Qi];by_cases e:i=k
     ·rw[zb ⟨rfl,by omega⟩,e]
     ·rw[za (by omega)];exact E4 i (by omega)
  obtain⟨E,eE,FE,E3,E4⟩:=k4 n (zo _);have E00:E 0 0=O n:=(FE 0 0 (by decide) (by omega) (by omega)).trans D00;rw[eE,Eaf hf1,E00,za zv];have hk:(Qc (Qk ((List.range n).map Jvm.Term.arg))).length=n:=by rw[QT,zh,zal]
  have mem:∀u∈(List.range n).map Jvm.Term.arg,∃c,c<n/\u = .arg c:=fun u hu=>by
   obtain⟨c,hc,e⟩:=zD.mp hu;exact⟨c,zC.mp hc,e.symm⟩
  have ep:Qb (.op2 .iand (.arg 8) (Qk ((List.range n).map Jvm.Term.arg)))=List.range n++[8]:=by
   show Qb (Qk _)++[8]=_;rw[Qdi,Qek Qb (fun _=>rfl)]
  have ev:Qf (.op2 .iand (.arg 8) (Qk ((List.range n).map Jvm.Term.arg)))=List.range n:=by
   show Qf (Qk _)=_;rw[Qa7,Qek Qf (fun _=>rfl)]
  refine⟨E,rfl,⟨⟨⟨by omega,by omega⟩,Or.inl rfl,by rw[hk];omega,Qbs _,Qdg fun u hu=>?_⟩,trivial,?_,by rw[ev,zal],hn.2⟩,by rw[ev],E00,FE 0 4 (by decide) (by omega) (by omega),⟨FE 1 8 (by decide) (by omega) (by omega),by rw[hk];exact E3,fun i hi=>?_,Qdq fun u hu=>?_⟩,fun i hi h8=>?_,fun i h1 h2 h3=>?_⟩
  ·obtain⟨c,hc,e⟩:=mem u hu;rw[e];exact⟨trivial,by show c<8;omega⟩
  ·rw[ep,zl];refine⟨zat,by simp,fun a ha c hc e=>?_⟩;rw[zi] at hc;have:=zC.mp ha;omega
  ·rw[hk] at hi;rw[QT,show 8*8+i=64+i from rfl,E4 i hi]
   congr 1
   rw[zf,List.getElem?_map,List.getElem?_range hi];rfl
  ·obtain⟨c,hc,e⟩:=mem u hu;rw[e];show E 1 c=0;rw[FE 1 c (by decide) (by omega) (by omega),Qi,za (by omega),Qi,za (by omega),Qi,za (by omega)];exact D1 c (by omega)
  ·rw[ep,zc,zi,zC] at hi;have e:i=8:=by omega
   rw[e,FE 5 8 (by decide) (by omega) (by omega),Qi,za (by omega),Qi,zb ⟨rfl,rfl⟩]
  ·rw[ep,zc,zi,not_or] at h3;rw[FE 5 i (by decide) (by omega) (by omega),Qi,za (by omega),Qi,za (by omega),Qi,za (by omega)];exact D5 i h1 h2
theorem Qds(hf1:Fx f1)(n:Nat)(S:MS)(h1:1<=n)(h8:n<=8)(h0:S 0 0=O n):∃S',f1 (2,0,[V 0],[],S)=some (none,S')/\Q2 n (Qbu n) S'/\S' 0 1=0/\S' 0 2=0/\S' 0 3=0:=by
 obtain⟨A,eA,Va⟩:=Qhh hf1 ⟨h1,h8⟩ h0;rw[Ed0 hf1,eA];simp only[zz];have vU:∀(A:MS) (j:Nat),(j=1\/j=2\/j=3)->Qa9 n (Qbu n) A->Qa9 n (Qbu n) (Ua A 0 j 0):=fun A j hj v=>by
  obtain⟨G,pm,h0,h4,r,v1,v0⟩:=v;have u:∀c i,¬(c=0/\(i=1\/i=2\/i=3))->Ua A 0 j 0 c i=A c i:=fun c i h=>by rw[Qi,za (by omega)]
  exact⟨G,pm,(u 0 0 (by omega)).trans h0,(u 0 4 (by omega)).trans h4,Q6 (fun i=>⟨u 1 i (by omega),u 3 i (by omega)⟩) (fun i=>u 4 i (by omega)) _ G.1 r,fun i hi h8=>(u 5 i (by omega)).trans (v1 i hi h8),fun i a1 a2 a3=>(u 5 i (by omega)).trans (v0 i a1 a2 a3)⟩
 have vA:=vU _ 3 (Or.inr (Or.inr rfl)) (vU _ 2 (Or.inr (Or.inl rfl)) (vU A 1 (Or.inl rfl) Va));obtain⟨D,eD,FD,cD⟩:=Qg4 hf1 vA.1 vA.2.2.1 vA.2.2.2.1 vA.2.2.2.2.1;rw[Ea7 hf1,eD];simp only[zz];rw[Efo hf1];obtain⟨G,pm,h0,h4,r,v1,v0⟩:=vA;exact⟨D,rfl,⟨⟨G,pm,(FD 0 0 (by decide) (by omega)).trans h0,(FD 0 4 (by decide) (by omega)).trans h4,Q6 (fun i=>⟨FD 1 i (by decide) (by omega),FD 3 i (by decide) (by omega)⟩) (fun i=>FD 4 i (by decide) (by omega)) _ G.1 r,fun i hi h8=>(FD 5 i (by decide) (by omega)).trans (v1 i hi h8),fun i a1 a2 a3=>(FD 5 i (by decide) (by omega)).trans (v0 i a1 a2 a3)⟩,cD⟩,FD 0 1 (by decide) (by omega),FD 0 2 (by decide) (by omega),FD 0 3 (by decide) (by omega)⟩
theorem Qh7(hf1:Fx f1)(x:Int32):∃n,1<=n/\n<=8/\O n=(if x<1 then 1 else if 8<x then 8 else x)/\∀S,∃S',f1 (0,222,[V 0,I x],[],S)=some (none,S')/\Q2 n (Qbu n) S'/\S' 0 1=0/\S' 0 2=0/\S' 0 3=0:=by
 by_cases q1:x<1
 ·refine⟨1,by omega,by omega,by rw[zb q1];rfl,fun S=>?_⟩;rw[En hf1,zb q1,Ed hf1,za (by decide)];obtain⟨S',e,h⟩:=Qds hf1 1 (Ua S 0 0 1) (by omega) (by omega) rfl;rw[e];simp only[zz];rw[Em hf1];exact⟨S',rfl,h⟩
 by_cases q2:8<x
 ·refine⟨8,by omega,by omega,by rw[za q1,zb q2];rfl,fun S=>?_⟩;rw[En hf1,za q1,Ed hf1,zb q2];obtain⟨S',e,h⟩:=Qds hf1 8 (Ua S 0 0 8) (by omega) (by omega) rfl;rw[e];simp only[zz];rw[Em hf1];exact⟨S',rfl,h⟩
 have i1:1<=x.toInt:=by
  have:=zaZ.mp (Int32.not_lt.mp q1);have e:(1:Int32).toInt=1:=rfl;omega
 have i2:x.toInt<=8:=by
  have:=zaZ.mp (Int32.not_lt.mp q2);have e:(8:Int32).toInt=8:=rfl;omega
 have ex:x=O x.toInt.toNat:=by
  rw[<-Int32.toInt_inj,Qac (by omega)];omega
 refine⟨x.toInt.toNat,by omega,by omega,by rw[za q1,za q2];exact ex.symm,fun S=>?_⟩;rw[En hf1,za q1,Ed hf1,za q2];obtain⟨S',e,h⟩:=Qds hf1 x.toInt.toNat (Ua S 0 0 x) (by omega) (by omega) (by rw[Qi,zb ⟨rfl,rfl⟩];exact ex);rw[e];simp only[zz];rw[Em hf1];exact⟨S',rfl,h⟩
end Sys
theorem QhM{l:List Qd}{i:Nat}(h:i<l.length):(l.map QC).getD i []=QC (l.getD i .null):=by
 simp only[zf,List.getElem?_map,List.getElem?_eq_getElem h,Option.map_some,Option.getD_some]
def Qm:Nat->Nat
 |0=>1
 |n+1=>(n+1)*Qm n
def Qt:Qd->Nat
 | .arg _=>1
 | .op2 o (.arg _) f=>Qt f*(if o = .iand then Qm (Qc f).length else 2)
 | .add t f=>Qt t*Qt f
 |_=>1
theorem Qch:∀n,1<=Qm n
 |0=>zo _
 |n+1=>zX (by omega) (Qch n)
theorem Qd5(m:Nat):∀a,Qm (a+1)*Qm (m+1)<=Qm (m+(a+1))
 |0=>by show 1*1*Qm (m+1)<=Qm (m+1);omega
 |a+1=>by
  have ih:=Qd5 m a;show (a+1+1)*Qm (a+1)*Qm (m+1)<=(m+(a+1)+1)*Qm (m+(a+1));rw[z7];exact zap (by omega) ih
theorem QiF:∀t,Qu t->QN t=O (Qt t):=Q3
 (fun c _=>rfl)
 (fun o x f w ih=>by
  show QN f*(if o = .iand then QaX (Qc f).length 7 else 2)=O (Qt f*(if o = .iand then Qm (Qc f).length else 2));rw[ih,<-Qbz]
  congr 1
  have fe:∀k:Fin 9,QaX k.val 7=O (Qm k.val):=by decide
  split
  ·exact fe ⟨(Qc f).length,by have:=w.2.2.1.2;omega⟩
  ·rfl)
 (fun t f _ iht ihf=>by show QN t*QN f=O (Qt t*Qt f);rw[iht,ihf,Qbz]) rfl
theorem Qfz:∀t,Qu t->1<=Qt t/\(Qp t->Qt t<=Qm (Qf t).length)/\(QM t->Qt t*Qm (Qc t).length<=Qm (Qf t).length):=Q3
 (fun c _=>⟨zo _,fun _=>zo _,fun h=>absurd h id⟩)
 (fun o x f w ih=>by
  obtain⟨i1,-,i3⟩:=ih;have i3:=i3 w.2.2.2.1;have k2:=w.2.2.1.1;have f2:2<=Qm (Qc f).length:=by
   obtain⟨k,e⟩:∃k,(Qc f).length=k+2:=⟨(Qc f).length-2,by omega⟩;rw[e];show 2<=(k+2)*((k+1)*Qm k);have:=Qch k;have h1:1<=(k+1)*Qm k:=zX (by omega) this;exact zN (by omega) (zap (show 2<=k+2 by omega) h1)
  have ex:Qt (.op2 o (.arg x) f)=Qt f*(if o = .iand then Qm (Qc f).length else 2):=rfl;rw[ex];refine⟨?_,fun _=>?_,fun h=>absurd h id⟩
  ·refine zX i1 ?_
   split
   ·exact Qch _
   ·omega
  ·refine zN (zad _ ?_) i3
   split
   ·exact zo _
   ·exact f2)
 (fun t f w iht ihf=>by
  obtain⟨i1,i2,-⟩:=iht;obtain⟨j1,-,j3⟩:=ihf;have i2:=i2 w.1;have j3:=j3 w.2.1;have ex:Qt (.add t f)=Qt t*Qt f:=rfl;have ev:(Qf (.add t f)).length=(Qf f).length+(Qf t).length:=by show (Qf t++Qf f).length=_;rw[zd];omega
  have ek:(Qc (.add t f)).length=(Qc f).length+1:=rfl;rw[ex,ev,ek];refine⟨zX i1 j1,fun h=>absurd h id,fun _=>?_⟩;have hp:=zah.mpr (QcC t w.2.2.1 w.1);have hk:(Qc f).length<=(Qf f).length:=by
   have:=Qbl (Qc f) (QaR w.2.2.2);rw[Qby Qf (fun _ _=>rfl) rfl f w.2.2.2 w.2.1] at this;exact this
  obtain⟨a,ea⟩:∃a,(Qf t).length=a+1:=⟨(Qf t).length-1,by omega⟩;rw[ea] at i2 ⊢;refine zN ?_ (Qd5 (Qf f).length a);show Qt t*Qt f*(((Qc f).length+1)*Qm (Qc f).length)<=Qm (a+1)*(((Qf f).length+1)*Qm (Qf f).length);rw[z7];refine zap i2 ?_;rw[zU];exact zap (by omega) j3)
 ⟨zo _,fun h=>absurd h id,fun _=>zo _⟩
def Qv:Qd->Prop
 | .arg c=>c<8
 | .op2 o (.arg _) f=>(o = .iand\/o = .ior)/\2<=(Qc f).length/\QM f/\Qv f
 | .add t f=>Qp t/\QM f/\Qv t/\Qv f
 | .null=>True
 |_=>False
theorem Qan{P:Qd->Prop}(leaf:∀c,c<8->P (.arg c))(node:∀o x f,Qv (.op2 o (.arg x) f)->P f->P (.op2 o (.arg x) f))(cons:∀t f,Qv (.add t f)->P t->P f->P (.add t f))(nil:P .null):∀t,Qv t->P t
 | .arg c,h=>leaf c h
 | .op2 o (.arg x) f,h=>node o x f h (Qan leaf node cons nil f h.2.2.2)
 | .add t f,h=>cons t f h (Qan leaf node cons nil t h.2.2.1) (Qan leaf node cons nil f h.2.2.2)
 | .null,_=>nil
theorem QbC:∀t,Qu t->Qv t:=Q3 (fun c h=>h) (fun o x f w ih=>⟨w.2.1,w.2.2.1.1,w.2.2.2.1,ih⟩) (fun t f w iht ihf=>⟨w.1,w.2.1,iht,ihf⟩) trivial
theorem Qbe:∀ {f:Qd},Qv f->∀u∈Qc f,Qp u/\Qv u
 | .add t f,h,u,hu=>by
  rcases zt.mp hu with e | e
  ·subst e;exact⟨h.1,h.2.2.1⟩
  ·exact Qbe h.2.2.2 u e
 | .null,_,u,hu=>absurd hu (by simp[Qc])
 | .arg _,_,u,hu=>absurd hu (by simp[Qc])
 | .op2 _ (.arg _) _,_,u,hu=>absurd hu (by simp[Qc])
theorem Qcu:∀ {l:List Qd},(∀t∈l,Qp t/\Qv t)->Qv (Qk l)
 |[],_=>trivial
 |t::l,h=>⟨(h t (by simp)).1,Qbs l,(h t (by simp)).2,Qcu fun u hu=>h u (by simp[hu])⟩
theorem Qbh(g:Qd->List Nat)(hg:∀t f,g (.add t f)=g t++g f)(h0:g .null=[]):∀f,Qv f->QM f->(Qc f).flatMap g=g f
 | .add t f,w,_=>by show (t::Qc f).flatMap g=_;rw[zg,Qbh g hg h0 f w.2.2.2 w.2.1,hg]
 | .null,_,_=>by rw[h0];rfl
theorem Qdl:∀f,Qv f->QM f->Qk (Qc f)=f
 | .add t f,w,_=>by show Jvm.Term.add t (Qk (Qc f))=_;rw[Qdl f w.2.2.2 w.2.1]
 | .null,_,_=>rfl
theorem Qbf:∀t,Qv t->Qp t->Qf t≠[]:=fun t w=>(Qan (P:=fun t=>(Qp t->Qf t≠[])/\(QM t->Qc t≠[]->Qf t≠[]))
 (fun c _=>⟨fun _=>by simp[Qf],fun h=>absurd h id⟩)
 (fun o x f w ih=>⟨fun _=>ih.2 w.2.2.1 (fun e=>by have:=w.2.1;rw[e] at this;exact absurd this (by simp)),fun h=>absurd h id⟩)
 (fun t f w iht ihf=>⟨fun h=>absurd h id,fun _ _ e=>by
  have:Qf t++Qf f=[]:=e;exact iht.1 w.1 (zag.mp this).1⟩)
 ⟨fun h=>absurd h id,fun _ h=>absurd rfl h⟩ t w).1
def Qr:List Qd->Nat
 |[]=>1
 |u::l=>Qt u*Qr l
theorem Qbw:∀l l':List Qd,Qr (l++l')=Qr l*Qr l'
 |[],l'=>(Nat.one_mul _).symm
 |u::l,l'=>by show Qt u*Qr (l++l')=Qt u*Qr l*Qr l';rw[Qbw l l',z7]
theorem QdV(l:List Qd):Qr l.reverse=Qr l:=by
 induction l with
 |nil=>rfl
 |cons u l ih=>rw[zaW,Qbw,ih];show Qr l*(Qt u*1)=Qt u*Qr l;rw[zaB,zQ]
theorem Qco:∀l,Qt (Qk l)=Qr l
 |[]=>rfl
 |u::l=>by show Qt u*Qt (Qk l)=_;rw[Qco l];rfl
theorem Qev(f:Qd)(w:Qv f)(h:QM f):Qt f=Qr (Qc f):=by rw[<-Qco,Qdl f w h]
theorem QdD:∀t,Qv t->Qt (Qe t)=Qt t/\(QM t->(Qc (Qe t)).length=(Qc t).length):=Qan
 (fun c _=>⟨rfl,fun h=>absurd h id⟩)
 (fun o x f w ih=>⟨by show Qt (Qe f)*_=Qt f*_;rw[ih.1,ih.2 w.2.2.1],fun h=>absurd h id⟩)
 (fun t f w iht ihf=>⟨by show Qt (Qe t)*Qt (Qe f)=_;rw[iht.1,ihf.1];rfl,fun _=>by show (Qc (Qe f)).length+1=(Qc f).length+1;rw[ihf.2 w.2.1]⟩)
 ⟨rfl,fun _=>rfl⟩
theorem Qbc:∀t,Qv t->Qf (Qe t)=Qf t/\Qv (Qe t)/\(Qp t->Qp (Qe t))/\(QM t->QM (Qe t)/\Qc (Qe t)=(Qc t).map Qe)/\Qe (Qe t)=Qe t:=Qan
 (fun c h=>⟨rfl,h,fun _=>trivial,fun h=>absurd h id,rfl⟩)
 (fun o x f w ih=>by
  obtain⟨i1,i2,i3,i4,i5⟩:=ih;obtain⟨j1,j2⟩:=i4 w.2.2.1;refine⟨i1,⟨w.1,by rw[j2,zh];exact w.2.1,j1,i2⟩,fun _=>trivial,fun h=>absurd h id,?_⟩;show Jvm.Term.op2 o (.arg 0) (Qe (Qe f)) = .op2 o (.arg 0) (Qe f);rw[i5])
 (fun t f w iht ihf=>by
  obtain⟨i1,i2,i3,i4,i5⟩:=iht;obtain⟨j1,j2,j3,j4,j5⟩:=ihf;refine⟨?_,⟨i3 w.1,(j4 w.2.1).1,i2,j2⟩,fun h=>absurd h id,fun _=>⟨trivial,?_⟩,?_⟩
  ·show Qf (Qe t)++Qf (Qe f)=_;rw[i1,j1];rfl
  ·show Qe t::Qc (Qe f)=_;rw[(j4 w.2.1).2];rfl
  ·show Jvm.Term.add (Qe (Qe t)) (Qe (Qe f)) = .add (Qe t) (Qe f);rw[i5,j5])
 ⟨rfl,trivial,fun h=>absurd h id,fun _=>⟨trivial,rfl⟩,rfl⟩
theorem Qes:∀t,Qv t->1<=Qt t:=Qan (fun c _=>zo _)
 (fun o x f w ih=>zX ih (by split;exact Qch _;omega)) (fun t f _ iht ihf=>zX iht ihf) (zo _)
theorem Qbt:∀l:List Qd,(∀u∈l,Qv u)->1<=Qr l
 |[],_=>zo _
 |u::l,h=>zX (Qes u (h u (by simp))) (Qbt l fun v hv=>h v (by simp[hv]))
theorem Qaz(b:Nat->Bool)(v:Int32)(u:Qd)(K:List Qd):Qa b v (u::K)=if Qg b u=v then u::Qa b v K else Qa b v K:=by
 unfold Qa;rw[List.filter_cons];by_cases e:Qg b u=v
 ·rw[zb (by simpa using e),zb e]
 ·rw[za (by simpa using e),za e]
theorem QeC(b:Nat->Bool):∀K:List Qd,Qr K=Qr (Qa b 0 K)*Qr (Qa b 2 K)*Qr (Qa b 1 K)/\K.length=(Qa b 0 K).length+(Qa b 2 K).length+(Qa b 1 K).length
 |[]=>⟨rfl,rfl⟩
 |u::K=>by
  obtain⟨i1,i2⟩:=QeC b K;rw[Qaz,Qaz,Qaz];have ex:Qr (u::K)=Qt u*Qr K:=rfl;rw[ex,i1,zs,i2];rcases QaC b u with e | e | e
  ·rw[e,zb rfl,za (by decide),za (by decide)];refine⟨?_,by rw[zs];omega⟩;show _=Qt u*_*_*_;simp only[z7]
  ·rw[e,zb rfl,za (by decide),za (by decide)];refine⟨?_,by rw[zs];omega⟩;show _=_*_*(Qt u*_);rw[zU]
  ·rw[e,zb rfl,za (by decide),za (by decide)];refine⟨?_,by rw[zs];omega⟩;show _=_*(Qt u*_)*_;simp only[z7,zU]
theorem QdZ{b:Nat->Bool}{v:Int32}:∀ {L:List Qd},(∀u∈L,Qp u/\Qv u/\Qg b u=v)->v≠2->Qr (QB L)=Qr L*Qm L.length/\(QB L).flatMap Qf=L.flatMap Qf/\(∀u∈QB L,Qp u/\Qv u/\Qg b u=v)/\(L≠[]->QB L≠[])/\(QB L).length<=1
 |[],_,_=>⟨rfl,rfl,fun u hu=>absurd hu (by simp[QB]),fun h=>absurd rfl h,by simp[QB]⟩
 |[u],h,_=>⟨by show Qt u*1=Qt u*1*1;omega,rfl,h,fun _=>by simp[QB],by simp[QB]⟩
 |u::w::L,h,hv=>by
  have ev:Qf (.op2 .iand (.arg 0) (Qk (u::w::L)))=(u::w::L).flatMap Qf:=Qa7 _;refine⟨?_,?_,fun t ht=>?_,fun _=>by simp[QB],by simp[QB]⟩
  ·show Qt (.op2 .iand (.arg 0) (Qk (u::w::L)))*1=_;show Qt (Qk (u::w::L))*(if Jvm.Binary.iand = .iand then Qm (Qc (Qk (u::w::L))).length else 2)*1=_;rw[zb rfl,QT,Qco,zaB]
  ·show Qf (.op2 .iand (.arg 0) (Qk (u::w::L)))++[]=_;rw[ev,zk]
  ·have ht':t = .op2 .iand (.arg 0) (Qk (u::w::L)):=zi.mp ht;subst ht';refine⟨trivial,⟨Or.inl rfl,by rw[QT];simp,Qbs _,Qcu fun x hx=>⟨(h x hx).1,(h x hx).2.1⟩⟩,?_⟩;have hu:=h u (by simp);have all1:∀p:Nat->Bool,(∀x∈u::w::L,(Qf x).all p=true)->(Qf (.op2 .iand (.arg 0) (Qk (u::w::L)))).all p=true:=fun p hp=>by rw[ev];exact QaJ.mpr hp
   rcases QaC b u with e | e | e
   ·have e0:v=0:=by rw[<-hu.2.2,e]
    rw[e0] at h ⊢;have a0:=all1 _ fun x hx=>Qbj (h x hx).2.2;unfold Qg;rw[za,zb a0];intro q;rw[ev] at q a0;exact QbV (Qbf u hu.2.1 hu.1) (QaJ.mp q u (by simp)) (QaJ.mp a0 u (by simp))
   ·have e0:v=1:=by rw[<-hu.2.2,e]
    rw[e0] at h ⊢;unfold Qg;rw[zb (all1 _ fun x hx=>Qbp (h x hx).2.2)]
   ·exact absurd (hu.2.2.symm.trans e) hv
theorem Qgq{b:Nat->Bool}{K:List Qd}(hK:∀u∈K,Qp u/\Qv u)(hn:K≠[])(h0:Qa b 1 K=[])(h2:Qa b 2 K=[]):Qau b (K.flatMap Qf)=0:=by
 have ha:∀u∈K,(Qf u).all (fun c => !b c)=true:=fun u hu=>by
  rcases QaC b u with e | e | e
  ·exact Qbj e
  ·exact absurd e (Q7.mp h0 u hu)
  ·exact absurd e (Q7.mp h2 u hu)
 unfold Qau;rw[za,zb (QaJ.mpr ha)];intro q;cases K with
 |nil=>exact hn rfl
 |cons u K=>
  have hu:=hK u (by simp);exact QbV (Qbf u hu.2 hu.1) (QaJ.mp q u (by simp)) (ha u (by simp))
theorem Qic{b:Nat->Bool}{K:List Qd}(hK:∀u∈K,Qp u/\Qv u)(h:Qa b 2 K≠[]\/(Qa b 0 K≠[]/\Qa b 1 K≠[])):Qau b (K.flatMap Qf)=2:=by
 have ex:∀v,Qa b v K≠[]->∃u∈K,Qg b u=v:=fun v hv=>by
  obtain⟨u,hu⟩:=zan _ hv;exact⟨u,(Qy.mp hu).1,(Qy.mp hu).2⟩
 unfold Qau;rw[za,za]
 ·intro q;rw[QaJ] at q;rcases h with h | ⟨-,h⟩
  ·obtain⟨u,hu,e⟩:=ex 2 h;exact (Qb9 e).2 (q u hu)
  ·obtain⟨u,hu,e⟩:=ex 1 h;exact QbV (Qbf u (hK u hu).2 (hK u hu).1) (Qbp e) (q u hu)
 ·intro q;rw[QaJ] at q;rcases h with h | ⟨h,-⟩
  ·obtain⟨u,hu,e⟩:=ex 2 h;exact (Qb9 e).1 (q u hu)
  ·obtain⟨u,hu,e⟩:=ex 0 h;exact QbV (Qbf u (hK u hu).2 (hK u hu).1) (q u hu) (Qbj e)
def Qee(b:Nat->Bool)(T:Qd):Prop:=∃L0 L1,T = .op2 .ior (.arg 0) (Qk (L0++L1))/\L0≠[]/\L1≠[]/\(∀u∈L0,Qp u/\Qv u/\Qg b u=0)/\∀u∈L1,Qp u/\Qv u/\Qg b u=1
def QbO(b:Nat->Bool)(t T:Qd):Prop:=Qp T/\Qv T/\(Qf T).Perm (Qf t)/\(Qg b t≠2->T=Qe t)/\(Qg b t=2->Qt T<=Qt t/\Qee b T)
def Qc6(b:Nat->Bool):List Qd->List Qd->Prop
 |[],[]=>True
 |u::l,v::l'=>QbO b u v/\Qc6 b l l'
 |_,_=>False
theorem Qb3{b:Nat->Bool}{t T:Qd}(h:QbO b t T):Qg b T=Qg b t:=by
 show Qau b (Qf T)=Qau b (Qf t);exact QdS h.2.2.1
theorem QdT{b:Nat->Bool}:∀ {K K':List Qd},(∀u∈K,Qv u)->Qc6 b K K'->(∀u∈K',Qp u/\Qv u)/\(K'.flatMap Qf).Perm (K.flatMap Qf)/\Qr K'<=Qr K/\K'.length=K.length/\((∀u∈K',Qg b u≠2)->K'=K.map Qe)/\(∀u∈K',Qg b u=2->Qee b u)/\((∀u∈K,Qs b u=false)->∀u∈K',Qs b u=false)
 |[],[],_,_=>⟨fun u hu=>absurd hu (by simp),List.Perm.refl _,zo _,rfl,fun _=>rfl,fun u hu=>absurd hu (by simp),fun _ u hu=>absurd hu (by simp)⟩
 |u::K,v::K',hw,h=>by
  obtain⟨i1,i2,i3,i4,i5,i6,i7⟩:=QdT (fun x hx=>hw x (by simp[hx])) h.2;have lb:=Qb3 h.1;obtain⟨g1,g2,g3,g4,g5⟩:=h.1;refine⟨fun x hx=>?_,?_,?_,by rw[zs,zs,i4],fun hx=>?_,fun x hx e=>?_,fun ha x hx=>?_⟩
  ·rcases zt.mp hx with e | e
   ·rw[e];exact⟨g1,g2⟩
   ·exact i1 x e
  ·rw[zg,zg];exact List.Perm.append g3 i2
  ·show Qt v*Qr K'<=Qt u*Qr K;refine zap ?_ i3;by_cases q:Qg b u=2
   ·exact (g5 q).1
   ·rw[g4 q,(QdD u (hw u (by simp))).1];exact zo _
  ·rw[zE,i5 fun x hx'=>hx x (by simp[hx']),g4 (by rw[<-lb];exact hx v (by simp))]
  ·rcases zt.mp hx with e' | e'
   ·subst e';exact (g5 (by rw[<-lb];exact e)).2
   ·exact i6 x e' e
  ·rcases zt.mp hx with e | e
   ·subst e;have:Qs b x=Qs b u:=by
     rw[Bool.eq_iff_iff,Qab,Qab];exact⟨fun h c h1 h2=>g3.mem_iff.mp (h c h1 h2),fun h c h1 h2=>g3.mem_iff.mpr (h c h1 h2)⟩
    rw[this];exact ha u (by simp)
   ·exact i7 (fun y hy=>ha y (by simp[hy])) x e
theorem Qg0{b:Nat->Bool}{t:Qd}{A0 A1 Y K':List Qd}(hY:Y.length<=1)(mY:∀y∈Y,Qee b y)(h0:∀u∈A0,Qp u/\Qv u/\Qg b u=0)(h1:∀u∈A1,Qp u/\Qv u/\Qg b u=1)(ne:Y≠[]\/(A0≠[]/\A1≠[])):Qee b (.op2 .ior (.arg 0) (Qk (A0++Y.flatMap Qn++A1)))/\Qv (.op2 .ior (.arg 0) (Qk (A0++Y.flatMap Qn++A1)))/\Qr Y=Qr (Y.flatMap Qn)*2 ^ Y.length/\Y.flatMap Qf=(Y.flatMap Qn).flatMap Qf:=by
 have wzI:∀L0 L1:List Qd,L0≠[]->L1≠[]->(∀u∈L0,Qp u/\Qv u/\Qg b u=0)->(∀u∈L1,Qp u/\Qv u/\Qg b u=1)->Qv (.op2 .ior (.arg 0) (Qk (L0++L1))):=fun L0 L1 n0 n1 m0 m1=>by
  refine⟨Or.inr rfl,?_,Qbs _,Qcu fun u hu=>?_⟩
  ·rw[QT,zd];have:=zah.mpr n0;have:=zah.mpr n1;omega
  ·rcases zc.mp hu with q | q
   ·exact⟨(m0 u q).1,(m0 u q).2.1⟩
   ·exact⟨(m1 u q).1,(m1 u q).2.1⟩
 match Y,hY,mY,ne with
 |[],_,_,ne=>
  have ne':A0≠[]/\A1≠[]:=by
   rcases ne with h | h
   ·exact absurd rfl h
   ·exact h
  rw[zr,zk];exact⟨⟨A0,A1,rfl,ne'.1,ne'.2,h0,h1⟩,wzI A0 A1 ne'.1 ne'.2 h0 h1,rfl,rfl⟩
 |[y],_,mY,_=>
  obtain⟨L0,L1,e,n0,n1,m0,m1⟩:=mY y (by simp);have ek:Qn y=L0++L1:=by rw[e];exact QT _
  have el:Qf y=(L0++L1).flatMap Qf:=by rw[e];exact Qa7 _
  have ec:Qt y=Qr (L0++L1)*2:=by
   rw[e];show Qt (Qk (L0++L1))*(if Jvm.Binary.ior = .iand then _ else 2)=_;rw[za (by decide),Qco]
  rw[zg,zr,zk,ek,show A0++(L0++L1)++A1=(A0++L0)++(L1++A1) from by simp only[zq]];have n0':A0++L0≠[]:=fun h=>n0 (zag.mp h).2;have n1':L1++A1≠[]:=fun h=>n1 (zag.mp h).1;have m0':∀u∈A0++L0,Qp u/\Qv u/\Qg b u=0:=fun u hu=>by
   rcases zc.mp hu with q | q
   ·exact h0 u q
   ·exact m0 u q
  have m1':∀u∈L1++A1,Qp u/\Qv u/\Qg b u=1:=fun u hu=>by
   rcases zc.mp hu with q | q
   ·exact m1 u q
   ·exact h1 u q
  refine⟨⟨A0++L0,L1++A1,rfl,n0',n1',m0',m1'⟩,wzI _ _ n0' n1' m0' m1',?_,?_⟩
  ·show Qt y*1=Qr (L0++L1)*2 ^ 1;rw[ec,zaB]
  ·rw[zg,zr,zk,el]
 |_::_::_,h,_,_=>exact absurd h (by simp)
theorem QfV{e f:Nat}(he:1<=e)(hf:1<=f):2*(Qm e*Qm f)<=Qm (e+f):=by
 obtain⟨a,rfl⟩:∃a,e=a+1:=⟨e-1,by omega⟩;obtain⟨m,rfl⟩:∃m,f=m+1:=⟨f-1,by omega⟩;have h:=Qd5 m a;show _<=Qm (a+1+m+1);have h2:Qm (a+1+m+1)=(a+1+m+1)*Qm (m+(a+1)):=by rw[show m+(a+1)=a+1+m from by omega];rfl
 rw[h2];exact zap (by omega) h
theorem QfA(e f:Nat):Qm e*Qm f<=Qm (e+f):=by
 rcases Nat.eq_zero_or_pos e with h | h
 ·subst h;show 1*Qm f<=Qm (0+f);rw[zL];omega
 rcases Nat.eq_zero_or_pos f with h' | h'
 ·subst h';show Qm e*1<=Qm e;rw[zaB];exact zo _
 have:=QfV h h';omega
theorem Qdw(n:Nat):Qm n<=Qm (n+1):=Nat.le_mul_of_pos_left _ (by omega)
theorem Qgr{b:Nat->Bool}:∀ {l:List Qd},l.Pairwise (fun u v=>QK (Qg b u)<=QK (Qg b v))->l=Qa b 0 l++Qa b 2 l++Qa b 1 l
 |[],_=>rfl
 |u::l,h=>by
  obtain⟨h1,h2⟩:=zay.mp h;have ih:=Qgr h2;rw[Qaz,Qaz,Qaz];have r0:QK 0=0:=rfl;have r2:QK 2=1:=rfl;have r1:QK 1=2:=rfl;rcases QaC b u with e | e | e
  ·rw[e,zb rfl,za (by decide),za (by decide)];rw[zak,zak,<-ih]
  ·have z0:Qa b 0 l=[]:=Q7.mpr fun v hv q=>by have:=h1 v hv;rw[e,q,r0,r1] at this;omega
   have z2:Qa b 2 l=[]:=Q7.mpr fun v hv q=>by have:=h1 v hv;rw[e,q,r2,r1] at this;omega
   rw[z0,z2] at ih;rw[e,za (by decide),za (by decide),zb rfl,z0,z2];show u::l=u::Qa b 1 l;rw[zJ,zJ] at ih;rw[<-ih]
  ·have z0:Qa b 0 l=[]:=Q7.mpr fun v hv q=>by have:=h1 v hv;rw[e,q,r0,r2] at this;omega
   rw[z0,zJ] at ih;rw[e,za (by decide),zb rfl,za (by decide),z0];show u::l=u::(Qa b 2 l++Qa b 1 l);rw[<-ih]
theorem Qey{r:Nat->Nat}:∀ {n:Nat},Qaa r n=true->∀i j,i<=j->j<n->r i<=r j
 |0,_,_,_,_,h=>absurd h (by omega)
 |n+1,h,i,j,hij,hj=>by
  have h':(Qaa r n&&(n==0||decide (r (n-1)<=r n)))=true:=h;rw[zaf] at h';by_cases e:j=n
  ·subst e;by_cases e':i=j
   ·rw[e'];exact zo _
   have ih:=Qey h'.1 i (j-1) (by omega) (by omega);have h2:=h'.2;rw[zab] at h2;rcases h2 with q | q
   ·have:j=0:=by simpa using q
    omega
   ·exact zN ih (zai q)
  ·exact Qey h'.1 i j hij (by omega)
theorem QeK{r:Nat->Nat}:∀ {n:Nat},Qad r n=true->∀i j,i<=j->j<n->r j<=r i
 |0,_,_,_,_,h=>absurd h (by omega)
 |n+1,h,i,j,hij,hj=>by
  have h':(Qad r n&&(n==0||decide (r n<=r (n-1))))=true:=h;rw[zaf] at h';by_cases e:j=n
  ·subst e;by_cases e':i=j
   ·rw[e'];exact zo _
   have ih:=QeK h'.1 i (j-1) (by omega) (by omega);have h2:=h'.2;rw[zab] at h2;rcases h2 with q | q
   ·have:j=0:=by simpa using q
    omega
   ·exact zN (zai q) ih
  ·exact QeK h'.1 i j hij (by omega)
theorem Qgj{b:Nat->Bool}{l:List Qd}(h:Qaa (fun i=>QK (Qg b (l.getD i .null))) l.length=true):l.Pairwise (fun u v=>QK (Qg b u)<=QK (Qg b v)):=by
 rw[zaD];intro i j hi hj hij;have:=Qey h i j (by omega) hj;simp only[zf,List.getElem?_eq_getElem hi,List.getElem?_eq_getElem hj] at this;exact this
theorem QiE{b:Nat->Bool}{l:List Qd}(h:Qad (fun i=>QK (Qg b (l.getD i .null))) l.length=true):l.reverse.Pairwise (fun u v=>QK (Qg b u)<=QK (Qg b v)):=by
 rw[List.pairwise_reverse,zaD];intro i j hi hj hij;have:=QeK h i j (by omega) hj;simp only[zf,List.getElem?_eq_getElem hi,List.getElem?_eq_getElem hj] at this;exact this
theorem Qg6(b:Nat->Bool)(l l':List Qd):QQ b (l++l')=QQ b l++QQ b l':=by unfold QQ;rw[zn]
theorem Qe1{b:Nat->Bool}:∀ {l:List Qd},(∀u∈l,Qg b u≠2)->QQ b l=l
 |[],_=>rfl
 |u::l,h=>by rw[QcE,za (h u (by simp)),Qe1 fun v hv=>h v (by simp[hv])];rfl
theorem Qfs{b:Nat->Bool}:∀ {l:List Qd},(∀u∈l,Qg b u=2)->QQ b l=l.flatMap Qn
 |[],_=>rfl
 |u::l,h=>by rw[QcE,zb (h u (by simp)),Qfs fun v hv=>h v (by simp[hv]),zg]
theorem Qf9{b:Nat->Bool}{l:List Qd}(h:l.Pairwise (fun u v=>QK (Qg b u)<=QK (Qg b v))):QQ b l=Qa b 0 l++(Qa b 2 l).flatMap Qn++Qa b 1 l:=by
 have e:QQ b l=QQ b (Qa b 0 l++Qa b 2 l++Qa b 1 l):=by rw[<-Qgr h]
 rw[e,Qg6,Qg6,Qe1 (l:=Qa b 0 l) (fun u hu=>by rw[(Qy.mp hu).2];decide),Qe1 (l:=Qa b 1 l) (fun u hu=>by rw[(Qy.mp hu).2];decide),Qfs (l:=Qa b 2 l) fun u hu=>(Qy.mp hu).2]
theorem QeQ(b:Nat->Bool)(v:Int32)(l:List Qd):Qa b v l.reverse=(Qa b v l).reverse:=by unfold Qa;rw[List.filter_reverse]
theorem Qfu (b : Nat -> Bool) : ∀ t, Qv t -> (Qp t -> ∀ T, QJ b t = some T -> QbO b t T) /\ (QM t -> ∀ f', QJ b t = some f' -> QM f' /\ Qc6 b (Qc t) (Qc f')) := Qan
  (fun c hc => ⟨fun _ T h => by
    have e : T = .arg c := (Option.some.inj h).symm;subst e;refine ⟨trivial, hc, List.Perm.refl _, fun _ => rfl, fun h => ?_⟩;exfalso;have h2 := Qb9 h;simp only [Qf, zaO, zaX, zae] at h2;cases e : b c
    · exact h2.2 (by rw [e]; rfl)
    · exact h2.1 e, fun h => absurd h id⟩)
  (fun o x f w ih => ⟨fun _ T h => by
    have w' := w;obtain ⟨wo, w2, wF, wf⟩ := w;have eI : QJ b (.op2 o (.arg x) f) = if Qg b (.op2 o (.arg x) f) = 0 then some (.op2 o (.arg 0) (Qe f)) else (QJ b f).bind fun f' => if o = .iand then QaE b (Qc f') else QaG b (Qc f') := rfl;obtain ⟨s1, s2, s3, s4, s5⟩ := Qbc _ w';have stay : T = Qe (.op2 o (.arg x) f) -> Qg b (.op2 o (.arg x) f) ≠ 2 -> QbO b (.op2 o (.arg x) f) T := fun e q => by
      subst e;exact ⟨s3 trivial, s2, by rw [s1], fun _ => rfl, fun h => absurd h q⟩
    rw [eI] at h;by_cases q0 : Qg b (.op2 o (.arg x) f) = 0
    · rw [zb q0] at h
      exact stay (Option.some.inj h).symm (by rw [q0]; decide)
    rw [za q0] at h;cases hf : QJ b f with
    | none => rw [hf] at h; exact absurd h (by simp)
    | some f' =>
      rw [hf] at h;have h' : (if o = .iand then QaE b (Qc f') else QaG b (Qc f')) = some T := h;obtain ⟨F', A⟩ := ih.2 wF f' hf;have kz := Qbe wf;obtain ⟨a1, a2, a3, a4, a5, a6, -⟩ := QdT (fun u hu => (kz u hu).2) A;have lvf : Qf (.op2 o (.arg x) f) = (Qc f).flatMap Qf := (Qbh Qf (fun _ _ => rfl) rfl f wf wF).symm;have lbt : Qg b (.op2 o (.arg x) f) = Qau b ((Qc f').flatMap Qf) := by
        show Qau b (Qf (.op2 o (.arg x) f)) = _;rw [lvf]; exact QdS a2.symm
      have prt : Qt (.op2 o (.arg x) f) = Qr (Qc f) * (if o = .iand then Qm (Qc f).length else 2) := by
        show Qt f * _ = _; rw [Qev f wf wF]
      generalize Qc f' = K' at *;have n2 : K' ≠ [] := fun e => by rw [e] at a4; simp at a4; omega
      have same : Qa b 2 K' = [] -> (Qa b 0 K' = [] \/ Qa b 1 K' = []) -> T = .op2 o (.arg 0) (Qk K') -> QbO b (.op2 o (.arg x) f) T := fun z2 z e => by
        refine stay ?_ ?_
        · rw [e, a5 (Q7.mp z2), <- Qa0, Qdl f wf wF]; rfl
        · rw [lbt]
          rcases z with z | z
          · rw [QdX z z2]; decide
          · rw [Qgq a1 n2 z z2]; decide
      have mixed : ∀ (A0 A1 : List Qd), (Qa b 2 K').length <= 1 -> (Qa b 2 K' ≠ [] \/ (Qa b 0 K' ≠ [] /\ Qa b 1 K' ≠ [])) -> (Qa b 0 K' ≠ [] -> A0 ≠ []) -> (Qa b 1 K' ≠ [] -> A1 ≠ []) -> (∀ u ∈ A0, Qp u /\ Qv u /\ Qg b u = 0) -> (∀ u ∈ A1, Qp u /\ Qv u /\ Qg b u = 1) -> (∀ a, (A0.flatMap Qf).count a = ((Qa b 0 K').flatMap Qf).count a) -> (∀ a, (A1.flatMap Qf).count a = ((Qa b 1 K').flatMap Qf).count a) -> 2 * (Qr A0 * Qr ((Qa b 2 K').flatMap Qn) * Qr A1) <= Qt (.op2 o (.arg x) f) -> T = .op2 .ior (.arg 0) (Qk (A0 ++ (Qa b 2 K').flatMap Qn ++ A1)) -> QbO b (.op2 o (.arg x) f) T := fun A0 A1 y1 ne n0 n1 m0 m1 v0 v1 hc e => by
        have ne' : Qa b 2 K' ≠ [] \/ (A0 ≠ [] /\ A1 ≠ []) := by
          rcases ne with h | h
          · exact Or.inl h
          · exact Or.inr ⟨n0 h.1, n1 h.2⟩
        obtain ⟨x1, x2, x3, x4⟩ := Qg0 (t := T) (K' := K') y1 (fun y hy => a6 y (Qy.mp hy).1 (Qy.mp hy).2) m0 m1 ne';rw [<- e] at x1 x2;refine ⟨by rw [e]; exact trivial, x2, ?_, fun q => absurd (by rw [lbt]; exact Qic a1 ne) q, fun _ => ⟨?_, x1⟩⟩
        · refine List.Perm.trans (l₂ := K'.flatMap Qf) ?_ (by rw [lvf]; exact a2)
          rw [e, show Qf (.op2 .ior (.arg 0) (Qk (A0 ++ (Qa b 2 K').flatMap Qn ++ A1))) = (A0 ++ (Qa b 2 K').flatMap Qn ++ A1).flatMap Qf from Qa7 _];refine zO.mpr fun a => ?_;rw [zn, zn, <- x4, zj, zj, v0, v1, Qbo b Qf a K']
        · rw [e]
          show Qt (Qk _) * (if Jvm.Binary.ior = .iand then _ else 2) <= _;rw [za (by decide), Qco, Qbw, Qbw, zQ]; exact hc
      have mE : ∀ v, ∀ u ∈ Qa b v K', Qp u /\ Qv u /\ Qg b u = v := fun v u hu => ⟨(a1 u (Qy.mp hu).1).1, (a1 u (Qy.mp hu).1).2, (Qy.mp hu).2⟩;have p3 := QeC b K';have prY : ∀ y1 : (Qa b 2 K').length <= 1, Qr (Qa b 2 K') = Qr ((Qa b 2 K').flatMap Qn) * 2 ^ (Qa b 2 K').length := fun y1 => by
        by_cases qy : Qa b 2 K' = []
        · rw [qy]; rfl
        · exact (Qg0 (b := b) (t := T) (K' := K') (A0 := []) (A1 := []) y1 (fun y hy => a6 y (Qy.mp hy).1 (Qy.mp hy).2) (fun u hu => absurd hu (by simp)) (fun u hu => absurd hu (by simp)) (Or.inl qy)).2.2.1
      by_cases ho : o = .iand
      · rw [zb ho] at h' prt
        unfold QaE at h';by_cases y2 : 2 <= (Qa b 2 K').length
        · rw [zb y2] at h'; exact absurd h' (by simp)
        rw [za y2] at h';by_cases z : (Qa b 2 K').length = 0 /\ ((Qa b 0 K').length = 0 \/ (Qa b 1 K').length = 0)
        · rw [zb z] at h'
          exact same (QX.mp z.1) (by rcases z.2 with q | q; exact Or.inl (QX.mp q); exact Or.inr (QX.mp q)) (by rw [ho]; exact (Option.some.inj h').symm)
        rw [za z] at h';obtain ⟨g1, g2, g3, g4, -⟩ := QdZ (mE 0) (by decide);obtain ⟨k1, k2, k3, k4, -⟩ := QdZ (mE 1) (by decide);have ne : Qa b 2 K' ≠ [] \/ (Qa b 0 K' ≠ [] /\ Qa b 1 K' ≠ []) := by
          by_cases qy : Qa b 2 K' = []
          · refine Or.inr ⟨fun q => z ⟨by rw [qy]; rfl, Or.inl (by rw [q]; rfl)⟩, fun q => z ⟨by rw [qy]; rfl, Or.inr (by rw [q]; rfl)⟩⟩
          · exact Or.inl qy
        refine mixed _ _ (by omega) ne g4 k4 g3 k3 (fun a => by rw [g2]) (fun a => by rw [k2]) ?_ (Option.some.inj h').symm;rw [prt, g1, k1];refine zN ?_ (zap a3 (zo _));have py := prY (by omega);rw [p3.1, py, <- a4, p3.2];generalize Qr (Qa b 0 K') = PE;generalize Qr (Qa b 1 K') = PF;generalize Qr ((Qa b 2 K').flatMap Qn) = PX;by_cases qy : (Qa b 2 K').length = 0
        · have e1 : 1 <= (Qa b 0 K').length := Nat.pos_of_ne_zero fun q => z ⟨qy, Or.inl q⟩
          have e2 : 1 <= (Qa b 1 K').length := Nat.pos_of_ne_zero fun q => z ⟨qy, Or.inr q⟩;have := QfV e1 e2;rw [qy, zaY];show 2 * (PE * _ * PX * (PF * _)) <= PE * (PX * 1) * PF * _
          calc 2 * (PE * Qm (Qa b 0 K').length * PX * (PF * Qm (Qa b 1 K').length)) = PE * (PX * 1) * PF * (2 * (Qm (Qa b 0 K').length * Qm (Qa b 1 K').length)) := by
                simp only [zaB, z7, zQ, zU]
            _ <= _ := zad _ this
        · have e1 : (Qa b 2 K').length = 1 := by omega
          have h1 := QfA (Qa b 0 K').length (Qa b 1 K').length;have h2 := Qdw ((Qa b 0 K').length + (Qa b 1 K').length);rw [e1, show (Qa b 0 K').length + 1 + (Qa b 1 K').length = (Qa b 0 K').length + (Qa b 1 K').length + 1 from by omega];show 2 * (PE * _ * PX * (PF * _)) <= PE * (PX * 2) * PF * _
          calc 2 * (PE * Qm (Qa b 0 K').length * PX * (PF * Qm (Qa b 1 K').length)) = PE * (PX * 2) * PF * (Qm (Qa b 0 K').length * Qm (Qa b 1 K').length) := by
                simp only [z7, zQ, zU]
            _ <= _ := zad _ (zN h1 h2)
      · rw [za ho] at h' prt
        have hoi : o = .ior := by
          rcases wo with e | e
          · exact absurd e ho
          · exact e
        unfold QaG at h';by_cases y2 : 2 <= (Qa b 2 K').length
        · rw [zb y2] at h'; exact absurd h' (by simp)
        rw [za y2] at h';by_cases z : (Qa b 2 K').length = 0 /\ ((Qa b 0 K').length = 0 \/ (Qa b 1 K').length = 0)
        · rw [zb z] at h'
          exact same (QX.mp z.1) (by rcases z.2 with q | q; exact Or.inl (QX.mp q); exact Or.inr (QX.mp q)) (by rw [hoi]; exact (Option.some.inj h').symm)
        rw [za z] at h';have ne : Qa b 2 K' ≠ [] \/ (Qa b 0 K' ≠ [] /\ Qa b 1 K' ≠ []) := by
          by_cases qy : Qa b 2 K' = []
          · refine Or.inr ⟨fun q => z ⟨by rw [qy]; rfl, Or.inl (by rw [q]; rfl)⟩, fun q => z ⟨by rw [qy]; rfl, Or.inr (by rw [q]; rfl)⟩⟩
          · exact Or.inl qy
        have py := prY (by omega);have cnt : 2 * (Qr (Qa b 0 K') * Qr ((Qa b 2 K').flatMap Qn) * Qr (Qa b 1 K')) <= Qt (.op2 o (.arg x) f) := by
          rw [prt, zQ];refine zap (zN ?_ a3) (zo _);rw [p3.1, py];have : Qr ((Qa b 2 K').flatMap Qn) <= Qr ((Qa b 2 K').flatMap Qn) * 2 ^ (Qa b 2 K').length := Nat.le_mul_of_pos_right _ (Nat.pow_pos (by omega));exact zap (zad _ this) (zo _)
        by_cases ub : Qaa (fun i => QK (Qg b (K'.getD i .null))) K'.length = true
        · rw [zb ub] at h'
          refine mixed _ _ (by omega) ne (fun h => h) (fun h => h) (mE 0) (mE 1) (fun _ => rfl) (fun _ => rfl) cnt ?_;rw [<- Qf9 (Qgj ub)]; exact (Option.some.inj h').symm
        rw [za ub] at h';by_cases db : Qad (fun i => QK (Qg b (K'.getD i .null))) K'.length = true
        · rw [zb db] at h'
          have es := Qf9 (QiE db);rw [QeQ, QeQ, QeQ] at es;have rY : (Qa b 2 K').reverse = Qa b 2 K' := by
            have : (Qa b 2 K').length <= 1 := by omega
            match Qa b 2 K', this with
            | [], _ => rfl
            | [_], _ => rfl
            | _ :: _ :: _, h => exact absurd h (by simp)
          rw [rY] at es;refine mixed (Qa b 0 K').reverse (Qa b 1 K').reverse (by omega) ne (fun h q => h (zaN.mp q)) (fun h q => h (zaN.mp q)) (fun u hu => mE 0 u (zp.mp hu)) (fun u hu => mE 1 u (zp.mp hu)) (fun a => ((zy _).flatMap_right Qf).count_eq a) (fun a => ((zy _).flatMap_right Qf).count_eq a) (by rw [QdV, QdV]; exact cnt) ?_;rw [<- es]; exact (Option.some.inj h').symm
        · rw [za db] at h'; exact absurd h' (by simp), fun h => absurd h id⟩)
  (fun t f w iht ihf => ⟨fun h => absurd h id, fun _ f' h => by
    have eI : QJ b (.add t f) = (QJ b t).bind fun t' => (QJ b f).bind fun f' => some (.add t' f') := rfl;rw [eI] at h;cases ht : QJ b t with
    | none => rw [ht] at h; exact absurd h (by simp)
    | some t1 =>
      cases hf : QJ b f with
      | none => rw [ht, hf] at h; exact absurd h (by simp)
      | some f1 =>
        rw [ht, hf] at h;have e : f' = .add t1 f1 := (Option.some.inj h).symm;subst e;exact ⟨trivial, iht.1 w.1 t1 ht, (ihf.2 w.2.1 f1 hf).2⟩⟩)
  ⟨fun h => absurd h id, fun _ f' h => by
    have e : f' = .null := (Option.some.inj h).symm;subst e;exact ⟨trivial, trivial⟩⟩
def Qb6(b:Nat->Bool)(K:List Qd):Prop:=∃Z0 Z1 Z2,K=Z0++Z1++Z2/\(∀u∈Z0,Qg b u=0)/\(∀u∈Z1,Qg b u=1)/\∀u∈Z2,Qg b u=0
def QhK(b:Nat->Bool)(o:Jvm.Binary)(K:List Qd):Prop:=(K.flatMap Qf).all b=true\/(o = .ior/\Qb6 b K)
def Qam(b:Nat->Bool):Qd->Prop
 | .arg _=>True
 | .op2 o (.arg _) f=>((Qc f).any (Qs b)=true/\Qam b f)\/((Qc f).any (Qs b)=false/\QhK b o (Qc f))
 | .add t f=>(Qs b t=true/\Qam b t)\/(Qs b t=false/\Qam b f)
 |_=>True
theorem Qci{b:Nat->Bool}{l:List Qd}:l.any (Qs b)=false↔∀u∈l,Qs b u=false:=by
 rw[List.any_eq_false];simp only[zV]
theorem QiK{b:Nat->Bool}{A B:List Qd}{u:Qd}(hA:∀w∈A,Qg b w=0)(hB:∀w∈B,Qg b w=0)(hin:∀c,b c=true->c∈(A++u::B).flatMap Qf):Qs b u=true:=Qab.mpr fun c _ hc=>by
 have h:=hin c hc;rw[zn,zg,zc,zc] at h;have no:∀L:List Qd,(∀w∈L,Qg b w=0)->c∉L.flatMap Qf:=fun L hL q=>by
  obtain⟨w,hw,hcw⟩:=zx.mp q;have:=zw.mp (Qbj (hL w hw)) c hcw;rw[hc] at this;exact absurd this (by decide)
 rcases h with q | q | q
 ·exact absurd q (no A hA)
 ·exact q
 ·exact absurd q (no B hB)
theorem Qi8{b:Nat->Bool}(h32:∀c,b c=true->c<32){A B C:List Qd}{u v:Qd}(nd:((A++u::B++v::C).flatMap Qf).Nodup)(hu:Qf u≠[])(hv:Qf v≠[])(bu:Qg b u=1)(bv:Qg b v=1):∀w∈A++u::B++v::C,Qs b w=false:=fun w hw=>by
 rw[Bool.eq_false_iff];intro al;obtain⟨c,hc⟩:=zan _ hu;obtain⟨d,hd⟩:=zan _ hv;have bc:b c=true:=zw.mp (Qbp bu) c hc;have bd:b d=true:=zw.mp (Qbp bv) d hd;have wc:=Qab.mp al c (h32 c bc) bc;have wd:=Qab.mp al d (h32 d bd) bd;have cnt:=zS.mp nd;have pos:∀(L:List Qd) (a:Nat),w∈L->a∈Qf w->1<=(L.flatMap Qf).count a:=fun L a h1 h2=>zH.mpr (zx.mpr ⟨w,h1,h2⟩);have c1:=zH.mpr hc;have d1:=zH.mpr hd;have nc:=cnt c;have ndd:=cnt d;simp only[zn,zg,zj] at nc ndd;rcases zc.mp hw with q | q
 ·rcases zc.mp q with q | q
  ·have:=pos A c q wc;omega
  ·rcases zt.mp q with e | q
   ·subst e;have:=zH.mpr wd;omega
   ·have:=pos B c q wc;omega
 ·rcases zt.mp q with e | q
  ·subst e;have:=zH.mpr wc;omega
  ·have:=pos C c q wc;omega
theorem QfZ{b:Nat->Bool}{g:Qd}(hg:Qs b g=true)(og:Qam b g):∀ {E:List Qd},(∀u∈E,Qs b u=false)->Qam b (Qk (E++[g]))
 |[],_=>Or.inl ⟨hg,og⟩
 |u::E,h=>Or.inr ⟨h u (by simp),QfZ hg og fun v hv=>h v (by simp[hv])⟩
theorem QjE{b:Nat->Bool}(h32:∀c,b c=true->c<32)(hc:∃c,b c=true){u:Qd}(h:Qg b u=0):Qs b u=false:=by
 rw[Bool.eq_false_iff];intro al;obtain⟨c,hc⟩:=hc;have:=zw.mp (Qbj h) c (Qab.mp al c (h32 c hc) hc);rw[hc] at this;exact absurd this (by decide)
theorem Qcj(L:List Qd):Qt (.op2 .ior (.arg 0) (Qk L))=Qr L*2:=by
 show Qt (Qk L)*(if Jvm.Binary.ior = .iand then _ else 2)=_;rw[za (by decide),Qco]
theorem QeE(L:List Qd):Qt (.op2 .iand (.arg 0) (Qk L))=Qr L*Qm L.length:=by
 show Qt (Qk L)*(if Jvm.Binary.iand = .iand then Qm (Qc (Qk L)).length else 2)=_;rw[zb rfl,Qco,QT]
theorem Qcc(o:Jvm.Binary)(L:List Qd):Qf (.op2 o (.arg 0) (Qk L))=L.flatMap Qf:=Qa7 L
theorem Qhb{b:Nat->Bool}(h32:∀c,b c=true->c<32){Z0 A B C Z2:List Qd}{u v:Qd}(h:∀w∈Z0++(A++u::B++v::C)++Z2,Qp w/\Qv w)(m0:∀w∈Z0,Qg b w=0)(m1:∀w∈A++u::B++v::C,Qg b w=1)(m2:∀w∈Z2,Qg b w=0)(nd:((Z0++(A++u::B++v::C)++Z2).flatMap Qf).Nodup):Qv (.op2 .ior (.arg 0) (Qk (Z0++(A++u::B++v::C)++Z2)))/\Qam b (.op2 .ior (.arg 0) (Qk (Z0++(A++u::B++v::C)++Z2))):=by
 have hu:=h u (by simp);have hv:=h v (by simp);have na:∀w∈Z0++(A++u::B++v::C)++Z2,Qs b w=false:=by
  have e:Z0++(A++u::B++v::C)++Z2=(Z0++A)++u::B++v::(C++Z2):=by simp only[zq,zak]
  rw[e] at nd ⊢;exact Qi8 h32 nd (Qbf u hu.2 hu.1) (Qbf v hv.2 hv.1) (m1 u (by simp)) (m1 v (by simp))
 refine⟨⟨Or.inr rfl,?_,Qbs _,Qcu h⟩,Or.inr ⟨?_,Or.inr ⟨rfl,Z0,_,Z2,QT _,m0,m1,m2⟩⟩⟩
 ·rw[QT];simp only[zd,zs];omega
 ·rw[QT];exact Qci.mpr na
theorem QeY{b:Nat->Bool}:∀ {l:List Qd},(∃u∈l,Qg b u≠0)->∃Z u l',l=Z++u::l'/\(∀w∈Z,Qg b w=0)/\Qg b u≠0
 |[],h=>by obtain⟨u,hu,-⟩:=h;exact absurd hu (by simp)
 |x::l,h=>by
  by_cases q:Qg b x=0
  ·have:∃u∈l,Qg b u≠0:=by
    obtain⟨u,hu,hn⟩:=h;rcases zt.mp hu with e | e
    ·rw[e] at hn;exact absurd q hn
    ·exact⟨u,e,hn⟩
   obtain⟨Z,u,l',e,hz,hn⟩:=QeY this;refine⟨x::Z,u,l',by rw[e];rfl,fun w hw=>?_,hn⟩;rcases zt.mp hw with e' | e'
   ·rw[e'];exact q
   ·exact hz w e'
  ·exact⟨[],x,l,rfl,fun w hw=>absurd hw (by simp),q⟩
theorem Qie{b:Nat->Bool}{l:List Qd}(h:∃u∈l,Qg b u≠0):∃M v Z,l=M++v::Z/\(∀w∈Z,Qg b w=0)/\Qg b v≠0:=by
 obtain⟨Z,v,l',e,hz,hn⟩:=QeY (l:=l.reverse) (b:=b) (by obtain⟨u,hu,h⟩:=h;exact⟨u,zp.mpr hu,h⟩);refine⟨l'.reverse,v,Z.reverse,?_,fun w hw=>hz w (zp.mp hw),hn⟩;have:=congrArg List.reverse e;rw[zG,zP,zaW,zq] at this;exact this
theorem QdA{b:Nat->Bool}{u:Qd}{l:List Qd}(hn:Qg b u≠0):∀ {Z:List Qd},(∀w∈Z,Qg b w=0)->QaK b (Z++u::l)=Z.length
 |[],_=>by show (if Qg b u=0 then _ else 0)=0;rw[za hn]
 |x::Z,h=>by show (if Qg b x=0 then QaK b (Z++u::l)+1 else 0)=_;rw[zb (h x (by simp)),QdA hn fun w hw=>h w (by simp[hw])];rfl
theorem QfG{b:Nat->Bool}{v:Qd}{l Z:List Qd}(hn:Qg b v≠0)(hz:∀w∈Z,Qg b w=0):Qa4 b (l++v::Z)=l.length:=by
 unfold Qa4;rw[zP,zaW,zq,List.singleton_append,QdA hn fun w hw=>hz w (zp.mp hw),zac,zd,zs];omega
theorem Qb7{b:Nat->Bool}{f la:Nat}:∀ {l:List Qd} (k:Nat),(∀u∈l,Qg b u≠2)->Q0 b f la k l=l
 |[],_,_=>rfl
 |u::l,k,h=>by
  show (if Qg b u=2 then _ else [u])++Q0 b f la (k+1) l=_;rw[za (h u (by simp)),Qb7 (k+1) fun v hv=>h v (by simp[hv])];rfl
theorem Qc4{b:Nat->Bool}{K:List Qd}(hK:∀u∈K,Qs b u=false)(hc:∃c,b c=true)(hin:∀c,b c=true->c∈K.flatMap Qf):∃Z0 u M v Z2,K=Z0++u::(M++v::Z2)/\(∀w∈Z0,Qg b w=0)/\Qg b u≠0/\Qg b v≠0/\(∀w∈Z2,Qg b w=0)/\QaK b K=Z0.length/\Qa4 b K=Z0.length+1+M.length:=by
 have ex:∃u∈K,Qg b u≠0:=by
  obtain⟨c,hc⟩:=hc;obtain⟨u,hu,hcu⟩:=zx.mp (hin c hc);refine⟨u,hu,fun e=>?_⟩;have:=zw.mp (Qbj e) c hcu;rw[hc] at this;exact absurd this (by decide)
 obtain⟨Z0,u,l',e,m0,nu⟩:=QeY ex;have ex':∃w∈l',Qg b w≠0:=Classical.byContradiction fun q=>by
  have hl':∀w∈l',Qg b w=0:=fun w hw=>Classical.byContradiction fun h=>q ⟨w,hw,h⟩;have:=QiK m0 hl' (by rw[<-e];exact hin);rw[hK u (by rw[e];simp)] at this;exact absurd this (by decide)
 obtain⟨M,v,Z2,e',m2,nv⟩:=Qie ex';refine⟨Z0,u,M,v,Z2,by rw[e,e'],m0,nu,nv,m2,by rw[e];exact QdA nu m0,?_⟩;have:K=(Z0++u::M)++v::Z2:=by rw[e,e'];simp only[zq,zak]
 rw[this,QfG nv m2,zd,zs];omega
theorem QgC{Z0 M Z2:List Qd}{u v:Qd}{j:Nat}(hj:j<M.length):(Z0++u::(M++v::Z2)).getD (Z0.length+1+j) .null=M.getD j .null:=by
 simp only[zf];rw[List.getElem?_append_right (by omega),show Z0.length+1+j-Z0.length=j+1 from by omega,List.getElem?_cons_succ,List.getElem?_append_left hj]
theorem Qc2(b:Nat->Bool)(f la k:Nat)(u:Qd)(l:List Qd):Q0 b f la k (u::l)=(if Qg b u=2 then (if k=la/\k≠f then (Qn u).reverse else Qn u) else [u])++Q0 b f la (k+1) l:=rfl
theorem QfF {n : Nat} (h : 1 <= n) : Qm n < Qm (n + 1) := by
  show Qm n < (n + 1) * Qm n;have := Qch n
  calc Qm n < 2 * Qm n := by omega
    _ <= _ := z9 _ (by omega)
theorem QgJ : ∀ {e f : Nat}, 1 <= e -> 2 <= f -> Qm (e + 1) * Qm f < Qm (e + f)
  | 1, f, _, hf => by
    show 2 * (1 * 1) * Qm f < Qm (1 + f);rw [Nat.add_comm];show _ < (f + 1) * Qm f;have := Qch f
    calc 2 * (1 * 1) * Qm f < 3 * Qm f := by omega
      _ <= _ := z9 _ (by omega)
  | e + 2, f, _, hf => by
    have ih := QgJ (e := e + 1) (f := f) (by omega) hf;show (e + 3) * Qm (e + 2) * Qm f < Qm (e + 2 + f);rw [show e + 2 + f = (e + 1 + f) + 1 from by omega, z7];show _ < (e + 1 + f + 1) * Qm (e + 1 + f)
    calc (e + 3) * (Qm (e + 2) * Qm f) < (e + 3) * Qm (e + 1 + f) := z8 ih (by omega)
      _ <= _ := z9 _ (by omega)
theorem Qhc{b:Nat->Bool}{K:List Qd}(hK:∀u∈K,Qs b u=false)(hc:∃c,b c=true)(hin:∀c,b c=true->c∈K.flatMap Qf):2<=(Qa b 1 K).length+(Qa b 2 K).length:=by
 obtain⟨Z0,u,M,v,Z2,e,-,nu,nv,-,-,-⟩:=Qc4 hK hc hin;have ap:∀w (l l':List Qd),(Qa b w (l++l')).length=(Qa b w l).length+(Qa b w l').length:=fun w l l'=>by unfold Qa;rw[zaQ,zd]
 have one:∀w l,Qg b w≠0->(Qa b 1 l).length+(Qa b 2 l).length+1<=(Qa b 1 (w::l)).length+(Qa b 2 (w::l)).length:=fun w l h=>by
  rw[Qaz,Qaz];rcases QaC b w with q | q | q
  ·exact absurd q h
  ·rw[q,zb rfl,za (by decide),zs];omega
  ·rw[q,zb rfl,za (by decide),zs];omega
 have h1:=one u (M++v::Z2) nu;have h2:=one v Z2 nv;rw[e,ap,ap];have h3:=ap 1 M (v::Z2);have h4:=ap 2 M (v::Z2);omega
def Qfv(b:Nat->Bool)(K:List Qd)(Na:Nat)(P:Prop)(T:Qd):Prop:=Qp T/\Qv T/\(Qf T).Perm (K.flatMap Qf)/\Qam b T/\Qt T<=Na/\(Qt T=Na->P)
theorem QhW {b : Nat -> Bool} (h32 : ∀ c, b c = true -> c < 32) (hc : ∃ c, b c = true) {K K' : List Qd} (hK : ∀ u ∈ K, Qv u) (A : Qc6 b K K') (hal : ∀ u ∈ K, Qs b u = false) (hin : ∀ c, b c = true -> c ∈ K.flatMap Qf) (nd : (K.flatMap Qf).Nodup) (k2 : 2 <= K.length) {T : Qd} (h : Qal b K' = some T) : Qfv b K (Qr K * Qm K.length) ((K.flatMap Qf).all b = true) T := by
  obtain ⟨a1, a2, a3, a4, a5, a6, a7⟩ := QdT hK A;have na := a7 hal;have hin' : ∀ c, b c = true -> c ∈ K'.flatMap Qf := fun c hc => a2.mem_iff.mpr (hin c hc);have nd' : (K'.flatMap Qf).Nodup := a2.nodup_iff.mpr nd;have c2 := Qhc na hc hin';have p3 := QeC b K';have mE : ∀ v, ∀ u ∈ Qa b v K', Qp u /\ Qv u /\ Qg b u = v := fun v u hu => ⟨(a1 u (Qy.mp hu).1).1, (a1 u (Qy.mp hu).1).2, (Qy.mp hu).2⟩;have pE := Qbt (Qa b 0 K') fun u hu => (mE 0 u hu).2.1;have pF := Qbt (Qa b 1 K') fun u hu => (mE 1 u hu).2.1;have le : Qr K' * Qm K'.length <= Qr K * Qm K.length := by rw [a4]; exact z9 _ a3
  have strict : Qt T < Qr K' * Qm K'.length -> Qt T <= Qr K * Qm K.length /\ (Qt T = Qr K * Qm K.length -> (K.flatMap Qf).all b = true) := fun q => ⟨by omega, fun e => by omega⟩;obtain ⟨g1, g2, g3, g4, g5⟩ := QdZ (mE 1) (by decide);have lc := Qbo b Qf;have e0 : ∀ u ∈ Qa b 0 K', Qs b u = false := fun u hu => QjE h32 hc (mE 0 u hu).2.2;have nest : ∀ g : Qd, Qp g -> Qv g -> Qam b g -> Qa b 0 K' ≠ [] -> (∀ a, (K'.flatMap Qf).count a = ((Qa b 0 K').flatMap Qf).count a + (Qf g).count a) -> T = .op2 .iand (.arg 0) (Qk (Qa b 0 K' ++ [g])) -> Qp T /\ Qv T /\ (Qf T).Perm (K.flatMap Qf) /\ Qam b T := fun g gT gz gO eN cg e => by
    have ag : Qs b g = true := Qab.mpr fun c _ hb => by
      have h1 := zH.mpr (hin' c hb);rw [cg c] at h1;have h2 : ((Qa b 0 K').flatMap Qf).count c = 0 := List.count_eq_zero.mpr fun q => by
        obtain ⟨w, hw, hcw⟩ := zx.mp q;have := zw.mp (Qbj (mE 0 w hw).2.2) c hcw;rw [hb] at this; exact absurd this (by decide)
      exact zH.mp (by omega)
    subst e;refine ⟨trivial, ⟨Or.inl rfl, ?_, Qbs _, Qcu fun u hu => ?_⟩, ?_, Or.inl ⟨?_, QfZ ag gO e0⟩⟩
    · have := zah.mpr eN
      rw [QT, zd, zav]; omega
    · rcases zc.mp hu with q | q
      · exact ⟨(mE 0 u q).1, (mE 0 u q).2.1⟩
      · rw [zi] at q; rw [q]; exact ⟨gT, gz⟩
    · refine List.Perm.trans (l₂ := K'.flatMap Qf) (zO.mpr fun a => ?_) a2
      rw [Qcc, zn, zg, zr, zk, zj, cg a]
    · rw [QT]; exact List.any_eq_true.mpr ⟨g, by simp, ag⟩
  have prN : ∀ g, Qt (.op2 .iand (.arg 0) (Qk (Qa b 0 K' ++ [g]))) = Qr (Qa b 0 K') * Qt g * Qm ((Qa b 0 K').length + 1) := fun g => by
    rw [QeE, Qbw, zd]; show _ * (Qt g * 1) * _ = _; rw [zaB]; rfl
  unfold Qal at h;have flat : ∀ (L0 L1 R' : List Qd), Qa b 0 K' = [] \/ True -> (∀ u ∈ L0, Qp u /\ Qv u /\ Qg b u = 0) -> (∀ u ∈ R', Qp u /\ Qv u /\ Qg b u = 0) -> L1 ≠ [] -> (∀ u ∈ L1, Qp u /\ Qv u /\ Qg b u = 1) -> ∀ L2, L2 ≠ [] -> (∀ u ∈ L2, Qp u /\ Qv u /\ Qg b u = 1) -> (∀ a, (K'.flatMap Qf).count a = ((Qa b 0 K').flatMap Qf).count a + ((L0 ++ (L1 ++ L2) ++ R').flatMap Qf).count a) -> Qv (.op2 .ior (.arg 0) (Qk (L0 ++ (L1 ++ L2) ++ R'))) /\ Qam b (.op2 .ior (.arg 0) (Qk (L0 ++ (L1 ++ L2) ++ R'))) := fun L0 L1 R' _ m0 m2 n1 m1 L2 n2 m1' cg => by
    obtain ⟨u, l1, e1⟩ : ∃ u l1, L1 = u :: l1 := by
      cases L1 with
      | nil => exact absurd rfl n1
      | cons x y => exact ⟨x, y, rfl⟩
    obtain ⟨v, l2, e2⟩ : ∃ v l2, L2 = v :: l2 := by
      cases L2 with
      | nil => exact absurd rfl n2
      | cons x y => exact ⟨x, y, rfl⟩
    have eq : L1 ++ L2 = [] ++ u :: l1 ++ v :: l2 := by rw [e1, e2]; rfl
    have nd3 : ((L0 ++ (L1 ++ L2) ++ R').flatMap Qf).Nodup := zS.mpr fun a => by
      have := zS.mp nd' a;rw [cg a] at this; omega
    rw [eq] at nd3 ⊢;refine Qhb h32 (fun w hw => ?_) (fun w hw => (m0 w hw).2.2) (fun w hw => ?_) (fun w hw => (m2 w hw).2.2) nd3
    · rw [<- eq, zc, zc, zc] at hw
      rcases hw with (q | q | q) | q
      · exact ⟨(m0 w q).1, (m0 w q).2.1⟩
      · exact ⟨(m1 w q).1, (m1 w q).2.1⟩
      · exact ⟨(m1' w q).1, (m1' w q).2.1⟩
      · exact ⟨(m2 w q).1, (m2 w q).2.1⟩
    · rw [<- eq, zc] at hw
      rcases hw with q | q
      · exact (m1 w q).2.2
      · exact (m1' w q).2.2
  match hY : Qa b 2 K' with
  | [] =>
    rw [hY] at h c2 p3;have h' : (if (Qa b 0 K').length = 0 \/ (Qa b 1 K').length < 2 then some (Jvm.Term.op2 .iand (.arg 0) (Qk K')) else some (.op2 .iand (.arg 0) (Qk (Qa b 0 K' ++ QB (Qa b 1 K'))))) = some T := h;have f2 : 2 <= (Qa b 1 K').length := c2;have lc' : ∀ a, (K'.flatMap Qf).count a = ((Qa b 0 K').flatMap Qf).count a + ((Qa b 1 K').flatMap Qf).count a := fun a => by rw [lc a K', hY]; show _ + 0 + _ = _; omega
    by_cases qE : (Qa b 0 K').length = 0
    · rw [zb (Or.inl qE)] at h'
      have e := (Option.some.inj h').symm;have allb : (K'.flatMap Qf).all b = true := QaJ.mpr fun u hu => by
        rcases QaC b u with q | q | q
        · have := Qy.mpr ⟨hu, q⟩; rw [QX.mp qE] at this; exact absurd this (by simp)
        · exact Qbp q
        · have := Qy.mpr ⟨hu, q⟩; rw [hY] at this; exact absurd this (by simp)
      subst e;refine ⟨trivial, ⟨Or.inl rfl, by rw [QT]; omega, Qbs _, Qcu a1⟩, by rw [Qcc]; exact a2, Or.inr ⟨by rw [QT]; exact Qci.mpr na, Or.inl (by rw [QT]; exact allb)⟩, by rw [QeE]; exact le, fun _ => by rw [<- a2.all_eq]; exact allb⟩
    · rw [za (by omega)] at h'
      obtain ⟨u, v, l, eF⟩ : ∃ u v l, Qa b 1 K' = u :: v :: l := by
        match Qa b 1 K', f2 with
        | u :: v :: l, _ => exact ⟨u, v, l, rfl⟩
        | [_], h => exact absurd h (by simp)
        | [], h => exact absurd h (by simp)
      have eG : QB (Qa b 1 K') = [.op2 .iand (.arg 0) (Qk (Qa b 1 K'))] := by rw [eF]; rfl
      rw [eG] at h';have e := (Option.some.inj h').symm;have eN : Qa b 0 K' ≠ [] := fun q => qE (by rw [q]; rfl);have gz : Qv (.op2 .iand (.arg 0) (Qk (Qa b 1 K'))) := ⟨Or.inl rfl, by rw [QT]; exact f2, Qbs _, Qcu fun u hu => ⟨(mE 1 u hu).1, (mE 1 u hu).2.1⟩⟩;have gO : Qam b (.op2 .iand (.arg 0) (Qk (Qa b 1 K'))) := Or.inr ⟨by rw [QT]; exact Qci.mpr fun u hu => na u (Qy.mp hu).1, Or.inl (by rw [QT]; exact QaJ.mpr fun u hu => Qbp (mE 1 u hu).2.2)⟩;obtain ⟨t1, t2, t3, t4⟩ := nest (.op2 _ (.arg 0) _) trivial gz gO eN (fun a => by rw [Qcc]; exact lc' a) e;obtain ⟨s1, s2⟩ := strict (by
        rw [e, prN, QeE, p3.1, p3.2];have hs := QgJ (e := (Qa b 0 K').length) (f := (Qa b 1 K').length) (by omega) f2;show _ < Qr (Qa b 0 K') * 1 * Qr (Qa b 1 K') * Qm ((Qa b 0 K').length + 0 + (Qa b 1 K').length);rw [zaY, zaB]
        calc Qr (Qa b 0 K') * (Qr (Qa b 1 K') * Qm (Qa b 1 K').length) * Qm ((Qa b 0 K').length + 1) = Qr (Qa b 0 K') * Qr (Qa b 1 K') * (Qm ((Qa b 0 K').length + 1) * Qm (Qa b 1 K').length) := by
              simp only [z7, zQ, zU]
          _ < _ := z8 hs (zX pE pF))
      exact ⟨t1, t2, t3, t4, s1, s2⟩
  | [y] =>
    rw [hY] at h c2 p3;have f1 : 1 <= (Qa b 1 K').length := by have : 2 <= (Qa b 1 K').length + 1 := c2; omega
    have yM : y ∈ Qa b 2 K' := by rw [hY]; simp
    obtain ⟨L0, L1, ey, n0, n1, m0, m1⟩ := a6 y (Qy.mp yM).1 (Qy.mp yM).2;have ek : Qn y = L0 ++ L1 := by rw [ey]; exact QT _
    have el : Qf y = (L0 ++ L1).flatMap Qf := by rw [ey]; exact Qa7 _
    have ec : Qt y = Qr (L0 ++ L1) * 2 := by rw [ey]; exact Qcj _
    have h' : (if (Qa b 0 K').length = 0 then some (Jvm.Term.op2 .ior (.arg 0) (Qk (Qn y ++ QB (Qa b 1 K')))) else some (.op2 .iand (.arg 0) (Qk (Qa b 0 K' ++ [.op2 .ior (.arg 0) (Qk (Qn y ++ QB (Qa b 1 K')))])))) = some T := h;have eR : Qn y ++ QB (Qa b 1 K') = L0 ++ (L1 ++ QB (Qa b 1 K')) ++ [] := by rw [ek, zk, zq]
    have nR : QB (Qa b 1 K') ≠ [] := g4 fun q => by rw [q] at f1; exact absurd f1 (by simp)
    have lc' : ∀ a, (K'.flatMap Qf).count a = ((Qa b 0 K').flatMap Qf).count a + ((Qn y ++ QB (Qa b 1 K')).flatMap Qf).count a := fun a => by
      rw [lc a K', hY, zn, g2, zg, zr, zk, el, ek, zj]; omega
    rw [eR] at h' lc';obtain ⟨qz, qO⟩ := flat L0 L1 [] (Or.inr trivial) m0 (fun u hu => absurd hu (by simp)) n1 m1 _ nR g3 lc';have pX : 1 <= Qr (L0 ++ L1) := Qbt _ fun u hu => by
      rcases zc.mp hu with q | q
      · exact (m0 u q).2.1
      · exact (m1 u q).2.1
    have cQ : Qt (.op2 .ior (.arg 0) (Qk (L0 ++ (L1 ++ QB (Qa b 1 K')) ++ []))) = Qr (L0 ++ L1) * (Qr (Qa b 1 K') * Qm (Qa b 1 K').length) * 2 := by
      rw [Qcj, <- eR, ek, Qbw, g1]
    have pK : Qr K' = Qr (Qa b 0 K') * (Qr (L0 ++ L1) * 2) * Qr (Qa b 1 K') := by
      rw [p3.1]; show _ * (Qt y * 1) * _ = _; rw [ec, zaB]
    have kl : K'.length = (Qa b 0 K').length + 1 + (Qa b 1 K').length := p3.2;by_cases qE : (Qa b 0 K').length = 0
    · rw [zb qE] at h'
      have e := (Option.some.inj h').symm;obtain ⟨s1, s2⟩ := strict (by
        rw [e, cQ, pK, kl, qE, zL, QX.mp qE];show _ < 1 * (Qr (L0 ++ L1) * 2) * Qr (Qa b 1 K') * Qm (1 + (Qa b 1 K').length);rw [Nat.one_mul, Nat.add_comm 1]
        calc Qr (L0 ++ L1) * (Qr (Qa b 1 K') * Qm (Qa b 1 K').length) * 2 = Qr (L0 ++ L1) * 2 * Qr (Qa b 1 K') * Qm (Qa b 1 K').length := by
              simp only [z7, zQ, zU]
          _ < _ := z8 (QfF f1) (zX (zX pX (by omega)) pF))
      refine ⟨by rw [e]; exact trivial, by rw [e]; exact qz, ?_, by rw [e]; exact qO, s1, s2⟩;rw [e, Qcc];refine List.Perm.trans (l₂ := K'.flatMap Qf) (zO.mpr fun a => ?_) a2;rw [lc' a, QX.mp qE, zr, zaw, zL]
    · rw [za qE] at h'
      have e := (Option.some.inj h').symm;obtain ⟨t1, t2, t3, t4⟩ := nest (.op2 _ (.arg 0) _) trivial qz qO (fun q => qE (by rw [q]; rfl)) (fun a => by rw [Qcc]; exact lc' a) e;obtain ⟨s1, s2⟩ := strict (by
        rw [e, prN, cQ, pK, kl];obtain ⟨f', ef⟩ : ∃ f', (Qa b 1 K').length = f' + 1 := ⟨(Qa b 1 K').length - 1, by omega⟩;have h1 := Qd5 f' (Qa b 0 K').length;have h2 := QfF (n := f' + ((Qa b 0 K').length + 1)) (by omega);rw [ef, show (Qa b 0 K').length + 1 + (f' + 1) = f' + ((Qa b 0 K').length + 1) + 1 from by omega]
        calc Qr (Qa b 0 K') * (Qr (L0 ++ L1) * (Qr (Qa b 1 K') * Qm (f' + 1)) * 2) * Qm ((Qa b 0 K').length + 1) = Qr (Qa b 0 K') * (Qr (L0 ++ L1) * 2) * Qr (Qa b 1 K') * (Qm ((Qa b 0 K').length + 1) * Qm (f' + 1)) := by
              simp only [z7, zQ, zU]
          _ < _ := z8 (Nat.lt_of_le_of_lt h1 h2) (zX (zX pE (zX pX (by omega))) pF))
      exact ⟨t1, t2, t3, t4, s1, s2⟩
  | [y, z] =>
    rw [hY] at h c2 p3;have yM : y ∈ Qa b 2 K' := by rw [hY]; simp
    have zM : z ∈ Qa b 2 K' := by rw [hY]; simp
    obtain ⟨L0, L1, ey, n0, n1, m0, m1⟩ := a6 y (Qy.mp yM).1 (Qy.mp yM).2;obtain ⟨N0, N1, ez, n0', n1', m0', m1'⟩ := a6 z (Qy.mp zM).1 (Qy.mp zM).2;have ek : Qn y = L0 ++ L1 := by rw [ey]; exact QT _
    have el : Qf y = (L0 ++ L1).flatMap Qf := by rw [ey]; exact Qa7 _
    have ec : Qt y = Qr (L0 ++ L1) * 2 := by rw [ey]; exact Qcj _
    have ek' : Qn z = N0 ++ N1 := by rw [ez]; exact QT _
    have el' : Qf z = (N0 ++ N1).flatMap Qf := by rw [ez]; exact Qa7 _
    have ec' : Qt z = Qr (N0 ++ N1) * 2 := by rw [ez]; exact Qcj _
    have h' : (if (Qa b 0 K').length = 0 then some (Jvm.Term.op2 .ior (.arg 0) (Qk (Qn y ++ QB (Qa b 1 K') ++ (Qn z).reverse))) else some (.op2 .iand (.arg 0) (Qk (Qa b 0 K' ++ [.op2 .ior (.arg 0) (Qk (Qn y ++ QB (Qa b 1 K') ++ (Qn z).reverse))])))) = some T := h;have eR : Qn y ++ QB (Qa b 1 K') ++ (Qn z).reverse = L0 ++ ((L1 ++ QB (Qa b 1 K')) ++ N1.reverse) ++ N0.reverse := by rw [ek, ek', zP]; simp only [zq]
    have lc' : ∀ a, (K'.flatMap Qf).count a = ((Qa b 0 K').flatMap Qf).count a + ((Qn y ++ QB (Qa b 1 K') ++ (Qn z).reverse).flatMap Qf).count a := fun a => by
      rw [lc a K', hY, zn, zn, g2, zg, zg, zr, zk, el, el', ek, ek', zj, zj, zj, ((zy (N0 ++ N1)).flatMap_right Qf).count_eq]; omega
    rw [eR] at h' lc';have mL : ∀ u ∈ L1 ++ QB (Qa b 1 K'), Qp u /\ Qv u /\ Qg b u = 1 := fun u hu => by
      rcases zc.mp hu with q | q
      · exact m1 u q
      · exact g3 u q
    obtain ⟨qz, qO⟩ := flat L0 (L1 ++ QB (Qa b 1 K')) N0.reverse (Or.inr trivial) m0 (fun u hu => m0' u (zp.mp hu)) (fun q => n1 (zag.mp q).1) mL N1.reverse (fun q => n1' (zaN.mp q)) (fun u hu => m1' u (zp.mp hu)) lc';have pX : 1 <= Qr (L0 ++ L1) := Qbt _ fun u hu => by
      rcases zc.mp hu with q | q
      · exact (m0 u q).2.1
      · exact (m1 u q).2.1
    have pX' : 1 <= Qr (N0 ++ N1) := Qbt _ fun u hu => by
      rcases zc.mp hu with q | q
      · exact (m0' u q).2.1
      · exact (m1' u q).2.1
    have cQ : Qt (.op2 .ior (.arg 0) (Qk (L0 ++ ((L1 ++ QB (Qa b 1 K')) ++ N1.reverse) ++ N0.reverse))) = Qr (L0 ++ L1) * (Qr (Qa b 1 K') * Qm (Qa b 1 K').length) * Qr (N0 ++ N1) * 2 := by
      rw [Qcj, <- eR, ek, ek', Qbw, Qbw, g1, QdV]
    have pK : Qr K' = Qr (Qa b 0 K') * (Qr (L0 ++ L1) * 2 * (Qr (N0 ++ N1) * 2)) * Qr (Qa b 1 K') := by
      rw [p3.1]; show _ * (Qt y * (Qt z * 1)) * _ = _; rw [ec, ec', zaB]
    have kl : K'.length = (Qa b 0 K').length + 2 + (Qa b 1 K').length := p3.2;have two : ∀ P Q : Nat, 1 <= P -> Q <= Qm K'.length -> P * 2 * Q < P * 4 * Qm K'.length := fun P Q hP hQ => by
      have h1 := Qch K'.length
      calc P * 2 * Q <= P * 2 * Qm K'.length := zad _ hQ
        _ < _ := zar (by omega) h1
    by_cases qE : (Qa b 0 K').length = 0
    · rw [zb qE] at h'
      have e := (Option.some.inj h').symm;obtain ⟨s1, s2⟩ := strict (by
        rw [e, cQ, pK, QX.mp qE];show _ < 1 * _ * _ * _;have hQ : Qm (Qa b 1 K').length <= Qm K'.length := by
          rw [kl, qE, show 0 + 2 + (Qa b 1 K').length = (Qa b 1 K').length + 1 + 1 from by omega];exact zN (Qdw _) (Qdw _)
        have := two (Qr (L0 ++ L1) * Qr (N0 ++ N1) * Qr (Qa b 1 K')) _ (zX (zX pX pX') pF) hQ
        calc Qr (L0 ++ L1) * (Qr (Qa b 1 K') * Qm (Qa b 1 K').length) * Qr (N0 ++ N1) * 2 = Qr (L0 ++ L1) * Qr (N0 ++ N1) * Qr (Qa b 1 K') * 2 * Qm (Qa b 1 K').length := by
              simp only [z7, zQ, zU]
          _ < _ := this
          _ = _ := by rw [Nat.one_mul, show (4 : Nat) = 2 * 2 from rfl]; simp only [z7, zQ, zU])
      refine ⟨by rw [e]; exact trivial, by rw [e]; exact qz, ?_, by rw [e]; exact qO, s1, s2⟩;rw [e, Qcc];refine List.Perm.trans (l₂ := K'.flatMap Qf) (zO.mpr fun a => ?_) a2;rw [lc' a, QX.mp qE, zr, zaw, zL]
    · rw [za qE] at h'
      have e := (Option.some.inj h').symm;obtain ⟨t1, t2, t3, t4⟩ := nest (.op2 _ (.arg 0) _) trivial qz qO (fun q => qE (by rw [q]; rfl)) (fun a => by rw [Qcc]; exact lc' a) e;obtain ⟨s1, s2⟩ := strict (by
        rw [e, prN, cQ, pK];have hQ : Qm ((Qa b 0 K').length + 1) * Qm (Qa b 1 K').length <= Qm K'.length := by
          refine zN (QfA _ _) ?_;rw [kl, show (Qa b 0 K').length + 2 + (Qa b 1 K').length = (Qa b 0 K').length + 1 + (Qa b 1 K').length + 1 from by omega];exact Qdw _
        have := two (Qr (Qa b 0 K') * Qr (L0 ++ L1) * Qr (N0 ++ N1) * Qr (Qa b 1 K')) _ (zX (zX (zX pE pX) pX') pF) hQ
        calc Qr (Qa b 0 K') * (Qr (L0 ++ L1) * (Qr (Qa b 1 K') * Qm (Qa b 1 K').length) * Qr (N0 ++ N1) * 2) * Qm ((Qa b 0 K').length + 1) = Qr (Qa b 0 K') * Qr (L0 ++ L1) * Qr (N0 ++ N1) * Qr (Qa b 1 K') * 2 * (Qm ((Qa b 0 K').length + 1) * Qm (Qa b 1 K').length) := by
              simp only [z7, zQ, zU]
          _ < _ := this
          _ = _ := by rw [show (4 : Nat) = 2 * 2 from rfl]; simp only [z7, zQ, zU])
      exact ⟨t1, t2, t3, t4, s1, s2⟩
  | y :: z :: w :: l =>
    rw [hY] at h;exact absurd h (by show ¬ (none : Option Qd) = some T; simp)
theorem QeT(b:Nat->Bool)(t:Qd)(w:Qv t):Qg b (Qe t)=Qg b t:=by unfold Qg;rw[(Qbc t w).1]
theorem QhQ{b:Nat->Bool}{K:List Qd}(hK:∀u∈K,Qv u)(h:Qb6 b (K.map Qe)):Qb6 b K:=by
 obtain⟨Z0,Z1,Z2,e,m0,m1,m2⟩:=h;obtain⟨l01,l2,e1,e2,e3⟩:=List.map_eq_append_iff.mp e;obtain⟨l0,l1,e4,e5,e6⟩:=List.map_eq_append_iff.mp e2;have go:∀(l Z:List Qd) (v:Int32),(∀u∈l,u∈K)->l.map Qe=Z->(∀u∈Z,Qg b u=v)->∀u∈l,Qg b u=v:=fun l Z v hl he hZ u hu=>by
  rw[<-QeT b u (hK u (hl u hu))];exact hZ _ (by rw[<-he];exact zD.mpr ⟨u,hu,rfl⟩)
 refine⟨l0,l1,l2,by rw[e1,e4],go l0 Z0 0 (fun u hu=>?_) e5 m0,go l1 Z1 1 (fun u hu=>?_) e6 m1,go l2 Z2 0 (fun u hu=>?_) e3 m2⟩
 ·rw[e1,e4];simp[hu]
 ·rw[e1,e4];simp[hu]
 ·rw[e1];simp[hu]
theorem QiI {b : Nat -> Bool} (h32 : ∀ c, b c = true -> c < 32) (hc : ∃ c, b c = true) {K K' : List Qd} (hK : ∀ u ∈ K, Qv u) (A : Qc6 b K K') (hal : ∀ u ∈ K, Qs b u = false) (hin : ∀ c, b c = true -> c ∈ K.flatMap Qf) (nd : (K.flatMap Qf).Nodup) {T : Qd} (h : Qas b K' = some T) : Qfv b K (Qr K * 2) (Qb6 b K) T := by
  obtain ⟨a1, a2, a3, a4, a5, a6, a7⟩ := QdT hK A;have na := a7 hal;have hin' : ∀ c, b c = true -> c ∈ K'.flatMap Qf := fun c hc => a2.mem_iff.mpr (hin c hc);have nd' : (K'.flatMap Qf).Nodup := a2.nodup_iff.mpr nd;obtain ⟨Z0, u, M, v, Z2, e, m0, nu, nv, m2, ef, ela⟩ := Qc4 na hc hin';unfold Qas at h;by_cases md : Qcr b (QaK b K') (Qa4 b K') K' = true
  · rw [zb md] at h
    have eT := (Option.some.inj h).symm;have mP := QbY.mp md;rw [ef, ela] at mP eT;have mM : ∀ w ∈ M, Qg b w = 1 := fun w hw => by
      obtain ⟨j, hj, ej⟩ := List.getElem_of_mem hw;have := mP (Z0.length + 1 + j) (by omega) (by omega) (by rw [e, zd, zs, zd]; omega);rw [e, QgC hj, zf, List.getElem?_eq_getElem hj] at this;have h2 : Qg b M[j] = 1 := this;rw [ej] at h2; exact h2
    have open1 : ∀ w ∈ K', Qg b w ≠ 0 -> ∃ L0 L1, (if Qg b w = 2 then Qn w else [w]) = L0 ++ L1 /\ L1 ≠ [] /\ (∀ x ∈ L0, Qp x /\ Qv x /\ Qg b x = 0) /\ (∀ x ∈ L1, Qp x /\ Qv x /\ Qg b x = 1) /\ Qt w = Qr (L0 ++ L1) * (if Qg b w = 2 then 2 else 1) /\ Qf w = (L0 ++ L1).flatMap Qf := fun w hw nw => by
      by_cases q : Qg b w = 2
      · obtain ⟨L0, L1, ey, n0, n1, k0, k1⟩ := a6 w hw q
        rw [zb q, zb q];exact ⟨L0, L1, by rw [ey]; exact QT _, n1, k0, k1, by rw [ey]; exact Qcj _, by rw [ey]; exact Qa7 _⟩
      · rw [za q, za q]
        have w1 : Qg b w = 1 := by
          rcases QaC b w with q' | q' | q'
          · exact absurd q' nw
          · exact q'
          · exact absurd q' q
        refine ⟨[], [w], rfl, by simp, fun x hx => absurd hx (by simp), fun x hx => ?_, ?_, ?_⟩
        · rw [zi] at hx; rw [hx]; exact ⟨(a1 w hw).1, (a1 w hw).2, w1⟩
        · show Qt w = Qt w * 1 * 1; omega
        · show Qf w = Qf w ++ []; rw [zk]
    have uK : u ∈ K' := by rw [e]; simp
    have vK : v ∈ K' := by rw [e]; simp
    obtain ⟨L0, L1, eu, n1, l0, l1, cu, lu⟩ := open1 u uK nu;obtain ⟨N0, N1, ev, n1', k0, k1, cv, lv'⟩ := open1 v vK nv;have xr : Q0 b Z0.length (Z0.length + 1 + M.length) 0 K' = (Z0 ++ L0) ++ ((L1 ++ M) ++ N1.reverse) ++ (N0.reverse ++ Z2) := by
      rw [e, Qcs, Qb7 0 (fun w hw => by rw [m0 w hw]; decide), zL, Qc2, za (fun q => by omega : ¬ (Z0.length = Z0.length + 1 + M.length /\ Z0.length ≠ Z0.length)), eu, Qcs, Qb7 (Z0.length + 1) (fun w hw => by rw [mM w hw]; decide), Qc2, zb (show Z0.length + 1 + M.length = Z0.length + 1 + M.length /\ Z0.length + 1 + M.length ≠ Z0.length from ⟨rfl, by omega⟩), Qb7 _ (fun w hw => by rw [m2 w hw]; decide)];have er : (if Qg b v = 2 then (Qn v).reverse else [v]) = N1.reverse ++ N0.reverse := by
        rw [<- zP, <- ev]
        split <;> rfl
      rw [er];simp only [zq]
    rw [xr] at eT;have prK : Qr K' = Qr Z0 * (Qt u * (Qr M * (Qt v * Qr Z2))) := by
      rw [e, Qbw]; show _ * (Qt u * Qr (M ++ v :: Z2)) = _; rw [Qbw]; rfl
    have prX : Qr ((Z0 ++ L0) ++ ((L1 ++ M) ++ N1.reverse) ++ (N0.reverse ++ Z2)) = Qr Z0 * (Qr (L0 ++ L1) * (Qr M * (Qr (N0 ++ N1) * Qr Z2))) := by
      simp only [Qbw, QdV, z7, zU, zQ]
    have lvc : ∀ a, (((Z0 ++ L0) ++ ((L1 ++ M) ++ N1.reverse) ++ (N0.reverse ++ Z2)).flatMap Qf).count a = (K'.flatMap Qf).count a := fun a => by
      rw [e];simp only [zn, zg, zj, lu, lv', ((zy N1).flatMap_right Qf).count_eq, ((zy N0).flatMap_right Qf).count_eq];omega
    obtain ⟨p, l1', e1⟩ : ∃ p l1', L1 = p :: l1' := by
      cases L1 with
      | nil => exact absurd rfl n1
      | cons x y => exact ⟨x, y, rfl⟩
    obtain ⟨q, l2', e2⟩ : ∃ q l2', N1.reverse = q :: l2' := by
      cases hN : N1.reverse with
      | nil => exact absurd (zaN.mp hN) n1'
      | cons x y => exact ⟨x, y, rfl⟩
    have eq : (L1 ++ M) ++ N1.reverse = [] ++ p :: (l1' ++ M) ++ q :: l2' := by rw [e1, e2]; rfl
    have tz : ∀ w ∈ Z0, Qp w /\ Qv w := fun w hw => a1 w (by rw [e]; simp [hw]);have tz2 : ∀ w ∈ Z2, Qp w /\ Qv w := fun w hw => a1 w (by rw [e]; simp [hw]);have tm : ∀ w ∈ M, Qp w /\ Qv w := fun w hw => a1 w (by rw [e]; simp [hw]);have m1' : ∀ w ∈ (L1 ++ M) ++ N1.reverse, Qp w /\ Qv w /\ Qg b w = 1 := fun w hw => by
      rw [zc, zc] at hw;rcases hw with (q | q) | q
      · exact l1 w q
      · exact ⟨(tm w q).1, (tm w q).2, mM w q⟩
      · exact k1 w (zp.mp q)
    have m0' : ∀ w ∈ Z0 ++ L0, Qp w /\ Qv w /\ Qg b w = 0 := fun w hw => by
      rcases zc.mp hw with q | q
      · exact ⟨(tz w q).1, (tz w q).2, m0 w q⟩
      · exact l0 w q
    have m2' : ∀ w ∈ N0.reverse ++ Z2, Qp w /\ Qv w /\ Qg b w = 0 := fun w hw => by
      rcases zc.mp hw with q | q
      · exact k0 w (zp.mp q)
      · exact ⟨(tz2 w q).1, (tz2 w q).2, m2 w q⟩
    have nd3 : (((Z0 ++ L0) ++ ((L1 ++ M) ++ N1.reverse) ++ (N0.reverse ++ Z2)).flatMap Qf).Nodup := zS.mpr fun a => by
      rw [lvc a]; exact zS.mp nd' a
    have QG : Qv (.op2 .ior (.arg 0) (Qk ((Z0 ++ L0) ++ ((L1 ++ M) ++ N1.reverse) ++ (N0.reverse ++ Z2)))) /\ Qam b (.op2 .ior (.arg 0) (Qk ((Z0 ++ L0) ++ ((L1 ++ M) ++ N1.reverse) ++ (N0.reverse ++ Z2)))) := by
      rw [eq] at nd3 m1' ⊢;refine Qhb h32 (fun w hw => ?_) (fun w hw => (m0' w hw).2.2) (fun w hw => (m1' w hw).2.2) (fun w hw => (m2' w hw).2.2) nd3;rw [zc, zc] at hw;rcases hw with (q | q) | q
      · exact ⟨(m0' w q).1, (m0' w q).2.1⟩
      · exact ⟨(m1' w q).1, (m1' w q).2.1⟩
      · exact ⟨(m2' w q).1, (m2' w q).2.1⟩
    have cT : Qt T = Qr Z0 * (Qr (L0 ++ L1) * (Qr M * (Qr (N0 ++ N1) * Qr Z2))) * 2 := by rw [eT, Qcj, prX]
    have pz := Qbt Z0 fun w hw => (tz w hw).2;have pz2 := Qbt Z2 fun w hw => (tz2 w hw).2;have pm := Qbt M fun w hw => (tm w hw).2;have pu : 1 <= Qr (L0 ++ L1) := Qbt _ fun w hw => by
      rcases zc.mp hw with q | q
      · exact (l0 w q).2.1
      · exact (l1 w q).2.1
    have pv : 1 <= Qr (N0 ++ N1) := Qbt _ fun w hw => by
      rcases zc.mp hw with q | q
      · exact (k0 w q).2.1
      · exact (k1 w q).2.1
    have le : Qr K' * 2 <= Qr K * 2 := z9 _ a3;refine ⟨by rw [eT]; exact trivial, by rw [eT]; exact QG.1, ?_, by rw [eT]; exact QG.2, ?_, fun eN => ?_⟩
    · rw [eT, Qcc]
      exact List.Perm.trans (l₂ := K'.flatMap Qf) (zO.mpr lvc) a2
    · refine zN ?_ le
      rw [cT, prK, cu, cv];refine z9 _ (zad _ (zap ?_ (zad _ (z9 _ ?_))))
      · split <;> omega
      · split <;> omega
    · -- no mixed child
      have big : ¬ Qt T < Qr K' * 2 := fun q => by omega
      have u2 : Qg b u ≠ 2 := fun q => big (by
        rw [cT, prK, cu, cv, zb q];refine zar (z8 ?_ pz) (by omega)
        calc Qr (L0 ++ L1) * (Qr M * (Qr (N0 ++ N1) * Qr Z2)) < Qr (L0 ++ L1) * 2 * (Qr M * (Qr (N0 ++ N1) * Qr Z2)) := zar (by omega) (zX pm (zX pv pz2))
          _ <= _ := zad _ (zad _ (z9 _ (by split <;> omega))))
      have v2 : Qg b v ≠ 2 := fun q => big (by
        rw [cT, prK, cu, cv, zb q, za u2, zaB];refine zar (z8 (z8 (z8 (zar (by omega) pz2) pm) pu) pz) (by omega))
      have no2 : ∀ w ∈ K', Qg b w ≠ 2 := fun w hw => by
        rw [e, zc, zt, zc, zt] at hw;rcases hw with q | q | q | q | q
        · rw [m0 w q]; decide
        · rw [q]; exact u2
        · rw [mM w q]; decide
        · rw [q]; exact v2
        · rw [m2 w q]; decide
      have one : ∀ w, Qg b w ≠ 0 -> Qg b w ≠ 2 -> Qg b w = 1 := fun w h0 h2 => by
        rcases QaC b w with q | q | q
        · exact absurd q h0
        · exact q
        · exact absurd q h2
      refine QhQ hK ?_;rw [<- a5 no2];refine ⟨Z0, u :: M ++ [v], Z2, by rw [e]; simp only [zq, zak, zJ], m0, fun w hw => ?_, m2⟩;rw [zc, zt, zi] at hw;rcases hw with (q | q) | q
      · rw [q]; exact one u nu u2
      · exact mM w q
      · rw [q]; exact one v nv v2
  · rw [za md] at h; exact absurd h (by simp)
theorem Qe8{b:Nat->Bool}{t T:Qd}(h:(Qf T).Perm (Qf t)):Qs b T=Qs b t:=by
 rw[Bool.eq_iff_iff,Qab,Qab];exact⟨fun q c h1 h2=>h.mem_iff.mp (q c h1 h2),fun q c h1 h2=>h.mem_iff.mpr (q c h1 h2)⟩
theorem Qgp(b:Nat->Bool)(t:Qd)(w:Qv t):Qs b (Qe t)=Qs b t:=by unfold Qs;rw[(Qbc t w).1]
theorem Qdn{b:Nat->Bool}(h32:∀c,b c=true->c<32)(hc:∃c,b c=true):∀t,Qv t->(Qf t).Nodup->((Qp t->Qs b t=true)/\(QM t->(Qc t).any (Qs b)=true))->∀T,QL b t=some T->Qv T/\(Qf T).Perm (Qf t)/\Qam b T/\Qt T<=Qt t/\(Qt T=Qt t->Qam b t)/\(Qp t->Qp T)/\(QM t->QM T/\(Qc T).any (Qs b)=true/\(Qc T).length=(Qc t).length):=Qan
 (fun c hc' nd al T h=>by
  have e:T = .arg c:=(Option.some.inj h).symm;subst e;exact⟨hc',List.Perm.refl _,trivial,zo _,fun _=>trivial,fun _=>trivial,fun h=>absurd h id⟩)
 (fun o x f w ih nd al T h=>by
  have w':=w;obtain⟨wo,w2,wF,wf⟩:=w;have eR:QL b (.op2 o (.arg x) f)=if (Qc f).any (Qs b)=true then (QL b f).bind fun f'=>some (.op2 o (.arg 0) f') else (QJ b f).bind fun f'=>if o = .iand then Qal b (Qc f') else Qas b (Qc f'):=rfl;have lvf:Qf (.op2 o (.arg x) f)=Qf f:=rfl;have kf:=Qbh Qf (fun _ _=>rfl) rfl f wf wF;have cf:Qt (.op2 o (.arg x) f)=Qt f*(if o = .iand then Qm (Qc f).length else 2):=rfl;have fpos:1<=(if o = .iand then Qm (Qc f).length else 2):=by split;exact Qch _;omega
  rw[eR] at h;by_cases q:(Qc f).any (Qs b)=true
  ·rw[zb q] at h;cases hf:QL b f with
   |none=>rw[hf] at h;exact absurd h (by simp)
   |some f'=>
    rw[hf] at h;have e:T = .op2 o (.arg 0) f':=(Option.some.inj h).symm;obtain⟨i1,i2,i3,i4,i5,-,i7⟩:=ih nd ⟨fun h=>absurd h (QaP wF),fun _=>q⟩ f' hf;obtain⟨j1,j2,j3⟩:=i7 wF;subst e;have cf':Qt (.op2 o (.arg 0) f')=Qt f'*(if o = .iand then Qm (Qc f).length else 2):=by
     show Qt f'*(if o = .iand then Qm (Qc f').length else 2)=_;rw[j3]
    refine⟨⟨wo,by rw[j3];exact w2,j1,i1⟩,i2,Or.inl ⟨j2,i3⟩,by rw[cf,cf'];exact z9 _ i4,fun e=>Or.inl ⟨q,i5 ?_⟩,fun _=>trivial,fun h=>absurd h id⟩;rw[cf,cf'] at e;exact Nat.eq_of_mul_eq_mul_right fpos e
  ·have q':(Qc f).any (Qs b)=false:=by rw[zV] at q;exact q
   rw[za q] at h;cases hf:QJ b f with
   |none=>rw[hf] at h;exact absurd h (by simp)
   |some f'=>
    rw[hf] at h;have h':(if o = .iand then Qal b (Qc f') else Qas b (Qc f'))=some T:=h;obtain⟨F',A⟩:=(Qfu b f wf).2 wF f' hf;have kz:=fun u hu=>(Qbe wf u hu).2;have hin:∀c,b c=true->c∈(Qc f).flatMap Qf:=fun c hb=>by rw[kf];exact Qab.mp (al.1 trivial) c (h32 c hb) hb
    have nd':((Qc f).flatMap Qf).Nodup:=by rw[kf];exact nd
    have cp:=Qev f wf wF;by_cases ho:o = .iand
    ·rw[zb ho] at h';obtain⟨r1,r2,r3,r4,r5,r6⟩:=QhW h32 hc kz A (Qci.mp q') hin nd' w2 h';rw[cf,zb ho,cp];refine⟨r2,by rw[kf] at r3;exact r3,r4,r5,fun e=>Or.inr ⟨q',Or.inl (r6 e)⟩,fun _=>r1,fun h=>absurd h id⟩
    ·rw[za ho] at h';obtain⟨r1,r2,r3,r4,r5,r6⟩:=QiI h32 hc kz A (Qci.mp q') hin nd' h';rw[cf,za ho,cp];have hoi:o = .ior:=by
      rcases wo with e | e
      ·exact absurd e ho
      ·exact e
     refine⟨r2,by rw[kf] at r3;exact r3,r4,r5,fun e=>Or.inr ⟨q',Or.inr ⟨hoi,r6 e⟩⟩,fun _=>r1,fun h=>absurd h id⟩)
 (fun t f w iht ihf nd al T h=>by
  have eR:QL b (.add t f)=if Qs b t=true then (QL b t).bind fun t'=>some (.add t' (Qe f)) else (QL b f).bind fun f'=>some (.add (Qe t) f'):=rfl;obtain⟨w1,w2,w3,w4⟩:=w;have nd0:(Qf t++Qf f).Nodup:=nd;obtain⟨nd1,nd2,-⟩:=zl.mp nd0;have ct:Qt (.add t f)=Qt t*Qt f:=rfl;rw[eR] at h;obtain⟨st1,st2,st3,-,-⟩:=Qbc t w3;obtain⟨sf1,sf2,-,sf4,-⟩:=Qbc f w4;by_cases q:Qs b t=true
  ·rw[zb q] at h;cases ht:QL b t with
   |none=>rw[ht] at h;exact absurd h (by simp)
   |some t'=>
    rw[ht] at h;have e:T = .add t' (Qe f):=(Option.some.inj h).symm;subst e;obtain⟨i1,i2,i3,i4,i5,i6,-⟩:=iht nd1 ⟨fun _=>q,fun h=>absurd w1 (QaP h)⟩ t' ht;have a':Qs b t'=true:=by rw[Qe8 i2];exact q
    have cT:Qt (.add t' (Qe f))=Qt t'*Qt f:=by show Qt t'*Qt (Qe f)=_;rw[(QdD f w4).1]
    refine⟨⟨i6 w1,(sf4 w2).1,i1,sf2⟩,?_,Or.inl ⟨a',i3⟩,by rw[cT,ct];exact z9 _ i4,fun e=>Or.inl ⟨q,i5 ?_⟩,fun h=>absurd h id,fun _=>⟨trivial,?_,?_⟩⟩
    ·show (Qf t'++Qf (Qe f)).Perm (Qf t++Qf f);rw[sf1];exact List.Perm.append i2 (List.Perm.refl _)
    ·rw[cT,ct] at e;exact Nat.eq_of_mul_eq_mul_right (Qes f w4) e
    ·show (Qs b t'||_)=true;rw[a'];rfl
    ·show (Qc (Qe f)).length+1=(Qc f).length+1;rw[(sf4 w2).2,zh]
  ·have q':Qs b t=false:=by rw[zV] at q;exact q
   rw[za q] at h;have an:(Qc f).any (Qs b)=true:=by
    have:(Qs b t||(Qc f).any (Qs b))=true:=al.2 trivial;rw[q',zaa] at this;exact this
   cases hf:QL b f with
   |none=>rw[hf] at h;exact absurd h (by simp)
   |some f'=>
    rw[hf] at h;have e:T = .add (Qe t) f':=(Option.some.inj h).symm;subst e;obtain⟨i1,i2,i3,i4,i5,-,i7⟩:=ihf nd2 ⟨fun h=>absurd h (QaP w2),fun _=>an⟩ f' hf;obtain⟨j1,j2,j3⟩:=i7 w2;have cT:Qt (.add (Qe t) f')=Qt t*Qt f':=by show Qt (Qe t)*Qt f'=_;rw[(QdD t w3).1]
    have a':Qs b (Qe t)=false:=by rw[Qgp b t w3];exact q'
    refine⟨⟨st3 w1,j1,st2,i1⟩,?_,Or.inr ⟨a',i3⟩,by rw[cT,ct];exact zad _ i4,fun e=>Or.inr ⟨q',i5 ?_⟩,fun h=>absurd h id,fun _=>⟨trivial,?_,?_⟩⟩
    ·show (Qf (Qe t)++Qf f').Perm (Qf t++Qf f);rw[st1];exact List.Perm.append (List.Perm.refl _) i2
    ·rw[cT,ct] at e;exact Nat.eq_of_mul_eq_mul_left (Qes t w3) e
    ·show (Qs b (Qe t)||(Qc f').any (Qs b))=true;rw[j2,Bool.or_true]
    ·show (Qc f').length+1=(Qc f).length+1;rw[j3])
 (fun nd al T h=>absurd (al.2 trivial) (by simp[Qc]))
theorem QcH:∀t,Qv t->Qf (QH t)=Qf t/\Qv (QH t)/\Qt (QH t)=Qt t/\(Qp t->Qp (QH t))/\(QM t->QM (QH t)/\Qc (QH t)=(Qc t).map QH):=Qan
 (fun c h=>⟨rfl,h,rfl,fun _=>trivial,fun h=>absurd h id⟩)
 (fun o x f w ih=>by
  obtain⟨i1,i2,i3,i4,i5⟩:=ih;obtain⟨j1,j2⟩:=i5 w.2.2.1;refine⟨i1,⟨?_,by rw[j2,zh];exact w.2.1,j1,i2⟩,?_,fun _=>trivial,fun h=>absurd h id⟩
  ·split
   ·exact Or.inl rfl
   ·exact w.1
  ·show Qt (QH f)*(if (if (Qc f).length=2 then Jvm.Binary.iand else o) = .iand then Qm (Qc (QH f)).length else 2)=Qt f*(if o = .iand then Qm (Qc f).length else 2);rw[i3,j2,zh];by_cases q:(Qc f).length=2
   ·rw[zb q,zb rfl,q];by_cases ho:o = .iand
    ·rw[zb ho]
    ·rw[za ho];rfl
   ·rw[za q])
 (fun t f w iht ihf=>by
  obtain⟨i1,i2,i3,i4,i5⟩:=iht;obtain⟨j1,j2,j3,j4,j5⟩:=ihf;refine⟨?_,⟨i4 w.1,(j5 w.2.1).1,i2,j2⟩,?_,fun h=>absurd h id,fun _=>⟨trivial,?_⟩⟩
  ·show Qf (QH t)++Qf (QH f)=_;rw[i1,j1];rfl
  ·show Qt (QH t)*Qt (QH f)=_;rw[i3,j3];rfl
  ·show QH t::Qc (QH f)=_;rw[(j5 w.2.1).2];rfl)
 ⟨rfl,trivial,rfl,fun h=>absurd h id,fun _=>⟨trivial,rfl⟩⟩
theorem QfX(b:Nat->Bool)(t:Qd)(w:Qv t):Qs b (QH t)=Qs b t:=by unfold Qs;rw[(QcH t w).1]
theorem Qig(b:Nat->Bool)(t:Qd)(w:Qv t):Qg b (QH t)=Qg b t:=by unfold Qg;rw[(QcH t w).1]
theorem QgQ{b:Nat->Bool}{g:Qd->Qd}:∀ {l:List Qd},(∀u∈l,Qs b (g u)=Qs b u)->(l.map g).any (Qs b)=l.any (Qs b)
 |[],_=>rfl
 |u::l,h=>by rw[zE,List.any_cons,List.any_cons,h u (by simp),QgQ fun v hv=>h v (by simp[hv])]
theorem Qgz{g:Qd->Qd}:∀ {l:List Qd},(∀u∈l,Qf (g u)=Qf u)->(l.map g).flatMap Qf=l.flatMap Qf
 |[],_=>rfl
 |u::l,h=>by rw[zE,zg,zg,h u (by simp),Qgz fun v hv=>h v (by simp[hv])]
theorem Qg1{b:Nat->Bool}{g:Qd->Qd}{K:List Qd}(h:∀u∈K,Qg b (g u)=Qg b u)(r:Qb6 b K):Qb6 b (K.map g):=by
 obtain⟨Z0,Z1,Z2,e,m0,m1,m2⟩:=r;have go:∀(Z:List Qd) (v:Int32),(∀u∈Z,u∈K)->(∀u∈Z,Qg b u=v)->∀u∈Z.map g,Qg b u=v:=fun Z v hZ m u hu=>by
  obtain⟨w,hw,ew⟩:=zD.mp hu;rw[<-ew,h w (hZ w hw)];exact m w hw
 refine⟨Z0.map g,Z1.map g,Z2.map g,by rw[e,zA,zA],go Z0 0 (fun u hu=>by rw[e];simp[hu]) m0,go Z1 1 (fun u hu=>by rw[e];simp[hu]) m1,go Z2 0 (fun u hu=>by rw[e];simp[hu]) m2⟩
theorem Qji{b:Nat->Bool}(h32:∀c,b c=true->c<32)(hc:∃c,b c=true):∀t,Qv t->((Qp t->Qs b t=true)/\(QM t->(Qc t).any (Qs b)=true))->Qam b t->Qam b (QH t):=Qan
 (fun c _ _ _=>trivial)
 (fun o x f w ih al h=>by
  obtain⟨wo,w2,wF,wf⟩:=w;have kz:=fun u hu=>(Qbe wf u hu).2;obtain⟨-,-,-,-,n5⟩:=QcH f wf;obtain⟨n6,n7⟩:=n5 wF;have an:(Qc (QH f)).any (Qs b)=(Qc f).any (Qs b):=by rw[n7];exact QgQ fun u hu=>QfX b u (kz u hu)
  have lvn:(Qc (QH f)).flatMap Qf=(Qc f).flatMap Qf:=by rw[n7];exact Qgz fun u hu=>(QcH u (kz u hu)).1
  rcases h with⟨q,h⟩ | ⟨q,h⟩
  ·exact Or.inl ⟨by rw[an];exact q,ih ⟨fun h=>absurd h (QaP wF),fun _=>q⟩ h⟩
  ·refine Or.inr ⟨by rw[an];exact q,?_⟩;rcases h with h | ⟨ho,h⟩
   ·exact Or.inl (by rw[lvn];exact h)
   ·by_cases k2:(Qc f).length=2
    ·refine Or.inl ?_;rw[lvn];have kf:=Qbh Qf (fun _ _=>rfl) rfl f wf wF;have hin:∀c,b c=true->c∈(Qc f).flatMap Qf:=fun c hb=>by rw[kf];exact Qab.mp (al.1 trivial) c (h32 c hb) hb
     obtain⟨Z0,u,M,v,Z2,e,-,nu,nv,-,-,-⟩:=Qc4 (Qci.mp q) hc hin;obtain⟨Y0,Y1,Y2,e',m0,m1,m2⟩:=h;have no2:∀w∈Qc f,Qg b w≠0->Qg b w=1:=fun w hw hn=>by
      rw[e',zc,zc] at hw;rcases hw with (q | q) | q
      ·exact absurd (m0 w q) hn
      ·exact m1 w q
      ·exact absurd (m2 w q) hn
     have eZ:Z0=[]/\M=[]/\Z2=[]:=by
      have:=congrArg List.length e;rw[k2,zd,zs,zd,zs] at this;exact⟨QX.mp (by omega),QX.mp (by omega),QX.mp (by omega)⟩
     refine QaJ.mpr fun w hw=>Qbp (no2 w hw ?_);rw[e,eZ.1,eZ.2.1,eZ.2.2] at hw;have hw':w=u\/w=v:=by simpa using hw
     rcases hw' with q | q
     ·rw[q];exact nu
     ·rw[q];exact nv
    ·exact Or.inr ⟨by show (if (Qc f).length=2 then _ else o)=_;rw[za k2];exact ho,by rw[n7];exact Qg1 (fun u hu=>Qig b u (kz u hu)) h⟩)
 (fun t f w iht ihf al h=>by
  obtain⟨w1,w2,w3,w4⟩:=w;have at':=QfX b t w3;rcases h with⟨q,h⟩ | ⟨q,h⟩
  ·exact Or.inl ⟨by rw[at'];exact q,iht ⟨fun _=>q,fun h=>absurd w1 (QaP h)⟩ h⟩
  ·have an:(Qc f).any (Qs b)=true:=by
    have:(Qs b t||(Qc f).any (Qs b))=true:=al.2 trivial;rw[q,zaa] at this;exact this
   exact Or.inr ⟨by rw[at'];exact q,ihf ⟨fun h=>absurd h (QaP w2),fun _=>an⟩ h⟩)
 (fun _ _=>trivial)
theorem Qfc(b:Nat->Bool):∀t,Qv t->(Qp t->Qg b t≠2->QJ b t=some (Qe t))/\(QM t->(∀u∈Qc t,Qg b u≠2)->QJ b t=some (Qe t)):=Qan
 (fun c _=>⟨fun _ _=>rfl,fun h=>absurd h id⟩)
 (fun o x f w ih=>⟨fun _ h=>by
  obtain⟨wo,w2,wF,wf⟩:=w;have kf:=Qbh Qf (fun _ _=>rfl) rfl f wf wF;have eI:QJ b (.op2 o (.arg x) f)=if Qg b (.op2 o (.arg x) f)=0 then some (.op2 o (.arg 0) (Qe f)) else (QJ b f).bind fun f'=>if o = .iand then QaE b (Qc f') else QaG b (Qc f'):=rfl;rw[eI];by_cases q0:Qg b (.op2 o (.arg x) f)=0
  ·rw[zb q0];rfl
  ·have q1:Qg b (.op2 o (.arg x) f)=1:=by
    rcases QaC b (.op2 o (.arg x) f) with q | q | q
    ·exact absurd q q0
    ·exact q
    ·exact absurd q h
   have all1:∀u∈Qc f,Qg b u=1:=fun u hu=>by
    have ha:(Qf f).all b=true:=Qbp q1;rw[<-kf] at ha;unfold Qg;rw[zb (QaJ.mp ha u hu)]
   rw[za q0,ih.2 wF fun u hu=>by rw[all1 u hu];decide];obtain⟨-,-,-,s4,-⟩:=Qbc f wf;obtain⟨s5,s6⟩:=s4 wF;have all1':∀u∈Qc (Qe f),Qg b u=1:=fun u hu=>by
    rw[s6] at hu;obtain⟨w,hw,ew⟩:=zD.mp hu;rw[<-ew,QeT b w (Qbe wf w hw).2];exact all1 w hw
   have z0:Qa b 0 (Qc (Qe f))=[]:=Q7.mpr fun u hu=>by rw[all1' u hu];decide
   have z2:Qa b 2 (Qc (Qe f))=[]:=Q7.mpr fun u hu=>by rw[all1' u hu];decide
   have kk:Qk (Qc (Qe f))=Qe f:=Qdl _ (Qbc f wf).2.1 s5;show (if o = .iand then QaE b (Qc (Qe f)) else QaG b (Qc (Qe f)))=_;by_cases ho:o = .iand
   ·rw[zb ho];unfold QaE;rw[z0,z2,za (by simp),zb ⟨rfl,Or.inl rfl⟩,kk,ho];rfl
   ·have hoi:o = .ior:=by
     rcases wo with e | e
     ·exact absurd e ho
     ·exact e
    rw[za ho];unfold QaG;rw[z0,z2,za (by simp),zb ⟨rfl,Or.inl rfl⟩,kk,hoi];rfl,fun h=>absurd h id⟩)
 (fun t f w iht ihf=>⟨fun h=>absurd h id,fun _ h=>by
  show (QJ b t).bind (fun t'=>(QJ b f).bind fun f'=>some (Jvm.Term.add t' f'))=_;rw[iht.1 w.1 (h t (by simp[Qc])),ihf.2 w.2.1 fun u hu=>h u (by simp[Qc,hu])];rfl⟩)
 ⟨fun h=>absurd h id,fun _ _=>rfl⟩
theorem QhH{b:Nat->Bool}(h32:∀c,b c=true->c<32)(hc:∃c,b c=true):∀t,Qv t->((Qp t->Qs b t=true)/\(QM t->(Qc t).any (Qs b)=true))->Qam b t->QL b t=some (Qe t):=Qan
 (fun c _ _ _=>rfl)
 (fun o x f w ih al h=>by
  obtain⟨wo,w2,wF,wf⟩:=w;have eR:QL b (.op2 o (.arg x) f)=if (Qc f).any (Qs b)=true then (QL b f).bind fun f'=>some (.op2 o (.arg 0) f') else (QJ b f).bind fun f'=>if o = .iand then Qal b (Qc f') else Qas b (Qc f'):=rfl;rw[eR];rcases h with⟨q,h⟩ | ⟨q,h⟩
  ·rw[zb q,ih ⟨fun h=>absurd h (QaP wF),fun _=>q⟩ h];rfl
  ·rw[za (by rw[q];decide)];have kz:=fun u hu=>(Qbe wf u hu).2;obtain⟨-,sz,-,s4,-⟩:=Qbc f wf;obtain⟨s5,s6⟩:=s4 wF;have kk:Qk (Qc (Qe f))=Qe f:=Qdl _ sz s5;have lbs:∀u∈Qc f,Qg b (Qe u)=Qg b u:=fun u hu=>QeT b u (kz u hu);have r3:Qb6 b (Qc f):=by
    rcases h with h | ⟨-,h⟩
    ·exact⟨[],Qc f,[],by simp,fun u hu=>absurd hu (by simp),fun u hu=>by unfold Qg;rw[zb (QaJ.mp h u hu)],fun u hu=>absurd hu (by simp)⟩
    ·exact h
   have no2:∀u∈Qc f,Qg b u≠2:=fun u hu=>by
    obtain⟨Z0,Z1,Z2,e,m0,m1,m2⟩:=r3;rw[e,zc,zc] at hu;rcases hu with (q | q) | q
    ·rw[m0 u q];decide
    ·rw[m1 u q];decide
    ·rw[m2 u q];decide
   have no2':∀u∈Qc (Qe f),Qg b u≠2:=fun u hu=>by
    rw[s6] at hu;obtain⟨w,hw,ew⟩:=zD.mp hu;rw[<-ew,lbs w hw];exact no2 w hw
   rw[(Qfc b f wf).2 wF no2];show (if o = .iand then Qal b (Qc (Qe f)) else Qas b (Qc (Qe f)))=_;have z2:Qa b 2 (Qc (Qe f))=[]:=Q7.mpr no2';by_cases ho:o = .iand
   ·rw[zb ho];rcases h with h | ⟨hoi,-⟩
    ·have z0:Qa b 0 (Qc (Qe f))=[]:=Q7.mpr fun u hu=>by
      rw[s6] at hu;obtain⟨w,hw,ew⟩:=zD.mp hu;rw[<-ew,lbs w hw];unfold Qg;rw[zb (QaJ.mp h w hw)];decide
     unfold Qal;rw[z2,z0];show (if ([]:List Qd).length=0\/(Qa b 1 (Qc (Qe f))).length<2 then some (Jvm.Term.op2 .iand (.arg 0) (Qk (Qc (Qe f)))) else some (Jvm.Term.op2 .iand (.arg 0) (Qk ([]++QB (Qa b 1 (Qc (Qe f)))))))=_;rw[zb (show ([]:List Qd).length=0\/(Qa b 1 (Qc (Qe f))).length<2 from Or.inl rfl),kk,ho];rfl
    ·rw[hoi] at ho;exact absurd ho (by decide)
   ·have hoi:o = .ior:=by
     rcases wo with e | e
     ·exact absurd e ho
     ·exact e
    rw[za ho];unfold Qas;have md:Qcr b (QaK b (Qc (Qe f))) (Qa4 b (Qc (Qe f))) (Qc (Qe f))=true:=by
     have kf:=Qbh Qf (fun _ _=>rfl) rfl (Qe f) sz s5;have hin:∀c,b c=true->c∈(Qc (Qe f)).flatMap Qf:=fun c hb=>by
      rw[kf,(Qbc f wf).1];exact Qab.mp (al.1 trivial) c (h32 c hb) hb
     have na:∀u∈Qc (Qe f),Qs b u=false:=fun u hu=>by
      rw[s6] at hu;obtain⟨w,hw,ew⟩:=zD.mp hu;rw[<-ew,Qgp b w (kz w hw)];exact Qci.mp q w hw
     have r3':Qb6 b (Qc (Qe f)):=by rw[s6];exact Qg1 lbs r3
     rw[QbY];obtain⟨Y0,Y1,Y2,e',m0,m1,m2⟩:=r3';obtain⟨Z0,u,M,v,Z2,e,z0,nu,nv,z2',ef,ela⟩:=Qc4 na hc hin;rw[ef,ela];intro k h1 h2 h3;refine Classical.byContradiction fun hk=>?_;have gk:Qg b ((Qc (Qe f)).getD k .null)=0:=by
      have hm:=Qa2 h3;rcases QaC b ((Qc (Qe f)).getD k .null) with q | q | q
      ·exact q
      ·exact absurd q hk
      ·exact absurd q (no2' _ hm)
     have idx:∀i,i<(Qc (Qe f)).length->(Qg b ((Qc (Qe f)).getD i .null)≠0↔Y0.length<=i/\i<Y0.length+Y1.length):=fun i hi=>by
      rw[e',zd,zd] at hi;rw[e',zf];by_cases c1:i<Y0.length
      ·rw[List.getElem?_append_left (by rw[zd];omega),List.getElem?_append_left c1,List.getElem?_eq_getElem c1];exact⟨fun h=>absurd (m0 _ (zF c1)) h,fun h=>by omega⟩
      ·by_cases c2:i<Y0.length+Y1.length
       ·rw[List.getElem?_append_left (by rw[zd];omega),List.getElem?_append_right (by omega),List.getElem?_eq_getElem (by omega)];refine⟨fun _=>⟨by omega,c2⟩,fun _=>?_⟩;rw[show (some (Y1[i-Y0.length]'(by omega))).getD Jvm.Term.null=Y1[i-Y0.length]'(by omega) from rfl,m1 _ (zF _)];decide
       ·rw[List.getElem?_append_right (by rw[zd];omega),List.getElem?_eq_getElem (by rw[zd];omega)];exact⟨fun h=>absurd (m2 _ (zF _)) h,fun h=>by omega⟩
     have le:=congrArg List.length e;rw[zd,zs,zd,zs] at le;have iu:=(idx Z0.length (by omega)).mp (by rw[e,zf,List.getElem?_append_right (zo _),Nat.sub_self];exact nu);have iv:=(idx (Z0.length+1+M.length) (by omega)).mp (by
      rw[e,zf,List.getElem?_append_right (by omega),show Z0.length+1+M.length-Z0.length=M.length+1 from by omega,List.getElem?_cons_succ,List.getElem?_append_right (zo _),Nat.sub_self];exact nv)
     exact ((idx k h3).mpr ⟨by omega,by omega⟩) gk
    rw[zb md,Qb7 0 no2',kk,hoi];rfl)
 (fun t f w iht ihf al h=>by
  obtain⟨w1,w2,w3,w4⟩:=w;show (if Qs b t=true then (QL b t).bind (fun t'=>some (Jvm.Term.add t' (Qe f))) else (QL b f).bind fun f'=>some (Jvm.Term.add (Qe t) f'))=_;rcases h with⟨q,h⟩ | ⟨q,h⟩
  ·rw[zb q,iht ⟨fun _=>q,fun h=>absurd w1 (QaP h)⟩ h];rfl
  ·have an:(Qc f).any (Qs b)=true:=by
    have:(Qs b t||(Qc f).any (Qs b))=true:=al.2 trivial;rw[q,zaa] at this;exact this
   rw[za (by rw[q];decide),ihf ⟨fun h=>absurd h (QaP w2),fun _=>an⟩ h];rfl)
 (fun _ _=>rfl)
def QV(b:Nat->Bool)(l:List Nat):Prop:=∃l1 l2 l3,l=l1++l2++l3/\(∀c∈l1,b c=false)/\(∀c∈l2,b c=true)/\∀c∈l3,b c=false
theorem QjP{o:Jvm.Binary}{x:Nat}{f:Qd}(w:Qu (.op2 o (.arg x) f)):∃Kp,Kp.Perm (Qc f)/\QC (.op2 o (.arg x) f)=Kp.flatMap QC/\(o ≠ .iand->Kp=Qc f\/Kp=(Qc f).reverse):=by
 obtain⟨w1,w3,⟨w4,w5⟩,w6,w7⟩:=w;have kF:=QcF f w7 w6;have kL:=QcG f w7 w6;have hll:QC (.op2 o (.arg x) f)=if o = .iand then (QaA (QR f) (QR f).length (QR f).length 0).reverse.flatMap (fun i=>(Q9 f).getD i []) else if (QR f).getD 0 0<(QR f).getD ((QR f).length-1) 0 then (Q9 f).flatMap id else (Q9 f).reverse.flatMap id:=rfl;rw[kF,kL,zh] at hll;generalize Qc f=K at *;have idm:∀l:List Qd,(l.map QC).flatMap id=l.flatMap QC:=fun l=>by rw[zaG];rfl
 by_cases ho:o = .iand
 ·rw[zb ho] at hll;have pm:=Qfj (K.map QU) K.length;refine⟨((QaA (K.map QU) K.length K.length 0).reverse).map (fun i=>K.getD i .null),?_,?_,fun h=>absurd ho h⟩
  ·refine List.Perm.trans (List.Perm.map _ ((zy _).trans pm)) ?_;rw[QgR]
  ·rw[hll,zaG];have mem:∀i∈(QaA (K.map QU) K.length K.length 0).reverse,i<K.length:=fun i hi=>zC.mp (pm.mem_iff.mp (zp.mp hi));generalize (QaA (K.map QU) K.length K.length 0).reverse=L at mem
   induction L with
   |nil=>rfl
   |cons i L ih=>rw[zg,zg,QhM (mem i (by simp)),ih fun j hj=>mem j (by simp[hj])]
 ·rw[za ho] at hll;by_cases q:(K.map QU).getD 0 0<(K.map QU).getD (K.length-1) 0
  ·rw[zb q,idm] at hll;exact⟨K,List.Perm.refl _,hll,fun _=>Or.inl rfl⟩
  ·rw[za q,<-zI,idm] at hll;exact⟨K.reverse,zy _,hll,fun _=>Or.inr rfl⟩
theorem Qen:∀t,Qv t->(Qf t).length<=8->QN t=O (Qt t):=Qan
 (fun c _ _=>rfl)
 (fun o x f w ih h=>by
  have hf:(Qf f).length<=8:=h;have hk:(Qc f).length<=8:=by
   have kz:=Qbe w.2.2.2;have:(Qc f).length<=((Qc f).flatMap Qf).length:=by
    generalize Qc f=K at kz
    induction K with
    |nil=>exact zo _
    |cons u K ih2=>
     have:=ih2 fun v hv=>kz v (by simp[hv]);have:=zah.mpr (Qbf u (kz u (by simp)).2 (kz u (by simp)).1);rw[zg,zd,zs];omega
   rw[Qbh Qf (fun _ _=>rfl) rfl f w.2.2.2 w.2.2.1] at this;omega
  show QN f*(if o = .iand then QaX (Qc f).length 7 else 2)=O (Qt f*(if o = .iand then Qm (Qc f).length else 2));rw[ih hf,<-Qbz]
  congr 1
  have fe:∀k:Fin 9,QaX k.val 7=O (Qm k.val):=by decide
  split
  ·exact fe ⟨(Qc f).length,by omega⟩
  ·rfl)
 (fun t f _ iht ihf h=>by
  have h':(Qf t++Qf f).length<=8:=h;rw[zd] at h';show QN t*QN f=O (Qt t*Qt f);rw[iht (by omega),ihf (by omega),Qbz]) (fun _=>rfl)
theorem QjN{n:Nat}{t:Qd}{s:Int32}(w:Qu t)(ht:Qp t)(nd:(Qf t).Nodup)(h8:(Qf t).length<=8)(hin:∀c,Qj s c=true->c∈Qf t)(tv:Qbb n s=false):(QS n s (Qe t)=2->Qam (Qj s) (Qe t))/\(QS n s (Qe t)=1->∃T,Qaf s (Qe t)=some T/\Qam (Qj s) T/\Qt T<Qt t)/\(Qam (Qj s) (Qe t)->QS n s (Qe t)=2):=by
 have h32:∀c,Qj s c=true->c<32:=fun c hc=>Qcd s hc;have wz:=QbC t w;obtain⟨s1,s2,s3,-,s5⟩:=Qbc t wz;have hsT:=s3 ht;have hc:∃c,Qj s c=true:=Classical.byContradiction fun hn=>by
  have e:(List.range 8).filter (Qj s)=[]:=zaV.mpr fun c _ hcc=>hn ⟨c,hcc⟩;unfold Qbb at tv;rw[e] at tv;exact absurd tv (by simp)
 have al:Qs (Qj s) (Qe t)=true:=Qab.mpr fun c _ hb=>by rw[s1];exact hin c hb
 have nF:QM (Qe t)->False:=fun h=>QaP h hsT;have alh:(Qp (Qe t)->Qs (Qj s) (Qe t)=true)/\(QM (Qe t)->(Qc (Qe t)).any (Qs (Qj s))=true):=⟨fun _=>al,fun h=>absurd h nF⟩;have nds:(Qf (Qe t)).Nodup:=by rw[s1];exact nd
 have cs:=(QdD t wz).1;have cnz:=Qen _ s2 (by rw[s1];exact h8);have cb:=((Qfz t w).2.1 ht);have c403:Qt t<=40320:=by
  have fe:∀k:Fin 9,Qm k.val<=40320:=by decide
  exact zN cb (fe ⟨(Qf t).length,by omega⟩)
 have vf:QS n s (Qe t)=match Qaf s (Qe t) with | none=>3 | some t'=>if QN t'=QN (Qe t) then 2 else 1:=by unfold QS;exact za (by rw[tv];decide)
 have main:∀T0,QL (Qj s) (Qe t)=some T0->Qam (Qj s) (QH T0)/\Qt (QH T0)<=Qt t/\(Qt (QH T0)=Qt t->Qam (Qj s) (Qe t))/\QN (QH T0)=O (Qt (QH T0)):=fun T0 h0=>by
  obtain⟨r1,r2,r3,r4,r5,r6,-⟩:=Qdn h32 hc _ s2 nds alh T0 h0;obtain⟨z1,z2,z3,z4,-⟩:=QcH T0 r1;have aT:Qs (Qj s) T0=true:=by rw[Qe8 r2];exact al
  refine⟨Qji h32 hc T0 r1 ⟨fun _=>aT,fun h=>absurd (r6 hsT) (QaP h)⟩ r3,by rw[z3,<-cs];exact r4,fun e=>r5 (by rw[<-z3,e,cs]),Qen _ z2 (by rw[z1,r2.length_eq,s1];exact h8)⟩
 refine⟨fun h=>?_,fun h=>?_,fun h=>?_⟩
 ·rw[vf] at h;cases hR:QL (Qj s) (Qe t) with
  |none=>
   have e:Qaf s (Qe t)=none:=by unfold Qaf;rw[hR];rfl
   rw[e] at h;exact absurd (show (3:Int32)=2 from h) (by decide)
  |some T0=>
   have e:Qaf s (Qe t)=some (QH T0):=by unfold Qaf;rw[hR];rfl
   rw[e] at h;have h':(if QN (QH T0)=QN (Qe t) then (2:Int32) else 1)=2:=h;obtain⟨m1,m2,m3,m4⟩:=main T0 hR;by_cases q:QN (QH T0)=QN (Qe t)
   ·rw[m4,cnz,cs] at q;have q':=congrArg Int32.toInt q;rw[Qac (by omega),Qac (by omega)] at q';exact m3 (by omega)
   ·rw[za q] at h';exact absurd h' (by decide)
 ·rw[vf] at h;cases hR:QL (Qj s) (Qe t) with
  |none=>
   have e:Qaf s (Qe t)=none:=by unfold Qaf;rw[hR];rfl
   rw[e] at h;exact absurd (show (3:Int32)=1 from h) (by decide)
  |some T0=>
   have e:Qaf s (Qe t)=some (QH T0):=by unfold Qaf;rw[hR];rfl
   rw[e] at h;have h':(if QN (QH T0)=QN (Qe t) then (2:Int32) else 1)=1:=h;obtain⟨m1,m2,m3,m4⟩:=main T0 hR;refine⟨QH T0,e,m1,Nat.lt_of_le_of_ne m2 fun q=>?_⟩;rw[zb (by rw[m4,cnz,cs,q])] at h';exact absurd h' (by decide)
 ·have hR:=QhH h32 hc _ s2 alh h;rw[s5] at hR;have e:Qaf s (Qe t)=some (QH (Qe t)):=by unfold Qaf;rw[hR];rfl
  rw[vf,e];obtain⟨z1,z2,z3,-,-⟩:=QcH _ s2;show (if QN (QH (Qe t))=QN (Qe t) then (2:Int32) else 1)=2;rw[zb];rw[Qen _ z2 (by rw[z1,s1];exact h8),z3,cnz]
def QaY:Qd->List (List Nat)->Prop
 | .arg c,x=>x=[[c]]
 | .op2 o (.arg _) f,x=>∃ls ls',QaY f ls/\(if o = .iand then ls'.Perm ls else ls'=ls\/ls'=ls.reverse)/\x=[ls'.flatten]
 | .add t f,x=>∃a r,QaY t a/\QaY f r/\x=a++r
 |_,x=>x=[]
def Qo(t:Qd)(l:List Nat):Prop:=QaY t [l]
def Qw(P:Qd->List Nat->Prop):List Qd->List Nat->Prop
 |[],l=>l=[]
 |u::A,l=>∃a r,l=a++r/\P u a/\Qw P A r
def QeM:List Qd->List (List Nat)->Prop
 |[],[]=>True
 |u::K,l::ls=>Qo u l/\QeM K ls
 |_,_=>False
theorem Qck{α β:Type}(f:α->β):∀ {l l':List β},l.Perm l'->∀Z:List α,Z.map f=l->∃Z':List α,Z'.Perm Z/\Z'.map f=l':=by
 intro l l' h
 induction h with
 |nil=>intro Z e;exact⟨Z,List.Perm.refl _,e⟩
 |cons x _ ih=>
  intro Z e;obtain⟨a,Z1,e1,e2,e3⟩:=zaE.mp e;obtain⟨Z',p,e'⟩:=ih Z1 e3;exact⟨a::Z',by rw[e1];exact List.Perm.cons a p,by rw[zE,e',e2]⟩
 |swap x y l=>
  intro Z e;obtain⟨a,Z1,e1,e2,e3⟩:=zaE.mp e;obtain⟨c,Z2,e4,e5,e6⟩:=zaE.mp e3;exact⟨c::a::Z2,by rw[e1,e4];exact List.Perm.swap _ _ _,by rw[zE,zE,e2,e5,e6]⟩
 |trans _ _ ih1 ih2=>
  intro Z e;obtain⟨Z1,p1,e1⟩:=ih1 Z e;obtain⟨Z2,p2,e2⟩:=ih2 Z1 e1;exact⟨Z2,p2.trans p1,e2⟩
theorem QjF:∀ {t:Qd},Qp t->∀ {x},QaY t x->∃l,x=[l]
 | .arg c,_,x,h=>⟨[c],h⟩
 | .op2 _ (.arg _) _,_,x,h=>by obtain⟨ls,ls',-,-,e⟩:=h;exact⟨_,e⟩
theorem Qd1:∀ {f:Qd},Qv f->QM f->∀ {ls},QaY f ls↔QeM (Qc f) ls
 | .add t f,w,_,ls=>by
  constructor
  ·rintro ⟨a,r,ha,hr,e⟩
   obtain⟨l,ea⟩:=QjF w.1 ha;rw[ea] at ha e;rw[e];exact⟨ha,(Qd1 w.2.2.2 w.2.1).mp hr⟩
  ·intro h;cases ls with
   |nil=>exact absurd h id
   |cons l ls=>exact⟨[l],ls,h.1,(Qd1 w.2.2.2 w.2.1).mpr h.2,rfl⟩
 | .null,_,_,ls=>by
  constructor
  ·intro h;have e:ls=[]:=h;rw[e];exact trivial
  ·intro h;cases ls with
   |nil=>rfl
   |cons l ls=>exact absurd h id
theorem Qct:∀ {K:List Qd} {ls:List (List Nat)},QeM K ls↔∃Z:List (Qd×List Nat),Z.map Prod.fst=K/\Z.map Prod.snd=ls/\∀p∈Z,Qo p.1 p.2
 |[],[]=>⟨fun _=>⟨[],rfl,rfl,fun p hp=>absurd hp (by simp)⟩,fun _=>trivial⟩
 |[],_::_=>⟨fun h=>absurd h id,fun⟨Z,e1,e2,_⟩=>by rw[List.map_eq_nil_iff] at e1;rw[e1] at e2;simp at e2⟩
 |_::_,[]=>⟨fun h=>absurd h id,fun⟨Z,e1,e2,_⟩=>by rw[List.map_eq_nil_iff] at e2;rw[e2] at e1;simp at e1⟩
 |u::K,l::ls=>by
  constructor
  ·rintro ⟨h1,h2⟩
   obtain⟨Z,e1,e2,h⟩:=Qct.mp h2;refine⟨(u,l)::Z,by rw[zE,e1],by rw[zE,e2],fun p hp=>?_⟩;rcases zt.mp hp with e | e
   ·rw[e];exact h1
   ·exact h p e
  ·rintro ⟨Z,e1,e2,h⟩
   obtain⟨p,Z1,e3,e4,e5⟩:=zaE.mp e1;rw[e3,zE] at e2;have e6:=List.cons.inj e2;refine⟨?_,Qct.mpr ⟨Z1,e5,e6.2,fun q hq=>h q (by rw[e3];simp[hq])⟩⟩;rw[<-e4,<-e6.1];exact h p (by rw[e3];simp)
theorem QdI{P:Qd->List Nat->Prop}:∀ {K:List Qd} {l:List Nat},Qw P K l↔∃Z:List (Qd×List Nat),Z.map Prod.fst=K/\(∀p∈Z,P p.1 p.2)/\l=Z.flatMap Prod.snd
 |[],l=>⟨fun h=>⟨[],rfl,fun p hp=>absurd hp (by simp),h⟩,fun⟨Z,e,_,h⟩=>by rw[List.map_eq_nil_iff] at e;rw[e] at h;exact h⟩
 |u::K,l=>by
  constructor
  ·rintro ⟨a,r,e,h1,h2⟩
   obtain⟨Z,e1,h3,e2⟩:=QdI.mp h2;refine⟨(u,a)::Z,by rw[zE,e1],fun p hp=>?_,by rw[zg,<-e2];exact e⟩;rcases zt.mp hp with e' | e'
   ·rw[e'];exact h1
   ·exact h3 p e'
  ·rintro ⟨Z,e1,h,e2⟩
   obtain⟨p,Z1,e3,e4,e5⟩:=zaE.mp e1;refine⟨p.2,Z1.flatMap Prod.snd,by rw[e2,e3,zg],by rw[<-e4];exact h p (by rw[e3];simp),QdI.mpr ⟨Z1,e5,fun q hq=>h q (by rw[e3];simp[hq]),rfl⟩⟩
def QY(o:Jvm.Binary)(Kp K:List Qd):Prop:=if o = .iand then Kp.Perm K else Kp=K\/Kp=K.reverse
theorem Qat{o:Jvm.Binary}{x:Nat}{f:Qd}(w:Qv (.op2 o (.arg x) f)){l:List Nat}:Qo (.op2 o (.arg x) f) l↔∃Kp,QY o Kp (Qc f)/\Qw Qo Kp l:=by
 have mf:=fun ls=>Qd1 w.2.2.2 w.2.2.1 (ls:=ls);constructor
 ·rintro ⟨ls,ls',h1,h2,e⟩
  have el:l=ls'.flatten:=(List.cons.inj e).1;obtain⟨Z,z1,z2,z3⟩:=Qct.mp ((mf ls).mp h1);have go:∀Z':List (Qd×List Nat),Z'.map Prod.snd=ls'->(∀p∈Z',p∈Z)->Qw Qo (Z'.map Prod.fst) l:=fun Z' e1 e2=>QdI.mpr ⟨Z',rfl,fun p hp=>z3 p (e2 p hp),by rw[el,<-e1];exact List.flatMap_def.symm⟩;unfold QY;by_cases ho:o = .iand
  ·rw[zb ho] at h2;obtain⟨Z',p,e'⟩:=Qck Prod.snd h2.symm Z z2;refine⟨Z'.map Prod.fst,?_,go Z' e' fun q hq=>p.mem_iff.mp hq⟩;rw[zb ho,<-z1];exact p.map _
  ·rw[za ho] at h2;rcases h2 with h2 | h2
   ·exact⟨Z.map Prod.fst,by rw[za ho,z1];exact Or.inl rfl,go Z (by rw[z2,h2]) fun p hp=>hp⟩
   ·exact⟨Z.reverse.map Prod.fst,by rw[za ho,zI,z1];exact Or.inr rfl,go Z.reverse (by rw[zI,z2,h2]) fun p hp=>zp.mp hp⟩
 ·rintro ⟨Kp,h1,h2⟩
  obtain⟨Z,z1,z2,z3⟩:=QdI.mp h2;unfold QY at h1;have fl:l=(Z.map Prod.snd).flatten:=by rw[z3];exact List.flatMap_def
  by_cases ho:o = .iand
  ·rw[zb ho] at h1;obtain⟨Z',p,e'⟩:=Qck Prod.fst h1 Z z1;refine⟨Z'.map Prod.snd,Z.map Prod.snd,(mf _).mpr (Qct.mpr ⟨Z',e',rfl,fun q hq=>z2 q (p.mem_iff.mp hq)⟩),by rw[zb ho];exact p.symm.map _,by rw[fl]⟩
  ·rw[za ho] at h1;rcases h1 with h1 | h1
   ·exact⟨Z.map Prod.snd,Z.map Prod.snd,(mf _).mpr (Qct.mpr ⟨Z,by rw[z1,h1],rfl,z2⟩),by rw[za ho];exact Or.inl rfl,by rw[fl]⟩
   ·exact⟨Z.reverse.map Prod.snd,Z.map Prod.snd,(mf _).mpr (Qct.mpr ⟨Z.reverse,by rw[zI,z1,h1,zG],rfl,fun q hq=>z2 q (zp.mp hq)⟩),by rw[za ho,zI,zG];exact Or.inr rfl,by rw[fl]⟩
theorem QW{P:Qd->List Nat->Prop}:∀ {A B:List Qd} {l:List Nat},Qw P (A++B) l↔∃a r,l=a++r/\Qw P A a/\Qw P B r
 |[],B,l=>⟨fun h=>⟨[],l,rfl,rfl,h⟩,fun⟨a,r,e,h1,h2⟩=>by have h1':a=[]:=h1;rw[h1',zJ] at e;rw[e];exact h2⟩
 |u::A,B,l=>by
  constructor
  ·rintro ⟨a,r,e,h1,h2⟩
   obtain⟨a',r',e',h3,h4⟩:=QW.mp h2;exact⟨a++a',r',by rw[e,e',zq],⟨a,a',rfl,h1,h3⟩,h4⟩
  ·rintro ⟨a,r,e,⟨a1,a2,e1,h1,h2⟩,h3⟩
   exact⟨a1,a2++r,by rw[e,e1,zq],h1,QW.mpr ⟨a2,r,rfl,h2,h3⟩⟩
theorem Qa1{P:Qd->List Nat->Prop}{u:Qd}{l:List Nat}:Qw P [u] l↔P u l:=⟨fun⟨a,r,e,h1,h2⟩=>by have h2':r=[]:=h2;rw[h2',zk] at e;rw[e];exact h1,fun h=>⟨l,[],by simp,h,rfl⟩⟩
theorem QbT{P Q:Qd->List Nat->Prop}(g:Qd->Qd):∀ {A:List Qd} {l:List Nat},(∀u∈A,∀a,P u a->Q (g u) a)->Qw P A l->Qw Q (A.map g) l
 |[],l,_,h=>h
 |u::A,l,hm,⟨a,r,e,h1,h2⟩=>⟨a,r,e,hm u (by simp) a h1,QbT g (fun v hv=>hm v (by simp[hv])) h2⟩
theorem Qcv{P Q:Qd->List Nat->Prop}(g:Qd->Qd):∀ {A:List Qd} {l:List Nat},(∀u∈A,∀a,Q (g u) a->P u a)->Qw Q (A.map g) l->Qw P A l
 |[],l,_,h=>h
 |u::A,l,hm,⟨a,r,e,h1,h2⟩=>⟨a,r,e,hm u (by simp) a h1,Qcv g (fun v hv=>hm v (by simp[hv])) h2⟩
theorem QbM:∀t,Qv t->(Qp t->∀l,Qo t l->l.Perm (Qf t))/\(QM t->∀u∈Qc t,∀l,Qo u l->l.Perm (Qf u)):=Qan
 (fun c _=>⟨fun _ l h=>by have e:=(List.cons.inj h).1;rw[e];exact List.Perm.refl _,fun h=>absurd h id⟩)
 (fun o x f w ih=>⟨fun _ l h=>by
  obtain⟨Kp,h1,h2⟩:=(Qat w).mp h;have pK:Kp.Perm (Qc f):=by
   unfold QY at h1
   split at h1
   ·exact h1
   ·rcases h1 with h1 | h1
    ·rw[h1]
    ·rw[h1];exact zy _
  have kf:=Qbh Qf (fun _ _=>rfl) rfl f w.2.2.2 w.2.2.1;have go:∀(A:List Qd) (l:List Nat),(∀u∈A,u∈Qc f)->Qw Qo A l->l.Perm (A.flatMap Qf):=fun A=>by
   induction A with
   |nil=>intro l _ h;have h':l=[]:=h;rw[h'];exact List.Perm.refl _
   |cons u A ihA=>
    rintro l hA ⟨a,r,e,h3,h4⟩
    rw[e,zg];exact List.Perm.append (ih.2 w.2.2.1 u (hA u (by simp)) a h3) (ihA r (fun v hv=>hA v (by simp[hv])) h4)
  have:=go Kp l (fun u hu=>pK.mem_iff.mp hu) h2;refine this.trans ?_;show List.Perm _ (Qf f);rw[<-kf];exact pK.flatMap_right Qf,fun h=>absurd h id⟩)
 (fun t f w iht ihf=>⟨fun h=>absurd h id,fun _ u hu l h=>by
  rcases zt.mp hu with e | e
  ·rw[e] at h ⊢;exact iht.1 w.1 l h
  ·exact ihf.2 w.2.1 u e l h⟩)
 ⟨fun h=>absurd h id,fun _ u hu=>absurd hu (by simp[Qc])⟩
theorem Qc8{A:List Qd}:∀ {l:List Nat},(∀u∈A,Qp u/\Qv u)->Qw Qo A l->l.Perm (A.flatMap Qf):=by
 induction A with
 |nil=>intro l _ h;have h':l=[]:=h;rw[h'];exact List.Perm.refl _
 |cons u A ihA=>
  rintro l hA ⟨a,r,e,h3,h4⟩
  rw[e,zg];exact List.Perm.append ((QbM u (hA u (by simp)).2).1 (hA u (by simp)).1 a h3) (ihA (fun v hv=>hA v (by simp[hv])) h4)
theorem Qb4{A:List Qd}:∀ {l:List Nat},(∀u∈A,∀a,Qo u a->Qo u a.reverse)->Qw Qo A l->Qw Qo A.reverse l.reverse:=by
 induction A with
 |nil=>intro l _ h;have h':l=[]:=h;rw[h'];rfl
 |cons u A ih=>
  rintro l hA ⟨a,r,e,h1,h2⟩
  rw[zaW,e,zP];exact QW.mpr ⟨r.reverse,a.reverse,rfl,ih (fun v hv=>hA v (by simp[hv])) h2,Qa1.mpr (hA u (by simp) a h1)⟩
theorem Qbr:∀t,Qv t->(Qp t->∀l,Qo t l->Qo t l.reverse)/\(QM t->∀u∈Qc t,∀l,Qo u l->Qo u l.reverse):=Qan
 (fun c _=>⟨fun _ l h=>by have e:=(List.cons.inj h).1;rw[e];rfl,fun h=>absurd h id⟩)
 (fun o x f w ih=>⟨fun _ l h=>by
  obtain⟨Kp,h1,h2⟩:=(Qat w).mp h;have mem:∀u∈Kp,u∈Qc f:=fun u hu=>by
   unfold QY at h1
   split at h1
   ·exact h1.mem_iff.mp hu
   ·rcases h1 with h1 | h1
    ·rw[h1] at hu;exact hu
    ·rw[h1] at hu;exact zp.mp hu
  refine (Qat w).mpr ⟨Kp.reverse,?_,Qb4 (fun u hu=>ih.2 w.2.2.1 u (mem u hu)) h2⟩;unfold QY at h1 ⊢
  split
  ·rename_i ho;rw[zb ho] at h1;exact (zy _).trans h1
  ·rename_i ho;rw[za ho] at h1
   rcases h1 with h1 | h1
   ·exact Or.inr (by rw[h1])
   ·exact Or.inl (by rw[h1,zG]),fun h=>absurd h id⟩)
 (fun t f w iht ihf=>⟨fun h=>absurd h id,fun _ u hu l h=>by
  rcases zt.mp hu with e | e
  ·rw[e] at h ⊢;exact iht.1 w.1 l h
  ·exact ihf.2 w.2.1 u e l h⟩)
 ⟨fun h=>absurd h id,fun _ u hu=>absurd hu (by simp[Qc])⟩
theorem Qif:∀t,Qv t->∀x,QaY (Qe t) x↔QaY t x:=Qan
 (fun c _ x=>Iff.rfl)
 (fun o y f w ih x=>by
  show (∃ls ls',QaY (Qe f) ls/\_/\_)↔∃ls ls',QaY f ls/\_/\_;exact⟨fun⟨ls,ls',h,r⟩=>⟨ls,ls',(ih ls).mp h,r⟩,fun⟨ls,ls',h,r⟩=>⟨ls,ls',(ih ls).mpr h,r⟩⟩)
 (fun t f w iht ihf x=>⟨fun⟨a,r,h1,h2,e⟩=>⟨a,r,(iht a).mp h1,(ihf r).mp h2,e⟩,fun⟨a,r,h1,h2,e⟩=>⟨a,r,(iht a).mpr h1,(ihf r).mpr h2,e⟩⟩)
 (fun x=>Iff.rfl)
theorem Qbk{t:Qd}(w:Qv t){l:List Nat}:Qo (Qe t) l↔Qo t l:=Qif t w [l]
theorem QiM:∀t,Qv t->QM t->∀ls,QaY t ls->ls.length=(Qc t).length:=fun t w h ls hm=>by
 obtain⟨Z,z1,z2,-⟩:=Qct.mp ((Qd1 w h).mp hm);rw[<-z1,<-z2,zh,zh]
theorem QfP:∀t,Qv t->∀x,QaY (QH t) x↔QaY t x:=Qan
 (fun c _ x=>Iff.rfl)
 (fun o y f w ih x=>by
  show (∃ls ls',QaY (QH f) ls/\(if (if (Qc f).length=2 then Jvm.Binary.iand else o) = .iand then ls'.Perm ls else ls'=ls\/ls'=ls.reverse)/\x=[ls'.flatten])↔∃ls ls',QaY f ls/\(if o = .iand then ls'.Perm ls else ls'=ls\/ls'=ls.reverse)/\x=[ls'.flatten];have key:∀ls ls':List (List Nat),QaY f ls->((if (if (Qc f).length=2 then Jvm.Binary.iand else o) = .iand then ls'.Perm ls else ls'=ls\/ls'=ls.reverse)↔(if o = .iand then ls'.Perm ls else ls'=ls\/ls'=ls.reverse)):=fun ls ls' h=>by
   by_cases k2:(Qc f).length=2
   ·rw[zb k2,zb rfl];by_cases ho:o = .iand
    ·rw[zb ho]
    ·rw[za ho];have l2:=QiM f w.2.2.2 w.2.2.1 ls h;rw[k2] at l2
     match ls,l2 with
     |[a,c],_=>
      refine⟨fun p=>?_,fun p=>?_⟩
      ·have pl:=p.length_eq
       match ls',pl with
       |[d,e],_=>
        have hd:d=a\/d=c:=by simpa using p.mem_iff.mp (show d∈[d,e] by simp)
        rcases hd with q | q
        ·subst q;have:=zas.mp (List.Perm.cons_inv p);exact Or.inl (by rw[this])
        ·subst q;have p2:[d,e].Perm [d,a]:=p.trans (List.Perm.swap _ _ _);have:=zas.mp (List.Perm.cons_inv p2);exact Or.inr (by rw[this];rfl)
       |[],h=>exact absurd h (by simp)
       |[_],h=>exact absurd h (by simp)
       |_::_::_::_,h=>exact absurd h (by simp)
      ·rcases p with p | p
       ·rw[p]
       ·rw[p];exact zy _
     |[],h=>exact absurd h (by simp)
     |[_],h=>exact absurd h (by simp)
     |_::_::_::_,h=>exact absurd h (by simp)
   ·rw[za k2]
  exact⟨fun⟨ls,ls',h,p,e⟩=>⟨ls,ls',(ih ls).mp h,(key ls ls' ((ih ls).mp h)).mp p,e⟩,fun⟨ls,ls',h,p,e⟩=>⟨ls,ls',(ih ls).mpr h,(key ls ls' h).mpr p,e⟩⟩)
 (fun t f w iht ihf x=>⟨fun⟨a,r,h1,h2,e⟩=>⟨a,r,(iht a).mp h1,(ihf r).mp h2,e⟩,fun⟨a,r,h1,h2,e⟩=>⟨a,r,(iht a).mpr h1,(ihf r).mpr h2,e⟩⟩)
 (fun x=>Iff.rfl)
def Qbi(b:Nat->Bool)(l:List Nat):Prop:=∃l0 l1,l=l0++l1/\(∀c∈l0,b c=false)/\∀c∈l1,b c=true
theorem Qcp{b:Nat->Bool}{a r:List Nat}(h:Qbi b (a++r)):Qbi b a/\Qbi b r/\((∃c∈a,b c=true)->∀c∈r,b c=true):=by
 obtain⟨l0,l1,e,h0,h1⟩:=h;rcases List.append_eq_append_iff.mp e with⟨x,e1,e2⟩ | ⟨x,e1,e2⟩
 ·-- l0=a++x,r=x++l1
  refine⟨⟨a,[],by simp,fun c hc=>h0 c (by rw[e1];simp[hc]),fun c hc=>absurd hc (by simp)⟩,⟨x,l1,e2,fun c hc=>h0 c (by rw[e1];simp[hc]),h1⟩,fun⟨c,hc,hb⟩=>?_⟩;have:=h0 c (by rw[e1];simp[hc]);rw[hb] at this;exact absurd this (by decide)
 ·-- a=l0++x,l1=x++r
  refine⟨⟨l0,x,e1,h0,fun c hc=>h1 c (by rw[e2];simp[hc])⟩,⟨[],r,rfl,fun c hc=>absurd hc (by simp),fun c hc=>h1 c (by rw[e2];simp[hc])⟩,fun _ c hc=>h1 c (by rw[e2];simp[hc])⟩
theorem QeW{b:Nat->Bool}{u:Qd}{a:List Nat}(hu:Qp u/\Qv u)(h:Qo u a):(Qg b u=0↔∀c∈a,b c=false)/\(Qg b u=1↔∀c∈a,b c=true)/\(Qg b u≠0->∃c∈a,b c=true):=by
 have p:=(QbM u hu.2).1 hu.1 a h;have ne:=Qbf u hu.2 hu.1;have i0:Qg b u=0↔∀c∈a,b c=false:=by
  constructor
  ·intro e c hc;have:=zw.mp (Qbj e) c (p.mem_iff.mp hc);rw[zaz] at this;exact this
  ·intro hc;have h0:(Qf u).all (fun c => !b c)=true:=zw.mpr fun c hcu=>by rw[hc c (p.mem_iff.mpr hcu)];rfl
   unfold Qg;rw[za (fun h1=>QbV ne h1 h0),zb h0]
 refine⟨i0,⟨fun e c hc=>zw.mp (Qbp e) c (p.mem_iff.mp hc),fun hc=>?_⟩,fun hn=>Classical.byContradiction fun q=>hn (i0.mpr fun c hc=>?_)⟩
 ·unfold Qg;rw[zb (zw.mpr fun c hcu=>hc c (p.mem_iff.mpr hcu))]
 ·cases e:b c
  ·rfl
  ·exact absurd ⟨c,hc,e⟩ q
theorem Qgd{b:Nat->Bool}:∀ {A:List Qd} {l:List Nat},(∀u∈A,Qp u/\Qv u)->Qw Qo A l->Qbi b l->A.Pairwise (fun u v=>QK (Qg b u)<=QK (Qg b v))/\(Qa b 2 A).length<=1/\∃le ly lf,l=le++ly++lf/\Qw Qo (Qa b 0 A) le/\Qw Qo (Qa b 2 A) ly/\Qw Qo (Qa b 1 A) lf/\Qbi b ly
 |[],l,_,h,_=>⟨List.Pairwise.nil,by simp[Qa],[],[],[],h,rfl,rfl,rfl,⟨[],[],rfl,fun c hc=>absurd hc (by simp),fun c hc=>absurd hc (by simp)⟩⟩
 |u::A,l,hA,⟨a,r,e,h1,h2⟩,sp=>by
  rw[e] at sp;obtain⟨s1,s2,s3⟩:=Qcp sp;have hA':∀v∈A,Qp v/\Qv v:=fun v hv=>hA v (by simp[hv]);obtain⟨i1,i2,le,ly,lf,i3,i4,i5,i6,i7⟩:=Qgd hA' h2 s2;have L:=QeW (b:=b) (hA u (by simp)) h1;have full:Qg b u≠0->∀v∈A,Qg b v=1:=fun hn v hv=>by
   have rb:=s3 (L.2.2 hn);have p:=Qc8 hA' h2;unfold Qg;rw[zb (zw.mpr fun c hc=>rb c (p.mem_iff.mpr (zx.mpr ⟨v,hv,hc⟩)))]
  have r0:QK 0=0:=rfl;have r2:QK 2=1:=rfl;have r1:QK 1=2:=rfl;rw[Qaz,Qaz,Qaz];rcases QaC b u with q | q | q
  ·refine⟨zay.mpr ⟨fun v _=>by rw[q,r0];exact zaA _,i1⟩,?_,a++le,ly,lf,?_,?_,?_,?_,i7⟩
   ·rw[q,za (by decide)];exact i2
   ·rw[e,i3];simp only[zq]
   ·rw[q,zb rfl];exact⟨a,le,rfl,h1,i4⟩
   ·rw[q,za (by decide)];exact i5
   ·rw[q,za (by decide)];exact i6
  ·have f:=full (by rw[q];decide);have z0:Qa b 0 A=[]:=Q7.mpr fun v hv=>by rw[f v hv];decide
   have z2:Qa b 2 A=[]:=Q7.mpr fun v hv=>by rw[f v hv];decide
   rw[z0] at i4;rw[z2] at i5;have e1:le=[]:=i4;have e2:ly=[]:=i5;refine⟨zay.mpr ⟨fun v hv=>by rw[q,f v hv];exact zo _,i1⟩,?_,[],[],a++lf,?_,?_,?_,?_,⟨[],[],rfl,fun c hc=>absurd hc (by simp),fun c hc=>absurd hc (by simp)⟩⟩
   ·rw[q,za (by decide),z2];simp
   ·rw[e,i3,e1,e2];rfl
   ·rw[q,za (by decide),z0];rfl
   ·rw[q,za (by decide),z2];rfl
   ·rw[q,zb rfl];exact⟨a,lf,rfl,h1,i6⟩
  ·have f:=full (by rw[q];decide);have z0:Qa b 0 A=[]:=Q7.mpr fun v hv=>by rw[f v hv];decide
   have z2:Qa b 2 A=[]:=Q7.mpr fun v hv=>by rw[f v hv];decide
   rw[z0] at i4;rw[z2] at i5;have e1:le=[]:=i4;have e2:ly=[]:=i5;refine⟨zay.mpr ⟨fun v hv=>by rw[q,f v hv,r2,r1];omega,i1⟩,?_,[],a,lf,?_,?_,?_,?_,s1⟩
   ·rw[q,zb rfl,z2];simp
   ·rw[e,i3,e1,e2];rfl
   ·rw[q,za (by decide),z0];rfl
   ·rw[q,zb rfl,z2];exact Qa1.mpr h1
   ·rw[q,za (by decide)];exact i6
def Ql(b:Nat->Bool)(u:Qd):Qd:=(QJ b u).getD u
theorem Qej(b:Nat->Bool):∀f,Qv f->QM f->(∀f',QJ b f=some f'->Qc f'=(Qc f).map (Ql b)/\∀u∈Qc f,QJ b u=some (Ql b u))/\((∀u∈Qc f,QJ b u=some (Ql b u))->∃f',QJ b f=some f')
 | .add t f,w,_=>by
  obtain⟨i1,i2⟩:=Qej b f w.2.2.2 w.2.1;have eI:QJ b (.add t f)=(QJ b t).bind fun t'=>(QJ b f).bind fun f'=>some (.add t' f'):=rfl;constructor
  ·intro f' h;rw[eI] at h;cases ht:QJ b t with
   |none=>rw[ht] at h;exact absurd h (by simp)
   |some t1=>
    cases hf:QJ b f with
    |none=>rw[ht,hf] at h;exact absurd h (by simp)
    |some f1=>
     rw[ht,hf] at h;have e:f' = .add t1 f1:=(Option.some.inj h).symm;obtain⟨j1,j2⟩:=i1 f1 hf;have et:Ql b t=t1:=by unfold Ql;rw[ht];rfl
     subst e;refine⟨by show t1::Qc f1=Ql b t::(Qc f).map (Ql b);rw[j1,et],fun u hu=>?_⟩;rcases zt.mp hu with e | e
     ·rw[e,et];exact ht
     ·exact j2 u e
  ·intro h;obtain⟨f1,hf⟩:=i2 fun u hu=>h u (by simp[Qc,hu]);rw[eI,h t (by simp[Qc]),hf];exact⟨_,rfl⟩
 | .null,_,_=>⟨fun f' h=>by
   have e:f' = .null:=(Option.some.inj h).symm;subst e;exact⟨rfl,fun u hu=>absurd hu (by simp[Qc])⟩,fun _=>⟨_,rfl⟩⟩
theorem Qe7{b:Nat->Bool}{v:Int32}{E:List Qd}(hE:∀u∈E,Qp u/\Qv u/\Qg b u=v)(hv:v≠2){l:List Nat}:Qw Qo (QB E) l↔∃Ep,Ep.Perm E/\Qw Qo Ep l:=by
 match E,hE with
 |[],_=>exact⟨fun h=>⟨[],List.Perm.refl _,h⟩,fun⟨Ep,p,h⟩=>by rw[p.eq_nil] at h;exact h⟩
 |[u],_=>exact⟨fun h=>⟨[u],List.Perm.refl _,h⟩,fun⟨Ep,p,h⟩=>by rw[zas.mp p] at h;exact h⟩
 |u::w::E,hE=>
  have gz:=((QdZ hE hv).2.2.1 (.op2 .iand (.arg 0) (Qk (u::w::E))) (by simp[QB])).2.1;show Qw Qo [.op2 .iand (.arg 0) (Qk (u::w::E))] l↔_;rw[Qa1,Qat gz,QT];exact⟨fun⟨Kp,h1,h2⟩=>⟨Kp,h1,h2⟩,fun⟨Kp,h1,h2⟩=>⟨Kp,h1,h2⟩⟩
theorem QcO{b:Nat->Bool}(v:Int32){K Kp:List Qd}(h:Kp.Perm K):(Qa b v Kp).Perm (Qa b v K):=h.filter _
theorem Qdx{l l':List Qd}(p:l.Perm l')(h:l.length<=1):l=l':=by
 match l,h with
 |[],_=>exact (p.symm.eq_nil).symm
 |[u],_=>exact (zas.mp p.symm).symm
 |_::_::_,h=>exact absurd h (by simp)
theorem QdO{b:Nat->Bool}(v:Int32){K:List Qd}{g:Qd->Qd}(h:∀u∈K,Qg b (g u)=Qg b u):Qa b v (K.map g)=(Qa b v K).map g:=by
 unfold Qa;rw[List.filter_map]
 congr 1
 refine List.filter_congr fun u hu=>?_;show decide (Qg b (g u)=v)=_;rw[h u hu]
theorem Qjf{b:Nat->Bool}{l:List Qd}(h:l.Pairwise (fun u v=>QK (Qg b u)<=QK (Qg b v))):Qaa (fun i=>QK (Qg b (l.getD i .null))) l.length=true:=by
 have h':=zaD.mp h;have go:∀n,n<=l.length->Qaa (fun i=>QK (Qg b (l.getD i .null))) n=true:=fun n=>by
  induction n with
  |zero=>intro _;rfl
  |succ n ih=>
   intro hn;show (Qaa _ n&&(n==0||decide (QK (Qg b (l.getD (n-1) .null))<=QK (Qg b (l.getD n .null)))))=true;rw[ih (by omega),zaP];by_cases q:n=0
   ·rw[q];rfl
   ·rw[zab];refine Or.inr (zB ?_);have:=h' (n-1) n (by omega) (by omega) (by omega);simp only[zf,List.getElem?_eq_getElem (show n-1<l.length by omega),List.getElem?_eq_getElem (show n<l.length by omega)];exact this
 exact go _ (zo _)
theorem QiC{b:Nat->Bool}{l:List Qd}(h:l.reverse.Pairwise (fun u v=>QK (Qg b u)<=QK (Qg b v))):Qad (fun i=>QK (Qg b (l.getD i .null))) l.length=true:=by
 rw[List.pairwise_reverse] at h;have h':=zaD.mp h;have go:∀n,n<=l.length->Qad (fun i=>QK (Qg b (l.getD i .null))) n=true:=fun n=>by
  induction n with
  |zero=>intro _;rfl
  |succ n ih=>
   intro hn;show (Qad _ n&&(n==0||decide (QK (Qg b (l.getD n .null))<=QK (Qg b (l.getD (n-1) .null)))))=true;rw[ih (by omega),zaP];by_cases q:n=0
   ·rw[q];rfl
   ·rw[zab];refine Or.inr (zB ?_);have:=h' (n-1) n (by omega) (by omega) (by omega);simp only[zf,List.getElem?_eq_getElem (show n-1<l.length by omega),List.getElem?_eq_getElem (show n<l.length by omega)];exact this
 exact go _ (zo _)
def Qdr(b:Nat->Bool)(t:Qd):Prop:=(∀T l,QJ b t=some T->Qg b t=2->Qw Qo (Qn T) l->Qo t l)/\∀l,Qo t l->Qbi b l->∃T,QJ b t=some T/\(Qg b t=2->Qw Qo (Qn T) l)
theorem QdQ{b:Nat->Bool}{u:Qd}(hu:Qp u/\Qv u)(h:QJ b u=some (Ql b u)):QbO b u (Ql b u):=(Qfu b u hu.2).1 hu.1 _ h
def QbJ(b:Nat->Bool)(u:Qd)(a:List Nat):Prop:=if Qg b u=2 then Qw Qo (Qn (Ql b u)) a else Qo u a
theorem Qgg{b:Nat->Bool}{Y:List Qd}{l:List Nat}:(∀y∈Y,Qg b y=2)->(Qw Qo ((Y.map (Ql b)).flatMap Qn) l↔Qw (QbJ b) Y l):=by
 induction Y generalizing l with
 |nil=>intro _;exact Iff.rfl
 |cons y Y ih=>
  intro h;have hy:∀a,QbJ b y a↔Qw Qo (Qn (Ql b y)) a:=fun a=>by unfold QbJ;rw[zb (h y (by simp))]
  rw[zE,zg,QW];constructor
  ·rintro ⟨a,r,e,h1,h2⟩
   exact⟨a,r,e,(hy a).mpr h1,(ih fun z hz=>h z (by simp[hz])).mp h2⟩
  ·rintro ⟨a,r,e,h1,h2⟩
   exact⟨a,r,e,(hy a).mp h1,(ih fun z hz=>h z (by simp[hz])).mpr h2⟩
theorem Qhm{P Q:Qd->List Nat->Prop}{A:List Qd}{l:List Nat}(h:∀u∈A,∀a,P u a->Q u a)(c:Qw P A l):Qw Q A l:=by
 have:=QbT (Q:=Q) id (fun u hu a ha=>h u hu a ha) c;rw[List.map_id] at this;exact this
theorem QeS(b:Nat->Bool):∀K:List Qd,(Qa b 0 K++Qa b 2 K++Qa b 1 K).Perm K
 |[]=>List.Perm.refl _
 |u::K=>by
  have ih:=QeS b K;rw[Qaz,Qaz,Qaz];rcases QaC b u with e | e | e
  ·rw[e,zb rfl,za (by decide),za (by decide)];exact List.Perm.cons u ih
  ·rw[e,za (by decide),za (by decide),zb rfl];exact zaJ.trans (List.Perm.cons u ih)
  ·rw[e,za (by decide),zb rfl,za (by decide),zq,zak];refine zaJ.trans (List.Perm.cons u ?_);rw[<-zq];exact ih
theorem Qd8{b:Nat->Bool}:∀ {K:List Qd} {l:List Nat},(∀u∈K,Qg b (Ql b u)=Qg b u/\(Qg b u≠2->∀a,Qo (Ql b u) a↔Qo u a))->(Qw Qo (QQ b (K.map (Ql b))) l↔Qw (QbJ b) K l)
 |[],l,_=>Iff.rfl
 |u::K,l,h=>by
  have ih:=fun r=>Qd8 (K:=K) (l:=r) fun v hv=>h v (by simp[hv]);have hu:=h u (by simp);have key:∀a,Qw Qo (if Qg b (Ql b u)=2 then Qn (Ql b u) else [Ql b u]) a↔QbJ b u a:=fun a=>by
   unfold QbJ;rw[hu.1];by_cases q:Qg b u=2
   ·rw[zb q,zb q]
   ·rw[za q,za q,Qa1];exact hu.2 q a
  rw[zE,QcE,QW];exact⟨fun⟨a,r,e,h1,h2⟩=>⟨a,r,e,(key a).mp h1,(ih r).mp h2⟩,fun⟨a,r,e,h1,h2⟩=>⟨a,r,e,(key a).mpr h1,(ih r).mpr h2⟩⟩
theorem Qe2{b:Nat->Bool}:∀ {A:List Qd} {l:List Nat},(∀u∈A,Qdr b u)->Qw Qo A l->Qbi b l->Qw (QbJ b) A l/\∀u∈A,QJ b u=some (Ql b u)
 |[],l,_,h,_=>⟨h,fun u hu=>absurd hu (by simp)⟩
 |u::A,l,hD,⟨a,r,e,h1,h2⟩,sp=>by
  rw[e] at sp;obtain⟨s1,s2,-⟩:=Qcp sp;obtain⟨i1,i2⟩:=Qe2 (fun v hv=>hD v (by simp[hv])) h2 s2;obtain⟨T,hT,hc⟩:=(hD u (by simp)).2 a h1 s1;have et:Ql b u=T:=by unfold Ql;rw[hT];rfl
  refine⟨⟨a,r,e,?_,i1⟩,fun v hv=>?_⟩
  ·unfold QbJ;by_cases q:Qg b u=2
   ·rw[zb q,et];exact hc q
   ·rw[za q];exact h1
  ·rcases zt.mp hv with e | e
   ·rw[e,et];exact hT
   ·exact i2 v e
theorem QfD{b:Nat->Bool}{A:List Qd}{l:List Nat}(hD:∀u∈A,Qdr b u)(hr:∀u∈A,QJ b u=some (Ql b u))(h:Qw (QbJ b) A l):Qw Qo A l:=Qhm (fun u hu a ha=>by
 unfold QbJ at ha;by_cases q:Qg b u=2
 ·rw[zb q] at ha;exact (hD u hu).1 _ a (hr u hu) q ha
 ·rw[za q] at ha;exact ha) h
theorem QhT{b:Nat->Bool}{u v:Qd}(h:QK (Qg b u)=QK (Qg b v)):Qg b u=Qg b v:=by
 have r0:QK 0=0:=rfl;have r2:QK 2=1:=rfl;have r1:QK 1=2:=rfl;rcases QaC b u with e | e | e<;>rcases QaC b v with e' | e' | e'<;>rw[e,e'] at h ⊢ <;> simp only[r0,r1,r2] at h<;>omega
theorem Qi5(b:Nat->Bool):∀t,Qv t->(Qp t->Qdr b t)/\(QM t->∀u∈Qc t,Qdr b u):=Qan
 (fun c hc=>⟨fun _=>⟨fun T l _ h _=>by
  exfalso;have h2:=Qb9 h;simp only[Qf,zaO,zaX,zae] at h2;cases e:b c
  ·exact h2.2 (by rw[e];rfl)
  ·exact h2.1 e,fun l h sp=>⟨_,rfl,fun h=>by
  exfalso;have h2:=Qb9 h;simp only[Qf,zaO,zaX,zae] at h2;cases e:b c
  ·exact h2.2 (by rw[e];rfl)
  ·exact h2.1 e⟩⟩,fun h=>absurd h id⟩)
 (fun o x f w ih=>⟨fun _=>by
  have w':=w;obtain⟨wo,w2,wF,wf⟩:=w;have hD:=ih.2 wF;have kz:=Qbe wf;have kf:=Qbh Qf (fun _ _=>rfl) rfl f wf wF;obtain⟨rl1,rl2⟩:=Qej b f wf wF;have eI:QJ b (.op2 o (.arg x) f)=if Qg b (.op2 o (.arg x) f)=0 then some (.op2 o (.arg 0) (Qe f)) else (QJ b f).bind fun f'=>if o = .iand then QaE b (Qc f') else QaG b (Qc f'):=rfl;have lbt:Qg b (.op2 o (.arg x) f)=Qau b ((Qc f).flatMap Qf):=by rw[kf];rfl
  have ftN:=fun l=>Qat w' (l:=l);have tauF:(∀u∈Qc f,QJ b u=some (Ql b u))->∀u∈Qc f,Qg b (Ql b u)=Qg b u/\(Qg b u≠2->∀a,Qo (Ql b u) a↔Qo u a):=fun hr u hu=>by
   have g:=QdQ (kz u hu) (hr u hu);refine⟨Qb3 g,fun q a=>?_⟩;rw[g.2.2.2.1 q];exact Qbk (kz u hu).2
  have nontriv:Qg b (.op2 o (.arg x) f)=2->¬(Qa b 2 (Qc f)=[]/\(Qa b 0 (Qc f)=[]\/Qa b 1 (Qc f)=[])):=fun h2 z=>by
   rw[lbt] at h2;rcases z.2 with q | q
   ·rw[QdX q z.1] at h2;exact absurd h2 (by decide)
   ·rw[Qgq kz (fun e=>by rw[e] at w2;exact absurd w2 (by simp)) q z.1] at h2;exact absurd h2 (by decide)
  generalize Qc f=K at *;have fbK:∀v,∀u∈Qa b v K,Qp u/\Qv u/\Qg b u=v:=fun v u hu=>⟨(kz u (Qy.mp hu).1).1,(kz u (Qy.mp hu).1).2,(Qy.mp hu).2⟩;constructor
  ·intro T l h h2 hc;rw[eI,za (by rw[h2];decide)] at h;cases hf:QJ b f with
   |none=>rw[hf] at h;exact absurd h (by simp)
   |some f'=>
    rw[hf] at h;have h':(if o = .iand then QaE b (Qc f') else QaG b (Qc f'))=some T:=h;obtain⟨ek,hr⟩:=rl1 f' hf;have tf:=tauF hr;rw[ek] at h';have fb':∀v,Qa b v (K.map (Ql b))=(Qa b v K).map (Ql b):=fun v=>QdO v fun u hu=>(tf u hu).1;rw[ftN];by_cases ho:o = .iand
    ·rw[zb ho] at h';unfold QaE at h';rw[fb',fb',fb',zh,zh,zh] at h';by_cases y2:2<=(Qa b 2 K).length
     ·rw[zb y2] at h';exact absurd h' (by simp)
     rw[za y2] at h';by_cases z:(Qa b 2 K).length=0/\((Qa b 0 K).length=0\/(Qa b 1 K).length=0)
     ·exact absurd ⟨QX.mp z.1,by rcases z.2 with q | q;exact Or.inl (QX.mp q);exact Or.inr (QX.mp q)⟩ (nontriv h2)
     rw[za z] at h';have e:=(Option.some.inj h').symm;have ekk:Qn T=QB ((Qa b 0 K).map (Ql b))++((Qa b 2 K).map (Ql b)).flatMap Qn++QB ((Qa b 1 K).map (Ql b)):=by rw[e];exact QT _
     rw[ekk] at hc;obtain⟨ab,lf,e1,hab,hf'⟩:=QW.mp hc;obtain⟨le,ly,e2,he',hy'⟩:=QW.mp hab;have grp:∀v,v≠2->∀l,Qw Qo (QB ((Qa b v K).map (Ql b))) l->∃Ep,Ep.Perm (Qa b v K)/\Qw Qo Ep l:=fun v hv l hl=>by
      have hE:∀u∈(Qa b v K).map (Ql b),Qp u/\Qv u/\Qg b u=v:=fun u hu=>by
       obtain⟨w,hw,ew⟩:=zD.mp hu;have g:=QdQ (kz w (Qy.mp hw).1) (hr w (Qy.mp hw).1);rw[<-ew];exact⟨g.1,g.2.1,(Qb3 g).trans (Qy.mp hw).2⟩
      obtain⟨Ep',p,hp⟩:=(Qe7 hE hv).mp hl;obtain⟨Ep,p2,e3⟩:=Qck (Ql b) p.symm _ rfl;refine⟨Ep,p2,Qcv (Ql b) (fun u hu a ha=>?_) (by rw[e3];exact hp)⟩;have hu':=Qy.mp (p2.mem_iff.mp hu);exact ((tf u hu'.1).2 (by rw[hu'.2];exact hv) a).mp ha
     obtain⟨Ep,pE,cE⟩:=grp 0 (by decide) le he';obtain⟨Fp,pF,cF⟩:=grp 1 (by decide) lf hf';have cY:=QfD (fun u hu=>hD u (Qy.mp hu).1) (fun u hu=>hr u (Qy.mp hu).1) ((Qgg fun y hy=>(Qy.mp hy).2).mp hy');refine⟨Ep++Qa b 2 K++Fp,?_,QW.mpr ⟨le++ly,lf,by rw[e1,e2],QW.mpr ⟨le,ly,rfl,cE,cY⟩,cF⟩⟩;unfold QY;rw[zb ho];exact ((pE.append (List.Perm.refl _)).append pF).trans (QeS b K)
    ·rw[za ho] at h';unfold QaG at h';have fin:∀Kd,(Kd=K\/Kd=K.reverse)->T = .op2 .ior (.arg 0) (Qk (QQ b (Kd.map (Ql b))))->∃Kp,QY o Kp K/\Qw Qo Kp l:=fun Kd hKd e=>by
      have mem:∀u∈Kd,u∈K:=fun u hu=>by
       rcases hKd with q | q
       ·rw[q] at hu;exact hu
       ·rw[q] at hu;exact zp.mp hu
      have ekk:Qn T=QQ b (Kd.map (Ql b)):=by rw[e];exact QT _
      rw[ekk] at hc;refine⟨Kd,by unfold QY;rw[za ho];exact hKd,QfD (fun u hu=>hD u (mem u hu)) (fun u hu=>hr u (mem u hu)) ((Qd8 fun u hu=>tf u (mem u hu)).mp hc)⟩
     split at h'
     ·exact absurd h' (by simp)
     split at h'
     ·rename_i z
      rw[fb',fb',fb',zh,zh,zh] at z;exact absurd ⟨QX.mp z.1,by rcases z.2 with q | q;exact Or.inl (QX.mp q);exact Or.inr (QX.mp q)⟩ (nontriv h2)
     split at h'
     ·exact fin K (Or.inl rfl) (Option.some.inj h').symm
     split at h'
     ·exact fin K.reverse (Or.inr rfl) (by rw[zI];exact (Option.some.inj h').symm)
     ·exact absurd h' (by simp)
  ·intro l h sp;by_cases l2:Qg b (.op2 o (.arg x) f)=2
   ·obtain⟨Kp,od,cK⟩:=(ftN l).mp h;have pK:Kp.Perm K:=by
     unfold QY at od
     split at od
     ·exact od
     ·rcases od with q | q
      ·rw[q]
      ·rw[q];exact zy _
    have hKp:∀u∈Kp,Qp u/\Qv u:=fun u hu=>kz u (pK.mem_iff.mp hu);obtain⟨cB,hr0⟩:=Qe2 (fun u hu=>hD u (pK.mem_iff.mp hu)) cK sp;have hr:∀u∈K,QJ b u=some (Ql b u):=fun u hu=>hr0 u (pK.mem_iff.mpr hu);have tf:=tauF hr;obtain⟨f',hf⟩:=rl2 hr;obtain⟨ek,-⟩:=rl1 f' hf;obtain⟨pw,y1,le,ly,lf,e1,cE,cY,cF,spy⟩:=Qgd hKp cK sp;have fb':∀v,Qa b v (K.map (Ql b))=(Qa b v K).map (Ql b):=fun v=>QdO v fun u hu=>(tf u hu).1;have y1K:(Qa b 2 K).length<=1:=by rw[<-(QcO 2 pK).length_eq];exact y1
    have nt:¬((Qa b 2 K).length=0/\((Qa b 0 K).length=0\/(Qa b 1 K).length=0)):=fun z=>nontriv l2 ⟨QX.mp z.1,by rcases z.2 with q | q;exact Or.inl (QX.mp q);exact Or.inr (QX.mp q)⟩;rw[eI,za (by rw[l2];decide),hf];show ∃T,(if o = .iand then QaE b (Qc f') else QaG b (Qc f'))=some T/\_;rw[ek];by_cases ho:o = .iand
    ·rw[zb ho];unfold QaE;rw[fb',fb',fb',zh,zh,zh,za (by omega),za nt];refine⟨_,rfl,fun _=>?_⟩;show Qw Qo (Qc (Qk _)) l;rw[QT];have grp:∀v,v≠2->∀l,Qw Qo (Qa b v Kp) l->Qw Qo (QB ((Qa b v K).map (Ql b))) l:=fun v hv l hl=>by
      have hE:∀u∈(Qa b v K).map (Ql b),Qp u/\Qv u/\Qg b u=v:=fun u hu=>by
       obtain⟨w,hw,ew⟩:=zD.mp hu;have g:=QdQ (kz w (Qy.mp hw).1) (hr w (Qy.mp hw).1);rw[<-ew];exact⟨g.1,g.2.1,(Qb3 g).trans (Qy.mp hw).2⟩
      refine (Qe7 hE hv).mpr ⟨(Qa b v Kp).map (Ql b),(QcO v pK).map _,QbT (Ql b) (fun u hu a ha=>?_) hl⟩;have hu':=Qy.mp hu;exact ((tf u (pK.mem_iff.mp hu'.1)).2 (by rw[hu'.2];exact hv) a).mpr ha
     have eY:Qa b 2 Kp=Qa b 2 K:=Qdx (QcO 2 pK) y1;rw[eY] at cY;have cYB:=(Qe2 (fun u hu=>hD u (Qy.mp hu).1) cY spy).1;rw[e1];exact QW.mpr ⟨le++ly,lf,rfl,QW.mpr ⟨le,ly,rfl,grp 0 (by decide) le cE,(Qgg fun y hy=>(Qy.mp hy).2).mpr cYB⟩,grp 1 (by decide) lf cF⟩
    ·rw[za ho];unfold QaG;rw[fb',fb',fb',zh,zh,zh,za (by omega),za nt];have pw':(Kp.map (Ql b)).Pairwise (fun u v=>QK (Qg b u)<=QK (Qg b v)):=by
      rw[List.pairwise_map];refine zaK (fun {u v} hu hv q=>?_) pw;rw[(tf u (pK.mem_iff.mp hu)).1,(tf v (pK.mem_iff.mp hv)).1];exact q
     unfold QY at od;rw[za ho] at od;rcases od with q | q
     ·rw[q] at pw' cB;rw[zb (Qjf pw')];refine⟨_,rfl,fun _=>?_⟩;show Qw Qo (Qc (Qk _)) l;rw[QT];exact (Qd8 tf).mpr cB
     ·have ub:¬Qaa (fun i=>QK (Qg b ((K.map (Ql b)).getD i .null))) (K.map (Ql b)).length=true:=fun ub=>by
       have p1:=Qgj ub;rw[List.pairwise_map] at p1;rw[q] at pw;rw[List.pairwise_reverse] at pw;obtain⟨u,A,eA⟩:∃u A,K=u::A:=by
        cases K with
        |nil=>exact absurd w2 (by simp)
        |cons u A=>exact⟨u,A,rfl⟩
       rw[eA] at p1 pw;have h1:=(zay.mp p1).1;have h2:=(zay.mp pw).1;have all:∀v∈K,Qg b v=Qg b u:=fun v hv=>by
        have hv0:=hv;rw[eA] at hv;rcases zt.mp hv with e | e
        ·rw[e]
        ·have a1:=h1 v e;rw[(tf v hv0).1,(tf u (by rw[eA];simp)).1] at a1;exact QhT (Nat.le_antisymm (h2 v e) a1)
       rcases QaC b u with e | e | e
       ·exact nontriv l2 ⟨Q7.mpr fun v hv=>by rw[all v hv,e];decide,Or.inr (Q7.mpr fun v hv=>by rw[all v hv,e];decide)⟩
       ·exact nontriv l2 ⟨Q7.mpr fun v hv=>by rw[all v hv,e];decide,Or.inl (Q7.mpr fun v hv=>by rw[all v hv,e];decide)⟩
       ·have:Qa b 2 K=K:=List.filter_eq_self.mpr fun v hv=>zB (by rw[all v hv,e]);rw[this] at y1K;omega
      have cB':=cB;rw[q] at pw' cB';rw[za ub,zb (QiC (by rw[<-zI];exact pw')),<-zI];refine⟨_,rfl,fun _=>?_⟩;show Qw Qo (Qc (Qk _)) l;rw[QT];exact (Qd8 fun u hu=>tf u (zp.mp hu)).mpr cB'
   ·exact⟨_,(Qfc b _ w').1 trivial l2,fun h=>absurd h l2⟩,fun h=>absurd h id⟩)
 (fun t f w iht ihf=>⟨fun h=>absurd h id,fun _ u hu=>by
  rcases zt.mp hu with e | e
  ·rw[e];exact iht.1 w.1
  ·exact ihf.2 w.2.1 u e⟩)
 ⟨fun h=>absurd h id,fun _ u hu=>absurd hu (by simp[Qc])⟩
theorem QeF{b:Nat->Bool}{l:List Nat}(h:QV b l):QV b l.reverse:=by
 obtain⟨l1,l2,l3,e,h1,h2,h3⟩:=h;exact⟨l3.reverse,l2.reverse,l1.reverse,by rw[e,zP,zP,zq],fun c hc=>h3 c (zp.mp hc),fun c hc=>h2 c (zp.mp hc),fun c hc=>h1 c (zp.mp hc)⟩
theorem Qhy{b:Nat->Bool}{l:List Nat}(h:Qbi b l):QV b l:=by
 obtain⟨l0,l1,e,h0,h1⟩:=h;exact⟨l0,l1,[],by rw[e,zk],h0,h1,fun c hc=>absurd hc (by simp)⟩
theorem Qga{b:Nat->Bool}{p r:List Nat}(h:QV b (p++r))(hr:∃c∈r,b c=true):Qbi b p:=by
 obtain⟨l1,l2,l3,e,h1,h2,h3⟩:=h;rcases List.append_eq_append_iff.mp e with⟨x,e1,e2⟩ | ⟨x,e1,e2⟩
 ·exact (Qcp (b:=b) (a:=p) (r:=x) ⟨l1,l2,e1.symm,h1,h2⟩).1
 ·obtain⟨c,hc,hb⟩:=hr;have:=h3 c (by rw[e2];simp[hc]);rw[hb] at this;exact absurd this (by decide)
theorem Qew{b:Nat->Bool}{p r:List Nat}(h:QV b (p++r)):QV b p:=by
 obtain⟨l1,l2,l3,e,h1,h2,h3⟩:=h;rcases List.append_eq_append_iff.mp e with⟨x,e1,e2⟩ | ⟨x,e1,e2⟩
 ·exact Qhy (Qcp (b:=b) (a:=p) (r:=x) ⟨l1,l2,e1.symm,h1,h2⟩).1
 ·exact⟨l1,l2,x,e1,h1,h2,fun c hc=>h3 c (by rw[e2];simp[hc])⟩
theorem Qgx{b:Nat->Bool}{p r:List Nat}(h:QV b (p++r)):QV b r:=by
 have h':=QeF h;rw[zP] at h';have:=QeF (Qew h');rw[zG] at this;exact this
theorem QgP{b:Nat->Bool}{P Q:Qd->List Nat->Prop}(g:Qd->Qd):∀ {A:List Qd} {l:List Nat},(∀u∈A,∀a,QV b a->P u a->Q (g u) a)->Qw P A l->QV b l->Qw Q (A.map g) l
 |[],l,_,h,_=>h
 |u::A,l,hm,⟨a,r,e,h1,h2⟩,cs=>by
  rw[e] at cs;exact⟨a,r,e,hm u (by simp) a (Qew cs) h1,QgP g (fun v hv=>hm v (by simp[hv])) h2 (Qgx cs)⟩
theorem QgI{b:Nat->Bool}{P:Qd->List Nat->Prop}:∀ {A:List Qd} {l:List Nat},Qw P A l->QV b l->∀u∈A,∃a,P u a/\QV b a
 |[],_,_,_,u,hu=>absurd hu (by simp)
 |v::A,l,⟨a,r,e,h1,h2⟩,cs,u,hu=>by
  rw[e] at cs;rcases zt.mp hu with q | q
  ·rw[q];exact⟨a,h1,Qew cs⟩
  ·exact QgI h2 (Qgx cs) u q
def QaW(b:Nat->Bool)(u:Qd):Qd:=if Qs b u=true then (QL b u).getD u else Qe u
theorem Qhg{b:Nat->Bool}(h32:∀c,b c=true->c<32)(hc:∃c,b c=true){t f:Qd}(w:Qv f)(hF:QM f)(nd:(Qf t++Qf f).Nodup)(at':Qs b t=true):∀u∈Qc f,Qs b u=false:=fun u hu=>by
 rw[Bool.eq_false_iff];intro au;obtain⟨c,hb⟩:=hc;have h1:=Qab.mp at' c (h32 c hb) hb;have h2:=Qab.mp au c (h32 c hb) hb;have h3:c∈Qf f:=by
  rw[<-Qbh Qf (fun _ _=>rfl) rfl f w hF];exact zx.mpr ⟨u,hu,h2⟩
 exact (zl.mp nd).2.2 c h1 c h3 rfl
theorem Qgv{b:Nat->Bool}(h32:∀c,b c=true->c<32)(hc:∃c,b c=true):∀f,Qv f->QM f->(Qf f).Nodup->(Qc f).any (Qs b)=true->(∀f',QL b f=some f'->QM f'/\Qc f'=(Qc f).map (QaW b)/\∀u∈Qc f,Qs b u=true->QL b u=some (QaW b u))/\((∀u∈Qc f,Qs b u=true->∃T,QL b u=some T)->∃f',QL b f=some f')
 | .add t f,w,_,nd,an=>by
  have nd0:(Qf t++Qf f).Nodup:=nd;have eR:QL b (.add t f)=if Qs b t=true then (QL b t).bind fun t'=>some (.add t' (Qe f)) else (QL b f).bind fun f'=>some (.add (Qe t) f'):=rfl;obtain⟨-,sz,-,s4,-⟩:=Qbc f w.2.2.2;obtain⟨s5,s6⟩:=s4 w.2.1;by_cases q:Qs b t=true
  ·have un:=Qhg h32 hc w.2.2.2 w.2.1 nd0 q;have em:Qc (Qe f)=(Qc f).map (QaW b):=by
    rw[s6];exact List.map_congr_left fun u hu=>by unfold QaW;rw[za (by rw[un u hu];decide)]
   constructor
   ·intro f' h;rw[eR,zb q] at h;cases ht:QL b t with
    |none=>rw[ht] at h;exact absurd h (by simp)
    |some t1=>
     rw[ht] at h;have e:f' = .add t1 (Qe f):=(Option.some.inj h).symm;have et:QaW b t=t1:=by unfold QaW;rw[zb q,ht];rfl
     subst e;refine⟨trivial,by show t1::Qc (Qe f)=QaW b t::_;rw[em,et],fun u hu au=>?_⟩;rcases zt.mp hu with e | e
     ·rw[e,et];exact ht
     ·rw[un u e] at au;exact absurd au (by decide)
   ·intro h;obtain⟨T,hT⟩:=h t (by simp[Qc]) q;rw[eR,zb q,hT];exact⟨_,rfl⟩
  ·have an':(Qc f).any (Qs b)=true:=by
    have:(Qs b t||(Qc f).any (Qs b))=true:=an;rw[zV] at q;rw[q,zaa] at this;exact this
   obtain⟨i1,i2⟩:=Qgv h32 hc f w.2.2.2 w.2.1 (zl.mp nd0).2.1 an';have et:QaW b t=Qe t:=by unfold QaW;rw[za q]
   constructor
   ·intro f' h;rw[eR,za q] at h;cases hf:QL b f with
    |none=>rw[hf] at h;exact absurd h (by simp)
    |some f1=>
     rw[hf] at h;have e:f' = .add (Qe t) f1:=(Option.some.inj h).symm;obtain⟨j1,j2,j3⟩:=i1 f1 hf;subst e;refine⟨trivial,by show Qe t::Qc f1=QaW b t::_;rw[j2,et],fun u hu au=>?_⟩;rcases zt.mp hu with e | e
     ·rw[e] at au;exact absurd au q
     ·exact j3 u e au
   ·intro h;obtain⟨f1,hf⟩:=i2 fun u hu=>h u (by simp[Qc,hu]);rw[eR,za q,hf];exact⟨_,rfl⟩
 | .null,_,_,_,an=>absurd an (by simp[Qc])
theorem Qg7{o:Jvm.Binary}(g:Qd->Qd){Kp K:List Qd}(h:QY o Kp (K.map g)):∃Kq,QY o Kq K/\Kq.map g=Kp:=by
 unfold QY at h ⊢
 split at h
 ·rename_i ho
  obtain⟨Z,p,e⟩:=Qck g h.symm K rfl;exact⟨Z,by rw[zb ho];exact p,e⟩
 ·rename_i ho
  rcases h with h | h
  ·exact⟨K,by rw[za ho];exact Or.inl rfl,h.symm⟩
  ·exact⟨K.reverse,by rw[za ho];exact Or.inr rfl,by rw[zI,h]⟩
theorem Qje{o:Jvm.Binary}(g:Qd->Qd){Kp K:List Qd}(h:QY o Kp K):QY o (Kp.map g) (K.map g):=by
 unfold QY at h ⊢
 split
 ·rename_i ho;rw[zb ho] at h;exact h.map _
 ·rename_i ho;rw[za ho] at h
  rcases h with h | h
  ·exact Or.inl (by rw[h])
  ·exact Or.inr (by rw[h,zI])
theorem Qc5{o:Jvm.Binary}{Kp K:List Qd}(h:QY o Kp K):Kp.Perm K:=by
 unfold QY at h
 split at h
 ·exact h
 ·rcases h with h | h
  ·rw[h]
  ·rw[h];exact zy _
theorem Qdz{L Xa:List Qd}(w:Qv (.op2 .ior (.arg 0) (Qk L)))(hX:∀u∈Xa,Qp u/\Qv u)(h:∀a,Qw Qo L a->∃Xp,Xp.Perm Xa/\Qw Qo Xp a){a:List Nat}(ha:Qo (.op2 .ior (.arg 0) (Qk L)) a):∃Xp,Xp.Perm Xa/\Qw Qo Xp a:=by
 obtain⟨Kp,od,c⟩:=(Qat w).mp ha;rw[QT] at od;have hL:∀u∈L,Qp u/\Qv u:=fun u hu=>by
  have:=Qbe w.2.2.2;rw[QT] at this;exact this u hu
 unfold QY at od;rw[za (by decide)] at od;rcases od with q | q
 ·rw[q] at c;exact h a c
 ·rw[q] at c;have c':=Qb4 (fun u hu l hl=>(Qbr u (hL u (zp.mp hu)).2).1 (hL u (zp.mp hu)).1 l hl) c;rw[zG] at c';obtain⟨Xp,p,c2⟩:=h _ c';have c3:=Qb4 (fun u hu l hl=>(Qbr u (hX u (p.mem_iff.mp hu)).2).1 (hX u (p.mem_iff.mp hu)).1 l hl) c2;rw[zG] at c3;exact⟨Xp.reverse,(zy _).trans p,c3⟩
theorem Qc3{L:List Qd}(w:Qv (.op2 .ior (.arg 0) (Qk L))){a:List Nat}(h:Qw Qo L a):Qo (.op2 .ior (.arg 0) (Qk L)) a:=
 (Qat w).mpr ⟨L,by rw[QT];unfold QY;rw[za (by decide)];exact Or.inl rfl,h⟩
theorem Qff{g:Qd->Qd}{E Xa:List Qd}{q:Qd}(w:Qv (.op2 .iand (.arg 0) (Qk (E.map g++[q]))))(hE:∀u∈E,∀a,Qo (g u) a->Qo u a)(hq:∀a,Qo q a->∃Xp,Xp.Perm Xa/\Qw Qo Xp a){l:List Nat}(h:Qo (.op2 .iand (.arg 0) (Qk (E.map g++[q]))) l):∃Kp,Kp.Perm (E++Xa)/\Qw Qo Kp l:=by
 obtain⟨Kp,od,c⟩:=(Qat w).mp h;rw[QT] at od;unfold QY at od;rw[zb rfl] at od;obtain⟨C,D,e⟩:=List.append_of_mem (od.mem_iff.mpr (show q∈E.map g++[q] by simp));rw[e] at od c;have p1:(C++D).Perm (E.map g):=by
  have h1:(q::(C++D)).Perm (q::E.map g):=zaJ.symm.trans (od.trans (za0.trans (List.Perm.refl _)));exact h1.cons_inv
 obtain⟨Z,pZ,eZ⟩:=Qck g p1.symm E rfl;obtain⟨C0,D0,e1,e2,e3⟩:=List.map_eq_append_iff.mp eZ;obtain⟨lc,lr,f1,cC,cr⟩:=QW.mp c;obtain⟨lq,ld,f2,hq',cD⟩:=cr;obtain⟨Xp,pX,cX⟩:=hq lq hq';have mem:∀u∈C0++D0,u∈E:=fun u hu=>pZ.mem_iff.mp (by rw[e1];exact hu);have cC0:Qw Qo C0 lc:=Qcv g (fun u hu=>hE u (mem u (by simp[hu]))) (by rw[e2];exact cC);have cD0:Qw Qo D0 ld:=Qcv g (fun u hu=>hE u (mem u (by simp[hu]))) (by rw[e3];exact cD);refine⟨C0++(Xp++D0),?_,QW.mpr ⟨lc,lq++ld,by rw[f1,f2],cC0,QW.mpr ⟨lq,ld,rfl,cX,cD0⟩⟩⟩;have h1:(C0++(Xp++D0)).Perm ((C0++D0)++Xp):=by
  rw[zq];exact List.Perm.append (List.Perm.refl _) za0
 refine h1.trans (List.Perm.append ?_ pX);rw[<-e1];exact pZ
theorem QeA{g:Qd->Qd}{E C D:List Qd}{q:Qd}(w:Qv (.op2 .iand (.arg 0) (Qk (E.map g++[q]))))(p:(C++D).Perm E)(hE:∀u∈E,∀a,Qo u a->Qo (g u) a){lc lq ld:List Nat}(cC:Qw Qo C lc)(hq:Qo q lq)(cD:Qw Qo D ld):Qo (.op2 .iand (.arg 0) (Qk (E.map g++[q]))) (lc++(lq++ld)):=by
 refine (Qat w).mpr ⟨C.map g++q::D.map g,?_,QW.mpr ⟨lc,lq++ld,rfl,QbT g (fun u hu=>hE u (p.mem_iff.mp (by simp[hu]))) cC,lq,ld,rfl,hq,QbT g (fun u hu=>hE u (p.mem_iff.mp (by simp[hu]))) cD⟩⟩;rw[QT];unfold QY;rw[zb rfl];refine zaJ.trans (List.Perm.trans (List.Perm.cons q ?_) (za0 (l₁:=[q])));rw[<-zA];exact p.map _
def Qb2(b:Nat->Bool)(K:List Qd):Prop:=∀u∈K,Qdr b u/\QJ b u=some (Ql b u)/\(Qp u/\Qv u)/\QbO b u (Ql b u)
theorem QbB{b:Nat->Bool}{K:List Qd}(h:Qb2 b K):∀u∈K,Qg b u≠2->∀a,Qo (Ql b u) a↔Qo u a:=fun u hu q a=>by
 obtain⟨-,-,hz,g⟩:=h u hu;rw[g.2.2.2.1 q];exact Qbk hz.2
theorem Qeg{b:Nat->Bool}{u:Qd}(h:QbO b u (Ql b u))(q:Qg b u=2):∀x∈Qn (Ql b u),Qp x/\Qv x:=fun x hx=>by
 obtain⟨L0,L1,e,-,-,m0,m1⟩:=(h.2.2.2.2 q).2;have ek:Qn (Ql b u)=L0++L1:=by rw[e];exact QT _
 rw[ek] at hx;rcases zc.mp hx with q | q
 ·exact⟨(m0 x q).1,(m0 x q).2.1⟩
 ·exact⟨(m1 x q).1,(m1 x q).2.1⟩
theorem Qdd{b:Nat->Bool}{K:List Qd}(h:Qb2 b K){u:Qd}(hu:u∈K)(q:Qg b u=2){a:List Nat}:(Qw Qo (Qn (Ql b u)) a->Qo u a)/\(Qw Qo (Qn (Ql b u)).reverse a->Qo u a):=by
 obtain⟨d,r,hz,g⟩:=h u hu;refine⟨fun c=>d.1 _ a r q c,fun c=>?_⟩;have c':=Qb4 (fun x hx l hl=>(Qbr x (Qeg g q x (zp.mp hx)).2).1 (Qeg g q x (zp.mp hx)).1 l hl) c;rw[zG] at c';have:=(Qbr u hz.2).1 hz.1 _ (d.1 _ _ r q c');rw[zG] at this;exact this
theorem QgB{b:Nat->Bool}{u:Qd}(g:QbO b u (Ql b u))(q:Qg b u=2){a:List Nat}(c:Qw Qo (Qn (Ql b u)) a.reverse):Qw Qo (Qn (Ql b u)).reverse a:=by
 have c':=Qb4 (fun x hx l hl=>(Qbr x (Qeg g q x hx).2).1 (Qeg g q x hx).1 l hl) c;rw[zG] at c';exact c'
theorem QcA{b:Nat->Bool}{K:List Qd}(h:Qb2 b K){v:Int32}(hv:v≠2){l:List Nat}:Qw Qo (QB ((Qa b v K).map (Ql b))) l↔∃Ep,Ep.Perm (Qa b v K)/\Qw Qo Ep l:=by
 have hE:∀u∈(Qa b v K).map (Ql b),Qp u/\Qv u/\Qg b u=v:=fun u hu=>by
  obtain⟨w,hw,ew⟩:=zD.mp hu;have g:=(h w (Qy.mp hw).1).2.2.2;rw[<-ew];exact⟨g.1,g.2.1,(Qb3 g).trans (Qy.mp hw).2⟩
 rw[Qe7 hE hv];have ft:∀u,u∈Qa b v K->∀a,Qo (Ql b u) a↔Qo u a:=fun u hu=>QbB h u (Qy.mp hu).1 (by rw[(Qy.mp hu).2];exact hv);constructor
 ·rintro ⟨Ep',p,hp⟩
  obtain⟨Ep,p2,e3⟩:=Qck (Ql b) p.symm _ rfl;exact⟨Ep,p2,Qcv (Ql b) (fun u hu a ha=>(ft u (p2.mem_iff.mp hu) a).mp ha) (by rw[e3];exact hp)⟩
 ·rintro ⟨Ep,p,hp⟩
  exact⟨Ep.map (Ql b),p.map _,QbT (Ql b) (fun u hu a ha=>(ft u (p.mem_iff.mp hu) a).mpr ha) hp⟩
theorem QeO{b:Nat->Bool}{v:Int32}{L:List Qd}(h:∀u∈L,Qg b u=v):Qa b v L=L:=List.filter_eq_self.mpr fun u hu=>zB (h u hu)
theorem QcN(b:Nat->Bool)(v:Int32)(L L':List Qd):Qa b v (L++L')=Qa b v L++Qa b v L':=by unfold Qa;rw[zaQ]
theorem Qfl{L:List Qd}(h:2<=L.length):QB L=[.op2 .iand (.arg 0) (Qk L)]:=by
 match L,h with
 |u::v::l,_=>rfl
 |[_],h=>exact absurd h (by simp)
 |[],h=>exact absurd h (by simp)
theorem Qeb{E:List Qd}{q:Qd}(w:Qv (.op2 .iand (.arg 0) (Qk (E++[q])))):Qv q:=by
 have:=Qbe w.2.2.2;rw[QT] at this;exact (this q (by simp)).2
theorem Qjw{b:Nat->Bool}{K:List Qd}(tf:Qb2 b K){T:Qd}(h:Qal b (K.map (Ql b))=some T)(wT:Qv T){l:List Nat}(hl:Qo T l):∃Kp,Kp.Perm K/\Qw Qo Kp l:=by
 have fb':∀v,Qa b v (K.map (Ql b))=(Qa b v K).map (Ql b):=fun v=>QdO v fun u hu=>Qb3 (tf u hu).2.2.2;have hz:∀v,∀u∈Qa b v K,Qp u/\Qv u:=fun v u hu=>(tf u (Qy.mp hu).1).2.2.1;have ftE:∀u∈Qa b 0 K,∀a,Qo (Ql b u) a->Qo u a:=fun u hu a ha=>(QbB tf u (Qy.mp hu).1 (by rw[(Qy.mp hu).2];decide) a).mp ha;have pK:=QeS b K;unfold Qal at h;rw[fb',fb',fb'] at h
 match hY:Qa b 2 K with
 |[]=>
  rw[hY] at h pK;have h':(if ((Qa b 0 K).map (Ql b)).length=0\/((Qa b 1 K).map (Ql b)).length<2 then some (Jvm.Term.op2 .iand (.arg 0) (Qk (K.map (Ql b)))) else some (.op2 .iand (.arg 0) (Qk ((Qa b 0 K).map (Ql b)++QB ((Qa b 1 K).map (Ql b))))))=some T:=h
  split at h'
  ·have e:=(Option.some.inj h').symm;subst e;obtain⟨Kp,od,c⟩:=(Qat wT).mp hl;rw[QT] at od;obtain⟨Kq,od',e'⟩:=Qg7 (Ql b) od;have pq:=Qc5 od';refine⟨Kq,pq,Qcv (Ql b) (fun u hu a ha=>?_) (by rw[e'];exact c)⟩;exact (QbB tf u (pq.mem_iff.mp hu) (Q7.mp hY u (pq.mem_iff.mp hu)) a).mp ha
  ·rename_i hn
   have f2:2<=((Qa b 1 K).map (Ql b)).length:=by omega
   rw[Qfl f2] at h';have e:=(Option.some.inj h').symm;subst e;obtain⟨Kp,p,c⟩:=Qff (Xa:=Qa b 1 K) wT ftE (fun a ha=>(QcA tf (v:=1) (by decide)).mp (by rw[Qfl f2];exact Qa1.mpr ha)) hl;exact⟨Kp,p.trans (by rw[zk] at pK;exact pK),c⟩
 |[y]=>
  have yK:y∈Qa b 2 K:=by rw[hY];simp
  rw[hY] at h pK;have fw:∀a,Qw Qo (Qn (Ql b y)++QB ((Qa b 1 K).map (Ql b))) a->∃Xp,Xp.Perm ([y]++Qa b 1 K)/\Qw Qo Xp a:=fun a ha=>by
   obtain⟨a1,a2,e,c1,c2⟩:=QW.mp ha;obtain⟨Fp,pF,cF⟩:=(QcA tf (v:=1) (by decide)).mp c2;exact⟨[y]++Fp,List.Perm.append (List.Perm.refl _) pF,QW.mpr ⟨a1,a2,e,Qa1.mpr ((Qdd tf (Qy.mp yK).1 (Qy.mp yK).2).1 c1),cF⟩⟩
  have hX:∀u∈[y]++Qa b 1 K,Qp u/\Qv u:=fun u hu=>by
   rcases zc.mp hu with q | q
   ·rw[zi] at q;rw[q];exact hz 2 y yK
   ·exact hz 1 u q
  have h':(if ((Qa b 0 K).map (Ql b)).length=0 then some (Jvm.Term.op2 .ior (.arg 0) (Qk (Qn (Ql b y)++QB ((Qa b 1 K).map (Ql b))))) else some (.op2 .iand (.arg 0) (Qk ((Qa b 0 K).map (Ql b)++[.op2 .ior (.arg 0) (Qk (Qn (Ql b y)++QB ((Qa b 1 K).map (Ql b))))]))))=some T:=h;have pK':(Qa b 0 K++([y]++Qa b 1 K)).Perm K:=by rw[<-zq];exact pK
  split at h'
  ·rename_i z
   have e:=(Option.some.inj h').symm;subst e;rw[zh] at z;obtain⟨Xp,p,c⟩:=Qdz wT hX fw hl;rw[QX.mp z] at pK';exact⟨Xp,p.trans pK',c⟩
  ·have e:=(Option.some.inj h').symm;subst e;obtain⟨Kp,p,c⟩:=Qff (Xa:=[y]++Qa b 1 K) wT ftE (fun a ha=>Qdz (Qeb wT) hX fw ha) hl;exact⟨Kp,p.trans pK',c⟩
 |[y,z]=>
  have yK:y∈Qa b 2 K:=by rw[hY];simp
  have zK:z∈Qa b 2 K:=by rw[hY];simp
  rw[hY] at h pK;have fw:∀a,Qw Qo (Qn (Ql b y)++QB ((Qa b 1 K).map (Ql b))++(Qn (Ql b z)).reverse) a->∃Xp,Xp.Perm ([y]++Qa b 1 K++[z])/\Qw Qo Xp a:=fun a ha=>by
   obtain⟨a12,a3,e,c12,c3⟩:=QW.mp ha;obtain⟨a1,a2,e',c1,c2⟩:=QW.mp c12;obtain⟨Fp,pF,cF⟩:=(QcA tf (v:=1) (by decide)).mp c2;exact⟨[y]++Fp++[z],List.Perm.append (List.Perm.append (List.Perm.refl _) pF) (List.Perm.refl _),QW.mpr ⟨a12,a3,e,QW.mpr ⟨a1,a2,e',Qa1.mpr ((Qdd tf (Qy.mp yK).1 (Qy.mp yK).2).1 c1),cF⟩,Qa1.mpr ((Qdd tf (Qy.mp zK).1 (Qy.mp zK).2).2 c3)⟩⟩
  have hX:∀u∈[y]++Qa b 1 K++[z],Qp u/\Qv u:=fun u hu=>by
   rw[zc,zc,zi,zi] at hu;rcases hu with (q | q) | q
   ·rw[q];exact hz 2 y yK
   ·exact hz 1 u q
   ·rw[q];exact hz 2 z zK
  have h':(if ((Qa b 0 K).map (Ql b)).length=0 then some (Jvm.Term.op2 .ior (.arg 0) (Qk (Qn (Ql b y)++QB ((Qa b 1 K).map (Ql b))++(Qn (Ql b z)).reverse))) else some (.op2 .iand (.arg 0) (Qk ((Qa b 0 K).map (Ql b)++[.op2 .ior (.arg 0) (Qk (Qn (Ql b y)++QB ((Qa b 1 K).map (Ql b))++(Qn (Ql b z)).reverse))]))))=some T:=h;have pK':(Qa b 0 K++([y]++Qa b 1 K++[z])).Perm K:=by
   refine List.Perm.trans ?_ pK;rw[show Qa b 0 K++[y,z]++Qa b 1 K=Qa b 0 K++([y,z]++Qa b 1 K) from zq _ _ _];refine List.Perm.append (List.Perm.refl _) ?_;show (y::(Qa b 1 K++[z])).Perm (y::z::Qa b 1 K);exact List.Perm.cons y (za0 (l₂:=[z]))
  split at h'
  ·rename_i ze
   have e:=(Option.some.inj h').symm;subst e;rw[zh] at ze;obtain⟨Xp,p,c⟩:=Qdz wT hX fw hl;rw[QX.mp ze] at pK';exact⟨Xp,p.trans pK',c⟩
  ·have e:=(Option.some.inj h').symm;subst e;obtain⟨Kp,p,c⟩:=Qff (Xa:=[y]++Qa b 1 K++[z]) wT ftE (fun a ha=>Qdz (Qeb wT) hX fw ha) hl;exact⟨Kp,p.trans pK',c⟩
 |y::z::w::l'=>
  rw[hY] at h;exact absurd h (by show ¬(none:Option Qd)=some T;simp)
theorem QhS{b:Nat->Bool}{Z0 M Z2:List Qd}{u v:Qd}{l:List Nat}(hz:∀w∈Z0++u::(M++v::Z2),Qp w/\Qv w)(nu:Qg b u≠0)(nv:Qg b v≠0)(c:Qw Qo (Z0++u::(M++v::Z2)) l)(cs:QV b l):∃z0 au m av z2,l=z0++(au++(m++(av++z2)))/\Qw Qo Z0 z0/\Qo u au/\Qw Qo M m/\Qo v av/\Qw Qo Z2 z2/\Qbi b au/\Qbi b av.reverse/\∀w∈M,Qg b w=1:=by
 obtain⟨z0,r0,e0,c0,au,r1,e1,hu,c1⟩:=QW.mp c;obtain⟨m,r2,e2,cm,av,z2,e3,hv,c2⟩:=QW.mp c1;have el:l=z0++(au++(m++(av++z2))):=by rw[e0,e1,e2,e3]
 have bu:=(QeW (b:=b) (hz u (by simp)) hu).2.2 nu;have bv:=(QeW (b:=b) (hz v (by simp)) hv).2.2 nv;have s1:Qbi b (z0++au++m):=Qga (r:=av++z2) (by rw[el] at cs;simpa only [zq] using cs) (by obtain⟨c,hc,hb⟩:=bv;exact⟨c,by simp[hc],hb⟩);obtain⟨s2,-,s3⟩:=Qcp s1;have mB:=s3 (by obtain⟨c,hc,hb⟩:=bu;exact⟨c,by simp[hc],hb⟩);have s4:Qbi b (z2.reverse++av.reverse):=by
  refine Qga (r:=(z0++au++m).reverse) ?_ (by obtain⟨c,hc,hb⟩:=bu;exact⟨c,by simp[hc],hb⟩);have:=QeF cs;rw[el] at this;have e:(z0++(au++(m++(av++z2)))).reverse=z2.reverse++av.reverse++(z0++au++m).reverse:=by simp only[zP,zq]
  rw[e] at this;exact this
 refine⟨z0,au,m,av,z2,el,c0,hu,cm,hv,c2,(Qcp s2).2.1,(Qcp s4).2.1,fun w hw=>?_⟩;have p:=Qc8 (fun x hx=>hz x (by simp[hx])) cm;unfold Qg;rw[zb (zw.mpr fun c hc=>mB c (p.mem_iff.mpr (zx.mpr ⟨w,hw,hc⟩)))]
theorem QfL{b:Nat->Bool}{K:List Qd}(tf:Qb2 b K)(wT:∀T,Qal b (K.map (Ql b))=some T->Qv T){Z0 M Z2:List Qd}{u v:Qd}(pK:(Z0++u::(M++v::Z2)).Perm K)(m0:∀w∈Z0,Qg b w=0)(mM:∀w∈M,Qg b w=1)(m2:∀w∈Z2,Qg b w=0)(nu:Qg b u≠0)(nv:Qg b v≠0){z0 au m av z2:List Nat}(c0:Qw Qo Z0 z0)(hu:Qo u au)(cm:Qw Qo M m)(hv:Qo v av)(c2:Qw Qo Z2 z2)(ku:Qg b u=2->Qw Qo (Qn (Ql b u)) au)(kv:Qg b v=2->Qw Qo (Qn (Ql b v)) av.reverse)(hY:Qa b 2 K=(if Qg b u=2 then [u] else [])++(if Qg b v=2 then [v] else []))(hno:Qg b v=2->Qg b u=2):∃T,Qal b (K.map (Ql b))=some T/\Qo T (z0++(au++(m++(av++z2)))):=by
 have fb':∀v,Qa b v (K.map (Ql b))=(Qa b v K).map (Ql b):=fun v=>QdO v fun u hu=>Qb3 (tf u hu).2.2.2;have uK:u∈K:=pK.mem_iff.mp (by simp);have vK:v∈K:=pK.mem_iff.mp (by simp);have ftE:∀w∈Qa b 0 K,∀a,Qo w a->Qo (Ql b w) a:=fun w hw a ha=>(QbB tf w (Qy.mp hw).1 (by rw[(Qy.mp hw).2];decide) a).mpr ha;have fE:Qa b 0 (Z0++u::(M++v::Z2))=Z0++Z2:=by
  rw[QcN,QeO m0,Qaz,za nu,QcN,Q7.mpr (fun w hw=>by rw[mM w hw];decide),Qaz,za nv,QeO m2,zJ]
 have pE:(Z0++Z2).Perm (Qa b 0 K):=by rw[<-fE];exact QcO 0 pK
 have fF:Qa b 1 (Z0++u::(M++v::Z2))=(if Qg b u=1 then [u] else [])++M++(if Qg b v=1 then [v] else []):=by
  rw[QcN,Q7.mpr (fun w hw=>by rw[m0 w hw];decide),Qaz,QcN,QeO mM,Qaz,(Q7 (l:=Z2)).mpr (fun w hw=>by rw[m2 w hw];decide)];by_cases q:Qg b u=1<;>by_cases q':Qg b v=1<;>simp[q,q']
 have pF:=QcO (b:=b) 1 pK;rw[fF] at pF;have one:∀w,Qg b w≠0->Qg b w≠2->Qg b w=1:=fun w h0 h2=>by
  rcases QaC b w with q | q | q
  ·exact absurd q h0
  ·exact q
  ·exact absurd q h2
 have emp:Qa b 0 K=[]->Z0=[]/\Z2=[]:=fun e=>by
  rw[e] at pE;exact zag.mp pE.eq_nil
 unfold Qal at wT ⊢;rw[fb',fb',fb'] at wT ⊢;rw[hY] at wT ⊢;by_cases qu:Qg b u=2
 ·by_cases qv:Qg b v=2
  ·rw[zb qu,zb qv] at wT ⊢;rw[za (by rw[qu];decide),za (by rw[qv];decide),zk,zJ] at pF;have gF:Qw Qo (QB ((Qa b 1 K).map (Ql b))) m:=(QcA tf (by decide)).mpr ⟨M,pF,cm⟩;have sq:Qw Qo (Qn (Ql b u)++QB ((Qa b 1 K).map (Ql b))++(Qn (Ql b v)).reverse) (au++m++av):=QW.mpr ⟨au++m,av,rfl,QW.mpr ⟨au,m,rfl,ku qu,gF⟩,QgB (tf v vK).2.2.2 qv (kv qv)⟩;show ∃T,(if ((Qa b 0 K).map (Ql b)).length=0 then some (Jvm.Term.op2 .ior (.arg 0) (Qk (Qn (Ql b u)++QB ((Qa b 1 K).map (Ql b))++(Qn (Ql b v)).reverse))) else some (.op2 .iand (.arg 0) (Qk ((Qa b 0 K).map (Ql b)++[.op2 .ior (.arg 0) (Qk (Qn (Ql b u)++QB ((Qa b 1 K).map (Ql b))++(Qn (Ql b v)).reverse))]))))=some T/\_
   have wT':∀T,(if ((Qa b 0 K).map (Ql b)).length=0 then some (Jvm.Term.op2 .ior (.arg 0) (Qk (Qn (Ql b u)++QB ((Qa b 1 K).map (Ql b))++(Qn (Ql b v)).reverse))) else some (.op2 .iand (.arg 0) (Qk ((Qa b 0 K).map (Ql b)++[.op2 .ior (.arg 0) (Qk (Qn (Ql b u)++QB ((Qa b 1 K).map (Ql b))++(Qn (Ql b v)).reverse))]))))=some T->Qv T:=wT;by_cases z:((Qa b 0 K).map (Ql b)).length=0
   ·rw[zb z] at wT' ⊢;rw[zh] at z;obtain⟨e1,e2⟩:=emp (QX.mp z);rw[e1] at c0;rw[e2] at c2;have h0:z0=[]:=c0;have h2:z2=[]:=c2;refine⟨_,rfl,?_⟩;rw[h0,h2,zJ,zk,<-zq];exact Qc3 (wT' _ rfl) sq
   ·rw[za z] at wT' ⊢;refine⟨_,rfl,?_⟩;have:=QeA (wT' _ rfl) pE ftE c0 (Qc3 (Qeb (wT' _ rfl)) sq) c2;simp only[zq] at this ⊢;exact this
  ·have v1:=one v nv qv;rw[zb qu,za qv] at wT ⊢;rw[za (by rw[qu];decide),zb v1,zJ] at pF;have gF:Qw Qo (QB ((Qa b 1 K).map (Ql b))) (m++av):=(QcA tf (by decide)).mpr ⟨M++[v],pF,QW.mpr ⟨m,av,rfl,cm,Qa1.mpr hv⟩⟩;have sq:Qw Qo (Qn (Ql b u)++QB ((Qa b 1 K).map (Ql b))) (au++(m++av)):=QW.mpr ⟨au,m++av,rfl,ku qu,gF⟩;show ∃T,(if ((Qa b 0 K).map (Ql b)).length=0 then some (Jvm.Term.op2 .ior (.arg 0) (Qk (Qn (Ql b u)++QB ((Qa b 1 K).map (Ql b))))) else some (.op2 .iand (.arg 0) (Qk ((Qa b 0 K).map (Ql b)++[.op2 .ior (.arg 0) (Qk (Qn (Ql b u)++QB ((Qa b 1 K).map (Ql b))))]))))=some T/\_;have wT':∀T,(if ((Qa b 0 K).map (Ql b)).length=0 then some (Jvm.Term.op2 .ior (.arg 0) (Qk (Qn (Ql b u)++QB ((Qa b 1 K).map (Ql b))))) else some (.op2 .iand (.arg 0) (Qk ((Qa b 0 K).map (Ql b)++[.op2 .ior (.arg 0) (Qk (Qn (Ql b u)++QB ((Qa b 1 K).map (Ql b))))]))))=some T->Qv T:=wT
   by_cases z:((Qa b 0 K).map (Ql b)).length=0
   ·rw[zb z] at wT' ⊢;rw[zh] at z;obtain⟨e1,e2⟩:=emp (QX.mp z);rw[e1] at c0;rw[e2] at c2;have h0:z0=[]:=c0;have h2:z2=[]:=c2;refine⟨_,rfl,?_⟩;rw[h0,h2,zJ,zk];exact Qc3 (wT' _ rfl) sq
   ·rw[za z] at wT' ⊢;refine⟨_,rfl,?_⟩;have:=QeA (wT' _ rfl) pE ftE c0 (Qc3 (Qeb (wT' _ rfl)) sq) c2;simp only[zq] at this ⊢;exact this
 ·have qv:Qg b v≠2:=fun q=>qu (hno q);have u1:=one u nu qu;have v1:=one v nv qv;rw[za qu,za qv] at wT hY ⊢;rw[zb u1,zb v1] at pF;have f2:2<=((Qa b 1 K).map (Ql b)).length:=by
   rw[zh,<-pF.length_eq];simp
  have gF:Qw Qo (QB ((Qa b 1 K).map (Ql b))) (au++m++av):=(QcA tf (by decide)).mpr ⟨[u]++M++[v],pF,QW.mpr ⟨au++m,av,rfl,QW.mpr ⟨au,m,rfl,Qa1.mpr hu,cm⟩,Qa1.mpr hv⟩⟩;show ∃T,(if ((Qa b 0 K).map (Ql b)).length=0\/((Qa b 1 K).map (Ql b)).length<2 then some (Jvm.Term.op2 .iand (.arg 0) (Qk (K.map (Ql b)))) else some (.op2 .iand (.arg 0) (Qk ((Qa b 0 K).map (Ql b)++QB ((Qa b 1 K).map (Ql b))))))=some T/\_;have wT':∀T,(if ((Qa b 0 K).map (Ql b)).length=0\/((Qa b 1 K).map (Ql b)).length<2 then some (Jvm.Term.op2 .iand (.arg 0) (Qk (K.map (Ql b)))) else some (.op2 .iand (.arg 0) (Qk ((Qa b 0 K).map (Ql b)++QB ((Qa b 1 K).map (Ql b))))))=some T->Qv T:=wT
  by_cases z:((Qa b 0 K).map (Ql b)).length=0
  ·rw[zb (Or.inl z)] at wT' ⊢;refine⟨_,rfl,(Qat (wT' _ rfl)).mpr ⟨(Z0++u::(M++v::Z2)).map (Ql b),?_,QbT (Ql b) (fun w hw a ha=>?_) (QW.mpr ⟨z0,_,rfl,c0,au,_,rfl,hu,QW.mpr ⟨m,_,rfl,cm,av,z2,rfl,hv,c2⟩⟩)⟩⟩
   ·rw[QT];unfold QY;rw[zb rfl];exact pK.map _
   ·have hw':=pK.mem_iff.mp hw;exact (QbB tf w hw' (Q7.mp hY w hw') a).mpr ha
  ·rw[za (by omega)] at wT' ⊢;rw[Qfl f2] at wT' gF ⊢;refine⟨_,rfl,?_⟩;have:=QeA (wT' _ rfl) pE ftE c0 (Qa1.mp gF) c2;simp only[zq] at this ⊢;exact this
theorem QiB{l:List Qd}{u v:Qd}(p:l.Perm [u,v]):l=[u,v]\/l=[v,u]:=by
 have pl:=p.length_eq
 match l,pl with
 |[d,e],_=>
  have hd:d=u\/d=v:=by simpa using p.mem_iff.mp (show d∈[d,e] by simp)
  rcases hd with q | q
  ·subst q;exact Or.inl (by rw[zas.mp (List.Perm.cons_inv p)])
  ·subst q;have p2:[d,e].Perm [d,u]:=p.trans (List.Perm.swap _ _ _);exact Or.inr (by rw[zas.mp (List.Perm.cons_inv p2)])
 |[],h=>exact absurd h (by simp)
 |[_],h=>exact absurd h (by simp)
 |_::_::_::_,h=>exact absurd h (by simp)
theorem Qix{b:Nat->Bool}{Z0 M Z2:List Qd}{u v:Qd}(m0:∀w∈Z0,Qg b w=0)(mM:∀w∈M,Qg b w=1)(m2:∀w∈Z2,Qg b w=0):Q0 b Z0.length (Z0.length+1+M.length) 0 (Z0++u::(M++v::Z2))=Z0++((if Qg b u=2 then Qn u else [u])++(M++((if Qg b v=2 then (Qn v).reverse else [v])++Z2))):=by
 rw[Qcs,Qb7 0 (fun w hw=>by rw[m0 w hw];decide),zL,Qc2,za (fun q=>by omega:¬(Z0.length=Z0.length+1+M.length/\Z0.length≠Z0.length)),Qcs,Qb7 (Z0.length+1) (fun w hw=>by rw[mM w hw];decide),Qc2,zb (show Z0.length+1+M.length=Z0.length+1+M.length/\Z0.length+1+M.length≠Z0.length from ⟨rfl,by omega⟩),Qb7 _ (fun w hw=>by rw[m2 w hw];decide)]
theorem QeG{b:Nat->Bool}{f la:Nat}{K0:List Qd}(tf:Qb2 b K0):∀ {K:List Qd} (k:Nat) {a:List Nat},(∀u∈K,u∈K0)->Qw Qo (Q0 b f la k (K.map (Ql b))) a->Qw Qo K a
 |[],_,a,_,h=>h
 |u::K,k,a,hm,h=>by
  rw[zE,Qc2] at h;obtain⟨a1,a2,e,c1,c2⟩:=QW.mp h;have uK:=hm u (by simp);refine⟨a1,a2,e,?_,QeG tf (k+1) (fun v hv=>hm v (by simp[hv])) c2⟩;rw[Qb3 (tf u uK).2.2.2] at c1;by_cases q:Qg b u=2
  ·rw[zb q] at c1
   split at c1
   ·exact (Qdd tf uK q).2 c1
   ·exact (Qdd tf uK q).1 c1
  ·rw[za q] at c1;exact (QbB tf u uK q a1).mp (Qa1.mp c1)
theorem Qi3{b:Nat->Bool}{K:List Qd}(tf:Qb2 b K){T:Qd}(h:Qas b (K.map (Ql b))=some T)(wT:Qv T){l:List Nat}(hl:Qo T l):∃Kp,(Kp=K\/Kp=K.reverse)/\Qw Qo Kp l:=by
 unfold Qas at h
 split at h
 ·have e:=(Option.some.inj h).symm;subst e;obtain⟨Kp,od,c⟩:=(Qat wT).mp hl;have hL:=Qbe wT.2.2.2;rw[QT] at od hL;unfold QY at od;rw[za (by decide)] at od;rcases od with q | q
  ·rw[q] at c;exact⟨K,Or.inl rfl,QeG tf 0 (fun u hu=>hu) c⟩
  ·rw[q] at c;have c':=Qb4 (fun u hu l hl=>(Qbr u (hL u (zp.mp hu)).2).1 (hL u (zp.mp hu)).1 l hl) c;rw[zG] at c';have c2:=QeG tf 0 (fun u hu=>hu) c';have c3:=Qb4 (fun u hu l hl=>(Qbr u (tf u hu).2.2.1.2).1 (tf u hu).2.2.1.1 l hl) c2;rw[zG] at c3;exact⟨K.reverse,Or.inr rfl,c3⟩
 ·exact absurd h (by simp)
theorem QgN{b:Nat->Bool}{Z0 M Z2:List Qd}{u v:Qd}(tf:Qb2 b (Z0++u::(M++v::Z2)))(wT:∀T,Qas b ((Z0++u::(M++v::Z2)).map (Ql b))=some T->Qv T)(m0:∀w∈Z0,Qg b w=0)(mM:∀w∈M,Qg b w=1)(m2:∀w∈Z2,Qg b w=0)(nu:Qg b u≠0)(nv:Qg b v≠0){z0 au m av z2:List Nat}(c0:Qw Qo Z0 z0)(hu:Qo u au)(cm:Qw Qo M m)(hv:Qo v av)(c2:Qw Qo Z2 z2)(ku:Qg b u=2->Qw Qo (Qn (Ql b u)) au)(kv:Qg b v=2->Qw Qo (Qn (Ql b v)) av.reverse):∃T,Qas b ((Z0++u::(M++v::Z2)).map (Ql b))=some T/\Qo T (z0++(au++(m++(av++z2)))):=by
 have lbt:∀w∈Z0++u::(M++v::Z2),Qg b (Ql b w)=Qg b w:=fun w hw=>Qb3 (tf w hw).2.2.2;have em:(Z0++u::(M++v::Z2)).map (Ql b)=Z0.map (Ql b)++Ql b u::(M.map (Ql b)++Ql b v::Z2.map (Ql b)):=by simp only[zA,zE]
 have mp:∀(L:List Qd) (x:Int32),(∀w∈L,w∈Z0++u::(M++v::Z2))->(∀w∈L,Qg b w=x)->∀w∈L.map (Ql b),Qg b w=x:=fun L x hL hx w hw=>by
  obtain⟨w0,h0,e0⟩:=zD.mp hw;rw[<-e0,lbt w0 (hL w0 h0)];exact hx w0 h0
 have uu:Qg b (Ql b u)=Qg b u:=lbt u (by simp);have vv:Qg b (Ql b v)=Qg b v:=lbt v (by simp);have t0:=mp Z0 0 (fun w hw=>by simp[hw]) m0;have tM:=mp M 1 (fun w hw=>by simp[hw]) mM;have t2:=mp Z2 0 (fun w hw=>by simp[hw]) m2;have ef:QaK b ((Z0++u::(M++v::Z2)).map (Ql b))=(Z0.map (Ql b)).length:=by rw[em];exact QdA (by rw[uu];exact nu) t0
 have ela:Qa4 b ((Z0++u::(M++v::Z2)).map (Ql b))=(Z0.map (Ql b)).length+1+(M.map (Ql b)).length:=by
  have e2:Z0.map (Ql b)++Ql b u::(M.map (Ql b)++Ql b v::Z2.map (Ql b))=(Z0.map (Ql b)++Ql b u::M.map (Ql b))++Ql b v::Z2.map (Ql b):=by simp only[zq,zak]
  rw[em,e2,QfG (by rw[vv];exact nv) t2,zd,zs];omega
 have md:Qcr b (QaK b ((Z0++u::(M++v::Z2)).map (Ql b))) (Qa4 b ((Z0++u::(M++v::Z2)).map (Ql b))) ((Z0++u::(M++v::Z2)).map (Ql b))=true:=by
  rw[QbY,ef,ela,em];intro k h1 h2 h3;obtain⟨j,ej⟩:∃j,k=(Z0.map (Ql b)).length+1+j:=⟨k-((Z0.map (Ql b)).length+1),by omega⟩;rw[ej,QgC (show j<(M.map (Ql b)).length by omega)];exact tM _ (Qa2 (by omega))
 unfold Qas at wT ⊢;rw[zb md,ef,ela,em,Qix t0 tM t2] at wT ⊢;refine⟨_,rfl,Qc3 (wT _ rfl) (QW.mpr ⟨z0,_,rfl,?_,QW.mpr ⟨au,_,rfl,?_,QW.mpr ⟨m,_,rfl,?_,QW.mpr ⟨av,z2,rfl,?_,?_⟩⟩⟩⟩)⟩
 ·exact QbT (Ql b) (fun w hw a ha=>(QbB tf w (by simp[hw]) (by rw[m0 w hw];decide) a).mpr ha) c0
 ·rw[uu];by_cases q:Qg b u=2
  ·rw[zb q];exact ku q
  ·rw[za q];exact Qa1.mpr ((QbB tf u (by simp) q au).mpr hu)
 ·exact QbT (Ql b) (fun w hw a ha=>(QbB tf w (by simp[hw]) (by rw[mM w hw];decide) a).mpr ha) cm
 ·rw[vv];by_cases q:Qg b v=2
  ·rw[zb q];exact QgB (tf v (by simp)).2.2.2 q (kv q)
  ·rw[za q];exact Qa1.mpr ((QbB tf v (by simp) q av).mpr hv)
 ·exact QbT (Ql b) (fun w hw a ha=>(QbB tf w (by simp[hw]) (by rw[m2 w hw];decide) a).mpr ha) c2
def QgG(b:Nat->Bool)(t:Qd):Prop:=(∀T l,QL b t=some T->Qo T l->Qo t l)/\∀l,Qo t l->QV b l->∃T,QL b t=some T/\Qo T l
theorem QiR{b:Nat->Bool}(h32:∀c,b c=true->c<32)(hc:∃c,b c=true):∀t,Qv t->(Qf t).Nodup->(Qp t->Qs b t=true->QgG b t)/\(QM t->∀u∈Qc t,Qs b u=true->QgG b u):=Qan
 (fun c _ _=>⟨fun _ _=>⟨fun T l h hl=>by have e:T = .arg c:=(Option.some.inj h).symm;rw[e] at hl;exact hl,fun l hl _=>⟨_,rfl,hl⟩⟩,fun h=>absurd h id⟩)
 (fun o x f w ih nd=>⟨fun _ al=>by
  have w':=w;obtain⟨wo,w2,wF,wf⟩:=w;have wT:∀T,QL b (.op2 o (.arg x) f)=some T->Qv T:=fun T h=>(Qdn h32 hc _ w' nd ⟨fun _=>al,fun h=>absurd h id⟩ T h).1;have iT:∀T,QL b (.op2 o (.arg x) f)=some T->Qp T:=fun T h=>(Qdn h32 hc _ w' nd ⟨fun _=>al,fun h=>absurd h id⟩ T h).2.2.2.2.2.1 trivial;have eR:QL b (.op2 o (.arg x) f)=if (Qc f).any (Qs b)=true then (QL b f).bind fun f'=>some (.op2 o (.arg 0) f') else (QJ b f).bind fun f'=>if o = .iand then Qal b (Qc f') else Qas b (Qc f'):=rfl;have kz:=Qbe wf;have kf:=Qbh Qf (fun _ _=>rfl) rfl f wf wF;have ndf:(Qf f).Nodup:=nd;have hIH:=(ih ndf).2 wF;by_cases q:(Qc f).any (Qs b)=true
  ·obtain⟨rl1,rl2⟩:=Qgv h32 hc f wf wF ndf q;rw[zb q] at eR;constructor
   ·intro T l h hl;have wz:=wT T h;rw[eR] at h;cases hf:QL b f with
    |none=>rw[hf] at h;exact absurd h (by simp)
    |some f'=>
     rw[hf] at h;have e:T = .op2 o (.arg 0) f':=(Option.some.inj h).symm;subst e;obtain⟨-,ek,hR⟩:=rl1 f' hf;obtain⟨Kp,od,c⟩:=(Qat wz).mp hl;rw[ek] at od;obtain⟨Kq,od',e'⟩:=Qg7 (QaW b) od;refine (Qat w').mpr ⟨Kq,od',Qcv (QaW b) (fun u hu a ha=>?_) (by rw[e'];exact c)⟩;have uK:=(Qc5 od').mem_iff.mp hu;by_cases au:Qs b u=true
     ·exact (hIH u uK au).1 _ a (hR u uK au) ha
     ·unfold QaW at ha;rw[za au] at ha;exact (Qbk (kz u uK).2).mp ha
   ·intro l hl cs;obtain⟨Kp,od,c⟩:=(Qat w').mp hl;have pK:=Qc5 od;obtain⟨f',hf⟩:=rl2 fun u hu au=>by
     obtain⟨a,ha,ca⟩:=QgI c cs u (pK.mem_iff.mpr hu);obtain⟨T,hT,-⟩:=(hIH u hu au).2 a ha ca;exact⟨T,hT⟩
    obtain⟨-,ek,hR⟩:=rl1 f' hf;have hT:QL b (.op2 o (.arg x) f)=some (.op2 o (.arg 0) f'):=by rw[eR,hf];rfl
    refine⟨_,hT,(Qat (wT _ hT)).mpr ⟨Kp.map (QaW b),by rw[ek];exact Qje _ od,QgP (QaW b) (fun u hu a ca ha=>?_) c cs⟩⟩;have uK:=pK.mem_iff.mp hu;by_cases au:Qs b u=true
    ·obtain⟨T,hT',hTa⟩:=(hIH u uK au).2 a ha ca;rw[hR u uK au] at hT';rw[Option.some.inj hT'];exact hTa
    ·unfold QaW;rw[za au];exact (Qbk (kz u uK).2).mpr ha
  ·have q':(Qc f).any (Qs b)=false:=by rw[zV] at q;exact q
   have hal:=Qci.mp q';rw[za q] at eR;have hD:=(Qi5 b f wf).2 wF;obtain⟨rl1,rl2⟩:=Qej b f wf wF;have hin:∀c,b c=true->c∈(Qc f).flatMap Qf:=fun c hb=>by rw[kf];exact Qab.mp al c (h32 c hb) hb
   have ftN:=fun l=>Qat w' (l:=l);generalize Qc f=K at *;have tf2:(∀u∈K,QJ b u=some (Ql b u))->Qb2 b K:=fun hr u hu=>⟨hD u hu,hr u hu,kz u hu,QdQ (kz u hu) (hr u hu)⟩;constructor
   ·intro T l h hl;have wz:=wT T h;rw[eR] at h;cases hf:QJ b f with
    |none=>rw[hf] at h;exact absurd h (by simp)
    |some f'=>
     rw[hf] at h;obtain⟨ek,hr⟩:=rl1 f' hf;have h':(if o = .iand then Qal b (Qc f') else Qas b (Qc f'))=some T:=h;rw[ek] at h';rw[ftN];by_cases ho:o = .iand
     ·rw[zb ho] at h';obtain⟨Kp,p,c⟩:=Qjw (tf2 hr) h' wz hl;exact⟨Kp,by unfold QY;rw[zb ho];exact p,c⟩
     ·rw[za ho] at h';obtain⟨Kp,p,c⟩:=Qi3 (tf2 hr) h' wz hl;exact⟨Kp,by unfold QY;rw[za ho];exact p,c⟩
   ·intro l hl cs;obtain⟨Kp,od,c⟩:=(ftN l).mp hl;have pK:=Qc5 od;have parts:∀(Kp:List Qd) (l:List Nat),Kp.Perm K->Qw Qo Kp l->QV b l->∃Z0 u M v Z2 z0 au m av z2,Kp=Z0++u::(M++v::Z2)/\l=z0++(au++(m++(av++z2)))/\(∀w∈Z0,Qg b w=0)/\(∀w∈M,Qg b w=1)/\(∀w∈Z2,Qg b w=0)/\Qg b u≠0/\Qg b v≠0/\Qw Qo Z0 z0/\Qo u au/\Qw Qo M m/\Qo v av/\Qw Qo Z2 z2/\(Qg b u=2->Qw Qo (Qn (Ql b u)) au)/\(Qg b v=2->Qw Qo (Qn (Ql b v)) av.reverse)/\∀w∈K,QJ b w=some (Ql b w):=fun Kp l pK c cs=>by
     have hz:∀w∈Kp,Qp w/\Qv w:=fun w hw=>kz w (pK.mem_iff.mp hw);obtain⟨Z0,u,M,v,Z2,e,m0,nu,nv,m2,-,-⟩:=Qc4 (K:=Kp) (fun w hw=>hal w (pK.mem_iff.mp hw)) hc (fun c hb=>(pK.flatMap_right Qf).mem_iff.mpr (hin c hb));rw[e] at hz c pK;obtain⟨z0,au,m,av,z2,el,c0,hu,cm,hv,c2,s1,s2,mM⟩:=QhS hz nu nv c cs;have uK:u∈K:=pK.mem_iff.mp (by simp);have vK:v∈K:=pK.mem_iff.mp (by simp);obtain⟨Tu,hTu,cu⟩:=(hD u uK).2 au hu s1;obtain⟨Tv,hTv,cv⟩:=(hD v vK).2 av.reverse ((Qbr v (kz v vK).2).1 (kz v vK).1 av hv) s2;have eu:Ql b u=Tu:=by unfold Ql;rw[hTu];rfl
     have ev:Ql b v=Tv:=by unfold Ql;rw[hTv];rfl
     refine⟨Z0,u,M,v,Z2,z0,au,m,av,z2,e,el,m0,mM,m2,nu,nv,c0,hu,cm,hv,c2,by rw[eu];exact cu,by rw[ev];exact cv,fun w hw=>?_⟩;have plain:Qg b w≠2->QJ b w=some (Ql b w):=fun h2=>by
      have:=(Qfc b w (kz w hw).2).1 (kz w hw).1 h2;unfold Ql;rw[this];rfl
     have hw':=pK.mem_iff.mpr hw;rw[zc,zt,zc,zt] at hw';rcases hw' with q | q | q | q | q
     ·exact plain (by rw[m0 w q];decide)
     ·rw[q,eu];exact hTu
     ·exact plain (by rw[mM w q];decide)
     ·rw[q,ev];exact hTv
     ·exact plain (by rw[m2 w q];decide)
    obtain⟨Z0,u,M,v,Z2,z0,au,m,av,z2,eKp,el,m0,mM,m2,nu,nv,c0,hu,cm,hv,c2,ku,kv,hr⟩:=parts Kp l pK c cs;have tf:=tf2 hr;obtain⟨f',hf⟩:=rl2 hr;obtain⟨ek,-⟩:=rl1 f' hf;have eT:QL b (.op2 o (.arg x) f)=if o = .iand then Qal b (K.map (Ql b)) else Qas b (K.map (Ql b)):=by
     rw[eR,hf,<-ek];rfl
    have back:∀T,QL b (.op2 o (.arg x) f)=some T->Qo T l.reverse->∃T,QL b (.op2 o (.arg x) f)=some T/\Qo T l:=fun T hT h=>by
     have:=(Qbr T (wT T hT)).1 (iT T hT) _ h;rw[zG] at this;exact⟨T,hT,this⟩
    have wv:Qp v/\Qv v:=kz v (pK.mem_iff.mp (by rw[eKp];simp));have wu:Qp u/\Qv u:=kz u (pK.mem_iff.mp (by rw[eKp];simp));have elr:l.reverse=z2.reverse++(av.reverse++(m.reverse++(au.reverse++z0.reverse))):=by rw[el];simp only[zP,zq]
    have eKr:Kp.reverse=Z2.reverse++v::(M.reverse++u::Z0.reverse):=by rw[eKp];simp only[zP,zaW,zq,zak,zJ]
    have rev:∀(A:List Qd) (a:List Nat),(∀w∈A,w∈K)->Qw Qo A a->Qw Qo A.reverse a.reverse:=fun A a hA ca=>Qb4 (fun w hw l hl=>(Qbr w (kz w (hA w hw)).2).1 (kz w (hA w hw)).1 l hl) ca;have mK:∀w∈Z0++u::(M++v::Z2),w∈K:=fun w hw=>pK.mem_iff.mp (by rw[eKp];exact hw);have r0:=rev Z0 z0 (fun w hw=>mK w (by simp[hw])) c0;have rm:=rev M m (fun w hw=>mK w (by simp[hw])) cm;have r2:=rev Z2 z2 (fun w hw=>mK w (by simp[hw])) c2;have hur:=(Qbr u wu.2).1 wu.1 au hu;have hvr:=(Qbr v wv.2).1 wv.1 av hv;by_cases ho:o = .iand
    ·rw[zb ho] at eT;have wTP:∀T,Qal b (K.map (Ql b))=some T->Qv T:=fun T h=>wT T (by rw[eT];exact h);have fY:Qa b 2 Kp=(if Qg b u=2 then [u] else [])++(if Qg b v=2 then [v] else []):=by
      rw[eKp,QcN,Q7.mpr (fun w hw=>by rw[m0 w hw];decide),Qaz,QcN,Q7.mpr (fun w hw=>by rw[mM w hw];decide),Qaz,(Q7 (l:=Z2)).mpr (fun w hw=>by rw[m2 w hw];decide)];by_cases q:Qg b u=2<;>by_cases q':Qg b v=2<;>simp[q,q']
     have pY:=QcO (b:=b) 2 pK;rw[fY] at pY;have direct:Qa b 2 K=(if Qg b u=2 then [u] else [])++(if Qg b v=2 then [v] else [])->(Qg b v=2->Qg b u=2)->∃T,QL b (.op2 o (.arg x) f)=some T/\Qo T l:=fun hY hno=>by
      rw[el,eT];exact QfL tf wTP (by rw[<-eKp];exact pK) m0 mM m2 nu nv c0 hu cm hv c2 ku kv hY hno
     have mirror:Qa b 2 K=(if Qg b v=2 then [v] else [])++(if Qg b u=2 then [u] else [])->(Qg b u=2->Qg b v=2)->∃T,QL b (.op2 o (.arg x) f)=some T/\Qo T l:=fun hY hno=>by
      obtain⟨T,hT,h⟩:=QfL tf wTP (Z0:=Z2.reverse) (u:=v) (M:=M.reverse) (v:=u) (Z2:=Z0.reverse) (by rw[<-eKr];exact (zy _).trans pK) (fun w hw=>m2 w (zp.mp hw)) (fun w hw=>mM w (zp.mp hw)) (fun w hw=>m0 w (zp.mp hw)) nv nu r2 hvr rm hur r0 kv (fun q=>by rw[zG];exact ku q) hY hno;rw[<-elr] at h;exact back T (by rw[eT];exact hT) h
     by_cases qu:Qg b u=2
     ·by_cases qv:Qg b v=2
      ·rw[zb qu,zb qv] at direct mirror pY;rcases QiB pY.symm with h | h
       ·exact direct h (fun _=>qu)
       ·exact mirror h (fun _=>qv)
      ·rw[zb qu,za qv] at direct pY;exact direct (Qdx pY (by simp)).symm (fun h=>absurd h qv)
     ·by_cases qv:Qg b v=2
      ·rw[za qu,zb qv] at mirror pY;exact mirror (by rw[zk];exact (Qdx pY (by simp)).symm) (fun h=>absurd h qu)
      ·rw[za qu,za qv] at direct pY;exact direct (Qdx pY (by simp)).symm (fun h=>absurd h qv)
    ·rw[za ho] at eT;unfold QY at od;rw[za ho] at od;rcases od with e | e
     ·rw[<-e,eKp] at tf eT;obtain⟨T,hT,h⟩:=QgN tf (fun T h=>wT T (by rw[eT];exact h)) m0 mM m2 nu nv c0 hu cm hv c2 ku kv;exact⟨T,by rw[eT];exact hT,by rw[el];exact h⟩
     ·have eK:K=Z2.reverse++v::(M.reverse++u::Z0.reverse):=by rw[<-eKr,e,zG]
      rw[eK] at tf eT;obtain⟨T,hT,h⟩:=QgN tf (fun T h=>wT T (by rw[eT];exact h)) (fun w hw=>m2 w (zp.mp hw)) (fun w hw=>mM w (zp.mp hw)) (fun w hw=>m0 w (zp.mp hw)) nv nu r2 hvr rm hur r0 kv (fun q=>by rw[zG];exact ku q);rw[<-elr] at h;exact back T (by rw[eT];exact hT) h,fun h=>absurd h id⟩)
 (fun t f w iht ihf nd=>⟨fun h=>absurd h id,fun _ u hu au=>by
  have nd0:(Qf t++Qf f).Nodup:=nd;obtain⟨nd1,nd2,-⟩:=zl.mp nd0;rcases zt.mp hu with e | e
  ·rw[e] at au ⊢;exact (iht nd1).1 w.1 au
  ·exact (ihf nd2).2 w.2.1 u e au⟩)
 (fun _=>⟨fun h=>absurd h id,fun _ u hu=>absurd hu (by simp[Qc])⟩)
theorem QgV{b:Nat->Bool}(h32:∀c,b c=true->c<32):∀t,Qv t->(Qf t).Nodup->Qam b t->(Qp t->Qs b t=true->∀l,Qo t l->QV b l)/\(QM t->(Qc t).any (Qs b)=true->∃u∈Qc t,Qs b u=true/\∀l,Qo u l->QV b l):=Qan
 (fun c _ _ _=>⟨fun _ _ l hl=>by
  have e:=(List.cons.inj hl).1;rw[e];cases eb:b c
  ·exact⟨[c],[],[],rfl,fun d hd=>by rw[zi] at hd;rw[hd];exact eb,fun d hd=>absurd hd (by simp),fun d hd=>absurd hd (by simp)⟩
  ·exact⟨[],[c],[],rfl,fun d hd=>absurd hd (by simp),fun d hd=>by rw[zi] at hd;rw[hd];exact eb,fun d hd=>absurd hd (by simp)⟩,fun h=>absurd h id⟩)
 (fun o x f w ih nd h=>⟨fun _ al l hl=>by
  obtain⟨Kp,od,c⟩:=(Qat w).mp hl;have pK:=Qc5 od;have w':=w;obtain⟨wo,w2,wF,wf⟩:=w;have kf:=Qbh Qf (fun _ _=>rfl) rfl f wf wF;have hK:∀u∈Kp,Qp u/\Qv u:=fun u hu=>Qbe wf u (pK.mem_iff.mp hu);rcases h with⟨q,h⟩ | ⟨q,h⟩
  ·obtain⟨u,hu,au,hcs⟩:=(ih nd h).2 wF q;obtain⟨A,B,eK⟩:=List.append_of_mem (pK.mem_iff.mpr hu);have ndK:(Kp.flatMap Qf).Nodup:=(pK.flatMap_right Qf).nodup_iff.mpr (by rw[kf];exact nd);rw[eK,zn,zg] at ndK;rw[eK] at c;obtain⟨la,r,e1,cA,a,lb,e2,ha,cB⟩:=QW.mp c;obtain⟨c1,c2,c3,e,m1,m2,m3⟩:=hcs a ha;obtain⟨nA,nuB,dAB⟩:=zl.mp ndK;obtain⟨-,nB,dB⟩:=zl.mp nuB;have no:∀c,(c∈Qf u->False)->b c=false:=fun c hc=>by
    cases eb:b c
    ·rfl
    ·exact absurd (Qab.mp au c (h32 c eb) eb) hc
   have noA:∀c∈la,b c=false:=fun c hc=>no c fun hcu=>dAB c ((Qc8 (fun v hv=>hK v (by rw[eK];simp[hv])) cA).mem_iff.mp hc) c (zc.mpr (Or.inl hcu)) rfl;have noB:∀c∈lb,b c=false:=fun c hc=>no c fun hcu=>dB c hcu c ((Qc8 (fun v hv=>hK v (by rw[eK];simp[hv])) cB).mem_iff.mp hc) rfl;refine⟨la++c1,c2,c3++lb,by rw[e1,e2,e];simp only[zq],fun c hc=>?_,m2,fun c hc=>?_⟩
   ·rcases zc.mp hc with q | q
    ·exact noA c q
    ·exact m1 c q
   ·rcases zc.mp hc with q | q
    ·exact m3 c q
    ·exact noB c q
  ·rcases h with h | ⟨ho,h⟩
   ·refine⟨[],l,[],by simp,fun c hc=>absurd hc (by simp),fun c hc=>?_,fun c hc=>absurd hc (by simp)⟩;have:=((QbM _ w').1 trivial l hl).mem_iff.mp hc;rw[kf] at h;exact zw.mp h c this
   ·have fin:∀Z0 Z1 Z2:List Qd,Kp=Z0++Z1++Z2->(∀u∈Z0,Qg b u=0)->(∀u∈Z1,Qg b u=1)->(∀u∈Z2,Qg b u=0)->QV b l:=fun Z0 Z1 Z2 e m0 m1 m2=>by
     rw[e] at c;obtain⟨l01,l2,e1,c01,c2⟩:=QW.mp c;obtain⟨l0,l1,e2,c0,c1⟩:=QW.mp c01;have go:∀(Z:List Qd) (a:List Nat),(∀u∈Z,u∈Kp)->Qw Qo Z a->((∀u∈Z,Qg b u=0)->∀c∈a,b c=false)/\((∀u∈Z,Qg b u=1)->∀c∈a,b c=true):=fun Z a hZ ca=>by
      have p:=Qc8 (fun u hu=>hK u (hZ u hu)) ca;refine⟨fun m c hc=>?_,fun m c hc=>?_⟩
      ·obtain⟨u,hu,hcu⟩:=zx.mp (p.mem_iff.mp hc);have:=zw.mp (Qbj (m u hu)) c hcu;rw[zaz] at this;exact this
      ·obtain⟨u,hu,hcu⟩:=zx.mp (p.mem_iff.mp hc);exact zw.mp (Qbp (m u hu)) c hcu
     exact⟨l0,l1,l2,by rw[e1,e2],(go Z0 l0 (fun u hu=>by rw[e];simp[hu]) c0).1 m0,(go Z1 l1 (fun u hu=>by rw[e];simp[hu]) c1).2 m1,(go Z2 l2 (fun u hu=>by rw[e];simp[hu]) c2).1 m2⟩
    obtain⟨Z0,Z1,Z2,e,m0,m1,m2⟩:=h;unfold QY at od;rw[za (by rw[ho];decide)] at od;rcases od with eq | eq
    ·exact fin Z0 Z1 Z2 (by rw[eq];exact e) m0 m1 m2
    ·exact fin Z2.reverse Z1.reverse Z0.reverse (by rw[eq,e,zP,zP,zq]) (fun u hu=>m2 u (zp.mp hu)) (fun u hu=>m1 u (zp.mp hu)) (fun u hu=>m0 u (zp.mp hu)),fun h=>absurd h id⟩)
 (fun t f w iht ihf nd h=>⟨fun h=>absurd h id,fun _ an=>by
  have nd0:(Qf t++Qf f).Nodup:=nd;obtain⟨nd1,nd2,-⟩:=zl.mp nd0;rcases h with⟨q,h⟩ | ⟨q,h⟩
  ·exact⟨t,by simp[Qc],q,(iht nd1 h).1 w.1 q⟩
  ·have an':(Qc f).any (Qs b)=true:=by
    have:(Qs b t||(Qc f).any (Qs b))=true:=an;rw[q,zaa] at this;exact this
   obtain⟨u,hu,h1,h2⟩:=(ihf nd2 h).2 w.2.1 an';exact⟨u,by simp[Qc,hu],h1,h2⟩⟩)
 (fun nd h=>⟨fun h=>absurd h id,fun _ an=>absurd an (by simp[Qc])⟩)
theorem QgK{n:Nat}{t:Qd}{s:Int32}(w:Qu t)(ht:Qp t)(nd:(Qf t).Nodup)(hin:∀c,Qj s c=true->c∈Qf t)(tv:Qbb n s=false):(Qaf s (Qe t)=none->∀l,Qo t l->¬QV (Qj s) l)/\∀T,Qaf s (Qe t)=some T->∀l,Qo T l↔Qo t l/\QV (Qj s) l:=by
 have h32:∀c,Qj s c=true->c<32:=fun c hc=>Qcd s hc;have wz:=QbC t w;obtain⟨s1,s2,s3,-,s5⟩:=Qbc t wz;have hsT:=s3 ht;have hc:∃c,Qj s c=true:=Classical.byContradiction fun hn=>by
  have e:(List.range 8).filter (Qj s)=[]:=zaV.mpr fun c _ hcc=>hn ⟨c,hcc⟩;unfold Qbb at tv;rw[e] at tv;exact absurd tv (by simp)
 have al:Qs (Qj s) (Qe t)=true:=Qab.mpr fun c _ hb=>by rw[s1];exact hin c hb
 have nds:(Qf (Qe t)).Nodup:=by rw[s1];exact nd
 have RF:=(QiR h32 hc _ s2 nds).1 hsT al;constructor
 ·intro h l hl cs;obtain⟨T,hT,-⟩:=RF.2 l ((Qbk wz).mpr hl) cs;unfold Qaf at h;rw[hT] at h;exact absurd h (by simp)
 ·intro T hT l;unfold Qaf at hT;cases h0:QL (Qj s) (Qe t) with
  |none=>rw[h0] at hT;exact absurd hT (by simp)
  |some T0=>
   rw[h0] at hT;have e:T=QH T0:=(Option.some.inj hT).symm;obtain⟨r1,r2,r3,-,-,r6,-⟩:=Qdn h32 hc _ s2 nds ⟨fun _=>al,fun h=>absurd hsT (QaP h)⟩ T0 h0;have fz:Qo T l↔Qo T0 l:=by rw[e];exact QfP T0 r1 [l]
   have aT:Qs (Qj s) T0=true:=by rw[Qe8 r2];exact al
   rw[fz];constructor
   ·intro hl;exact⟨(Qbk wz).mp (RF.1 T0 l h0 hl),(QgV h32 T0 r1 (r2.nodup_iff.mpr nds) r3).1 (r6 hsT) aT l hl⟩
   ·rintro ⟨hl,cs⟩
    obtain⟨T1,hT1,h1⟩:=RF.2 l ((Qbk wz).mpr hl) cs;rw[h0] at hT1;rw[Option.some.inj hT1];exact h1
def Qbv{α:Type}(a:α):List α->List (List α)
 |[]=>[[a]]
 |c::l=>(a::c::l)::(Qbv a l).map (c :: ·)
def Qa6{α:Type}:List α->List (List α)
 |[]=>[[]]
 |a::l=>(Qa6 l).flatMap (Qbv a)
theorem QcL{α:Type}{a:α}:∀ {l x:List α},x∈Qbv a l↔∃l1 l2,l=l1++l2/\x=l1++a::l2
 |[],x=>by
  show x∈[[a]]↔_;rw[zi];exact⟨fun e=>⟨[],[],rfl,e⟩,fun⟨l1,l2,e,ex⟩=>by
   obtain⟨e1,e2⟩:=zag.mp e.symm;rw[ex,e1,e2];rfl⟩
 |c::l,x=>by
  show x∈(a::c::l)::(Qbv a l).map (c :: ·)↔_;rw[zt,zD];constructor
  ·rintro (e | ⟨y,hy,e⟩)
   ·exact⟨[],c::l,rfl,e⟩
   ·obtain⟨l1,l2,e1,e2⟩:=QcL.mp hy;exact⟨c::l1,l2,by rw[e1];rfl,by rw[<-e,e2];rfl⟩
  ·rintro ⟨l1,l2,e1,e2⟩
   cases l1 with
   |nil=>exact Or.inl (by rw[e2];simp only[zJ] at e1 ⊢;rw[<-e1])
   |cons d l1=>
    have:=List.cons.inj e1;exact Or.inr ⟨l1++a::l2,QcL.mpr ⟨l1,l2,this.2,rfl⟩,by rw[e2,this.1];rfl⟩
theorem Qbx{α:Type}:∀ {l x:List α},x∈Qa6 l↔x.Perm l
 |[],x=>by show x∈[[]]↔_;rw[zi];exact⟨fun e=>by rw[e],fun p=>p.eq_nil⟩
 |a::l,x=>by
  show x∈(Qa6 l).flatMap (Qbv a)↔_;rw[zx];constructor
  ·rintro ⟨y,hy,hx⟩
   obtain⟨l1,l2,e1,e2⟩:=QcL.mp hx;rw[e2];refine zaJ.trans (List.Perm.cons a ?_);rw[<-e1];exact Qbx.mp hy
  ·intro p;obtain⟨l1,l2,e⟩:=List.append_of_mem (p.mem_iff.mpr (show a∈a::l by simp));rw[e] at p;have p2:(l1++l2).Perm l:=(zaJ.symm.trans p).cons_inv;exact⟨l1++l2,Qbx.mpr p2,QcL.mpr ⟨l1,l2,rfl,e⟩⟩
theorem Qf8{α:Type}(a:α):∀l:List α,(Qbv a l).length=l.length+1
 |[]=>rfl
 |c::l=>by show ((Qbv a l).map (c :: ·)).length+1=_;rw[zh,Qf8 a l];rfl
theorem QdH{α β:Type}{f:α->List β}{k:Nat}:∀ {l:List α},(∀x∈l,(f x).length=k)->(l.flatMap f).length=l.length*k
 |[],_=>by simp
 |x::l,h=>by rw[zg,zd,h x (by simp),QdH fun y hy=>h y (by simp[hy]),zs,Nat.succ_mul];omega
theorem QfS{α:Type}:∀l:List α,(Qa6 l).length=Qm l.length
 |[]=>rfl
 |a::l=>by
  show ((Qa6 l).flatMap (Qbv a)).length=_;rw[QdH (k:=l.length+1) (fun y hy=>by rw[Qf8,(Qbx.mp hy).length_eq]),QfS l,zs];show _=(l.length+1)*Qm l.length;rw[zQ]
theorem Qgk{α:Type}{a:α}:∀ {l1 l2 m1 m2:List α},a∉l1->a∉m1->l1++a::l2=m1++a::m2->l1=m1/\l2=m2
 |[],l2,[],m2,_,_,e=>⟨rfl,(List.cons.inj e).2⟩
 |[],l2,c::m1,m2,_,h,e=>absurd (by have:=(List.cons.inj e).1;rw[this];simp) h
 |c::l1,l2,[],m2,h,_,e=>absurd (by have:=(List.cons.inj e).1;rw[<-this];simp) h
 |c::l1,l2,d::m1,m2,h,h',e=>by
  have e':=List.cons.inj e;obtain⟨i1,i2⟩:=Qgk (fun q=>h (by simp[q])) (fun q=>h' (by simp[q])) e'.2;exact⟨by rw[e'.1,i1],i2⟩
theorem Qf4{α:Type}:∀ {l:List α},l.Nodup->(Qa6 l).Nodup
  |[],_=>by simp[Qa6]
  |a::l,nd=>by
    obtain⟨na,nl⟩:=List.nodup_cons.mp nd;show ((Qa6 l).flatMap (Qbv a)).Pairwise (· ≠ ·);rw[List.pairwise_flatMap];have noa:∀y∈Qa6 l,a∉y:=fun y hy q=>na ((Qbx.mp hy).mem_iff.mp q);refine⟨fun y hy=>?_,?_⟩
    · have go:∀y:List α,a∉y->(Qbv a y).Pairwise (· ≠ ·):=fun y=>by
        induction y with
        |nil=>intro _;exact List.pairwise_singleton _ _
        |cons c y ih=>
          intro h;show ((a::c::y)::(Qbv a y).map (c :: ·)).Pairwise (· ≠ ·);refine zay.mpr ⟨fun x hx e=>?_,?_⟩
          · obtain⟨z,-,ez⟩:=zD.mp hx
            rw[<-ez] at e;exact h (by rw[(List.cons.inj e).1];simp)
          · rw[List.pairwise_map]
            exact (ih fun q=>h (by simp[q])).imp fun hne e=>hne (List.cons.inj e).2
      exact go y (noa y hy)
    · refine zaK (fun {y z} hy hz hne x hx x' hx' e=>?_) (Qf4 nl)
      obtain⟨l1,l2,e1,e2⟩:=QcL.mp hx;obtain⟨m1,m2,e3,e4⟩:=QcL.mp hx';have ny:=noa y hy;have nz:=noa z hz;rw[e1] at ny;rw[e3] at nz;rw[e,e4] at e2;obtain⟨i1,i2⟩:=Qgk (fun q=>nz (by simp[q])) (fun q=>ny (by simp[q])) e2;exact hne (by rw[e1,e3,i1,i2])
def Qdc(P:List Nat->Prop)(k:Nat):Prop:=∃L:List (List Nat),L.Nodup/\L.length=k/\∀l,l∈L↔P l
theorem QfK:∀ {A:List Qd},(∀u∈A,Qp u/\Qv u/\Qdc (Qo u) (Qt u))->Qdc (Qw Qo A) (Qr A)
 |[],_=>⟨[[]],by simp,rfl,fun l=>by rw[zi];exact Iff.rfl⟩
 |u::A,h=>by
  obtain⟨hT,hz,L,n1,l1,m1⟩:=h u (by simp);obtain⟨R,n2,l2,m2⟩:=QfK (A:=A) fun v hv=>h v (by simp[hv]);refine⟨L.flatMap fun a=>R.map (a ++ ·),?_,?_,fun l=>?_⟩
  ·show List.Pairwise (· ≠ ·) _;rw[List.pairwise_flatMap];refine⟨fun a _=>?_,zaK (fun {a a'} ha ha' hne x hx x' hx' e=>?_) n1⟩
   ·rw[List.pairwise_map];exact List.Pairwise.imp (fun hne e=>hne (List.append_cancel_left e)) n2
   ·obtain⟨r,-,er⟩:=zD.mp hx;obtain⟨r',-,er'⟩:=zD.mp hx';have la:=((QbM u hz).1 hT a ((m1 a).mp ha)).length_eq;have la':=((QbM u hz).1 hT a' ((m1 a').mp ha')).length_eq;rw[<-er,<-er'] at e;exact hne (List.append_inj_left e (by omega))
  ·rw[QdH (k:=R.length) (fun a _=>by rw[zh]),l1,l2];rfl
  ·rw[zx];constructor
   ·rintro ⟨a,ha,hx⟩
    obtain⟨r,hr,e⟩:=zD.mp hx;exact⟨a,r,e.symm,(m1 a).mp ha,(m2 r).mp hr⟩
   ·rintro ⟨a,r,e,ha,hr⟩
    exact⟨a,(m1 a).mpr ha,zD.mpr ⟨r,(m2 r).mpr hr,e.symm⟩⟩
theorem QfN:∀ {K:List Qd},(K.flatMap Qf).Nodup->∀u∈K,∀v∈K,∀c,c∈Qf u->c∈Qf v->u=v
 |[],_,u,hu,_,_,_,_,_=>absurd hu (by simp)
 |w::K,nd,u,hu,v,hv,c,h1,h2=>by
  rw[zg] at nd;obtain⟨n1,n2,d⟩:=zl.mp nd;rcases zt.mp hu with e | e<;>rcases zt.mp hv with e' | e'
  ·rw[e,e']
  ·rw[e] at h1;exact absurd rfl (d c h1 c (zx.mpr ⟨v,e',h2⟩))
  ·rw[e'] at h2;exact absurd rfl (d c h2 c (zx.mpr ⟨u,e,h1⟩))
  ·exact QfN n2 u e v e' c h1 h2
theorem Qfn{K:List Qd}(nd:(K.flatMap Qf).Nodup)(hK:∀u∈K,Qp u/\Qv u):∀ {A B:List Qd} {l:List Nat},(∀u∈A,u∈K)->(∀u∈B,u∈K)->Qw Qo A l->Qw Qo B l->A=B
 |[],[],_,_,_,_,_=>rfl
 |[],v::B,l,_,hB,h,⟨a,r,e,h1,_⟩=>by
  have h':l=[]:=h;rw[h'] at e;have ea:=(zag.mp e.symm).1;have hv:=hK v (hB v (by simp));rw[ea] at h1;exact absurd ((QbM v hv.2).1 hv.1 _ h1).symm.eq_nil (Qbf v hv.2 hv.1)
 |u::A,[],l,hA,_,⟨a,r,e,h1,_⟩,h=>by
  have h':l=[]:=h;rw[h'] at e;have ea:=(zag.mp e.symm).1;have hu:=hK u (hA u (by simp));rw[ea] at h1;exact absurd ((QbM u hu.2).1 hu.1 _ h1).symm.eq_nil (Qbf u hu.2 hu.1)
 |u::A,v::B,l,hA,hB,⟨a,r,e,h1,h2⟩,⟨a',r',e',h1',h2'⟩=>by
  have hu:=hK u (hA u (by simp));have hv:=hK v (hB v (by simp));have pu:=(QbM u hu.2).1 hu.1 a h1;have pv:=(QbM v hv.2).1 hv.1 a' h1';have na:a≠[]:=fun q=>Qbf u hu.2 hu.1 (by rw[q] at pu;exact pu.symm.eq_nil);have na':a'≠[]:=fun q=>Qbf v hv.2 hv.1 (by rw[q] at pv;exact pv.symm.eq_nil);have ee:a++r=a'++r':=e.symm.trans e';have uv:u=v:=by
   cases a with
   |nil=>exact absurd rfl na
   |cons c a=>
    cases a' with
    |nil=>exact absurd rfl na'
    |cons d a'=>
     have ec:=(List.cons.inj ee).1;exact QfN nd u (hA u (by simp)) v (hB v (by simp)) c (pu.mem_iff.mp (by simp)) (pv.mem_iff.mp (by rw[ec];simp))
  subst uv;have ea:=List.append_inj ee (by rw[pu.length_eq,pv.length_eq]);rw[<-ea.2] at h2';rw[Qfn nd hK (fun w hw=>hA w (by simp[hw])) (fun w hw=>hB w (by simp[hw])) h2 h2']
theorem Qhv{A B:List Qd}(p:A.Perm B):Qr A=Qr B:=by
 induction p with
 |nil=>rfl
 |cons x _ ih=>show Qt x*_=Qt x*_;rw[ih]
 |swap x y l=>show Qt y*(Qt x*Qr l)=Qt x*(Qt y*Qr l);rw[zU]
 |trans _ _ ih1 ih2=>rw[ih1,ih2]
theorem Qiv:∀t,Qv t->(Qf t).Nodup->(Qp t->Qdc (Qo t) (Qt t))/\(QM t->∀u∈Qc t,Qdc (Qo u) (Qt u)):=Qan
 (fun c _ _=>⟨fun _=>⟨[[c]],by simp,rfl,fun l=>by
  rw[zi];exact⟨fun e=>by rw[e];exact rfl,fun h=>(List.cons.inj h).1⟩⟩,fun h=>absurd h id⟩)
 (fun o x f w ih nd=>⟨fun _=>by
  have w':=w;obtain⟨wo,w2,wF,wf⟩:=w;have kf:=Qbh Qf (fun _ _=>rfl) rfl f wf wF;have ndf:(Qf f).Nodup:=nd;have hN:=(ih ndf).2 wF;have kz:=Qbe wf;have ndK:((Qc f).flatMap Qf).Nodup:=by rw[kf];exact ndf
  have cN':Qt (.op2 o (.arg x) f)=Qr (Qc f)*(if o = .iand then Qm (Qc f).length else 2):=by show Qt f*_=_;rw[Qev f wf wF]
  have ftN:=fun l=>Qat w' (l:=l);generalize Qc f=K at *;have nK:K.Nodup:=by
   have go:∀K:List Qd,(∀u∈K,Qp u/\Qv u)->(K.flatMap Qf).Nodup->K.Nodup:=fun K=>by
    induction K with
    |nil=>intro _ _;exact zaF
    |cons u K ih2=>
     intro hz n;rw[zg] at n;obtain⟨n1,n2,d⟩:=zl.mp n;refine List.nodup_cons.mpr ⟨fun hu=>?_,ih2 (fun v hv=>hz v (by simp[hv])) n2⟩;obtain⟨c,hc⟩:=zan _ (Qbf u (hz u (by simp)).2 (hz u (by simp)).1);exact d c hc c (zx.mpr ⟨u,hu,hc⟩) rfl
   exact go K kz ndK
  have NC:∀Kp:List Qd,Kp.Perm K->Qdc (Qw Qo Kp) (Qr K):=fun Kp p=>by
   rw[<-Qhv p];exact QfK fun u hu=>⟨(kz u (p.mem_iff.mp hu)).1,(kz u (p.mem_iff.mp hu)).2,hN u (p.mem_iff.mp hu)⟩
  rw[cN'];by_cases ho:o = .iand
  ·rw[zb ho];have ch:∀Kp:List Qd,∃L:List (List Nat),Kp∈Qa6 K->L.Nodup/\L.length=Qr K/\∀l,l∈L↔Qw Qo Kp l:=fun Kp=>by
    by_cases q:Kp∈Qa6 K
    ·obtain⟨L,h⟩:=NC Kp (Qbx.mp q);exact⟨L,fun _=>h⟩
    ·exact⟨[],fun h=>absurd h q⟩
   obtain⟨g,hg⟩:∃g:List Qd->List (List Nat),∀Kp,Kp∈Qa6 K->(g Kp).Nodup/\(g Kp).length=Qr K/\∀l,l∈g Kp↔Qw Qo Kp l:=⟨fun Kp=>Classical.choose (ch Kp),fun Kp=>Classical.choose_spec (ch Kp)⟩;refine⟨(Qa6 K).flatMap g,?_,?_,fun l=>?_⟩
   ·show List.Pairwise (· ≠ ·) _;rw[List.pairwise_flatMap];refine⟨fun Kp h=>(hg Kp h).1,zaK (fun {A B} hA hB hne y hy y' hy' e=>?_) (Qf4 nK)⟩;have c1:=((hg A hA).2.2 y).mp hy;have c2:=((hg B hB).2.2 y').mp hy';rw[<-e] at c2;exact hne (Qfn ndK kz (fun u hu=>(Qbx.mp hA).mem_iff.mp hu) (fun u hu=>(Qbx.mp hB).mem_iff.mp hu) c1 c2)
   ·rw[QdH (k:=Qr K) (fun Kp h=>(hg Kp h).2.1),QfS,zQ]
   ·rw[zx,ftN];constructor
    ·rintro ⟨Kp,h1,h2⟩
     exact⟨Kp,by unfold QY;rw[zb ho];exact Qbx.mp h1,((hg Kp h1).2.2 l).mp h2⟩
    ·rintro ⟨Kp,h1,h2⟩
     unfold QY at h1;rw[zb ho] at h1;have h1':=Qbx.mpr h1;exact⟨Kp,h1',((hg Kp h1').2.2 l).mpr h2⟩
  ·rw[za ho];obtain⟨L,n1,l1,m1⟩:=NC K (List.Perm.refl _);obtain⟨R,n2,l2,m2⟩:=NC K.reverse (zy _);refine⟨L++R,zl.mpr ⟨n1,n2,fun y hy y' hy' e=>?_⟩,by rw[zd,l1,l2];omega,fun l=>?_⟩
   ·have c1:=(m1 y).mp hy;have c2:=(m2 y').mp hy';rw[<-e] at c2;have eq:=Qfn ndK kz (fun u hu=>hu) (fun u hu=>zp.mp hu) c1 c2
    match K,w2,nK,eq with
    |u::v::A,_,nK,eq=>
     have hd:(u::v::A).reverse.head? = some u:=by rw[<-eq];rfl
     rw[List.head?_reverse] at hd;have hm:u∈v::A:=List.mem_of_getLast? (by rw[List.getLast?_cons_cons] at hd;exact hd);exact (List.nodup_cons.mp nK).1 hm
    |[_],h,_,_=>exact absurd h (by simp)
    |[],h,_,_=>exact absurd h (by simp)
   ·rw[zc,m1,m2,ftN];constructor
    ·rintro (h | h)
     ·exact⟨K,by unfold QY;rw[za ho];exact Or.inl rfl,h⟩
     ·exact⟨K.reverse,by unfold QY;rw[za ho];exact Or.inr rfl,h⟩
    ·rintro ⟨Kp,h1,h2⟩
     unfold QY at h1;rw[za ho] at h1;rcases h1 with e | e
     ·rw[e] at h2;exact Or.inl h2
     ·rw[e] at h2;exact Or.inr h2,fun h=>absurd h id⟩)
 (fun t f w iht ihf nd=>⟨fun h=>absurd h id,fun _ u hu=>by
  have nd0:(Qf t++Qf f).Nodup:=nd;obtain⟨nd1,nd2,-⟩:=zl.mp nd0;rcases zt.mp hu with e | e
  ·rw[e];exact (iht nd1).1 w.1
  ·exact (ihf nd2).2 w.2.1 u e⟩)
 (fun _=>⟨fun h=>absurd h id,fun _ u hu=>absurd hu (by simp[Qc])⟩)
theorem Q4{x y:Option (Jvm.OM.Res (W2 MS))}(h:x=y)(g:∃W,y=some (some (I 1),W)):∃W,x=some (some (I 1),W):=by rw[h];exact g
def QF(x:Int64)(k:Nat):Bool:=x.toBitVec.getLsbD k
theorem Qil:∀k:Fin 64,((O k.val).toInt64&&&63)=Int64.ofNat k.val:=by decide
theorem QiS:∀k:Fin 64,((O k.val).toInt64.toUInt64&&&Int64.toUInt64 63)=UInt64.ofNat k.val:=by decide
theorem Qh0:∀k:Fin 64,((BitVec.ofNat 64 k.val).smod 64).toNat=k.val:=by decide
theorem QhB:∀k:Fin 64,((UInt64.ofNat k.val).toBitVec%64).toNat=k.val:=by decide
theorem Qgf{x y:Int64}(h:∀i,QF x i=QF y i):x=y:=by
 rw[<-Int64.toBitVec_inj];apply zaM;exact fun i _=>h i
theorem Qfp{x:Int64}{k i:Nat}(hk:k<64):QF (x<<<((O k).toInt64&&&63)) i=(decide (i<64) && !decide (i<k)&&QF x (i-k)):=by
 rw[Qil ⟨k,hk⟩];unfold QF;rw[Int64.toBitVec_shiftLeft,BitVec.shiftLeft_eq',show (Int64.ofNat k).toBitVec=BitVec.ofNat 64 k from rfl,Qh0 ⟨k,hk⟩,BitVec.getLsbD_shiftLeft]
theorem Qfk(i:Nat):QF 1 i=decide (i=0):=by
 show (1#64).getLsbD i=_;rw[BitVec.getLsbD_one];simp
theorem Qdo{x:Int64}{k i:Nat}(hk:k<64):QF (x|||(1<<<((O k).toInt64&&&63))) i=(QF x i||decide (i=k)):=by
 have h:=Qfp (x:=1) (i:=i) hk;have:QF (x|||(1<<<((O k).toInt64&&&63))) i=(QF x i||QF (1<<<((O k).toInt64&&&63)) i):=by
  unfold QF;rw[Int64.toBitVec_or,BitVec.getLsbD_or]
 rw[this,h,Qfk]
 congr 1
 by_cases e:i=k
 ·subst e;simp[hk]
 ·rw[zu e];by_cases q:i<k
  ·simp[q]
  ·have:¬i-k=0:=by omega
   simp[this]
theorem QfO{x:Int64}{k i:Nat}(hk:k<64)(hi:i<64):QF (x&&&((1<<<((O k).toInt64&&&63))^^^(-1))) i=(QF x i && !decide (i=k)):=by
 have h:=Qdo (x:=0) (k:=k) (i:=i) hk;have z:QF (0:Int64) i=false:=by unfold QF;exact zam
 have o:QF ((0:Int64)|||(1<<<((O k).toInt64&&&63))) i=QF (1<<<((O k).toInt64&&&63)) i:=by
  have e:QF ((0:Int64)|||(1<<<((O k).toInt64&&&63))) i=(QF 0 i||QF (1<<<((O k).toInt64&&&63)) i):=by unfold QF;rw[Int64.toBitVec_or,BitVec.getLsbD_or]
  rw[e,z,zaa]
 rw[z,zaa,o] at h;have:QF (x&&&((1<<<((O k).toInt64&&&63))^^^(-1))) i=(QF x i&&(QF (1<<<((O k).toInt64&&&63)) i ^^ (BitVec.allOnes 64).getLsbD i)):=by
  unfold QF;rw[Int64.toBitVec_and,BitVec.getLsbD_and,Int64.toBitVec_xor,BitVec.getLsbD_xor];rfl
 rw[this,h,BitVec.getLsbD_allOnes,zB hi,Bool.xor_true]
theorem QeJ{x:Int64}{k i:Nat}(hk:k<64):QF (XT.ushrL x (O k)) i=QF x (k+i):=by
 unfold XT.ushrL;rw[QiS ⟨k,hk⟩];show ((x.toUInt64>>>UInt64.ofNat k).toBitVec).getLsbD i=_;rw[UInt64.toBitVec_shiftRight,BitVec.ushiftRight_eq',QhB ⟨k,hk⟩,BitVec.getLsbD_ushiftRight];rfl
theorem Qfd(x y:Int64)(i:Nat):QF (x&&&y) i=(QF x i&&QF y i):=by unfold QF;rw[Int64.toBitVec_and,BitVec.getLsbD_and]
theorem QiH(v:Int64):XT.cmpL v 0=0↔v=0:=by
 unfold XT.cmpL;by_cases q:0<v
 ·rw[zb q];exact⟨fun h=>absurd h (by decide),fun h=>by rw[h] at q;exact absurd q (by decide)⟩
 ·rw[za q];by_cases e:v=0
  ·rw[zb e];exact⟨fun _=>e,fun _=>rfl⟩
  ·rw[za e];exact⟨fun h=>absurd h (by decide),fun h=>absurd h e⟩
theorem Qcb{x:Int64}{k:Nat}(hk:k<64):XT.cmpL (XT.ushrL x (O k)&&&1) 0=0↔QF x k=false:=by
 rw[QiH];constructor
 ·intro h;have:=congrArg (fun v=>QF v 0) h;simp only[Qfd,QeJ hk,Qfk] at this;rw[zaY] at this;have z:QF (0:Int64) 0=false:=rfl;rw[z] at this
  simpa using this
 ·intro h;refine Qgf fun i=>?_;rw[Qfd,QeJ hk,Qfk];have z:QF (0:Int64) i=false:=by unfold QF;exact zam
  rw[z];by_cases e:i=0
  ·subst e;rw[zaY,h,Bool.false_and]
  ·rw[zu e,zau]
def QbH(used:Nat):Nat->Nat->Nat->Nat
 |_,_,0=>0
 |d,c,f+1=>if used.testBit c=false then (if d=0 then c else QbH used (d-1) (c+1) f) else QbH used d (c+1) f
def Qao:Nat->Nat->Nat->List Nat
 |0,_,_=>[]
 |r+1,idx,used=>QbH used (idx/Qm r) 0 8::Qao r (idx%Qm r) (used|||2 ^ QbH used (idx/Qm r) 0 8)
def Qae:List Nat->Nat->Int32->Int32
 |[],_,acc=>acc
 |c::l,i,acc=>Qae l (i+1) (acc|||(O c<<<((3*O i)&&&31)))
def QdJ(code:Int32)(i:Nat):Int32:=(code>>>((3*O i)&&&31))&&&7
def Qb5(n:Nat):List (List Nat):=(List.range (Qm n)).map fun idx=>Qao n idx 0
def Qcy(n:Nat):Bool:=decide (Qb5 n).Nodup&&((Qb5 n).all fun l=>(Qa6 (List.range n)).contains l&&(List.range n).all fun i=>decide (QdJ (Qae l 0 0) i=O (l.getD i 0)))&&((Qa6 (List.range n)).all fun l=>(Qb5 n).contains l)
theorem QjD:Qcy 1=true:=by decide +kernel
theorem Qij:Qcy 2=true:=by decide +kernel
theorem Qjm:Qcy 3=true:=by decide +kernel
theorem QiX:Qcy 4=true:=by decide +kernel
theorem Qhk:Qcy 5=true:=by decide +kernel
theorem Qcg{n:Nat}(h1:1<=n)(h5:n<=5):(Qb5 n).Nodup/\(∀l∈Qb5 n,l.Perm (List.range n)/\∀i,i<n->QdJ (Qae l 0 0) i=O (l.getD i 0))/\∀l,l.Perm (List.range n)->l∈Qb5 n:=by
 have h:Qcy n=true:=by
  rcases (show n=1\/n=2\/n=3\/n=4\/n=5 by omega) with e | e | e | e | e<;>subst e
  ·exact QjD
  ·exact Qij
  ·exact Qjm
  ·exact QiX
  ·exact Qhk
 unfold Qcy at h;rw[zaf,zaf] at h;obtain⟨⟨a,c⟩,d⟩:=h;refine⟨zai a,fun l hl=>?_,fun l hl=>?_⟩
 ·have:=zw.mp c l hl;rw[zaf] at this;exact⟨Qbx.mp (List.contains_iff_mem.mp this.1),fun i hi=>zai (zw.mp this.2 i (zC.mpr hi))⟩
 ·exact List.contains_iff_mem.mp (zw.mp d l (Qbx.mpr hl))
def Qdp:Nat->Nat->Bool
 |0,_=>false
 |f+1,p=>if p%2=0 then Qdp f (p/2) else decide (p&&&(p+1)=0)
def QaM(b:Nat->Bool):Nat->Nat
 |0=>0
 |k+1=>if b k=true then QaM b k|||2 ^ k else QaM b k
def Qb0(b:Nat->Bool)(n:Nat):Bool:=decide (QaM b n=0)||Qdp 6 (QaM b n)
def Qd7(l:List Bool):Bool:=((l.dropWhile (!·)).dropWhile id).all (!·)
theorem QhO{b:Nat->Bool}{l:List Nat}:QV b l↔Qd7 (l.map b)=true:=by
 constructor
 ·rintro ⟨l1,l2,l3,e,h1,h2,h3⟩
  rw[e];clear e;unfold Qd7;rw[zA,zA,zq,List.dropWhile_append_of_pos (by
   intro x hx;obtain⟨c,hc,ec⟩:=zD.mp hx;rw[<-ec,h1 c hc];rfl)]
  have t3:∀m:List Nat,(∀c∈m,b c=false)->((m.map b).dropWhile id).all (!·)=true:=fun m hm=>by
   cases m with
   |nil=>rfl
   |cons c m=>
    rw[zE,List.dropWhile_cons_of_neg (by rw[hm c (by simp)];decide),zw];intro x hx;rcases zt.mp hx with q | q
    ·rw[q,hm c (by simp)];rfl
    ·obtain⟨d,hd,ed⟩:=zD.mp q;rw[<-ed,hm d (by simp[hd])];rfl
  cases l2 with
  |nil=>
   rw[List.map_nil,zJ];have e3:(l3.map b).dropWhile (!·)=[]:=by
    have:=List.dropWhile_append_of_pos (p:=(!·)) (l₁:=l3.map b) (l₂:=[]) (by
     intro x hx;obtain⟨c,hc,ec⟩:=zD.mp hx;rw[<-ec,h3 c hc];rfl)
    rw[zk] at this;exact this
   rw[e3];rfl
  |cons c l2=>
   rw[zE,zak,List.dropWhile_cons_of_neg (by rw[h2 c (by simp)];decide),<-zak,<-zE,List.dropWhile_append_of_pos (by
    intro x hx;obtain⟨d,hd,ed⟩:=zD.mp hx;rw[<-ed,h2 d hd];rfl)]
   exact t3 l3 h3
 ·intro h;unfold Qd7 at h;rw[List.dropWhile_map,List.dropWhile_map,List.all_map] at h;refine⟨l.takeWhile ((!·) ∘ b),(l.dropWhile ((!·) ∘ b)).takeWhile (id ∘ b),(l.dropWhile ((!·) ∘ b)).dropWhile (id ∘ b),?_,fun c hc=>?_,fun c hc=>?_,fun c hc=>?_⟩
  ·rw[zq,List.takeWhile_append_dropWhile,List.takeWhile_append_dropWhile]
  ·have:=zw.mp List.all_takeWhile c hc
   simpa using this
  ·have:=zw.mp List.all_takeWhile c hc
   simpa using this
  ·have:=zw.mp h c hc
   simpa using this
def Qc7:Nat->List (List Bool)
 |0=>[[]]
 |n+1=>(Qc7 n).flatMap fun l=>[true::l,false::l]
theorem Qf2:∀l:List Bool,l∈Qc7 l.length
 |[]=>by simp[Qc7]
 |c::l=>by
  show c::l∈(Qc7 l.length).flatMap fun l=>[true::l,false::l];rw[zx];refine⟨l,Qf2 l,?_⟩;cases c<;>simp
theorem Qjx:∀k:Fin 6,∀l∈Qc7 k.val,Qb0 (fun i=>l.getD i false) l.length=Qd7 l:=by decide +kernel
theorem QfB{b b':Nat->Bool}:∀ {n:Nat},(∀i,i<n->b i=b' i)->QaM b n=QaM b' n
 |0,_=>rfl
 |n+1,h=>by show (if b n=true then QaM b n|||2 ^ n else QaM b n)=_;rw[QfB fun i hi=>h i (by omega),h n (by omega)];rfl
theorem QeP{b:Nat->Bool}{l:List Nat}(h5:l.length<=5):Qb0 (fun i=>b (l.getD i 0)) l.length=true↔QV b l:=by
 rw[QhO];have hm:=Qf2 (l.map b);have h:=Qjx ⟨(l.map b).length,by rw[zh];omega⟩ (l.map b) hm;rw[zh] at h;rw[<-h];have e:QaM (fun i=>b (l.getD i 0)) l.length=QaM (fun i=>(l.map b).getD i false) l.length:=QfB fun i hi=>by
  simp only[zf,List.getElem?_map,List.getElem?_eq_getElem hi];rfl
 unfold Qb0;rw[e]
theorem QeR{b:Nat->Bool}:∀ {n:Nat},n<=5->QaM b n<2 ^ n
 |0,_=>by show 0<1;omega
 |n+1,h=>by
  have ih:=QeR (b:=b) (n:=n) (by omega);show (if b n=true then QaM b n|||2 ^ n else QaM b n)<2 ^ (n+1)
  split
  ·exact Nat.or_lt_two_pow (zax ih (Nat.pow_le_pow_right (by omega) (by omega))) (Nat.pow_lt_pow_right (by omega) (by omega))
  ·exact zax ih (Nat.pow_le_pow_right (by omega) (by omega))
theorem Qfq(x:Int32){m:Nat}(hm:m<2147483648):∃k,k<=m/\x&&&O m=O k:=by
 refine⟨x.toBitVec.toNat&&&m,Nat.and_le_right,?_⟩;rw[<-zaC,Int32.toBitVec_and];apply BitVec.eq_of_toNat_eq;rw[BitVec.toNat_and];have:x.toBitVec.toNat&&&m<=m:=Nat.and_le_right;show x.toBitVec.toNat&&&(BitVec.ofNat 32 m).toNat=(BitVec.ofNat 32 (x.toBitVec.toNat&&&m)).toNat;rw[zaR,zaR,zaI (by omega),zaI (by omega)]
theorem Qe4(s:Int32){c:Nat}(hc:c<32):((s>>>(O c&&&31))&&&1=0)↔Qj s c=false:=by
 obtain⟨k,hk,e⟩:=Qfq (s>>>(O c&&&31)) (m:=1) (by omega);have e':(s>>>(O c&&&31))&&&1=O k:=e;have h:=Qdb s hc;rw[e'] at h ⊢;by_cases q:k=0
 ·subst q;refine⟨fun _=>?_,fun _=>rfl⟩;cases eb:Qj s c
  ·rfl
  ·exact absurd (h.mpr eb) (by decide)
 ·have k1:k=1:=by omega
  subst k1;refine⟨fun q=>absurd q (by decide),fun q=>?_⟩;have:=h.mp rfl;rw[q] at this;exact absurd this (by decide)
theorem Qgb{n:Nat}{s:Int32}{l:List Nat}(hn:n<=8)(hl:∀c∈l,c<n)(nd:l.Nodup)(h:Qbb n s=true):QV (Qj s) l:=by
 unfold Qbb at h;rw[zab] at h;rcases h with h | h
 ·have h1:=zai h;by_cases q:∃c∈l,Qj s c=true
  ·obtain⟨c,hc,hb⟩:=q;obtain⟨A,B,e⟩:=List.append_of_mem hc;have other:∀d∈l,d≠c->Qj s d=false:=fun d hd hne=>by
    cases eb:Qj s d
    ·rfl
    ·exfalso;have sub:[c,d] ⊆ (List.range 8).filter (Qj s):=fun x hx=>by
      have hx':x=c\/x=d:=by simpa using hx
      rcases hx' with e | e
      ·rw[e];exact List.mem_filter.mpr ⟨zC.mpr (by have:=hl c hc;omega),hb⟩
      ·rw[e];exact List.mem_filter.mpr ⟨zC.mpr (by have:=hl d hd;omega),eb⟩
     have:=List.Nodup.length_le_of_subset (l₁:=[c,d]) (by simp[Ne.symm hne]) sub;simp at this;omega
   rw[e] at nd;obtain⟨nA,ncB,dAB⟩:=zl.mp nd;have ncB':=List.nodup_cons.mp ncB;refine⟨A,[c],B,by rw[e];simp,fun d hd=>other d (by rw[e];simp[hd]) (fun q=>dAB d hd c (by simp) q),fun d hd=>by rw[zi] at hd;rw[hd];exact hb,fun d hd=>other d (by rw[e];simp[hd]) (fun q=>ncB'.1 (q▸hd))⟩
  ·exact⟨l,[],[],by simp,fun c hc=>by
    cases eb:Qj s c
    ·rfl
    ·exact absurd ⟨c,hc,eb⟩ q,fun c hc=>absurd hc (by simp),fun c hc=>absurd hc (by simp)⟩
 ·have h1:=zai h;exact⟨[],l,[],by simp,fun c hc=>absurd hc (by simp),fun c hc=>by rw[h1,Qeo hn];exact zB (hl c hc),fun c hc=>absurd hc (by simp)⟩
def QcW(n:Nat)(t:Qd)(k:Nat):Int32:=if k<n then O ((QC t).getD k 0) else -1
def Q1(x y:Int64)(k:Nat):Bool:=if k<64 then QF x k else QF y (k-64)
theorem Qjr:∀a:Fin 120,∀k:Fin 5,O a.val/O (Qm k.val)=O (a.val/Qm k.val)/\O a.val%O (Qm k.val)=O (a.val%Qm k.val)/\O (Qm k.val)≠0:=by decide +kernel
theorem Qh6:∀p:Fin 64,(O p.val&&&1=0↔p.val%2=0)/\O p.val>>>((1:Int32)&&&31)=O (p.val/2)/\(O p.val&&&(O p.val+1)=0↔p.val&&&(p.val+1)=0):=by decide +kernel
theorem QeD(used:Nat):∀f d c,c+f=8->QbH used d c f<8
 |0,d,c,_=>by show 0<8;omega
 |f+1,d,c,h=>by
  show (if used.testBit c=false then (if d=0 then c else QbH used (d-1) (c+1) f) else QbH used d (c+1) f)<8
  split
  ·split
   ·omega
   ·exact QeD used f _ _ (by omega)
  ·exact QeD used f _ _ (by omega)
theorem QeH{a c:Nat}(ha:a<2147483648)(hc:c<2147483648):O a=O c↔a=c:=⟨fun e=>by
 have e':=congrArg Int32.toBitVec e;have e2:=congrArg BitVec.toNat e';have e3:(BitVec.ofNat 32 a).toNat=(BitVec.ofNat 32 c).toNat:=e2;rw[zaR,zaR,zaI (by omega),zaI (by omega)] at e3;exact e3,fun e=>by rw[e]⟩
section Law
variable {f1:FT1}
theorem QgW(hf1:Fx f1){S:MS}{n:Nat}{t:Qd}{x:Int32}(W:Q2 n t S):∃S',f1 (9,0,[V 0,I x],[],S)=some (some (I (Qbm n x (Qe t))),S')/\Q2 n t S'/\Qa5 S S':=by
 rw[Efe hf1,Qfy hf1 W.1.2.2.1];simp only[zz];rw[Efv hf1];unfold Qbm;by_cases q:Qbg n x=true
 ·rw[za (by rw[q];decide),zb q];obtain⟨S1,e,k,h1,h2⟩:=Qgt hf1 W (QdB W.1.1.2.2.2.2 q);rw[e];simp only[zz];rw[Ebx hf1];by_cases qv:QS n x (Qe t)=1
  ·obtain⟨-,rv,rk⟩:=h1 qv;rw[zb qv,Qfi hf1 S1];simp only[zz];rw[Eac hf1];exact⟨QaN S1,rfl,⟨rv,QdF (Qb1 k rk) W.2⟩,Qb1 k rk⟩
  ·rw[za qv,Eac hf1];exact⟨S1,rfl,⟨h2 qv,QdF k W.2⟩,k⟩
 ·have q':Qbg n x=false:=by rw[zV] at q;exact q
  rw[zb (by rw[q'];rfl),za q];exact⟨S,rfl,W,fun _ _ _=>rfl⟩
theorem Qgl(hf1:Fx f1){S:MS}{n:Nat}{t:Qd}(W:Q2 n t S){k:Nat}(hk:k<8):f1 (11,0,[V 0,I (O k)],[],S)=some (some (I (QcW n t k)),S):=by
 have hn:=W.1.1.2.2.2.1;have h8:=W.1.1.2.2.2.2;have lp:=(Qcw W.1.1.1 W.1.1.2.1).length_eq;rw[Ecy hf1,za (Qap (by omega)),W.1.2.2.1];unfold QcW;by_cases q:k<n
 ·rw[zb ((Qq (by omega) (by omega)).mpr q),zb (Qz (by omega) hk),QA (by omega),zb q,W.2.2.2.1 k (by omega)]
 ·rw[za (by rw[Qq (by omega) (by omega)];exact q),za q]
variable {f2:FT2} {xs:List Int32}
theorem QfQ(hf1:Fx f1)(hf2:Fix2 ms1 ms2 iv1 222 nmax1 (some xs) f1 f2){S:MS}{n:Nat}{t:Qd}(W:Q2 n t S){k:Nat}(hk:k<n):f1 (12,0,[V 0,I (O ((QC t).getD k 0))],[],S)=some (some (I (O k)),S):=by
 have h8:=W.1.1.2.2.2.2;have pr:(QC t).Perm (List.range n):=(Qcw W.1.1.1 W.1.1.2.1).trans W.1.2.1;have len:(QC t).length=n:=by rw[pr.length_eq,zal]
 have v:(QC t).getD k 0<n:=by
  rw[zf,List.getElem?_eq_getElem (by omega)];exact zC.mp (pr.mem_iff.mp (zF _))
 rw[EbT hf1,za (Qap (by omega)),W.1.2.2.1,zb ((Qq (by omega) (by omega)).mpr v),zb (Qz (by omega) (by omega)),QA (by omega),W.2.2.2.2 k (by omega)]
theorem Qf5(hf1:Fx f1)(hf2:Fix2 ms1 ms2 iv1 222 nmax1 (some xs) f1 f2){n:Nat}(h:n<=5)(ob:List MS):f2 (3,0,[I (O n)],[],(false,ob))=some (some (I (O (Qm n))),(false,ob)):=by
 refine Eq.trans (EbV hf2 _ ob) ?_;by_cases z:n=0
 ·subst z;refine Eq.trans (Er hf2 _ _ _ ob) ?_;rw[zb (by decide)];rfl
 have key:=Qaw (fun k=>f2 (3,4,[I (O n),I (O (Qm (k+1))),I (O (k+2))],[],(false,ob))) (n:=n-1) fun k hk=>by
  show f2 _=f2 _;refine Eq.trans (Er hf2 _ _ _ ob) ?_;rw[za (by rw[Qq (by omega) (by omega)];omega),Qx,Qbz,zQ];rfl
 refine Eq.trans key ?_;show f2 _=_;refine Eq.trans (Er hf2 _ _ _ ob) ?_;rw[zb ((Qq (by omega) (by omega)).mpr (by omega)),show n-1+1=n from by omega]
theorem QeZ(hf1:Fx f1)(hf2:Fix2 ms1 ms2 iv1 222 nmax1 (some xs) f1 f2){x y:Int64}{k:Nat}(hk:k<128)(ob:List MS):f2 (4,0,[N x,X,N y,X,I (O k)],[],(false,ob))=some (some (I (QaB (Q1 x y k))),(false,ob)):=by
 refine Eq.trans (EbH hf2 x y _ ob) ?_;unfold Q1;by_cases q:k<64
 ·rw[zb (show O k<64 from (Qq (b:=64) (by omega) (by omega)).mpr q),zb q];cases e:QF x k
  ·rw[zb ((Qcb q).mpr e)];rfl
  ·rw[za (fun h=>by rw[(Qcb q).mp h] at e;exact absurd e (by decide))];rfl
 ·rw[za (show ¬O k<64 from fun h=>q ((Qq (b:=64) (by omega) (by omega)).mp h)),za q,show O k-64=O (k-64) from Qba (b:=64) (by omega)];cases e:QF y (k-64)
  ·rw[zb ((Qcb (by omega)).mpr e)];rfl
  ·rw[za (fun h=>by rw[(Qcb (by omega)).mp h] at e;exact absurd e (by decide))];rfl
theorem Qhn(hf1:Fx f1)(hf2:Fix2 ms1 ms2 iv1 222 nmax1 (some xs) f1 f2){n:Nat}(h5:n<=5)(ob:List MS):∀r i idx used code,i+r=n->used<256->idx<120->f2 (5,7,[I (O idx),I (O n),I (O used),I code,I (O i)],[],(false,ob))=some (some (I (Qae (Qao r idx used) i code)),(false,ob)):=by
 intro r
 induction r with
 |zero=>
  intro i idx used code hi _ _;refine Eq.trans (Eau hf2 _ _ _ _ _ ob) ?_;rw[za (by rw[Qq (by omega) (by omega)];omega)];rfl
 |succ r ih=>
  intro i idx used code hi hu hx;obtain⟨dv,md,nz⟩:=Qjr ⟨idx,hx⟩ ⟨r,by omega⟩;refine Eq.trans (Eau hf2 _ _ _ _ _ ob) ?_;rw[zb ((Qq (by omega) (by omega)).mpr (by omega)),show O n-1=O (n-1) from Qba (b:=1) (by omega),Qba (by omega),show n-1-i=r from by omega,Qf5 hf1 hf2 (by omega) ob];simp only[zz];refine Eq.trans (Edm hf2 _ _ _ _ _ _ nz ob) ?_;rw[dv,md];have d120:idx/Qm r<120:=Nat.lt_of_le_of_lt (Nat.div_le_self _ _) hx;have m120:idx%Qm r<120:=Nat.lt_of_le_of_lt (Nat.mod_le _ _) hx;have inner:∀fu d c,c+fu=8->d<120->∃d' c',f2 (5,41,[I (O (idx%Qm r)),I (O n),I (O used),I code,I (O i),I (O (Qm r)),I (O d),I 0,I (O c)],[],(false,ob))=f2 (5,78,[I (O (idx%Qm r)),I (O n),I (O used),I code,I (O i),I (O (Qm r)),I d',I (O (QbH used d c fu)),I c'],[],(false,ob)):=fun fu=>by
   induction fu with
   |zero=>
    intro d c h _;refine⟨O d,O c,Eq.trans (EaE hf2 _ _ _ _ _ _ _ _ _ ob) ?_⟩;rw[za (show ¬O c<8 from fun q=>absurd ((Qq (b:=8) (by omega) (by omega)).mp q) (by omega))];rfl
   |succ fu ih2=>
    intro d c h hd;have ex:QbH used d c (fu+1)=if used.testBit c=false then (if d=0 then c else QbH used (d-1) (c+1) fu) else QbH used d (c+1) fu:=rfl;rw[ex];have E:=EaE hf2 (O (idx%Qm r)) (O n) (O used) code (O i) (O (Qm r)) (O d) 0 (O c) ob;rw[zb (show O c<8 from (Qq (b:=8) (by omega) (by omega)).mpr (by omega))] at E;have bt:=Qgu used hu c (by omega);by_cases q:used.testBit c=false
    ·rw[zb (bt.mpr q)] at E;rw[zb q];by_cases d0:d=0
     ·subst d0;rw[zb (show O 0=0 from rfl)] at E;rw[zb rfl];exact⟨_,_,E⟩
     ·rw[za (show ¬O d=0 from fun e=>d0 ((QeH (c:=0) (by omega) (by omega)).mp e)),show O d + -1=O (d-1) from by rw[show d=(d-1)+1 from by omega,<-Qx,Nat.add_sub_cancel,Int32.add_assoc,show (1:Int32) + -1=0 from by decide,Int32.add_zero],Qx] at E;rw[za d0,E];exact ih2 (d-1) (c+1) (by omega) (by omega)
    ·rw[za (fun e=>q (bt.mp e)),Qx] at E;rw[za q,E];exact ih2 d (c+1) (by omega) hd
  obtain⟨d',c',e⟩:=inner 8 (idx/Qm r) 0 rfl d120;refine Eq.trans e ?_;have c8:=QeD used 8 (idx/Qm r) 0 rfl;obtain⟨o1,o2⟩:=Qe3 used hu _ c8;refine Eq.trans (EeN hf2 _ _ _ _ _ _ _ _ _ ob) ?_;rw[o1,Qx];exact ih (i+1) _ _ _ (by omega) o2 m120
theorem Qho(hf1:Fx f1)(hf2:Fix2 ms1 ms2 iv1 222 nmax1 (some xs) f1 f2){x0 x1 x2 x4:Int32}(ob:List MS):∀fu p,fu<=6->0<p->p<2 ^ fu->p<64->f2 (6,43,[I x0,I x1,I x2,I (O p),I x4],[],(false,ob))=some (some (I (QaB (Qdp fu p))),(false,ob)):=by
 intro fu
 induction fu with
 |zero=>intro p _ h1 h2;simp at h2;omega
 |succ fu ih=>
  intro p hf h1 h2 h64;obtain⟨a1,a2,a3⟩:=Qh6 ⟨p,h64⟩;refine Eq.trans (EcX hf2 _ _ _ _ _ ob) ?_;have ex:Qdp (fu+1) p=if p%2=0 then Qdp fu (p/2) else decide (p&&&(p+1)=0):=rfl;rw[ex];by_cases q:p%2=0
  ·rw[zb (a1.mpr q),a2,zb q];exact ih (p/2) (by omega) (by omega) (by rw[Nat.pow_succ] at h2;omega) (by omega)
  ·rw[za (fun e=>q (a1.mp e)),za q];by_cases r:p&&&(p+1)=0
   ·rw[zb (a3.mpr r),zB r];rfl
   ·rw[za (fun e=>r (a3.mp e)),zu r];rfl
theorem Qel(hf1:Fx f1)(hf2:Fix2 ms1 ms2 iv1 222 nmax1 (some xs) f1 f2){n:Nat}{code m:Int32}{l:List Nat}(h5:n<=5)(hat:∀i,i<n->QdJ code i=O (l.getD i 0))(h8:∀i,i<n->l.getD i 0<8)(ob:List MS):f2 (6,0,[I code,I m,I (O n)],[],(false,ob))=some (some (I (QaB (Qb0 (fun i=>Qj m (l.getD i 0)) n))),(false,ob)):=by
 refine Eq.trans (EeC hf2 _ _ _ ob) ?_;have key:=Qaw (fun k=>f2 (6,5,[I code,I m,I (O n),I (O (QaM (fun i=>Qj m (l.getD i 0)) k)),I (O k)],[],(false,ob))) (n:=n) fun k hk=>by
  show f2 _=f2 _;refine Eq.trans (Ear hf2 _ _ _ _ _ ob) ?_;rw[zb ((Qq (by omega) (by omega)).mpr hk),show f2 (7,0,[I code,I (O k)],[],(false,ob))=some (some (I (QdJ code k)),(false,ob)) from Eat hf2 _ _ ob,hat k hk];simp only[zz];refine Eq.trans (Eba hf2 _ _ _ _ _ _ _ ob) ?_;have c8:=h8 k hk;have ex:QaM (fun i=>Qj m (l.getD i 0)) (k+1)=if Qj m (l.getD k 0)=true then QaM (fun i=>Qj m (l.getD i 0)) k|||2 ^ k else QaM (fun i=>Qj m (l.getD i 0)) k:=rfl;have b32:=QeR (b:=fun i=>Qj m (l.getD i 0)) (n:=k) (by omega);have p32:2 ^ k<=2 ^ 5:=Nat.pow_le_pow_right (by omega) (by omega);rw[ex,Qx];cases e:Qj m (l.getD k 0)
  ·rw[zb ((Qe4 m (by omega)).mpr e),za (by decide)]
  ·rw[za (fun h=>by rw[(Qe4 m (by omega)).mp h] at e;exact absurd e (by decide)),zb rfl,(Qe3 _ (by omega) k (by omega)).1]
 refine Eq.trans key ?_;show f2 _=_;refine Eq.trans (Ear hf2 _ _ _ _ _ ob) ?_;have b32:=QeR (b:=fun i=>Qj m (l.getD i 0)) (n:=n) (by omega);have p32:2 ^ n<=2 ^ 5:=Nat.pow_le_pow_right (by omega) (by omega);rw[za zv];unfold Qb0;by_cases z:QaM (fun i=>Qj m (l.getD i 0)) n=0
 ·rw[zb ((Qai (by omega)).mpr z),zB z,Bool.true_or];rfl
 ·rw[za (fun e=>z ((Qai (by omega)).mp e)),zu z,zaa];exact Qho hf1 hf2 ob 6 _ (zo _) (by omega) (by omega) (by omega)
end Law
theorem Qjz:∀t,Qv t->(Qp t->Qo t (Qf t))/\(QM t->Qw Qo (Qc t) (Qf t)):=Qan
 (fun c w=>⟨fun _=>rfl,fun h=>absurd h id⟩)
 (fun o x f w ih=>⟨fun _=>(Qat w).mpr ⟨Qc f,by unfold QY;split;exact List.Perm.refl _;exact Or.inl rfl,ih.2 w.2.2.1⟩,fun h=>absurd h id⟩)
 (fun t f w iht ihf=>⟨fun h=>absurd h id,fun _=>⟨Qf t,Qf f,rfl,iht.1 w.1,ihf.2 w.2.1⟩⟩)
 ⟨fun h=>absurd h id,fun _=>rfl⟩
theorem QgY{g:Qd->List Nat}:∀ {K:List Qd},(∀u∈K,Qo u (g u))->Qw Qo K (K.flatMap g)
 |[],_=>rfl
 |u::K,h=>⟨g u,K.flatMap g,by rw[zg],h u (by simp),QgY fun v hv=>h v (by simp[hv])⟩
theorem Qgi:∀t,Qu t->(Qp t->Qo t (QC t))/\(QM t->∀u∈Qc t,Qo u (QC u)):=Q3
 (fun c w=>⟨fun _=>rfl,fun h=>absurd h id⟩)
 (fun o x f w ih=>⟨fun _=>by
  obtain⟨Kp,p,e,h⟩:=QjP w;rw[Qat (QbC _ w)];refine⟨Kp,?_,?_⟩
  ·unfold QY
   split
   ·exact p
   ·exact h (by assumption)
  ·rw[e];exact QgY fun u hu=>ih.2 w.2.2.2.1 u (p.mem_iff.mp hu),fun h=>absurd h id⟩)
 (fun t f w iht ihf=>⟨fun h=>absurd h id,fun _ u hu=>by
  rcases zt.mp hu with e | e
  ·rw[e];exact iht.1 w.1
  ·exact ihf.2 w.2.1 u e⟩)
 ⟨fun h=>absurd h id,fun _ u hu=>absurd hu (by simp[Qc])⟩
theorem QdU:∀ {L l:List Nat},Qw Qo (L.map Jvm.Term.arg) l↔l=L
 |[],l=>Iff.rfl
 |c::L,l=>by
  constructor
  ·rintro ⟨a,r,e,h1,h2⟩
   have h1':[a]=[[c]]:=h1;rw[e,QdU.mp h2,(List.cons.inj h1').1];rfl
  ·intro e;exact⟨[c],L,by rw[e];rfl,rfl,QdU.mpr rfl⟩
theorem QgS{n:Nat}(h1:1<=n)(w:Qu (Qbu n)){l:List Nat}:Qo (Qbu n) l↔l.Perm (List.range n):=by
 have wz:=QbC _ w;unfold Qbu at wz ⊢;by_cases q:n<2
 ·rw[zb q];have e1:n=1:=by omega
  subst e1;show [l]=[[0]]↔_;constructor
  ·intro e;rw[(List.cons.inj e).1];exact List.Perm.refl _
  ·intro p;have:l=[0]:=zas.mp p;rw[this]
 ·rw[za q] at wz ⊢;rw[Qat wz,QT];constructor
  ·rintro ⟨Kp,od,c⟩
   have p:Kp.Perm ((List.range n).map Jvm.Term.arg):=od;obtain⟨Z,pz,ez⟩:=Qck Jvm.Term.arg p.symm (List.range n) rfl;rw[<-ez] at c;rw[QdU.mp c];exact pz
  ·intro p;exact⟨l.map Jvm.Term.arg,p.map _,QdU.mpr rfl⟩
theorem Qdu{n:Nat}(h5:n<=5):Qm n<=120:=by
 have fe:∀k:Fin 6,Qm k.val<=120:=by decide
 exact fe ⟨n,by omega⟩
theorem QdN{n:Nat}{t:Qd}{S:MS}(W:Q2 n t S){l:List Nat}(h:Qo t l):l.Perm (List.range n):=((QbM t (QbC t W.1.1.1)).1 W.1.1.2.1 l h).trans W.1.2.1
def QcX(n:Nat)(t:Qd)(s0 s1:Int64):Prop:=∀idx,idx<Qm n->(Q1 s0 s1 idx=true↔Qo t (Qao n idx 0))
theorem QdP{n idx:Nat}(h:idx<Qm n):Qao n idx 0∈Qb5 n:=zD.mpr ⟨idx,zC.mpr h,rfl⟩
theorem QhR{n:Nat}{t:Qd}{S:MS}(W:Q2 n t S)(h1:1<=n)(h5:n<=5){s0 s1:Int64}(hin:QcX n t s0 s1):((List.range (Qm n)).filter (Q1 s0 s1)).length=Qt t:=by
 obtain⟨nd,-,all⟩:=Qcg h1 h5;have ndl:(Qf t).Nodup:=W.1.2.1.nodup_iff.mpr zat;obtain⟨L,Ln,Ll,Lm⟩:=(Qiv t (QbC t W.1.1.1) ndl).1 W.1.1.2.1;have sub:(((List.range (Qm n)).filter (Q1 s0 s1)).map fun idx=>Qao n idx 0).Nodup:=List.Nodup.sublist (List.Sublist.map _ List.filter_sublist) nd;have p:(((List.range (Qm n)).filter (Q1 s0 s1)).map fun idx=>Qao n idx 0).Perm L:=(List.perm_ext_iff_of_nodup sub Ln).mpr fun l=>by
  rw[Lm l,zD];constructor
  ·rintro ⟨idx,hi,e⟩
   obtain⟨h1,h2⟩:=List.mem_filter.mp hi;rw[<-e];exact (hin idx (zC.mp h1)).mp h2
  ·intro h;obtain⟨idx,hi,e⟩:=zD.mp (all l (QdN W h));have e':Qao n idx 0=l:=e;exact⟨idx,List.mem_filter.mpr ⟨hi,(hin idx (zC.mp hi)).mpr (by rw[e'];exact h)⟩,e⟩
 rw[<-Ll,<-p.length_eq,zh]
theorem Qio{n:Nat}{t:Qd}{S:MS}(W:Q2 n t S)(h1:1<=n)(h5:n<=5){s0 s1:Int64}(hin:QcX n t s0 s1){P:List Nat->Prop}:(∃idx,idx<Qm n/\Q1 s0 s1 idx=true/\P (Qao n idx 0))↔∃l,Qo t l/\P l:=by
 obtain⟨-,-,all⟩:=Qcg h1 h5;constructor
 ·rintro ⟨idx,h1,h2,h3⟩
  exact⟨_,(hin idx h1).mp h2,h3⟩
 ·rintro ⟨l,h1,h2⟩
  obtain⟨idx,hi,e⟩:=zD.mp (all l (QdN W h1));have e':Qao n idx 0=l:=e;exact⟨idx,zC.mp hi,(hin idx (zC.mp hi)).mpr (by rw[e'];exact h1),by rw[e'];exact h2⟩
theorem QiG{n:Nat}{t:Qd}{S:MS}{s:Int32}(W:Q2 n t S)(hs:∀c,Qj s c=true->c<n):QS n s (Qe t)=3↔¬ ∃l,Qo t l/\QV (Qj s) l:=by
 have w:=W.1.1.1;have ht:=W.1.1.2.1;have wz:=QbC t w;have ndl:(Qf t).Nodup:=W.1.2.1.nodup_iff.mpr zat;have inl:∀c,Qj s c=true->c∈Qf t:=fun c hc=>W.1.2.1.mem_iff.mpr (zC.mpr (hs c hc));cases tv:Qbb n s
 ·have vf:QS n s (Qe t)=match Qaf s (Qe t) with | none=>3 | some t'=>if QN t'=QN (Qe t) then 2 else 1:=by unfold QS;exact za (by rw[tv];decide)
  obtain⟨e1,e2⟩:=QgK (n:=n) w ht ndl inl tv;cases hR:Qaf s (Qe t) with
  |none=>
   rw[hR] at vf;exact⟨fun _ ⟨l,h1,h2⟩=>e1 hR l h1 h2,fun _=>vf⟩
  |some T=>
   rw[hR] at vf;have vf':QS n s (Qe t)=if QN T=QN (Qe t) then 2 else 1:=vf;have ne:QS n s (Qe t)≠3:=by rw[vf'];split<;>decide
   refine⟨fun h=>absurd h ne,fun h=>absurd ?_ h⟩;obtain⟨s1,s2,s3,-,s5⟩:=Qbc t wz;have hc:∃c,Qj s c=true:=Classical.byContradiction fun hn=>by
    have e:(List.range 8).filter (Qj s)=[]:=zaV.mpr fun c _ hcc=>hn ⟨c,hcc⟩;unfold Qbb at tv;rw[e] at tv;exact absurd tv (by simp)
   have al:Qs (Qj s) (Qe t)=true:=Qab.mpr fun c _ hb=>by rw[s1];exact inl c hb
   have hR':=hR;unfold Qaf at hR';cases h0:QL (Qj s) (Qe t) with
   |none=>rw[h0] at hR';exact absurd hR' (by simp)
   |some T0=>
    rw[h0] at hR';have e:T=QH T0:=(Option.some.inj hR').symm;obtain⟨r1,-,-,-,-,r6,-⟩:=Qdn (fun c hc=>Qcd s hc) hc _ s2 (by rw[s1];exact ndl) ⟨fun _=>al,fun h=>absurd (s3 ht) (QaP h)⟩ T0 h0;have f0:Qo T (Qf T0):=by rw[e];exact (QfP T0 r1 _).mpr ((Qjz T0 r1).1 (r6 (s3 ht)))
    exact⟨_,(e2 T hR _).mp f0⟩
 ·have vf:QS n s (Qe t)=2:=by unfold QS;rw[zb tv]
  refine⟨fun h=>?_,fun h=>absurd ?_ h⟩
  ·rw[vf] at h;exact absurd h (by decide)
  ·have f:=(Qgi t w).1 ht;have p:=QdN W f;exact⟨_,f,Qgb W.1.1.2.2.2.2 (fun c hc=>zC.mp (p.mem_iff.mp hc)) (p.nodup_iff.mpr zat) tv⟩
theorem Qiq{n:Nat}{t t':Qd}{S S':MS}{s:Int32}(W:Q2 n t S)(W':Q2 n t' S')(sh:Qe t'=QbE n s (Qe t))(hs:∀c,Qj s c=true->c<n):(QS n s (Qe t)=3->Qe t'=Qe t)/\(QS n s (Qe t)≠3->∀l,Qo t' l↔Qo t l/\QV (Qj s) l):=by
 have w:=W.1.1.1;have ht:=W.1.1.2.1;have wz:=QbC t w;have wz':=QbC t' W'.1.1.1;have ndl:(Qf t).Nodup:=W.1.2.1.nodup_iff.mpr zat;have len8:(Qf t).length<=8:=by rw[W.1.2.1.length_eq,zal];exact W.1.1.2.2.2.2
 have inl:∀c,Qj s c=true->c∈Qf t:=fun c hc=>W.1.2.1.mem_iff.mpr (zC.mpr (hs c hc));refine⟨fun h=>?_,fun h l=>?_⟩
 ·rw[sh];unfold QbE;rw[za (by rw[h];decide)]
 ·have same:QS n s (Qe t)=2->(∀l,Qo t l->QV (Qj s) l)->(Qo t' l↔Qo t l/\QV (Qj s) l):=fun e2 hc=>by
   have es:Qe t'=Qe t:=by rw[sh];unfold QbE;rw[za (by rw[e2];decide)]
   rw[<-Qbk wz',es,Qbk wz];exact⟨fun h=>⟨h,hc l h⟩,fun h=>h.1⟩
  cases tv:Qbb n s
  ·obtain⟨k1,k2,-⟩:=QjN (n:=n) w ht ndl len8 inl tv;rcases QcB n s (Qe t) with v | v | v
   ·obtain⟨T,hR,-,-⟩:=k2 v;have eT:Qe t'=T:=by rw[sh];unfold QbE;rw[zb v,hR];rfl
    rw[<-Qbk wz',eT];exact (QgK (n:=n) w ht ndl inl tv).2 T hR l
   ·obtain⟨s1,s2,s3,-,s5⟩:=Qbc t wz;refine same v fun l hl=>?_;have al:Qs (Qj s) (Qe t)=true:=Qab.mpr fun c _ hb=>by rw[s1];exact inl c hb
    exact (QgV (fun c hc=>Qcd s hc) _ s2 (by rw[s1];exact ndl) (k1 v)).1 (s3 ht) al l ((Qbk wz).mpr hl)
   ·exact absurd v h
  ·refine same (by unfold QS;rw[zb tv]) fun l hl=>?_;have p:=QdN W hl;exact Qgb W.1.1.2.2.2.2 (fun c hc=>zC.mp (p.mem_iff.mp hc)) (p.nodup_iff.mpr zat) tv
theorem Qgn:∀ {l:List Nat} {c i:Nat} {acc:Int32},Qae (l++[c]) i acc=Qae l i acc|||(O c<<<((3*O (i+l.length))&&&31))
 |[],c,i,acc=>rfl
 |d::l,c,i,acc=>by
  show Qae (l++[c]) (i+1) _=Qae l (i+1) _|||_;rw[Qgn,zs,show i+1+l.length=i+(l.length+1) from by omega]
theorem Qhe:∀(l:List Nat) (acc:Int32) (c:Nat),(∀d∈l,d<32)->(Qj (l.foldl (fun a c=>a|||(1<<<(O c&&&31))) acc) c=true↔Qj acc c=true\/c∈l):=fun l=>by
 induction l with
 |nil=>intro acc c _;simp
 |cons d l ih=>
  intro acc c h;rw[List.foldl_cons,ih _ c fun e he=>h e (by simp[he]),Qe0,show Qj ((1:Int32)<<<(O d&&&31)) c=decide (c=d) from Qdk (h d (by simp)) c,zab,decide_eq_true_eq,zt,or_assoc]
theorem Qcf{n:Nat}(h5:n<=5):QP n=O (2 ^ n-1)/\2 ^ n<=32:=by
 have fe:∀k:Fin 6,QP k.val=O (2 ^ k.val-1)/\2 ^ k.val<=32:=by decide
 exact fe ⟨n,by omega⟩
theorem QjL{n:Nat}(h5:n<=5){x:Int32}(h:∀c,Qj x c=true->c<n):∃k,k<2 ^ n/\x=O k:=by
 have e:=Qha (n:=n) (by omega) h;obtain⟨f1,f2⟩:=Qcf h5;rw[f1] at e;obtain⟨k,hk,ek⟩:=Qfq x (m:=2 ^ n-1) (by omega);have p:0<2 ^ n:=Nat.two_pow_pos n;exact⟨k,by omega,by rw[<-ek];exact e.symm⟩
theorem Qjq:∀n:Fin 6,∀k:Fin 32,k.val<2 ^ n.val->Qbg n.val (O k.val)=true:=by decide
theorem Qdv{n k:Nat}(h5:n<=5)(hk:k<2 ^ n):Qbg n (O k)=true:=Qjq ⟨n,by omega⟩ ⟨k,by have:=(Qcf h5).2;omega⟩ hk
theorem QjC{n k:Nat}(h5:n<=5)(hk:k<2 ^ n):∀c,Qj (O k) c=true->c<n:=QdB (by omega) (Qdv h5 hk)
def QbS(v:Int32)(k:Nat):Bool:=(decide (k=0) && !decide (v=2))||(decide (k=1) && !decide (v=1))
theorem QfC{v:Int32}(h:v=1\/v=2\/v=3)(k:Nat):QF v.toInt64 k=QbS v k:=by
 have hi:k<64\/64<=k:=by omega
 rcases hi with hi | hi
 ·have d1:∀k:Fin 64,QF (1:Int32).toInt64 k.val=QbS 1 k.val/\QF (2:Int32).toInt64 k.val=QbS 2 k.val/\QF (3:Int32).toInt64 k.val=QbS 3 k.val:=by decide
  obtain⟨a,c,d⟩:=d1 ⟨k,hi⟩;rcases h with e | e | e<;>rw[e]<;>assumption
 ·have:QF v.toInt64 k=false:=by unfold QF;exact BitVec.getLsbD_of_ge _ _ hi
  rw[this];unfold QbS;rw[zu (show ¬k=0 by omega),zu (show ¬k=1 by omega)];rfl
theorem QiA{cc:Int64}{v:Int32}{m:Nat}(hm:m<32)(h:v=1\/v=2\/v=3)(h0:QF cc (2*m)=QbS v 0)(h1:QF cc (2*m+1)=QbS v 1):(XT.ushrL cc (2*O m)&&&3).toInt32=v:=by
 have e2:(2:Int32)*O m=O (2*m):=Qbz 2 m;have e:XT.ushrL cc (2*O m)&&&3=v.toInt64:=Qgf fun i=>by
  rw[Qfd,e2,QeJ (by omega),QfC h];have b3:QF 3 i=(decide (i=0)||decide (i=1)):=by
   have hi:i<64\/64<=i:=by omega
   rcases hi with hi | hi
   ·have d1:∀k:Fin 64,QF 3 k.val=(decide (k.val=0)||decide (k.val=1)):=by decide
    exact d1 ⟨i,hi⟩
   ·have:QF 3 i=false:=by unfold QF;exact BitVec.getLsbD_of_ge _ _ hi
    rw[this,zu (show ¬i=0 by omega),zu (show ¬i=1 by omega)];rfl
  rw[b3];by_cases z:i=0
  ·subst z;rw[zaY,h0];simp
  ·by_cases o:i=1
   ·subst o;rw[h1];simp
   ·unfold QbS;simp[z,o]
 rw[e];rcases h with q | q | q<;>rw[q]<;>decide
def Qca(n:Nat)(t:Qd)(m:Nat)(cc:Int64):Prop:=∀i,QF cc i=(decide (i<2*m)&&QbS (QS n (O (i/2)) (Qe t)) (i%2))
theorem QjQ{n:Nat}{t:Qd}{m:Nat}{cc:Int64}(hm:m<32)(h:Qca n t m cc):Qca n t (m+1) (cc|||((QS n (O m) (Qe t)).toInt64<<<((2*O m:Int32).toInt64&&&63))):=fun i=>by
 have e2:(2:Int32)*O m=O (2*m):=Qbz 2 m;have:QF (cc|||((QS n (O m) (Qe t)).toInt64<<<((2*O m:Int32).toInt64&&&63))) i=(QF cc i||QF ((QS n (O m) (Qe t)).toInt64<<<((2*O m:Int32).toInt64&&&63)) i):=by
  unfold QF;rw[Int64.toBitVec_or,BitVec.getLsbD_or]
 rw[this,h i,e2,Qfp (by omega),QfC (QcB _ _ _)];by_cases q:i<2*m
 ·rw[zB q,zB (show i<2*(m+1) by omega)];simp
 ·rw[zu q,Bool.false_and,zaa,Bool.not_false,zae];by_cases r:i<2*(m+1)
  ·rw[zB r,zB (show i<64 by omega),show i/2=m from by omega,show i%2=i-2*m from by omega]
  ·rw[zu r,Bool.false_and];unfold QbS;rw[zu (show ¬i-2*m=0 by omega),zu (show ¬i-2*m=1 by omega)];simp
theorem QjA{n:Nat}{t:Qd}{m M:Nat}{cc:Int64}(hm:m<M)(h32:M<=32)(h:Qca n t M cc):(XT.ushrL cc (2*O m)&&&3).toInt32=QS n (O m) (Qe t):=by
 refine QiA (by omega) (QcB _ _ _) ?_ ?_
 ·rw[h,zB (by omega),zaP,show 2*m/2=m from by omega,show 2*m%2=0 from by omega]
 ·rw[h,zB (by omega),zaP,show (2*m+1)/2=m from by omega,show (2*m+1)%2=1 from by omega]
def Qd9(n:Nat)(S:MS)(s0 s1 a:Int64):Prop:=∃t,Q2 n t S/\(∀c,Qj (S 0 1) c=true->c<n)/\QcX n t s0 s1/\∀m,m<2 ^ n->QF a m=true->∀l,Qo t l->QV (Qj (O m)) l
section Turn
variable {f1:FT1}
variable {f2:FT2} {xs:List Int32}
theorem QhL(hf1:Fx f1)(hf2:Fix2 ms1 ms2 iv1 222 nmax1 (some xs) f1 f2){S:MS}{n:Nat}{t:Qd}{s0 s1 a0 a1 a:Int64}{k:Int32}(W:Q2 n t S)(h1:1<=n)(h5:n<=5)(hin:QcX n t s0 s1):f2 (0,99,[V 0,I (O n),I (O (Qm n)),I (QP n),V 1,N s0,X,N s1,X,N a0,X,N a1,X,N a,X,I k],[],(false,[S]))=f2 (0,159,[V 0,I (O n),I (O (Qm n)),I (QP n),V 1,N s0,X,N s1,X,N a0,X,N a1,X,N a,X,I k,I (O (Qt t)),I 0,I 0,I 0],[],(false,[S])):=by
 refine Eq.trans (Eeo hf2 ..) ?_;have fa120:=Qdu h5;have key:=Qaw (fun i=>f2 (0,105,[V 0,I (O n),I (O (Qm n)),I (QP n),V 1,N s0,X,N s1,X,N a0,X,N a1,X,N a,X,I k,I (O ((List.range i).filter (Q1 s0 s1)).length),I (O i)],[],(false,[S]))) (n:=Qm n) fun i hi=>by
  show f2 _=f2 _;refine Eq.trans (Ex hf2 ..) ?_;rw[zb ((Qq (by omega) (by omega)).mpr hi),QeZ hf1 hf2 (by omega) [S]];simp only[zz];refine Eq.trans (EbZ hf2 ..) ?_;rw[List.range_succ,zaQ,zd,Qx];cases e:Q1 s0 s1 i
  ·rw[zb (show QaB false=0 from rfl),List.filter_cons_of_neg (by rw[e];decide)];rfl
  ·rw[za (by decide),Qx,List.filter_cons_of_pos e];rfl
 refine Eq.trans key ?_;show f2 _=_;refine Eq.trans (Ex hf2 ..) ?_;rw[za zv,Eh hf1];simp only[zz];refine Eq.trans (Edc hf2 ..) ?_;have cb:=Qfz t W.1.1.1;have cb2:=cb.2.1 W.1.1.2.1;rw[W.1.1.2.2.2.1] at cb2;rw[QhR W h1 h5 hin,W.2.1,QiF t W.1.1.1,zb rfl,za (show ¬O (Qt t)<1 from fun h=>absurd ((Qq (b:=1) (by omega) (by omega)).mp h) (by have:=cb.1;omega))]
theorem QhI(hf1:Fx f1)(hf2:Fix2 ms1 ms2 iv1 222 nmax1 (some xs) f1 f2){S:MS}{n:Nat}{t:Qd}{s0 s1 a0 a1 a:Int64}{k cnt:Int32}(W:Q2 n t S)(h5:n<=5):∃U,f2 (0,159,[V 0,I (O n),I (O (Qm n)),I (QP n),V 1,N s0,X,N s1,X,N a0,X,N a1,X,N a,X,I k,I cnt,I 0,I 0,I 0],[],(false,[S]))=f2 (0,241,[V 0,I (O n),I (O (Qm n)),I (QP n),V 1,N s0,X,N s1,X,N a0,X,N a1,X,N a,X,I k,I cnt,I U,I (Qae (QC t) 0 0),I 0],[],(false,[S])):=by
 have pr:(QC t).Perm (List.range n):=(Qcw W.1.1.1 W.1.1.2.1).trans W.1.2.1;have len:(QC t).length=n:=by rw[pr.length_eq,zal]
 have gm:∀i,i<n->(QC t).getD i 0<n:=fun i hi=>by
  rw[zf,List.getElem?_eq_getElem (by omega)];exact zC.mp (pr.mem_iff.mp (zF _))
 have lo:∀i,i<n->QcW n t i=O ((QC t).getD i 0):=fun i hi=>by unfold QcW;rw[zb hi]
 have nd:(QC t).Nodup:=pr.nodup_iff.mpr zat;have key:=Qaw (fun i=>f2 (0,159,[V 0,I (O n),I (O (Qm n)),I (QP n),V 1,N s0,X,N s1,X,N a0,X,N a1,X,N a,X,I k,I cnt,I (((QC t).take i).foldl (fun a c=>a|||(1<<<(O c&&&31))) 0),I (Qae ((QC t).take i) 0 0),I (O i)],[],(false,[S]))) (n:=n) fun i hi=>by
  show f2 _=f2 _;have v:=gm i hi;have ge:(QC t).getD i 0=(QC t)[i]'(by omega):=by rw[zf,List.getElem?_eq_getElem (by omega)];rfl
  have nb:Qj (((QC t).take i).foldl (fun a c=>a|||(1<<<(O c&&&31))) 0) ((QC t).getD i 0)=false:=by
   cases e:Qj (((QC t).take i).foldl (fun a c=>a|||(1<<<(O c&&&31))) 0) ((QC t).getD i 0)
   ·rfl
   ·exfalso;rcases (Qhe _ _ _ fun d hd=>by have:=zC.mp (pr.mem_iff.mp (List.mem_of_mem_take hd));omega).mp e with h | h
    ·rw[(QcV 0).mp rfl] at h;exact absurd h (by decide)
    ·obtain⟨j,hj,ej⟩:=List.mem_iff_getElem.mp h;rw[zaH] at hj;rw[List.getElem_take,ge] at ej;have:=(List.getElem_inj (h₀:=by omega) (h₁:=by omega) nd).mp ej;omega
  refine Eq.trans (ER hf2 ..) ?_;rw[zb ((Qq (by omega) (by omega)).mpr hi),Qgl hf1 W (by omega),lo i hi];simp only[zz];refine Eq.trans (EeQ hf2 ..) ?_;rw[za (Qap (by omega)),zb ((Qq (by omega) (by omega)).mpr v),zb ((Qe4 _ (by omega)).mpr nb),QfQ hf1 hf2 W hi];simp only[zz];refine Eq.trans (Ee6 hf2 ..) ?_;rw[zb rfl,Qx,zaq,List.getElem?_eq_getElem (show i<(QC t).length by omega),List.foldl_append,Option.toList_some,Qgn,zaH,Nat.min_eq_left (by omega),zL,ge];rfl
 refine⟨((QC t).take n).foldl (fun a c=>a|||(1<<<(O c&&&31))) 0,Eq.trans key ?_⟩;show f2 _=_;refine Eq.trans (ER hf2 ..) ?_;rw[za zv,zaU (show (QC t).length<=n by omega)]
theorem Qi7(hf1:Fx f1)(hf2:Fix2 ms1 ms2 iv1 222 nmax1 (some xs) f1 f2){S:MS}{n:Nat}{t:Qd}{s0 s1 a0 a1 a:Int64}{k cnt U:Int32}(W:Q2 n t S)(h1:1<=n)(h5:n<=5)(ha:∀m,m<2 ^ n->QF a m=true->∀l,Qo t l->QV (Qj (O m)) l):f2 (0,241,[V 0,I (O n),I (O (Qm n)),I (QP n),V 1,N s0,X,N s1,X,N a0,X,N a1,X,N a,X,I k,I cnt,I U,I (Qae (QC t) 0 0),I 0],[],(false,[S]))=f2 (0,284,[V 0,I (O n),I (O (Qm n)),I (QP n),V 1,N s0,X,N s1,X,N a0,X,N a1,X,N a,X,I k,I cnt,I U,I (Qae (QC t) 0 0),N 0,X,I 0],[],(false,[S])):=by
 have pr:(QC t).Perm (List.range n):=(Qcw W.1.1.1 W.1.1.2.1).trans W.1.2.1;have len:(QC t).length=n:=by rw[pr.length_eq,zal]
 have gm:∀i,i<n->(QC t).getD i 0<8:=fun i hi=>by
  rw[zf,List.getElem?_eq_getElem (by omega)];have:=zC.mp (pr.mem_iff.mp (zF (show i<(QC t).length by omega)));exact zax this (by omega)
 obtain⟨-,at_,all⟩:=Qcg h1 h5;have hat:=(at_ _ (all _ pr)).2;obtain⟨fu1,fu2⟩:=Qcf h5;have key:=Qaw (fun m=>f2 (0,241,[V 0,I (O n),I (O (Qm n)),I (QP n),V 1,N s0,X,N s1,X,N a0,X,N a1,X,N a,X,I k,I cnt,I U,I (Qae (QC t) 0 0),I (O m)],[],(false,[S]))) (n:=2 ^ n) fun m hm=>by
  show f2 _=f2 _;refine Eq.trans (EB hf2 ..) ?_;rw[za (by rw[fu1,Qq (by omega) (by omega)];omega),Qx];cases e:QF a m
  ·rw[zb ((Qcb (by omega)).mpr e)]
  ·rw[za (fun h=>by rw[(Qcb (by omega)).mp h] at e;exact absurd e (by decide)),Qel hf1 hf2 h5 hat gm [S]];simp only[zz];refine Eq.trans (EeF hf2 ..) ?_;have c:Qb0 (fun i=>Qj (O m) ((QC t).getD i 0)) n=true:=by
    have:=(QeP (b:=Qj (O m)) (l:=QC t) (by omega)).mpr (ha m hm e _ ((Qgi t W.1.1.1).1 W.1.1.2.1));rw[len] at this;exact this
   rw[c,za (by decide),Qx]
 refine Eq.trans key ?_;show f2 _=_;refine Eq.trans (EB hf2 ..) ?_;rw[zb (by rw[fu1,Qq (by omega) (by omega)];have:=Nat.two_pow_pos n;omega)]
theorem QiW(hf1:Fx f1)(hf2:Fix2 ms1 ms2 iv1 222 nmax1 (some xs) f1 f2){S:MS}{n:Nat}{s0 s1 a0 a1 a:Int64}{k cnt U code:Int32}{idx:Nat}{l:List Nat}(h1:1<=n)(h5:n<=5)(hl:l∈Qb5 n):∀r m (x:Int64),m+r=2 ^ n->∃y,(∀i,QF y i=true↔QF x i=true\/(m<=i/\i<2 ^ n/\QV (Qj (O i)) l))/\f2 (0,313,[V 0,I (O n),I (O (Qm n)),I (QP n),V 1,N s0,X,N s1,X,N a0,X,N a1,X,N a,X,I k,I cnt,I U,I code,N x,X,I (O idx),I (Qae l 0 0),I (O m)],[],(false,[S]))=f2 (0,284,[V 0,I (O n),I (O (Qm n)),I (QP n),V 1,N s0,X,N s1,X,N a0,X,N a1,X,N a,X,I k,I cnt,I U,I code,N y,X,I (O (idx+1))],[],(false,[S])):=by
 obtain⟨-,at_,all⟩:=Qcg h1 h5;obtain⟨pr,hat⟩:=at_ l hl;have len:l.length=n:=by rw[pr.length_eq,zal]
 have gm:∀i,i<n->l.getD i 0<8:=fun i hi=>by
  rw[zf,List.getElem?_eq_getElem (by omega)];have:=zC.mp (pr.mem_iff.mp (zF (show i<l.length by omega)));exact zax this (by omega)
 obtain⟨fu1,fu2⟩:=Qcf h5;intro r
 induction r with
 |zero=>
  intro m x hm;refine⟨x,fun i=>⟨Or.inl,fun h=>h.elim id fun h=>by omega⟩,?_⟩;refine Eq.trans (Et hf2 ..) ?_;rw[zb (by rw[fu1,Qq (by omega) (by omega)];have:=Nat.two_pow_pos n;omega),Qx]
 |succ r ih=>
  intro m x hm;have E:=Et hf2 (O n) (O (Qm n)) (QP n) s0 s1 a0 a1 a k cnt U code x (O idx) (Qae l 0 0) (O m) S;rw[za (by rw[fu1,Qq (by omega) (by omega)];omega),Qel hf1 hf2 h5 hat gm [S]] at E;have ci:=QeP (b:=Qj (O m)) (l:=l) (by omega);rw[len] at ci;cases c:Qb0 (fun i=>Qj (O m) (l.getD i 0)) n
  ·obtain⟨y,hy,e⟩:=ih (m+1) x (by omega);refine⟨y,fun i=>?_,Eq.trans E ?_⟩
   ·rw[hy i];refine or_congr Iff.rfl ⟨fun⟨q1,q2,q3⟩=>⟨by omega,q2,q3⟩,fun⟨q1,q2,q3⟩=>⟨?_,q2,q3⟩⟩;rcases zaS q1 with q | q
    ·exact q
    ·subst q;rw[ci.mpr q3] at c;exact absurd c (by decide)
   ·rw[c];simp only[zz];refine Eq.trans (Eam hf2 ..) ?_;rw[zb (show QaB false=0 from rfl),Qx];exact e
  ·obtain⟨y,hy,e⟩:=ih (m+1) (x|||(1<<<((O m).toInt64&&&63))) (by omega);refine⟨y,fun i=>?_,Eq.trans E ?_⟩
   ·rw[hy i,Qdo (by omega),zab,decide_eq_true_eq,or_assoc];refine or_congr Iff.rfl ⟨fun q=>?_,fun⟨q1,q2,q3⟩=>?_⟩
    ·rcases q with q | ⟨q1,q2,q3⟩
     ·rw[q];exact⟨zo _,by omega,ci.mp c⟩
     ·exact⟨by omega,q2,q3⟩
    ·rcases zaS q1 with q | q
     ·exact Or.inr ⟨q,q2,q3⟩
     ·exact Or.inl q.symm
   ·rw[c];simp only[zz];refine Eq.trans (Eam hf2 ..) ?_;rw[za (by decide),Qx];exact e
theorem Qf3(hf1:Fx f1)(hf2:Fix2 ms1 ms2 iv1 222 nmax1 (some xs) f1 f2){n idx:Nat}(h5:n<=5)(hi:idx<120)(ob:List MS):f2 (5,0,[I (O idx),I (O n)],[],(false,ob))=some (some (I (Qae (Qao n idx 0) 0 0)),(false,ob)):=by
 refine Eq.trans (EdB hf2 ..) ?_;exact Qhn hf1 hf2 h5 ob n 0 idx 0 0 (by omega) (by omega) hi
theorem Qhp(hf1:Fx f1)(hf2:Fix2 ms1 ms2 iv1 222 nmax1 (some xs) f1 f2){S:MS}{n:Nat}{s0 s1 a0 a1 a:Int64}{k cnt U code:Int32}(h1:1<=n)(h5:n<=5):∀r idx (x:Int64),idx+r=Qm n->∃y,(∀i,QF y i=true↔QF x i=true\/(i<2 ^ n/\∃j,idx<=j/\j<Qm n/\Q1 s0 s1 j=true/\QV (Qj (O i)) (Qao n j 0)))/\f2 (0,284,[V 0,I (O n),I (O (Qm n)),I (QP n),V 1,N s0,X,N s1,X,N a0,X,N a1,X,N a,X,I k,I cnt,I U,I code,N x,X,I (O idx)],[],(false,[S]))=f2 (0,357,[V 0,I (O n),I (O (Qm n)),I (QP n),V 1,N s0,X,N s1,X,N a0,X,N a1,X,N a,X,I k,I cnt,I U,I code,N y,X,N 0,X,I 0],[],(false,[S])):=by
 have fa120:=Qdu h5;intro r
 induction r with
 |zero=>
  intro idx x h;refine⟨x,fun i=>⟨Or.inl,fun h=>h.elim id fun⟨_,j,h1,h2,_⟩=>by omega⟩,?_⟩;refine Eq.trans (Es hf2 ..) ?_;rw[za (by rw[Qq (by omega) (by omega)];omega)]
 |succ r ih=>
  intro idx x h;have E:=Es hf2 (O n) (O (Qm n)) (QP n) s0 s1 a0 a1 a k cnt U code x (O idx) S;rw[zb ((Qq (by omega) (by omega)).mpr (by omega)),QeZ hf1 hf2 (by omega) [S]] at E;cases c:Q1 s0 s1 idx
  ·obtain⟨y,hy,e⟩:=ih (idx+1) x (by omega);refine⟨y,fun i=>?_,Eq.trans E ?_⟩
   ·rw[hy i];refine or_congr Iff.rfl (and_congr Iff.rfl ⟨fun⟨j,q1,q2,q3,q4⟩=>⟨j,by omega,q2,q3,q4⟩,fun⟨j,q1,q2,q3,q4⟩=>⟨j,?_,q2,q3,q4⟩⟩);rcases zaS q1 with q | q
    ·exact q
    ·subst q;rw[q3] at c;exact absurd c (by decide)
   ·rw[c];simp only[zz];refine Eq.trans (EaH hf2 ..) ?_;rw[zb (show QaB false=0 from rfl),Qx];exact e
  ·obtain⟨x',hx',e'⟩:=QiW hf1 hf2 (S:=S) (s0:=s0) (s1:=s1) (a0:=a0) (a1:=a1) (a:=a) (k:=k) (cnt:=cnt) (U:=U) (code:=code) (idx:=idx) h1 h5 (QdP (n:=n) (idx:=idx) (by omega)) (2 ^ n) 0 x (by omega);obtain⟨y,hy,e⟩:=ih (idx+1) x' (by omega);refine⟨y,fun i=>?_,Eq.trans E ?_⟩
   ·rw[hy i,hx' i,or_assoc];refine or_congr Iff.rfl ⟨fun q=>?_,fun⟨q0,j,q1,q2,q3,q4⟩=>?_⟩
    ·rcases q with⟨-,q1,q2⟩ | ⟨q0,j,q1,q2,q3,q4⟩
     ·exact⟨q1,idx,zo _,by omega,c,q2⟩
     ·exact⟨q0,j,by omega,q2,q3,q4⟩
    ·rcases zaS q1 with q | q
     ·exact Or.inr ⟨q0,j,q,q2,q3,q4⟩
     ·subst q;exact Or.inl ⟨zaA _,q0,q4⟩
   ·rw[c];simp only[zz];refine Eq.trans (EaH hf2 ..) ?_;rw[za (by decide),Qf3 hf1 hf2 h5 (by omega) [S]];simp only[zz];refine Eq.trans (EeX hf2 ..) ?_;exact Eq.trans e' e
theorem QiD(hf1:Fx f1)(hf2:Fix2 ms1 ms2 iv1 222 nmax1 (some xs) f1 f2){n:Nat}{t:Qd}{s0 s1 a0 a1 a p:Int64}{k cnt U code:Int32}(h5:n<=5)(hp:∀m,m<2 ^ n->(QF p m=true↔∃l,Qo t l/\QV (Qj (O m)) l)):∀r m (cc:Int64) (S:MS),m+r=2 ^ n->Q2 n t S->Qca n t m cc->∃S' cc',Q2 n t S'/\Qa5 S S'/\Qca n t (2 ^ n) cc'/\f2 (0,357,[V 0,I (O n),I (O (Qm n)),I (QP n),V 1,N s0,X,N s1,X,N a0,X,N a1,X,N a,X,I k,I cnt,I U,I code,N p,X,N cc,X,I (O m)],[],(false,[S]))=f2 (0,357,[V 0,I (O n),I (O (Qm n)),I (QP n),V 1,N s0,X,N s1,X,N a0,X,N a1,X,N a,X,I k,I cnt,I U,I code,N p,X,N cc',X,I (O (2 ^ n))],[],(false,[S'])):=by
 obtain⟨fu1,fu2⟩:=Qcf h5;intro r
 induction r with
 |zero=>
  intro m cc S hm W E;have:m=2 ^ n:=by omega
  subst this;exact⟨S,cc,W,fun _ _ _=>rfl,E,rfl⟩
 |succ r ih=>
  intro m cc S hm W E;obtain⟨A,eA,WA,kA⟩:=QgW hf1 (x:=O m) W;have cf:Qbm n (O m) (Qe t)=QS n (O m) (Qe t):=by unfold Qbm;rw[zb (Qdv h5 (by omega))]
  rw[cf] at eA;obtain⟨S',cc',W',k',E',e'⟩:=ih (m+1) _ A (by omega) WA (QjQ (by omega) E);refine⟨S',cc',W',Qb1 kA k',E',Eq.trans (Eq.trans (Ee hf2 ..) ?_) e'⟩;rw[za (by rw[fu1,Qq (by omega) (by omega)];omega),eA];simp only[zz];refine Eq.trans (Eel hf2 ..) ?_;have vi:=QiG W (QjC h5 (show m<2 ^ n by omega));have hpm:=hp m (by omega);have v0:=QcB n (O m) (Qe t);generalize QS n (O m) (Qe t)=v at *;have v3:¬v<1/\¬3<v:=by rcases v0 with e | e | e<;>rw[e]<;>decide
  rw[za v3.1,za v3.2];by_cases q:v=3
  ·rw[zb q];refine Eq.trans (EQ hf2 ..) ?_;have pf:QF p m=false:=by
    cases e:QF p m
    ·rfl
    ·exact absurd (hpm.mp e) (vi.mp q)
   rw[zb ((Qcb (by omega)).mpr pf)];refine Eq.trans (Ev hf2 ..) ?_;rw[zb rfl,Qx]
  ·rw[za q];refine Eq.trans (EQ hf2 ..) ?_;have pt:QF p m=true:=by
    cases e:QF p m
    ·refine absurd (vi.mpr fun h=>?_) q;rw[hpm.mpr h] at e;exact absurd e (by decide)
    ·rfl
   rw[za (fun h=>by rw[(Qcb (by omega)).mp h] at pt;exact absurd pt (by decide))];refine Eq.trans (Ev hf2 ..) ?_;rw[zb rfl,Qx]
end Turn
theorem Qiz{x y:Int64}{i j:Nat}(hi:i<64):Q1 (x&&&((1<<<((O i).toInt64&&&63))^^^(-1))) y j=(Q1 x y j && !decide (j=i)):=by
 unfold Q1;by_cases q:j<64
 ·rw[zb q,zb q,QfO hi q]
 ·rw[za q,za q,zu (show ¬j=i by omega)];simp
theorem Qjl{x y:Int64}{i j:Nat}(h1:64<=i)(h2:i<128)(hj:j<128):Q1 x (y&&&((1<<<((O (i-64)).toInt64&&&63))^^^(-1))) j=(Q1 x y j && !decide (j=i)):=by
 unfold Q1;by_cases q:j<64
 ·rw[zb q,zb q,zu (show ¬j=i by omega)];simp
 ·rw[za q,za q,QfO (by omega) (by omega)];by_cases e:j=i
  ·rw[zB e,zB (show j-64=i-64 by omega)]
  ·rw[zu e,zu (show ¬j-64=i-64 by omega)]
theorem Qh8{x y:Int64}{i j:Nat}(hi:i<64):Q1 (x|||(1<<<((O i).toInt64&&&63))) y j=(Q1 x y j||decide (j=i)):=by
 unfold Q1;by_cases q:j<64
 ·rw[zb q,zb q,Qdo hi]
 ·rw[za q,za q,zu (show ¬j=i by omega)];simp
theorem Qhi{x y:Int64}{i j:Nat}(h1:64<=i)(h2:i<128):Q1 x (y|||(1<<<((O (i-64)).toInt64&&&63))) j=(Q1 x y j||decide (j=i)):=by
 unfold Q1;by_cases q:j<64
 ·rw[zb q,zb q,zu (show ¬j=i by omega)];simp
 ·rw[za q,za q,Qdo (by omega)];by_cases e:j=i
  ·rw[zB e,zB (show j-64=i-64 by omega)]
  ·rw[zu e,zu (show ¬j-64=i-64 by omega)]
section Turns
variable {f1:FT1}
variable {f2:FT2} {xs:List Int32}
theorem Qhs(hf1:Fx f1)(hf2:Fix2 ms1 ms2 iv1 222 nmax1 (some xs) f1 f2){S:MS}{n:Nat}(h5:n<=5):∀r i (s0 s1:Int64),i+r=Qm n->(∀j,j<i->Q1 s0 s1 j=true)->∃z0 z1,(∀j,j<Qm n->Q1 z0 z1 j=true)/\f2 (0,42,[V 0,I (O n),I (O (Qm n)),I (QP n),V 1,N s0,X,N s1,X,I (O i)],[],(false,[S]))=f2 (0,99,[V 0,I (O n),I (O (Qm n)),I (QP n),V 1,N z0,X,N z1,X,N z0,X,N z1,X,N 0,X,I 1],[],(false,[S])):=by
 have fa120:=Qdu h5;intro r
 induction r with
 |zero=>
  intro i s0 s1 h hi;refine⟨s0,s1,fun j hj=>hi j (by omega),Eq.trans (EX hf2 ..) ?_⟩;rw[za (by rw[Qq (by omega) (by omega)];omega)]
 |succ r ih=>
  intro i s0 s1 h hi;have E:=EX hf2 (O n) (O (Qm n)) (QP n) s0 s1 (O i) S;rw[zb ((Qq (by omega) (by omega)).mpr (by omega)),Qx] at E;by_cases q:i<64
  ·rw[zb (show O i<64 from (Qq (b:=64) (by omega) (by omega)).mpr q)] at E;obtain⟨z0,z1,hz,e⟩:=ih (i+1) (s0|||(1<<<((O i).toInt64&&&63))) s1 (by omega) fun j hj=>by
    rw[Qh8 q,zab,decide_eq_true_eq];by_cases c:j=i
    ·exact Or.inr c
    ·exact Or.inl (hi j (by omega))
   exact⟨z0,z1,hz,Eq.trans E e⟩
  ·rw[za (show ¬O i<64 from fun h=>q ((Qq (b:=64) (by omega) (by omega)).mp h)),show O i-64=O (i-64) from Qba (b:=64) (by omega)] at E;obtain⟨z0,z1,hz,e⟩:=ih (i+1) s0 (s1|||(1<<<((O (i-64)).toInt64&&&63))) (by omega) fun j hj=>by
    rw[Qhi (by omega) (by omega),zab,decide_eq_true_eq];by_cases c:j=i
    ·exact Or.inr c
    ·exact Or.inl (hi j (by omega))
   exact⟨z0,z1,hz,Eq.trans E e⟩
theorem Qjg(hf1:Fx f1)(hf2:Fix2 ms1 ms2 iv1 222 nmax1 (some xs) f1 f2){S:MS}{n:Nat}{a0 a1 a p cc:Int64}{k cnt U code x23 x24 x25 x26 m x28:Int32}(h1:1<=n)(h5:n<=5):∀r idx (s0 s1:Int64),idx+r=Qm n->∃z0 z1,(∀j,j<Qm n->(Q1 z0 z1 j=true↔Q1 s0 s1 j=true/\(idx<=j->QV (Qj m) (Qao n j 0))))/\f2 (0,798,[V 0,I (O n),I (O (Qm n)),I (QP n),V 1,N s0,X,N s1,X,N a0,X,N a1,X,N a,X,I k,I cnt,I U,I code,N p,X,N cc,X,I x23,I x24,I x25,I x26,I m,I x28,I (O idx)],[],(false,[S]))=f2 (0,99,[V 0,I (O n),I (O (Qm n)),I (QP n),V 1,N z0,X,N z1,X,N a0,X,N a1,X,N a,X,I k],[],(false,[S])):=by
 have fa120:=Qdu h5;obtain⟨-,at_,all⟩:=Qcg h1 h5;intro r
 induction r with
 |zero=>
  intro idx s0 s1 h;refine⟨s0,s1,fun j hj=>⟨fun q=>⟨q,fun c=>by omega⟩,fun q=>q.1⟩,Eq.trans (EI hf2 ..) ?_⟩;rw[za (by rw[Qq (by omega) (by omega)];omega)]
 |succ r ih=>
  intro idx s0 s1 h;obtain⟨pr,hat⟩:=at_ _ (QdP (n:=n) (idx:=idx) (by omega));have len:(Qao n idx 0).length=n:=by rw[pr.length_eq,zal]
  have gm:∀i,i<n->(Qao n idx 0).getD i 0<8:=fun i hi=>by
   rw[zf,List.getElem?_eq_getElem (by omega)];have:=zC.mp (pr.mem_iff.mp (zF (show i<(Qao n idx 0).length by omega)));exact zax this (by omega)
  have ci:=QeP (b:=Qj m) (l:=Qao n idx 0) (by omega);rw[len] at ci;have E:=EI hf2 (O n) (O (Qm n)) (QP n) s0 s1 a0 a1 a k cnt U code p cc x23 x24 x25 x26 m x28 (O idx) S;rw[zb ((Qq (by omega) (by omega)).mpr (by omega)),QeZ hf1 hf2 (by omega) [S]] at E;have stay:(Q1 s0 s1 idx=true->QV (Qj m) (Qao n idx 0))->f2 (0,798,[V 0,I (O n),I (O (Qm n)),I (QP n),V 1,N s0,X,N s1,X,N a0,X,N a1,X,N a,X,I k,I cnt,I U,I code,N p,X,N cc,X,I x23,I x24,I x25,I x26,I m,I x28,I (O idx)],[],(false,[S]))=f2 (0,798,[V 0,I (O n),I (O (Qm n)),I (QP n),V 1,N s0,X,N s1,X,N a0,X,N a1,X,N a,X,I k,I cnt,I U,I code,N p,X,N cc,X,I x23,I x24,I x25,I x26,I m,I x28,I (O (idx+1))],[],(false,[S]))->∃z0 z1,(∀j,j<Qm n->(Q1 z0 z1 j=true↔Q1 s0 s1 j=true/\(idx<=j->QV (Qj m) (Qao n j 0))))/\f2 (0,798,[V 0,I (O n),I (O (Qm n)),I (QP n),V 1,N s0,X,N s1,X,N a0,X,N a1,X,N a,X,I k,I cnt,I U,I code,N p,X,N cc,X,I x23,I x24,I x25,I x26,I m,I x28,I (O idx)],[],(false,[S]))=f2 (0,99,[V 0,I (O n),I (O (Qm n)),I (QP n),V 1,N z0,X,N z1,X,N a0,X,N a1,X,N a,X,I k],[],(false,[S])):=fun hc e0=>by
   obtain⟨z0,z1,hz,e⟩:=ih (idx+1) s0 s1 (by omega);refine⟨z0,z1,fun j hj=>?_,Eq.trans e0 e⟩;rw[hz j hj];refine⟨fun⟨q1,q2⟩=>⟨q1,fun c=>?_⟩,fun⟨q1,q2⟩=>⟨q1,fun c=>q2 (by omega)⟩⟩;rcases zaS c with q | q
   ·exact q2 q
   ·subst q;exact hc q1
  cases c:Q1 s0 s1 idx
  ·refine stay (fun h=>by rw[h] at c;exact absurd c (by decide)) (Eq.trans E ?_);rw[c];simp only[zz];refine Eq.trans (Ean hf2 ..) ?_;rw[zb (show QaB false=0 from rfl),Qx]
  ·rw[c] at E;have E2:f2 (0,798,[V 0,I (O n),I (O (Qm n)),I (QP n),V 1,N s0,X,N s1,X,N a0,X,N a1,X,N a,X,I k,I cnt,I U,I code,N p,X,N cc,X,I x23,I x24,I x25,I x26,I m,I x28,I (O idx)],[],(false,[S]))=f2 (0,828,[V 0,I (O n),I (O (Qm n)),I (QP n),V 1,N s0,X,N s1,X,N a0,X,N a1,X,N a,X,I k,I cnt,I U,I code,N p,X,N cc,X,I x23,I x24,I x25,I x26,I m,I x28,I (O idx)],[I (QaB (Qb0 (fun i=>Qj m ((Qao n idx 0).getD i 0)) n))],(false,[S])):=by
    refine Eq.trans E ?_;simp only[zz];refine Eq.trans (Ean hf2 ..) ?_;rw[za (by decide),Qf3 hf1 hf2 h5 (by omega) [S]];simp only[zz];refine Eq.trans (Ea3 hf2 ..) ?_;rw[Qel hf1 hf2 h5 hat gm [S]];simp only[zz]
   cases d:Qb0 (fun i=>Qj m ((Qao n idx 0).getD i 0)) n
   ·have nc:¬QV (Qj m) (Qao n idx 0):=fun h=>by rw[ci.mpr h] at d;exact absurd d (by decide)
    rw[d] at E2;have fin:∀w0 w1:Int64,(∀j,j<128->Q1 w0 w1 j=(Q1 s0 s1 j && !decide (j=idx)))->f2 (0,798,[V 0,I (O n),I (O (Qm n)),I (QP n),V 1,N s0,X,N s1,X,N a0,X,N a1,X,N a,X,I k,I cnt,I U,I code,N p,X,N cc,X,I x23,I x24,I x25,I x26,I m,I x28,I (O idx)],[],(false,[S]))=f2 (0,798,[V 0,I (O n),I (O (Qm n)),I (QP n),V 1,N w0,X,N w1,X,N a0,X,N a1,X,N a,X,I k,I cnt,I U,I code,N p,X,N cc,X,I x23,I x24,I x25,I x26,I m,I x28,I (O (idx+1))],[],(false,[S]))->∃z0 z1,(∀j,j<Qm n->(Q1 z0 z1 j=true↔Q1 s0 s1 j=true/\(idx<=j->QV (Qj m) (Qao n j 0))))/\f2 (0,798,[V 0,I (O n),I (O (Qm n)),I (QP n),V 1,N s0,X,N s1,X,N a0,X,N a1,X,N a,X,I k,I cnt,I U,I code,N p,X,N cc,X,I x23,I x24,I x25,I x26,I m,I x28,I (O idx)],[],(false,[S]))=f2 (0,99,[V 0,I (O n),I (O (Qm n)),I (QP n),V 1,N z0,X,N z1,X,N a0,X,N a1,X,N a,X,I k],[],(false,[S])):=fun w0 w1 hw e0=>by
     obtain⟨z0,z1,hz,e⟩:=ih (idx+1) w0 w1 (by omega);refine⟨z0,z1,fun j hj=>?_,Eq.trans e0 e⟩;rw[hz j hj,hw j (by omega),zaf,zaz,decide_eq_false_iff_not];refine⟨fun⟨⟨q1,q2⟩,q3⟩=>⟨q1,fun c=>q3 (by omega)⟩,fun⟨q1,q2⟩=>⟨⟨q1,fun e=>nc ?_⟩,fun c=>q2 (by omega)⟩⟩;subst e;exact q2 (zo _)
    have E3:=EaF hf2 (O n) (O (Qm n)) (QP n) s0 s1 a0 a1 a k cnt U code p cc x23 x24 x25 x26 m x28 (O idx) (QaB false) S;rw[zb (show QaB false=0 from rfl),Qx] at E3;by_cases q:idx<64
    ·rw[zb (show O idx<64 from (Qq (b:=64) (by omega) (by omega)).mpr q)] at E3;exact fin _ _ (fun j _=>Qiz q) (Eq.trans E2 E3)
    ·rw[za (show ¬O idx<64 from fun h=>q ((Qq (b:=64) (by omega) (by omega)).mp h)),show O idx-64=O (idx-64) from Qba (b:=64) (by omega)] at E3;exact fin _ _ (fun j hj=>Qjl (by omega) (by omega) hj) (Eq.trans E2 E3)
   ·refine stay (fun _=>ci.mp d) (Eq.trans E2 ?_);rw[d];refine Eq.trans (EaF hf2 ..) ?_;rw[za (by decide),Qx]
theorem QhN(hf1:Fx f1)(hf2:Fix2 ms1 ms2 iv1 222 nmax1 (some xs) f1 f2){n:Nat}{t:Qd}{s0 s1 a0 a1 a p cc:Int64}{k cnt U code x23 x24 x25 x26 m x28:Int32}(h5:n<=5)(E:Qca n t (2 ^ n) cc){t':Qd}(es:Qe t'=Qe t):∀r i (S:MS),i+r=2 ^ n->Q2 n t' S->∃S',Q2 n t' S'/\Qa5 S S'/\f2 (0,721,[V 0,I (O n),I (O (Qm n)),I (QP n),V 1,N s0,X,N s1,X,N a0,X,N a1,X,N a,X,I k,I cnt,I U,I code,N p,X,N cc,X,I x23,I x24,I x25,I x26,I m,I x28,I (O i)],[],(false,[S]))=f2 (0,99,[V 0,I (O n),I (O (Qm n)),I (QP n),V 1,N s0,X,N s1,X,N a0,X,N a1,X,N a,X,I k],[],(false,[S'])):=by
 obtain⟨fu1,fu2⟩:=Qcf h5;intro r
 induction r with
 |zero=>
  intro i S h W;have hi:i=2 ^ n:=h;refine⟨S,W,fun _ _ _=>rfl,Eq.trans (EA hf2 ..) ?_⟩;rw[hi,zb (by rw[fu1,Qq (by omega) (by omega)];have:=Nat.two_pow_pos n;omega)]
 |succ r ih=>
  intro i S h W;obtain⟨A,eA,WA,kA⟩:=QgW hf1 (x:=O i) W;have cf:Qbm n (O i) (Qe t')=QS n (O i) (Qe t):=by unfold Qbm;rw[zb (Qdv h5 (by omega)),es]
  rw[cf] at eA;obtain⟨S',W',k',e'⟩:=ih (i+1) A (by omega) WA;refine⟨S',W',Qb1 kA k',Eq.trans (Eq.trans (EA hf2 ..) ?_) e'⟩;rw[za (by rw[fu1,Qq (by omega) (by omega)];omega),eA];simp only[zz];refine Eq.trans (Eeb hf2 ..) ?_;rw[QjA (by omega) fu2 E,zb rfl,Qx]
theorem QgA(hf1:Fx f1)(hf2:Fix2 ms1 ms2 iv1 222 nmax1 (some xs) f1 f2){S A:MS}{n:Nat}{t t':Qd}{s0 s1 a0 a1 a p cc:Int64}{k cnt U x23 x24 m r:Int32}(h1:1<=n)(h5:n<=5)(W:Q2 n t S)(WA:Q2 n t' A)(hpA:∀c,Qj (A 0 1) c=true->c<n)(hin:QcX n t s0 s1)(ha:∀m,m<2 ^ n->QF a m=true->∀l,Qo t l->QV (Qj (O m)) l)(E:Qca n t (2 ^ n) cc)
  (hc:(r=0/\Qe t'=Qe t)\/((∀c,Qj m c=true->c<n)/\r=QS n m (Qe t)/\Qe t'=QbE n m (Qe t)))
  (nxt:∀S' z0 z1 z,Qd9 n S' z0 z1 z->∃W,f2 (0,99,[V 0,I (O n),I (O (Qm n)),I (QP n),V 1,N z0,X,N z1,X,N a0,X,N a1,X,N z,X,I k],[],(false,[S']))=some (some (I 1),W)):∃W,f2 (0,637,[V 0,I (O n),I (O (Qm n)),I (QP n),V 1,N s0,X,N s1,X,N a0,X,N a1,X,N a,X,I k,I cnt,I U,I (Qae (QC t) 0 0),N p,X,N cc,X,I x23,I x24,I (S 0 11),I (S 0 12),I m,I r],[],(false,[A]))=some (some (I 1),W):=by
 have w:=W.1.1.1;have w':=WA.1.1.1;have wz:=QbC t w;have wz':=QbC t' w';have J:∀A',Q2 n t' A'->(∀c,Qj (A' 0 1) c=true->c<n)->Qe t'=Qe t->Qd9 n A' s0 s1 a:=fun A' WA' hp' es=>by
  have fe:∀l,Qo t' l↔Qo t l:=fun l=>by rw[<-Qbk wz',es,Qbk wz]
  exact⟨t',WA',hp',fun j hj=>by rw[fe];exact hin j hj,fun m hm hb l hl=>ha m hm hb l ((fe l).mp hl)⟩
 refine Q4 (Eeh hf2 ..) ?_;rcases hc with⟨r0,es⟩ | ⟨hm,rv,sh⟩
 ·rw[r0,za (by decide),za (by decide),za (by decide)];exact nxt A s0 s1 a (J A WA hpA es)
 ·obtain⟨n3,n12⟩:=Qiq W WA sh hm;obtain⟨km,hk,ek⟩:=QjL h5 hm;have fu2:=(Qcf h5).2;have go:QS n m (Qe t)≠3->∃W,f2 (0,772,[V 0,I (O n),I (O (Qm n)),I (QP n),V 1,N s0,X,N s1,X,N a0,X,N a1,X,N a,X,I k,I cnt,I U,I (Qae (QC t) 0 0),N p,X,N cc,X,I x23,I x24,I (S 0 11),I (S 0 12),I m,I r],[],(false,[A]))=some (some (I 1),W):=fun ne=>by
   refine Q4 (EdQ hf2 ..) ?_;have ir:=Qdv h5 hk;unfold Qbg at ir;rw[<-ek] at ir;rw[za (show ¬m<0 by rw[ek];exact Qap (by omega)),zb (zai ir)];obtain⟨z0,z1,hz,e⟩:=Qjg hf1 hf2 (S:=A) (a0:=a0) (a1:=a1) (a:=a|||(1<<<(m.toInt64&&&63))) (p:=p) (cc:=cc) (k:=k) (cnt:=cnt) (U:=U) (code:=Qae (QC t) 0 0) (x23:=x23) (x24:=x24) (x25:=S 0 11) (x26:=S 0 12) (m:=m) (x28:=r) h1 h5 (Qm n) 0 s0 s1 (by omega);refine Q4 e ?_;refine nxt A z0 z1 _ ⟨t',WA,hpA,fun j hj=>?_,fun i hi hb l hl=>?_⟩
   ·rw[hz j hj,n12 ne,hin j hj];exact⟨fun⟨q1,q2⟩=>⟨q1,q2 (zaA _)⟩,fun⟨q1,q2⟩=>⟨q1,fun _=>q2⟩⟩
   ·obtain⟨l1,l2⟩:=(n12 ne l).mp hl;rw[ek,Qdo (by omega),zab,decide_eq_true_eq] at hb;rcases hb with hb | hb
    ·exact ha i hi hb l l1
    ·rw[hb,<-ek];exact l2
  rcases QcB n m (Qe t) with v | v | v
  ·rw[za (by rw[rv,v];decide),zb (by rw[rv,v])];exact go (by rw[v];decide)
  ·rw[za (by rw[rv,v];decide),za (by rw[rv,v];decide),zb (by rw[rv,v])];exact go (by rw[v];decide)
  ·have es:=n3 v;obtain⟨i1,i2,i3,i4⟩:=Qd0 t w;obtain⟨j1,j2,j3,j4⟩:=Qd0 t' w';have ell:QC t'=QC t:=by unfold QC;rw[<-j3,<-i3,es]
   have e11:A 0 11=S 0 11:=by rw[WA.2.1,W.2.1,<-j4,<-i4,es]
   have e12:A 0 12=S 0 12:=by rw[WA.2.2.1,W.2.2.1];unfold Qag;rw[<-j2,<-i2,es]
   rw[zb (by rw[rv,v]),Eh hf1];simp only[zz];refine Q4 (EeL hf2 ..) ?_;rw[zb e11,Eap hf1];simp only[zz];refine Q4 (EdA hf2 ..) ?_;rw[zb e12];have pr:(QC t).Perm (List.range n):=(Qcw W.1.1.1 W.1.1.2.1).trans W.1.2.1;obtain⟨-,at_,all⟩:=Qcg h1 h5;have hat:=(at_ _ (all _ pr)).2;have key:=Qaw (fun i=>f2 (0,668,[V 0,I (O n),I (O (Qm n)),I (QP n),V 1,N s0,X,N s1,X,N a0,X,N a1,X,N a,X,I k,I cnt,I U,I (Qae (QC t) 0 0),N p,X,N cc,X,I x23,I x24,I (S 0 11),I (S 0 12),I m,I r,I (O i)],[],(false,[A]))) (n:=n) fun i hi=>by
    show f2 _=f2 _;refine Eq.trans (EaC hf2 ..) ?_;have lo:QcW n t' i=O ((QC t).getD i 0):=by unfold QcW;rw[zb hi,ell]
    have lp:=QfQ hf1 hf2 WA hi;rw[ell] at lp;have a7:f2 (7,0,[I (Qae (QC t) 0 0),I (O i)],[],(false,[A]))=some (some (I (O ((QC t).getD i 0))),(false,[A])):=by
     refine Eq.trans (Eat hf2 ..) ?_;rw[<-hat i hi];rfl
    rw[zb ((Qq (by omega) (by omega)).mpr hi),Qgl hf1 WA (by omega),lo];simp only[zz];refine Eq.trans (EcF hf2 ..) ?_;rw[a7];simp only[zz];refine Eq.trans (EdE hf2 ..) ?_;rw[zb rfl,a7];simp only[zz];refine Eq.trans (Ebh hf2 ..) ?_;rw[lp];simp only[zz];refine Eq.trans (EcM hf2 ..) ?_;rw[zb rfl,Qx]
   refine Q4 key ?_;show ∃W,f2 _=_;refine Q4 (EaC hf2 ..) ?_;rw[za zv];obtain⟨A',WA',kA',e'⟩:=QhN hf1 hf2 (s0:=s0) (s1:=s1) (a0:=a0) (a1:=a1) (a:=a) (p:=p) (k:=k) (cnt:=cnt) (U:=U) (code:=Qae (QC t) 0 0) (x23:=x23) (x24:=x24) (x25:=S 0 11) (x26:=S 0 12) (m:=m) (x28:=r) h5 E es (2 ^ n) 0 A (by omega) WA;refine Q4 e' ?_;exact nxt A' s0 s1 a (J A' WA' (by rw[kA' 0 1 (by omega)];exact hpA) es)
theorem Qfh(hf1:Fx f1)(hf2:Fix2 ms1 ms2 iv1 222 nmax1 (some xs) f1 f2){kk:Nat}(hx:xs.length<2147483648)(h:kk<1000000)(ob:List MS):∃v,f2 (1,0,[V 0,I (O kk)],[],(false,ob))=some (some (I v),(false,ob)):=by
 have E:=Eb3 hf2 (O kk) ob;by_cases q:O kk<O xs.length
 ·rw[zb q] at E;by_cases b:inb (O kk) xs.length=true
  ·rw[zb b] at E;exact⟨_,E⟩
  ·exact absurd (QiP (Qap (by omega)) q hx) b
 ·rw[za q] at E;exact⟨_,E⟩
theorem Qec(hf1:Fx f1)(hf2:Fix2 ms1 ms2 iv1 222 nmax1 (some xs) f1 f2){x:Int32}{m:Nat}(h1:1<=m)(h2:m<=100)(ob:List MS):∃j,j<m/\f2 (2,0,[I x,I (O m)],[],(false,ob))=some (some (I (O j)),(false,ob)):=by
 have E:=EbM hf2 x (O m) (fun e=>by have:=(QeH (c:=0) (by omega) (by omega)).mp e;omega) ob;have tm:(O m).toInt=m:=Qac (by omega);have tr:(x%O m).toInt=x.toInt.tmod m:=by rw[Int32.toInt_mod,tm]
 have b1:=Int.tmod_lt_of_pos x.toInt (b:=m) (by omega);have b2:=Int.lt_tmod_of_pos x.toInt (b:=m) (by omega);by_cases q:x%O m<0
 ·rw[zb q] at E;rw[zY,tr] at q;have q':x.toInt.tmod m<0:=q;refine⟨(x.toInt.tmod m+m).toNat,by omega,?_⟩;refine Eq.trans E ?_;have:x%O m+O m=O (x.toInt.tmod m+m).toNat:=by
   rw[<-Int32.toInt_inj,Int32.toInt_add,tr,tm,Qac (by omega),Int.bmod_eq_of_le (by omega) (by omega)];omega
  rw[this]
 ·rw[za q] at E;rw[zY,tr] at q;have q':¬x.toInt.tmod m<0:=q;refine⟨(x.toInt.tmod m).toNat,by omega,?_⟩;refine Eq.trans E ?_;have:x%O m=O (x.toInt.tmod m).toNat:=by
   rw[<-Int32.toInt_inj,tr,Qac (by omega)];omega
  rw[this]
theorem QgE(hf1:Fx f1)(hf2:Fix2 ms1 ms2 iv1 222 nmax1 (some xs) f1 f2){S:MS}{n:Nat}{t:Qd}{s0 s1 a0 a1 a:Int64}{k:Int32}(h1:1<=n)(h5:n<=5)(W:Q2 n t S)(hin:QcX n t s0 s1)(ha:∀m,m<2 ^ n->QF a m=true->∀l,Qo t l->QV (Qj (O m)) l):∃A U p cc,Q2 n t A/\Qa5 S A/\Qca n t (2 ^ n) cc/\f2 (0,99,[V 0,I (O n),I (O (Qm n)),I (QP n),V 1,N s0,X,N s1,X,N a0,X,N a1,X,N a,X,I k],[],(false,[S]))=f2 (0,357,[V 0,I (O n),I (O (Qm n)),I (QP n),V 1,N s0,X,N s1,X,N a0,X,N a1,X,N a,X,I k,I (O (Qt t)),I U,I (Qae (QC t) 0 0),N p,X,N cc,X,I (O (2 ^ n))],[],(false,[A])):=by
 obtain⟨U,eU⟩:=QhI hf1 hf2 (s0:=s0) (s1:=s1) (a0:=a0) (a1:=a1) (a:=a) (k:=k) (cnt:=O (Qt t)) W h5;obtain⟨p,hp',e⟩:=Qhp hf1 hf2 (S:=S) (s0:=s0) (s1:=s1) (a0:=a0) (a1:=a1) (a:=a) (k:=k) (cnt:=O (Qt t)) (U:=U) (code:=Qae (QC t) 0 0) h1 h5 (Qm n) 0 0 (by omega);have z:∀i,QF (0:Int64) i=false:=fun i=>by unfold QF;exact zam
 have hpm:∀m,m<2 ^ n->(QF p m=true↔∃l,Qo t l/\QV (Qj (O m)) l):=fun m hm=>by
  rw[hp' m,z,<-Qio W h1 h5 hin];constructor
  ·rintro (h | ⟨-,j,-,q2,q3,q4⟩)
   ·exact absurd h (by decide)
   ·exact⟨j,q2,q3,q4⟩
  ·rintro ⟨j,q2,q3,q4⟩
   exact Or.inr ⟨hm,j,zaA _,q2,q3,q4⟩
 obtain⟨A,cc,WA,kA,E,e'⟩:=QiD hf1 hf2 (s0:=s0) (s1:=s1) (a0:=a0) (a1:=a1) (a:=a) (k:=k) (cnt:=O (Qt t)) (U:=U) (code:=Qae (QC t) 0 0) h5 hpm (2 ^ n) 0 0 S (by omega) W (fun i=>by rw[z,zu (by omega),Bool.false_and]);exact⟨A,U,p,cc,WA,kA,E,Eq.trans (QhL hf1 hf2 W h1 h5 hin) (Eq.trans eU (Eq.trans (Qi7 hf1 hf2 W h1 h5 ha) (Eq.trans e e')))⟩
theorem Qhu(hf1:Fx f1)(hf2:Fix2 ms1 ms2 iv1 222 nmax1 (some xs) f1 f2)(hlen:QdW xs){n:Nat}(h1:1<=n)(h5:n<=5){a0 a1:Int64}(hA:∀j,j<Qm n->Q1 a0 a1 j=true):∀fu kk k S s0 s1 a,k=O kk->xs.length<=kk+fu->kk<=600->Qd9 n S s0 s1 a->∃W,f2 (0,99,[V 0,I (O n),I (O (Qm n)),I (QP n),V 1,N s0,X,N s1,X,N a0,X,N a1,X,N a,X,I k],[],(false,[S]))=some (some (I 1),W):=by
 intro fu;have hl:xs.length<=260:=hlen;obtain⟨fu1,fu2⟩:=Qcf h5;have pn:=Nat.two_pow_pos n;have fullt:QP n<O (2 ^ n):=by rw[fu1,Qq (by omega) (by omega)];omega
 have hz:∀c,Qj (0:Int32) c=true->c<n:=fun c hc=>by rw[(QcV 0).mp rfl c] at hc;exact absurd hc (by decide)
 induction fu with
 |zero=>
  intro kk k S s0 s1 a hk g1 g2 J;obtain⟨t,W,hp,hin,ha⟩:=J;obtain⟨A,U,p,cc,WA,kA,E,e⟩:=QgE hf1 hf2 (a0:=a0) (a1:=a1) (k:=k) h1 h5 W hin ha;refine Q4 e ?_;refine Q4 (Ee hf2 ..) ?_;rw[zb fullt,hk,za (by rw[Qq (by omega) (by omega)];omega)];exact⟨_,rfl⟩
 |succ fu ih=>
  intro kk k S s0 s1 a hk g1 g2 J;obtain⟨t,W,hp,hin,ha⟩:=J;obtain⟨A,U,p,cc,WA,kA,E,e⟩:=QgE hf1 hf2 (a0:=a0) (a1:=a1) (k:=k) h1 h5 W hin ha;refine Q4 e ?_;refine Q4 (Ee hf2 ..) ?_;rw[zb fullt];by_cases q:kk<xs.length
  ·have hpA:∀c,Qj (A 0 1) c=true->c<n:=by rw[kA 0 1 (by omega)];exact hp
   rw[zb (show k<O xs.length by rw[hk];exact (Qq (by omega) (by omega)).mpr q)];obtain⟨c1,ec1⟩:=Qfh hf1 hf2 (kk:=kk) (by omega) (by omega) [A];rw[<-hk] at ec1;rw[ec1];simp only[zz];refine Q4 (Eb0 hf2 ..) ?_;obtain⟨op,hop,eop⟩:=Qec hf1 hf2 (x:=c1) (m:=8) (by omega) (by omega) [A];have eop':f2 (2,0,[I c1,I 8],[],(false,[A]))=some (some (I (O op)),(false,[A])):=eop;rw[eop'];simp only[zz];refine Q4 (EcS hf2 ..) ?_;obtain⟨x,ex⟩:=Qfh hf1 hf2 (kk:=kk+1) (by omega) (by omega) [A];rw[<-Qx,<-hk] at ex;rw[ex];simp only[zz];refine Q4 (EeJ hf2 ..) ?_;have nxt:∀S' z0 z1 z,Qd9 n S' z0 z1 z->∃W,f2 (0,99,[V 0,I (O n),I (O (Qm n)),I (QP n),V 1,N z0,X,N z1,X,N a0,X,N a1,X,N z,X,I (k+2)],[],(false,[S']))=some (some (I 1),W):=fun S' z0 z1 z J'=>ih (kk+2) (k+2) S' z0 z1 z (by rw[hk];exact Qcq kk 2) (by omega) (by omega) J'
   have n2:O n+2=O (n+2):=Qcq n 2;obtain⟨v,hv,ev⟩:=Qec hf1 hf2 (x:=x) (m:=n+2) (by omega) (by omega) [A];rw[n2];by_cases o1:1<O op
   ·rw[zb o1];by_cases o2:O op=2
    ·rw[zb o2,ev];simp only[zz];refine Q4 (EcW hf2 ..) ?_;obtain⟨r,B,eB,uB,pB⟩:=QjI hf1 (x:=O v-1) hpA;rw[eB];simp only[zz];refine Q4 (Een hf2 ..) ?_;exact nxt B s0 s1 a ⟨t,Qfb hf1 WA uB,pB,hin,ha⟩
    rw[za o2];by_cases o6:O op=6
    ·rw[zb o6,Ecf hf1];simp only[zz];refine Q4 (Ecw hf2 ..) ?_;exact nxt _ s0 s1 a ⟨t,Qfb hf1 WA (fun d i h=>by rw[Qi,za h]),hz,hin,ha⟩
    rw[za o6];by_cases o7:O op=7
    ·rw[zb o7];obtain⟨u,hu,eu⟩:=Qec hf1 hf2 (x:=x) (m:=4) (by omega) (by omega) [A];have eu':f2 (2,0,[I x,I 4],[],(false,[A]))=some (some (I (O u)),(false,[A])):=eu;rw[eu'];simp only[zz];refine Q4 (EcA hf2 ..) ?_;by_cases u0:O u=0
     ·rw[zb u0];obtain⟨B,eB,WB,p1,-,-⟩:=Qds hf1 n A h1 (by omega) WA.1.2.2.1;rw[eB];simp only[zz];refine Q4 (EbF hf2 ..) ?_;refine nxt B a0 a1 0 ⟨Qbu n,WB,by rw[p1];exact hz,fun j hj=>?_,fun m _ hb=>?_⟩
      ·rw[hA j hj,QgS h1 WB.1.1.1];exact⟨fun _=>((Qcg h1 h5).2.1 _ (QdP hj)).1,fun _=>rfl⟩
      ·have z:QF (0:Int64) m=false:=by unfold QF;exact zam
       rw[z] at hb;exact absurd hb (by decide)
     ·rw[za u0];exact nxt A s0 s1 a ⟨t,WA,hpA,hin,ha⟩
    rw[za o7,Eh hf1];simp only[zz];refine Q4 (EdF hf2 ..) ?_;rw[Eap hf1];simp only[zz];refine Q4 (Eck hf2 ..) ?_;by_cases o3:O op=3
    ·rw[zb o3,Ecm hf1];simp only[zz];refine Q4 (Ed7 hf2 ..) ?_;obtain⟨B,t',eB,WB,sB,b1,-,-⟩:=QhJ hf1 WA hpA;rw[eB];simp only[zz];refine Q4 (Eb2 hf2 ..) ?_;exact QgA hf1 hf2 h1 h5 WA WB (by rw[b1];exact hz) hin ha E (Or.inr ⟨hpA,rfl,sB⟩) nxt
    rw[za o3];have arm:∀m,∃W,((f1 (8,0,[V 0,I m],[],A)).bind fun q=>f2 (0,635,[V 0,I (O n),I (O (Qm n)),I (QP n),V 1,N s0,X,N s1,X,N a0,X,N a1,X,N a,X,I (k+2),I (O (Qt t)),I U,I (Qae (QC t) 0 0),N p,X,N cc,X,I (O op),I x,I (A 0 11),I (A 0 12),I m],q.1.toList++[],(false,[q.2])))=some (some (I 1),W):=fun m=>by
     obtain⟨B,t',eB,WB,sB,b1,-,-⟩:=Qia hf1 (x:=m) WA;rw[eB];simp only[zz];refine Q4 (Eei hf2 ..) ?_;refine QgA hf1 hf2 h1 h5 WA WB (by rw[b1];exact hpA) hin ha E ?_ nxt;unfold Qbm;unfold QeU at sB;cases ir:Qbg n m
     ·rw[ir,za (by decide)] at sB;exact Or.inl ⟨by rw[za (by decide)],sB⟩
     ·rw[ir,zb rfl] at sB;exact Or.inr ⟨QdB (by omega) ir,by rw[zb rfl],sB⟩
    by_cases x0:x<0
    ·rw[zb x0];exact arm x
    ·rw[za x0];exact arm (x&&&63)
   ·rw[za o1,ev];simp only[zz];refine Q4 (EeZ hf2 ..) ?_;obtain⟨r,B,eB,uB,pB⟩:=Qh2 hf1 (x:=O v-1) WA.1.2.2.1 (by omega) hpA;rw[eB];simp only[zz];refine Q4 (EcY hf2 ..) ?_;exact nxt B s0 s1 a ⟨t,Qfb hf1 WA uB,pB,hin,ha⟩
  ·rw[za (show ¬k<O xs.length by rw[hk,Qq (by omega) (by omega)];exact q)];exact⟨_,rfl⟩
end Turns
theorem Qi6{f1:FT1}{f2:FT2}{xs:List Int32}(hf1:Fx f1)(hf2:Fix2 ms1 ms2 iv1 222 nmax1 (some xs) f1 f2)(hxs:xs.length<2147483648)(hlen:QdW xs):∃W,f2 (0,0,[V 0],[],(false,[]))=some (some (I 1),W):=by
 have hl:xs.length<=260:=hlen;refine Q4 (Ea2 hf2) ?_;obtain⟨c,ec⟩:=Qfh hf1 hf2 (kk:=0) (by omega) (by omega) [];have ec':f2 (1,0,[V 0,I 0],[],(false,[]))=some (some (I c),(false,[])):=ec;rw[ec'];simp only[zz];refine Q4 (EbS hf2 _) ?_;obtain⟨j,hj,ej⟩:=Qec hf1 hf2 (x:=c) (m:=5) (by omega) (by omega) [];have ej':f2 (2,0,[I c,I 5],[],(false,[]))=some (some (I (O j)),(false,[])):=ej;rw[ej'];simp only[zz];refine Q4 (EeT hf2 _) ?_;rw[Qx,Qf5 hf1 hf2 (show j+1<=5 by omega) []];simp only[zz];refine Q4 (EbJ hf2 _ _) ?_;obtain⟨n,h1,h8,en,mk⟩:=Qh7 hf1 (O (j+1));have nj:n=j+1:=by
  rw[za (show ¬O (j+1)<1 from fun h=>absurd ((Qq (b:=1) (by omega) (by omega)).mp h) (by omega)),za (show ¬8<O (j+1) from fun h=>absurd ((Qq (a:=8) (by omega) (by omega)).mp h) (by omega))] at en;exact (QeH (by omega) (by omega)).mp en
 subst nj;obtain⟨S,e,W,p1,-,-⟩:=mk (iniS iv1);rw[e];simp only[zz];refine Q4 (Ec0 hf2 _ _ _ S) ?_;obtain⟨z0,z1,hz,ez⟩:=Qhs hf1 hf2 (S:=S) (n:=j+1) (by omega) (Qm (j+1)) 0 0 0 (by omega) (fun i hi=>by omega);refine Q4 ez ?_;have hz0:∀c,Qj (0:Int32) c=true->c<j+1:=fun c hc=>by rw[(QcV 0).mp rfl c] at hc;exact absurd hc (by decide)
 refine Qhu hf1 hf2 hlen h1 (by omega) hz 300 1 1 S z0 z1 0 rfl (by omega) (by omega) ⟨Qbu (j+1),W,by rw[p1];exact hz0,fun i hi=>?_,fun m _ hb=>?_⟩
 ·rw[hz i hi,QgS h1 W.1.1.1];exact⟨fun _=>((Qcg h1 (by omega)).2.1 _ (QdP hi)).1,fun _=>rfl⟩
 ·have z:QF (0:Int64) m=false:=by unfold QF;exact zam
  rw[z] at hb;exact absurd hb (by decide)
end Sx
theorem own_script{s:State}{w0:Value}(hn:narrow_1.value #[w0] s none s []=some true)(hr:rest_1_c.before #[w0] s=true):∃(sa:Nat) (cell:Cell) (xs:List Int32),w0 = .ref sa/\sa<s.heap.size/\xs.length<2147483648/\QdW xs/\Arr s s.heap sa cell .int/\cell.slots.size=xs.length/\∀i,i<xs.length->cell.slots[i]? = some (.int (xs.getD i 0)):=by
 obtain⟨n1,n2⟩:=and_e hn;obtain⟨r1,r2⟩:=and_e (zaT.mp hr);obtain⟨b,xs,hb,hx⟩:=State.ints_of_pre (t:= .arg 0) rfl (zaT.mpr n1) (zaT.mpr r1) (zaT.mpr r2);have hw:w0 = .ref b:=by simpa [Term.eval] using hb
 subst hw;have hl:=hx.small;have he:=hx.length_eval (t:= .arg 0) hb;rw[Cond.le_ints he rfl] at n2;obtain⟨cell,h1,h2,h3,h4⟩:=hx;obtain⟨hc,-,-,-⟩:=State.arrayAt?_spec h1;obtain⟨-,hu⟩:=Cond.arrayOf_spec (zaT.mpr n1) hb hc;have hsz:cell.slots.size=xs.length:=by rw[<-Array.length_toList,h2,zh]
 refine⟨b,cell,xs,rfl,(Array.getElem?_eq_some_iff.mp hc).1,hl,?_,⟨hc,h3,hu⟩,hsz,fun i hi=>?_⟩
 ·have q:xs.length.toInt32<=260:=by simpa using n2
  rw[zaZ] at q;have e1:xs.length.toInt32.toInt=xs.length:=Int32.toInt_ofNat_of_lt hl;have e2:(260:Int32).toInt=260:=rfl;rw[e1,e2] at q;show xs.length<=260;omega
 ·rw[<-Array.getElem?_toList,h2];simp[hi,List.getD]
theorem own_met(l:Launch)(Z:State)(a0:Array Value)(hw:∀d∈tables_1,d.before a0 Z=true)(ws:List Jvm.Cond)(h:Heap)(sa:Nat)(xs:List Int32)(hxs:xs.length<2147483648)(hlen:QdW xs)(hsa:sa<h.size)(cell:Cell)(A:Arr Z h sa cell .int)(hs:cell.slots.size=xs.length)(he:∀i,i<xs.length->cell.slots[i]? = some (.int (xs.getD i 0))) :
  MetFree l x (head1 (Jvm.Cond.code x code maxLocals ret::ws) room_1) (fun a U=>a = #[.ref sa]/\Z.Warmed39 U.vm/\U.heap=h) (fun _ _ _ _ _=>True)
   (fun _ U o U'=>∃v L,o = .returned v/\(v=some (.int 1)/\Fr h.size L)/\FrameEnd U o U' L room_1.cells room_1.slots):=
 law_of (sc:=some xs) (sa:=sa) (nmax:=nmax1) (as:=[.ref 0]) own_d1 own_g1 own_r1 own_d2 own_g2 own_rv own_rc own_rs own_h1 own_h2 hw rfl (zao rfl) (zao rfl) (zao rfl) (zao rfl) (zao rfl) (fun ys q=>by cases q;exact⟨hsa,hxs,cell,A,hs,he⟩)
  (fun f1 f2 hf1 hf2=>Qi6 hf1 hf2 hxs hlen) ws
theorem comes_1{Post:Tables->Env->Array Value->State->Outcome->State->Prop}(hpost:∀tb e args s v u,(limb_1_1.after args s (.returned v) u=true/\limb_1_2.after args s (.returned v) u=true/\True)->FrameEnd s (.returned v) u (Jvm.fieldLocs frame_1_writes args s++Jvm.arrayLocs frame_1_arrays args s++Jvm.staticLocs frame_1_statics s) 56 4544->Post tb e args s (.returned v) u) :
  ArmFor flags0 classFile x code maxLocals ret World_1 tables_1 room_1 Calls_1 rest_1 Pre_1 Post:=by
 intro l hfl _ _ p e ha hc hk s m args below hf hA hF happ hP;obtain⟨hcalls,hrest,hpre⟩:=hP;obtain⟨-,-,-,hnamed,-,-,-,hat⟩:=(Spec.applies_iff hf).mp happ;obtain⟨hg,hn⟩:=and_e (zaT.mp (show (Jvm.Cond.and given_1 narrow_1).before args s=true from hpre));obtain⟨g0,q0⟩:=and_e hg;obtain⟨w0,rfl⟩:∃w0:Value,args = #[w0]:=by
  have hs:args.size=1:=by simpa [Cond.value,given_1] using g0
  obtain⟨L⟩:=args
  match L,hs with
  |[w0],_=>exact⟨w0,rfl⟩
 have hw:=fun d (hd:d∈tables_1)=>atoms_spec (ws:=Jvm.Cond.code x code maxLocals ret::tables_1) hat d (List.mem_cons_of_mem _ hd);obtain⟨sa,cell,xs,rfl,hsa,hxs,hlen,A,hz,he⟩:=own_script hn (show rest_1_c.before _ _=true from hrest);obtain⟨n,o,h1,h2,h3,_,L,rfl,⟨rfl,N⟩,hq⟩:=own_met l s _ hw tables_1 s.heap sa xs hxs hlen hsa cell A hz he p e ha hc hk s m _ below hf ((Spec.applies_iff_loose hf).mp happ).1 ⟨rfl,State.Warmed39.refl s,rfl⟩ trivial;refine⟨n,_,h1,h2,h3,hpost _ _ _ _ _ _ ⟨Cond.after_iff.mpr rfl,Cond.after_iff.mpr (eq_i res_at (Term.int_eval (1)) rfl),trivial⟩ ⟨hq.1,hq.2.1,(hq.2.2.sift fun y hy=>Or.inr (N y hy)).mono (zao rfl) (zao rfl)⟩⟩
theorem main_1_1:Claimed_1_1:=comes_1 fun _ _ _ _ _ _ h hF=>⟨h.1,hF⟩
theorem main_1_2:Claimed_1_2:=comes_1 fun _ _ _ _ _ _ h hF=>⟨h.2.1,hF⟩
end Jvm.Pilot.@@N@@
namespace Jvm.Pilot.@@N@@
open Jvm Jvm.ClassFile Sem Op Lib Jvm.Free Jvm.Stand Jvm.Pilot.@@N@@.Jvm.D
/-! MADE BY PROGRAM (witnessworld.py) out of the Statement's table words and the real class files: 11 classes;the members and pool entries that the words name. The judged class is class 1,her method 8. -/
set_option maxRecDepth 65536
namespace start1
open Jvm.ClassFile
def u (s:String):CpInfo:= .utf8 (stringToUtf16 s)
/-- a pool by its gaps: so many unusable entries,then the entry;so many at the end -/
def gap:Nat→List CpInfo→List CpInfo
  |0,r=>r
  |n+1,r => .unusable::gap n r
def poolList (es:List (Nat×CpInfo)) (last:Nat):List CpInfo:=es.foldr (fun e r=>gap e.1 (e.2::r)) (gap last [])
def pool (es:List (Nat×CpInfo)) (last:Nat):Array CpInfo:=⟨poolList es last⟩
def fileOf (pool:Array CpInfo) (this:Nat) (attrs:Array Attribute := #[]) (ms:Array MethodInfo := #[]) (fl:Nat:=33) (sup:Nat:=0) (ifs:Array Nat := #[]) (fds:Array FieldInfo := #[]):ClassFile where
  minorVersion:=0
  majorVersion:=65
  constantPool:=pool
  accessFlags:=fl
  thisClass:=this
  superClass:=sup
  interfaces:=ifs
  fields:=fds
  methods:=ms
  attributes:=attrs
def plain (name:String) (sup:Option ClassId):Class where
  name:=name
  kind:= .ordinary
  loader:=none
  accessFlags:=33
  super:=sup
  interfaces := #[]
  cf:=none
  fields := #[]
  methods := #[]
  instanceTypes := #[]
  staticTypes := #[]
  resolved := #[]
  callSites:=[]
  init:= .initialized
  statics:=none
  mirror:=none

def pool0:Array CpInfo:=pool [(5,u "<init>"),(0,u "()V"),(1,.class_ 10),(1,u "java/lang/Object")] 113

def k0c0:Code:=⟨0,1,object_method_1_code,#[],#[]⟩
def k0m0:Method:=⟨"<init>","()V",⟨[],none⟩,1,some k0c0⟩
/-- java/lang/Object -/
def k0:Class:={ plain "java/lang/Object" none with
  accessFlags:=33
  interfaces := #[]
  cf:=some (fileOf pool0 8 #[] #[⟨1,5,6,#[]⟩] 33 0 #[] #[])
  fields := #[]
  methods := #[k0m0]
  instanceTypes := #[]
  staticTypes := #[]
  resolved:=Array.replicate 124 none
  statics:=none }

def pool1:Array CpInfo:=pool [(2,.class_ 4),(1,u "java/lang/Object"),(0,u "<init>"),(0,u "()V"),(0,.methodref 8 9),(0,.class_ 10),(0,.nameAndType 11 12),(0,u "PqOnesOrderOwnLaw"),(0,u "fact"),(0,u "(I)I"),(0,.methodref 8 14),(0,.nameAndType 15 16),(0,u "at"),(0,u "(II)I"),(0,.methodref 8 18),(0,.nameAndType 19 20),(0,u "cell"),(0,u "([II)I"),(0,.methodref 8 22),(0,.nameAndType 23 16),(0,u "mod"),(0,.class_ 25),(0,u "PqOnesOrder"),(0,.methodref 24 27),(0,.nameAndType 5 28),(0,u "(I)V"),(0,.methodref 8 30),(0,.nameAndType 31 32),(0,u "inS"),(0,u "(JJI)Z"),(0,.methodref 24 34),(0,.nameAndType 35 36),(0,u "countOrders"),(0,u "()I"),(0,.methodref 24 38),(0,.nameAndType 39 12),(0,u "leastOrderAt"),(0,.methodref 24 41),(0,.nameAndType 42 12),(0,u "leastPositionOf"),(0,.methodref 8 44),(0,.nameAndType 45 46),(0,u "consec"),(0,u "(III)Z"),(0,.methodref 8 48),(0,.nameAndType 49 16),(0,u "perm"),(0,.methodref 24 51),(0,.nameAndType 52 12),(0,u "classify"),(0,.methodref 24 54),(0,.nameAndType 55 56),(0,u "addColumn"),(0,u "(I)Z"),(0,.methodref 24 58),(0,.nameAndType 59 56),(0,u "removeColumn"),(0,.methodref 24 61),(0,.nameAndType 62 6),(0,u "clearRow"),(0,.methodref 24 64),(0,.nameAndType 65 6),(0,u "reset"),(0,.methodref 24 67),(0,.nameAndType 68 36),(0,u "startMask"),(0,.methodref 24 70),(0,.nameAndType 71 36),(0,u "pendingMask"),(0,.methodref 24 73),(0,.nameAndType 74 36),(0,u "commitRow"),(0,.methodref 24 76),(0,.nameAndType 77 12),(0,u "addRowMask"),(0,.long 3),(1,.long 18446744073709551615),(4,u "law"),(0,u "([I)Z")] 4

def k1m0:Method:=⟨"<init>","()V",⟨[],none⟩,1,none⟩
def k1c1:Code:=⟨2,2,method_2_code,#[],#[]⟩
def k1m1:Method:=⟨"cell","([II)I",⟨[(.array .int),.int],some .int⟩,10,some k1c1⟩
def k1c2:Code:=⟨2,3,method_3_code,#[],#[]⟩
def k1m2:Method:=⟨"mod","(II)I",⟨[.int,.int],some .int⟩,10,some k1c2⟩
def k1c3:Code:=⟨2,3,method_4_code,#[],#[]⟩
def k1m3:Method:=⟨"fact","(I)I",⟨[.int],some .int⟩,10,some k1c3⟩
def k1c4:Code:=⟨4,9,method_5_code,#[],#[]⟩
def k1m4:Method:=⟨"perm","(II)I",⟨[.int,.int],some .int⟩,10,some k1c4⟩
def k1c5:Code:=⟨3,2,method_6_code,#[],#[]⟩
def k1m5:Method:=⟨"at","(II)I",⟨[.int,.int],some .int⟩,10,some k1c5⟩
def k1c6:Code:=⟨3,5,method_7_code,#[],#[]⟩
def k1m6:Method:=⟨"consec","(III)Z",⟨[.int,.int,.int],some .boolean⟩,10,some k1c6⟩
def k1c7:Code:=⟨4,5,method_8_code,#[],#[]⟩
def k1m7:Method:=⟨"inS","(JJI)Z",⟨[.long,.long,.int],some .boolean⟩,10,some k1c7⟩
def k1c8:Code:=⟨6,30,code,#[],#[]⟩
def k1m8:Method:=⟨"law","([I)Z",⟨[(.array .int)],some .boolean⟩,9,some k1c8⟩
/-- PqOnesOrderOwnLaw -/
def k1:Class:={ plain "PqOnesOrderOwnLaw" (some 0) with
  accessFlags:=49
  interfaces := #[]
  cf:=some (fileOf pool1 8 #[] #[⟨1,5,6,#[]⟩,⟨10,19,20,#[]⟩,⟨10,23,16,#[]⟩,⟨10,11,12,#[]⟩,⟨10,49,16,#[]⟩,⟨10,15,16,#[]⟩,⟨10,45,46,#[]⟩,⟨10,31,32,#[]⟩,⟨9,85,86,#[]⟩] 49 2 #[] #[])
  fields := #[]
  methods := #[k1m0,k1m1,k1m2,k1m3,k1m4,k1m5,k1m6,k1m7,k1m8]
  instanceTypes := #[]
  staticTypes := #[]
  resolved:=Array.replicate 91 none
  statics:=none }

def pool2:Array CpInfo:=pool [(1,.methodref 2 3),(0,.class_ 4),(0,.nameAndType 5 6),(0,u "java/lang/Object"),(0,u "<init>"),(0,u "()V"),(0,.fieldref 8 9),(0,.class_ 10),(0,.nameAndType 11 12),(0,u "PqOnesOrder"),(0,u "leafKind"),(0,u "I"),(0,.fieldref 8 14),(0,.nameAndType 15 12),(0,u "pKind"),(0,.fieldref 8 17),(0,.nameAndType 18 12),(0,u "qKind"),(0,.fieldref 8 20),(0,.nameAndType 21 12),(0,u "emptyLabel"),(0,.fieldref 8 23),(0,.nameAndType 24 12),(0,u "fullLabel"),(0,.fieldref 8 26),(0,.nameAndType 27 12),(0,u "partialLabel"),(0,.fieldref 8 29),(0,.nameAndType 30 31),(0,u "kind"),(0,u "[I"),(0,.fieldref 8 33),(0,.nameAndType 34 31),(0,u "parent"),(0,.fieldref 8 36),(0,.nameAndType 37 31),(0,u "degree"),(0,.fieldref 8 39),(0,.nameAndType 40 31),(0,u "kids"),(0,.fieldref 8 42),(0,.nameAndType 43 44),(0,u "live"),(0,u "[Z"),(0,.fieldref 8 46),(0,.nameAndType 47 31),(0,u "savedKind"),(0,.fieldref 8 49),(0,.nameAndType 50 31),(0,u "savedParent"),(0,.fieldref 8 52),(0,.nameAndType 53 31),(0,u "savedDegree"),(0,.fieldref 8 55),(0,.nameAndType 56 31),(0,u "savedKids"),(0,.fieldref 8 58),(0,.nameAndType 59 44),(0,u "savedLive"),(0,.fieldref 8 61),(0,.nameAndType 62 31),(0,u "label"),(0,.fieldref 8 64),(0,.nameAndType 65 31),(0,u "leafSet"),(0,.fieldref 8 67),(0,.nameAndType 68 31),(0,u "post"),(0,.fieldref 8 70),(0,.nameAndType 71 31),(0,u "stackNode"),(0,.fieldref 8 73),(0,.nameAndType 74 31),(0,u "stackIdx"),(0,.fieldref 8 76),(0,.nameAndType 77 31),(0,u "seq"),(0,.fieldref 8 79),(0,.nameAndType 80 31),(0,u "emptyKids"),(0,.fieldref 8 82),(0,.nameAndType 83 31),(0,u "fullKids"),(0,.fieldref 8 85),(0,.nameAndType 86 31),(0,u "partKids"),(0,.fieldref 8 88),(0,.nameAndType 89 31),(0,u "firstLeast"),(0,.fieldref 8 91),(0,.nameAndType 92 31),(0,u "startSet"),(0,.fieldref 8 94),(0,.nameAndType 95 31),(0,u "least"),(0,.fieldref 8 97),(0,.nameAndType 98 31),(0,u "leastPos"),(0,.fieldref 8 100),(0,.nameAndType 101 12),(0,u "n"),(0,.methodref 8 103),(0,.nameAndType 104 6),(0,u "reset"),(0,.methodref 8 106),(0,.nameAndType 107 6),(0,u "initTree"),(0,.fieldref 8 109),(0,.nameAndType 110 12),(0,u "pending"),(0,.fieldref 8 112),(0,.nameAndType 113 12),(0,u "acceptedCount"),(0,.fieldref 8 115),(0,.nameAndType 116 12),(0,u "rejectedCount"),(0,.methodref 8 118),(0,.nameAndType 119 6),(0,u "refreshCaches"),(0,.methodref 8 121),(0,.nameAndType 122 123),(0,u "allMask"),(0,u "()I"),(0,.methodref 8 125),(0,.nameAndType 126 127),(0,u "addMask"),(0,u "(I)I"),(0,.methodref 8 129),(0,.nameAndType 130 131),(0,u "inRange"),(0,u "(I)Z"),(0,.methodref 8 133),(0,.nameAndType 134 127),(0,u "verdict"),(0,.methodref 8 136),(0,.nameAndType 137 6),(0,u "restoreTree"),(0,.fieldref 8 139),(0,.nameAndType 140 12),(0,u "orderCount"),(0,.fieldref 8 142),(0,.nameAndType 143 12),(0,u "startCols"),(0,.methodref 8 145),(0,.nameAndType 146 131),(0,u "isTrivial"),(0,.methodref 8 148),(0,.nameAndType 149 6),(0,u "saveTree"),(0,.methodref 8 151),(0,.nameAndType 152 131),(0,u "reduce"),(0,.methodref 8 154),(0,.nameAndType 155 6),(0,u "computePost"),(0,.methodref 8 157),(0,.nameAndType 158 123),(0,u "countFromPost"),(0,.methodref 8 160),(0,.nameAndType 161 131),(0,u "isNode"),(0,.fieldref 8 163),(0,.nameAndType 164 12),(0,u "root"),(0,.methodref 8 166),(0,.nameAndType 167 168),(0,u "appendKid"),(0,u "(II)Z"),(0,.methodref 8 170),(0,.nameAndType 171 172),(0,u "clearKids"),(0,u "(I)V"),(0,.fieldref 8 174),(0,.nameAndType 175 12),(0,u "savedRoot"),(0,.fieldref 8 177),(0,.nameAndType 178 12),(0,u "postLen"),(0,.methodref 8 180),(0,.nameAndType 181 131),(0,u "isInner"),(0,.methodref 8 183),(0,.nameAndType 184 127),(0,u "degreeOf"),(0,.methodref 8 186),(0,.nameAndType 187 188),(0,u "kidAt"),(0,u "(II)I"),(0,.methodref 8 190),(0,.nameAndType 191 123),(0,u "findSingleKid"),(3,.methodref 8 196),(0,.nameAndType 197 172),(0,u "freeNode"),(0,.methodref 8 199),(0,.nameAndType 200 201),(0,u "putKid"),(0,u "(III)V"),(0,.methodref 8 203),(0,.nameAndType 204 6),(0,u "computeLeafSets"),(0,.methodref 8 206),(0,.nameAndType 207 172),(0,u "labelLeaves"),(0,.methodref 8 209),(0,.nameAndType 210 127),(0,u "findPertinentRoot"),(0,.methodref 8 212),(0,.nameAndType 213 131),(0,u "reduceInner"),(0,.methodref 8 215),(0,.nameAndType 216 131),(0,u "reduceRoot"),(0,.methodref 8 218),(0,.nameAndType 219 6),(0,u "normalize"),(0,.methodref 8 221),(0,.nameAndType 222 6),(0,u "collectGarbage"),(0,.methodref 8 224),(0,.nameAndType 225 131),(0,u "pInner"),(0,.methodref 8 227),(0,.nameAndType 228 131),(0,u "qInner"),(0,.methodref 8 230),(0,.nameAndType 231 131),(0,u "pRoot"),(0,.methodref 8 233),(0,.nameAndType 234 131),(0,u "qRoot"),(0,.fieldref 8 236),(0,.nameAndType 237 12),(0,u "emptyCount"),(0,.fieldref 8 239),(0,.nameAndType 240 12),(0,u "fullCount"),(0,.fieldref 8 242),(0,.nameAndType 243 12),(0,u "partCount"),(0,.methodref 8 245),(0,.nameAndType 246 127),(0,u "labelOf"),(0,.methodref 8 248),(0,.nameAndType 249 188),(0,u "allocNode"),(0,.fieldref 8 251),(0,.nameAndType 252 12),(0,u "seqLen"),(0,.methodref 8 254),(0,.nameAndType 255 172),(0,u "seqPush"),(0,.methodref 8 257),(0,.nameAndType 258 127),(0,u "rankOf"),(0,.methodref 8 260),(0,.nameAndType 261 172),(0,u "sortKids"),(0,.methodref 8 263),(0,.nameAndType 264 265),(0,u "groupOf"),(0,u "(Z)I"),(0,.methodref 8 267),(0,.nameAndType 268 6),(0,u "seqStart"),(0,.methodref 8 270),(0,.nameAndType 271 272),(0,u "seqPushKids"),(0,u "(IZ)V"),(0,.methodref 8 274),(0,.nameAndType 275 131),(0,u "installSeq"),(0,.methodref 8 277),(0,.nameAndType 278 127),(0,u "direction"),(0,.methodref 8 280),(0,.nameAndType 281 172),(0,u "reverseKids"),(0,.methodref 8 283),(0,.nameAndType 284 131),(0,u "pRootNoPartial"),(0,.methodref 8 286),(0,.nameAndType 287 131),(0,u "pRootOnePartial"),(0,.methodref 8 289),(0,.nameAndType 290 131),(0,u "pRootTwoPartial"),(0,.methodref 8 292),(0,.nameAndType 293 6),(0,u "seqPushEmpties"),(0,.methodref 8 295),(0,.nameAndType 296 127),(0,u "firstNonEmpty"),(0,.methodref 8 298),(0,.nameAndType 299 127),(0,u "lastNonEmpty"),(0,.methodref 8 301),(0,.nameAndType 302 6),(0,u "computeFirstAndStart"),(0,.methodref 8 304),(0,.nameAndType 305 127),(0,u "startSetOf"),(0,.methodref 8 307),(0,.nameAndType 308 6),(0,u "buildLeastOrder"),(0,.methodref 8 310),(0,.nameAndType 311 127),(0,u "factorial"),(0,.methodref 8 313),(0,.nameAndType 314 172),(0,u "pFirstStart"),(0,.methodref 8 316),(0,.nameAndType 317 172),(0,u "qFirstStart"),(0,.methodref 8 319),(0,.nameAndType 320 127),(0,u "firstLeastOf"),(0,.methodref 8 322),(0,.nameAndType 323 188),(0,u "pushPOrdered"),(0,.methodref 8 325),(0,.nameAndType 326 188),(0,u "pushQOrdered"),(0,.methodref 8 328),(0,.nameAndType 329 6),(0,u "fillPositions"),(0,u "INVALID"),(2,u "NEW"),(1,u "IMPLIED"),(1,u "REJECTED"),(1,u "MIN_COLUMNS"),(0,u "MAX_COLUMNS"),(5,u "clearRow"),(0,u "addColumn"),(0,u "removeColumn"),(0,u "pendingMask"),(0,u "commitRow"),(0,u "addRowMask"),(0,u "classify"),(0,u "countOrders"),(0,u "leastOrderAt"),(0,u "leastPositionOf"),(0,u "startMask")] 5

def k2c0:Code:=⟨2,3,prog_1_method_1_code,#[],#[]⟩
def k2m0:Method:=⟨"<init>","(I)V",⟨[.int],none⟩,1,some k2c0⟩
def k2c1:Code:=⟨2,1,prog_1_method_3_code,#[],#[]⟩
def k2m1:Method:=⟨"reset","()V",⟨[],none⟩,1,some k2c1⟩
def k2c2:Code:=⟨2,1,prog_1_method_4_code,#[],#[]⟩
def k2m2:Method:=⟨"clearRow","()V",⟨[],none⟩,1,some k2c2⟩
def k2c3:Code:=⟨4,2,prog_1_method_5_code,#[],#[]⟩
def k2m3:Method:=⟨"addColumn","(I)Z",⟨[.int],some .boolean⟩,1,some k2c3⟩
def k2c4:Code:=⟨4,2,prog_1_method_6_code,#[],#[]⟩
def k2m4:Method:=⟨"removeColumn","(I)Z",⟨[.int],some .boolean⟩,1,some k2c4⟩
def k2c5:Code:=⟨1,1,prog_1_method_7_code,#[],#[]⟩
def k2m5:Method:=⟨"pendingMask","()I",⟨[],some .int⟩,1,some k2c5⟩
def k2c6:Code:=⟨2,4,prog_1_method_8_code,#[],#[]⟩
def k2m6:Method:=⟨"commitRow","()I",⟨[],some .int⟩,1,some k2c6⟩
def k2c7:Code:=⟨2,2,prog_1_method_9_code,#[],#[]⟩
def k2m7:Method:=⟨"addRowMask","(I)I",⟨[.int],some .int⟩,1,some k2c7⟩
def k2c8:Code:=⟨2,3,prog_1_method_10_code,#[],#[]⟩
def k2m8:Method:=⟨"classify","(I)I",⟨[.int],some .int⟩,1,some k2c8⟩
def k2c9:Code:=⟨1,1,prog_1_method_11_code,#[],#[]⟩
def k2m9:Method:=⟨"countOrders","()I",⟨[],some .int⟩,1,some k2c9⟩
def k2c10:Code:=⟨2,2,prog_1_method_12_code,#[],#[]⟩
def k2m10:Method:=⟨"leastOrderAt","(I)I",⟨[.int],some .int⟩,1,some k2c10⟩
def k2c11:Code:=⟨2,2,prog_1_method_13_code,#[],#[]⟩
def k2m11:Method:=⟨"leastPositionOf","(I)I",⟨[.int],some .int⟩,1,some k2c11⟩
def k2c12:Code:=⟨1,1,prog_1_method_14_code,#[],#[]⟩
def k2m12:Method:=⟨"startMask","()I",⟨[],some .int⟩,1,some k2c12⟩
def k2c13:Code:=⟨3,3,prog_1_method_17_code,#[],#[]⟩
def k2m13:Method:=⟨"addMask","(I)I",⟨[.int],some .int⟩,2,some k2c13⟩
def k2c14:Code:=⟨2,3,prog_1_method_18_code,#[],#[]⟩
def k2m14:Method:=⟨"verdict","(I)I",⟨[.int],some .int⟩,2,some k2c14⟩
def k2c15:Code:=⟨2,1,prog_1_method_19_code,#[],#[]⟩
def k2m15:Method:=⟨"allMask","()I",⟨[],some .int⟩,2,some k2c15⟩
def k2c16:Code:=⟨3,3,prog_1_method_20_code,#[],#[]⟩
def k2m16:Method:=⟨"inRange","(I)Z",⟨[.int],some .boolean⟩,2,some k2c16⟩
def k2c17:Code:=⟨2,4,prog_1_method_21_code,#[],#[]⟩
def k2m17:Method:=⟨"isTrivial","(I)Z",⟨[.int],some .boolean⟩,2,some k2c17⟩
def k2c18:Code:=⟨2,2,prog_1_method_22_code,#[],#[]⟩
def k2m18:Method:=⟨"isNode","(I)Z",⟨[.int],some .boolean⟩,2,some k2c18⟩
def k2c19:Code:=⟨2,2,prog_1_method_23_code,#[],#[]⟩
def k2m19:Method:=⟨"isInner","(I)Z",⟨[.int],some .boolean⟩,2,some k2c19⟩
def k2c20:Code:=⟨2,3,prog_1_method_24_code,#[],#[]⟩
def k2m20:Method:=⟨"degreeOf","(I)I",⟨[.int],some .int⟩,2,some k2c20⟩
def k2c21:Code:=⟨3,3,prog_1_method_25_code,#[],#[]⟩
def k2m21:Method:=⟨"kidAt","(II)I",⟨[.int,.int],some .int⟩,2,some k2c21⟩
def k2c22:Code:=⟨3,4,prog_1_method_26_code,#[],#[]⟩
def k2m22:Method:=⟨"putKid","(III)V",⟨[.int,.int,.int],none⟩,2,some k2c22⟩
def k2c23:Code:=⟨2,2,prog_1_method_27_code,#[],#[]⟩
def k2m23:Method:=⟨"labelOf","(I)I",⟨[.int],some .int⟩,2,some k2c23⟩
def k2c24:Code:=⟨2,2,prog_1_method_28_code,#[],#[]⟩
def k2m24:Method:=⟨"firstLeastOf","(I)I",⟨[.int],some .int⟩,2,some k2c24⟩
def k2c25:Code:=⟨2,2,prog_1_method_29_code,#[],#[]⟩
def k2m25:Method:=⟨"startSetOf","(I)I",⟨[.int],some .int⟩,2,some k2c25⟩
def k2c26:Code:=⟨4,4,prog_1_method_30_code,#[],#[]⟩
def k2m26:Method:=⟨"appendKid","(II)Z",⟨[.int,.int],some .boolean⟩,2,some k2c26⟩
def k2c27:Code:=⟨3,4,prog_1_method_31_code,#[],#[]⟩
def k2m27:Method:=⟨"clearKids","(I)V",⟨[.int],none⟩,2,some k2c27⟩
def k2c28:Code:=⟨3,2,prog_1_method_32_code,#[],#[]⟩
def k2m28:Method:=⟨"initTree","()V",⟨[],none⟩,2,some k2c28⟩
def k2c29:Code:=⟨3,4,prog_1_method_33_code,#[],#[]⟩
def k2m29:Method:=⟨"allocNode","(II)I",⟨[.int,.int],some .int⟩,2,some k2c29⟩
def k2c30:Code:=⟨3,2,prog_1_method_34_code,#[],#[]⟩
def k2m30:Method:=⟨"freeNode","(I)V",⟨[.int],none⟩,2,some k2c30⟩
def k2c31:Code:=⟨4,2,prog_1_method_35_code,#[],#[]⟩
def k2m31:Method:=⟨"saveTree","()V",⟨[],none⟩,2,some k2c31⟩
def k2c32:Code:=⟨4,2,prog_1_method_36_code,#[],#[]⟩
def k2m32:Method:=⟨"restoreTree","()V",⟨[],none⟩,2,some k2c32⟩
def k2c33:Code:=⟨4,7,prog_1_method_37_code,#[],#[]⟩
def k2m33:Method:=⟨"computePost","()V",⟨[],none⟩,2,some k2c33⟩
def k2c34:Code:=⟨4,7,prog_1_method_38_code,#[],#[]⟩
def k2m34:Method:=⟨"computeLeafSets","()V",⟨[],none⟩,2,some k2c34⟩
def k2c35:Code:=⟨3,3,prog_1_method_39_code,#[],#[]⟩
def k2m35:Method:=⟨"collectGarbage","()V",⟨[],none⟩,2,some k2c35⟩
def k2c36:Code:=⟨2,3,prog_1_method_40_code,#[],#[]⟩
def k2m36:Method:=⟨"normalize","()V",⟨[],none⟩,2,some k2c36⟩
def k2c37:Code:=⟨3,4,prog_1_method_41_code,#[],#[]⟩
def k2m37:Method:=⟨"findSingleKid","()I",⟨[],some .int⟩,2,some k2c37⟩
def k2c38:Code:=⟨2,5,prog_1_method_43_code,#[],#[]⟩
def k2m38:Method:=⟨"reduce","(I)Z",⟨[.int],some .boolean⟩,2,some k2c38⟩
def k2c39:Code:=⟨3,3,prog_1_method_44_code,#[],#[]⟩
def k2m39:Method:=⟨"labelLeaves","(I)V",⟨[.int],none⟩,2,some k2c39⟩
def k2c40:Code:=⟨2,4,prog_1_method_45_code,#[],#[]⟩
def k2m40:Method:=⟨"findPertinentRoot","(I)I",⟨[.int],some .int⟩,2,some k2c40⟩
def k2c41:Code:=⟨2,2,prog_1_method_46_code,#[],#[]⟩
def k2m41:Method:=⟨"reduceInner","(I)Z",⟨[.int],some .boolean⟩,2,some k2c41⟩
def k2c42:Code:=⟨2,2,prog_1_method_47_code,#[],#[]⟩
def k2m42:Method:=⟨"reduceRoot","(I)Z",⟨[.int],some .boolean⟩,2,some k2c42⟩
def k2c43:Code:=⟨3,6,prog_1_method_48_code,#[],#[]⟩
def k2m43:Method:=⟨"sortKids","(I)V",⟨[.int],none⟩,2,some k2c43⟩
def k2c44:Code:=⟨3,7,prog_1_method_49_code,#[],#[]⟩
def k2m44:Method:=⟨"groupOf","(Z)I",⟨[.boolean],some .int⟩,2,some k2c44⟩
def k2c45:Code:=⟨2,1,prog_1_method_50_code,#[],#[]⟩
def k2m45:Method:=⟨"seqStart","()V",⟨[],none⟩,2,some k2c45⟩
def k2c46:Code:=⟨3,2,prog_1_method_51_code,#[],#[]⟩
def k2m46:Method:=⟨"seqPush","(I)V",⟨[.int],none⟩,2,some k2c46⟩
def k2c47:Code:=⟨3,2,prog_1_method_52_code,#[],#[]⟩
def k2m47:Method:=⟨"seqPushEmpties","()V",⟨[],none⟩,2,some k2c47⟩
def k2c48:Code:=⟨3,7,prog_1_method_53_code,#[],#[]⟩
def k2m48:Method:=⟨"seqPushKids","(IZ)V",⟨[.int,.boolean],none⟩,2,some k2c48⟩
def k2c49:Code:=⟨4,3,prog_1_method_54_code,#[],#[]⟩
def k2m49:Method:=⟨"installSeq","(I)Z",⟨[.int],some .boolean⟩,2,some k2c49⟩
def k2c50:Code:=⟨4,7,prog_1_method_55_code,#[],#[]⟩
def k2m50:Method:=⟨"reverseKids","(I)V",⟨[.int],none⟩,2,some k2c50⟩
def k2c51:Code:=⟨2,2,prog_1_method_56_code,#[],#[]⟩
def k2m51:Method:=⟨"rankOf","(I)I",⟨[.int],some .int⟩,2,some k2c51⟩
def k2c52:Code:=⟨3,10,prog_1_method_57_code,#[],#[]⟩
def k2m52:Method:=⟨"direction","(I)I",⟨[.int],some .int⟩,2,some k2c52⟩
def k2c53:Code:=⟨3,5,prog_1_method_58_code,#[],#[]⟩
def k2m53:Method:=⟨"pInner","(I)Z",⟨[.int],some .boolean⟩,2,some k2c53⟩
def k2c54:Code:=⟨3,7,prog_1_method_59_code,#[],#[]⟩
def k2m54:Method:=⟨"qInner","(I)Z",⟨[.int],some .boolean⟩,2,some k2c54⟩
def k2c55:Code:=⟨2,2,prog_1_method_60_code,#[],#[]⟩
def k2m55:Method:=⟨"pRoot","(I)Z",⟨[.int],some .boolean⟩,2,some k2c55⟩
def k2c56:Code:=⟨2,3,prog_1_method_61_code,#[],#[]⟩
def k2m56:Method:=⟨"pRootNoPartial","(I)Z",⟨[.int],some .boolean⟩,2,some k2c56⟩
def k2c57:Code:=⟨3,4,prog_1_method_62_code,#[],#[]⟩
def k2m57:Method:=⟨"pRootOnePartial","(I)Z",⟨[.int],some .boolean⟩,2,some k2c57⟩
def k2c58:Code:=⟨3,5,prog_1_method_63_code,#[],#[]⟩
def k2m58:Method:=⟨"pRootTwoPartial","(I)Z",⟨[.int],some .boolean⟩,2,some k2c58⟩
def k2c59:Code:=⟨3,5,prog_1_method_64_code,#[],#[]⟩
def k2m59:Method:=⟨"firstNonEmpty","(I)I",⟨[.int],some .int⟩,2,some k2c59⟩
def k2c60:Code:=⟨3,5,prog_1_method_65_code,#[],#[]⟩
def k2m60:Method:=⟨"lastNonEmpty","(I)I",⟨[.int],some .int⟩,2,some k2c60⟩
def k2c61:Code:=⟨3,9,prog_1_method_66_code,#[],#[]⟩
def k2m61:Method:=⟨"qRoot","(I)Z",⟨[.int],some .boolean⟩,2,some k2c61⟩
def k2c62:Code:=⟨3,1,prog_1_method_67_code,#[],#[]⟩
def k2m62:Method:=⟨"refreshCaches","()V",⟨[],none⟩,2,some k2c62⟩
def k2c63:Code:=⟨3,5,prog_1_method_68_code,#[],#[]⟩
def k2m63:Method:=⟨"countFromPost","()I",⟨[],some .int⟩,2,some k2c63⟩
def k2c64:Code:=⟨2,4,prog_1_method_69_code,#[],#[]⟩
def k2m64:Method:=⟨"factorial","(I)I",⟨[.int],some .int⟩,2,some k2c64⟩
def k2c65:Code:=⟨4,3,prog_1_method_70_code,#[],#[]⟩
def k2m65:Method:=⟨"computeFirstAndStart","()V",⟨[],none⟩,2,some k2c65⟩
def k2c66:Code:=⟨3,7,prog_1_method_71_code,#[],#[]⟩
def k2m66:Method:=⟨"pFirstStart","(I)V",⟨[.int],none⟩,2,some k2c66⟩
def k2c67:Code:=⟨4,9,prog_1_method_72_code,#[],#[]⟩
def k2m67:Method:=⟨"qFirstStart","(I)V",⟨[.int],none⟩,2,some k2c67⟩
def k2c68:Code:=⟨3,5,prog_1_method_73_code,#[],#[]⟩
def k2m68:Method:=⟨"buildLeastOrder","()V",⟨[],none⟩,2,some k2c68⟩
def k2c69:Code:=⟨3,11,prog_1_method_74_code,#[],#[]⟩
def k2m69:Method:=⟨"pushPOrdered","(II)I",⟨[.int,.int],some .int⟩,2,some k2c69⟩
def k2c70:Code:=⟨4,12,prog_1_method_75_code,#[],#[]⟩
def k2m70:Method:=⟨"pushQOrdered","(II)I",⟨[.int,.int],some .int⟩,2,some k2c70⟩
def k2c71:Code:=⟨3,3,prog_1_method_76_code,#[],#[]⟩
def k2m71:Method:=⟨"fillPositions","()V",⟨[],none⟩,2,some k2c71⟩
/-- PqOnesOrder -/
def k2:Class:={ plain "PqOnesOrder" (some 0) with
  accessFlags:=49
  interfaces := #[]
  cf:=some (fileOf pool2 8 #[] #[⟨1,5,172,#[]⟩,⟨1,104,6,#[]⟩,⟨1,346,6,#[]⟩,⟨1,347,131,#[]⟩,⟨1,348,131,#[]⟩,⟨1,349,123,#[]⟩,⟨1,350,123,#[]⟩,⟨1,351,127,#[]⟩,⟨1,352,127,#[]⟩,⟨1,353,123,#[]⟩,⟨1,354,127,#[]⟩,⟨1,355,127,#[]⟩,⟨1,356,123,#[]⟩,⟨2,126,127,#[]⟩,⟨2,134,127,#[]⟩,⟨2,122,123,#[]⟩,⟨2,130,131,#[]⟩,⟨2,146,131,#[]⟩,⟨2,161,131,#[]⟩,⟨2,181,131,#[]⟩,⟨2,184,127,#[]⟩,⟨2,187,188,#[]⟩,⟨2,200,201,#[]⟩,⟨2,246,127,#[]⟩,⟨2,320,127,#[]⟩,⟨2,305,127,#[]⟩,⟨2,167,168,#[]⟩,⟨2,171,172,#[]⟩,⟨2,107,6,#[]⟩,⟨2,249,188,#[]⟩,⟨2,197,172,#[]⟩,⟨2,149,6,#[]⟩,⟨2,137,6,#[]⟩,⟨2,155,6,#[]⟩,⟨2,204,6,#[]⟩,⟨2,222,6,#[]⟩,⟨2,219,6,#[]⟩,⟨2,191,123,#[]⟩,⟨2,152,131,#[]⟩,⟨2,207,172,#[]⟩,⟨2,210,127,#[]⟩,⟨2,213,131,#[]⟩,⟨2,216,131,#[]⟩,⟨2,261,172,#[]⟩,⟨2,264,265,#[]⟩,⟨2,268,6,#[]⟩,⟨2,255,172,#[]⟩,⟨2,293,6,#[]⟩,⟨2,271,272,#[]⟩,⟨2,275,131,#[]⟩,⟨2,281,172,#[]⟩,⟨2,258,127,#[]⟩,⟨2,278,127,#[]⟩,⟨2,225,131,#[]⟩,⟨2,228,131,#[]⟩,⟨2,231,131,#[]⟩,⟨2,284,131,#[]⟩,⟨2,287,131,#[]⟩,⟨2,290,131,#[]⟩,⟨2,296,127,#[]⟩,⟨2,299,127,#[]⟩,⟨2,234,131,#[]⟩,⟨2,119,6,#[]⟩,⟨2,158,123,#[]⟩,⟨2,311,127,#[]⟩,⟨2,302,6,#[]⟩,⟨2,314,172,#[]⟩,⟨2,317,172,#[]⟩,⟨2,308,6,#[]⟩,⟨2,323,188,#[]⟩,⟨2,326,188,#[]⟩,⟨2,329,6,#[]⟩] 49 2 #[] #[⟨25,330,12,#[]⟩,⟨25,333,12,#[]⟩,⟨25,335,12,#[]⟩,⟨25,337,12,#[]⟩,⟨25,339,12,#[]⟩,⟨25,340,12,#[]⟩,⟨18,11,12,#[]⟩,⟨18,15,12,#[]⟩,⟨18,18,12,#[]⟩,⟨18,21,12,#[]⟩,⟨18,24,12,#[]⟩,⟨18,27,12,#[]⟩,⟨2,101,12,#[]⟩,⟨2,110,12,#[]⟩,⟨2,113,12,#[]⟩,⟨2,116,12,#[]⟩,⟨2,164,12,#[]⟩,⟨18,30,31,#[]⟩,⟨18,34,31,#[]⟩,⟨18,37,31,#[]⟩,⟨18,40,31,#[]⟩,⟨18,43,44,#[]⟩,⟨2,175,12,#[]⟩,⟨18,47,31,#[]⟩,⟨18,50,31,#[]⟩,⟨18,53,31,#[]⟩,⟨18,56,31,#[]⟩,⟨18,59,44,#[]⟩,⟨18,62,31,#[]⟩,⟨18,65,31,#[]⟩,⟨18,68,31,#[]⟩,⟨2,178,12,#[]⟩,⟨18,71,31,#[]⟩,⟨18,74,31,#[]⟩,⟨18,77,31,#[]⟩,⟨2,252,12,#[]⟩,⟨18,80,31,#[]⟩,⟨2,237,12,#[]⟩,⟨18,83,31,#[]⟩,⟨2,240,12,#[]⟩,⟨18,86,31,#[]⟩,⟨2,243,12,#[]⟩,⟨18,89,31,#[]⟩,⟨18,92,31,#[]⟩,⟨2,140,12,#[]⟩,⟨2,143,12,#[]⟩,⟨18,95,31,#[]⟩,⟨18,98,31,#[]⟩])
  fields := #[{ name := "INVALID",type:= .int,accessFlags:=25,slot:=0,constantValue:=0 },{ name := "NEW",type:= .int,accessFlags:=25,slot:=1,constantValue:=0 },{ name := "IMPLIED",type:= .int,accessFlags:=25,slot:=2,constantValue:=0 },{ name := "REJECTED",type:= .int,accessFlags:=25,slot:=3,constantValue:=0 },{ name := "MIN_COLUMNS",type:= .int,accessFlags:=25,slot:=4,constantValue:=0 },{ name := "MAX_COLUMNS",type:= .int,accessFlags:=25,slot:=5,constantValue:=0 },{ name := "leafKind",type:= .int,accessFlags:=18,slot:=0,constantValue:=0 },{ name := "pKind",type:= .int,accessFlags:=18,slot:=1,constantValue:=0 },{ name := "qKind",type:= .int,accessFlags:=18,slot:=2,constantValue:=0 },{ name := "emptyLabel",type:= .int,accessFlags:=18,slot:=3,constantValue:=0 },{ name := "fullLabel",type:= .int,accessFlags:=18,slot:=4,constantValue:=0 },{ name := "partialLabel",type:= .int,accessFlags:=18,slot:=5,constantValue:=0 },{ name := "n",type:= .int,accessFlags:=2,slot:=6,constantValue:=0 },{ name := "pending",type:= .int,accessFlags:=2,slot:=7,constantValue:=0 },{ name := "acceptedCount",type:= .int,accessFlags:=2,slot:=8,constantValue:=0 },{ name := "rejectedCount",type:= .int,accessFlags:=2,slot:=9,constantValue:=0 },{ name := "root",type:= .int,accessFlags:=2,slot:=10,constantValue:=0 },{ name := "kind",type:=(.array .int),accessFlags:=18,slot:=11,constantValue:=0 },{ name := "parent",type:=(.array .int),accessFlags:=18,slot:=12,constantValue:=0 },{ name := "degree",type:=(.array .int),accessFlags:=18,slot:=13,constantValue:=0 },{ name := "kids",type:=(.array .int),accessFlags:=18,slot:=14,constantValue:=0 },{ name := "live",type:=(.array .boolean),accessFlags:=18,slot:=15,constantValue:=0 },{ name := "savedRoot",type:= .int,accessFlags:=2,slot:=16,constantValue:=0 },{ name := "savedKind",type:=(.array .int),accessFlags:=18,slot:=17,constantValue:=0 },{ name := "savedParent",type:=(.array .int),accessFlags:=18,slot:=18,constantValue:=0 },{ name := "savedDegree",type:=(.array .int),accessFlags:=18,slot:=19,constantValue:=0 },{ name := "savedKids",type:=(.array .int),accessFlags:=18,slot:=20,constantValue:=0 },{ name := "savedLive",type:=(.array .boolean),accessFlags:=18,slot:=21,constantValue:=0 },{ name := "label",type:=(.array .int),accessFlags:=18,slot:=22,constantValue:=0 },{ name := "leafSet",type:=(.array .int),accessFlags:=18,slot:=23,constantValue:=0 },{ name := "post",type:=(.array .int),accessFlags:=18,slot:=24,constantValue:=0 },{ name := "postLen",type:= .int,accessFlags:=2,slot:=25,constantValue:=0 },{ name := "stackNode",type:=(.array .int),accessFlags:=18,slot:=26,constantValue:=0 },{ name := "stackIdx",type:=(.array .int),accessFlags:=18,slot:=27,constantValue:=0 },{ name := "seq",type:=(.array .int),accessFlags:=18,slot:=28,constantValue:=0 },{ name := "seqLen",type:= .int,accessFlags:=2,slot:=29,constantValue:=0 },{ name := "emptyKids",type:=(.array .int),accessFlags:=18,slot:=30,constantValue:=0 },{ name := "emptyCount",type:= .int,accessFlags:=2,slot:=31,constantValue:=0 },{ name := "fullKids",type:=(.array .int),accessFlags:=18,slot:=32,constantValue:=0 },{ name := "fullCount",type:= .int,accessFlags:=2,slot:=33,constantValue:=0 },{ name := "partKids",type:=(.array .int),accessFlags:=18,slot:=34,constantValue:=0 },{ name := "partCount",type:= .int,accessFlags:=2,slot:=35,constantValue:=0 },{ name := "firstLeast",type:=(.array .int),accessFlags:=18,slot:=36,constantValue:=0 },{ name := "startSet",type:=(.array .int),accessFlags:=18,slot:=37,constantValue:=0 },{ name := "orderCount",type:= .int,accessFlags:=2,slot:=38,constantValue:=0 },{ name := "startCols",type:= .int,accessFlags:=2,slot:=39,constantValue:=0 },{ name := "least",type:=(.array .int),accessFlags:=18,slot:=40,constantValue:=0 },{ name := "leastPos",type:=(.array .int),accessFlags:=18,slot:=41,constantValue:=0 }]
  methods := #[k2m0,k2m1,k2m2,k2m3,k2m4,k2m5,k2m6,k2m7,k2m8,k2m9,k2m10,k2m11,k2m12,k2m13,k2m14,k2m15,k2m16,k2m17,k2m18,k2m19,k2m20,k2m21,k2m22,k2m23,k2m24,k2m25,k2m26,k2m27,k2m28,k2m29,k2m30,k2m31,k2m32,k2m33,k2m34,k2m35,k2m36,k2m37,k2m38,k2m39,k2m40,k2m41,k2m42,k2m43,k2m44,k2m45,k2m46,k2m47,k2m48,k2m49,k2m50,k2m51,k2m52,k2m53,k2m54,k2m55,k2m56,k2m57,k2m58,k2m59,k2m60,k2m61,k2m62,k2m63,k2m64,k2m65,k2m66,k2m67,k2m68,k2m69,k2m70,k2m71]
  instanceTypes := #[.int,.int,.int,.int,.int,.int,.int,.int,.int,.int,.int,(.array .int),(.array .int),(.array .int),(.array .int),(.array .boolean),.int,(.array .int),(.array .int),(.array .int),(.array .int),(.array .boolean),(.array .int),(.array .int),(.array .int),.int,(.array .int),(.array .int),(.array .int),.int,(.array .int),.int,(.array .int),.int,(.array .int),.int,(.array .int),(.array .int),.int,.int,(.array .int),(.array .int)]
  staticTypes := #[.int,.int,.int,.int,.int,.int]
  resolved:=Array.replicate 362 none
  statics:=none }

def pool3:Array CpInfo:=pool [(1,u "java/lang/Cloneable"),(0,.class_ 1),(0,u "java/lang/Object"),(0,.class_ 3)] 3

/-- java/lang/Cloneable -/
def k3:Class:={ plain "java/lang/Cloneable" (some 0) with
  accessFlags:=1537
  interfaces := #[]
  cf:=some (fileOf pool3 2 #[] #[] 1537 4 #[] #[])
  fields := #[]
  methods := #[]
  instanceTypes := #[]
  staticTypes := #[]
  resolved:=Array.replicate 8 none
  statics:=none }

def pool4:Array CpInfo:=pool [(1,u "java/io/Serializable"),(0,.class_ 1),(0,u "java/lang/Object"),(0,.class_ 3)] 3

/-- java/io/Serializable -/
def k4:Class:={ plain "java/io/Serializable" (some 0) with
  accessFlags:=1537
  interfaces := #[]
  cf:=some (fileOf pool4 2 #[] #[] 1537 4 #[] #[])
  fields := #[]
  methods := #[]
  instanceTypes := #[]
  staticTypes := #[]
  resolved:=Array.replicate 8 none
  statics:=none }

/-- the primitive boolean -/
def k5:Class:={ plain "boolean" none with kind:= .primitive 'Z',accessFlags:=0x411 }
/-- [Z -/
def k6:Class:={ plain "[Z" (some 0) with kind:= .array 5 .boolean,interfaces := #[3,4],accessFlags:=1041 }

/-- the primitive byte -/
def k7:Class:={ plain "byte" none with kind:= .primitive 'B',accessFlags:=0x411 }
/-- [B -/
def k8:Class:={ plain "[B" (some 0) with kind:= .array 7 .byte,interfaces := #[3,4],accessFlags:=1041 }

/-- the primitive int -/
def k9:Class:={ plain "int" none with kind:= .primitive 'I',accessFlags:=0x411 }
/-- [I -/
def k10:Class:={ plain "[I" (some 0) with kind:= .array 9 .int,interfaces := #[3,4],accessFlags:=1041 }

def heap:Heap := #[{ cls:=10,slots := #[.int 0,.int 1,.int 2],vm:= .none }]
def classes:Array Class := #[k0,k1,k2,k3,k4,k5,k6,k7,k8,k9,k10]
def interned:List (Array UInt16×Addr):=[]
def slotsUsed:Nat:=3
def theMethod:MethodId:=⟨1,8⟩
def args0:Array Value := #[.ref 0]
def aboutOver (below:List Frame):State where
  vm:={ classes:=classes,interned:=interned.toArray }
  heap:=heap
  slotsUsed:=slotsUsed
  threads := #[{ frames:= .invoking theMethod args0::below }]
def below0:List Frame:=[.native { method:=⟨0,0⟩,args := #[] }]
def about1:State:=aboutOver below0
def p0:Program:= .bare "" "" ""
def e0:Env:=launch0.env 0 0 0
theorem w_frames:about1.frames=Frame.invoking theMethod args0::below0:=rfl
theorem w_args:argsFit about1.vm theMethod args0=true:=by decide +kernel
theorem w_heap:heapFits about1=true:=by decide +kernel
theorem w_runnable:about1.curStatus? = some .runnable:=by decide +kernel
theorem w_alone:about1.alone=true:=by decide +kernel
theorem w_named:about1.methodNamed? x=some theMethod:=by decide +kernel
theorem w_hears:about1.hears theMethod below0=true:=by decide +kernel
theorem w_ripe:about1.ripe theMethod args0 below0=true:=by decide +kernel
theorem w_running:about1.status = .running:=rfl
theorem w_room:about1.hasRoom e0.platform room_1=true:=
  launch0.hasRoom_least _ room_1 (by decide +kernel) (by decide +kernel) (by decide +kernel) (by decide +kernel) (by decide +kernel) (by decide +kernel)
theorem allAtoms_all (ts:List Jvm.Cond) (a:Array Jvm.Value) (st:Jvm.State):(allAtoms ts).before a st=ts.all (fun c=>c.before a st):=by
  induction ts with
  |nil=>rfl
  |cons c t ih=>
    show (Jvm.Cond.and c (allAtoms t)).before a st=_
    rw[Jvm.Cond.before_and,ih,List.all_cons]
def words1:List Jvm.Cond:=Jvm.Cond.code x code maxLocals ret::tables_1
/-- a 'code' word,met by the world's own term for the bytes: nothing is compared byte by byte -/
theorem code_word {y:MethodName} {bytes:ByteArray} {mx:Nat} {rt:Option FieldType} {a:Array Value} {s:State} {m:MethodId} {meth:Method} {c:Code} (h1:s.methodNamed? y=some m) (h2:s.vm.method? m=some meth) (h3:meth.code=some c) (h4:c.code=bytes)
    (h5:(c.maxLocals==mx&&c.exceptionTable.isEmpty&&decide (c.maxStack≤mostOperands)&&decide (meth.sig.returnType=rt) && !meth.locks&&decide (parseMethodDescriptor y.desc=some meth.sig))=true):(Jvm.Cond.code y bytes mx rt).before a s=true:=by
  simp only[Bool.and_eq_true,beq_iff_eq,Bool.not_eq_true',decide_eq_true_eq] at h5
  obtain⟨⟨⟨⟨⟨g1,g2⟩,g3⟩,g4⟩,g5⟩,g6⟩:=h5
  simp[Cond.before,Cond.holds,Cond.value,h1,h2,h3,h4,g1,g2,g3,g4,g5,g6]
def isCode:Jvm.Cond→Bool
  | .code _ _ _ _=>true
  |_=>false
theorem all_split {L:List Jvm.Cond} {P:Jvm.Cond→Bool} (h1:L.all (fun c=>isCode c||P c)=true) (h2:∀c∈L.filter isCode,P c=true):L.all P=true:=by
  refine List.all_eq_true.mpr fun c hc=>?_
  have h:=List.all_eq_true.mp h1 c hc
  rcases Bool.eq_false_or_eq_true (isCode c) with hi | hi
  · exact h2 c (List.mem_filter.mpr ⟨hc,hi⟩)
  · simpa [hi] using h
theorem w_c0:(Jvm.Cond.code x code maxLocals ret).before args0 about1=true:=code_word (m:=⟨1,8⟩) (meth:=k1m8) (c:=k1c8) (by decide +kernel) rfl rfl rfl (by decide +kernel)
theorem w_c1:(Jvm.Cond.code ⟨"PqOnesOrderOwnLaw","cell","([II)I"⟩ method_2_code 2 (some .int)).before args0 about1=true:=code_word (m:=⟨1,1⟩) (meth:=k1m1) (c:=k1c1) (by decide +kernel) rfl rfl rfl (by decide +kernel)
theorem w_c2:(Jvm.Cond.code ⟨"PqOnesOrderOwnLaw","mod","(II)I"⟩ method_3_code 3 (some .int)).before args0 about1=true:=code_word (m:=⟨1,2⟩) (meth:=k1m2) (c:=k1c2) (by decide +kernel) rfl rfl rfl (by decide +kernel)
theorem w_c3:(Jvm.Cond.code ⟨"PqOnesOrderOwnLaw","fact","(I)I"⟩ method_4_code 3 (some .int)).before args0 about1=true:=code_word (m:=⟨1,3⟩) (meth:=k1m3) (c:=k1c3) (by decide +kernel) rfl rfl rfl (by decide +kernel)
theorem w_c4:(Jvm.Cond.code ⟨"PqOnesOrder","<init>","(I)V"⟩ prog_1_method_1_code 3 none).before args0 about1=true:=code_word (m:=⟨2,0⟩) (meth:=k2m0) (c:=k2c0) (by decide +kernel) rfl rfl rfl (by decide +kernel)
theorem w_c5:(Jvm.Cond.code ⟨"java/lang/Object","<init>","()V"⟩ object_method_1_code 1 none).before args0 about1=true:=code_word (m:=⟨0,0⟩) (meth:=k0m0) (c:=k0c0) (by decide +kernel) rfl rfl rfl (by decide +kernel)
theorem w_c6:(Jvm.Cond.code ⟨"PqOnesOrder","reset","()V"⟩ prog_1_method_3_code 1 none).before args0 about1=true:=code_word (m:=⟨2,1⟩) (meth:=k2m1) (c:=k2c1) (by decide +kernel) rfl rfl rfl (by decide +kernel)
theorem w_c7:(Jvm.Cond.code ⟨"PqOnesOrder","initTree","()V"⟩ prog_1_method_32_code 2 none).before args0 about1=true:=code_word (m:=⟨2,28⟩) (meth:=k2m28) (c:=k2c28) (by decide +kernel) rfl rfl rfl (by decide +kernel)
theorem w_c8:(Jvm.Cond.code ⟨"PqOnesOrder","appendKid","(II)Z"⟩ prog_1_method_30_code 4 (some .boolean)).before args0 about1=true:=code_word (m:=⟨2,26⟩) (meth:=k2m26) (c:=k2c26) (by decide +kernel) rfl rfl rfl (by decide +kernel)
theorem w_c9:(Jvm.Cond.code ⟨"PqOnesOrder","isNode","(I)Z"⟩ prog_1_method_22_code 2 (some .boolean)).before args0 about1=true:=code_word (m:=⟨2,18⟩) (meth:=k2m18) (c:=k2c18) (by decide +kernel) rfl rfl rfl (by decide +kernel)
theorem w_c10:(Jvm.Cond.code ⟨"PqOnesOrder","refreshCaches","()V"⟩ prog_1_method_67_code 1 none).before args0 about1=true:=code_word (m:=⟨2,62⟩) (meth:=k2m62) (c:=k2c62) (by decide +kernel) rfl rfl rfl (by decide +kernel)
theorem w_c11:(Jvm.Cond.code ⟨"PqOnesOrder","computePost","()V"⟩ prog_1_method_37_code 7 none).before args0 about1=true:=code_word (m:=⟨2,33⟩) (meth:=k2m33) (c:=k2c33) (by decide +kernel) rfl rfl rfl (by decide +kernel)
theorem w_c12:(Jvm.Cond.code ⟨"PqOnesOrder","isInner","(I)Z"⟩ prog_1_method_23_code 2 (some .boolean)).before args0 about1=true:=code_word (m:=⟨2,19⟩) (meth:=k2m19) (c:=k2c19) (by decide +kernel) rfl rfl rfl (by decide +kernel)
theorem w_c13:(Jvm.Cond.code ⟨"PqOnesOrder","degreeOf","(I)I"⟩ prog_1_method_24_code 3 (some .int)).before args0 about1=true:=code_word (m:=⟨2,20⟩) (meth:=k2m20) (c:=k2c20) (by decide +kernel) rfl rfl rfl (by decide +kernel)
theorem w_c14:(Jvm.Cond.code ⟨"PqOnesOrder","kidAt","(II)I"⟩ prog_1_method_25_code 3 (some .int)).before args0 about1=true:=code_word (m:=⟨2,21⟩) (meth:=k2m21) (c:=k2c21) (by decide +kernel) rfl rfl rfl (by decide +kernel)
theorem w_c15:(Jvm.Cond.code ⟨"PqOnesOrder","computeFirstAndStart","()V"⟩ prog_1_method_70_code 3 none).before args0 about1=true:=code_word (m:=⟨2,65⟩) (meth:=k2m65) (c:=k2c65) (by decide +kernel) rfl rfl rfl (by decide +kernel)
theorem w_c16:(Jvm.Cond.code ⟨"PqOnesOrder","pFirstStart","(I)V"⟩ prog_1_method_71_code 7 none).before args0 about1=true:=code_word (m:=⟨2,66⟩) (meth:=k2m66) (c:=k2c66) (by decide +kernel) rfl rfl rfl (by decide +kernel)
theorem w_c17:(Jvm.Cond.code ⟨"PqOnesOrder","countFromPost","()I"⟩ prog_1_method_68_code 5 (some .int)).before args0 about1=true:=code_word (m:=⟨2,63⟩) (meth:=k2m63) (c:=k2c63) (by decide +kernel) rfl rfl rfl (by decide +kernel)
theorem w_c18:(Jvm.Cond.code ⟨"PqOnesOrder","factorial","(I)I"⟩ prog_1_method_69_code 4 (some .int)).before args0 about1=true:=code_word (m:=⟨2,64⟩) (meth:=k2m64) (c:=k2c64) (by decide +kernel) rfl rfl rfl (by decide +kernel)
theorem w_c19:(Jvm.Cond.code ⟨"PqOnesOrder","startSetOf","(I)I"⟩ prog_1_method_29_code 2 (some .int)).before args0 about1=true:=code_word (m:=⟨2,25⟩) (meth:=k2m25) (c:=k2c25) (by decide +kernel) rfl rfl rfl (by decide +kernel)
theorem w_c20:(Jvm.Cond.code ⟨"PqOnesOrder","buildLeastOrder","()V"⟩ prog_1_method_73_code 5 none).before args0 about1=true:=code_word (m:=⟨2,68⟩) (meth:=k2m68) (c:=k2c68) (by decide +kernel) rfl rfl rfl (by decide +kernel)
theorem w_c21:(Jvm.Cond.code ⟨"PqOnesOrder","pushPOrdered","(II)I"⟩ prog_1_method_74_code 11 (some .int)).before args0 about1=true:=code_word (m:=⟨2,69⟩) (meth:=k2m69) (c:=k2c69) (by decide +kernel) rfl rfl rfl (by decide +kernel)
theorem w_c22:(Jvm.Cond.code ⟨"PqOnesOrder","fillPositions","()V"⟩ prog_1_method_76_code 3 none).before args0 about1=true:=code_word (m:=⟨2,71⟩) (meth:=k2m71) (c:=k2c71) (by decide +kernel) rfl rfl rfl (by decide +kernel)
theorem w_c23:(Jvm.Cond.code ⟨"PqOnesOrderOwnLaw","inS","(JJI)Z"⟩ method_8_code 5 (some .boolean)).before args0 about1=true:=code_word (m:=⟨1,7⟩) (meth:=k1m7) (c:=k1c7) (by decide +kernel) rfl rfl rfl (by decide +kernel)
theorem w_c24:(Jvm.Cond.code ⟨"PqOnesOrder","countOrders","()I"⟩ prog_1_method_11_code 1 (some .int)).before args0 about1=true:=code_word (m:=⟨2,9⟩) (meth:=k2m9) (c:=k2c9) (by decide +kernel) rfl rfl rfl (by decide +kernel)
theorem w_c25:(Jvm.Cond.code ⟨"PqOnesOrder","leastOrderAt","(I)I"⟩ prog_1_method_12_code 2 (some .int)).before args0 about1=true:=code_word (m:=⟨2,10⟩) (meth:=k2m10) (c:=k2c10) (by decide +kernel) rfl rfl rfl (by decide +kernel)
theorem w_c26:(Jvm.Cond.code ⟨"PqOnesOrder","leastPositionOf","(I)I"⟩ prog_1_method_13_code 2 (some .int)).before args0 about1=true:=code_word (m:=⟨2,11⟩) (meth:=k2m11) (c:=k2c11) (by decide +kernel) rfl rfl rfl (by decide +kernel)
theorem w_c27:(Jvm.Cond.code ⟨"PqOnesOrderOwnLaw","perm","(II)I"⟩ method_5_code 9 (some .int)).before args0 about1=true:=code_word (m:=⟨1,4⟩) (meth:=k1m4) (c:=k1c4) (by decide +kernel) rfl rfl rfl (by decide +kernel)
theorem w_c28:(Jvm.Cond.code ⟨"PqOnesOrderOwnLaw","consec","(III)Z"⟩ method_7_code 5 (some .boolean)).before args0 about1=true:=code_word (m:=⟨1,6⟩) (meth:=k1m6) (c:=k1c6) (by decide +kernel) rfl rfl rfl (by decide +kernel)
theorem w_c29:(Jvm.Cond.code ⟨"PqOnesOrderOwnLaw","at","(II)I"⟩ method_6_code 2 (some .int)).before args0 about1=true:=code_word (m:=⟨1,5⟩) (meth:=k1m5) (c:=k1c5) (by decide +kernel) rfl rfl rfl (by decide +kernel)
theorem w_c30:(Jvm.Cond.code ⟨"PqOnesOrder","classify","(I)I"⟩ prog_1_method_10_code 3 (some .int)).before args0 about1=true:=code_word (m:=⟨2,8⟩) (meth:=k2m8) (c:=k2c8) (by decide +kernel) rfl rfl rfl (by decide +kernel)
theorem w_c31:(Jvm.Cond.code ⟨"PqOnesOrder","inRange","(I)Z"⟩ prog_1_method_20_code 3 (some .boolean)).before args0 about1=true:=code_word (m:=⟨2,16⟩) (meth:=k2m16) (c:=k2c16) (by decide +kernel) rfl rfl rfl (by decide +kernel)
theorem w_c32:(Jvm.Cond.code ⟨"PqOnesOrder","allMask","()I"⟩ prog_1_method_19_code 1 (some .int)).before args0 about1=true:=code_word (m:=⟨2,15⟩) (meth:=k2m15) (c:=k2c15) (by decide +kernel) rfl rfl rfl (by decide +kernel)
theorem w_c33:(Jvm.Cond.code ⟨"PqOnesOrder","verdict","(I)I"⟩ prog_1_method_18_code 3 (some .int)).before args0 about1=true:=code_word (m:=⟨2,14⟩) (meth:=k2m14) (c:=k2c14) (by decide +kernel) rfl rfl rfl (by decide +kernel)
theorem w_c34:(Jvm.Cond.code ⟨"PqOnesOrder","isTrivial","(I)Z"⟩ prog_1_method_21_code 4 (some .boolean)).before args0 about1=true:=code_word (m:=⟨2,17⟩) (meth:=k2m17) (c:=k2c17) (by decide +kernel) rfl rfl rfl (by decide +kernel)
theorem w_c35:(Jvm.Cond.code ⟨"PqOnesOrder","saveTree","()V"⟩ prog_1_method_35_code 2 none).before args0 about1=true:=code_word (m:=⟨2,31⟩) (meth:=k2m31) (c:=k2c31) (by decide +kernel) rfl rfl rfl (by decide +kernel)
theorem w_c36:(Jvm.Cond.code ⟨"PqOnesOrder","reduce","(I)Z"⟩ prog_1_method_43_code 5 (some .boolean)).before args0 about1=true:=code_word (m:=⟨2,38⟩) (meth:=k2m38) (c:=k2c38) (by decide +kernel) rfl rfl rfl (by decide +kernel)
theorem w_c37:(Jvm.Cond.code ⟨"PqOnesOrder","computeLeafSets","()V"⟩ prog_1_method_38_code 7 none).before args0 about1=true:=code_word (m:=⟨2,34⟩) (meth:=k2m34) (c:=k2c34) (by decide +kernel) rfl rfl rfl (by decide +kernel)
theorem w_c38:(Jvm.Cond.code ⟨"PqOnesOrder","labelLeaves","(I)V"⟩ prog_1_method_44_code 3 none).before args0 about1=true:=code_word (m:=⟨2,39⟩) (meth:=k2m39) (c:=k2c39) (by decide +kernel) rfl rfl rfl (by decide +kernel)
theorem w_c39:(Jvm.Cond.code ⟨"PqOnesOrder","findPertinentRoot","(I)I"⟩ prog_1_method_45_code 4 (some .int)).before args0 about1=true:=code_word (m:=⟨2,40⟩) (meth:=k2m40) (c:=k2c40) (by decide +kernel) rfl rfl rfl (by decide +kernel)
theorem w_c40:(Jvm.Cond.code ⟨"PqOnesOrder","reduceRoot","(I)Z"⟩ prog_1_method_47_code 2 (some .boolean)).before args0 about1=true:=code_word (m:=⟨2,42⟩) (meth:=k2m42) (c:=k2c42) (by decide +kernel) rfl rfl rfl (by decide +kernel)
theorem w_c41:(Jvm.Cond.code ⟨"PqOnesOrder","pRoot","(I)Z"⟩ prog_1_method_60_code 2 (some .boolean)).before args0 about1=true:=code_word (m:=⟨2,55⟩) (meth:=k2m55) (c:=k2c55) (by decide +kernel) rfl rfl rfl (by decide +kernel)
theorem w_c42:(Jvm.Cond.code ⟨"PqOnesOrder","sortKids","(I)V"⟩ prog_1_method_48_code 6 none).before args0 about1=true:=code_word (m:=⟨2,43⟩) (meth:=k2m43) (c:=k2c43) (by decide +kernel) rfl rfl rfl (by decide +kernel)
theorem w_c43:(Jvm.Cond.code ⟨"PqOnesOrder","labelOf","(I)I"⟩ prog_1_method_27_code 2 (some .int)).before args0 about1=true:=code_word (m:=⟨2,23⟩) (meth:=k2m23) (c:=k2c23) (by decide +kernel) rfl rfl rfl (by decide +kernel)
theorem w_c44:(Jvm.Cond.code ⟨"PqOnesOrder","pRootNoPartial","(I)Z"⟩ prog_1_method_61_code 3 (some .boolean)).before args0 about1=true:=code_word (m:=⟨2,56⟩) (meth:=k2m56) (c:=k2c56) (by decide +kernel) rfl rfl rfl (by decide +kernel)
theorem w_c45:(Jvm.Cond.code ⟨"PqOnesOrder","groupOf","(Z)I"⟩ prog_1_method_49_code 7 (some .int)).before args0 about1=true:=code_word (m:=⟨2,44⟩) (meth:=k2m44) (c:=k2c44) (by decide +kernel) rfl rfl rfl (by decide +kernel)
theorem w_c46:(Jvm.Cond.code ⟨"PqOnesOrder","allocNode","(II)I"⟩ prog_1_method_33_code 4 (some .int)).before args0 about1=true:=code_word (m:=⟨2,29⟩) (meth:=k2m29) (c:=k2c29) (by decide +kernel) rfl rfl rfl (by decide +kernel)
theorem w_c47:(Jvm.Cond.code ⟨"PqOnesOrder","clearKids","(I)V"⟩ prog_1_method_31_code 4 none).before args0 about1=true:=code_word (m:=⟨2,27⟩) (meth:=k2m27) (c:=k2c27) (by decide +kernel) rfl rfl rfl (by decide +kernel)
theorem w_c48:(Jvm.Cond.code ⟨"PqOnesOrder","seqStart","()V"⟩ prog_1_method_50_code 1 none).before args0 about1=true:=code_word (m:=⟨2,45⟩) (meth:=k2m45) (c:=k2c45) (by decide +kernel) rfl rfl rfl (by decide +kernel)
theorem w_c49:(Jvm.Cond.code ⟨"PqOnesOrder","seqPushEmpties","()V"⟩ prog_1_method_52_code 2 none).before args0 about1=true:=code_word (m:=⟨2,47⟩) (meth:=k2m47) (c:=k2c47) (by decide +kernel) rfl rfl rfl (by decide +kernel)
theorem w_c50:(Jvm.Cond.code ⟨"PqOnesOrder","seqPush","(I)V"⟩ prog_1_method_51_code 2 none).before args0 about1=true:=code_word (m:=⟨2,46⟩) (meth:=k2m46) (c:=k2c46) (by decide +kernel) rfl rfl rfl (by decide +kernel)
theorem w_c51:(Jvm.Cond.code ⟨"PqOnesOrder","installSeq","(I)Z"⟩ prog_1_method_54_code 3 (some .boolean)).before args0 about1=true:=code_word (m:=⟨2,49⟩) (meth:=k2m49) (c:=k2c49) (by decide +kernel) rfl rfl rfl (by decide +kernel)
theorem w_c52:(Jvm.Cond.code ⟨"PqOnesOrder","normalize","()V"⟩ prog_1_method_40_code 3 none).before args0 about1=true:=code_word (m:=⟨2,36⟩) (meth:=k2m36) (c:=k2c36) (by decide +kernel) rfl rfl rfl (by decide +kernel)
theorem w_c53:(Jvm.Cond.code ⟨"PqOnesOrder","findSingleKid","()I"⟩ prog_1_method_41_code 4 (some .int)).before args0 about1=true:=code_word (m:=⟨2,37⟩) (meth:=k2m37) (c:=k2c37) (by decide +kernel) rfl rfl rfl (by decide +kernel)
theorem w_c54:(Jvm.Cond.code ⟨"PqOnesOrder","collectGarbage","()V"⟩ prog_1_method_39_code 3 none).before args0 about1=true:=code_word (m:=⟨2,35⟩) (meth:=k2m35) (c:=k2c35) (by decide +kernel) rfl rfl rfl (by decide +kernel)
theorem w_c55:(Jvm.Cond.code ⟨"PqOnesOrder","restoreTree","()V"⟩ prog_1_method_36_code 2 none).before args0 about1=true:=code_word (m:=⟨2,32⟩) (meth:=k2m32) (c:=k2c32) (by decide +kernel) rfl rfl rfl (by decide +kernel)
theorem w_c56:(Jvm.Cond.code ⟨"PqOnesOrder","removeColumn","(I)Z"⟩ prog_1_method_6_code 2 (some .boolean)).before args0 about1=true:=code_word (m:=⟨2,4⟩) (meth:=k2m4) (c:=k2c4) (by decide +kernel) rfl rfl rfl (by decide +kernel)
theorem w_c57:(Jvm.Cond.code ⟨"PqOnesOrder","addColumn","(I)Z"⟩ prog_1_method_5_code 2 (some .boolean)).before args0 about1=true:=code_word (m:=⟨2,3⟩) (meth:=k2m3) (c:=k2c3) (by decide +kernel) rfl rfl rfl (by decide +kernel)
theorem w_c58:(Jvm.Cond.code ⟨"PqOnesOrder","startMask","()I"⟩ prog_1_method_14_code 1 (some .int)).before args0 about1=true:=code_word (m:=⟨2,12⟩) (meth:=k2m12) (c:=k2c12) (by decide +kernel) rfl rfl rfl (by decide +kernel)
theorem w_c59:(Jvm.Cond.code ⟨"PqOnesOrder","pendingMask","()I"⟩ prog_1_method_7_code 1 (some .int)).before args0 about1=true:=code_word (m:=⟨2,5⟩) (meth:=k2m5) (c:=k2c5) (by decide +kernel) rfl rfl rfl (by decide +kernel)
theorem w_c60:(Jvm.Cond.code ⟨"PqOnesOrder","commitRow","()I"⟩ prog_1_method_8_code 4 (some .int)).before args0 about1=true:=code_word (m:=⟨2,6⟩) (meth:=k2m6) (c:=k2c6) (by decide +kernel) rfl rfl rfl (by decide +kernel)
theorem w_c61:(Jvm.Cond.code ⟨"PqOnesOrder","addMask","(I)I"⟩ prog_1_method_17_code 3 (some .int)).before args0 about1=true:=code_word (m:=⟨2,13⟩) (meth:=k2m13) (c:=k2c13) (by decide +kernel) rfl rfl rfl (by decide +kernel)
theorem w_c62:(Jvm.Cond.code ⟨"PqOnesOrder","reduceInner","(I)Z"⟩ prog_1_method_46_code 2 (some .boolean)).before args0 about1=true:=code_word (m:=⟨2,41⟩) (meth:=k2m41) (c:=k2c41) (by decide +kernel) rfl rfl rfl (by decide +kernel)
theorem w_c63:(Jvm.Cond.code ⟨"PqOnesOrder","pInner","(I)Z"⟩ prog_1_method_58_code 5 (some .boolean)).before args0 about1=true:=code_word (m:=⟨2,53⟩) (meth:=k2m53) (c:=k2c53) (by decide +kernel) rfl rfl rfl (by decide +kernel)
theorem w_c64:(Jvm.Cond.code ⟨"PqOnesOrder","freeNode","(I)V"⟩ prog_1_method_34_code 2 none).before args0 about1=true:=code_word (m:=⟨2,30⟩) (meth:=k2m30) (c:=k2c30) (by decide +kernel) rfl rfl rfl (by decide +kernel)
theorem w_c65:(Jvm.Cond.code ⟨"PqOnesOrder","pRootOnePartial","(I)Z"⟩ prog_1_method_62_code 4 (some .boolean)).before args0 about1=true:=code_word (m:=⟨2,57⟩) (meth:=k2m57) (c:=k2c57) (by decide +kernel) rfl rfl rfl (by decide +kernel)
theorem w_c66:(Jvm.Cond.code ⟨"PqOnesOrder","seqPushKids","(IZ)V"⟩ prog_1_method_53_code 7 none).before args0 about1=true:=code_word (m:=⟨2,48⟩) (meth:=k2m48) (c:=k2c48) (by decide +kernel) rfl rfl rfl (by decide +kernel)
theorem w_c67:(Jvm.Cond.code ⟨"PqOnesOrder","qFirstStart","(I)V"⟩ prog_1_method_72_code 9 none).before args0 about1=true:=code_word (m:=⟨2,67⟩) (meth:=k2m67) (c:=k2c67) (by decide +kernel) rfl rfl rfl (by decide +kernel)
theorem w_c68:(Jvm.Cond.code ⟨"PqOnesOrder","firstLeastOf","(I)I"⟩ prog_1_method_28_code 2 (some .int)).before args0 about1=true:=code_word (m:=⟨2,24⟩) (meth:=k2m24) (c:=k2c24) (by decide +kernel) rfl rfl rfl (by decide +kernel)
theorem w_c69:(Jvm.Cond.code ⟨"PqOnesOrder","pushQOrdered","(II)I"⟩ prog_1_method_75_code 12 (some .int)).before args0 about1=true:=code_word (m:=⟨2,70⟩) (meth:=k2m70) (c:=k2c70) (by decide +kernel) rfl rfl rfl (by decide +kernel)
theorem w_c70:(Jvm.Cond.code ⟨"PqOnesOrder","qRoot","(I)Z"⟩ prog_1_method_66_code 9 (some .boolean)).before args0 about1=true:=code_word (m:=⟨2,61⟩) (meth:=k2m61) (c:=k2c61) (by decide +kernel) rfl rfl rfl (by decide +kernel)
theorem w_c71:(Jvm.Cond.code ⟨"PqOnesOrder","firstNonEmpty","(I)I"⟩ prog_1_method_64_code 5 (some .int)).before args0 about1=true:=code_word (m:=⟨2,59⟩) (meth:=k2m59) (c:=k2c59) (by decide +kernel) rfl rfl rfl (by decide +kernel)
theorem w_c72:(Jvm.Cond.code ⟨"PqOnesOrder","lastNonEmpty","(I)I"⟩ prog_1_method_65_code 5 (some .int)).before args0 about1=true:=code_word (m:=⟨2,60⟩) (meth:=k2m60) (c:=k2c60) (by decide +kernel) rfl rfl rfl (by decide +kernel)
theorem w_c73:(Jvm.Cond.code ⟨"PqOnesOrder","qInner","(I)Z"⟩ prog_1_method_59_code 7 (some .boolean)).before args0 about1=true:=code_word (m:=⟨2,54⟩) (meth:=k2m54) (c:=k2c54) (by decide +kernel) rfl rfl rfl (by decide +kernel)
theorem w_c74:(Jvm.Cond.code ⟨"PqOnesOrder","direction","(I)I"⟩ prog_1_method_57_code 10 (some .int)).before args0 about1=true:=code_word (m:=⟨2,52⟩) (meth:=k2m52) (c:=k2c52) (by decide +kernel) rfl rfl rfl (by decide +kernel)
theorem w_c75:(Jvm.Cond.code ⟨"PqOnesOrder","rankOf","(I)I"⟩ prog_1_method_56_code 2 (some .int)).before args0 about1=true:=code_word (m:=⟨2,51⟩) (meth:=k2m51) (c:=k2c51) (by decide +kernel) rfl rfl rfl (by decide +kernel)
theorem w_c76:(Jvm.Cond.code ⟨"PqOnesOrder","reverseKids","(I)V"⟩ prog_1_method_55_code 7 none).before args0 about1=true:=code_word (m:=⟨2,50⟩) (meth:=k2m50) (c:=k2c50) (by decide +kernel) rfl rfl rfl (by decide +kernel)
theorem w_c77:(Jvm.Cond.code ⟨"PqOnesOrder","putKid","(III)V"⟩ prog_1_method_26_code 4 none).before args0 about1=true:=code_word (m:=⟨2,22⟩) (meth:=k2m22) (c:=k2c22) (by decide +kernel) rfl rfl rfl (by decide +kernel)
theorem w_c78:(Jvm.Cond.code ⟨"PqOnesOrder","addRowMask","(I)I"⟩ prog_1_method_9_code 2 (some .int)).before args0 about1=true:=code_word (m:=⟨2,7⟩) (meth:=k2m7) (c:=k2c7) (by decide +kernel) rfl rfl rfl (by decide +kernel)
theorem w_c79:(Jvm.Cond.code ⟨"PqOnesOrder","clearRow","()V"⟩ prog_1_method_4_code 1 none).before args0 about1=true:=code_word (m:=⟨2,2⟩) (meth:=k2m2) (c:=k2c2) (by decide +kernel) rfl rfl rfl (by decide +kernel)
theorem w_c80:(Jvm.Cond.code ⟨"PqOnesOrder","pRootTwoPartial","(I)Z"⟩ prog_1_method_63_code 5 (some .boolean)).before args0 about1=true:=code_word (m:=⟨2,58⟩) (meth:=k2m58) (c:=k2c58) (by decide +kernel) rfl rfl rfl (by decide +kernel)
def codes1:List Jvm.Cond:=[Jvm.Cond.code x code maxLocals ret,Jvm.Cond.code ⟨"PqOnesOrderOwnLaw","cell","([II)I"⟩ method_2_code 2 (some .int),Jvm.Cond.code ⟨"PqOnesOrderOwnLaw","mod","(II)I"⟩ method_3_code 3 (some .int),Jvm.Cond.code ⟨"PqOnesOrderOwnLaw","fact","(I)I"⟩ method_4_code 3 (some .int),Jvm.Cond.code ⟨"PqOnesOrder","<init>","(I)V"⟩ prog_1_method_1_code 3 none,Jvm.Cond.code ⟨"java/lang/Object","<init>","()V"⟩ object_method_1_code 1 none,Jvm.Cond.code ⟨"PqOnesOrder","reset","()V"⟩ prog_1_method_3_code 1 none,Jvm.Cond.code ⟨"PqOnesOrder","initTree","()V"⟩ prog_1_method_32_code 2 none,Jvm.Cond.code ⟨"PqOnesOrder","appendKid","(II)Z"⟩ prog_1_method_30_code 4 (some .boolean),Jvm.Cond.code ⟨"PqOnesOrder","isNode","(I)Z"⟩ prog_1_method_22_code 2 (some .boolean),Jvm.Cond.code ⟨"PqOnesOrder","refreshCaches","()V"⟩ prog_1_method_67_code 1 none,Jvm.Cond.code ⟨"PqOnesOrder","computePost","()V"⟩ prog_1_method_37_code 7 none,Jvm.Cond.code ⟨"PqOnesOrder","isInner","(I)Z"⟩ prog_1_method_23_code 2 (some .boolean),Jvm.Cond.code ⟨"PqOnesOrder","degreeOf","(I)I"⟩ prog_1_method_24_code 3 (some .int),Jvm.Cond.code ⟨"PqOnesOrder","kidAt","(II)I"⟩ prog_1_method_25_code 3 (some .int),Jvm.Cond.code ⟨"PqOnesOrder","computeFirstAndStart","()V"⟩ prog_1_method_70_code 3 none,Jvm.Cond.code ⟨"PqOnesOrder","pFirstStart","(I)V"⟩ prog_1_method_71_code 7 none,Jvm.Cond.code ⟨"PqOnesOrder","countFromPost","()I"⟩ prog_1_method_68_code 5 (some .int),Jvm.Cond.code ⟨"PqOnesOrder","factorial","(I)I"⟩ prog_1_method_69_code 4 (some .int),Jvm.Cond.code ⟨"PqOnesOrder","startSetOf","(I)I"⟩ prog_1_method_29_code 2 (some .int),Jvm.Cond.code ⟨"PqOnesOrder","buildLeastOrder","()V"⟩ prog_1_method_73_code 5 none,Jvm.Cond.code ⟨"PqOnesOrder","pushPOrdered","(II)I"⟩ prog_1_method_74_code 11 (some .int),Jvm.Cond.code ⟨"PqOnesOrder","fillPositions","()V"⟩ prog_1_method_76_code 3 none,Jvm.Cond.code ⟨"PqOnesOrderOwnLaw","inS","(JJI)Z"⟩ method_8_code 5 (some .boolean),Jvm.Cond.code ⟨"PqOnesOrder","countOrders","()I"⟩ prog_1_method_11_code 1 (some .int),Jvm.Cond.code ⟨"PqOnesOrder","leastOrderAt","(I)I"⟩ prog_1_method_12_code 2 (some .int),Jvm.Cond.code ⟨"PqOnesOrder","leastPositionOf","(I)I"⟩ prog_1_method_13_code 2 (some .int),Jvm.Cond.code ⟨"PqOnesOrderOwnLaw","perm","(II)I"⟩ method_5_code 9 (some .int),Jvm.Cond.code ⟨"PqOnesOrderOwnLaw","consec","(III)Z"⟩ method_7_code 5 (some .boolean),Jvm.Cond.code ⟨"PqOnesOrderOwnLaw","at","(II)I"⟩ method_6_code 2 (some .int),Jvm.Cond.code ⟨"PqOnesOrder","classify","(I)I"⟩ prog_1_method_10_code 3 (some .int),Jvm.Cond.code ⟨"PqOnesOrder","inRange","(I)Z"⟩ prog_1_method_20_code 3 (some .boolean),Jvm.Cond.code ⟨"PqOnesOrder","allMask","()I"⟩ prog_1_method_19_code 1 (some .int),Jvm.Cond.code ⟨"PqOnesOrder","verdict","(I)I"⟩ prog_1_method_18_code 3 (some .int),Jvm.Cond.code ⟨"PqOnesOrder","isTrivial","(I)Z"⟩ prog_1_method_21_code 4 (some .boolean),Jvm.Cond.code ⟨"PqOnesOrder","saveTree","()V"⟩ prog_1_method_35_code 2 none,Jvm.Cond.code ⟨"PqOnesOrder","reduce","(I)Z"⟩ prog_1_method_43_code 5 (some .boolean),Jvm.Cond.code ⟨"PqOnesOrder","computeLeafSets","()V"⟩ prog_1_method_38_code 7 none,Jvm.Cond.code ⟨"PqOnesOrder","labelLeaves","(I)V"⟩ prog_1_method_44_code 3 none,Jvm.Cond.code ⟨"PqOnesOrder","findPertinentRoot","(I)I"⟩ prog_1_method_45_code 4 (some .int),Jvm.Cond.code ⟨"PqOnesOrder","reduceRoot","(I)Z"⟩ prog_1_method_47_code 2 (some .boolean),Jvm.Cond.code ⟨"PqOnesOrder","pRoot","(I)Z"⟩ prog_1_method_60_code 2 (some .boolean),Jvm.Cond.code ⟨"PqOnesOrder","sortKids","(I)V"⟩ prog_1_method_48_code 6 none,Jvm.Cond.code ⟨"PqOnesOrder","labelOf","(I)I"⟩ prog_1_method_27_code 2 (some .int),Jvm.Cond.code ⟨"PqOnesOrder","pRootNoPartial","(I)Z"⟩ prog_1_method_61_code 3 (some .boolean),Jvm.Cond.code ⟨"PqOnesOrder","groupOf","(Z)I"⟩ prog_1_method_49_code 7 (some .int),Jvm.Cond.code ⟨"PqOnesOrder","allocNode","(II)I"⟩ prog_1_method_33_code 4 (some .int),Jvm.Cond.code ⟨"PqOnesOrder","clearKids","(I)V"⟩ prog_1_method_31_code 4 none,Jvm.Cond.code ⟨"PqOnesOrder","seqStart","()V"⟩ prog_1_method_50_code 1 none,Jvm.Cond.code ⟨"PqOnesOrder","seqPushEmpties","()V"⟩ prog_1_method_52_code 2 none,Jvm.Cond.code ⟨"PqOnesOrder","seqPush","(I)V"⟩ prog_1_method_51_code 2 none,Jvm.Cond.code ⟨"PqOnesOrder","installSeq","(I)Z"⟩ prog_1_method_54_code 3 (some .boolean),Jvm.Cond.code ⟨"PqOnesOrder","normalize","()V"⟩ prog_1_method_40_code 3 none,Jvm.Cond.code ⟨"PqOnesOrder","findSingleKid","()I"⟩ prog_1_method_41_code 4 (some .int),Jvm.Cond.code ⟨"PqOnesOrder","collectGarbage","()V"⟩ prog_1_method_39_code 3 none,Jvm.Cond.code ⟨"PqOnesOrder","restoreTree","()V"⟩ prog_1_method_36_code 2 none,Jvm.Cond.code ⟨"PqOnesOrder","removeColumn","(I)Z"⟩ prog_1_method_6_code 2 (some .boolean),Jvm.Cond.code ⟨"PqOnesOrder","addColumn","(I)Z"⟩ prog_1_method_5_code 2 (some .boolean),Jvm.Cond.code ⟨"PqOnesOrder","startMask","()I"⟩ prog_1_method_14_code 1 (some .int),Jvm.Cond.code ⟨"PqOnesOrder","pendingMask","()I"⟩ prog_1_method_7_code 1 (some .int),Jvm.Cond.code ⟨"PqOnesOrder","commitRow","()I"⟩ prog_1_method_8_code 4 (some .int),Jvm.Cond.code ⟨"PqOnesOrder","addMask","(I)I"⟩ prog_1_method_17_code 3 (some .int),Jvm.Cond.code ⟨"PqOnesOrder","reduceInner","(I)Z"⟩ prog_1_method_46_code 2 (some .boolean),Jvm.Cond.code ⟨"PqOnesOrder","pInner","(I)Z"⟩ prog_1_method_58_code 5 (some .boolean),Jvm.Cond.code ⟨"PqOnesOrder","freeNode","(I)V"⟩ prog_1_method_34_code 2 none,Jvm.Cond.code ⟨"PqOnesOrder","pRootOnePartial","(I)Z"⟩ prog_1_method_62_code 4 (some .boolean),Jvm.Cond.code ⟨"PqOnesOrder","seqPushKids","(IZ)V"⟩ prog_1_method_53_code 7 none,Jvm.Cond.code ⟨"PqOnesOrder","qFirstStart","(I)V"⟩ prog_1_method_72_code 9 none,Jvm.Cond.code ⟨"PqOnesOrder","firstLeastOf","(I)I"⟩ prog_1_method_28_code 2 (some .int),Jvm.Cond.code ⟨"PqOnesOrder","pushQOrdered","(II)I"⟩ prog_1_method_75_code 12 (some .int),Jvm.Cond.code ⟨"PqOnesOrder","qRoot","(I)Z"⟩ prog_1_method_66_code 9 (some .boolean),Jvm.Cond.code ⟨"PqOnesOrder","firstNonEmpty","(I)I"⟩ prog_1_method_64_code 5 (some .int),Jvm.Cond.code ⟨"PqOnesOrder","lastNonEmpty","(I)I"⟩ prog_1_method_65_code 5 (some .int),Jvm.Cond.code ⟨"PqOnesOrder","qInner","(I)Z"⟩ prog_1_method_59_code 7 (some .boolean),Jvm.Cond.code ⟨"PqOnesOrder","direction","(I)I"⟩ prog_1_method_57_code 10 (some .int),Jvm.Cond.code ⟨"PqOnesOrder","rankOf","(I)I"⟩ prog_1_method_56_code 2 (some .int),Jvm.Cond.code ⟨"PqOnesOrder","reverseKids","(I)V"⟩ prog_1_method_55_code 7 none,Jvm.Cond.code ⟨"PqOnesOrder","putKid","(III)V"⟩ prog_1_method_26_code 4 none,Jvm.Cond.code ⟨"PqOnesOrder","addRowMask","(I)I"⟩ prog_1_method_9_code 2 (some .int),Jvm.Cond.code ⟨"PqOnesOrder","clearRow","()V"⟩ prog_1_method_4_code 1 none,Jvm.Cond.code ⟨"PqOnesOrder","pRootTwoPartial","(I)Z"⟩ prog_1_method_63_code 5 (some .boolean)]
theorem codes_eq:words1.filter isCode=codes1:=rfl
theorem w_codes:∀c∈words1.filter isCode,c.before args0 about1=true:=by
  rw[codes_eq]
  intro c hc
  simp only[codes1,List.mem_cons,List.not_mem_nil,or_false] at hc
  rcases hc with rfl | rfl | rfl | rfl | rfl | rfl | rfl | rfl | rfl | rfl | rfl | rfl | rfl | rfl | rfl | rfl | rfl | rfl | rfl | rfl | rfl | rfl | rfl | rfl | rfl | rfl | rfl | rfl | rfl | rfl | rfl | rfl | rfl | rfl | rfl | rfl | rfl | rfl | rfl | rfl | rfl | rfl | rfl | rfl | rfl | rfl | rfl | rfl | rfl | rfl | rfl | rfl | rfl | rfl | rfl | rfl | rfl | rfl | rfl | rfl | rfl | rfl | rfl | rfl | rfl | rfl | rfl | rfl | rfl | rfl | rfl | rfl | rfl | rfl | rfl | rfl | rfl | rfl | rfl | rfl | rfl
  · exact w_c0
  · exact w_c1
  · exact w_c2
  · exact w_c3
  · exact w_c4
  · exact w_c5
  · exact w_c6
  · exact w_c7
  · exact w_c8
  · exact w_c9
  · exact w_c10
  · exact w_c11
  · exact w_c12
  · exact w_c13
  · exact w_c14
  · exact w_c15
  · exact w_c16
  · exact w_c17
  · exact w_c18
  · exact w_c19
  · exact w_c20
  · exact w_c21
  · exact w_c22
  · exact w_c23
  · exact w_c24
  · exact w_c25
  · exact w_c26
  · exact w_c27
  · exact w_c28
  · exact w_c29
  · exact w_c30
  · exact w_c31
  · exact w_c32
  · exact w_c33
  · exact w_c34
  · exact w_c35
  · exact w_c36
  · exact w_c37
  · exact w_c38
  · exact w_c39
  · exact w_c40
  · exact w_c41
  · exact w_c42
  · exact w_c43
  · exact w_c44
  · exact w_c45
  · exact w_c46
  · exact w_c47
  · exact w_c48
  · exact w_c49
  · exact w_c50
  · exact w_c51
  · exact w_c52
  · exact w_c53
  · exact w_c54
  · exact w_c55
  · exact w_c56
  · exact w_c57
  · exact w_c58
  · exact w_c59
  · exact w_c60
  · exact w_c61
  · exact w_c62
  · exact w_c63
  · exact w_c64
  · exact w_c65
  · exact w_c66
  · exact w_c67
  · exact w_c68
  · exact w_c69
  · exact w_c70
  · exact w_c71
  · exact w_c72
  · exact w_c73
  · exact w_c74
  · exact w_c75
  · exact w_c76
  · exact w_c77
  · exact w_c78
  · exact w_c79
  · exact w_c80
theorem w_t1:(words1.take 24).all (fun c=>isCode c||c.before args0 about1)=true:=by decide +kernel
theorem w_t2:((words1.drop 24).take 24).all (fun c=>isCode c||c.before args0 about1)=true:=by decide +kernel
theorem w_t3:(((words1.drop 24).drop 24).take 24).all (fun c=>isCode c||c.before args0 about1)=true:=by decide +kernel
theorem w_t4:((((words1.drop 24).drop 24).drop 24).take 24).all (fun c=>isCode c||c.before args0 about1)=true:=by decide +kernel
theorem w_t5:(((((words1.drop 24).drop 24).drop 24).drop 24).take 24).all (fun c=>isCode c||c.before args0 about1)=true:=by decide +kernel
theorem w_t6:((((((words1.drop 24).drop 24).drop 24).drop 24).drop 24).take 24).all (fun c=>isCode c||c.before args0 about1)=true:=by decide +kernel
theorem w_t7:(((((((words1.drop 24).drop 24).drop 24).drop 24).drop 24).drop 24).take 24).all (fun c=>isCode c||c.before args0 about1)=true:=by decide +kernel
theorem w_t8:((((((((words1.drop 24).drop 24).drop 24).drop 24).drop 24).drop 24).drop 24).take 24).all (fun c=>isCode c||c.before args0 about1)=true:=by decide +kernel
theorem w_t9:(((((((((words1.drop 24).drop 24).drop 24).drop 24).drop 24).drop 24).drop 24).drop 24).take 24).all (fun c=>isCode c||c.before args0 about1)=true:=by decide +kernel
theorem w_t10:((((((((((words1.drop 24).drop 24).drop 24).drop 24).drop 24).drop 24).drop 24).drop 24).drop 24).take 24).all (fun c=>isCode c||c.before args0 about1)=true:=by decide +kernel
theorem w_t11:(((((((((((words1.drop 24).drop 24).drop 24).drop 24).drop 24).drop 24).drop 24).drop 24).drop 24).drop 24).take 24).all (fun c=>isCode c||c.before args0 about1)=true:=by decide +kernel
theorem w_t12:((((((((((((words1.drop 24).drop 24).drop 24).drop 24).drop 24).drop 24).drop 24).drop 24).drop 24).drop 24).drop 24).take 24).all (fun c=>isCode c||c.before args0 about1)=true:=by decide +kernel
theorem w_t13:(((((((((((((words1.drop 24).drop 24).drop 24).drop 24).drop 24).drop 24).drop 24).drop 24).drop 24).drop 24).drop 24).drop 24).take 24).all (fun c=>isCode c||c.before args0 about1)=true:=by decide +kernel
theorem w_t14:((((((((((((((words1.drop 24).drop 24).drop 24).drop 24).drop 24).drop 24).drop 24).drop 24).drop 24).drop 24).drop 24).drop 24).drop 24).take 24).all (fun c=>isCode c||c.before args0 about1)=true:=by decide +kernel
theorem w_t15:(((((((((((((((words1.drop 24).drop 24).drop 24).drop 24).drop 24).drop 24).drop 24).drop 24).drop 24).drop 24).drop 24).drop 24).drop 24).drop 24).take 24).all (fun c=>isCode c||c.before args0 about1)=true:=by decide +kernel
theorem w_t16:((((((((((((((((words1.drop 24).drop 24).drop 24).drop 24).drop 24).drop 24).drop 24).drop 24).drop 24).drop 24).drop 24).drop 24).drop 24).drop 24).drop 24).take 24).all (fun c=>isCode c||c.before args0 about1)=true:=by decide +kernel
theorem w_t17:(((((((((((((((((words1.drop 24).drop 24).drop 24).drop 24).drop 24).drop 24).drop 24).drop 24).drop 24).drop 24).drop 24).drop 24).drop 24).drop 24).drop 24).drop 24).take 24).all (fun c=>isCode c||c.before args0 about1)=true:=by decide +kernel
theorem w_t18:(((((((((((((((((words1.drop 24).drop 24).drop 24).drop 24).drop 24).drop 24).drop 24).drop 24).drop 24).drop 24).drop 24).drop 24).drop 24).drop 24).drop 24).drop 24).drop 24).all (fun c=>isCode c||c.before args0 about1)=true:=by decide +kernel
theorem w_tables:(allAtoms (Jvm.Cond.code x code maxLocals ret::tables_1)).before args0 about1=true:=by
  rw[allAtoms_all]
  show words1.all (fun c=>c.before args0 about1)=true
  refine all_split ?_ w_codes
  rw[←List.take_append_drop 24 words1,List.all_append,w_t1,←List.take_append_drop 24 (words1.drop 24),List.all_append,w_t2,←List.take_append_drop 24 ((words1.drop 24).drop 24),List.all_append,w_t3,←List.take_append_drop 24 (((words1.drop 24).drop 24).drop 24),List.all_append,w_t4,←List.take_append_drop 24 ((((words1.drop 24).drop 24).drop 24).drop 24),List.all_append,w_t5,←List.take_append_drop 24 (((((words1.drop 24).drop 24).drop 24).drop 24).drop 24),List.all_append,w_t6,←List.take_append_drop 24 ((((((words1.drop 24).drop 24).drop 24).drop 24).drop 24).drop 24),List.all_append,w_t7,←List.take_append_drop 24 (((((((words1.drop 24).drop 24).drop 24).drop 24).drop 24).drop 24).drop 24),List.all_append,w_t8,←List.take_append_drop 24 ((((((((words1.drop 24).drop 24).drop 24).drop 24).drop 24).drop 24).drop 24).drop 24),List.all_append,w_t9,←List.take_append_drop 24 (((((((((words1.drop 24).drop 24).drop 24).drop 24).drop 24).drop 24).drop 24).drop 24).drop 24),List.all_append,w_t10,←List.take_append_drop 24 ((((((((((words1.drop 24).drop 24).drop 24).drop 24).drop 24).drop 24).drop 24).drop 24).drop 24).drop 24),List.all_append,w_t11,←List.take_append_drop 24 (((((((((((words1.drop 24).drop 24).drop 24).drop 24).drop 24).drop 24).drop 24).drop 24).drop 24).drop 24).drop 24),List.all_append,w_t12,←List.take_append_drop 24 ((((((((((((words1.drop 24).drop 24).drop 24).drop 24).drop 24).drop 24).drop 24).drop 24).drop 24).drop 24).drop 24).drop 24),List.all_append,w_t13,←List.take_append_drop 24 (((((((((((((words1.drop 24).drop 24).drop 24).drop 24).drop 24).drop 24).drop 24).drop 24).drop 24).drop 24).drop 24).drop 24).drop 24),List.all_append,w_t14,←List.take_append_drop 24 ((((((((((((((words1.drop 24).drop 24).drop 24).drop 24).drop 24).drop 24).drop 24).drop 24).drop 24).drop 24).drop 24).drop 24).drop 24).drop 24),List.all_append,w_t15,←List.take_append_drop 24 (((((((((((((((words1.drop 24).drop 24).drop 24).drop 24).drop 24).drop 24).drop 24).drop 24).drop 24).drop 24).drop 24).drop 24).drop 24).drop 24).drop 24),List.all_append,w_t16,←List.take_append_drop 24 ((((((((((((((((words1.drop 24).drop 24).drop 24).drop 24).drop 24).drop 24).drop 24).drop 24).drop 24).drop 24).drop 24).drop 24).drop 24).drop 24).drop 24).drop 24),List.all_append,w_t17,w_t18]
  rfl
theorem w_rest:rest_1_c.before args0 about1=true:=by decide +kernel
theorem w_case:(Jvm.Cond.and given_1 narrow_1).before args0 about1=true:=by decide +kernel
theorem w_applies:(headSpec (Jvm.Cond.code x code maxLocals ret::tables_1) room_1).applies x e0.platform about1=true:=
  (Spec.applies_iff w_frames).mpr ⟨w_running,w_runnable,w_alone,w_named,w_hears,w_ripe,w_room,w_tables⟩
theorem atStart:AtStart classFile x code maxLocals ret World_1 tables_1 room_1 Calls_1 rest_1 Pre_1 launch0 p0 e0 about1 theMethod args0 below0:=
  ⟨lists_1,trivial,launch0.admits_env _ _ _,launch0.least_env,fairChoices_fair.cas,fairChoices_fair.clock,w_frames,w_args,w_heap,w_applies,trivial,w_rest,w_case⟩
end start1
theorem witness_1:WitnessClaimed_1:=⟨start1.p0,start1.e0,start1.about1,start1.theMethod,start1.args0,start1.below0,start1.atStart⟩
end Jvm.Pilot.@@N@@
