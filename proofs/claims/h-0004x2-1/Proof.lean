import JvmDerived
import JvmDerived.Pilot.@@N@@Statement
import JvmDerived.Pilot.@@N@@Code
set_option linter.unusedVariables false
set_option linter.unusedSimpArgs false
namespace Jvm.OM
open Sem ClassFile Op Lib Jvm.Stand Jvm.Free Jvm.LawKit Jvm.RoadKit
section Fix
variable {α ρ:Type}
abbrev Plan(α ρ:Type):=Option (ρ⊕(α⊕(α×(ρ→α))))
def run(P:α→Plan α ρ)(f:α→Option ρ)(c:α):Option ρ:=
 match P c with
 |none=>none
 |some (.inl r)=>some r
 |some (.inr (.inl c'))=>f c'
 |some (.inr (.inr q))=>(f q.1).bind fun r=>f (q.2 r)
def iter(P:α→Plan α ρ):Nat→α→Option ρ
 |0,_=>none
 |n+1,c=>run P (iter P n) c
theorem run_mono{P:α→Plan α ρ}{f g:α→Option ρ}(h:∀c r,f c=some r→g c=some r){c:α}{r:ρ}(e:run P f c=some r):run P g c=some r:=by
 unfold run at e ⊢
 split at e
 ·cases e
 ·exact e
 ·exact h _ _ e
 ·rename_i q _
  obtain⟨x,h1,h2⟩:=Option.bind_eq_some_iff.mp e
  exact Option.bind_eq_some_iff.mpr ⟨x,h _ _ h1,h _ _ h2⟩
theorem iter_succ{P:α→Plan α ρ}:∀ {n:Nat} {c:α} {r:ρ},iter P n c=some r→iter P (n+1) c=some r
 |0,_,_,e=>by cases e
 |n+1,c,r,e=>run_mono (f:=iter P n) (g:=iter P (n+1)) (fun _ _ h=>iter_succ h) e
theorem iter_le{P:α→Plan α ρ}{n k:Nat}{c:α}{r:ρ}(e:iter P n c=some r)(h:n≤k):iter P k c=some r:=by
 induction h with
 |refl=>exact e
 |step _ ih=>exact iter_succ ih
theorem exists_fix(P:α→Plan α ρ):∃f:α→Option ρ,(∀c,f c=run P f c)∧∀c r,f c=some r→∃n,iter P n c=some r:=by
 classical
 have key:∃f:α→Option ρ,∀c r,f c=some r↔∃n,iter P n c=some r:=by
  refine⟨fun c=>if h:∃r n,iter P n c=some r then some h.choose else none,fun c r=>?_⟩
  constructor
  ·intro e
   dsimp only at e
   split at e
   ·rename_i h
    cases e
    exact h.choose_spec
   ·cases e
  ·rintro ⟨n,e⟩
   have h:∃r n,iter P n c=some r:=⟨r,n,e⟩
   dsimp only
   rw[dif_pos h]
   obtain⟨k,e'⟩:=h.choose_spec
   have a:=iter_le e (Nat.le_max_left n k)
   have b:=iter_le e' (Nat.le_max_right n k)
   rw[a] at b
   exact b.symm
 obtain⟨f,hf⟩:=key
 refine⟨f,fun c=>?_,fun c r h=>(hf c r).mp h⟩
 have hle:∀n c r,iter P n c=some r→f c=some r:=fun n c r e=>(hf c r).mpr ⟨n,e⟩
 apply Option.ext
 intro r
 constructor
 ·intro e
  obtain⟨n,e⟩:=(hf c r).mp e
  cases n with
  |zero=>cases e
  |succ n=>exact run_mono (fun c r h=>hle n c r h) e
 ·intro e
  refine (hf c r).mpr ?_
  unfold run at e
  split at e
  ·cases e
  ·rename_i q hq
   exact⟨1,by simp only[iter,run,hq];exact e⟩
  ·rename_i c' hq
   obtain⟨n,h⟩:=(hf _ _).mp e
   exact⟨n+1,by simp only[iter,run,hq];exact h⟩
  ·rename_i q hq
   obtain⟨x,h1,h2⟩:=Option.bind_eq_some_iff.mp e
   obtain⟨n,h1⟩:=(hf _ _).mp h1
   obtain⟨k,h2⟩:=(hf _ _).mp h2
   exact⟨max n k+1,by
    simp only[iter,run,hq]
    rw[iter_le h1 (Nat.le_max_left n k)]
    exact iter_le h2 (Nat.le_max_right n k)⟩
end Fix
def setL:List Value→Nat→Value→List Value
 |[],0,v=>[v]
 |[],n+1,v => .null::setL [] n v
 |_::r,0,v=>v::r
 |x::r,n+1,v=>x::setL r n v
def nolong:Value→Value
 | .long _ => .null
 | .double _ => .null
 |v=>v
def clrL:List Value→Nat→List Value
 |[],_=>[]
 |x::r,0=>nolong x::r
 |x::r,n+1=>x::clrL r n
def st1(ls:List Value)(i:Nat)(v:Value):List Value:=match i with
 |0=>setL ls 0 v
 |j+1=>setL (clrL ls j) (j+1) v
def st2(ls:List Value)(i:Nat)(v:Value):List Value:=setL (st1 ls i v) (i+1) .null
def entL:List Value→List Value
 |[]=>[]
 | .long v::r => .long v :: .null::entL r
 |v::r=>v::entL r
def ii(g:Int32→Int32→Int32):List Value→Option (List Value)
 | .int y :: .int x::r=>some (.int (g x y)::r)
 |_=>none
def iz(g:Int32→Int32→Int32):List Value→Option (List Value)
 | .int y :: .int x::r=>if y=0 then none else some (.int (g x y)::r)
 |_=>none
def ll(g:Int64→Int64→Int64):List Value→Option (List Value)
 | .long y :: .long x::r=>some (.long (g x y)::r)
 |_=>none
def lz(g:Int64→Int64→Int64):List Value→Option (List Value)
 | .long y :: .long x::r=>if y=0 then none else some (.long (g x y)::r)
 |_=>none
def li(g:Int64→Int32→Int64):List Value→Option (List Value)
 | .int y :: .long x::r=>some (.long (g x y)::r)
 |_=>none
def i1(g:Int32→Value):List Value→Option (List Value)
 | .int x::r=>some (g x::r)
 |_=>none
def l1(g:Int64→Value):List Value→Option (List Value)
 | .long x::r=>some (g x::r)
 |_=>none
def lc(g:Int64→Int64→Int32):List Value→Option (List Value)
 | .long y :: .long x::r=>some (.int (g x y)::r)
 |_=>none
def pop1:List Value→Option (List Value)
 | .int _::r=>some r
 | .ref _::r=>some r
 |_=>none
def dup1:List Value→Option (List Value)
 | .int x::r=>some (.int x :: .int x::r)
 | .ref x::r=>some (.ref x :: .ref x::r)
 |_=>none
def dup2':List Value→Option (List Value)
 | .int y :: .int x::r=>some (.int y :: .int x :: .int y :: .int x::r)
 | .int y :: .ref x::r=>some (.int y :: .ref x :: .int y :: .ref x::r)
 | .long x::r=>some (.long x :: .long x::r)
 |_=>none
def alu(i:Instr)(st:List Value):Option (List Value):=match i with
 | .iconst i=>some (.int (Int32.ofInt i)::st)
 | .lconst k=>some (.long (Int64.ofNat k)::st)
 | .ldc2_w n=>some (.long (Int64.ofNat n)::st)
 | .iadd=>ii (fun x y=>x+y) st
 | .isub=>ii (fun x y=>x-y) st
 | .imul=>ii (fun x y=>x*y) st
 | .idiv=>iz (fun x y=>x/y) st
 | .irem=>iz (fun x y=>x%y) st
 | .ineg=>i1 (fun x => .int (-x)) st
 | .iand=>ii (fun x y=>x&&&y) st
 | .ior=>ii (fun x y=>x|||y) st
 | .ixor=>ii (fun x y=>x^^^y) st
 | .ishl=>ii (fun x y=>x<<<(y&&&31)) st
 | .ishr=>ii (fun x y=>x>>>(y&&&31)) st
 | .iushr=>ii (fun x y=>XT.ushr x y) st
 | .ladd=>ll (fun x y=>x+y) st
 | .lsub=>ll (fun x y=>x-y) st
 | .lmul=>ll (fun x y=>x*y) st
 | .land=>ll (fun x y=>x&&&y) st
 | .lor=>ll (fun x y=>x|||y) st
 | .lxor=>ll (fun x y=>x^^^y) st
 | .lshl=>li (fun x y=>x<<<(y.toInt64&&&63)) st
 | .lushr=>li (fun x y=>XT.ushrL x y) st
 | .lrem=>lz (fun x y=>x%y) st
 | .lcmp=>lc (fun x y=>XT.cmpL x y) st
 | .i2l=>i1 (fun x => .long x.toInt64) st
 | .l2i=>l1 (fun x => .int x.toInt32) st
 | .i2b=>i1 (fun x => .int x.toInt8.toInt32) st
 | .pop=>pop1 st
 | .dup=>dup1 st
 | .dup2=>dup2' st
 |_=>none
def ldI(ls:List Value)(k:Nat):Option Value:=match ls[k]? with
 |some (.int v)=>some (.int v)
 |_=>none
def ldA(ls:List Value)(k:Nat):Option Value:=match ls[k]? with
 |some (.ref v)=>some (.ref v)
 |_=>none
def ldL(ls:List Value)(k:Nat):Option Value:=match ls[k]? with
 |some (.long v)=>some (.long v)
 |_=>none
def incI(ls:List Value)(k:Nat)(c:Int):Option (List Value):=match ls[k]? with
 |some (.int v)=>some (st1 ls k (.int (v+Int32.ofInt c)))
 |_=>none
def stI'(ls:List Value)(k:Nat):List Value→Option (List Value×List Value)
 | .int v::st=>some (st1 ls k (.int v),st)
 |_=>none
def stA'(ls:List Value)(k:Nat):List Value→Option (List Value×List Value)
 | .ref v::st=>some (st1 ls k (.ref v),st)
 |_=>none
def stL'(ls:List Value)(k:Nat):List Value→Option (List Value×List Value)
 | .long v::st=>some (st2 ls k (.long v),st)
 |_=>none
def loc(i:Instr)(ls st:List Value):Option (List Value×List Value):=match i with
 | .iload k=>(ldI ls k).map fun v=>(ls,v::st)
 | .aload k=>(ldA ls k).map fun v=>(ls,v::st)
 | .lload k=>(ldL ls k).map fun v=>(ls,v::st)
 | .istore k=>stI' ls k st
 | .astore k=>stA' ls k st
 | .lstore k=>stL' ls k st
 | .iinc k c=>(incI ls k c).map fun l=>(l,st)
 |i=>(alu i st).map fun st'=>(ls,st')
def cnd{β:Type}(c:ClassFile.Cond)(x y:Int32)(a b:β):β:=match c with
 | .eq=>if x=y then a else b
 | .ne=>if x=y then b else a
 | .lt=>if x<y then a else b
 | .ge=>if x<y then b else a
 | .gt=>if y<x then a else b
 | .le=>if y<x then b else a
def swc{β:Type}(x:Int32):Int→List Int→(Nat→β)→β→β
 |_,[],_,d=>d
 |lo,t::ts,k,d=>if x=Int32.ofInt lo then k t.toNat else swc x (lo+1) ts k d
def tk(kp:Option Nat)(ls:List Value):List Value:=match kp with
 |none=>ls
 |some k=>ls.take k
def takeA:Nat→List Value→List Value→Option (List Value×List Value)
 |0,acc,st=>some (acc,st)
 |n+1,acc,v::st=>takeA n (v::acc) st
 |_+1,_,[]=>none
def cats(st:List Value):Nat:=(st.map fun v=>v.category).sum
section Machine
variable {τ:Type}
abbrev Cfg(τ:Type):=Nat×Nat×List Value×List Value×τ
abbrev Res(τ:Type):=Option Value×τ
abbrev Codes:=Nat→Nat→Option (Instr×Nat×Option Nat)
abbrev Mop(τ:Type):=Nat→Instr→List Value→τ→Option (List Value×τ)
abbrev Cop:=Nat→Instr→List Value→Option (Nat×List Value×List Value)
def retV(t:Option FieldType)(i:Instr)(st:List Value):Option (Option Value):=match i with
 | .return_=>(match t,st with
  |none,[]=>some none
  |_,_=>none)
 | .ireturn=>(match t,st with
  |some .int,[.int v]=>some (some (.int v))
  |some .boolean,[.int v]=>some (some (.int (v&&&1)))
  |_,_=>none)
 | .lreturn=>(match t,st with
  |some .long,[.long v]=>some (some (.long v))
  |_,_=>none)
 |_=>none
def rest(rt:Option FieldType)(mop:Mop τ)(cop:Cop)(m pn:Nat)(i:Instr)(ls st:List Value)(S:τ):Plan (Cfg τ) (Res τ):=
 match retV rt i st with
 |some v=>some (.inl (v,S))
 |none=>match loc i ls st with
  |some q=>some (.inr (.inl (m,pn,q.1,q.2,S)))
  |none=>match mop m i st S with
   |some q=>some (.inr (.inl (m,pn,ls,q.1,q.2)))
   |none=>match cop m i st with
    |some q=>some (.inr (.inr ((q.1,0,entL q.2.1,[],S),fun r=>(m,pn,ls,r.1.toList++q.2.2,r.2))))
    |none=>none
def pl1(m pn:Nat)(cd:ClassFile.Cond)(t:Nat)(ls:List Value)(S:τ):List Value→Plan (Cfg τ) (Res τ)
 | .int x::st=>some (.inr (.inl (cnd cd x 0 (m,t,ls,st,S) (m,pn,ls,st,S))))
 |_=>none
def pl2(m pn:Nat)(cd:ClassFile.Cond)(t:Nat)(ls:List Value)(S:τ):List Value→Plan (Cfg τ) (Res τ)
 | .int y :: .int x::st=>some (.inr (.inl (cnd cd x y (m,t,ls,st,S) (m,pn,ls,st,S))))
 |_=>none
def pl3(m d:Nat)(lo:Int)(ts:List Int)(ls:List Value)(S:τ):List Value→Plan (Cfg τ) (Res τ)
 | .int x::st=>some (.inr (.inl (swc x lo ts (fun t=>(m,t,ls,st,S)) (m,d,ls,st,S))))
 |_=>none
def plan(code:Codes)(rt:Nat→Option FieldType)(mop:Mop τ)(cop:Cop)(c:Cfg τ):Plan (Cfg τ) (Res τ):=
 match code c.1 c.2.1 with
 |none=>none
 |some q=>match q.1 with
  | .goto t=>some (.inr (.inl (c.1,t.toNat,tk q.2.2 c.2.2.1,c.2.2.2.1,c.2.2.2.2)))
  | .ifCond cd t=>pl1 c.1 q.2.1 cd t.toNat (tk q.2.2 c.2.2.1) c.2.2.2.2 c.2.2.2.1
  | .if_icmp cd t=>pl2 c.1 q.2.1 cd t.toNat (tk q.2.2 c.2.2.1) c.2.2.2.2 c.2.2.2.1
  | .tableswitch d lo _ ts=>pl3 c.1 d.toNat lo ts.toList (tk q.2.2 c.2.2.1) c.2.2.2.2 c.2.2.2.1
  |i=>rest (rt c.1) mop cop c.1 q.2.1 i (tk q.2.2 c.2.2.1) c.2.2.2.1 c.2.2.2.2
theorem cnd_map{β γ:Type}(g:β→γ)(c:ClassFile.Cond)(x y:Int32)(a b:β):g (cnd c x y a b)=cnd c x y (g a) (g b):=by
 cases c<;>simp only[cnd]<;>split<;>rfl
theorem swc_map{β γ:Type}(g:β→γ)(x:Int32)(k:Nat→β)(d:β):∀(ts:List Int) (lo:Int),g (swc x lo ts k d)=swc x lo ts (fun t=>g (k t)) (g d)
 |[],_=>rfl
 |t::ts,lo=>by
  simp only[swc]
  split
  ·rfl
  ·exact swc_map g x k d ts (lo+1)
end Machine
def lk{β:Type}(k:Nat):List (Nat×β)→Option β
 |[]=>none
 |q::r=>if q.1=k then some q.2 else lk k r
theorem lk_mem{β:Type}{k:Nat}{b:β}:∀ {l:List (Nat×β)},lk k l=some b→(k,b)∈l
 |[],h=>by cases h
 |q::r,h=>by
  simp only[lk] at h
  split at h
  ·rename_i e
   cases h
   subst e
   exact List.mem_cons_self ..
  ·exact List.mem_cons_of_mem _ (lk_mem h)
abbrev Tabs:=List (Nat×String×String×Nat)×List (Nat×Nat)×List (Nat×Nat)×List (Nat×Int32)×List (Nat×Int64)×List (Nat×Nat)×List (Nat×Nat)
def absT(pc:Nat)(o:Int):Option Int:=if 0≤(pc:Int)+o then some ((pc:Int)+o) else none
def lt(ml k:Nat)(i:Instr):Option Instr:=if k<ml then some i else none
def plain1:Instr→Bool
 | .lconst _ | .iadd | .isub | .imul | .idiv | .irem | .ineg | .iand | .ior | .ixor | .ishl | .ishr | .iushr | .ladd | .lsub | .lmul | .land | .lor | .lxor | .lshl | .lushr | .lrem | .lcmp | .i2l | .l2i | .i2b | .pop | .dup | .dup2=>true
 |_=>false
def heapy:Instr→Bool
 | .iaload | .iastore | .baload | .bastore | .arraylength | .ireturn | .lreturn | .return_=>true
 |_=>false
def canon(T:Tabs)(ml pc:Nat)(i:Instr):Option Instr:=match i with
 | .iload_n k=>some (.iload k.val)
 | .iload k=>some (.iload k)
 | .aload_n k=>some (.aload k.val)
 | .aload k=>some (.aload k)
 | .lload_n k=>some (.lload k.val)
 | .lload k=>some (.lload k)
 | .istore_n k=>lt ml k.val (.istore k.val)
 | .istore k=>lt ml k (.istore k)
 | .astore_n k=>lt ml k.val (.astore k.val)
 | .astore k=>lt ml k (.astore k)
 | .lstore_n k=>lt ml (k.val+1) (.lstore k.val)
 | .lstore k=>lt ml (k+1) (.lstore k)
 | .iinc k c=>lt ml k (.iinc k c)
 | .iconst i=>some (.iconst i)
 | .bipush i=>some (.iconst (Int8.ofInt i).toInt32.toInt)
 | .sipush i=>some (.iconst (Int16.ofInt i).toInt32.toInt)
 | .ldc k=>(lk k T.2.2.2.1).map fun v => .iconst v.toInt
 | .ldc2_w k=>(lk k T.2.2.2.2.1).map fun v => .ldc2_w v.toUInt64.toNat
 | .goto o=>(absT pc o).map fun t => .goto t
 | .ifCond cd o=>(absT pc o).map fun t => .ifCond cd t
 | .if_icmp cd o=>(absT pc o).map fun t => .if_icmp cd t
 | .tableswitch d lo hi offs=>if (0≤(pc:Int)+d)∧(offs.all fun o=>decide (0≤(pc:Int)+o))=true∧(offs.size:Int)=hi-lo+1 ∧ -2147483648≤lo∧hi<2147483648 then some (.tableswitch (pc+d) lo hi (offs.map fun o=>(pc:Int)+o)) else none
 | .getfield k=>(lk k T.1).map fun q => .getfield q.2.2
 | .putfield k=>(lk k T.1).map fun q => .putfield q.2.2
 | .invokevirtual k=>(lk k T.2.1).map fun q => .invokevirtual q
 | .invokestatic k=>(lk k T.2.2.1).map fun q => .invokestatic q
 | .new k=>(lk k T.2.2.2.2.2.1).map fun q => .new q
 | .invokespecial k=>(lk k T.2.2.2.2.2.2).map fun q => .invokespecial q
 |i=>if plain1 i||heapy i then some i else none
def cv(ρ:Nat→Nat):Value→Value
 | .ref r => .ref (ρ r)
 |v=>v
def LocRel(ρ:Nat→Nat)(ls:List Value)(L:Array Slot):Prop:=∀(i:Nat) (v:Value),ls[i]? = some v→v ≠ .null→L[i]? = some (.val (cv ρ v))
def WFL(L:Array Slot):Prop:=(∀i:Nat,L[i]? = some .second→∃(j:Nat) (v:Value),i=j+1∧L[j]? = some (.val v)∧v.category=2)∧∀(i:Nat) (v:Value),L[i]? = some (.val v)→v.category=2→L[i+1]? = some .second
theorem setL_get(v:Value):∀(ls:List Value) (k i:Nat) (w:Value),(setL ls k v)[i]? = some w→(i=k∧w=v)∨(i≠k∧(w = .null∨ls[i]? = some w))
 |[],0,i,w,h=>by
  cases i with
  |zero=>simp[setL] at h;exact Or.inl ⟨rfl,h.symm⟩
  |succ i=>simp[setL] at h
 |[],k+1,i,w,h=>by
  cases i with
  |zero=>simp[setL] at h;exact Or.inr ⟨by omega,Or.inl h.symm⟩
  |succ i=>
   simp[setL] at h
   rcases setL_get v [] k i w h with⟨a,b⟩ | ⟨a,b⟩
   ·exact Or.inl ⟨by omega,b⟩
   ·exact Or.inr ⟨by omega,b.imp id (fun q=>by simp at q)⟩
 |x::r,0,i,w,h=>by
  cases i with
  |zero=>simp[setL] at h;exact Or.inl ⟨rfl,h.symm⟩
  |succ i=>simp[setL] at h;exact Or.inr ⟨by omega,Or.inr (by simpa using h)⟩
 |x::r,k+1,i,w,h=>by
  cases i with
  |zero=>simp[setL] at h;exact Or.inr ⟨by omega,Or.inr (by simpa using h)⟩
  |succ i=>
   simp[setL] at h
   rcases setL_get v r k i w h with⟨a,b⟩ | ⟨a,b⟩
   ·exact Or.inl ⟨by omega,b⟩
   ·exact Or.inr ⟨by omega,b.imp id (fun q=>by simpa using q)⟩
theorem clrL_get:∀(ls:List Value) (k i:Nat) (w:Value),(clrL ls k)[i]? = some w→w ≠ .null→ls[i]? = some w∧(i=k→w.category=1)
 |[],k,i,w,h,_=>by simp[clrL] at h
 |x::r,0,i,w,h,hn=>by
  cases i with
  |zero=>
   simp[clrL] at h
   cases x<;>simp[nolong] at h<;>subst h<;>first | exact absurd rfl hn | exact⟨rfl,fun _=>rfl⟩
  |succ i=>simp[clrL] at h;exact⟨by simpa using h,fun q=>by omega⟩
 |x::r,k+1,i,w,h,hn=>by
  cases i with
  |zero=>simp[clrL] at h;exact⟨by simpa using h,fun q=>by omega⟩
  |succ i=>
   simp[clrL] at h
   obtain⟨a,b⟩:=clrL_get r k i w h hn
   exact⟨by simpa using a,fun q=>b (by omega)⟩
theorem setAt_in{L:Array Slot}{i:Nat}(h:i<L.size)(x:Slot):setAt L i x=some (L.setIfInBounds i x):=by simp[setAt,h]
theorem get_set_ne{L:Array Slot}{i j:Nat}(h:i≠j)(x:Slot):(L.setIfInBounds i x)[j]? = L[j]? := Array.getElem?_setIfInBounds_ne h
theorem get_set_eq{L:Array Slot}{i:Nat}(h:i<L.size)(x:Slot):(L.setIfInBounds i x)[i]? = some x:=by simp[h]
theorem free_rel {ρ : Nat → Nat} {ls : List Value} {L : Array Slot} {k : Nat} (R : LocRel ρ ls L) (W : WFL L) (hk : k < L.size) :
    ∃ L1 : Array Slot, L1.size = L.size ∧ (∀ w, storeLocals L k w = storeSelf L1 k w) ∧ WFL (L1.setIfInBounds k .unset) ∧ (∀ i, i ≠ k → L1[i]? = L[i]? ∨ L1[i]? = some .unset) ∧
      ∀ (i : Nat) (v : Value), i ≠ k → ls[i]? = some v → v ≠ .null → (i + 1 = k → v.category = 1) → L1[i]? = some (.val (cv ρ v)) := by
  have cvc : ∀ v : Value, (cv ρ v).category = v.category := fun v => by cases v <;> rfl
  obtain ⟨x, hx⟩ : ∃ x, L[k]? = some x := ⟨L[k], by simp [hk]⟩
  cases x with
  | unset =>
    refine ⟨L, rfl, fun w => by simp [storeLocals, hx], ⟨fun i h => ?_, fun i v h hc => ?_⟩, fun i _ => Or.inl rfl, fun i v hi h hn _ => R i v h hn⟩
    · by_cases e : k = i
      · subst e; rw [get_set_eq hk] at h; cases h
      · rw [get_set_ne e] at h
        obtain ⟨j, v, e1, e2, e3⟩ := W.1 i h
        refine ⟨j, v, e1, ?_, e3⟩
        by_cases q : k = j
        · subst q; rw [hx] at e2; cases e2
        · rw [get_set_ne q]; exact e2
    · by_cases e : k = i
      · subst e; rw [get_set_eq hk] at h; cases h
      · rw [get_set_ne e] at h
        have := W.2 i v h hc
        by_cases q : k = i + 1
        · subst q; rw [hx] at this; cases this
        · rw [get_set_ne q]; exact this
  | second =>
    obtain ⟨j, v0, rfl, e2, e3⟩ := W.1 k hx
    have hj : j < L.size := by omega
    refine ⟨L.setIfInBounds j .unset, by simp, fun w => by simp [storeLocals, hx, setAt_in hj], ⟨fun i h => ?_, fun i v h hc => ?_⟩, fun i _ => ?_, fun i v hi h hn hc => ?_⟩
    · by_cases e : j + 1 = i
      · subst e; rw [get_set_eq (by simpa using hk)] at h; cases h
      · rw [get_set_ne e] at h
        by_cases q : j = i
        · subst q; rw [get_set_eq hj] at h; cases h
        · rw [get_set_ne q] at h
          obtain ⟨j', v, f1, f2, f3⟩ := W.1 i h
          refine ⟨j', v, f1, ?_, f3⟩
          have g1 : j + 1 ≠ j' := fun q' => by subst q'; rw [hx] at f2; cases f2
          have g2 : j ≠ j' := fun q' => by subst q'; exact e f1.symm
          rw [get_set_ne g1, get_set_ne g2]; exact f2
    · by_cases e : j + 1 = i
      · subst e; rw [get_set_eq (by simpa using hk)] at h; cases h
      · rw [get_set_ne e] at h
        by_cases q : j = i
        · subst q; rw [get_set_eq hj] at h; cases h
        · rw [get_set_ne q] at h
          have t := W.2 i v h hc
          have g1 : j + 1 ≠ i + 1 := by omega
          have g2 : j ≠ i + 1 := fun q' => by subst q'; rw [e2] at t; cases t
          rw [get_set_ne g1, get_set_ne g2]; exact t
    · by_cases q : j = i
      · subst q; exact Or.inr (get_set_eq hj _)
      · exact Or.inl (get_set_ne q _)
    · by_cases q : j = i
      · subst q
        have := R j v h hn
        rw [e2] at this
        have e4 : v0 = cv ρ v := by simpa using this
        rw [e4, cvc, hc rfl] at e3; cases e3
      · rw [get_set_ne q]; exact R i v h hn
  | val old =>
    by_cases hc2 : old.category = 2
    · have hs := W.2 k old hx hc2
      have hk1 : k + 1 < L.size := (Array.getElem?_eq_some_iff.mp hs).1
      refine ⟨L.setIfInBounds (k + 1) .unset, by simp, fun w => by simp [storeLocals, hx, setAt_in hk1, hc2], ⟨fun i h => ?_, fun i v h hc => ?_⟩, fun i _ => ?_, fun i v hi h hn hc => ?_⟩
      · by_cases e : k = i
        · subst e; rw [get_set_eq (by simpa using hk)] at h; cases h
        · rw [get_set_ne e] at h
          by_cases q : k + 1 = i
          · subst q; rw [get_set_eq hk1] at h; cases h
          · rw [get_set_ne q] at h
            obtain ⟨j', v, f1, f2, f3⟩ := W.1 i h
            refine ⟨j', v, f1, ?_, f3⟩
            have g1 : k ≠ j' := fun q' => by subst q'; exact q f1.symm
            have g2 : k + 1 ≠ j' := fun q' => by subst q'; rw [hs] at f2; cases f2
            rw [get_set_ne g1, get_set_ne g2]; exact f2
      · by_cases e : k = i
        · subst e; rw [get_set_eq (by simpa using hk)] at h; cases h
        · rw [get_set_ne e] at h
          by_cases q : k + 1 = i
          · subst q; rw [get_set_eq hk1] at h; cases h
          · rw [get_set_ne q] at h
            have t := W.2 i v h hc
            have g1 : k ≠ i + 1 := fun q' => by subst q'; rw [hx] at t; cases t
            have g2 : k + 1 ≠ i + 1 := by omega
            rw [get_set_ne g1, get_set_ne g2]; exact t
      · by_cases q : k + 1 = i
        · subst q; exact Or.inr (get_set_eq hk1 _)
        · exact Or.inl (get_set_ne q _)
      · by_cases q : k + 1 = i
        · subst q
          have := R _ v h hn
          rw [hs] at this; cases this
        · rw [get_set_ne q]; exact R i v h hn
    · refine ⟨L, rfl, fun w => by simp [storeLocals, hx, hc2], ⟨fun i h => ?_, fun i v h hc => ?_⟩, fun i _ => Or.inl rfl, fun i v hi h hn _ => R i v h hn⟩
      · by_cases e : k = i
        · subst e; rw [get_set_eq hk] at h; cases h
        · rw [get_set_ne e] at h
          obtain ⟨j, v, e1, e2, e3⟩ := W.1 i h
          refine ⟨j, v, e1, ?_, e3⟩
          by_cases q : k = j
          · subst q; rw [hx] at e2; cases e2; exact absurd e3 hc2
          · rw [get_set_ne q]; exact e2
      · by_cases e : k = i
        · subst e; rw [get_set_eq hk] at h; cases h
        · rw [get_set_ne e] at h
          have := W.2 i v h hc
          by_cases q : k = i + 1
          · subst q; rw [hx] at this; cases this
          · rw [get_set_ne q]; exact this
theorem st1_get{ls:List Value}{k i:Nat}{v w:Value}(h:(st1 ls k v)[i]? = some w)(hn:w ≠ .null):(i=k∧w=v)∨(i≠k∧ls[i]? = some w∧(i+1=k→w.category=1)):=by
 cases k with
 |zero=>
  rcases setL_get v ls 0 i w h with q | ⟨q1,q2 | q2⟩
  ·exact Or.inl q
  ·exact absurd q2 hn
  ·exact Or.inr ⟨q1,q2,fun q=>by omega⟩
 |succ k=>
  rcases setL_get v (clrL ls k) (k+1) i w h with q | ⟨q1,q2 | q2⟩
  ·exact Or.inl q
  ·exact absurd q2 hn
  ·obtain⟨a,b⟩:=clrL_get ls k i w q2 hn
   exact Or.inr ⟨q1,a,fun q=>b (by omega)⟩
theorem store1{ρ:Nat→Nat}{ls:List Value}{L:Array Slot}{k:Nat}{v:Value}(R:LocRel ρ ls L)(W:WFL L)(hk:k<L.size)(hv:v.category=1) :
  ∃L',storeLocals L k (cv ρ v)=some L'∧LocRel ρ (st1 ls k v) L'∧WFL L'∧L'.size=L.size:=by
 have cvc:(cv ρ v).category=1:=by cases v<;>first | rfl | exact hv
 obtain⟨L1,z,hs,wf,hu,hl⟩:=free_rel R W hk
 have hk1:k<L1.size:=by omega
 refine⟨L1.setIfInBounds k (.val (cv ρ v)),by rw[hs];simp[storeSelf,setAt_in hk1,cvc],fun i w h hn=>?_,⟨fun i h=>?_,fun i w h hc=>?_⟩,by simp[z]⟩
 ·rcases st1_get h hn with⟨rfl,rfl⟩ | ⟨a,b,c⟩
  ·exact get_set_eq hk1 _
  ·rw[get_set_ne (Ne.symm a)];exact hl i w a b hn c
 ·by_cases e:k=i
  ·subst e;rw[get_set_eq hk1] at h;cases h
  ·rw[get_set_ne e] at h
   obtain⟨j,w,e1,e2,e3⟩:=wf.1 i (by rw[get_set_ne e];exact h)
   refine⟨j,w,e1,?_,e3⟩
   by_cases q:k=j
   ·subst q;rw[get_set_eq hk1] at e2;cases e2
   ·rw[get_set_ne q] at e2 ⊢;exact e2
 ·by_cases e:k=i
  ·subst e
   rw[get_set_eq hk1] at h
   have:cv ρ v=w:=by simpa using h
   rw[←this,cvc] at hc;cases hc
  ·rw[get_set_ne e] at h
   have t:=wf.2 i w (by rw[get_set_ne e];exact h) hc
   by_cases q:k=i+1
   ·rw[q,get_set_eq (by omega)] at t;cases t
   ·rw[get_set_ne q] at t ⊢;exact t
theorem store2{ρ:Nat→Nat}{ls:List Value}{L:Array Slot}{k:Nat}{x:Int64}(R:LocRel ρ ls L)(W:WFL L)(hk:k+1<L.size) :
  ∃L',storeLocals L k (.long x)=some L'∧LocRel ρ (st2 ls k (.long x)) L'∧WFL L'∧L'.size=L.size:=by
 obtain⟨L1,z,hs,wf,hu,hl⟩:=free_rel R W (by omega:k<L.size)
 have hk0:k<L1.size:=by omega
 have hk1:k+1<L1.size:=by omega
 have hk1':k+1<(L1.setIfInBounds k (.val (.long x))).size:=by simpa using hk1
 have e1:(L1.setIfInBounds k (.val (.long x)))[k+1]? = L1[k+1]? := get_set_ne (by omega) _
 have ns:L1[k+1]? ≠ some .second:=fun q=>by
  obtain⟨j,w,f1,f2,f3⟩:=wf.1 (k+1) (by rw[get_set_ne (by omega)];exact q)
  have:j=k:=by omega
  subst this
  rw[get_set_eq hk0] at f2;cases f2
 have key:∃L2:Array Slot,storeSelf L1 k (.long x)=some (L2.setIfInBounds (k+1) .second)∧L2.size=L.size∧L2[k]? = some (.val (.long x))∧(∀i,i≠k→i≠k+1→i≠k+2→L2[i]? = L1[i]?) ∧
   ((L2[k+2]? = L1[k+2]? ∧ ∀w,L1[k+1]? = some (.val w)→w.category≠2)∨(L2[k+2]? = some .unset∧L1[k+2]? = some .second)):=by
  obtain⟨y,hy⟩:∃y,L1[k+1]? = some y:=⟨L1[k+1],by simp[hk1]⟩
  cases y with
  |second=>exact absurd hy ns
  |unset=>
   refine⟨L1.setIfInBounds k (.val (.long x)),by simp[storeSelf,setAt_in hk0,Value.category,e1,hy,setAt_in hk1'],by simp[z],get_set_eq hk0 _,fun i a b c=>get_set_ne (Ne.symm a) _,Or.inl ⟨get_set_ne (by omega) _,fun w q=>by rw[hy] at q;cases q⟩⟩
  |val old=>
   by_cases hc:old.category=2
   ·have t:=wf.2 (k+1) old (by rw[get_set_ne (by omega)];exact hy) hc
    rw[get_set_ne (by omega)] at t
    have hk2:k+2<L1.size:=(Array.getElem?_eq_some_iff.mp t).1
    refine⟨(L1.setIfInBounds k (.val (.long x))).setIfInBounds (k+2) .unset,?_,by simp[z],by rw[get_set_ne (by omega)];exact get_set_eq hk0 _,fun i a b c=>by rw[get_set_ne (Ne.symm c),get_set_ne (Ne.symm a)],Or.inr ⟨get_set_eq (by simpa using hk2) _,t⟩⟩
    simp[storeSelf,setAt,hk0,show (Value.long x).category=2 from rfl,e1,hc,hk1,hk2]
    rw[(Array.getElem?_eq_some_iff.mp hy).2]
    simp[hc]
   ·refine⟨L1.setIfInBounds k (.val (.long x)),?_,by simp[z],get_set_eq hk0 _,fun i a b c=>get_set_ne (Ne.symm a) _,Or.inl ⟨get_set_ne (by omega) _,fun w q=>by rw[hy] at q;cases q;exact hc⟩⟩
    simp[storeSelf,setAt,hk0,show (Value.long x).category=2 from rfl,e1,hc,hk1]
    rw[(Array.getElem?_eq_some_iff.mp hy).2]
    simp[hc]
 obtain⟨L2,s2,z2,g0,gi,g2⟩:=key
 have hk2:k+1<L2.size:=by omega
 refine⟨L2.setIfInBounds (k+1) .second,by rw[hs];exact s2,fun i w h hn=>?_,⟨fun i h=>?_,fun i w h hc=>?_⟩,by simp[z2]⟩
 ·rcases setL_get .null _ _ _ _ h with⟨a,b⟩ | ⟨a,b | b⟩
  ·exact absurd b hn
  ·exact absurd b hn
  ·rw[get_set_ne (Ne.symm a)]
   rcases st1_get b hn with⟨rfl,rfl⟩ | ⟨a',b',c'⟩
   ·exact g0
   ·have t:=hl i w a' b' hn c'
    by_cases q:i=k+2
    ·subst q
     rcases g2 with⟨q1,-⟩ | ⟨-,q2⟩
     ·rw[q1];exact t
     ·rw[q2] at t;cases t
    ·rw[gi i a' a q];exact t
 ·by_cases e:k+1=i
  ·subst e;exact⟨k,.long x,rfl,by rw[get_set_ne (by omega)];exact g0,rfl⟩
  ·rw[get_set_ne e] at h
   by_cases e0:i=k
   ·subst e0;rw[g0] at h;cases h
   ·have h':L1[i]? = some .second∧∀w,i=k+2→L1[k+1]? = some (.val w)→w.category≠2:=by
     by_cases q:i=k+2
     ·subst q
      rcases g2 with⟨q1,q3⟩ | ⟨q2,-⟩
      ·rw[q1] at h;exact⟨h,fun w _=>q3 w⟩
      ·rw[q2] at h;cases h
     ·rw[gi i e0 (Ne.symm e) q] at h;exact⟨h,fun w q'=>absurd q' q⟩
    obtain⟨j,w,f1,f2,f3⟩:=wf.1 i (by rw[get_set_ne (Ne.symm e0)];exact h'.1)
    have jk:j≠k:=by omega
    rw[get_set_ne (Ne.symm jk)] at f2
    have jk1:j≠k+1:=fun q=>by subst q;exact h'.2 w f1 f2 f3
    refine⟨j,w,f1,?_,f3⟩
    rw[get_set_ne (Ne.symm jk1)]
    by_cases q:j=k+2
    ·subst q
     rcases g2 with⟨q1,-⟩ | ⟨-,q2⟩
     ·rw[q1];exact f2
     ·rw[q2] at f2;cases f2
    ·rw[gi j jk jk1 q];exact f2
 ·by_cases e:k+1=i
  ·subst e;rw[get_set_eq hk2] at h;cases h
  ·rw[get_set_ne e] at h
   by_cases e0:i=k
   ·subst e0;exact get_set_eq hk2 _
   ·have h':L1[i]? = some (.val w):=by
     by_cases q:i=k+2
     ·subst q
      rcases g2 with⟨q1,-⟩ | ⟨q2,-⟩
      ·rw[q1] at h;exact h
      ·rw[q2] at h;cases h
     ·rw[gi i e0 (Ne.symm e) q] at h;exact h
    have t:=wf.2 i w (by rw[get_set_ne (Ne.symm e0)];exact h') hc
    have n1:i+1≠k:=fun q=>by rw[q,get_set_eq hk0] at t;cases t
    rw[get_set_ne (Ne.symm n1)] at t
    have n2:i+1≠k+1:=by omega
    rw[get_set_ne (Ne.symm n2)]
    by_cases q:i+1=k+2
    ·have:i=k+1:=by omega
     exact absurd this.symm e
    ·rw[gi (i+1) n1 n2 q];exact t
theorem ii_inv{g:Int32→Int32→Int32}{st st':List Value}(h:ii g st=some st'):∃x y r,st = .int y :: .int x::r∧st' = .int (g x y)::r:=by
 unfold ii at h;split at h
 ·cases h;exact⟨_,_,_,rfl,rfl⟩
 ·cases h
theorem iz_inv{g:Int32→Int32→Int32}{st st':List Value}(h:iz g st=some st'):∃x y r,y≠0∧st = .int y :: .int x::r∧st' = .int (g x y)::r:=by
 unfold iz at h;split at h
 ·split at h
  ·cases h
  ·rename_i q;cases h;exact⟨_,_,_,q,rfl,rfl⟩
 ·cases h
theorem ll_inv{g:Int64→Int64→Int64}{st st':List Value}(h:ll g st=some st'):∃x y r,st = .long y :: .long x::r∧st' = .long (g x y)::r:=by
 unfold ll at h;split at h
 ·cases h;exact⟨_,_,_,rfl,rfl⟩
 ·cases h
theorem lz_inv{g:Int64→Int64→Int64}{st st':List Value}(h:lz g st=some st'):∃x y r,y≠0∧st = .long y :: .long x::r∧st' = .long (g x y)::r:=by
 unfold lz at h;split at h
 ·split at h
  ·cases h
  ·rename_i q;cases h;exact⟨_,_,_,q,rfl,rfl⟩
 ·cases h
theorem li_inv{g:Int64→Int32→Int64}{st st':List Value}(h:li g st=some st'):∃x y r,st = .int y :: .long x::r∧st' = .long (g x y)::r:=by
 unfold li at h;split at h
 ·cases h;exact⟨_,_,_,rfl,rfl⟩
 ·cases h
theorem lc_inv{g:Int64→Int64→Int32}{st st':List Value}(h:lc g st=some st'):∃x y r,st = .long y :: .long x::r∧st' = .int (g x y)::r:=by
 unfold lc at h;split at h
 ·cases h;exact⟨_,_,_,rfl,rfl⟩
 ·cases h
theorem i1_inv{g:Int32→Value}{st st':List Value}(h:i1 g st=some st'):∃x r,st = .int x::r∧st'=g x::r:=by
 unfold i1 at h;split at h
 ·cases h;exact⟨_,_,rfl,rfl⟩
 ·cases h
theorem l1_inv{g:Int64→Value}{st st':List Value}(h:l1 g st=some st'):∃x r,st = .long x::r∧st'=g x::r:=by
 unfold l1 at h;split at h
 ·cases h;exact⟨_,_,rfl,rfl⟩
 ·cases h
section Sim
variable {p:Program} {l:Launch} {e:Env} {R:Room} {s:State} {m:MethodId} {args:Array Value} {below:List Frame} {meth:Method} {c:Code} {T:State} {locs:List Loc} {cells slots:Nat} {ρ:Nat→Nat}
set_option maxHeartbeats 4000000 in
theorem simAlu(X:Stand p l e R s m args below meth c T locs cells slots)(hx:p.tables.exec=Jvm.exec){pc:Nat}{i0:Instr}(hd:decode c.code pc = .ok (i0,1))(hp:plain1 i0=true){st st':List Value}(ha:alu i0 st=some st'){L:Array Slot}{target:State}
  (k:Steps p.tables e below (T.setTop (mkF m (pc+1) L (st'.map (cv ρ)))) target):Steps p.tables e below (T.setTop (mkF m pc L (st.map (cv ρ)))) target:=by
 cases i0<;>try (simp[plain1] at hp;done)
 case lconst j=>cases ha;exact XT.lconst X.here hx rfl hd k
 case iadd=>obtain⟨x,y,r,rfl,rfl⟩:=ii_inv ha;exact XS.iadd X.here hx rfl hd rfl k
 case isub=>obtain⟨x,y,r,rfl,rfl⟩:=ii_inv ha;exact XS.isub X.here hx rfl hd rfl k
 case imul=>obtain⟨x,y,r,rfl,rfl⟩:=ii_inv ha;exact XS.imul X.here hx rfl hd rfl k
 case idiv=>obtain⟨x,y,r,hy,rfl,rfl⟩:=iz_inv ha;exact XS.idiv X.here hx rfl hd rfl hy k
 case irem=>obtain⟨x,y,r,hy,rfl,rfl⟩:=iz_inv ha;exact iremM X hx rfl hd rfl hy k
 case ineg=>obtain⟨x,r,rfl,rfl⟩:=i1_inv ha;exact XS.ineg X.here hx rfl hd rfl k
 case iand=>obtain⟨x,y,r,rfl,rfl⟩:=ii_inv ha;exact XS.iand X.here hx rfl hd rfl k
 case ior=>obtain⟨x,y,r,rfl,rfl⟩:=ii_inv ha;exact XT.ior X.here hx rfl hd rfl k
 case ixor=>obtain⟨x,y,r,rfl,rfl⟩:=ii_inv ha;exact XT.ixor X.here hx rfl hd rfl k
 case ishl=>obtain⟨x,y,r,rfl,rfl⟩:=ii_inv ha;exact XT.ishl X.here hx rfl hd rfl k
 case ishr=>obtain⟨x,y,r,rfl,rfl⟩:=ii_inv ha;exact XT.ishr X.here hx rfl hd rfl k
 case iushr=>obtain⟨x,y,r,rfl,rfl⟩:=ii_inv ha;exact XT.iushr X.here hx rfl hd rfl k
 case ladd=>obtain⟨x,y,r,rfl,rfl⟩:=ll_inv ha;exact XT.ladd X.here hx rfl hd rfl k
 case lsub=>obtain⟨x,y,r,rfl,rfl⟩:=ll_inv ha;exact XT.lsub X.here hx rfl hd rfl k
 case lmul=>obtain⟨x,y,r,rfl,rfl⟩:=ll_inv ha;exact XT.lmul X.here hx rfl hd rfl k
 case land=>obtain⟨x,y,r,rfl,rfl⟩:=ll_inv ha;exact XT.land X.here hx rfl hd rfl k
 case lor=>obtain⟨x,y,r,rfl,rfl⟩:=ll_inv ha;exact XT.lor X.here hx rfl hd rfl k
 case lxor=>obtain⟨x,y,r,rfl,rfl⟩:=ll_inv ha;exact XT.lxor X.here hx rfl hd rfl k
 case lshl=>obtain⟨x,y,r,rfl,rfl⟩:=li_inv ha;exact XT.lshl X.here hx rfl hd rfl k
 case lushr=>obtain⟨x,y,r,rfl,rfl⟩:=li_inv ha;exact XT.lushr X.here hx rfl hd rfl k
 case lrem=>
  obtain⟨x,y,r,hy,rfl,rfl⟩:=lz_inv ha
  have k':Steps p.tables e below (T.setTop (mkF m (pc+1) L (.long (x-x/y*y)::r.map (cv ρ)))) target:=by rw[lrem_mod];exact k
  exact XT.lrem X.here hx rfl hd rfl hy k'
 case lcmp=>obtain⟨x,y,r,rfl,rfl⟩:=lc_inv ha;exact XT.lcmp X.here hx rfl hd rfl k
 case i2l=>obtain⟨x,r,rfl,rfl⟩:=i1_inv ha;exact XT.i2l X.here hx rfl hd rfl k
 case l2i=>obtain⟨x,r,rfl,rfl⟩:=l1_inv ha;exact XT.l2i X.here hx rfl hd rfl k
 case i2b=>obtain⟨x,r,rfl,rfl⟩:=i1_inv ha;exact XT.i2b X.here hx rfl hd rfl k
 case pop=>
  simp only[alu,pop1] at ha
  split at ha
  ·cases ha;exact XT.pop X.here hx rfl hd rfl rfl k
  ·cases ha;exact XT.pop X.here hx rfl hd rfl rfl k
  ·cases ha
 case dup=>
  simp only[alu,dup1] at ha
  split at ha
  ·cases ha;exact XS.dup X.here hx rfl hd rfl rfl k
  ·cases ha;exact XS.dup X.here hx rfl hd rfl rfl k
  ·cases ha
 case dup2=>
  simp only[alu,dup2'] at ha
  split at ha
  ·cases ha;exact XT.dup2 X.here hx rfl hd rfl rfl rfl k
  ·cases ha;exact XT.dup2 X.here hx rfl hd rfl rfl rfl k
  ·cases ha;exact XT.dup2L X.here hx rfl hd rfl k
  ·cases ha
def ilen:Instr→Nat
 | .iload _ | .aload _ | .lload _ | .istore _ | .astore _ | .lstore _ | .bipush _ | .ldc _=>2
 | .iinc _ _ | .sipush _ | .ldc2_w _ | .goto _ | .ifCond _ _ | .if_icmp _ _ | .getfield _ | .putfield _ | .invokevirtual _ | .invokestatic _ | .invokespecial _ | .new _=>3
 |_=>1
def lenOK(i:Instr)(len:Nat):Bool:=match i with
 | .tableswitch _ _ _ _=>true
 |i=>len==ilen i
theorem lt_inv{ml k:Nat}{i j:Instr}(h:lt ml k i=some j):k<ml∧i=j:=by
 unfold lt at h;split at h
 ·cases h;exact⟨by assumption,rfl⟩
 ·cases h
theorem ldI_inv{ls:List Value}{k:Nat}{v:Value}(h:ldI ls k=some v):∃x,v = .int x∧ls[k]? = some (.int x):=by
 unfold ldI at h;split at h
 ·cases h;exact⟨_,rfl,by assumption⟩
 ·cases h
theorem ldA_inv{ls:List Value}{k:Nat}{v:Value}(h:ldA ls k=some v):∃x,v = .ref x∧ls[k]? = some (.ref x):=by
 unfold ldA at h;split at h
 ·cases h;exact⟨_,rfl,by assumption⟩
 ·cases h
theorem ldL_inv{ls:List Value}{k:Nat}{v:Value}(h:ldL ls k=some v):∃x,v = .long x∧ls[k]? = some (.long x):=by
 unfold ldL at h;split at h
 ·cases h;exact⟨_,rfl,by assumption⟩
 ·cases h
theorem incI_inv{ls:List Value}{k:Nat}{c:Int}{ls':List Value}(h:incI ls k c=some ls'):∃x,ls[k]? = some (.int x)∧ls'=st1 ls k (.int (x+Int32.ofInt c)):=by
 unfold incI at h;split at h
 ·cases h;exact⟨_,by assumption,rfl⟩
 ·cases h
theorem stI_inv{ls st:List Value}{k:Nat}{q:List Value×List Value}(h:stI' ls k st=some q):∃x r,st = .int x::r∧q=(st1 ls k (.int x),r):=by
 unfold stI' at h;split at h
 ·cases h;exact⟨_,_,rfl,rfl⟩
 ·cases h
theorem stA_inv{ls st:List Value}{k:Nat}{q:List Value×List Value}(h:stA' ls k st=some q):∃x r,st = .ref x::r∧q=(st1 ls k (.ref x),r):=by
 unfold stA' at h;split at h
 ·cases h;exact⟨_,_,rfl,rfl⟩
 ·cases h
theorem stL_inv{ls st:List Value}{k:Nat}{q:List Value×List Value}(h:stL' ls k st=some q):∃x r,st = .long x::r∧q=(st2 ls k (.long x),r):=by
 unfold stL' at h;split at h
 ·cases h;exact⟨_,_,rfl,rfl⟩
 ·cases h
end Sim
section Sim
variable {p:Program} {l:Launch} {e:Env} {R:Room} {s:State} {m:MethodId} {args:Array Value} {below:List Frame} {meth:Method} {c:Code} {T:State} {locs:List Loc} {cells slots:Nat} {ρ:Nat→Nat}
def Cst(Tb:Tabs)(Z:State)(a0:Array Value)(own:String):Prop:=(∀k v,(k,v)∈Tb.2.2.2.1→(Cond.constant own k v).before a0 Z=true)∧∀k v,(k,v)∈Tb.2.2.2.2.1→(Cond.constantLong own k v).before a0 Z=true
theorem cst1{Z:State}{a0:Array Value}(hZ:Z.Warmed39 s.vm){own:String}{Tb:Tabs}(hC:Cst Tb Z a0 own){j:Nat}{w:Int32}(hw:lk j Tb.2.2.2.1=some w):(Cond.constant own j w).before args s=true:=by
 have h:=hC.1 _ _ (lk_mem hw)
 exact mvT hZ h
theorem cst2{Z:State}{a0:Array Value}(hZ:Z.Warmed39 s.vm){own:String}{Tb:Tabs}(hC:Cst Tb Z a0 own){j:Nat}{w:Int64}(hw:lk j Tb.2.2.2.2.1=some w):(Cond.constantLong own j w).before args s=true:=by
 have h:=hC.2 _ _ (lk_mem hw)
 exact mvT hZ h
theorem own64(w:Int64):Int64.ofNat w.toUInt64.toNat=w:=by
 apply Int64.toBitVec_inj.mp
 simp
set_option maxHeartbeats 1000000 in
theorem simLoc (X : Stand p l e R s m args below meth c T locs cells slots) (hx : p.tables.exec = Jvm.exec) {Z : State} {a0 : Array Value} (hZ : Z.Warmed39 s.vm) {own : String} (hown : s.vm.findClass own = some m.cls) {Tb : Tabs} (hC : Cst Tb Z a0 own)
    {pc : Nat} {i0 i : Instr} {len : Nat} (hd : decode c.code pc = .ok (i0, len)) (ho : lenOK i0 len = true) {L : Array Slot} (hc : canon Tb L.size pc i0 = some i) {ls st ls' st' : List Value} (hl : loc i ls st = some (ls', st')) (RL : LocRel ρ ls L) (W : WFL L) :
    ∃ L', LocRel ρ ls' L' ∧ WFL L' ∧ L'.size = L.size ∧ ∀ target, Steps p.tables e below (T.setTop (mkF m (pc + len) L' (st'.map (cv ρ)))) target → Steps p.tables e below (T.setTop (mkF m pc L (st.map (cv ρ)))) target := by
  have i32 : ∀ x : Int32, Int32.ofInt x.toInt = x := fun x => Int32.ofInt_toInt x
  cases i0
  case iload_n k =>
    cases hc; obtain rfl : len = 1 := by simpa [lenOK, ilen] using ho
    obtain ⟨v, h1, h2⟩ := Option.map_eq_some_iff.mp hl; cases h2
    obtain ⟨x, rfl, h3⟩ := ldI_inv h1
    exact ⟨L, RL, W, rfl, fun t k' => XS.iloadN X.here hx rfl hd (RL _ _ h3 (by simp)) k'⟩
  case iload k =>
    cases hc; obtain rfl : len = 2 := by simpa [lenOK, ilen] using ho
    obtain ⟨v, h1, h2⟩ := Option.map_eq_some_iff.mp hl; cases h2
    obtain ⟨x, rfl, h3⟩ := ldI_inv h1
    exact ⟨L, RL, W, rfl, fun t k' => XS.iload X.here hx rfl hd (RL _ _ h3 (by simp)) k'⟩
  case aload_n k =>
    cases hc; obtain rfl : len = 1 := by simpa [lenOK, ilen] using ho
    obtain ⟨v, h1, h2⟩ := Option.map_eq_some_iff.mp hl; cases h2
    obtain ⟨x, rfl, h3⟩ := ldA_inv h1
    exact ⟨L, RL, W, rfl, fun t k' => XS.aloadN X.here hx rfl hd (RL _ _ h3 (by simp)) rfl k'⟩
  case aload k =>
    cases hc; obtain rfl : len = 2 := by simpa [lenOK, ilen] using ho
    obtain ⟨v, h1, h2⟩ := Option.map_eq_some_iff.mp hl; cases h2
    obtain ⟨x, rfl, h3⟩ := ldA_inv h1
    exact ⟨L, RL, W, rfl, fun t k' => XS.aload X.here hx rfl hd (RL _ _ h3 (by simp)) rfl k'⟩
  case lload_n k =>
    cases hc; obtain rfl : len = 1 := by simpa [lenOK, ilen] using ho
    obtain ⟨v, h1, h2⟩ := Option.map_eq_some_iff.mp hl; cases h2
    obtain ⟨x, rfl, h3⟩ := ldL_inv h1
    exact ⟨L, RL, W, rfl, fun t k' => XT.lloadN X.here hx rfl hd (RL _ _ h3 (by simp)) k'⟩
  case lload k =>
    cases hc; obtain rfl : len = 2 := by simpa [lenOK, ilen] using ho
    obtain ⟨v, h1, h2⟩ := Option.map_eq_some_iff.mp hl; cases h2
    obtain ⟨x, rfl, h3⟩ := ldL_inv h1
    exact ⟨L, RL, W, rfl, fun t k' => XT.lload X.here hx rfl hd (RL _ _ h3 (by simp)) k'⟩
  case istore_n k =>
    obtain ⟨hk, rfl⟩ := lt_inv hc; obtain rfl : len = 1 := by simpa [lenOK, ilen] using ho
    obtain ⟨x, r, rfl, h2⟩ := stI_inv hl; cases h2
    obtain ⟨L', q1, q2, q3, q4⟩ := store1 (v := .int x) RL W hk rfl
    exact ⟨L', q2, q3, q4, fun t k' => XS.istoreN X.here hx rfl hd rfl q1 k'⟩
  case istore k =>
    obtain ⟨hk, rfl⟩ := lt_inv hc; obtain rfl : len = 2 := by simpa [lenOK, ilen] using ho
    obtain ⟨x, r, rfl, h2⟩ := stI_inv hl; cases h2
    obtain ⟨L', q1, q2, q3, q4⟩ := store1 (v := .int x) RL W hk rfl
    exact ⟨L', q2, q3, q4, fun t k' => XS.istore X.here hx rfl hd rfl q1 k'⟩
  case astore_n k =>
    obtain ⟨hk, rfl⟩ := lt_inv hc; obtain rfl : len = 1 := by simpa [lenOK, ilen] using ho
    obtain ⟨x, r, rfl, h2⟩ := stA_inv hl; cases h2
    obtain ⟨L', q1, q2, q3, q4⟩ := store1 (v := .ref x) RL W hk rfl
    exact ⟨L', q2, q3, q4, fun t k' => XS.astoreN X.here hx rfl hd rfl rfl q1 k'⟩
  case astore k =>
    obtain ⟨hk, rfl⟩ := lt_inv hc; obtain rfl : len = 2 := by simpa [lenOK, ilen] using ho
    obtain ⟨x, r, rfl, h2⟩ := stA_inv hl; cases h2
    obtain ⟨L', q1, q2, q3, q4⟩ := store1 (v := .ref x) RL W hk rfl
    exact ⟨L', q2, q3, q4, fun t k' => XS.astore X.here hx rfl hd rfl rfl q1 k'⟩
  case lstore_n k =>
    obtain ⟨hk, rfl⟩ := lt_inv hc; obtain rfl : len = 1 := by simpa [lenOK, ilen] using ho
    obtain ⟨x, r, rfl, h2⟩ := stL_inv hl; cases h2
    obtain ⟨L', q1, q2, q3, q4⟩ := store2 (x := x) RL W hk
    exact ⟨L', q2, q3, q4, fun t k' => XT.lstoreN X.here hx rfl hd rfl q1 k'⟩
  case lstore k =>
    obtain ⟨hk, rfl⟩ := lt_inv hc; obtain rfl : len = 2 := by simpa [lenOK, ilen] using ho
    obtain ⟨x, r, rfl, h2⟩ := stL_inv hl; cases h2
    obtain ⟨L', q1, q2, q3, q4⟩ := store2 (x := x) RL W hk
    exact ⟨L', q2, q3, q4, fun t k' => XT.lstore X.here hx rfl hd rfl q1 k'⟩
  case iinc k cst =>
    obtain ⟨hk, rfl⟩ := lt_inv hc; obtain rfl : len = 3 := by simpa [lenOK, ilen] using ho
    obtain ⟨v, h1, h2⟩ := Option.map_eq_some_iff.mp hl; cases h2
    obtain ⟨x, h3, rfl⟩ := incI_inv h1
    obtain ⟨L', q1, q2, q3, q4⟩ := store1 (v := .int (x + Int32.ofInt cst)) RL W hk rfl
    exact ⟨L', q2, q3, q4, fun t k' => XS.iinc X.here hx rfl hd (RL _ _ h3 (by simp)) q1 k'⟩
  case iconst j =>
    cases hc; obtain rfl : len = 1 := by simpa [lenOK, ilen] using ho
    simp only [loc, alu, Option.map_some, Option.some.injEq, Prod.mk.injEq] at hl; obtain ⟨rfl, rfl⟩ := hl
    exact ⟨L, RL, W, rfl, fun t k' => XS.iconst X.here hx rfl hd k'⟩
  case bipush j =>
    cases hc; obtain rfl : len = 2 := by simpa [lenOK, ilen] using ho
    simp only [loc, alu, Option.map_some, Option.some.injEq, Prod.mk.injEq] at hl; obtain ⟨rfl, rfl⟩ := hl
    rw [i32]
    exact ⟨L, RL, W, rfl, fun t k' => XS.bipush X.here hx rfl hd k'⟩
  case sipush j =>
    cases hc; obtain rfl : len = 3 := by simpa [lenOK, ilen] using ho
    simp only [loc, alu, Option.map_some, Option.some.injEq, Prod.mk.injEq] at hl; obtain ⟨rfl, rfl⟩ := hl
    rw [i32]
    exact ⟨L, RL, W, rfl, fun t k' => XS.sipush X.here hx rfl hd k'⟩
  case ldc j =>
    obtain ⟨w, hw, hc⟩ := Option.map_eq_some_iff.mp hc; cases hc; obtain rfl : len = 2 := by simpa [lenOK, ilen] using ho
    simp only [loc, alu, Option.map_some, Option.some.injEq, Prod.mk.injEq] at hl; obtain ⟨rfl, rfl⟩ := hl
    rw [i32]
    exact ⟨L, RL, W, rfl, fun t k' => X.ldcInt hx hown (cst1 hZ hC hw) (g := mkF m pc L (st.map (cv ρ))) rfl hd _ k'⟩
  case ldc2_w j =>
    obtain ⟨w, hw, hc⟩ := Option.map_eq_some_iff.mp hc; cases hc; obtain rfl : len = 3 := by simpa [lenOK, ilen] using ho
    simp only [loc, alu, Option.map_some, Option.some.injEq, Prod.mk.injEq] at hl; obtain ⟨rfl, rfl⟩ := hl
    rw [own64]
    exact ⟨L, RL, W, rfl, fun t k' => X.ldc2Long hx hown (cst2 hZ hC hw) (g := mkF m pc L (st.map (cv ρ))) rfl hd _ k'⟩
  case tableswitch d lo hi offs =>
    simp only [canon] at hc
    split at hc
    · cases hc
      simp [loc, alu] at hl
    · cases hc
  all_goals first
    | (simp [canon, plain1, heapy] at hc; done)
    | (simp only [canon, plain1, heapy, Bool.or_false, Bool.or_true, Bool.false_or, if_true, Option.some.injEq] at hc
       subst hc
       simp only [loc] at hl
       obtain ⟨v, h1, h2⟩ := Option.map_eq_some_iff.mp hl
       first
         | (cases h1; done)
         | (simp only [alu] at h1; cases h1; done)
         | (cases h2
            obtain rfl : len = 1 := by simpa [lenOK, ilen] using ho
            exact ⟨L, RL, W, rfl, fun t k' => simAlu X hx hd rfl h1 k'⟩))
    | (simp only [canon] at hc
       first
         | (obtain ⟨w, hw, hc⟩ := Option.map_eq_some_iff.mp hc
            cases hc
            simp [loc, alu] at hl))
end Sim
theorem swc_spec{β:Type}(x:Int32)(k:Nat→β)(d:β):∀(ts:List Int) (lo:Int),-2147483648≤lo→lo+ts.length≤2147483648 →
  (∃t,lo≤x.toInt∧x.toInt<lo+ts.length∧ts[(x.toInt-lo).toNat]? = some t∧swc x lo ts k d=k t.toNat)∨((x.toInt<lo∨lo+ts.length≤x.toInt)∧swc x lo ts k d=d)
 |[],lo,_,_=>Or.inr ⟨by simp;omega,rfl⟩
 |t::ts,lo,h1,h2=>by
  simp only[List.length_cons] at h2
  have e:x=Int32.ofInt lo↔x.toInt=lo:=by
   constructor
   ·intro q;subst q;exact Int32.toInt_ofInt_of_le h1 (by omega)
   ·intro q;rw[←q,Int32.ofInt_toInt]
  simp only[swc]
  by_cases q:x=Int32.ofInt lo
  ·rw[if_pos q]
   have q':=e.mp q
   refine Or.inl ⟨t,by omega,by simp;omega,?_,rfl⟩
   rw[q'];simp
  ·rw[if_neg q]
   have q':x.toInt≠lo:=fun h=>q (e.mpr h)
   rcases swc_spec x k d ts (lo+1) (by omega) (by omega) with⟨t',a,b,c,f⟩ | ⟨a,b⟩
   ·refine Or.inl ⟨t',by omega,by simp;omega,?_,f⟩
    have:(x.toInt-lo).toNat=(x.toInt-(lo+1)).toNat+1:=by omega
    rw[this];simpa using c
   ·refine Or.inr ⟨?_,b⟩
    simp only[List.length_cons]
    omega
section Sim
variable {p:Program} {l:Launch} {e:Env} {R:Room} {s:State} {m:MethodId} {args:Array Value} {below:List Frame} {meth:Method} {c:Code} {T:State} {locs:List Loc} {cells slots:Nat} {ρ:Nat→Nat}
theorem cnd_pick{β:Type}(cd:ClassFile.Cond)(x y:Int32)(a b:β):cnd cd x y a b=if if_icmp.holds cd x y=true then a else b:=by
 cases cd
 ·by_cases h:x=y
  ·simp only[cnd];rw[if_pos h,(teq h).1,if_pos rfl]
  ·simp only[cnd,(feq h).1,h,if_false,Bool.false_eq_true]
 ·by_cases h:x=y
  ·simp only[cnd];rw[if_pos h,(teq h).2,if_neg (by decide)]
  ·simp only[cnd,(feq h).2,h,if_true,if_false]
 ·by_cases h:x<y
  ·simp only[cnd,(tlt h).1,h,if_true]
  ·simp only[cnd,(flt h).1,h,if_false,Bool.false_eq_true]
 ·by_cases h:x<y
  ·simp only[cnd,(tlt h).2.1,h,if_true,if_false,Bool.false_eq_true]
  ·simp only[cnd,(flt h).2.1,h,if_true,if_false]
 ·by_cases h:y<x
  ·simp only[cnd,(tlt h).2.2.1,h,if_true]
  ·simp only[cnd,(flt h).2.2.1,h,if_false,Bool.false_eq_true]
 ·by_cases h:y<x
  ·simp only[cnd,(tlt h).2.2.2,h,if_true,if_false,Bool.false_eq_true]
  ·simp only[cnd,(flt h).2.2.2,h,if_true,if_false]
theorem simGoto(X:Stand p l e R s m args below meth c T locs cells slots)(hx:p.tables.exec=Jvm.exec){Tb:Tabs}{ml pc len:Nat}{i0:Instr}{t:Int}(hd:decode c.code pc = .ok (i0,len))(ho:lenOK i0 len=true)(hc:canon Tb ml pc i0=some (.goto t)){L:Array Slot}{st:List Value}{target:State}
  (k:Steps p.tables e below (T.setTop (mkF m t.toNat L st)) target):Steps p.tables e below (T.setTop (mkF m pc L st)) target:=by
 cases i0<;>try (simp[canon,lt,plain1,heapy] at hc;done)
 case goto o=>
  obtain rfl:len=3:=by simpa [lenOK,ilen] using ho
  simp only[canon,absT] at hc
  split at hc
  ·rename_i q
   simp at hc;subst hc
   exact XS.goto X.here hx rfl rfl hd q rfl k
  ·cases hc
theorem simIf(X:Stand p l e R s m args below meth c T locs cells slots)(hx:p.tables.exec=Jvm.exec){Tb:Tabs}{ml pc len:Nat}{i0:Instr}{t:Int}{cd:ClassFile.Cond}(hd:decode c.code pc = .ok (i0,len))(ho:lenOK i0 len=true)(hc:canon Tb ml pc i0=some (.ifCond cd t)){L:Array Slot}{x:Int32}{st:List Value}{target:State}
  (k:Steps p.tables e below (T.setTop (mkF m (if if_icmp.holds cd x 0=true then t.toNat else pc+len) L st)) target):Steps p.tables e below (T.setTop (mkF m pc L (.int x::st))) target:=by
 cases i0<;>try (simp[canon,lt,plain1,heapy] at hc;done)
 case ifCond cd' o=>
  obtain rfl:len=3:=by simpa [lenOK,ilen] using ho
  simp only[canon,absT] at hc
  split at hc
  ·rename_i q
   simp at hc;obtain⟨rfl,rfl⟩:=hc
   by_cases h:if_icmp.holds cd' x 0=true
   ·rw[if_pos h] at k
    exact XS.ifYes X.here hx rfl rfl hd rfl (by rw[if0];exact h) q rfl k
   ·rw[if_neg h] at k
    exact XS.ifNo X.here hx rfl hd rfl (by rw[if0];simpa using h) k
  ·cases hc
theorem simIcmp(X:Stand p l e R s m args below meth c T locs cells slots)(hx:p.tables.exec=Jvm.exec){Tb:Tabs}{ml pc len:Nat}{i0:Instr}{t:Int}{cd:ClassFile.Cond}(hd:decode c.code pc = .ok (i0,len))(ho:lenOK i0 len=true)(hc:canon Tb ml pc i0=some (.if_icmp cd t)){L:Array Slot}{x y:Int32}{st:List Value}{target:State}
  (k:Steps p.tables e below (T.setTop (mkF m (if if_icmp.holds cd x y=true then t.toNat else pc+len) L st)) target):Steps p.tables e below (T.setTop (mkF m pc L (.int y :: .int x::st))) target:=by
 cases i0<;>try (simp[canon,lt,plain1,heapy] at hc;done)
 case if_icmp cd' o=>
  obtain rfl:len=3:=by simpa [lenOK,ilen] using ho
  simp only[canon,absT] at hc
  split at hc
  ·rename_i q
   simp at hc;obtain⟨rfl,rfl⟩:=hc
   by_cases h:if_icmp.holds cd' x y=true
   ·rw[if_pos h] at k
    exact XS.icmpYes X.here hx rfl rfl hd rfl h q rfl k
   ·rw[if_neg h] at k
    exact XS.icmpNo X.here hx rfl hd rfl (by simpa using h) k
  ·cases hc
theorem simSw(X:Stand p l e R s m args below meth c T locs cells slots)(hx:p.tables.exec=Jvm.exec){Tb:Tabs}{ml pc len:Nat}{i0:Instr}{d lo hi:Int}{ts:Array Int}(hd:decode c.code pc = .ok (i0,len))(hc:canon Tb ml pc i0=some (.tableswitch d lo hi ts)){L:Array Slot}{x:Int32}{st:List Value}{target:State}
  (k:Steps p.tables e below (T.setTop (mkF m (swc x lo ts.toList (fun t=>t) d.toNat) L st)) target):Steps p.tables e below (T.setTop (mkF m pc L (.int x::st))) target:=by
 cases i0<;>try (simp[canon,lt,plain1,heapy] at hc;done)
 case tableswitch d' lo' hi' offs=>
  simp only[canon] at hc
  split at hc
  ·rename_i q
   obtain⟨q1,q2,q3,q4,q5⟩:=q
   simp at hc;obtain⟨rfl,rfl,rfl,rfl⟩:=hc
   have hlen:((offs.map fun o=>(pc:Int)+o).toList.length:Int)=hi'-lo'+1:=by simpa using q3
   rcases swc_spec x (fun t=>t) ((pc:Int)+d').toNat (offs.map fun o=>(pc:Int)+o).toList lo' q4 (by omega) with⟨t,a,b,cc,f⟩ | ⟨a,b⟩
   ·rw[f] at k
    obtain⟨o,o1,o2⟩:∃o,offs[(x.toInt-lo').toNat]? = some o∧(pc:Int)+o=t:=by
     simpa using cc
    have hoff:0≤(pc:Int)+o:=by
     have:=Array.all_eq_true_iff_forall_mem.mp q2 o (Array.mem_of_getElem? o1)
     simpa using this
    exact XS.tswIn X.here hx rfl rfl hd rfl (by omega) o1 hoff (by rw[o2]) k
   ·rw[b] at k
    exact XS.tswOut X.here hx rfl rfl hd rfl (by omega) q1 rfl k
  ·cases hc
theorem retV_ok{t:Option FieldType}{i:Instr}{st:List Value}{v:Option Value}(hv:retV t i st=some v):(t=none→v=none)∧∀ρ',v.map (cv ρ')=v:=by
 unfold retV at hv
 split at hv
 ·split at hv
  ·cases hv;exact⟨fun _=>rfl,fun _=>rfl⟩
  ·cases hv
 ·split at hv
  ·cases hv;exact⟨fun h=>(by cases h),fun _=>rfl⟩
  ·cases hv;exact⟨fun h=>(by cases h),fun _=>rfl⟩
  ·cases hv
 ·split at hv
  ·cases hv;exact⟨fun h=>(by cases h),fun _=>rfl⟩
  ·cases hv
 ·cases hv
theorem simRet(X:Stand p l e R s m args below meth c T locs cells slots)(hx:p.tables.exec=Jvm.exec){Tb:Tabs}{ml pc len:Nat}{i0 i:Instr}(hd:decode c.code pc = .ok (i0,len))(ho:lenOK i0 len=true)(hc:canon Tb ml pc i0=some i){L:Array Slot}{st:List Value}{v:Option Value}
  (hv:retV meth.sig.returnType i st=some v) {fs:List Frame} (hl:∀(f:JFrame) (acts:List Action),f.method=m→f.locked=none→f.entered=[]→(doReturn e (T.setTop f) acts v).1=T.setFrames fs) :
  Steps p.tables e below (T.setTop (mkF m pc L (st.map (cv ρ)))) (T.setFrames fs):=by
 have hr:i = .return_∨i = .ireturn∨i = .lreturn:=by
  unfold retV at hv
  split at hv<;>first | exact Or.inl rfl | exact Or.inr (Or.inl rfl) | exact Or.inr (Or.inr rfl) | cases hv
 have hi:i0=i∧len=1:=by
  rcases hr with rfl | rfl | rfl <;>
   (cases i0<;>first | (simp[canon,lt,plain1,heapy] at hc;done) | exact⟨rfl,by simpa [lenOK,ilen] using ho⟩)
 obtain⟨rfl,rfl⟩:=hi
 rcases hr with rfl | rfl | rfl
 ·simp only[retV] at hv
  split at hv
  ·rename_i h1
   cases hv
   exact X.returnOut hx h1 hd hl
  ·cases hv
 ·simp only[retV] at hv
  split at hv
  ·rename_i h1
   cases hv
   exact retOut X hx h1 rfl (Or.inl ⟨rfl,Or.inl rfl,_,rfl⟩) hd hl
  ·rename_i h1
   cases hv
   exact retN X hx (t:= .boolean) h1 (Or.inl rfl) hd hl
  ·cases hv
 ·simp only[retV] at hv
  split at hv
  ·rename_i h1
   cases hv
   exact retOut X hx h1 rfl (Or.inr (Or.inl ⟨rfl,rfl,_,rfl⟩)) hd hl
  ·cases hv
end Sim
def Go(p:Program)(e:Env)(below:List Frame)(T:State)(g:JFrame)(T':State)(g':JFrame):Prop:=∀target,Steps p.tables e below (T'.setTop g') target→Steps p.tables e below (T.setTop g) target
abbrev MI:=Nat→MethodName×ByteArray×Nat×Nat×Nat
def Frm(mi:MI)(rt:Nat→Option FieldType)(own:String)(Z:State)(mm:Nat)(p:Program)(R:Room)(s:State)(m:MethodId)(meth:Method)(c:Code):Prop:=
 p.tables.exec=Jvm.exec∧Z.Warmed39 s.vm∧s.vm.findClass own=some m.cls∧c.code=(mi mm).2.1∧c.maxLocals=(mi mm).2.2.1∧meth.sig.returnType=rt mm∧meth.name=(mi mm).1.name∧(mi mm).2.2.2.1≤R.frames∧(mi mm).2.2.2.2≤R.locals
def chkE(Tb:Tabs)(bytes:ByteArray)(ml:Nat)(q:Nat×Instr×Nat×Option Nat):Bool:=match decode bytes q.1 with
 | .ok (i0,len)=>decide (canon Tb ml q.1 i0=some q.2.1)&&decide (q.2.2.1=q.1+len)&&lenOK i0 len
 |_=>false
def Good(Tb:Tabs)(mi:MI)(code:Codes):Prop:=∀mm pc q,code mm pc=some q→chkE Tb (mi mm).2.1 (mi mm).2.2.1 (pc,q)=true
theorem chkE_spec{Tb:Tabs}{bytes:ByteArray}{ml pc pn:Nat}{i:Instr}{kp:Option Nat}(h:chkE Tb bytes ml (pc,i,pn,kp)=true):∃i0 len,decode bytes pc = .ok (i0,len)∧canon Tb ml pc i0=some i∧pn=pc+len∧lenOK i0 len=true:=by
 simp only[chkE] at h
 split at h
 ·rename_i i0 len hd
  simp only[Bool.and_eq_true,decide_eq_true_eq] at h
  exact⟨i0,len,hd,h.1.1,h.1.2,h.2⟩
 ·cases h
section Walk
variable {τ ι:Type} (code:Codes) (rt:Nat→Option FieldType) (mop:Mop τ) (cop:Cop) (Tb:Tabs) (mi:MI) (own:String) (Z:State) (l:Launch) (ρ:ι→Nat→Nat) (J:ι→Room→State→Nat→τ→State→List Loc→Nat→Nat→Prop)
def Walks (n : Nat) : Prop := ∀ (x : ι) (p : Program) (e : Env) (R : Room) (s : State) (m : MethodId) (args : Array Value) (below : List Frame) (meth : Method) (c : Code) (mm pc : Nat) (ls st : List Value) (S : τ) (r : Res τ),
  iter (plan code rt mop cop) n (mm, pc, ls, st, S) = some r → ∀ (T : State) (locs : List Loc) (cells slots : Nat) (L : Array Slot), Stand p l e R s m args below meth c T locs cells slots → Frm mi rt own Z mm p R s m meth c → J x R s mm S T locs cells slots → LocRel (ρ x) ls L → WFL L → L.size = c.maxLocals →
  ∃ (T' : State) (locs' : List Loc) (cells' slots' : Nat), Stand p l e R s m args below meth c T' locs' cells' slots' ∧ J x R s mm r.2 T' locs' cells' slots' ∧ ((meth.sig.returnType = none → r.1 = none) ∧ ∀ ρ', r.1.map (cv ρ') = r.1) ∧
    ∀ fs, (∀ (f : JFrame) (acts : List Action), f.method = m → f.locked = none → f.entered = [] → (doReturn e (T'.setTop f) acts r.1).1 = T'.setFrames fs) → Steps p.tables e below (T.setTop (mkF m pc L (st.map (cv (ρ x))))) (T'.setFrames fs)
def MopOK:Prop:=∀(x:ι) (p:Program) (e:Env) (R:Room) (s:State) (m:MethodId) (args:Array Value) (below:List Frame) (meth:Method) (c:Code) (mm pc len:Nat) (i0 i:Instr) (st st':List Value) (S S':τ) (T:State) (locs:List Loc) (cells slots:Nat) (L:Array Slot),
 Stand p l e R s m args below meth c T locs cells slots→Frm mi rt own Z mm p R s m meth c→J x R s mm S T locs cells slots→L.size=c.maxLocals→decode c.code pc = .ok (i0,len)→lenOK i0 len=true→canon Tb c.maxLocals pc i0=some i→(∃kp,code mm pc=some (i,pc+len,kp))→mop mm i st S=some (st',S') →
 ∃(T':State) (locs':List Loc) (cells' slots':Nat),Stand p l e R s m args below meth c T' locs' cells' slots'∧J x R s mm S' T' locs' cells' slots'∧Go p e below T (mkF m pc L (st.map (cv (ρ x)))) T' (mkF m (pc+len) L (st'.map (cv (ρ x))))
def CopOK:Prop:=∀n,Walks code rt mop cop mi own Z l ρ J n→∀(x:ι) (p:Program) (e:Env) (R:Room) (s:State) (m:MethodId) (args:Array Value) (below:List Frame) (meth:Method) (c:Code) (mm pc len:Nat) (i0 i:Instr) (st:List Value) (q:Nat×List Value×List Value) (S:τ) (r:Res τ) (T:State) (locs:List Loc) (cells slots:Nat) (L:Array Slot),
 Stand p l e R s m args below meth c T locs cells slots→Frm mi rt own Z mm p R s m meth c→J x R s mm S T locs cells slots→L.size=c.maxLocals→decode c.code pc = .ok (i0,len)→lenOK i0 len=true→canon Tb c.maxLocals pc i0=some i→(∃kp,code mm pc=some (i,pc+len,kp))→cop mm i st=some q→iter (plan code rt mop cop) n (q.1,0,entL q.2.1,[],S)=some r →
 ∃(T':State) (locs':List Loc) (cells' slots':Nat),Stand p l e R s m args below meth c T' locs' cells' slots'∧J x R s mm r.2 T' locs' cells' slots'∧Go p e below T (mkF m pc L (st.map (cv (ρ x)))) T' (mkF m (pc+len) L ((r.1.toList++q.2.2).map (cv (ρ x))))
theorem tk_rel{ρ:Nat→Nat}{ls:List Value}{L:Array Slot}(kp:Option Nat)(h:LocRel ρ ls L):LocRel ρ (tk kp ls) L:=by
 cases kp with
 |none=>exact h
 |some k=>
  intro i v q hn
  simp only[tk,List.getElem?_take] at q
  split at q
  ·exact h i v q hn
  ·cases q
set_option maxHeartbeats 1000000 in
theorem walks{a0:Array Value}(hC:Cst Tb Z a0 own)(hG:Good Tb mi code)(hM:MopOK code rt mop Tb mi own Z l ρ J)(hP:CopOK code rt mop cop Tb mi own Z l ρ J):∀n,Walks code rt mop cop mi own Z l ρ J n:=by
 intro n
 induction n with
 |zero=>intro x p e R s m args below meth c mm pc ls st S r h;cases h
 |succ n ih=>
  intro x p e R s m args below meth c mm pc ls st S r h T locs cells slots L X F hJ RL W hs
  have hx:=F.1
  simp only[iter,run] at h
  cases hq:code mm pc with
  |none=>simp only[plan,hq] at h;cases h
  |some q=>
   obtain⟨i,pn,kp⟩:=q
   obtain⟨i0,len,hd,hc,rfl,ho⟩:=chkE_spec (hG mm pc _ hq)
   have RL':=tk_rel kp RL
   rw[←F.2.2.2.1] at hd
   rw[←F.2.2.2.2.1] at hc
   simp only[plan,hq] at h
   split at h
   ·cases h
   ·-- a return
    rename_i r' hpl
    split at hpl
    ·cases hpl
    ·simp only[pl1] at hpl;split at hpl<;>cases hpl
    ·simp only[pl2] at hpl;split at hpl<;>cases hpl
    ·simp only[pl3] at hpl;split at hpl<;>cases hpl
    ·simp only[rest] at hpl
     split at hpl
     ·rename_i v hv
      cases hpl;cases h
      rw[←F.2.2.2.2.2.1] at hv
      exact⟨T,locs,cells,slots,X,hJ,retV_ok hv,fun fs hl=>simRet X hx hd ho hc hv hl⟩
     ·split at hpl
      ·cases hpl
      ·split at hpl
       ·cases hpl
       ·split at hpl<;>cases hpl
   ·-- the next step
    rename_i c' hpl
    split at hpl
    ·cases hpl
     obtain⟨T',L',k',n',X',hJ',ok',st'⟩:=ih x p e R s m args below meth c _ _ _ _ _ _ h T locs cells slots L X F hJ RL' W hs
     exact⟨T',L',k',n',X',hJ',ok',fun fs hl=>simGoto X hx hd ho hc (st' fs hl)⟩
    ·rename_i cd t
     simp only[pl1] at hpl
     split at hpl
     ·rename_i y r0
      cases hpl
      rw[cnd_pick] at h
      have h':iter (plan code rt mop cop) n (mm,(if if_icmp.holds cd y 0=true then t.toNat else pc+len),tk kp ls,r0,S)=some r:=by
       by_cases q:if_icmp.holds cd y 0=true
       ·rw[if_pos q] at h ⊢;exact h
       ·rw[if_neg q] at h ⊢;exact h
      obtain⟨T',L',k',n',X',hJ',ok',st'⟩:=ih x p e R s m args below meth c _ _ _ _ _ _ h' T locs cells slots L X F hJ RL' W hs
      exact⟨T',L',k',n',X',hJ',ok',fun fs hl=>simIf X hx hd ho hc (st' fs hl)⟩
     ·cases hpl
    ·rename_i cd t
     simp only[pl2] at hpl
     split at hpl
     ·rename_i y y' r0
      cases hpl
      rw[cnd_pick] at h
      have h':iter (plan code rt mop cop) n (mm,(if if_icmp.holds cd y' y=true then t.toNat else pc+len),tk kp ls,r0,S)=some r:=by
       by_cases q:if_icmp.holds cd y' y=true
       ·rw[if_pos q] at h ⊢;exact h
       ·rw[if_neg q] at h ⊢;exact h
      obtain⟨T',L',k',n',X',hJ',ok',st'⟩:=ih x p e R s m args below meth c _ _ _ _ _ _ h' T locs cells slots L X F hJ RL' W hs
      exact⟨T',L',k',n',X',hJ',ok',fun fs hl=>simIcmp X hx hd ho hc (st' fs hl)⟩
     ·cases hpl
    ·rename_i d lo hi ts
     simp only[pl3] at hpl
     split at hpl
     ·rename_i y r0
      cases hpl
      have h':iter (plan code rt mop cop) n (mm,swc y lo ts.toList (fun t=>t) d.toNat,tk kp ls,r0,S)=some r:=by
       rw[←h,swc_map (fun t=>(mm,t,tk kp ls,r0,S))]
      obtain⟨T',L',k',n',X',hJ',ok',st'⟩:=ih x p e R s m args below meth c _ _ _ _ _ _ h' T locs cells slots L X F hJ RL' W hs
      exact⟨T',L',k',n',X',hJ',ok',fun fs hl=>simSw X hx hd hc (st' fs hl)⟩
     ·cases hpl
    ·simp only[rest] at hpl
     split at hpl
     ·cases hpl
     ·split at hpl
      ·rename_i q hq'
       cases hpl
       obtain⟨L1,RL1,W1,z1,st1⟩:=simLoc X hx F.2.1 F.2.2.1 hC hd ho (by rw[hs];exact hc) hq' RL' W
       obtain⟨T',L',k',n',X',hJ',ok',st'⟩:=ih x p e R s m args below meth c _ _ _ _ _ _ h T locs cells slots L1 X F hJ RL1 W1 (z1.trans hs)
       exact⟨T',L',k',n',X',hJ',ok',fun fs hl=>st1 _ (st' fs hl)⟩
      ·split at hpl
       ·rename_i q hq'
        cases hpl
        obtain⟨T1,o1,k1,n1,X1,J1,G1⟩:=hM x p e R s m args below meth c mm pc len i0 _ st q.1 S q.2 T locs cells slots L X F hJ hs hd ho hc ⟨kp,hq⟩ hq'
        obtain⟨T',L',k',n',X',hJ',ok',st'⟩:=ih x p e R s m args below meth c _ _ _ _ _ _ h T1 o1 k1 n1 L X1 F J1 RL' W hs
        exact⟨T',L',k',n',X',hJ',ok',fun fs hl=>G1 _ (st' fs hl)⟩
       ·split at hpl<;>cases hpl
   ·-- a call
    rename_i q hpl
    split at hpl
    ·cases hpl
    ·simp only[pl1] at hpl;split at hpl<;>cases hpl
    ·simp only[pl2] at hpl;split at hpl<;>cases hpl
    ·simp only[pl3] at hpl;split at hpl<;>cases hpl
    ·simp only[rest] at hpl
     split at hpl
     ·cases hpl
     ·split at hpl
      ·cases hpl
      ·split at hpl
       ·cases hpl
       ·split at hpl
        ·rename_i q' hq'
         cases hpl
         obtain⟨r1,h1,h2⟩:=Option.bind_eq_some_iff.mp h
         obtain⟨T1,o1,k1,n1,X1,J1,G1⟩:=hP n ih x p e R s m args below meth c mm pc len i0 _ st q' S r1 T locs cells slots L X F hJ hs hd ho hc ⟨kp,hq⟩ hq' h1
         obtain⟨T',L',k',n',X',hJ',ok',st'⟩:=ih x p e R s m args below meth c _ _ _ _ _ _ h2 T1 o1 k1 n1 L X1 F J1 RL' W hs
         exact⟨T',L',k',n',X',hJ',ok',fun fs hl=>G1 _ (st' fs hl)⟩
        ·cases hpl
end Walk
section Call
variable {p:Program} {l:Launch} {e:Env} {R:Room} {s:State} {m:MethodId} {args:Array Value} {below:List Frame} {meth:Method} {c:Code} {T:State} {locs:List Loc} {cells slots:Nat} {Z:State} {a0:Array Value} {h:Heap}
def VirtW(Z:State)(a0:Array Value)(C own:String)(idx:Nat)(y:MethodName)(bytes:ByteArray)(ml:Nat)(ret:Option FieldType):Prop:=
 y.cls=C∧(Cond.methodLink own idx y).before a0 Z=true∧(Cond.instanceMethod y).before a0 Z=true∧(Cond.code y bytes ml ret).before a0 Z=true ∧
 ((Cond.privateMethod y).before a0 Z=true∨((Cond.declares y).before a0 Z=true∧(Cond.selects C y y).before a0 Z=true))
theorem callV(X:Stand p l e R s m args below meth c T locs cells slots)(hx:p.tables.exec=Jvm.exec)(hZ:Z.Warmed39 s.vm){own C:String}(hown:s.vm.findClass own=some m.cls){idx kk:Nat}{y:MethodName}{bytes:ByteArray}{ml:Nat}{ret:Option FieldType}
  (hw:VirtW Z a0 C own idx y bytes ml ret) (wi:(Cond.instantiable C kk).before a0 Z=true) (wz:(Cond.initialized C).before a0 Z=true) (hC:C ≠ "java/lang/invoke/MethodHandle" ∧ C ≠ "java/lang/invoke/VarHandle")
  {ps:List FieldType} (hd:parseMethodDescriptor y.desc=some ⟨ps,ret⟩) {rm:Room} {as':List Value} (hl:as'.length=ps.length) {a:Nat} {Q:Option Value→Heap→List Loc→Prop}
  (hM:MetFree l y (head1 [Cond.code y bytes ml ret] rm) (fun A U=>A=(.ref a::as').toArray∧Z.Warmed39 U.vm∧U.heap=h) (fun _ _ _ _ _=>True) (fun _ U o U'=>∃v L,o = .returned v∧Q v U'.heap L∧FrameEnd U o U' L rm.cells rm.slots))
  (eT:T.heap=h) (E:Exa Z h a C) {W:Nat} (hf:rm.frames+1≤R.frames) (hlo:W+(ml+11)+rm.locals≤R.locals) (hce:cells+rm.cells≤R.cells) (hsl:slots+rm.slots≤R.slots)
  {pc:Nat} {L:Array Slot} (hs:L.size=c.maxLocals) {rest st:List Value} (hst:st=as'.reverse ++ .ref a::rest) (hW:(rest.map fun v=>v.category).sum≤W) (hdg:decode c.code pc = .ok (.invokevirtual idx,3)) :
  ∃(v:Option Value) (T':State) (Lc:List Loc),Stand p l e R s m args below meth c T' (locs++Lc) (cells+rm.cells) (slots+rm.slots)∧Q v T'.heap Lc∧Go p e below T (mkF m pc L st) T' (mkF m (pc+3) L (v.toList++rest)):=by
 obtain⟨rfl,w1,w2,w3,w4⟩:=hw
 have hB:=backOf (W:=W) hM hZ w3 wz hf hlo (R:=R) (p:=p) (e:=e) (below:=below) (s:=s) (args:=args) (len:=3)
 have hW':2*(mkF m pc L st).monitorRoom+(rest.map fun v=>v.category).sum≤W:=by
  show 2*0+_≤W
  omega
 rcases w4 with w4 | ⟨w4,w5⟩
 ·obtain⟨cl,kc,q1,q2,-,q4,-⟩:=Cond.instantiable_spec (mvT hZ wi (args:=args))
  have hni:kc.isInterface=false:=by
   have:=q4
   simp only[Bool.or_eq_false_iff] at this
   exact this.1
  have hpr:s.PrivateAt y:=Cond.privateMethod_at (mvP hZ w4 (args:=args))
  obtain⟨cell,q5,q6⟩:=E.cell
  obtain⟨v,vm₁,⟨T',L',c',s'⟩,-,X',⟨Lc,hQ,l1,l2,l3⟩,st'⟩:=X.privateBack hx (y:=y) hown (mvT hZ w1) (mvT hZ w2) (selects_self_of_private q1 q2 hni hpr (mvT hZ w2) hC) hpr (mvT hZ w3) hC hB (g:=mkF m pc L st) rfl hs (Steps.refl _) (a:=a) (by rw[eT];exact q5) q6 (argsL:=as') (rest:=rest) (lenOf hd hl) hst hW' hdg
   (fun vm _=>⟨rfl,eT,hce,hsl⟩)
  dsimp only [Pt.U,Pt.locs,Pt.cells,Pt.slots] at X' l1 l2 l3 st' hQ
  subst l1 l2 l3
  exact⟨v,T',Lc,X',hQ,fun t k=>st'.trans k⟩
 ·obtain⟨cq,kq,qa,qb,qc⟩:=isOf hZ eT E
  obtain⟨v,vm₁,⟨T',L',c',s'⟩,-,X',⟨Lc,hQ,l1,l2,l3⟩,st'⟩:=X.virtualBack hx (y:=y) (z:=y) hown (mvT hZ w1) (mvT hZ w4) (notFace_of_selects (args := #[]) (mvT hZ w5)) (mvT hZ w5) (mvT hZ w2) hC hB qa qc (g:=mkF m pc L st) rfl hs (Steps.refl _) (argsL:=as') (rest:=rest) (lenOf hd hl) hst hW' hdg
   (fun vm _=>⟨rfl,eT,hce,hsl⟩)
  dsimp only [Pt.U,Pt.locs,Pt.cells,Pt.slots] at X' l1 l2 l3 st' hQ
  subst l1 l2 l3
  exact⟨v,T',Lc,X',hQ,fun t k=>st'.trans k⟩
end Call
def slotsOf:List Value→List Slot
 |[]=>[]
 |v::r=>if v.category=2 then .val v :: .second::slotsOf r else .val v::slotsOf r
theorem args_slots(vs:List Value)(ml:Nat):argsToLocals vs.toArray ml=((slotsOf vs)++List.replicate (ml-(slotsOf vs).length) Slot.unset).toArray:=by
 have key:∀(vs:List Value) (acc:Array Slot),vs.foldl (fun (acc:Array Slot) v=>if v.category=2 then (acc.push (.val v)).push .second else acc.push (.val v)) acc=acc++(slotsOf vs).toArray:=by
  intro vs
  induction vs with
  |nil=>intro acc;simp[slotsOf]
  |cons v r ih=>
   intro acc
   simp only[List.foldl_cons,slotsOf]
   rw[ih]
   split
   ·apply Array.toList_inj.mp;simp
   ·apply Array.toList_inj.mp;simp
 unfold argsToLocals
 have e:Array.foldl (fun (acc:Array Slot) (v:Value)=>if v.category=2 then (acc.push (.val v)).push .second else acc.push (.val v)) #[] vs.toArray=(slotsOf vs).toArray:=by
  rw[List.foldl_toArray,key];simp
 simp only[e]
 apply Array.toList_inj.mp
 simp
theorem slotsOf_len(ρ:Nat→Nat):∀vs:List Value,(∀v∈vs,(∃x,v = .int x)∨(∃x,v = .long x)∨∃x,v = .ref x)→(slotsOf (vs.map (cv ρ))).length=(entL vs).length
 |[],_=>rfl
 |v::r,h=>by
  have ih:=slotsOf_len ρ r (fun w hw=>h w (List.mem_cons_of_mem _ hw))
  rcases h v (List.mem_cons_self ..) with⟨x,rfl⟩ | ⟨x,rfl⟩ | ⟨x,rfl⟩<;>simp[slotsOf,entL,cv,Value.category,ih]
theorem entL_rel(ρ:Nat→Nat):∀vs:List Value,(∀v∈vs,(∃x,v = .int x)∨(∃x,v = .long x)∨∃x,v = .ref x)→∀(i:Nat) (w:Value),(entL vs)[i]? = some w→w ≠ .null→(slotsOf (vs.map (cv ρ)))[i]? = some (.val (cv ρ w))
 |[],_,i,w,h,_=>by simp[entL] at h
 |v::r,h,i,w,hi,hn=>by
  have ih:=entL_rel ρ r (fun w hw=>h w (List.mem_cons_of_mem _ hw))
  rcases h v (List.mem_cons_self ..) with⟨x,rfl⟩ | ⟨x,rfl⟩ | ⟨x,rfl⟩
  ·cases i with
   |zero=>simp[entL] at hi;subst hi;simp[slotsOf,cv,Value.category]
   |succ i=>simp[entL] at hi;simpa [slotsOf,cv,Value.category] using ih i w hi hn
  ·cases i with
   |zero=>simp[entL] at hi;subst hi;simp[slotsOf,cv,Value.category]
   |succ i=>
    cases i with
    |zero=>simp[entL] at hi;exact absurd hi.symm hn
    |succ i=>simp[entL] at hi;simpa [slotsOf,cv,Value.category] using ih i w hi hn
  ·cases i with
   |zero=>simp[entL] at hi;subst hi;simp[slotsOf,cv,Value.category]
   |succ i=>simp[entL] at hi;simpa [slotsOf,cv,Value.category] using ih i w hi hn
theorem slotsOf_wf:∀(vs:List Value) (tl:List Slot),(∀x∈tl,x = .unset)→(∀i:Nat,(slotsOf vs++tl)[i]? = some .second→∃(j:Nat) (v:Value),i=j+1∧(slotsOf vs++tl)[j]? = some (.val v)∧v.category=2)∧∀(i:Nat) (v:Value),(slotsOf vs++tl)[i]? = some (.val v)→v.category=2→(slotsOf vs++tl)[i+1]? = some .second
 |[],tl,h=>by
  refine⟨fun i q=>?_,fun i v q _=>?_⟩
  ·have:=h _ (List.mem_of_getElem? (by simpa [slotsOf] using q));cases this
  ·have:=h _ (List.mem_of_getElem? (by simpa [slotsOf] using q));cases this
 |v::r,tl,h=>by
  obtain⟨a,b⟩:=slotsOf_wf r tl h
  by_cases hc:v.category=2
  ·refine⟨fun i q=>?_,fun i w q hw=>?_⟩
   ·cases i with
    |zero=>simp[slotsOf,hc] at q
    |succ i=>
     cases i with
     |zero=>exact⟨0,v,rfl,by simp[slotsOf,hc],hc⟩
     |succ i=>
      simp only[slotsOf,hc,if_true,List.cons_append,List.getElem?_cons_succ] at q
      obtain⟨j,w,q1,q2,q3⟩:=a i q
      exact⟨j+2,w,by omega,by simpa [slotsOf,hc] using q2,q3⟩
   ·cases i with
    |zero=>simp[slotsOf,hc]
    |succ i=>
     cases i with
     |zero=>simp[slotsOf,hc] at q
     |succ i=>
      simp only[slotsOf,hc,if_true,List.cons_append,List.getElem?_cons_succ] at q ⊢
      exact b i w q hw
  ·refine⟨fun i q=>?_,fun i w q hw=>?_⟩
   ·cases i with
    |zero=>simp[slotsOf,hc] at q
    |succ i=>
     simp only[slotsOf,hc,if_false,List.cons_append,List.getElem?_cons_succ] at q
     obtain⟨j,w,q1,q2,q3⟩:=a i q
     exact⟨j+1,w,by omega,by simpa [slotsOf,hc] using q2,q3⟩
   ·cases i with
    |zero=>simp[slotsOf,hc] at q;subst q;exact absurd hw hc
    |succ i=>
     simp only[slotsOf,hc,if_false,List.cons_append,List.getElem?_cons_succ] at q ⊢
     exact b i w q hw
def okv:List Value→Bool
 |[]=>true
 | .int _::r=>okv r
 | .long _::r=>okv r
 | .ref _::r=>okv r
 |_::_=>false
theorem okv_spec:∀ {vs:List Value},okv vs=true→∀v∈vs,(∃x,v = .int x)∨(∃x,v = .long x)∨∃x,v = .ref x
 |[],_,v,h=>by cases h
 |w::r,h,v,hv=>by
  cases w<;>simp only[okv] at h<;>try (cases h;done)
  all_goals
   rcases List.mem_cons.mp hv with rfl | q
   ·first | exact Or.inl ⟨_,rfl⟩ | exact Or.inr (Or.inl ⟨_,rfl⟩) | exact Or.inr (Or.inr ⟨_,rfl⟩)
   ·exact okv_spec h v q
theorem entry_rel(ρ:Nat→Nat){vs:List Value}(h:okv vs=true){ml:Nat}(hl:(entL vs).length≤ml) :
  ∃L,(∀m,entryFrame m (vs.map (cv ρ)).toArray ml=mkF m 0 L [])∧LocRel ρ (entL vs) L∧WFL L∧L.size=ml:=by
 have hk:=okv_spec h
 have e1:=slotsOf_len ρ vs hk
 refine⟨_,fun m=>by unfold entryFrame;rw[args_slots],fun i w q hn=>?_,?_,by simp[e1];omega⟩
 ·have:=entL_rel ρ vs hk i w q hn
  simp only[List.getElem?_toArray]
  rw[List.getElem?_append_left ((List.getElem?_eq_some_iff.mp this).1)]
  exact this
 ·obtain⟨a,b⟩:=slotsOf_wf (vs.map (cv ρ)) (List.replicate (ml-(slotsOf (vs.map (cv ρ))).length) Slot.unset) (fun x hx=>(List.mem_replicate.mp hx).2)
  exact⟨fun i q=>by simpa using a i (by simpa using q),fun i v q hc=>by simpa using b i v (by simpa using q) hc⟩
def inb(i:Int32)(n:Nat):Bool := !(decide (i<0)||decide (n≤i.toNatClampNeg))
theorem inb_spec{i:Int32}{n:Nat}(h:inb i n=true):¬(i<0∨n≤i.toNatClampNeg):=by
 simp only[inb,Bool.not_eq_true',Bool.or_eq_false_iff,decide_eq_false_iff_not] at h
 exact fun q=>q.elim h.1 h.2
section Ops
variable {σ:Type}
def gf(G:σ→Nat→Nat→Int32)(k:Nat)(S:σ):List Value→Option (List Value×σ)
 | .ref 0::r=>if k%3=2 then some (.ref (k/3+1)::r,S) else some (.int (G S 0 (k/3))::r,S)
 |_=>none
def pf(P:σ→Nat→Nat→Int32→σ)(k:Nat)(S:σ):List Value→Option (List Value×σ)
 | .int v :: .ref 0::r=>if k%3=0 then some (r,P S 0 (k/3) v) else if k%3=1 then some (r,P S 0 (k/3) (v&&&1)) else none
 |_=>none
def isI:FieldType→Bool
 | .int=>true
 |_=>false
def isB:FieldType→Bool
 | .boolean=>true
 | .byte=>true
 |_=>false
def al(arrs:List (FieldType×Nat))(G:σ→Nat→Nat→Int32)(ok:FieldType→Bool)(S:σ):List Value→Option (List Value×σ)
 | .int i :: .ref (j+1)::r=>match arrs[j]? with
  |some q=>if ok q.1=true∧inb i q.2=true then some (.int (G S (j+1) i.toNatClampNeg)::r,S) else none
  |none=>none
 |_=>none
def sa(arrs:List (FieldType×Nat))(P:σ→Nat→Nat→Int32→σ)(ok:FieldType→Bool)(S:σ):List Value→Option (List Value×σ)
 | .int v :: .int i :: .ref (j+1)::r=>match arrs[j]? with
  |some q=>if ok q.1=true∧inb i q.2=true then some (r,P S (j+1) i.toNatClampNeg (nar q.1 v)) else none
  |none=>none
 |_=>none
def la(arrs:List (FieldType×Nat))(S:σ):List Value→Option (List Value×σ)
 | .ref (j+1)::r=>match arrs[j]? with
  |some q=>some (.int (Int32.ofNat q.2)::r,S)
  |none=>none
 |_=>none
def mop1(arrs:List (FieldType×Nat))(G:σ→Nat→Nat→Int32)(P:σ→Nat→Nat→Int32→σ):Mop σ:=fun _ i st S=>match i with
 | .getfield k=>gf G k S st
 | .putfield k=>pf P k S st
 | .iaload=>al arrs G isI S st
 | .baload=>al arrs G isB S st
 | .iastore=>sa arrs P isI S st
 | .bastore=>sa arrs P isB S st
 | .arraylength=>la arrs S st
 |_=>none
def okn:List Value→Bool
 |[]=>true
 | .int _::r=>okn r
 | .long _::r=>okn r
 |_::_=>false
def cop1(na ml wm:Nat→Nat):Cop:=fun m i st=>match i with
 | .invokevirtual k=>(match takeA (na k) [] st with
  |some (as,.ref 0::r)=>if okn as=true∧cats r≤wm m∧(entL (.ref 0::as)).length≤ml k then some (k,.ref 0::as,r) else none
  |_=>none)
 |_=>none
end Ops
theorem takeA_spec:∀ {n:Nat} {acc st as r:List Value},takeA n acc st=some (as,r)→∃q,q.length=n∧as=q++acc∧st=q.reverse++r
 |0,acc,st,as,r,h=>by cases h;exact⟨[],rfl,rfl,rfl⟩
 |n+1,acc,[],as,r,h=>by cases h
 |n+1,acc,v::st,as,r,h=>by
  obtain⟨q,h1,h2,h3⟩:=takeA_spec (n:=n) h
  exact⟨q++[v],by simp[h1],by simp[h2],by simp[h3]⟩
theorem okn_spec:∀ {vs:List Value},okn vs=true→okv vs=true∧∀ρ,vs.map (cv ρ)=vs
 |[],_=>⟨rfl,fun _=>rfl⟩
 |w::r,h=>by
  cases w<;>simp only[okn] at h<;>try (cases h;done)
  all_goals
   obtain⟨a,b⟩:=okn_spec h
   exact⟨a,fun ρ=>by rw[List.map_cons,b];rfl⟩
def ObjAt(C:String)(fds:List (String×String×Nat))(arrs:List (FieldType×Nat))(Z:State)(h:Heap)(a:Nat)(g:Nat→Nat→Int32):Prop:=
 Exa Z h a C∧(∀n d k,(n,d,k)∈fds→Fld Z h a C n d (if k%3=2 then .ref (a+(k/3+1)) else .int (g 0 (k/3)))) ∧
 ∀(j:Nat) (ty:FieldType) (len:Nat),arrs[j]? = some (ty,len)→∃cell,Arr Z h (a+(j+1)) cell ty∧cell.slots.size=len∧∀i,i<len→cell.slots[i]? = some (.int (g (j+1) i))
def ClsOK(C:String)(fds:List (String×String×Nat))(arrs:List (FieldType×Nat))(Tb:Tabs)(Z:State)(a0:Array Value):Prop:=
 (∃kk,(Cond.instantiable C kk).before a0 Z=true) ∧
 (∀n d k,(n,d,k)∈fds→Laid Z a0 C C n d∧(k%3≠2→(Cond.lays C C n d).before a0 Z=true)∧(k%3=0→d = "I")∧(k%3=1→d = "Z")∧∃t,parseFieldDescriptor d=some t) ∧
 (∀n d k n' d' k',(n,d,k)∈fds→(n',d',k')∈fds→n=n'→d=d'∧k=k') ∧
 (∀n d k n' d' k',(n,d,k)∈fds→(n',d',k')∈fds→n≠n'→k%3≠2→k'%3≠2→k/3≠k'/3) ∧
 (∀idx n d k,(idx,n,d,k)∈Tb.1→(Cond.fieldLink C idx C n d).before a0 Z=true∧(n,d,k)∈fds) ∧
 ∀(j:Nat) (ty:FieldType) (n:Nat),arrs[j]? = some (ty,n)→ty = .int∨ty = .boolean∨ty = .byte
def rng(arrs:List (FieldType×Nat))(a:Nat):List Nat:=(List.range (arrs.length+1)).map fun r=>a+r
theorem mem_rng{arrs:List (FieldType×Nat)}{a r:Nat}(h:r≤arrs.length):a+r∈rng arrs a:=List.mem_map.mpr ⟨r,List.mem_range.mpr (by omega),rfl⟩
section Obj
variable {C:String} {fds:List (String×String×Nat)} {arrs:List (FieldType×Nat)} {Tb:Tabs} {Z:State} {a0:Array Value} {h h':Heap} {a:Nat} {g g':Nat→Nat→Int32}
theorem ne1(a j:Nat):a+(j+1)≠a:=by omega
theorem ne2(a j:Nat):a≠a+(j+1):=by omega
theorem ne3(a:Nat){j j':Nat}(h:j'≠j):a+(j'+1)≠a+(j+1):=by omega
theorem ObjAt.put(K:ClsOK C fds arrs Tb Z a0)(O:ObjAt C fds arrs Z h a g){n d:String}{k:Nat}(hm:(n,d,k)∈fds)(hk:k%3≠2){v:Int32}(W:Wr h h' a (Jvm.RoadKit.slotOf Z C n d) (.int v))
  (hg:∀c i,g' c i=if c=0∧i=k/3 then v else g c i):ObjAt C fds arrs Z h' a g':=by
 obtain⟨O1,O2,O3⟩:=O
 obtain⟨-,K2,K3,K4,-,-⟩:=K
 refine⟨O1.wr W,fun n' d' k' hm'=>?_,fun j ty len hj=>?_⟩
 ·have F:=O2 n' d' k' hm'
  by_cases e:n=n'
  ·obtain⟨rfl,rfl⟩:=K3 _ _ _ _ _ _ hm hm' e
   subst e
   rw[if_neg hk] at F ⊢
   rw[hg,if_pos ⟨rfl,rfl⟩]
   exact F.same W
  ·obtain⟨l1,-,-,-,t1,p1⟩:=K2 _ _ _ hm
   obtain⟨l2,-,-,-,t2,p2⟩:=K2 _ _ _ hm'
   have F':=F.other W (Or.inr (slot_ne l2 l1 (Ne.symm e) p2 p1))
   by_cases q:k'%3=2
   ·rw[if_pos q] at F' ⊢;exact F'
   ·rw[if_neg q] at F' ⊢
    rw[hg,if_neg (fun x=>K4 _ _ _ _ _ _ hm hm' e hk q x.2.symm)]
    exact F'
 ·obtain⟨cell,A,z,H⟩:=O3 j ty len hj
  refine⟨cell,A.other W (ne1 a j),z,fun i hi=>?_⟩
  rw[hg,if_neg (fun x=>by omega)]
  exact H i hi
theorem ObjAt.set(O:ObjAt C fds arrs Z h a g){j:Nat}{ty:FieldType}{len:Nat}(hj:arrs[j]? = some (ty,len)){i:Nat}(hi:i<len){v:Int32}(W:Wr h h' (a+(j+1)) i (.int v))
  (hg:∀c r,g' c r=if c=j+1∧r=i then v else g c r):ObjAt C fds arrs Z h' a g':=by
 obtain⟨O1,O2,O3⟩:=O
 refine⟨O1.wr W,fun n' d' k' hm'=>?_,fun j' ty' len' hj'=>?_⟩
 ·have F:=(O2 n' d' k' hm').other W (Or.inl (ne2 a j))
  by_cases q:k'%3=2
  ·rw[if_pos q] at F ⊢;exact F
  ·rw[if_neg q] at F ⊢
   rw[hg,if_neg (fun x=>by omega)]
   exact F
 ·obtain⟨cell,A,z,H⟩:=O3 j' ty' len' hj'
  by_cases e:j'=j
  ·subst e
   cases hj.symm.trans hj'
   refine⟨cell.setSlot i (.int v),A.same W,by rw[sz_set];exact z,fun r hr=>?_⟩
   rw[hg]
   by_cases q:r=i
   ·subst q
    rw[if_pos ⟨rfl,rfl⟩]
    simp[Cell.setSlot,z,hr]
   ·rw[if_neg (fun x=>q x.2)]
    have:=H r hr
    simp only[Cell.setSlot]
    rw[Array.getElem?_setIfInBounds_ne (Ne.symm q)]
    exact this
  ·refine⟨cell,A.other W (ne3 a e),z,fun r hr=>?_⟩
   rw[hg,if_neg (fun x=>by omega)]
   exact H r hr
theorem ObjAt.keep{ws:List Nat}(O:ObjAt C fds arrs Z h a g)(K:Keep h h' ws)(hn:∀r,r≤arrs.length→a+r∉ws):ObjAt C fds arrs Z h' a g:=by
 obtain⟨O1,O2,O3⟩:=O
 have ha:a∉ws:=hn 0 (Nat.zero_le _)
 refine⟨?_,fun n d k hm=>?_,fun j ty len hj=>?_⟩
 ·obtain⟨cell,k,h1,r⟩:=O1
  exact⟨cell,k,K.2.1 a cell h1 ha,r⟩
 ·obtain⟨cell,cf,kc,i,f,h1,r⟩:=O2 n d k hm
  exact⟨cell,cf,kc,i,f,K.2.1 a cell h1 ha,r⟩
 ·obtain⟨cell,A,r⟩:=O3 j ty len hj
  have hlt:=(List.getElem?_eq_some_iff.mp hj).1
  exact⟨cell,⟨K.2.1 _ cell A.1 (hn _ (by omega)),A.2⟩,r⟩
end Obj
section L1
variable {σ:Type} (C:String) (fds:List (String×String×Nat)) (arrs:List (FieldType×Nat)) (Tb:Tabs) (Z:State) (a0:Array Value) (G:σ→Nat→Nat→Int32) (P:σ→Nat→Nat→Int32→σ) (mi:MI) (rt:Nat→Option FieldType) (l:Launch)
abbrev I1:=Nat×Heap×Nat×Nat×Nat
def rho1(x:I1)(r:Nat):Nat:=x.1+r
def J1(x:I1)(R:Room)(_:State)(_:Nat)(S:σ)(T:State)(locs:List Loc)(cells slots:Nat):Prop:=
 cells=x.2.2.2.1∧slots=x.2.2.2.2∧cells≤R.cells∧slots≤R.slots∧ObjAt C fds arrs Z T.heap x.1 (G S)∧Keep x.2.1 T.heap (rng arrs x.1)∧Fr x.2.2.1 locs∧x.2.2.1≤x.1
variable {C fds arrs Tb Z a0 G P mi rt l}
theorem canon_get{ml pc k:Nat}{i0:Instr}(h:canon Tb ml pc i0=some (.getfield k)):∃idx n d,i0 = .getfield idx∧(idx,n,d,k)∈Tb.1:=by
 cases i0<;>try (simp[canon,lt,plain1,heapy] at h;done)
 case getfield idx=>
  obtain⟨⟨n,d,k'⟩,h1,h2⟩:=Option.map_eq_some_iff.mp h
  cases h2
  exact⟨idx,n,d,rfl,lk_mem h1⟩
theorem canon_put{ml pc k:Nat}{i0:Instr}(h:canon Tb ml pc i0=some (.putfield k)):∃idx n d,i0 = .putfield idx∧(idx,n,d,k)∈Tb.1:=by
 cases i0<;>try (simp[canon,lt,plain1,heapy] at h;done)
 case putfield idx=>
  obtain⟨⟨n,d,k'⟩,h1,h2⟩:=Option.map_eq_some_iff.mp h
  cases h2
  exact⟨idx,n,d,rfl,lk_mem h1⟩
theorem canon_heapy {ml pc : Nat} {i0 i : Instr} (hi : heapy i = true) (h : canon Tb ml pc i0 = some i) : i0 = i := by
  cases i0
  all_goals first
    | (simp [canon, plain1, heapy] at h; done)
    | (simp [canon, plain1, heapy] at h; exact h)
    | (exfalso
       simp only [canon] at h
       first
         | (cases h; simp [heapy] at hi; done)
         | (obtain ⟨w, h1, h2⟩ := Option.map_eq_some_iff.mp h; cases h2; simp [heapy] at hi; done)
         | (obtain ⟨h1, h2⟩ := lt_inv h; subst h2; simp [heapy] at hi; done)
         | (split at h
            · cases h; simp [heapy] at hi
            · cases h)
         | (simp [plain1] at h; subst h; simp [heapy] at hi; done))
theorem canon_inv{ml pc k:Nat}{i0:Instr}(h:canon Tb ml pc i0=some (.invokevirtual k)):∃idx,i0 = .invokevirtual idx∧(idx,k)∈Tb.2.1:=by
 cases i0<;>try (simp[canon,lt,plain1,heapy] at h;done)
 case invokevirtual idx=>
  obtain⟨k',h1,h2⟩:=Option.map_eq_some_iff.mp h
  cases h2
  exact⟨idx,rfl,lk_mem h1⟩
set_option maxHeartbeats 1000000 in
theorem mop1_ok{code:Codes}(K:ClsOK C fds arrs Tb Z a0)(hGP:∀S c i v c' i',G (P S c i v) c' i'=if c'=c∧i'=i then v else G S c' i'):MopOK code rt (mop1 arrs G P) Tb mi C Z l rho1 (J1 C fds arrs Z G):=by
 intro x p e R s m args below meth c mm pc len i0 i st st' S S' T locs cells slots L X F hJ hs hd ho hc hcd hm
 obtain⟨hx,hZ,hown,-,-,-,-,-,-⟩:=F
 obtain⟨hc0,hs0,hcR,hsR,O,Kp,N,hn⟩:=hJ
 have hlt:∀ {j:Nat} {q:FieldType×Nat},arrs[j]? = some q→j+1≤arrs.length:=fun q=>by have:=(List.getElem?_eq_some_iff.mp q).1;omega
 unfold mop1 at hm
 split at hm
 ·-- getfield
  rename_i k
  obtain⟨idx,n,d,rfl,hmem⟩:=canon_get hc
  obtain rfl:len=3:=by simpa [lenOK,ilen] using ho
  obtain⟨wl,hf⟩:=K.2.2.2.2.1 _ _ _ _ hmem
  have Fd:=O.2.1 n d k hf
  unfold gf at hm
  split at hm
  ·rename_i r
   obtain⟨T',X',e',st1⟩:=getF X hx hZ hown (host := "") (Or.inl wl) Via.refl rfl Fd (g:=mkF m pc L (.ref x.1::r.map (cv (rho1 x)))) rfl rfl hd
   refine⟨T',locs,cells,slots,X',⟨hc0,hs0,hcR,hsR,?_⟩,?_⟩
   ·rw[e']
    split at hm<;>(cases hm;exact⟨O,Kp,N,hn⟩)
   ·split at hm
    ·rename_i q
     cases hm
     rw[if_pos q] at st1
     exact fun t kt=>st1 t kt
    ·rename_i q
     cases hm
     rw[if_neg q] at st1
     exact fun t kt=>st1 t kt
  ·cases hm
 ·-- putfield
  rename_i k
  obtain⟨idx,n,d,rfl,hmem⟩:=canon_put hc
  obtain rfl:len=3:=by simpa [lenOK,ilen] using ho
  obtain⟨wl,hf⟩:=K.2.2.2.2.1 _ _ _ _ hmem
  have Fd:=O.2.1 n d k hf
  obtain⟨-,k2,k3,k4,-⟩:=K.2.1 n d k hf
  obtain⟨kk,wi⟩:=K.1
  unfold pf at hm
  split at hm
  ·rename_i v r
   split at hm
   ·rename_i q
    have q2:k%3≠2:=by omega
    cases hm
    have hd':=k3 q
    subst hd'
    obtain⟨T',h',X',e',W,st1⟩:=putFN X hx hZ hown wl Via.refl rfl Fd O.1 (Or.inl (k2 q2)) wi (ty:= .int) (by decide) (v:= .int v) (v':= .int v) rfl rfl (g:=mkF m pc L (.int v :: .ref x.1::st'.map (cv (rho1 x)))) rfl rfl hd
    subst e'
    exact⟨T',_,cells,slots,X',⟨hc0,hs0,hcR,hsR,O.put K hf q2 W (fun c i=>hGP S 0 (k/3) v c i),Kp.wr W (Or.inl (mem_rng (r:=0) (Nat.zero_le _))),N.app fun y hy=>by cases List.mem_singleton.mp hy;exact hn,hn⟩,fun t kt=>st1 t kt⟩
   ·split at hm
    ·rename_i q
     have q2:k%3≠2:=by omega
     cases hm
     have hd':=k4 q
     subst hd'
     obtain⟨T',h',X',e',W,st1⟩:=putFN X hx hZ hown wl Via.refl rfl Fd O.1 (Or.inl (k2 q2)) wi (ty:= .boolean) (by decide) (v:= .int v) (v':= .int (v&&&1)) rfl (fits_nar_bool v) (g:=mkF m pc L (.int v :: .ref x.1::st'.map (cv (rho1 x)))) rfl rfl hd
     subst e'
     exact⟨T',_,cells,slots,X',⟨hc0,hs0,hcR,hsR,O.put K hf q2 W (fun c i=>hGP S 0 (k/3) (v&&&1) c i),Kp.wr W (Or.inl (mem_rng (r:=0) (Nat.zero_le _))),N.app fun y hy=>by cases List.mem_singleton.mp hy;exact hn,hn⟩,fun t kt=>st1 t kt⟩
    ·cases hm
  ·cases hm
 ·-- iaload
  obtain rfl:=canon_heapy rfl hc
  obtain rfl:len=1:=by simpa [lenOK,ilen] using ho
  unfold al at hm
  split at hm
  ·rename_i j a r
   split at hm
   ·rename_i q hq
    split at hm
    ·rename_i hb
     cases hm
     obtain⟨ty,n⟩:=q
     obtain⟨cell,A,z,H⟩:=O.2.2 _ _ _ hq
     obtain rfl:ty = .int:=by cases ty<;>simp[isI] at hb ⊢
     have hin:=inb_spec hb.2
     rw[←z] at hin
     have hv:=H j.toNatClampNeg (by rw[←z];exact Nat.lt_of_not_le fun q=>hin (Or.inr q))
     exact⟨T,locs,cells,slots,X,⟨hc0,hs0,hcR,hsR,O,Kp,N,hn⟩,fun t kt=>X.iaload hx A.1 (State.isArrayOf_alike hZ.alike A.2.1) A.2.2 hin hv (g:=mkF m pc L (.int j :: .ref (x.1+(a+1))::r.map (cv (rho1 x)))) rfl rfl hd t kt⟩
    ·cases hm
   ·cases hm
  ·cases hm
 ·-- baload
  obtain rfl:=canon_heapy rfl hc
  obtain rfl:len=1:=by simpa [lenOK,ilen] using ho
  unfold al at hm
  split at hm
  ·rename_i j a r
   split at hm
   ·rename_i q hq
    split at hm
    ·rename_i hb
     cases hm
     obtain⟨ty,n⟩:=q
     obtain⟨cell,A,z,H⟩:=O.2.2 _ _ _ hq
     have hin:=inb_spec hb.2
     rw[←z] at hin
     have hv:=H j.toNatClampNeg (by rw[←z];exact Nat.lt_of_not_le fun q=>hin (Or.inr q))
     refine⟨T,locs,cells,slots,X,⟨hc0,hs0,hcR,hsR,O,Kp,N,hn⟩,fun t kt=>?_⟩
     have hty:ty = .boolean∨ty = .byte:=by cases ty<;>simp[isB] at hb ⊢
     rcases hty with rfl | rfl
     ·exact X.baloadBooleans hx A.1 (State.isArrayOf_alike hZ.alike A.2.1) A.2.2 hin hv (g:=mkF m pc L (.int j :: .ref (x.1+(a+1))::r.map (cv (rho1 x)))) rfl rfl hd t kt
     ·exact X.baloadBytes hx A.1 (State.isArrayOf_alike hZ.alike A.2.1) A.2.2 hin hv (g:=mkF m pc L (.int j :: .ref (x.1+(a+1))::r.map (cv (rho1 x)))) rfl rfl hd t kt
    ·cases hm
   ·cases hm
  ·cases hm
 ·-- iastore
  obtain rfl:=canon_heapy rfl hc
  obtain rfl:len=1:=by simpa [lenOK,ilen] using ho
  unfold sa at hm
  split at hm
  ·rename_i v j a r
   split at hm
   ·rename_i q hq
    split at hm
    ·rename_i hb
     cases hm
     obtain⟨ty,n⟩:=q
     obtain⟨cell,A,z,H⟩:=O.2.2 _ _ _ hq
     obtain rfl:ty = .int:=by cases ty<;>simp[isI] at hb ⊢
     have hin:=inb_spec hb.2
     have hlt':j.toNatClampNeg<n:=Nat.lt_of_not_le fun q=>hin (Or.inr q)
     rw[←z] at hin
     obtain⟨T',h',X',e',W,st1⟩:=stI X hx hZ rfl A (j:=j) hin (g:=mkF m pc L (.int v :: .int j :: .ref (x.1+(a+1))::st'.map (cv (rho1 x)))) rfl rfl hd
     subst e'
     exact⟨T',_,cells,slots,X',⟨hc0,hs0,hcR,hsR,O.set hq hlt' W (fun c i=>hGP S (a+1) _ v c i),Kp.wr W (Or.inl (mem_rng (hlt hq))),N.app fun y hy=>by cases List.mem_singleton.mp hy;exact Nat.le_trans hn (Nat.le_add_right _ _),hn⟩,fun t kt=>st1 t kt⟩
    ·cases hm
   ·cases hm
  ·cases hm
 ·-- bastore
  obtain rfl:=canon_heapy rfl hc
  obtain rfl:len=1:=by simpa [lenOK,ilen] using ho
  unfold sa at hm
  split at hm
  ·rename_i v j a r
   split at hm
   ·rename_i q hq
    split at hm
    ·rename_i hb
     cases hm
     obtain⟨ty,n⟩:=q
     obtain⟨cell,A,z,H⟩:=O.2.2 _ _ _ hq
     have hin:=inb_spec hb.2
     have hlt':j.toNatClampNeg<n:=Nat.lt_of_not_le fun q=>hin (Or.inr q)
     rw[←z] at hin
     have hty:ty = .boolean∨ty = .byte:=by cases ty<;>simp[isB] at hb ⊢
     rcases hty with rfl | rfl
     ·obtain⟨T',h',X',e',W,st1⟩:=stZ X hx hZ rfl A (j:=j) hin (g:=mkF m pc L (.int v :: .int j :: .ref (x.1+(a+1))::st'.map (cv (rho1 x)))) rfl rfl hd
      subst e'
      exact⟨T',_,cells,slots,X',⟨hc0,hs0,hcR,hsR,O.set hq hlt' W (fun c i=>hGP S (a+1) _ _ c i),Kp.wr W (Or.inl (mem_rng (hlt hq))),N.app fun y hy=>by cases List.mem_singleton.mp hy;exact Nat.le_trans hn (Nat.le_add_right _ _),hn⟩,fun t kt=>st1 t kt⟩
     ·obtain⟨T',h',X',e',W,st1⟩:=stB X hx hZ rfl A (j:=j) hin (g:=mkF m pc L (.int v :: .int j :: .ref (x.1+(a+1))::st'.map (cv (rho1 x)))) rfl rfl hd
      subst e'
      exact⟨T',_,cells,slots,X',⟨hc0,hs0,hcR,hsR,O.set hq hlt' W (fun c i=>hGP S (a+1) _ _ c i),Kp.wr W (Or.inl (mem_rng (hlt hq))),N.app fun y hy=>by cases List.mem_singleton.mp hy;exact Nat.le_trans hn (Nat.le_add_right _ _),hn⟩,fun t kt=>st1 t kt⟩
    ·cases hm
   ·cases hm
  ·cases hm
 ·-- arraylength
  obtain rfl:=canon_heapy rfl hc
  obtain rfl:len=1:=by simpa [lenOK,ilen] using ho
  unfold la at hm
  split at hm
  ·rename_i a r
   split at hm
   ·rename_i q hq
    cases hm
    obtain⟨ty,n⟩:=q
    obtain⟨cell,A,z,H⟩:=O.2.2 _ _ _ hq
    subst z
    exact⟨T,locs,cells,slots,X,⟨hc0,hs0,hcR,hsR,O,Kp,N,hn⟩,fun t kt=>X.arraylength hx A.1 (State.isArrayOf_alike hZ.alike A.2.1) (g:=mkF m pc L (.ref (x.1+(a+1))::r.map (cv (rho1 x)))) rfl rfl hd t kt⟩
   ·cases hm
  ·cases hm
 ·cases hm
def MthOK(C:String)(Tb:Tabs)(Z:State)(a0:Array Value)(mi:MI)(rt:Nat→Option FieldType)(own:String)(k:Nat)(na:Nat→Nat):Prop:=
 (∀idx,(idx,k)∈Tb.2.1→VirtW Z a0 C own idx (mi k).1 (mi k).2.1 (mi k).2.2.1 (rt k))∧∃ps,parseMethodDescriptor (mi k).1.desc=some ⟨ps,rt k⟩∧ps.length=na k
theorem met1{code:Codes}{mop:Mop σ}{cop:Cop}{n:Nat}(hW:Walks code rt mop cop mi C Z l rho1 (J1 C fds arrs Z G) n)(hpn:plainName C=true){k:Nat}(hcls:(mi k).1.cls=C){as:List Value}(hok:okn as=true)(hlen:(entL (.ref 0::as)).length≤(mi k).2.2.1)
  {S:σ} {r:Res σ} (hit:iter (plan code rt mop cop) n (k,0,entL (.ref 0::as),[],S)=some r) {a:Nat} {h:Heap} {n0:Nat} (O:ObjAt C fds arrs Z h a (G S)) (hn:n0≤a) (ws:List Jvm.Cond) :
  MetFree l (mi k).1 (head1 (Cond.code (mi k).1 (mi k).2.1 (mi k).2.2.1 (rt k)::ws) ({ frames:=(mi k).2.2.2.1,cells:=0,slots:=0,locals:=(mi k).2.2.2.2 }:Room))
   (fun A U=>A=(.ref a::as).toArray∧Z.Warmed39 U.vm∧U.heap=h) (fun _ _ _ _ _=>True)
   (fun _ U o U'=>∃v L,o = .returned v∧(v=r.1∧(∀ρ',r.1.map (cv ρ')=r.1)∧Fr n0 L∧Keep h U'.heap (rng arrs a)∧ObjAt C fds arrs Z U'.heap a (G r.2))∧FrameEnd U o U' L 0 0):=by
 refine MetFree.of_bodySF (plainFor_of_name (by rw[hcls];exact hpn)) hisR ?_
 intro p e s m args below meth c s₁ Bd hml0 hP hK
 obtain⟨rfl,hZ,hh⟩:=hP
 have hown:s.vm.findClass C=some m.cls:=by rw[←hcls];exact findClass_of_methodNamed Bd.named
 have hnm:=(name_of_methodNamed Bd.named Bd.method).1
 have X0:=Stand.of_body Bd
 have e0:s₁.heap=h:=by rw[←hh,Bd.state];rfl
 obtain⟨L,q1,q2,q3,q4⟩:=entry_rel (rho1 (a,h,n0,0,0)) (vs:= .ref 0::as) (by simpa [okv] using (okn_spec hok).1) hlen
 obtain⟨T',L',k',n',X',⟨j1,j2,-,-,j5,j6,j7,-⟩,⟨ok1,ok2⟩,st⟩:=hW (a,h,n0,0,0) p e _ s m _ below meth c k 0 _ [] S r hit s₁ [] 0 0 L X0 ⟨Bd.exec,hZ,hown,Bd.bytes,hml0,Bd.returns,hnm,Nat.le_refl _,Nat.le_refl _⟩
  ⟨rfl,rfl,Nat.le_refl _,Nat.le_refl _,by rw[e0];exact O,by rw[e0];exact Keep.refl _ _,Fr.nil _,hn⟩ q2 q3 (by rw[q4,hml0])
 obtain⟨fs,hr,hrun,hended,hWm,hsame⟩:=X'.leave (v:=r.1) ok1
 refine⟨_,_,?_,hrun,hended,_,_,rfl,⟨rfl,ok2,j7,j6,j5⟩,⟨_,rfl⟩,hWm,by subst j1 j2;exact hsame⟩
 have:=st fs hr
 rw[show entryFrame m (.ref a::as).toArray (mi k).2.2.1=mkF m 0 L [] from by rw[←q1 m,List.map_cons,(okn_spec hok).2];rfl]
 exact this
def RoomOK(code:Codes)(mi:MI)(wm:Nat→Nat):Prop:=∀mm pc k pn kp,code mm pc=some (.invokevirtual k,pn,kp)→(mi k).2.2.2.1+1≤(mi mm).2.2.2.1∧wm mm+((mi k).2.2.1+11)+(mi k).2.2.2.2≤(mi mm).2.2.2.2
theorem cop1_ok{code:Codes}{na wm:Nat→Nat}{mop:Mop σ}(K:ClsOK C fds arrs Tb Z a0)(hpn:plainName C=true)(wz:(Cond.initialized C).before a0 Z=true)(hC:C ≠ "java/lang/invoke/MethodHandle" ∧ C ≠ "java/lang/invoke/VarHandle")
  (hm:∀k idx,(idx,k)∈Tb.2.1→MthOK C Tb Z a0 mi rt C k na) (hR:RoomOK code mi wm) :
  CopOK code rt mop (cop1 na (fun k=>(mi k).2.2.1) wm) Tb mi C Z l rho1 (J1 C fds arrs Z G):=by
 intro n hW x p e R s m args below meth c mm pc len i0 i st q S r T locs cells slots L X F hJ hs hd ho hc hne hq hit
 obtain⟨hx,hZ,hown,f4,f5,f6,f7,f8,f9⟩:=F
 obtain⟨hc0,hs0,hcR,hsR,O,Kp,N,hn⟩:=hJ
 unfold cop1 at hq
 split at hq
 ·rename_i k
  split at hq
  ·rename_i as r0 ht
   split at hq
   ·rename_i hb
    cases hq
    obtain⟨hok,hcat,hlen⟩:=hb
    obtain⟨idx,rfl,hmem⟩:=canon_inv hc
    obtain rfl:len=3:=by simpa [lenOK,ilen] using ho
    obtain⟨hv,ps,hps,hna⟩:=hm k idx hmem
    have hv:=hv idx hmem
    obtain⟨kk,wi⟩:=K.1
    obtain⟨qs,q1,q2,q3⟩:=takeA_spec ht
    have q2':as=qs:=by simpa using q2
    subst q2'
    obtain⟨kp,hcd⟩:=hne
    have hroom:=hR mm pc k _ kp hcd
    have hM:=met1 (ws:=[]) hW hpn (hv.1) hok hlen hit O hn
    have hcR':cells+0≤R.cells:=hcR
    have hsR':slots+0≤R.slots:=hsR
    obtain⟨v,T',Lc,X',⟨e1,e0,e2,e3,e4⟩,G'⟩:=callV X hx hZ hown hv wi wz hC hps (as':=as) (by omega) (Q:=fun v h' L=>v=r.1∧(∀ρ',r.1.map (cv ρ')=r.1)∧Fr x.2.2.1 L∧Keep T.heap h' (rng arrs x.1)∧ObjAt C fds arrs Z h' x.1 (G r.2)) hM rfl O.1 (W:=wm mm) (rm:={ frames:=(mi k).2.2.2.1,cells:=0,slots:=0,locals:=(mi k).2.2.2.2 }) (Nat.le_trans hroom.1 f8) (Nat.le_trans hroom.2 f9) hcR' hsR' hs (rest:=r0.map (cv (rho1 x))) (st:=st.map (cv (rho1 x)))
     (by rw[q3,List.map_append,List.map_reverse,(okn_spec hok).2];rfl) (by
      have:(r0.map (cv (rho1 x))).map (fun v=>v.category)=r0.map fun v=>v.category:=by
       rw[List.map_map];apply List.map_congr_left;intro v _;cases v<;>rfl
      rw[this];exact hcat) hd
    subst e1
    refine⟨T',_,_,_,X',⟨hc0,hs0,hcR,hsR,e4,Kp.trans e3 (fun y hy=>Or.inl hy),N.app e2,hn⟩,?_⟩
    have:(r.1.toList++r0).map (cv (rho1 x))=r.1.toList++r0.map (cv (rho1 x)):=by
     rw[List.map_append]
     congr 1
     have:=e0 (rho1 x)
     cases hr:r.1 with
     |none=>rfl
     |some w=>rw[hr] at this;simpa using this
    rw[this]
    exact G'
   ·cases hq
  ·cases hq
 ·cases hq
end L1
abbrev Item:=Option ArrayType×Nat×String×String
def Part(C:String)(gds:List (String×String))(fds:List (String×String×Nat))(arrs:List (FieldType×Nat))(Z:State)(h:Heap)(a:Nat)(g:Nat→Int32)(k:Nat):Prop:=
 Exa Z h a C∧(∀n d,(n,d)∈gds→∃v,Fld Z h a C n d v) ∧
 (∀n d q,(n,d,q)∈fds→if q%3=2 then (if q/3<k then Fld Z h a C n d (.ref (a+(q/3+1))) else ∃v,Fld Z h a C n d v) else Fld Z h a C n d (.int (g (q/3)))) ∧
 (∀(j:Nat) (ty:FieldType) (len:Nat),j<k→arrs[j]? = some (ty,len)→∃cell,Arr Z h (a+(j+1)) cell ty∧cell.slots.size=len∧∀i,i<len→cell.slots[i]? = some (.int 0))∧h.size=a+1+k
def proChk(bytes:ByteArray)(Tb:Tabs)(ml:Nat)(gds:List (String×String))(fds:List (String×String×Nat))(arrs:List (FieldType×Nat))(pe:Nat):List Item→Nat→Nat→List (Nat×Int)→Bool
 |[],pc,k,iv=>decide (pc=pe)&&decide (k=arrs.length)&&decide (iv=[])
 |(t,idx,n,d)::r,pc,k,iv=>(match decode bytes pc with
  | .ok (.aload_n 0,1)=>(match decode bytes (pc+1) with
   | .ok (ip,lp)=>lenOK ip lp&&(match canon Tb ml (pc+1) ip with
    |some (.iconst v)=>(match t with
     |some t=>(match decode bytes (pc+1+lp),decode bytes (pc+1+lp+2) with
      | .ok (.newarray t',2),.ok (.putfield idx',3)=>decide (t'=t)&&decide (idx'=idx)&&decide (0≤v)&&decide (v<65536)&&decide (arrs[k]? = some (newarray.typeOf t,v.toNat))&&decide ((n,d,3*k+2)∈fds)&&proChk bytes Tb ml gds fds arrs pe r (pc+1+lp+5) (k+1) iv
      |_,_=>false)
     |none=>(match decode bytes (pc+1+lp) with
      | .ok (.putfield idx',3)=>decide (idx'=idx)&&(if (n,d)∈gds then proChk bytes Tb ml gds fds arrs pe r (pc+1+lp+3) k iv else (match iv with
       |q::iv=>decide ((n,d,3*q.1)∈fds)&&decide (q.2=v)&&proChk bytes Tb ml gds fds arrs pe r (pc+1+lp+3) k iv
       |[]=>false))
      |_=>false))
    |_=>false)
   |_=>false)
  |_=>false)
def finG(g:Nat→Int32)(iv:List (Nat×Int)):Nat→Int32:=iv.foldl (fun g q=>fun i=>if i=q.1 then Int32.ofInt q.2 else g i) g
def slotSum(arrs:List (FieldType×Nat))(k:Nat):Nat:=((arrs.take k).map (·.2)).sum
theorem slotSum_succ{arrs:List (FieldType×Nat)}{k:Nat}{q:FieldType×Nat}(h:arrs[k]? = some q):slotSum arrs (k+1)=slotSum arrs k+q.2:=by
 unfold slotSum
 rw[List.take_add_one,h]
 simp
theorem slotSum_le{arrs:List (FieldType×Nat)}:∀ {k n:Nat},k≤n→slotSum arrs k≤slotSum arrs n:=by
 intro k n h
 induction h with
 |refl=>exact Nat.le_refl _
 | @step m _ ih=>
  cases hq:arrs[m]? with
  |none=>
   have:arrs.length≤m:=by simpa using hq
   unfold slotSum at ih ⊢
   rw[List.take_of_length_le (Nat.le_succ_of_le this)]
   rw[List.take_of_length_le this] at ih
   exact ih
  |some q=>rw[slotSum_succ hq];omega
section Maker
variable {C:String} {gds:List (String×String)} {fds:List (String×String×Nat)} {arrs:List (FieldType×Nat)} {Tb:Tabs} {Z:State} {a0:Array Value} {h h':Heap} {a:Nat}
def MakOK(C:String)(gds:List (String×String))(fds:List (String×String×Nat))(arrs:List (FieldType×Nat))(items:List Item)(Z:State)(a0:Array Value):Prop:=
 (∀t idx n d,(t,idx,n,d)∈items→(Cond.fieldLink C idx C n d).before a0 Z=true∧Laid Z a0 C C n d∧(t=none→d = "I")∧(t≠none→∃u,parseFieldDescriptor d=some (.array u))∧∀t',t=some t'→(Cond.arrayClass (newarray.typeOf t')).before a0 Z=true) ∧
 (∀n d,(n,d)∈gds→Laid Z a0 C C n d∧d = "I" ∧ ∀n' d' k',(n',d',k')∈fds→n≠n') ∧
 (∀n d n' d' q,(n,d,q)∈fds→(n',d',q)∈fds→n=n') ∧
 (∀n d n' d',(n,d)∈gds→(n',d')∈gds→n=n'→d=d')∧∀(j:Nat) (ty:FieldType) (n:Nat),arrs[j]? = some (ty,n)→defaultValue ty = .int 0
theorem i32_lit{v:Int}(h0:0≤v)(h1:v<65536):¬Int32.ofInt v<0∧(Int32.ofInt v).toNatClampNeg=v.toNat:=by
 have e:(Int32.ofInt v).toInt=v:=Int32.toInt_ofInt_of_le (by omega) (by omega)
 constructor
 ·rw[Int32.lt_iff_toInt_lt,e]
  have:(0:Int32).toInt=0:=rfl
  omega
 ·simp only[Int32.toNatClampNeg,e]
section Pro
variable {p:Program} {l:Launch} {e:Env} {R:Room} {s:State} {m:MethodId} {args:Array Value} {below:List Frame} {meth:Method} {c:Code} {ρ:Nat→Nat} {items:List Item} {pe n0:Nat} {h0:Heap} {ls:List Value} {L:Array Slot}
theorem simPush{T:State}{locs:List Loc}{cells slots:Nat}(X:Stand p l e R s m args below meth c T locs cells slots)(hx:p.tables.exec=Jvm.exec)(hZ:Z.Warmed39 s.vm){own:String}(hown:s.vm.findClass own=some m.cls)(hC:Cst Tb Z a0 own){pc lp ml:Nat}{ip:Instr}{v:Int}(hd:decode c.code pc = .ok (ip,lp))(ho:lenOK ip lp=true)(hc:canon Tb ml pc ip=some (.iconst v)){st:List Value} :
  Go p e below T (mkF m pc L st) T (mkF m (pc+lp) L (.int (Int32.ofInt v)::st)):=by
 intro t kt
 cases ip<;>try (simp[canon,lt,plain1,heapy] at hc;done)
 case iconst j=>
  cases hc;obtain rfl:lp=1:=by simpa [lenOK,ilen] using ho
  exact XS.iconst X.here hx rfl hd kt
 case bipush j=>
  cases hc;obtain rfl:lp=2:=by simpa [lenOK,ilen] using ho
  rw[Int32.ofInt_toInt] at kt
  exact XS.bipush X.here hx rfl hd kt
 case sipush j=>
  cases hc;obtain rfl:lp=3:=by simpa [lenOK,ilen] using ho
  rw[Int32.ofInt_toInt] at kt
  exact XS.sipush X.here hx rfl hd kt
 case ldc j=>
  obtain⟨w,hw,hc⟩:=Option.map_eq_some_iff.mp hc;cases hc;obtain rfl:lp=2:=by simpa [lenOK,ilen] using ho
  rw[Int32.ofInt_toInt] at kt
  exact X.ldcInt hx hown (cst1 hZ hC hw) (g:=mkF m pc L st) rfl hd _ kt
set_option maxHeartbeats 1000000 in
theorem pro_walk (K : ClsOK C fds arrs Tb Z a0) (M : MakOK C gds fds arrs items Z a0) (hx : p.tables.exec = Jvm.exec) (hZ : Z.Warmed39 s.vm) (hown : s.vm.findClass C = some m.cls) (hCs : Cst Tb Z a0 C) (hnm : meth.name = "<init>") (hn : n0 ≤ a) (RL : LocRel ρ (.ref 0 :: ls) L) (W : WFL L) (hρ : ρ 0 = a) (hsz : s.heap.size = a + 1)
    (hRc : arrs.length ≤ R.cells) (hRs : slotSum arrs arrs.length ≤ R.slots) :
    ∀ (its : List Item) (pc k : Nat) (iv : List (Nat × Int)) (g : Nat → Int32) (T : State) (locs : List Loc), (∀ it ∈ its, it ∈ items) → proChk c.code Tb L.size gds fds arrs pe its pc k iv = true → Stand p l e R s m args below meth c T locs k (slotSum arrs k) → Part C gds fds arrs Z T.heap a g k → Keep h0 T.heap (rng arrs a) → Fr n0 locs →
      ∃ T' locs', Stand p l e R s m args below meth c T' locs' arrs.length (slotSum arrs arrs.length) ∧ Part C gds fds arrs Z T'.heap a (finG g iv) arrs.length ∧ Keep h0 T'.heap (rng arrs a) ∧ Fr n0 locs' ∧ Go p e below T (mkF m pc L []) T' (mkF m pe L []) := by
  intro its
  induction its with
  | nil =>
    intro pc k iv g T locs _ hp X Pt Kp N
    simp only [proChk, Bool.and_eq_true, decide_eq_true_eq] at hp
    obtain ⟨⟨rfl, rfl⟩, rfl⟩ := hp
    exact ⟨T, locs, X, Pt, Kp, N, fun t kt => kt⟩
  | cons it r ih =>
    intro pc k iv g T locs hin hp X Pt Kp N
    obtain ⟨t, idx, n, d⟩ := it
    obtain ⟨wl, ld, hd1, hd2, hd3⟩ := M.1 t idx n d (hin _ (List.mem_cons_self ..))
    have hin' : ∀ it ∈ r, it ∈ items := fun it h => hin it (List.mem_cons_of_mem _ h)
    obtain ⟨kk, wi⟩ := K.1
    obtain ⟨P1, P2, P3, P4, P5⟩ := Pt
    simp only [proChk] at hp
    split at hp
    · rename_i hdA
      split at hp
      · rename_i ip lp hdP
        simp only [Bool.and_eq_true] at hp
        obtain ⟨hlo, hp⟩ := hp
        split at hp
        · rename_i v hcan
          have sA : ∀ (T : State) (locs : List Loc) (cells slots : Nat), Stand p l e R s m args below meth c T locs cells slots → Go p e below T (mkF m pc L []) T (mkF m (pc + 1 + lp) L [.int (Int32.ofInt v), .ref a]) := by
            intro T locs cells slots X t kt
            refine XS.aloadN X.here hx rfl hdA (RL 0 (.ref 0) rfl (by simp)) rfl ?_
            show Steps p.tables e below (T.setTop (mkF m (pc + 1) L [.ref (ρ 0)])) t
            rw [hρ]
            exact simPush X hx hZ hown hCs hdP hlo hcan t kt
          split at hp
          · -- an array
            rename_i t
            split at hp
            · rename_i t' idx' hdN hdF
              simp only [Bool.and_eq_true, decide_eq_true_eq] at hp
              obtain ⟨⟨⟨⟨⟨⟨rfl, rfl⟩, h1⟩, h2⟩, h3⟩, h4⟩, hp⟩ := hp
              obtain ⟨hneg, hnat⟩ := i32_lit h1 h2
              have hk : k < arrs.length := (List.getElem?_eq_some_iff.mp h3).1
              have hS := slotSum_succ h3
              have hle := slotSum_le (arrs := arrs) (show k + 1 ≤ arrs.length from hk)
              simp only [] at hS
              obtain ⟨T1, hh1, cA, X1, e1, E1, A1, st1⟩ := newP X hx hZ (hd3 t' rfl) rfl (g := mkF m (pc + 1 + lp) L [.int (Int32.ofInt v), .ref a]) rfl hdN rfl hneg (cap := v.toNat) (by omega) (by omega) (by omega) (by omega)
              subst e1
              have hsz1 : T1.heap.size = a + 1 + (k + 1) := by
                have u := X1.heapSize
                have lo : T.heap.size < T1.heap.size := A1.lt
                omega
              have eA : T.heap.size = a + (k + 1) := by omega
              have F1 : ∃ v, Fld Z T.heap a C n d v := by
                have := P3 n d _ h4
                rw [if_pos (by omega), if_neg (by omega)] at this
                exact this
              obtain ⟨v0, F1⟩ := F1
              obtain ⟨u, hu⟩ := hd2 (by simp)
              have LL : (Cond.lays C C n d).before a0 Z = true ∨ ((Cond.laysFinal C C n d).before a0 Z = true ∧ C = C ∧ meth.name = "<init>") := ld.imp id (fun q => ⟨q, rfl, hnm⟩)
              obtain ⟨T2, hh2, X2, e2, W2, st2⟩ := putF X1 hx hZ hown (host := "") (Or.inl wl) Via.refl rfl (F1.ext E1) (P1.ext E1) LL wi (ty := .array u) hu (v := .ref T.heap.size) rfl rfl (g := mkF m (pc + 1 + lp + 2) L [.ref T.heap.size, .ref a]) rfl rfl hdF
              subst e2
              rw [← hS] at X2
              have Pt2 : Part C gds fds arrs Z T2.heap a g (k + 1) := by
                refine ⟨(P1.ext E1).wr W2, fun n' d' hg => ?_, fun n' d' q hq => ?_, fun j ty len hj hq => ?_, by rw [W2.size]; exact hsz1⟩
                · obtain ⟨v', Fg⟩ := P2 n' d' hg
                  obtain ⟨lg, rfl, hne⟩ := M.2.1 n' d' hg
                  exact ⟨v', (Fg.ext E1).other W2 (Or.inr (slot_ne lg ld (hne _ _ _ h4) (t := .int) (by decide) hu))⟩
                · have Fq := P3 n' d' q hq
                  by_cases e' : n' = n
                  · obtain ⟨rfl, rfl⟩ := K.2.2.1 _ _ _ _ _ _ hq h4 e'
                    subst e'
                    rw [if_pos (by omega), if_pos (by omega)]
                    have hsame := (F1.ext E1).same W2
                    have e3 : (3 * k + 2) / 3 + 1 = k + 1 := by omega
                    rw [e3, ← eA]
                    exact hsame
                  · obtain ⟨l2, -, -, -, t2, p2⟩ := K.2.1 _ _ _ hq
                    have ns := slot_ne l2 ld e' p2 hu
                    by_cases q3 : q % 3 = 2
                    · rw [if_pos q3] at Fq ⊢
                      by_cases q4 : q / 3 < k
                      · rw [if_pos q4] at Fq
                        rw [if_pos (by omega)]
                        exact (Fq.ext E1).other W2 (Or.inr ns)
                      · rw [if_neg q4] at Fq
                        have : ¬ q / 3 < k + 1 := fun q5 => by
                          have : q = 3 * k + 2 := by omega
                          subst this
                          exact e' (M.2.2.1 _ _ _ _ _ hq h4)
                        rw [if_neg this]
                        obtain ⟨v', Fq⟩ := Fq
                        exact ⟨v', (Fq.ext E1).other W2 (Or.inr ns)⟩
                    · rw [if_neg q3] at Fq ⊢
                      exact (Fq.ext E1).other W2 (Or.inr ns)
                · by_cases q4 : j < k
                  · obtain ⟨cell, A, z, H⟩ := P4 j ty len q4 hq
                    exact ⟨cell, (A.ext E1).other W2 (ne1 a j), z, H⟩
                  · have : j = k := by omega
                    subst this
                    cases h3.symm.trans hq
                    rw [eA] at A1
                    refine ⟨_, A1.other W2 (ne1 a j), by rw [sz_new, hnat], fun i hi => ?_⟩
                    have := M.2.2.2.2 j _ _ hq
                    simp only [newA, this, hnat]
                    rw [Array.getElem?_replicate, if_pos hi]
              obtain ⟨T', locs', X', Pt', Kp', N', G'⟩ := ih (pc + 1 + lp + 5) (k + 1) iv g T2 _ hin' hp X2 Pt2 ((Kp.ext E1).wr W2 (Or.inl (mem_rng (r := 0) (Nat.zero_le _)))) (N.app fun y hy => by cases List.mem_singleton.mp hy; exact hn)
              exact ⟨T', locs', X', Pt', Kp', N', fun t kt => sA T locs _ _ X t (st1 t (st2 t (G' t kt)))⟩
            · cases hp
          · -- a constant field
            split at hp
            · rename_i idx' hdF
              simp only [Bool.and_eq_true, decide_eq_true_eq] at hp
              obtain ⟨rfl, hp⟩ := hp
              split at hp
              · -- one that is not read
                rename_i hg
                obtain ⟨v0, F1⟩ := P2 n d hg
                obtain ⟨lg, rfl, hne⟩ := M.2.1 n d hg
                have LL : (Cond.lays C C n "I").before a0 Z = true ∨ ((Cond.laysFinal C C n "I").before a0 Z = true ∧ C = C ∧ meth.name = "<init>") := ld.imp id (fun q => ⟨q, rfl, hnm⟩)
                obtain ⟨T2, hh2, X2, e2, W2, st2⟩ := putF X hx hZ hown (host := "") (Or.inl wl) Via.refl rfl F1 P1 LL wi (ty := .int) (by decide) (v := .int (Int32.ofInt v)) rfl rfl (g := mkF m (pc + 1 + lp) L [.int (Int32.ofInt v), .ref a]) rfl rfl hdF
                subst e2
                have Pt2 : Part C gds fds arrs Z T2.heap a g k := by
                  refine ⟨P1.wr W2, fun n' d' hg' => ?_, fun n' d' q hq => ?_, fun j ty len hj hq => ?_, by rw [W2.size]; exact P5⟩
                  · obtain ⟨v', Fg⟩ := P2 n' d' hg'
                    by_cases e' : n' = n
                    · obtain rfl := M.2.2.2.1 _ _ _ _ hg' hg e'
                      subst e'
                      exact ⟨_, Fg.same W2⟩
                    · obtain ⟨lg', rfl, -⟩ := M.2.1 n' d' hg'
                      exact ⟨v', Fg.other W2 (Or.inr (slot_ne lg' lg e' (t := .int) (t' := .int) (by decide) (by decide)))⟩
                  · have Fq := P3 n' d' q hq
                    obtain ⟨l2, -, -, -, t2, p2⟩ := K.2.1 _ _ _ hq
                    have ns := slot_ne l2 lg (Ne.symm (hne _ _ _ hq)) p2 (t' := .int) (by decide)
                    by_cases q3 : q % 3 = 2
                    · rw [if_pos q3] at Fq ⊢
                      by_cases q4 : q / 3 < k
                      · rw [if_pos q4] at Fq ⊢
                        exact Fq.other W2 (Or.inr ns)
                      · rw [if_neg q4] at Fq ⊢
                        obtain ⟨v', Fq⟩ := Fq
                        exact ⟨v', Fq.other W2 (Or.inr ns)⟩
                    · rw [if_neg q3] at Fq ⊢
                      exact Fq.other W2 (Or.inr ns)
                  · obtain ⟨cell, A, z, H⟩ := P4 j ty len hj hq
                    exact ⟨cell, A.other W2 (ne1 a j), z, H⟩
                obtain ⟨T', locs', X', Pt', Kp', N', G'⟩ := ih (pc + 1 + lp + 3) k iv g T2 _ hin' hp X2 Pt2 (Kp.wr W2 (Or.inl (mem_rng (r := 0) (Nat.zero_le _)))) (N.app fun y hy => by cases List.mem_singleton.mp hy; exact hn)
                exact ⟨T', locs', X', Pt', Kp', N', fun t kt => sA T locs _ _ X t (st2 t (G' t kt))⟩
              · -- one that is read
                split at hp
                · rename_i q0 iv
                  obtain ⟨sl0, v1⟩ := q0
                  simp only [Bool.and_eq_true, decide_eq_true_eq] at hp
                  obtain ⟨⟨hm, rfl⟩, hp⟩ := hp
                  have F1 := P3 n d _ hm
                  rw [if_neg (by omega)] at F1
                  obtain ⟨-, kl, kI, -⟩ := K.2.1 n d _ hm
                  obtain rfl := kI (by omega)
                  have e3 : 3 * sl0 / 3 = sl0 := by omega
                  rw [e3] at F1
                  obtain ⟨T2, hh2, X2, e2, W2, st2⟩ := putF X hx hZ hown (host := "") (Or.inl wl) Via.refl rfl F1 P1 (Or.inl (kl (by omega))) wi (ty := .int) (by decide) (v := .int (Int32.ofInt v1)) rfl rfl (g := mkF m (pc + 1 + lp) L [.int (Int32.ofInt v1), .ref a]) rfl rfl hdF
                  subst e2
                  have Pt2 : Part C gds fds arrs Z T2.heap a (fun i => if i = sl0 then Int32.ofInt v1 else g i) k := by
                    refine ⟨P1.wr W2, fun n' d' hg' => ?_, fun n' d' q hq => ?_, fun j ty len hj hq => ?_, by rw [W2.size]; exact P5⟩
                    · obtain ⟨v', Fg⟩ := P2 n' d' hg'
                      obtain ⟨lg', rfl, hne⟩ := M.2.1 n' d' hg'
                      exact ⟨v', Fg.other W2 (Or.inr (slot_ne lg' ld (hne _ _ _ hm) (t := .int) (t' := .int) (by decide) (by decide)))⟩
                    · have Fq := P3 n' d' q hq
                      by_cases e' : n' = n
                      · obtain ⟨rfl, rfl⟩ := K.2.2.1 _ _ _ _ _ _ hq hm e'
                        subst e'
                        rw [if_neg (by omega)] at Fq ⊢
                        rw [e3]
                        dsimp only
                        rw [if_pos rfl]
                        exact Fq.same W2
                      · obtain ⟨l2, -, -, -, t2, p2⟩ := K.2.1 _ _ _ hq
                        have ns := slot_ne l2 ld e' p2 (t' := .int) (by decide)
                        by_cases q3 : q % 3 = 2
                        · rw [if_pos q3] at Fq ⊢
                          split at Fq
                          · rename_i q4; rw [if_pos q4]; exact Fq.other W2 (Or.inr ns)
                          · rename_i q4; rw [if_neg q4]
                            obtain ⟨v', Fq⟩ := Fq
                            exact ⟨v', Fq.other W2 (Or.inr ns)⟩
                        · rw [if_neg q3] at Fq ⊢
                          have : q / 3 ≠ sl0 := fun q5 => K.2.2.2.1 _ _ _ _ _ _ hq hm e' q3 (by omega) (by omega)
                          dsimp only
                          rw [if_neg this]
                          exact Fq.other W2 (Or.inr ns)
                    · obtain ⟨cell, A, z, H⟩ := P4 j ty len hj hq
                      exact ⟨cell, A.other W2 (ne1 a j), z, H⟩
                  obtain ⟨T', locs', X', Pt', Kp', N', G'⟩ := ih (pc + 1 + lp + 3) k iv _ T2 _ hin' hp X2 Pt2 (Kp.wr W2 (Or.inl (mem_rng (r := 0) (Nat.zero_le _)))) (N.app fun y hy => by cases List.mem_singleton.mp hy; exact hn)
                  exact ⟨T', locs', X', Pt', Kp', N', fun t kt => sA T locs _ _ X t (st2 t (G' t kt))⟩
                · cases hp
            · cases hp
        · cases hp
      · cases hp
    · cases hp
end Pro
theorem Part.done(K:ClsOK C fds arrs Tb Z a0)(hcov:∀n d q,(n,d,q)∈fds→q%3=2→q/3<arrs.length){g:Nat→Nat→Int32}{g0:Nat→Int32}(hg0:∀i,g 0 i=g0 i)(hg:∀c i,g (c+1) i=0)(Pt:Part C gds fds arrs Z h a g0 arrs.length):ObjAt C fds arrs Z h a g:=by
 obtain⟨P1,P2,P3,P4,P5⟩:=Pt
 refine⟨P1,fun n d q hq=>?_,fun j ty len hj=>?_⟩
 ·have F:=P3 n d q hq
  by_cases q3:q%3=2
  ·rw[if_pos q3,if_pos (hcov n d q hq q3)] at F
   rw[if_pos q3];exact F
  ·rw[if_neg q3] at F ⊢
   rw[hg0];exact F
 ·obtain⟨cell,A,z,H⟩:=P4 j ty len (List.getElem?_eq_some_iff.mp hj).1 hj
  exact⟨cell,A,z,fun i hi=>by rw[hg];exact H i hi⟩
section Met0
variable {σ:Type} {G:σ→Nat→Nat→Int32} {mi:MI} {rt:Nat→Option FieldType} {l:Launch} {items:List Item} {pe oi:Nat} {iv:List (Nat×Int)}
theorem met0{code:Codes}{mop:Mop σ}{cop:Cop}{n:Nat}(hW:Walks code rt mop cop mi C Z l rho1 (J1 C fds arrs Z G) n)(hpn:plainName C=true)(hcls:(mi 0).1.cls=C)(hnm0:(mi 0).1.name = "<init>")(hrt:rt 0=none)(K:ClsOK C fds arrs Tb Z a0)(M:MakOK C gds fds arrs items Z a0)(hCs:Cst Tb Z a0 C)
  (hcov:∀n d q,(n,d,q)∈fds→q%3=2→q/3<arrs.length) (hp:proChk (mi 0).2.1 Tb (mi 0).2.2.1 gds fds arrs pe items 4 0 iv=true) (d0:decode (mi 0).2.1 0 = .ok (.aload_n 0,1)) (d1:decode (mi 0).2.1 1 = .ok (.invokespecial oi,3))
  (w1:(Cond.methodLink C oi Lib.objectInit).before a0 Z=true) (w2:(Cond.instanceMethod Lib.objectInit).before a0 Z=true) (w3:(Cond.code Lib.objectInit ⟨#[0xb1]⟩ 1 none).before a0 Z=true) (hf:1≤(mi 0).2.2.2.1) (hlw:12≤(mi 0).2.2.2.2)
  {as:List Value} (hok:okn as=true) (hlen:(entL (.ref 0::as)).length≤(mi 0).2.2.1) {S:σ} (hS0:∀i,G S 0 i=finG (fun _=>0) iv i) (hS:∀c i,G S (c+1) i=0) {r:Res σ} (hit:iter (plan code rt mop cop) n (0,pe,entL (.ref 0::as),[],S)=some r) {a:Nat} {h:Heap} {n0:Nat} (Pt:Part C gds fds arrs Z h a (fun _=>0) 0) (hn:n0≤a) (ws:List Jvm.Cond) :
  MetFree l (mi 0).1 (head1 (Cond.code (mi 0).1 (mi 0).2.1 (mi 0).2.2.1 none::ws) ({ frames:=(mi 0).2.2.2.1,cells:=arrs.length,slots:=slotSum arrs arrs.length,locals:=(mi 0).2.2.2.2 }:Room))
   (fun A U=>A=(.ref a::as).toArray∧Z.Warmed39 U.vm∧U.heap=h) (fun _ _ _ _ _=>True)
   (fun _ U o U'=>∃v L,o = .returned v∧(v=none∧Fr n0 L∧Keep h U'.heap (rng arrs a)∧ObjAt C fds arrs Z U'.heap a (G r.2))∧FrameEnd U o U' L arrs.length (slotSum arrs arrs.length)):=by
 refine MetFree.of_bodySF (plainFor_of_name (by rw[hcls];exact hpn)) hisR ?_
 intro p e s m args below meth c s₁ Bd hml0 hP hK
 obtain⟨rfl,hZ,hh⟩:=hP
 have hx:=Bd.exec
 have hby:=Bd.bytes
 have hown:s.vm.findClass C=some m.cls:=by rw[←hcls];exact findClass_of_methodNamed Bd.named
 have hnm:=(name_of_methodNamed Bd.named Bd.method).1
 have X0:=Stand.of_body Bd
 have e0:s₁.heap=h:=by rw[←hh,Bd.state];rfl
 have x:I1:=(a,h,n0,arrs.length,slotSum arrs arrs.length)
 obtain⟨L,q1,q2,q3,q4⟩:=entry_rel (rho1 (a,h,n0,arrs.length,slotSum arrs arrs.length)) (vs:= .ref 0::as) (by simpa [okv] using (okn_spec hok).1) hlen
 have hsz:L.size=c.maxLocals:=by rw[q4,hml0]
 have q2':LocRel (rho1 (a,h,n0,arrs.length,slotSum arrs arrs.length)) (.ref 0::entL as) L:=q2
 obtain⟨T1,X1,e1,st1⟩:=initO X0 hx hZ hown w1 w2 w3 e0 (g:=mkF m 1 L [.ref a]) rfl hsz rfl (hb hby d1) hf (W:=0) (by show 2*0+_≤_;exact Nat.le_of_eq rfl) (by show 0+12≤(mi 0).2.2.2.2;omega)
 obtain⟨T2,locs2,X2,P2,K2,N2,G2⟩:=pro_walk (ρ:=rho1 (a,h,n0,arrs.length,slotSum arrs arrs.length)) (pe:=pe) (h0:=h) (items:=items) K M hx hZ hown hCs (hnm.trans hnm0) hn q2' q3 rfl (by rw[hh];exact Pt.2.2.2.2) (Nat.le_refl _) (Nat.le_refl _) items 4 0 iv (fun _=>0) T1 [] (fun _ h=>h) (by rw[hby,q4];exact hp) X1 (by rw[e1];exact Pt) (by rw[e1];exact Keep.refl _ _) (Fr.nil _)
 obtain⟨T',L',k',n',X',⟨j1,j2,-,-,j5,j6,j7,-⟩,⟨ok1,ok2⟩,st⟩:=hW (a,h,n0,arrs.length,slotSum arrs arrs.length) p e _ s m _ below meth c 0 pe _ [] S r hit T2 locs2 _ _ L X2 ⟨hx,hZ,hown,hby,hml0,by rw[hrt];exact Bd.returns,hnm,Nat.le_refl _,Nat.le_refl _⟩
  ⟨rfl,rfl,Nat.le_refl _,Nat.le_refl _,P2.done K hcov hS0 hS,K2,N2,hn⟩ q2 q3 hsz
 have hr0:r.1=none:=ok1 Bd.returns
 obtain⟨fs,hr,hrun,hended,hWm,hsame⟩:=X'.leave (v:=none) (fun _=>rfl)
 rw[hr0] at st
 refine⟨_,_,?_,hrun,hended,_,_,rfl,⟨rfl,j7,j6,j5⟩,⟨_,rfl⟩,hWm,by subst j1 j2;exact hsame⟩
 rw[show entryFrame m (.ref a::as).toArray (mi 0).2.2.1=mkF m 0 L [] from by rw[←q1 m,List.map_cons,(okn_spec hok).2];rfl]
 refine XS.aloadN X0.here hx rfl (hb hby d0) (q2' 0 (.ref 0) rfl (by simp)) rfl ?_
 exact st1 _ (G2 _ (st fs hr))
end Met0
end Maker
section Ops2
variable {σ:Type}
abbrev W2(σ:Type):=Bool×List σ
def nw(nmax m:Nat)(st:List Value):W2 σ→Option (List Value×W2 σ)
 |(false,ob)=>if m=0∧ob.length<nmax then some (.ref (ob.length+1)::st,(true,ob)) else none
 |_=>none
def ct(f1:Cfg σ→Option (Res σ))(Z0:σ)(pe na0 ml0 w m:Nat)(st:List Value):W2 σ→Option (List Value×W2 σ)
 |(true,ob)=>(match takeA na0 [] st with
  |some (as,.ref r::rest)=>if (m=0∧r=ob.length+1)∧okn as=true∧cats rest≤w∧(entL (.ref 0::as)).length≤ml0 then (f1 (0,pe,entL (.ref 0::as),[],Z0)).map fun q=>(rest,(false,ob++[q.2])) else none
  |_=>none)
 |_=>none
def vt(f1:Cfg σ→Option (Res σ))(na ml:Nat→Nat)(w k:Nat)(st:List Value):W2 σ→Option (List Value×W2 σ)
 |(false,ob)=>(match takeA (na k) [] st with
  |some (as,.ref (o+1)::rest)=>(match ob[o]? with
   |some S=>if okn as=true∧cats rest≤w∧(entL (.ref 0::as)).length≤ml k then (f1 (k,0,entL (.ref 0::as),[],S)).map fun q=>(q.1.toList++rest,(false,ob.set o q.2)) else none
   |none=>none)
  |_=>none)
 |_=>none
def sl(sc:List Int32)(w:W2 σ):List Value→Option (List Value×W2 σ)
 | .int i :: .ref 0::r=>if inb i sc.length=true then some (.int (sc.getD i.toNatClampNeg 0)::r,w) else none
 |_=>none
def sn(sc:List Int32)(w:W2 σ):List Value→Option (List Value×W2 σ)
 | .ref 0::r=>some (.int (Int32.ofNat sc.length)::r,w)
 |_=>none
def mop2(f1:Cfg σ→Option (Res σ))(Z0:σ)(pe nmax:Nat)(na ml wm:Nat→Nat)(sc:Option (List Int32)):Mop (W2 σ):=fun m i st w=>match i with
 | .new _=>nw nmax m st w
 | .invokespecial _=>ct f1 Z0 pe (na 0) (ml 0) (wm m) m st w
 | .invokevirtual k=>vt f1 na ml (wm m) k st w
 | .iaload=>(match sc with
  |some xs=>sl xs w st
  |none=>none)
 | .arraylength=>(match sc with
  |some xs=>sn xs w st
  |none=>none)
 |_=>none
def cop2(na ml wm:Nat→Nat):Cop:=fun m i st=>match i with
 | .invokestatic k=>(match takeA (na k) [] st with
  |some (as,r)=>if k≠0∧okv as=true∧cats r≤wm m∧(entL as).length≤ml k then some (k,as,r) else none
  |none=>none)
 |_=>none
def cnt(K1:Nat)(w:W2 σ):Nat:=w.2.length*K1+(if w.1=true then 1 else 0)
def scn(fs s1:Nat)(w:W2 σ):Nat:=w.2.length*(fs+s1)+(if w.1=true then fs else 0)
end Ops2
section L2
variable {σ:Type} (C:String) (gds:List (String×String)) (fds:List (String×String×Nat)) (arrs:List (FieldType×Nat)) (Z:State) (G:σ→Nat→Nat→Int32) (fs nmax:Nat) (sc:Option (List Int32))
abbrev I2:=Nat×Nat×Nat×Nat
def rho2(K1:Nat)(x:I2):Nat→Nat
 |0=>x.1
 |o+1=>x.2.1+o*K1
def Heap2(sa n0:Nat)(w:W2 σ)(h:Heap):Prop:=
 (∀(o:Nat) (S:σ),w.2[o]? = some S→ObjAt C fds arrs Z h (n0+o*(arrs.length+1)) (G S))∧(w.1=true→Part C gds fds arrs Z h (n0+w.2.length*(arrs.length+1)) (fun _=>0) 0∧w.2.length<nmax)∧h.size=n0+cnt (arrs.length+1) w ∧
 ∀xs,sc=some xs→sa<n0∧xs.length<2147483648∧∃cell,Arr Z h sa cell .int∧cell.slots.size=xs.length∧∀i,i<xs.length→cell.slots[i]? = some (.int (xs.getD i 0))
def J2(x:I2)(R:Room)(s:State)(mm:Nat)(w:W2 σ)(T:State)(locs:List Loc)(cells slots:Nat):Prop:=
 (cells+x.2.2.1=cnt (arrs.length+1) w∧slots+x.2.2.2=scn fs (slotSum arrs arrs.length) w)∧(cells≤R.cells∧slots≤R.slots) ∧
 (mm=0→x.2.2.1=0∧x.2.2.2=0∧nmax*(arrs.length+1)≤R.cells∧nmax*(fs+slotSum arrs arrs.length)≤R.slots)∧(mm≠0→cells=0∧slots=0)∧s.heap.size=x.2.1+x.2.2.1∧Heap2 C gds fds arrs Z G nmax sc x.1 x.2.1 w T.heap∧Fr x.2.1 locs
variable {C gds fds arrs Z G fs nmax sc}
theorem ObjAt.ext{h h':Heap}{a:Nat}{g:Nat→Nat→Int32}(O:ObjAt C fds arrs Z h a g)(E:Ext h h'):ObjAt C fds arrs Z h' a g:=
 ⟨O.1.ext E,fun n d k hm=>(O.2.1 n d k hm).ext E,fun j ty len hj=>by obtain⟨cell,A,r⟩:=O.2.2 j ty len hj;exact⟨cell,A.ext E,r⟩⟩
theorem rng_far{K:List (FieldType×Nat)}{n0 o o' r:Nat}(h:o≠o')(hr:r≤K.length):n0+o*(K.length+1)+r∉rng K (n0+o'*(K.length+1)):=by
 intro q
 obtain⟨r',h1,h2⟩:=List.mem_map.mp q
 have h1:=List.mem_range.mp h1
 rcases Nat.lt_or_gt_of_ne h with c | c
 ·have:=Nat.mul_le_mul_right (K.length+1) (show o+1≤o' from c)
  rw[Nat.add_mul] at this
  omega
 ·have:=Nat.mul_le_mul_right (K.length+1) (show o'+1≤o from c)
  rw[Nat.add_mul] at this
  omega
theorem rng_low{K:List (FieldType×Nat)}{n0 o sa:Nat}(h:sa<n0):sa∉rng K (n0+o*(K.length+1)):=by
 intro q
 obtain⟨r',h1,h2⟩:=List.mem_map.mp q
 omega
variable {Tb1 Tb2:Tabs} {a0:Array Value} {mi1 mi2:MI} {rt1 rt2:Nat→Option FieldType} {l:Launch} {own:String} {na1 na2 wm1 wm2:Nat→Nat} {code1:Codes} {P:σ→Nat→Nat→Int32→σ} {items:List Item} {pe oi:Nat} {Z0:σ} {iv:List (Nat×Int)}
def CtW(Z:State)(a0:Array Value)(Tb2:Tabs)(own:String)(y:MethodName)(bytes:ByteArray)(ml:Nat):Prop:=
 (∀idx q,(idx,q)∈Tb2.2.2.2.2.2.2→(Cond.methodLink own idx y).before a0 Z=true)∧(Cond.instanceMethod y).before a0 Z=true∧(Cond.code y bytes ml none).before a0 Z=true
theorem canon_new{Tb:Tabs}{ml pc k:Nat}{i0:Instr}(h:canon Tb ml pc i0=some (.new k)):∃idx,i0 = .new idx∧(idx,k)∈Tb.2.2.2.2.2.1:=by
 cases i0<;>try (simp[canon,lt,plain1,heapy] at h;done)
 case new idx=>
  obtain⟨k',h1,h2⟩:=Option.map_eq_some_iff.mp h
  cases h2
  exact⟨idx,rfl,lk_mem h1⟩
theorem canon_spec{Tb:Tabs}{ml pc k:Nat}{i0:Instr}(h:canon Tb ml pc i0=some (.invokespecial k)):∃idx,i0 = .invokespecial idx∧(idx,k)∈Tb.2.2.2.2.2.2:=by
 cases i0<;>try (simp[canon,lt,plain1,heapy] at h;done)
 case invokespecial idx=>
  obtain⟨k',h1,h2⟩:=Option.map_eq_some_iff.mp h
  cases h2
  exact⟨idx,rfl,lk_mem h1⟩
theorem canon_stat{Tb:Tabs}{ml pc k:Nat}{i0:Instr}(h:canon Tb ml pc i0=some (.invokestatic k)):∃idx,i0 = .invokestatic idx∧(idx,k)∈Tb.2.2.1:=by
 cases i0<;>try (simp[canon,lt,plain1,heapy] at h;done)
 case invokestatic idx=>
  obtain⟨k',h1,h2⟩:=Option.map_eq_some_iff.mp h
  cases h2
  exact⟨idx,rfl,lk_mem h1⟩
def Base(C:String)(gds:List (String×String))(fds:List (String×String×Nat))(arrs:List (FieldType×Nat))(items:List Item)(Z:State)(a0:Array Value)(fs:Nat)(Tb1:Tabs)(mi1:MI)(rt1:Nat→Option FieldType)(na1:Nat→Nat)(pe oi:Nat)(iv:List (Nat×Int)):Prop:=
 (ClsOK C fds arrs Tb1 Z a0∧MakOK C gds fds arrs items Z a0∧Cst Tb1 Z a0 C∧(Cond.instantiable C fs).before a0 Z=true∧(Cond.initialized C).before a0 Z=true) ∧
 (plainName C=true∧(C ≠ "java/lang/invoke/MethodHandle" ∧ C ≠ "java/lang/invoke/VarHandle")∧(mi1 0).1.cls=C∧(mi1 0).1.name = "<init>" ∧ rt1 0=none) ∧
 (∀n d q,(n,d,q)∈fds→q%3=2→q/3<arrs.length) ∧
 (proChk (mi1 0).2.1 Tb1 (mi1 0).2.2.1 gds fds arrs pe items 4 0 iv=true∧decode (mi1 0).2.1 0 = .ok (.aload_n 0,1)∧decode (mi1 0).2.1 1 = .ok (.invokespecial oi,3)) ∧
 ((Cond.methodLink C oi Lib.objectInit).before a0 Z=true∧(Cond.instanceMethod Lib.objectInit).before a0 Z=true∧(Cond.code Lib.objectInit ⟨#[0xb1]⟩ 1 none).before a0 Z=true) ∧
 (1≤(mi1 0).2.2.2.1∧12≤(mi1 0).2.2.2.2)∧∃ps,parseMethodDescriptor (mi1 0).1.desc=some ⟨ps,none⟩∧ps.length=na1 0
def Room2(mi1 mi2:MI)(wm2:Nat→Nat)(mm k:Nat):Prop:=(mi1 k).2.2.2.1+1≤(mi2 mm).2.2.2.1∧wm2 mm+((mi1 k).2.2.1+11)+(mi1 k).2.2.2.2≤(mi2 mm).2.2.2.2
set_option maxHeartbeats 1000000 in
theorem mop2_ok{code2:Codes}{f1:Cfg σ→Option (Res σ)}(B:Base C gds fds arrs items Z a0 fs Tb1 mi1 rt1 na1 pe oi iv){mop:Mop σ}{cop:Cop}(hW:∀n,Walks code1 rt1 mop cop mi1 C Z l rho1 (J1 C fds arrs Z G) n)(hf1:∀c r,f1 c=some r→∃n,iter (plan code1 rt1 mop cop) n c=some r)(hZ00:∀i,G Z0 0 i=finG (fun _=>0) iv i)(hZ0:∀c i,G Z0 (c+1) i=0)
  (hnew:∀idx q,(idx,q)∈Tb2.2.2.2.2.2.1→(Cond.classLink own idx C).before a0 Z=true) (hct:CtW Z a0 Tb2 own (mi1 0).1 (mi1 0).2.1 (mi1 0).2.2.1) (hvt:∀k idx,(idx,k)∈Tb2.2.1→MthOK C Tb2 Z a0 mi1 rt1 own k na1)
  (hR:∀mm pc k pn kp,code2 mm pc=some (.invokevirtual k,pn,kp)→Room2 mi1 mi2 wm2 mm k) (hR0:∀mm pc k pn kp,code2 mm pc=some (.invokespecial k,pn,kp)→Room2 mi1 mi2 wm2 mm 0) :
  MopOK code2 rt2 (mop2 f1 Z0 pe nmax na1 (fun k=>(mi1 k).2.2.1) wm2 sc) Tb2 mi2 own Z l (rho2 (arrs.length+1)) (J2 C gds fds arrs Z G fs nmax sc):=by
 intro x p e R s m args below meth c mm pc len i0 i st st' w w' T locs cells slots L X F hJ hs hd ho hc hcd hm
 obtain⟨hx,hZ,hown,f4,f5,f6,f7,f8,f9⟩:=F
 obtain⟨⟨j1,j2⟩,⟨j3,j4⟩,j5,j6,j7,⟨H1,H2,H3,H4⟩,N⟩:=hJ
 obtain⟨⟨K,M,hCs,wi,wz⟩,⟨hpn,hC,hcls,hnm0,hrt0⟩,hcov,⟨hp,d0,d1⟩,⟨w1,w2,w3⟩,⟨hfr,hlw⟩,ps0,hps0,hna0⟩:=B
 have hcat:∀(ρ:Nat→Nat) (r0:List Value),((r0.map (cv ρ)).map fun v=>v.category).sum=cats r0:=by
  intro ρ r0
  have:(r0.map (cv ρ)).map (fun v=>v.category)=r0.map fun v=>v.category:=by
   rw[List.map_map];apply List.map_congr_left;intro v _;cases v<;>rfl
  rw[this];rfl
 unfold mop2 at hm
 split at hm
 ·-- new
  rename_i k
  obtain⟨idx,rfl,hmem⟩:=canon_new hc
  obtain rfl:len=3:=by simpa [lenOK,ilen] using ho
  unfold nw at hm
  split at hm
  ·rename_i ob
   split at hm
   ·rename_i hb
    obtain⟨rfl,hlt⟩:=hb
    cases hm
    obtain⟨c0,s0,hRc,hRs⟩:=j5 rfl
    have m1:(ob.length+1)*(arrs.length+1)≤nmax*(arrs.length+1):=Nat.mul_le_mul_right _ hlt
    have m2:(ob.length+1)*(fs+slotSum arrs arrs.length)≤nmax*(fs+slotSum arrs arrs.length):=Nat.mul_le_mul_right _ hlt
    rw[Nat.add_mul] at m1 m2
    simp only[cnt,scn,Bool.false_eq_true,if_false] at j1 j2 H3
    obtain⟨T1,h1,X1,e1,E1,A1,D1,-,st1⟩:=newO X hx hZ hown (hnew _ _ hmem) wi wz rfl (g:=mkF m pc L (st.map (cv (rho2 (arrs.length+1) x)))) rfl hd (by omega) (by omega)
    subst e1
    have hsz1:T1.heap.size=x.2.1+ob.length*(arrs.length+1)+1:=by
     have u:=X1.heapSize
     have lo:T.heap.size<T1.heap.size:=A1.lt
     omega
    have eA:T.heap.size=x.2.1+ob.length*(arrs.length+1):=by omega
    refine⟨T1,locs,_,_,X1,⟨⟨?_,?_⟩,⟨by omega,by omega⟩,j5,fun q=>absurd rfl q,j7,⟨fun o S hS=>(H1 o S hS).ext E1,fun _=>?_,?_,fun xs hxs=>?_⟩,N⟩,fun t kt=>st1 t (by
     show Steps p.tables e below (T1.setTop (mkF m (pc+3) L (.ref T.heap.size::st.map (cv (rho2 (arrs.length+1) x))))) t
     rw[eA];exact kt)⟩
    ·simp only[cnt,if_true];omega
    ·simp only[scn,if_true];omega
    ·refine⟨?_,hlt⟩
     rw[eA] at A1 D1
     refine⟨A1,fun n d hg=>?_,fun n d q hq=>?_,fun j ty ln hj=>absurd hj (Nat.not_lt_zero _),hsz1⟩
     ·obtain⟨lg,rfl,-⟩:=M.2.1 n d hg
      exact⟨_,D1 lg (ty:= .int) (by decide)⟩
     ·obtain⟨l1,-,k3,k4,t1,p1⟩:=K.2.1 n d q hq
      by_cases q3:q%3=2
      ·rw[if_pos q3,if_neg (Nat.not_lt_zero _)]
       exact⟨_,D1 l1 p1⟩
      ·rw[if_neg q3]
       have h01:q%3=0∨q%3=1:=by omega
       rcases h01 with h0 | h1
       ·obtain rfl:=k3 h0
        exact D1 l1 (ty:= .int) (by decide)
       ·obtain rfl:=k4 h1
        exact D1 l1 (ty:= .boolean) (by decide)
    ·simp only[cnt,if_true];omega
    ·obtain⟨a1,a2,cell,A,r⟩:=H4 xs hxs
     exact⟨a1,a2,cell,A.ext E1,r⟩
   ·cases hm
  ·cases hm
 ·-- the maker
  rename_i k
  obtain⟨idx,rfl,hmem⟩:=canon_spec hc
  obtain rfl:len=3:=by simpa [lenOK,ilen] using ho
  unfold ct at hm
  split at hm
  ·rename_i ob
   split at hm
   ·rename_i as r rest ht
    split at hm
    ·rename_i hb
     obtain⟨⟨rfl,rfl⟩,hok,hct',hlen⟩:=hb
     obtain⟨q,hq,hm⟩:=Option.map_eq_some_iff.mp hm
     cases hm
     obtain⟨c0,s0,hRc,hRs⟩:=j5 rfl
     obtain⟨n,hit⟩:=hf1 _ _ hq
     obtain⟨qs,q1,q2,q3⟩:=takeA_spec ht
     have q2':as=qs:=by simpa using q2
     subst q2'
     obtain⟨Pq,hlt⟩:=H2 rfl
     simp only[] at Pq hlt
     have m1:(ob.length+1)*(arrs.length+1)≤nmax*(arrs.length+1):=Nat.mul_le_mul_right _ hlt
     have m2:(ob.length+1)*(fs+slotSum arrs arrs.length)≤nmax*(fs+slotSum arrs arrs.length):=Nat.mul_le_mul_right _ hlt
     rw[Nat.add_mul] at m1 m2
     have hM:=met0 (hW n) hpn hcls hnm0 hrt0 K M hCs hcov hp d0 d1 w1 w2 w3 hfr hlw hok hlen hZ00 hZ0 hit Pq (n0:=x.2.1) (Nat.le_add_right _ _) []
     obtain⟨kp,hcd⟩:=hcd
     have hroom:Room2 mi1 mi2 wm2 0 0:=hR0 _ _ _ _ _ hcd
     have hB:=backOf (W:=wm2 0) (rm:={ frames:=(mi1 0).2.2.2.1,cells:=arrs.length,slots:=slotSum arrs arrs.length,locals:=(mi1 0).2.2.2.2 }) (Q:=fun v h' L=>v=none∧Fr x.2.1 L∧Keep T.heap h' (rng arrs (x.2.1+ob.length*(arrs.length+1)))∧ObjAt C fds arrs Z h' (x.2.1+ob.length*(arrs.length+1)) (G q.2)) hM hZ hct.2.2 (by rw[hcls];exact wz) (Nat.le_trans hroom.1 f8) (Nat.le_trans hroom.2 f9) (R:=R) (p:=p) (e:=e) (below:=below) (s:=s) (args:=args) (len:=3)
     simp only[cnt,scn,if_true] at j1 j2 H3
     obtain⟨v,vm₁,⟨T',L',c',s'⟩,-,X',⟨Lc,⟨hv0,hN,hK,hO⟩,l1,l2,l3⟩,st1⟩:=X.specialBack hx (y:=(mi1 0).1) hnm0 hown (mvT hZ (hct.1 _ _ hmem)) (mvT hZ hct.2.1) (mvT hZ hct.2.2) (by rw[hcls];exact hC) hB (g:=mkF m pc L (st.map (cv (rho2 (arrs.length+1) x)))) rfl hs (Steps.refl _) (a:=x.2.1+ob.length*(arrs.length+1)) (argsL:=as) (rest:=st'.map (cv (rho2 (arrs.length+1) x))) (lenOf hps0 (by omega))
      (by show st.map _=_;rw[q3,List.map_append,List.map_reverse,(okn_spec hok).2];rfl) (by show 2*0+_≤_;rw[hcat];omega) hd (fun vm _=>⟨rfl,rfl,by show cells+arrs.length≤R.cells;omega,by show slots+slotSum arrs arrs.length≤R.slots;omega⟩)
     dsimp only [Pt.U,Pt.locs,Pt.cells,Pt.slots] at X' l1 l2 l3 st1 hN hK hO
     subst l1 l2 l3 hv0
     have hsz1:T'.heap.size=x.2.1+(ob.length+1)*(arrs.length+1):=by
      have u:=X'.heapSize
      have lo:x.2.1+ob.length*(arrs.length+1)+arrs.length<T'.heap.size:=by
       by_cases har:arrs.length=0
       ·have:=hO.1.lt
        rw[har] at this ⊢
        exact this
       ·have hk1:arrs.length-1<arrs.length:=by omega
        obtain⟨⟨ty,ln⟩,hq'⟩:∃q,arrs[arrs.length-1]? = some q:=⟨arrs[arrs.length-1],by simp[hk1]⟩
        obtain⟨cell,A,-⟩:=hO.2.2 _ ty ln hq'
        have lt1:x.2.1+ob.length*(arrs.length+1)+(arrs.length-1+1)<T'.heap.size:=A.lt
        omega
      rw[Nat.add_mul]
      omega
     refine⟨T',_,_,_,X',⟨⟨?_,?_⟩,⟨?_,?_⟩,j5,fun q=>absurd rfl q,j7,⟨fun o S hS=>?_,fun q=>(by cases q),?_,fun xs hxs=>?_⟩,N.app hN⟩,fun t kt=>st1.trans kt⟩
     ·show cells+arrs.length+x.2.2.1=_
      simp only[cnt,List.length_append,List.length_singleton,Bool.false_eq_true,if_false,Nat.add_mul];omega
     ·show slots+slotSum arrs arrs.length+x.2.2.2=_
      simp only[scn,List.length_append,List.length_singleton,Bool.false_eq_true,if_false,Nat.add_mul];omega
     ·show cells+arrs.length≤_;omega
     ·show slots+slotSum arrs arrs.length≤_;omega
     ·simp only[] at hS
      by_cases q:o<ob.length
      ·rw[List.getElem?_append_left q] at hS
       exact (H1 o S hS).keep hK fun r hr=>rng_far (by omega) hr
      ·have:o=ob.length:=by
        have:=(List.getElem?_eq_some_iff.mp hS).1
        simp at this;omega
       subst this
       simp at hS
       subst hS
       exact hO
     ·simp only[cnt,List.length_append,List.length_singleton,Bool.false_eq_true,if_false];exact hsz1
     ·obtain⟨a1,a2,cell,A,r⟩:=H4 xs hxs
      exact⟨a1,a2,cell,⟨hK.2.1 _ _ A.1 (rng_low a1),A.2⟩,r⟩
    ·cases hm
   ·cases hm
  ·cases hm
 ·-- a method of the object
  rename_i k
  obtain⟨idx,rfl,hmem⟩:=canon_inv hc
  obtain rfl:len=3:=by simpa [lenOK,ilen] using ho
  unfold vt at hm
  split at hm
  ·rename_i ob
   split at hm
   ·rename_i as o rest ht
    split at hm
    ·rename_i S hS
     split at hm
     ·rename_i hb
      obtain⟨hok,hct',hlen⟩:=hb
      obtain⟨q,hq,hm⟩:=Option.map_eq_some_iff.mp hm
      cases hm
      obtain⟨n,hit⟩:=hf1 _ _ hq
      obtain⟨qs,q1,q2,q3⟩:=takeA_spec ht
      have q2':as=qs:=by simpa using q2
      subst q2'
      obtain⟨hv,ps,hps,hna⟩:=hvt k idx hmem
      have hv:=hv idx hmem
      have O:=H1 o S hS
      have hM:=met1 (ws:=[]) (hW n) hpn hv.1 hok hlen hit O (n0:=x.2.1) (Nat.le_add_right _ _)
      obtain⟨kp,hcd⟩:=hcd
      have hroom:Room2 mi1 mi2 wm2 mm k:=hR _ _ _ _ _ hcd
      obtain⟨v,T',Lc,X',⟨e1,e0,e2,e3,e4⟩,G'⟩:=callV X hx hZ hown hv wi wz hC hps (as':=as) (by omega) (Q:=fun v h' L=>v=q.1∧(∀ρ',q.1.map (cv ρ')=q.1)∧Fr x.2.1 L∧Keep T.heap h' (rng arrs (x.2.1+o*(arrs.length+1)))∧ObjAt C fds arrs Z h' (x.2.1+o*(arrs.length+1)) (G q.2)) hM rfl O.1 (W:=wm2 mm) (rm:={ frames:=(mi1 k).2.2.2.1,cells:=0,slots:=0,locals:=(mi1 k).2.2.2.2 }) (Nat.le_trans hroom.1 f8) (Nat.le_trans hroom.2 f9) (show cells+0≤R.cells from j3) (show slots+0≤R.slots from j4) hs (rest:=rest.map (cv (rho2 (arrs.length+1) x))) (st:=st.map (cv (rho2 (arrs.length+1) x)))
       (by rw[q3,List.map_append,List.map_reverse,(okn_spec hok).2];rfl) (by rw[hcat];exact hct') hd
      subst e1
      have hol:o<ob.length:=(List.getElem?_eq_some_iff.mp hS).1
      have hsz1:T'.heap.size=T.heap.size:=by
       have u:=X'.heapSize
       have lo:=e3.1
       simp only[Nat.add_zero] at u
       omega
      refine⟨T',_,_,_,X',⟨⟨?_,?_⟩,⟨j3,j4⟩,j5,j6,j7,⟨fun o' S' hS'=>?_,fun q=>(by cases q),?_,fun xs hxs=>?_⟩,N.app e2⟩,?_⟩
      ·simpa [cnt] using j1
      ·simpa [scn] using j2
      ·simp only[] at hS'
       by_cases q':o=o'
       ·subst q'
        rw[List.getElem?_set_self hol] at hS'
        cases hS'
        exact e4
       ·rw[List.getElem?_set_ne q'] at hS'
        exact (H1 o' S' hS').keep e3 fun r hr=>rng_far (Ne.symm q') hr
      ·rw[hsz1,H3];simp[cnt]
      ·obtain⟨a1,a2,cell,A,r⟩:=H4 xs hxs
       exact⟨a1,a2,cell,⟨e3.2.1 _ _ A.1 (rng_low a1),A.2⟩,r⟩
      ·have:(q.1.toList++rest).map (cv (rho2 (arrs.length+1) x))=q.1.toList++rest.map (cv (rho2 (arrs.length+1) x)):=by
        rw[List.map_append]
        congr 1
        have:=e0 (rho2 (arrs.length+1) x)
        cases hr:q.1 with
        |none=>rfl
        |some w=>rw[hr] at this;simpa using this
       rw[this]
       exact G'
     ·cases hm
    ·cases hm
   ·cases hm
  ·cases hm
 ·-- the script's places
  obtain rfl:=canon_heapy rfl hc
  obtain rfl:len=1:=by simpa [lenOK,ilen] using ho
  split at hm
  ·rename_i xs
   unfold sl at hm
   split at hm
   ·rename_i j r
    split at hm
    ·rename_i hb
     cases hm
     obtain⟨a1,a2,cell,A,z,H⟩:=H4 xs rfl
     have hin:=inb_spec hb
     have hv:=H j.toNatClampNeg (Nat.lt_of_not_le fun q=>hin (Or.inr q))
     rw[←z] at hin
     exact⟨T,locs,cells,slots,X,⟨⟨j1,j2⟩,⟨j3,j4⟩,j5,j6,j7,⟨H1,H2,H3,H4⟩,N⟩,fun t kt=>X.iaload hx A.1 (State.isArrayOf_alike hZ.alike A.2.1) A.2.2 hin hv (g:=mkF m pc L (.int j :: .ref x.1::r.map (cv (rho2 (arrs.length+1) x)))) rfl rfl hd t kt⟩
    ·cases hm
   ·cases hm
  ·cases hm
 ·-- the script's length
  obtain rfl:=canon_heapy rfl hc
  obtain rfl:len=1:=by simpa [lenOK,ilen] using ho
  split at hm
  ·rename_i xs
   unfold sn at hm
   split at hm
   ·rename_i r
    cases hm
    obtain⟨a1,a2,cell,A,z,H⟩:=H4 xs rfl
    refine⟨T,locs,cells,slots,X,⟨⟨j1,j2⟩,⟨j3,j4⟩,j5,j6,j7,⟨H1,H2,H3,H4⟩,N⟩,fun t kt=>X.arraylength hx A.1 (State.isArrayOf_alike hZ.alike A.2.1) (g:=mkF m pc L (.ref x.1::r.map (cv (rho2 (arrs.length+1) x)))) rfl rfl hd t ?_⟩
    rw[z]
    exact kt
   ·cases hm
  ·cases hm
 ·cases hm
def StaOK(Tb2:Tabs)(Z:State)(a0:Array Value)(mi2:MI)(rt2:Nat→Option FieldType)(own:String)(na2:Nat→Nat):Prop:=
 ∀idx k,(idx,k)∈Tb2.2.2.1→(mi2 k).1.cls=own∧(Cond.methodLink own idx (mi2 k).1).before a0 Z=true∧(Cond.static (mi2 k).1).before a0 Z=true∧(Cond.initialized own).before a0 Z=true∧(Cond.code (mi2 k).1 (mi2 k).2.1 (mi2 k).2.2.1 (rt2 k)).before a0 Z=true∧∃ps,parseMethodDescriptor (mi2 k).1.desc=some ⟨ps,rt2 k⟩∧ps.length=na2 k
def RoomS(code2:Codes)(mi2:MI)(wm2:Nat→Nat):Prop:=∀mm pc k pn kp,code2 mm pc=some (.invokestatic k,pn,kp)→(mi2 k).2.2.2.1+1≤(mi2 mm).2.2.2.1∧wm2 mm+((mi2 k).2.2.1+11)+(mi2 k).2.2.2.2≤(mi2 mm).2.2.2.2
set_option maxHeartbeats 1000000 in
theorem met2{code2:Codes}{mop:Mop (W2 σ)}{cop:Cop}{n:Nat}(hW:Walks code2 rt2 mop cop mi2 own Z l (rho2 (arrs.length+1)) (J2 C gds fds arrs Z G fs nmax sc) n)(hpn:plainName own=true){k:Nat}(hk:k≠0)(hcls:(mi2 k).1.cls=own){as:List Value}(hok:okv as=true)(hlen:(entL as).length≤(mi2 k).2.2.1)
  {w:W2 σ} {r:Res (W2 σ)} (hit:iter (plan code2 rt2 mop cop) n (k,0,entL as,[],w)=some r) {h:Heap} {sa n0:Nat} (H:Heap2 C gds fds arrs Z G nmax sc sa n0 w h) (ws:List Jvm.Cond) (x:I2) (hx1:x.1=sa) (hx2:x.2.1=n0) :
  MetFree l (mi2 k).1 (head1 (Cond.code (mi2 k).1 (mi2 k).2.1 (mi2 k).2.2.1 (rt2 k)::ws) ({ frames:=(mi2 k).2.2.2.1,cells:=0,slots:=0,locals:=(mi2 k).2.2.2.2 }:Room))
   (fun A U=>A=(as.map (cv (rho2 (arrs.length+1) x))).toArray∧Z.Warmed39 U.vm∧U.heap=h) (fun _ _ _ _ _=>True)
   (fun _ U o U'=>∃v L,o = .returned v∧(v=r.1∧(∀ρ',r.1.map (cv ρ')=r.1)∧Fr n0 L∧Heap2 C gds fds arrs Z G nmax sc sa n0 r.2 U'.heap∧cnt (arrs.length+1) r.2=cnt (arrs.length+1) w∧scn fs (slotSum arrs arrs.length) r.2=scn fs (slotSum arrs arrs.length) w)∧FrameEnd U o U' L 0 0):=by
 refine MetFree.of_bodySF (plainFor_of_name (by rw[hcls];exact hpn)) hisR ?_
 intro p e s m args below meth c s₁ Bd hml0 hP hK
 obtain⟨rfl,hZ,hh⟩:=hP
 subst hx1 hx2
 have hown:s.vm.findClass own=some m.cls:=by rw[←hcls];exact findClass_of_methodNamed Bd.named
 have hnm:=(name_of_methodNamed Bd.named Bd.method).1
 have X0:=Stand.of_body Bd
 have e0:s₁.heap=h:=by rw[←hh,Bd.state];rfl
 have ρe:rho2 (arrs.length+1) (x.1,x.2.1,cnt (arrs.length+1) w,scn fs (slotSum arrs arrs.length) w)=rho2 (arrs.length+1) x:=by
  funext r;cases r<;>rfl
 obtain⟨L,q1,q2,q3,q4⟩:=entry_rel (rho2 (arrs.length+1) x) (vs:=as) hok hlen
 obtain⟨T',L',k',n',X',⟨⟨j1,j2⟩,-,-,j6,j7,jH,jN⟩,⟨ok1,ok2⟩,st⟩:=hW (x.1,x.2.1,cnt (arrs.length+1) w,scn fs (slotSum arrs arrs.length) w) p e _ s m _ below meth c k 0 _ [] w r hit s₁ [] 0 0 L X0 ⟨Bd.exec,hZ,hown,Bd.bytes,hml0,Bd.returns,hnm,Nat.le_refl _,Nat.le_refl _⟩
  ⟨⟨Nat.zero_add _,Nat.zero_add _⟩,⟨Nat.le_refl _,Nat.le_refl _⟩,fun q=>absurd q hk,fun _=>⟨rfl,rfl⟩,by rw[hh];exact H.2.2.1,by rw[e0];exact H,Fr.nil _⟩ (by rw[ρe];exact q2) q3 (by rw[q4,hml0])
 obtain⟨fs',hr,hrun,hended,hWm,hsame⟩:=X'.leave (v:=r.1) ok1
 obtain⟨k0,n00⟩:=j6 hk
 subst k0 n00
 refine⟨_,_,?_,hrun,hended,_,_,rfl,⟨rfl,ok2,jN,jH,by simpa using j1.symm,by simpa using j2.symm⟩,⟨_,rfl⟩,hWm,hsame⟩
 have:=st fs' hr
 rw[q1 m]
 exact this
set_option maxHeartbeats 1000000 in
theorem cop2_ok{code2:Codes}{mop:Mop (W2 σ)}(hpn:plainName own=true)(hC:own ≠ "java/lang/invoke/MethodHandle" ∧ own ≠ "java/lang/invoke/VarHandle")(hS:StaOK Tb2 Z a0 mi2 rt2 own na2)(hR:RoomS code2 mi2 wm2) :
  CopOK code2 rt2 mop (cop2 na2 (fun k=>(mi2 k).2.2.1) wm2) Tb2 mi2 own Z l (rho2 (arrs.length+1)) (J2 C gds fds arrs Z G fs nmax sc):=by
 intro n hW x p e R s m args below meth c mm pc len i0 i st q w r T locs cells slots L X F hJ hs hd ho hc hne hq hit
 obtain⟨hx,hZ,hown,f4,f5,f6,f7,f8,f9⟩:=F
 obtain⟨⟨j1,j2⟩,⟨j3,j4⟩,j5,j6,j7,H,N⟩:=hJ
 unfold cop2 at hq
 split at hq
 ·rename_i k
  split at hq
  ·rename_i as r0 ht
   split at hq
   ·rename_i hb
    cases hq
    obtain⟨hk,hok,hcat',hlen⟩:=hb
    obtain⟨idx,rfl,hmem⟩:=canon_stat hc
    obtain rfl:len=3:=by simpa [lenOK,ilen] using ho
    obtain⟨g1,g2,g3,g4,g5,ps,hps,hna⟩:=hS idx k hmem
    obtain⟨qs,q1,q2,q3⟩:=takeA_spec ht
    have q2':as=qs:=by simpa using q2
    subst q2'
    obtain⟨kp,hcd⟩:=hne
    have hroom:=hR mm pc k _ kp hcd
    have hM:=met2 (hW:=hW) hpn hk g1 hok hlen hit H [] x rfl rfl
    have hB:=backOf (W:=wm2 mm) (rm:={ frames:=(mi2 k).2.2.2.1,cells:=0,slots:=0,locals:=(mi2 k).2.2.2.2 }) (Q:=fun v h' L=>v=r.1∧(∀ρ',r.1.map (cv ρ')=r.1)∧Fr x.2.1 L∧Heap2 C gds fds arrs Z G nmax sc x.1 x.2.1 r.2 h'∧cnt (arrs.length+1) r.2=cnt (arrs.length+1) w∧scn fs (slotSum arrs arrs.length) r.2=scn fs (slotSum arrs arrs.length) w) hM hZ g5 (by rw[g1];exact g4) (Nat.le_trans hroom.1 f8) (Nat.le_trans hroom.2 f9) (R:=R) (p:=p) (e:=e) (below:=below) (s:=s) (args:=args) (len:=3)
    have hcat:((r0.map (cv (rho2 (arrs.length+1) x))).map fun v=>v.category).sum=cats r0:=by
     have:(r0.map (cv (rho2 (arrs.length+1) x))).map (fun v=>v.category)=r0.map fun v=>v.category:=by
      rw[List.map_map];apply List.map_congr_left;intro v _;cases v<;>rfl
     rw[this];rfl
    obtain⟨v,vm₁,⟨T',L',c',s'⟩,-,X',⟨Lc,⟨hv0,ok2,hN,hH,z1,z2⟩,l1,l2,l3⟩,st1⟩:=Jvm.LawKit.callS X hx (y:=(mi2 k).1) hown (mvT hZ g2) (mvT hZ g3) (by rw[g1];exact mvT hZ g4) (mvT hZ g5) (by rw[g1];exact hC) hB (g:=mkF m pc L (st.map (cv (rho2 (arrs.length+1) x)))) rfl hs (argsL:=as.map (cv (rho2 (arrs.length+1) x))) (rest:=r0.map (cv (rho2 (arrs.length+1) x))) (lenOf hps (by simp;omega))
     (by show st.map _=_;rw[q3,List.map_append,List.map_reverse]) (by show 2*0+_≤_;rw[hcat];omega) hd (fun vm _=>⟨rfl,rfl,by simpa using j3,by simpa using j4⟩)
    dsimp only [Pt.U,Pt.locs,Pt.cells,Pt.slots] at X' l1 l2 l3 st1 hN hH
    subst l1 l2 l3 hv0
    refine⟨T',_,_,_,X',⟨⟨by rw[z1];exact j1,by rw[z2];exact j2⟩,⟨j3,j4⟩,j5,j6,j7,hH,N.app hN⟩,?_⟩
    have:(r.1.toList++r0).map (cv (rho2 (arrs.length+1) x))=r.1.toList++r0.map (cv (rho2 (arrs.length+1) x)):=by
     rw[List.map_append]
     congr 1
     have:=ok2 (rho2 (arrs.length+1) x)
     cases hr:r.1 with
     |none=>rfl
     |some w=>rw[hr] at this;simpa using this
    rw[this]
    exact fun t kt=>st1 t kt
   ·cases hq
  ·cases hq
 ·cases hq
end L2
theorem ite2{β:Type}{p:Prop}[Decidable p]{a b a' b':β}(h1:a=a')(h2:b=b'):(if p then a else b)=if p then a' else b':=by rw[h1,h2]
theorem iteH{β:Type}{p:Prop}[Decidable p]{a b a':β}(h1:p→a=a'):(if p then a else b)=if p then a' else b:=by
 by_cases h:p
 ·rw[if_pos h,if_pos h,h1 h]
 ·rw[if_neg h,if_neg h]
namespace F
variable {τ:Type} {code:Codes} {rt:Nat→Option FieldType} {mop:Mop τ} {cop:Cop} {f:Cfg τ→Option (Res τ)} {m pc pn:Nat} {kp:Option Nat} {ls st:List Value} {S:τ}
theorem head(hf:∀c,f c=run (plan code rt mop cop) f c){i:Instr}{k:Nat}(h:code m pc=some (i,pn,some k)):f (m,pc,ls,st,S)=f (m,pc,ls.take k,st,S):=by
 rw[hf,hf (m,pc,ls.take k,st,S)]
 simp only[run,plan,h,tk,List.take_take,Nat.min_self]
theorem iadd(hf:∀c,f c=run (plan code rt mop cop) f c){x y:Int32}(h:code m pc=some (.iadd,pn,kp))(hk:tk kp ls=ls):f (m,pc,ls,.int y :: .int x::st,S)=f (m,pn,ls,.int (x+y)::st,S):=by
 rw[hf]
 simp only[run,plan,h,hk,rest,retV,loc,alu,ii,iz,ll,lz,li,lc,i1,l1,pop1,dup1,dup2',Option.map_some]
theorem isub(hf:∀c,f c=run (plan code rt mop cop) f c){x y:Int32}(h:code m pc=some (.isub,pn,kp))(hk:tk kp ls=ls):f (m,pc,ls,.int y :: .int x::st,S)=f (m,pn,ls,.int (x-y)::st,S):=by
 rw[hf]
 simp only[run,plan,h,hk,rest,retV,loc,alu,ii,iz,ll,lz,li,lc,i1,l1,pop1,dup1,dup2',Option.map_some]
theorem imul(hf:∀c,f c=run (plan code rt mop cop) f c){x y:Int32}(h:code m pc=some (.imul,pn,kp))(hk:tk kp ls=ls):f (m,pc,ls,.int y :: .int x::st,S)=f (m,pn,ls,.int (x*y)::st,S):=by
 rw[hf]
 simp only[run,plan,h,hk,rest,retV,loc,alu,ii,iz,ll,lz,li,lc,i1,l1,pop1,dup1,dup2',Option.map_some]
theorem iand(hf:∀c,f c=run (plan code rt mop cop) f c){x y:Int32}(h:code m pc=some (.iand,pn,kp))(hk:tk kp ls=ls):f (m,pc,ls,.int y :: .int x::st,S)=f (m,pn,ls,.int (x&&&y)::st,S):=by
 rw[hf]
 simp only[run,plan,h,hk,rest,retV,loc,alu,ii,iz,ll,lz,li,lc,i1,l1,pop1,dup1,dup2',Option.map_some]
theorem ior(hf:∀c,f c=run (plan code rt mop cop) f c){x y:Int32}(h:code m pc=some (.ior,pn,kp))(hk:tk kp ls=ls):f (m,pc,ls,.int y :: .int x::st,S)=f (m,pn,ls,.int (x|||y)::st,S):=by
 rw[hf]
 simp only[run,plan,h,hk,rest,retV,loc,alu,ii,iz,ll,lz,li,lc,i1,l1,pop1,dup1,dup2',Option.map_some]
theorem ixor(hf:∀c,f c=run (plan code rt mop cop) f c){x y:Int32}(h:code m pc=some (.ixor,pn,kp))(hk:tk kp ls=ls):f (m,pc,ls,.int y :: .int x::st,S)=f (m,pn,ls,.int (x^^^y)::st,S):=by
 rw[hf]
 simp only[run,plan,h,hk,rest,retV,loc,alu,ii,iz,ll,lz,li,lc,i1,l1,pop1,dup1,dup2',Option.map_some]
theorem ishl(hf:∀c,f c=run (plan code rt mop cop) f c){x y:Int32}(h:code m pc=some (.ishl,pn,kp))(hk:tk kp ls=ls):f (m,pc,ls,.int y :: .int x::st,S)=f (m,pn,ls,.int (x<<<(y&&&31))::st,S):=by
 rw[hf]
 simp only[run,plan,h,hk,rest,retV,loc,alu,ii,iz,ll,lz,li,lc,i1,l1,pop1,dup1,dup2',Option.map_some]
theorem ishr(hf:∀c,f c=run (plan code rt mop cop) f c){x y:Int32}(h:code m pc=some (.ishr,pn,kp))(hk:tk kp ls=ls):f (m,pc,ls,.int y :: .int x::st,S)=f (m,pn,ls,.int (x>>>(y&&&31))::st,S):=by
 rw[hf]
 simp only[run,plan,h,hk,rest,retV,loc,alu,ii,iz,ll,lz,li,lc,i1,l1,pop1,dup1,dup2',Option.map_some]
theorem iushr(hf:∀c,f c=run (plan code rt mop cop) f c){x y:Int32}(h:code m pc=some (.iushr,pn,kp))(hk:tk kp ls=ls):f (m,pc,ls,.int y :: .int x::st,S)=f (m,pn,ls,.int (XT.ushr x y)::st,S):=by
 rw[hf]
 simp only[run,plan,h,hk,rest,retV,loc,alu,ii,iz,ll,lz,li,lc,i1,l1,pop1,dup1,dup2',Option.map_some]
theorem idiv(hf:∀c,f c=run (plan code rt mop cop) f c){x y:Int32}(h:code m pc=some (.idiv,pn,kp))(hk:tk kp ls=ls)(hy:y≠0):f (m,pc,ls,.int y :: .int x::st,S)=f (m,pn,ls,.int (x/y)::st,S):=by
 rw[hf]
 simp only[run,plan,h,hk,rest,retV,loc,alu,ii,iz,ll,lz,li,lc,i1,l1,pop1,dup1,dup2',Option.map_some,hy,if_false]
theorem irem(hf:∀c,f c=run (plan code rt mop cop) f c){x y:Int32}(h:code m pc=some (.irem,pn,kp))(hk:tk kp ls=ls)(hy:y≠0):f (m,pc,ls,.int y :: .int x::st,S)=f (m,pn,ls,.int (x%y)::st,S):=by
 rw[hf]
 simp only[run,plan,h,hk,rest,retV,loc,alu,ii,iz,ll,lz,li,lc,i1,l1,pop1,dup1,dup2',Option.map_some,hy,if_false]
theorem lrem(hf:∀c,f c=run (plan code rt mop cop) f c){x y:Int64}(h:code m pc=some (.lrem,pn,kp))(hk:tk kp ls=ls)(hy:y≠0):f (m,pc,ls,.long y :: .long x::st,S)=f (m,pn,ls,.long (x%y)::st,S):=by
 rw[hf]
 simp only[run,plan,h,hk,rest,retV,loc,alu,ii,iz,ll,lz,li,lc,i1,l1,pop1,dup1,dup2',Option.map_some,hy,if_false]
theorem ladd(hf:∀c,f c=run (plan code rt mop cop) f c){x y:Int64}(h:code m pc=some (.ladd,pn,kp))(hk:tk kp ls=ls):f (m,pc,ls,.long y :: .long x::st,S)=f (m,pn,ls,.long (x+y)::st,S):=by
 rw[hf]
 simp only[run,plan,h,hk,rest,retV,loc,alu,ii,iz,ll,lz,li,lc,i1,l1,pop1,dup1,dup2',Option.map_some]
theorem lsub(hf:∀c,f c=run (plan code rt mop cop) f c){x y:Int64}(h:code m pc=some (.lsub,pn,kp))(hk:tk kp ls=ls):f (m,pc,ls,.long y :: .long x::st,S)=f (m,pn,ls,.long (x-y)::st,S):=by
 rw[hf]
 simp only[run,plan,h,hk,rest,retV,loc,alu,ii,iz,ll,lz,li,lc,i1,l1,pop1,dup1,dup2',Option.map_some]
theorem lmul(hf:∀c,f c=run (plan code rt mop cop) f c){x y:Int64}(h:code m pc=some (.lmul,pn,kp))(hk:tk kp ls=ls):f (m,pc,ls,.long y :: .long x::st,S)=f (m,pn,ls,.long (x*y)::st,S):=by
 rw[hf]
 simp only[run,plan,h,hk,rest,retV,loc,alu,ii,iz,ll,lz,li,lc,i1,l1,pop1,dup1,dup2',Option.map_some]
theorem land(hf:∀c,f c=run (plan code rt mop cop) f c){x y:Int64}(h:code m pc=some (.land,pn,kp))(hk:tk kp ls=ls):f (m,pc,ls,.long y :: .long x::st,S)=f (m,pn,ls,.long (x&&&y)::st,S):=by
 rw[hf]
 simp only[run,plan,h,hk,rest,retV,loc,alu,ii,iz,ll,lz,li,lc,i1,l1,pop1,dup1,dup2',Option.map_some]
theorem lor(hf:∀c,f c=run (plan code rt mop cop) f c){x y:Int64}(h:code m pc=some (.lor,pn,kp))(hk:tk kp ls=ls):f (m,pc,ls,.long y :: .long x::st,S)=f (m,pn,ls,.long (x|||y)::st,S):=by
 rw[hf]
 simp only[run,plan,h,hk,rest,retV,loc,alu,ii,iz,ll,lz,li,lc,i1,l1,pop1,dup1,dup2',Option.map_some]
theorem lxor(hf:∀c,f c=run (plan code rt mop cop) f c){x y:Int64}(h:code m pc=some (.lxor,pn,kp))(hk:tk kp ls=ls):f (m,pc,ls,.long y :: .long x::st,S)=f (m,pn,ls,.long (x^^^y)::st,S):=by
 rw[hf]
 simp only[run,plan,h,hk,rest,retV,loc,alu,ii,iz,ll,lz,li,lc,i1,l1,pop1,dup1,dup2',Option.map_some]
theorem lshl(hf:∀c,f c=run (plan code rt mop cop) f c){x:Int64}{y:Int32}(h:code m pc=some (.lshl,pn,kp))(hk:tk kp ls=ls):f (m,pc,ls,.int y :: .long x::st,S)=f (m,pn,ls,.long (x<<<(y.toInt64&&&63))::st,S):=by
 rw[hf]
 simp only[run,plan,h,hk,rest,retV,loc,alu,ii,iz,ll,lz,li,lc,i1,l1,pop1,dup1,dup2',Option.map_some]
theorem lushr(hf:∀c,f c=run (plan code rt mop cop) f c){x:Int64}{y:Int32}(h:code m pc=some (.lushr,pn,kp))(hk:tk kp ls=ls):f (m,pc,ls,.int y :: .long x::st,S)=f (m,pn,ls,.long (XT.ushrL x y)::st,S):=by
 rw[hf]
 simp only[run,plan,h,hk,rest,retV,loc,alu,ii,iz,ll,lz,li,lc,i1,l1,pop1,dup1,dup2',Option.map_some]
theorem lcmp(hf:∀c,f c=run (plan code rt mop cop) f c){x y:Int64}(h:code m pc=some (.lcmp,pn,kp))(hk:tk kp ls=ls):f (m,pc,ls,.long y :: .long x::st,S)=f (m,pn,ls,.int (XT.cmpL x y)::st,S):=by
 rw[hf]
 simp only[run,plan,h,hk,rest,retV,loc,alu,ii,iz,ll,lz,li,lc,i1,l1,pop1,dup1,dup2',Option.map_some]
theorem ineg(hf:∀c,f c=run (plan code rt mop cop) f c){x:Int32}(h:code m pc=some (.ineg,pn,kp))(hk:tk kp ls=ls):f (m,pc,ls,.int x::st,S)=f (m,pn,ls,.int (-x)::st,S):=by
 rw[hf]
 simp only[run,plan,h,hk,rest,retV,loc,alu,ii,iz,ll,lz,li,lc,i1,l1,pop1,dup1,dup2',Option.map_some]
theorem i2l(hf:∀c,f c=run (plan code rt mop cop) f c){x:Int32}(h:code m pc=some (.i2l,pn,kp))(hk:tk kp ls=ls):f (m,pc,ls,.int x::st,S)=f (m,pn,ls,.long x.toInt64::st,S):=by
 rw[hf]
 simp only[run,plan,h,hk,rest,retV,loc,alu,ii,iz,ll,lz,li,lc,i1,l1,pop1,dup1,dup2',Option.map_some]
theorem l2i(hf:∀c,f c=run (plan code rt mop cop) f c){x:Int64}(h:code m pc=some (.l2i,pn,kp))(hk:tk kp ls=ls):f (m,pc,ls,.long x::st,S)=f (m,pn,ls,.int x.toInt32::st,S):=by
 rw[hf]
 simp only[run,plan,h,hk,rest,retV,loc,alu,ii,iz,ll,lz,li,lc,i1,l1,pop1,dup1,dup2',Option.map_some]
theorem i2b(hf:∀c,f c=run (plan code rt mop cop) f c){x:Int32}(h:code m pc=some (.i2b,pn,kp))(hk:tk kp ls=ls):f (m,pc,ls,.int x::st,S)=f (m,pn,ls,.int x.toInt8.toInt32::st,S):=by
 rw[hf]
 simp only[run,plan,h,hk,rest,retV,loc,alu,ii,iz,ll,lz,li,lc,i1,l1,pop1,dup1,dup2',Option.map_some]
theorem popI(hf:∀c,f c=run (plan code rt mop cop) f c){x:Int32}(h:code m pc=some (.pop,pn,kp))(hk:tk kp ls=ls):f (m,pc,ls,.int x::st,S)=f (m,pn,ls,st,S):=by
 rw[hf]
 simp only[run,plan,h,hk,rest,retV,loc,alu,ii,iz,ll,lz,li,lc,i1,l1,pop1,dup1,dup2',Option.map_some]
theorem dupA(hf:∀c,f c=run (plan code rt mop cop) f c){x:Nat}(h:code m pc=some (.dup,pn,kp))(hk:tk kp ls=ls):f (m,pc,ls,.ref x::st,S)=f (m,pn,ls,.ref x :: .ref x::st,S):=by
 rw[hf]
 simp only[run,plan,h,hk,rest,retV,loc,alu,ii,iz,ll,lz,li,lc,i1,l1,pop1,dup1,dup2',Option.map_some]
theorem iconst(hf:∀c,f c=run (plan code rt mop cop) f c){i:Int}{v:Int32}(h:code m pc=some (.iconst i,pn,kp))(hk:tk kp ls=ls)(hv:Int32.ofInt i=v):f (m,pc,ls,st,S)=f (m,pn,ls,.int v::st,S):=by
 rw[hf]
 simp only[run,plan,h,hk,rest,retV,loc,alu,ii,iz,ll,lz,li,lc,i1,l1,pop1,dup1,dup2',Option.map_some,hv]
theorem lconst(hf:∀c,f c=run (plan code rt mop cop) f c){i:Fin 2}{v:Int64}(h:code m pc=some (.lconst i,pn,kp))(hk:tk kp ls=ls)(hv:Int64.ofNat i=v):f (m,pc,ls,st,S)=f (m,pn,ls,.long v::st,S):=by
 rw[hf]
 simp only[run,plan,h,hk,rest,retV,loc,alu,ii,iz,ll,lz,li,lc,i1,l1,pop1,dup1,dup2',Option.map_some,hv]
theorem ldcJ(hf:∀c,f c=run (plan code rt mop cop) f c){i:Nat}{v:Int64}(h:code m pc=some (.ldc2_w i,pn,kp))(hk:tk kp ls=ls)(hv:Int64.ofNat i=v):f (m,pc,ls,st,S)=f (m,pn,ls,.long v::st,S):=by
 rw[hf]
 simp only[run,plan,h,hk,rest,retV,loc,alu,ii,iz,ll,lz,li,lc,i1,l1,pop1,dup1,dup2',Option.map_some,hv]
theorem iload(hf:∀c,f c=run (plan code rt mop cop) f c){k:Nat}{v:Int32}(h:code m pc=some (.iload k,pn,kp))(hk:tk kp ls=ls)(hl:ls[k]? = some (.int v)):f (m,pc,ls,st,S)=f (m,pn,ls,.int v::st,S):=by
 rw[hf]
 simp only[run,plan,h,hk,rest,retV,loc,ldI,ldA,ldL,stI',stA',stL',incI,Option.map_some,hl]
theorem aload(hf:∀c,f c=run (plan code rt mop cop) f c){k v:Nat}(h:code m pc=some (.aload k,pn,kp))(hk:tk kp ls=ls)(hl:ls[k]? = some (.ref v)):f (m,pc,ls,st,S)=f (m,pn,ls,.ref v::st,S):=by
 rw[hf]
 simp only[run,plan,h,hk,rest,retV,loc,ldI,ldA,ldL,stI',stA',stL',incI,Option.map_some,hl]
theorem lload(hf:∀c,f c=run (plan code rt mop cop) f c){k:Nat}{v:Int64}(h:code m pc=some (.lload k,pn,kp))(hk:tk kp ls=ls)(hl:ls[k]? = some (.long v)):f (m,pc,ls,st,S)=f (m,pn,ls,.long v::st,S):=by
 rw[hf]
 simp only[run,plan,h,hk,rest,retV,loc,ldI,ldA,ldL,stI',stA',stL',incI,Option.map_some,hl]
theorem istore(hf:∀c,f c=run (plan code rt mop cop) f c){k:Nat}{v:Int32}{l:List Value}(h:code m pc=some (.istore k,pn,kp))(hk:tk kp ls=ls)(hl:st1 ls k (.int v)=l):f (m,pc,ls,.int v::st,S)=f (m,pn,l,st,S):=by
 rw[hf]
 simp only[run,plan,h,hk,rest,retV,loc,ldI,ldA,ldL,stI',stA',stL',incI,Option.map_some,hl]
theorem astore(hf:∀c,f c=run (plan code rt mop cop) f c){k v:Nat}{l:List Value}(h:code m pc=some (.astore k,pn,kp))(hk:tk kp ls=ls)(hl:st1 ls k (.ref v)=l):f (m,pc,ls,.ref v::st,S)=f (m,pn,l,st,S):=by
 rw[hf]
 simp only[run,plan,h,hk,rest,retV,loc,ldI,ldA,ldL,stI',stA',stL',incI,Option.map_some,hl]
theorem lstore(hf:∀c,f c=run (plan code rt mop cop) f c){k:Nat}{v:Int64}{l:List Value}(h:code m pc=some (.lstore k,pn,kp))(hk:tk kp ls=ls)(hl:st2 ls k (.long v)=l):f (m,pc,ls,.long v::st,S)=f (m,pn,l,st,S):=by
 rw[hf]
 simp only[run,plan,h,hk,rest,retV,loc,ldI,ldA,ldL,stI',stA',stL',incI,Option.map_some,hl]
theorem iinc(hf:∀c,f c=run (plan code rt mop cop) f c){k:Nat}{c:Int}{v v':Int32}{l:List Value}(h:code m pc=some (.iinc k c,pn,kp))(hk:tk kp ls=ls)(hv:Int32.ofInt c=v')(hl0:ls[k]? = some (.int v))(hl:st1 ls k (.int (v+v'))=l):f (m,pc,ls,st,S)=f (m,pn,l,st,S):=by
 rw[hf]
 simp only[run,plan,h,hk,rest,retV,loc,ldI,ldA,ldL,stI',stA',stL',incI,Option.map_some,hl0,hv,hl]
theorem goto(hf:∀c,f c=run (plan code rt mop cop) f c){t:Nat}(h:code m pc=some (.goto (Int.ofNat t),pn,kp))(hk:tk kp ls=ls):f (m,pc,ls,st,S)=f (m,t,ls,st,S):=by
 rw[hf]
 simp only[run,plan,h,hk,Int.ofNat_eq_natCast,Int.toNat_natCast]
theorem ifeq(hf:∀c,f c=run (plan code rt mop cop) f c){t:Nat}{x:Int32}(h:code m pc=some (.ifCond .eq (Int.ofNat t),pn,kp))(hk:tk kp ls=ls):f (m,pc,ls,.int x::st,S)=if x=0 then f (m,t,ls,st,S) else f (m,pn,ls,st,S):=by
 rw[hf]
 simp only[run,plan,h,hk,pl1,Int.ofNat_eq_natCast,Int.toNat_natCast]
 exact cnd_map f _ _ _ _ _
theorem iceq(hf:∀c,f c=run (plan code rt mop cop) f c){t:Nat}{x y:Int32}(h:code m pc=some (.if_icmp .eq (Int.ofNat t),pn,kp))(hk:tk kp ls=ls):f (m,pc,ls,.int y :: .int x::st,S)=if x=y then f (m,t,ls,st,S) else f (m,pn,ls,st,S):=by
 rw[hf]
 simp only[run,plan,h,hk,pl2,Int.ofNat_eq_natCast,Int.toNat_natCast]
 exact cnd_map f _ _ _ _ _
theorem ifne(hf:∀c,f c=run (plan code rt mop cop) f c){t:Nat}{x:Int32}(h:code m pc=some (.ifCond .ne (Int.ofNat t),pn,kp))(hk:tk kp ls=ls):f (m,pc,ls,.int x::st,S)=if x=0 then f (m,pn,ls,st,S) else f (m,t,ls,st,S):=by
 rw[hf]
 simp only[run,plan,h,hk,pl1,Int.ofNat_eq_natCast,Int.toNat_natCast]
 exact cnd_map f _ _ _ _ _
theorem icne(hf:∀c,f c=run (plan code rt mop cop) f c){t:Nat}{x y:Int32}(h:code m pc=some (.if_icmp .ne (Int.ofNat t),pn,kp))(hk:tk kp ls=ls):f (m,pc,ls,.int y :: .int x::st,S)=if x=y then f (m,pn,ls,st,S) else f (m,t,ls,st,S):=by
 rw[hf]
 simp only[run,plan,h,hk,pl2,Int.ofNat_eq_natCast,Int.toNat_natCast]
 exact cnd_map f _ _ _ _ _
theorem iflt(hf:∀c,f c=run (plan code rt mop cop) f c){t:Nat}{x:Int32}(h:code m pc=some (.ifCond .lt (Int.ofNat t),pn,kp))(hk:tk kp ls=ls):f (m,pc,ls,.int x::st,S)=if x<0 then f (m,t,ls,st,S) else f (m,pn,ls,st,S):=by
 rw[hf]
 simp only[run,plan,h,hk,pl1,Int.ofNat_eq_natCast,Int.toNat_natCast]
 exact cnd_map f _ _ _ _ _
theorem iclt(hf:∀c,f c=run (plan code rt mop cop) f c){t:Nat}{x y:Int32}(h:code m pc=some (.if_icmp .lt (Int.ofNat t),pn,kp))(hk:tk kp ls=ls):f (m,pc,ls,.int y :: .int x::st,S)=if x<y then f (m,t,ls,st,S) else f (m,pn,ls,st,S):=by
 rw[hf]
 simp only[run,plan,h,hk,pl2,Int.ofNat_eq_natCast,Int.toNat_natCast]
 exact cnd_map f _ _ _ _ _
theorem ifge(hf:∀c,f c=run (plan code rt mop cop) f c){t:Nat}{x:Int32}(h:code m pc=some (.ifCond .ge (Int.ofNat t),pn,kp))(hk:tk kp ls=ls):f (m,pc,ls,.int x::st,S)=if x<0 then f (m,pn,ls,st,S) else f (m,t,ls,st,S):=by
 rw[hf]
 simp only[run,plan,h,hk,pl1,Int.ofNat_eq_natCast,Int.toNat_natCast]
 exact cnd_map f _ _ _ _ _
theorem icge(hf:∀c,f c=run (plan code rt mop cop) f c){t:Nat}{x y:Int32}(h:code m pc=some (.if_icmp .ge (Int.ofNat t),pn,kp))(hk:tk kp ls=ls):f (m,pc,ls,.int y :: .int x::st,S)=if x<y then f (m,pn,ls,st,S) else f (m,t,ls,st,S):=by
 rw[hf]
 simp only[run,plan,h,hk,pl2,Int.ofNat_eq_natCast,Int.toNat_natCast]
 exact cnd_map f _ _ _ _ _
theorem ifle(hf:∀c,f c=run (plan code rt mop cop) f c){t:Nat}{x:Int32}(h:code m pc=some (.ifCond .le (Int.ofNat t),pn,kp))(hk:tk kp ls=ls):f (m,pc,ls,.int x::st,S)=if 0<x then f (m,pn,ls,st,S) else f (m,t,ls,st,S):=by
 rw[hf]
 simp only[run,plan,h,hk,pl1,Int.ofNat_eq_natCast,Int.toNat_natCast]
 exact cnd_map f _ _ _ _ _
theorem icle(hf:∀c,f c=run (plan code rt mop cop) f c){t:Nat}{x y:Int32}(h:code m pc=some (.if_icmp .le (Int.ofNat t),pn,kp))(hk:tk kp ls=ls):f (m,pc,ls,.int y :: .int x::st,S)=if y<x then f (m,pn,ls,st,S) else f (m,t,ls,st,S):=by
 rw[hf]
 simp only[run,plan,h,hk,pl2,Int.ofNat_eq_natCast,Int.toNat_natCast]
 exact cnd_map f _ _ _ _ _
theorem retn(hf:∀c,f c=run (plan code rt mop cop) f c)(h:code m pc=some (.return_,pn,kp))(hr:rt m=none):f (m,pc,ls,[],S)=some (none,S):=by
 rw[hf]
 simp only[run,plan,h,rest,retV,hr]
theorem reti(hf:∀c,f c=run (plan code rt mop cop) f c){v:Int32}(h:code m pc=some (.ireturn,pn,kp))(hr:rt m=some .int):f (m,pc,ls,[.int v],S)=some (some (.int v),S):=by
 rw[hf]
 simp only[run,plan,h,rest,retV,hr]
theorem retb(hf:∀c,f c=run (plan code rt mop cop) f c){v:Int32}(h:code m pc=some (.ireturn,pn,kp))(hr:rt m=some .boolean):f (m,pc,ls,[.int v],S)=some (some (.int (v&&&1)),S):=by
 rw[hf]
 simp only[run,plan,h,rest,retV,hr]
end F
abbrev MS:=Nat→Nat→Int32
abbrev FT1:=Cfg MS→Option (Res MS)
abbrev FT2:=Cfg (Bool×List MS)→Option (Res (Bool×List MS))
def upd(S:MS)(c i:Nat)(v:Int32):MS:=fun c' i'=>if c'=c∧i'=i then v else S c' i'
abbrev gS:MS→Nat→Nat→Int32:=fun S c i=>S c i
theorem upd_law(S:MS)(c i:Nat)(v:Int32)(c' i':Nat):gS (upd S c i v) c' i'=if c'=c∧i'=i then v else gS S c' i':=rfl
namespace F
variable {code:Codes} {rt:Nat→Option FieldType} {arrs:List (FieldType×Nat)} {na ml wm:Nat→Nat} {f:Cfg MS→Option (Res MS)} {m pc pn:Nat} {kp:Option Nat} {ls st:List Value} {S:MS}
theorem getI(hf:∀c,f c=run (plan code rt (mop1 arrs gS upd) (cop1 na ml wm)) f c){s k:Nat}(h:code m pc=some (.getfield k,pn,kp))(hk:tk kp ls=ls)(h3:k%3≠2)(hs:k/3=s){w:Int32}(hw:S 0 s=w):f (m,pc,ls,.ref 0::st,S)=f (m,pn,ls,.int w::st,S):=by
 subst hw
 rw[hf]
 simp only[run,plan,h,hk,rest,retV,loc,alu,mop1,gf,pf,al,sa,la,Option.map_none,h3,if_false,hs]
theorem getA(hf:∀c,f c=run (plan code rt (mop1 arrs gS upd) (cop1 na ml wm)) f c){s k:Nat}(h:code m pc=some (.getfield k,pn,kp))(hk:tk kp ls=ls)(h3:k%3=2)(hs:k/3+1=s):f (m,pc,ls,.ref 0::st,S)=f (m,pn,ls,.ref s::st,S):=by
 rw[hf]
 simp only[run,plan,h,hk,rest,retV,loc,alu,mop1,gf,pf,al,sa,la,Option.map_none,h3,if_true,hs]
theorem putI(hf:∀c,f c=run (plan code rt (mop1 arrs gS upd) (cop1 na ml wm)) f c){s k:Nat}{v:Int32}(h:code m pc=some (.putfield k,pn,kp))(hk:tk kp ls=ls)(h3:k%3=0)(hs:k/3=s):f (m,pc,ls,.int v :: .ref 0::st,S)=f (m,pn,ls,st,upd S 0 s v):=by
 rw[hf]
 simp only[run,plan,h,hk,rest,retV,loc,alu,mop1,gf,pf,al,sa,la,Option.map_none,h3,if_true,hs]
theorem iaload(hf:∀c,f c=run (plan code rt (mop1 arrs gS upd) (cop1 na ml wm)) f c){j n:Nat}{ty:FieldType}{i:Int32}(h:code m pc=some (.iaload,pn,kp))(hk:tk kp ls=ls)(ha:arrs[j]? = some (ty,n))(ht:isI ty=true){w:Int32}(hw:S (j+1) i.toNatClampNeg=w):f (m,pc,ls,.int i :: .ref (j+1)::st,S)=if inb i n=true then f (m,pn,ls,.int w::st,S) else none:=by
 subst hw
 rw[hf]
 simp only[run,plan,h,hk,rest,retV,loc,alu,mop1,gf,pf,al,sa,la,Option.map_none,ha,ht,true_and]
 by_cases q:inb i n=true
 ·simp only[q,if_true]
 ·simp only[q,if_false,cop1,Bool.false_eq_true]
theorem ialoadT(hf:∀c,f c=run (plan code rt (mop1 arrs gS upd) (cop1 na ml wm)) f c){j n:Nat}{ty:FieldType}{i:Int32}(h:code m pc=some (.iaload,pn,kp))(hk:tk kp ls=ls)(ha:arrs[j]? = some (ty,n))(ht:isI ty=true)(hi:inb i n=true){z:Nat}(hz:i.toNatClampNeg=z){w:Int32}(hw:S (j+1) z=w):f (m,pc,ls,.int i :: .ref (j+1)::st,S)=f (m,pn,ls,.int w::st,S):=by
 subst hz
 rw[iaload hf h hk ha ht hw,if_pos hi]
theorem baload(hf:∀c,f c=run (plan code rt (mop1 arrs gS upd) (cop1 na ml wm)) f c){j n:Nat}{ty:FieldType}{i:Int32}(h:code m pc=some (.baload,pn,kp))(hk:tk kp ls=ls)(ha:arrs[j]? = some (ty,n))(ht:isB ty=true){w:Int32}(hw:S (j+1) i.toNatClampNeg=w):f (m,pc,ls,.int i :: .ref (j+1)::st,S)=if inb i n=true then f (m,pn,ls,.int w::st,S) else none:=by
 subst hw
 rw[hf]
 simp only[run,plan,h,hk,rest,retV,loc,alu,mop1,gf,pf,al,sa,la,Option.map_none,ha,ht,true_and]
 by_cases q:inb i n=true
 ·simp only[q,if_true]
 ·simp only[q,if_false,cop1,Bool.false_eq_true]
theorem iastore(hf:∀c,f c=run (plan code rt (mop1 arrs gS upd) (cop1 na ml wm)) f c){j n:Nat}{ty:FieldType}{i v:Int32}(h:code m pc=some (.iastore,pn,kp))(hk:tk kp ls=ls)(ha:arrs[j]? = some (ty,n))(ht:isI ty=true){v':Int32}(hv:nar ty v=v'):f (m,pc,ls,.int v :: .int i :: .ref (j+1)::st,S)=if inb i n=true then f (m,pn,ls,st,upd S (j+1) i.toNatClampNeg v') else none:=by
 rw[hf]
 simp only[run,plan,h,hk,rest,retV,loc,alu,mop1,gf,pf,al,sa,la,Option.map_none,ha,ht,true_and,hv]
 by_cases q:inb i n=true
 ·simp only[q,if_true]
 ·simp only[q,if_false,cop1,Bool.false_eq_true]
theorem iastoreT(hf:∀c,f c=run (plan code rt (mop1 arrs gS upd) (cop1 na ml wm)) f c){j n:Nat}{ty:FieldType}{i v:Int32}(h:code m pc=some (.iastore,pn,kp))(hk:tk kp ls=ls)(ha:arrs[j]? = some (ty,n))(ht:isI ty=true){v':Int32}(hv:nar ty v=v')(hi:inb i n=true){z:Nat}(hz:i.toNatClampNeg=z):f (m,pc,ls,.int v :: .int i :: .ref (j+1)::st,S)=f (m,pn,ls,st,upd S (j+1) z v'):=by
 rw[iastore hf h hk ha ht hv,if_pos hi,hz]
theorem bastore(hf:∀c,f c=run (plan code rt (mop1 arrs gS upd) (cop1 na ml wm)) f c){j n:Nat}{ty:FieldType}{i v:Int32}(h:code m pc=some (.bastore,pn,kp))(hk:tk kp ls=ls)(ha:arrs[j]? = some (ty,n))(ht:isB ty=true){v':Int32}(hv:nar ty v=v'):f (m,pc,ls,.int v :: .int i :: .ref (j+1)::st,S)=if inb i n=true then f (m,pn,ls,st,upd S (j+1) i.toNatClampNeg v') else none:=by
 rw[hf]
 simp only[run,plan,h,hk,rest,retV,loc,alu,mop1,gf,pf,al,sa,la,Option.map_none,ha,ht,true_and,hv]
 by_cases q:inb i n=true
 ·simp only[q,if_true]
 ·simp only[q,if_false,cop1,Bool.false_eq_true]
theorem bastoreT(hf:∀c,f c=run (plan code rt (mop1 arrs gS upd) (cop1 na ml wm)) f c){j n:Nat}{ty:FieldType}{i v:Int32}(h:code m pc=some (.bastore,pn,kp))(hk:tk kp ls=ls)(ha:arrs[j]? = some (ty,n))(ht:isB ty=true){v':Int32}(hv:nar ty v=v')(hi:inb i n=true){z:Nat}(hz:i.toNatClampNeg=z):f (m,pc,ls,.int v :: .int i :: .ref (j+1)::st,S)=f (m,pn,ls,st,upd S (j+1) z v'):=by
 rw[bastore hf h hk ha ht hv,if_pos hi,hz]
theorem call(hf:∀c,f c=run (plan code rt (mop1 arrs gS upd) (cop1 na ml wm)) f c){k:Nat}{as r as':List Value}(h:code m pc=some (.invokevirtual k,pn,kp))(hk:tk kp ls=ls)(ht:takeA (na k) [] st=some (as,.ref 0::r))(hc:okn as=true∧cats r≤wm m∧(entL (.ref 0::as)).length≤ml k)(he:entL (.ref 0::as)=as'):f (m,pc,ls,st,S)=(f (k,0,as',[],S)).bind fun q=>f (m,pn,ls,q.1.toList++r,q.2):=by
 rw[hf]
 simp only[run,plan,h,hk,rest,retV,loc,alu,mop1,gf,pf,al,sa,la,Option.map_none,cop1,ht,he]
 rw[←he,if_pos hc]
end F
namespace F
variable {σ:Type} {code:Codes} {rt:Nat→Option FieldType} {f1:Cfg σ→Option (Res σ)} {Z0:σ} {pe nmax:Nat} {na1 ml1 wm na ml:Nat→Nat} {sc:Option (List Int32)} {f:Cfg (W2 σ)→Option (Res (W2 σ))} {m pc pn:Nat} {kp:Option Nat} {ls st:List Value} {ob:List σ} {b:Bool}
theorem new(hf:∀c,f c=run (plan code rt (mop2 f1 Z0 pe nmax na1 ml1 wm sc) (cop2 na ml wm)) f c){q r:Nat}(h:code 0 pc=some (.new q,pn,kp))(hk:tk kp ls=ls)(hl:ob.length<nmax)(hr:ob.length+1=r):f (0,pc,ls,st,(false,ob))=f (0,pn,ls,.ref r::st,(true,ob)):=by
 rw[hf]
 simp only[run,plan,h,hk,rest,retV,loc,alu,Option.map_none,mop2,nw,hl,true_and,if_true,hr]
theorem ctor(hf:∀c,f c=run (plan code rt (mop2 f1 Z0 pe nmax na1 ml1 wm sc) (cop2 na ml wm)) f c){q r:Nat}{as as' rs:List Value}(h:code 0 pc=some (.invokespecial q,pn,kp))(hk:tk kp ls=ls)(ht:takeA (na1 0) [] st=some (as,.ref r::rs))(hr:r=ob.length+1)(hc:okn as=true∧cats rs≤wm 0∧(entL (.ref 0::as)).length≤ml1 0)(he:entL (.ref 0::as)=as') :
  f (0,pc,ls,st,(true,ob))=(f1 (0,pe,as',[],Z0)).bind fun q=>f (0,pn,ls,rs,(false,ob++[q.2])):=by
 rw[hf]
 subst he
 simp only[run,plan,h,hk,rest,retV,loc,alu,Option.map_none,mop2,ct,ht]
 rw[if_pos ⟨⟨trivial,hr⟩,hc⟩]
 cases f1 (0,pe,entL (.ref 0::as),[],Z0) with
 |none=>simp only[Option.map_none,cop2,Option.bind_none]
 |some q=>simp only[Option.map_some,Option.bind_some]
theorem virt(hf:∀c,f c=run (plan code rt (mop2 f1 Z0 pe nmax na1 ml1 wm sc) (cop2 na ml wm)) f c){k o:Nat}{as as' rs:List Value}{S:σ}(h:code m pc=some (.invokevirtual k,pn,kp))(hk:tk kp ls=ls)(ht:takeA (na1 k) [] st=some (as,.ref (o+1)::rs))(hS:ob[o]? = some S)(hc:okn as=true∧cats rs≤wm m∧(entL (.ref 0::as)).length≤ml1 k)(he:entL (.ref 0::as)=as') :
  f (m,pc,ls,st,(false,ob))=(f1 (k,0,as',[],S)).bind fun q=>f (m,pn,ls,q.1.toList++rs,(false,ob.set o q.2)):=by
 rw[hf]
 subst he
 simp only[run,plan,h,hk,rest,retV,loc,alu,Option.map_none,mop2,vt,ht,hS]
 rw[if_pos hc]
 cases f1 (k,0,entL (.ref 0::as),[],S) with
 |none=>simp only[Option.map_none,cop2,Option.bind_none]
 |some q=>simp only[Option.map_some,Option.bind_some]
theorem sload(hf:∀c,f c=run (plan code rt (mop2 f1 Z0 pe nmax na1 ml1 wm sc) (cop2 na ml wm)) f c){i:Int32}{xs:List Int32}(hx:sc=some xs)(h:code m pc=some (.iaload,pn,kp))(hk:tk kp ls=ls){w:W2 σ}:f (m,pc,ls,.int i :: .ref 0::st,w)=if inb i xs.length=true then f (m,pn,ls,.int (xs.getD i.toNatClampNeg 0)::st,w) else none:=by
 rw[hf]
 subst hx
 simp only[run,plan,h,hk,rest,retV,loc,alu,Option.map_none,mop2,sl]
 by_cases q:inb i xs.length=true
 ·simp only[q,if_true]
 ·simp only[q,if_false,cop2,Bool.false_eq_true]
theorem slen(hf:∀c,f c=run (plan code rt (mop2 f1 Z0 pe nmax na1 ml1 wm sc) (cop2 na ml wm)) f c){xs:List Int32}(hx:sc=some xs)(h:code m pc=some (.arraylength,pn,kp))(hk:tk kp ls=ls){w:W2 σ}:f (m,pc,ls,.ref 0::st,w)=f (m,pn,ls,.int (Int32.ofNat xs.length)::st,w):=by
 rw[hf]
 subst hx
 simp only[run,plan,h,hk,rest,retV,loc,alu,Option.map_none,mop2,sn]
theorem stat(hf:∀c,f c=run (plan code rt (mop2 f1 Z0 pe nmax na1 ml1 wm sc) (cop2 na ml wm)) f c){k:Nat}{as as' rs:List Value}{w:W2 σ}(h:code m pc=some (.invokestatic k,pn,kp))(hk:tk kp ls=ls)(ht:takeA (na k) [] st=some (as,rs))(hc:k≠0∧okv as=true∧cats rs≤wm m∧(entL as).length≤ml k)(he:entL as=as') :
  f (m,pc,ls,st,w)=(f (k,0,as',[],w)).bind fun q=>f (m,pn,ls,q.1.toList++rs,q.2):=by
 rw[hf]
 subst he
 simp only[run,plan,h,hk,rest,retV,loc,alu,Option.map_none,mop2,cop2,ht]
 rw[if_pos hc]
end F
section Top
variable {σ:Type} {C:String} {gds:List (String×String)} {fds:List (String×String×Nat)} {arrs:List (FieldType×Nat)} {Z:State} {G:σ→Nat→Nat→Int32} {fs nmax:Nat} {sc:Option (List Int32)} {mi2:MI} {rt2:Nat→Option FieldType} {l:Launch} {own:String}
set_option maxHeartbeats 1000000 in
theorem top{code2:Codes}{mop:Mop (W2 σ)}{cop:Cop}{n:Nat}(hW:Walks code2 rt2 mop cop mi2 own Z l (rho2 (arrs.length+1)) (J2 C gds fds arrs Z G fs nmax sc) n)(hpn:plainName own=true)(hcls:(mi2 0).1.cls=own){as:List Value}(hok:okv as=true)(hlen:(entL as).length≤(mi2 0).2.2.1)
  {r:Res (W2 σ)} (hit:iter (plan code2 rt2 mop cop) n (0,0,entL as,[],(false,[]))=some r) {rm:Room} (hfr:(mi2 0).2.2.2.1≤rm.frames) (hlw:(mi2 0).2.2.2.2≤rm.locals) (hRc:nmax*(arrs.length+1)≤rm.cells) (hRs:nmax*(fs+slotSum arrs arrs.length)≤rm.slots) {h:Heap} {sa:Nat}
  (hsc:∀xs,sc=some xs→sa<h.size∧xs.length<2147483648∧∃cell,Arr Z h sa cell .int∧cell.slots.size=xs.length∧∀i,i<xs.length→cell.slots[i]? = some (.int (xs.getD i 0))) (ws:List Jvm.Cond) :
  MetFree l (mi2 0).1 (head1 (Cond.code (mi2 0).1 (mi2 0).2.1 (mi2 0).2.2.1 (rt2 0)::ws) rm)
   (fun A U=>A=(as.map (cv (rho2 (arrs.length+1) (sa,h.size,0,0)))).toArray∧Z.Warmed39 U.vm∧U.heap=h) (fun _ _ _ _ _=>True)
   (fun _ U o U'=>∃v L,o = .returned v∧(v=r.1∧Fr h.size L)∧FrameEnd U o U' L rm.cells rm.slots):=by
 refine MetFree.of_bodySF (plainFor_of_name (by rw[hcls];exact hpn)) hisR ?_
 intro p e s m args below meth c s₁ Bd hml0 hP hK
 obtain⟨rfl,hZ,hh⟩:=hP
 have hown:s.vm.findClass own=some m.cls:=by rw[←hcls];exact findClass_of_methodNamed Bd.named
 have hnm:=(name_of_methodNamed Bd.named Bd.method).1
 have X0:=Stand.of_body Bd
 have e0:s₁.heap=h:=by rw[←hh,Bd.state];rfl
 obtain⟨L,q1,q2,q3,q4⟩:=entry_rel (rho2 (arrs.length+1) (sa,h.size,0,0)) (vs:=as) hok hlen
 obtain⟨T',L',k',n',X',⟨-,⟨j3,j4⟩,-,-,-,-,jN⟩,⟨ok1,ok2⟩,st⟩:=hW (sa,h.size,0,0) p e _ s m _ below meth c 0 0 _ [] (false,[]) r hit s₁ [] 0 0 L X0 ⟨Bd.exec,hZ,hown,Bd.bytes,hml0,Bd.returns,hnm,hfr,hlw⟩
  ⟨⟨by simp[cnt],by simp[scn]⟩,⟨Nat.zero_le _,Nat.zero_le _⟩,fun _=>⟨rfl,rfl,hRc,hRs⟩,fun q=>absurd rfl q,by rw[hh];rfl,by rw[e0];exact⟨fun o S q=>by simp at q,fun q=>(by cases q),by simp[cnt],hsc⟩,Fr.nil _⟩ q2 q3 (by rw[q4,hml0])
 obtain⟨fs',hr,hrun,hended,hWm,hsame⟩:=X'.leave (v:=r.1) ok1
 refine⟨_,_,?_,hrun,hended,_,_,rfl,⟨rfl,jN⟩,⟨_,rfl⟩,hWm,hsame.mono j3 j4⟩
 have:=st fs' hr
 rw[q1 m]
 exact this
end Top
def laidW(fin:Bool)(C n d:String):Jvm.Cond:=if fin=true then .laysFinal C C n d else .lays C C n d
abbrev Ent:=Nat×Instr×Nat×Option Nat
abbrev Mth:=MethodName×ByteArray×Nat×Nat×Nat×Option FieldType×Nat×Nat×Bool×List Ent
def m0:Mth:=(⟨"","",""⟩,⟨#[]⟩,0,0,0,none,0,0,false,[])
def miOf(ms:List Mth)(k:Nat):MethodName×ByteArray×Nat×Nat×Nat:=let q:=ms.getD k m0;(q.1,q.2.1,q.2.2.1,q.2.2.2.1,q.2.2.2.2.1)
def rtOf(ms:List Mth)(k:Nat):Option FieldType:=(ms.getD k m0).2.2.2.2.2.1
def naOf(ms:List Mth)(k:Nat):Nat:=(ms.getD k m0).2.2.2.2.2.2.1
def wmOf(ms:List Mth)(k:Nat):Nat:=(ms.getD k m0).2.2.2.2.2.2.2.1
def clOf(ms:List Mth)(k:Nat):List Ent:=(ms.getD k m0).2.2.2.2.2.2.2.2.2
def cdOf(ms:List Mth):Codes:=fun m pc=>lk pc (clOf ms m)
def goodB(Tb:Tabs)(ms:List Mth):Bool:=ms.all fun q=>q.2.2.2.2.2.2.2.2.2.all (chkE Tb q.2.1 q.2.2.1)
theorem good_of{Tb:Tabs}{ms:List Mth}(h:goodB Tb ms=true):Good Tb (miOf ms) (cdOf ms):=by
 intro mm pc q hq
 have hq':=lk_mem hq
 unfold clOf at hq'
 by_cases hm:mm<ms.length
 ·have e:ms.getD mm m0=ms[mm]:=by simp[List.getD,hm]
  have h1:=List.all_eq_true.mp h ms[mm] (List.getElem_mem hm)
  have h2:=List.all_eq_true.mp h1 (pc,q) (by rw[e] at hq';exact hq')
  show chkE Tb (ms.getD mm m0).2.1 (ms.getD mm m0).2.2.1 (pc,q)=true
  rw[e];exact h2
 ·have e:ms.getD mm m0=m0:=by simp[List.getD,hm]
  rw[e] at hq'
  cases hq'
def roomB(ms callees:List Mth)(isCall:Instr→Option Nat):Bool:=ms.all fun q=>q.2.2.2.2.2.2.2.2.2.all fun en=>match isCall en.2.1 with
 |some k=>decide ((callees.getD k m0).2.2.2.1+1≤q.2.2.2.1)&&decide (q.2.2.2.2.2.2.2.1+((callees.getD k m0).2.2.1+11)+(callees.getD k m0).2.2.2.2.1≤q.2.2.2.2.1)
 |none=>true
theorem room_of{ms callees:List Mth}{isCall:Instr→Option Nat}(h:roomB ms callees isCall=true){mm pc k:Nat}{i:Instr}{pn:Nat}{kp:Option Nat}(hc:cdOf ms mm pc=some (i,pn,kp))(hi:isCall i=some k) :
  (miOf callees k).2.2.2.1+1≤(miOf ms mm).2.2.2.1∧wmOf ms mm+((miOf callees k).2.2.1+11)+(miOf callees k).2.2.2.2≤(miOf ms mm).2.2.2.2:=by
 have hq':=lk_mem hc
 unfold clOf at hq'
 by_cases hm:mm<ms.length
 ·have e:ms.getD mm m0=ms[mm]:=by simp[List.getD,hm]
  have h1:=List.all_eq_true.mp h ms[mm] (List.getElem_mem hm)
  have h2:=List.all_eq_true.mp h1 (pc,i,pn,kp) (by rw[e] at hq';exact hq')
  simp only[hi,Bool.and_eq_true,decide_eq_true_eq] at h2
  simp only[miOf,wmOf,e]
  exact h2
 ·have e:ms.getD mm m0=m0:=by simp[List.getD,hm]
  rw[e] at hq'
  cases hq'
def callVk:Instr→Option Nat
 | .invokevirtual k=>some k
 |_=>none
def callSk:Instr→Option Nat
 | .invokestatic k=>some k
 |_=>none
abbrev Cls:=String×Nat×List (String×String)×List (String×String×Nat)×List (FieldType×Nat)×Bool×List Item×Nat×Nat×List (Nat×Int)×Tabs×List Mth
def mthW(C:String)(q:Mth):List Jvm.Cond:=if q.1.cls = "" then [] else [.instanceMethod q.1,.code q.1 q.2.1 q.2.2.1 q.2.2.2.2.2.1]++(if q.2.2.2.2.2.2.2.2.1=true then [.privateMethod q.1] else [.declares q.1,.selects C q.1 q.1])
def needs1(D:Cls):List Jvm.Cond:=match D with
 |(C,fs,gds,fds,_,fa,items,_,oi,_,Tb,ms)=>
  [.instantiable C fs,.initialized C,.methodLink C oi Lib.objectInit,.instanceMethod Lib.objectInit,.code Lib.objectInit ⟨#[0xb1]⟩ 1 none,.instanceMethod (ms.getD 0 m0).1,.code (ms.getD 0 m0).1 (ms.getD 0 m0).2.1 (ms.getD 0 m0).2.2.1 none] ++
  fds.map (fun q=>if q.2.2%3=2 then laidW fa C q.1 q.2.1 else .lays C C q.1 q.2.1)++gds.map (fun q=>laidW true C q.1 q.2)++Tb.1.map (fun q => .fieldLink C q.1 C q.2.1 q.2.2.1)++items.map (fun q => .fieldLink C q.2.1 C q.2.2.1 q.2.2.2) ++
  items.filterMap (fun q=>q.1.map fun t => .arrayClass (newarray.typeOf t))++Tb.2.1.map (fun q => .methodLink C q.1 (ms.getD q.2 m0).1)++(ms.drop 1).flatMap (mthW C)++Tb.2.2.2.1.map (fun q => .constant C q.1 q.2)++Tb.2.2.2.2.1.map (fun q => .constantLong C q.1 q.2)
def descB(q:Mth):Bool:=match parseMethodDescriptor q.1.desc with
 |some ⟨ps,r⟩=>decide (r=q.2.2.2.2.2.1)&&decide (ps.length=q.2.2.2.2.2.2.1)
 |none=>false
def isArrD(d:String):Bool:=match parseFieldDescriptor d with
 |some (.array _)=>true
 |_=>false
def data1(D:Cls):Bool:=match D with
 |(C,fs,gds,fds,arrs,fa,items,pe,oi,iv,Tb,ms)=>
  decide ((gds.map (·.1)++fds.map (·.1)).Nodup)&&decide ((fds.map fun q=>q.2.2).Nodup)&&decide (((fds.filter fun q=>decide (q.2.2%3≠2)).map fun q=>q.2.2/3).Nodup) &&
  fds.all (fun q=>decide (q.2.2%3=0→q.2.1 = "I")&&decide (q.2.2%3=1→q.2.1 = "Z")&&decide (q.2.2%3=2→(isArrD q.2.1=true∧q.2.2/3<arrs.length)))&&gds.all (fun q=>decide (q.2 = "I"))&&Tb.1.all (fun q=>decide ((q.2.1,q.2.2.1,q.2.2.2)∈fds)) &&
  arrs.all (fun q=>decide (q.1 = .int∨q.1 = .boolean∨q.1 = .byte))&&items.all (fun q=>match q.1 with
   |none=>decide ((q.2.2.1,q.2.2.2)∈gds)||fds.any fun w=>decide (w.1=q.2.2.1)&&decide (w.2.1=q.2.2.2)&&decide (w.2.2%3=0)
   |some _=>fds.any fun w=>decide (w.1=q.2.2.1)&&decide (w.2.1=q.2.2.2)&&decide (w.2.2%3=2)) &&
  Tb.2.1.all (fun q=>decide (1≤q.2)&&decide (q.2<ms.length)&&decide ((ms.getD q.2 m0).1.cls=C))&&ms.all (fun q=>decide (q.1.cls = "")||descB q)&&decide (C ≠ "")&&decide ((ms.getD 0 m0).1.cls=C)&&decide (C ≠ "java/lang/invoke/MethodHandle")&&decide (C ≠ "java/lang/invoke/VarHandle")&&plainName C &&
  decide ((ms.getD 0 m0).1.name = "<init>")&&decide ((ms.getD 0 m0).2.2.2.2.2.1=none)&&decide (0<ms.length)&&decide (1≤(ms.getD 0 m0).2.2.2.1)&&decide (12≤(ms.getD 0 m0).2.2.2.2.1) &&
  proChk (ms.getD 0 m0).2.1 Tb (ms.getD 0 m0).2.2.1 gds fds arrs pe items 4 0 iv&&(match decode (ms.getD 0 m0).2.1 0,decode (ms.getD 0 m0).2.1 1 with
   | .ok (.aload_n 0,1),.ok (.invokespecial oi',3)=>decide (oi'=oi)
   |_,_=>false)
theorem nodup_inj{α β:Type}{f:α→β}:∀ {l:List α},(l.map f).Nodup→∀ {a b:α},a∈l→b∈l→f a=f b→a=b
 |[],_,a,b,ha,_,_=>by cases ha
 |x::l,h,a,b,ha,hb,e=>by
  rw[List.map_cons,List.nodup_cons] at h
  rcases List.mem_cons.mp ha with rfl | ha'<;>rcases List.mem_cons.mp hb with rfl | hb'
  ·rfl
  ·exact absurd (e▸List.mem_map_of_mem hb') h.1
  ·exact absurd (e.symm▸List.mem_map_of_mem ha') h.1
  ·exact nodup_inj h.2 ha' hb' e
theorem laid_of{Z:State}{a0:Array Value}{fin:Bool}{C n d:String}(h:(laidW fin C n d).before a0 Z=true):Laid Z a0 C C n d:=by
 unfold laidW at h
 split at h
 ·exact Or.inr h
 ·exact Or.inl h
set_option maxHeartbeats 1000000 in
theorem base_of{C:String}{fs:Nat}{gds:List (String×String)}{fds:List (String×String×Nat)}{arrs:List (FieldType×Nat)}{fa:Bool}{items:List Item}{pe oi:Nat}{iv:List (Nat×Int)}{Tb:Tabs}{ms:List Mth}{Z:State}{a0:Array Value}
  (hD:data1 (C,fs,gds,fds,arrs,fa,items,pe,oi,iv,Tb,ms)=true) (hw:∀w∈needs1 (C,fs,gds,fds,arrs,fa,items,pe,oi,iv,Tb,ms),w.before a0 Z=true) :
  Base C gds fds arrs items Z a0 fs Tb (miOf ms) (rtOf ms) (naOf ms) pe oi iv∧∀own k idx Tb',(∀idx',(idx',k)∈Tb'.2.1→(Cond.methodLink own idx' (miOf ms k).1).before a0 Z=true)→(idx,k)∈Tb'.2.1→(ms.getD k m0).1.cls=C→k≠0→MthOK C Tb' Z a0 (miOf ms) (rtOf ms) own k (naOf ms):=by
 simp only[data1,Bool.and_eq_true,decide_eq_true_eq] at hD
 obtain⟨⟨⟨⟨⟨⟨⟨⟨⟨⟨⟨⟨⟨⟨⟨⟨⟨⟨⟨⟨⟨h1,h2⟩,h3⟩,h4⟩,h5⟩,h6⟩,h7⟩,h8⟩,h9⟩,h10⟩,h10a⟩,h10b⟩,h11⟩,h12⟩,h13⟩,h14⟩,h15⟩,h16⟩,h17⟩,h18⟩,h19⟩,h20⟩:=hD
 simp only[List.all_eq_true,Bool.and_eq_true,decide_eq_true_eq] at h4 h5 h6 h7 h9
 have h1g:(gds.map (·.1)).Nodup:=(List.nodup_append.mp h1).1
 have h1f:(fds.map (·.1)).Nodup:=(List.nodup_append.mp h1).2.1
 have h1d:∀n∈gds.map (·.1),∀n'∈fds.map (·.1),n≠n':=(List.nodup_append.mp h1).2.2
 have w0:(Cond.instantiable C fs).before a0 Z=true:=hw _ (by simp[needs1])
 have w1:(Cond.initialized C).before a0 Z=true:=hw _ (by simp[needs1])
 have w2:(Cond.methodLink C oi Lib.objectInit).before a0 Z=true:=hw _ (by simp[needs1])
 have w3:(Cond.instanceMethod Lib.objectInit).before a0 Z=true:=hw _ (by simp[needs1])
 have w4:(Cond.code Lib.objectInit ⟨#[0xb1]⟩ 1 none).before a0 Z=true:=hw _ (by simp[needs1])
 have wf:∀q∈fds,(if q.2.2%3=2 then laidW fa C q.1 q.2.1 else Jvm.Cond.lays C C q.1 q.2.1).before a0 Z=true:=fun q hq=>hw _ (by
  simp only[needs1,List.mem_append]
  exact Or.inl (Or.inl (Or.inl (Or.inl (Or.inl (Or.inl (Or.inl (Or.inl (Or.inr (List.mem_map.mpr ⟨q,hq,rfl⟩))))))))))
 have wg:∀q∈gds,(laidW true C q.1 q.2).before a0 Z=true:=fun q hq=>hw _ (by
  simp only[needs1,List.mem_append]
  exact Or.inl (Or.inl (Or.inl (Or.inl (Or.inl (Or.inl (Or.inl (Or.inr (List.mem_map.mpr ⟨q,hq,rfl⟩)))))))))
 have wl:∀q∈Tb.1,(Jvm.Cond.fieldLink C q.1 C q.2.1 q.2.2.1).before a0 Z=true:=fun q hq=>hw _ (by
  simp only[needs1,List.mem_append]
  exact Or.inl (Or.inl (Or.inl (Or.inl (Or.inl (Or.inl (Or.inr (List.mem_map.mpr ⟨q,hq,rfl⟩))))))))
 have wi:∀q∈items,(Jvm.Cond.fieldLink C q.2.1 C q.2.2.1 q.2.2.2).before a0 Z=true:=fun q hq=>hw _ (by
  simp only[needs1,List.mem_append]
  exact Or.inl (Or.inl (Or.inl (Or.inl (Or.inl (Or.inr (List.mem_map.mpr ⟨q,hq,rfl⟩)))))))
 have wa:∀q∈items,∀t,q.1=some t→(Jvm.Cond.arrayClass (newarray.typeOf t)).before a0 Z=true:=fun q hq t ht=>hw _ (by
  simp only[needs1,List.mem_append]
  exact Or.inl (Or.inl (Or.inl (Or.inl (Or.inr (List.mem_filterMap.mpr ⟨q,hq,by rw[ht];rfl⟩))))))
 have wm:∀q∈ms.drop 1,∀w∈mthW C q,w.before a0 Z=true:=fun q hq w hw'=>hw _ (by
  simp only[needs1,List.mem_append]
  exact Or.inl (Or.inl (Or.inr (List.mem_flatMap.mpr ⟨q,hq,hw'⟩))))
 have wc:∀q∈Tb.2.2.2.1,(Jvm.Cond.constant C q.1 q.2).before a0 Z=true:=fun q hq=>hw _ (by
  simp only[needs1,List.mem_append]
  exact Or.inl (Or.inr (List.mem_map.mpr ⟨q,hq,rfl⟩)))
 have wcl:∀q∈Tb.2.2.2.2.1,(Jvm.Cond.constantLong C q.1 q.2).before a0 Z=true:=fun q hq=>hw _ (by
  simp only[needs1,List.mem_append]
  exact Or.inr (List.mem_map.mpr ⟨q,hq,rfl⟩))
 have lf:∀n d k,(n,d,k)∈fds→Laid Z a0 C C n d:=fun n d k hq=>by
  have:=wf _ hq
  dsimp only at this
  split at this
  ·exact laid_of this
  ·exact Or.inl this
 have pf':∀n d k,(n,d,k)∈fds→∃t,parseFieldDescriptor d=some t:=fun n d k hq=>by
  obtain⟨⟨a,b⟩,c⟩:=h4 _ hq
  dsimp only at a b c
  have:k%3=0∨k%3=1∨k%3=2:=by omega
  rcases this with q | q | q
  ·rw[a q];exact⟨.int,by decide⟩
  ·rw[b q];exact⟨.boolean,by decide⟩
  ·have:=(c q).1
   unfold isArrD at this
   split at this
   ·rename_i u hu;exact⟨_,hu⟩
   ·cases this
 have K:ClsOK C fds arrs Tb Z a0:=by
  refine⟨⟨fs,w0⟩,fun n d k hq=>⟨lf n d k hq,fun q=>?_,fun q=>(h4 _ hq).1.1 q,fun q=>(h4 _ hq).1.2 q,pf' n d k hq⟩,fun n d k n' d' k' hq hq' e=>?_,fun n d k n' d' k' hq hq' e q q'=>?_,fun idx n d k hq=>⟨wl _ hq,h6 _ hq⟩,fun j ty n hj=>h7 _ (List.mem_of_getElem? hj)⟩
  ·have:=wf _ hq
   dsimp only at this
   rw[if_neg q] at this
   exact this
  ·have:=nodup_inj h1f hq hq' e
   simp only[Prod.mk.injEq] at this
   exact this.2
  ·intro e'
   have m1:(n,d,k)∈fds.filter fun q=>decide (q.2.2%3≠2):=List.mem_filter.mpr ⟨hq,by simpa using q⟩
   have m2:(n',d',k')∈fds.filter fun q=>decide (q.2.2%3≠2):=List.mem_filter.mpr ⟨hq',by simpa using q'⟩
   have:=nodup_inj h3 m1 m2 e'
   simp only[Prod.mk.injEq] at this
   exact e this.1
 have M:MakOK C gds fds arrs items Z a0:=by
  refine⟨fun t idx n d hq=>⟨wi _ hq,?_,fun ht=>?_,fun ht=>?_,fun t' ht=>wa _ hq t' ht⟩,fun n d hq=>⟨laid_of (wg _ hq),?_,fun n' d' k' hq' e=>h1d n (List.mem_map_of_mem hq) n' (List.mem_map_of_mem hq') e⟩,fun n d n' d' q hq hq'=>?_,fun n d n' d' hq hq' e=>?_,fun j ty n hj=>?_⟩
  ·have:=List.all_eq_true.mp h8 _ hq
   dsimp only at this
   split at this
   ·simp only[Bool.or_eq_true,decide_eq_true_eq,List.any_eq_true,Bool.and_eq_true] at this
    rcases this with q | ⟨⟨n1,d1,k1⟩,m1,⟨e1,e2⟩,e3⟩
    ·exact laid_of (wg _ q)
    ·dsimp only at e1 e2;subst e1 e2;exact lf _ _ _ m1
   ·simp only[decide_eq_true_eq,List.any_eq_true,Bool.and_eq_true] at this
    obtain⟨⟨n1,d1,k1⟩,m1,⟨e1,e2⟩,e3⟩:=this
    dsimp only at e1 e2;subst e1 e2;exact lf _ _ _ m1
  ·have:=List.all_eq_true.mp h8 _ hq
   dsimp only at this
   subst ht
   simp only[Bool.or_eq_true,decide_eq_true_eq,List.any_eq_true,Bool.and_eq_true] at this
   rcases this with q | ⟨⟨n1,d1,k1⟩,m1,⟨e1,e2⟩,e3⟩
   ·exact h5 _ q
   ·dsimp only at e1 e2 e3;subst e1 e2;exact (h4 _ m1).1.1 e3
  ·have:=List.all_eq_true.mp h8 _ hq
   dsimp only at this
   cases t with
   |none=>exact absurd rfl ht
   |some t'=>
    simp only[decide_eq_true_eq,List.any_eq_true,Bool.and_eq_true] at this
    obtain⟨⟨n1,d1,k1⟩,m1,⟨e1,e2⟩,e3⟩:=this
    dsimp only at e1 e2 e3;subst e1 e2
    have:=((h4 _ m1).2 e3).1
    unfold isArrD at this
    split at this
    ·rename_i u hu;exact⟨u,hu⟩
    ·cases this
  ·exact h5 _ hq
  ·have:=nodup_inj h2 hq hq' rfl
   simp only[Prod.mk.injEq] at this
   exact this.1
  ·have:=nodup_inj h1g hq hq' e
   simp only[Prod.mk.injEq] at this
   exact this.2
  ·rcases h7 _ (List.mem_of_getElem? hj) with q | q | q<;>(dsimp only at q;subst q;rfl)
 have hdesc:∀k,(ms.getD k m0).1.cls=C→∃ps,parseMethodDescriptor (miOf ms k).1.desc=some ⟨ps,rtOf ms k⟩∧ps.length=naOf ms k:=by
  intro k hk
  have hm:k<ms.length:=by
   apply Classical.byContradiction
   intro q
   have e:ms.getD k m0=m0:=by simp[List.getD,q]
   rw[e] at hk
   exact h10a hk.symm
  have e:ms.getD k m0=ms[k]:=by simp[List.getD,hm]
  have:=List.all_eq_true.mp h10 ms[k] (List.getElem_mem hm)
  rw[←e] at this
  simp only[Bool.or_eq_true,decide_eq_true_eq] at this
  rcases this with q | q
  ·rw[hk] at q;exact absurd q h10a
  ·unfold descB at q
   split at q
   ·rename_i ps r hp
    simp only[Bool.and_eq_true,decide_eq_true_eq] at q
    refine⟨ps,?_,q.2⟩
    rw[show rtOf ms k=r from q.1.symm]
    exact hp
   ·cases q
 refine⟨⟨⟨K,M,⟨fun k v hq=>wc _ hq,fun k v hq=>wcl _ hq⟩,w0,w1⟩,⟨h13,⟨h11,h12⟩,h10b,h14,h15⟩,fun n d q hq q3=>((h4 _ hq).2 q3).2,⟨h19,?_⟩,⟨w2,w3,w4⟩,⟨h17,h18⟩,?_⟩,?_⟩
 ·split at h20
  ·rename_i q1 q2
   simp only[decide_eq_true_eq] at h20
   subst h20
   exact⟨q1,q2⟩
  ·cases h20
 ·obtain⟨ps,q1,q2⟩:=hdesc 0 h10b
  refine⟨ps,?_,q2⟩
  rw[q1]
  have:rtOf ms 0=none:=h15
  rw[this]
 ·intro own k idx Tb' hl hidx hk hk0
  refine⟨fun idx' hidx'=>⟨hk,hl idx' hidx',?_⟩,hdesc k hk⟩
  have hm:k<ms.length:=by
   apply Classical.byContradiction
   intro q
   have e:ms.getD k m0=m0:=by simp[List.getD,q]
   rw[e] at hk
   exact h10a hk.symm
  have e:ms.getD k m0=ms[k]:=by simp[List.getD,hm]
  have hmem:ms.getD k m0∈ms.drop 1:=by
   rw[e]
   obtain⟨k',rfl⟩:∃k',k=k'+1:=⟨k-1,by omega⟩
   exact List.mem_of_getElem? (i:=k') (by rw[List.getElem?_drop];simp[Nat.add_comm,hm])
  have hw1:=wm _ hmem
  have hne:(ms.getD k m0).1.cls ≠ "" := by rw[hk];exact h10a
  simp only[mthW,if_neg hne] at hw1
  refine⟨hw1 _ (List.mem_append_left _ (List.mem_cons_self ..)),hw1 _ (List.mem_append_left _ (List.mem_cons_of_mem _ (List.mem_cons_self ..))),?_⟩
  by_cases hp:(ms.getD k m0).2.2.2.2.2.2.2.2.1=true
  ·exact Or.inl (hw1 _ (List.mem_append_right _ (by rw[if_pos hp];exact List.mem_cons_self ..)))
  ·exact Or.inr ⟨hw1 _ (List.mem_append_right _ (by rw[if_neg hp];exact List.mem_cons_self ..)),hw1 _ (List.mem_append_right _ (by rw[if_neg hp];exact List.mem_cons_of_mem _ (List.mem_cons_self ..)))⟩
def data2(C own:String)(ms ms2:List Mth)(Tb2:Tabs):Bool:=
 decide (own ≠ "java/lang/invoke/MethodHandle")&&decide (own ≠ "java/lang/invoke/VarHandle")&&plainName own&&ms2.all (fun q=>decide (q.1.cls=own)&&descB q)&&Tb2.2.1.all (fun q=>decide (q.2≠0)&&decide ((ms.getD q.2 m0).1.cls=C))&&Tb2.2.2.1.all (fun q=>decide (q.2<ms2.length))&&decide (0<ms2.length)
def needs2(C own:String)(ms ms2:List Mth)(Tb2:Tabs):List Jvm.Cond:=
 Tb2.2.2.2.2.2.1.map (fun q => .classLink own q.1 C)++Tb2.2.2.2.2.2.2.map (fun q => .methodLink own q.1 (ms.getD 0 m0).1)++Tb2.2.1.map (fun q => .methodLink own q.1 (ms.getD q.2 m0).1) ++
 Tb2.2.2.1.flatMap (fun q=>[.methodLink own q.1 (ms2.getD q.2 m0).1,.static (ms2.getD q.2 m0).1,.initialized own,.code (ms2.getD q.2 m0).1 (ms2.getD q.2 m0).2.1 (ms2.getD q.2 m0).2.2.1 (ms2.getD q.2 m0).2.2.2.2.2.1]) ++
 Tb2.2.2.2.1.map (fun q => .constant own q.1 q.2)++Tb2.2.2.2.2.1.map (fun q => .constantLong own q.1 q.2)
def callCk:Instr→Option Nat
 | .invokespecial _=>some 0
 |_=>none
def hasB(tw:List Jvm.Cond):List Jvm.Cond→List Nat→Bool
 |[],[]=>true
 |w::ws,i::is=>decide (tw[i]? = some w)&&hasB tw ws is
 |_,_=>false
theorem has_of{tw:List Jvm.Cond}:∀ {ws:List Jvm.Cond} {is:List Nat},hasB tw ws is=true→∀w∈ws,w∈tw
 |[],[],_,w,h=>by cases h
 |w::ws,i::is,h,v,hv=>by
  simp only[hasB,Bool.and_eq_true,decide_eq_true_eq] at h
  rcases List.mem_cons.mp hv with rfl | q
  ·exact List.mem_of_getElem? h.1
  ·exact has_of h.2 v q
 |[],_::_,h,w,hw=>by cases hw
 |_::_,[],h,w,hw=>by cases h
def iniS(iv:List (Nat×Int)):MS:=iv.foldl (fun S q=>upd S 0 q.1 (Int32.ofInt q.2)) (fun _ _=>0)
theorem iniS_spec(iv:List (Nat×Int)):(∀i,iniS iv 0 i=finG (fun _=>0) iv i)∧∀c i,iniS iv (c+1) i=0:=by
 have key:∀(iv:List (Nat×Int)) (S:MS) (g:Nat→Int32),(∀i,S 0 i=g i)→(∀c i,S (c+1) i=0)→(∀i,(iv.foldl (fun S q=>upd S 0 q.1 (Int32.ofInt q.2)) S) 0 i=finG g iv i)∧∀c i,(iv.foldl (fun S q=>upd S 0 q.1 (Int32.ofInt q.2)) S) (c+1) i=0:=by
  intro iv
  induction iv with
  |nil=>intro S g h1 h2;exact⟨h1,h2⟩
  |cons q r ih=>
   intro S g h1 h2
   refine ih (upd S 0 q.1 (Int32.ofInt q.2)) (fun i=>if i=q.1 then Int32.ofInt q.2 else g i) (fun i=>?_) (fun c i=>?_)
   ·simp only[upd,true_and,h1]
   ·simp only[upd,h2]
    rw[if_neg (by simp)]
 exact key iv (fun _ _=>0) (fun _=>0) (fun _=>rfl) (fun _ _=>rfl)
abbrev Fix1(arrs:List (FieldType×Nat))(ms:List Mth)(f1:Cfg MS→Option (Res MS)):Prop:=∀c,f1 c=run (plan (cdOf ms) (rtOf ms) (mop1 arrs gS upd) (cop1 (naOf ms) (fun k=>(miOf ms k).2.2.1) (wmOf ms))) f1 c
abbrev Fix2(ms ms2:List Mth)(iv:List (Nat×Int))(pe nmax:Nat)(sc:Option (List Int32))(f1:Cfg MS→Option (Res MS))(f2:Cfg (W2 MS)→Option (Res (W2 MS))):Prop:=
 ∀c,f2 c=run (plan (cdOf ms2) (rtOf ms2) (mop2 f1 (iniS iv) pe nmax (naOf ms) (fun k=>(miOf ms k).2.2.1) (wmOf ms2) sc) (cop2 (naOf ms2) (fun k=>(miOf ms2 k).2.2.1) (wmOf ms2))) f2 c
set_option maxHeartbeats 1000000 in
theorem law_of{C own:String}{fs:Nat}{gds:List (String×String)}{fds:List (String×String×Nat)}{arrs:List (FieldType×Nat)}{fa:Bool}{items:List Item}{pe oi:Nat}{iv:List (Nat×Int)}{Tb Tb2:Tabs}{ms ms2:List Mth}{Z:State}{a0:Array Value}{l:Launch}{tw:List Jvm.Cond}{is1 is2:List Nat}{nmax:Nat}
  (hD:data1 (C,fs,gds,fds,arrs,fa,items,pe,oi,iv,Tb,ms)=true) (hG1:goodB Tb ms=true) (hR1:roomB ms ms callVk=true) (hD2:data2 C own ms ms2 Tb2=true) (hG2:goodB Tb2 ms2=true) (hRv:roomB ms2 ms callVk=true) (hRc:roomB ms2 ms callCk=true) (hRs:roomB ms2 ms2 callSk=true)
  (hb1:hasB tw (needs1 (C,fs,gds,fds,arrs,fa,items,pe,oi,iv,Tb,ms)) is1=true) (hb2:hasB tw (needs2 C own ms ms2 Tb2) is2=true) (hw:∀d∈tw,d.before a0 Z=true)
  {as:List Value} (hok:okv as=true) (hlen:(entL as).length≤(miOf ms2 0).2.2.1) {rm:Room} (hfr:(miOf ms2 0).2.2.2.1≤rm.frames) (hlw:(miOf ms2 0).2.2.2.2≤rm.locals) (hcl:nmax*(arrs.length+1)≤rm.cells) (hsl:nmax*(fs+slotSum arrs arrs.length)≤rm.slots) {h:Heap} {sa:Nat} {sc:Option (List Int32)}
  (hsc:∀xs,sc=some xs→sa<h.size∧xs.length<2147483648∧∃cell,Arr Z h sa cell .int∧cell.slots.size=xs.length∧∀i,i<xs.length→cell.slots[i]? = some (.int (xs.getD i 0)))
  {v:Option Value} (hrun:∀f1 f2,Fix1 arrs ms f1→Fix2 ms ms2 iv pe nmax sc f1 f2→∃W,f2 (0,0,entL as,[],(false,[]))=some (v,W)) (ws:List Jvm.Cond) :
  MetFree l (miOf ms2 0).1 (head1 (Cond.code (miOf ms2 0).1 (miOf ms2 0).2.1 (miOf ms2 0).2.2.1 (rtOf ms2 0)::ws) rm)
   (fun A U=>A=(as.map (cv (rho2 (arrs.length+1) (sa,h.size,0,0)))).toArray∧Z.Warmed39 U.vm∧U.heap=h) (fun _ _ _ _ _=>True)
   (fun _ U o U'=>∃v' L,o = .returned v'∧(v'=v∧Fr h.size L)∧FrameEnd U o U' L rm.cells rm.slots):=by
 have hw1:∀w∈needs1 (C,fs,gds,fds,arrs,fa,items,pe,oi,iv,Tb,ms),w.before a0 Z=true:=fun w h=>hw w (has_of hb1 w h)
 have hw2:∀w∈needs2 C own ms ms2 Tb2,w.before a0 Z=true:=fun w h=>hw w (has_of hb2 w h)
 obtain⟨B,hM⟩:=base_of hD hw1
 simp only[data2,Bool.and_eq_true,decide_eq_true_eq,List.all_eq_true] at hD2
 obtain⟨⟨⟨⟨⟨⟨d1,d2⟩,d3⟩,d4⟩,d5⟩,d6⟩,d7⟩:=hD2
 have u1:∀q∈Tb2.2.2.2.2.2.1,(Jvm.Cond.classLink own q.1 C).before a0 Z=true:=fun q hq=>hw2 _ (by
  simp only[needs2,List.mem_append]
  exact Or.inl (Or.inl (Or.inl (Or.inl (Or.inl (List.mem_map.mpr ⟨q,hq,rfl⟩))))))
 have u2:∀q∈Tb2.2.2.2.2.2.2,(Jvm.Cond.methodLink own q.1 (ms.getD 0 m0).1).before a0 Z=true:=fun q hq=>hw2 _ (by
  simp only[needs2,List.mem_append]
  exact Or.inl (Or.inl (Or.inl (Or.inl (Or.inr (List.mem_map.mpr ⟨q,hq,rfl⟩))))))
 have u3:∀q∈Tb2.2.1,(Jvm.Cond.methodLink own q.1 (ms.getD q.2 m0).1).before a0 Z=true:=fun q hq=>hw2 _ (by
  simp only[needs2,List.mem_append]
  exact Or.inl (Or.inl (Or.inl (Or.inr (List.mem_map.mpr ⟨q,hq,rfl⟩)))))
 have u4:∀q∈Tb2.2.2.1,∀w∈[Jvm.Cond.methodLink own q.1 (ms2.getD q.2 m0).1,.static (ms2.getD q.2 m0).1,.initialized own,.code (ms2.getD q.2 m0).1 (ms2.getD q.2 m0).2.1 (ms2.getD q.2 m0).2.2.1 (ms2.getD q.2 m0).2.2.2.2.2.1],w.before a0 Z=true:=fun q hq w hw'=>hw2 _ (by
  simp only[needs2,List.mem_append]
  exact Or.inl (Or.inl (Or.inr (List.mem_flatMap.mpr ⟨q,hq,hw'⟩))))
 have u5:∀q∈Tb2.2.2.2.1,(Jvm.Cond.constant own q.1 q.2).before a0 Z=true:=fun q hq=>hw2 _ (by
  simp only[needs2,List.mem_append]
  exact Or.inl (Or.inr (List.mem_map.mpr ⟨q,hq,rfl⟩)))
 have u6:∀q∈Tb2.2.2.2.2.1,(Jvm.Cond.constantLong own q.1 q.2).before a0 Z=true:=fun q hq=>hw2 _ (by
  simp only[needs2,List.mem_append]
  exact Or.inr (List.mem_map.mpr ⟨q,hq,rfl⟩))
 have v0:(Jvm.Cond.instanceMethod (ms.getD 0 m0).1).before a0 Z=true:=hw1 _ (by simp[needs1])
 have v1:(Jvm.Cond.code (ms.getD 0 m0).1 (ms.getD 0 m0).2.1 (ms.getD 0 m0).2.2.1 none).before a0 Z=true:=hw1 _ (by simp[needs1])
 have hdD:=hD
 simp only[data1,Bool.and_eq_true,decide_eq_true_eq] at hdD
 have h9:∀q∈Tb.2.1,(1≤q.2∧q.2<ms.length)∧(ms.getD q.2 m0).1.cls=C:=by
  have:=hdD.1.1.1.1.1.1.1.1.1.1.1.1.1.2
  simpa only [List.all_eq_true,Bool.and_eq_true,decide_eq_true_eq] using this
 have wl1:∀q∈Tb.2.1,(Jvm.Cond.methodLink C q.1 (ms.getD q.2 m0).1).before a0 Z=true:=fun q hq=>hw1 _ (by
  simp only[needs1,List.mem_append]
  exact Or.inl (Or.inl (Or.inl (Or.inr (List.mem_map.mpr ⟨q,hq,rfl⟩)))))
 have B':=B
 obtain⟨⟨K,-,hCs,-,wz⟩,⟨hpn,hC,-,-,-⟩,-⟩:=B'
 have W1:∀n,Walks (cdOf ms) (rtOf ms) (mop1 arrs gS upd) (cop1 (naOf ms) (fun k=>(miOf ms k).2.2.1) (wmOf ms)) (miOf ms) C Z l rho1 (J1 C fds arrs Z gS) n:=
  walks (cdOf ms) (rtOf ms) _ _ Tb (miOf ms) C Z l rho1 _ hCs (good_of hG1) (mop1_ok K upd_law)
   (cop1_ok K hpn wz hC (fun k idx hk=>hM C k idx Tb (fun idx' h'=>wl1 _ h') hk (h9 _ hk).2 (by have:=(h9 _ hk).1.1;simp only at this;omega)) (fun mm pc k pn kp hc=>room_of hR1 hc rfl))
 obtain⟨f1,hf1,hi1⟩:=exists_fix (plan (cdOf ms) (rtOf ms) (mop1 arrs gS upd) (cop1 (naOf ms) (fun k=>(miOf ms k).2.2.1) (wmOf ms)))
 have hcst2:Cst Tb2 Z a0 own:=⟨fun k v hq=>u5 _ hq,fun k v hq=>u6 _ hq⟩
 have hsta:StaOK Tb2 Z a0 (miOf ms2) (rtOf ms2) own (naOf ms2):=by
  intro idx k hk
  have hlt:=d6 _ hk
  simp only at hlt
  have e:ms2.getD k m0=ms2[k]:=by simp[List.getD,hlt]
  obtain⟨q1,q2⟩:=d4 ms2[k] (List.getElem_mem hlt)
  rw[←e] at q1 q2
  refine⟨q1,u4 _ hk _ (List.mem_cons_self ..),u4 _ hk _ (List.mem_cons_of_mem _ (List.mem_cons_self ..)),u4 _ hk _ (List.mem_cons_of_mem _ (List.mem_cons_of_mem _ (List.mem_cons_self ..))),u4 _ hk _ (List.mem_cons_of_mem _ (List.mem_cons_of_mem _ (List.mem_cons_of_mem _ (List.mem_cons_self ..)))),?_⟩
  unfold descB at q2
  split at q2
  ·rename_i ps r hp
   simp only[Bool.and_eq_true,decide_eq_true_eq] at q2
   refine⟨ps,?_,q2.2⟩
   rw[show rtOf ms2 k=r from q2.1.symm]
   exact hp
  ·cases q2
 obtain⟨z1,z2⟩:=iniS_spec iv
 have rV:∀mm pc k pn kp,cdOf ms2 mm pc=some (.invokevirtual k,pn,kp)→Room2 (miOf ms) (miOf ms2) (wmOf ms2) mm k:=fun mm pc k pn kp hc=>room_of (callees:=ms) (k:=k) hRv hc rfl
 have rC:∀mm pc k pn kp,cdOf ms2 mm pc=some (.invokespecial k,pn,kp)→Room2 (miOf ms) (miOf ms2) (wmOf ms2) mm 0:=fun mm pc k pn kp hc=>room_of (callees:=ms) (k:=0) hRc hc rfl
 have hvm:∀k idx,(idx,k)∈Tb2.2.1→MthOK C Tb2 Z a0 (miOf ms) (rtOf ms) own k (naOf ms):=fun k idx hk=>hM own k idx Tb2 (fun idx' h'=>u3 _ h') hk (d5 _ hk).2 (d5 _ hk).1
 have hnw:∀idx q,(idx,q)∈Tb2.2.2.2.2.2.1→(Cond.classLink own idx C).before a0 Z=true:=fun idx q hq=>u1 (idx,q) hq
 have hcw:CtW Z a0 Tb2 own (miOf ms 0).1 (miOf ms 0).2.1 (miOf ms 0).2.2.1:=⟨fun idx q hq=>u2 _ hq,v0,v1⟩
 have hmop:MopOK (cdOf ms2) (rtOf ms2) (mop2 f1 (iniS iv) pe nmax (naOf ms) (fun k=>(miOf ms k).2.2.1) (wmOf ms2) sc) Tb2 (miOf ms2) own Z l (rho2 (arrs.length+1)) (J2 C gds fds arrs Z gS fs nmax sc):=
  mop2_ok (σ:=MS) (C:=C) (gds:=gds) (fds:=fds) (arrs:=arrs) (Z:=Z) (G:=gS) (fs:=fs) (nmax:=nmax) (sc:=sc) (Tb1:=Tb) (Tb2:=Tb2) (a0:=a0) (mi1:=miOf ms) (mi2:=miOf ms2) (rt1:=rtOf ms) (rt2:=rtOf ms2) (l:=l) (own:=own) (na1:=naOf ms) (wm2:=wmOf ms2) (code1:=cdOf ms) (items:=items) (pe:=pe) (oi:=oi) (Z0:=iniS iv) (iv:=iv) (code2:=cdOf ms2) (f1:=f1) B W1 hi1 z1 z2 hnw hcw hvm rV rC
 have hcop:CopOK (cdOf ms2) (rtOf ms2) (mop2 f1 (iniS iv) pe nmax (naOf ms) (fun k=>(miOf ms k).2.2.1) (wmOf ms2) sc) (cop2 (naOf ms2) (fun k=>(miOf ms2 k).2.2.1) (wmOf ms2)) Tb2 (miOf ms2) own Z l (rho2 (arrs.length+1)) (J2 C gds fds arrs Z gS fs nmax sc):=
  cop2_ok (σ:=MS) (C:=C) (gds:=gds) (fds:=fds) (arrs:=arrs) (Z:=Z) (G:=gS) (fs:=fs) (nmax:=nmax) (sc:=sc) (Tb2:=Tb2) (a0:=a0) (mi2:=miOf ms2) (rt2:=rtOf ms2) (l:=l) (own:=own) (na2:=naOf ms2) (wm2:=wmOf ms2) (code2:=cdOf ms2) d3 ⟨d1,d2⟩ hsta (fun mm pc k pn kp hc=>room_of hRs hc rfl)
 have W2':∀n,Walks (cdOf ms2) (rtOf ms2) (mop2 f1 (iniS iv) pe nmax (naOf ms) (fun k=>(miOf ms k).2.2.1) (wmOf ms2) sc) (cop2 (naOf ms2) (fun k=>(miOf ms2 k).2.2.1) (wmOf ms2)) (miOf ms2) own Z l (rho2 (arrs.length+1)) (J2 C gds fds arrs Z gS fs nmax sc) n:=
  walks (cdOf ms2) (rtOf ms2) _ _ Tb2 (miOf ms2) own Z l (rho2 (arrs.length+1)) _ hcst2 (good_of hG2) hmop hcop
 obtain⟨f2,hf2,hi2⟩:=exists_fix (plan (cdOf ms2) (rtOf ms2) (mop2 f1 (iniS iv) pe nmax (naOf ms) (fun k=>(miOf ms k).2.2.1) (wmOf ms2) sc) (cop2 (naOf ms2) (fun k=>(miOf ms2 k).2.2.1) (wmOf ms2)))
 obtain⟨W,hW⟩:=hrun f1 f2 hf1 hf2
 obtain⟨n,hn⟩:=hi2 _ _ hW
 have e:ms2.getD 0 m0=ms2[0]:=by simp[List.getD,d7]
 have q1:=(d4 ms2[0] (List.getElem_mem d7)).1
 rw[←e] at q1
 have q1':(miOf ms2 0).1.cls=own:=q1
 exact top (W2' n) d3 q1' hok hlen hn hfr hlw hcl hsl hsc ws
def evB(o:Jvm.Binary)(x y:Int32):Int32:=match o with
 | .iand=>x&&&y
 | .ior=>x|||y
 | .ixor=>x^^^y
 | .ishl=>x<<<(y&&&31)
 | .ishr=>x>>>(y&&&31)
 | .iushr=>XT.ushr x y
 |_=>0
def evU(o:Jvm.Unary)(x:Int32):Int32:=match o with
 | .ineg => -x
 | .i2b=>x.toInt8.toInt32
 |_=>0
def ev(ρ:Nat→Int32):Jvm.Term→Int32
 | .int v=>v
 | .arg i=>ρ i
 | .add a b=>ev ρ a+ev ρ b
 | .sub a b=>ev ρ a-ev ρ b
 | .mul a b=>ev ρ a*ev ρ b
 | .div a b=>ev ρ a/ev ρ b
 | .rem a b=>ev ρ a%ev ρ b
 | .op2 o a b=>evB o (ev ρ a) (ev ρ b)
 | .op1 o a=>evU o (ev ρ a)
 |_=>0
def cst(t:Jvm.Term):Option Int32:=match t with
 | .int v=>some v
 |_=>none
abbrev SV:=Jvm.Term⊕Value
abbrev SL:=List SV
abbrev Fct:=Bool×Jvm.Term×Jvm.Term×Bool
abbrev Pth:=List Fct
abbrev Rng:=Int×Int
def full:Rng:=(-2147483648,2147483647)
def one(x:Int32):Rng:=(x.toInt,x.toInt)
def mn(a b:Int):Int:=if a≤b then a else b
def mx(a b:Int):Int:=if a≤b then b else a
def tg(t:Jvm.Term):Nat:=match t with
 | .int _=>0
 | .arg _=>1
 | .add _ _=>2
 | .sub _ _=>3
 | .mul _ _=>4
 | .op2 _ _ _=>5
 |_=>6
def eqT(a b:Jvm.Term):Bool:=Nat.beq (tg a) (tg b)&&decide (a=b)
def cut(r s:Rng):Rng:=if s.1=s.2 then (if s.1=r.1 then (r.1+1,r.2) else if s.1=r.2 then (r.1,r.2-1) else r) else r
def fb1(g:Jvm.Term→Rng)(t:Jvm.Term)(f:Fct)(r:Rng):Rng:=match f with
 |(true,a,b,true)=>if eqT a t=true then (r.1,mn r.2 ((g b).2-1)) else if eqT b t=true then (mx r.1 ((g a).1+1),r.2) else r
 |(true,a,b,false)=>if eqT a t=true then (mx r.1 (g b).1,r.2) else if eqT b t=true then (r.1,mn r.2 (g a).2) else r
 |(false,a,b,true)=>if eqT a t=true then (mx r.1 (g b).1,mn r.2 (g b).2) else if eqT b t=true then (mx r.1 (g a).1,mn r.2 (g a).2) else r
 |(false,a,b,false)=>if eqT a t=true then cut r (g b) else if eqT b t=true then cut r (g a) else r
section Paths
variable {ρ:Nat→Int32}
def fb(g:Jvm.Term→Rng)(t:Jvm.Term):Pth→Rng→Rng
 |[],r=>r
 |f::P,r=>fb1 g t f (fb g t P r)
def g0(t:Jvm.Term):Rng:=match cst t with
 |some c=>one c
 |none=>full
def rng0(P:Pth)(t:Jvm.Term):Rng:=fb g0 t P (g0 t)
def bin(g:Int32→Int32→Int32)(x y:Rng):Rng:=if x.1=x.2∧y.1=y.2 then one (g (Int32.ofInt x.1) (Int32.ofInt y.1)) else full
def unr(g:Int32→Int32)(x:Rng):Rng:=if x.1=x.2 then one (g (Int32.ofInt x.1)) else full
def mab(o:Jvm.Binary)(x y:Rng):Rng:=match o with
 | .iand=>if (x.1=x.2∧y.1=y.2)∨¬(y.1=y.2∧0≤y.1) then bin (evB .iand) x y else (0,y.1)
 |o=>bin (evB o) x y
def dvb(x y:Rng):Rng:=if (x.1=x.2∧y.1=y.2)∨¬(y.1=y.2∧0<y.1) then bin (fun x y=>x/y) x y else (x.1.tdiv y.1,x.2.tdiv y.1)
def rng1(P:Pth):Jvm.Term→Rng
 | .int c=>one c
 | .arg i=>fb (rng0 P) (.arg i) P full
 | .add a b=>fb (rng0 P) (.add a b) P (bin (fun x y=>x+y) (rng1 P a) (rng1 P b))
 | .sub a b=>fb (rng0 P) (.sub a b) P (bin (fun x y=>x-y) (rng1 P a) (rng1 P b))
 | .mul a b=>fb (rng0 P) (.mul a b) P (bin (fun x y=>x*y) (rng1 P a) (rng1 P b))
 | .div a b=>fb (rng0 P) (.div a b) P (dvb (rng1 P a) (rng1 P b))
 | .rem a b=>fb (rng0 P) (.rem a b) P (bin (fun x y=>x%y) (rng1 P a) (rng1 P b))
 | .op2 o a b=>fb (rng0 P) (.op2 o a b) P (mab o (rng1 P a) (rng1 P b))
 | .op1 o a=>fb (rng0 P) (.op1 o a) P (unr (evU o) (rng1 P a))
 |_=>full
def lkp(q:Bool)(a b:Jvm.Term):Pth→Option Bool
 |[]=>none
 |f::P=>if (f.1==q&&eqT f.2.1 a&&eqT f.2.2.1 b)=true then some f.2.2.2 else lkp q a b P
def decR(q:Bool)(x y:Rng):Option Bool:=match q with
 |true=>if x.2<y.1 then some true else if y.2≤x.1 then some false else none
 |false=>if x.2<y.1 then some false else if y.2<x.1 then some false else if x.1=x.2∧y.1=y.2∧x.1=y.1 then some true else none
def sg(P:Pth)(t t':Jvm.Term):Jvm.Term:=if (rng1 P t).1=(rng1 P t).2 then .int (Int32.ofInt (rng1 P t).1) else t'
def isC(v:Int32)(t:Jvm.Term):Bool:=match cst t with
 |some x=>decide (x=v)
 |none=>false
def lob:Jvm.Term→Jvm.Term
 | .add a b => .add (lob a) (lob b)
 | .op2 o a b=>if (decide (o = .iand)&&isC 255 b)=true then lob a else .op2 o a b
 |t=>t
def nrm(P:Pth):Jvm.Term→Jvm.Term
 | .int v => .int v
 | .arg i=>sg P (.arg i) (.arg i)
 | .add a b=>sg P (.add a b) (.add (nrm P a) (nrm P b))
 | .sub a b=>sg P (.sub a b) (if isC 0 (nrm P b)=true then nrm P a else .sub (nrm P a) (nrm P b))
 | .mul a b=>sg P (.mul a b) (.mul (nrm P a) (nrm P b))
 | .div a b=>sg P (.div a b) (if isC 1 (nrm P b)=true then nrm P a else .div (nrm P a) (nrm P b))
 | .rem a b=>sg P (.rem a b) (if (isC 1 (nrm P b)||isC (-1) (nrm P b))=true then .int 0 else .rem (nrm P a) (nrm P b))
 | .op2 o a b=>sg P (.op2 o a b) (if (decide (o = .iand)&&isC 255 (nrm P b))=true then .op2 o (lob (nrm P a)) (nrm P b) else .op2 o (nrm P a) (nrm P b))
 | .op1 o a=>sg P (.op1 o a) (.op1 o (nrm P a))
 |t=>t
def dec(P:Pth)(q:Bool)(a b:Jvm.Term):Option Bool:=match cst a,cst b with
 |some x,some y=>some (match q with
  |true=>decide (x<y)
  |false=>decide (x=y))
 |_,_=>if eqT a b=true then some (!q) else match lkp q a b P with
  |some v=>some v
  |none=>(match decR q (rng1 P a) (rng1 P b) with
   |some v=>some v
   |none=>if eqT (nrm P a) (nrm P b)=true then some (!q) else lkp q (nrm P a) (nrm P b) P)
end Paths
abbrev CF:=Nat×Nat×SL×SL
abbrev SS:=List (List (List Jvm.Term))
def setC{α β:Type}(d:α):List α→Nat→α→(List α→β)→β
 |[],0,v,k=>k [v]
 |[],n+1,v,k=>setC d [] n v fun r=>k (d::r)
 |_::r,0,v,k=>k (v::r)
 |x::r,n+1,v,k=>setC d r n v fun r'=>k (x::r')
def fN{β:Type}(n:Nat)(k:Nat→β):β:=match n with
 |0=>k 0
 |n+1=>k (n+1)
def fI{β:Type}(x:Int32)(k:Int32→β):β:=fN x.toBitVec.toNat fun n=>k (Int32.ofBitVec (BitVec.ofNat 32 n))
def fT{β:Type}(t:Jvm.Term)(k:Jvm.Term→β):β:=match cst t with
 |some x=>fI x fun y=>k (.int y)
 |none=>k t
def wr{β:Type}(S:SS)(c i:Nat)(v:Jvm.Term)(k:SS→β):β:=fT v fun v=>fN (i/16) fun a=>fN (i%16) fun b=>setC (.int 0) ((S.getD c []).getD a []) b v fun l=>setC [] (S.getD c []) a l fun r=>setC [] S c r k
def tkS:Nat→SL→SL→Option (SL×SL)
 |0,acc,st=>some (acc,st)
 |n+1,acc,v::st=>tkS n (v::acc) st
 |_+1,_,[]=>none
def okns:SL→Bool
 |[]=>true
 | .inl _::r=>okns r
 | .inr (.long _)::r=>okns r
 |_::_=>false
def okvs:SL→Bool
 |[]=>true
 | .inl _::r=>okvs r
 | .inr (.long _)::r=>okvs r
 | .inr (.ref _)::r=>okvs r
 |_::_=>false
def catS:SV→Nat
 | .inl _=>1
 | .inr v=>v.category
def catsS:SL→Nat
 |[]=>0
 |v::r=>catS v+catsS r
def entLs:SL→SL
 |[]=>[]
 | .inr (.long v)::r => .inr (.long v) :: .inr .null::entLs r
 |v::r=>v::entLs r
abbrev Fr:=Nat×Nat×SL×SL
abbrev Ctx:=List Fr×Option Nat×List SS×Bool×List Fr
abbrev Rec:=Pth→Bool→CF→SS→Ctx→Bool
section Whole
variable (cd1 cd2:Codes) (rt1 rt2:Nat→Option FieldType) (arrs:List (FieldType×Nat)) (na1 ml1 wm1 na2 ml2 wm2:Nat→Nat) (Z0:SS) (pe nmax:Nat) (fin:Pth→Option SV→SS→Bool) (hv:Nat→Nat→Option Nat)
def s2new(r:Rec)(P:Pth)(m pn:Nat)(ls st:SL)(ob:List SS)(raw:Bool)(K2:List Fr):Bool:=match raw with
 |true=>false
 |false=>if (Nat.beq m 0&&Nat.blt ob.length nmax)=true then r P false (m,pn,ls,.inr (.ref (ob.length+1))::st) [] ([],none,ob,true,K2) else false
def s2ct(r:Rec)(P:Pth)(m pn:Nat)(ls st:SL)(ob:List SS)(raw:Bool)(K2:List Fr):Bool:=match raw with
 |false=>false
 |true=>(match tkS (na1 0) [] st with
  |some (as,.inr (.ref x)::rs)=>if (Nat.beq m 0&&Nat.beq x (ob.length+1)&&okns as&&Nat.ble (catsS rs) (wm2 m)&&Nat.ble (entLs (.inr (.ref 0)::as)).length (ml1 0))=true then r P true (0,pe,entLs (.inr (.ref 0)::as),[]) Z0 ([],none,ob,false,(m,pn,ls,rs)::K2) else false
  |_=>false)
def s2vt(r:Rec)(P:Pth)(k m pn:Nat)(ls st:SL)(ob:List SS)(raw:Bool)(K2:List Fr):Bool:=match raw with
 |true=>false
 |false=>(match tkS (na1 k) [] st with
  |some (as,.inr (.ref (j+1))::rs)=>(match ob[j]? with
   |some S=>if (okns as&&Nat.ble (catsS rs) (wm2 m)&&Nat.ble (entLs (.inr (.ref 0)::as)).length (ml1 k))=true then r P true (k,0,entLs (.inr (.ref 0)::as),[]) S ([],some j,ob,false,(m,pn,ls,rs)::K2) else false
   |none=>false)
  |_=>false)
def s2st(r:Rec)(P:Pth)(k m pn:Nat)(ls st:SL)(ob:List SS)(raw:Bool)(K2:List Fr):Bool:=match tkS (na2 k) [] st with
 |some (as,rs)=>if (!(Nat.beq k 0)&&okvs as&&Nat.ble (catsS rs) (wm2 m)&&Nat.ble (entLs as).length (ml2 k))=true then r P false (k,0,entLs as,[]) [] ([],none,ob,raw,(m,pn,ls,rs)::K2) else false
 |none=>false
abbrev Lhd:=Rec→Pth→Nat→Nat→SL→SL→List SS→Bool→List Fr→Bool
def s2(i:Instr):Option Lhd:=match i with
 | .new _=>some fun r P m pn ls st ob raw K2=>s2new nmax r P m pn ls st ob raw K2
 | .invokespecial _=>some fun r P m pn ls st ob raw K2=>s2ct na1 ml1 wm2 Z0 pe r P m pn ls st ob raw K2
 | .invokevirtual k=>some fun r P m pn ls st ob raw K2=>s2vt na1 ml1 wm2 r P k m pn ls st ob raw K2
 | .invokestatic k=>some fun r P m pn ls st ob raw K2=>s2st na2 ml2 wm2 r P k m pn ls st ob raw K2
 |_=>none
end Whole
theorem bm32{x:Int}(h1 : -2147483648≤x)(h2:x≤2147483647):x.bmod (2 ^ 32)=x:=by
 show Int.bmod x 4294967296=x
 rw[Int.bmod_def]
 split<;>omega
abbrev K4:=Nat×Nat×List Value×List Value
abbrev HF{τ:Type}(code:Codes)(rt:Nat→Option FieldType)(mop:Mop τ)(cop:Cop)(f:Cfg τ→Option (Res τ)):Prop:=∀c,f c=run (plan code rt mop cop) f c
section S0
variable {τ:Type} {code:Codes} {rt:Nat→Option FieldType} {mop:Mop τ} {cop:Cop} {f:Cfg τ→Option (Res τ)} {m pc pn k t a:Nat} {kp:Option Nat} {ls st:List Value} {S:τ} {R R':Option (Res τ)} {x y v v':Int32} {X Y:Int64} {i:Instr} {c:Int}
theorem Jr(hf:HF code rt mop cop f)(h:code m pc=some (i,pn,some k))(r:f (m,pc,ls.take k,st,S)=R):f (m,pc,ls,st,S)=R:=(F.head hf h).trans r
theorem Jt(hf:HF code rt mop cop f)(h:code m pc=some (.iadd,pn,kp))(r:f (m,pn,ls,.int (x+y)::st,S)=R)(hk:tk kp ls=ls:=by rfl):f (m,pc,ls,.int y :: .int x::st,S)=R:=(F.iadd hf h hk).trans r
theorem JG(hf:HF code rt mop cop f)(h:code m pc=some (.isub,pn,kp))(r:f (m,pn,ls,.int (x-y)::st,S)=R)(hk:tk kp ls=ls:=by rfl):f (m,pc,ls,.int y :: .int x::st,S)=R:=(F.isub hf h hk).trans r
theorem Jz(hf:HF code rt mop cop f)(h:code m pc=some (.imul,pn,kp))(r:f (m,pn,ls,.int (x*y)::st,S)=R)(hk:tk kp ls=ls:=by rfl):f (m,pc,ls,.int y :: .int x::st,S)=R:=(F.imul hf h hk).trans r
theorem Ju(hf:HF code rt mop cop f)(h:code m pc=some (.iand,pn,kp))(r:f (m,pn,ls,.int (x&&&y)::st,S)=R)(hk:tk kp ls=ls:=by rfl):f (m,pc,ls,.int y :: .int x::st,S)=R:=(F.iand hf h hk).trans r
theorem JD(hf:HF code rt mop cop f)(h:code m pc=some (.ixor,pn,kp))(r:f (m,pn,ls,.int (x^^^y)::st,S)=R)(hk:tk kp ls=ls:=by rfl):f (m,pc,ls,.int y :: .int x::st,S)=R:=(F.ixor hf h hk).trans r
theorem JV(hf:HF code rt mop cop f)(h:code m pc=some (.ishr,pn,kp))(r:f (m,pn,ls,.int (x>>>(y&&&31))::st,S)=R)(hk:tk kp ls=ls:=by rfl):f (m,pc,ls,.int y :: .int x::st,S)=R:=(F.ishr hf h hk).trans r
theorem JW(hf:HF code rt mop cop f)(h:code m pc=some (.irem,pn,kp))(hy:y≠0)(r:f (m,pn,ls,.int (x%y)::st,S)=R)(hk:tk kp ls=ls:=by rfl):f (m,pc,ls,.int y :: .int x::st,S)=R:=(F.irem hf h hk hy).trans r
theorem Jad(hf:HF code rt mop cop f)(h:code m pc=some (.lrem,pn,kp))(hy:Y≠0)(r:f (m,pn,ls,.long (X%Y)::st,S)=R)(hk:tk kp ls=ls:=by rfl):f (m,pc,ls,.long Y :: .long X::st,S)=R:=(F.lrem hf h hk hy).trans r
theorem J7(hf:HF code rt mop cop f)(h:code m pc=some (.ladd,pn,kp))(r:f (m,pn,ls,.long (X+Y)::st,S)=R)(hk:tk kp ls=ls:=by rfl):f (m,pc,ls,.long Y :: .long X::st,S)=R:=(F.ladd hf h hk).trans r
theorem Jaf(hf:HF code rt mop cop f)(h:code m pc=some (.lmul,pn,kp))(r:f (m,pn,ls,.long (X*Y)::st,S)=R)(hk:tk kp ls=ls:=by rfl):f (m,pc,ls,.long Y :: .long X::st,S)=R:=(F.lmul hf h hk).trans r
theorem J6(hf:HF code rt mop cop f)(h:code m pc=some (.land,pn,kp))(r:f (m,pn,ls,.long (X&&&Y)::st,S)=R)(hk:tk kp ls=ls:=by rfl):f (m,pc,ls,.long Y :: .long X::st,S)=R:=(F.land hf h hk).trans r
theorem Jag(hf:HF code rt mop cop f)(h:code m pc=some (.lor,pn,kp))(r:f (m,pn,ls,.long (X|||Y)::st,S)=R)(hk:tk kp ls=ls:=by rfl):f (m,pc,ls,.long Y :: .long X::st,S)=R:=(F.lor hf h hk).trans r
theorem Jai(hf:HF code rt mop cop f)(h:code m pc=some (.lshl,pn,kp))(r:f (m,pn,ls,.long (X<<<(y.toInt64&&&63))::st,S)=R)(hk:tk kp ls=ls:=by rfl):f (m,pc,ls,.int y :: .long X::st,S)=R:=(F.lshl hf h hk).trans r
theorem Jaj(hf:HF code rt mop cop f)(h:code m pc=some (.lushr,pn,kp))(r:f (m,pn,ls,.long (XT.ushrL X y)::st,S)=R)(hk:tk kp ls=ls:=by rfl):f (m,pc,ls,.int y :: .long X::st,S)=R:=(F.lushr hf h hk).trans r
theorem Jak(hf:HF code rt mop cop f)(h:code m pc=some (.lcmp,pn,kp))(r:f (m,pn,ls,.int (XT.cmpL X Y)::st,S)=R)(hk:tk kp ls=ls:=by rfl):f (m,pc,ls,.long Y :: .long X::st,S)=R:=(F.lcmp hf h hk).trans r
theorem Jal(hf:HF code rt mop cop f)(h:code m pc=some (.ineg,pn,kp))(r:f (m,pn,ls,.int (-x)::st,S)=R)(hk:tk kp ls=ls:=by rfl):f (m,pc,ls,.int x::st,S)=R:=(F.ineg hf h hk).trans r
theorem JU(hf:HF code rt mop cop f)(h:code m pc=some (.i2l,pn,kp))(r:f (m,pn,ls,.long x.toInt64::st,S)=R)(hk:tk kp ls=ls:=by rfl):f (m,pc,ls,.int x::st,S)=R:=(F.i2l hf h hk).trans r
theorem Jam(hf:HF code rt mop cop f)(h:code m pc=some (.l2i,pn,kp))(r:f (m,pn,ls,.int X.toInt32::st,S)=R)(hk:tk kp ls=ls:=by rfl):f (m,pc,ls,.long X::st,S)=R:=(F.l2i hf h hk).trans r
theorem JN(hf:HF code rt mop cop f)(h:code m pc=some (.dup,pn,kp))(r:f (m,pn,ls,.ref a :: .ref a::st,S)=R)(hk:tk kp ls=ls:=by rfl):f (m,pc,ls,.ref a::st,S)=R:=(F.dupA hf h hk).trans r
theorem JM(hf:HF code rt mop cop f)(h:code m pc=some (.pop,pn,kp))(r:f (m,pn,ls,st,S)=R)(hk:tk kp ls=ls:=by rfl):f (m,pc,ls,.int x::st,S)=R:=(F.popI hf h hk).trans r
theorem Jc(hf:HF code rt mop cop f)(h:code m pc=some (.iconst c,pn,kp))(hv:Int32.ofInt c=v)(r:f (m,pn,ls,.int v::st,S)=R)(hk:tk kp ls=ls:=by rfl):f (m,pc,ls,st,S)=R:=(F.iconst hf h hk hv).trans r
theorem JS(hf:HF code rt mop cop f){i:Fin 2}(h:code m pc=some (.lconst i,pn,kp))(hv:Int64.ofNat i=X)(r:f (m,pn,ls,.long X::st,S)=R)(hk:tk kp ls=ls:=by rfl):f (m,pc,ls,st,S)=R:=(F.lconst hf h hk hv).trans r
theorem J4(hf:HF code rt mop cop f)(h:code m pc=some (.ldc2_w k,pn,kp))(hv:Int64.ofNat k=X)(r:f (m,pn,ls,.long X::st,S)=R)(hk:tk kp ls=ls:=by rfl):f (m,pc,ls,st,S)=R:=(F.ldcJ hf h hk hv).trans r
theorem Jb(hf:HF code rt mop cop f)(h:code m pc=some (.iload k,pn,kp))(hl:ls[k]? = some (.int v))(r:f (m,pn,ls,.int v::st,S)=R)(hk:tk kp ls=ls:=by rfl):f (m,pc,ls,st,S)=R:=(F.iload hf h hk hl).trans r
theorem Jd(hf:HF code rt mop cop f)(h:code m pc=some (.aload k,pn,kp))(hl:ls[k]? = some (.ref a))(r:f (m,pn,ls,.ref a::st,S)=R)(hk:tk kp ls=ls:=by rfl):f (m,pc,ls,st,S)=R:=(F.aload hf h hk hl).trans r
theorem JH(hf:HF code rt mop cop f)(h:code m pc=some (.lload k,pn,kp))(hl:ls[k]? = some (.long X))(r:f (m,pn,ls,.long X::st,S)=R)(hk:tk kp ls=ls:=by rfl):f (m,pc,ls,st,S)=R:=(F.lload hf h hk hl).trans r
theorem Je(hf:HF code rt mop cop f)(h:code m pc=some (.istore k,pn,kp))(l:List Value)(r:f (m,pn,l,st,S)=R)(hk:tk kp ls=ls:=by rfl)(hl:st1 ls k (.int v)=l:=by rfl):f (m,pc,ls,.int v::st,S)=R:=(F.istore hf h hk hl).trans r
theorem J9(hf:HF code rt mop cop f)(h:code m pc=some (.astore k,pn,kp))(l:List Value)(r:f (m,pn,l,st,S)=R)(hk:tk kp ls=ls:=by rfl)(hl:st1 ls k (.ref a)=l:=by rfl):f (m,pc,ls,.ref a::st,S)=R:=(F.astore hf h hk hl).trans r
theorem JL(hf:HF code rt mop cop f)(h:code m pc=some (.lstore k,pn,kp))(l:List Value)(r:f (m,pn,l,st,S)=R)(hk:tk kp ls=ls:=by rfl)(hl:st2 ls k (.long X)=l:=by rfl):f (m,pc,ls,.long X::st,S)=R:=(F.lstore hf h hk hl).trans r
theorem Jn(hf:HF code rt mop cop f)(h:code m pc=some (.iinc k c,pn,kp))(hv:Int32.ofInt c=v')(hl0:ls[k]? = some (.int v))(l:List Value)(r:f (m,pn,l,st,S)=R)(hk:tk kp ls=ls:=by rfl)(hl:st1 ls k (.int (v+v'))=l:=by rfl):f (m,pc,ls,st,S)=R:=(F.iinc hf h hk hv hl0 hl).trans r
theorem Jh(hf:HF code rt mop cop f)(h:code m pc=some (.goto (Int.ofNat t),pn,kp))(r:f (m,t,ls,st,S)=R)(hk:tk kp ls=ls:=by rfl):f (m,pc,ls,st,S)=R:=(F.goto hf h hk).trans r
theorem Jy(hf:HF code rt mop cop f)(h:code m pc=some (.ifCond .eq (Int.ofNat t),pn,kp))(r:f (m,t,ls,st,S)=R)(r':f (m,pn,ls,st,S)=R')(hk:tk kp ls=ls:=by rfl):f (m,pc,ls,.int x::st,S)=if x=0 then R else R':=(F.ifeq hf h hk).trans (ite2 r r')
theorem JA(hf:HF code rt mop cop f)(h:code m pc=some (.if_icmp .eq (Int.ofNat t),pn,kp))(r:f (m,t,ls,st,S)=R)(r':f (m,pn,ls,st,S)=R')(hk:tk kp ls=ls:=by rfl):f (m,pc,ls,.int y :: .int x::st,S)=if x=y then R else R':=(F.iceq hf h hk).trans (ite2 r r')
theorem Js(hf:HF code rt mop cop f)(h:code m pc=some (.ifCond .ne (Int.ofNat t),pn,kp))(r:f (m,pn,ls,st,S)=R)(r':f (m,t,ls,st,S)=R')(hk:tk kp ls=ls:=by rfl):f (m,pc,ls,.int x::st,S)=if x=0 then R else R':=(F.ifne hf h hk).trans (ite2 r r')
theorem Jp(hf:HF code rt mop cop f)(h:code m pc=some (.if_icmp .ne (Int.ofNat t),pn,kp))(r:f (m,pn,ls,st,S)=R)(r':f (m,t,ls,st,S)=R')(hk:tk kp ls=ls:=by rfl):f (m,pc,ls,.int y :: .int x::st,S)=if x=y then R else R':=(F.icne hf h hk).trans (ite2 r r')
theorem JB(hf:HF code rt mop cop f)(h:code m pc=some (.ifCond .lt (Int.ofNat t),pn,kp))(r:f (m,t,ls,st,S)=R)(r':f (m,pn,ls,st,S)=R')(hk:tk kp ls=ls:=by rfl):f (m,pc,ls,.int x::st,S)=if x<0 then R else R':=(F.iflt hf h hk).trans (ite2 r r')
theorem JJ(hf:HF code rt mop cop f)(h:code m pc=some (.if_icmp .lt (Int.ofNat t),pn,kp))(r:f (m,t,ls,st,S)=R)(r':f (m,pn,ls,st,S)=R')(hk:tk kp ls=ls:=by rfl):f (m,pc,ls,.int y :: .int x::st,S)=if x<y then R else R':=(F.iclt hf h hk).trans (ite2 r r')
theorem JP(hf:HF code rt mop cop f)(h:code m pc=some (.ifCond .ge (Int.ofNat t),pn,kp))(r:f (m,pn,ls,st,S)=R)(r':f (m,t,ls,st,S)=R')(hk:tk kp ls=ls:=by rfl):f (m,pc,ls,.int x::st,S)=if x<0 then R else R':=(F.ifge hf h hk).trans (ite2 r r')
theorem Jm(hf:HF code rt mop cop f)(h:code m pc=some (.if_icmp .ge (Int.ofNat t),pn,kp))(r:f (m,pn,ls,st,S)=R)(r':f (m,t,ls,st,S)=R')(hk:tk kp ls=ls:=by rfl):f (m,pc,ls,.int y :: .int x::st,S)=if x<y then R else R':=(F.icge hf h hk).trans (ite2 r r')
theorem Jab(hf:HF code rt mop cop f)(h:code m pc=some (.ifCond .le (Int.ofNat t),pn,kp))(r:f (m,pn,ls,st,S)=R)(r':f (m,t,ls,st,S)=R')(hk:tk kp ls=ls:=by rfl):f (m,pc,ls,.int x::st,S)=if 0<x then R else R':=(F.ifle hf h hk).trans (ite2 r r')
theorem JO(hf:HF code rt mop cop f)(h:code m pc=some (.if_icmp .le (Int.ofNat t),pn,kp))(r:f (m,pn,ls,st,S)=R)(r':f (m,t,ls,st,S)=R')(hk:tk kp ls=ls:=by rfl):f (m,pc,ls,.int y :: .int x::st,S)=if y<x then R else R':=(F.icle hf h hk).trans (ite2 r r')
theorem Jk(hf:HF code rt mop cop f)(h:code m pc=some (.return_,pn,kp))(hr:rt m=none:=by rfl):f (m,pc,ls,[],S)=some (none,S):=F.retn hf h hr
theorem Ji(hf:HF code rt mop cop f)(h:code m pc=some (.ireturn,pn,kp))(hr:rt m=some .int:=by rfl):f (m,pc,ls,[.int v],S)=some (some (.int v),S):=F.reti hf h hr
theorem Jl(hf:HF code rt mop cop f)(h:code m pc=some (.ireturn,pn,kp))(hr:rt m=some .boolean:=by rfl):f (m,pc,ls,[.int 0],S)=some (some (.int 0),S):=F.retb hf h hr
theorem JC(hf:HF code rt mop cop f)(h:code m pc=some (.ireturn,pn,kp))(hr:rt m=some .boolean:=by rfl):f (m,pc,ls,[.int 1],S)=some (some (.int 1),S):=F.retb hf h hr
end S0
section S1
variable {code:Codes} {rt:Nat→Option FieldType} {arrs:List (FieldType×Nat)} {na ml wm:Nat→Nat} {f:Cfg MS→Option (Res MS)} {m pc pn j n k:Nat} {kp:Option Nat} {ls st:List Value} {S:MS} {R:Option (Res MS)} {v i:Int32} {ty:FieldType}
abbrev HF1(code:Codes)(rt:Nat→Option FieldType)(arrs:List (FieldType×Nat))(na ml wm:Nat→Nat)(f:Cfg MS→Option (Res MS)):Prop:=∀c,f c=run (plan code rt (mop1 arrs gS upd) (cop1 na ml wm)) f c
theorem Jj(hf:HF1 code rt arrs na ml wm f)(h:code m pc=some (.getfield k,pn,kp))(w:Int32)(r:f (m,pn,ls,.int w::st,S)=R)(hk:tk kp ls=ls:=by rfl)(h3:k%3≠2:=by decide)(hw:S 0 (k/3)=w:=by rfl):f (m,pc,ls,.ref 0::st,S)=R:=(F.getI hf h hk h3 rfl hw).trans r
theorem Jg(hf:HF1 code rt arrs na ml wm f)(h:code m pc=some (.getfield k,pn,kp))(r:f (m,pn,ls,.ref (k/3+1)::st,S)=R)(hk:tk kp ls=ls:=by rfl)(h3:k%3=2:=by rfl):f (m,pc,ls,.ref 0::st,S)=R:=(F.getA hf h hk h3 rfl).trans r
theorem Jw(hf:HF1 code rt arrs na ml wm f)(h:code m pc=some (.putfield k,pn,kp))(r:f (m,pn,ls,st,upd S 0 (k/3) v)=R)(hk:tk kp ls=ls:=by rfl)(h3:k%3=0:=by rfl):f (m,pc,ls,.int v :: .ref 0::st,S)=R:=(F.putI hf h hk h3 rfl).trans r
theorem Jo(hf:HF1 code rt arrs na ml wm f)(h:code m pc=some (.iaload,pn,kp))(ha:arrs[j]? = some (ty,n))(w:Int32)(r:inb i n=true→f (m,pn,ls,.int w::st,S)=R)(hk:tk kp ls=ls:=by rfl)(ht:isI ty=true:=by rfl)(hw:S (j+1) i.toNatClampNeg=w:=by rfl):f (m,pc,ls,.int i :: .ref (j+1)::st,S)=if inb i n=true then R else none:=(F.iaload hf h hk ha ht hw).trans (iteH r)
theorem JF(hf:HF1 code rt arrs na ml wm f)(h:code m pc=some (.iaload,pn,kp))(ha:arrs[j]? = some (ty,n))(hi:inb i n=true)(w:Int32)(r:f (m,pn,ls,.int w::st,S)=R)(hk:tk kp ls=ls:=by rfl)(ht:isI ty=true:=by rfl)(hw:S (j+1) i.toNatClampNeg=w:=by rfl):f (m,pc,ls,.int i :: .ref (j+1)::st,S)=R:=(F.ialoadT hf h hk ha ht hi rfl hw).trans r
theorem J0(hf:HF1 code rt arrs na ml wm f)(h:code m pc=some (.baload,pn,kp))(ha:arrs[j]? = some (ty,n))(w:Int32)(r:inb i n=true→f (m,pn,ls,.int w::st,S)=R)(hk:tk kp ls=ls:=by rfl)(ht:isB ty=true:=by rfl)(hw:S (j+1) i.toNatClampNeg=w:=by rfl):f (m,pc,ls,.int i :: .ref (j+1)::st,S)=if inb i n=true then R else none:=(F.baload hf h hk ha ht hw).trans (iteH r)
theorem Jv(hf:HF1 code rt arrs na ml wm f)(h:code m pc=some (.iastore,pn,kp))(ha:arrs[j]? = some (ty,n))(w:Int32)(r:inb i n=true→f (m,pn,ls,st,upd S (j+1) i.toNatClampNeg w)=R)(hk:tk kp ls=ls:=by rfl)(ht:isI ty=true:=by rfl)(hv:nar ty v=w:=by first | rfl | decide):f (m,pc,ls,.int v :: .int i :: .ref (j+1)::st,S)=if inb i n=true then R else none:=(F.iastore hf h hk ha ht hv).trans (iteH r)
theorem Jx(hf:HF1 code rt arrs na ml wm f)(h:code m pc=some (.iastore,pn,kp))(ha:arrs[j]? = some (ty,n))(w:Int32)(hi:inb i n=true)(r:f (m,pn,ls,st,upd S (j+1) i.toNatClampNeg w)=R)(hk:tk kp ls=ls:=by rfl)(ht:isI ty=true:=by rfl)(hv:nar ty v=w:=by first | rfl | decide):f (m,pc,ls,.int v :: .int i :: .ref (j+1)::st,S)=R:=(F.iastoreT hf h hk ha ht hv hi rfl).trans r
theorem JaB(hf:HF1 code rt arrs na ml wm f)(h:code m pc=some (.iastore,pn,kp))(ha:arrs[j]? = some (ty,n))(w:Int32)(z:Nat)(r:f (m,pn,ls,st,upd S (j+1) z w)=R)(hk:tk kp ls=ls:=by rfl)(ht:isI ty=true:=by rfl)(hv:nar ty v=w:=by first | rfl | decide)(hi:inb i n=true:=by first | decide | rfl)(hz:i.toNatClampNeg=z:=by first | decide | rfl):f (m,pc,ls,.int v :: .int i :: .ref (j+1)::st,S)=R:=(F.iastoreT hf h hk ha ht hv hi hz).trans r
theorem Jaa(hf:HF1 code rt arrs na ml wm f)(h:code m pc=some (.bastore,pn,kp))(ha:arrs[j]? = some (ty,n))(w:Int32)(r:inb i n=true→f (m,pn,ls,st,upd S (j+1) i.toNatClampNeg w)=R)(hk:tk kp ls=ls:=by rfl)(ht:isB ty=true:=by rfl)(hv:nar ty v=w:=by first | rfl | decide):f (m,pc,ls,.int v :: .int i :: .ref (j+1)::st,S)=if inb i n=true then R else none:=(F.bastore hf h hk ha ht hv).trans (iteH r)
theorem J3(hf:HF1 code rt arrs na ml wm f)(h:code m pc=some (.bastore,pn,kp))(ha:arrs[j]? = some (ty,n))(w:Int32)(hi:inb i n=true)(r:f (m,pn,ls,st,upd S (j+1) i.toNatClampNeg w)=R)(hk:tk kp ls=ls:=by rfl)(ht:isB ty=true:=by rfl)(hv:nar ty v=w:=by first | rfl | decide):f (m,pc,ls,.int v :: .int i :: .ref (j+1)::st,S)=R:=(F.bastoreT hf h hk ha ht hv hi rfl).trans r
theorem Jf(hf:HF1 code rt arrs na ml wm f){as r as':List Value}(h:code m pc=some (.invokevirtual k,pn,kp))(ht:takeA (na k) [] st=some (as,.ref 0::r))(hk:tk kp ls=ls:=by rfl)(hc:okn as=true∧cats r≤wm m∧(entL (.ref 0::as)).length≤ml k:=by exact⟨rfl,Nat.le_of_ble_eq_true rfl,Nat.le_of_ble_eq_true rfl⟩)(he:entL (.ref 0::as)=as':=by rfl):f (m,pc,ls,st,S)=(f (k,0,as',[],S)).bind fun q=>f (m,pn,ls,q.1.toList++r,q.2):=F.call hf h hk ht hc he
end S1
section S2
variable {σ:Type} {code:Codes} {rt:Nat→Option FieldType} {f1:Cfg σ→Option (Res σ)} {Z0:σ} {pe nmax k q o:Nat} {na1 ml1 wm na ml:Nat→Nat} {xs:List Int32} {sc:Option (List Int32)} {f:Cfg (W2 σ)→Option (Res (W2 σ))} {m pc pn:Nat} {kp:Option Nat} {ls st as as' rs:List Value} {ob:List σ} {b:Bool} {S:σ} {w:W2 σ} {i:Int32} {R:Option (Res (W2 σ))}
abbrev HF2(code:Codes)(rt:Nat→Option FieldType)(f1:Cfg σ→Option (Res σ))(Z0:σ)(pe nmax:Nat)(na1 ml1 wm na ml:Nat→Nat)(sc:Option (List Int32))(f:Cfg (W2 σ)→Option (Res (W2 σ))):Prop:=∀c,f c=run (plan code rt (mop2 f1 Z0 pe nmax na1 ml1 wm sc) (cop2 na ml wm)) f c
theorem JX(hf:HF2 code rt f1 Z0 pe nmax na1 ml1 wm na ml sc f)(h:code 0 pc=some (.new q,pn,kp))(r:f (0,pn,ls,.ref (ob.length+1)::st,(true,ob))=R)(hk:tk kp ls=ls:=by rfl)(hl:ob.length<nmax:=by exact Nat.le_of_ble_eq_true rfl):f (0,pc,ls,st,(false,ob))=R:=(F.new hf h hk hl rfl).trans r
theorem JZ(hf:HF2 code rt f1 Z0 pe nmax na1 ml1 wm na ml sc f){r:Nat}(h:code 0 pc=some (.invokespecial q,pn,kp))(ht:takeA (na1 0) [] st=some (as,.ref r::rs))(hk:tk kp ls=ls:=by rfl)(hr:r=ob.length+1:=by rfl)(hc:okn as=true∧cats rs≤wm 0∧(entL (.ref 0::as)).length≤ml1 0:=by exact⟨rfl,Nat.le_of_ble_eq_true rfl,Nat.le_of_ble_eq_true rfl⟩)(he:entL (.ref 0::as)=as':=by rfl):f (0,pc,ls,st,(true,ob))=(f1 (0,pe,as',[],Z0)).bind fun q=>f (0,pn,ls,rs,(false,ob++[q.2])):=F.ctor hf h hk ht hr hc he
theorem Jq(hf:HF2 code rt f1 Z0 pe nmax na1 ml1 wm na ml sc f)(o:Nat)(h:code m pc=some (.invokevirtual k,pn,kp))(ht:takeA (na1 k) [] st=some (as,.ref (o+1)::rs))(hS:ob[o]? = some S)(hk:tk kp ls=ls:=by rfl)(hc:okn as=true∧cats rs≤wm m∧(entL (.ref 0::as)).length≤ml1 k:=by exact⟨rfl,Nat.le_of_ble_eq_true rfl,Nat.le_of_ble_eq_true rfl⟩)(he:entL (.ref 0::as)=as':=by rfl):f (m,pc,ls,st,(false,ob))=(f1 (k,0,as',[],S)).bind fun q=>f (m,pn,ls,q.1.toList++rs,(false,ob.set o q.2)):=F.virt hf h hk ht hS hc he
theorem JR(hf:HF2 code rt f1 Z0 pe nmax na1 ml1 wm na ml (some xs) f)(h:code m pc=some (.iaload,pn,kp))(r:inb i xs.length=true→f (m,pn,ls,.int (xs.getD i.toNatClampNeg 0)::st,w)=R)(hk:tk kp ls=ls:=by rfl):f (m,pc,ls,.int i :: .ref 0::st,w)=if inb i xs.length=true then R else none:=(F.sload hf rfl h hk).trans (iteH r)
theorem J8(hf:HF2 code rt f1 Z0 pe nmax na1 ml1 wm na ml (some xs) f)(h:code m pc=some (.arraylength,pn,kp))(r:f (m,pn,ls,.int (Int32.ofNat xs.length)::st,w)=R)(hk:tk kp ls=ls:=by rfl):f (m,pc,ls,.ref 0::st,w)=R:=(F.slen hf rfl h hk).trans r
theorem JE(hf:HF2 code rt f1 Z0 pe nmax na1 ml1 wm na ml sc f)(h:code m pc=some (.invokestatic k,pn,kp))(ht:takeA (na k) [] st=some (as,rs))(hk:tk kp ls=ls:=by rfl)(hc:k≠0∧okv as=true∧cats rs≤wm m∧(entL as).length≤ml k:=by exact⟨by decide,rfl,Nat.le_of_ble_eq_true rfl,Nat.le_of_ble_eq_true rfl⟩)(he:entL as=as':=by rfl):f (m,pc,ls,st,w)=(f (k,0,as',[],w)).bind fun q=>f (m,pn,ls,q.1.toList++rs,q.2):=F.stat hf h hk ht hc he
end S2
end Jvm.OM
namespace Jvm.Pilot.@@N@@
open Jvm Jvm.ClassFile Sem Op Lib Jvm.Free Jvm.Stand Jvm.LawKit Jvm.RoadKit Bundle Jvm.Pilot.@@N@@.Jvm.D Jvm.OM
set_option maxRecDepth 65536
set_option maxHeartbeats 4000000
def tb1:Jvm.OM.Tabs:=([(8,"negInf","I",9),(15,"lowest","I",12),(18,"pi","[I",2),(22,"pinv","[I",5),(25,"candidate","[I",8),(28,"seen","[Z",11),(32,"msg","[I",14),(35,"code","[I",17),(38,"chan","[I",20),(41,"z1","[I",23),(44,"z2","[I",26),(47,"xt1","[I",29),(50,"zt1","[I",32),(53,"xt2","[I",35),(56,"zt2","[I",38),(59,"encIn","[I",41),(62,"encPar","[I",44),(65,"encTx","[I",47),(68,"encTp","[I",50),(71,"nextState","[I",53),(74,"parityOut","[I",56),(77,"tailIn","[I",59),(80,"ys","[I",62),(83,"q1","[I",65),(86,"q2","[I",68),(89,"e1","[I",71),(92,"e2","[I",74),(95,"post","[I",77),(98,"dec","[I",80),(101,"sIn","[I",83),(104,"aIn","[I",86),(107,"qIn","[I",89),(110,"tsIn","[I",92),(113,"tqIn","[I",95),(116,"eOut","[I",98),(119,"alpha","[I",101),(122,"beta","[I",104),(129,"blockLen","I",0),(136,"rate","I",3),(139,"codeLen","I",6),(161,"end1","I",15),(164,"end2","I",18),(184,"encEnd","I",21)],[(125,1),(132,49),(142,4),(145,2),(148,3),(151,10),(155,11),(167,8),(170,47),(174,9),(177,18),(181,19),(187,20),(190,21),(193,48),(196,22),(199,23),(202,24),(205,26),(208,25),(212,34),(215,35),(218,37),(221,38),(224,39),(227,36),(230,40),(233,43),(236,46),(239,45),(242,42),(245,44),(248,41)],[],[(7,-268435456),(14,-1073741824)],[],[],[])
def cx_0:List (List Jvm.OM.Ent):=[[],[],[],[],[],[],[],[],[],[],[],[],[],[],[],[],[],[],[(292,.aload 0,293,none),(293,.aload 0,294,none),(294,.iload 1,295,none),(295,.invokevirtual 1,298,none),(298,.putfield 0,301,none),(301,.aload 0,302,none),(302,.aload 0,303,none),(303,.iload 2,304,none)],[(304,.iconst 0,305,none),(305,.iconst 1,306,none),(306,.invokevirtual 49,309,none),(309,.putfield 3,312,none),(312,.aload 0,313,none),(313,.getfield 3,316,none),(316,.ifCond .ne 335,319,none),(319,.aload 0,320,none)],[(320,.iconst 3,321,none),(321,.aload 0,322,none),(322,.getfield 0,325,none),(325,.imul,326,none),(326,.iconst 12,328,none),(328,.iadd,329,none),(329,.putfield 6,332,none),(332,.goto 348,335,none),(335,.aload 0,336,none)],[(336,.iconst 2,337,none),(337,.aload 0,338,none),(338,.getfield 0,341,none),(341,.imul,342,none),(342,.iconst 12,344,none),(344,.iadd,345,none),(345,.putfield 6,348,none),(348,.aload 0,349,some 3),(349,.invokevirtual 4,352,none)],[(352,.aload 0,353,none),(353,.aload 0,354,none),(354,.getfield 0,357,none),(357,.invokevirtual 2,360,none),(360,.istore 3,361,none),(361,.aload 0,362,none),(362,.aload 0,363,none),(363,.getfield 0,366,none),(366,.invokevirtual 3,369,none)],[(369,.istore 4,371,none),(371,.aload 0,372,none),(372,.iload 3,373,none),(373,.iload 4,375,none),(375,.invokevirtual 10,378,none),(378,.ifCond .eq 388,381,none),(381,.aload 0,382,none),(382,.invokevirtual 11,385,none)],[(385,.goto 392,388,none),(388,.aload 0,389,none),(392,.aload 0,393,none),(393,.iconst 0,394,none),(394,.putfield 15,397,none),(397,.aload 0,398,none),(398,.iconst 0,399,none),(399,.putfield 18,402,none)],[(402,.return_,403,none)]]
def cx_1:List (List Jvm.OM.Ent):=[[(0,.aload 0,1,none),(1,.iload 1,2,none),(2,.iconst 8,4,none),(4,.iconst 64,6,none),(6,.invokevirtual 49,9,none),(9,.istore 2,10,none),(10,.iload 2,11,none),(11,.iload 2,12,none),(12,.iconst 8,14,none),(14,.irem,15,none),(15,.isub,16,none)],[(16,.ireturn,17,none)]]
def cx_2:List (List Jvm.OM.Ent):=[[(0,.iload 1,1,none),(1,.iconst 8,3,none),(3,.if_icmp .ne 8,6,none),(6,.iconst 3,7,none),(7,.ireturn,8,none),(8,.iload 1,9,none),(9,.iconst 16,11,none),(11,.if_icmp .ne 16,14,none),(14,.iconst 5,15,none),(15,.ireturn,16,none)],[(16,.iload 1,17,none),(17,.iconst 24,19,none),(19,.if_icmp .ne 24,22,none),(22,.iconst 5,23,none),(23,.ireturn,24,none),(24,.iload 1,25,none),(25,.iconst 32,27,none),(27,.if_icmp .ne 33,30,none),(30,.iconst 7,32,none)],[(32,.ireturn,33,none),(33,.iload 1,34,none),(34,.iconst 40,36,none),(36,.if_icmp .ne 41,39,none),(39,.iconst 3,40,none),(40,.ireturn,41,none),(41,.iload 1,42,none),(42,.iconst 48,44,none),(44,.if_icmp .ne 50,47,none),(47,.iconst 7,49,none)],[(49,.ireturn,50,none),(50,.iload 1,51,none),(51,.iconst 56,53,none),(53,.if_icmp .ne 59,56,none),(56,.iconst 19,58,none),(58,.ireturn,59,none),(59,.iconst 7,61,none),(61,.ireturn,62,none)]]
def cx_3:List (List Jvm.OM.Ent):=[[(0,.iload 1,1,none),(1,.iconst 8,3,none),(3,.if_icmp .ne 8,6,none),(6,.iconst 4,7,none),(7,.ireturn,8,none),(8,.iload 1,9,none),(9,.iconst 16,11,none),(11,.if_icmp .ne 16,14,none),(14,.iconst 4,15,none),(15,.ireturn,16,none)],[(16,.iload 1,17,none),(17,.iconst 24,19,none),(19,.if_icmp .ne 25,22,none),(22,.iconst 6,24,none),(24,.ireturn,25,none),(25,.iload 1,26,none),(26,.iconst 32,28,none),(28,.if_icmp .ne 33,31,none),(31,.iconst 4,32,none)],[(32,.ireturn,33,none),(33,.iload 1,34,none),(34,.iconst 40,36,none),(36,.if_icmp .ne 42,39,none),(39,.iconst 10,41,none),(41,.ireturn,42,none),(42,.iload 1,43,none),(43,.iconst 48,45,none),(45,.if_icmp .ne 51,48,none)],[(48,.iconst 12,50,none),(50,.ireturn,51,none),(51,.iload 1,52,none),(52,.iconst 56,54,none),(54,.if_icmp .ne 60,57,none),(57,.iconst 42,59,none),(59,.ireturn,60,none),(60,.iconst 16,62,none),(62,.ireturn,63,none)]]
def cx_4:List (List Jvm.OM.Ent):=[[(0,.iconst 0,1,none),(1,.istore 1,2,none),(2,.iload 1,3,some 2),(3,.iconst 8,5,none),(5,.if_icmp .ge 108,8,none),(8,.iload 1,9,none),(9,.iconst 1,10,none),(10,.iand,11,none),(11,.istore 2,12,none),(12,.iload 1,13,none),(13,.iconst 1,14,none),(14,.ishr,15,none),(15,.iconst 1,16,none)],[(16,.iand,17,none),(17,.istore 3,18,none),(18,.iload 1,19,none),(19,.iconst 2,20,none),(20,.ishr,21,none),(21,.iconst 1,22,none),(22,.iand,23,none),(23,.istore 4,25,none),(25,.aload 0,26,none),(26,.getfield 59,29,none),(29,.iload 1,30,none),(30,.iload 3,31,none),(31,.iload 4,33,none)],[(33,.ixor,34,none),(34,.iastore,35,none),(35,.iconst 0,36,none),(36,.istore 5,38,none),(38,.iload 5,40,some 6),(40,.iconst 2,41,none),(41,.if_icmp .ge 102,44,none),(44,.iload 5,46,none),(46,.iload 3,47,none),(47,.ixor,48,none)],[(48,.iload 4,50,none),(50,.ixor,51,none),(51,.istore 6,53,none),(53,.iload 6,55,none),(55,.iload 2,56,none),(56,.ixor,57,none),(57,.iload 4,59,none),(59,.ixor,60,none),(60,.istore 7,62,none),(62,.iload 1,63,none),(63,.iconst 2,64,none)],[(64,.imul,65,none),(65,.iload 5,67,none),(67,.iadd,68,none),(68,.istore 8,70,none),(70,.aload 0,71,none),(71,.getfield 53,74,none),(74,.iload 8,76,none),(76,.iload 6,78,none),(78,.iconst 2,79,none),(79,.iload 2,80,none)],[(80,.imul,81,none),(81,.iadd,82,none),(82,.iconst 4,83,none),(83,.iload 3,84,none),(84,.imul,85,none),(85,.iadd,86,none),(86,.iastore,87,none),(87,.aload 0,88,none),(88,.getfield 56,91,none),(91,.iload 8,93,none),(93,.iload 7,95,none),(95,.iastore,96,none)],[(96,.iinc 5 1,99,none),(99,.goto 38,102,none),(102,.iinc 1 1,105,none),(105,.goto 2,108,none),(108,.return_,109,none)]]
def cx_5:List (List Jvm.OM.Ent):=[[(0,.aload 0,1,none),(1,.iload 1,2,none),(2,.iload 2,3,none),(3,.invokevirtual 8,6,none),(6,.ifCond .ne 11,9,none),(9,.iconst 0,10,none),(10,.ireturn,11,none),(11,.aload 0,12,none),(12,.iload 1,13,none),(13,.iload 2,14,none),(14,.invokevirtual 10,17,none)],[(17,.ifCond .ne 22,20,none),(20,.iconst 0,21,none),(21,.ireturn,22,none),(22,.aload 0,23,none),(23,.invokevirtual 11,26,none),(26,.iconst 1,27,none),(27,.ireturn,28,none)]]
def cx_6:List (List Jvm.OM.Ent):=[[(0,.aload 0,1,none),(1,.iload 1,2,none),(2,.invokevirtual 47,5,none),(5,.ifCond .ne 10,8,none),(8,.iconst (-1),9,none),(9,.ireturn,10,none),(10,.aload 0,11,none),(11,.getfield 2,14,none),(14,.iload 1,15,none),(15,.iaload,16,none)],[(16,.ireturn,17,none)]]
def cx_7:List (List Jvm.OM.Ent):=[[(0,.aload 0,1,none),(1,.iload 1,2,none),(2,.invokevirtual 47,5,none),(5,.ifCond .ne 10,8,none),(8,.iconst (-1),9,none),(9,.ireturn,10,none),(10,.aload 0,11,none),(11,.getfield 5,14,none),(14,.iload 1,15,none),(15,.iaload,16,none)],[(16,.ireturn,17,none)]]
def cx_8:List (List Jvm.OM.Ent):=[[(0,.iload 1,1,none),(1,.ifCond .lt 12,4,none),(4,.iload 1,5,none),(5,.aload 0,6,none),(6,.getfield 0,9,none),(9,.if_icmp .lt 14,12,none),(12,.iconst 0,13,some 3),(13,.ireturn,14,none),(14,.iload 2,15,none),(15,.ifCond .lt 30,18,none)],[(18,.iload 2,19,none),(19,.aload 0,20,none),(20,.getfield 0,23,none),(23,.if_icmp .ge 30,26,none),(26,.iconst 1,27,none),(27,.goto 31,30,none),(30,.iconst 0,31,some 3),(31,.ireturn,32,some 3)]]
def cx_9:List (List Jvm.OM.Ent):=[[(0,.iload 3,1,none),(1,.i2l,2,none),(2,.lstore 4,4,none),(4,.iload 1,5,none),(5,.i2l,6,none),(6,.lload 4,8,none),(8,.lmul,9,none),(9,.iload 2,10,none),(10,.i2l,11,none),(11,.lload 4,13,none),(13,.lmul,14,none),(14,.lload 4,16,none)],[(16,.lmul,17,none),(17,.ladd,18,none),(18,.lstore 6,20,none),(20,.lload 6,22,none),(22,.aload 0,23,none),(23,.getfield 0,26,none),(26,.i2l,27,none),(27,.lrem,28,none),(28,.lstore 8,30,none),(30,.lload 8,32,none)],[(32,.lconst 0,33,none),(33,.lcmp,34,none),(34,.ifCond .ge 47,37,none),(37,.lload 8,39,none),(39,.aload 0,40,none),(40,.getfield 0,43,none),(43,.i2l,44,none),(44,.ladd,45,none),(45,.lstore 8,47,none),(47,.lload 8,49,some 10)],[(49,.l2i,50,none),(50,.ireturn,51,none)]]
def cx_10:List (List Jvm.OM.Ent):=[[(0,.iconst 0,1,none),(1,.istore 3,2,none),(2,.iload 3,3,some 4),(3,.aload 0,4,none),(4,.getfield 0,7,none),(7,.if_icmp .ge 23,10,none),(10,.aload 0,11,none),(11,.getfield 11,14,none),(14,.iload 3,15,none),(15,.iconst 0,16,none)],[(16,.bastore,17,none),(17,.iinc 3 1,20,none),(20,.goto 2,23,none),(23,.iconst 0,24,none),(24,.istore 3,25,none),(25,.iload 3,26,some 4),(26,.aload 0,27,none),(27,.getfield 0,30,none),(30,.if_icmp .ge 92,33,none)],[(33,.aload 0,34,none),(34,.iload 1,35,none),(35,.iload 2,36,none),(36,.iload 3,37,none),(37,.invokevirtual 9,40,none),(40,.istore 4,42,none),(42,.iload 4,44,none),(44,.ifCond .lt 56,47,none),(47,.iload 4,49,none)],[(49,.aload 0,50,none),(50,.getfield 0,53,none),(53,.if_icmp .lt 58,56,none),(56,.iconst 0,57,some 5),(57,.ireturn,58,none),(58,.aload 0,59,none),(59,.getfield 11,62,none),(62,.iload 4,64,none)],[(64,.baload,65,none),(65,.ifCond .eq 70,68,none),(68,.iconst 0,69,none),(69,.ireturn,70,none),(70,.aload 0,71,none),(71,.getfield 11,74,none),(74,.iload 4,76,none),(76,.iconst 1,77,none),(77,.bastore,78,none),(78,.aload 0,79,none),(79,.getfield 8,82,none)],[(82,.iload 3,83,none),(83,.iload 4,85,none),(85,.iastore,86,none),(86,.iinc 3 1,89,none),(89,.goto 25,92,none),(92,.iconst 1,93,none),(93,.ireturn,94,none)]]
def cx_11:List (List Jvm.OM.Ent):=[[(0,.iconst 0,1,none),(1,.istore 1,2,none),(2,.iload 1,3,some 2),(3,.aload 0,4,none),(4,.getfield 0,7,none),(7,.if_icmp .ge 28,10,none),(10,.aload 0,11,none),(11,.getfield 2,14,none),(14,.iload 1,15,none),(15,.aload 0,16,none)],[(16,.getfield 8,19,none),(19,.iload 1,20,none),(20,.iaload,21,none),(21,.iastore,22,none),(22,.iinc 1 1,25,none),(25,.goto 2,28,none),(28,.iconst 0,29,none),(29,.istore 1,30,none),(30,.iload 1,31,some 2),(31,.aload 0,32,none)],[(32,.getfield 0,35,none),(35,.if_icmp .ge 70,38,none),(38,.aload 0,39,none),(39,.getfield 2,42,none),(42,.iload 1,43,none),(43,.iaload,44,none),(44,.istore 2,45,none),(45,.iload 2,46,none),(46,.ifCond .lt 64,49,none)],[(49,.iload 2,50,none),(50,.aload 0,51,none),(51,.getfield 0,54,none),(54,.if_icmp .ge 64,57,none),(57,.aload 0,58,none),(58,.getfield 5,61,none),(61,.iload 2,62,none),(62,.iload 1,63,none),(63,.iastore,64,none)],[(64,.iinc 1 1,67,some 3),(67,.goto 30,70,none),(70,.return_,71,none)]]
def cx_13:List (List Jvm.OM.Ent):=[[(0,.iconst 0,1,none),(1,.istore 3,2,none),(2,.iload 3,3,some 4),(3,.aload 0,4,none),(4,.getfield 0,7,none),(7,.if_icmp .ge 28,10,none),(10,.aload 0,11,none),(11,.getfield 14,14,none),(14,.iload 3,15,none),(15,.lload 1,16,none)],[(16,.iload 3,17,none),(17,.lushr,18,none),(18,.lconst 1,19,none),(19,.land,20,none),(20,.l2i,21,none),(21,.iastore,22,none),(22,.iinc 3 1,25,none),(25,.goto 2,28,none),(28,.return_,29,none)]]
def cx_14:List (List Jvm.OM.Ent):=[[(0,.aload 0,1,none),(1,.iload 1,2,none),(2,.invokevirtual 47,5,none),(5,.ifCond .ne 10,8,none),(8,.iconst (-1),9,none),(9,.ireturn,10,none),(10,.aload 0,11,none),(11,.getfield 14,14,none),(14,.iload 1,15,none),(15,.iaload,16,none)],[(16,.ireturn,17,none)]]
def cx_15:List (List Jvm.OM.Ent):=[[(0,.aload 0,1,none),(1,.iconst 1,2,none),(2,.invokevirtual 18,5,none),(5,.aload 0,6,none),(6,.invokevirtual 19,9,none),(9,.aload 0,10,none),(10,.aload 0,11,none),(11,.getfield 21,14,none),(14,.putfield 15,17,none)],[(17,.aload 0,18,none),(18,.iconst 1,19,none),(19,.invokevirtual 20,22,none),(22,.aload 0,23,none),(23,.iconst 2,24,none),(24,.invokevirtual 18,27,none),(27,.aload 0,28,none),(28,.invokevirtual 19,31,none),(31,.aload 0,32,none)],[(32,.aload 0,33,none),(33,.getfield 21,36,none),(36,.putfield 18,39,none),(39,.aload 0,40,none),(40,.iconst 2,41,none),(41,.invokevirtual 20,44,none),(44,.aload 0,45,none),(45,.invokevirtual 21,48,none)],[(48,.aload 0,49,none),(49,.getfield 6,52,none),(52,.ireturn,53,none)]]
def cx_18:List (List Jvm.OM.Ent):=[[(0,.iconst 0,1,none),(1,.istore 2,2,none),(2,.iload 2,3,some 3),(3,.aload 0,4,none),(4,.getfield 0,7,none),(7,.if_icmp .ge 71,10,none),(10,.iload 1,11,none),(11,.iconst 1,12,none),(12,.if_icmp .ne 30,15,none),(15,.aload 0,16,none)],[(16,.getfield 41,19,none),(19,.iload 2,20,none),(20,.aload 0,21,none),(21,.getfield 14,24,none),(24,.iload 2,25,none),(25,.iaload,26,none),(26,.iastore,27,none),(27,.goto 65,30,none),(30,.aload 0,31,none),(31,.getfield 2,34,none)],[(34,.iload 2,35,none),(35,.iaload,36,none),(36,.istore 3,37,none),(37,.aload 0,38,none),(38,.getfield 41,41,none),(41,.iload 2,42,none),(42,.iload 3,43,none),(43,.ifCond .lt 63,46,none),(46,.iload 3,47,none),(47,.aload 0,48,none)],[(48,.getfield 0,51,none),(51,.if_icmp .ge 63,54,none),(54,.aload 0,55,none),(55,.getfield 14,58,none),(58,.iload 3,59,none),(59,.iaload,60,none),(60,.goto 64,63,none),(63,.iconst 0,64,some 4)],[(64,.iastore,65,some 4),(65,.iinc 2 1,68,some 3),(68,.goto 2,71,none),(71,.return_,72,none)]]
def cx_19:List (List Jvm.OM.Ent):=[[(0,.iconst 0,1,none),(1,.istore 1,2,none),(2,.iconst 0,3,none),(3,.istore 2,4,none),(4,.iload 2,5,some 3),(5,.aload 0,6,none),(6,.getfield 0,9,none),(9,.if_icmp .ge 50,12,none),(12,.iload 1,13,none),(13,.iconst 2,14,none),(14,.imul,15,none),(15,.aload 0,16,none)],[(16,.getfield 41,19,none),(19,.iload 2,20,none),(20,.iaload,21,none),(21,.iconst 1,22,none),(22,.iand,23,none),(23,.iadd,24,none),(24,.istore 3,25,none),(25,.aload 0,26,none),(26,.getfield 44,29,none),(29,.iload 2,30,none),(30,.aload 0,31,none),(31,.getfield 56,34,none)],[(34,.iload 3,35,none),(35,.iaload,36,none),(36,.iastore,37,none),(37,.aload 0,38,none),(38,.getfield 53,41,none),(41,.iload 3,42,none),(42,.iaload,43,none),(43,.istore 1,44,none),(44,.iinc 2 1,47,none),(47,.goto 4,50,none)],[(50,.aload 0,51,none),(51,.iload 1,52,none),(52,.putfield 21,55,none),(55,.iconst 0,56,none),(56,.istore 2,57,none),(57,.iload 2,58,some 3),(58,.iconst 3,59,none),(59,.if_icmp .ge 110,62,none),(62,.aload 0,63,none),(63,.getfield 59,66,none)],[(66,.iload 1,67,none),(67,.iaload,68,none),(68,.istore 3,69,none),(69,.iload 1,70,none),(70,.iconst 2,71,none),(71,.imul,72,none),(72,.iload 3,73,none),(73,.iadd,74,none),(74,.istore 4,76,none),(76,.aload 0,77,none),(77,.getfield 47,80,none)],[(80,.iload 2,81,none),(81,.iload 3,82,none),(82,.iastore,83,none),(83,.aload 0,84,none),(84,.getfield 50,87,none),(87,.iload 2,88,none),(88,.aload 0,89,none),(89,.getfield 56,92,none),(92,.iload 4,94,none),(94,.iaload,95,none),(95,.iastore,96,none)],[(96,.aload 0,97,none),(97,.getfield 53,100,none),(100,.iload 4,102,none),(102,.iaload,103,none),(103,.istore 1,104,none),(104,.iinc 2 1,107,none),(107,.goto 57,110,none),(110,.return_,111,none)]]
def cx_20:List (List Jvm.OM.Ent):=[[(0,.iconst 0,1,none),(1,.istore 2,2,none),(2,.iload 2,3,some 3),(3,.aload 0,4,none),(4,.getfield 0,7,none),(7,.if_icmp .ge 48,10,none),(10,.iload 1,11,none),(11,.iconst 1,12,none),(12,.if_icmp .ne 30,15,none),(15,.aload 0,16,none)],[(16,.getfield 23,19,none),(19,.iload 2,20,none),(20,.aload 0,21,none),(21,.getfield 44,24,none),(24,.iload 2,25,none),(25,.iaload,26,none),(26,.iastore,27,none),(27,.goto 42,30,none),(30,.aload 0,31,none),(31,.getfield 26,34,none)],[(34,.iload 2,35,none),(35,.aload 0,36,none),(36,.getfield 44,39,none),(39,.iload 2,40,none),(40,.iaload,41,none),(41,.iastore,42,none),(42,.iinc 2 1,45,some 3),(45,.goto 2,48,none)],[(48,.iconst 0,49,none),(49,.istore 2,50,none),(50,.iload 2,51,some 3),(51,.iconst 3,52,none),(52,.if_icmp .ge 117,55,none),(55,.iload 1,56,none),(56,.iconst 1,57,none),(57,.if_icmp .ne 87,60,none),(60,.aload 0,61,none),(61,.getfield 29,64,none)],[(64,.iload 2,65,none),(65,.aload 0,66,none),(66,.getfield 47,69,none),(69,.iload 2,70,none),(70,.iaload,71,none),(71,.iastore,72,none),(72,.aload 0,73,none),(73,.getfield 32,76,none),(76,.iload 2,77,none),(77,.aload 0,78,none),(78,.getfield 50,81,none)],[(81,.iload 2,82,none),(82,.iaload,83,none),(83,.iastore,84,none),(84,.goto 111,87,none),(87,.aload 0,88,none),(88,.getfield 35,91,none),(91,.iload 2,92,none),(92,.aload 0,93,none),(93,.getfield 47,96,none)],[(96,.iload 2,97,none),(97,.iaload,98,none),(98,.iastore,99,none),(99,.aload 0,100,none),(100,.getfield 38,103,none),(103,.iload 2,104,none),(104,.aload 0,105,none),(105,.getfield 50,108,none),(108,.iload 2,109,none),(109,.iaload,110,none),(110,.iastore,111,none),(111,.iinc 2 1,114,some 3)],[(114,.goto 50,117,none),(117,.return_,118,none)]]
def cx_21:List (List Jvm.OM.Ent):=[[(0,.iconst 0,1,none),(1,.istore 1,2,none),(2,.iload 1,3,some 2),(3,.aload 0,4,none),(4,.getfield 0,7,none),(7,.if_icmp .ge 76,10,none),(10,.aload 0,11,none),(11,.getfield 17,14,none),(14,.aload 0,15,none),(15,.iload 1,16,none)],[(16,.invokevirtual 22,19,none),(19,.aload 0,20,none),(20,.getfield 14,23,none),(23,.iload 1,24,none),(24,.iaload,25,none),(25,.iastore,26,none),(26,.aload 0,27,none),(27,.iload 1,28,none),(28,.invokevirtual 23,31,none),(31,.istore 2,32,none)],[(32,.iload 2,33,none),(33,.ifCond .lt 48,36,none),(36,.aload 0,37,none),(37,.getfield 17,40,none),(40,.iload 2,41,none),(41,.aload 0,42,none),(42,.getfield 23,45,none),(45,.iload 1,46,none),(46,.iaload,47,none),(47,.iastore,48,none)],[(48,.aload 0,49,some 3),(49,.iload 1,50,none),(50,.invokevirtual 24,53,none),(53,.istore 3,54,none),(54,.iload 3,55,none),(55,.ifCond .lt 70,58,none),(58,.aload 0,59,none),(59,.getfield 17,62,none),(62,.iload 3,63,none),(63,.aload 0,64,none)],[(64,.getfield 26,67,none),(67,.iload 1,68,none),(68,.iaload,69,none),(69,.iastore,70,none),(70,.iinc 1 1,73,some 4),(73,.goto 2,76,none),(76,.iconst 0,77,none),(77,.istore 1,78,none),(78,.iload 1,79,some 2),(79,.iconst 3,80,none)],[(80,.if_icmp .ge 161,83,none),(83,.aload 0,84,none),(84,.getfield 17,87,none),(87,.aload 0,88,none),(88,.iconst 1,89,none),(89,.iconst 0,90,none),(90,.iload 1,91,none),(91,.invokevirtual 26,94,none),(94,.aload 0,95,none),(95,.getfield 29,98,none)],[(98,.iload 1,99,none),(99,.iaload,100,none),(100,.iastore,101,none),(101,.aload 0,102,none),(102,.getfield 17,105,none),(105,.aload 0,106,none),(106,.iconst 1,107,none),(107,.iconst 1,108,none),(108,.iload 1,109,none),(109,.invokevirtual 26,112,none)],[(112,.aload 0,113,none),(113,.getfield 32,116,none),(116,.iload 1,117,none),(117,.iaload,118,none),(118,.iastore,119,none),(119,.aload 0,120,none),(120,.getfield 17,123,none),(123,.aload 0,124,none),(124,.iconst 2,125,none),(125,.iconst 0,126,none),(126,.iload 1,127,none),(127,.invokevirtual 26,130,none)],[(130,.aload 0,131,none),(131,.getfield 35,134,none),(134,.iload 1,135,none),(135,.iaload,136,none),(136,.iastore,137,none),(137,.aload 0,138,none),(138,.getfield 17,141,none),(141,.aload 0,142,none),(142,.iconst 2,143,none),(143,.iconst 1,144,none)],[(144,.iload 1,145,none),(145,.invokevirtual 26,148,none),(148,.aload 0,149,none),(149,.getfield 38,152,none),(152,.iload 1,153,none),(153,.iaload,154,none),(154,.iastore,155,none),(155,.iinc 1 1,158,none),(158,.goto 78,161,none)],[(161,.return_,162,none)]]
def cx_22:List (List Jvm.OM.Ent):=[[(0,.aload 0,1,none),(1,.getfield 3,4,none),(4,.ifCond .ne 11,7,none),(7,.iconst 3,8,none),(8,.iload 1,9,none),(9,.imul,10,none),(10,.ireturn,11,none),(11,.iconst 2,12,none),(12,.iload 1,13,none),(13,.imul,14,none),(14,.ireturn,15,none)]]
def cx_23:List (List Jvm.OM.Ent):=[[(0,.aload 0,1,none),(1,.getfield 3,4,none),(4,.ifCond .ne 13,7,none),(7,.iconst 3,8,none),(8,.iload 1,9,none),(9,.imul,10,none),(10,.iconst 1,11,none),(11,.iadd,12,none),(12,.ireturn,13,none),(13,.iload 1,14,none),(14,.iconst 1,15,none),(15,.iand,16,none)],[(16,.ifCond .ne 25,19,none),(19,.iconst 2,20,none),(20,.iload 1,21,none),(21,.imul,22,none),(22,.iconst 1,23,none),(23,.iadd,24,none),(24,.ireturn,25,none),(25,.iconst (-1),26,none),(26,.ireturn,27,none)]]
def cx_24:List (List Jvm.OM.Ent):=[[(0,.aload 0,1,none),(1,.getfield 3,4,none),(4,.ifCond .ne 13,7,none),(7,.iconst 3,8,none),(8,.iload 1,9,none),(9,.imul,10,none),(10,.iconst 2,11,none),(11,.iadd,12,none),(12,.ireturn,13,none),(13,.iload 1,14,none),(14,.iconst 1,15,none),(15,.iand,16,none)],[(16,.iconst 1,17,none),(17,.if_icmp .ne 26,20,none),(20,.iconst 2,21,none),(21,.iload 1,22,none),(22,.imul,23,none),(23,.iconst 1,24,none),(24,.iadd,25,none),(25,.ireturn,26,none),(26,.iconst (-1),27,none),(27,.ireturn,28,none)]]
def cx_25:List (List Jvm.OM.Ent):=[[(0,.aload 0,1,none),(1,.getfield 3,4,none),(4,.ifCond .ne 14,7,none),(7,.iconst 3,8,none),(8,.aload 0,9,none),(9,.getfield 0,12,none),(12,.imul,13,none),(13,.ireturn,14,none),(14,.iconst 2,15,none),(15,.aload 0,16,none)],[(16,.getfield 0,19,none),(19,.imul,20,none),(20,.ireturn,21,none)]]
def cx_26:List (List Jvm.OM.Ent):=[[(0,.aload 0,1,none),(1,.invokevirtual 25,4,none),(4,.istore 4,6,none),(6,.iload 1,7,none),(7,.iconst 2,8,none),(8,.if_icmp .ne 18,11,none),(11,.iload 4,13,none),(13,.iconst 6,15,none),(15,.iadd,16,none)],[(16,.istore 4,18,none),(18,.iload 4,20,some 5),(20,.iconst 2,21,none),(21,.iload 3,22,none),(22,.imul,23,none),(23,.iadd,24,none),(24,.iload 2,25,none),(25,.iadd,26,none),(26,.ireturn,27,none)]]
def cx_27:List (List Jvm.OM.Ent):=[[(0,.aload 0,1,none),(1,.iload 1,2,none),(2,.iconst 1,3,none),(3,.iconst 127,5,none),(5,.invokevirtual 49,8,none),(8,.istore 2,9,none),(9,.iconst 0,10,none),(10,.istore 3,11,none),(11,.iload 3,12,some 4),(12,.aload 0,13,none),(13,.getfield 6,16,none)],[(16,.if_icmp .ge 53,19,none),(19,.aload 0,20,none),(20,.getfield 17,23,none),(23,.iload 3,24,none),(24,.iaload,25,none),(25,.iconst 1,26,none),(26,.if_icmp .ne 39,29,none),(29,.aload 0,30,none),(30,.getfield 20,33,none)],[(33,.iload 3,34,none),(34,.iload 2,35,none),(35,.iastore,36,none),(36,.goto 47,39,none),(39,.aload 0,40,none),(40,.getfield 20,43,none),(43,.iload 3,44,none),(44,.iload 2,45,none),(45,.ineg,46,none),(46,.iastore,47,none),(47,.iinc 3 1,50,some 4)],[(50,.goto 11,53,none),(53,.return_,54,none)]]
def cx_28:List (List Jvm.OM.Ent):=[[(0,.aload 0,1,none),(1,.iload 1,2,none),(2,.invokevirtual 48,5,none),(5,.ifCond .ne 10,8,none),(8,.iconst 0,9,none),(9,.ireturn,10,none),(10,.aload 0,11,none),(11,.getfield 20,14,none),(14,.iload 1,15,none),(15,.aload 0,16,none)],[(16,.iload 2,17,none),(17,.iconst (-127),19,none),(19,.iconst 127,21,none),(21,.invokevirtual 49,24,none),(24,.iastore,25,none),(25,.iconst 1,26,none),(26,.ireturn,27,none)]]
def cx_30:List (List Jvm.OM.Ent):=[[(0,.aload 0,1,none),(1,.iload 1,2,none),(2,.iconst 1,3,none),(3,.iconst 8,5,none),(5,.invokevirtual 49,8,none),(8,.istore 2,9,none),(9,.aload 0,10,none),(10,.invokevirtual 34,13,none),(13,.aload 0,14,none),(14,.invokevirtual 35,17,none)],[(17,.iconst 0,18,none),(18,.istore 3,19,none),(19,.iload 3,20,some 4),(20,.iload 2,21,none),(21,.if_icmp .ge 38,24,none),(24,.aload 0,25,none),(25,.invokevirtual 37,28,none),(28,.aload 0,29,none),(29,.invokevirtual 38,32,none)],[(32,.iinc 3 1,35,none),(35,.goto 19,38,none),(38,.aload 0,39,none),(39,.invokevirtual 39,42,none),(42,.ireturn,43,none)]]
def cx_31:List (List Jvm.OM.Ent):=[[(0,.aload 0,1,none),(1,.iload 1,2,none),(2,.invokevirtual 47,5,none),(5,.ifCond .ne 10,8,none),(8,.iconst (-1),9,none),(9,.ireturn,10,none),(10,.aload 0,11,none),(11,.getfield 80,14,none),(14,.iload 1,15,none),(15,.iaload,16,none)],[(16,.ireturn,17,none)]]
def cx_32:List (List Jvm.OM.Ent):=[[(0,.aload 0,1,none),(1,.iload 1,2,none),(2,.invokevirtual 47,5,none),(5,.ifCond .ne 12,8,none),(8,.iconst (-32768),11,none),(11,.ireturn,12,none),(12,.aload 0,13,none),(13,.getfield 77,16,none)],[(16,.iload 1,17,none),(17,.iaload,18,none),(18,.ireturn,19,none)]]
def cx_33:List (List Jvm.OM.Ent):=[[(0,.aload 0,1,none),(1,.iload 2,2,none),(2,.invokevirtual 47,5,none),(5,.ifCond .ne 12,8,none),(8,.iconst (-32768),11,none),(11,.ireturn,12,none),(12,.iload 1,13,none),(13,.iconst 1,14,none),(14,.if_icmp .ne 24,17,none)],[(17,.aload 0,18,none),(18,.getfield 71,21,none),(21,.iload 2,22,none),(22,.iaload,23,none),(23,.ireturn,24,none),(24,.iload 1,25,none),(25,.iconst 2,26,none),(26,.if_icmp .ne 36,29,none),(29,.aload 0,30,none),(30,.getfield 74,33,none)],[(33,.iload 2,34,none),(34,.iaload,35,none),(35,.ireturn,36,none),(36,.iconst (-32768),39,none),(39,.ireturn,40,none)]]
def cx_34:List (List Jvm.OM.Ent):=[[(0,.iconst 0,1,none),(1,.istore 1,2,none),(2,.iload 1,3,some 2),(3,.aload 0,4,none),(4,.getfield 0,7,none),(7,.if_icmp .ge 84,10,none),(10,.aload 0,11,none),(11,.getfield 62,14,none),(14,.iload 1,15,none),(15,.aload 0,16,none)],[(16,.getfield 20,19,none),(19,.aload 0,20,none),(20,.iload 1,21,none),(21,.invokevirtual 22,24,none),(24,.iaload,25,none),(25,.iastore,26,none),(26,.aload 0,27,none),(27,.iload 1,28,none),(28,.invokevirtual 23,31,none),(31,.istore 2,32,none)],[(32,.aload 0,33,none),(33,.getfield 65,36,none),(36,.iload 1,37,none),(37,.iload 2,38,none),(38,.ifCond .lt 50,41,none),(41,.aload 0,42,none),(42,.getfield 20,45,none),(45,.iload 2,46,none),(46,.iaload,47,none),(47,.goto 51,50,none)],[(50,.iconst 0,51,none),(51,.iastore,52,some 3),(52,.aload 0,53,none),(53,.iload 1,54,none),(54,.invokevirtual 24,57,none),(57,.istore 3,58,none),(58,.aload 0,59,none),(59,.getfield 68,62,none),(62,.iload 1,63,none),(63,.iload 3,64,none)],[(64,.ifCond .lt 76,67,none),(67,.aload 0,68,none),(68,.getfield 20,71,none),(71,.iload 3,72,none),(72,.iaload,73,none),(73,.goto 77,76,none),(76,.iconst 0,77,none),(77,.iastore,78,some 4),(78,.iinc 1 1,81,none)],[(81,.goto 2,84,none),(84,.return_,85,none)]]
def cx_35:List (List Jvm.OM.Ent):=[[(0,.iconst 0,1,none),(1,.istore 1,2,none),(2,.iload 1,3,some 2),(3,.aload 0,4,none),(4,.getfield 0,7,none),(7,.if_icmp .ge 30,10,none),(10,.aload 0,11,none),(11,.getfield 71,14,none),(14,.iload 1,15,none),(15,.iconst 0,16,none)],[(16,.iastore,17,none),(17,.aload 0,18,none),(18,.getfield 74,21,none),(21,.iload 1,22,none),(22,.iconst 0,23,none),(23,.iastore,24,none),(24,.iinc 1 1,27,none),(27,.goto 2,30,none),(30,.return_,31,none)]]
def cx_36:List (List Jvm.OM.Ent):=[[(0,.iconst 0,1,none),(1,.istore 2,2,none),(2,.iload 2,3,some 3),(3,.iconst 3,4,none),(4,.if_icmp .ge 49,7,none),(7,.aload 0,8,none),(8,.getfield 92,11,none),(11,.iload 2,12,none),(12,.aload 0,13,none),(13,.getfield 20,16,none)],[(16,.aload 0,17,none),(17,.iload 1,18,none),(18,.iconst 0,19,none),(19,.iload 2,20,none),(20,.invokevirtual 26,23,none),(23,.iaload,24,none),(24,.iastore,25,none),(25,.aload 0,26,none),(26,.getfield 95,29,none),(29,.iload 2,30,none),(30,.aload 0,31,none),(31,.getfield 20,34,none)],[(34,.aload 0,35,none),(35,.iload 1,36,none),(36,.iconst 1,37,none),(37,.iload 2,38,none),(38,.invokevirtual 26,41,none),(41,.iaload,42,none),(42,.iastore,43,none),(43,.iinc 2 1,46,none),(46,.goto 2,49,none)],[(49,.return_,50,none)]]
def cx_37:List (List Jvm.OM.Ent):=[[(0,.iconst 0,1,none),(1,.istore 1,2,none),(2,.iload 1,3,some 2),(3,.aload 0,4,none),(4,.getfield 0,7,none),(7,.if_icmp .ge 52,10,none),(10,.aload 0,11,none),(11,.getfield 83,14,none),(14,.iload 1,15,none),(15,.aload 0,16,none)],[(16,.getfield 62,19,none),(19,.iload 1,20,none),(20,.iaload,21,none),(21,.iastore,22,none),(22,.aload 0,23,none),(23,.getfield 86,26,none),(26,.iload 1,27,none),(27,.aload 0,28,none),(28,.getfield 74,31,none),(31,.iload 1,32,none)],[(32,.iaload,33,none),(33,.iastore,34,none),(34,.aload 0,35,none),(35,.getfield 89,38,none),(38,.iload 1,39,none),(39,.aload 0,40,none),(40,.getfield 65,43,none),(43,.iload 1,44,none),(44,.iaload,45,none),(45,.iastore,46,none),(46,.iinc 1 1,49,none)],[(49,.goto 2,52,none),(52,.aload 0,53,none),(53,.iconst 1,54,none),(54,.invokevirtual 36,57,none),(57,.aload 0,58,none),(58,.invokevirtual 40,61,none),(61,.iconst 0,62,none),(62,.istore 1,63,none),(63,.iload 1,64,some 2)],[(64,.aload 0,65,none),(65,.getfield 0,68,none),(68,.if_icmp .ge 89,71,none),(71,.aload 0,72,none),(72,.getfield 71,75,none),(75,.iload 1,76,none),(76,.aload 0,77,none),(77,.getfield 98,80,none)],[(80,.iload 1,81,none),(81,.iaload,82,none),(82,.iastore,83,none),(83,.iinc 1 1,86,none),(86,.goto 63,89,none),(89,.return_,90,none)]]
def cx_38:List (List Jvm.OM.Ent):=[[(0,.iconst 0,1,none),(1,.istore 1,2,none),(2,.iload 1,3,some 2),(3,.aload 0,4,none),(4,.getfield 0,7,none),(7,.if_icmp .ge 59,10,none),(10,.aload 0,11,none),(11,.getfield 2,14,none),(14,.iload 1,15,none),(15,.iaload,16,none)],[(16,.istore 2,17,none),(17,.aload 0,18,none),(18,.getfield 83,21,none),(21,.iload 1,22,none),(22,.aload 0,23,none),(23,.getfield 62,26,none),(26,.iload 2,27,none),(27,.iaload,28,none),(28,.iastore,29,none),(29,.aload 0,30,none),(30,.getfield 86,33,none)],[(33,.iload 1,34,none),(34,.aload 0,35,none),(35,.getfield 71,38,none),(38,.iload 2,39,none),(39,.iaload,40,none),(40,.iastore,41,none),(41,.aload 0,42,none),(42,.getfield 89,45,none),(45,.iload 1,46,none),(46,.aload 0,47,none),(47,.getfield 68,50,none)],[(50,.iload 1,51,none),(51,.iaload,52,none),(52,.iastore,53,none),(53,.iinc 1 1,56,none),(56,.goto 2,59,none),(59,.aload 0,60,none),(60,.iconst 2,61,none),(61,.invokevirtual 36,64,none)],[(64,.aload 0,65,none),(65,.invokevirtual 40,68,none),(68,.iconst 0,69,none),(69,.istore 1,70,none),(70,.iload 1,71,some 2),(71,.aload 0,72,none),(72,.getfield 0,75,none),(75,.if_icmp .ge 101,78,none),(78,.aload 0,79,none),(79,.getfield 74,82,none)],[(82,.aload 0,83,none),(83,.getfield 2,86,none),(86,.iload 1,87,none),(87,.iaload,88,none),(88,.aload 0,89,none),(89,.getfield 98,92,none),(92,.iload 1,93,none),(93,.iaload,94,none),(94,.iastore,95,none),(95,.iinc 1 1,98,none)],[(98,.goto 70,101,none),(101,.return_,102,none)]]
def cx_39:List (List Jvm.OM.Ent):=[[(0,.iconst 0,1,none),(1,.istore 1,2,none),(2,.iconst 0,3,none),(3,.istore 2,4,none),(4,.iload 2,5,some 3),(5,.aload 0,6,none),(6,.getfield 0,9,none),(9,.if_icmp .ge 79,12,none),(12,.aload 0,13,none),(13,.getfield 62,16,none)],[(16,.iload 2,17,none),(17,.iaload,18,none),(18,.aload 0,19,none),(19,.getfield 71,22,none),(22,.iload 2,23,none),(23,.iaload,24,none),(24,.iadd,25,none),(25,.aload 0,26,none),(26,.getfield 74,29,none),(29,.iload 2,30,none),(30,.iaload,31,none),(31,.iadd,32,none)],[(32,.istore 3,33,none),(33,.aload 0,34,none),(34,.getfield 77,37,none),(37,.iload 2,38,none),(38,.iload 3,39,none),(39,.iastore,40,none),(40,.aload 0,41,none),(41,.getfield 80,44,none),(44,.iload 2,45,none),(45,.iload 3,46,none),(46,.ifCond .le 53,49,none)],[(49,.iconst 1,50,none),(50,.goto 54,53,none),(53,.iconst 0,54,none),(54,.iastore,55,some 4),(55,.aload 0,56,none),(56,.getfield 80,59,none),(59,.iload 2,60,none),(60,.iaload,61,none),(61,.aload 0,62,none),(62,.getfield 14,65,none)],[(65,.iload 2,66,none),(66,.iaload,67,none),(67,.if_icmp .eq 73,70,none),(70,.iinc 1 1,73,none),(73,.iinc 2 1,76,some 4),(76,.goto 4,79,none),(79,.iload 1,80,none)],[(80,.ireturn,81,none)]]
def cx_40:List (List Jvm.OM.Ent):=[[(0,.aload 0,1,none),(1,.invokevirtual 43,4,none),(4,.aload 0,5,none),(5,.getfield 101,8,none),(8,.iconst 0,9,none),(9,.iconst 0,10,none),(10,.iastore,11,none),(11,.iconst 1,12,none),(12,.istore 1,13,none),(13,.iload 1,14,some 2),(14,.iconst 8,16,none)],[(16,.if_icmp .ge 35,19,none),(19,.aload 0,20,none),(20,.getfield 101,23,none),(23,.iload 1,24,none),(24,.aload 0,25,none),(25,.getfield 9,28,none),(28,.iastore,29,none),(29,.iinc 1 1,32,none)],[(32,.goto 13,35,none),(35,.iconst 0,36,none),(36,.istore 1,37,none),(37,.iload 1,38,some 2),(38,.aload 0,39,none),(39,.getfield 0,42,none),(42,.if_icmp .ge 61,45,none),(45,.aload 0,46,none),(46,.iload 1,47,none),(47,.invokevirtual 46,50,none)],[(50,.aload 0,51,none),(51,.iload 1,52,none),(52,.invokevirtual 45,55,none),(55,.iinc 1 1,58,none),(58,.goto 37,61,none),(61,.return_,62,none)]]
def cx_41:List (List Jvm.OM.Ent):=[[(0,.iload 2,1,none),(1,.iconst 1,2,none),(2,.iand,3,none),(3,.istore 3,4,none),(4,.iload 3,5,none),(5,.aload 0,6,none),(6,.getfield 83,9,none),(9,.iload 1,10,none),(10,.iaload,11,none),(11,.aload 0,12,none),(12,.getfield 86,15,none),(15,.iload 1,16,none)],[(16,.iaload,17,none),(17,.iadd,18,none),(18,.imul,19,none),(19,.aload 0,20,none),(20,.getfield 56,23,none),(23,.iload 2,24,none),(24,.iaload,25,none),(25,.aload 0,26,none),(26,.getfield 89,29,none),(29,.iload 1,30,none),(30,.iaload,31,none),(31,.imul,32,none)],[(32,.iadd,33,none),(33,.ireturn,34,none)]]
def cx_42:List (List Jvm.OM.Ent):=[[(0,.iload 1,1,none),(1,.iconst 7,3,none),(3,.iand,4,none),(4,.istore 2,5,none),(5,.iconst 0,6,none),(6,.istore 3,7,none),(7,.iconst 0,8,none),(8,.istore 4,10,none),(10,.iload 4,12,some 5),(12,.iconst 3,13,none),(13,.if_icmp .ge 75,16,none)],[(16,.aload 0,17,none),(17,.getfield 59,20,none),(20,.iload 2,21,none),(21,.iaload,22,none),(22,.istore 5,24,none),(24,.iload 2,25,none),(25,.iconst 2,26,none),(26,.imul,27,none),(27,.iload 5,29,none),(29,.iadd,30,none),(30,.istore 6,32,none)],[(32,.iload 3,33,none),(33,.iload 5,35,none),(35,.aload 0,36,none),(36,.getfield 92,39,none),(39,.iload 4,41,none),(41,.iaload,42,none),(42,.imul,43,none),(43,.iadd,44,none),(44,.aload 0,45,none),(45,.getfield 56,48,none)],[(48,.iload 6,50,none),(50,.iaload,51,none),(51,.aload 0,52,none),(52,.getfield 95,55,none),(55,.iload 4,57,none),(57,.iaload,58,none),(58,.imul,59,none),(59,.iadd,60,none),(60,.istore 3,61,none),(61,.aload 0,62,none),(62,.getfield 53,65,none)],[(65,.iload 6,67,none),(67,.iaload,68,none),(68,.istore 2,69,none),(69,.iinc 4 1,72,none),(72,.goto 10,75,none),(75,.iload 3,76,none),(76,.ireturn,77,none)]]
def cx_43:List (List Jvm.OM.Ent):=[[(0,.aload 0,1,none),(1,.getfield 0,4,none),(4,.iconst 8,6,none),(6,.imul,7,none),(7,.istore 1,8,none),(8,.iconst 0,9,none),(9,.istore 2,10,none),(10,.iload 2,11,some 3),(11,.iconst 8,13,none),(13,.if_icmp .ge 35,16,none)],[(16,.aload 0,17,none),(17,.getfield 104,20,none),(20,.iload 1,21,none),(21,.iload 2,22,none),(22,.iadd,23,none),(23,.aload 0,24,none),(24,.iload 2,25,none),(25,.invokevirtual 42,28,none),(28,.iastore,29,none),(29,.iinc 2 1,32,none)],[(32,.goto 10,35,none),(35,.aload 0,36,none),(36,.getfield 0,39,none),(39,.iconst 1,40,none),(40,.isub,41,none),(41,.istore 2,42,none),(42,.iload 2,43,some 3),(43,.ifCond .lt 57,46,none),(46,.aload 0,47,none),(47,.iload 2,48,none)],[(48,.invokevirtual 44,51,none),(51,.iinc 2 (-1),54,none),(54,.goto 42,57,none),(57,.return_,58,none)]]
def cx_44:List (List Jvm.OM.Ent):=[[(0,.iload 1,1,none),(1,.iconst 8,3,none),(3,.imul,4,none),(4,.istore 2,5,none),(5,.iload 2,6,none),(6,.iconst 8,8,none),(8,.iadd,9,none),(9,.istore 3,10,none),(10,.iconst 0,11,none),(11,.istore 4,13,none),(13,.iload 4,15,some 5),(15,.iconst 8,17,none)],[(17,.if_icmp .ge 102,20,none),(20,.aload 0,21,none),(21,.getfield 12,24,none),(24,.istore 5,26,none),(26,.iconst 0,27,none),(27,.istore 6,29,none),(29,.iload 6,31,some 7),(31,.iconst 2,32,none)],[(32,.if_icmp .ge 85,35,none),(35,.iload 4,37,none),(37,.iconst 2,38,none),(38,.imul,39,none),(39,.iload 6,41,none),(41,.iadd,42,none),(42,.istore 7,44,none),(44,.aload 0,45,none),(45,.iload 1,46,none),(46,.iload 7,48,none)],[(48,.invokevirtual 41,51,none),(51,.aload 0,52,none),(52,.getfield 104,55,none),(55,.iload 3,56,none),(56,.aload 0,57,none),(57,.getfield 53,60,none),(60,.iload 7,62,none),(62,.iaload,63,none),(63,.iadd,64,none)],[(64,.iaload,65,none),(65,.iadd,66,none),(66,.istore 8,68,none),(68,.iload 8,70,none),(70,.iload 5,72,none),(72,.if_icmp .le 79,75,none),(75,.iload 8,77,none),(77,.istore 5,79,none),(79,.iinc 6 1,82,some 9)],[(82,.goto 29,85,none),(85,.aload 0,86,none),(86,.getfield 104,89,none),(89,.iload 2,90,none),(90,.iload 4,92,none),(92,.iadd,93,none),(93,.iload 5,95,none),(95,.iastore,96,none)],[(96,.iinc 4 1,99,none),(99,.goto 13,102,none),(102,.return_,103,none)]]
def cx_45:List (List Jvm.OM.Ent):=[[(0,.iload 1,1,none),(1,.iconst 8,3,none),(3,.imul,4,none),(4,.istore 2,5,none),(5,.iload 2,6,none),(6,.iconst 8,8,none),(8,.iadd,9,none),(9,.istore 3,10,none),(10,.iconst 0,11,none),(11,.istore 4,13,none),(13,.iload 4,15,some 5),(15,.iconst 8,17,none)],[(17,.if_icmp .ge 39,20,none),(20,.aload 0,21,none),(21,.getfield 101,24,none),(24,.iload 3,25,none),(25,.iload 4,27,none),(27,.iadd,28,none),(28,.aload 0,29,none),(29,.getfield 12,32,none)],[(32,.iastore,33,none),(33,.iinc 4 1,36,none),(36,.goto 13,39,none),(39,.iconst 0,40,none),(40,.istore 4,42,none),(42,.iload 4,44,some 5),(44,.iconst 16,46,none),(46,.if_icmp .ge 108,49,none)],[(49,.aload 0,50,none),(50,.getfield 101,53,none),(53,.iload 2,54,none),(54,.iload 4,56,none),(56,.iconst 1,57,none),(57,.ishr,58,none),(58,.iadd,59,none),(59,.iaload,60,none),(60,.aload 0,61,none),(61,.iload 1,62,none),(62,.iload 4,64,none)],[(64,.invokevirtual 41,67,none),(67,.iadd,68,none),(68,.istore 5,70,none),(70,.iload 3,71,none),(71,.aload 0,72,none),(72,.getfield 53,75,none),(75,.iload 4,77,none),(77,.iaload,78,none),(78,.iadd,79,none),(79,.istore 6,81,none)],[(81,.iload 5,83,none),(83,.aload 0,84,none),(84,.getfield 101,87,none),(87,.iload 6,89,none),(89,.iaload,90,none),(90,.if_icmp .le 102,93,none),(93,.aload 0,94,none),(94,.getfield 101,97,none)],[(97,.iload 6,99,none),(99,.iload 5,101,none),(101,.iastore,102,none),(102,.iinc 4 1,105,some 7),(105,.goto 42,108,none),(108,.return_,109,none)]]
def cx_46:List (List Jvm.OM.Ent):=[[(0,.iload 1,1,none),(1,.iconst 8,3,none),(3,.imul,4,none),(4,.istore 2,5,none),(5,.iload 2,6,none),(6,.iconst 8,8,none),(8,.iadd,9,none),(9,.istore 3,10,none),(10,.aload 0,11,none),(11,.getfield 12,14,none),(14,.istore 4,16,none)],[(16,.aload 0,17,none),(17,.getfield 12,20,none),(20,.istore 5,22,none),(22,.iconst 0,23,none),(23,.istore 6,25,none),(25,.iload 6,27,some 7),(27,.iconst 16,29,none),(29,.if_icmp .ge 107,32,none)],[(32,.aload 0,33,none),(33,.getfield 101,36,none),(36,.iload 2,37,none),(37,.iload 6,39,none),(39,.iconst 1,40,none),(40,.ishr,41,none),(41,.iadd,42,none),(42,.iaload,43,none),(43,.aload 0,44,none),(44,.iload 1,45,none),(45,.iload 6,47,none),(47,.invokevirtual 41,50,none)],[(50,.iadd,51,none),(51,.aload 0,52,none),(52,.getfield 104,55,none),(55,.iload 3,56,none),(56,.aload 0,57,none),(57,.getfield 53,60,none),(60,.iload 6,62,none),(62,.iaload,63,none),(63,.iadd,64,none)],[(64,.iaload,65,none),(65,.iadd,66,none),(66,.istore 7,68,none),(68,.iload 6,70,none),(70,.iconst 1,71,none),(71,.iand,72,none),(72,.iconst 1,73,none),(73,.if_icmp .ne 90,76,none),(76,.iload 7,78,none),(78,.iload 5,80,none)],[(80,.if_icmp .le 101,83,none),(83,.iload 7,85,none),(85,.istore 5,87,none),(87,.goto 101,90,none),(90,.iload 7,92,none),(92,.iload 4,94,none),(94,.if_icmp .le 101,97,none)],[(97,.iload 7,99,none),(99,.istore 4,101,none),(101,.iinc 6 1,104,some 8),(104,.goto 25,107,none),(107,.iload 5,109,none),(109,.iload 4,111,none),(111,.isub,112,none)],[(112,.aload 0,113,none),(113,.getfield 83,116,none),(116,.iload 1,117,none),(117,.iaload,118,none),(118,.isub,119,none),(119,.aload 0,120,none),(120,.getfield 86,123,none),(123,.iload 1,124,none),(124,.iaload,125,none),(125,.isub,126,none),(126,.istore 6,128,none)],[(128,.aload 0,129,none),(129,.getfield 98,132,none),(132,.iload 1,133,none),(133,.aload 0,134,none),(134,.iload 6,136,none),(136,.iconst (-1023),139,none),(139,.iconst 1023,142,none),(142,.invokevirtual 49,145,none)],[(145,.iastore,146,none),(146,.return_,147,none)]]
def cx_47:List (List Jvm.OM.Ent):=[[(0,.iload 1,1,none),(1,.ifCond .lt 16,4,none),(4,.iload 1,5,none),(5,.aload 0,6,none),(6,.getfield 0,9,none),(9,.if_icmp .ge 16,12,none),(12,.iconst 1,13,none),(13,.goto 17,16,none)],[(16,.iconst 0,17,some 2),(17,.ireturn,18,some 2)]]
def cx_48:List (List Jvm.OM.Ent):=[[(0,.iload 1,1,none),(1,.ifCond .lt 16,4,none),(4,.iload 1,5,none),(5,.aload 0,6,none),(6,.getfield 6,9,none),(9,.if_icmp .ge 16,12,none),(12,.iconst 1,13,none),(13,.goto 17,16,none)],[(16,.iconst 0,17,some 2),(17,.ireturn,18,some 2)]]
def cx_49:List (List Jvm.OM.Ent):=[[(0,.iload 1,1,none),(1,.iload 2,2,none),(2,.if_icmp .ge 7,5,none),(5,.iload 2,6,none),(6,.ireturn,7,none),(7,.iload 1,8,none),(8,.iload 3,9,none),(9,.if_icmp .le 14,12,none),(12,.iload 3,13,none),(13,.ireturn,14,none),(14,.iload 1,15,none),(15,.ireturn,16,none)]]
def me_0:Jvm.OM.Mth:=(⟨"TurboCodec","<init>","(II)V"⟩,prog_1_method_1_code,5,2,38,none,2,1,false,cx_0.flatten)
def me_1:Jvm.OM.Mth:=(⟨"TurboCodec","normaliseBlock","(I)I"⟩,prog_1_method_2_code,3,1,15,(some .int),1,0,true,cx_1.flatten)
def me_2:Jvm.OM.Mth:=(⟨"TurboCodec","defaultF1","(I)I"⟩,prog_1_method_3_code,2,0,0,(some .int),1,0,true,cx_2.flatten)
def me_3:Jvm.OM.Mth:=(⟨"TurboCodec","defaultF2","(I)I"⟩,prog_1_method_4_code,2,0,0,(some .int),1,0,true,cx_3.flatten)
def me_4:Jvm.OM.Mth:=(⟨"TurboCodec","buildTrellis","()V"⟩,prog_1_method_5_code,9,0,0,none,0,0,true,cx_4.flatten)
def me_5:Jvm.OM.Mth:=(⟨"TurboCodec","setInterleaver","(II)Z"⟩,prog_1_method_6_code,3,2,37,(some .boolean),2,0,false,cx_5.flatten)
def me_6:Jvm.OM.Mth:=(⟨"TurboCodec","interleave","(I)I"⟩,prog_1_method_7_code,2,1,13,(some .int),1,0,false,cx_6.flatten)
def me_7:Jvm.OM.Mth:=(⟨"TurboCodec","deinterleave","(I)I"⟩,prog_1_method_8_code,2,1,13,(some .int),1,0,false,cx_7.flatten)
def me_8:Jvm.OM.Mth:=(⟨"TurboCodec","factorsInRange","(II)Z"⟩,prog_1_method_9_code,3,0,0,(some .boolean),2,0,true,cx_8.flatten)
def me_9:Jvm.OM.Mth:=(⟨"TurboCodec","qppValue","(III)I"⟩,prog_1_method_10_code,10,0,0,(some .int),3,0,true,cx_9.flatten)
def me_10:Jvm.OM.Mth:=(⟨"TurboCodec","buildCandidate","(II)Z"⟩,prog_1_method_11_code,5,1,21,(some .boolean),2,0,true,cx_10.flatten)
def me_11:Jvm.OM.Mth:=(⟨"TurboCodec","commitCandidate","()V"⟩,prog_1_method_12_code,3,0,0,none,0,0,true,cx_11.flatten)
def me_13:Jvm.OM.Mth:=(⟨"TurboCodec","setMessage","(J)V"⟩,prog_1_method_14_code,4,0,0,none,1,0,false,cx_13.flatten)
def me_14:Jvm.OM.Mth:=(⟨"TurboCodec","getBit","(I)I"⟩,prog_1_method_15_code,2,1,13,(some .int),1,0,false,cx_14.flatten)
def me_15:Jvm.OM.Mth:=(⟨"TurboCodec","encode","()I"⟩,prog_1_method_16_code,1,3,44,(some .int),0,0,false,cx_15.flatten)
def me_18:Jvm.OM.Mth:=(⟨"TurboCodec","loadEncoderInput","(I)V"⟩,prog_1_method_19_code,4,0,0,none,1,0,true,cx_18.flatten)
def me_19:Jvm.OM.Mth:=(⟨"TurboCodec","runConstituent","()V"⟩,prog_1_method_20_code,5,0,0,none,0,0,true,cx_19.flatten)
def me_20:Jvm.OM.Mth:=(⟨"TurboCodec","storeEncoderOutput","(I)V"⟩,prog_1_method_21_code,3,0,0,none,1,0,true,cx_20.flatten)
def me_21:Jvm.OM.Mth:=(⟨"TurboCodec","assembleCodeword","()V"⟩,prog_1_method_22_code,4,2,29,none,0,1,true,cx_21.flatten)
def me_22:Jvm.OM.Mth:=(⟨"TurboCodec","sysIndex","(I)I"⟩,prog_1_method_23_code,2,0,0,(some .int),1,0,true,cx_22.flatten)
def me_23:Jvm.OM.Mth:=(⟨"TurboCodec","par1Index","(I)I"⟩,prog_1_method_24_code,2,0,0,(some .int),1,0,true,cx_23.flatten)
def me_24:Jvm.OM.Mth:=(⟨"TurboCodec","par2Index","(I)I"⟩,prog_1_method_25_code,2,0,0,(some .int),1,0,true,cx_24.flatten)
def me_25:Jvm.OM.Mth:=(⟨"TurboCodec","tailBase","()I"⟩,prog_1_method_26_code,1,0,0,(some .int),0,0,true,cx_25.flatten)
def me_26:Jvm.OM.Mth:=(⟨"TurboCodec","tailIndex","(III)I"⟩,prog_1_method_27_code,5,1,12,(some .int),3,0,true,cx_26.flatten)
def me_27:Jvm.OM.Mth:=(⟨"TurboCodec","loadNoiseless","(I)V"⟩,prog_1_method_28_code,4,1,15,none,1,0,false,cx_27.flatten)
def me_28:Jvm.OM.Mth:=(⟨"TurboCodec","setChannel","(II)Z"⟩,prog_1_method_29_code,3,1,17,(some .boolean),2,2,false,cx_28.flatten)
def me_30:Jvm.OM.Mth:=(⟨"TurboCodec","decode","(I)I"⟩,prog_1_method_31_code,4,5,78,(some .int),1,0,false,cx_30.flatten)
def me_31:Jvm.OM.Mth:=(⟨"TurboCodec","decodedBit","(I)I"⟩,prog_1_method_32_code,2,1,13,(some .int),1,0,false,cx_31.flatten)
def me_32:Jvm.OM.Mth:=(⟨"TurboCodec","posterior","(I)I"⟩,prog_1_method_33_code,2,1,13,(some .int),1,0,false,cx_32.flatten)
def me_33:Jvm.OM.Mth:=(⟨"TurboCodec","extrinsic","(II)I"⟩,prog_1_method_34_code,3,1,13,(some .int),2,0,false,cx_33.flatten)
def me_34:Jvm.OM.Mth:=(⟨"TurboCodec","gatherChannel","()V"⟩,prog_1_method_35_code,4,1,16,none,0,3,true,cx_34.flatten)
def me_35:Jvm.OM.Mth:=(⟨"TurboCodec","clearExtrinsic","()V"⟩,prog_1_method_36_code,2,0,0,none,0,0,true,cx_35.flatten)
def me_36:Jvm.OM.Mth:=(⟨"TurboCodec","loadTailValues","(I)V"⟩,prog_1_method_37_code,3,2,31,none,1,3,true,cx_36.flatten)
def me_37:Jvm.OM.Mth:=(⟨"TurboCodec","runDecoder1","()V"⟩,prog_1_method_38_code,2,4,64,none,0,0,true,cx_37.flatten)
def me_38:Jvm.OM.Mth:=(⟨"TurboCodec","runDecoder2","()V"⟩,prog_1_method_39_code,3,4,64,none,0,0,true,cx_38.flatten)
def me_39:Jvm.OM.Mth:=(⟨"TurboCodec","finishDecisions","()I"⟩,prog_1_method_40_code,4,0,0,(some .int),0,0,true,cx_39.flatten)
def me_40:Jvm.OM.Mth:=(⟨"TurboCodec","runCsd","()V"⟩,prog_1_method_41_code,2,3,51,none,0,0,true,cx_40.flatten)
def me_41:Jvm.OM.Mth:=(⟨"TurboCodec","branchMetric","(II)I"⟩,prog_1_method_42_code,4,0,0,(some .int),2,0,true,cx_41.flatten)
def me_42:Jvm.OM.Mth:=(⟨"TurboCodec","tailMetric","(I)I"⟩,prog_1_method_43_code,7,0,0,(some .int),1,0,true,cx_42.flatten)
def me_43:Jvm.OM.Mth:=(⟨"TurboCodec","backwardPass","()V"⟩,prog_1_method_44_code,3,2,37,none,0,2,true,cx_43.flatten)
def me_44:Jvm.OM.Mth:=(⟨"TurboCodec","backwardStep","(I)V"⟩,prog_1_method_45_code,9,1,15,none,1,0,true,cx_44.flatten)
def me_45:Jvm.OM.Mth:=(⟨"TurboCodec","forwardStep","(I)V"⟩,prog_1_method_46_code,7,1,16,none,1,1,true,cx_45.flatten)
def me_46:Jvm.OM.Mth:=(⟨"TurboCodec","softStep","(I)V"⟩,prog_1_method_47_code,8,1,17,none,1,2,true,cx_46.flatten)
def me_47:Jvm.OM.Mth:=(⟨"TurboCodec","inBlock","(I)Z"⟩,prog_1_method_48_code,2,0,0,(some .boolean),1,0,true,cx_47.flatten)
def me_48:Jvm.OM.Mth:=(⟨"TurboCodec","inCode","(I)Z"⟩,prog_1_method_49_code,2,0,0,(some .boolean),1,0,true,cx_48.flatten)
def me_49:Jvm.OM.Mth:=(⟨"TurboCodec","clampInt","(III)I"⟩,prog_1_method_50_code,4,0,0,(some .int),3,0,true,cx_49.flatten)
def ms1:List Jvm.OM.Mth:=[me_0,me_1,me_2,me_3,me_4,me_5,me_6,me_7,me_8,me_9,me_10,me_11,Jvm.OM.m0,me_13,me_14,me_15,Jvm.OM.m0,Jvm.OM.m0,me_18,me_19,me_20,me_21,me_22,me_23,me_24,me_25,me_26,me_27,me_28,Jvm.OM.m0,me_30,me_31,me_32,me_33,me_34,me_35,me_36,me_37,me_38,me_39,me_40,me_41,me_42,me_43,me_44,me_45,me_46,me_47,me_48,me_49]
def fds1:List (String×String×Nat):=[("blockLen","I",0),("pi","[I",2),("rate","I",3),("pinv","[I",5),("codeLen","I",6),("candidate","[I",8),("negInf","I",9),("seen","[Z",11),("lowest","I",12),("msg","[I",14),("end1","I",15),("code","[I",17),("end2","I",18),("chan","[I",20),("encEnd","I",21),("z1","[I",23),("z2","[I",26),("xt1","[I",29),("zt1","[I",32),("xt2","[I",35),("zt2","[I",38),("encIn","[I",41),("encPar","[I",44),("encTx","[I",47),("encTp","[I",50),("nextState","[I",53),("parityOut","[I",56),("tailIn","[I",59),("ys","[I",62),("q1","[I",65),("q2","[I",68),("e1","[I",71),("e2","[I",74),("post","[I",77),("dec","[I",80),("sIn","[I",83),("aIn","[I",86),("qIn","[I",89),("tsIn","[I",92),("tqIn","[I",95),("eOut","[I",98),("alpha","[I",101),("beta","[I",104)]
def arr1:List (FieldType×Nat):=[(.int,64),(.int,64),(.int,64),(.boolean,64),(.int,64),(.int,204),(.int,204),(.int,64),(.int,64),(.int,3),(.int,3),(.int,3),(.int,3),(.int,64),(.int,64),(.int,3),(.int,3),(.int,16),(.int,16),(.int,8),(.int,64),(.int,64),(.int,64),(.int,64),(.int,64),(.int,64),(.int,64),(.int,64),(.int,64),(.int,64),(.int,3),(.int,3),(.int,64),(.int,520),(.int,520)]
def cls1:Jvm.OM.Cls:=("TurboCodec",43,[],fds1,arr1,true,[(none,8,"negInf","I"),(none,15,"lowest","I"),(some .int,18,"pi","[I"),(some .int,22,"pinv","[I"),(some .int,25,"candidate","[I"),(some .boolean,28,"seen","[Z"),(some .int,32,"msg","[I"),(some .int,35,"code","[I"),(some .int,38,"chan","[I"),(some .int,41,"z1","[I"),(some .int,44,"z2","[I"),(some .int,47,"xt1","[I"),(some .int,50,"zt1","[I"),(some .int,53,"xt2","[I"),(some .int,56,"zt2","[I"),(some .int,59,"encIn","[I"),(some .int,62,"encPar","[I"),(some .int,65,"encTx","[I"),(some .int,68,"encTp","[I"),(some .int,71,"nextState","[I"),(some .int,74,"parityOut","[I"),(some .int,77,"tailIn","[I"),(some .int,80,"ys","[I"),(some .int,83,"q1","[I"),(some .int,86,"q2","[I"),(some .int,89,"e1","[I"),(some .int,92,"e2","[I"),(some .int,95,"post","[I"),(some .int,98,"dec","[I"),(some .int,101,"sIn","[I"),(some .int,104,"aIn","[I"),(some .int,107,"qIn","[I"),(some .int,110,"tsIn","[I"),(some .int,113,"tqIn","[I"),(some .int,116,"eOut","[I"),(some .int,119,"alpha","[I"),(some .int,122,"beta","[I")],292,1,[(3,(-268435456)),(4,(-1073741824))],tb1,ms1)
def tb2:Jvm.OM.Tabs:=([],[(17,6),(23,7),(29,30),(32,14),(35,31),(38,32),(41,33),(58,5),(69,13),(73,15),(77,27),(85,28)],[(7,2),(13,6),(26,9),(44,1),(48,3),(54,4),(61,5),(64,7),(81,8)],[],[(67,4294967295)],[(18,0)],[(51,0)])
def cl_0:List (List Jvm.OM.Ent):=[[(0,.aload 0,1,none),(1,.iconst 0,2,none),(2,.invokestatic 1,5,none),(5,.iconst 80,7,none),(7,.invokestatic 2,10,none),(10,.iconst 4,11,none),(11,.isub,12,none),(12,.istore 1,13,none),(13,.aload 0,14,none),(14,.iconst 1,15,none),(15,.invokestatic 1,18,none)],[(18,.iconst 4,19,none),(19,.invokestatic 2,22,none),(22,.iconst 1,23,none),(23,.isub,24,none),(24,.istore 2,25,none),(25,.iload 1,26,none),(26,.invokestatic 3,29,none),(29,.istore 3,30,none),(30,.new 0,33,none)],[(33,.dup,34,none),(34,.iload 1,35,none),(35,.iload 2,36,none),(36,.invokespecial 0,39,none),(39,.astore 4,41,none),(41,.aload 4,43,none),(43,.iload 3,44,none),(44,.invokestatic 4,47,none),(47,.ifCond .ne 52,50,none)],[(50,.iconst 0,51,none),(51,.ireturn,52,none),(52,.iconst 2,53,none),(53,.istore 5,55,none),(55,.iconst 0,56,none),(56,.istore 6,58,none),(58,.iconst 0,59,none),(59,.istore 7,61,none),(61,.iconst 0,62,none),(62,.istore 8,64,none)],[(64,.iload 5,66,some 9),(66,.aload 0,67,none),(67,.arraylength,68,none),(68,.if_icmp .ge 445,71,none),(71,.iload 6,73,none),(73,.iconst 64,75,none),(75,.if_icmp .ge 445,78,none),(78,.aload 0,79,none),(79,.iload 5,81,none)],[(81,.invokestatic 1,84,none),(84,.iconst 10,86,none),(86,.invokestatic 2,89,none),(89,.istore 9,91,none),(91,.aload 0,92,none),(92,.iload 5,94,none),(94,.iconst 1,95,none),(95,.iadd,96,none)],[(96,.invokestatic 1,99,none),(99,.istore 10,101,none),(101,.aload 0,102,none),(102,.iload 5,104,none),(104,.iconst 2,105,none),(105,.iadd,106,none),(106,.invokestatic 1,109,none),(109,.istore 11,111,none),(111,.iinc 5 4,114,none)],[(114,.iinc 6 1,117,none),(117,.iload 9,119,none),(119,.ifCond .ne 158,122,none),(122,.aload 4,124,none),(124,.iload 10,126,none),(126,.iconst 2,127,none),(127,.iload 3,128,none)],[(128,.imul,129,none),(129,.iconst 4,130,none),(130,.iadd,131,none),(131,.invokestatic 2,134,none),(134,.iconst 2,135,none),(135,.isub,136,none),(136,.iload 11,138,none),(138,.iconst 2,139,none),(139,.iload 3,140,none),(140,.imul,141,none),(141,.iconst 4,142,none),(142,.iadd,143,none),(143,.invokestatic 2,146,none)],[(146,.iconst 2,147,none),(147,.isub,148,none),(148,.invokevirtual 5,151,none),(151,.pop,152,none),(152,.iconst 0,153,none),(153,.istore 7,155,none),(155,.goto 431,158,none),(158,.iload 9,160,none)],[(160,.iconst 1,161,none),(161,.if_icmp .ne 193,164,none),(164,.aload 4,166,none),(166,.iload 10,168,none),(168,.iload 3,169,none),(169,.invokestatic 5,172,none),(172,.iload 11,174,none),(174,.iload 3,175,none),(175,.invokestatic 7,178,none)],[(178,.imul,179,none),(179,.iload 3,180,none),(180,.invokestatic 2,183,none),(183,.invokevirtual 5,186,none),(186,.pop,187,none),(187,.iconst 0,188,none),(188,.istore 7,190,none),(190,.goto 431,193,none)],[(193,.iload 9,195,none),(195,.iconst 2,196,none),(196,.if_icmp .ne 224,199,none),(199,.aload 4,201,none),(201,.iload 10,203,none),(203,.i2l,204,none),(204,.iconst 32,206,none),(206,.lshl,207,none),(207,.iload 11,209,none)],[(209,.i2l,210,none),(210,.ldc2_w 4294967295,213,none),(213,.land,214,none),(214,.lor,215,none),(215,.invokevirtual 13,218,none),(218,.iconst 0,219,none),(219,.istore 7,221,none),(221,.goto 431,224,none)],[(224,.iload 9,226,none),(226,.iconst 3,227,none),(227,.if_icmp .ne 242,230,none),(230,.aload 4,232,none),(232,.invokevirtual 15,235,none),(235,.pop,236,none),(236,.iconst 1,237,none),(237,.istore 7,239,none),(239,.goto 431,242,none)],[(242,.iload 9,244,none),(244,.iconst 4,245,none),(245,.if_icmp .ne 284,248,none),(248,.iload 10,250,none),(250,.iconst 300,253,none),(253,.invokestatic 2,256,none)],[(256,.iconst 50,258,none),(258,.isub,259,none),(259,.istore 8,261,none),(261,.aload 4,263,none),(263,.iload 8,265,none),(265,.invokevirtual 27,268,none),(268,.iload 7,270,none),(270,.iconst 1,271,none),(271,.if_icmp .ne 278,274,none)],[(274,.iconst 2,275,none),(275,.goto 279,278,none),(278,.iconst 0,279,none),(279,.istore 7,281,some 12),(281,.goto 431,284,none),(284,.iload 9,286,none),(286,.iconst 5,287,none),(287,.if_icmp .ne 336,290,none)],[(290,.iload 10,292,none),(292,.iconst 12,294,none),(294,.invokestatic 2,297,none),(297,.iconst 2,298,none),(298,.isub,299,none),(299,.istore 12,301,none),(301,.iload 7,303,none),(303,.iconst 2,304,none)],[(304,.if_icmp .ne 322,307,none),(307,.aload 4,309,none),(309,.iload 3,310,none),(310,.iload 8,312,none),(312,.iload 12,314,none),(314,.invokestatic 8,317,none),(317,.ifCond .ne 330,320,none)],[(320,.iconst 0,321,none),(321,.ireturn,322,none),(322,.aload 4,324,none),(324,.iload 12,326,none),(326,.invokevirtual 30,329,none),(329,.pop,330,none),(330,.iconst 0,331,some 13),(331,.istore 7,333,none),(333,.goto 431,336,none)],[(336,.iload 9,338,none),(338,.iconst 6,340,none),(340,.if_icmp .ne 380,343,none),(343,.aload 4,345,none),(345,.iload 10,347,none),(347,.iconst 3,348,none),(348,.iload 3,349,none),(349,.imul,350,none),(350,.iconst 20,352,none)],[(352,.iadd,353,none),(353,.invokestatic 2,356,none),(356,.iconst 4,357,none),(357,.isub,358,none),(358,.iload 11,360,none),(360,.iconst 400,363,none),(363,.invokestatic 2,366,none),(366,.iconst 200,369,none)],[(369,.isub,370,none),(370,.invokevirtual 28,373,none),(373,.pop,374,none),(374,.iconst 0,375,none),(375,.istore 7,377,none),(377,.goto 431,380,none),(380,.aload 4,382,none),(382,.invokevirtual 15,385,none)],[(385,.pop,386,none),(386,.iload 10,388,none),(388,.iconst 300,391,none),(391,.invokestatic 2,394,none),(394,.iconst 50,396,none),(396,.isub,397,none),(397,.istore 8,399,none),(399,.aload 4,401,none)],[(401,.iload 8,403,none),(403,.invokevirtual 27,406,none),(406,.aload 4,408,none),(408,.iload 3,409,none),(409,.iload 8,411,none),(411,.iload 11,413,none),(413,.iconst 12,415,none),(415,.invokestatic 2,418,none)],[(418,.iconst 2,419,none),(419,.isub,420,none),(420,.invokestatic 8,423,none),(423,.ifCond .ne 428,426,none),(426,.iconst 0,427,none),(427,.ireturn,428,none),(428,.iconst 0,429,none),(429,.istore 7,431,none),(431,.aload 4,433,some 12)],[(433,.iload 3,434,none),(434,.invokestatic 4,437,none),(437,.ifCond .ne 442,440,none),(440,.iconst 0,441,none),(441,.ireturn,442,none),(442,.goto 64,445,none),(445,.iconst 1,446,some 9),(446,.ireturn,447,none)]]
def cl_1:List (List Jvm.OM.Ent):=[[(0,.iload 1,1,none),(1,.aload 0,2,none),(2,.arraylength,3,none),(3,.if_icmp .ge 12,6,none),(6,.aload 0,7,none),(7,.iload 1,8,none),(8,.iaload,9,none),(9,.goto 13,12,none),(12,.iconst 0,13,none),(13,.ireturn,14,some 2)]]
def cl_2:List (List Jvm.OM.Ent):=[[(0,.iload 0,1,none),(1,.iload 1,2,none),(2,.irem,3,none),(3,.istore 2,4,none),(4,.iload 2,5,none),(5,.ifCond .ge 14,8,none),(8,.iload 2,9,none),(9,.iload 1,10,none),(10,.iadd,11,none),(11,.goto 15,14,none),(14,.iload 2,15,none),(15,.ireturn,16,some 3)]]
def cl_3:List (List Jvm.OM.Ent):=[[(0,.iload 0,1,none),(1,.iconst 8,3,none),(3,.if_icmp .ge 9,6,none),(6,.iconst 8,8,none),(8,.istore 0,9,none),(9,.iload 0,10,some 1),(10,.iconst 64,12,none),(12,.if_icmp .le 18,15,none),(15,.iconst 64,17,none)],[(17,.istore 0,18,none),(18,.iload 0,19,some 1),(19,.iload 0,20,none),(20,.iconst 8,22,none),(22,.irem,23,none),(23,.isub,24,none),(24,.ireturn,25,none)]]
def cl_4:List (List Jvm.OM.Ent):=[[(0,.iconst 0,1,none),(1,.istore 2,2,none),(2,.iload 2,3,some 3),(3,.iload 1,4,none),(4,.if_icmp .ge 73,7,none),(7,.aload 0,8,none),(8,.iload 2,9,none),(9,.invokevirtual 6,12,none),(12,.istore 3,13,none),(13,.iload 3,14,none),(14,.ifCond .lt 22,17,none)],[(17,.iload 3,18,none),(18,.iload 1,19,none),(19,.if_icmp .lt 24,22,none),(22,.iconst 0,23,some 4),(23,.ireturn,24,none),(24,.aload 0,25,none),(25,.iload 3,26,none),(26,.invokevirtual 7,29,none),(29,.iload 2,30,none),(30,.if_icmp .eq 35,33,none)],[(33,.iconst 0,34,none),(34,.ireturn,35,none),(35,.aload 0,36,none),(36,.iload 2,37,none),(37,.invokevirtual 7,40,none),(40,.istore 4,42,none),(42,.iload 4,44,none),(44,.ifCond .lt 53,47,none),(47,.iload 4,49,none)],[(49,.iload 1,50,none),(50,.if_icmp .lt 55,53,none),(53,.iconst 0,54,some 5),(54,.ireturn,55,none),(55,.aload 0,56,none),(56,.iload 4,58,none),(58,.invokevirtual 6,61,none),(61,.iload 2,62,none),(62,.if_icmp .eq 67,65,none)],[(65,.iconst 0,66,none),(66,.ireturn,67,none),(67,.iinc 2 1,70,none),(70,.goto 2,73,none),(73,.iconst 1,74,none),(74,.ireturn,75,none)]]
def cl_5:List (List Jvm.OM.Ent):=[[(0,.iconst 2,1,none),(1,.iload 0,2,none),(2,.imul,3,none),(3,.iconst 1,4,none),(4,.iadd,5,none),(5,.iload 1,6,none),(6,.invokestatic 2,9,none),(9,.istore 2,10,none),(10,.iconst 0,11,none),(11,.istore 3,12,none),(12,.iload 3,13,some 4),(13,.iload 1,14,none),(14,.if_icmp .ge 37,17,none)],[(17,.iload 2,18,none),(18,.iload 1,19,none),(19,.invokestatic 6,22,none),(22,.ifCond .ne 37,25,none),(25,.iload 2,26,none),(26,.iconst 2,27,none),(27,.iadd,28,none),(28,.iload 1,29,none),(29,.irem,30,none),(30,.istore 2,31,none),(31,.iinc 3 1,34,none)],[(34,.goto 12,37,none),(37,.iload 2,38,some 4),(38,.ireturn,39,none)]]
def cl_6:List (List Jvm.OM.Ent):=[[(0,.iload 0,1,none),(1,.iconst 2,2,none),(2,.irem,3,none),(3,.ifCond .ne 8,6,none),(6,.iconst 0,7,none),(7,.ireturn,8,none),(8,.iload 1,9,none),(9,.iconst 3,10,none),(10,.irem,11,none),(11,.ifCond .ne 22,14,none),(14,.iload 0,15,none),(15,.iconst 3,16,none)],[(16,.irem,17,none),(17,.ifCond .ne 22,20,none),(20,.iconst 0,21,none),(21,.ireturn,22,none),(22,.iload 1,23,some 2),(23,.iconst 5,24,none),(24,.irem,25,none),(25,.ifCond .ne 36,28,none),(28,.iload 0,29,none),(29,.iconst 5,30,none),(30,.irem,31,none),(31,.ifCond .ne 36,34,none)],[(34,.iconst 0,35,none),(35,.ireturn,36,none),(36,.iload 1,37,some 2),(37,.iconst 7,39,none),(39,.irem,40,none),(40,.ifCond .ne 52,43,none),(43,.iload 0,44,none),(44,.iconst 7,46,none),(46,.irem,47,none),(47,.ifCond .ne 52,50,none)],[(50,.iconst 0,51,none),(51,.ireturn,52,none),(52,.iconst 1,53,some 2),(53,.ireturn,54,none)]]
def cl_7:List (List Jvm.OM.Ent):=[[(0,.iconst 2,1,none),(1,.istore 1,2,none),(2,.iload 0,3,none),(3,.iconst 3,4,none),(4,.irem,5,none),(5,.ifCond .ne 12,8,none),(8,.iload 1,9,none),(9,.iconst 3,10,none),(10,.imul,11,none),(11,.istore 1,12,none),(12,.iload 0,13,some 2),(13,.iconst 5,14,none),(14,.irem,15,none),(15,.ifCond .ne 22,18,none)],[(18,.iload 1,19,none),(19,.iconst 5,20,none),(20,.imul,21,none),(21,.istore 1,22,none),(22,.iload 0,23,some 2),(23,.iconst 7,25,none),(25,.irem,26,none),(26,.ifCond .ne 34,29,none),(29,.iload 1,30,none),(30,.iconst 7,32,none)],[(32,.imul,33,none),(33,.istore 1,34,none),(34,.iload 1,35,some 2),(35,.ireturn,36,none)]]
def cl_8:List (List Jvm.OM.Ent):=[[(0,.iload 2,1,none),(1,.invokestatic 9,4,none),(4,.istore 4,6,none),(6,.aload 0,7,none),(7,.iload 3,8,none),(8,.invokevirtual 30,11,none),(11,.ifCond .eq 16,14,none),(14,.iconst 0,15,none),(15,.ireturn,16,none)],[(16,.iconst 0,17,none),(17,.istore 5,19,none),(19,.iload 5,21,some 6),(21,.iload 1,22,none),(22,.if_icmp .ge 158,25,none),(25,.aload 0,26,none),(26,.iload 5,28,none),(28,.invokevirtual 14,31,none),(31,.istore 6,33,none)],[(33,.aload 0,34,none),(34,.iload 5,36,none),(36,.invokevirtual 31,39,none),(39,.iload 6,41,none),(41,.if_icmp .eq 46,44,none),(44,.iconst 0,45,none),(45,.ireturn,46,none),(46,.aload 0,47,none),(47,.iload 5,49,none)],[(49,.invokevirtual 32,52,none),(52,.istore 7,54,none),(54,.iload 6,56,none),(56,.iconst 1,57,none),(57,.if_icmp .ne 69,60,none),(60,.iload 7,62,none),(62,.iload 4,64,none)],[(64,.if_icmp .ge 69,67,none),(67,.iconst 0,68,none),(68,.ireturn,69,none),(69,.iload 6,71,some 8),(71,.ifCond .ne 84,74,none),(74,.iload 7,76,none),(76,.iload 4,78,none),(78,.ineg,79,none),(79,.if_icmp .le 84,82,none)],[(82,.iconst 0,83,none),(83,.ireturn,84,none),(84,.aload 0,85,some 8),(85,.iconst 1,86,none),(86,.iload 5,88,none),(88,.invokevirtual 33,91,none),(91,.istore 8,93,none),(93,.aload 0,94,none),(94,.iconst 2,95,none),(95,.iload 5,97,none)],[(97,.invokevirtual 33,100,none),(100,.istore 9,102,none),(102,.iload 8,104,none),(104,.ifCond .eq 127,107,none),(107,.iload 7,109,none),(109,.ifCond .le 120,112,none)],[(112,.iload 8,114,none),(114,.ifCond .ge 127,117,none),(117,.goto 125,120,none),(120,.iload 8,122,none),(122,.ifCond .le 127,125,none),(125,.iconst 0,126,some 10),(126,.ireturn,127,none),(127,.iload 9,129,some 10)],[(129,.ifCond .eq 152,132,none),(132,.iload 7,134,none),(134,.ifCond .le 145,137,none),(137,.iload 9,139,none),(139,.ifCond .ge 152,142,none),(142,.goto 150,145,none)],[(145,.iload 9,147,none),(147,.ifCond .le 152,150,none),(150,.iconst 0,151,some 10),(151,.ireturn,152,none),(152,.iinc 5 1,155,some 10),(155,.goto 19,158,none),(158,.iconst 1,159,none),(159,.ireturn,160,none)]]
def cl_9:List (List Jvm.OM.Ent):=[[(0,.iload 0,1,none),(1,.iconst 1,2,none),(2,.if_icmp .ge 9,5,none),(5,.iconst 1,6,none),(6,.goto 21,9,none),(9,.iload 0,10,none),(10,.iconst 127,12,none),(12,.if_icmp .le 20,15,none),(15,.iconst 127,17,none)],[(17,.goto 21,20,none),(20,.iload 0,21,none),(21,.ireturn,22,some 1)]]
def ml_0:Jvm.OM.Mth:=(⟨"TurboCodecOwnLaw","law","([I)Z"⟩,code,13,7,117,(some .boolean),1,3,false,cl_0.flatten)
def ml_1:Jvm.OM.Mth:=(⟨"TurboCodecOwnLaw","cell","([II)I"⟩,method_2_code,2,0,0,(some .int),2,0,false,cl_1.flatten)
def ml_2:Jvm.OM.Mth:=(⟨"TurboCodecOwnLaw","mod","(II)I"⟩,method_3_code,3,0,0,(some .int),2,0,false,cl_2.flatten)
def ml_3:Jvm.OM.Mth:=(⟨"TurboCodecOwnLaw","blockOf","(I)I"⟩,method_4_code,1,0,0,(some .int),1,0,false,cl_3.flatten)
def ml_4:Jvm.OM.Mth:=(⟨"TurboCodecOwnLaw","inv","(LTurboCodec;I)Z"⟩,method_9_code,5,2,26,(some .boolean),2,0,false,cl_4.flatten)
def ml_5:Jvm.OM.Mth:=(⟨"TurboCodecOwnLaw","goodF1","(II)I"⟩,method_8_code,4,1,14,(some .int),2,0,false,cl_5.flatten)
def ml_6:Jvm.OM.Mth:=(⟨"TurboCodecOwnLaw","coprime","(II)Z"⟩,method_7_code,2,0,0,(some .boolean),2,0,false,cl_6.flatten)
def ml_7:Jvm.OM.Mth:=(⟨"TurboCodecOwnLaw","rad","(I)I"⟩,method_6_code,2,0,0,(some .int),1,0,false,cl_7.flatten)
def ml_8:Jvm.OM.Mth:=(⟨"TurboCodecOwnLaw","checkDecode","(LTurboCodec;III)Z"⟩,method_10_code,10,6,93,(some .boolean),4,0,false,cl_8.flatten)
def ml_9:Jvm.OM.Mth:=(⟨"TurboCodecOwnLaw","clampAmp","(I)I"⟩,method_5_code,1,0,0,(some .int),1,0,false,cl_9.flatten)
def ms2:List Jvm.OM.Mth:=[ml_0,ml_1,ml_2,ml_3,ml_4,ml_5,ml_6,ml_7,ml_8,ml_9]
def iv1:List (Nat×Int):=[(3,(-268435456)),(4,(-1073741824))]
abbrev nmax1:Nat:=1
theorem own_d1:data1 cls1=true:=by decide +kernel
theorem own_g1:goodB tb1 ms1=true:=by decide +kernel
theorem own_r1:roomB ms1 ms1 callVk=true:=by decide +kernel
theorem own_d2:data2 "TurboCodec" "TurboCodecOwnLaw" ms1 ms2 tb2=true:=by decide +kernel
theorem own_g2:goodB tb2 ms2=true:=by decide +kernel
theorem own_rv:roomB ms2 ms1 callVk=true:=by decide +kernel
theorem own_rc:roomB ms2 ms1 callCk=true:=by decide +kernel
theorem own_rs:roomB ms2 ms2 callSk=true:=by decide +kernel
theorem own_hcut{tw:List Jvm.Cond}:∀(n:Nat) {ws:List Jvm.Cond} {is:List Nat},hasB tw (ws.take n) (is.take n)=true→hasB tw (ws.drop n) (is.drop n)=true→hasB tw ws is=true
 |0,ws,is,_,h=>h
 |n+1,[],[],_,h=>rfl
 |n+1,w::ws,i::is,h,h'=>by
  simp only[List.take_succ_cons,hasB,Bool.and_eq_true] at h
  simp only[List.drop_succ_cons] at h'
  simp only[hasB,Bool.and_eq_true]
  exact⟨h.1,own_hcut n h.2 h'⟩
 |n+1,[],i::is,h,_=>by
  simp[List.take_succ_cons,hasB] at h
 |n+1,w::ws,[],h,_=>by
  simp[List.take_succ_cons,hasB] at h
def own_is1:List Nat:=[11,12,16,17,18,14,15,106,27,108,29,110,31,21,34,24,36,136,38,138,40,194,42,44,46,48,50,52,54,56,58,60,62,64,66,68,70,72,74,76,78,80,82,84,86,88,90,92,94,96,20,23,26,28,30,33,35,37,39,41,43,45,47,49,51,53,55,57,59,61,63,65,67,69,71,73,75,77,79,81,83,85,87,89,91,93,95,105,107,109,135,137,193,20,23,26,28,30,33,35,37,39,41,43,45,47,49,51,53,55,57,59,61,63,65,67,69,71,73,75,77,79,81,83,85,87,89,91,93,95,25,25,25,32,25,25,25,25,25,25,25,25,25,25,25,25,25,25,25,25,25,25,25,25,25,25,25,25,25,25,25,25,25,25,25,97,101,111,115,119,123,131,170,147,127,185,189,195,199,316,203,207,211,215,219,239,243,247,283,287,251,255,259,275,279,263,267,271,98,100,99,116,118,117,120,122,121,112,114,113,167,169,166,168,144,146,143,145,153,155,152,154,171,173,172,128,130,129,124,126,125,132,134,133,177,179,176,178,293,295,292,294,182,184,181,183,186,188,187,190,192,191,196,198,197,200,202,201,204,206,205,208,210,209,212,214,213,220,222,221,216,218,217,225,227,224,226,313,315,312,314,236,238,235,237,298,300,297,299,303,305,302,304,308,310,307,309,240,242,241,244,246,245,252,254,253,248,250,249,284,286,285,288,290,289,256,258,257,272,274,273,264,266,265,260,262,261,268,270,269,280,282,281,276,278,277,148,150,149,317,319,318,102,104,103,19,22]
theorem own_h1_0:hasB tables_1 ((needs1 cls1).take 60) (own_is1.take 60)=true:=by decide +kernel
theorem own_h1_1:hasB tables_1 (((needs1 cls1).drop 60).take 60) ((own_is1.drop 60).take 60)=true:=by decide +kernel
theorem own_h1_2:hasB tables_1 ((((needs1 cls1).drop 60).drop 60).take 60) (((own_is1.drop 60).drop 60).take 60)=true:=by decide +kernel
theorem own_h1_3:hasB tables_1 (((((needs1 cls1).drop 60).drop 60).drop 60).take 60) ((((own_is1.drop 60).drop 60).drop 60).take 60)=true:=by decide +kernel
theorem own_h1_4:hasB tables_1 ((((((needs1 cls1).drop 60).drop 60).drop 60).drop 60).take 60) (((((own_is1.drop 60).drop 60).drop 60).drop 60).take 60)=true:=by decide +kernel
theorem own_h1_5:hasB tables_1 ((((((needs1 cls1).drop 60).drop 60).drop 60).drop 60).drop 60) (((((own_is1.drop 60).drop 60).drop 60).drop 60).drop 60)=true:=by decide +kernel
theorem own_h1:hasB tables_1 (needs1 cls1) own_is1=true:=(own_hcut 60 own_h1_0 (own_hcut 60 own_h1_1 (own_hcut 60 own_h1_2 (own_hcut 60 own_h1_3 (own_hcut 60 own_h1_4 own_h1_5)))))
theorem own_h2:hasB tables_1 (needs2 "TurboCodec" "TurboCodecOwnLaw" ms1 ms2 tb2) [10,13,142,151,234,291,296,301,306,165,175,180,223,311,4,5,2,6,159,160,2,161,231,232,2,233,0,1,2,3,7,8,2,9,139,140,2,141,156,157,2,158,162,163,2,164,228,229,2,230,174]=true:=by decide +kernel
theorem k_m32768:Int32.ofInt (-32768)=(-32768):=by decide
theorem k_m1023:Int32.ofInt (-1023)=(-1023):=by decide
theorem k_m127:Int32.ofInt (-127)=(-127):=by decide
theorem k_m1:Int32.ofInt (-1)=(-1):=by decide
theorem k_0:Int32.ofInt 0=0:=by decide
theorem k_1:Int32.ofInt 1=1:=by decide
theorem k_2:Int32.ofInt 2=2:=by decide
theorem k_3:Int32.ofInt 3=3:=by decide
theorem k_4:Int32.ofInt 4=4:=by decide
theorem k_5:Int32.ofInt 5=5:=by decide
theorem k_6:Int32.ofInt 6=6:=by decide
theorem k_7:Int32.ofInt 7=7:=by decide
theorem k_8:Int32.ofInt 8=8:=by decide
theorem k_10:Int32.ofInt 10=10:=by decide
theorem k_12:Int32.ofInt 12=12:=by decide
theorem k_16:Int32.ofInt 16=16:=by decide
theorem k_19:Int32.ofInt 19=19:=by decide
theorem k_20:Int32.ofInt 20=20:=by decide
theorem k_24:Int32.ofInt 24=24:=by decide
theorem k_32:Int32.ofInt 32=32:=by decide
theorem k_40:Int32.ofInt 40=40:=by decide
theorem k_42:Int32.ofInt 42=42:=by decide
theorem k_48:Int32.ofInt 48=48:=by decide
theorem k_50:Int32.ofInt 50=50:=by decide
theorem k_56:Int32.ofInt 56=56:=by decide
theorem k_64:Int32.ofInt 64=64:=by decide
theorem k_80:Int32.ofInt 80=80:=by decide
theorem k_127:Int32.ofInt 127=127:=by decide
theorem k_200:Int32.ofInt 200=200:=by decide
theorem k_300:Int32.ofInt 300=300:=by decide
theorem k_400:Int32.ofInt 400=400:=by decide
theorem k_1023:Int32.ofInt 1023=1023:=by decide
theorem kl_4294967295:Int64.ofNat 4294967295=4294967295:=by decide
abbrev Fx(f1:FT1):=Fix1 arr1 ms1 f1
abbrev Fy(xs:List Int32)(f1:FT1)(f2:FT2):=Fix2 ms1 ms2 iv1 292 nmax1 (some xs) f1 f2
theorem e1_0_292{f1}(h:Fx f1)(x1 x2:Int32)(S):f1 (0,292,[.ref 0,.int x1,.int x2],[],S)=(f1 (1,0,[.ref 0,.int x1],[],S)).bind fun q=>f1 (0,298,[.ref 0,.int x1,.int x2],q.1.toList++[.ref 0],q.2):=Jd h rfl rfl<|Jd h rfl rfl<|Jb h rfl rfl<|Jf h rfl rfl
theorem e1_0_298{f1}(h:Fx f1)(x1 x2 y0:Int32)(S):f1 (0,298,[.ref 0,.int x1,.int x2],[.int y0,.ref 0],S)=(f1 (49,0,[.ref 0,.int x2,.int 0,.int 1],[],(upd S 0 0 y0))).bind fun q=>f1 (0,309,[.ref 0,.int x1,.int x2],q.1.toList++[.ref 0],q.2):=Jw h rfl<|Jd h rfl rfl<|Jd h rfl rfl<|Jb h rfl rfl<|Jc h rfl k_0<|Jc h rfl k_1<|Jf h rfl rfl
theorem e1_0_309{f1}(h:Fx f1)(x1 x2 y0:Int32)(S):f1 (0,309,[.ref 0,.int x1,.int x2],[.int y0,.ref 0],S)=if y0=0 then (f1 (4,0,[.ref 0],[],(upd (upd S 0 1 y0) 0 2 ((3*(S 0 0))+12)))).bind fun q=>f1 (0,352,[.ref 0,.int x1,.int x2],q.1.toList++[],q.2) else (f1 (4,0,[.ref 0],[],(upd (upd S 0 1 y0) 0 2 ((2*(S 0 0))+12)))).bind fun q=>f1 (0,352,[.ref 0,.int x1,.int x2],q.1.toList++[],q.2):=Jw h rfl<|Jd h rfl rfl<|Jj h rfl y0<|Js h rfl (Jd h rfl rfl<|Jc h rfl k_3<|Jd h rfl rfl<|Jj h rfl (S 0 0)<|Jz h rfl<|Jc h rfl k_12<|Jt h rfl<|Jw h rfl<|Jh h rfl<|Jd h rfl rfl<|Jf h rfl rfl) (Jd h rfl rfl<|Jc h rfl k_2<|Jd h rfl rfl<|Jj h rfl (S 0 0)<|Jz h rfl<|Jc h rfl k_12<|Jt h rfl<|Jw h rfl<|Jd h rfl rfl<|Jf h rfl rfl)
theorem e1_0_352{f1}(h:Fx f1)(x1 x2:Int32)(S):f1 (0,352,[.ref 0,.int x1,.int x2],[],S)=(f1 (2,0,[.ref 0,.int (S 0 0)],[],S)).bind fun q=>f1 (0,360,[.ref 0,.int x1,.int x2],q.1.toList++[],q.2):=Jd h rfl rfl<|Jd h rfl rfl<|Jj h rfl (S 0 0)<|Jf h rfl rfl
theorem e1_0_360{f1}(h:Fx f1)(x1 x2 y0:Int32)(S):f1 (0,360,[.ref 0,.int x1,.int x2],[.int y0],S)=(f1 (3,0,[.ref 0,.int (S 0 0)],[],S)).bind fun q=>f1 (0,369,[.ref 0,.int x1,.int x2,.int y0],q.1.toList++[],q.2):=Je h rfl [.ref 0,.int x1,.int x2,.int y0]<|Jd h rfl rfl<|Jd h rfl rfl<|Jj h rfl (S 0 0)<|Jf h rfl rfl
theorem e1_0_369{f1}(h:Fx f1)(x1 x2 x3 y0:Int32)(S):f1 (0,369,[.ref 0,.int x1,.int x2,.int x3],[.int y0],S)=(f1 (10,0,[.ref 0,.int x3,.int y0],[],S)).bind fun q=>f1 (0,378,[.ref 0,.int x1,.int x2,.int x3,.int y0],q.1.toList++[],q.2):=Je h rfl [.ref 0,.int x1,.int x2,.int x3,.int y0]<|Jd h rfl rfl<|Jb h rfl rfl<|Jb h rfl rfl<|Jf h rfl rfl
theorem e1_0_378{f1}(h:Fx f1)(x1 x2 x3 x4 y0:Int32)(S):f1 (0,378,[.ref 0,.int x1,.int x2,.int x3,.int x4],[.int y0],S)=if y0=0 then f1 (0,389,[.ref 0,.int x1,.int x2,.int x3,.int x4],[.ref 0],S) else (f1 (11,0,[.ref 0],[],S)).bind fun q=>f1 (0,385,[.ref 0,.int x1,.int x2,.int x3,.int x4],q.1.toList++[],q.2):=Jy h rfl (Jd h rfl rfl rfl) (Jd h rfl rfl<|Jf h rfl rfl)
theorem e1_0_385{f1}(h:Fx f1)(x1 x2 x3 x4:Int32)(S):f1 (0,385,[.ref 0,.int x1,.int x2,.int x3,.int x4],[],S)=some (none,(upd (upd S 0 5 0) 0 6 0)):=Jh h rfl<|Jd h rfl rfl<|Jc h rfl k_0<|Jw h rfl<|Jd h rfl rfl<|Jc h rfl k_0<|Jw h rfl<|Jk h rfl
theorem e1_1_0{f1}(h:Fx f1)(x1:Int32)(S):f1 (1,0,[.ref 0,.int x1],[],S)=(f1 (49,0,[.ref 0,.int x1,.int 8,.int 64],[],S)).bind fun q=>f1 (1,9,[.ref 0,.int x1],q.1.toList++[],q.2):=Jd h rfl rfl<|Jb h rfl rfl<|Jc h rfl k_8<|Jc h rfl k_64<|Jf h rfl rfl
theorem e1_1_9{f1}(h:Fx f1)(x1 y0:Int32)(S):f1 (1,9,[.ref 0,.int x1],[.int y0],S)=some (some (.int (y0-(y0%8))),S):=Je h rfl [.ref 0,.int x1,.int y0]<|Jb h rfl rfl<|Jb h rfl rfl<|Jc h rfl k_8<|JW h rfl (by decide)<|JG h rfl<|Ji h rfl
theorem e1_49_0{f1}(h:Fx f1)(x1 x2 x3:Int32)(S):f1 (49,0,[.ref 0,.int x1,.int x2,.int x3],[],S)=if x1<x2 then some (some (.int x2),S) else if x3<x1 then some (some (.int x3),S) else some (some (.int x1),S):=Jb h rfl rfl<|Jb h rfl rfl<|Jm h rfl (Jb h rfl rfl<|Ji h rfl) (Jb h rfl rfl<|Jb h rfl rfl<|JO h rfl (Jb h rfl rfl<|Ji h rfl) (Jb h rfl rfl<|Ji h rfl))
theorem e1_4_0{f1}(h:Fx f1)(S):f1 (4,0,[.ref 0],[],S)=f1 (4,2,[.ref 0,.int 0],[],S):=Jc h rfl k_0<|Je h rfl [.ref 0,.int 0] rfl
theorem e1_4_2{f1}(h:Fx f1)(x1:Int32)(S):f1 (4,2,[.ref 0,.int x1],[],S)=if x1<8 then if inb x1 8=true then f1 (4,38,[.ref 0,.int x1,.int (x1&&&1),.int ((x1>>>((1:Int32)&&&31))&&&1),.int ((x1>>>((2:Int32)&&&31))&&&1),.int 0],[],(upd S 20 (x1).toNatClampNeg (((x1>>>((1:Int32)&&&31))&&&1)^^^((x1>>>((2:Int32)&&&31))&&&1)))) else none else some (none,S):=Jb h rfl rfl<|Jc h rfl k_8<|Jm h rfl (Jb h rfl rfl<|Jc h rfl k_1<|Ju h rfl<|Je h rfl [.ref 0,.int x1,.int (x1&&&1)]<|Jb h rfl rfl<|Jc h rfl k_1<|JV h rfl<|Jc h rfl k_1<|Ju h rfl<|Je h rfl [.ref 0,.int x1,.int (x1&&&1),.int ((x1>>>((1:Int32)&&&31))&&&1)]<|Jb h rfl rfl<|Jc h rfl k_2<|JV h rfl<|Jc h rfl k_1<|Ju h rfl<|Je h rfl [.ref 0,.int x1,.int (x1&&&1),.int ((x1>>>((1:Int32)&&&31))&&&1),.int ((x1>>>((2:Int32)&&&31))&&&1)]<|Jd h rfl rfl<|Jg h rfl<|Jb h rfl rfl<|Jb h rfl rfl<|Jb h rfl rfl<|JD h rfl<|Jv h rfl rfl (((x1>>>((1:Int32)&&&31))&&&1)^^^((x1>>>((2:Int32)&&&31))&&&1)) fun i0=>Jc h rfl k_0<|Je h rfl [.ref 0,.int x1,.int (x1&&&1),.int ((x1>>>((1:Int32)&&&31))&&&1),.int ((x1>>>((2:Int32)&&&31))&&&1),.int 0] rfl) (Jk h rfl)
theorem e1_4_38{f1}(h:Fx f1)(x1 x2 x3 x4 x5:Int32)(S):f1 (4,38,[.ref 0,.int x1,.int x2,.int x3,.int x4,.int x5],[],S)=if x5<2 then if inb ((x1*2)+x5) 16=true then f1 (4,38,[.ref 0,.int x1,.int x2,.int x3,.int x4,.int (x5+1)],[],(upd (upd S 18 (((x1*2)+x5)).toNatClampNeg ((((x5^^^x3)^^^x4)+(2*x2))+(4*x3))) 19 (((x1*2)+x5)).toNatClampNeg ((((x5^^^x3)^^^x4)^^^x2)^^^x4))) else none else f1 (4,2,[.ref 0,.int (x1+1)],[],S):=Jb h rfl rfl<|Jc h rfl k_2<|Jm h rfl (Jb h rfl rfl<|Jb h rfl rfl<|JD h rfl<|Jb h rfl rfl<|JD h rfl<|Je h rfl [.ref 0,.int x1,.int x2,.int x3,.int x4,.int x5,.int ((x5^^^x3)^^^x4)]<|Jb h rfl rfl<|Jb h rfl rfl<|JD h rfl<|Jb h rfl rfl<|JD h rfl<|Je h rfl [.ref 0,.int x1,.int x2,.int x3,.int x4,.int x5,.int ((x5^^^x3)^^^x4),.int ((((x5^^^x3)^^^x4)^^^x2)^^^x4)]<|Jb h rfl rfl<|Jc h rfl k_2<|Jz h rfl<|Jb h rfl rfl<|Jt h rfl<|Je h rfl [.ref 0,.int x1,.int x2,.int x3,.int x4,.int x5,.int ((x5^^^x3)^^^x4),.int ((((x5^^^x3)^^^x4)^^^x2)^^^x4),.int ((x1*2)+x5)]<|Jd h rfl rfl<|Jg h rfl<|Jb h rfl rfl<|Jb h rfl rfl<|Jc h rfl k_2<|Jb h rfl rfl<|Jz h rfl<|Jt h rfl<|Jc h rfl k_4<|Jb h rfl rfl<|Jz h rfl<|Jt h rfl<|Jv h rfl rfl ((((x5^^^x3)^^^x4)+(2*x2))+(4*x3)) fun i0=>Jd h rfl rfl<|Jg h rfl<|Jb h rfl rfl<|Jb h rfl rfl<|Jx h rfl rfl ((((x5^^^x3)^^^x4)^^^x2)^^^x4) i0<|Jn h rfl k_1 rfl [.ref 0,.int x1,.int x2,.int x3,.int x4,.int (x5+1),.int ((x5^^^x3)^^^x4),.int ((((x5^^^x3)^^^x4)^^^x2)^^^x4),.int ((x1*2)+x5)]<|Jh h rfl<|Jr h rfl rfl) (Jn h rfl k_1 rfl [.ref 0,.int (x1+1),.int x2,.int x3,.int x4,.int x5]<|Jh h rfl<|Jr h rfl rfl)
theorem e1_2_0{f1}(h:Fx f1)(x1:Int32)(S):f1 (2,0,[.ref 0,.int x1],[],S)=if x1=8 then some (some (.int 3),S) else if x1=16 then some (some (.int 5),S) else if x1=24 then some (some (.int 5),S) else if x1=32 then some (some (.int 7),S) else if x1=40 then some (some (.int 3),S) else if x1=48 then some (some (.int 7),S) else if x1=56 then some (some (.int 19),S) else some (some (.int 7),S):=Jb h rfl rfl<|Jc h rfl k_8<|Jp h rfl (Jc h rfl k_3<|Ji h rfl) (Jb h rfl rfl<|Jc h rfl k_16<|Jp h rfl (Jc h rfl k_5<|Ji h rfl) (Jb h rfl rfl<|Jc h rfl k_24<|Jp h rfl (Jc h rfl k_5<|Ji h rfl) (Jb h rfl rfl<|Jc h rfl k_32<|Jp h rfl (Jc h rfl k_7<|Ji h rfl) (Jb h rfl rfl<|Jc h rfl k_40<|Jp h rfl (Jc h rfl k_3<|Ji h rfl) (Jb h rfl rfl<|Jc h rfl k_48<|Jp h rfl (Jc h rfl k_7<|Ji h rfl) (Jb h rfl rfl<|Jc h rfl k_56<|Jp h rfl (Jc h rfl k_19<|Ji h rfl) (Jc h rfl k_7<|Ji h rfl)))))))
theorem e1_3_0{f1}(h:Fx f1)(x1:Int32)(S):f1 (3,0,[.ref 0,.int x1],[],S)=if x1=8 then some (some (.int 4),S) else if x1=16 then some (some (.int 4),S) else if x1=24 then some (some (.int 6),S) else if x1=32 then some (some (.int 4),S) else if x1=40 then some (some (.int 10),S) else if x1=48 then some (some (.int 12),S) else if x1=56 then some (some (.int 42),S) else some (some (.int 16),S):=Jb h rfl rfl<|Jc h rfl k_8<|Jp h rfl (Jc h rfl k_4<|Ji h rfl) (Jb h rfl rfl<|Jc h rfl k_16<|Jp h rfl (Jc h rfl k_4<|Ji h rfl) (Jb h rfl rfl<|Jc h rfl k_24<|Jp h rfl (Jc h rfl k_6<|Ji h rfl) (Jb h rfl rfl<|Jc h rfl k_32<|Jp h rfl (Jc h rfl k_4<|Ji h rfl) (Jb h rfl rfl<|Jc h rfl k_40<|Jp h rfl (Jc h rfl k_10<|Ji h rfl) (Jb h rfl rfl<|Jc h rfl k_48<|Jp h rfl (Jc h rfl k_12<|Ji h rfl) (Jb h rfl rfl<|Jc h rfl k_56<|Jp h rfl (Jc h rfl k_42<|Ji h rfl) (Jc h rfl k_16<|Ji h rfl)))))))
theorem e1_10_0{f1}(h:Fx f1)(x1 x2:Int32)(S):f1 (10,0,[.ref 0,.int x1,.int x2],[],S)=f1 (10,2,[.ref 0,.int x1,.int x2,.int 0],[],S):=Jc h rfl k_0<|Je h rfl [.ref 0,.int x1,.int x2,.int 0] rfl
theorem e1_10_2{f1}(h:Fx f1)(x1 x2 x3:Int32)(S):f1 (10,2,[.ref 0,.int x1,.int x2,.int x3],[],S)=if x3<(S 0 0) then if inb x3 64=true then f1 (10,2,[.ref 0,.int x1,.int x2,.int (x3+1)],[],(upd S 4 (x3).toNatClampNeg 0)) else none else f1 (10,25,[.ref 0,.int x1,.int x2,.int 0],[],S):=Jb h rfl rfl<|Jd h rfl rfl<|Jj h rfl (S 0 0)<|Jm h rfl (Jd h rfl rfl<|Jg h rfl<|Jb h rfl rfl<|Jc h rfl k_0<|Jaa h rfl rfl 0 fun i0=>Jn h rfl k_1 rfl [.ref 0,.int x1,.int x2,.int (x3+1)]<|Jh h rfl rfl) (Jc h rfl k_0<|Je h rfl [.ref 0,.int x1,.int x2,.int 0] rfl)
theorem e1_10_25{f1}(h:Fx f1)(x1 x2 x3:Int32)(S):f1 (10,25,[.ref 0,.int x1,.int x2,.int x3],[],S)=if x3<(S 0 0) then (f1 (9,0,[.ref 0,.int x1,.int x2,.int x3],[],S)).bind fun q=>f1 (10,40,[.ref 0,.int x1,.int x2,.int x3],q.1.toList++[],q.2) else some (some (.int 1),S):=Jb h rfl rfl<|Jd h rfl rfl<|Jj h rfl (S 0 0)<|Jm h rfl (Jd h rfl rfl<|Jb h rfl rfl<|Jb h rfl rfl<|Jb h rfl rfl<|Jf h rfl rfl) (Jc h rfl k_1<|JC h rfl)
theorem e1_10_40{f1}(h:Fx f1)(x1 x2 x3 y0:Int32)(S):f1 (10,40,[.ref 0,.int x1,.int x2,.int x3],[.int y0],S)=if y0<0 then some (some (.int 0),S) else if y0<(S 0 0) then if inb y0 64=true then if (S 4 (y0).toNatClampNeg)=0 then if inb x3 64=true then f1 (10,25,[.ref 0,.int x1,.int x2,.int (x3+1)],[],(upd (upd S 4 (y0).toNatClampNeg 1) 3 (x3).toNatClampNeg y0)) else none else some (some (.int 0),S) else none else some (some (.int 0),S):=Je h rfl [.ref 0,.int x1,.int x2,.int x3,.int y0]<|Jb h rfl rfl<|JB h rfl (Jc h rfl k_0<|Jl h rfl) (Jb h rfl rfl<|Jd h rfl rfl<|Jj h rfl (S 0 0)<|JJ h rfl (Jd h rfl rfl<|Jg h rfl<|Jb h rfl rfl<|J0 h rfl rfl (S 4 (y0).toNatClampNeg) fun i0=>Jy h rfl (Jd h rfl rfl<|Jg h rfl<|Jb h rfl rfl<|Jc h rfl k_1<|J3 h rfl rfl 1 i0<|Jd h rfl rfl<|Jg h rfl<|Jb h rfl rfl<|Jb h rfl rfl<|Jv h rfl rfl y0 fun i1=>Jn h rfl k_1 rfl [.ref 0,.int x1,.int x2,.int (x3+1),.int y0]<|Jh h rfl<|Jr h rfl rfl) (Jc h rfl k_0<|Jl h rfl)) (Jc h rfl k_0<|Jl h rfl))
theorem e1_9_0{f1}(h:Fx f1)(x1 x2 x3:Int32)(S):f1 (9,0,[.ref 0,.int x1,.int x2,.int x3],[],S)=f1 (9,27,[.ref 0,.int x1,.int x2,.int x3,.long (x3).toInt64,.null,.long (((x1).toInt64*(x3).toInt64)+(((x2).toInt64*(x3).toInt64)*(x3).toInt64)),.null],[.long ((S 0 0)).toInt64,.long (((x1).toInt64*(x3).toInt64)+(((x2).toInt64*(x3).toInt64)*(x3).toInt64))],S):=Jb h rfl rfl<|JU h rfl<|JL h rfl [.ref 0,.int x1,.int x2,.int x3,.long (x3).toInt64,.null]<|Jb h rfl rfl<|JU h rfl<|JH h rfl rfl<|Jaf h rfl<|Jb h rfl rfl<|JU h rfl<|JH h rfl rfl<|Jaf h rfl<|JH h rfl rfl<|Jaf h rfl<|J7 h rfl<|JL h rfl [.ref 0,.int x1,.int x2,.int x3,.long (x3).toInt64,.null,.long (((x1).toInt64*(x3).toInt64)+(((x2).toInt64*(x3).toInt64)*(x3).toInt64)),.null]<|JH h rfl rfl<|Jd h rfl rfl<|Jj h rfl (S 0 0)<|JU h rfl rfl
theorem e1_9_27{f1}(h:Fx f1)(x1 x2 x3:Int32)(x4 x6 y0 y1:Int64)(hz_y0:y0≠0)(S):f1 (9,27,[.ref 0,.int x1,.int x2,.int x3,.long x4,.null,.long x6,.null],[.long y0,.long y1],S)=if (XT.cmpL (y1%y0) 0)<0 then some (some (.int (((y1%y0)+((S 0 0)).toInt64)).toInt32),S) else some (some (.int ((y1%y0)).toInt32),S):=Jad h rfl hz_y0<|JL h rfl [.ref 0,.int x1,.int x2,.int x3,.long x4,.null,.long x6,.null,.long (y1%y0),.null]<|JH h rfl rfl<|JS h rfl rfl<|Jak h rfl<|JP h rfl (JH h rfl rfl<|Jd h rfl rfl<|Jj h rfl (S 0 0)<|JU h rfl<|J7 h rfl<|JL h rfl [.ref 0,.int x1,.int x2,.int x3,.long x4,.null,.long x6,.null,.long ((y1%y0)+((S 0 0)).toInt64),.null]<|JH h rfl rfl<|Jam h rfl<|Ji h rfl) (JH h rfl rfl<|Jam h rfl<|Ji h rfl)
theorem e1_11_0{f1}(h:Fx f1)(S):f1 (11,0,[.ref 0],[],S)=f1 (11,2,[.ref 0,.int 0],[],S):=Jc h rfl k_0<|Je h rfl [.ref 0,.int 0] rfl
theorem e1_11_2{f1}(h:Fx f1)(x1:Int32)(S):f1 (11,2,[.ref 0,.int x1],[],S)=if x1<(S 0 0) then if inb x1 64=true then f1 (11,2,[.ref 0,.int (x1+1)],[],(upd S 1 (x1).toNatClampNeg (S 3 (x1).toNatClampNeg))) else none else f1 (11,30,[.ref 0,.int 0],[],S):=Jb h rfl rfl<|Jd h rfl rfl<|Jj h rfl (S 0 0)<|Jm h rfl (Jd h rfl rfl<|Jg h rfl<|Jb h rfl rfl<|Jd h rfl rfl<|Jg h rfl<|Jb h rfl rfl<|Jo h rfl rfl (S 3 (x1).toNatClampNeg) fun i0=>Jx h rfl rfl (S 3 (x1).toNatClampNeg) i0<|Jn h rfl k_1 rfl [.ref 0,.int (x1+1)]<|Jh h rfl rfl) (Jc h rfl k_0<|Je h rfl [.ref 0,.int 0] rfl)
theorem e1_11_30{f1}(h:Fx f1)(x1:Int32)(S):f1 (11,30,[.ref 0,.int x1],[],S)=if x1<(S 0 0) then if inb x1 64=true then if (S 1 (x1).toNatClampNeg)<0 then f1 (11,30,[.ref 0,.int (x1+1)],[],S) else if (S 1 (x1).toNatClampNeg)<(S 0 0) then if inb (S 1 (x1).toNatClampNeg) 64=true then f1 (11,30,[.ref 0,.int (x1+1)],[],(upd S 2 ((S 1 (x1).toNatClampNeg)).toNatClampNeg x1)) else none else f1 (11,30,[.ref 0,.int (x1+1)],[],S) else none else some (none,S):=Jb h rfl rfl<|Jd h rfl rfl<|Jj h rfl (S 0 0)<|Jm h rfl (Jd h rfl rfl<|Jg h rfl<|Jb h rfl rfl<|Jo h rfl rfl (S 1 (x1).toNatClampNeg) fun i0=>Je h rfl [.ref 0,.int x1,.int (S 1 (x1).toNatClampNeg)]<|Jb h rfl rfl<|JB h rfl (Jn h rfl k_1 rfl [.ref 0,.int (x1+1),.int (S 1 (x1).toNatClampNeg)]<|Jh h rfl<|Jr h rfl rfl) (Jb h rfl rfl<|Jd h rfl rfl<|Jj h rfl (S 0 0)<|Jm h rfl (Jd h rfl rfl<|Jg h rfl<|Jb h rfl rfl<|Jb h rfl rfl<|Jv h rfl rfl x1 fun i1=>Jn h rfl k_1 rfl [.ref 0,.int (x1+1),.int (S 1 (x1).toNatClampNeg)]<|Jh h rfl<|Jr h rfl rfl) (Jn h rfl k_1 rfl [.ref 0,.int (x1+1),.int (S 1 (x1).toNatClampNeg)]<|Jh h rfl<|Jr h rfl rfl))) (Jk h rfl)
theorem e1_6_0{f1}(h:Fx f1)(x1:Int32)(S):f1 (6,0,[.ref 0,.int x1],[],S)=(f1 (47,0,[.ref 0,.int x1],[],S)).bind fun q=>f1 (6,5,[.ref 0,.int x1],q.1.toList++[],q.2):=Jd h rfl rfl<|Jb h rfl rfl<|Jf h rfl rfl
theorem e1_6_5{f1}(h:Fx f1)(x1 y0:Int32)(S):f1 (6,5,[.ref 0,.int x1],[.int y0],S)=if y0=0 then some (some (.int (-1)),S) else if inb x1 64=true then some (some (.int (S 1 (x1).toNatClampNeg)),S) else none:=Js h rfl (Jc h rfl k_m1<|Ji h rfl) (Jd h rfl rfl<|Jg h rfl<|Jb h rfl rfl<|Jo h rfl rfl (S 1 (x1).toNatClampNeg) fun i0=>Ji h rfl)
theorem e1_47_0{f1}(h:Fx f1)(x1:Int32)(S):f1 (47,0,[.ref 0,.int x1],[],S)=if x1<0 then some (some (.int 0),S) else if x1<(S 0 0) then some (some (.int 1),S) else some (some (.int 0),S):=Jb h rfl rfl<|JB h rfl (Jc h rfl k_0<|Jl h rfl) (Jb h rfl rfl<|Jd h rfl rfl<|Jj h rfl (S 0 0)<|Jm h rfl (Jc h rfl k_1<|Jh h rfl<|JC h rfl) (Jc h rfl k_0<|Jl h rfl))
theorem e1_7_0{f1}(h:Fx f1)(x1:Int32)(S):f1 (7,0,[.ref 0,.int x1],[],S)=(f1 (47,0,[.ref 0,.int x1],[],S)).bind fun q=>f1 (7,5,[.ref 0,.int x1],q.1.toList++[],q.2):=Jd h rfl rfl<|Jb h rfl rfl<|Jf h rfl rfl
theorem e1_7_5{f1}(h:Fx f1)(x1 y0:Int32)(S):f1 (7,5,[.ref 0,.int x1],[.int y0],S)=if y0=0 then some (some (.int (-1)),S) else if inb x1 64=true then some (some (.int (S 2 (x1).toNatClampNeg)),S) else none:=Js h rfl (Jc h rfl k_m1<|Ji h rfl) (Jd h rfl rfl<|Jg h rfl<|Jb h rfl rfl<|Jo h rfl rfl (S 2 (x1).toNatClampNeg) fun i0=>Ji h rfl)
theorem e1_5_0{f1}(h:Fx f1)(x1 x2:Int32)(S):f1 (5,0,[.ref 0,.int x1,.int x2],[],S)=(f1 (8,0,[.ref 0,.int x1,.int x2],[],S)).bind fun q=>f1 (5,6,[.ref 0,.int x1,.int x2],q.1.toList++[],q.2):=Jd h rfl rfl<|Jb h rfl rfl<|Jb h rfl rfl<|Jf h rfl rfl
theorem e1_5_6{f1}(h:Fx f1)(x1 x2 y0:Int32)(S):f1 (5,6,[.ref 0,.int x1,.int x2],[.int y0],S)=if y0=0 then some (some (.int 0),S) else (f1 (10,0,[.ref 0,.int x1,.int x2],[],S)).bind fun q=>f1 (5,17,[.ref 0,.int x1,.int x2],q.1.toList++[],q.2):=Js h rfl (Jc h rfl k_0<|Jl h rfl) (Jd h rfl rfl<|Jb h rfl rfl<|Jb h rfl rfl<|Jf h rfl rfl)
theorem e1_5_17{f1}(h:Fx f1)(x1 x2 y0:Int32)(S):f1 (5,17,[.ref 0,.int x1,.int x2],[.int y0],S)=if y0=0 then some (some (.int 0),S) else (f1 (11,0,[.ref 0],[],S)).bind fun q=>f1 (5,26,[.ref 0,.int x1,.int x2],q.1.toList++[],q.2):=Js h rfl (Jc h rfl k_0<|Jl h rfl) (Jd h rfl rfl<|Jf h rfl rfl)
theorem e1_5_26{f1}(h:Fx f1)(x1 x2:Int32)(S):f1 (5,26,[.ref 0,.int x1,.int x2],[],S)=some (some (.int 1),S):=Jc h rfl k_1<|JC h rfl
theorem e1_8_0{f1}(h:Fx f1)(x1 x2:Int32)(S):f1 (8,0,[.ref 0,.int x1,.int x2],[],S)=if x1<0 then some (some (.int 0),S) else if x1<(S 0 0) then if x2<0 then some (some (.int 0),S) else if x2<(S 0 0) then some (some (.int 1),S) else some (some (.int 0),S) else some (some (.int 0),S):=Jb h rfl rfl<|JB h rfl (Jc h rfl k_0<|Jl h rfl) (Jb h rfl rfl<|Jd h rfl rfl<|Jj h rfl (S 0 0)<|JJ h rfl (Jb h rfl rfl<|JB h rfl (Jc h rfl k_0<|Jl h rfl) (Jb h rfl rfl<|Jd h rfl rfl<|Jj h rfl (S 0 0)<|Jm h rfl (Jc h rfl k_1<|Jh h rfl<|JC h rfl) (Jc h rfl k_0<|Jl h rfl))) (Jc h rfl k_0<|Jl h rfl))
theorem e1_13_0{f1}(h:Fx f1)(x1:Int64)(S):f1 (13,0,[.ref 0,.long x1,.null],[],S)=f1 (13,2,[.ref 0,.long x1,.null,.int 0],[],S):=Jc h rfl k_0<|Je h rfl [.ref 0,.long x1,.null,.int 0] rfl
theorem e1_13_2{f1}(h:Fx f1)(x1:Int64)(x3:Int32)(S):f1 (13,2,[.ref 0,.long x1,.null,.int x3],[],S)=if x3<(S 0 0) then if inb x3 64=true then f1 (13,2,[.ref 0,.long x1,.null,.int (x3+1)],[],(upd S 5 (x3).toNatClampNeg (((XT.ushrL x1 x3)&&&1)).toInt32)) else none else some (none,S):=Jb h rfl rfl<|Jd h rfl rfl<|Jj h rfl (S 0 0)<|Jm h rfl (Jd h rfl rfl<|Jg h rfl<|Jb h rfl rfl<|JH h rfl rfl<|Jb h rfl rfl<|Jaj h rfl<|JS h rfl rfl<|J6 h rfl<|Jam h rfl<|Jv h rfl rfl ((((XT.ushrL x1 x3)&&&1)).toInt32) fun i0=>Jn h rfl k_1 rfl [.ref 0,.long x1,.null,.int (x3+1)]<|Jh h rfl rfl) (Jk h rfl)
theorem e1_15_0{f1}(h:Fx f1)(S):f1 (15,0,[.ref 0],[],S)=(f1 (18,0,[.ref 0,.int 1],[],S)).bind fun q=>f1 (15,5,[.ref 0],q.1.toList++[],q.2):=Jd h rfl rfl<|Jc h rfl k_1<|Jf h rfl rfl
theorem e1_15_5{f1}(h:Fx f1)(S):f1 (15,5,[.ref 0],[],S)=(f1 (19,0,[.ref 0],[],S)).bind fun q=>f1 (15,9,[.ref 0],q.1.toList++[],q.2):=Jd h rfl rfl<|Jf h rfl rfl
theorem e1_15_9{f1}(h:Fx f1)(S):f1 (15,9,[.ref 0],[],S)=(f1 (20,0,[.ref 0,.int 1],[],(upd S 0 5 (S 0 7)))).bind fun q=>f1 (15,22,[.ref 0],q.1.toList++[],q.2):=Jd h rfl rfl<|Jd h rfl rfl<|Jj h rfl (S 0 7)<|Jw h rfl<|Jd h rfl rfl<|Jc h rfl k_1<|Jf h rfl rfl
theorem e1_15_22{f1}(h:Fx f1)(S):f1 (15,22,[.ref 0],[],S)=(f1 (18,0,[.ref 0,.int 2],[],S)).bind fun q=>f1 (15,27,[.ref 0],q.1.toList++[],q.2):=Jd h rfl rfl<|Jc h rfl k_2<|Jf h rfl rfl
theorem e1_15_27{f1}(h:Fx f1)(S):f1 (15,27,[.ref 0],[],S)=(f1 (19,0,[.ref 0],[],S)).bind fun q=>f1 (15,31,[.ref 0],q.1.toList++[],q.2):=Jd h rfl rfl<|Jf h rfl rfl
theorem e1_15_31{f1}(h:Fx f1)(S):f1 (15,31,[.ref 0],[],S)=(f1 (20,0,[.ref 0,.int 2],[],(upd S 0 6 (S 0 7)))).bind fun q=>f1 (15,44,[.ref 0],q.1.toList++[],q.2):=Jd h rfl rfl<|Jd h rfl rfl<|Jj h rfl (S 0 7)<|Jw h rfl<|Jd h rfl rfl<|Jc h rfl k_2<|Jf h rfl rfl
theorem e1_15_44{f1}(h:Fx f1)(S):f1 (15,44,[.ref 0],[],S)=(f1 (21,0,[.ref 0],[],S)).bind fun q=>f1 (15,48,[.ref 0],q.1.toList++[],q.2):=Jd h rfl rfl<|Jf h rfl rfl
theorem e1_15_48{f1}(h:Fx f1)(S):f1 (15,48,[.ref 0],[],S)=some (some (.int (S 0 2)),S):=Jd h rfl rfl<|Jj h rfl (S 0 2)<|Ji h rfl
theorem e1_18_0{f1}(h:Fx f1)(x1:Int32)(S):f1 (18,0,[.ref 0,.int x1],[],S)=f1 (18,2,[.ref 0,.int x1,.int 0],[],S):=Jc h rfl k_0<|Je h rfl [.ref 0,.int x1,.int 0] rfl
theorem e1_18_2{f1}(h:Fx f1)(x1 x2:Int32)(S):f1 (18,2,[.ref 0,.int x1,.int x2],[],S)=if x2<(S 0 0) then if x1=1 then if inb x2 64=true then f1 (18,2,[.ref 0,.int x1,.int (x2+1)],[],(upd S 14 (x2).toNatClampNeg (S 5 (x2).toNatClampNeg))) else none else if inb x2 64=true then if (S 1 (x2).toNatClampNeg)<0 then f1 (18,2,[.ref 0,.int x1,.int (x2+1)],[],(upd S 14 (x2).toNatClampNeg 0)) else if (S 1 (x2).toNatClampNeg)<(S 0 0) then if inb (S 1 (x2).toNatClampNeg) 64=true then f1 (18,2,[.ref 0,.int x1,.int (x2+1)],[],(upd S 14 (x2).toNatClampNeg (S 5 ((S 1 (x2).toNatClampNeg)).toNatClampNeg))) else none else f1 (18,2,[.ref 0,.int x1,.int (x2+1)],[],(upd S 14 (x2).toNatClampNeg 0)) else none else some (none,S):=Jb h rfl rfl<|Jd h rfl rfl<|Jj h rfl (S 0 0)<|Jm h rfl (Jb h rfl rfl<|Jc h rfl k_1<|Jp h rfl (Jd h rfl rfl<|Jg h rfl<|Jb h rfl rfl<|Jd h rfl rfl<|Jg h rfl<|Jb h rfl rfl<|Jo h rfl rfl (S 5 (x2).toNatClampNeg) fun i0=>Jx h rfl rfl (S 5 (x2).toNatClampNeg) i0<|Jh h rfl<|Jn h rfl k_1 rfl [.ref 0,.int x1,.int (x2+1)]<|Jh h rfl rfl) (Jd h rfl rfl<|Jg h rfl<|Jb h rfl rfl<|Jo h rfl rfl (S 1 (x2).toNatClampNeg) fun i0=>Je h rfl [.ref 0,.int x1,.int x2,.int (S 1 (x2).toNatClampNeg)]<|Jd h rfl rfl<|Jg h rfl<|Jb h rfl rfl<|Jb h rfl rfl<|JB h rfl (Jc h rfl k_0<|Jx h rfl rfl 0 i0<|Jr h rfl<|Jn h rfl k_1 rfl [.ref 0,.int x1,.int (x2+1)]<|Jh h rfl rfl) (Jb h rfl rfl<|Jd h rfl rfl<|Jj h rfl (S 0 0)<|Jm h rfl (Jd h rfl rfl<|Jg h rfl<|Jb h rfl rfl<|Jo h rfl rfl (S 5 ((S 1 (x2).toNatClampNeg)).toNatClampNeg) fun i1=>Jh h rfl<|Jx h rfl rfl (S 5 ((S 1 (x2).toNatClampNeg)).toNatClampNeg) i0<|Jr h rfl<|Jn h rfl k_1 rfl [.ref 0,.int x1,.int (x2+1)]<|Jh h rfl rfl) (Jc h rfl k_0<|Jx h rfl rfl 0 i0<|Jr h rfl<|Jn h rfl k_1 rfl [.ref 0,.int x1,.int (x2+1)]<|Jh h rfl rfl)))) (Jk h rfl)
theorem e1_19_0{f1}(h:Fx f1)(S):f1 (19,0,[.ref 0],[],S)=f1 (19,4,[.ref 0,.int 0,.int 0],[],S):=Jc h rfl k_0<|Je h rfl [.ref 0,.int 0]<|Jc h rfl k_0<|Je h rfl [.ref 0,.int 0,.int 0] rfl
theorem e1_19_4{f1}(h:Fx f1)(x1 x2:Int32)(S):f1 (19,4,[.ref 0,.int x1,.int x2],[],S)=if x2<(S 0 0) then if inb x2 64=true then if inb ((x1*2)+((S 14 (x2).toNatClampNeg)&&&1)) 16=true then f1 (19,4,[.ref 0,.int (S 18 (((x1*2)+((S 14 (x2).toNatClampNeg)&&&1))).toNatClampNeg),.int (x2+1)],[],(upd S 15 (x2).toNatClampNeg (S 19 (((x1*2)+((S 14 (x2).toNatClampNeg)&&&1))).toNatClampNeg))) else none else none else f1 (19,57,[.ref 0,.int x1,.int 0],[],(upd S 0 7 x1)):=Jb h rfl rfl<|Jd h rfl rfl<|Jj h rfl (S 0 0)<|Jm h rfl (Jb h rfl rfl<|Jc h rfl k_2<|Jz h rfl<|Jd h rfl rfl<|Jg h rfl<|Jb h rfl rfl<|Jo h rfl rfl (S 14 (x2).toNatClampNeg) fun i0=>Jc h rfl k_1<|Ju h rfl<|Jt h rfl<|Je h rfl [.ref 0,.int x1,.int x2,.int ((x1*2)+((S 14 (x2).toNatClampNeg)&&&1))]<|Jd h rfl rfl<|Jg h rfl<|Jb h rfl rfl<|Jd h rfl rfl<|Jg h rfl<|Jb h rfl rfl<|Jo h rfl rfl (S 19 (((x1*2)+((S 14 (x2).toNatClampNeg)&&&1))).toNatClampNeg) fun i1=>Jx h rfl rfl (S 19 (((x1*2)+((S 14 (x2).toNatClampNeg)&&&1))).toNatClampNeg) i0<|Jd h rfl rfl<|Jg h rfl<|Jb h rfl rfl<|JF h rfl rfl i1 (S 18 (((x1*2)+((S 14 (x2).toNatClampNeg)&&&1))).toNatClampNeg)<|Je h rfl [.ref 0,.int (S 18 (((x1*2)+((S 14 (x2).toNatClampNeg)&&&1))).toNatClampNeg),.int x2,.int ((x1*2)+((S 14 (x2).toNatClampNeg)&&&1))]<|Jn h rfl k_1 rfl [.ref 0,.int (S 18 (((x1*2)+((S 14 (x2).toNatClampNeg)&&&1))).toNatClampNeg),.int (x2+1),.int ((x1*2)+((S 14 (x2).toNatClampNeg)&&&1))]<|Jh h rfl<|Jr h rfl rfl) (Jd h rfl rfl<|Jb h rfl rfl<|Jw h rfl<|Jc h rfl k_0<|Je h rfl [.ref 0,.int x1,.int 0] rfl)
theorem e1_19_57{f1}(h:Fx f1)(x1 x2:Int32)(S):f1 (19,57,[.ref 0,.int x1,.int x2],[],S)=if x2<3 then if inb x1 8=true then if inb x2 3=true then if inb ((x1*2)+(S 20 (x1).toNatClampNeg)) 16=true then f1 (19,57,[.ref 0,.int (S 18 (((x1*2)+(S 20 (x1).toNatClampNeg))).toNatClampNeg),.int (x2+1)],[],(upd (upd S 16 (x2).toNatClampNeg (S 20 (x1).toNatClampNeg)) 17 (x2).toNatClampNeg (S 19 (((x1*2)+(S 20 (x1).toNatClampNeg))).toNatClampNeg))) else none else none else none else some (none,S):=Jb h rfl rfl<|Jc h rfl k_3<|Jm h rfl (Jd h rfl rfl<|Jg h rfl<|Jb h rfl rfl<|Jo h rfl rfl (S 20 (x1).toNatClampNeg) fun i0=>Je h rfl [.ref 0,.int x1,.int x2,.int (S 20 (x1).toNatClampNeg)]<|Jb h rfl rfl<|Jc h rfl k_2<|Jz h rfl<|Jb h rfl rfl<|Jt h rfl<|Je h rfl [.ref 0,.int x1,.int x2,.int (S 20 (x1).toNatClampNeg),.int ((x1*2)+(S 20 (x1).toNatClampNeg))]<|Jd h rfl rfl<|Jg h rfl<|Jb h rfl rfl<|Jb h rfl rfl<|Jv h rfl rfl (S 20 (x1).toNatClampNeg) fun i1=>Jd h rfl rfl<|Jg h rfl<|Jb h rfl rfl<|Jd h rfl rfl<|Jg h rfl<|Jb h rfl rfl<|Jo h rfl rfl (S 19 (((x1*2)+(S 20 (x1).toNatClampNeg))).toNatClampNeg) fun i2=>Jx h rfl rfl (S 19 (((x1*2)+(S 20 (x1).toNatClampNeg))).toNatClampNeg) i1<|Jd h rfl rfl<|Jg h rfl<|Jb h rfl rfl<|JF h rfl rfl i2 (S 18 (((x1*2)+(S 20 (x1).toNatClampNeg))).toNatClampNeg)<|Je h rfl [.ref 0,.int (S 18 (((x1*2)+(S 20 (x1).toNatClampNeg))).toNatClampNeg),.int x2,.int (S 20 (x1).toNatClampNeg),.int ((x1*2)+(S 20 (x1).toNatClampNeg))]<|Jn h rfl k_1 rfl [.ref 0,.int (S 18 (((x1*2)+(S 20 (x1).toNatClampNeg))).toNatClampNeg),.int (x2+1),.int (S 20 (x1).toNatClampNeg),.int ((x1*2)+(S 20 (x1).toNatClampNeg))]<|Jh h rfl<|Jr h rfl rfl) (Jk h rfl)
theorem e1_20_0{f1}(h:Fx f1)(x1:Int32)(S):f1 (20,0,[.ref 0,.int x1],[],S)=f1 (20,2,[.ref 0,.int x1,.int 0],[],S):=Jc h rfl k_0<|Je h rfl [.ref 0,.int x1,.int 0] rfl
theorem e1_20_2{f1}(h:Fx f1)(x1 x2:Int32)(S):f1 (20,2,[.ref 0,.int x1,.int x2],[],S)=if x2<(S 0 0) then if x1=1 then if inb x2 64=true then f1 (20,2,[.ref 0,.int x1,.int (x2+1)],[],(upd S 8 (x2).toNatClampNeg (S 15 (x2).toNatClampNeg))) else none else if inb x2 64=true then f1 (20,2,[.ref 0,.int x1,.int (x2+1)],[],(upd S 9 (x2).toNatClampNeg (S 15 (x2).toNatClampNeg))) else none else f1 (20,50,[.ref 0,.int x1,.int 0],[],S):=Jb h rfl rfl<|Jd h rfl rfl<|Jj h rfl (S 0 0)<|Jm h rfl (Jb h rfl rfl<|Jc h rfl k_1<|Jp h rfl (Jd h rfl rfl<|Jg h rfl<|Jb h rfl rfl<|Jd h rfl rfl<|Jg h rfl<|Jb h rfl rfl<|Jo h rfl rfl (S 15 (x2).toNatClampNeg) fun i0=>Jx h rfl rfl (S 15 (x2).toNatClampNeg) i0<|Jh h rfl<|Jn h rfl k_1 rfl [.ref 0,.int x1,.int (x2+1)]<|Jh h rfl rfl) (Jd h rfl rfl<|Jg h rfl<|Jb h rfl rfl<|Jd h rfl rfl<|Jg h rfl<|Jb h rfl rfl<|Jo h rfl rfl (S 15 (x2).toNatClampNeg) fun i0=>Jx h rfl rfl (S 15 (x2).toNatClampNeg) i0<|Jn h rfl k_1 rfl [.ref 0,.int x1,.int (x2+1)]<|Jh h rfl rfl)) (Jc h rfl k_0<|Je h rfl [.ref 0,.int x1,.int 0] rfl)
theorem e1_20_50{f1}(h:Fx f1)(x1 x2:Int32)(S):f1 (20,50,[.ref 0,.int x1,.int x2],[],S)=if x2<3 then if x1=1 then if inb x2 3=true then f1 (20,50,[.ref 0,.int x1,.int (x2+1)],[],(upd (upd S 10 (x2).toNatClampNeg (S 16 (x2).toNatClampNeg)) 11 (x2).toNatClampNeg (S 17 (x2).toNatClampNeg))) else none else if inb x2 3=true then f1 (20,50,[.ref 0,.int x1,.int (x2+1)],[],(upd (upd S 12 (x2).toNatClampNeg (S 16 (x2).toNatClampNeg)) 13 (x2).toNatClampNeg (S 17 (x2).toNatClampNeg))) else none else some (none,S):=Jb h rfl rfl<|Jc h rfl k_3<|Jm h rfl (Jb h rfl rfl<|Jc h rfl k_1<|Jp h rfl (Jd h rfl rfl<|Jg h rfl<|Jb h rfl rfl<|Jd h rfl rfl<|Jg h rfl<|Jb h rfl rfl<|Jo h rfl rfl (S 16 (x2).toNatClampNeg) fun i0=>Jx h rfl rfl (S 16 (x2).toNatClampNeg) i0<|Jd h rfl rfl<|Jg h rfl<|Jb h rfl rfl<|Jd h rfl rfl<|Jg h rfl<|Jb h rfl rfl<|JF h rfl rfl i0 (S 17 (x2).toNatClampNeg)<|Jx h rfl rfl (S 17 (x2).toNatClampNeg) i0<|Jh h rfl<|Jn h rfl k_1 rfl [.ref 0,.int x1,.int (x2+1)]<|Jh h rfl rfl) (Jd h rfl rfl<|Jg h rfl<|Jb h rfl rfl<|Jd h rfl rfl<|Jg h rfl<|Jb h rfl rfl<|Jo h rfl rfl (S 16 (x2).toNatClampNeg) fun i0=>Jx h rfl rfl (S 16 (x2).toNatClampNeg) i0<|Jd h rfl rfl<|Jg h rfl<|Jb h rfl rfl<|Jd h rfl rfl<|Jg h rfl<|Jb h rfl rfl<|JF h rfl rfl i0 (S 17 (x2).toNatClampNeg)<|Jx h rfl rfl (S 17 (x2).toNatClampNeg) i0<|Jn h rfl k_1 rfl [.ref 0,.int x1,.int (x2+1)]<|Jh h rfl rfl)) (Jk h rfl)
theorem e1_21_0{f1}(h:Fx f1)(S):f1 (21,0,[.ref 0],[],S)=f1 (21,2,[.ref 0,.int 0],[],S):=Jc h rfl k_0<|Je h rfl [.ref 0,.int 0] rfl
theorem e1_21_2{f1}(h:Fx f1)(x1:Int32)(S):f1 (21,2,[.ref 0,.int x1],[],S)=if x1<(S 0 0) then (f1 (22,0,[.ref 0,.int x1],[],S)).bind fun q=>f1 (21,19,[.ref 0,.int x1],q.1.toList++[.ref 6],q.2) else f1 (21,78,[.ref 0,.int 0],[],S):=Jb h rfl rfl<|Jd h rfl rfl<|Jj h rfl (S 0 0)<|Jm h rfl (Jd h rfl rfl<|Jg h rfl<|Jd h rfl rfl<|Jb h rfl rfl<|Jf h rfl rfl) (Jc h rfl k_0<|Je h rfl [.ref 0,.int 0] rfl)
theorem e1_21_19{f1}(h:Fx f1)(x1 y0:Int32)(S):f1 (21,19,[.ref 0,.int x1],[.int y0,.ref 6],S)=if inb x1 64=true then if inb y0 204=true then (f1 (23,0,[.ref 0,.int x1],[],(upd S 6 (y0).toNatClampNeg (S 5 (x1).toNatClampNeg)))).bind fun q=>f1 (21,31,[.ref 0,.int x1],q.1.toList++[],q.2) else none else none:=Jd h rfl rfl<|Jg h rfl<|Jb h rfl rfl<|Jo h rfl rfl (S 5 (x1).toNatClampNeg) fun i0=>Jv h rfl rfl (S 5 (x1).toNatClampNeg) fun i1=>Jd h rfl rfl<|Jb h rfl rfl<|Jf h rfl rfl
theorem e1_21_31{f1}(h:Fx f1)(x1 y0:Int32)(S):f1 (21,31,[.ref 0,.int x1],[.int y0],S)=if y0<0 then (f1 (24,0,[.ref 0,.int x1],[],S)).bind fun q=>f1 (21,53,[.ref 0,.int x1,.int y0],q.1.toList++[],q.2) else if inb x1 64=true then if inb y0 204=true then (f1 (24,0,[.ref 0,.int x1],[],(upd S 6 (y0).toNatClampNeg (S 8 (x1).toNatClampNeg)))).bind fun q=>f1 (21,53,[.ref 0,.int x1,.int y0],q.1.toList++[],q.2) else none else none:=Je h rfl [.ref 0,.int x1,.int y0]<|Jb h rfl rfl<|JB h rfl (Jd h rfl rfl<|Jb h rfl rfl<|Jf h rfl rfl) (Jd h rfl rfl<|Jg h rfl<|Jb h rfl rfl<|Jd h rfl rfl<|Jg h rfl<|Jb h rfl rfl<|Jo h rfl rfl (S 8 (x1).toNatClampNeg) fun i0=>Jv h rfl rfl (S 8 (x1).toNatClampNeg) fun i1=>Jd h rfl rfl<|Jb h rfl rfl<|Jf h rfl rfl)
theorem e1_21_53{f1}(h:Fx f1)(x1 x2 y0:Int32)(S):f1 (21,53,[.ref 0,.int x1,.int x2],[.int y0],S)=if y0<0 then f1 (21,2,[.ref 0,.int (x1+1)],[],S) else if inb x1 64=true then if inb y0 204=true then f1 (21,2,[.ref 0,.int (x1+1)],[],(upd S 6 (y0).toNatClampNeg (S 9 (x1).toNatClampNeg))) else none else none:=Je h rfl [.ref 0,.int x1,.int x2,.int y0]<|Jb h rfl rfl<|JB h rfl (Jn h rfl k_1 rfl [.ref 0,.int (x1+1),.int x2,.int y0]<|Jh h rfl<|Jr h rfl rfl) (Jd h rfl rfl<|Jg h rfl<|Jb h rfl rfl<|Jd h rfl rfl<|Jg h rfl<|Jb h rfl rfl<|Jo h rfl rfl (S 9 (x1).toNatClampNeg) fun i0=>Jv h rfl rfl (S 9 (x1).toNatClampNeg) fun i1=>Jn h rfl k_1 rfl [.ref 0,.int (x1+1),.int x2,.int y0]<|Jh h rfl<|Jr h rfl rfl)
theorem e1_21_78{f1}(h:Fx f1)(x1:Int32)(S):f1 (21,78,[.ref 0,.int x1],[],S)=if x1<3 then (f1 (26,0,[.ref 0,.int 1,.int 0,.int x1],[],S)).bind fun q=>f1 (21,94,[.ref 0,.int x1],q.1.toList++[.ref 6],q.2) else some (none,S):=Jb h rfl rfl<|Jc h rfl k_3<|Jm h rfl (Jd h rfl rfl<|Jg h rfl<|Jd h rfl rfl<|Jc h rfl k_1<|Jc h rfl k_0<|Jb h rfl rfl<|Jf h rfl rfl) (Jk h rfl)
theorem e1_21_94{f1}(h:Fx f1)(x1 y0:Int32)(S):f1 (21,94,[.ref 0,.int x1],[.int y0,.ref 6],S)=if inb x1 3=true then if inb y0 204=true then (f1 (26,0,[.ref 0,.int 1,.int 1,.int x1],[],(upd S 6 (y0).toNatClampNeg (S 10 (x1).toNatClampNeg)))).bind fun q=>f1 (21,112,[.ref 0,.int x1],q.1.toList++[.ref 6],q.2) else none else none:=Jd h rfl rfl<|Jg h rfl<|Jb h rfl rfl<|Jo h rfl rfl (S 10 (x1).toNatClampNeg) fun i0=>Jv h rfl rfl (S 10 (x1).toNatClampNeg) fun i1=>Jd h rfl rfl<|Jg h rfl<|Jd h rfl rfl<|Jc h rfl k_1<|Jc h rfl k_1<|Jb h rfl rfl<|Jf h rfl rfl
theorem e1_21_112{f1}(h:Fx f1)(x1 y0:Int32)(S):f1 (21,112,[.ref 0,.int x1],[.int y0,.ref 6],S)=if inb x1 3=true then if inb y0 204=true then (f1 (26,0,[.ref 0,.int 2,.int 0,.int x1],[],(upd S 6 (y0).toNatClampNeg (S 11 (x1).toNatClampNeg)))).bind fun q=>f1 (21,130,[.ref 0,.int x1],q.1.toList++[.ref 6],q.2) else none else none:=Jd h rfl rfl<|Jg h rfl<|Jb h rfl rfl<|Jo h rfl rfl (S 11 (x1).toNatClampNeg) fun i0=>Jv h rfl rfl (S 11 (x1).toNatClampNeg) fun i1=>Jd h rfl rfl<|Jg h rfl<|Jd h rfl rfl<|Jc h rfl k_2<|Jc h rfl k_0<|Jb h rfl rfl<|Jf h rfl rfl
theorem e1_21_130{f1}(h:Fx f1)(x1 y0:Int32)(S):f1 (21,130,[.ref 0,.int x1],[.int y0,.ref 6],S)=if inb x1 3=true then if inb y0 204=true then (f1 (26,0,[.ref 0,.int 2,.int 1,.int x1],[],(upd S 6 (y0).toNatClampNeg (S 12 (x1).toNatClampNeg)))).bind fun q=>f1 (21,148,[.ref 0,.int x1],q.1.toList++[.ref 6],q.2) else none else none:=Jd h rfl rfl<|Jg h rfl<|Jb h rfl rfl<|Jo h rfl rfl (S 12 (x1).toNatClampNeg) fun i0=>Jv h rfl rfl (S 12 (x1).toNatClampNeg) fun i1=>Jd h rfl rfl<|Jg h rfl<|Jd h rfl rfl<|Jc h rfl k_2<|Jc h rfl k_1<|Jb h rfl rfl<|Jf h rfl rfl
theorem e1_21_148{f1}(h:Fx f1)(x1 y0:Int32)(S):f1 (21,148,[.ref 0,.int x1],[.int y0,.ref 6],S)=if inb x1 3=true then if inb y0 204=true then f1 (21,78,[.ref 0,.int (x1+1)],[],(upd S 6 (y0).toNatClampNeg (S 13 (x1).toNatClampNeg))) else none else none:=Jd h rfl rfl<|Jg h rfl<|Jb h rfl rfl<|Jo h rfl rfl (S 13 (x1).toNatClampNeg) fun i0=>Jv h rfl rfl (S 13 (x1).toNatClampNeg) fun i1=>Jn h rfl k_1 rfl [.ref 0,.int (x1+1)]<|Jh h rfl rfl
theorem e1_22_0{f1}(h:Fx f1)(x1:Int32)(S):f1 (22,0,[.ref 0,.int x1],[],S)=if (S 0 1)=0 then some (some (.int (3*x1)),S) else some (some (.int (2*x1)),S):=Jd h rfl rfl<|Jj h rfl (S 0 1)<|Js h rfl (Jc h rfl k_3<|Jb h rfl rfl<|Jz h rfl<|Ji h rfl) (Jc h rfl k_2<|Jb h rfl rfl<|Jz h rfl<|Ji h rfl)
theorem e1_23_0{f1}(h:Fx f1)(x1:Int32)(S):f1 (23,0,[.ref 0,.int x1],[],S)=if (S 0 1)=0 then some (some (.int ((3*x1)+1)),S) else if (x1&&&1)=0 then some (some (.int ((2*x1)+1)),S) else some (some (.int (-1)),S):=Jd h rfl rfl<|Jj h rfl (S 0 1)<|Js h rfl (Jc h rfl k_3<|Jb h rfl rfl<|Jz h rfl<|Jc h rfl k_1<|Jt h rfl<|Ji h rfl) (Jb h rfl rfl<|Jc h rfl k_1<|Ju h rfl<|Js h rfl (Jc h rfl k_2<|Jb h rfl rfl<|Jz h rfl<|Jc h rfl k_1<|Jt h rfl<|Ji h rfl) (Jc h rfl k_m1<|Ji h rfl))
theorem e1_24_0{f1}(h:Fx f1)(x1:Int32)(S):f1 (24,0,[.ref 0,.int x1],[],S)=if (S 0 1)=0 then some (some (.int ((3*x1)+2)),S) else if (x1&&&1)=1 then some (some (.int ((2*x1)+1)),S) else some (some (.int (-1)),S):=Jd h rfl rfl<|Jj h rfl (S 0 1)<|Js h rfl (Jc h rfl k_3<|Jb h rfl rfl<|Jz h rfl<|Jc h rfl k_2<|Jt h rfl<|Ji h rfl) (Jb h rfl rfl<|Jc h rfl k_1<|Ju h rfl<|Jc h rfl k_1<|Jp h rfl (Jc h rfl k_2<|Jb h rfl rfl<|Jz h rfl<|Jc h rfl k_1<|Jt h rfl<|Ji h rfl) (Jc h rfl k_m1<|Ji h rfl))
theorem e1_26_0{f1}(h:Fx f1)(x1 x2 x3:Int32)(S):f1 (26,0,[.ref 0,.int x1,.int x2,.int x3],[],S)=(f1 (25,0,[.ref 0],[],S)).bind fun q=>f1 (26,4,[.ref 0,.int x1,.int x2,.int x3],q.1.toList++[],q.2):=Jd h rfl rfl<|Jf h rfl rfl
theorem e1_26_4{f1}(h:Fx f1)(x1 x2 x3 y0:Int32)(S):f1 (26,4,[.ref 0,.int x1,.int x2,.int x3],[.int y0],S)=if x1=2 then some (some (.int (((y0+6)+(2*x3))+x2)),S) else some (some (.int ((y0+(2*x3))+x2)),S):=Je h rfl [.ref 0,.int x1,.int x2,.int x3,.int y0]<|Jb h rfl rfl<|Jc h rfl k_2<|Jp h rfl (Jb h rfl rfl<|Jc h rfl k_6<|Jt h rfl<|Je h rfl [.ref 0,.int x1,.int x2,.int x3,.int (y0+6)]<|Jb h rfl rfl<|Jc h rfl k_2<|Jb h rfl rfl<|Jz h rfl<|Jt h rfl<|Jb h rfl rfl<|Jt h rfl<|Ji h rfl) (Jb h rfl rfl<|Jc h rfl k_2<|Jb h rfl rfl<|Jz h rfl<|Jt h rfl<|Jb h rfl rfl<|Jt h rfl<|Ji h rfl)
theorem e1_25_0{f1}(h:Fx f1)(S):f1 (25,0,[.ref 0],[],S)=if (S 0 1)=0 then some (some (.int (3*(S 0 0))),S) else some (some (.int (2*(S 0 0))),S):=Jd h rfl rfl<|Jj h rfl (S 0 1)<|Js h rfl (Jc h rfl k_3<|Jd h rfl rfl<|Jj h rfl (S 0 0)<|Jz h rfl<|Ji h rfl) (Jc h rfl k_2<|Jd h rfl rfl<|Jj h rfl (S 0 0)<|Jz h rfl<|Ji h rfl)
theorem e1_27_0{f1}(h:Fx f1)(x1:Int32)(S):f1 (27,0,[.ref 0,.int x1],[],S)=(f1 (49,0,[.ref 0,.int x1,.int 1,.int 127],[],S)).bind fun q=>f1 (27,8,[.ref 0,.int x1],q.1.toList++[],q.2):=Jd h rfl rfl<|Jb h rfl rfl<|Jc h rfl k_1<|Jc h rfl k_127<|Jf h rfl rfl
theorem e1_27_8{f1}(h:Fx f1)(x1 y0:Int32)(S):f1 (27,8,[.ref 0,.int x1],[.int y0],S)=f1 (27,11,[.ref 0,.int x1,.int y0,.int 0],[],S):=Je h rfl [.ref 0,.int x1,.int y0]<|Jc h rfl k_0<|Je h rfl [.ref 0,.int x1,.int y0,.int 0] rfl
theorem e1_27_11{f1}(h:Fx f1)(x1 x2 x3:Int32)(S):f1 (27,11,[.ref 0,.int x1,.int x2,.int x3],[],S)=if x3<(S 0 2) then if inb x3 204=true then if (S 6 (x3).toNatClampNeg)=1 then f1 (27,11,[.ref 0,.int x1,.int x2,.int (x3+1)],[],(upd S 7 (x3).toNatClampNeg x2)) else f1 (27,11,[.ref 0,.int x1,.int x2,.int (x3+1)],[],(upd S 7 (x3).toNatClampNeg (-x2))) else none else some (none,S):=Jb h rfl rfl<|Jd h rfl rfl<|Jj h rfl (S 0 2)<|Jm h rfl (Jd h rfl rfl<|Jg h rfl<|Jb h rfl rfl<|Jo h rfl rfl (S 6 (x3).toNatClampNeg) fun i0=>Jc h rfl k_1<|Jp h rfl (Jd h rfl rfl<|Jg h rfl<|Jb h rfl rfl<|Jb h rfl rfl<|Jx h rfl rfl x2 i0<|Jh h rfl<|Jn h rfl k_1 rfl [.ref 0,.int x1,.int x2,.int (x3+1)]<|Jh h rfl rfl) (Jd h rfl rfl<|Jg h rfl<|Jb h rfl rfl<|Jb h rfl rfl<|Jal h rfl<|Jx h rfl rfl (-x2) i0<|Jn h rfl k_1 rfl [.ref 0,.int x1,.int x2,.int (x3+1)]<|Jh h rfl rfl)) (Jk h rfl)
theorem e1_30_0{f1}(h:Fx f1)(x1:Int32)(S):f1 (30,0,[.ref 0,.int x1],[],S)=(f1 (49,0,[.ref 0,.int x1,.int 1,.int 8],[],S)).bind fun q=>f1 (30,8,[.ref 0,.int x1],q.1.toList++[],q.2):=Jd h rfl rfl<|Jb h rfl rfl<|Jc h rfl k_1<|Jc h rfl k_8<|Jf h rfl rfl
theorem e1_30_8{f1}(h:Fx f1)(x1 y0:Int32)(S):f1 (30,8,[.ref 0,.int x1],[.int y0],S)=(f1 (34,0,[.ref 0],[],S)).bind fun q=>f1 (30,13,[.ref 0,.int x1,.int y0],q.1.toList++[],q.2):=Je h rfl [.ref 0,.int x1,.int y0]<|Jd h rfl rfl<|Jf h rfl rfl
theorem e1_30_13{f1}(h:Fx f1)(x1 x2:Int32)(S):f1 (30,13,[.ref 0,.int x1,.int x2],[],S)=(f1 (35,0,[.ref 0],[],S)).bind fun q=>f1 (30,17,[.ref 0,.int x1,.int x2],q.1.toList++[],q.2):=Jd h rfl rfl<|Jf h rfl rfl
theorem e1_30_17{f1}(h:Fx f1)(x1 x2:Int32)(S):f1 (30,17,[.ref 0,.int x1,.int x2],[],S)=f1 (30,19,[.ref 0,.int x1,.int x2,.int 0],[],S):=Jc h rfl k_0<|Je h rfl [.ref 0,.int x1,.int x2,.int 0] rfl
theorem e1_30_19{f1}(h:Fx f1)(x1 x2 x3:Int32)(S):f1 (30,19,[.ref 0,.int x1,.int x2,.int x3],[],S)=if x3<x2 then (f1 (37,0,[.ref 0],[],S)).bind fun q=>f1 (30,28,[.ref 0,.int x1,.int x2,.int x3],q.1.toList++[],q.2) else (f1 (39,0,[.ref 0],[],S)).bind fun q=>f1 (30,42,[.ref 0,.int x1,.int x2,.int x3],q.1.toList++[],q.2):=Jb h rfl rfl<|Jb h rfl rfl<|Jm h rfl (Jd h rfl rfl<|Jf h rfl rfl) (Jd h rfl rfl<|Jf h rfl rfl)
theorem e1_30_28{f1}(h:Fx f1)(x1 x2 x3:Int32)(S):f1 (30,28,[.ref 0,.int x1,.int x2,.int x3],[],S)=(f1 (38,0,[.ref 0],[],S)).bind fun q=>f1 (30,32,[.ref 0,.int x1,.int x2,.int x3],q.1.toList++[],q.2):=Jd h rfl rfl<|Jf h rfl rfl
theorem e1_30_32{f1}(h:Fx f1)(x1 x2 x3:Int32)(S):f1 (30,32,[.ref 0,.int x1,.int x2,.int x3],[],S)=f1 (30,19,[.ref 0,.int x1,.int x2,.int (x3+1)],[],S):=Jn h rfl k_1 rfl [.ref 0,.int x1,.int x2,.int (x3+1)]<|Jh h rfl rfl
theorem e1_30_42{f1}(h:Fx f1)(x1 x2 x3 y0:Int32)(S):f1 (30,42,[.ref 0,.int x1,.int x2,.int x3],[.int y0],S)=some (some (.int y0),S):=Ji h rfl
theorem e1_34_0{f1}(h:Fx f1)(S):f1 (34,0,[.ref 0],[],S)=f1 (34,2,[.ref 0,.int 0],[],S):=Jc h rfl k_0<|Je h rfl [.ref 0,.int 0] rfl
theorem e1_34_2{f1}(h:Fx f1)(x1:Int32)(S):f1 (34,2,[.ref 0,.int x1],[],S)=if x1<(S 0 0) then (f1 (22,0,[.ref 0,.int x1],[],S)).bind fun q=>f1 (34,24,[.ref 0,.int x1],q.1.toList++[.ref 7,.int x1,.ref 21],q.2) else some (none,S):=Jb h rfl rfl<|Jd h rfl rfl<|Jj h rfl (S 0 0)<|Jm h rfl (Jd h rfl rfl<|Jg h rfl<|Jb h rfl rfl<|Jd h rfl rfl<|Jg h rfl<|Jd h rfl rfl<|Jb h rfl rfl<|Jf h rfl rfl) (Jk h rfl)
theorem e1_34_24{f1}(h:Fx f1)(x1 y0 y2:Int32)(S):f1 (34,24,[.ref 0,.int x1],[.int y0,.ref 7,.int y2,.ref 21],S)=if inb y0 204=true then if inb y2 64=true then (f1 (23,0,[.ref 0,.int x1],[],(upd S 21 (y2).toNatClampNeg (S 7 (y0).toNatClampNeg)))).bind fun q=>f1 (34,31,[.ref 0,.int x1],q.1.toList++[],q.2) else none else none:=Jo h rfl rfl (S 7 (y0).toNatClampNeg) fun i0=>Jv h rfl rfl (S 7 (y0).toNatClampNeg) fun i1=>Jd h rfl rfl<|Jb h rfl rfl<|Jf h rfl rfl
theorem e1_34_31{f1}(h:Fx f1)(x1 y0:Int32)(S):f1 (34,31,[.ref 0,.int x1],[.int y0],S)=if y0<0 then if inb x1 64=true then (f1 (24,0,[.ref 0,.int x1],[],(upd S 22 (x1).toNatClampNeg 0))).bind fun q=>f1 (34,57,[.ref 0,.int x1,.int y0],q.1.toList++[],q.2) else none else if inb y0 204=true then if inb x1 64=true then (f1 (24,0,[.ref 0,.int x1],[],(upd S 22 (x1).toNatClampNeg (S 7 (y0).toNatClampNeg)))).bind fun q=>f1 (34,57,[.ref 0,.int x1,.int y0],q.1.toList++[],q.2) else none else none:=Je h rfl [.ref 0,.int x1,.int y0]<|Jd h rfl rfl<|Jg h rfl<|Jb h rfl rfl<|Jb h rfl rfl<|JB h rfl (Jc h rfl k_0<|Jv h rfl rfl 0 fun i0=>Jd h rfl rfl<|Jb h rfl rfl<|Jf h rfl rfl) (Jd h rfl rfl<|Jg h rfl<|Jb h rfl rfl<|Jo h rfl rfl (S 7 (y0).toNatClampNeg) fun i0=>Jh h rfl<|Jv h rfl rfl (S 7 (y0).toNatClampNeg) fun i1=>Jd h rfl rfl<|Jb h rfl rfl<|Jf h rfl rfl)
theorem e1_34_57{f1}(h:Fx f1)(x1 x2 y0:Int32)(S):f1 (34,57,[.ref 0,.int x1,.int x2],[.int y0],S)=if y0<0 then if inb x1 64=true then f1 (34,2,[.ref 0,.int (x1+1)],[],(upd S 23 (x1).toNatClampNeg 0)) else none else if inb y0 204=true then if inb x1 64=true then f1 (34,2,[.ref 0,.int (x1+1)],[],(upd S 23 (x1).toNatClampNeg (S 7 (y0).toNatClampNeg))) else none else none:=Je h rfl [.ref 0,.int x1,.int x2,.int y0]<|Jd h rfl rfl<|Jg h rfl<|Jb h rfl rfl<|Jb h rfl rfl<|JB h rfl (Jc h rfl k_0<|Jv h rfl rfl 0 fun i0=>Jn h rfl k_1 rfl [.ref 0,.int (x1+1),.int x2,.int y0]<|Jh h rfl<|Jr h rfl rfl) (Jd h rfl rfl<|Jg h rfl<|Jb h rfl rfl<|Jo h rfl rfl (S 7 (y0).toNatClampNeg) fun i0=>Jh h rfl<|Jv h rfl rfl (S 7 (y0).toNatClampNeg) fun i1=>Jn h rfl k_1 rfl [.ref 0,.int (x1+1),.int x2,.int y0]<|Jh h rfl<|Jr h rfl rfl)
theorem e1_35_0{f1}(h:Fx f1)(S):f1 (35,0,[.ref 0],[],S)=f1 (35,2,[.ref 0,.int 0],[],S):=Jc h rfl k_0<|Je h rfl [.ref 0,.int 0] rfl
theorem e1_35_2{f1}(h:Fx f1)(x1:Int32)(S):f1 (35,2,[.ref 0,.int x1],[],S)=if x1<(S 0 0) then if inb x1 64=true then f1 (35,2,[.ref 0,.int (x1+1)],[],(upd (upd S 24 (x1).toNatClampNeg 0) 25 (x1).toNatClampNeg 0)) else none else some (none,S):=Jb h rfl rfl<|Jd h rfl rfl<|Jj h rfl (S 0 0)<|Jm h rfl (Jd h rfl rfl<|Jg h rfl<|Jb h rfl rfl<|Jc h rfl k_0<|Jv h rfl rfl 0 fun i0=>Jd h rfl rfl<|Jg h rfl<|Jb h rfl rfl<|Jc h rfl k_0<|Jx h rfl rfl 0 i0<|Jn h rfl k_1 rfl [.ref 0,.int (x1+1)]<|Jh h rfl rfl) (Jk h rfl)
theorem e1_37_0{f1}(h:Fx f1)(S):f1 (37,0,[.ref 0],[],S)=f1 (37,2,[.ref 0,.int 0],[],S):=Jc h rfl k_0<|Je h rfl [.ref 0,.int 0] rfl
theorem e1_37_2{f1}(h:Fx f1)(x1:Int32)(S):f1 (37,2,[.ref 0,.int x1],[],S)=if x1<(S 0 0) then if inb x1 64=true then f1 (37,2,[.ref 0,.int (x1+1)],[],(upd (upd (upd S 28 (x1).toNatClampNeg (S 21 (x1).toNatClampNeg)) 29 (x1).toNatClampNeg (S 25 (x1).toNatClampNeg)) 30 (x1).toNatClampNeg (S 22 (x1).toNatClampNeg))) else none else (f1 (36,0,[.ref 0,.int 1],[],S)).bind fun q=>f1 (37,57,[.ref 0,.int x1],q.1.toList++[],q.2):=Jb h rfl rfl<|Jd h rfl rfl<|Jj h rfl (S 0 0)<|Jm h rfl (Jd h rfl rfl<|Jg h rfl<|Jb h rfl rfl<|Jd h rfl rfl<|Jg h rfl<|Jb h rfl rfl<|Jo h rfl rfl (S 21 (x1).toNatClampNeg) fun i0=>Jx h rfl rfl (S 21 (x1).toNatClampNeg) i0<|Jd h rfl rfl<|Jg h rfl<|Jb h rfl rfl<|Jd h rfl rfl<|Jg h rfl<|Jb h rfl rfl<|JF h rfl rfl i0 (S 25 (x1).toNatClampNeg)<|Jx h rfl rfl (S 25 (x1).toNatClampNeg) i0<|Jd h rfl rfl<|Jg h rfl<|Jb h rfl rfl<|Jd h rfl rfl<|Jg h rfl<|Jb h rfl rfl<|JF h rfl rfl i0 (S 22 (x1).toNatClampNeg)<|Jx h rfl rfl (S 22 (x1).toNatClampNeg) i0<|Jn h rfl k_1 rfl [.ref 0,.int (x1+1)]<|Jh h rfl rfl) (Jd h rfl rfl<|Jc h rfl k_1<|Jf h rfl rfl)
theorem e1_37_57{f1}(h:Fx f1)(x1:Int32)(S):f1 (37,57,[.ref 0,.int x1],[],S)=(f1 (40,0,[.ref 0],[],S)).bind fun q=>f1 (37,61,[.ref 0,.int x1],q.1.toList++[],q.2):=Jd h rfl rfl<|Jf h rfl rfl
theorem e1_37_61{f1}(h:Fx f1)(x1:Int32)(S):f1 (37,61,[.ref 0,.int x1],[],S)=f1 (37,63,[.ref 0,.int 0],[],S):=Jc h rfl k_0<|Je h rfl [.ref 0,.int 0] rfl
theorem e1_37_63{f1}(h:Fx f1)(x1:Int32)(S):f1 (37,63,[.ref 0,.int x1],[],S)=if x1<(S 0 0) then if inb x1 64=true then f1 (37,63,[.ref 0,.int (x1+1)],[],(upd S 24 (x1).toNatClampNeg (S 33 (x1).toNatClampNeg))) else none else some (none,S):=Jb h rfl rfl<|Jd h rfl rfl<|Jj h rfl (S 0 0)<|Jm h rfl (Jd h rfl rfl<|Jg h rfl<|Jb h rfl rfl<|Jd h rfl rfl<|Jg h rfl<|Jb h rfl rfl<|Jo h rfl rfl (S 33 (x1).toNatClampNeg) fun i0=>Jx h rfl rfl (S 33 (x1).toNatClampNeg) i0<|Jn h rfl k_1 rfl [.ref 0,.int (x1+1)]<|Jh h rfl rfl) (Jk h rfl)
theorem e1_36_0{f1}(h:Fx f1)(x1:Int32)(S):f1 (36,0,[.ref 0,.int x1],[],S)=f1 (36,2,[.ref 0,.int x1,.int 0],[],S):=Jc h rfl k_0<|Je h rfl [.ref 0,.int x1,.int 0] rfl
theorem e1_36_2{f1}(h:Fx f1)(x1 x2:Int32)(S):f1 (36,2,[.ref 0,.int x1,.int x2],[],S)=if x2<3 then (f1 (26,0,[.ref 0,.int x1,.int 0,.int x2],[],S)).bind fun q=>f1 (36,23,[.ref 0,.int x1,.int x2],q.1.toList++[.ref 7,.int x2,.ref 31],q.2) else some (none,S):=Jb h rfl rfl<|Jc h rfl k_3<|Jm h rfl (Jd h rfl rfl<|Jg h rfl<|Jb h rfl rfl<|Jd h rfl rfl<|Jg h rfl<|Jd h rfl rfl<|Jb h rfl rfl<|Jc h rfl k_0<|Jb h rfl rfl<|Jf h rfl rfl) (Jk h rfl)
theorem e1_36_23{f1}(h:Fx f1)(x1 x2 y0 y2:Int32)(S):f1 (36,23,[.ref 0,.int x1,.int x2],[.int y0,.ref 7,.int y2,.ref 31],S)=if inb y0 204=true then if inb y2 3=true then (f1 (26,0,[.ref 0,.int x1,.int 1,.int x2],[],(upd S 31 (y2).toNatClampNeg (S 7 (y0).toNatClampNeg)))).bind fun q=>f1 (36,41,[.ref 0,.int x1,.int x2],q.1.toList++[.ref 7,.int x2,.ref 32],q.2) else none else none:=Jo h rfl rfl (S 7 (y0).toNatClampNeg) fun i0=>Jv h rfl rfl (S 7 (y0).toNatClampNeg) fun i1=>Jd h rfl rfl<|Jg h rfl<|Jb h rfl rfl<|Jd h rfl rfl<|Jg h rfl<|Jd h rfl rfl<|Jb h rfl rfl<|Jc h rfl k_1<|Jb h rfl rfl<|Jf h rfl rfl
theorem e1_36_41{f1}(h:Fx f1)(x1 x2 y0 y2:Int32)(S):f1 (36,41,[.ref 0,.int x1,.int x2],[.int y0,.ref 7,.int y2,.ref 32],S)=if inb y0 204=true then if inb y2 3=true then f1 (36,2,[.ref 0,.int x1,.int (x2+1)],[],(upd S 32 (y2).toNatClampNeg (S 7 (y0).toNatClampNeg))) else none else none:=Jo h rfl rfl (S 7 (y0).toNatClampNeg) fun i0=>Jv h rfl rfl (S 7 (y0).toNatClampNeg) fun i1=>Jn h rfl k_1 rfl [.ref 0,.int x1,.int (x2+1)]<|Jh h rfl rfl
theorem e1_40_0{f1}(h:Fx f1)(S):f1 (40,0,[.ref 0],[],S)=(f1 (43,0,[.ref 0],[],S)).bind fun q=>f1 (40,4,[.ref 0],q.1.toList++[],q.2):=Jd h rfl rfl<|Jf h rfl rfl
theorem e1_40_4{f1}(h:Fx f1)(S):f1 (40,4,[.ref 0],[],S)=f1 (40,13,[.ref 0,.int 1],[],(upd S 34 0 0)):=Jd h rfl rfl<|Jg h rfl<|Jc h rfl k_0<|Jc h rfl k_0<|JaB h rfl rfl 0 0<|Jc h rfl k_1<|Je h rfl [.ref 0,.int 1] rfl
theorem e1_40_13{f1}(h:Fx f1)(x1:Int32)(S):f1 (40,13,[.ref 0,.int x1],[],S)=if x1<8 then if inb x1 520=true then f1 (40,13,[.ref 0,.int (x1+1)],[],(upd S 34 (x1).toNatClampNeg (S 0 3))) else none else f1 (40,37,[.ref 0,.int 0],[],S):=Jb h rfl rfl<|Jc h rfl k_8<|Jm h rfl (Jd h rfl rfl<|Jg h rfl<|Jb h rfl rfl<|Jd h rfl rfl<|Jj h rfl (S 0 3)<|Jv h rfl rfl (S 0 3) fun i0=>Jn h rfl k_1 rfl [.ref 0,.int (x1+1)]<|Jh h rfl rfl) (Jc h rfl k_0<|Je h rfl [.ref 0,.int 0] rfl)
theorem e1_40_37{f1}(h:Fx f1)(x1:Int32)(S):f1 (40,37,[.ref 0,.int x1],[],S)=if x1<(S 0 0) then (f1 (46,0,[.ref 0,.int x1],[],S)).bind fun q=>f1 (40,50,[.ref 0,.int x1],q.1.toList++[],q.2) else some (none,S):=Jb h rfl rfl<|Jd h rfl rfl<|Jj h rfl (S 0 0)<|Jm h rfl (Jd h rfl rfl<|Jb h rfl rfl<|Jf h rfl rfl) (Jk h rfl)
theorem e1_40_50{f1}(h:Fx f1)(x1:Int32)(S):f1 (40,50,[.ref 0,.int x1],[],S)=(f1 (45,0,[.ref 0,.int x1],[],S)).bind fun q=>f1 (40,55,[.ref 0,.int x1],q.1.toList++[],q.2):=Jd h rfl rfl<|Jb h rfl rfl<|Jf h rfl rfl
theorem e1_40_55{f1}(h:Fx f1)(x1:Int32)(S):f1 (40,55,[.ref 0,.int x1],[],S)=f1 (40,37,[.ref 0,.int (x1+1)],[],S):=Jn h rfl k_1 rfl [.ref 0,.int (x1+1)]<|Jh h rfl rfl
theorem e1_43_0{f1}(h:Fx f1)(S):f1 (43,0,[.ref 0],[],S)=f1 (43,10,[.ref 0,.int ((S 0 0)*8),.int 0],[],S):=Jd h rfl rfl<|Jj h rfl (S 0 0)<|Jc h rfl k_8<|Jz h rfl<|Je h rfl [.ref 0,.int ((S 0 0)*8)]<|Jc h rfl k_0<|Je h rfl [.ref 0,.int ((S 0 0)*8),.int 0] rfl
theorem e1_43_10{f1}(h:Fx f1)(x1 x2:Int32)(S):f1 (43,10,[.ref 0,.int x1,.int x2],[],S)=if x2<8 then (f1 (42,0,[.ref 0,.int x2],[],S)).bind fun q=>f1 (43,28,[.ref 0,.int x1,.int x2],q.1.toList++[.int (x1+x2),.ref 35],q.2) else f1 (43,42,[.ref 0,.int x1,.int ((S 0 0)-1)],[],S):=Jb h rfl rfl<|Jc h rfl k_8<|Jm h rfl (Jd h rfl rfl<|Jg h rfl<|Jb h rfl rfl<|Jb h rfl rfl<|Jt h rfl<|Jd h rfl rfl<|Jb h rfl rfl<|Jf h rfl rfl) (Jd h rfl rfl<|Jj h rfl (S 0 0)<|Jc h rfl k_1<|JG h rfl<|Je h rfl [.ref 0,.int x1,.int ((S 0 0)-1)] rfl)
theorem e1_43_28{f1}(h:Fx f1)(x1 x2 y0 y1:Int32)(S):f1 (43,28,[.ref 0,.int x1,.int x2],[.int y0,.int y1,.ref 35],S)=if inb y1 520=true then f1 (43,10,[.ref 0,.int x1,.int (x2+1)],[],(upd S 35 (y1).toNatClampNeg y0)) else none:=Jv h rfl rfl y0 fun i0=>Jn h rfl k_1 rfl [.ref 0,.int x1,.int (x2+1)]<|Jh h rfl rfl
theorem e1_43_42{f1}(h:Fx f1)(x1 x2:Int32)(S):f1 (43,42,[.ref 0,.int x1,.int x2],[],S)=if x2<0 then some (none,S) else (f1 (44,0,[.ref 0,.int x2],[],S)).bind fun q=>f1 (43,51,[.ref 0,.int x1,.int x2],q.1.toList++[],q.2):=Jb h rfl rfl<|JB h rfl (Jk h rfl) (Jd h rfl rfl<|Jb h rfl rfl<|Jf h rfl rfl)
theorem e1_43_51{f1}(h:Fx f1)(x1 x2:Int32)(S):f1 (43,51,[.ref 0,.int x1,.int x2],[],S)=f1 (43,42,[.ref 0,.int x1,.int (x2+(-1))],[],S):=Jn h rfl k_m1 rfl [.ref 0,.int x1,.int (x2+(-1))]<|Jh h rfl rfl
theorem e1_42_0{f1}(h:Fx f1)(x1:Int32)(S):f1 (42,0,[.ref 0,.int x1],[],S)=f1 (42,10,[.ref 0,.int x1,.int (x1&&&7),.int 0,.int 0],[],S):=Jb h rfl rfl<|Jc h rfl k_7<|Ju h rfl<|Je h rfl [.ref 0,.int x1,.int (x1&&&7)]<|Jc h rfl k_0<|Je h rfl [.ref 0,.int x1,.int (x1&&&7),.int 0]<|Jc h rfl k_0<|Je h rfl [.ref 0,.int x1,.int (x1&&&7),.int 0,.int 0] rfl
theorem e1_42_10{f1}(h:Fx f1)(x1 x2 x3 x4:Int32)(S):f1 (42,10,[.ref 0,.int x1,.int x2,.int x3,.int x4],[],S)=if x4<3 then if inb x2 8=true then if inb x4 3=true then if inb ((x2*2)+(S 20 (x2).toNatClampNeg)) 16=true then f1 (42,10,[.ref 0,.int x1,.int (S 18 (((x2*2)+(S 20 (x2).toNatClampNeg))).toNatClampNeg),.int ((x3+((S 20 (x2).toNatClampNeg)*(S 31 (x4).toNatClampNeg)))+((S 19 (((x2*2)+(S 20 (x2).toNatClampNeg))).toNatClampNeg)*(S 32 (x4).toNatClampNeg))),.int (x4+1)],[],S) else none else none else none else some (some (.int x3),S):=Jb h rfl rfl<|Jc h rfl k_3<|Jm h rfl (Jd h rfl rfl<|Jg h rfl<|Jb h rfl rfl<|Jo h rfl rfl (S 20 (x2).toNatClampNeg) fun i0=>Je h rfl [.ref 0,.int x1,.int x2,.int x3,.int x4,.int (S 20 (x2).toNatClampNeg)]<|Jb h rfl rfl<|Jc h rfl k_2<|Jz h rfl<|Jb h rfl rfl<|Jt h rfl<|Je h rfl [.ref 0,.int x1,.int x2,.int x3,.int x4,.int (S 20 (x2).toNatClampNeg),.int ((x2*2)+(S 20 (x2).toNatClampNeg))]<|Jb h rfl rfl<|Jb h rfl rfl<|Jd h rfl rfl<|Jg h rfl<|Jb h rfl rfl<|Jo h rfl rfl (S 31 (x4).toNatClampNeg) fun i1=>Jz h rfl<|Jt h rfl<|Jd h rfl rfl<|Jg h rfl<|Jb h rfl rfl<|Jo h rfl rfl (S 19 (((x2*2)+(S 20 (x2).toNatClampNeg))).toNatClampNeg) fun i2=>Jd h rfl rfl<|Jg h rfl<|Jb h rfl rfl<|JF h rfl rfl i1 (S 32 (x4).toNatClampNeg)<|Jz h rfl<|Jt h rfl<|Je h rfl [.ref 0,.int x1,.int x2,.int ((x3+((S 20 (x2).toNatClampNeg)*(S 31 (x4).toNatClampNeg)))+((S 19 (((x2*2)+(S 20 (x2).toNatClampNeg))).toNatClampNeg)*(S 32 (x4).toNatClampNeg))),.int x4,.int (S 20 (x2).toNatClampNeg),.int ((x2*2)+(S 20 (x2).toNatClampNeg))]<|Jd h rfl rfl<|Jg h rfl<|Jb h rfl rfl<|JF h rfl rfl i2 (S 18 (((x2*2)+(S 20 (x2).toNatClampNeg))).toNatClampNeg)<|Je h rfl [.ref 0,.int x1,.int (S 18 (((x2*2)+(S 20 (x2).toNatClampNeg))).toNatClampNeg),.int ((x3+((S 20 (x2).toNatClampNeg)*(S 31 (x4).toNatClampNeg)))+((S 19 (((x2*2)+(S 20 (x2).toNatClampNeg))).toNatClampNeg)*(S 32 (x4).toNatClampNeg))),.int x4,.int (S 20 (x2).toNatClampNeg),.int ((x2*2)+(S 20 (x2).toNatClampNeg))]<|Jn h rfl k_1 rfl [.ref 0,.int x1,.int (S 18 (((x2*2)+(S 20 (x2).toNatClampNeg))).toNatClampNeg),.int ((x3+((S 20 (x2).toNatClampNeg)*(S 31 (x4).toNatClampNeg)))+((S 19 (((x2*2)+(S 20 (x2).toNatClampNeg))).toNatClampNeg)*(S 32 (x4).toNatClampNeg))),.int (x4+1),.int (S 20 (x2).toNatClampNeg),.int ((x2*2)+(S 20 (x2).toNatClampNeg))]<|Jh h rfl<|Jr h rfl rfl) (Jb h rfl rfl<|Ji h rfl)
theorem e1_44_0{f1}(h:Fx f1)(x1:Int32)(S):f1 (44,0,[.ref 0,.int x1],[],S)=f1 (44,13,[.ref 0,.int x1,.int (x1*8),.int ((x1*8)+8),.int 0],[],S):=Jb h rfl rfl<|Jc h rfl k_8<|Jz h rfl<|Je h rfl [.ref 0,.int x1,.int (x1*8)]<|Jb h rfl rfl<|Jc h rfl k_8<|Jt h rfl<|Je h rfl [.ref 0,.int x1,.int (x1*8),.int ((x1*8)+8)]<|Jc h rfl k_0<|Je h rfl [.ref 0,.int x1,.int (x1*8),.int ((x1*8)+8),.int 0] rfl
theorem e1_44_13{f1}(h:Fx f1)(x1 x2 x3 x4:Int32)(S):f1 (44,13,[.ref 0,.int x1,.int x2,.int x3,.int x4],[],S)=if x4<8 then f1 (44,29,[.ref 0,.int x1,.int x2,.int x3,.int x4,.int (S 0 4),.int 0],[],S) else some (none,S):=Jb h rfl rfl<|Jc h rfl k_8<|Jm h rfl (Jd h rfl rfl<|Jj h rfl (S 0 4)<|Je h rfl [.ref 0,.int x1,.int x2,.int x3,.int x4,.int (S 0 4)]<|Jc h rfl k_0<|Je h rfl [.ref 0,.int x1,.int x2,.int x3,.int x4,.int (S 0 4),.int 0] rfl) (Jk h rfl)
theorem e1_44_29{f1}(h:Fx f1)(x1 x2 x3 x4 x5 x6:Int32)(S):f1 (44,29,[.ref 0,.int x1,.int x2,.int x3,.int x4,.int x5,.int x6],[],S)=if x6<2 then (f1 (41,0,[.ref 0,.int x1,.int ((x4*2)+x6)],[],S)).bind fun q=>f1 (44,51,[.ref 0,.int x1,.int x2,.int x3,.int x4,.int x5,.int x6,.int ((x4*2)+x6)],q.1.toList++[],q.2) else if inb (x2+x4) 520=true then f1 (44,13,[.ref 0,.int x1,.int x2,.int x3,.int (x4+1)],[],(upd S 35 ((x2+x4)).toNatClampNeg x5)) else none:=Jb h rfl rfl<|Jc h rfl k_2<|Jm h rfl (Jb h rfl rfl<|Jc h rfl k_2<|Jz h rfl<|Jb h rfl rfl<|Jt h rfl<|Je h rfl [.ref 0,.int x1,.int x2,.int x3,.int x4,.int x5,.int x6,.int ((x4*2)+x6)]<|Jd h rfl rfl<|Jb h rfl rfl<|Jb h rfl rfl<|Jf h rfl rfl) (Jd h rfl rfl<|Jg h rfl<|Jb h rfl rfl<|Jb h rfl rfl<|Jt h rfl<|Jb h rfl rfl<|Jv h rfl rfl x5 fun i0=>Jn h rfl k_1 rfl [.ref 0,.int x1,.int x2,.int x3,.int (x4+1),.int x5,.int x6]<|Jh h rfl<|Jr h rfl rfl)
theorem e1_44_51{f1}(h:Fx f1)(x1 x2 x3 x4 x5 x6 x7 y0:Int32)(S):f1 (44,51,[.ref 0,.int x1,.int x2,.int x3,.int x4,.int x5,.int x6,.int x7],[.int y0],S)=if inb x7 16=true then if inb (x3+(S 18 (x7).toNatClampNeg)) 520=true then if x5<(y0+(S 35 ((x3+(S 18 (x7).toNatClampNeg))).toNatClampNeg)) then f1 (44,29,[.ref 0,.int x1,.int x2,.int x3,.int x4,.int (y0+(S 35 ((x3+(S 18 (x7).toNatClampNeg))).toNatClampNeg)),.int (x6+1)],[],S) else f1 (44,29,[.ref 0,.int x1,.int x2,.int x3,.int x4,.int x5,.int (x6+1)],[],S) else none else none:=Jd h rfl rfl<|Jg h rfl<|Jb h rfl rfl<|Jd h rfl rfl<|Jg h rfl<|Jb h rfl rfl<|Jo h rfl rfl (S 18 (x7).toNatClampNeg) fun i0=>Jt h rfl<|Jo h rfl rfl (S 35 ((x3+(S 18 (x7).toNatClampNeg))).toNatClampNeg) fun i1=>Jt h rfl<|Je h rfl [.ref 0,.int x1,.int x2,.int x3,.int x4,.int x5,.int x6,.int x7,.int (y0+(S 35 ((x3+(S 18 (x7).toNatClampNeg))).toNatClampNeg))]<|Jb h rfl rfl<|Jb h rfl rfl<|JO h rfl (Jb h rfl rfl<|Je h rfl [.ref 0,.int x1,.int x2,.int x3,.int x4,.int (y0+(S 35 ((x3+(S 18 (x7).toNatClampNeg))).toNatClampNeg)),.int x6,.int x7,.int (y0+(S 35 ((x3+(S 18 (x7).toNatClampNeg))).toNatClampNeg))]<|Jn h rfl k_1 rfl [.ref 0,.int x1,.int x2,.int x3,.int x4,.int (y0+(S 35 ((x3+(S 18 (x7).toNatClampNeg))).toNatClampNeg)),.int (x6+1),.int x7,.int (y0+(S 35 ((x3+(S 18 (x7).toNatClampNeg))).toNatClampNeg))]<|Jh h rfl<|Jr h rfl rfl) (Jn h rfl k_1 rfl [.ref 0,.int x1,.int x2,.int x3,.int x4,.int x5,.int (x6+1),.int x7,.int (y0+(S 35 ((x3+(S 18 (x7).toNatClampNeg))).toNatClampNeg))]<|Jh h rfl<|Jr h rfl rfl)
theorem e1_41_0{f1}(h:Fx f1)(x1 x2:Int32)(S):f1 (41,0,[.ref 0,.int x1,.int x2],[],S)=if inb x1 64=true then if inb x2 16=true then some (some (.int (((x2&&&1)*((S 28 (x1).toNatClampNeg)+(S 29 (x1).toNatClampNeg)))+((S 19 (x2).toNatClampNeg)*(S 30 (x1).toNatClampNeg)))),S) else none else none:=Jb h rfl rfl<|Jc h rfl k_1<|Ju h rfl<|Je h rfl [.ref 0,.int x1,.int x2,.int (x2&&&1)]<|Jb h rfl rfl<|Jd h rfl rfl<|Jg h rfl<|Jb h rfl rfl<|Jo h rfl rfl (S 28 (x1).toNatClampNeg) fun i0=>Jd h rfl rfl<|Jg h rfl<|Jb h rfl rfl<|JF h rfl rfl i0 (S 29 (x1).toNatClampNeg)<|Jt h rfl<|Jz h rfl<|Jd h rfl rfl<|Jg h rfl<|Jb h rfl rfl<|Jo h rfl rfl (S 19 (x2).toNatClampNeg) fun i1=>Jd h rfl rfl<|Jg h rfl<|Jb h rfl rfl<|JF h rfl rfl i0 (S 30 (x1).toNatClampNeg)<|Jz h rfl<|Jt h rfl<|Ji h rfl
theorem e1_46_0{f1}(h:Fx f1)(x1:Int32)(S):f1 (46,0,[.ref 0,.int x1],[],S)=f1 (46,25,[.ref 0,.int x1,.int (x1*8),.int ((x1*8)+8),.int (S 0 4),.int (S 0 4),.int 0],[],S):=Jb h rfl rfl<|Jc h rfl k_8<|Jz h rfl<|Je h rfl [.ref 0,.int x1,.int (x1*8)]<|Jb h rfl rfl<|Jc h rfl k_8<|Jt h rfl<|Je h rfl [.ref 0,.int x1,.int (x1*8),.int ((x1*8)+8)]<|Jd h rfl rfl<|Jj h rfl (S 0 4)<|Je h rfl [.ref 0,.int x1,.int (x1*8),.int ((x1*8)+8),.int (S 0 4)]<|Jd h rfl rfl<|Jj h rfl (S 0 4)<|Je h rfl [.ref 0,.int x1,.int (x1*8),.int ((x1*8)+8),.int (S 0 4),.int (S 0 4)]<|Jc h rfl k_0<|Je h rfl [.ref 0,.int x1,.int (x1*8),.int ((x1*8)+8),.int (S 0 4),.int (S 0 4),.int 0] rfl
theorem e1_46_25{f1}(h:Fx f1)(x1 x2 x3 x4 x5 x6:Int32)(S):f1 (46,25,[.ref 0,.int x1,.int x2,.int x3,.int x4,.int x5,.int x6],[],S)=if x6<16 then if inb (x2+(x6>>>((1:Int32)&&&31))) 520=true then (f1 (41,0,[.ref 0,.int x1,.int x6],[],S)).bind fun q=>f1 (46,50,[.ref 0,.int x1,.int x2,.int x3,.int x4,.int x5,.int x6],q.1.toList++[.int (S 34 ((x2+(x6>>>((1:Int32)&&&31)))).toNatClampNeg)],q.2) else none else if inb x1 64=true then (f1 (49,0,[.ref 0,.int (((x5-x4)-(S 28 (x1).toNatClampNeg))-(S 29 (x1).toNatClampNeg)),.int (-1023),.int 1023],[],S)).bind fun q=>f1 (46,145,[.ref 0,.int x1,.int x2,.int x3,.int x4,.int x5,.int (((x5-x4)-(S 28 (x1).toNatClampNeg))-(S 29 (x1).toNatClampNeg))],q.1.toList++[.int x1,.ref 33],q.2) else none:=Jb h rfl rfl<|Jc h rfl k_16<|Jm h rfl (Jd h rfl rfl<|Jg h rfl<|Jb h rfl rfl<|Jb h rfl rfl<|Jc h rfl k_1<|JV h rfl<|Jt h rfl<|Jo h rfl rfl (S 34 ((x2+(x6>>>((1:Int32)&&&31)))).toNatClampNeg) fun i0=>Jd h rfl rfl<|Jb h rfl rfl<|Jb h rfl rfl<|Jf h rfl rfl) (Jb h rfl rfl<|Jb h rfl rfl<|JG h rfl<|Jd h rfl rfl<|Jg h rfl<|Jb h rfl rfl<|Jo h rfl rfl (S 28 (x1).toNatClampNeg) fun i0=>JG h rfl<|Jd h rfl rfl<|Jg h rfl<|Jb h rfl rfl<|JF h rfl rfl i0 (S 29 (x1).toNatClampNeg)<|JG h rfl<|Je h rfl [.ref 0,.int x1,.int x2,.int x3,.int x4,.int x5,.int (((x5-x4)-(S 28 (x1).toNatClampNeg))-(S 29 (x1).toNatClampNeg))]<|Jd h rfl rfl<|Jg h rfl<|Jb h rfl rfl<|Jd h rfl rfl<|Jb h rfl rfl<|Jc h rfl k_m1023<|Jc h rfl k_1023<|Jf h rfl rfl)
theorem e1_46_50{f1}(h:Fx f1)(x1 x2 x3 x4 x5 x6 y0 y1:Int32)(S):f1 (46,50,[.ref 0,.int x1,.int x2,.int x3,.int x4,.int x5,.int x6],[.int y0,.int y1],S)=if inb x6 16=true then if inb (x3+(S 18 (x6).toNatClampNeg)) 520=true then if (x6&&&1)=1 then if x5<((y1+y0)+(S 35 ((x3+(S 18 (x6).toNatClampNeg))).toNatClampNeg)) then f1 (46,25,[.ref 0,.int x1,.int x2,.int x3,.int x4,.int ((y1+y0)+(S 35 ((x3+(S 18 (x6).toNatClampNeg))).toNatClampNeg)),.int (x6+1)],[],S) else f1 (46,25,[.ref 0,.int x1,.int x2,.int x3,.int x4,.int x5,.int (x6+1)],[],S) else if x4<((y1+y0)+(S 35 ((x3+(S 18 (x6).toNatClampNeg))).toNatClampNeg)) then f1 (46,25,[.ref 0,.int x1,.int x2,.int x3,.int ((y1+y0)+(S 35 ((x3+(S 18 (x6).toNatClampNeg))).toNatClampNeg)),.int x5,.int (x6+1)],[],S) else f1 (46,25,[.ref 0,.int x1,.int x2,.int x3,.int x4,.int x5,.int (x6+1)],[],S) else none else none:=Jt h rfl<|Jd h rfl rfl<|Jg h rfl<|Jb h rfl rfl<|Jd h rfl rfl<|Jg h rfl<|Jb h rfl rfl<|Jo h rfl rfl (S 18 (x6).toNatClampNeg) fun i0=>Jt h rfl<|Jo h rfl rfl (S 35 ((x3+(S 18 (x6).toNatClampNeg))).toNatClampNeg) fun i1=>Jt h rfl<|Je h rfl [.ref 0,.int x1,.int x2,.int x3,.int x4,.int x5,.int x6,.int ((y1+y0)+(S 35 ((x3+(S 18 (x6).toNatClampNeg))).toNatClampNeg))]<|Jb h rfl rfl<|Jc h rfl k_1<|Ju h rfl<|Jc h rfl k_1<|Jp h rfl (Jb h rfl rfl<|Jb h rfl rfl<|JO h rfl (Jb h rfl rfl<|Je h rfl [.ref 0,.int x1,.int x2,.int x3,.int x4,.int ((y1+y0)+(S 35 ((x3+(S 18 (x6).toNatClampNeg))).toNatClampNeg)),.int x6,.int ((y1+y0)+(S 35 ((x3+(S 18 (x6).toNatClampNeg))).toNatClampNeg))]<|Jh h rfl<|Jn h rfl k_1 rfl [.ref 0,.int x1,.int x2,.int x3,.int x4,.int ((y1+y0)+(S 35 ((x3+(S 18 (x6).toNatClampNeg))).toNatClampNeg)),.int (x6+1),.int ((y1+y0)+(S 35 ((x3+(S 18 (x6).toNatClampNeg))).toNatClampNeg))]<|Jh h rfl<|Jr h rfl rfl) (Jn h rfl k_1 rfl [.ref 0,.int x1,.int x2,.int x3,.int x4,.int x5,.int (x6+1),.int ((y1+y0)+(S 35 ((x3+(S 18 (x6).toNatClampNeg))).toNatClampNeg))]<|Jh h rfl<|Jr h rfl rfl)) (Jb h rfl rfl<|Jb h rfl rfl<|JO h rfl (Jb h rfl rfl<|Je h rfl [.ref 0,.int x1,.int x2,.int x3,.int ((y1+y0)+(S 35 ((x3+(S 18 (x6).toNatClampNeg))).toNatClampNeg)),.int x5,.int x6,.int ((y1+y0)+(S 35 ((x3+(S 18 (x6).toNatClampNeg))).toNatClampNeg))]<|Jn h rfl k_1 rfl [.ref 0,.int x1,.int x2,.int x3,.int ((y1+y0)+(S 35 ((x3+(S 18 (x6).toNatClampNeg))).toNatClampNeg)),.int x5,.int (x6+1),.int ((y1+y0)+(S 35 ((x3+(S 18 (x6).toNatClampNeg))).toNatClampNeg))]<|Jh h rfl<|Jr h rfl rfl) (Jn h rfl k_1 rfl [.ref 0,.int x1,.int x2,.int x3,.int x4,.int x5,.int (x6+1),.int ((y1+y0)+(S 35 ((x3+(S 18 (x6).toNatClampNeg))).toNatClampNeg))]<|Jh h rfl<|Jr h rfl rfl))
theorem e1_46_145{f1}(h:Fx f1)(x1 x2 x3 x4 x5 x6 y0 y1:Int32)(S):f1 (46,145,[.ref 0,.int x1,.int x2,.int x3,.int x4,.int x5,.int x6],[.int y0,.int y1,.ref 33],S)=if inb y1 64=true then some (none,(upd S 33 (y1).toNatClampNeg y0)) else none:=Jv h rfl rfl y0 fun i0=>Jk h rfl
theorem e1_45_0{f1}(h:Fx f1)(x1:Int32)(S):f1 (45,0,[.ref 0,.int x1],[],S)=f1 (45,13,[.ref 0,.int x1,.int (x1*8),.int ((x1*8)+8),.int 0],[],S):=Jb h rfl rfl<|Jc h rfl k_8<|Jz h rfl<|Je h rfl [.ref 0,.int x1,.int (x1*8)]<|Jb h rfl rfl<|Jc h rfl k_8<|Jt h rfl<|Je h rfl [.ref 0,.int x1,.int (x1*8),.int ((x1*8)+8)]<|Jc h rfl k_0<|Je h rfl [.ref 0,.int x1,.int (x1*8),.int ((x1*8)+8),.int 0] rfl
theorem e1_45_13{f1}(h:Fx f1)(x1 x2 x3 x4:Int32)(S):f1 (45,13,[.ref 0,.int x1,.int x2,.int x3,.int x4],[],S)=if x4<8 then if inb (x3+x4) 520=true then f1 (45,13,[.ref 0,.int x1,.int x2,.int x3,.int (x4+1)],[],(upd S 34 ((x3+x4)).toNatClampNeg (S 0 4))) else none else f1 (45,42,[.ref 0,.int x1,.int x2,.int x3,.int 0],[],S):=Jb h rfl rfl<|Jc h rfl k_8<|Jm h rfl (Jd h rfl rfl<|Jg h rfl<|Jb h rfl rfl<|Jb h rfl rfl<|Jt h rfl<|Jd h rfl rfl<|Jj h rfl (S 0 4)<|Jv h rfl rfl (S 0 4) fun i0=>Jn h rfl k_1 rfl [.ref 0,.int x1,.int x2,.int x3,.int (x4+1)]<|Jh h rfl rfl) (Jc h rfl k_0<|Je h rfl [.ref 0,.int x1,.int x2,.int x3,.int 0] rfl)
theorem e1_45_42{f1}(h:Fx f1)(x1 x2 x3 x4:Int32)(S):f1 (45,42,[.ref 0,.int x1,.int x2,.int x3,.int x4],[],S)=if x4<16 then if inb (x2+(x4>>>((1:Int32)&&&31))) 520=true then (f1 (41,0,[.ref 0,.int x1,.int x4],[],S)).bind fun q=>f1 (45,67,[.ref 0,.int x1,.int x2,.int x3,.int x4],q.1.toList++[.int (S 34 ((x2+(x4>>>((1:Int32)&&&31)))).toNatClampNeg)],q.2) else none else some (none,S):=Jb h rfl rfl<|Jc h rfl k_16<|Jm h rfl (Jd h rfl rfl<|Jg h rfl<|Jb h rfl rfl<|Jb h rfl rfl<|Jc h rfl k_1<|JV h rfl<|Jt h rfl<|Jo h rfl rfl (S 34 ((x2+(x4>>>((1:Int32)&&&31)))).toNatClampNeg) fun i0=>Jd h rfl rfl<|Jb h rfl rfl<|Jb h rfl rfl<|Jf h rfl rfl) (Jk h rfl)
theorem e1_45_67{f1}(h:Fx f1)(x1 x2 x3 x4 y0 y1:Int32)(S):f1 (45,67,[.ref 0,.int x1,.int x2,.int x3,.int x4],[.int y0,.int y1],S)=if inb x4 16=true then if inb (x3+(S 18 (x4).toNatClampNeg)) 520=true then if (S 34 ((x3+(S 18 (x4).toNatClampNeg))).toNatClampNeg)<(y1+y0) then f1 (45,42,[.ref 0,.int x1,.int x2,.int x3,.int (x4+1)],[],(upd S 34 ((x3+(S 18 (x4).toNatClampNeg))).toNatClampNeg (y1+y0))) else f1 (45,42,[.ref 0,.int x1,.int x2,.int x3,.int (x4+1)],[],S) else none else none:=Jt h rfl<|Je h rfl [.ref 0,.int x1,.int x2,.int x3,.int x4,.int (y1+y0)]<|Jb h rfl rfl<|Jd h rfl rfl<|Jg h rfl<|Jb h rfl rfl<|Jo h rfl rfl (S 18 (x4).toNatClampNeg) fun i0=>Jt h rfl<|Je h rfl [.ref 0,.int x1,.int x2,.int x3,.int x4,.int (y1+y0),.int (x3+(S 18 (x4).toNatClampNeg))]<|Jb h rfl rfl<|Jd h rfl rfl<|Jg h rfl<|Jb h rfl rfl<|Jo h rfl rfl (S 34 ((x3+(S 18 (x4).toNatClampNeg))).toNatClampNeg) fun i1=>JO h rfl (Jd h rfl rfl<|Jg h rfl<|Jb h rfl rfl<|Jb h rfl rfl<|Jx h rfl rfl (y1+y0) i1<|Jn h rfl k_1 rfl [.ref 0,.int x1,.int x2,.int x3,.int (x4+1),.int (y1+y0),.int (x3+(S 18 (x4).toNatClampNeg))]<|Jh h rfl<|Jr h rfl rfl) (Jn h rfl k_1 rfl [.ref 0,.int x1,.int x2,.int x3,.int (x4+1),.int (y1+y0),.int (x3+(S 18 (x4).toNatClampNeg))]<|Jh h rfl<|Jr h rfl rfl)
theorem e1_38_0{f1}(h:Fx f1)(S):f1 (38,0,[.ref 0],[],S)=f1 (38,2,[.ref 0,.int 0],[],S):=Jc h rfl k_0<|Je h rfl [.ref 0,.int 0] rfl
theorem e1_38_2{f1}(h:Fx f1)(x1:Int32)(S):f1 (38,2,[.ref 0,.int x1],[],S)=if x1<(S 0 0) then if inb x1 64=true then if inb (S 1 (x1).toNatClampNeg) 64=true then f1 (38,2,[.ref 0,.int (x1+1)],[],(upd (upd (upd S 28 (x1).toNatClampNeg (S 21 ((S 1 (x1).toNatClampNeg)).toNatClampNeg)) 29 (x1).toNatClampNeg (S 24 ((S 1 (x1).toNatClampNeg)).toNatClampNeg)) 30 (x1).toNatClampNeg (S 23 (x1).toNatClampNeg))) else none else none else (f1 (36,0,[.ref 0,.int 2],[],S)).bind fun q=>f1 (38,64,[.ref 0,.int x1],q.1.toList++[],q.2):=Jb h rfl rfl<|Jd h rfl rfl<|Jj h rfl (S 0 0)<|Jm h rfl (Jd h rfl rfl<|Jg h rfl<|Jb h rfl rfl<|Jo h rfl rfl (S 1 (x1).toNatClampNeg) fun i0=>Je h rfl [.ref 0,.int x1,.int (S 1 (x1).toNatClampNeg)]<|Jd h rfl rfl<|Jg h rfl<|Jb h rfl rfl<|Jd h rfl rfl<|Jg h rfl<|Jb h rfl rfl<|Jo h rfl rfl (S 21 ((S 1 (x1).toNatClampNeg)).toNatClampNeg) fun i1=>Jx h rfl rfl (S 21 ((S 1 (x1).toNatClampNeg)).toNatClampNeg) i0<|Jd h rfl rfl<|Jg h rfl<|Jb h rfl rfl<|Jd h rfl rfl<|Jg h rfl<|Jb h rfl rfl<|JF h rfl rfl i1 (S 24 ((S 1 (x1).toNatClampNeg)).toNatClampNeg)<|Jx h rfl rfl (S 24 ((S 1 (x1).toNatClampNeg)).toNatClampNeg) i0<|Jd h rfl rfl<|Jg h rfl<|Jb h rfl rfl<|Jd h rfl rfl<|Jg h rfl<|Jb h rfl rfl<|JF h rfl rfl i0 (S 23 (x1).toNatClampNeg)<|Jx h rfl rfl (S 23 (x1).toNatClampNeg) i0<|Jn h rfl k_1 rfl [.ref 0,.int (x1+1),.int (S 1 (x1).toNatClampNeg)]<|Jh h rfl<|Jr h rfl rfl) (Jd h rfl rfl<|Jc h rfl k_2<|Jf h rfl rfl)
theorem e1_38_64{f1}(h:Fx f1)(x1:Int32)(S):f1 (38,64,[.ref 0,.int x1],[],S)=(f1 (40,0,[.ref 0],[],S)).bind fun q=>f1 (38,68,[.ref 0,.int x1],q.1.toList++[],q.2):=Jd h rfl rfl<|Jf h rfl rfl
theorem e1_38_68{f1}(h:Fx f1)(x1:Int32)(S):f1 (38,68,[.ref 0,.int x1],[],S)=f1 (38,70,[.ref 0,.int 0],[],S):=Jc h rfl k_0<|Je h rfl [.ref 0,.int 0] rfl
theorem e1_38_70{f1}(h:Fx f1)(x1:Int32)(S):f1 (38,70,[.ref 0,.int x1],[],S)=if x1<(S 0 0) then if inb x1 64=true then if inb (S 1 (x1).toNatClampNeg) 64=true then f1 (38,70,[.ref 0,.int (x1+1)],[],(upd S 25 ((S 1 (x1).toNatClampNeg)).toNatClampNeg (S 33 (x1).toNatClampNeg))) else none else none else some (none,S):=Jb h rfl rfl<|Jd h rfl rfl<|Jj h rfl (S 0 0)<|Jm h rfl (Jd h rfl rfl<|Jg h rfl<|Jd h rfl rfl<|Jg h rfl<|Jb h rfl rfl<|Jo h rfl rfl (S 1 (x1).toNatClampNeg) fun i0=>Jd h rfl rfl<|Jg h rfl<|Jb h rfl rfl<|JF h rfl rfl i0 (S 33 (x1).toNatClampNeg)<|Jv h rfl rfl (S 33 (x1).toNatClampNeg) fun i1=>Jn h rfl k_1 rfl [.ref 0,.int (x1+1)]<|Jh h rfl rfl) (Jk h rfl)
theorem e1_39_0{f1}(h:Fx f1)(S):f1 (39,0,[.ref 0],[],S)=f1 (39,4,[.ref 0,.int 0,.int 0],[],S):=Jc h rfl k_0<|Je h rfl [.ref 0,.int 0]<|Jc h rfl k_0<|Je h rfl [.ref 0,.int 0,.int 0] rfl
theorem e1_39_4{f1}(h:Fx f1)(x1 x2:Int32)(S):f1 (39,4,[.ref 0,.int x1,.int x2],[],S)=if x2<(S 0 0) then if inb x2 64=true then if 0<(((S 21 (x2).toNatClampNeg)+(S 24 (x2).toNatClampNeg))+(S 25 (x2).toNatClampNeg)) then f1 (39,54,[.ref 0,.int x1,.int x2,.int (((S 21 (x2).toNatClampNeg)+(S 24 (x2).toNatClampNeg))+(S 25 (x2).toNatClampNeg))],[.int 1,.int x2,.ref 27],(upd S 26 (x2).toNatClampNeg (((S 21 (x2).toNatClampNeg)+(S 24 (x2).toNatClampNeg))+(S 25 (x2).toNatClampNeg)))) else f1 (39,54,[.ref 0,.int x1,.int x2,.int (((S 21 (x2).toNatClampNeg)+(S 24 (x2).toNatClampNeg))+(S 25 (x2).toNatClampNeg))],[.int 0,.int x2,.ref 27],(upd S 26 (x2).toNatClampNeg (((S 21 (x2).toNatClampNeg)+(S 24 (x2).toNatClampNeg))+(S 25 (x2).toNatClampNeg)))) else none else some (some (.int x1),S):=Jb h rfl rfl<|Jd h rfl rfl<|Jj h rfl (S 0 0)<|Jm h rfl (Jd h rfl rfl<|Jg h rfl<|Jb h rfl rfl<|Jo h rfl rfl (S 21 (x2).toNatClampNeg) fun i0=>Jd h rfl rfl<|Jg h rfl<|Jb h rfl rfl<|JF h rfl rfl i0 (S 24 (x2).toNatClampNeg)<|Jt h rfl<|Jd h rfl rfl<|Jg h rfl<|Jb h rfl rfl<|JF h rfl rfl i0 (S 25 (x2).toNatClampNeg)<|Jt h rfl<|Je h rfl [.ref 0,.int x1,.int x2,.int (((S 21 (x2).toNatClampNeg)+(S 24 (x2).toNatClampNeg))+(S 25 (x2).toNatClampNeg))]<|Jd h rfl rfl<|Jg h rfl<|Jb h rfl rfl<|Jb h rfl rfl<|Jx h rfl rfl (((S 21 (x2).toNatClampNeg)+(S 24 (x2).toNatClampNeg))+(S 25 (x2).toNatClampNeg)) i0<|Jd h rfl rfl<|Jg h rfl<|Jb h rfl rfl<|Jb h rfl rfl<|Jab h rfl (Jc h rfl k_1<|Jh h rfl rfl) (Jc h rfl k_0 rfl)) (Jb h rfl rfl<|Ji h rfl)
theorem e1_39_54{f1}(h:Fx f1)(x1 x2 x3 y0 y1:Int32)(S):f1 (39,54,[.ref 0,.int x1,.int x2,.int x3],[.int y0,.int y1,.ref 27],S)=if inb y1 64=true then if inb x2 64=true then if ((upd S 27 (y1).toNatClampNeg y0) 27 (x2).toNatClampNeg)=(S 5 (x2).toNatClampNeg) then f1 (39,4,[.ref 0,.int x1,.int (x2+1)],[],(upd S 27 (y1).toNatClampNeg y0)) else f1 (39,4,[.ref 0,.int (x1+1),.int (x2+1)],[],(upd S 27 (y1).toNatClampNeg y0)) else none else none:=Jv h rfl rfl y0 fun i0=>Jd h rfl rfl<|Jg h rfl<|Jb h rfl rfl<|Jo h rfl rfl ((upd S 27 (y1).toNatClampNeg y0) 27 (x2).toNatClampNeg) fun i1=>Jd h rfl rfl<|Jg h rfl<|Jb h rfl rfl<|JF h rfl rfl i1 (S 5 (x2).toNatClampNeg)<|JA h rfl (Jn h rfl k_1 rfl [.ref 0,.int x1,.int (x2+1),.int x3]<|Jh h rfl<|Jr h rfl rfl) (Jn h rfl k_1 rfl [.ref 0,.int (x1+1),.int x2,.int x3]<|Jn h rfl k_1 rfl [.ref 0,.int (x1+1),.int (x2+1),.int x3]<|Jh h rfl<|Jr h rfl rfl)
theorem e1_14_0{f1}(h:Fx f1)(x1:Int32)(S):f1 (14,0,[.ref 0,.int x1],[],S)=(f1 (47,0,[.ref 0,.int x1],[],S)).bind fun q=>f1 (14,5,[.ref 0,.int x1],q.1.toList++[],q.2):=Jd h rfl rfl<|Jb h rfl rfl<|Jf h rfl rfl
theorem e1_14_5{f1}(h:Fx f1)(x1 y0:Int32)(S):f1 (14,5,[.ref 0,.int x1],[.int y0],S)=if y0=0 then some (some (.int (-1)),S) else if inb x1 64=true then some (some (.int (S 5 (x1).toNatClampNeg)),S) else none:=Js h rfl (Jc h rfl k_m1<|Ji h rfl) (Jd h rfl rfl<|Jg h rfl<|Jb h rfl rfl<|Jo h rfl rfl (S 5 (x1).toNatClampNeg) fun i0=>Ji h rfl)
theorem e1_31_0{f1}(h:Fx f1)(x1:Int32)(S):f1 (31,0,[.ref 0,.int x1],[],S)=(f1 (47,0,[.ref 0,.int x1],[],S)).bind fun q=>f1 (31,5,[.ref 0,.int x1],q.1.toList++[],q.2):=Jd h rfl rfl<|Jb h rfl rfl<|Jf h rfl rfl
theorem e1_31_5{f1}(h:Fx f1)(x1 y0:Int32)(S):f1 (31,5,[.ref 0,.int x1],[.int y0],S)=if y0=0 then some (some (.int (-1)),S) else if inb x1 64=true then some (some (.int (S 27 (x1).toNatClampNeg)),S) else none:=Js h rfl (Jc h rfl k_m1<|Ji h rfl) (Jd h rfl rfl<|Jg h rfl<|Jb h rfl rfl<|Jo h rfl rfl (S 27 (x1).toNatClampNeg) fun i0=>Ji h rfl)
theorem e1_32_0{f1}(h:Fx f1)(x1:Int32)(S):f1 (32,0,[.ref 0,.int x1],[],S)=(f1 (47,0,[.ref 0,.int x1],[],S)).bind fun q=>f1 (32,5,[.ref 0,.int x1],q.1.toList++[],q.2):=Jd h rfl rfl<|Jb h rfl rfl<|Jf h rfl rfl
theorem e1_32_5{f1}(h:Fx f1)(x1 y0:Int32)(S):f1 (32,5,[.ref 0,.int x1],[.int y0],S)=if y0=0 then some (some (.int (-32768)),S) else if inb x1 64=true then some (some (.int (S 26 (x1).toNatClampNeg)),S) else none:=Js h rfl (Jc h rfl k_m32768<|Ji h rfl) (Jd h rfl rfl<|Jg h rfl<|Jb h rfl rfl<|Jo h rfl rfl (S 26 (x1).toNatClampNeg) fun i0=>Ji h rfl)
theorem e1_33_0{f1}(h:Fx f1)(x1 x2:Int32)(S):f1 (33,0,[.ref 0,.int x1,.int x2],[],S)=(f1 (47,0,[.ref 0,.int x2],[],S)).bind fun q=>f1 (33,5,[.ref 0,.int x1,.int x2],q.1.toList++[],q.2):=Jd h rfl rfl<|Jb h rfl rfl<|Jf h rfl rfl
theorem e1_33_5{f1}(h:Fx f1)(x1 x2 y0:Int32)(S):f1 (33,5,[.ref 0,.int x1,.int x2],[.int y0],S)=if y0=0 then some (some (.int (-32768)),S) else if x1=1 then if inb x2 64=true then some (some (.int (S 24 (x2).toNatClampNeg)),S) else none else if x1=2 then if inb x2 64=true then some (some (.int (S 25 (x2).toNatClampNeg)),S) else none else some (some (.int (-32768)),S):=Js h rfl (Jc h rfl k_m32768<|Ji h rfl) (Jb h rfl rfl<|Jc h rfl k_1<|Jp h rfl (Jd h rfl rfl<|Jg h rfl<|Jb h rfl rfl<|Jo h rfl rfl (S 24 (x2).toNatClampNeg) fun i0=>Ji h rfl) (Jb h rfl rfl<|Jc h rfl k_2<|Jp h rfl (Jd h rfl rfl<|Jg h rfl<|Jb h rfl rfl<|Jo h rfl rfl (S 25 (x2).toNatClampNeg) fun i0=>Ji h rfl) (Jc h rfl k_m32768<|Ji h rfl)))
theorem e1_28_0{f1}(h:Fx f1)(x1 x2:Int32)(S):f1 (28,0,[.ref 0,.int x1,.int x2],[],S)=(f1 (48,0,[.ref 0,.int x1],[],S)).bind fun q=>f1 (28,5,[.ref 0,.int x1,.int x2],q.1.toList++[],q.2):=Jd h rfl rfl<|Jb h rfl rfl<|Jf h rfl rfl
theorem e1_28_5{f1}(h:Fx f1)(x1 x2 y0:Int32)(S):f1 (28,5,[.ref 0,.int x1,.int x2],[.int y0],S)=if y0=0 then some (some (.int 0),S) else (f1 (49,0,[.ref 0,.int x2,.int (-127),.int 127],[],S)).bind fun q=>f1 (28,24,[.ref 0,.int x1,.int x2],q.1.toList++[.int x1,.ref 7],q.2):=Js h rfl (Jc h rfl k_0<|Jl h rfl) (Jd h rfl rfl<|Jg h rfl<|Jb h rfl rfl<|Jd h rfl rfl<|Jb h rfl rfl<|Jc h rfl k_m127<|Jc h rfl k_127<|Jf h rfl rfl)
theorem e1_28_24{f1}(h:Fx f1)(x1 x2 y0 y1:Int32)(S):f1 (28,24,[.ref 0,.int x1,.int x2],[.int y0,.int y1,.ref 7],S)=if inb y1 204=true then some (some (.int 1),(upd S 7 (y1).toNatClampNeg y0)) else none:=Jv h rfl rfl y0 fun i0=>Jc h rfl k_1<|JC h rfl
theorem e1_48_0{f1}(h:Fx f1)(x1:Int32)(S):f1 (48,0,[.ref 0,.int x1],[],S)=if x1<0 then some (some (.int 0),S) else if x1<(S 0 2) then some (some (.int 1),S) else some (some (.int 0),S):=Jb h rfl rfl<|JB h rfl (Jc h rfl k_0<|Jl h rfl) (Jb h rfl rfl<|Jd h rfl rfl<|Jj h rfl (S 0 2)<|Jm h rfl (Jc h rfl k_1<|Jh h rfl<|JC h rfl) (Jc h rfl k_0<|Jl h rfl))
theorem e2_0_0{f1 f2 xs}(h:Fy xs f1 f2):f2 (0,0,[.ref 0],[],(false,[]))=(f2 (1,0,[.ref 0,.int 0],[],(false,[]))).bind fun q=>f2 (0,5,[.ref 0],q.1.toList++[],q.2):=Jd h rfl rfl<|Jc h rfl k_0<|JE h rfl rfl
theorem e2_0_5{f1 f2 xs}(h:Fy xs f1 f2)(y0:Int32):f2 (0,5,[.ref 0],[.int y0],(false,[]))=(f2 (2,0,[.int y0,.int 80],[],(false,[]))).bind fun q=>f2 (0,10,[.ref 0],q.1.toList++[],q.2):=Jc h rfl k_80<|JE h rfl rfl
theorem e2_0_10{f1 f2 xs}(h:Fy xs f1 f2)(y0:Int32):f2 (0,10,[.ref 0],[.int y0],(false,[]))=(f2 (1,0,[.ref 0,.int 1],[],(false,[]))).bind fun q=>f2 (0,18,[.ref 0,.int (y0-4)],q.1.toList++[],q.2):=Jc h rfl k_4<|JG h rfl<|Je h rfl [.ref 0,.int (y0-4)]<|Jd h rfl rfl<|Jc h rfl k_1<|JE h rfl rfl
theorem e2_0_18{f1 f2 xs}(h:Fy xs f1 f2)(x1 y0:Int32):f2 (0,18,[.ref 0,.int x1],[.int y0],(false,[]))=(f2 (2,0,[.int y0,.int 4],[],(false,[]))).bind fun q=>f2 (0,22,[.ref 0,.int x1],q.1.toList++[],q.2):=Jc h rfl k_4<|JE h rfl rfl
theorem e2_0_22{f1 f2 xs}(h:Fy xs f1 f2)(x1 y0:Int32):f2 (0,22,[.ref 0,.int x1],[.int y0],(false,[]))=(f2 (3,0,[.int x1],[],(false,[]))).bind fun q=>f2 (0,29,[.ref 0,.int x1,.int (y0-1)],q.1.toList++[],q.2):=Jc h rfl k_1<|JG h rfl<|Je h rfl [.ref 0,.int x1,.int (y0-1)]<|Jb h rfl rfl<|JE h rfl rfl
theorem e2_0_29{f1 f2 xs}(h:Fy xs f1 f2)(x1 x2 y0:Int32):f2 (0,29,[.ref 0,.int x1,.int x2],[.int y0],(false,[]))=(f1 (0,292,[.ref 0,.int x1,.int x2],[],iniS iv1)).bind fun q=>f2 (0,39,[.ref 0,.int x1,.int x2,.int y0],[.ref 1],(false,[q.2])):=Je h rfl [.ref 0,.int x1,.int x2,.int y0]<|JX h rfl<|JN h rfl<|Jb h rfl rfl<|Jb h rfl rfl<|JZ h rfl rfl
theorem e2_0_39{f1 f2 xs}(h:Fy xs f1 f2)(x1 x2 x3:Int32)(S0):f2 (0,39,[.ref 0,.int x1,.int x2,.int x3],[.ref 1],(false,[S0]))=(f2 (4,0,[.ref 1,.int x3],[],(false,[S0]))).bind fun q=>f2 (0,47,[.ref 0,.int x1,.int x2,.int x3,.ref 1],q.1.toList++[],q.2):=J9 h rfl [.ref 0,.int x1,.int x2,.int x3,.ref 1]<|Jd h rfl rfl<|Jb h rfl rfl<|JE h rfl rfl
theorem e2_0_47{f1 f2 xs}(h:Fy xs f1 f2)(x1 x2 x3 y0:Int32)(S0):f2 (0,47,[.ref 0,.int x1,.int x2,.int x3,.ref 1],[.int y0],(false,[S0]))=if y0=0 then some (some (.int 0),(false,[S0])) else f2 (0,64,[.ref 0,.int x1,.int x2,.int x3,.ref 1,.int 2,.int 0,.int 0,.int 0],[],(false,[S0])):=Js h rfl (Jc h rfl k_0<|Jl h rfl) (Jc h rfl k_2<|Je h rfl [.ref 0,.int x1,.int x2,.int x3,.ref 1,.int 2]<|Jc h rfl k_0<|Je h rfl [.ref 0,.int x1,.int x2,.int x3,.ref 1,.int 2,.int 0]<|Jc h rfl k_0<|Je h rfl [.ref 0,.int x1,.int x2,.int x3,.ref 1,.int 2,.int 0,.int 0]<|Jc h rfl k_0<|Je h rfl [.ref 0,.int x1,.int x2,.int x3,.ref 1,.int 2,.int 0,.int 0,.int 0] rfl)
theorem e2_0_64{f1 f2 xs}(h:Fy xs f1 f2)(x1 x2 x3 x5 x6 x7 x8:Int32)(S0):f2 (0,64,[.ref 0,.int x1,.int x2,.int x3,.ref 1,.int x5,.int x6,.int x7,.int x8],[],(false,[S0]))=if x5<(Int32.ofNat xs.length) then if x6<64 then (f2 (1,0,[.ref 0,.int x5],[],(false,[S0]))).bind fun q=>f2 (0,84,[.ref 0,.int x1,.int x2,.int x3,.ref 1,.int x5,.int x6,.int x7,.int x8],q.1.toList++[],q.2) else some (some (.int 1),(false,[S0])) else some (some (.int 1),(false,[S0])):=Jb h rfl rfl<|Jd h rfl rfl<|J8 h rfl<|Jm h rfl (Jb h rfl rfl<|Jc h rfl k_64<|Jm h rfl (Jd h rfl rfl<|Jb h rfl rfl<|JE h rfl rfl) (Jc h rfl k_1<|JC h rfl)) (Jc h rfl k_1<|JC h rfl)
theorem e2_0_84{f1 f2 xs}(h:Fy xs f1 f2)(x1 x2 x3 x5 x6 x7 x8 y0:Int32)(S0):f2 (0,84,[.ref 0,.int x1,.int x2,.int x3,.ref 1,.int x5,.int x6,.int x7,.int x8],[.int y0],(false,[S0]))=(f2 (2,0,[.int y0,.int 10],[],(false,[S0]))).bind fun q=>f2 (0,89,[.ref 0,.int x1,.int x2,.int x3,.ref 1,.int x5,.int x6,.int x7,.int x8],q.1.toList++[],q.2):=Jc h rfl k_10<|JE h rfl rfl
theorem e2_0_89{f1 f2 xs}(h:Fy xs f1 f2)(x1 x2 x3 x5 x6 x7 x8 y0:Int32)(S0):f2 (0,89,[.ref 0,.int x1,.int x2,.int x3,.ref 1,.int x5,.int x6,.int x7,.int x8],[.int y0],(false,[S0]))=(f2 (1,0,[.ref 0,.int (x5+1)],[],(false,[S0]))).bind fun q=>f2 (0,99,[.ref 0,.int x1,.int x2,.int x3,.ref 1,.int x5,.int x6,.int x7,.int x8,.int y0],q.1.toList++[],q.2):=Je h rfl [.ref 0,.int x1,.int x2,.int x3,.ref 1,.int x5,.int x6,.int x7,.int x8,.int y0]<|Jd h rfl rfl<|Jb h rfl rfl<|Jc h rfl k_1<|Jt h rfl<|JE h rfl rfl
theorem e2_0_99{f1 f2 xs}(h:Fy xs f1 f2)(x1 x2 x3 x5 x6 x7 x8 x9 y0:Int32)(S0):f2 (0,99,[.ref 0,.int x1,.int x2,.int x3,.ref 1,.int x5,.int x6,.int x7,.int x8,.int x9],[.int y0],(false,[S0]))=(f2 (1,0,[.ref 0,.int (x5+2)],[],(false,[S0]))).bind fun q=>f2 (0,109,[.ref 0,.int x1,.int x2,.int x3,.ref 1,.int x5,.int x6,.int x7,.int x8,.int x9,.int y0],q.1.toList++[],q.2):=Je h rfl [.ref 0,.int x1,.int x2,.int x3,.ref 1,.int x5,.int x6,.int x7,.int x8,.int x9,.int y0]<|Jd h rfl rfl<|Jb h rfl rfl<|Jc h rfl k_2<|Jt h rfl<|JE h rfl rfl
theorem e2_0_109{f1 f2 xs}(h:Fy xs f1 f2)(x1 x2 x3 x5 x6 x7 x8 x9 x10 y0:Int32)(S0):f2 (0,109,[.ref 0,.int x1,.int x2,.int x3,.ref 1,.int x5,.int x6,.int x7,.int x8,.int x9,.int x10],[.int y0],(false,[S0]))=if x9=0 then (f2 (2,0,[.int x10,.int ((2*x3)+4)],[],(false,[S0]))).bind fun q=>f2 (0,134,[.ref 0,.int x1,.int x2,.int x3,.ref 1,.int (x5+4),.int (x6+1),.int x7,.int x8,.int x9,.int x10,.int y0],q.1.toList++[.ref 1],q.2) else if x9=1 then (f2 (5,0,[.int x10,.int x3],[],(false,[S0]))).bind fun q=>f2 (0,172,[.ref 0,.int x1,.int x2,.int x3,.ref 1,.int (x5+4),.int (x6+1),.int x7,.int x8,.int x9,.int x10,.int y0],q.1.toList++[.ref 1],q.2) else if x9=2 then (f1 (13,0,[.ref 0,.long (((x10).toInt64<<<((32:Int32).toInt64&&&63))|||((y0).toInt64&&&4294967295)),.null],[],S0)).bind fun q=>f2 (0,218,[.ref 0,.int x1,.int x2,.int x3,.ref 1,.int (x5+4),.int (x6+1),.int x7,.int x8,.int x9,.int x10,.int y0],q.1.toList++[],(false,[q.2])) else if x9=3 then (f1 (15,0,[.ref 0],[],S0)).bind fun q=>f2 (0,235,[.ref 0,.int x1,.int x2,.int x3,.ref 1,.int (x5+4),.int (x6+1),.int x7,.int x8,.int x9,.int x10,.int y0],q.1.toList++[],(false,[q.2])) else if x9=4 then (f2 (2,0,[.int x10,.int 300],[],(false,[S0]))).bind fun q=>f2 (0,256,[.ref 0,.int x1,.int x2,.int x3,.ref 1,.int (x5+4),.int (x6+1),.int x7,.int x8,.int x9,.int x10,.int y0],q.1.toList++[],q.2) else if x9=5 then (f2 (2,0,[.int x10,.int 12],[],(false,[S0]))).bind fun q=>f2 (0,297,[.ref 0,.int x1,.int x2,.int x3,.ref 1,.int (x5+4),.int (x6+1),.int x7,.int x8,.int x9,.int x10,.int y0],q.1.toList++[],q.2) else if x9=6 then (f2 (2,0,[.int x10,.int ((3*x3)+20)],[],(false,[S0]))).bind fun q=>f2 (0,356,[.ref 0,.int x1,.int x2,.int x3,.ref 1,.int (x5+4),.int (x6+1),.int x7,.int x8,.int x9,.int x10,.int y0],q.1.toList++[.ref 1],q.2) else (f1 (15,0,[.ref 0],[],S0)).bind fun q=>f2 (0,385,[.ref 0,.int x1,.int x2,.int x3,.ref 1,.int (x5+4),.int (x6+1),.int x7,.int x8,.int x9,.int x10,.int y0],q.1.toList++[],(false,[q.2])):=Je h rfl [.ref 0,.int x1,.int x2,.int x3,.ref 1,.int x5,.int x6,.int x7,.int x8,.int x9,.int x10,.int y0]<|Jn h rfl k_4 rfl [.ref 0,.int x1,.int x2,.int x3,.ref 1,.int (x5+4),.int x6,.int x7,.int x8,.int x9,.int x10,.int y0]<|Jn h rfl k_1 rfl [.ref 0,.int x1,.int x2,.int x3,.ref 1,.int (x5+4),.int (x6+1),.int x7,.int x8,.int x9,.int x10,.int y0]<|Jb h rfl rfl<|Js h rfl (Jd h rfl rfl<|Jb h rfl rfl<|Jc h rfl k_2<|Jb h rfl rfl<|Jz h rfl<|Jc h rfl k_4<|Jt h rfl<|JE h rfl rfl) (Jb h rfl rfl<|Jc h rfl k_1<|Jp h rfl (Jd h rfl rfl<|Jb h rfl rfl<|Jb h rfl rfl<|JE h rfl rfl) (Jb h rfl rfl<|Jc h rfl k_2<|Jp h rfl (Jd h rfl rfl<|Jb h rfl rfl<|JU h rfl<|Jc h rfl k_32<|Jai h rfl<|Jb h rfl rfl<|JU h rfl<|J4 h rfl kl_4294967295<|J6 h rfl<|Jag h rfl<|Jq h 0 rfl rfl rfl) (Jb h rfl rfl<|Jc h rfl k_3<|Jp h rfl (Jd h rfl rfl<|Jq h 0 rfl rfl rfl) (Jb h rfl rfl<|Jc h rfl k_4<|Jp h rfl (Jb h rfl rfl<|Jc h rfl k_300<|JE h rfl rfl) (Jb h rfl rfl<|Jc h rfl k_5<|Jp h rfl (Jb h rfl rfl<|Jc h rfl k_12<|JE h rfl rfl) (Jb h rfl rfl<|Jc h rfl k_6<|Jp h rfl (Jd h rfl rfl<|Jb h rfl rfl<|Jc h rfl k_3<|Jb h rfl rfl<|Jz h rfl<|Jc h rfl k_20<|Jt h rfl<|JE h rfl rfl) (Jd h rfl rfl<|Jq h 0 rfl rfl rfl)))))))
theorem e2_0_134{f1 f2 xs}(h:Fy xs f1 f2)(x1 x2 x3 x5 x6 x7 x8 x9 x10 x11 y0:Int32)(S0):f2 (0,134,[.ref 0,.int x1,.int x2,.int x3,.ref 1,.int x5,.int x6,.int x7,.int x8,.int x9,.int x10,.int x11],[.int y0,.ref 1],(false,[S0]))=(f2 (2,0,[.int x11,.int ((2*x3)+4)],[],(false,[S0]))).bind fun q=>f2 (0,146,[.ref 0,.int x1,.int x2,.int x3,.ref 1,.int x5,.int x6,.int x7,.int x8,.int x9,.int x10,.int x11],q.1.toList++[.int (y0-2),.ref 1],q.2):=Jc h rfl k_2<|JG h rfl<|Jb h rfl rfl<|Jc h rfl k_2<|Jb h rfl rfl<|Jz h rfl<|Jc h rfl k_4<|Jt h rfl<|JE h rfl rfl
theorem e2_0_146{f1 f2 xs}(h:Fy xs f1 f2)(x1 x2 x3 x5 x6 x7 x8 x9 x10 x11 y0 y1:Int32)(S0):f2 (0,146,[.ref 0,.int x1,.int x2,.int x3,.ref 1,.int x5,.int x6,.int x7,.int x8,.int x9,.int x10,.int x11],[.int y0,.int y1,.ref 1],(false,[S0]))=(f1 (5,0,[.ref 0,.int y1,.int (y0-2)],[],S0)).bind fun q=>f2 (0,151,[.ref 0,.int x1,.int x2,.int x3,.ref 1,.int x5,.int x6,.int x7,.int x8,.int x9,.int x10,.int x11],q.1.toList++[],(false,[q.2])):=Jc h rfl k_2<|JG h rfl<|Jq h 0 rfl rfl rfl
theorem e2_0_151{f1 f2 xs}(h:Fy xs f1 f2)(x1 x2 x3 x5 x6 x7 x8 x9 x10 x11 y0:Int32)(S0):f2 (0,151,[.ref 0,.int x1,.int x2,.int x3,.ref 1,.int x5,.int x6,.int x7,.int x8,.int x9,.int x10,.int x11],[.int y0],(false,[S0]))=(f2 (4,0,[.ref 1,.int x3],[],(false,[S0]))).bind fun q=>f2 (0,437,[.ref 0,.int x1,.int x2,.int x3,.ref 1,.int x5,.int x6,.int 0,.int x8,.int x9,.int x10,.int x11],q.1.toList++[],q.2):=JM h rfl<|Jc h rfl k_0<|Je h rfl [.ref 0,.int x1,.int x2,.int x3,.ref 1,.int x5,.int x6,.int 0,.int x8,.int x9,.int x10,.int x11]<|Jh h rfl<|Jd h rfl rfl<|Jb h rfl rfl<|JE h rfl rfl
theorem e2_0_172{f1 f2 xs}(h:Fy xs f1 f2)(x1 x2 x3 x5 x6 x7 x8 x9 x10 x11 y0:Int32)(S0):f2 (0,172,[.ref 0,.int x1,.int x2,.int x3,.ref 1,.int x5,.int x6,.int x7,.int x8,.int x9,.int x10,.int x11],[.int y0,.ref 1],(false,[S0]))=(f2 (7,0,[.int x3],[],(false,[S0]))).bind fun q=>f2 (0,178,[.ref 0,.int x1,.int x2,.int x3,.ref 1,.int x5,.int x6,.int x7,.int x8,.int x9,.int x10,.int x11],q.1.toList++[.int x11,.int y0,.ref 1],q.2):=Jb h rfl rfl<|Jb h rfl rfl<|JE h rfl rfl
theorem e2_0_178{f1 f2 xs}(h:Fy xs f1 f2)(x1 x2 x3 x5 x6 x7 x8 x9 x10 x11 y0 y1 y2:Int32)(S0):f2 (0,178,[.ref 0,.int x1,.int x2,.int x3,.ref 1,.int x5,.int x6,.int x7,.int x8,.int x9,.int x10,.int x11],[.int y0,.int y1,.int y2,.ref 1],(false,[S0]))=(f2 (2,0,[.int (y1*y0),.int x3],[],(false,[S0]))).bind fun q=>f2 (0,183,[.ref 0,.int x1,.int x2,.int x3,.ref 1,.int x5,.int x6,.int x7,.int x8,.int x9,.int x10,.int x11],q.1.toList++[.int y2,.ref 1],q.2):=Jz h rfl<|Jb h rfl rfl<|JE h rfl rfl
theorem e2_0_183{f1 f2 xs}(h:Fy xs f1 f2)(x1 x2 x3 x5 x6 x7 x8 x9 x10 x11 y0 y1:Int32)(S0):f2 (0,183,[.ref 0,.int x1,.int x2,.int x3,.ref 1,.int x5,.int x6,.int x7,.int x8,.int x9,.int x10,.int x11],[.int y0,.int y1,.ref 1],(false,[S0]))=(f1 (5,0,[.ref 0,.int y1,.int y0],[],S0)).bind fun q=>f2 (0,186,[.ref 0,.int x1,.int x2,.int x3,.ref 1,.int x5,.int x6,.int x7,.int x8,.int x9,.int x10,.int x11],q.1.toList++[],(false,[q.2])):=Jq h 0 rfl rfl rfl
theorem e2_0_186{f1 f2 xs}(h:Fy xs f1 f2)(x1 x2 x3 x5 x6 x7 x8 x9 x10 x11 y0:Int32)(S0):f2 (0,186,[.ref 0,.int x1,.int x2,.int x3,.ref 1,.int x5,.int x6,.int x7,.int x8,.int x9,.int x10,.int x11],[.int y0],(false,[S0]))=(f2 (4,0,[.ref 1,.int x3],[],(false,[S0]))).bind fun q=>f2 (0,437,[.ref 0,.int x1,.int x2,.int x3,.ref 1,.int x5,.int x6,.int 0,.int x8,.int x9,.int x10,.int x11],q.1.toList++[],q.2):=JM h rfl<|Jc h rfl k_0<|Je h rfl [.ref 0,.int x1,.int x2,.int x3,.ref 1,.int x5,.int x6,.int 0,.int x8,.int x9,.int x10,.int x11]<|Jh h rfl<|Jd h rfl rfl<|Jb h rfl rfl<|JE h rfl rfl
theorem e2_0_218{f1 f2 xs}(h:Fy xs f1 f2)(x1 x2 x3 x5 x6 x7 x8 x9 x10 x11:Int32)(S0):f2 (0,218,[.ref 0,.int x1,.int x2,.int x3,.ref 1,.int x5,.int x6,.int x7,.int x8,.int x9,.int x10,.int x11],[],(false,[S0]))=(f2 (4,0,[.ref 1,.int x3],[],(false,[S0]))).bind fun q=>f2 (0,437,[.ref 0,.int x1,.int x2,.int x3,.ref 1,.int x5,.int x6,.int 0,.int x8,.int x9,.int x10,.int x11],q.1.toList++[],q.2):=Jc h rfl k_0<|Je h rfl [.ref 0,.int x1,.int x2,.int x3,.ref 1,.int x5,.int x6,.int 0,.int x8,.int x9,.int x10,.int x11]<|Jh h rfl<|Jd h rfl rfl<|Jb h rfl rfl<|JE h rfl rfl
theorem e2_0_235{f1 f2 xs}(h:Fy xs f1 f2)(x1 x2 x3 x5 x6 x7 x8 x9 x10 x11 y0:Int32)(S0):f2 (0,235,[.ref 0,.int x1,.int x2,.int x3,.ref 1,.int x5,.int x6,.int x7,.int x8,.int x9,.int x10,.int x11],[.int y0],(false,[S0]))=(f2 (4,0,[.ref 1,.int x3],[],(false,[S0]))).bind fun q=>f2 (0,437,[.ref 0,.int x1,.int x2,.int x3,.ref 1,.int x5,.int x6,.int 1,.int x8,.int x9,.int x10,.int x11],q.1.toList++[],q.2):=JM h rfl<|Jc h rfl k_1<|Je h rfl [.ref 0,.int x1,.int x2,.int x3,.ref 1,.int x5,.int x6,.int 1,.int x8,.int x9,.int x10,.int x11]<|Jh h rfl<|Jd h rfl rfl<|Jb h rfl rfl<|JE h rfl rfl
theorem e2_0_256{f1 f2 xs}(h:Fy xs f1 f2)(x1 x2 x3 x5 x6 x7 x8 x9 x10 x11 y0:Int32)(S0):f2 (0,256,[.ref 0,.int x1,.int x2,.int x3,.ref 1,.int x5,.int x6,.int x7,.int x8,.int x9,.int x10,.int x11],[.int y0],(false,[S0]))=(f1 (27,0,[.ref 0,.int (y0-50)],[],S0)).bind fun q=>f2 (0,268,[.ref 0,.int x1,.int x2,.int x3,.ref 1,.int x5,.int x6,.int x7,.int (y0-50),.int x9,.int x10,.int x11],q.1.toList++[],(false,[q.2])):=Jc h rfl k_50<|JG h rfl<|Je h rfl [.ref 0,.int x1,.int x2,.int x3,.ref 1,.int x5,.int x6,.int x7,.int (y0-50),.int x9,.int x10,.int x11]<|Jd h rfl rfl<|Jb h rfl rfl<|Jq h 0 rfl rfl rfl
theorem e2_0_268{f1 f2 xs}(h:Fy xs f1 f2)(x1 x2 x3 x5 x6 x7 x8 x9 x10 x11:Int32)(S0):f2 (0,268,[.ref 0,.int x1,.int x2,.int x3,.ref 1,.int x5,.int x6,.int x7,.int x8,.int x9,.int x10,.int x11],[],(false,[S0]))=if x7=1 then (f2 (4,0,[.ref 1,.int x3],[],(false,[S0]))).bind fun q=>f2 (0,437,[.ref 0,.int x1,.int x2,.int x3,.ref 1,.int x5,.int x6,.int 2,.int x8,.int x9,.int x10,.int x11],q.1.toList++[],q.2) else (f2 (4,0,[.ref 1,.int x3],[],(false,[S0]))).bind fun q=>f2 (0,437,[.ref 0,.int x1,.int x2,.int x3,.ref 1,.int x5,.int x6,.int 0,.int x8,.int x9,.int x10,.int x11],q.1.toList++[],q.2):=Jb h rfl rfl<|Jc h rfl k_1<|Jp h rfl (Jc h rfl k_2<|Jh h rfl<|Je h rfl [.ref 0,.int x1,.int x2,.int x3,.ref 1,.int x5,.int x6,.int 2,.int x8,.int x9,.int x10,.int x11]<|Jh h rfl<|Jd h rfl rfl<|Jb h rfl rfl<|JE h rfl rfl) (Jc h rfl k_0<|Je h rfl [.ref 0,.int x1,.int x2,.int x3,.ref 1,.int x5,.int x6,.int 0,.int x8,.int x9,.int x10,.int x11]<|Jh h rfl<|Jd h rfl rfl<|Jb h rfl rfl<|JE h rfl rfl)
theorem e2_0_297{f1 f2 xs}(h:Fy xs f1 f2)(x1 x2 x3 x5 x6 x7 x8 x9 x10 x11 y0:Int32)(S0):f2 (0,297,[.ref 0,.int x1,.int x2,.int x3,.ref 1,.int x5,.int x6,.int x7,.int x8,.int x9,.int x10,.int x11],[.int y0],(false,[S0]))=if x7=2 then (f2 (8,0,[.ref 1,.int x3,.int x8,.int (y0-2)],[],(false,[S0]))).bind fun q=>f2 (0,317,[.ref 0,.int x1,.int x2,.int x3,.ref 1,.int x5,.int x6,.int x7,.int x8,.int x9,.int x10,.int x11,.int (y0-2)],q.1.toList++[],q.2) else (f1 (30,0,[.ref 0,.int (y0-2)],[],S0)).bind fun q=>f2 (0,329,[.ref 0,.int x1,.int x2,.int x3,.ref 1,.int x5,.int x6,.int x7,.int x8,.int x9,.int x10,.int x11,.int (y0-2)],q.1.toList++[],(false,[q.2])):=Jc h rfl k_2<|JG h rfl<|Je h rfl [.ref 0,.int x1,.int x2,.int x3,.ref 1,.int x5,.int x6,.int x7,.int x8,.int x9,.int x10,.int x11,.int (y0-2)]<|Jb h rfl rfl<|Jc h rfl k_2<|Jp h rfl (Jd h rfl rfl<|Jb h rfl rfl<|Jb h rfl rfl<|Jb h rfl rfl<|JE h rfl rfl) (Jd h rfl rfl<|Jb h rfl rfl<|Jq h 0 rfl rfl rfl)
theorem e2_0_317{f1 f2 xs}(h:Fy xs f1 f2)(x1 x2 x3 x5 x6 x7 x8 x9 x10 x11 x12 y0:Int32)(S0):f2 (0,317,[.ref 0,.int x1,.int x2,.int x3,.ref 1,.int x5,.int x6,.int x7,.int x8,.int x9,.int x10,.int x11,.int x12],[.int y0],(false,[S0]))=if y0=0 then some (some (.int 0),(false,[S0])) else (f2 (4,0,[.ref 1,.int x3],[],(false,[S0]))).bind fun q=>f2 (0,437,[.ref 0,.int x1,.int x2,.int x3,.ref 1,.int x5,.int x6,.int 0,.int x8,.int x9,.int x10,.int x11],q.1.toList++[],q.2):=Js h rfl (Jc h rfl k_0<|Jl h rfl) (Jc h rfl k_0<|Je h rfl [.ref 0,.int x1,.int x2,.int x3,.ref 1,.int x5,.int x6,.int 0,.int x8,.int x9,.int x10,.int x11,.int x12]<|Jh h rfl<|Jr h rfl<|Jd h rfl rfl<|Jb h rfl rfl<|JE h rfl rfl)
theorem e2_0_329{f1 f2 xs}(h:Fy xs f1 f2)(x1 x2 x3 x5 x6 x7 x8 x9 x10 x11 x12 y0:Int32)(S0):f2 (0,329,[.ref 0,.int x1,.int x2,.int x3,.ref 1,.int x5,.int x6,.int x7,.int x8,.int x9,.int x10,.int x11,.int x12],[.int y0],(false,[S0]))=(f2 (4,0,[.ref 1,.int x3],[],(false,[S0]))).bind fun q=>f2 (0,437,[.ref 0,.int x1,.int x2,.int x3,.ref 1,.int x5,.int x6,.int 0,.int x8,.int x9,.int x10,.int x11],q.1.toList++[],q.2):=JM h rfl<|Jc h rfl k_0<|Je h rfl [.ref 0,.int x1,.int x2,.int x3,.ref 1,.int x5,.int x6,.int 0,.int x8,.int x9,.int x10,.int x11,.int x12]<|Jh h rfl<|Jr h rfl<|Jd h rfl rfl<|Jb h rfl rfl<|JE h rfl rfl
theorem e2_0_356{f1 f2 xs}(h:Fy xs f1 f2)(x1 x2 x3 x5 x6 x7 x8 x9 x10 x11 y0:Int32)(S0):f2 (0,356,[.ref 0,.int x1,.int x2,.int x3,.ref 1,.int x5,.int x6,.int x7,.int x8,.int x9,.int x10,.int x11],[.int y0,.ref 1],(false,[S0]))=(f2 (2,0,[.int x11,.int 400],[],(false,[S0]))).bind fun q=>f2 (0,366,[.ref 0,.int x1,.int x2,.int x3,.ref 1,.int x5,.int x6,.int x7,.int x8,.int x9,.int x10,.int x11],q.1.toList++[.int (y0-4),.ref 1],q.2):=Jc h rfl k_4<|JG h rfl<|Jb h rfl rfl<|Jc h rfl k_400<|JE h rfl rfl
theorem e2_0_366{f1 f2 xs}(h:Fy xs f1 f2)(x1 x2 x3 x5 x6 x7 x8 x9 x10 x11 y0 y1:Int32)(S0):f2 (0,366,[.ref 0,.int x1,.int x2,.int x3,.ref 1,.int x5,.int x6,.int x7,.int x8,.int x9,.int x10,.int x11],[.int y0,.int y1,.ref 1],(false,[S0]))=(f1 (28,0,[.ref 0,.int y1,.int (y0-200)],[],S0)).bind fun q=>f2 (0,373,[.ref 0,.int x1,.int x2,.int x3,.ref 1,.int x5,.int x6,.int x7,.int x8,.int x9,.int x10,.int x11],q.1.toList++[],(false,[q.2])):=Jc h rfl k_200<|JG h rfl<|Jq h 0 rfl rfl rfl
theorem e2_0_373{f1 f2 xs}(h:Fy xs f1 f2)(x1 x2 x3 x5 x6 x7 x8 x9 x10 x11 y0:Int32)(S0):f2 (0,373,[.ref 0,.int x1,.int x2,.int x3,.ref 1,.int x5,.int x6,.int x7,.int x8,.int x9,.int x10,.int x11],[.int y0],(false,[S0]))=(f2 (4,0,[.ref 1,.int x3],[],(false,[S0]))).bind fun q=>f2 (0,437,[.ref 0,.int x1,.int x2,.int x3,.ref 1,.int x5,.int x6,.int 0,.int x8,.int x9,.int x10,.int x11],q.1.toList++[],q.2):=JM h rfl<|Jc h rfl k_0<|Je h rfl [.ref 0,.int x1,.int x2,.int x3,.ref 1,.int x5,.int x6,.int 0,.int x8,.int x9,.int x10,.int x11]<|Jh h rfl<|Jd h rfl rfl<|Jb h rfl rfl<|JE h rfl rfl
theorem e2_0_385{f1 f2 xs}(h:Fy xs f1 f2)(x1 x2 x3 x5 x6 x7 x8 x9 x10 x11 y0:Int32)(S0):f2 (0,385,[.ref 0,.int x1,.int x2,.int x3,.ref 1,.int x5,.int x6,.int x7,.int x8,.int x9,.int x10,.int x11],[.int y0],(false,[S0]))=(f2 (2,0,[.int x10,.int 300],[],(false,[S0]))).bind fun q=>f2 (0,394,[.ref 0,.int x1,.int x2,.int x3,.ref 1,.int x5,.int x6,.int x7,.int x8,.int x9,.int x10,.int x11],q.1.toList++[],q.2):=JM h rfl<|Jb h rfl rfl<|Jc h rfl k_300<|JE h rfl rfl
theorem e2_0_394{f1 f2 xs}(h:Fy xs f1 f2)(x1 x2 x3 x5 x6 x7 x8 x9 x10 x11 y0:Int32)(S0):f2 (0,394,[.ref 0,.int x1,.int x2,.int x3,.ref 1,.int x5,.int x6,.int x7,.int x8,.int x9,.int x10,.int x11],[.int y0],(false,[S0]))=(f1 (27,0,[.ref 0,.int (y0-50)],[],S0)).bind fun q=>f2 (0,406,[.ref 0,.int x1,.int x2,.int x3,.ref 1,.int x5,.int x6,.int x7,.int (y0-50),.int x9,.int x10,.int x11],q.1.toList++[],(false,[q.2])):=Jc h rfl k_50<|JG h rfl<|Je h rfl [.ref 0,.int x1,.int x2,.int x3,.ref 1,.int x5,.int x6,.int x7,.int (y0-50),.int x9,.int x10,.int x11]<|Jd h rfl rfl<|Jb h rfl rfl<|Jq h 0 rfl rfl rfl
theorem e2_0_406{f1 f2 xs}(h:Fy xs f1 f2)(x1 x2 x3 x5 x6 x7 x8 x9 x10 x11:Int32)(S0):f2 (0,406,[.ref 0,.int x1,.int x2,.int x3,.ref 1,.int x5,.int x6,.int x7,.int x8,.int x9,.int x10,.int x11],[],(false,[S0]))=(f2 (2,0,[.int x11,.int 12],[],(false,[S0]))).bind fun q=>f2 (0,418,[.ref 0,.int x1,.int x2,.int x3,.ref 1,.int x5,.int x6,.int x7,.int x8,.int x9,.int x10,.int x11],q.1.toList++[.int x8,.int x3,.ref 1],q.2):=Jd h rfl rfl<|Jb h rfl rfl<|Jb h rfl rfl<|Jb h rfl rfl<|Jc h rfl k_12<|JE h rfl rfl
theorem e2_0_418{f1 f2 xs}(h:Fy xs f1 f2)(x1 x2 x3 x5 x6 x7 x8 x9 x10 x11 y0 y1 y2:Int32)(S0):f2 (0,418,[.ref 0,.int x1,.int x2,.int x3,.ref 1,.int x5,.int x6,.int x7,.int x8,.int x9,.int x10,.int x11],[.int y0,.int y1,.int y2,.ref 1],(false,[S0]))=(f2 (8,0,[.ref 1,.int y2,.int y1,.int (y0-2)],[],(false,[S0]))).bind fun q=>f2 (0,423,[.ref 0,.int x1,.int x2,.int x3,.ref 1,.int x5,.int x6,.int x7,.int x8,.int x9,.int x10,.int x11],q.1.toList++[],q.2):=Jc h rfl k_2<|JG h rfl<|JE h rfl rfl
theorem e2_0_423{f1 f2 xs}(h:Fy xs f1 f2)(x1 x2 x3 x5 x6 x7 x8 x9 x10 x11 y0:Int32)(S0):f2 (0,423,[.ref 0,.int x1,.int x2,.int x3,.ref 1,.int x5,.int x6,.int x7,.int x8,.int x9,.int x10,.int x11],[.int y0],(false,[S0]))=if y0=0 then some (some (.int 0),(false,[S0])) else (f2 (4,0,[.ref 1,.int x3],[],(false,[S0]))).bind fun q=>f2 (0,437,[.ref 0,.int x1,.int x2,.int x3,.ref 1,.int x5,.int x6,.int 0,.int x8,.int x9,.int x10,.int x11],q.1.toList++[],q.2):=Js h rfl (Jc h rfl k_0<|Jl h rfl) (Jc h rfl k_0<|Je h rfl [.ref 0,.int x1,.int x2,.int x3,.ref 1,.int x5,.int x6,.int 0,.int x8,.int x9,.int x10,.int x11]<|Jd h rfl rfl<|Jb h rfl rfl<|JE h rfl rfl)
theorem e2_0_437{f1 f2 xs}(h:Fy xs f1 f2)(x1 x2 x3 x5 x6 x7 x8 x9 x10 x11 y0:Int32)(S0):f2 (0,437,[.ref 0,.int x1,.int x2,.int x3,.ref 1,.int x5,.int x6,.int x7,.int x8,.int x9,.int x10,.int x11],[.int y0],(false,[S0]))=if y0=0 then some (some (.int 0),(false,[S0])) else f2 (0,64,[.ref 0,.int x1,.int x2,.int x3,.ref 1,.int x5,.int x6,.int x7,.int x8],[],(false,[S0])):=Js h rfl (Jc h rfl k_0<|Jl h rfl) (Jh h rfl<|Jr h rfl rfl)
theorem e2_1_0{f1 f2 xs}(h:Fy xs f1 f2)(x1:Int32)(ob:List MS):f2 (1,0,[.ref 0,.int x1],[],(false,ob))=if x1<(Int32.ofNat xs.length) then if inb x1 xs.length=true then some (some (.int (xs.getD (x1).toNatClampNeg 0)),(false,ob)) else none else some (some (.int 0),(false,ob)):=Jb h rfl rfl<|Jd h rfl rfl<|J8 h rfl<|Jm h rfl (Jd h rfl rfl<|Jb h rfl rfl<|JR h rfl fun _=>Jh h rfl<|Ji h rfl) (Jc h rfl k_0<|Ji h rfl)
theorem e2_2_0{f1 f2 xs}(h:Fy xs f1 f2)(x0 x1:Int32)(hz_x1:x1≠0)(ob:List MS):f2 (2,0,[.int x0,.int x1],[],(false,ob))=if (x0%x1)<0 then some (some (.int ((x0%x1)+x1)),(false,ob)) else some (some (.int (x0%x1)),(false,ob)):=Jb h rfl rfl<|Jb h rfl rfl<|JW h rfl hz_x1<|Je h rfl [.int x0,.int x1,.int (x0%x1)]<|Jb h rfl rfl<|JP h rfl (Jb h rfl rfl<|Jb h rfl rfl<|Jt h rfl<|Jh h rfl<|Ji h rfl) (Jb h rfl rfl<|Ji h rfl)
theorem e2_3_0{f1 f2 xs}(h:Fy xs f1 f2)(x0:Int32)(ob:List MS):f2 (3,0,[.int x0],[],(false,ob))=if x0<8 then f2 (3,9,[.int 8],[],(false,ob)) else f2 (3,9,[.int x0],[],(false,ob)):=Jb h rfl rfl<|Jc h rfl k_8<|Jm h rfl (Jc h rfl k_8<|Je h rfl [.int 8] rfl) rfl
theorem e2_3_9{f1 f2 xs}(h:Fy xs f1 f2)(x0:Int32)(ob:List MS):f2 (3,9,[.int x0],[],(false,ob))=if 64<x0 then some (some (.int (64-(64%8))),(false,ob)) else some (some (.int (x0-(x0%8))),(false,ob)):=Jb h rfl rfl<|Jc h rfl k_64<|JO h rfl (Jc h rfl k_64<|Je h rfl [.int 64]<|Jb h rfl rfl<|Jb h rfl rfl<|Jc h rfl k_8<|JW h rfl (by decide)<|JG h rfl<|Ji h rfl) (Jb h rfl rfl<|Jb h rfl rfl<|Jc h rfl k_8<|JW h rfl (by decide)<|JG h rfl<|Ji h rfl)
theorem e2_4_0{f1 f2 xs}(h:Fy xs f1 f2)(x1:Int32)(ob:List MS)(o0:Nat):f2 (4,0,[.ref (o0+1),.int x1],[],(false,ob))=f2 (4,2,[.ref (o0+1),.int x1,.int 0],[],(false,ob)):=Jc h rfl k_0<|Je h rfl [.ref (o0+1),.int x1,.int 0] rfl
theorem e2_4_2{f1 f2 xs}(h:Fy xs f1 f2)(x1 x2:Int32)(ob:List MS)(o0:Nat)(A0:MS)(ho0:ob[o0]? = some A0):f2 (4,2,[.ref (o0+1),.int x1,.int x2],[],(false,ob))=if x2<x1 then (f1 (6,0,[.ref 0,.int x2],[],A0)).bind fun q=>f2 (4,12,[.ref (o0+1),.int x1,.int x2],q.1.toList++[],(false,ob.set o0 q.2)) else some (some (.int 1),(false,ob)):=Jb h rfl rfl<|Jb h rfl rfl<|Jm h rfl (Jd h rfl rfl<|Jb h rfl rfl<|Jq h _ rfl rfl ho0) (Jc h rfl k_1<|JC h rfl)
theorem e2_4_12{f1 f2 xs}(h:Fy xs f1 f2)(x1 x2 y0:Int32)(ob:List MS)(o0:Nat)(A0:MS)(ho0:ob[o0]? = some A0):f2 (4,12,[.ref (o0+1),.int x1,.int x2],[.int y0],(false,ob))=if y0<0 then some (some (.int 0),(false,ob)) else if y0<x1 then (f1 (7,0,[.ref 0,.int y0],[],A0)).bind fun q=>f2 (4,29,[.ref (o0+1),.int x1,.int x2,.int y0],q.1.toList++[],(false,ob.set o0 q.2)) else some (some (.int 0),(false,ob)):=Je h rfl [.ref (o0+1),.int x1,.int x2,.int y0]<|Jb h rfl rfl<|JB h rfl (Jc h rfl k_0<|Jl h rfl) (Jb h rfl rfl<|Jb h rfl rfl<|JJ h rfl (Jd h rfl rfl<|Jb h rfl rfl<|Jq h _ rfl rfl ho0) (Jc h rfl k_0<|Jl h rfl))
theorem e2_4_29{f1 f2 xs}(h:Fy xs f1 f2)(x1 x2 x3 y0:Int32)(ob:List MS)(o0:Nat)(A0:MS)(ho0:ob[o0]? = some A0):f2 (4,29,[.ref (o0+1),.int x1,.int x2,.int x3],[.int y0],(false,ob))=if y0=x2 then (f1 (7,0,[.ref 0,.int x2],[],A0)).bind fun q=>f2 (4,40,[.ref (o0+1),.int x1,.int x2,.int x3],q.1.toList++[],(false,ob.set o0 q.2)) else some (some (.int 0),(false,ob)):=Jb h rfl rfl<|JA h rfl (Jd h rfl rfl<|Jb h rfl rfl<|Jq h _ rfl rfl ho0) (Jc h rfl k_0<|Jl h rfl)
theorem e2_4_40{f1 f2 xs}(h:Fy xs f1 f2)(x1 x2 x3 y0:Int32)(ob:List MS)(o0:Nat)(A0:MS)(ho0:ob[o0]? = some A0):f2 (4,40,[.ref (o0+1),.int x1,.int x2,.int x3],[.int y0],(false,ob))=if y0<0 then some (some (.int 0),(false,ob)) else if y0<x1 then (f1 (6,0,[.ref 0,.int y0],[],A0)).bind fun q=>f2 (4,61,[.ref (o0+1),.int x1,.int x2,.int x3,.int y0],q.1.toList++[],(false,ob.set o0 q.2)) else some (some (.int 0),(false,ob)):=Je h rfl [.ref (o0+1),.int x1,.int x2,.int x3,.int y0]<|Jb h rfl rfl<|JB h rfl (Jc h rfl k_0<|Jl h rfl) (Jb h rfl rfl<|Jb h rfl rfl<|JJ h rfl (Jd h rfl rfl<|Jb h rfl rfl<|Jq h _ rfl rfl ho0) (Jc h rfl k_0<|Jl h rfl))
theorem e2_4_61{f1 f2 xs}(h:Fy xs f1 f2)(x1 x2 x3 x4 y0:Int32)(ob:List MS)(o0:Nat):f2 (4,61,[.ref (o0+1),.int x1,.int x2,.int x3,.int x4],[.int y0],(false,ob))=if y0=x2 then f2 (4,2,[.ref (o0+1),.int x1,.int (x2+1)],[],(false,ob)) else some (some (.int 0),(false,ob)):=Jb h rfl rfl<|JA h rfl (Jn h rfl k_1 rfl [.ref (o0+1),.int x1,.int (x2+1),.int x3,.int x4]<|Jh h rfl<|Jr h rfl rfl) (Jc h rfl k_0<|Jl h rfl)
theorem e2_5_0{f1 f2 xs}(h:Fy xs f1 f2)(x0 x1:Int32)(ob:List MS):f2 (5,0,[.int x0,.int x1],[],(false,ob))=(f2 (2,0,[.int ((2*x0)+1),.int x1],[],(false,ob))).bind fun q=>f2 (5,9,[.int x0,.int x1],q.1.toList++[],q.2):=Jc h rfl k_2<|Jb h rfl rfl<|Jz h rfl<|Jc h rfl k_1<|Jt h rfl<|Jb h rfl rfl<|JE h rfl rfl
theorem e2_5_9{f1 f2 xs}(h:Fy xs f1 f2)(x0 x1 y0:Int32)(ob:List MS):f2 (5,9,[.int x0,.int x1],[.int y0],(false,ob))=f2 (5,12,[.int x0,.int x1,.int y0,.int 0],[],(false,ob)):=Je h rfl [.int x0,.int x1,.int y0]<|Jc h rfl k_0<|Je h rfl [.int x0,.int x1,.int y0,.int 0] rfl
theorem e2_5_12{f1 f2 xs}(h:Fy xs f1 f2)(x0 x1 x2 x3:Int32)(ob:List MS):f2 (5,12,[.int x0,.int x1,.int x2,.int x3],[],(false,ob))=if x3<x1 then (f2 (6,0,[.int x2,.int x1],[],(false,ob))).bind fun q=>f2 (5,22,[.int x0,.int x1,.int x2,.int x3],q.1.toList++[],q.2) else some (some (.int x2),(false,ob)):=Jb h rfl rfl<|Jb h rfl rfl<|Jm h rfl (Jb h rfl rfl<|Jb h rfl rfl<|JE h rfl rfl) (Jb h rfl rfl<|Ji h rfl)
theorem e2_5_22{f1 f2 xs}(h:Fy xs f1 f2)(x0 x1 x2 x3 y0:Int32)(hz_x1:x1≠0)(ob:List MS):f2 (5,22,[.int x0,.int x1,.int x2,.int x3],[.int y0],(false,ob))=if y0=0 then f2 (5,12,[.int x0,.int x1,.int ((x2+2)%x1),.int (x3+1)],[],(false,ob)) else some (some (.int x2),(false,ob)):=Js h rfl (Jb h rfl rfl<|Jc h rfl k_2<|Jt h rfl<|Jb h rfl rfl<|JW h rfl hz_x1<|Je h rfl [.int x0,.int x1,.int ((x2+2)%x1),.int x3]<|Jn h rfl k_1 rfl [.int x0,.int x1,.int ((x2+2)%x1),.int (x3+1)]<|Jh h rfl rfl) (Jb h rfl rfl<|Ji h rfl)
theorem e2_6_0{f1 f2 xs}(h:Fy xs f1 f2)(x0 x1:Int32)(ob:List MS):f2 (6,0,[.int x0,.int x1],[],(false,ob))=if (x0%2)=0 then some (some (.int 0),(false,ob)) else if (x1%3)=0 then if (x0%3)=0 then some (some (.int 0),(false,ob)) else f2 (6,22,[.int x0,.int x1],[],(false,ob)) else f2 (6,22,[.int x0,.int x1],[],(false,ob)):=Jb h rfl rfl<|Jc h rfl k_2<|JW h rfl (by decide)<|Js h rfl (Jc h rfl k_0<|Jl h rfl) (Jb h rfl rfl<|Jc h rfl k_3<|JW h rfl (by decide)<|Js h rfl (Jb h rfl rfl<|Jc h rfl k_3<|JW h rfl (by decide)<|Js h rfl (Jc h rfl k_0<|Jl h rfl) rfl) rfl)
theorem e2_6_22{f1 f2 xs}(h:Fy xs f1 f2)(x0 x1:Int32)(ob:List MS):f2 (6,22,[.int x0,.int x1],[],(false,ob))=if (x1%5)=0 then if (x0%5)=0 then some (some (.int 0),(false,ob)) else f2 (6,36,[.int x0,.int x1],[],(false,ob)) else f2 (6,36,[.int x0,.int x1],[],(false,ob)):=Jb h rfl rfl<|Jc h rfl k_5<|JW h rfl (by decide)<|Js h rfl (Jb h rfl rfl<|Jc h rfl k_5<|JW h rfl (by decide)<|Js h rfl (Jc h rfl k_0<|Jl h rfl) rfl) rfl
theorem e2_6_36{f1 f2 xs}(h:Fy xs f1 f2)(x0 x1:Int32)(ob:List MS):f2 (6,36,[.int x0,.int x1],[],(false,ob))=if (x1%7)=0 then if (x0%7)=0 then some (some (.int 0),(false,ob)) else some (some (.int 1),(false,ob)) else some (some (.int 1),(false,ob)):=Jb h rfl rfl<|Jc h rfl k_7<|JW h rfl (by decide)<|Js h rfl (Jb h rfl rfl<|Jc h rfl k_7<|JW h rfl (by decide)<|Js h rfl (Jc h rfl k_0<|Jl h rfl) (Jc h rfl k_1<|JC h rfl)) (Jc h rfl k_1<|JC h rfl)
theorem e2_7_0{f1 f2 xs}(h:Fy xs f1 f2)(x0:Int32)(ob:List MS):f2 (7,0,[.int x0],[],(false,ob))=if (x0%3)=0 then f2 (7,12,[.int x0,.int (2*3)],[],(false,ob)) else f2 (7,12,[.int x0,.int 2],[],(false,ob)):=Jc h rfl k_2<|Je h rfl [.int x0,.int 2]<|Jb h rfl rfl<|Jc h rfl k_3<|JW h rfl (by decide)<|Js h rfl (Jb h rfl rfl<|Jc h rfl k_3<|Jz h rfl<|Je h rfl [.int x0,.int (2*3)] rfl) rfl
theorem e2_7_12{f1 f2 xs}(h:Fy xs f1 f2)(x0 x1:Int32)(ob:List MS):f2 (7,12,[.int x0,.int x1],[],(false,ob))=if (x0%5)=0 then f2 (7,22,[.int x0,.int (x1*5)],[],(false,ob)) else f2 (7,22,[.int x0,.int x1],[],(false,ob)):=Jb h rfl rfl<|Jc h rfl k_5<|JW h rfl (by decide)<|Js h rfl (Jb h rfl rfl<|Jc h rfl k_5<|Jz h rfl<|Je h rfl [.int x0,.int (x1*5)] rfl) rfl
theorem e2_7_22{f1 f2 xs}(h:Fy xs f1 f2)(x0 x1:Int32)(ob:List MS):f2 (7,22,[.int x0,.int x1],[],(false,ob))=if (x0%7)=0 then some (some (.int (x1*7)),(false,ob)) else some (some (.int x1),(false,ob)):=Jb h rfl rfl<|Jc h rfl k_7<|JW h rfl (by decide)<|Js h rfl (Jb h rfl rfl<|Jc h rfl k_7<|Jz h rfl<|Je h rfl [.int x0,.int (x1*7)]<|Jb h rfl rfl<|Ji h rfl) (Jb h rfl rfl<|Ji h rfl)
theorem e2_8_0{f1 f2 xs}(h:Fy xs f1 f2)(x1 x2 x3:Int32)(ob:List MS)(o0:Nat):f2 (8,0,[.ref (o0+1),.int x1,.int x2,.int x3],[],(false,ob))=(f2 (9,0,[.int x2],[],(false,ob))).bind fun q=>f2 (8,4,[.ref (o0+1),.int x1,.int x2,.int x3],q.1.toList++[],q.2):=Jb h rfl rfl<|JE h rfl rfl
theorem e2_8_4{f1 f2 xs}(h:Fy xs f1 f2)(x1 x2 x3 y0:Int32)(ob:List MS)(o0:Nat)(A0:MS)(ho0:ob[o0]? = some A0):f2 (8,4,[.ref (o0+1),.int x1,.int x2,.int x3],[.int y0],(false,ob))=(f1 (30,0,[.ref 0,.int x3],[],A0)).bind fun q=>f2 (8,11,[.ref (o0+1),.int x1,.int x2,.int x3,.int y0],q.1.toList++[],(false,ob.set o0 q.2)):=Je h rfl [.ref (o0+1),.int x1,.int x2,.int x3,.int y0]<|Jd h rfl rfl<|Jb h rfl rfl<|Jq h _ rfl rfl ho0
theorem e2_8_11{f1 f2 xs}(h:Fy xs f1 f2)(x1 x2 x3 x4 y0:Int32)(ob:List MS)(o0:Nat):f2 (8,11,[.ref (o0+1),.int x1,.int x2,.int x3,.int x4],[.int y0],(false,ob))=if y0=0 then f2 (8,19,[.ref (o0+1),.int x1,.int x2,.int x3,.int x4,.int 0],[],(false,ob)) else some (some (.int 0),(false,ob)):=Jy h rfl (Jc h rfl k_0<|Je h rfl [.ref (o0+1),.int x1,.int x2,.int x3,.int x4,.int 0] rfl) (Jc h rfl k_0<|Jl h rfl)
theorem e2_8_19{f1 f2 xs}(h:Fy xs f1 f2)(x1 x2 x3 x4 x5:Int32)(ob:List MS)(o0:Nat)(A0:MS)(ho0:ob[o0]? = some A0):f2 (8,19,[.ref (o0+1),.int x1,.int x2,.int x3,.int x4,.int x5],[],(false,ob))=if x5<x1 then (f1 (14,0,[.ref 0,.int x5],[],A0)).bind fun q=>f2 (8,31,[.ref (o0+1),.int x1,.int x2,.int x3,.int x4,.int x5],q.1.toList++[],(false,ob.set o0 q.2)) else some (some (.int 1),(false,ob)):=Jb h rfl rfl<|Jb h rfl rfl<|Jm h rfl (Jd h rfl rfl<|Jb h rfl rfl<|Jq h _ rfl rfl ho0) (Jc h rfl k_1<|JC h rfl)
theorem e2_8_31{f1 f2 xs}(h:Fy xs f1 f2)(x1 x2 x3 x4 x5 y0:Int32)(ob:List MS)(o0:Nat)(A0:MS)(ho0:ob[o0]? = some A0):f2 (8,31,[.ref (o0+1),.int x1,.int x2,.int x3,.int x4,.int x5],[.int y0],(false,ob))=(f1 (31,0,[.ref 0,.int x5],[],A0)).bind fun q=>f2 (8,39,[.ref (o0+1),.int x1,.int x2,.int x3,.int x4,.int x5,.int y0],q.1.toList++[],(false,ob.set o0 q.2)):=Je h rfl [.ref (o0+1),.int x1,.int x2,.int x3,.int x4,.int x5,.int y0]<|Jd h rfl rfl<|Jb h rfl rfl<|Jq h _ rfl rfl ho0
theorem e2_8_39{f1 f2 xs}(h:Fy xs f1 f2)(x1 x2 x3 x4 x5 x6 y0:Int32)(ob:List MS)(o0:Nat)(A0:MS)(ho0:ob[o0]? = some A0):f2 (8,39,[.ref (o0+1),.int x1,.int x2,.int x3,.int x4,.int x5,.int x6],[.int y0],(false,ob))=if y0=x6 then (f1 (32,0,[.ref 0,.int x5],[],A0)).bind fun q=>f2 (8,52,[.ref (o0+1),.int x1,.int x2,.int x3,.int x4,.int x5,.int x6],q.1.toList++[],(false,ob.set o0 q.2)) else some (some (.int 0),(false,ob)):=Jb h rfl rfl<|JA h rfl (Jd h rfl rfl<|Jb h rfl rfl<|Jq h _ rfl rfl ho0) (Jc h rfl k_0<|Jl h rfl)
theorem e2_8_52{f1 f2 xs}(h:Fy xs f1 f2)(x1 x2 x3 x4 x5 x6 y0:Int32)(ob:List MS)(o0:Nat):f2 (8,52,[.ref (o0+1),.int x1,.int x2,.int x3,.int x4,.int x5,.int x6],[.int y0],(false,ob))=if x6=1 then if y0<x4 then some (some (.int 0),(false,ob)) else f2 (8,69,[.ref (o0+1),.int x1,.int x2,.int x3,.int x4,.int x5,.int x6,.int y0],[],(false,ob)) else f2 (8,69,[.ref (o0+1),.int x1,.int x2,.int x3,.int x4,.int x5,.int x6,.int y0],[],(false,ob)):=Je h rfl [.ref (o0+1),.int x1,.int x2,.int x3,.int x4,.int x5,.int x6,.int y0]<|Jb h rfl rfl<|Jc h rfl k_1<|Jp h rfl (Jb h rfl rfl<|Jb h rfl rfl<|Jm h rfl (Jc h rfl k_0<|Jl h rfl) rfl) rfl
theorem e2_8_69{f1 f2 xs}(h:Fy xs f1 f2)(x1 x2 x3 x4 x5 x6 x7:Int32)(ob:List MS)(o0:Nat)(A0:MS)(ho0:ob[o0]? = some A0):f2 (8,69,[.ref (o0+1),.int x1,.int x2,.int x3,.int x4,.int x5,.int x6,.int x7],[],(false,ob))=if x6=0 then if (-x4)<x7 then some (some (.int 0),(false,ob)) else (f1 (33,0,[.ref 0,.int 1,.int x5],[],A0)).bind fun q=>f2 (8,91,[.ref (o0+1),.int x1,.int x2,.int x3,.int x4,.int x5,.int x6,.int x7],q.1.toList++[],(false,ob.set o0 q.2)) else (f1 (33,0,[.ref 0,.int 1,.int x5],[],A0)).bind fun q=>f2 (8,91,[.ref (o0+1),.int x1,.int x2,.int x3,.int x4,.int x5,.int x6,.int x7],q.1.toList++[],(false,ob.set o0 q.2)):=Jb h rfl rfl<|Js h rfl (Jb h rfl rfl<|Jb h rfl rfl<|Jal h rfl<|JO h rfl (Jc h rfl k_0<|Jl h rfl) (Jd h rfl rfl<|Jc h rfl k_1<|Jb h rfl rfl<|Jq h _ rfl rfl ho0)) (Jd h rfl rfl<|Jc h rfl k_1<|Jb h rfl rfl<|Jq h _ rfl rfl ho0)
theorem e2_8_91{f1 f2 xs}(h:Fy xs f1 f2)(x1 x2 x3 x4 x5 x6 x7 y0:Int32)(ob:List MS)(o0:Nat)(A0:MS)(ho0:ob[o0]? = some A0):f2 (8,91,[.ref (o0+1),.int x1,.int x2,.int x3,.int x4,.int x5,.int x6,.int x7],[.int y0],(false,ob))=(f1 (33,0,[.ref 0,.int 2,.int x5],[],A0)).bind fun q=>f2 (8,100,[.ref (o0+1),.int x1,.int x2,.int x3,.int x4,.int x5,.int x6,.int x7,.int y0],q.1.toList++[],(false,ob.set o0 q.2)):=Je h rfl [.ref (o0+1),.int x1,.int x2,.int x3,.int x4,.int x5,.int x6,.int x7,.int y0]<|Jd h rfl rfl<|Jc h rfl k_2<|Jb h rfl rfl<|Jq h _ rfl rfl ho0
theorem e2_8_100{f1 f2 xs}(h:Fy xs f1 f2)(x1 x2 x3 x4 x5 x6 x7 x8 y0:Int32)(ob:List MS)(o0:Nat):f2 (8,100,[.ref (o0+1),.int x1,.int x2,.int x3,.int x4,.int x5,.int x6,.int x7,.int x8],[.int y0],(false,ob))=if x8=0 then f2 (8,127,[.ref (o0+1),.int x1,.int x2,.int x3,.int x4,.int x5,.int x6,.int x7,.int x8,.int y0],[],(false,ob)) else if 0<x7 then if x8<0 then some (some (.int 0),(false,ob)) else f2 (8,127,[.ref (o0+1),.int x1,.int x2,.int x3,.int x4,.int x5,.int x6,.int x7,.int x8,.int y0],[],(false,ob)) else if 0<x8 then some (some (.int 0),(false,ob)) else f2 (8,127,[.ref (o0+1),.int x1,.int x2,.int x3,.int x4,.int x5,.int x6,.int x7,.int x8,.int y0],[],(false,ob)):=Je h rfl [.ref (o0+1),.int x1,.int x2,.int x3,.int x4,.int x5,.int x6,.int x7,.int x8,.int y0]<|Jb h rfl rfl<|Jy h rfl rfl (Jb h rfl rfl<|Jab h rfl (Jb h rfl rfl<|JP h rfl (Jh h rfl<|Jc h rfl k_0<|Jl h rfl) rfl) (Jb h rfl rfl<|Jab h rfl (Jc h rfl k_0<|Jl h rfl) rfl))
theorem e2_8_127{f1 f2 xs}(h:Fy xs f1 f2)(x1 x2 x3 x4 x5 x6 x7 x8 x9:Int32)(ob:List MS)(o0:Nat):f2 (8,127,[.ref (o0+1),.int x1,.int x2,.int x3,.int x4,.int x5,.int x6,.int x7,.int x8,.int x9],[],(false,ob))=if x9=0 then f2 (8,19,[.ref (o0+1),.int x1,.int x2,.int x3,.int x4,.int (x5+1)],[],(false,ob)) else if 0<x7 then if x9<0 then some (some (.int 0),(false,ob)) else f2 (8,19,[.ref (o0+1),.int x1,.int x2,.int x3,.int x4,.int (x5+1)],[],(false,ob)) else if 0<x9 then some (some (.int 0),(false,ob)) else f2 (8,19,[.ref (o0+1),.int x1,.int x2,.int x3,.int x4,.int (x5+1)],[],(false,ob)):=Jb h rfl rfl<|Jy h rfl (Jn h rfl k_1 rfl [.ref (o0+1),.int x1,.int x2,.int x3,.int x4,.int (x5+1),.int x6,.int x7,.int x8,.int x9]<|Jh h rfl<|Jr h rfl rfl) (Jb h rfl rfl<|Jab h rfl (Jb h rfl rfl<|JP h rfl (Jh h rfl<|Jc h rfl k_0<|Jl h rfl) (Jn h rfl k_1 rfl [.ref (o0+1),.int x1,.int x2,.int x3,.int x4,.int (x5+1),.int x6,.int x7,.int x8,.int x9]<|Jh h rfl<|Jr h rfl rfl)) (Jb h rfl rfl<|Jab h rfl (Jc h rfl k_0<|Jl h rfl) (Jn h rfl k_1 rfl [.ref (o0+1),.int x1,.int x2,.int x3,.int x4,.int (x5+1),.int x6,.int x7,.int x8,.int x9]<|Jh h rfl<|Jr h rfl rfl)))
theorem e2_9_0{f1 f2 xs}(h:Fy xs f1 f2)(x0:Int32)(ob:List MS):f2 (9,0,[.int x0],[],(false,ob))=if x0<1 then some (some (.int 1),(false,ob)) else if 127<x0 then some (some (.int 127),(false,ob)) else some (some (.int x0),(false,ob)):=Jb h rfl rfl<|Jc h rfl k_1<|Jm h rfl (Jc h rfl k_1<|Jh h rfl<|Ji h rfl) (Jb h rfl rfl<|Jc h rfl k_127<|JO h rfl (Jc h rfl k_127<|Jh h rfl<|Ji h rfl) (Jb h rfl rfl<|Ji h rfl))
def own_len(xs:List Int32):Prop:=xs.length≤260
theorem own_toInt_ofNat{a:Nat}(ha:a<2147483648):(Int32.ofNat a).toInt=a:=Int32.toInt_ofNat_of_lt ha
theorem own_lt{a b:Nat}(ha:a<2147483648)(hb:b<2147483648):Int32.ofNat a<Int32.ofNat b↔a<b:=by
 rw[Int32.lt_iff_toInt_lt,own_toInt_ofNat ha,own_toInt_ofNat hb];omega
theorem own_nneg{a:Nat}(ha:a<2147483648):¬Int32.ofNat a<0:=by
 rw[Int32.lt_iff_toInt_lt,own_toInt_ofNat ha]
 have:(0:Int32).toInt=0:=rfl
 omega
theorem own_add1(a:Nat):Int32.ofNat a+1=Int32.ofNat (a+1):=(Int32.ofNat_add a 1).symm
theorem own_nat{a:Nat}(ha:a<2147483648):(Int32.ofNat a).toNatClampNeg=a:=by
 simp only[Int32.toNatClampNeg,own_toInt_ofNat ha];omega
theorem own_inb{a n:Nat}(ha:a<2147483648)(h:a<n):inb (Int32.ofNat a) n=true:=by
 simp only[inb,own_nneg ha,own_nat ha,decide_false,Bool.false_or,Bool.not_eq_true',decide_eq_false_iff_not];omega
theorem own_inb_iff{i:Int32}{n:Nat}:inb i n=true↔0≤i.toInt∧i.toInt<n:=by
 simp only[inb,Bool.not_eq_true',Bool.or_eq_false_iff,decide_eq_false_iff_not,Int32.lt_iff_toInt_lt,Int32.toNatClampNeg]
 have:(0:Int32).toInt=0:=rfl
 omega
theorem own_up{S:MS}{c i c' i':Nat}{v:Int32}:upd S c i v c' i'=if c'=c∧i'=i then v else S c' i':=rfl
theorem own_itr{α:Type}(F:Nat→α):∀ {n:Nat},(∀i,i<n→F i=F (i+1))→F 0=F n
 |0,_=>rfl
 |n+1,h=>(own_itr F (n:=n) fun i hi=>h i (by omega)).trans (h n (by omega))
def own_nx(j:Nat):Nat:=[0,1,2,3,5,4,7,6,1,0,3,2,4,5,6,7].getD j 0
def own_pr(j:Nat):Nat:=[0,1,1,0,1,0,0,1,0,1,1,0,1,0,0,1].getD j 0
def own_ti(j:Nat):Nat:=[0,0,1,1,1,1,0,0].getD j 0
theorem own_nx8{j:Nat}(h:j<16):own_nx j<8:=(show ∀j,j<16→own_nx j<8 by decide) j h
theorem own_pr1{j:Nat}(h:j<16):own_pr j≤1:=(show ∀j,j<16→own_pr j≤1 by decide) j h
theorem own_ti1{j:Nat}(h:j<8):own_ti j≤1:=(show ∀j,j<8→own_ti j≤1 by decide) j h
theorem own_a1{j:Nat}(h:j<16):Int32.ofNat j&&&1=Int32.ofNat (j%2):=(show ∀j,j<16→Int32.ofNat j&&&1=Int32.ofNat (j%2) by decide) j h
theorem own_a7{j:Nat}(h:j<8):Int32.ofNat j&&&7=Int32.ofNat j:=(show ∀j,j<8→Int32.ofNat j&&&7=Int32.ofNat j by decide) j h
theorem own_s1{j:Nat}(h:j<16):Int32.ofNat j>>>((1:Int32)&&&31)=Int32.ofNat (j/2):=(show ∀j,j<16→Int32.ofNat j>>>((1:Int32)&&&31)=Int32.ofNat (j/2) by decide) j h
theorem own_ad(a b:Nat):Int32.ofNat a+Int32.ofNat b=Int32.ofNat (a+b):=(Int32.ofNat_add a b).symm
theorem own_mu(a b:Nat):Int32.ofNat a*Int32.ofNat b=Int32.ofNat (a*b):=(Int32.ofNat_mul a b).symm
theorem own_q2{n:Nat}(h:n<2):Int32.ofNat n<2:=(own_lt (b:=2) (by omega) (by omega)).mpr h
theorem own_q3{n:Nat}(h:n<3):Int32.ofNat n<3:=(own_lt (b:=3) (by omega) (by omega)).mpr h
theorem own_q8{n:Nat}(h:n<8):Int32.ofNat n<8:=(own_lt (b:=8) (by omega) (by omega)).mpr h
theorem own_q16{n:Nat}(h:n<16):Int32.ofNat n<16:=(own_lt (b:=16) (by omega) (by omega)).mpr h
def own_T(K:Nat)(S:MS):Prop:=(S 0 0=Int32.ofNat K∧8≤K∧K≤64)∧(∀j,j<16→S 18 j=Int32.ofNat (own_nx j))∧(∀j,j<16→S 19 j=Int32.ofNat (own_pr j))∧∀j,j<8→S 20 j=Int32.ofNat (own_ti j)
def own_w(S:MS)(c a b:Nat)(g:Nat→Int32):MS:=fun c' i=>if c'=c∧a≤i∧i<b then g i else S c' i
theorem own_w0(S:MS)(c a:Nat)(g:Nat→Int32):own_w S c a a g=S:=by
 funext c' i;simp only[own_w];rw[if_neg (by omega)]
theorem own_wn{S:MS}{c a b:Nat}{g:Nat→Int32}{c' i:Nat}(h:c'≠c):own_w S c a b g c' i=S c' i:=if_neg fun q=>h q.1
theorem own_wr{S:MS}{c a b:Nat}{g:Nat→Int32}{i:Nat}(h:a≤i)(h':i<b):own_w S c a b g c i=g i:=if_pos ⟨rfl,h,h'⟩
theorem own_wup{S:MS}{c a b:Nat}{g:Nat→Int32}{v:Int32}(h:a≤b)(hv:v=g b):Jvm.OM.upd (own_w S c a b g) c b v=own_w S c a (b+1) g:=by
 funext c' i
 simp only[own_w,Jvm.OM.upd]
 by_cases q:c'=c∧i=b
 ·obtain⟨q1,q2⟩:=q;subst q1;subst q2;rw[if_pos ⟨rfl,rfl⟩,if_pos ⟨rfl,h,by omega⟩,hv]
 ·rw[if_neg q]
  by_cases q':c'=c∧a≤i∧i<b
  ·rw[if_pos q',if_pos ⟨q'.1,q'.2.1,by omega⟩]
  ·rw[if_neg q',if_neg]
   rintro ⟨e1,e2,e3⟩
   rcases Nat.lt_or_ge i b with e | e
   ·exact q' ⟨e1,e2,e⟩
   ·exact q ⟨e1,by omega⟩
theorem own_wj{S:MS}{c a b e:Nat}{g:Nat→Int32}(h:a≤b)(h':b≤e):own_w (own_w S c b e g) c a b g=own_w S c a e g:=by
 funext c' i
 simp only[own_w]
 by_cases q:c'=c
 ·subst q
  by_cases q1:i<b
  ·by_cases q2:a≤i
   ·rw[if_pos ⟨rfl,q2,q1⟩,if_pos ⟨rfl,q2,by omega⟩]
   ·rw[if_neg (by omega),if_neg (by omega),if_neg (by omega)]
  ·by_cases q2:i<e
   ·rw[if_neg (by omega),if_pos ⟨rfl,by omega,q2⟩,if_pos ⟨rfl,by omega,q2⟩]
   ·rw[if_neg (by omega),if_neg (by omega),if_neg (by omega)]
 ·rw[if_neg (fun h=>q h.1),if_neg (fun h=>q h.1),if_neg (fun h=>q h.1)]
theorem own_wa{S:MS}{c a b e:Nat}{g:Nat→Int32}(h:a≤b)(h':b≤e):own_w (own_w S c a b g) c b e g=own_w S c a e g:=by
 funext c' i
 simp only[own_w]
 by_cases q:c'=c
 ·subst q
  by_cases q1:i<b
  ·by_cases q2:a≤i
   ·rw[if_neg (by omega),if_pos ⟨rfl,q2,q1⟩,if_pos ⟨rfl,q2,by omega⟩]
   ·rw[if_neg (by omega),if_neg (by omega),if_neg (by omega)]
  ·by_cases q2:i<e
   ·rw[if_pos ⟨rfl,by omega,q2⟩,if_pos ⟨rfl,by omega,q2⟩]
   ·rw[if_neg (by omega),if_neg (by omega),if_neg (by omega)]
 ·rw[if_neg (fun h=>q h.1),if_neg (fun h=>q h.1),if_neg (fun h=>q h.1)]
theorem own_wg{S:MS}{c a b:Nat}{g g':Nat→Int32}(h:∀i,a≤i→i<b→g i=g' i):own_w S c a b g=own_w S c a b g':=by
 funext c' i
 simp only[own_w]
 by_cases q:c'=c∧a≤i∧i<b
 ·rw[if_pos q,if_pos q,h i q.2.1 q.2.2]
 ·rw[if_neg q,if_neg q]
theorem own_wu{S:MS}{c a b:Nat}{g:Nat→Int32}{c' i:Nat}{v:Int32}(h:c'≠c):Jvm.OM.upd (own_w S c a b g) c' i v=own_w (Jvm.OM.upd S c' i v) c a b g:=by
 funext d j
 simp only[own_w,Jvm.OM.upd]
 by_cases q:d=c∧a≤j∧j<b
 ·rw[if_neg (by omega),if_pos q,if_pos q]
 ·rw[if_neg q,if_neg q]
theorem own_wi{S:MS}{c a b i:Nat}{g:Nat→Int32}{v:Int32}(h:a≤i)(h':i<b):Jvm.OM.upd (own_w S c a b g) c i v=own_w S c a b fun j=>if j=i then v else g j:=by
 funext d j
 simp only[own_w,Jvm.OM.upd]
 by_cases q:d=c∧j=i
 ·obtain⟨q1,q2⟩:=q;subst q1;subst q2;rw[if_pos ⟨rfl,rfl⟩,if_pos ⟨rfl,h,h'⟩,if_pos rfl]
 ·rw[if_neg q]
  by_cases q':d=c∧a≤j∧j<b
  ·rw[if_pos q',if_pos q',if_neg (fun e=>q ⟨q'.1,e⟩)]
  ·rw[if_neg q',if_neg q']
theorem own_Tw{K:Nat}{S:MS}(T:own_T K S){c a b:Nat}{g:Nat→Int32}(h:20<c∨(0<c∧c<18)):own_T K (own_w S c a b g):=by
 refine⟨⟨?_,T.1.2⟩,fun j hj=>?_,fun j hj=>?_,fun j hj=>?_⟩
 ·rw[own_wn (by omega)];exact T.1.1
 ·rw[own_wn (by omega)];exact T.2.1 j hj
 ·rw[own_wn (by omega)];exact T.2.2.1 j hj
 ·rw[own_wn (by omega)];exact T.2.2.2 j hj
theorem own_Tu{K:Nat}{S:MS}(T:own_T K S){c i:Nat}{v:Int32}(h:20<c∨(0<c∧c<18)∨(c=0∧0<i)):own_T K (Jvm.OM.upd S c i v):=by
 refine⟨⟨?_,T.1.2⟩,fun j hj=>?_,fun j hj=>?_,fun j hj=>?_⟩
 ·rw[own_up,if_neg (by omega)];exact T.1.1
 ·rw[own_up,if_neg (by omega)];exact T.2.1 j hj
 ·rw[own_up,if_neg (by omega)];exact T.2.2.1 j hj
 ·rw[own_up,if_neg (by omega)];exact T.2.2.2 j hj
def own_bm(S:MS)(k j:Nat):Int32:=Int32.ofNat (j%2)*(S 28 k+S 29 k)+Int32.ofNat (own_pr j)*S 30 k
def own_ts(s:Nat):Nat→Nat
 |0=>s
 |n+1=>own_nx (own_ts s n*2+own_ti (own_ts s n))
theorem own_ts8{s:Nat}(h:s<8):∀n,own_ts s n<8
 |0=>h
 |n+1=>own_nx8 (by have h8:=own_ts8 h n;have h1:=own_ti1 h8;omega)
def own_tm(S:MS)(s:Nat):Nat→Int32
 |0=>0
 |n+1=>own_tm S s n+Int32.ofNat (own_ti (own_ts s n))*S 31 n+Int32.ofNat (own_pr (own_ts s n*2+own_ti (own_ts s n)))*S 32 n
def own_mx(a b:Int32):Int32:=if a<b then b else a
def own_bs(lo:Int32)(γ β:Nat→Int32)(s:Nat):Nat→Int32
 |0=>lo
 |u+1=>own_mx (own_bs lo γ β s u) (γ (s*2+u)+β (own_nx (s*2+u)))
def own_be(S:MS)(K:Nat):Nat→Nat→Int32
 |0,s=>own_tm S s 3
 |d+1,s=>own_bs (S 0 4) (own_bm S (K-1-d)) (own_be S K d) s 2
def own_fw(lo:Int32)(γ α:Nat→Int32):Nat→Nat→Int32
 |0,_=>lo
 |j+1,t=>if t=own_nx j then own_mx (own_fw lo γ α j t) (α (j/2)+γ j) else own_fw lo γ α j t
def own_al(S:MS):Nat→Nat→Int32
 |0,s=>if s=0 then 0 else S 0 3
 |k+1,s=>own_fw (S 0 4) (own_bm S k) (own_al S k) 16 s
def own_sf(lo:Int32)(γ α β:Nat→Int32)(u:Nat):Nat→Int32
 |0=>lo
 |j+1=>if j%2=u then own_mx (own_sf lo γ α β u j) (α (j/2)+γ j+β (own_nx j)) else own_sf lo γ α β u j
def own_cl(x a b:Int32):Int32:=if x<a then a else if b<x then b else x
def own_ex(S:MS)(K k:Nat):Int32:=own_cl (own_sf (S 0 4) (own_bm S k) (own_al S k) (own_be S K (K-(k+1))) 1 16-own_sf (S 0 4) (own_bm S k) (own_al S k) (own_be S K (K-(k+1))) 0 16-S 28 k-S 29 k) (-1023) 1023
section Csd
variable {f1:FT1}
theorem own_clF(hf1:Fx f1)(S:MS)(x a b:Int32):f1 (49,0,[.ref 0,.int x,.int a,.int b],[],S)=some (some (.int (own_cl x a b)),S):=by
 rw[e1_49_0 hf1]
 unfold own_cl
 by_cases h1:x<a
 ·rw[if_pos h1,if_pos h1]
 rw[if_neg h1,if_neg h1]
 by_cases h2:b<x
 ·rw[if_pos h2,if_pos h2]
 rw[if_neg h2,if_neg h2]
theorem own_bmF(hf1:Fx f1){K:Nat}{S:MS}(T:own_T K S){k j:Nat}(hk:k<64)(hj:j<16):f1 (41,0,[.ref 0,.int (Int32.ofNat k),.int (Int32.ofNat j)],[],S)=some (some (.int (own_bm S k j)),S):=by
 rw[e1_41_0 hf1,if_pos (own_inb (by omega) hk),if_pos (own_inb (by omega) hj),own_nat (by omega),own_nat (by omega),own_a1 hj,T.2.2.1 j hj];rfl
theorem own_tmF(hf1:Fx f1){K:Nat}{S:MS}(T:own_T K S){s:Nat}(hs:s<8):f1 (42,0,[.ref 0,.int (Int32.ofNat s)],[],S)=some (some (.int (own_tm S s 3)),S):=by
 rw[e1_42_0 hf1,own_a7 hs]
 refine (own_itr (fun n=>f1 (42,10,[.ref 0,.int (Int32.ofNat s),.int (Int32.ofNat (own_ts s n)),.int (own_tm S s n),.int (Int32.ofNat n)],[],S)) (n:=3) fun n hn=>?_).trans ?_
 ·have h8:=own_ts8 hs n
  have h1:=own_ti1 h8
  show f1 _=f1 _
  rw[e1_42_10 hf1,if_pos (own_q3 hn),if_pos (own_inb (by omega) h8),if_pos (own_inb (by omega) hn)]
  rw[own_nat (a:=own_ts s n) (by omega),T.2.2.2 _ h8,own_nat (a:=n) (by omega)]
  rw[show Int32.ofNat (own_ts s n)*2+Int32.ofNat (own_ti (own_ts s n))=Int32.ofNat (own_ts s n*2+own_ti (own_ts s n)) from by rw[←own_ad,←own_mu];rfl]
  rw[if_pos (own_inb (by omega) (by omega)),own_nat (by omega),T.2.1 _ (by omega),T.2.2.1 _ (by omega),own_add1]
  rfl
 ·show f1 _=_
  rw[e1_42_10 hf1,if_neg (by decide)]
theorem own_bsF(hf1:Fx f1){K:Nat}{S:MS}(T:own_T K S){k:Nat}(hk:k<K):f1 (44,0,[.ref 0,.int (Int32.ofNat k)],[],S)=some (none,own_w S 35 (8*k) (8*k+8) fun i=>own_bs (S 0 4) (own_bm S k) (fun t=>S 35 (8*k+8+t)) (i-8*k) 2):=by
 have hK:=T.1.2
 rw[e1_44_0 hf1]
 rw[show Int32.ofNat k*8=Int32.ofNat (8*k) from by rw[Nat.mul_comm,←own_mu];rfl,show Int32.ofNat (8*k)+8=Int32.ofNat (8*k+8) from by rw[←own_ad];rfl]
 have key:=own_itr (fun s=>f1 (44,13,[.ref 0,.int (Int32.ofNat k),.int (Int32.ofNat (8*k)),.int (Int32.ofNat (8*k+8)),.int (Int32.ofNat s)],[],own_w S 35 (8*k) (8*k+s) fun i=>own_bs (S 0 4) (own_bm S k) (fun t=>S 35 (8*k+8+t)) (i-8*k) 2)) (n:=8) fun s hs=>by
  show f1 _=f1 _
  rw[e1_44_13 hf1,if_pos (own_q8 hs)]
  generalize hg:(fun i=>own_bs (S 0 4) (own_bm S k) (fun t=>S 35 (8*k+8+t)) (i-8*k) 2)=g
  have T':own_T K (own_w S 35 (8*k) (8*k+s) g):=own_Tw T (by omega)
  have ebm:own_bm (own_w S 35 (8*k) (8*k+s) g) k=own_bm S k:=by
   funext j;simp only[own_bm];rw[own_wn (by decide),own_wn (by decide),own_wn (by decide)]
  rw[own_wn (c':=0) (by decide)]
  refine (own_itr (fun u=>f1 (44,29,[.ref 0,.int (Int32.ofNat k),.int (Int32.ofNat (8*k)),.int (Int32.ofNat (8*k+8)),.int (Int32.ofNat s),.int (own_bs (S 0 4) (own_bm S k) (fun t=>S 35 (8*k+8+t)) s u),.int (Int32.ofNat u)],[],own_w S 35 (8*k) (8*k+s) g)) (n:=2) fun u hu=>?_).trans ?_
  ·show f1 _=f1 _
   rw[e1_44_29 hf1,if_pos (own_q2 hu)]
   rw[show Int32.ofNat s*2+Int32.ofNat u=Int32.ofNat (s*2+u) from by rw[←own_ad,←own_mu];rfl]
   rw[own_bmF hf1 T' (by omega) (by omega)]
   have h8:own_nx (s*2+u)<8:=own_nx8 (by omega)
   simp only[Option.bind_some,Option.toList_some,List.cons_append,List.nil_append]
   rw[e1_44_51 hf1,if_pos (own_inb (by omega) (by omega)),own_nat (by omega),T'.2.1 _ (by omega),own_ad,if_pos (own_inb (by omega) (by omega)),own_nat (by omega),ebm,own_add1]
   have e35:own_w S 35 (8*k) (8*k+s) g 35 (8*k+8+own_nx (s*2+u))=S 35 (8*k+8+own_nx (s*2+u)):=if_neg (by omega)
   rw[e35]
   show _=f1 (_,_,[_,_,_,_,_,.int (own_mx _ _),_],_,_)
   unfold own_mx
   by_cases q:own_bs (S 0 4) (own_bm S k) (fun t=>S 35 (8*k+8+t)) s u<own_bm S k (s*2+u)+S 35 (8*k+8+own_nx (s*2+u))
   ·rw[if_pos q,if_pos q]
   ·rw[if_neg q,if_neg q]
  ·show f1 _=_
   rw[e1_44_29 hf1,if_neg (by decide),own_ad,if_pos (own_inb (by omega) (by omega)),own_nat (by omega),own_add1,own_wup (by omega) (by rw[←hg];show _=own_bs _ _ _ (8*k+s-8*k) 2;rw[Nat.add_sub_cancel_left])]
   rfl
 have e0:(own_w S 35 (8*k) (8*k+0) fun i=>own_bs (S 0 4) (own_bm S k) (fun t=>S 35 (8*k+8+t)) (i-8*k) 2)=S:=own_w0 _ _ _ _
 refine Eq.trans ?_ (key.trans ?_)
 ·show _=f1 (_,_,_,_,_)
  rw[e0];rfl
 ·show f1 _=_
  rw[e1_44_13 hf1,if_neg (by decide)]
end Csd
theorem own_wc{S:MS}{c a b c' a' b':Nat}{g g':Nat→Int32}(h:c≠c'):own_w (own_w S c a b g) c' a' b' g'=own_w (own_w S c' a' b' g') c a b g:=by
 funext d i
 simp only[own_w]
 by_cases q:d=c'∧a'≤i∧i<b'
 ·rw[if_pos q,if_neg (fun e=>h (e.1.symm.trans q.1)),if_pos q]
 ·rw[if_neg q,if_neg q]
theorem own_bsc{lo:Int32}{γ β β':Nat→Int32}{s:Nat}(hs:s<8)(h:∀t,t<8→β t=β' t):∀u,u≤2→own_bs lo γ β s u=own_bs lo γ β' s u
 |0,_=>rfl
 |u+1,hu=>by simp only[own_bs];rw[own_bsc hs h u (by omega),h _ (own_nx8 (by omega))]
theorem own_fwc{lo:Int32}{γ α α':Nat→Int32}(h:∀t,t<8→α t=α' t):∀j,j≤16→∀t,own_fw lo γ α j t=own_fw lo γ α' j t
 |0,_,_=>rfl
 |j+1,hj,t=>by simp only[own_fw];rw[own_fwc h j (by omega),h (j/2) (by omega)]
theorem own_sfc{lo:Int32}{γ α α' β β':Nat→Int32}{u:Nat}(h:∀t,t<8→α t=α' t)(h':∀t,t<8→β t=β' t):∀j,j≤16→own_sf lo γ α β u j=own_sf lo γ α' β' u j
 |0,_=>rfl
 |j+1,hj=>by simp only[own_sf];rw[own_sfc h h' j (by omega),h (j/2) (by omega),h' _ (own_nx8 (by omega))]
theorem own_bmw{S:MS}{c a b k:Nat}{g:Nat→Int32}(h:c<28∨30<c):own_bm (own_w S c a b g) k=own_bm S k:=by
 funext j;simp only[own_bm];rw[own_wn (by omega),own_wn (by omega),own_wn (by omega)]
theorem own_tmw{S:MS}{c a b s:Nat}{g:Nat→Int32}(h:c<31∨32<c):∀n,own_tm (own_w S c a b g) s n=own_tm S s n
 |0=>rfl
 |n+1=>by simp only[own_tm];rw[own_tmw h n,own_wn (by omega),own_wn (by omega)]
def own_gB(S:MS)(K i:Nat):Int32:=own_be S K (K-i/8) (i%8)
def own_gA(S:MS)(i:Nat):Int32:=own_al S (i/8) (i%8)
def own_cs(S:MS)(K:Nat):MS:=own_w (own_w (own_w S 35 0 (8*K+8) (own_gB S K)) 34 0 (8*K+8) (own_gA S)) 33 0 K (own_ex S K)
section Csd2
variable {f1:FT1}
theorem own_bpF(hf1:Fx f1){K:Nat}{S:MS}(T:own_T K S):f1 (43,0,[.ref 0],[],S)=some (none,own_w S 35 0 (8*K+8) (own_gB S K)):=by
 have hK:=T.1.2
 rw[e1_43_0 hf1,T.1.1]
 rw[show Int32.ofNat K*8=Int32.ofNat (8*K) from by rw[Nat.mul_comm,←own_mu];rfl]
 have k1:=own_itr (fun s=>f1 (43,10,[.ref 0,.int (Int32.ofNat (8*K)),.int (Int32.ofNat s)],[],own_w S 35 (8*K) (8*K+s) (own_gB S K))) (n:=8) fun s hs=>by
  show f1 _=f1 _
  rw[e1_43_10 hf1,if_pos (own_q8 hs),own_tmF hf1 (own_Tw T (by omega)) hs]
  simp only[Option.bind_some,Option.toList_some,List.cons_append,List.nil_append]
  rw[e1_43_28 hf1,own_ad,if_pos (own_inb (by omega) (by omega)),own_nat (by omega),own_add1,own_wup (by omega),Nat.add_assoc]
  rw[own_tmw (by omega)]
  unfold own_gB
  rw[show (8*K+s)/8=K from by omega,show (8*K+s)%8=s from by omega,Nat.sub_self]
  rfl
 have e0:own_w S 35 (8*K) (8*K+0) (own_gB S K)=S:=own_w0 _ _ _ _
 refine Eq.trans ?_ (k1.trans ?_)
 ·show _=f1 (_,_,_,_,_)
  rw[e0];rfl
 show f1 _=_
 rw[e1_43_10 hf1,if_neg (by decide),own_wn (by decide),T.1.1]
 have k2:=own_itr (fun d=>f1 (43,42,[.ref 0,.int (Int32.ofNat (8*K)),.int (if d<K then Int32.ofNat (K-1-d) else -1)],[],own_w S 35 (8*(K-d)) (8*K+8) (own_gB S K))) (n:=K) fun d hd=>by
  show f1 _=f1 _
  have T':own_T K (own_w S 35 (8*(K-d)) (8*K+8) (own_gB S K)):=own_Tw T (by omega)
  rw[if_pos hd,e1_43_42 hf1,if_neg (own_nneg (by omega)),own_bsF hf1 T' (by omega)]
  simp only[Option.bind_some,Option.toList_none,List.nil_append]
  rw[e1_43_51 hf1]
  have ex:Int32.ofNat (K-1-d) + -1=if d+1<K then Int32.ofNat (K-1-(d+1)) else -1:=by
   by_cases q:d+1<K
   ·rw[if_pos q,show K-1-d=(K-1-(d+1))+1 from by omega,←own_add1]
    have:(1:Int32) + -1=0:=by decide
    rw[Int32.add_assoc,this,Int32.add_zero]
   ·rw[if_neg q,show K-1-d=0 from by omega];decide
  rw[ex]
  have es:(own_w (own_w S 35 (8*(K-d)) (8*K+8) (own_gB S K)) 35 (8*(K-1-d)) (8*(K-1-d)+8) fun i=>own_bs (own_w S 35 (8*(K-d)) (8*K+8) (own_gB S K) 0 4) (own_bm (own_w S 35 (8*(K-d)) (8*K+8) (own_gB S K)) (K-1-d)) (fun t=>own_w S 35 (8*(K-d)) (8*K+8) (own_gB S K) 35 (8*(K-1-d)+8+t)) (i-8*(K-1-d)) 2)=own_w S 35 (8*(K-(d+1))) (8*K+8) (own_gB S K):=by
   rw[←own_wj (a:=8*(K-(d+1))) (b:=8*(K-d)) (by omega) (by omega),show 8*(K-1-d)=8*(K-(d+1)) from by omega,show 8*(K-(d+1))+8=8*(K-d) from by omega]
   refine own_wg fun i h1 h2=>?_
   rw[own_wn (by decide),own_bmw (by omega)]
   unfold own_gB
   rw[show K-i/8=d+1 from by omega]
   show _=own_bs (S 0 4) (own_bm S (K-1-d)) (own_be S K d) (i%8) 2
   rw[show i-8*(K-(d+1))=i%8 from by omega]
   refine own_bsc (by omega) (fun t ht=>?_) 2 (by omega)
   rw[own_wr (by omega) (by omega)]
   show own_be S K (K-(8*(K-d)+t)/8) ((8*(K-d)+t)%8)=_
   rw[show K-(8*(K-d)+t)/8=d from by omega,show (8*(K-d)+t)%8=t from by omega]
  rw[es]
 refine Eq.trans ?_ (k2.trans ?_)
 ·show f1 _=f1 _
  rw[if_pos (show 0<K by omega),Nat.sub_zero,Nat.sub_zero]
  rw[show Int32.ofNat K-1=Int32.ofNat (K-1) from by rw[show K=(K-1)+1 from by omega,←own_add1,Nat.add_sub_cancel];exact Int32.add_sub_cancel _ _]
 ·show f1 _=_
  rw[if_neg (Nat.lt_irrefl K),e1_43_42 hf1,if_pos (by decide),Nat.sub_self]
theorem own_fwF(hf1:Fx f1){K:Nat}{S:MS}(T:own_T K S){k:Nat}(hk:k<K):f1 (45,0,[.ref 0,.int (Int32.ofNat k)],[],S)=some (none,own_w S 34 (8*k+8) (8*k+8+8) fun i=>own_fw (S 0 4) (own_bm S k) (fun t=>S 34 (8*k+t)) 16 (i-(8*k+8))):=by
 have hK:=T.1.2
 rw[e1_45_0 hf1]
 rw[show Int32.ofNat k*8=Int32.ofNat (8*k) from by rw[Nat.mul_comm,←own_mu];rfl,show Int32.ofNat (8*k)+8=Int32.ofNat (8*k+8) from by rw[←own_ad];rfl]
 have k1:=own_itr (fun s=>f1 (45,13,[.ref 0,.int (Int32.ofNat k),.int (Int32.ofNat (8*k)),.int (Int32.ofNat (8*k+8)),.int (Int32.ofNat s)],[],own_w S 34 (8*k+8) (8*k+8+s) fun _=>S 0 4)) (n:=8) fun s hs=>by
  show f1 _=f1 _
  rw[e1_45_13 hf1,if_pos (own_q8 hs),own_ad,if_pos (own_inb (by omega) (by omega)),own_nat (by omega),own_add1,own_wn (c':=0) (by decide),own_wup (by omega) rfl]
  rfl
 refine Eq.trans ?_ (k1.trans ?_)
 ·show _=f1 (_,_,_,_,own_w S 34 (8*k+8) (8*k+8) _)
  rw[own_w0];rfl
 show f1 _=_
 rw[e1_45_13 hf1,if_neg (by decide)]
 have k2:=own_itr (fun j=>f1 (45,42,[.ref 0,.int (Int32.ofNat k),.int (Int32.ofNat (8*k)),.int (Int32.ofNat (8*k+8)),.int (Int32.ofNat j)],[],own_w S 34 (8*k+8) (8*k+8+8) fun i=>own_fw (S 0 4) (own_bm S k) (fun t=>S 34 (8*k+t)) j (i-(8*k+8)))) (n:=16) fun j hj=>by
  show f1 _=f1 _
  generalize hg:(fun i=>own_fw (S 0 4) (own_bm S k) (fun t=>S 34 (8*k+t)) j (i-(8*k+8)))=g
  have T':own_T K (own_w S 34 (8*k+8) (8*k+8+8) g):=own_Tw T (by omega)
  have h8:=own_nx8 hj
  rw[e1_45_42 hf1,if_pos (own_q16 hj),own_s1 hj,own_ad,if_pos (own_inb (by omega) (by omega)),own_nat (by omega),own_bmF hf1 T' (by omega) hj]
  simp only[Option.bind_some,Option.toList_some,List.cons_append,List.nil_append]
  rw[e1_45_67 hf1,if_pos (own_inb (by omega) hj),own_nat (by omega),T'.2.1 j hj,own_ad,if_pos (own_inb (by omega) (by omega)),own_nat (by omega),own_bmw (by omega),own_add1,own_wr (by omega) (by omega)]
  rw[show own_w S 34 (8*k+8) (8*k+8+8) g 34 (8*k+j/2)=S 34 (8*k+j/2) from if_neg (by omega)]
  have eg:g (8*k+8+own_nx j)=own_fw (S 0 4) (own_bm S k) (fun t=>S 34 (8*k+t)) j (own_nx j):=by
   rw[←hg];show own_fw _ _ _ j (8*k+8+own_nx j-(8*k+8))=_;rw[Nat.add_sub_cancel_left]
  rw[eg]
  by_cases q:own_fw (S 0 4) (own_bm S k) (fun t=>S 34 (8*k+t)) j (own_nx j)<S 34 (8*k+j/2)+own_bm S k j
  ·rw[if_pos q,own_wi (by omega) (by omega)]
   congr 5
   refine own_wg fun i h1 h2=>?_
   show _=if i-(8*k+8)=own_nx j then own_mx _ _ else _
   by_cases e:i=8*k+8+own_nx j
   ·subst e
    rw[if_pos rfl,Nat.add_sub_cancel_left,if_pos rfl,own_mx,if_pos q]
   ·rw[if_neg e,if_neg (by omega),←hg]
  ·rw[if_neg q]
   congr 5
   refine own_wg fun i h1 h2=>?_
   show _=if i-(8*k+8)=own_nx j then own_mx _ _ else _
   by_cases e:i=8*k+8+own_nx j
   ·subst e
    rw[eg,Nat.add_sub_cancel_left,if_pos rfl,own_mx,if_neg q]
   ·rw[if_neg (by omega),←hg]
 refine Eq.trans ?_ (k2.trans ?_)
 ·rfl
 ·show f1 _=_
  rw[e1_45_42 hf1,if_neg (by decide)]
theorem own_sfF(hf1:Fx f1){K:Nat}{S:MS}(T:own_T K S){k:Nat}(hk:k<K):f1 (46,0,[.ref 0,.int (Int32.ofNat k)],[],S)=some (none,Jvm.OM.upd S 33 k (own_cl (own_sf (S 0 4) (own_bm S k) (fun t=>S 34 (8*k+t)) (fun t=>S 35 (8*k+8+t)) 1 16-own_sf (S 0 4) (own_bm S k) (fun t=>S 34 (8*k+t)) (fun t=>S 35 (8*k+8+t)) 0 16-S 28 k-S 29 k) (-1023) 1023)):=by
 have hK:=T.1.2
 rw[e1_46_0 hf1]
 rw[show Int32.ofNat k*8=Int32.ofNat (8*k) from by rw[Nat.mul_comm,←own_mu];rfl,show Int32.ofNat (8*k)+8=Int32.ofNat (8*k+8) from by rw[←own_ad];rfl]
 have k1:=own_itr (fun j=>f1 (46,25,[.ref 0,.int (Int32.ofNat k),.int (Int32.ofNat (8*k)),.int (Int32.ofNat (8*k+8)),.int (own_sf (S 0 4) (own_bm S k) (fun t=>S 34 (8*k+t)) (fun t=>S 35 (8*k+8+t)) 0 j),.int (own_sf (S 0 4) (own_bm S k) (fun t=>S 34 (8*k+t)) (fun t=>S 35 (8*k+8+t)) 1 j),.int (Int32.ofNat j)],[],S)) (n:=16) fun j hj=>by
  show f1 _=f1 _
  have h8:=own_nx8 hj
  rw[e1_46_25 hf1,if_pos (own_q16 hj),own_s1 hj,own_ad,if_pos (own_inb (by omega) (by omega)),own_nat (by omega),own_bmF hf1 T (by omega) hj]
  simp only[Option.bind_some,Option.toList_some,List.cons_append,List.nil_append]
  rw[e1_46_50 hf1,if_pos (own_inb (by omega) hj),own_nat (by omega),T.2.1 j hj,own_ad,if_pos (own_inb (by omega) (by omega)),own_nat (by omega),own_a1 hj,own_add1]
  by_cases q:j%2=1
  ·rw[q,if_pos (by decide)]
   have e0:own_sf (S 0 4) (own_bm S k) (fun t=>S 34 (8*k+t)) (fun t=>S 35 (8*k+8+t)) 0 (j+1)=own_sf (S 0 4) (own_bm S k) (fun t=>S 34 (8*k+t)) (fun t=>S 35 (8*k+8+t)) 0 j:=if_neg (by omega)
   have e1:own_sf (S 0 4) (own_bm S k) (fun t=>S 34 (8*k+t)) (fun t=>S 35 (8*k+8+t)) 1 (j+1)=own_mx (own_sf (S 0 4) (own_bm S k) (fun t=>S 34 (8*k+t)) (fun t=>S 35 (8*k+8+t)) 1 j) (S 34 (8*k+j/2)+own_bm S k j+S 35 (8*k+8+own_nx j)):=if_pos q
   rw[e0,e1]
   unfold own_mx
   by_cases r:own_sf (S 0 4) (own_bm S k) (fun t=>S 34 (8*k+t)) (fun t=>S 35 (8*k+8+t)) 1 j<S 34 (8*k+j/2)+own_bm S k j+S 35 (8*k+8+own_nx j)
   ·rw[if_pos r,if_pos r]
   ·rw[if_neg r,if_neg r]
  ·have q':j%2=0:=by omega
   rw[q',if_neg (by decide)]
   have e0:own_sf (S 0 4) (own_bm S k) (fun t=>S 34 (8*k+t)) (fun t=>S 35 (8*k+8+t)) 1 (j+1)=own_sf (S 0 4) (own_bm S k) (fun t=>S 34 (8*k+t)) (fun t=>S 35 (8*k+8+t)) 1 j:=if_neg (by omega)
   have e1:own_sf (S 0 4) (own_bm S k) (fun t=>S 34 (8*k+t)) (fun t=>S 35 (8*k+8+t)) 0 (j+1)=own_mx (own_sf (S 0 4) (own_bm S k) (fun t=>S 34 (8*k+t)) (fun t=>S 35 (8*k+8+t)) 0 j) (S 34 (8*k+j/2)+own_bm S k j+S 35 (8*k+8+own_nx j)):=if_pos q'
   rw[e0,e1]
   unfold own_mx
   by_cases r:own_sf (S 0 4) (own_bm S k) (fun t=>S 34 (8*k+t)) (fun t=>S 35 (8*k+8+t)) 0 j<S 34 (8*k+j/2)+own_bm S k j+S 35 (8*k+8+own_nx j)
   ·rw[if_pos r,if_pos r]
   ·rw[if_neg r,if_neg r]
 refine Eq.trans ?_ (k1.trans ?_)
 ·rfl
 show f1 _=_
 rw[e1_46_25 hf1,if_neg (by decide),if_pos (own_inb (by omega) (by omega)),own_nat (by omega),own_clF hf1]
 simp only[Option.bind_some,Option.toList_some,List.cons_append,List.nil_append]
 rw[e1_46_145 hf1,if_pos (own_inb (by omega) (by omega)),own_nat (by omega)]
theorem own_csF(hf1:Fx f1){K:Nat}{S:MS}(T:own_T K S):f1 (40,0,[.ref 0],[],S)=some (none,own_cs S K):=by
 have hK:=T.1.2
 rw[e1_40_0 hf1,own_bpF hf1 T]
 simp only[Option.bind_some,Option.toList_none,List.nil_append]
 generalize hB:own_w S 35 0 (8*K+8) (own_gB S K)=B
 have TB:own_T K B:=hB▸own_Tw T (by omega)
 have B0:∀i,B 0 i=S 0 i:=fun i=>by rw[←hB,own_wn (by decide)]
 rw[e1_40_4 hf1]
 have k1:=own_itr (fun i=>f1 (40,13,[.ref 0,.int (Int32.ofNat (i+1))],[],own_w B 34 0 (i+1) (own_gA S))) (n:=7) fun i hi=>by
  show f1 _=f1 _
  rw[e1_40_13 hf1,if_pos (own_q8 (by omega)),if_pos (own_inb (by omega) (by omega)),own_nat (by omega),own_add1,own_wn (c':=0) (by decide),B0,own_wup (by omega)]
  unfold own_gA
  rw[show (i+1)/8=0 from by omega,show (i+1)%8=i+1 from by omega]
  rfl
 refine Eq.trans ?_ (k1.trans ?_)
 ·show _=f1 (_,_,_,_,own_w B 34 0 (0+1) _)
  rw[←own_wup (Nat.le_refl 0) rfl,own_w0];rfl
 show f1 _=_
 rw[e1_40_13 hf1,if_neg (by decide)]
 have k2:=own_itr (fun k=>f1 (40,37,[.ref 0,.int (Int32.ofNat k)],[],own_w (own_w B 34 0 (8*k+8) (own_gA S)) 33 0 k (own_ex S K))) (n:=K) fun k hk=>by
  show f1 _=f1 _
  have T1:own_T K (own_w (own_w B 34 0 (8*k+8) (own_gA S)) 33 0 k (own_ex S K)):=own_Tw (own_Tw TB (by omega)) (by omega)
  have ebm:own_bm (own_w (own_w B 34 0 (8*k+8) (own_gA S)) 33 0 k (own_ex S K)) k=own_bm S k:=by
   rw[own_bmw (by omega),own_bmw (by omega),←hB,own_bmw (by omega)]
  have eal:∀t,t<8→own_w (own_w B 34 0 (8*k+8) (own_gA S)) 33 0 k (own_ex S K) 34 (8*k+t)=own_al S k t:=fun t ht=>by
   rw[own_wn (by decide),own_wr (by omega) (by omega)]
   unfold own_gA
   rw[show (8*k+t)/8=k from by omega,show (8*k+t)%8=t from by omega]
  have ebe:∀t,t<8→own_w (own_w B 34 0 (8*k+8) (own_gA S)) 33 0 k (own_ex S K) 35 (8*k+8+t)=own_be S K (K-(k+1)) t:=fun t ht=>by
   rw[own_wn (by decide),own_wn (by decide),←hB,own_wr (by omega) (by omega)]
   unfold own_gB
   rw[show (8*k+8+t)/8=k+1 from by omega,show (8*k+8+t)%8=t from by omega]
  have e0:own_w (own_w B 34 0 (8*k+8) (own_gA S)) 33 0 k (own_ex S K) 0 4=S 0 4:=by
   rw[own_wn (by decide),own_wn (by decide),B0]
  have e28:own_w (own_w B 34 0 (8*k+8) (own_gA S)) 33 0 k (own_ex S K) 28 k=S 28 k:=by
   rw[own_wn (by decide),own_wn (by decide),←hB,own_wn (by decide)]
  have e29:own_w (own_w B 34 0 (8*k+8) (own_gA S)) 33 0 k (own_ex S K) 29 k=S 29 k:=by
   rw[own_wn (by decide),own_wn (by decide),←hB,own_wn (by decide)]
  rw[e1_40_37 hf1,T1.1.1,if_pos ((own_lt (by omega) (by omega)).mpr hk),own_sfF hf1 T1 hk]
  simp only[Option.bind_some,Option.toList_none,List.nil_append]
  rw[ebm,e0,e28,e29,own_sfc eal ebe 16 (by omega),own_sfc eal ebe 16 (by omega),own_wup (v:=own_cl _ _ _) (by omega) (show _=own_ex S K k from rfl),e1_40_50 hf1]
  have T2:own_T K (own_w (own_w B 34 0 (8*k+8) (own_gA S)) 33 0 (k+1) (own_ex S K)):=own_Tw (own_Tw TB (by omega)) (by omega)
  rw[own_fwF hf1 T2 hk]
  simp only[Option.bind_some,Option.toList_none,List.nil_append]
  rw[e1_40_55 hf1,own_add1]
  have es:(own_w (own_w (own_w B 34 0 (8*k+8) (own_gA S)) 33 0 (k+1) (own_ex S K)) 34 (8*k+8) (8*k+8+8) fun i=>own_fw (own_w (own_w B 34 0 (8*k+8) (own_gA S)) 33 0 (k+1) (own_ex S K) 0 4) (own_bm (own_w (own_w B 34 0 (8*k+8) (own_gA S)) 33 0 (k+1) (own_ex S K)) k) (fun t=>own_w (own_w B 34 0 (8*k+8) (own_gA S)) 33 0 (k+1) (own_ex S K) 34 (8*k+t)) 16 (i-(8*k+8)))=own_w (own_w B 34 0 (8*(k+1)+8) (own_gA S)) 33 0 (k+1) (own_ex S K):=by
   rw[own_wc (by decide),show 8*(k+1)+8=8*k+8+8 from by omega,←own_wa (S:=B) (c:=34) (a:=0) (b:=8*k+8) (e:=8*k+8+8) (by omega) (by omega)]
   congr 1
   refine own_wg fun i h1 h2=>?_
   rw[own_wn (by decide),own_wn (by decide),B0,own_bmw (by omega),own_bmw (by omega),←hB,own_bmw (by omega)]
   unfold own_gA
   rw[show i/8=k+1 from by omega,show i-(8*k+8)=i%8 from by omega]
   refine own_fwc (fun t ht=>?_) 16 (by omega) _
   rw[own_wn (by decide),own_wr (by omega) (by omega)]
   show own_al S ((8*k+t)/8) ((8*k+t)%8)=_
   rw[show (8*k+t)/8=k from by omega,show (8*k+t)%8=t from by omega]
  rw[es]
 refine Eq.trans ?_ (k2.trans ?_)
 ·show _=f1 (_,_,_,_,own_w _ 33 0 0 _)
  rw[own_w0];rfl
 ·show f1 _=_
  have T3:own_T K (own_w (own_w B 34 0 (8*K+8) (own_gA S)) 33 0 K (own_ex S K)):=own_Tw (own_Tw TB (by omega)) (by omega)
  rw[e1_40_37 hf1,T3.1.1,if_neg (by rw[own_lt (by omega) (by omega)];omega),←hB]
  rfl
end Csd2
def own_sg(b:Nat)(x:Int):Prop:=(b=1→0≤x)∧(b=0→x≤0)
def own_es(b:Nat→Nat):Nat→Nat
 |0=>0
 |k+1=>own_nx (own_es b k*2+b k)
def own_bd(m:Int)(x:Int32):Prop:= -m≤x.toInt∧x.toInt≤m
def own_N(S:MS)(K:Nat)(b:Nat→Nat):Prop:=(∀k,k<K→b k≤1)∧(∀k,k<K→own_bd 127 (S 28 k)∧own_bd 1023 (S 29 k)∧own_bd 127 (S 30 k)∧own_sg (b k) ((S 28 k).toInt+(S 29 k).toInt)∧own_sg (own_pr (own_es b k*2+b k)) (S 30 k).toInt)∧(∀n,n<3→own_bd 127 (S 31 n)∧own_bd 127 (S 32 n)∧own_sg (own_ti (own_ts (own_es b K) n)) (S 31 n).toInt∧own_sg (own_pr (own_ts (own_es b K) n*2+own_ti (own_ts (own_es b K) n))) (S 32 n).toInt)∧S 0 3 = -268435456∧S 0 4 = -1073741824
theorem own_es8{b:Nat→Nat}{K:Nat}(h:∀k,k<K→b k≤1):∀k,k≤K→own_es b k<8
 |0,_=>by show 0<8;decide
 |k+1,hk=>own_nx8 (by have h1:=own_es8 h k (by omega);have h2:=h k (by omega);omega)
theorem own_t01{b:Nat}(h:b≤1)(x:Int32):(Int32.ofNat b*x).toInt=(b:Int)*x.toInt:=by
 rcases (show b=0∨b=1 by omega) with e | e
 ·subst e;rw[show Int32.ofNat 0=0 from rfl,Int32.zero_mul];simp
 ·subst e;rw[show Int32.ofNat 1=1 from rfl,Int32.one_mul];simp
theorem own_tad{x y:Int32}(h1 : -2147483648≤x.toInt+y.toInt)(h2:x.toInt+y.toInt≤2147483647):(x+y).toInt=x.toInt+y.toInt:=by
 rw[Int32.toInt_add];exact bm32 (by omega) (by omega)
theorem own_tsb{x y:Int32}(h1 : -2147483648≤x.toInt-y.toInt)(h2:x.toInt-y.toInt≤2147483647):(x-y).toInt=x.toInt-y.toInt:=by
 rw[Int32.toInt_sub];exact bm32 (by omega) (by omega)
theorem own_le_mx(a b:Int32):a.toInt≤(own_mx a b).toInt∧b.toInt≤(own_mx a b).toInt∧(own_mx a b=a∨own_mx a b=b):=by
 unfold own_mx
 by_cases h:a<b
 ·rw[if_pos h];rw[Int32.lt_iff_toInt_lt] at h;exact⟨by omega,by omega,Or.inr rfl⟩
 ·rw[if_neg h];rw[Int32.lt_iff_toInt_lt] at h;exact⟨by omega,by omega,Or.inl rfl⟩
def own_G(S:MS)(k j:Nat):Int:=((j%2:Nat):Int)*((S 28 k).toInt+(S 29 k).toInt)+(own_pr j:Int)*(S 30 k).toInt
theorem own_m01{b:Nat}(h:b≤1)(x:Int):(b:Int)*x=if b=1 then x else 0:=by
 rcases (show b=0∨b=1 by omega) with e | e<;>subst e<;>simp
theorem own_bmG{S:MS}{K:Nat}{b:Nat→Nat}(N:own_N S K b){k j:Nat}(hk:k<K)(hj:j<16):(own_bm S k j).toInt=own_G S k j ∧ -1277≤own_G S k j∧own_G S k j≤1277:=by
 obtain⟨⟨a1,a2⟩,⟨b1,b2⟩,⟨c1,c2⟩,-,-⟩:=N.2.1 k hk
 have e1:(S 28 k+S 29 k).toInt=(S 28 k).toInt+(S 29 k).toInt:=own_tad (by omega) (by omega)
 have hp:=own_pr1 hj
 unfold own_bm own_G
 have m1:=own_m01 (b:=j%2) (by omega) ((S 28 k).toInt+(S 29 k).toInt)
 have m2:=own_m01 hp (S 30 k).toInt
 have t1:(Int32.ofNat (j%2)*(S 28 k+S 29 k)).toInt=((j%2:Nat):Int)*((S 28 k).toInt+(S 29 k).toInt):=by rw[own_t01 (by omega),e1]
 have t2:=own_t01 hp (S 30 k)
 rw[m1] at t1
 rw[m2] at t2
 rw[m1,m2]
 have r1 : -1150≤(if j%2=1 then (S 28 k).toInt+(S 29 k).toInt else 0)∧(if j%2=1 then (S 28 k).toInt+(S 29 k).toInt else 0)≤1150:=by split<;>omega
 have r2 : -127≤(if own_pr j=1 then (S 30 k).toInt else 0)∧(if own_pr j=1 then (S 30 k).toInt else 0)≤127:=by split<;>omega
 refine⟨?_,by omega,by omega⟩
 rw[own_tad (by rw[t1,t2];omega) (by rw[t1,t2];omega),t1,t2]
theorem own_Gmx{S:MS}{K:Nat}{b:Nat→Nat}(N:own_N S K b){k j:Nat}(hk:k<K)(hj:j<16):own_G S k j≤own_G S k (own_es b k*2+b k)∧(b k=1→j%2=0→own_G S k j≤own_G S k (own_es b k*2+b k)-((S 28 k).toInt+(S 29 k).toInt))∧(b k=0→j%2=1→own_G S k j≤own_G S k (own_es b k*2+b k)+((S 28 k).toInt+(S 29 k).toInt)):=by
 obtain⟨-,-,-,⟨d1,d2⟩,⟨e1,e2⟩⟩:=N.2.1 k hk
 have hb:=N.1 k hk
 have h8:=own_es8 N.1 k (by omega)
 have hp:=own_pr1 hj
 have hq:own_pr (own_es b k*2+b k)≤1:=own_pr1 (by omega)
 unfold own_G
 rw[show (own_es b k*2+b k)%2=b k from by omega,own_m01 (b:=j%2) (by omega),own_m01 hp,own_m01 hb,own_m01 hq]
 have r2:(if own_pr j=1 then (S 30 k).toInt else 0)≤if own_pr (own_es b k*2+b k)=1 then (S 30 k).toInt else 0:=by
  split<;>split<;>(try have:=e1 (by omega))<;>(try have:=e2 (by omega))<;>omega
 refine⟨?_,fun h h'=>?_,fun h h'=>?_⟩
 ·have r1:(if j%2=1 then (S 28 k).toInt+(S 29 k).toInt else 0)≤if b k=1 then (S 28 k).toInt+(S 29 k).toInt else 0:=by
   split<;>split<;>(try have:=d1 (by omega))<;>(try have:=d2 (by omega))<;>omega
  omega
 ·rw[if_pos h,if_neg (show ¬j%2=1 by omega)];omega
 ·rw[if_neg (show ¬b k=1 by omega),if_pos h'];omega
theorem own_tmB{S:MS}{K:Nat}{b:Nat→Nat}(N:own_N S K b){s:Nat}(hs:s<8):∀n:Nat,n≤3 → -(254*n:Int)≤(own_tm S s n).toInt∧(own_tm S s n).toInt≤254*n∧(own_tm S s n).toInt≤(own_tm S (own_es b K) n).toInt
 |0,_=>by simp[own_tm]
 |n+1,hn=>by
  have h8:=own_es8 N.1 K (Nat.le_refl K)
  obtain⟨l1,l2,l3⟩:=own_tmB N hs n (by omega)
  obtain⟨l1',l2',-⟩:=own_tmB N h8 n (by omega)
  obtain⟨⟨a1,a2⟩,⟨c1,c2⟩,⟨d1,d2⟩,⟨e1,e2⟩⟩:=N.2.2.1 n (by omega)
  have g:∀s',s'<8 → -(254*n:Int)≤(own_tm S s' n).toInt→(own_tm S s' n).toInt≤254*n→(own_tm S s' (n+1)).toInt=(own_tm S s' n).toInt+(if own_ti (own_ts s' n)=1 then (S 31 n).toInt else 0)+(if own_pr (own_ts s' n*2+own_ti (own_ts s' n))=1 then (S 32 n).toInt else 0) ∧ -127≤(if own_ti (own_ts s' n)=1 then (S 31 n).toInt else 0)∧(if own_ti (own_ts s' n)=1 then (S 31 n).toInt else 0)≤127 ∧ -127≤(if own_pr (own_ts s' n*2+own_ti (own_ts s' n))=1 then (S 32 n).toInt else 0)∧(if own_pr (own_ts s' n*2+own_ti (own_ts s' n))=1 then (S 32 n).toInt else 0)≤127:=fun s' hs' k1 k2=>by
   have t8:=own_ts8 hs' n
   have ht:=own_ti1 t8
   have hp:own_pr (own_ts s' n*2+own_ti (own_ts s' n))≤1:=own_pr1 (by omega)
   have t1:=own_t01 ht (S 31 n)
   have t2:=own_t01 hp (S 32 n)
   rw[own_m01 ht] at t1
   rw[own_m01 hp] at t2
   have r1 : -127≤(if own_ti (own_ts s' n)=1 then (S 31 n).toInt else 0)∧(if own_ti (own_ts s' n)=1 then (S 31 n).toInt else 0)≤127:=by split<;>omega
   have r2 : -127≤(if own_pr (own_ts s' n*2+own_ti (own_ts s' n))=1 then (S 32 n).toInt else 0)∧(if own_pr (own_ts s' n*2+own_ti (own_ts s' n))=1 then (S 32 n).toInt else 0)≤127:=by split<;>omega
   refine⟨?_,r1.1,r1.2,r2.1,r2.2⟩
   simp only[own_tm]
   have q1:(own_tm S s' n+Int32.ofNat (own_ti (own_ts s' n))*S 31 n).toInt=(own_tm S s' n).toInt+(if own_ti (own_ts s' n)=1 then (S 31 n).toInt else 0):=by
    rw[own_tad (by rw[t1];omega) (by rw[t1];omega),t1]
   rw[own_tad (by rw[q1,t2];omega) (by rw[q1,t2];omega),q1,t2]
  obtain⟨g1,g2,g3,g4,g5⟩:=g s hs l1 l2
  obtain⟨g1',-,-,-,-⟩:=g _ h8 l1' l2'
  have ht:=own_ti1 (own_ts8 hs n)
  have ht':=own_ti1 (own_ts8 h8 n)
  have hp:own_pr (own_ts s n*2+own_ti (own_ts s n))≤1:=own_pr1 (by have:=own_ts8 hs n;omega)
  have hp':own_pr (own_ts (own_es b K) n*2+own_ti (own_ts (own_es b K) n))≤1:=own_pr1 (by have:=own_ts8 h8 n;omega)
  have r1:(if own_ti (own_ts s n)=1 then (S 31 n).toInt else 0)≤if own_ti (own_ts (own_es b K) n)=1 then (S 31 n).toInt else 0:=by
   split<;>split<;>(try have:=d1 (by omega))<;>(try have:=d2 (by omega))<;>omega
  have r2:(if own_pr (own_ts s n*2+own_ti (own_ts s n))=1 then (S 32 n).toInt else 0)≤if own_pr (own_ts (own_es b K) n*2+own_ti (own_ts (own_es b K) n))=1 then (S 32 n).toInt else 0:=by
   split<;>split<;>(try have:=e1 (by omega))<;>(try have:=e2 (by omega))<;>omega
  rw[g1,g1']
  refine⟨by omega,by omega,by omega⟩
theorem own_beB{S:MS}{K:Nat}{b:Nat→Nat}(N:own_N S K b)(hK:K≤64):∀d:Nat,d≤K→∀s:Nat,s<8 → -(1277*d+762:Int)≤(own_be S K d s).toInt∧(own_be S K d s).toInt≤1277*d+762∧(own_be S K d s).toInt≤(own_be S K d (own_es b (K-d))).toInt
 |0,_,s,hs=>by
  have h:=own_tmB N hs 3 (by omega)
  simp only[own_be,Nat.sub_zero]
  refine⟨by omega,by omega,h.2.2⟩
 |d+1,hd,s,hs=>by
  have ih:=own_beB N hK d (by omega)
  have hk:K-1-d<K:=by omega
  have h8:=own_es8 N.1 (K-1-d) (by omega)
  have hb:=N.1 _ hk
  have hl:(S 0 4).toInt = -1073741824:=by rw[N.2.2.2.2];decide
  have g:∀j,j<16→(own_bm S (K-1-d) j+own_be S K d (own_nx j)).toInt=own_G S (K-1-d) j+(own_be S K d (own_nx j)).toInt ∧ -1277≤own_G S (K-1-d) j∧own_G S (K-1-d) j≤1277 ∧ -(1277*d+762:Int)≤(own_be S K d (own_nx j)).toInt∧(own_be S K d (own_nx j)).toInt≤1277*d+762∧(own_be S K d (own_nx j)).toInt≤(own_be S K d (own_es b (K-d))).toInt:=fun j hj=>by
   obtain⟨e,r1,r2⟩:=own_bmG N hk hj
   obtain⟨i1,i2,i3⟩:=ih _ (own_nx8 hj)
   refine⟨?_,r1,r2,i1,i2,i3⟩
   rw[own_tad (by rw[e];omega) (by rw[e];omega),e]
  have G:∀s,s<8→own_be S K (d+1) s=own_mx (own_mx (S 0 4) (own_bm S (K-1-d) (s*2+0)+own_be S K d (own_nx (s*2+0)))) (own_bm S (K-1-d) (s*2+1)+own_be S K d (own_nx (s*2+1))):=fun _ _=>rfl
  have U:∀s,s<8 → -(1277*((d:Int)+1)+762:Int)≤(own_be S K (d+1) s).toInt∧(own_be S K (d+1) s).toInt≤1277*((d:Int)+1)+762∧(own_be S K (d+1) s).toInt≤own_G S (K-1-d) (own_es b (K-1-d)*2+b (K-1-d))+(own_be S K d (own_es b (K-d))).toInt:=fun s hs=>by
   rw[G s hs]
   obtain⟨p1,p2,p3,p4,p5,p6⟩:=g (s*2+0) (by omega)
   obtain⟨q1,q2,q3,q4,q5,q6⟩:=g (s*2+1) (by omega)
   have P:=(own_Gmx N hk (j:=s*2+0) (by omega)).1
   have Q:=(own_Gmx N hk (j:=s*2+1) (by omega)).1
   obtain⟨m1,m2,m3⟩:=own_le_mx (S 0 4) (own_bm S (K-1-d) (s*2+0)+own_be S K d (own_nx (s*2+0)))
   obtain⟨n1,n2,n3⟩:=own_le_mx (own_mx (S 0 4) (own_bm S (K-1-d) (s*2+0)+own_be S K d (own_nx (s*2+0)))) (own_bm S (K-1-d) (s*2+1)+own_be S K d (own_nx (s*2+1)))
   rcases n3 with n3 | n3<;>rcases m3 with m3 | m3<;>rw[n3] at n1 n2 ⊢ <;> (try rw[m3] at m1 m2 n1 n2 ⊢)<;>refine⟨by omega,by omega,by omega⟩
  have A:own_G S (K-1-d) (own_es b (K-1-d)*2+b (K-1-d))+(own_be S K d (own_es b (K-d))).toInt≤(own_be S K (d+1) (own_es b (K-1-d))).toInt:=by
   rw[G _ h8]
   have en:own_es b (K-d)=own_nx (own_es b (K-1-d)*2+b (K-1-d)):=by
    rw[show K-d=(K-1-d)+1 from by omega];rfl
   obtain⟨m1,m2,-⟩:=own_le_mx (S 0 4) (own_bm S (K-1-d) (own_es b (K-1-d)*2+0)+own_be S K d (own_nx (own_es b (K-1-d)*2+0)))
   obtain⟨n1,n2,-⟩:=own_le_mx (own_mx (S 0 4) (own_bm S (K-1-d) (own_es b (K-1-d)*2+0)+own_be S K d (own_nx (own_es b (K-1-d)*2+0)))) (own_bm S (K-1-d) (own_es b (K-1-d)*2+1)+own_be S K d (own_nx (own_es b (K-1-d)*2+1)))
   rw[en]
   rcases (show b (K-1-d)=0∨b (K-1-d)=1 by omega) with e | e<;>rw[e]
   ·have:=(g (own_es b (K-1-d)*2+0) (by omega)).1;omega
   ·have:=(g (own_es b (K-1-d)*2+1) (by omega)).1;omega
  obtain⟨u1,u2,u3⟩:=U s hs
  rw[show K-(d+1)=K-1-d from by omega]
  refine⟨?_,?_,by omega⟩<;>push_cast<;>omega
theorem own_fw1{lo:Int32}{γ α:Nat→Int32}{t:Nat}:∀j i,i<j→own_nx i=t→(α (i/2)+γ i).toInt≤(own_fw lo γ α j t).toInt
 |j+1,i,h,e=>by
  simp only[own_fw]
  by_cases q:t=own_nx j
  ·rw[if_pos q]
   obtain⟨m1,m2,-⟩:=own_le_mx (own_fw lo γ α j t) (α (j/2)+γ j)
   by_cases r:i=j
   ·subst r;exact m2
   ·exact Int.le_trans (own_fw1 j i (by omega) e) m1
  ·rw[if_neg q]
   exact own_fw1 j i (by have:i≠j:=fun r=>q (r▸e.symm);omega) e
theorem own_fw2{lo:Int32}{γ α:Nat→Int32}{t:Nat}:∀j,own_fw lo γ α j t=lo∨∃i,i<j∧own_nx i=t∧own_fw lo γ α j t=α (i/2)+γ i
 |0=>Or.inl rfl
 |j+1=>by
  simp only[own_fw]
  have ih:=own_fw2 (lo:=lo) (γ:=γ) (α:=α) (t:=t) j
  have ih':own_fw lo γ α j t=lo∨∃i,i<j+1∧own_nx i=t∧own_fw lo γ α j t=α (i/2)+γ i:=by
   rcases ih with ih | ⟨i,h1,h2,h3⟩
   ·exact Or.inl ih
   ·exact Or.inr ⟨i,by omega,h2,h3⟩
  by_cases q:t=own_nx j
  ·rw[if_pos q]
   rcases (own_le_mx (own_fw lo γ α j t) (α (j/2)+γ j)).2.2 with e | e<;>rw[e]
   ·exact ih'
   ·exact Or.inr ⟨j,by omega,q.symm,rfl⟩
  ·rw[if_neg q];exact ih'
theorem own_on:∀t,t<8→∃i,i<16∧own_nx i=t:=by decide
theorem own_alB{S:MS}{K:Nat}{b:Nat→Nat}(N:own_N S K b)(hK:K≤64):∀k:Nat,k≤K→∀s:Nat,s<8 → -(1277*k+268435456:Int)≤(own_al S k s).toInt∧(own_al S k s).toInt≤1277*k∧(own_al S k s).toInt≤(own_al S k (own_es b k)).toInt
 |0,_,s,hs=>by
  have h3:(S 0 3).toInt = -268435456:=by rw[N.2.2.2.1];decide
  have h0:(0:Int32).toInt=0:=rfl
  have e0:own_al S 0 (own_es b 0)=0:=if_pos rfl
  rw[e0]
  simp only[own_al]
  split<;>refine⟨by omega,by omega,by omega⟩
 |k+1,hk',s,hs=>by
  have ih:=own_alB N hK k (by omega)
  have hk:k<K:=by omega
  have h8:=own_es8 N.1 k (by omega)
  have h8':=own_es8 N.1 (k+1) hk'
  have hb:=N.1 _ hk
  have hl:(S 0 4).toInt = -1073741824:=by rw[N.2.2.2.2];decide
  have g:∀j,j<16→(own_al S k (j/2)+own_bm S k j).toInt=(own_al S k (j/2)).toInt+own_G S k j ∧ -1277≤own_G S k j∧own_G S k j≤1277 ∧ -(1277*k+268435456:Int)≤(own_al S k (j/2)).toInt∧(own_al S k (j/2)).toInt≤1277*k∧(own_al S k (j/2)).toInt≤(own_al S k (own_es b k)).toInt:=fun j hj=>by
   obtain⟨e,r1,r2⟩:=own_bmG N hk hj
   obtain⟨i1,i2,i3⟩:=ih (j/2) (by omega)
   refine⟨?_,r1,r2,i1,i2,i3⟩
   rw[own_tad (by rw[e];omega) (by rw[e];omega),e]
  have A:(own_al S k (own_es b k)).toInt+own_G S k (own_es b k*2+b k)≤(own_al S (k+1) (own_es b (k+1))).toInt:=by
   have h:=own_fw1 (lo:=S 0 4) (γ:=own_bm S k) (α:=own_al S k) (t:=own_es b (k+1)) 16 (own_es b k*2+b k) (by omega) rfl
   rw[(g (own_es b k*2+b k) (by omega)).1,show (own_es b k*2+b k)/2=own_es b k from by omega] at h
   exact h
  have L : -(1277*((k:Int)+1)+268435456:Int)≤(own_al S (k+1) s).toInt:=by
   obtain⟨i,hi,e⟩:=own_on s hs
   have h:=own_fw1 (lo:=S 0 4) (γ:=own_bm S k) (α:=own_al S k) (t:=s) 16 i hi e
   obtain⟨p1,p2,p3,p4,p5,p6⟩:=g i hi
   show _≤(own_fw (S 0 4) (own_bm S k) (own_al S k) 16 s).toInt
   omega
  have U:(own_al S (k+1) s).toInt≤1277*((k:Int)+1)∧(own_al S (k+1) s).toInt≤(own_al S k (own_es b k)).toInt+own_G S k (own_es b k*2+b k):=by
   show (own_fw (S 0 4) (own_bm S k) (own_al S k) 16 s).toInt≤_∧(own_fw (S 0 4) (own_bm S k) (own_al S k) 16 s).toInt≤_
   have z:=(g (own_es b k*2+b k) (by omega))
   rcases own_fw2 (lo:=S 0 4) (γ:=own_bm S k) (α:=own_al S k) (t:=s) 16 with e | ⟨i,hi,-,e⟩
   ·rw[e];obtain⟨i1,i2,i3⟩:=ih _ h8;refine⟨by omega,by omega⟩
   ·rw[e]
    obtain⟨p1,p2,p3,p4,p5,p6⟩:=g i hi
    have P:=(own_Gmx N hk hi).1
    refine⟨by omega,by omega⟩
  refine⟨?_,?_,by omega⟩<;>push_cast<;>omega
theorem own_sf1{lo:Int32}{γ α β:Nat→Int32}{u:Nat}:∀j i,i<j→i%2=u→(α (i/2)+γ i+β (own_nx i)).toInt≤(own_sf lo γ α β u j).toInt
 |j+1,i,h,e=>by
  simp only[own_sf]
  by_cases q:j%2=u
  ·rw[if_pos q]
   obtain⟨m1,m2,-⟩:=own_le_mx (own_sf lo γ α β u j) (α (j/2)+γ j+β (own_nx j))
   by_cases r:i=j
   ·subst r;exact m2
   ·exact Int.le_trans (own_sf1 j i (by omega) e) m1
  ·rw[if_neg q]
   exact own_sf1 j i (by have:i≠j:=fun r=>q (r▸e);omega) e
theorem own_sf2{lo:Int32}{γ α β:Nat→Int32}{u:Nat}:∀j,own_sf lo γ α β u j=lo∨∃i,i<j∧i%2=u∧own_sf lo γ α β u j=α (i/2)+γ i+β (own_nx i)
 |0=>Or.inl rfl
 |j+1=>by
  simp only[own_sf]
  have ih:=own_sf2 (lo:=lo) (γ:=γ) (α:=α) (β:=β) (u:=u) j
  have ih':own_sf lo γ α β u j=lo∨∃i,i<j+1∧i%2=u∧own_sf lo γ α β u j=α (i/2)+γ i+β (own_nx i):=by
   rcases ih with ih | ⟨i,h1,h2,h3⟩
   ·exact Or.inl ih
   ·exact Or.inr ⟨i,by omega,h2,h3⟩
  by_cases q:j%2=u
  ·rw[if_pos q]
   rcases (own_le_mx (own_sf lo γ α β u j) (α (j/2)+γ j+β (own_nx j))).2.2 with e | e<;>rw[e]
   ·exact ih'
   ·exact Or.inr ⟨j,by omega,q,rfl⟩
  ·rw[if_neg q];exact ih'
theorem own_exP{S:MS}{K:Nat}{b:Nat→Nat}(N:own_N S K b)(hK:K≤64){k:Nat}(hk:k<K):own_bd 1023 (own_ex S K k)∧own_sg (b k) (own_ex S K k).toInt:=by
 obtain⟨⟨a1,a2⟩,⟨b1,b2⟩,-,⟨d1,d2⟩,-⟩:=N.2.1 k hk
 have h8:=own_es8 N.1 k (by omega)
 have h8':=own_es8 N.1 (k+1) hk
 have hb:=N.1 _ hk
 have hl:(S 0 4).toInt = -1073741824:=by rw[N.2.2.2.2];decide
 have hA:=own_alB N hK k (by omega)
 have hB:=own_beB N hK (K-(k+1)) (by omega)
 rw[show K-(K-(k+1))=k+1 from by omega] at hB
 have hd:((K-(k+1):Nat):Int)≤64:=by omega
 generalize hbe:own_be S K (K-(k+1))=be at hB
 generalize hal:own_al S k=al at hA
 have g:∀j,j<16→(al (j/2)+own_bm S k j+be (own_nx j)).toInt=(al (j/2)).toInt+own_G S k j+(be (own_nx j)).toInt ∧ -1277≤own_G S k j∧own_G S k j≤1277 ∧ -(1277*k+268435456:Int)≤(al (j/2)).toInt∧(al (j/2)).toInt≤1277*k∧(al (j/2)).toInt≤(al (own_es b k)).toInt ∧ -(1277*64+762:Int)≤(be (own_nx j)).toInt∧(be (own_nx j)).toInt≤1277*64+762∧(be (own_nx j)).toInt≤(be (own_es b (k+1))).toInt:=fun j hj=>by
  obtain⟨e,r1,r2⟩:=own_bmG N hk hj
  obtain⟨i1,i2,i3⟩:=hA (j/2) (by omega)
  obtain⟨j1,j2,j3⟩:=hB (own_nx j) (own_nx8 hj)
  have e1:(al (j/2)+own_bm S k j).toInt=(al (j/2)).toInt+own_G S k j:=by
   rw[own_tad (by rw[e];omega) (by rw[e];omega),e]
  refine⟨?_,r1,r2,i1,i2,i3,by omega,by omega,j3⟩
  rw[own_tad (by rw[e1];omega) (by rw[e1];omega),e1]
 have M:=g (own_es b k*2+b k) (by omega)
 rw[show (own_es b k*2+b k)/2=own_es b k from by omega,show own_nx (own_es b k*2+b k)=own_es b (k+1) from rfl] at M
 have R:∀u,u≤1 → -300000000≤(own_sf (S 0 4) (own_bm S k) al be u 16).toInt∧(own_sf (S 0 4) (own_bm S k) al be u 16).toInt≤1000000:=fun u hu=>by
  have l:=own_sf1 (lo:=S 0 4) (γ:=own_bm S k) (α:=al) (β:=be) (u:=u) 16 u (by omega) (by omega)
  obtain⟨p1,p2,p3,p4,p5,p6,p7,p8,p9⟩:=g u (by omega)
  refine⟨by omega,?_⟩
  rcases own_sf2 (lo:=S 0 4) (γ:=own_bm S k) (α:=al) (β:=be) (u:=u) 16 with e | ⟨i,hi,-,e⟩
  ·rw[e];omega
  ·rw[e];obtain⟨p1,p2,p3,p4,p5,p6,p7,p8,p9⟩:=g i hi;omega
 obtain⟨r0,r0'⟩:=R 0 (by omega)
 obtain⟨r1,r1'⟩:=R 1 (by omega)
 have top:(al (own_es b k)).toInt+own_G S k (own_es b k*2+b k)+(be (own_es b (k+1))).toInt≤(own_sf (S 0 4) (own_bm S k) al be (b k) 16).toInt:=by
  have l:=own_sf1 (lo:=S 0 4) (γ:=own_bm S k) (α:=al) (β:=be) (u:=b k) 16 (own_es b k*2+b k) (by omega) (by omega)
  rw[show (own_es b k*2+b k)/2=own_es b k from by omega,show own_nx (own_es b k*2+b k)=own_es b (k+1) from rfl,M.1] at l
  exact l
 unfold own_ex
 rw[hbe,hal]
 have t1:(own_sf (S 0 4) (own_bm S k) al be 1 16-own_sf (S 0 4) (own_bm S k) al be 0 16).toInt=(own_sf (S 0 4) (own_bm S k) al be 1 16).toInt-(own_sf (S 0 4) (own_bm S k) al be 0 16).toInt:=own_tsb (by omega) (by omega)
 have t2:(own_sf (S 0 4) (own_bm S k) al be 1 16-own_sf (S 0 4) (own_bm S k) al be 0 16-S 28 k).toInt=(own_sf (S 0 4) (own_bm S k) al be 1 16).toInt-(own_sf (S 0 4) (own_bm S k) al be 0 16).toInt-(S 28 k).toInt:=by
  rw[own_tsb (by rw[t1];omega) (by rw[t1];omega),t1]
 have t3:(own_sf (S 0 4) (own_bm S k) al be 1 16-own_sf (S 0 4) (own_bm S k) al be 0 16-S 28 k-S 29 k).toInt=(own_sf (S 0 4) (own_bm S k) al be 1 16).toInt-(own_sf (S 0 4) (own_bm S k) al be 0 16).toInt-(S 28 k).toInt-(S 29 k).toInt:=by
  rw[own_tsb (by rw[t2];omega) (by rw[t2];omega),t2]
 have key:own_sg (b k) ((own_sf (S 0 4) (own_bm S k) al be 1 16).toInt-(own_sf (S 0 4) (own_bm S k) al be 0 16).toInt-(S 28 k).toInt-(S 29 k).toInt):=by
  refine⟨fun h=>?_,fun h=>?_⟩
  ·rw[h] at top
   have lo0:(own_sf (S 0 4) (own_bm S k) al be 0 16).toInt≤(al (own_es b k)).toInt+own_G S k (own_es b k*2+1)+(be (own_es b (k+1))).toInt-((S 28 k).toInt+(S 29 k).toInt):=by
    rw[h] at M
    rcases own_sf2 (lo:=S 0 4) (γ:=own_bm S k) (α:=al) (β:=be) (u:=0) 16 with e | ⟨i,hi,hu,e⟩
    ·rw[e];omega
    ·rw[e]
     obtain⟨p1,p2,p3,p4,p5,p6,p7,p8,p9⟩:=g i hi
     have P:=(own_Gmx N hk hi).2.1 h hu
     rw[h] at P
     omega
   omega
  ·rw[h] at top
   have lo1:(own_sf (S 0 4) (own_bm S k) al be 1 16).toInt≤(al (own_es b k)).toInt+own_G S k (own_es b k*2+0)+(be (own_es b (k+1))).toInt+((S 28 k).toInt+(S 29 k).toInt):=by
    rw[h] at M
    rcases own_sf2 (lo:=S 0 4) (γ:=own_bm S k) (α:=al) (β:=be) (u:=1) 16 with e | ⟨i,hi,hu,e⟩
    ·rw[e];omega
    ·rw[e]
     obtain⟨p1,p2,p3,p4,p5,p6,p7,p8,p9⟩:=g i hi
     have P:=(own_Gmx N hk hi).2.2 h hu
     rw[h] at P
     omega
   omega
 rw[←t3] at key
 generalize own_sf (S 0 4) (own_bm S k) al be 1 16-own_sf (S 0 4) (own_bm S k) al be 0 16-S 28 k-S 29 k=x at key
 have n1:(-1023:Int32).toInt = -1023:=rfl
 have n2:(1023:Int32).toInt=1023:=rfl
 unfold own_cl own_bd own_sg
 obtain⟨k1,k2⟩:=key
 by_cases c1:x < -1023
 ·rw[if_pos c1];rw[Int32.lt_iff_toInt_lt] at c1
  refine⟨⟨by omega,by omega⟩,fun h=>?_,fun h=>by omega⟩
  have:=k1 h;omega
 ·rw[if_neg c1];rw[Int32.lt_iff_toInt_lt] at c1
  by_cases c2:1023<x
  ·rw[if_pos c2];rw[Int32.lt_iff_toInt_lt] at c2
   refine⟨⟨by omega,by omega⟩,fun h=>by omega,fun h=>?_⟩
   have:=k2 h;omega
  ·rw[if_neg c2];rw[Int32.lt_iff_toInt_lt] at c2
   exact⟨⟨by omega,by omega⟩,k1,k2⟩
theorem own_w2{S:MS}{c1 c2 n:Nat}{g1 g2:Nat→Int32}{v1 v2:Int32}(h:c1≠c2)(e1:v1=g1 n)(e2:v2=g2 n):Jvm.OM.upd (Jvm.OM.upd (own_w (own_w S c1 0 n g1) c2 0 n g2) c1 n v1) c2 n v2=own_w (own_w S c1 0 (n+1) g1) c2 0 (n+1) g2:=by
 rw[own_wu (c':=c1) h,own_wup (Nat.zero_le n) e1,own_wup (Nat.zero_le n) e2]
theorem own_w3{S:MS}{c1 c2 c3 n:Nat}{g1 g2 g3:Nat→Int32}{v1 v2 v3:Int32}(h:c1≠c2)(h':c1≠c3)(h'':c2≠c3)(e1:v1=g1 n)(e2:v2=g2 n)(e3:v3=g3 n):Jvm.OM.upd (Jvm.OM.upd (Jvm.OM.upd (own_w (own_w (own_w S c1 0 n g1) c2 0 n g2) c3 0 n g3) c1 n v1) c2 n v2) c3 n v3=own_w (own_w (own_w S c1 0 (n+1) g1) c2 0 (n+1) g2) c3 0 (n+1) g3:=by
 rw[own_wu (c':=c1) h',own_wu (c':=c1) h,own_wup (Nat.zero_le n) e1,own_wu (c':=c2) h'',own_wup (Nat.zero_le n) e2,own_wup (Nat.zero_le n) e3]
theorem own_b1{j:Nat}(h:j<64):Int32.ofNat j&&&1=Int32.ofNat (j%2):=(show ∀j,j<64→Int32.ofNat j&&&1=Int32.ofNat (j%2) by decide) j h
theorem own_z0:Int32.ofNat 0=0:=rfl
theorem own_z1:¬Int32.ofNat 1=0:=by decide
theorem own_yy1:¬(1:Nat)=0:=by decide
def own_tb(r K:Nat):Nat:=if r=0 then 3*K else 2*K
def own_tx(r K d u t:Nat):Nat:=own_tb r K+(if d=2 then 6 else 0)+2*t+u
def own_si(r i:Nat):Nat:=if r=0 then 3*i else 2*i
def own_C(r K:Nat)(S:MS):Prop:=S 0 1=Int32.ofNat r∧r≤1∧S 0 2=Int32.ofNat (own_tb r K+12)∧S 0 3 = -268435456∧S 0 4 = -1073741824
def own_P(K:Nat)(p q:Nat→Nat)(S:MS):Prop:=∀i,i<K→(S 1 i=Int32.ofNat (p i)∧p i<K∧q (p i)=i)∧S 2 i=Int32.ofNat (q i)∧q i<K∧p (q i)=i
def own_fr(a:Nat)(S S':MS):Prop:=∀c,c<a→∀i,S' c i=S c i
theorem own_frr(a:Nat)(S:MS):own_fr a S S:=fun _ _ _=>rfl
theorem own_frt{a:Nat}{S S' S'':MS}(h:own_fr a S S')(h':own_fr a S' S''):own_fr a S S'':=fun c hc i=>(h' c hc i).trans (h c hc i)
theorem own_frm{a b:Nat}{S S':MS}(h:own_fr a S S')(hab:b≤a):own_fr b S S':=fun c hc i=>h c (by omega) i
theorem own_frw{a c x y:Nat}{S S':MS}{g:Nat→Int32}(h:own_fr a S S')(hc:a≤c):own_fr a S (own_w S' c x y g):=fun d hd i=>by rw[own_wn (by omega)];exact h d hd i
theorem own_frT{K:Nat}{S S':MS}(h:own_fr 21 S S')(T:own_T K S):own_T K S':=
 ⟨⟨(h 0 (by omega) 0).trans T.1.1,T.1.2⟩,fun j hj=>(h 18 (by omega) j).trans (T.2.1 j hj),fun j hj=>(h 19 (by omega) j).trans (T.2.2.1 j hj),fun j hj=>(h 20 (by omega) j).trans (T.2.2.2 j hj)⟩
theorem own_frC{r K:Nat}{S S':MS}(h:own_fr 21 S S')(C:own_C r K S):own_C r K S':=
 ⟨(h 0 (by omega) 1).trans C.1,C.2.1,(h 0 (by omega) 2).trans C.2.2.1,(h 0 (by omega) 3).trans C.2.2.2.1,(h 0 (by omega) 4).trans C.2.2.2.2⟩
theorem own_frP{K:Nat}{p q:Nat→Nat}{S S':MS}(h:own_fr 21 S S')(P:own_P K p q S):own_P K p q S':=fun i hi=>by
 obtain⟨⟨h1,h2,h3⟩,h4,h5⟩:=P i hi
 exact⟨⟨(h 1 (by omega) i).trans h1,h2,h3⟩,(h 2 (by omega) i).trans h4,h5⟩
theorem own_csfr(S:MS)(K:Nat):own_fr 33 S (own_cs S K):=own_frw (own_frw (own_frw (own_frr _ _) (by omega)) (by omega)) (by omega)
def own_LT(S:MS)(r K d:Nat):MS:=own_w (own_w S 31 0 3 fun t=>S 7 (own_tx r K d 0 t)) 32 0 3 fun t=>S 7 (own_tx r K d 1 t)
def own_X1(S:MS)(r K:Nat):MS:=own_LT (own_w (own_w (own_w S 28 0 K (S 21)) 29 0 K (S 25)) 30 0 K (S 22)) r K 1
def own_X2(S:MS)(r K:Nat)(p:Nat→Nat):MS:=own_LT (own_w (own_w (own_w S 28 0 K fun i=>S 21 (p i)) 29 0 K fun i=>S 24 (p i)) 30 0 K (S 23)) r K 2
def own_D1(S:MS)(r K:Nat):MS:=own_w (own_cs (own_X1 S r K) K) 24 0 K (own_ex (own_X1 S r K) K)
def own_D2(S:MS)(r K:Nat)(p q:Nat→Nat):MS:=own_w (own_cs (own_X2 S r K p) K) 25 0 K fun i=>own_ex (own_X2 S r K p) K (q i)
theorem own_X1fr(S:MS)(r K:Nat):own_fr 28 S (own_X1 S r K):=own_frw (own_frw (own_frw (own_frw (own_frw (own_frr _ _) (by omega)) (by omega)) (by omega)) (by omega)) (by omega)
theorem own_X2fr(S:MS)(r K:Nat)(p:Nat→Nat):own_fr 28 S (own_X2 S r K p):=own_frw (own_frw (own_frw (own_frw (own_frw (own_frr _ _) (by omega)) (by omega)) (by omega)) (by omega)) (by omega)
theorem own_D1fr(S:MS)(r K:Nat):own_fr 24 S (own_D1 S r K):=own_frw (own_frt (own_frm (own_X1fr S r K) (by omega)) (own_frm (own_csfr _ K) (by omega))) (by omega)
theorem own_D2fr(S:MS)(r K:Nat)(p q:Nat→Nat):own_fr 25 S (own_D2 S r K p q):=own_frw (own_frt (own_frm (own_X2fr S r K p) (by omega)) (own_frm (own_csfr _ K) (by omega))) (by omega)
def own_gg1(S:MS)(r i:Nat):Int32:=if r=0 then S 7 (3*i+1) else if i%2=0 then S 7 (2*i+1) else 0
def own_gg2(S:MS)(r i:Nat):Int32:=if r=0 then S 7 (3*i+2) else if i%2=1 then S 7 (2*i+1) else 0
def own_ga(S:MS)(r n:Nat):MS:=own_w (own_w (own_w S 21 0 n fun i=>S 7 (own_si r i)) 22 0 n (own_gg1 S r)) 23 0 n (own_gg2 S r)
def own_v(S:MS)(i:Nat):Int32:=S 21 i+S 24 i+S 25 i
def own_dc(S:MS)(i:Nat):Int32:=if 0<own_v S i then 1 else 0
def own_ct(S:MS):Nat→Int32
 |0=>0
 |n+1=>if own_dc S n=S 5 n then own_ct S n else own_ct S n+1
def own_fi(S:MS)(n:Nat):MS:=own_w (own_w S 26 0 n (own_v S)) 27 0 n (own_dc S)
def own_itD(r K:Nat)(p q:Nat→Nat)(S:MS):Nat→MS
 |0=>S
 |n+1=>own_D2 (own_D1 (own_itD r K p q S n) r K) r K p q
theorem own_clr{x a b:Int32}(h:¬b<a):¬own_cl x a b<a∧¬b<own_cl x a b:=by
 unfold own_cl
 by_cases h1:x<a
 ·rw[if_pos h1];exact⟨Int32.lt_irrefl,h⟩
 rw[if_neg h1]
 by_cases h2:b<x
 ·rw[if_pos h2];exact⟨h,Int32.lt_irrefl⟩
 rw[if_neg h2];exact⟨h1,h2⟩
section Dec
variable {f1:FT1}
theorem own_siF(hf1:Fx f1){S:MS}{r:Nat}(hr:S 0 1=Int32.ofNat r)(hr1:r≤1)(i:Nat):f1 (22,0,[.ref 0,.int (Int32.ofNat i)],[],S)=some (some (.int (Int32.ofNat (own_si r i))),S):=by
 rw[e1_22_0 hf1,hr]
 rcases (show r=0∨r=1 by omega) with e | e<;>subst e
 ·rw[if_pos own_z0,own_si,if_pos rfl,←own_mu];rfl
 ·rw[if_neg own_z1,own_si,if_neg own_yy1,←own_mu];rfl
theorem own_p1F(hf1:Fx f1){S:MS}{r:Nat}(hr:S 0 1=Int32.ofNat r)(hr1:r≤1){i:Nat}(hi:i<64):f1 (23,0,[.ref 0,.int (Int32.ofNat i)],[],S)=some (some (.int (if r=0 then Int32.ofNat (3*i+1) else if i%2=0 then Int32.ofNat (2*i+1) else -1)),S):=by
 rw[e1_23_0 hf1,hr]
 rcases (show r=0∨r=1 by omega) with e | e<;>subst e
 ·rw[if_pos own_z0,if_pos rfl,←own_ad,←own_mu];rfl
 ·rw[if_neg own_z1,if_neg own_yy1,own_b1 hi]
  rcases (show i%2=0∨i%2=1 by omega) with e | e<;>rw[e]
  ·rw[if_pos own_z0,if_pos rfl,←own_ad,←own_mu];rfl
  ·rw[if_neg own_z1,if_neg own_yy1]
theorem own_p2F(hf1:Fx f1){S:MS}{r:Nat}(hr:S 0 1=Int32.ofNat r)(hr1:r≤1){i:Nat}(hi:i<64):f1 (24,0,[.ref 0,.int (Int32.ofNat i)],[],S)=some (some (.int (if r=0 then Int32.ofNat (3*i+2) else if i%2=1 then Int32.ofNat (2*i+1) else -1)),S):=by
 rw[e1_24_0 hf1,hr]
 rcases (show r=0∨r=1 by omega) with e | e<;>subst e
 ·rw[if_pos own_z0,if_pos rfl,←own_ad,←own_mu];rfl
 ·rw[if_neg own_z1,if_neg own_yy1,own_b1 hi]
  rcases (show i%2=0∨i%2=1 by omega) with e | e<;>rw[e]
  ·rw[if_neg (show ¬Int32.ofNat 0=1 by decide),if_neg (show ¬(0:Nat)=1 by decide)]
  ·rw[if_pos (show Int32.ofNat 1=1 from rfl),if_pos rfl,←own_ad,←own_mu];rfl
theorem own_txF(hf1:Fx f1){S:MS}{r K:Nat}(h0:S 0 0=Int32.ofNat K)(hr:S 0 1=Int32.ofNat r)(hr1:r≤1){d:Nat}(hd:d=1∨d=2)(u t:Nat):f1 (26,0,[.ref 0,.int (Int32.ofNat d),.int (Int32.ofNat u),.int (Int32.ofNat t)],[],S)=some (some (.int (Int32.ofNat (own_tx r K d u t))),S):=by
 have hb:f1 (25,0,[.ref 0],[],S)=some (some (.int (Int32.ofNat (own_tb r K))),S):=by
  rw[e1_25_0 hf1,hr,h0]
  rcases (show r=0∨r=1 by omega) with e | e<;>subst e
  ·rw[if_pos own_z0,own_tb,if_pos rfl,←own_mu];rfl
  ·rw[if_neg own_z1,own_tb,if_neg own_yy1,←own_mu];rfl
 rw[e1_26_0 hf1,hb]
 simp only[Option.bind_some,Option.toList_some,List.cons_append,List.nil_append]
 rw[e1_26_4 hf1]
 unfold own_tx
 rcases hd with e | e<;>subst e
 ·rw[if_neg (show ¬Int32.ofNat 1=2 by decide),if_neg (show ¬(1:Nat)=2 by decide),Nat.add_zero,←own_ad,←own_ad,←own_mu];rfl
 ·rw[if_pos (show Int32.ofNat 2=2 from rfl),if_pos rfl,←own_ad,←own_ad,←own_ad,←own_mu];rfl
theorem own_ltF(hf1:Fx f1){S:MS}{r K:Nat}(T:own_T K S)(hr:S 0 1=Int32.ofNat r)(hr1:r≤1){d:Nat}(hd:d=1∨d=2):f1 (36,0,[.ref 0,.int (Int32.ofNat d)],[],S)=some (none,own_LT S r K d):=by
 have hK:=T.1.2
 have hb:∀u t,u≤1→t<3→own_tx r K d u t<204:=fun u t h1 h2=>by
  unfold own_tx own_tb
  split<;>split<;>omega
 rw[e1_36_0 hf1]
 have key:=own_itr (fun n=>f1 (36,2,[.ref 0,.int (Int32.ofNat d),.int (Int32.ofNat n)],[],own_w (own_w S 31 0 n fun t=>S 7 (own_tx r K d 0 t)) 32 0 n fun t=>S 7 (own_tx r K d 1 t))) (n:=3) fun n hn=>by
  show f1 _=f1 _
  generalize hX:(own_w (own_w S 31 0 n fun t=>S 7 (own_tx r K d 0 t)) 32 0 n fun t=>S 7 (own_tx r K d 1 t))=X
  have X0:∀i,X 0 i=S 0 i:=fun i=>by rw[←hX,own_wn (by decide),own_wn (by decide)]
  have X7:∀i,X 7 i=S 7 i:=fun i=>by rw[←hX,own_wn (by decide),own_wn (by decide)]
  rw[e1_36_2 hf1,if_pos (own_q3 hn)]
  rw[show (0:Int32)=Int32.ofNat 0 from rfl,own_txF hf1 ((X0 0).trans T.1.1) ((X0 1).trans hr) hr1 hd 0 n]
  simp only[Option.bind_some,Option.toList_some,List.cons_append,List.nil_append]
  rw[e1_36_23 hf1,if_pos (own_inb (by have:=hb 0 n (by omega) hn;omega) (hb 0 n (by omega) hn)),if_pos (own_inb (by omega) hn)]
  rw[own_nat (a:=own_tx r K d 0 n) (by have:=hb 0 n (by omega) hn;omega),own_nat (a:=n) (by omega),X7]
  rw[show (1:Int32)=Int32.ofNat 1 from rfl,own_txF hf1 (S:=Jvm.OM.upd X 31 n (S 7 (own_tx r K d 0 n))) ((X0 0).trans T.1.1) ((X0 1).trans hr) hr1 hd 1 n]
  simp only[Option.bind_some,Option.toList_some,List.cons_append,List.nil_append]
  rw[e1_36_41 hf1,if_pos (own_inb (by have:=hb 1 n (by omega) hn;omega) (hb 1 n (by omega) hn)),if_pos (own_inb (by omega) hn)]
  rw[own_nat (a:=own_tx r K d 1 n) (by have:=hb 1 n (by omega) hn;omega),own_nat (a:=n) (by omega),own_add1]
  rw[show Jvm.OM.upd X 31 n (S 7 (own_tx r K d 0 n)) 7 (own_tx r K d 1 n)=S 7 (own_tx r K d 1 n) from X7 _]
  rw[←hX,own_w2 (by decide) rfl rfl]
 refine Eq.trans ?_ (key.trans ?_)
 ·show _=f1 (_,_,_,_,own_w (own_w S 31 0 0 _) 32 0 0 _)
  rw[own_w0,own_w0];rfl
 ·show f1 _=_
  rw[e1_36_2 hf1,if_neg (by decide)]
  rfl
theorem own_d1F(hf1:Fx f1){S:MS}{r K:Nat}(T:own_T K S)(C:own_C r K S):f1 (37,0,[.ref 0],[],S)=some (none,own_D1 S r K):=by
 have hK:=T.1.2
 rw[e1_37_0 hf1]
 have key:=own_itr (fun n=>f1 (37,2,[.ref 0,.int (Int32.ofNat n)],[],own_w (own_w (own_w S 28 0 n (S 21)) 29 0 n (S 25)) 30 0 n (S 22))) (n:=K) fun n hn=>by
  show f1 _=f1 _
  rw[e1_37_2 hf1]
  rw[own_wn (c':=0) (by decide),own_wn (c':=0) (by decide),own_wn (c':=0) (by decide),T.1.1,if_pos ((own_lt (by omega) (by omega)).mpr hn),if_pos (own_inb (by omega) (by omega)),own_nat (by omega),own_add1]
  rw[own_w3 (by decide) (by decide) (by decide)]
  ·rw[own_wn (by decide),own_wn (by decide),own_wn (by decide)]
  ·rw[own_wn (by decide),own_wn (by decide),own_wn (by decide)]
  ·rw[own_wn (by decide),own_wn (by decide),own_wn (by decide)]
 refine Eq.trans ?_ (key.trans ?_)
 ·show _=f1 (_,_,_,_,own_w (own_w (own_w S 28 0 0 _) 29 0 0 _) 30 0 0 _)
  rw[own_w0,own_w0,own_w0];rfl
 show f1 _=_
 have T1:own_T K (own_w (own_w (own_w S 28 0 K (S 21)) 29 0 K (S 25)) 30 0 K (S 22)):=own_Tw (own_Tw (own_Tw T (by omega)) (by omega)) (by omega)
 rw[e1_37_2 hf1,T1.1.1,if_neg (by rw[own_lt (by omega) (by omega)];omega),show (1:Int32)=Int32.ofNat 1 from rfl,own_ltF hf1 T1 C.1 C.2.1 (Or.inl rfl)]
 simp only[Option.bind_some,Option.toList_none,List.nil_append]
 rw[show own_LT (own_w (own_w (own_w S 28 0 K (S 21)) 29 0 K (S 25)) 30 0 K (S 22)) r K 1=own_X1 S r K from rfl]
 have TX:own_T K (own_X1 S r K):=own_frT (own_frm (own_X1fr S r K) (by omega)) T
 rw[e1_37_57 hf1,own_csF hf1 TX]
 simp only[Option.bind_some,Option.toList_none,List.nil_append]
 have TC:own_T K (own_cs (own_X1 S r K) K):=own_frT (own_frm (own_csfr _ K) (by omega)) TX
 rw[e1_37_61 hf1]
 have k2:=own_itr (fun n=>f1 (37,63,[.ref 0,.int (Int32.ofNat n)],[],own_w (own_cs (own_X1 S r K) K) 24 0 n (own_ex (own_X1 S r K) K))) (n:=K) fun n hn=>by
  show f1 _=f1 _
  rw[e1_37_63 hf1,own_wn (c':=0) (by decide),TC.1.1,if_pos ((own_lt (by omega) (by omega)).mpr hn),if_pos (own_inb (by omega) (by omega)),own_nat (by omega),own_add1,own_wup (by omega)]
  rw[own_wn (by decide)]
  exact own_wr (by omega) hn
 refine Eq.trans ?_ (k2.trans ?_)
 ·show _=f1 (_,_,_,_,own_w _ 24 0 0 _)
  rw[own_w0];rfl
 show f1 _=_
 rw[e1_37_63 hf1,own_wn (c':=0) (by decide),TC.1.1,if_neg (by rw[own_lt (by omega) (by omega)];omega)]
 rfl
theorem own_d2F(hf1:Fx f1){S:MS}{r K:Nat}{p q:Nat→Nat}(T:own_T K S)(C:own_C r K S)(P:own_P K p q S):f1 (38,0,[.ref 0],[],S)=some (none,own_D2 S r K p q):=by
 have hK:=T.1.2
 rw[e1_38_0 hf1]
 have key:=own_itr (fun n=>f1 (38,2,[.ref 0,.int (Int32.ofNat n)],[],own_w (own_w (own_w S 28 0 n fun i=>S 21 (p i)) 29 0 n fun i=>S 24 (p i)) 30 0 n (S 23))) (n:=K) fun n hn=>by
  show f1 _=f1 _
  obtain⟨⟨p1,p2,-⟩,-⟩:=P n hn
  rw[e1_38_2 hf1]
  rw[own_wn (c':=0) (by decide),own_wn (c':=0) (by decide),own_wn (c':=0) (by decide),T.1.1,if_pos ((own_lt (by omega) (by omega)).mpr hn),if_pos (own_inb (by omega) (by omega)),own_nat (by omega),own_add1]
  rw[own_wn (c':=1) (by decide),own_wn (c':=1) (by decide),own_wn (c':=1) (by decide),p1,if_pos (own_inb (by omega) (by omega)),own_nat (by omega)]
  rw[own_w3 (by decide) (by decide) (by decide)]
  ·rw[own_wn (by decide),own_wn (by decide),own_wn (by decide)]
  ·rw[own_wn (by decide),own_wn (by decide),own_wn (by decide)]
  ·rw[own_wn (by decide),own_wn (by decide),own_wn (by decide)]
 refine Eq.trans ?_ (key.trans ?_)
 ·show _=f1 (_,_,_,_,own_w (own_w (own_w S 28 0 0 _) 29 0 0 _) 30 0 0 _)
  rw[own_w0,own_w0,own_w0];rfl
 show f1 _=_
 have T1:own_T K (own_w (own_w (own_w S 28 0 K fun i=>S 21 (p i)) 29 0 K fun i=>S 24 (p i)) 30 0 K (S 23)):=own_Tw (own_Tw (own_Tw T (by omega)) (by omega)) (by omega)
 rw[e1_38_2 hf1,T1.1.1,if_neg (by rw[own_lt (by omega) (by omega)];omega),show (2:Int32)=Int32.ofNat 2 from rfl,own_ltF hf1 T1 C.1 C.2.1 (Or.inr rfl)]
 simp only[Option.bind_some,Option.toList_none,List.nil_append]
 rw[show own_LT (own_w (own_w (own_w S 28 0 K fun i=>S 21 (p i)) 29 0 K fun i=>S 24 (p i)) 30 0 K (S 23)) r K 2=own_X2 S r K p from rfl]
 have TX:own_T K (own_X2 S r K p):=own_frT (own_frm (own_X2fr S r K p) (by omega)) T
 have PX:own_P K p q (own_X2 S r K p):=own_frP (own_frm (own_X2fr S r K p) (by omega)) P
 rw[e1_38_64 hf1,own_csF hf1 TX]
 simp only[Option.bind_some,Option.toList_none,List.nil_append]
 have TC:own_T K (own_cs (own_X2 S r K p) K):=own_frT (own_frm (own_csfr _ K) (by omega)) TX
 have PC:own_P K p q (own_cs (own_X2 S r K p) K):=own_frP (own_frm (own_csfr _ K) (by omega)) PX
 have E:∀i,i<K→own_cs (own_X2 S r K p) K 33 i=own_ex (own_X2 S r K p) K i:=fun i hi=>own_wr (by omega) hi
 unfold own_D2
 generalize own_cs (own_X2 S r K p) K=Y at TC PC E
 generalize own_ex (own_X2 S r K p) K=g at E
 rw[e1_38_68 hf1]
 have k2:=own_itr (fun n=>f1 (38,70,[.ref 0,.int (Int32.ofNat n)],[],fun c i=>if c=25∧i<K∧q i<n then g (q i) else Y c i)) (n:=K) fun n hn=>by
  show f1 _=f1 _
  obtain⟨⟨p1,p2,p3⟩,-⟩:=PC n hn
  rw[e1_38_70 hf1]
  rw[if_neg (show ¬(0=25∧0<K∧q 0<n) by omega),TC.1.1,if_pos ((own_lt (by omega) (by omega)).mpr hn),if_pos (own_inb (by omega) (by omega)),own_nat (by omega),own_add1]
  rw[if_neg (show ¬(1=25∧n<K∧q n<n) by omega),if_neg (show ¬(33=25∧n<K∧q n<n) by omega),p1,if_pos (own_inb (by omega) (by omega)),own_nat (by omega),E n hn]
  congr 5
  funext c i
  simp only[Jvm.OM.upd]
  by_cases e:c=25∧i=p n
  ·obtain⟨e1,e2⟩:=e
   subst e1;subst e2
   rw[if_pos ⟨rfl,rfl⟩,if_pos ⟨rfl,p2,by omega⟩,p3]
  ·rw[if_neg e]
   by_cases e':c=25∧i<K∧q i<n
   ·rw[if_pos e',if_pos ⟨e'.1,e'.2.1,by omega⟩]
   ·rw[if_neg e',if_neg]
    rintro ⟨h1,h2,h3⟩
    have:=(P i h2).2.2.2
    by_cases hq:q i=n
    ·exact e ⟨h1,by rw[←hq,this]⟩
    ·exact e' ⟨h1,h2,by omega⟩
 refine Eq.trans ?_ (k2.trans ?_)
 ·show f1 _=f1 _
  congr 5
  funext c i
  rw[if_neg (by omega)]
 show f1 _=_
 rw[e1_38_70 hf1,if_neg (show ¬(0=25∧0<K∧q 0<K) by omega),TC.1.1,if_neg (by rw[own_lt (by omega) (by omega)];omega)]
 congr 2
 funext c i
 simp only[own_w]
 by_cases e:c=25∧i<K
 ·rw[if_pos ⟨e.1,e.2,(P i e.2).2.2.1⟩,if_pos ⟨e.1,by omega,e.2⟩]
 ·rw[if_neg (fun h=>e ⟨h.1,h.2.1⟩),if_neg (fun h=>e ⟨h.1,h.2.2⟩)]
theorem own_gaF(hf1:Fx f1){S:MS}{r K:Nat}(T:own_T K S)(C:own_C r K S):f1 (34,0,[.ref 0],[],S)=some (none,own_ga S r K):=by
 have hK:=T.1.2
 have hr:=C.1
 have hr1:=C.2.1
 rw[e1_34_0 hf1]
 have key:=own_itr (fun n=>f1 (34,2,[.ref 0,.int (Int32.ofNat n)],[],own_ga S r n)) (n:=K) fun n hn=>by
  show f1 _=f1 _
  have X0:∀i,own_ga S r n 0 i=S 0 i:=fun i=>by rw[own_ga,own_wn (by decide),own_wn (by decide),own_wn (by decide)]
  have X7:∀i,own_ga S r n 7 i=S 7 i:=fun i=>by rw[own_ga,own_wn (by decide),own_wn (by decide),own_wn (by decide)]
  have hs:own_si r n<204:=by unfold own_si;split<;>omega
  have fin:∀v1 v2 v3,v1=S 7 (own_si r n)→v2=own_gg1 S r n→v3=own_gg2 S r n→Jvm.OM.upd (Jvm.OM.upd (Jvm.OM.upd (own_ga S r n) 21 n v1) 22 n v2) 23 n v3=own_ga S r (n+1):=fun v1 v2 v3 h1 h2 h3=>own_w3 (by decide) (by decide) (by decide) h1 h2 h3
  generalize hX:own_ga S r n=X at X0 X7 fin
  rw[e1_34_2 hf1,X0,T.1.1,if_pos ((own_lt (by omega) (by omega)).mpr hn),own_siF hf1 ((X0 1).trans hr) hr1]
  simp only[Option.bind_some,Option.toList_some,List.cons_append,List.nil_append]
  rw[e1_34_24 hf1,if_pos (own_inb (by omega) hs),if_pos (own_inb (by omega) (by omega)),own_nat (by omega),own_nat (by omega),X7]
  rw[own_p1F hf1 (S:=Jvm.OM.upd X 21 n (S 7 (own_si r n))) ((X0 1).trans hr) hr1 (by omega)]
  simp only[Option.bind_some,Option.toList_some,List.cons_append,List.nil_append]
  have step2:∀v2 y,v2=own_gg1 S r n→(f1 (24,0,[.ref 0,.int (Int32.ofNat n)],[],Jvm.OM.upd (Jvm.OM.upd X 21 n (S 7 (own_si r n))) 22 n v2)).bind (fun z=>f1 (34,57,[.ref 0,.int (Int32.ofNat n),.int y],z.1.toList++[],z.2))=f1 (34,2,[.ref 0,.int (Int32.ofNat (n+1))],[],own_ga S r (n+1)):=fun v2 y h2=>by
   rw[own_p2F hf1 (S:=Jvm.OM.upd (Jvm.OM.upd X 21 n (S 7 (own_si r n))) 22 n v2) ((X0 1).trans hr) hr1 (by omega)]
   simp only[Option.bind_some,Option.toList_some,List.cons_append,List.nil_append]
   rw[e1_34_57 hf1]
   have x7:∀i,Jvm.OM.upd (Jvm.OM.upd X 21 n (S 7 (own_si r n))) 22 n v2 7 i=S 7 i:=fun i=>X7 i
   rcases (show r=0∨r=1 by omega) with e | e
   ·subst e
    rw[if_pos rfl,if_neg (own_nneg (by omega)),if_pos (own_inb (by omega) (by omega)),if_pos (own_inb (by omega) (by omega)),own_nat (by omega),own_nat (by omega),x7,own_add1,fin _ _ _ rfl h2 (by rw[own_gg2,if_pos rfl])]
   ·subst e
    rw[if_neg own_yy1]
    rcases (show n%2=0∨n%2=1 by omega) with e | e
    ·rw[if_neg (show ¬n%2=1 by omega),if_pos (by decide),if_pos (own_inb (by omega) (by omega)),own_nat (by omega),own_add1,fin _ _ _ rfl h2 (by rw[own_gg2,if_neg own_yy1,if_neg (show ¬n%2=1 by omega)])]
    ·rw[if_pos e,if_neg (own_nneg (by omega)),if_pos (own_inb (by omega) (by omega)),if_pos (own_inb (by omega) (by omega)),own_nat (by omega),own_nat (by omega),x7,own_add1,fin _ _ _ rfl h2 (by rw[own_gg2,if_neg own_yy1,if_pos e])]
  rw[e1_34_31 hf1]
  have x7:∀i,Jvm.OM.upd X 21 n (S 7 (own_si r n)) 7 i=S 7 i:=fun i=>X7 i
  rcases (show r=0∨r=1 by omega) with e | e
  ·subst e
   rw[if_pos rfl,if_neg (own_nneg (by omega)),if_pos (own_inb (by omega) (by omega)),if_pos (own_inb (by omega) (by omega)),own_nat (by omega),own_nat (by omega),x7]
   exact step2 _ _ (by rw[own_gg1,if_pos rfl])
  ·subst e
   rw[if_neg own_yy1]
   rcases (show n%2=0∨n%2=1 by omega) with e | e
   ·rw[if_pos e,if_neg (own_nneg (by omega)),if_pos (own_inb (by omega) (by omega)),if_pos (own_inb (by omega) (by omega)),own_nat (by omega),own_nat (by omega),x7]
    exact step2 _ _ (by rw[own_gg1,if_neg own_yy1,if_pos e])
   ·rw[if_neg (show ¬n%2=0 by omega),if_pos (by decide),if_pos (own_inb (by omega) (by omega)),own_nat (by omega)]
    exact step2 _ _ (by rw[own_gg1,if_neg own_yy1,if_neg (by omega)])
 refine Eq.trans ?_ (key.trans ?_)
 ·show _=f1 (_,_,_,_,own_w (own_w (own_w S 21 0 0 _) 22 0 0 _) 23 0 0 _)
  rw[own_w0,own_w0,own_w0];rfl
 ·show f1 _=_
  rw[e1_34_2 hf1]
  rw[show own_ga S r K 0 0=S 0 0 from by rw[own_ga,own_wn (by decide),own_wn (by decide),own_wn (by decide)],T.1.1,if_neg (by rw[own_lt (by omega) (by omega)];omega)]
theorem own_ceF(hf1:Fx f1){S:MS}{K:Nat}(T:own_T K S):f1 (35,0,[.ref 0],[],S)=some (none,own_w (own_w S 24 0 K fun _=>0) 25 0 K fun _=>0):=by
 have hK:=T.1.2
 rw[e1_35_0 hf1]
 have key:=own_itr (fun n=>f1 (35,2,[.ref 0,.int (Int32.ofNat n)],[],own_w (own_w S 24 0 n fun _=>0) 25 0 n fun _=>0)) (n:=K) fun n hn=>by
  show f1 _=f1 _
  rw[e1_35_2 hf1]
  rw[own_wn (c':=0) (by decide),own_wn (c':=0) (by decide),T.1.1,if_pos ((own_lt (by omega) (by omega)).mpr hn),if_pos (own_inb (by omega) (by omega)),own_nat (by omega),own_add1,own_w2 (by decide) rfl rfl]
 refine Eq.trans ?_ (key.trans ?_)
 ·show _=f1 (_,_,_,_,own_w (own_w S 24 0 0 _) 25 0 0 _)
  rw[own_w0,own_w0];rfl
 ·show f1 _=_
  rw[e1_35_2 hf1,own_wn (c':=0) (by decide),own_wn (c':=0) (by decide),T.1.1,if_neg (by rw[own_lt (by omega) (by omega)];omega)]
theorem own_fiF(hf1:Fx f1){S:MS}{K:Nat}(T:own_T K S):f1 (39,0,[.ref 0],[],S)=some (some (.int (own_ct S K)),own_fi S K):=by
 have hK:=T.1.2
 rw[e1_39_0 hf1]
 have key:=own_itr (fun n=>f1 (39,4,[.ref 0,.int (own_ct S n),.int (Int32.ofNat n)],[],own_fi S n)) (n:=K) fun n hn=>by
  show f1 _=f1 _
  have X:∀c,c<26→∀i,own_fi S n c i=S c i:=fun c hc i=>by rw[own_fi,own_wn (by omega),own_wn (by omega)]
  have fin:∀v1 v2,v1=own_v S n→v2=own_dc S n→Jvm.OM.upd (Jvm.OM.upd (own_fi S n) 26 n v1) 27 n v2=own_fi S (n+1):=fun v1 v2 h1 h2=>own_w2 (by decide) h1 h2
  generalize hX:own_fi S n=Y at X fin
  have k2:∀v,v=own_dc S n→f1 (39,54,[.ref 0,.int (own_ct S n),.int (Int32.ofNat n),.int (S 21 n+S 24 n+S 25 n)],[.int v,.int (Int32.ofNat n),.ref 27],Jvm.OM.upd Y 26 n (S 21 n+S 24 n+S 25 n))=f1 (39,4,[.ref 0,.int (own_ct S (n+1)),.int (Int32.ofNat (n+1))],[],own_fi S (n+1)):=fun v hv=>by
   rw[e1_39_54 hf1,if_pos (own_inb (by omega) (by omega)),if_pos (own_inb (by omega) (by omega)),own_nat (by omega)]
   rw[show Jvm.OM.upd (Jvm.OM.upd Y 26 n (S 21 n+S 24 n+S 25 n)) 27 n v 27 n=v from if_pos ⟨rfl,rfl⟩]
   rw[show Jvm.OM.upd Y 26 n (S 21 n+S 24 n+S 25 n) 5 n=S 5 n from X 5 (by omega) n]
   rw[fin (S 21 n+S 24 n+S 25 n) v rfl hv,own_add1,hv]
   simp only[own_ct]
   by_cases e:own_dc S n=S 5 n
   ·rw[if_pos e,if_pos e]
   ·rw[if_neg e,if_neg e]
  rw[e1_39_4 hf1,X 0 (by omega),T.1.1,if_pos ((own_lt (by omega) (by omega)).mpr hn),if_pos (own_inb (by omega) (by omega)),own_nat (by omega),X 21 (by omega),X 24 (by omega),X 25 (by omega)]
  by_cases e:0<S 21 n+S 24 n+S 25 n
  ·rw[if_pos e];exact k2 _ (by rw[own_dc,own_v,if_pos e])
  ·rw[if_neg e];exact k2 _ (by rw[own_dc,own_v,if_neg e])
 refine Eq.trans ?_ (key.trans ?_)
 ·show _=f1 (_,_,_,_,own_w (own_w S 26 0 0 _) 27 0 0 _)
  rw[own_w0,own_w0];rfl
 ·show f1 _=_
  rw[e1_39_4 hf1]
  rw[show own_fi S K 0 0=S 0 0 from by rw[own_fi,own_wn (by decide),own_wn (by decide)],T.1.1,if_neg (by rw[own_lt (by omega) (by omega)];omega)]
theorem own_decF(hf1:Fx f1){S:MS}{r K:Nat}{p q:Nat→Nat}(T:own_T K S)(C:own_C r K S)(P:own_P K p q S)(x:Int32):∃n,1≤n∧n≤8∧f1 (30,0,[.ref 0,.int x],[],S)=some (some (.int (own_ct (own_itD r K p q (own_w (own_w (own_ga S r K) 24 0 K fun _=>0) 25 0 K fun _=>0) n) K)),own_fi (own_itD r K p q (own_w (own_w (own_ga S r K) 24 0 K fun _=>0) 25 0 K fun _=>0) n) K):=by
 have hK:=T.1.2
 obtain⟨c1,c2⟩:=own_clr (x:=x) (a:=1) (b:=8) (by decide)
 rw[e1_30_0 hf1,own_clF hf1]
 simp only[Option.bind_some,Option.toList_some,List.cons_append,List.nil_append]
 generalize hn:own_cl x 1 8=y at c1 c2
 rw[Int32.lt_iff_toInt_lt] at c1 c2
 have l1:(1:Int32).toInt=1:=rfl
 have l8:(8:Int32).toInt=8:=rfl
 have ey:y=Int32.ofNat y.toInt.toNat:=Int32.toInt_inj.mp (by rw[own_toInt_ofNat (by omega)];omega)
 refine⟨y.toInt.toNat,by omega,by omega,?_⟩
 generalize hm:y.toInt.toNat=m at ey
 have hm1:1≤m∧m≤8:=by omega
 rw[e1_30_8 hf1,own_gaF hf1 T C]
 simp only[Option.bind_some,Option.toList_none,List.nil_append]
 have F1:own_fr 21 S (own_ga S r K):=own_frw (own_frw (own_frw (own_frr _ _) (by omega)) (by omega)) (by omega)
 rw[e1_30_13 hf1,own_ceF hf1 (own_frT F1 T)]
 simp only[Option.bind_some,Option.toList_none,List.nil_append]
 have F2:own_fr 21 S (own_w (own_w (own_ga S r K) 24 0 K fun _=>0) 25 0 K fun _=>0):=own_frw (own_frw F1 (by omega)) (by omega)
 generalize hZ:(own_w (own_w (own_ga S r K) 24 0 K fun _=>0) 25 0 K fun _=>0)=Z at F2
 have F:∀n,own_fr 21 S (own_itD r K p q Z n):=fun n=>by
  induction n with
  |zero=>exact F2
  |succ n ih=>exact own_frt (own_frt ih (own_frm (own_D1fr _ r K) (by omega))) (own_frm (own_D2fr _ r K p q) (by omega))
 rw[e1_30_17 hf1,ey]
 have key:=own_itr (fun n=>f1 (30,19,[.ref 0,.int x,.int (Int32.ofNat m),.int (Int32.ofNat n)],[],own_itD r K p q Z n)) (n:=m) fun n hn=>by
  show f1 _=f1 _
  rw[e1_30_19 hf1,if_pos ((own_lt (by omega) (by omega)).mpr hn),own_d1F hf1 (own_frT (F n) T) (own_frC (F n) C)]
  simp only[Option.bind_some,Option.toList_none,List.nil_append]
  have G:own_fr 21 S (own_D1 (own_itD r K p q Z n) r K):=own_frt (F n) (own_frm (own_D1fr _ r K) (by omega))
  rw[e1_30_28 hf1,own_d2F hf1 (own_frT G T) (own_frC G C) (own_frP G P)]
  simp only[Option.bind_some,Option.toList_none,List.nil_append]
  rw[e1_30_32 hf1,own_add1]
  rfl
 refine Eq.trans ?_ (key.trans ?_)
 ·rfl
 show f1 _=_
 rw[e1_30_19 hf1,if_neg (by rw[own_lt (by omega) (by omega)];omega),own_fiF hf1 (own_frT (F m) T)]
 simp only[Option.bind_some,Option.toList_some,List.cons_append,List.nil_append]
 rw[e1_30_42 hf1]
end Dec
def own_am(a b:Nat):Int32:=if b=1 then Int32.ofNat a else -Int32.ofNat a
def own_J(S:MS)(r K:Nat)(p b:Nat→Nat)(a:Nat):Prop:=(∀i,i<K→b i≤1∧S 21 i=own_am a (b i)∧own_bd 127 (S 22 i)∧own_sg (own_pr (own_es b i*2+b i)) (S 22 i).toInt∧own_bd 127 (S 23 i)∧own_sg (own_pr (own_es (fun j=>b (p j)) i*2+b (p i))) (S 23 i).toInt∧own_bd 1023 (S 24 i)∧own_sg (b i) (S 24 i).toInt∧own_bd 1023 (S 25 i)∧own_sg (b i) (S 25 i).toInt)∧(∀t,t<3→own_bd 127 (S 7 (own_tx r K 1 0 t))∧own_bd 127 (S 7 (own_tx r K 1 1 t))∧own_sg (own_ti (own_ts (own_es b K) t)) (S 7 (own_tx r K 1 0 t)).toInt∧own_sg (own_pr (own_ts (own_es b K) t*2+own_ti (own_ts (own_es b K) t))) (S 7 (own_tx r K 1 1 t)).toInt)∧(∀t,t<3→own_bd 127 (S 7 (own_tx r K 2 0 t))∧own_bd 127 (S 7 (own_tx r K 2 1 t))∧own_sg (own_ti (own_ts (own_es (fun j=>b (p j)) K) t)) (S 7 (own_tx r K 2 0 t)).toInt∧own_sg (own_pr (own_ts (own_es (fun j=>b (p j)) K) t*2+own_ti (own_ts (own_es (fun j=>b (p j)) K) t))) (S 7 (own_tx r K 2 1 t)).toInt)∧S 0 3 = -268435456∧S 0 4 = -1073741824
theorem own_amv{a b:Nat}(ha:1≤a∧a≤127)(hb:b≤1):(b=1→(own_am a b).toInt=a)∧(b=0→(own_am a b).toInt = -a):=by
 refine⟨fun h=>?_,fun h=>?_⟩
 ·rw[own_am,if_pos h,own_toInt_ofNat (by omega)]
 ·rw[own_am,if_neg (by omega),Int32.toInt_neg,own_toInt_ofNat (by omega)];exact bm32 (by omega) (by omega)
theorem own_ams{a b:Nat}(ha:1≤a∧a≤127)(hb:b≤1):own_bd 127 (own_am a b)∧own_sg b (own_am a b).toInt:=by
 obtain⟨h1,h2⟩:=own_amv ha hb
 rcases (show b=0∨b=1 by omega) with e | e
 ·have:=h2 e;exact⟨⟨by omega,by omega⟩,fun _=>by omega,fun _=>by omega⟩
 ·have:=h1 e;exact⟨⟨by omega,by omega⟩,fun _=>by omega,fun _=>by omega⟩
theorem own_sga{b:Nat}{x y:Int}(h:own_sg b x)(h':own_sg b y):own_sg b (x+y):=
 ⟨fun e=>by have:=h.1 e;have:=h'.1 e;omega,fun e=>by have:=h.2 e;have:=h'.2 e;omega⟩
theorem own_J1{S:MS}{r K:Nat}{p b:Nat→Nat}{a:Nat}(ha:1≤a∧a≤127)(hK:K≤64)(J:own_J S r K p b a):own_J (own_D1 S r K) r K p b a:=by
 have N:own_N (own_X1 S r K) K b:=by
  refine⟨fun k hk=>(J.1 k hk).1,fun k hk=>?_,fun t ht=>?_,J.2.2.2.1,J.2.2.2.2⟩
  ·obtain⟨j1,j2,j3,j4,j5,j6,j7,j8,j9,j10⟩:=J.1 k hk
   have e28:own_X1 S r K 28 k=S 21 k:=by
    rw[own_X1,own_LT,own_wn (by decide),own_wn (by decide),own_wn (by decide),own_wn (by decide),own_wr (by omega) hk]
   have e29:own_X1 S r K 29 k=S 25 k:=by
    rw[own_X1,own_LT,own_wn (by decide),own_wn (by decide),own_wn (by decide),own_wr (by omega) hk]
   have e30:own_X1 S r K 30 k=S 22 k:=by
    rw[own_X1,own_LT,own_wn (by decide),own_wn (by decide),own_wr (by omega) hk]
   obtain⟨a1,a2⟩:=own_ams ha j1
   rw[e28,e29,e30,j2]
   exact⟨a1,j9,j3,own_sga a2 j10,j4⟩
  ·obtain⟨j1,j2,j3,j4⟩:=J.2.1 t ht
   have e31:own_X1 S r K 31 t=S 7 (own_tx r K 1 0 t):=by
    rw[own_X1,own_LT,own_wn (by decide),own_wr (by omega) ht,own_wn (by decide),own_wn (by decide),own_wn (by decide)]
   have e32:own_X1 S r K 32 t=S 7 (own_tx r K 1 1 t):=by
    rw[own_X1,own_LT,own_wr (by omega) ht,own_wn (by decide),own_wn (by decide),own_wn (by decide)]
   rw[e31,e32]
   exact⟨j1,j2,j3,j4⟩
 have F:=own_D1fr S r K
 refine⟨fun i hi=>?_,fun t ht=>?_,fun t ht=>?_,(F 0 (by omega) 3).trans J.2.2.2.1,(F 0 (by omega) 4).trans J.2.2.2.2⟩
 ·obtain⟨j1,j2,j3,j4,j5,j6,j7,j8,j9,j10⟩:=J.1 i hi
  obtain⟨x1,x2⟩:=own_exP N hK hi
  rw[F 21 (by omega),F 22 (by omega),F 23 (by omega)]
  have e24:own_D1 S r K 24 i=own_ex (own_X1 S r K) K i:=own_wr (by omega) hi
  have e25:own_D1 S r K 25 i=S 25 i:=by
   rw[own_D1,own_wn (by decide)]
   exact (own_csfr _ K 25 (by omega) i).trans (own_X1fr S r K 25 (by omega) i)
  rw[e24,e25]
  exact⟨j1,j2,j3,j4,j5,j6,x1,x2,j9,j10⟩
 ·rw[F 7 (by omega),F 7 (by omega)];exact J.2.1 t ht
 ·rw[F 7 (by omega),F 7 (by omega)];exact J.2.2.1 t ht
theorem own_J2{S:MS}{r K:Nat}{p q b:Nat→Nat}{a:Nat}(ha:1≤a∧a≤127)(hK:K≤64)(P:own_P K p q S)(J:own_J S r K p b a):own_J (own_D2 S r K p q) r K p b a:=by
 have N:own_N (own_X2 S r K p) K fun j=>b (p j):=by
  refine⟨fun k hk=>(J.1 (p k) (P k hk).1.2.1).1,fun k hk=>?_,fun t ht=>?_,J.2.2.2.1,J.2.2.2.2⟩
  ·obtain⟨j1,j2,-,-,-,-,j7,j8,-,-⟩:=J.1 (p k) (P k hk).1.2.1
   obtain⟨-,-,-,-,j5,j6,-,-,-,-⟩:=J.1 k hk
   have e28:own_X2 S r K p 28 k=S 21 (p k):=by
    rw[own_X2,own_LT,own_wn (by decide),own_wn (by decide),own_wn (by decide),own_wn (by decide),own_wr (by omega) hk]
   have e29:own_X2 S r K p 29 k=S 24 (p k):=by
    rw[own_X2,own_LT,own_wn (by decide),own_wn (by decide),own_wn (by decide),own_wr (by omega) hk]
   have e30:own_X2 S r K p 30 k=S 23 k:=by
    rw[own_X2,own_LT,own_wn (by decide),own_wn (by decide),own_wr (by omega) hk]
   obtain⟨a1,a2⟩:=own_ams ha j1
   rw[e28,e29,e30,j2]
   exact⟨a1,j7,j5,own_sga a2 j8,j6⟩
  ·obtain⟨j1,j2,j3,j4⟩:=J.2.2.1 t ht
   have e31:own_X2 S r K p 31 t=S 7 (own_tx r K 2 0 t):=by
    rw[own_X2,own_LT,own_wn (by decide),own_wr (by omega) ht,own_wn (by decide),own_wn (by decide),own_wn (by decide)]
   have e32:own_X2 S r K p 32 t=S 7 (own_tx r K 2 1 t):=by
    rw[own_X2,own_LT,own_wr (by omega) ht,own_wn (by decide),own_wn (by decide),own_wn (by decide)]
   rw[e31,e32]
   exact⟨j1,j2,j3,j4⟩
 have F:=own_D2fr S r K p q
 refine⟨fun i hi=>?_,fun t ht=>?_,fun t ht=>?_,(F 0 (by omega) 3).trans J.2.2.2.1,(F 0 (by omega) 4).trans J.2.2.2.2⟩
 ·obtain⟨j1,j2,j3,j4,j5,j6,j7,j8,j9,j10⟩:=J.1 i hi
  obtain⟨-,-,q1,q2⟩:=P i hi
  obtain⟨x1,x2⟩:=own_exP N hK q1
  rw[F 21 (by omega),F 22 (by omega),F 23 (by omega),F 24 (by omega)]
  have e25:own_D2 S r K p q 25 i=own_ex (own_X2 S r K p) K (q i):=own_wr (by omega) hi
  rw[e25]
  rw[show b (p (q i))=b i from by rw[q2]] at x2
  exact⟨j1,j2,j3,j4,j5,j6,j7,j8,x1,x2⟩
 ·rw[F 7 (by omega),F 7 (by omega)];exact J.2.1 t ht
 ·rw[F 7 (by omega),F 7 (by omega)];exact J.2.2.1 t ht
theorem own_Jit{S:MS}{r K:Nat}{p q b:Nat→Nat}{a:Nat}(ha:1≤a∧a≤127)(hK:K≤64)(P:own_P K p q S)(J:own_J S r K p b a):∀n,own_J (own_itD r K p q S n) r K p b a∧own_fr 21 S (own_itD r K p q S n)
 |0=>⟨J,own_frr _ _⟩
 |n+1=>by
  obtain⟨h1,h2⟩:=own_Jit ha hK P J n
  have F1:own_fr 21 S (own_D1 (own_itD r K p q S n) r K):=own_frt h2 (own_frm (own_D1fr _ r K) (by omega))
  exact⟨own_J2 ha hK (own_frP F1 P) (own_J1 ha hK h1),own_frt F1 (own_frm (own_D2fr _ r K p q) (by omega))⟩
theorem own_Jfi{S:MS}{r K:Nat}{p b:Nat→Nat}{a:Nat}(ha:1≤a∧a≤127)(J:own_J S r K p b a)(h5:∀i,i<K→S 5 i=Int32.ofNat (b i)):(∀n,n≤K→own_ct S n=0)∧∀i,i<K→own_dc S i=S 5 i∧(b i=1→(a:Int)≤(own_v S i).toInt)∧(b i=0→(own_v S i).toInt ≤ -(a:Int)):=by
 have key:∀i,i<K→own_dc S i=S 5 i∧(b i=1→(a:Int)≤(own_v S i).toInt)∧(b i=0→(own_v S i).toInt ≤ -(a:Int)):=fun i hi=>by
  obtain⟨j1,j2,-,-,-,-,⟨j7,j7'⟩,j8,⟨j9,j9'⟩,j10⟩:=J.1 i hi
  obtain⟨⟨a1,a1'⟩,-⟩:=own_ams ha j1
  obtain⟨v1,v2⟩:=own_amv ha j1
  have z:(0:Int32).toInt=0:=rfl
  have e1:(S 21 i+S 24 i).toInt=(own_am a (b i)).toInt+(S 24 i).toInt:=by
   rw[j2];exact own_tad (by omega) (by omega)
  have e2:(own_v S i).toInt=(own_am a (b i)).toInt+(S 24 i).toInt+(S 25 i).toInt:=by
   unfold own_v
   rw[own_tad (by rw[e1];omega) (by rw[e1];omega),e1]
  have k1:b i=1→(a:Int)≤(own_v S i).toInt:=fun e=>by
   have:=v1 e;have:=j8.1 e;have:=j10.1 e;omega
  have k0:b i=0→(own_v S i).toInt ≤ -(a:Int):=fun e=>by
   have:=v2 e;have:=j8.2 e;have:=j10.2 e;omega
  refine⟨?_,k1,k0⟩
  rw[h5 i hi,own_dc]
  rcases (show b i=0∨b i=1 by omega) with e | e
  ·have:=k0 e
   rw[if_neg (by rw[Int32.lt_iff_toInt_lt];omega),e];rfl
  ·have:=k1 e
   rw[if_pos (by rw[Int32.lt_iff_toInt_lt];omega),e];rfl
 refine⟨fun n=>?_,key⟩
 induction n with
 |zero=>exact fun _=>rfl
 |succ n ih=>exact fun h=>by simp only[own_ct];rw[if_pos (key n (by omega)).1];exact ih (by omega)
theorem own_wuo{S:MS}{c a b:Nat}{g:Nat→Int32}{c' i:Nat}{v:Int32}(h:c'≠c∨i<a∨b≤i):Jvm.OM.upd (own_w S c a b g) c' i v=own_w (Jvm.OM.upd S c' i v) c a b g:=by
 funext d j
 simp only[own_w,Jvm.OM.upd]
 by_cases q:d=c∧a≤j∧j<b
 ·rw[if_neg (by omega),if_pos q,if_pos q]
 ·rw[if_neg q,if_neg q]
def own_pa(b:Nat→Nat)(i:Nat):Nat:=own_pr (own_es b i*2+b i)
def own_tt(b:Nat→Nat)(K n:Nat):Nat:=own_ti (own_ts (own_es b K) n)
def own_tp(b:Nat→Nat)(K n:Nat):Nat:=own_pr (own_ts (own_es b K) n*2+own_ti (own_ts (own_es b K) n))
def own_cw(r K:Nat)(b c:Nat→Nat)(x:Nat):Nat:=
 if x<own_tb r K then if r=0 then if x%3=0 then b (x/3) else if x%3=1 then own_pa b (x/3) else own_pa c (x/3) else if x%2=0 then b (x/2) else if x/2%2=0 then own_pa b (x/2) else own_pa c (x/2)
 else if x<own_tb r K+6 then if (x-own_tb r K)%2=0 then own_tt b K ((x-own_tb r K)/2) else own_tp b K ((x-own_tb r K)/2)
 else if (x-own_tb r K-6)%2=0 then own_tt c K ((x-own_tb r K-6)/2) else own_tp c K ((x-own_tb r K-6)/2)
def own_fe(S S':MS):Prop:=(∀i,i<5→S' 0 i=S 0 i)∧∀c,(c=1∨c=2∨c=5∨18≤c)→∀i,S' c i=S c i
theorem own_fer(S:MS):own_fe S S:=⟨fun _ _=>rfl,fun _ _ _=>rfl⟩
theorem own_few{S S':MS}(h:own_fe S S'){c a b:Nat}{g:Nat→Int32}(hc:c=3∨c=4∨(6≤c∧c<18)):own_fe S (own_w S' c a b g):=
 ⟨fun i hi=>by rw[own_wn (by omega)];exact h.1 i hi,fun d hd i=>by rw[own_wn (by omega)];exact h.2 d hd i⟩
theorem own_feu{S S':MS}(h:own_fe S S'){c i:Nat}{v:Int32}(hc:c=3∨c=4∨(6≤c∧c<18)∨(c=0∧5≤i)):own_fe S (Jvm.OM.upd S' c i v):=
 ⟨fun j hj=>by rw[own_up,if_neg (by omega)];exact h.1 j hj,fun d hd j=>by rw[own_up,if_neg (by omega)];exact h.2 d hd j⟩
theorem own_feT{K:Nat}{S S':MS}(h:own_fe S S')(T:own_T K S):own_T K S':=
 ⟨⟨(h.1 0 (by omega)).trans T.1.1,T.1.2⟩,fun j hj=>(h.2 18 (by omega) j).trans (T.2.1 j hj),fun j hj=>(h.2 19 (by omega) j).trans (T.2.2.1 j hj),fun j hj=>(h.2 20 (by omega) j).trans (T.2.2.2 j hj)⟩
theorem own_feC{r K:Nat}{S S':MS}(h:own_fe S S')(C:own_C r K S):own_C r K S':=
 ⟨(h.1 1 (by omega)).trans C.1,C.2.1,(h.1 2 (by omega)).trans C.2.2.1,(h.1 3 (by omega)).trans C.2.2.2.1,(h.1 4 (by omega)).trans C.2.2.2.2⟩
theorem own_feP{K:Nat}{p q:Nat→Nat}{S S':MS}(h:own_fe S S')(P:own_P K p q S):own_P K p q S':=fun i hi=>by
 obtain⟨⟨h1,h2,h3⟩,h4,h5⟩:=P i hi
 exact⟨⟨(h.2 1 (by omega) i).trans h1,h2,h3⟩,(h.2 2 (by omega) i).trans h4,h5⟩
def own_rcs(S:MS)(K:Nat)(b:Nat→Nat):MS:=own_w (own_w (Jvm.OM.upd (own_w S 15 0 K fun i=>Int32.ofNat (own_pa b i)) 0 7 (Int32.ofNat (own_es b K))) 16 0 3 fun n=>Int32.ofNat (own_tt b K n)) 17 0 3 fun n=>Int32.ofNat (own_tp b K n)
section Enc
variable {f1:FT1}
theorem own_l1F(hf1:Fx f1){S:MS}{K:Nat}(T:own_T K S):f1 (18,0,[.ref 0,.int 1],[],S)=some (none,own_w S 14 0 K (S 5)):=by
 have hK:=T.1.2
 rw[e1_18_0 hf1]
 have key:=own_itr (fun n=>f1 (18,2,[.ref 0,.int 1,.int (Int32.ofNat n)],[],own_w S 14 0 n (S 5))) (n:=K) fun n hn=>by
  show f1 _=f1 _
  rw[e1_18_2 hf1]
  rw[own_wn (c':=0) (by decide),T.1.1,if_pos ((own_lt (by omega) (by omega)).mpr hn),if_pos rfl,if_pos (own_inb (by omega) (by omega)),own_nat (by omega),own_add1,own_wn (c':=5) (by decide),own_wup (by omega) rfl]
 refine Eq.trans ?_ (key.trans ?_)
 ·show _=f1 (_,_,_,_,own_w S 14 0 0 _)
  rw[own_w0];rfl
 ·show f1 _=_
  rw[e1_18_2 hf1,own_wn (c':=0) (by decide),T.1.1,if_neg (by rw[own_lt (by omega) (by omega)];omega)]
theorem own_l2F(hf1:Fx f1){S:MS}{K:Nat}{p q:Nat→Nat}(T:own_T K S)(P:own_P K p q S):f1 (18,0,[.ref 0,.int 2],[],S)=some (none,own_w S 14 0 K fun i=>S 5 (p i)):=by
 have hK:=T.1.2
 rw[e1_18_0 hf1]
 have key:=own_itr (fun n=>f1 (18,2,[.ref 0,.int 2,.int (Int32.ofNat n)],[],own_w S 14 0 n fun i=>S 5 (p i))) (n:=K) fun n hn=>by
  show f1 _=f1 _
  obtain⟨⟨p1,p2,-⟩,-⟩:=P n hn
  rw[e1_18_2 hf1]
  rw[own_wn (c':=0) (by decide),T.1.1,if_pos ((own_lt (by omega) (by omega)).mpr hn),if_neg (by decide),if_pos (own_inb (by omega) (by omega)),own_nat (a:=n) (by omega),own_wn (c':=1) (by decide),p1]
  rw[if_neg (own_nneg (by omega)),if_pos ((own_lt (by omega) (by omega)).mpr p2),if_pos (own_inb (by omega) (by omega)),own_nat (by omega),own_add1,own_wn (c':=5) (by decide),own_wup (by omega) rfl]
 refine Eq.trans ?_ (key.trans ?_)
 ·show _=f1 (_,_,_,_,own_w S 14 0 0 _)
  rw[own_w0];rfl
 ·show f1 _=_
  rw[e1_18_2 hf1,own_wn (c':=0) (by decide),T.1.1,if_neg (by rw[own_lt (by omega) (by omega)];omega)]
theorem own_rcF(hf1:Fx f1){S:MS}{K:Nat}{b:Nat→Nat}(T:own_T K S)(h:∀i,i<K→b i≤1∧S 14 i=Int32.ofNat (b i)):f1 (19,0,[.ref 0],[],S)=some (none,own_rcs S K b):=by
 have hK:=T.1.2
 have hb:∀i,i<K→b i≤1:=fun i hi=>(h i hi).1
 rw[e1_19_0 hf1]
 have key:=own_itr (fun n=>f1 (19,4,[.ref 0,.int (Int32.ofNat (own_es b n)),.int (Int32.ofNat n)],[],own_w S 15 0 n fun i=>Int32.ofNat (own_pa b i))) (n:=K) fun n hn=>by
  show f1 _=f1 _
  have h8:=own_es8 hb n (by omega)
  have h1:=hb n hn
  rw[e1_19_4 hf1]
  rw[own_wn (c':=0) (by decide),T.1.1,if_pos ((own_lt (by omega) (by omega)).mpr hn),if_pos (own_inb (by omega) (by omega)),own_nat (a:=n) (by omega),own_wn (c':=14) (by decide),(h n hn).2,own_a1 (by omega),show b n%2=b n from by omega]
  rw[show Int32.ofNat (own_es b n)*2+Int32.ofNat (b n)=Int32.ofNat (own_es b n*2+b n) from by rw[←own_ad,←own_mu];rfl,if_pos (own_inb (by omega) (by omega)),own_nat (by omega),own_wn (c':=18) (by decide),own_wn (c':=19) (by decide),T.2.1 _ (by omega),T.2.2.1 _ (by omega),own_add1,own_wup (by omega)]
  all_goals rfl
 refine Eq.trans ?_ (key.trans ?_)
 ·show _=f1 (_,_,_,_,own_w S 15 0 0 _)
  rw[own_w0];rfl
 show f1 _=_
 rw[e1_19_4 hf1,own_wn (c':=0) (by decide),T.1.1,if_neg (by rw[own_lt (by omega) (by omega)];omega)]
 have TX:own_T K (Jvm.OM.upd (own_w S 15 0 K fun i=>Int32.ofNat (own_pa b i)) 0 7 (Int32.ofNat (own_es b K))):=own_Tu (own_Tw T (by omega)) (by omega)
 unfold own_rcs
 generalize Jvm.OM.upd (own_w S 15 0 K fun i=>Int32.ofNat (own_pa b i)) 0 7 (Int32.ofNat (own_es b K))=X at TX
 have k2:=own_itr (fun n=>f1 (19,57,[.ref 0,.int (Int32.ofNat (own_ts (own_es b K) n)),.int (Int32.ofNat n)],[],own_w (own_w X 16 0 n fun n=>Int32.ofNat (own_tt b K n)) 17 0 n fun n=>Int32.ofNat (own_tp b K n))) (n:=3) fun n hn=>by
  show f1 _=f1 _
  have h8:=own_ts8 (own_es8 hb K (Nat.le_refl K)) n
  have h1:=own_ti1 h8
  rw[e1_19_57 hf1,if_pos (own_q3 hn),if_pos (own_inb (by omega) h8),if_pos (own_inb (by omega) hn)]
  rw[own_nat (a:=own_ts (own_es b K) n) (by omega),own_nat (a:=n) (by omega),own_wn (c':=20) (by decide),own_wn (c':=20) (by decide),TX.2.2.2 _ h8]
  rw[show Int32.ofNat (own_ts (own_es b K) n)*2+Int32.ofNat (own_ti (own_ts (own_es b K) n))=Int32.ofNat (own_ts (own_es b K) n*2+own_ti (own_ts (own_es b K) n)) from by rw[←own_ad,←own_mu];rfl,if_pos (own_inb (by omega) (by omega)),own_nat (by omega),own_wn (c':=18) (by decide),own_wn (c':=18) (by decide),own_wn (c':=19) (by decide),own_wn (c':=19) (by decide),TX.2.1 _ (by omega),TX.2.2.1 _ (by omega),own_add1,own_w2 (by decide)]
  all_goals rfl
 refine Eq.trans ?_ (k2.trans ?_)
 ·show _=f1 (_,_,_,_,own_w (own_w X 16 0 0 _) 17 0 0 _)
  rw[own_w0,own_w0];rfl
 show f1 _=_
 rw[e1_19_57 hf1,if_neg (by decide)]
theorem own_so1F(hf1:Fx f1){S:MS}{K:Nat}(T:own_T K S):f1 (20,0,[.ref 0,.int 1],[],S)=some (none,own_w (own_w (own_w S 8 0 K (S 15)) 10 0 3 (S 16)) 11 0 3 (S 17)):=by
 have hK:=T.1.2
 rw[e1_20_0 hf1]
 have key:=own_itr (fun n=>f1 (20,2,[.ref 0,.int 1,.int (Int32.ofNat n)],[],own_w S 8 0 n (S 15))) (n:=K) fun n hn=>by
  show f1 _=f1 _
  rw[e1_20_2 hf1]
  rw[own_wn (c':=0) (by decide),T.1.1,if_pos ((own_lt (by omega) (by omega)).mpr hn),if_pos rfl,if_pos (own_inb (by omega) (by omega)),own_nat (by omega),own_add1,own_wn (c':=15) (by decide),own_wup (by omega) rfl]
 refine Eq.trans ?_ (key.trans ?_)
 ·show _=f1 (_,_,_,_,own_w S 8 0 0 _)
  rw[own_w0];rfl
 show f1 _=_
 rw[e1_20_2 hf1,own_wn (c':=0) (by decide),T.1.1,if_neg (by rw[own_lt (by omega) (by omega)];omega)]
 have k2:=own_itr (fun n=>f1 (20,50,[.ref 0,.int 1,.int (Int32.ofNat n)],[],own_w (own_w (own_w S 8 0 K (S 15)) 10 0 n (S 16)) 11 0 n (S 17))) (n:=3) fun n hn=>by
  show f1 _=f1 _
  rw[e1_20_50 hf1,if_pos (own_q3 hn),if_pos rfl,if_pos (own_inb (by omega) (by omega)),own_nat (by omega),own_add1,own_w2 (by decide)]
  ·rw[own_wn (by decide),own_wn (by decide),own_wn (by decide)]
  ·rw[own_wn (by decide),own_wn (by decide),own_wn (by decide)]
 refine Eq.trans ?_ (k2.trans ?_)
 ·show _=f1 (_,_,_,_,own_w (own_w _ 10 0 0 _) 11 0 0 _)
  rw[own_w0,own_w0];rfl
 show f1 _=_
 rw[e1_20_50 hf1,if_neg (by decide)]
theorem own_so2F(hf1:Fx f1){S:MS}{K:Nat}(T:own_T K S):f1 (20,0,[.ref 0,.int 2],[],S)=some (none,own_w (own_w (own_w S 9 0 K (S 15)) 12 0 3 (S 16)) 13 0 3 (S 17)):=by
 have hK:=T.1.2
 rw[e1_20_0 hf1]
 have key:=own_itr (fun n=>f1 (20,2,[.ref 0,.int 2,.int (Int32.ofNat n)],[],own_w S 9 0 n (S 15))) (n:=K) fun n hn=>by
  show f1 _=f1 _
  rw[e1_20_2 hf1]
  rw[own_wn (c':=0) (by decide),T.1.1,if_pos ((own_lt (by omega) (by omega)).mpr hn),if_neg (by decide),if_pos (own_inb (by omega) (by omega)),own_nat (by omega),own_add1,own_wn (c':=15) (by decide),own_wup (by omega) rfl]
 refine Eq.trans ?_ (key.trans ?_)
 ·show _=f1 (_,_,_,_,own_w S 9 0 0 _)
  rw[own_w0];rfl
 show f1 _=_
 rw[e1_20_2 hf1,own_wn (c':=0) (by decide),T.1.1,if_neg (by rw[own_lt (by omega) (by omega)];omega)]
 have k2:=own_itr (fun n=>f1 (20,50,[.ref 0,.int 2,.int (Int32.ofNat n)],[],own_w (own_w (own_w S 9 0 K (S 15)) 12 0 n (S 16)) 13 0 n (S 17))) (n:=3) fun n hn=>by
  show f1 _=f1 _
  rw[e1_20_50 hf1,if_pos (own_q3 hn),if_neg (by decide),if_pos (own_inb (by omega) (by omega)),own_nat (by omega),own_add1,own_w2 (by decide)]
  ·rw[own_wn (by decide),own_wn (by decide),own_wn (by decide)]
  ·rw[own_wn (by decide),own_wn (by decide),own_wn (by decide)]
 refine Eq.trans ?_ (k2.trans ?_)
 ·show _=f1 (_,_,_,_,own_w (own_w _ 12 0 0 _) 13 0 0 _)
  rw[own_w0,own_w0];rfl
 show f1 _=_
 rw[e1_20_50 hf1,if_neg (by decide)]
theorem own_asF(hf1:Fx f1){S:MS}{r K:Nat}{b c:Nat→Nat}(T:own_T K S)(C:own_C r K S)(h:∀i,i<K→S 5 i=Int32.ofNat (b i)∧S 8 i=Int32.ofNat (own_pa b i)∧S 9 i=Int32.ofNat (own_pa c i))(h':∀n,n<3→S 10 n=Int32.ofNat (own_tt b K n)∧S 11 n=Int32.ofNat (own_tp b K n)∧S 12 n=Int32.ofNat (own_tt c K n)∧S 13 n=Int32.ofNat (own_tp c K n)):f1 (21,0,[.ref 0],[],S)=some (none,own_w S 6 0 (own_tb r K+12) fun x=>Int32.ofNat (own_cw r K b c x)):=by
 have hK:=T.1.2
 have hr:=C.1
 have hr1:=C.2.1
 have htb:own_tb r K=own_si r K:=rfl
 generalize hg:(fun x=>Int32.ofNat (own_cw r K b c x))=g
 rw[e1_21_0 hf1]
 have key:=own_itr (fun n=>f1 (21,2,[.ref 0,.int (Int32.ofNat n)],[],own_w S 6 0 (own_si r n) g)) (n:=K) fun n hn=>by
  show f1 _=f1 _
  obtain⟨h5,h8,h9⟩:=h n hn
  have hs:own_si r n<204:=by unfold own_si;split<;>omega
  rw[e1_21_2 hf1,own_wn (c':=0) (by decide),T.1.1,if_pos ((own_lt (by omega) (by omega)).mpr hn),own_siF hf1 (S:=own_w S 6 0 (own_si r n) g) hr hr1]
  simp only[Option.bind_some,Option.toList_some,List.cons_append,List.nil_append]
  rw[e1_21_19 hf1,if_pos (own_inb (by omega) (by omega)),if_pos (own_inb (by omega) hs),own_nat (a:=n) (by omega),own_nat (by omega),own_wn (c':=5) (by decide),h5]
  have g0:Int32.ofNat (b n)=g (own_si r n):=by
   rw[←hg]
   show _=Int32.ofNat (own_cw r K b c (own_si r n))
   rw[own_cw,if_pos (by unfold own_tb own_si;split<;>omega)]
   rcases (show r=0∨r=1 by omega) with e | e<;>subst e
   ·rw[if_pos rfl,own_si,if_pos rfl,if_pos (by omega),show 3*n/3=n from by omega]
   ·rw[if_neg own_yy1,own_si,if_neg own_yy1,if_pos (by omega),show 2*n/2=n from by omega]
  rw[own_wup (by omega) g0]
  rw[own_p1F hf1 (S:=own_w S 6 0 (own_si r n+1) g) hr hr1 (by omega)]
  simp only[Option.bind_some,Option.toList_some,List.cons_append,List.nil_append]
  rw[e1_21_31 hf1]
  rcases (show r=0∨r=1 by omega) with e | e
  ·subst e
   have es:own_si 0 n=3*n:=rfl
   have es':own_si 0 (n+1)=3*n+3:=by show 3*(n+1)=_;omega
   have gb:own_tb 0 K=3*K:=rfl
   rw[if_pos rfl,if_neg (own_nneg (by omega)),if_pos (own_inb (by omega) (by omega)),if_pos (own_inb (by omega) (by omega)),own_nat (a:=n) (by omega),own_nat (by omega),own_wn (c':=8) (by decide),h8,es]
   rw[own_wup (by omega) (by rw[←hg];show _=Int32.ofNat (own_cw 0 K b c (3*n+1));rw[own_cw,if_pos (by omega),if_pos rfl,if_neg (by omega),if_pos (by omega),show (3*n+1)/3=n from by omega])]
   rw[own_p2F hf1 (S:=own_w S 6 0 (3*n+1+1) g) hr hr1 (by omega)]
   simp only[Option.bind_some,Option.toList_some,List.cons_append,List.nil_append]
   rw[e1_21_53 hf1,if_pos trivial,if_neg (own_nneg (by omega)),if_pos (own_inb (by omega) (by omega)),if_pos (own_inb (by omega) (by omega)),own_nat (a:=n) (by omega),own_nat (by omega),own_wn (c':=9) (by decide),h9,own_add1]
   rw[own_wup (by omega) (by rw[←hg];show _=Int32.ofNat (own_cw 0 K b c (3*n+2));rw[own_cw,if_pos (by omega),if_pos rfl,if_neg (by omega),if_neg (by omega),show (3*n+2)/3=n from by omega]),es']
  ·subst e
   have es:own_si 1 n=2*n:=rfl
   have es':own_si 1 (n+1)=2*n+2:=by show 2*(n+1)=_;omega
   have gb:own_tb 1 K=2*K:=rfl
   rw[if_neg own_yy1]
   rcases (show n%2=0∨n%2=1 by omega) with e | e
   ·rw[if_pos e,if_neg (own_nneg (by omega)),if_pos (own_inb (by omega) (by omega)),if_pos (own_inb (by omega) (by omega)),own_nat (a:=n) (by omega),own_nat (by omega),own_wn (c':=8) (by decide),h8,es]
    rw[own_wup (by omega) (by rw[←hg];show _=Int32.ofNat (own_cw 1 K b c (2*n+1));rw[own_cw,if_pos (by omega),if_neg own_yy1,if_neg (by omega),if_pos (by omega),show (2*n+1)/2=n from by omega])]
    rw[own_p2F hf1 (S:=own_w S 6 0 (2*n+1+1) g) hr hr1 (by omega)]
    simp only[Option.bind_some,Option.toList_some,List.cons_append,List.nil_append]
    rw[e1_21_53 hf1,if_neg own_yy1,if_neg (show ¬n%2=1 by omega),if_pos (by decide),own_add1,es']
   ·rw[if_neg (show ¬n%2=0 by omega),if_pos (by decide)]
    rw[own_p2F hf1 (S:=own_w S 6 0 (own_si 1 n+1) g) hr hr1 (by omega)]
    simp only[Option.bind_some,Option.toList_some,List.cons_append,List.nil_append]
    rw[e1_21_53 hf1,if_neg own_yy1,if_pos e,if_neg (own_nneg (by omega)),if_pos (own_inb (by omega) (by omega)),if_pos (own_inb (by omega) (by omega)),own_nat (a:=n) (by omega),own_nat (by omega),own_wn (c':=9) (by decide),h9,own_add1,es]
    rw[own_wup (by omega) (by rw[←hg];show _=Int32.ofNat (own_cw 1 K b c (2*n+1));rw[own_cw,if_pos (by omega),if_neg own_yy1,if_neg (by omega),if_neg (by omega),show (2*n+1)/2=n from by omega]),es']
 refine Eq.trans ?_ (key.trans ?_)
 ·show _=f1 (_,_,_,_,own_w S 6 0 (own_si r 0) _)
  rw[show own_si r 0=0 from by unfold own_si;split<;>rfl,own_w0];rfl
 show f1 _=_
 rw[e1_21_2 hf1,own_wn (c':=0) (by decide),T.1.1,if_neg (by rw[own_lt (by omega) (by omega)];omega),←htb]
 have hB:own_tb r K≤192:=by unfold own_tb;split<;>omega
 have G:∀t,t<3→g (own_tb r K+2*t)=Int32.ofNat (own_tt b K t)∧g (own_tb r K+2*t+1)=Int32.ofNat (own_tp b K t)∧g (own_tb r K+6+2*t)=Int32.ofNat (own_tt c K t)∧g (own_tb r K+6+2*t+1)=Int32.ofNat (own_tp c K t):=fun t ht=>by
  rw[←hg]
  show Int32.ofNat (own_cw r K b c _)=_∧Int32.ofNat (own_cw r K b c _)=_∧Int32.ofNat (own_cw r K b c _)=_∧Int32.ofNat (own_cw r K b c _)=_
  refine⟨?_,?_,?_,?_⟩
  ·rw[own_cw,if_neg (by omega),if_pos (by omega),if_pos (by omega),show (own_tb r K+2*t-own_tb r K)/2=t from by omega]
  ·rw[own_cw,if_neg (by omega),if_pos (by omega),if_neg (by omega),show (own_tb r K+2*t+1-own_tb r K)/2=t from by omega]
  ·rw[own_cw,if_neg (by omega),if_neg (by omega),if_pos (by omega),show (own_tb r K+6+2*t-own_tb r K-6)/2=t from by omega]
  ·rw[own_cw,if_neg (by omega),if_neg (by omega),if_neg (by omega),show (own_tb r K+6+2*t+1-own_tb r K-6)/2=t from by omega]
 have k2:=own_itr (fun t=>f1 (21,78,[.ref 0,.int (Int32.ofNat t)],[],own_w (own_w (own_w S 6 0 (own_tb r K) g) 6 (own_tb r K) (own_tb r K+2*t) g) 6 (own_tb r K+6) (own_tb r K+6+2*t) g)) (n:=3) fun t ht=>by
  show f1 _=f1 _
  obtain⟨h10,h11,h12,h13⟩:=h' t ht
  obtain⟨g1,g2,g3,g4⟩:=G t ht
  generalize hX:own_w S 6 0 (own_tb r K) g=X
  have XS:∀d,d≠6→∀i,X d i=S d i:=fun d hd i=>by rw[←hX,own_wn hd]
  rw[e1_21_78 hf1,if_pos (own_q3 ht)]
  rw[show (1:Int32)=Int32.ofNat 1 from rfl,show (0:Int32)=Int32.ofNat 0 from rfl,own_txF hf1 (S:=own_w (own_w X 6 _ _ g) 6 _ _ g) (K:=K) (by rw[own_wn (by decide),own_wn (by decide),XS 0 (by decide)];exact T.1.1) (by rw[own_wn (by decide),own_wn (by decide),XS 0 (by decide)];exact hr) hr1 (Or.inl rfl)]
  simp only[Option.bind_some,Option.toList_some,List.cons_append,List.nil_append]
  rw[show own_tx r K 1 0 t=own_tb r K+2*t from rfl]
  rw[e1_21_94 hf1,if_pos (own_inb (by omega) ht),if_pos (own_inb (by omega) (by omega)),own_nat (a:=t) (by omega),own_nat (by omega),own_wn (c':=10) (by decide),own_wn (c':=10) (by decide),XS 10 (by decide),h10,←g1]
  rw[own_wuo (by omega),own_wup (by omega) rfl]
  rw[show (1:Int32)=Int32.ofNat 1 from rfl,own_txF hf1 (S:=own_w (own_w X 6 _ _ g) 6 _ _ g) (K:=K) (by rw[own_wn (by decide),own_wn (by decide),XS 0 (by decide)];exact T.1.1) (by rw[own_wn (by decide),own_wn (by decide),XS 0 (by decide)];exact hr) hr1 (Or.inl rfl)]
  simp only[Option.bind_some,Option.toList_some,List.cons_append,List.nil_append]
  rw[show own_tx r K 1 1 t=own_tb r K+2*t+1 from rfl]
  rw[e1_21_112 hf1,if_pos (own_inb (by omega) ht),if_pos (own_inb (by omega) (by omega)),own_nat (a:=t) (by omega),own_nat (by omega),own_wn (c':=11) (by decide),own_wn (c':=11) (by decide),XS 11 (by decide),h11,←g2]
  rw[own_wuo (by omega),own_wup (by omega) rfl]
  rw[show (2:Int32)=Int32.ofNat 2 from rfl,show (0:Int32)=Int32.ofNat 0 from rfl,own_txF hf1 (S:=own_w (own_w X 6 _ _ g) 6 _ _ g) (K:=K) (by rw[own_wn (by decide),own_wn (by decide),XS 0 (by decide)];exact T.1.1) (by rw[own_wn (by decide),own_wn (by decide),XS 0 (by decide)];exact hr) hr1 (Or.inr rfl)]
  simp only[Option.bind_some,Option.toList_some,List.cons_append,List.nil_append]
  rw[show own_tx r K 2 0 t=own_tb r K+6+2*t from rfl]
  rw[e1_21_130 hf1,if_pos (own_inb (by omega) ht),if_pos (own_inb (by omega) (by omega)),own_nat (a:=t) (by omega),own_nat (by omega),own_wn (c':=12) (by decide),own_wn (c':=12) (by decide),XS 12 (by decide),h12,←g3]
  rw[own_wup (by omega) rfl]
  rw[show (2:Int32)=Int32.ofNat 2 from rfl,show (1:Int32)=Int32.ofNat 1 from rfl,own_txF hf1 (S:=own_w (own_w X 6 _ _ g) 6 _ _ g) (K:=K) (by rw[own_wn (by decide),own_wn (by decide),XS 0 (by decide)];exact T.1.1) (by rw[own_wn (by decide),own_wn (by decide),XS 0 (by decide)];exact hr) hr1 (Or.inr rfl)]
  simp only[Option.bind_some,Option.toList_some,List.cons_append,List.nil_append]
  rw[show own_tx r K 2 1 t=own_tb r K+6+2*t+1 from rfl]
  rw[e1_21_148 hf1,if_pos (own_inb (by omega) ht),if_pos (own_inb (by omega) (by omega)),own_nat (a:=t) (by omega),own_nat (by omega),own_wn (c':=13) (by decide),own_wn (c':=13) (by decide),XS 13 (by decide),h13,←g4]
  rw[own_wup (by omega) rfl,own_add1 t]
  rfl
 refine Eq.trans ?_ (k2.trans ?_)
 ·show _=f1 (_,_,_,_,own_w (own_w _ 6 _ (own_tb r K) _) 6 _ (own_tb r K+6) _)
  rw[own_w0,own_w0];rfl
 show f1 _=_
 rw[e1_21_78 hf1,if_neg (by decide),own_wa (by omega) (by omega),own_wa (by omega) (by omega)]
theorem own_enF(hf1:Fx f1){S:MS}{r K:Nat}{p q b:Nat→Nat}(T:own_T K S)(C:own_C r K S)(P:own_P K p q S)(h:∀i,i<K→b i≤1∧S 5 i=Int32.ofNat (b i)):∃S',f1 (15,0,[.ref 0],[],S)=some (some (.int (Int32.ofNat (own_tb r K+12))),S')∧own_fe S S'∧∀x,x<own_tb r K+12→S' 6 x=Int32.ofNat (own_cw r K b (fun j=>b (p j)) x):=by
 have hK:=T.1.2
 rw[e1_15_0 hf1,own_l1F hf1 T]
 simp only[Option.bind_some,Option.toList_none,List.nil_append]
 generalize hA:own_w S 14 0 K (S 5)=A
 have FA:own_fe S A:=hA▸own_few (own_fer S) (by omega)
 have TA:=own_feT FA T
 rw[e1_15_5 hf1,own_rcF hf1 (b:=b) TA (fun i hi=>⟨(h i hi).1,by rw[←hA,own_wr (by omega) hi];exact (h i hi).2⟩)]
 simp only[Option.bind_some,Option.toList_none,List.nil_append]
 have B15:∀i,i<K→own_rcs A K b 15 i=Int32.ofNat (own_pa b i):=fun i hi=>by
  rw[own_rcs,own_wn (by decide),own_wn (by decide),own_up,if_neg (by omega),own_wr (by omega) hi]
 have B16:∀n,n<3→own_rcs A K b 16 n=Int32.ofNat (own_tt b K n):=fun n hn=>by
  rw[own_rcs,own_wn (by decide),own_wr (by omega) hn]
 have B17:∀n,n<3→own_rcs A K b 17 n=Int32.ofNat (own_tp b K n):=fun n hn=>by
  rw[own_rcs,own_wr (by omega) hn]
 have FB:own_fe S (own_rcs A K b):=own_few (own_few (own_feu (own_few FA (by omega)) (by omega)) (by omega)) (by omega)
 generalize own_rcs A K b=B at B15 B16 B17 FB
 rw[e1_15_9 hf1]
 have FB':own_fe S (Jvm.OM.upd B 0 5 (B 0 7)):=own_feu FB (by omega)
 have B15':∀i,i<K→Jvm.OM.upd B 0 5 (B 0 7) 15 i=Int32.ofNat (own_pa b i):=fun i hi=>by rw[own_up,if_neg (by omega)];exact B15 i hi
 have B16':∀i,i<3→Jvm.OM.upd B 0 5 (B 0 7) 16 i=Int32.ofNat (own_tt b K i):=fun i hi=>by rw[own_up,if_neg (by omega)];exact B16 i hi
 have B17':∀i,i<3→Jvm.OM.upd B 0 5 (B 0 7) 17 i=Int32.ofNat (own_tp b K i):=fun i hi=>by rw[own_up,if_neg (by omega)];exact B17 i hi
 generalize Jvm.OM.upd B 0 5 (B 0 7)=D at FB' B15' B16' B17'
 rw[own_so1F hf1 (own_feT FB' T)]
 simp only[Option.bind_some,Option.toList_none,List.nil_append]
 have FE:own_fe S (own_w (own_w (own_w D 8 0 K (D 15)) 10 0 3 (D 16)) 11 0 3 (D 17)):=own_few (own_few (own_few FB' (by omega)) (by omega)) (by omega)
 have E8:∀i,i<K→own_w (own_w (own_w D 8 0 K (D 15)) 10 0 3 (D 16)) 11 0 3 (D 17) 8 i=Int32.ofNat (own_pa b i):=fun i hi=>by
  rw[own_wn (by decide),own_wn (by decide),own_wr (by omega) hi];exact B15' i hi
 have E10:∀i,i<3→own_w (own_w (own_w D 8 0 K (D 15)) 10 0 3 (D 16)) 11 0 3 (D 17) 10 i=Int32.ofNat (own_tt b K i):=fun i hi=>by
  rw[own_wn (by decide),own_wr (by omega) hi];exact B16' i hi
 have E11:∀i,i<3→own_w (own_w (own_w D 8 0 K (D 15)) 10 0 3 (D 16)) 11 0 3 (D 17) 11 i=Int32.ofNat (own_tp b K i):=fun i hi=>by
  rw[own_wr (by omega) hi];exact B17' i hi
 generalize own_w (own_w (own_w D 8 0 K (D 15)) 10 0 3 (D 16)) 11 0 3 (D 17)=E at FE E8 E10 E11
 have TE:=own_feT FE T
 rw[e1_15_22 hf1,own_l2F hf1 TE (own_feP FE P)]
 simp only[Option.bind_some,Option.toList_none,List.nil_append]
 have hb2:∀i,i<K→b (p i)≤1∧own_w E 14 0 K (fun i=>E 5 (p i)) 14 i=Int32.ofNat (b (p i)):=fun i hi=>by
  have hp:=(P i hi).1.2.1
  refine⟨(h _ hp).1,?_⟩
  rw[own_wr (by omega) hi,FE.2 5 (by omega)]
  exact (h _ hp).2
 have FG:own_fe S (own_w E 14 0 K fun i=>E 5 (p i)):=own_few FE (by omega)
 have G8:∀i,i<K→(own_w E 14 0 K fun i=>E 5 (p i)) 8 i=Int32.ofNat (own_pa b i):=fun i hi=>by rw[own_wn (by decide)];exact E8 i hi
 have G10:∀i,i<3→(own_w E 14 0 K fun i=>E 5 (p i)) 10 i=Int32.ofNat (own_tt b K i):=fun i hi=>by rw[own_wn (by decide)];exact E10 i hi
 have G11:∀i,i<3→(own_w E 14 0 K fun i=>E 5 (p i)) 11 i=Int32.ofNat (own_tp b K i):=fun i hi=>by rw[own_wn (by decide)];exact E11 i hi
 generalize (own_w E 14 0 K fun i=>E 5 (p i))=G at hb2 FG G8 G10 G11
 rw[e1_15_27 hf1,own_rcF hf1 (b:=fun j=>b (p j)) (own_feT FG T) hb2]
 simp only[Option.bind_some,Option.toList_none,List.nil_append]
 have H15:∀i,i<K→own_rcs G K (fun j=>b (p j)) 15 i=Int32.ofNat (own_pa (fun j=>b (p j)) i):=fun i hi=>by
  rw[own_rcs,own_wn (by decide),own_wn (by decide),own_up,if_neg (by omega),own_wr (by omega) hi]
 have H16:∀n,n<3→own_rcs G K (fun j=>b (p j)) 16 n=Int32.ofNat (own_tt (fun j=>b (p j)) K n):=fun n hn=>by
  rw[own_rcs,own_wn (by decide),own_wr (by omega) hn]
 have H17:∀n,n<3→own_rcs G K (fun j=>b (p j)) 17 n=Int32.ofNat (own_tp (fun j=>b (p j)) K n):=fun n hn=>by
  rw[own_rcs,own_wr (by omega) hn]
 have HG:∀c,(c=8∨c=10∨c=11)→∀i,own_rcs G K (fun j=>b (p j)) c i=G c i:=fun c hc i=>by
  rw[own_rcs,own_wn (by omega),own_wn (by omega),own_up,if_neg (by omega),own_wn (by omega)]
 have FH:own_fe S (own_rcs G K fun j=>b (p j)):=own_few (own_few (own_feu (own_few FG (by omega)) (by omega)) (by omega)) (by omega)
 generalize (own_rcs G K fun j=>b (p j))=H at H15 H16 H17 HG FH
 rw[e1_15_31 hf1]
 have FH':own_fe S (Jvm.OM.upd H 0 6 (H 0 7)):=own_feu FH (by omega)
 have HH:∀c,c≠0→∀i,Jvm.OM.upd H 0 6 (H 0 7) c i=H c i:=fun c hc i=>by rw[own_up,if_neg (by omega)]
 generalize Jvm.OM.upd H 0 6 (H 0 7)=L at FH' HH
 rw[own_so2F hf1 (own_feT FH' T)]
 simp only[Option.bind_some,Option.toList_none,List.nil_append]
 have FM:own_fe S (own_w (own_w (own_w L 9 0 K (L 15)) 12 0 3 (L 16)) 13 0 3 (L 17)):=own_few (own_few (own_few FH' (by omega)) (by omega)) (by omega)
 have M9:∀i,i<K→own_w (own_w (own_w L 9 0 K (L 15)) 12 0 3 (L 16)) 13 0 3 (L 17) 9 i=Int32.ofNat (own_pa (fun j=>b (p j)) i):=fun i hi=>by
  rw[own_wn (by decide),own_wn (by decide),own_wr (by omega) hi,HH 15 (by decide)];exact H15 i hi
 have M12:∀i,i<3→own_w (own_w (own_w L 9 0 K (L 15)) 12 0 3 (L 16)) 13 0 3 (L 17) 12 i=Int32.ofNat (own_tt (fun j=>b (p j)) K i):=fun i hi=>by
  rw[own_wn (by decide),own_wr (by omega) hi,HH 16 (by decide)];exact H16 i hi
 have M13:∀i,i<3→own_w (own_w (own_w L 9 0 K (L 15)) 12 0 3 (L 16)) 13 0 3 (L 17) 13 i=Int32.ofNat (own_tp (fun j=>b (p j)) K i):=fun i hi=>by
  rw[own_wr (by omega) hi,HH 17 (by decide)];exact H17 i hi
 have MG:∀c,(c=8∨c=10∨c=11)→∀i,own_w (own_w (own_w L 9 0 K (L 15)) 12 0 3 (L 16)) 13 0 3 (L 17) c i=G c i:=fun c hc i=>by
  rw[own_wn (by omega),own_wn (by omega),own_wn (by omega),HH c (by omega),HG c hc]
 generalize own_w (own_w (own_w L 9 0 K (L 15)) 12 0 3 (L 16)) 13 0 3 (L 17)=M at FM M9 M12 M13 MG
 rw[e1_15_44 hf1,own_asF hf1 (r:=r) (b:=b) (c:=fun j=>b (p j)) (own_feT FM T) (own_feC FM C) (fun i hi=>⟨(FM.2 5 (by omega) i).trans (h i hi).2,(MG 8 (by omega) i).trans (G8 i hi),M9 i hi⟩) (fun n hn=>⟨(MG 10 (by omega) n).trans (G10 n hn),(MG 11 (by omega) n).trans (G11 n hn),M12 n hn,M13 n hn⟩)]
 simp only[Option.bind_some,Option.toList_none,List.nil_append]
 have FZ:own_fe S (own_w M 6 0 (own_tb r K+12) fun x=>Int32.ofNat (own_cw r K b (fun j=>b (p j)) x)):=own_few FM (by omega)
 refine⟨_,?_,FZ,fun x hx=>own_wr (by omega) hx⟩
 rw[e1_15_48 hf1,(own_feC FZ C).2.2.1]
theorem own_lnF(hf1:Fx f1){S:MS}{r K:Nat}(T:own_T K S)(C:own_C r K S)(x:Int32):f1 (27,0,[.ref 0,.int x],[],S)=some (none,own_w S 7 0 (own_tb r K+12) fun i=>if S 6 i=1 then own_cl x 1 127 else -own_cl x 1 127):=by
 have hK:=T.1.2
 have hB:own_tb r K≤192:=by unfold own_tb;split<;>omega
 rw[e1_27_0 hf1,own_clF hf1]
 simp only[Option.bind_some,Option.toList_some,List.cons_append,List.nil_append]
 generalize own_cl x 1 127=y
 rw[e1_27_8 hf1]
 have key:=own_itr (fun n=>f1 (27,11,[.ref 0,.int x,.int y,.int (Int32.ofNat n)],[],own_w S 7 0 n fun i=>if S 6 i=1 then y else -y)) (n:=own_tb r K+12) fun n hn=>by
  show f1 _=f1 _
  rw[e1_27_11 hf1,own_wn (c':=0) (by decide),C.2.2.1,if_pos ((own_lt (by omega) (by omega)).mpr hn),if_pos (own_inb (by omega) (by omega)),own_nat (by omega),own_add1,own_wn (c':=6) (by decide)]
  by_cases e:S 6 n=1
  ·rw[if_pos e,own_wup (by omega) (by rw[if_pos e])]
  ·rw[if_neg e,own_wup (by omega) (by rw[if_neg e])]
 refine Eq.trans ?_ (key.trans ?_)
 ·show _=f1 (_,_,_,_,own_w S 7 0 0 _)
  rw[own_w0];rfl
 ·show f1 _=_
  rw[e1_27_11 hf1,own_wn (c':=0) (by decide),C.2.2.1,if_neg (by rw[own_lt (by omega) (by omega)];omega)]
end Enc
theorem own_paL{b:Nat→Nat}{K:Nat}(h:∀i,i<K→b i≤1){i:Nat}(hi:i<K):own_pa b i≤1:=own_pr1 (by have:=own_es8 h i (by omega);have:=h i hi;omega)
theorem own_ttL{b:Nat→Nat}{K:Nat}(h:∀i,i<K→b i≤1)(n:Nat):own_tt b K n≤1:=own_ti1 (own_ts8 (own_es8 h K (Nat.le_refl K)) n)
theorem own_tpL{b:Nat→Nat}{K:Nat}(h:∀i,i<K→b i≤1)(n:Nat):own_tp b K n≤1:=own_pr1 (by have h8:=own_ts8 (own_es8 h K (Nat.le_refl K)) n;have:=own_ti1 h8;omega)
theorem own_JN{S:MS}{r K:Nat}{p b:Nat→Nat}{a:Nat}(C:own_C r K S)(ha:1≤a∧a≤127)(hb:∀i,i<K→b i≤1)(hp:∀i,i<K→p i<K)(h7:∀x,x<own_tb r K+12→S 7 x=own_am a (own_cw r K b (fun j=>b (p j)) x)):own_J (own_w (own_w (own_ga S r K) 24 0 K fun _=>0) 25 0 K fun _=>0) r K p b a:=by
 have hr1:=C.2.1
 have hb2:∀i,i<K→b (p i)≤1:=fun i hi=>hb _ (hp i hi)
 have Z7:∀x,own_w (own_w (own_ga S r K) 24 0 K fun _=>0) 25 0 K (fun _=>0) 7 x=S 7 x:=fun x=>by
  rw[own_wn (by decide),own_wn (by decide),own_ga,own_wn (by decide),own_wn (by decide),own_wn (by decide)]
 refine⟨fun i hi=>?_,fun t ht=>?_,fun t ht=>?_,C.2.2.2.1,C.2.2.2.2⟩
 ·have e21:own_w (own_w (own_ga S r K) 24 0 K fun _=>0) 25 0 K (fun _=>0) 21 i=S 7 (own_si r i):=by
   rw[own_wn (by decide),own_wn (by decide),own_ga,own_wn (by decide),own_wn (by decide),own_wr (by omega) hi]
  have e22:own_w (own_w (own_ga S r K) 24 0 K fun _=>0) 25 0 K (fun _=>0) 22 i=own_gg1 S r i:=by
   rw[own_wn (by decide),own_wn (by decide),own_ga,own_wn (by decide),own_wr (by omega) hi]
  have e23:own_w (own_w (own_ga S r K) 24 0 K fun _=>0) 25 0 K (fun _=>0) 23 i=own_gg2 S r i:=by
   rw[own_wn (by decide),own_wn (by decide),own_ga,own_wr (by omega) hi]
  have e24:own_w (own_w (own_ga S r K) 24 0 K fun _=>0) 25 0 K (fun _=>0) 24 i=0:=by
   rw[own_wn (by decide),own_wr (by omega) hi]
  have e25:own_w (own_w (own_ga S r K) 24 0 K fun _=>0) 25 0 K (fun _=>0) 25 i=0:=own_wr (by omega) hi
  rw[e21,e22,e23,e24,e25]
  have z:own_bd 1023 0∧own_sg (b i) (0:Int32).toInt:=by
   have z0:(0:Int32).toInt=0:=rfl
   exact⟨⟨by omega,by omega⟩,fun _=>by omega,fun _=>by omega⟩
  have z7:∀b',own_bd 127 0∧own_sg b' (0:Int32).toInt:=fun b'=>by
   have z0:(0:Int32).toInt=0:=rfl
   exact⟨⟨by omega,by omega⟩,fun _=>by omega,fun _=>by omega⟩
  have p1:=own_ams ha (own_paL hb hi)
  have p2:=own_ams ha (own_paL (b:=fun j=>b (p j)) hb2 hi)
  have k1:S 7 (own_si r i)=own_am a (b i):=by
   rw[h7 _ (by unfold own_tb own_si;split<;>omega),own_cw,if_pos (by unfold own_tb own_si;split<;>omega)]
   rcases (show r=0∨r=1 by omega) with e | e<;>subst e
   ·rw[if_pos rfl,own_si,if_pos rfl,if_pos (by omega),show 3*i/3=i from by omega]
   ·rw[if_neg own_yy1,own_si,if_neg own_yy1,if_pos (by omega),show 2*i/2=i from by omega]
  have k2:own_bd 127 (own_gg1 S r i)∧own_sg (own_pr (own_es b i*2+b i)) (own_gg1 S r i).toInt:=by
   rcases (show r=0∨r=1 by omega) with e | e<;>subst e
   ·have gb:own_tb 0 K=3*K:=rfl
    rw[own_gg1,if_pos rfl,h7 _ (by omega),own_cw,if_pos (by omega),if_pos rfl,if_neg (by omega),if_pos (by omega),show (3*i+1)/3=i from by omega]
    exact p1
   ·have gb:own_tb 1 K=2*K:=rfl
    rw[own_gg1,if_neg own_yy1]
    by_cases e:i%2=0
    ·rw[if_pos e,h7 _ (by omega),own_cw,if_pos (by omega),if_neg own_yy1,if_neg (by omega),if_pos (by omega),show (2*i+1)/2=i from by omega]
     exact p1
    ·rw[if_neg e];exact z7 _
  have k3:own_bd 127 (own_gg2 S r i)∧own_sg (own_pr (own_es (fun j=>b (p j)) i*2+b (p i))) (own_gg2 S r i).toInt:=by
   rcases (show r=0∨r=1 by omega) with e | e<;>subst e
   ·have gb:own_tb 0 K=3*K:=rfl
    rw[own_gg2,if_pos rfl,h7 _ (by omega),own_cw,if_pos (by omega),if_pos rfl,if_neg (by omega),if_neg (by omega),show (3*i+2)/3=i from by omega]
    exact p2
   ·have gb:own_tb 1 K=2*K:=rfl
    rw[own_gg2,if_neg own_yy1]
    by_cases e:i%2=1
    ·rw[if_pos e,h7 _ (by omega),own_cw,if_pos (by omega),if_neg own_yy1,if_neg (by omega),if_neg (by omega),show (2*i+1)/2=i from by omega]
     exact p2
    ·rw[if_neg e];exact z7 _
  exact⟨hb i hi,k1,k2.1,k2.2,k3.1,k3.2,z.1,z.2,z.1,z.2⟩
 ·rw[Z7,Z7,show own_tx r K 1 0 t=own_tb r K+2*t from rfl,show own_tx r K 1 1 t=own_tb r K+2*t+1 from rfl,h7 _ (by omega),h7 _ (by omega)]
  rw[own_cw,if_neg (by omega),if_pos (by omega),if_pos (by omega),show (own_tb r K+2*t-own_tb r K)/2=t from by omega]
  rw[own_cw,if_neg (by omega),if_pos (by omega),if_neg (by omega),show (own_tb r K+2*t+1-own_tb r K)/2=t from by omega]
  have q1:=own_ams ha (own_ttL hb t)
  have q2:=own_ams ha (own_tpL hb t)
  exact⟨q1.1,q2.1,q1.2,q2.2⟩
 ·rw[Z7,Z7,show own_tx r K 2 0 t=own_tb r K+6+2*t from rfl,show own_tx r K 2 1 t=own_tb r K+6+2*t+1 from rfl,h7 _ (by omega),h7 _ (by omega)]
  rw[own_cw,if_neg (by omega),if_neg (by omega),if_pos (by omega),show (own_tb r K+6+2*t-own_tb r K-6)/2=t from by omega]
  rw[own_cw,if_neg (by omega),if_neg (by omega),if_neg (by omega),show (own_tb r K+6+2*t+1-own_tb r K-6)/2=t from by omega]
  have q1:=own_ams ha (own_ttL (b:=fun j=>b (p j)) hb2 t)
  have q2:=own_ams ha (own_tpL (b:=fun j=>b (p j)) hb2 t)
  exact⟨q1.1,q2.1,q1.2,q2.2⟩
theorem own_cwL{r K:Nat}{b c:Nat→Nat}(hr:r≤1)(hb:∀i,i<K→b i≤1)(hc:∀i,i<K→c i≤1)(x:Nat):own_cw r K b c x≤1:=by
 unfold own_cw
 by_cases h:x<own_tb r K
 ·rw[if_pos h]
  rcases (show r=0∨r=1 by omega) with e | e<;>subst e
  ·have gb:own_tb 0 K=3*K:=rfl
   rw[if_pos rfl]
   by_cases h1:x%3=0
   ·rw[if_pos h1];exact hb _ (by omega)
   rw[if_neg h1]
   by_cases h2:x%3=1
   ·rw[if_pos h2];exact own_paL hb (by omega)
   rw[if_neg h2];exact own_paL hc (by omega)
  ·have gb:own_tb 1 K=2*K:=rfl
   rw[if_neg own_yy1]
   by_cases h1:x%2=0
   ·rw[if_pos h1];exact hb _ (by omega)
   rw[if_neg h1]
   by_cases h2:x/2%2=0
   ·rw[if_pos h2];exact own_paL hb (by omega)
   rw[if_neg h2];exact own_paL hc (by omega)
 ·rw[if_neg h]
  by_cases h1:x<own_tb r K+6
  ·rw[if_pos h1]
   by_cases h2:(x-own_tb r K)%2=0
   ·rw[if_pos h2];exact own_ttL hb _
   ·rw[if_neg h2];exact own_tpL hb _
  ·rw[if_neg h1]
   by_cases h2:(x-own_tb r K-6)%2=0
   ·rw[if_pos h2];exact own_ttL hc _
   ·rw[if_neg h2];exact own_tpL hc _
theorem own_pig:∀(K:Nat) (p:Nat→Nat),(∀i,i<K→p i<K)→(∀i j,i<K→j<K→p i=p j→i=j)→∀y,y<K→∃i,i<K∧p i=y
 |0,_,_,_,_,h=>absurd h (Nat.not_lt_zero _)
 |K+1,p,h,inj,y,hy=>by
  by_cases e:∃i,i<K+1∧p i=K
  ·obtain⟨i0,h0,e0⟩:=e
   by_cases hyK:y=K
   ·exact⟨i0,h0,by rw[e0,hyK]⟩
   have h':∀i,i<K→(fun i=>if i=i0 then p K else p i) i<K:=fun i hi=>by
    show (if i=i0 then p K else p i)<K
    by_cases q:i=i0
    ·rw[if_pos q]
     have a:=h K (by omega)
     have b:p K≠K:=fun r=>by have:=inj K i0 (by omega) h0 (by rw[r,e0]);omega
     omega
    ·rw[if_neg q]
     have a:=h i (by omega)
     have b:p i≠K:=fun r=>q (inj i i0 (by omega) h0 (by rw[r,e0]))
     omega
   have inj':∀i j,i<K→j<K→(fun i=>if i=i0 then p K else p i) i=(fun i=>if i=i0 then p K else p i) j→i=j:=fun i j hi hj r=>by
    have r':(if i=i0 then p K else p i)=if j=i0 then p K else p j:=r
    by_cases q:i=i0
    ·rw[if_pos q] at r'
     by_cases q2:j=i0
     ·omega
     ·rw[if_neg q2] at r';have:=inj K j (by omega) (by omega) r';omega
    ·rw[if_neg q] at r'
     by_cases q2:j=i0
     ·rw[if_pos q2] at r';have:=inj i K (by omega) (by omega) r';omega
     ·rw[if_neg q2] at r';exact inj i j (by omega) (by omega) r'
   obtain⟨i,hi,r⟩:=own_pig K _ h' inj' y (by omega)
   have r':(if i=i0 then p K else p i)=y:=r
   by_cases q:i=i0
   ·rw[if_pos q] at r';exact⟨K,by omega,r'⟩
   ·rw[if_neg q] at r';exact⟨i,by omega,r'⟩
  ·have h':∀i,i<K+1→p i<K:=fun i hi=>by
    have a:=h i hi
    have b:p i≠K:=fun r=>e ⟨i,hi,r⟩
    omega
   obtain⟨i,hi,r⟩:=own_pig K p (fun i hi=>h' i (by omega)) (fun i j hi hj=>inj i j (by omega) (by omega)) (p K) (h' K (by omega))
   have:=inj i K (by omega) (by omega) r
   omega
theorem own_inv{K:Nat}{p:Nat→Nat}(h:∀i,i<K→p i<K)(inj:∀i j,i<K→j<K→p i=p j→i=j):∃q:Nat→Nat,∀i,i<K→q i<K∧p (q i)=i∧q (p i)=i:=by
 have s:=own_pig K p h inj
 refine⟨fun y=>if hy:y<K then Classical.choose (s y hy) else 0,fun i hi=>?_⟩
 have c:=Classical.choose_spec (s i hi)
 have c':=Classical.choose_spec (s (p i) (h i hi))
 refine⟨?_,?_,?_⟩
 ·show (if hy:i<K then Classical.choose (s i hy) else 0)<K
  rw[dif_pos hi];exact c.1
 ·show p (if hy:i<K then Classical.choose (s i hy) else 0)=i
  rw[dif_pos hi];exact c.2
 ·show (if hy:p i<K then Classical.choose (s (p i) hy) else 0)=i
  rw[dif_pos (h i hi)];exact inj _ _ c'.1 hi c'.2
def own_qp(K:Nat)(x1 x2 x3:Int32):Int32:=
 if (XT.cmpL ((x1.toInt64*x3.toInt64+x2.toInt64*x3.toInt64*x3.toInt64)%(Int32.ofNat K).toInt64) 0)<0 then ((x1.toInt64*x3.toInt64+x2.toInt64*x3.toInt64*x3.toInt64)%(Int32.ofNat K).toInt64+(Int32.ofNat K).toInt64).toInt32 else ((x1.toInt64*x3.toInt64+x2.toInt64*x3.toInt64*x3.toInt64)%(Int32.ofNat K).toInt64).toInt32
theorem own_k0{K:Nat}(h:K≤64)(h':1≤K):(Int32.ofNat K).toInt64≠0:=(show ∀K,K<65→1≤K→(Int32.ofNat K).toInt64≠0 by decide) K (by omega) h'
def own_cd(K n:Nat)(v:Nat→Int32)(S:MS):Prop:=(∀j,j<n→¬v j<0∧v j<Int32.ofNat K∧S 3 j=v j)∧(∀i j,i<n→j<n→v i=v j→i=j)∧∀y,y<K→(S 4 y=0↔∀j,j<n→v j≠Int32.ofNat y)
def own_f34(S S':MS):Prop:=∀c,c≠3→c≠4→∀i,S' c i=S c i
theorem own_nn{y:Int32}{K:Nat}(h0:¬y<0)(h1:y<Int32.ofNat K)(hK:K≤64):y=Int32.ofNat y.toNatClampNeg∧y.toNatClampNeg<K:=by
 rw[Int32.lt_iff_toInt_lt] at h0 h1
 rw[own_toInt_ofNat (by omega)] at h1
 have z:(0:Int32).toInt=0:=rfl
 have e:y.toNatClampNeg=y.toInt.toNat:=rfl
 refine⟨Int32.toInt_inj.mp ?_,by omega⟩
 rw[own_toInt_ofNat (by omega)];omega
section Il
variable {f1:FT1}
theorem own_qpF(hf1:Fx f1){S:MS}{K:Nat}(h0:S 0 0=Int32.ofNat K)(hK:8≤K∧K≤64)(x1 x2 x3:Int32):f1 (9,0,[.ref 0,.int x1,.int x2,.int x3],[],S)=some (some (.int (own_qp K x1 x2 x3)),S):=by
 rw[e1_9_0 hf1,h0,e1_9_27 hf1 _ _ _ _ _ _ _ (own_k0 hK.2 (by omega)),h0]
 unfold own_qp
 split<;>rfl
theorem own_bcL(hf1:Fx f1){S:MS}{K:Nat}(h0:S 0 0=Int32.ofNat K)(hK:8≤K∧K≤64)(x1 x2:Int32):∀m n,n+m=K→∀S',own_f34 S S'→own_cd K n (fun i=>own_qp K x1 x2 (Int32.ofNat i)) S'→∃r S'',f1 (10,25,[.ref 0,.int x1,.int x2,.int (Int32.ofNat n)],[],S')=some (some (.int r),S'')∧own_f34 S S''∧((r=1∧own_cd K K (fun i=>own_qp K x1 x2 (Int32.ofNat i)) S'')∨(r=0∧∃i,i<K∧(own_qp K x1 x2 (Int32.ofNat i)<0∨¬own_qp K x1 x2 (Int32.ofNat i)<Int32.ofNat K∨∃j,j<i∧own_qp K x1 x2 (Int32.ofNat j)=own_qp K x1 x2 (Int32.ofNat i))))
 |0,n,e,S',F,c=>by
  have e':n=K:=by omega
  subst e'
  rw[e1_10_25 hf1,F 0 (by decide) (by decide),h0,if_neg Int32.lt_irrefl]
  exact⟨1,S',rfl,F,Or.inl ⟨rfl,c⟩⟩
 |m+1,n,e,S',F,c=>by
  have h0':S' 0 0=Int32.ofNat K:=(F 0 (by decide) (by decide) 0).trans h0
  rw[e1_10_25 hf1,h0',if_pos ((own_lt (by omega) (by omega)).mpr (by omega)),own_qpF hf1 h0' hK]
  simp only[Option.bind_some,Option.toList_some,List.cons_append,List.nil_append]
  rw[e1_10_40 hf1]
  by_cases q1:own_qp K x1 x2 (Int32.ofNat n)<0
  ·rw[if_pos q1];exact⟨0,S',rfl,F,Or.inr ⟨rfl,n,by omega,Or.inl q1⟩⟩
  rw[if_neg q1,h0']
  by_cases q2:¬own_qp K x1 x2 (Int32.ofNat n)<Int32.ofNat K
  ·rw[if_neg q2];exact⟨0,S',rfl,F,Or.inr ⟨rfl,n,by omega,Or.inr (Or.inl q2)⟩⟩
  have q2:=Classical.not_not.mp q2
  obtain⟨ey,ly⟩:=own_nn q1 q2 hK.2
  rw[if_pos q2,if_pos (show inb (own_qp K x1 x2 (Int32.ofNat n)) 64=true by rw[ey];exact own_inb (by omega) (by omega))]
  by_cases q3:¬S' 4 (own_qp K x1 x2 (Int32.ofNat n)).toNatClampNeg=0
  ·rw[if_neg q3]
   refine⟨0,S',rfl,F,Or.inr ⟨rfl,n,by omega,Or.inr (Or.inr ?_)⟩⟩
   have h:=fun a=>q3 ((c.2.2 _ ly).mpr a)
   rcases Classical.em (∃j,j<n∧own_qp K x1 x2 (Int32.ofNat j)=own_qp K x1 x2 (Int32.ofNat n)) with w | w
   ·exact w
   ·exact absurd (fun j hj r=>w ⟨j,hj,by rw[ey];exact r⟩) h
  have q3:=Classical.not_not.mp q3
  rw[if_pos q3,if_pos (own_inb (by omega) (by omega)),own_nat (a:=n) (by omega),own_add1]
  have ne:∀j,j<n→own_qp K x1 x2 (Int32.ofNat j)≠own_qp K x1 x2 (Int32.ofNat n):=fun j hj r=>(c.2.2 _ ly).mp q3 j hj (r.trans ey)
  refine own_bcL hf1 h0 hK x1 x2 m (n+1) (by omega) _ (fun d d3 d4 i=>?_) ⟨fun j hj=>?_,fun i j hi hj r=>?_,fun y hy=>?_⟩
  ·rw[own_up,if_neg (by omega),own_up,if_neg (by omega)];exact F d d3 d4 i
  ·by_cases w:j=n
   ·subst w
    exact⟨q1,q2,by rw[own_up,if_pos ⟨rfl,rfl⟩]⟩
   ·obtain⟨a1,a2,a3⟩:=c.1 j (by omega)
    exact⟨a1,a2,by rw[own_up,if_neg (by omega),own_up,if_neg (by omega)];exact a3⟩
  ·by_cases wi:i=n
   ·by_cases wj:j=n
    ·omega
    ·subst wi;exact absurd r.symm (ne j (by omega))
   ·by_cases wj:j=n
    ·subst wj;exact absurd r (ne i (by omega))
    ·exact c.2.1 i j (by omega) (by omega) r
  ·rw[own_up,if_neg (by omega),own_up]
   by_cases w:y=(own_qp K x1 x2 (Int32.ofNat n)).toNatClampNeg
   ·rw[if_pos ⟨rfl,w⟩]
    refine⟨fun a=>absurd a (by decide),fun a=>absurd ?_ (a n (by omega))⟩
    rw[w];exact ey
   ·rw[if_neg (fun a=>w a.2),c.2.2 y hy]
    refine⟨fun a j hj=>?_,fun a j hj=>a j (by omega)⟩
    by_cases wj:j=n
    ·subst wj
     intro r
     refine w ?_
     have r':own_qp K x1 x2 (Int32.ofNat j)=Int32.ofNat y:=r
     rw[r',own_nat (by omega)]
    ·exact a j (by omega)
theorem own_bcF(hf1:Fx f1){S:MS}{K:Nat}(h0:S 0 0=Int32.ofNat K)(hK:8≤K∧K≤64)(x1 x2:Int32):∃r S'',f1 (10,0,[.ref 0,.int x1,.int x2],[],S)=some (some (.int r),S'')∧own_f34 S S''∧((r=1∧own_cd K K (fun i=>own_qp K x1 x2 (Int32.ofNat i)) S'')∨(r=0∧∃i,i<K∧(own_qp K x1 x2 (Int32.ofNat i)<0∨¬own_qp K x1 x2 (Int32.ofNat i)<Int32.ofNat K∨∃j,j<i∧own_qp K x1 x2 (Int32.ofNat j)=own_qp K x1 x2 (Int32.ofNat i)))):=by
 rw[e1_10_0 hf1]
 have key:=own_itr (fun n=>f1 (10,2,[.ref 0,.int x1,.int x2,.int (Int32.ofNat n)],[],own_w S 4 0 n fun _=>0)) (n:=K) fun n hn=>by
  show f1 _=f1 _
  rw[e1_10_2 hf1,own_wn (c':=0) (by decide),h0,if_pos ((own_lt (by omega) (by omega)).mpr hn),if_pos (own_inb (by omega) (by omega)),own_nat (by omega),own_add1,own_wup (by omega) rfl]
 have e1:f1 (10,2,[.ref 0,.int x1,.int x2,.int 0],[],S)=f1 (10,25,[.ref 0,.int x1,.int x2,.int (Int32.ofNat 0)],[],own_w S 4 0 K fun _=>0):=by
  refine Eq.trans ?_ (key.trans ?_)
  ·show _=f1 (_,_,_,_,own_w S 4 0 0 _)
   rw[own_w0];rfl
  ·show f1 _=_
   rw[e1_10_2 hf1,own_wn (c':=0) (by decide),h0,if_neg Int32.lt_irrefl];rfl
 rw[e1]
 refine own_bcL hf1 h0 hK x1 x2 K 0 (by omega) _ (fun d d3 d4 i=>own_wn (by omega)) ⟨fun j hj=>absurd hj (by omega),fun i j hi hj=>absurd hi (by omega),fun y hy=>?_⟩
 rw[own_wr (by omega) hy]
 exact⟨fun _ j hj=>absurd hj (by omega),fun _=>rfl⟩
theorem own_ccF(hf1:Fx f1){S:MS}{K:Nat}{v:Nat→Int32}(h0:S 0 0=Int32.ofNat K)(hK:8≤K∧K≤64)(c:own_cd K K v S):∃S' p q,f1 (11,0,[.ref 0],[],S)=some (none,S')∧(∀c,c≠1→c≠2→∀i,S' c i=S c i)∧own_P K p q S':=by
 have V:∀i,i<K→v i=Int32.ofNat (v i).toNatClampNeg∧(v i).toNatClampNeg<K:=fun i hi=>own_nn (c.1 i hi).1 (c.1 i hi).2.1 hK.2
 obtain⟨p,hp⟩:∃p:Nat→Nat,∀i,p i=(v i).toNatClampNeg:=⟨_,fun _=>rfl⟩
 have V':∀i,i<K→S 3 i=Int32.ofNat (p i)∧p i<K:=fun i hi=>by rw[hp];exact⟨(c.1 i hi).2.2.trans (V i hi).1,(V i hi).2⟩
 obtain⟨q,hq⟩:=own_inv (p:=p) (fun i hi=>(V' i hi).2) (fun i j hi hj r=>c.2.1 i j hi hj (by rw[(V i hi).1,(V j hj).1,←hp,←hp,r]))
 rw[e1_11_0 hf1]
 have key:=own_itr (fun n=>f1 (11,2,[.ref 0,.int (Int32.ofNat n)],[],own_w S 1 0 n (S 3))) (n:=K) fun n hn=>by
  show f1 _=f1 _
  rw[e1_11_2 hf1,own_wn (c':=0) (by decide),h0,if_pos ((own_lt (by omega) (by omega)).mpr hn),if_pos (own_inb (by omega) (by omega)),own_nat (by omega),own_add1,own_wn (c':=3) (by decide),own_wup (by omega) rfl]
 have X1:∀i,i<K→own_w S 1 0 K (S 3) 1 i=Int32.ofNat (p i):=fun i hi=>by rw[own_wr (by omega) hi];exact (V' i hi).1
 have X0:own_w S 1 0 K (S 3) 0 0=Int32.ofNat K:=h0
 have XS:∀d,d≠1→∀i,own_w S 1 0 K (S 3) d i=S d i:=fun d hd i=>own_wn hd
 have e1:f1 (11,2,[.ref 0,.int 0],[],S)=f1 (11,30,[.ref 0,.int (Int32.ofNat 0)],[],own_w S 1 0 K (S 3)):=by
  refine Eq.trans ?_ (key.trans ?_)
  ·show _=f1 (_,_,_,_,own_w S 1 0 0 _)
   rw[own_w0];rfl
  ·show f1 _=_
   rw[e1_11_2 hf1,own_wn (c':=0) (by decide),h0,if_neg Int32.lt_irrefl];rfl
 rw[e1]
 generalize own_w S 1 0 K (S 3)=X at X1 X0 XS
 have k2:=own_itr (fun n=>f1 (11,30,[.ref 0,.int (Int32.ofNat n)],[],fun c i=>if c=2∧i<K∧q i<n then Int32.ofNat (q i) else X c i)) (n:=K) fun n hn=>by
  show f1 _=f1 _
  obtain⟨p1,p2⟩:=V' n hn
  rw[e1_11_30 hf1]
  rw[if_neg (show ¬(0=2∧0<K∧q 0<n) by omega),X0,if_pos ((own_lt (by omega) (by omega)).mpr hn),if_pos (own_inb (by omega) (by omega)),own_nat (a:=n) (by omega),own_add1]
  rw[if_neg (show ¬(1=2∧n<K∧q n<n) by omega),X1 n hn,if_neg (own_nneg (by omega)),if_pos ((own_lt (by omega) (by omega)).mpr p2),if_pos (own_inb (by omega) (by omega)),own_nat (by omega)]
  congr 5
  funext d i
  simp only[Jvm.OM.upd]
  by_cases e:d=2∧i=p n
  ·obtain⟨e1,e2⟩:=e
   subst e1;subst e2
   have h3:q (p n)=n:=(hq n hn).2.2
   rw[if_pos ⟨rfl,rfl⟩,if_pos ⟨rfl,p2,by rw[h3];omega⟩,h3]
  ·rw[if_neg e]
   by_cases e':d=2∧i<K∧q i<n
   ·rw[if_pos e',if_pos ⟨e'.1,e'.2.1,by omega⟩]
   ·rw[if_neg e',if_neg]
    rintro ⟨h1,h2,h3⟩
    have:=(hq i h2).2.1
    by_cases hqn:q i=n
    ·exact e ⟨h1,by rw[←hqn,this]⟩
    ·exact e' ⟨h1,h2,by omega⟩
 have e2:f1 (11,30,[.ref 0,.int (Int32.ofNat 0)],[],X)=some (none,fun c i=>if c=2∧i<K∧q i<K then Int32.ofNat (q i) else X c i):=by
  refine Eq.trans ?_ (k2.trans ?_)
  ·show f1 _=f1 _
   congr 5
   funext d i
   rw[if_neg (by omega)]
  ·show f1 _=_
   rw[e1_11_30 hf1,if_neg (show ¬(0=2∧0<K∧q 0<K) by omega),X0,if_neg Int32.lt_irrefl]
 refine⟨_,p,q,e2,fun d d1 d2 i=>?_,fun i hi=>?_⟩
 ·show (if d=2∧_ then _ else X d i)=_
  rw[if_neg (fun a=>d2 a.1)];exact XS d d1 i
 ·obtain⟨a1,a2,a3⟩:=hq i hi
  refine⟨⟨?_,(V' i hi).2,a3⟩,?_,a1,a2⟩
  ·show (if 1=2∧i<K∧q i<K then _ else X 1 i)=_
   rw[if_neg (by omega)];exact X1 i hi
  ·show (if 2=2∧i<K∧q i<K then _ else X 2 i)=_
   rw[if_pos ⟨rfl,hi,a1⟩]
theorem own_btF(hf1:Fx f1)(S:MS):f1 (4,0,[.ref 0],[],S)=some (none,own_w (own_w (own_w S 18 0 16 fun j=>Int32.ofNat (own_nx j)) 19 0 16 fun j=>Int32.ofNat (own_pr j)) 20 0 8 fun j=>Int32.ofNat (own_ti j)):=by
 rw[e1_4_0 hf1]
 have key:=own_itr (fun s=>f1 (4,2,[.ref 0,.int (Int32.ofNat s)],[],own_w (own_w (own_w S 18 0 (2*s) fun j=>Int32.ofNat (own_nx j)) 19 0 (2*s) fun j=>Int32.ofNat (own_pr j)) 20 0 s fun j=>Int32.ofNat (own_ti j))) (n:=8) fun s hs=>by
  show f1 _=f1 _
  rw[e1_4_2 hf1,if_pos (own_q8 hs),if_pos (own_inb (by omega) hs),own_nat (by omega)]
  rw[(show ∀s,s<8→((Int32.ofNat s>>>((1:Int32)&&&31))&&&1)^^^((Int32.ofNat s>>>((2:Int32)&&&31))&&&1)=Int32.ofNat (own_ti s) by decide) s hs,own_wup (by omega) rfl]
  generalize hg:(own_w S 18 0 (2*s) fun j=>Int32.ofNat (own_nx j))=dummy
  rw[←hg]
  refine (own_itr (fun u=>f1 (4,38,[.ref 0,.int (Int32.ofNat s),.int (Int32.ofNat s&&&1),.int ((Int32.ofNat s>>>((1:Int32)&&&31))&&&1),.int ((Int32.ofNat s>>>((2:Int32)&&&31))&&&1),.int (Int32.ofNat u)],[],own_w (own_w (own_w S 18 0 (2*s+u) fun j=>Int32.ofNat (own_nx j)) 19 0 (2*s+u) fun j=>Int32.ofNat (own_pr j)) 20 0 (s+1) fun j=>Int32.ofNat (own_ti j))) (n:=2) fun u hu=>?_).trans ?_
  ·show f1 _=f1 _
   rw[e1_4_38 hf1,if_pos (own_q2 hu)]
   rw[show Int32.ofNat s*2+Int32.ofNat u=Int32.ofNat (2*s+u) from by rw[←own_ad,Nat.mul_comm,←own_mu];rfl,if_pos (own_inb (by omega) (by omega)),own_nat (by omega),own_add1]
   rw[(show ∀s,s<8→∀u,u<2→((Int32.ofNat u^^^((Int32.ofNat s>>>((1:Int32)&&&31))&&&1))^^^((Int32.ofNat s>>>((2:Int32)&&&31))&&&1))+2*(Int32.ofNat s&&&1)+4*((Int32.ofNat s>>>((1:Int32)&&&31))&&&1)=Int32.ofNat (own_nx (2*s+u)) by decide) s hs u hu]
   rw[(show ∀s,s<8→∀u,u<2→(((Int32.ofNat u^^^((Int32.ofNat s>>>((1:Int32)&&&31))&&&1))^^^((Int32.ofNat s>>>((2:Int32)&&&31))&&&1))^^^(Int32.ofNat s&&&1))^^^((Int32.ofNat s>>>((2:Int32)&&&31))&&&1)=Int32.ofNat (own_pr (2*s+u)) by decide) s hs u hu]
   rw[own_wu (c':=18) (by decide),own_wu (c':=19) (by decide),own_w2 (by decide) rfl rfl]
   rfl
  ·show f1 _=_
   rw[e1_4_38 hf1,if_neg (by decide),own_add1]
   rfl
 refine Eq.trans ?_ (key.trans ?_)
 ·show _=f1 (_,_,_,_,own_w (own_w (own_w S 18 0 0 _) 19 0 0 _) 20 0 0 _)
  rw[own_w0,own_w0,own_w0];rfl
 ·show f1 _=_
  rw[e1_4_2 hf1,if_neg (by decide)]
end Il
def own_df1(x:Int32):Int32:=if x=8 then 3 else if x=16 then 5 else if x=24 then 5 else if x=32 then 7 else if x=40 then 3 else if x=48 then 7 else if x=56 then 19 else 7
def own_df2(x:Int32):Int32:=if x=8 then 4 else if x=16 then 4 else if x=24 then 6 else if x=32 then 4 else if x=40 then 10 else if x=48 then 12 else if x=56 then 42 else 16
def own_dl(k:Nat):List Nat:=[[],[0,7,6,5,4,3,2,1],[0,9,10,3,4,13,14,7,8,1,2,11,12,5,6,15],[0,11,10,21,20,7,6,17,16,3,2,13,12,23,22,9,8,19,18,5,4,15,14,1],[0,11,30,25,28,7,26,21,24,3,22,17,20,31,18,13,16,27,14,9,12,23,10,5,8,19,6,1,4,15,2,29],[0,13,6,19,12,25,18,31,24,37,30,3,36,9,2,15,8,21,14,27,20,33,26,39,32,5,38,11,4,17,10,23,16,29,22,35,28,1,34,7],[0,19,14,33,28,47,42,13,8,27,22,41,36,7,2,21,16,35,30,1,44,15,10,29,24,43,38,9,4,23,18,37,32,3,46,17,12,31,26,45,40,11,6,25,20,39,34,5],[0,5,38,43,20,25,2,7,40,45,22,27,4,9,42,47,24,29,6,11,44,49,26,31,8,13,46,51,28,33,10,15,48,53,30,35,12,17,50,55,32,37,14,19,52,1,34,39,16,21,54,3,36,41,18,23],[0,23,14,37,28,51,42,1,56,15,6,29,20,43,34,57,48,7,62,21,12,35,26,49,40,63,54,13,4,27,18,41,32,55,46,5,60,19,10,33,24,47,38,61,52,11,2,25,16,39,30,53,44,3,58,17,8,31,22,45,36,59,50,9]].getD k []
theorem own_dv:∀k,k<9→∀i,i<8*k→own_qp (8*k) (own_df1 (Int32.ofNat (8*k))) (own_df2 (Int32.ofNat (8*k))) (Int32.ofNat i)=Int32.ofNat ((own_dl k).getD i 0):=by decide +kernel
theorem own_dn:∀k,k<9→∀i,i<8*k→(own_dl k).getD i 0<8*k∧∀j,j<i→(own_dl k).getD j 0≠(own_dl k).getD i 0:=by decide +kernel
theorem own_ofi{a b:Nat}(ha:a<2147483648)(hb:b<2147483648)(h:Int32.ofNat a=Int32.ofNat b):a=b:=by
 have:=congrArg Int32.toInt h
 rw[own_toInt_ofNat ha,own_toInt_ofNat hb] at this
 omega
def own_I(r K:Nat)(S:MS):Prop:=own_T K S∧own_C r K S∧(∃p q,own_P K p q S)∧∀i,i<K→S 5 i=0∨S 5 i=1
def own_Kb(x:Int32):Nat:=(own_cl x 8 64).toNatClampNeg-(own_cl x 8 64).toNatClampNeg%8
theorem own_Kbv(x:Int32):own_cl x 8 64=Int32.ofNat (own_cl x 8 64).toNatClampNeg∧8≤(own_cl x 8 64).toNatClampNeg∧(own_cl x 8 64).toNatClampNeg≤64:=by
 obtain⟨c1,c2⟩:=own_clr (x:=x) (a:=8) (b:=64) (by decide)
 generalize own_cl x 8 64=y at c1 c2
 rw[Int32.lt_iff_toInt_lt] at c1 c2
 have l1:(8:Int32).toInt=8:=rfl
 have l8:(64:Int32).toInt=64:=rfl
 have e:y.toNatClampNeg=y.toInt.toNat:=rfl
 exact⟨Int32.toInt_inj.mp (by rw[own_toInt_ofNat (by omega)];omega),by omega,by omega⟩
theorem own_Kbm(x:Int32):8≤own_Kb x∧own_Kb x≤64∧own_Kb x%8=0∧own_cl x 8 64-own_cl x 8 64%8=Int32.ofNat (own_Kb x):=by
 obtain⟨e,h1,h2⟩:=own_Kbv x
 unfold own_Kb
 generalize (own_cl x 8 64).toNatClampNeg=m at e h1 h2
 refine⟨by omega,by omega,by omega,?_⟩
 rw[e]
 exact (show ∀m,m<65→8≤m→Int32.ofNat m-Int32.ofNat m%8=Int32.ofNat (m-m%8) by decide) m (by omega) h1
theorem own_fk{S S':MS}(h:∀c,c≠1→c≠2→c≠3→c≠4→∀i,S' c i=S c i){r K:Nat}(T:own_T K S)(C:own_C r K S)(M:∀i,i<K→S 5 i=0∨S 5 i=1):own_T K S'∧own_C r K S'∧∀i,i<K→S' 5 i=0∨S' 5 i=1:=by
 have k:∀c,c=0∨4<c→∀i,S' c i=S c i:=fun c hc=>h c (by omega) (by omega) (by omega) (by omega)
 refine⟨⟨⟨(k 0 (by omega) 0).trans T.1.1,T.1.2⟩,fun j hj=>(k 18 (by omega) j).trans (T.2.1 j hj),fun j hj=>(k 19 (by omega) j).trans (T.2.2.1 j hj),fun j hj=>(k 20 (by omega) j).trans (T.2.2.2 j hj)⟩,⟨(k 0 (by omega) 1).trans C.1,C.2.1,(k 0 (by omega) 2).trans C.2.2.1,(k 0 (by omega) 3).trans C.2.2.2.1,(k 0 (by omega) 4).trans C.2.2.2.2⟩,fun i hi=>?_⟩
 rw[k 5 (by omega)];exact M i hi
theorem own_zb(z:Int64):(z&&&1).toInt32=0∨(z&&&1).toInt32=1:=by
 have h:(z&&&1).toBitVec.toNat≤1:=by
  show (z.toBitVec&&&1#64).toNat≤1
  rw[BitVec.toNat_and,show (1#64).toNat=1 from rfl,Nat.and_one_is_mod]
  omega
 have h2:(z&&&1)=0∨(z&&&1)=1:=by
  have h3:(z&&&1).toBitVec.toNat=0∨(z&&&1).toBitVec.toNat=1:=by omega
  rcases h3 with h3 | h3
  ·exact Or.inl (Int64.toBitVec_inj.mp (BitVec.eq_of_toNat_eq h3))
  ·exact Or.inr (Int64.toBitVec_inj.mp (BitVec.eq_of_toNat_eq h3))
 rcases h2 with h2 | h2<;>rw[h2]<;>decide
section Pub
variable {f1:FT1}
theorem own_df1F(hf1:Fx f1)(S:MS)(x:Int32):f1 (2,0,[.ref 0,.int x],[],S)=some (some (.int (own_df1 x)),S):=by
 rw[e1_2_0 hf1]
 unfold own_df1
 by_cases h1:x=8
 ·rw[if_pos h1,if_pos h1]
 rw[if_neg h1,if_neg h1]
 by_cases h1:x=16
 ·rw[if_pos h1,if_pos h1]
 rw[if_neg h1,if_neg h1]
 by_cases h1:x=24
 ·rw[if_pos h1,if_pos h1]
 rw[if_neg h1,if_neg h1]
 by_cases h1:x=32
 ·rw[if_pos h1,if_pos h1]
 rw[if_neg h1,if_neg h1]
 by_cases h1:x=40
 ·rw[if_pos h1,if_pos h1]
 rw[if_neg h1,if_neg h1]
 by_cases h1:x=48
 ·rw[if_pos h1,if_pos h1]
 rw[if_neg h1,if_neg h1]
 by_cases h1:x=56
 ·rw[if_pos h1,if_pos h1]
 rw[if_neg h1,if_neg h1]
theorem own_df2F(hf1:Fx f1)(S:MS)(x:Int32):f1 (3,0,[.ref 0,.int x],[],S)=some (some (.int (own_df2 x)),S):=by
 rw[e1_3_0 hf1]
 unfold own_df2
 by_cases h1:x=8
 ·rw[if_pos h1,if_pos h1]
 rw[if_neg h1,if_neg h1]
 by_cases h1:x=16
 ·rw[if_pos h1,if_pos h1]
 rw[if_neg h1,if_neg h1]
 by_cases h1:x=24
 ·rw[if_pos h1,if_pos h1]
 rw[if_neg h1,if_neg h1]
 by_cases h1:x=32
 ·rw[if_pos h1,if_pos h1]
 rw[if_neg h1,if_neg h1]
 by_cases h1:x=40
 ·rw[if_pos h1,if_pos h1]
 rw[if_neg h1,if_neg h1]
 by_cases h1:x=48
 ·rw[if_pos h1,if_pos h1]
 rw[if_neg h1,if_neg h1]
 by_cases h1:x=56
 ·rw[if_pos h1,if_pos h1]
 rw[if_neg h1,if_neg h1]
theorem own_mkT(hf1:Fx f1){r K k:Nat}(hk:K=8*k)(hK:8≤K∧K≤64){S:MS}(h0:S 0 0=Int32.ofNat K)(C:own_C r K S)(M:∀i,S 5 i=0)(x1 x2:Int32):∃S',((f1 (4,0,[.ref 0],[],S)).bind fun q=>f1 (0,352,[.ref 0,.int x1,.int x2],q.1.toList++[],q.2))=some (none,S')∧own_I r K S':=by
 rw[own_btF hf1]
 simp only[Option.bind_some,Option.toList_some,Option.toList_none,List.cons_append,List.nil_append,List.append_nil]
 have T:own_T K (own_w (own_w (own_w S 18 0 16 fun j=>Int32.ofNat (own_nx j)) 19 0 16 fun j=>Int32.ofNat (own_pr j)) 20 0 8 fun j=>Int32.ofNat (own_ti j)):=by
  refine⟨⟨?_,hK⟩,fun j hj=>?_,fun j hj=>?_,fun j hj=>?_⟩
  ·rw[own_wn (by decide),own_wn (by decide),own_wn (by decide)];exact h0
  ·rw[own_wn (by decide),own_wn (by decide),own_wr (by omega) hj]
  ·rw[own_wn (by decide),own_wr (by omega) hj]
  ·rw[own_wr (by omega) hj]
 have F:∀c,c<18→∀i,own_w (own_w (own_w S 18 0 16 fun j=>Int32.ofNat (own_nx j)) 19 0 16 fun j=>Int32.ofNat (own_pr j)) 20 0 8 (fun j=>Int32.ofNat (own_ti j)) c i=S c i:=fun c hc i=>by
  rw[own_wn (by omega),own_wn (by omega),own_wn (by omega)]
 generalize (own_w (own_w (own_w S 18 0 16 fun j=>Int32.ofNat (own_nx j)) 19 0 16 fun j=>Int32.ofNat (own_pr j)) 20 0 8 fun j=>Int32.ofNat (own_ti j))=X at T F
 have CX:own_C r K X:=⟨(F 0 (by omega) 1).trans C.1,C.2.1,(F 0 (by omega) 2).trans C.2.2.1,(F 0 (by omega) 3).trans C.2.2.2.1,(F 0 (by omega) 4).trans C.2.2.2.2⟩
 have MX:∀i,i<K→X 5 i=0∨X 5 i=1:=fun i _=>Or.inl ((F 5 (by omega) i).trans (M i))
 rw[e1_0_352 hf1,T.1.1,own_df1F hf1]
 simp only[Option.bind_some,Option.toList_some,Option.toList_none,List.cons_append,List.nil_append,List.append_nil]
 rw[e1_0_360 hf1,T.1.1,own_df2F hf1]
 simp only[Option.bind_some,Option.toList_some,Option.toList_none,List.cons_append,List.nil_append,List.append_nil]
 rw[e1_0_369 hf1]
 obtain⟨v,Y,eY,FY,h⟩:=own_bcF hf1 T.1.1 hK (own_df1 (Int32.ofNat K)) (own_df2 (Int32.ofNat K))
 rw[eY]
 simp only[Option.bind_some,Option.toList_some,Option.toList_none,List.cons_append,List.nil_append,List.append_nil]
 have hk9:k<9:=by omega
 have DV:∀i,i<K→own_qp K (own_df1 (Int32.ofNat K)) (own_df2 (Int32.ofNat K)) (Int32.ofNat i)=Int32.ofNat ((own_dl k).getD i 0)∧(own_dl k).getD i 0<K∧∀j,j<i→(own_dl k).getD j 0≠(own_dl k).getD i 0:=fun i hi=>by
  subst hk
  obtain⟨a,b⟩:=own_dn k hk9 i hi
  exact⟨own_dv k hk9 i hi,a,b⟩
 have good:v=1∧own_cd K K (fun i=>own_qp K (own_df1 (Int32.ofNat K)) (own_df2 (Int32.ofNat K)) (Int32.ofNat i)) Y:=by
  rcases h with h | ⟨-,i,hi,h⟩
  ·exact h
  ·obtain⟨a1,a2,a3⟩:=DV i hi
   rw[a1] at h
   rcases h with h | h | ⟨j,hj,h⟩
   ·exact absurd h (own_nneg (by omega))
   ·exact absurd ((own_lt (by omega) (by omega)).mpr a2) h
   ·obtain⟨b1,b2,-⟩:=DV j (by omega)
    rw[b1] at h
    exact absurd (own_ofi (by omega) (by omega) h) (a3 j hj)
 obtain⟨hv,hc⟩:=good
 subst hv
 have Y0:Y 0 0=Int32.ofNat K:=(FY 0 (by decide) (by decide) 0).trans T.1.1
 obtain⟨Z,p,q,eZ,FZ,PZ⟩:=own_ccF hf1 Y0 hK hc
 rw[e1_0_378 hf1,if_neg (by decide),eZ]
 simp only[Option.bind_some,Option.toList_some,Option.toList_none,List.cons_append,List.nil_append,List.append_nil]
 rw[e1_0_385 hf1]
 refine⟨_,rfl,?_⟩
 obtain⟨t,c,m⟩:=own_fk (S:=X) (S':=Z) (fun d h1 h2 h3 h4 i=>(FZ d h1 h2 i).trans (FY d h3 h4 i)) T CX MX
 have FE:own_fe Z (Jvm.OM.upd (Jvm.OM.upd Z 0 5 0) 0 6 0):=own_feu (own_feu (own_fer Z) (by omega)) (by omega)
 refine⟨own_feT FE t,own_feC FE c,⟨p,q,own_feP FE PZ⟩,fun i hi=>?_⟩
 rw[FE.2 5 (by omega)];exact m i hi
theorem own_mkF(hf1:Fx f1)(x1 x2:Int32):∃r S,f1 (0,292,[.ref 0,.int x1,.int x2],[],iniS iv1)=some (none,S)∧own_I r (own_Kb x1) S:=by
 obtain⟨k1,k2,k3,k4⟩:=own_Kbm x1
 have kk:own_Kb x1=8*(own_Kb x1/8):=by omega
 rw[e1_0_292 hf1,e1_1_0 hf1,own_clF hf1]
 simp only[Option.bind_some,Option.toList_some,Option.toList_none,List.cons_append,List.nil_append,List.append_nil]
 rw[e1_1_9 hf1,k4]
 simp only[Option.bind_some,Option.toList_some,Option.toList_none,List.cons_append,List.nil_append,List.append_nil]
 rw[e1_0_298 hf1,own_clF hf1]
 simp only[Option.bind_some,Option.toList_some,Option.toList_none,List.cons_append,List.nil_append,List.append_nil]
 obtain⟨c1,c2⟩:=own_clr (x:=x2) (a:=0) (b:=1) (by decide)
 generalize own_cl x2 0 1=y at c1 c2
 have l0:(0:Int32).toInt=0:=rfl
 have l1:(1:Int32).toInt=1:=rfl
 rw[Int32.lt_iff_toInt_lt] at c1 c2
 generalize own_Kb x1=K at k1 k2 k3 k4 kk
 rw[e1_0_309 hf1]
 rcases (show y.toInt=0∨y.toInt=1 by omega) with e | e
 ·have ey:y=0:=Int32.toInt_inj.mp (by rw[e];rfl)
  subst ey
  rw[if_pos rfl]
  obtain⟨S',e',h⟩:=own_mkT hf1 (r:=0) (K:=K) (S:=Jvm.OM.upd (Jvm.OM.upd (Jvm.OM.upd (iniS iv1) 0 0 (Int32.ofNat K)) 0 1 0) 0 2 (3*(Jvm.OM.upd (iniS iv1) 0 0 (Int32.ofNat K) 0 0)+12)) kk ⟨k1,k2⟩ rfl ⟨rfl,by omega,by show 3*Int32.ofNat K+12=Int32.ofNat (3*K+12);rw[←own_ad,←own_mu];rfl,rfl,rfl⟩ (fun _=>rfl) x1 x2
  exact⟨0,S',e',h⟩
 ·have ey:y=1:=Int32.toInt_inj.mp (by rw[e];rfl)
  subst ey
  rw[if_neg (by decide)]
  obtain⟨S',e',h⟩:=own_mkT hf1 (r:=1) (K:=K) (S:=Jvm.OM.upd (Jvm.OM.upd (Jvm.OM.upd (iniS iv1) 0 0 (Int32.ofNat K)) 0 1 1) 0 2 (2*(Jvm.OM.upd (iniS iv1) 0 0 (Int32.ofNat K) 0 0)+12)) kk ⟨k1,k2⟩ rfl ⟨rfl,by omega,by show 2*Int32.ofNat K+12=Int32.ofNat (2*K+12);rw[←own_ad,←own_mu];rfl,rfl,rfl⟩ (fun _=>rfl) x1 x2
  exact⟨1,S',e',h⟩
theorem own_siL(hf1:Fx f1){r K:Nat}{S:MS}(I:own_I r K S)(x1 x2:Int32):∃v S',f1 (5,0,[.ref 0,.int x1,.int x2],[],S)=some (some (.int v),S')∧own_I r K S':=by
 obtain⟨T,C,⟨p,q,P⟩,M⟩:=I
 have hfr:∃w,f1 (8,0,[.ref 0,.int x1,.int x2],[],S)=some (some (.int w),S):=by
  rw[e1_8_0 hf1]
  split
  ·exact⟨_,rfl⟩
  ·split
   ·split
    ·exact⟨_,rfl⟩
    ·split<;>exact⟨_,rfl⟩
   ·exact⟨_,rfl⟩
 obtain⟨w,ew⟩:=hfr
 rw[e1_5_0 hf1,ew]
 simp only[Option.bind_some,Option.toList_some,Option.toList_none,List.cons_append,List.nil_append,List.append_nil]
 rw[e1_5_6 hf1]
 by_cases hw:w=0
 ·rw[if_pos hw];exact⟨_,_,rfl,T,C,⟨p,q,P⟩,M⟩
 rw[if_neg hw]
 obtain⟨v,Y,eY,FY,h⟩:=own_bcF hf1 T.1.1 T.1.2 x1 x2
 rw[eY]
 simp only[Option.bind_some,Option.toList_some,Option.toList_none,List.cons_append,List.nil_append,List.append_nil]
 rw[e1_5_17 hf1]
 obtain⟨t,c,m⟩:=own_fk (S:=S) (S':=Y) (fun d h1 h2 h3 h4 i=>FY d h3 h4 i) T C M
 rcases h with⟨hv,hc⟩ | ⟨hv,-⟩
 ·subst hv
  obtain⟨Z,p',q',eZ,FZ,PZ⟩:=own_ccF hf1 t.1.1 T.1.2 hc
  rw[if_neg (by decide),eZ]
  simp only[Option.bind_some,Option.toList_some,Option.toList_none,List.cons_append,List.nil_append,List.append_nil]
  rw[e1_5_26 hf1]
  obtain⟨t',c',m'⟩:=own_fk (S:=Y) (S':=Z) (fun d h1 h2 h3 h4 i=>FZ d h1 h2 i) t c m
  exact⟨_,_,rfl,t',c',⟨p',q',PZ⟩,m'⟩
 ·subst hv
  rw[if_pos rfl]
  refine⟨_,_,rfl,t,c,⟨p,q,fun i hi=>?_⟩,m⟩
  obtain⟨⟨a1,a2⟩,a3,a4⟩:=P i hi
  exact⟨⟨(FY 1 (by decide) (by decide) i).trans a1,a2⟩,(FY 2 (by decide) (by decide) i).trans a3,a4⟩
theorem own_smL(hf1:Fx f1){r K:Nat}{S:MS}(I:own_I r K S)(x:Int64):∃S',f1 (13,0,[.ref 0,.long x,.null],[],S)=some (none,S')∧own_I r K S':=by
 obtain⟨T,C,⟨p,q,P⟩,M⟩:=I
 have hK:=T.1.2
 rw[e1_13_0 hf1]
 have key:=own_itr (fun n=>f1 (13,2,[.ref 0,.long x,.null,.int (Int32.ofNat n)],[],own_w S 5 0 n fun i=>(XT.ushrL x (Int32.ofNat i)&&&1).toInt32)) (n:=K) fun n hn=>by
  show f1 _=f1 _
  rw[e1_13_2 hf1,own_wn (c':=0) (by decide),T.1.1,if_pos ((own_lt (by omega) (by omega)).mpr hn),if_pos (own_inb (by omega) (by omega)),own_nat (by omega),own_add1,own_wup (by omega)]
  rfl
 have e1:f1 (13,2,[.ref 0,.long x,.null,.int 0],[],S)=some (none,own_w S 5 0 K fun i=>(XT.ushrL x (Int32.ofNat i)&&&1).toInt32):=by
  refine Eq.trans ?_ (key.trans ?_)
  ·show _=f1 (_,_,_,_,own_w S 5 0 0 _)
   rw[own_w0];rfl
  ·show f1 _=_
   rw[e1_13_2 hf1,own_wn (c':=0) (by decide),T.1.1,if_neg Int32.lt_irrefl]
 refine⟨_,e1,own_Tw T (by omega),⟨C.1,C.2.1,C.2.2.1,C.2.2.2.1,C.2.2.2.2⟩,⟨p,q,fun i hi=>P i hi⟩,fun i hi=>?_⟩
 rw[own_wr (by omega) hi]
 exact own_zb _
theorem own_scL(hf1:Fx f1){r K:Nat}{S:MS}(I:own_I r K S)(x1 x2:Int32):∃v S',f1 (28,0,[.ref 0,.int x1,.int x2],[],S)=some (some (.int v),S')∧own_I r K S':=by
 have hB:own_tb r K≤192:=by have:=I.1.1.2;unfold own_tb;split<;>omega
 rw[e1_28_0 hf1,e1_48_0 hf1,I.2.1.2.2.1]
 by_cases h1:x1<0
 ·rw[if_pos h1];simp only[Option.bind_some,Option.toList_some,Option.toList_none,List.cons_append,List.nil_append,List.append_nil]
  rw[e1_28_5 hf1,if_pos rfl]
  exact⟨_,_,rfl,I⟩
 rw[if_neg h1]
 by_cases h2:x1<Int32.ofNat (own_tb r K+12)
 ·rw[if_pos h2];simp only[Option.bind_some,Option.toList_some,Option.toList_none,List.cons_append,List.nil_append,List.append_nil]
  rw[e1_28_5 hf1,if_neg (by decide),own_clF hf1];simp only[Option.bind_some,Option.toList_some,Option.toList_none,List.cons_append,List.nil_append,List.append_nil]
  have hb:inb x1 204=true:=by
   rw[Int32.lt_iff_toInt_lt] at h1 h2
   rw[own_toInt_ofNat (by omega)] at h2
   have z:(0:Int32).toInt=0:=rfl
   exact own_inb_iff.mpr ⟨by omega,by omega⟩
  rw[e1_28_24 hf1,if_pos hb]
  obtain⟨T,C,⟨p,q,P⟩,M⟩:=I
  exact⟨_,_,rfl,own_Tu T (by omega),⟨C.1,C.2.1,C.2.2.1,C.2.2.2.1,C.2.2.2.2⟩,⟨p,q,fun i hi=>P i hi⟩,fun i hi=>M i hi⟩
 ·rw[if_neg h2];simp only[Option.bind_some,Option.toList_some,Option.toList_none,List.cons_append,List.nil_append,List.append_nil]
  rw[e1_28_5 hf1,if_pos rfl]
  exact⟨_,_,rfl,I⟩
theorem own_ibF(hf1:Fx f1){S:MS}{K i:Nat}(h0:S 0 0=Int32.ofNat K)(hK:K≤64)(hi:i<K):f1 (47,0,[.ref 0,.int (Int32.ofNat i)],[],S)=some (some (.int 1),S):=by
 rw[e1_47_0 hf1,if_neg (own_nneg (by omega)),h0,if_pos ((own_lt (by omega) (by omega)).mpr hi)]
theorem own_g_interleave(hf1:Fx f1){S:MS}{K i:Nat}(h0:S 0 0=Int32.ofNat K)(hK:K≤64)(hi:i<K):f1 (6,0,[.ref 0,.int (Int32.ofNat i)],[],S)=some (some (.int (S 1 i)),S):=by
 rw[e1_6_0 hf1,own_ibF hf1 h0 hK hi];simp only[Option.bind_some,Option.toList_some,Option.toList_none,List.cons_append,List.nil_append,List.append_nil]
 rw[e1_6_5 hf1,if_neg (by decide),if_pos (own_inb (by omega) (by omega)),own_nat (by omega)]
theorem own_g_deinterleave(hf1:Fx f1){S:MS}{K i:Nat}(h0:S 0 0=Int32.ofNat K)(hK:K≤64)(hi:i<K):f1 (7,0,[.ref 0,.int (Int32.ofNat i)],[],S)=some (some (.int (S 2 i)),S):=by
 rw[e1_7_0 hf1,own_ibF hf1 h0 hK hi];simp only[Option.bind_some,Option.toList_some,Option.toList_none,List.cons_append,List.nil_append,List.append_nil]
 rw[e1_7_5 hf1,if_neg (by decide),if_pos (own_inb (by omega) (by omega)),own_nat (by omega)]
theorem own_g_getBit(hf1:Fx f1){S:MS}{K i:Nat}(h0:S 0 0=Int32.ofNat K)(hK:K≤64)(hi:i<K):f1 (14,0,[.ref 0,.int (Int32.ofNat i)],[],S)=some (some (.int (S 5 i)),S):=by
 rw[e1_14_0 hf1,own_ibF hf1 h0 hK hi];simp only[Option.bind_some,Option.toList_some,Option.toList_none,List.cons_append,List.nil_append,List.append_nil]
 rw[e1_14_5 hf1,if_neg (by decide),if_pos (own_inb (by omega) (by omega)),own_nat (by omega)]
theorem own_g_decodedBit(hf1:Fx f1){S:MS}{K i:Nat}(h0:S 0 0=Int32.ofNat K)(hK:K≤64)(hi:i<K):f1 (31,0,[.ref 0,.int (Int32.ofNat i)],[],S)=some (some (.int (S 27 i)),S):=by
 rw[e1_31_0 hf1,own_ibF hf1 h0 hK hi];simp only[Option.bind_some,Option.toList_some,Option.toList_none,List.cons_append,List.nil_append,List.append_nil]
 rw[e1_31_5 hf1,if_neg (by decide),if_pos (own_inb (by omega) (by omega)),own_nat (by omega)]
theorem own_g_posterior(hf1:Fx f1){S:MS}{K i:Nat}(h0:S 0 0=Int32.ofNat K)(hK:K≤64)(hi:i<K):f1 (32,0,[.ref 0,.int (Int32.ofNat i)],[],S)=some (some (.int (S 26 i)),S):=by
 rw[e1_32_0 hf1,own_ibF hf1 h0 hK hi];simp only[Option.bind_some,Option.toList_some,Option.toList_none,List.cons_append,List.nil_append,List.append_nil]
 rw[e1_32_5 hf1,if_neg (by decide),if_pos (own_inb (by omega) (by omega)),own_nat (by omega)]
theorem own_g_ext1(hf1:Fx f1){S:MS}{K i:Nat}(h0:S 0 0=Int32.ofNat K)(hK:K≤64)(hi:i<K):f1 (33,0,[.ref 0,.int 1,.int (Int32.ofNat i)],[],S)=some (some (.int (S 24 i)),S):=by
 rw[e1_33_0 hf1,own_ibF hf1 h0 hK hi];simp only[Option.bind_some,Option.toList_some,Option.toList_none,List.cons_append,List.nil_append,List.append_nil]
 rw[e1_33_5 hf1,if_neg (by decide),if_pos rfl,if_pos (own_inb (by omega) (by omega)),own_nat (by omega)]
theorem own_g_ext2(hf1:Fx f1){S:MS}{K i:Nat}(h0:S 0 0=Int32.ofNat K)(hK:K≤64)(hi:i<K):f1 (33,0,[.ref 0,.int 2,.int (Int32.ofNat i)],[],S)=some (some (.int (S 25 i)),S):=by
 rw[e1_33_0 hf1,own_ibF hf1 h0 hK hi];simp only[Option.bind_some,Option.toList_some,Option.toList_none,List.cons_append,List.nil_append,List.append_nil]
 rw[e1_33_5 hf1,if_neg (by decide),if_neg (by decide),if_pos rfl,if_pos (own_inb (by omega) (by omega)),own_nat (by omega)]
end Pub
def own_E(r K:Nat)(S:MS):Prop:=∃p q b:Nat→Nat,own_P K p q S∧(∀i,i<K→b i≤1∧S 5 i=Int32.ofNat (b i))∧∀x,x<own_tb r K+12→S 6 x=Int32.ofNat (own_cw r K b (fun j=>b (p j)) x)
def own_E2(r K:Nat)(S:MS)(y:Int32):Prop:=∃(p q b:Nat→Nat) (a:Nat),own_P K p q S∧(∀i,i<K→b i≤1∧S 5 i=Int32.ofNat (b i))∧(1≤a∧a≤127)∧own_cl y 1 127=Int32.ofNat a∧∀x,x<own_tb r K+12→S 7 x=own_am a (own_cw r K b (fun j=>b (p j)) x)
def own_Q(r K:Nat)(S:MS)(x7 x8:Int32):Prop:=x7=0∨(x7=1∧own_E r K S)∨(x7=2∧own_E2 r K S x8)
theorem own_feI{r K:Nat}{S S':MS}(h:own_fe S S')(I:own_I r K S):own_I r K S':=by
 obtain⟨T,C,⟨p,q,P⟩,M⟩:=I
 exact⟨own_feT h T,own_feC h C,⟨p,q,own_feP h P⟩,fun i hi=>by rw[h.2 5 (by omega)];exact M i hi⟩
theorem own_frI{r K:Nat}{S S':MS}(h:own_fr 21 S S')(I:own_I r K S):own_I r K S':=by
 obtain⟨T,C,⟨p,q,P⟩,M⟩:=I
 exact⟨own_frT h T,own_frC h C,⟨p,q,own_frP h P⟩,fun i hi=>by rw[h 5 (by omega)];exact M i hi⟩
section Law1
variable {f1:FT1}
theorem own_enL(hf1:Fx f1){r K:Nat}{S:MS}(I:own_I r K S):∃v S',f1 (15,0,[.ref 0],[],S)=some (some (.int v),S')∧own_I r K S'∧own_E r K S':=by
 have I':=I
 obtain⟨T,C,⟨p,q,P⟩,M⟩:=I
 have hb:∀i,i<K→(fun i=>(S 5 i).toNatClampNeg) i≤1∧S 5 i=Int32.ofNat ((fun i=>(S 5 i).toNatClampNeg) i):=fun i hi=>by
  show (S 5 i).toNatClampNeg≤1∧S 5 i=Int32.ofNat (S 5 i).toNatClampNeg
  rcases M i hi with e | e<;>rw[e]<;>decide
 obtain⟨S',e,F,h⟩:=own_enF hf1 T C P hb
 refine⟨_,S',e,own_feI F I',p,q,fun i=>(S 5 i).toNatClampNeg,own_feP F P,fun i hi=>?_,h⟩
 rw[F.2 5 (by omega)];exact hb i hi
theorem own_lnL(hf1:Fx f1){r K:Nat}{S:MS}(I:own_I r K S)(x:Int32):∃S',f1 (27,0,[.ref 0,.int x],[],S)=some (none,S')∧own_I r K S'∧(own_E r K S→own_E2 r K S' x):=by
 have F:own_fe S (own_w S 7 0 (own_tb r K+12) fun i=>if S 6 i=1 then own_cl x 1 127 else -own_cl x 1 127):=own_few (own_fer S) (by omega)
 refine⟨_,own_lnF hf1 I.1 I.2.1 x,own_feI F I,?_⟩
 rintro ⟨p,q,b,P,hb,h6⟩
 obtain⟨c1,c2⟩:=own_clr (x:=x) (a:=1) (b:=127) (by decide)
 have l1:(1:Int32).toInt=1:=rfl
 have l8:(127:Int32).toInt=127:=rfl
 generalize hy:own_cl x 1 127=y at c1 c2 F ⊢
 rw[Int32.lt_iff_toInt_lt] at c1 c2
 have ey:y=Int32.ofNat y.toInt.toNat:=Int32.toInt_inj.mp (by rw[own_toInt_ofNat (by omega)];omega)
 refine⟨p,q,b,y.toInt.toNat,own_feP F P,fun i hi=>?_,⟨by omega,by omega⟩,hy.trans ey,fun i hi=>?_⟩
 ·rw[F.2 5 (by omega)];exact hb i hi
 ·rw[own_wr (by omega) hi,h6 i hi,own_am,←ey]
  have hl:=own_cwL (r:=r) (K:=K) (b:=b) (c:=fun j=>b (p j)) I.2.1.2.1 (fun i hi=>(hb i hi).1) (fun i hi=>(hb _ (P i hi).1.2.1).1) i
  rcases (show own_cw r K b (fun j=>b (p j)) i=0∨own_cw r K b (fun j=>b (p j)) i=1 by omega) with e | e
  ·rw[e,if_neg (by decide),if_neg (by decide)]
  ·rw[e,if_pos (by decide),if_pos rfl]
theorem own_dcL(hf1:Fx f1){r K:Nat}{S:MS}(I:own_I r K S)(x:Int32):∃v S',f1 (30,0,[.ref 0,.int x],[],S)=some (some (.int v),S')∧own_I r K S':=by
 have I':=I
 obtain⟨T,C,⟨p,q,P⟩,M⟩:=I
 obtain⟨n,-,-,e⟩:=own_decF hf1 T C P x
 refine⟨_,_,e,own_frI ?_ I'⟩
 have F2:own_fr 21 S (own_w (own_w (own_ga S r K) 24 0 K fun _=>0) 25 0 K fun _=>0):=own_frw (own_frw (own_frw (own_frw (own_frw (own_frr _ _) (by omega)) (by omega)) (by omega)) (by omega)) (by omega)
 generalize (own_w (own_w (own_ga S r K) 24 0 K fun _=>0) 25 0 K fun _=>0)=Z at F2
 have F:own_fr 21 S (own_itD r K p q Z n):=by
  clear e
  induction n with
  |zero=>exact F2
  |succ n ih=>exact own_frt (own_frt ih (own_frm (own_D1fr _ r K) (by omega))) (own_frm (own_D2fr _ r K p q) (by omega))
 exact own_frw (own_frw F (by omega)) (by omega)
theorem own_dnL(hf1:Fx f1){r K:Nat}{S:MS}{y:Int32}(I:own_I r K S)(E:own_E2 r K S y)(x:Int32):∃S',f1 (30,0,[.ref 0,.int x],[],S)=some (some (.int 0),S')∧own_I r K S'∧∃(b:Nat→Nat) (a:Nat),(1≤a∧a≤127)∧own_cl y 1 127=Int32.ofNat a∧∀i,i<K→b i≤1∧S' 5 i=Int32.ofNat (b i)∧S' 27 i=S' 5 i∧(b i=1→(a:Int)≤(S' 26 i).toInt)∧(b i=0→(S' 26 i).toInt ≤ -(a:Int))∧own_sg (b i) (S' 24 i).toInt∧own_sg (b i) (S' 25 i).toInt:=by
 have I':=I
 obtain⟨T,C,-,M⟩:=I
 obtain⟨p,q,b,a,P,hb,ha,hy,h7⟩:=E
 have hK:=T.1.2
 obtain⟨n,-,-,e⟩:=own_decF hf1 T C P x
 have J:=own_JN (S:=S) (r:=r) (K:=K) (p:=p) (b:=b) (a:=a) C ha (fun i hi=>(hb i hi).1) (fun i hi=>(P i hi).1.2.1) h7
 have F2:own_fr 21 S (own_w (own_w (own_ga S r K) 24 0 K fun _=>0) 25 0 K fun _=>0):=own_frw (own_frw (own_frw (own_frw (own_frw (own_frr _ _) (by omega)) (by omega)) (by omega)) (by omega)) (by omega)
 generalize (own_w (own_w (own_ga S r K) 24 0 K fun _=>0) 25 0 K fun _=>0)=Z at F2 J e
 obtain⟨J',F⟩:=own_Jit ha hK.2 (own_frP F2 P) J n
 have F':=own_frt F2 F
 generalize own_itD r K p q Z n=Y at J' F F' e
 have h5:∀i,i<K→Y 5 i=Int32.ofNat (b i):=fun i hi=>(F' 5 (by omega) i).trans (hb i hi).2
 obtain⟨k1,k2⟩:=own_Jfi ha J' h5
 rw[k1 K (Nat.le_refl K)] at e
 refine⟨_,e,own_frI (own_frw (own_frw F' (by omega)) (by omega)) I',b,a,ha,hy,fun i hi=>?_⟩
 obtain⟨m1,m2,m3⟩:=k2 i hi
 have g5:own_fi Y K 5 i=Y 5 i:=by rw[own_fi,own_wn (by decide),own_wn (by decide)]
 have g24:own_fi Y K 24 i=Y 24 i:=by rw[own_fi,own_wn (by decide),own_wn (by decide)]
 have g25:own_fi Y K 25 i=Y 25 i:=by rw[own_fi,own_wn (by decide),own_wn (by decide)]
 have g26:own_fi Y K 26 i=own_v Y i:=by rw[own_fi,own_wn (by decide),own_wr (by omega) hi]
 have g27:own_fi Y K 27 i=own_dc Y i:=by rw[own_fi,own_wr (by omega) hi]
 rw[g5,g24,g25,g26,g27]
 obtain⟨-,-,-,-,-,-,-,j8,-,j10⟩:=J'.1 i hi
 exact⟨(hb i hi).1,h5 i hi,m1,m2,m3,j8,j10⟩
end Law1
section Law
variable {f1:FT1} {f2:FT2} {xs:List Int32}
theorem own_modF(hf2:Fix2 ms1 ms2 iv1 292 nmax1 (some xs) f1 f2)(x0:Int32){x1:Int32}(h:x1≠0)(ob:List MS):∃v,f2 (2,0,[.int x0,.int x1],[],(false,ob))=some (some (.int v),(false,ob)):=by
 rw[e2_2_0 hf2 _ _ h]
 split<;>exact⟨_,rfl⟩
theorem own_celF(hf2:Fix2 ms1 ms2 iv1 292 nmax1 (some xs) f1 f2)(hxs:xs.length<2147483648){n:Nat}(hn:n<2147483648)(ob:List MS):∃v,f2 (1,0,[.ref 0,.int (Int32.ofNat n)],[],(false,ob))=some (some (.int v),(false,ob)):=by
 rw[e2_1_0 hf2]
 by_cases h:Int32.ofNat n<Int32.ofNat xs.length
 ·rw[if_pos h,if_pos (own_inb hn ((own_lt hn hxs).mp h))];exact⟨_,rfl⟩
 ·rw[if_neg h];exact⟨_,rfl⟩
theorem own_bkF(hf2:Fix2 ms1 ms2 iv1 292 nmax1 (some xs) f1 f2)(x:Int32)(ob:List MS):f2 (3,0,[.int x],[],(false,ob))=some (some (.int (Int32.ofNat (own_Kb x))),(false,ob)):=by
 have k:=(own_Kbm x).2.2.2
 unfold own_cl at k
 rw[e2_3_0 hf2]
 by_cases h1:x<8
 ·rw[if_pos h1,e2_3_9 hf2,if_neg (by decide)]
  rw[if_pos h1] at k;rw[k]
 ·rw[if_neg h1,e2_3_9 hf2]
  rw[if_neg h1] at k
  by_cases h2:64<x
  ·rw[if_pos h2];rw[if_pos h2] at k;rw[k]
  ·rw[if_neg h2];rw[if_neg h2] at k;rw[k]
theorem own_cpF(hf2:Fix2 ms1 ms2 iv1 292 nmax1 (some xs) f1 f2)(x0 x1:Int32)(ob:List MS):∃v,f2 (6,0,[.int x0,.int x1],[],(false,ob))=some (some (.int v),(false,ob)):=by
 have k3:∃v,f2 (6,36,[.int x0,.int x1],[],(false,ob))=some (some (.int v),(false,ob)):=by
  rw[e2_6_36 hf2]
  split
  ·split<;>exact⟨_,rfl⟩
  ·exact⟨_,rfl⟩
 have k2:∃v,f2 (6,22,[.int x0,.int x1],[],(false,ob))=some (some (.int v),(false,ob)):=by
  rw[e2_6_22 hf2]
  split
  ·split
   ·exact⟨_,rfl⟩
   ·exact k3
  ·exact k3
 rw[e2_6_0 hf2]
 split
 ·exact⟨_,rfl⟩
 ·split
  ·split
   ·exact⟨_,rfl⟩
   ·exact k2
  ·exact k2
theorem own_rdF(hf2:Fix2 ms1 ms2 iv1 292 nmax1 (some xs) f1 f2)(x0:Int32)(ob:List MS):∃v,f2 (7,0,[.int x0],[],(false,ob))=some (some (.int v),(false,ob)):=by
 have k3:∀x1,∃v,f2 (7,22,[.int x0,.int x1],[],(false,ob))=some (some (.int v),(false,ob)):=fun x1=>by
  rw[e2_7_22 hf2]
  split<;>exact⟨_,rfl⟩
 have k2:∀x1,∃v,f2 (7,12,[.int x0,.int x1],[],(false,ob))=some (some (.int v),(false,ob)):=fun x1=>by
  rw[e2_7_12 hf2]
  split<;>exact k3 _
 rw[e2_7_0 hf2]
 split<;>exact k2 _
theorem own_gfL(hf2:Fix2 ms1 ms2 iv1 292 nmax1 (some xs) f1 f2)(x0:Int32){K:Nat}(hK:8≤K∧K≤64)(h:Int32.ofNat K≠0)(ob:List MS):∀m n,n+m=K→∀x2,∃v,f2 (5,12,[.int x0,.int (Int32.ofNat K),.int x2,.int (Int32.ofNat n)],[],(false,ob))=some (some (.int v),(false,ob))
 |0,n,e,x2=>by
  have e':n=K:=by omega
  subst e'
  rw[e2_5_12 hf2,if_neg Int32.lt_irrefl];exact⟨_,rfl⟩
 |m+1,n,e,x2=>by
  obtain⟨v,ev⟩:=own_cpF hf2 x2 (Int32.ofNat K) ob
  rw[e2_5_12 hf2,if_pos ((own_lt (by omega) (by omega)).mpr (by omega)),ev];simp only[Option.bind_some,Option.toList_some,Option.toList_none,List.cons_append,List.nil_append,List.append_nil]
  rw[e2_5_22 hf2 _ _ _ _ _ h]
  split
  ·rw[own_add1];exact own_gfL hf2 x0 hK h ob m (n+1) (by omega) _
  ·exact⟨_,rfl⟩
theorem own_gfF(hf2:Fix2 ms1 ms2 iv1 292 nmax1 (some xs) f1 f2)(x0:Int32){K:Nat}(hK:8≤K∧K≤64)(h:Int32.ofNat K≠0)(ob:List MS):∃v,f2 (5,0,[.int x0,.int (Int32.ofNat K)],[],(false,ob))=some (some (.int v),(false,ob)):=by
 obtain⟨v,ev⟩:=own_modF hf2 (2*x0+1) h ob
 rw[e2_5_0 hf2,ev];simp only[Option.bind_some,Option.toList_some,Option.toList_none,List.cons_append,List.nil_append,List.append_nil]
 rw[e2_5_9 hf2]
 exact own_gfL hf2 x0 hK h ob K 0 (by omega) v
theorem own_ivF(hf1:Fx f1)(hf2:Fix2 ms1 ms2 iv1 292 nmax1 (some xs) f1 f2){K:Nat}{S:MS}{p q:Nat→Nat}(h0:S 0 0=Int32.ofNat K)(hK:K≤64)(P:own_P K p q S):f2 (4,0,[.ref 1,.int (Int32.ofNat K)],[],(false,[S]))=some (some (.int 1),(false,[S])):=by
 refine (e2_4_0 hf2 _ [S] 0).trans ?_
 refine Eq.trans ?_ ((own_itr (fun i=>f2 (4,2,[.ref 1,.int (Int32.ofNat K),.int (Int32.ofNat i)],[],(false,[S]))) (n:=K) fun i hi=>?_).trans ?_)
 ·rfl
 ·show f2 _=f2 _
  obtain⟨⟨a1,a2,a3⟩,a4,a5,a6⟩:=P i hi
  refine (e2_4_2 hf2 _ _ [S] 0 S rfl).trans ?_
  rw[if_pos ((own_lt (by omega) (by omega)).mpr hi),own_g_interleave hf1 h0 hK hi];simp only[Option.bind_some,Option.toList_some,Option.toList_none,List.cons_append,List.nil_append,List.append_nil]
  rw[List.set_cons_zero,a1]
  refine (e2_4_12 hf2 _ _ _ [S] 0 S rfl).trans ?_
  rw[if_neg (own_nneg (by omega)),if_pos ((own_lt (by omega) (by omega)).mpr a2),own_g_deinterleave hf1 h0 hK a2];simp only[Option.bind_some,Option.toList_some,Option.toList_none,List.cons_append,List.nil_append,List.append_nil]
  rw[List.set_cons_zero,(P _ a2).2.1,a3]
  refine (e2_4_29 hf2 _ _ _ _ [S] 0 S rfl).trans ?_
  rw[if_pos rfl,own_g_deinterleave hf1 h0 hK hi];simp only[Option.bind_some,Option.toList_some,Option.toList_none,List.cons_append,List.nil_append,List.append_nil]
  rw[List.set_cons_zero,a4]
  refine (e2_4_40 hf2 _ _ _ _ [S] 0 S rfl).trans ?_
  rw[if_neg (own_nneg (by omega)),if_pos ((own_lt (by omega) (by omega)).mpr a5),own_g_interleave hf1 h0 hK a5];simp only[Option.bind_some,Option.toList_some,Option.toList_none,List.cons_append,List.nil_append,List.append_nil]
  rw[List.set_cons_zero,(P _ a5).1.1,a6]
  refine (e2_4_61 hf2 _ _ _ _ _ [S] 0).trans ?_
  rw[if_pos rfl,own_add1]
 ·show f2 _=_
  refine (e2_4_2 hf2 _ _ [S] 0 S rfl).trans ?_
  rw[if_neg Int32.lt_irrefl]
theorem own_ckF(hf1:Fx f1)(hf2:Fix2 ms1 ms2 iv1 292 nmax1 (some xs) f1 f2){r K:Nat}{S:MS}{y:Int32}(I:own_I r K S)(E:own_E2 r K S y)(x:Int32):∃S',f2 (8,0,[.ref 1,.int (Int32.ofNat K),.int y,.int x],[],(false,[S]))=some (some (.int 1),(false,[S']))∧own_I r K S':=by
 obtain⟨S',e,I',b,a,ha,hy,h⟩:=own_dnL hf1 I E x
 have hK:=I.1.1.2
 have h0:=I'.1.1.1
 refine⟨S',?_,I'⟩
 refine (e2_8_0 hf2 _ _ _ [S] 0).trans ?_
 have ca:f2 (9,0,[.int y],[],(false,[S]))=some (some (.int (Int32.ofNat a)),(false,[S])):=by
  rw[←hy,e2_9_0 hf2,own_cl]
  split
  ·rfl
  ·split<;>rfl
 rw[ca];simp only[Option.bind_some,Option.toList_some,Option.toList_none,List.cons_append,List.nil_append,List.append_nil]
 refine (e2_8_4 hf2 _ _ _ _ [S] 0 S rfl).trans ?_
 rw[e];simp only[Option.bind_some,Option.toList_some,Option.toList_none,List.cons_append,List.nil_append,List.append_nil]
 rw[List.set_cons_zero]
 refine (e2_8_11 hf2 _ _ _ _ _ [S'] 0).trans ?_
 rw[if_pos rfl]
 have l0:(0:Int32).toInt=0:=rfl
 have la:(Int32.ofNat a).toInt=a:=own_toInt_ofNat (by omega)
 have lna:(-Int32.ofNat a).toInt = -(a:Int):=by rw[Int32.toInt_neg,la];exact bm32 (by omega) (by omega)
 refine Eq.trans ?_ ((own_itr (fun i=>f2 (8,19,[.ref 1,.int (Int32.ofNat K),.int y,.int x,.int (Int32.ofNat a),.int (Int32.ofNat i)],[],(false,[S']))) (n:=K) fun i hi=>?_).trans ?_)
 ·rfl
 ·show f2 _=f2 _
  obtain⟨b1,b5,b27,p1,p0,⟨s1,s0⟩,⟨t1,t0⟩⟩:=h i hi
  refine (e2_8_19 hf2 _ _ _ _ _ [S'] 0 S' rfl).trans ?_
  rw[if_pos ((own_lt (by omega) (by omega)).mpr hi),own_g_getBit hf1 h0 hK.2 hi];simp only[Option.bind_some,Option.toList_some,Option.toList_none,List.cons_append,List.nil_append,List.append_nil]
  rw[List.set_cons_zero]
  refine (e2_8_31 hf2 _ _ _ _ _ _ [S'] 0 S' rfl).trans ?_
  rw[own_g_decodedBit hf1 h0 hK.2 hi];simp only[Option.bind_some,Option.toList_some,Option.toList_none,List.cons_append,List.nil_append,List.append_nil]
  rw[List.set_cons_zero]
  refine (e2_8_39 hf2 _ _ _ _ _ _ _ [S'] 0 S' rfl).trans ?_
  rw[if_pos b27,own_g_posterior hf1 h0 hK.2 hi];simp only[Option.bind_some,Option.toList_some,Option.toList_none,List.cons_append,List.nil_append,List.append_nil]
  rw[List.set_cons_zero]
  refine (e2_8_52 hf2 _ _ _ _ _ _ _ [S'] 0).trans ?_
  have k69:(b i=1∨b i=0)→f2 (8,69,[.ref 1,.int (Int32.ofNat K),.int y,.int x,.int (Int32.ofNat a),.int (Int32.ofNat i),.int (S' 5 i),.int (S' 26 i)],[],(false,[S']))=f2 (8,19,[.ref 1,.int (Int32.ofNat K),.int y,.int x,.int (Int32.ofNat a),.int (Int32.ofNat (i+1))],[],(false,[S'])):=fun hb=>by
   have k91:((f1 (33,0,[.ref 0,.int 1,.int (Int32.ofNat i)],[],S')).bind fun q=>f2 (8,91,[.ref (0+1),.int (Int32.ofNat K),.int y,.int x,.int (Int32.ofNat a),.int (Int32.ofNat i),.int (S' 5 i),.int (S' 26 i)],q.1.toList++[],(false,[S'].set 0 q.2)))=f2 (8,19,[.ref 1,.int (Int32.ofNat K),.int y,.int x,.int (Int32.ofNat a),.int (Int32.ofNat (i+1))],[],(false,[S'])):=by
    rw[own_g_ext1 hf1 h0 hK.2 hi];simp only[Option.bind_some,Option.toList_some,Option.toList_none,List.cons_append,List.nil_append,List.append_nil]
    rw[List.set_cons_zero]
    refine (e2_8_91 hf2 _ _ _ _ _ _ _ _ [S'] 0 S' rfl).trans ?_
    rw[own_g_ext2 hf1 h0 hK.2 hi];simp only[Option.bind_some,Option.toList_some,Option.toList_none,List.cons_append,List.nil_append,List.append_nil]
    rw[List.set_cons_zero]
    refine (e2_8_100 hf2 _ _ _ _ _ _ _ _ _ [S'] 0).trans ?_
    have k127:f2 (8,127,[.ref (0+1),.int (Int32.ofNat K),.int y,.int x,.int (Int32.ofNat a),.int (Int32.ofNat i),.int (S' 5 i),.int (S' 26 i),.int (S' 24 i),.int (S' 25 i)],[],(false,[S']))=f2 (8,19,[.ref 1,.int (Int32.ofNat K),.int y,.int x,.int (Int32.ofNat a),.int (Int32.ofNat (i+1))],[],(false,[S'])):=by
     refine (e2_8_127 hf2 _ _ _ _ _ _ _ _ _ [S'] 0).trans ?_
     rw[own_add1]
     by_cases z:S' 25 i=0
     ·rw[if_pos z]
     rw[if_neg z]
     rcases hb with e | e
     ·have g1:=p1 e;have g2:=t1 e
      rw[if_pos (by rw[Int32.lt_iff_toInt_lt];omega),if_neg (by rw[Int32.lt_iff_toInt_lt];omega)]
     ·have g1:=p0 e;have g2:=t0 e
      rw[if_neg (by rw[Int32.lt_iff_toInt_lt];omega),if_neg (by rw[Int32.lt_iff_toInt_lt];omega)]
    by_cases z:S' 24 i=0
    ·rw[if_pos z];exact k127
    rw[if_neg z]
    rcases hb with e | e
    ·have g1:=p1 e;have g2:=s1 e
     rw[if_pos (by rw[Int32.lt_iff_toInt_lt];omega),if_neg (by rw[Int32.lt_iff_toInt_lt];omega)];exact k127
    ·have g1:=p0 e;have g2:=s0 e
     rw[if_neg (by rw[Int32.lt_iff_toInt_lt];omega),if_neg (by rw[Int32.lt_iff_toInt_lt];omega)];exact k127
   refine (e2_8_69 hf2 _ _ _ _ _ _ _ [S'] 0 S' rfl).trans ?_
   rcases hb with e | e
   ·rw[if_neg (by rw[b5,e];decide)];exact k91
   ·have g1:=p0 e
    rw[if_pos (by rw[b5,e];rfl),if_neg (by rw[Int32.lt_iff_toInt_lt];omega)];exact k91
  rcases (show b i=1∨b i=0 by omega) with e | e
  ·have g1:=p1 e
   rw[if_pos (by rw[b5,e];rfl),if_neg (by rw[Int32.lt_iff_toInt_lt];omega)];exact k69 (Or.inl e)
  ·rw[if_neg (by rw[b5,e];decide)];exact k69 (Or.inr e)
 ·show f2 _=_
  refine (e2_8_19 hf2 _ _ _ _ _ [S'] 0 S' rfl).trans ?_
  rw[if_neg Int32.lt_irrefl]
theorem own_lp(hf1:Fx f1)(hf2:Fix2 ms1 ms2 iv1 292 nmax1 (some xs) f1 f2)(hxs:xs.length<2147483648){r K:Nat}(hK:8≤K∧K≤64)(x1 x2:Int32):∀m n,n+m=64→∀S x7 x8,own_I r K S→own_Q r K S x7 x8→∃W,f2 (0,64,[.ref 0,.int x1,.int x2,.int (Int32.ofNat K),.ref 1,.int (Int32.ofNat (2+4*n)),.int (Int32.ofNat n),.int x7,.int x8],[],(false,[S]))=some (some (.int 1),W)
 |0,n,e,S,x7,x8,I,Q=>by
  have e':n=64:=by omega
  subst e'
  rw[e2_0_64 hf2]
  by_cases h:Int32.ofNat (2+4*64)<Int32.ofNat xs.length
  ·rw[if_pos h,if_neg (by decide)];exact⟨_,rfl⟩
  ·rw[if_neg h];exact⟨_,rfl⟩
 |m+1,n,e,S,x7,x8,I,Q=>by
  obtain⟨z1,z2,z3⟩:=(show ∀K,K<65→8≤K→Int32.ofNat K≠0∧2*Int32.ofNat K+4≠0∧3*Int32.ofNat K+20≠0 by decide) K (by omega) hK.1
  have nx:∀(S':MS) (y7 y8 x9 x10 x11:Int32),own_I r K S'→own_Q r K S' y7 y8→∃W,((f2 (4,0,[.ref 1,.int (Int32.ofNat K)],[],(false,[S']))).bind fun q=>f2 (0,437,[.ref 0,.int x1,.int x2,.int (Int32.ofNat K),.ref 1,.int (Int32.ofNat (2+4*n)+4),.int (Int32.ofNat n+1),.int y7,.int y8,.int x9,.int x10,.int x11],q.1.toList++[],q.2))=some (some (.int 1),W):=fun S' y7 y8 x9 x10 x11 I' Q'=>by
   obtain⟨p,q,P⟩:=I'.2.2.1
   rw[own_ivF hf1 hf2 I'.1.1.1 hK.2 P];simp only[Option.bind_some,Option.toList_some,Option.toList_none,List.cons_append,List.nil_append,List.append_nil]
   rw[e2_0_437 hf2,if_neg (by decide),own_add1,show Int32.ofNat (2+4*n)+4=Int32.ofNat (2+4*(n+1)) from own_ad (2+4*n) 4]
   exact own_lp hf1 hf2 hxs hK x1 x2 m (n+1) (by omega) S' y7 y8 I' Q'
  rw[e2_0_64 hf2]
  by_cases h:Int32.ofNat (2+4*n)<Int32.ofNat xs.length
  ·rw[if_pos h,if_pos (show Int32.ofNat n<64 from (own_lt (b:=64) (by omega) (by omega)).mpr (by omega))]
   obtain⟨v0,e0⟩:=own_celF hf2 hxs (n:=2+4*n) (by omega) [S]
   rw[e0];simp only[Option.bind_some,Option.toList_some,Option.toList_none,List.cons_append,List.nil_append,List.append_nil]
   rw[e2_0_84 hf2]
   obtain⟨x9,e9⟩:=own_modF hf2 v0 (x1:=10) (by decide) [S]
   rw[e9];simp only[Option.bind_some,Option.toList_some,Option.toList_none,List.cons_append,List.nil_append,List.append_nil]
   rw[e2_0_89 hf2,own_add1]
   obtain⟨x10,e10⟩:=own_celF hf2 hxs (n:=2+4*n+1) (by omega) [S]
   rw[e10];simp only[Option.bind_some,Option.toList_some,Option.toList_none,List.cons_append,List.nil_append,List.append_nil]
   rw[e2_0_99 hf2,show Int32.ofNat (2+4*n)+2=Int32.ofNat (2+4*n+2) from own_ad (2+4*n) 2]
   obtain⟨x11,e11⟩:=own_celF hf2 hxs (n:=2+4*n+2) (by omega) [S]
   rw[e11];simp only[Option.bind_some,Option.toList_some,Option.toList_none,List.cons_append,List.nil_append,List.append_nil]
   rw[e2_0_109 hf2]
   by_cases h0:x9=0
   ·rw[if_pos h0]
    obtain⟨u1,g1⟩:=own_modF hf2 x10 z2 [S]
    rw[g1];simp only[Option.bind_some,Option.toList_some,Option.toList_none,List.cons_append,List.nil_append,List.append_nil]
    rw[e2_0_134 hf2]
    obtain⟨u2,g2⟩:=own_modF hf2 x11 z2 [S]
    rw[g2];simp only[Option.bind_some,Option.toList_some,Option.toList_none,List.cons_append,List.nil_append,List.append_nil]
    rw[e2_0_146 hf2]
    obtain⟨v,S',g3,I'⟩:=own_siL hf1 I (u1-2) (u2-2)
    rw[g3];simp only[Option.bind_some,Option.toList_some,Option.toList_none,List.cons_append,List.nil_append,List.append_nil]
    rw[e2_0_151 hf2]
    exact nx S' 0 x8 x9 x10 x11 I' (Or.inl rfl)
   rw[if_neg h0]
   by_cases h1:x9=1
   ·rw[if_pos h1]
    obtain⟨u1,g1⟩:=own_gfF hf2 x10 hK z1 [S]
    rw[g1];simp only[Option.bind_some,Option.toList_some,Option.toList_none,List.cons_append,List.nil_append,List.append_nil]
    rw[e2_0_172 hf2]
    obtain⟨u2,g2⟩:=own_rdF hf2 (Int32.ofNat K) [S]
    rw[g2];simp only[Option.bind_some,Option.toList_some,Option.toList_none,List.cons_append,List.nil_append,List.append_nil]
    rw[e2_0_178 hf2]
    obtain⟨u3,g3⟩:=own_modF hf2 (x11*u2) z1 [S]
    rw[g3];simp only[Option.bind_some,Option.toList_some,Option.toList_none,List.cons_append,List.nil_append,List.append_nil]
    rw[e2_0_183 hf2]
    obtain⟨v,S',g4,I'⟩:=own_siL hf1 I u1 u3
    rw[g4];simp only[Option.bind_some,Option.toList_some,Option.toList_none,List.cons_append,List.nil_append,List.append_nil]
    rw[e2_0_186 hf2]
    exact nx S' 0 x8 x9 x10 x11 I' (Or.inl rfl)
   rw[if_neg h1]
   by_cases h2:x9=2
   ·rw[if_pos h2]
    obtain⟨S',g3,I'⟩:=own_smL hf1 I ((x10.toInt64<<<((32:Int32).toInt64&&&63))|||(x11.toInt64&&&4294967295))
    rw[g3];simp only[Option.bind_some,Option.toList_some,Option.toList_none,List.cons_append,List.nil_append,List.append_nil]
    rw[e2_0_218 hf2]
    exact nx S' 0 x8 x9 x10 x11 I' (Or.inl rfl)
   rw[if_neg h2]
   by_cases h3:x9=3
   ·rw[if_pos h3]
    obtain⟨v,S',g3,I',E'⟩:=own_enL hf1 I
    rw[g3];simp only[Option.bind_some,Option.toList_some,Option.toList_none,List.cons_append,List.nil_append,List.append_nil]
    rw[e2_0_235 hf2]
    exact nx S' 1 x8 x9 x10 x11 I' (Or.inr (Or.inl ⟨rfl,E'⟩))
   rw[if_neg h3]
   by_cases h4:x9=4
   ·rw[if_pos h4]
    obtain⟨u1,g1⟩:=own_modF hf2 x10 (x1:=300) (by decide) [S]
    rw[g1];simp only[Option.bind_some,Option.toList_some,Option.toList_none,List.cons_append,List.nil_append,List.append_nil]
    rw[e2_0_256 hf2]
    obtain⟨S',g3,I',E'⟩:=own_lnL hf1 I (u1-50)
    rw[g3];simp only[Option.bind_some,Option.toList_some,Option.toList_none,List.cons_append,List.nil_append,List.append_nil]
    rw[e2_0_268 hf2]
    by_cases h7:x7=1
    ·rw[if_pos h7]
     refine nx S' 2 (u1-50) x9 x10 x11 I' (Or.inr (Or.inr ⟨rfl,E' ?_⟩))
     rcases Q with q | ⟨-,q⟩ | ⟨q,-⟩
     ·rw[q] at h7;exact absurd h7 (by decide)
     ·exact q
     ·rw[q] at h7;exact absurd h7 (by decide)
    ·rw[if_neg h7]
     exact nx S' 0 (u1-50) x9 x10 x11 I' (Or.inl rfl)
   rw[if_neg h4]
   by_cases h5:x9=5
   ·rw[if_pos h5]
    obtain⟨u1,g1⟩:=own_modF hf2 x10 (x1:=12) (by decide) [S]
    rw[g1];simp only[Option.bind_some,Option.toList_some,Option.toList_none,List.cons_append,List.nil_append,List.append_nil]
    rw[e2_0_297 hf2]
    by_cases h7:x7=2
    ·rw[if_pos h7]
     have E':own_E2 r K S x8:=by
      rcases Q with q | ⟨q,-⟩ | ⟨-,q⟩
      ·rw[q] at h7;exact absurd h7 (by decide)
      ·rw[q] at h7;exact absurd h7 (by decide)
      ·exact q
     obtain⟨S',g3,I'⟩:=own_ckF hf1 hf2 I E' (u1-2)
     rw[g3];simp only[Option.bind_some,Option.toList_some,Option.toList_none,List.cons_append,List.nil_append,List.append_nil]
     rw[e2_0_317 hf2,if_neg (by decide)]
     exact nx S' 0 x8 x9 x10 x11 I' (Or.inl rfl)
    ·rw[if_neg h7]
     obtain⟨v,S',g3,I'⟩:=own_dcL hf1 I (u1-2)
     rw[g3];simp only[Option.bind_some,Option.toList_some,Option.toList_none,List.cons_append,List.nil_append,List.append_nil]
     rw[e2_0_329 hf2]
     exact nx S' 0 x8 x9 x10 x11 I' (Or.inl rfl)
   rw[if_neg h5]
   by_cases h6:x9=6
   ·rw[if_pos h6]
    obtain⟨u1,g1⟩:=own_modF hf2 x10 z3 [S]
    rw[g1];simp only[Option.bind_some,Option.toList_some,Option.toList_none,List.cons_append,List.nil_append,List.append_nil]
    rw[e2_0_356 hf2]
    obtain⟨u2,g2⟩:=own_modF hf2 x11 (x1:=400) (by decide) [S]
    rw[g2];simp only[Option.bind_some,Option.toList_some,Option.toList_none,List.cons_append,List.nil_append,List.append_nil]
    rw[e2_0_366 hf2]
    obtain⟨v,S',g3,I'⟩:=own_scL hf1 I (u1-4) (u2-200)
    rw[g3];simp only[Option.bind_some,Option.toList_some,Option.toList_none,List.cons_append,List.nil_append,List.append_nil]
    rw[e2_0_373 hf2]
    exact nx S' 0 x8 x9 x10 x11 I' (Or.inl rfl)
   rw[if_neg h6]
   obtain⟨v,S',g3,I',E'⟩:=own_enL hf1 I
   rw[g3];simp only[Option.bind_some,Option.toList_some,Option.toList_none,List.cons_append,List.nil_append,List.append_nil]
   rw[e2_0_385 hf2]
   obtain⟨u1,g1⟩:=own_modF hf2 x10 (x1:=300) (by decide) [S']
   rw[g1];simp only[Option.bind_some,Option.toList_some,Option.toList_none,List.cons_append,List.nil_append,List.append_nil]
   rw[e2_0_394 hf2]
   obtain⟨S2,g4,I2,E2⟩:=own_lnL hf1 I' (u1-50)
   rw[g4];simp only[Option.bind_some,Option.toList_some,Option.toList_none,List.cons_append,List.nil_append,List.append_nil]
   rw[e2_0_406 hf2]
   obtain⟨u2,g2⟩:=own_modF hf2 x11 (x1:=12) (by decide) [S2]
   rw[g2];simp only[Option.bind_some,Option.toList_some,Option.toList_none,List.cons_append,List.nil_append,List.append_nil]
   rw[e2_0_418 hf2]
   obtain⟨S3,g5,I3⟩:=own_ckF hf1 hf2 I2 (E2 E') (u2-2)
   rw[g5];simp only[Option.bind_some,Option.toList_some,Option.toList_none,List.cons_append,List.nil_append,List.append_nil]
   rw[e2_0_423 hf2,if_neg (by decide)]
   exact nx S3 0 (u1-50) x9 x10 x11 I3 (Or.inl rfl)
  ·rw[if_neg h];exact⟨_,rfl⟩
end Law
theorem own_run{f1:FT1}{f2:FT2}{xs:List Int32}(hf1:Fx f1)(hf2:Fix2 ms1 ms2 iv1 292 nmax1 (some xs) f1 f2)(hxs:xs.length<2147483648)(hlen:own_len xs):∃W,f2 (0,0,[.ref 0],[],(false,[]))=some (some (.int 1),W):=by
 rw[e2_0_0 hf2]
 obtain⟨v0,e0⟩:=own_celF hf2 hxs (n:=0) (by omega) []
 rw[show (0:Int32)=Int32.ofNat 0 from rfl,e0];simp only[Option.bind_some,Option.toList_some,Option.toList_none,List.cons_append,List.nil_append,List.append_nil]
 rw[e2_0_5 hf2]
 obtain⟨v1,e1⟩:=own_modF hf2 v0 (x1:=80) (by decide) []
 rw[e1];simp only[Option.bind_some,Option.toList_some,Option.toList_none,List.cons_append,List.nil_append,List.append_nil]
 rw[e2_0_10 hf2]
 obtain⟨v2,e2⟩:=own_celF hf2 hxs (n:=1) (by omega) []
 rw[show (1:Int32)=Int32.ofNat 1 from rfl,e2];simp only[Option.bind_some,Option.toList_some,Option.toList_none,List.cons_append,List.nil_append,List.append_nil]
 rw[e2_0_18 hf2]
 obtain⟨v3,e3⟩:=own_modF hf2 v2 (x1:=4) (by decide) []
 rw[e3];simp only[Option.bind_some,Option.toList_some,Option.toList_none,List.cons_append,List.nil_append,List.append_nil]
 rw[e2_0_22 hf2,own_bkF hf2];simp only[Option.bind_some,Option.toList_some,Option.toList_none,List.cons_append,List.nil_append,List.append_nil]
 rw[e2_0_29 hf2]
 obtain⟨r,S,e4,I⟩:=own_mkF hf1 (v1-4) (v3-1)
 rw[e4];simp only[Option.bind_some,Option.toList_some,Option.toList_none,List.cons_append,List.nil_append,List.append_nil]
 rw[e2_0_39 hf2]
 obtain⟨k1,k2,-,-⟩:=own_Kbm (v1-4)
 obtain⟨p,q,P⟩:=I.2.2.1
 rw[own_ivF hf1 hf2 I.1.1.1 k2 P];simp only[Option.bind_some,Option.toList_some,Option.toList_none,List.cons_append,List.nil_append,List.append_nil]
 rw[e2_0_47 hf2,if_neg (by decide)]
 exact own_lp hf1 hf2 hxs ⟨k1,k2⟩ (v1-4) (v3-1) 64 0 (by omega) S 0 0 I (Or.inl rfl)
theorem own_script{s:State}{w0:Value}(hn:narrow_1.value #[w0] s none s []=some true)(hr:rest_1_c.before #[w0] s=true):∃(sa:Nat) (cell:Cell) (xs:List Int32),w0 = .ref sa∧sa<s.heap.size∧xs.length<2147483648∧own_len xs∧Arr s s.heap sa cell .int∧cell.slots.size=xs.length∧∀i,i<xs.length→cell.slots[i]? = some (.int (xs.getD i 0)):=by
 obtain⟨n1,n2⟩:=and_e hn
 obtain⟨r1,r2⟩:=and_e (Cond.before_iff.mp hr)
 obtain⟨b,xs,hb,hx⟩:=State.ints_of_pre (t:= .arg 0) rfl (Cond.before_iff.mpr n1) (Cond.before_iff.mpr r1) (Cond.before_iff.mpr r2)
 have hw:w0 = .ref b:=by simpa [Term.eval] using hb
 subst hw
 have hl:=hx.small
 have he:=hx.length_eval (t:= .arg 0) hb
 rw[Cond.le_ints he rfl] at n2
 obtain⟨cell,h1,h2,h3,h4⟩:=hx
 obtain⟨hc,-,-,-⟩:=State.arrayAt?_spec h1
 obtain⟨-,hu⟩:=Cond.arrayOf_spec (Cond.before_iff.mpr n1) hb hc
 have hsz:cell.slots.size=xs.length:=by rw[←Array.length_toList,h2,List.length_map]
 refine⟨b,cell,xs,rfl,(Array.getElem?_eq_some_iff.mp hc).1,hl,?_,⟨hc,h3,hu⟩,hsz,fun i hi=>?_⟩
 ·have q:xs.length.toInt32≤260:=by simpa using n2
  rw[Int32.le_iff_toInt_le] at q
  have e1:xs.length.toInt32.toInt=xs.length:=Int32.toInt_ofNat_of_lt hl
  have e2:(260:Int32).toInt=260:=rfl
  rw[e1,e2] at q
  show xs.length≤260
  omega
 ·rw[←Array.getElem?_toList,h2]
  simp[hi,List.getD]
theorem own_met(l:Launch)(Z:State)(a0:Array Value)(hw:∀d∈tables_1,d.before a0 Z=true)(ws:List Jvm.Cond)(h:Heap)(sa:Nat)(xs:List Int32)(hxs:xs.length<2147483648)(hlen:own_len xs)(hsa:sa<h.size)(cell:Cell)(A:Arr Z h sa cell .int)(hs:cell.slots.size=xs.length)(he:∀i,i<xs.length→cell.slots[i]? = some (.int (xs.getD i 0))) :
  MetFree l x (head1 (Jvm.Cond.code x code maxLocals ret::ws) room_1) (fun a U=>a = #[.ref sa]∧Z.Warmed39 U.vm∧U.heap=h) (fun _ _ _ _ _=>True)
   (fun _ U o U'=>∃v L,o = .returned v∧(v=some (.int 1)∧Fr h.size L)∧FrameEnd U o U' L room_1.cells room_1.slots):=
 law_of (sc:=some xs) (sa:=sa) (nmax:=nmax1) (as:=[.ref 0]) own_d1 own_g1 own_r1 own_d2 own_g2 own_rv own_rc own_rs own_h1 own_h2 hw rfl (Nat.le_of_ble_eq_true rfl) (Nat.le_of_ble_eq_true rfl) (Nat.le_of_ble_eq_true rfl) (Nat.le_of_ble_eq_true rfl) (Nat.le_of_ble_eq_true rfl) (fun ys q=>by cases q;exact⟨hsa,hxs,cell,A,hs,he⟩)
  (fun f1 f2 hf1 hf2=>own_run hf1 hf2 hxs hlen) ws
theorem comes_1{Post:Tables→Env→Array Value→State→Outcome→State→Prop}(hpost:∀tb e args s v u,(limb_1_1.after args s (.returned v) u=true∧limb_1_2.after args s (.returned v) u=true∧True)→FrameEnd s (.returned v) u (Jvm.fieldLocs frame_1_writes args s++Jvm.arrayLocs frame_1_arrays args s++Jvm.staticLocs frame_1_statics s) 80 5760→Post tb e args s (.returned v) u) :
  ArmFor flags0 classFile x code maxLocals ret World_1 tables_1 room_1 Calls_1 rest_1 Pre_1 Post:=by
 intro l hfl _ _ p e ha hc hk s m args below hf hA hF happ hP
 obtain⟨hcalls,hrest,hpre⟩:=hP
 obtain⟨-,-,-,hnamed,-,-,-,hat⟩:=(Spec.applies_iff hf).mp happ
 obtain⟨hg,hn⟩:=and_e (Cond.before_iff.mp (show (Jvm.Cond.and given_1 narrow_1).before args s=true from hpre))
 obtain⟨g0,q0⟩:=and_e hg
 obtain⟨w0,rfl⟩:∃w0:Value,args = #[w0]:=by
  have hs:args.size=1:=by simpa [Cond.value,given_1] using g0
  obtain⟨L⟩:=args
  match L,hs with
  |[w0],_=>exact⟨w0,rfl⟩
 have hw:=fun d (hd:d∈tables_1)=>atoms_spec (ws:=Jvm.Cond.code x code maxLocals ret::tables_1) hat d (List.mem_cons_of_mem _ hd)
 obtain⟨sa,cell,xs,rfl,hsa,hxs,hlen,A,hz,he⟩:=own_script hn (show rest_1_c.before _ _=true from hrest)
 obtain⟨n,o,h1,h2,h3,_,L,rfl,⟨rfl,N⟩,hq⟩:=own_met l s _ hw tables_1 s.heap sa xs hxs hlen hsa cell A hz he p e ha hc hk s m _ below hf ((Spec.applies_iff_loose hf).mp happ).1 ⟨rfl,State.Warmed39.refl s,rfl⟩ trivial
 refine⟨n,_,h1,h2,h3,hpost _ _ _ _ _ _ ⟨Cond.after_iff.mpr rfl,Cond.after_iff.mpr (eq_i res_at (Term.int_eval (1)) rfl),trivial⟩ ⟨hq.1,hq.2.1,(hq.2.2.sift fun y hy=>Or.inr (N y hy)).mono (Nat.le_of_ble_eq_true rfl) (Nat.le_of_ble_eq_true rfl)⟩⟩
theorem main_1_1:Claimed_1_1:=comes_1 fun _ _ _ _ _ _ h hF=>⟨h.1,hF⟩
theorem main_1_2:Claimed_1_2:=comes_1 fun _ _ _ _ _ _ h hF=>⟨h.2.1,hF⟩
end Jvm.Pilot.@@N@@
namespace Jvm.Pilot.@@N@@
open Jvm Jvm.ClassFile Sem Op Lib Jvm.Free Jvm.Stand Jvm.Pilot.@@N@@.Jvm.D
/-! MADE BY PROGRAM (witnessworld.py) out of the Statement's table words and the real class files: 11 classes; the members and pool entries that the words name. The judged class is class 1, her method 10. -/
namespace start1
open Jvm.ClassFile
def u (s : String) : CpInfo := .utf8 (stringToUtf16 s)
/-- a pool by its gaps: so many unusable entries, then the entry; so many at the end -/
def gap : Nat → List CpInfo → List CpInfo
  | 0, r => r
  | n + 1, r => .unusable :: gap n r
def poolList (es : List (Nat × CpInfo)) (last : Nat) : List CpInfo := es.foldr (fun e r => gap e.1 (e.2 :: r)) (gap last [])
def pool (es : List (Nat × CpInfo)) (last : Nat) : Array CpInfo := ⟨poolList es last⟩
def fileOf (pool : Array CpInfo) (this : Nat) (attrs : Array Attribute := #[]) (ms : Array MethodInfo := #[]) (fl : Nat := 33) (sup : Nat := 0) (ifs : Array Nat := #[]) (fds : Array FieldInfo := #[]) : ClassFile where
  minorVersion := 0
  majorVersion := 65
  constantPool := pool
  accessFlags := fl
  thisClass := this
  superClass := sup
  interfaces := ifs
  fields := fds
  methods := ms
  attributes := attrs
def plain (name : String) (sup : Option ClassId) : Class where
  name := name
  kind := .ordinary
  loader := none
  accessFlags := 33
  super := sup
  interfaces := #[]
  cf := none
  fields := #[]
  methods := #[]
  instanceTypes := #[]
  staticTypes := #[]
  resolved := #[]
  callSites := []
  init := .initialized
  statics := none
  mirror := none

def pool0 : Array CpInfo := pool [(5, u "<init>"), (0, u "()V"), (1, .class_ 10), (1, u "java/lang/Object")] 113

def k0c0 : Code := { maxStack := 0, maxLocals := 1, code := object_method_1_code, exceptionTable := #[], attributes := #[] }
def k0m0 : Method := { name := "<init>", desc := "()V", sig := { parameters := [], returnType := none }, accessFlags := 1, code := some k0c0 }
/-- java/lang/Object -/
def k0 : Class := { plain "java/lang/Object" none with
  accessFlags := 33
  interfaces := #[]
  cf := some (fileOf pool0 8 #[] #[{ accessFlags := 1, nameIndex := 5, descriptorIndex := 6, attributes := #[] }] 33 0 #[] #[])
  fields := #[]
  methods := #[k0m0]
  instanceTypes := #[]
  staticTypes := #[]
  resolved := Array.replicate 124 none
  statics := none }

def pool1 : Array CpInfo := pool [(2, .class_ 4), (1, u "java/lang/Object"), (0, u "<init>"), (0, u "()V"), (0, .methodref 8 9), (0, .class_ 10), (0, .nameAndType 11 12), (0, u "TurboCodecOwnLaw"), (0, u "mod"), (0, u "(II)I"), (0, .methodref 8 14), (0, .nameAndType 15 16), (0, u "coprime"), (0, u "(II)Z"), (0, .methodref 18 19), (0, .class_ 20), (0, .nameAndType 21 22), (0, u "TurboCodec"), (0, u "interleave"), (0, u "(I)I"), (0, .methodref 18 24), (0, .nameAndType 25 22), (0, u "deinterleave"), (0, .methodref 8 27), (0, .nameAndType 28 22), (0, u "clampAmp"), (0, .methodref 18 30), (0, .nameAndType 31 22), (0, u "decode"), (0, .methodref 18 33), (0, .nameAndType 34 22), (0, u "getBit"), (0, .methodref 18 36), (0, .nameAndType 37 22), (0, u "decodedBit"), (0, .methodref 18 39), (0, .nameAndType 40 22), (0, u "posterior"), (0, .methodref 18 42), (0, .nameAndType 43 12), (0, u "extrinsic"), (0, .methodref 8 45), (0, .nameAndType 46 47), (0, u "cell"), (0, u "([II)I"), (0, .methodref 8 49), (0, .nameAndType 50 22), (0, u "blockOf"), (0, .methodref 18 52), (0, .nameAndType 5 53), (0, u "(II)V"), (0, .methodref 8 55), (0, .nameAndType 56 57), (0, u "inv"), (0, u "(LTurboCodec;I)Z"), (0, .methodref 18 59), (0, .nameAndType 60 16), (0, u "setInterleaver"), (0, .methodref 8 62), (0, .nameAndType 63 12), (0, u "goodF1"), (0, .methodref 8 65), (0, .nameAndType 66 22), (0, u "rad"), (0, .long 4294967295), (1, .methodref 18 70), (0, .nameAndType 71 72), (0, u "setMessage"), (0, u "(J)V"), (0, .methodref 18 74), (0, .nameAndType 75 76), (0, u "encode"), (0, u "()I"), (0, .methodref 18 78), (0, .nameAndType 79 80), (0, u "loadNoiseless"), (0, u "(I)V"), (0, .methodref 8 82), (0, .nameAndType 83 84), (0, u "checkDecode"), (0, u "(LTurboCodec;III)Z"), (0, .methodref 18 86), (0, .nameAndType 87 16), (0, u "setChannel"), (3, u "law"), (0, u "([I)Z")] 4

def k1m0 : Method := { name := "<init>", desc := "()V", sig := { parameters := [], returnType := none }, accessFlags := 1, code := none }
def k1c1 : Code := { maxStack := 2, maxLocals := 2, code := method_2_code, exceptionTable := #[], attributes := #[] }
def k1m1 : Method := { name := "cell", desc := "([II)I", sig := { parameters := [(.array .int), .int], returnType := some .int }, accessFlags := 10, code := some k1c1 }
def k1c2 : Code := { maxStack := 2, maxLocals := 3, code := method_3_code, exceptionTable := #[], attributes := #[] }
def k1m2 : Method := { name := "mod", desc := "(II)I", sig := { parameters := [.int, .int], returnType := some .int }, accessFlags := 10, code := some k1c2 }
def k1c3 : Code := { maxStack := 3, maxLocals := 1, code := method_4_code, exceptionTable := #[], attributes := #[] }
def k1m3 : Method := { name := "blockOf", desc := "(I)I", sig := { parameters := [.int], returnType := some .int }, accessFlags := 10, code := some k1c3 }
def k1c4 : Code := { maxStack := 2, maxLocals := 1, code := method_5_code, exceptionTable := #[], attributes := #[] }
def k1m4 : Method := { name := "clampAmp", desc := "(I)I", sig := { parameters := [.int], returnType := some .int }, accessFlags := 10, code := some k1c4 }
def k1c5 : Code := { maxStack := 2, maxLocals := 2, code := method_6_code, exceptionTable := #[], attributes := #[] }
def k1m5 : Method := { name := "rad", desc := "(I)I", sig := { parameters := [.int], returnType := some .int }, accessFlags := 10, code := some k1c5 }
def k1c6 : Code := { maxStack := 2, maxLocals := 2, code := method_7_code, exceptionTable := #[], attributes := #[] }
def k1m6 : Method := { name := "coprime", desc := "(II)Z", sig := { parameters := [.int, .int], returnType := some .boolean }, accessFlags := 10, code := some k1c6 }
def k1c7 : Code := { maxStack := 2, maxLocals := 4, code := method_8_code, exceptionTable := #[], attributes := #[] }
def k1m7 : Method := { name := "goodF1", desc := "(II)I", sig := { parameters := [.int, .int], returnType := some .int }, accessFlags := 10, code := some k1c7 }
def k1c8 : Code := { maxStack := 2, maxLocals := 5, code := method_9_code, exceptionTable := #[], attributes := #[] }
def k1m8 : Method := { name := "inv", desc := "(LTurboCodec;I)Z", sig := { parameters := [(.object "TurboCodec"), .int], returnType := some .boolean }, accessFlags := 10, code := some k1c8 }
def k1c9 : Code := { maxStack := 3, maxLocals := 10, code := method_10_code, exceptionTable := #[], attributes := #[] }
def k1m9 : Method := { name := "checkDecode", desc := "(LTurboCodec;III)Z", sig := { parameters := [(.object "TurboCodec"), .int, .int, .int], returnType := some .boolean }, accessFlags := 10, code := some k1c9 }
def k1c10 : Code := { maxStack := 7, maxLocals := 13, code := code, exceptionTable := #[], attributes := #[] }
def k1m10 : Method := { name := "law", desc := "([I)Z", sig := { parameters := [(.array .int)], returnType := some .boolean }, accessFlags := 9, code := some k1c10 }
/-- TurboCodecOwnLaw -/
def k1 : Class := { plain "TurboCodecOwnLaw" (some 0) with
  accessFlags := 49
  interfaces := #[]
  cf := some (fileOf pool1 8 #[] #[{ accessFlags := 1, nameIndex := 5, descriptorIndex := 6, attributes := #[] }, { accessFlags := 10, nameIndex := 46, descriptorIndex := 47, attributes := #[] }, { accessFlags := 10, nameIndex := 11, descriptorIndex := 12, attributes := #[] }, { accessFlags := 10, nameIndex := 50, descriptorIndex := 22, attributes := #[] }, { accessFlags := 10, nameIndex := 28, descriptorIndex := 22, attributes := #[] }, { accessFlags := 10, nameIndex := 66, descriptorIndex := 22, attributes := #[] }, { accessFlags := 10, nameIndex := 15, descriptorIndex := 16, attributes := #[] }, { accessFlags := 10, nameIndex := 63, descriptorIndex := 12, attributes := #[] }, { accessFlags := 10, nameIndex := 56, descriptorIndex := 57, attributes := #[] }, { accessFlags := 10, nameIndex := 83, descriptorIndex := 84, attributes := #[] }, { accessFlags := 9, nameIndex := 91, descriptorIndex := 92, attributes := #[] }] 49 2 #[] #[])
  fields := #[]
  methods := #[k1m0, k1m1, k1m2, k1m3, k1m4, k1m5, k1m6, k1m7, k1m8, k1m9, k1m10]
  instanceTypes := #[]
  staticTypes := #[]
  resolved := Array.replicate 97 none
  statics := none }

def pool2 : Array CpInfo := pool [(1, .methodref 2 3), (0, .class_ 4), (0, .nameAndType 5 6), (0, u "java/lang/Object"), (0, u "<init>"), (0, u "()V"), (0, .integer 4026531840), (0, .fieldref 9 10), (0, .class_ 11), (0, .nameAndType 12 13), (0, u "TurboCodec"), (0, u "negInf"), (0, u "I"), (0, .integer 3221225472), (0, .fieldref 9 16), (0, .nameAndType 17 13), (0, u "lowest"), (0, .fieldref 9 19), (0, .nameAndType 20 21), (0, u "pi"), (0, u "[I"), (0, .fieldref 9 23), (0, .nameAndType 24 21), (0, u "pinv"), (0, .fieldref 9 26), (0, .nameAndType 27 21), (0, u "candidate"), (0, .fieldref 9 29), (0, .nameAndType 30 31), (0, u "seen"), (0, u "[Z"), (0, .fieldref 9 33), (0, .nameAndType 34 21), (0, u "msg"), (0, .fieldref 9 36), (0, .nameAndType 37 21), (0, u "code"), (0, .fieldref 9 39), (0, .nameAndType 40 21), (0, u "chan"), (0, .fieldref 9 42), (0, .nameAndType 43 21), (0, u "z1"), (0, .fieldref 9 45), (0, .nameAndType 46 21), (0, u "z2"), (0, .fieldref 9 48), (0, .nameAndType 49 21), (0, u "xt1"), (0, .fieldref 9 51), (0, .nameAndType 52 21), (0, u "zt1"), (0, .fieldref 9 54), (0, .nameAndType 55 21), (0, u "xt2"), (0, .fieldref 9 57), (0, .nameAndType 58 21), (0, u "zt2"), (0, .fieldref 9 60), (0, .nameAndType 61 21), (0, u "encIn"), (0, .fieldref 9 63), (0, .nameAndType 64 21), (0, u "encPar"), (0, .fieldref 9 66), (0, .nameAndType 67 21), (0, u "encTx"), (0, .fieldref 9 69), (0, .nameAndType 70 21), (0, u "encTp"), (0, .fieldref 9 72), (0, .nameAndType 73 21), (0, u "nextState"), (0, .fieldref 9 75), (0, .nameAndType 76 21), (0, u "parityOut"), (0, .fieldref 9 78), (0, .nameAndType 79 21), (0, u "tailIn"), (0, .fieldref 9 81), (0, .nameAndType 82 21), (0, u "ys"), (0, .fieldref 9 84), (0, .nameAndType 85 21), (0, u "q1"), (0, .fieldref 9 87), (0, .nameAndType 88 21), (0, u "q2"), (0, .fieldref 9 90), (0, .nameAndType 91 21), (0, u "e1"), (0, .fieldref 9 93), (0, .nameAndType 94 21), (0, u "e2"), (0, .fieldref 9 96), (0, .nameAndType 97 21), (0, u "post"), (0, .fieldref 9 99), (0, .nameAndType 100 21), (0, u "dec"), (0, .fieldref 9 102), (0, .nameAndType 103 21), (0, u "sIn"), (0, .fieldref 9 105), (0, .nameAndType 106 21), (0, u "aIn"), (0, .fieldref 9 108), (0, .nameAndType 109 21), (0, u "qIn"), (0, .fieldref 9 111), (0, .nameAndType 112 21), (0, u "tsIn"), (0, .fieldref 9 114), (0, .nameAndType 115 21), (0, u "tqIn"), (0, .fieldref 9 117), (0, .nameAndType 118 21), (0, u "eOut"), (0, .fieldref 9 120), (0, .nameAndType 121 21), (0, u "alpha"), (0, .fieldref 9 123), (0, .nameAndType 124 21), (0, u "beta"), (0, .methodref 9 126), (0, .nameAndType 127 128), (0, u "normaliseBlock"), (0, u "(I)I"), (0, .fieldref 9 130), (0, .nameAndType 131 13), (0, u "blockLen"), (0, .methodref 9 133), (0, .nameAndType 134 135), (0, u "clampInt"), (0, u "(III)I"), (0, .fieldref 9 137), (0, .nameAndType 138 13), (0, u "rate"), (0, .fieldref 9 140), (0, .nameAndType 141 13), (0, u "codeLen"), (0, .methodref 9 143), (0, .nameAndType 144 6), (0, u "buildTrellis"), (0, .methodref 9 146), (0, .nameAndType 147 128), (0, u "defaultF1"), (0, .methodref 9 149), (0, .nameAndType 150 128), (0, u "defaultF2"), (0, .methodref 9 152), (0, .nameAndType 153 154), (0, u "buildCandidate"), (0, u "(II)Z"), (0, .methodref 9 156), (0, .nameAndType 157 6), (0, u "commitCandidate"), (3, .fieldref 9 162), (0, .nameAndType 163 13), (0, u "end1"), (0, .fieldref 9 165), (0, .nameAndType 166 13), (0, u "end2"), (0, .methodref 9 168), (0, .nameAndType 169 154), (0, u "factorsInRange"), (0, .methodref 9 171), (0, .nameAndType 172 173), (0, u "inBlock"), (0, u "(I)Z"), (0, .methodref 9 175), (0, .nameAndType 176 135), (0, u "qppValue"), (0, .methodref 9 178), (0, .nameAndType 179 180), (0, u "loadEncoderInput"), (0, u "(I)V"), (0, .methodref 9 182), (0, .nameAndType 183 6), (0, u "runConstituent"), (0, .fieldref 9 185), (0, .nameAndType 186 13), (0, u "encEnd"), (0, .methodref 9 188), (0, .nameAndType 189 180), (0, u "storeEncoderOutput"), (0, .methodref 9 191), (0, .nameAndType 192 6), (0, u "assembleCodeword"), (0, .methodref 9 194), (0, .nameAndType 195 173), (0, u "inCode"), (0, .methodref 9 197), (0, .nameAndType 198 128), (0, u "sysIndex"), (0, .methodref 9 200), (0, .nameAndType 201 128), (0, u "par1Index"), (0, .methodref 9 203), (0, .nameAndType 204 128), (0, u "par2Index"), (0, .methodref 9 206), (0, .nameAndType 207 135), (0, u "tailIndex"), (0, .methodref 9 209), (0, .nameAndType 210 211), (0, u "tailBase"), (0, u "()I"), (0, .methodref 9 213), (0, .nameAndType 214 6), (0, u "gatherChannel"), (0, .methodref 9 216), (0, .nameAndType 217 6), (0, u "clearExtrinsic"), (0, .methodref 9 219), (0, .nameAndType 220 6), (0, u "runDecoder1"), (0, .methodref 9 222), (0, .nameAndType 223 6), (0, u "runDecoder2"), (0, .methodref 9 225), (0, .nameAndType 226 211), (0, u "finishDecisions"), (0, .methodref 9 228), (0, .nameAndType 229 180), (0, u "loadTailValues"), (0, .methodref 9 231), (0, .nameAndType 232 6), (0, u "runCsd"), (0, .methodref 9 234), (0, .nameAndType 235 6), (0, u "backwardPass"), (0, .methodref 9 237), (0, .nameAndType 238 180), (0, u "softStep"), (0, .methodref 9 240), (0, .nameAndType 241 180), (0, u "forwardStep"), (0, .methodref 9 243), (0, .nameAndType 244 128), (0, u "tailMetric"), (0, .methodref 9 246), (0, .nameAndType 247 180), (0, u "backwardStep"), (0, .methodref 9 249), (0, .nameAndType 250 251), (0, u "branchMetric"), (0, u "(II)I"), (0, u "RATE_THIRD"), (2, u "RATE_HALF"), (1, u "MIN_BLOCK"), (1, u "MAX_BLOCK"), (1, u "TAIL_BITS"), (1, u "CH_MAX"), (1, u "EXT_MAX"), (1, u "MAX_ITER"), (0, u "NO_VALUE"), (1, u "(II)V"), (3, u "setInterleaver"), (0, u "interleave"), (0, u "deinterleave"), (0, u "setMessage"), (0, u "(J)V"), (0, u "getBit"), (0, u "encode"), (3, u "loadNoiseless"), (0, u "setChannel"), (1, u "decode"), (0, u "decodedBit"), (0, u "posterior"), (0, u "extrinsic")] 2

def k2c0 : Code := { maxStack := 5, maxLocals := 5, code := prog_1_method_1_code, exceptionTable := #[], attributes := #[] }
def k2m0 : Method := { name := "<init>", desc := "(II)V", sig := { parameters := [.int, .int], returnType := none }, accessFlags := 1, code := some k2c0 }
def k2c1 : Code := { maxStack := 4, maxLocals := 3, code := prog_1_method_2_code, exceptionTable := #[], attributes := #[] }
def k2m1 : Method := { name := "normaliseBlock", desc := "(I)I", sig := { parameters := [.int], returnType := some .int }, accessFlags := 2, code := some k2c1 }
def k2c2 : Code := { maxStack := 2, maxLocals := 2, code := prog_1_method_3_code, exceptionTable := #[], attributes := #[] }
def k2m2 : Method := { name := "defaultF1", desc := "(I)I", sig := { parameters := [.int], returnType := some .int }, accessFlags := 2, code := some k2c2 }
def k2c3 : Code := { maxStack := 2, maxLocals := 2, code := prog_1_method_4_code, exceptionTable := #[], attributes := #[] }
def k2m3 : Method := { name := "defaultF2", desc := "(I)I", sig := { parameters := [.int], returnType := some .int }, accessFlags := 2, code := some k2c3 }
def k2c4 : Code := { maxStack := 5, maxLocals := 9, code := prog_1_method_5_code, exceptionTable := #[], attributes := #[] }
def k2m4 : Method := { name := "buildTrellis", desc := "()V", sig := { parameters := [], returnType := none }, accessFlags := 2, code := some k2c4 }
def k2c5 : Code := { maxStack := 3, maxLocals := 3, code := prog_1_method_6_code, exceptionTable := #[], attributes := #[] }
def k2m5 : Method := { name := "setInterleaver", desc := "(II)Z", sig := { parameters := [.int, .int], returnType := some .boolean }, accessFlags := 1, code := some k2c5 }
def k2c6 : Code := { maxStack := 2, maxLocals := 2, code := prog_1_method_7_code, exceptionTable := #[], attributes := #[] }
def k2m6 : Method := { name := "interleave", desc := "(I)I", sig := { parameters := [.int], returnType := some .int }, accessFlags := 1, code := some k2c6 }
def k2c7 : Code := { maxStack := 2, maxLocals := 2, code := prog_1_method_8_code, exceptionTable := #[], attributes := #[] }
def k2m7 : Method := { name := "deinterleave", desc := "(I)I", sig := { parameters := [.int], returnType := some .int }, accessFlags := 1, code := some k2c7 }
def k2c8 : Code := { maxStack := 2, maxLocals := 3, code := prog_1_method_9_code, exceptionTable := #[], attributes := #[] }
def k2m8 : Method := { name := "factorsInRange", desc := "(II)Z", sig := { parameters := [.int, .int], returnType := some .boolean }, accessFlags := 2, code := some k2c8 }
def k2c9 : Code := { maxStack := 6, maxLocals := 10, code := prog_1_method_10_code, exceptionTable := #[], attributes := #[] }
def k2m9 : Method := { name := "qppValue", desc := "(III)I", sig := { parameters := [.int, .int, .int], returnType := some .int }, accessFlags := 2, code := some k2c9 }
def k2c10 : Code := { maxStack := 4, maxLocals := 5, code := prog_1_method_11_code, exceptionTable := #[], attributes := #[] }
def k2m10 : Method := { name := "buildCandidate", desc := "(II)Z", sig := { parameters := [.int, .int], returnType := some .boolean }, accessFlags := 2, code := some k2c10 }
def k2c11 : Code := { maxStack := 4, maxLocals := 3, code := prog_1_method_12_code, exceptionTable := #[], attributes := #[] }
def k2m11 : Method := { name := "commitCandidate", desc := "()V", sig := { parameters := [], returnType := none }, accessFlags := 2, code := some k2c11 }
def k2c12 : Code := { maxStack := 6, maxLocals := 4, code := prog_1_method_14_code, exceptionTable := #[], attributes := #[] }
def k2m12 : Method := { name := "setMessage", desc := "(J)V", sig := { parameters := [.long], returnType := none }, accessFlags := 1, code := some k2c12 }
def k2c13 : Code := { maxStack := 2, maxLocals := 2, code := prog_1_method_15_code, exceptionTable := #[], attributes := #[] }
def k2m13 : Method := { name := "getBit", desc := "(I)I", sig := { parameters := [.int], returnType := some .int }, accessFlags := 1, code := some k2c13 }
def k2c14 : Code := { maxStack := 2, maxLocals := 1, code := prog_1_method_16_code, exceptionTable := #[], attributes := #[] }
def k2m14 : Method := { name := "encode", desc := "()I", sig := { parameters := [], returnType := some .int }, accessFlags := 1, code := some k2c14 }
def k2c15 : Code := { maxStack := 4, maxLocals := 4, code := prog_1_method_19_code, exceptionTable := #[], attributes := #[] }
def k2m15 : Method := { name := "loadEncoderInput", desc := "(I)V", sig := { parameters := [.int], returnType := none }, accessFlags := 2, code := some k2c15 }
def k2c16 : Code := { maxStack := 4, maxLocals := 5, code := prog_1_method_20_code, exceptionTable := #[], attributes := #[] }
def k2m16 : Method := { name := "runConstituent", desc := "()V", sig := { parameters := [], returnType := none }, accessFlags := 2, code := some k2c16 }
def k2c17 : Code := { maxStack := 4, maxLocals := 3, code := prog_1_method_21_code, exceptionTable := #[], attributes := #[] }
def k2m17 : Method := { name := "storeEncoderOutput", desc := "(I)V", sig := { parameters := [.int], returnType := none }, accessFlags := 2, code := some k2c17 }
def k2c18 : Code := { maxStack := 5, maxLocals := 4, code := prog_1_method_22_code, exceptionTable := #[], attributes := #[] }
def k2m18 : Method := { name := "assembleCodeword", desc := "()V", sig := { parameters := [], returnType := none }, accessFlags := 2, code := some k2c18 }
def k2c19 : Code := { maxStack := 2, maxLocals := 2, code := prog_1_method_23_code, exceptionTable := #[], attributes := #[] }
def k2m19 : Method := { name := "sysIndex", desc := "(I)I", sig := { parameters := [.int], returnType := some .int }, accessFlags := 2, code := some k2c19 }
def k2c20 : Code := { maxStack := 2, maxLocals := 2, code := prog_1_method_24_code, exceptionTable := #[], attributes := #[] }
def k2m20 : Method := { name := "par1Index", desc := "(I)I", sig := { parameters := [.int], returnType := some .int }, accessFlags := 2, code := some k2c20 }
def k2c21 : Code := { maxStack := 2, maxLocals := 2, code := prog_1_method_25_code, exceptionTable := #[], attributes := #[] }
def k2m21 : Method := { name := "par2Index", desc := "(I)I", sig := { parameters := [.int], returnType := some .int }, accessFlags := 2, code := some k2c21 }
def k2c22 : Code := { maxStack := 2, maxLocals := 1, code := prog_1_method_26_code, exceptionTable := #[], attributes := #[] }
def k2m22 : Method := { name := "tailBase", desc := "()I", sig := { parameters := [], returnType := some .int }, accessFlags := 2, code := some k2c22 }
def k2c23 : Code := { maxStack := 3, maxLocals := 5, code := prog_1_method_27_code, exceptionTable := #[], attributes := #[] }
def k2m23 : Method := { name := "tailIndex", desc := "(III)I", sig := { parameters := [.int, .int, .int], returnType := some .int }, accessFlags := 2, code := some k2c23 }
def k2c24 : Code := { maxStack := 4, maxLocals := 4, code := prog_1_method_28_code, exceptionTable := #[], attributes := #[] }
def k2m24 : Method := { name := "loadNoiseless", desc := "(I)V", sig := { parameters := [.int], returnType := none }, accessFlags := 1, code := some k2c24 }
def k2c25 : Code := { maxStack := 6, maxLocals := 3, code := prog_1_method_29_code, exceptionTable := #[], attributes := #[] }
def k2m25 : Method := { name := "setChannel", desc := "(II)Z", sig := { parameters := [.int, .int], returnType := some .boolean }, accessFlags := 1, code := some k2c25 }
def k2c26 : Code := { maxStack := 4, maxLocals := 4, code := prog_1_method_31_code, exceptionTable := #[], attributes := #[] }
def k2m26 : Method := { name := "decode", desc := "(I)I", sig := { parameters := [.int], returnType := some .int }, accessFlags := 1, code := some k2c26 }
def k2c27 : Code := { maxStack := 2, maxLocals := 2, code := prog_1_method_32_code, exceptionTable := #[], attributes := #[] }
def k2m27 : Method := { name := "decodedBit", desc := "(I)I", sig := { parameters := [.int], returnType := some .int }, accessFlags := 1, code := some k2c27 }
def k2c28 : Code := { maxStack := 2, maxLocals := 2, code := prog_1_method_33_code, exceptionTable := #[], attributes := #[] }
def k2m28 : Method := { name := "posterior", desc := "(I)I", sig := { parameters := [.int], returnType := some .int }, accessFlags := 1, code := some k2c28 }
def k2c29 : Code := { maxStack := 2, maxLocals := 3, code := prog_1_method_34_code, exceptionTable := #[], attributes := #[] }
def k2m29 : Method := { name := "extrinsic", desc := "(II)I", sig := { parameters := [.int, .int], returnType := some .int }, accessFlags := 1, code := some k2c29 }
def k2c30 : Code := { maxStack := 5, maxLocals := 4, code := prog_1_method_35_code, exceptionTable := #[], attributes := #[] }
def k2m30 : Method := { name := "gatherChannel", desc := "()V", sig := { parameters := [], returnType := none }, accessFlags := 2, code := some k2c30 }
def k2c31 : Code := { maxStack := 3, maxLocals := 2, code := prog_1_method_36_code, exceptionTable := #[], attributes := #[] }
def k2m31 : Method := { name := "clearExtrinsic", desc := "()V", sig := { parameters := [], returnType := none }, accessFlags := 2, code := some k2c31 }
def k2c32 : Code := { maxStack := 7, maxLocals := 3, code := prog_1_method_37_code, exceptionTable := #[], attributes := #[] }
def k2m32 : Method := { name := "loadTailValues", desc := "(I)V", sig := { parameters := [.int], returnType := none }, accessFlags := 2, code := some k2c32 }
def k2c33 : Code := { maxStack := 4, maxLocals := 2, code := prog_1_method_38_code, exceptionTable := #[], attributes := #[] }
def k2m33 : Method := { name := "runDecoder1", desc := "()V", sig := { parameters := [], returnType := none }, accessFlags := 2, code := some k2c33 }
def k2c34 : Code := { maxStack := 4, maxLocals := 3, code := prog_1_method_39_code, exceptionTable := #[], attributes := #[] }
def k2m34 : Method := { name := "runDecoder2", desc := "()V", sig := { parameters := [], returnType := none }, accessFlags := 2, code := some k2c34 }
def k2c35 : Code := { maxStack := 3, maxLocals := 4, code := prog_1_method_40_code, exceptionTable := #[], attributes := #[] }
def k2m35 : Method := { name := "finishDecisions", desc := "()I", sig := { parameters := [], returnType := some .int }, accessFlags := 2, code := some k2c35 }
def k2c36 : Code := { maxStack := 3, maxLocals := 2, code := prog_1_method_41_code, exceptionTable := #[], attributes := #[] }
def k2m36 : Method := { name := "runCsd", desc := "()V", sig := { parameters := [], returnType := none }, accessFlags := 2, code := some k2c36 }
def k2c37 : Code := { maxStack := 4, maxLocals := 4, code := prog_1_method_42_code, exceptionTable := #[], attributes := #[] }
def k2m37 : Method := { name := "branchMetric", desc := "(II)I", sig := { parameters := [.int, .int], returnType := some .int }, accessFlags := 2, code := some k2c37 }
def k2c38 : Code := { maxStack := 4, maxLocals := 7, code := prog_1_method_43_code, exceptionTable := #[], attributes := #[] }
def k2m38 : Method := { name := "tailMetric", desc := "(I)I", sig := { parameters := [.int], returnType := some .int }, accessFlags := 2, code := some k2c38 }
def k2c39 : Code := { maxStack := 4, maxLocals := 3, code := prog_1_method_44_code, exceptionTable := #[], attributes := #[] }
def k2m39 : Method := { name := "backwardPass", desc := "()V", sig := { parameters := [], returnType := none }, accessFlags := 2, code := some k2c39 }
def k2c40 : Code := { maxStack := 5, maxLocals := 9, code := prog_1_method_45_code, exceptionTable := #[], attributes := #[] }
def k2m40 : Method := { name := "backwardStep", desc := "(I)V", sig := { parameters := [.int], returnType := none }, accessFlags := 2, code := some k2c40 }
def k2c41 : Code := { maxStack := 4, maxLocals := 7, code := prog_1_method_46_code, exceptionTable := #[], attributes := #[] }
def k2m41 : Method := { name := "forwardStep", desc := "(I)V", sig := { parameters := [.int], returnType := none }, accessFlags := 2, code := some k2c41 }
def k2c42 : Code := { maxStack := 6, maxLocals := 8, code := prog_1_method_47_code, exceptionTable := #[], attributes := #[] }
def k2m42 : Method := { name := "softStep", desc := "(I)V", sig := { parameters := [.int], returnType := none }, accessFlags := 2, code := some k2c42 }
def k2c43 : Code := { maxStack := 2, maxLocals := 2, code := prog_1_method_48_code, exceptionTable := #[], attributes := #[] }
def k2m43 : Method := { name := "inBlock", desc := "(I)Z", sig := { parameters := [.int], returnType := some .boolean }, accessFlags := 2, code := some k2c43 }
def k2c44 : Code := { maxStack := 2, maxLocals := 2, code := prog_1_method_49_code, exceptionTable := #[], attributes := #[] }
def k2m44 : Method := { name := "inCode", desc := "(I)Z", sig := { parameters := [.int], returnType := some .boolean }, accessFlags := 2, code := some k2c44 }
def k2c45 : Code := { maxStack := 2, maxLocals := 4, code := prog_1_method_50_code, exceptionTable := #[], attributes := #[] }
def k2m45 : Method := { name := "clampInt", desc := "(III)I", sig := { parameters := [.int, .int, .int], returnType := some .int }, accessFlags := 2, code := some k2c45 }
/-- TurboCodec -/
def k2 : Class := { plain "TurboCodec" (some 0) with
  accessFlags := 49
  interfaces := #[]
  cf := some (fileOf pool2 9 #[] #[{ accessFlags := 1, nameIndex := 5, descriptorIndex := 270, attributes := #[] }, { accessFlags := 2, nameIndex := 127, descriptorIndex := 128, attributes := #[] }, { accessFlags := 2, nameIndex := 147, descriptorIndex := 128, attributes := #[] }, { accessFlags := 2, nameIndex := 150, descriptorIndex := 128, attributes := #[] }, { accessFlags := 2, nameIndex := 144, descriptorIndex := 6, attributes := #[] }, { accessFlags := 1, nameIndex := 274, descriptorIndex := 154, attributes := #[] }, { accessFlags := 1, nameIndex := 275, descriptorIndex := 128, attributes := #[] }, { accessFlags := 1, nameIndex := 276, descriptorIndex := 128, attributes := #[] }, { accessFlags := 2, nameIndex := 169, descriptorIndex := 154, attributes := #[] }, { accessFlags := 2, nameIndex := 176, descriptorIndex := 135, attributes := #[] }, { accessFlags := 2, nameIndex := 153, descriptorIndex := 154, attributes := #[] }, { accessFlags := 2, nameIndex := 157, descriptorIndex := 6, attributes := #[] }, { accessFlags := 1, nameIndex := 277, descriptorIndex := 278, attributes := #[] }, { accessFlags := 1, nameIndex := 279, descriptorIndex := 128, attributes := #[] }, { accessFlags := 1, nameIndex := 280, descriptorIndex := 211, attributes := #[] }, { accessFlags := 2, nameIndex := 179, descriptorIndex := 180, attributes := #[] }, { accessFlags := 2, nameIndex := 183, descriptorIndex := 6, attributes := #[] }, { accessFlags := 2, nameIndex := 189, descriptorIndex := 180, attributes := #[] }, { accessFlags := 2, nameIndex := 192, descriptorIndex := 6, attributes := #[] }, { accessFlags := 2, nameIndex := 198, descriptorIndex := 128, attributes := #[] }, { accessFlags := 2, nameIndex := 201, descriptorIndex := 128, attributes := #[] }, { accessFlags := 2, nameIndex := 204, descriptorIndex := 128, attributes := #[] }, { accessFlags := 2, nameIndex := 210, descriptorIndex := 211, attributes := #[] }, { accessFlags := 2, nameIndex := 207, descriptorIndex := 135, attributes := #[] }, { accessFlags := 1, nameIndex := 284, descriptorIndex := 180, attributes := #[] }, { accessFlags := 1, nameIndex := 285, descriptorIndex := 154, attributes := #[] }, { accessFlags := 1, nameIndex := 287, descriptorIndex := 128, attributes := #[] }, { accessFlags := 1, nameIndex := 288, descriptorIndex := 128, attributes := #[] }, { accessFlags := 1, nameIndex := 289, descriptorIndex := 128, attributes := #[] }, { accessFlags := 1, nameIndex := 290, descriptorIndex := 251, attributes := #[] }, { accessFlags := 2, nameIndex := 214, descriptorIndex := 6, attributes := #[] }, { accessFlags := 2, nameIndex := 217, descriptorIndex := 6, attributes := #[] }, { accessFlags := 2, nameIndex := 229, descriptorIndex := 180, attributes := #[] }, { accessFlags := 2, nameIndex := 220, descriptorIndex := 6, attributes := #[] }, { accessFlags := 2, nameIndex := 223, descriptorIndex := 6, attributes := #[] }, { accessFlags := 2, nameIndex := 226, descriptorIndex := 211, attributes := #[] }, { accessFlags := 2, nameIndex := 232, descriptorIndex := 6, attributes := #[] }, { accessFlags := 2, nameIndex := 250, descriptorIndex := 251, attributes := #[] }, { accessFlags := 2, nameIndex := 244, descriptorIndex := 128, attributes := #[] }, { accessFlags := 2, nameIndex := 235, descriptorIndex := 6, attributes := #[] }, { accessFlags := 2, nameIndex := 247, descriptorIndex := 180, attributes := #[] }, { accessFlags := 2, nameIndex := 241, descriptorIndex := 180, attributes := #[] }, { accessFlags := 2, nameIndex := 238, descriptorIndex := 180, attributes := #[] }, { accessFlags := 2, nameIndex := 172, descriptorIndex := 173, attributes := #[] }, { accessFlags := 2, nameIndex := 195, descriptorIndex := 173, attributes := #[] }, { accessFlags := 2, nameIndex := 134, descriptorIndex := 135, attributes := #[] }] 49 2 #[] #[{ accessFlags := 25, nameIndex := 252, descriptorIndex := 13, attributes := #[] }, { accessFlags := 25, nameIndex := 255, descriptorIndex := 13, attributes := #[] }, { accessFlags := 25, nameIndex := 257, descriptorIndex := 13, attributes := #[] }, { accessFlags := 25, nameIndex := 259, descriptorIndex := 13, attributes := #[] }, { accessFlags := 25, nameIndex := 261, descriptorIndex := 13, attributes := #[] }, { accessFlags := 25, nameIndex := 263, descriptorIndex := 13, attributes := #[] }, { accessFlags := 25, nameIndex := 265, descriptorIndex := 13, attributes := #[] }, { accessFlags := 25, nameIndex := 267, descriptorIndex := 13, attributes := #[] }, { accessFlags := 25, nameIndex := 268, descriptorIndex := 13, attributes := #[] }, { accessFlags := 2, nameIndex := 131, descriptorIndex := 13, attributes := #[] }, { accessFlags := 2, nameIndex := 138, descriptorIndex := 13, attributes := #[] }, { accessFlags := 2, nameIndex := 141, descriptorIndex := 13, attributes := #[] }, { accessFlags := 2, nameIndex := 12, descriptorIndex := 13, attributes := #[] }, { accessFlags := 2, nameIndex := 17, descriptorIndex := 13, attributes := #[] }, { accessFlags := 18, nameIndex := 20, descriptorIndex := 21, attributes := #[] }, { accessFlags := 18, nameIndex := 24, descriptorIndex := 21, attributes := #[] }, { accessFlags := 18, nameIndex := 27, descriptorIndex := 21, attributes := #[] }, { accessFlags := 18, nameIndex := 30, descriptorIndex := 31, attributes := #[] }, { accessFlags := 18, nameIndex := 34, descriptorIndex := 21, attributes := #[] }, { accessFlags := 18, nameIndex := 37, descriptorIndex := 21, attributes := #[] }, { accessFlags := 18, nameIndex := 40, descriptorIndex := 21, attributes := #[] }, { accessFlags := 18, nameIndex := 43, descriptorIndex := 21, attributes := #[] }, { accessFlags := 18, nameIndex := 46, descriptorIndex := 21, attributes := #[] }, { accessFlags := 18, nameIndex := 49, descriptorIndex := 21, attributes := #[] }, { accessFlags := 18, nameIndex := 52, descriptorIndex := 21, attributes := #[] }, { accessFlags := 18, nameIndex := 55, descriptorIndex := 21, attributes := #[] }, { accessFlags := 18, nameIndex := 58, descriptorIndex := 21, attributes := #[] }, { accessFlags := 2, nameIndex := 163, descriptorIndex := 13, attributes := #[] }, { accessFlags := 2, nameIndex := 166, descriptorIndex := 13, attributes := #[] }, { accessFlags := 18, nameIndex := 61, descriptorIndex := 21, attributes := #[] }, { accessFlags := 18, nameIndex := 64, descriptorIndex := 21, attributes := #[] }, { accessFlags := 18, nameIndex := 67, descriptorIndex := 21, attributes := #[] }, { accessFlags := 18, nameIndex := 70, descriptorIndex := 21, attributes := #[] }, { accessFlags := 2, nameIndex := 186, descriptorIndex := 13, attributes := #[] }, { accessFlags := 18, nameIndex := 73, descriptorIndex := 21, attributes := #[] }, { accessFlags := 18, nameIndex := 76, descriptorIndex := 21, attributes := #[] }, { accessFlags := 18, nameIndex := 79, descriptorIndex := 21, attributes := #[] }, { accessFlags := 18, nameIndex := 82, descriptorIndex := 21, attributes := #[] }, { accessFlags := 18, nameIndex := 85, descriptorIndex := 21, attributes := #[] }, { accessFlags := 18, nameIndex := 88, descriptorIndex := 21, attributes := #[] }, { accessFlags := 18, nameIndex := 91, descriptorIndex := 21, attributes := #[] }, { accessFlags := 18, nameIndex := 94, descriptorIndex := 21, attributes := #[] }, { accessFlags := 18, nameIndex := 97, descriptorIndex := 21, attributes := #[] }, { accessFlags := 18, nameIndex := 100, descriptorIndex := 21, attributes := #[] }, { accessFlags := 18, nameIndex := 103, descriptorIndex := 21, attributes := #[] }, { accessFlags := 18, nameIndex := 106, descriptorIndex := 21, attributes := #[] }, { accessFlags := 18, nameIndex := 109, descriptorIndex := 21, attributes := #[] }, { accessFlags := 18, nameIndex := 112, descriptorIndex := 21, attributes := #[] }, { accessFlags := 18, nameIndex := 115, descriptorIndex := 21, attributes := #[] }, { accessFlags := 18, nameIndex := 118, descriptorIndex := 21, attributes := #[] }, { accessFlags := 18, nameIndex := 121, descriptorIndex := 21, attributes := #[] }, { accessFlags := 18, nameIndex := 124, descriptorIndex := 21, attributes := #[] }])
  fields := #[{ name := "RATE_THIRD", type := .int, accessFlags := 25, slot := 0, constantValue := 0 }, { name := "RATE_HALF", type := .int, accessFlags := 25, slot := 1, constantValue := 0 }, { name := "MIN_BLOCK", type := .int, accessFlags := 25, slot := 2, constantValue := 0 }, { name := "MAX_BLOCK", type := .int, accessFlags := 25, slot := 3, constantValue := 0 }, { name := "TAIL_BITS", type := .int, accessFlags := 25, slot := 4, constantValue := 0 }, { name := "CH_MAX", type := .int, accessFlags := 25, slot := 5, constantValue := 0 }, { name := "EXT_MAX", type := .int, accessFlags := 25, slot := 6, constantValue := 0 }, { name := "MAX_ITER", type := .int, accessFlags := 25, slot := 7, constantValue := 0 }, { name := "NO_VALUE", type := .int, accessFlags := 25, slot := 8, constantValue := 0 }, { name := "blockLen", type := .int, accessFlags := 2, slot := 0, constantValue := 0 }, { name := "rate", type := .int, accessFlags := 2, slot := 1, constantValue := 0 }, { name := "codeLen", type := .int, accessFlags := 2, slot := 2, constantValue := 0 }, { name := "negInf", type := .int, accessFlags := 2, slot := 3, constantValue := 0 }, { name := "lowest", type := .int, accessFlags := 2, slot := 4, constantValue := 0 }, { name := "pi", type := (.array .int), accessFlags := 18, slot := 5, constantValue := 0 }, { name := "pinv", type := (.array .int), accessFlags := 18, slot := 6, constantValue := 0 }, { name := "candidate", type := (.array .int), accessFlags := 18, slot := 7, constantValue := 0 }, { name := "seen", type := (.array .boolean), accessFlags := 18, slot := 8, constantValue := 0 }, { name := "msg", type := (.array .int), accessFlags := 18, slot := 9, constantValue := 0 }, { name := "code", type := (.array .int), accessFlags := 18, slot := 10, constantValue := 0 }, { name := "chan", type := (.array .int), accessFlags := 18, slot := 11, constantValue := 0 }, { name := "z1", type := (.array .int), accessFlags := 18, slot := 12, constantValue := 0 }, { name := "z2", type := (.array .int), accessFlags := 18, slot := 13, constantValue := 0 }, { name := "xt1", type := (.array .int), accessFlags := 18, slot := 14, constantValue := 0 }, { name := "zt1", type := (.array .int), accessFlags := 18, slot := 15, constantValue := 0 }, { name := "xt2", type := (.array .int), accessFlags := 18, slot := 16, constantValue := 0 }, { name := "zt2", type := (.array .int), accessFlags := 18, slot := 17, constantValue := 0 }, { name := "end1", type := .int, accessFlags := 2, slot := 18, constantValue := 0 }, { name := "end2", type := .int, accessFlags := 2, slot := 19, constantValue := 0 }, { name := "encIn", type := (.array .int), accessFlags := 18, slot := 20, constantValue := 0 }, { name := "encPar", type := (.array .int), accessFlags := 18, slot := 21, constantValue := 0 }, { name := "encTx", type := (.array .int), accessFlags := 18, slot := 22, constantValue := 0 }, { name := "encTp", type := (.array .int), accessFlags := 18, slot := 23, constantValue := 0 }, { name := "encEnd", type := .int, accessFlags := 2, slot := 24, constantValue := 0 }, { name := "nextState", type := (.array .int), accessFlags := 18, slot := 25, constantValue := 0 }, { name := "parityOut", type := (.array .int), accessFlags := 18, slot := 26, constantValue := 0 }, { name := "tailIn", type := (.array .int), accessFlags := 18, slot := 27, constantValue := 0 }, { name := "ys", type := (.array .int), accessFlags := 18, slot := 28, constantValue := 0 }, { name := "q1", type := (.array .int), accessFlags := 18, slot := 29, constantValue := 0 }, { name := "q2", type := (.array .int), accessFlags := 18, slot := 30, constantValue := 0 }, { name := "e1", type := (.array .int), accessFlags := 18, slot := 31, constantValue := 0 }, { name := "e2", type := (.array .int), accessFlags := 18, slot := 32, constantValue := 0 }, { name := "post", type := (.array .int), accessFlags := 18, slot := 33, constantValue := 0 }, { name := "dec", type := (.array .int), accessFlags := 18, slot := 34, constantValue := 0 }, { name := "sIn", type := (.array .int), accessFlags := 18, slot := 35, constantValue := 0 }, { name := "aIn", type := (.array .int), accessFlags := 18, slot := 36, constantValue := 0 }, { name := "qIn", type := (.array .int), accessFlags := 18, slot := 37, constantValue := 0 }, { name := "tsIn", type := (.array .int), accessFlags := 18, slot := 38, constantValue := 0 }, { name := "tqIn", type := (.array .int), accessFlags := 18, slot := 39, constantValue := 0 }, { name := "eOut", type := (.array .int), accessFlags := 18, slot := 40, constantValue := 0 }, { name := "alpha", type := (.array .int), accessFlags := 18, slot := 41, constantValue := 0 }, { name := "beta", type := (.array .int), accessFlags := 18, slot := 42, constantValue := 0 }]
  methods := #[k2m0, k2m1, k2m2, k2m3, k2m4, k2m5, k2m6, k2m7, k2m8, k2m9, k2m10, k2m11, k2m12, k2m13, k2m14, k2m15, k2m16, k2m17, k2m18, k2m19, k2m20, k2m21, k2m22, k2m23, k2m24, k2m25, k2m26, k2m27, k2m28, k2m29, k2m30, k2m31, k2m32, k2m33, k2m34, k2m35, k2m36, k2m37, k2m38, k2m39, k2m40, k2m41, k2m42, k2m43, k2m44, k2m45]
  instanceTypes := #[.int, .int, .int, .int, .int, (.array .int), (.array .int), (.array .int), (.array .boolean), (.array .int), (.array .int), (.array .int), (.array .int), (.array .int), (.array .int), (.array .int), (.array .int), (.array .int), .int, .int, (.array .int), (.array .int), (.array .int), (.array .int), .int, (.array .int), (.array .int), (.array .int), (.array .int), (.array .int), (.array .int), (.array .int), (.array .int), (.array .int), (.array .int), (.array .int), (.array .int), (.array .int), (.array .int), (.array .int), (.array .int), (.array .int), (.array .int)]
  staticTypes := #[.int, .int, .int, .int, .int, .int, .int, .int, .int]
  resolved := Array.replicate 293 none
  statics := none }

def pool3 : Array CpInfo := pool [(1, u "java/lang/Cloneable"), (0, .class_ 1), (0, u "java/lang/Object"), (0, .class_ 3)] 3

/-- java/lang/Cloneable -/
def k3 : Class := { plain "java/lang/Cloneable" (some 0) with
  accessFlags := 1537
  interfaces := #[]
  cf := some (fileOf pool3 2 #[] #[] 1537 4 #[] #[])
  fields := #[]
  methods := #[]
  instanceTypes := #[]
  staticTypes := #[]
  resolved := Array.replicate 8 none
  statics := none }

def pool4 : Array CpInfo := pool [(1, u "java/io/Serializable"), (0, .class_ 1), (0, u "java/lang/Object"), (0, .class_ 3)] 3

/-- java/io/Serializable -/
def k4 : Class := { plain "java/io/Serializable" (some 0) with
  accessFlags := 1537
  interfaces := #[]
  cf := some (fileOf pool4 2 #[] #[] 1537 4 #[] #[])
  fields := #[]
  methods := #[]
  instanceTypes := #[]
  staticTypes := #[]
  resolved := Array.replicate 8 none
  statics := none }

/-- the primitive boolean -/
def k5 : Class := { plain "boolean" none with kind := .primitive 'Z', accessFlags := 0x411 }
/-- [Z -/
def k6 : Class := { plain "[Z" (some 0) with kind := .array 5 .boolean, interfaces := #[3, 4], accessFlags := 1041 }

/-- the primitive byte -/
def k7 : Class := { plain "byte" none with kind := .primitive 'B', accessFlags := 0x411 }
/-- [B -/
def k8 : Class := { plain "[B" (some 0) with kind := .array 7 .byte, interfaces := #[3, 4], accessFlags := 1041 }

/-- the primitive int -/
def k9 : Class := { plain "int" none with kind := .primitive 'I', accessFlags := 0x411 }
/-- [I -/
def k10 : Class := { plain "[I" (some 0) with kind := .array 9 .int, interfaces := #[3, 4], accessFlags := 1041 }

def heap : Heap := #[{ cls := 10, slots := #[.int 0, .int 1, .int 2], vm := .none }]
def classes : Array Class := #[k0, k1, k2, k3, k4, k5, k6, k7, k8, k9, k10]
def interned : List (Array UInt16 × Addr) := []
def slotsUsed : Nat := 3
def theMethod : MethodId := ⟨1, 10⟩
def args0 : Array Value := #[.ref 0]
def aboutOver (below : List Frame) : State where
  vm := { classes := classes, interned := interned.toArray }
  heap := heap
  slotsUsed := slotsUsed
  threads := #[{ frames := .invoking theMethod args0 :: below }]
def below0 : List Frame := [.native { method := ⟨0, 0⟩, args := #[] }]
def about1 : State := aboutOver below0
def p0 : Program := .bare "" "" ""
def e0 : Env := launch0.env 0 0 0
theorem w_frames : about1.frames = Frame.invoking theMethod args0 :: below0 := rfl
set_option maxRecDepth 65536 in
theorem w_args : argsFit about1.vm theMethod args0 = true := by decide +kernel
set_option maxRecDepth 65536 in
theorem w_heap : heapFits about1 = true := by decide +kernel
set_option maxRecDepth 65536 in
theorem w_runnable : about1.curStatus? = some .runnable := by decide +kernel
set_option maxRecDepth 65536 in
theorem w_alone : about1.alone = true := by decide +kernel
set_option maxRecDepth 65536 in
theorem w_named : about1.methodNamed? x = some theMethod := by decide +kernel
set_option maxRecDepth 65536 in
theorem w_hears : about1.hears theMethod below0 = true := by decide +kernel
set_option maxRecDepth 65536 in
theorem w_ripe : about1.ripe theMethod args0 below0 = true := by decide +kernel
theorem w_running : about1.status = .running := rfl
set_option maxRecDepth 65536 in
theorem w_room : about1.hasRoom e0.platform room_1 = true :=
  launch0.hasRoom_least _ room_1 (by decide +kernel) (by decide +kernel) (by decide +kernel) (by decide +kernel) (by decide +kernel) (by decide +kernel)
theorem allAtoms_all (ts : List Jvm.Cond) (a : Array Jvm.Value) (st : Jvm.State) : (allAtoms ts).before a st = ts.all (fun c => c.before a st) := by
  induction ts with
  | nil => rfl
  | cons c t ih =>
    show (Jvm.Cond.and c (allAtoms t)).before a st = _
    rw [Jvm.Cond.before_and, ih, List.all_cons]
def words1 : List Jvm.Cond := Jvm.Cond.code x code maxLocals ret :: tables_1
/-- a 'code' word, met by the world's own term for the bytes: nothing is compared byte by byte -/
theorem code_word {y : MethodName} {bytes : ByteArray} {mx : Nat} {rt : Option FieldType} {a : Array Value} {s : State} {m : MethodId} {meth : Method} {c : Code} (h1 : s.methodNamed? y = some m) (h2 : s.vm.method? m = some meth) (h3 : meth.code = some c) (h4 : c.code = bytes)
    (h5 : (c.maxLocals == mx && c.exceptionTable.isEmpty && decide (c.maxStack ≤ mostOperands) && decide (meth.sig.returnType = rt) && !meth.locks && decide (parseMethodDescriptor y.desc = some meth.sig)) = true) : (Jvm.Cond.code y bytes mx rt).before a s = true := by
  simp only [Bool.and_eq_true, beq_iff_eq, Bool.not_eq_true', decide_eq_true_eq] at h5
  obtain ⟨⟨⟨⟨⟨g1, g2⟩, g3⟩, g4⟩, g5⟩, g6⟩ := h5
  simp [Cond.before, Cond.holds, Cond.value, h1, h2, h3, h4, g1, g2, g3, g4, g5, g6]
def isCode : Jvm.Cond → Bool
  | .code _ _ _ _ => true
  | _ => false
theorem all_split {L : List Jvm.Cond} {P : Jvm.Cond → Bool} (h1 : L.all (fun c => isCode c || P c) = true) (h2 : ∀ c ∈ L.filter isCode, P c = true) : L.all P = true := by
  refine List.all_eq_true.mpr fun c hc => ?_
  have h := List.all_eq_true.mp h1 c hc
  rcases Bool.eq_false_or_eq_true (isCode c) with hi | hi
  · exact h2 c (List.mem_filter.mpr ⟨hc, hi⟩)
  · simpa [hi] using h
set_option maxRecDepth 65536 in
theorem w_c0 : (Jvm.Cond.code x code maxLocals ret).before args0 about1 = true := code_word (m := ⟨1, 10⟩) (meth := k1m10) (c := k1c10) (by decide +kernel) rfl rfl rfl (by decide +kernel)
set_option maxRecDepth 65536 in
theorem w_c1 : (Jvm.Cond.code ({ cls := "TurboCodecOwnLaw", name := "cell", desc := "([II)I" } : Jvm.MethodName) method_2_code (2 : Nat) (Option.some Jvm.ClassFile.FieldType.int)).before args0 about1 = true := code_word (m := ⟨1, 1⟩) (meth := k1m1) (c := k1c1) (by decide +kernel) rfl rfl rfl (by decide +kernel)
set_option maxRecDepth 65536 in
theorem w_c2 : (Jvm.Cond.code ({ cls := "TurboCodecOwnLaw", name := "mod", desc := "(II)I" } : Jvm.MethodName) method_3_code (3 : Nat) (Option.some Jvm.ClassFile.FieldType.int)).before args0 about1 = true := code_word (m := ⟨1, 2⟩) (meth := k1m2) (c := k1c2) (by decide +kernel) rfl rfl rfl (by decide +kernel)
set_option maxRecDepth 65536 in
theorem w_c3 : (Jvm.Cond.code ({ cls := "TurboCodecOwnLaw", name := "blockOf", desc := "(I)I" } : Jvm.MethodName) method_4_code (1 : Nat) (Option.some Jvm.ClassFile.FieldType.int)).before args0 about1 = true := code_word (m := ⟨1, 3⟩) (meth := k1m3) (c := k1c3) (by decide +kernel) rfl rfl rfl (by decide +kernel)
set_option maxRecDepth 65536 in
theorem w_c4 : (Jvm.Cond.code ({ cls := "TurboCodec", name := "<init>", desc := "(II)V" } : Jvm.MethodName) prog_1_method_1_code (5 : Nat) (Option.none : Option Jvm.ClassFile.FieldType)).before args0 about1 = true := code_word (m := ⟨2, 0⟩) (meth := k2m0) (c := k2c0) (by decide +kernel) rfl rfl rfl (by decide +kernel)
set_option maxRecDepth 65536 in
theorem w_c5 : (Jvm.Cond.code ({ cls := "java/lang/Object", name := "<init>", desc := "()V" } : Jvm.MethodName) object_method_1_code (1 : Nat) (Option.none : Option Jvm.ClassFile.FieldType)).before args0 about1 = true := code_word (m := ⟨0, 0⟩) (meth := k0m0) (c := k0c0) (by decide +kernel) rfl rfl rfl (by decide +kernel)
set_option maxRecDepth 65536 in
theorem w_c6 : (Jvm.Cond.code ({ cls := "TurboCodec", name := "normaliseBlock", desc := "(I)I" } : Jvm.MethodName) prog_1_method_2_code (3 : Nat) (Option.some Jvm.ClassFile.FieldType.int)).before args0 about1 = true := code_word (m := ⟨2, 1⟩) (meth := k2m1) (c := k2c1) (by decide +kernel) rfl rfl rfl (by decide +kernel)
set_option maxRecDepth 65536 in
theorem w_c7 : (Jvm.Cond.code ({ cls := "TurboCodec", name := "clampInt", desc := "(III)I" } : Jvm.MethodName) prog_1_method_50_code (4 : Nat) (Option.some Jvm.ClassFile.FieldType.int)).before args0 about1 = true := code_word (m := ⟨2, 45⟩) (meth := k2m45) (c := k2c45) (by decide +kernel) rfl rfl rfl (by decide +kernel)
set_option maxRecDepth 65536 in
theorem w_c8 : (Jvm.Cond.code ({ cls := "TurboCodec", name := "buildTrellis", desc := "()V" } : Jvm.MethodName) prog_1_method_5_code (9 : Nat) (Option.none : Option Jvm.ClassFile.FieldType)).before args0 about1 = true := code_word (m := ⟨2, 4⟩) (meth := k2m4) (c := k2c4) (by decide +kernel) rfl rfl rfl (by decide +kernel)
set_option maxRecDepth 65536 in
theorem w_c9 : (Jvm.Cond.code ({ cls := "TurboCodec", name := "defaultF1", desc := "(I)I" } : Jvm.MethodName) prog_1_method_3_code (2 : Nat) (Option.some Jvm.ClassFile.FieldType.int)).before args0 about1 = true := code_word (m := ⟨2, 2⟩) (meth := k2m2) (c := k2c2) (by decide +kernel) rfl rfl rfl (by decide +kernel)
set_option maxRecDepth 65536 in
theorem w_c10 : (Jvm.Cond.code ({ cls := "TurboCodec", name := "defaultF2", desc := "(I)I" } : Jvm.MethodName) prog_1_method_4_code (2 : Nat) (Option.some Jvm.ClassFile.FieldType.int)).before args0 about1 = true := code_word (m := ⟨2, 3⟩) (meth := k2m3) (c := k2c3) (by decide +kernel) rfl rfl rfl (by decide +kernel)
set_option maxRecDepth 65536 in
theorem w_c11 : (Jvm.Cond.code ({ cls := "TurboCodec", name := "buildCandidate", desc := "(II)Z" } : Jvm.MethodName) prog_1_method_11_code (5 : Nat) (Option.some Jvm.ClassFile.FieldType.boolean)).before args0 about1 = true := code_word (m := ⟨2, 10⟩) (meth := k2m10) (c := k2c10) (by decide +kernel) rfl rfl rfl (by decide +kernel)
set_option maxRecDepth 65536 in
theorem w_c12 : (Jvm.Cond.code ({ cls := "TurboCodec", name := "qppValue", desc := "(III)I" } : Jvm.MethodName) prog_1_method_10_code (10 : Nat) (Option.some Jvm.ClassFile.FieldType.int)).before args0 about1 = true := code_word (m := ⟨2, 9⟩) (meth := k2m9) (c := k2c9) (by decide +kernel) rfl rfl rfl (by decide +kernel)
set_option maxRecDepth 65536 in
theorem w_c13 : (Jvm.Cond.code ({ cls := "TurboCodec", name := "commitCandidate", desc := "()V" } : Jvm.MethodName) prog_1_method_12_code (3 : Nat) (Option.none : Option Jvm.ClassFile.FieldType)).before args0 about1 = true := code_word (m := ⟨2, 11⟩) (meth := k2m11) (c := k2c11) (by decide +kernel) rfl rfl rfl (by decide +kernel)
set_option maxRecDepth 65536 in
theorem w_c14 : (Jvm.Cond.code ({ cls := "TurboCodecOwnLaw", name := "inv", desc := "(LTurboCodec;I)Z" } : Jvm.MethodName) method_9_code (5 : Nat) (Option.some Jvm.ClassFile.FieldType.boolean)).before args0 about1 = true := code_word (m := ⟨1, 8⟩) (meth := k1m8) (c := k1c8) (by decide +kernel) rfl rfl rfl (by decide +kernel)
set_option maxRecDepth 65536 in
theorem w_c15 : (Jvm.Cond.code ({ cls := "TurboCodec", name := "interleave", desc := "(I)I" } : Jvm.MethodName) prog_1_method_7_code (2 : Nat) (Option.some Jvm.ClassFile.FieldType.int)).before args0 about1 = true := code_word (m := ⟨2, 6⟩) (meth := k2m6) (c := k2c6) (by decide +kernel) rfl rfl rfl (by decide +kernel)
set_option maxRecDepth 65536 in
theorem w_c16 : (Jvm.Cond.code ({ cls := "TurboCodec", name := "inBlock", desc := "(I)Z" } : Jvm.MethodName) prog_1_method_48_code (2 : Nat) (Option.some Jvm.ClassFile.FieldType.boolean)).before args0 about1 = true := code_word (m := ⟨2, 43⟩) (meth := k2m43) (c := k2c43) (by decide +kernel) rfl rfl rfl (by decide +kernel)
set_option maxRecDepth 65536 in
theorem w_c17 : (Jvm.Cond.code ({ cls := "TurboCodec", name := "deinterleave", desc := "(I)I" } : Jvm.MethodName) prog_1_method_8_code (2 : Nat) (Option.some Jvm.ClassFile.FieldType.int)).before args0 about1 = true := code_word (m := ⟨2, 7⟩) (meth := k2m7) (c := k2c7) (by decide +kernel) rfl rfl rfl (by decide +kernel)
set_option maxRecDepth 65536 in
theorem w_c18 : (Jvm.Cond.code ({ cls := "TurboCodecOwnLaw", name := "goodF1", desc := "(II)I" } : Jvm.MethodName) method_8_code (4 : Nat) (Option.some Jvm.ClassFile.FieldType.int)).before args0 about1 = true := code_word (m := ⟨1, 7⟩) (meth := k1m7) (c := k1c7) (by decide +kernel) rfl rfl rfl (by decide +kernel)
set_option maxRecDepth 65536 in
theorem w_c19 : (Jvm.Cond.code ({ cls := "TurboCodecOwnLaw", name := "coprime", desc := "(II)Z" } : Jvm.MethodName) method_7_code (2 : Nat) (Option.some Jvm.ClassFile.FieldType.boolean)).before args0 about1 = true := code_word (m := ⟨1, 6⟩) (meth := k1m6) (c := k1c6) (by decide +kernel) rfl rfl rfl (by decide +kernel)
set_option maxRecDepth 65536 in
theorem w_c20 : (Jvm.Cond.code ({ cls := "TurboCodecOwnLaw", name := "rad", desc := "(I)I" } : Jvm.MethodName) method_6_code (2 : Nat) (Option.some Jvm.ClassFile.FieldType.int)).before args0 about1 = true := code_word (m := ⟨1, 5⟩) (meth := k1m5) (c := k1c5) (by decide +kernel) rfl rfl rfl (by decide +kernel)
set_option maxRecDepth 65536 in
theorem w_c21 : (Jvm.Cond.code ({ cls := "TurboCodec", name := "setInterleaver", desc := "(II)Z" } : Jvm.MethodName) prog_1_method_6_code (3 : Nat) (Option.some Jvm.ClassFile.FieldType.boolean)).before args0 about1 = true := code_word (m := ⟨2, 5⟩) (meth := k2m5) (c := k2c5) (by decide +kernel) rfl rfl rfl (by decide +kernel)
set_option maxRecDepth 65536 in
theorem w_c22 : (Jvm.Cond.code ({ cls := "TurboCodec", name := "factorsInRange", desc := "(II)Z" } : Jvm.MethodName) prog_1_method_9_code (3 : Nat) (Option.some Jvm.ClassFile.FieldType.boolean)).before args0 about1 = true := code_word (m := ⟨2, 8⟩) (meth := k2m8) (c := k2c8) (by decide +kernel) rfl rfl rfl (by decide +kernel)
set_option maxRecDepth 65536 in
theorem w_c23 : (Jvm.Cond.code ({ cls := "TurboCodec", name := "setMessage", desc := "(J)V" } : Jvm.MethodName) prog_1_method_14_code (4 : Nat) (Option.none : Option Jvm.ClassFile.FieldType)).before args0 about1 = true := code_word (m := ⟨2, 12⟩) (meth := k2m12) (c := k2c12) (by decide +kernel) rfl rfl rfl (by decide +kernel)
set_option maxRecDepth 65536 in
theorem w_c24 : (Jvm.Cond.code ({ cls := "TurboCodec", name := "encode", desc := "()I" } : Jvm.MethodName) prog_1_method_16_code (1 : Nat) (Option.some Jvm.ClassFile.FieldType.int)).before args0 about1 = true := code_word (m := ⟨2, 14⟩) (meth := k2m14) (c := k2c14) (by decide +kernel) rfl rfl rfl (by decide +kernel)
set_option maxRecDepth 65536 in
theorem w_c25 : (Jvm.Cond.code ({ cls := "TurboCodec", name := "loadEncoderInput", desc := "(I)V" } : Jvm.MethodName) prog_1_method_19_code (4 : Nat) (Option.none : Option Jvm.ClassFile.FieldType)).before args0 about1 = true := code_word (m := ⟨2, 15⟩) (meth := k2m15) (c := k2c15) (by decide +kernel) rfl rfl rfl (by decide +kernel)
set_option maxRecDepth 65536 in
theorem w_c26 : (Jvm.Cond.code ({ cls := "TurboCodec", name := "runConstituent", desc := "()V" } : Jvm.MethodName) prog_1_method_20_code (5 : Nat) (Option.none : Option Jvm.ClassFile.FieldType)).before args0 about1 = true := code_word (m := ⟨2, 16⟩) (meth := k2m16) (c := k2c16) (by decide +kernel) rfl rfl rfl (by decide +kernel)
set_option maxRecDepth 65536 in
theorem w_c27 : (Jvm.Cond.code ({ cls := "TurboCodec", name := "storeEncoderOutput", desc := "(I)V" } : Jvm.MethodName) prog_1_method_21_code (3 : Nat) (Option.none : Option Jvm.ClassFile.FieldType)).before args0 about1 = true := code_word (m := ⟨2, 17⟩) (meth := k2m17) (c := k2c17) (by decide +kernel) rfl rfl rfl (by decide +kernel)
set_option maxRecDepth 65536 in
theorem w_c28 : (Jvm.Cond.code ({ cls := "TurboCodec", name := "assembleCodeword", desc := "()V" } : Jvm.MethodName) prog_1_method_22_code (4 : Nat) (Option.none : Option Jvm.ClassFile.FieldType)).before args0 about1 = true := code_word (m := ⟨2, 18⟩) (meth := k2m18) (c := k2c18) (by decide +kernel) rfl rfl rfl (by decide +kernel)
set_option maxRecDepth 65536 in
theorem w_c29 : (Jvm.Cond.code ({ cls := "TurboCodec", name := "sysIndex", desc := "(I)I" } : Jvm.MethodName) prog_1_method_23_code (2 : Nat) (Option.some Jvm.ClassFile.FieldType.int)).before args0 about1 = true := code_word (m := ⟨2, 19⟩) (meth := k2m19) (c := k2c19) (by decide +kernel) rfl rfl rfl (by decide +kernel)
set_option maxRecDepth 65536 in
theorem w_c30 : (Jvm.Cond.code ({ cls := "TurboCodec", name := "par1Index", desc := "(I)I" } : Jvm.MethodName) prog_1_method_24_code (2 : Nat) (Option.some Jvm.ClassFile.FieldType.int)).before args0 about1 = true := code_word (m := ⟨2, 20⟩) (meth := k2m20) (c := k2c20) (by decide +kernel) rfl rfl rfl (by decide +kernel)
set_option maxRecDepth 65536 in
theorem w_c31 : (Jvm.Cond.code ({ cls := "TurboCodec", name := "par2Index", desc := "(I)I" } : Jvm.MethodName) prog_1_method_25_code (2 : Nat) (Option.some Jvm.ClassFile.FieldType.int)).before args0 about1 = true := code_word (m := ⟨2, 21⟩) (meth := k2m21) (c := k2c21) (by decide +kernel) rfl rfl rfl (by decide +kernel)
set_option maxRecDepth 65536 in
theorem w_c32 : (Jvm.Cond.code ({ cls := "TurboCodec", name := "tailIndex", desc := "(III)I" } : Jvm.MethodName) prog_1_method_27_code (5 : Nat) (Option.some Jvm.ClassFile.FieldType.int)).before args0 about1 = true := code_word (m := ⟨2, 23⟩) (meth := k2m23) (c := k2c23) (by decide +kernel) rfl rfl rfl (by decide +kernel)
set_option maxRecDepth 65536 in
theorem w_c33 : (Jvm.Cond.code ({ cls := "TurboCodec", name := "tailBase", desc := "()I" } : Jvm.MethodName) prog_1_method_26_code (1 : Nat) (Option.some Jvm.ClassFile.FieldType.int)).before args0 about1 = true := code_word (m := ⟨2, 22⟩) (meth := k2m22) (c := k2c22) (by decide +kernel) rfl rfl rfl (by decide +kernel)
set_option maxRecDepth 65536 in
theorem w_c34 : (Jvm.Cond.code ({ cls := "TurboCodec", name := "loadNoiseless", desc := "(I)V" } : Jvm.MethodName) prog_1_method_28_code (4 : Nat) (Option.none : Option Jvm.ClassFile.FieldType)).before args0 about1 = true := code_word (m := ⟨2, 24⟩) (meth := k2m24) (c := k2c24) (by decide +kernel) rfl rfl rfl (by decide +kernel)
set_option maxRecDepth 65536 in
theorem w_c35 : (Jvm.Cond.code ({ cls := "TurboCodecOwnLaw", name := "checkDecode", desc := "(LTurboCodec;III)Z" } : Jvm.MethodName) method_10_code (10 : Nat) (Option.some Jvm.ClassFile.FieldType.boolean)).before args0 about1 = true := code_word (m := ⟨1, 9⟩) (meth := k1m9) (c := k1c9) (by decide +kernel) rfl rfl rfl (by decide +kernel)
set_option maxRecDepth 65536 in
theorem w_c36 : (Jvm.Cond.code ({ cls := "TurboCodecOwnLaw", name := "clampAmp", desc := "(I)I" } : Jvm.MethodName) method_5_code (1 : Nat) (Option.some Jvm.ClassFile.FieldType.int)).before args0 about1 = true := code_word (m := ⟨1, 4⟩) (meth := k1m4) (c := k1c4) (by decide +kernel) rfl rfl rfl (by decide +kernel)
set_option maxRecDepth 65536 in
theorem w_c37 : (Jvm.Cond.code ({ cls := "TurboCodec", name := "decode", desc := "(I)I" } : Jvm.MethodName) prog_1_method_31_code (4 : Nat) (Option.some Jvm.ClassFile.FieldType.int)).before args0 about1 = true := code_word (m := ⟨2, 26⟩) (meth := k2m26) (c := k2c26) (by decide +kernel) rfl rfl rfl (by decide +kernel)
set_option maxRecDepth 65536 in
theorem w_c38 : (Jvm.Cond.code ({ cls := "TurboCodec", name := "gatherChannel", desc := "()V" } : Jvm.MethodName) prog_1_method_35_code (4 : Nat) (Option.none : Option Jvm.ClassFile.FieldType)).before args0 about1 = true := code_word (m := ⟨2, 30⟩) (meth := k2m30) (c := k2c30) (by decide +kernel) rfl rfl rfl (by decide +kernel)
set_option maxRecDepth 65536 in
theorem w_c39 : (Jvm.Cond.code ({ cls := "TurboCodec", name := "clearExtrinsic", desc := "()V" } : Jvm.MethodName) prog_1_method_36_code (2 : Nat) (Option.none : Option Jvm.ClassFile.FieldType)).before args0 about1 = true := code_word (m := ⟨2, 31⟩) (meth := k2m31) (c := k2c31) (by decide +kernel) rfl rfl rfl (by decide +kernel)
set_option maxRecDepth 65536 in
theorem w_c40 : (Jvm.Cond.code ({ cls := "TurboCodec", name := "runDecoder1", desc := "()V" } : Jvm.MethodName) prog_1_method_38_code (2 : Nat) (Option.none : Option Jvm.ClassFile.FieldType)).before args0 about1 = true := code_word (m := ⟨2, 33⟩) (meth := k2m33) (c := k2c33) (by decide +kernel) rfl rfl rfl (by decide +kernel)
set_option maxRecDepth 65536 in
theorem w_c41 : (Jvm.Cond.code ({ cls := "TurboCodec", name := "loadTailValues", desc := "(I)V" } : Jvm.MethodName) prog_1_method_37_code (3 : Nat) (Option.none : Option Jvm.ClassFile.FieldType)).before args0 about1 = true := code_word (m := ⟨2, 32⟩) (meth := k2m32) (c := k2c32) (by decide +kernel) rfl rfl rfl (by decide +kernel)
set_option maxRecDepth 65536 in
theorem w_c42 : (Jvm.Cond.code ({ cls := "TurboCodec", name := "runCsd", desc := "()V" } : Jvm.MethodName) prog_1_method_41_code (2 : Nat) (Option.none : Option Jvm.ClassFile.FieldType)).before args0 about1 = true := code_word (m := ⟨2, 36⟩) (meth := k2m36) (c := k2c36) (by decide +kernel) rfl rfl rfl (by decide +kernel)
set_option maxRecDepth 65536 in
theorem w_c43 : (Jvm.Cond.code ({ cls := "TurboCodec", name := "backwardPass", desc := "()V" } : Jvm.MethodName) prog_1_method_44_code (3 : Nat) (Option.none : Option Jvm.ClassFile.FieldType)).before args0 about1 = true := code_word (m := ⟨2, 39⟩) (meth := k2m39) (c := k2c39) (by decide +kernel) rfl rfl rfl (by decide +kernel)
set_option maxRecDepth 65536 in
theorem w_c44 : (Jvm.Cond.code ({ cls := "TurboCodec", name := "tailMetric", desc := "(I)I" } : Jvm.MethodName) prog_1_method_43_code (7 : Nat) (Option.some Jvm.ClassFile.FieldType.int)).before args0 about1 = true := code_word (m := ⟨2, 38⟩) (meth := k2m38) (c := k2c38) (by decide +kernel) rfl rfl rfl (by decide +kernel)
set_option maxRecDepth 65536 in
theorem w_c45 : (Jvm.Cond.code ({ cls := "TurboCodec", name := "backwardStep", desc := "(I)V" } : Jvm.MethodName) prog_1_method_45_code (9 : Nat) (Option.none : Option Jvm.ClassFile.FieldType)).before args0 about1 = true := code_word (m := ⟨2, 40⟩) (meth := k2m40) (c := k2c40) (by decide +kernel) rfl rfl rfl (by decide +kernel)
set_option maxRecDepth 65536 in
theorem w_c46 : (Jvm.Cond.code ({ cls := "TurboCodec", name := "branchMetric", desc := "(II)I" } : Jvm.MethodName) prog_1_method_42_code (4 : Nat) (Option.some Jvm.ClassFile.FieldType.int)).before args0 about1 = true := code_word (m := ⟨2, 37⟩) (meth := k2m37) (c := k2c37) (by decide +kernel) rfl rfl rfl (by decide +kernel)
set_option maxRecDepth 65536 in
theorem w_c47 : (Jvm.Cond.code ({ cls := "TurboCodec", name := "softStep", desc := "(I)V" } : Jvm.MethodName) prog_1_method_47_code (8 : Nat) (Option.none : Option Jvm.ClassFile.FieldType)).before args0 about1 = true := code_word (m := ⟨2, 42⟩) (meth := k2m42) (c := k2c42) (by decide +kernel) rfl rfl rfl (by decide +kernel)
set_option maxRecDepth 65536 in
theorem w_c48 : (Jvm.Cond.code ({ cls := "TurboCodec", name := "forwardStep", desc := "(I)V" } : Jvm.MethodName) prog_1_method_46_code (7 : Nat) (Option.none : Option Jvm.ClassFile.FieldType)).before args0 about1 = true := code_word (m := ⟨2, 41⟩) (meth := k2m41) (c := k2c41) (by decide +kernel) rfl rfl rfl (by decide +kernel)
set_option maxRecDepth 65536 in
theorem w_c49 : (Jvm.Cond.code ({ cls := "TurboCodec", name := "runDecoder2", desc := "()V" } : Jvm.MethodName) prog_1_method_39_code (3 : Nat) (Option.none : Option Jvm.ClassFile.FieldType)).before args0 about1 = true := code_word (m := ⟨2, 34⟩) (meth := k2m34) (c := k2c34) (by decide +kernel) rfl rfl rfl (by decide +kernel)
set_option maxRecDepth 65536 in
theorem w_c50 : (Jvm.Cond.code ({ cls := "TurboCodec", name := "finishDecisions", desc := "()I" } : Jvm.MethodName) prog_1_method_40_code (4 : Nat) (Option.some Jvm.ClassFile.FieldType.int)).before args0 about1 = true := code_word (m := ⟨2, 35⟩) (meth := k2m35) (c := k2c35) (by decide +kernel) rfl rfl rfl (by decide +kernel)
set_option maxRecDepth 65536 in
theorem w_c51 : (Jvm.Cond.code ({ cls := "TurboCodec", name := "getBit", desc := "(I)I" } : Jvm.MethodName) prog_1_method_15_code (2 : Nat) (Option.some Jvm.ClassFile.FieldType.int)).before args0 about1 = true := code_word (m := ⟨2, 13⟩) (meth := k2m13) (c := k2c13) (by decide +kernel) rfl rfl rfl (by decide +kernel)
set_option maxRecDepth 65536 in
theorem w_c52 : (Jvm.Cond.code ({ cls := "TurboCodec", name := "decodedBit", desc := "(I)I" } : Jvm.MethodName) prog_1_method_32_code (2 : Nat) (Option.some Jvm.ClassFile.FieldType.int)).before args0 about1 = true := code_word (m := ⟨2, 27⟩) (meth := k2m27) (c := k2c27) (by decide +kernel) rfl rfl rfl (by decide +kernel)
set_option maxRecDepth 65536 in
theorem w_c53 : (Jvm.Cond.code ({ cls := "TurboCodec", name := "posterior", desc := "(I)I" } : Jvm.MethodName) prog_1_method_33_code (2 : Nat) (Option.some Jvm.ClassFile.FieldType.int)).before args0 about1 = true := code_word (m := ⟨2, 28⟩) (meth := k2m28) (c := k2c28) (by decide +kernel) rfl rfl rfl (by decide +kernel)
set_option maxRecDepth 65536 in
theorem w_c54 : (Jvm.Cond.code ({ cls := "TurboCodec", name := "extrinsic", desc := "(II)I" } : Jvm.MethodName) prog_1_method_34_code (3 : Nat) (Option.some Jvm.ClassFile.FieldType.int)).before args0 about1 = true := code_word (m := ⟨2, 29⟩) (meth := k2m29) (c := k2c29) (by decide +kernel) rfl rfl rfl (by decide +kernel)
set_option maxRecDepth 65536 in
theorem w_c55 : (Jvm.Cond.code ({ cls := "TurboCodec", name := "setChannel", desc := "(II)Z" } : Jvm.MethodName) prog_1_method_29_code (3 : Nat) (Option.some Jvm.ClassFile.FieldType.boolean)).before args0 about1 = true := code_word (m := ⟨2, 25⟩) (meth := k2m25) (c := k2c25) (by decide +kernel) rfl rfl rfl (by decide +kernel)
set_option maxRecDepth 65536 in
theorem w_c56 : (Jvm.Cond.code ({ cls := "TurboCodec", name := "inCode", desc := "(I)Z" } : Jvm.MethodName) prog_1_method_49_code (2 : Nat) (Option.some Jvm.ClassFile.FieldType.boolean)).before args0 about1 = true := code_word (m := ⟨2, 44⟩) (meth := k2m44) (c := k2c44) (by decide +kernel) rfl rfl rfl (by decide +kernel)
def codes1 : List Jvm.Cond := [Jvm.Cond.code x code maxLocals ret, Jvm.Cond.code ({ cls := "TurboCodecOwnLaw", name := "cell", desc := "([II)I" } : Jvm.MethodName) method_2_code (2 : Nat) (Option.some Jvm.ClassFile.FieldType.int), Jvm.Cond.code ({ cls := "TurboCodecOwnLaw", name := "mod", desc := "(II)I" } : Jvm.MethodName) method_3_code (3 : Nat) (Option.some Jvm.ClassFile.FieldType.int), Jvm.Cond.code ({ cls := "TurboCodecOwnLaw", name := "blockOf", desc := "(I)I" } : Jvm.MethodName) method_4_code (1 : Nat) (Option.some Jvm.ClassFile.FieldType.int), Jvm.Cond.code ({ cls := "TurboCodec", name := "<init>", desc := "(II)V" } : Jvm.MethodName) prog_1_method_1_code (5 : Nat) (Option.none : Option Jvm.ClassFile.FieldType), Jvm.Cond.code ({ cls := "java/lang/Object", name := "<init>", desc := "()V" } : Jvm.MethodName) object_method_1_code (1 : Nat) (Option.none : Option Jvm.ClassFile.FieldType), Jvm.Cond.code ({ cls := "TurboCodec", name := "normaliseBlock", desc := "(I)I" } : Jvm.MethodName) prog_1_method_2_code (3 : Nat) (Option.some Jvm.ClassFile.FieldType.int), Jvm.Cond.code ({ cls := "TurboCodec", name := "clampInt", desc := "(III)I" } : Jvm.MethodName) prog_1_method_50_code (4 : Nat) (Option.some Jvm.ClassFile.FieldType.int), Jvm.Cond.code ({ cls := "TurboCodec", name := "buildTrellis", desc := "()V" } : Jvm.MethodName) prog_1_method_5_code (9 : Nat) (Option.none : Option Jvm.ClassFile.FieldType), Jvm.Cond.code ({ cls := "TurboCodec", name := "defaultF1", desc := "(I)I" } : Jvm.MethodName) prog_1_method_3_code (2 : Nat) (Option.some Jvm.ClassFile.FieldType.int), Jvm.Cond.code ({ cls := "TurboCodec", name := "defaultF2", desc := "(I)I" } : Jvm.MethodName) prog_1_method_4_code (2 : Nat) (Option.some Jvm.ClassFile.FieldType.int), Jvm.Cond.code ({ cls := "TurboCodec", name := "buildCandidate", desc := "(II)Z" } : Jvm.MethodName) prog_1_method_11_code (5 : Nat) (Option.some Jvm.ClassFile.FieldType.boolean), Jvm.Cond.code ({ cls := "TurboCodec", name := "qppValue", desc := "(III)I" } : Jvm.MethodName) prog_1_method_10_code (10 : Nat) (Option.some Jvm.ClassFile.FieldType.int), Jvm.Cond.code ({ cls := "TurboCodec", name := "commitCandidate", desc := "()V" } : Jvm.MethodName) prog_1_method_12_code (3 : Nat) (Option.none : Option Jvm.ClassFile.FieldType), Jvm.Cond.code ({ cls := "TurboCodecOwnLaw", name := "inv", desc := "(LTurboCodec;I)Z" } : Jvm.MethodName) method_9_code (5 : Nat) (Option.some Jvm.ClassFile.FieldType.boolean), Jvm.Cond.code ({ cls := "TurboCodec", name := "interleave", desc := "(I)I" } : Jvm.MethodName) prog_1_method_7_code (2 : Nat) (Option.some Jvm.ClassFile.FieldType.int), Jvm.Cond.code ({ cls := "TurboCodec", name := "inBlock", desc := "(I)Z" } : Jvm.MethodName) prog_1_method_48_code (2 : Nat) (Option.some Jvm.ClassFile.FieldType.boolean), Jvm.Cond.code ({ cls := "TurboCodec", name := "deinterleave", desc := "(I)I" } : Jvm.MethodName) prog_1_method_8_code (2 : Nat) (Option.some Jvm.ClassFile.FieldType.int), Jvm.Cond.code ({ cls := "TurboCodecOwnLaw", name := "goodF1", desc := "(II)I" } : Jvm.MethodName) method_8_code (4 : Nat) (Option.some Jvm.ClassFile.FieldType.int), Jvm.Cond.code ({ cls := "TurboCodecOwnLaw", name := "coprime", desc := "(II)Z" } : Jvm.MethodName) method_7_code (2 : Nat) (Option.some Jvm.ClassFile.FieldType.boolean), Jvm.Cond.code ({ cls := "TurboCodecOwnLaw", name := "rad", desc := "(I)I" } : Jvm.MethodName) method_6_code (2 : Nat) (Option.some Jvm.ClassFile.FieldType.int), Jvm.Cond.code ({ cls := "TurboCodec", name := "setInterleaver", desc := "(II)Z" } : Jvm.MethodName) prog_1_method_6_code (3 : Nat) (Option.some Jvm.ClassFile.FieldType.boolean), Jvm.Cond.code ({ cls := "TurboCodec", name := "factorsInRange", desc := "(II)Z" } : Jvm.MethodName) prog_1_method_9_code (3 : Nat) (Option.some Jvm.ClassFile.FieldType.boolean), Jvm.Cond.code ({ cls := "TurboCodec", name := "setMessage", desc := "(J)V" } : Jvm.MethodName) prog_1_method_14_code (4 : Nat) (Option.none : Option Jvm.ClassFile.FieldType), Jvm.Cond.code ({ cls := "TurboCodec", name := "encode", desc := "()I" } : Jvm.MethodName) prog_1_method_16_code (1 : Nat) (Option.some Jvm.ClassFile.FieldType.int), Jvm.Cond.code ({ cls := "TurboCodec", name := "loadEncoderInput", desc := "(I)V" } : Jvm.MethodName) prog_1_method_19_code (4 : Nat) (Option.none : Option Jvm.ClassFile.FieldType), Jvm.Cond.code ({ cls := "TurboCodec", name := "runConstituent", desc := "()V" } : Jvm.MethodName) prog_1_method_20_code (5 : Nat) (Option.none : Option Jvm.ClassFile.FieldType), Jvm.Cond.code ({ cls := "TurboCodec", name := "storeEncoderOutput", desc := "(I)V" } : Jvm.MethodName) prog_1_method_21_code (3 : Nat) (Option.none : Option Jvm.ClassFile.FieldType), Jvm.Cond.code ({ cls := "TurboCodec", name := "assembleCodeword", desc := "()V" } : Jvm.MethodName) prog_1_method_22_code (4 : Nat) (Option.none : Option Jvm.ClassFile.FieldType), Jvm.Cond.code ({ cls := "TurboCodec", name := "sysIndex", desc := "(I)I" } : Jvm.MethodName) prog_1_method_23_code (2 : Nat) (Option.some Jvm.ClassFile.FieldType.int), Jvm.Cond.code ({ cls := "TurboCodec", name := "par1Index", desc := "(I)I" } : Jvm.MethodName) prog_1_method_24_code (2 : Nat) (Option.some Jvm.ClassFile.FieldType.int), Jvm.Cond.code ({ cls := "TurboCodec", name := "par2Index", desc := "(I)I" } : Jvm.MethodName) prog_1_method_25_code (2 : Nat) (Option.some Jvm.ClassFile.FieldType.int), Jvm.Cond.code ({ cls := "TurboCodec", name := "tailIndex", desc := "(III)I" } : Jvm.MethodName) prog_1_method_27_code (5 : Nat) (Option.some Jvm.ClassFile.FieldType.int), Jvm.Cond.code ({ cls := "TurboCodec", name := "tailBase", desc := "()I" } : Jvm.MethodName) prog_1_method_26_code (1 : Nat) (Option.some Jvm.ClassFile.FieldType.int), Jvm.Cond.code ({ cls := "TurboCodec", name := "loadNoiseless", desc := "(I)V" } : Jvm.MethodName) prog_1_method_28_code (4 : Nat) (Option.none : Option Jvm.ClassFile.FieldType), Jvm.Cond.code ({ cls := "TurboCodecOwnLaw", name := "checkDecode", desc := "(LTurboCodec;III)Z" } : Jvm.MethodName) method_10_code (10 : Nat) (Option.some Jvm.ClassFile.FieldType.boolean), Jvm.Cond.code ({ cls := "TurboCodecOwnLaw", name := "clampAmp", desc := "(I)I" } : Jvm.MethodName) method_5_code (1 : Nat) (Option.some Jvm.ClassFile.FieldType.int), Jvm.Cond.code ({ cls := "TurboCodec", name := "decode", desc := "(I)I" } : Jvm.MethodName) prog_1_method_31_code (4 : Nat) (Option.some Jvm.ClassFile.FieldType.int), Jvm.Cond.code ({ cls := "TurboCodec", name := "gatherChannel", desc := "()V" } : Jvm.MethodName) prog_1_method_35_code (4 : Nat) (Option.none : Option Jvm.ClassFile.FieldType), Jvm.Cond.code ({ cls := "TurboCodec", name := "clearExtrinsic", desc := "()V" } : Jvm.MethodName) prog_1_method_36_code (2 : Nat) (Option.none : Option Jvm.ClassFile.FieldType), Jvm.Cond.code ({ cls := "TurboCodec", name := "runDecoder1", desc := "()V" } : Jvm.MethodName) prog_1_method_38_code (2 : Nat) (Option.none : Option Jvm.ClassFile.FieldType), Jvm.Cond.code ({ cls := "TurboCodec", name := "loadTailValues", desc := "(I)V" } : Jvm.MethodName) prog_1_method_37_code (3 : Nat) (Option.none : Option Jvm.ClassFile.FieldType), Jvm.Cond.code ({ cls := "TurboCodec", name := "runCsd", desc := "()V" } : Jvm.MethodName) prog_1_method_41_code (2 : Nat) (Option.none : Option Jvm.ClassFile.FieldType), Jvm.Cond.code ({ cls := "TurboCodec", name := "backwardPass", desc := "()V" } : Jvm.MethodName) prog_1_method_44_code (3 : Nat) (Option.none : Option Jvm.ClassFile.FieldType), Jvm.Cond.code ({ cls := "TurboCodec", name := "tailMetric", desc := "(I)I" } : Jvm.MethodName) prog_1_method_43_code (7 : Nat) (Option.some Jvm.ClassFile.FieldType.int), Jvm.Cond.code ({ cls := "TurboCodec", name := "backwardStep", desc := "(I)V" } : Jvm.MethodName) prog_1_method_45_code (9 : Nat) (Option.none : Option Jvm.ClassFile.FieldType), Jvm.Cond.code ({ cls := "TurboCodec", name := "branchMetric", desc := "(II)I" } : Jvm.MethodName) prog_1_method_42_code (4 : Nat) (Option.some Jvm.ClassFile.FieldType.int), Jvm.Cond.code ({ cls := "TurboCodec", name := "softStep", desc := "(I)V" } : Jvm.MethodName) prog_1_method_47_code (8 : Nat) (Option.none : Option Jvm.ClassFile.FieldType), Jvm.Cond.code ({ cls := "TurboCodec", name := "forwardStep", desc := "(I)V" } : Jvm.MethodName) prog_1_method_46_code (7 : Nat) (Option.none : Option Jvm.ClassFile.FieldType), Jvm.Cond.code ({ cls := "TurboCodec", name := "runDecoder2", desc := "()V" } : Jvm.MethodName) prog_1_method_39_code (3 : Nat) (Option.none : Option Jvm.ClassFile.FieldType), Jvm.Cond.code ({ cls := "TurboCodec", name := "finishDecisions", desc := "()I" } : Jvm.MethodName) prog_1_method_40_code (4 : Nat) (Option.some Jvm.ClassFile.FieldType.int), Jvm.Cond.code ({ cls := "TurboCodec", name := "getBit", desc := "(I)I" } : Jvm.MethodName) prog_1_method_15_code (2 : Nat) (Option.some Jvm.ClassFile.FieldType.int), Jvm.Cond.code ({ cls := "TurboCodec", name := "decodedBit", desc := "(I)I" } : Jvm.MethodName) prog_1_method_32_code (2 : Nat) (Option.some Jvm.ClassFile.FieldType.int), Jvm.Cond.code ({ cls := "TurboCodec", name := "posterior", desc := "(I)I" } : Jvm.MethodName) prog_1_method_33_code (2 : Nat) (Option.some Jvm.ClassFile.FieldType.int), Jvm.Cond.code ({ cls := "TurboCodec", name := "extrinsic", desc := "(II)I" } : Jvm.MethodName) prog_1_method_34_code (3 : Nat) (Option.some Jvm.ClassFile.FieldType.int), Jvm.Cond.code ({ cls := "TurboCodec", name := "setChannel", desc := "(II)Z" } : Jvm.MethodName) prog_1_method_29_code (3 : Nat) (Option.some Jvm.ClassFile.FieldType.boolean), Jvm.Cond.code ({ cls := "TurboCodec", name := "inCode", desc := "(I)Z" } : Jvm.MethodName) prog_1_method_49_code (2 : Nat) (Option.some Jvm.ClassFile.FieldType.boolean)]
set_option maxRecDepth 65536 in
theorem codes_eq : words1.filter isCode = codes1 := rfl
theorem w_codes : ∀ c ∈ words1.filter isCode, c.before args0 about1 = true := by
  rw [codes_eq]
  intro c hc
  simp only [codes1, List.mem_cons, List.not_mem_nil, or_false] at hc
  rcases hc with rfl | rfl | rfl | rfl | rfl | rfl | rfl | rfl | rfl | rfl | rfl | rfl | rfl | rfl | rfl | rfl | rfl | rfl | rfl | rfl | rfl | rfl | rfl | rfl | rfl | rfl | rfl | rfl | rfl | rfl | rfl | rfl | rfl | rfl | rfl | rfl | rfl | rfl | rfl | rfl | rfl | rfl | rfl | rfl | rfl | rfl | rfl | rfl | rfl | rfl | rfl | rfl | rfl | rfl | rfl | rfl | rfl
  · exact w_c0
  · exact w_c1
  · exact w_c2
  · exact w_c3
  · exact w_c4
  · exact w_c5
  · exact w_c6
  · exact w_c7
  · exact w_c8
  · exact w_c9
  · exact w_c10
  · exact w_c11
  · exact w_c12
  · exact w_c13
  · exact w_c14
  · exact w_c15
  · exact w_c16
  · exact w_c17
  · exact w_c18
  · exact w_c19
  · exact w_c20
  · exact w_c21
  · exact w_c22
  · exact w_c23
  · exact w_c24
  · exact w_c25
  · exact w_c26
  · exact w_c27
  · exact w_c28
  · exact w_c29
  · exact w_c30
  · exact w_c31
  · exact w_c32
  · exact w_c33
  · exact w_c34
  · exact w_c35
  · exact w_c36
  · exact w_c37
  · exact w_c38
  · exact w_c39
  · exact w_c40
  · exact w_c41
  · exact w_c42
  · exact w_c43
  · exact w_c44
  · exact w_c45
  · exact w_c46
  · exact w_c47
  · exact w_c48
  · exact w_c49
  · exact w_c50
  · exact w_c51
  · exact w_c52
  · exact w_c53
  · exact w_c54
  · exact w_c55
  · exact w_c56
set_option maxRecDepth 65536 in
theorem w_t1 : (words1.take 24).all (fun c => isCode c || c.before args0 about1) = true := by decide +kernel
set_option maxRecDepth 65536 in
theorem w_t2 : ((words1.drop 24).take 24).all (fun c => isCode c || c.before args0 about1) = true := by decide +kernel
set_option maxRecDepth 65536 in
theorem w_t3 : (((words1.drop 24).drop 24).take 24).all (fun c => isCode c || c.before args0 about1) = true := by decide +kernel
set_option maxRecDepth 65536 in
theorem w_t4 : ((((words1.drop 24).drop 24).drop 24).take 24).all (fun c => isCode c || c.before args0 about1) = true := by decide +kernel
set_option maxRecDepth 65536 in
theorem w_t5 : (((((words1.drop 24).drop 24).drop 24).drop 24).take 24).all (fun c => isCode c || c.before args0 about1) = true := by decide +kernel
set_option maxRecDepth 65536 in
theorem w_t6 : ((((((words1.drop 24).drop 24).drop 24).drop 24).drop 24).take 24).all (fun c => isCode c || c.before args0 about1) = true := by decide +kernel
set_option maxRecDepth 65536 in
theorem w_t7 : (((((((words1.drop 24).drop 24).drop 24).drop 24).drop 24).drop 24).take 24).all (fun c => isCode c || c.before args0 about1) = true := by decide +kernel
set_option maxRecDepth 65536 in
theorem w_t8 : ((((((((words1.drop 24).drop 24).drop 24).drop 24).drop 24).drop 24).drop 24).take 24).all (fun c => isCode c || c.before args0 about1) = true := by decide +kernel
set_option maxRecDepth 65536 in
theorem w_t9 : (((((((((words1.drop 24).drop 24).drop 24).drop 24).drop 24).drop 24).drop 24).drop 24).take 24).all (fun c => isCode c || c.before args0 about1) = true := by decide +kernel
set_option maxRecDepth 65536 in
theorem w_t10 : ((((((((((words1.drop 24).drop 24).drop 24).drop 24).drop 24).drop 24).drop 24).drop 24).drop 24).take 24).all (fun c => isCode c || c.before args0 about1) = true := by decide +kernel
set_option maxRecDepth 65536 in
theorem w_t11 : (((((((((((words1.drop 24).drop 24).drop 24).drop 24).drop 24).drop 24).drop 24).drop 24).drop 24).drop 24).take 24).all (fun c => isCode c || c.before args0 about1) = true := by decide +kernel
set_option maxRecDepth 65536 in
theorem w_t12 : ((((((((((((words1.drop 24).drop 24).drop 24).drop 24).drop 24).drop 24).drop 24).drop 24).drop 24).drop 24).drop 24).take 24).all (fun c => isCode c || c.before args0 about1) = true := by decide +kernel
set_option maxRecDepth 65536 in
theorem w_t13 : (((((((((((((words1.drop 24).drop 24).drop 24).drop 24).drop 24).drop 24).drop 24).drop 24).drop 24).drop 24).drop 24).drop 24).take 24).all (fun c => isCode c || c.before args0 about1) = true := by decide +kernel
set_option maxRecDepth 65536 in
theorem w_t14 : (((((((((((((words1.drop 24).drop 24).drop 24).drop 24).drop 24).drop 24).drop 24).drop 24).drop 24).drop 24).drop 24).drop 24).drop 24).all (fun c => isCode c || c.before args0 about1) = true := by decide +kernel
theorem w_tables : (allAtoms (Jvm.Cond.code x code maxLocals ret :: tables_1)).before args0 about1 = true := by
  rw [allAtoms_all]
  show words1.all (fun c => c.before args0 about1) = true
  refine all_split ?_ w_codes
  rw [← List.take_append_drop 24 words1, List.all_append, w_t1, ← List.take_append_drop 24 (words1.drop 24), List.all_append, w_t2, ← List.take_append_drop 24 ((words1.drop 24).drop 24), List.all_append, w_t3, ← List.take_append_drop 24 (((words1.drop 24).drop 24).drop 24), List.all_append, w_t4, ← List.take_append_drop 24 ((((words1.drop 24).drop 24).drop 24).drop 24), List.all_append, w_t5, ← List.take_append_drop 24 (((((words1.drop 24).drop 24).drop 24).drop 24).drop 24), List.all_append, w_t6, ← List.take_append_drop 24 ((((((words1.drop 24).drop 24).drop 24).drop 24).drop 24).drop 24), List.all_append, w_t7, ← List.take_append_drop 24 (((((((words1.drop 24).drop 24).drop 24).drop 24).drop 24).drop 24).drop 24), List.all_append, w_t8, ← List.take_append_drop 24 ((((((((words1.drop 24).drop 24).drop 24).drop 24).drop 24).drop 24).drop 24).drop 24), List.all_append, w_t9, ← List.take_append_drop 24 (((((((((words1.drop 24).drop 24).drop 24).drop 24).drop 24).drop 24).drop 24).drop 24).drop 24), List.all_append, w_t10, ← List.take_append_drop 24 ((((((((((words1.drop 24).drop 24).drop 24).drop 24).drop 24).drop 24).drop 24).drop 24).drop 24).drop 24), List.all_append, w_t11, ← List.take_append_drop 24 (((((((((((words1.drop 24).drop 24).drop 24).drop 24).drop 24).drop 24).drop 24).drop 24).drop 24).drop 24).drop 24), List.all_append, w_t12, ← List.take_append_drop 24 ((((((((((((words1.drop 24).drop 24).drop 24).drop 24).drop 24).drop 24).drop 24).drop 24).drop 24).drop 24).drop 24).drop 24), List.all_append, w_t13, w_t14]
  rfl
set_option maxRecDepth 65536 in
theorem w_rest : rest_1_c.before args0 about1 = true := by decide +kernel
set_option maxRecDepth 65536 in
theorem w_case : (Jvm.Cond.and given_1 narrow_1).before args0 about1 = true := by decide +kernel
theorem w_applies : (headSpec (Jvm.Cond.code x code maxLocals ret :: tables_1) room_1).applies x e0.platform about1 = true :=
  (Spec.applies_iff w_frames).mpr ⟨w_running, w_runnable, w_alone, w_named, w_hears, w_ripe, w_room, w_tables⟩
theorem atStart : AtStart classFile x code maxLocals ret World_1 tables_1 room_1 Calls_1 rest_1 Pre_1 launch0 p0 e0 about1 theMethod args0 below0 :=
  ⟨lists_1, trivial, launch0.admits_env _ _ _, launch0.least_env, fairChoices_fair.cas, fairChoices_fair.clock, w_frames, w_args, w_heap, w_applies, trivial, w_rest, w_case⟩
end start1
theorem witness_1 : WitnessClaimed_1 := ⟨start1.p0, start1.e0, start1.about1, start1.theMethod, start1.args0, start1.below0, start1.atStart⟩
end Jvm.Pilot.@@N@@
