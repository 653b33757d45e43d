import JvmDerived
import JvmDerived.Pilot.@@N@@Statement
import JvmDerived.Pilot.@@N@@Code
set_option linter.unusedVariables false
set_option linter.unusedSimpArgs false
namespace Jvm.OM
open Sem ClassFile Op Lib Jvm.Stand Jvm.Free Jvm.LawKit Jvm.RoadKit
section Fix
variable {α ρ:Type}
abbrev Plan(α ρ:Type):=Option (ρ⊕(α⊕(α×(ρ→α))))
def run(P:α→Plan α ρ)(f:α→Option ρ)(c:α):Option ρ:=
 match P c with
 |none=>none
 |some (.inl r)=>some r
 |some (.inr (.inl c'))=>f c'
 |some (.inr (.inr q))=>(f q.1).bind fun r=>f (q.2 r)
def iter(P:α→Plan α ρ):Nat→α→Option ρ
 |0,_=>none
 |n+1,c=>run P (iter P n) c
theorem run_mono{P:α→Plan α ρ}{f g:α→Option ρ}(h:∀c r,f c=some r→g c=some r){c:α}{r:ρ}(e:run P f c=some r):run P g c=some r:=by
 unfold run at e ⊢
 split at e
 ·cases e
 ·exact e
 ·exact h _ _ e
 ·rename_i q _
  obtain⟨x,h1,h2⟩:=Option.bind_eq_some_iff.mp e
  exact Option.bind_eq_some_iff.mpr ⟨x,h _ _ h1,h _ _ h2⟩
theorem iter_succ{P:α→Plan α ρ}:∀ {n:Nat} {c:α} {r:ρ},iter P n c=some r→iter P (n+1) c=some r
 |0,_,_,e=>by cases e
 |n+1,c,r,e=>run_mono (f:=iter P n) (g:=iter P (n+1)) (fun _ _ h=>iter_succ h) e
theorem iter_le{P:α→Plan α ρ}{n k:Nat}{c:α}{r:ρ}(e:iter P n c=some r)(h:n≤k):iter P k c=some r:=by
 induction h with
 |refl=>exact e
 |step _ ih=>exact iter_succ ih
theorem exists_fix(P:α→Plan α ρ):∃f:α→Option ρ,(∀c,f c=run P f c)∧∀c r,f c=some r→∃n,iter P n c=some r:=by
 classical
 have key:∃f:α→Option ρ,∀c r,f c=some r↔∃n,iter P n c=some r:=by
  refine⟨fun c=>if h:∃r n,iter P n c=some r then some h.choose else none,fun c r=>?_⟩
  constructor
  ·intro e
   dsimp only at e
   split at e
   ·rename_i h
    cases e
    exact h.choose_spec
   ·cases e
  ·rintro ⟨n,e⟩
   have h:∃r n,iter P n c=some r:=⟨r,n,e⟩
   dsimp only
   rw[dif_pos h]
   obtain⟨k,e'⟩:=h.choose_spec
   have a:=iter_le e (Nat.le_max_left n k)
   have b:=iter_le e' (Nat.le_max_right n k)
   rw[a] at b
   exact b.symm
 obtain⟨f,hf⟩:=key
 refine⟨f,fun c=>?_,fun c r h=>(hf c r).mp h⟩
 have hle:∀n c r,iter P n c=some r→f c=some r:=fun n c r e=>(hf c r).mpr ⟨n,e⟩
 apply Option.ext
 intro r
 constructor
 ·intro e
  obtain⟨n,e⟩:=(hf c r).mp e
  cases n with
  |zero=>cases e
  |succ n=>exact run_mono (fun c r h=>hle n c r h) e
 ·intro e
  refine (hf c r).mpr ?_
  unfold run at e
  split at e
  ·cases e
  ·rename_i q hq
   exact⟨1,by simp only[iter,run,hq];exact e⟩
  ·rename_i c' hq
   obtain⟨n,h⟩:=(hf _ _).mp e
   exact⟨n+1,by simp only[iter,run,hq];exact h⟩
  ·rename_i q hq
   obtain⟨x,h1,h2⟩:=Option.bind_eq_some_iff.mp e
   obtain⟨n,h1⟩:=(hf _ _).mp h1
   obtain⟨k,h2⟩:=(hf _ _).mp h2
   exact⟨max n k+1,by
    simp only[iter,run,hq]
    rw[iter_le h1 (Nat.le_max_left n k)]
    exact iter_le h2 (Nat.le_max_right n k)⟩
end Fix
def setL:List Value→Nat→Value→List Value
 |[],0,v=>[v]
 |[],n+1,v => .null::setL [] n v
 |_::r,0,v=>v::r
 |x::r,n+1,v=>x::setL r n v
def nolong:Value→Value
 | .long _ => .null
 | .double _ => .null
 |v=>v
def clrL:List Value→Nat→List Value
 |[],_=>[]
 |x::r,0=>nolong x::r
 |x::r,n+1=>x::clrL r n
def st1(ls:List Value)(i:Nat)(v:Value):List Value:=match i with
 |0=>setL ls 0 v
 |j+1=>setL (clrL ls j) (j+1) v
def st2(ls:List Value)(i:Nat)(v:Value):List Value:=setL (st1 ls i v) (i+1) .null
def entL:List Value→List Value
 |[]=>[]
 | .long v::r => .long v :: .null::entL r
 |v::r=>v::entL r
def ii(g:Int32→Int32→Int32):List Value→Option (List Value)
 | .int y :: .int x::r=>some (.int (g x y)::r)
 |_=>none
def iz(g:Int32→Int32→Int32):List Value→Option (List Value)
 | .int y :: .int x::r=>if y=0 then none else some (.int (g x y)::r)
 |_=>none
def ll(g:Int64→Int64→Int64):List Value→Option (List Value)
 | .long y :: .long x::r=>some (.long (g x y)::r)
 |_=>none
def lz(g:Int64→Int64→Int64):List Value→Option (List Value)
 | .long y :: .long x::r=>if y=0 then none else some (.long (g x y)::r)
 |_=>none
def li(g:Int64→Int32→Int64):List Value→Option (List Value)
 | .int y :: .long x::r=>some (.long (g x y)::r)
 |_=>none
def i1(g:Int32→Value):List Value→Option (List Value)
 | .int x::r=>some (g x::r)
 |_=>none
def l1(g:Int64→Value):List Value→Option (List Value)
 | .long x::r=>some (g x::r)
 |_=>none
def lc(g:Int64→Int64→Int32):List Value→Option (List Value)
 | .long y :: .long x::r=>some (.int (g x y)::r)
 |_=>none
def pop1:List Value→Option (List Value)
 | .int _::r=>some r
 | .ref _::r=>some r
 |_=>none
def dup1:List Value→Option (List Value)
 | .int x::r=>some (.int x :: .int x::r)
 | .ref x::r=>some (.ref x :: .ref x::r)
 |_=>none
def dup2':List Value→Option (List Value)
 | .int y :: .int x::r=>some (.int y :: .int x :: .int y :: .int x::r)
 | .int y :: .ref x::r=>some (.int y :: .ref x :: .int y :: .ref x::r)
 | .long x::r=>some (.long x :: .long x::r)
 |_=>none
def alu(i:Instr)(st:List Value):Option (List Value):=match i with
 | .iconst i=>some (.int (Int32.ofInt i)::st)
 | .lconst k=>some (.long (Int64.ofNat k)::st)
 | .ldc2_w n=>some (.long (Int64.ofNat n)::st)
 | .iadd=>ii (fun x y=>x+y) st
 | .isub=>ii (fun x y=>x-y) st
 | .imul=>ii (fun x y=>x*y) st
 | .idiv=>iz (fun x y=>x/y) st
 | .irem=>iz (fun x y=>x%y) st
 | .ineg=>i1 (fun x => .int (-x)) st
 | .iand=>ii (fun x y=>x&&&y) st
 | .ior=>ii (fun x y=>x|||y) st
 | .ixor=>ii (fun x y=>x^^^y) st
 | .ishl=>ii (fun x y=>x<<<(y&&&31)) st
 | .ishr=>ii (fun x y=>x>>>(y&&&31)) st
 | .iushr=>ii (fun x y=>XT.ushr x y) st
 | .ladd=>ll (fun x y=>x+y) st
 | .lsub=>ll (fun x y=>x-y) st
 | .lmul=>ll (fun x y=>x*y) st
 | .land=>ll (fun x y=>x&&&y) st
 | .lor=>ll (fun x y=>x|||y) st
 | .lxor=>ll (fun x y=>x^^^y) st
 | .lshl=>li (fun x y=>x<<<(y.toInt64&&&63)) st
 | .lushr=>li (fun x y=>XT.ushrL x y) st
 | .lrem=>lz (fun x y=>x%y) st
 | .lcmp=>lc (fun x y=>XT.cmpL x y) st
 | .i2l=>i1 (fun x => .long x.toInt64) st
 | .l2i=>l1 (fun x => .int x.toInt32) st
 | .i2b=>i1 (fun x => .int x.toInt8.toInt32) st
 | .pop=>pop1 st
 | .dup=>dup1 st
 | .dup2=>dup2' st
 |_=>none
def ldI(ls:List Value)(k:Nat):Option Value:=match ls[k]? with
 |some (.int v)=>some (.int v)
 |_=>none
def ldA(ls:List Value)(k:Nat):Option Value:=match ls[k]? with
 |some (.ref v)=>some (.ref v)
 |_=>none
def ldL(ls:List Value)(k:Nat):Option Value:=match ls[k]? with
 |some (.long v)=>some (.long v)
 |_=>none
def incI(ls:List Value)(k:Nat)(c:Int):Option (List Value):=match ls[k]? with
 |some (.int v)=>some (st1 ls k (.int (v+Int32.ofInt c)))
 |_=>none
def stI'(ls:List Value)(k:Nat):List Value→Option (List Value×List Value)
 | .int v::st=>some (st1 ls k (.int v),st)
 |_=>none
def stA'(ls:List Value)(k:Nat):List Value→Option (List Value×List Value)
 | .ref v::st=>some (st1 ls k (.ref v),st)
 |_=>none
def stL'(ls:List Value)(k:Nat):List Value→Option (List Value×List Value)
 | .long v::st=>some (st2 ls k (.long v),st)
 |_=>none
def loc(i:Instr)(ls st:List Value):Option (List Value×List Value):=match i with
 | .iload k=>(ldI ls k).map fun v=>(ls,v::st)
 | .aload k=>(ldA ls k).map fun v=>(ls,v::st)
 | .lload k=>(ldL ls k).map fun v=>(ls,v::st)
 | .istore k=>stI' ls k st
 | .astore k=>stA' ls k st
 | .lstore k=>stL' ls k st
 | .iinc k c=>(incI ls k c).map fun l=>(l,st)
 |i=>(alu i st).map fun st'=>(ls,st')
def cnd{β:Type}(c:ClassFile.Cond)(x y:Int32)(a b:β):β:=match c with
 | .eq=>if x=y then a else b
 | .ne=>if x=y then b else a
 | .lt=>if x<y then a else b
 | .ge=>if x<y then b else a
 | .gt=>if y<x then a else b
 | .le=>if y<x then b else a
def swc{β:Type}(x:Int32):Int→List Int→(Nat→β)→β→β
 |_,[],_,d=>d
 |lo,t::ts,k,d=>if x=Int32.ofInt lo then k t.toNat else swc x (lo+1) ts k d
def tk(kp:Option Nat)(ls:List Value):List Value:=match kp with
 |none=>ls
 |some k=>ls.take k
def takeA:Nat→List Value→List Value→Option (List Value×List Value)
 |0,acc,st=>some (acc,st)
 |n+1,acc,v::st=>takeA n (v::acc) st
 |_+1,_,[]=>none
def cats(st:List Value):Nat:=(st.map fun v=>v.category).sum
section Machine
variable {τ:Type}
abbrev Cfg(τ:Type):=Nat×Nat×List Value×List Value×τ
abbrev Res(τ:Type):=Option Value×τ
abbrev Codes:=Nat→Nat→Option (Instr×Nat×Option Nat)
abbrev Mop(τ:Type):=Nat→Instr→List Value→τ→Option (List Value×τ)
abbrev Cop:=Nat→Instr→List Value→Option (Nat×List Value×List Value)
def retV(t:Option FieldType)(i:Instr)(st:List Value):Option (Option Value):=match i with
 | .return_=>(match t,st with
  |none,[]=>some none
  |_,_=>none)
 | .ireturn=>(match t,st with
  |some .int,[.int v]=>some (some (.int v))
  |some .boolean,[.int v]=>some (some (.int (v&&&1)))
  |_,_=>none)
 | .lreturn=>(match t,st with
  |some .long,[.long v]=>some (some (.long v))
  |_,_=>none)
 |_=>none
def rest(rt:Option FieldType)(mop:Mop τ)(cop:Cop)(m pn:Nat)(i:Instr)(ls st:List Value)(S:τ):Plan (Cfg τ) (Res τ):=
 match retV rt i st with
 |some v=>some (.inl (v,S))
 |none=>match loc i ls st with
  |some q=>some (.inr (.inl (m,pn,q.1,q.2,S)))
  |none=>match mop m i st S with
   |some q=>some (.inr (.inl (m,pn,ls,q.1,q.2)))
   |none=>match cop m i st with
    |some q=>some (.inr (.inr ((q.1,0,entL q.2.1,[],S),fun r=>(m,pn,ls,r.1.toList++q.2.2,r.2))))
    |none=>none
def pl1(m pn:Nat)(cd:ClassFile.Cond)(t:Nat)(ls:List Value)(S:τ):List Value→Plan (Cfg τ) (Res τ)
 | .int x::st=>some (.inr (.inl (cnd cd x 0 (m,t,ls,st,S) (m,pn,ls,st,S))))
 |_=>none
def pl2(m pn:Nat)(cd:ClassFile.Cond)(t:Nat)(ls:List Value)(S:τ):List Value→Plan (Cfg τ) (Res τ)
 | .int y :: .int x::st=>some (.inr (.inl (cnd cd x y (m,t,ls,st,S) (m,pn,ls,st,S))))
 |_=>none
def pl3(m d:Nat)(lo:Int)(ts:List Int)(ls:List Value)(S:τ):List Value→Plan (Cfg τ) (Res τ)
 | .int x::st=>some (.inr (.inl (swc x lo ts (fun t=>(m,t,ls,st,S)) (m,d,ls,st,S))))
 |_=>none
def plan(code:Codes)(rt:Nat→Option FieldType)(mop:Mop τ)(cop:Cop)(c:Cfg τ):Plan (Cfg τ) (Res τ):=
 match code c.1 c.2.1 with
 |none=>none
 |some q=>match q.1 with
  | .goto t=>some (.inr (.inl (c.1,t.toNat,tk q.2.2 c.2.2.1,c.2.2.2.1,c.2.2.2.2)))
  | .ifCond cd t=>pl1 c.1 q.2.1 cd t.toNat (tk q.2.2 c.2.2.1) c.2.2.2.2 c.2.2.2.1
  | .if_icmp cd t=>pl2 c.1 q.2.1 cd t.toNat (tk q.2.2 c.2.2.1) c.2.2.2.2 c.2.2.2.1
  | .tableswitch d lo _ ts=>pl3 c.1 d.toNat lo ts.toList (tk q.2.2 c.2.2.1) c.2.2.2.2 c.2.2.2.1
  |i=>rest (rt c.1) mop cop c.1 q.2.1 i (tk q.2.2 c.2.2.1) c.2.2.2.1 c.2.2.2.2
theorem cnd_map{β γ:Type}(g:β→γ)(c:ClassFile.Cond)(x y:Int32)(a b:β):g (cnd c x y a b)=cnd c x y (g a) (g b):=by
 cases c<;>simp only[cnd]<;>split<;>rfl
theorem swc_map{β γ:Type}(g:β→γ)(x:Int32)(k:Nat→β)(d:β):∀(ts:List Int) (lo:Int),g (swc x lo ts k d)=swc x lo ts (fun t=>g (k t)) (g d)
 |[],_=>rfl
 |t::ts,lo=>by
  simp only[swc]
  split
  ·rfl
  ·exact swc_map g x k d ts (lo+1)
end Machine
def lk{β:Type}(k:Nat):List (Nat×β)→Option β
 |[]=>none
 |q::r=>if q.1=k then some q.2 else lk k r
theorem lk_mem{β:Type}{k:Nat}{b:β}:∀ {l:List (Nat×β)},lk k l=some b→(k,b)∈l
 |[],h=>by cases h
 |q::r,h=>by
  simp only[lk] at h
  split at h
  ·rename_i e
   cases h
   subst e
   exact List.mem_cons_self ..
  ·exact List.mem_cons_of_mem _ (lk_mem h)
abbrev Tabs:=List (Nat×String×String×Nat)×List (Nat×Nat)×List (Nat×Nat)×List (Nat×Int32)×List (Nat×Int64)×List (Nat×Nat)×List (Nat×Nat)
def absT(pc:Nat)(o:Int):Option Int:=if 0≤(pc:Int)+o then some ((pc:Int)+o) else none
def lt(ml k:Nat)(i:Instr):Option Instr:=if k<ml then some i else none
def plain1:Instr→Bool
 | .lconst _ | .iadd | .isub | .imul | .idiv | .irem | .ineg | .iand | .ior | .ixor | .ishl | .ishr | .iushr | .ladd | .lsub | .lmul | .land | .lor | .lxor | .lshl | .lushr | .lrem | .lcmp | .i2l | .l2i | .i2b | .pop | .dup | .dup2=>true
 |_=>false
def heapy:Instr→Bool
 | .iaload | .iastore | .baload | .bastore | .arraylength | .ireturn | .lreturn | .return_=>true
 |_=>false
def canon(T:Tabs)(ml pc:Nat)(i:Instr):Option Instr:=match i with
 | .iload_n k=>some (.iload k.val)
 | .iload k=>some (.iload k)
 | .aload_n k=>some (.aload k.val)
 | .aload k=>some (.aload k)
 | .lload_n k=>some (.lload k.val)
 | .lload k=>some (.lload k)
 | .istore_n k=>lt ml k.val (.istore k.val)
 | .istore k=>lt ml k (.istore k)
 | .astore_n k=>lt ml k.val (.astore k.val)
 | .astore k=>lt ml k (.astore k)
 | .lstore_n k=>lt ml (k.val+1) (.lstore k.val)
 | .lstore k=>lt ml (k+1) (.lstore k)
 | .iinc k c=>lt ml k (.iinc k c)
 | .iconst i=>some (.iconst i)
 | .bipush i=>some (.iconst (Int8.ofInt i).toInt32.toInt)
 | .sipush i=>some (.iconst (Int16.ofInt i).toInt32.toInt)
 | .ldc k=>(lk k T.2.2.2.1).map fun v => .iconst v.toInt
 | .ldc2_w k=>(lk k T.2.2.2.2.1).map fun v => .ldc2_w v.toUInt64.toNat
 | .goto o=>(absT pc o).map fun t => .goto t
 | .ifCond cd o=>(absT pc o).map fun t => .ifCond cd t
 | .if_icmp cd o=>(absT pc o).map fun t => .if_icmp cd t
 | .tableswitch d lo hi offs=>if (0≤(pc:Int)+d)∧(offs.all fun o=>decide (0≤(pc:Int)+o))=true∧(offs.size:Int)=hi-lo+1 ∧ -2147483648≤lo∧hi<2147483648 then some (.tableswitch (pc+d) lo hi (offs.map fun o=>(pc:Int)+o)) else none
 | .getfield k=>(lk k T.1).map fun q => .getfield q.2.2
 | .putfield k=>(lk k T.1).map fun q => .putfield q.2.2
 | .invokevirtual k=>(lk k T.2.1).map fun q => .invokevirtual q
 | .invokestatic k=>(lk k T.2.2.1).map fun q => .invokestatic q
 | .new k=>(lk k T.2.2.2.2.2.1).map fun q => .new q
 | .invokespecial k=>(lk k T.2.2.2.2.2.2).map fun q => .invokespecial q
 |i=>if plain1 i||heapy i then some i else none
def cv(ρ:Nat→Nat):Value→Value
 | .ref r => .ref (ρ r)
 |v=>v
def LocRel(ρ:Nat→Nat)(ls:List Value)(L:Array Slot):Prop:=∀(i:Nat) (v:Value),ls[i]? = some v→v ≠ .null→L[i]? = some (.val (cv ρ v))
def WFL(L:Array Slot):Prop:=(∀i:Nat,L[i]? = some .second→∃(j:Nat) (v:Value),i=j+1∧L[j]? = some (.val v)∧v.category=2)∧∀(i:Nat) (v:Value),L[i]? = some (.val v)→v.category=2→L[i+1]? = some .second
theorem setL_get(v:Value):∀(ls:List Value) (k i:Nat) (w:Value),(setL ls k v)[i]? = some w→(i=k∧w=v)∨(i≠k∧(w = .null∨ls[i]? = some w))
 |[],0,i,w,h=>by
  cases i with
  |zero=>simp[setL] at h;exact Or.inl ⟨rfl,h.symm⟩
  |succ i=>simp[setL] at h
 |[],k+1,i,w,h=>by
  cases i with
  |zero=>simp[setL] at h;exact Or.inr ⟨by omega,Or.inl h.symm⟩
  |succ i=>
   simp[setL] at h
   rcases setL_get v [] k i w h with⟨a,b⟩ | ⟨a,b⟩
   ·exact Or.inl ⟨by omega,b⟩
   ·exact Or.inr ⟨by omega,b.imp id (fun q=>by simp at q)⟩
 |x::r,0,i,w,h=>by
  cases i with
  |zero=>simp[setL] at h;exact Or.inl ⟨rfl,h.symm⟩
  |succ i=>simp[setL] at h;exact Or.inr ⟨by omega,Or.inr (by simpa using h)⟩
 |x::r,k+1,i,w,h=>by
  cases i with
  |zero=>simp[setL] at h;exact Or.inr ⟨by omega,Or.inr (by simpa using h)⟩
  |succ i=>
   simp[setL] at h
   rcases setL_get v r k i w h with⟨a,b⟩ | ⟨a,b⟩
   ·exact Or.inl ⟨by omega,b⟩
   ·exact Or.inr ⟨by omega,b.imp id (fun q=>by simpa using q)⟩
theorem clrL_get:∀(ls:List Value) (k i:Nat) (w:Value),(clrL ls k)[i]? = some w→w ≠ .null→ls[i]? = some w∧(i=k→w.category=1)
 |[],k,i,w,h,_=>by simp[clrL] at h
 |x::r,0,i,w,h,hn=>by
  cases i with
  |zero=>
   simp[clrL] at h
   cases x<;>simp[nolong] at h<;>subst h<;>first | exact absurd rfl hn | exact⟨rfl,fun _=>rfl⟩
  |succ i=>simp[clrL] at h;exact⟨by simpa using h,fun q=>by omega⟩
 |x::r,k+1,i,w,h,hn=>by
  cases i with
  |zero=>simp[clrL] at h;exact⟨by simpa using h,fun q=>by omega⟩
  |succ i=>
   simp[clrL] at h
   obtain⟨a,b⟩:=clrL_get r k i w h hn
   exact⟨by simpa using a,fun q=>b (by omega)⟩
theorem setAt_in{L:Array Slot}{i:Nat}(h:i<L.size)(x:Slot):setAt L i x=some (L.setIfInBounds i x):=by simp[setAt,h]
theorem get_set_ne{L:Array Slot}{i j:Nat}(h:i≠j)(x:Slot):(L.setIfInBounds i x)[j]? = L[j]? := Array.getElem?_setIfInBounds_ne h
theorem get_set_eq{L:Array Slot}{i:Nat}(h:i<L.size)(x:Slot):(L.setIfInBounds i x)[i]? = some x:=by simp[h]
theorem free_rel {ρ : Nat → Nat} {ls : List Value} {L : Array Slot} {k : Nat} (R : LocRel ρ ls L) (W : WFL L) (hk : k < L.size) :
    ∃ L1 : Array Slot, L1.size = L.size ∧ (∀ w, storeLocals L k w = storeSelf L1 k w) ∧ WFL (L1.setIfInBounds k .unset) ∧ (∀ i, i ≠ k → L1[i]? = L[i]? ∨ L1[i]? = some .unset) ∧
      ∀ (i : Nat) (v : Value), i ≠ k → ls[i]? = some v → v ≠ .null → (i + 1 = k → v.category = 1) → L1[i]? = some (.val (cv ρ v)) := by
  have cvc : ∀ v : Value, (cv ρ v).category = v.category := fun v => by cases v <;> rfl
  obtain ⟨x, hx⟩ : ∃ x, L[k]? = some x := ⟨L[k], by simp [hk]⟩
  cases x with
  | unset =>
    refine ⟨L, rfl, fun w => by simp [storeLocals, hx], ⟨fun i h => ?_, fun i v h hc => ?_⟩, fun i _ => Or.inl rfl, fun i v hi h hn _ => R i v h hn⟩
    · by_cases e : k = i
      · subst e; rw [get_set_eq hk] at h; cases h
      · rw [get_set_ne e] at h
        obtain ⟨j, v, e1, e2, e3⟩ := W.1 i h
        refine ⟨j, v, e1, ?_, e3⟩
        by_cases q : k = j
        · subst q; rw [hx] at e2; cases e2
        · rw [get_set_ne q]; exact e2
    · by_cases e : k = i
      · subst e; rw [get_set_eq hk] at h; cases h
      · rw [get_set_ne e] at h
        have := W.2 i v h hc
        by_cases q : k = i + 1
        · subst q; rw [hx] at this; cases this
        · rw [get_set_ne q]; exact this
  | second =>
    obtain ⟨j, v0, rfl, e2, e3⟩ := W.1 k hx
    have hj : j < L.size := by omega
    refine ⟨L.setIfInBounds j .unset, by simp, fun w => by simp [storeLocals, hx, setAt_in hj], ⟨fun i h => ?_, fun i v h hc => ?_⟩, fun i _ => ?_, fun i v hi h hn hc => ?_⟩
    · by_cases e : j + 1 = i
      · subst e; rw [get_set_eq (by simpa using hk)] at h; cases h
      · rw [get_set_ne e] at h
        by_cases q : j = i
        · subst q; rw [get_set_eq hj] at h; cases h
        · rw [get_set_ne q] at h
          obtain ⟨j', v, f1, f2, f3⟩ := W.1 i h
          refine ⟨j', v, f1, ?_, f3⟩
          have g1 : j + 1 ≠ j' := fun q' => by subst q'; rw [hx] at f2; cases f2
          have g2 : j ≠ j' := fun q' => by subst q'; exact e f1.symm
          rw [get_set_ne g1, get_set_ne g2]; exact f2
    · by_cases e : j + 1 = i
      · subst e; rw [get_set_eq (by simpa using hk)] at h; cases h
      · rw [get_set_ne e] at h
        by_cases q : j = i
        · subst q; rw [get_set_eq hj] at h; cases h
        · rw [get_set_ne q] at h
          have t := W.2 i v h hc
          have g1 : j + 1 ≠ i + 1 := by omega
          have g2 : j ≠ i + 1 := fun q' => by subst q'; rw [e2] at t; cases t
          rw [get_set_ne g1, get_set_ne g2]; exact t
    · by_cases q : j = i
      · subst q; exact Or.inr (get_set_eq hj _)
      · exact Or.inl (get_set_ne q _)
    · by_cases q : j = i
      · subst q
        have := R j v h hn
        rw [e2] at this
        have e4 : v0 = cv ρ v := by simpa using this
        rw [e4, cvc, hc rfl] at e3; cases e3
      · rw [get_set_ne q]; exact R i v h hn
  | val old =>
    by_cases hc2 : old.category = 2
    · have hs := W.2 k old hx hc2
      have hk1 : k + 1 < L.size := (Array.getElem?_eq_some_iff.mp hs).1
      refine ⟨L.setIfInBounds (k + 1) .unset, by simp, fun w => by simp [storeLocals, hx, setAt_in hk1, hc2], ⟨fun i h => ?_, fun i v h hc => ?_⟩, fun i _ => ?_, fun i v hi h hn hc => ?_⟩
      · by_cases e : k = i
        · subst e; rw [get_set_eq (by simpa using hk)] at h; cases h
        · rw [get_set_ne e] at h
          by_cases q : k + 1 = i
          · subst q; rw [get_set_eq hk1] at h; cases h
          · rw [get_set_ne q] at h
            obtain ⟨j', v, f1, f2, f3⟩ := W.1 i h
            refine ⟨j', v, f1, ?_, f3⟩
            have g1 : k ≠ j' := fun q' => by subst q'; exact q f1.symm
            have g2 : k + 1 ≠ j' := fun q' => by subst q'; rw [hs] at f2; cases f2
            rw [get_set_ne g1, get_set_ne g2]; exact f2
      · by_cases e : k = i
        · subst e; rw [get_set_eq (by simpa using hk)] at h; cases h
        · rw [get_set_ne e] at h
          by_cases q : k + 1 = i
          · subst q; rw [get_set_eq hk1] at h; cases h
          · rw [get_set_ne q] at h
            have t := W.2 i v h hc
            have g1 : k ≠ i + 1 := fun q' => by subst q'; rw [hx] at t; cases t
            have g2 : k + 1 ≠ i + 1 := by omega
            rw [get_set_ne g1, get_set_ne g2]; exact t
      · by_cases q : k + 1 = i
        · subst q; exact Or.inr (get_set_eq hk1 _)
        · exact Or.inl (get_set_ne q _)
      · by_cases q : k + 1 = i
        · subst q
          have := R _ v h hn
          rw [hs] at this; cases this
        · rw [get_set_ne q]; exact R i v h hn
    · refine ⟨L, rfl, fun w => by simp [storeLocals, hx, hc2], ⟨fun i h => ?_, fun i v h hc => ?_⟩, fun i _ => Or.inl rfl, fun i v hi h hn _ => R i v h hn⟩
      · by_cases e : k = i
        · subst e; rw [get_set_eq hk] at h; cases h
        · rw [get_set_ne e] at h
          obtain ⟨j, v, e1, e2, e3⟩ := W.1 i h
          refine ⟨j, v, e1, ?_, e3⟩
          by_cases q : k = j
          · subst q; rw [hx] at e2; cases e2; exact absurd e3 hc2
          · rw [get_set_ne q]; exact e2
      · by_cases e : k = i
        · subst e; rw [get_set_eq hk] at h; cases h
        · rw [get_set_ne e] at h
          have := W.2 i v h hc
          by_cases q : k = i + 1
          · subst q; rw [hx] at this; cases this
          · rw [get_set_ne q]; exact this
theorem st1_get{ls:List Value}{k i:Nat}{v w:Value}(h:(st1 ls k v)[i]? = some w)(hn:w ≠ .null):(i=k∧w=v)∨(i≠k∧ls[i]? = some w∧(i+1=k→w.category=1)):=by
 cases k with
 |zero=>
  rcases setL_get v ls 0 i w h with q | ⟨q1,q2 | q2⟩
  ·exact Or.inl q
  ·exact absurd q2 hn
  ·exact Or.inr ⟨q1,q2,fun q=>by omega⟩
 |succ k=>
  rcases setL_get v (clrL ls k) (k+1) i w h with q | ⟨q1,q2 | q2⟩
  ·exact Or.inl q
  ·exact absurd q2 hn
  ·obtain⟨a,b⟩:=clrL_get ls k i w q2 hn
   exact Or.inr ⟨q1,a,fun q=>b (by omega)⟩
theorem store1{ρ:Nat→Nat}{ls:List Value}{L:Array Slot}{k:Nat}{v:Value}(R:LocRel ρ ls L)(W:WFL L)(hk:k<L.size)(hv:v.category=1) :
  ∃L',storeLocals L k (cv ρ v)=some L'∧LocRel ρ (st1 ls k v) L'∧WFL L'∧L'.size=L.size:=by
 have cvc:(cv ρ v).category=1:=by cases v<;>first | rfl | exact hv
 obtain⟨L1,z,hs,wf,hu,hl⟩:=free_rel R W hk
 have hk1:k<L1.size:=by omega
 refine⟨L1.setIfInBounds k (.val (cv ρ v)),by rw[hs];simp[storeSelf,setAt_in hk1,cvc],fun i w h hn=>?_,⟨fun i h=>?_,fun i w h hc=>?_⟩,by simp[z]⟩
 ·rcases st1_get h hn with⟨rfl,rfl⟩ | ⟨a,b,c⟩
  ·exact get_set_eq hk1 _
  ·rw[get_set_ne (Ne.symm a)];exact hl i w a b hn c
 ·by_cases e:k=i
  ·subst e;rw[get_set_eq hk1] at h;cases h
  ·rw[get_set_ne e] at h
   obtain⟨j,w,e1,e2,e3⟩:=wf.1 i (by rw[get_set_ne e];exact h)
   refine⟨j,w,e1,?_,e3⟩
   by_cases q:k=j
   ·subst q;rw[get_set_eq hk1] at e2;cases e2
   ·rw[get_set_ne q] at e2 ⊢;exact e2
 ·by_cases e:k=i
  ·subst e
   rw[get_set_eq hk1] at h
   have:cv ρ v=w:=by simpa using h
   rw[←this,cvc] at hc;cases hc
  ·rw[get_set_ne e] at h
   have t:=wf.2 i w (by rw[get_set_ne e];exact h) hc
   by_cases q:k=i+1
   ·rw[q,get_set_eq (by omega)] at t;cases t
   ·rw[get_set_ne q] at t ⊢;exact t
theorem store2{ρ:Nat→Nat}{ls:List Value}{L:Array Slot}{k:Nat}{x:Int64}(R:LocRel ρ ls L)(W:WFL L)(hk:k+1<L.size) :
  ∃L',storeLocals L k (.long x)=some L'∧LocRel ρ (st2 ls k (.long x)) L'∧WFL L'∧L'.size=L.size:=by
 obtain⟨L1,z,hs,wf,hu,hl⟩:=free_rel R W (by omega:k<L.size)
 have hk0:k<L1.size:=by omega
 have hk1:k+1<L1.size:=by omega
 have hk1':k+1<(L1.setIfInBounds k (.val (.long x))).size:=by simpa using hk1
 have e1:(L1.setIfInBounds k (.val (.long x)))[k+1]? = L1[k+1]? := get_set_ne (by omega) _
 have ns:L1[k+1]? ≠ some .second:=fun q=>by
  obtain⟨j,w,f1,f2,f3⟩:=wf.1 (k+1) (by rw[get_set_ne (by omega)];exact q)
  have:j=k:=by omega
  subst this
  rw[get_set_eq hk0] at f2;cases f2
 have key:∃L2:Array Slot,storeSelf L1 k (.long x)=some (L2.setIfInBounds (k+1) .second)∧L2.size=L.size∧L2[k]? = some (.val (.long x))∧(∀i,i≠k→i≠k+1→i≠k+2→L2[i]? = L1[i]?) ∧
   ((L2[k+2]? = L1[k+2]? ∧ ∀w,L1[k+1]? = some (.val w)→w.category≠2)∨(L2[k+2]? = some .unset∧L1[k+2]? = some .second)):=by
  obtain⟨y,hy⟩:∃y,L1[k+1]? = some y:=⟨L1[k+1],by simp[hk1]⟩
  cases y with
  |second=>exact absurd hy ns
  |unset=>
   refine⟨L1.setIfInBounds k (.val (.long x)),by simp[storeSelf,setAt_in hk0,Value.category,e1,hy,setAt_in hk1'],by simp[z],get_set_eq hk0 _,fun i a b c=>get_set_ne (Ne.symm a) _,Or.inl ⟨get_set_ne (by omega) _,fun w q=>by rw[hy] at q;cases q⟩⟩
  |val old=>
   by_cases hc:old.category=2
   ·have t:=wf.2 (k+1) old (by rw[get_set_ne (by omega)];exact hy) hc
    rw[get_set_ne (by omega)] at t
    have hk2:k+2<L1.size:=(Array.getElem?_eq_some_iff.mp t).1
    refine⟨(L1.setIfInBounds k (.val (.long x))).setIfInBounds (k+2) .unset,?_,by simp[z],by rw[get_set_ne (by omega)];exact get_set_eq hk0 _,fun i a b c=>by rw[get_set_ne (Ne.symm c),get_set_ne (Ne.symm a)],Or.inr ⟨get_set_eq (by simpa using hk2) _,t⟩⟩
    simp[storeSelf,setAt,hk0,show (Value.long x).category=2 from rfl,e1,hc,hk1,hk2]
    rw[(Array.getElem?_eq_some_iff.mp hy).2]
    simp[hc]
   ·refine⟨L1.setIfInBounds k (.val (.long x)),?_,by simp[z],get_set_eq hk0 _,fun i a b c=>get_set_ne (Ne.symm a) _,Or.inl ⟨get_set_ne (by omega) _,fun w q=>by rw[hy] at q;cases q;exact hc⟩⟩
    simp[storeSelf,setAt,hk0,show (Value.long x).category=2 from rfl,e1,hc,hk1]
    rw[(Array.getElem?_eq_some_iff.mp hy).2]
    simp[hc]
 obtain⟨L2,s2,z2,g0,gi,g2⟩:=key
 have hk2:k+1<L2.size:=by omega
 refine⟨L2.setIfInBounds (k+1) .second,by rw[hs];exact s2,fun i w h hn=>?_,⟨fun i h=>?_,fun i w h hc=>?_⟩,by simp[z2]⟩
 ·rcases setL_get .null _ _ _ _ h with⟨a,b⟩ | ⟨a,b | b⟩
  ·exact absurd b hn
  ·exact absurd b hn
  ·rw[get_set_ne (Ne.symm a)]
   rcases st1_get b hn with⟨rfl,rfl⟩ | ⟨a',b',c'⟩
   ·exact g0
   ·have t:=hl i w a' b' hn c'
    by_cases q:i=k+2
    ·subst q
     rcases g2 with⟨q1,-⟩ | ⟨-,q2⟩
     ·rw[q1];exact t
     ·rw[q2] at t;cases t
    ·rw[gi i a' a q];exact t
 ·by_cases e:k+1=i
  ·subst e;exact⟨k,.long x,rfl,by rw[get_set_ne (by omega)];exact g0,rfl⟩
  ·rw[get_set_ne e] at h
   by_cases e0:i=k
   ·subst e0;rw[g0] at h;cases h
   ·have h':L1[i]? = some .second∧∀w,i=k+2→L1[k+1]? = some (.val w)→w.category≠2:=by
     by_cases q:i=k+2
     ·subst q
      rcases g2 with⟨q1,q3⟩ | ⟨q2,-⟩
      ·rw[q1] at h;exact⟨h,fun w _=>q3 w⟩
      ·rw[q2] at h;cases h
     ·rw[gi i e0 (Ne.symm e) q] at h;exact⟨h,fun w q'=>absurd q' q⟩
    obtain⟨j,w,f1,f2,f3⟩:=wf.1 i (by rw[get_set_ne (Ne.symm e0)];exact h'.1)
    have jk:j≠k:=by omega
    rw[get_set_ne (Ne.symm jk)] at f2
    have jk1:j≠k+1:=fun q=>by subst q;exact h'.2 w f1 f2 f3
    refine⟨j,w,f1,?_,f3⟩
    rw[get_set_ne (Ne.symm jk1)]
    by_cases q:j=k+2
    ·subst q
     rcases g2 with⟨q1,-⟩ | ⟨-,q2⟩
     ·rw[q1];exact f2
     ·rw[q2] at f2;cases f2
    ·rw[gi j jk jk1 q];exact f2
 ·by_cases e:k+1=i
  ·subst e;rw[get_set_eq hk2] at h;cases h
  ·rw[get_set_ne e] at h
   by_cases e0:i=k
   ·subst e0;exact get_set_eq hk2 _
   ·have h':L1[i]? = some (.val w):=by
     by_cases q:i=k+2
     ·subst q
      rcases g2 with⟨q1,-⟩ | ⟨q2,-⟩
      ·rw[q1] at h;exact h
      ·rw[q2] at h;cases h
     ·rw[gi i e0 (Ne.symm e) q] at h;exact h
    have t:=wf.2 i w (by rw[get_set_ne (Ne.symm e0)];exact h') hc
    have n1:i+1≠k:=fun q=>by rw[q,get_set_eq hk0] at t;cases t
    rw[get_set_ne (Ne.symm n1)] at t
    have n2:i+1≠k+1:=by omega
    rw[get_set_ne (Ne.symm n2)]
    by_cases q:i+1=k+2
    ·have:i=k+1:=by omega
     exact absurd this.symm e
    ·rw[gi (i+1) n1 n2 q];exact t
theorem ii_inv{g:Int32→Int32→Int32}{st st':List Value}(h:ii g st=some st'):∃x y r,st = .int y :: .int x::r∧st' = .int (g x y)::r:=by
 unfold ii at h;split at h
 ·cases h;exact⟨_,_,_,rfl,rfl⟩
 ·cases h
theorem iz_inv{g:Int32→Int32→Int32}{st st':List Value}(h:iz g st=some st'):∃x y r,y≠0∧st = .int y :: .int x::r∧st' = .int (g x y)::r:=by
 unfold iz at h;split at h
 ·split at h
  ·cases h
  ·rename_i q;cases h;exact⟨_,_,_,q,rfl,rfl⟩
 ·cases h
theorem ll_inv{g:Int64→Int64→Int64}{st st':List Value}(h:ll g st=some st'):∃x y r,st = .long y :: .long x::r∧st' = .long (g x y)::r:=by
 unfold ll at h;split at h
 ·cases h;exact⟨_,_,_,rfl,rfl⟩
 ·cases h
theorem lz_inv{g:Int64→Int64→Int64}{st st':List Value}(h:lz g st=some st'):∃x y r,y≠0∧st = .long y :: .long x::r∧st' = .long (g x y)::r:=by
 unfold lz at h;split at h
 ·split at h
  ·cases h
  ·rename_i q;cases h;exact⟨_,_,_,q,rfl,rfl⟩
 ·cases h
theorem li_inv{g:Int64→Int32→Int64}{st st':List Value}(h:li g st=some st'):∃x y r,st = .int y :: .long x::r∧st' = .long (g x y)::r:=by
 unfold li at h;split at h
 ·cases h;exact⟨_,_,_,rfl,rfl⟩
 ·cases h
theorem lc_inv{g:Int64→Int64→Int32}{st st':List Value}(h:lc g st=some st'):∃x y r,st = .long y :: .long x::r∧st' = .int (g x y)::r:=by
 unfold lc at h;split at h
 ·cases h;exact⟨_,_,_,rfl,rfl⟩
 ·cases h
theorem i1_inv{g:Int32→Value}{st st':List Value}(h:i1 g st=some st'):∃x r,st = .int x::r∧st'=g x::r:=by
 unfold i1 at h;split at h
 ·cases h;exact⟨_,_,rfl,rfl⟩
 ·cases h
theorem l1_inv{g:Int64→Value}{st st':List Value}(h:l1 g st=some st'):∃x r,st = .long x::r∧st'=g x::r:=by
 unfold l1 at h;split at h
 ·cases h;exact⟨_,_,rfl,rfl⟩
 ·cases h
section Sim
variable {p:Program} {l:Launch} {e:Env} {R:Room} {s:State} {m:MethodId} {args:Array Value} {below:List Frame} {meth:Method} {c:Code} {T:State} {locs:List Loc} {cells slots:Nat} {ρ:Nat→Nat}
set_option maxHeartbeats 4000000 in
theorem simAlu(X:Stand p l e R s m args below meth c T locs cells slots)(hx:p.tables.exec=Jvm.exec){pc:Nat}{i0:Instr}(hd:decode c.code pc = .ok (i0,1))(hp:plain1 i0=true){st st':List Value}(ha:alu i0 st=some st'){L:Array Slot}{target:State}
  (k:Steps p.tables e below (T.setTop (mkF m (pc+1) L (st'.map (cv ρ)))) target):Steps p.tables e below (T.setTop (mkF m pc L (st.map (cv ρ)))) target:=by
 cases i0<;>try (simp[plain1] at hp;done)
 case lconst j=>cases ha;exact XT.lconst X.here hx rfl hd k
 case iadd=>obtain⟨x,y,r,rfl,rfl⟩:=ii_inv ha;exact XS.iadd X.here hx rfl hd rfl k
 case isub=>obtain⟨x,y,r,rfl,rfl⟩:=ii_inv ha;exact XS.isub X.here hx rfl hd rfl k
 case imul=>obtain⟨x,y,r,rfl,rfl⟩:=ii_inv ha;exact XS.imul X.here hx rfl hd rfl k
 case idiv=>obtain⟨x,y,r,hy,rfl,rfl⟩:=iz_inv ha;exact XS.idiv X.here hx rfl hd rfl hy k
 case irem=>obtain⟨x,y,r,hy,rfl,rfl⟩:=iz_inv ha;exact iremM X hx rfl hd rfl hy k
 case ineg=>obtain⟨x,r,rfl,rfl⟩:=i1_inv ha;exact XS.ineg X.here hx rfl hd rfl k
 case iand=>obtain⟨x,y,r,rfl,rfl⟩:=ii_inv ha;exact XS.iand X.here hx rfl hd rfl k
 case ior=>obtain⟨x,y,r,rfl,rfl⟩:=ii_inv ha;exact XT.ior X.here hx rfl hd rfl k
 case ixor=>obtain⟨x,y,r,rfl,rfl⟩:=ii_inv ha;exact XT.ixor X.here hx rfl hd rfl k
 case ishl=>obtain⟨x,y,r,rfl,rfl⟩:=ii_inv ha;exact XT.ishl X.here hx rfl hd rfl k
 case ishr=>obtain⟨x,y,r,rfl,rfl⟩:=ii_inv ha;exact XT.ishr X.here hx rfl hd rfl k
 case iushr=>obtain⟨x,y,r,rfl,rfl⟩:=ii_inv ha;exact XT.iushr X.here hx rfl hd rfl k
 case ladd=>obtain⟨x,y,r,rfl,rfl⟩:=ll_inv ha;exact XT.ladd X.here hx rfl hd rfl k
 case lsub=>obtain⟨x,y,r,rfl,rfl⟩:=ll_inv ha;exact XT.lsub X.here hx rfl hd rfl k
 case lmul=>obtain⟨x,y,r,rfl,rfl⟩:=ll_inv ha;exact XT.lmul X.here hx rfl hd rfl k
 case land=>obtain⟨x,y,r,rfl,rfl⟩:=ll_inv ha;exact XT.land X.here hx rfl hd rfl k
 case lor=>obtain⟨x,y,r,rfl,rfl⟩:=ll_inv ha;exact XT.lor X.here hx rfl hd rfl k
 case lxor=>obtain⟨x,y,r,rfl,rfl⟩:=ll_inv ha;exact XT.lxor X.here hx rfl hd rfl k
 case lshl=>obtain⟨x,y,r,rfl,rfl⟩:=li_inv ha;exact XT.lshl X.here hx rfl hd rfl k
 case lushr=>obtain⟨x,y,r,rfl,rfl⟩:=li_inv ha;exact XT.lushr X.here hx rfl hd rfl k
 case lrem=>
  obtain⟨x,y,r,hy,rfl,rfl⟩:=lz_inv ha
  have k':Steps p.tables e below (T.setTop (mkF m (pc+1) L (.long (x-x/y*y)::r.map (cv ρ)))) target:=by rw[lrem_mod];exact k
  exact XT.lrem X.here hx rfl hd rfl hy k'
 case lcmp=>obtain⟨x,y,r,rfl,rfl⟩:=lc_inv ha;exact XT.lcmp X.here hx rfl hd rfl k
 case i2l=>obtain⟨x,r,rfl,rfl⟩:=i1_inv ha;exact XT.i2l X.here hx rfl hd rfl k
 case l2i=>obtain⟨x,r,rfl,rfl⟩:=l1_inv ha;exact XT.l2i X.here hx rfl hd rfl k
 case i2b=>obtain⟨x,r,rfl,rfl⟩:=i1_inv ha;exact XT.i2b X.here hx rfl hd rfl k
 case pop=>
  simp only[alu,pop1] at ha
  split at ha
  ·cases ha;exact XT.pop X.here hx rfl hd rfl rfl k
  ·cases ha;exact XT.pop X.here hx rfl hd rfl rfl k
  ·cases ha
 case dup=>
  simp only[alu,dup1] at ha
  split at ha
  ·cases ha;exact XS.dup X.here hx rfl hd rfl rfl k
  ·cases ha;exact XS.dup X.here hx rfl hd rfl rfl k
  ·cases ha
 case dup2=>
  simp only[alu,dup2'] at ha
  split at ha
  ·cases ha;exact XT.dup2 X.here hx rfl hd rfl rfl rfl k
  ·cases ha;exact XT.dup2 X.here hx rfl hd rfl rfl rfl k
  ·cases ha;exact XT.dup2L X.here hx rfl hd rfl k
  ·cases ha
def ilen:Instr→Nat
 | .iload _ | .aload _ | .lload _ | .istore _ | .astore _ | .lstore _ | .bipush _ | .ldc _=>2
 | .iinc _ _ | .sipush _ | .ldc2_w _ | .goto _ | .ifCond _ _ | .if_icmp _ _ | .getfield _ | .putfield _ | .invokevirtual _ | .invokestatic _ | .invokespecial _ | .new _=>3
 |_=>1
def lenOK(i:Instr)(len:Nat):Bool:=match i with
 | .tableswitch _ _ _ _=>true
 |i=>len==ilen i
theorem lt_inv{ml k:Nat}{i j:Instr}(h:lt ml k i=some j):k<ml∧i=j:=by
 unfold lt at h;split at h
 ·cases h;exact⟨by assumption,rfl⟩
 ·cases h
theorem ldI_inv{ls:List Value}{k:Nat}{v:Value}(h:ldI ls k=some v):∃x,v = .int x∧ls[k]? = some (.int x):=by
 unfold ldI at h;split at h
 ·cases h;exact⟨_,rfl,by assumption⟩
 ·cases h
theorem ldA_inv{ls:List Value}{k:Nat}{v:Value}(h:ldA ls k=some v):∃x,v = .ref x∧ls[k]? = some (.ref x):=by
 unfold ldA at h;split at h
 ·cases h;exact⟨_,rfl,by assumption⟩
 ·cases h
theorem ldL_inv{ls:List Value}{k:Nat}{v:Value}(h:ldL ls k=some v):∃x,v = .long x∧ls[k]? = some (.long x):=by
 unfold ldL at h;split at h
 ·cases h;exact⟨_,rfl,by assumption⟩
 ·cases h
theorem incI_inv{ls:List Value}{k:Nat}{c:Int}{ls':List Value}(h:incI ls k c=some ls'):∃x,ls[k]? = some (.int x)∧ls'=st1 ls k (.int (x+Int32.ofInt c)):=by
 unfold incI at h;split at h
 ·cases h;exact⟨_,by assumption,rfl⟩
 ·cases h
theorem stI_inv{ls st:List Value}{k:Nat}{q:List Value×List Value}(h:stI' ls k st=some q):∃x r,st = .int x::r∧q=(st1 ls k (.int x),r):=by
 unfold stI' at h;split at h
 ·cases h;exact⟨_,_,rfl,rfl⟩
 ·cases h
theorem stA_inv{ls st:List Value}{k:Nat}{q:List Value×List Value}(h:stA' ls k st=some q):∃x r,st = .ref x::r∧q=(st1 ls k (.ref x),r):=by
 unfold stA' at h;split at h
 ·cases h;exact⟨_,_,rfl,rfl⟩
 ·cases h
theorem stL_inv{ls st:List Value}{k:Nat}{q:List Value×List Value}(h:stL' ls k st=some q):∃x r,st = .long x::r∧q=(st2 ls k (.long x),r):=by
 unfold stL' at h;split at h
 ·cases h;exact⟨_,_,rfl,rfl⟩
 ·cases h
end Sim
section Sim
variable {p:Program} {l:Launch} {e:Env} {R:Room} {s:State} {m:MethodId} {args:Array Value} {below:List Frame} {meth:Method} {c:Code} {T:State} {locs:List Loc} {cells slots:Nat} {ρ:Nat→Nat}
def Cst(Tb:Tabs)(Z:State)(a0:Array Value)(own:String):Prop:=(∀k v,(k,v)∈Tb.2.2.2.1→(Cond.constant own k v).before a0 Z=true)∧∀k v,(k,v)∈Tb.2.2.2.2.1→(Cond.constantLong own k v).before a0 Z=true
theorem cst1{Z:State}{a0:Array Value}(hZ:Z.Warmed39 s.vm){own:String}{Tb:Tabs}(hC:Cst Tb Z a0 own){j:Nat}{w:Int32}(hw:lk j Tb.2.2.2.1=some w):(Cond.constant own j w).before args s=true:=by
 have h:=hC.1 _ _ (lk_mem hw)
 exact mvT hZ h
theorem cst2{Z:State}{a0:Array Value}(hZ:Z.Warmed39 s.vm){own:String}{Tb:Tabs}(hC:Cst Tb Z a0 own){j:Nat}{w:Int64}(hw:lk j Tb.2.2.2.2.1=some w):(Cond.constantLong own j w).before args s=true:=by
 have h:=hC.2 _ _ (lk_mem hw)
 exact mvT hZ h
theorem own64(w:Int64):Int64.ofNat w.toUInt64.toNat=w:=by
 apply Int64.toBitVec_inj.mp
 simp
set_option maxHeartbeats 1000000 in
theorem simLoc (X : Stand p l e R s m args below meth c T locs cells slots) (hx : p.tables.exec = Jvm.exec) {Z : State} {a0 : Array Value} (hZ : Z.Warmed39 s.vm) {own : String} (hown : s.vm.findClass own = some m.cls) {Tb : Tabs} (hC : Cst Tb Z a0 own)
    {pc : Nat} {i0 i : Instr} {len : Nat} (hd : decode c.code pc = .ok (i0, len)) (ho : lenOK i0 len = true) {L : Array Slot} (hc : canon Tb L.size pc i0 = some i) {ls st ls' st' : List Value} (hl : loc i ls st = some (ls', st')) (RL : LocRel ρ ls L) (W : WFL L) :
    ∃ L', LocRel ρ ls' L' ∧ WFL L' ∧ L'.size = L.size ∧ ∀ target, Steps p.tables e below (T.setTop (mkF m (pc + len) L' (st'.map (cv ρ)))) target → Steps p.tables e below (T.setTop (mkF m pc L (st.map (cv ρ)))) target := by
  have i32 : ∀ x : Int32, Int32.ofInt x.toInt = x := fun x => Int32.ofInt_toInt x
  cases i0
  case iload_n k =>
    cases hc; obtain rfl : len = 1 := by simpa [lenOK, ilen] using ho
    obtain ⟨v, h1, h2⟩ := Option.map_eq_some_iff.mp hl; cases h2
    obtain ⟨x, rfl, h3⟩ := ldI_inv h1
    exact ⟨L, RL, W, rfl, fun t k' => XS.iloadN X.here hx rfl hd (RL _ _ h3 (by simp)) k'⟩
  case iload k =>
    cases hc; obtain rfl : len = 2 := by simpa [lenOK, ilen] using ho
    obtain ⟨v, h1, h2⟩ := Option.map_eq_some_iff.mp hl; cases h2
    obtain ⟨x, rfl, h3⟩ := ldI_inv h1
    exact ⟨L, RL, W, rfl, fun t k' => XS.iload X.here hx rfl hd (RL _ _ h3 (by simp)) k'⟩
  case aload_n k =>
    cases hc; obtain rfl : len = 1 := by simpa [lenOK, ilen] using ho
    obtain ⟨v, h1, h2⟩ := Option.map_eq_some_iff.mp hl; cases h2
    obtain ⟨x, rfl, h3⟩ := ldA_inv h1
    exact ⟨L, RL, W, rfl, fun t k' => XS.aloadN X.here hx rfl hd (RL _ _ h3 (by simp)) rfl k'⟩
  case aload k =>
    cases hc; obtain rfl : len = 2 := by simpa [lenOK, ilen] using ho
    obtain ⟨v, h1, h2⟩ := Option.map_eq_some_iff.mp hl; cases h2
    obtain ⟨x, rfl, h3⟩ := ldA_inv h1
    exact ⟨L, RL, W, rfl, fun t k' => XS.aload X.here hx rfl hd (RL _ _ h3 (by simp)) rfl k'⟩
  case lload_n k =>
    cases hc; obtain rfl : len = 1 := by simpa [lenOK, ilen] using ho
    obtain ⟨v, h1, h2⟩ := Option.map_eq_some_iff.mp hl; cases h2
    obtain ⟨x, rfl, h3⟩ := ldL_inv h1
    exact ⟨L, RL, W, rfl, fun t k' => XT.lloadN X.here hx rfl hd (RL _ _ h3 (by simp)) k'⟩
  case lload k =>
    cases hc; obtain rfl : len = 2 := by simpa [lenOK, ilen] using ho
    obtain ⟨v, h1, h2⟩ := Option.map_eq_some_iff.mp hl; cases h2
    obtain ⟨x, rfl, h3⟩ := ldL_inv h1
    exact ⟨L, RL, W, rfl, fun t k' => XT.lload X.here hx rfl hd (RL _ _ h3 (by simp)) k'⟩
  case istore_n k =>
    obtain ⟨hk, rfl⟩ := lt_inv hc; obtain rfl : len = 1 := by simpa [lenOK, ilen] using ho
    obtain ⟨x, r, rfl, h2⟩ := stI_inv hl; cases h2
    obtain ⟨L', q1, q2, q3, q4⟩ := store1 (v := .int x) RL W hk rfl
    exact ⟨L', q2, q3, q4, fun t k' => XS.istoreN X.here hx rfl hd rfl q1 k'⟩
  case istore k =>
    obtain ⟨hk, rfl⟩ := lt_inv hc; obtain rfl : len = 2 := by simpa [lenOK, ilen] using ho
    obtain ⟨x, r, rfl, h2⟩ := stI_inv hl; cases h2
    obtain ⟨L', q1, q2, q3, q4⟩ := store1 (v := .int x) RL W hk rfl
    exact ⟨L', q2, q3, q4, fun t k' => XS.istore X.here hx rfl hd rfl q1 k'⟩
  case astore_n k =>
    obtain ⟨hk, rfl⟩ := lt_inv hc; obtain rfl : len = 1 := by simpa [lenOK, ilen] using ho
    obtain ⟨x, r, rfl, h2⟩ := stA_inv hl; cases h2
    obtain ⟨L', q1, q2, q3, q4⟩ := store1 (v := .ref x) RL W hk rfl
    exact ⟨L', q2, q3, q4, fun t k' => XS.astoreN X.here hx rfl hd rfl rfl q1 k'⟩
  case astore k =>
    obtain ⟨hk, rfl⟩ := lt_inv hc; obtain rfl : len = 2 := by simpa [lenOK, ilen] using ho
    obtain ⟨x, r, rfl, h2⟩ := stA_inv hl; cases h2
    obtain ⟨L', q1, q2, q3, q4⟩ := store1 (v := .ref x) RL W hk rfl
    exact ⟨L', q2, q3, q4, fun t k' => XS.astore X.here hx rfl hd rfl rfl q1 k'⟩
  case lstore_n k =>
    obtain ⟨hk, rfl⟩ := lt_inv hc; obtain rfl : len = 1 := by simpa [lenOK, ilen] using ho
    obtain ⟨x, r, rfl, h2⟩ := stL_inv hl; cases h2
    obtain ⟨L', q1, q2, q3, q4⟩ := store2 (x := x) RL W hk
    exact ⟨L', q2, q3, q4, fun t k' => XT.lstoreN X.here hx rfl hd rfl q1 k'⟩
  case lstore k =>
    obtain ⟨hk, rfl⟩ := lt_inv hc; obtain rfl : len = 2 := by simpa [lenOK, ilen] using ho
    obtain ⟨x, r, rfl, h2⟩ := stL_inv hl; cases h2
    obtain ⟨L', q1, q2, q3, q4⟩ := store2 (x := x) RL W hk
    exact ⟨L', q2, q3, q4, fun t k' => XT.lstore X.here hx rfl hd rfl q1 k'⟩
  case iinc k cst =>
    obtain ⟨hk, rfl⟩ := lt_inv hc; obtain rfl : len = 3 := by simpa [lenOK, ilen] using ho
    obtain ⟨v, h1, h2⟩ := Option.map_eq_some_iff.mp hl; cases h2
    obtain ⟨x, h3, rfl⟩ := incI_inv h1
    obtain ⟨L', q1, q2, q3, q4⟩ := store1 (v := .int (x + Int32.ofInt cst)) RL W hk rfl
    exact ⟨L', q2, q3, q4, fun t k' => XS.iinc X.here hx rfl hd (RL _ _ h3 (by simp)) q1 k'⟩
  case iconst j =>
    cases hc; obtain rfl : len = 1 := by simpa [lenOK, ilen] using ho
    simp only [loc, alu, Option.map_some, Option.some.injEq, Prod.mk.injEq] at hl; obtain ⟨rfl, rfl⟩ := hl
    exact ⟨L, RL, W, rfl, fun t k' => XS.iconst X.here hx rfl hd k'⟩
  case bipush j =>
    cases hc; obtain rfl : len = 2 := by simpa [lenOK, ilen] using ho
    simp only [loc, alu, Option.map_some, Option.some.injEq, Prod.mk.injEq] at hl; obtain ⟨rfl, rfl⟩ := hl
    rw [i32]
    exact ⟨L, RL, W, rfl, fun t k' => XS.bipush X.here hx rfl hd k'⟩
  case sipush j =>
    cases hc; obtain rfl : len = 3 := by simpa [lenOK, ilen] using ho
    simp only [loc, alu, Option.map_some, Option.some.injEq, Prod.mk.injEq] at hl; obtain ⟨rfl, rfl⟩ := hl
    rw [i32]
    exact ⟨L, RL, W, rfl, fun t k' => XS.sipush X.here hx rfl hd k'⟩
  case ldc j =>
    obtain ⟨w, hw, hc⟩ := Option.map_eq_some_iff.mp hc; cases hc; obtain rfl : len = 2 := by simpa [lenOK, ilen] using ho
    simp only [loc, alu, Option.map_some, Option.some.injEq, Prod.mk.injEq] at hl; obtain ⟨rfl, rfl⟩ := hl
    rw [i32]
    exact ⟨L, RL, W, rfl, fun t k' => X.ldcInt hx hown (cst1 hZ hC hw) (g := mkF m pc L (st.map (cv ρ))) rfl hd _ k'⟩
  case ldc2_w j =>
    obtain ⟨w, hw, hc⟩ := Option.map_eq_some_iff.mp hc; cases hc; obtain rfl : len = 3 := by simpa [lenOK, ilen] using ho
    simp only [loc, alu, Option.map_some, Option.some.injEq, Prod.mk.injEq] at hl; obtain ⟨rfl, rfl⟩ := hl
    rw [own64]
    exact ⟨L, RL, W, rfl, fun t k' => X.ldc2Long hx hown (cst2 hZ hC hw) (g := mkF m pc L (st.map (cv ρ))) rfl hd _ k'⟩
  case tableswitch d lo hi offs =>
    simp only [canon] at hc
    split at hc
    · cases hc
      simp [loc, alu] at hl
    · cases hc
  all_goals first
    | (simp [canon, plain1, heapy] at hc; done)
    | (simp only [canon, plain1, heapy, Bool.or_false, Bool.or_true, Bool.false_or, if_true, Option.some.injEq] at hc
       subst hc
       simp only [loc] at hl
       obtain ⟨v, h1, h2⟩ := Option.map_eq_some_iff.mp hl
       first
         | (cases h1; done)
         | (simp only [alu] at h1; cases h1; done)
         | (cases h2
            obtain rfl : len = 1 := by simpa [lenOK, ilen] using ho
            exact ⟨L, RL, W, rfl, fun t k' => simAlu X hx hd rfl h1 k'⟩))
    | (simp only [canon] at hc
       first
         | (obtain ⟨w, hw, hc⟩ := Option.map_eq_some_iff.mp hc
            cases hc
            simp [loc, alu] at hl))
end Sim
theorem swc_spec{β:Type}(x:Int32)(k:Nat→β)(d:β):∀(ts:List Int) (lo:Int),-2147483648≤lo→lo+ts.length≤2147483648 →
  (∃t,lo≤x.toInt∧x.toInt<lo+ts.length∧ts[(x.toInt-lo).toNat]? = some t∧swc x lo ts k d=k t.toNat)∨((x.toInt<lo∨lo+ts.length≤x.toInt)∧swc x lo ts k d=d)
 |[],lo,_,_=>Or.inr ⟨by simp;omega,rfl⟩
 |t::ts,lo,h1,h2=>by
  simp only[List.length_cons] at h2
  have e:x=Int32.ofInt lo↔x.toInt=lo:=by
   constructor
   ·intro q;subst q;exact Int32.toInt_ofInt_of_le h1 (by omega)
   ·intro q;rw[←q,Int32.ofInt_toInt]
  simp only[swc]
  by_cases q:x=Int32.ofInt lo
  ·rw[if_pos q]
   have q':=e.mp q
   refine Or.inl ⟨t,by omega,by simp;omega,?_,rfl⟩
   rw[q'];simp
  ·rw[if_neg q]
   have q':x.toInt≠lo:=fun h=>q (e.mpr h)
   rcases swc_spec x k d ts (lo+1) (by omega) (by omega) with⟨t',a,b,c,f⟩ | ⟨a,b⟩
   ·refine Or.inl ⟨t',by omega,by simp;omega,?_,f⟩
    have:(x.toInt-lo).toNat=(x.toInt-(lo+1)).toNat+1:=by omega
    rw[this];simpa using c
   ·refine Or.inr ⟨?_,b⟩
    simp only[List.length_cons]
    omega
section Sim
variable {p:Program} {l:Launch} {e:Env} {R:Room} {s:State} {m:MethodId} {args:Array Value} {below:List Frame} {meth:Method} {c:Code} {T:State} {locs:List Loc} {cells slots:Nat} {ρ:Nat→Nat}
theorem cnd_pick{β:Type}(cd:ClassFile.Cond)(x y:Int32)(a b:β):cnd cd x y a b=if if_icmp.holds cd x y=true then a else b:=by
 cases cd
 ·by_cases h:x=y
  ·simp only[cnd];rw[if_pos h,(teq h).1,if_pos rfl]
  ·simp only[cnd,(feq h).1,h,if_false,Bool.false_eq_true]
 ·by_cases h:x=y
  ·simp only[cnd];rw[if_pos h,(teq h).2,if_neg (by decide)]
  ·simp only[cnd,(feq h).2,h,if_true,if_false]
 ·by_cases h:x<y
  ·simp only[cnd,(tlt h).1,h,if_true]
  ·simp only[cnd,(flt h).1,h,if_false,Bool.false_eq_true]
 ·by_cases h:x<y
  ·simp only[cnd,(tlt h).2.1,h,if_true,if_false,Bool.false_eq_true]
  ·simp only[cnd,(flt h).2.1,h,if_true,if_false]
 ·by_cases h:y<x
  ·simp only[cnd,(tlt h).2.2.1,h,if_true]
  ·simp only[cnd,(flt h).2.2.1,h,if_false,Bool.false_eq_true]
 ·by_cases h:y<x
  ·simp only[cnd,(tlt h).2.2.2,h,if_true,if_false,Bool.false_eq_true]
  ·simp only[cnd,(flt h).2.2.2,h,if_true,if_false]
theorem simGoto(X:Stand p l e R s m args below meth c T locs cells slots)(hx:p.tables.exec=Jvm.exec){Tb:Tabs}{ml pc len:Nat}{i0:Instr}{t:Int}(hd:decode c.code pc = .ok (i0,len))(ho:lenOK i0 len=true)(hc:canon Tb ml pc i0=some (.goto t)){L:Array Slot}{st:List Value}{target:State}
  (k:Steps p.tables e below (T.setTop (mkF m t.toNat L st)) target):Steps p.tables e below (T.setTop (mkF m pc L st)) target:=by
 cases i0<;>try (simp[canon,lt,plain1,heapy] at hc;done)
 case goto o=>
  obtain rfl:len=3:=by simpa [lenOK,ilen] using ho
  simp only[canon,absT] at hc
  split at hc
  ·rename_i q
   simp at hc;subst hc
   exact XS.goto X.here hx rfl rfl hd q rfl k
  ·cases hc
theorem simIf(X:Stand p l e R s m args below meth c T locs cells slots)(hx:p.tables.exec=Jvm.exec){Tb:Tabs}{ml pc len:Nat}{i0:Instr}{t:Int}{cd:ClassFile.Cond}(hd:decode c.code pc = .ok (i0,len))(ho:lenOK i0 len=true)(hc:canon Tb ml pc i0=some (.ifCond cd t)){L:Array Slot}{x:Int32}{st:List Value}{target:State}
  (k:Steps p.tables e below (T.setTop (mkF m (if if_icmp.holds cd x 0=true then t.toNat else pc+len) L st)) target):Steps p.tables e below (T.setTop (mkF m pc L (.int x::st))) target:=by
 cases i0<;>try (simp[canon,lt,plain1,heapy] at hc;done)
 case ifCond cd' o=>
  obtain rfl:len=3:=by simpa [lenOK,ilen] using ho
  simp only[canon,absT] at hc
  split at hc
  ·rename_i q
   simp at hc;obtain⟨rfl,rfl⟩:=hc
   by_cases h:if_icmp.holds cd' x 0=true
   ·rw[if_pos h] at k
    exact XS.ifYes X.here hx rfl rfl hd rfl (by rw[if0];exact h) q rfl k
   ·rw[if_neg h] at k
    exact XS.ifNo X.here hx rfl hd rfl (by rw[if0];simpa using h) k
  ·cases hc
theorem simIcmp(X:Stand p l e R s m args below meth c T locs cells slots)(hx:p.tables.exec=Jvm.exec){Tb:Tabs}{ml pc len:Nat}{i0:Instr}{t:Int}{cd:ClassFile.Cond}(hd:decode c.code pc = .ok (i0,len))(ho:lenOK i0 len=true)(hc:canon Tb ml pc i0=some (.if_icmp cd t)){L:Array Slot}{x y:Int32}{st:List Value}{target:State}
  (k:Steps p.tables e below (T.setTop (mkF m (if if_icmp.holds cd x y=true then t.toNat else pc+len) L st)) target):Steps p.tables e below (T.setTop (mkF m pc L (.int y :: .int x::st))) target:=by
 cases i0<;>try (simp[canon,lt,plain1,heapy] at hc;done)
 case if_icmp cd' o=>
  obtain rfl:len=3:=by simpa [lenOK,ilen] using ho
  simp only[canon,absT] at hc
  split at hc
  ·rename_i q
   simp at hc;obtain⟨rfl,rfl⟩:=hc
   by_cases h:if_icmp.holds cd' x y=true
   ·rw[if_pos h] at k
    exact XS.icmpYes X.here hx rfl rfl hd rfl h q rfl k
   ·rw[if_neg h] at k
    exact XS.icmpNo X.here hx rfl hd rfl (by simpa using h) k
  ·cases hc
theorem simSw(X:Stand p l e R s m args below meth c T locs cells slots)(hx:p.tables.exec=Jvm.exec){Tb:Tabs}{ml pc len:Nat}{i0:Instr}{d lo hi:Int}{ts:Array Int}(hd:decode c.code pc = .ok (i0,len))(hc:canon Tb ml pc i0=some (.tableswitch d lo hi ts)){L:Array Slot}{x:Int32}{st:List Value}{target:State}
  (k:Steps p.tables e below (T.setTop (mkF m (swc x lo ts.toList (fun t=>t) d.toNat) L st)) target):Steps p.tables e below (T.setTop (mkF m pc L (.int x::st))) target:=by
 cases i0<;>try (simp[canon,lt,plain1,heapy] at hc;done)
 case tableswitch d' lo' hi' offs=>
  simp only[canon] at hc
  split at hc
  ·rename_i q
   obtain⟨q1,q2,q3,q4,q5⟩:=q
   simp at hc;obtain⟨rfl,rfl,rfl,rfl⟩:=hc
   have hlen:((offs.map fun o=>(pc:Int)+o).toList.length:Int)=hi'-lo'+1:=by simpa using q3
   rcases swc_spec x (fun t=>t) ((pc:Int)+d').toNat (offs.map fun o=>(pc:Int)+o).toList lo' q4 (by omega) with⟨t,a,b,cc,f⟩ | ⟨a,b⟩
   ·rw[f] at k
    obtain⟨o,o1,o2⟩:∃o,offs[(x.toInt-lo').toNat]? = some o∧(pc:Int)+o=t:=by
     simpa using cc
    have hoff:0≤(pc:Int)+o:=by
     have:=Array.all_eq_true_iff_forall_mem.mp q2 o (Array.mem_of_getElem? o1)
     simpa using this
    exact XS.tswIn X.here hx rfl rfl hd rfl (by omega) o1 hoff (by rw[o2]) k
   ·rw[b] at k
    exact XS.tswOut X.here hx rfl rfl hd rfl (by omega) q1 rfl k
  ·cases hc
theorem retV_ok{t:Option FieldType}{i:Instr}{st:List Value}{v:Option Value}(hv:retV t i st=some v):(t=none→v=none)∧∀ρ',v.map (cv ρ')=v:=by
 unfold retV at hv
 split at hv
 ·split at hv
  ·cases hv;exact⟨fun _=>rfl,fun _=>rfl⟩
  ·cases hv
 ·split at hv
  ·cases hv;exact⟨fun h=>(by cases h),fun _=>rfl⟩
  ·cases hv;exact⟨fun h=>(by cases h),fun _=>rfl⟩
  ·cases hv
 ·split at hv
  ·cases hv;exact⟨fun h=>(by cases h),fun _=>rfl⟩
  ·cases hv
 ·cases hv
theorem simRet(X:Stand p l e R s m args below meth c T locs cells slots)(hx:p.tables.exec=Jvm.exec){Tb:Tabs}{ml pc len:Nat}{i0 i:Instr}(hd:decode c.code pc = .ok (i0,len))(ho:lenOK i0 len=true)(hc:canon Tb ml pc i0=some i){L:Array Slot}{st:List Value}{v:Option Value}
  (hv:retV meth.sig.returnType i st=some v) {fs:List Frame} (hl:∀(f:JFrame) (acts:List Action),f.method=m→f.locked=none→f.entered=[]→(doReturn e (T.setTop f) acts v).1=T.setFrames fs) :
  Steps p.tables e below (T.setTop (mkF m pc L (st.map (cv ρ)))) (T.setFrames fs):=by
 have hr:i = .return_∨i = .ireturn∨i = .lreturn:=by
  unfold retV at hv
  split at hv<;>first | exact Or.inl rfl | exact Or.inr (Or.inl rfl) | exact Or.inr (Or.inr rfl) | cases hv
 have hi:i0=i∧len=1:=by
  rcases hr with rfl | rfl | rfl <;>
   (cases i0<;>first | (simp[canon,lt,plain1,heapy] at hc;done) | exact⟨rfl,by simpa [lenOK,ilen] using ho⟩)
 obtain⟨rfl,rfl⟩:=hi
 rcases hr with rfl | rfl | rfl
 ·simp only[retV] at hv
  split at hv
  ·rename_i h1
   cases hv
   exact X.returnOut hx h1 hd hl
  ·cases hv
 ·simp only[retV] at hv
  split at hv
  ·rename_i h1
   cases hv
   exact retOut X hx h1 rfl (Or.inl ⟨rfl,Or.inl rfl,_,rfl⟩) hd hl
  ·rename_i h1
   cases hv
   exact retN X hx (t:= .boolean) h1 (Or.inl rfl) hd hl
  ·cases hv
 ·simp only[retV] at hv
  split at hv
  ·rename_i h1
   cases hv
   exact retOut X hx h1 rfl (Or.inr (Or.inl ⟨rfl,rfl,_,rfl⟩)) hd hl
  ·cases hv
end Sim
def Go(p:Program)(e:Env)(below:List Frame)(T:State)(g:JFrame)(T':State)(g':JFrame):Prop:=∀target,Steps p.tables e below (T'.setTop g') target→Steps p.tables e below (T.setTop g) target
abbrev MI:=Nat→MethodName×ByteArray×Nat×Nat×Nat
def Frm(mi:MI)(rt:Nat→Option FieldType)(own:String)(Z:State)(mm:Nat)(p:Program)(R:Room)(s:State)(m:MethodId)(meth:Method)(c:Code):Prop:=
 p.tables.exec=Jvm.exec∧Z.Warmed39 s.vm∧s.vm.findClass own=some m.cls∧c.code=(mi mm).2.1∧c.maxLocals=(mi mm).2.2.1∧meth.sig.returnType=rt mm∧meth.name=(mi mm).1.name∧(mi mm).2.2.2.1≤R.frames∧(mi mm).2.2.2.2≤R.locals
def chkE(Tb:Tabs)(bytes:ByteArray)(ml:Nat)(q:Nat×Instr×Nat×Option Nat):Bool:=match decode bytes q.1 with
 | .ok (i0,len)=>decide (canon Tb ml q.1 i0=some q.2.1)&&decide (q.2.2.1=q.1+len)&&lenOK i0 len
 |_=>false
def Good(Tb:Tabs)(mi:MI)(code:Codes):Prop:=∀mm pc q,code mm pc=some q→chkE Tb (mi mm).2.1 (mi mm).2.2.1 (pc,q)=true
theorem chkE_spec{Tb:Tabs}{bytes:ByteArray}{ml pc pn:Nat}{i:Instr}{kp:Option Nat}(h:chkE Tb bytes ml (pc,i,pn,kp)=true):∃i0 len,decode bytes pc = .ok (i0,len)∧canon Tb ml pc i0=some i∧pn=pc+len∧lenOK i0 len=true:=by
 simp only[chkE] at h
 split at h
 ·rename_i i0 len hd
  simp only[Bool.and_eq_true,decide_eq_true_eq] at h
  exact⟨i0,len,hd,h.1.1,h.1.2,h.2⟩
 ·cases h
section Walk
variable {τ ι:Type} (code:Codes) (rt:Nat→Option FieldType) (mop:Mop τ) (cop:Cop) (Tb:Tabs) (mi:MI) (own:String) (Z:State) (l:Launch) (ρ:ι→Nat→Nat) (J:ι→Room→State→Nat→τ→State→List Loc→Nat→Nat→Prop)
def Walks (n : Nat) : Prop := ∀ (x : ι) (p : Program) (e : Env) (R : Room) (s : State) (m : MethodId) (args : Array Value) (below : List Frame) (meth : Method) (c : Code) (mm pc : Nat) (ls st : List Value) (S : τ) (r : Res τ),
  iter (plan code rt mop cop) n (mm, pc, ls, st, S) = some r → ∀ (T : State) (locs : List Loc) (cells slots : Nat) (L : Array Slot), Stand p l e R s m args below meth c T locs cells slots → Frm mi rt own Z mm p R s m meth c → J x R s mm S T locs cells slots → LocRel (ρ x) ls L → WFL L → L.size = c.maxLocals →
  ∃ (T' : State) (locs' : List Loc) (cells' slots' : Nat), Stand p l e R s m args below meth c T' locs' cells' slots' ∧ J x R s mm r.2 T' locs' cells' slots' ∧ ((meth.sig.returnType = none → r.1 = none) ∧ ∀ ρ', r.1.map (cv ρ') = r.1) ∧
    ∀ fs, (∀ (f : JFrame) (acts : List Action), f.method = m → f.locked = none → f.entered = [] → (doReturn e (T'.setTop f) acts r.1).1 = T'.setFrames fs) → Steps p.tables e below (T.setTop (mkF m pc L (st.map (cv (ρ x))))) (T'.setFrames fs)
def MopOK:Prop:=∀(x:ι) (p:Program) (e:Env) (R:Room) (s:State) (m:MethodId) (args:Array Value) (below:List Frame) (meth:Method) (c:Code) (mm pc len:Nat) (i0 i:Instr) (st st':List Value) (S S':τ) (T:State) (locs:List Loc) (cells slots:Nat) (L:Array Slot),
 Stand p l e R s m args below meth c T locs cells slots→Frm mi rt own Z mm p R s m meth c→J x R s mm S T locs cells slots→L.size=c.maxLocals→decode c.code pc = .ok (i0,len)→lenOK i0 len=true→canon Tb c.maxLocals pc i0=some i→(∃kp,code mm pc=some (i,pc+len,kp))→mop mm i st S=some (st',S') →
 ∃(T':State) (locs':List Loc) (cells' slots':Nat),Stand p l e R s m args below meth c T' locs' cells' slots'∧J x R s mm S' T' locs' cells' slots'∧Go p e below T (mkF m pc L (st.map (cv (ρ x)))) T' (mkF m (pc+len) L (st'.map (cv (ρ x))))
def CopOK:Prop:=∀n,Walks code rt mop cop mi own Z l ρ J n→∀(x:ι) (p:Program) (e:Env) (R:Room) (s:State) (m:MethodId) (args:Array Value) (below:List Frame) (meth:Method) (c:Code) (mm pc len:Nat) (i0 i:Instr) (st:List Value) (q:Nat×List Value×List Value) (S:τ) (r:Res τ) (T:State) (locs:List Loc) (cells slots:Nat) (L:Array Slot),
 Stand p l e R s m args below meth c T locs cells slots→Frm mi rt own Z mm p R s m meth c→J x R s mm S T locs cells slots→L.size=c.maxLocals→decode c.code pc = .ok (i0,len)→lenOK i0 len=true→canon Tb c.maxLocals pc i0=some i→(∃kp,code mm pc=some (i,pc+len,kp))→cop mm i st=some q→iter (plan code rt mop cop) n (q.1,0,entL q.2.1,[],S)=some r →
 ∃(T':State) (locs':List Loc) (cells' slots':Nat),Stand p l e R s m args below meth c T' locs' cells' slots'∧J x R s mm r.2 T' locs' cells' slots'∧Go p e below T (mkF m pc L (st.map (cv (ρ x)))) T' (mkF m (pc+len) L ((r.1.toList++q.2.2).map (cv (ρ x))))
theorem tk_rel{ρ:Nat→Nat}{ls:List Value}{L:Array Slot}(kp:Option Nat)(h:LocRel ρ ls L):LocRel ρ (tk kp ls) L:=by
 cases kp with
 |none=>exact h
 |some k=>
  intro i v q hn
  simp only[tk,List.getElem?_take] at q
  split at q
  ·exact h i v q hn
  ·cases q
set_option maxHeartbeats 1000000 in
theorem walks{a0:Array Value}(hC:Cst Tb Z a0 own)(hG:Good Tb mi code)(hM:MopOK code rt mop Tb mi own Z l ρ J)(hP:CopOK code rt mop cop Tb mi own Z l ρ J):∀n,Walks code rt mop cop mi own Z l ρ J n:=by
 intro n
 induction n with
 |zero=>intro x p e R s m args below meth c mm pc ls st S r h;cases h
 |succ n ih=>
  intro x p e R s m args below meth c mm pc ls st S r h T locs cells slots L X F hJ RL W hs
  have hx:=F.1
  simp only[iter,run] at h
  cases hq:code mm pc with
  |none=>simp only[plan,hq] at h;cases h
  |some q=>
   obtain⟨i,pn,kp⟩:=q
   obtain⟨i0,len,hd,hc,rfl,ho⟩:=chkE_spec (hG mm pc _ hq)
   have RL':=tk_rel kp RL
   rw[←F.2.2.2.1] at hd
   rw[←F.2.2.2.2.1] at hc
   simp only[plan,hq] at h
   split at h
   ·cases h
   ·-- a return
    rename_i r' hpl
    split at hpl
    ·cases hpl
    ·simp only[pl1] at hpl;split at hpl<;>cases hpl
    ·simp only[pl2] at hpl;split at hpl<;>cases hpl
    ·simp only[pl3] at hpl;split at hpl<;>cases hpl
    ·simp only[rest] at hpl
     split at hpl
     ·rename_i v hv
      cases hpl;cases h
      rw[←F.2.2.2.2.2.1] at hv
      exact⟨T,locs,cells,slots,X,hJ,retV_ok hv,fun fs hl=>simRet X hx hd ho hc hv hl⟩
     ·split at hpl
      ·cases hpl
      ·split at hpl
       ·cases hpl
       ·split at hpl<;>cases hpl
   ·-- the next step
    rename_i c' hpl
    split at hpl
    ·cases hpl
     obtain⟨T',L',k',n',X',hJ',ok',st'⟩:=ih x p e R s m args below meth c _ _ _ _ _ _ h T locs cells slots L X F hJ RL' W hs
     exact⟨T',L',k',n',X',hJ',ok',fun fs hl=>simGoto X hx hd ho hc (st' fs hl)⟩
    ·rename_i cd t
     simp only[pl1] at hpl
     split at hpl
     ·rename_i y r0
      cases hpl
      rw[cnd_pick] at h
      have h':iter (plan code rt mop cop) n (mm,(if if_icmp.holds cd y 0=true then t.toNat else pc+len),tk kp ls,r0,S)=some r:=by
       by_cases q:if_icmp.holds cd y 0=true
       ·rw[if_pos q] at h ⊢;exact h
       ·rw[if_neg q] at h ⊢;exact h
      obtain⟨T',L',k',n',X',hJ',ok',st'⟩:=ih x p e R s m args below meth c _ _ _ _ _ _ h' T locs cells slots L X F hJ RL' W hs
      exact⟨T',L',k',n',X',hJ',ok',fun fs hl=>simIf X hx hd ho hc (st' fs hl)⟩
     ·cases hpl
    ·rename_i cd t
     simp only[pl2] at hpl
     split at hpl
     ·rename_i y y' r0
      cases hpl
      rw[cnd_pick] at h
      have h':iter (plan code rt mop cop) n (mm,(if if_icmp.holds cd y' y=true then t.toNat else pc+len),tk kp ls,r0,S)=some r:=by
       by_cases q:if_icmp.holds cd y' y=true
       ·rw[if_pos q] at h ⊢;exact h
       ·rw[if_neg q] at h ⊢;exact h
      obtain⟨T',L',k',n',X',hJ',ok',st'⟩:=ih x p e R s m args below meth c _ _ _ _ _ _ h' T locs cells slots L X F hJ RL' W hs
      exact⟨T',L',k',n',X',hJ',ok',fun fs hl=>simIcmp X hx hd ho hc (st' fs hl)⟩
     ·cases hpl
    ·rename_i d lo hi ts
     simp only[pl3] at hpl
     split at hpl
     ·rename_i y r0
      cases hpl
      have h':iter (plan code rt mop cop) n (mm,swc y lo ts.toList (fun t=>t) d.toNat,tk kp ls,r0,S)=some r:=by
       rw[←h,swc_map (fun t=>(mm,t,tk kp ls,r0,S))]
      obtain⟨T',L',k',n',X',hJ',ok',st'⟩:=ih x p e R s m args below meth c _ _ _ _ _ _ h' T locs cells slots L X F hJ RL' W hs
      exact⟨T',L',k',n',X',hJ',ok',fun fs hl=>simSw X hx hd hc (st' fs hl)⟩
     ·cases hpl
    ·simp only[rest] at hpl
     split at hpl
     ·cases hpl
     ·split at hpl
      ·rename_i q hq'
       cases hpl
       obtain⟨L1,RL1,W1,z1,st1⟩:=simLoc X hx F.2.1 F.2.2.1 hC hd ho (by rw[hs];exact hc) hq' RL' W
       obtain⟨T',L',k',n',X',hJ',ok',st'⟩:=ih x p e R s m args below meth c _ _ _ _ _ _ h T locs cells slots L1 X F hJ RL1 W1 (z1.trans hs)
       exact⟨T',L',k',n',X',hJ',ok',fun fs hl=>st1 _ (st' fs hl)⟩
      ·split at hpl
       ·rename_i q hq'
        cases hpl
        obtain⟨T1,o1,k1,n1,X1,J1,G1⟩:=hM x p e R s m args below meth c mm pc len i0 _ st q.1 S q.2 T locs cells slots L X F hJ hs hd ho hc ⟨kp,hq⟩ hq'
        obtain⟨T',L',k',n',X',hJ',ok',st'⟩:=ih x p e R s m args below meth c _ _ _ _ _ _ h T1 o1 k1 n1 L X1 F J1 RL' W hs
        exact⟨T',L',k',n',X',hJ',ok',fun fs hl=>G1 _ (st' fs hl)⟩
       ·split at hpl<;>cases hpl
   ·-- a call
    rename_i q hpl
    split at hpl
    ·cases hpl
    ·simp only[pl1] at hpl;split at hpl<;>cases hpl
    ·simp only[pl2] at hpl;split at hpl<;>cases hpl
    ·simp only[pl3] at hpl;split at hpl<;>cases hpl
    ·simp only[rest] at hpl
     split at hpl
     ·cases hpl
     ·split at hpl
      ·cases hpl
      ·split at hpl
       ·cases hpl
       ·split at hpl
        ·rename_i q' hq'
         cases hpl
         obtain⟨r1,h1,h2⟩:=Option.bind_eq_some_iff.mp h
         obtain⟨T1,o1,k1,n1,X1,J1,G1⟩:=hP n ih x p e R s m args below meth c mm pc len i0 _ st q' S r1 T locs cells slots L X F hJ hs hd ho hc ⟨kp,hq⟩ hq' h1
         obtain⟨T',L',k',n',X',hJ',ok',st'⟩:=ih x p e R s m args below meth c _ _ _ _ _ _ h2 T1 o1 k1 n1 L X1 F J1 RL' W hs
         exact⟨T',L',k',n',X',hJ',ok',fun fs hl=>G1 _ (st' fs hl)⟩
        ·cases hpl
end Walk
section Call
variable {p:Program} {l:Launch} {e:Env} {R:Room} {s:State} {m:MethodId} {args:Array Value} {below:List Frame} {meth:Method} {c:Code} {T:State} {locs:List Loc} {cells slots:Nat} {Z:State} {a0:Array Value} {h:Heap}
def VirtW(Z:State)(a0:Array Value)(C own:String)(idx:Nat)(y:MethodName)(bytes:ByteArray)(ml:Nat)(ret:Option FieldType):Prop:=
 y.cls=C∧(Cond.methodLink own idx y).before a0 Z=true∧(Cond.instanceMethod y).before a0 Z=true∧(Cond.code y bytes ml ret).before a0 Z=true ∧
 ((Cond.privateMethod y).before a0 Z=true∨((Cond.declares y).before a0 Z=true∧(Cond.selects C y y).before a0 Z=true))
theorem callV(X:Stand p l e R s m args below meth c T locs cells slots)(hx:p.tables.exec=Jvm.exec)(hZ:Z.Warmed39 s.vm){own C:String}(hown:s.vm.findClass own=some m.cls){idx kk:Nat}{y:MethodName}{bytes:ByteArray}{ml:Nat}{ret:Option FieldType}
  (hw:VirtW Z a0 C own idx y bytes ml ret) (wi:(Cond.instantiable C kk).before a0 Z=true) (wz:(Cond.initialized C).before a0 Z=true) (hC:C ≠ "java/lang/invoke/MethodHandle" ∧ C ≠ "java/lang/invoke/VarHandle")
  {ps:List FieldType} (hd:parseMethodDescriptor y.desc=some ⟨ps,ret⟩) {rm:Room} {as':List Value} (hl:as'.length=ps.length) {a:Nat} {Q:Option Value→Heap→List Loc→Prop}
  (hM:MetFree l y (head1 [Cond.code y bytes ml ret] rm) (fun A U=>A=(.ref a::as').toArray∧Z.Warmed39 U.vm∧U.heap=h) (fun _ _ _ _ _=>True) (fun _ U o U'=>∃v L,o = .returned v∧Q v U'.heap L∧FrameEnd U o U' L rm.cells rm.slots))
  (eT:T.heap=h) (E:Exa Z h a C) {W:Nat} (hf:rm.frames+1≤R.frames) (hlo:W+(ml+11)+rm.locals≤R.locals) (hce:cells+rm.cells≤R.cells) (hsl:slots+rm.slots≤R.slots)
  {pc:Nat} {L:Array Slot} (hs:L.size=c.maxLocals) {rest st:List Value} (hst:st=as'.reverse ++ .ref a::rest) (hW:(rest.map fun v=>v.category).sum≤W) (hdg:decode c.code pc = .ok (.invokevirtual idx,3)) :
  ∃(v:Option Value) (T':State) (Lc:List Loc),Stand p l e R s m args below meth c T' (locs++Lc) (cells+rm.cells) (slots+rm.slots)∧Q v T'.heap Lc∧Go p e below T (mkF m pc L st) T' (mkF m (pc+3) L (v.toList++rest)):=by
 obtain⟨rfl,w1,w2,w3,w4⟩:=hw
 have hB:=backOf (W:=W) hM hZ w3 wz hf hlo (R:=R) (p:=p) (e:=e) (below:=below) (s:=s) (args:=args) (len:=3)
 have hW':2*(mkF m pc L st).monitorRoom+(rest.map fun v=>v.category).sum≤W:=by
  show 2*0+_≤W
  omega
 rcases w4 with w4 | ⟨w4,w5⟩
 ·obtain⟨cl,kc,q1,q2,-,q4,-⟩:=Cond.instantiable_spec (mvT hZ wi (args:=args))
  have hni:kc.isInterface=false:=by
   have:=q4
   simp only[Bool.or_eq_false_iff] at this
   exact this.1
  have hpr:s.PrivateAt y:=Cond.privateMethod_at (mvP hZ w4 (args:=args))
  obtain⟨cell,q5,q6⟩:=E.cell
  obtain⟨v,vm₁,⟨T',L',c',s'⟩,-,X',⟨Lc,hQ,l1,l2,l3⟩,st'⟩:=X.privateBack hx (y:=y) hown (mvT hZ w1) (mvT hZ w2) (selects_self_of_private q1 q2 hni hpr (mvT hZ w2) hC) hpr (mvT hZ w3) hC hB (g:=mkF m pc L st) rfl hs (Steps.refl _) (a:=a) (by rw[eT];exact q5) q6 (argsL:=as') (rest:=rest) (lenOf hd hl) hst hW' hdg
   (fun vm _=>⟨rfl,eT,hce,hsl⟩)
  dsimp only [Pt.U,Pt.locs,Pt.cells,Pt.slots] at X' l1 l2 l3 st' hQ
  subst l1 l2 l3
  exact⟨v,T',Lc,X',hQ,fun t k=>st'.trans k⟩
 ·obtain⟨cq,kq,qa,qb,qc⟩:=isOf hZ eT E
  obtain⟨v,vm₁,⟨T',L',c',s'⟩,-,X',⟨Lc,hQ,l1,l2,l3⟩,st'⟩:=X.virtualBack hx (y:=y) (z:=y) hown (mvT hZ w1) (mvT hZ w4) (notFace_of_selects (args := #[]) (mvT hZ w5)) (mvT hZ w5) (mvT hZ w2) hC hB qa qc (g:=mkF m pc L st) rfl hs (Steps.refl _) (argsL:=as') (rest:=rest) (lenOf hd hl) hst hW' hdg
   (fun vm _=>⟨rfl,eT,hce,hsl⟩)
  dsimp only [Pt.U,Pt.locs,Pt.cells,Pt.slots] at X' l1 l2 l3 st' hQ
  subst l1 l2 l3
  exact⟨v,T',Lc,X',hQ,fun t k=>st'.trans k⟩
end Call
def slotsOf:List Value→List Slot
 |[]=>[]
 |v::r=>if v.category=2 then .val v :: .second::slotsOf r else .val v::slotsOf r
theorem args_slots(vs:List Value)(ml:Nat):argsToLocals vs.toArray ml=((slotsOf vs)++List.replicate (ml-(slotsOf vs).length) Slot.unset).toArray:=by
 have key:∀(vs:List Value) (acc:Array Slot),vs.foldl (fun (acc:Array Slot) v=>if v.category=2 then (acc.push (.val v)).push .second else acc.push (.val v)) acc=acc++(slotsOf vs).toArray:=by
  intro vs
  induction vs with
  |nil=>intro acc;simp[slotsOf]
  |cons v r ih=>
   intro acc
   simp only[List.foldl_cons,slotsOf]
   rw[ih]
   split
   ·apply Array.toList_inj.mp;simp
   ·apply Array.toList_inj.mp;simp
 unfold argsToLocals
 have e:Array.foldl (fun (acc:Array Slot) (v:Value)=>if v.category=2 then (acc.push (.val v)).push .second else acc.push (.val v)) #[] vs.toArray=(slotsOf vs).toArray:=by
  rw[List.foldl_toArray,key];simp
 simp only[e]
 apply Array.toList_inj.mp
 simp
theorem slotsOf_len(ρ:Nat→Nat):∀vs:List Value,(∀v∈vs,(∃x,v = .int x)∨(∃x,v = .long x)∨∃x,v = .ref x)→(slotsOf (vs.map (cv ρ))).length=(entL vs).length
 |[],_=>rfl
 |v::r,h=>by
  have ih:=slotsOf_len ρ r (fun w hw=>h w (List.mem_cons_of_mem _ hw))
  rcases h v (List.mem_cons_self ..) with⟨x,rfl⟩ | ⟨x,rfl⟩ | ⟨x,rfl⟩<;>simp[slotsOf,entL,cv,Value.category,ih]
theorem entL_rel(ρ:Nat→Nat):∀vs:List Value,(∀v∈vs,(∃x,v = .int x)∨(∃x,v = .long x)∨∃x,v = .ref x)→∀(i:Nat) (w:Value),(entL vs)[i]? = some w→w ≠ .null→(slotsOf (vs.map (cv ρ)))[i]? = some (.val (cv ρ w))
 |[],_,i,w,h,_=>by simp[entL] at h
 |v::r,h,i,w,hi,hn=>by
  have ih:=entL_rel ρ r (fun w hw=>h w (List.mem_cons_of_mem _ hw))
  rcases h v (List.mem_cons_self ..) with⟨x,rfl⟩ | ⟨x,rfl⟩ | ⟨x,rfl⟩
  ·cases i with
   |zero=>simp[entL] at hi;subst hi;simp[slotsOf,cv,Value.category]
   |succ i=>simp[entL] at hi;simpa [slotsOf,cv,Value.category] using ih i w hi hn
  ·cases i with
   |zero=>simp[entL] at hi;subst hi;simp[slotsOf,cv,Value.category]
   |succ i=>
    cases i with
    |zero=>simp[entL] at hi;exact absurd hi.symm hn
    |succ i=>simp[entL] at hi;simpa [slotsOf,cv,Value.category] using ih i w hi hn
  ·cases i with
   |zero=>simp[entL] at hi;subst hi;simp[slotsOf,cv,Value.category]
   |succ i=>simp[entL] at hi;simpa [slotsOf,cv,Value.category] using ih i w hi hn
theorem slotsOf_wf:∀(vs:List Value) (tl:List Slot),(∀x∈tl,x = .unset)→(∀i:Nat,(slotsOf vs++tl)[i]? = some .second→∃(j:Nat) (v:Value),i=j+1∧(slotsOf vs++tl)[j]? = some (.val v)∧v.category=2)∧∀(i:Nat) (v:Value),(slotsOf vs++tl)[i]? = some (.val v)→v.category=2→(slotsOf vs++tl)[i+1]? = some .second
 |[],tl,h=>by
  refine⟨fun i q=>?_,fun i v q _=>?_⟩
  ·have:=h _ (List.mem_of_getElem? (by simpa [slotsOf] using q));cases this
  ·have:=h _ (List.mem_of_getElem? (by simpa [slotsOf] using q));cases this
 |v::r,tl,h=>by
  obtain⟨a,b⟩:=slotsOf_wf r tl h
  by_cases hc:v.category=2
  ·refine⟨fun i q=>?_,fun i w q hw=>?_⟩
   ·cases i with
    |zero=>simp[slotsOf,hc] at q
    |succ i=>
     cases i with
     |zero=>exact⟨0,v,rfl,by simp[slotsOf,hc],hc⟩
     |succ i=>
      simp only[slotsOf,hc,if_true,List.cons_append,List.getElem?_cons_succ] at q
      obtain⟨j,w,q1,q2,q3⟩:=a i q
      exact⟨j+2,w,by omega,by simpa [slotsOf,hc] using q2,q3⟩
   ·cases i with
    |zero=>simp[slotsOf,hc]
    |succ i=>
     cases i with
     |zero=>simp[slotsOf,hc] at q
     |succ i=>
      simp only[slotsOf,hc,if_true,List.cons_append,List.getElem?_cons_succ] at q ⊢
      exact b i w q hw
  ·refine⟨fun i q=>?_,fun i w q hw=>?_⟩
   ·cases i with
    |zero=>simp[slotsOf,hc] at q
    |succ i=>
     simp only[slotsOf,hc,if_false,List.cons_append,List.getElem?_cons_succ] at q
     obtain⟨j,w,q1,q2,q3⟩:=a i q
     exact⟨j+1,w,by omega,by simpa [slotsOf,hc] using q2,q3⟩
   ·cases i with
    |zero=>simp[slotsOf,hc] at q;subst q;exact absurd hw hc
    |succ i=>
     simp only[slotsOf,hc,if_false,List.cons_append,List.getElem?_cons_succ] at q ⊢
     exact b i w q hw
def okv:List Value→Bool
 |[]=>true
 | .int _::r=>okv r
 | .long _::r=>okv r
 | .ref _::r=>okv r
 |_::_=>false
theorem okv_spec:∀ {vs:List Value},okv vs=true→∀v∈vs,(∃x,v = .int x)∨(∃x,v = .long x)∨∃x,v = .ref x
 |[],_,v,h=>by cases h
 |w::r,h,v,hv=>by
  cases w<;>simp only[okv] at h<;>try (cases h;done)
  all_goals
   rcases List.mem_cons.mp hv with rfl | q
   ·first | exact Or.inl ⟨_,rfl⟩ | exact Or.inr (Or.inl ⟨_,rfl⟩) | exact Or.inr (Or.inr ⟨_,rfl⟩)
   ·exact okv_spec h v q
theorem entry_rel(ρ:Nat→Nat){vs:List Value}(h:okv vs=true){ml:Nat}(hl:(entL vs).length≤ml) :
  ∃L,(∀m,entryFrame m (vs.map (cv ρ)).toArray ml=mkF m 0 L [])∧LocRel ρ (entL vs) L∧WFL L∧L.size=ml:=by
 have hk:=okv_spec h
 have e1:=slotsOf_len ρ vs hk
 refine⟨_,fun m=>by unfold entryFrame;rw[args_slots],fun i w q hn=>?_,?_,by simp[e1];omega⟩
 ·have:=entL_rel ρ vs hk i w q hn
  simp only[List.getElem?_toArray]
  rw[List.getElem?_append_left ((List.getElem?_eq_some_iff.mp this).1)]
  exact this
 ·obtain⟨a,b⟩:=slotsOf_wf (vs.map (cv ρ)) (List.replicate (ml-(slotsOf (vs.map (cv ρ))).length) Slot.unset) (fun x hx=>(List.mem_replicate.mp hx).2)
  exact⟨fun i q=>by simpa using a i (by simpa using q),fun i v q hc=>by simpa using b i v (by simpa using q) hc⟩
def inb(i:Int32)(n:Nat):Bool := !(decide (i<0)||decide (n≤i.toNatClampNeg))
theorem inb_spec{i:Int32}{n:Nat}(h:inb i n=true):¬(i<0∨n≤i.toNatClampNeg):=by
 simp only[inb,Bool.not_eq_true',Bool.or_eq_false_iff,decide_eq_false_iff_not] at h
 exact fun q=>q.elim h.1 h.2
section Ops
variable {σ:Type}
def gf(G:σ→Nat→Nat→Int32)(k:Nat)(S:σ):List Value→Option (List Value×σ)
 | .ref 0::r=>if k%3=2 then some (.ref (k/3+1)::r,S) else some (.int (G S 0 (k/3))::r,S)
 |_=>none
def pf(P:σ→Nat→Nat→Int32→σ)(k:Nat)(S:σ):List Value→Option (List Value×σ)
 | .int v :: .ref 0::r=>if k%3=0 then some (r,P S 0 (k/3) v) else if k%3=1 then some (r,P S 0 (k/3) (v&&&1)) else none
 |_=>none
def isI:FieldType→Bool
 | .int=>true
 |_=>false
def isB:FieldType→Bool
 | .boolean=>true
 | .byte=>true
 |_=>false
def al(arrs:List (FieldType×Nat))(G:σ→Nat→Nat→Int32)(ok:FieldType→Bool)(S:σ):List Value→Option (List Value×σ)
 | .int i :: .ref (j+1)::r=>match arrs[j]? with
  |some q=>if ok q.1=true∧inb i q.2=true then some (.int (G S (j+1) i.toNatClampNeg)::r,S) else none
  |none=>none
 |_=>none
def sa(arrs:List (FieldType×Nat))(P:σ→Nat→Nat→Int32→σ)(ok:FieldType→Bool)(S:σ):List Value→Option (List Value×σ)
 | .int v :: .int i :: .ref (j+1)::r=>match arrs[j]? with
  |some q=>if ok q.1=true∧inb i q.2=true then some (r,P S (j+1) i.toNatClampNeg (nar q.1 v)) else none
  |none=>none
 |_=>none
def la(arrs:List (FieldType×Nat))(S:σ):List Value→Option (List Value×σ)
 | .ref (j+1)::r=>match arrs[j]? with
  |some q=>some (.int (Int32.ofNat q.2)::r,S)
  |none=>none
 |_=>none
def mop1(arrs:List (FieldType×Nat))(G:σ→Nat→Nat→Int32)(P:σ→Nat→Nat→Int32→σ):Mop σ:=fun _ i st S=>match i with
 | .getfield k=>gf G k S st
 | .putfield k=>pf P k S st
 | .iaload=>al arrs G isI S st
 | .baload=>al arrs G isB S st
 | .iastore=>sa arrs P isI S st
 | .bastore=>sa arrs P isB S st
 | .arraylength=>la arrs S st
 |_=>none
def okn:List Value→Bool
 |[]=>true
 | .int _::r=>okn r
 | .long _::r=>okn r
 |_::_=>false
def cop1(na ml wm:Nat→Nat):Cop:=fun m i st=>match i with
 | .invokevirtual k=>(match takeA (na k) [] st with
  |some (as,.ref 0::r)=>if okn as=true∧cats r≤wm m∧(entL (.ref 0::as)).length≤ml k then some (k,.ref 0::as,r) else none
  |_=>none)
 |_=>none
end Ops
theorem takeA_spec:∀ {n:Nat} {acc st as r:List Value},takeA n acc st=some (as,r)→∃q,q.length=n∧as=q++acc∧st=q.reverse++r
 |0,acc,st,as,r,h=>by cases h;exact⟨[],rfl,rfl,rfl⟩
 |n+1,acc,[],as,r,h=>by cases h
 |n+1,acc,v::st,as,r,h=>by
  obtain⟨q,h1,h2,h3⟩:=takeA_spec (n:=n) h
  exact⟨q++[v],by simp[h1],by simp[h2],by simp[h3]⟩
theorem okn_spec:∀ {vs:List Value},okn vs=true→okv vs=true∧∀ρ,vs.map (cv ρ)=vs
 |[],_=>⟨rfl,fun _=>rfl⟩
 |w::r,h=>by
  cases w<;>simp only[okn] at h<;>try (cases h;done)
  all_goals
   obtain⟨a,b⟩:=okn_spec h
   exact⟨a,fun ρ=>by rw[List.map_cons,b];rfl⟩
def ObjAt(C:String)(fds:List (String×String×Nat))(arrs:List (FieldType×Nat))(Z:State)(h:Heap)(a:Nat)(g:Nat→Nat→Int32):Prop:=
 Exa Z h a C∧(∀n d k,(n,d,k)∈fds→Fld Z h a C n d (if k%3=2 then .ref (a+(k/3+1)) else .int (g 0 (k/3)))) ∧
 ∀(j:Nat) (ty:FieldType) (len:Nat),arrs[j]? = some (ty,len)→∃cell,Arr Z h (a+(j+1)) cell ty∧cell.slots.size=len∧∀i,i<len→cell.slots[i]? = some (.int (g (j+1) i))
def ClsOK(C:String)(fds:List (String×String×Nat))(arrs:List (FieldType×Nat))(Tb:Tabs)(Z:State)(a0:Array Value):Prop:=
 (∃kk,(Cond.instantiable C kk).before a0 Z=true) ∧
 (∀n d k,(n,d,k)∈fds→Laid Z a0 C C n d∧(k%3≠2→(Cond.lays C C n d).before a0 Z=true)∧(k%3=0→d = "I")∧(k%3=1→d = "Z")∧∃t,parseFieldDescriptor d=some t) ∧
 (∀n d k n' d' k',(n,d,k)∈fds→(n',d',k')∈fds→n=n'→d=d'∧k=k') ∧
 (∀n d k n' d' k',(n,d,k)∈fds→(n',d',k')∈fds→n≠n'→k%3≠2→k'%3≠2→k/3≠k'/3) ∧
 (∀idx n d k,(idx,n,d,k)∈Tb.1→(Cond.fieldLink C idx C n d).before a0 Z=true∧(n,d,k)∈fds) ∧
 ∀(j:Nat) (ty:FieldType) (n:Nat),arrs[j]? = some (ty,n)→ty = .int∨ty = .boolean∨ty = .byte
def rng(arrs:List (FieldType×Nat))(a:Nat):List Nat:=(List.range (arrs.length+1)).map fun r=>a+r
theorem mem_rng{arrs:List (FieldType×Nat)}{a r:Nat}(h:r≤arrs.length):a+r∈rng arrs a:=List.mem_map.mpr ⟨r,List.mem_range.mpr (by omega),rfl⟩
section Obj
variable {C:String} {fds:List (String×String×Nat)} {arrs:List (FieldType×Nat)} {Tb:Tabs} {Z:State} {a0:Array Value} {h h':Heap} {a:Nat} {g g':Nat→Nat→Int32}
theorem ne1(a j:Nat):a+(j+1)≠a:=by omega
theorem ne2(a j:Nat):a≠a+(j+1):=by omega
theorem ne3(a:Nat){j j':Nat}(h:j'≠j):a+(j'+1)≠a+(j+1):=by omega
theorem ObjAt.put(K:ClsOK C fds arrs Tb Z a0)(O:ObjAt C fds arrs Z h a g){n d:String}{k:Nat}(hm:(n,d,k)∈fds)(hk:k%3≠2){v:Int32}(W:Wr h h' a (Jvm.RoadKit.slotOf Z C n d) (.int v))
  (hg:∀c i,g' c i=if c=0∧i=k/3 then v else g c i):ObjAt C fds arrs Z h' a g':=by
 obtain⟨O1,O2,O3⟩:=O
 obtain⟨-,K2,K3,K4,-,-⟩:=K
 refine⟨O1.wr W,fun n' d' k' hm'=>?_,fun j ty len hj=>?_⟩
 ·have F:=O2 n' d' k' hm'
  by_cases e:n=n'
  ·obtain⟨rfl,rfl⟩:=K3 _ _ _ _ _ _ hm hm' e
   subst e
   rw[if_neg hk] at F ⊢
   rw[hg,if_pos ⟨rfl,rfl⟩]
   exact F.same W
  ·obtain⟨l1,-,-,-,t1,p1⟩:=K2 _ _ _ hm
   obtain⟨l2,-,-,-,t2,p2⟩:=K2 _ _ _ hm'
   have F':=F.other W (Or.inr (slot_ne l2 l1 (Ne.symm e) p2 p1))
   by_cases q:k'%3=2
   ·rw[if_pos q] at F' ⊢;exact F'
   ·rw[if_neg q] at F' ⊢
    rw[hg,if_neg (fun x=>K4 _ _ _ _ _ _ hm hm' e hk q x.2.symm)]
    exact F'
 ·obtain⟨cell,A,z,H⟩:=O3 j ty len hj
  refine⟨cell,A.other W (ne1 a j),z,fun i hi=>?_⟩
  rw[hg,if_neg (fun x=>by omega)]
  exact H i hi
theorem ObjAt.set(O:ObjAt C fds arrs Z h a g){j:Nat}{ty:FieldType}{len:Nat}(hj:arrs[j]? = some (ty,len)){i:Nat}(hi:i<len){v:Int32}(W:Wr h h' (a+(j+1)) i (.int v))
  (hg:∀c r,g' c r=if c=j+1∧r=i then v else g c r):ObjAt C fds arrs Z h' a g':=by
 obtain⟨O1,O2,O3⟩:=O
 refine⟨O1.wr W,fun n' d' k' hm'=>?_,fun j' ty' len' hj'=>?_⟩
 ·have F:=(O2 n' d' k' hm').other W (Or.inl (ne2 a j))
  by_cases q:k'%3=2
  ·rw[if_pos q] at F ⊢;exact F
  ·rw[if_neg q] at F ⊢
   rw[hg,if_neg (fun x=>by omega)]
   exact F
 ·obtain⟨cell,A,z,H⟩:=O3 j' ty' len' hj'
  by_cases e:j'=j
  ·subst e
   cases hj.symm.trans hj'
   refine⟨cell.setSlot i (.int v),A.same W,by rw[sz_set];exact z,fun r hr=>?_⟩
   rw[hg]
   by_cases q:r=i
   ·subst q
    rw[if_pos ⟨rfl,rfl⟩]
    simp[Cell.setSlot,z,hr]
   ·rw[if_neg (fun x=>q x.2)]
    have:=H r hr
    simp only[Cell.setSlot]
    rw[Array.getElem?_setIfInBounds_ne (Ne.symm q)]
    exact this
  ·refine⟨cell,A.other W (ne3 a e),z,fun r hr=>?_⟩
   rw[hg,if_neg (fun x=>by omega)]
   exact H r hr
theorem ObjAt.keep{ws:List Nat}(O:ObjAt C fds arrs Z h a g)(K:Keep h h' ws)(hn:∀r,r≤arrs.length→a+r∉ws):ObjAt C fds arrs Z h' a g:=by
 obtain⟨O1,O2,O3⟩:=O
 have ha:a∉ws:=hn 0 (Nat.zero_le _)
 refine⟨?_,fun n d k hm=>?_,fun j ty len hj=>?_⟩
 ·obtain⟨cell,k,h1,r⟩:=O1
  exact⟨cell,k,K.2.1 a cell h1 ha,r⟩
 ·obtain⟨cell,cf,kc,i,f,h1,r⟩:=O2 n d k hm
  exact⟨cell,cf,kc,i,f,K.2.1 a cell h1 ha,r⟩
 ·obtain⟨cell,A,r⟩:=O3 j ty len hj
  have hlt:=(List.getElem?_eq_some_iff.mp hj).1
  exact⟨cell,⟨K.2.1 _ cell A.1 (hn _ (by omega)),A.2⟩,r⟩
end Obj
section L1
variable {σ:Type} (C:String) (fds:List (String×String×Nat)) (arrs:List (FieldType×Nat)) (Tb:Tabs) (Z:State) (a0:Array Value) (G:σ→Nat→Nat→Int32) (P:σ→Nat→Nat→Int32→σ) (mi:MI) (rt:Nat→Option FieldType) (l:Launch)
abbrev I1:=Nat×Heap×Nat×Nat×Nat
def rho1(x:I1)(r:Nat):Nat:=x.1+r
def J1(x:I1)(R:Room)(_:State)(_:Nat)(S:σ)(T:State)(locs:List Loc)(cells slots:Nat):Prop:=
 cells=x.2.2.2.1∧slots=x.2.2.2.2∧cells≤R.cells∧slots≤R.slots∧ObjAt C fds arrs Z T.heap x.1 (G S)∧Keep x.2.1 T.heap (rng arrs x.1)∧Fr x.2.2.1 locs∧x.2.2.1≤x.1
variable {C fds arrs Tb Z a0 G P mi rt l}
theorem canon_get{ml pc k:Nat}{i0:Instr}(h:canon Tb ml pc i0=some (.getfield k)):∃idx n d,i0 = .getfield idx∧(idx,n,d,k)∈Tb.1:=by
 cases i0<;>try (simp[canon,lt,plain1,heapy] at h;done)
 case getfield idx=>
  obtain⟨⟨n,d,k'⟩,h1,h2⟩:=Option.map_eq_some_iff.mp h
  cases h2
  exact⟨idx,n,d,rfl,lk_mem h1⟩
theorem canon_put{ml pc k:Nat}{i0:Instr}(h:canon Tb ml pc i0=some (.putfield k)):∃idx n d,i0 = .putfield idx∧(idx,n,d,k)∈Tb.1:=by
 cases i0<;>try (simp[canon,lt,plain1,heapy] at h;done)
 case putfield idx=>
  obtain⟨⟨n,d,k'⟩,h1,h2⟩:=Option.map_eq_some_iff.mp h
  cases h2
  exact⟨idx,n,d,rfl,lk_mem h1⟩
theorem canon_heapy {ml pc : Nat} {i0 i : Instr} (hi : heapy i = true) (h : canon Tb ml pc i0 = some i) : i0 = i := by
  cases i0
  all_goals first
    | (simp [canon, plain1, heapy] at h; done)
    | (simp [canon, plain1, heapy] at h; exact h)
    | (exfalso
       simp only [canon] at h
       first
         | (cases h; simp [heapy] at hi; done)
         | (obtain ⟨w, h1, h2⟩ := Option.map_eq_some_iff.mp h; cases h2; simp [heapy] at hi; done)
         | (obtain ⟨h1, h2⟩ := lt_inv h; subst h2; simp [heapy] at hi; done)
         | (split at h
            · cases h; simp [heapy] at hi
            · cases h)
         | (simp [plain1] at h; subst h; simp [heapy] at hi; done))
theorem canon_inv{ml pc k:Nat}{i0:Instr}(h:canon Tb ml pc i0=some (.invokevirtual k)):∃idx,i0 = .invokevirtual idx∧(idx,k)∈Tb.2.1:=by
 cases i0<;>try (simp[canon,lt,plain1,heapy] at h;done)
 case invokevirtual idx=>
  obtain⟨k',h1,h2⟩:=Option.map_eq_some_iff.mp h
  cases h2
  exact⟨idx,rfl,lk_mem h1⟩
set_option maxHeartbeats 1000000 in
theorem mop1_ok{code:Codes}(K:ClsOK C fds arrs Tb Z a0)(hGP:∀S c i v c' i',G (P S c i v) c' i'=if c'=c∧i'=i then v else G S c' i'):MopOK code rt (mop1 arrs G P) Tb mi C Z l rho1 (J1 C fds arrs Z G):=by
 intro x p e R s m args below meth c mm pc len i0 i st st' S S' T locs cells slots L X F hJ hs hd ho hc hcd hm
 obtain⟨hx,hZ,hown,-,-,-,-,-,-⟩:=F
 obtain⟨hc0,hs0,hcR,hsR,O,Kp,N,hn⟩:=hJ
 have hlt:∀ {j:Nat} {q:FieldType×Nat},arrs[j]? = some q→j+1≤arrs.length:=fun q=>by have:=(List.getElem?_eq_some_iff.mp q).1;omega
 unfold mop1 at hm
 split at hm
 ·-- getfield
  rename_i k
  obtain⟨idx,n,d,rfl,hmem⟩:=canon_get hc
  obtain rfl:len=3:=by simpa [lenOK,ilen] using ho
  obtain⟨wl,hf⟩:=K.2.2.2.2.1 _ _ _ _ hmem
  have Fd:=O.2.1 n d k hf
  unfold gf at hm
  split at hm
  ·rename_i r
   obtain⟨T',X',e',st1⟩:=getF X hx hZ hown (host := "") (Or.inl wl) Via.refl rfl Fd (g:=mkF m pc L (.ref x.1::r.map (cv (rho1 x)))) rfl rfl hd
   refine⟨T',locs,cells,slots,X',⟨hc0,hs0,hcR,hsR,?_⟩,?_⟩
   ·rw[e']
    split at hm<;>(cases hm;exact⟨O,Kp,N,hn⟩)
   ·split at hm
    ·rename_i q
     cases hm
     rw[if_pos q] at st1
     exact fun t kt=>st1 t kt
    ·rename_i q
     cases hm
     rw[if_neg q] at st1
     exact fun t kt=>st1 t kt
  ·cases hm
 ·-- putfield
  rename_i k
  obtain⟨idx,n,d,rfl,hmem⟩:=canon_put hc
  obtain rfl:len=3:=by simpa [lenOK,ilen] using ho
  obtain⟨wl,hf⟩:=K.2.2.2.2.1 _ _ _ _ hmem
  have Fd:=O.2.1 n d k hf
  obtain⟨-,k2,k3,k4,-⟩:=K.2.1 n d k hf
  obtain⟨kk,wi⟩:=K.1
  unfold pf at hm
  split at hm
  ·rename_i v r
   split at hm
   ·rename_i q
    have q2:k%3≠2:=by omega
    cases hm
    have hd':=k3 q
    subst hd'
    obtain⟨T',h',X',e',W,st1⟩:=putFN X hx hZ hown wl Via.refl rfl Fd O.1 (Or.inl (k2 q2)) wi (ty:= .int) (by decide) (v:= .int v) (v':= .int v) rfl rfl (g:=mkF m pc L (.int v :: .ref x.1::st'.map (cv (rho1 x)))) rfl rfl hd
    subst e'
    exact⟨T',_,cells,slots,X',⟨hc0,hs0,hcR,hsR,O.put K hf q2 W (fun c i=>hGP S 0 (k/3) v c i),Kp.wr W (Or.inl (mem_rng (r:=0) (Nat.zero_le _))),N.app fun y hy=>by cases List.mem_singleton.mp hy;exact hn,hn⟩,fun t kt=>st1 t kt⟩
   ·split at hm
    ·rename_i q
     have q2:k%3≠2:=by omega
     cases hm
     have hd':=k4 q
     subst hd'
     obtain⟨T',h',X',e',W,st1⟩:=putFN X hx hZ hown wl Via.refl rfl Fd O.1 (Or.inl (k2 q2)) wi (ty:= .boolean) (by decide) (v:= .int v) (v':= .int (v&&&1)) rfl (fits_nar_bool v) (g:=mkF m pc L (.int v :: .ref x.1::st'.map (cv (rho1 x)))) rfl rfl hd
     subst e'
     exact⟨T',_,cells,slots,X',⟨hc0,hs0,hcR,hsR,O.put K hf q2 W (fun c i=>hGP S 0 (k/3) (v&&&1) c i),Kp.wr W (Or.inl (mem_rng (r:=0) (Nat.zero_le _))),N.app fun y hy=>by cases List.mem_singleton.mp hy;exact hn,hn⟩,fun t kt=>st1 t kt⟩
    ·cases hm
  ·cases hm
 ·-- iaload
  obtain rfl:=canon_heapy rfl hc
  obtain rfl:len=1:=by simpa [lenOK,ilen] using ho
  unfold al at hm
  split at hm
  ·rename_i j a r
   split at hm
   ·rename_i q hq
    split at hm
    ·rename_i hb
     cases hm
     obtain⟨ty,n⟩:=q
     obtain⟨cell,A,z,H⟩:=O.2.2 _ _ _ hq
     obtain rfl:ty = .int:=by cases ty<;>simp[isI] at hb ⊢
     have hin:=inb_spec hb.2
     rw[←z] at hin
     have hv:=H j.toNatClampNeg (by rw[←z];exact Nat.lt_of_not_le fun q=>hin (Or.inr q))
     exact⟨T,locs,cells,slots,X,⟨hc0,hs0,hcR,hsR,O,Kp,N,hn⟩,fun t kt=>X.iaload hx A.1 (State.isArrayOf_alike hZ.alike A.2.1) A.2.2 hin hv (g:=mkF m pc L (.int j :: .ref (x.1+(a+1))::r.map (cv (rho1 x)))) rfl rfl hd t kt⟩
    ·cases hm
   ·cases hm
  ·cases hm
 ·-- baload
  obtain rfl:=canon_heapy rfl hc
  obtain rfl:len=1:=by simpa [lenOK,ilen] using ho
  unfold al at hm
  split at hm
  ·rename_i j a r
   split at hm
   ·rename_i q hq
    split at hm
    ·rename_i hb
     cases hm
     obtain⟨ty,n⟩:=q
     obtain⟨cell,A,z,H⟩:=O.2.2 _ _ _ hq
     have hin:=inb_spec hb.2
     rw[←z] at hin
     have hv:=H j.toNatClampNeg (by rw[←z];exact Nat.lt_of_not_le fun q=>hin (Or.inr q))
     refine⟨T,locs,cells,slots,X,⟨hc0,hs0,hcR,hsR,O,Kp,N,hn⟩,fun t kt=>?_⟩
     have hty:ty = .boolean∨ty = .byte:=by cases ty<;>simp[isB] at hb ⊢
     rcases hty with rfl | rfl
     ·exact X.baloadBooleans hx A.1 (State.isArrayOf_alike hZ.alike A.2.1) A.2.2 hin hv (g:=mkF m pc L (.int j :: .ref (x.1+(a+1))::r.map (cv (rho1 x)))) rfl rfl hd t kt
     ·exact X.baloadBytes hx A.1 (State.isArrayOf_alike hZ.alike A.2.1) A.2.2 hin hv (g:=mkF m pc L (.int j :: .ref (x.1+(a+1))::r.map (cv (rho1 x)))) rfl rfl hd t kt
    ·cases hm
   ·cases hm
  ·cases hm
 ·-- iastore
  obtain rfl:=canon_heapy rfl hc
  obtain rfl:len=1:=by simpa [lenOK,ilen] using ho
  unfold sa at hm
  split at hm
  ·rename_i v j a r
   split at hm
   ·rename_i q hq
    split at hm
    ·rename_i hb
     cases hm
     obtain⟨ty,n⟩:=q
     obtain⟨cell,A,z,H⟩:=O.2.2 _ _ _ hq
     obtain rfl:ty = .int:=by cases ty<;>simp[isI] at hb ⊢
     have hin:=inb_spec hb.2
     have hlt':j.toNatClampNeg<n:=Nat.lt_of_not_le fun q=>hin (Or.inr q)
     rw[←z] at hin
     obtain⟨T',h',X',e',W,st1⟩:=stI X hx hZ rfl A (j:=j) hin (g:=mkF m pc L (.int v :: .int j :: .ref (x.1+(a+1))::st'.map (cv (rho1 x)))) rfl rfl hd
     subst e'
     exact⟨T',_,cells,slots,X',⟨hc0,hs0,hcR,hsR,O.set hq hlt' W (fun c i=>hGP S (a+1) _ v c i),Kp.wr W (Or.inl (mem_rng (hlt hq))),N.app fun y hy=>by cases List.mem_singleton.mp hy;exact Nat.le_trans hn (Nat.le_add_right _ _),hn⟩,fun t kt=>st1 t kt⟩
    ·cases hm
   ·cases hm
  ·cases hm
 ·-- bastore
  obtain rfl:=canon_heapy rfl hc
  obtain rfl:len=1:=by simpa [lenOK,ilen] using ho
  unfold sa at hm
  split at hm
  ·rename_i v j a r
   split at hm
   ·rename_i q hq
    split at hm
    ·rename_i hb
     cases hm
     obtain⟨ty,n⟩:=q
     obtain⟨cell,A,z,H⟩:=O.2.2 _ _ _ hq
     have hin:=inb_spec hb.2
     have hlt':j.toNatClampNeg<n:=Nat.lt_of_not_le fun q=>hin (Or.inr q)
     rw[←z] at hin
     have hty:ty = .boolean∨ty = .byte:=by cases ty<;>simp[isB] at hb ⊢
     rcases hty with rfl | rfl
     ·obtain⟨T',h',X',e',W,st1⟩:=stZ X hx hZ rfl A (j:=j) hin (g:=mkF m pc L (.int v :: .int j :: .ref (x.1+(a+1))::st'.map (cv (rho1 x)))) rfl rfl hd
      subst e'
      exact⟨T',_,cells,slots,X',⟨hc0,hs0,hcR,hsR,O.set hq hlt' W (fun c i=>hGP S (a+1) _ _ c i),Kp.wr W (Or.inl (mem_rng (hlt hq))),N.app fun y hy=>by cases List.mem_singleton.mp hy;exact Nat.le_trans hn (Nat.le_add_right _ _),hn⟩,fun t kt=>st1 t kt⟩
     ·obtain⟨T',h',X',e',W,st1⟩:=stB X hx hZ rfl A (j:=j) hin (g:=mkF m pc L (.int v :: .int j :: .ref (x.1+(a+1))::st'.map (cv (rho1 x)))) rfl rfl hd
      subst e'
      exact⟨T',_,cells,slots,X',⟨hc0,hs0,hcR,hsR,O.set hq hlt' W (fun c i=>hGP S (a+1) _ _ c i),Kp.wr W (Or.inl (mem_rng (hlt hq))),N.app fun y hy=>by cases List.mem_singleton.mp hy;exact Nat.le_trans hn (Nat.le_add_right _ _),hn⟩,fun t kt=>st1 t kt⟩
    ·cases hm
   ·cases hm
  ·cases hm
 ·-- arraylength
  obtain rfl:=canon_heapy rfl hc
  obtain rfl:len=1:=by simpa [lenOK,ilen] using ho
  unfold la at hm
  split at hm
  ·rename_i a r
   split at hm
   ·rename_i q hq
    cases hm
    obtain⟨ty,n⟩:=q
    obtain⟨cell,A,z,H⟩:=O.2.2 _ _ _ hq
    subst z
    exact⟨T,locs,cells,slots,X,⟨hc0,hs0,hcR,hsR,O,Kp,N,hn⟩,fun t kt=>X.arraylength hx A.1 (State.isArrayOf_alike hZ.alike A.2.1) (g:=mkF m pc L (.ref (x.1+(a+1))::r.map (cv (rho1 x)))) rfl rfl hd t kt⟩
   ·cases hm
  ·cases hm
 ·cases hm
def MthOK(C:String)(Tb:Tabs)(Z:State)(a0:Array Value)(mi:MI)(rt:Nat→Option FieldType)(own:String)(k:Nat)(na:Nat→Nat):Prop:=
 (∀idx,(idx,k)∈Tb.2.1→VirtW Z a0 C own idx (mi k).1 (mi k).2.1 (mi k).2.2.1 (rt k))∧∃ps,parseMethodDescriptor (mi k).1.desc=some ⟨ps,rt k⟩∧ps.length=na k
theorem met1{code:Codes}{mop:Mop σ}{cop:Cop}{n:Nat}(hW:Walks code rt mop cop mi C Z l rho1 (J1 C fds arrs Z G) n)(hpn:plainName C=true){k:Nat}(hcls:(mi k).1.cls=C){as:List Value}(hok:okn as=true)(hlen:(entL (.ref 0::as)).length≤(mi k).2.2.1)
  {S:σ} {r:Res σ} (hit:iter (plan code rt mop cop) n (k,0,entL (.ref 0::as),[],S)=some r) {a:Nat} {h:Heap} {n0:Nat} (O:ObjAt C fds arrs Z h a (G S)) (hn:n0≤a) (ws:List Jvm.Cond) :
  MetFree l (mi k).1 (head1 (Cond.code (mi k).1 (mi k).2.1 (mi k).2.2.1 (rt k)::ws) ({ frames:=(mi k).2.2.2.1,cells:=0,slots:=0,locals:=(mi k).2.2.2.2 }:Room))
   (fun A U=>A=(.ref a::as).toArray∧Z.Warmed39 U.vm∧U.heap=h) (fun _ _ _ _ _=>True)
   (fun _ U o U'=>∃v L,o = .returned v∧(v=r.1∧(∀ρ',r.1.map (cv ρ')=r.1)∧Fr n0 L∧Keep h U'.heap (rng arrs a)∧ObjAt C fds arrs Z U'.heap a (G r.2))∧FrameEnd U o U' L 0 0):=by
 refine MetFree.of_bodySF (plainFor_of_name (by rw[hcls];exact hpn)) hisR ?_
 intro p e s m args below meth c s₁ Bd hml0 hP hK
 obtain⟨rfl,hZ,hh⟩:=hP
 have hown:s.vm.findClass C=some m.cls:=by rw[←hcls];exact findClass_of_methodNamed Bd.named
 have hnm:=(name_of_methodNamed Bd.named Bd.method).1
 have X0:=Stand.of_body Bd
 have e0:s₁.heap=h:=by rw[←hh,Bd.state];rfl
 obtain⟨L,q1,q2,q3,q4⟩:=entry_rel (rho1 (a,h,n0,0,0)) (vs:= .ref 0::as) (by simpa [okv] using (okn_spec hok).1) hlen
 obtain⟨T',L',k',n',X',⟨j1,j2,-,-,j5,j6,j7,-⟩,⟨ok1,ok2⟩,st⟩:=hW (a,h,n0,0,0) p e _ s m _ below meth c k 0 _ [] S r hit s₁ [] 0 0 L X0 ⟨Bd.exec,hZ,hown,Bd.bytes,hml0,Bd.returns,hnm,Nat.le_refl _,Nat.le_refl _⟩
  ⟨rfl,rfl,Nat.le_refl _,Nat.le_refl _,by rw[e0];exact O,by rw[e0];exact Keep.refl _ _,Fr.nil _,hn⟩ q2 q3 (by rw[q4,hml0])
 obtain⟨fs,hr,hrun,hended,hWm,hsame⟩:=X'.leave (v:=r.1) ok1
 refine⟨_,_,?_,hrun,hended,_,_,rfl,⟨rfl,ok2,j7,j6,j5⟩,⟨_,rfl⟩,hWm,by subst j1 j2;exact hsame⟩
 have:=st fs hr
 rw[show entryFrame m (.ref a::as).toArray (mi k).2.2.1=mkF m 0 L [] from by rw[←q1 m,List.map_cons,(okn_spec hok).2];rfl]
 exact this
def RoomOK(code:Codes)(mi:MI)(wm:Nat→Nat):Prop:=∀mm pc k pn kp,code mm pc=some (.invokevirtual k,pn,kp)→(mi k).2.2.2.1+1≤(mi mm).2.2.2.1∧wm mm+((mi k).2.2.1+11)+(mi k).2.2.2.2≤(mi mm).2.2.2.2
theorem cop1_ok{code:Codes}{na wm:Nat→Nat}{mop:Mop σ}(K:ClsOK C fds arrs Tb Z a0)(hpn:plainName C=true)(wz:(Cond.initialized C).before a0 Z=true)(hC:C ≠ "java/lang/invoke/MethodHandle" ∧ C ≠ "java/lang/invoke/VarHandle")
  (hm:∀k idx,(idx,k)∈Tb.2.1→MthOK C Tb Z a0 mi rt C k na) (hR:RoomOK code mi wm) :
  CopOK code rt mop (cop1 na (fun k=>(mi k).2.2.1) wm) Tb mi C Z l rho1 (J1 C fds arrs Z G):=by
 intro n hW x p e R s m args below meth c mm pc len i0 i st q S r T locs cells slots L X F hJ hs hd ho hc hne hq hit
 obtain⟨hx,hZ,hown,f4,f5,f6,f7,f8,f9⟩:=F
 obtain⟨hc0,hs0,hcR,hsR,O,Kp,N,hn⟩:=hJ
 unfold cop1 at hq
 split at hq
 ·rename_i k
  split at hq
  ·rename_i as r0 ht
   split at hq
   ·rename_i hb
    cases hq
    obtain⟨hok,hcat,hlen⟩:=hb
    obtain⟨idx,rfl,hmem⟩:=canon_inv hc
    obtain rfl:len=3:=by simpa [lenOK,ilen] using ho
    obtain⟨hv,ps,hps,hna⟩:=hm k idx hmem
    have hv:=hv idx hmem
    obtain⟨kk,wi⟩:=K.1
    obtain⟨qs,q1,q2,q3⟩:=takeA_spec ht
    have q2':as=qs:=by simpa using q2
    subst q2'
    obtain⟨kp,hcd⟩:=hne
    have hroom:=hR mm pc k _ kp hcd
    have hM:=met1 (ws:=[]) hW hpn (hv.1) hok hlen hit O hn
    have hcR':cells+0≤R.cells:=hcR
    have hsR':slots+0≤R.slots:=hsR
    obtain⟨v,T',Lc,X',⟨e1,e0,e2,e3,e4⟩,G'⟩:=callV X hx hZ hown hv wi wz hC hps (as':=as) (by omega) (Q:=fun v h' L=>v=r.1∧(∀ρ',r.1.map (cv ρ')=r.1)∧Fr x.2.2.1 L∧Keep T.heap h' (rng arrs x.1)∧ObjAt C fds arrs Z h' x.1 (G r.2)) hM rfl O.1 (W:=wm mm) (rm:={ frames:=(mi k).2.2.2.1,cells:=0,slots:=0,locals:=(mi k).2.2.2.2 }) (Nat.le_trans hroom.1 f8) (Nat.le_trans hroom.2 f9) hcR' hsR' hs (rest:=r0.map (cv (rho1 x))) (st:=st.map (cv (rho1 x)))
     (by rw[q3,List.map_append,List.map_reverse,(okn_spec hok).2];rfl) (by
      have:(r0.map (cv (rho1 x))).map (fun v=>v.category)=r0.map fun v=>v.category:=by
       rw[List.map_map];apply List.map_congr_left;intro v _;cases v<;>rfl
      rw[this];exact hcat) hd
    subst e1
    refine⟨T',_,_,_,X',⟨hc0,hs0,hcR,hsR,e4,Kp.trans e3 (fun y hy=>Or.inl hy),N.app e2,hn⟩,?_⟩
    have:(r.1.toList++r0).map (cv (rho1 x))=r.1.toList++r0.map (cv (rho1 x)):=by
     rw[List.map_append]
     congr 1
     have:=e0 (rho1 x)
     cases hr:r.1 with
     |none=>rfl
     |some w=>rw[hr] at this;simpa using this
    rw[this]
    exact G'
   ·cases hq
  ·cases hq
 ·cases hq
end L1
abbrev Item:=Option ArrayType×Nat×String×String
def Part(C:String)(gds:List (String×String))(fds:List (String×String×Nat))(arrs:List (FieldType×Nat))(Z:State)(h:Heap)(a:Nat)(g:Nat→Int32)(k:Nat):Prop:=
 Exa Z h a C∧(∀n d,(n,d)∈gds→∃v,Fld Z h a C n d v) ∧
 (∀n d q,(n,d,q)∈fds→if q%3=2 then (if q/3<k then Fld Z h a C n d (.ref (a+(q/3+1))) else ∃v,Fld Z h a C n d v) else Fld Z h a C n d (.int (g (q/3)))) ∧
 (∀(j:Nat) (ty:FieldType) (len:Nat),j<k→arrs[j]? = some (ty,len)→∃cell,Arr Z h (a+(j+1)) cell ty∧cell.slots.size=len∧∀i,i<len→cell.slots[i]? = some (.int 0))∧h.size=a+1+k
def proChk(bytes:ByteArray)(Tb:Tabs)(ml:Nat)(gds:List (String×String))(fds:List (String×String×Nat))(arrs:List (FieldType×Nat))(pe:Nat):List Item→Nat→Nat→List (Nat×Int)→Bool
 |[],pc,k,iv=>decide (pc=pe)&&decide (k=arrs.length)&&decide (iv=[])
 |(t,idx,n,d)::r,pc,k,iv=>(match decode bytes pc with
  | .ok (.aload_n 0,1)=>(match decode bytes (pc+1) with
   | .ok (ip,lp)=>lenOK ip lp&&(match canon Tb ml (pc+1) ip with
    |some (.iconst v)=>(match t with
     |some t=>(match decode bytes (pc+1+lp),decode bytes (pc+1+lp+2) with
      | .ok (.newarray t',2),.ok (.putfield idx',3)=>decide (t'=t)&&decide (idx'=idx)&&decide (0≤v)&&decide (v<65536)&&decide (arrs[k]? = some (newarray.typeOf t,v.toNat))&&decide ((n,d,3*k+2)∈fds)&&proChk bytes Tb ml gds fds arrs pe r (pc+1+lp+5) (k+1) iv
      |_,_=>false)
     |none=>(match decode bytes (pc+1+lp) with
      | .ok (.putfield idx',3)=>decide (idx'=idx)&&(if (n,d)∈gds then proChk bytes Tb ml gds fds arrs pe r (pc+1+lp+3) k iv else (match iv with
       |q::iv=>decide ((n,d,3*q.1)∈fds)&&decide (q.2=v)&&proChk bytes Tb ml gds fds arrs pe r (pc+1+lp+3) k iv
       |[]=>false))
      |_=>false))
    |_=>false)
   |_=>false)
  |_=>false)
def finG(g:Nat→Int32)(iv:List (Nat×Int)):Nat→Int32:=iv.foldl (fun g q=>fun i=>if i=q.1 then Int32.ofInt q.2 else g i) g
def slotSum(arrs:List (FieldType×Nat))(k:Nat):Nat:=((arrs.take k).map (·.2)).sum
theorem slotSum_succ{arrs:List (FieldType×Nat)}{k:Nat}{q:FieldType×Nat}(h:arrs[k]? = some q):slotSum arrs (k+1)=slotSum arrs k+q.2:=by
 unfold slotSum
 rw[List.take_add_one,h]
 simp
theorem slotSum_le{arrs:List (FieldType×Nat)}:∀ {k n:Nat},k≤n→slotSum arrs k≤slotSum arrs n:=by
 intro k n h
 induction h with
 |refl=>exact Nat.le_refl _
 | @step m _ ih=>
  cases hq:arrs[m]? with
  |none=>
   have:arrs.length≤m:=by simpa using hq
   unfold slotSum at ih ⊢
   rw[List.take_of_length_le (Nat.le_succ_of_le this)]
   rw[List.take_of_length_le this] at ih
   exact ih
  |some q=>rw[slotSum_succ hq];omega
section Maker
variable {C:String} {gds:List (String×String)} {fds:List (String×String×Nat)} {arrs:List (FieldType×Nat)} {Tb:Tabs} {Z:State} {a0:Array Value} {h h':Heap} {a:Nat}
def MakOK(C:String)(gds:List (String×String))(fds:List (String×String×Nat))(arrs:List (FieldType×Nat))(items:List Item)(Z:State)(a0:Array Value):Prop:=
 (∀t idx n d,(t,idx,n,d)∈items→(Cond.fieldLink C idx C n d).before a0 Z=true∧Laid Z a0 C C n d∧(t=none→d = "I")∧(t≠none→∃u,parseFieldDescriptor d=some (.array u))∧∀t',t=some t'→(Cond.arrayClass (newarray.typeOf t')).before a0 Z=true) ∧
 (∀n d,(n,d)∈gds→Laid Z a0 C C n d∧d = "I" ∧ ∀n' d' k',(n',d',k')∈fds→n≠n') ∧
 (∀n d n' d' q,(n,d,q)∈fds→(n',d',q)∈fds→n=n') ∧
 (∀n d n' d',(n,d)∈gds→(n',d')∈gds→n=n'→d=d')∧∀(j:Nat) (ty:FieldType) (n:Nat),arrs[j]? = some (ty,n)→defaultValue ty = .int 0
theorem i32_lit{v:Int}(h0:0≤v)(h1:v<65536):¬Int32.ofInt v<0∧(Int32.ofInt v).toNatClampNeg=v.toNat:=by
 have e:(Int32.ofInt v).toInt=v:=Int32.toInt_ofInt_of_le (by omega) (by omega)
 constructor
 ·rw[Int32.lt_iff_toInt_lt,e]
  have:(0:Int32).toInt=0:=rfl
  omega
 ·simp only[Int32.toNatClampNeg,e]
section Pro
variable {p:Program} {l:Launch} {e:Env} {R:Room} {s:State} {m:MethodId} {args:Array Value} {below:List Frame} {meth:Method} {c:Code} {ρ:Nat→Nat} {items:List Item} {pe n0:Nat} {h0:Heap} {ls:List Value} {L:Array Slot}
theorem simPush{T:State}{locs:List Loc}{cells slots:Nat}(X:Stand p l e R s m args below meth c T locs cells slots)(hx:p.tables.exec=Jvm.exec)(hZ:Z.Warmed39 s.vm){own:String}(hown:s.vm.findClass own=some m.cls)(hC:Cst Tb Z a0 own){pc lp ml:Nat}{ip:Instr}{v:Int}(hd:decode c.code pc = .ok (ip,lp))(ho:lenOK ip lp=true)(hc:canon Tb ml pc ip=some (.iconst v)){st:List Value} :
  Go p e below T (mkF m pc L st) T (mkF m (pc+lp) L (.int (Int32.ofInt v)::st)):=by
 intro t kt
 cases ip<;>try (simp[canon,lt,plain1,heapy] at hc;done)
 case iconst j=>
  cases hc;obtain rfl:lp=1:=by simpa [lenOK,ilen] using ho
  exact XS.iconst X.here hx rfl hd kt
 case bipush j=>
  cases hc;obtain rfl:lp=2:=by simpa [lenOK,ilen] using ho
  rw[Int32.ofInt_toInt] at kt
  exact XS.bipush X.here hx rfl hd kt
 case sipush j=>
  cases hc;obtain rfl:lp=3:=by simpa [lenOK,ilen] using ho
  rw[Int32.ofInt_toInt] at kt
  exact XS.sipush X.here hx rfl hd kt
 case ldc j=>
  obtain⟨w,hw,hc⟩:=Option.map_eq_some_iff.mp hc;cases hc;obtain rfl:lp=2:=by simpa [lenOK,ilen] using ho
  rw[Int32.ofInt_toInt] at kt
  exact X.ldcInt hx hown (cst1 hZ hC hw) (g:=mkF m pc L st) rfl hd _ kt
set_option maxHeartbeats 1000000 in
theorem pro_walk (K : ClsOK C fds arrs Tb Z a0) (M : MakOK C gds fds arrs items Z a0) (hx : p.tables.exec = Jvm.exec) (hZ : Z.Warmed39 s.vm) (hown : s.vm.findClass C = some m.cls) (hCs : Cst Tb Z a0 C) (hnm : meth.name = "<init>") (hn : n0 ≤ a) (RL : LocRel ρ (.ref 0 :: ls) L) (W : WFL L) (hρ : ρ 0 = a) (hsz : s.heap.size = a + 1)
    (hRc : arrs.length ≤ R.cells) (hRs : slotSum arrs arrs.length ≤ R.slots) :
    ∀ (its : List Item) (pc k : Nat) (iv : List (Nat × Int)) (g : Nat → Int32) (T : State) (locs : List Loc), (∀ it ∈ its, it ∈ items) → proChk c.code Tb L.size gds fds arrs pe its pc k iv = true → Stand p l e R s m args below meth c T locs k (slotSum arrs k) → Part C gds fds arrs Z T.heap a g k → Keep h0 T.heap (rng arrs a) → Fr n0 locs →
      ∃ T' locs', Stand p l e R s m args below meth c T' locs' arrs.length (slotSum arrs arrs.length) ∧ Part C gds fds arrs Z T'.heap a (finG g iv) arrs.length ∧ Keep h0 T'.heap (rng arrs a) ∧ Fr n0 locs' ∧ Go p e below T (mkF m pc L []) T' (mkF m pe L []) := by
  intro its
  induction its with
  | nil =>
    intro pc k iv g T locs _ hp X Pt Kp N
    simp only [proChk, Bool.and_eq_true, decide_eq_true_eq] at hp
    obtain ⟨⟨rfl, rfl⟩, rfl⟩ := hp
    exact ⟨T, locs, X, Pt, Kp, N, fun t kt => kt⟩
  | cons it r ih =>
    intro pc k iv g T locs hin hp X Pt Kp N
    obtain ⟨t, idx, n, d⟩ := it
    obtain ⟨wl, ld, hd1, hd2, hd3⟩ := M.1 t idx n d (hin _ (List.mem_cons_self ..))
    have hin' : ∀ it ∈ r, it ∈ items := fun it h => hin it (List.mem_cons_of_mem _ h)
    obtain ⟨kk, wi⟩ := K.1
    obtain ⟨P1, P2, P3, P4, P5⟩ := Pt
    simp only [proChk] at hp
    split at hp
    · rename_i hdA
      split at hp
      · rename_i ip lp hdP
        simp only [Bool.and_eq_true] at hp
        obtain ⟨hlo, hp⟩ := hp
        split at hp
        · rename_i v hcan
          have sA : ∀ (T : State) (locs : List Loc) (cells slots : Nat), Stand p l e R s m args below meth c T locs cells slots → Go p e below T (mkF m pc L []) T (mkF m (pc + 1 + lp) L [.int (Int32.ofInt v), .ref a]) := by
            intro T locs cells slots X t kt
            refine XS.aloadN X.here hx rfl hdA (RL 0 (.ref 0) rfl (by simp)) rfl ?_
            show Steps p.tables e below (T.setTop (mkF m (pc + 1) L [.ref (ρ 0)])) t
            rw [hρ]
            exact simPush X hx hZ hown hCs hdP hlo hcan t kt
          split at hp
          · -- an array
            rename_i t
            split at hp
            · rename_i t' idx' hdN hdF
              simp only [Bool.and_eq_true, decide_eq_true_eq] at hp
              obtain ⟨⟨⟨⟨⟨⟨rfl, rfl⟩, h1⟩, h2⟩, h3⟩, h4⟩, hp⟩ := hp
              obtain ⟨hneg, hnat⟩ := i32_lit h1 h2
              have hk : k < arrs.length := (List.getElem?_eq_some_iff.mp h3).1
              have hS := slotSum_succ h3
              have hle := slotSum_le (arrs := arrs) (show k + 1 ≤ arrs.length from hk)
              simp only [] at hS
              obtain ⟨T1, hh1, cA, X1, e1, E1, A1, st1⟩ := newP X hx hZ (hd3 t' rfl) rfl (g := mkF m (pc + 1 + lp) L [.int (Int32.ofInt v), .ref a]) rfl hdN rfl hneg (cap := v.toNat) (by omega) (by omega) (by omega) (by omega)
              subst e1
              have hsz1 : T1.heap.size = a + 1 + (k + 1) := by
                have u := X1.heapSize
                have lo : T.heap.size < T1.heap.size := A1.lt
                omega
              have eA : T.heap.size = a + (k + 1) := by omega
              have F1 : ∃ v, Fld Z T.heap a C n d v := by
                have := P3 n d _ h4
                rw [if_pos (by omega), if_neg (by omega)] at this
                exact this
              obtain ⟨v0, F1⟩ := F1
              obtain ⟨u, hu⟩ := hd2 (by simp)
              have LL : (Cond.lays C C n d).before a0 Z = true ∨ ((Cond.laysFinal C C n d).before a0 Z = true ∧ C = C ∧ meth.name = "<init>") := ld.imp id (fun q => ⟨q, rfl, hnm⟩)
              obtain ⟨T2, hh2, X2, e2, W2, st2⟩ := putF X1 hx hZ hown (host := "") (Or.inl wl) Via.refl rfl (F1.ext E1) (P1.ext E1) LL wi (ty := .array u) hu (v := .ref T.heap.size) rfl rfl (g := mkF m (pc + 1 + lp + 2) L [.ref T.heap.size, .ref a]) rfl rfl hdF
              subst e2
              rw [← hS] at X2
              have Pt2 : Part C gds fds arrs Z T2.heap a g (k + 1) := by
                refine ⟨(P1.ext E1).wr W2, fun n' d' hg => ?_, fun n' d' q hq => ?_, fun j ty len hj hq => ?_, by rw [W2.size]; exact hsz1⟩
                · obtain ⟨v', Fg⟩ := P2 n' d' hg
                  obtain ⟨lg, rfl, hne⟩ := M.2.1 n' d' hg
                  exact ⟨v', (Fg.ext E1).other W2 (Or.inr (slot_ne lg ld (hne _ _ _ h4) (t := .int) (by decide) hu))⟩
                · have Fq := P3 n' d' q hq
                  by_cases e' : n' = n
                  · obtain ⟨rfl, rfl⟩ := K.2.2.1 _ _ _ _ _ _ hq h4 e'
                    subst e'
                    rw [if_pos (by omega), if_pos (by omega)]
                    have hsame := (F1.ext E1).same W2
                    have e3 : (3 * k + 2) / 3 + 1 = k + 1 := by omega
                    rw [e3, ← eA]
                    exact hsame
                  · obtain ⟨l2, -, -, -, t2, p2⟩ := K.2.1 _ _ _ hq
                    have ns := slot_ne l2 ld e' p2 hu
                    by_cases q3 : q % 3 = 2
                    · rw [if_pos q3] at Fq ⊢
                      by_cases q4 : q / 3 < k
                      · rw [if_pos q4] at Fq
                        rw [if_pos (by omega)]
                        exact (Fq.ext E1).other W2 (Or.inr ns)
                      · rw [if_neg q4] at Fq
                        have : ¬ q / 3 < k + 1 := fun q5 => by
                          have : q = 3 * k + 2 := by omega
                          subst this
                          exact e' (M.2.2.1 _ _ _ _ _ hq h4)
                        rw [if_neg this]
                        obtain ⟨v', Fq⟩ := Fq
                        exact ⟨v', (Fq.ext E1).other W2 (Or.inr ns)⟩
                    · rw [if_neg q3] at Fq ⊢
                      exact (Fq.ext E1).other W2 (Or.inr ns)
                · by_cases q4 : j < k
                  · obtain ⟨cell, A, z, H⟩ := P4 j ty len q4 hq
                    exact ⟨cell, (A.ext E1).other W2 (ne1 a j), z, H⟩
                  · have : j = k := by omega
                    subst this
                    cases h3.symm.trans hq
                    rw [eA] at A1
                    refine ⟨_, A1.other W2 (ne1 a j), by rw [sz_new, hnat], fun i hi => ?_⟩
                    have := M.2.2.2.2 j _ _ hq
                    simp only [newA, this, hnat]
                    rw [Array.getElem?_replicate, if_pos hi]
              obtain ⟨T', locs', X', Pt', Kp', N', G'⟩ := ih (pc + 1 + lp + 5) (k + 1) iv g T2 _ hin' hp X2 Pt2 ((Kp.ext E1).wr W2 (Or.inl (mem_rng (r := 0) (Nat.zero_le _)))) (N.app fun y hy => by cases List.mem_singleton.mp hy; exact hn)
              exact ⟨T', locs', X', Pt', Kp', N', fun t kt => sA T locs _ _ X t (st1 t (st2 t (G' t kt)))⟩
            · cases hp
          · -- a constant field
            split at hp
            · rename_i idx' hdF
              simp only [Bool.and_eq_true, decide_eq_true_eq] at hp
              obtain ⟨rfl, hp⟩ := hp
              split at hp
              · -- one that is not read
                rename_i hg
                obtain ⟨v0, F1⟩ := P2 n d hg
                obtain ⟨lg, rfl, hne⟩ := M.2.1 n d hg
                have LL : (Cond.lays C C n "I").before a0 Z = true ∨ ((Cond.laysFinal C C n "I").before a0 Z = true ∧ C = C ∧ meth.name = "<init>") := ld.imp id (fun q => ⟨q, rfl, hnm⟩)
                obtain ⟨T2, hh2, X2, e2, W2, st2⟩ := putF X hx hZ hown (host := "") (Or.inl wl) Via.refl rfl F1 P1 LL wi (ty := .int) (by decide) (v := .int (Int32.ofInt v)) rfl rfl (g := mkF m (pc + 1 + lp) L [.int (Int32.ofInt v), .ref a]) rfl rfl hdF
                subst e2
                have Pt2 : Part C gds fds arrs Z T2.heap a g k := by
                  refine ⟨P1.wr W2, fun n' d' hg' => ?_, fun n' d' q hq => ?_, fun j ty len hj hq => ?_, by rw [W2.size]; exact P5⟩
                  · obtain ⟨v', Fg⟩ := P2 n' d' hg'
                    by_cases e' : n' = n
                    · obtain rfl := M.2.2.2.1 _ _ _ _ hg' hg e'
                      subst e'
                      exact ⟨_, Fg.same W2⟩
                    · obtain ⟨lg', rfl, -⟩ := M.2.1 n' d' hg'
                      exact ⟨v', Fg.other W2 (Or.inr (slot_ne lg' lg e' (t := .int) (t' := .int) (by decide) (by decide)))⟩
                  · have Fq := P3 n' d' q hq
                    obtain ⟨l2, -, -, -, t2, p2⟩ := K.2.1 _ _ _ hq
                    have ns := slot_ne l2 lg (Ne.symm (hne _ _ _ hq)) p2 (t' := .int) (by decide)
                    by_cases q3 : q % 3 = 2
                    · rw [if_pos q3] at Fq ⊢
                      by_cases q4 : q / 3 < k
                      · rw [if_pos q4] at Fq ⊢
                        exact Fq.other W2 (Or.inr ns)
                      · rw [if_neg q4] at Fq ⊢
                        obtain ⟨v', Fq⟩ := Fq
                        exact ⟨v', Fq.other W2 (Or.inr ns)⟩
                    · rw [if_neg q3] at Fq ⊢
                      exact Fq.other W2 (Or.inr ns)
                  · obtain ⟨cell, A, z, H⟩ := P4 j ty len hj hq
                    exact ⟨cell, A.other W2 (ne1 a j), z, H⟩
                obtain ⟨T', locs', X', Pt', Kp', N', G'⟩ := ih (pc + 1 + lp + 3) k iv g T2 _ hin' hp X2 Pt2 (Kp.wr W2 (Or.inl (mem_rng (r := 0) (Nat.zero_le _)))) (N.app fun y hy => by cases List.mem_singleton.mp hy; exact hn)
                exact ⟨T', locs', X', Pt', Kp', N', fun t kt => sA T locs _ _ X t (st2 t (G' t kt))⟩
              · -- one that is read
                split at hp
                · rename_i q0 iv
                  obtain ⟨sl0, v1⟩ := q0
                  simp only [Bool.and_eq_true, decide_eq_true_eq] at hp
                  obtain ⟨⟨hm, rfl⟩, hp⟩ := hp
                  have F1 := P3 n d _ hm
                  rw [if_neg (by omega)] at F1
                  obtain ⟨-, kl, kI, -⟩ := K.2.1 n d _ hm
                  obtain rfl := kI (by omega)
                  have e3 : 3 * sl0 / 3 = sl0 := by omega
                  rw [e3] at F1
                  obtain ⟨T2, hh2, X2, e2, W2, st2⟩ := putF X hx hZ hown (host := "") (Or.inl wl) Via.refl rfl F1 P1 (Or.inl (kl (by omega))) wi (ty := .int) (by decide) (v := .int (Int32.ofInt v1)) rfl rfl (g := mkF m (pc + 1 + lp) L [.int (Int32.ofInt v1), .ref a]) rfl rfl hdF
                  subst e2
                  have Pt2 : Part C gds fds arrs Z T2.heap a (fun i => if i = sl0 then Int32.ofInt v1 else g i) k := by
                    refine ⟨P1.wr W2, fun n' d' hg' => ?_, fun n' d' q hq => ?_, fun j ty len hj hq => ?_, by rw [W2.size]; exact P5⟩
                    · obtain ⟨v', Fg⟩ := P2 n' d' hg'
                      obtain ⟨lg', rfl, hne⟩ := M.2.1 n' d' hg'
                      exact ⟨v', Fg.other W2 (Or.inr (slot_ne lg' ld (hne _ _ _ hm) (t := .int) (t' := .int) (by decide) (by decide)))⟩
                    · have Fq := P3 n' d' q hq
                      by_cases e' : n' = n
                      · obtain ⟨rfl, rfl⟩ := K.2.2.1 _ _ _ _ _ _ hq hm e'
                        subst e'
                        rw [if_neg (by omega)] at Fq ⊢
                        rw [e3]
                        dsimp only
                        rw [if_pos rfl]
                        exact Fq.same W2
                      · obtain ⟨l2, -, -, -, t2, p2⟩ := K.2.1 _ _ _ hq
                        have ns := slot_ne l2 ld e' p2 (t' := .int) (by decide)
                        by_cases q3 : q % 3 = 2
                        · rw [if_pos q3] at Fq ⊢
                          split at Fq
                          · rename_i q4; rw [if_pos q4]; exact Fq.other W2 (Or.inr ns)
                          · rename_i q4; rw [if_neg q4]
                            obtain ⟨v', Fq⟩ := Fq
                            exact ⟨v', Fq.other W2 (Or.inr ns)⟩
                        · rw [if_neg q3] at Fq ⊢
                          have : q / 3 ≠ sl0 := fun q5 => K.2.2.2.1 _ _ _ _ _ _ hq hm e' q3 (by omega) (by omega)
                          dsimp only
                          rw [if_neg this]
                          exact Fq.other W2 (Or.inr ns)
                    · obtain ⟨cell, A, z, H⟩ := P4 j ty len hj hq
                      exact ⟨cell, A.other W2 (ne1 a j), z, H⟩
                  obtain ⟨T', locs', X', Pt', Kp', N', G'⟩ := ih (pc + 1 + lp + 3) k iv _ T2 _ hin' hp X2 Pt2 (Kp.wr W2 (Or.inl (mem_rng (r := 0) (Nat.zero_le _)))) (N.app fun y hy => by cases List.mem_singleton.mp hy; exact hn)
                  exact ⟨T', locs', X', Pt', Kp', N', fun t kt => sA T locs _ _ X t (st2 t (G' t kt))⟩
                · cases hp
            · cases hp
        · cases hp
      · cases hp
    · cases hp
end Pro
theorem Part.done(K:ClsOK C fds arrs Tb Z a0)(hcov:∀n d q,(n,d,q)∈fds→q%3=2→q/3<arrs.length){g:Nat→Nat→Int32}{g0:Nat→Int32}(hg0:∀i,g 0 i=g0 i)(hg:∀c i,g (c+1) i=0)(Pt:Part C gds fds arrs Z h a g0 arrs.length):ObjAt C fds arrs Z h a g:=by
 obtain⟨P1,P2,P3,P4,P5⟩:=Pt
 refine⟨P1,fun n d q hq=>?_,fun j ty len hj=>?_⟩
 ·have F:=P3 n d q hq
  by_cases q3:q%3=2
  ·rw[if_pos q3,if_pos (hcov n d q hq q3)] at F
   rw[if_pos q3];exact F
  ·rw[if_neg q3] at F ⊢
   rw[hg0];exact F
 ·obtain⟨cell,A,z,H⟩:=P4 j ty len (List.getElem?_eq_some_iff.mp hj).1 hj
  exact⟨cell,A,z,fun i hi=>by rw[hg];exact H i hi⟩
section Met0
variable {σ:Type} {G:σ→Nat→Nat→Int32} {mi:MI} {rt:Nat→Option FieldType} {l:Launch} {items:List Item} {pe oi:Nat} {iv:List (Nat×Int)}
theorem met0{code:Codes}{mop:Mop σ}{cop:Cop}{n:Nat}(hW:Walks code rt mop cop mi C Z l rho1 (J1 C fds arrs Z G) n)(hpn:plainName C=true)(hcls:(mi 0).1.cls=C)(hnm0:(mi 0).1.name = "<init>")(hrt:rt 0=none)(K:ClsOK C fds arrs Tb Z a0)(M:MakOK C gds fds arrs items Z a0)(hCs:Cst Tb Z a0 C)
  (hcov:∀n d q,(n,d,q)∈fds→q%3=2→q/3<arrs.length) (hp:proChk (mi 0).2.1 Tb (mi 0).2.2.1 gds fds arrs pe items 4 0 iv=true) (d0:decode (mi 0).2.1 0 = .ok (.aload_n 0,1)) (d1:decode (mi 0).2.1 1 = .ok (.invokespecial oi,3))
  (w1:(Cond.methodLink C oi Lib.objectInit).before a0 Z=true) (w2:(Cond.instanceMethod Lib.objectInit).before a0 Z=true) (w3:(Cond.code Lib.objectInit ⟨#[0xb1]⟩ 1 none).before a0 Z=true) (hf:1≤(mi 0).2.2.2.1) (hlw:12≤(mi 0).2.2.2.2)
  {as:List Value} (hok:okn as=true) (hlen:(entL (.ref 0::as)).length≤(mi 0).2.2.1) {S:σ} (hS0:∀i,G S 0 i=finG (fun _=>0) iv i) (hS:∀c i,G S (c+1) i=0) {r:Res σ} (hit:iter (plan code rt mop cop) n (0,pe,entL (.ref 0::as),[],S)=some r) {a:Nat} {h:Heap} {n0:Nat} (Pt:Part C gds fds arrs Z h a (fun _=>0) 0) (hn:n0≤a) (ws:List Jvm.Cond) :
  MetFree l (mi 0).1 (head1 (Cond.code (mi 0).1 (mi 0).2.1 (mi 0).2.2.1 none::ws) ({ frames:=(mi 0).2.2.2.1,cells:=arrs.length,slots:=slotSum arrs arrs.length,locals:=(mi 0).2.2.2.2 }:Room))
   (fun A U=>A=(.ref a::as).toArray∧Z.Warmed39 U.vm∧U.heap=h) (fun _ _ _ _ _=>True)
   (fun _ U o U'=>∃v L,o = .returned v∧(v=none∧Fr n0 L∧Keep h U'.heap (rng arrs a)∧ObjAt C fds arrs Z U'.heap a (G r.2))∧FrameEnd U o U' L arrs.length (slotSum arrs arrs.length)):=by
 refine MetFree.of_bodySF (plainFor_of_name (by rw[hcls];exact hpn)) hisR ?_
 intro p e s m args below meth c s₁ Bd hml0 hP hK
 obtain⟨rfl,hZ,hh⟩:=hP
 have hx:=Bd.exec
 have hby:=Bd.bytes
 have hown:s.vm.findClass C=some m.cls:=by rw[←hcls];exact findClass_of_methodNamed Bd.named
 have hnm:=(name_of_methodNamed Bd.named Bd.method).1
 have X0:=Stand.of_body Bd
 have e0:s₁.heap=h:=by rw[←hh,Bd.state];rfl
 have x:I1:=(a,h,n0,arrs.length,slotSum arrs arrs.length)
 obtain⟨L,q1,q2,q3,q4⟩:=entry_rel (rho1 (a,h,n0,arrs.length,slotSum arrs arrs.length)) (vs:= .ref 0::as) (by simpa [okv] using (okn_spec hok).1) hlen
 have hsz:L.size=c.maxLocals:=by rw[q4,hml0]
 have q2':LocRel (rho1 (a,h,n0,arrs.length,slotSum arrs arrs.length)) (.ref 0::entL as) L:=q2
 obtain⟨T1,X1,e1,st1⟩:=initO X0 hx hZ hown w1 w2 w3 e0 (g:=mkF m 1 L [.ref a]) rfl hsz rfl (hb hby d1) hf (W:=0) (by show 2*0+_≤_;exact Nat.le_of_eq rfl) (by show 0+12≤(mi 0).2.2.2.2;omega)
 obtain⟨T2,locs2,X2,P2,K2,N2,G2⟩:=pro_walk (ρ:=rho1 (a,h,n0,arrs.length,slotSum arrs arrs.length)) (pe:=pe) (h0:=h) (items:=items) K M hx hZ hown hCs (hnm.trans hnm0) hn q2' q3 rfl (by rw[hh];exact Pt.2.2.2.2) (Nat.le_refl _) (Nat.le_refl _) items 4 0 iv (fun _=>0) T1 [] (fun _ h=>h) (by rw[hby,q4];exact hp) X1 (by rw[e1];exact Pt) (by rw[e1];exact Keep.refl _ _) (Fr.nil _)
 obtain⟨T',L',k',n',X',⟨j1,j2,-,-,j5,j6,j7,-⟩,⟨ok1,ok2⟩,st⟩:=hW (a,h,n0,arrs.length,slotSum arrs arrs.length) p e _ s m _ below meth c 0 pe _ [] S r hit T2 locs2 _ _ L X2 ⟨hx,hZ,hown,hby,hml0,by rw[hrt];exact Bd.returns,hnm,Nat.le_refl _,Nat.le_refl _⟩
  ⟨rfl,rfl,Nat.le_refl _,Nat.le_refl _,P2.done K hcov hS0 hS,K2,N2,hn⟩ q2 q3 hsz
 have hr0:r.1=none:=ok1 Bd.returns
 obtain⟨fs,hr,hrun,hended,hWm,hsame⟩:=X'.leave (v:=none) (fun _=>rfl)
 rw[hr0] at st
 refine⟨_,_,?_,hrun,hended,_,_,rfl,⟨rfl,j7,j6,j5⟩,⟨_,rfl⟩,hWm,by subst j1 j2;exact hsame⟩
 rw[show entryFrame m (.ref a::as).toArray (mi 0).2.2.1=mkF m 0 L [] from by rw[←q1 m,List.map_cons,(okn_spec hok).2];rfl]
 refine XS.aloadN X0.here hx rfl (hb hby d0) (q2' 0 (.ref 0) rfl (by simp)) rfl ?_
 exact st1 _ (G2 _ (st fs hr))
end Met0
end Maker
section Ops2
variable {σ:Type}
abbrev W2(σ:Type):=Bool×List σ
def nw(nmax m:Nat)(st:List Value):W2 σ→Option (List Value×W2 σ)
 |(false,ob)=>if m=0∧ob.length<nmax then some (.ref (ob.length+1)::st,(true,ob)) else none
 |_=>none
def ct(f1:Cfg σ→Option (Res σ))(Z0:σ)(pe na0 ml0 w m:Nat)(st:List Value):W2 σ→Option (List Value×W2 σ)
 |(true,ob)=>(match takeA na0 [] st with
  |some (as,.ref r::rest)=>if (m=0∧r=ob.length+1)∧okn as=true∧cats rest≤w∧(entL (.ref 0::as)).length≤ml0 then (f1 (0,pe,entL (.ref 0::as),[],Z0)).map fun q=>(rest,(false,ob++[q.2])) else none
  |_=>none)
 |_=>none
def vt(f1:Cfg σ→Option (Res σ))(na ml:Nat→Nat)(w k:Nat)(st:List Value):W2 σ→Option (List Value×W2 σ)
 |(false,ob)=>(match takeA (na k) [] st with
  |some (as,.ref (o+1)::rest)=>(match ob[o]? with
   |some S=>if okn as=true∧cats rest≤w∧(entL (.ref 0::as)).length≤ml k then (f1 (k,0,entL (.ref 0::as),[],S)).map fun q=>(q.1.toList++rest,(false,ob.set o q.2)) else none
   |none=>none)
  |_=>none)
 |_=>none
def sl(sc:List Int32)(w:W2 σ):List Value→Option (List Value×W2 σ)
 | .int i :: .ref 0::r=>if inb i sc.length=true then some (.int (sc.getD i.toNatClampNeg 0)::r,w) else none
 |_=>none
def sn(sc:List Int32)(w:W2 σ):List Value→Option (List Value×W2 σ)
 | .ref 0::r=>some (.int (Int32.ofNat sc.length)::r,w)
 |_=>none
def mop2(f1:Cfg σ→Option (Res σ))(Z0:σ)(pe nmax:Nat)(na ml wm:Nat→Nat)(sc:Option (List Int32)):Mop (W2 σ):=fun m i st w=>match i with
 | .new _=>nw nmax m st w
 | .invokespecial _=>ct f1 Z0 pe (na 0) (ml 0) (wm m) m st w
 | .invokevirtual k=>vt f1 na ml (wm m) k st w
 | .iaload=>(match sc with
  |some xs=>sl xs w st
  |none=>none)
 | .arraylength=>(match sc with
  |some xs=>sn xs w st
  |none=>none)
 |_=>none
def cop2(na ml wm:Nat→Nat):Cop:=fun m i st=>match i with
 | .invokestatic k=>(match takeA (na k) [] st with
  |some (as,r)=>if k≠0∧okv as=true∧cats r≤wm m∧(entL as).length≤ml k then some (k,as,r) else none
  |none=>none)
 |_=>none
def cnt(K1:Nat)(w:W2 σ):Nat:=w.2.length*K1+(if w.1=true then 1 else 0)
def scn(fs s1:Nat)(w:W2 σ):Nat:=w.2.length*(fs+s1)+(if w.1=true then fs else 0)
end Ops2
section L2
variable {σ:Type} (C:String) (gds:List (String×String)) (fds:List (String×String×Nat)) (arrs:List (FieldType×Nat)) (Z:State) (G:σ→Nat→Nat→Int32) (fs nmax:Nat) (sc:Option (List Int32))
abbrev I2:=Nat×Nat×Nat×Nat
def rho2(K1:Nat)(x:I2):Nat→Nat
 |0=>x.1
 |o+1=>x.2.1+o*K1
def Heap2(sa n0:Nat)(w:W2 σ)(h:Heap):Prop:=
 (∀(o:Nat) (S:σ),w.2[o]? = some S→ObjAt C fds arrs Z h (n0+o*(arrs.length+1)) (G S))∧(w.1=true→Part C gds fds arrs Z h (n0+w.2.length*(arrs.length+1)) (fun _=>0) 0∧w.2.length<nmax)∧h.size=n0+cnt (arrs.length+1) w ∧
 ∀xs,sc=some xs→sa<n0∧xs.length<2147483648∧∃cell,Arr Z h sa cell .int∧cell.slots.size=xs.length∧∀i,i<xs.length→cell.slots[i]? = some (.int (xs.getD i 0))
def J2(x:I2)(R:Room)(s:State)(mm:Nat)(w:W2 σ)(T:State)(locs:List Loc)(cells slots:Nat):Prop:=
 (cells+x.2.2.1=cnt (arrs.length+1) w∧slots+x.2.2.2=scn fs (slotSum arrs arrs.length) w)∧(cells≤R.cells∧slots≤R.slots) ∧
 (mm=0→x.2.2.1=0∧x.2.2.2=0∧nmax*(arrs.length+1)≤R.cells∧nmax*(fs+slotSum arrs arrs.length)≤R.slots)∧(mm≠0→cells=0∧slots=0)∧s.heap.size=x.2.1+x.2.2.1∧Heap2 C gds fds arrs Z G nmax sc x.1 x.2.1 w T.heap∧Fr x.2.1 locs
variable {C gds fds arrs Z G fs nmax sc}
theorem ObjAt.ext{h h':Heap}{a:Nat}{g:Nat→Nat→Int32}(O:ObjAt C fds arrs Z h a g)(E:Ext h h'):ObjAt C fds arrs Z h' a g:=
 ⟨O.1.ext E,fun n d k hm=>(O.2.1 n d k hm).ext E,fun j ty len hj=>by obtain⟨cell,A,r⟩:=O.2.2 j ty len hj;exact⟨cell,A.ext E,r⟩⟩
theorem rng_far{K:List (FieldType×Nat)}{n0 o o' r:Nat}(h:o≠o')(hr:r≤K.length):n0+o*(K.length+1)+r∉rng K (n0+o'*(K.length+1)):=by
 intro q
 obtain⟨r',h1,h2⟩:=List.mem_map.mp q
 have h1:=List.mem_range.mp h1
 rcases Nat.lt_or_gt_of_ne h with c | c
 ·have:=Nat.mul_le_mul_right (K.length+1) (show o+1≤o' from c)
  rw[Nat.add_mul] at this
  omega
 ·have:=Nat.mul_le_mul_right (K.length+1) (show o'+1≤o from c)
  rw[Nat.add_mul] at this
  omega
theorem rng_low{K:List (FieldType×Nat)}{n0 o sa:Nat}(h:sa<n0):sa∉rng K (n0+o*(K.length+1)):=by
 intro q
 obtain⟨r',h1,h2⟩:=List.mem_map.mp q
 omega
variable {Tb1 Tb2:Tabs} {a0:Array Value} {mi1 mi2:MI} {rt1 rt2:Nat→Option FieldType} {l:Launch} {own:String} {na1 na2 wm1 wm2:Nat→Nat} {code1:Codes} {P:σ→Nat→Nat→Int32→σ} {items:List Item} {pe oi:Nat} {Z0:σ} {iv:List (Nat×Int)}
def CtW(Z:State)(a0:Array Value)(Tb2:Tabs)(own:String)(y:MethodName)(bytes:ByteArray)(ml:Nat):Prop:=
 (∀idx q,(idx,q)∈Tb2.2.2.2.2.2.2→(Cond.methodLink own idx y).before a0 Z=true)∧(Cond.instanceMethod y).before a0 Z=true∧(Cond.code y bytes ml none).before a0 Z=true
theorem canon_new{Tb:Tabs}{ml pc k:Nat}{i0:Instr}(h:canon Tb ml pc i0=some (.new k)):∃idx,i0 = .new idx∧(idx,k)∈Tb.2.2.2.2.2.1:=by
 cases i0<;>try (simp[canon,lt,plain1,heapy] at h;done)
 case new idx=>
  obtain⟨k',h1,h2⟩:=Option.map_eq_some_iff.mp h
  cases h2
  exact⟨idx,rfl,lk_mem h1⟩
theorem canon_spec{Tb:Tabs}{ml pc k:Nat}{i0:Instr}(h:canon Tb ml pc i0=some (.invokespecial k)):∃idx,i0 = .invokespecial idx∧(idx,k)∈Tb.2.2.2.2.2.2:=by
 cases i0<;>try (simp[canon,lt,plain1,heapy] at h;done)
 case invokespecial idx=>
  obtain⟨k',h1,h2⟩:=Option.map_eq_some_iff.mp h
  cases h2
  exact⟨idx,rfl,lk_mem h1⟩
theorem canon_stat{Tb:Tabs}{ml pc k:Nat}{i0:Instr}(h:canon Tb ml pc i0=some (.invokestatic k)):∃idx,i0 = .invokestatic idx∧(idx,k)∈Tb.2.2.1:=by
 cases i0<;>try (simp[canon,lt,plain1,heapy] at h;done)
 case invokestatic idx=>
  obtain⟨k',h1,h2⟩:=Option.map_eq_some_iff.mp h
  cases h2
  exact⟨idx,rfl,lk_mem h1⟩
def Base(C:String)(gds:List (String×String))(fds:List (String×String×Nat))(arrs:List (FieldType×Nat))(items:List Item)(Z:State)(a0:Array Value)(fs:Nat)(Tb1:Tabs)(mi1:MI)(rt1:Nat→Option FieldType)(na1:Nat→Nat)(pe oi:Nat)(iv:List (Nat×Int)):Prop:=
 (ClsOK C fds arrs Tb1 Z a0∧MakOK C gds fds arrs items Z a0∧Cst Tb1 Z a0 C∧(Cond.instantiable C fs).before a0 Z=true∧(Cond.initialized C).before a0 Z=true) ∧
 (plainName C=true∧(C ≠ "java/lang/invoke/MethodHandle" ∧ C ≠ "java/lang/invoke/VarHandle")∧(mi1 0).1.cls=C∧(mi1 0).1.name = "<init>" ∧ rt1 0=none) ∧
 (∀n d q,(n,d,q)∈fds→q%3=2→q/3<arrs.length) ∧
 (proChk (mi1 0).2.1 Tb1 (mi1 0).2.2.1 gds fds arrs pe items 4 0 iv=true∧decode (mi1 0).2.1 0 = .ok (.aload_n 0,1)∧decode (mi1 0).2.1 1 = .ok (.invokespecial oi,3)) ∧
 ((Cond.methodLink C oi Lib.objectInit).before a0 Z=true∧(Cond.instanceMethod Lib.objectInit).before a0 Z=true∧(Cond.code Lib.objectInit ⟨#[0xb1]⟩ 1 none).before a0 Z=true) ∧
 (1≤(mi1 0).2.2.2.1∧12≤(mi1 0).2.2.2.2)∧∃ps,parseMethodDescriptor (mi1 0).1.desc=some ⟨ps,none⟩∧ps.length=na1 0
def Room2(mi1 mi2:MI)(wm2:Nat→Nat)(mm k:Nat):Prop:=(mi1 k).2.2.2.1+1≤(mi2 mm).2.2.2.1∧wm2 mm+((mi1 k).2.2.1+11)+(mi1 k).2.2.2.2≤(mi2 mm).2.2.2.2
set_option maxHeartbeats 1000000 in
theorem mop2_ok{code2:Codes}{f1:Cfg σ→Option (Res σ)}(B:Base C gds fds arrs items Z a0 fs Tb1 mi1 rt1 na1 pe oi iv){mop:Mop σ}{cop:Cop}(hW:∀n,Walks code1 rt1 mop cop mi1 C Z l rho1 (J1 C fds arrs Z G) n)(hf1:∀c r,f1 c=some r→∃n,iter (plan code1 rt1 mop cop) n c=some r)(hZ00:∀i,G Z0 0 i=finG (fun _=>0) iv i)(hZ0:∀c i,G Z0 (c+1) i=0)
  (hnew:∀idx q,(idx,q)∈Tb2.2.2.2.2.2.1→(Cond.classLink own idx C).before a0 Z=true) (hct:CtW Z a0 Tb2 own (mi1 0).1 (mi1 0).2.1 (mi1 0).2.2.1) (hvt:∀k idx,(idx,k)∈Tb2.2.1→MthOK C Tb2 Z a0 mi1 rt1 own k na1)
  (hR:∀mm pc k pn kp,code2 mm pc=some (.invokevirtual k,pn,kp)→Room2 mi1 mi2 wm2 mm k) (hR0:∀mm pc k pn kp,code2 mm pc=some (.invokespecial k,pn,kp)→Room2 mi1 mi2 wm2 mm 0) :
  MopOK code2 rt2 (mop2 f1 Z0 pe nmax na1 (fun k=>(mi1 k).2.2.1) wm2 sc) Tb2 mi2 own Z l (rho2 (arrs.length+1)) (J2 C gds fds arrs Z G fs nmax sc):=by
 intro x p e R s m args below meth c mm pc len i0 i st st' w w' T locs cells slots L X F hJ hs hd ho hc hcd hm
 obtain⟨hx,hZ,hown,f4,f5,f6,f7,f8,f9⟩:=F
 obtain⟨⟨j1,j2⟩,⟨j3,j4⟩,j5,j6,j7,⟨H1,H2,H3,H4⟩,N⟩:=hJ
 obtain⟨⟨K,M,hCs,wi,wz⟩,⟨hpn,hC,hcls,hnm0,hrt0⟩,hcov,⟨hp,d0,d1⟩,⟨w1,w2,w3⟩,⟨hfr,hlw⟩,ps0,hps0,hna0⟩:=B
 have hcat:∀(ρ:Nat→Nat) (r0:List Value),((r0.map (cv ρ)).map fun v=>v.category).sum=cats r0:=by
  intro ρ r0
  have:(r0.map (cv ρ)).map (fun v=>v.category)=r0.map fun v=>v.category:=by
   rw[List.map_map];apply List.map_congr_left;intro v _;cases v<;>rfl
  rw[this];rfl
 unfold mop2 at hm
 split at hm
 ·-- new
  rename_i k
  obtain⟨idx,rfl,hmem⟩:=canon_new hc
  obtain rfl:len=3:=by simpa [lenOK,ilen] using ho
  unfold nw at hm
  split at hm
  ·rename_i ob
   split at hm
   ·rename_i hb
    obtain⟨rfl,hlt⟩:=hb
    cases hm
    obtain⟨c0,s0,hRc,hRs⟩:=j5 rfl
    have m1:(ob.length+1)*(arrs.length+1)≤nmax*(arrs.length+1):=Nat.mul_le_mul_right _ hlt
    have m2:(ob.length+1)*(fs+slotSum arrs arrs.length)≤nmax*(fs+slotSum arrs arrs.length):=Nat.mul_le_mul_right _ hlt
    rw[Nat.add_mul] at m1 m2
    simp only[cnt,scn,Bool.false_eq_true,if_false] at j1 j2 H3
    obtain⟨T1,h1,X1,e1,E1,A1,D1,-,st1⟩:=newO X hx hZ hown (hnew _ _ hmem) wi wz rfl (g:=mkF m pc L (st.map (cv (rho2 (arrs.length+1) x)))) rfl hd (by omega) (by omega)
    subst e1
    have hsz1:T1.heap.size=x.2.1+ob.length*(arrs.length+1)+1:=by
     have u:=X1.heapSize
     have lo:T.heap.size<T1.heap.size:=A1.lt
     omega
    have eA:T.heap.size=x.2.1+ob.length*(arrs.length+1):=by omega
    refine⟨T1,locs,_,_,X1,⟨⟨?_,?_⟩,⟨by omega,by omega⟩,j5,fun q=>absurd rfl q,j7,⟨fun o S hS=>(H1 o S hS).ext E1,fun _=>?_,?_,fun xs hxs=>?_⟩,N⟩,fun t kt=>st1 t (by
     show Steps p.tables e below (T1.setTop (mkF m (pc+3) L (.ref T.heap.size::st.map (cv (rho2 (arrs.length+1) x))))) t
     rw[eA];exact kt)⟩
    ·simp only[cnt,if_true];omega
    ·simp only[scn,if_true];omega
    ·refine⟨?_,hlt⟩
     rw[eA] at A1 D1
     refine⟨A1,fun n d hg=>?_,fun n d q hq=>?_,fun j ty ln hj=>absurd hj (Nat.not_lt_zero _),hsz1⟩
     ·obtain⟨lg,rfl,-⟩:=M.2.1 n d hg
      exact⟨_,D1 lg (ty:= .int) (by decide)⟩
     ·obtain⟨l1,-,k3,k4,t1,p1⟩:=K.2.1 n d q hq
      by_cases q3:q%3=2
      ·rw[if_pos q3,if_neg (Nat.not_lt_zero _)]
       exact⟨_,D1 l1 p1⟩
      ·rw[if_neg q3]
       have h01:q%3=0∨q%3=1:=by omega
       rcases h01 with h0 | h1
       ·obtain rfl:=k3 h0
        exact D1 l1 (ty:= .int) (by decide)
       ·obtain rfl:=k4 h1
        exact D1 l1 (ty:= .boolean) (by decide)
    ·simp only[cnt,if_true];omega
    ·obtain⟨a1,a2,cell,A,r⟩:=H4 xs hxs
     exact⟨a1,a2,cell,A.ext E1,r⟩
   ·cases hm
  ·cases hm
 ·-- the maker
  rename_i k
  obtain⟨idx,rfl,hmem⟩:=canon_spec hc
  obtain rfl:len=3:=by simpa [lenOK,ilen] using ho
  unfold ct at hm
  split at hm
  ·rename_i ob
   split at hm
   ·rename_i as r rest ht
    split at hm
    ·rename_i hb
     obtain⟨⟨rfl,rfl⟩,hok,hct',hlen⟩:=hb
     obtain⟨q,hq,hm⟩:=Option.map_eq_some_iff.mp hm
     cases hm
     obtain⟨c0,s0,hRc,hRs⟩:=j5 rfl
     obtain⟨n,hit⟩:=hf1 _ _ hq
     obtain⟨qs,q1,q2,q3⟩:=takeA_spec ht
     have q2':as=qs:=by simpa using q2
     subst q2'
     obtain⟨Pq,hlt⟩:=H2 rfl
     simp only[] at Pq hlt
     have m1:(ob.length+1)*(arrs.length+1)≤nmax*(arrs.length+1):=Nat.mul_le_mul_right _ hlt
     have m2:(ob.length+1)*(fs+slotSum arrs arrs.length)≤nmax*(fs+slotSum arrs arrs.length):=Nat.mul_le_mul_right _ hlt
     rw[Nat.add_mul] at m1 m2
     have hM:=met0 (hW n) hpn hcls hnm0 hrt0 K M hCs hcov hp d0 d1 w1 w2 w3 hfr hlw hok hlen hZ00 hZ0 hit Pq (n0:=x.2.1) (Nat.le_add_right _ _) []
     obtain⟨kp,hcd⟩:=hcd
     have hroom:Room2 mi1 mi2 wm2 0 0:=hR0 _ _ _ _ _ hcd
     have hB:=backOf (W:=wm2 0) (rm:={ frames:=(mi1 0).2.2.2.1,cells:=arrs.length,slots:=slotSum arrs arrs.length,locals:=(mi1 0).2.2.2.2 }) (Q:=fun v h' L=>v=none∧Fr x.2.1 L∧Keep T.heap h' (rng arrs (x.2.1+ob.length*(arrs.length+1)))∧ObjAt C fds arrs Z h' (x.2.1+ob.length*(arrs.length+1)) (G q.2)) hM hZ hct.2.2 (by rw[hcls];exact wz) (Nat.le_trans hroom.1 f8) (Nat.le_trans hroom.2 f9) (R:=R) (p:=p) (e:=e) (below:=below) (s:=s) (args:=args) (len:=3)
     simp only[cnt,scn,if_true] at j1 j2 H3
     obtain⟨v,vm₁,⟨T',L',c',s'⟩,-,X',⟨Lc,⟨hv0,hN,hK,hO⟩,l1,l2,l3⟩,st1⟩:=X.specialBack hx (y:=(mi1 0).1) hnm0 hown (mvT hZ (hct.1 _ _ hmem)) (mvT hZ hct.2.1) (mvT hZ hct.2.2) (by rw[hcls];exact hC) hB (g:=mkF m pc L (st.map (cv (rho2 (arrs.length+1) x)))) rfl hs (Steps.refl _) (a:=x.2.1+ob.length*(arrs.length+1)) (argsL:=as) (rest:=st'.map (cv (rho2 (arrs.length+1) x))) (lenOf hps0 (by omega))
      (by show st.map _=_;rw[q3,List.map_append,List.map_reverse,(okn_spec hok).2];rfl) (by show 2*0+_≤_;rw[hcat];omega) hd (fun vm _=>⟨rfl,rfl,by show cells+arrs.length≤R.cells;omega,by show slots+slotSum arrs arrs.length≤R.slots;omega⟩)
     dsimp only [Pt.U,Pt.locs,Pt.cells,Pt.slots] at X' l1 l2 l3 st1 hN hK hO
     subst l1 l2 l3 hv0
     have hsz1:T'.heap.size=x.2.1+(ob.length+1)*(arrs.length+1):=by
      have u:=X'.heapSize
      have lo:x.2.1+ob.length*(arrs.length+1)+arrs.length<T'.heap.size:=by
       by_cases har:arrs.length=0
       ·have:=hO.1.lt
        rw[har] at this ⊢
        exact this
       ·have hk1:arrs.length-1<arrs.length:=by omega
        obtain⟨⟨ty,ln⟩,hq'⟩:∃q,arrs[arrs.length-1]? = some q:=⟨arrs[arrs.length-1],by simp[hk1]⟩
        obtain⟨cell,A,-⟩:=hO.2.2 _ ty ln hq'
        have lt1:x.2.1+ob.length*(arrs.length+1)+(arrs.length-1+1)<T'.heap.size:=A.lt
        omega
      rw[Nat.add_mul]
      omega
     refine⟨T',_,_,_,X',⟨⟨?_,?_⟩,⟨?_,?_⟩,j5,fun q=>absurd rfl q,j7,⟨fun o S hS=>?_,fun q=>(by cases q),?_,fun xs hxs=>?_⟩,N.app hN⟩,fun t kt=>st1.trans kt⟩
     ·show cells+arrs.length+x.2.2.1=_
      simp only[cnt,List.length_append,List.length_singleton,Bool.false_eq_true,if_false,Nat.add_mul];omega
     ·show slots+slotSum arrs arrs.length+x.2.2.2=_
      simp only[scn,List.length_append,List.length_singleton,Bool.false_eq_true,if_false,Nat.add_mul];omega
     ·show cells+arrs.length≤_;omega
     ·show slots+slotSum arrs arrs.length≤_;omega
     ·simp only[] at hS
      by_cases q:o<ob.length
      ·rw[List.getElem?_append_left q] at hS
       exact (H1 o S hS).keep hK fun r hr=>rng_far (by omega) hr
      ·have:o=ob.length:=by
        have:=(List.getElem?_eq_some_iff.mp hS).1
        simp at this;omega
       subst this
       simp at hS
       subst hS
       exact hO
     ·simp only[cnt,List.length_append,List.length_singleton,Bool.false_eq_true,if_false];exact hsz1
     ·obtain⟨a1,a2,cell,A,r⟩:=H4 xs hxs
      exact⟨a1,a2,cell,⟨hK.2.1 _ _ A.1 (rng_low a1),A.2⟩,r⟩
    ·cases hm
   ·cases hm
  ·cases hm
 ·-- a method of the object
  rename_i k
  obtain⟨idx,rfl,hmem⟩:=canon_inv hc
  obtain rfl:len=3:=by simpa [lenOK,ilen] using ho
  unfold vt at hm
  split at hm
  ·rename_i ob
   split at hm
   ·rename_i as o rest ht
    split at hm
    ·rename_i S hS
     split at hm
     ·rename_i hb
      obtain⟨hok,hct',hlen⟩:=hb
      obtain⟨q,hq,hm⟩:=Option.map_eq_some_iff.mp hm
      cases hm
      obtain⟨n,hit⟩:=hf1 _ _ hq
      obtain⟨qs,q1,q2,q3⟩:=takeA_spec ht
      have q2':as=qs:=by simpa using q2
      subst q2'
      obtain⟨hv,ps,hps,hna⟩:=hvt k idx hmem
      have hv:=hv idx hmem
      have O:=H1 o S hS
      have hM:=met1 (ws:=[]) (hW n) hpn hv.1 hok hlen hit O (n0:=x.2.1) (Nat.le_add_right _ _)
      obtain⟨kp,hcd⟩:=hcd
      have hroom:Room2 mi1 mi2 wm2 mm k:=hR _ _ _ _ _ hcd
      obtain⟨v,T',Lc,X',⟨e1,e0,e2,e3,e4⟩,G'⟩:=callV X hx hZ hown hv wi wz hC hps (as':=as) (by omega) (Q:=fun v h' L=>v=q.1∧(∀ρ',q.1.map (cv ρ')=q.1)∧Fr x.2.1 L∧Keep T.heap h' (rng arrs (x.2.1+o*(arrs.length+1)))∧ObjAt C fds arrs Z h' (x.2.1+o*(arrs.length+1)) (G q.2)) hM rfl O.1 (W:=wm2 mm) (rm:={ frames:=(mi1 k).2.2.2.1,cells:=0,slots:=0,locals:=(mi1 k).2.2.2.2 }) (Nat.le_trans hroom.1 f8) (Nat.le_trans hroom.2 f9) (show cells+0≤R.cells from j3) (show slots+0≤R.slots from j4) hs (rest:=rest.map (cv (rho2 (arrs.length+1) x))) (st:=st.map (cv (rho2 (arrs.length+1) x)))
       (by rw[q3,List.map_append,List.map_reverse,(okn_spec hok).2];rfl) (by rw[hcat];exact hct') hd
      subst e1
      have hol:o<ob.length:=(List.getElem?_eq_some_iff.mp hS).1
      have hsz1:T'.heap.size=T.heap.size:=by
       have u:=X'.heapSize
       have lo:=e3.1
       simp only[Nat.add_zero] at u
       omega
      refine⟨T',_,_,_,X',⟨⟨?_,?_⟩,⟨j3,j4⟩,j5,j6,j7,⟨fun o' S' hS'=>?_,fun q=>(by cases q),?_,fun xs hxs=>?_⟩,N.app e2⟩,?_⟩
      ·simpa [cnt] using j1
      ·simpa [scn] using j2
      ·simp only[] at hS'
       by_cases q':o=o'
       ·subst q'
        rw[List.getElem?_set_self hol] at hS'
        cases hS'
        exact e4
       ·rw[List.getElem?_set_ne q'] at hS'
        exact (H1 o' S' hS').keep e3 fun r hr=>rng_far (Ne.symm q') hr
      ·rw[hsz1,H3];simp[cnt]
      ·obtain⟨a1,a2,cell,A,r⟩:=H4 xs hxs
       exact⟨a1,a2,cell,⟨e3.2.1 _ _ A.1 (rng_low a1),A.2⟩,r⟩
      ·have:(q.1.toList++rest).map (cv (rho2 (arrs.length+1) x))=q.1.toList++rest.map (cv (rho2 (arrs.length+1) x)):=by
        rw[List.map_append]
        congr 1
        have:=e0 (rho2 (arrs.length+1) x)
        cases hr:q.1 with
        |none=>rfl
        |some w=>rw[hr] at this;simpa using this
       rw[this]
       exact G'
     ·cases hm
    ·cases hm
   ·cases hm
  ·cases hm
 ·-- the script's places
  obtain rfl:=canon_heapy rfl hc
  obtain rfl:len=1:=by simpa [lenOK,ilen] using ho
  split at hm
  ·rename_i xs
   unfold sl at hm
   split at hm
   ·rename_i j r
    split at hm
    ·rename_i hb
     cases hm
     obtain⟨a1,a2,cell,A,z,H⟩:=H4 xs rfl
     have hin:=inb_spec hb
     have hv:=H j.toNatClampNeg (Nat.lt_of_not_le fun q=>hin (Or.inr q))
     rw[←z] at hin
     exact⟨T,locs,cells,slots,X,⟨⟨j1,j2⟩,⟨j3,j4⟩,j5,j6,j7,⟨H1,H2,H3,H4⟩,N⟩,fun t kt=>X.iaload hx A.1 (State.isArrayOf_alike hZ.alike A.2.1) A.2.2 hin hv (g:=mkF m pc L (.int j :: .ref x.1::r.map (cv (rho2 (arrs.length+1) x)))) rfl rfl hd t kt⟩
    ·cases hm
   ·cases hm
  ·cases hm
 ·-- the script's length
  obtain rfl:=canon_heapy rfl hc
  obtain rfl:len=1:=by simpa [lenOK,ilen] using ho
  split at hm
  ·rename_i xs
   unfold sn at hm
   split at hm
   ·rename_i r
    cases hm
    obtain⟨a1,a2,cell,A,z,H⟩:=H4 xs rfl
    refine⟨T,locs,cells,slots,X,⟨⟨j1,j2⟩,⟨j3,j4⟩,j5,j6,j7,⟨H1,H2,H3,H4⟩,N⟩,fun t kt=>X.arraylength hx A.1 (State.isArrayOf_alike hZ.alike A.2.1) (g:=mkF m pc L (.ref x.1::r.map (cv (rho2 (arrs.length+1) x)))) rfl rfl hd t ?_⟩
    rw[z]
    exact kt
   ·cases hm
  ·cases hm
 ·cases hm
def StaOK(Tb2:Tabs)(Z:State)(a0:Array Value)(mi2:MI)(rt2:Nat→Option FieldType)(own:String)(na2:Nat→Nat):Prop:=
 ∀idx k,(idx,k)∈Tb2.2.2.1→(mi2 k).1.cls=own∧(Cond.methodLink own idx (mi2 k).1).before a0 Z=true∧(Cond.static (mi2 k).1).before a0 Z=true∧(Cond.initialized own).before a0 Z=true∧(Cond.code (mi2 k).1 (mi2 k).2.1 (mi2 k).2.2.1 (rt2 k)).before a0 Z=true∧∃ps,parseMethodDescriptor (mi2 k).1.desc=some ⟨ps,rt2 k⟩∧ps.length=na2 k
def RoomS(code2:Codes)(mi2:MI)(wm2:Nat→Nat):Prop:=∀mm pc k pn kp,code2 mm pc=some (.invokestatic k,pn,kp)→(mi2 k).2.2.2.1+1≤(mi2 mm).2.2.2.1∧wm2 mm+((mi2 k).2.2.1+11)+(mi2 k).2.2.2.2≤(mi2 mm).2.2.2.2
set_option maxHeartbeats 1000000 in
theorem met2{code2:Codes}{mop:Mop (W2 σ)}{cop:Cop}{n:Nat}(hW:Walks code2 rt2 mop cop mi2 own Z l (rho2 (arrs.length+1)) (J2 C gds fds arrs Z G fs nmax sc) n)(hpn:plainName own=true){k:Nat}(hk:k≠0)(hcls:(mi2 k).1.cls=own){as:List Value}(hok:okv as=true)(hlen:(entL as).length≤(mi2 k).2.2.1)
  {w:W2 σ} {r:Res (W2 σ)} (hit:iter (plan code2 rt2 mop cop) n (k,0,entL as,[],w)=some r) {h:Heap} {sa n0:Nat} (H:Heap2 C gds fds arrs Z G nmax sc sa n0 w h) (ws:List Jvm.Cond) (x:I2) (hx1:x.1=sa) (hx2:x.2.1=n0) :
  MetFree l (mi2 k).1 (head1 (Cond.code (mi2 k).1 (mi2 k).2.1 (mi2 k).2.2.1 (rt2 k)::ws) ({ frames:=(mi2 k).2.2.2.1,cells:=0,slots:=0,locals:=(mi2 k).2.2.2.2 }:Room))
   (fun A U=>A=(as.map (cv (rho2 (arrs.length+1) x))).toArray∧Z.Warmed39 U.vm∧U.heap=h) (fun _ _ _ _ _=>True)
   (fun _ U o U'=>∃v L,o = .returned v∧(v=r.1∧(∀ρ',r.1.map (cv ρ')=r.1)∧Fr n0 L∧Heap2 C gds fds arrs Z G nmax sc sa n0 r.2 U'.heap∧cnt (arrs.length+1) r.2=cnt (arrs.length+1) w∧scn fs (slotSum arrs arrs.length) r.2=scn fs (slotSum arrs arrs.length) w)∧FrameEnd U o U' L 0 0):=by
 refine MetFree.of_bodySF (plainFor_of_name (by rw[hcls];exact hpn)) hisR ?_
 intro p e s m args below meth c s₁ Bd hml0 hP hK
 obtain⟨rfl,hZ,hh⟩:=hP
 subst hx1 hx2
 have hown:s.vm.findClass own=some m.cls:=by rw[←hcls];exact findClass_of_methodNamed Bd.named
 have hnm:=(name_of_methodNamed Bd.named Bd.method).1
 have X0:=Stand.of_body Bd
 have e0:s₁.heap=h:=by rw[←hh,Bd.state];rfl
 have ρe:rho2 (arrs.length+1) (x.1,x.2.1,cnt (arrs.length+1) w,scn fs (slotSum arrs arrs.length) w)=rho2 (arrs.length+1) x:=by
  funext r;cases r<;>rfl
 obtain⟨L,q1,q2,q3,q4⟩:=entry_rel (rho2 (arrs.length+1) x) (vs:=as) hok hlen
 obtain⟨T',L',k',n',X',⟨⟨j1,j2⟩,-,-,j6,j7,jH,jN⟩,⟨ok1,ok2⟩,st⟩:=hW (x.1,x.2.1,cnt (arrs.length+1) w,scn fs (slotSum arrs arrs.length) w) p e _ s m _ below meth c k 0 _ [] w r hit s₁ [] 0 0 L X0 ⟨Bd.exec,hZ,hown,Bd.bytes,hml0,Bd.returns,hnm,Nat.le_refl _,Nat.le_refl _⟩
  ⟨⟨Nat.zero_add _,Nat.zero_add _⟩,⟨Nat.le_refl _,Nat.le_refl _⟩,fun q=>absurd q hk,fun _=>⟨rfl,rfl⟩,by rw[hh];exact H.2.2.1,by rw[e0];exact H,Fr.nil _⟩ (by rw[ρe];exact q2) q3 (by rw[q4,hml0])
 obtain⟨fs',hr,hrun,hended,hWm,hsame⟩:=X'.leave (v:=r.1) ok1
 obtain⟨k0,n00⟩:=j6 hk
 subst k0 n00
 refine⟨_,_,?_,hrun,hended,_,_,rfl,⟨rfl,ok2,jN,jH,by simpa using j1.symm,by simpa using j2.symm⟩,⟨_,rfl⟩,hWm,hsame⟩
 have:=st fs' hr
 rw[q1 m]
 exact this
set_option maxHeartbeats 1000000 in
theorem cop2_ok{code2:Codes}{mop:Mop (W2 σ)}(hpn:plainName own=true)(hC:own ≠ "java/lang/invoke/MethodHandle" ∧ own ≠ "java/lang/invoke/VarHandle")(hS:StaOK Tb2 Z a0 mi2 rt2 own na2)(hR:RoomS code2 mi2 wm2) :
  CopOK code2 rt2 mop (cop2 na2 (fun k=>(mi2 k).2.2.1) wm2) Tb2 mi2 own Z l (rho2 (arrs.length+1)) (J2 C gds fds arrs Z G fs nmax sc):=by
 intro n hW x p e R s m args below meth c mm pc len i0 i st q w r T locs cells slots L X F hJ hs hd ho hc hne hq hit
 obtain⟨hx,hZ,hown,f4,f5,f6,f7,f8,f9⟩:=F
 obtain⟨⟨j1,j2⟩,⟨j3,j4⟩,j5,j6,j7,H,N⟩:=hJ
 unfold cop2 at hq
 split at hq
 ·rename_i k
  split at hq
  ·rename_i as r0 ht
   split at hq
   ·rename_i hb
    cases hq
    obtain⟨hk,hok,hcat',hlen⟩:=hb
    obtain⟨idx,rfl,hmem⟩:=canon_stat hc
    obtain rfl:len=3:=by simpa [lenOK,ilen] using ho
    obtain⟨g1,g2,g3,g4,g5,ps,hps,hna⟩:=hS idx k hmem
    obtain⟨qs,q1,q2,q3⟩:=takeA_spec ht
    have q2':as=qs:=by simpa using q2
    subst q2'
    obtain⟨kp,hcd⟩:=hne
    have hroom:=hR mm pc k _ kp hcd
    have hM:=met2 (hW:=hW) hpn hk g1 hok hlen hit H [] x rfl rfl
    have hB:=backOf (W:=wm2 mm) (rm:={ frames:=(mi2 k).2.2.2.1,cells:=0,slots:=0,locals:=(mi2 k).2.2.2.2 }) (Q:=fun v h' L=>v=r.1∧(∀ρ',r.1.map (cv ρ')=r.1)∧Fr x.2.1 L∧Heap2 C gds fds arrs Z G nmax sc x.1 x.2.1 r.2 h'∧cnt (arrs.length+1) r.2=cnt (arrs.length+1) w∧scn fs (slotSum arrs arrs.length) r.2=scn fs (slotSum arrs arrs.length) w) hM hZ g5 (by rw[g1];exact g4) (Nat.le_trans hroom.1 f8) (Nat.le_trans hroom.2 f9) (R:=R) (p:=p) (e:=e) (below:=below) (s:=s) (args:=args) (len:=3)
    have hcat:((r0.map (cv (rho2 (arrs.length+1) x))).map fun v=>v.category).sum=cats r0:=by
     have:(r0.map (cv (rho2 (arrs.length+1) x))).map (fun v=>v.category)=r0.map fun v=>v.category:=by
      rw[List.map_map];apply List.map_congr_left;intro v _;cases v<;>rfl
     rw[this];rfl
    obtain⟨v,vm₁,⟨T',L',c',s'⟩,-,X',⟨Lc,⟨hv0,ok2,hN,hH,z1,z2⟩,l1,l2,l3⟩,st1⟩:=Jvm.LawKit.callS X hx (y:=(mi2 k).1) hown (mvT hZ g2) (mvT hZ g3) (by rw[g1];exact mvT hZ g4) (mvT hZ g5) (by rw[g1];exact hC) hB (g:=mkF m pc L (st.map (cv (rho2 (arrs.length+1) x)))) rfl hs (argsL:=as.map (cv (rho2 (arrs.length+1) x))) (rest:=r0.map (cv (rho2 (arrs.length+1) x))) (lenOf hps (by simp;omega))
     (by show st.map _=_;rw[q3,List.map_append,List.map_reverse]) (by show 2*0+_≤_;rw[hcat];omega) hd (fun vm _=>⟨rfl,rfl,by simpa using j3,by simpa using j4⟩)
    dsimp only [Pt.U,Pt.locs,Pt.cells,Pt.slots] at X' l1 l2 l3 st1 hN hH
    subst l1 l2 l3 hv0
    refine⟨T',_,_,_,X',⟨⟨by rw[z1];exact j1,by rw[z2];exact j2⟩,⟨j3,j4⟩,j5,j6,j7,hH,N.app hN⟩,?_⟩
    have:(r.1.toList++r0).map (cv (rho2 (arrs.length+1) x))=r.1.toList++r0.map (cv (rho2 (arrs.length+1) x)):=by
     rw[List.map_append]
     congr 1
     have:=ok2 (rho2 (arrs.length+1) x)
     cases hr:r.1 with
     |none=>rfl
     |some w=>rw[hr] at this;simpa using this
    rw[this]
    exact fun t kt=>st1 t kt
   ·cases hq
  ·cases hq
 ·cases hq
end L2
theorem ite2{β:Type}{p:Prop}[Decidable p]{a b a' b':β}(h1:a=a')(h2:b=b'):(if p then a else b)=if p then a' else b':=by rw[h1,h2]
theorem iteH{β:Type}{p:Prop}[Decidable p]{a b a':β}(h1:p→a=a'):(if p then a else b)=if p then a' else b:=by
 by_cases h:p
 ·rw[if_pos h,if_pos h,h1 h]
 ·rw[if_neg h,if_neg h]
namespace F
variable {τ:Type} {code:Codes} {rt:Nat→Option FieldType} {mop:Mop τ} {cop:Cop} {f:Cfg τ→Option (Res τ)} {m pc pn:Nat} {kp:Option Nat} {ls st:List Value} {S:τ}
theorem head(hf:∀c,f c=run (plan code rt mop cop) f c){i:Instr}{k:Nat}(h:code m pc=some (i,pn,some k)):f (m,pc,ls,st,S)=f (m,pc,ls.take k,st,S):=by
 rw[hf,hf (m,pc,ls.take k,st,S)]
 simp only[run,plan,h,tk,List.take_take,Nat.min_self]
theorem iadd(hf:∀c,f c=run (plan code rt mop cop) f c){x y:Int32}(h:code m pc=some (.iadd,pn,kp))(hk:tk kp ls=ls):f (m,pc,ls,.int y :: .int x::st,S)=f (m,pn,ls,.int (x+y)::st,S):=by
 rw[hf]
 simp only[run,plan,h,hk,rest,retV,loc,alu,ii,iz,ll,lz,li,lc,i1,l1,pop1,dup1,dup2',Option.map_some]
theorem isub(hf:∀c,f c=run (plan code rt mop cop) f c){x y:Int32}(h:code m pc=some (.isub,pn,kp))(hk:tk kp ls=ls):f (m,pc,ls,.int y :: .int x::st,S)=f (m,pn,ls,.int (x-y)::st,S):=by
 rw[hf]
 simp only[run,plan,h,hk,rest,retV,loc,alu,ii,iz,ll,lz,li,lc,i1,l1,pop1,dup1,dup2',Option.map_some]
theorem imul(hf:∀c,f c=run (plan code rt mop cop) f c){x y:Int32}(h:code m pc=some (.imul,pn,kp))(hk:tk kp ls=ls):f (m,pc,ls,.int y :: .int x::st,S)=f (m,pn,ls,.int (x*y)::st,S):=by
 rw[hf]
 simp only[run,plan,h,hk,rest,retV,loc,alu,ii,iz,ll,lz,li,lc,i1,l1,pop1,dup1,dup2',Option.map_some]
theorem iand(hf:∀c,f c=run (plan code rt mop cop) f c){x y:Int32}(h:code m pc=some (.iand,pn,kp))(hk:tk kp ls=ls):f (m,pc,ls,.int y :: .int x::st,S)=f (m,pn,ls,.int (x&&&y)::st,S):=by
 rw[hf]
 simp only[run,plan,h,hk,rest,retV,loc,alu,ii,iz,ll,lz,li,lc,i1,l1,pop1,dup1,dup2',Option.map_some]
theorem ior(hf:∀c,f c=run (plan code rt mop cop) f c){x y:Int32}(h:code m pc=some (.ior,pn,kp))(hk:tk kp ls=ls):f (m,pc,ls,.int y :: .int x::st,S)=f (m,pn,ls,.int (x|||y)::st,S):=by
 rw[hf]
 simp only[run,plan,h,hk,rest,retV,loc,alu,ii,iz,ll,lz,li,lc,i1,l1,pop1,dup1,dup2',Option.map_some]
theorem ixor(hf:∀c,f c=run (plan code rt mop cop) f c){x y:Int32}(h:code m pc=some (.ixor,pn,kp))(hk:tk kp ls=ls):f (m,pc,ls,.int y :: .int x::st,S)=f (m,pn,ls,.int (x^^^y)::st,S):=by
 rw[hf]
 simp only[run,plan,h,hk,rest,retV,loc,alu,ii,iz,ll,lz,li,lc,i1,l1,pop1,dup1,dup2',Option.map_some]
theorem ishl(hf:∀c,f c=run (plan code rt mop cop) f c){x y:Int32}(h:code m pc=some (.ishl,pn,kp))(hk:tk kp ls=ls):f (m,pc,ls,.int y :: .int x::st,S)=f (m,pn,ls,.int (x<<<(y&&&31))::st,S):=by
 rw[hf]
 simp only[run,plan,h,hk,rest,retV,loc,alu,ii,iz,ll,lz,li,lc,i1,l1,pop1,dup1,dup2',Option.map_some]
theorem ishr(hf:∀c,f c=run (plan code rt mop cop) f c){x y:Int32}(h:code m pc=some (.ishr,pn,kp))(hk:tk kp ls=ls):f (m,pc,ls,.int y :: .int x::st,S)=f (m,pn,ls,.int (x>>>(y&&&31))::st,S):=by
 rw[hf]
 simp only[run,plan,h,hk,rest,retV,loc,alu,ii,iz,ll,lz,li,lc,i1,l1,pop1,dup1,dup2',Option.map_some]
theorem iushr(hf:∀c,f c=run (plan code rt mop cop) f c){x y:Int32}(h:code m pc=some (.iushr,pn,kp))(hk:tk kp ls=ls):f (m,pc,ls,.int y :: .int x::st,S)=f (m,pn,ls,.int (XT.ushr x y)::st,S):=by
 rw[hf]
 simp only[run,plan,h,hk,rest,retV,loc,alu,ii,iz,ll,lz,li,lc,i1,l1,pop1,dup1,dup2',Option.map_some]
theorem idiv(hf:∀c,f c=run (plan code rt mop cop) f c){x y:Int32}(h:code m pc=some (.idiv,pn,kp))(hk:tk kp ls=ls)(hy:y≠0):f (m,pc,ls,.int y :: .int x::st,S)=f (m,pn,ls,.int (x/y)::st,S):=by
 rw[hf]
 simp only[run,plan,h,hk,rest,retV,loc,alu,ii,iz,ll,lz,li,lc,i1,l1,pop1,dup1,dup2',Option.map_some,hy,if_false]
theorem irem(hf:∀c,f c=run (plan code rt mop cop) f c){x y:Int32}(h:code m pc=some (.irem,pn,kp))(hk:tk kp ls=ls)(hy:y≠0):f (m,pc,ls,.int y :: .int x::st,S)=f (m,pn,ls,.int (x%y)::st,S):=by
 rw[hf]
 simp only[run,plan,h,hk,rest,retV,loc,alu,ii,iz,ll,lz,li,lc,i1,l1,pop1,dup1,dup2',Option.map_some,hy,if_false]
theorem lrem(hf:∀c,f c=run (plan code rt mop cop) f c){x y:Int64}(h:code m pc=some (.lrem,pn,kp))(hk:tk kp ls=ls)(hy:y≠0):f (m,pc,ls,.long y :: .long x::st,S)=f (m,pn,ls,.long (x%y)::st,S):=by
 rw[hf]
 simp only[run,plan,h,hk,rest,retV,loc,alu,ii,iz,ll,lz,li,lc,i1,l1,pop1,dup1,dup2',Option.map_some,hy,if_false]
theorem ladd(hf:∀c,f c=run (plan code rt mop cop) f c){x y:Int64}(h:code m pc=some (.ladd,pn,kp))(hk:tk kp ls=ls):f (m,pc,ls,.long y :: .long x::st,S)=f (m,pn,ls,.long (x+y)::st,S):=by
 rw[hf]
 simp only[run,plan,h,hk,rest,retV,loc,alu,ii,iz,ll,lz,li,lc,i1,l1,pop1,dup1,dup2',Option.map_some]
theorem lsub(hf:∀c,f c=run (plan code rt mop cop) f c){x y:Int64}(h:code m pc=some (.lsub,pn,kp))(hk:tk kp ls=ls):f (m,pc,ls,.long y :: .long x::st,S)=f (m,pn,ls,.long (x-y)::st,S):=by
 rw[hf]
 simp only[run,plan,h,hk,rest,retV,loc,alu,ii,iz,ll,lz,li,lc,i1,l1,pop1,dup1,dup2',Option.map_some]
theorem lmul(hf:∀c,f c=run (plan code rt mop cop) f c){x y:Int64}(h:code m pc=some (.lmul,pn,kp))(hk:tk kp ls=ls):f (m,pc,ls,.long y :: .long x::st,S)=f (m,pn,ls,.long (x*y)::st,S):=by
 rw[hf]
 simp only[run,plan,h,hk,rest,retV,loc,alu,ii,iz,ll,lz,li,lc,i1,l1,pop1,dup1,dup2',Option.map_some]
theorem land(hf:∀c,f c=run (plan code rt mop cop) f c){x y:Int64}(h:code m pc=some (.land,pn,kp))(hk:tk kp ls=ls):f (m,pc,ls,.long y :: .long x::st,S)=f (m,pn,ls,.long (x&&&y)::st,S):=by
 rw[hf]
 simp only[run,plan,h,hk,rest,retV,loc,alu,ii,iz,ll,lz,li,lc,i1,l1,pop1,dup1,dup2',Option.map_some]
theorem lor(hf:∀c,f c=run (plan code rt mop cop) f c){x y:Int64}(h:code m pc=some (.lor,pn,kp))(hk:tk kp ls=ls):f (m,pc,ls,.long y :: .long x::st,S)=f (m,pn,ls,.long (x|||y)::st,S):=by
 rw[hf]
 simp only[run,plan,h,hk,rest,retV,loc,alu,ii,iz,ll,lz,li,lc,i1,l1,pop1,dup1,dup2',Option.map_some]
theorem lxor(hf:∀c,f c=run (plan code rt mop cop) f c){x y:Int64}(h:code m pc=some (.lxor,pn,kp))(hk:tk kp ls=ls):f (m,pc,ls,.long y :: .long x::st,S)=f (m,pn,ls,.long (x^^^y)::st,S):=by
 rw[hf]
 simp only[run,plan,h,hk,rest,retV,loc,alu,ii,iz,ll,lz,li,lc,i1,l1,pop1,dup1,dup2',Option.map_some]
theorem lshl(hf:∀c,f c=run (plan code rt mop cop) f c){x:Int64}{y:Int32}(h:code m pc=some (.lshl,pn,kp))(hk:tk kp ls=ls):f (m,pc,ls,.int y :: .long x::st,S)=f (m,pn,ls,.long (x<<<(y.toInt64&&&63))::st,S):=by
 rw[hf]
 simp only[run,plan,h,hk,rest,retV,loc,alu,ii,iz,ll,lz,li,lc,i1,l1,pop1,dup1,dup2',Option.map_some]
theorem lushr(hf:∀c,f c=run (plan code rt mop cop) f c){x:Int64}{y:Int32}(h:code m pc=some (.lushr,pn,kp))(hk:tk kp ls=ls):f (m,pc,ls,.int y :: .long x::st,S)=f (m,pn,ls,.long (XT.ushrL x y)::st,S):=by
 rw[hf]
 simp only[run,plan,h,hk,rest,retV,loc,alu,ii,iz,ll,lz,li,lc,i1,l1,pop1,dup1,dup2',Option.map_some]
theorem lcmp(hf:∀c,f c=run (plan code rt mop cop) f c){x y:Int64}(h:code m pc=some (.lcmp,pn,kp))(hk:tk kp ls=ls):f (m,pc,ls,.long y :: .long x::st,S)=f (m,pn,ls,.int (XT.cmpL x y)::st,S):=by
 rw[hf]
 simp only[run,plan,h,hk,rest,retV,loc,alu,ii,iz,ll,lz,li,lc,i1,l1,pop1,dup1,dup2',Option.map_some]
theorem ineg(hf:∀c,f c=run (plan code rt mop cop) f c){x:Int32}(h:code m pc=some (.ineg,pn,kp))(hk:tk kp ls=ls):f (m,pc,ls,.int x::st,S)=f (m,pn,ls,.int (-x)::st,S):=by
 rw[hf]
 simp only[run,plan,h,hk,rest,retV,loc,alu,ii,iz,ll,lz,li,lc,i1,l1,pop1,dup1,dup2',Option.map_some]
theorem i2l(hf:∀c,f c=run (plan code rt mop cop) f c){x:Int32}(h:code m pc=some (.i2l,pn,kp))(hk:tk kp ls=ls):f (m,pc,ls,.int x::st,S)=f (m,pn,ls,.long x.toInt64::st,S):=by
 rw[hf]
 simp only[run,plan,h,hk,rest,retV,loc,alu,ii,iz,ll,lz,li,lc,i1,l1,pop1,dup1,dup2',Option.map_some]
theorem l2i(hf:∀c,f c=run (plan code rt mop cop) f c){x:Int64}(h:code m pc=some (.l2i,pn,kp))(hk:tk kp ls=ls):f (m,pc,ls,.long x::st,S)=f (m,pn,ls,.int x.toInt32::st,S):=by
 rw[hf]
 simp only[run,plan,h,hk,rest,retV,loc,alu,ii,iz,ll,lz,li,lc,i1,l1,pop1,dup1,dup2',Option.map_some]
theorem i2b(hf:∀c,f c=run (plan code rt mop cop) f c){x:Int32}(h:code m pc=some (.i2b,pn,kp))(hk:tk kp ls=ls):f (m,pc,ls,.int x::st,S)=f (m,pn,ls,.int x.toInt8.toInt32::st,S):=by
 rw[hf]
 simp only[run,plan,h,hk,rest,retV,loc,alu,ii,iz,ll,lz,li,lc,i1,l1,pop1,dup1,dup2',Option.map_some]
theorem popI(hf:∀c,f c=run (plan code rt mop cop) f c){x:Int32}(h:code m pc=some (.pop,pn,kp))(hk:tk kp ls=ls):f (m,pc,ls,.int x::st,S)=f (m,pn,ls,st,S):=by
 rw[hf]
 simp only[run,plan,h,hk,rest,retV,loc,alu,ii,iz,ll,lz,li,lc,i1,l1,pop1,dup1,dup2',Option.map_some]
theorem dupA(hf:∀c,f c=run (plan code rt mop cop) f c){x:Nat}(h:code m pc=some (.dup,pn,kp))(hk:tk kp ls=ls):f (m,pc,ls,.ref x::st,S)=f (m,pn,ls,.ref x :: .ref x::st,S):=by
 rw[hf]
 simp only[run,plan,h,hk,rest,retV,loc,alu,ii,iz,ll,lz,li,lc,i1,l1,pop1,dup1,dup2',Option.map_some]
theorem iconst(hf:∀c,f c=run (plan code rt mop cop) f c){i:Int}{v:Int32}(h:code m pc=some (.iconst i,pn,kp))(hk:tk kp ls=ls)(hv:Int32.ofInt i=v):f (m,pc,ls,st,S)=f (m,pn,ls,.int v::st,S):=by
 rw[hf]
 simp only[run,plan,h,hk,rest,retV,loc,alu,ii,iz,ll,lz,li,lc,i1,l1,pop1,dup1,dup2',Option.map_some,hv]
theorem lconst(hf:∀c,f c=run (plan code rt mop cop) f c){i:Fin 2}{v:Int64}(h:code m pc=some (.lconst i,pn,kp))(hk:tk kp ls=ls)(hv:Int64.ofNat i=v):f (m,pc,ls,st,S)=f (m,pn,ls,.long v::st,S):=by
 rw[hf]
 simp only[run,plan,h,hk,rest,retV,loc,alu,ii,iz,ll,lz,li,lc,i1,l1,pop1,dup1,dup2',Option.map_some,hv]
theorem iload(hf:∀c,f c=run (plan code rt mop cop) f c){k:Nat}{v:Int32}(h:code m pc=some (.iload k,pn,kp))(hk:tk kp ls=ls)(hl:ls[k]? = some (.int v)):f (m,pc,ls,st,S)=f (m,pn,ls,.int v::st,S):=by
 rw[hf]
 simp only[run,plan,h,hk,rest,retV,loc,ldI,ldA,ldL,stI',stA',stL',incI,Option.map_some,hl]
theorem aload(hf:∀c,f c=run (plan code rt mop cop) f c){k v:Nat}(h:code m pc=some (.aload k,pn,kp))(hk:tk kp ls=ls)(hl:ls[k]? = some (.ref v)):f (m,pc,ls,st,S)=f (m,pn,ls,.ref v::st,S):=by
 rw[hf]
 simp only[run,plan,h,hk,rest,retV,loc,ldI,ldA,ldL,stI',stA',stL',incI,Option.map_some,hl]
theorem lload(hf:∀c,f c=run (plan code rt mop cop) f c){k:Nat}{v:Int64}(h:code m pc=some (.lload k,pn,kp))(hk:tk kp ls=ls)(hl:ls[k]? = some (.long v)):f (m,pc,ls,st,S)=f (m,pn,ls,.long v::st,S):=by
 rw[hf]
 simp only[run,plan,h,hk,rest,retV,loc,ldI,ldA,ldL,stI',stA',stL',incI,Option.map_some,hl]
theorem istore(hf:∀c,f c=run (plan code rt mop cop) f c){k:Nat}{v:Int32}{l:List Value}(h:code m pc=some (.istore k,pn,kp))(hk:tk kp ls=ls)(hl:st1 ls k (.int v)=l):f (m,pc,ls,.int v::st,S)=f (m,pn,l,st,S):=by
 rw[hf]
 simp only[run,plan,h,hk,rest,retV,loc,ldI,ldA,ldL,stI',stA',stL',incI,Option.map_some,hl]
theorem astore(hf:∀c,f c=run (plan code rt mop cop) f c){k v:Nat}{l:List Value}(h:code m pc=some (.astore k,pn,kp))(hk:tk kp ls=ls)(hl:st1 ls k (.ref v)=l):f (m,pc,ls,.ref v::st,S)=f (m,pn,l,st,S):=by
 rw[hf]
 simp only[run,plan,h,hk,rest,retV,loc,ldI,ldA,ldL,stI',stA',stL',incI,Option.map_some,hl]
theorem lstore(hf:∀c,f c=run (plan code rt mop cop) f c){k:Nat}{v:Int64}{l:List Value}(h:code m pc=some (.lstore k,pn,kp))(hk:tk kp ls=ls)(hl:st2 ls k (.long v)=l):f (m,pc,ls,.long v::st,S)=f (m,pn,l,st,S):=by
 rw[hf]
 simp only[run,plan,h,hk,rest,retV,loc,ldI,ldA,ldL,stI',stA',stL',incI,Option.map_some,hl]
theorem iinc(hf:∀c,f c=run (plan code rt mop cop) f c){k:Nat}{c:Int}{v v':Int32}{l:List Value}(h:code m pc=some (.iinc k c,pn,kp))(hk:tk kp ls=ls)(hv:Int32.ofInt c=v')(hl0:ls[k]? = some (.int v))(hl:st1 ls k (.int (v+v'))=l):f (m,pc,ls,st,S)=f (m,pn,l,st,S):=by
 rw[hf]
 simp only[run,plan,h,hk,rest,retV,loc,ldI,ldA,ldL,stI',stA',stL',incI,Option.map_some,hl0,hv,hl]
theorem goto(hf:∀c,f c=run (plan code rt mop cop) f c){t:Nat}(h:code m pc=some (.goto (Int.ofNat t),pn,kp))(hk:tk kp ls=ls):f (m,pc,ls,st,S)=f (m,t,ls,st,S):=by
 rw[hf]
 simp only[run,plan,h,hk,Int.ofNat_eq_natCast,Int.toNat_natCast]
theorem ifeq(hf:∀c,f c=run (plan code rt mop cop) f c){t:Nat}{x:Int32}(h:code m pc=some (.ifCond .eq (Int.ofNat t),pn,kp))(hk:tk kp ls=ls):f (m,pc,ls,.int x::st,S)=if x=0 then f (m,t,ls,st,S) else f (m,pn,ls,st,S):=by
 rw[hf]
 simp only[run,plan,h,hk,pl1,Int.ofNat_eq_natCast,Int.toNat_natCast]
 exact cnd_map f _ _ _ _ _
theorem iceq(hf:∀c,f c=run (plan code rt mop cop) f c){t:Nat}{x y:Int32}(h:code m pc=some (.if_icmp .eq (Int.ofNat t),pn,kp))(hk:tk kp ls=ls):f (m,pc,ls,.int y :: .int x::st,S)=if x=y then f (m,t,ls,st,S) else f (m,pn,ls,st,S):=by
 rw[hf]
 simp only[run,plan,h,hk,pl2,Int.ofNat_eq_natCast,Int.toNat_natCast]
 exact cnd_map f _ _ _ _ _
theorem ifne(hf:∀c,f c=run (plan code rt mop cop) f c){t:Nat}{x:Int32}(h:code m pc=some (.ifCond .ne (Int.ofNat t),pn,kp))(hk:tk kp ls=ls):f (m,pc,ls,.int x::st,S)=if x=0 then f (m,pn,ls,st,S) else f (m,t,ls,st,S):=by
 rw[hf]
 simp only[run,plan,h,hk,pl1,Int.ofNat_eq_natCast,Int.toNat_natCast]
 exact cnd_map f _ _ _ _ _
theorem icne(hf:∀c,f c=run (plan code rt mop cop) f c){t:Nat}{x y:Int32}(h:code m pc=some (.if_icmp .ne (Int.ofNat t),pn,kp))(hk:tk kp ls=ls):f (m,pc,ls,.int y :: .int x::st,S)=if x=y then f (m,pn,ls,st,S) else f (m,t,ls,st,S):=by
 rw[hf]
 simp only[run,plan,h,hk,pl2,Int.ofNat_eq_natCast,Int.toNat_natCast]
 exact cnd_map f _ _ _ _ _
theorem iflt(hf:∀c,f c=run (plan code rt mop cop) f c){t:Nat}{x:Int32}(h:code m pc=some (.ifCond .lt (Int.ofNat t),pn,kp))(hk:tk kp ls=ls):f (m,pc,ls,.int x::st,S)=if x<0 then f (m,t,ls,st,S) else f (m,pn,ls,st,S):=by
 rw[hf]
 simp only[run,plan,h,hk,pl1,Int.ofNat_eq_natCast,Int.toNat_natCast]
 exact cnd_map f _ _ _ _ _
theorem iclt(hf:∀c,f c=run (plan code rt mop cop) f c){t:Nat}{x y:Int32}(h:code m pc=some (.if_icmp .lt (Int.ofNat t),pn,kp))(hk:tk kp ls=ls):f (m,pc,ls,.int y :: .int x::st,S)=if x<y then f (m,t,ls,st,S) else f (m,pn,ls,st,S):=by
 rw[hf]
 simp only[run,plan,h,hk,pl2,Int.ofNat_eq_natCast,Int.toNat_natCast]
 exact cnd_map f _ _ _ _ _
theorem ifge(hf:∀c,f c=run (plan code rt mop cop) f c){t:Nat}{x:Int32}(h:code m pc=some (.ifCond .ge (Int.ofNat t),pn,kp))(hk:tk kp ls=ls):f (m,pc,ls,.int x::st,S)=if x<0 then f (m,pn,ls,st,S) else f (m,t,ls,st,S):=by
 rw[hf]
 simp only[run,plan,h,hk,pl1,Int.ofNat_eq_natCast,Int.toNat_natCast]
 exact cnd_map f _ _ _ _ _
theorem icge(hf:∀c,f c=run (plan code rt mop cop) f c){t:Nat}{x y:Int32}(h:code m pc=some (.if_icmp .ge (Int.ofNat t),pn,kp))(hk:tk kp ls=ls):f (m,pc,ls,.int y :: .int x::st,S)=if x<y then f (m,pn,ls,st,S) else f (m,t,ls,st,S):=by
 rw[hf]
 simp only[run,plan,h,hk,pl2,Int.ofNat_eq_natCast,Int.toNat_natCast]
 exact cnd_map f _ _ _ _ _
theorem ifgt(hf:∀c,f c=run (plan code rt mop cop) f c){t:Nat}{x:Int32}(h:code m pc=some (.ifCond .gt (Int.ofNat t),pn,kp))(hk:tk kp ls=ls):f (m,pc,ls,.int x::st,S)=if 0<x then f (m,t,ls,st,S) else f (m,pn,ls,st,S):=by
 rw[hf]
 simp only[run,plan,h,hk,pl1,Int.ofNat_eq_natCast,Int.toNat_natCast]
 exact cnd_map f _ _ _ _ _
theorem icgt(hf:∀c,f c=run (plan code rt mop cop) f c){t:Nat}{x y:Int32}(h:code m pc=some (.if_icmp .gt (Int.ofNat t),pn,kp))(hk:tk kp ls=ls):f (m,pc,ls,.int y :: .int x::st,S)=if y<x then f (m,t,ls,st,S) else f (m,pn,ls,st,S):=by
 rw[hf]
 simp only[run,plan,h,hk,pl2,Int.ofNat_eq_natCast,Int.toNat_natCast]
 exact cnd_map f _ _ _ _ _
theorem ifle(hf:∀c,f c=run (plan code rt mop cop) f c){t:Nat}{x:Int32}(h:code m pc=some (.ifCond .le (Int.ofNat t),pn,kp))(hk:tk kp ls=ls):f (m,pc,ls,.int x::st,S)=if 0<x then f (m,pn,ls,st,S) else f (m,t,ls,st,S):=by
 rw[hf]
 simp only[run,plan,h,hk,pl1,Int.ofNat_eq_natCast,Int.toNat_natCast]
 exact cnd_map f _ _ _ _ _
theorem icle(hf:∀c,f c=run (plan code rt mop cop) f c){t:Nat}{x y:Int32}(h:code m pc=some (.if_icmp .le (Int.ofNat t),pn,kp))(hk:tk kp ls=ls):f (m,pc,ls,.int y :: .int x::st,S)=if y<x then f (m,pn,ls,st,S) else f (m,t,ls,st,S):=by
 rw[hf]
 simp only[run,plan,h,hk,pl2,Int.ofNat_eq_natCast,Int.toNat_natCast]
 exact cnd_map f _ _ _ _ _
theorem retn(hf:∀c,f c=run (plan code rt mop cop) f c)(h:code m pc=some (.return_,pn,kp))(hr:rt m=none):f (m,pc,ls,[],S)=some (none,S):=by
 rw[hf]
 simp only[run,plan,h,rest,retV,hr]
theorem reti(hf:∀c,f c=run (plan code rt mop cop) f c){v:Int32}(h:code m pc=some (.ireturn,pn,kp))(hr:rt m=some .int):f (m,pc,ls,[.int v],S)=some (some (.int v),S):=by
 rw[hf]
 simp only[run,plan,h,rest,retV,hr]
theorem retb(hf:∀c,f c=run (plan code rt mop cop) f c){v:Int32}(h:code m pc=some (.ireturn,pn,kp))(hr:rt m=some .boolean):f (m,pc,ls,[.int v],S)=some (some (.int (v&&&1)),S):=by
 rw[hf]
 simp only[run,plan,h,rest,retV,hr]
end F
abbrev MS:=Nat→Nat→Int32
abbrev FT1:=Cfg MS→Option (Res MS)
abbrev FT2:=Cfg (Bool×List MS)→Option (Res (Bool×List MS))
def upd(S:MS)(c i:Nat)(v:Int32):MS:=fun c' i'=>if c'=c∧i'=i then v else S c' i'
abbrev gS:MS→Nat→Nat→Int32:=fun S c i=>S c i
theorem upd_law(S:MS)(c i:Nat)(v:Int32)(c' i':Nat):gS (upd S c i v) c' i'=if c'=c∧i'=i then v else gS S c' i':=rfl
namespace F
variable {code:Codes} {rt:Nat→Option FieldType} {arrs:List (FieldType×Nat)} {na ml wm:Nat→Nat} {f:Cfg MS→Option (Res MS)} {m pc pn:Nat} {kp:Option Nat} {ls st:List Value} {S:MS}
theorem getI(hf:∀c,f c=run (plan code rt (mop1 arrs gS upd) (cop1 na ml wm)) f c){s k:Nat}(h:code m pc=some (.getfield k,pn,kp))(hk:tk kp ls=ls)(h3:k%3≠2)(hs:k/3=s){w:Int32}(hw:S 0 s=w):f (m,pc,ls,.ref 0::st,S)=f (m,pn,ls,.int w::st,S):=by
 subst hw
 rw[hf]
 simp only[run,plan,h,hk,rest,retV,loc,alu,mop1,gf,pf,al,sa,la,Option.map_none,h3,if_false,hs]
theorem getA(hf:∀c,f c=run (plan code rt (mop1 arrs gS upd) (cop1 na ml wm)) f c){s k:Nat}(h:code m pc=some (.getfield k,pn,kp))(hk:tk kp ls=ls)(h3:k%3=2)(hs:k/3+1=s):f (m,pc,ls,.ref 0::st,S)=f (m,pn,ls,.ref s::st,S):=by
 rw[hf]
 simp only[run,plan,h,hk,rest,retV,loc,alu,mop1,gf,pf,al,sa,la,Option.map_none,h3,if_true,hs]
theorem putI(hf:∀c,f c=run (plan code rt (mop1 arrs gS upd) (cop1 na ml wm)) f c){s k:Nat}{v:Int32}(h:code m pc=some (.putfield k,pn,kp))(hk:tk kp ls=ls)(h3:k%3=0)(hs:k/3=s):f (m,pc,ls,.int v :: .ref 0::st,S)=f (m,pn,ls,st,upd S 0 s v):=by
 rw[hf]
 simp only[run,plan,h,hk,rest,retV,loc,alu,mop1,gf,pf,al,sa,la,Option.map_none,h3,if_true,hs]
theorem putZ(hf:∀c,f c=run (plan code rt (mop1 arrs gS upd) (cop1 na ml wm)) f c){s k:Nat}{v:Int32}(h:code m pc=some (.putfield k,pn,kp))(hk:tk kp ls=ls)(h3:k%3=1)(hs:k/3=s):f (m,pc,ls,.int v :: .ref 0::st,S)=f (m,pn,ls,st,upd S 0 s (v&&&1)):=by
 rw[hf]
 simp only[run,plan,h,hk,rest,retV,loc,alu,mop1,gf,pf,al,sa,la,Option.map_none,h3,if_true,if_false,hs,Nat.one_ne_zero]
theorem putZ0(hf:∀c,f c=run (plan code rt (mop1 arrs gS upd) (cop1 na ml wm)) f c){s k:Nat}(h:code m pc=some (.putfield k,pn,kp))(hk:tk kp ls=ls)(h3:k%3=1)(hs:k/3=s):f (m,pc,ls,.int 0 :: .ref 0::st,S)=f (m,pn,ls,st,upd S 0 s 0):=putZ hf h hk h3 hs
theorem putZ1(hf:∀c,f c=run (plan code rt (mop1 arrs gS upd) (cop1 na ml wm)) f c){s k:Nat}(h:code m pc=some (.putfield k,pn,kp))(hk:tk kp ls=ls)(h3:k%3=1)(hs:k/3=s):f (m,pc,ls,.int 1 :: .ref 0::st,S)=f (m,pn,ls,st,upd S 0 s 1):=putZ hf h hk h3 hs
theorem iaload(hf:∀c,f c=run (plan code rt (mop1 arrs gS upd) (cop1 na ml wm)) f c){j n:Nat}{ty:FieldType}{i:Int32}(h:code m pc=some (.iaload,pn,kp))(hk:tk kp ls=ls)(ha:arrs[j]? = some (ty,n))(ht:isI ty=true){w:Int32}(hw:S (j+1) i.toNatClampNeg=w):f (m,pc,ls,.int i :: .ref (j+1)::st,S)=if inb i n=true then f (m,pn,ls,.int w::st,S) else none:=by
 subst hw
 rw[hf]
 simp only[run,plan,h,hk,rest,retV,loc,alu,mop1,gf,pf,al,sa,la,Option.map_none,ha,ht,true_and]
 by_cases q:inb i n=true
 ·simp only[q,if_true]
 ·simp only[q,if_false,cop1,Bool.false_eq_true]
theorem ialoadT(hf:∀c,f c=run (plan code rt (mop1 arrs gS upd) (cop1 na ml wm)) f c){j n:Nat}{ty:FieldType}{i:Int32}(h:code m pc=some (.iaload,pn,kp))(hk:tk kp ls=ls)(ha:arrs[j]? = some (ty,n))(ht:isI ty=true)(hi:inb i n=true){z:Nat}(hz:i.toNatClampNeg=z){w:Int32}(hw:S (j+1) z=w):f (m,pc,ls,.int i :: .ref (j+1)::st,S)=f (m,pn,ls,.int w::st,S):=by
 subst hz
 rw[iaload hf h hk ha ht hw,if_pos hi]
theorem baload(hf:∀c,f c=run (plan code rt (mop1 arrs gS upd) (cop1 na ml wm)) f c){j n:Nat}{ty:FieldType}{i:Int32}(h:code m pc=some (.baload,pn,kp))(hk:tk kp ls=ls)(ha:arrs[j]? = some (ty,n))(ht:isB ty=true){w:Int32}(hw:S (j+1) i.toNatClampNeg=w):f (m,pc,ls,.int i :: .ref (j+1)::st,S)=if inb i n=true then f (m,pn,ls,.int w::st,S) else none:=by
 subst hw
 rw[hf]
 simp only[run,plan,h,hk,rest,retV,loc,alu,mop1,gf,pf,al,sa,la,Option.map_none,ha,ht,true_and]
 by_cases q:inb i n=true
 ·simp only[q,if_true]
 ·simp only[q,if_false,cop1,Bool.false_eq_true]
theorem iastore(hf:∀c,f c=run (plan code rt (mop1 arrs gS upd) (cop1 na ml wm)) f c){j n:Nat}{ty:FieldType}{i v:Int32}(h:code m pc=some (.iastore,pn,kp))(hk:tk kp ls=ls)(ha:arrs[j]? = some (ty,n))(ht:isI ty=true){v':Int32}(hv:nar ty v=v'):f (m,pc,ls,.int v :: .int i :: .ref (j+1)::st,S)=if inb i n=true then f (m,pn,ls,st,upd S (j+1) i.toNatClampNeg v') else none:=by
 rw[hf]
 simp only[run,plan,h,hk,rest,retV,loc,alu,mop1,gf,pf,al,sa,la,Option.map_none,ha,ht,true_and,hv]
 by_cases q:inb i n=true
 ·simp only[q,if_true]
 ·simp only[q,if_false,cop1,Bool.false_eq_true]
theorem iastoreT(hf:∀c,f c=run (plan code rt (mop1 arrs gS upd) (cop1 na ml wm)) f c){j n:Nat}{ty:FieldType}{i v:Int32}(h:code m pc=some (.iastore,pn,kp))(hk:tk kp ls=ls)(ha:arrs[j]? = some (ty,n))(ht:isI ty=true){v':Int32}(hv:nar ty v=v')(hi:inb i n=true){z:Nat}(hz:i.toNatClampNeg=z):f (m,pc,ls,.int v :: .int i :: .ref (j+1)::st,S)=f (m,pn,ls,st,upd S (j+1) z v'):=by
 rw[iastore hf h hk ha ht hv,if_pos hi,hz]
theorem bastore(hf:∀c,f c=run (plan code rt (mop1 arrs gS upd) (cop1 na ml wm)) f c){j n:Nat}{ty:FieldType}{i v:Int32}(h:code m pc=some (.bastore,pn,kp))(hk:tk kp ls=ls)(ha:arrs[j]? = some (ty,n))(ht:isB ty=true){v':Int32}(hv:nar ty v=v'):f (m,pc,ls,.int v :: .int i :: .ref (j+1)::st,S)=if inb i n=true then f (m,pn,ls,st,upd S (j+1) i.toNatClampNeg v') else none:=by
 rw[hf]
 simp only[run,plan,h,hk,rest,retV,loc,alu,mop1,gf,pf,al,sa,la,Option.map_none,ha,ht,true_and,hv]
 by_cases q:inb i n=true
 ·simp only[q,if_true]
 ·simp only[q,if_false,cop1,Bool.false_eq_true]
theorem bastoreT(hf:∀c,f c=run (plan code rt (mop1 arrs gS upd) (cop1 na ml wm)) f c){j n:Nat}{ty:FieldType}{i v:Int32}(h:code m pc=some (.bastore,pn,kp))(hk:tk kp ls=ls)(ha:arrs[j]? = some (ty,n))(ht:isB ty=true){v':Int32}(hv:nar ty v=v')(hi:inb i n=true){z:Nat}(hz:i.toNatClampNeg=z):f (m,pc,ls,.int v :: .int i :: .ref (j+1)::st,S)=f (m,pn,ls,st,upd S (j+1) z v'):=by
 rw[bastore hf h hk ha ht hv,if_pos hi,hz]
theorem call(hf:∀c,f c=run (plan code rt (mop1 arrs gS upd) (cop1 na ml wm)) f c){k:Nat}{as r as':List Value}(h:code m pc=some (.invokevirtual k,pn,kp))(hk:tk kp ls=ls)(ht:takeA (na k) [] st=some (as,.ref 0::r))(hc:okn as=true∧cats r≤wm m∧(entL (.ref 0::as)).length≤ml k)(he:entL (.ref 0::as)=as'):f (m,pc,ls,st,S)=(f (k,0,as',[],S)).bind fun q=>f (m,pn,ls,q.1.toList++r,q.2):=by
 rw[hf]
 simp only[run,plan,h,hk,rest,retV,loc,alu,mop1,gf,pf,al,sa,la,Option.map_none,cop1,ht,he]
 rw[←he,if_pos hc]
end F
namespace F
variable {σ:Type} {code:Codes} {rt:Nat→Option FieldType} {f1:Cfg σ→Option (Res σ)} {Z0:σ} {pe nmax:Nat} {na1 ml1 wm na ml:Nat→Nat} {sc:Option (List Int32)} {f:Cfg (W2 σ)→Option (Res (W2 σ))} {m pc pn:Nat} {kp:Option Nat} {ls st:List Value} {ob:List σ} {b:Bool}
theorem new(hf:∀c,f c=run (plan code rt (mop2 f1 Z0 pe nmax na1 ml1 wm sc) (cop2 na ml wm)) f c){q r:Nat}(h:code 0 pc=some (.new q,pn,kp))(hk:tk kp ls=ls)(hl:ob.length<nmax)(hr:ob.length+1=r):f (0,pc,ls,st,(false,ob))=f (0,pn,ls,.ref r::st,(true,ob)):=by
 rw[hf]
 simp only[run,plan,h,hk,rest,retV,loc,alu,Option.map_none,mop2,nw,hl,true_and,if_true,hr]
theorem ctor(hf:∀c,f c=run (plan code rt (mop2 f1 Z0 pe nmax na1 ml1 wm sc) (cop2 na ml wm)) f c){q r:Nat}{as as' rs:List Value}(h:code 0 pc=some (.invokespecial q,pn,kp))(hk:tk kp ls=ls)(ht:takeA (na1 0) [] st=some (as,.ref r::rs))(hr:r=ob.length+1)(hc:okn as=true∧cats rs≤wm 0∧(entL (.ref 0::as)).length≤ml1 0)(he:entL (.ref 0::as)=as') :
  f (0,pc,ls,st,(true,ob))=(f1 (0,pe,as',[],Z0)).bind fun q=>f (0,pn,ls,rs,(false,ob++[q.2])):=by
 rw[hf]
 subst he
 simp only[run,plan,h,hk,rest,retV,loc,alu,Option.map_none,mop2,ct,ht]
 rw[if_pos ⟨⟨trivial,hr⟩,hc⟩]
 cases f1 (0,pe,entL (.ref 0::as),[],Z0) with
 |none=>simp only[Option.map_none,cop2,Option.bind_none]
 |some q=>simp only[Option.map_some,Option.bind_some]
theorem virt(hf:∀c,f c=run (plan code rt (mop2 f1 Z0 pe nmax na1 ml1 wm sc) (cop2 na ml wm)) f c){k o:Nat}{as as' rs:List Value}{S:σ}(h:code m pc=some (.invokevirtual k,pn,kp))(hk:tk kp ls=ls)(ht:takeA (na1 k) [] st=some (as,.ref (o+1)::rs))(hS:ob[o]? = some S)(hc:okn as=true∧cats rs≤wm m∧(entL (.ref 0::as)).length≤ml1 k)(he:entL (.ref 0::as)=as') :
  f (m,pc,ls,st,(false,ob))=(f1 (k,0,as',[],S)).bind fun q=>f (m,pn,ls,q.1.toList++rs,(false,ob.set o q.2)):=by
 rw[hf]
 subst he
 simp only[run,plan,h,hk,rest,retV,loc,alu,Option.map_none,mop2,vt,ht,hS]
 rw[if_pos hc]
 cases f1 (k,0,entL (.ref 0::as),[],S) with
 |none=>simp only[Option.map_none,cop2,Option.bind_none]
 |some q=>simp only[Option.map_some,Option.bind_some]
theorem sload(hf:∀c,f c=run (plan code rt (mop2 f1 Z0 pe nmax na1 ml1 wm sc) (cop2 na ml wm)) f c){i:Int32}{xs:List Int32}(hx:sc=some xs)(h:code m pc=some (.iaload,pn,kp))(hk:tk kp ls=ls){w:W2 σ}:f (m,pc,ls,.int i :: .ref 0::st,w)=if inb i xs.length=true then f (m,pn,ls,.int (xs.getD i.toNatClampNeg 0)::st,w) else none:=by
 rw[hf]
 subst hx
 simp only[run,plan,h,hk,rest,retV,loc,alu,Option.map_none,mop2,sl]
 by_cases q:inb i xs.length=true
 ·simp only[q,if_true]
 ·simp only[q,if_false,cop2,Bool.false_eq_true]
theorem slen(hf:∀c,f c=run (plan code rt (mop2 f1 Z0 pe nmax na1 ml1 wm sc) (cop2 na ml wm)) f c){xs:List Int32}(hx:sc=some xs)(h:code m pc=some (.arraylength,pn,kp))(hk:tk kp ls=ls){w:W2 σ}:f (m,pc,ls,.ref 0::st,w)=f (m,pn,ls,.int (Int32.ofNat xs.length)::st,w):=by
 rw[hf]
 subst hx
 simp only[run,plan,h,hk,rest,retV,loc,alu,Option.map_none,mop2,sn]
theorem stat(hf:∀c,f c=run (plan code rt (mop2 f1 Z0 pe nmax na1 ml1 wm sc) (cop2 na ml wm)) f c){k:Nat}{as as' rs:List Value}{w:W2 σ}(h:code m pc=some (.invokestatic k,pn,kp))(hk:tk kp ls=ls)(ht:takeA (na k) [] st=some (as,rs))(hc:k≠0∧okv as=true∧cats rs≤wm m∧(entL as).length≤ml k)(he:entL as=as') :
  f (m,pc,ls,st,w)=(f (k,0,as',[],w)).bind fun q=>f (m,pn,ls,q.1.toList++rs,q.2):=by
 rw[hf]
 subst he
 simp only[run,plan,h,hk,rest,retV,loc,alu,Option.map_none,mop2,cop2,ht]
 rw[if_pos hc]
end F
section Top
variable {σ:Type} {C:String} {gds:List (String×String)} {fds:List (String×String×Nat)} {arrs:List (FieldType×Nat)} {Z:State} {G:σ→Nat→Nat→Int32} {fs nmax:Nat} {sc:Option (List Int32)} {mi2:MI} {rt2:Nat→Option FieldType} {l:Launch} {own:String}
set_option maxHeartbeats 1000000 in
theorem top{code2:Codes}{mop:Mop (W2 σ)}{cop:Cop}{n:Nat}(hW:Walks code2 rt2 mop cop mi2 own Z l (rho2 (arrs.length+1)) (J2 C gds fds arrs Z G fs nmax sc) n)(hpn:plainName own=true)(hcls:(mi2 0).1.cls=own){as:List Value}(hok:okv as=true)(hlen:(entL as).length≤(mi2 0).2.2.1)
  {r:Res (W2 σ)} (hit:iter (plan code2 rt2 mop cop) n (0,0,entL as,[],(false,[]))=some r) {rm:Room} (hfr:(mi2 0).2.2.2.1≤rm.frames) (hlw:(mi2 0).2.2.2.2≤rm.locals) (hRc:nmax*(arrs.length+1)≤rm.cells) (hRs:nmax*(fs+slotSum arrs arrs.length)≤rm.slots) {h:Heap} {sa:Nat}
  (hsc:∀xs,sc=some xs→sa<h.size∧xs.length<2147483648∧∃cell,Arr Z h sa cell .int∧cell.slots.size=xs.length∧∀i,i<xs.length→cell.slots[i]? = some (.int (xs.getD i 0))) (ws:List Jvm.Cond) :
  MetFree l (mi2 0).1 (head1 (Cond.code (mi2 0).1 (mi2 0).2.1 (mi2 0).2.2.1 (rt2 0)::ws) rm)
   (fun A U=>A=(as.map (cv (rho2 (arrs.length+1) (sa,h.size,0,0)))).toArray∧Z.Warmed39 U.vm∧U.heap=h) (fun _ _ _ _ _=>True)
   (fun _ U o U'=>∃v L,o = .returned v∧(v=r.1∧Fr h.size L)∧FrameEnd U o U' L rm.cells rm.slots):=by
 refine MetFree.of_bodySF (plainFor_of_name (by rw[hcls];exact hpn)) hisR ?_
 intro p e s m args below meth c s₁ Bd hml0 hP hK
 obtain⟨rfl,hZ,hh⟩:=hP
 have hown:s.vm.findClass own=some m.cls:=by rw[←hcls];exact findClass_of_methodNamed Bd.named
 have hnm:=(name_of_methodNamed Bd.named Bd.method).1
 have X0:=Stand.of_body Bd
 have e0:s₁.heap=h:=by rw[←hh,Bd.state];rfl
 obtain⟨L,q1,q2,q3,q4⟩:=entry_rel (rho2 (arrs.length+1) (sa,h.size,0,0)) (vs:=as) hok hlen
 obtain⟨T',L',k',n',X',⟨-,⟨j3,j4⟩,-,-,-,-,jN⟩,⟨ok1,ok2⟩,st⟩:=hW (sa,h.size,0,0) p e _ s m _ below meth c 0 0 _ [] (false,[]) r hit s₁ [] 0 0 L X0 ⟨Bd.exec,hZ,hown,Bd.bytes,hml0,Bd.returns,hnm,hfr,hlw⟩
  ⟨⟨by simp[cnt],by simp[scn]⟩,⟨Nat.zero_le _,Nat.zero_le _⟩,fun _=>⟨rfl,rfl,hRc,hRs⟩,fun q=>absurd rfl q,by rw[hh];rfl,by rw[e0];exact⟨fun o S q=>by simp at q,fun q=>(by cases q),by simp[cnt],hsc⟩,Fr.nil _⟩ q2 q3 (by rw[q4,hml0])
 obtain⟨fs',hr,hrun,hended,hWm,hsame⟩:=X'.leave (v:=r.1) ok1
 refine⟨_,_,?_,hrun,hended,_,_,rfl,⟨rfl,jN⟩,⟨_,rfl⟩,hWm,hsame.mono j3 j4⟩
 have:=st fs' hr
 rw[q1 m]
 exact this
end Top
def laidW(fin:Bool)(C n d:String):Jvm.Cond:=if fin=true then .laysFinal C C n d else .lays C C n d
abbrev Ent:=Nat×Instr×Nat×Option Nat
abbrev Mth:=MethodName×ByteArray×Nat×Nat×Nat×Option FieldType×Nat×Nat×Bool×List Ent
def m0:Mth:=(⟨"","",""⟩,⟨#[]⟩,0,0,0,none,0,0,false,[])
def miOf(ms:List Mth)(k:Nat):MethodName×ByteArray×Nat×Nat×Nat:=let q:=ms.getD k m0;(q.1,q.2.1,q.2.2.1,q.2.2.2.1,q.2.2.2.2.1)
def rtOf(ms:List Mth)(k:Nat):Option FieldType:=(ms.getD k m0).2.2.2.2.2.1
def naOf(ms:List Mth)(k:Nat):Nat:=(ms.getD k m0).2.2.2.2.2.2.1
def wmOf(ms:List Mth)(k:Nat):Nat:=(ms.getD k m0).2.2.2.2.2.2.2.1
def clOf(ms:List Mth)(k:Nat):List Ent:=(ms.getD k m0).2.2.2.2.2.2.2.2.2
def cdOf(ms:List Mth):Codes:=fun m pc=>lk pc (clOf ms m)
def goodB(Tb:Tabs)(ms:List Mth):Bool:=ms.all fun q=>q.2.2.2.2.2.2.2.2.2.all (chkE Tb q.2.1 q.2.2.1)
theorem good_of{Tb:Tabs}{ms:List Mth}(h:goodB Tb ms=true):Good Tb (miOf ms) (cdOf ms):=by
 intro mm pc q hq
 have hq':=lk_mem hq
 unfold clOf at hq'
 by_cases hm:mm<ms.length
 ·have e:ms.getD mm m0=ms[mm]:=by simp[List.getD,hm]
  have h1:=List.all_eq_true.mp h ms[mm] (List.getElem_mem hm)
  have h2:=List.all_eq_true.mp h1 (pc,q) (by rw[e] at hq';exact hq')
  show chkE Tb (ms.getD mm m0).2.1 (ms.getD mm m0).2.2.1 (pc,q)=true
  rw[e];exact h2
 ·have e:ms.getD mm m0=m0:=by simp[List.getD,hm]
  rw[e] at hq'
  cases hq'
def roomB(ms callees:List Mth)(isCall:Instr→Option Nat):Bool:=ms.all fun q=>q.2.2.2.2.2.2.2.2.2.all fun en=>match isCall en.2.1 with
 |some k=>decide ((callees.getD k m0).2.2.2.1+1≤q.2.2.2.1)&&decide (q.2.2.2.2.2.2.2.1+((callees.getD k m0).2.2.1+11)+(callees.getD k m0).2.2.2.2.1≤q.2.2.2.2.1)
 |none=>true
theorem room_of{ms callees:List Mth}{isCall:Instr→Option Nat}(h:roomB ms callees isCall=true){mm pc k:Nat}{i:Instr}{pn:Nat}{kp:Option Nat}(hc:cdOf ms mm pc=some (i,pn,kp))(hi:isCall i=some k) :
  (miOf callees k).2.2.2.1+1≤(miOf ms mm).2.2.2.1∧wmOf ms mm+((miOf callees k).2.2.1+11)+(miOf callees k).2.2.2.2≤(miOf ms mm).2.2.2.2:=by
 have hq':=lk_mem hc
 unfold clOf at hq'
 by_cases hm:mm<ms.length
 ·have e:ms.getD mm m0=ms[mm]:=by simp[List.getD,hm]
  have h1:=List.all_eq_true.mp h ms[mm] (List.getElem_mem hm)
  have h2:=List.all_eq_true.mp h1 (pc,i,pn,kp) (by rw[e] at hq';exact hq')
  simp only[hi,Bool.and_eq_true,decide_eq_true_eq] at h2
  simp only[miOf,wmOf,e]
  exact h2
 ·have e:ms.getD mm m0=m0:=by simp[List.getD,hm]
  rw[e] at hq'
  cases hq'
def callVk:Instr→Option Nat
 | .invokevirtual k=>some k
 |_=>none
def callSk:Instr→Option Nat
 | .invokestatic k=>some k
 |_=>none
abbrev Cls:=String×Nat×List (String×String)×List (String×String×Nat)×List (FieldType×Nat)×Bool×List Item×Nat×Nat×List (Nat×Int)×Tabs×List Mth
def mthW(C:String)(q:Mth):List Jvm.Cond:=if q.1.cls = "" then [] else [.instanceMethod q.1,.code q.1 q.2.1 q.2.2.1 q.2.2.2.2.2.1]++(if q.2.2.2.2.2.2.2.2.1=true then [.privateMethod q.1] else [.declares q.1,.selects C q.1 q.1])
def needs1(D:Cls):List Jvm.Cond:=match D with
 |(C,fs,gds,fds,_,fa,items,_,oi,_,Tb,ms)=>
  [.instantiable C fs,.initialized C,.methodLink C oi Lib.objectInit,.instanceMethod Lib.objectInit,.code Lib.objectInit ⟨#[0xb1]⟩ 1 none,.instanceMethod (ms.getD 0 m0).1,.code (ms.getD 0 m0).1 (ms.getD 0 m0).2.1 (ms.getD 0 m0).2.2.1 none] ++
  fds.map (fun q=>if q.2.2%3=2 then laidW fa C q.1 q.2.1 else .lays C C q.1 q.2.1)++gds.map (fun q=>laidW true C q.1 q.2)++Tb.1.map (fun q => .fieldLink C q.1 C q.2.1 q.2.2.1)++items.map (fun q => .fieldLink C q.2.1 C q.2.2.1 q.2.2.2) ++
  items.filterMap (fun q=>q.1.map fun t => .arrayClass (newarray.typeOf t))++Tb.2.1.map (fun q => .methodLink C q.1 (ms.getD q.2 m0).1)++(ms.drop 1).flatMap (mthW C)++Tb.2.2.2.1.map (fun q => .constant C q.1 q.2)++Tb.2.2.2.2.1.map (fun q => .constantLong C q.1 q.2)
def descB(q:Mth):Bool:=match parseMethodDescriptor q.1.desc with
 |some ⟨ps,r⟩=>decide (r=q.2.2.2.2.2.1)&&decide (ps.length=q.2.2.2.2.2.2.1)
 |none=>false
def isArrD(d:String):Bool:=match parseFieldDescriptor d with
 |some (.array _)=>true
 |_=>false
def data1(D:Cls):Bool:=match D with
 |(C,fs,gds,fds,arrs,fa,items,pe,oi,iv,Tb,ms)=>
  decide ((gds.map (·.1)++fds.map (·.1)).Nodup)&&decide ((fds.map fun q=>q.2.2).Nodup)&&decide (((fds.filter fun q=>decide (q.2.2%3≠2)).map fun q=>q.2.2/3).Nodup) &&
  fds.all (fun q=>decide (q.2.2%3=0→q.2.1 = "I")&&decide (q.2.2%3=1→q.2.1 = "Z")&&decide (q.2.2%3=2→(isArrD q.2.1=true∧q.2.2/3<arrs.length)))&&gds.all (fun q=>decide (q.2 = "I"))&&Tb.1.all (fun q=>decide ((q.2.1,q.2.2.1,q.2.2.2)∈fds)) &&
  arrs.all (fun q=>decide (q.1 = .int∨q.1 = .boolean∨q.1 = .byte))&&items.all (fun q=>match q.1 with
   |none=>decide ((q.2.2.1,q.2.2.2)∈gds)||fds.any fun w=>decide (w.1=q.2.2.1)&&decide (w.2.1=q.2.2.2)&&decide (w.2.2%3=0)
   |some _=>fds.any fun w=>decide (w.1=q.2.2.1)&&decide (w.2.1=q.2.2.2)&&decide (w.2.2%3=2)) &&
  Tb.2.1.all (fun q=>decide (1≤q.2)&&decide (q.2<ms.length)&&decide ((ms.getD q.2 m0).1.cls=C))&&ms.all (fun q=>decide (q.1.cls = "")||descB q)&&decide (C ≠ "")&&decide ((ms.getD 0 m0).1.cls=C)&&decide (C ≠ "java/lang/invoke/MethodHandle")&&decide (C ≠ "java/lang/invoke/VarHandle")&&plainName C &&
  decide ((ms.getD 0 m0).1.name = "<init>")&&decide ((ms.getD 0 m0).2.2.2.2.2.1=none)&&decide (0<ms.length)&&decide (1≤(ms.getD 0 m0).2.2.2.1)&&decide (12≤(ms.getD 0 m0).2.2.2.2.1) &&
  proChk (ms.getD 0 m0).2.1 Tb (ms.getD 0 m0).2.2.1 gds fds arrs pe items 4 0 iv&&(match decode (ms.getD 0 m0).2.1 0,decode (ms.getD 0 m0).2.1 1 with
   | .ok (.aload_n 0,1),.ok (.invokespecial oi',3)=>decide (oi'=oi)
   |_,_=>false)
theorem nodup_inj{α β:Type}{f:α→β}:∀ {l:List α},(l.map f).Nodup→∀ {a b:α},a∈l→b∈l→f a=f b→a=b
 |[],_,a,b,ha,_,_=>by cases ha
 |x::l,h,a,b,ha,hb,e=>by
  rw[List.map_cons,List.nodup_cons] at h
  rcases List.mem_cons.mp ha with rfl | ha'<;>rcases List.mem_cons.mp hb with rfl | hb'
  ·rfl
  ·exact absurd (e▸List.mem_map_of_mem hb') h.1
  ·exact absurd (e.symm▸List.mem_map_of_mem ha') h.1
  ·exact nodup_inj h.2 ha' hb' e
theorem laid_of{Z:State}{a0:Array Value}{fin:Bool}{C n d:String}(h:(laidW fin C n d).before a0 Z=true):Laid Z a0 C C n d:=by
 unfold laidW at h
 split at h
 ·exact Or.inr h
 ·exact Or.inl h
set_option maxHeartbeats 1000000 in
theorem base_of{C:String}{fs:Nat}{gds:List (String×String)}{fds:List (String×String×Nat)}{arrs:List (FieldType×Nat)}{fa:Bool}{items:List Item}{pe oi:Nat}{iv:List (Nat×Int)}{Tb:Tabs}{ms:List Mth}{Z:State}{a0:Array Value}
  (hD:data1 (C,fs,gds,fds,arrs,fa,items,pe,oi,iv,Tb,ms)=true) (hw:∀w∈needs1 (C,fs,gds,fds,arrs,fa,items,pe,oi,iv,Tb,ms),w.before a0 Z=true) :
  Base C gds fds arrs items Z a0 fs Tb (miOf ms) (rtOf ms) (naOf ms) pe oi iv∧∀own k idx Tb',(∀idx',(idx',k)∈Tb'.2.1→(Cond.methodLink own idx' (miOf ms k).1).before a0 Z=true)→(idx,k)∈Tb'.2.1→(ms.getD k m0).1.cls=C→k≠0→MthOK C Tb' Z a0 (miOf ms) (rtOf ms) own k (naOf ms):=by
 simp only[data1,Bool.and_eq_true,decide_eq_true_eq] at hD
 obtain⟨⟨⟨⟨⟨⟨⟨⟨⟨⟨⟨⟨⟨⟨⟨⟨⟨⟨⟨⟨⟨h1,h2⟩,h3⟩,h4⟩,h5⟩,h6⟩,h7⟩,h8⟩,h9⟩,h10⟩,h10a⟩,h10b⟩,h11⟩,h12⟩,h13⟩,h14⟩,h15⟩,h16⟩,h17⟩,h18⟩,h19⟩,h20⟩:=hD
 simp only[List.all_eq_true,Bool.and_eq_true,decide_eq_true_eq] at h4 h5 h6 h7 h9
 have h1g:(gds.map (·.1)).Nodup:=(List.nodup_append.mp h1).1
 have h1f:(fds.map (·.1)).Nodup:=(List.nodup_append.mp h1).2.1
 have h1d:∀n∈gds.map (·.1),∀n'∈fds.map (·.1),n≠n':=(List.nodup_append.mp h1).2.2
 have w0:(Cond.instantiable C fs).before a0 Z=true:=hw _ (by simp[needs1])
 have w1:(Cond.initialized C).before a0 Z=true:=hw _ (by simp[needs1])
 have w2:(Cond.methodLink C oi Lib.objectInit).before a0 Z=true:=hw _ (by simp[needs1])
 have w3:(Cond.instanceMethod Lib.objectInit).before a0 Z=true:=hw _ (by simp[needs1])
 have w4:(Cond.code Lib.objectInit ⟨#[0xb1]⟩ 1 none).before a0 Z=true:=hw _ (by simp[needs1])
 have wf:∀q∈fds,(if q.2.2%3=2 then laidW fa C q.1 q.2.1 else Jvm.Cond.lays C C q.1 q.2.1).before a0 Z=true:=fun q hq=>hw _ (by
  simp only[needs1,List.mem_append]
  exact Or.inl (Or.inl (Or.inl (Or.inl (Or.inl (Or.inl (Or.inl (Or.inl (Or.inr (List.mem_map.mpr ⟨q,hq,rfl⟩))))))))))
 have wg:∀q∈gds,(laidW true C q.1 q.2).before a0 Z=true:=fun q hq=>hw _ (by
  simp only[needs1,List.mem_append]
  exact Or.inl (Or.inl (Or.inl (Or.inl (Or.inl (Or.inl (Or.inl (Or.inr (List.mem_map.mpr ⟨q,hq,rfl⟩)))))))))
 have wl:∀q∈Tb.1,(Jvm.Cond.fieldLink C q.1 C q.2.1 q.2.2.1).before a0 Z=true:=fun q hq=>hw _ (by
  simp only[needs1,List.mem_append]
  exact Or.inl (Or.inl (Or.inl (Or.inl (Or.inl (Or.inl (Or.inr (List.mem_map.mpr ⟨q,hq,rfl⟩))))))))
 have wi:∀q∈items,(Jvm.Cond.fieldLink C q.2.1 C q.2.2.1 q.2.2.2).before a0 Z=true:=fun q hq=>hw _ (by
  simp only[needs1,List.mem_append]
  exact Or.inl (Or.inl (Or.inl (Or.inl (Or.inl (Or.inr (List.mem_map.mpr ⟨q,hq,rfl⟩)))))))
 have wa:∀q∈items,∀t,q.1=some t→(Jvm.Cond.arrayClass (newarray.typeOf t)).before a0 Z=true:=fun q hq t ht=>hw _ (by
  simp only[needs1,List.mem_append]
  exact Or.inl (Or.inl (Or.inl (Or.inl (Or.inr (List.mem_filterMap.mpr ⟨q,hq,by rw[ht];rfl⟩))))))
 have wm:∀q∈ms.drop 1,∀w∈mthW C q,w.before a0 Z=true:=fun q hq w hw'=>hw _ (by
  simp only[needs1,List.mem_append]
  exact Or.inl (Or.inl (Or.inr (List.mem_flatMap.mpr ⟨q,hq,hw'⟩))))
 have wc:∀q∈Tb.2.2.2.1,(Jvm.Cond.constant C q.1 q.2).before a0 Z=true:=fun q hq=>hw _ (by
  simp only[needs1,List.mem_append]
  exact Or.inl (Or.inr (List.mem_map.mpr ⟨q,hq,rfl⟩)))
 have wcl:∀q∈Tb.2.2.2.2.1,(Jvm.Cond.constantLong C q.1 q.2).before a0 Z=true:=fun q hq=>hw _ (by
  simp only[needs1,List.mem_append]
  exact Or.inr (List.mem_map.mpr ⟨q,hq,rfl⟩))
 have lf:∀n d k,(n,d,k)∈fds→Laid Z a0 C C n d:=fun n d k hq=>by
  have:=wf _ hq
  dsimp only at this
  split at this
  ·exact laid_of this
  ·exact Or.inl this
 have pf':∀n d k,(n,d,k)∈fds→∃t,parseFieldDescriptor d=some t:=fun n d k hq=>by
  obtain⟨⟨a,b⟩,c⟩:=h4 _ hq
  dsimp only at a b c
  have:k%3=0∨k%3=1∨k%3=2:=by omega
  rcases this with q | q | q
  ·rw[a q];exact⟨.int,by decide⟩
  ·rw[b q];exact⟨.boolean,by decide⟩
  ·have:=(c q).1
   unfold isArrD at this
   split at this
   ·rename_i u hu;exact⟨_,hu⟩
   ·cases this
 have K:ClsOK C fds arrs Tb Z a0:=by
  refine⟨⟨fs,w0⟩,fun n d k hq=>⟨lf n d k hq,fun q=>?_,fun q=>(h4 _ hq).1.1 q,fun q=>(h4 _ hq).1.2 q,pf' n d k hq⟩,fun n d k n' d' k' hq hq' e=>?_,fun n d k n' d' k' hq hq' e q q'=>?_,fun idx n d k hq=>⟨wl _ hq,h6 _ hq⟩,fun j ty n hj=>h7 _ (List.mem_of_getElem? hj)⟩
  ·have:=wf _ hq
   dsimp only at this
   rw[if_neg q] at this
   exact this
  ·have:=nodup_inj h1f hq hq' e
   simp only[Prod.mk.injEq] at this
   exact this.2
  ·intro e'
   have m1:(n,d,k)∈fds.filter fun q=>decide (q.2.2%3≠2):=List.mem_filter.mpr ⟨hq,by simpa using q⟩
   have m2:(n',d',k')∈fds.filter fun q=>decide (q.2.2%3≠2):=List.mem_filter.mpr ⟨hq',by simpa using q'⟩
   have:=nodup_inj h3 m1 m2 e'
   simp only[Prod.mk.injEq] at this
   exact e this.1
 have M:MakOK C gds fds arrs items Z a0:=by
  refine⟨fun t idx n d hq=>⟨wi _ hq,?_,fun ht=>?_,fun ht=>?_,fun t' ht=>wa _ hq t' ht⟩,fun n d hq=>⟨laid_of (wg _ hq),?_,fun n' d' k' hq' e=>h1d n (List.mem_map_of_mem hq) n' (List.mem_map_of_mem hq') e⟩,fun n d n' d' q hq hq'=>?_,fun n d n' d' hq hq' e=>?_,fun j ty n hj=>?_⟩
  ·have:=List.all_eq_true.mp h8 _ hq
   dsimp only at this
   split at this
   ·simp only[Bool.or_eq_true,decide_eq_true_eq,List.any_eq_true,Bool.and_eq_true] at this
    rcases this with q | ⟨⟨n1,d1,k1⟩,m1,⟨e1,e2⟩,e3⟩
    ·exact laid_of (wg _ q)
    ·dsimp only at e1 e2;subst e1 e2;exact lf _ _ _ m1
   ·simp only[decide_eq_true_eq,List.any_eq_true,Bool.and_eq_true] at this
    obtain⟨⟨n1,d1,k1⟩,m1,⟨e1,e2⟩,e3⟩:=this
    dsimp only at e1 e2;subst e1 e2;exact lf _ _ _ m1
  ·have:=List.all_eq_true.mp h8 _ hq
   dsimp only at this
   subst ht
   simp only[Bool.or_eq_true,decide_eq_true_eq,List.any_eq_true,Bool.and_eq_true] at this
   rcases this with q | ⟨⟨n1,d1,k1⟩,m1,⟨e1,e2⟩,e3⟩
   ·exact h5 _ q
   ·dsimp only at e1 e2 e3;subst e1 e2;exact (h4 _ m1).1.1 e3
  ·have:=List.all_eq_true.mp h8 _ hq
   dsimp only at this
   cases t with
   |none=>exact absurd rfl ht
   |some t'=>
    simp only[decide_eq_true_eq,List.any_eq_true,Bool.and_eq_true] at this
    obtain⟨⟨n1,d1,k1⟩,m1,⟨e1,e2⟩,e3⟩:=this
    dsimp only at e1 e2 e3;subst e1 e2
    have:=((h4 _ m1).2 e3).1
    unfold isArrD at this
    split at this
    ·rename_i u hu;exact⟨u,hu⟩
    ·cases this
  ·exact h5 _ hq
  ·have:=nodup_inj h2 hq hq' rfl
   simp only[Prod.mk.injEq] at this
   exact this.1
  ·have:=nodup_inj h1g hq hq' e
   simp only[Prod.mk.injEq] at this
   exact this.2
  ·rcases h7 _ (List.mem_of_getElem? hj) with q | q | q<;>(dsimp only at q;subst q;rfl)
 have hdesc:∀k,(ms.getD k m0).1.cls=C→∃ps,parseMethodDescriptor (miOf ms k).1.desc=some ⟨ps,rtOf ms k⟩∧ps.length=naOf ms k:=by
  intro k hk
  have hm:k<ms.length:=by
   apply Classical.byContradiction
   intro q
   have e:ms.getD k m0=m0:=by simp[List.getD,q]
   rw[e] at hk
   exact h10a hk.symm
  have e:ms.getD k m0=ms[k]:=by simp[List.getD,hm]
  have:=List.all_eq_true.mp h10 ms[k] (List.getElem_mem hm)
  rw[←e] at this
  simp only[Bool.or_eq_true,decide_eq_true_eq] at this
  rcases this with q | q
  ·rw[hk] at q;exact absurd q h10a
  ·unfold descB at q
   split at q
   ·rename_i ps r hp
    simp only[Bool.and_eq_true,decide_eq_true_eq] at q
    refine⟨ps,?_,q.2⟩
    rw[show rtOf ms k=r from q.1.symm]
    exact hp
   ·cases q
 refine⟨⟨⟨K,M,⟨fun k v hq=>wc _ hq,fun k v hq=>wcl _ hq⟩,w0,w1⟩,⟨h13,⟨h11,h12⟩,h10b,h14,h15⟩,fun n d q hq q3=>((h4 _ hq).2 q3).2,⟨h19,?_⟩,⟨w2,w3,w4⟩,⟨h17,h18⟩,?_⟩,?_⟩
 ·split at h20
  ·rename_i q1 q2
   simp only[decide_eq_true_eq] at h20
   subst h20
   exact⟨q1,q2⟩
  ·cases h20
 ·obtain⟨ps,q1,q2⟩:=hdesc 0 h10b
  refine⟨ps,?_,q2⟩
  rw[q1]
  have:rtOf ms 0=none:=h15
  rw[this]
 ·intro own k idx Tb' hl hidx hk hk0
  refine⟨fun idx' hidx'=>⟨hk,hl idx' hidx',?_⟩,hdesc k hk⟩
  have hm:k<ms.length:=by
   apply Classical.byContradiction
   intro q
   have e:ms.getD k m0=m0:=by simp[List.getD,q]
   rw[e] at hk
   exact h10a hk.symm
  have e:ms.getD k m0=ms[k]:=by simp[List.getD,hm]
  have hmem:ms.getD k m0∈ms.drop 1:=by
   rw[e]
   obtain⟨k',rfl⟩:∃k',k=k'+1:=⟨k-1,by omega⟩
   exact List.mem_of_getElem? (i:=k') (by rw[List.getElem?_drop];simp[Nat.add_comm,hm])
  have hw1:=wm _ hmem
  have hne:(ms.getD k m0).1.cls ≠ "" := by rw[hk];exact h10a
  simp only[mthW,if_neg hne] at hw1
  refine⟨hw1 _ (List.mem_append_left _ (List.mem_cons_self ..)),hw1 _ (List.mem_append_left _ (List.mem_cons_of_mem _ (List.mem_cons_self ..))),?_⟩
  by_cases hp:(ms.getD k m0).2.2.2.2.2.2.2.2.1=true
  ·exact Or.inl (hw1 _ (List.mem_append_right _ (by rw[if_pos hp];exact List.mem_cons_self ..)))
  ·exact Or.inr ⟨hw1 _ (List.mem_append_right _ (by rw[if_neg hp];exact List.mem_cons_self ..)),hw1 _ (List.mem_append_right _ (by rw[if_neg hp];exact List.mem_cons_of_mem _ (List.mem_cons_self ..)))⟩
def data2(C own:String)(ms ms2:List Mth)(Tb2:Tabs):Bool:=
 decide (own ≠ "java/lang/invoke/MethodHandle")&&decide (own ≠ "java/lang/invoke/VarHandle")&&plainName own&&ms2.all (fun q=>decide (q.1.cls=own)&&descB q)&&Tb2.2.1.all (fun q=>decide (q.2≠0)&&decide ((ms.getD q.2 m0).1.cls=C))&&Tb2.2.2.1.all (fun q=>decide (q.2<ms2.length))&&decide (0<ms2.length)
def needs2(C own:String)(ms ms2:List Mth)(Tb2:Tabs):List Jvm.Cond:=
 Tb2.2.2.2.2.2.1.map (fun q => .classLink own q.1 C)++Tb2.2.2.2.2.2.2.map (fun q => .methodLink own q.1 (ms.getD 0 m0).1)++Tb2.2.1.map (fun q => .methodLink own q.1 (ms.getD q.2 m0).1) ++
 Tb2.2.2.1.flatMap (fun q=>[.methodLink own q.1 (ms2.getD q.2 m0).1,.static (ms2.getD q.2 m0).1,.initialized own,.code (ms2.getD q.2 m0).1 (ms2.getD q.2 m0).2.1 (ms2.getD q.2 m0).2.2.1 (ms2.getD q.2 m0).2.2.2.2.2.1]) ++
 Tb2.2.2.2.1.map (fun q => .constant own q.1 q.2)++Tb2.2.2.2.2.1.map (fun q => .constantLong own q.1 q.2)
def callCk:Instr→Option Nat
 | .invokespecial _=>some 0
 |_=>none
def hasB(tw:List Jvm.Cond):List Jvm.Cond→List Nat→Bool
 |[],[]=>true
 |w::ws,i::is=>decide (tw[i]? = some w)&&hasB tw ws is
 |_,_=>false
theorem has_of{tw:List Jvm.Cond}:∀ {ws:List Jvm.Cond} {is:List Nat},hasB tw ws is=true→∀w∈ws,w∈tw
 |[],[],_,w,h=>by cases h
 |w::ws,i::is,h,v,hv=>by
  simp only[hasB,Bool.and_eq_true,decide_eq_true_eq] at h
  rcases List.mem_cons.mp hv with rfl | q
  ·exact List.mem_of_getElem? h.1
  ·exact has_of h.2 v q
 |[],_::_,h,w,hw=>by cases hw
 |_::_,[],h,w,hw=>by cases h
def iniS(iv:List (Nat×Int)):MS:=iv.foldl (fun S q=>upd S 0 q.1 (Int32.ofInt q.2)) (fun _ _=>0)
theorem iniS_spec(iv:List (Nat×Int)):(∀i,iniS iv 0 i=finG (fun _=>0) iv i)∧∀c i,iniS iv (c+1) i=0:=by
 have key:∀(iv:List (Nat×Int)) (S:MS) (g:Nat→Int32),(∀i,S 0 i=g i)→(∀c i,S (c+1) i=0)→(∀i,(iv.foldl (fun S q=>upd S 0 q.1 (Int32.ofInt q.2)) S) 0 i=finG g iv i)∧∀c i,(iv.foldl (fun S q=>upd S 0 q.1 (Int32.ofInt q.2)) S) (c+1) i=0:=by
  intro iv
  induction iv with
  |nil=>intro S g h1 h2;exact⟨h1,h2⟩
  |cons q r ih=>
   intro S g h1 h2
   refine ih (upd S 0 q.1 (Int32.ofInt q.2)) (fun i=>if i=q.1 then Int32.ofInt q.2 else g i) (fun i=>?_) (fun c i=>?_)
   ·simp only[upd,true_and,h1]
   ·simp only[upd,h2]
    rw[if_neg (by simp)]
 exact key iv (fun _ _=>0) (fun _=>0) (fun _=>rfl) (fun _ _=>rfl)
abbrev Fix1(arrs:List (FieldType×Nat))(ms:List Mth)(f1:Cfg MS→Option (Res MS)):Prop:=∀c,f1 c=run (plan (cdOf ms) (rtOf ms) (mop1 arrs gS upd) (cop1 (naOf ms) (fun k=>(miOf ms k).2.2.1) (wmOf ms))) f1 c
abbrev Fix2(ms ms2:List Mth)(iv:List (Nat×Int))(pe nmax:Nat)(sc:Option (List Int32))(f1:Cfg MS→Option (Res MS))(f2:Cfg (W2 MS)→Option (Res (W2 MS))):Prop:=
 ∀c,f2 c=run (plan (cdOf ms2) (rtOf ms2) (mop2 f1 (iniS iv) pe nmax (naOf ms) (fun k=>(miOf ms k).2.2.1) (wmOf ms2) sc) (cop2 (naOf ms2) (fun k=>(miOf ms2 k).2.2.1) (wmOf ms2))) f2 c
set_option maxHeartbeats 1000000 in
theorem law_of{C own:String}{fs:Nat}{gds:List (String×String)}{fds:List (String×String×Nat)}{arrs:List (FieldType×Nat)}{fa:Bool}{items:List Item}{pe oi:Nat}{iv:List (Nat×Int)}{Tb Tb2:Tabs}{ms ms2:List Mth}{Z:State}{a0:Array Value}{l:Launch}{tw:List Jvm.Cond}{is1 is2:List Nat}{nmax:Nat}
  (hD:data1 (C,fs,gds,fds,arrs,fa,items,pe,oi,iv,Tb,ms)=true) (hG1:goodB Tb ms=true) (hR1:roomB ms ms callVk=true) (hD2:data2 C own ms ms2 Tb2=true) (hG2:goodB Tb2 ms2=true) (hRv:roomB ms2 ms callVk=true) (hRc:roomB ms2 ms callCk=true) (hRs:roomB ms2 ms2 callSk=true)
  (hb1:hasB tw (needs1 (C,fs,gds,fds,arrs,fa,items,pe,oi,iv,Tb,ms)) is1=true) (hb2:hasB tw (needs2 C own ms ms2 Tb2) is2=true) (hw:∀d∈tw,d.before a0 Z=true)
  {as:List Value} (hok:okv as=true) (hlen:(entL as).length≤(miOf ms2 0).2.2.1) {rm:Room} (hfr:(miOf ms2 0).2.2.2.1≤rm.frames) (hlw:(miOf ms2 0).2.2.2.2≤rm.locals) (hcl:nmax*(arrs.length+1)≤rm.cells) (hsl:nmax*(fs+slotSum arrs arrs.length)≤rm.slots) {h:Heap} {sa:Nat} {sc:Option (List Int32)}
  (hsc:∀xs,sc=some xs→sa<h.size∧xs.length<2147483648∧∃cell,Arr Z h sa cell .int∧cell.slots.size=xs.length∧∀i,i<xs.length→cell.slots[i]? = some (.int (xs.getD i 0)))
  {v:Option Value} (hrun:∀f1 f2,Fix1 arrs ms f1→Fix2 ms ms2 iv pe nmax sc f1 f2→∃W,f2 (0,0,entL as,[],(false,[]))=some (v,W)) (ws:List Jvm.Cond) :
  MetFree l (miOf ms2 0).1 (head1 (Cond.code (miOf ms2 0).1 (miOf ms2 0).2.1 (miOf ms2 0).2.2.1 (rtOf ms2 0)::ws) rm)
   (fun A U=>A=(as.map (cv (rho2 (arrs.length+1) (sa,h.size,0,0)))).toArray∧Z.Warmed39 U.vm∧U.heap=h) (fun _ _ _ _ _=>True)
   (fun _ U o U'=>∃v' L,o = .returned v'∧(v'=v∧Fr h.size L)∧FrameEnd U o U' L rm.cells rm.slots):=by
 have hw1:∀w∈needs1 (C,fs,gds,fds,arrs,fa,items,pe,oi,iv,Tb,ms),w.before a0 Z=true:=fun w h=>hw w (has_of hb1 w h)
 have hw2:∀w∈needs2 C own ms ms2 Tb2,w.before a0 Z=true:=fun w h=>hw w (has_of hb2 w h)
 obtain⟨B,hM⟩:=base_of hD hw1
 simp only[data2,Bool.and_eq_true,decide_eq_true_eq,List.all_eq_true] at hD2
 obtain⟨⟨⟨⟨⟨⟨d1,d2⟩,d3⟩,d4⟩,d5⟩,d6⟩,d7⟩:=hD2
 have u1:∀q∈Tb2.2.2.2.2.2.1,(Jvm.Cond.classLink own q.1 C).before a0 Z=true:=fun q hq=>hw2 _ (by
  simp only[needs2,List.mem_append]
  exact Or.inl (Or.inl (Or.inl (Or.inl (Or.inl (List.mem_map.mpr ⟨q,hq,rfl⟩))))))
 have u2:∀q∈Tb2.2.2.2.2.2.2,(Jvm.Cond.methodLink own q.1 (ms.getD 0 m0).1).before a0 Z=true:=fun q hq=>hw2 _ (by
  simp only[needs2,List.mem_append]
  exact Or.inl (Or.inl (Or.inl (Or.inl (Or.inr (List.mem_map.mpr ⟨q,hq,rfl⟩))))))
 have u3:∀q∈Tb2.2.1,(Jvm.Cond.methodLink own q.1 (ms.getD q.2 m0).1).before a0 Z=true:=fun q hq=>hw2 _ (by
  simp only[needs2,List.mem_append]
  exact Or.inl (Or.inl (Or.inl (Or.inr (List.mem_map.mpr ⟨q,hq,rfl⟩)))))
 have u4:∀q∈Tb2.2.2.1,∀w∈[Jvm.Cond.methodLink own q.1 (ms2.getD q.2 m0).1,.static (ms2.getD q.2 m0).1,.initialized own,.code (ms2.getD q.2 m0).1 (ms2.getD q.2 m0).2.1 (ms2.getD q.2 m0).2.2.1 (ms2.getD q.2 m0).2.2.2.2.2.1],w.before a0 Z=true:=fun q hq w hw'=>hw2 _ (by
  simp only[needs2,List.mem_append]
  exact Or.inl (Or.inl (Or.inr (List.mem_flatMap.mpr ⟨q,hq,hw'⟩))))
 have u5:∀q∈Tb2.2.2.2.1,(Jvm.Cond.constant own q.1 q.2).before a0 Z=true:=fun q hq=>hw2 _ (by
  simp only[needs2,List.mem_append]
  exact Or.inl (Or.inr (List.mem_map.mpr ⟨q,hq,rfl⟩)))
 have u6:∀q∈Tb2.2.2.2.2.1,(Jvm.Cond.constantLong own q.1 q.2).before a0 Z=true:=fun q hq=>hw2 _ (by
  simp only[needs2,List.mem_append]
  exact Or.inr (List.mem_map.mpr ⟨q,hq,rfl⟩))
 have v0:(Jvm.Cond.instanceMethod (ms.getD 0 m0).1).before a0 Z=true:=hw1 _ (by simp[needs1])
 have v1:(Jvm.Cond.code (ms.getD 0 m0).1 (ms.getD 0 m0).2.1 (ms.getD 0 m0).2.2.1 none).before a0 Z=true:=hw1 _ (by simp[needs1])
 have hdD:=hD
 simp only[data1,Bool.and_eq_true,decide_eq_true_eq] at hdD
 have h9:∀q∈Tb.2.1,(1≤q.2∧q.2<ms.length)∧(ms.getD q.2 m0).1.cls=C:=by
  have:=hdD.1.1.1.1.1.1.1.1.1.1.1.1.1.2
  simpa only [List.all_eq_true,Bool.and_eq_true,decide_eq_true_eq] using this
 have wl1:∀q∈Tb.2.1,(Jvm.Cond.methodLink C q.1 (ms.getD q.2 m0).1).before a0 Z=true:=fun q hq=>hw1 _ (by
  simp only[needs1,List.mem_append]
  exact Or.inl (Or.inl (Or.inl (Or.inr (List.mem_map.mpr ⟨q,hq,rfl⟩)))))
 have B':=B
 obtain⟨⟨K,-,hCs,-,wz⟩,⟨hpn,hC,-,-,-⟩,-⟩:=B'
 have W1:∀n,Walks (cdOf ms) (rtOf ms) (mop1 arrs gS upd) (cop1 (naOf ms) (fun k=>(miOf ms k).2.2.1) (wmOf ms)) (miOf ms) C Z l rho1 (J1 C fds arrs Z gS) n:=
  walks (cdOf ms) (rtOf ms) _ _ Tb (miOf ms) C Z l rho1 _ hCs (good_of hG1) (mop1_ok K upd_law)
   (cop1_ok K hpn wz hC (fun k idx hk=>hM C k idx Tb (fun idx' h'=>wl1 _ h') hk (h9 _ hk).2 (by have:=(h9 _ hk).1.1;simp only at this;omega)) (fun mm pc k pn kp hc=>room_of hR1 hc rfl))
 obtain⟨f1,hf1,hi1⟩:=exists_fix (plan (cdOf ms) (rtOf ms) (mop1 arrs gS upd) (cop1 (naOf ms) (fun k=>(miOf ms k).2.2.1) (wmOf ms)))
 have hcst2:Cst Tb2 Z a0 own:=⟨fun k v hq=>u5 _ hq,fun k v hq=>u6 _ hq⟩
 have hsta:StaOK Tb2 Z a0 (miOf ms2) (rtOf ms2) own (naOf ms2):=by
  intro idx k hk
  have hlt:=d6 _ hk
  simp only at hlt
  have e:ms2.getD k m0=ms2[k]:=by simp[List.getD,hlt]
  obtain⟨q1,q2⟩:=d4 ms2[k] (List.getElem_mem hlt)
  rw[←e] at q1 q2
  refine⟨q1,u4 _ hk _ (List.mem_cons_self ..),u4 _ hk _ (List.mem_cons_of_mem _ (List.mem_cons_self ..)),u4 _ hk _ (List.mem_cons_of_mem _ (List.mem_cons_of_mem _ (List.mem_cons_self ..))),u4 _ hk _ (List.mem_cons_of_mem _ (List.mem_cons_of_mem _ (List.mem_cons_of_mem _ (List.mem_cons_self ..)))),?_⟩
  unfold descB at q2
  split at q2
  ·rename_i ps r hp
   simp only[Bool.and_eq_true,decide_eq_true_eq] at q2
   refine⟨ps,?_,q2.2⟩
   rw[show rtOf ms2 k=r from q2.1.symm]
   exact hp
  ·cases q2
 obtain⟨z1,z2⟩:=iniS_spec iv
 have rV:∀mm pc k pn kp,cdOf ms2 mm pc=some (.invokevirtual k,pn,kp)→Room2 (miOf ms) (miOf ms2) (wmOf ms2) mm k:=fun mm pc k pn kp hc=>room_of (callees:=ms) (k:=k) hRv hc rfl
 have rC:∀mm pc k pn kp,cdOf ms2 mm pc=some (.invokespecial k,pn,kp)→Room2 (miOf ms) (miOf ms2) (wmOf ms2) mm 0:=fun mm pc k pn kp hc=>room_of (callees:=ms) (k:=0) hRc hc rfl
 have hvm:∀k idx,(idx,k)∈Tb2.2.1→MthOK C Tb2 Z a0 (miOf ms) (rtOf ms) own k (naOf ms):=fun k idx hk=>hM own k idx Tb2 (fun idx' h'=>u3 _ h') hk (d5 _ hk).2 (d5 _ hk).1
 have hnw:∀idx q,(idx,q)∈Tb2.2.2.2.2.2.1→(Cond.classLink own idx C).before a0 Z=true:=fun idx q hq=>u1 (idx,q) hq
 have hcw:CtW Z a0 Tb2 own (miOf ms 0).1 (miOf ms 0).2.1 (miOf ms 0).2.2.1:=⟨fun idx q hq=>u2 _ hq,v0,v1⟩
 have hmop:MopOK (cdOf ms2) (rtOf ms2) (mop2 f1 (iniS iv) pe nmax (naOf ms) (fun k=>(miOf ms k).2.2.1) (wmOf ms2) sc) Tb2 (miOf ms2) own Z l (rho2 (arrs.length+1)) (J2 C gds fds arrs Z gS fs nmax sc):=
  mop2_ok (σ:=MS) (C:=C) (gds:=gds) (fds:=fds) (arrs:=arrs) (Z:=Z) (G:=gS) (fs:=fs) (nmax:=nmax) (sc:=sc) (Tb1:=Tb) (Tb2:=Tb2) (a0:=a0) (mi1:=miOf ms) (mi2:=miOf ms2) (rt1:=rtOf ms) (rt2:=rtOf ms2) (l:=l) (own:=own) (na1:=naOf ms) (wm2:=wmOf ms2) (code1:=cdOf ms) (items:=items) (pe:=pe) (oi:=oi) (Z0:=iniS iv) (iv:=iv) (code2:=cdOf ms2) (f1:=f1) B W1 hi1 z1 z2 hnw hcw hvm rV rC
 have hcop:CopOK (cdOf ms2) (rtOf ms2) (mop2 f1 (iniS iv) pe nmax (naOf ms) (fun k=>(miOf ms k).2.2.1) (wmOf ms2) sc) (cop2 (naOf ms2) (fun k=>(miOf ms2 k).2.2.1) (wmOf ms2)) Tb2 (miOf ms2) own Z l (rho2 (arrs.length+1)) (J2 C gds fds arrs Z gS fs nmax sc):=
  cop2_ok (σ:=MS) (C:=C) (gds:=gds) (fds:=fds) (arrs:=arrs) (Z:=Z) (G:=gS) (fs:=fs) (nmax:=nmax) (sc:=sc) (Tb2:=Tb2) (a0:=a0) (mi2:=miOf ms2) (rt2:=rtOf ms2) (l:=l) (own:=own) (na2:=naOf ms2) (wm2:=wmOf ms2) (code2:=cdOf ms2) d3 ⟨d1,d2⟩ hsta (fun mm pc k pn kp hc=>room_of hRs hc rfl)
 have W2':∀n,Walks (cdOf ms2) (rtOf ms2) (mop2 f1 (iniS iv) pe nmax (naOf ms) (fun k=>(miOf ms k).2.2.1) (wmOf ms2) sc) (cop2 (naOf ms2) (fun k=>(miOf ms2 k).2.2.1) (wmOf ms2)) (miOf ms2) own Z l (rho2 (arrs.length+1)) (J2 C gds fds arrs Z gS fs nmax sc) n:=
  walks (cdOf ms2) (rtOf ms2) _ _ Tb2 (miOf ms2) own Z l (rho2 (arrs.length+1)) _ hcst2 (good_of hG2) hmop hcop
 obtain⟨f2,hf2,hi2⟩:=exists_fix (plan (cdOf ms2) (rtOf ms2) (mop2 f1 (iniS iv) pe nmax (naOf ms) (fun k=>(miOf ms k).2.2.1) (wmOf ms2) sc) (cop2 (naOf ms2) (fun k=>(miOf ms2 k).2.2.1) (wmOf ms2)))
 obtain⟨W,hW⟩:=hrun f1 f2 hf1 hf2
 obtain⟨n,hn⟩:=hi2 _ _ hW
 have e:ms2.getD 0 m0=ms2[0]:=by simp[List.getD,d7]
 have q1:=(d4 ms2[0] (List.getElem_mem d7)).1
 rw[←e] at q1
 have q1':(miOf ms2 0).1.cls=own:=q1
 exact top (W2' n) d3 q1' hok hlen hn hfr hlw hcl hsl hsc ws
def evB(o:Jvm.Binary)(x y:Int32):Int32:=match o with
 | .iand=>x&&&y
 | .ior=>x|||y
 | .ixor=>x^^^y
 | .ishl=>x<<<(y&&&31)
 | .ishr=>x>>>(y&&&31)
 | .iushr=>XT.ushr x y
 |_=>0
def evU(o:Jvm.Unary)(x:Int32):Int32:=match o with
 | .ineg => -x
 | .i2b=>x.toInt8.toInt32
 |_=>0
def ev(ρ:Nat→Int32):Jvm.Term→Int32
 | .int v=>v
 | .arg i=>ρ i
 | .add a b=>ev ρ a+ev ρ b
 | .sub a b=>ev ρ a-ev ρ b
 | .mul a b=>ev ρ a*ev ρ b
 | .div a b=>ev ρ a/ev ρ b
 | .rem a b=>ev ρ a%ev ρ b
 | .op2 o a b=>evB o (ev ρ a) (ev ρ b)
 | .op1 o a=>evU o (ev ρ a)
 |_=>0
def cst(t:Jvm.Term):Option Int32:=match t with
 | .int v=>some v
 |_=>none
abbrev SV:=Jvm.Term⊕Value
abbrev SL:=List SV
section Alu
variable {ρ:Nat→Int32} {st st' ls:SL}
variable {q:SL×SL} {k:Nat}
def pr(ls:SL)(o:Option SL):Option (SL×SL):=o.map fun st'=>(ls,st')
end Alu
abbrev Fct:=Bool×Jvm.Term×Jvm.Term×Bool
abbrev Pth:=List Fct
abbrev Rng:=Int×Int
def full:Rng:=(-2147483648,2147483647)
def one(x:Int32):Rng:=(x.toInt,x.toInt)
section Paths
variable {ρ:Nat→Int32}
def g0(t:Jvm.Term):Rng:=match cst t with
 |some c=>one c
 |none=>full
theorem and_le{x c:Int32}(h:0≤c.toInt):0≤(x&&&c).toInt∧(x&&&c).toInt≤c.toInt:=by
 have e:∀y:Int32,y.toInt=if 2*y.toBitVec.toNat<2 ^ 32 then (y.toBitVec.toNat:Int) else (y.toBitVec.toNat:Int)-(2 ^ 32:Nat):=fun y=>BitVec.toInt_eq_toNat_cond y.toBitVec
 have hn:(x&&&c).toBitVec.toNat≤c.toBitVec.toNat:=by
  rw[Int32.toBitVec_and,BitVec.toNat_and]
  exact Nat.and_le_right
 have hl:=c.toBitVec.isLt
 have hc:=e c
 have ha:=e (x&&&c)
 split at hc<;>split at ha<;>omega
end Paths
abbrev CF:=Nat×Nat×SL×SL
abbrev SS:=List (List (List Jvm.Term))
def setC{α β:Type}(d:α):List α→Nat→α→(List α→β)→β
 |[],0,v,k=>k [v]
 |[],n+1,v,k=>setC d [] n v fun r=>k (d::r)
 |_::r,0,v,k=>k (v::r)
 |x::r,n+1,v,k=>setC d r n v fun r'=>k (x::r')
def fN{β:Type}(n:Nat)(k:Nat→β):β:=match n with
 |0=>k 0
 |n+1=>k (n+1)
def fI{β:Type}(x:Int32)(k:Int32→β):β:=fN x.toBitVec.toNat fun n=>k (Int32.ofBitVec (BitVec.ofNat 32 n))
def fT{β:Type}(t:Jvm.Term)(k:Jvm.Term→β):β:=match cst t with
 |some x=>fI x fun y=>k (.int y)
 |none=>k t
def wr{β:Type}(S:SS)(c i:Nat)(v:Jvm.Term)(k:SS→β):β:=fT v fun v=>fN (i/16) fun a=>fN (i%16) fun b=>setC (.int 0) ((S.getD c []).getD a []) b v fun l=>setC [] (S.getD c []) a l fun r=>setC [] S c r k
def tkS:Nat→SL→SL→Option (SL×SL)
 |0,acc,st=>some (acc,st)
 |n+1,acc,v::st=>tkS n (v::acc) st
 |_+1,_,[]=>none
def okns:SL→Bool
 |[]=>true
 | .inl _::r=>okns r
 | .inr (.long _)::r=>okns r
 |_::_=>false
def okvs:SL→Bool
 |[]=>true
 | .inl _::r=>okvs r
 | .inr (.long _)::r=>okvs r
 | .inr (.ref _)::r=>okvs r
 |_::_=>false
def catS:SV→Nat
 | .inl _=>1
 | .inr v=>v.category
def catsS:SL→Nat
 |[]=>0
 |v::r=>catS v+catsS r
def entLs:SL→SL
 |[]=>[]
 | .inr (.long v)::r => .inr (.long v) :: .inr .null::entLs r
 |v::r=>v::entLs r
abbrev Fr:=Nat×Nat×SL×SL
abbrev Ctx:=List Fr×Option Nat×List SS×Bool×List Fr
abbrev Rec:=Pth→Bool→CF→SS→Ctx→Bool
section Whole
variable (cd1 cd2:Codes) (rt1 rt2:Nat→Option FieldType) (arrs:List (FieldType×Nat)) (na1 ml1 wm1 na2 ml2 wm2:Nat→Nat) (Z0:SS) (pe nmax:Nat) (fin:Pth→Option SV→SS→Bool) (hv:Nat→Nat→Option Nat)
def s2new(r:Rec)(P:Pth)(m pn:Nat)(ls st:SL)(ob:List SS)(raw:Bool)(K2:List Fr):Bool:=match raw with
 |true=>false
 |false=>if (Nat.beq m 0&&Nat.blt ob.length nmax)=true then r P false (m,pn,ls,.inr (.ref (ob.length+1))::st) [] ([],none,ob,true,K2) else false
def s2ct(r:Rec)(P:Pth)(m pn:Nat)(ls st:SL)(ob:List SS)(raw:Bool)(K2:List Fr):Bool:=match raw with
 |false=>false
 |true=>(match tkS (na1 0) [] st with
  |some (as,.inr (.ref x)::rs)=>if (Nat.beq m 0&&Nat.beq x (ob.length+1)&&okns as&&Nat.ble (catsS rs) (wm2 m)&&Nat.ble (entLs (.inr (.ref 0)::as)).length (ml1 0))=true then r P true (0,pe,entLs (.inr (.ref 0)::as),[]) Z0 ([],none,ob,false,(m,pn,ls,rs)::K2) else false
  |_=>false)
def s2vt(r:Rec)(P:Pth)(k m pn:Nat)(ls st:SL)(ob:List SS)(raw:Bool)(K2:List Fr):Bool:=match raw with
 |true=>false
 |false=>(match tkS (na1 k) [] st with
  |some (as,.inr (.ref (j+1))::rs)=>(match ob[j]? with
   |some S=>if (okns as&&Nat.ble (catsS rs) (wm2 m)&&Nat.ble (entLs (.inr (.ref 0)::as)).length (ml1 k))=true then r P true (k,0,entLs (.inr (.ref 0)::as),[]) S ([],some j,ob,false,(m,pn,ls,rs)::K2) else false
   |none=>false)
  |_=>false)
def s2st(r:Rec)(P:Pth)(k m pn:Nat)(ls st:SL)(ob:List SS)(raw:Bool)(K2:List Fr):Bool:=match tkS (na2 k) [] st with
 |some (as,rs)=>if (!(Nat.beq k 0)&&okvs as&&Nat.ble (catsS rs) (wm2 m)&&Nat.ble (entLs as).length (ml2 k))=true then r P false (k,0,entLs as,[]) [] ([],none,ob,raw,(m,pn,ls,rs)::K2) else false
 |none=>false
abbrev Lhd:=Rec→Pth→Nat→Nat→SL→SL→List SS→Bool→List Fr→Bool
def s2(i:Instr):Option Lhd:=match i with
 | .new _=>some fun r P m pn ls st ob raw K2=>s2new nmax r P m pn ls st ob raw K2
 | .invokespecial _=>some fun r P m pn ls st ob raw K2=>s2ct na1 ml1 wm2 Z0 pe r P m pn ls st ob raw K2
 | .invokevirtual k=>some fun r P m pn ls st ob raw K2=>s2vt na1 ml1 wm2 r P k m pn ls st ob raw K2
 | .invokestatic k=>some fun r P m pn ls st ob raw K2=>s2st na2 ml2 wm2 r P k m pn ls st ob raw K2
 |_=>none
end Whole
theorem bm32{x:Int}(h1 : -2147483648≤x)(h2:x≤2147483647):x.bmod (2 ^ 32)=x:=by
 show Int.bmod x 4294967296=x
 rw[Int.bmod_def]
 split<;>omega
abbrev K4:=Nat×Nat×List Value×List Value
abbrev HF{τ:Type}(code:Codes)(rt:Nat→Option FieldType)(mop:Mop τ)(cop:Cop)(f:Cfg τ→Option (Res τ)):Prop:=∀c,f c=run (plan code rt mop cop) f c
section S0
variable {τ:Type} {code:Codes} {rt:Nat→Option FieldType} {mop:Mop τ} {cop:Cop} {f:Cfg τ→Option (Res τ)} {m pc pn k t a:Nat} {kp:Option Nat} {ls st:List Value} {S:τ} {R R':Option (Res τ)} {x y v v':Int32} {X Y:Int64} {i:Instr} {c:Int}
theorem Jr(hf:HF code rt mop cop f)(h:code m pc=some (i,pn,some k))(r:f (m,pc,ls.take k,st,S)=R):f (m,pc,ls,st,S)=R:=(F.head hf h).trans r
theorem Jt(hf:HF code rt mop cop f)(h:code m pc=some (.iadd,pn,kp))(r:f (m,pn,ls,.int (x+y)::st,S)=R)(hk:tk kp ls=ls:=by rfl):f (m,pc,ls,.int y :: .int x::st,S)=R:=(F.iadd hf h hk).trans r
theorem JG(hf:HF code rt mop cop f)(h:code m pc=some (.isub,pn,kp))(r:f (m,pn,ls,.int (x-y)::st,S)=R)(hk:tk kp ls=ls:=by rfl):f (m,pc,ls,.int y :: .int x::st,S)=R:=(F.isub hf h hk).trans r
theorem Jz(hf:HF code rt mop cop f)(h:code m pc=some (.imul,pn,kp))(r:f (m,pn,ls,.int (x*y)::st,S)=R)(hk:tk kp ls=ls:=by rfl):f (m,pc,ls,.int y :: .int x::st,S)=R:=(F.imul hf h hk).trans r
theorem Ju(hf:HF code rt mop cop f)(h:code m pc=some (.iand,pn,kp))(r:f (m,pn,ls,.int (x&&&y)::st,S)=R)(hk:tk kp ls=ls:=by rfl):f (m,pc,ls,.int y :: .int x::st,S)=R:=(F.iand hf h hk).trans r
theorem JY(hf:HF code rt mop cop f)(h:code m pc=some (.ior,pn,kp))(r:f (m,pn,ls,.int (x|||y)::st,S)=R)(hk:tk kp ls=ls:=by rfl):f (m,pc,ls,.int y :: .int x::st,S)=R:=(F.ior hf h hk).trans r
theorem JI(hf:HF code rt mop cop f)(h:code m pc=some (.ishl,pn,kp))(r:f (m,pn,ls,.int (x<<<(y&&&31))::st,S)=R)(hk:tk kp ls=ls:=by rfl):f (m,pc,ls,.int y :: .int x::st,S)=R:=(F.ishl hf h hk).trans r
theorem JV(hf:HF code rt mop cop f)(h:code m pc=some (.ishr,pn,kp))(r:f (m,pn,ls,.int (x>>>(y&&&31))::st,S)=R)(hk:tk kp ls=ls:=by rfl):f (m,pc,ls,.int y :: .int x::st,S)=R:=(F.ishr hf h hk).trans r
theorem Jac(hf:HF code rt mop cop f)(h:code m pc=some (.idiv,pn,kp))(hy:y≠0)(r:f (m,pn,ls,.int (x/y)::st,S)=R)(hk:tk kp ls=ls:=by rfl):f (m,pc,ls,.int y :: .int x::st,S)=R:=(F.idiv hf h hk hy).trans r
theorem JW(hf:HF code rt mop cop f)(h:code m pc=some (.irem,pn,kp))(hy:y≠0)(r:f (m,pn,ls,.int (x%y)::st,S)=R)(hk:tk kp ls=ls:=by rfl):f (m,pc,ls,.int y :: .int x::st,S)=R:=(F.irem hf h hk hy).trans r
theorem JN(hf:HF code rt mop cop f)(h:code m pc=some (.dup,pn,kp))(r:f (m,pn,ls,.ref a :: .ref a::st,S)=R)(hk:tk kp ls=ls:=by rfl):f (m,pc,ls,.ref a::st,S)=R:=(F.dupA hf h hk).trans r
theorem JM(hf:HF code rt mop cop f)(h:code m pc=some (.pop,pn,kp))(r:f (m,pn,ls,st,S)=R)(hk:tk kp ls=ls:=by rfl):f (m,pc,ls,.int x::st,S)=R:=(F.popI hf h hk).trans r
theorem Jc(hf:HF code rt mop cop f)(h:code m pc=some (.iconst c,pn,kp))(hv:Int32.ofInt c=v)(r:f (m,pn,ls,.int v::st,S)=R)(hk:tk kp ls=ls:=by rfl):f (m,pc,ls,st,S)=R:=(F.iconst hf h hk hv).trans r
theorem Jb(hf:HF code rt mop cop f)(h:code m pc=some (.iload k,pn,kp))(hl:ls[k]? = some (.int v))(r:f (m,pn,ls,.int v::st,S)=R)(hk:tk kp ls=ls:=by rfl):f (m,pc,ls,st,S)=R:=(F.iload hf h hk hl).trans r
theorem Jd(hf:HF code rt mop cop f)(h:code m pc=some (.aload k,pn,kp))(hl:ls[k]? = some (.ref a))(r:f (m,pn,ls,.ref a::st,S)=R)(hk:tk kp ls=ls:=by rfl):f (m,pc,ls,st,S)=R:=(F.aload hf h hk hl).trans r
theorem Je(hf:HF code rt mop cop f)(h:code m pc=some (.istore k,pn,kp))(l:List Value)(r:f (m,pn,l,st,S)=R)(hk:tk kp ls=ls:=by rfl)(hl:st1 ls k (.int v)=l:=by rfl):f (m,pc,ls,.int v::st,S)=R:=(F.istore hf h hk hl).trans r
theorem J9(hf:HF code rt mop cop f)(h:code m pc=some (.astore k,pn,kp))(l:List Value)(r:f (m,pn,l,st,S)=R)(hk:tk kp ls=ls:=by rfl)(hl:st1 ls k (.ref a)=l:=by rfl):f (m,pc,ls,.ref a::st,S)=R:=(F.astore hf h hk hl).trans r
theorem Jn(hf:HF code rt mop cop f)(h:code m pc=some (.iinc k c,pn,kp))(hv:Int32.ofInt c=v')(hl0:ls[k]? = some (.int v))(l:List Value)(r:f (m,pn,l,st,S)=R)(hk:tk kp ls=ls:=by rfl)(hl:st1 ls k (.int (v+v'))=l:=by rfl):f (m,pc,ls,st,S)=R:=(F.iinc hf h hk hv hl0 hl).trans r
theorem Jh(hf:HF code rt mop cop f)(h:code m pc=some (.goto (Int.ofNat t),pn,kp))(r:f (m,t,ls,st,S)=R)(hk:tk kp ls=ls:=by rfl):f (m,pc,ls,st,S)=R:=(F.goto hf h hk).trans r
theorem Jy(hf:HF code rt mop cop f)(h:code m pc=some (.ifCond .eq (Int.ofNat t),pn,kp))(r:f (m,t,ls,st,S)=R)(r':f (m,pn,ls,st,S)=R')(hk:tk kp ls=ls:=by rfl):f (m,pc,ls,.int x::st,S)=if x=0 then R else R':=(F.ifeq hf h hk).trans (ite2 r r')
theorem JA(hf:HF code rt mop cop f)(h:code m pc=some (.if_icmp .eq (Int.ofNat t),pn,kp))(r:f (m,t,ls,st,S)=R)(r':f (m,pn,ls,st,S)=R')(hk:tk kp ls=ls:=by rfl):f (m,pc,ls,.int y :: .int x::st,S)=if x=y then R else R':=(F.iceq hf h hk).trans (ite2 r r')
theorem Js(hf:HF code rt mop cop f)(h:code m pc=some (.ifCond .ne (Int.ofNat t),pn,kp))(r:f (m,pn,ls,st,S)=R)(r':f (m,t,ls,st,S)=R')(hk:tk kp ls=ls:=by rfl):f (m,pc,ls,.int x::st,S)=if x=0 then R else R':=(F.ifne hf h hk).trans (ite2 r r')
theorem Jp(hf:HF code rt mop cop f)(h:code m pc=some (.if_icmp .ne (Int.ofNat t),pn,kp))(r:f (m,pn,ls,st,S)=R)(r':f (m,t,ls,st,S)=R')(hk:tk kp ls=ls:=by rfl):f (m,pc,ls,.int y :: .int x::st,S)=if x=y then R else R':=(F.icne hf h hk).trans (ite2 r r')
theorem JB(hf:HF code rt mop cop f)(h:code m pc=some (.ifCond .lt (Int.ofNat t),pn,kp))(r:f (m,t,ls,st,S)=R)(r':f (m,pn,ls,st,S)=R')(hk:tk kp ls=ls:=by rfl):f (m,pc,ls,.int x::st,S)=if x<0 then R else R':=(F.iflt hf h hk).trans (ite2 r r')
theorem JJ(hf:HF code rt mop cop f)(h:code m pc=some (.if_icmp .lt (Int.ofNat t),pn,kp))(r:f (m,t,ls,st,S)=R)(r':f (m,pn,ls,st,S)=R')(hk:tk kp ls=ls:=by rfl):f (m,pc,ls,.int y :: .int x::st,S)=if x<y then R else R':=(F.iclt hf h hk).trans (ite2 r r')
theorem JP(hf:HF code rt mop cop f)(h:code m pc=some (.ifCond .ge (Int.ofNat t),pn,kp))(r:f (m,pn,ls,st,S)=R)(r':f (m,t,ls,st,S)=R')(hk:tk kp ls=ls:=by rfl):f (m,pc,ls,.int x::st,S)=if x<0 then R else R':=(F.ifge hf h hk).trans (ite2 r r')
theorem Jm(hf:HF code rt mop cop f)(h:code m pc=some (.if_icmp .ge (Int.ofNat t),pn,kp))(r:f (m,pn,ls,st,S)=R)(r':f (m,t,ls,st,S)=R')(hk:tk kp ls=ls:=by rfl):f (m,pc,ls,.int y :: .int x::st,S)=if x<y then R else R':=(F.icge hf h hk).trans (ite2 r r')
theorem Jas(hf:HF code rt mop cop f)(h:code m pc=some (.ifCond .gt (Int.ofNat t),pn,kp))(r:f (m,t,ls,st,S)=R)(r':f (m,pn,ls,st,S)=R')(hk:tk kp ls=ls:=by rfl):f (m,pc,ls,.int x::st,S)=if 0<x then R else R':=(F.ifgt hf h hk).trans (ite2 r r')
theorem JT(hf:HF code rt mop cop f)(h:code m pc=some (.if_icmp .gt (Int.ofNat t),pn,kp))(r:f (m,t,ls,st,S)=R)(r':f (m,pn,ls,st,S)=R')(hk:tk kp ls=ls:=by rfl):f (m,pc,ls,.int y :: .int x::st,S)=if y<x then R else R':=(F.icgt hf h hk).trans (ite2 r r')
theorem Jab(hf:HF code rt mop cop f)(h:code m pc=some (.ifCond .le (Int.ofNat t),pn,kp))(r:f (m,pn,ls,st,S)=R)(r':f (m,t,ls,st,S)=R')(hk:tk kp ls=ls:=by rfl):f (m,pc,ls,.int x::st,S)=if 0<x then R else R':=(F.ifle hf h hk).trans (ite2 r r')
theorem JO(hf:HF code rt mop cop f)(h:code m pc=some (.if_icmp .le (Int.ofNat t),pn,kp))(r:f (m,pn,ls,st,S)=R)(r':f (m,t,ls,st,S)=R')(hk:tk kp ls=ls:=by rfl):f (m,pc,ls,.int y :: .int x::st,S)=if y<x then R else R':=(F.icle hf h hk).trans (ite2 r r')
theorem Jk(hf:HF code rt mop cop f)(h:code m pc=some (.return_,pn,kp))(hr:rt m=none:=by rfl):f (m,pc,ls,[],S)=some (none,S):=F.retn hf h hr
theorem Ji(hf:HF code rt mop cop f)(h:code m pc=some (.ireturn,pn,kp))(hr:rt m=some .int:=by rfl):f (m,pc,ls,[.int v],S)=some (some (.int v),S):=F.reti hf h hr
theorem J5(hf:HF code rt mop cop f)(h:code m pc=some (.ireturn,pn,kp))(hr:rt m=some .boolean:=by rfl):f (m,pc,ls,[.int v],S)=some (some (.int (v&&&1)),S):=F.retb hf h hr
theorem Jl(hf:HF code rt mop cop f)(h:code m pc=some (.ireturn,pn,kp))(hr:rt m=some .boolean:=by rfl):f (m,pc,ls,[.int 0],S)=some (some (.int 0),S):=F.retb hf h hr
theorem JC(hf:HF code rt mop cop f)(h:code m pc=some (.ireturn,pn,kp))(hr:rt m=some .boolean:=by rfl):f (m,pc,ls,[.int 1],S)=some (some (.int 1),S):=F.retb hf h hr
end S0
section S1
variable {code:Codes} {rt:Nat→Option FieldType} {arrs:List (FieldType×Nat)} {na ml wm:Nat→Nat} {f:Cfg MS→Option (Res MS)} {m pc pn j n k:Nat} {kp:Option Nat} {ls st:List Value} {S:MS} {R:Option (Res MS)} {v i:Int32} {ty:FieldType}
abbrev HF1(code:Codes)(rt:Nat→Option FieldType)(arrs:List (FieldType×Nat))(na ml wm:Nat→Nat)(f:Cfg MS→Option (Res MS)):Prop:=∀c,f c=run (plan code rt (mop1 arrs gS upd) (cop1 na ml wm)) f c
theorem Jj(hf:HF1 code rt arrs na ml wm f)(h:code m pc=some (.getfield k,pn,kp))(w:Int32)(r:f (m,pn,ls,.int w::st,S)=R)(hk:tk kp ls=ls:=by rfl)(h3:k%3≠2:=by decide)(hw:S 0 (k/3)=w:=by rfl):f (m,pc,ls,.ref 0::st,S)=R:=(F.getI hf h hk h3 rfl hw).trans r
theorem Jg(hf:HF1 code rt arrs na ml wm f)(h:code m pc=some (.getfield k,pn,kp))(r:f (m,pn,ls,.ref (k/3+1)::st,S)=R)(hk:tk kp ls=ls:=by rfl)(h3:k%3=2:=by rfl):f (m,pc,ls,.ref 0::st,S)=R:=(F.getA hf h hk h3 rfl).trans r
theorem Jw(hf:HF1 code rt arrs na ml wm f)(h:code m pc=some (.putfield k,pn,kp))(r:f (m,pn,ls,st,upd S 0 (k/3) v)=R)(hk:tk kp ls=ls:=by rfl)(h3:k%3=0:=by rfl):f (m,pc,ls,.int v :: .ref 0::st,S)=R:=(F.putI hf h hk h3 rfl).trans r
theorem Jaw(hf:HF1 code rt arrs na ml wm f)(h:code m pc=some (.putfield k,pn,kp))(r:f (m,pn,ls,st,upd S 0 (k/3) 0)=R)(hk:tk kp ls=ls:=by rfl)(h3:k%3=1:=by rfl):f (m,pc,ls,.int 0 :: .ref 0::st,S)=R:=(F.putZ0 hf h hk h3 rfl).trans r
theorem Jax(hf:HF1 code rt arrs na ml wm f)(h:code m pc=some (.putfield k,pn,kp))(r:f (m,pn,ls,st,upd S 0 (k/3) 1)=R)(hk:tk kp ls=ls:=by rfl)(h3:k%3=1:=by rfl):f (m,pc,ls,.int 1 :: .ref 0::st,S)=R:=(F.putZ1 hf h hk h3 rfl).trans r
theorem Jo(hf:HF1 code rt arrs na ml wm f)(h:code m pc=some (.iaload,pn,kp))(ha:arrs[j]? = some (ty,n))(w:Int32)(r:inb i n=true→f (m,pn,ls,.int w::st,S)=R)(hk:tk kp ls=ls:=by rfl)(ht:isI ty=true:=by rfl)(hw:S (j+1) i.toNatClampNeg=w:=by rfl):f (m,pc,ls,.int i :: .ref (j+1)::st,S)=if inb i n=true then R else none:=(F.iaload hf h hk ha ht hw).trans (iteH r)
theorem JF(hf:HF1 code rt arrs na ml wm f)(h:code m pc=some (.iaload,pn,kp))(ha:arrs[j]? = some (ty,n))(hi:inb i n=true)(w:Int32)(r:f (m,pn,ls,.int w::st,S)=R)(hk:tk kp ls=ls:=by rfl)(ht:isI ty=true:=by rfl)(hw:S (j+1) i.toNatClampNeg=w:=by rfl):f (m,pc,ls,.int i :: .ref (j+1)::st,S)=R:=(F.ialoadT hf h hk ha ht hi rfl hw).trans r
theorem Jay(hf:HF1 code rt arrs na ml wm f)(h:code m pc=some (.iaload,pn,kp))(ha:arrs[j]? = some (ty,n))(z:Nat)(w:Int32)(r:f (m,pn,ls,.int w::st,S)=R)(hk:tk kp ls=ls:=by rfl)(ht:isI ty=true:=by rfl)(hi:inb i n=true:=by first | decide | rfl)(hz:i.toNatClampNeg=z:=by first | decide | rfl)(hw:S (j+1) z=w:=by rfl):f (m,pc,ls,.int i :: .ref (j+1)::st,S)=R:=(F.ialoadT hf h hk ha ht hi hz hw).trans r
theorem J0(hf:HF1 code rt arrs na ml wm f)(h:code m pc=some (.baload,pn,kp))(ha:arrs[j]? = some (ty,n))(w:Int32)(r:inb i n=true→f (m,pn,ls,.int w::st,S)=R)(hk:tk kp ls=ls:=by rfl)(ht:isB ty=true:=by rfl)(hw:S (j+1) i.toNatClampNeg=w:=by rfl):f (m,pc,ls,.int i :: .ref (j+1)::st,S)=if inb i n=true then R else none:=(F.baload hf h hk ha ht hw).trans (iteH r)
theorem Jv(hf:HF1 code rt arrs na ml wm f)(h:code m pc=some (.iastore,pn,kp))(ha:arrs[j]? = some (ty,n))(w:Int32)(r:inb i n=true→f (m,pn,ls,st,upd S (j+1) i.toNatClampNeg w)=R)(hk:tk kp ls=ls:=by rfl)(ht:isI ty=true:=by rfl)(hv:nar ty v=w:=by first | rfl | decide):f (m,pc,ls,.int v :: .int i :: .ref (j+1)::st,S)=if inb i n=true then R else none:=(F.iastore hf h hk ha ht hv).trans (iteH r)
theorem Jx(hf:HF1 code rt arrs na ml wm f)(h:code m pc=some (.iastore,pn,kp))(ha:arrs[j]? = some (ty,n))(w:Int32)(hi:inb i n=true)(r:f (m,pn,ls,st,upd S (j+1) i.toNatClampNeg w)=R)(hk:tk kp ls=ls:=by rfl)(ht:isI ty=true:=by rfl)(hv:nar ty v=w:=by first | rfl | decide):f (m,pc,ls,.int v :: .int i :: .ref (j+1)::st,S)=R:=(F.iastoreT hf h hk ha ht hv hi rfl).trans r
theorem JaB(hf:HF1 code rt arrs na ml wm f)(h:code m pc=some (.iastore,pn,kp))(ha:arrs[j]? = some (ty,n))(w:Int32)(z:Nat)(r:f (m,pn,ls,st,upd S (j+1) z w)=R)(hk:tk kp ls=ls:=by rfl)(ht:isI ty=true:=by rfl)(hv:nar ty v=w:=by first | rfl | decide)(hi:inb i n=true:=by first | decide | rfl)(hz:i.toNatClampNeg=z:=by first | decide | rfl):f (m,pc,ls,.int v :: .int i :: .ref (j+1)::st,S)=R:=(F.iastoreT hf h hk ha ht hv hi hz).trans r
theorem Jaa(hf:HF1 code rt arrs na ml wm f)(h:code m pc=some (.bastore,pn,kp))(ha:arrs[j]? = some (ty,n))(w:Int32)(r:inb i n=true→f (m,pn,ls,st,upd S (j+1) i.toNatClampNeg w)=R)(hk:tk kp ls=ls:=by rfl)(ht:isB ty=true:=by rfl)(hv:nar ty v=w:=by first | rfl | decide):f (m,pc,ls,.int v :: .int i :: .ref (j+1)::st,S)=if inb i n=true then R else none:=(F.bastore hf h hk ha ht hv).trans (iteH r)
theorem J3(hf:HF1 code rt arrs na ml wm f)(h:code m pc=some (.bastore,pn,kp))(ha:arrs[j]? = some (ty,n))(w:Int32)(hi:inb i n=true)(r:f (m,pn,ls,st,upd S (j+1) i.toNatClampNeg w)=R)(hk:tk kp ls=ls:=by rfl)(ht:isB ty=true:=by rfl)(hv:nar ty v=w:=by first | rfl | decide):f (m,pc,ls,.int v :: .int i :: .ref (j+1)::st,S)=R:=(F.bastoreT hf h hk ha ht hv hi rfl).trans r
theorem JaC(hf:HF1 code rt arrs na ml wm f)(h:code m pc=some (.bastore,pn,kp))(ha:arrs[j]? = some (ty,n))(w:Int32)(z:Nat)(r:f (m,pn,ls,st,upd S (j+1) z w)=R)(hk:tk kp ls=ls:=by rfl)(ht:isB ty=true:=by rfl)(hv:nar ty v=w:=by first | rfl | decide)(hi:inb i n=true:=by first | decide | rfl)(hz:i.toNatClampNeg=z:=by first | decide | rfl):f (m,pc,ls,.int v :: .int i :: .ref (j+1)::st,S)=R:=(F.bastoreT hf h hk ha ht hv hi hz).trans r
theorem Jf(hf:HF1 code rt arrs na ml wm f){as r as':List Value}(h:code m pc=some (.invokevirtual k,pn,kp))(ht:takeA (na k) [] st=some (as,.ref 0::r))(hk:tk kp ls=ls:=by rfl)(hc:okn as=true∧cats r≤wm m∧(entL (.ref 0::as)).length≤ml k:=by exact⟨rfl,Nat.le_of_ble_eq_true rfl,Nat.le_of_ble_eq_true rfl⟩)(he:entL (.ref 0::as)=as':=by rfl):f (m,pc,ls,st,S)=(f (k,0,as',[],S)).bind fun q=>f (m,pn,ls,q.1.toList++r,q.2):=F.call hf h hk ht hc he
end S1
section S2
variable {σ:Type} {code:Codes} {rt:Nat→Option FieldType} {f1:Cfg σ→Option (Res σ)} {Z0:σ} {pe nmax k q o:Nat} {na1 ml1 wm na ml:Nat→Nat} {xs:List Int32} {sc:Option (List Int32)} {f:Cfg (W2 σ)→Option (Res (W2 σ))} {m pc pn:Nat} {kp:Option Nat} {ls st as as' rs:List Value} {ob:List σ} {b:Bool} {S:σ} {w:W2 σ} {i:Int32} {R:Option (Res (W2 σ))}
abbrev HF2(code:Codes)(rt:Nat→Option FieldType)(f1:Cfg σ→Option (Res σ))(Z0:σ)(pe nmax:Nat)(na1 ml1 wm na ml:Nat→Nat)(sc:Option (List Int32))(f:Cfg (W2 σ)→Option (Res (W2 σ))):Prop:=∀c,f c=run (plan code rt (mop2 f1 Z0 pe nmax na1 ml1 wm sc) (cop2 na ml wm)) f c
theorem JX(hf:HF2 code rt f1 Z0 pe nmax na1 ml1 wm na ml sc f)(h:code 0 pc=some (.new q,pn,kp))(r:f (0,pn,ls,.ref (ob.length+1)::st,(true,ob))=R)(hk:tk kp ls=ls:=by rfl)(hl:ob.length<nmax:=by exact Nat.le_of_ble_eq_true rfl):f (0,pc,ls,st,(false,ob))=R:=(F.new hf h hk hl rfl).trans r
theorem JZ(hf:HF2 code rt f1 Z0 pe nmax na1 ml1 wm na ml sc f){r:Nat}(h:code 0 pc=some (.invokespecial q,pn,kp))(ht:takeA (na1 0) [] st=some (as,.ref r::rs))(hk:tk kp ls=ls:=by rfl)(hr:r=ob.length+1:=by rfl)(hc:okn as=true∧cats rs≤wm 0∧(entL (.ref 0::as)).length≤ml1 0:=by exact⟨rfl,Nat.le_of_ble_eq_true rfl,Nat.le_of_ble_eq_true rfl⟩)(he:entL (.ref 0::as)=as':=by rfl):f (0,pc,ls,st,(true,ob))=(f1 (0,pe,as',[],Z0)).bind fun q=>f (0,pn,ls,rs,(false,ob++[q.2])):=F.ctor hf h hk ht hr hc he
theorem Jq(hf:HF2 code rt f1 Z0 pe nmax na1 ml1 wm na ml sc f)(o:Nat)(h:code m pc=some (.invokevirtual k,pn,kp))(ht:takeA (na1 k) [] st=some (as,.ref (o+1)::rs))(hS:ob[o]? = some S)(hk:tk kp ls=ls:=by rfl)(hc:okn as=true∧cats rs≤wm m∧(entL (.ref 0::as)).length≤ml1 k:=by exact⟨rfl,Nat.le_of_ble_eq_true rfl,Nat.le_of_ble_eq_true rfl⟩)(he:entL (.ref 0::as)=as':=by rfl):f (m,pc,ls,st,(false,ob))=(f1 (k,0,as',[],S)).bind fun q=>f (m,pn,ls,q.1.toList++rs,(false,ob.set o q.2)):=F.virt hf h hk ht hS hc he
theorem JR(hf:HF2 code rt f1 Z0 pe nmax na1 ml1 wm na ml (some xs) f)(h:code m pc=some (.iaload,pn,kp))(r:inb i xs.length=true→f (m,pn,ls,.int (xs.getD i.toNatClampNeg 0)::st,w)=R)(hk:tk kp ls=ls:=by rfl):f (m,pc,ls,.int i :: .ref 0::st,w)=if inb i xs.length=true then R else none:=(F.sload hf rfl h hk).trans (iteH r)
theorem J8(hf:HF2 code rt f1 Z0 pe nmax na1 ml1 wm na ml (some xs) f)(h:code m pc=some (.arraylength,pn,kp))(r:f (m,pn,ls,.int (Int32.ofNat xs.length)::st,w)=R)(hk:tk kp ls=ls:=by rfl):f (m,pc,ls,.ref 0::st,w)=R:=(F.slen hf rfl h hk).trans r
theorem JE(hf:HF2 code rt f1 Z0 pe nmax na1 ml1 wm na ml sc f)(h:code m pc=some (.invokestatic k,pn,kp))(ht:takeA (na k) [] st=some (as,rs))(hk:tk kp ls=ls:=by rfl)(hc:k≠0∧okv as=true∧cats rs≤wm m∧(entL as).length≤ml k:=by exact⟨by decide,rfl,Nat.le_of_ble_eq_true rfl,Nat.le_of_ble_eq_true rfl⟩)(he:entL as=as':=by rfl):f (m,pc,ls,st,w)=(f (k,0,as',[],w)).bind fun q=>f (m,pn,ls,q.1.toList++rs,q.2):=F.stat hf h hk ht hc he
end S2
end Jvm.OM
namespace Jvm.Pilot.@@N@@
open Jvm Jvm.ClassFile Sem Op Lib Jvm.Free Jvm.Stand Jvm.LawKit Jvm.RoadKit Bundle Jvm.Pilot.@@N@@.Jvm.D Jvm.OM
set_option maxRecDepth 65536
set_option maxHeartbeats 4000000
def tb1:Jvm.OM.Tabs:=([(103,"tokKind","[I",2),(107,"tokArg","[I",5),(110,"stKind","[I",8),(113,"stVar","[I",11),(116,"stParent","[I",14),(119,"stPrev","[I",17),(122,"stNext","[I",20),(125,"stFirst","[I",23),(128,"stStart","[I",26),(131,"stTerm","[I",29),(134,"stSucc","[I",32),(137,"stMask","[I",35),(140,"stResKind","[I",38),(143,"stResVal","[I",41),(146,"stDef","[I",44),(149,"brk","[Z",47),(153,"locKind","[I",50),(156,"locVal","[I",53),(159,"cOp","[I",56),(162,"cA","[I",59),(165,"cB","[I",62),(168,"cC","[I",65),(171,"mem","[I",68),(174,"reg","[I",71),(177,"blkOwner","[I",74),(180,"blkLast","[I",77),(183,"entKind","[I",80),(186,"entVal","[I",83),(189,"regOwner","[I",86),(192,"opStk","[I",89),(195,"cmpSeen","[Z",92),(198,"regCount","I",0),(204,"running","Z",4),(208,"tokCount","I",9),(215,"errPos","I",6),(218,"stmtCount","I",12),(221,"codeLen","I",18),(236,"cur","I",21),(246,"steps","I",24),(259,"lastV","I",27),(262,"lastVal","I",30),(265,"topLast","I",15),(275,"pState","I",33),(278,"blkDepth","I",39),(281,"curStmt","I",36),(300,"entTop","I",42),(303,"opTop","I",45),(306,"parenDepth","I",48)],[(201,17),(211,22),(224,53),(227,59),(230,18),(233,19),(239,63),(242,20),(249,21),(252,13),(268,23),(271,24),(284,29),(287,25),(290,30),(293,31),(296,26),(309,38),(312,36),(315,34),(318,32),(325,28),(328,37),(332,50),(335,51),(338,27),(341,35),(344,39),(350,41),(353,48),(356,52),(360,68),(364,42),(371,43),(384,49),(387,54),(390,55),(393,57),(396,58),(399,56),(402,60),(409,64),(412,65),(415,66),(418,67)],[],[],[],[],[])
def cx_0:List (List Jvm.OM.Ent):=[[],[],[],[],[],[],[],[],[],[],[],[],[],[],[],[],[],[],[],[],[],[],[],[],[],[],[(431,.iload 1,432,none)],[(432,.istore 2,433,none),(433,.iload 2,434,none),(434,.iconst 2,435,none),(435,.if_icmp .ge 440,438,none),(438,.iconst 2,439,none),(439,.istore 2,440,none),(440,.iload 2,441,some 3),(441,.iconst 8,443,none),(443,.if_icmp .le 449,446,none),(446,.iconst 8,448,none)],[(448,.istore 2,449,none),(449,.aload 0,450,some 3),(450,.iload 2,451,none),(451,.putfield 0,454,none),(454,.aload 0,455,none),(455,.invokevirtual 17,458,none),(458,.return_,459,none)]]
def cx_1:List (List Jvm.OM.Ent):=[[(0,.aload 0,1,none),(1,.getfield 4,4,none),(4,.ifCond .eq 9,7,none),(7,.iconst 0,8,none),(8,.ireturn,9,none),(9,.iload 1,10,none),(10,.iconst 1,11,none),(11,.if_icmp .lt 20,14,none),(14,.iload 1,15,none),(15,.iconst 17,17,none)],[(17,.if_icmp .le 22,20,none),(20,.iconst 0,21,some 3),(21,.ireturn,22,none),(22,.iload 1,23,none),(23,.iconst 2,24,none),(24,.if_icmp .ne 39,27,none),(27,.iload 2,28,none),(28,.ifCond .lt 37,31,none),(31,.iload 2,32,none)],[(32,.iconst 8,34,none),(34,.if_icmp .lt 39,37,none),(37,.iconst 0,38,some 3),(38,.ireturn,39,none),(39,.aload 0,40,some 3),(40,.getfield 9,43,none),(43,.ifCond .lt 55,46,none),(46,.aload 0,47,none),(47,.getfield 9,50,none)],[(50,.iconst 96,52,none),(52,.if_icmp .lt 57,55,none),(55,.iconst 0,56,some 3),(56,.ireturn,57,none),(57,.aload 0,58,none),(58,.getfield 2,61,none),(61,.aload 0,62,none),(62,.getfield 9,65,none)],[(65,.iload 1,66,none),(66,.iastore,67,none),(67,.iload 1,68,none),(68,.iconst 1,69,none),(69,.if_icmp .eq 77,72,none),(72,.iload 1,73,none),(73,.iconst 2,74,none),(74,.if_icmp .ne 90,77,none),(77,.aload 0,78,some 3),(78,.getfield 5,81,none)],[(81,.aload 0,82,none),(82,.getfield 9,85,none),(85,.iload 2,86,none),(86,.iastore,87,none),(87,.goto 100,90,none),(90,.aload 0,91,none),(91,.getfield 5,94,none),(94,.aload 0,95,none),(95,.getfield 9,98,none)],[(98,.iconst 0,99,none),(99,.iastore,100,none),(100,.aload 0,101,some 3),(101,.dup,102,none),(102,.getfield 9,105,none),(105,.iconst 1,106,none),(106,.iadd,107,none),(107,.putfield 9,110,none),(110,.iconst 1,111,none),(111,.ireturn,112,none)]]
def cx_2:List (List Jvm.OM.Ent):=[[(0,.aload 0,1,none),(1,.getfield 9,4,none),(4,.ireturn,5,none)]]
def cx_3:List (List Jvm.OM.Ent):=[[(0,.aload 0,1,none),(1,.invokevirtual 17,4,none),(4,.return_,5,none)]]
def cx_4:List (List Jvm.OM.Ent):=[[(0,.aload 0,1,none),(1,.getfield 4,4,none),(4,.ifCond .eq 9,7,none),(7,.iconst 3,8,none),(8,.ireturn,9,none),(9,.aload 0,10,none),(10,.invokevirtual 22,13,none),(13,.istore 1,14,none),(14,.iload 1,15,none),(15,.ifCond .lt 35,18,none)],[(18,.aload 0,19,none),(19,.iload 1,20,none),(20,.putfield 6,23,none),(23,.aload 0,24,none),(24,.iconst 0,25,none),(25,.putfield 12,28,none),(28,.aload 0,29,none),(29,.iconst 0,30,none),(30,.putfield 18,33,none)],[(33,.iconst 2,34,none),(34,.ireturn,35,none),(35,.aload 0,36,none),(36,.invokevirtual 53,39,none),(39,.aload 0,40,none),(40,.invokevirtual 59,43,none),(43,.aload 0,44,none),(44,.invokevirtual 18,47,none),(47,.aload 0,48,none)],[(48,.iconst (-1),49,none),(49,.putfield 6,52,none),(52,.aload 0,53,none),(53,.iconst 1,54,none),(54,.putfield 4,57,none),(57,.aload 0,58,none),(58,.invokevirtual 19,61,none),(61,.iconst 1,62,none),(62,.ireturn,63,none)]]
def cx_7:List (List Jvm.OM.Ent):=[[(0,.aload 0,1,none),(1,.getfield 4,4,none),(4,.ifCond .ne 9,7,none),(7,.iconst 0,8,none),(8,.ireturn,9,none),(9,.iload 1,10,none),(10,.ifCond .lt 27,13,none),(13,.iload 1,14,none),(14,.aload 0,15,none),(15,.getfield 12,18,none)],[(18,.if_icmp .ge 27,21,none),(21,.iload 1,22,none),(22,.iconst 32,24,none),(24,.if_icmp .lt 29,27,none),(27,.iconst 0,28,some 3),(28,.ireturn,29,none),(29,.aload 0,30,none),(30,.getfield 47,33,none)],[(33,.iload 1,34,none),(34,.iload 2,35,none),(35,.bastore,36,none),(36,.iconst 1,37,none),(37,.ireturn,38,none)]]
def cx_8:List (List Jvm.OM.Ent):=[[(0,.aload 0,1,none),(1,.getfield 4,4,none),(4,.ifCond .ne 9,7,none),(7,.iconst (-1),8,none),(8,.ireturn,9,none),(9,.aload 0,10,none),(10,.getfield 21,13,none),(13,.iconst (-2),15,none),(15,.if_icmp .ne 21,18,none)],[(18,.iconst (-2),20,none),(20,.ireturn,21,none),(21,.aload 0,22,none),(22,.invokevirtual 63,25,none),(25,.aload 0,26,none),(26,.getfield 21,29,none),(29,.ireturn,30,none)]]
def cx_9:List (List Jvm.OM.Ent):=[[(0,.iload 1,1,none),(1,.istore 2,2,none),(2,.iload 2,3,none),(3,.iconst 1,4,none),(4,.if_icmp .ge 9,7,none),(7,.iconst 1,8,none),(8,.istore 2,9,none),(9,.iload 2,10,some 3),(10,.iconst 256,13,none),(13,.if_icmp .le 20,16,none)],[(16,.iconst 256,19,none),(19,.istore 2,20,none),(20,.aload 0,21,some 3),(21,.getfield 4,24,none),(24,.ifCond .ne 29,27,none),(27,.iconst (-1),28,none),(28,.ireturn,29,none),(29,.aload 0,30,none),(30,.getfield 21,33,none)],[(33,.iconst (-2),35,none),(35,.if_icmp .ne 41,38,none),(38,.iconst (-2),40,none),(40,.ireturn,41,none),(41,.iconst 0,42,none),(42,.istore 3,43,none),(43,.iload 3,44,some 4),(44,.iload 2,45,none),(45,.if_icmp .ge 81,48,none)],[(48,.aload 0,49,none),(49,.invokevirtual 63,52,none),(52,.aload 0,53,none),(53,.getfield 21,56,none),(56,.iconst (-2),58,none),(58,.if_icmp .eq 81,61,none),(61,.aload 0,62,none),(62,.aload 0,63,none),(63,.getfield 21,66,none)],[(66,.invokevirtual 20,69,none),(69,.ifCond .eq 75,72,none),(72,.goto 81,75,none),(75,.iinc 3 1,78,none),(78,.goto 43,81,none)],[(81,.aload 0,82,some 4),(82,.getfield 21,85,none),(85,.ireturn,86,none)]]
def cx_10:List (List Jvm.OM.Ent):=[[(0,.aload 0,1,none),(1,.getfield 4,4,none),(4,.ifCond .ne 9,7,none),(7,.iconst 0,8,none),(8,.ireturn,9,none),(9,.aload 0,10,none),(10,.invokevirtual 19,13,none),(13,.iconst 1,14,none),(14,.ireturn,15,none)]]
def cx_11:List (List Jvm.OM.Ent):=[[(0,.aload 0,1,none),(1,.getfield 4,4,none),(4,.ifCond .ne 9,7,none),(7,.iconst (-1),8,none),(8,.ireturn,9,none),(9,.aload 0,10,none),(10,.getfield 21,13,none),(13,.ireturn,14,none)]]
def cx_12:List (List Jvm.OM.Ent):=[[(0,.aload 0,1,none),(1,.getfield 4,4,none),(4,.ifCond .ne 9,7,none),(7,.iconst 0,8,none),(8,.ireturn,9,none),(9,.aload 0,10,none),(10,.getfield 24,13,none),(13,.ireturn,14,none)]]
def cx_13:List (List Jvm.OM.Ent):=[[(0,.aload 0,1,none),(1,.getfield 4,4,none),(4,.ifCond .eq 17,7,none),(7,.iload 1,8,none),(8,.ifCond .lt 17,11,none),(11,.iload 1,12,none),(12,.iconst 8,14,none),(14,.if_icmp .lt 19,17,none)],[(17,.iconst 0,18,some 2),(18,.ireturn,19,none),(19,.aload 0,20,none),(20,.invokevirtual 21,23,none),(23,.istore 2,24,none),(24,.iload 2,25,none),(25,.ifCond .lt 34,28,none),(28,.iload 2,29,none),(29,.iconst 40,31,none),(31,.if_icmp .lt 36,34,none)],[(34,.iconst 0,35,some 3),(35,.ireturn,36,none),(36,.aload 0,37,none),(37,.getfield 44,40,none),(40,.iload 2,41,none),(41,.iaload,42,none),(42,.iload 1,43,none),(43,.ishr,44,none),(44,.iconst 1,45,none),(45,.iand,46,none),(46,.ifCond .eq 53,49,none)],[(49,.iconst 1,50,none),(50,.goto 54,53,none),(53,.iconst 0,54,none),(54,.ireturn,55,some 3)]]
def cx_14:List (List Jvm.OM.Ent):=[[(0,.aload 0,1,none),(1,.iload 1,2,none),(2,.invokevirtual 13,5,none),(5,.ifCond .ne 10,8,none),(8,.iconst 0,9,none),(9,.ireturn,10,none),(10,.aload 0,11,none),(11,.invokevirtual 21,14,none),(14,.iconst 8,16,none)],[(16,.imul,17,none),(17,.iload 1,18,none),(18,.iadd,19,none),(19,.istore 2,20,none),(20,.iload 2,21,none),(21,.ifCond .lt 31,24,none),(24,.iload 2,25,none),(25,.iconst 320,28,none),(28,.if_icmp .lt 33,31,none),(31,.iconst 0,32,some 3)],[(32,.ireturn,33,none),(33,.aload 0,34,none),(34,.aload 0,35,none),(35,.getfield 50,38,none),(38,.iload 2,39,none),(39,.iaload,40,none),(40,.aload 0,41,none),(41,.getfield 53,44,none),(44,.iload 2,45,none),(45,.iaload,46,none)]]
def cx_15:List (List Jvm.OM.Ent):=[[(0,.aload 0,1,none),(1,.getfield 4,4,none),(4,.ifCond .ne 9,7,none),(7,.iconst (-1),8,none),(8,.ireturn,9,none),(9,.aload 0,10,none),(10,.getfield 27,13,none),(13,.ireturn,14,none)]]
def cx_16:List (List Jvm.OM.Ent):=[[(0,.aload 0,1,none),(1,.getfield 4,4,none),(4,.ifCond .ne 9,7,none),(7,.iconst 0,8,none),(8,.ireturn,9,none),(9,.aload 0,10,none),(10,.getfield 30,13,none),(13,.ireturn,14,none)]]
def cx_17:List (List Jvm.OM.Ent):=[[(0,.aload 0,1,none),(1,.iconst 0,2,none),(2,.putfield 4,5,none),(5,.aload 0,6,none),(6,.iconst 0,7,none),(7,.putfield 9,10,none),(10,.aload 0,11,none),(11,.iconst (-1),12,none),(12,.putfield 6,15,none),(15,.aload 0,16,none)],[(16,.iconst 0,17,none),(17,.putfield 12,20,none),(20,.aload 0,21,none),(21,.iconst 0,22,none),(22,.putfield 18,25,none),(25,.aload 0,26,none),(26,.iconst (-1),27,none),(27,.putfield 15,30,none),(30,.aload 0,31,none),(31,.invokevirtual 18,34,none)],[(34,.aload 0,35,none),(35,.iconst (-2),37,none),(37,.putfield 21,40,none),(40,.aload 0,41,none),(41,.iconst 0,42,none),(42,.putfield 24,45,none),(45,.aload 0,46,none),(46,.iconst (-1),47,none),(47,.putfield 27,50,none)],[(50,.aload 0,51,none),(51,.iconst 0,52,none),(52,.putfield 30,55,none),(55,.return_,56,none)]]
def cx_18:List (List Jvm.OM.Ent):=[[(0,.iconst 0,1,none),(1,.istore 1,2,none),(2,.iload 1,3,some 2),(3,.iconst 32,5,none),(5,.if_icmp .ge 21,8,none),(8,.aload 0,9,none),(9,.getfield 47,12,none),(12,.iload 1,13,none),(13,.iconst 0,14,none),(14,.bastore,15,none),(15,.iinc 1 1,18,none)],[(18,.goto 2,21,none),(21,.return_,22,none)]]
def cx_19:List (List Jvm.OM.Ent):=[[(0,.iconst 0,1,none),(1,.istore 1,2,none),(2,.iload 1,3,some 2),(3,.iconst 128,6,none),(6,.if_icmp .ge 22,9,none),(9,.aload 0,10,none),(10,.getfield 68,13,none),(13,.iload 1,14,none),(14,.iconst 0,15,none),(15,.iastore,16,none)],[(16,.iinc 1 1,19,none),(19,.goto 2,22,none),(22,.iconst 0,23,none),(23,.istore 1,24,none),(24,.iload 1,25,some 2),(25,.iconst 8,27,none),(27,.if_icmp .ge 43,30,none),(30,.aload 0,31,none),(31,.getfield 71,34,none)],[(34,.iload 1,35,none),(35,.iconst 0,36,none),(36,.iastore,37,none),(37,.iinc 1 1,40,none),(40,.goto 24,43,none),(43,.aload 0,44,none),(44,.iconst 0,45,none),(45,.putfield 24,48,none)],[(48,.aload 0,49,none),(49,.iconst (-1),50,none),(50,.putfield 27,53,none),(53,.aload 0,54,none),(54,.iconst 0,55,none),(55,.putfield 30,58,none),(58,.aload 0,59,none),(59,.getfield 12,62,none),(62,.ifCond .le 73,65,none)],[(65,.aload 0,66,none),(66,.iconst 0,67,none),(67,.putfield 21,70,none),(70,.goto 79,73,none),(73,.aload 0,74,none),(74,.iconst (-2),76,none),(76,.putfield 21,79,none),(79,.return_,80,some 2)]]
def cx_20:List (List Jvm.OM.Ent):=[[(0,.iload 1,1,none),(1,.ifCond .lt 18,4,none),(4,.iload 1,5,none),(5,.aload 0,6,none),(6,.getfield 12,9,none),(9,.if_icmp .ge 18,12,none),(12,.iload 1,13,none),(13,.iconst 32,15,none),(15,.if_icmp .lt 20,18,none)],[(18,.iconst 0,19,some 2),(19,.ireturn,20,none),(20,.aload 0,21,none),(21,.getfield 47,24,none),(24,.iload 1,25,none),(25,.baload,26,none),(26,.ireturn,27,none)]]
def cx_21:List (List Jvm.OM.Ent):=[[(0,.aload 0,1,none),(1,.getfield 21,4,none),(4,.ifCond .lt 23,7,none),(7,.aload 0,8,none),(8,.getfield 21,11,none),(11,.aload 0,12,none),(12,.getfield 12,15,none),(15,.if_icmp .ge 23,18,none)],[(18,.aload 0,19,none),(19,.getfield 21,22,none),(22,.ireturn,23,none),(23,.aload 0,24,some 1),(24,.getfield 12,27,none),(27,.ireturn,28,none)]]
def cx_22:List (List Jvm.OM.Ent):=[[(0,.aload 0,1,none),(1,.invokevirtual 23,4,none),(4,.iconst 0,5,none),(5,.istore 1,6,none),(6,.iload 1,7,some 2),(7,.aload 0,8,none),(8,.getfield 9,11,none),(11,.if_icmp .ge 47,14,none),(14,.iload 1,15,none),(15,.iconst 96,17,none)],[(17,.if_icmp .ge 47,20,none),(20,.aload 0,21,none),(21,.aload 0,22,none),(22,.getfield 2,25,none),(25,.iload 1,26,none),(26,.iaload,27,none),(27,.aload 0,28,none),(28,.getfield 5,31,none),(31,.iload 1,32,none)],[(32,.iaload,33,none),(33,.invokevirtual 24,36,none),(36,.ifCond .ne 41,39,none),(39,.iload 1,40,none),(40,.ireturn,41,none),(41,.iinc 1 1,44,none),(44,.goto 6,47,none),(47,.aload 0,48,some 2)],[(48,.getfield 33,51,none),(51,.ifCond .ne 61,54,none),(54,.aload 0,55,none),(55,.getfield 39,58,none),(58,.ifCond .eq 66,61,none),(61,.aload 0,62,some 2),(62,.getfield 9,65,none)],[(65,.ireturn,66,none),(66,.iconst (-1),67,none),(67,.ireturn,68,none)]]
def cx_23:List (List Jvm.OM.Ent):=[[(0,.aload 0,1,none),(1,.iconst 0,2,none),(2,.putfield 12,5,none),(5,.aload 0,6,none),(6,.iconst 0,7,none),(7,.putfield 18,10,none),(10,.aload 0,11,none),(11,.iconst (-1),12,none),(12,.putfield 15,15,none),(15,.aload 0,16,none)],[(16,.iconst 0,17,none),(17,.putfield 39,20,none),(20,.aload 0,21,none),(21,.getfield 74,24,none),(24,.iconst 0,25,none),(25,.iconst (-1),26,none),(26,.iastore,27,none),(27,.aload 0,28,none),(28,.getfield 77,31,none),(31,.iconst 0,32,none)],[(32,.iconst (-1),33,none),(33,.iastore,34,none),(34,.aload 0,35,none),(35,.iconst 0,36,none),(36,.putfield 33,39,none),(39,.aload 0,40,none),(40,.iconst (-1),41,none),(41,.putfield 36,44,none),(44,.aload 0,45,none),(45,.invokevirtual 29,48,none)],[(48,.return_,49,none)]]
def cx_24:List (List Jvm.OM.Ent):=[[(0,.aload 0,1,none),(1,.getfield 33,4,none),(4,.ifCond .ne 14,7,none),(7,.aload 0,8,none),(8,.iload 1,9,none),(9,.iload 2,10,none),(10,.invokevirtual 25,13,none),(13,.ireturn,14,none),(14,.aload 0,15,none),(15,.getfield 33,18,none)],[(18,.iconst 1,19,none),(19,.if_icmp .ne 40,22,none),(22,.iload 1,23,none),(23,.iconst 3,24,none),(24,.if_icmp .eq 29,27,none),(27,.iconst 0,28,none),(28,.ireturn,29,none),(29,.aload 0,30,none),(30,.invokevirtual 29,33,none)],[(33,.aload 0,34,none),(34,.iconst 2,35,none),(35,.putfield 33,38,none),(38,.iconst 1,39,none),(39,.ireturn,40,none),(40,.aload 0,41,none),(41,.getfield 33,44,none),(44,.iconst 2,45,none),(45,.if_icmp .ne 55,48,none)],[(48,.aload 0,49,none),(49,.iload 1,50,none),(50,.iload 2,51,none),(51,.invokevirtual 30,54,none),(54,.ireturn,55,none),(55,.aload 0,56,none),(56,.iload 1,57,none),(57,.invokevirtual 31,60,none),(60,.ireturn,61,none)]]
def cx_25:List (List Jvm.OM.Ent):=[[(0,.iload 1,1,none),(1,.iconst 15,3,none),(3,.if_icmp .ne 27,6,none),(6,.aload 0,7,none),(7,.getfield 39,10,none),(10,.ifCond .gt 15,13,none),(13,.iconst 0,14,none),(14,.ireturn,15,none),(15,.aload 0,16,none)],[(16,.dup,17,none),(17,.getfield 39,20,none),(20,.iconst 1,21,none),(21,.isub,22,none),(22,.putfield 39,25,none),(25,.iconst 1,26,none),(26,.ireturn,27,none),(27,.iload 1,28,none),(28,.iconst 2,29,none),(29,.if_icmp .eq 46,32,none)],[(32,.iload 1,33,none),(33,.iconst 16,35,none),(35,.if_icmp .eq 46,38,none),(38,.iload 1,39,none),(39,.iconst 17,41,none),(41,.if_icmp .eq 46,44,none),(44,.iconst 0,45,none),(45,.ireturn,46,none),(46,.aload 0,47,some 3),(47,.iload 1,48,none)],[(48,.invokevirtual 26,51,none),(51,.istore 3,52,none),(52,.iload 3,53,none),(53,.ifCond .ge 58,56,none),(56,.iconst 0,57,none),(57,.ireturn,58,none),(58,.iload 1,59,none),(59,.iconst 2,60,none),(60,.if_icmp .ne 77,63,none),(63,.aload 0,64,none)],[(64,.getfield 11,67,none),(67,.iload 3,68,none),(68,.iload 2,69,none),(69,.iastore,70,none),(70,.aload 0,71,none),(71,.iconst 1,72,none),(72,.putfield 33,75,none),(75,.iconst 1,76,none),(76,.ireturn,77,none),(77,.aload 0,78,none),(78,.invokevirtual 29,81,none)],[(81,.aload 0,82,none),(82,.iconst 2,83,none),(83,.putfield 33,86,none),(86,.iconst 1,87,none),(87,.ireturn,88,none)]]
def cx_26:List (List Jvm.OM.Ent):=[[(0,.aload 0,1,none),(1,.getfield 12,4,none),(4,.ifCond .lt 16,7,none),(7,.aload 0,8,none),(8,.getfield 12,11,none),(11,.iconst 32,13,none),(13,.if_icmp .lt 18,16,none)],[(16,.iconst (-1),17,some 2),(17,.ireturn,18,none),(18,.aload 0,19,none),(19,.getfield 39,22,none),(22,.ifCond .lt 34,25,none),(25,.aload 0,26,none),(26,.getfield 39,29,none),(29,.iconst 40,31,none),(31,.if_icmp .lt 36,34,none)],[(34,.iconst (-1),35,some 2),(35,.ireturn,36,none),(36,.aload 0,37,none),(37,.getfield 12,40,none),(40,.istore 2,41,none),(41,.aload 0,42,none),(42,.dup,43,none),(43,.getfield 12,46,none),(46,.iconst 1,47,none),(47,.iadd,48,none)],[(48,.putfield 12,51,none),(51,.aload 0,52,none),(52,.getfield 8,55,none),(55,.iload 2,56,none),(56,.iload 1,57,none),(57,.iastore,58,none),(58,.aload 0,59,none),(59,.getfield 11,62,none),(62,.iload 2,63,none),(63,.iconst 0,64,none)],[(64,.iastore,65,none),(65,.aload 0,66,none),(66,.getfield 23,69,none),(69,.iload 2,70,none),(70,.iconst (-1),71,none),(71,.iastore,72,none),(72,.aload 0,73,none),(73,.getfield 20,76,none),(76,.iload 2,77,none),(77,.iconst (-1),78,none),(78,.iastore,79,none),(79,.aload 0,80,none)],[(80,.getfield 35,83,none),(83,.iload 2,84,none),(84,.iconst 0,85,none),(85,.iastore,86,none),(86,.aload 0,87,none),(87,.getfield 29,90,none),(90,.iload 2,91,none),(91,.iconst (-1),92,none),(92,.iastore,93,none),(93,.aload 0,94,none),(94,.getfield 32,97,none)],[(97,.iload 2,98,none),(98,.iconst (-2),100,none),(100,.iastore,101,none),(101,.aload 0,102,none),(102,.getfield 38,105,none),(105,.iload 2,106,none),(106,.iconst 1,107,none),(107,.iastore,108,none),(108,.aload 0,109,none),(109,.getfield 41,112,none)],[(112,.iload 2,113,none),(113,.iconst 0,114,none),(114,.iastore,115,none),(115,.aload 0,116,none),(116,.getfield 26,119,none),(119,.iload 2,120,none),(120,.aload 0,121,none),(121,.getfield 18,124,none),(124,.iastore,125,none),(125,.aload 0,126,none),(126,.getfield 74,129,none)],[(129,.aload 0,130,none),(130,.getfield 39,133,none),(133,.iaload,134,none),(134,.istore 3,135,none),(135,.aload 0,136,none),(136,.getfield 77,139,none),(139,.aload 0,140,none),(140,.getfield 39,143,none),(143,.iaload,144,none)],[(144,.istore 4,146,none),(146,.aload 0,147,none),(147,.getfield 14,150,none),(150,.iload 2,151,none),(151,.iload 3,152,none),(152,.iastore,153,none),(153,.aload 0,154,none),(154,.getfield 17,157,none),(157,.iload 2,158,none),(158,.iload 4,160,none)],[(160,.iastore,161,none),(161,.iload 4,163,none),(163,.ifCond .lt 184,166,none),(166,.iload 4,168,none),(168,.iconst 32,170,none),(170,.if_icmp .ge 184,173,none),(173,.aload 0,174,none),(174,.getfield 20,177,none)],[(177,.iload 4,179,none),(179,.iload 2,180,none),(180,.iastore,181,none),(181,.goto 201,184,none),(184,.iload 3,185,some 5),(185,.ifCond .lt 201,188,none),(188,.iload 3,189,none),(189,.iconst 32,191,none),(191,.if_icmp .ge 201,194,none)],[(194,.aload 0,195,none),(195,.getfield 23,198,none),(198,.iload 3,199,none),(199,.iload 2,200,none),(200,.iastore,201,none),(201,.aload 0,202,some 5),(202,.getfield 77,205,none),(205,.aload 0,206,none),(206,.getfield 39,209,none)],[(209,.iload 2,210,none),(210,.iastore,211,none),(211,.aload 0,212,none),(212,.iload 2,213,none),(213,.putfield 36,216,none),(216,.iload 2,217,none),(217,.ireturn,218,none)]]
def cx_27:List (List Jvm.OM.Ent):=[[(0,.aload 0,1,none),(1,.getfield 39,4,none),(4,.ifCond .lt 18,7,none),(7,.aload 0,8,none),(8,.getfield 39,11,none),(11,.iconst 1,12,none),(12,.iadd,13,none),(13,.iconst 40,15,none),(15,.if_icmp .lt 20,18,none)],[(18,.iconst 0,19,some 1),(19,.ireturn,20,none),(20,.aload 0,21,none),(21,.dup,22,none),(22,.getfield 39,25,none),(25,.iconst 1,26,none),(26,.iadd,27,none),(27,.putfield 39,30,none),(30,.aload 0,31,none),(31,.getfield 74,34,none)],[(34,.aload 0,35,none),(35,.getfield 39,38,none),(38,.aload 0,39,none),(39,.getfield 36,42,none),(42,.iastore,43,none),(43,.aload 0,44,none),(44,.getfield 77,47,none),(47,.aload 0,48,none)],[(48,.getfield 39,51,none),(51,.iconst (-1),52,none),(52,.iastore,53,none),(53,.aload 0,54,none),(54,.iconst 0,55,none),(55,.putfield 33,58,none),(58,.iconst 1,59,none),(59,.ireturn,60,none)]]
def cx_28:List (List Jvm.OM.Ent):=[[(0,.aload 0,1,none),(1,.getfield 36,4,none),(4,.ifCond .lt 16,7,none),(7,.aload 0,8,none),(8,.getfield 36,11,none),(11,.iconst 32,13,none),(13,.if_icmp .lt 18,16,none)],[(16,.iconst 0,17,some 1),(17,.ireturn,18,none),(18,.aload 0,19,none),(19,.getfield 8,22,none),(22,.aload 0,23,none),(23,.getfield 36,26,none),(26,.iaload,27,none),(27,.iconst 2,28,none),(28,.if_icmp .ne 35,31,none),(31,.iconst 1,32,none)],[(32,.goto 36,35,none),(35,.iconst 0,36,none),(36,.ireturn,37,some 1)]]
def cx_29:List (List Jvm.OM.Ent):=[[(0,.aload 0,1,none),(1,.iconst 0,2,none),(2,.putfield 42,5,none),(5,.aload 0,6,none),(6,.iconst 0,7,none),(7,.putfield 45,10,none),(10,.aload 0,11,none),(11,.iconst 0,12,none),(12,.putfield 48,15,none),(15,.aload 0,16,none)],[(16,.getfield 92,19,none),(19,.iconst 0,20,none),(20,.iconst 0,21,none),(21,.bastore,22,none),(22,.iconst 0,23,none),(23,.istore 1,24,none),(24,.iload 1,25,some 2),(25,.iconst 8,27,none),(27,.if_icmp .ge 43,30,none),(30,.aload 0,31,none),(31,.getfield 86,34,none)],[(34,.iload 1,35,none),(35,.iconst (-1),36,none),(36,.iastore,37,none),(37,.iinc 1 1,40,none),(40,.goto 24,43,none),(43,.return_,44,none)]]
def cx_30:List (List Jvm.OM.Ent):=[[(0,.iload 1,1,none),(1,.iconst 1,2,none),(2,.if_icmp .eq 10,5,none),(5,.iload 1,6,none),(6,.iconst 2,7,none),(7,.if_icmp .ne 37,10,none),(10,.iconst 2,11,some 3),(11,.istore 3,12,none),(12,.iload 1,13,none),(13,.iconst 1,14,none),(14,.if_icmp .ne 19,17,none)],[(17,.iconst 1,18,none),(18,.istore 3,19,none),(19,.aload 0,20,some 4),(20,.iload 3,21,none),(21,.iload 2,22,none),(22,.invokevirtual 38,25,none),(25,.ifCond .ne 30,28,none),(28,.iconst 0,29,none),(29,.ireturn,30,none),(30,.aload 0,31,none),(31,.iconst 3,32,none)],[(32,.putfield 33,35,none),(35,.iconst 1,36,none),(36,.ireturn,37,none),(37,.iload 1,38,none),(38,.iconst 6,40,none),(40,.if_icmp .ne 50,43,none),(43,.aload 0,44,none),(44,.iconst 20,46,none),(46,.invokevirtual 36,49,none)],[(49,.ireturn,50,none),(50,.iload 1,51,none),(51,.iconst 12,53,none),(53,.if_icmp .ne 109,56,none),(56,.aload 0,57,none),(57,.getfield 48,60,none),(60,.ifCond .lt 74,63,none),(63,.aload 0,64,none)],[(64,.getfield 48,67,none),(67,.iconst 1,68,none),(68,.iadd,69,none),(69,.iconst 96,71,none),(71,.if_icmp .lt 76,74,none),(74,.iconst 0,75,some 3),(75,.ireturn,76,none),(76,.aload 0,77,none),(77,.iconst 21,79,none),(79,.invokevirtual 36,82,none)],[(82,.ifCond .ne 87,85,none),(85,.iconst 0,86,none),(86,.ireturn,87,none),(87,.aload 0,88,none),(88,.dup,89,none),(89,.getfield 48,92,none),(92,.iconst 1,93,none),(93,.iadd,94,none),(94,.putfield 48,97,none)],[(97,.aload 0,98,none),(98,.getfield 92,101,none),(101,.aload 0,102,none),(102,.getfield 48,105,none),(105,.iconst 0,106,none),(106,.bastore,107,none),(107,.iconst 1,108,none),(108,.ireturn,109,none),(109,.iconst 0,110,none),(110,.ireturn,111,none)]]
def cx_31:List (List Jvm.OM.Ent):=[[(0,.aload 0,1,none),(1,.iload 1,2,none),(2,.invokevirtual 34,5,none),(5,.ifCond .eq 14,8,none),(8,.aload 0,9,none),(9,.iload 1,10,none),(10,.invokevirtual 32,13,none),(13,.ireturn,14,none),(14,.iload 1,15,none),(15,.iconst 13,17,none)],[(17,.if_icmp .ne 25,20,none),(20,.aload 0,21,none),(25,.aload 0,26,none),(26,.getfield 48,29,none),(29,.ifCond .eq 34,32,none)],[(32,.iconst 0,33,none),(33,.ireturn,34,none),(34,.aload 0,35,none),(35,.invokevirtual 28,38,none),(38,.istore 2,39,none),(39,.iload 2,40,none),(40,.ifCond .eq 64,43,none),(43,.iload 1,44,none),(44,.iconst 4,45,none),(45,.if_icmp .ne 64,48,none)],[(48,.aload 0,49,none),(49,.iconst 0,50,none),(50,.invokevirtual 37,53,none),(53,.aload 0,54,none),(54,.invokevirtual 50,57,none),(57,.aload 0,58,none),(58,.iconst 0,59,none),(59,.putfield 33,62,none),(62,.iconst 1,63,none),(63,.ireturn,64,none)],[(64,.iload 2,65,some 3),(65,.ifCond .ne 88,68,none),(68,.iload 1,69,none),(69,.iconst 14,71,none),(71,.if_icmp .ne 88,74,none),(74,.aload 0,75,none),(75,.iconst 0,76,none),(76,.invokevirtual 37,79,none),(79,.aload 0,80,none)],[(80,.invokevirtual 51,83,none),(83,.aload 0,84,none),(84,.invokevirtual 27,87,none),(87,.ireturn,88,none),(88,.iconst 0,89,some 3),(89,.ireturn,90,none)]]
def cx_32:List (List Jvm.OM.Ent):=[[(0,.iload 1,1,none),(1,.iconst 10,3,none),(3,.if_icmp .eq 12,6,none),(6,.iload 1,7,none),(7,.iconst 11,9,none),(9,.if_icmp .ne 54,12,none),(12,.aload 0,13,some 2),(13,.getfield 48,16,none)],[(16,.ifCond .lt 28,19,none),(19,.aload 0,20,none),(20,.getfield 48,23,none),(23,.iconst 96,25,none),(25,.if_icmp .lt 30,28,none),(28,.iconst 0,29,some 2),(29,.ireturn,30,none),(30,.aload 0,31,none),(31,.getfield 92,34,none)],[(34,.aload 0,35,none),(35,.getfield 48,38,none),(38,.baload,39,none),(39,.ifCond .eq 44,42,none),(42,.iconst 0,43,none),(43,.ireturn,44,none),(44,.aload 0,45,none),(45,.getfield 92,48,none)],[(48,.aload 0,49,none),(49,.getfield 48,52,none),(52,.iconst 1,53,none),(53,.bastore,54,none),(54,.aload 0,55,some 2),(55,.iload 1,56,none),(56,.invokevirtual 35,59,none),(59,.istore 2,60,none),(60,.aload 0,61,none),(61,.iload 2,62,none),(62,.invokevirtual 37,65,none)],[(65,.aload 0,66,none),(66,.iload 1,67,none),(67,.invokevirtual 36,70,none),(70,.ifCond .ne 75,73,none),(73,.iconst 0,74,none),(74,.ireturn,75,none),(75,.aload 0,76,none),(76,.iconst 2,77,none),(77,.putfield 33,80,none)],[(80,.iconst 1,81,none),(81,.ireturn,82,none)]]
def cx_34:List (List Jvm.OM.Ent):=[[(0,.iload 1,1,none),(1,.iconst 5,2,none),(2,.if_icmp .lt 15,5,none),(5,.iload 1,6,none),(6,.iconst 11,8,none),(8,.if_icmp .gt 15,11,none),(11,.iconst 1,12,none),(12,.goto 16,15,none),(15,.iconst 0,16,some 2)],[(16,.ireturn,17,some 2)]]
def cx_35:List (List Jvm.OM.Ent):=[[(0,.iload 1,1,none),(1,.iconst 10,3,none),(3,.if_icmp .eq 12,6,none),(6,.iload 1,7,none),(7,.iconst 11,9,none),(9,.if_icmp .ne 14,12,none),(12,.iconst 1,13,some 2),(13,.ireturn,14,none),(14,.iload 1,15,none),(15,.iconst 5,16,none)],[(16,.if_icmp .eq 25,19,none),(19,.iload 1,20,none),(20,.iconst 6,22,none),(22,.if_icmp .ne 27,25,none),(25,.iconst 2,26,some 2),(26,.ireturn,27,none),(27,.iload 1,28,none),(28,.iconst 7,30,none),(30,.if_icmp .eq 45,33,none)],[(33,.iload 1,34,none),(34,.iconst 8,36,none),(36,.if_icmp .eq 45,39,none),(39,.iload 1,40,none),(40,.iconst 9,42,none),(42,.if_icmp .ne 47,45,none),(45,.iconst 3,46,some 2),(46,.ireturn,47,none),(47,.iload 1,48,none)],[(48,.iconst 20,50,none),(50,.if_icmp .ne 55,53,none),(53,.iconst 4,54,none),(54,.ireturn,55,none),(55,.iconst 0,56,none),(56,.ireturn,57,none)]]
def cx_36:List (List Jvm.OM.Ent):=[[(0,.aload 0,1,none),(1,.getfield 45,4,none),(4,.ifCond .lt 16,7,none),(7,.aload 0,8,none),(8,.getfield 45,11,none),(11,.iconst 96,13,none),(13,.if_icmp .lt 18,16,none)],[(16,.iconst 0,17,some 2),(17,.ireturn,18,none),(18,.aload 0,19,none),(19,.getfield 89,22,none),(22,.aload 0,23,none),(23,.getfield 45,26,none),(26,.iload 1,27,none),(27,.iastore,28,none),(28,.aload 0,29,none),(29,.dup,30,none),(30,.getfield 45,33,none)],[(33,.iconst 1,34,none),(34,.iadd,35,none),(35,.putfield 45,38,none),(38,.iconst 1,39,none),(39,.ireturn,40,none)]]
def cx_37:List (List Jvm.OM.Ent):=[[(0,.iconst 0,1,none),(1,.istore 2,2,none),(2,.iload 2,3,some 3),(3,.iconst 96,5,none),(5,.if_icmp .ge 78,8,none),(8,.aload 0,9,none),(9,.getfield 45,12,none),(12,.ifCond .le 78,15,none),(15,.aload 0,16,none)],[(16,.getfield 45,19,none),(19,.iconst 96,21,none),(21,.if_icmp .gt 78,24,none),(24,.aload 0,25,none),(25,.getfield 89,28,none),(28,.aload 0,29,none),(29,.getfield 45,32,none)],[(32,.iconst 1,33,none),(33,.isub,34,none),(34,.iaload,35,none),(35,.istore 3,36,none),(36,.iload 3,37,none),(37,.iconst 21,39,none),(39,.if_icmp .ne 43,42,none),(42,.return_,43,none),(43,.aload 0,44,none),(44,.iload 3,45,none),(45,.invokevirtual 35,48,none)],[(48,.istore 4,50,none),(50,.iload 4,52,none),(52,.iload 1,53,none),(53,.if_icmp .ge 57,56,none),(56,.return_,57,none),(57,.aload 0,58,none),(58,.dup,59,none),(59,.getfield 45,62,none),(62,.iconst 1,63,none),(63,.isub,64,none)],[(64,.putfield 45,67,none),(67,.aload 0,68,none),(68,.iload 3,69,none),(69,.invokevirtual 39,72,none),(72,.iinc 2 1,75,none),(75,.goto 2,78,none),(78,.return_,79,some 3)]]
def cx_38:List (List Jvm.OM.Ent):=[[(0,.aload 0,1,none),(1,.getfield 42,4,none),(4,.ifCond .lt 16,7,none),(7,.aload 0,8,none),(8,.getfield 42,11,none),(11,.iconst 96,13,none),(13,.if_icmp .lt 18,16,none)],[(16,.iconst 0,17,some 3),(17,.ireturn,18,none),(18,.aload 0,19,none),(19,.getfield 80,22,none),(22,.aload 0,23,none),(23,.getfield 42,26,none),(26,.iload 1,27,none),(27,.iastore,28,none),(28,.aload 0,29,none),(29,.getfield 83,32,none)],[(32,.aload 0,33,none),(33,.getfield 42,36,none),(36,.iload 2,37,none),(37,.iastore,38,none),(38,.aload 0,39,none),(39,.dup,40,none),(40,.getfield 42,43,none),(43,.iconst 1,44,none),(44,.iadd,45,none),(45,.putfield 42,48,none)],[(48,.iconst 1,49,none),(49,.ireturn,50,none)]]
def cx_39:List (List Jvm.OM.Ent):=[[(0,.iload 1,1,none),(1,.iconst 20,3,none),(3,.if_icmp .ne 13,6,none),(6,.aload 0,7,none),(13,.aload 0,14,none),(14,.iload 1,15,none),(15,.invokevirtual 41,18,none)],[(18,.return_,19,none)]]
def cx_41:List (List Jvm.OM.Ent):=[[(0,.aload 0,1,none),(1,.getfield 42,4,none),(4,.iconst 2,5,none),(5,.if_icmp .lt 17,8,none),(8,.aload 0,9,none),(9,.getfield 42,12,none),(12,.iconst 96,14,none),(14,.if_icmp .le 18,17,none)],[(17,.return_,18,some 2),(18,.aload 0,19,none),(19,.getfield 42,22,none),(22,.iconst 2,23,none),(23,.isub,24,none),(24,.istore 2,25,none),(25,.aload 0,26,none),(26,.getfield 42,29,none),(29,.iconst 1,30,none),(30,.isub,31,none),(31,.istore 3,32,none)],[(32,.aload 0,33,none),(33,.getfield 80,36,none),(36,.iload 2,37,none),(37,.iaload,38,none),(38,.iconst 1,39,none),(39,.if_icmp .ne 86,42,none),(42,.aload 0,43,none),(43,.getfield 80,46,none),(46,.iload 3,47,none),(47,.iaload,48,none)],[(48,.iconst 1,49,none),(49,.if_icmp .ne 86,52,none),(52,.aload 0,53,none),(53,.getfield 83,56,none),(56,.iload 2,57,none),(57,.aload 0,58,none),(58,.iload 1,59,none),(59,.aload 0,60,none),(60,.getfield 83,63,none),(63,.iload 2,64,none)],[(64,.iaload,65,none),(65,.aload 0,66,none),(66,.getfield 83,69,none),(69,.iload 3,70,none),(70,.iaload,71,none),(71,.invokevirtual 68,74,none),(74,.iastore,75,none),(75,.aload 0,76,none),(76,.dup,77,none),(77,.getfield 42,80,none)],[(80,.iconst 1,81,none),(81,.isub,82,none),(82,.putfield 42,85,none),(85,.return_,86,none),(86,.aload 0,87,some 4),(87,.iload 1,88,none),(88,.iload 2,89,none),(89,.iload 3,90,none),(90,.invokevirtual 42,93,none),(93,.ifCond .eq 97,96,none)],[(96,.return_,97,none),(97,.aload 0,98,none),(98,.iload 2,99,none),(99,.iload 3,100,none),(100,.invokevirtual 48,103,none),(103,.istore 4,105,none),(105,.aload 0,106,none),(106,.getfield 80,109,none),(109,.iload 3,110,none),(110,.iaload,111,none),(111,.iconst 1,112,none)],[(112,.if_icmp .ne 134,115,none),(115,.aload 0,116,none),(116,.iconst 6,118,none),(118,.iload 4,120,none),(120,.aload 0,121,none),(121,.getfield 83,124,none),(124,.iload 3,125,none),(125,.iaload,126,none),(126,.iload 1,127,none),(127,.invokevirtual 52,130,none)],[(130,.pop,131,none),(131,.goto 158,134,none),(134,.aload 0,135,none),(135,.iload 3,136,none),(136,.iload 2,137,none),(137,.invokevirtual 48,140,none),(140,.istore 5,142,none),(142,.aload 0,143,none),(143,.iconst 5,144,none)],[(144,.iload 4,146,none),(146,.iload 5,148,none),(148,.iload 1,149,none),(149,.invokevirtual 52,152,none),(152,.pop,153,none),(153,.aload 0,154,none),(154,.iload 3,155,none),(158,.aload 0,159,none),(159,.dup,160,none)],[(160,.getfield 42,163,none),(163,.iconst 1,164,none),(164,.isub,165,none),(165,.putfield 42,168,none),(168,.return_,169,none)]]
def cx_42:List (List Jvm.OM.Ent):=[[(0,.aload 0,1,none),(1,.getfield 80,4,none),(4,.iload 3,5,none),(5,.iaload,6,none),(6,.iconst 1,7,none),(7,.if_icmp .ne 57,10,none),(10,.aload 0,11,none),(11,.iload 1,12,none),(12,.aload 0,13,none),(13,.getfield 83,16,none)],[(16,.iload 3,17,none),(17,.iaload,18,none),(18,.invokevirtual 43,21,none),(21,.istore 4,23,none),(23,.iload 4,25,none),(25,.iconst 1,26,none),(26,.if_icmp .ne 41,29,none),(29,.aload 0,30,none),(30,.dup,31,none),(31,.getfield 42,34,none)],[(34,.iconst 1,35,none),(35,.isub,36,none),(36,.putfield 42,39,none),(39,.iconst 1,40,none),(40,.ireturn,41,none),(41,.iload 4,43,none),(43,.iconst 2,44,none),(44,.if_icmp .ne 55,47,none),(47,.aload 0,48,none)],[(48,.iload 2,49,none),(49,.iload 3,50,none),(55,.iconst 0,56,none),(56,.ireturn,57,none),(57,.aload 0,58,none),(58,.getfield 80,61,none),(61,.iload 2,62,none),(62,.iaload,63,none),(63,.iconst 1,64,none)],[(64,.if_icmp .ne 118,67,none),(67,.aload 0,68,none),(68,.iload 1,69,none),(69,.aload 0,70,none),(70,.getfield 83,73,none),(73,.iload 2,74,none),(74,.iaload,75,none)],[],[],[(118,.iconst 0,119,none),(119,.ireturn,120,none)]]
def cx_43:List (List Jvm.OM.Ent):=[[(0,.iload 1,1,none),(1,.iconst 5,2,none),(2,.if_icmp .eq 11,5,none),(5,.iload 1,6,none),(6,.iconst 6,8,none),(8,.if_icmp .ne 17,11,none),(11,.iload 2,12,some 3),(12,.ifCond .ne 17,15,none),(15,.iconst 1,16,none)],[(16,.ireturn,17,none),(17,.iload 1,18,some 3),(18,.iconst 7,20,none),(20,.if_icmp .eq 29,23,none),(23,.iload 1,24,none),(24,.iconst 8,26,none),(26,.if_icmp .ne 36,29,none),(29,.iload 2,30,some 3),(30,.iconst 1,31,none),(31,.if_icmp .ne 36,34,none)],[(34,.iconst 1,35,none),(35,.ireturn,36,none),(36,.iload 1,37,some 3),(37,.iconst 7,39,none),(39,.if_icmp .eq 48,42,none),(42,.iload 1,43,none),(43,.iconst 8,45,none),(45,.if_icmp .ne 54,48,none)],[(48,.iload 2,49,some 3),(49,.ifCond .ne 54,52,none),(52,.iconst 2,53,none),(53,.ireturn,54,none),(54,.iload 1,55,some 3),(55,.iconst 9,57,none),(57,.if_icmp .ne 76,60,none),(60,.iload 2,61,none),(61,.ifCond .eq 74,64,none)],[(64,.iload 2,65,none),(65,.iconst 1,66,none),(66,.if_icmp .eq 74,69,none),(69,.iload 2,70,none),(70,.iconst (-1),71,none),(71,.if_icmp .ne 76,74,none),(74,.iconst 2,75,some 3),(75,.ireturn,76,none),(76,.iconst 0,77,some 3),(77,.ireturn,78,none)]]
def cx_48:List (List Jvm.OM.Ent):=[[(0,.iload 1,1,none),(1,.ifCond .lt 10,4,none),(4,.iload 1,5,none),(5,.iconst 96,7,none),(7,.if_icmp .lt 12,10,none),(10,.iconst 0,11,some 3),(11,.ireturn,12,none),(12,.aload 0,13,none),(13,.getfield 80,16,none)],[(16,.iload 1,17,none),(17,.iaload,18,none),(18,.istore 3,19,none),(19,.iload 3,20,none),(20,.iconst 3,21,none),(21,.if_icmp .ne 34,24,none),(24,.aload 0,25,none),(25,.getfield 83,28,none),(28,.iload 1,29,none),(29,.iaload,30,none),(30,.iconst 7,32,none)],[(32,.iand,33,none),(33,.ireturn,34,none),(34,.aload 0,35,none),(35,.iload 1,36,none),(36,.iload 2,37,none),(37,.invokevirtual 49,40,none),(40,.istore 4,42,none),(42,.iload 3,43,none),(43,.iconst 1,44,none),(44,.if_icmp .ne 65,47,none),(47,.aload 0,48,none)],[(48,.iconst 1,49,none),(49,.iload 4,51,none),(51,.aload 0,52,none),(52,.getfield 83,55,none),(55,.iload 1,56,none),(56,.iaload,57,none),(57,.iconst 0,58,none),(58,.invokevirtual 52,61,none),(61,.pop,62,none),(62,.goto 80,65,none)],[(65,.aload 0,66,none),(66,.iconst 2,67,none),(67,.iload 4,69,none),(69,.aload 0,70,none),(70,.getfield 83,73,none),(73,.iload 1,74,none),(74,.iaload,75,none),(75,.iconst 0,76,none),(76,.invokevirtual 52,79,none),(79,.pop,80,none)],[(80,.aload 0,81,some 5),(81,.getfield 80,84,none),(84,.iload 1,85,none),(85,.iconst 3,86,none),(86,.iastore,87,none),(87,.aload 0,88,none),(88,.getfield 83,91,none),(91,.iload 1,92,none),(92,.iload 4,94,none),(94,.iastore,95,none),(95,.aload 0,96,none)],[(96,.getfield 86,99,none),(99,.iload 4,101,none),(101,.iload 1,102,none),(102,.iastore,103,none),(103,.iload 4,105,none),(105,.ireturn,106,none)]]
def cx_49:List (List Jvm.OM.Ent):=[[(0,.iconst 0,1,none),(1,.istore 3,2,none),(2,.iload 3,3,some 4),(3,.aload 0,4,none),(4,.getfield 0,7,none),(7,.if_icmp .ge 33,10,none),(10,.iload 3,11,none),(11,.iconst 8,13,none),(13,.if_icmp .ge 33,16,none)],[(16,.aload 0,17,none),(17,.getfield 86,20,none),(20,.iload 3,21,none),(21,.iaload,22,none),(22,.ifCond .ge 27,25,none),(25,.iload 3,26,none),(26,.ireturn,27,none),(27,.iinc 3 1,30,none),(30,.goto 2,33,none)],[(33,.iconst (-1),34,some 4),(34,.istore 3,35,none),(35,.iconst 0,36,none),(36,.istore 4,38,none),(38,.iload 4,40,some 5),(40,.aload 0,41,none),(41,.getfield 42,44,none),(44,.if_icmp .ge 89,47,none),(47,.iload 4,49,none)],[(49,.iconst 96,51,none),(51,.if_icmp .ge 89,54,none),(54,.iload 4,56,none),(56,.iload 1,57,none),(57,.if_icmp .eq 83,60,none),(60,.iload 4,62,none),(62,.iload 2,63,none),(63,.if_icmp .eq 83,66,none)],[(66,.aload 0,67,none),(67,.getfield 80,70,none),(70,.iload 4,72,none),(72,.iaload,73,none),(73,.iconst 3,74,none),(74,.if_icmp .ne 83,77,none),(77,.iload 4,79,none),(79,.istore 3,80,none)],[(80,.goto 89,83,none),(83,.iinc 4 1,86,some 5),(86,.goto 38,89,none),(89,.iload 3,90,some 5),(90,.ifCond .ge 95,93,none),(93,.iconst 0,94,none),(94,.ireturn,95,none),(95,.aload 0,96,none)],[(96,.getfield 83,99,none),(99,.iload 3,100,none),(100,.iaload,101,none),(101,.iconst 7,103,none),(103,.iand,104,none),(104,.istore 4,106,none),(106,.aload 0,107,none),(107,.iconst 3,108,none),(108,.iconst 8,110,none),(110,.iload 3,111,none),(111,.iadd,112,none)],[(112,.iload 4,114,none),(114,.iconst 0,115,none),(115,.invokevirtual 52,118,none),(118,.pop,119,none),(119,.aload 0,120,none),(120,.getfield 80,123,none),(123,.iload 3,124,none),(124,.iconst 4,125,none),(125,.iastore,126,none),(126,.aload 0,127,none),(127,.getfield 83,130,none)],[(130,.iload 3,131,none),(131,.iconst 8,133,none),(133,.iload 3,134,none),(134,.iadd,135,none),(135,.iastore,136,none),(136,.aload 0,137,none),(137,.getfield 86,140,none),(140,.iload 4,142,none),(142,.iconst (-1),143,none),(143,.iastore,144,none)],[(144,.iload 4,146,none),(146,.ireturn,147,none)]]
def cx_50:List (List Jvm.OM.Ent):=[[(0,.aload 0,1,none),(1,.getfield 36,4,none),(4,.istore 1,5,none),(5,.iload 1,6,none),(6,.ifCond .lt 15,9,none),(9,.iload 1,10,none),(10,.iconst 32,12,none),(12,.if_icmp .lt 16,15,none),(15,.return_,16,some 2)],[(16,.aload 0,17,none),(17,.getfield 11,20,none),(20,.iload 1,21,none),(21,.iaload,22,none),(22,.istore 2,23,none),(23,.aload 0,24,none),(24,.getfield 42,27,none),(27,.iconst 1,28,none),(28,.if_icmp .lt 77,31,none),(31,.aload 0,32,none)],[(32,.getfield 80,35,none),(35,.iconst 0,36,none),(36,.iaload,37,none),(37,.iconst 1,38,none),(38,.if_icmp .ne 77,41,none),(41,.aload 0,42,none),(42,.iconst 4,43,none),(43,.iload 2,44,none),(44,.aload 0,45,none),(45,.getfield 83,48,none)],[(48,.iconst 0,49,none),(49,.iaload,50,none),(50,.iconst 0,51,none),(51,.invokevirtual 52,54,none),(54,.pop,55,none),(55,.aload 0,56,none),(56,.getfield 38,59,none),(59,.iload 1,60,none),(60,.iconst 2,61,none),(61,.iastore,62,none),(62,.aload 0,63,none),(63,.getfield 41,66,none)],[(66,.iload 1,67,none),(67,.aload 0,68,none),(68,.getfield 83,71,none),(71,.iconst 0,72,none),(72,.iaload,73,none),(73,.iastore,74,none),(74,.goto 115,77,none),(77,.aload 0,78,some 3),(78,.getfield 42,81,none)],[(81,.iconst 1,82,none),(82,.if_icmp .lt 115,85,none),(85,.aload 0,86,none),(86,.iconst 0,87,none),(87,.iconst (-1),88,none),(88,.invokevirtual 48,91,none),(91,.istore 3,92,none),(92,.aload 0,93,none),(93,.iconst 3,94,none),(94,.iload 2,95,none),(95,.iload 3,96,none)],[(96,.iconst 0,97,none),(97,.invokevirtual 52,100,none),(100,.pop,101,none),(101,.aload 0,102,none),(102,.getfield 38,105,none),(105,.iload 1,106,none),(106,.iconst 3,107,none),(107,.iastore,108,none),(108,.aload 0,109,none),(109,.getfield 41,112,none)],[(112,.iload 1,113,none),(113,.iload 3,114,none),(114,.iastore,115,none),(115,.aload 0,116,some 3),(116,.getfield 29,119,none),(119,.iload 1,120,none),(120,.aload 0,121,none),(121,.iconst 8,123,none),(123,.iconst 0,124,none),(124,.iconst (-2),126,none),(126,.iconst 0,127,none),(127,.invokevirtual 52,130,none)],[(130,.iastore,131,none),(131,.return_,132,none)]]
def cx_51:List (List Jvm.OM.Ent):=[[(0,.aload 0,1,none),(1,.getfield 36,4,none),(4,.istore 1,5,none),(5,.iload 1,6,none),(6,.ifCond .lt 15,9,none),(9,.iload 1,10,none),(10,.iconst 32,12,none),(12,.if_icmp .lt 16,15,none),(15,.return_,16,some 2)],[(16,.aload 0,17,none),(17,.getfield 42,20,none),(20,.iconst 1,21,none),(21,.if_icmp .lt 34,24,none),(24,.aload 0,25,none),(25,.getfield 80,28,none),(28,.iconst 0,29,none),(29,.iaload,30,none),(30,.iconst 1,31,none),(31,.if_icmp .ne 73,34,none)],[(34,.iconst 0,35,some 2),(35,.istore 2,36,none),(36,.aload 0,37,none),(37,.getfield 42,40,none),(40,.iconst 1,41,none),(41,.if_icmp .lt 55,44,none),(44,.aload 0,45,none),(45,.getfield 83,48,none)],[(48,.iconst 0,49,none),(49,.iaload,50,none),(50,.ifCond .eq 55,53,none),(53,.iconst 1,54,none),(54,.istore 2,55,none),(55,.aload 0,56,some 3),(56,.getfield 29,59,none),(59,.iload 1,60,none),(60,.aload 0,61,none),(61,.iconst 10,63,none),(63,.iload 2,64,none)],[(64,.iconst (-2),66,none),(66,.iconst (-2),68,none),(68,.invokevirtual 52,71,none),(71,.iastore,72,none),(72,.return_,73,none),(73,.aload 0,74,none),(74,.iconst 0,75,none),(75,.iconst (-1),76,none),(76,.invokevirtual 48,79,none),(79,.istore 2,80,none)],[(80,.aload 0,81,none),(81,.getfield 29,84,none),(84,.iload 1,85,none),(85,.aload 0,86,none),(86,.iconst 9,88,none),(88,.iload 2,89,none),(89,.iconst (-2),91,none),(91,.iconst (-2),93,none),(93,.invokevirtual 52,96,none)],[(96,.iastore,97,none),(97,.return_,98,none)]]
def cx_52:List (List Jvm.OM.Ent):=[[(0,.aload 0,1,none),(1,.getfield 18,4,none),(4,.ifCond .lt 17,7,none),(7,.aload 0,8,none),(8,.getfield 18,11,none),(11,.iconst 1024,14,none),(14,.if_icmp .lt 19,17,none)],[(17,.iconst (-1),18,some 5),(18,.ireturn,19,none),(19,.aload 0,20,none),(20,.getfield 18,23,none),(23,.istore 5,25,none),(25,.aload 0,26,none),(26,.getfield 56,29,none),(29,.iload 5,31,none),(31,.iload 1,32,none)],[(32,.iastore,33,none),(33,.aload 0,34,none),(34,.getfield 59,37,none),(37,.iload 5,39,none),(39,.iload 2,40,none),(40,.iastore,41,none),(41,.aload 0,42,none),(42,.getfield 62,45,none),(45,.iload 5,47,none),(47,.iload 3,48,none)],[(48,.iastore,49,none),(49,.aload 0,50,none),(50,.getfield 65,53,none),(53,.iload 5,55,none),(55,.iload 4,57,none),(57,.iastore,58,none),(58,.aload 0,59,none),(59,.dup,60,none),(60,.getfield 18,63,none),(63,.iconst 1,64,none)],[(64,.iadd,65,none),(65,.putfield 18,68,none),(68,.iload 5,70,none),(70,.ireturn,71,none)]]
def cx_53:List (List Jvm.OM.Ent):=[[(0,.aload 0,1,none),(1,.aload 0,2,none),(2,.getfield 77,5,none),(5,.iconst 0,6,none),(6,.iaload,7,none),(7,.putfield 15,10,none),(10,.iconst 0,11,none),(11,.istore 1,12,none),(12,.iload 1,13,some 2),(13,.aload 0,14,none),(14,.getfield 12,17,none)],[(17,.if_icmp .ge 43,20,none),(20,.iload 1,21,none),(21,.iconst 32,23,none),(23,.if_icmp .ge 43,26,none),(26,.aload 0,27,none),(27,.getfield 32,30,none),(30,.iload 1,31,none),(31,.aload 0,32,none)],[(32,.iload 1,33,none),(33,.invokevirtual 54,36,none),(36,.iastore,37,none),(37,.iinc 1 1,40,none),(40,.goto 12,43,none),(43,.iconst 0,44,some 2),(44,.istore 1,45,none),(45,.iload 1,46,some 2),(46,.aload 0,47,none),(47,.getfield 12,50,none)],[(50,.if_icmp .ge 70,53,none),(53,.iload 1,54,none),(54,.iconst 32,56,none),(56,.if_icmp .ge 70,59,none),(59,.aload 0,60,none),(60,.iload 1,61,none),(61,.invokevirtual 55,64,none)],[(64,.iinc 1 1,67,none),(67,.goto 45,70,none),(70,.aload 0,71,some 2),(71,.invokevirtual 57,74,none),(74,.aload 0,75,none),(75,.invokevirtual 58,78,none),(78,.return_,79,none)]]
def cx_54:List (List Jvm.OM.Ent):=[[(0,.iload 1,1,none),(1,.istore 2,2,none),(2,.iconst 0,3,none),(3,.istore 3,4,none),(4,.iload 3,5,some 4),(5,.iconst 32,7,none),(7,.if_icmp .gt 94,10,none),(10,.iload 2,11,none),(11,.ifCond .lt 28,14,none),(14,.iload 2,15,none),(15,.aload 0,16,none)],[(16,.getfield 12,19,none),(19,.if_icmp .ge 28,22,none),(22,.iload 2,23,none),(23,.iconst 32,25,none),(25,.if_icmp .lt 31,28,none),(28,.iconst (-2),30,some 4),(30,.ireturn,31,none),(31,.aload 0,32,none)],[(32,.getfield 20,35,none),(35,.iload 2,36,none),(36,.iaload,37,none),(37,.ifCond .lt 47,40,none),(40,.aload 0,41,none),(41,.getfield 20,44,none),(44,.iload 2,45,none),(45,.iaload,46,none),(46,.ireturn,47,none),(47,.aload 0,48,none)],[(48,.getfield 14,51,none),(51,.iload 2,52,none),(52,.iaload,53,none),(53,.istore 4,55,none),(55,.iload 4,57,none),(57,.ifCond .lt 67,60,none),(60,.iload 4,62,none),(62,.iconst 32,64,none)],[(64,.if_icmp .lt 70,67,none),(67,.iconst (-2),69,some 5),(69,.ireturn,70,none),(70,.aload 0,71,none),(71,.getfield 8,74,none),(74,.iload 4,76,none),(76,.iaload,77,none),(77,.iconst 16,79,none),(79,.if_icmp .ne 85,82,none)],[(82,.iload 4,84,none),(84,.ireturn,85,none),(85,.iload 4,87,none),(87,.istore 2,88,none),(88,.iinc 3 1,91,none),(91,.goto 4,94,none),(94,.iconst (-2),96,none)],[(96,.ireturn,97,none)]]
def cx_55:List (List Jvm.OM.Ent):=[[(0,.aload 0,1,none),(1,.getfield 29,4,none),(4,.iload 1,5,none),(5,.iaload,6,none),(6,.istore 2,7,none),(7,.iload 2,8,none),(8,.ifCond .lt 26,11,none),(11,.iload 2,12,none),(12,.aload 0,13,none),(13,.getfield 18,16,none)],[(16,.if_icmp .ge 26,19,none),(19,.iload 2,20,none),(20,.iconst 1024,23,none),(23,.if_icmp .lt 27,26,none),(26,.return_,27,some 3),(27,.aload 0,28,none),(28,.getfield 32,31,none),(31,.iload 1,32,none)],[(32,.iaload,33,none),(33,.istore 3,34,none),(34,.aload 0,35,none),(35,.getfield 8,38,none),(38,.iload 1,39,none),(39,.iaload,40,none),(40,.iconst 2,41,none),(41,.if_icmp .ne 52,44,none),(44,.aload 0,45,none),(45,.getfield 62,48,none)],[(48,.iload 2,49,none),(49,.iload 3,50,none),(50,.iastore,51,none),(51,.return_,52,none),(52,.aload 0,53,none),(53,.getfield 23,56,none),(56,.iload 1,57,none),(57,.iaload,58,none),(58,.istore 4,60,none),(60,.iload 4,62,none),(62,.ifCond .ge 85,65,none)],[(65,.aload 0,66,none),(66,.getfield 8,69,none),(69,.iload 1,70,none),(70,.iaload,71,none),(71,.iconst 16,73,none),(73,.if_icmp .ne 82,76,none),(76,.iload 1,77,none),(77,.istore 4,79,none),(79,.goto 85,82,none)],[(82,.iload 3,83,none),(83,.istore 4,85,none),(85,.aload 0,86,some 5),(86,.getfield 62,89,none),(89,.iload 2,90,none),(90,.iload 4,92,none),(92,.iastore,93,none),(93,.aload 0,94,none),(94,.getfield 65,97,none)],[(97,.iload 2,98,none),(98,.iload 3,99,none),(99,.iastore,100,none),(100,.return_,101,none)]]
def cx_56:List (List Jvm.OM.Ent):=[[(0,.iload 1,1,none),(1,.ifCond .lt 20,4,none),(4,.iload 1,5,none),(5,.iconst 32,7,none),(7,.if_icmp .ge 20,10,none),(10,.aload 0,11,none),(11,.getfield 8,14,none),(14,.iload 1,15,none),(15,.iaload,16,none)],[(16,.iconst 2,17,none),(17,.if_icmp .eq 22,20,none),(20,.iconst 0,21,some 2),(21,.ireturn,22,none),(22,.iconst 1,23,none),(23,.aload 0,24,none),(24,.getfield 11,27,none),(27,.iload 1,28,none),(28,.iaload,29,none),(29,.iconst 7,31,none),(31,.iand,32,none)],[(32,.ishl,33,none),(33,.ireturn,34,none)]]
def cx_57:List (List Jvm.OM.Ent):=[[(0,.aload 0,1,none),(1,.getfield 12,4,none),(4,.iconst 1,5,none),(5,.isub,6,none),(6,.istore 1,7,none),(7,.iload 1,8,some 2),(8,.ifCond .lt 80,11,none),(11,.iload 1,12,none),(12,.iconst 32,14,none),(14,.if_icmp .lt 20,17,none)],[(17,.goto 74,20,none),(20,.aload 0,21,none),(21,.getfield 35,24,none),(24,.iload 1,25,none),(25,.aload 0,26,none),(26,.getfield 35,29,none),(29,.iload 1,30,none),(30,.iaload,31,none),(31,.aload 0,32,none)],[(32,.iload 1,33,none),(33,.invokevirtual 56,36,none),(36,.ior,37,none),(37,.iastore,38,none),(38,.aload 0,39,none),(39,.getfield 14,42,none),(42,.iload 1,43,none),(43,.iaload,44,none),(44,.istore 2,45,none),(45,.iload 2,46,none),(46,.ifCond .lt 74,49,none)],[(49,.iload 2,50,none),(50,.iconst 32,52,none),(52,.if_icmp .ge 74,55,none),(55,.aload 0,56,none),(56,.getfield 35,59,none),(59,.iload 2,60,none),(60,.aload 0,61,none),(61,.getfield 35,64,none)],[(64,.iload 2,65,none),(65,.iaload,66,none),(66,.aload 0,67,none),(67,.getfield 35,70,none),(70,.iload 1,71,none),(71,.iaload,72,none),(72,.ior,73,none),(73,.iastore,74,none),(74,.iinc 1 (-1),77,some 2),(77,.goto 7,80,none)],[(80,.return_,81,none)]]
def cx_58:List (List Jvm.OM.Ent):=[[(0,.iconst 0,1,none),(1,.istore 1,2,none),(2,.iload 1,3,some 2),(3,.aload 0,4,none),(4,.getfield 12,7,none),(7,.if_icmp .ge 99,10,none),(10,.iload 1,11,none),(11,.iconst 32,13,none),(13,.if_icmp .ge 99,16,none)],[(16,.aload 0,17,none),(17,.getfield 17,20,none),(20,.iload 1,21,none),(21,.iaload,22,none),(22,.istore 2,23,none),(23,.aload 0,24,none),(24,.getfield 14,27,none),(27,.iload 1,28,none),(28,.iaload,29,none),(29,.istore 3,30,none),(30,.iload 2,31,none),(31,.ifCond .lt 61,34,none)],[(34,.iload 2,35,none),(35,.iconst 32,37,none),(37,.if_icmp .ge 61,40,none),(40,.aload 0,41,none),(41,.getfield 44,44,none),(44,.iload 1,45,none),(45,.aload 0,46,none),(46,.getfield 44,49,none)],[(49,.iload 2,50,none),(50,.iaload,51,none),(51,.aload 0,52,none),(52,.iload 2,53,none),(53,.invokevirtual 56,56,none),(56,.ior,57,none),(57,.iastore,58,none),(58,.goto 93,61,none),(61,.iload 3,62,some 4),(62,.ifCond .lt 86,65,none)],[(65,.iload 3,66,none),(66,.iconst 32,68,none),(68,.if_icmp .ge 86,71,none),(71,.aload 0,72,none),(72,.getfield 44,75,none),(75,.iload 1,76,none),(76,.aload 0,77,none),(77,.getfield 44,80,none)],[(80,.iload 3,81,none),(81,.iaload,82,none),(82,.iastore,83,none),(83,.goto 93,86,none),(86,.aload 0,87,some 4),(87,.getfield 44,90,none),(90,.iload 1,91,none),(91,.iconst 0,92,none),(92,.iastore,93,none),(93,.iinc 1 1,96,some 4)],[(96,.goto 2,99,none),(99,.iconst 0,100,some 2),(100,.istore 1,101,none),(101,.aload 0,102,none),(102,.getfield 15,105,none),(105,.ifCond .lt 136,108,none),(108,.aload 0,109,none),(109,.getfield 15,112,none)],[(112,.iconst 32,114,none),(114,.if_icmp .ge 136,117,none),(117,.aload 0,118,none),(118,.getfield 44,121,none),(121,.aload 0,122,none),(122,.getfield 15,125,none),(125,.iaload,126,none),(126,.aload 0,127,none),(127,.aload 0,128,none)],[(128,.getfield 15,131,none),(131,.invokevirtual 56,134,none),(134,.ior,135,none),(135,.istore 1,136,none),(136,.aload 0,137,some 2),(137,.getfield 12,140,none),(140,.ifCond .lt 162,143,none),(143,.aload 0,144,none)],[(144,.getfield 12,147,none),(147,.iconst 40,149,none),(149,.if_icmp .ge 162,152,none),(152,.aload 0,153,none),(153,.getfield 44,156,none),(156,.aload 0,157,none),(157,.getfield 12,160,none)],[(160,.iload 1,161,none),(161,.iastore,162,none),(162,.return_,163,some 2)]]
def cx_59:List (List Jvm.OM.Ent):=[[(0,.iconst 0,1,none),(1,.istore 1,2,none),(2,.iload 1,3,some 2),(3,.aload 0,4,none),(4,.getfield 12,7,none),(7,.if_icmp .gt 42,10,none),(10,.iload 1,11,none),(11,.iconst 40,13,none),(13,.if_icmp .ge 42,16,none)],[(16,.iconst 0,17,none),(17,.istore 2,18,none),(18,.iload 2,19,some 3),(19,.iconst 8,21,none),(21,.if_icmp .ge 36,24,none),(24,.aload 0,25,none),(25,.iload 1,26,none),(26,.iload 2,27,none),(27,.invokevirtual 60,30,none),(30,.iinc 2 1,33,none)],[(33,.goto 18,36,none),(36,.iinc 1 1,39,none),(39,.goto 2,42,none),(42,.return_,43,some 2)]]
def cx_60:List (List Jvm.OM.Ent):=[[(0,.iload 1,1,none),(1,.iconst 8,3,none),(3,.imul,4,none),(4,.iload 2,5,none),(5,.iadd,6,none),(6,.istore 3,7,none),(7,.iload 3,8,none),(8,.ifCond .lt 24,11,none),(11,.iload 3,12,none),(12,.iconst 320,15,none),(15,.if_icmp .ge 24,18,none)],[(18,.iload 1,19,none),(19,.iconst 40,21,none),(21,.if_icmp .lt 25,24,none),(24,.return_,25,some 4),(25,.aload 0,26,none),(26,.getfield 50,29,none),(29,.iload 3,30,none),(30,.iconst 0,31,none),(31,.iastore,32,none)],[(32,.aload 0,33,none),(33,.getfield 53,36,none),(36,.iload 3,37,none),(37,.iconst 0,38,none),(38,.iastore,39,none),(39,.aload 0,40,none),(40,.getfield 44,43,none),(43,.iload 1,44,none),(44,.iaload,45,none),(45,.iload 2,46,none),(46,.ishr,47,none),(47,.iconst 1,48,none)],[(48,.iand,49,none),(49,.ifCond .ne 53,52,none),(52,.return_,53,none),(53,.aload 0,54,none),(54,.getfield 50,57,none),(57,.iload 3,58,none),(58,.iconst 1,59,none),(59,.iastore,60,none),(60,.aload 0,61,none),(61,.getfield 53,64,none)],[(64,.iload 3,65,none),(65,.iload 2,66,none),(66,.iastore,67,none),(67,.iload 1,68,none),(68,.aload 0,69,none),(69,.getfield 12,72,none),(72,.if_icmp .ge 96,75,none),(75,.iload 1,76,none),(76,.iconst 32,78,none),(78,.if_icmp .ge 96,81,none)],[(81,.aload 0,82,none),(82,.getfield 8,85,none),(85,.iload 1,86,none),(86,.iaload,87,none),(87,.iconst 16,89,none),(89,.if_icmp .ne 96,92,none),(92,.iconst 1,93,none),(93,.goto 97,96,none)],[(96,.iconst 0,97,some 4),(97,.istore 4,99,some 4),(99,.iload 4,101,none),(101,.ifCond .eq 118,104,none),(104,.aload 0,105,none),(105,.getfield 35,108,none),(108,.iload 1,109,none),(109,.iaload,110,none),(110,.iload 2,111,none),(111,.ishr,112,none)],[(112,.iconst 1,113,none),(113,.iand,114,none),(114,.ifCond .eq 118,117,none),(117,.return_,118,none),(118,.aload 0,119,some 5),(119,.getfield 15,122,none),(122,.istore 5,124,none),(124,.iload 1,125,none),(125,.aload 0,126,none),(126,.getfield 12,129,none)],[(129,.if_icmp .ge 146,132,none),(132,.iload 1,133,none),(133,.iconst 32,135,none),(135,.if_icmp .ge 146,138,none),(138,.aload 0,139,none),(139,.getfield 17,142,none),(142,.iload 1,143,none),(143,.iaload,144,none)],[(144,.istore 5,146,none),(146,.iconst 1,147,some 6),(147,.istore 6,149,none),(149,.iconst 0,150,none),(150,.istore 7,152,none),(152,.iload 7,154,some 8),(154,.iconst 32,156,none),(156,.if_icmp .gt 258,159,none),(159,.iload 5,161,none)],[(161,.ifCond .lt 258,164,none),(164,.iload 5,166,none),(166,.aload 0,167,none),(167,.getfield 12,170,none),(170,.if_icmp .ge 258,173,none),(173,.iload 5,175,none),(175,.iconst 32,177,none)],[(177,.if_icmp .ge 258,180,none),(180,.aload 0,181,none),(181,.getfield 8,184,none),(184,.iload 5,186,none),(186,.iaload,187,none),(187,.iconst 2,188,none),(188,.if_icmp .ne 225,191,none),(191,.aload 0,192,none)],[(192,.getfield 11,195,none),(195,.iload 5,197,none),(197,.iaload,198,none),(198,.iload 2,199,none),(199,.if_icmp .ne 225,202,none),(202,.aload 0,203,none),(203,.iload 3,204,none),(204,.iload 5,206,none),(206,.iload 6,208,none)],[(208,.ifCond .eq 220,211,none),(211,.iload 4,213,none),(213,.ifCond .ne 220,216,none),(216,.iconst 1,217,none),(217,.goto 221,220,none),(220,.iconst 0,221,some 8)],[(225,.aload 0,226,some 8),(226,.getfield 35,229,none),(229,.iload 5,231,none),(231,.iaload,232,none),(232,.iload 2,233,none),(233,.ishr,234,none),(234,.iconst 1,235,none),(235,.iand,236,none),(236,.ifCond .eq 240,239,none),(239,.return_,240,none)],[(240,.iconst 0,241,none),(241,.istore 6,243,none),(243,.aload 0,244,none),(244,.getfield 17,247,none),(247,.iload 5,249,none),(249,.iaload,250,none),(250,.istore 5,252,none),(252,.iinc 7 1,255,none),(255,.goto 152,258,none)],[(258,.return_,259,some 8)]]
def cx_63:List (List Jvm.OM.Ent):=[[(0,.aload 0,1,none),(1,.aload 0,2,none),(2,.getfield 21,5,none),(5,.invokevirtual 64,8,none),(8,.istore 1,9,none),(9,.aload 0,10,none),(10,.iload 1,11,none),(11,.putfield 21,14,none),(14,.aload 0,15,none),(15,.dup,16,none)],[(16,.getfield 24,19,none),(19,.iconst 1,20,none),(20,.iadd,21,none),(21,.putfield 24,24,none),(24,.return_,25,none)]]
def cx_64:List (List Jvm.OM.Ent):=[[(0,.iload 1,1,none),(1,.ifCond .lt 18,4,none),(4,.iload 1,5,none),(5,.aload 0,6,none),(6,.getfield 12,9,none),(9,.if_icmp .ge 18,12,none),(12,.iload 1,13,none),(13,.iconst 32,15,none),(15,.if_icmp .lt 21,18,none)],[(18,.iconst (-2),20,some 2),(20,.ireturn,21,none),(21,.aload 0,22,none),(22,.getfield 26,25,none),(25,.iload 1,26,none),(26,.iaload,27,none),(27,.istore 2,28,none),(28,.iconst 0,29,none),(29,.istore 3,30,none),(30,.iload 3,31,some 4),(31,.iconst 1024,34,none)],[(34,.if_icmp .ge 163,37,none),(37,.iload 2,38,none),(38,.ifCond .lt 56,41,none),(41,.iload 2,42,none),(42,.aload 0,43,none),(43,.getfield 18,46,none),(46,.if_icmp .ge 56,49,none)],[(49,.iload 2,50,none),(50,.iconst 1024,53,none),(53,.if_icmp .lt 59,56,none),(56,.iconst (-2),58,some 4),(58,.ireturn,59,none),(59,.aload 0,60,none),(60,.getfield 56,63,none),(63,.iload 2,64,none)],[(64,.iaload,65,none),(65,.istore 4,67,none),(67,.iload 4,69,none),(69,.iconst 8,71,none),(71,.if_icmp .ne 81,74,none),(74,.aload 0,75,none),(75,.getfield 62,78,none),(78,.iload 2,79,none),(79,.iaload,80,none)],[(80,.ireturn,81,none),(81,.iload 4,83,none),(83,.iconst 9,85,none),(85,.if_icmp .ne 119,88,none),(88,.aload 0,89,none),(89,.getfield 71,92,none),(92,.aload 0,93,none),(93,.getfield 59,96,none)],[(96,.iload 2,97,none),(97,.iaload,98,none),(98,.iconst 7,100,none),(100,.iand,101,none),(101,.iaload,102,none),(102,.ifCond .eq 112,105,none),(105,.aload 0,106,none),(106,.getfield 62,109,none),(109,.iload 2,110,none),(110,.iaload,111,none),(111,.ireturn,112,none)],[(112,.aload 0,113,none),(113,.getfield 65,116,none),(116,.iload 2,117,none),(117,.iaload,118,none),(118,.ireturn,119,none),(119,.iload 4,121,none),(121,.iconst 10,123,none),(123,.if_icmp .ne 149,126,none),(126,.aload 0,127,none),(127,.getfield 59,130,none)],[(130,.iload 2,131,none),(131,.iaload,132,none),(132,.ifCond .eq 142,135,none),(135,.aload 0,136,none),(136,.getfield 62,139,none),(139,.iload 2,140,none),(140,.iaload,141,none),(141,.ireturn,142,none),(142,.aload 0,143,none),(143,.getfield 65,146,none)],[(146,.iload 2,147,none),(147,.iaload,148,none),(148,.ireturn,149,none),(149,.aload 0,150,none),(150,.iload 2,151,none),(151,.invokevirtual 65,154,none),(154,.iinc 2 1,157,none),(157,.iinc 3 1,160,none)],[(160,.goto 30,163,none),(163,.iconst (-2),165,none),(165,.ireturn,166,none)]]
def cx_65:List (List Jvm.OM.Ent):=[[(0,.aload 0,1,none),(1,.getfield 56,4,none),(4,.iload 1,5,none),(5,.iaload,6,none),(6,.istore 2,7,none),(7,.aload 0,8,none),(8,.getfield 59,11,none),(11,.iload 1,12,none),(12,.iaload,13,none),(13,.istore 3,14,none),(14,.aload 0,15,none),(15,.getfield 62,18,none)],[(18,.iload 1,19,none),(19,.iaload,20,none),(20,.istore 4,22,none),(22,.aload 0,23,none),(23,.getfield 65,26,none),(26,.iload 1,27,none),(27,.iaload,28,none),(28,.istore 5,30,none),(30,.iload 2,31,none),(31,.iconst 1,32,none)],[(32,.if_icmp .ne 49,35,none),(35,.aload 0,36,none),(36,.getfield 71,39,none),(39,.iload 3,40,none),(40,.iconst 7,42,none),(42,.iand,43,none),(43,.iload 4,45,none),(45,.iastore,46,none),(46,.goto 225,49,none)],[(49,.iload 2,50,none),(50,.iconst 2,51,none),(51,.if_icmp .ne 72,54,none),(54,.aload 0,55,none),(55,.getfield 71,58,none),(58,.iload 3,59,none),(59,.iconst 7,61,none),(61,.iand,62,none),(62,.aload 0,63,none),(63,.iload 4,65,none)],[(65,.invokevirtual 66,68,none),(68,.iastore,69,none),(69,.goto 225,72,none),(72,.iload 2,73,none),(73,.iconst 3,74,none),(74,.if_icmp .ne 95,77,none),(77,.aload 0,78,none),(78,.iload 3,79,none),(79,.aload 0,80,none)],[(80,.getfield 71,83,none),(83,.iload 4,85,none),(85,.iconst 7,87,none),(87,.iand,88,none),(88,.iaload,89,none),(89,.invokevirtual 67,92,none),(92,.goto 225,95,none),(95,.iload 2,96,none)],[(96,.iconst 4,97,none),(97,.if_icmp .ne 110,100,none),(100,.aload 0,101,none),(101,.iload 3,102,none),(102,.iload 4,104,none),(104,.invokevirtual 67,107,none),(107,.goto 225,110,none),(110,.iload 2,111,none),(111,.iconst 5,112,none)],[(112,.if_icmp .ne 160,115,none),(115,.aload 0,116,none),(116,.getfield 71,119,none),(119,.iload 3,120,none),(120,.iconst 7,122,none),(122,.iand,123,none),(123,.iaload,124,none),(124,.istore 6,126,none),(126,.aload 0,127,none),(127,.getfield 71,130,none)],[(130,.iload 4,132,none),(132,.iconst 7,134,none),(134,.iand,135,none),(135,.iaload,136,none),(136,.istore 7,138,none),(138,.aload 0,139,none),(139,.getfield 71,142,none),(142,.iload 3,143,none),(143,.iconst 7,145,none)],[(145,.iand,146,none),(146,.aload 0,147,none),(147,.iload 5,149,none),(149,.iload 6,151,none),(151,.iload 7,153,none),(153,.invokevirtual 68,156,none),(156,.iastore,157,none),(157,.goto 225,160,none)],[(160,.iload 2,161,none),(161,.iconst 6,163,none),(163,.if_icmp .ne 199,166,none),(166,.aload 0,167,none),(167,.getfield 71,170,none),(170,.iload 3,171,none),(171,.iconst 7,173,none),(173,.iand,174,none),(174,.iaload,175,none),(175,.istore 6,177,none)],[(177,.aload 0,178,none),(178,.getfield 71,181,none),(181,.iload 3,182,none),(182,.iconst 7,184,none),(184,.iand,185,none),(185,.aload 0,186,none),(186,.iload 5,188,none),(188,.iload 6,190,none),(190,.iload 4,192,none)],[(192,.invokevirtual 68,195,none),(195,.iastore,196,none),(196,.goto 225,199,none),(199,.iload 2,200,none),(200,.iconst 7,202,none),(202,.if_icmp .ne 225,205,none),(205,.aload 0,206,none),(206,.getfield 71,209,none)],[(209,.iload 3,210,none),(210,.iconst 7,212,none),(212,.iand,213,none),(213,.iconst 0,214,none),(214,.aload 0,215,none),(215,.getfield 71,218,none),(218,.iload 3,219,none),(219,.iconst 7,221,none),(221,.iand,222,none),(222,.iaload,223,none),(223,.isub,224,none)],[(224,.iastore,225,none),(225,.return_,226,some 6)]]
def cx_66:List (List Jvm.OM.Ent):=[[(0,.iload 1,1,none),(1,.ifCond .lt 11,4,none),(4,.iload 1,5,none),(5,.iconst 128,8,none),(8,.if_icmp .lt 13,11,none),(11,.iconst 0,12,some 2),(12,.ireturn,13,none),(13,.aload 0,14,none),(14,.getfield 68,17,none)],[(17,.iload 1,18,none),(18,.iaload,19,none),(19,.ireturn,20,none)]]
def cx_67:List (List Jvm.OM.Ent):=[[(0,.iload 1,1,none),(1,.ifCond .lt 11,4,none),(4,.iload 1,5,none),(5,.iconst 128,8,none),(8,.if_icmp .lt 12,11,none),(11,.return_,12,some 3),(12,.aload 0,13,none),(13,.getfield 68,16,none)],[(16,.iload 1,17,none),(17,.iload 2,18,none),(18,.iastore,19,none),(19,.iload 1,20,none),(20,.iconst 8,22,none),(22,.if_icmp .ge 35,25,none),(25,.aload 0,26,none),(26,.iload 1,27,none),(27,.putfield 27,30,none),(30,.aload 0,31,none),(31,.iload 2,32,none)],[(32,.putfield 30,35,none),(35,.return_,36,some 3)]]
def cx_68:List (List Jvm.OM.Ent):=[[(0,.iload 1,1,none),(1,.iconst 5,2,none),(2,.if_icmp .ne 9,5,none),(5,.iload 2,6,none),(6,.iload 3,7,none),(7,.iadd,8,none),(8,.ireturn,9,none),(9,.iload 1,10,none),(10,.iconst 6,12,none),(12,.if_icmp .ne 19,15,none),(15,.iload 2,16,none)],[(16,.iload 3,17,none),(17,.isub,18,none),(18,.ireturn,19,none),(19,.iload 1,20,none),(20,.iconst 7,22,none),(22,.if_icmp .ne 29,25,none),(25,.iload 2,26,none),(26,.iload 3,27,none),(27,.imul,28,none),(28,.ireturn,29,none),(29,.iload 1,30,none),(30,.iconst 8,32,none)],[(32,.if_icmp .ne 45,35,none),(35,.iload 3,36,none),(36,.ifCond .ne 41,39,none),(39,.iconst 0,40,none),(40,.ireturn,41,none),(41,.iload 2,42,none),(42,.iload 3,43,none),(43,.idiv,44,none),(44,.ireturn,45,none),(45,.iload 1,46,none),(46,.iconst 9,48,none)],[(48,.if_icmp .ne 61,51,none),(51,.iload 3,52,none),(52,.ifCond .ne 57,55,none),(55,.iconst 0,56,none),(56,.ireturn,57,none),(57,.iload 2,58,none),(58,.iload 3,59,none),(59,.irem,60,none),(60,.ireturn,61,none),(61,.iload 1,62,none),(62,.iconst 10,64,none)],[(64,.if_icmp .ne 78,67,none),(67,.iload 2,68,none),(68,.iload 3,69,none),(69,.if_icmp .ge 76,72,none),(72,.iconst 1,73,none),(73,.goto 77,76,none),(76,.iconst 0,77,none),(77,.ireturn,78,some 4),(78,.iload 1,79,none),(79,.iconst 11,81,none)],[(81,.if_icmp .ne 95,84,none),(84,.iload 2,85,none),(85,.iload 3,86,none),(86,.if_icmp .ne 93,89,none),(89,.iconst 1,90,none),(90,.goto 94,93,none),(93,.iconst 0,94,none),(94,.ireturn,95,some 4),(95,.iconst 0,96,none)],[(96,.ireturn,97,none)]]
def me_0:Jvm.OM.Mth:=(⟨"LocListDebug","<init>","(I)V"⟩,prog_1_method_1_code,3,2,25,none,1,0,false,cx_0.flatten)
def me_1:Jvm.OM.Mth:=(⟨"LocListDebug","addToken","(II)Z"⟩,prog_1_method_2_code,3,0,0,(some .boolean),2,0,false,cx_1.flatten)
def me_2:Jvm.OM.Mth:=(⟨"LocListDebug","tokenCount","()I"⟩,prog_1_method_3_code,1,0,0,(some .int),0,0,false,cx_2.flatten)
def me_3:Jvm.OM.Mth:=(⟨"LocListDebug","reset","()V"⟩,prog_1_method_4_code,1,2,25,none,0,0,false,cx_3.flatten)
def me_4:Jvm.OM.Mth:=(⟨"LocListDebug","compile","()I"⟩,prog_1_method_5_code,2,10,152,(some .int),0,0,false,cx_4.flatten)
def me_7:Jvm.OM.Mth:=(⟨"LocListDebug","setBreak","(IZ)Z"⟩,prog_1_method_8_code,3,0,0,(some .boolean),2,0,false,cx_7.flatten)
def me_8:Jvm.OM.Mth:=(⟨"LocListDebug","step","()I"⟩,prog_1_method_9_code,1,4,65,(some .int),0,0,false,cx_8.flatten)
def me_9:Jvm.OM.Mth:=(⟨"LocListDebug","run","(I)I"⟩,prog_1_method_10_code,4,4,65,(some .int),1,0,false,cx_9.flatten)
def me_10:Jvm.OM.Mth:=(⟨"LocListDebug","restart","()Z"⟩,prog_1_method_11_code,1,1,13,(some .boolean),0,0,false,cx_10.flatten)
def me_11:Jvm.OM.Mth:=(⟨"LocListDebug","where","()I"⟩,prog_1_method_12_code,1,0,0,(some .int),0,0,false,cx_11.flatten)
def me_12:Jvm.OM.Mth:=(⟨"LocListDebug","stepsTaken","()I"⟩,prog_1_method_13_code,1,0,0,(some .int),0,0,false,cx_12.flatten)
def me_13:Jvm.OM.Mth:=(⟨"LocListDebug","isAvailable","(I)Z"⟩,prog_1_method_14_code,3,1,12,(some .boolean),1,0,false,cx_13.flatten)
def me_14:Jvm.OM.Mth:=(⟨"LocListDebug","value","(I)I"⟩,prog_1_method_15_code,3,2,26,(some .int),1,0,false,cx_14.flatten)
def me_15:Jvm.OM.Mth:=(⟨"LocListDebug","lastVar","()I"⟩,prog_1_method_16_code,1,0,0,(some .int),0,0,false,cx_15.flatten)
def me_16:Jvm.OM.Mth:=(⟨"LocListDebug","lastValue","()I"⟩,prog_1_method_17_code,1,0,0,(some .int),0,0,false,cx_16.flatten)
def me_17:Jvm.OM.Mth:=(⟨"LocListDebug","clearAll","()V"⟩,prog_1_method_18_code,1,1,13,none,0,0,true,cx_17.flatten)
def me_18:Jvm.OM.Mth:=(⟨"LocListDebug","clearBreaks","()V"⟩,prog_1_method_19_code,2,0,0,none,0,0,true,cx_18.flatten)
def me_19:Jvm.OM.Mth:=(⟨"LocListDebug","restartMachine","()V"⟩,prog_1_method_20_code,2,0,0,none,0,0,true,cx_19.flatten)
def me_20:Jvm.OM.Mth:=(⟨"LocListDebug","breakAt","(I)Z"⟩,prog_1_method_21_code,2,0,0,(some .boolean),1,0,true,cx_20.flatten)
def me_21:Jvm.OM.Mth:=(⟨"LocListDebug","stopIndex","()I"⟩,prog_1_method_22_code,1,0,0,(some .int),0,0,true,cx_21.flatten)
def me_22:Jvm.OM.Mth:=(⟨"LocListDebug","parseAll","()I"⟩,prog_1_method_23_code,2,9,139,(some .int),0,0,true,cx_22.flatten)
def me_23:Jvm.OM.Mth:=(⟨"LocListDebug","beginParse","()V"⟩,prog_1_method_24_code,1,1,13,none,0,0,true,cx_23.flatten)
def me_24:Jvm.OM.Mth:=(⟨"LocListDebug","feed","(II)Z"⟩,prog_1_method_25_code,3,8,125,(some .boolean),2,0,true,cx_24.flatten)
def me_25:Jvm.OM.Mth:=(⟨"LocListDebug","feedStatementStart","(II)Z"⟩,prog_1_method_26_code,4,1,16,(some .boolean),2,0,true,cx_25.flatten)
def me_26:Jvm.OM.Mth:=(⟨"LocListDebug","newStatement","(I)I"⟩,prog_1_method_27_code,5,0,0,(some .int),1,0,true,cx_26.flatten)
def me_27:Jvm.OM.Mth:=(⟨"LocListDebug","openBlock","()Z"⟩,prog_1_method_28_code,1,0,0,(some .boolean),0,0,true,cx_27.flatten)
def me_28:Jvm.OM.Mth:=(⟨"LocListDebug","curIsAssign","()Z"⟩,prog_1_method_29_code,1,0,0,(some .boolean),0,0,true,cx_28.flatten)
def me_29:Jvm.OM.Mth:=(⟨"LocListDebug","resetExpr","()V"⟩,prog_1_method_30_code,2,0,0,none,0,0,true,cx_29.flatten)
def me_30:Jvm.OM.Mth:=(⟨"LocListDebug","feedOperand","(II)Z"⟩,prog_1_method_31_code,4,1,14,(some .boolean),2,0,true,cx_30.flatten)
def me_31:Jvm.OM.Mth:=(⟨"LocListDebug","feedOperator","(I)Z"⟩,prog_1_method_32_code,3,7,111,(some .boolean),1,0,true,cx_31.flatten)
def me_32:Jvm.OM.Mth:=(⟨"LocListDebug","takeBinary","(I)Z"⟩,prog_1_method_33_code,3,6,97,(some .boolean),1,0,true,cx_32.flatten)
def me_34:Jvm.OM.Mth:=(⟨"LocListDebug","isBinaryToken","(I)Z"⟩,prog_1_method_35_code,2,0,0,(some .boolean),1,0,true,cx_34.flatten)
def me_35:Jvm.OM.Mth:=(⟨"LocListDebug","precedence","(I)I"⟩,prog_1_method_36_code,2,0,0,(some .int),1,0,true,cx_35.flatten)
def me_36:Jvm.OM.Mth:=(⟨"LocListDebug","pushOp","(I)Z"⟩,prog_1_method_37_code,2,0,0,(some .boolean),1,0,true,cx_36.flatten)
def me_37:Jvm.OM.Mth:=(⟨"LocListDebug","reduceWhile","(I)V"⟩,prog_1_method_38_code,5,5,81,none,1,0,true,cx_37.flatten)
def me_38:Jvm.OM.Mth:=(⟨"LocListDebug","pushEntry","(II)Z"⟩,prog_1_method_39_code,3,0,0,(some .boolean),2,0,true,cx_38.flatten)
def me_39:Jvm.OM.Mth:=(⟨"LocListDebug","applyOp","(I)V"⟩,prog_1_method_40_code,2,4,68,none,1,0,true,cx_39.flatten)
def me_41:Jvm.OM.Mth:=(⟨"LocListDebug","applyBinary","(I)V"⟩,prog_1_method_42_code,6,3,51,none,1,2,true,cx_41.flatten)
def me_42:Jvm.OM.Mth:=(⟨"LocListDebug","simplify","(III)Z"⟩,prog_1_method_43_code,5,1,14,(some .boolean),3,0,true,cx_42.flatten)
def me_43:Jvm.OM.Mth:=(⟨"LocListDebug","rightIdentity","(II)I"⟩,prog_1_method_44_code,3,0,0,(some .int),2,0,true,cx_43.flatten)
def me_48:Jvm.OM.Mth:=(⟨"LocListDebug","materialize","(II)I"⟩,prog_1_method_49_code,5,2,33,(some .int),2,0,true,cx_48.flatten)
def me_49:Jvm.OM.Mth:=(⟨"LocListDebug","allocRegister","(II)I"⟩,prog_1_method_50_code,5,1,17,(some .int),2,0,true,cx_49.flatten)
def me_50:Jvm.OM.Mth:=(⟨"LocListDebug","finishAssignment","()V"⟩,prog_1_method_51_code,4,3,51,none,0,2,true,cx_50.flatten)
def me_51:Jvm.OM.Mth:=(⟨"LocListDebug","finishCondition","()V"⟩,prog_1_method_52_code,3,3,51,none,0,2,true,cx_51.flatten)
def me_52:Jvm.OM.Mth:=(⟨"LocListDebug","emit","(IIII)I"⟩,prog_1_method_53_code,6,0,0,(some .int),4,0,true,cx_52.flatten)
def me_53:Jvm.OM.Mth:=(⟨"LocListDebug","linkStatements","()V"⟩,prog_1_method_54_code,2,2,33,none,0,2,true,cx_53.flatten)
def me_54:Jvm.OM.Mth:=(⟨"LocListDebug","successorOf","(I)I"⟩,prog_1_method_55_code,5,0,0,(some .int),1,0,true,cx_54.flatten)
def me_55:Jvm.OM.Mth:=(⟨"LocListDebug","patchTerminator","(I)V"⟩,prog_1_method_56_code,5,0,0,none,1,0,true,cx_55.flatten)
def me_56:Jvm.OM.Mth:=(⟨"LocListDebug","bitOf","(I)I"⟩,prog_1_method_57_code,2,0,0,(some .int),1,0,true,cx_56.flatten)
def me_57:Jvm.OM.Mth:=(⟨"LocListDebug","computeMasks","()V"⟩,prog_1_method_58_code,3,1,16,none,0,3,true,cx_57.flatten)
def me_58:Jvm.OM.Mth:=(⟨"LocListDebug","computeDefs","()V"⟩,prog_1_method_59_code,4,1,16,none,0,3,true,cx_58.flatten)
def me_59:Jvm.OM.Mth:=(⟨"LocListDebug","buildLocationLists","()V"⟩,prog_1_method_60_code,3,1,19,none,0,0,true,cx_59.flatten)
def me_60:Jvm.OM.Mth:=(⟨"LocListDebug","locate","(II)V"⟩,prog_1_method_61_code,8,0,0,none,2,0,true,cx_60.flatten)
def me_63:Jvm.OM.Mth:=(⟨"LocListDebug","stepOnce","()V"⟩,prog_1_method_64_code,2,3,52,none,0,0,true,cx_63.flatten)
def me_64:Jvm.OM.Mth:=(⟨"LocListDebug","execStatement","(I)I"⟩,prog_1_method_65_code,5,2,36,(some .int),1,0,true,cx_64.flatten)
def me_65:Jvm.OM.Mth:=(⟨"LocListDebug","execInstruction","(I)V"⟩,prog_1_method_66_code,8,1,17,none,1,2,true,cx_65.flatten)
def me_66:Jvm.OM.Mth:=(⟨"LocListDebug","load","(I)I"⟩,prog_1_method_67_code,2,0,0,(some .int),1,0,true,cx_66.flatten)
def me_67:Jvm.OM.Mth:=(⟨"LocListDebug","store","(II)V"⟩,prog_1_method_68_code,3,0,0,none,2,0,true,cx_67.flatten)
def me_68:Jvm.OM.Mth:=(⟨"LocListDebug","arith","(III)I"⟩,prog_1_method_69_code,4,0,0,(some .int),3,0,true,cx_68.flatten)
def ms1:List Jvm.OM.Mth:=[me_0,me_1,me_2,me_3,me_4,Jvm.OM.m0,Jvm.OM.m0,me_7,me_8,me_9,me_10,me_11,me_12,me_13,me_14,me_15,me_16,me_17,me_18,me_19,me_20,me_21,me_22,me_23,me_24,me_25,me_26,me_27,me_28,me_29,me_30,me_31,me_32,Jvm.OM.m0,me_34,me_35,me_36,me_37,me_38,me_39,Jvm.OM.m0,me_41,me_42,me_43,Jvm.OM.m0,Jvm.OM.m0,Jvm.OM.m0,Jvm.OM.m0,me_48,me_49,me_50,me_51,me_52,me_53,me_54,me_55,me_56,me_57,me_58,me_59,me_60,Jvm.OM.m0,Jvm.OM.m0,me_63,me_64,me_65,me_66,me_67,me_68]
def fds1:List (String×String×Nat):=[("regCount","I",0),("tokKind","[I",2),("running","Z",4),("tokArg","[I",5),("errPos","I",6),("stKind","[I",8),("tokCount","I",9),("stVar","[I",11),("stmtCount","I",12),("stParent","[I",14),("topLast","I",15),("stPrev","[I",17),("codeLen","I",18),("stNext","[I",20),("cur","I",21),("stFirst","[I",23),("steps","I",24),("stStart","[I",26),("lastV","I",27),("stTerm","[I",29),("lastVal","I",30),("stSucc","[I",32),("pState","I",33),("stMask","[I",35),("curStmt","I",36),("stResKind","[I",38),("blkDepth","I",39),("stResVal","[I",41),("entTop","I",42),("stDef","[I",44),("opTop","I",45),("brk","[Z",47),("parenDepth","I",48),("locKind","[I",50),("locVal","[I",53),("cOp","[I",56),("cA","[I",59),("cB","[I",62),("cC","[I",65),("mem","[I",68),("reg","[I",71),("blkOwner","[I",74),("blkLast","[I",77),("entKind","[I",80),("entVal","[I",83),("regOwner","[I",86),("opStk","[I",89),("cmpSeen","[Z",92)]
def arr1:List (FieldType×Nat):=[(.int,96),(.int,96),(.int,32),(.int,32),(.int,32),(.int,32),(.int,32),(.int,32),(.int,32),(.int,32),(.int,32),(.int,32),(.int,32),(.int,32),(.int,40),(.boolean,32),(.int,320),(.int,320),(.int,1024),(.int,1024),(.int,1024),(.int,1024),(.int,128),(.int,8),(.int,40),(.int,40),(.int,96),(.int,96),(.int,8),(.int,96),(.boolean,96)]
def cls1:Jvm.OM.Cls:=("LocListDebug",79,[("MAX_STMTS","I"),("CODE_MAX","I"),("MEM_SIZE","I"),("STACK_MAX","I"),("BLOCK_MAX","I"),("LOC_MAX","I"),("SPILL_BASE","I"),("I_LDI","I"),("I_LD","I"),("I_ST","I"),("I_STI","I"),("I_OP","I"),("I_OPI","I"),("I_NEG","I"),("I_STOP","I"),("I_BR","I"),("I_BRK","I"),("OP_NEG","I"),("OP_PAREN","I"),("E_CONST","I"),("E_VAR","I"),("E_REG","I"),("E_SLOT","I"),("L_NONE","I"),("L_SLOT","I"),("L_CONST","I"),("L_REG","I"),("P_STMT","I"),("P_ASSIGN","I"),("P_OPERAND","I"),("P_OPERATOR","I")],fds1,arr1,true,[(none,7,"MAX_STMTS","I"),(none,13,"CODE_MAX","I"),(none,16,"MEM_SIZE","I"),(none,19,"STACK_MAX","I"),(none,22,"BLOCK_MAX","I"),(none,25,"LOC_MAX","I"),(none,28,"SPILL_BASE","I"),(none,31,"I_LDI","I"),(none,34,"I_LD","I"),(none,37,"I_ST","I"),(none,40,"I_STI","I"),(none,43,"I_OP","I"),(none,46,"I_OPI","I"),(none,49,"I_NEG","I"),(none,52,"I_STOP","I"),(none,55,"I_BR","I"),(none,58,"I_BRK","I"),(none,61,"OP_NEG","I"),(none,64,"OP_PAREN","I"),(none,67,"E_CONST","I"),(none,70,"E_VAR","I"),(none,73,"E_REG","I"),(none,76,"E_SLOT","I"),(none,79,"L_NONE","I"),(none,82,"L_SLOT","I"),(none,85,"L_CONST","I"),(none,88,"L_REG","I"),(none,91,"P_STMT","I"),(none,94,"P_ASSIGN","I"),(none,97,"P_OPERAND","I"),(none,100,"P_OPERATOR","I"),(some .int,103,"tokKind","[I"),(some .int,107,"tokArg","[I"),(some .int,110,"stKind","[I"),(some .int,113,"stVar","[I"),(some .int,116,"stParent","[I"),(some .int,119,"stPrev","[I"),(some .int,122,"stNext","[I"),(some .int,125,"stFirst","[I"),(some .int,128,"stStart","[I"),(some .int,131,"stTerm","[I"),(some .int,134,"stSucc","[I"),(some .int,137,"stMask","[I"),(some .int,140,"stResKind","[I"),(some .int,143,"stResVal","[I"),(some .int,146,"stDef","[I"),(some .boolean,149,"brk","[Z"),(some .int,153,"locKind","[I"),(some .int,156,"locVal","[I"),(some .int,159,"cOp","[I"),(some .int,162,"cA","[I"),(some .int,165,"cB","[I"),(some .int,168,"cC","[I"),(some .int,171,"mem","[I"),(some .int,174,"reg","[I"),(some .int,177,"blkOwner","[I"),(some .int,180,"blkLast","[I"),(some .int,183,"entKind","[I"),(some .int,186,"entVal","[I"),(some .int,189,"regOwner","[I"),(some .int,192,"opStk","[I"),(some .boolean,195,"cmpSeen","[Z")],431,1,[],tb1,ms1)
def tb2:Jvm.OM.Tabs:=([],[(12,2),(22,1),(26,4),(29,7),(33,8),(36,9),(40,3),(43,10),(47,11),(50,12),(53,15),(56,16),(63,14),(66,13)],[(16,1),(59,2)],[],[],[(7,0)],[(9,0)])
def cl_0:List (List Jvm.OM.Ent):=[[(0,.new 0,3,none),(3,.dup,4,none),(4,.aload 0,5,none),(5,.arraylength,6,none),(6,.ifCond .le 15,9,none),(9,.aload 0,10,none),(10,.iconst 0,11,none),(11,.iaload,12,none),(12,.goto 16,15,none),(15,.iconst 3,16,none)],[(16,.invokespecial 0,19,some 1),(19,.astore 1,20,none),(20,.iconst 1,21,none),(21,.istore 2,22,none),(22,.iload 2,23,some 3),(23,.iconst 3,24,none),(24,.iadd,25,none),(25,.aload 0,26,none),(26,.arraylength,27,none),(27,.if_icmp .gt 265,30,none),(30,.aload 0,31,none),(31,.iload 2,32,none)],[(32,.iaload,33,none),(33,.iconst 15,35,none),(35,.iand,36,none),(36,.istore 3,37,none),(37,.aload 0,38,none),(38,.iload 2,39,none),(39,.iconst 1,40,none),(40,.iadd,41,none),(41,.iaload,42,none),(42,.istore 4,44,none),(44,.aload 0,45,none),(45,.iload 2,46,none),(46,.iconst 2,47,none),(47,.iadd,48,none)],[(48,.iaload,49,none),(49,.istore 5,51,none),(51,.iload 3,52,none),(52,.iconst 6,54,none),(54,.if_icmp .gt 158,57,none),(57,.aload 1,58,none),(58,.invokevirtual 2,61,none),(61,.istore 6,63,none),(63,.iload 6,65,none)],[(65,.iconst 12,67,none),(67,.irem,68,none),(68,.istore 7,70,none),(70,.iload 6,72,none),(72,.iconst 12,74,none),(74,.idiv,75,none),(75,.iconst 7,77,none),(77,.iand,78,none),(78,.istore 8,80,none)],[(80,.iload 7,82,none),(82,.iconst 1,83,none),(83,.if_icmp .eq 99,86,none),(86,.iload 7,88,none),(88,.iconst 5,89,none),(89,.if_icmp .eq 99,92,none),(92,.iload 7,94,none),(94,.iconst 7,96,none)],[(96,.if_icmp .ne 104,99,none),(99,.iload 8,101,some 9),(101,.goto 135,104,none),(104,.iload 7,106,none),(106,.iconst 3,107,none),(107,.if_icmp .ne 118,110,none),(110,.iload 5,112,none)],[(112,.iconst 15,114,none),(114,.iand,115,none),(115,.goto 135,118,none),(118,.iload 7,120,none),(120,.iconst 9,122,none),(122,.if_icmp .ne 134,125,none),(125,.iconst 1,126,none),(126,.iload 5,128,none)],[(128,.iconst 3,129,none),(129,.iand,130,none),(130,.iadd,131,none),(131,.goto 135,134,none),(134,.iconst 0,135,none),(135,.istore 9,137,some 9),(137,.iload 7,139,none),(139,.iload 4,141,none),(141,.invokestatic 1,144,none)],[(144,.istore 10,146,none),(146,.aload 1,147,none),(147,.iload 10,149,none),(149,.iload 9,151,none),(151,.invokevirtual 1,154,none),(154,.pop,155,none),(155,.goto 259,158,none),(158,.iload 3,159,none),(159,.iconst 8,161,none)],[(161,.if_icmp .gt 172,164,none),(164,.aload 1,165,none),(165,.invokevirtual 4,168,none),(168,.pop,169,none),(169,.goto 259,172,none),(172,.iload 3,173,none),(173,.iconst 10,175,none),(175,.if_icmp .gt 204,178,none)],[(178,.aload 1,179,none),(179,.iload 4,181,none),(181,.iconst 15,183,none),(183,.iand,184,none),(184,.iload 5,186,none),(186,.iconst 1,187,none),(187,.iand,188,none),(188,.iconst 1,189,none),(189,.if_icmp .ne 196,192,none)],[(192,.iconst 1,193,none),(193,.goto 197,196,none),(196,.iconst 0,197,none),(197,.invokevirtual 7,200,some 6),(200,.pop,201,none),(201,.goto 259,204,none),(204,.iload 3,205,none),(205,.iconst 12,207,none),(207,.if_icmp .gt 218,210,none)],[(210,.aload 1,211,none),(211,.invokevirtual 8,214,none),(214,.pop,215,none),(215,.goto 259,218,none),(218,.iload 3,219,none),(219,.iconst 14,221,none),(221,.if_icmp .gt 239,224,none)],[(224,.aload 1,225,none),(225,.iload 4,227,none),(227,.iconst 15,229,none),(229,.iand,230,none),(230,.iconst 1,231,none),(231,.isub,232,none),(232,.invokevirtual 9,235,none),(235,.pop,236,none),(236,.goto 259,239,none),(239,.iload 5,241,none)],[(241,.iconst 7,243,none),(243,.iand,244,none),(244,.ifCond .ne 254,247,none),(247,.aload 1,248,none),(248,.invokevirtual 3,251,none),(251,.goto 259,254,none),(254,.aload 1,255,none),(255,.invokevirtual 10,258,none)],[(258,.pop,259,none),(259,.iinc 2 3,262,some 6),(262,.goto 22,265,none),(265,.aload 1,266,none),(266,.invokevirtual 11,269,none),(269,.iconst (-1),270,none),(270,.if_icmp .ne 275,273,none)],[(273,.iconst 1,274,none),(274,.ireturn,275,none),(275,.aload 1,276,none),(276,.invokevirtual 12,279,none),(279,.istore 2,280,none),(280,.iload 2,281,none),(281,.iconst 2000,284,none),(284,.if_icmp .le 289,287,none),(287,.iconst 1,288,none)],[(288,.ireturn,289,none),(289,.aload 1,290,none),(290,.invokevirtual 11,293,none),(293,.istore 3,294,none),(294,.aload 1,295,none),(295,.invokevirtual 15,298,none),(298,.istore 4,300,none),(300,.aload 1,301,none),(301,.invokevirtual 16,304,none)],[(304,.istore 5,306,none),(306,.aload 1,307,none),(307,.invokestatic 2,310,none),(310,.istore 6,312,none),(312,.aload 1,313,none),(313,.iconst 0,314,none),(314,.invokevirtual 14,317,none),(317,.istore 7,319,none),(319,.aload 1,320,none)],[(320,.iconst 1,321,none),(321,.invokevirtual 14,324,none),(324,.istore 8,326,none),(326,.aload 1,327,none),(327,.iconst 2,328,none),(328,.invokevirtual 14,331,none),(331,.istore 9,333,none),(333,.aload 1,334,none),(334,.iconst 3,335,none),(335,.invokevirtual 14,338,none)],[(338,.istore 10,340,none),(340,.aload 1,341,none),(341,.iconst 4,342,none),(342,.invokevirtual 14,345,none),(345,.istore 11,347,none),(347,.aload 1,348,none),(348,.iconst 5,349,none),(349,.invokevirtual 14,352,none)],[(352,.istore 12,354,none),(354,.aload 1,355,none),(355,.iconst 6,357,none),(357,.invokevirtual 14,360,none),(360,.istore 13,362,none),(362,.aload 1,363,none),(363,.iconst 7,365,none),(365,.invokevirtual 14,368,none)],[(368,.istore 14,370,none),(370,.aload 1,371,none),(371,.invokevirtual 10,374,none),(374,.ifCond .ne 379,377,none),(377,.iconst 0,378,none),(378,.ireturn,379,none),(379,.iconst 0,380,none),(380,.istore 15,382,none),(382,.iload 15,384,some 16)],[(384,.iconst 2000,387,none),(387,.if_icmp .ge 407,390,none),(390,.iload 15,392,none),(392,.iload 2,393,none),(393,.if_icmp .ge 407,396,none),(396,.aload 1,397,none),(397,.invokevirtual 8,400,none)],[(400,.pop,401,none),(401,.iinc 15 1,404,none),(404,.goto 382,407,none),(407,.aload 1,408,some 16),(408,.invokevirtual 11,411,none),(411,.iload 3,412,none),(412,.if_icmp .ne 423,415,none),(415,.aload 1,416,none)],[(416,.invokevirtual 12,419,none),(419,.iload 2,420,none),(420,.if_icmp .eq 425,423,none),(423,.iconst 0,424,some 16),(424,.ireturn,425,none),(425,.aload 1,426,none),(426,.invokevirtual 15,429,none),(429,.iload 4,431,none),(431,.if_icmp .ne 443,434,none)],[(434,.aload 1,435,none),(435,.invokevirtual 16,438,none),(438,.iload 5,440,none),(440,.if_icmp .eq 445,443,none),(443,.iconst 0,444,some 16),(444,.ireturn,445,none),(445,.aload 1,446,none),(446,.invokestatic 2,449,none)],[(449,.iload 6,451,none),(451,.if_icmp .eq 456,454,none),(454,.iconst 0,455,none),(455,.ireturn,456,none),(456,.aload 1,457,none),(457,.iconst 0,458,none),(458,.invokevirtual 14,461,none),(461,.iload 7,463,none),(463,.if_icmp .ne 496,466,none)],[(466,.aload 1,467,none),(467,.iconst 1,468,none),(468,.invokevirtual 14,471,none),(471,.iload 8,473,none),(473,.if_icmp .ne 496,476,none),(476,.aload 1,477,none),(477,.iconst 2,478,none),(478,.invokevirtual 14,481,none)],[(481,.iload 9,483,none),(483,.if_icmp .ne 496,486,none),(486,.aload 1,487,none),(487,.iconst 3,488,none),(488,.invokevirtual 14,491,none),(491,.iload 10,493,none),(493,.if_icmp .eq 498,496,none)],[(496,.iconst 0,497,some 16),(497,.ireturn,498,none),(498,.aload 1,499,none),(499,.iconst 4,500,none),(500,.invokevirtual 14,503,none),(503,.iload 11,505,none),(505,.if_icmp .ne 540,508,none),(508,.aload 1,509,none),(509,.iconst 5,510,none),(510,.invokevirtual 14,513,none)],[(513,.iload 12,515,none),(515,.if_icmp .ne 540,518,none),(518,.aload 1,519,none),(519,.iconst 6,521,none),(521,.invokevirtual 14,524,none),(524,.iload 13,526,none),(526,.if_icmp .ne 540,529,none)],[(529,.aload 1,530,none),(530,.iconst 7,532,none),(532,.invokevirtual 14,535,none),(535,.iload 14,537,none),(537,.if_icmp .eq 542,540,none),(540,.iconst 0,541,some 16),(541,.ireturn,542,none),(542,.iconst 1,543,none),(543,.ireturn,544,none)]]
def cl_1:List (List Jvm.OM.Ent):=[[(0,.iload 0,1,none),(1,.ifCond .ne 18,4,none),(4,.iload 1,5,none),(5,.iconst 1,6,none),(6,.iand,7,none),(7,.ifCond .ne 15,10,none),(10,.iconst 16,12,none),(12,.goto 17,15,none),(15,.iconst 17,17,none)],[(17,.ireturn,18,some 2),(18,.iload 0,19,none),(19,.iconst 1,20,none),(20,.if_icmp .eq 34,23,none),(23,.iload 0,24,none),(24,.iconst 5,25,none),(25,.if_icmp .eq 34,28,none),(28,.iload 0,29,none),(29,.iconst 7,31,none),(31,.if_icmp .ne 36,34,none)],[(34,.iconst 2,35,some 2),(35,.ireturn,36,none),(36,.iload 0,37,none),(37,.iconst 2,38,none),(38,.if_icmp .ne 44,41,none),(41,.iconst 10,43,none),(43,.ireturn,44,none),(44,.iload 0,45,none),(45,.iconst 3,46,none),(46,.if_icmp .eq 55,49,none)],[(49,.iload 0,50,none),(50,.iconst 9,52,none),(52,.if_icmp .ne 57,55,none),(55,.iconst 1,56,some 2),(56,.ireturn,57,none),(57,.iload 0,58,none),(58,.iconst 4,59,none),(59,.if_icmp .ne 65,62,none),(62,.iconst 14,64,none)],[(64,.ireturn,65,none),(65,.iload 0,66,none),(66,.iconst 6,68,none),(68,.if_icmp .ne 73,71,none),(71,.iconst 3,72,none),(72,.ireturn,73,none),(73,.iload 0,74,none),(74,.iconst 8,76,none),(76,.if_icmp .ne 81,79,none),(79,.iconst 5,80,none)],[(80,.ireturn,81,none),(81,.iload 0,82,none),(82,.iconst 10,84,none),(84,.if_icmp .ne 89,87,none),(87,.iconst 4,88,none),(88,.ireturn,89,none),(89,.iconst 15,91,none),(91,.ireturn,92,none)]]
def cl_2:List (List Jvm.OM.Ent):=[[(0,.iconst 0,1,none),(1,.istore 1,2,none),(2,.iconst 0,3,none),(3,.istore 2,4,none),(4,.iload 2,5,some 3),(5,.iconst 8,7,none),(7,.if_icmp .ge 30,10,none),(10,.aload 0,11,none),(11,.iload 2,12,none),(12,.invokevirtual 13,15,none),(15,.ifCond .eq 24,18,none)],[(18,.iload 1,19,none),(19,.iconst 1,20,none),(20,.iload 2,21,none),(21,.ishl,22,none),(22,.ior,23,none),(23,.istore 1,24,none),(24,.iinc 2 1,27,some 3),(27,.goto 4,30,none),(30,.iload 1,31,none),(31,.ireturn,32,none)]]
def ml_0:Jvm.OM.Mth:=(⟨"LocListDebugL7","law","([I)Z"⟩,code,16,11,166,(some .boolean),1,1,false,cl_0.flatten)
def ml_1:Jvm.OM.Mth:=(⟨"LocListDebugL7","kindAt","(II)I"⟩,method_3_code,2,0,0,(some .int),2,0,false,cl_1.flatten)
def ml_2:Jvm.OM.Mth:=(⟨"LocListDebugL7","availMask","(LLocListDebug;)I"⟩,method_4_code,3,2,26,(some .int),1,0,false,cl_2.flatten)
def ms2:List Jvm.OM.Mth:=[ml_0,ml_1,ml_2]
def iv1:List (Nat×Int):=[]
abbrev nmax1:Nat:=1
theorem own_d1:data1 cls1=true:=by decide +kernel
theorem own_g1:goodB tb1 ms1=true:=by decide +kernel
theorem own_r1:roomB ms1 ms1 callVk=true:=by decide +kernel
theorem own_d2:data2 "LocListDebug" "LocListDebugL7" ms1 ms2 tb2=true:=by decide +kernel
theorem own_g2:goodB tb2 ms2=true:=by decide +kernel
theorem own_rv:roomB ms2 ms1 callVk=true:=by decide +kernel
theorem own_rc:roomB ms2 ms1 callCk=true:=by decide +kernel
theorem own_rs:roomB ms2 ms2 callSk=true:=by decide +kernel
theorem own_hcut{tw:List Jvm.Cond}:∀(n:Nat) {ws:List Jvm.Cond} {is:List Nat},hasB tw (ws.take n) (is.take n)=true→hasB tw (ws.drop n) (is.drop n)=true→hasB tw ws is=true
 |0,ws,is,_,h=>h
 |n+1,[],[],_,h=>rfl
 |n+1,w::ws,i::is,h,h'=>by
  simp only[List.take_succ_cons,hasB,Bool.and_eq_true] at h
  simp only[List.drop_succ_cons] at h'
  simp only[hasB,Bool.and_eq_true]
  exact⟨h.1,own_hcut n h.2 h'⟩
 |n+1,[],i::is,h,_=>by
  simp[List.take_succ_cons,hasB] at h
 |n+1,w::ws,[],h,_=>by
  simp[List.take_succ_cons,hasB] at h
def own_is1:List Nat:=[1,2,6,7,8,4,5,136,73,142,75,146,77,144,79,148,81,152,83,150,85,158,87,160,89,162,91,164,93,215,95,217,97,213,99,223,101,225,104,227,106,108,110,112,114,116,118,120,122,124,126,128,130,132,134,10,12,14,16,18,20,22,24,26,28,30,32,34,36,38,40,42,44,46,48,50,52,54,56,58,60,62,64,66,68,70,72,74,76,78,80,82,84,86,88,90,92,94,96,98,100,103,105,107,109,111,113,115,117,119,121,123,125,127,129,131,133,135,141,143,145,147,149,157,159,161,163,151,214,212,216,222,224,226,9,11,13,15,17,19,21,23,25,27,29,31,33,35,37,39,41,43,45,47,49,51,53,55,57,59,61,63,65,67,69,72,74,76,78,80,82,84,86,88,90,92,94,96,98,100,103,105,107,109,111,113,115,117,119,121,123,125,127,129,131,133,71,71,71,71,71,71,71,71,71,71,71,71,71,71,71,102,71,71,71,71,71,71,71,71,71,71,71,71,71,71,102,137,204,321,345,153,353,357,381,413,422,208,228,218,232,240,248,236,244,268,252,256,272,264,317,304,308,260,276,280,292,300,373,284,288,296,325,329,333,341,337,349,361,365,369,377,176,178,175,177,167,169,166,168,387,389,386,388,201,203,200,202,196,198,195,197,186,188,185,187,191,193,190,192,314,316,313,315,181,183,180,182,392,394,391,393,410,412,409,411,419,421,418,420,397,399,396,398,402,404,401,403,138,140,139,154,156,155,354,356,355,382,384,383,414,416,415,205,207,206,209,211,210,229,231,230,233,235,234,237,239,238,309,311,310,273,275,274,219,221,220,241,243,242,249,251,250,257,259,258,253,255,254,261,263,262,269,271,270,265,267,266,245,247,246,277,279,278,281,283,282,285,287,286,289,291,290,293,295,294,297,299,298,318,320,319,305,307,306,301,303,302,322,324,323,326,328,327,330,332,331,338,340,339,334,336,335,342,344,343,346,348,347,350,352,351,358,360,359,362,364,363,366,368,367,370,372,371,378,380,379,374,376,375]
theorem own_h1_0:hasB tables_1 ((needs1 cls1).take 60) (own_is1.take 60)=true:=by decide +kernel
theorem own_h1_1:hasB tables_1 (((needs1 cls1).drop 60).take 60) ((own_is1.drop 60).take 60)=true:=by decide +kernel
theorem own_h1_2:hasB tables_1 ((((needs1 cls1).drop 60).drop 60).take 60) (((own_is1.drop 60).drop 60).take 60)=true:=by decide +kernel
theorem own_h1_3:hasB tables_1 (((((needs1 cls1).drop 60).drop 60).drop 60).take 60) ((((own_is1.drop 60).drop 60).drop 60).take 60)=true:=by decide +kernel
theorem own_h1_4:hasB tables_1 ((((((needs1 cls1).drop 60).drop 60).drop 60).drop 60).take 60) (((((own_is1.drop 60).drop 60).drop 60).drop 60).take 60)=true:=by decide +kernel
theorem own_h1_5:hasB tables_1 (((((((needs1 cls1).drop 60).drop 60).drop 60).drop 60).drop 60).take 60) ((((((own_is1.drop 60).drop 60).drop 60).drop 60).drop 60).take 60)=true:=by decide +kernel
theorem own_h1_6:hasB tables_1 ((((((((needs1 cls1).drop 60).drop 60).drop 60).drop 60).drop 60).drop 60).take 60) (((((((own_is1.drop 60).drop 60).drop 60).drop 60).drop 60).drop 60).take 60)=true:=by decide +kernel
theorem own_h1_7:hasB tables_1 ((((((((needs1 cls1).drop 60).drop 60).drop 60).drop 60).drop 60).drop 60).drop 60) (((((((own_is1.drop 60).drop 60).drop 60).drop 60).drop 60).drop 60).drop 60)=true:=by decide +kernel
theorem own_h1:hasB tables_1 (needs1 cls1) own_is1=true:=(own_hcut 60 own_h1_0 (own_hcut 60 own_h1_1 (own_hcut 60 own_h1_2 (own_hcut 60 own_h1_3 (own_hcut 60 own_h1_4 (own_hcut 60 own_h1_5 (own_hcut 60 own_h1_6 own_h1_7)))))))
theorem own_h2:hasB tables_1 (needs2 "LocListDebug" "LocListDebugL7" ms1 ms2 tb2) [0,3,165,174,199,194,184,189,385,312,179,390,395,400,417,408,170,171,172,173,405,406,172,407]=true:=by decide +kernel
theorem k_m2:Int32.ofInt (-2)=(-2):=by decide
theorem k_m1:Int32.ofInt (-1)=(-1):=by decide
theorem k_0:Int32.ofInt 0=0:=by decide
theorem k_1:Int32.ofInt 1=1:=by decide
theorem k_2:Int32.ofInt 2=2:=by decide
theorem k_3:Int32.ofInt 3=3:=by decide
theorem k_4:Int32.ofInt 4=4:=by decide
theorem k_5:Int32.ofInt 5=5:=by decide
theorem k_6:Int32.ofInt 6=6:=by decide
theorem k_7:Int32.ofInt 7=7:=by decide
theorem k_8:Int32.ofInt 8=8:=by decide
theorem k_9:Int32.ofInt 9=9:=by decide
theorem k_10:Int32.ofInt 10=10:=by decide
theorem k_11:Int32.ofInt 11=11:=by decide
theorem k_12:Int32.ofInt 12=12:=by decide
theorem k_13:Int32.ofInt 13=13:=by decide
theorem k_14:Int32.ofInt 14=14:=by decide
theorem k_15:Int32.ofInt 15=15:=by decide
theorem k_16:Int32.ofInt 16=16:=by decide
theorem k_17:Int32.ofInt 17=17:=by decide
theorem k_20:Int32.ofInt 20=20:=by decide
theorem k_21:Int32.ofInt 21=21:=by decide
theorem k_32:Int32.ofInt 32=32:=by decide
theorem k_40:Int32.ofInt 40=40:=by decide
theorem k_96:Int32.ofInt 96=96:=by decide
theorem k_128:Int32.ofInt 128=128:=by decide
theorem k_256:Int32.ofInt 256=256:=by decide
theorem k_320:Int32.ofInt 320=320:=by decide
theorem k_1024:Int32.ofInt 1024=1024:=by decide
theorem k_2000:Int32.ofInt 2000=2000:=by decide
abbrev Fx(f1:FT1):=Fix1 arr1 ms1 f1
abbrev Fy(xs:List Int32)(f1:FT1)(f2:FT2):=Fix2 ms1 ms2 iv1 431 nmax1 (some xs) f1 f2
theorem e1_0_431{f1}(h:Fx f1)(x1:Int32)(S):f1 (0,431,[.ref 0,.int x1],[],S)=if x1<2 then f1 (0,440,[.ref 0,.int x1,.int 2],[],S) else f1 (0,440,[.ref 0,.int x1,.int x1],[],S):=Jb h rfl rfl<|Je h rfl [.ref 0,.int x1,.int x1]<|Jb h rfl rfl<|Jc h rfl k_2<|Jm h rfl (Jc h rfl k_2<|Je h rfl [.ref 0,.int x1,.int 2] rfl) rfl
theorem e1_0_440{f1}(h:Fx f1)(x1 x2:Int32)(S):f1 (0,440,[.ref 0,.int x1,.int x2],[],S)=if 8<x2 then (f1 (17,0,[.ref 0],[],(upd S 0 0 8))).bind fun q=>f1 (0,458,[.ref 0,.int x1,.int 8],q.1.toList++[],q.2) else (f1 (17,0,[.ref 0],[],(upd S 0 0 x2))).bind fun q=>f1 (0,458,[.ref 0,.int x1,.int x2],q.1.toList++[],q.2):=Jb h rfl rfl<|Jc h rfl k_8<|JO h rfl (Jc h rfl k_8<|Je h rfl [.ref 0,.int x1,.int 8]<|Jd h rfl rfl<|Jb h rfl rfl<|Jw h rfl<|Jd h rfl rfl<|Jf h rfl rfl) (Jd h rfl rfl<|Jb h rfl rfl<|Jw h rfl<|Jd h rfl rfl<|Jf h rfl rfl)
theorem e1_0_458{f1}(h:Fx f1)(x1 x2:Int32)(S):f1 (0,458,[.ref 0,.int x1,.int x2],[],S)=some (none,S):=Jk h rfl
theorem e1_17_0{f1}(h:Fx f1)(S):f1 (17,0,[.ref 0],[],S)=(f1 (18,0,[.ref 0],[],(upd (upd (upd (upd (upd (upd S 0 1 0) 0 3 0) 0 2 (-1)) 0 4 0) 0 6 0) 0 5 (-1)))).bind fun q=>f1 (17,34,[.ref 0],q.1.toList++[],q.2):=Jd h rfl rfl<|Jc h rfl k_0<|Jaw h rfl<|Jd h rfl rfl<|Jc h rfl k_0<|Jw h rfl<|Jd h rfl rfl<|Jc h rfl k_m1<|Jw h rfl<|Jd h rfl rfl<|Jc h rfl k_0<|Jw h rfl<|Jd h rfl rfl<|Jc h rfl k_0<|Jw h rfl<|Jd h rfl rfl<|Jc h rfl k_m1<|Jw h rfl<|Jd h rfl rfl<|Jf h rfl rfl
theorem e1_17_34{f1}(h:Fx f1)(S):f1 (17,34,[.ref 0],[],S)=some (none,(upd (upd (upd (upd S 0 7 (-2)) 0 8 0) 0 9 (-1)) 0 10 0)):=Jd h rfl rfl<|Jc h rfl k_m2<|Jw h rfl<|Jd h rfl rfl<|Jc h rfl k_0<|Jw h rfl<|Jd h rfl rfl<|Jc h rfl k_m1<|Jw h rfl<|Jd h rfl rfl<|Jc h rfl k_0<|Jw h rfl<|Jk h rfl
theorem e1_18_0{f1}(h:Fx f1)(S):f1 (18,0,[.ref 0],[],S)=f1 (18,2,[.ref 0,.int 0],[],S):=Jc h rfl k_0<|Je h rfl [.ref 0,.int 0] rfl
theorem e1_18_2{f1}(h:Fx f1)(x1:Int32)(S):f1 (18,2,[.ref 0,.int x1],[],S)=if x1<32 then if inb x1 32=true then f1 (18,2,[.ref 0,.int (x1+1)],[],(upd S 16 (x1).toNatClampNeg 0)) else none else some (none,S):=Jb h rfl rfl<|Jc h rfl k_32<|Jm h rfl (Jd h rfl rfl<|Jg h rfl<|Jb h rfl rfl<|Jc h rfl k_0<|Jaa h rfl rfl 0 fun i0=>Jn h rfl k_1 rfl [.ref 0,.int (x1+1)]<|Jh h rfl rfl) (Jk h rfl)
theorem e1_2_0{f1}(h:Fx f1)(S):f1 (2,0,[.ref 0],[],S)=some (some (.int (S 0 3)),S):=Jd h rfl rfl<|Jj h rfl (S 0 3)<|Ji h rfl
theorem e1_1_0{f1}(h:Fx f1)(x1 x2:Int32)(S):f1 (1,0,[.ref 0,.int x1,.int x2],[],S)=if (S 0 1)=0 then if x1<1 then some (some (.int 0),S) else if 17<x1 then some (some (.int 0),S) else if x1=2 then if x2<0 then some (some (.int 0),S) else if x2<8 then f1 (1,39,[.ref 0,.int x1,.int x2],[],S) else some (some (.int 0),S) else f1 (1,39,[.ref 0,.int x1,.int x2],[],S) else some (some (.int 0),S):=Jd h rfl rfl<|Jj h rfl (S 0 1)<|Jy h rfl (Jb h rfl rfl<|Jc h rfl k_1<|JJ h rfl (Jc h rfl k_0<|Jl h rfl) (Jb h rfl rfl<|Jc h rfl k_17<|JO h rfl (Jc h rfl k_0<|Jl h rfl) (Jb h rfl rfl<|Jc h rfl k_2<|Jp h rfl (Jb h rfl rfl<|JB h rfl (Jc h rfl k_0<|Jl h rfl) (Jb h rfl rfl<|Jc h rfl k_8<|JJ h rfl rfl (Jc h rfl k_0<|Jl h rfl))) rfl))) (Jc h rfl k_0<|Jl h rfl)
theorem e1_1_39{f1}(h:Fx f1)(x1 x2:Int32)(S):f1 (1,39,[.ref 0,.int x1,.int x2],[],S)=if (S 0 3)<0 then some (some (.int 0),S) else if (S 0 3)<96 then if inb (S 0 3) 96=true then if x1=1 then f1 (1,77,[.ref 0,.int x1,.int x2],[],(upd S 1 ((S 0 3)).toNatClampNeg x1)) else if x1=2 then f1 (1,77,[.ref 0,.int x1,.int x2],[],(upd S 1 ((S 0 3)).toNatClampNeg x1)) else some (some (.int 1),(upd (upd (upd S 1 ((S 0 3)).toNatClampNeg x1) 2 ((S 0 3)).toNatClampNeg 0) 0 3 ((S 0 3)+1))) else none else some (some (.int 0),S):=Jd h rfl rfl<|Jj h rfl (S 0 3)<|JB h rfl (Jc h rfl k_0<|Jl h rfl) (Jd h rfl rfl<|Jj h rfl (S 0 3)<|Jc h rfl k_96<|JJ h rfl (Jd h rfl rfl<|Jg h rfl<|Jd h rfl rfl<|Jj h rfl (S 0 3)<|Jb h rfl rfl<|Jv h rfl rfl x1 fun i0=>Jb h rfl rfl<|Jc h rfl k_1<|JA h rfl rfl (Jb h rfl rfl<|Jc h rfl k_2<|Jp h rfl rfl (Jd h rfl rfl<|Jg h rfl<|Jd h rfl rfl<|Jj h rfl (S 0 3)<|Jc h rfl k_0<|Jx h rfl rfl 0 i0<|Jd h rfl rfl<|JN h rfl<|Jj h rfl (S 0 3)<|Jc h rfl k_1<|Jt h rfl<|Jw h rfl<|Jc h rfl k_1<|JC h rfl))) (Jc h rfl k_0<|Jl h rfl))
theorem e1_1_77{f1}(h:Fx f1)(x1 x2:Int32)(S):f1 (1,77,[.ref 0,.int x1,.int x2],[],S)=if inb (S 0 3) 96=true then some (some (.int 1),(upd (upd S 2 ((S 0 3)).toNatClampNeg x2) 0 3 ((S 0 3)+1))) else none:=Jd h rfl rfl<|Jg h rfl<|Jd h rfl rfl<|Jj h rfl (S 0 3)<|Jb h rfl rfl<|Jv h rfl rfl x2 fun i0=>Jh h rfl<|Jd h rfl rfl<|JN h rfl<|Jj h rfl (S 0 3)<|Jc h rfl k_1<|Jt h rfl<|Jw h rfl<|Jc h rfl k_1<|JC h rfl
theorem e1_11_0{f1}(h:Fx f1)(S):f1 (11,0,[.ref 0],[],S)=if (S 0 1)=0 then some (some (.int (-1)),S) else some (some (.int (S 0 7)),S):=Jd h rfl rfl<|Jj h rfl (S 0 1)<|Js h rfl (Jc h rfl k_m1<|Ji h rfl) (Jd h rfl rfl<|Jj h rfl (S 0 7)<|Ji h rfl)
theorem e1_8_0{f1}(h:Fx f1)(S):f1 (8,0,[.ref 0],[],S)=if (S 0 1)=0 then some (some (.int (-1)),S) else if (S 0 7)=(-2) then some (some (.int (-2)),S) else (f1 (63,0,[.ref 0],[],S)).bind fun q=>f1 (8,25,[.ref 0],q.1.toList++[],q.2):=Jd h rfl rfl<|Jj h rfl (S 0 1)<|Js h rfl (Jc h rfl k_m1<|Ji h rfl) (Jd h rfl rfl<|Jj h rfl (S 0 7)<|Jc h rfl k_m2<|Jp h rfl (Jc h rfl k_m2<|Ji h rfl) (Jd h rfl rfl<|Jf h rfl rfl))
theorem e1_8_25{f1}(h:Fx f1)(S):f1 (8,25,[.ref 0],[],S)=some (some (.int (S 0 7)),S):=Jd h rfl rfl<|Jj h rfl (S 0 7)<|Ji h rfl
theorem e1_9_0{f1}(h:Fx f1)(x1:Int32)(S):f1 (9,0,[.ref 0,.int x1],[],S)=if x1<1 then f1 (9,9,[.ref 0,.int x1,.int 1],[],S) else f1 (9,9,[.ref 0,.int x1,.int x1],[],S):=Jb h rfl rfl<|Je h rfl [.ref 0,.int x1,.int x1]<|Jb h rfl rfl<|Jc h rfl k_1<|Jm h rfl (Jc h rfl k_1<|Je h rfl [.ref 0,.int x1,.int 1] rfl) rfl
theorem e1_9_9{f1}(h:Fx f1)(x1 x2:Int32)(S):f1 (9,9,[.ref 0,.int x1,.int x2],[],S)=if 256<x2 then f1 (9,20,[.ref 0,.int x1,.int 256],[],S) else f1 (9,20,[.ref 0,.int x1,.int x2],[],S):=Jb h rfl rfl<|Jc h rfl k_256<|JO h rfl (Jc h rfl k_256<|Je h rfl [.ref 0,.int x1,.int 256] rfl) rfl
theorem e1_9_20{f1}(h:Fx f1)(x1 x2:Int32)(S):f1 (9,20,[.ref 0,.int x1,.int x2],[],S)=if (S 0 1)=0 then some (some (.int (-1)),S) else if (S 0 7)=(-2) then some (some (.int (-2)),S) else f1 (9,43,[.ref 0,.int x1,.int x2,.int 0],[],S):=Jd h rfl rfl<|Jj h rfl (S 0 1)<|Js h rfl (Jc h rfl k_m1<|Ji h rfl) (Jd h rfl rfl<|Jj h rfl (S 0 7)<|Jc h rfl k_m2<|Jp h rfl (Jc h rfl k_m2<|Ji h rfl) (Jc h rfl k_0<|Je h rfl [.ref 0,.int x1,.int x2,.int 0] rfl))
theorem e1_9_43{f1}(h:Fx f1)(x1 x2 x3:Int32)(S):f1 (9,43,[.ref 0,.int x1,.int x2,.int x3],[],S)=if x3<x2 then (f1 (63,0,[.ref 0],[],S)).bind fun q=>f1 (9,52,[.ref 0,.int x1,.int x2,.int x3],q.1.toList++[],q.2) else some (some (.int (S 0 7)),S):=Jb h rfl rfl<|Jb h rfl rfl<|Jm h rfl (Jd h rfl rfl<|Jf h rfl rfl) (Jd h rfl rfl<|Jj h rfl (S 0 7)<|Ji h rfl)
theorem e1_9_52{f1}(h:Fx f1)(x1 x2 x3:Int32)(S):f1 (9,52,[.ref 0,.int x1,.int x2,.int x3],[],S)=if (S 0 7)=(-2) then some (some (.int (S 0 7)),S) else (f1 (20,0,[.ref 0,.int (S 0 7)],[],S)).bind fun q=>f1 (9,69,[.ref 0,.int x1,.int x2,.int x3],q.1.toList++[],q.2):=Jd h rfl rfl<|Jj h rfl (S 0 7)<|Jc h rfl k_m2<|JA h rfl (Jd h rfl rfl<|Jj h rfl (S 0 7)<|Ji h rfl) (Jd h rfl rfl<|Jd h rfl rfl<|Jj h rfl (S 0 7)<|Jf h rfl rfl)
theorem e1_9_69{f1}(h:Fx f1)(x1 x2 x3 y0:Int32)(S):f1 (9,69,[.ref 0,.int x1,.int x2,.int x3],[.int y0],S)=if y0=0 then f1 (9,43,[.ref 0,.int x1,.int x2,.int (x3+1)],[],S) else some (some (.int (S 0 7)),S):=Jy h rfl (Jn h rfl k_1 rfl [.ref 0,.int x1,.int x2,.int (x3+1)]<|Jh h rfl rfl) (Jh h rfl<|Jd h rfl rfl<|Jj h rfl (S 0 7)<|Ji h rfl)
theorem e1_7_0{f1}(h:Fx f1)(x1 x2:Int32)(S):f1 (7,0,[.ref 0,.int x1,.int x2],[],S)=if (S 0 1)=0 then some (some (.int 0),S) else if x1<0 then some (some (.int 0),S) else if x1<(S 0 4) then if x1<32 then if inb x1 32=true then some (some (.int 1),(upd S 16 (x1).toNatClampNeg (x2&&&1))) else none else some (some (.int 0),S) else some (some (.int 0),S):=Jd h rfl rfl<|Jj h rfl (S 0 1)<|Js h rfl (Jc h rfl k_0<|Jl h rfl) (Jb h rfl rfl<|JB h rfl (Jc h rfl k_0<|Jl h rfl) (Jb h rfl rfl<|Jd h rfl rfl<|Jj h rfl (S 0 4)<|Jm h rfl (Jb h rfl rfl<|Jc h rfl k_32<|JJ h rfl (Jd h rfl rfl<|Jg h rfl<|Jb h rfl rfl<|Jb h rfl rfl<|Jaa h rfl rfl (x2&&&1) fun i0=>Jc h rfl k_1<|JC h rfl) (Jc h rfl k_0<|Jl h rfl)) (Jc h rfl k_0<|Jl h rfl)))
theorem e1_4_0{f1}(h:Fx f1)(S):f1 (4,0,[.ref 0],[],S)=if (S 0 1)=0 then (f1 (22,0,[.ref 0],[],S)).bind fun q=>f1 (4,13,[.ref 0],q.1.toList++[],q.2) else some (some (.int 3),S):=Jd h rfl rfl<|Jj h rfl (S 0 1)<|Jy h rfl (Jd h rfl rfl<|Jf h rfl rfl) (Jc h rfl k_3<|Ji h rfl)
theorem e1_4_13{f1}(h:Fx f1)(y0:Int32)(S):f1 (4,13,[.ref 0],[.int y0],S)=if y0<0 then (f1 (53,0,[.ref 0],[],S)).bind fun q=>f1 (4,39,[.ref 0,.int y0],q.1.toList++[],q.2) else some (some (.int 2),(upd (upd (upd S 0 2 y0) 0 4 0) 0 6 0)):=Je h rfl [.ref 0,.int y0]<|Jb h rfl rfl<|JB h rfl (Jd h rfl rfl<|Jf h rfl rfl) (Jd h rfl rfl<|Jb h rfl rfl<|Jw h rfl<|Jd h rfl rfl<|Jc h rfl k_0<|Jw h rfl<|Jd h rfl rfl<|Jc h rfl k_0<|Jw h rfl<|Jc h rfl k_2<|Ji h rfl)
theorem e1_4_39{f1}(h:Fx f1)(x1:Int32)(S):f1 (4,39,[.ref 0,.int x1],[],S)=(f1 (59,0,[.ref 0],[],S)).bind fun q=>f1 (4,43,[.ref 0,.int x1],q.1.toList++[],q.2):=Jd h rfl rfl<|Jf h rfl rfl
theorem e1_4_43{f1}(h:Fx f1)(x1:Int32)(S):f1 (4,43,[.ref 0,.int x1],[],S)=(f1 (18,0,[.ref 0],[],S)).bind fun q=>f1 (4,47,[.ref 0,.int x1],q.1.toList++[],q.2):=Jd h rfl rfl<|Jf h rfl rfl
theorem e1_4_47{f1}(h:Fx f1)(x1:Int32)(S):f1 (4,47,[.ref 0,.int x1],[],S)=(f1 (19,0,[.ref 0],[],(upd (upd S 0 2 (-1)) 0 1 1))).bind fun q=>f1 (4,61,[.ref 0,.int x1],q.1.toList++[],q.2):=Jd h rfl rfl<|Jc h rfl k_m1<|Jw h rfl<|Jd h rfl rfl<|Jc h rfl k_1<|Jax h rfl<|Jd h rfl rfl<|Jf h rfl rfl
theorem e1_4_61{f1}(h:Fx f1)(x1:Int32)(S):f1 (4,61,[.ref 0,.int x1],[],S)=some (some (.int 1),S):=Jc h rfl k_1<|Ji h rfl
theorem e1_22_0{f1}(h:Fx f1)(S):f1 (22,0,[.ref 0],[],S)=(f1 (23,0,[.ref 0],[],S)).bind fun q=>f1 (22,4,[.ref 0],q.1.toList++[],q.2):=Jd h rfl rfl<|Jf h rfl rfl
theorem e1_22_4{f1}(h:Fx f1)(S):f1 (22,4,[.ref 0],[],S)=f1 (22,6,[.ref 0,.int 0],[],S):=Jc h rfl k_0<|Je h rfl [.ref 0,.int 0] rfl
theorem e1_22_6{f1}(h:Fx f1)(x1:Int32)(S):f1 (22,6,[.ref 0,.int x1],[],S)=if x1<(S 0 3) then if x1<96 then if inb x1 96=true then (f1 (24,0,[.ref 0,.int (S 1 (x1).toNatClampNeg),.int (S 2 (x1).toNatClampNeg)],[],S)).bind fun q=>f1 (22,36,[.ref 0,.int x1],q.1.toList++[],q.2) else none else f1 (22,47,[.ref 0,.int x1],[],S) else f1 (22,47,[.ref 0,.int x1],[],S):=Jb h rfl rfl<|Jd h rfl rfl<|Jj h rfl (S 0 3)<|Jm h rfl (Jb h rfl rfl<|Jc h rfl k_96<|Jm h rfl (Jd h rfl rfl<|Jd h rfl rfl<|Jg h rfl<|Jb h rfl rfl<|Jo h rfl rfl (S 1 (x1).toNatClampNeg) fun i0=>Jd h rfl rfl<|Jg h rfl<|Jb h rfl rfl<|JF h rfl rfl i0 (S 2 (x1).toNatClampNeg)<|Jf h rfl rfl) rfl) rfl
theorem e1_22_36{f1}(h:Fx f1)(x1 y0:Int32)(S):f1 (22,36,[.ref 0,.int x1],[.int y0],S)=if y0=0 then some (some (.int x1),S) else f1 (22,6,[.ref 0,.int (x1+1)],[],S):=Js h rfl (Jb h rfl rfl<|Ji h rfl) (Jn h rfl k_1 rfl [.ref 0,.int (x1+1)]<|Jh h rfl rfl)
theorem e1_22_47{f1}(h:Fx f1)(x1:Int32)(S):f1 (22,47,[.ref 0,.int x1],[],S)=if (S 0 11)=0 then if (S 0 13)=0 then some (some (.int (-1)),S) else some (some (.int (S 0 3)),S) else some (some (.int (S 0 3)),S):=Jd h rfl rfl<|Jj h rfl (S 0 11)<|Js h rfl (Jd h rfl rfl<|Jj h rfl (S 0 13)<|Jy h rfl (Jc h rfl k_m1<|Ji h rfl) (Jd h rfl rfl<|Jj h rfl (S 0 3)<|Ji h rfl)) (Jd h rfl rfl<|Jj h rfl (S 0 3)<|Ji h rfl)
theorem e1_23_0{f1}(h:Fx f1)(S):f1 (23,0,[.ref 0],[],S)=(f1 (29,0,[.ref 0],[],(upd (upd (upd (upd (upd (upd (upd (upd S 0 4 0) 0 6 0) 0 5 (-1)) 0 13 0) 25 0 (-1)) 26 0 (-1)) 0 11 0) 0 12 (-1)))).bind fun q=>f1 (23,48,[.ref 0],q.1.toList++[],q.2):=Jd h rfl rfl<|Jc h rfl k_0<|Jw h rfl<|Jd h rfl rfl<|Jc h rfl k_0<|Jw h rfl<|Jd h rfl rfl<|Jc h rfl k_m1<|Jw h rfl<|Jd h rfl rfl<|Jc h rfl k_0<|Jw h rfl<|Jd h rfl rfl<|Jg h rfl<|Jc h rfl k_0<|Jc h rfl k_m1<|JaB h rfl rfl (-1) 0<|Jd h rfl rfl<|Jg h rfl<|Jc h rfl k_0<|Jc h rfl k_m1<|JaB h rfl rfl (-1) 0<|Jd h rfl rfl<|Jc h rfl k_0<|Jw h rfl<|Jd h rfl rfl<|Jc h rfl k_m1<|Jw h rfl<|Jd h rfl rfl<|Jf h rfl rfl
theorem e1_23_48{f1}(h:Fx f1)(S):f1 (23,48,[.ref 0],[],S)=some (none,S):=Jk h rfl
theorem e1_29_0{f1}(h:Fx f1)(S):f1 (29,0,[.ref 0],[],S)=f1 (29,24,[.ref 0,.int 0],[],(upd (upd (upd (upd S 0 14 0) 0 15 0) 0 16 0) 31 0 0)):=Jd h rfl rfl<|Jc h rfl k_0<|Jw h rfl<|Jd h rfl rfl<|Jc h rfl k_0<|Jw h rfl<|Jd h rfl rfl<|Jc h rfl k_0<|Jw h rfl<|Jd h rfl rfl<|Jg h rfl<|Jc h rfl k_0<|Jc h rfl k_0<|JaC h rfl rfl 0 0<|Jc h rfl k_0<|Je h rfl [.ref 0,.int 0] rfl
theorem e1_29_24{f1}(h:Fx f1)(x1:Int32)(S):f1 (29,24,[.ref 0,.int x1],[],S)=if x1<8 then if inb x1 8=true then f1 (29,24,[.ref 0,.int (x1+1)],[],(upd S 29 (x1).toNatClampNeg (-1))) else none else some (none,S):=Jb h rfl rfl<|Jc h rfl k_8<|Jm h rfl (Jd h rfl rfl<|Jg h rfl<|Jb h rfl rfl<|Jc h rfl k_m1<|Jv h rfl rfl (-1) fun i0=>Jn h rfl k_1 rfl [.ref 0,.int (x1+1)]<|Jh h rfl rfl) (Jk h rfl)
theorem e1_24_0{f1}(h:Fx f1)(x1 x2:Int32)(S):f1 (24,0,[.ref 0,.int x1,.int x2],[],S)=if (S 0 11)=0 then (f1 (25,0,[.ref 0,.int x1,.int x2],[],S)).bind fun q=>f1 (24,13,[.ref 0,.int x1,.int x2],q.1.toList++[],q.2) else if (S 0 11)=1 then if x1=3 then (f1 (29,0,[.ref 0],[],S)).bind fun q=>f1 (24,33,[.ref 0,.int x1,.int x2],q.1.toList++[],q.2) else some (some (.int 0),S) else if (S 0 11)=2 then (f1 (30,0,[.ref 0,.int x1,.int x2],[],S)).bind fun q=>f1 (24,54,[.ref 0,.int x1,.int x2],q.1.toList++[],q.2) else (f1 (31,0,[.ref 0,.int x1],[],S)).bind fun q=>f1 (24,60,[.ref 0,.int x1,.int x2],q.1.toList++[],q.2):=Jd h rfl rfl<|Jj h rfl (S 0 11)<|Js h rfl (Jd h rfl rfl<|Jb h rfl rfl<|Jb h rfl rfl<|Jf h rfl rfl) (Jd h rfl rfl<|Jj h rfl (S 0 11)<|Jc h rfl k_1<|Jp h rfl (Jb h rfl rfl<|Jc h rfl k_3<|JA h rfl (Jd h rfl rfl<|Jf h rfl rfl) (Jc h rfl k_0<|Jl h rfl)) (Jd h rfl rfl<|Jj h rfl (S 0 11)<|Jc h rfl k_2<|Jp h rfl (Jd h rfl rfl<|Jb h rfl rfl<|Jb h rfl rfl<|Jf h rfl rfl) (Jd h rfl rfl<|Jb h rfl rfl<|Jf h rfl rfl)))
theorem e1_24_13{f1}(h:Fx f1)(x1 x2 y0:Int32)(S):f1 (24,13,[.ref 0,.int x1,.int x2],[.int y0],S)=some (some (.int (y0&&&1)),S):=J5 h rfl
theorem e1_24_33{f1}(h:Fx f1)(x1 x2:Int32)(S):f1 (24,33,[.ref 0,.int x1,.int x2],[],S)=some (some (.int 1),(upd S 0 11 2)):=Jd h rfl rfl<|Jc h rfl k_2<|Jw h rfl<|Jc h rfl k_1<|JC h rfl
theorem e1_24_54{f1}(h:Fx f1)(x1 x2 y0:Int32)(S):f1 (24,54,[.ref 0,.int x1,.int x2],[.int y0],S)=some (some (.int (y0&&&1)),S):=J5 h rfl
theorem e1_24_60{f1}(h:Fx f1)(x1 x2 y0:Int32)(S):f1 (24,60,[.ref 0,.int x1,.int x2],[.int y0],S)=some (some (.int (y0&&&1)),S):=J5 h rfl
theorem e1_25_0{f1}(h:Fx f1)(x1 x2:Int32)(S):f1 (25,0,[.ref 0,.int x1,.int x2],[],S)=if x1=15 then if 0<(S 0 13) then some (some (.int 1),(upd S 0 13 ((S 0 13)-1))) else some (some (.int 0),S) else if x1=2 then (f1 (26,0,[.ref 0,.int x1],[],S)).bind fun q=>f1 (25,51,[.ref 0,.int x1,.int x2],q.1.toList++[],q.2) else if x1=16 then (f1 (26,0,[.ref 0,.int x1],[],S)).bind fun q=>f1 (25,51,[.ref 0,.int x1,.int x2],q.1.toList++[],q.2) else if x1=17 then (f1 (26,0,[.ref 0,.int x1],[],S)).bind fun q=>f1 (25,51,[.ref 0,.int x1,.int x2],q.1.toList++[],q.2) else some (some (.int 0),S):=Jb h rfl rfl<|Jc h rfl k_15<|Jp h rfl (Jd h rfl rfl<|Jj h rfl (S 0 13)<|Jas h rfl (Jd h rfl rfl<|JN h rfl<|Jj h rfl (S 0 13)<|Jc h rfl k_1<|JG h rfl<|Jw h rfl<|Jc h rfl k_1<|JC h rfl) (Jc h rfl k_0<|Jl h rfl)) (Jb h rfl rfl<|Jc h rfl k_2<|JA h rfl (Jd h rfl rfl<|Jb h rfl rfl<|Jf h rfl rfl) (Jb h rfl rfl<|Jc h rfl k_16<|JA h rfl (Jd h rfl rfl<|Jb h rfl rfl<|Jf h rfl rfl) (Jb h rfl rfl<|Jc h rfl k_17<|JA h rfl (Jd h rfl rfl<|Jb h rfl rfl<|Jf h rfl rfl) (Jc h rfl k_0<|Jl h rfl))))
theorem e1_25_51{f1}(h:Fx f1)(x1 x2 y0:Int32)(S):f1 (25,51,[.ref 0,.int x1,.int x2],[.int y0],S)=if y0<0 then some (some (.int 0),S) else if x1=2 then if inb y0 32=true then some (some (.int 1),(upd (upd S 4 (y0).toNatClampNeg x2) 0 11 1)) else none else (f1 (29,0,[.ref 0],[],S)).bind fun q=>f1 (25,81,[.ref 0,.int x1,.int x2,.int y0],q.1.toList++[],q.2):=Je h rfl [.ref 0,.int x1,.int x2,.int y0]<|Jb h rfl rfl<|JP h rfl (Jc h rfl k_0<|Jl h rfl) (Jb h rfl rfl<|Jc h rfl k_2<|Jp h rfl (Jd h rfl rfl<|Jg h rfl<|Jb h rfl rfl<|Jb h rfl rfl<|Jv h rfl rfl x2 fun i0=>Jd h rfl rfl<|Jc h rfl k_1<|Jw h rfl<|Jc h rfl k_1<|JC h rfl) (Jd h rfl rfl<|Jf h rfl rfl))
theorem e1_25_81{f1}(h:Fx f1)(x1 x2 x3:Int32)(S):f1 (25,81,[.ref 0,.int x1,.int x2,.int x3],[],S)=some (some (.int 1),(upd S 0 11 2)):=Jd h rfl rfl<|Jc h rfl k_2<|Jw h rfl<|Jc h rfl k_1<|JC h rfl
theorem e1_26_0{f1}(h:Fx f1)(x1:Int32)(S):f1 (26,0,[.ref 0,.int x1],[],S)=if (S 0 4)<0 then some (some (.int (-1)),S) else if (S 0 4)<32 then if (S 0 13)<0 then some (some (.int (-1)),S) else if (S 0 13)<40 then f1 (26,51,[.ref 0,.int x1,.int (S 0 4)],[],(upd S 0 4 ((S 0 4)+1))) else some (some (.int (-1)),S) else some (some (.int (-1)),S):=Jd h rfl rfl<|Jj h rfl (S 0 4)<|JB h rfl (Jc h rfl k_m1<|Ji h rfl) (Jd h rfl rfl<|Jj h rfl (S 0 4)<|Jc h rfl k_32<|JJ h rfl (Jd h rfl rfl<|Jj h rfl (S 0 13)<|JB h rfl (Jc h rfl k_m1<|Ji h rfl) (Jd h rfl rfl<|Jj h rfl (S 0 13)<|Jc h rfl k_40<|JJ h rfl (Jd h rfl rfl<|Jj h rfl (S 0 4)<|Je h rfl [.ref 0,.int x1,.int (S 0 4)]<|Jd h rfl rfl<|JN h rfl<|Jj h rfl (S 0 4)<|Jc h rfl k_1<|Jt h rfl<|Jw h rfl rfl) (Jc h rfl k_m1<|Ji h rfl))) (Jc h rfl k_m1<|Ji h rfl))
theorem e1_26_51{f1}(h:Fx f1)(x1 x2:Int32)(S):f1 (26,51,[.ref 0,.int x1,.int x2],[],S)=if inb x2 32=true then f1 (26,86,[.ref 0,.int x1,.int x2],[],(upd (upd (upd (upd (upd S 3 (x2).toNatClampNeg x1) 4 (x2).toNatClampNeg 0) 8 (x2).toNatClampNeg (-1)) 7 (x2).toNatClampNeg (-1)) 12 (x2).toNatClampNeg 0)) else none:=Jd h rfl rfl<|Jg h rfl<|Jb h rfl rfl<|Jb h rfl rfl<|Jv h rfl rfl x1 fun i0=>Jd h rfl rfl<|Jg h rfl<|Jb h rfl rfl<|Jc h rfl k_0<|Jx h rfl rfl 0 i0<|Jd h rfl rfl<|Jg h rfl<|Jb h rfl rfl<|Jc h rfl k_m1<|Jx h rfl rfl (-1) i0<|Jd h rfl rfl<|Jg h rfl<|Jb h rfl rfl<|Jc h rfl k_m1<|Jx h rfl rfl (-1) i0<|Jd h rfl rfl<|Jg h rfl<|Jb h rfl rfl<|Jc h rfl k_0<|Jx h rfl rfl 0 i0 rfl
theorem e1_26_86{f1}(h:Fx f1)(x1 x2:Int32)(S):f1 (26,86,[.ref 0,.int x1,.int x2],[],S)=if inb x2 32=true then f1 (26,125,[.ref 0,.int x1,.int x2],[],(upd (upd (upd (upd (upd S 10 (x2).toNatClampNeg (-1)) 11 (x2).toNatClampNeg (-2)) 13 (x2).toNatClampNeg 1) 14 (x2).toNatClampNeg 0) 9 (x2).toNatClampNeg (S 0 6))) else none:=Jd h rfl rfl<|Jg h rfl<|Jb h rfl rfl<|Jc h rfl k_m1<|Jv h rfl rfl (-1) fun i0=>Jd h rfl rfl<|Jg h rfl<|Jb h rfl rfl<|Jc h rfl k_m2<|Jx h rfl rfl (-2) i0<|Jd h rfl rfl<|Jg h rfl<|Jb h rfl rfl<|Jc h rfl k_1<|Jx h rfl rfl 1 i0<|Jd h rfl rfl<|Jg h rfl<|Jb h rfl rfl<|Jc h rfl k_0<|Jx h rfl rfl 0 i0<|Jd h rfl rfl<|Jg h rfl<|Jb h rfl rfl<|Jd h rfl rfl<|Jj h rfl (S 0 6)<|Jx h rfl rfl (S 0 6) i0 rfl
theorem e1_26_125{f1}(h:Fx f1)(x1 x2:Int32)(S):f1 (26,125,[.ref 0,.int x1,.int x2],[],S)=if inb (S 0 13) 40=true then f1 (26,146,[.ref 0,.int x1,.int x2,.int (S 25 ((S 0 13)).toNatClampNeg),.int (S 26 ((S 0 13)).toNatClampNeg)],[],S) else none:=Jd h rfl rfl<|Jg h rfl<|Jd h rfl rfl<|Jj h rfl (S 0 13)<|Jo h rfl rfl (S 25 ((S 0 13)).toNatClampNeg) fun i0=>Je h rfl [.ref 0,.int x1,.int x2,.int (S 25 ((S 0 13)).toNatClampNeg)]<|Jd h rfl rfl<|Jg h rfl<|Jd h rfl rfl<|Jj h rfl (S 0 13)<|JF h rfl rfl i0 (S 26 ((S 0 13)).toNatClampNeg)<|Je h rfl [.ref 0,.int x1,.int x2,.int (S 25 ((S 0 13)).toNatClampNeg),.int (S 26 ((S 0 13)).toNatClampNeg)] rfl
theorem e1_26_146{f1}(h:Fx f1)(x1 x2 x3 x4:Int32)(S):f1 (26,146,[.ref 0,.int x1,.int x2,.int x3,.int x4],[],S)=if inb x2 32=true then if x4<0 then f1 (26,184,[.ref 0,.int x1,.int x2,.int x3,.int x4],[],(upd (upd S 5 (x2).toNatClampNeg x3) 6 (x2).toNatClampNeg x4)) else if x4<32 then if inb x4 32=true then f1 (26,201,[.ref 0,.int x1,.int x2,.int x3,.int x4],[],(upd (upd (upd S 5 (x2).toNatClampNeg x3) 6 (x2).toNatClampNeg x4) 7 (x4).toNatClampNeg x2)) else none else f1 (26,184,[.ref 0,.int x1,.int x2,.int x3,.int x4],[],(upd (upd S 5 (x2).toNatClampNeg x3) 6 (x2).toNatClampNeg x4)) else none:=Jd h rfl rfl<|Jg h rfl<|Jb h rfl rfl<|Jb h rfl rfl<|Jv h rfl rfl x3 fun i0=>Jd h rfl rfl<|Jg h rfl<|Jb h rfl rfl<|Jb h rfl rfl<|Jx h rfl rfl x4 i0<|Jb h rfl rfl<|JB h rfl rfl (Jb h rfl rfl<|Jc h rfl k_32<|Jm h rfl (Jd h rfl rfl<|Jg h rfl<|Jb h rfl rfl<|Jb h rfl rfl<|Jv h rfl rfl x2 fun i1=>Jh h rfl rfl) rfl)
theorem e1_26_184{f1}(h:Fx f1)(x1 x2 x3 x4:Int32)(S):f1 (26,184,[.ref 0,.int x1,.int x2,.int x3,.int x4],[],S)=if x3<0 then f1 (26,201,[.ref 0,.int x1,.int x2,.int x3,.int x4],[],S) else if x3<32 then if inb x3 32=true then f1 (26,201,[.ref 0,.int x1,.int x2,.int x3,.int x4],[],(upd S 8 (x3).toNatClampNeg x2)) else none else f1 (26,201,[.ref 0,.int x1,.int x2,.int x3,.int x4],[],S):=Jb h rfl rfl<|JB h rfl rfl (Jb h rfl rfl<|Jc h rfl k_32<|Jm h rfl (Jd h rfl rfl<|Jg h rfl<|Jb h rfl rfl<|Jb h rfl rfl<|Jv h rfl rfl x2 fun i0=>rfl) rfl)
theorem e1_26_201{f1}(h:Fx f1)(x1 x2 x3 x4:Int32)(S):f1 (26,201,[.ref 0,.int x1,.int x2,.int x3,.int x4],[],S)=if inb (S 0 13) 40=true then some (some (.int x2),(upd (upd S 26 ((S 0 13)).toNatClampNeg x2) 0 12 x2)) else none:=Jd h rfl rfl<|Jg h rfl<|Jd h rfl rfl<|Jj h rfl (S 0 13)<|Jb h rfl rfl<|Jv h rfl rfl x2 fun i0=>Jd h rfl rfl<|Jb h rfl rfl<|Jw h rfl<|Jb h rfl rfl<|Ji h rfl
theorem e1_30_0{f1}(h:Fx f1)(x1 x2:Int32)(S):f1 (30,0,[.ref 0,.int x1,.int x2],[],S)=if x1=1 then f1 (30,10,[.ref 0,.int x1,.int x2],[],S) else if x1=2 then f1 (30,10,[.ref 0,.int x1,.int x2],[],S) else if x1=6 then (f1 (36,0,[.ref 0,.int 20],[],S)).bind fun q=>f1 (30,49,[.ref 0,.int x1,.int x2],q.1.toList++[],q.2) else if x1=12 then if (S 0 16)<0 then some (some (.int 0),S) else if ((S 0 16)+1)<96 then (f1 (36,0,[.ref 0,.int 21],[],S)).bind fun q=>f1 (30,82,[.ref 0,.int x1,.int x2],q.1.toList++[],q.2) else some (some (.int 0),S) else some (some (.int 0),S):=Jb h rfl rfl<|Jc h rfl k_1<|JA h rfl rfl (Jb h rfl rfl<|Jc h rfl k_2<|Jp h rfl rfl (Jb h rfl rfl<|Jc h rfl k_6<|Jp h rfl (Jd h rfl rfl<|Jc h rfl k_20<|Jf h rfl rfl) (Jb h rfl rfl<|Jc h rfl k_12<|Jp h rfl (Jd h rfl rfl<|Jj h rfl (S 0 16)<|JB h rfl (Jc h rfl k_0<|Jl h rfl) (Jd h rfl rfl<|Jj h rfl (S 0 16)<|Jc h rfl k_1<|Jt h rfl<|Jc h rfl k_96<|JJ h rfl (Jd h rfl rfl<|Jc h rfl k_21<|Jf h rfl rfl) (Jc h rfl k_0<|Jl h rfl))) (Jc h rfl k_0<|Jl h rfl))))
theorem e1_30_10{f1}(h:Fx f1)(x1 x2:Int32)(S):f1 (30,10,[.ref 0,.int x1,.int x2],[],S)=if x1=1 then (f1 (38,0,[.ref 0,.int 1,.int x2],[],S)).bind fun q=>f1 (30,25,[.ref 0,.int x1,.int x2,.int 1],q.1.toList++[],q.2) else (f1 (38,0,[.ref 0,.int 2,.int x2],[],S)).bind fun q=>f1 (30,25,[.ref 0,.int x1,.int x2,.int 2],q.1.toList++[],q.2):=Jc h rfl k_2<|Je h rfl [.ref 0,.int x1,.int x2,.int 2]<|Jb h rfl rfl<|Jc h rfl k_1<|Jp h rfl (Jc h rfl k_1<|Je h rfl [.ref 0,.int x1,.int x2,.int 1]<|Jd h rfl rfl<|Jb h rfl rfl<|Jb h rfl rfl<|Jf h rfl rfl) (Jd h rfl rfl<|Jb h rfl rfl<|Jb h rfl rfl<|Jf h rfl rfl)
theorem e1_30_25{f1}(h:Fx f1)(x1 x2 x3 y0:Int32)(S):f1 (30,25,[.ref 0,.int x1,.int x2,.int x3],[.int y0],S)=if y0=0 then some (some (.int 0),S) else some (some (.int 1),(upd S 0 11 3)):=Js h rfl (Jc h rfl k_0<|Jl h rfl) (Jd h rfl rfl<|Jc h rfl k_3<|Jw h rfl<|Jc h rfl k_1<|JC h rfl)
theorem e1_38_0{f1}(h:Fx f1)(x1 x2:Int32)(S):f1 (38,0,[.ref 0,.int x1,.int x2],[],S)=if (S 0 14)<0 then some (some (.int 0),S) else if (S 0 14)<96 then if inb (S 0 14) 96=true then some (some (.int 1),(upd (upd (upd S 27 ((S 0 14)).toNatClampNeg x1) 28 ((S 0 14)).toNatClampNeg x2) 0 14 ((S 0 14)+1))) else none else some (some (.int 0),S):=Jd h rfl rfl<|Jj h rfl (S 0 14)<|JB h rfl (Jc h rfl k_0<|Jl h rfl) (Jd h rfl rfl<|Jj h rfl (S 0 14)<|Jc h rfl k_96<|JJ h rfl (Jd h rfl rfl<|Jg h rfl<|Jd h rfl rfl<|Jj h rfl (S 0 14)<|Jb h rfl rfl<|Jv h rfl rfl x1 fun i0=>Jd h rfl rfl<|Jg h rfl<|Jd h rfl rfl<|Jj h rfl (S 0 14)<|Jb h rfl rfl<|Jx h rfl rfl x2 i0<|Jd h rfl rfl<|JN h rfl<|Jj h rfl (S 0 14)<|Jc h rfl k_1<|Jt h rfl<|Jw h rfl<|Jc h rfl k_1<|JC h rfl) (Jc h rfl k_0<|Jl h rfl))
theorem e1_31_0{f1}(h:Fx f1)(x1:Int32)(S):f1 (31,0,[.ref 0,.int x1],[],S)=(f1 (34,0,[.ref 0,.int x1],[],S)).bind fun q=>f1 (31,5,[.ref 0,.int x1],q.1.toList++[],q.2):=Jd h rfl rfl<|Jb h rfl rfl<|Jf h rfl rfl
theorem e1_31_5{f1}(h:Fx f1)(x1 y0:Int32)(S):f1 (31,5,[.ref 0,.int x1],[.int y0],S)=if y0=0 then if x1=13 then f1 (31,21,[.ref 0,.int x1],[.ref 0],S) else if (S 0 16)=0 then (f1 (28,0,[.ref 0],[],S)).bind fun q=>f1 (31,38,[.ref 0,.int x1],q.1.toList++[],q.2) else some (some (.int 0),S) else (f1 (32,0,[.ref 0,.int x1],[],S)).bind fun q=>f1 (31,13,[.ref 0,.int x1],q.1.toList++[],q.2):=Jy h rfl (Jb h rfl rfl<|Jc h rfl k_13<|Jp h rfl (Jd h rfl rfl rfl) (Jd h rfl rfl<|Jj h rfl (S 0 16)<|Jy h rfl (Jd h rfl rfl<|Jf h rfl rfl) (Jc h rfl k_0<|Jl h rfl))) (Jd h rfl rfl<|Jb h rfl rfl<|Jf h rfl rfl)
theorem e1_31_13{f1}(h:Fx f1)(x1 y0:Int32)(S):f1 (31,13,[.ref 0,.int x1],[.int y0],S)=some (some (.int (y0&&&1)),S):=J5 h rfl
theorem e1_31_38{f1}(h:Fx f1)(x1 y0:Int32)(S):f1 (31,38,[.ref 0,.int x1],[.int y0],S)=if y0=0 then f1 (31,64,[.ref 0,.int x1,.int y0],[],S) else if x1=4 then (f1 (37,0,[.ref 0,.int 0],[],S)).bind fun q=>f1 (31,53,[.ref 0,.int x1,.int y0],q.1.toList++[],q.2) else f1 (31,64,[.ref 0,.int x1,.int y0],[],S):=Je h rfl [.ref 0,.int x1,.int y0]<|Jb h rfl rfl<|Jy h rfl rfl (Jb h rfl rfl<|Jc h rfl k_4<|Jp h rfl (Jd h rfl rfl<|Jc h rfl k_0<|Jf h rfl rfl) rfl)
theorem e1_31_53{f1}(h:Fx f1)(x1 x2:Int32)(S):f1 (31,53,[.ref 0,.int x1,.int x2],[],S)=(f1 (50,0,[.ref 0],[],S)).bind fun q=>f1 (31,57,[.ref 0,.int x1,.int x2],q.1.toList++[],q.2):=Jd h rfl rfl<|Jf h rfl rfl
theorem e1_31_57{f1}(h:Fx f1)(x1 x2:Int32)(S):f1 (31,57,[.ref 0,.int x1,.int x2],[],S)=some (some (.int 1),(upd S 0 11 0)):=Jd h rfl rfl<|Jc h rfl k_0<|Jw h rfl<|Jc h rfl k_1<|JC h rfl
theorem e1_31_64{f1}(h:Fx f1)(x1 x2:Int32)(S):f1 (31,64,[.ref 0,.int x1,.int x2],[],S)=if x2=0 then if x1=14 then (f1 (37,0,[.ref 0,.int 0],[],S)).bind fun q=>f1 (31,79,[.ref 0,.int x1,.int x2],q.1.toList++[],q.2) else some (some (.int 0),S) else some (some (.int 0),S):=Jb h rfl rfl<|Js h rfl (Jb h rfl rfl<|Jc h rfl k_14<|Jp h rfl (Jd h rfl rfl<|Jc h rfl k_0<|Jf h rfl rfl) (Jc h rfl k_0<|Jl h rfl)) (Jc h rfl k_0<|Jl h rfl)
theorem e1_31_79{f1}(h:Fx f1)(x1 x2:Int32)(S):f1 (31,79,[.ref 0,.int x1,.int x2],[],S)=(f1 (51,0,[.ref 0],[],S)).bind fun q=>f1 (31,83,[.ref 0,.int x1,.int x2],q.1.toList++[],q.2):=Jd h rfl rfl<|Jf h rfl rfl
theorem e1_31_83{f1}(h:Fx f1)(x1 x2:Int32)(S):f1 (31,83,[.ref 0,.int x1,.int x2],[],S)=(f1 (27,0,[.ref 0],[],S)).bind fun q=>f1 (31,87,[.ref 0,.int x1,.int x2],q.1.toList++[],q.2):=Jd h rfl rfl<|Jf h rfl rfl
theorem e1_31_87{f1}(h:Fx f1)(x1 x2 y0:Int32)(S):f1 (31,87,[.ref 0,.int x1,.int x2],[.int y0],S)=some (some (.int (y0&&&1)),S):=J5 h rfl
theorem e1_34_0{f1}(h:Fx f1)(x1:Int32)(S):f1 (34,0,[.ref 0,.int x1],[],S)=if x1<5 then some (some (.int 0),S) else if 11<x1 then some (some (.int 0),S) else some (some (.int 1),S):=Jb h rfl rfl<|Jc h rfl k_5<|JJ h rfl (Jc h rfl k_0<|Jl h rfl) (Jb h rfl rfl<|Jc h rfl k_11<|JT h rfl (Jc h rfl k_0<|Jl h rfl) (Jc h rfl k_1<|Jh h rfl<|JC h rfl))
theorem e1_32_0{f1}(h:Fx f1)(x1:Int32)(S):f1 (32,0,[.ref 0,.int x1],[],S)=if x1=10 then f1 (32,12,[.ref 0,.int x1],[],S) else if x1=11 then f1 (32,12,[.ref 0,.int x1],[],S) else (f1 (35,0,[.ref 0,.int x1],[],S)).bind fun q=>f1 (32,59,[.ref 0,.int x1],q.1.toList++[],q.2):=Jb h rfl rfl<|Jc h rfl k_10<|JA h rfl rfl (Jb h rfl rfl<|Jc h rfl k_11<|Jp h rfl rfl (Jd h rfl rfl<|Jb h rfl rfl<|Jf h rfl rfl))
theorem e1_32_12{f1}(h:Fx f1)(x1:Int32)(S):f1 (32,12,[.ref 0,.int x1],[],S)=if (S 0 16)<0 then some (some (.int 0),S) else if (S 0 16)<96 then if inb (S 0 16) 96=true then if (S 31 ((S 0 16)).toNatClampNeg)=0 then (f1 (35,0,[.ref 0,.int x1],[],(upd S 31 ((S 0 16)).toNatClampNeg 1))).bind fun q=>f1 (32,59,[.ref 0,.int x1],q.1.toList++[],q.2) else some (some (.int 0),S) else none else some (some (.int 0),S):=Jd h rfl rfl<|Jj h rfl (S 0 16)<|JB h rfl (Jc h rfl k_0<|Jl h rfl) (Jd h rfl rfl<|Jj h rfl (S 0 16)<|Jc h rfl k_96<|JJ h rfl (Jd h rfl rfl<|Jg h rfl<|Jd h rfl rfl<|Jj h rfl (S 0 16)<|J0 h rfl rfl (S 31 ((S 0 16)).toNatClampNeg) fun i0=>Jy h rfl (Jd h rfl rfl<|Jg h rfl<|Jd h rfl rfl<|Jj h rfl (S 0 16)<|Jc h rfl k_1<|J3 h rfl rfl 1 i0<|Jd h rfl rfl<|Jb h rfl rfl<|Jf h rfl rfl) (Jc h rfl k_0<|Jl h rfl)) (Jc h rfl k_0<|Jl h rfl))
theorem e1_32_59{f1}(h:Fx f1)(x1 y0:Int32)(S):f1 (32,59,[.ref 0,.int x1],[.int y0],S)=(f1 (37,0,[.ref 0,.int y0],[],S)).bind fun q=>f1 (32,65,[.ref 0,.int x1,.int y0],q.1.toList++[],q.2):=Je h rfl [.ref 0,.int x1,.int y0]<|Jd h rfl rfl<|Jb h rfl rfl<|Jf h rfl rfl
theorem e1_32_65{f1}(h:Fx f1)(x1 x2:Int32)(S):f1 (32,65,[.ref 0,.int x1,.int x2],[],S)=(f1 (36,0,[.ref 0,.int x1],[],S)).bind fun q=>f1 (32,70,[.ref 0,.int x1,.int x2],q.1.toList++[],q.2):=Jd h rfl rfl<|Jb h rfl rfl<|Jf h rfl rfl
theorem e1_32_70{f1}(h:Fx f1)(x1 x2 y0:Int32)(S):f1 (32,70,[.ref 0,.int x1,.int x2],[.int y0],S)=if y0=0 then some (some (.int 0),S) else some (some (.int 1),(upd S 0 11 2)):=Js h rfl (Jc h rfl k_0<|Jl h rfl) (Jd h rfl rfl<|Jc h rfl k_2<|Jw h rfl<|Jc h rfl k_1<|JC h rfl)
theorem e1_35_0{f1}(h:Fx f1)(x1:Int32)(S):f1 (35,0,[.ref 0,.int x1],[],S)=if x1=10 then some (some (.int 1),S) else if x1=11 then some (some (.int 1),S) else if x1=5 then some (some (.int 2),S) else if x1=6 then some (some (.int 2),S) else if x1=7 then some (some (.int 3),S) else if x1=8 then some (some (.int 3),S) else if x1=9 then some (some (.int 3),S) else if x1=20 then some (some (.int 4),S) else some (some (.int 0),S):=Jb h rfl rfl<|Jc h rfl k_10<|JA h rfl (Jc h rfl k_1<|Ji h rfl) (Jb h rfl rfl<|Jc h rfl k_11<|Jp h rfl (Jc h rfl k_1<|Ji h rfl) (Jb h rfl rfl<|Jc h rfl k_5<|JA h rfl (Jc h rfl k_2<|Ji h rfl) (Jb h rfl rfl<|Jc h rfl k_6<|Jp h rfl (Jc h rfl k_2<|Ji h rfl) (Jb h rfl rfl<|Jc h rfl k_7<|JA h rfl (Jc h rfl k_3<|Ji h rfl) (Jb h rfl rfl<|Jc h rfl k_8<|JA h rfl (Jc h rfl k_3<|Ji h rfl) (Jb h rfl rfl<|Jc h rfl k_9<|Jp h rfl (Jc h rfl k_3<|Ji h rfl) (Jb h rfl rfl<|Jc h rfl k_20<|Jp h rfl (Jc h rfl k_4<|Ji h rfl) (Jc h rfl k_0<|Ji h rfl))))))))
theorem e1_37_0{f1}(h:Fx f1)(x1:Int32)(S):f1 (37,0,[.ref 0,.int x1],[],S)=f1 (37,2,[.ref 0,.int x1,.int 0],[],S):=Jc h rfl k_0<|Je h rfl [.ref 0,.int x1,.int 0] rfl
theorem e1_37_2{f1}(h:Fx f1)(x1 x2:Int32)(S):f1 (37,2,[.ref 0,.int x1,.int x2],[],S)=if x2<96 then if 0<(S 0 15) then if 96<(S 0 15) then some (none,S) else if inb ((S 0 15)-1) 96=true then if (S 30 (((S 0 15)-1)).toNatClampNeg)=21 then some (none,S) else (f1 (35,0,[.ref 0,.int (S 30 (((S 0 15)-1)).toNatClampNeg)],[],S)).bind fun q=>f1 (37,48,[.ref 0,.int x1,.int x2,.int (S 30 (((S 0 15)-1)).toNatClampNeg)],q.1.toList++[],q.2) else none else some (none,S) else some (none,S):=Jb h rfl rfl<|Jc h rfl k_96<|Jm h rfl (Jd h rfl rfl<|Jj h rfl (S 0 15)<|Jab h rfl (Jd h rfl rfl<|Jj h rfl (S 0 15)<|Jc h rfl k_96<|JT h rfl (Jk h rfl) (Jd h rfl rfl<|Jg h rfl<|Jd h rfl rfl<|Jj h rfl (S 0 15)<|Jc h rfl k_1<|JG h rfl<|Jo h rfl rfl (S 30 (((S 0 15)-1)).toNatClampNeg) fun i0=>Je h rfl [.ref 0,.int x1,.int x2,.int (S 30 (((S 0 15)-1)).toNatClampNeg)]<|Jb h rfl rfl<|Jc h rfl k_21<|Jp h rfl (Jk h rfl) (Jd h rfl rfl<|Jb h rfl rfl<|Jf h rfl rfl))) (Jk h rfl)) (Jk h rfl)
theorem e1_37_48{f1}(h:Fx f1)(x1 x2 x3 y0:Int32)(S):f1 (37,48,[.ref 0,.int x1,.int x2,.int x3],[.int y0],S)=if y0<x1 then some (none,S) else (f1 (39,0,[.ref 0,.int x3],[],(upd S 0 15 ((S 0 15)-1)))).bind fun q=>f1 (37,72,[.ref 0,.int x1,.int x2,.int x3,.int y0],q.1.toList++[],q.2):=Je h rfl [.ref 0,.int x1,.int x2,.int x3,.int y0]<|Jb h rfl rfl<|Jb h rfl rfl<|Jm h rfl (Jk h rfl) (Jd h rfl rfl<|JN h rfl<|Jj h rfl (S 0 15)<|Jc h rfl k_1<|JG h rfl<|Jw h rfl<|Jd h rfl rfl<|Jb h rfl rfl<|Jf h rfl rfl)
theorem e1_37_72{f1}(h:Fx f1)(x1 x2 x3 x4:Int32)(S):f1 (37,72,[.ref 0,.int x1,.int x2,.int x3,.int x4],[],S)=f1 (37,2,[.ref 0,.int x1,.int (x2+1)],[],S):=Jn h rfl k_1 rfl [.ref 0,.int x1,.int (x2+1),.int x3,.int x4]<|Jh h rfl<|Jr h rfl rfl
theorem e1_36_0{f1}(h:Fx f1)(x1:Int32)(S):f1 (36,0,[.ref 0,.int x1],[],S)=if (S 0 15)<0 then some (some (.int 0),S) else if (S 0 15)<96 then if inb (S 0 15) 96=true then some (some (.int 1),(upd (upd S 30 ((S 0 15)).toNatClampNeg x1) 0 15 ((S 0 15)+1))) else none else some (some (.int 0),S):=Jd h rfl rfl<|Jj h rfl (S 0 15)<|JB h rfl (Jc h rfl k_0<|Jl h rfl) (Jd h rfl rfl<|Jj h rfl (S 0 15)<|Jc h rfl k_96<|JJ h rfl (Jd h rfl rfl<|Jg h rfl<|Jd h rfl rfl<|Jj h rfl (S 0 15)<|Jb h rfl rfl<|Jv h rfl rfl x1 fun i0=>Jd h rfl rfl<|JN h rfl<|Jj h rfl (S 0 15)<|Jc h rfl k_1<|Jt h rfl<|Jw h rfl<|Jc h rfl k_1<|JC h rfl) (Jc h rfl k_0<|Jl h rfl))
theorem e1_28_0{f1}(h:Fx f1)(S):f1 (28,0,[.ref 0],[],S)=if (S 0 12)<0 then some (some (.int 0),S) else if (S 0 12)<32 then if inb (S 0 12) 32=true then if (S 3 ((S 0 12)).toNatClampNeg)=2 then some (some (.int 1),S) else some (some (.int 0),S) else none else some (some (.int 0),S):=Jd h rfl rfl<|Jj h rfl (S 0 12)<|JB h rfl (Jc h rfl k_0<|Jl h rfl) (Jd h rfl rfl<|Jj h rfl (S 0 12)<|Jc h rfl k_32<|JJ h rfl (Jd h rfl rfl<|Jg h rfl<|Jd h rfl rfl<|Jj h rfl (S 0 12)<|Jo h rfl rfl (S 3 ((S 0 12)).toNatClampNeg) fun i0=>Jc h rfl k_2<|Jp h rfl (Jc h rfl k_1<|Jh h rfl<|JC h rfl) (Jc h rfl k_0<|Jl h rfl)) (Jc h rfl k_0<|Jl h rfl))
theorem e1_39_0{f1}(h:Fx f1)(x1:Int32)(S):f1 (39,0,[.ref 0,.int x1],[],S)=if x1=20 then f1 (39,7,[.ref 0,.int x1],[.ref 0],S) else (f1 (41,0,[.ref 0,.int x1],[],S)).bind fun q=>f1 (39,18,[.ref 0,.int x1],q.1.toList++[],q.2):=Jb h rfl rfl<|Jc h rfl k_20<|Jp h rfl (Jd h rfl rfl rfl) (Jd h rfl rfl<|Jb h rfl rfl<|Jf h rfl rfl)
theorem e1_39_18{f1}(h:Fx f1)(x1:Int32)(S):f1 (39,18,[.ref 0,.int x1],[],S)=some (none,S):=Jk h rfl
theorem e1_41_0{f1}(h:Fx f1)(x1:Int32)(S):f1 (41,0,[.ref 0,.int x1],[],S)=if (S 0 14)<2 then some (none,S) else if 96<(S 0 14) then some (none,S) else if inb ((S 0 14)-2) 96=true then if (S 27 (((S 0 14)-2)).toNatClampNeg)=1 then if inb ((S 0 14)-1) 96=true then if (S 27 (((S 0 14)-1)).toNatClampNeg)=1 then (f1 (68,0,[.ref 0,.int x1,.int (S 28 (((S 0 14)-2)).toNatClampNeg),.int (S 28 (((S 0 14)-1)).toNatClampNeg)],[],S)).bind fun q=>f1 (41,74,[.ref 0,.int x1,.int ((S 0 14)-2),.int ((S 0 14)-1)],q.1.toList++[.int ((S 0 14)-2),.ref 28],q.2) else (f1 (42,0,[.ref 0,.int x1,.int ((S 0 14)-2),.int ((S 0 14)-1)],[],S)).bind fun q=>f1 (41,93,[.ref 0,.int x1,.int ((S 0 14)-2),.int ((S 0 14)-1)],q.1.toList++[],q.2) else none else (f1 (42,0,[.ref 0,.int x1,.int ((S 0 14)-2),.int ((S 0 14)-1)],[],S)).bind fun q=>f1 (41,93,[.ref 0,.int x1,.int ((S 0 14)-2),.int ((S 0 14)-1)],q.1.toList++[],q.2) else none:=Jd h rfl rfl<|Jj h rfl (S 0 14)<|Jc h rfl k_2<|JJ h rfl (Jk h rfl) (Jd h rfl rfl<|Jj h rfl (S 0 14)<|Jc h rfl k_96<|JO h rfl (Jk h rfl) (Jd h rfl rfl<|Jj h rfl (S 0 14)<|Jc h rfl k_2<|JG h rfl<|Je h rfl [.ref 0,.int x1,.int ((S 0 14)-2)]<|Jd h rfl rfl<|Jj h rfl (S 0 14)<|Jc h rfl k_1<|JG h rfl<|Je h rfl [.ref 0,.int x1,.int ((S 0 14)-2),.int ((S 0 14)-1)]<|Jd h rfl rfl<|Jg h rfl<|Jb h rfl rfl<|Jo h rfl rfl (S 27 (((S 0 14)-2)).toNatClampNeg) fun i0=>Jc h rfl k_1<|Jp h rfl (Jd h rfl rfl<|Jg h rfl<|Jb h rfl rfl<|Jo h rfl rfl (S 27 (((S 0 14)-1)).toNatClampNeg) fun i1=>Jc h rfl k_1<|Jp h rfl (Jd h rfl rfl<|Jg h rfl<|Jb h rfl rfl<|Jd h rfl rfl<|Jb h rfl rfl<|Jd h rfl rfl<|Jg h rfl<|Jb h rfl rfl<|JF h rfl rfl i0 (S 28 (((S 0 14)-2)).toNatClampNeg)<|Jd h rfl rfl<|Jg h rfl<|Jb h rfl rfl<|JF h rfl rfl i1 (S 28 (((S 0 14)-1)).toNatClampNeg)<|Jf h rfl rfl) (Jd h rfl rfl<|Jb h rfl rfl<|Jb h rfl rfl<|Jb h rfl rfl<|Jf h rfl rfl)) (Jd h rfl rfl<|Jb h rfl rfl<|Jb h rfl rfl<|Jb h rfl rfl<|Jf h rfl rfl)))
theorem e1_41_93{f1}(h:Fx f1)(x1 x2 x3 y0:Int32)(S):f1 (41,93,[.ref 0,.int x1,.int x2,.int x3],[.int y0],S)=if y0=0 then (f1 (48,0,[.ref 0,.int x2,.int x3],[],S)).bind fun q=>f1 (41,103,[.ref 0,.int x1,.int x2,.int x3],q.1.toList++[],q.2) else some (none,S):=Jy h rfl (Jd h rfl rfl<|Jb h rfl rfl<|Jb h rfl rfl<|Jf h rfl rfl) (Jk h rfl)
theorem e1_41_103{f1}(h:Fx f1)(x1 x2 x3 y0:Int32)(S):f1 (41,103,[.ref 0,.int x1,.int x2,.int x3],[.int y0],S)=if inb x3 96=true then if (S 27 (x3).toNatClampNeg)=1 then (f1 (52,0,[.ref 0,.int 6,.int y0,.int (S 28 (x3).toNatClampNeg),.int x1],[],S)).bind fun q=>f1 (41,130,[.ref 0,.int x1,.int x2,.int x3,.int y0],q.1.toList++[],q.2) else (f1 (48,0,[.ref 0,.int x3,.int x2],[],S)).bind fun q=>f1 (41,140,[.ref 0,.int x1,.int x2,.int x3,.int y0],q.1.toList++[],q.2) else none:=Je h rfl [.ref 0,.int x1,.int x2,.int x3,.int y0]<|Jd h rfl rfl<|Jg h rfl<|Jb h rfl rfl<|Jo h rfl rfl (S 27 (x3).toNatClampNeg) fun i0=>Jc h rfl k_1<|Jp h rfl (Jd h rfl rfl<|Jc h rfl k_6<|Jb h rfl rfl<|Jd h rfl rfl<|Jg h rfl<|Jb h rfl rfl<|JF h rfl rfl i0 (S 28 (x3).toNatClampNeg)<|Jb h rfl rfl<|Jf h rfl rfl) (Jd h rfl rfl<|Jb h rfl rfl<|Jb h rfl rfl<|Jf h rfl rfl)
theorem e1_41_130{f1}(h:Fx f1)(x1 x2 x3 x4 y0:Int32)(S):f1 (41,130,[.ref 0,.int x1,.int x2,.int x3,.int x4],[.int y0],S)=some (none,(upd S 0 14 ((S 0 14)-1))):=JM h rfl<|Jh h rfl<|Jd h rfl rfl<|JN h rfl<|Jj h rfl (S 0 14)<|Jc h rfl k_1<|JG h rfl<|Jw h rfl<|Jk h rfl
theorem e1_42_0{f1}(h:Fx f1)(x1 x2 x3:Int32)(S):f1 (42,0,[.ref 0,.int x1,.int x2,.int x3],[],S)=if inb x3 96=true then if (S 27 (x3).toNatClampNeg)=1 then (f1 (43,0,[.ref 0,.int x1,.int (S 28 (x3).toNatClampNeg)],[],S)).bind fun q=>f1 (42,21,[.ref 0,.int x1,.int x2,.int x3],q.1.toList++[],q.2) else if inb x2 96=true then if (S 27 (x2).toNatClampNeg)=1 then f1 (42,75,[.ref 0,.int x1,.int x2,.int x3],[.int (S 28 (x2).toNatClampNeg),.int x1,.ref 0],S) else some (some (.int 0),S) else none else none:=Jd h rfl rfl<|Jg h rfl<|Jb h rfl rfl<|Jo h rfl rfl (S 27 (x3).toNatClampNeg) fun i0=>Jc h rfl k_1<|Jp h rfl (Jd h rfl rfl<|Jb h rfl rfl<|Jd h rfl rfl<|Jg h rfl<|Jb h rfl rfl<|JF h rfl rfl i0 (S 28 (x3).toNatClampNeg)<|Jf h rfl rfl) (Jd h rfl rfl<|Jg h rfl<|Jb h rfl rfl<|Jo h rfl rfl (S 27 (x2).toNatClampNeg) fun i1=>Jc h rfl k_1<|Jp h rfl (Jd h rfl rfl<|Jb h rfl rfl<|Jd h rfl rfl<|Jg h rfl<|Jb h rfl rfl<|JF h rfl rfl i1 (S 28 (x2).toNatClampNeg) rfl) (Jc h rfl k_0<|Jl h rfl))
theorem e1_42_21{f1}(h:Fx f1)(x1 x2 x3 y0:Int32)(S):f1 (42,21,[.ref 0,.int x1,.int x2,.int x3],[.int y0],S)=if y0=1 then some (some (.int 1),(upd S 0 14 ((S 0 14)-1))) else if y0=2 then f1 (42,50,[.ref 0,.int x1,.int x2,.int x3,.int y0],[.int x3,.int x2,.ref 0],S) else some (some (.int 0),S):=Je h rfl [.ref 0,.int x1,.int x2,.int x3,.int y0]<|Jb h rfl rfl<|Jc h rfl k_1<|Jp h rfl (Jd h rfl rfl<|JN h rfl<|Jj h rfl (S 0 14)<|Jc h rfl k_1<|JG h rfl<|Jw h rfl<|Jc h rfl k_1<|JC h rfl) (Jb h rfl rfl<|Jc h rfl k_2<|Jp h rfl (Jd h rfl rfl<|Jb h rfl rfl<|Jb h rfl rfl rfl) (Jc h rfl k_0<|Jl h rfl))
theorem e1_43_0{f1}(h:Fx f1)(x1 x2:Int32)(S):f1 (43,0,[.ref 0,.int x1,.int x2],[],S)=if x1=5 then f1 (43,11,[.ref 0,.int x1,.int x2],[],S) else if x1=6 then f1 (43,11,[.ref 0,.int x1,.int x2],[],S) else f1 (43,17,[.ref 0,.int x1,.int x2],[],S):=Jb h rfl rfl<|Jc h rfl k_5<|JA h rfl rfl (Jb h rfl rfl<|Jc h rfl k_6<|Jp h rfl rfl rfl)
theorem e1_43_11{f1}(h:Fx f1)(x1 x2:Int32)(S):f1 (43,11,[.ref 0,.int x1,.int x2],[],S)=if x2=0 then some (some (.int 1),S) else f1 (43,17,[.ref 0,.int x1,.int x2],[],S):=Jb h rfl rfl<|Js h rfl (Jc h rfl k_1<|Ji h rfl) rfl
theorem e1_43_17{f1}(h:Fx f1)(x1 x2:Int32)(S):f1 (43,17,[.ref 0,.int x1,.int x2],[],S)=if x1=7 then f1 (43,29,[.ref 0,.int x1,.int x2],[],S) else if x1=8 then f1 (43,29,[.ref 0,.int x1,.int x2],[],S) else f1 (43,36,[.ref 0,.int x1,.int x2],[],S):=Jb h rfl rfl<|Jc h rfl k_7<|JA h rfl rfl (Jb h rfl rfl<|Jc h rfl k_8<|Jp h rfl rfl rfl)
theorem e1_43_36{f1}(h:Fx f1)(x1 x2:Int32)(S):f1 (43,36,[.ref 0,.int x1,.int x2],[],S)=if x1=7 then f1 (43,48,[.ref 0,.int x1,.int x2],[],S) else if x1=8 then f1 (43,48,[.ref 0,.int x1,.int x2],[],S) else f1 (43,54,[.ref 0,.int x1,.int x2],[],S):=Jb h rfl rfl<|Jc h rfl k_7<|JA h rfl rfl (Jb h rfl rfl<|Jc h rfl k_8<|Jp h rfl rfl rfl)
theorem e1_43_54{f1}(h:Fx f1)(x1 x2:Int32)(S):f1 (43,54,[.ref 0,.int x1,.int x2],[],S)=if x1=9 then if x2=0 then some (some (.int 2),S) else if x2=1 then some (some (.int 2),S) else if x2=(-1) then some (some (.int 2),S) else some (some (.int 0),S) else some (some (.int 0),S):=Jb h rfl rfl<|Jc h rfl k_9<|Jp h rfl (Jb h rfl rfl<|Jy h rfl (Jc h rfl k_2<|Ji h rfl) (Jb h rfl rfl<|Jc h rfl k_1<|JA h rfl (Jc h rfl k_2<|Ji h rfl) (Jb h rfl rfl<|Jc h rfl k_m1<|Jp h rfl (Jc h rfl k_2<|Ji h rfl) (Jc h rfl k_0<|Ji h rfl)))) (Jc h rfl k_0<|Ji h rfl)
theorem e1_48_0{f1}(h:Fx f1)(x1 x2:Int32)(S):f1 (48,0,[.ref 0,.int x1,.int x2],[],S)=if x1<0 then some (some (.int 0),S) else if x1<96 then if inb x1 96=true then if (S 27 (x1).toNatClampNeg)=3 then some (some (.int ((S 28 (x1).toNatClampNeg)&&&7)),S) else (f1 (49,0,[.ref 0,.int x1,.int x2],[],S)).bind fun q=>f1 (48,40,[.ref 0,.int x1,.int x2,.int (S 27 (x1).toNatClampNeg)],q.1.toList++[],q.2) else none else some (some (.int 0),S):=Jb h rfl rfl<|JB h rfl (Jc h rfl k_0<|Ji h rfl) (Jb h rfl rfl<|Jc h rfl k_96<|JJ h rfl (Jd h rfl rfl<|Jg h rfl<|Jb h rfl rfl<|Jo h rfl rfl (S 27 (x1).toNatClampNeg) fun i0=>Je h rfl [.ref 0,.int x1,.int x2,.int (S 27 (x1).toNatClampNeg)]<|Jb h rfl rfl<|Jc h rfl k_3<|Jp h rfl (Jd h rfl rfl<|Jg h rfl<|Jb h rfl rfl<|JF h rfl rfl i0 (S 28 (x1).toNatClampNeg)<|Jc h rfl k_7<|Ju h rfl<|Ji h rfl) (Jd h rfl rfl<|Jb h rfl rfl<|Jb h rfl rfl<|Jf h rfl rfl)) (Jc h rfl k_0<|Ji h rfl))
theorem e1_48_40{f1}(h:Fx f1)(x1 x2 x3 y0:Int32)(S):f1 (48,40,[.ref 0,.int x1,.int x2,.int x3],[.int y0],S)=if x3=1 then if inb x1 96=true then (f1 (52,0,[.ref 0,.int 1,.int y0,.int (S 28 (x1).toNatClampNeg),.int 0],[],S)).bind fun q=>f1 (48,61,[.ref 0,.int x1,.int x2,.int x3,.int y0],q.1.toList++[],q.2) else none else if inb x1 96=true then (f1 (52,0,[.ref 0,.int 2,.int y0,.int (S 28 (x1).toNatClampNeg),.int 0],[],S)).bind fun q=>f1 (48,79,[.ref 0,.int x1,.int x2,.int x3,.int y0],q.1.toList++[],q.2) else none:=Je h rfl [.ref 0,.int x1,.int x2,.int x3,.int y0]<|Jb h rfl rfl<|Jc h rfl k_1<|Jp h rfl (Jd h rfl rfl<|Jc h rfl k_1<|Jb h rfl rfl<|Jd h rfl rfl<|Jg h rfl<|Jb h rfl rfl<|Jo h rfl rfl (S 28 (x1).toNatClampNeg) fun i0=>Jc h rfl k_0<|Jf h rfl rfl) (Jd h rfl rfl<|Jc h rfl k_2<|Jb h rfl rfl<|Jd h rfl rfl<|Jg h rfl<|Jb h rfl rfl<|Jo h rfl rfl (S 28 (x1).toNatClampNeg) fun i0=>Jc h rfl k_0<|Jf h rfl rfl)
theorem e1_48_79{f1}(h:Fx f1)(x1 x2 x3 x4 y0:Int32)(S):f1 (48,79,[.ref 0,.int x1,.int x2,.int x3,.int x4],[.int y0],S)=f1 (48,80,[.ref 0,.int x1,.int x2,.int x3,.int x4],[],S):=JM h rfl rfl
theorem e1_48_80{f1}(h:Fx f1)(x1 x2 x3 x4:Int32)(S):f1 (48,80,[.ref 0,.int x1,.int x2,.int x3,.int x4],[],S)=if inb x1 96=true then if inb x4 8=true then some (some (.int x4),(upd (upd (upd S 27 (x1).toNatClampNeg 3) 28 (x1).toNatClampNeg x4) 29 (x4).toNatClampNeg x1)) else none else none:=Jd h rfl rfl<|Jg h rfl<|Jb h rfl rfl<|Jc h rfl k_3<|Jv h rfl rfl 3 fun i0=>Jd h rfl rfl<|Jg h rfl<|Jb h rfl rfl<|Jb h rfl rfl<|Jx h rfl rfl x4 i0<|Jd h rfl rfl<|Jg h rfl<|Jb h rfl rfl<|Jb h rfl rfl<|Jv h rfl rfl x1 fun i1=>Jb h rfl rfl<|Ji h rfl
theorem e1_49_0{f1}(h:Fx f1)(x1 x2:Int32)(S):f1 (49,0,[.ref 0,.int x1,.int x2],[],S)=f1 (49,2,[.ref 0,.int x1,.int x2,.int 0],[],S):=Jc h rfl k_0<|Je h rfl [.ref 0,.int x1,.int x2,.int 0] rfl
theorem e1_49_2{f1}(h:Fx f1)(x1 x2 x3:Int32)(S):f1 (49,2,[.ref 0,.int x1,.int x2,.int x3],[],S)=if x3<(S 0 0) then if x3<8 then if inb x3 8=true then if (S 29 (x3).toNatClampNeg)<0 then some (some (.int x3),S) else f1 (49,2,[.ref 0,.int x1,.int x2,.int (x3+1)],[],S) else none else f1 (49,38,[.ref 0,.int x1,.int x2,.int (-1),.int 0],[],S) else f1 (49,38,[.ref 0,.int x1,.int x2,.int (-1),.int 0],[],S):=Jb h rfl rfl<|Jd h rfl rfl<|Jj h rfl (S 0 0)<|Jm h rfl (Jb h rfl rfl<|Jc h rfl k_8<|Jm h rfl (Jd h rfl rfl<|Jg h rfl<|Jb h rfl rfl<|Jo h rfl rfl (S 29 (x3).toNatClampNeg) fun i0=>JP h rfl (Jb h rfl rfl<|Ji h rfl) (Jn h rfl k_1 rfl [.ref 0,.int x1,.int x2,.int (x3+1)]<|Jh h rfl rfl)) (Jc h rfl k_m1<|Je h rfl [.ref 0,.int x1,.int x2,.int (-1)]<|Jc h rfl k_0<|Je h rfl [.ref 0,.int x1,.int x2,.int (-1),.int 0] rfl)) (Jc h rfl k_m1<|Je h rfl [.ref 0,.int x1,.int x2,.int (-1)]<|Jc h rfl k_0<|Je h rfl [.ref 0,.int x1,.int x2,.int (-1),.int 0] rfl)
theorem e1_52_0{f1}(h:Fx f1)(x1 x2 x3 x4:Int32)(S):f1 (52,0,[.ref 0,.int x1,.int x2,.int x3,.int x4],[],S)=if (S 0 6)<0 then some (some (.int (-1)),S) else if (S 0 6)<1024 then if inb (S 0 6) 1024=true then some (some (.int (S 0 6)),(upd (upd (upd (upd (upd S 19 ((S 0 6)).toNatClampNeg x1) 20 ((S 0 6)).toNatClampNeg x2) 21 ((S 0 6)).toNatClampNeg x3) 22 ((S 0 6)).toNatClampNeg x4) 0 6 ((S 0 6)+1))) else none else some (some (.int (-1)),S):=Jd h rfl rfl<|Jj h rfl (S 0 6)<|JB h rfl (Jc h rfl k_m1<|Ji h rfl) (Jd h rfl rfl<|Jj h rfl (S 0 6)<|Jc h rfl k_1024<|JJ h rfl (Jd h rfl rfl<|Jj h rfl (S 0 6)<|Je h rfl [.ref 0,.int x1,.int x2,.int x3,.int x4,.int (S 0 6)]<|Jd h rfl rfl<|Jg h rfl<|Jb h rfl rfl<|Jb h rfl rfl<|Jv h rfl rfl x1 fun i0=>Jd h rfl rfl<|Jg h rfl<|Jb h rfl rfl<|Jb h rfl rfl<|Jx h rfl rfl x2 i0<|Jd h rfl rfl<|Jg h rfl<|Jb h rfl rfl<|Jb h rfl rfl<|Jx h rfl rfl x3 i0<|Jd h rfl rfl<|Jg h rfl<|Jb h rfl rfl<|Jb h rfl rfl<|Jx h rfl rfl x4 i0<|Jd h rfl rfl<|JN h rfl<|Jj h rfl (S 0 6)<|Jc h rfl k_1<|Jt h rfl<|Jw h rfl<|Jb h rfl rfl<|Ji h rfl) (Jc h rfl k_m1<|Ji h rfl))
theorem e1_51_0{f1}(h:Fx f1)(S):f1 (51,0,[.ref 0],[],S)=if (S 0 12)<0 then some (none,S) else if (S 0 12)<32 then if (S 0 14)<1 then f1 (51,34,[.ref 0,.int (S 0 12)],[],S) else if (S 27 0)=1 then f1 (51,34,[.ref 0,.int (S 0 12)],[],S) else (f1 (48,0,[.ref 0,.int 0,.int (-1)],[],S)).bind fun q=>f1 (51,79,[.ref 0,.int (S 0 12)],q.1.toList++[],q.2) else some (none,S):=Jd h rfl rfl<|Jj h rfl (S 0 12)<|Je h rfl [.ref 0,.int (S 0 12)]<|Jb h rfl rfl<|JB h rfl (Jk h rfl) (Jb h rfl rfl<|Jc h rfl k_32<|JJ h rfl (Jd h rfl rfl<|Jj h rfl (S 0 14)<|Jc h rfl k_1<|JJ h rfl rfl (Jd h rfl rfl<|Jg h rfl<|Jc h rfl k_0<|Jay h rfl rfl 0 (S 27 0)<|Jc h rfl k_1<|Jp h rfl rfl (Jd h rfl rfl<|Jc h rfl k_0<|Jc h rfl k_m1<|Jf h rfl rfl))) (Jk h rfl))
theorem e1_51_79{f1}(h:Fx f1)(x1 y0:Int32)(S):f1 (51,79,[.ref 0,.int x1],[.int y0],S)=(f1 (52,0,[.ref 0,.int 9,.int y0,.int (-2),.int (-2)],[],S)).bind fun q=>f1 (51,96,[.ref 0,.int x1,.int y0],q.1.toList++[.int x1,.ref 10],q.2):=Je h rfl [.ref 0,.int x1,.int y0]<|Jd h rfl rfl<|Jg h rfl<|Jb h rfl rfl<|Jd h rfl rfl<|Jc h rfl k_9<|Jb h rfl rfl<|Jc h rfl k_m2<|Jc h rfl k_m2<|Jf h rfl rfl
theorem e1_51_96{f1}(h:Fx f1)(x1 x2 y0 y1:Int32)(S):f1 (51,96,[.ref 0,.int x1,.int x2],[.int y0,.int y1,.ref 10],S)=if inb y1 32=true then some (none,(upd S 10 (y1).toNatClampNeg y0)) else none:=Jv h rfl rfl y0 fun i0=>Jk h rfl
theorem e1_27_0{f1}(h:Fx f1)(S):f1 (27,0,[.ref 0],[],S)=if (S 0 13)<0 then some (some (.int 0),S) else if ((S 0 13)+1)<40 then if inb ((S 0 13)+1) 40=true then some (some (.int 1),(upd (upd (upd (upd S 0 13 ((S 0 13)+1)) 25 (((S 0 13)+1)).toNatClampNeg (S 0 12)) 26 (((S 0 13)+1)).toNatClampNeg (-1)) 0 11 0)) else none else some (some (.int 0),S):=Jd h rfl rfl<|Jj h rfl (S 0 13)<|JB h rfl (Jc h rfl k_0<|Jl h rfl) (Jd h rfl rfl<|Jj h rfl (S 0 13)<|Jc h rfl k_1<|Jt h rfl<|Jc h rfl k_40<|JJ h rfl (Jd h rfl rfl<|JN h rfl<|Jj h rfl (S 0 13)<|Jc h rfl k_1<|Jt h rfl<|Jw h rfl<|Jd h rfl rfl<|Jg h rfl<|Jd h rfl rfl<|Jj h rfl ((S 0 13)+1)<|Jd h rfl rfl<|Jj h rfl (S 0 12)<|Jv h rfl rfl (S 0 12) fun i0=>Jd h rfl rfl<|Jg h rfl<|Jd h rfl rfl<|Jj h rfl ((S 0 13)+1)<|Jc h rfl k_m1<|Jx h rfl rfl (-1) i0<|Jd h rfl rfl<|Jc h rfl k_0<|Jw h rfl<|Jc h rfl k_1<|JC h rfl) (Jc h rfl k_0<|Jl h rfl))
theorem e1_10_0{f1}(h:Fx f1)(S):f1 (10,0,[.ref 0],[],S)=if (S 0 1)=0 then some (some (.int 0),S) else (f1 (19,0,[.ref 0],[],S)).bind fun q=>f1 (10,13,[.ref 0],q.1.toList++[],q.2):=Jd h rfl rfl<|Jj h rfl (S 0 1)<|Js h rfl (Jc h rfl k_0<|Jl h rfl) (Jd h rfl rfl<|Jf h rfl rfl)
theorem e1_10_13{f1}(h:Fx f1)(S):f1 (10,13,[.ref 0],[],S)=some (some (.int 1),S):=Jc h rfl k_1<|JC h rfl
theorem e1_50_0{f1}(h:Fx f1)(S):f1 (50,0,[.ref 0],[],S)=if (S 0 12)<0 then some (none,S) else if (S 0 12)<32 then if inb (S 0 12) 32=true then if (S 0 14)<1 then f1 (50,77,[.ref 0,.int (S 0 12),.int (S 4 ((S 0 12)).toNatClampNeg)],[],S) else if (S 27 0)=1 then (f1 (52,0,[.ref 0,.int 4,.int (S 4 ((S 0 12)).toNatClampNeg),.int (S 28 0),.int 0],[],S)).bind fun q=>f1 (50,54,[.ref 0,.int (S 0 12),.int (S 4 ((S 0 12)).toNatClampNeg)],q.1.toList++[],q.2) else f1 (50,77,[.ref 0,.int (S 0 12),.int (S 4 ((S 0 12)).toNatClampNeg)],[],S) else none else some (none,S):=Jd h rfl rfl<|Jj h rfl (S 0 12)<|Je h rfl [.ref 0,.int (S 0 12)]<|Jb h rfl rfl<|JB h rfl (Jk h rfl) (Jb h rfl rfl<|Jc h rfl k_32<|JJ h rfl (Jd h rfl rfl<|Jg h rfl<|Jb h rfl rfl<|Jo h rfl rfl (S 4 ((S 0 12)).toNatClampNeg) fun i0=>Je h rfl [.ref 0,.int (S 0 12),.int (S 4 ((S 0 12)).toNatClampNeg)]<|Jd h rfl rfl<|Jj h rfl (S 0 14)<|Jc h rfl k_1<|JJ h rfl rfl (Jd h rfl rfl<|Jg h rfl<|Jc h rfl k_0<|Jay h rfl rfl 0 (S 27 0)<|Jc h rfl k_1<|Jp h rfl (Jd h rfl rfl<|Jc h rfl k_4<|Jb h rfl rfl<|Jd h rfl rfl<|Jg h rfl<|Jc h rfl k_0<|Jay h rfl rfl 0 (S 28 0)<|Jc h rfl k_0<|Jf h rfl rfl) rfl)) (Jk h rfl))
theorem e1_50_77{f1}(h:Fx f1)(x1 x2:Int32)(S):f1 (50,77,[.ref 0,.int x1,.int x2],[],S)=if (S 0 14)<1 then (f1 (52,0,[.ref 0,.int 8,.int 0,.int (-2),.int 0],[],S)).bind fun q=>f1 (50,130,[.ref 0,.int x1,.int x2],q.1.toList++[.int x1,.ref 10],q.2) else (f1 (48,0,[.ref 0,.int 0,.int (-1)],[],S)).bind fun q=>f1 (50,91,[.ref 0,.int x1,.int x2],q.1.toList++[],q.2):=Jd h rfl rfl<|Jj h rfl (S 0 14)<|Jc h rfl k_1<|JJ h rfl (Jd h rfl rfl<|Jg h rfl<|Jb h rfl rfl<|Jd h rfl rfl<|Jc h rfl k_8<|Jc h rfl k_0<|Jc h rfl k_m2<|Jc h rfl k_0<|Jf h rfl rfl) (Jd h rfl rfl<|Jc h rfl k_0<|Jc h rfl k_m1<|Jf h rfl rfl)
theorem e1_50_91{f1}(h:Fx f1)(x1 x2 y0:Int32)(S):f1 (50,91,[.ref 0,.int x1,.int x2],[.int y0],S)=(f1 (52,0,[.ref 0,.int 3,.int x2,.int y0,.int 0],[],S)).bind fun q=>f1 (50,100,[.ref 0,.int x1,.int x2,.int y0],q.1.toList++[],q.2):=Je h rfl [.ref 0,.int x1,.int x2,.int y0]<|Jd h rfl rfl<|Jc h rfl k_3<|Jb h rfl rfl<|Jb h rfl rfl<|Jc h rfl k_0<|Jf h rfl rfl
theorem e1_50_100{f1}(h:Fx f1)(x1 x2 x3 y0:Int32)(S):f1 (50,100,[.ref 0,.int x1,.int x2,.int x3],[.int y0],S)=if inb x1 32=true then (f1 (52,0,[.ref 0,.int 8,.int 0,.int (-2),.int 0],[],(upd (upd S 13 (x1).toNatClampNeg 3) 14 (x1).toNatClampNeg x3))).bind fun q=>f1 (50,130,[.ref 0,.int x1,.int x2],q.1.toList++[.int x1,.ref 10],q.2) else none:=JM h rfl<|Jd h rfl rfl<|Jg h rfl<|Jb h rfl rfl<|Jc h rfl k_3<|Jv h rfl rfl 3 fun i0=>Jd h rfl rfl<|Jg h rfl<|Jb h rfl rfl<|Jb h rfl rfl<|Jx h rfl rfl x3 i0<|Jr h rfl<|Jd h rfl rfl<|Jg h rfl<|Jb h rfl rfl<|Jd h rfl rfl<|Jc h rfl k_8<|Jc h rfl k_0<|Jc h rfl k_m2<|Jc h rfl k_0<|Jf h rfl rfl
theorem e1_50_130{f1}(h:Fx f1)(x1 x2 y0 y1:Int32)(S):f1 (50,130,[.ref 0,.int x1,.int x2],[.int y0,.int y1,.ref 10],S)=if inb y1 32=true then some (none,(upd S 10 (y1).toNatClampNeg y0)) else none:=Jv h rfl rfl y0 fun i0=>Jk h rfl
theorem e1_53_0{f1}(h:Fx f1)(S):f1 (53,0,[.ref 0],[],S)=f1 (53,12,[.ref 0,.int 0],[],(upd S 0 5 (S 26 0))):=Jd h rfl rfl<|Jd h rfl rfl<|Jg h rfl<|Jc h rfl k_0<|Jay h rfl rfl 0 (S 26 0)<|Jw h rfl<|Jc h rfl k_0<|Je h rfl [.ref 0,.int 0] rfl
theorem e1_53_12{f1}(h:Fx f1)(x1:Int32)(S):f1 (53,12,[.ref 0,.int x1],[],S)=if x1<(S 0 4) then if x1<32 then (f1 (54,0,[.ref 0,.int x1],[],S)).bind fun q=>f1 (53,36,[.ref 0,.int x1],q.1.toList++[.int x1,.ref 11],q.2) else f1 (53,45,[.ref 0,.int 0],[],S) else f1 (53,45,[.ref 0,.int 0],[],S):=Jb h rfl rfl<|Jd h rfl rfl<|Jj h rfl (S 0 4)<|Jm h rfl (Jb h rfl rfl<|Jc h rfl k_32<|Jm h rfl (Jd h rfl rfl<|Jg h rfl<|Jb h rfl rfl<|Jd h rfl rfl<|Jb h rfl rfl<|Jf h rfl rfl) (Jc h rfl k_0<|Je h rfl [.ref 0,.int 0] rfl)) (Jc h rfl k_0<|Je h rfl [.ref 0,.int 0] rfl)
theorem e1_53_36{f1}(h:Fx f1)(x1 y0 y1:Int32)(S):f1 (53,36,[.ref 0,.int x1],[.int y0,.int y1,.ref 11],S)=if inb y1 32=true then f1 (53,12,[.ref 0,.int (x1+1)],[],(upd S 11 (y1).toNatClampNeg y0)) else none:=Jv h rfl rfl y0 fun i0=>Jn h rfl k_1 rfl [.ref 0,.int (x1+1)]<|Jh h rfl rfl
theorem e1_53_45{f1}(h:Fx f1)(x1:Int32)(S):f1 (53,45,[.ref 0,.int x1],[],S)=if x1<(S 0 4) then if x1<32 then (f1 (55,0,[.ref 0,.int x1],[],S)).bind fun q=>f1 (53,64,[.ref 0,.int x1],q.1.toList++[],q.2) else (f1 (57,0,[.ref 0],[],S)).bind fun q=>f1 (53,74,[.ref 0,.int x1],q.1.toList++[],q.2) else (f1 (57,0,[.ref 0],[],S)).bind fun q=>f1 (53,74,[.ref 0,.int x1],q.1.toList++[],q.2):=Jb h rfl rfl<|Jd h rfl rfl<|Jj h rfl (S 0 4)<|Jm h rfl (Jb h rfl rfl<|Jc h rfl k_32<|Jm h rfl (Jd h rfl rfl<|Jb h rfl rfl<|Jf h rfl rfl) (Jd h rfl rfl<|Jf h rfl rfl)) (Jd h rfl rfl<|Jf h rfl rfl)
theorem e1_53_64{f1}(h:Fx f1)(x1:Int32)(S):f1 (53,64,[.ref 0,.int x1],[],S)=f1 (53,45,[.ref 0,.int (x1+1)],[],S):=Jn h rfl k_1 rfl [.ref 0,.int (x1+1)]<|Jh h rfl rfl
theorem e1_53_74{f1}(h:Fx f1)(x1:Int32)(S):f1 (53,74,[.ref 0,.int x1],[],S)=(f1 (58,0,[.ref 0],[],S)).bind fun q=>f1 (53,78,[.ref 0,.int x1],q.1.toList++[],q.2):=Jd h rfl rfl<|Jf h rfl rfl
theorem e1_53_78{f1}(h:Fx f1)(x1:Int32)(S):f1 (53,78,[.ref 0,.int x1],[],S)=some (none,S):=Jk h rfl
theorem e1_54_0{f1}(h:Fx f1)(x1:Int32)(S):f1 (54,0,[.ref 0,.int x1],[],S)=f1 (54,4,[.ref 0,.int x1,.int x1,.int 0],[],S):=Jb h rfl rfl<|Je h rfl [.ref 0,.int x1,.int x1]<|Jc h rfl k_0<|Je h rfl [.ref 0,.int x1,.int x1,.int 0] rfl
theorem e1_54_4{f1}(h:Fx f1)(x1 x2 x3:Int32)(S):f1 (54,4,[.ref 0,.int x1,.int x2,.int x3],[],S)=if 32<x3 then some (some (.int (-2)),S) else if x2<0 then some (some (.int (-2)),S) else if x2<(S 0 4) then if x2<32 then if inb x2 32=true then if (S 7 (x2).toNatClampNeg)<0 then if (S 5 (x2).toNatClampNeg)<0 then some (some (.int (-2)),S) else if (S 5 (x2).toNatClampNeg)<32 then if inb (S 5 (x2).toNatClampNeg) 32=true then if (S 3 ((S 5 (x2).toNatClampNeg)).toNatClampNeg)=16 then some (some (.int (S 5 (x2).toNatClampNeg)),S) else f1 (54,4,[.ref 0,.int x1,.int (S 5 (x2).toNatClampNeg),.int (x3+1)],[],S) else none else some (some (.int (-2)),S) else some (some (.int (S 7 (x2).toNatClampNeg)),S) else none else some (some (.int (-2)),S) else some (some (.int (-2)),S):=Jb h rfl rfl<|Jc h rfl k_32<|JT h rfl (Jc h rfl k_m2<|Ji h rfl) (Jb h rfl rfl<|JB h rfl (Jc h rfl k_m2<|Ji h rfl) (Jb h rfl rfl<|Jd h rfl rfl<|Jj h rfl (S 0 4)<|Jm h rfl (Jb h rfl rfl<|Jc h rfl k_32<|JJ h rfl (Jd h rfl rfl<|Jg h rfl<|Jb h rfl rfl<|Jo h rfl rfl (S 7 (x2).toNatClampNeg) fun i0=>JB h rfl (Jd h rfl rfl<|Jg h rfl<|Jb h rfl rfl<|JF h rfl rfl i0 (S 5 (x2).toNatClampNeg)<|Je h rfl [.ref 0,.int x1,.int x2,.int x3,.int (S 5 (x2).toNatClampNeg)]<|Jb h rfl rfl<|JB h rfl (Jc h rfl k_m2<|Ji h rfl) (Jb h rfl rfl<|Jc h rfl k_32<|JJ h rfl (Jd h rfl rfl<|Jg h rfl<|Jb h rfl rfl<|Jo h rfl rfl (S 3 ((S 5 (x2).toNatClampNeg)).toNatClampNeg) fun i1=>Jc h rfl k_16<|Jp h rfl (Jb h rfl rfl<|Ji h rfl) (Jb h rfl rfl<|Je h rfl [.ref 0,.int x1,.int (S 5 (x2).toNatClampNeg),.int x3,.int (S 5 (x2).toNatClampNeg)]<|Jn h rfl k_1 rfl [.ref 0,.int x1,.int (S 5 (x2).toNatClampNeg),.int (x3+1),.int (S 5 (x2).toNatClampNeg)]<|Jh h rfl<|Jr h rfl rfl)) (Jc h rfl k_m2<|Ji h rfl))) (Jd h rfl rfl<|Jg h rfl<|Jb h rfl rfl<|JF h rfl rfl i0 (S 7 (x2).toNatClampNeg)<|Ji h rfl)) (Jc h rfl k_m2<|Ji h rfl)) (Jc h rfl k_m2<|Ji h rfl)))
theorem e1_55_0{f1}(h:Fx f1)(x1:Int32)(S):f1 (55,0,[.ref 0,.int x1],[],S)=if inb x1 32=true then if (S 10 (x1).toNatClampNeg)<0 then some (none,S) else if (S 10 (x1).toNatClampNeg)<(S 0 6) then if (S 10 (x1).toNatClampNeg)<1024 then if (S 3 (x1).toNatClampNeg)=2 then if inb (S 10 (x1).toNatClampNeg) 1024=true then some (none,(upd S 21 ((S 10 (x1).toNatClampNeg)).toNatClampNeg (S 11 (x1).toNatClampNeg))) else none else if (S 8 (x1).toNatClampNeg)<0 then if (S 3 (x1).toNatClampNeg)=16 then f1 (55,85,[.ref 0,.int x1,.int (S 10 (x1).toNatClampNeg),.int (S 11 (x1).toNatClampNeg),.int x1],[],S) else f1 (55,85,[.ref 0,.int x1,.int (S 10 (x1).toNatClampNeg),.int (S 11 (x1).toNatClampNeg),.int (S 11 (x1).toNatClampNeg)],[],S) else f1 (55,85,[.ref 0,.int x1,.int (S 10 (x1).toNatClampNeg),.int (S 11 (x1).toNatClampNeg),.int (S 8 (x1).toNatClampNeg)],[],S) else some (none,S) else some (none,S) else none:=Jd h rfl rfl<|Jg h rfl<|Jb h rfl rfl<|Jo h rfl rfl (S 10 (x1).toNatClampNeg) fun i0=>Je h rfl [.ref 0,.int x1,.int (S 10 (x1).toNatClampNeg)]<|Jb h rfl rfl<|JB h rfl (Jk h rfl) (Jb h rfl rfl<|Jd h rfl rfl<|Jj h rfl (S 0 6)<|Jm h rfl (Jb h rfl rfl<|Jc h rfl k_1024<|JJ h rfl (Jd h rfl rfl<|Jg h rfl<|Jb h rfl rfl<|JF h rfl rfl i0 (S 11 (x1).toNatClampNeg)<|Je h rfl [.ref 0,.int x1,.int (S 10 (x1).toNatClampNeg),.int (S 11 (x1).toNatClampNeg)]<|Jd h rfl rfl<|Jg h rfl<|Jb h rfl rfl<|JF h rfl rfl i0 (S 3 (x1).toNatClampNeg)<|Jc h rfl k_2<|Jp h rfl (Jd h rfl rfl<|Jg h rfl<|Jb h rfl rfl<|Jb h rfl rfl<|Jv h rfl rfl (S 11 (x1).toNatClampNeg) fun i1=>Jk h rfl) (Jd h rfl rfl<|Jg h rfl<|Jb h rfl rfl<|JF h rfl rfl i0 (S 8 (x1).toNatClampNeg)<|Je h rfl [.ref 0,.int x1,.int (S 10 (x1).toNatClampNeg),.int (S 11 (x1).toNatClampNeg),.int (S 8 (x1).toNatClampNeg)]<|Jb h rfl rfl<|JP h rfl (Jd h rfl rfl<|Jg h rfl<|Jb h rfl rfl<|JF h rfl rfl i0 (S 3 (x1).toNatClampNeg)<|Jc h rfl k_16<|Jp h rfl (Jb h rfl rfl<|Je h rfl [.ref 0,.int x1,.int (S 10 (x1).toNatClampNeg),.int (S 11 (x1).toNatClampNeg),.int x1]<|Jh h rfl rfl) (Jb h rfl rfl<|Je h rfl [.ref 0,.int x1,.int (S 10 (x1).toNatClampNeg),.int (S 11 (x1).toNatClampNeg),.int (S 11 (x1).toNatClampNeg)] rfl)) rfl)) (Jk h rfl)) (Jk h rfl))
theorem e1_55_85{f1}(h:Fx f1)(x1 x2 x3 x4:Int32)(S):f1 (55,85,[.ref 0,.int x1,.int x2,.int x3,.int x4],[],S)=if inb x2 1024=true then some (none,(upd (upd S 21 (x2).toNatClampNeg x4) 22 (x2).toNatClampNeg x3)) else none:=Jd h rfl rfl<|Jg h rfl<|Jb h rfl rfl<|Jb h rfl rfl<|Jv h rfl rfl x4 fun i0=>Jd h rfl rfl<|Jg h rfl<|Jb h rfl rfl<|Jb h rfl rfl<|Jx h rfl rfl x3 i0<|Jk h rfl
theorem e1_57_0{f1}(h:Fx f1)(S):f1 (57,0,[.ref 0],[],S)=f1 (57,7,[.ref 0,.int ((S 0 4)-1)],[],S):=Jd h rfl rfl<|Jj h rfl (S 0 4)<|Jc h rfl k_1<|JG h rfl<|Je h rfl [.ref 0,.int ((S 0 4)-1)] rfl
theorem e1_57_7{f1}(h:Fx f1)(x1:Int32)(S):f1 (57,7,[.ref 0,.int x1],[],S)=if x1<0 then some (none,S) else if x1<32 then if inb x1 32=true then (f1 (56,0,[.ref 0,.int x1],[],S)).bind fun q=>f1 (57,36,[.ref 0,.int x1],q.1.toList++[.int (S 12 (x1).toNatClampNeg),.int x1,.ref 12],q.2) else none else f1 (57,7,[.ref 0,.int (x1+(-1))],[],S):=Jb h rfl rfl<|JB h rfl (Jk h rfl) (Jb h rfl rfl<|Jc h rfl k_32<|JJ h rfl (Jd h rfl rfl<|Jg h rfl<|Jb h rfl rfl<|Jd h rfl rfl<|Jg h rfl<|Jb h rfl rfl<|Jo h rfl rfl (S 12 (x1).toNatClampNeg) fun i0=>Jd h rfl rfl<|Jb h rfl rfl<|Jf h rfl rfl) (Jh h rfl<|Jn h rfl k_m1 rfl [.ref 0,.int (x1+(-1))]<|Jh h rfl rfl))
theorem e1_57_36{f1}(h:Fx f1)(x1 y0 y1 y2:Int32)(S):f1 (57,36,[.ref 0,.int x1],[.int y0,.int y1,.int y2,.ref 12],S)=if inb y2 32=true then if inb x1 32=true then if (S 5 (x1).toNatClampNeg)<0 then f1 (57,7,[.ref 0,.int (x1+(-1))],[],(upd S 12 (y2).toNatClampNeg (y1|||y0))) else if (S 5 (x1).toNatClampNeg)<32 then if inb (S 5 (x1).toNatClampNeg) 32=true then f1 (57,7,[.ref 0,.int (x1+(-1))],[],(upd (upd S 12 (y2).toNatClampNeg (y1|||y0)) 12 ((S 5 (x1).toNatClampNeg)).toNatClampNeg (((upd S 12 (y2).toNatClampNeg (y1|||y0)) 12 ((S 5 (x1).toNatClampNeg)).toNatClampNeg)|||((upd S 12 (y2).toNatClampNeg (y1|||y0)) 12 (x1).toNatClampNeg)))) else none else f1 (57,7,[.ref 0,.int (x1+(-1))],[],(upd S 12 (y2).toNatClampNeg (y1|||y0))) else none else none:=JY h rfl<|Jv h rfl rfl (y1|||y0) fun i0=>Jd h rfl rfl<|Jg h rfl<|Jb h rfl rfl<|Jo h rfl rfl (S 5 (x1).toNatClampNeg) fun i1=>Je h rfl [.ref 0,.int x1,.int (S 5 (x1).toNatClampNeg)]<|Jb h rfl rfl<|JB h rfl (Jr h rfl<|Jn h rfl k_m1 rfl [.ref 0,.int (x1+(-1))]<|Jh h rfl rfl) (Jb h rfl rfl<|Jc h rfl k_32<|Jm h rfl (Jd h rfl rfl<|Jg h rfl<|Jb h rfl rfl<|Jd h rfl rfl<|Jg h rfl<|Jb h rfl rfl<|Jo h rfl rfl ((upd S 12 (y2).toNatClampNeg (y1|||y0)) 12 ((S 5 (x1).toNatClampNeg)).toNatClampNeg) fun i2=>Jd h rfl rfl<|Jg h rfl<|Jb h rfl rfl<|JF h rfl rfl i1 ((upd S 12 (y2).toNatClampNeg (y1|||y0)) 12 (x1).toNatClampNeg)<|JY h rfl<|Jx h rfl rfl (((upd S 12 (y2).toNatClampNeg (y1|||y0)) 12 ((S 5 (x1).toNatClampNeg)).toNatClampNeg)|||((upd S 12 (y2).toNatClampNeg (y1|||y0)) 12 (x1).toNatClampNeg)) i2<|Jr h rfl<|Jn h rfl k_m1 rfl [.ref 0,.int (x1+(-1))]<|Jh h rfl rfl) (Jr h rfl<|Jn h rfl k_m1 rfl [.ref 0,.int (x1+(-1))]<|Jh h rfl rfl))
theorem e1_56_0{f1}(h:Fx f1)(x1:Int32)(S):f1 (56,0,[.ref 0,.int x1],[],S)=if x1<0 then some (some (.int 0),S) else if x1<32 then if inb x1 32=true then if (S 3 (x1).toNatClampNeg)=2 then some (some (.int (1<<<(((S 4 (x1).toNatClampNeg)&&&7)&&&31))),S) else some (some (.int 0),S) else none else some (some (.int 0),S):=Jb h rfl rfl<|JB h rfl (Jc h rfl k_0<|Ji h rfl) (Jb h rfl rfl<|Jc h rfl k_32<|Jm h rfl (Jd h rfl rfl<|Jg h rfl<|Jb h rfl rfl<|Jo h rfl rfl (S 3 (x1).toNatClampNeg) fun i0=>Jc h rfl k_2<|JA h rfl (Jc h rfl k_1<|Jd h rfl rfl<|Jg h rfl<|Jb h rfl rfl<|JF h rfl rfl i0 (S 4 (x1).toNatClampNeg)<|Jc h rfl k_7<|Ju h rfl<|JI h rfl<|Ji h rfl) (Jc h rfl k_0<|Ji h rfl)) (Jc h rfl k_0<|Ji h rfl))
theorem e1_58_0{f1}(h:Fx f1)(S):f1 (58,0,[.ref 0],[],S)=f1 (58,2,[.ref 0,.int 0],[],S):=Jc h rfl k_0<|Je h rfl [.ref 0,.int 0] rfl
theorem e1_58_2{f1}(h:Fx f1)(x1:Int32)(S):f1 (58,2,[.ref 0,.int x1],[],S)=if x1<(S 0 4) then if x1<32 then if inb x1 32=true then if (S 6 (x1).toNatClampNeg)<0 then f1 (58,61,[.ref 0,.int x1,.int (S 6 (x1).toNatClampNeg),.int (S 5 (x1).toNatClampNeg)],[],S) else if (S 6 (x1).toNatClampNeg)<32 then if inb (S 6 (x1).toNatClampNeg) 40=true then (f1 (56,0,[.ref 0,.int (S 6 (x1).toNatClampNeg)],[],S)).bind fun q=>f1 (58,56,[.ref 0,.int x1,.int (S 6 (x1).toNatClampNeg),.int (S 5 (x1).toNatClampNeg)],q.1.toList++[.int (S 15 ((S 6 (x1).toNatClampNeg)).toNatClampNeg),.int x1,.ref 15],q.2) else none else f1 (58,61,[.ref 0,.int x1,.int (S 6 (x1).toNatClampNeg),.int (S 5 (x1).toNatClampNeg)],[],S) else none else f1 (58,99,[.ref 0,.int x1],[],S) else f1 (58,99,[.ref 0,.int x1],[],S):=Jb h rfl rfl<|Jd h rfl rfl<|Jj h rfl (S 0 4)<|Jm h rfl (Jb h rfl rfl<|Jc h rfl k_32<|Jm h rfl (Jd h rfl rfl<|Jg h rfl<|Jb h rfl rfl<|Jo h rfl rfl (S 6 (x1).toNatClampNeg) fun i0=>Je h rfl [.ref 0,.int x1,.int (S 6 (x1).toNatClampNeg)]<|Jd h rfl rfl<|Jg h rfl<|Jb h rfl rfl<|JF h rfl rfl i0 (S 5 (x1).toNatClampNeg)<|Je h rfl [.ref 0,.int x1,.int (S 6 (x1).toNatClampNeg),.int (S 5 (x1).toNatClampNeg)]<|Jb h rfl rfl<|JB h rfl rfl (Jb h rfl rfl<|Jc h rfl k_32<|Jm h rfl (Jd h rfl rfl<|Jg h rfl<|Jb h rfl rfl<|Jd h rfl rfl<|Jg h rfl<|Jb h rfl rfl<|Jo h rfl rfl (S 15 ((S 6 (x1).toNatClampNeg)).toNatClampNeg) fun i1=>Jd h rfl rfl<|Jb h rfl rfl<|Jf h rfl rfl) rfl)) rfl) rfl
theorem e1_58_56{f1}(h:Fx f1)(x1 x2 x3 y0 y1 y2:Int32)(S):f1 (58,56,[.ref 0,.int x1,.int x2,.int x3],[.int y0,.int y1,.int y2,.ref 15],S)=if inb y2 40=true then f1 (58,2,[.ref 0,.int (x1+1)],[],(upd S 15 (y2).toNatClampNeg (y1|||y0))) else none:=JY h rfl<|Jv h rfl rfl (y1|||y0) fun i0=>Jh h rfl<|Jn h rfl k_1 rfl [.ref 0,.int (x1+1),.int x2,.int x3]<|Jh h rfl<|Jr h rfl rfl
theorem e1_58_61{f1}(h:Fx f1)(x1 x2 x3:Int32)(S):f1 (58,61,[.ref 0,.int x1,.int x2,.int x3],[],S)=if x3<0 then if inb x1 40=true then f1 (58,2,[.ref 0,.int (x1+1)],[],(upd S 15 (x1).toNatClampNeg 0)) else none else if x3<32 then if inb x3 40=true then if inb x1 40=true then f1 (58,2,[.ref 0,.int (x1+1)],[],(upd S 15 (x1).toNatClampNeg (S 15 (x3).toNatClampNeg))) else none else none else if inb x1 40=true then f1 (58,2,[.ref 0,.int (x1+1)],[],(upd S 15 (x1).toNatClampNeg 0)) else none:=Jb h rfl rfl<|JB h rfl (Jd h rfl rfl<|Jg h rfl<|Jb h rfl rfl<|Jc h rfl k_0<|Jv h rfl rfl 0 fun i0=>Jn h rfl k_1 rfl [.ref 0,.int (x1+1),.int x2,.int x3]<|Jh h rfl<|Jr h rfl rfl) (Jb h rfl rfl<|Jc h rfl k_32<|Jm h rfl (Jd h rfl rfl<|Jg h rfl<|Jb h rfl rfl<|Jd h rfl rfl<|Jg h rfl<|Jb h rfl rfl<|Jo h rfl rfl (S 15 (x3).toNatClampNeg) fun i0=>Jv h rfl rfl (S 15 (x3).toNatClampNeg) fun i1=>Jh h rfl<|Jn h rfl k_1 rfl [.ref 0,.int (x1+1),.int x2,.int x3]<|Jh h rfl<|Jr h rfl rfl) (Jd h rfl rfl<|Jg h rfl<|Jb h rfl rfl<|Jc h rfl k_0<|Jv h rfl rfl 0 fun i0=>Jn h rfl k_1 rfl [.ref 0,.int (x1+1),.int x2,.int x3]<|Jh h rfl<|Jr h rfl rfl))
theorem e1_58_99{f1}(h:Fx f1)(x1:Int32)(S):f1 (58,99,[.ref 0,.int x1],[],S)=if (S 0 5)<0 then f1 (58,136,[.ref 0,.int 0],[],S) else if (S 0 5)<32 then if inb (S 0 5) 40=true then (f1 (56,0,[.ref 0,.int (S 0 5)],[],S)).bind fun q=>f1 (58,134,[.ref 0,.int 0],q.1.toList++[.int (S 15 ((S 0 5)).toNatClampNeg)],q.2) else none else f1 (58,136,[.ref 0,.int 0],[],S):=Jc h rfl k_0<|Je h rfl [.ref 0,.int 0]<|Jd h rfl rfl<|Jj h rfl (S 0 5)<|JB h rfl rfl (Jd h rfl rfl<|Jj h rfl (S 0 5)<|Jc h rfl k_32<|Jm h rfl (Jd h rfl rfl<|Jg h rfl<|Jd h rfl rfl<|Jj h rfl (S 0 5)<|Jo h rfl rfl (S 15 ((S 0 5)).toNatClampNeg) fun i0=>Jd h rfl rfl<|Jd h rfl rfl<|Jj h rfl (S 0 5)<|Jf h rfl rfl) rfl)
theorem e1_58_134{f1}(h:Fx f1)(x1 y0 y1:Int32)(S):f1 (58,134,[.ref 0,.int x1],[.int y0,.int y1],S)=f1 (58,136,[.ref 0,.int (y1|||y0)],[],S):=JY h rfl<|Je h rfl [.ref 0,.int (y1|||y0)] rfl
theorem e1_58_136{f1}(h:Fx f1)(x1:Int32)(S):f1 (58,136,[.ref 0,.int x1],[],S)=if (S 0 4)<0 then some (none,S) else if (S 0 4)<40 then if inb (S 0 4) 40=true then some (none,(upd S 15 ((S 0 4)).toNatClampNeg x1)) else none else some (none,S):=Jd h rfl rfl<|Jj h rfl (S 0 4)<|JB h rfl (Jk h rfl) (Jd h rfl rfl<|Jj h rfl (S 0 4)<|Jc h rfl k_40<|Jm h rfl (Jd h rfl rfl<|Jg h rfl<|Jd h rfl rfl<|Jj h rfl (S 0 4)<|Jb h rfl rfl<|Jv h rfl rfl x1 fun i0=>Jk h rfl) (Jk h rfl))
theorem e1_59_0{f1}(h:Fx f1)(S):f1 (59,0,[.ref 0],[],S)=f1 (59,2,[.ref 0,.int 0],[],S):=Jc h rfl k_0<|Je h rfl [.ref 0,.int 0] rfl
theorem e1_59_2{f1}(h:Fx f1)(x1:Int32)(S):f1 (59,2,[.ref 0,.int x1],[],S)=if (S 0 4)<x1 then some (none,S) else if x1<40 then f1 (59,18,[.ref 0,.int x1,.int 0],[],S) else some (none,S):=Jb h rfl rfl<|Jd h rfl rfl<|Jj h rfl (S 0 4)<|JT h rfl (Jk h rfl) (Jb h rfl rfl<|Jc h rfl k_40<|Jm h rfl (Jc h rfl k_0<|Je h rfl [.ref 0,.int x1,.int 0] rfl) (Jk h rfl))
theorem e1_59_18{f1}(h:Fx f1)(x1 x2:Int32)(S):f1 (59,18,[.ref 0,.int x1,.int x2],[],S)=if x2<8 then (f1 (60,0,[.ref 0,.int x1,.int x2],[],S)).bind fun q=>f1 (59,30,[.ref 0,.int x1,.int x2],q.1.toList++[],q.2) else f1 (59,2,[.ref 0,.int (x1+1)],[],S):=Jb h rfl rfl<|Jc h rfl k_8<|Jm h rfl (Jd h rfl rfl<|Jb h rfl rfl<|Jb h rfl rfl<|Jf h rfl rfl) (Jn h rfl k_1 rfl [.ref 0,.int (x1+1),.int x2]<|Jh h rfl<|Jr h rfl rfl)
theorem e1_59_30{f1}(h:Fx f1)(x1 x2:Int32)(S):f1 (59,30,[.ref 0,.int x1,.int x2],[],S)=f1 (59,18,[.ref 0,.int x1,.int (x2+1)],[],S):=Jn h rfl k_1 rfl [.ref 0,.int x1,.int (x2+1)]<|Jh h rfl rfl
theorem e1_60_0{f1}(h:Fx f1)(x1 x2:Int32)(S):f1 (60,0,[.ref 0,.int x1,.int x2],[],S)=if ((x1*8)+x2)<0 then some (none,S) else if ((x1*8)+x2)<320 then if x1<40 then if inb ((x1*8)+x2) 320=true then if inb x1 40=true then if (((S 15 (x1).toNatClampNeg)>>>(x2&&&31))&&&1)=0 then some (none,(upd (upd S 17 (((x1*8)+x2)).toNatClampNeg 0) 18 (((x1*8)+x2)).toNatClampNeg 0)) else if x1<(S 0 4) then if x1<32 then if inb x1 32=true then if (S 3 (x1).toNatClampNeg)=16 then f1 (60,97,[.ref 0,.int x1,.int x2,.int ((x1*8)+x2)],[.int 1],(upd (upd (upd (upd S 17 (((x1*8)+x2)).toNatClampNeg 0) 18 (((x1*8)+x2)).toNatClampNeg 0) 17 (((x1*8)+x2)).toNatClampNeg 1) 18 (((x1*8)+x2)).toNatClampNeg x2)) else f1 (60,96,[.ref 0,.int x1,.int x2,.int ((x1*8)+x2)],[],(upd (upd (upd (upd S 17 (((x1*8)+x2)).toNatClampNeg 0) 18 (((x1*8)+x2)).toNatClampNeg 0) 17 (((x1*8)+x2)).toNatClampNeg 1) 18 (((x1*8)+x2)).toNatClampNeg x2)) else none else f1 (60,96,[.ref 0,.int x1,.int x2,.int ((x1*8)+x2)],[],(upd (upd (upd (upd S 17 (((x1*8)+x2)).toNatClampNeg 0) 18 (((x1*8)+x2)).toNatClampNeg 0) 17 (((x1*8)+x2)).toNatClampNeg 1) 18 (((x1*8)+x2)).toNatClampNeg x2)) else f1 (60,96,[.ref 0,.int x1,.int x2,.int ((x1*8)+x2)],[],(upd (upd (upd (upd S 17 (((x1*8)+x2)).toNatClampNeg 0) 18 (((x1*8)+x2)).toNatClampNeg 0) 17 (((x1*8)+x2)).toNatClampNeg 1) 18 (((x1*8)+x2)).toNatClampNeg x2)) else none else none else some (none,S) else some (none,S):=Jb h rfl rfl<|Jc h rfl k_8<|Jz h rfl<|Jb h rfl rfl<|Jt h rfl<|Je h rfl [.ref 0,.int x1,.int x2,.int ((x1*8)+x2)]<|Jb h rfl rfl<|JB h rfl (Jk h rfl) (Jb h rfl rfl<|Jc h rfl k_320<|Jm h rfl (Jb h rfl rfl<|Jc h rfl k_40<|JJ h rfl (Jd h rfl rfl<|Jg h rfl<|Jb h rfl rfl<|Jc h rfl k_0<|Jv h rfl rfl 0 fun i0=>Jd h rfl rfl<|Jg h rfl<|Jb h rfl rfl<|Jc h rfl k_0<|Jx h rfl rfl 0 i0<|Jd h rfl rfl<|Jg h rfl<|Jb h rfl rfl<|Jo h rfl rfl (S 15 (x1).toNatClampNeg) fun i1=>Jb h rfl rfl<|JV h rfl<|Jc h rfl k_1<|Ju h rfl<|Js h rfl (Jk h rfl) (Jd h rfl rfl<|Jg h rfl<|Jb h rfl rfl<|Jc h rfl k_1<|Jx h rfl rfl 1 i0<|Jd h rfl rfl<|Jg h rfl<|Jb h rfl rfl<|Jb h rfl rfl<|Jx h rfl rfl x2 i0<|Jb h rfl rfl<|Jd h rfl rfl<|Jj h rfl (S 0 4)<|Jm h rfl (Jb h rfl rfl<|Jc h rfl k_32<|Jm h rfl (Jd h rfl rfl<|Jg h rfl<|Jb h rfl rfl<|Jo h rfl rfl (S 3 (x1).toNatClampNeg) fun i2=>Jc h rfl k_16<|Jp h rfl (Jc h rfl k_1<|Jh h rfl rfl) rfl) rfl) rfl)) (Jk h rfl)) (Jk h rfl))
theorem e1_19_0{f1}(h:Fx f1)(S):f1 (19,0,[.ref 0],[],S)=f1 (19,2,[.ref 0,.int 0],[],S):=Jc h rfl k_0<|Je h rfl [.ref 0,.int 0] rfl
theorem e1_19_2{f1}(h:Fx f1)(x1:Int32)(S):f1 (19,2,[.ref 0,.int x1],[],S)=if x1<128 then if inb x1 128=true then f1 (19,2,[.ref 0,.int (x1+1)],[],(upd S 23 (x1).toNatClampNeg 0)) else none else f1 (19,24,[.ref 0,.int 0],[],S):=Jb h rfl rfl<|Jc h rfl k_128<|Jm h rfl (Jd h rfl rfl<|Jg h rfl<|Jb h rfl rfl<|Jc h rfl k_0<|Jv h rfl rfl 0 fun i0=>Jn h rfl k_1 rfl [.ref 0,.int (x1+1)]<|Jh h rfl rfl) (Jc h rfl k_0<|Je h rfl [.ref 0,.int 0] rfl)
theorem e1_19_24{f1}(h:Fx f1)(x1:Int32)(S):f1 (19,24,[.ref 0,.int x1],[],S)=if x1<8 then if inb x1 8=true then f1 (19,24,[.ref 0,.int (x1+1)],[],(upd S 24 (x1).toNatClampNeg 0)) else none else if 0<(S 0 4) then some (none,(upd (upd (upd (upd S 0 8 0) 0 9 (-1)) 0 10 0) 0 7 0)) else some (none,(upd (upd (upd (upd S 0 8 0) 0 9 (-1)) 0 10 0) 0 7 (-2))):=Jb h rfl rfl<|Jc h rfl k_8<|Jm h rfl (Jd h rfl rfl<|Jg h rfl<|Jb h rfl rfl<|Jc h rfl k_0<|Jv h rfl rfl 0 fun i0=>Jn h rfl k_1 rfl [.ref 0,.int (x1+1)]<|Jh h rfl rfl) (Jd h rfl rfl<|Jc h rfl k_0<|Jw h rfl<|Jd h rfl rfl<|Jc h rfl k_m1<|Jw h rfl<|Jd h rfl rfl<|Jc h rfl k_0<|Jw h rfl<|Jd h rfl rfl<|Jj h rfl (S 0 4)<|Jab h rfl (Jd h rfl rfl<|Jc h rfl k_0<|Jw h rfl<|Jh h rfl<|Jk h rfl) (Jd h rfl rfl<|Jc h rfl k_m2<|Jw h rfl<|Jk h rfl))
theorem e1_63_0{f1}(h:Fx f1)(S):f1 (63,0,[.ref 0],[],S)=(f1 (64,0,[.ref 0,.int (S 0 7)],[],S)).bind fun q=>f1 (63,8,[.ref 0],q.1.toList++[],q.2):=Jd h rfl rfl<|Jd h rfl rfl<|Jj h rfl (S 0 7)<|Jf h rfl rfl
theorem e1_63_8{f1}(h:Fx f1)(y0:Int32)(S):f1 (63,8,[.ref 0],[.int y0],S)=some (none,(upd (upd S 0 7 y0) 0 8 ((S 0 8)+1))):=Je h rfl [.ref 0,.int y0]<|Jd h rfl rfl<|Jb h rfl rfl<|Jw h rfl<|Jd h rfl rfl<|JN h rfl<|Jj h rfl (S 0 8)<|Jc h rfl k_1<|Jt h rfl<|Jw h rfl<|Jk h rfl
theorem e1_64_0{f1}(h:Fx f1)(x1:Int32)(S):f1 (64,0,[.ref 0,.int x1],[],S)=if x1<0 then some (some (.int (-2)),S) else if x1<(S 0 4) then if x1<32 then if inb x1 32=true then f1 (64,30,[.ref 0,.int x1,.int (S 9 (x1).toNatClampNeg),.int 0],[],S) else none else some (some (.int (-2)),S) else some (some (.int (-2)),S):=Jb h rfl rfl<|JB h rfl (Jc h rfl k_m2<|Ji h rfl) (Jb h rfl rfl<|Jd h rfl rfl<|Jj h rfl (S 0 4)<|Jm h rfl (Jb h rfl rfl<|Jc h rfl k_32<|JJ h rfl (Jd h rfl rfl<|Jg h rfl<|Jb h rfl rfl<|Jo h rfl rfl (S 9 (x1).toNatClampNeg) fun i0=>Je h rfl [.ref 0,.int x1,.int (S 9 (x1).toNatClampNeg)]<|Jc h rfl k_0<|Je h rfl [.ref 0,.int x1,.int (S 9 (x1).toNatClampNeg),.int 0] rfl) (Jc h rfl k_m2<|Ji h rfl)) (Jc h rfl k_m2<|Ji h rfl))
theorem e1_64_30{f1}(h:Fx f1)(x1 x2 x3:Int32)(S):f1 (64,30,[.ref 0,.int x1,.int x2,.int x3],[],S)=if x3<1024 then if x2<0 then some (some (.int (-2)),S) else if x2<(S 0 6) then if x2<1024 then if inb x2 1024=true then if (S 19 (x2).toNatClampNeg)=8 then some (some (.int (S 21 (x2).toNatClampNeg)),S) else if (S 19 (x2).toNatClampNeg)=9 then if inb ((S 20 (x2).toNatClampNeg)&&&7) 8=true then if (S 24 (((S 20 (x2).toNatClampNeg)&&&7)).toNatClampNeg)=0 then some (some (.int (S 22 (x2).toNatClampNeg)),S) else some (some (.int (S 21 (x2).toNatClampNeg)),S) else none else if (S 19 (x2).toNatClampNeg)=10 then if (S 20 (x2).toNatClampNeg)=0 then some (some (.int (S 22 (x2).toNatClampNeg)),S) else some (some (.int (S 21 (x2).toNatClampNeg)),S) else (f1 (65,0,[.ref 0,.int x2],[],S)).bind fun q=>f1 (64,154,[.ref 0,.int x1,.int x2,.int x3,.int (S 19 (x2).toNatClampNeg)],q.1.toList++[],q.2) else none else some (some (.int (-2)),S) else some (some (.int (-2)),S) else some (some (.int (-2)),S):=Jb h rfl rfl<|Jc h rfl k_1024<|Jm h rfl (Jb h rfl rfl<|JB h rfl (Jc h rfl k_m2<|Ji h rfl) (Jb h rfl rfl<|Jd h rfl rfl<|Jj h rfl (S 0 6)<|Jm h rfl (Jb h rfl rfl<|Jc h rfl k_1024<|JJ h rfl (Jd h rfl rfl<|Jg h rfl<|Jb h rfl rfl<|Jo h rfl rfl (S 19 (x2).toNatClampNeg) fun i0=>Je h rfl [.ref 0,.int x1,.int x2,.int x3,.int (S 19 (x2).toNatClampNeg)]<|Jb h rfl rfl<|Jc h rfl k_8<|Jp h rfl (Jd h rfl rfl<|Jg h rfl<|Jb h rfl rfl<|JF h rfl rfl i0 (S 21 (x2).toNatClampNeg)<|Ji h rfl) (Jb h rfl rfl<|Jc h rfl k_9<|Jp h rfl (Jd h rfl rfl<|Jg h rfl<|Jd h rfl rfl<|Jg h rfl<|Jb h rfl rfl<|JF h rfl rfl i0 (S 20 (x2).toNatClampNeg)<|Jc h rfl k_7<|Ju h rfl<|Jo h rfl rfl (S 24 (((S 20 (x2).toNatClampNeg)&&&7)).toNatClampNeg) fun i1=>Jy h rfl (Jd h rfl rfl<|Jg h rfl<|Jb h rfl rfl<|JF h rfl rfl i0 (S 22 (x2).toNatClampNeg)<|Ji h rfl) (Jd h rfl rfl<|Jg h rfl<|Jb h rfl rfl<|JF h rfl rfl i0 (S 21 (x2).toNatClampNeg)<|Ji h rfl)) (Jb h rfl rfl<|Jc h rfl k_10<|Jp h rfl (Jd h rfl rfl<|Jg h rfl<|Jb h rfl rfl<|JF h rfl rfl i0 (S 20 (x2).toNatClampNeg)<|Jy h rfl (Jd h rfl rfl<|Jg h rfl<|Jb h rfl rfl<|JF h rfl rfl i0 (S 22 (x2).toNatClampNeg)<|Ji h rfl) (Jd h rfl rfl<|Jg h rfl<|Jb h rfl rfl<|JF h rfl rfl i0 (S 21 (x2).toNatClampNeg)<|Ji h rfl)) (Jd h rfl rfl<|Jb h rfl rfl<|Jf h rfl rfl)))) (Jc h rfl k_m2<|Ji h rfl)) (Jc h rfl k_m2<|Ji h rfl))) (Jc h rfl k_m2<|Ji h rfl)
theorem e1_64_154{f1}(h:Fx f1)(x1 x2 x3 x4:Int32)(S):f1 (64,154,[.ref 0,.int x1,.int x2,.int x3,.int x4],[],S)=f1 (64,30,[.ref 0,.int x1,.int (x2+1),.int (x3+1)],[],S):=Jn h rfl k_1 rfl [.ref 0,.int x1,.int (x2+1),.int x3,.int x4]<|Jn h rfl k_1 rfl [.ref 0,.int x1,.int (x2+1),.int (x3+1),.int x4]<|Jh h rfl<|Jr h rfl rfl
theorem e1_65_0{f1}(h:Fx f1)(x1:Int32)(S):f1 (65,0,[.ref 0,.int x1],[],S)=if inb x1 1024=true then if (S 19 (x1).toNatClampNeg)=1 then if inb ((S 20 (x1).toNatClampNeg)&&&7) 8=true then some (none,(upd S 24 (((S 20 (x1).toNatClampNeg)&&&7)).toNatClampNeg (S 21 (x1).toNatClampNeg))) else none else if (S 19 (x1).toNatClampNeg)=2 then (f1 (66,0,[.ref 0,.int (S 21 (x1).toNatClampNeg)],[],S)).bind fun q=>f1 (65,68,[.ref 0,.int x1,.int (S 19 (x1).toNatClampNeg),.int (S 20 (x1).toNatClampNeg),.int (S 21 (x1).toNatClampNeg),.int (S 22 (x1).toNatClampNeg)],q.1.toList++[.int ((S 20 (x1).toNatClampNeg)&&&7),.ref 24],q.2) else if (S 19 (x1).toNatClampNeg)=3 then if inb ((S 21 (x1).toNatClampNeg)&&&7) 8=true then (f1 (67,0,[.ref 0,.int (S 20 (x1).toNatClampNeg),.int (S 24 (((S 21 (x1).toNatClampNeg)&&&7)).toNatClampNeg)],[],S)).bind fun q=>f1 (65,92,[.ref 0,.int x1,.int (S 19 (x1).toNatClampNeg),.int (S 20 (x1).toNatClampNeg),.int (S 21 (x1).toNatClampNeg),.int (S 22 (x1).toNatClampNeg)],q.1.toList++[],q.2) else none else if (S 19 (x1).toNatClampNeg)=4 then (f1 (67,0,[.ref 0,.int (S 20 (x1).toNatClampNeg),.int (S 21 (x1).toNatClampNeg)],[],S)).bind fun q=>f1 (65,107,[.ref 0,.int x1,.int (S 19 (x1).toNatClampNeg),.int (S 20 (x1).toNatClampNeg),.int (S 21 (x1).toNatClampNeg),.int (S 22 (x1).toNatClampNeg)],q.1.toList++[],q.2) else if (S 19 (x1).toNatClampNeg)=5 then if inb ((S 20 (x1).toNatClampNeg)&&&7) 8=true then if inb ((S 21 (x1).toNatClampNeg)&&&7) 8=true then (f1 (68,0,[.ref 0,.int (S 22 (x1).toNatClampNeg),.int (S 24 (((S 20 (x1).toNatClampNeg)&&&7)).toNatClampNeg),.int (S 24 (((S 21 (x1).toNatClampNeg)&&&7)).toNatClampNeg)],[],S)).bind fun q=>f1 (65,156,[.ref 0,.int x1,.int (S 19 (x1).toNatClampNeg),.int (S 20 (x1).toNatClampNeg),.int (S 21 (x1).toNatClampNeg),.int (S 22 (x1).toNatClampNeg),.int (S 24 (((S 20 (x1).toNatClampNeg)&&&7)).toNatClampNeg),.int (S 24 (((S 21 (x1).toNatClampNeg)&&&7)).toNatClampNeg)],q.1.toList++[.int ((S 20 (x1).toNatClampNeg)&&&7),.ref 24],q.2) else none else none else if (S 19 (x1).toNatClampNeg)=6 then if inb ((S 20 (x1).toNatClampNeg)&&&7) 8=true then (f1 (68,0,[.ref 0,.int (S 22 (x1).toNatClampNeg),.int (S 24 (((S 20 (x1).toNatClampNeg)&&&7)).toNatClampNeg),.int (S 21 (x1).toNatClampNeg)],[],S)).bind fun q=>f1 (65,195,[.ref 0,.int x1,.int (S 19 (x1).toNatClampNeg),.int (S 20 (x1).toNatClampNeg),.int (S 21 (x1).toNatClampNeg),.int (S 22 (x1).toNatClampNeg),.int (S 24 (((S 20 (x1).toNatClampNeg)&&&7)).toNatClampNeg)],q.1.toList++[.int ((S 20 (x1).toNatClampNeg)&&&7),.ref 24],q.2) else none else if (S 19 (x1).toNatClampNeg)=7 then if inb ((S 20 (x1).toNatClampNeg)&&&7) 8=true then some (none,(upd S 24 (((S 20 (x1).toNatClampNeg)&&&7)).toNatClampNeg (0-(S 24 (((S 20 (x1).toNatClampNeg)&&&7)).toNatClampNeg)))) else none else some (none,S) else none:=Jd h rfl rfl<|Jg h rfl<|Jb h rfl rfl<|Jo h rfl rfl (S 19 (x1).toNatClampNeg) fun i0=>Je h rfl [.ref 0,.int x1,.int (S 19 (x1).toNatClampNeg)]<|Jd h rfl rfl<|Jg h rfl<|Jb h rfl rfl<|JF h rfl rfl i0 (S 20 (x1).toNatClampNeg)<|Je h rfl [.ref 0,.int x1,.int (S 19 (x1).toNatClampNeg),.int (S 20 (x1).toNatClampNeg)]<|Jd h rfl rfl<|Jg h rfl<|Jb h rfl rfl<|JF h rfl rfl i0 (S 21 (x1).toNatClampNeg)<|Je h rfl [.ref 0,.int x1,.int (S 19 (x1).toNatClampNeg),.int (S 20 (x1).toNatClampNeg),.int (S 21 (x1).toNatClampNeg)]<|Jd h rfl rfl<|Jg h rfl<|Jb h rfl rfl<|JF h rfl rfl i0 (S 22 (x1).toNatClampNeg)<|Je h rfl [.ref 0,.int x1,.int (S 19 (x1).toNatClampNeg),.int (S 20 (x1).toNatClampNeg),.int (S 21 (x1).toNatClampNeg),.int (S 22 (x1).toNatClampNeg)]<|Jb h rfl rfl<|Jc h rfl k_1<|Jp h rfl (Jd h rfl rfl<|Jg h rfl<|Jb h rfl rfl<|Jc h rfl k_7<|Ju h rfl<|Jb h rfl rfl<|Jv h rfl rfl (S 21 (x1).toNatClampNeg) fun i1=>Jh h rfl<|Jk h rfl) (Jb h rfl rfl<|Jc h rfl k_2<|Jp h rfl (Jd h rfl rfl<|Jg h rfl<|Jb h rfl rfl<|Jc h rfl k_7<|Ju h rfl<|Jd h rfl rfl<|Jb h rfl rfl<|Jf h rfl rfl) (Jb h rfl rfl<|Jc h rfl k_3<|Jp h rfl (Jd h rfl rfl<|Jb h rfl rfl<|Jd h rfl rfl<|Jg h rfl<|Jb h rfl rfl<|Jc h rfl k_7<|Ju h rfl<|Jo h rfl rfl (S 24 (((S 21 (x1).toNatClampNeg)&&&7)).toNatClampNeg) fun i1=>Jf h rfl rfl) (Jb h rfl rfl<|Jc h rfl k_4<|Jp h rfl (Jd h rfl rfl<|Jb h rfl rfl<|Jb h rfl rfl<|Jf h rfl rfl) (Jb h rfl rfl<|Jc h rfl k_5<|Jp h rfl (Jd h rfl rfl<|Jg h rfl<|Jb h rfl rfl<|Jc h rfl k_7<|Ju h rfl<|Jo h rfl rfl (S 24 (((S 20 (x1).toNatClampNeg)&&&7)).toNatClampNeg) fun i1=>Je h rfl [.ref 0,.int x1,.int (S 19 (x1).toNatClampNeg),.int (S 20 (x1).toNatClampNeg),.int (S 21 (x1).toNatClampNeg),.int (S 22 (x1).toNatClampNeg),.int (S 24 (((S 20 (x1).toNatClampNeg)&&&7)).toNatClampNeg)]<|Jd h rfl rfl<|Jg h rfl<|Jb h rfl rfl<|Jc h rfl k_7<|Ju h rfl<|Jo h rfl rfl (S 24 (((S 21 (x1).toNatClampNeg)&&&7)).toNatClampNeg) fun i2=>Je h rfl [.ref 0,.int x1,.int (S 19 (x1).toNatClampNeg),.int (S 20 (x1).toNatClampNeg),.int (S 21 (x1).toNatClampNeg),.int (S 22 (x1).toNatClampNeg),.int (S 24 (((S 20 (x1).toNatClampNeg)&&&7)).toNatClampNeg),.int (S 24 (((S 21 (x1).toNatClampNeg)&&&7)).toNatClampNeg)]<|Jd h rfl rfl<|Jg h rfl<|Jb h rfl rfl<|Jc h rfl k_7<|Ju h rfl<|Jd h rfl rfl<|Jb h rfl rfl<|Jb h rfl rfl<|Jb h rfl rfl<|Jf h rfl rfl) (Jb h rfl rfl<|Jc h rfl k_6<|Jp h rfl (Jd h rfl rfl<|Jg h rfl<|Jb h rfl rfl<|Jc h rfl k_7<|Ju h rfl<|Jo h rfl rfl (S 24 (((S 20 (x1).toNatClampNeg)&&&7)).toNatClampNeg) fun i1=>Je h rfl [.ref 0,.int x1,.int (S 19 (x1).toNatClampNeg),.int (S 20 (x1).toNatClampNeg),.int (S 21 (x1).toNatClampNeg),.int (S 22 (x1).toNatClampNeg),.int (S 24 (((S 20 (x1).toNatClampNeg)&&&7)).toNatClampNeg)]<|Jd h rfl rfl<|Jg h rfl<|Jb h rfl rfl<|Jc h rfl k_7<|Ju h rfl<|Jd h rfl rfl<|Jb h rfl rfl<|Jb h rfl rfl<|Jb h rfl rfl<|Jf h rfl rfl) (Jb h rfl rfl<|Jc h rfl k_7<|Jp h rfl (Jd h rfl rfl<|Jg h rfl<|Jb h rfl rfl<|Jc h rfl k_7<|Ju h rfl<|Jc h rfl k_0<|Jd h rfl rfl<|Jg h rfl<|Jb h rfl rfl<|Jc h rfl k_7<|Ju h rfl<|Jo h rfl rfl (S 24 (((S 20 (x1).toNatClampNeg)&&&7)).toNatClampNeg) fun i1=>JG h rfl<|Jx h rfl rfl (0-(S 24 (((S 20 (x1).toNatClampNeg)&&&7)).toNatClampNeg)) i1<|Jk h rfl) (Jk h rfl)))))))
theorem e1_65_68{f1}(h:Fx f1)(x1 x2 x3 x4 x5 y0 y1:Int32)(S):f1 (65,68,[.ref 0,.int x1,.int x2,.int x3,.int x4,.int x5],[.int y0,.int y1,.ref 24],S)=if inb y1 8=true then some (none,(upd S 24 (y1).toNatClampNeg y0)) else none:=Jv h rfl rfl y0 fun i0=>Jh h rfl<|Jk h rfl
theorem e1_65_92{f1}(h:Fx f1)(x1 x2 x3 x4 x5:Int32)(S):f1 (65,92,[.ref 0,.int x1,.int x2,.int x3,.int x4,.int x5],[],S)=some (none,S):=Jh h rfl<|Jk h rfl
theorem e1_65_107{f1}(h:Fx f1)(x1 x2 x3 x4 x5:Int32)(S):f1 (65,107,[.ref 0,.int x1,.int x2,.int x3,.int x4,.int x5],[],S)=some (none,S):=Jh h rfl<|Jk h rfl
theorem e1_65_156{f1}(h:Fx f1)(x1 x2 x3 x4 x5 x6 x7 y0 y1:Int32)(S):f1 (65,156,[.ref 0,.int x1,.int x2,.int x3,.int x4,.int x5,.int x6,.int x7],[.int y0,.int y1,.ref 24],S)=if inb y1 8=true then some (none,(upd S 24 (y1).toNatClampNeg y0)) else none:=Jv h rfl rfl y0 fun i0=>Jh h rfl<|Jr h rfl<|Jk h rfl
theorem e1_65_195{f1}(h:Fx f1)(x1 x2 x3 x4 x5 x6 y0 y1:Int32)(S):f1 (65,195,[.ref 0,.int x1,.int x2,.int x3,.int x4,.int x5,.int x6],[.int y0,.int y1,.ref 24],S)=if inb y1 8=true then some (none,(upd S 24 (y1).toNatClampNeg y0)) else none:=Jv h rfl rfl y0 fun i0=>Jh h rfl<|Jr h rfl<|Jk h rfl
theorem e1_66_0{f1}(h:Fx f1)(x1:Int32)(S):f1 (66,0,[.ref 0,.int x1],[],S)=if x1<0 then some (some (.int 0),S) else if x1<128 then if inb x1 128=true then some (some (.int (S 23 (x1).toNatClampNeg)),S) else none else some (some (.int 0),S):=Jb h rfl rfl<|JB h rfl (Jc h rfl k_0<|Ji h rfl) (Jb h rfl rfl<|Jc h rfl k_128<|JJ h rfl (Jd h rfl rfl<|Jg h rfl<|Jb h rfl rfl<|Jo h rfl rfl (S 23 (x1).toNatClampNeg) fun i0=>Ji h rfl) (Jc h rfl k_0<|Ji h rfl))
theorem e1_68_0{f1}(h:Fx f1)(x1 x2 x3:Int32)(S):f1 (68,0,[.ref 0,.int x1,.int x2,.int x3],[],S)=if x1=5 then some (some (.int (x2+x3)),S) else if x1=6 then some (some (.int (x2-x3)),S) else if x1=7 then some (some (.int (x2*x3)),S) else if x1=8 then if x3=0 then some (some (.int 0),S) else f1 (68,43,[.ref 0,.int x1,.int x2,.int x3],[.int x3,.int x2],S) else if x1=9 then if x3=0 then some (some (.int 0),S) else f1 (68,59,[.ref 0,.int x1,.int x2,.int x3],[.int x3,.int x2],S) else if x1=10 then if x2<x3 then some (some (.int 1),S) else some (some (.int 0),S) else if x1=11 then if x2=x3 then some (some (.int 1),S) else some (some (.int 0),S) else some (some (.int 0),S):=Jb h rfl rfl<|Jc h rfl k_5<|Jp h rfl (Jb h rfl rfl<|Jb h rfl rfl<|Jt h rfl<|Ji h rfl) (Jb h rfl rfl<|Jc h rfl k_6<|Jp h rfl (Jb h rfl rfl<|Jb h rfl rfl<|JG h rfl<|Ji h rfl) (Jb h rfl rfl<|Jc h rfl k_7<|Jp h rfl (Jb h rfl rfl<|Jb h rfl rfl<|Jz h rfl<|Ji h rfl) (Jb h rfl rfl<|Jc h rfl k_8<|Jp h rfl (Jb h rfl rfl<|Js h rfl (Jc h rfl k_0<|Ji h rfl) (Jb h rfl rfl<|Jb h rfl rfl rfl)) (Jb h rfl rfl<|Jc h rfl k_9<|Jp h rfl (Jb h rfl rfl<|Js h rfl (Jc h rfl k_0<|Ji h rfl) (Jb h rfl rfl<|Jb h rfl rfl rfl)) (Jb h rfl rfl<|Jc h rfl k_10<|Jp h rfl (Jb h rfl rfl<|Jb h rfl rfl<|Jm h rfl (Jc h rfl k_1<|Jh h rfl<|Ji h rfl) (Jc h rfl k_0<|Ji h rfl)) (Jb h rfl rfl<|Jc h rfl k_11<|Jp h rfl (Jb h rfl rfl<|Jb h rfl rfl<|Jp h rfl (Jc h rfl k_1<|Jh h rfl<|Ji h rfl) (Jc h rfl k_0<|Ji h rfl)) (Jc h rfl k_0<|Ji h rfl)))))))
theorem e1_68_59{f1}(h:Fx f1)(x1 x2 x3 y0 y1:Int32)(hz_y0:y0≠0)(S):f1 (68,59,[.ref 0,.int x1,.int x2,.int x3],[.int y0,.int y1],S)=some (some (.int (y1%y0)),S):=JW h rfl hz_y0<|Ji h rfl
theorem e1_68_43{f1}(h:Fx f1)(x1 x2 x3 y0 y1:Int32)(hz_y0:y0≠0)(S):f1 (68,43,[.ref 0,.int x1,.int x2,.int x3],[.int y0,.int y1],S)=some (some (.int (y1/y0)),S):=Jac h rfl hz_y0<|Ji h rfl
theorem e1_67_0{f1}(h:Fx f1)(x1 x2:Int32)(S):f1 (67,0,[.ref 0,.int x1,.int x2],[],S)=if x1<0 then some (none,S) else if x1<128 then if inb x1 128=true then if x1<8 then some (none,(upd (upd (upd S 23 (x1).toNatClampNeg x2) 0 9 x1) 0 10 x2)) else some (none,(upd S 23 (x1).toNatClampNeg x2)) else none else some (none,S):=Jb h rfl rfl<|JB h rfl (Jk h rfl) (Jb h rfl rfl<|Jc h rfl k_128<|JJ h rfl (Jd h rfl rfl<|Jg h rfl<|Jb h rfl rfl<|Jb h rfl rfl<|Jv h rfl rfl x2 fun i0=>Jb h rfl rfl<|Jc h rfl k_8<|Jm h rfl (Jd h rfl rfl<|Jb h rfl rfl<|Jw h rfl<|Jd h rfl rfl<|Jb h rfl rfl<|Jw h rfl<|Jk h rfl) (Jk h rfl)) (Jk h rfl))
theorem e1_20_0{f1}(h:Fx f1)(x1:Int32)(S):f1 (20,0,[.ref 0,.int x1],[],S)=if x1<0 then some (some (.int 0),S) else if x1<(S 0 4) then if x1<32 then if inb x1 32=true then some (some (.int ((S 16 (x1).toNatClampNeg)&&&1)),S) else none else some (some (.int 0),S) else some (some (.int 0),S):=Jb h rfl rfl<|JB h rfl (Jc h rfl k_0<|Jl h rfl) (Jb h rfl rfl<|Jd h rfl rfl<|Jj h rfl (S 0 4)<|Jm h rfl (Jb h rfl rfl<|Jc h rfl k_32<|JJ h rfl (Jd h rfl rfl<|Jg h rfl<|Jb h rfl rfl<|J0 h rfl rfl (S 16 (x1).toNatClampNeg) fun i0=>J5 h rfl) (Jc h rfl k_0<|Jl h rfl)) (Jc h rfl k_0<|Jl h rfl))
theorem e1_3_0{f1}(h:Fx f1)(S):f1 (3,0,[.ref 0],[],S)=(f1 (17,0,[.ref 0],[],S)).bind fun q=>f1 (3,4,[.ref 0],q.1.toList++[],q.2):=Jd h rfl rfl<|Jf h rfl rfl
theorem e1_3_4{f1}(h:Fx f1)(S):f1 (3,4,[.ref 0],[],S)=some (none,S):=Jk h rfl
theorem e1_12_0{f1}(h:Fx f1)(S):f1 (12,0,[.ref 0],[],S)=if (S 0 1)=0 then some (some (.int 0),S) else some (some (.int (S 0 8)),S):=Jd h rfl rfl<|Jj h rfl (S 0 1)<|Js h rfl (Jc h rfl k_0<|Ji h rfl) (Jd h rfl rfl<|Jj h rfl (S 0 8)<|Ji h rfl)
theorem e1_15_0{f1}(h:Fx f1)(S):f1 (15,0,[.ref 0],[],S)=if (S 0 1)=0 then some (some (.int (-1)),S) else some (some (.int (S 0 9)),S):=Jd h rfl rfl<|Jj h rfl (S 0 1)<|Js h rfl (Jc h rfl k_m1<|Ji h rfl) (Jd h rfl rfl<|Jj h rfl (S 0 9)<|Ji h rfl)
theorem e1_16_0{f1}(h:Fx f1)(S):f1 (16,0,[.ref 0],[],S)=if (S 0 1)=0 then some (some (.int 0),S) else some (some (.int (S 0 10)),S):=Jd h rfl rfl<|Jj h rfl (S 0 1)<|Js h rfl (Jc h rfl k_0<|Ji h rfl) (Jd h rfl rfl<|Jj h rfl (S 0 10)<|Ji h rfl)
theorem e1_13_0{f1}(h:Fx f1)(x1:Int32)(S):f1 (13,0,[.ref 0,.int x1],[],S)=if (S 0 1)=0 then some (some (.int 0),S) else if x1<0 then some (some (.int 0),S) else if x1<8 then (f1 (21,0,[.ref 0],[],S)).bind fun q=>f1 (13,23,[.ref 0,.int x1],q.1.toList++[],q.2) else some (some (.int 0),S):=Jd h rfl rfl<|Jj h rfl (S 0 1)<|Jy h rfl (Jc h rfl k_0<|Jl h rfl) (Jb h rfl rfl<|JB h rfl (Jc h rfl k_0<|Jl h rfl) (Jb h rfl rfl<|Jc h rfl k_8<|JJ h rfl (Jd h rfl rfl<|Jf h rfl rfl) (Jc h rfl k_0<|Jl h rfl)))
theorem e1_13_23{f1}(h:Fx f1)(x1 y0:Int32)(S):f1 (13,23,[.ref 0,.int x1],[.int y0],S)=if y0<0 then some (some (.int 0),S) else if y0<40 then if inb y0 40=true then if (((S 15 (y0).toNatClampNeg)>>>(x1&&&31))&&&1)=0 then some (some (.int 0),S) else some (some (.int 1),S) else none else some (some (.int 0),S):=Je h rfl [.ref 0,.int x1,.int y0]<|Jb h rfl rfl<|JB h rfl (Jc h rfl k_0<|Jl h rfl) (Jb h rfl rfl<|Jc h rfl k_40<|JJ h rfl (Jd h rfl rfl<|Jg h rfl<|Jb h rfl rfl<|Jo h rfl rfl (S 15 (y0).toNatClampNeg) fun i0=>Jb h rfl rfl<|JV h rfl<|Jc h rfl k_1<|Ju h rfl<|Jy h rfl (Jc h rfl k_0<|Jl h rfl) (Jc h rfl k_1<|Jh h rfl<|JC h rfl)) (Jc h rfl k_0<|Jl h rfl))
theorem e1_21_0{f1}(h:Fx f1)(S):f1 (21,0,[.ref 0],[],S)=if (S 0 7)<0 then some (some (.int (S 0 4)),S) else if (S 0 7)<(S 0 4) then some (some (.int (S 0 7)),S) else some (some (.int (S 0 4)),S):=Jd h rfl rfl<|Jj h rfl (S 0 7)<|JB h rfl (Jd h rfl rfl<|Jj h rfl (S 0 4)<|Ji h rfl) (Jd h rfl rfl<|Jj h rfl (S 0 7)<|Jd h rfl rfl<|Jj h rfl (S 0 4)<|Jm h rfl (Jd h rfl rfl<|Jj h rfl (S 0 7)<|Ji h rfl) (Jd h rfl rfl<|Jj h rfl (S 0 4)<|Ji h rfl))
theorem e1_14_0{f1}(h:Fx f1)(x1:Int32)(S):f1 (14,0,[.ref 0,.int x1],[],S)=(f1 (13,0,[.ref 0,.int x1],[],S)).bind fun q=>f1 (14,5,[.ref 0,.int x1],q.1.toList++[],q.2):=Jd h rfl rfl<|Jb h rfl rfl<|Jf h rfl rfl
theorem e1_14_5{f1}(h:Fx f1)(x1 y0:Int32)(S):f1 (14,5,[.ref 0,.int x1],[.int y0],S)=if y0=0 then some (some (.int 0),S) else (f1 (21,0,[.ref 0],[],S)).bind fun q=>f1 (14,14,[.ref 0,.int x1],q.1.toList++[],q.2):=Js h rfl (Jc h rfl k_0<|Ji h rfl) (Jd h rfl rfl<|Jf h rfl rfl)
theorem e2_0_0{f1 f2 xs}(h:Fy xs f1 f2):f2 (0,0,[.ref 0],[],(false,[]))=if 0<(Int32.ofNat xs.length) then if inb 0 xs.length=true then (f1 (0,431,[.ref 0,.int (xs.getD (0:Int32).toNatClampNeg 0)],[],iniS iv1)).bind fun q=>f2 (0,19,[.ref 0],[.ref 1],(false,[q.2])) else none else (f1 (0,431,[.ref 0,.int 3],[],iniS iv1)).bind fun q=>f2 (0,19,[.ref 0],[.ref 1],(false,[q.2])):=JX h rfl<|JN h rfl<|Jd h rfl rfl<|J8 h rfl<|Jab h rfl (Jd h rfl rfl<|Jc h rfl k_0<|JR h rfl fun _=>Jh h rfl<|JZ h rfl rfl) (Jc h rfl k_3<|JZ h rfl rfl)
theorem e2_0_19{f1 f2 xs}(h:Fy xs f1 f2)(S0):f2 (0,19,[.ref 0],[.ref 1],(false,[S0]))=f2 (0,22,[.ref 0,.ref 1,.int 1],[],(false,[S0])):=J9 h rfl [.ref 0,.ref 1]<|Jc h rfl k_1<|Je h rfl [.ref 0,.ref 1,.int 1] rfl
theorem e2_0_22{f1 f2 xs}(h:Fy xs f1 f2)(x2:Int32)(S0):f2 (0,22,[.ref 0,.ref 1,.int x2],[],(false,[S0]))=if (Int32.ofNat xs.length)<(x2+3) then (f1 (11,0,[.ref 0],[],S0)).bind fun q=>f2 (0,269,[.ref 0,.ref 1,.int x2],q.1.toList++[],(false,[q.2])) else if inb x2 xs.length=true then if inb (x2+1) xs.length=true then if inb (x2+2) xs.length=true then if 6<((xs.getD (x2).toNatClampNeg 0)&&&15) then if 8<((xs.getD (x2).toNatClampNeg 0)&&&15) then if 10<((xs.getD (x2).toNatClampNeg 0)&&&15) then if 12<((xs.getD (x2).toNatClampNeg 0)&&&15) then if 14<((xs.getD (x2).toNatClampNeg 0)&&&15) then if ((xs.getD ((x2+2)).toNatClampNeg 0)&&&7)=0 then (f1 (3,0,[.ref 0],[],S0)).bind fun q=>f2 (0,251,[.ref 0,.ref 1,.int x2,.int ((xs.getD (x2).toNatClampNeg 0)&&&15),.int (xs.getD ((x2+1)).toNatClampNeg 0),.int (xs.getD ((x2+2)).toNatClampNeg 0)],q.1.toList++[],(false,[q.2])) else (f1 (10,0,[.ref 0],[],S0)).bind fun q=>f2 (0,258,[.ref 0,.ref 1,.int x2,.int ((xs.getD (x2).toNatClampNeg 0)&&&15),.int (xs.getD ((x2+1)).toNatClampNeg 0),.int (xs.getD ((x2+2)).toNatClampNeg 0)],q.1.toList++[],(false,[q.2])) else (f1 (9,0,[.ref 0,.int (((xs.getD ((x2+1)).toNatClampNeg 0)&&&15)-1)],[],S0)).bind fun q=>f2 (0,235,[.ref 0,.ref 1,.int x2,.int ((xs.getD (x2).toNatClampNeg 0)&&&15),.int (xs.getD ((x2+1)).toNatClampNeg 0),.int (xs.getD ((x2+2)).toNatClampNeg 0)],q.1.toList++[],(false,[q.2])) else (f1 (8,0,[.ref 0],[],S0)).bind fun q=>f2 (0,214,[.ref 0,.ref 1,.int x2,.int ((xs.getD (x2).toNatClampNeg 0)&&&15),.int (xs.getD ((x2+1)).toNatClampNeg 0),.int (xs.getD ((x2+2)).toNatClampNeg 0)],q.1.toList++[],(false,[q.2])) else if ((xs.getD ((x2+2)).toNatClampNeg 0)&&&1)=1 then (f1 (7,0,[.ref 0,.int ((xs.getD ((x2+1)).toNatClampNeg 0)&&&15),.int 1],[],S0)).bind fun q=>f2 (0,200,[.ref 0,.ref 1,.int x2,.int ((xs.getD (x2).toNatClampNeg 0)&&&15),.int (xs.getD ((x2+1)).toNatClampNeg 0),.int (xs.getD ((x2+2)).toNatClampNeg 0)],q.1.toList++[],(false,[q.2])) else (f1 (7,0,[.ref 0,.int ((xs.getD ((x2+1)).toNatClampNeg 0)&&&15),.int 0],[],S0)).bind fun q=>f2 (0,200,[.ref 0,.ref 1,.int x2,.int ((xs.getD (x2).toNatClampNeg 0)&&&15),.int (xs.getD ((x2+1)).toNatClampNeg 0),.int (xs.getD ((x2+2)).toNatClampNeg 0)],q.1.toList++[],(false,[q.2])) else (f1 (4,0,[.ref 0],[],S0)).bind fun q=>f2 (0,168,[.ref 0,.ref 1,.int x2,.int ((xs.getD (x2).toNatClampNeg 0)&&&15),.int (xs.getD ((x2+1)).toNatClampNeg 0),.int (xs.getD ((x2+2)).toNatClampNeg 0)],q.1.toList++[],(false,[q.2])) else (f1 (2,0,[.ref 0],[],S0)).bind fun q=>f2 (0,61,[.ref 0,.ref 1,.int x2,.int ((xs.getD (x2).toNatClampNeg 0)&&&15),.int (xs.getD ((x2+1)).toNatClampNeg 0),.int (xs.getD ((x2+2)).toNatClampNeg 0)],q.1.toList++[],(false,[q.2])) else none else none else none:=Jb h rfl rfl<|Jc h rfl k_3<|Jt h rfl<|Jd h rfl rfl<|J8 h rfl<|JT h rfl (Jd h rfl rfl<|Jq h 0 rfl rfl rfl) (Jd h rfl rfl<|Jb h rfl rfl<|JR h rfl fun _=>Jc h rfl k_15<|Ju h rfl<|Je h rfl [.ref 0,.ref 1,.int x2,.int ((xs.getD (x2).toNatClampNeg 0)&&&15)]<|Jd h rfl rfl<|Jb h rfl rfl<|Jc h rfl k_1<|Jt h rfl<|JR h rfl fun _=>Je h rfl [.ref 0,.ref 1,.int x2,.int ((xs.getD (x2).toNatClampNeg 0)&&&15),.int (xs.getD ((x2+1)).toNatClampNeg 0)]<|Jd h rfl rfl<|Jb h rfl rfl<|Jc h rfl k_2<|Jt h rfl<|JR h rfl fun _=>Je h rfl [.ref 0,.ref 1,.int x2,.int ((xs.getD (x2).toNatClampNeg 0)&&&15),.int (xs.getD ((x2+1)).toNatClampNeg 0),.int (xs.getD ((x2+2)).toNatClampNeg 0)]<|Jb h rfl rfl<|Jc h rfl k_6<|JT h rfl (Jb h rfl rfl<|Jc h rfl k_8<|JT h rfl (Jb h rfl rfl<|Jc h rfl k_10<|JT h rfl (Jb h rfl rfl<|Jc h rfl k_12<|JT h rfl (Jb h rfl rfl<|Jc h rfl k_14<|JT h rfl (Jb h rfl rfl<|Jc h rfl k_7<|Ju h rfl<|Js h rfl (Jd h rfl rfl<|Jq h 0 rfl rfl rfl) (Jd h rfl rfl<|Jq h 0 rfl rfl rfl)) (Jd h rfl rfl<|Jb h rfl rfl<|Jc h rfl k_15<|Ju h rfl<|Jc h rfl k_1<|JG h rfl<|Jq h 0 rfl rfl rfl)) (Jd h rfl rfl<|Jq h 0 rfl rfl rfl)) (Jd h rfl rfl<|Jb h rfl rfl<|Jc h rfl k_15<|Ju h rfl<|Jb h rfl rfl<|Jc h rfl k_1<|Ju h rfl<|Jc h rfl k_1<|Jp h rfl (Jc h rfl k_1<|Jh h rfl<|Jq h 0 rfl rfl rfl) (Jc h rfl k_0<|Jq h 0 rfl rfl rfl))) (Jd h rfl rfl<|Jq h 0 rfl rfl rfl)) (Jd h rfl rfl<|Jq h 0 rfl rfl rfl))
theorem e2_0_61{f1 f2 xs}(h:Fy xs f1 f2)(x2 x3 x4 x5 y0:Int32)(S0):f2 (0,61,[.ref 0,.ref 1,.int x2,.int x3,.int x4,.int x5],[.int y0],(false,[S0]))=if (y0%12)=1 then (f2 (1,0,[.int (y0%12),.int x4],[],(false,[S0]))).bind fun q=>f2 (0,144,[.ref 0,.ref 1,.int x2,.int x3,.int x4,.int x5,.int y0,.int (y0%12),.int ((y0/12)&&&7),.int ((y0/12)&&&7)],q.1.toList++[],q.2) else if (y0%12)=5 then (f2 (1,0,[.int (y0%12),.int x4],[],(false,[S0]))).bind fun q=>f2 (0,144,[.ref 0,.ref 1,.int x2,.int x3,.int x4,.int x5,.int y0,.int (y0%12),.int ((y0/12)&&&7),.int ((y0/12)&&&7)],q.1.toList++[],q.2) else if (y0%12)=7 then (f2 (1,0,[.int (y0%12),.int x4],[],(false,[S0]))).bind fun q=>f2 (0,144,[.ref 0,.ref 1,.int x2,.int x3,.int x4,.int x5,.int y0,.int (y0%12),.int ((y0/12)&&&7),.int ((y0/12)&&&7)],q.1.toList++[],q.2) else if (y0%12)=3 then (f2 (1,0,[.int (y0%12),.int x4],[],(false,[S0]))).bind fun q=>f2 (0,144,[.ref 0,.ref 1,.int x2,.int x3,.int x4,.int x5,.int y0,.int (y0%12),.int ((y0/12)&&&7),.int (x5&&&15)],q.1.toList++[],q.2) else if (y0%12)=9 then (f2 (1,0,[.int (y0%12),.int x4],[],(false,[S0]))).bind fun q=>f2 (0,144,[.ref 0,.ref 1,.int x2,.int x3,.int x4,.int x5,.int y0,.int (y0%12),.int ((y0/12)&&&7),.int (1+(x5&&&3))],q.1.toList++[],q.2) else (f2 (1,0,[.int (y0%12),.int x4],[],(false,[S0]))).bind fun q=>f2 (0,144,[.ref 0,.ref 1,.int x2,.int x3,.int x4,.int x5,.int y0,.int (y0%12),.int ((y0/12)&&&7),.int 0],q.1.toList++[],q.2):=Je h rfl [.ref 0,.ref 1,.int x2,.int x3,.int x4,.int x5,.int y0]<|Jb h rfl rfl<|Jc h rfl k_12<|JW h rfl (by decide)<|Je h rfl [.ref 0,.ref 1,.int x2,.int x3,.int x4,.int x5,.int y0,.int (y0%12)]<|Jb h rfl rfl<|Jc h rfl k_12<|Jac h rfl (by decide)<|Jc h rfl k_7<|Ju h rfl<|Je h rfl [.ref 0,.ref 1,.int x2,.int x3,.int x4,.int x5,.int y0,.int (y0%12),.int ((y0/12)&&&7)]<|Jb h rfl rfl<|Jc h rfl k_1<|JA h rfl (Jb h rfl rfl<|Jh h rfl<|Je h rfl [.ref 0,.ref 1,.int x2,.int x3,.int x4,.int x5,.int y0,.int (y0%12),.int ((y0/12)&&&7),.int ((y0/12)&&&7)]<|Jb h rfl rfl<|Jb h rfl rfl<|JE h rfl rfl) (Jb h rfl rfl<|Jc h rfl k_5<|JA h rfl (Jb h rfl rfl<|Jh h rfl<|Je h rfl [.ref 0,.ref 1,.int x2,.int x3,.int x4,.int x5,.int y0,.int (y0%12),.int ((y0/12)&&&7),.int ((y0/12)&&&7)]<|Jb h rfl rfl<|Jb h rfl rfl<|JE h rfl rfl) (Jb h rfl rfl<|Jc h rfl k_7<|Jp h rfl (Jb h rfl rfl<|Jh h rfl<|Je h rfl [.ref 0,.ref 1,.int x2,.int x3,.int x4,.int x5,.int y0,.int (y0%12),.int ((y0/12)&&&7),.int ((y0/12)&&&7)]<|Jb h rfl rfl<|Jb h rfl rfl<|JE h rfl rfl) (Jb h rfl rfl<|Jc h rfl k_3<|Jp h rfl (Jb h rfl rfl<|Jc h rfl k_15<|Ju h rfl<|Jh h rfl<|Je h rfl [.ref 0,.ref 1,.int x2,.int x3,.int x4,.int x5,.int y0,.int (y0%12),.int ((y0/12)&&&7),.int (x5&&&15)]<|Jb h rfl rfl<|Jb h rfl rfl<|JE h rfl rfl) (Jb h rfl rfl<|Jc h rfl k_9<|Jp h rfl (Jc h rfl k_1<|Jb h rfl rfl<|Jc h rfl k_3<|Ju h rfl<|Jt h rfl<|Jh h rfl<|Je h rfl [.ref 0,.ref 1,.int x2,.int x3,.int x4,.int x5,.int y0,.int (y0%12),.int ((y0/12)&&&7),.int (1+(x5&&&3))]<|Jb h rfl rfl<|Jb h rfl rfl<|JE h rfl rfl) (Jc h rfl k_0<|Je h rfl [.ref 0,.ref 1,.int x2,.int x3,.int x4,.int x5,.int y0,.int (y0%12),.int ((y0/12)&&&7),.int 0]<|Jb h rfl rfl<|Jb h rfl rfl<|JE h rfl rfl)))))
theorem e2_0_144{f1 f2 xs}(h:Fy xs f1 f2)(x2 x3 x4 x5 x6 x7 x8 x9 y0:Int32)(S0):f2 (0,144,[.ref 0,.ref 1,.int x2,.int x3,.int x4,.int x5,.int x6,.int x7,.int x8,.int x9],[.int y0],(false,[S0]))=(f1 (1,0,[.ref 0,.int y0,.int x9],[],S0)).bind fun q=>f2 (0,154,[.ref 0,.ref 1,.int x2,.int x3,.int x4,.int x5,.int x6,.int x7,.int x8,.int x9,.int y0],q.1.toList++[],(false,[q.2])):=Je h rfl [.ref 0,.ref 1,.int x2,.int x3,.int x4,.int x5,.int x6,.int x7,.int x8,.int x9,.int y0]<|Jd h rfl rfl<|Jb h rfl rfl<|Jb h rfl rfl<|Jq h 0 rfl rfl rfl
theorem e2_0_154{f1 f2 xs}(h:Fy xs f1 f2)(x2 x3 x4 x5 x6 x7 x8 x9 x10 y0:Int32)(S0):f2 (0,154,[.ref 0,.ref 1,.int x2,.int x3,.int x4,.int x5,.int x6,.int x7,.int x8,.int x9,.int x10],[.int y0],(false,[S0]))=f2 (0,22,[.ref 0,.ref 1,.int (x2+3)],[],(false,[S0])):=JM h rfl<|Jh h rfl<|Jr h rfl<|Jn h rfl k_3 rfl [.ref 0,.ref 1,.int (x2+3),.int x3,.int x4,.int x5]<|Jh h rfl<|Jr h rfl rfl
theorem e2_0_168{f1 f2 xs}(h:Fy xs f1 f2)(x2 x3 x4 x5 y0:Int32)(S0):f2 (0,168,[.ref 0,.ref 1,.int x2,.int x3,.int x4,.int x5],[.int y0],(false,[S0]))=f2 (0,22,[.ref 0,.ref 1,.int (x2+3)],[],(false,[S0])):=JM h rfl<|Jh h rfl<|Jn h rfl k_3 rfl [.ref 0,.ref 1,.int (x2+3),.int x3,.int x4,.int x5]<|Jh h rfl<|Jr h rfl rfl
theorem e2_0_200{f1 f2 xs}(h:Fy xs f1 f2)(x2 x3 x4 x5 y0:Int32)(S0):f2 (0,200,[.ref 0,.ref 1,.int x2,.int x3,.int x4,.int x5],[.int y0],(false,[S0]))=f2 (0,22,[.ref 0,.ref 1,.int (x2+3)],[],(false,[S0])):=JM h rfl<|Jh h rfl<|Jn h rfl k_3 rfl [.ref 0,.ref 1,.int (x2+3),.int x3,.int x4,.int x5]<|Jh h rfl<|Jr h rfl rfl
theorem e2_0_214{f1 f2 xs}(h:Fy xs f1 f2)(x2 x3 x4 x5 y0:Int32)(S0):f2 (0,214,[.ref 0,.ref 1,.int x2,.int x3,.int x4,.int x5],[.int y0],(false,[S0]))=f2 (0,22,[.ref 0,.ref 1,.int (x2+3)],[],(false,[S0])):=JM h rfl<|Jh h rfl<|Jn h rfl k_3 rfl [.ref 0,.ref 1,.int (x2+3),.int x3,.int x4,.int x5]<|Jh h rfl<|Jr h rfl rfl
theorem e2_0_235{f1 f2 xs}(h:Fy xs f1 f2)(x2 x3 x4 x5 y0:Int32)(S0):f2 (0,235,[.ref 0,.ref 1,.int x2,.int x3,.int x4,.int x5],[.int y0],(false,[S0]))=f2 (0,22,[.ref 0,.ref 1,.int (x2+3)],[],(false,[S0])):=JM h rfl<|Jh h rfl<|Jn h rfl k_3 rfl [.ref 0,.ref 1,.int (x2+3),.int x3,.int x4,.int x5]<|Jh h rfl<|Jr h rfl rfl
theorem e2_0_251{f1 f2 xs}(h:Fy xs f1 f2)(x2 x3 x4 x5:Int32)(S0):f2 (0,251,[.ref 0,.ref 1,.int x2,.int x3,.int x4,.int x5],[],(false,[S0]))=f2 (0,22,[.ref 0,.ref 1,.int (x2+3)],[],(false,[S0])):=Jh h rfl<|Jn h rfl k_3 rfl [.ref 0,.ref 1,.int (x2+3),.int x3,.int x4,.int x5]<|Jh h rfl<|Jr h rfl rfl
theorem e2_0_258{f1 f2 xs}(h:Fy xs f1 f2)(x2 x3 x4 x5 y0:Int32)(S0):f2 (0,258,[.ref 0,.ref 1,.int x2,.int x3,.int x4,.int x5],[.int y0],(false,[S0]))=f2 (0,22,[.ref 0,.ref 1,.int (x2+3)],[],(false,[S0])):=JM h rfl<|Jn h rfl k_3 rfl [.ref 0,.ref 1,.int (x2+3),.int x3,.int x4,.int x5]<|Jh h rfl<|Jr h rfl rfl
theorem e2_0_269{f1 f2 xs}(h:Fy xs f1 f2)(x2 y0:Int32)(S0):f2 (0,269,[.ref 0,.ref 1,.int x2],[.int y0],(false,[S0]))=if y0=(-1) then some (some (.int 1),(false,[S0])) else (f1 (12,0,[.ref 0],[],S0)).bind fun q=>f2 (0,279,[.ref 0,.ref 1,.int x2],q.1.toList++[],(false,[q.2])):=Jc h rfl k_m1<|Jp h rfl (Jc h rfl k_1<|JC h rfl) (Jd h rfl rfl<|Jq h 0 rfl rfl rfl)
theorem e2_0_279{f1 f2 xs}(h:Fy xs f1 f2)(x2 y0:Int32)(S0):f2 (0,279,[.ref 0,.ref 1,.int x2],[.int y0],(false,[S0]))=if 2000<y0 then some (some (.int 1),(false,[S0])) else (f1 (11,0,[.ref 0],[],S0)).bind fun q=>f2 (0,293,[.ref 0,.ref 1,.int y0],q.1.toList++[],(false,[q.2])):=Je h rfl [.ref 0,.ref 1,.int y0]<|Jb h rfl rfl<|Jc h rfl k_2000<|JO h rfl (Jc h rfl k_1<|JC h rfl) (Jd h rfl rfl<|Jq h 0 rfl rfl rfl)
theorem e2_0_293{f1 f2 xs}(h:Fy xs f1 f2)(x2 y0:Int32)(S0):f2 (0,293,[.ref 0,.ref 1,.int x2],[.int y0],(false,[S0]))=(f1 (15,0,[.ref 0],[],S0)).bind fun q=>f2 (0,298,[.ref 0,.ref 1,.int x2,.int y0],q.1.toList++[],(false,[q.2])):=Je h rfl [.ref 0,.ref 1,.int x2,.int y0]<|Jd h rfl rfl<|Jq h 0 rfl rfl rfl
theorem e2_0_298{f1 f2 xs}(h:Fy xs f1 f2)(x2 x3 y0:Int32)(S0):f2 (0,298,[.ref 0,.ref 1,.int x2,.int x3],[.int y0],(false,[S0]))=(f1 (16,0,[.ref 0],[],S0)).bind fun q=>f2 (0,304,[.ref 0,.ref 1,.int x2,.int x3,.int y0],q.1.toList++[],(false,[q.2])):=Je h rfl [.ref 0,.ref 1,.int x2,.int x3,.int y0]<|Jd h rfl rfl<|Jq h 0 rfl rfl rfl
theorem e2_0_304{f1 f2 xs}(h:Fy xs f1 f2)(x2 x3 x4 y0:Int32)(S0):f2 (0,304,[.ref 0,.ref 1,.int x2,.int x3,.int x4],[.int y0],(false,[S0]))=(f2 (2,0,[.ref 1],[],(false,[S0]))).bind fun q=>f2 (0,310,[.ref 0,.ref 1,.int x2,.int x3,.int x4,.int y0],q.1.toList++[],q.2):=Je h rfl [.ref 0,.ref 1,.int x2,.int x3,.int x4,.int y0]<|Jd h rfl rfl<|JE h rfl rfl
theorem e2_0_310{f1 f2 xs}(h:Fy xs f1 f2)(x2 x3 x4 x5 y0:Int32)(S0):f2 (0,310,[.ref 0,.ref 1,.int x2,.int x3,.int x4,.int x5],[.int y0],(false,[S0]))=(f1 (14,0,[.ref 0,.int 0],[],S0)).bind fun q=>f2 (0,317,[.ref 0,.ref 1,.int x2,.int x3,.int x4,.int x5,.int y0],q.1.toList++[],(false,[q.2])):=Je h rfl [.ref 0,.ref 1,.int x2,.int x3,.int x4,.int x5,.int y0]<|Jd h rfl rfl<|Jc h rfl k_0<|Jq h 0 rfl rfl rfl
theorem e2_0_317{f1 f2 xs}(h:Fy xs f1 f2)(x2 x3 x4 x5 x6 y0:Int32)(S0):f2 (0,317,[.ref 0,.ref 1,.int x2,.int x3,.int x4,.int x5,.int x6],[.int y0],(false,[S0]))=(f1 (14,0,[.ref 0,.int 1],[],S0)).bind fun q=>f2 (0,324,[.ref 0,.ref 1,.int x2,.int x3,.int x4,.int x5,.int x6,.int y0],q.1.toList++[],(false,[q.2])):=Je h rfl [.ref 0,.ref 1,.int x2,.int x3,.int x4,.int x5,.int x6,.int y0]<|Jd h rfl rfl<|Jc h rfl k_1<|Jq h 0 rfl rfl rfl
theorem e2_0_324{f1 f2 xs}(h:Fy xs f1 f2)(x2 x3 x4 x5 x6 x7 y0:Int32)(S0):f2 (0,324,[.ref 0,.ref 1,.int x2,.int x3,.int x4,.int x5,.int x6,.int x7],[.int y0],(false,[S0]))=(f1 (14,0,[.ref 0,.int 2],[],S0)).bind fun q=>f2 (0,331,[.ref 0,.ref 1,.int x2,.int x3,.int x4,.int x5,.int x6,.int x7,.int y0],q.1.toList++[],(false,[q.2])):=Je h rfl [.ref 0,.ref 1,.int x2,.int x3,.int x4,.int x5,.int x6,.int x7,.int y0]<|Jd h rfl rfl<|Jc h rfl k_2<|Jq h 0 rfl rfl rfl
theorem e2_0_331{f1 f2 xs}(h:Fy xs f1 f2)(x2 x3 x4 x5 x6 x7 x8 y0:Int32)(S0):f2 (0,331,[.ref 0,.ref 1,.int x2,.int x3,.int x4,.int x5,.int x6,.int x7,.int x8],[.int y0],(false,[S0]))=(f1 (14,0,[.ref 0,.int 3],[],S0)).bind fun q=>f2 (0,338,[.ref 0,.ref 1,.int x2,.int x3,.int x4,.int x5,.int x6,.int x7,.int x8,.int y0],q.1.toList++[],(false,[q.2])):=Je h rfl [.ref 0,.ref 1,.int x2,.int x3,.int x4,.int x5,.int x6,.int x7,.int x8,.int y0]<|Jd h rfl rfl<|Jc h rfl k_3<|Jq h 0 rfl rfl rfl
theorem e2_0_338{f1 f2 xs}(h:Fy xs f1 f2)(x2 x3 x4 x5 x6 x7 x8 x9 y0:Int32)(S0):f2 (0,338,[.ref 0,.ref 1,.int x2,.int x3,.int x4,.int x5,.int x6,.int x7,.int x8,.int x9],[.int y0],(false,[S0]))=(f1 (14,0,[.ref 0,.int 4],[],S0)).bind fun q=>f2 (0,345,[.ref 0,.ref 1,.int x2,.int x3,.int x4,.int x5,.int x6,.int x7,.int x8,.int x9,.int y0],q.1.toList++[],(false,[q.2])):=Je h rfl [.ref 0,.ref 1,.int x2,.int x3,.int x4,.int x5,.int x6,.int x7,.int x8,.int x9,.int y0]<|Jd h rfl rfl<|Jc h rfl k_4<|Jq h 0 rfl rfl rfl
theorem e2_0_345{f1 f2 xs}(h:Fy xs f1 f2)(x2 x3 x4 x5 x6 x7 x8 x9 x10 y0:Int32)(S0):f2 (0,345,[.ref 0,.ref 1,.int x2,.int x3,.int x4,.int x5,.int x6,.int x7,.int x8,.int x9,.int x10],[.int y0],(false,[S0]))=(f1 (14,0,[.ref 0,.int 5],[],S0)).bind fun q=>f2 (0,352,[.ref 0,.ref 1,.int x2,.int x3,.int x4,.int x5,.int x6,.int x7,.int x8,.int x9,.int x10,.int y0],q.1.toList++[],(false,[q.2])):=Je h rfl [.ref 0,.ref 1,.int x2,.int x3,.int x4,.int x5,.int x6,.int x7,.int x8,.int x9,.int x10,.int y0]<|Jd h rfl rfl<|Jc h rfl k_5<|Jq h 0 rfl rfl rfl
theorem e2_0_352{f1 f2 xs}(h:Fy xs f1 f2)(x2 x3 x4 x5 x6 x7 x8 x9 x10 x11 y0:Int32)(S0):f2 (0,352,[.ref 0,.ref 1,.int x2,.int x3,.int x4,.int x5,.int x6,.int x7,.int x8,.int x9,.int x10,.int x11],[.int y0],(false,[S0]))=(f1 (14,0,[.ref 0,.int 6],[],S0)).bind fun q=>f2 (0,360,[.ref 0,.ref 1,.int x2,.int x3,.int x4,.int x5,.int x6,.int x7,.int x8,.int x9,.int x10,.int x11,.int y0],q.1.toList++[],(false,[q.2])):=Je h rfl [.ref 0,.ref 1,.int x2,.int x3,.int x4,.int x5,.int x6,.int x7,.int x8,.int x9,.int x10,.int x11,.int y0]<|Jd h rfl rfl<|Jc h rfl k_6<|Jq h 0 rfl rfl rfl
theorem e2_0_360{f1 f2 xs}(h:Fy xs f1 f2)(x2 x3 x4 x5 x6 x7 x8 x9 x10 x11 x12 y0:Int32)(S0):f2 (0,360,[.ref 0,.ref 1,.int x2,.int x3,.int x4,.int x5,.int x6,.int x7,.int x8,.int x9,.int x10,.int x11,.int x12],[.int y0],(false,[S0]))=(f1 (14,0,[.ref 0,.int 7],[],S0)).bind fun q=>f2 (0,368,[.ref 0,.ref 1,.int x2,.int x3,.int x4,.int x5,.int x6,.int x7,.int x8,.int x9,.int x10,.int x11,.int x12,.int y0],q.1.toList++[],(false,[q.2])):=Je h rfl [.ref 0,.ref 1,.int x2,.int x3,.int x4,.int x5,.int x6,.int x7,.int x8,.int x9,.int x10,.int x11,.int x12,.int y0]<|Jd h rfl rfl<|Jc h rfl k_7<|Jq h 0 rfl rfl rfl
theorem e2_0_368{f1 f2 xs}(h:Fy xs f1 f2)(x2 x3 x4 x5 x6 x7 x8 x9 x10 x11 x12 x13 y0:Int32)(S0):f2 (0,368,[.ref 0,.ref 1,.int x2,.int x3,.int x4,.int x5,.int x6,.int x7,.int x8,.int x9,.int x10,.int x11,.int x12,.int x13],[.int y0],(false,[S0]))=(f1 (10,0,[.ref 0],[],S0)).bind fun q=>f2 (0,374,[.ref 0,.ref 1,.int x2,.int x3,.int x4,.int x5,.int x6,.int x7,.int x8,.int x9,.int x10,.int x11,.int x12,.int x13,.int y0],q.1.toList++[],(false,[q.2])):=Je h rfl [.ref 0,.ref 1,.int x2,.int x3,.int x4,.int x5,.int x6,.int x7,.int x8,.int x9,.int x10,.int x11,.int x12,.int x13,.int y0]<|Jd h rfl rfl<|Jq h 0 rfl rfl rfl
theorem e2_0_374{f1 f2 xs}(h:Fy xs f1 f2)(x2 x3 x4 x5 x6 x7 x8 x9 x10 x11 x12 x13 x14 y0:Int32)(S0):f2 (0,374,[.ref 0,.ref 1,.int x2,.int x3,.int x4,.int x5,.int x6,.int x7,.int x8,.int x9,.int x10,.int x11,.int x12,.int x13,.int x14],[.int y0],(false,[S0]))=if y0=0 then some (some (.int 0),(false,[S0])) else f2 (0,382,[.ref 0,.ref 1,.int x2,.int x3,.int x4,.int x5,.int x6,.int x7,.int x8,.int x9,.int x10,.int x11,.int x12,.int x13,.int x14,.int 0],[],(false,[S0])):=Js h rfl (Jc h rfl k_0<|Jl h rfl) (Jc h rfl k_0<|Je h rfl [.ref 0,.ref 1,.int x2,.int x3,.int x4,.int x5,.int x6,.int x7,.int x8,.int x9,.int x10,.int x11,.int x12,.int x13,.int x14,.int 0] rfl)
theorem e2_0_382{f1 f2 xs}(h:Fy xs f1 f2)(x2 x3 x4 x5 x6 x7 x8 x9 x10 x11 x12 x13 x14 x15:Int32)(S0):f2 (0,382,[.ref 0,.ref 1,.int x2,.int x3,.int x4,.int x5,.int x6,.int x7,.int x8,.int x9,.int x10,.int x11,.int x12,.int x13,.int x14,.int x15],[],(false,[S0]))=if x15<2000 then if x15<x2 then (f1 (8,0,[.ref 0],[],S0)).bind fun q=>f2 (0,400,[.ref 0,.ref 1,.int x2,.int x3,.int x4,.int x5,.int x6,.int x7,.int x8,.int x9,.int x10,.int x11,.int x12,.int x13,.int x14,.int x15],q.1.toList++[],(false,[q.2])) else (f1 (11,0,[.ref 0],[],S0)).bind fun q=>f2 (0,411,[.ref 0,.ref 1,.int x2,.int x3,.int x4,.int x5,.int x6,.int x7,.int x8,.int x9,.int x10,.int x11,.int x12,.int x13,.int x14,.int x15],q.1.toList++[],(false,[q.2])) else (f1 (11,0,[.ref 0],[],S0)).bind fun q=>f2 (0,411,[.ref 0,.ref 1,.int x2,.int x3,.int x4,.int x5,.int x6,.int x7,.int x8,.int x9,.int x10,.int x11,.int x12,.int x13,.int x14,.int x15],q.1.toList++[],(false,[q.2])):=Jb h rfl rfl<|Jc h rfl k_2000<|Jm h rfl (Jb h rfl rfl<|Jb h rfl rfl<|Jm h rfl (Jd h rfl rfl<|Jq h 0 rfl rfl rfl) (Jd h rfl rfl<|Jq h 0 rfl rfl rfl)) (Jd h rfl rfl<|Jq h 0 rfl rfl rfl)
theorem e2_0_400{f1 f2 xs}(h:Fy xs f1 f2)(x2 x3 x4 x5 x6 x7 x8 x9 x10 x11 x12 x13 x14 x15 y0:Int32)(S0):f2 (0,400,[.ref 0,.ref 1,.int x2,.int x3,.int x4,.int x5,.int x6,.int x7,.int x8,.int x9,.int x10,.int x11,.int x12,.int x13,.int x14,.int x15],[.int y0],(false,[S0]))=f2 (0,382,[.ref 0,.ref 1,.int x2,.int x3,.int x4,.int x5,.int x6,.int x7,.int x8,.int x9,.int x10,.int x11,.int x12,.int x13,.int x14,.int (x15+1)],[],(false,[S0])):=JM h rfl<|Jn h rfl k_1 rfl [.ref 0,.ref 1,.int x2,.int x3,.int x4,.int x5,.int x6,.int x7,.int x8,.int x9,.int x10,.int x11,.int x12,.int x13,.int x14,.int (x15+1)]<|Jh h rfl rfl
theorem e2_0_411{f1 f2 xs}(h:Fy xs f1 f2)(x2 x3 x4 x5 x6 x7 x8 x9 x10 x11 x12 x13 x14 x15 y0:Int32)(S0):f2 (0,411,[.ref 0,.ref 1,.int x2,.int x3,.int x4,.int x5,.int x6,.int x7,.int x8,.int x9,.int x10,.int x11,.int x12,.int x13,.int x14,.int x15],[.int y0],(false,[S0]))=if y0=x3 then (f1 (12,0,[.ref 0],[],S0)).bind fun q=>f2 (0,419,[.ref 0,.ref 1,.int x2,.int x3,.int x4,.int x5,.int x6,.int x7,.int x8,.int x9,.int x10,.int x11,.int x12,.int x13,.int x14,.int x15],q.1.toList++[],(false,[q.2])) else some (some (.int 0),(false,[S0])):=Jb h rfl rfl<|Jp h rfl (Jd h rfl rfl<|Jq h 0 rfl rfl rfl) (Jc h rfl k_0<|Jl h rfl)
theorem e2_0_419{f1 f2 xs}(h:Fy xs f1 f2)(x2 x3 x4 x5 x6 x7 x8 x9 x10 x11 x12 x13 x14 x15 y0:Int32)(S0):f2 (0,419,[.ref 0,.ref 1,.int x2,.int x3,.int x4,.int x5,.int x6,.int x7,.int x8,.int x9,.int x10,.int x11,.int x12,.int x13,.int x14,.int x15],[.int y0],(false,[S0]))=if y0=x2 then (f1 (15,0,[.ref 0],[],S0)).bind fun q=>f2 (0,429,[.ref 0,.ref 1,.int x2,.int x3,.int x4,.int x5,.int x6,.int x7,.int x8,.int x9,.int x10,.int x11,.int x12,.int x13,.int x14,.int x15],q.1.toList++[],(false,[q.2])) else some (some (.int 0),(false,[S0])):=Jb h rfl rfl<|JA h rfl (Jd h rfl rfl<|Jq h 0 rfl rfl rfl) (Jc h rfl k_0<|Jl h rfl)
theorem e2_0_429{f1 f2 xs}(h:Fy xs f1 f2)(x2 x3 x4 x5 x6 x7 x8 x9 x10 x11 x12 x13 x14 x15 y0:Int32)(S0):f2 (0,429,[.ref 0,.ref 1,.int x2,.int x3,.int x4,.int x5,.int x6,.int x7,.int x8,.int x9,.int x10,.int x11,.int x12,.int x13,.int x14,.int x15],[.int y0],(false,[S0]))=if y0=x4 then (f1 (16,0,[.ref 0],[],S0)).bind fun q=>f2 (0,438,[.ref 0,.ref 1,.int x2,.int x3,.int x4,.int x5,.int x6,.int x7,.int x8,.int x9,.int x10,.int x11,.int x12,.int x13,.int x14,.int x15],q.1.toList++[],(false,[q.2])) else some (some (.int 0),(false,[S0])):=Jb h rfl rfl<|Jp h rfl (Jd h rfl rfl<|Jq h 0 rfl rfl rfl) (Jc h rfl k_0<|Jl h rfl)
theorem e2_0_438{f1 f2 xs}(h:Fy xs f1 f2)(x2 x3 x4 x5 x6 x7 x8 x9 x10 x11 x12 x13 x14 x15 y0:Int32)(S0):f2 (0,438,[.ref 0,.ref 1,.int x2,.int x3,.int x4,.int x5,.int x6,.int x7,.int x8,.int x9,.int x10,.int x11,.int x12,.int x13,.int x14,.int x15],[.int y0],(false,[S0]))=if y0=x5 then (f2 (2,0,[.ref 1],[],(false,[S0]))).bind fun q=>f2 (0,449,[.ref 0,.ref 1,.int x2,.int x3,.int x4,.int x5,.int x6,.int x7,.int x8,.int x9,.int x10,.int x11,.int x12,.int x13,.int x14,.int x15],q.1.toList++[],q.2) else some (some (.int 0),(false,[S0])):=Jb h rfl rfl<|JA h rfl (Jd h rfl rfl<|JE h rfl rfl) (Jc h rfl k_0<|Jl h rfl)
theorem e2_0_449{f1 f2 xs}(h:Fy xs f1 f2)(x2 x3 x4 x5 x6 x7 x8 x9 x10 x11 x12 x13 x14 x15 y0:Int32)(S0):f2 (0,449,[.ref 0,.ref 1,.int x2,.int x3,.int x4,.int x5,.int x6,.int x7,.int x8,.int x9,.int x10,.int x11,.int x12,.int x13,.int x14,.int x15],[.int y0],(false,[S0]))=if y0=x6 then (f1 (14,0,[.ref 0,.int 0],[],S0)).bind fun q=>f2 (0,461,[.ref 0,.ref 1,.int x2,.int x3,.int x4,.int x5,.int x6,.int x7,.int x8,.int x9,.int x10,.int x11,.int x12,.int x13,.int x14,.int x15],q.1.toList++[],(false,[q.2])) else some (some (.int 0),(false,[S0])):=Jb h rfl rfl<|JA h rfl (Jd h rfl rfl<|Jc h rfl k_0<|Jq h 0 rfl rfl rfl) (Jc h rfl k_0<|Jl h rfl)
theorem e2_0_461{f1 f2 xs}(h:Fy xs f1 f2)(x2 x3 x4 x5 x6 x7 x8 x9 x10 x11 x12 x13 x14 x15 y0:Int32)(S0):f2 (0,461,[.ref 0,.ref 1,.int x2,.int x3,.int x4,.int x5,.int x6,.int x7,.int x8,.int x9,.int x10,.int x11,.int x12,.int x13,.int x14,.int x15],[.int y0],(false,[S0]))=if y0=x7 then (f1 (14,0,[.ref 0,.int 1],[],S0)).bind fun q=>f2 (0,471,[.ref 0,.ref 1,.int x2,.int x3,.int x4,.int x5,.int x6,.int x7,.int x8,.int x9,.int x10,.int x11,.int x12,.int x13,.int x14,.int x15],q.1.toList++[],(false,[q.2])) else some (some (.int 0),(false,[S0])):=Jb h rfl rfl<|Jp h rfl (Jd h rfl rfl<|Jc h rfl k_1<|Jq h 0 rfl rfl rfl) (Jc h rfl k_0<|Jl h rfl)
theorem e2_0_471{f1 f2 xs}(h:Fy xs f1 f2)(x2 x3 x4 x5 x6 x7 x8 x9 x10 x11 x12 x13 x14 x15 y0:Int32)(S0):f2 (0,471,[.ref 0,.ref 1,.int x2,.int x3,.int x4,.int x5,.int x6,.int x7,.int x8,.int x9,.int x10,.int x11,.int x12,.int x13,.int x14,.int x15],[.int y0],(false,[S0]))=if y0=x8 then (f1 (14,0,[.ref 0,.int 2],[],S0)).bind fun q=>f2 (0,481,[.ref 0,.ref 1,.int x2,.int x3,.int x4,.int x5,.int x6,.int x7,.int x8,.int x9,.int x10,.int x11,.int x12,.int x13,.int x14,.int x15],q.1.toList++[],(false,[q.2])) else some (some (.int 0),(false,[S0])):=Jb h rfl rfl<|Jp h rfl (Jd h rfl rfl<|Jc h rfl k_2<|Jq h 0 rfl rfl rfl) (Jc h rfl k_0<|Jl h rfl)
theorem e2_0_481{f1 f2 xs}(h:Fy xs f1 f2)(x2 x3 x4 x5 x6 x7 x8 x9 x10 x11 x12 x13 x14 x15 y0:Int32)(S0):f2 (0,481,[.ref 0,.ref 1,.int x2,.int x3,.int x4,.int x5,.int x6,.int x7,.int x8,.int x9,.int x10,.int x11,.int x12,.int x13,.int x14,.int x15],[.int y0],(false,[S0]))=if y0=x9 then (f1 (14,0,[.ref 0,.int 3],[],S0)).bind fun q=>f2 (0,491,[.ref 0,.ref 1,.int x2,.int x3,.int x4,.int x5,.int x6,.int x7,.int x8,.int x9,.int x10,.int x11,.int x12,.int x13,.int x14,.int x15],q.1.toList++[],(false,[q.2])) else some (some (.int 0),(false,[S0])):=Jb h rfl rfl<|Jp h rfl (Jd h rfl rfl<|Jc h rfl k_3<|Jq h 0 rfl rfl rfl) (Jc h rfl k_0<|Jl h rfl)
theorem e2_0_491{f1 f2 xs}(h:Fy xs f1 f2)(x2 x3 x4 x5 x6 x7 x8 x9 x10 x11 x12 x13 x14 x15 y0:Int32)(S0):f2 (0,491,[.ref 0,.ref 1,.int x2,.int x3,.int x4,.int x5,.int x6,.int x7,.int x8,.int x9,.int x10,.int x11,.int x12,.int x13,.int x14,.int x15],[.int y0],(false,[S0]))=if y0=x10 then (f1 (14,0,[.ref 0,.int 4],[],S0)).bind fun q=>f2 (0,503,[.ref 0,.ref 1,.int x2,.int x3,.int x4,.int x5,.int x6,.int x7,.int x8,.int x9,.int x10,.int x11,.int x12,.int x13,.int x14,.int x15],q.1.toList++[],(false,[q.2])) else some (some (.int 0),(false,[S0])):=Jb h rfl rfl<|JA h rfl (Jd h rfl rfl<|Jc h rfl k_4<|Jq h 0 rfl rfl rfl) (Jc h rfl k_0<|Jl h rfl)
theorem e2_0_503{f1 f2 xs}(h:Fy xs f1 f2)(x2 x3 x4 x5 x6 x7 x8 x9 x10 x11 x12 x13 x14 x15 y0:Int32)(S0):f2 (0,503,[.ref 0,.ref 1,.int x2,.int x3,.int x4,.int x5,.int x6,.int x7,.int x8,.int x9,.int x10,.int x11,.int x12,.int x13,.int x14,.int x15],[.int y0],(false,[S0]))=if y0=x11 then (f1 (14,0,[.ref 0,.int 5],[],S0)).bind fun q=>f2 (0,513,[.ref 0,.ref 1,.int x2,.int x3,.int x4,.int x5,.int x6,.int x7,.int x8,.int x9,.int x10,.int x11,.int x12,.int x13,.int x14,.int x15],q.1.toList++[],(false,[q.2])) else some (some (.int 0),(false,[S0])):=Jb h rfl rfl<|Jp h rfl (Jd h rfl rfl<|Jc h rfl k_5<|Jq h 0 rfl rfl rfl) (Jc h rfl k_0<|Jl h rfl)
theorem e2_0_513{f1 f2 xs}(h:Fy xs f1 f2)(x2 x3 x4 x5 x6 x7 x8 x9 x10 x11 x12 x13 x14 x15 y0:Int32)(S0):f2 (0,513,[.ref 0,.ref 1,.int x2,.int x3,.int x4,.int x5,.int x6,.int x7,.int x8,.int x9,.int x10,.int x11,.int x12,.int x13,.int x14,.int x15],[.int y0],(false,[S0]))=if y0=x12 then (f1 (14,0,[.ref 0,.int 6],[],S0)).bind fun q=>f2 (0,524,[.ref 0,.ref 1,.int x2,.int x3,.int x4,.int x5,.int x6,.int x7,.int x8,.int x9,.int x10,.int x11,.int x12,.int x13,.int x14,.int x15],q.1.toList++[],(false,[q.2])) else some (some (.int 0),(false,[S0])):=Jb h rfl rfl<|Jp h rfl (Jd h rfl rfl<|Jc h rfl k_6<|Jq h 0 rfl rfl rfl) (Jc h rfl k_0<|Jl h rfl)
theorem e2_0_524{f1 f2 xs}(h:Fy xs f1 f2)(x2 x3 x4 x5 x6 x7 x8 x9 x10 x11 x12 x13 x14 x15 y0:Int32)(S0):f2 (0,524,[.ref 0,.ref 1,.int x2,.int x3,.int x4,.int x5,.int x6,.int x7,.int x8,.int x9,.int x10,.int x11,.int x12,.int x13,.int x14,.int x15],[.int y0],(false,[S0]))=if y0=x13 then (f1 (14,0,[.ref 0,.int 7],[],S0)).bind fun q=>f2 (0,535,[.ref 0,.ref 1,.int x2,.int x3,.int x4,.int x5,.int x6,.int x7,.int x8,.int x9,.int x10,.int x11,.int x12,.int x13,.int x14,.int x15],q.1.toList++[],(false,[q.2])) else some (some (.int 0),(false,[S0])):=Jb h rfl rfl<|Jp h rfl (Jd h rfl rfl<|Jc h rfl k_7<|Jq h 0 rfl rfl rfl) (Jc h rfl k_0<|Jl h rfl)
theorem e2_0_535{f1 f2 xs}(h:Fy xs f1 f2)(x2 x3 x4 x5 x6 x7 x8 x9 x10 x11 x12 x13 x14 x15 y0:Int32)(S0):f2 (0,535,[.ref 0,.ref 1,.int x2,.int x3,.int x4,.int x5,.int x6,.int x7,.int x8,.int x9,.int x10,.int x11,.int x12,.int x13,.int x14,.int x15],[.int y0],(false,[S0]))=if y0=x14 then some (some (.int 1),(false,[S0])) else some (some (.int 0),(false,[S0])):=Jb h rfl rfl<|JA h rfl (Jc h rfl k_1<|JC h rfl) (Jc h rfl k_0<|Jl h rfl)
theorem e2_1_0{f1 f2 xs}(h:Fy xs f1 f2)(x0 x1:Int32)(ob:List MS):f2 (1,0,[.int x0,.int x1],[],(false,ob))=if x0=0 then if (x1&&&1)=0 then some (some (.int 16),(false,ob)) else some (some (.int 17),(false,ob)) else if x0=1 then some (some (.int 2),(false,ob)) else if x0=5 then some (some (.int 2),(false,ob)) else if x0=7 then some (some (.int 2),(false,ob)) else if x0=2 then some (some (.int 10),(false,ob)) else if x0=3 then some (some (.int 1),(false,ob)) else if x0=9 then some (some (.int 1),(false,ob)) else if x0=4 then some (some (.int 14),(false,ob)) else if x0=6 then some (some (.int 3),(false,ob)) else if x0=8 then some (some (.int 5),(false,ob)) else if x0=10 then some (some (.int 4),(false,ob)) else some (some (.int 15),(false,ob)):=Jb h rfl rfl<|Js h rfl (Jb h rfl rfl<|Jc h rfl k_1<|Ju h rfl<|Js h rfl (Jc h rfl k_16<|Jh h rfl<|Ji h rfl) (Jc h rfl k_17<|Ji h rfl)) (Jb h rfl rfl<|Jc h rfl k_1<|JA h rfl (Jc h rfl k_2<|Ji h rfl) (Jb h rfl rfl<|Jc h rfl k_5<|JA h rfl (Jc h rfl k_2<|Ji h rfl) (Jb h rfl rfl<|Jc h rfl k_7<|Jp h rfl (Jc h rfl k_2<|Ji h rfl) (Jb h rfl rfl<|Jc h rfl k_2<|Jp h rfl (Jc h rfl k_10<|Ji h rfl) (Jb h rfl rfl<|Jc h rfl k_3<|JA h rfl (Jc h rfl k_1<|Ji h rfl) (Jb h rfl rfl<|Jc h rfl k_9<|Jp h rfl (Jc h rfl k_1<|Ji h rfl) (Jb h rfl rfl<|Jc h rfl k_4<|Jp h rfl (Jc h rfl k_14<|Ji h rfl) (Jb h rfl rfl<|Jc h rfl k_6<|Jp h rfl (Jc h rfl k_3<|Ji h rfl) (Jb h rfl rfl<|Jc h rfl k_8<|Jp h rfl (Jc h rfl k_5<|Ji h rfl) (Jb h rfl rfl<|Jc h rfl k_10<|Jp h rfl (Jc h rfl k_4<|Ji h rfl) (Jc h rfl k_15<|Ji h rfl)))))))))))
theorem e2_2_0{f1 f2 xs}(h:Fy xs f1 f2)(ob:List MS)(o0:Nat):f2 (2,0,[.ref (o0+1)],[],(false,ob))=f2 (2,4,[.ref (o0+1),.int 0,.int 0],[],(false,ob)):=Jc h rfl k_0<|Je h rfl [.ref (o0+1),.int 0]<|Jc h rfl k_0<|Je h rfl [.ref (o0+1),.int 0,.int 0] rfl
theorem e2_2_4{f1 f2 xs}(h:Fy xs f1 f2)(x1 x2:Int32)(ob:List MS)(o0:Nat)(A0:MS)(ho0:ob[o0]? = some A0):f2 (2,4,[.ref (o0+1),.int x1,.int x2],[],(false,ob))=if x2<8 then (f1 (13,0,[.ref 0,.int x2],[],A0)).bind fun q=>f2 (2,15,[.ref (o0+1),.int x1,.int x2],q.1.toList++[],(false,ob.set o0 q.2)) else some (some (.int x1),(false,ob)):=Jb h rfl rfl<|Jc h rfl k_8<|Jm h rfl (Jd h rfl rfl<|Jb h rfl rfl<|Jq h _ rfl rfl ho0) (Jb h rfl rfl<|Ji h rfl)
theorem e2_2_15{f1 f2 xs}(h:Fy xs f1 f2)(x1 x2 y0:Int32)(ob:List MS)(o0:Nat):f2 (2,15,[.ref (o0+1),.int x1,.int x2],[.int y0],(false,ob))=if y0=0 then f2 (2,4,[.ref (o0+1),.int x1,.int (x2+1)],[],(false,ob)) else f2 (2,4,[.ref (o0+1),.int (x1|||(1<<<(x2&&&31))),.int (x2+1)],[],(false,ob)):=Jy h rfl (Jn h rfl k_1 rfl [.ref (o0+1),.int x1,.int (x2+1)]<|Jh h rfl rfl) (Jb h rfl rfl<|Jc h rfl k_1<|Jb h rfl rfl<|JI h rfl<|JY h rfl<|Je h rfl [.ref (o0+1),.int (x1|||(1<<<(x2&&&31))),.int x2]<|Jn h rfl k_1 rfl [.ref (o0+1),.int (x1|||(1<<<(x2&&&31))),.int (x2+1)]<|Jh h rfl rfl)
def own_len(xs:List Int32):Prop:=xs.length≤260
theorem own_toInt_ofNat{a:Nat}(ha:a<2147483648):(Int32.ofNat a).toInt=a:=Int32.toInt_ofNat_of_lt ha
theorem own_lt{a b:Nat}(ha:a<2147483648)(hb:b<2147483648):Int32.ofNat a<Int32.ofNat b↔a<b:=by
 rw[Int32.lt_iff_toInt_lt,own_toInt_ofNat ha,own_toInt_ofNat hb];omega
theorem own_nneg{a:Nat}(ha:a<2147483648):¬Int32.ofNat a<0:=by
 rw[Int32.lt_iff_toInt_lt,own_toInt_ofNat ha]
 have:(0:Int32).toInt=0:=rfl
 omega
theorem own_add1(a:Nat):Int32.ofNat a+1=Int32.ofNat (a+1):=(Int32.ofNat_add a 1).symm
theorem own_nat{a:Nat}(ha:a<2147483648):(Int32.ofNat a).toNatClampNeg=a:=by
 simp only[Int32.toNatClampNeg,own_toInt_ofNat ha];omega
theorem own_inb{a n:Nat}(ha:a<2147483648)(h:a<n):inb (Int32.ofNat a) n=true:=by
 simp only[inb,own_nneg ha,own_nat ha,decide_false,Bool.false_or,Bool.not_eq_true',decide_eq_false_iff_not];omega
theorem own_inb_iff{i:Int32}{n:Nat}:inb i n=true↔0≤i.toInt∧i.toInt<n:=by
 simp only[inb,Bool.not_eq_true',Bool.or_eq_false_iff,decide_eq_false_iff_not,Int32.lt_iff_toInt_lt,Int32.toNatClampNeg]
 have:(0:Int32).toInt=0:=rfl
 omega
theorem own_inb_of{i:Int32}{n:Nat}(h1:¬i<0)(h2:i<Int32.ofNat n)(hn:n<2147483648):inb i n=true:=by
 rw[Int32.lt_iff_toInt_lt] at h1 h2
 rw[own_toInt_ofNat hn] at h2
 have:(0:Int32).toInt=0:=rfl
 exact own_inb_iff.mpr (by omega)
theorem own_up{S:MS}{c i c' i':Nat}{v:Int32}:upd S c i v c' i'=if c'=c∧i'=i then v else S c' i':=rfl
def itN(g:Nat→MS→MS):Nat→MS→MS
 |0,S=>S
 |n+1,S=>g n (itN g n S)
theorem own_for{β:Type}{H:Int32→MS→β}{g:Nat→MS→MS}:∀ {n:Nat},(∀j,j<n→∀S,H (Int32.ofNat j) S=H (Int32.ofNat (j+1)) (g j S))→∀S,H 0 S=H (Int32.ofNat n) (itN g n S)
 |0,_,S=>rfl
 |n+1,h,S=>(own_for (n:=n) (fun j hj=>h j (Nat.lt_succ_of_lt hj)) S).trans (h n (Nat.lt_succ_self n) _)
theorem own_fill(c:Nat)(v:Int32)(n:Nat)(S:MS)(c' i:Nat):itN (fun j S=>upd S c j v) n S c' i=if c'=c∧i<n then v else S c' i:=by
 induction n with
 |zero=>simp[itN]
 |succ n ih=>
  simp only[itN,Jvm.OM.upd,ih]
  by_cases h:c'=c
  ·subst h
   by_cases q:i=n
   ·subst q;simp
   ·simp only[true_and,q,if_false]
    by_cases q':i<n
    ·rw[if_pos q',if_pos (by omega)]
    ·rw[if_neg q',if_neg (by omega)]
  ·simp[h]
theorem own_ne{S:MS}{c i c' i':Nat}{v:Int32}(h:¬(c'=c∧i'=i)):Jvm.OM.upd S c i v c' i'=S c' i':=if_neg h
theorem own_i7(x:Int32):(inb (x&&&7) 8=true)=True:=by
 have h:=and_le (x:=x) (c:=7) (by decide)
 have l3:(7:Int32).toInt=7:=rfl
 exact eq_true (own_inb_iff.mpr (by omega))
theorem own_n7(x:Int32):(x&&&7).toNatClampNeg<8:=by
 have h:=and_le (x:=x) (c:=7) (by decide)
 have l3:(7:Int32).toInt=7:=rfl
 simp only[Int32.toNatClampNeg]
 omega
def own_ari(op x y:Int32):Int32:=if op=5 then x+y else if op=6 then x-y else if op=7 then x*y else if op=8 then if y=0 then 0 else x/y else if op=9 then if y=0 then 0 else x%y else if op=10 then if x<y then 1 else 0 else if op=11 then if x=y then 1 else 0 else 0
def own_ldv(S:MS)(a:Int32):Int32:=if a<0 then 0 else if a<128 then S 23 a.toNatClampNeg else 0
def own_sto(S:MS)(a v:Int32):MS:=if a<0 then S else if a<128 then if a<8 then Jvm.OM.upd (Jvm.OM.upd (Jvm.OM.upd S 23 a.toNatClampNeg v) 0 9 a) 0 10 v else Jvm.OM.upd S 23 a.toNatClampNeg v else S
def own_xi(S:MS)(o a b c:Int32):MS:=
 if o=1 then Jvm.OM.upd S 24 (a&&&7).toNatClampNeg b
 else if o=2 then Jvm.OM.upd S 24 (a&&&7).toNatClampNeg (own_ldv S b)
 else if o=3 then own_sto S a (S 24 (b&&&7).toNatClampNeg)
 else if o=4 then own_sto S a b
 else if o=5 then Jvm.OM.upd S 24 (a&&&7).toNatClampNeg (own_ari c (S 24 (a&&&7).toNatClampNeg) (S 24 (b&&&7).toNatClampNeg))
 else if o=6 then Jvm.OM.upd S 24 (a&&&7).toNatClampNeg (own_ari c (S 24 (a&&&7).toNatClampNeg) b)
 else if o=7 then Jvm.OM.upd S 24 (a&&&7).toNatClampNeg (0-S 24 (a&&&7).toNatClampNeg)
 else S
def own_ex:Nat→Int32→MS→Int32×MS
 |0,_,S=>(-2,S)
 |f+1,p,S=>if p<0 then (-2,S) else if p<S 0 6 then if p<1024 then if S 19 p.toNatClampNeg=8 then (S 21 p.toNatClampNeg,S) else if S 19 p.toNatClampNeg=9 then if S 24 (S 20 p.toNatClampNeg&&&7).toNatClampNeg=0 then (S 22 p.toNatClampNeg,S) else (S 21 p.toNatClampNeg,S) else if S 19 p.toNatClampNeg=10 then if S 20 p.toNatClampNeg=0 then (S 22 p.toNatClampNeg,S) else (S 21 p.toNatClampNeg,S) else own_ex f (p+1) (own_xi S (S 19 p.toNatClampNeg) (S 20 p.toNatClampNeg) (S 21 p.toNatClampNeg) (S 22 p.toNatClampNeg)) else (-2,S) else (-2,S)
def own_es(S:MS)(s:Int32):Int32×MS:=if s<0 then (-2,S) else if s<S 0 4 then if s<32 then own_ex 1024 (S 9 s.toNatClampNeg) S else (-2,S) else (-2,S)
def own_stp(S:MS):MS:=Jvm.OM.upd (Jvm.OM.upd (own_es S (S 0 7)).2 0 7 (own_es S (S 0 7)).1) 0 8 ((own_es S (S 0 7)).2 0 8+1)
def own_rst(S:MS):MS:=fun c i=>if c=23 then if i<128 then 0 else S 23 i else if c=24 then if i<8 then 0 else S 24 i else if c=0 then if i=7 then if 0<S 0 4 then 0 else -2 else if i=8 then 0 else if i=9 then -1 else if i=10 then 0 else S 0 i else S c i
section Ex
variable {f1:FT1}
theorem own_arF(hf1:Fx f1)(S:MS)(o x y:Int32):f1 (68,0,[.ref 0,.int o,.int x,.int y],[],S)=some (some (.int (own_ari o x y)),S):=by
 rw[e1_68_0 hf1]
 unfold own_ari
 by_cases h5:o=5
 ·rw[if_pos h5,if_pos h5]
 rw[if_neg h5,if_neg h5]
 by_cases h6:o=6
 ·rw[if_pos h6,if_pos h6]
 rw[if_neg h6,if_neg h6]
 by_cases h7:o=7
 ·rw[if_pos h7,if_pos h7]
 rw[if_neg h7,if_neg h7]
 by_cases h8:o=8
 ·rw[if_pos h8,if_pos h8]
  by_cases q:y=0
  ·rw[if_pos q,if_pos q]
  ·rw[if_neg q,if_neg q]
   exact e1_68_43 hf1 _ _ _ _ _ q S
 rw[if_neg h8,if_neg h8]
 by_cases h9:o=9
 ·rw[if_pos h9,if_pos h9]
  by_cases q:y=0
  ·rw[if_pos q,if_pos q]
  ·rw[if_neg q,if_neg q]
   exact e1_68_59 hf1 _ _ _ _ _ q S
 rw[if_neg h9,if_neg h9]
 by_cases h10:o=10
 ·rw[if_pos h10,if_pos h10]
  by_cases q:x<y
  ·rw[if_pos q,if_pos q]
  ·rw[if_neg q,if_neg q]
 rw[if_neg h10,if_neg h10]
 by_cases h11:o=11
 ·rw[if_pos h11,if_pos h11]
  by_cases q:x=y
  ·rw[if_pos q,if_pos q]
  ·rw[if_neg q,if_neg q]
 rw[if_neg h11,if_neg h11]
theorem own_ldF(hf1:Fx f1)(S:MS)(a:Int32):f1 (66,0,[.ref 0,.int a],[],S)=some (some (.int (own_ldv S a)),S):=by
 rw[e1_66_0 hf1]
 unfold own_ldv
 by_cases h:a<0
 ·rw[if_pos h,if_pos h]
 ·rw[if_neg h,if_neg h]
  by_cases g:a<128
  ·rw[if_pos g,if_pos g,if_pos (own_inb_of (n:=128) h g (by decide))]
  ·rw[if_neg g,if_neg g]
theorem own_stF(hf1:Fx f1)(S:MS)(a v:Int32):f1 (67,0,[.ref 0,.int a,.int v],[],S)=some (none,own_sto S a v):=by
 rw[e1_67_0 hf1]
 unfold own_sto
 by_cases h:a<0
 ·rw[if_pos h,if_pos h]
 ·rw[if_neg h,if_neg h]
  by_cases g:a<128
  ·rw[if_pos g,if_pos g,if_pos (own_inb_of (n:=128) h g (by decide))]
   by_cases k:a<8
   ·rw[if_pos k,if_pos k]
   ·rw[if_neg k,if_neg k]
  ·rw[if_neg g,if_neg g]
theorem own_xiF(hf1:Fx f1)(S:MS){p:Int32}(h0:¬p<0)(h1:p<1024):f1 (65,0,[.ref 0,.int p],[],S)=some (none,own_xi S (S 19 p.toNatClampNeg) (S 20 p.toNatClampNeg) (S 21 p.toNatClampNeg) (S 22 p.toNatClampNeg)):=by
 rw[e1_65_0 hf1,if_pos (own_inb_of (n:=1024) h0 h1 (by decide)),own_ldF hf1,own_stF hf1,own_stF hf1,own_arF hf1,own_arF hf1];simp only[Option.bind_some,Option.toList_some,Option.toList_none,List.cons_append,List.nil_append,List.append_nil]
 simp only[own_i7,if_true,e1_65_68 hf1,e1_65_92 hf1,e1_65_107 hf1,e1_65_156 hf1,e1_65_195 hf1]
 generalize S 19 p.toNatClampNeg=o
 unfold own_xi
 by_cases h1:o=1
 ·rw[if_pos h1,if_pos h1]
 rw[if_neg h1,if_neg h1]
 by_cases h2:o=2
 ·rw[if_pos h2,if_pos h2]
 rw[if_neg h2,if_neg h2]
 by_cases h3:o=3
 ·rw[if_pos h3,if_pos h3]
 rw[if_neg h3,if_neg h3]
 by_cases h4:o=4
 ·rw[if_pos h4,if_pos h4]
 rw[if_neg h4,if_neg h4]
 by_cases h5:o=5
 ·rw[if_pos h5,if_pos h5]
 rw[if_neg h5,if_neg h5]
 by_cases h6:o=6
 ·rw[if_pos h6,if_pos h6]
 rw[if_neg h6,if_neg h6]
 by_cases h7:o=7
 ·rw[if_pos h7,if_pos h7]
 rw[if_neg h7,if_neg h7]
theorem own_exF(hf1:Fx f1)(x1:Int32):∀(f g:Nat),g+f=1024→∀(p:Int32) (S:MS),f1 (64,30,[.ref 0,.int x1,.int p,.int (Int32.ofNat g)],[],S)=some (some (.int (own_ex f p S).1),(own_ex f p S).2)
 |0,g,h,p,S=>by
  have:g=1024:=by omega
  subst this
  rw[e1_64_30 hf1,if_neg (by decide)]
  rfl
 |f+1,g,h,p,S=>by
  rw[e1_64_30 hf1,if_pos (show Int32.ofNat g<1024 from (own_lt (a:=g) (b:=1024) (by omega) (by decide)).mpr (by omega)),own_ex]
  by_cases h0:p<0
  ·rw[if_pos h0,if_pos h0]
  rw[if_neg h0,if_neg h0]
  by_cases h1:p<S 0 6
  ·rw[if_pos h1,if_pos h1]
   by_cases h2:p<1024
   ·rw[if_pos h2,if_pos h2,if_pos (own_inb_of (n:=1024) h0 h2 (by decide)),own_xiF hf1 S h0 h2];simp only[Option.bind_some,Option.toList_some,Option.toList_none,List.cons_append,List.nil_append,List.append_nil]
    simp only[own_i7,if_true]
    rw[e1_64_154 hf1,own_add1,own_exF hf1 x1 f (g+1) (by omega)]
    by_cases h8:S 19 p.toNatClampNeg=8
    ·rw[if_pos h8,if_pos h8]
    rw[if_neg h8,if_neg h8]
    by_cases h9:S 19 p.toNatClampNeg=9
    ·rw[if_pos h9,if_pos h9]
     by_cases q:S 24 (S 20 p.toNatClampNeg&&&7).toNatClampNeg=0
     ·rw[if_pos q,if_pos q]
     ·rw[if_neg q,if_neg q]
    rw[if_neg h9,if_neg h9]
    by_cases h10:S 19 p.toNatClampNeg=10
    ·rw[if_pos h10,if_pos h10]
     by_cases q:S 20 p.toNatClampNeg=0
     ·rw[if_pos q,if_pos q]
     ·rw[if_neg q,if_neg q]
    rw[if_neg h10,if_neg h10]
   ·rw[if_neg h2,if_neg h2]
  ·rw[if_neg h1,if_neg h1]
theorem own_soF(hf1:Fx f1)(S:MS):f1 (63,0,[.ref 0],[],S)=some (none,own_stp S):=by
 have es:f1 (64,0,[.ref 0,.int (S 0 7)],[],S)=some (some (.int (own_es S (S 0 7)).1),(own_es S (S 0 7)).2):=by
  rw[e1_64_0 hf1]
  unfold own_es
  by_cases h0:S 0 7<0
  ·rw[if_pos h0,if_pos h0]
  rw[if_neg h0,if_neg h0]
  by_cases h1:S 0 7<S 0 4
  ·rw[if_pos h1,if_pos h1]
   by_cases h2:S 0 7<32
   ·rw[if_pos h2,if_pos h2,if_pos (own_inb_of (n:=32) h0 h2 (by decide))]
    exact own_exF hf1 _ 1024 0 rfl _ S
   ·rw[if_neg h2,if_neg h2]
  ·rw[if_neg h1,if_neg h1]
 rw[e1_63_0 hf1,es];simp only[Option.bind_some,Option.toList_some,Option.toList_none,List.cons_append,List.nil_append,List.append_nil]
 rw[e1_63_8 hf1]
 rfl
theorem own_rsF(hf1:Fx f1)(S:MS):f1 (19,0,[.ref 0],[],S)=some (none,own_rst S):=by
 rw[e1_19_0 hf1]
 refine (own_for (H:=fun x T=>f1 (19,2,[.ref 0,.int x],[],T)) (g:=fun j T=>Jvm.OM.upd T 23 j 0) (n:=128) (fun j hj T=>?_) S).trans ?_
 ·show f1 (19,2,[.ref 0,.int (Int32.ofNat j)],[],T)=_
  rw[e1_19_2 hf1,if_pos (show Int32.ofNat j<128 from (own_lt (a:=j) (b:=128) (by omega) (by decide)).mpr hj),if_pos (own_inb (by omega) hj),own_add1,own_nat (by omega)]
 show f1 (19,2,[.ref 0,.int (Int32.ofNat 128)],[],_)=_
 rw[e1_19_2 hf1,if_neg (by decide)]
 refine (own_for (H:=fun x T=>f1 (19,24,[.ref 0,.int x],[],T)) (g:=fun j T=>Jvm.OM.upd T 24 j 0) (n:=8) (fun j hj T=>?_) _).trans ?_
 ·show f1 (19,24,[.ref 0,.int (Int32.ofNat j)],[],T)=_
  rw[e1_19_24 hf1,if_pos (show Int32.ofNat j<8 from (own_lt (a:=j) (b:=8) (by omega) (by decide)).mpr hj),if_pos (own_inb (by omega) hj),own_add1,own_nat (by omega)]
 show f1 (19,24,[.ref 0,.int (Int32.ofNat 8)],[],_)=_
 rw[e1_19_24 hf1,if_neg (by decide)]
 have k:∀c i,itN (fun j T=>Jvm.OM.upd T 24 j 0) 8 (itN (fun j T=>Jvm.OM.upd T 23 j 0) 128 S) c i=if c=24∧i<8 then 0 else if c=23∧i<128 then 0 else S c i:=fun c i=>by rw[own_fill,own_fill]
 generalize itN (fun j T=>Jvm.OM.upd T 24 j 0) 8 (itN (fun j T=>Jvm.OM.upd T 23 j 0) 128 S)=U at k
 have u4:U 0 4=S 0 4:=by rw[k];rfl
 have fin:∀v:Int32,v=(if 0<S 0 4 then 0 else -2)→Jvm.OM.upd (Jvm.OM.upd (Jvm.OM.upd (Jvm.OM.upd U 0 8 0) 0 9 (-1)) 0 10 0) 0 7 v=own_rst S:=fun v hv=>by
  funext c i
  simp only[own_up,k]
  unfold own_rst
  by_cases c23:c=23
  ·subst c23
   simp
  by_cases c24:c=24
  ·subst c24
   simp
  by_cases c0:c=0
  ·subst c0
   by_cases i7:i=7
   ·simp[i7,hv]
   by_cases i10:i=10
   ·simp[i10]
   by_cases i9:i=9
   ·simp[i9]
   by_cases i8:i=8
   ·simp[i8]
   simp[i7,i8,i9,i10]
  ·simp[c0,c23,c24]
 rw[u4]
 by_cases q:0<S 0 4
 ·rw[if_pos q,fin 0 (by rw[if_pos q])]
 ·rw[if_neg q,fin (-2) (by rw[if_neg q])]
end Ex
def own_nb(S:MS):MS:=fun c i=>if c=16 then 0 else S c i
theorem own_nbu(S:MS){c i:Nat}{v:Int32}(hc:c≠16):own_nb (Jvm.OM.upd S c i v)=Jvm.OM.upd (own_nb S) c i v:=by
 funext c' i'
 unfold own_nb
 simp only[own_up]
 by_cases h:c'=16
 ·rw[if_pos h,if_neg (by omega),if_pos h]
 ·rw[if_neg h,if_neg h]
theorem own_nbs(S:MS)(a v:Int32):own_nb (own_sto S a v)=own_sto (own_nb S) a v:=by
 unfold own_sto
 by_cases h:a<0
 ·rw[if_pos h,if_pos h]
 ·rw[if_neg h,if_neg h]
  by_cases g:a<128
  ·rw[if_pos g,if_pos g]
   by_cases k:a<8
   ·rw[if_pos k,if_pos k,own_nbu _ (by decide),own_nbu _ (by decide),own_nbu _ (by decide)]
   ·rw[if_neg k,if_neg k,own_nbu _ (by decide)]
  ·rw[if_neg g,if_neg g]
theorem own_nbx(S:MS)(o a b c:Int32):own_nb (own_xi S o a b c)=own_xi (own_nb S) o a b c:=by
 unfold own_xi
 by_cases h1:o=1
 ·rw[if_pos h1,if_pos h1,own_nbu _ (by decide)]
 rw[if_neg h1,if_neg h1]
 by_cases h2:o=2
 ·rw[if_pos h2,if_pos h2,own_nbu _ (by decide)];rfl
 rw[if_neg h2,if_neg h2]
 by_cases h3:o=3
 ·rw[if_pos h3,if_pos h3,own_nbs];rfl
 rw[if_neg h3,if_neg h3]
 by_cases h4:o=4
 ·rw[if_pos h4,if_pos h4,own_nbs]
 rw[if_neg h4,if_neg h4]
 by_cases h5:o=5
 ·rw[if_pos h5,if_pos h5,own_nbu _ (by decide)];rfl
 rw[if_neg h5,if_neg h5]
 by_cases h6:o=6
 ·rw[if_pos h6,if_pos h6,own_nbu _ (by decide)];rfl
 rw[if_neg h6,if_neg h6]
 by_cases h7:o=7
 ·rw[if_pos h7,if_pos h7,own_nbu _ (by decide)];rfl
 rw[if_neg h7,if_neg h7]
theorem own_nbe:∀(f:Nat) (p:Int32) (S:MS),own_ex f p (own_nb S)=((own_ex f p S).1,own_nb (own_ex f p S).2)
 |0,p,S=>rfl
 |f+1,p,S=>by
  have e0:own_nb S 0 6=S 0 6:=rfl
  have e19:own_nb S 19 p.toNatClampNeg=S 19 p.toNatClampNeg:=rfl
  have e20:own_nb S 20 p.toNatClampNeg=S 20 p.toNatClampNeg:=rfl
  have e21:own_nb S 21 p.toNatClampNeg=S 21 p.toNatClampNeg:=rfl
  have e22:own_nb S 22 p.toNatClampNeg=S 22 p.toNatClampNeg:=rfl
  have e24:∀i,own_nb S 24 i=S 24 i:=fun i=>rfl
  rw[own_ex,own_ex,e0,e19,e20,e21,e22,e24,←own_nbx,own_nbe f]
  by_cases h0:p<0
  ·rw[if_pos h0,if_pos h0]
  rw[if_neg h0,if_neg h0]
  by_cases h1:p<S 0 6
  ·rw[if_pos h1,if_pos h1]
   by_cases h2:p<1024
   ·rw[if_pos h2,if_pos h2]
    by_cases h8:S 19 p.toNatClampNeg=8
    ·rw[if_pos h8,if_pos h8]
    rw[if_neg h8,if_neg h8]
    by_cases h9:S 19 p.toNatClampNeg=9
    ·rw[if_pos h9,if_pos h9]
     by_cases q:S 24 (S 20 p.toNatClampNeg&&&7).toNatClampNeg=0
     ·rw[if_pos q,if_pos q]
     ·rw[if_neg q,if_neg q]
    rw[if_neg h9,if_neg h9]
    by_cases h10:S 19 p.toNatClampNeg=10
    ·rw[if_pos h10,if_pos h10]
     by_cases q:S 20 p.toNatClampNeg=0
     ·rw[if_pos q,if_pos q]
     ·rw[if_neg q,if_neg q]
    rw[if_neg h10,if_neg h10]
   ·rw[if_neg h2,if_neg h2]
  ·rw[if_neg h1,if_neg h1]
theorem own_nbp(S:MS):own_nb (own_stp S)=own_stp (own_nb S):=by
 have es:own_es (own_nb S) (own_nb S 0 7)=((own_es S (S 0 7)).1,own_nb (own_es S (S 0 7)).2):=by
  have e7:own_nb S 0 7=S 0 7:=rfl
  have e4:own_nb S 0 4=S 0 4:=rfl
  have e9:∀i,own_nb S 9 i=S 9 i:=fun i=>rfl
  unfold own_es
  rw[e7,e4,e9,own_nbe]
  by_cases h0:S 0 7<0
  ·rw[if_pos h0,if_pos h0]
  rw[if_neg h0,if_neg h0]
  by_cases h1:S 0 7<S 0 4
  ·rw[if_pos h1,if_pos h1]
   by_cases h2:S 0 7<32
   ·rw[if_pos h2,if_pos h2]
   ·rw[if_neg h2,if_neg h2]
  ·rw[if_neg h1,if_neg h1]
 unfold own_stp
 rw[own_nbu _ (by decide),own_nbu _ (by decide),es]
 rfl
theorem own_nbr(S:MS):own_nb (own_rst S)=own_rst (own_nb S):=by
 funext c i
 unfold own_nb own_rst
 by_cases h:c=16
 ·subst h;rfl
 ·simp only[h,if_false]
  by_cases c23:c=23
  ·subst c23;rfl
  ·by_cases c24:c=24
   ·subst c24;rfl
   ·by_cases c0:c=0
    ·subst c0;rfl
    ·simp[c23,c24,c0,h]
def own_Fs(S S':MS):Prop:=(∀i,i<7∨10<i→S' 0 i=S 0 i)∧(∀c,c≠0→c≠23→c≠24→∀i,S' c i=S c i)∧(∀i,128≤i→S' 23 i=S 23 i)∧∀i,8≤i→S' 24 i=S 24 i
theorem own_Fsr(S:MS):own_Fs S S:=⟨fun _ _=>rfl,fun _ _ _ _ _=>rfl,fun _ _=>rfl,fun _ _=>rfl⟩
theorem own_Fst{S S' S'':MS}(h:own_Fs S S')(h':own_Fs S' S''):own_Fs S S'':=⟨fun i hi=>(h'.1 i hi).trans (h.1 i hi),fun c a b d i=>(h'.2.1 c a b d i).trans (h.2.1 c a b d i),fun i hi=>(h'.2.2.1 i hi).trans (h.2.2.1 i hi),fun i hi=>(h'.2.2.2 i hi).trans (h.2.2.2 i hi)⟩
theorem own_Fsu{S T:MS}(h:own_Fs S T){c i:Nat}{v:Int32}(hc:(c=0∧7≤i∧i≤10)∨(c=23∧i<128)∨(c=24∧i<8)):own_Fs S (Jvm.OM.upd T c i v):=by
 refine own_Fst h ⟨fun j hj=>own_ne ?_,fun c' a b d j=>own_ne ?_,fun j hj=>own_ne ?_,fun j hj=>own_ne ?_⟩
 ·omega
 ·omega
 ·omega
 ·omega
theorem own_Fsst(S:MS)(a v:Int32):own_Fs S (own_sto S a v):=by
 unfold own_sto
 by_cases h:a<0
 ·rw[if_pos h];exact own_Fsr S
 ·rw[if_neg h]
  by_cases g:a<128
  ·have n:a.toNatClampNeg<128:=by
    have:=own_inb_iff.mp (own_inb_of (n:=128) h g (by decide))
    simp only[Int32.toNatClampNeg]
    omega
   rw[if_pos g]
   by_cases k:a<8
   ·rw[if_pos k];exact own_Fsu (own_Fsu (own_Fsu (own_Fsr S) (by omega)) (by omega)) (by omega)
   ·rw[if_neg k];exact own_Fsu (own_Fsr S) (by omega)
  ·rw[if_neg g];exact own_Fsr S
theorem own_Fsx(S:MS)(o a b c:Int32):own_Fs S (own_xi S o a b c):=by
 have n:=own_n7 a
 unfold own_xi
 split
 ·exact own_Fsu (own_Fsr S) (by omega)
 split
 ·exact own_Fsu (own_Fsr S) (by omega)
 split
 ·exact own_Fsst ..
 split
 ·exact own_Fsst ..
 split
 ·exact own_Fsu (own_Fsr S) (by omega)
 split
 ·exact own_Fsu (own_Fsr S) (by omega)
 split
 ·exact own_Fsu (own_Fsr S) (by omega)
 ·exact own_Fsr S
theorem own_Fse:∀(f:Nat) (p:Int32) (S:MS),own_Fs S (own_ex f p S).2
 |0,p,S=>own_Fsr S
 |f+1,p,S=>by
  rw[own_ex]
  split
  ·exact own_Fsr S
  split
  ·split
   ·split
    ·exact own_Fsr S
    split
    ·split
     ·exact own_Fsr S
     ·exact own_Fsr S
    split
    ·split
     ·exact own_Fsr S
     ·exact own_Fsr S
    ·exact own_Fst (own_Fsx ..) (own_Fse f _ _)
   ·exact own_Fsr S
  ·exact own_Fsr S
theorem own_Fsp(S:MS):own_Fs S (own_stp S):=by
 have:own_Fs S (own_es S (S 0 7)).2:=by
  unfold own_es
  split
  ·exact own_Fsr S
  split
  ·split
   ·exact own_Fse ..
   ·exact own_Fsr S
  ·exact own_Fsr S
 exact own_Fsu (own_Fsu this (by omega)) (by omega)
theorem own_rstF{S T:MS}(h:own_Fs S T):own_rst T=own_rst S:=by
 funext c i
 unfold own_rst
 rw[h.1 4 (by omega)]
 by_cases c23:c=23
 ·rw[if_pos c23,if_pos c23]
  by_cases q:i<128
  ·rw[if_pos q,if_pos q]
  ·rw[if_neg q,if_neg q,h.2.2.1 i (by omega)]
 rw[if_neg c23,if_neg c23]
 by_cases c24:c=24
 ·rw[if_pos c24,if_pos c24]
  by_cases q:i<8
  ·rw[if_pos q,if_pos q]
  ·rw[if_neg q,if_neg q,h.2.2.2 i (by omega)]
 rw[if_neg c24,if_neg c24]
 by_cases c0:c=0
 ·rw[if_pos c0,if_pos c0]
  by_cases i7:i=7
  ·rw[if_pos i7,if_pos i7]
  rw[if_neg i7,if_neg i7]
  by_cases i8:i=8
  ·rw[if_pos i8,if_pos i8]
  rw[if_neg i8,if_neg i8]
  by_cases i9:i=9
  ·rw[if_pos i9,if_pos i9]
  rw[if_neg i9,if_neg i9]
  by_cases i10:i=10
  ·rw[if_pos i10,if_pos i10]
  rw[if_neg i10,if_neg i10,h.1 i (by omega)]
 rw[if_neg c0,if_neg c0]
 exact h.2.1 c c0 c23 c24 i
theorem own_Fsrs(S:MS):own_Fs S (own_rst S):=by
 refine⟨fun i hi=>?_,fun c a b d i=>?_,fun i hi=>?_,fun i hi=>?_⟩
 ·unfold own_rst
  rw[if_neg (by decide),if_neg (by decide),if_pos rfl,if_neg (by omega),if_neg (by omega),if_neg (by omega),if_neg (by omega)]
 ·unfold own_rst
  rw[if_neg b,if_neg d,if_neg a]
 ·unfold own_rst
  rw[if_pos rfl,if_neg (by omega)]
 ·unfold own_rst
  rw[if_neg (by decide),if_pos rfl,if_neg (by omega)]
theorem own_e8:∀(f:Nat) (p:Int32) (S:MS),(own_ex f p S).2 0 8=S 0 8
 |0,p,S=>rfl
 |f+1,p,S=>by
  have xi:∀(S:MS) (o a b c:Int32),own_xi S o a b c 0 8=S 0 8:=fun S o a b c=>by
   have st:∀a v,own_sto S a v 0 8=S 0 8:=fun a v=>by
    unfold own_sto
    split
    ·rfl
    split
    ·split<;>rfl
    ·rfl
   unfold own_xi
   split
   ·rfl
   split
   ·rfl
   split
   ·exact st _ _
   split
   ·exact st _ _
   split
   ·rfl
   split
   ·rfl
   split
   ·rfl
   ·rfl
  rw[own_ex]
  split
  ·rfl
  split
  ·split
   ·split
    ·rfl
    split
    ·split<;>rfl
    split
    ·split<;>rfl
    ·exact (own_e8 f _ _).trans (xi ..)
   ·rfl
  ·rfl
def own_sg(S:MS):MS:=if S 0 7 = -2 then S else own_stp S
def own_it:Nat→MS→MS
 |0,S=>S
 |n+1,S=>own_sg (own_it n S)
def own_X(n:Nat)(S:MS):Prop:=S 0 8=Int32.ofNat n∧own_nb S=own_it n (own_rst (own_nb S))
theorem own_X0(S:MS):own_X 0 (own_rst S):=by
 refine⟨rfl,?_⟩
 rw[own_nbr,own_rstF (own_Fsrs (own_nb S))]
 rfl
theorem own_XS{n:Nat}{S:MS}(h:own_X n S)(h7:¬S 0 7 = -2):own_X (n+1) (own_stp S):=by
 obtain⟨a,b⟩:=h
 have r:own_rst (own_nb (own_stp S))=own_rst (own_nb S):=by
  rw[own_nbp]
  exact own_rstF (own_Fsp (own_nb S))
 refine⟨?_,?_⟩
 ·show (own_es S (S 0 7)).2 0 8+1=_
  have:(own_es S (S 0 7)).2 0 8=S 0 8:=by
   unfold own_es
   have g:∀(f:Nat) (p:Int32) (S:MS),(own_ex f p S).2 0 8=S 0 8:=own_e8
   split
   ·rfl
   split
   ·split
    ·exact g _ _ _
    ·rfl
   ·rfl
  rw[this,a,own_add1]
 ·rw[r,own_it,←b,own_sg,if_neg (show ¬own_nb S 0 7 = -2 from h7),own_nbp]
theorem own_XB{n:Nat}{S:MS}(h:own_X n S)(i:Nat)(v:Int32):own_X n (Jvm.OM.upd S 16 i v):=by
 have e:own_nb (Jvm.OM.upd S 16 i v)=own_nb S:=by
  funext c j
  unfold own_nb
  by_cases q:c=16
  ·rw[if_pos q,if_pos q]
  ·rw[if_neg q,if_neg q];exact own_ne (fun z=>q z.1)
 unfold own_X
 rw[e]
 exact⟨h.1,h.2⟩
def own_Fc(S S':MS):Prop:=S' 0 0=S 0 0∧S' 0 1=S 0 1∧S' 0 3=S 0 3∧(∀i,S' 1 i=S 1 i)∧(∀i,S' 2 i=S 2 i)∧∀i,S' 15 i=S 15 i
theorem own_Fcr(S:MS):own_Fc S S:=⟨rfl,rfl,rfl,fun _=>rfl,fun _=>rfl,fun _=>rfl⟩
theorem own_Fct{S S' S'':MS}(h:own_Fc S S')(h':own_Fc S' S''):own_Fc S S'':=⟨h'.1.trans h.1,h'.2.1.trans h.2.1,h'.2.2.1.trans h.2.2.1,fun i=>(h'.2.2.2.1 i).trans (h.2.2.2.1 i),fun i=>(h'.2.2.2.2.1 i).trans (h.2.2.2.2.1 i),fun i=>(h'.2.2.2.2.2 i).trans (h.2.2.2.2.2 i)⟩
def own_Tb(S S':MS):Prop:=own_Fc S S'∧S' 0 4=S 0 4∧S' 0 12=S 0 12∧S' 0 13=S 0 13∧(∀i,S' 3 i=S 3 i)∧(∀i,S' 6 i=S 6 i)∧∀i,S' 26 i=S 26 i
theorem own_Tbr(S:MS):own_Tb S S:=⟨own_Fcr S,rfl,rfl,rfl,fun _=>rfl,fun _=>rfl,fun _=>rfl⟩
theorem own_Tbt{S S' S'':MS}(h:own_Tb S S')(h':own_Tb S' S''):own_Tb S S'':=⟨own_Fct h.1 h'.1,h'.2.1.trans h.2.1,h'.2.2.1.trans h.2.2.1,h'.2.2.2.1.trans h.2.2.2.1,fun i=>(h'.2.2.2.2.1 i).trans (h.2.2.2.2.1 i),fun i=>(h'.2.2.2.2.2.1 i).trans (h.2.2.2.2.2.1 i),fun i=>(h'.2.2.2.2.2.2 i).trans (h.2.2.2.2.2.2 i)⟩
def own_gk(S:MS)(p:Int32):Prop:=p<0∨(¬p<0∧p<32∧p<S 0 4∧¬S 3 p.toNatClampNeg=2)
def own_Wt(S:MS):Prop:=¬S 0 4<0∧(∀s:Nat,s<32→Int32.ofNat s<S 0 4→own_gk S (S 6 s))∧own_gk S (S 26 0)
theorem own_gkT{S S':MS}(h:own_Tb S S'){p:Int32}(g:own_gk S p):own_gk S' p:=by
 unfold own_gk
 rw[h.2.1,h.2.2.2.2.1]
 exact g
theorem own_WtT{S S':MS}(h:own_Tb S S')(w:own_Wt S):own_Wt S':=by
 refine⟨by rw[h.2.1];exact w.1,fun s h1 h2=>?_,?_⟩
 ·rw[h.2.2.2.2.2.1]
  rw[h.2.1] at h2
  exact own_gkT h (w.2.1 s h1 h2)
 ·rw[h.2.2.2.2.2.2]
  exact own_gkT h w.2.2
def own_Em(S S':MS):Prop:=(∀i,i≠6→S' 0 i=S 0 i)∧∀c,c≠0→(c<19∨22<c)→∀i,S' c i=S c i
theorem own_EmT{S S':MS}(h:own_Em S S'):own_Tb S S':=⟨⟨h.1 0 (by decide),h.1 1 (by decide),h.1 3 (by decide),h.2 1 (by decide) (by decide),h.2 2 (by decide) (by decide),h.2 15 (by decide) (by decide)⟩,h.1 4 (by decide),h.1 12 (by decide),h.1 13 (by decide),h.2 3 (by decide) (by decide),h.2 6 (by decide) (by decide),h.2 26 (by decide) (by decide)⟩
section Ps
variable {f1:FT1}
theorem own_emF(hf1:Fx f1)(S:MS)(a b c d:Int32):∃y S',f1 (52,0,[.ref 0,.int a,.int b,.int c,.int d],[],S)=some (some (.int y),S')∧own_Em S S':=by
 rw[e1_52_0 hf1]
 by_cases h:S 0 6<0
 ·rw[if_pos h];exact⟨_,S,rfl,fun _ _=>rfl,fun _ _ _ _=>rfl⟩
 ·rw[if_neg h]
  by_cases g:S 0 6<1024
  ·rw[if_pos g,if_pos (own_inb_of (n:=1024) h g (by decide))]
   refine⟨_,_,rfl,fun i hi=>?_,fun c h0 hc i=>?_⟩
   ·rw[own_ne (by omega),own_ne (by omega),own_ne (by omega),own_ne (by omega),own_ne (by omega)]
   ·rw[own_ne (by omega),own_ne (by omega),own_ne (by omega),own_ne (by omega),own_ne (by omega)]
  ·rw[if_neg g];exact⟨_,S,rfl,fun _ _=>rfl,fun _ _ _ _=>rfl⟩
theorem own_reF(hf1:Fx f1)(S:MS):∃S',f1 (29,0,[.ref 0],[],S)=some (none,S')∧(∀i,i≠14→i≠15→i≠16→S' 0 i=S 0 i)∧S' 0 14=0∧S' 0 15=0∧S' 0 16=0∧S' 31 0=0∧S' 29 0 = -1∧∀c,c≠0→c≠29→c≠31→∀i,S' c i=S c i:=by
 rw[e1_29_0 hf1]
 refine⟨itN (fun j T=>Jvm.OM.upd T 29 j (-1)) 8 (Jvm.OM.upd (Jvm.OM.upd (Jvm.OM.upd (Jvm.OM.upd S 0 14 0) 0 15 0) 0 16 0) 31 0 0),?_,fun i a b c=>?_,?_,?_,?_,?_,?_,fun c a b d i=>?_⟩
 ·refine (own_for (H:=fun x T=>f1 (29,24,[.ref 0,.int x],[],T)) (g:=fun j T=>Jvm.OM.upd T 29 j (-1)) (n:=8) (fun j hj T=>?_) _).trans ?_
  ·show f1 (29,24,[.ref 0,.int (Int32.ofNat j)],[],T)=_
   rw[e1_29_24 hf1,if_pos (show Int32.ofNat j<8 from (own_lt (a:=j) (b:=8) (by omega) (by decide)).mpr hj),if_pos (own_inb (by omega) hj),own_add1,own_nat (by omega)]
  ·show f1 (29,24,[.ref 0,.int (Int32.ofNat 8)],[],_)=_
   rw[e1_29_24 hf1,if_neg (by decide)]
 ·rw[own_fill,if_neg (by omega),own_ne (by omega),own_ne (by omega),own_ne (by omega),own_ne (by omega)]
 ·rw[own_fill,if_neg (by omega)];rfl
 ·rw[own_fill,if_neg (by omega)];rfl
 ·rw[own_fill,if_neg (by omega)];rfl
 ·rw[own_fill,if_neg (by omega)];rfl
 ·rw[own_fill,if_pos (by omega)]
 ·rw[own_fill,if_neg (by omega),own_ne (by omega),own_ne (by omega),own_ne (by omega),own_ne (by omega)]
theorem own_maF(hf1:Fx f1){S:MS}(h0:0<S 0 0)(k0:S 27 0=2)(r0:S 29 0<0)(x:Int32):∃S',f1 (48,0,[.ref 0,.int 0,.int x],[],S)=some (some (.int 0),S')∧own_Tb S S'∧S' 0 11=S 0 11∧S' 0 14=S 0 14∧S' 0 15=S 0 15∧S' 0 16=S 0 16∧S' 27 0=3∧(∀i,i≠0→S' 27 i=S 27 i)∧(∀i,i≠0→S' 28 i=S 28 i)∧S' 28 0=0:=by
 have al:f1 (49,0,[.ref 0,.int 0,.int x],[],S)=some (some (.int 0),S):=by
  rw[e1_49_0 hf1,e1_49_2 hf1,if_pos h0,if_pos (by decide),if_pos (by decide)]
  exact if_pos r0
 obtain⟨y,S1,e1,E⟩:=own_emF hf1 S 2 0 (S 28 0) 0
 rw[e1_48_0 hf1,if_neg (by decide),if_pos (by decide),if_pos (by decide),if_neg (show ¬S 27 (0:Int32).toNatClampNeg=3 from by rw[show (0:Int32).toNatClampNeg=0 from rfl,k0];decide),al];simp only[Option.bind_some,Option.toList_some,Option.toList_none,List.cons_append,List.nil_append,List.append_nil]
 rw[e1_48_40 hf1,if_neg (show ¬S 27 (0:Int32).toNatClampNeg=1 from by rw[show (0:Int32).toNatClampNeg=0 from rfl,k0];decide),if_pos (by decide)]
 rw[show f1 (52,0,[.ref 0,.int 2,.int 0,.int (S 28 (0:Int32).toNatClampNeg),.int 0],[],S)=_ from e1];simp only[Option.bind_some,Option.toList_some,Option.toList_none,List.cons_append,List.nil_append,List.append_nil]
 rw[e1_48_79 hf1,e1_48_80 hf1,if_pos (by decide),if_pos (by decide)]
 refine⟨_,rfl,own_Tbt (own_EmT E) ⟨⟨rfl,rfl,rfl,fun _=>rfl,fun _=>rfl,fun _=>rfl⟩,rfl,rfl,rfl,fun _=>rfl,fun _=>rfl,fun _=>rfl⟩,E.1 11 (by decide),E.1 14 (by decide),E.1 15 (by decide),E.1 16 (by decide),rfl,fun i hi=>?_,fun i hi=>?_,rfl⟩
 ·rw[own_ne (by omega),own_ne (by omega),own_ne (i:=(0:Int32).toNatClampNeg) (fun z=>hi z.2)];exact E.2 27 (by decide) (by decide) i
 ·rw[own_ne (by omega),own_ne (i:=(0:Int32).toNatClampNeg) (fun z=>hi z.2),own_ne (by omega)];exact E.2 28 (by decide) (by decide) i
theorem own_ma3(hf1:Fx f1){S:MS}(k0:S 27 0=3)(x:Int32):f1 (48,0,[.ref 0,.int 0,.int x],[],S)=some (some (.int (S 28 0&&&7)),S):=by
 rw[e1_48_0 hf1,if_neg (by decide),if_pos (by decide),if_pos (by decide)]
 exact if_pos k0
theorem own_riF(hf1:Fx f1)(S:MS){op k:Int32}(h:op=10∨(op=5∧¬k=0)):f1 (43,0,[.ref 0,.int op,.int k],[],S)=some (some (.int 0),S):=by
 have tl:∀op:Int32,(op=10∨op=5)→f1 (43,17,[.ref 0,.int op,.int k],[],S)=some (some (.int 0),S):=fun op h=>by
  have n7:¬op=7:=by rcases h with rfl | rfl<;>decide
  have n8:¬op=8:=by rcases h with rfl | rfl<;>decide
  have n9:¬op=9:=by rcases h with rfl | rfl<;>decide
  rw[e1_43_17 hf1,if_neg n7,if_neg n8,e1_43_36 hf1,if_neg n7,if_neg n8,e1_43_54 hf1,if_neg n9]
 rw[e1_43_0 hf1]
 rcases h with rfl | ⟨rfl,hk⟩
 ·rw[if_neg (by decide),if_neg (by decide)]
  exact tl _ (Or.inl rfl)
 ·rw[if_pos rfl,e1_43_11 hf1,if_neg hk]
  exact tl _ (Or.inr rfl)
theorem own_abF(hf1:Fx f1){S:MS}(h0:0<S 0 0)(h14:S 0 14=2)(k0:S 27 0=2)(k1:S 27 1=1)(r0:S 29 0<0){op:Int32}(h:op=10∨(op=5∧¬S 28 1=0)):∃S',f1 (41,0,[.ref 0,.int op],[],S)=some (none,S')∧own_Tb S S'∧S' 0 11=S 0 11∧S' 0 14=1∧S' 0 15=S 0 15∧S' 0 16=S 0 16∧S' 27 0=3:=by
 have t22:(2:Int32)-2=0:=rfl
 have t21:(2:Int32)-1=1:=rfl
 have n1:(1:Int32).toNatClampNeg=1:=rfl
 have n0:(0:Int32).toNatClampNeg=0:=rfl
 have si:f1 (42,0,[.ref 0,.int op,.int 0,.int 1],[],S)=some (some (.int 0),S):=by
  rw[e1_42_0 hf1,if_pos (by decide),if_pos (show S 27 (1:Int32).toNatClampNeg=1 from k1),n1,own_riF hf1 S h];simp only[Option.bind_some,Option.toList_some,Option.toList_none,List.cons_append,List.nil_append,List.append_nil]
  rw[e1_42_21 hf1,if_neg (by decide),if_neg (by decide)]
 obtain⟨S1,e1,T1,p11,p14,p15,p16,p27,q27,q28,-⟩:=own_maF hf1 h0 k0 r0 1
 have k1':S1 27 1=1:=(q27 1 (by decide)).trans k1
 obtain⟨y,S2,e2,E⟩:=own_emF hf1 S1 6 0 (S1 28 1) op
 rw[e1_41_0 hf1,h14,t22,t21,if_neg (by decide),if_neg (by decide),if_pos (by decide),if_neg (show ¬S 27 (0:Int32).toNatClampNeg=1 from by rw[n0,k0];decide),si];simp only[Option.bind_some,Option.toList_some,Option.toList_none,List.cons_append,List.nil_append,List.append_nil]
 rw[e1_41_93 hf1,if_pos rfl,e1];simp only[Option.bind_some,Option.toList_some,Option.toList_none,List.cons_append,List.nil_append,List.append_nil]
 rw[e1_41_103 hf1,if_pos (by decide),if_pos (show S1 27 (1:Int32).toNatClampNeg=1 from k1')]
 rw[show f1 (52,0,[.ref 0,.int 6,.int 0,.int (S1 28 (1:Int32).toNatClampNeg),.int op],[],S1)=_ from e2];simp only[Option.bind_some,Option.toList_some,Option.toList_none,List.cons_append,List.nil_append,List.append_nil]
 rw[e1_41_130 hf1]
 refine⟨_,rfl,own_Tbt T1 (own_Tbt (own_EmT E) ⟨⟨rfl,rfl,rfl,fun _=>rfl,fun _=>rfl,fun _=>rfl⟩,rfl,rfl,rfl,fun _=>rfl,fun _=>rfl,fun _=>rfl⟩),(E.1 11 (by decide)).trans p11,?_,(E.1 15 (by decide)).trans p15,(E.1 16 (by decide)).trans p16,(E.2 27 (by decide) (by decide) 0).trans p27⟩
 show S2 0 14-1=1
 rw[E.1 14 (by decide),p14,h14];rfl
theorem own_rw0(hf1:Fx f1){S:MS}(h15:S 0 15=0)(p:Int32){x:Int32}(hx:x<96):f1 (37,2,[.ref 0,.int p,.int x],[],S)=some (none,S):=by
 rw[e1_37_2 hf1,if_pos hx,if_neg (by rw[h15];decide)]
theorem own_rw1(hf1:Fx f1){S:MS}(h0:0<S 0 0)(h14:S 0 14=2)(h15:S 0 15=1)(k0:S 27 0=2)(k1:S 27 1=1)(r0:S 29 0<0)(h:S 30 0=10∨(S 30 0=5∧¬S 28 1=0)):∃S',f1 (37,0,[.ref 0,.int 0],[],S)=some (none,S')∧own_Tb S S'∧S' 0 11=S 0 11∧S' 0 14=1∧S' 0 16=S 0 16∧S' 27 0=3:=by
 have t11:(1:Int32)-1=0:=rfl
 have n0:(0:Int32).toNatClampNeg=0:=rfl
 generalize ho:S 30 0=op at h
 have hop:op=10∨op=5:=h.imp id fun z=>z.1
 have pr:∃v,f1 (35,0,[.ref 0,.int op],[],S)=some (some (.int v),S)∧¬v<0:=by
  rw[e1_35_0 hf1]
  rcases hop with rfl | rfl
  ·exact⟨1,if_pos rfl,by decide⟩
  ·refine⟨2,?_,by decide⟩
   rw[if_neg (by decide),if_neg (by decide),if_pos rfl]
 obtain⟨v,ev,nv⟩:=pr
 obtain⟨S1,e1,T1,p11,p14,p15,p16,p27⟩:=own_abF hf1 (S:=Jvm.OM.upd S 0 15 0) h0 h14 k0 k1 r0 h
 rw[e1_37_0 hf1,e1_37_2 hf1,h15,t11,n0,ho,if_pos (by decide),if_pos (by decide),if_neg (by decide),if_pos (by decide),if_neg (by rcases hop with rfl | rfl<;>decide),ev];simp only[Option.bind_some,Option.toList_some,Option.toList_none,List.cons_append,List.nil_append,List.append_nil]
 rw[e1_37_48 hf1,if_neg nv,h15,t11,e1_39_0 hf1,if_neg (by rcases hop with rfl | rfl<;>decide),e1];simp only[Option.bind_some,Option.toList_some,Option.toList_none,List.cons_append,List.nil_append,List.append_nil]
 rw[e1_39_18 hf1];simp only[Option.bind_some,Option.toList_some,Option.toList_none,List.cons_append,List.nil_append,List.append_nil]
 rw[e1_37_72 hf1,own_rw0 hf1 p15 0 (by decide)]
 exact⟨S1,rfl,own_Tbt ⟨⟨rfl,rfl,rfl,fun _=>rfl,fun _=>rfl,fun _=>rfl⟩,rfl,rfl,rfl,fun _=>rfl,fun _=>rfl,fun _=>rfl⟩ T1,p11,p14,p16,p27⟩
theorem own_tbF(hf1:Fx f1){S:MS}(h15:S 0 15=0)(h16:S 0 16=0){op:Int32}(h:(op=10∧S 31 0=0)∨op=5):∃S',f1 (32,0,[.ref 0,.int op],[],S)=some (some (.int 1),S')∧own_Tb S S'∧S' 0 11=2∧S' 0 14=S 0 14∧S' 0 15=1∧S' 0 16=0∧S' 30 0=op∧(∀i,S' 27 i=S 27 i)∧(∀i,S' 29 i=S 29 i):=by
 have tl:∀(T:MS) (p:Int32),T 0 15=0→own_Tb S T→T 0 14=S 0 14→T 0 16=0→(∀i,T 27 i=S 27 i)→(∀i,T 29 i=S 29 i)→∃S',f1 (32,59,[.ref 0,.int op],[.int p],T)=some (some (.int 1),S')∧own_Tb S S'∧S' 0 11=2∧S' 0 14=S 0 14∧S' 0 15=1∧S' 0 16=0∧S' 30 0=op∧(∀i,S' 27 i=S 27 i)∧(∀i,S' 29 i=S 29 i):=fun T p t15 TB t14 t16 t27 t29=>by
  rw[e1_32_59 hf1,e1_37_0 hf1,own_rw0 hf1 t15 p (by decide)];simp only[Option.bind_some,Option.toList_some,Option.toList_none,List.cons_append,List.nil_append,List.append_nil]
  rw[e1_32_65 hf1,e1_36_0 hf1,t15,if_neg (by decide),if_pos (by decide),if_pos (by decide)];simp only[Option.bind_some,Option.toList_some,Option.toList_none,List.cons_append,List.nil_append,List.append_nil]
  rw[e1_32_70 hf1,if_neg (by decide)]
  exact⟨_,rfl,own_Tbt TB ⟨⟨rfl,rfl,rfl,fun _=>rfl,fun _=>rfl,fun _=>rfl⟩,rfl,rfl,rfl,fun _=>rfl,fun _=>rfl,fun _=>rfl⟩,rfl,t14,rfl,t16,rfl,t27,t29⟩
 rw[e1_32_0 hf1]
 rcases h with⟨rfl,h31⟩ | rfl
 ·rw[if_pos rfl,e1_32_12 hf1,h16,if_neg (by decide),if_pos (by decide),if_pos (by decide),if_pos (show S 31 (0:Int32).toNatClampNeg=0 from h31),e1_35_0 hf1,if_pos rfl];simp only[Option.bind_some,Option.toList_some,Option.toList_none,List.cons_append,List.nil_append,List.append_nil]
  exact tl _ _ h15 ⟨⟨rfl,rfl,rfl,fun _=>rfl,fun _=>rfl,fun _=>rfl⟩,rfl,rfl,rfl,fun _=>rfl,fun _=>rfl,fun _=>rfl⟩ rfl h16 (fun _=>rfl) fun _=>rfl
 ·rw[if_neg (by decide),if_neg (by decide),e1_35_0 hf1,if_neg (by decide),if_neg (by decide),if_pos rfl];simp only[Option.bind_some,Option.toList_some,Option.toList_none,List.cons_append,List.nil_append,List.append_nil]
  exact tl _ _ h15 (own_Tbr S) rfl h16 (fun _=>rfl) fun _=>rfl
theorem own_fcF(hf1:Fx f1){S:MS}{cur:Nat}(hc:cur<32)(e12:S 0 12=Int32.ofNat cur)(h14:S 0 14=1)(k0:S 27 0=3):∃S',f1 (51,0,[.ref 0],[],S)=some (none,S')∧own_Tb S S':=by
 obtain⟨y,S1,e1,E⟩:=own_emF hf1 S 9 (S 28 0&&&7) (-2) (-2)
 rw[e1_51_0 hf1,e12,h14,if_neg (own_nneg (by omega)),if_pos (show Int32.ofNat cur<32 from (own_lt (a:=cur) (b:=32) (by omega) (by decide)).mpr hc),if_neg (by decide),if_neg (by rw[k0];decide),own_ma3 hf1 k0];simp only[Option.bind_some,Option.toList_some,Option.toList_none,List.cons_append,List.nil_append,List.append_nil]
 rw[e1_51_79 hf1,e1];simp only[Option.bind_some,Option.toList_some,Option.toList_none,List.cons_append,List.nil_append,List.append_nil]
 rw[e1_51_96 hf1,if_pos (own_inb (by omega) hc)]
 exact⟨_,rfl,own_Tbt (own_EmT E) ⟨⟨rfl,rfl,rfl,fun _=>rfl,fun _=>rfl,fun _=>rfl⟩,rfl,rfl,rfl,fun _=>rfl,fun _=>rfl,fun _=>rfl⟩⟩
theorem own_faF(hf1:Fx f1){S:MS}{cur:Nat}(hc:cur<32)(e12:S 0 12=Int32.ofNat cur)(h14:S 0 14=1)(k0:S 27 0=3):∃S',f1 (50,0,[.ref 0],[],S)=some (none,S')∧own_Tb S S':=by
 obtain⟨y,S1,e1,E⟩:=own_emF hf1 S 3 (S 4 (Int32.ofNat cur).toNatClampNeg) (S 28 0&&&7) 0
 obtain⟨z,S2,e2,E2⟩:=own_emF hf1 (Jvm.OM.upd (Jvm.OM.upd S1 13 (Int32.ofNat cur).toNatClampNeg 3) 14 (Int32.ofNat cur).toNatClampNeg (S 28 0&&&7)) 8 0 (-2) 0
 have ib:inb (Int32.ofNat cur) 32=true:=own_inb (by omega) hc
 rw[e1_50_0 hf1,e12,h14,if_neg (own_nneg (by omega)),if_pos (show Int32.ofNat cur<32 from (own_lt (a:=cur) (b:=32) (by omega) (by decide)).mpr hc),if_pos ib,if_neg (by decide),if_neg (by rw[k0];decide),e1_50_77 hf1,h14,if_neg (by decide),own_ma3 hf1 k0];simp only[Option.bind_some,Option.toList_some,Option.toList_none,List.cons_append,List.nil_append,List.append_nil]
 rw[e1_50_91 hf1,e1];simp only[Option.bind_some,Option.toList_some,Option.toList_none,List.cons_append,List.nil_append,List.append_nil]
 rw[e1_50_100 hf1,if_pos ib,e2];simp only[Option.bind_some,Option.toList_some,Option.toList_none,List.cons_append,List.nil_append,List.append_nil]
 rw[e1_50_130 hf1,if_pos ib]
 have M:own_Tb S1 (Jvm.OM.upd (Jvm.OM.upd S1 13 (Int32.ofNat cur).toNatClampNeg 3) 14 (Int32.ofNat cur).toNatClampNeg (S 28 0&&&7)):=⟨⟨rfl,rfl,rfl,fun _=>rfl,fun _=>rfl,fun _=>rfl⟩,rfl,rfl,rfl,fun _=>rfl,fun _=>rfl,fun _=>rfl⟩
 exact⟨_,rfl,own_Tbt (own_EmT E) (own_Tbt M (own_Tbt (own_EmT E2) ⟨⟨rfl,rfl,rfl,fun _=>rfl,fun _=>rfl,fun _=>rfl⟩,rfl,rfl,rfl,fun _=>rfl,fun _=>rfl,fun _=>rfl⟩))⟩
theorem own_nsF(hf1:Fx f1){S:MS}(W:own_Wt S){d:Nat}(hd:d<40)(e13:S 0 13=Int32.ofNat d)(x:Int32)(hx:(d=0∧¬x=2)∨(0<d∧S 26 d = -1)):f1 (26,0,[.ref 0,.int x],[],S)=some (some (.int (-1)),S)∨∃n S',n<32∧f1 (26,0,[.ref 0,.int x],[],S)=some (some (.int (Int32.ofNat n)),S')∧own_Fc S S'∧own_Wt S'∧S' 0 12=Int32.ofNat n∧S' 0 13=Int32.ofNat d∧S' 3 n=x∧(∀i,i≠4→i≠12→S' 0 i=S 0 i):=by
 have hd0:¬S 0 13<0:=by rw[e13];exact own_nneg (by omega)
 have hd1:S 0 13<40:=by rw[e13];exact (own_lt (a:=d) (b:=40) (by omega) (by decide)).mpr hd
 rw[e1_26_0 hf1,if_neg W.1]
 by_cases h32:S 0 4<32
 ·rw[if_pos h32,if_neg hd0,if_pos hd1]
  refine Or.inr ?_
  obtain⟨n,hn,en⟩:∃n,n<32∧S 0 4=Int32.ofNat n:=by
   have a:=W.1
   have l0:(0:Int32).toInt=0:=rfl
   have l32:(32:Int32).toInt=32:=rfl
   rw[Int32.lt_iff_toInt_lt] at a
   have b:=h32
   rw[Int32.lt_iff_toInt_lt] at b
   refine⟨(S 0 4).toInt.toNat,by omega,?_⟩
   apply Int32.toInt_inj.mp
   rw[own_toInt_ofNat (by omega)]
   omega
  have ib:inb (Int32.ofNat n) 32=true:=own_inb (by omega) hn
  have id':inb (Int32.ofNat d) 40=true:=own_inb (by omega) hd
  rw[en,own_add1,e1_26_51 hf1,if_pos ib,e1_26_86 hf1,if_pos ib,e1_26_125 hf1]
  rw[own_nat (by omega)]
  generalize hU:Jvm.OM.upd (Jvm.OM.upd (Jvm.OM.upd (Jvm.OM.upd (Jvm.OM.upd (Jvm.OM.upd (Jvm.OM.upd (Jvm.OM.upd (Jvm.OM.upd (Jvm.OM.upd (Jvm.OM.upd S 0 4 (Int32.ofNat (n+1))) 3 n x) 4 n 0) 8 n (-1)) 7 n (-1)) 12 n 0) 10 n (-1)) 11 n (-2)) 13 n 1) 14 n 0) 9 n _=U
  have u0:∀i,i≠4→U 0 i=S 0 i:=fun i hi=>by
   rw[←hU]
   rw[own_ne (by omega),own_ne (by omega),own_ne (by omega),own_ne (by omega),own_ne (by omega),own_ne (by omega),own_ne (by omega),own_ne (by omega),own_ne (by omega),own_ne (by omega),own_ne (by omega)]
  have u4:U 0 4=Int32.ofNat (n+1):=by rw[←hU];rfl
  have uc:∀c,c≠0→c≠3→c≠4→c≠7→c≠8→c≠9→c≠10→c≠11→c≠12→c≠13→c≠14→∀i,U c i=S c i:=fun c h0 h3 h4 h7 h8 h9 h10 h11 h12 h13 h14 i=>by
   rw[←hU]
   rw[own_ne (by omega),own_ne (by omega),own_ne (by omega),own_ne (by omega),own_ne (by omega),own_ne (by omega),own_ne (by omega),own_ne (by omega),own_ne (by omega),own_ne (by omega),own_ne (by omega)]
  have u3:U 3 n=x:=by
   rw[←hU]
   rw[own_ne (by omega),own_ne (by omega),own_ne (by omega),own_ne (by omega),own_ne (by omega),own_ne (by omega),own_ne (by omega),own_ne (by omega),own_ne (by omega),own_up,if_pos ⟨rfl,rfl⟩]
  have u3':∀i,i≠n→U 3 i=S 3 i:=fun i hi=>by
   rw[←hU]
   rw[own_ne (by omega),own_ne (by omega),own_ne (by omega),own_ne (by omega),own_ne (by omega),own_ne (by omega),own_ne (by omega),own_ne (by omega),own_ne (by omega),own_ne (fun z=>hi z.2),own_ne (by omega)]
  clear hU
  rw[u0 13 (by decide),e13,if_pos id',own_nat (by omega),uc 25 (by decide) (by decide) (by decide) (by decide) (by decide) (by decide) (by decide) (by decide) (by decide) (by decide) (by decide),uc 26 (by decide) (by decide) (by decide) (by decide) (by decide) (by decide) (by decide) (by decide) (by decide) (by decide) (by decide)]
  have tail:∀V:MS,(∀c,c≠5→c≠6→c≠7→c≠8→∀i,V c i=U c i)→V 6 n=S 26 d→(∀i,i≠n→V 6 i=S 6 i)→∀x3 x4:Int32,∃S',f1 (26,201,[.ref 0,.int x,.int (Int32.ofNat n),.int x3,.int x4],[],V)=some (some (.int (Int32.ofNat n)),S')∧own_Fc S S'∧own_Wt S'∧S' 0 12=Int32.ofNat n∧S' 0 13=Int32.ofNat d∧S' 3 n=x∧(∀i,i≠4→i≠12→S' 0 i=S 0 i):=fun V hV v6 v6' x3 x4=>by
   have v0:∀i,V 0 i=U 0 i:=hV 0 (by decide) (by decide) (by decide) (by decide)
   have v13:V 0 13=Int32.ofNat d:=by rw[v0,u0 13 (by decide),e13]
   refine⟨Jvm.OM.upd (Jvm.OM.upd V 26 d (Int32.ofNat n)) 0 12 (Int32.ofNat n),?_,⟨?_,?_,?_,fun i=>?_,fun i=>?_,fun i=>?_⟩,?_,rfl,v13,?_,fun i h4 h12=>?_⟩
   ·rw[e1_26_201 hf1,v13,if_pos id',own_nat (by omega)]
   ·show V 0 0=S 0 0
    rw[v0,u0 0 (by decide)]
   ·show V 0 1=S 0 1
    rw[v0,u0 1 (by decide)]
   ·show V 0 3=S 0 3
    rw[v0,u0 3 (by decide)]
   ·show V 1 i=S 1 i
    rw[hV 1 (by decide) (by decide) (by decide) (by decide),uc 1 (by decide) (by decide) (by decide) (by decide) (by decide) (by decide) (by decide) (by decide) (by decide) (by decide) (by decide)]
   ·show V 2 i=S 2 i
    rw[hV 2 (by decide) (by decide) (by decide) (by decide),uc 2 (by decide) (by decide) (by decide) (by decide) (by decide) (by decide) (by decide) (by decide) (by decide) (by decide) (by decide)]
   ·show V 15 i=S 15 i
    rw[hV 15 (by decide) (by decide) (by decide) (by decide),uc 15 (by decide) (by decide) (by decide) (by decide) (by decide) (by decide) (by decide) (by decide) (by decide) (by decide) (by decide)]
   ·-- the tables
    have k3:∀i,Jvm.OM.upd (Jvm.OM.upd V 26 d (Int32.ofNat n)) 0 12 (Int32.ofNat n) 3 i=U 3 i:=fun i=>hV 3 (by decide) (by decide) (by decide) (by decide) i
    have k4:Jvm.OM.upd (Jvm.OM.upd V 26 d (Int32.ofNat n)) 0 12 (Int32.ofNat n) 0 4=Int32.ofNat (n+1):=by
     show V 0 4=_
     rw[v0,u4]
    have gk:∀p,own_gk S p→own_gk (Jvm.OM.upd (Jvm.OM.upd V 26 d (Int32.ofNat n)) 0 12 (Int32.ofNat n)) p:=fun p hp=>by
     rcases hp with hp | ⟨a,b,c,e⟩
     ·exact Or.inl hp
     ·rw[en] at c
      have l:p.toNatClampNeg<n:=by
       have:=own_inb_iff.mp (own_inb_of (n:=n) a c (by omega))
       simp only[Int32.toNatClampNeg]
       omega
      refine Or.inr ⟨a,b,?_,?_⟩
      ·rw[k4]
       rw[Int32.lt_iff_toInt_lt,own_toInt_ofNat (by omega)] at c ⊢
       omega
      ·rw[k3,u3' _ (by omega)];exact e
    have gn:d=0→¬x=2→own_gk (Jvm.OM.upd (Jvm.OM.upd V 26 d (Int32.ofNat n)) 0 12 (Int32.ofNat n)) (Int32.ofNat n):=fun _ x2=>by
     refine Or.inr ⟨own_nneg (by omega),(own_lt (a:=n) (b:=32) (by omega) (by decide)).mpr hn,?_,?_⟩
     ·rw[k4];exact (own_lt (by omega) (by omega)).mpr (by omega)
     ·rw[k3,own_nat (by omega),u3];exact x2
    refine⟨by rw[k4];exact own_nneg (by omega),fun s hs hl=>?_,?_⟩
    ·rw[k4] at hl
     have hl':=(own_lt (by omega) (by omega)).mp hl
     have e6:Jvm.OM.upd (Jvm.OM.upd V 26 d (Int32.ofNat n)) 0 12 (Int32.ofNat n) 6 s=V 6 s:=rfl
     rw[e6]
     by_cases q:s=n
     ·rw[q,v6]
      rcases hx with⟨rfl,-⟩ | ⟨-,hx⟩
      ·exact gk _ W.2.2
      ·rw[hx];exact Or.inl (by decide)
     ·rw[v6' s q]
      exact gk _ (W.2.1 s hs (by rw[en];exact (own_lt (by omega) (by omega)).mpr (by omega)))
    ·have v26:∀i,V 26 i=S 26 i:=fun i=>by
      rw[hV 26 (by decide) (by decide) (by decide) (by decide),uc 26 (by decide) (by decide) (by decide) (by decide) (by decide) (by decide) (by decide) (by decide) (by decide) (by decide) (by decide)]
     have e26:Jvm.OM.upd (Jvm.OM.upd V 26 d (Int32.ofNat n)) 0 12 (Int32.ofNat n) 26 0=if 0=d then Int32.ofNat n else V 26 0:=by
      rw[own_ne (by omega),own_up]
      by_cases q:0=d
      ·rw[if_pos ⟨rfl,q⟩,if_pos q]
      ·rw[if_neg (fun z=>q z.2),if_neg q]
     rw[e26]
     rcases hx with⟨rfl,x2⟩ | ⟨d0,-⟩
     ·rw[if_pos rfl];exact gn rfl x2
     ·rw[if_neg (by omega),v26];exact gk _ W.2.2
   ·show V 3 n=x
    rw[hV 3 (by decide) (by decide) (by decide) (by decide),u3]
   ·rw[own_ne (by omega),own_ne (by omega),v0,u0 i h4]
  have t184:∀V:MS,(∀c,c≠5→c≠6→c≠7→c≠8→∀i,V c i=U c i)→V 6 n=S 26 d→(∀i,i≠n→V 6 i=S 6 i)→∀x3 x4:Int32,∃S',f1 (26,184,[.ref 0,.int x,.int (Int32.ofNat n),.int x3,.int x4],[],V)=some (some (.int (Int32.ofNat n)),S')∧own_Fc S S'∧own_Wt S'∧S' 0 12=Int32.ofNat n∧S' 0 13=Int32.ofNat d∧S' 3 n=x∧(∀i,i≠4→i≠12→S' 0 i=S 0 i):=fun V hV v6 v6' x3 x4=>by
   rw[e1_26_184 hf1]
   by_cases a:x3<0
   ·rw[if_pos a];exact tail V hV v6 v6' x3 x4
   ·rw[if_neg a]
    by_cases b:x3<32
    ·rw[if_pos b,if_pos (own_inb_of (n:=32) a b (by decide))]
     exact tail _ (fun c h5 h6 h7 h8 i=>by rw[own_ne (by omega)];exact hV c h5 h6 h7 h8 i) (by rw[own_ne (by omega)];exact v6) (fun i hi=>by rw[own_ne (by omega)];exact v6' i hi) x3 x4
    ·rw[if_neg b];exact tail V hV v6 v6' x3 x4
  have fin:∃S',f1 (26,146,[.ref 0,.int x,.int (Int32.ofNat n),.int (S 25 d),.int (S 26 d)],[],U)=some (some (.int (Int32.ofNat n)),S')∧own_Fc S S'∧own_Wt S'∧S' 0 12=Int32.ofNat n∧S' 0 13=Int32.ofNat d∧S' 3 n=x∧(∀i,i≠4→i≠12→S' 0 i=S 0 i):=by
   rw[e1_26_146 hf1,if_pos ib,own_nat (by omega)]
   have w0:∀c,c≠5→c≠6→c≠7→c≠8→∀i,Jvm.OM.upd (Jvm.OM.upd U 5 n (S 25 d)) 6 n (S 26 d) c i=U c i:=fun c h5 h6 h7 h8 i=>by rw[own_ne (by omega),own_ne (by omega)]
   have w6:Jvm.OM.upd (Jvm.OM.upd U 5 n (S 25 d)) 6 n (S 26 d) 6 n=S 26 d:=by rw[own_up,if_pos ⟨rfl,rfl⟩]
   have w6':∀i,i≠n→Jvm.OM.upd (Jvm.OM.upd U 5 n (S 25 d)) 6 n (S 26 d) 6 i=S 6 i:=fun i hi=>by rw[own_ne (fun z=>hi z.2),own_ne (by omega),uc 6 (by decide) (by decide) (by decide) (by decide) (by decide) (by decide) (by decide) (by decide) (by decide) (by decide) (by decide)]
   by_cases a:S 26 d<0
   ·rw[if_pos a];exact t184 _ w0 w6 w6' _ _
   ·rw[if_neg a]
    by_cases b:S 26 d<32
    ·rw[if_pos b,if_pos (own_inb_of (n:=32) a b (by decide))]
     exact tail _ (fun c h5 h6 h7 h8 i=>by rw[own_ne (by omega)];exact w0 c h5 h6 h7 h8 i) (by rw[own_ne (by omega)];exact w6) (fun i hi=>by rw[own_ne (by omega)];exact w6' i hi) _ _
    ·rw[if_neg b];exact t184 _ w0 w6 w6' _ _
  obtain⟨S',e,r⟩:=fin
  exact⟨n,S',hn,e,r⟩
 ·rw[if_neg h32];exact Or.inl rfl
end Ps
def own_Q(S:MS)(ps dp:Int32)(v:Bool)(et ot:Int32):Prop:=S 0 11=ps∧S 0 13=dp∧(∃cur,cur<32∧S 0 12=Int32.ofNat cur∧(v=true↔S 3 cur=2))∧S 0 14=et∧S 0 15=ot∧S 0 16=0∧S 29 0<0
def own_PP(r:Nat)(S:MS):Prop:=match r with
 |0=>S 0 11=0∧S 0 13=0
 |1=>own_Q S 2 0 false 0 0∧S 31 0=0
 |2=>own_Q S 3 0 false 1 0∧S 31 0=0∧S 27 0=2
 |3=>own_Q S 2 0 false 1 1∧S 27 0=2∧S 30 0=10
 |4=>own_Q S 3 0 false 2 1∧S 27 0=2∧S 27 1=1∧S 30 0=10
 |5=>S 0 11=0∧S 0 13=1∧S 26 1 = -1
 |6=>S 0 11=1∧S 0 13=1∧∃cur,cur<32∧S 0 12=Int32.ofNat cur∧S 3 cur=2
 |7=>own_Q S 2 1 true 0 0
 |8=>own_Q S 3 1 true 1 0∧S 27 0=2
 |9=>own_Q S 2 1 true 1 1∧S 27 0=2∧S 30 0=5
 |10=>own_Q S 3 1 true 2 1∧S 27 0=2∧S 27 1=1∧S 30 0=5∧¬S 28 1=0
 |_=>S 0 11=0∧S 0 13=1
def own_tk(r:Nat)(k a:Int32):Prop:=match r with
 |0=>k=16∨k=17
 |1=>k=2
 |2=>k=10
 |3=>k=1
 |4=>k=14
 |5=>k=2
 |6=>k=3
 |7=>k=2
 |8=>k=5
 |9=>k=1∧¬a=0
 |10=>k=4
 |_=>k=15
def own_FD(f1:FT1)(r:Nat)(S:MS)(k a:Int32):Prop:=(∃S',f1 (24,0,[.ref 0,.int k,.int a],[],S)=some (some (.int 0),S')∧own_Fc S S')∨∃S',f1 (24,0,[.ref 0,.int k,.int a],[],S)=some (some (.int 1),S')∧own_Fc S S'∧own_Wt S'∧own_PP r S'
section Pt
variable {f1:FT1}
theorem own_opF(hf1:Fx f1){S:MS}{e:Nat}(he:e<96)(h14:S 0 14=Int32.ofNat e){k:Int32}(hk:k=1∨k=2)(a:Int32):f1 (30,0,[.ref 0,.int k,.int a],[],S)=some (some (.int 1),Jvm.OM.upd (Jvm.OM.upd (Jvm.OM.upd (Jvm.OM.upd S 27 e k) 28 e a) 0 14 (Int32.ofNat (e+1))) 0 11 3):=by
 have pe:∀k:Int32,f1 (38,0,[.ref 0,.int k,.int a],[],S)=some (some (.int 1),Jvm.OM.upd (Jvm.OM.upd (Jvm.OM.upd S 27 e k) 28 e a) 0 14 (Int32.ofNat (e+1))):=fun k=>by
  rw[e1_38_0 hf1,h14,if_neg (own_nneg (by omega)),if_pos (show Int32.ofNat e<96 from (own_lt (a:=e) (b:=96) (by omega) (by decide)).mpr he),if_pos (own_inb (by omega) he),own_add1,own_nat (by omega)]
 rw[e1_30_0 hf1]
 rcases hk with rfl | rfl
 ·rw[if_pos rfl,e1_30_10 hf1,if_pos rfl,pe];simp only[Option.bind_some,Option.toList_some,Option.toList_none,List.cons_append,List.nil_append,List.append_nil]
  rw[e1_30_25 hf1,if_neg (by decide)]
 ·rw[if_neg (by decide),if_pos rfl,e1_30_10 hf1,if_neg (by decide),pe];simp only[Option.bind_some,Option.toList_some,Option.toList_none,List.cons_append,List.nil_append,List.append_nil]
  rw[e1_30_25 hf1,if_neg (by decide)]
theorem own_ssF(hf1:Fx f1){S:MS}(h11:S 0 11=0)(k a:Int32){y:Int32}{S':MS}(e:f1 (25,0,[.ref 0,.int k,.int a],[],S)=some (some (.int y),S')):f1 (24,0,[.ref 0,.int k,.int a],[],S)=some (some (.int (y&&&1)),S'):=by
 rw[e1_24_0 hf1,if_pos h11,e];simp only[Option.bind_some,Option.toList_some,Option.toList_none,List.cons_append,List.nil_append,List.append_nil]
 rw[e1_24_13 hf1]
theorem own_fd0(hf1:Fx f1){S:MS}(W:own_Wt S)(P:own_PP 0 S){k a:Int32}(T:own_tk 0 k a):own_FD f1 1 S k a:=by
 obtain⟨h11,h13⟩:=P
 have k15:¬k=15:=by rcases T with rfl | rfl<;>decide
 have k2:¬k=2:=by rcases T with rfl | rfl<;>decide
 have st:∀x,f1 (26,0,[.ref 0,.int k],[],S)=x→f1 (25,0,[.ref 0,.int k,.int a],[],S)=x.bind fun q=>f1 (25,51,[.ref 0,.int k,.int a],q.1.toList++[],q.2):=fun x hx=>by
  rw[e1_25_0 hf1,if_neg k15,if_neg k2,hx]
  rcases T with rfl | rfl
  ·rw[if_pos rfl]
  ·rw[if_neg (by decide),if_pos rfl]
 rcases own_nsF hf1 W (d:=0) (by decide) h13 k (Or.inl ⟨rfl,k2⟩) with e | ⟨n,S1,hn,e,F,W1,c12,c13,c3,c0⟩
 ·refine Or.inl ⟨S,?_,own_Fcr S⟩
  refine (own_ssF hf1 h11 k a (y:=0) ?_).trans rfl
  rw[st _ e];simp only[Option.bind_some,Option.toList_some,Option.toList_none,List.cons_append,List.nil_append,List.append_nil]
  rw[e1_25_51 hf1,if_pos (by decide)]
 ·obtain⟨S2,e2,r0,r14,r15,r16,r31,r29,rc⟩:=own_reF hf1 S1
  have TB:own_Tb S1 S2:=⟨⟨r0 0 (by decide) (by decide) (by decide),r0 1 (by decide) (by decide) (by decide),r0 3 (by decide) (by decide) (by decide),rc 1 (by decide) (by decide) (by decide),rc 2 (by decide) (by decide) (by decide),rc 15 (by decide) (by decide) (by decide)⟩,r0 4 (by decide) (by decide) (by decide),r0 12 (by decide) (by decide) (by decide),r0 13 (by decide) (by decide) (by decide),rc 3 (by decide) (by decide) (by decide),rc 6 (by decide) (by decide) (by decide),rc 26 (by decide) (by decide) (by decide)⟩
  have TB3:own_Tb S2 (Jvm.OM.upd S2 0 11 2):=⟨⟨rfl,rfl,rfl,fun _=>rfl,fun _=>rfl,fun _=>rfl⟩,rfl,rfl,rfl,fun _=>rfl,fun _=>rfl,fun _=>rfl⟩
  refine Or.inr ⟨Jvm.OM.upd S2 0 11 2,?_,own_Fct F (own_Tbt TB TB3).1,own_WtT (own_Tbt TB TB3) W1,⟨rfl,?_,⟨n,hn,?_,?_⟩,r14,r15,r16,?_⟩,r31⟩
  ·refine (own_ssF hf1 h11 k a (y:=1) ?_).trans rfl
   rw[st _ e];simp only[Option.bind_some,Option.toList_some,Option.toList_none,List.cons_append,List.nil_append,List.append_nil]
   rw[e1_25_51 hf1,if_neg (own_nneg (by omega)),if_neg k2,e2];simp only[Option.bind_some,Option.toList_some,Option.toList_none,List.cons_append,List.nil_append,List.append_nil]
   rw[e1_25_81 hf1]
  ·exact TB.2.2.2.1.trans c13
  ·exact TB.2.2.1.trans c12
  ·refine⟨fun z=>absurd z (by decide),fun z=>?_⟩
   have z':S2 3 n=2:=z
   rw[rc 3 (by decide) (by decide) (by decide),c3] at z'
   exact absurd z' k2
  ·show S2 29 0<0
   rw[r29];decide
theorem own_fdop(hf1:Fx f1){S:MS}{dp:Int32}{v:Bool}{e:Nat}{ot:Int32}(he:e<96)(h:own_Q S 2 dp v (Int32.ofNat e) ot){k:Int32}(hk:k=1∨k=2)(a:Int32):∃S',f1 (24,0,[.ref 0,.int k,.int a],[],S)=some (some (.int 1),S')∧own_Tb S S'∧own_Q S' 3 dp v (Int32.ofNat (e+1)) ot∧S' 27 e=k∧S' 28 e=a∧(∀i,i≠e→S' 27 i=S 27 i)∧(∀i,S' 30 i=S 30 i)∧∀i,S' 31 i=S 31 i:=by
 obtain⟨h11,h13,hc,h14,h15,h16,h29⟩:=h
 refine⟨Jvm.OM.upd (Jvm.OM.upd (Jvm.OM.upd (Jvm.OM.upd S 27 e k) 28 e a) 0 14 (Int32.ofNat (e+1))) 0 11 3,?_,⟨⟨rfl,rfl,rfl,fun _=>rfl,fun _=>rfl,fun _=>rfl⟩,rfl,rfl,rfl,fun _=>rfl,fun _=>rfl,fun _=>rfl⟩,⟨rfl,h13,hc,rfl,h15,h16,h29⟩,?_,?_,fun i hi=>?_,fun _=>rfl,fun _=>rfl⟩
 ·rw[e1_24_0 hf1,if_neg (by rw[h11];decide),if_neg (by rw[h11];decide),if_pos h11,own_opF hf1 he h14 hk a];simp only[Option.bind_some,Option.toList_some,Option.toList_none,List.cons_append,List.nil_append,List.append_nil]
  rw[e1_24_54 hf1]
  rfl
 ·rw[own_ne (by omega),own_ne (by omega),own_ne (by omega),own_up,if_pos ⟨rfl,rfl⟩]
 ·rw[own_ne (by omega),own_ne (by omega),own_up,if_pos ⟨rfl,rfl⟩]
 ·rw[own_ne (by omega),own_ne (by omega),own_ne (by omega),own_ne (fun z=>hi z.2)]
theorem own_fdbi(hf1:Fx f1){S:MS}{dp:Int32}{v:Bool}{et:Int32}(h:own_Q S 3 dp v et 0){op:Int32}(ho:(op=10∧S 31 0=0)∨op=5)(a:Int32):∃S',f1 (24,0,[.ref 0,.int op,.int a],[],S)=some (some (.int 1),S')∧own_Tb S S'∧own_Q S' 2 dp v et 1∧S' 30 0=op∧∀i,S' 27 i=S 27 i:=by
 obtain⟨h11,h13,⟨cur,hc,ec,ev⟩,h14,h15,h16,h29⟩:=h
 obtain⟨S',e,TB,p11,p14,p15,p16,p30,p27,p29⟩:=own_tbF hf1 h15 h16 ho
 have ib:f1 (34,0,[.ref 0,.int op],[],S)=some (some (.int 1),S):=by
  rw[e1_34_0 hf1]
  rcases ho with⟨rfl,-⟩ | rfl
  ·rw[if_neg (by decide),if_neg (by decide)]
  ·rw[if_neg (by decide),if_neg (by decide)]
 refine⟨S',?_,TB,⟨p11,TB.2.2.2.1.trans h13,⟨cur,hc,TB.2.2.1.trans ec,?_⟩,p14.trans h14,p15,p16,?_⟩,p30,p27⟩
 ·rw[e1_24_0 hf1,if_neg (by rw[h11];decide),if_neg (by rw[h11];decide),if_neg (by rw[h11];decide),e1_31_0 hf1,ib];simp only[Option.bind_some,Option.toList_some,Option.toList_none,List.cons_append,List.nil_append,List.append_nil]
  rw[e1_31_5 hf1,if_neg (by decide),e];simp only[Option.bind_some,Option.toList_some,Option.toList_none,List.cons_append,List.nil_append,List.append_nil]
  rw[e1_31_13 hf1];simp only[Option.bind_some,Option.toList_some,Option.toList_none,List.cons_append,List.nil_append,List.append_nil]
  rw[e1_24_60 hf1]
  rfl
 ·rw[TB.2.2.2.2.1];exact ev
 ·rw[p29];exact h29
theorem own_ciF(hf1:Fx f1){S:MS}{cur:Nat}(hc:cur<32)(ec:S 0 12=Int32.ofNat cur):f1 (28,0,[.ref 0],[],S)=some (some (.int (if S 3 cur=2 then 1 else 0)),S):=by
 rw[e1_28_0 hf1,ec,if_neg (own_nneg (by omega)),if_pos (show Int32.ofNat cur<32 from (own_lt (a:=cur) (b:=32) (by omega) (by decide)).mpr hc),if_pos (own_inb (by omega) hc),own_nat (by omega)]
 by_cases q:S 3 cur=2
 ·rw[if_pos q,if_pos q]
 ·rw[if_neg q,if_neg q]
theorem own_fd4(hf1:Fx f1){S:MS}(W:own_Wt S)(h0:0<S 0 0)(P:own_PP 4 S)(a:Int32):own_FD f1 5 S 14 a:=by
 obtain⟨⟨h11,h13,⟨cur,hc,ec,ev⟩,h14,h15,h16,h29⟩,k0,k1,o0⟩:=P
 have nv:¬S 3 cur=2:=fun z=>absurd (ev.mpr z) (by decide)
 obtain⟨S1,e1,T1,p11,p14,p16,p27⟩:=own_rw1 hf1 h0 h14 h15 k0 k1 h29 (Or.inl o0)
 obtain⟨S2,e2,T2⟩:=own_fcF hf1 hc (T1.2.2.1.trans ec) p14 p27
 have T12:=own_Tbt T1 T2
 have d13:S2 0 13=0:=T12.2.2.2.1.trans h13
 have ci:=own_ciF hf1 hc ec
 rw[if_neg nv] at ci
 have W2:=own_WtT T12 W
 have F12:=T12.1
 refine Or.inr ⟨Jvm.OM.upd (Jvm.OM.upd (Jvm.OM.upd (Jvm.OM.upd S2 0 13 1) 25 1 (S2 0 12)) 26 1 (-1)) 0 11 0,?_,own_Fct F12 ⟨rfl,rfl,rfl,fun _=>rfl,fun _=>rfl,fun _=>rfl⟩,⟨W2.1,W2.2.1,W2.2.2⟩,rfl,rfl,rfl⟩
 rw[e1_24_0 hf1,if_neg (by rw[h11];decide),if_neg (by rw[h11];decide),if_neg (by rw[h11];decide),e1_31_0 hf1,e1_34_0 hf1,if_neg (by decide),if_pos (by decide)];simp only[Option.bind_some,Option.toList_some,Option.toList_none,List.cons_append,List.nil_append,List.append_nil]
 rw[e1_31_5 hf1,if_pos rfl,if_neg (by decide),if_pos h16,ci];simp only[Option.bind_some,Option.toList_some,Option.toList_none,List.cons_append,List.nil_append,List.append_nil]
 rw[e1_31_38 hf1,if_pos rfl,e1_31_64 hf1,if_pos rfl,if_pos rfl,e1];simp only[Option.bind_some,Option.toList_some,Option.toList_none,List.cons_append,List.nil_append,List.append_nil]
 rw[e1_31_79 hf1,e2];simp only[Option.bind_some,Option.toList_some,Option.toList_none,List.cons_append,List.nil_append,List.append_nil]
 rw[e1_31_83 hf1,e1_27_0 hf1,d13,if_neg (by decide),if_pos (by decide),if_pos (by decide)];simp only[Option.bind_some,Option.toList_some,Option.toList_none,List.cons_append,List.nil_append,List.append_nil]
 rw[e1_31_87 hf1];simp only[Option.bind_some,Option.toList_some,Option.toList_none,List.cons_append,List.nil_append,List.append_nil]
 rw[e1_24_60 hf1]
 rfl
theorem own_fd5(hf1:Fx f1){S:MS}(W:own_Wt S)(P:own_PP 5 S)(a:Int32):own_FD f1 6 S 2 a:=by
 obtain⟨h11,h13,h26⟩:=P
 have st:∀x,f1 (26,0,[.ref 0,.int 2],[],S)=x→f1 (25,0,[.ref 0,.int 2,.int a],[],S)=x.bind fun q=>f1 (25,51,[.ref 0,.int 2,.int a],q.1.toList++[],q.2):=fun x hx=>by
  rw[e1_25_0 hf1,if_neg (by decide),if_pos rfl,hx]
 rcases own_nsF hf1 W (d:=1) (by decide) h13 2 (Or.inr ⟨by decide,h26⟩) with e | ⟨n,S1,hn,e,F,W1,c12,c13,c3,c0⟩
 ·refine Or.inl ⟨S,?_,own_Fcr S⟩
  refine (own_ssF hf1 h11 2 a (y:=0) ?_).trans rfl
  rw[st _ e];simp only[Option.bind_some,Option.toList_some,Option.toList_none,List.cons_append,List.nil_append,List.append_nil]
  rw[e1_25_51 hf1,if_pos (by decide)]
 ·have TB:own_Tb S1 (Jvm.OM.upd (Jvm.OM.upd S1 4 n a) 0 11 1):=⟨⟨rfl,rfl,rfl,fun _=>rfl,fun _=>rfl,fun _=>rfl⟩,rfl,rfl,rfl,fun _=>rfl,fun _=>rfl,fun _=>rfl⟩
  refine Or.inr ⟨Jvm.OM.upd (Jvm.OM.upd S1 4 n a) 0 11 1,?_,own_Fct F TB.1,own_WtT TB W1,rfl,c13,n,hn,c12,c3⟩
  refine (own_ssF hf1 h11 2 a (y:=1) ?_).trans rfl
  rw[st _ e];simp only[Option.bind_some,Option.toList_some,Option.toList_none,List.cons_append,List.nil_append,List.append_nil]
  rw[e1_25_51 hf1,if_neg (own_nneg (by omega)),if_pos rfl,if_pos (own_inb (by omega) hn),own_nat (by omega)]
theorem own_fd6(hf1:Fx f1){S:MS}(W:own_Wt S)(P:own_PP 6 S)(a:Int32):own_FD f1 7 S 3 a:=by
 obtain⟨h11,h13,cur,hc,ec,ev⟩:=P
 obtain⟨S2,e2,r0,r14,r15,r16,r31,r29,rc⟩:=own_reF hf1 S
 have TB:own_Tb S S2:=⟨⟨r0 0 (by decide) (by decide) (by decide),r0 1 (by decide) (by decide) (by decide),r0 3 (by decide) (by decide) (by decide),rc 1 (by decide) (by decide) (by decide),rc 2 (by decide) (by decide) (by decide),rc 15 (by decide) (by decide) (by decide)⟩,r0 4 (by decide) (by decide) (by decide),r0 12 (by decide) (by decide) (by decide),r0 13 (by decide) (by decide) (by decide),rc 3 (by decide) (by decide) (by decide),rc 6 (by decide) (by decide) (by decide),rc 26 (by decide) (by decide) (by decide)⟩
 have TB3:own_Tb S2 (Jvm.OM.upd S2 0 11 2):=⟨⟨rfl,rfl,rfl,fun _=>rfl,fun _=>rfl,fun _=>rfl⟩,rfl,rfl,rfl,fun _=>rfl,fun _=>rfl,fun _=>rfl⟩
 refine Or.inr ⟨Jvm.OM.upd S2 0 11 2,?_,(own_Tbt TB TB3).1,own_WtT (own_Tbt TB TB3) W,rfl,TB.2.2.2.1.trans h13,⟨cur,hc,TB.2.2.1.trans ec,fun _=>(TB.2.2.2.2.1 cur).trans ev,fun _=>rfl⟩,r14,r15,r16,?_⟩
 ·rw[e1_24_0 hf1,if_neg (by rw[h11];decide),if_pos h11,if_pos rfl,e2];simp only[Option.bind_some,Option.toList_some,Option.toList_none,List.cons_append,List.nil_append,List.append_nil]
  rw[e1_24_33 hf1]
 ·show S2 29 0<0
  rw[r29];decide
theorem own_fd10(hf1:Fx f1){S:MS}(W:own_Wt S)(h0:0<S 0 0)(P:own_PP 10 S)(a:Int32):own_FD f1 11 S 4 a:=by
 obtain⟨⟨h11,h13,⟨cur,hc,ec,ev⟩,h14,h15,h16,h29⟩,k0,k1,o0,n1⟩:=P
 have yv:S 3 cur=2:=ev.mp rfl
 obtain⟨S1,e1,T1,p11,p14,p16,p27⟩:=own_rw1 hf1 h0 h14 h15 k0 k1 h29 (Or.inr ⟨o0,n1⟩)
 obtain⟨S2,e2,T2⟩:=own_faF hf1 hc (T1.2.2.1.trans ec) p14 p27
 have T12:=own_Tbt T1 T2
 have TB3:own_Tb S2 (Jvm.OM.upd S2 0 11 0):=⟨⟨rfl,rfl,rfl,fun _=>rfl,fun _=>rfl,fun _=>rfl⟩,rfl,rfl,rfl,fun _=>rfl,fun _=>rfl,fun _=>rfl⟩
 have ci:=own_ciF hf1 hc ec
 rw[if_pos yv] at ci
 refine Or.inr ⟨Jvm.OM.upd S2 0 11 0,?_,(own_Tbt T12 TB3).1,own_WtT (own_Tbt T12 TB3) W,rfl,T12.2.2.2.1.trans h13⟩
 rw[e1_24_0 hf1,if_neg (by rw[h11];decide),if_neg (by rw[h11];decide),if_neg (by rw[h11];decide),e1_31_0 hf1,e1_34_0 hf1,if_pos (by decide)];simp only[Option.bind_some,Option.toList_some,Option.toList_none,List.cons_append,List.nil_append,List.append_nil]
 rw[e1_31_5 hf1,if_pos rfl,if_neg (by decide),if_pos h16,ci];simp only[Option.bind_some,Option.toList_some,Option.toList_none,List.cons_append,List.nil_append,List.append_nil]
 rw[e1_31_38 hf1,if_neg (by decide),if_pos rfl,e1];simp only[Option.bind_some,Option.toList_some,Option.toList_none,List.cons_append,List.nil_append,List.append_nil]
 rw[e1_31_53 hf1,e2];simp only[Option.bind_some,Option.toList_some,Option.toList_none,List.cons_append,List.nil_append,List.append_nil]
 rw[e1_31_57 hf1];simp only[Option.bind_some,Option.toList_some,Option.toList_none,List.cons_append,List.nil_append,List.append_nil]
 rw[e1_24_60 hf1]
 rfl
theorem own_fd11(hf1:Fx f1){S:MS}(W:own_Wt S)(P:own_PP 11 S)(a:Int32):own_FD f1 0 S 15 a:=by
 obtain⟨h11,h13⟩:=P
 refine Or.inr ⟨Jvm.OM.upd S 0 13 0,?_,⟨rfl,rfl,rfl,fun _=>rfl,fun _=>rfl,fun _=>rfl⟩,⟨W.1,W.2.1,W.2.2⟩,h11,rfl⟩
 refine (own_ssF hf1 h11 15 a (y:=1) ?_).trans rfl
 rw[e1_25_0 hf1,if_pos rfl,h13,if_pos (by decide)]
 rfl
theorem own_fd(hf1:Fx f1){S:MS}(W:own_Wt S)(h0:0<S 0 0){r:Nat}(hr:r<12)(P:own_PP r S){k a:Int32}(T:own_tk r k a):own_FD f1 ((r+1)%12) S k a:=by
 match r,hr with
 |0,_=>exact own_fd0 hf1 W P T
 |1,_=>
  have T':k=2:=T
  subst T'
  obtain⟨S',e,TB,Q,k0,-,-,-,k31⟩:=own_fdop hf1 (e:=0) (by decide) P.1 (Or.inr rfl) a
  exact Or.inr ⟨S',e,TB.1,own_WtT TB W,Q,(k31 0).trans P.2,k0⟩
 |2,_=>
  have T':k=10:=T
  subst T'
  obtain⟨S',e,TB,Q,k0,k27⟩:=own_fdbi hf1 P.1 (Or.inl ⟨rfl,P.2.1⟩) a
  exact Or.inr ⟨S',e,TB.1,own_WtT TB W,Q,(k27 0).trans P.2.2,k0⟩
 |3,_=>
  have T':k=1:=T
  subst T'
  obtain⟨S',e,TB,Q,k0,-,k27,k30,-⟩:=own_fdop hf1 (e:=1) (by decide) P.1 (Or.inl rfl) a
  exact Or.inr ⟨S',e,TB.1,own_WtT TB W,Q,(k27 0 (by decide)).trans P.2.1,k0,(k30 0).trans P.2.2⟩
 |4,_=>
  have T':k=14:=T
  subst T'
  exact own_fd4 hf1 W h0 P a
 |5,_=>
  have T':k=2:=T
  subst T'
  exact own_fd5 hf1 W P a
 |6,_=>
  have T':k=3:=T
  subst T'
  exact own_fd6 hf1 W P a
 |7,_=>
  have T':k=2:=T
  subst T'
  obtain⟨S',e,TB,Q,k0,-,-,-,k31⟩:=own_fdop hf1 (e:=0) (by decide) P (Or.inr rfl) a
  exact Or.inr ⟨S',e,TB.1,own_WtT TB W,Q,k0⟩
 |8,_=>
  have T':k=5:=T
  subst T'
  obtain⟨S',e,TB,Q,k0,k27⟩:=own_fdbi hf1 P.1 (Or.inr rfl) a
  exact Or.inr ⟨S',e,TB.1,own_WtT TB W,Q,(k27 0).trans P.2,k0⟩
 |9,_=>
  obtain⟨T',na⟩:=T
  subst T'
  obtain⟨S',e,TB,Q,k0,k28,k27,k30,-⟩:=own_fdop hf1 (e:=1) (by decide) P.1 (Or.inl rfl) a
  exact Or.inr ⟨S',e,TB.1,own_WtT TB W,Q,(k27 0 (by decide)).trans P.2.1,k0,(k30 0).trans P.2.2,by rw[k28];exact na⟩
 |10,_=>
  have T':k=4:=T
  subst T'
  exact own_fd10 hf1 W h0 P a
 |11,_=>
  have T':k=15:=T
  subst T'
  exact own_fd11 hf1 W P a
 |n+12,h=>exact absurd h (by omega)
theorem own_pal(hf1:Fx f1){c:Nat}(hc:c≤96):∀(f i:Nat),i+f=96→i≤c→∀S:MS,S 0 3=Int32.ofNat c→(∀j,j<c→own_tk (j%12) (S 1 j) (S 2 j))→own_Wt S→0<S 0 0→own_PP (i%12) S→∃y S',f1 (22,6,[.ref 0,.int (Int32.ofNat i)],[],S)=some (some (.int y),S')∧own_Fc S S'∧(¬y<0∨own_Wt S'):=by
 have ex:∀(x:Int32) (S:MS),S 0 3=Int32.ofNat c→own_Wt S→∃y S',f1 (22,47,[.ref 0,.int x],[],S)=some (some (.int y),S')∧own_Fc S S'∧(¬y<0∨own_Wt S'):=fun x S h3 W=>by
  rw[e1_22_47 hf1,h3]
  by_cases a:S 0 11=0
  ·rw[if_pos a]
   by_cases b:S 0 13=0
   ·rw[if_pos b];exact⟨_,S,rfl,own_Fcr S,Or.inr W⟩
   ·rw[if_neg b];exact⟨_,S,rfl,own_Fcr S,Or.inr W⟩
  ·rw[if_neg a];exact⟨_,S,rfl,own_Fcr S,Or.inr W⟩
 intro f
 induction f with
 |zero=>
  intro i h hi S h3 hT W h0 P
  have:i=96:=by omega
  subst this
  have:c=96:=by omega
  subst this
  rw[e1_22_6 hf1,h3,if_neg (by decide)]
  exact ex _ S h3 W
 |succ f ih=>
  intro i h hi S h3 hT W h0 P
  rw[e1_22_6 hf1,h3]
  by_cases q:i<c
  ·rw[if_pos ((own_lt (by omega) (by omega)).mpr q),if_pos (show Int32.ofNat i<96 from (own_lt (a:=i) (b:=96) (by omega) (by decide)).mpr (by omega)),if_pos (own_inb (by omega) (by omega)),own_nat (by omega)]
   rcases own_fd hf1 W h0 (r:=i%12) (Nat.mod_lt _ (by decide)) P (hT i q) with⟨S1,e,F⟩ | ⟨S1,e,F,W1,P1⟩
   ·rw[e];simp only[Option.bind_some,Option.toList_some,Option.toList_none,List.cons_append,List.nil_append,List.append_nil]
    rw[e1_22_36 hf1,if_pos rfl]
    exact⟨_,S1,rfl,F,Or.inl (own_nneg (by omega))⟩
   ·rw[e];simp only[Option.bind_some,Option.toList_some,Option.toList_none,List.cons_append,List.nil_append,List.append_nil]
    rw[e1_22_36 hf1,if_neg (by decide),own_add1]
    have em:(i%12+1)%12=(i+1)%12:=by omega
    rw[em] at P1
    obtain⟨F0,F1,F3,Fa,Fb,Fz⟩:=F
    obtain⟨y,S2,e2,F2,r⟩:=ih (i+1) (by omega) (by omega) S1 (F3.trans h3) (fun j hj=>by rw[Fa,Fb];exact hT j hj) W1 (by rw[F0];exact h0) P1
    exact⟨y,S2,e2,own_Fct ⟨F0,F1,F3,Fa,Fb,Fz⟩ F2,r⟩
  ·rw[if_neg (fun z=>q ((own_lt (by omega) (by omega)).mp z))]
   exact ex _ S h3 W
theorem own_paF(hf1:Fx f1){S:MS}{c:Nat}(hc:c≤96)(h3:S 0 3=Int32.ofNat c)(hT:∀j,j<c→own_tk (j%12) (S 1 j) (S 2 j))(h0:0<S 0 0):∃y S',f1 (22,0,[.ref 0],[],S)=some (some (.int y),S')∧own_Fc S S'∧(¬y<0∨own_Wt S'):=by
 rw[e1_22_0 hf1,e1_23_0 hf1]
 have B:own_Fc S (Jvm.OM.upd (Jvm.OM.upd (Jvm.OM.upd (Jvm.OM.upd (Jvm.OM.upd (Jvm.OM.upd (Jvm.OM.upd (Jvm.OM.upd S 0 4 0) 0 6 0) 0 5 (-1)) 0 13 0) 25 0 (-1)) 26 0 (-1)) 0 11 0) 0 12 (-1)):=⟨rfl,rfl,rfl,fun _=>rfl,fun _=>rfl,fun _=>rfl⟩
 have W:own_Wt (Jvm.OM.upd (Jvm.OM.upd (Jvm.OM.upd (Jvm.OM.upd (Jvm.OM.upd (Jvm.OM.upd (Jvm.OM.upd (Jvm.OM.upd S 0 4 0) 0 6 0) 0 5 (-1)) 0 13 0) 25 0 (-1)) 26 0 (-1)) 0 11 0) 0 12 (-1)):=by
  refine⟨by show ¬(0:Int32)<0;decide,fun s hs hl=>?_,Or.inl (by show (-1:Int32)<0;decide)⟩
  have hl':Int32.ofNat s<0:=hl
  exact absurd hl' (own_nneg (by omega))
 have p11:(Jvm.OM.upd (Jvm.OM.upd (Jvm.OM.upd (Jvm.OM.upd (Jvm.OM.upd (Jvm.OM.upd (Jvm.OM.upd (Jvm.OM.upd S 0 4 0) 0 6 0) 0 5 (-1)) 0 13 0) 25 0 (-1)) 26 0 (-1)) 0 11 0) 0 12 (-1)) 0 11=0:=rfl
 have p13:(Jvm.OM.upd (Jvm.OM.upd (Jvm.OM.upd (Jvm.OM.upd (Jvm.OM.upd (Jvm.OM.upd (Jvm.OM.upd (Jvm.OM.upd S 0 4 0) 0 6 0) 0 5 (-1)) 0 13 0) 25 0 (-1)) 26 0 (-1)) 0 11 0) 0 12 (-1)) 0 13=0:=rfl
 generalize (Jvm.OM.upd (Jvm.OM.upd (Jvm.OM.upd (Jvm.OM.upd (Jvm.OM.upd (Jvm.OM.upd (Jvm.OM.upd (Jvm.OM.upd S 0 4 0) 0 6 0) 0 5 (-1)) 0 13 0) 25 0 (-1)) 26 0 (-1)) 0 11 0) 0 12 (-1))=U at B W p11 p13
 obtain⟨S2,e2,r0,r14,r15,r16,r31,r29,rc⟩:=own_reF hf1 U
 have TB:own_Tb U S2:=⟨⟨r0 0 (by decide) (by decide) (by decide),r0 1 (by decide) (by decide) (by decide),r0 3 (by decide) (by decide) (by decide),rc 1 (by decide) (by decide) (by decide),rc 2 (by decide) (by decide) (by decide),rc 15 (by decide) (by decide) (by decide)⟩,r0 4 (by decide) (by decide) (by decide),r0 12 (by decide) (by decide) (by decide),r0 13 (by decide) (by decide) (by decide),rc 3 (by decide) (by decide) (by decide),rc 6 (by decide) (by decide) (by decide),rc 26 (by decide) (by decide) (by decide)⟩
 rw[e2];simp only[Option.bind_some,Option.toList_some,Option.toList_none,List.cons_append,List.nil_append,List.append_nil]
 rw[e1_23_48 hf1];simp only[Option.bind_some,Option.toList_some,Option.toList_none,List.cons_append,List.nil_append,List.append_nil]
 rw[e1_22_4 hf1]
 have F:=own_Fct B TB.1
 obtain⟨F0,F1,F3,Fa,Fb,Fz⟩:=F
 obtain⟨y,S',e,F',r⟩:=own_pal hf1 hc 96 0 rfl (by omega) S2 (F3.trans h3) (fun j hj=>by rw[Fa,Fb];exact hT j hj) (own_WtT TB W) (by rw[F0];exact h0) ⟨(r0 11 (by decide) (by decide) (by decide)).trans p11,(r0 13 (by decide) (by decide) (by decide)).trans p13⟩
 exact⟨y,S',e,own_Fct ⟨F0,F1,F3,Fa,Fb,Fz⟩ F',r⟩
end Pt
def own_Z(S:MS):Prop:=∀i,i<40→S 15 i=0
def own_Lk(S S':MS):Prop:=(∀i,S' 0 i=S 0 i)∧∀c,c≠0→c≠11→c≠12→c≠17→c≠18→c≠21→c≠22→∀i,S' c i=S c i
theorem own_Lkr(S:MS):own_Lk S S:=⟨fun _=>rfl,fun _ _ _ _ _ _ _ _ _=>rfl⟩
theorem own_Lkt{S S' S'':MS}(h:own_Lk S S')(h':own_Lk S' S''):own_Lk S S'':=⟨fun i=>(h'.1 i).trans (h.1 i),fun c a b d e f g k i=>(h'.2 c a b d e f g k i).trans (h.2 c a b d e f g k i)⟩
theorem own_Lku{S T:MS}(h:own_Lk S T){c i:Nat}{v:Int32}(hc:c=11∨c=12∨c=17∨c=18∨c=21∨c=22):own_Lk S (Jvm.OM.upd T c i v):=own_Lkt h ⟨fun j=>own_ne (by omega),fun c' _ _ _ _ _ _ _ j=>own_ne (by omega)⟩
theorem own_sh0:∀v:Fin 8,((0:Int32)>>>(Int32.ofNat v.val&&&31))&&&1=0:=by decide +kernel
section Lk
variable {f1:FT1}
theorem own_sul(hf1:Fx f1)(S:MS)(x1:Int32):∀(f g:Nat),g+f=33→∀x2:Int32,∃y,f1 (54,4,[.ref 0,.int x1,.int x2,.int (Int32.ofNat g)],[],S)=some (some (.int y),S)
 |0,g,h,x2=>by
  have:g=33:=by omega
  subst this
  rw[e1_54_4 hf1,if_pos (by decide)]
  exact⟨_,rfl⟩
 |f+1,g,h,x2=>by
  rw[e1_54_4 hf1,if_neg (show ¬32<Int32.ofNat g from fun z=>by have:=(own_lt (a:=32) (b:=g) (by decide) (by omega)).mp z;omega),own_add1]
  by_cases a:x2<0
  ·rw[if_pos a];exact⟨_,rfl⟩
  rw[if_neg a]
  by_cases b:x2<S 0 4
  ·rw[if_pos b]
   by_cases c:x2<32
   ·rw[if_pos c,if_pos (own_inb_of (n:=32) a c (by decide))]
    by_cases d:S 7 x2.toNatClampNeg<0
    ·rw[if_pos d]
     by_cases e:S 5 x2.toNatClampNeg<0
     ·rw[if_pos e];exact⟨_,rfl⟩
     ·rw[if_neg e]
      by_cases k:S 5 x2.toNatClampNeg<32
      ·rw[if_pos k,if_pos (own_inb_of (n:=32) e k (by decide))]
       by_cases w:S 3 (S 5 x2.toNatClampNeg).toNatClampNeg=16
       ·rw[if_pos w];exact⟨_,rfl⟩
       ·rw[if_neg w];exact own_sul hf1 S x1 f (g+1) (by omega) _
      ·rw[if_neg k];exact⟨_,rfl⟩
    ·rw[if_neg d];exact⟨_,rfl⟩
   ·rw[if_neg c];exact⟨_,rfl⟩
  ·rw[if_neg b];exact⟨_,rfl⟩
theorem own_suF(hf1:Fx f1)(S:MS)(x:Int32):∃y,f1 (54,0,[.ref 0,.int x],[],S)=some (some (.int y),S):=by
 rw[e1_54_0 hf1]
 exact own_sul hf1 S x 33 0 rfl x
theorem own_ptF(hf1:Fx f1)(S:MS){s:Nat}(hs:s<32):∃S',f1 (55,0,[.ref 0,.int (Int32.ofNat s)],[],S)=some (none,S')∧own_Lk S S':=by
 rw[e1_55_0 hf1,if_pos (own_inb (by omega) hs)]
 by_cases a:S 10 (Int32.ofNat s).toNatClampNeg<0
 ·rw[if_pos a];exact⟨S,rfl,own_Lkr S⟩
 rw[if_neg a]
 by_cases b:S 10 (Int32.ofNat s).toNatClampNeg<S 0 6
 ·rw[if_pos b]
  by_cases c:S 10 (Int32.ofNat s).toNatClampNeg<1024
  ·rw[if_pos c]
   have ib:=own_inb_of (n:=1024) a c (by decide)
   have f85:∀x3 x4:Int32,∃S',f1 (55,85,[.ref 0,.int (Int32.ofNat s),.int (S 10 (Int32.ofNat s).toNatClampNeg),.int x3,.int x4],[],S)=some (none,S')∧own_Lk S S':=fun x3 x4=>by
    rw[e1_55_85 hf1,if_pos ib]
    exact⟨_,rfl,own_Lku (own_Lku (own_Lkr S) (by omega)) (by omega)⟩
   by_cases d:S 3 (Int32.ofNat s).toNatClampNeg=2
   ·rw[if_pos d,if_pos ib]
    exact⟨_,rfl,own_Lku (own_Lkr S) (by omega)⟩
   ·rw[if_neg d]
    by_cases e:S 8 (Int32.ofNat s).toNatClampNeg<0
    ·rw[if_pos e]
     by_cases g:S 3 (Int32.ofNat s).toNatClampNeg=16
     ·rw[if_pos g];exact f85 _ _
     ·rw[if_neg g];exact f85 _ _
    ·rw[if_neg e];exact f85 _ _
  ·rw[if_neg c];exact⟨S,rfl,own_Lkr S⟩
 ·rw[if_neg b];exact⟨S,rfl,own_Lkr S⟩
theorem own_bo(hf1:Fx f1)(S:MS)(x:Int32):∃y,f1 (56,0,[.ref 0,.int x],[],S)=some (some (.int y),S)∧(own_gk S x→y=0):=by
 rw[e1_56_0 hf1]
 by_cases a:x<0
 ·rw[if_pos a];exact⟨_,rfl,fun _=>rfl⟩
 rw[if_neg a]
 by_cases b:x<32
 ·rw[if_pos b,if_pos (own_inb_of (n:=32) a b (by decide))]
  by_cases c:S 3 x.toNatClampNeg=2
  ·rw[if_pos c]
   refine⟨_,rfl,fun g=>?_⟩
   rcases g with g | ⟨-,-,-,g⟩
   ·exact absurd g a
   ·exact absurd c g
  ·rw[if_neg c];exact⟨_,rfl,fun _=>rfl⟩
 ·rw[if_neg b];exact⟨_,rfl,fun _=>rfl⟩
theorem own_l1(hf1:Fx f1):∀(f s:Nat),s+f=32→∀S:MS,∃S',f1 (53,12,[.ref 0,.int (Int32.ofNat s)],[],S)=f1 (53,45,[.ref 0,.int 0],[],S')∧own_Lk S S'
 |0,s,h,S=>by
  have:s=32:=by omega
  subst this
  rw[e1_53_12 hf1,if_neg (show ¬Int32.ofNat 32<32 by decide)]
  by_cases q:Int32.ofNat 32<S 0 4
  ·rw[if_pos q];exact⟨S,rfl,own_Lkr S⟩
  ·rw[if_neg q];exact⟨S,rfl,own_Lkr S⟩
 |f+1,s,h,S=>by
  rw[e1_53_12 hf1,if_pos (show Int32.ofNat s<32 from (own_lt (a:=s) (b:=32) (by omega) (by decide)).mpr (by omega))]
  by_cases q:Int32.ofNat s<S 0 4
  ·obtain⟨y,e⟩:=own_suF hf1 S (Int32.ofNat s)
   rw[if_pos q,e];simp only[Option.bind_some,Option.toList_some,Option.toList_none,List.cons_append,List.nil_append,List.append_nil]
   rw[e1_53_36 hf1,if_pos (own_inb (by omega) (by omega)),own_add1]
   obtain⟨S',e',h'⟩:=own_l1 hf1 f (s+1) (by omega) (Jvm.OM.upd S 11 (Int32.ofNat s).toNatClampNeg y)
   exact⟨S',e',own_Lkt (own_Lku (own_Lkr S) (by omega)) h'⟩
  ·rw[if_neg q];exact⟨S,rfl,own_Lkr S⟩
theorem own_l2(hf1:Fx f1):∀(f s:Nat),s+f=32→∀S:MS,∃x S',f1 (53,45,[.ref 0,.int (Int32.ofNat s)],[],S)=((f1 (57,0,[.ref 0],[],S')).bind fun q=>f1 (53,74,[.ref 0,.int x],q.1.toList++[],q.2))∧own_Lk S S'
 |0,s,h,S=>by
  have:s=32:=by omega
  subst this
  rw[e1_53_45 hf1,if_neg (show ¬Int32.ofNat 32<32 by decide)]
  by_cases q:Int32.ofNat 32<S 0 4
  ·rw[if_pos q];exact⟨_,S,rfl,own_Lkr S⟩
  ·rw[if_neg q];exact⟨_,S,rfl,own_Lkr S⟩
 |f+1,s,h,S=>by
  rw[e1_53_45 hf1,if_pos (show Int32.ofNat s<32 from (own_lt (a:=s) (b:=32) (by omega) (by decide)).mpr (by omega))]
  by_cases q:Int32.ofNat s<S 0 4
  ·obtain⟨S1,e,h1⟩:=own_ptF hf1 S (s:=s) (by omega)
   rw[if_pos q,e];simp only[Option.bind_some,Option.toList_some,Option.toList_none,List.cons_append,List.nil_append,List.append_nil]
   rw[e1_53_64 hf1,own_add1]
   obtain⟨x,S',e',h'⟩:=own_l2 hf1 f (s+1) (by omega) S1
   refine⟨x,S',e'.trans ?_,own_Lkt h1 h'⟩
   simp only[List.append_nil]
  ·rw[if_neg q];exact⟨_,S,rfl,own_Lkr S⟩
theorem own_cml(hf1:Fx f1):∀(k:Nat) (S:MS) (x:Int32),x.toInt=(k:Int)-1→∃S',f1 (57,7,[.ref 0,.int x],[],S)=some (none,S')∧own_Lk S S'
 |0,S,x,hx=>by
  have l0:(0:Int32).toInt=0:=rfl
  rw[e1_57_7 hf1,if_pos (by rw[Int32.lt_iff_toInt_lt];omega)]
  exact⟨S,rfl,own_Lkr S⟩
 |k+1,S,x,hx=>by
  have l0:(0:Int32).toInt=0:=rfl
  have lm:(-1:Int32).toInt = -1:=rfl
  have a:¬x<0:=by rw[Int32.lt_iff_toInt_lt];omega
  have hl:=Int32.toInt_lt x
  have nx:(x+(-1)).toInt=(k:Int)-1:=by
   rw[Int32.toInt_add,lm,bm32 (by omega) (by omega)]
   omega
  rw[e1_57_7 hf1,if_neg a]
  by_cases b:x<32
  ·obtain⟨y,e,-⟩:=own_bo hf1 S x
   have ib:=own_inb_of (n:=32) a b (by decide)
   rw[if_pos b,if_pos ib,e];simp only[Option.bind_some,Option.toList_some,Option.toList_none,List.cons_append,List.nil_append,List.append_nil]
   rw[e1_57_36 hf1,if_pos ib,if_pos ib]
   have go:∀U:MS,own_Lk S U→∃S',f1 (57,7,[.ref 0,.int (x+(-1))],[],U)=some (none,S')∧own_Lk S S':=fun U hU=>by
    obtain⟨S',e',h'⟩:=own_cml hf1 k U (x+(-1)) nx
    exact⟨S',e',own_Lkt hU h'⟩
   by_cases c:S 5 x.toNatClampNeg<0
   ·rw[if_pos c];exact go _ (own_Lku (own_Lkr S) (by omega))
   ·rw[if_neg c]
    by_cases d:S 5 x.toNatClampNeg<32
    ·rw[if_pos d,if_pos (own_inb_of (n:=32) c d (by decide))]
     exact go _ (own_Lku (own_Lku (own_Lkr S) (by omega)) (by omega))
    ·rw[if_neg d];exact go _ (own_Lku (own_Lkr S) (by omega))
  ·rw[if_neg b];exact own_cml hf1 k S (x+(-1)) nx
theorem own_cmF(hf1:Fx f1)(S:MS)(h4:¬S 0 4<0):∃S',f1 (57,0,[.ref 0],[],S)=some (none,S')∧own_Lk S S':=by
 have l0:(0:Int32).toInt=0:=rfl
 have l1:(1:Int32).toInt=1:=rfl
 rw[Int32.lt_iff_toInt_lt] at h4
 have hl:=Int32.toInt_lt (S 0 4)
 rw[e1_57_0 hf1]
 refine own_cml hf1 (S 0 4).toInt.toNat S _ ?_
 rw[Int32.toInt_sub,l1,bm32 (by omega) (by omega)]
 omega
def own_D(S S':MS):Prop:=(∀c,c≠15→∀i,S' c i=S c i)∧own_Z S'
theorem own_cdl(hf1:Fx f1){S:MS}(hW:∀s:Nat,s<32→Int32.ofNat s<S 0 4→own_gk S (S 6 s))(h5:own_gk S (S 0 5)):∀(f s:Nat),s+f=32→∀U:MS,own_D S U→∃S',f1 (58,2,[.ref 0,.int (Int32.ofNat s)],[],U)=some (none,S')∧own_D S S':=by
 have gkU:∀ {U:MS},own_D S U→∀ {p},own_gk S p→own_gk U p:=fun {U} hU {p} g=>by
  unfold own_gk
  rw[hU.1 0 (by decide),hU.1 3 (by decide)]
  exact g
 have z0:(0:Int32)|||0=0:=rfl
 have put:∀ {U:MS},own_D S U→∀i,own_D S (Jvm.OM.upd U 15 i 0):=fun {U} hU i=>⟨fun c hc j=>(own_ne (by omega)).trans (hU.1 c hc j),fun j hj=>by
  rw[own_up]
  by_cases q:15=15∧j=i
  ·rw[if_pos q]
  ·rw[if_neg q];exact hU.2 j hj⟩
 have f136:∀ {U:MS},own_D S U→∃S',f1 (58,136,[.ref 0,.int 0],[],U)=some (none,S')∧own_D S S':=fun {U} hU=>by
  rw[e1_58_136 hf1]
  by_cases a:U 0 4<0
  ·rw[if_pos a];exact⟨U,rfl,hU⟩
  ·rw[if_neg a]
   by_cases b:U 0 4<40
   ·rw[if_pos b,if_pos (own_inb_of (n:=40) a b (by decide))]
    exact⟨_,rfl,put hU _⟩
   ·rw[if_neg b];exact⟨U,rfl,hU⟩
 have f99:∀(x:Int32) {U:MS},own_D S U→∃S',f1 (58,99,[.ref 0,.int x],[],U)=some (none,S')∧own_D S S':=fun x {U} hU=>by
  rw[e1_58_99 hf1]
  by_cases a:U 0 5<0
  ·rw[if_pos a];exact f136 hU
  ·rw[if_neg a]
   by_cases b:U 0 5<32
   ·have g:own_gk U (U 0 5):=gkU hU (by rw[hU.1 0 (by decide)];exact h5)
    obtain⟨y,e,hy⟩:=own_bo hf1 U (U 0 5)
    have l:=own_inb_iff.mp (own_inb_of (n:=32) a b (by decide))
    have n40:(U 0 5).toNatClampNeg<40:=by simp only[Int32.toNatClampNeg];omega
    rw[if_pos b,if_pos (own_inb_iff.mpr (by omega)),e,hy g,hU.2 _ n40];simp only[Option.bind_some,Option.toList_some,Option.toList_none,List.cons_append,List.nil_append,List.append_nil]
    rw[e1_58_134 hf1,z0]
    exact f136 hU
   ·rw[if_neg b];exact f136 hU
 intro f
 induction f with
 |zero=>
  intro s h U hU
  have:s=32:=by omega
  subst this
  rw[e1_58_2 hf1,if_neg (show ¬Int32.ofNat 32<32 by decide)]
  by_cases q:Int32.ofNat 32<U 0 4
  ·rw[if_pos q];exact f99 _ hU
  ·rw[if_neg q];exact f99 _ hU
 |succ f ih=>
  intro s h U hU
  have ib:inb (Int32.ofNat s) 40=true:=own_inb (by omega) (by omega)
  rw[e1_58_2 hf1,if_pos (show Int32.ofNat s<32 from (own_lt (a:=s) (b:=32) (by omega) (by decide)).mpr (by omega)),if_pos (own_inb (by omega) (show s<32 by omega)),own_nat (by omega)]
  by_cases q:Int32.ofNat s<U 0 4
  ·rw[if_pos q]
   have nx:∀ {V:MS},own_D S V→∃S',f1 (58,2,[.ref 0,.int (Int32.ofNat (s+1))],[],V)=some (none,S')∧own_D S S':=fun hV=>ih (s+1) (by omega) _ hV
   have f61:∀x2 x3:Int32,∃S',f1 (58,61,[.ref 0,.int (Int32.ofNat s),.int x2,.int x3],[],U)=some (none,S')∧own_D S S':=fun x2 x3=>by
    rw[e1_58_61 hf1,if_pos ib,if_pos ib,own_add1]
    by_cases a:x3<0
    ·rw[if_pos a];exact nx (put hU _)
    ·rw[if_neg a]
     by_cases b:x3<32
     ·have l:=own_inb_iff.mp (own_inb_of (n:=32) a b (by decide))
      have n40:x3.toNatClampNeg<40:=by simp only[Int32.toNatClampNeg];omega
      rw[if_pos b,if_pos (own_inb_iff.mpr (by omega)),hU.2 _ n40]
      exact nx (put hU _)
     ·rw[if_neg b];exact nx (put hU _)
   by_cases a:U 6 s<0
   ·rw[if_pos a];exact f61 _ _
   ·rw[if_neg a]
    by_cases b:U 6 s<32
    ·have g:own_gk U (U 6 s):=gkU hU (by
      rw[hU.1 6 (by decide)]
      exact hW s (by omega) (by rw[←hU.1 0 (by decide)];exact q))
     obtain⟨y,e,hy⟩:=own_bo hf1 U (U 6 s)
     have l:=own_inb_iff.mp (own_inb_of (n:=32) a b (by decide))
     have n40:(U 6 s).toNatClampNeg<40:=by simp only[Int32.toNatClampNeg];omega
     rw[if_pos b,if_pos (own_inb_iff.mpr (by omega)),e,hy g,hU.2 _ n40];simp only[Option.bind_some,Option.toList_some,Option.toList_none,List.cons_append,List.nil_append,List.append_nil]
     rw[e1_58_56 hf1,if_pos ib,z0,own_add1]
     exact nx (put hU _)
    ·rw[if_neg b];exact f61 _ _
  ·rw[if_neg q];exact f99 _ hU
theorem own_lkF(hf1:Fx f1){S:MS}(W:own_Wt S)(z:own_Z S):∃S',f1 (53,0,[.ref 0],[],S)=some (none,S')∧(∀i,i≠5→S' 0 i=S 0 i)∧(∀i,S' 1 i=S 1 i)∧(∀i,S' 2 i=S 2 i)∧own_Z S':=by
 rw[e1_53_0 hf1]
 obtain⟨S1,e1,L1⟩:=own_l1 hf1 32 0 rfl (Jvm.OM.upd S 0 5 (S 26 0))
 obtain⟨x,S2,e2,L2⟩:=own_l2 hf1 32 0 rfl S1
 have L12:=own_Lkt L1 L2
 have q0:∀i,i≠5→S2 0 i=S 0 i:=fun i hi=>(L12.1 i).trans (own_ne (by omega))
 have qc:∀c,c≠0→c≠11→c≠12→c≠17→c≠18→c≠21→c≠22→∀i,S2 c i=S c i:=fun c a b d e f g k i=>(L12.2 c a b d e f g k i).trans (own_ne (by omega))
 obtain⟨S3,e3,L3⟩:=own_cmF hf1 S2 (by rw[q0 4 (by decide)];exact W.1)
 have r0:∀i,i≠5→S3 0 i=S 0 i:=fun i hi=>(L3.1 i).trans (q0 i hi)
 have r5:S3 0 5=S 26 0:=(L3.1 5).trans (L12.1 5)
 have rc:∀c,c≠0→c≠11→c≠12→c≠17→c≠18→c≠21→c≠22→∀i,S3 c i=S c i:=fun c a b d e f g k i=>(L3.2 c a b d e f g k i).trans (qc c a b d e f g k i)
 have gk:∀ {p},own_gk S p→own_gk S3 p:=fun {p} g=>by
  unfold own_gk
  rw[r0 4 (by decide),rc 3 (by decide) (by decide) (by decide) (by decide) (by decide) (by decide) (by decide)]
  exact g
 obtain⟨S4,e4,D4⟩:=own_cdl hf1 (S:=S3) (fun s hs hl=>by
  rw[rc 6 (by decide) (by decide) (by decide) (by decide) (by decide) (by decide) (by decide)]
  exact gk (W.2.1 s hs (by rw[←r0 4 (by decide)];exact hl))) (by rw[r5];exact gk W.2.2) 32 0 rfl S3 ⟨fun _ _ _=>rfl,fun i hi=>by rw[rc 15 (by decide) (by decide) (by decide) (by decide) (by decide) (by decide) (by decide)];exact z i hi⟩
 refine⟨S4,?_,fun i hi=>(D4.1 0 (by decide) i).trans (r0 i hi),fun i=>(D4.1 1 (by decide) i).trans (rc 1 (by decide) (by decide) (by decide) (by decide) (by decide) (by decide) (by decide) i),fun i=>(D4.1 2 (by decide) i).trans (rc 2 (by decide) (by decide) (by decide) (by decide) (by decide) (by decide) (by decide) i),D4.2⟩
 rw[show f1 (53,12,[.ref 0,.int 0],[],Jvm.OM.upd S 0 5 (S 26 0))=_ from e1,show f1 (53,45,[.ref 0,.int 0],[],S1)=_ from e2,e3];simp only[Option.bind_some,Option.toList_some,Option.toList_none,List.cons_append,List.nil_append,List.append_nil]
 rw[e1_53_74 hf1,e1_58_0 hf1,show f1 (58,2,[.ref 0,.int 0],[],S3)=_ from e4];simp only[Option.bind_some,Option.toList_some,Option.toList_none,List.cons_append,List.nil_append,List.append_nil]
 rw[e1_53_78 hf1]
theorem own_loF(hf1:Fx f1){S:MS}(z:own_Z S){i v:Nat}(hi:i<40)(hv:v<8):∃S',f1 (60,0,[.ref 0,.int (Int32.ofNat i),.int (Int32.ofNat v)],[],S)=some (none,S')∧own_Lk S S':=by
 have e:Int32.ofNat i*8+Int32.ofNat v=Int32.ofNat (i*8+v):=by rw[Int32.ofNat_add,Int32.ofNat_mul];rfl
 have sh:((S 15 (Int32.ofNat i).toNatClampNeg)>>>(Int32.ofNat v&&&31))&&&1=0:=by
  rw[own_nat (by omega),z i hi]
  exact own_sh0 ⟨v,hv⟩
 rw[e1_60_0 hf1,e,if_neg (own_nneg (by omega)),if_pos (show Int32.ofNat (i*8+v)<320 from (own_lt (a:=i*8+v) (b:=320) (by omega) (by decide)).mpr (by omega)),if_pos (show Int32.ofNat i<40 from (own_lt (a:=i) (b:=40) (by omega) (by decide)).mpr hi),if_pos (own_inb (by omega) (by omega)),if_pos (own_inb (by omega) hi),if_pos sh]
 exact⟨_,rfl,own_Lku (own_Lku (own_Lkr S) (by omega)) (by omega)⟩
theorem own_blv(hf1:Fx f1){i:Nat}(hi:i<40):∀(f v:Nat),v+f=8→∀S:MS,own_Z S→∃S',f1 (59,18,[.ref 0,.int (Int32.ofNat i),.int (Int32.ofNat v)],[],S)=f1 (59,2,[.ref 0,.int (Int32.ofNat (i+1))],[],S')∧own_Lk S S'
 |0,v,h,S,z=>by
  have:v=8:=by omega
  subst this
  rw[e1_59_18 hf1,if_neg (by decide),own_add1]
  exact⟨S,rfl,own_Lkr S⟩
 |f+1,v,h,S,z=>by
  obtain⟨S1,e1,L1⟩:=own_loF hf1 z hi (v:=v) (by omega)
  rw[e1_59_18 hf1,if_pos (show Int32.ofNat v<8 from (own_lt (a:=v) (b:=8) (by omega) (by decide)).mpr (by omega)),e1];simp only[Option.bind_some,Option.toList_some,Option.toList_none,List.cons_append,List.nil_append,List.append_nil]
  rw[e1_59_30 hf1,own_add1]
  obtain⟨S2,e2,L2⟩:=own_blv hf1 hi f (v+1) (by omega) S1 fun j hj=>by rw[L1.2 15 (by decide) (by decide) (by decide) (by decide) (by decide) (by decide) (by decide)];exact z j hj
  exact⟨S2,e2,own_Lkt L1 L2⟩
theorem own_bli(hf1:Fx f1):∀(f i:Nat),i+f=40→∀S:MS,own_Z S→∃S',f1 (59,2,[.ref 0,.int (Int32.ofNat i)],[],S)=some (none,S')∧own_Lk S S'
 |0,i,h,S,z=>by
  have:i=40:=by omega
  subst this
  rw[e1_59_2 hf1,if_neg (show ¬Int32.ofNat 40<40 by decide)]
  by_cases q:S 0 4<Int32.ofNat 40
  ·rw[if_pos q];exact⟨S,rfl,own_Lkr S⟩
  ·rw[if_neg q];exact⟨S,rfl,own_Lkr S⟩
 |f+1,i,h,S,z=>by
  rw[e1_59_2 hf1,if_pos (show Int32.ofNat i<40 from (own_lt (a:=i) (b:=40) (by omega) (by decide)).mpr (by omega))]
  by_cases q:S 0 4<Int32.ofNat i
  ·rw[if_pos q];exact⟨S,rfl,own_Lkr S⟩
  ·rw[if_neg q]
   obtain⟨S1,e1,L1⟩:=own_blv hf1 (i:=i) (by omega) 8 0 rfl S z
   obtain⟨S2,e2,L2⟩:=own_bli hf1 f (i+1) (by omega) S1 fun j hj=>by rw[L1.2 15 (by decide) (by decide) (by decide) (by decide) (by decide) (by decide) (by decide)];exact z j hj
   exact⟨S2,(show f1 (59,18,[.ref 0,.int (Int32.ofNat i),.int 0],[],S)=_ from e1).trans e2,own_Lkt L1 L2⟩
theorem own_cbF(hf1:Fx f1)(S:MS):f1 (18,0,[.ref 0],[],S)=some (none,itN (fun j T=>Jvm.OM.upd T 16 j 0) 32 S):=by
 rw[e1_18_0 hf1]
 refine (own_for (H:=fun x T=>f1 (18,2,[.ref 0,.int x],[],T)) (g:=fun j T=>Jvm.OM.upd T 16 j 0) (n:=32) (fun j hj T=>?_) S).trans ?_
 ·show f1 (18,2,[.ref 0,.int (Int32.ofNat j)],[],T)=_
  rw[e1_18_2 hf1,if_pos (show Int32.ofNat j<32 from (own_lt (a:=j) (b:=32) (by omega) (by decide)).mpr hj),if_pos (own_inb (by omega) hj),own_add1,own_nat (by omega)]
 ·show f1 (18,2,[.ref 0,.int (Int32.ofNat 32)],[],_)=_
  rw[e1_18_2 hf1,if_neg (by decide)]
theorem own_cpF(hf1:Fx f1){S:MS}(h1:S 0 1=0){c:Nat}(hc:c≤96)(h3:S 0 3=Int32.ofNat c)(hT:∀j,j<c→own_tk (j%12) (S 1 j) (S 2 j))(h0:0<S 0 0)(z:own_Z S):∃y S',f1 (4,0,[.ref 0],[],S)=some (some (.int y),S')∧S' 0 0=S 0 0∧S' 0 3=S 0 3∧(∀i,S' 1 i=S 1 i)∧(∀i,S' 2 i=S 2 i)∧own_Z S'∧(S' 0 1=0∨(S' 0 1=1∧own_X 0 S')):=by
 obtain⟨y,S1,e1,⟨F0,F1,F3,Fa,Fb,Fz⟩,r⟩:=own_paF hf1 hc h3 hT h0
 have z1:own_Z S1:=fun i hi=>by rw[Fz];exact z i hi
 rw[e1_4_0 hf1,if_pos h1,e1];simp only[Option.bind_some,Option.toList_some,Option.toList_none,List.cons_append,List.nil_append,List.append_nil]
 rw[e1_4_13 hf1]
 by_cases q:y<0
 ·obtain⟨S2,e2,k0,ka,kb,z2⟩:=own_lkF hf1 (r.resolve_left fun n=>n q) z1
  rw[if_pos q,e2];simp only[Option.bind_some,Option.toList_some,Option.toList_none,List.cons_append,List.nil_append,List.append_nil]
  rw[e1_4_39 hf1,e1_59_0 hf1]
  obtain⟨S3,e3,L3⟩:=own_bli hf1 40 0 rfl S2 z2
  rw[show f1 (59,2,[.ref 0,.int 0],[],S2)=_ from e3];simp only[Option.bind_some,Option.toList_some,Option.toList_none,List.cons_append,List.nil_append,List.append_nil]
  rw[e1_4_43 hf1,own_cbF hf1];simp only[Option.bind_some,Option.toList_some,Option.toList_none,List.cons_append,List.nil_append,List.append_nil]
  have k:∀c i,c≠16→itN (fun j T=>Jvm.OM.upd T 16 j 0) 32 S3 c i=S3 c i:=fun c i hc=>by rw[own_fill,if_neg (by omega)]
  generalize itN (fun j T=>Jvm.OM.upd T 16 j 0) 32 S3=U at k
  rw[e1_4_47 hf1,own_rsF hf1];simp only[Option.bind_some,Option.toList_some,Option.toList_none,List.cons_append,List.nil_append,List.append_nil]
  rw[e1_4_61 hf1]
  have R:=own_Fsrs (Jvm.OM.upd (Jvm.OM.upd U 0 2 (-1)) 0 1 1)
  have u0:∀i,i≠5→U 0 i=S1 0 i:=fun i hi=>(k 0 i (by decide)).trans ((L3.1 i).trans (k0 i hi))
  have uc:∀c,c≠0→c≠11→c≠12→c≠16→c≠17→c≠18→c≠21→c≠22→∀i,U c i=S2 c i:=fun c h0 h11 h12 h16 h17 h18 h21 h22 i=>(k c i h16).trans (L3.2 c h0 h11 h12 h17 h18 h21 h22 i)
  refine⟨_,_,rfl,?_,?_,fun i=>?_,fun i=>?_,fun i hi=>?_,Or.inr ⟨R.1 1 (by omega),own_X0 _⟩⟩
  ·rw[R.1 0 (by omega)]
   show U 0 0=S 0 0
   rw[u0 0 (by decide),F0]
  ·rw[R.1 3 (by omega)]
   show U 0 3=S 0 3
   rw[u0 3 (by decide),F3]
  ·rw[R.2.1 1 (by decide) (by decide) (by decide)]
   show U 1 i=S 1 i
   rw[uc 1 (by decide) (by decide) (by decide) (by decide) (by decide) (by decide) (by decide) (by decide),ka,Fa]
  ·rw[R.2.1 2 (by decide) (by decide) (by decide)]
   show U 2 i=S 2 i
   rw[uc 2 (by decide) (by decide) (by decide) (by decide) (by decide) (by decide) (by decide) (by decide),kb,Fb]
  ·rw[R.2.1 15 (by decide) (by decide) (by decide)]
   show U 15 i=0
   rw[uc 15 (by decide) (by decide) (by decide) (by decide) (by decide) (by decide) (by decide) (by decide)]
   exact z2 i hi
 ·rw[if_neg q]
  exact⟨_,_,rfl,F0,F3,Fa,Fb,z1,Or.inl (F1.trans h1)⟩
end Lk
theorem own_ew{x y:Option (Jvm.OM.Res (W2 MS))}(h:x=y)(g:∃W,y=some (some (.int 1),W)):∃W,x=some (some (.int 1),W):=by rw[h];exact g
theorem own_m12:∀c:Fin 97,Int32.ofNat c.val%12=Int32.ofNat (c.val%12):=by decide +kernel
def own_K(b:Int)(S:MS):Prop:=0<S 0 0∧(∃c,c≤96∧S 0 3=Int32.ofNat c∧∀j,j<c→own_tk (j%12) (S 1 j) (S 2 j))∧own_Z S∧(S 0 1=0∨(S 0 1=1∧∃n:Nat,(n:Int)≤b∧own_X n S))
theorem own_Kb{b b':Int}(h:b≤b'){S:MS}(k:own_K b S):own_K b' S:=by
 obtain⟨k0,kt,kz,kr⟩:=k
 refine⟨k0,kt,kz,kr.imp id fun z=>⟨z.1,?_⟩⟩
 obtain⟨n,hn,x⟩:=z.2
 exact⟨n,by omega,x⟩
theorem own_KF{b:Int}{S S':MS}(k:own_K b S)(F:own_Fs S S'){n:Nat}{b':Int}(h1:S 0 1=1)(hn:(n:Int)≤b')(x:own_X n S'):own_K b' S':=by
 obtain⟨k0,⟨c,hc,h3,ht⟩,kz,-⟩:=k
 refine⟨by rw[F.1 0 (by omega)];exact k0,⟨c,hc,(F.1 3 (by omega)).trans h3,fun j hj=>?_⟩,fun i hi=>?_,Or.inr ⟨(F.1 1 (by omega)).trans h1,n,hn,x⟩⟩
 ·rw[F.2.1 1 (by decide) (by decide) (by decide),F.2.1 2 (by decide) (by decide) (by decide)];exact ht j hj
 ·rw[F.2.1 15 (by decide) (by decide) (by decide)];exact kz i hi
section Law9
variable {f1:FT1} {f2:FT2} {xs:List Int32}
theorem own_stpF(hf1:Fx f1){b:Int}{S:MS}(k:own_K b S):∃y S',f1 (8,0,[.ref 0],[],S)=some (some (.int y),S')∧own_K (b+256) S':=by
 rw[e1_8_0 hf1]
 by_cases a:S 0 1=0
 ·rw[if_pos a];exact⟨_,S,rfl,own_Kb (by omega) k⟩
 rw[if_neg a]
 by_cases e:S 0 7 = -2
 ·rw[if_pos e];exact⟨_,S,rfl,own_Kb (by omega) k⟩
 rw[if_neg e,own_soF hf1];simp only[Option.bind_some,Option.toList_some,Option.toList_none,List.cons_append,List.nil_append,List.append_nil]
 rw[e1_8_25 hf1]
 obtain⟨h1,n,hn,x⟩:=k.2.2.2.resolve_left a
 exact⟨_,_,rfl,own_KF k (own_Fsp S) h1 (by omega:((n+1:Nat):Int)≤b+256) (own_XS x e)⟩
theorem own_brF(hf1:Fx f1)(S:MS)(x:Int32):∃y,f1 (20,0,[.ref 0,.int x],[],S)=some (some (.int y),S):=by
 rw[e1_20_0 hf1]
 by_cases a:x<0
 ·rw[if_pos a];exact⟨_,rfl⟩
 rw[if_neg a]
 by_cases b:x<S 0 4
 ·rw[if_pos b]
  by_cases c:x<32
  ·rw[if_pos c,if_pos (own_inb_of (n:=32) a c (by decide))];exact⟨_,rfl⟩
  ·rw[if_neg c];exact⟨_,rfl⟩
 ·rw[if_neg b];exact⟨_,rfl⟩
theorem own_rul(hf1:Fx f1)(x1:Int32){x2:Int32}(h2:x2.toInt≤256):∀(f i:Nat),i+f=256→∀ {b:Int} {S:MS},own_K b S→S 0 1=1→¬S 0 7 = -2→∃y S',f1 (9,43,[.ref 0,.int x1,.int x2,.int (Int32.ofNat i)],[],S)=some (some (.int y),S')∧own_K (b+f) S'
 |0,i,h,b,S,k,h1,h7=>by
  have:i=256:=by omega
  subst this
  rw[e1_9_43 hf1,if_neg (fun z=>by
   rw[Int32.lt_iff_toInt_lt,own_toInt_ofNat (by omega)] at z
   omega)]
  exact⟨_,S,rfl,own_Kb (by omega) k⟩
 |f+1,i,h,b,S,k,h1,h7=>by
  rw[e1_9_43 hf1]
  by_cases q:Int32.ofNat i<x2
  ·obtain⟨-,n,hn,x⟩:=k.2.2.2.resolve_left (fun z=>by rw[h1] at z;exact absurd z (by decide))
   have k':own_K (b+1) (own_stp S):=own_KF k (own_Fsp S) h1 (by omega:((n+1:Nat):Int)≤b+1) (own_XS x h7)
   rw[if_pos q,own_soF hf1];simp only[Option.bind_some,Option.toList_some,Option.toList_none,List.cons_append,List.nil_append,List.append_nil]
   rw[e1_9_52 hf1]
   by_cases w:own_stp S 0 7 = -2
   ·rw[if_pos w];exact⟨_,_,rfl,own_Kb (by omega) k'⟩
   ·obtain⟨y,ey⟩:=own_brF hf1 (own_stp S) (own_stp S 0 7)
    rw[if_neg w,ey];simp only[Option.bind_some,Option.toList_some,Option.toList_none,List.cons_append,List.nil_append,List.append_nil]
    rw[e1_9_69 hf1,own_add1]
    by_cases u:y=0
    ·rw[if_pos u]
     obtain⟨y',S',e',k''⟩:=own_rul hf1 x1 h2 f (i+1) (by omega) k' (((own_Fsp S).1 1 (by omega)).trans h1) w
     exact⟨y',S',e',own_Kb (by omega) k''⟩
    ·rw[if_neg u];exact⟨_,_,rfl,own_Kb (by omega) k'⟩
  ·rw[if_neg q];exact⟨_,S,rfl,own_Kb (by omega) k⟩
theorem own_ruF(hf1:Fx f1){b:Int}{S:MS}(k:own_K b S)(x:Int32):∃y S',f1 (9,0,[.ref 0,.int x],[],S)=some (some (.int y),S')∧own_K (b+256) S':=by
 have l256:(256:Int32).toInt=256:=rfl
 have t20:∀x2:Int32,x2.toInt≤256→∃y S',f1 (9,20,[.ref 0,.int x,.int x2],[],S)=some (some (.int y),S')∧own_K (b+256) S':=fun x2 h2=>by
  rw[e1_9_20 hf1]
  by_cases a:S 0 1=0
  ·rw[if_pos a];exact⟨_,S,rfl,own_Kb (by omega) k⟩
  rw[if_neg a]
  by_cases e:S 0 7 = -2
  ·rw[if_pos e];exact⟨_,S,rfl,own_Kb (by omega) k⟩
  rw[if_neg e]
  exact own_rul hf1 x h2 256 0 rfl k (k.2.2.2.resolve_left a).1 e
 have t9:∀x2:Int32,∃y S',f1 (9,9,[.ref 0,.int x,.int x2],[],S)=some (some (.int y),S')∧own_K (b+256) S':=fun x2=>by
  rw[e1_9_9 hf1]
  by_cases a:256<x2
  ·rw[if_pos a];exact t20 _ (by decide)
  ·rw[if_neg a]
   rw[Int32.lt_iff_toInt_lt] at a
   exact t20 _ (by omega)
 rw[e1_9_0 hf1]
 by_cases a:x<1
 ·rw[if_pos a];exact t9 _
 ·rw[if_neg a];exact t9 _
theorem own_sbF(hf1:Fx f1){b:Int}{S:MS}(k:own_K b S)(x v:Int32):∃y S',f1 (7,0,[.ref 0,.int x,.int v],[],S)=some (some (.int y),S')∧own_K b S':=by
 rw[e1_7_0 hf1]
 by_cases a:S 0 1=0
 ·rw[if_pos a];exact⟨_,S,rfl,k⟩
 rw[if_neg a]
 by_cases c:x<0
 ·rw[if_pos c];exact⟨_,S,rfl,k⟩
 rw[if_neg c]
 by_cases d:x<S 0 4
 ·rw[if_pos d]
  by_cases e:x<32
  ·rw[if_pos e,if_pos (own_inb_of (n:=32) c e (by decide))]
   obtain⟨k0,⟨c,hc,h3,ht⟩,kz,kr⟩:=k
   obtain⟨h1,n,hn,x'⟩:=kr.resolve_left a
   exact⟨_,_,rfl,k0,⟨c,hc,h3,ht⟩,kz,Or.inr ⟨h1,n,hn,own_XB x' _ _⟩⟩
  ·rw[if_neg e];exact⟨_,S,rfl,k⟩
 ·rw[if_neg d];exact⟨_,S,rfl,k⟩
theorem own_rtF(hf1:Fx f1){b:Int}(hb:0≤b){S:MS}(k:own_K b S):∃y S',f1 (10,0,[.ref 0],[],S)=some (some (.int y),S')∧own_K b S':=by
 rw[e1_10_0 hf1]
 by_cases a:S 0 1=0
 ·rw[if_pos a];exact⟨_,S,rfl,k⟩
 rw[if_neg a,own_rsF hf1];simp only[Option.bind_some,Option.toList_some,Option.toList_none,List.cons_append,List.nil_append,List.append_nil]
 rw[e1_10_13 hf1]
 exact⟨_,_,rfl,own_KF k (own_Fsrs S) (k.2.2.2.resolve_left a).1 (by omega:((0:Nat):Int)≤b) (own_X0 S)⟩
theorem own_caF(hf1:Fx f1)(S:MS):∃S',f1 (17,0,[.ref 0],[],S)=some (none,S')∧S' 0 0=S 0 0∧S' 0 1=0∧S' 0 3=0∧∀i,S' 15 i=S 15 i:=by
 rw[e1_17_0 hf1,own_cbF hf1];simp only[Option.bind_some,Option.toList_some,Option.toList_none,List.cons_append,List.nil_append,List.append_nil]
 rw[e1_17_34 hf1]
 refine⟨_,rfl,?_,?_,?_,fun i=>?_⟩
 ·show itN (fun j T=>Jvm.OM.upd T 16 j 0) 32 _ 0 0=_
  rw[own_fill,if_neg (by omega)];rfl
 ·show itN (fun j T=>Jvm.OM.upd T 16 j 0) 32 _ 0 1=_
  rw[own_fill,if_neg (by omega)];rfl
 ·show itN (fun j T=>Jvm.OM.upd T 16 j 0) 32 _ 0 3=_
  rw[own_fill,if_neg (by omega)];rfl
 ·show itN (fun j T=>Jvm.OM.upd T 16 j 0) 32 _ 15 i=_
  rw[own_fill,if_neg (by omega)];rfl
theorem own_Kc(hf1:Fx f1){b:Int}{S S':MS}(h0:0<S 0 0)(z:own_Z S)(h:S' 0 0=S 0 0∧S' 0 1=0∧S' 0 3=0∧∀i,S' 15 i=S 15 i):own_K b S':=⟨by rw[h.1];exact h0,⟨0,by omega,h.2.2.1,fun j hj=>absurd hj (Nat.not_lt_zero _)⟩,fun i hi=>by rw[h.2.2.2];exact z i hi,Or.inl h.2.1⟩
theorem own_atF(hf1:Fx f1){b:Int}{S:MS}(k:own_K b S){c:Nat}(hc0:c≤96)(h3:S 0 3=Int32.ofNat c){kd a:Int32}(T:own_tk (c%12) kd a):∃y S',f1 (1,0,[.ref 0,.int kd,.int a],[],S)=some (some (.int y),S')∧own_K b S':=by
 have kk:∃y S',(some (some (Value.int 0),S):Option (Jvm.OM.Res MS))=some (some (.int y),S')∧own_K b S':=⟨0,S,rfl,k⟩
 obtain⟨k0,⟨c',hc,h3',ht⟩,kz,kr⟩:=id k
 have ec:c'=c:=by
  have:=congrArg Int32.toInt (h3'.symm.trans h3)
  rw[own_toInt_ofNat (by omega),own_toInt_ofNat (by omega)] at this
  omega
 rw[e1_1_0 hf1]
 by_cases r:S 0 1=0
 ·rw[if_pos r]
  by_cases q1:kd<1
  ·rw[if_pos q1];exact kk
  rw[if_neg q1]
  by_cases q2:17<kd
  ·rw[if_pos q2];exact kk
  rw[if_neg q2]
  have t39:∃y S',f1 (1,39,[.ref 0,.int kd,.int a],[],S)=some (some (.int y),S')∧own_K b S':=by
   rw[e1_1_39 hf1,h3']
   rw[if_neg (own_nneg (by omega))]
   by_cases q3:c'<96
   ·have ec':=ec
    subst ec'
    have ib:inb (Int32.ofNat c') 96=true:=own_inb (by omega) q3
    rw[if_pos (show Int32.ofNat c'<96 from (own_lt (a:=c') (b:=96) (by omega) (by decide)).mpr q3),if_pos ib,own_add1,own_nat (by omega)]
    have fin:∀v:Int32,own_tk (c'%12) kd v→own_K b (Jvm.OM.upd (Jvm.OM.upd (Jvm.OM.upd S 1 c' kd) 2 c' v) 0 3 (Int32.ofNat (c'+1))):=fun v hv=>by
     refine⟨k0,⟨c'+1,by omega,rfl,fun j hj=>?_⟩,kz,Or.inl r⟩
     by_cases e:j=c'
     ·subst e
      rw[own_ne (by omega),own_ne (by omega),own_up,if_pos ⟨rfl,rfl⟩,own_ne (by omega),own_up,if_pos ⟨rfl,rfl⟩]
      exact hv
     ·rw[own_ne (by omega),own_ne (by omega),own_ne (by omega),own_ne (by omega),own_ne (by omega),own_ne (by omega)]
      exact ht j (by omega)
    have f77:∃y S',f1 (1,77,[.ref 0,.int kd,.int a],[],Jvm.OM.upd S 1 c' kd)=some (some (.int y),S')∧own_K b S':=by
     have e3:Jvm.OM.upd S 1 c' kd 0 3=Int32.ofNat c':=h3'
     rw[e1_1_77 hf1,e3,if_pos ib,own_add1,own_nat (by omega)]
     exact⟨_,_,rfl,fin a T⟩
    by_cases q4:kd=1
    ·rw[if_pos q4];exact f77
    ·rw[if_neg q4]
     by_cases q5:kd=2
     ·rw[if_pos q5];exact f77
     ·rw[if_neg q5]
      refine⟨_,_,rfl,fin 0 ?_⟩
      have hr:c'%12<12:=Nat.mod_lt _ (by decide)
      generalize c'%12=r at T hr
      match r,hr with
      |0,_=>exact T
      |1,_=>exact T
      |2,_=>exact T
      |3,_=>exact T
      |4,_=>exact T
      |5,_=>exact T
      |6,_=>exact T
      |7,_=>exact T
      |8,_=>exact T
      |9,_=>exact absurd T.1 q4
      |10,_=>exact T
      |11,_=>exact T
      |n+12,h=>exact absurd h (by omega)
   ·rw[if_neg (show ¬Int32.ofNat c'<96 from fun z=>q3 ((own_lt (a:=c') (b:=96) (by omega) (by decide)).mp z))]
    exact kk
  by_cases q3:kd=2
  ·rw[if_pos q3]
   by_cases q4:a<0
   ·rw[if_pos q4];exact kk
   ·rw[if_neg q4]
    by_cases q5:a<8
    ·rw[if_pos q5];exact t39
    ·rw[if_neg q5];exact kk
  ·rw[if_neg q3];exact t39
 ·rw[if_neg r];exact kk
theorem own_avF(hf1:Fx f1){S:MS}(z:own_Z S)(x:Int32):f1 (13,0,[.ref 0,.int x],[],S)=some (some (.int 0),S):=by
 rw[e1_13_0 hf1]
 by_cases a:S 0 1=0
 ·rw[if_pos a]
 rw[if_neg a]
 by_cases b:x<0
 ·rw[if_pos b]
 rw[if_neg b]
 by_cases c:x<8
 ·have si:∃y,f1 (21,0,[.ref 0],[],S)=some (some (.int y),S):=by
   rw[e1_21_0 hf1]
   by_cases d:S 0 7<0
   ·rw[if_pos d];exact⟨_,rfl⟩
   ·rw[if_neg d]
    by_cases e:S 0 7<S 0 4
    ·rw[if_pos e];exact⟨_,rfl⟩
    ·rw[if_neg e];exact⟨_,rfl⟩
  obtain⟨y,ey⟩:=si
  rw[if_pos c,ey];simp only[Option.bind_some,Option.toList_some,Option.toList_none,List.cons_append,List.nil_append,List.append_nil]
  rw[e1_13_23 hf1]
  by_cases d:y<0
  ·rw[if_pos d]
  rw[if_neg d]
  by_cases e:y<40
  ·have l:=own_inb_iff.mp (own_inb_of (n:=40) d e (by decide))
   have n40:y.toNatClampNeg<40:=by simp only[Int32.toNatClampNeg];omega
   have l8:(8:Int32).toInt=8:=rfl
   have l0:(0:Int32).toInt=0:=rfl
   have xb:=own_inb_iff.mp (own_inb_of (n:=8) b c (by decide))
   have ex:x=Int32.ofNat x.toInt.toNat:=by
    apply Int32.toInt_inj.mp
    rw[own_toInt_ofNat (by omega)]
    omega
   have sh:((0:Int32)>>>(x&&&31))&&&1=0:=by
    rw[ex]
    exact own_sh0 ⟨x.toInt.toNat,by omega⟩
   rw[if_pos e,if_pos (own_inb_of (n:=40) d e (by decide)),z _ n40,if_pos sh]
  ·rw[if_neg e]
 ·rw[if_neg c]
theorem own_vaF(hf1:Fx f1){S:MS}(z:own_Z S)(x:Int32):f1 (14,0,[.ref 0,.int x],[],S)=some (some (.int 0),S):=by
 rw[e1_14_0 hf1,own_avF hf1 z];simp only[Option.bind_some,Option.toList_some,Option.toList_none,List.cons_append,List.nil_append,List.append_nil]
 rw[e1_14_5 hf1,if_pos rfl]
theorem own_amF(hf1:Fx f1)(hf2:Fix2 ms1 ms2 iv1 431 nmax1 (some xs) f1 f2){S:MS}(z:own_Z S):∀(f i:Nat),i+f=8→f2 (2,4,[.ref 1,.int 0,.int (Int32.ofNat i)],[],(false,[S]))=some (some (.int 0),(false,[S]))
 |0,i,h=>by
  have:i=8:=by omega
  subst this
  refine (e2_2_4 hf2 _ _ [S] 0 S rfl).trans ?_
  rw[if_neg (by decide)]
 |f+1,i,h=>by
  refine (e2_2_4 hf2 _ _ [S] 0 S rfl).trans ?_
  rw[if_pos (show Int32.ofNat i<8 from (own_lt (a:=i) (b:=8) (by omega) (by decide)).mpr (by omega)),own_avF hf1 z];simp only[Option.bind_some,Option.toList_some,Option.toList_none,List.cons_append,List.nil_append,List.append_nil]
  refine (e2_2_15 hf2 ..).trans ?_
  rw[if_pos rfl,own_add1]
  exact own_amF hf1 hf2 z f (i+1) (by omega)
theorem own_kaF(hf1:Fx f1)(hf2:Fix2 ms1 ms2 iv1 431 nmax1 (some xs) f1 f2)(ob:List MS){r:Nat}(hr:r<12)(x a:Int32)(ha:r=9→¬a=0):∃k,f2 (1,0,[.int (Int32.ofNat r),.int x],[],(false,ob))=some (some (.int k),(false,ob))∧own_tk r k a:=by
 rw[e2_1_0 hf2]
 match r,hr with
 |0,_=>
  by_cases q:x&&&1=0
  ·exact⟨16,by rw[if_pos (by decide),if_pos q],Or.inl rfl⟩
  ·exact⟨17,by rw[if_pos (by decide),if_neg q],Or.inr rfl⟩
 |1,_=>exact⟨2,rfl,rfl⟩
 |2,_=>exact⟨10,rfl,rfl⟩
 |3,_=>exact⟨1,rfl,rfl⟩
 |4,_=>exact⟨14,rfl,rfl⟩
 |5,_=>exact⟨2,rfl,rfl⟩
 |6,_=>exact⟨3,rfl,rfl⟩
 |7,_=>exact⟨2,rfl,rfl⟩
 |8,_=>exact⟨5,rfl,rfl⟩
 |9,_=>exact⟨1,rfl,rfl,ha rfl⟩
 |10,_=>exact⟨4,rfl,rfl⟩
 |11,_=>exact⟨15,rfl,rfl⟩
 |n+12,h=>exact absurd h (by omega)
theorem own_rep(hf1:Fx f1)(hf2:Fix2 ms1 ms2 iv1 431 nmax1 (some xs) f1 f2){S:MS}{n:Nat}(hn:n≤2000)(X:own_X n S)(h1:S 0 1=1)(z:own_Z S)(x14:Int32)(h14:x14=0):∀(f k:Nat),k+f=n→∀T:MS,own_nb T=own_it k (own_rst (own_nb S))→T 0 1=1→own_Z T→∃Z,f2 (0,382,[.ref 0,.ref 1,.int (Int32.ofNat n),.int (S 0 7),.int (S 0 9),.int (S 0 10),.int 0,.int 0,.int 0,.int 0,.int 0,.int 0,.int 0,.int 0,.int x14,.int (Int32.ofNat k)],[],(false,[T]))=some (some (.int 1),Z)
 |0,k,h,T,hT,t1,zT=>by
  have:k=n:=by omega
  subst this
  rw[←X.2] at hT
  have c:∀i,T 0 i=S 0 i:=fun i=>congrFun (congrFun hT 0) i
  have t1':¬T 0 1=0:=by rw[t1];decide
  have am:=(e2_2_0 hf2 [T] 0).trans (own_amF hf1 hf2 zT 8 0 rfl)
  have fin:∃Z,((f1 (11,0,[.ref 0],[],T)).bind fun q=>f2 (0,411,[.ref 0,.ref 1,.int (Int32.ofNat k),.int (S 0 7),.int (S 0 9),.int (S 0 10),.int 0,.int 0,.int 0,.int 0,.int 0,.int 0,.int 0,.int 0,.int x14,.int (Int32.ofNat k)],q.1.toList++[],(false,[q.2])))=some (some (.int 1),Z):=by
   rw[e1_11_0 hf1,if_neg t1'];simp only[Option.bind_some,Option.toList_some,Option.toList_none,List.cons_append,List.nil_append,List.append_nil]
   refine own_ew (e2_0_411 hf2 ..) ?_
   rw[if_pos (c 7),e1_12_0 hf1,if_neg t1'];simp only[Option.bind_some,Option.toList_some,Option.toList_none,List.cons_append,List.nil_append,List.append_nil]
   refine own_ew (e2_0_419 hf2 ..) ?_
   rw[if_pos ((c 8).trans X.1),e1_15_0 hf1,if_neg t1'];simp only[Option.bind_some,Option.toList_some,Option.toList_none,List.cons_append,List.nil_append,List.append_nil]
   refine own_ew (e2_0_429 hf2 ..) ?_
   rw[if_pos (c 9),e1_16_0 hf1,if_neg t1'];simp only[Option.bind_some,Option.toList_some,Option.toList_none,List.cons_append,List.nil_append,List.append_nil]
   refine own_ew (e2_0_438 hf2 ..) ?_
   rw[if_pos (c 10),am];simp only[Option.bind_some,Option.toList_some,Option.toList_none,List.cons_append,List.nil_append,List.append_nil]
   refine own_ew (e2_0_449 hf2 ..) ?_
   rw[if_pos rfl,own_vaF hf1 zT];simp only[Option.bind_some,Option.toList_some,Option.toList_none,List.cons_append,List.nil_append,List.append_nil]
   refine own_ew (e2_0_461 hf2 ..) ?_
   rw[if_pos rfl,own_vaF hf1 zT];simp only[Option.bind_some,Option.toList_some,Option.toList_none,List.cons_append,List.nil_append,List.append_nil]
   refine own_ew (e2_0_471 hf2 ..) ?_
   rw[if_pos rfl,own_vaF hf1 zT];simp only[Option.bind_some,Option.toList_some,Option.toList_none,List.cons_append,List.nil_append,List.append_nil]
   refine own_ew (e2_0_481 hf2 ..) ?_
   rw[if_pos rfl,own_vaF hf1 zT];simp only[Option.bind_some,Option.toList_some,Option.toList_none,List.cons_append,List.nil_append,List.append_nil]
   refine own_ew (e2_0_491 hf2 ..) ?_
   rw[if_pos rfl,own_vaF hf1 zT];simp only[Option.bind_some,Option.toList_some,Option.toList_none,List.cons_append,List.nil_append,List.append_nil]
   refine own_ew (e2_0_503 hf2 ..) ?_
   rw[if_pos rfl,own_vaF hf1 zT];simp only[Option.bind_some,Option.toList_some,Option.toList_none,List.cons_append,List.nil_append,List.append_nil]
   refine own_ew (e2_0_513 hf2 ..) ?_
   rw[if_pos rfl,own_vaF hf1 zT];simp only[Option.bind_some,Option.toList_some,Option.toList_none,List.cons_append,List.nil_append,List.append_nil]
   refine own_ew (e2_0_524 hf2 ..) ?_
   rw[if_pos rfl,own_vaF hf1 zT];simp only[Option.bind_some,Option.toList_some,Option.toList_none,List.cons_append,List.nil_append,List.append_nil]
   refine own_ew (e2_0_535 hf2 ..) ?_
   rw[if_pos h14.symm]
   exact⟨_,rfl⟩
  refine own_ew (e2_0_382 hf2 ..) ?_
  rw[if_neg (show ¬Int32.ofNat k<Int32.ofNat k from fun z=>by have:=(own_lt (by omega) (by omega)).mp z;omega)]
  by_cases q:Int32.ofNat k<2000
  ·rw[if_pos q];exact fin
  ·rw[if_neg q];exact fin
 |f+1,k,h,T,hT,t1,zT=>by
  refine own_ew (e2_0_382 hf2 ..) ?_
  rw[if_pos (show Int32.ofNat k<2000 from (own_lt (a:=k) (b:=2000) (by omega) (by decide)).mpr (by omega)),if_pos ((own_lt (by omega) (by omega)).mpr (by omega)),e1_8_0 hf1,if_neg (by rw[t1];decide)]
  have t7:own_nb T 0 7=T 0 7:=rfl
  by_cases q:T 0 7 = -2
  ·rw[if_pos q];simp only[Option.bind_some,Option.toList_some,Option.toList_none,List.cons_append,List.nil_append,List.append_nil]
   refine own_ew (e2_0_400 hf2 ..) ?_
   rw[own_add1]
   refine own_rep hf1 hf2 hn X h1 z x14 h14 f (k+1) (by omega) T ?_ t1 zT
   rw[own_it,←hT,own_sg,if_pos (t7.trans q)]
  ·rw[if_neg q,own_soF hf1];simp only[Option.bind_some,Option.toList_some,Option.toList_none,List.cons_append,List.nil_append,List.append_nil]
   rw[e1_8_25 hf1];simp only[Option.bind_some,Option.toList_some,Option.toList_none,List.cons_append,List.nil_append,List.append_nil]
   refine own_ew (e2_0_400 hf2 ..) ?_
   rw[own_add1]
   refine own_rep hf1 hf2 hn X h1 z x14 h14 f (k+1) (by omega) (own_stp T) ?_ (((own_Fsp T).1 1 (by omega)).trans t1) fun i hi=>?_
   ·rw[own_it,←hT,own_sg,if_neg (fun w=>q (t7.symm.trans w)),own_nbp]
   ·rw[(own_Fsp T).2.1 15 (by decide) (by decide) (by decide)];exact zT i hi
theorem own_fin9(hf1:Fx f1)(hf2:Fix2 ms1 ms2 iv1 431 nmax1 (some xs) f1 f2){b:Int}(hb:b≤1000000){S:MS}(K:own_K b S)(x2:Int32):∃Z,((f1 (11,0,[.ref 0],[],S)).bind fun q=>f2 (0,269,[.ref 0,.ref 1,.int x2],q.1.toList++[],(false,[q.2])))=some (some (.int 1),Z):=by
 obtain⟨k0,kt,kz,kr⟩:=K
 rw[e1_11_0 hf1]
 rcases kr with r | ⟨r,n,hn,X⟩
 ·rw[if_pos r];simp only[Option.bind_some,Option.toList_some,Option.toList_none,List.cons_append,List.nil_append,List.append_nil]
  refine own_ew (e2_0_269 hf2 ..) ?_
  rw[if_pos rfl]
  exact⟨_,rfl⟩
 ·have r0:¬S 0 1=0:=by rw[r];decide
  rw[if_neg r0];simp only[Option.bind_some,Option.toList_some,Option.toList_none,List.cons_append,List.nil_append,List.append_nil]
  refine own_ew (e2_0_269 hf2 ..) ?_
  by_cases w:S 0 7 = -1
  ·rw[if_pos w];exact⟨_,rfl⟩
  rw[if_neg w,e1_12_0 hf1,if_neg r0];simp only[Option.bind_some,Option.toList_some,Option.toList_none,List.cons_append,List.nil_append,List.append_nil]
  refine own_ew (e2_0_279 hf2 ..) ?_
  by_cases q:2000<S 0 8
  ·rw[if_pos q];exact⟨_,rfl⟩
  rw[if_neg q,e1_11_0 hf1,if_neg r0];simp only[Option.bind_some,Option.toList_some,Option.toList_none,List.cons_append,List.nil_append,List.append_nil]
  have n2:n≤2000:=by
   rw[X.1] at q
   have:¬2000<n:=fun z=>q ((own_lt (a:=2000) (b:=n) (by decide) (by omega)).mpr z)
   omega
  have am:=(e2_2_0 hf2 [S] 0).trans (own_amF hf1 hf2 kz 8 0 rfl)
  refine own_ew (e2_0_293 hf2 ..) ?_
  rw[e1_15_0 hf1,if_neg r0];simp only[Option.bind_some,Option.toList_some,Option.toList_none,List.cons_append,List.nil_append,List.append_nil]
  refine own_ew (e2_0_298 hf2 ..) ?_
  rw[e1_16_0 hf1,if_neg r0];simp only[Option.bind_some,Option.toList_some,Option.toList_none,List.cons_append,List.nil_append,List.append_nil]
  refine own_ew (e2_0_304 hf2 ..) ?_
  rw[am];simp only[Option.bind_some,Option.toList_some,Option.toList_none,List.cons_append,List.nil_append,List.append_nil]
  refine own_ew (e2_0_310 hf2 ..) ?_
  rw[own_vaF hf1 kz];simp only[Option.bind_some,Option.toList_some,Option.toList_none,List.cons_append,List.nil_append,List.append_nil]
  refine own_ew (e2_0_317 hf2 ..) ?_
  rw[own_vaF hf1 kz];simp only[Option.bind_some,Option.toList_some,Option.toList_none,List.cons_append,List.nil_append,List.append_nil]
  refine own_ew (e2_0_324 hf2 ..) ?_
  rw[own_vaF hf1 kz];simp only[Option.bind_some,Option.toList_some,Option.toList_none,List.cons_append,List.nil_append,List.append_nil]
  refine own_ew (e2_0_331 hf2 ..) ?_
  rw[own_vaF hf1 kz];simp only[Option.bind_some,Option.toList_some,Option.toList_none,List.cons_append,List.nil_append,List.append_nil]
  refine own_ew (e2_0_338 hf2 ..) ?_
  rw[own_vaF hf1 kz];simp only[Option.bind_some,Option.toList_some,Option.toList_none,List.cons_append,List.nil_append,List.append_nil]
  refine own_ew (e2_0_345 hf2 ..) ?_
  rw[own_vaF hf1 kz];simp only[Option.bind_some,Option.toList_some,Option.toList_none,List.cons_append,List.nil_append,List.append_nil]
  refine own_ew (e2_0_352 hf2 ..) ?_
  rw[own_vaF hf1 kz];simp only[Option.bind_some,Option.toList_some,Option.toList_none,List.cons_append,List.nil_append,List.append_nil]
  refine own_ew (e2_0_360 hf2 ..) ?_
  rw[own_vaF hf1 kz];simp only[Option.bind_some,Option.toList_some,Option.toList_none,List.cons_append,List.nil_append,List.append_nil]
  refine own_ew (e2_0_368 hf2 ..) ?_
  rw[e1_10_0 hf1,if_neg r0,own_rsF hf1];simp only[Option.bind_some,Option.toList_some,Option.toList_none,List.cons_append,List.nil_append,List.append_nil]
  rw[e1_10_13 hf1];simp only[Option.bind_some,Option.toList_some,Option.toList_none,List.cons_append,List.nil_append,List.append_nil]
  refine own_ew (e2_0_374 hf2 ..) ?_
  rw[if_neg (by decide),X.1]
  exact own_rep hf1 hf2 n2 X r kz 0 rfl n 0 (by omega) (own_rst S) (own_nbr S) (((own_Fsrs S).1 1 (by omega)).trans r) fun i hi=>by rw[(own_Fsrs S).2.1 15 (by decide) (by decide) (by decide)];exact kz i hi
theorem own_loop9(hf1:Fx f1)(hf2:Fix2 ms1 ms2 iv1 431 nmax1 (some xs) f1 f2)(hlen:own_len xs):∀(n:Nat) {S:MS} (x2:Int32),0≤x2.toInt→x2.toInt≤1000→own_K (256*x2.toInt) S→(260-x2.toInt).toNat<n→∃Z,f2 (0,22,[.ref 0,.ref 1,.int x2],[],(false,[S]))=some (some (.int 1),Z)
 |0,S,x2,h0,h1,K,hn=>absurd hn (Nat.not_lt_zero _)
 |n+1,S,x2,h0,h1,K,hn=>by
  have hl:xs.length≤260:=hlen
  have l3:(3:Int32).toInt=3:=rfl
  have l2:(2:Int32).toInt=2:=rfl
  have l1:(1:Int32).toInt=1:=rfl
  have a3:(x2+3).toInt=x2.toInt+3:=by rw[Int32.toInt_add,l3];exact bm32 (by omega) (by omega)
  have a2:(x2+2).toInt=x2.toInt+2:=by rw[Int32.toInt_add,l2];exact bm32 (by omega) (by omega)
  have a1:(x2+1).toInt=x2.toInt+1:=by rw[Int32.toInt_add,l1];exact bm32 (by omega) (by omega)
  have lnn:(Int32.ofNat xs.length).toInt=xs.length:=own_toInt_ofNat (by omega)
  refine own_ew (e2_0_22 hf2 ..) ?_
  by_cases q:Int32.ofNat xs.length<x2+3
  ·rw[if_pos q]
   exact own_fin9 hf1 hf2 (by omega) K _
  ·have q':=q
   rw[Int32.lt_iff_toInt_lt,a3,lnn] at q'
   have nx:∀ {S:MS} {b:Int},own_K b S→b≤256*x2.toInt+256→∃Z,f2 (0,22,[.ref 0,.ref 1,.int (x2+3)],[],(false,[S]))=some (some (.int 1),Z):=fun K hb=>own_loop9 hf1 hf2 hlen n (x2+3) (by omega) (by omega) (own_Kb (by omega) K) (by omega)
   rw[if_neg q,if_pos (own_inb_iff.mpr ⟨h0,by omega⟩),if_pos (own_inb_iff.mpr ⟨by omega,by omega⟩),if_pos (own_inb_iff.mpr ⟨by omega,by omega⟩)]
   generalize xs.getD x2.toNatClampNeg 0&&&15=o
   generalize xs.getD (x2+1).toNatClampNeg 0=x
   generalize xs.getD (x2+2).toNatClampNeg 0=y
   by_cases o6:6<o
   ·rw[if_pos o6]
    by_cases o8:8<o
    ·rw[if_pos o8]
     by_cases o10:10<o
     ·rw[if_pos o10]
      by_cases o12:12<o
      ·rw[if_pos o12]
       by_cases o14:14<o
       ·rw[if_pos o14]
        by_cases y7:y&&&7=0
        ·obtain⟨S',e,h⟩:=own_caF hf1 S
         rw[if_pos y7,e1_3_0 hf1,e];simp only[Option.bind_some,Option.toList_some,Option.toList_none,List.cons_append,List.nil_append,List.append_nil]
         rw[e1_3_4 hf1];simp only[Option.bind_some,Option.toList_some,Option.toList_none,List.cons_append,List.nil_append,List.append_nil]
         exact own_ew (e2_0_251 hf2 ..) (nx (own_Kc hf1 K.1 K.2.2.1 h (b:=0)) (by omega))
        ·obtain⟨v,S',e,K'⟩:=own_rtF hf1 (by omega) K
         rw[if_neg y7,e];simp only[Option.bind_some,Option.toList_some,Option.toList_none,List.cons_append,List.nil_append,List.append_nil]
         exact own_ew (e2_0_258 hf2 ..) (nx K' (by omega))
       ·obtain⟨v,S',e,K'⟩:=own_ruF hf1 K ((x&&&15)-1)
        rw[if_neg o14,e];simp only[Option.bind_some,Option.toList_some,Option.toList_none,List.cons_append,List.nil_append,List.append_nil]
        exact own_ew (e2_0_235 hf2 ..) (nx K' (by omega))
      ·obtain⟨v,S',e,K'⟩:=own_stpF hf1 K
       rw[if_neg o12,e];simp only[Option.bind_some,Option.toList_some,Option.toList_none,List.cons_append,List.nil_append,List.append_nil]
       exact own_ew (e2_0_214 hf2 ..) (nx K' (by omega))
     ·rw[if_neg o10]
      by_cases y1:y&&&1=1
      ·obtain⟨v,S',e,K'⟩:=own_sbF hf1 K (x&&&15) 1
       rw[if_pos y1,e];simp only[Option.bind_some,Option.toList_some,Option.toList_none,List.cons_append,List.nil_append,List.append_nil]
       exact own_ew (e2_0_200 hf2 ..) (nx K' (by omega))
      ·obtain⟨v,S',e,K'⟩:=own_sbF hf1 K (x&&&15) 0
       rw[if_neg y1,e];simp only[Option.bind_some,Option.toList_some,Option.toList_none,List.cons_append,List.nil_append,List.append_nil]
       exact own_ew (e2_0_200 hf2 ..) (nx K' (by omega))
    ·rw[if_neg o8]
     by_cases r:S 0 1=0
     ·obtain⟨k0,⟨c,hc,h3,ht⟩,kz,-⟩:=K
      obtain⟨v,S',e,c0,c3,ca,cb,cz,cr⟩:=own_cpF hf1 r hc h3 ht k0 kz
      rw[e];simp only[Option.bind_some,Option.toList_some,Option.toList_none,List.cons_append,List.nil_append,List.append_nil]
      refine own_ew (e2_0_168 hf2 ..) (nx (b:=0) ⟨by rw[c0];exact k0,⟨c,hc,c3.trans h3,fun j hj=>by rw[ca,cb];exact ht j hj⟩,cz,cr.imp id fun z=>⟨z.1,0,by omega,z.2⟩⟩ (by omega))
     ·rw[e1_4_0 hf1,if_neg r];simp only[Option.bind_some,Option.toList_some,Option.toList_none,List.cons_append,List.nil_append,List.append_nil]
      exact own_ew (e2_0_168 hf2 ..) (nx K (by omega))
   ·rw[if_neg o6,e1_2_0 hf1];simp only[Option.bind_some,Option.toList_some,Option.toList_none,List.cons_append,List.nil_append,List.append_nil]
    obtain⟨c,hc,h3,ht⟩:=id K.2.1
    have m12:Int32.ofNat c%12=Int32.ofNat (c%12):=own_m12 ⟨c,by omega⟩
    have hr:c%12<12:=Nat.mod_lt _ (by decide)
    have go:∀x8 x9:Int32,(c%12=9→¬x9=0)→∃Z,((f2 (1,0,[.int (Int32.ofNat (c%12)),.int x],[],(false,[S]))).bind fun q=>f2 (0,144,[.ref 0,.ref 1,.int x2,.int o,.int x,.int y,.int (Int32.ofNat c),.int (Int32.ofNat (c%12)),.int x8,.int x9],q.1.toList++[],q.2))=some (some (.int 1),Z):=fun x8 x9 h9=>by
     obtain⟨kd,ek,T⟩:=own_kaF hf1 hf2 [S] hr x x9 h9
     obtain⟨v,S',e,K'⟩:=own_atF hf1 K hc h3 T
     rw[ek];simp only[Option.bind_some,Option.toList_some,Option.toList_none,List.cons_append,List.nil_append,List.append_nil]
     refine own_ew (e2_0_144 hf2 ..) ?_
     rw[e];simp only[Option.bind_some,Option.toList_some,Option.toList_none,List.cons_append,List.nil_append,List.append_nil]
     exact own_ew (e2_0_154 hf2 ..) (nx K' (by omega))
    have ne:∀ {v:Nat},v<12→(Int32.ofNat (c%12)=Int32.ofNat v↔c%12=v):=fun {v} hv=>⟨fun z=>by
     have:=congrArg Int32.toInt z
     rw[own_toInt_ofNat (by omega),own_toInt_ofNat (by omega)] at this
     omega,fun z=>by rw[z]⟩
    refine own_ew (e2_0_61 hf2 ..) ?_
    rw[h3,m12]
    by_cases p1:Int32.ofNat (c%12)=1
    ·rw[if_pos p1];exact go _ _ fun z=>by have:=(ne (v:=1) (by decide)).mp p1;omega
    rw[if_neg p1]
    by_cases p5:Int32.ofNat (c%12)=5
    ·rw[if_pos p5];exact go _ _ fun z=>by have:=(ne (v:=5) (by decide)).mp p5;omega
    rw[if_neg p5]
    by_cases p7:Int32.ofNat (c%12)=7
    ·rw[if_pos p7];exact go _ _ fun z=>by have:=(ne (v:=7) (by decide)).mp p7;omega
    rw[if_neg p7]
    by_cases p3:Int32.ofNat (c%12)=3
    ·rw[if_pos p3];exact go _ _ fun z=>by have:=(ne (v:=3) (by decide)).mp p3;omega
    rw[if_neg p3]
    by_cases p9:Int32.ofNat (c%12)=9
    ·rw[if_pos p9]
     refine go _ _ fun _=>?_
     have a:=and_le (x:=y) (c:=3) (by decide)
     have e3:(3:Int32).toInt=3:=rfl
     intro w
     have:=congrArg Int32.toInt w
     rw[Int32.toInt_add,l1,bm32 (by omega) (by omega)] at this
     have l0:(0:Int32).toInt=0:=rfl
     omega
    ·rw[if_neg p9];exact go _ _ fun z=>absurd ((ne (v:=9) (by decide)).mpr z) p9
end Law9
theorem own_run{f1:FT1}{f2:FT2}{xs:List Int32}(hf1:Fx f1)(hf2:Fix2 ms1 ms2 iv1 431 nmax1 (some xs) f1 f2)(hxs:xs.length<2147483648)(hlen:own_len xs):∃W,f2 (0,0,[.ref 0],[],(false,[]))=some (some (.int 1),W):=by
 have z:own_Z (iniS iv1):=fun i hi=>by
  have:∀i:Fin 40,iniS iv1 15 i.val=0:=by decide +kernel
  exact this ⟨i,hi⟩
 have mk:∀x:Int32,∃S,f1 (0,431,[.ref 0,.int x],[],iniS iv1)=some (none,S)∧own_K (256*1) S:=fun x=>by
  have cl:∀(x1 x2 v:Int32),0<v→∃S',((f1 (17,0,[.ref 0],[],Jvm.OM.upd (iniS iv1) 0 0 v)).bind fun q=>f1 (0,458,[.ref 0,.int x1,.int x2],q.1.toList++[],q.2))=some (none,S')∧own_K (256*1) S':=fun x1 x2 v hv=>by
   obtain⟨S',e,h⟩:=own_caF hf1 (Jvm.OM.upd (iniS iv1) 0 0 v)
   rw[e];simp only[Option.bind_some,Option.toList_some,Option.toList_none,List.cons_append,List.nil_append,List.append_nil]
   rw[e1_0_458 hf1]
   exact⟨S',rfl,own_Kc hf1 (S:=Jvm.OM.upd (iniS iv1) 0 0 v) hv z h⟩
  have l2:(2:Int32).toInt=2:=rfl
  have l0:(0:Int32).toInt=0:=rfl
  rw[e1_0_431 hf1]
  by_cases a:x<2
  ·rw[if_pos a,e1_0_440 hf1,if_neg (by decide)]
   exact cl _ _ _ (by decide)
  ·rw[if_neg a,e1_0_440 hf1]
   rw[Int32.lt_iff_toInt_lt] at a
   by_cases b:8<x
   ·rw[if_pos b];exact cl _ _ _ (by decide)
   ·rw[if_neg b]
    exact cl _ _ _ (by rw[Int32.lt_iff_toInt_lt];omega)
 have go:∀ {S:MS},own_K (256*1) S→∃Z,f2 (0,19,[.ref 0],[.ref 1],(false,[S]))=some (some (.int 1),Z):=fun {S} K=>by
  refine own_ew (e2_0_19 hf2 ..) ?_
  exact own_loop9 hf1 hf2 hlen 261 1 (by decide) (by decide) K (by decide)
 refine own_ew (e2_0_0 hf2 ..) ?_
 by_cases q:0<Int32.ofNat xs.length
 ·rw[if_pos q,if_pos (own_inb_iff.mpr ⟨by decide,by
   rw[Int32.lt_iff_toInt_lt,own_toInt_ofNat hxs] at q
   exact q⟩)]
  obtain⟨S,e,K⟩:=mk (xs.getD (0:Int32).toNatClampNeg 0)
  rw[e];simp only[Option.bind_some,Option.toList_some,Option.toList_none,List.cons_append,List.nil_append,List.append_nil]
  exact go K
 ·rw[if_neg q]
  obtain⟨S,e,K⟩:=mk 3
  rw[e];simp only[Option.bind_some,Option.toList_some,Option.toList_none,List.cons_append,List.nil_append,List.append_nil]
  exact go K
theorem own_script{s:State}{w0:Value}(hn:narrow_1.value #[w0] s none s []=some true)(hr:rest_1_c.before #[w0] s=true):∃(sa:Nat) (cell:Cell) (xs:List Int32),w0 = .ref sa∧sa<s.heap.size∧xs.length<2147483648∧own_len xs∧Arr s s.heap sa cell .int∧cell.slots.size=xs.length∧∀i,i<xs.length→cell.slots[i]? = some (.int (xs.getD i 0)):=by
 obtain⟨n1,n2⟩:=and_e hn
 obtain⟨r1,r2⟩:=and_e (Cond.before_iff.mp hr)
 obtain⟨b,xs,hb,hx⟩:=State.ints_of_pre (t:= .arg 0) rfl (Cond.before_iff.mpr n1) (Cond.before_iff.mpr r1) (Cond.before_iff.mpr r2)
 have hw:w0 = .ref b:=by simpa [Term.eval] using hb
 subst hw
 have hl:=hx.small
 have he:=hx.length_eval (t:= .arg 0) hb
 rw[Cond.le_ints he rfl] at n2
 obtain⟨cell,h1,h2,h3,h4⟩:=hx
 obtain⟨hc,-,-,-⟩:=State.arrayAt?_spec h1
 obtain⟨-,hu⟩:=Cond.arrayOf_spec (Cond.before_iff.mpr n1) hb hc
 have hsz:cell.slots.size=xs.length:=by rw[←Array.length_toList,h2,List.length_map]
 refine⟨b,cell,xs,rfl,(Array.getElem?_eq_some_iff.mp hc).1,hl,?_,⟨hc,h3,hu⟩,hsz,fun i hi=>?_⟩
 ·have q:xs.length.toInt32≤260:=by simpa using n2
  rw[Int32.le_iff_toInt_le] at q
  have e1:xs.length.toInt32.toInt=xs.length:=Int32.toInt_ofNat_of_lt hl
  have e2:(260:Int32).toInt=260:=rfl
  rw[e1,e2] at q
  show xs.length≤260
  omega
 ·rw[←Array.getElem?_toList,h2]
  simp[hi,List.getD]
theorem own_met(l:Launch)(Z:State)(a0:Array Value)(hw:∀d∈tables_1,d.before a0 Z=true)(ws:List Jvm.Cond)(h:Heap)(sa:Nat)(xs:List Int32)(hxs:xs.length<2147483648)(hlen:own_len xs)(hsa:sa<h.size)(cell:Cell)(A:Arr Z h sa cell .int)(hs:cell.slots.size=xs.length)(he:∀i,i<xs.length→cell.slots[i]? = some (.int (xs.getD i 0))) :
  MetFree l x (head1 (Jvm.Cond.code x code maxLocals ret::ws) room_1) (fun a U=>a = #[.ref sa]∧Z.Warmed39 U.vm∧U.heap=h) (fun _ _ _ _ _=>True)
   (fun _ U o U'=>∃v L,o = .returned v∧(v=some (.int 1)∧Fr h.size L)∧FrameEnd U o U' L room_1.cells room_1.slots):=
 law_of (sc:=some xs) (sa:=sa) (nmax:=nmax1) (as:=[.ref 0]) own_d1 own_g1 own_r1 own_d2 own_g2 own_rv own_rc own_rs own_h1 own_h2 hw rfl (Nat.le_of_ble_eq_true rfl) (Nat.le_of_ble_eq_true rfl) (Nat.le_of_ble_eq_true rfl) (Nat.le_of_ble_eq_true rfl) (Nat.le_of_ble_eq_true rfl) (fun ys q=>by cases q;exact⟨hsa,hxs,cell,A,hs,he⟩)
  (fun f1 f2 hf1 hf2=>own_run hf1 hf2 hxs hlen) ws
theorem comes_1{Post:Tables→Env→Array Value→State→Outcome→State→Prop}(hpost:∀tb e args s v u,(limb_1_1.after args s (.returned v) u=true∧limb_1_2.after args s (.returned v) u=true∧True)→FrameEnd s (.returned v) u (Jvm.fieldLocs frame_1_writes args s++Jvm.arrayLocs frame_1_arrays args s++Jvm.staticLocs frame_1_statics s) 72 12224→Post tb e args s (.returned v) u) :
  ArmFor flags0 classFile x code maxLocals ret World_1 tables_1 room_1 Calls_1 rest_1 Pre_1 Post:=by
 intro l hfl _ _ p e ha hc hk s m args below hf hA hF happ hP
 obtain⟨hcalls,hrest,hpre⟩:=hP
 obtain⟨-,-,-,hnamed,-,-,-,hat⟩:=(Spec.applies_iff hf).mp happ
 obtain⟨hg,hn⟩:=and_e (Cond.before_iff.mp (show (Jvm.Cond.and given_1 narrow_1).before args s=true from hpre))
 obtain⟨g0,q0⟩:=and_e hg
 obtain⟨w0,rfl⟩:∃w0:Value,args = #[w0]:=by
  have hs:args.size=1:=by simpa [Cond.value,given_1] using g0
  obtain⟨L⟩:=args
  match L,hs with
  |[w0],_=>exact⟨w0,rfl⟩
 have hw:=fun d (hd:d∈tables_1)=>atoms_spec (ws:=Jvm.Cond.code x code maxLocals ret::tables_1) hat d (List.mem_cons_of_mem _ hd)
 obtain⟨sa,cell,xs,rfl,hsa,hxs,hlen,A,hz,he⟩:=own_script hn (show rest_1_c.before _ _=true from hrest)
 obtain⟨n,o,h1,h2,h3,_,L,rfl,⟨rfl,N⟩,hq⟩:=own_met l s _ hw tables_1 s.heap sa xs hxs hlen hsa cell A hz he p e ha hc hk s m _ below hf ((Spec.applies_iff_loose hf).mp happ).1 ⟨rfl,State.Warmed39.refl s,rfl⟩ trivial
 refine⟨n,_,h1,h2,h3,hpost _ _ _ _ _ _ ⟨Cond.after_iff.mpr rfl,Cond.after_iff.mpr (eq_i res_at (Term.int_eval (1)) rfl),trivial⟩ ⟨hq.1,hq.2.1,(hq.2.2.sift fun y hy=>Or.inr (N y hy)).mono (Nat.le_of_ble_eq_true rfl) (Nat.le_of_ble_eq_true rfl)⟩⟩
theorem main_1_1:Claimed_1_1:=comes_1 fun _ _ _ _ _ _ h hF=>⟨h.1,hF⟩
theorem main_1_2:Claimed_1_2:=comes_1 fun _ _ _ _ _ _ h hF=>⟨h.2.1,hF⟩
end Jvm.Pilot.@@N@@
namespace Jvm.Pilot.@@N@@
open Jvm Jvm.ClassFile Sem Op Lib Jvm.Free Jvm.Stand Jvm.Pilot.@@N@@.Jvm.D
/-! MADE BY PROGRAM (witnessworld.py) out of the Statement's table words and the real class files: 11 classes; the members and pool entries that the words name. The judged class is class 1, her method 1. -/
namespace start1
open Jvm.ClassFile
def u (s : String) : CpInfo := .utf8 (stringToUtf16 s)
/-- a pool by its gaps: so many unusable entries, then the entry; so many at the end -/
def gap : Nat → List CpInfo → List CpInfo
  | 0, r => r
  | n + 1, r => .unusable :: gap n r
def poolList (es : List (Nat × CpInfo)) (last : Nat) : List CpInfo := es.foldr (fun e r => gap e.1 (e.2 :: r)) (gap last [])
def pool (es : List (Nat × CpInfo)) (last : Nat) : Array CpInfo := ⟨poolList es last⟩
def fileOf (pool : Array CpInfo) (this : Nat) (attrs : Array Attribute := #[]) (ms : Array MethodInfo := #[]) (fl : Nat := 33) (sup : Nat := 0) (ifs : Array Nat := #[]) (fds : Array FieldInfo := #[]) : ClassFile where
  minorVersion := 0
  majorVersion := 65
  constantPool := pool
  accessFlags := fl
  thisClass := this
  superClass := sup
  interfaces := ifs
  fields := fds
  methods := ms
  attributes := attrs
def plain (name : String) (sup : Option ClassId) : Class where
  name := name
  kind := .ordinary
  loader := none
  accessFlags := 33
  super := sup
  interfaces := #[]
  cf := none
  fields := #[]
  methods := #[]
  instanceTypes := #[]
  staticTypes := #[]
  resolved := #[]
  callSites := []
  init := .initialized
  statics := none
  mirror := none

def pool0 : Array CpInfo := pool [(5, u "<init>"), (0, u "()V"), (1, .class_ 10), (1, u "java/lang/Object")] 113

def k0c0 : Code := { maxStack := 0, maxLocals := 1, code := object_method_1_code, exceptionTable := #[], attributes := #[] }
def k0m0 : Method := { name := "<init>", desc := "()V", sig := { parameters := [], returnType := none }, accessFlags := 1, code := some k0c0 }
/-- java/lang/Object -/
def k0 : Class := { plain "java/lang/Object" none with
  accessFlags := 33
  interfaces := #[]
  cf := some (fileOf pool0 8 #[] #[{ accessFlags := 1, nameIndex := 5, descriptorIndex := 6, attributes := #[] }] 33 0 #[] #[])
  fields := #[]
  methods := #[k0m0]
  instanceTypes := #[]
  staticTypes := #[]
  resolved := Array.replicate 124 none
  statics := none }

def pool1 : Array CpInfo := pool [(2, .class_ 4), (1, u "java/lang/Object"), (0, u "<init>"), (0, u "()V"), (0, .class_ 8), (0, u "LocListDebug"), (0, .methodref 7 10), (0, .nameAndType 5 11), (0, u "(I)V"), (0, .methodref 7 13), (0, .nameAndType 14 15), (0, u "tokenCount"), (0, u "()I"), (0, .methodref 17 18), (0, .class_ 19), (0, .nameAndType 20 21), (0, u "LocListDebugL7"), (0, u "kindAt"), (0, u "(II)I"), (0, .methodref 7 23), (0, .nameAndType 24 25), (0, u "addToken"), (0, u "(II)Z"), (0, .methodref 7 27), (0, .nameAndType 28 15), (0, u "compile"), (0, .methodref 7 30), (0, .nameAndType 31 32), (0, u "setBreak"), (0, u "(IZ)Z"), (0, .methodref 7 34), (0, .nameAndType 35 15), (0, u "step"), (0, .methodref 7 37), (0, .nameAndType 38 39), (0, u "run"), (0, u "(I)I"), (0, .methodref 7 41), (0, .nameAndType 42 6), (0, u "reset"), (0, .methodref 7 44), (0, .nameAndType 45 46), (0, u "restart"), (0, u "()Z"), (0, .methodref 7 48), (0, .nameAndType 49 15), (0, u "where"), (0, .methodref 7 51), (0, .nameAndType 52 15), (0, u "stepsTaken"), (0, .methodref 7 54), (0, .nameAndType 55 15), (0, u "lastVar"), (0, .methodref 7 57), (0, .nameAndType 58 15), (0, u "lastValue"), (0, .methodref 17 60), (0, .nameAndType 61 62), (0, u "availMask"), (0, u "(LLocListDebug;)I"), (0, .methodref 7 64), (0, .nameAndType 65 39), (0, u "value"), (0, .methodref 7 67), (0, .nameAndType 68 69), (0, u "isAvailable"), (0, u "(I)Z"), (2, u "law"), (0, u "([I)Z")] 5

def k1m0 : Method := { name := "<init>", desc := "()V", sig := { parameters := [], returnType := none }, accessFlags := 1, code := none }
def k1c1 : Code := { maxStack := 4, maxLocals := 16, code := code, exceptionTable := #[], attributes := #[] }
def k1m1 : Method := { name := "law", desc := "([I)Z", sig := { parameters := [(.array .int)], returnType := some .boolean }, accessFlags := 9, code := some k1c1 }
def k1c2 : Code := { maxStack := 2, maxLocals := 2, code := method_3_code, exceptionTable := #[], attributes := #[] }
def k1m2 : Method := { name := "kindAt", desc := "(II)I", sig := { parameters := [.int, .int], returnType := some .int }, accessFlags := 10, code := some k1c2 }
def k1c3 : Code := { maxStack := 3, maxLocals := 3, code := method_4_code, exceptionTable := #[], attributes := #[] }
def k1m3 : Method := { name := "availMask", desc := "(LLocListDebug;)I", sig := { parameters := [(.object "LocListDebug")], returnType := some .int }, accessFlags := 10, code := some k1c3 }
/-- LocListDebugL7 -/
def k1 : Class := { plain "LocListDebugL7" (some 0) with
  accessFlags := 33
  interfaces := #[]
  cf := some (fileOf pool1 17 #[] #[{ accessFlags := 1, nameIndex := 5, descriptorIndex := 6, attributes := #[] }, { accessFlags := 9, nameIndex := 72, descriptorIndex := 73, attributes := #[] }, { accessFlags := 10, nameIndex := 20, descriptorIndex := 21, attributes := #[] }, { accessFlags := 10, nameIndex := 61, descriptorIndex := 62, attributes := #[] }] 33 2 #[] #[])
  fields := #[]
  methods := #[k1m0, k1m1, k1m2, k1m3]
  instanceTypes := #[]
  staticTypes := #[]
  resolved := Array.replicate 79 none
  statics := none }

def pool2 : Array CpInfo := pool [(1, .methodref 2 3), (0, .class_ 4), (0, .nameAndType 5 6), (0, u "java/lang/Object"), (0, u "<init>"), (0, u "()V"), (0, .fieldref 8 9), (0, .class_ 10), (0, .nameAndType 11 12), (0, u "LocListDebug"), (0, u "MAX_STMTS"), (0, u "I"), (0, .fieldref 8 14), (0, .nameAndType 15 12), (0, u "CODE_MAX"), (0, .fieldref 8 17), (0, .nameAndType 18 12), (0, u "MEM_SIZE"), (0, .fieldref 8 20), (0, .nameAndType 21 12), (0, u "STACK_MAX"), (0, .fieldref 8 23), (0, .nameAndType 24 12), (0, u "BLOCK_MAX"), (0, .fieldref 8 26), (0, .nameAndType 27 12), (0, u "LOC_MAX"), (0, .fieldref 8 29), (0, .nameAndType 30 12), (0, u "SPILL_BASE"), (0, .fieldref 8 32), (0, .nameAndType 33 12), (0, u "I_LDI"), (0, .fieldref 8 35), (0, .nameAndType 36 12), (0, u "I_LD"), (0, .fieldref 8 38), (0, .nameAndType 39 12), (0, u "I_ST"), (0, .fieldref 8 41), (0, .nameAndType 42 12), (0, u "I_STI"), (0, .fieldref 8 44), (0, .nameAndType 45 12), (0, u "I_OP"), (0, .fieldref 8 47), (0, .nameAndType 48 12), (0, u "I_OPI"), (0, .fieldref 8 50), (0, .nameAndType 51 12), (0, u "I_NEG"), (0, .fieldref 8 53), (0, .nameAndType 54 12), (0, u "I_STOP"), (0, .fieldref 8 56), (0, .nameAndType 57 12), (0, u "I_BR"), (0, .fieldref 8 59), (0, .nameAndType 60 12), (0, u "I_BRK"), (0, .fieldref 8 62), (0, .nameAndType 63 12), (0, u "OP_NEG"), (0, .fieldref 8 65), (0, .nameAndType 66 12), (0, u "OP_PAREN"), (0, .fieldref 8 68), (0, .nameAndType 69 12), (0, u "E_CONST"), (0, .fieldref 8 71), (0, .nameAndType 72 12), (0, u "E_VAR"), (0, .fieldref 8 74), (0, .nameAndType 75 12), (0, u "E_REG"), (0, .fieldref 8 77), (0, .nameAndType 78 12), (0, u "E_SLOT"), (0, .fieldref 8 80), (0, .nameAndType 81 12), (0, u "L_NONE"), (0, .fieldref 8 83), (0, .nameAndType 84 12), (0, u "L_SLOT"), (0, .fieldref 8 86), (0, .nameAndType 87 12), (0, u "L_CONST"), (0, .fieldref 8 89), (0, .nameAndType 90 12), (0, u "L_REG"), (0, .fieldref 8 92), (0, .nameAndType 93 12), (0, u "P_STMT"), (0, .fieldref 8 95), (0, .nameAndType 96 12), (0, u "P_ASSIGN"), (0, .fieldref 8 98), (0, .nameAndType 99 12), (0, u "P_OPERAND"), (0, .fieldref 8 101), (0, .nameAndType 102 12), (0, u "P_OPERATOR"), (0, .fieldref 8 104), (0, .nameAndType 105 106), (0, u "tokKind"), (0, u "[I"), (0, .fieldref 8 108), (0, .nameAndType 109 106), (0, u "tokArg"), (0, .fieldref 8 111), (0, .nameAndType 112 106), (0, u "stKind"), (0, .fieldref 8 114), (0, .nameAndType 115 106), (0, u "stVar"), (0, .fieldref 8 117), (0, .nameAndType 118 106), (0, u "stParent"), (0, .fieldref 8 120), (0, .nameAndType 121 106), (0, u "stPrev"), (0, .fieldref 8 123), (0, .nameAndType 124 106), (0, u "stNext"), (0, .fieldref 8 126), (0, .nameAndType 127 106), (0, u "stFirst"), (0, .fieldref 8 129), (0, .nameAndType 130 106), (0, u "stStart"), (0, .fieldref 8 132), (0, .nameAndType 133 106), (0, u "stTerm"), (0, .fieldref 8 135), (0, .nameAndType 136 106), (0, u "stSucc"), (0, .fieldref 8 138), (0, .nameAndType 139 106), (0, u "stMask"), (0, .fieldref 8 141), (0, .nameAndType 142 106), (0, u "stResKind"), (0, .fieldref 8 144), (0, .nameAndType 145 106), (0, u "stResVal"), (0, .fieldref 8 147), (0, .nameAndType 148 106), (0, u "stDef"), (0, .fieldref 8 150), (0, .nameAndType 151 152), (0, u "brk"), (0, u "[Z"), (0, .fieldref 8 154), (0, .nameAndType 155 106), (0, u "locKind"), (0, .fieldref 8 157), (0, .nameAndType 158 106), (0, u "locVal"), (0, .fieldref 8 160), (0, .nameAndType 161 106), (0, u "cOp"), (0, .fieldref 8 163), (0, .nameAndType 164 106), (0, u "cA"), (0, .fieldref 8 166), (0, .nameAndType 167 106), (0, u "cB"), (0, .fieldref 8 169), (0, .nameAndType 170 106), (0, u "cC"), (0, .fieldref 8 172), (0, .nameAndType 173 106), (0, u "mem"), (0, .fieldref 8 175), (0, .nameAndType 176 106), (0, u "reg"), (0, .fieldref 8 178), (0, .nameAndType 179 106), (0, u "blkOwner"), (0, .fieldref 8 181), (0, .nameAndType 182 106), (0, u "blkLast"), (0, .fieldref 8 184), (0, .nameAndType 185 106), (0, u "entKind"), (0, .fieldref 8 187), (0, .nameAndType 188 106), (0, u "entVal"), (0, .fieldref 8 190), (0, .nameAndType 191 106), (0, u "regOwner"), (0, .fieldref 8 193), (0, .nameAndType 194 106), (0, u "opStk"), (0, .fieldref 8 196), (0, .nameAndType 197 152), (0, u "cmpSeen"), (0, .fieldref 8 199), (0, .nameAndType 200 12), (0, u "regCount"), (0, .methodref 8 202), (0, .nameAndType 203 6), (0, u "clearAll"), (0, .fieldref 8 205), (0, .nameAndType 206 207), (0, u "running"), (0, u "Z"), (0, .fieldref 8 209), (0, .nameAndType 210 12), (0, u "tokCount"), (0, .methodref 8 212), (0, .nameAndType 213 214), (0, u "parseAll"), (0, u "()I"), (0, .fieldref 8 216), (0, .nameAndType 217 12), (0, u "errPos"), (0, .fieldref 8 219), (0, .nameAndType 220 12), (0, u "stmtCount"), (0, .fieldref 8 222), (0, .nameAndType 223 12), (0, u "codeLen"), (0, .methodref 8 225), (0, .nameAndType 226 6), (0, u "linkStatements"), (0, .methodref 8 228), (0, .nameAndType 229 6), (0, u "buildLocationLists"), (0, .methodref 8 231), (0, .nameAndType 232 6), (0, u "clearBreaks"), (0, .methodref 8 234), (0, .nameAndType 235 6), (0, u "restartMachine"), (0, .fieldref 8 237), (0, .nameAndType 238 12), (0, u "cur"), (0, .methodref 8 240), (0, .nameAndType 241 6), (0, u "stepOnce"), (0, .methodref 8 243), (0, .nameAndType 244 245), (0, u "breakAt"), (0, u "(I)Z"), (0, .fieldref 8 247), (0, .nameAndType 248 12), (0, u "steps"), (0, .methodref 8 250), (0, .nameAndType 251 214), (0, u "stopIndex"), (0, .methodref 8 253), (0, .nameAndType 254 245), (0, u "isAvailable"), (3, u "(II)I"), (0, .fieldref 8 260), (0, .nameAndType 261 12), (0, u "lastV"), (0, .fieldref 8 263), (0, .nameAndType 264 12), (0, u "lastVal"), (0, .fieldref 8 266), (0, .nameAndType 267 12), (0, u "topLast"), (0, .methodref 8 269), (0, .nameAndType 270 6), (0, u "beginParse"), (0, .methodref 8 272), (0, .nameAndType 273 274), (0, u "feed"), (0, u "(II)Z"), (0, .fieldref 8 276), (0, .nameAndType 277 12), (0, u "pState"), (0, .fieldref 8 279), (0, .nameAndType 280 12), (0, u "blkDepth"), (0, .fieldref 8 282), (0, .nameAndType 283 12), (0, u "curStmt"), (0, .methodref 8 285), (0, .nameAndType 286 6), (0, u "resetExpr"), (0, .methodref 8 288), (0, .nameAndType 289 274), (0, u "feedStatementStart"), (0, .methodref 8 291), (0, .nameAndType 292 274), (0, u "feedOperand"), (0, .methodref 8 294), (0, .nameAndType 295 245), (0, u "feedOperator"), (0, .methodref 8 297), (0, .nameAndType 298 299), (0, u "newStatement"), (0, u "(I)I"), (0, .fieldref 8 301), (0, .nameAndType 302 12), (0, u "entTop"), (0, .fieldref 8 304), (0, .nameAndType 305 12), (0, u "opTop"), (0, .fieldref 8 307), (0, .nameAndType 308 12), (0, u "parenDepth"), (0, .methodref 8 310), (0, .nameAndType 311 274), (0, u "pushEntry"), (0, .methodref 8 313), (0, .nameAndType 314 245), (0, u "pushOp"), (0, .methodref 8 316), (0, .nameAndType 317 245), (0, u "isBinaryToken"), (0, .methodref 8 319), (0, .nameAndType 320 245), (0, u "takeBinary"), (3, u "()Z"), (0, .methodref 8 326), (0, .nameAndType 327 324), (0, u "curIsAssign"), (0, .methodref 8 329), (0, .nameAndType 330 331), (0, u "reduceWhile"), (0, u "(I)V"), (0, .methodref 8 333), (0, .nameAndType 334 6), (0, u "finishAssignment"), (0, .methodref 8 336), (0, .nameAndType 337 6), (0, u "finishCondition"), (0, .methodref 8 339), (0, .nameAndType 340 324), (0, u "openBlock"), (0, .methodref 8 342), (0, .nameAndType 343 299), (0, u "precedence"), (0, .methodref 8 345), (0, .nameAndType 346 331), (0, u "applyOp"), (3, .methodref 8 351), (0, .nameAndType 352 331), (0, u "applyBinary"), (0, .methodref 8 354), (0, .nameAndType 355 258), (0, u "materialize"), (0, .methodref 8 357), (0, .nameAndType 358 359), (0, u "emit"), (0, u "(IIII)I"), (0, .methodref 8 361), (0, .nameAndType 362 363), (0, u "arith"), (0, u "(III)I"), (0, .methodref 8 365), (0, .nameAndType 366 367), (0, u "simplify"), (0, u "(III)Z"), (3, .methodref 8 372), (0, .nameAndType 373 258), (0, u "rightIdentity"), (3, u "(II)V"), (6, .methodref 8 385), (0, .nameAndType 386 258), (0, u "allocRegister"), (0, .methodref 8 388), (0, .nameAndType 389 299), (0, u "successorOf"), (0, .methodref 8 391), (0, .nameAndType 392 331), (0, u "patchTerminator"), (0, .methodref 8 394), (0, .nameAndType 395 6), (0, u "computeMasks"), (0, .methodref 8 397), (0, .nameAndType 398 6), (0, u "computeDefs"), (0, .methodref 8 400), (0, .nameAndType 401 299), (0, u "bitOf"), (0, .methodref 8 403), (0, .nameAndType 404 377), (0, u "locate"), (4, .methodref 8 410), (0, .nameAndType 411 299), (0, u "execStatement"), (0, .methodref 8 413), (0, .nameAndType 414 331), (0, u "execInstruction"), (0, .methodref 8 416), (0, .nameAndType 417 299), (0, u "load"), (0, .methodref 8 419), (0, .nameAndType 420 377), (0, u "store"), (0, u "T_NUM"), (2, u "T_VAR"), (1, u "T_ASSIGN"), (1, u "T_SEMI"), (1, u "T_PLUS"), (1, u "T_MINUS"), (1, u "T_STAR"), (1, u "T_SLASH"), (1, u "T_PERCENT"), (1, u "T_LT"), (1, u "T_EQ"), (1, u "T_LPAREN"), (1, u "T_RPAREN"), (1, u "T_LBRACE"), (1, u "T_RBRACE"), (1, u "T_WHILE"), (1, u "T_IF"), (1, u "MAX_TOKENS"), (1, u "VARS"), (0, u "MIN_REGS"), (0, u "MAX_REGS"), (0, u "MAX_RUN"), (1, u "C_OK"), (0, u "C_SYNTAX"), (0, u "C_STATE"), (0, u "REFUSED"), (1, u "AT_END"), (12, u "addToken"), (0, u "tokenCount"), (0, u "reset"), (0, u "compile"), (2, u "setBreak"), (0, u "(IZ)Z"), (0, u "step"), (0, u "run"), (0, u "restart"), (0, u "where"), (0, u "stepsTaken"), (0, u "value"), (0, u "lastVar"), (0, u "lastValue")] 2

def k2c0 : Code := { maxStack := 2, maxLocals := 3, code := prog_1_method_1_code, exceptionTable := #[], attributes := #[] }
def k2m0 : Method := { name := "<init>", desc := "(I)V", sig := { parameters := [.int], returnType := none }, accessFlags := 1, code := some k2c0 }
def k2c1 : Code := { maxStack := 3, maxLocals := 3, code := prog_1_method_2_code, exceptionTable := #[], attributes := #[] }
def k2m1 : Method := { name := "addToken", desc := "(II)Z", sig := { parameters := [.int, .int], returnType := some .boolean }, accessFlags := 1, code := some k2c1 }
def k2c2 : Code := { maxStack := 1, maxLocals := 1, code := prog_1_method_3_code, exceptionTable := #[], attributes := #[] }
def k2m2 : Method := { name := "tokenCount", desc := "()I", sig := { parameters := [], returnType := some .int }, accessFlags := 1, code := some k2c2 }
def k2c3 : Code := { maxStack := 1, maxLocals := 1, code := prog_1_method_4_code, exceptionTable := #[], attributes := #[] }
def k2m3 : Method := { name := "reset", desc := "()V", sig := { parameters := [], returnType := none }, accessFlags := 1, code := some k2c3 }
def k2c4 : Code := { maxStack := 2, maxLocals := 2, code := prog_1_method_5_code, exceptionTable := #[], attributes := #[] }
def k2m4 : Method := { name := "compile", desc := "()I", sig := { parameters := [], returnType := some .int }, accessFlags := 1, code := some k2c4 }
def k2c5 : Code := { maxStack := 3, maxLocals := 3, code := prog_1_method_8_code, exceptionTable := #[], attributes := #[] }
def k2m5 : Method := { name := "setBreak", desc := "(IZ)Z", sig := { parameters := [.int, .boolean], returnType := some .boolean }, accessFlags := 1, code := some k2c5 }
def k2c6 : Code := { maxStack := 2, maxLocals := 1, code := prog_1_method_9_code, exceptionTable := #[], attributes := #[] }
def k2m6 : Method := { name := "step", desc := "()I", sig := { parameters := [], returnType := some .int }, accessFlags := 1, code := some k2c6 }
def k2c7 : Code := { maxStack := 2, maxLocals := 4, code := prog_1_method_10_code, exceptionTable := #[], attributes := #[] }
def k2m7 : Method := { name := "run", desc := "(I)I", sig := { parameters := [.int], returnType := some .int }, accessFlags := 1, code := some k2c7 }
def k2c8 : Code := { maxStack := 1, maxLocals := 1, code := prog_1_method_11_code, exceptionTable := #[], attributes := #[] }
def k2m8 : Method := { name := "restart", desc := "()Z", sig := { parameters := [], returnType := some .boolean }, accessFlags := 1, code := some k2c8 }
def k2c9 : Code := { maxStack := 1, maxLocals := 1, code := prog_1_method_12_code, exceptionTable := #[], attributes := #[] }
def k2m9 : Method := { name := "where", desc := "()I", sig := { parameters := [], returnType := some .int }, accessFlags := 1, code := some k2c9 }
def k2c10 : Code := { maxStack := 1, maxLocals := 1, code := prog_1_method_13_code, exceptionTable := #[], attributes := #[] }
def k2m10 : Method := { name := "stepsTaken", desc := "()I", sig := { parameters := [], returnType := some .int }, accessFlags := 1, code := some k2c10 }
def k2c11 : Code := { maxStack := 2, maxLocals := 3, code := prog_1_method_14_code, exceptionTable := #[], attributes := #[] }
def k2m11 : Method := { name := "isAvailable", desc := "(I)Z", sig := { parameters := [.int], returnType := some .boolean }, accessFlags := 1, code := some k2c11 }
def k2c12 : Code := { maxStack := 4, maxLocals := 3, code := prog_1_method_15_code, exceptionTable := #[], attributes := #[] }
def k2m12 : Method := { name := "value", desc := "(I)I", sig := { parameters := [.int], returnType := some .int }, accessFlags := 1, code := some k2c12 }
def k2c13 : Code := { maxStack := 1, maxLocals := 1, code := prog_1_method_16_code, exceptionTable := #[], attributes := #[] }
def k2m13 : Method := { name := "lastVar", desc := "()I", sig := { parameters := [], returnType := some .int }, accessFlags := 1, code := some k2c13 }
def k2c14 : Code := { maxStack := 1, maxLocals := 1, code := prog_1_method_17_code, exceptionTable := #[], attributes := #[] }
def k2m14 : Method := { name := "lastValue", desc := "()I", sig := { parameters := [], returnType := some .int }, accessFlags := 1, code := some k2c14 }
def k2c15 : Code := { maxStack := 2, maxLocals := 1, code := prog_1_method_18_code, exceptionTable := #[], attributes := #[] }
def k2m15 : Method := { name := "clearAll", desc := "()V", sig := { parameters := [], returnType := none }, accessFlags := 2, code := some k2c15 }
def k2c16 : Code := { maxStack := 3, maxLocals := 2, code := prog_1_method_19_code, exceptionTable := #[], attributes := #[] }
def k2m16 : Method := { name := "clearBreaks", desc := "()V", sig := { parameters := [], returnType := none }, accessFlags := 2, code := some k2c16 }
def k2c17 : Code := { maxStack := 3, maxLocals := 2, code := prog_1_method_20_code, exceptionTable := #[], attributes := #[] }
def k2m17 : Method := { name := "restartMachine", desc := "()V", sig := { parameters := [], returnType := none }, accessFlags := 2, code := some k2c17 }
def k2c18 : Code := { maxStack := 2, maxLocals := 2, code := prog_1_method_21_code, exceptionTable := #[], attributes := #[] }
def k2m18 : Method := { name := "breakAt", desc := "(I)Z", sig := { parameters := [.int], returnType := some .boolean }, accessFlags := 2, code := some k2c18 }
def k2c19 : Code := { maxStack := 2, maxLocals := 1, code := prog_1_method_22_code, exceptionTable := #[], attributes := #[] }
def k2m19 : Method := { name := "stopIndex", desc := "()I", sig := { parameters := [], returnType := some .int }, accessFlags := 2, code := some k2c19 }
def k2c20 : Code := { maxStack := 4, maxLocals := 2, code := prog_1_method_23_code, exceptionTable := #[], attributes := #[] }
def k2m20 : Method := { name := "parseAll", desc := "()I", sig := { parameters := [], returnType := some .int }, accessFlags := 2, code := some k2c20 }
def k2c21 : Code := { maxStack := 3, maxLocals := 1, code := prog_1_method_24_code, exceptionTable := #[], attributes := #[] }
def k2m21 : Method := { name := "beginParse", desc := "()V", sig := { parameters := [], returnType := none }, accessFlags := 2, code := some k2c21 }
def k2c22 : Code := { maxStack := 3, maxLocals := 3, code := prog_1_method_25_code, exceptionTable := #[], attributes := #[] }
def k2m22 : Method := { name := "feed", desc := "(II)Z", sig := { parameters := [.int, .int], returnType := some .boolean }, accessFlags := 2, code := some k2c22 }
def k2c23 : Code := { maxStack := 3, maxLocals := 4, code := prog_1_method_26_code, exceptionTable := #[], attributes := #[] }
def k2m23 : Method := { name := "feedStatementStart", desc := "(II)Z", sig := { parameters := [.int, .int], returnType := some .boolean }, accessFlags := 2, code := some k2c23 }
def k2c24 : Code := { maxStack := 3, maxLocals := 5, code := prog_1_method_27_code, exceptionTable := #[], attributes := #[] }
def k2m24 : Method := { name := "newStatement", desc := "(I)I", sig := { parameters := [.int], returnType := some .int }, accessFlags := 2, code := some k2c24 }
def k2c25 : Code := { maxStack := 3, maxLocals := 1, code := prog_1_method_28_code, exceptionTable := #[], attributes := #[] }
def k2m25 : Method := { name := "openBlock", desc := "()Z", sig := { parameters := [], returnType := some .boolean }, accessFlags := 2, code := some k2c25 }
def k2c26 : Code := { maxStack := 2, maxLocals := 1, code := prog_1_method_29_code, exceptionTable := #[], attributes := #[] }
def k2m26 : Method := { name := "curIsAssign", desc := "()Z", sig := { parameters := [], returnType := some .boolean }, accessFlags := 2, code := some k2c26 }
def k2c27 : Code := { maxStack := 3, maxLocals := 2, code := prog_1_method_30_code, exceptionTable := #[], attributes := #[] }
def k2m27 : Method := { name := "resetExpr", desc := "()V", sig := { parameters := [], returnType := none }, accessFlags := 2, code := some k2c27 }
def k2c28 : Code := { maxStack := 3, maxLocals := 4, code := prog_1_method_31_code, exceptionTable := #[], attributes := #[] }
def k2m28 : Method := { name := "feedOperand", desc := "(II)Z", sig := { parameters := [.int, .int], returnType := some .boolean }, accessFlags := 2, code := some k2c28 }
def k2c29 : Code := { maxStack := 2, maxLocals := 3, code := prog_1_method_32_code, exceptionTable := #[], attributes := #[] }
def k2m29 : Method := { name := "feedOperator", desc := "(I)Z", sig := { parameters := [.int], returnType := some .boolean }, accessFlags := 2, code := some k2c29 }
def k2c30 : Code := { maxStack := 3, maxLocals := 3, code := prog_1_method_33_code, exceptionTable := #[], attributes := #[] }
def k2m30 : Method := { name := "takeBinary", desc := "(I)Z", sig := { parameters := [.int], returnType := some .boolean }, accessFlags := 2, code := some k2c30 }
def k2c31 : Code := { maxStack := 2, maxLocals := 2, code := prog_1_method_35_code, exceptionTable := #[], attributes := #[] }
def k2m31 : Method := { name := "isBinaryToken", desc := "(I)Z", sig := { parameters := [.int], returnType := some .boolean }, accessFlags := 2, code := some k2c31 }
def k2c32 : Code := { maxStack := 2, maxLocals := 2, code := prog_1_method_36_code, exceptionTable := #[], attributes := #[] }
def k2m32 : Method := { name := "precedence", desc := "(I)I", sig := { parameters := [.int], returnType := some .int }, accessFlags := 2, code := some k2c32 }
def k2c33 : Code := { maxStack := 3, maxLocals := 2, code := prog_1_method_37_code, exceptionTable := #[], attributes := #[] }
def k2m33 : Method := { name := "pushOp", desc := "(I)Z", sig := { parameters := [.int], returnType := some .boolean }, accessFlags := 2, code := some k2c33 }
def k2c34 : Code := { maxStack := 3, maxLocals := 5, code := prog_1_method_38_code, exceptionTable := #[], attributes := #[] }
def k2m34 : Method := { name := "reduceWhile", desc := "(I)V", sig := { parameters := [.int], returnType := none }, accessFlags := 2, code := some k2c34 }
def k2c35 : Code := { maxStack := 3, maxLocals := 3, code := prog_1_method_39_code, exceptionTable := #[], attributes := #[] }
def k2m35 : Method := { name := "pushEntry", desc := "(II)Z", sig := { parameters := [.int, .int], returnType := some .boolean }, accessFlags := 2, code := some k2c35 }
def k2c36 : Code := { maxStack := 2, maxLocals := 2, code := prog_1_method_40_code, exceptionTable := #[], attributes := #[] }
def k2m36 : Method := { name := "applyOp", desc := "(I)V", sig := { parameters := [.int], returnType := none }, accessFlags := 2, code := some k2c36 }
def k2c37 : Code := { maxStack := 7, maxLocals := 6, code := prog_1_method_42_code, exceptionTable := #[], attributes := #[] }
def k2m37 : Method := { name := "applyBinary", desc := "(I)V", sig := { parameters := [.int], returnType := none }, accessFlags := 2, code := some k2c37 }
def k2c38 : Code := { maxStack := 4, maxLocals := 5, code := prog_1_method_43_code, exceptionTable := #[], attributes := #[] }
def k2m38 : Method := { name := "simplify", desc := "(III)Z", sig := { parameters := [.int, .int, .int], returnType := some .boolean }, accessFlags := 2, code := some k2c38 }
def k2c39 : Code := { maxStack := 2, maxLocals := 3, code := prog_1_method_44_code, exceptionTable := #[], attributes := #[] }
def k2m39 : Method := { name := "rightIdentity", desc := "(II)I", sig := { parameters := [.int, .int], returnType := some .int }, accessFlags := 2, code := some k2c39 }
def k2c40 : Code := { maxStack := 5, maxLocals := 5, code := prog_1_method_49_code, exceptionTable := #[], attributes := #[] }
def k2m40 : Method := { name := "materialize", desc := "(II)I", sig := { parameters := [.int, .int], returnType := some .int }, accessFlags := 2, code := some k2c40 }
def k2c41 : Code := { maxStack := 5, maxLocals := 5, code := prog_1_method_50_code, exceptionTable := #[], attributes := #[] }
def k2m41 : Method := { name := "allocRegister", desc := "(II)I", sig := { parameters := [.int, .int], returnType := some .int }, accessFlags := 2, code := some k2c41 }
def k2c42 : Code := { maxStack := 7, maxLocals := 4, code := prog_1_method_51_code, exceptionTable := #[], attributes := #[] }
def k2m42 : Method := { name := "finishAssignment", desc := "()V", sig := { parameters := [], returnType := none }, accessFlags := 2, code := some k2c42 }
def k2c43 : Code := { maxStack := 7, maxLocals := 3, code := prog_1_method_52_code, exceptionTable := #[], attributes := #[] }
def k2m43 : Method := { name := "finishCondition", desc := "()V", sig := { parameters := [], returnType := none }, accessFlags := 2, code := some k2c43 }
def k2c44 : Code := { maxStack := 3, maxLocals := 6, code := prog_1_method_53_code, exceptionTable := #[], attributes := #[] }
def k2m44 : Method := { name := "emit", desc := "(IIII)I", sig := { parameters := [.int, .int, .int, .int], returnType := some .int }, accessFlags := 2, code := some k2c44 }
def k2c45 : Code := { maxStack := 4, maxLocals := 2, code := prog_1_method_54_code, exceptionTable := #[], attributes := #[] }
def k2m45 : Method := { name := "linkStatements", desc := "()V", sig := { parameters := [], returnType := none }, accessFlags := 2, code := some k2c45 }
def k2c46 : Code := { maxStack := 2, maxLocals := 5, code := prog_1_method_55_code, exceptionTable := #[], attributes := #[] }
def k2m46 : Method := { name := "successorOf", desc := "(I)I", sig := { parameters := [.int], returnType := some .int }, accessFlags := 2, code := some k2c46 }
def k2c47 : Code := { maxStack := 3, maxLocals := 5, code := prog_1_method_56_code, exceptionTable := #[], attributes := #[] }
def k2m47 : Method := { name := "patchTerminator", desc := "(I)V", sig := { parameters := [.int], returnType := none }, accessFlags := 2, code := some k2c47 }
def k2c48 : Code := { maxStack := 3, maxLocals := 2, code := prog_1_method_57_code, exceptionTable := #[], attributes := #[] }
def k2m48 : Method := { name := "bitOf", desc := "(I)I", sig := { parameters := [.int], returnType := some .int }, accessFlags := 2, code := some k2c48 }
def k2c49 : Code := { maxStack := 5, maxLocals := 3, code := prog_1_method_58_code, exceptionTable := #[], attributes := #[] }
def k2m49 : Method := { name := "computeMasks", desc := "()V", sig := { parameters := [], returnType := none }, accessFlags := 2, code := some k2c49 }
def k2c50 : Code := { maxStack := 5, maxLocals := 4, code := prog_1_method_59_code, exceptionTable := #[], attributes := #[] }
def k2m50 : Method := { name := "computeDefs", desc := "()V", sig := { parameters := [], returnType := none }, accessFlags := 2, code := some k2c50 }
def k2c51 : Code := { maxStack := 3, maxLocals := 3, code := prog_1_method_60_code, exceptionTable := #[], attributes := #[] }
def k2m51 : Method := { name := "buildLocationLists", desc := "()V", sig := { parameters := [], returnType := none }, accessFlags := 2, code := some k2c51 }
def k2c52 : Code := { maxStack := 4, maxLocals := 8, code := prog_1_method_61_code, exceptionTable := #[], attributes := #[] }
def k2m52 : Method := { name := "locate", desc := "(II)V", sig := { parameters := [.int, .int], returnType := none }, accessFlags := 2, code := some k2c52 }
def k2c53 : Code := { maxStack := 3, maxLocals := 2, code := prog_1_method_64_code, exceptionTable := #[], attributes := #[] }
def k2m53 : Method := { name := "stepOnce", desc := "()V", sig := { parameters := [], returnType := none }, accessFlags := 2, code := some k2c53 }
def k2c54 : Code := { maxStack := 3, maxLocals := 5, code := prog_1_method_65_code, exceptionTable := #[], attributes := #[] }
def k2m54 : Method := { name := "execStatement", desc := "(I)I", sig := { parameters := [.int], returnType := some .int }, accessFlags := 2, code := some k2c54 }
def k2c55 : Code := { maxStack := 6, maxLocals := 8, code := prog_1_method_66_code, exceptionTable := #[], attributes := #[] }
def k2m55 : Method := { name := "execInstruction", desc := "(I)V", sig := { parameters := [.int], returnType := none }, accessFlags := 2, code := some k2c55 }
def k2c56 : Code := { maxStack := 2, maxLocals := 2, code := prog_1_method_67_code, exceptionTable := #[], attributes := #[] }
def k2m56 : Method := { name := "load", desc := "(I)I", sig := { parameters := [.int], returnType := some .int }, accessFlags := 2, code := some k2c56 }
def k2c57 : Code := { maxStack := 3, maxLocals := 3, code := prog_1_method_68_code, exceptionTable := #[], attributes := #[] }
def k2m57 : Method := { name := "store", desc := "(II)V", sig := { parameters := [.int, .int], returnType := none }, accessFlags := 2, code := some k2c57 }
def k2c58 : Code := { maxStack := 2, maxLocals := 4, code := prog_1_method_69_code, exceptionTable := #[], attributes := #[] }
def k2m58 : Method := { name := "arith", desc := "(III)I", sig := { parameters := [.int, .int, .int], returnType := some .int }, accessFlags := 2, code := some k2c58 }
/-- LocListDebug -/
def k2 : Class := { plain "LocListDebug" (some 0) with
  accessFlags := 49
  interfaces := #[]
  cf := some (fileOf pool2 8 #[] #[{ accessFlags := 1, nameIndex := 5, descriptorIndex := 331, attributes := #[] }, { accessFlags := 1, nameIndex := 481, descriptorIndex := 274, attributes := #[] }, { accessFlags := 1, nameIndex := 482, descriptorIndex := 214, attributes := #[] }, { accessFlags := 1, nameIndex := 483, descriptorIndex := 6, attributes := #[] }, { accessFlags := 1, nameIndex := 484, descriptorIndex := 214, attributes := #[] }, { accessFlags := 1, nameIndex := 487, descriptorIndex := 488, attributes := #[] }, { accessFlags := 1, nameIndex := 489, descriptorIndex := 214, attributes := #[] }, { accessFlags := 1, nameIndex := 490, descriptorIndex := 299, attributes := #[] }, { accessFlags := 1, nameIndex := 491, descriptorIndex := 324, attributes := #[] }, { accessFlags := 1, nameIndex := 492, descriptorIndex := 214, attributes := #[] }, { accessFlags := 1, nameIndex := 493, descriptorIndex := 214, attributes := #[] }, { accessFlags := 1, nameIndex := 254, descriptorIndex := 245, attributes := #[] }, { accessFlags := 1, nameIndex := 494, descriptorIndex := 299, attributes := #[] }, { accessFlags := 1, nameIndex := 495, descriptorIndex := 214, attributes := #[] }, { accessFlags := 1, nameIndex := 496, descriptorIndex := 214, attributes := #[] }, { accessFlags := 2, nameIndex := 203, descriptorIndex := 6, attributes := #[] }, { accessFlags := 2, nameIndex := 232, descriptorIndex := 6, attributes := #[] }, { accessFlags := 2, nameIndex := 235, descriptorIndex := 6, attributes := #[] }, { accessFlags := 2, nameIndex := 244, descriptorIndex := 245, attributes := #[] }, { accessFlags := 2, nameIndex := 251, descriptorIndex := 214, attributes := #[] }, { accessFlags := 2, nameIndex := 213, descriptorIndex := 214, attributes := #[] }, { accessFlags := 2, nameIndex := 270, descriptorIndex := 6, attributes := #[] }, { accessFlags := 2, nameIndex := 273, descriptorIndex := 274, attributes := #[] }, { accessFlags := 2, nameIndex := 289, descriptorIndex := 274, attributes := #[] }, { accessFlags := 2, nameIndex := 298, descriptorIndex := 299, attributes := #[] }, { accessFlags := 2, nameIndex := 340, descriptorIndex := 324, attributes := #[] }, { accessFlags := 2, nameIndex := 327, descriptorIndex := 324, attributes := #[] }, { accessFlags := 2, nameIndex := 286, descriptorIndex := 6, attributes := #[] }, { accessFlags := 2, nameIndex := 292, descriptorIndex := 274, attributes := #[] }, { accessFlags := 2, nameIndex := 295, descriptorIndex := 245, attributes := #[] }, { accessFlags := 2, nameIndex := 320, descriptorIndex := 245, attributes := #[] }, { accessFlags := 2, nameIndex := 317, descriptorIndex := 245, attributes := #[] }, { accessFlags := 2, nameIndex := 343, descriptorIndex := 299, attributes := #[] }, { accessFlags := 2, nameIndex := 314, descriptorIndex := 245, attributes := #[] }, { accessFlags := 2, nameIndex := 330, descriptorIndex := 331, attributes := #[] }, { accessFlags := 2, nameIndex := 311, descriptorIndex := 274, attributes := #[] }, { accessFlags := 2, nameIndex := 346, descriptorIndex := 331, attributes := #[] }, { accessFlags := 2, nameIndex := 352, descriptorIndex := 331, attributes := #[] }, { accessFlags := 2, nameIndex := 366, descriptorIndex := 367, attributes := #[] }, { accessFlags := 2, nameIndex := 373, descriptorIndex := 258, attributes := #[] }, { accessFlags := 2, nameIndex := 355, descriptorIndex := 258, attributes := #[] }, { accessFlags := 2, nameIndex := 386, descriptorIndex := 258, attributes := #[] }, { accessFlags := 2, nameIndex := 334, descriptorIndex := 6, attributes := #[] }, { accessFlags := 2, nameIndex := 337, descriptorIndex := 6, attributes := #[] }, { accessFlags := 2, nameIndex := 358, descriptorIndex := 359, attributes := #[] }, { accessFlags := 2, nameIndex := 226, descriptorIndex := 6, attributes := #[] }, { accessFlags := 2, nameIndex := 389, descriptorIndex := 299, attributes := #[] }, { accessFlags := 2, nameIndex := 392, descriptorIndex := 331, attributes := #[] }, { accessFlags := 2, nameIndex := 401, descriptorIndex := 299, attributes := #[] }, { accessFlags := 2, nameIndex := 395, descriptorIndex := 6, attributes := #[] }, { accessFlags := 2, nameIndex := 398, descriptorIndex := 6, attributes := #[] }, { accessFlags := 2, nameIndex := 229, descriptorIndex := 6, attributes := #[] }, { accessFlags := 2, nameIndex := 404, descriptorIndex := 377, attributes := #[] }, { accessFlags := 2, nameIndex := 241, descriptorIndex := 6, attributes := #[] }, { accessFlags := 2, nameIndex := 411, descriptorIndex := 299, attributes := #[] }, { accessFlags := 2, nameIndex := 414, descriptorIndex := 331, attributes := #[] }, { accessFlags := 2, nameIndex := 417, descriptorIndex := 299, attributes := #[] }, { accessFlags := 2, nameIndex := 420, descriptorIndex := 377, attributes := #[] }, { accessFlags := 2, nameIndex := 362, descriptorIndex := 363, attributes := #[] }] 49 2 #[] #[{ accessFlags := 25, nameIndex := 421, descriptorIndex := 12, attributes := #[] }, { accessFlags := 25, nameIndex := 424, descriptorIndex := 12, attributes := #[] }, { accessFlags := 25, nameIndex := 426, descriptorIndex := 12, attributes := #[] }, { accessFlags := 25, nameIndex := 428, descriptorIndex := 12, attributes := #[] }, { accessFlags := 25, nameIndex := 430, descriptorIndex := 12, attributes := #[] }, { accessFlags := 25, nameIndex := 432, descriptorIndex := 12, attributes := #[] }, { accessFlags := 25, nameIndex := 434, descriptorIndex := 12, attributes := #[] }, { accessFlags := 25, nameIndex := 436, descriptorIndex := 12, attributes := #[] }, { accessFlags := 25, nameIndex := 438, descriptorIndex := 12, attributes := #[] }, { accessFlags := 25, nameIndex := 440, descriptorIndex := 12, attributes := #[] }, { accessFlags := 25, nameIndex := 442, descriptorIndex := 12, attributes := #[] }, { accessFlags := 25, nameIndex := 444, descriptorIndex := 12, attributes := #[] }, { accessFlags := 25, nameIndex := 446, descriptorIndex := 12, attributes := #[] }, { accessFlags := 25, nameIndex := 448, descriptorIndex := 12, attributes := #[] }, { accessFlags := 25, nameIndex := 450, descriptorIndex := 12, attributes := #[] }, { accessFlags := 25, nameIndex := 452, descriptorIndex := 12, attributes := #[] }, { accessFlags := 25, nameIndex := 454, descriptorIndex := 12, attributes := #[] }, { accessFlags := 25, nameIndex := 456, descriptorIndex := 12, attributes := #[] }, { accessFlags := 25, nameIndex := 458, descriptorIndex := 12, attributes := #[] }, { accessFlags := 25, nameIndex := 459, descriptorIndex := 12, attributes := #[] }, { accessFlags := 25, nameIndex := 460, descriptorIndex := 12, attributes := #[] }, { accessFlags := 25, nameIndex := 461, descriptorIndex := 12, attributes := #[] }, { accessFlags := 25, nameIndex := 463, descriptorIndex := 12, attributes := #[] }, { accessFlags := 25, nameIndex := 464, descriptorIndex := 12, attributes := #[] }, { accessFlags := 25, nameIndex := 465, descriptorIndex := 12, attributes := #[] }, { accessFlags := 25, nameIndex := 466, descriptorIndex := 12, attributes := #[] }, { accessFlags := 25, nameIndex := 468, descriptorIndex := 12, attributes := #[] }, { accessFlags := 18, nameIndex := 11, descriptorIndex := 12, attributes := #[] }, { accessFlags := 18, nameIndex := 15, descriptorIndex := 12, attributes := #[] }, { accessFlags := 18, nameIndex := 18, descriptorIndex := 12, attributes := #[] }, { accessFlags := 18, nameIndex := 21, descriptorIndex := 12, attributes := #[] }, { accessFlags := 18, nameIndex := 24, descriptorIndex := 12, attributes := #[] }, { accessFlags := 18, nameIndex := 27, descriptorIndex := 12, attributes := #[] }, { accessFlags := 18, nameIndex := 30, descriptorIndex := 12, attributes := #[] }, { accessFlags := 18, nameIndex := 33, descriptorIndex := 12, attributes := #[] }, { accessFlags := 18, nameIndex := 36, descriptorIndex := 12, attributes := #[] }, { accessFlags := 18, nameIndex := 39, descriptorIndex := 12, attributes := #[] }, { accessFlags := 18, nameIndex := 42, descriptorIndex := 12, attributes := #[] }, { accessFlags := 18, nameIndex := 45, descriptorIndex := 12, attributes := #[] }, { accessFlags := 18, nameIndex := 48, descriptorIndex := 12, attributes := #[] }, { accessFlags := 18, nameIndex := 51, descriptorIndex := 12, attributes := #[] }, { accessFlags := 18, nameIndex := 54, descriptorIndex := 12, attributes := #[] }, { accessFlags := 18, nameIndex := 57, descriptorIndex := 12, attributes := #[] }, { accessFlags := 18, nameIndex := 60, descriptorIndex := 12, attributes := #[] }, { accessFlags := 18, nameIndex := 63, descriptorIndex := 12, attributes := #[] }, { accessFlags := 18, nameIndex := 66, descriptorIndex := 12, attributes := #[] }, { accessFlags := 18, nameIndex := 69, descriptorIndex := 12, attributes := #[] }, { accessFlags := 18, nameIndex := 72, descriptorIndex := 12, attributes := #[] }, { accessFlags := 18, nameIndex := 75, descriptorIndex := 12, attributes := #[] }, { accessFlags := 18, nameIndex := 78, descriptorIndex := 12, attributes := #[] }, { accessFlags := 18, nameIndex := 81, descriptorIndex := 12, attributes := #[] }, { accessFlags := 18, nameIndex := 84, descriptorIndex := 12, attributes := #[] }, { accessFlags := 18, nameIndex := 87, descriptorIndex := 12, attributes := #[] }, { accessFlags := 18, nameIndex := 90, descriptorIndex := 12, attributes := #[] }, { accessFlags := 18, nameIndex := 93, descriptorIndex := 12, attributes := #[] }, { accessFlags := 18, nameIndex := 96, descriptorIndex := 12, attributes := #[] }, { accessFlags := 18, nameIndex := 99, descriptorIndex := 12, attributes := #[] }, { accessFlags := 18, nameIndex := 102, descriptorIndex := 12, attributes := #[] }, { accessFlags := 2, nameIndex := 200, descriptorIndex := 12, attributes := #[] }, { accessFlags := 2, nameIndex := 206, descriptorIndex := 207, attributes := #[] }, { accessFlags := 2, nameIndex := 217, descriptorIndex := 12, attributes := #[] }, { accessFlags := 18, nameIndex := 105, descriptorIndex := 106, attributes := #[] }, { accessFlags := 18, nameIndex := 109, descriptorIndex := 106, attributes := #[] }, { accessFlags := 2, nameIndex := 210, descriptorIndex := 12, attributes := #[] }, { accessFlags := 2, nameIndex := 220, descriptorIndex := 12, attributes := #[] }, { accessFlags := 2, nameIndex := 267, descriptorIndex := 12, attributes := #[] }, { accessFlags := 18, nameIndex := 112, descriptorIndex := 106, attributes := #[] }, { accessFlags := 18, nameIndex := 115, descriptorIndex := 106, attributes := #[] }, { accessFlags := 18, nameIndex := 118, descriptorIndex := 106, attributes := #[] }, { accessFlags := 18, nameIndex := 121, descriptorIndex := 106, attributes := #[] }, { accessFlags := 18, nameIndex := 124, descriptorIndex := 106, attributes := #[] }, { accessFlags := 18, nameIndex := 127, descriptorIndex := 106, attributes := #[] }, { accessFlags := 18, nameIndex := 130, descriptorIndex := 106, attributes := #[] }, { accessFlags := 18, nameIndex := 133, descriptorIndex := 106, attributes := #[] }, { accessFlags := 18, nameIndex := 136, descriptorIndex := 106, attributes := #[] }, { accessFlags := 18, nameIndex := 139, descriptorIndex := 106, attributes := #[] }, { accessFlags := 18, nameIndex := 142, descriptorIndex := 106, attributes := #[] }, { accessFlags := 18, nameIndex := 145, descriptorIndex := 106, attributes := #[] }, { accessFlags := 18, nameIndex := 148, descriptorIndex := 106, attributes := #[] }, { accessFlags := 18, nameIndex := 151, descriptorIndex := 152, attributes := #[] }, { accessFlags := 18, nameIndex := 155, descriptorIndex := 106, attributes := #[] }, { accessFlags := 18, nameIndex := 158, descriptorIndex := 106, attributes := #[] }, { accessFlags := 18, nameIndex := 161, descriptorIndex := 106, attributes := #[] }, { accessFlags := 18, nameIndex := 164, descriptorIndex := 106, attributes := #[] }, { accessFlags := 18, nameIndex := 167, descriptorIndex := 106, attributes := #[] }, { accessFlags := 18, nameIndex := 170, descriptorIndex := 106, attributes := #[] }, { accessFlags := 2, nameIndex := 223, descriptorIndex := 12, attributes := #[] }, { accessFlags := 18, nameIndex := 173, descriptorIndex := 106, attributes := #[] }, { accessFlags := 18, nameIndex := 176, descriptorIndex := 106, attributes := #[] }, { accessFlags := 2, nameIndex := 238, descriptorIndex := 12, attributes := #[] }, { accessFlags := 2, nameIndex := 248, descriptorIndex := 12, attributes := #[] }, { accessFlags := 2, nameIndex := 261, descriptorIndex := 12, attributes := #[] }, { accessFlags := 2, nameIndex := 264, descriptorIndex := 12, attributes := #[] }, { accessFlags := 2, nameIndex := 277, descriptorIndex := 12, attributes := #[] }, { accessFlags := 2, nameIndex := 283, descriptorIndex := 12, attributes := #[] }, { accessFlags := 2, nameIndex := 280, descriptorIndex := 12, attributes := #[] }, { accessFlags := 18, nameIndex := 179, descriptorIndex := 106, attributes := #[] }, { accessFlags := 18, nameIndex := 182, descriptorIndex := 106, attributes := #[] }, { accessFlags := 18, nameIndex := 185, descriptorIndex := 106, attributes := #[] }, { accessFlags := 18, nameIndex := 188, descriptorIndex := 106, attributes := #[] }, { accessFlags := 2, nameIndex := 302, descriptorIndex := 12, attributes := #[] }, { accessFlags := 18, nameIndex := 191, descriptorIndex := 106, attributes := #[] }, { accessFlags := 18, nameIndex := 194, descriptorIndex := 106, attributes := #[] }, { accessFlags := 2, nameIndex := 305, descriptorIndex := 12, attributes := #[] }, { accessFlags := 18, nameIndex := 197, descriptorIndex := 152, attributes := #[] }, { accessFlags := 2, nameIndex := 308, descriptorIndex := 12, attributes := #[] }])
  fields := #[{ name := "T_NUM", type := .int, accessFlags := 25, slot := 0, constantValue := 0 }, { name := "T_VAR", type := .int, accessFlags := 25, slot := 1, constantValue := 0 }, { name := "T_ASSIGN", type := .int, accessFlags := 25, slot := 2, constantValue := 0 }, { name := "T_SEMI", type := .int, accessFlags := 25, slot := 3, constantValue := 0 }, { name := "T_PLUS", type := .int, accessFlags := 25, slot := 4, constantValue := 0 }, { name := "T_MINUS", type := .int, accessFlags := 25, slot := 5, constantValue := 0 }, { name := "T_STAR", type := .int, accessFlags := 25, slot := 6, constantValue := 0 }, { name := "T_SLASH", type := .int, accessFlags := 25, slot := 7, constantValue := 0 }, { name := "T_PERCENT", type := .int, accessFlags := 25, slot := 8, constantValue := 0 }, { name := "T_LT", type := .int, accessFlags := 25, slot := 9, constantValue := 0 }, { name := "T_EQ", type := .int, accessFlags := 25, slot := 10, constantValue := 0 }, { name := "T_LPAREN", type := .int, accessFlags := 25, slot := 11, constantValue := 0 }, { name := "T_RPAREN", type := .int, accessFlags := 25, slot := 12, constantValue := 0 }, { name := "T_LBRACE", type := .int, accessFlags := 25, slot := 13, constantValue := 0 }, { name := "T_RBRACE", type := .int, accessFlags := 25, slot := 14, constantValue := 0 }, { name := "T_WHILE", type := .int, accessFlags := 25, slot := 15, constantValue := 0 }, { name := "T_IF", type := .int, accessFlags := 25, slot := 16, constantValue := 0 }, { name := "MAX_TOKENS", type := .int, accessFlags := 25, slot := 17, constantValue := 0 }, { name := "VARS", type := .int, accessFlags := 25, slot := 18, constantValue := 0 }, { name := "MIN_REGS", type := .int, accessFlags := 25, slot := 19, constantValue := 0 }, { name := "MAX_REGS", type := .int, accessFlags := 25, slot := 20, constantValue := 0 }, { name := "MAX_RUN", type := .int, accessFlags := 25, slot := 21, constantValue := 0 }, { name := "C_OK", type := .int, accessFlags := 25, slot := 22, constantValue := 0 }, { name := "C_SYNTAX", type := .int, accessFlags := 25, slot := 23, constantValue := 0 }, { name := "C_STATE", type := .int, accessFlags := 25, slot := 24, constantValue := 0 }, { name := "REFUSED", type := .int, accessFlags := 25, slot := 25, constantValue := 0 }, { name := "AT_END", type := .int, accessFlags := 25, slot := 26, constantValue := 0 }, { name := "MAX_STMTS", type := .int, accessFlags := 18, slot := 0, constantValue := 0 }, { name := "CODE_MAX", type := .int, accessFlags := 18, slot := 1, constantValue := 0 }, { name := "MEM_SIZE", type := .int, accessFlags := 18, slot := 2, constantValue := 0 }, { name := "STACK_MAX", type := .int, accessFlags := 18, slot := 3, constantValue := 0 }, { name := "BLOCK_MAX", type := .int, accessFlags := 18, slot := 4, constantValue := 0 }, { name := "LOC_MAX", type := .int, accessFlags := 18, slot := 5, constantValue := 0 }, { name := "SPILL_BASE", type := .int, accessFlags := 18, slot := 6, constantValue := 0 }, { name := "I_LDI", type := .int, accessFlags := 18, slot := 7, constantValue := 0 }, { name := "I_LD", type := .int, accessFlags := 18, slot := 8, constantValue := 0 }, { name := "I_ST", type := .int, accessFlags := 18, slot := 9, constantValue := 0 }, { name := "I_STI", type := .int, accessFlags := 18, slot := 10, constantValue := 0 }, { name := "I_OP", type := .int, accessFlags := 18, slot := 11, constantValue := 0 }, { name := "I_OPI", type := .int, accessFlags := 18, slot := 12, constantValue := 0 }, { name := "I_NEG", type := .int, accessFlags := 18, slot := 13, constantValue := 0 }, { name := "I_STOP", type := .int, accessFlags := 18, slot := 14, constantValue := 0 }, { name := "I_BR", type := .int, accessFlags := 18, slot := 15, constantValue := 0 }, { name := "I_BRK", type := .int, accessFlags := 18, slot := 16, constantValue := 0 }, { name := "OP_NEG", type := .int, accessFlags := 18, slot := 17, constantValue := 0 }, { name := "OP_PAREN", type := .int, accessFlags := 18, slot := 18, constantValue := 0 }, { name := "E_CONST", type := .int, accessFlags := 18, slot := 19, constantValue := 0 }, { name := "E_VAR", type := .int, accessFlags := 18, slot := 20, constantValue := 0 }, { name := "E_REG", type := .int, accessFlags := 18, slot := 21, constantValue := 0 }, { name := "E_SLOT", type := .int, accessFlags := 18, slot := 22, constantValue := 0 }, { name := "L_NONE", type := .int, accessFlags := 18, slot := 23, constantValue := 0 }, { name := "L_SLOT", type := .int, accessFlags := 18, slot := 24, constantValue := 0 }, { name := "L_CONST", type := .int, accessFlags := 18, slot := 25, constantValue := 0 }, { name := "L_REG", type := .int, accessFlags := 18, slot := 26, constantValue := 0 }, { name := "P_STMT", type := .int, accessFlags := 18, slot := 27, constantValue := 0 }, { name := "P_ASSIGN", type := .int, accessFlags := 18, slot := 28, constantValue := 0 }, { name := "P_OPERAND", type := .int, accessFlags := 18, slot := 29, constantValue := 0 }, { name := "P_OPERATOR", type := .int, accessFlags := 18, slot := 30, constantValue := 0 }, { name := "regCount", type := .int, accessFlags := 2, slot := 31, constantValue := 0 }, { name := "running", type := .boolean, accessFlags := 2, slot := 32, constantValue := 0 }, { name := "errPos", type := .int, accessFlags := 2, slot := 33, constantValue := 0 }, { name := "tokKind", type := (.array .int), accessFlags := 18, slot := 34, constantValue := 0 }, { name := "tokArg", type := (.array .int), accessFlags := 18, slot := 35, constantValue := 0 }, { name := "tokCount", type := .int, accessFlags := 2, slot := 36, constantValue := 0 }, { name := "stmtCount", type := .int, accessFlags := 2, slot := 37, constantValue := 0 }, { name := "topLast", type := .int, accessFlags := 2, slot := 38, constantValue := 0 }, { name := "stKind", type := (.array .int), accessFlags := 18, slot := 39, constantValue := 0 }, { name := "stVar", type := (.array .int), accessFlags := 18, slot := 40, constantValue := 0 }, { name := "stParent", type := (.array .int), accessFlags := 18, slot := 41, constantValue := 0 }, { name := "stPrev", type := (.array .int), accessFlags := 18, slot := 42, constantValue := 0 }, { name := "stNext", type := (.array .int), accessFlags := 18, slot := 43, constantValue := 0 }, { name := "stFirst", type := (.array .int), accessFlags := 18, slot := 44, constantValue := 0 }, { name := "stStart", type := (.array .int), accessFlags := 18, slot := 45, constantValue := 0 }, { name := "stTerm", type := (.array .int), accessFlags := 18, slot := 46, constantValue := 0 }, { name := "stSucc", type := (.array .int), accessFlags := 18, slot := 47, constantValue := 0 }, { name := "stMask", type := (.array .int), accessFlags := 18, slot := 48, constantValue := 0 }, { name := "stResKind", type := (.array .int), accessFlags := 18, slot := 49, constantValue := 0 }, { name := "stResVal", type := (.array .int), accessFlags := 18, slot := 50, constantValue := 0 }, { name := "stDef", type := (.array .int), accessFlags := 18, slot := 51, constantValue := 0 }, { name := "brk", type := (.array .boolean), accessFlags := 18, slot := 52, constantValue := 0 }, { name := "locKind", type := (.array .int), accessFlags := 18, slot := 53, constantValue := 0 }, { name := "locVal", type := (.array .int), accessFlags := 18, slot := 54, constantValue := 0 }, { name := "cOp", type := (.array .int), accessFlags := 18, slot := 55, constantValue := 0 }, { name := "cA", type := (.array .int), accessFlags := 18, slot := 56, constantValue := 0 }, { name := "cB", type := (.array .int), accessFlags := 18, slot := 57, constantValue := 0 }, { name := "cC", type := (.array .int), accessFlags := 18, slot := 58, constantValue := 0 }, { name := "codeLen", type := .int, accessFlags := 2, slot := 59, constantValue := 0 }, { name := "mem", type := (.array .int), accessFlags := 18, slot := 60, constantValue := 0 }, { name := "reg", type := (.array .int), accessFlags := 18, slot := 61, constantValue := 0 }, { name := "cur", type := .int, accessFlags := 2, slot := 62, constantValue := 0 }, { name := "steps", type := .int, accessFlags := 2, slot := 63, constantValue := 0 }, { name := "lastV", type := .int, accessFlags := 2, slot := 64, constantValue := 0 }, { name := "lastVal", type := .int, accessFlags := 2, slot := 65, constantValue := 0 }, { name := "pState", type := .int, accessFlags := 2, slot := 66, constantValue := 0 }, { name := "curStmt", type := .int, accessFlags := 2, slot := 67, constantValue := 0 }, { name := "blkDepth", type := .int, accessFlags := 2, slot := 68, constantValue := 0 }, { name := "blkOwner", type := (.array .int), accessFlags := 18, slot := 69, constantValue := 0 }, { name := "blkLast", type := (.array .int), accessFlags := 18, slot := 70, constantValue := 0 }, { name := "entKind", type := (.array .int), accessFlags := 18, slot := 71, constantValue := 0 }, { name := "entVal", type := (.array .int), accessFlags := 18, slot := 72, constantValue := 0 }, { name := "entTop", type := .int, accessFlags := 2, slot := 73, constantValue := 0 }, { name := "regOwner", type := (.array .int), accessFlags := 18, slot := 74, constantValue := 0 }, { name := "opStk", type := (.array .int), accessFlags := 18, slot := 75, constantValue := 0 }, { name := "opTop", type := .int, accessFlags := 2, slot := 76, constantValue := 0 }, { name := "cmpSeen", type := (.array .boolean), accessFlags := 18, slot := 77, constantValue := 0 }, { name := "parenDepth", type := .int, accessFlags := 2, slot := 78, constantValue := 0 }]
  methods := #[k2m0, k2m1, k2m2, k2m3, k2m4, k2m5, k2m6, k2m7, k2m8, k2m9, k2m10, k2m11, k2m12, k2m13, k2m14, k2m15, k2m16, k2m17, k2m18, k2m19, k2m20, k2m21, k2m22, k2m23, k2m24, k2m25, k2m26, k2m27, k2m28, k2m29, k2m30, k2m31, k2m32, k2m33, k2m34, k2m35, k2m36, k2m37, k2m38, k2m39, k2m40, k2m41, k2m42, k2m43, k2m44, k2m45, k2m46, k2m47, k2m48, k2m49, k2m50, k2m51, k2m52, k2m53, k2m54, k2m55, k2m56, k2m57, k2m58]
  instanceTypes := #[.int, .int, .int, .int, .int, .int, .int, .int, .int, .int, .int, .int, .int, .int, .int, .int, .int, .int, .int, .int, .int, .int, .int, .int, .int, .int, .int, .int, .int, .int, .int, .int, .boolean, .int, (.array .int), (.array .int), .int, .int, .int, (.array .int), (.array .int), (.array .int), (.array .int), (.array .int), (.array .int), (.array .int), (.array .int), (.array .int), (.array .int), (.array .int), (.array .int), (.array .int), (.array .boolean), (.array .int), (.array .int), (.array .int), (.array .int), (.array .int), (.array .int), .int, (.array .int), (.array .int), .int, .int, .int, .int, .int, .int, .int, (.array .int), (.array .int), (.array .int), (.array .int), .int, (.array .int), (.array .int), .int, (.array .boolean), .int]
  staticTypes := #[.int, .int, .int, .int, .int, .int, .int, .int, .int, .int, .int, .int, .int, .int, .int, .int, .int, .int, .int, .int, .int, .int, .int, .int, .int, .int, .int]
  resolved := Array.replicate 499 none
  statics := none }

def pool3 : Array CpInfo := pool [(1, u "java/lang/Cloneable"), (0, .class_ 1), (0, u "java/lang/Object"), (0, .class_ 3)] 3

/-- java/lang/Cloneable -/
def k3 : Class := { plain "java/lang/Cloneable" (some 0) with
  accessFlags := 1537
  interfaces := #[]
  cf := some (fileOf pool3 2 #[] #[] 1537 4 #[] #[])
  fields := #[]
  methods := #[]
  instanceTypes := #[]
  staticTypes := #[]
  resolved := Array.replicate 8 none
  statics := none }

def pool4 : Array CpInfo := pool [(1, u "java/io/Serializable"), (0, .class_ 1), (0, u "java/lang/Object"), (0, .class_ 3)] 3

/-- java/io/Serializable -/
def k4 : Class := { plain "java/io/Serializable" (some 0) with
  accessFlags := 1537
  interfaces := #[]
  cf := some (fileOf pool4 2 #[] #[] 1537 4 #[] #[])
  fields := #[]
  methods := #[]
  instanceTypes := #[]
  staticTypes := #[]
  resolved := Array.replicate 8 none
  statics := none }

/-- the primitive boolean -/
def k5 : Class := { plain "boolean" none with kind := .primitive 'Z', accessFlags := 0x411 }
/-- [Z -/
def k6 : Class := { plain "[Z" (some 0) with kind := .array 5 .boolean, interfaces := #[3, 4], accessFlags := 1041 }

/-- the primitive byte -/
def k7 : Class := { plain "byte" none with kind := .primitive 'B', accessFlags := 0x411 }
/-- [B -/
def k8 : Class := { plain "[B" (some 0) with kind := .array 7 .byte, interfaces := #[3, 4], accessFlags := 1041 }

/-- the primitive int -/
def k9 : Class := { plain "int" none with kind := .primitive 'I', accessFlags := 0x411 }
/-- [I -/
def k10 : Class := { plain "[I" (some 0) with kind := .array 9 .int, interfaces := #[3, 4], accessFlags := 1041 }

def heap : Heap := #[{ cls := 10, slots := #[.int 0, .int 1, .int 2], vm := .none }]
def classes : Array Class := #[k0, k1, k2, k3, k4, k5, k6, k7, k8, k9, k10]
def interned : List (Array UInt16 × Addr) := []
def slotsUsed : Nat := 3
def theMethod : MethodId := ⟨1, 1⟩
def args0 : Array Value := #[.ref 0]
def aboutOver (below : List Frame) : State where
  vm := { classes := classes, interned := interned.toArray }
  heap := heap
  slotsUsed := slotsUsed
  threads := #[{ frames := .invoking theMethod args0 :: below }]
def below0 : List Frame := [.native { method := ⟨0, 0⟩, args := #[] }]
def about1 : State := aboutOver below0
def p0 : Program := .bare "" "" ""
def e0 : Env := launch0.env 0 0 0
theorem w_frames : about1.frames = Frame.invoking theMethod args0 :: below0 := rfl
set_option maxRecDepth 65536 in
theorem w_args : argsFit about1.vm theMethod args0 = true := by decide +kernel
set_option maxRecDepth 65536 in
theorem w_heap : heapFits about1 = true := by decide +kernel
set_option maxRecDepth 65536 in
theorem w_runnable : about1.curStatus? = some .runnable := by decide +kernel
set_option maxRecDepth 65536 in
theorem w_alone : about1.alone = true := by decide +kernel
set_option maxRecDepth 65536 in
theorem w_named : about1.methodNamed? x = some theMethod := by decide +kernel
set_option maxRecDepth 65536 in
theorem w_hears : about1.hears theMethod below0 = true := by decide +kernel
set_option maxRecDepth 65536 in
theorem w_ripe : about1.ripe theMethod args0 below0 = true := by decide +kernel
theorem w_running : about1.status = .running := rfl
set_option maxRecDepth 65536 in
theorem w_room : about1.hasRoom e0.platform room_1 = true :=
  launch0.hasRoom_least _ room_1 (by decide +kernel) (by decide +kernel) (by decide +kernel) (by decide +kernel) (by decide +kernel) (by decide +kernel)
theorem allAtoms_all (ts : List Jvm.Cond) (a : Array Jvm.Value) (st : Jvm.State) : (allAtoms ts).before a st = ts.all (fun c => c.before a st) := by
  induction ts with
  | nil => rfl
  | cons c t ih =>
    show (Jvm.Cond.and c (allAtoms t)).before a st = _
    rw [Jvm.Cond.before_and, ih, List.all_cons]
def words1 : List Jvm.Cond := Jvm.Cond.code x code maxLocals ret :: tables_1
/-- a 'code' word, met by the world's own term for the bytes: nothing is compared byte by byte -/
theorem code_word {y : MethodName} {bytes : ByteArray} {mx : Nat} {rt : Option FieldType} {a : Array Value} {s : State} {m : MethodId} {meth : Method} {c : Code} (h1 : s.methodNamed? y = some m) (h2 : s.vm.method? m = some meth) (h3 : meth.code = some c) (h4 : c.code = bytes)
    (h5 : (c.maxLocals == mx && c.exceptionTable.isEmpty && decide (c.maxStack ≤ mostOperands) && decide (meth.sig.returnType = rt) && !meth.locks && decide (parseMethodDescriptor y.desc = some meth.sig)) = true) : (Jvm.Cond.code y bytes mx rt).before a s = true := by
  simp only [Bool.and_eq_true, beq_iff_eq, Bool.not_eq_true', decide_eq_true_eq] at h5
  obtain ⟨⟨⟨⟨⟨g1, g2⟩, g3⟩, g4⟩, g5⟩, g6⟩ := h5
  simp [Cond.before, Cond.holds, Cond.value, h1, h2, h3, h4, g1, g2, g3, g4, g5, g6]
def isCode : Jvm.Cond → Bool
  | .code _ _ _ _ => true
  | _ => false
theorem all_split {L : List Jvm.Cond} {P : Jvm.Cond → Bool} (h1 : L.all (fun c => isCode c || P c) = true) (h2 : ∀ c ∈ L.filter isCode, P c = true) : L.all P = true := by
  refine List.all_eq_true.mpr fun c hc => ?_
  have h := List.all_eq_true.mp h1 c hc
  rcases Bool.eq_false_or_eq_true (isCode c) with hi | hi
  · exact h2 c (List.mem_filter.mpr ⟨hc, hi⟩)
  · simpa [hi] using h
set_option maxRecDepth 65536 in
theorem w_c0 : (Jvm.Cond.code x code maxLocals ret).before args0 about1 = true := code_word (m := ⟨1, 1⟩) (meth := k1m1) (c := k1c1) (by decide +kernel) rfl rfl rfl (by decide +kernel)
set_option maxRecDepth 65536 in
theorem w_c1 : (Jvm.Cond.code ({ cls := "LocListDebug", name := "<init>", desc := "(I)V" } : Jvm.MethodName) prog_1_method_1_code (3 : Nat) (Option.none : Option Jvm.ClassFile.FieldType)).before args0 about1 = true := code_word (m := ⟨2, 0⟩) (meth := k2m0) (c := k2c0) (by decide +kernel) rfl rfl rfl (by decide +kernel)
set_option maxRecDepth 65536 in
theorem w_c2 : (Jvm.Cond.code ({ cls := "java/lang/Object", name := "<init>", desc := "()V" } : Jvm.MethodName) object_method_1_code (1 : Nat) (Option.none : Option Jvm.ClassFile.FieldType)).before args0 about1 = true := code_word (m := ⟨0, 0⟩) (meth := k0m0) (c := k0c0) (by decide +kernel) rfl rfl rfl (by decide +kernel)
set_option maxRecDepth 65536 in
theorem w_c3 : (Jvm.Cond.code ({ cls := "LocListDebug", name := "clearAll", desc := "()V" } : Jvm.MethodName) prog_1_method_18_code (1 : Nat) (Option.none : Option Jvm.ClassFile.FieldType)).before args0 about1 = true := code_word (m := ⟨2, 15⟩) (meth := k2m15) (c := k2c15) (by decide +kernel) rfl rfl rfl (by decide +kernel)
set_option maxRecDepth 65536 in
theorem w_c4 : (Jvm.Cond.code ({ cls := "LocListDebug", name := "clearBreaks", desc := "()V" } : Jvm.MethodName) prog_1_method_19_code (2 : Nat) (Option.none : Option Jvm.ClassFile.FieldType)).before args0 about1 = true := code_word (m := ⟨2, 16⟩) (meth := k2m16) (c := k2c16) (by decide +kernel) rfl rfl rfl (by decide +kernel)
set_option maxRecDepth 65536 in
theorem w_c5 : (Jvm.Cond.code ({ cls := "LocListDebug", name := "tokenCount", desc := "()I" } : Jvm.MethodName) prog_1_method_3_code (1 : Nat) (Option.some Jvm.ClassFile.FieldType.int)).before args0 about1 = true := code_word (m := ⟨2, 2⟩) (meth := k2m2) (c := k2c2) (by decide +kernel) rfl rfl rfl (by decide +kernel)
set_option maxRecDepth 65536 in
theorem w_c6 : (Jvm.Cond.code ({ cls := "LocListDebugL7", name := "kindAt", desc := "(II)I" } : Jvm.MethodName) method_3_code (2 : Nat) (Option.some Jvm.ClassFile.FieldType.int)).before args0 about1 = true := code_word (m := ⟨1, 2⟩) (meth := k1m2) (c := k1c2) (by decide +kernel) rfl rfl rfl (by decide +kernel)
set_option maxRecDepth 65536 in
theorem w_c7 : (Jvm.Cond.code ({ cls := "LocListDebug", name := "addToken", desc := "(II)Z" } : Jvm.MethodName) prog_1_method_2_code (3 : Nat) (Option.some Jvm.ClassFile.FieldType.boolean)).before args0 about1 = true := code_word (m := ⟨2, 1⟩) (meth := k2m1) (c := k2c1) (by decide +kernel) rfl rfl rfl (by decide +kernel)
set_option maxRecDepth 65536 in
theorem w_c8 : (Jvm.Cond.code ({ cls := "LocListDebug", name := "where", desc := "()I" } : Jvm.MethodName) prog_1_method_12_code (1 : Nat) (Option.some Jvm.ClassFile.FieldType.int)).before args0 about1 = true := code_word (m := ⟨2, 9⟩) (meth := k2m9) (c := k2c9) (by decide +kernel) rfl rfl rfl (by decide +kernel)
set_option maxRecDepth 65536 in
theorem w_c9 : (Jvm.Cond.code ({ cls := "LocListDebug", name := "step", desc := "()I" } : Jvm.MethodName) prog_1_method_9_code (1 : Nat) (Option.some Jvm.ClassFile.FieldType.int)).before args0 about1 = true := code_word (m := ⟨2, 6⟩) (meth := k2m6) (c := k2c6) (by decide +kernel) rfl rfl rfl (by decide +kernel)
set_option maxRecDepth 65536 in
theorem w_c10 : (Jvm.Cond.code ({ cls := "LocListDebug", name := "run", desc := "(I)I" } : Jvm.MethodName) prog_1_method_10_code (4 : Nat) (Option.some Jvm.ClassFile.FieldType.int)).before args0 about1 = true := code_word (m := ⟨2, 7⟩) (meth := k2m7) (c := k2c7) (by decide +kernel) rfl rfl rfl (by decide +kernel)
set_option maxRecDepth 65536 in
theorem w_c11 : (Jvm.Cond.code ({ cls := "LocListDebug", name := "setBreak", desc := "(IZ)Z" } : Jvm.MethodName) prog_1_method_8_code (3 : Nat) (Option.some Jvm.ClassFile.FieldType.boolean)).before args0 about1 = true := code_word (m := ⟨2, 5⟩) (meth := k2m5) (c := k2c5) (by decide +kernel) rfl rfl rfl (by decide +kernel)
set_option maxRecDepth 65536 in
theorem w_c12 : (Jvm.Cond.code ({ cls := "LocListDebug", name := "compile", desc := "()I" } : Jvm.MethodName) prog_1_method_5_code (2 : Nat) (Option.some Jvm.ClassFile.FieldType.int)).before args0 about1 = true := code_word (m := ⟨2, 4⟩) (meth := k2m4) (c := k2c4) (by decide +kernel) rfl rfl rfl (by decide +kernel)
set_option maxRecDepth 65536 in
theorem w_c13 : (Jvm.Cond.code ({ cls := "LocListDebug", name := "parseAll", desc := "()I" } : Jvm.MethodName) prog_1_method_23_code (2 : Nat) (Option.some Jvm.ClassFile.FieldType.int)).before args0 about1 = true := code_word (m := ⟨2, 20⟩) (meth := k2m20) (c := k2c20) (by decide +kernel) rfl rfl rfl (by decide +kernel)
set_option maxRecDepth 65536 in
theorem w_c14 : (Jvm.Cond.code ({ cls := "LocListDebug", name := "beginParse", desc := "()V" } : Jvm.MethodName) prog_1_method_24_code (1 : Nat) (Option.none : Option Jvm.ClassFile.FieldType)).before args0 about1 = true := code_word (m := ⟨2, 21⟩) (meth := k2m21) (c := k2c21) (by decide +kernel) rfl rfl rfl (by decide +kernel)
set_option maxRecDepth 65536 in
theorem w_c15 : (Jvm.Cond.code ({ cls := "LocListDebug", name := "resetExpr", desc := "()V" } : Jvm.MethodName) prog_1_method_30_code (2 : Nat) (Option.none : Option Jvm.ClassFile.FieldType)).before args0 about1 = true := code_word (m := ⟨2, 27⟩) (meth := k2m27) (c := k2c27) (by decide +kernel) rfl rfl rfl (by decide +kernel)
set_option maxRecDepth 65536 in
theorem w_c16 : (Jvm.Cond.code ({ cls := "LocListDebug", name := "feed", desc := "(II)Z" } : Jvm.MethodName) prog_1_method_25_code (3 : Nat) (Option.some Jvm.ClassFile.FieldType.boolean)).before args0 about1 = true := code_word (m := ⟨2, 22⟩) (meth := k2m22) (c := k2c22) (by decide +kernel) rfl rfl rfl (by decide +kernel)
set_option maxRecDepth 65536 in
theorem w_c17 : (Jvm.Cond.code ({ cls := "LocListDebug", name := "feedStatementStart", desc := "(II)Z" } : Jvm.MethodName) prog_1_method_26_code (4 : Nat) (Option.some Jvm.ClassFile.FieldType.boolean)).before args0 about1 = true := code_word (m := ⟨2, 23⟩) (meth := k2m23) (c := k2c23) (by decide +kernel) rfl rfl rfl (by decide +kernel)
set_option maxRecDepth 65536 in
theorem w_c18 : (Jvm.Cond.code ({ cls := "LocListDebug", name := "newStatement", desc := "(I)I" } : Jvm.MethodName) prog_1_method_27_code (5 : Nat) (Option.some Jvm.ClassFile.FieldType.int)).before args0 about1 = true := code_word (m := ⟨2, 24⟩) (meth := k2m24) (c := k2c24) (by decide +kernel) rfl rfl rfl (by decide +kernel)
set_option maxRecDepth 65536 in
theorem w_c19 : (Jvm.Cond.code ({ cls := "LocListDebug", name := "feedOperand", desc := "(II)Z" } : Jvm.MethodName) prog_1_method_31_code (4 : Nat) (Option.some Jvm.ClassFile.FieldType.boolean)).before args0 about1 = true := code_word (m := ⟨2, 28⟩) (meth := k2m28) (c := k2c28) (by decide +kernel) rfl rfl rfl (by decide +kernel)
set_option maxRecDepth 65536 in
theorem w_c20 : (Jvm.Cond.code ({ cls := "LocListDebug", name := "pushEntry", desc := "(II)Z" } : Jvm.MethodName) prog_1_method_39_code (3 : Nat) (Option.some Jvm.ClassFile.FieldType.boolean)).before args0 about1 = true := code_word (m := ⟨2, 35⟩) (meth := k2m35) (c := k2c35) (by decide +kernel) rfl rfl rfl (by decide +kernel)
set_option maxRecDepth 65536 in
theorem w_c21 : (Jvm.Cond.code ({ cls := "LocListDebug", name := "feedOperator", desc := "(I)Z" } : Jvm.MethodName) prog_1_method_32_code (3 : Nat) (Option.some Jvm.ClassFile.FieldType.boolean)).before args0 about1 = true := code_word (m := ⟨2, 29⟩) (meth := k2m29) (c := k2c29) (by decide +kernel) rfl rfl rfl (by decide +kernel)
set_option maxRecDepth 65536 in
theorem w_c22 : (Jvm.Cond.code ({ cls := "LocListDebug", name := "isBinaryToken", desc := "(I)Z" } : Jvm.MethodName) prog_1_method_35_code (2 : Nat) (Option.some Jvm.ClassFile.FieldType.boolean)).before args0 about1 = true := code_word (m := ⟨2, 31⟩) (meth := k2m31) (c := k2c31) (by decide +kernel) rfl rfl rfl (by decide +kernel)
set_option maxRecDepth 65536 in
theorem w_c23 : (Jvm.Cond.code ({ cls := "LocListDebug", name := "takeBinary", desc := "(I)Z" } : Jvm.MethodName) prog_1_method_33_code (3 : Nat) (Option.some Jvm.ClassFile.FieldType.boolean)).before args0 about1 = true := code_word (m := ⟨2, 30⟩) (meth := k2m30) (c := k2c30) (by decide +kernel) rfl rfl rfl (by decide +kernel)
set_option maxRecDepth 65536 in
theorem w_c24 : (Jvm.Cond.code ({ cls := "LocListDebug", name := "precedence", desc := "(I)I" } : Jvm.MethodName) prog_1_method_36_code (2 : Nat) (Option.some Jvm.ClassFile.FieldType.int)).before args0 about1 = true := code_word (m := ⟨2, 32⟩) (meth := k2m32) (c := k2c32) (by decide +kernel) rfl rfl rfl (by decide +kernel)
set_option maxRecDepth 65536 in
theorem w_c25 : (Jvm.Cond.code ({ cls := "LocListDebug", name := "reduceWhile", desc := "(I)V" } : Jvm.MethodName) prog_1_method_38_code (5 : Nat) (Option.none : Option Jvm.ClassFile.FieldType)).before args0 about1 = true := code_word (m := ⟨2, 34⟩) (meth := k2m34) (c := k2c34) (by decide +kernel) rfl rfl rfl (by decide +kernel)
set_option maxRecDepth 65536 in
theorem w_c26 : (Jvm.Cond.code ({ cls := "LocListDebug", name := "pushOp", desc := "(I)Z" } : Jvm.MethodName) prog_1_method_37_code (2 : Nat) (Option.some Jvm.ClassFile.FieldType.boolean)).before args0 about1 = true := code_word (m := ⟨2, 33⟩) (meth := k2m33) (c := k2c33) (by decide +kernel) rfl rfl rfl (by decide +kernel)
set_option maxRecDepth 65536 in
theorem w_c27 : (Jvm.Cond.code ({ cls := "LocListDebug", name := "curIsAssign", desc := "()Z" } : Jvm.MethodName) prog_1_method_29_code (1 : Nat) (Option.some Jvm.ClassFile.FieldType.boolean)).before args0 about1 = true := code_word (m := ⟨2, 26⟩) (meth := k2m26) (c := k2c26) (by decide +kernel) rfl rfl rfl (by decide +kernel)
set_option maxRecDepth 65536 in
theorem w_c28 : (Jvm.Cond.code ({ cls := "LocListDebug", name := "applyOp", desc := "(I)V" } : Jvm.MethodName) prog_1_method_40_code (2 : Nat) (Option.none : Option Jvm.ClassFile.FieldType)).before args0 about1 = true := code_word (m := ⟨2, 36⟩) (meth := k2m36) (c := k2c36) (by decide +kernel) rfl rfl rfl (by decide +kernel)
set_option maxRecDepth 65536 in
theorem w_c29 : (Jvm.Cond.code ({ cls := "LocListDebug", name := "applyBinary", desc := "(I)V" } : Jvm.MethodName) prog_1_method_42_code (6 : Nat) (Option.none : Option Jvm.ClassFile.FieldType)).before args0 about1 = true := code_word (m := ⟨2, 37⟩) (meth := k2m37) (c := k2c37) (by decide +kernel) rfl rfl rfl (by decide +kernel)
set_option maxRecDepth 65536 in
theorem w_c30 : (Jvm.Cond.code ({ cls := "LocListDebug", name := "simplify", desc := "(III)Z" } : Jvm.MethodName) prog_1_method_43_code (5 : Nat) (Option.some Jvm.ClassFile.FieldType.boolean)).before args0 about1 = true := code_word (m := ⟨2, 38⟩) (meth := k2m38) (c := k2c38) (by decide +kernel) rfl rfl rfl (by decide +kernel)
set_option maxRecDepth 65536 in
theorem w_c31 : (Jvm.Cond.code ({ cls := "LocListDebug", name := "rightIdentity", desc := "(II)I" } : Jvm.MethodName) prog_1_method_44_code (3 : Nat) (Option.some Jvm.ClassFile.FieldType.int)).before args0 about1 = true := code_word (m := ⟨2, 39⟩) (meth := k2m39) (c := k2c39) (by decide +kernel) rfl rfl rfl (by decide +kernel)
set_option maxRecDepth 65536 in
theorem w_c32 : (Jvm.Cond.code ({ cls := "LocListDebug", name := "materialize", desc := "(II)I" } : Jvm.MethodName) prog_1_method_49_code (5 : Nat) (Option.some Jvm.ClassFile.FieldType.int)).before args0 about1 = true := code_word (m := ⟨2, 40⟩) (meth := k2m40) (c := k2c40) (by decide +kernel) rfl rfl rfl (by decide +kernel)
set_option maxRecDepth 65536 in
theorem w_c33 : (Jvm.Cond.code ({ cls := "LocListDebug", name := "allocRegister", desc := "(II)I" } : Jvm.MethodName) prog_1_method_50_code (5 : Nat) (Option.some Jvm.ClassFile.FieldType.int)).before args0 about1 = true := code_word (m := ⟨2, 41⟩) (meth := k2m41) (c := k2c41) (by decide +kernel) rfl rfl rfl (by decide +kernel)
set_option maxRecDepth 65536 in
theorem w_c34 : (Jvm.Cond.code ({ cls := "LocListDebug", name := "emit", desc := "(IIII)I" } : Jvm.MethodName) prog_1_method_53_code (6 : Nat) (Option.some Jvm.ClassFile.FieldType.int)).before args0 about1 = true := code_word (m := ⟨2, 44⟩) (meth := k2m44) (c := k2c44) (by decide +kernel) rfl rfl rfl (by decide +kernel)
set_option maxRecDepth 65536 in
theorem w_c35 : (Jvm.Cond.code ({ cls := "LocListDebug", name := "finishCondition", desc := "()V" } : Jvm.MethodName) prog_1_method_52_code (3 : Nat) (Option.none : Option Jvm.ClassFile.FieldType)).before args0 about1 = true := code_word (m := ⟨2, 43⟩) (meth := k2m43) (c := k2c43) (by decide +kernel) rfl rfl rfl (by decide +kernel)
set_option maxRecDepth 65536 in
theorem w_c36 : (Jvm.Cond.code ({ cls := "LocListDebug", name := "openBlock", desc := "()Z" } : Jvm.MethodName) prog_1_method_28_code (1 : Nat) (Option.some Jvm.ClassFile.FieldType.boolean)).before args0 about1 = true := code_word (m := ⟨2, 25⟩) (meth := k2m25) (c := k2c25) (by decide +kernel) rfl rfl rfl (by decide +kernel)
set_option maxRecDepth 65536 in
theorem w_c37 : (Jvm.Cond.code ({ cls := "LocListDebug", name := "restart", desc := "()Z" } : Jvm.MethodName) prog_1_method_11_code (1 : Nat) (Option.some Jvm.ClassFile.FieldType.boolean)).before args0 about1 = true := code_word (m := ⟨2, 8⟩) (meth := k2m8) (c := k2c8) (by decide +kernel) rfl rfl rfl (by decide +kernel)
set_option maxRecDepth 65536 in
theorem w_c38 : (Jvm.Cond.code ({ cls := "LocListDebug", name := "finishAssignment", desc := "()V" } : Jvm.MethodName) prog_1_method_51_code (4 : Nat) (Option.none : Option Jvm.ClassFile.FieldType)).before args0 about1 = true := code_word (m := ⟨2, 42⟩) (meth := k2m42) (c := k2c42) (by decide +kernel) rfl rfl rfl (by decide +kernel)
set_option maxRecDepth 65536 in
theorem w_c39 : (Jvm.Cond.code ({ cls := "LocListDebug", name := "linkStatements", desc := "()V" } : Jvm.MethodName) prog_1_method_54_code (2 : Nat) (Option.none : Option Jvm.ClassFile.FieldType)).before args0 about1 = true := code_word (m := ⟨2, 45⟩) (meth := k2m45) (c := k2c45) (by decide +kernel) rfl rfl rfl (by decide +kernel)
set_option maxRecDepth 65536 in
theorem w_c40 : (Jvm.Cond.code ({ cls := "LocListDebug", name := "successorOf", desc := "(I)I" } : Jvm.MethodName) prog_1_method_55_code (5 : Nat) (Option.some Jvm.ClassFile.FieldType.int)).before args0 about1 = true := code_word (m := ⟨2, 46⟩) (meth := k2m46) (c := k2c46) (by decide +kernel) rfl rfl rfl (by decide +kernel)
set_option maxRecDepth 65536 in
theorem w_c41 : (Jvm.Cond.code ({ cls := "LocListDebug", name := "patchTerminator", desc := "(I)V" } : Jvm.MethodName) prog_1_method_56_code (5 : Nat) (Option.none : Option Jvm.ClassFile.FieldType)).before args0 about1 = true := code_word (m := ⟨2, 47⟩) (meth := k2m47) (c := k2c47) (by decide +kernel) rfl rfl rfl (by decide +kernel)
set_option maxRecDepth 65536 in
theorem w_c42 : (Jvm.Cond.code ({ cls := "LocListDebug", name := "computeMasks", desc := "()V" } : Jvm.MethodName) prog_1_method_58_code (3 : Nat) (Option.none : Option Jvm.ClassFile.FieldType)).before args0 about1 = true := code_word (m := ⟨2, 49⟩) (meth := k2m49) (c := k2c49) (by decide +kernel) rfl rfl rfl (by decide +kernel)
set_option maxRecDepth 65536 in
theorem w_c43 : (Jvm.Cond.code ({ cls := "LocListDebug", name := "bitOf", desc := "(I)I" } : Jvm.MethodName) prog_1_method_57_code (2 : Nat) (Option.some Jvm.ClassFile.FieldType.int)).before args0 about1 = true := code_word (m := ⟨2, 48⟩) (meth := k2m48) (c := k2c48) (by decide +kernel) rfl rfl rfl (by decide +kernel)
set_option maxRecDepth 65536 in
theorem w_c44 : (Jvm.Cond.code ({ cls := "LocListDebug", name := "computeDefs", desc := "()V" } : Jvm.MethodName) prog_1_method_59_code (4 : Nat) (Option.none : Option Jvm.ClassFile.FieldType)).before args0 about1 = true := code_word (m := ⟨2, 50⟩) (meth := k2m50) (c := k2c50) (by decide +kernel) rfl rfl rfl (by decide +kernel)
set_option maxRecDepth 65536 in
theorem w_c45 : (Jvm.Cond.code ({ cls := "LocListDebug", name := "buildLocationLists", desc := "()V" } : Jvm.MethodName) prog_1_method_60_code (3 : Nat) (Option.none : Option Jvm.ClassFile.FieldType)).before args0 about1 = true := code_word (m := ⟨2, 51⟩) (meth := k2m51) (c := k2c51) (by decide +kernel) rfl rfl rfl (by decide +kernel)
set_option maxRecDepth 65536 in
theorem w_c46 : (Jvm.Cond.code ({ cls := "LocListDebug", name := "locate", desc := "(II)V" } : Jvm.MethodName) prog_1_method_61_code (8 : Nat) (Option.none : Option Jvm.ClassFile.FieldType)).before args0 about1 = true := code_word (m := ⟨2, 52⟩) (meth := k2m52) (c := k2c52) (by decide +kernel) rfl rfl rfl (by decide +kernel)
set_option maxRecDepth 65536 in
theorem w_c47 : (Jvm.Cond.code ({ cls := "LocListDebug", name := "restartMachine", desc := "()V" } : Jvm.MethodName) prog_1_method_20_code (2 : Nat) (Option.none : Option Jvm.ClassFile.FieldType)).before args0 about1 = true := code_word (m := ⟨2, 17⟩) (meth := k2m17) (c := k2c17) (by decide +kernel) rfl rfl rfl (by decide +kernel)
set_option maxRecDepth 65536 in
theorem w_c48 : (Jvm.Cond.code ({ cls := "LocListDebug", name := "stepOnce", desc := "()V" } : Jvm.MethodName) prog_1_method_64_code (2 : Nat) (Option.none : Option Jvm.ClassFile.FieldType)).before args0 about1 = true := code_word (m := ⟨2, 53⟩) (meth := k2m53) (c := k2c53) (by decide +kernel) rfl rfl rfl (by decide +kernel)
set_option maxRecDepth 65536 in
theorem w_c49 : (Jvm.Cond.code ({ cls := "LocListDebug", name := "execStatement", desc := "(I)I" } : Jvm.MethodName) prog_1_method_65_code (5 : Nat) (Option.some Jvm.ClassFile.FieldType.int)).before args0 about1 = true := code_word (m := ⟨2, 54⟩) (meth := k2m54) (c := k2c54) (by decide +kernel) rfl rfl rfl (by decide +kernel)
set_option maxRecDepth 65536 in
theorem w_c50 : (Jvm.Cond.code ({ cls := "LocListDebug", name := "execInstruction", desc := "(I)V" } : Jvm.MethodName) prog_1_method_66_code (8 : Nat) (Option.none : Option Jvm.ClassFile.FieldType)).before args0 about1 = true := code_word (m := ⟨2, 55⟩) (meth := k2m55) (c := k2c55) (by decide +kernel) rfl rfl rfl (by decide +kernel)
set_option maxRecDepth 65536 in
theorem w_c51 : (Jvm.Cond.code ({ cls := "LocListDebug", name := "load", desc := "(I)I" } : Jvm.MethodName) prog_1_method_67_code (2 : Nat) (Option.some Jvm.ClassFile.FieldType.int)).before args0 about1 = true := code_word (m := ⟨2, 56⟩) (meth := k2m56) (c := k2c56) (by decide +kernel) rfl rfl rfl (by decide +kernel)
set_option maxRecDepth 65536 in
theorem w_c52 : (Jvm.Cond.code ({ cls := "LocListDebug", name := "arith", desc := "(III)I" } : Jvm.MethodName) prog_1_method_69_code (4 : Nat) (Option.some Jvm.ClassFile.FieldType.int)).before args0 about1 = true := code_word (m := ⟨2, 58⟩) (meth := k2m58) (c := k2c58) (by decide +kernel) rfl rfl rfl (by decide +kernel)
set_option maxRecDepth 65536 in
theorem w_c53 : (Jvm.Cond.code ({ cls := "LocListDebug", name := "store", desc := "(II)V" } : Jvm.MethodName) prog_1_method_68_code (3 : Nat) (Option.none : Option Jvm.ClassFile.FieldType)).before args0 about1 = true := code_word (m := ⟨2, 57⟩) (meth := k2m57) (c := k2c57) (by decide +kernel) rfl rfl rfl (by decide +kernel)
set_option maxRecDepth 65536 in
theorem w_c54 : (Jvm.Cond.code ({ cls := "LocListDebug", name := "breakAt", desc := "(I)Z" } : Jvm.MethodName) prog_1_method_21_code (2 : Nat) (Option.some Jvm.ClassFile.FieldType.boolean)).before args0 about1 = true := code_word (m := ⟨2, 18⟩) (meth := k2m18) (c := k2c18) (by decide +kernel) rfl rfl rfl (by decide +kernel)
set_option maxRecDepth 65536 in
theorem w_c55 : (Jvm.Cond.code ({ cls := "LocListDebug", name := "reset", desc := "()V" } : Jvm.MethodName) prog_1_method_4_code (1 : Nat) (Option.none : Option Jvm.ClassFile.FieldType)).before args0 about1 = true := code_word (m := ⟨2, 3⟩) (meth := k2m3) (c := k2c3) (by decide +kernel) rfl rfl rfl (by decide +kernel)
set_option maxRecDepth 65536 in
theorem w_c56 : (Jvm.Cond.code ({ cls := "LocListDebug", name := "stepsTaken", desc := "()I" } : Jvm.MethodName) prog_1_method_13_code (1 : Nat) (Option.some Jvm.ClassFile.FieldType.int)).before args0 about1 = true := code_word (m := ⟨2, 10⟩) (meth := k2m10) (c := k2c10) (by decide +kernel) rfl rfl rfl (by decide +kernel)
set_option maxRecDepth 65536 in
theorem w_c57 : (Jvm.Cond.code ({ cls := "LocListDebug", name := "lastVar", desc := "()I" } : Jvm.MethodName) prog_1_method_16_code (1 : Nat) (Option.some Jvm.ClassFile.FieldType.int)).before args0 about1 = true := code_word (m := ⟨2, 13⟩) (meth := k2m13) (c := k2c13) (by decide +kernel) rfl rfl rfl (by decide +kernel)
set_option maxRecDepth 65536 in
theorem w_c58 : (Jvm.Cond.code ({ cls := "LocListDebug", name := "lastValue", desc := "()I" } : Jvm.MethodName) prog_1_method_17_code (1 : Nat) (Option.some Jvm.ClassFile.FieldType.int)).before args0 about1 = true := code_word (m := ⟨2, 14⟩) (meth := k2m14) (c := k2c14) (by decide +kernel) rfl rfl rfl (by decide +kernel)
set_option maxRecDepth 65536 in
theorem w_c59 : (Jvm.Cond.code ({ cls := "LocListDebugL7", name := "availMask", desc := "(LLocListDebug;)I" } : Jvm.MethodName) method_4_code (3 : Nat) (Option.some Jvm.ClassFile.FieldType.int)).before args0 about1 = true := code_word (m := ⟨1, 3⟩) (meth := k1m3) (c := k1c3) (by decide +kernel) rfl rfl rfl (by decide +kernel)
set_option maxRecDepth 65536 in
theorem w_c60 : (Jvm.Cond.code ({ cls := "LocListDebug", name := "isAvailable", desc := "(I)Z" } : Jvm.MethodName) prog_1_method_14_code (3 : Nat) (Option.some Jvm.ClassFile.FieldType.boolean)).before args0 about1 = true := code_word (m := ⟨2, 11⟩) (meth := k2m11) (c := k2c11) (by decide +kernel) rfl rfl rfl (by decide +kernel)
set_option maxRecDepth 65536 in
theorem w_c61 : (Jvm.Cond.code ({ cls := "LocListDebug", name := "stopIndex", desc := "()I" } : Jvm.MethodName) prog_1_method_22_code (1 : Nat) (Option.some Jvm.ClassFile.FieldType.int)).before args0 about1 = true := code_word (m := ⟨2, 19⟩) (meth := k2m19) (c := k2c19) (by decide +kernel) rfl rfl rfl (by decide +kernel)
set_option maxRecDepth 65536 in
theorem w_c62 : (Jvm.Cond.code ({ cls := "LocListDebug", name := "value", desc := "(I)I" } : Jvm.MethodName) prog_1_method_15_code (3 : Nat) (Option.some Jvm.ClassFile.FieldType.int)).before args0 about1 = true := code_word (m := ⟨2, 12⟩) (meth := k2m12) (c := k2c12) (by decide +kernel) rfl rfl rfl (by decide +kernel)
def codes1 : List Jvm.Cond := [Jvm.Cond.code x code maxLocals ret, Jvm.Cond.code ({ cls := "LocListDebug", name := "<init>", desc := "(I)V" } : Jvm.MethodName) prog_1_method_1_code (3 : Nat) (Option.none : Option Jvm.ClassFile.FieldType), Jvm.Cond.code ({ cls := "java/lang/Object", name := "<init>", desc := "()V" } : Jvm.MethodName) object_method_1_code (1 : Nat) (Option.none : Option Jvm.ClassFile.FieldType), Jvm.Cond.code ({ cls := "LocListDebug", name := "clearAll", desc := "()V" } : Jvm.MethodName) prog_1_method_18_code (1 : Nat) (Option.none : Option Jvm.ClassFile.FieldType), Jvm.Cond.code ({ cls := "LocListDebug", name := "clearBreaks", desc := "()V" } : Jvm.MethodName) prog_1_method_19_code (2 : Nat) (Option.none : Option Jvm.ClassFile.FieldType), Jvm.Cond.code ({ cls := "LocListDebug", name := "tokenCount", desc := "()I" } : Jvm.MethodName) prog_1_method_3_code (1 : Nat) (Option.some Jvm.ClassFile.FieldType.int), Jvm.Cond.code ({ cls := "LocListDebugL7", name := "kindAt", desc := "(II)I" } : Jvm.MethodName) method_3_code (2 : Nat) (Option.some Jvm.ClassFile.FieldType.int), Jvm.Cond.code ({ cls := "LocListDebug", name := "addToken", desc := "(II)Z" } : Jvm.MethodName) prog_1_method_2_code (3 : Nat) (Option.some Jvm.ClassFile.FieldType.boolean), Jvm.Cond.code ({ cls := "LocListDebug", name := "where", desc := "()I" } : Jvm.MethodName) prog_1_method_12_code (1 : Nat) (Option.some Jvm.ClassFile.FieldType.int), Jvm.Cond.code ({ cls := "LocListDebug", name := "step", desc := "()I" } : Jvm.MethodName) prog_1_method_9_code (1 : Nat) (Option.some Jvm.ClassFile.FieldType.int), Jvm.Cond.code ({ cls := "LocListDebug", name := "run", desc := "(I)I" } : Jvm.MethodName) prog_1_method_10_code (4 : Nat) (Option.some Jvm.ClassFile.FieldType.int), Jvm.Cond.code ({ cls := "LocListDebug", name := "setBreak", desc := "(IZ)Z" } : Jvm.MethodName) prog_1_method_8_code (3 : Nat) (Option.some Jvm.ClassFile.FieldType.boolean), Jvm.Cond.code ({ cls := "LocListDebug", name := "compile", desc := "()I" } : Jvm.MethodName) prog_1_method_5_code (2 : Nat) (Option.some Jvm.ClassFile.FieldType.int), Jvm.Cond.code ({ cls := "LocListDebug", name := "parseAll", desc := "()I" } : Jvm.MethodName) prog_1_method_23_code (2 : Nat) (Option.some Jvm.ClassFile.FieldType.int), Jvm.Cond.code ({ cls := "LocListDebug", name := "beginParse", desc := "()V" } : Jvm.MethodName) prog_1_method_24_code (1 : Nat) (Option.none : Option Jvm.ClassFile.FieldType), Jvm.Cond.code ({ cls := "LocListDebug", name := "resetExpr", desc := "()V" } : Jvm.MethodName) prog_1_method_30_code (2 : Nat) (Option.none : Option Jvm.ClassFile.FieldType), Jvm.Cond.code ({ cls := "LocListDebug", name := "feed", desc := "(II)Z" } : Jvm.MethodName) prog_1_method_25_code (3 : Nat) (Option.some Jvm.ClassFile.FieldType.boolean), Jvm.Cond.code ({ cls := "LocListDebug", name := "feedStatementStart", desc := "(II)Z" } : Jvm.MethodName) prog_1_method_26_code (4 : Nat) (Option.some Jvm.ClassFile.FieldType.boolean), Jvm.Cond.code ({ cls := "LocListDebug", name := "newStatement", desc := "(I)I" } : Jvm.MethodName) prog_1_method_27_code (5 : Nat) (Option.some Jvm.ClassFile.FieldType.int), Jvm.Cond.code ({ cls := "LocListDebug", name := "feedOperand", desc := "(II)Z" } : Jvm.MethodName) prog_1_method_31_code (4 : Nat) (Option.some Jvm.ClassFile.FieldType.boolean), Jvm.Cond.code ({ cls := "LocListDebug", name := "pushEntry", desc := "(II)Z" } : Jvm.MethodName) prog_1_method_39_code (3 : Nat) (Option.some Jvm.ClassFile.FieldType.boolean), Jvm.Cond.code ({ cls := "LocListDebug", name := "feedOperator", desc := "(I)Z" } : Jvm.MethodName) prog_1_method_32_code (3 : Nat) (Option.some Jvm.ClassFile.FieldType.boolean), Jvm.Cond.code ({ cls := "LocListDebug", name := "isBinaryToken", desc := "(I)Z" } : Jvm.MethodName) prog_1_method_35_code (2 : Nat) (Option.some Jvm.ClassFile.FieldType.boolean), Jvm.Cond.code ({ cls := "LocListDebug", name := "takeBinary", desc := "(I)Z" } : Jvm.MethodName) prog_1_method_33_code (3 : Nat) (Option.some Jvm.ClassFile.FieldType.boolean), Jvm.Cond.code ({ cls := "LocListDebug", name := "precedence", desc := "(I)I" } : Jvm.MethodName) prog_1_method_36_code (2 : Nat) (Option.some Jvm.ClassFile.FieldType.int), Jvm.Cond.code ({ cls := "LocListDebug", name := "reduceWhile", desc := "(I)V" } : Jvm.MethodName) prog_1_method_38_code (5 : Nat) (Option.none : Option Jvm.ClassFile.FieldType), Jvm.Cond.code ({ cls := "LocListDebug", name := "pushOp", desc := "(I)Z" } : Jvm.MethodName) prog_1_method_37_code (2 : Nat) (Option.some Jvm.ClassFile.FieldType.boolean), Jvm.Cond.code ({ cls := "LocListDebug", name := "curIsAssign", desc := "()Z" } : Jvm.MethodName) prog_1_method_29_code (1 : Nat) (Option.some Jvm.ClassFile.FieldType.boolean), Jvm.Cond.code ({ cls := "LocListDebug", name := "applyOp", desc := "(I)V" } : Jvm.MethodName) prog_1_method_40_code (2 : Nat) (Option.none : Option Jvm.ClassFile.FieldType), Jvm.Cond.code ({ cls := "LocListDebug", name := "applyBinary", desc := "(I)V" } : Jvm.MethodName) prog_1_method_42_code (6 : Nat) (Option.none : Option Jvm.ClassFile.FieldType), Jvm.Cond.code ({ cls := "LocListDebug", name := "simplify", desc := "(III)Z" } : Jvm.MethodName) prog_1_method_43_code (5 : Nat) (Option.some Jvm.ClassFile.FieldType.boolean), Jvm.Cond.code ({ cls := "LocListDebug", name := "rightIdentity", desc := "(II)I" } : Jvm.MethodName) prog_1_method_44_code (3 : Nat) (Option.some Jvm.ClassFile.FieldType.int), Jvm.Cond.code ({ cls := "LocListDebug", name := "materialize", desc := "(II)I" } : Jvm.MethodName) prog_1_method_49_code (5 : Nat) (Option.some Jvm.ClassFile.FieldType.int), Jvm.Cond.code ({ cls := "LocListDebug", name := "allocRegister", desc := "(II)I" } : Jvm.MethodName) prog_1_method_50_code (5 : Nat) (Option.some Jvm.ClassFile.FieldType.int), Jvm.Cond.code ({ cls := "LocListDebug", name := "emit", desc := "(IIII)I" } : Jvm.MethodName) prog_1_method_53_code (6 : Nat) (Option.some Jvm.ClassFile.FieldType.int), Jvm.Cond.code ({ cls := "LocListDebug", name := "finishCondition", desc := "()V" } : Jvm.MethodName) prog_1_method_52_code (3 : Nat) (Option.none : Option Jvm.ClassFile.FieldType), Jvm.Cond.code ({ cls := "LocListDebug", name := "openBlock", desc := "()Z" } : Jvm.MethodName) prog_1_method_28_code (1 : Nat) (Option.some Jvm.ClassFile.FieldType.boolean), Jvm.Cond.code ({ cls := "LocListDebug", name := "restart", desc := "()Z" } : Jvm.MethodName) prog_1_method_11_code (1 : Nat) (Option.some Jvm.ClassFile.FieldType.boolean), Jvm.Cond.code ({ cls := "LocListDebug", name := "finishAssignment", desc := "()V" } : Jvm.MethodName) prog_1_method_51_code (4 : Nat) (Option.none : Option Jvm.ClassFile.FieldType), Jvm.Cond.code ({ cls := "LocListDebug", name := "linkStatements", desc := "()V" } : Jvm.MethodName) prog_1_method_54_code (2 : Nat) (Option.none : Option Jvm.ClassFile.FieldType), Jvm.Cond.code ({ cls := "LocListDebug", name := "successorOf", desc := "(I)I" } : Jvm.MethodName) prog_1_method_55_code (5 : Nat) (Option.some Jvm.ClassFile.FieldType.int), Jvm.Cond.code ({ cls := "LocListDebug", name := "patchTerminator", desc := "(I)V" } : Jvm.MethodName) prog_1_method_56_code (5 : Nat) (Option.none : Option Jvm.ClassFile.FieldType), Jvm.Cond.code ({ cls := "LocListDebug", name := "computeMasks", desc := "()V" } : Jvm.MethodName) prog_1_method_58_code (3 : Nat) (Option.none : Option Jvm.ClassFile.FieldType), Jvm.Cond.code ({ cls := "LocListDebug", name := "bitOf", desc := "(I)I" } : Jvm.MethodName) prog_1_method_57_code (2 : Nat) (Option.some Jvm.ClassFile.FieldType.int), Jvm.Cond.code ({ cls := "LocListDebug", name := "computeDefs", desc := "()V" } : Jvm.MethodName) prog_1_method_59_code (4 : Nat) (Option.none : Option Jvm.ClassFile.FieldType), Jvm.Cond.code ({ cls := "LocListDebug", name := "buildLocationLists", desc := "()V" } : Jvm.MethodName) prog_1_method_60_code (3 : Nat) (Option.none : Option Jvm.ClassFile.FieldType), Jvm.Cond.code ({ cls := "LocListDebug", name := "locate", desc := "(II)V" } : Jvm.MethodName) prog_1_method_61_code (8 : Nat) (Option.none : Option Jvm.ClassFile.FieldType), Jvm.Cond.code ({ cls := "LocListDebug", name := "restartMachine", desc := "()V" } : Jvm.MethodName) prog_1_method_20_code (2 : Nat) (Option.none : Option Jvm.ClassFile.FieldType), Jvm.Cond.code ({ cls := "LocListDebug", name := "stepOnce", desc := "()V" } : Jvm.MethodName) prog_1_method_64_code (2 : Nat) (Option.none : Option Jvm.ClassFile.FieldType), Jvm.Cond.code ({ cls := "LocListDebug", name := "execStatement", desc := "(I)I" } : Jvm.MethodName) prog_1_method_65_code (5 : Nat) (Option.some Jvm.ClassFile.FieldType.int), Jvm.Cond.code ({ cls := "LocListDebug", name := "execInstruction", desc := "(I)V" } : Jvm.MethodName) prog_1_method_66_code (8 : Nat) (Option.none : Option Jvm.ClassFile.FieldType), Jvm.Cond.code ({ cls := "LocListDebug", name := "load", desc := "(I)I" } : Jvm.MethodName) prog_1_method_67_code (2 : Nat) (Option.some Jvm.ClassFile.FieldType.int), Jvm.Cond.code ({ cls := "LocListDebug", name := "arith", desc := "(III)I" } : Jvm.MethodName) prog_1_method_69_code (4 : Nat) (Option.some Jvm.ClassFile.FieldType.int), Jvm.Cond.code ({ cls := "LocListDebug", name := "store", desc := "(II)V" } : Jvm.MethodName) prog_1_method_68_code (3 : Nat) (Option.none : Option Jvm.ClassFile.FieldType), Jvm.Cond.code ({ cls := "LocListDebug", name := "breakAt", desc := "(I)Z" } : Jvm.MethodName) prog_1_method_21_code (2 : Nat) (Option.some Jvm.ClassFile.FieldType.boolean), Jvm.Cond.code ({ cls := "LocListDebug", name := "reset", desc := "()V" } : Jvm.MethodName) prog_1_method_4_code (1 : Nat) (Option.none : Option Jvm.ClassFile.FieldType), Jvm.Cond.code ({ cls := "LocListDebug", name := "stepsTaken", desc := "()I" } : Jvm.MethodName) prog_1_method_13_code (1 : Nat) (Option.some Jvm.ClassFile.FieldType.int), Jvm.Cond.code ({ cls := "LocListDebug", name := "lastVar", desc := "()I" } : Jvm.MethodName) prog_1_method_16_code (1 : Nat) (Option.some Jvm.ClassFile.FieldType.int), Jvm.Cond.code ({ cls := "LocListDebug", name := "lastValue", desc := "()I" } : Jvm.MethodName) prog_1_method_17_code (1 : Nat) (Option.some Jvm.ClassFile.FieldType.int), Jvm.Cond.code ({ cls := "LocListDebugL7", name := "availMask", desc := "(LLocListDebug;)I" } : Jvm.MethodName) method_4_code (3 : Nat) (Option.some Jvm.ClassFile.FieldType.int), Jvm.Cond.code ({ cls := "LocListDebug", name := "isAvailable", desc := "(I)Z" } : Jvm.MethodName) prog_1_method_14_code (3 : Nat) (Option.some Jvm.ClassFile.FieldType.boolean), Jvm.Cond.code ({ cls := "LocListDebug", name := "stopIndex", desc := "()I" } : Jvm.MethodName) prog_1_method_22_code (1 : Nat) (Option.some Jvm.ClassFile.FieldType.int), Jvm.Cond.code ({ cls := "LocListDebug", name := "value", desc := "(I)I" } : Jvm.MethodName) prog_1_method_15_code (3 : Nat) (Option.some Jvm.ClassFile.FieldType.int)]
set_option maxRecDepth 65536 in
theorem codes_eq : words1.filter isCode = codes1 := rfl
theorem w_codes : ∀ c ∈ words1.filter isCode, c.before args0 about1 = true := by
  rw [codes_eq]
  intro c hc
  simp only [codes1, List.mem_cons, List.not_mem_nil, or_false] at hc
  rcases hc with rfl | rfl | rfl | rfl | rfl | rfl | rfl | rfl | rfl | rfl | rfl | rfl | rfl | rfl | rfl | rfl | rfl | rfl | rfl | rfl | rfl | rfl | rfl | rfl | rfl | rfl | rfl | rfl | rfl | rfl | rfl | rfl | rfl | rfl | rfl | rfl | rfl | rfl | rfl | rfl | rfl | rfl | rfl | rfl | rfl | rfl | rfl | rfl | rfl | rfl | rfl | rfl | rfl | rfl | rfl | rfl | rfl | rfl | rfl | rfl | rfl | rfl | rfl
  · exact w_c0
  · exact w_c1
  · exact w_c2
  · exact w_c3
  · exact w_c4
  · exact w_c5
  · exact w_c6
  · exact w_c7
  · exact w_c8
  · exact w_c9
  · exact w_c10
  · exact w_c11
  · exact w_c12
  · exact w_c13
  · exact w_c14
  · exact w_c15
  · exact w_c16
  · exact w_c17
  · exact w_c18
  · exact w_c19
  · exact w_c20
  · exact w_c21
  · exact w_c22
  · exact w_c23
  · exact w_c24
  · exact w_c25
  · exact w_c26
  · exact w_c27
  · exact w_c28
  · exact w_c29
  · exact w_c30
  · exact w_c31
  · exact w_c32
  · exact w_c33
  · exact w_c34
  · exact w_c35
  · exact w_c36
  · exact w_c37
  · exact w_c38
  · exact w_c39
  · exact w_c40
  · exact w_c41
  · exact w_c42
  · exact w_c43
  · exact w_c44
  · exact w_c45
  · exact w_c46
  · exact w_c47
  · exact w_c48
  · exact w_c49
  · exact w_c50
  · exact w_c51
  · exact w_c52
  · exact w_c53
  · exact w_c54
  · exact w_c55
  · exact w_c56
  · exact w_c57
  · exact w_c58
  · exact w_c59
  · exact w_c60
  · exact w_c61
  · exact w_c62
set_option maxRecDepth 65536 in
theorem w_t1 : (words1.take 24).all (fun c => isCode c || c.before args0 about1) = true := by decide +kernel
set_option maxRecDepth 65536 in
theorem w_t2 : ((words1.drop 24).take 24).all (fun c => isCode c || c.before args0 about1) = true := by decide +kernel
set_option maxRecDepth 65536 in
theorem w_t3 : (((words1.drop 24).drop 24).take 24).all (fun c => isCode c || c.before args0 about1) = true := by decide +kernel
set_option maxRecDepth 65536 in
theorem w_t4 : ((((words1.drop 24).drop 24).drop 24).take 24).all (fun c => isCode c || c.before args0 about1) = true := by decide +kernel
set_option maxRecDepth 65536 in
theorem w_t5 : (((((words1.drop 24).drop 24).drop 24).drop 24).take 24).all (fun c => isCode c || c.before args0 about1) = true := by decide +kernel
set_option maxRecDepth 65536 in
theorem w_t6 : ((((((words1.drop 24).drop 24).drop 24).drop 24).drop 24).take 24).all (fun c => isCode c || c.before args0 about1) = true := by decide +kernel
set_option maxRecDepth 65536 in
theorem w_t7 : (((((((words1.drop 24).drop 24).drop 24).drop 24).drop 24).drop 24).take 24).all (fun c => isCode c || c.before args0 about1) = true := by decide +kernel
set_option maxRecDepth 65536 in
theorem w_t8 : ((((((((words1.drop 24).drop 24).drop 24).drop 24).drop 24).drop 24).drop 24).take 24).all (fun c => isCode c || c.before args0 about1) = true := by decide +kernel
set_option maxRecDepth 65536 in
theorem w_t9 : (((((((((words1.drop 24).drop 24).drop 24).drop 24).drop 24).drop 24).drop 24).drop 24).take 24).all (fun c => isCode c || c.before args0 about1) = true := by decide +kernel
set_option maxRecDepth 65536 in
theorem w_t10 : ((((((((((words1.drop 24).drop 24).drop 24).drop 24).drop 24).drop 24).drop 24).drop 24).drop 24).take 24).all (fun c => isCode c || c.before args0 about1) = true := by decide +kernel
set_option maxRecDepth 65536 in
theorem w_t11 : (((((((((((words1.drop 24).drop 24).drop 24).drop 24).drop 24).drop 24).drop 24).drop 24).drop 24).drop 24).take 24).all (fun c => isCode c || c.before args0 about1) = true := by decide +kernel
set_option maxRecDepth 65536 in
theorem w_t12 : ((((((((((((words1.drop 24).drop 24).drop 24).drop 24).drop 24).drop 24).drop 24).drop 24).drop 24).drop 24).drop 24).take 24).all (fun c => isCode c || c.before args0 about1) = true := by decide +kernel
set_option maxRecDepth 65536 in
theorem w_t13 : (((((((((((((words1.drop 24).drop 24).drop 24).drop 24).drop 24).drop 24).drop 24).drop 24).drop 24).drop 24).drop 24).drop 24).take 24).all (fun c => isCode c || c.before args0 about1) = true := by decide +kernel
set_option maxRecDepth 65536 in
theorem w_t14 : ((((((((((((((words1.drop 24).drop 24).drop 24).drop 24).drop 24).drop 24).drop 24).drop 24).drop 24).drop 24).drop 24).drop 24).drop 24).take 24).all (fun c => isCode c || c.before args0 about1) = true := by decide +kernel
set_option maxRecDepth 65536 in
theorem w_t15 : (((((((((((((((words1.drop 24).drop 24).drop 24).drop 24).drop 24).drop 24).drop 24).drop 24).drop 24).drop 24).drop 24).drop 24).drop 24).drop 24).take 24).all (fun c => isCode c || c.before args0 about1) = true := by decide +kernel
set_option maxRecDepth 65536 in
theorem w_t16 : ((((((((((((((((words1.drop 24).drop 24).drop 24).drop 24).drop 24).drop 24).drop 24).drop 24).drop 24).drop 24).drop 24).drop 24).drop 24).drop 24).drop 24).take 24).all (fun c => isCode c || c.before args0 about1) = true := by decide +kernel
set_option maxRecDepth 65536 in
theorem w_t17 : (((((((((((((((((words1.drop 24).drop 24).drop 24).drop 24).drop 24).drop 24).drop 24).drop 24).drop 24).drop 24).drop 24).drop 24).drop 24).drop 24).drop 24).drop 24).take 24).all (fun c => isCode c || c.before args0 about1) = true := by decide +kernel
set_option maxRecDepth 65536 in
theorem w_t18 : (((((((((((((((((words1.drop 24).drop 24).drop 24).drop 24).drop 24).drop 24).drop 24).drop 24).drop 24).drop 24).drop 24).drop 24).drop 24).drop 24).drop 24).drop 24).drop 24).all (fun c => isCode c || c.before args0 about1) = true := by decide +kernel
theorem w_tables : (allAtoms (Jvm.Cond.code x code maxLocals ret :: tables_1)).before args0 about1 = true := by
  rw [allAtoms_all]
  show words1.all (fun c => c.before args0 about1) = true
  refine all_split ?_ w_codes
  rw [← List.take_append_drop 24 words1, List.all_append, w_t1, ← List.take_append_drop 24 (words1.drop 24), List.all_append, w_t2, ← List.take_append_drop 24 ((words1.drop 24).drop 24), List.all_append, w_t3, ← List.take_append_drop 24 (((words1.drop 24).drop 24).drop 24), List.all_append, w_t4, ← List.take_append_drop 24 ((((words1.drop 24).drop 24).drop 24).drop 24), List.all_append, w_t5, ← List.take_append_drop 24 (((((words1.drop 24).drop 24).drop 24).drop 24).drop 24), List.all_append, w_t6, ← List.take_append_drop 24 ((((((words1.drop 24).drop 24).drop 24).drop 24).drop 24).drop 24), List.all_append, w_t7, ← List.take_append_drop 24 (((((((words1.drop 24).drop 24).drop 24).drop 24).drop 24).drop 24).drop 24), List.all_append, w_t8, ← List.take_append_drop 24 ((((((((words1.drop 24).drop 24).drop 24).drop 24).drop 24).drop 24).drop 24).drop 24), List.all_append, w_t9, ← List.take_append_drop 24 (((((((((words1.drop 24).drop 24).drop 24).drop 24).drop 24).drop 24).drop 24).drop 24).drop 24), List.all_append, w_t10, ← List.take_append_drop 24 ((((((((((words1.drop 24).drop 24).drop 24).drop 24).drop 24).drop 24).drop 24).drop 24).drop 24).drop 24), List.all_append, w_t11, ← List.take_append_drop 24 (((((((((((words1.drop 24).drop 24).drop 24).drop 24).drop 24).drop 24).drop 24).drop 24).drop 24).drop 24).drop 24), List.all_append, w_t12, ← List.take_append_drop 24 ((((((((((((words1.drop 24).drop 24).drop 24).drop 24).drop 24).drop 24).drop 24).drop 24).drop 24).drop 24).drop 24).drop 24), List.all_append, w_t13, ← List.take_append_drop 24 (((((((((((((words1.drop 24).drop 24).drop 24).drop 24).drop 24).drop 24).drop 24).drop 24).drop 24).drop 24).drop 24).drop 24).drop 24), List.all_append, w_t14, ← List.take_append_drop 24 ((((((((((((((words1.drop 24).drop 24).drop 24).drop 24).drop 24).drop 24).drop 24).drop 24).drop 24).drop 24).drop 24).drop 24).drop 24).drop 24), List.all_append, w_t15, ← List.take_append_drop 24 (((((((((((((((words1.drop 24).drop 24).drop 24).drop 24).drop 24).drop 24).drop 24).drop 24).drop 24).drop 24).drop 24).drop 24).drop 24).drop 24).drop 24), List.all_append, w_t16, ← List.take_append_drop 24 ((((((((((((((((words1.drop 24).drop 24).drop 24).drop 24).drop 24).drop 24).drop 24).drop 24).drop 24).drop 24).drop 24).drop 24).drop 24).drop 24).drop 24).drop 24), List.all_append, w_t17, w_t18]
  rfl
set_option maxRecDepth 65536 in
theorem w_rest : rest_1_c.before args0 about1 = true := by decide +kernel
set_option maxRecDepth 65536 in
theorem w_case : (Jvm.Cond.and given_1 narrow_1).before args0 about1 = true := by decide +kernel
theorem w_applies : (headSpec (Jvm.Cond.code x code maxLocals ret :: tables_1) room_1).applies x e0.platform about1 = true :=
  (Spec.applies_iff w_frames).mpr ⟨w_running, w_runnable, w_alone, w_named, w_hears, w_ripe, w_room, w_tables⟩
theorem atStart : AtStart classFile x code maxLocals ret World_1 tables_1 room_1 Calls_1 rest_1 Pre_1 launch0 p0 e0 about1 theMethod args0 below0 :=
  ⟨lists_1, trivial, launch0.admits_env _ _ _, launch0.least_env, fairChoices_fair.cas, fairChoices_fair.clock, w_frames, w_args, w_heap, w_applies, trivial, w_rest, w_case⟩
end start1
theorem witness_1 : WitnessClaimed_1 := ⟨start1.p0, start1.e0, start1.about1, start1.theMethod, start1.args0, start1.below0, start1.atStart⟩
end Jvm.Pilot.@@N@@
