import JvmDerived
import JvmDerived.Pilot.@@N@@Statement
import JvmDerived.Pilot.@@N@@Code
set_option linter.unusedVariables false
set_option linter.unusedSimpArgs false
namespace Jvm.Own
open Sem ClassFile Op Lib Jvm.Stand Jvm.Free Jvm.LawKit Jvm.RoadKit
/-! OWN 1: words of the sheet, resolved -/
abbrev AHeap:=List (FieldType × List Value)
abbrev Ws:=List Jvm.Cond
def rFld (ws : Ws) (own : String) (i : Nat) : Option (String × String × String) :=
  ws.findSome? fun d => match d with
    | .fieldLink o j C n t => if o = own∧j = i then some (C,n,t) else none
    | _ => none
def rCls (ws : Ws) (own : String) (i : Nat) : Option String :=
  ws.findSome? fun d => match d with
    | .classLink o j C => if o = own∧j = i then some C else none
    | _ => none
def rMth (ws : Ws) (own : String) (i : Nat) : Option MethodName :=
  ws.findSome? fun d => match d with
    | .methodLink o j y => if o = own∧j = i then some y else none
    | _ => none
def rCon (ws : Ws) (own : String) (i : Nat) : Option Int32 :=
  ws.findSome? fun d => match d with
    | .constant o j v => if o = own∧j = i then some v else none
    | _ => none
def rConL (ws : Ws) (own : String) (i : Nat) : Option Int64 :=
  ws.findSome? fun d => match d with
    | .constantLong o j v => if o = own∧j = i then some v else none
    | _ => none
def rInst (ws : Ws) (C : String) : Option Nat :=
  ws.findSome? fun d => match d with
    | .instantiable c n => if c = C then some n else none
    | _ => none
def rCode (ws : Ws) (y : MethodName) : Option (ByteArray × Nat × Option FieldType) :=
  ws.findSome? fun d => match d with
    | .code z b m r => if z = y then some (b,m,r) else none
    | _ => none
def hasInit (ws : Ws) (C : String) : Bool:=ws.any fun d => match d with | .initialized c => c == C | _ => false
def hasArr (ws : Ws) (t : FieldType) : Bool:=ws.any fun d => match d with | .arrayClass c => decide (c = t) | _ => false
def hasStat (ws : Ws) (y : MethodName) : Bool:=ws.any fun d => match d with | .static z => decide (z = y) | _ => false
def hasIM (ws : Ws) (y : MethodName) : Bool:=ws.any fun d => match d with | .instanceMethod z => decide (z = y) | _ => false
def hasPriv (ws : Ws) (y : MethodName) : Bool:=ws.any fun d => match d with | .privateMethod z => decide (z = y) | _ => false
def hasDecl (ws : Ws) (y : MethodName) : Bool:=ws.any fun d => match d with | .declares z => decide (z = y) | _ => false
def hasSel (ws : Ws) (y : MethodName) : Bool:=ws.any fun d => match d with | .selects c z z' => decide (c = y.cls∧z = y∧z' = y) | _ => false
def hasLays (ws : Ws) (C n t : String) : Bool:=ws.any fun d => match d with | .lays c o n' t' => decide (c = C∧o = C∧n' = n∧t' = t) | _ => false
def hasLaysF (ws : Ws) (C n t : String) : Bool:=ws.any fun d => match d with | .laysFinal c o n' t' => decide (c = C∧o = C∧n' = n∧t' = t) | _ => false
def layE (C : String) : Jvm.Cond→Option (String × String)
  | .lays c o n t => if c = C∧o = C∧(parseFieldDescriptor t).isSome = true then some (n,t) else none
  | .laysFinal c o n t => if c = C∧o = C∧(parseFieldDescriptor t).isSome = true then some (n,t) else none
  | _ => none
def olay (ws : Ws) (C : String) : List (String × String):=ws.filterMap (layE C)
def idx (x : String × String) : List (String × String)→Option Nat
  | [] => none
  | y::r => if y = x then some 0 else (idx x r).map (· + 1)
def fidx (ws : Ws) (C n t : String) : Option Nat:=idx (n,t) (olay ws C)
def gfR (ws : Ws) (own : String) (i : Nat) : Option (String × Nat) :=
  match rFld ws own i with
  | some (C,n,t) => (fidx ws C n t).map fun j => (C,j)
  | none => none
def pfR (ws : Ws) (own mn : String) (i : Nat) : Option (String × Nat × FieldType) :=
  match rFld ws own i with
  | some (C,n,t) =>
    match fidx ws C n t,parseFieldDescriptor t with
    | some j,some ty => if (hasLays ws C n t || (hasLaysF ws C n t && own == C && mn == "<init>")) && (rInst ws C).isSome && (olay ws C).all (fun q => q.1 != n || q.2 == t) then some (C,j,ty) else none
    | _,_ => none
  | none => none
section Res
variable {ws : Ws} {own C n t : String} {i : Nat} {y : MethodName}
theorem rFld_mem (h : rFld ws own i = some (C,n,t)) : Jvm.Cond.fieldLink own i C n t ∈ ws:=by
  obtain ⟨d,hd,e⟩:=List.exists_of_findSome?_eq_some h
  split at e
  · split at e
    · rename_i q; obtain ⟨rfl,rfl⟩:=q; cases e; exact hd
    · cases e
  · cases e
theorem rCls_mem (h : rCls ws own i = some C) : Jvm.Cond.classLink own i C ∈ ws:=by
  obtain ⟨d,hd,e⟩:=List.exists_of_findSome?_eq_some h
  split at e
  · split at e
    · rename_i q; obtain ⟨rfl,rfl⟩:=q; cases e; exact hd
    · cases e
  · cases e
theorem rMth_mem (h : rMth ws own i = some y) : Jvm.Cond.methodLink own i y ∈ ws:=by
  obtain ⟨d,hd,e⟩:=List.exists_of_findSome?_eq_some h
  split at e
  · split at e
    · rename_i q; obtain ⟨rfl,rfl⟩:=q; cases e; exact hd
    · cases e
  · cases e
theorem rCon_mem {v : Int32} (h : rCon ws own i = some v) : Jvm.Cond.constant own i v ∈ ws:=by
  obtain ⟨d,hd,e⟩:=List.exists_of_findSome?_eq_some h
  split at e
  · split at e
    · rename_i q; obtain ⟨rfl,rfl⟩:=q; cases e; exact hd
    · cases e
  · cases e
theorem rConL_mem {v : Int64} (h : rConL ws own i = some v) : Jvm.Cond.constantLong own i v ∈ ws:=by
  obtain ⟨d,hd,e⟩:=List.exists_of_findSome?_eq_some h
  split at e
  · split at e
    · rename_i q; obtain ⟨rfl,rfl⟩:=q; cases e; exact hd
    · cases e
  · cases e
theorem rInst_mem {k : Nat} (h : rInst ws C = some k) : Jvm.Cond.instantiable C k ∈ ws:=by
  obtain ⟨d,hd,e⟩:=List.exists_of_findSome?_eq_some h
  split at e
  · split at e
    · rename_i q; subst q; cases e; exact hd
    · cases e
  · cases e
theorem rCode_mem {b : ByteArray} {k : Nat} {r : Option FieldType} (h : rCode ws y = some (b,k,r)) : Jvm.Cond.code y b k r ∈ ws:=by
  obtain ⟨d,hd,e⟩:=List.exists_of_findSome?_eq_some h
  split at e
  · split at e
    · rename_i q; subst q; cases e; exact hd
    · cases e
  · cases e
theorem hasInit_mem (h : hasInit ws C = true) : Jvm.Cond.initialized C ∈ ws:=by
  obtain ⟨d,hd,e⟩:=List.any_eq_true.mp h
  split at e
  · rw [beq_iff_eq] at e; subst e; exact hd
  · cases e
theorem hasArr_mem {ty : FieldType} (h : hasArr ws ty = true) : Jvm.Cond.arrayClass ty ∈ ws:=by
  obtain ⟨d,hd,e⟩:=List.any_eq_true.mp h
  split at e
  · have e:=of_decide_eq_true e; subst e; exact hd
  · cases e
theorem hasStat_mem (h : hasStat ws y = true) : Jvm.Cond.static y ∈ ws:=by
  obtain ⟨d,hd,e⟩:=List.any_eq_true.mp h
  split at e
  · have e:=of_decide_eq_true e; subst e; exact hd
  · cases e
theorem hasIM_mem (h : hasIM ws y = true) : Jvm.Cond.instanceMethod y ∈ ws:=by
  obtain ⟨d,hd,e⟩:=List.any_eq_true.mp h
  split at e
  · have e:=of_decide_eq_true e; subst e; exact hd
  · cases e
theorem hasPriv_mem (h : hasPriv ws y = true) : Jvm.Cond.privateMethod y ∈ ws:=by
  obtain ⟨d,hd,e⟩:=List.any_eq_true.mp h
  split at e
  · have e:=of_decide_eq_true e; subst e; exact hd
  · cases e
theorem hasDecl_mem (h : hasDecl ws y = true) : Jvm.Cond.declares y ∈ ws:=by
  obtain ⟨d,hd,e⟩:=List.any_eq_true.mp h
  split at e
  · have e:=of_decide_eq_true e; subst e; exact hd
  · cases e
theorem hasSel_mem (h : hasSel ws y = true) : Jvm.Cond.selects y.cls y y ∈ ws:=by
  obtain ⟨d,hd,e⟩:=List.any_eq_true.mp h
  split at e
  · obtain ⟨rfl,rfl,rfl⟩:=of_decide_eq_true e; exact hd
  · cases e
theorem hasLays_mem (h : hasLays ws C n t = true) : Jvm.Cond.lays C C n t ∈ ws:=by
  obtain ⟨d,hd,e⟩:=List.any_eq_true.mp h
  split at e
  · obtain ⟨rfl,rfl,rfl,rfl⟩:=of_decide_eq_true e; exact hd
  · cases e
theorem hasLaysF_mem (h : hasLaysF ws C n t = true) : Jvm.Cond.laysFinal C C n t ∈ ws:=by
  obtain ⟨d,hd,e⟩:=List.any_eq_true.mp h
  split at e
  · obtain ⟨rfl,rfl,rfl,rfl⟩:=of_decide_eq_true e; exact hd
  · cases e
theorem lay_mem (h : (n,t) ∈ olay ws C) : (Jvm.Cond.lays C C n t ∈ ws ∨ Jvm.Cond.laysFinal C C n t ∈ ws)∧∃ ty,parseFieldDescriptor t = some ty:=by
  obtain ⟨d,hd,e⟩:=List.mem_filterMap.mp h
  unfold layE at e
  split at e
  · split at e
    · rename_i q; obtain ⟨rfl,rfl,q⟩:=q; cases e; exact ⟨Or.inl hd,Option.isSome_iff_exists.mp q⟩
    · cases e
  · split at e
    · rename_i q; obtain ⟨rfl,rfl,q⟩:=q; cases e; exact ⟨Or.inr hd,Option.isSome_iff_exists.mp q⟩
    · cases e
  · cases e
theorem idx_get {x : String × String} : ∀ {l : List (String × String)} {j : Nat},idx x l = some j→l[j]? = some x
  | [],_,h => by cases h
  | y::r,j,h => by
    unfold idx at h
    split at h
    · rename_i q; cases h; simp [q]
    · obtain ⟨j',h',rfl⟩:=Option.map_eq_some_iff.mp h
      simpa using idx_get h'
theorem fidx_mem {j : Nat} (h : fidx ws C n t = some j) : (n,t) ∈ olay ws C:=List.mem_of_getElem? (idx_get h)
theorem fidx_inj {n' t' : String} {j : Nat} (h : fidx ws C n t = some j) (h' : fidx ws C n' t' = some j) : n = n'∧t = t':=by
  have:=(idx_get h).symm.trans (idx_get h')
  simpa using this
theorem gfR_some {j : Nat} (h : gfR ws own i = some (C,j)) : ∃ n t,rFld ws own i = some (C,n,t)∧fidx ws C n t = some j:=by
  unfold gfR at h
  split at h
  · rename_i C' n' t' q
    obtain ⟨j',h',e⟩:=Option.map_eq_some_iff.mp h
    cases e; exact ⟨_,_,q,h'⟩
  · cases h
theorem pfR_some {mn : String} {j : Nat} {ty : FieldType} (h : pfR ws own mn i = some (C,j,ty)) : ∃ n t,rFld ws own i = some (C,n,t)∧fidx ws C n t = some j∧parseFieldDescriptor t = some ty ∧
    (Jvm.Cond.lays C C n t ∈ ws ∨ (Jvm.Cond.laysFinal C C n t ∈ ws∧own = C∧mn = "<init>"))∧(∃ k,Jvm.Cond.instantiable C k ∈ ws)∧∀ n' t',(n',t') ∈ olay ws C→n' ≠ n ∨ t' = t:=by
  unfold pfR at h
  split at h
  · rename_i C' n' t' q
    split at h
    · rename_i j' ty' q1 q2
      split at h
      · rename_i g
        cases h
        simp only [Bool.and_eq_true,Bool.or_eq_true,beq_iff_eq,List.all_eq_true,bne_iff_ne,ne_eq] at g
        obtain ⟨⟨g1,g2⟩,g3⟩:=g
        obtain ⟨k,hk⟩:=Option.isSome_iff_exists.mp g2
        refine ⟨n',t',q,q1,q2,?_,⟨k,rInst_mem hk⟩,fun a b hab => g3 (a,b) hab⟩
        rcases g1 with g1 | ⟨⟨g1,g4⟩,g5⟩
        · exact Or.inl (hasLays_mem g1)
        · exact Or.inr ⟨hasLaysF_mem g1,g4,g5⟩
      · cases h
    · cases h
  · cases h
end Res
end Jvm.Own
namespace Jvm.Own
open Sem ClassFile Op Lib Jvm.Stand Jvm.Free Jvm.LawKit Jvm.RoadKit
/-! OWN 2: the abstract machine -/
abbrev XR:=Option (Nat × List Slot × List Value)
def chk {α : Type} (a b : Nat) (x : Option α) : Option α:=if a = b then x else none
def isI : Value→Bool | .int _ => true | _ => false
def isL : Value→Bool | .long _ => true | _ => false
def stl (ls : List Slot) (i : Nat) (v : Value) : Option (List Slot):=(storeLocals ls.toArray i v).map Array.toList
def ldV (p : Value→Bool) (nx i : Nat) (ls : List Slot) (st : List Value) : XR :=
  match ls[i]? with
  | some (.val v) => if p v = true then some (nx,ls,v::st) else none
  | _ => none
def stV (p : Value→Bool) (nx i : Nat) (ls : List Slot) : List Value→XR
  | v::r => if p v = true then (stl ls i v).map fun l' => (nx,l',r) else none
  | [] => none
def b2 (f : Int32→Int32→Int32) (nx : Nat) (ls : List Slot) : List Value→XR
  | .int y::.int x::r => some (nx,ls,.int (f x y)::r)
  | _ => none
def d2 (f : Int32→Int32→Int32) (nx : Nat) (ls : List Slot) : List Value→XR
  | .int y::.int x::r => if y = 0 then none else some (nx,ls,.int (f x y)::r)
  | _ => none
def u1 (f : Int32→Int32) (nx : Nat) (ls : List Slot) : List Value→XR
  | .int x::r => some (nx,ls,.int (f x)::r)
  | _ => none
def l2 (f : Int64→Int64→Int64) (nx : Nat) (ls : List Slot) : List Value→XR
  | .long y::.long x::r => some (nx,ls,.long (f x y)::r)
  | _ => none
def lsh (f : Int64→Int32→Int64) (nx : Nat) (ls : List Slot) : List Value→XR
  | .int y::.long x::r => some (nx,ls,.long (f x y)::r)
  | _ => none
def jmp (pc : Nat) (o : Int) : Option Nat:=if 0≤(pc : Int) + o then some ((pc : Int) + o).toNat else none
def br (c : Bool) (pc : Nat) (o : Int) (ls : List Slot) (r : List Value) : XR :=
  if c = true then (jmp pc o).map fun q => (q,ls,r) else some (pc + 3,ls,r)
def sw (pc : Nat) (dflt low high : Int) (offs : Array Int) (ls : List Slot) : List Value→XR
  | .int i::r => if i.toInt < low ∨ i.toInt > high then (jmp pc dflt).map fun q => (q,ls,r) else
      match offs[(i.toInt - low).toNat]? with
      | some o => (jmp pc o).map fun q => (q,ls,r)
      | none => none
  | _ => none
def xstep (ins : Instr) (len pc : Nat) (ls : List Slot) (st : List Value) : XR :=
  match ins with
  | .aload_n i => chk len 1 (ldV Value.isRef (pc + 1) i.val ls st)
  | .aload i => chk len 2 (ldV Value.isRef (pc + 2) i ls st)
  | .iload_n i => chk len 1 (ldV isI (pc + 1) i.val ls st)
  | .iload i => chk len 2 (ldV isI (pc + 2) i ls st)
  | .lload_n i => chk len 1 (ldV isL (pc + 1) i.val ls st)
  | .lload i => chk len 2 (ldV isL (pc + 2) i ls st)
  | .astore_n i => chk len 1 (stV Value.isRef (pc + 1) i.val ls st)
  | .astore i => chk len 2 (stV Value.isRef (pc + 2) i ls st)
  | .istore_n i => chk len 1 (stV isI (pc + 1) i.val ls st)
  | .istore i => chk len 2 (stV isI (pc + 2) i ls st)
  | .lstore_n i => chk len 1 (stV isL (pc + 1) i.val ls st)
  | .lstore i => chk len 2 (stV isL (pc + 2) i ls st)
  | .iconst i => chk len 1 (some (pc + 1,ls,.int (Int32.ofInt i)::st))
  | .bipush i => chk len 2 (some (pc + 2,ls,.int (Int8.ofInt i).toInt32::st))
  | .sipush i => chk len 3 (some (pc + 3,ls,.int (Int16.ofInt i).toInt32::st))
  | .lconst i => chk len 1 (some (pc + 1,ls,.long (Int64.ofNat i)::st))
  | .iadd => chk len 1 (b2 (fun x y => x + y) (pc + 1) ls st)
  | .isub => chk len 1 (b2 (fun x y => x - y) (pc + 1) ls st)
  | .imul => chk len 1 (b2 (fun x y => x * y) (pc + 1) ls st)
  | .iand => chk len 1 (b2 (fun x y => x &&& y) (pc + 1) ls st)
  | .ior => chk len 1 (b2 (fun x y => x ||| y) (pc + 1) ls st)
  | .ixor => chk len 1 (b2 (fun x y => x ^^^ y) (pc + 1) ls st)
  | .ishl => chk len 1 (b2 (fun x y => x <<< (y &&& 31)) (pc + 1) ls st)
  | .ishr => chk len 1 (b2 (fun x y => x >>> (y &&& 31)) (pc + 1) ls st)
  | .iushr => chk len 1 (b2 XT.ushr (pc + 1) ls st)
  | .idiv => chk len 1 (d2 (fun x y => x / y) (pc + 1) ls st)
  | .irem => chk len 1 (d2 (fun x y => x % y) (pc + 1) ls st)
  | .ineg => chk len 1 (u1 (fun x => -x) (pc + 1) ls st)
  | .i2b => chk len 1 (u1 (fun x => x.toInt8.toInt32) (pc + 1) ls st)
  | .i2c => chk len 1 (u1 (fun x => x.toUInt32.toUInt16.toUInt32.toInt32) (pc + 1) ls st)
  | .ladd => chk len 1 (l2 (fun x y => x + y) (pc + 1) ls st)
  | .lsub => chk len 1 (l2 (fun x y => x - y) (pc + 1) ls st)
  | .lmul => chk len 1 (l2 (fun x y => x * y) (pc + 1) ls st)
  | .land => chk len 1 (l2 (fun x y => x &&& y) (pc + 1) ls st)
  | .lor => chk len 1 (l2 (fun x y => x ||| y) (pc + 1) ls st)
  | .lxor => chk len 1 (l2 (fun x y => x ^^^ y) (pc + 1) ls st)
  | .lshl => chk len 1 (lsh (fun x y => x <<< (y.toInt64 &&& 63)) (pc + 1) ls st)
  | .lshr => chk len 1 (lsh (fun x y => x >>> (y.toInt64 &&& 63)) (pc + 1) ls st)
  | .lushr => chk len 1 (lsh XT.ushrL (pc + 1) ls st)
  | .lneg => chk len 1 (match st with | .long x::r => some (pc + 1,ls,.long (-x)::r) | _ => none)
  | .i2l => chk len 1 (match st with | .int x::r => some (pc + 1,ls,.long x.toInt64::r) | _ => none)
  | .l2i => chk len 1 (match st with | .long x::r => some (pc + 1,ls,.int x.toInt32::r) | _ => none)
  | .lcmp => chk len 1 (match st with | .long y::.long x::r => some (pc + 1,ls,.int (XT.cmpL x y)::r) | _ => none)
  | .iinc i cst => chk len 3 (match ls[i]? with | some (.val (.int x)) => (stl ls i (.int (x + Int32.ofInt cst))).map fun l' => (pc + 3,l',st) | _ => none)
  | .dup => chk len 1 (match st with | x::r => if x.category = 1 then some (pc + 1,ls,x::x::r) else none | _ => none)
  | .dup2 => chk len 1 (match st with
      | .long x::r => some (pc + 1,ls,.long x::.long x::r)
      | x::y::r => if x.category = 1∧y.category = 1 then some (pc + 1,ls,x::y::x::y::r) else none
      | _ => none)
  | .pop => chk len 1 (match st with | x::r => if x.category = 1 then some (pc + 1,ls,r) else none | _ => none)
  | .goto o => chk len 3 ((jmp pc o).map fun q => (q,ls,st))
  | .ifCond cd o => chk len 3 (match st with | .int x::r => br (ifCond.holds cd x) pc o ls r | _ => none)
  | .if_icmp cd o => chk len 3 (match st with | .int y::.int x::r => br (if_icmp.holds cd x y) pc o ls r | _ => none)
  | .tableswitch dflt low high offs => sw pc dflt low high offs ls st
  | _ => none
abbrev HR:=Option (Nat × List Value × AHeap)
def putv : FieldType→Value→Option Value
  | .int,.int x => some (.int x)
  | .boolean,.int x => some (.int (nar .boolean x))
  | .byte,.int x => some (.int (nar .byte x))
  | .char,.int x => some (.int (nar .char x))
  | .short,.int x => some (.int (nar .short x))
  | .long,.long x => some (.long x)
  | .array _,.ref a => some (.ref a)
  | _,_ => none
def dflt (q : String × String) : Value:=match parseFieldDescriptor q.2 with | some ty => defaultValue ty | none => .null
def hGet (ws : Ws) (own : String) (i pc : Nat) (H : AHeap) : List Value→HR
  | .ref a::r =>
    match gfR ws own i,H[a]? with
    | some (C,j),some (.object C',vs) => if C = C' then (vs[j]?).map fun v => (pc + 3,v::r,H) else none
    | _,_ => none
  | _ => none
def hPut (ws : Ws) (k : Nat) (own mn : String) (i pc : Nat) (H : AHeap) : List Value→HR
  | v::.ref a::r =>
    match pfR ws own mn i,H[a]? with
    | some (C,j,ty),some (.object C',vs) => if C = C'∧k≤a∧j < vs.length then (putv ty v).map fun v' => (pc + 3,r,H.set a (.object C',vs.set j v')) else none
    | _,_ => none
  | _ => none
def hNew (ws : Ws) (own : String) (i pc : Nat) (H : AHeap) (st : List Value) : HR :=
  match rCls ws own i with
  | some C => if (rInst ws C).isSome = true∧hasInit ws C = true then some (pc + 3,.ref H.length::st,H ++ [(.object C,(olay ws C).map dflt)]) else none
  | none => none
def hNewA (ws : Ws) (aty : ArrayType) (pc : Nat) (H : AHeap) : List Value→HR
  | .int n::r => if hasArr ws (newarray.typeOf aty) = true∧¬ n < 0∧n.toNatClampNeg * 8≤536870912 then
      some (pc + 2,.ref H.length::r,H ++ [(.array (newarray.typeOf aty),List.replicate n.toNatClampNeg (defaultValue (newarray.typeOf aty)))]) else none
  | _ => none
def hLd (ok : FieldType→Bool) (pc : Nat) (H : AHeap) : List Value→HR
  | .int j::.ref a::r =>
    match H[a]? with
    | some (.array ty,vs) => if ok ty = true∧¬ j < 0 then (vs[j.toNatClampNeg]?).map fun v => (pc + 1,v::r,H) else none
    | _ => none
  | _ => none
def hSt (ok : FieldType→Bool) (k pc : Nat) (H : AHeap) : List Value→HR
  | v::.int j::.ref a::r =>
    match H[a]? with
    | some (.array ty,vs) => if ok ty = true∧k≤a∧¬ j < 0∧j.toNatClampNeg < vs.length then (putv ty v).map fun v' => (pc + 1,r,H.set a (.array ty,vs.set j.toNatClampNeg v')) else none
    | _ => none
  | _ => none
def hLen (pc : Nat) (H : AHeap) : List Value→HR
  | .ref a::r =>
    match H[a]? with
    | some (.array _,vs) => some (pc + 1,.int vs.length.toInt32::r,H)
    | _ => none
  | _ => none
def okT (t u : FieldType) : Bool:=decide (u = t)
def okB (u : FieldType) : Bool:=decide (u = .byte) || decide (u = .boolean)
def hstep (ws : Ws) (k : Nat) (y : MethodName) (ins : Instr) (len pc : Nat) (st : List Value) (H : AHeap) : HR :=
  match ins with
  | .getfield i => chk len 3 (hGet ws y.cls i pc H st)
  | .putfield i => chk len 3 (hPut ws k y.cls y.name i pc H st)
  | .new i => chk len 3 (hNew ws y.cls i pc H st)
  | .newarray aty => chk len 2 (hNewA ws aty pc H st)
  | .iaload => chk len 1 (hLd (okT .int) pc H st)
  | .caload => chk len 1 (hLd (okT .char) pc H st)
  | .laload => chk len 1 (hLd (okT .long) pc H st)
  | .baload => chk len 1 (hLd okB pc H st)
  | .iastore => chk len 1 (hSt (okT .int) k pc H st)
  | .castore => chk len 1 (hSt (okT .char) k pc H st)
  | .lastore => chk len 1 (hSt (okT .long) k pc H st)
  | .bastore => chk len 1 (hSt okB k pc H st)
  | .arraylength => chk len 1 (hLen pc H st)
  | .ldc i => chk len 2 ((rCon ws y.cls i).map fun v => (pc + 2,.int v::st,H))
  | .ldc_w i => chk len 3 ((rCon ws y.cls i).map fun v => (pc + 3,.int v::st,H))
  | .ldc2_w i => chk len 3 ((rConL ws y.cls i).map fun v => (pc + 3,.long v::st,H))
  | _ => none
def ent : List Value→List Slot
  | [] => []
  | v::r => if v.category = 2 then .val v::.second::ent r else .val v::ent r
def entry (as : List Value) (mx : Nat) : List Slot:=ent as ++ List.replicate (mx - (ent as).length) .unset
def wsum (st : List Value) : Nat:=(st.map fun v => v.category).sum
abbrev Dn:=List (MethodName × Nat × Nat)
def dnOf (dn : Dn) (y : MethodName) : Option (Nat × Nat):=dn.findSome? fun q => if q.1 = y then some q.2 else none
/-- what a methodref says: callee, its code, max_locals, return, number of parameters, slack for what lies under -/
def cR (ws : Ws) (dn : Dn) (y : MethodName) (i : Nat) : Option (MethodName × ByteArray × Nat × Option FieldType × Nat × Nat) :=
  match rMth ws y.cls i with
  | none => none
  | some y' =>
    match rCode ws y',dnOf dn y',dnOf dn y,parseMethodDescriptor y'.desc with
    | some (b,mx,r),some (f',l'),some (f,l),some sig =>
      if hasInit ws y'.cls = true∧Jvm.plainName y'.cls = true∧y'.cls ≠ "java/lang/invoke/MethodHandle" ∧ y'.cls ≠ "java/lang/invoke/VarHandle" ∧ f' + 1≤f∧mx + 11 + l'≤l then
        some (y',b,mx,r,sig.parameters.length,l - (mx + 11 + l')) else none
    | _,_,_,_ => none
def sR (ws : Ws) (dn : Dn) (y : MethodName) (i : Nat) : Option (MethodName × ByteArray × Nat × Option FieldType × Nat × Nat) :=
  match cR ws dn y i with
  | some q => if hasStat ws q.1 = true then some q else none
  | none => none
def nR (ws : Ws) (dn : Dn) (y : MethodName) (i : Nat) : Option (MethodName × ByteArray × Nat × Option FieldType × Nat × Nat) :=
  match cR ws dn y i with
  | some q => if q.1.name = "<init>" ∧ hasIM ws q.1 = true∧q.2.2.2.1 = none then some q else none
  | none => none
/-- the first: is it private? -/
def vR (ws : Ws) (dn : Dn) (y : MethodName) (i : Nat) : Option (Bool × MethodName × ByteArray × Nat × Option FieldType × Nat × Nat) :=
  match cR ws dn y i with
  | some q => if hasIM ws q.1 = true then
      (if hasPriv ws q.1 = true∧(rInst ws q.1.cls).isSome = true then some (true,q) else if hasDecl ws q.1 = true∧hasSel ws q.1 = true then some (false,q) else none) else none
  | none => none
/-- Object.<init>: how many words may lie under it -/
def oR (ws : Ws) (dn : Dn) (y : MethodName) (i : Nat) : Option Nat :=
  match rMth ws y.cls i,rCode ws Lib.objectInit,dnOf dn y with
  | some y',some (b,mx,r),some (f,l) =>
    if y' = Lib.objectInit∧hasIM ws Lib.objectInit = true∧b.data = #[0xb1]∧mx = 1∧r = none∧1≤f∧12≤l then some (l - 12) else none
  | _,_,_ => none
abbrev Call:=MethodName × ByteArray × Option FieldType × List Slot × List Value
/-- returns and calls -/
def cstep (ws : Ws) (dn : Dn) (y : MethodName) (ret : Option FieldType) (ins : Instr) (len pc : Nat) (ls : List Slot) (st : List Value) (H : AHeap) : Option (Option Value ⊕ (Nat × List Slot × List Value × AHeap) ⊕ Call) :=
  match ins with
  | .ireturn => chk len 1 (match st,ret with
      | .int z::_,some t => if t = .int ∨ t = .boolean ∨ t = .byte ∨ t = .char ∨ t = .short then some (.inl (some (.int (nar t z)))) else none
      | _,_ => none)
  | .lreturn => chk len 1 (match st,ret with
      | [.long z],some .long => some (.inl (some (.long z)))
      | _,_ => none)
  | .return_ => chk len 1 (match st,ret with
      | [],none => some (.inl none)
      | _,_ => none)
  | .invokestatic i => chk len 3 (match sR ws dn y i with
      | some (y',b,mx,r,na,sl) =>
        if na≤st.length∧wsum (st.drop na)≤sl∧(ent (st.take na).reverse).length≤mx then
          some (.inr (.inr (y',b,r,entry (st.take na).reverse mx,st.drop na)))
        else none
      | none => none)
  | .invokespecial i => chk len 3 (match oR ws dn y i with
      | some sl => (match st with
          | .ref _::r => if wsum r≤sl then some (.inr (.inl (pc + 3,ls,r,H))) else none
          | _ => none)
      | none => match nR ws dn y i with
        | some (y',b,mx,r,na,sl) =>
          (match st.drop na with
          | .ref a::rest =>
            if wsum rest≤sl∧(ent (.ref a::(st.take na).reverse)).length≤mx∧na≤st.length then
              some (.inr (.inr (y',b,r,entry (.ref a::(st.take na).reverse) mx,rest)))
            else none
          | _ => none)
        | none => none)
  | .invokevirtual i => chk len 3 (match vR ws dn y i with
      | some (pv,y',b,mx,r,na,sl) =>
        (match st.drop na with
        | .ref a::rest =>
          (match H[a]? with
          | some (.object C,_) =>
            if (pv = true ∨ C = y'.cls)∧wsum rest≤sl∧(ent (.ref a::(st.take na).reverse)).length≤mx∧na≤st.length then
              some (.inr (.inr (y',b,r,entry (.ref a::(st.take na).reverse) mx,rest)))
            else none
          | _ => none)
        | _ => none)
      | none => none)
  | _ => none
/-- what the machine does next: it returns, it steps, it calls -/
def act (ws : Ws) (dn : Dn) (k : Nat) (y : MethodName) (bytes : ByteArray) (ret : Option FieldType) (pc : Nat) (ls : List Slot) (st : List Value) (H : AHeap) : Option (Option Value ⊕ (Nat × List Slot × List Value × AHeap) ⊕ Call) :=
  match decode bytes pc with
  | .error _ => none
  | .ok (ins,len) =>
    match xstep ins len pc ls st with
    | some q => some (.inr (.inl (q.1,q.2.1,q.2.2,H)))
    | none => match hstep ws k y ins len pc st H with
      | some q => some (.inr (.inl (q.1,ls,q.2.1,q.2.2)))
      | none => cstep ws dn y ret ins len pc ls st H
def run (ws : Ws) (dn : Dn) (k : Nat) : Nat→MethodName→ByteArray→Option FieldType→Nat→List Slot→List Value→AHeap→Option (Option Value × AHeap)
  | 0,_,_,_,_,_,_,_ => none
  | n + 1,y,bytes,ret,pc,ls,st,H =>
    match act ws dn k y bytes ret pc ls st H with
    | none => none
    | some (.inl v) => some (v,H)
    | some (.inr (.inl (pc',ls',st',H'))) => run ws dn k n y bytes ret pc' ls' st' H'
    | some (.inr (.inr (y',b,r,en,rest))) =>
      match run ws dn k n y' b r 0 en [] H with
      | some (v,H1) => run ws dn k n y bytes ret (pc + 3) ls (v.toList ++ rest) H1
      | none => none
end Jvm.Own
namespace Jvm.Own
open Sem ClassFile Op Lib Jvm.Stand Jvm.Free Jvm.LawKit Jvm.RoadKit
/-! OWN 3: the abstract machine's plain steps are the machine's -/
def ren (f : Nat→Nat) : Value→Value
  | .ref a => .ref (f a)
  | v => v
def renS (f : Nat→Nat) : Slot→Slot
  | .val v => .val (ren f v)
  | s => s
abbrev fr (f : Nat→Nat) (m : MethodId) (pc : Nat) (ls : List Slot) (st : List Value) : JFrame:=mkF m pc (ls.map (renS f)).toArray (st.map (ren f))
theorem ren_cat (f : Nat→Nat) (v : Value) : (ren f v).category = v.category:=by cases v <;> rfl
theorem ren_isRef (f : Nat→Nat) (v : Value) : (ren f v).isRef = v.isRef:=by cases v <;> rfl
theorem isI_int {v : Value} (h : isI v = true) : ∃ x,v = .int x:=by cases v <;> first | exact ⟨_,rfl⟩ | cases h
theorem isL_long {v : Value} (h : isL v = true) : ∃ x,v = .long x:=by cases v <;> first | exact ⟨_,rfl⟩ | cases h
theorem chk_some {α : Type} {a b : Nat} {x : Option α} {r : α} (h : chk a b x = some r) : a = b∧x = some r:=by
  unfold chk at h
  split at h
  · exact ⟨by assumption,h⟩
  · cases h
theorem loc_get {f : Nat→Nat} {ls : List Slot} {i : Nat} {s : Slot} (h : ls[i]? = some s) : ((ls.map (renS f)).toArray)[i]? = some (renS f s):=by
  rw [List.getElem?_toArray,List.getElem?_map,h]; rfl
theorem setAt_ren (f : Nat→Nat) (l : Array Slot) (i : Nat) (x : Slot) : setAt (l.map (renS f)) i (renS f x) = (setAt l i x).map fun a => a.map (renS f):=by
  unfold setAt
  rw [Array.size_map]
  split
  · rw [Option.map_some,Array.map_setIfInBounds]
  · rfl
theorem storeSelf_ren (f : Nat→Nat) (l : Array Slot) (i : Nat) (v : Value) : storeSelf (l.map (renS f)) i (ren f v) = (storeSelf l i v).map fun a => a.map (renS f):=by
  have h0 : setAt (l.map (renS f)) i (.val (ren f v)) = _:=setAt_ren f l i (.val v)
  simp only [storeSelf,h0,ren_cat]
  cases setAt l i (.val v) with
  | none => rfl
  | some l1 =>
    simp only [Option.map_some,Option.bind_eq_bind,Option.bind_some,bind_pure_comp]
    split
    · rw [Array.getElem?_map]
      cases l1[i + 1]? with
      | none => rfl
      | some s =>
        simp only [Option.map_some,Option.bind_some]
        cases s with
        | unset => exact setAt_ren f l1 (i + 1) .second
        | second => exact setAt_ren f l1 (i + 1) .second
        | val w =>
          simp only [renS,ren_cat]
          split
          · have h1 : setAt (l1.map (renS f)) (i + 2) .unset = _:=setAt_ren f l1 (i + 2) .unset
            rw [h1]
            cases setAt l1 (i + 2) .unset with
            | none => rfl
            | some l2 => exact setAt_ren f l2 (i + 1) .second
          · exact setAt_ren f l1 (i + 1) .second
    · rfl
theorem storeLocals_ren (f : Nat→Nat) (l : Array Slot) (i : Nat) (v : Value) : storeLocals (l.map (renS f)) i (ren f v) = (storeLocals l i v).map fun a => a.map (renS f):=by
  simp only [storeLocals,Array.getElem?_map]
  cases l[i]? with
  | none => rfl
  | some s =>
    simp only [Option.map_some,Option.bind_eq_bind,Option.bind_some]
    cases s with
    | unset => exact storeSelf_ren f l i v
    | second =>
      have h1 : setAt (l.map (renS f)) (i - 1) .unset = _:=setAt_ren f l (i - 1) .unset
      simp only [renS,h1]
      cases setAt l (i - 1) .unset with
      | none => rfl
      | some l2 => exact storeSelf_ren f l2 i v
    | val w =>
      simp only [renS,ren_cat]
      split
      · have h1 : setAt (l.map (renS f)) (i + 1) .unset = _:=setAt_ren f l (i + 1) .unset
        rw [h1]
        cases setAt l (i + 1) .unset with
        | none => rfl
        | some l2 => exact storeSelf_ren f l2 i v
      · exact storeSelf_ren f l i v
theorem stl_ren {f : Nat→Nat} {ls l' : List Slot} {i : Nat} {v : Value} (h : stl ls i v = some l') : storeLocals (ls.map (renS f)).toArray i (ren f v) = some (l'.map (renS f)).toArray:=by
  unfold stl at h
  obtain ⟨a,ha,rfl⟩:=Option.map_eq_some_iff.mp h
  have:=storeLocals_ren f ls.toArray i v
  rw [ha] at this
  rw [← List.map_toArray,this]
  simp [← Array.toList_inj]
theorem setAt_size {l l' : Array Slot} {i : Nat} {x : Slot} (h : setAt l i x = some l') : l'.size = l.size:=by
  unfold setAt at h
  split at h
  · cases h; simp
  · cases h
theorem storeSelf_size {l l' : Array Slot} {i : Nat} {v : Value} (h : storeSelf l i v = some l') : l'.size = l.size:=by
  simp only [storeSelf,Option.bind_eq_bind,Option.bind_eq_some_iff] at h
  obtain ⟨l1,h1,h⟩:=h
  have e1:=setAt_size h1
  split at h
  · obtain ⟨s,-,h⟩:=Option.bind_eq_some_iff.mp h
    split at h
    · split at h
      · obtain ⟨l2,h2,h⟩:=Option.bind_eq_some_iff.mp h
        rw [setAt_size h,setAt_size h2,e1]
      · rw [setAt_size h,e1]
    · rw [setAt_size h,e1]
  · cases h; exact e1
theorem storeLocals_size {l l' : Array Slot} {i : Nat} {v : Value} (h : storeLocals l i v = some l') : l'.size = l.size:=by
  simp only [storeLocals,Option.bind_eq_bind,Option.bind_eq_some_iff] at h
  obtain ⟨s,-,h⟩:=h
  split at h
  · obtain ⟨l2,h2,h⟩:=Option.bind_eq_some_iff.mp h
    rw [storeSelf_size h,setAt_size h2]
  · split at h
    · obtain ⟨l2,h2,h⟩:=Option.bind_eq_some_iff.mp h
      rw [storeSelf_size h,setAt_size h2]
    · exact storeSelf_size h
  · exact storeSelf_size h
theorem stl_size {ls l' : List Slot} {i : Nat} {v : Value} (h : stl ls i v = some l') : l'.length = ls.length:=by
  unfold stl at h
  obtain ⟨a,ha,rfl⟩:=Option.map_eq_some_iff.mp h
  have:=storeLocals_size ha
  simpa using this
theorem ldV_some {p : Value→Bool} {nx i : Nat} {ls : List Slot} {st : List Value} {q : Nat × List Slot × List Value} (h : ldV p nx i ls st = some q) : ∃ v,ls[i]? = some (.val v)∧p v = true∧q = (nx,ls,v::st):=by
  unfold ldV at h
  split at h
  · rename_i v hv
    split at h
    · cases h; exact ⟨v,hv,by assumption,rfl⟩
    · cases h
  · cases h
theorem stV_some {p : Value→Bool} {nx i : Nat} {ls : List Slot} {st : List Value} {q : Nat × List Slot × List Value} (h : stV p nx i ls st = some q) : ∃ v r l',st = v::r∧p v = true∧stl ls i v = some l'∧q = (nx,l',r):=by
  unfold stV at h
  split at h
  · split at h
    · obtain ⟨l',h1,h2⟩:=Option.map_eq_some_iff.mp h
      exact ⟨_,_,l',rfl,by assumption,h1,h2.symm⟩
    · cases h
  · cases h
theorem b2_some {f : Int32→Int32→Int32} {nx : Nat} {ls : List Slot} {st : List Value} {q : Nat × List Slot × List Value} (h : b2 f nx ls st = some q) : ∃ x y r,st = .int y::.int x::r∧q = (nx,ls,.int (f x y)::r):=by
  unfold b2 at h
  split at h
  · cases h; exact ⟨_,_,_,rfl,rfl⟩
  · cases h
theorem d2_some {f : Int32→Int32→Int32} {nx : Nat} {ls : List Slot} {st : List Value} {q : Nat × List Slot × List Value} (h : d2 f nx ls st = some q) : ∃ x y r,st = .int y::.int x::r∧y ≠ 0∧q = (nx,ls,.int (f x y)::r):=by
  unfold d2 at h
  split at h
  · split at h
    · cases h
    · cases h; exact ⟨_,_,_,rfl,by assumption,rfl⟩
  · cases h
theorem u1_some {f : Int32→Int32} {nx : Nat} {ls : List Slot} {st : List Value} {q : Nat × List Slot × List Value} (h : u1 f nx ls st = some q) : ∃ x r,st = .int x::r∧q = (nx,ls,.int (f x)::r):=by
  unfold u1 at h
  split at h
  · cases h; exact ⟨_,_,rfl,rfl⟩
  · cases h
theorem l2_some {f : Int64→Int64→Int64} {nx : Nat} {ls : List Slot} {st : List Value} {q : Nat × List Slot × List Value} (h : l2 f nx ls st = some q) : ∃ x y r,st = .long y::.long x::r∧q = (nx,ls,.long (f x y)::r):=by
  unfold l2 at h
  split at h
  · cases h; exact ⟨_,_,_,rfl,rfl⟩
  · cases h
theorem lsh_some {f : Int64→Int32→Int64} {nx : Nat} {ls : List Slot} {st : List Value} {q : Nat × List Slot × List Value} (h : lsh f nx ls st = some q) : ∃ x y r,st = .int y::.long x::r∧q = (nx,ls,.long (f x y)::r):=by
  unfold lsh at h
  split at h
  · cases h; exact ⟨_,_,_,rfl,rfl⟩
  · cases h
theorem jmp_some {pc q : Nat} {o : Int} (h : jmp pc o = some q) : 0≤(pc : Int) + o∧((pc : Int) + o).toNat = q:=by
  unfold jmp at h
  split at h
  · cases h; exact ⟨by assumption,rfl⟩
  · cases h
theorem br_some {c : Bool} {pc : Nat} {o : Int} {ls : List Slot} {r : List Value} {q : Nat × List Slot × List Value} (h : br c pc o ls r = some q) : (c = true∧∃ t,0≤(pc : Int) + o∧((pc : Int) + o).toNat = t∧q = (t,ls,r)) ∨ (c = false∧q = (pc + 3,ls,r)):=by
  unfold br at h
  split at h
  · obtain ⟨t,h1,h2⟩:=Option.map_eq_some_iff.mp h
    obtain ⟨h3,h4⟩:=jmp_some h1
    exact Or.inl ⟨by assumption,t,h3,h4,h2.symm⟩
  · rename_i hc; cases h; exact Or.inr ⟨by simpa using hc,rfl⟩
section X
variable {tb : Tables} [Ours tb] {e : Env} {below : List Frame} {T target : State} {m : MethodId} {c : Code}
set_option maxHeartbeats 4000000 in
theorem xstep_sound (h : At T m c below) (hx : tb.exec = Jvm.exec) (f : Nat→Nat) {ins : Instr} {len pc : Nat} {ls : List Slot} {st : List Value} {q : Nat × List Slot × List Value}
    (hd : decode c.code pc = .ok (ins,len)) (hs : xstep ins len pc ls st = some q) (hr : Steps tb e below (T.setTop (fr f m q.1 q.2.1 q.2.2)) target) : Steps tb e below (T.setTop (fr f m pc ls st)) target:=by
  unfold xstep at hs
  split at hs
  · obtain ⟨rfl,hs⟩:=chk_some hs; obtain ⟨v,h1,h2,rfl⟩:=ldV_some hs
    exact XS.aloadN h hx rfl hd (loc_get h1) (by rw [ren_isRef]; exact h2) hr
  · obtain ⟨rfl,hs⟩:=chk_some hs; obtain ⟨v,h1,h2,rfl⟩:=ldV_some hs
    exact XS.aload h hx rfl hd (loc_get h1) (by rw [ren_isRef]; exact h2) hr
  · obtain ⟨rfl,hs⟩:=chk_some hs; obtain ⟨v,h1,h2,rfl⟩:=ldV_some hs; obtain ⟨x,rfl⟩:=isI_int h2
    exact XS.iloadN h hx rfl hd (loc_get (f:=f) h1) hr
  · obtain ⟨rfl,hs⟩:=chk_some hs; obtain ⟨v,h1,h2,rfl⟩:=ldV_some hs; obtain ⟨x,rfl⟩:=isI_int h2
    exact XS.iload h hx rfl hd (loc_get (f:=f) h1) hr
  · obtain ⟨rfl,hs⟩:=chk_some hs; obtain ⟨v,h1,h2,rfl⟩:=ldV_some hs; obtain ⟨x,rfl⟩:=isL_long h2
    exact XT.lloadN h hx rfl hd (loc_get (f:=f) h1) hr
  · obtain ⟨rfl,hs⟩:=chk_some hs; obtain ⟨v,h1,h2,rfl⟩:=ldV_some hs; obtain ⟨x,rfl⟩:=isL_long h2
    exact XT.lload h hx rfl hd (loc_get (f:=f) h1) hr
  · obtain ⟨rfl,hs⟩:=chk_some hs; obtain ⟨v,r,l',rfl,h2,h3,rfl⟩:=stV_some hs
    exact XS.astoreN h hx rfl hd rfl (by rw [ren_isRef]; exact h2) (stl_ren h3) hr
  · obtain ⟨rfl,hs⟩:=chk_some hs; obtain ⟨v,r,l',rfl,h2,h3,rfl⟩:=stV_some hs
    exact XS.astore h hx rfl hd rfl (by rw [ren_isRef]; exact h2) (stl_ren h3) hr
  · obtain ⟨rfl,hs⟩:=chk_some hs; obtain ⟨v,r,l',rfl,h2,h3,rfl⟩:=stV_some hs; obtain ⟨x,rfl⟩:=isI_int h2
    exact XS.istoreN h hx rfl hd rfl (stl_ren (f:=f) h3) hr
  · obtain ⟨rfl,hs⟩:=chk_some hs; obtain ⟨v,r,l',rfl,h2,h3,rfl⟩:=stV_some hs; obtain ⟨x,rfl⟩:=isI_int h2
    exact XS.istore h hx rfl hd rfl (stl_ren (f:=f) h3) hr
  · obtain ⟨rfl,hs⟩:=chk_some hs; obtain ⟨v,r,l',rfl,h2,h3,rfl⟩:=stV_some hs; obtain ⟨x,rfl⟩:=isL_long h2
    exact XT.lstoreN h hx rfl hd rfl (stl_ren (f:=f) h3) hr
  · obtain ⟨rfl,hs⟩:=chk_some hs; obtain ⟨v,r,l',rfl,h2,h3,rfl⟩:=stV_some hs; obtain ⟨x,rfl⟩:=isL_long h2
    exact XT.lstore h hx rfl hd rfl (stl_ren (f:=f) h3) hr
  · obtain ⟨rfl,hs⟩:=chk_some hs; cases hs
    exact XS.iconst h hx rfl hd hr
  · obtain ⟨rfl,hs⟩:=chk_some hs; cases hs
    exact XS.bipush h hx rfl hd hr
  · obtain ⟨rfl,hs⟩:=chk_some hs; cases hs
    exact XS.sipush h hx rfl hd hr
  · obtain ⟨rfl,hs⟩:=chk_some hs; cases hs
    exact XT.lconst h hx rfl hd hr
  · obtain ⟨rfl,hs⟩:=chk_some hs; obtain ⟨x,y,r,rfl,rfl⟩:=b2_some hs
    exact XS.iadd h hx rfl hd rfl hr
  · obtain ⟨rfl,hs⟩:=chk_some hs; obtain ⟨x,y,r,rfl,rfl⟩:=b2_some hs
    exact XS.isub h hx rfl hd rfl hr
  · obtain ⟨rfl,hs⟩:=chk_some hs; obtain ⟨x,y,r,rfl,rfl⟩:=b2_some hs
    exact XS.imul h hx rfl hd rfl hr
  · obtain ⟨rfl,hs⟩:=chk_some hs; obtain ⟨x,y,r,rfl,rfl⟩:=b2_some hs
    exact XS.iand h hx rfl hd rfl hr
  · obtain ⟨rfl,hs⟩:=chk_some hs; obtain ⟨x,y,r,rfl,rfl⟩:=b2_some hs
    exact XT.ior h hx rfl hd rfl hr
  · obtain ⟨rfl,hs⟩:=chk_some hs; obtain ⟨x,y,r,rfl,rfl⟩:=b2_some hs
    exact XT.ixor h hx rfl hd rfl hr
  · obtain ⟨rfl,hs⟩:=chk_some hs; obtain ⟨x,y,r,rfl,rfl⟩:=b2_some hs
    exact XT.ishl h hx rfl hd rfl hr
  · obtain ⟨rfl,hs⟩:=chk_some hs; obtain ⟨x,y,r,rfl,rfl⟩:=b2_some hs
    exact XT.ishr h hx rfl hd rfl hr
  · obtain ⟨rfl,hs⟩:=chk_some hs; obtain ⟨x,y,r,rfl,rfl⟩:=b2_some hs
    exact XT.iushr h hx rfl hd rfl hr
  · obtain ⟨rfl,hs⟩:=chk_some hs; obtain ⟨x,y,r,rfl,h2,rfl⟩:=d2_some hs
    exact XS.idiv h hx rfl hd rfl h2 hr
  · obtain ⟨rfl,hs⟩:=chk_some hs; obtain ⟨x,y,r,rfl,h2,rfl⟩:=d2_some hs
    refine XS.irem h hx rfl hd rfl h2 ?_
    have q : x - x / y * y = x % y:=irem_eq_mod x y
    rw [q]; exact hr
  · obtain ⟨rfl,hs⟩:=chk_some hs; obtain ⟨x,r,rfl,rfl⟩:=u1_some hs
    exact XS.ineg h hx rfl hd rfl hr
  · obtain ⟨rfl,hs⟩:=chk_some hs; obtain ⟨x,r,rfl,rfl⟩:=u1_some hs
    exact XT.i2b h hx rfl hd rfl hr
  · obtain ⟨rfl,hs⟩:=chk_some hs; obtain ⟨x,r,rfl,rfl⟩:=u1_some hs
    exact XT.i2c h hx rfl hd rfl hr
  · obtain ⟨rfl,hs⟩:=chk_some hs; obtain ⟨x,y,r,rfl,rfl⟩:=l2_some hs
    exact XT.ladd h hx rfl hd rfl hr
  · obtain ⟨rfl,hs⟩:=chk_some hs; obtain ⟨x,y,r,rfl,rfl⟩:=l2_some hs
    exact XT.lsub h hx rfl hd rfl hr
  · obtain ⟨rfl,hs⟩:=chk_some hs; obtain ⟨x,y,r,rfl,rfl⟩:=l2_some hs
    exact XT.lmul h hx rfl hd rfl hr
  · obtain ⟨rfl,hs⟩:=chk_some hs; obtain ⟨x,y,r,rfl,rfl⟩:=l2_some hs
    exact XT.land h hx rfl hd rfl hr
  · obtain ⟨rfl,hs⟩:=chk_some hs; obtain ⟨x,y,r,rfl,rfl⟩:=l2_some hs
    exact XT.lor h hx rfl hd rfl hr
  · obtain ⟨rfl,hs⟩:=chk_some hs; obtain ⟨x,y,r,rfl,rfl⟩:=l2_some hs
    exact XT.lxor h hx rfl hd rfl hr
  · obtain ⟨rfl,hs⟩:=chk_some hs; obtain ⟨x,y,r,rfl,rfl⟩:=lsh_some hs
    exact XT.lshl h hx rfl hd rfl hr
  · obtain ⟨rfl,hs⟩:=chk_some hs; obtain ⟨x,y,r,rfl,rfl⟩:=lsh_some hs
    exact XT.lshr h hx rfl hd rfl hr
  · obtain ⟨rfl,hs⟩:=chk_some hs; obtain ⟨x,y,r,rfl,rfl⟩:=lsh_some hs
    exact XT.lushr h hx rfl hd rfl hr
  · obtain ⟨rfl,hs⟩:=chk_some hs
    split at hs
    · cases hs; exact XT.lneg h hx rfl hd rfl hr
    · cases hs
  · obtain ⟨rfl,hs⟩:=chk_some hs
    split at hs
    · cases hs; exact XT.i2l h hx rfl hd rfl hr
    · cases hs
  · obtain ⟨rfl,hs⟩:=chk_some hs
    split at hs
    · cases hs; exact XT.l2i h hx rfl hd rfl hr
    · cases hs
  · obtain ⟨rfl,hs⟩:=chk_some hs
    split at hs
    · cases hs; exact XT.lcmp h hx rfl hd rfl hr
    · cases hs
  · obtain ⟨rfl,hs⟩:=chk_some hs
    split at hs
    · rename_i x h1
      obtain ⟨l',h2,rfl⟩:=Option.map_eq_some_iff.mp hs
      exact XS.iinc h hx rfl hd (loc_get (f:=f) h1) (stl_ren (f:=f) h2) hr
    · cases hs
  · obtain ⟨rfl,hs⟩:=chk_some hs
    split at hs
    · split at hs
      · rename_i hc; cases hs; exact XS.dup h hx rfl hd rfl (by rw [ren_cat]; exact hc) hr
      · cases hs
    · cases hs
  · obtain ⟨rfl,hs⟩:=chk_some hs
    split at hs
    · cases hs; exact XT.dup2L h hx rfl hd rfl hr
    · split at hs
      · rename_i hc; cases hs; exact XT.dup2 h hx rfl hd rfl (by rw [ren_cat]; exact hc.1) (by rw [ren_cat]; exact hc.2) hr
      · cases hs
    · cases hs
  · obtain ⟨rfl,hs⟩:=chk_some hs
    split at hs
    · split at hs
      · rename_i hc; cases hs; exact XT.pop h hx rfl hd rfl (by rw [ren_cat]; exact hc) hr
      · cases hs
    · cases hs
  · obtain ⟨rfl,hs⟩:=chk_some hs
    obtain ⟨t,h1,rfl⟩:=Option.map_eq_some_iff.mp hs
    obtain ⟨h2,h3⟩:=jmp_some h1
    exact XS.goto h hx rfl rfl hd h2 h3 hr
  · obtain ⟨rfl,hs⟩:=chk_some hs
    split at hs
    · rcases br_some hs with ⟨hc,t,h1,h2,rfl⟩ | ⟨hc,rfl⟩
      · exact XS.ifYes h hx rfl rfl hd rfl hc h1 h2 hr
      · exact XS.ifNo h hx rfl hd rfl hc hr
    · cases hs
  · obtain ⟨rfl,hs⟩:=chk_some hs
    split at hs
    · rcases br_some hs with ⟨hc,t,h1,h2,rfl⟩ | ⟨hc,rfl⟩
      · exact XS.icmpYes h hx rfl rfl hd rfl hc h1 h2 hr
      · exact XS.icmpNo h hx rfl hd rfl hc hr
    · cases hs
  · unfold sw at hs
    split at hs
    · split at hs
      · rename_i hc
        obtain ⟨t,h1,rfl⟩:=Option.map_eq_some_iff.mp hs
        obtain ⟨h2,h3⟩:=jmp_some h1
        exact XS.tswOut h hx rfl rfl hd rfl hc h2 h3 hr
      · rename_i hc
        split at hs
        · rename_i o ho
          obtain ⟨t,h1,rfl⟩:=Option.map_eq_some_iff.mp hs
          obtain ⟨h2,h3⟩:=jmp_some h1
          exact XS.tswIn h hx rfl rfl hd rfl hc ho h2 h3 hr
        · cases hs
    · cases hs
  · cases hs
end X
theorem xstep_size {ins : Instr} {len pc : Nat} {ls : List Slot} {st : List Value} {q : Nat × List Slot × List Value} (hs : xstep ins len pc ls st = some q) : q.2.1.length = ls.length:=by
  unfold xstep at hs
  split at hs
  all_goals first
    | (obtain ⟨rfl,hs⟩:=chk_some hs; obtain ⟨v,h1,h2,rfl⟩:=ldV_some hs; rfl)
    | (obtain ⟨rfl,hs⟩:=chk_some hs; obtain ⟨v,r,l',rfl,h2,h3,rfl⟩:=stV_some hs; exact stl_size h3)
    | (obtain ⟨rfl,hs⟩:=chk_some hs; cases hs; rfl)
    | (obtain ⟨rfl,hs⟩:=chk_some hs; obtain ⟨x,y,r,rfl,rfl⟩:=b2_some hs; rfl)
    | (obtain ⟨rfl,hs⟩:=chk_some hs; obtain ⟨x,y,r,rfl,h2,rfl⟩:=d2_some hs; rfl)
    | (obtain ⟨rfl,hs⟩:=chk_some hs; obtain ⟨x,r,rfl,rfl⟩:=u1_some hs; rfl)
    | (obtain ⟨rfl,hs⟩:=chk_some hs; obtain ⟨x,y,r,rfl,rfl⟩:=l2_some hs; rfl)
    | (obtain ⟨rfl,hs⟩:=chk_some hs; obtain ⟨x,y,r,rfl,rfl⟩:=lsh_some hs; rfl)
    | (obtain ⟨rfl,hs⟩:=chk_some hs; split at hs <;> first | (cases hs; rfl) | (cases hs; done))
    | (obtain ⟨rfl,hs⟩:=chk_some hs; split at hs <;> first | (obtain ⟨l',h2,rfl⟩:=Option.map_eq_some_iff.mp hs; exact stl_size h2) | (cases hs; done))
    | (obtain ⟨rfl,hs⟩:=chk_some hs; split at hs <;> first | (split at hs <;> first | (cases hs; rfl) | (cases hs; done)) | (cases hs; rfl) | (cases hs; done))
    | (obtain ⟨rfl,hs⟩:=chk_some hs; obtain ⟨t,h1,rfl⟩:=Option.map_eq_some_iff.mp hs; rfl)
    | (obtain ⟨rfl,hs⟩:=chk_some hs; split at hs <;> first | (rcases br_some hs with ⟨hc,t,h1,h2,rfl⟩ | ⟨hc,rfl⟩ <;> rfl) | (cases hs; done))
    | (unfold sw at hs; split at hs <;> first | (cases hs; done) | (split at hs <;> first | (obtain ⟨t,h1,rfl⟩:=Option.map_eq_some_iff.mp hs; rfl) | (split at hs <;> first | (obtain ⟨t,h1,rfl⟩:=Option.map_eq_some_iff.mp hs; rfl) | (cases hs; done))))
    | (cases hs; done)
end Jvm.Own
namespace Jvm.Own
open Sem ClassFile Op Lib Jvm.Stand Jvm.Free Jvm.LawKit Jvm.RoadKit
/-! OWN 4: the heap's steps -/
def adr (k sa n0 i : Nat) : Nat:=if i < k then sa else n0 + (i - k)
def SimO (Z : State) (ws : Ws) (f : Nat→Nat) (h : Heap) (a : Addr) : FieldType × List Value→Prop
  | (.object C,vs) => Exa Z h a C∧∀ n t j,fidx ws C n t = some j→∃ v,vs[j]? = some v∧Fld Z h a C n t (ren f v)
  | (.array ty,vs) => ∃ c : Cell,Arr Z h a c ty∧c.slots = (vs.map (ren f)).toArray
  | _ => False
def Sim (Z : State) (ws : Ws) (k sa n0 : Nat) (H : AHeap) (h : Heap) : Prop :=
  h.size = n0 + (H.length - k)∧k≤H.length∧k≤1∧(1≤k→sa < n0)∧∀ i o,H[i]? = some o→SimO Z ws (adr k sa n0) h (adr k sa n0 i) o
def cost (ws : Ws) : FieldType × List Value→Nat
  | (.object C,_) => (rInst ws C).getD 0
  | (_,vs) => vs.length
def tot (ws : Ws) (H : AHeap) : Nat:=(H.map (cost ws)).sum
theorem adr_inj {k sa n0 i j : Nat} (hk : k≤1) (hs : 1≤k→sa < n0) (e : adr k sa n0 i = adr k sa n0 j) : i = j:=by
  unfold adr at e; split at e <;> split at e <;> omega
theorem adr_ge {k sa n0 a : Nat} (h : k≤a) : n0≤adr k sa n0 a:=by
  unfold adr; rw [if_neg (by omega)]; omega
theorem tot_app (ws : Ws) (H : AHeap) (o : FieldType × List Value) : tot ws (H ++ [o]) = tot ws H + cost ws o:=by simp [tot]
theorem tot_set {ws : Ws} : ∀ {H : AHeap} {a : Nat} {o o' : FieldType × List Value},H[a]? = some o→cost ws o' = cost ws o→tot ws (H.set a o') = tot ws H
  | [],_,_,_,h,_ => by cases h
  | x::r,0,o,o',h,e => by
    simp only [List.getElem?_cons_zero,Option.some.injEq] at h; subst h
    simp [tot,e]
  | x::r,a + 1,o,o',h,e => by
    have:=tot_set (ws:=ws) (H:=r) (a:=a) (o:=o) (o':=o') (by simpa using h) e
    simp only [tot,List.set_cons_succ,List.map_cons,List.sum_cons] at this ⊢
    rw [this]
theorem ren_dflt (f : Nat→Nat) (ty : FieldType) : ren f (defaultValue ty) = defaultValue ty:=by cases ty <;> rfl
section Facts
variable {Z : State} {ws : Ws} {f : Nat→Nat} {h h' : Heap} {a b : Addr} {o : FieldType × List Value} {sl : Nat} {v : Value}
theorem SimO.ext (E : Ext h h') (S : SimO Z ws f h a o) : SimO Z ws f h' a o:=by
  unfold SimO at S ⊢
  split at S
  · exact ⟨S.1.ext E,fun n t j q => by obtain ⟨v,h1,h2⟩:=S.2 n t j q; exact ⟨v,h1,h2.ext E⟩⟩
  · obtain ⟨c,h1,h2⟩:=S; exact ⟨c,h1.ext E,h2⟩
  · exact S.elim
theorem SimO.other (W : Wr h h' b sl v) (ne : a ≠ b) (S : SimO Z ws f h a o) : SimO Z ws f h' a o:=by
  unfold SimO at S ⊢
  split at S
  · exact ⟨S.1.wr W,fun n t j q => by obtain ⟨v,h1,h2⟩:=S.2 n t j q; exact ⟨v,h1,h2.other W (Or.inl ne)⟩⟩
  · obtain ⟨c,h1,h2⟩:=S; exact ⟨c,h1.other W ne,h2⟩
  · exact S.elim
theorem Sim.push {k sa n0 : Nat} {H : AHeap} (S : Sim Z ws k sa n0 H h) (E : Ext h h') (hz : h'.size = h.size + 1) (O : SimO Z ws (adr k sa n0) h' h.size o) : Sim Z ws k sa n0 (H ++ [o]) h':=by
  obtain ⟨h1,h2,h3,h4,h5⟩:=S
  refine ⟨by rw [hz,h1,List.length_append,List.length_singleton]; omega,by rw [List.length_append]; omega,h3,h4,fun i o' q => ?_⟩
  rcases Nat.lt_trichotomy i H.length with g | g | g
  · rw [List.getElem?_append_left g] at q; exact (h5 i o' q).ext E
  · subst g
    rw [List.getElem?_append_right (Nat.le_refl _),Nat.sub_self] at q
    cases q
    have e : adr k sa n0 H.length = h.size:=by unfold adr; rw [if_neg (by omega),h1]
    rw [e]; exact O
  · rw [List.getElem?_eq_none (by simp; omega)] at q; cases q
theorem Sim.next {k sa n0 : Nat} {H : AHeap} (S : Sim Z ws k sa n0 H h) : h.size = adr k sa n0 H.length:=by
  obtain ⟨h1,h2,-⟩:=S
  unfold adr; rw [if_neg (by omega),h1]
theorem Wr.upd {k sa n0 i : Nat} {H : AHeap} {o' : FieldType × List Value} (S : Sim Z ws k sa n0 H h) (W : Wr h h' (adr k sa n0 i) sl v) (O : SimO Z ws (adr k sa n0) h' (adr k sa n0 i) o') : Sim Z ws k sa n0 (H.set i o') h':=by
  obtain ⟨h1,h2,h3,h4,h5⟩:=S
  refine ⟨by rw [W.size,h1,List.length_set],by rw [List.length_set]; exact h2,h3,h4,fun j q hq => ?_⟩
  by_cases e : i = j
  · subst e
    rw [List.getElem?_set_self' ] at hq
    cases hi : H[i]? with
    | none => rw [hi] at hq; cases hq
    | some x => rw [hi] at hq; cases hq; exact O
  · rw [List.getElem?_set_ne e] at hq
    exact (h5 j q hq).other W fun g => e (adr_inj h3 h4 g).symm
end Facts
theorem putv_ok {ty : FieldType} {v v' : Value} (f : Nat→Nat) (h : putv ty v = some v') : narrow ty (ren f v) = ren f v'∧fits ty (ren f v') = true:=by
  unfold putv at h
  split at h
  · cases h; exact ⟨rfl,rfl⟩
  · cases h; exact ⟨rfl,fits_nar_bool _⟩
  · cases h; exact ⟨rfl,fits_nar_byte _⟩
  · cases h; exact ⟨rfl,fits_nar_char _⟩
  · cases h; exact ⟨rfl,fits_nar_short _⟩
  · cases h; exact ⟨rfl,rfl⟩
  · cases h; exact ⟨rfl,rfl⟩
  · cases h
theorem size_set (c : Cell) (j : Nat) (v : Value) (f : Nat→Nat) {vs : List Value} {v' : Value} (e : c.slots = (vs.map (ren f)).toArray) (q : v = ren f v') : (c.setSlot j v).slots = ((vs.set j v').map (ren f)).toArray:=by
  subst q
  show c.slots.setIfInBounds j (ren f v') = _
  rw [e,List.setIfInBounds_toArray,List.map_set]
section H
variable {p : Program} {l : Launch} {e : Env} {R : Room} {s : State} {m : MethodId} {args : Array Value} {below : List Frame} {meth : Method} {c : Code} {T : State} {locs : List Loc} {cells slots : Nat}
  {Z : State} {a0 : Array Value} {ws : Ws} {k sa n0 : Nat} {y : MethodName} {pc : Nat} {ls : List Slot} {st : List Value} {H : AHeap}
/-- the point behind one step -/
def Beh (p : Program) (l : Launch) (e : Env) (R : Room) (s : State) (m : MethodId) (args : Array Value) (below : List Frame) (meth : Method) (c : Code) (T : State) (Z : State) (ws : Ws) (k sa n0 cells slots : Nat) (H : AHeap) (g : JFrame) (pc' : Nat) (ls' : List Slot) (st' : List Value) (H' : AHeap) : Prop :=
  ∃ T' locs',Stand p l e R s m args below meth c T' locs' (cells + (H'.length - H.length)) (slots + (tot ws H' - tot ws H))∧Sim Z ws k sa n0 H' T'.heap∧Fr n0 locs' ∧
    ∀ target,Steps p.tables e below (T'.setTop (fr (adr k sa n0) m pc' ls' st')) target→Steps p.tables e below (T.setTop g) target
theorem Beh.stay {g : JFrame} {pc' : Nat} {st' : List Value} {T' : State} (X : Stand p l e R s m args below meth c T' locs cells slots) (S : Sim Z ws k sa n0 H T'.heap) (N : Fr n0 locs)
    (h : ∀ target,Steps p.tables e below (T'.setTop (fr (adr k sa n0) m pc' ls st')) target→Steps p.tables e below (T.setTop g) target) : Beh p l e R s m args below meth c T Z ws k sa n0 cells slots H g pc' ls st' H :=
  ⟨T',locs,by rw [Nat.sub_self,Nat.sub_self]; exact X,S,N,h⟩
theorem hGet_sound (hw : ∀ d ∈ ws,d.before a0 Z = true) (X : Stand p l e R s m args below meth c T locs cells slots) (hx : p.tables.exec = Jvm.exec) (hZ : Z.Warmed39 s.vm) (hown : s.vm.findClass y.cls = some m.cls)
    {i : Nat} (hd : decode c.code pc = .ok (.getfield i,3)) {q : Nat × List Value × AHeap} (hs : hGet ws y.cls i pc H st = some q) (S : Sim Z ws k sa n0 H T.heap) (N : Fr n0 locs) :
    Beh p l e R s m args below meth c T Z ws k sa n0 cells slots H (fr (adr k sa n0) m pc ls st) q.1 ls q.2.1 q.2.2:=by
  unfold hGet at hs
  split at hs
  · rename_i a r
    split at hs
    · rename_i C j C' vs q1 q2
      split at hs
      · rename_i hC; subst hC
        obtain ⟨v,hv,rfl⟩:=Option.map_eq_some_iff.mp hs
        obtain ⟨n,t,r1,r2⟩:=gfR_some q1
        obtain ⟨v',hv',F⟩:=(S.2.2.2.2 a _ q2).2 n t j r2
        cases hv.symm.trans hv'
        obtain ⟨T',X',e',st'⟩:=getF X hx hZ hown (host := "") (Or.inl (hw _ (rFld_mem r1))) Via.refl rfl F (g:=fr (adr k sa n0) m pc ls (.ref a::r)) rfl rfl hd
        exact Beh.stay X' (by rw [e']; exact S) N st'
      · cases hs
    · cases hs
  · cases hs
theorem hPut_sound (hw : ∀ d ∈ ws,d.before a0 Z = true) (X : Stand p l e R s m args below meth c T locs cells slots) (hx : p.tables.exec = Jvm.exec) (hZ : Z.Warmed39 s.vm) (hown : s.vm.findClass y.cls = some m.cls) (hnm : meth.name = y.name)
    {i : Nat} (hd : decode c.code pc = .ok (.putfield i,3)) {q : Nat × List Value × AHeap} (hs : hPut ws k y.cls y.name i pc H st = some q) (S : Sim Z ws k sa n0 H T.heap) (N : Fr n0 locs) :
    Beh p l e R s m args below meth c T Z ws k sa n0 cells slots H (fr (adr k sa n0) m pc ls st) q.1 ls q.2.1 q.2.2:=by
  unfold hPut at hs
  split at hs
  · rename_i v a r
    split at hs
    · rename_i C j ty C' vs q1 q2
      split at hs
      · rename_i hC; obtain ⟨rfl,hk,hj⟩:=hC
        obtain ⟨v',hv,rfl⟩:=Option.map_eq_some_iff.mp hs
        obtain ⟨n,t,r1,r2,r3,r4,⟨ki,r5⟩,r6⟩:=pfR_some q1
        have SO:=S.2.2.2.2 a _ q2
        obtain ⟨w,hw',F⟩:=SO.2 n t j r2
        obtain ⟨g1,g2⟩:=putv_ok (adr k sa n0) hv
        obtain ⟨T',h',X',e',W,st'⟩:=putFN X hx hZ hown (hw _ (rFld_mem r1)) Via.refl rfl F SO.1 (r4.imp (fun q => hw _ q) fun q => ⟨hw _ q.1,q.2.1,hnm.trans q.2.2⟩) (hw _ r5) r3 g1 g2 (g:=fr (adr k sa n0) m pc ls (v::.ref a::r)) rfl rfl hd
        have LL : ∀ {n' t' : String},(n',t') ∈ olay ws C→Laid Z a0 C C n' t':=fun q => (lay_mem q).1.imp (fun q => hw _ q) (fun q => hw _ q)
        have O' : SimO Z ws (adr k sa n0) h' (adr k sa n0 a) (.object C,vs.set j v'):=by
          refine ⟨SO.1.wr W,fun n' t' j' q' => ?_⟩
          obtain ⟨u,hu,F'⟩:=SO.2 n' t' j' q'
          by_cases ej : j = j'
          · subst ej
            obtain ⟨rfl,rfl⟩:=fidx_inj r2 q'
            exact ⟨v',by rw [List.getElem?_set_self hj],F.same W⟩
          · refine ⟨u,by rw [List.getElem?_set_ne ej]; exact hu,F'.other W (Or.inr ?_)⟩
            obtain ⟨-,ty',p'⟩:=lay_mem (fidx_mem q')
            refine slot_ne (LL (fidx_mem q')) (LL (fidx_mem r2)) (fun en => ?_) p' r3
            rcases r6 n' t' (fidx_mem q') with g | g
            · exact g en
            · subst en g; rw [r2] at q'; exact ej (Option.some.inj q')
        refine ⟨T',_,?_,by rw [e']; exact Wr.upd S W O',Fr.snoc X' N (adr_ge hk),st'⟩
        show Stand p l e R s m args below meth c T' _ (cells + ((H.set a (.object C,vs.set j v')).length - H.length)) (slots + (tot ws (H.set a (.object C,vs.set j v')) - tot ws H))
        rw [List.length_set,tot_set (o:=(.object C,vs)) (o':=(.object C,vs.set j v')) q2 rfl,Nat.sub_self,Nat.sub_self]
        exact X'
      · cases hs
    · cases hs
  · cases hs
theorem hNew_sound (hw : ∀ d ∈ ws,d.before a0 Z = true) (X : Stand p l e R s m args below meth c T locs cells slots) (hx : p.tables.exec = Jvm.exec) (hZ : Z.Warmed39 s.vm) (hown : s.vm.findClass y.cls = some m.cls)
    {i : Nat} (hd : decode c.code pc = .ok (.new i,3)) {q : Nat × List Value × AHeap} (hs : hNew ws y.cls i pc H st = some q) (S : Sim Z ws k sa n0 H T.heap) (N : Fr n0 locs)
    (hc : cells + (q.2.2.length - H.length)≤R.cells) (hl : slots + (tot ws q.2.2 - tot ws H)≤R.slots) (hz0 : T.heap.size = s.heap.size + cells) :
    Beh p l e R s m args below meth c T Z ws k sa n0 cells slots H (fr (adr k sa n0) m pc ls st) q.1 ls q.2.1 q.2.2:=by
  unfold hNew at hs
  split at hs
  · rename_i C q1
    split at hs
    · rename_i g; cases hs
      obtain ⟨ki,hki⟩:=Option.isSome_iff_exists.mp g.1
      have ec : (H ++ [(FieldType.object C,(olay ws C).map dflt)]).length - H.length = 1:=by simp
      have es : tot ws (H ++ [(FieldType.object C,(olay ws C).map dflt)]) - tot ws H = ki:=by
        rw [tot_app]; simp [cost,hki]
      dsimp only at hc hl ⊢
      rw [ec] at hc; rw [es] at hl
      have hz:=S.next
      obtain ⟨T',h',X',e',E,A,D,-,st'⟩:=newO X hx hZ hown (hw _ (rCls_mem q1)) (hw _ (rInst_mem hki)) (hw _ (hasInit_mem g.2)) rfl (g:=fr (adr k sa n0) m pc ls st) rfl hd hc hl
      have hz' : h'.size = T.heap.size + 1:=by
        have u1:=X'.heapSize
        have a1 : (T.heap.size : Nat) < h'.size:=A.lt
        rw [e'] at u1
        omega
      refine ⟨T',locs,by rw [ec,es]; exact X',?_,N,?_⟩
      · rw [e']
        refine S.push E hz' ⟨A,fun n t j q => ?_⟩
        have hm:=fidx_mem q
        obtain ⟨q2,ty,q3⟩:=lay_mem hm
        refine ⟨dflt (n,t),by rw [List.getElem?_map,idx_get q]; rfl,?_⟩
        have F:=D (O:=C) (nm:=n) (d:=t) (q2.imp (fun q => hw _ q) (fun q => hw _ q)) q3
        have e3 : ren (adr k sa n0) (dflt (n,t)) = defaultValue ty:=by simp only [dflt,q3,ren_dflt]
        rw [e3]; exact F
      · intro target ht
        rw [hz] at st'
        exact st' target ht
    · cases hs
  · cases hs
theorem hNewA_sound (hw : ∀ d ∈ ws,d.before a0 Z = true) (X : Stand p l e R s m args below meth c T locs cells slots) (hx : p.tables.exec = Jvm.exec) (hZ : Z.Warmed39 s.vm)
    {aty : ArrayType} (hd : decode c.code pc = .ok (.newarray aty,2)) {q : Nat × List Value × AHeap} (hs : hNewA ws aty pc H st = some q) (S : Sim Z ws k sa n0 H T.heap) (N : Fr n0 locs)
    (hc : cells + (q.2.2.length - H.length)≤R.cells) (hl : slots + (tot ws q.2.2 - tot ws H)≤R.slots) (hz0 : T.heap.size = s.heap.size + cells) :
    Beh p l e R s m args below meth c T Z ws k sa n0 cells slots H (fr (adr k sa n0) m pc ls st) q.1 ls q.2.1 q.2.2:=by
  unfold hNewA at hs
  split at hs
  · rename_i n r
    split at hs
    · rename_i g; cases hs
      obtain ⟨g1,g2,g3⟩:=g
      have ec : (H ++ [(FieldType.array (newarray.typeOf aty),List.replicate n.toNatClampNeg (defaultValue (newarray.typeOf aty)))]).length - H.length = 1:=by simp
      have es : tot ws (H ++ [(FieldType.array (newarray.typeOf aty),List.replicate n.toNatClampNeg (defaultValue (newarray.typeOf aty)))]) - tot ws H = n.toNatClampNeg:=by
        rw [tot_app]; simp [cost]
      dsimp only at hc hl ⊢
      rw [ec] at hc; rw [es] at hl
      have hz:=S.next
      obtain ⟨T',h',cA,X',e',E,A,st'⟩:=newP X hx hZ (hw _ (hasArr_mem g1)) rfl (g:=fr (adr k sa n0) m pc ls (.int n::r)) rfl hd rfl g2 (cap:=n.toNatClampNeg) (Nat.le_refl _) g3 hc hl
      have hz' : h'.size = T.heap.size + 1:=by
        have u1:=X'.heapSize
        have a1 : (T.heap.size : Nat) < h'.size:=A.lt
        rw [e'] at u1
        omega
      refine ⟨T',locs,by rw [ec,es]; exact X',?_,N,?_⟩
      · rw [e']
        refine S.push E hz' ⟨_,A,?_⟩
        simp [newA,ren_dflt]
      · intro target ht
        rw [hz] at st'
        exact st' target ht
    · cases hs
  · cases hs
theorem hLd_some {ok : FieldType→Bool} {q : Nat × List Value × AHeap} (hs : hLd ok pc H st = some q) : ∃ j a r ty vs v,st = .int j::.ref a::r∧H[a]? = some (.array ty,vs)∧ok ty = true∧¬ j < 0∧vs[j.toNatClampNeg]? = some v∧q = (pc + 1,v::r,H):=by
  unfold hLd at hs
  split at hs
  · split at hs
    · split at hs
      · rename_i g
        obtain ⟨v,h1,h2⟩:=Option.map_eq_some_iff.mp hs
        exact ⟨_,_,_,_,_,v,rfl,by assumption,g.1,g.2,h1,h2.symm⟩
      · cases hs
    · cases hs
  · cases hs
theorem hSt_some {ok : FieldType→Bool} {q : Nat × List Value × AHeap} (hs : hSt ok k pc H st = some q) : ∃ v j a r ty vs v',st = v::.int j::.ref a::r∧H[a]? = some (.array ty,vs)∧ok ty = true∧k≤a∧¬ j < 0∧j.toNatClampNeg < vs.length∧putv ty v = some v'∧q = (pc + 1,r,H.set a (.array ty,vs.set j.toNatClampNeg v')):=by
  unfold hSt at hs
  split at hs
  · split at hs
    · split at hs
      · rename_i g
        obtain ⟨v,h1,h2⟩:=Option.map_eq_some_iff.mp hs
        exact ⟨_,_,_,_,_,_,v,rfl,by assumption,g.1,g.2.1,g.2.2.1,g.2.2.2,h1,h2.symm⟩
      · cases hs
    · cases hs
  · cases hs
theorem hLen_some {q : Nat × List Value × AHeap} (hs : hLen pc H st = some q) : ∃ a r ty vs,st = .ref a::r∧H[a]? = some (.array ty,vs)∧q = (pc + 1,.int vs.length.toInt32::r,H):=by
  unfold hLen at hs
  split at hs
  · split at hs
    · cases hs; exact ⟨_,_,_,_,rfl,by assumption,rfl⟩
    · cases hs
  · cases hs
/-- behind a store into an array -/
theorem st_beh {T' : State} {h' : Heap} {a j : Nat} {ty : FieldType} {vs : List Value} {v' : Value} {r : List Value} {g : JFrame} (X' : Stand p l e R s m args below meth c T' (locs ++ [⟨adr k sa n0 a,j⟩]) cells slots) (e' : T'.heap = h') (W : Wr T.heap h' (adr k sa n0 a) j (ren (adr k sa n0) v'))
    (S : Sim Z ws k sa n0 H T.heap) (N : Fr n0 locs) (q2 : H[a]? = some (.array ty,vs)) (hk : k≤a)
    (st' : ∀ target,Steps p.tables e below (T'.setTop (fr (adr k sa n0) m (pc + 1) ls r)) target→Steps p.tables e below (T.setTop g) target) :
    Beh p l e R s m args below meth c T Z ws k sa n0 cells slots H g (pc + 1) ls r (H.set a (.array ty,vs.set j v')):=by
  obtain ⟨cl,A,es⟩:=S.2.2.2.2 a _ q2
  refine ⟨T',_,?_,by rw [e']; exact Wr.upd S W ⟨_,A.same W,size_set cl j _ _ es rfl⟩,Fr.snoc X' N (adr_ge hk),st'⟩
  rw [List.length_set,tot_set (o:=(.array ty,vs)) (o':=(.array ty,vs.set j v')) q2 (by simp [cost]),Nat.sub_self,Nat.sub_self]
  exact X'
set_option maxHeartbeats 1000000 in
theorem hstep_sound (hw : ∀ d ∈ ws,d.before a0 Z = true) (X : Stand p l e R s m args below meth c T locs cells slots) (hx : p.tables.exec = Jvm.exec) (hZ : Z.Warmed39 s.vm) (hown : s.vm.findClass y.cls = some m.cls) (hnm : meth.name = y.name)
    {ins : Instr} {len : Nat} (hd : decode c.code pc = .ok (ins,len)) {q : Nat × List Value × AHeap} (hs : hstep ws k y ins len pc st H = some q) (S : Sim Z ws k sa n0 H T.heap) (N : Fr n0 locs)
    (hc : cells + (q.2.2.length - H.length)≤R.cells) (hl : slots + (tot ws q.2.2 - tot ws H)≤R.slots) (hz0 : T.heap.size = s.heap.size + cells) :
    Beh p l e R s m args below meth c T Z ws k sa n0 cells slots H (fr (adr k sa n0) m pc ls st) q.1 ls q.2.1 q.2.2:=by
  unfold hstep at hs
  split at hs
  · obtain ⟨rfl,hs⟩:=chk_some hs
    exact hGet_sound hw X hx hZ hown hd hs S N
  · obtain ⟨rfl,hs⟩:=chk_some hs
    exact hPut_sound hw X hx hZ hown hnm hd hs S N
  · obtain ⟨rfl,hs⟩:=chk_some hs
    exact hNew_sound hw X hx hZ hown hd hs S N hc hl hz0
  · obtain ⟨rfl,hs⟩:=chk_some hs
    exact hNewA_sound hw X hx hZ hd hs S N hc hl hz0
  · obtain ⟨rfl,hs⟩:=chk_some hs
    obtain ⟨j,a,r,ty,vs,v,rfl,q2,ho,hj,hv,rfl⟩:=hLd_some hs
    obtain rfl : ty = _:=of_decide_eq_true ho
    obtain ⟨cl,A,es⟩:=S.2.2.2.2 a _ q2
    have hlt:=(List.getElem?_eq_some_iff.mp hv).1
    exact Beh.stay X S N fun target ht => X.iaload hx (j:=j) (v:=ren (adr k sa n0) v) A.1 (State.isArrayOf_alike hZ.alike A.2.1) A.2.2 (fun g => g.elim hj fun g => by rw [es] at g; simp at g; omega) (by rw [es,List.getElem?_toArray,List.getElem?_map,hv]; rfl) (g:=fr (adr k sa n0) m pc ls (.int j::.ref a::r)) rfl rfl hd target ht
  · obtain ⟨rfl,hs⟩:=chk_some hs
    obtain ⟨j,a,r,ty,vs,v,rfl,q2,ho,hj,hv,rfl⟩:=hLd_some hs
    obtain rfl : ty = _:=of_decide_eq_true ho
    obtain ⟨cl,A,es⟩:=S.2.2.2.2 a _ q2
    have hlt:=(List.getElem?_eq_some_iff.mp hv).1
    exact Beh.stay X S N fun target ht => X.caload hx (j:=j) (v:=ren (adr k sa n0) v) A.1 (State.isArrayOf_alike hZ.alike A.2.1) A.2.2 (fun g => g.elim hj fun g => by rw [es] at g; simp at g; omega) (by rw [es,List.getElem?_toArray,List.getElem?_map,hv]; rfl) (g:=fr (adr k sa n0) m pc ls (.int j::.ref a::r)) rfl rfl hd target ht
  · obtain ⟨rfl,hs⟩:=chk_some hs
    obtain ⟨j,a,r,ty,vs,v,rfl,q2,ho,hj,hv,rfl⟩:=hLd_some hs
    obtain rfl : ty = _:=of_decide_eq_true ho
    obtain ⟨cl,A,es⟩:=S.2.2.2.2 a _ q2
    have hlt:=(List.getElem?_eq_some_iff.mp hv).1
    exact Beh.stay X S N fun target ht => X.laload hx (j:=j) (v:=ren (adr k sa n0) v) A.1 (State.isArrayOf_alike hZ.alike A.2.1) A.2.2 (fun g => g.elim hj fun g => by rw [es] at g; simp at g; omega) (by rw [es,List.getElem?_toArray,List.getElem?_map,hv]; rfl) (g:=fr (adr k sa n0) m pc ls (.int j::.ref a::r)) rfl rfl hd target ht
  · obtain ⟨rfl,hs⟩:=chk_some hs
    obtain ⟨j,a,r,ty,vs,v,rfl,q2,ho,hj,hv,rfl⟩:=hLd_some hs
    obtain ⟨cl,A,es⟩:=S.2.2.2.2 a _ q2
    have hlt:=(List.getElem?_eq_some_iff.mp hv).1
    simp only [okB,Bool.or_eq_true,decide_eq_true_eq] at ho
    rcases ho with rfl | rfl
    · exact Beh.stay X S N fun target ht => X.baloadBytes hx (j:=j) (v:=ren (adr k sa n0) v) A.1 (State.isArrayOf_alike hZ.alike A.2.1) A.2.2 (fun g => g.elim hj fun g => by rw [es] at g; simp at g; omega) (by rw [es,List.getElem?_toArray,List.getElem?_map,hv]; rfl) (g:=fr (adr k sa n0) m pc ls (.int j::.ref a::r)) rfl rfl hd target ht
    · exact Beh.stay X S N fun target ht => X.baloadBooleans hx (j:=j) (v:=ren (adr k sa n0) v) A.1 (State.isArrayOf_alike hZ.alike A.2.1) A.2.2 (fun g => g.elim hj fun g => by rw [es] at g; simp at g; omega) (by rw [es,List.getElem?_toArray,List.getElem?_map,hv]; rfl) (g:=fr (adr k sa n0) m pc ls (.int j::.ref a::r)) rfl rfl hd target ht
  · obtain ⟨rfl,hs⟩:=chk_some hs
    obtain ⟨v,j,a,r,ty,vs,v',rfl,q2,ho,hk,hj,hlt,hv,rfl⟩:=hSt_some hs
    obtain rfl : ty = _:=of_decide_eq_true ho
    obtain ⟨cl,A,es⟩:=S.2.2.2.2 a _ q2
    cases v <;> simp only [putv,Option.some.injEq,reduceCtorEq] at hv
    subst hv
    obtain ⟨T',h',X',e',W,st'⟩:=stI X hx hZ rfl A (j:=j) (fun g => g.elim hj fun g => by rw [es] at g; simp at g; omega) (g:=fr (adr k sa n0) m pc ls (.int _::.int j::.ref a::r)) rfl rfl hd
    exact st_beh X' e' W S N q2 hk st'
  · obtain ⟨rfl,hs⟩:=chk_some hs
    obtain ⟨v,j,a,r,ty,vs,v',rfl,q2,ho,hk,hj,hlt,hv,rfl⟩:=hSt_some hs
    obtain rfl : ty = _:=of_decide_eq_true ho
    obtain ⟨cl,A,es⟩:=S.2.2.2.2 a _ q2
    cases v <;> simp only [putv,Option.some.injEq,reduceCtorEq] at hv
    subst hv
    obtain ⟨T',h',X',e',W,st'⟩:=stC X hx hZ rfl A (j:=j) (fun g => g.elim hj fun g => by rw [es] at g; simp at g; omega) (g:=fr (adr k sa n0) m pc ls (.int _::.int j::.ref a::r)) rfl rfl hd
    exact st_beh X' e' W S N q2 hk st'
  · obtain ⟨rfl,hs⟩:=chk_some hs
    obtain ⟨v,j,a,r,ty,vs,v',rfl,q2,ho,hk,hj,hlt,hv,rfl⟩:=hSt_some hs
    obtain rfl : ty = _:=of_decide_eq_true ho
    obtain ⟨cl,A,es⟩:=S.2.2.2.2 a _ q2
    cases v <;> simp only [putv,Option.some.injEq,reduceCtorEq] at hv
    subst hv
    obtain ⟨T',h',X',e',W,st'⟩:=stJ X hx hZ rfl A (j:=j) (fun g => g.elim hj fun g => by rw [es] at g; simp at g; omega) (g:=fr (adr k sa n0) m pc ls (.long _::.int j::.ref a::r)) rfl rfl hd
    exact st_beh X' e' W S N q2 hk st'
  · obtain ⟨rfl,hs⟩:=chk_some hs
    obtain ⟨v,j,a,r,ty,vs,v',rfl,q2,ho,hk,hj,hlt,hv,rfl⟩:=hSt_some hs
    obtain ⟨cl,A,es⟩:=S.2.2.2.2 a _ q2
    simp only [okB,Bool.or_eq_true,decide_eq_true_eq] at ho
    rcases ho with rfl | rfl
    · cases v <;> simp only [putv,Option.some.injEq,reduceCtorEq] at hv
      subst hv
      obtain ⟨T',h',X',e',W,st'⟩:=stB X hx hZ rfl A (j:=j) (fun g => g.elim hj fun g => by rw [es] at g; simp at g; omega) (g:=fr (adr k sa n0) m pc ls (.int _::.int j::.ref a::r)) rfl rfl hd
      exact st_beh X' e' W S N q2 hk st'
    · cases v <;> simp only [putv,Option.some.injEq,reduceCtorEq] at hv
      subst hv
      obtain ⟨T',h',X',e',W,st'⟩:=stZ X hx hZ rfl A (j:=j) (fun g => g.elim hj fun g => by rw [es] at g; simp at g; omega) (g:=fr (adr k sa n0) m pc ls (.int _::.int j::.ref a::r)) rfl rfl hd
      exact st_beh X' e' W S N q2 hk st'
  · obtain ⟨rfl,hs⟩:=chk_some hs
    obtain ⟨a,r,ty,vs,rfl,q2,rfl⟩:=hLen_some hs
    obtain ⟨cl,A,es⟩:=S.2.2.2.2 a _ q2
    have ez : cl.slots.size = vs.length:=by rw [es]; simp
    refine Beh.stay X S N fun target ht => X.arraylength hx (cell:=cl) A.1 (State.isArrayOf_alike hZ.alike A.2.1) (g:=fr (adr k sa n0) m pc ls (.ref a::r)) rfl rfl hd target ?_
    rw [ez]; exact ht
  · obtain ⟨rfl,hs⟩:=chk_some hs
    obtain ⟨v,hv,rfl⟩:=Option.map_eq_some_iff.mp hs
    exact Beh.stay X S N (X.ldcInt hx hown (mvT hZ (hw _ (rCon_mem hv))) (g:=fr (adr k sa n0) m pc ls st) rfl hd)
  · obtain ⟨rfl,hs⟩:=chk_some hs
    obtain ⟨v,hv,rfl⟩:=Option.map_eq_some_iff.mp hs
    exact Beh.stay X S N (X.ldcwInt hx hown (mvT hZ (hw _ (rCon_mem hv))) (g:=fr (adr k sa n0) m pc ls st) rfl hd)
  · obtain ⟨rfl,hs⟩:=chk_some hs
    obtain ⟨v,hv,rfl⟩:=Option.map_eq_some_iff.mp hs
    exact Beh.stay X S N (X.ldc2Long hx hown (mvT hZ (hw _ (rConL_mem hv))) (g:=fr (adr k sa n0) m pc ls st) rfl hd)
  · cases hs
end H
theorem hstep_size {ws : Ws} {k : Nat} {y : MethodName} {ins : Instr} {len pc : Nat} {st : List Value} {H : AHeap} {q : Nat × List Value × AHeap} (hs : hstep ws k y ins len pc st H = some q) : H.length≤q.2.2.length∧tot ws H≤tot ws q.2.2:=by
  unfold hstep at hs
  split at hs
  · obtain ⟨rfl,hs⟩:=chk_some hs
    unfold hGet at hs
    split at hs
    · split at hs
      · split at hs
        · obtain ⟨v,-,rfl⟩:=Option.map_eq_some_iff.mp hs; exact ⟨Nat.le_refl _,Nat.le_refl _⟩
        · cases hs
      · cases hs
    · cases hs
  · obtain ⟨rfl,hs⟩:=chk_some hs
    unfold hPut at hs
    split at hs
    · split at hs
      · rename_i C j ty C' vs q1 q2
        split at hs
        · obtain ⟨v,-,rfl⟩:=Option.map_eq_some_iff.mp hs
          exact ⟨Nat.le_of_eq (by rw [List.length_set]),Nat.le_of_eq (tot_set (o:=(.object C',vs)) (o':=(.object C',vs.set j v)) q2 rfl).symm⟩
        · cases hs
      · cases hs
    · cases hs
  · obtain ⟨rfl,hs⟩:=chk_some hs
    unfold hNew at hs
    split at hs
    · split at hs
      · cases hs; exact ⟨by simp,by rw [tot_app]; omega⟩
      · cases hs
    · cases hs
  · obtain ⟨rfl,hs⟩:=chk_some hs
    unfold hNewA at hs
    split at hs
    · split at hs
      · cases hs; exact ⟨by simp,by rw [tot_app]; omega⟩
      · cases hs
    · cases hs
  all_goals first
    | (obtain ⟨rfl,hs⟩:=chk_some hs; obtain ⟨j,a,r,ty,vs,v,rfl,q2,ho,hj,hv,rfl⟩:=hLd_some hs; exact ⟨Nat.le_refl _,Nat.le_refl _⟩)
    | (obtain ⟨rfl,hs⟩:=chk_some hs; obtain ⟨v,j,a,r,ty,vs,v',rfl,q2,ho,hk,hj,hlt,hv,rfl⟩:=hSt_some hs; exact ⟨Nat.le_of_eq (by rw [List.length_set]),Nat.le_of_eq (tot_set (o:=(.array ty,vs)) (o':=(.array ty,vs.set _ v')) q2 (by simp [cost])).symm⟩)
    | (obtain ⟨rfl,hs⟩:=chk_some hs; obtain ⟨a,r,ty,vs,rfl,q2,rfl⟩:=hLen_some hs; exact ⟨Nat.le_refl _,Nat.le_refl _⟩)
    | (obtain ⟨rfl,hs⟩:=chk_some hs; obtain ⟨v,hv,rfl⟩:=Option.map_eq_some_iff.mp hs; exact ⟨Nat.le_refl _,Nat.le_refl _⟩)
    | (cases hs; done)
end Jvm.Own
namespace Jvm.Own
open Sem ClassFile Op Lib Jvm.Stand Jvm.Free Jvm.LawKit Jvm.RoadKit
/-! OWN 5: the run is the machine's -/
theorem ent_ren (f : Nat→Nat) : ∀ as : List Value,ent (as.map (ren f)) = (ent as).map (renS f)
  | [] => rfl
  | v::r => by
    simp only [List.map_cons,ent,ren_cat,ent_ren f r]
    split <;> rfl
theorem fill_eq : ∀ (as : List Value) (acc : Array Slot),as.foldl (fun acc v => if v.category = 2 then (acc.push (.val v)).push .second else acc.push (.val v)) acc = acc ++ (ent as).toArray
  | [],acc => by simp [ent]
  | v::r,acc => by
    simp only [List.foldl_cons,ent]
    split
    · rw [fill_eq r]; simp [← Array.toList_inj]
    · rw [fill_eq r]; simp [← Array.toList_inj]
theorem entry_eq (f : Nat→Nat) (m : MethodId) (as : List Value) (mx : Nat) : entryFrame m (as.map (ren f)).toArray mx = fr f m 0 (entry as mx) []:=by
  have h : argsToLocals (as.map (ren f)).toArray mx = ((entry as mx).map (renS f)).toArray:=by
    unfold argsToLocals entry
    simp only [List.foldl_toArray']
    rw [fill_eq,ent_ren]
    simp [← Array.toList_inj,renS]
  unfold entryFrame
  rw [h]; rfl
theorem entry_len {as : List Value} {mx : Nat} (h : (ent as).length≤mx) : (entry as mx).length = mx:=by simp [entry]; omega
theorem wsum_ren (f : Nat→Nat) (st : List Value) : ((st.map (ren f)).map fun v => v.category).sum = wsum st:=by
  unfold wsum
  rw [List.map_map]
  congr 1
  apply List.map_congr_left
  intro v _
  exact ren_cat f v
section Inv
variable {ws : Ws} {dn : Dn} {k : Nat} {y : MethodName} {bytes : ByteArray} {ret : Option FieldType} {pc : Nat} {ls : List Slot} {st : List Value} {H : AHeap}
theorem cR_some {i : Nat} {y' : MethodName} {b : ByteArray} {mx na sl : Nat} {r : Option FieldType} (h : cR ws dn y i = some (y',b,mx,r,na,sl)) :
    Jvm.Cond.methodLink y.cls i y' ∈ ws∧Jvm.Cond.code y' b mx r ∈ ws∧Jvm.Cond.initialized y'.cls ∈ ws∧Jvm.plainName y'.cls = true∧(y'.cls ≠ "java/lang/invoke/MethodHandle" ∧ y'.cls ≠ "java/lang/invoke/VarHandle")∧rCode ws y' = some (b,mx,r) ∧
    ∃ f' l' f l sig,dnOf dn y' = some (f',l')∧dnOf dn y = some (f,l)∧parseMethodDescriptor y'.desc = some sig∧na = sig.parameters.length∧f' + 1≤f∧sl + (mx + 11) + l'≤l:=by
  unfold cR at h
  split at h
  · cases h
  · rename_i z q1
    split at h
    · rename_i b' mx' r' f' l' f l sig q2 q3 q4 q5
      split at h
      · rename_i g
        cases h
        obtain ⟨g1,g2,g3,g4,g5,g6⟩:=g
        exact ⟨rMth_mem q1,rCode_mem q2,hasInit_mem g1,g2,⟨g3,g4⟩,q2,f',l',f,l,sig,q3,q4,q5,rfl,g5,by omega⟩
      · cases h
    · cases h
theorem act_ret {v : Option Value} (h : act ws dn k y bytes ret pc ls st H = some (.inl v)) : (∃ z r t,decode bytes pc = .ok (.ireturn,1)∧st = .int z::r∧ret = some t∧(t = .int ∨ t = .boolean ∨ t = .byte ∨ t = .char ∨ t = .short)∧v = some (.int (nar t z))) ∨
    (∃ z,decode bytes pc = .ok (.lreturn,1)∧st = [.long z]∧ret = some .long∧v = some (.long z)) ∨ (decode bytes pc = .ok (.return_,1)∧st = []∧ret = none∧v = none):=by
  unfold act at h
  split at h
  · cases h
  rename_i ins len hd
  split at h
  · cases h
  split at h
  · cases h
  unfold cstep at h
  split at h
  · obtain ⟨rfl,h⟩:=chk_some h
    split at h
    · split at h
      · rename_i g; cases h; exact Or.inl ⟨_,_,_,hd,rfl,rfl,g,rfl⟩
      · cases h
    · cases h
  · obtain ⟨rfl,h⟩:=chk_some h
    split at h
    · cases h; exact Or.inr (Or.inl ⟨_,hd,rfl,rfl,rfl⟩)
    · cases h
  · obtain ⟨rfl,h⟩:=chk_some h
    split at h
    · cases h; exact Or.inr (Or.inr ⟨hd,rfl,rfl,rfl⟩)
    · cases h
  · obtain ⟨rfl,h⟩:=chk_some h
    split at h
    · split at h <;> cases h
    · cases h
  · obtain ⟨rfl,h⟩:=chk_some h
    split at h
    · split at h
      · split at h <;> cases h
      · cases h
    · split at h
      · split at h
        · split at h <;> cases h
        · cases h
      · cases h
  · obtain ⟨rfl,h⟩:=chk_some h
    split at h
    · split at h
      · split at h
        · split at h <;> cases h
        · cases h
      · cases h
    · cases h
  · cases h
theorem act_step {pc' : Nat} {ls' : List Slot} {st' : List Value} {H' : AHeap} (h : act ws dn k y bytes ret pc ls st H = some (.inr (.inl (pc',ls',st',H')))) : ∃ ins len,decode bytes pc = .ok (ins,len) ∧
    ((xstep ins len pc ls st = some (pc',ls',st')∧H' = H) ∨ (ls' = ls∧hstep ws k y ins len pc st H = some (pc',st',H')) ∨
     (∃ i sl a r,ins = .invokespecial i∧len = 3∧oR ws dn y i = some sl∧st = .ref a::r∧wsum r≤sl∧pc' = pc + 3∧ls' = ls∧st' = r∧H' = H)):=by
  unfold act at h
  split at h
  · cases h
  rename_i ins len hd
  refine ⟨ins,len,hd,?_⟩
  split at h
  · rename_i g; cases h; exact Or.inl ⟨g,rfl⟩
  split at h
  · rename_i g; cases h; exact Or.inr (Or.inl ⟨rfl,g⟩)
  unfold cstep at h
  split at h
  · obtain ⟨rfl,h⟩:=chk_some h
    split at h
    · split at h <;> cases h
    · cases h
  · obtain ⟨rfl,h⟩:=chk_some h
    split at h <;> cases h
  · obtain ⟨rfl,h⟩:=chk_some h
    split at h <;> cases h
  · obtain ⟨rfl,h⟩:=chk_some h
    split at h
    · split at h <;> cases h
    · cases h
  · obtain ⟨rfl,h⟩:=chk_some h
    split at h
    · rename_i sl ho
      split at h
      · split at h
        · rename_i g; cases h; exact Or.inr (Or.inr ⟨_,sl,_,_,rfl,rfl,ho,rfl,g,rfl,rfl,rfl,rfl⟩)
        · cases h
      · cases h
    · split at h
      · split at h
        · split at h <;> cases h
        · cases h
      · cases h
  · obtain ⟨rfl,h⟩:=chk_some h
    split at h
    · split at h
      · split at h
        · split at h <;> cases h
        · cases h
      · cases h
    · cases h
  · cases h
/-- the three kinds of call -/
theorem act_call {y' : MethodName} {b : ByteArray} {r : Option FieldType} {en : List Slot} {rest : List Value} (h : act ws dn k y bytes ret pc ls st H = some (.inr (.inr (y',b,r,en,rest)))) : ∃ i mx na sl as,cR ws dn y i = some (y',b,mx,r,na,sl)∧en = entry as mx∧(ent as).length≤mx∧wsum rest≤sl ∧
    ((decode bytes pc = .ok (.invokestatic i,3)∧Jvm.Cond.static y' ∈ ws∧as.length = na∧st = as.reverse ++ rest) ∨
     (∃ a as',as = .ref a::as'∧as'.length = na∧st = as'.reverse ++ .ref a::rest∧Jvm.Cond.instanceMethod y' ∈ ws ∧
      ((decode bytes pc = .ok (.invokespecial i,3)∧y'.name = "<init>" ∧ r = none) ∨
       (decode bytes pc = .ok (.invokevirtual i,3)∧∃ C vs,H[a]? = some (.object C,vs)∧((Jvm.Cond.privateMethod y' ∈ ws∧∃ ki,Jvm.Cond.instantiable y'.cls ki ∈ ws) ∨ (Jvm.Cond.declares y' ∈ ws∧Jvm.Cond.selects y'.cls y' y' ∈ ws∧C = y'.cls)))))):=by
  unfold act at h
  split at h
  · cases h
  rename_i ins len hd
  split at h
  · cases h
  split at h
  · cases h
  unfold cstep at h
  split at h
  · obtain ⟨rfl,h⟩:=chk_some h
    split at h
    · split at h <;> cases h
    · cases h
  · obtain ⟨rfl,h⟩:=chk_some h
    split at h <;> cases h
  · obtain ⟨rfl,h⟩:=chk_some h
    split at h <;> cases h
  · rename_i i _ _
    obtain ⟨rfl,h⟩:=chk_some h
    split at h
    · rename_i y1 b1 mx r1 na sl hq
      split at h
      · rename_i g
        cases h
        unfold sR at hq
        split at hq
        · rename_i q hc
          split at hq
          · rename_i hs
            cases hq
            refine ⟨i,mx,na,sl,_,hc,rfl,g.2.2,g.2.1,Or.inl ⟨hd,hasStat_mem hs,by simp; omega,by simp⟩⟩
          · cases hq
        · cases hq
      · cases h
    · cases h
  · rename_i i _ _
    obtain ⟨rfl,h⟩:=chk_some h
    split at h
    · split at h
      · split at h <;> cases h
      · cases h
    · split at h
      · rename_i y1 b1 mx r1 na sl hq
        split at h
        · rename_i a rest' hdrop
          split at h
          · rename_i g
            cases h
            unfold nR at hq
            split at hq
            · rename_i q hc
              split at hq
              · rename_i hs
                cases hq
                refine ⟨i,mx,na,sl,_,hc,rfl,g.2.1,g.1,Or.inr ⟨a,_,rfl,by simp; omega,?_,hasIM_mem hs.2.1,Or.inl ⟨hd,hs.1,hs.2.2⟩⟩⟩
                rw [List.reverse_reverse,← hdrop,List.take_append_drop]
              · cases hq
            · cases hq
          · cases h
        · cases h
      · cases h
  · rename_i i _ _
    obtain ⟨rfl,h⟩:=chk_some h
    split at h
    · rename_i pv y1 b1 mx r1 na sl hq
      split at h
      · rename_i a rest' hdrop
        split at h
        · rename_i C vs hH
          split at h
          · rename_i g
            cases h
            unfold vR at hq
            split at hq
            · rename_i q hc
              split at hq
              · rename_i hs
                split at hq
                · rename_i hp; cases hq
                  obtain ⟨ki,hki⟩:=Option.isSome_iff_exists.mp hp.2
                  exact ⟨i,mx,na,sl,_,hc,rfl,g.2.2.1,g.2.1,Or.inr ⟨a,_,rfl,by simp; omega,by rw [List.reverse_reverse,← hdrop,List.take_append_drop],hasIM_mem hs,Or.inr ⟨hd,C,vs,hH,Or.inl ⟨hasPriv_mem hp.1,ki,rInst_mem hki⟩⟩⟩⟩
                · split at hq
                  · rename_i hp; cases hq
                    exact ⟨i,mx,na,sl,_,hc,rfl,g.2.2.1,g.2.1,Or.inr ⟨a,_,rfl,by simp; omega,by rw [List.reverse_reverse,← hdrop,List.take_append_drop],hasIM_mem hs,Or.inr ⟨hd,C,vs,hH,Or.inr ⟨hasDecl_mem hp.1,hasSel_mem hp.2,g.1.resolve_left (by simp)⟩⟩⟩⟩
                  · cases hq
              · cases hq
            · cases hq
          · cases h
        · cases h
      · cases h
    · cases h
  · cases h
theorem act_size {pc' : Nat} {ls' : List Slot} {st' : List Value} {H' : AHeap} (h : act ws dn k y bytes ret pc ls st H = some (.inr (.inl (pc',ls',st',H')))) : H.length≤H'.length∧tot ws H≤tot ws H'∧ls'.length = ls.length:=by
  obtain ⟨ins,len,hd,⟨g,rfl⟩ | ⟨rfl,g⟩ | ⟨i,sl,a,r,-,-,-,-,-,-,rfl,-,rfl⟩⟩:=act_step h
  · exact ⟨Nat.le_refl _,Nat.le_refl _,xstep_size g⟩
  · have:=hstep_size g; exact ⟨this.1,this.2,rfl⟩
  · exact ⟨Nat.le_refl _,Nat.le_refl _,rfl⟩
end Inv
theorem run_size {ws : Ws} {dn : Dn} {k : Nat} : ∀ {n : Nat} {y : MethodName} {bytes : ByteArray} {ret : Option FieldType} {pc : Nat} {ls : List Slot} {st : List Value} {H : AHeap} {v : Option Value} {H' : AHeap},run ws dn k n y bytes ret pc ls st H = some (v,H')→H.length≤H'.length∧tot ws H≤tot ws H'
  | 0,_,_,_,_,_,_,_,_,_,h => by cases h
  | n + 1,y,bytes,ret,pc,ls,st,H,v,H',h => by
    rw [run] at h
    split at h
    · cases h
    · cases h; exact ⟨Nat.le_refl _,Nat.le_refl _⟩
    · rename_i g
      have h1:=run_size h
      have h2:=act_size g
      exact ⟨Nat.le_trans h2.1 h1.1,Nat.le_trans h2.2.1 h1.2⟩
    · split at h
      · rename_i g
        have h1:=run_size h
        have h2:=run_size g
        exact ⟨Nat.le_trans h2.1 h1.1,Nat.le_trans h2.2 h1.2⟩
      · cases h
section Snd
/-- from here on the machine comes to a return of v with the heap H' -/
def Goes (p : Program) (l : Launch) (e : Env) (R : Room) (s : State) (m : MethodId) (args : Array Value) (below : List Frame) (meth : Method) (c : Code) (T : State) (Z : State) (ws : Ws) (k sa n0 cells slots : Nat) (H : AHeap) (g : JFrame) (ret : Option FieldType) (v : Option Value) (H' : AHeap) : Prop :=
  ∃ T' locs',Stand p l e R s m args below meth c T' locs' (cells + (H'.length - H.length)) (slots + (tot ws H' - tot ws H))∧Sim Z ws k sa n0 H' T'.heap∧Fr n0 locs'∧(ret = none→v = none) ∧
    ∀ fs,(∀ (fj : JFrame) (acts : List Action),fj.method = m→fj.locked = none→fj.entered = []→(doReturn e (T'.setTop fj) acts (v.map (ren (adr k sa n0)))).1 = T'.setFrames fs)→Steps p.tables e below (T.setTop g) (T'.setFrames fs)
variable {p : Program} {l : Launch} {e : Env} {R : Room} {s : State} {m : MethodId} {args : Array Value} {below : List Frame} {meth : Method} {c : Code} {T : State} {locs : List Loc} {cells slots : Nat}
  {Z : State} {a0 : Array Value} {ws : Ws} {dn : Dn} {k sa n0 : Nat}
theorem Goes.of {T1 : State} {H H1 H' : AHeap} {g g1 : JFrame} {ret : Option FieldType} {v : Option Value} (hst : ∀ target,Steps p.tables e below (T1.setTop g1) target→Steps p.tables e below (T.setTop g) target)
    (G : Goes p l e R s m args below meth c T1 Z ws k sa n0 (cells + (H1.length - H.length)) (slots + (tot ws H1 - tot ws H)) H1 g1 ret v H') (m1 : H.length≤H1.length∧tot ws H≤tot ws H1) (m2 : H1.length≤H'.length∧tot ws H1≤tot ws H') :
    Goes p l e R s m args below meth c T Z ws k sa n0 cells slots H g ret v H':=by
  obtain ⟨T',locs',X',S',N',hv,go⟩:=G
  have e1 : cells + (H1.length - H.length) + (H'.length - H1.length) = cells + (H'.length - H.length):=by omega
  have e2 : slots + (tot ws H1 - tot ws H) + (tot ws H' - tot ws H1) = slots + (tot ws H' - tot ws H):=by omega
  rw [e1,e2] at X'
  exact ⟨T',locs',X',S',N',hv,fun fs hf => hst _ (go fs hf)⟩
def Snd (Z : State) (ws : Ws) (dn : Dn) (k sa n0 n : Nat) : Prop :=
  ∀ (y : MethodName) (bytes : ByteArray) (ret : Option FieldType) (pc : Nat) (ls : List Slot) (st : List Value) (H : AHeap) (v : Option Value) (H' : AHeap),run ws dn k n y bytes ret pc ls st H = some (v,H') →
  ∀ (p : Program) (l : Launch) (e : Env) (R : Room) (s : State) (m : MethodId) (args : Array Value) (below : List Frame) (meth : Method) (c : Code) (T : State) (locs : List Loc) (cells slots : Nat),
    Stand p l e R s m args below meth c T locs cells slots→p.tables.exec = Jvm.exec→Z.Warmed39 s.vm→s.vm.findClass y.cls = some m.cls→meth.name = y.name→meth.sig.returnType = ret→c.code = bytes→ls.length = c.maxLocals →
    (∀ f lc,dnOf dn y = some (f,lc)→f≤R.frames∧lc≤R.locals)→Sim Z ws k sa n0 H T.heap→Fr n0 locs→cells + (H'.length - H.length)≤R.cells→slots + (tot ws H' - tot ws H)≤R.slots→T.heap.size = s.heap.size + cells →
    Goes p l e R s m args below meth c T Z ws k sa n0 cells slots H (fr (adr k sa n0) m pc ls st) ret v H'
theorem met_of {n : Nat} (ih : Snd Z ws dn k sa n0 n) (l : Launch) {y : MethodName} {b : ByteArray} {mx f lc : Nat} {r : Option FieldType} (wsx : List Jvm.Cond) (hp : Jvm.plainName y.cls = true) {as : List Value} (he : (ent as).length≤mx) {H H1 : AHeap} {v : Option Value}
    (hrun : run ws dn k n y b r 0 (entry as mx) [] H = some (v,H1)) (hdn : ∀ f' l',dnOf dn y = some (f',l')→f'≤f∧l'≤lc) {h : Heap} (S : Sim Z ws k sa n0 H h) {rc rs : Nat} (hc : H1.length - H.length≤rc) (hs : tot ws H1 - tot ws H≤rs) :
    MetFree l y (head1 (Jvm.Cond.code y b mx r::wsx) ({ frames:=f,cells:=rc,slots:=rs,locals:=lc } : Room)) (fun a U => a = (as.map (ren (adr k sa n0))).toArray∧Z.Warmed39 U.vm∧U.heap = h) (fun _ _ _ _ _ => True)
      (fun _ U o U' => ∃ w L,o = .returned w∧(w = v.map (ren (adr k sa n0))∧Sim Z ws k sa n0 H1 U'.heap∧Fr n0 L)∧FrameEnd U o U' L (H1.length - H.length) (tot ws H1 - tot ws H)):=by
  refine MetFree.of_bodySF (plainFor_of_name hp) hisR ?_
  intro p e s m args below meth c s₁ Bd hml0 hP hK
  obtain ⟨rfl,hZ,hh⟩:=hP
  have hown : s.vm.findClass y.cls = some m.cls:=findClass_of_methodNamed Bd.named
  have hnm:=(name_of_methodNamed Bd.named Bd.method).1
  have X0 : Stand p l e ({ frames:=f,cells:=rc,slots:=rs,locals:=lc } : Room) s m (as.map (ren (adr k sa n0))).toArray below meth c s₁ [] 0 0:=Stand.of_body Bd
  have e0 : s₁.heap = h:=by rw [← hh,Bd.state]; rfl
  obtain ⟨T',locs',X',S',N',hv,go⟩:=ih y b r 0 (entry as mx) [] H v H1 hrun p l e _ s m _ below meth c s₁ [] 0 0 X0 Bd.exec hZ hown hnm Bd.returns Bd.bytes (by rw [entry_len he]; exact hml0.symm) hdn (by rw [e0]; exact S) (Fr.nil n0) (by rw [Nat.zero_add]; exact hc) (by rw [Nat.zero_add]; exact hs) (by rw [e0,← hh,Nat.add_zero])
  obtain ⟨fs,hr,hrun',hended,hW,hsame⟩:=X'.leave (v:=v.map (ren (adr k sa n0))) (fun hn => by rw [Bd.returns] at hn; rw [hv hn]; rfl)
  refine ⟨_,_,castTop (entry_eq _ m as mx) (go fs hr),hrun',hended,_,locs',rfl,⟨rfl,S',N'⟩,⟨_,rfl⟩,hW,hsame.mono (Nat.le_of_eq (Nat.zero_add _)) (Nat.le_of_eq (Nat.zero_add _))⟩
set_option maxHeartbeats 2000000 in
theorem snd (hw : ∀ d ∈ ws,d.before a0 Z = true) : ∀ n,Snd Z ws dn k sa n0 n
  | 0 => fun y bytes ret pc ls st H v H' h => by cases h
  | n + 1 => fun y bytes ret pc ls st H v H' h p l e R s m args below meth c T locs cells slots X hx hZ hown hnm hret hby hls hF S N hc hl hz0 => by
    have ih:=snd hw n
    rw [run] at h
    split at h
    · cases h
    · rename_i v' ha
      cases h
      have stay : ∀ {v : Option Value},(ret = none→v = none)→(∀ fs,(∀ (fj : JFrame) (acts : List Action),fj.method = m→fj.locked = none→fj.entered = []→(doReturn e (T.setTop fj) acts (v.map (ren (adr k sa n0)))).1 = T.setFrames fs)→Steps p.tables e below (T.setTop (fr (adr k sa n0) m pc ls st)) (T.setFrames fs)) →
          Goes p l e R s m args below meth c T Z ws k sa n0 cells slots H (fr (adr k sa n0) m pc ls st) ret v H:=fun hv hg => ⟨T,locs,by rw [Nat.sub_self,Nat.sub_self]; exact X,S,N,hv,hg⟩
      rcases act_ret ha with ⟨z,r,t,hd,rfl,rfl,ht,rfl⟩ | ⟨z,hd,rfl,rfl,rfl⟩ | ⟨hd,rfl,rfl,rfl⟩
      · refine stay (fun h => by cases h) fun fs hf => ?_
        rcases ht with rfl | ht
        · exact retOut X hx hret (w:=.int z) (rest:=r.map (ren (adr k sa n0))) rfl (Or.inl ⟨rfl,Or.inl rfl,z,rfl⟩) (hb hby hd) hf
        · exact retN X hx hret ht (hb hby hd) hf
      · exact stay (fun h => by cases h) fun fs hf => retOut X hx hret (w:=.long z) (rest:=[]) rfl (Or.inr (Or.inl ⟨rfl,rfl,z,rfl⟩)) (hb hby hd) hf
      · exact stay (fun _ => rfl) fun fs hf => X.returnOut hx hret (hb hby hd) hf
    · rename_i pc' ls' st' H1 ha
      have m1:=act_size ha
      have m2:=run_size h
      obtain ⟨ins,len,hd,⟨g,rfl⟩ | ⟨rfl,g⟩ | ⟨i,sl,a,r,rfl,rfl,ho,rfl,hW,rfl,rfl,rfl,rfl⟩⟩:=act_step ha
      · obtain ⟨T',locs',X',S',N',hv,go⟩:=ih y bytes ret pc' ls' st' H1 v H' h p l e R s m args below meth c T locs cells slots X hx hZ hown hnm hret hby (m1.2.2.trans hls) hF S N hc hl hz0
        exact ⟨T',locs',X',S',N',hv,fun fs hf => xstep_sound X.here hx (adr k sa n0) (hb hby hd) g (go fs hf)⟩
      · obtain ⟨T1,locs1,X1,S1,N1,st1⟩:=hstep_sound (ls:=ls') hw X hx hZ hown hnm (hb hby hd) g S N (by dsimp only; omega) (by dsimp only; omega) hz0
        dsimp only at X1 S1 st1
        have z1:=S.1
        have z2:=S1.1
        have z3:=S.2.1
        have G:=ih y bytes ret pc' ls' st' H1 v H' h p l e R s m args below meth c T1 locs1 _ _ X1 hx hZ hown hnm hret hby hls hF S1 N1 (by omega) (by omega) (by omega)
        exact Goes.of st1 G ⟨m1.1,m1.2.1⟩ m2
      · unfold oR at ho
        split at ho
        · rename_i y1 b1 mx1 r1 f1 l1 q1 q2 q3
          split at ho
          · rename_i g
            cases ho
            obtain ⟨rfl,g2,g3,rfl,rfl,g4,g5⟩:=g
            obtain ⟨u1,u2⟩:=hF _ _ q3
            have eb : b1 = ⟨#[0xb1]⟩:=by cases b1; cases g3; rfl
            subst eb
            obtain ⟨T1,X1,e1,st1⟩:=initO X hx hZ hown (hw _ (rMth_mem q1)) (hw _ (hasIM_mem g2)) (hw _ (rCode_mem q2)) rfl (g:=fr (adr k sa n0) m pc ls' (.ref a::st')) rfl (by simp [hls]) rfl (hb hby hd) (by omega) (W:=l1 - 12) (by show 2 * 0 + _≤_; rw [wsum_ren]; omega) (by omega)
            have G:=ih y bytes ret (pc + 3) ls' st' H1 v H' h p l e R s m args below meth c T1 locs cells slots X1 hx hZ hown hnm hret hby hls hF (by rw [e1]; exact S) N hc hl (by rw [e1]; exact hz0)
            obtain ⟨T',locs',X',S',N',hv,go⟩:=G
            exact ⟨T',locs',X',S',N',hv,fun fs hf => st1 _ (go fs hf)⟩
          · cases ho
        · cases ho
    · rename_i y' b r en rest ha
      split at h
      · rename_i v1 H1 h1
        have m1:=run_size h1
        have m2:=run_size h
        obtain ⟨i,mx,na,sl,as,hq,rfl,hen,hW,hk⟩:=act_call ha
        obtain ⟨w1,w2,w3,w4,w5,-,f',l',f,lc,sig,d1,d2,d3,d4,d5,d6⟩:=cR_some hq
        obtain ⟨u1,u2⟩:=hF _ _ d2
        have hM:=met_of ih l [] w4 hen h1 (f:=f') (lc:=l') (fun f2 l2 q => by rw [d1] at q; cases q; exact ⟨Nat.le_refl _,Nat.le_refl _⟩) S (Nat.le_refl _) (Nat.le_refl _)
        have hB:=backOf (R:=R) (p:=p) (e:=e) (below:=below) (s:=s) (args:=args) (len:=3) (W:=sl) (rm:=({ frames:=f',cells:=H1.length - H.length,slots:=tot ws H1 - tot ws H,locals:=l' } : Room)) (Q:=fun w h L => w = v1.map (ren (adr k sa n0))∧Sim Z ws k sa n0 H1 h∧Fr n0 L) hM hZ (hw _ w2) (hw _ w3) (by show f' + 1≤_; omega) (by show sl + (mx + 11) + l'≤_; omega)
        have hsz : (fr (adr k sa n0) m pc ls st).locals.size = c.maxLocals:=by simp [hls]
        have hWW : ∀ st' : List Value,wsum st'≤sl→2 * (fr (adr k sa n0) m pc ls st).monitorRoom + ((st'.map (ren (adr k sa n0))).map fun v => v.category).sum≤sl:=fun st' q => by show 2 * 0 + _≤_; rw [wsum_ren]; omega
        have hback : ∀ (v' : Option Value) (vm₁ : Vm) (B : Pt),Stand p l e R s m args below meth c B.U B.locs B.cells B.slots →
            (∃ L,(v' = v1.map (ren (adr k sa n0))∧Sim Z ws k sa n0 H1 B.U.heap∧Fr n0 L)∧B.locs = locs ++ L∧B.cells = cells + (H1.length - H.length)∧B.slots = slots + (tot ws H1 - tot ws H)) →
            (∀ target,Steps p.tables e below (B.U.setTop { fr (adr k sa n0) m pc ls st with pc:=pc + 3,stack:=v'.toList ++ rest.map (ren (adr k sa n0)) }) target→Steps p.tables e below (T.setTop (fr (adr k sa n0) m pc ls st)) target) →
            Goes p l e R s m args below meth c T Z ws k sa n0 cells slots H (fr (adr k sa n0) m pc ls st) ret v H':=by
          rintro v' vm₁ ⟨T1,L1,k1,n1⟩ X1 ⟨Lc,⟨rfl,S1,N1⟩,l1,y1,z1⟩ st1
          dsimp only [Pt.U,Pt.locs,Pt.cells,Pt.slots] at X1 l1 y1 z1 st1 S1
          subst l1 y1 z1
          have z1:=S.1
          have z2:=S1.1
          have z3:=S.2.1
          have G:=ih y bytes ret (pc + 3) ls (v1.toList ++ rest) H1 v H' h p l e R s m args below meth c T1 _ _ _ X1 hx hZ hown hnm hret hby hls hF S1 (Fr.app N N1) (by omega) (by omega) (by omega)
          refine Goes.of (fun target ht => st1 target ?_) G m1 m2
          have e1 : (v1.toList ++ rest).map (ren (adr k sa n0)) = (v1.map (ren (adr k sa n0))).toList ++ rest.map (ren (adr k sa n0)):=by cases v1 <;> simp
          rw [← e1]; exact ht
        rcases hk with ⟨hd,ws1,hna,rfl⟩ | ⟨a,as',rfl,hna,rfl,wi,⟨hd,hn,rfl⟩ | ⟨hd,C,vs,hH,hpd⟩⟩
        · obtain ⟨v',vm₁,B,-,X1,P1,st1⟩:=Jvm.LawKit.callS X hx (y:=y') hown (mvT hZ (hw _ w1)) (mvT hZ (hw _ ws1)) (mvT hZ (hw _ w3)) (mvT hZ (hw _ w2)) w5 hB (g:=fr (adr k sa n0) m pc ls (as.reverse ++ rest)) rfl hsz (argsL:=as.map (ren (adr k sa n0))) (rest:=rest.map (ren (adr k sa n0)))
            (fun sg hsg => by rw [d3] at hsg; cases hsg; simp [hna,d4]) (by simp) (hWW rest hW) (hb hby hd) (fun _ _ => ⟨rfl,rfl,by show cells + (H1.length - H.length)≤_; omega,by show slots + (tot ws H1 - tot ws H)≤_; omega⟩)
          exact hback v' vm₁ B X1 P1 st1
        · obtain ⟨v',vm₁,B,-,X1,P1,st1⟩:=X.specialBack hx (y:=y') hn hown (mvT hZ (hw _ w1)) (mvT hZ (hw _ wi)) (mvT hZ (hw _ w2)) w5 hB (g:=fr (adr k sa n0) m pc ls (as'.reverse ++ .ref a::rest)) rfl hsz (Steps.refl _) (a:=adr k sa n0 a) (argsL:=as'.map (ren (adr k sa n0))) (rest:=rest.map (ren (adr k sa n0)))
            (fun sg hsg => by rw [d3] at hsg; cases hsg; simp [hna,d4]) (by simp [ren]) (hWW rest hW) (hb hby hd) (fun _ _ => ⟨rfl,rfl,by show cells + (H1.length - H.length)≤_; omega,by show slots + (tot ws H1 - tot ws H)≤_; omega⟩)
          exact hback v' vm₁ B X1 P1 fun target ht => st1.trans ht
        · have E:=(S.2.2.2.2 a _ hH).1
          rcases hpd with ⟨wp,ki,wki⟩ | ⟨wd,wsel,rfl⟩
          · obtain ⟨cq,hq1,hq2⟩:=E.cell
            have hpa : s.PrivateAt y':=Cond.privateMethod_at (mvP hZ (hw _ wp) (args:=#[]))
            have hsel : (Jvm.Cond.selects y'.cls y' y').before args s = true:=by
              have wz : (Jvm.Cond.instantiable y'.cls ki).before args s = true:=mvT hZ (hw _ wki)
              obtain ⟨c2,k2,i1,i2,-,i4,-⟩:=Cond.instantiable_spec wz
              exact selects_self_of_private i1 i2 (Bool.or_eq_false_iff.mp i4).1 hpa (mvT hZ (hw _ wi)) w5
            obtain ⟨v',vm₁,B,-,X1,P1,st1⟩:=X.privateBack hx (y:=y') hown (mvT hZ (hw _ w1)) (mvT hZ (hw _ wi)) hsel hpa (mvT hZ (hw _ w2)) w5 hB (g:=fr (adr k sa n0) m pc ls (as'.reverse ++ .ref a::rest)) rfl hsz (Steps.refl _) (a:=adr k sa n0 a) hq1 hq2 (argsL:=as'.map (ren (adr k sa n0))) (rest:=rest.map (ren (adr k sa n0)))
              (fun sg hsg => by rw [d3] at hsg; cases hsg; simp [hna,d4]) (by simp [ren]) (hWW rest hW) (hb hby hd) (fun _ _ => ⟨rfl,rfl,by show cells + (H1.length - H.length)≤_; omega,by show slots + (tot ws H1 - tot ws H)≤_; omega⟩)
            exact hback v' vm₁ B X1 P1 fun target ht => st1.trans ht
          · obtain ⟨cq,kq,qa,qb,qc⟩:=isOf hZ rfl E
            obtain ⟨v',vm₁,B,-,X1,P1,st1⟩:=X.virtualBack hx (y:=y') (z:=y') hown (mvT hZ (hw _ w1)) (mvT hZ (hw _ wd)) (notFace_of_selects (args:=#[]) (mvT hZ (hw _ wsel))) (mvT hZ (hw _ wsel)) (mvT hZ (hw _ wi)) w5 hB qa qc (g:=fr (adr k sa n0) m pc ls (as'.reverse ++ .ref a::rest)) rfl hsz (Steps.refl _) (argsL:=as'.map (ren (adr k sa n0))) (rest:=rest.map (ren (adr k sa n0)))
              (fun sg hsg => by rw [d3] at hsg; cases hsg; simp [hna,d4]) (by simp [ren]) (hWW rest hW) (hb hby hd) (fun _ _ => ⟨rfl,rfl,by show cells + (H1.length - H.length)≤_; omega,by show slots + (tot ws H1 - tot ws H)≤_; omega⟩)
            exact hback v' vm₁ B X1 P1 fun target ht => st1.trans ht
      · cases h
end Snd
end Jvm.Own
namespace Jvm.Own
open Sem ClassFile Op Lib Jvm.Stand Jvm.Free Jvm.LawKit Jvm.RoadKit
/-! OWN 6: from here on no machine is in sight -/
theorem run_succ {ws : Ws} {dn : Dn} {k : Nat} : ∀ {n : Nat} {y : MethodName} {bytes : ByteArray} {ret : Option FieldType} {pc : Nat} {ls : List Slot} {st : List Value} {H : AHeap} {r : Option Value × AHeap},run ws dn k n y bytes ret pc ls st H = some r→run ws dn k (n + 1) y bytes ret pc ls st H = some r
  | 0,_,_,_,_,_,_,_,_,h => by cases h
  | n + 1,y,bytes,ret,pc,ls,st,H,r,h => by
    rw [run] at h
    rw [run]
    split at h
    · cases h
    · exact h
    · exact run_succ h
    · split at h
      · rename_i v H1 g
        rw [run_succ g]
        exact run_succ h
      · cases h
theorem run_mono {ws : Ws} {dn : Dn} {k n n' : Nat} {y : MethodName} {bytes : ByteArray} {ret : Option FieldType} {pc : Nat} {ls : List Slot} {st : List Value} {H : AHeap} {r : Option Value × AHeap} (hn : n≤n') (h : run ws dn k n y bytes ret pc ls st H = some r) : run ws dn k n' y bytes ret pc ls st H = some r:=by
  induction hn with
  | refl => exact h
  | step _ ih => exact run_succ ih
/-- from here on a run comes to a return at which Q holds -/
def W (ws : Ws) (dn : Dn) (k : Nat) (y : MethodName) (bytes : ByteArray) (ret : Option FieldType) (pc : Nat) (ls : List Slot) (st : List Value) (H : AHeap) (Q : Option Value→AHeap→Prop) : Prop :=
  ∃ n v H',run ws dn k n y bytes ret pc ls st H = some (v,H')∧Q v H'
section
variable {ws : Ws} {dn : Dn} {k : Nat} {y : MethodName} {bytes : ByteArray} {ret : Option FieldType} {pc : Nat} {ls : List Slot} {st : List Value} {H : AHeap} {Q : Option Value→AHeap→Prop}
theorem W_step {pc' : Nat} {ls' : List Slot} {st' : List Value} {H' : AHeap} (h : act ws dn k y bytes ret pc ls st H = some (.inr (.inl (pc',ls',st',H')))) : W ws dn k y bytes ret pc ls st H Q = W ws dn k y bytes ret pc' ls' st' H' Q:=by
  refine propext ⟨fun ⟨n,v,H1,h1,h2⟩ => ?_,fun ⟨n,v,H1,h1,h2⟩ => ⟨n + 1,v,H1,by rw [run,h]; exact h1,h2⟩⟩
  cases n with
  | zero => cases h1
  | succ n => rw [run,h] at h1; exact ⟨n,v,H1,h1,h2⟩
theorem W_ret {v : Option Value} (h : act ws dn k y bytes ret pc ls st H = some (.inl v)) : W ws dn k y bytes ret pc ls st H Q = Q v H:=by
  refine propext ⟨fun ⟨n,v,H1,h1,h2⟩ => ?_,fun h2 => ⟨1,v,H,by rw [run,h],h2⟩⟩
  cases n with
  | zero => cases h1
  | succ n => rw [run,h] at h1; cases h1; exact h2
theorem W_call {y' : MethodName} {b : ByteArray} {r : Option FieldType} {en : List Slot} {rest : List Value} (h : act ws dn k y bytes ret pc ls st H = some (.inr (.inr (y',b,r,en,rest)))) :
    W ws dn k y bytes ret pc ls st H Q = W ws dn k y' b r 0 en [] H (fun v H1 => W ws dn k y bytes ret (pc + 3) ls (v.toList ++ rest) H1 Q):=by
  refine propext ⟨fun ⟨n,v,H1,h1,h2⟩ => ?_,fun ⟨n,v,H1,h1,n',v',H',h2,h3⟩ => ⟨max n n' + 1,v',H',?_,h3⟩⟩
  · cases n with
    | zero => cases h1
    | succ n =>
      rw [run,h] at h1
      dsimp only at h1
      split at h1
      · rename_i v' H' g; exact ⟨n,v',H',g,n,v,H1,h1,h2⟩
      · cases h1
  · rw [run,h]
    dsimp only
    rw [run_mono (Nat.le_max_left _ _) h1]
    exact run_mono (Nat.le_max_right _ _) h2
theorem W.mono {Q' : Option Value→AHeap→Prop} (h : W ws dn k y bytes ret pc ls st H Q) (hq : ∀ v H',Q v H'→Q' v H') : W ws dn k y bytes ret pc ls st H Q':=by
  obtain ⟨n,v,H',h1,h2⟩:=h; exact ⟨n,v,H',h1,hq _ _ h2⟩
theorem act_x {ins : Instr} {len pc' : Nat} {ls' : List Slot} {st' : List Value} (hd : decode bytes pc = .ok (ins,len)) (hx : xstep ins len pc ls st = some (pc',ls',st')) : act ws dn k y bytes ret pc ls st H = some (.inr (.inl (pc',ls',st',H))):=by
  unfold act; rw [hd]; dsimp only; rw [hx]
theorem act_h {ins : Instr} {len pc' : Nat} {st' : List Value} {H' : AHeap} (hd : decode bytes pc = .ok (ins,len)) (hx : xstep ins len pc ls st = none) (hh : hstep ws k y ins len pc st H = some (pc',st',H')) : act ws dn k y bytes ret pc ls st H = some (.inr (.inl (pc',ls,st',H'))):=by
  unfold act; rw [hd]; dsimp only; rw [hx]; dsimp only; rw [hh]
theorem act_c {ins : Instr} {len : Nat} (hd : decode bytes pc = .ok (ins,len)) (hx : xstep ins len pc ls st = none) (hh : hstep ws k y ins len pc st H = none) : act ws dn k y bytes ret pc ls st H = cstep ws dn y ret ins len pc ls st H:=by
  unfold act; rw [hd]; dsimp only; rw [hx]; dsimp only; rw [hh]
/-- a plain step -/
theorem w_x {ins : Instr} {len pc' : Nat} {ls' : List Slot} {st' : List Value} (hd : decode bytes pc = .ok (ins,len)) (hx : xstep ins len pc ls st = some (pc',ls',st')) : W ws dn k y bytes ret pc ls st H Q = W ws dn k y bytes ret pc' ls' st' H Q:=W_step (act_x hd hx)
/-- a conditional branch -/
theorem w_if {cd : ClassFile.Cond} {o : Int} {x : Int32} {t : Nat} {P : Prop} [Decidable P] (hd : decode bytes pc = .ok (.ifCond cd o,3)) (hp : ifCond.holds cd x = decide P) (hj : jmp pc o = some t) :
    W ws dn k y bytes ret pc ls (.int x::st) H Q = if P then W ws dn k y bytes ret t ls st H Q else W ws dn k y bytes ret (pc + 3) ls st H Q:=by
  split
  · exact w_x hd (by simp only [xstep,chk,br,hp,hj,if_true]; simp [*])
  · exact w_x hd (by simp only [xstep,chk,br,hp,hj,if_true]; simp [*])
theorem w_icmp {cd : ClassFile.Cond} {o : Int} {x1 x2 : Int32} {t : Nat} {P : Prop} [Decidable P] (hd : decode bytes pc = .ok (.if_icmp cd o,3)) (hp : if_icmp.holds cd x1 x2 = decide P) (hj : jmp pc o = some t) :
    W ws dn k y bytes ret pc ls (.int x2::.int x1::st) H Q = if P then W ws dn k y bytes ret t ls st H Q else W ws dn k y bytes ret (pc + 3) ls st H Q:=by
  split
  · exact w_x hd (by simp only [xstep,chk,br,hp,hj,if_true]; simp [*])
  · exact w_x hd (by simp only [xstep,chk,br,hp,hj,if_true]; simp [*])
theorem w_get {i j : Nat} {a : Nat} {C : String} {vs : List Value} {v : Value} (hd : decode bytes pc = .ok (.getfield i,3)) (hr : gfR ws y.cls i = some (C,j)) (ho : H[a]? = some (.object C,vs)) (hv : vs[j]? = some v) :
    W ws dn k y bytes ret pc ls (.ref a::st) H Q = W ws dn k y bytes ret (pc + 3) ls (v::st) H Q :=
  W_step (act_h hd rfl (by simp only [hstep,chk,hGet,hr,ho,hv,if_true,Option.map_some]))
theorem w_put {i j : Nat} {a : Nat} {C : String} {ty : FieldType} {vs : List Value} {v v' : Value} {H' : AHeap} (hd : decode bytes pc = .ok (.putfield i,3)) (hr : pfR ws y.cls y.name i = some (C,j,ty)) (ho : H[a]? = some (.object C,vs)) (hk : k≤a) (hj : j < vs.length) (hv : putv ty v = some v') (hH : H.set a (.object C,vs.set j v') = H') :
    W ws dn k y bytes ret pc ls (v::.ref a::st) H Q = W ws dn k y bytes ret (pc + 3) ls st H' Q :=
  W_step (act_h hd rfl (by simp only [hstep,chk,hPut,hr,ho,hv,if_true,true_and,hk,hj,Option.map_some,hH,and_self]))
theorem w_new {i : Nat} {C : String} (hd : decode bytes pc = .ok (.new i,3)) (hr : hNew ws y.cls i pc H st = some (pc + 3,.ref H.length::st,H ++ [(.object C,(olay ws C).map dflt)])) :
    W ws dn k y bytes ret pc ls st H Q = W ws dn k y bytes ret (pc + 3) ls (.ref H.length::st) (H ++ [(.object C,(olay ws C).map dflt)]) Q :=
  W_step (act_h hd rfl (by simp only [hstep,chk,if_true]; exact hr))
theorem w_newA {aty : ArrayType} {n : Int32} {ty : FieldType} (hd : decode bytes pc = .ok (.newarray aty,2)) (ht : newarray.typeOf aty = ty) (hr : hasArr ws ty = true) (hn : ¬ n < 0) (hb : n.toNatClampNeg * 8≤536870912) :
    W ws dn k y bytes ret pc ls (.int n::st) H Q = W ws dn k y bytes ret (pc + 2) ls (.ref H.length::st) (H ++ [(.array ty,List.replicate n.toNatClampNeg (defaultValue ty))]) Q:=by
  subst ht
  exact W_step (act_h hd rfl (by simp only [hstep,chk,hNewA,hr,hn,hb,if_true,not_false_eq_true,and_self]))
/-- may the instruction read an array of that kind? -/
def ldOk : Instr→FieldType→Bool
  | .iaload,.int | .caload,.char | .laload,.long | .baload,.byte | .baload,.boolean => true
  | _,_ => false
def stOk : Instr→FieldType→Bool
  | .iastore,.int | .castore,.char | .lastore,.long | .bastore,.byte | .bastore,.boolean => true
  | _,_ => false
theorem w_ald {ins : Instr} {a : Nat} {j : Int32} {ty : FieldType} {vs : List Value} {v : Value} (hd : decode bytes pc = .ok (ins,1)) (hi : ldOk ins ty = true) (ho : H[a]? = some (.array ty,vs)) (hj : ¬ j < 0) (hv : vs[j.toNatClampNeg]? = some v) :
    W ws dn k y bytes ret pc ls (.int j::.ref a::st) H Q = W ws dn k y bytes ret (pc + 1) ls (v::st) H Q:=by
  unfold ldOk at hi
  split at hi
  all_goals first
    | exact W_step (act_h hd rfl (by simp only [hstep,chk,hLd,okT,okB,ho,hv,hj,if_true,Option.map_some,decide_true,not_false_eq_true,and_self,Bool.or_true,Bool.true_or]))
    | cases hi
theorem w_ast {ins : Instr} {a : Nat} {j : Int32} {ty : FieldType} {vs : List Value} {v v' : Value} {H' : AHeap} (hd : decode bytes pc = .ok (ins,1)) (hi : stOk ins ty = true) (ho : H[a]? = some (.array ty,vs)) (hk : k≤a) (hj : ¬ j < 0) (hl : j.toNatClampNeg < vs.length) (hv : putv ty v = some v') (hH : H.set a (.array ty,vs.set j.toNatClampNeg v') = H') :
    W ws dn k y bytes ret pc ls (v::.int j::.ref a::st) H Q = W ws dn k y bytes ret (pc + 1) ls st H' Q:=by
  unfold stOk at hi
  split at hi
  all_goals first
    | exact W_step (act_h hd rfl (by simp only [hstep,chk,hSt,okT,okB,ho,hv,hj,hk,hl,hH,if_true,Option.map_some,decide_true,not_false_eq_true,and_self,Bool.or_true,Bool.true_or]))
    | cases hi
theorem w_len {a : Nat} {ty : FieldType} {vs : List Value} (hd : decode bytes pc = .ok (.arraylength,1)) (ho : H[a]? = some (.array ty,vs)) :
    W ws dn k y bytes ret pc ls (.ref a::st) H Q = W ws dn k y bytes ret (pc + 1) ls (.int vs.length.toInt32::st) H Q :=
  W_step (act_h hd rfl (by simp only [hstep,chk,hLen,ho,if_true]))
theorem w_ldc {i : Nat} {v : Int32} (hd : decode bytes pc = .ok (.ldc i,2)) (hr : rCon ws y.cls i = some v) : W ws dn k y bytes ret pc ls st H Q = W ws dn k y bytes ret (pc + 2) ls (.int v::st) H Q :=
  W_step (act_h hd rfl (by simp only [hstep,chk,hr,if_true,Option.map_some]))
theorem w_ldcw {i : Nat} {v : Int32} (hd : decode bytes pc = .ok (.ldc_w i,3)) (hr : rCon ws y.cls i = some v) : W ws dn k y bytes ret pc ls st H Q = W ws dn k y bytes ret (pc + 3) ls (.int v::st) H Q :=
  W_step (act_h hd rfl (by simp only [hstep,chk,hr,if_true,Option.map_some]))
theorem w_ldc2 {i : Nat} {v : Int64} (hd : decode bytes pc = .ok (.ldc2_w i,3)) (hr : rConL ws y.cls i = some v) : W ws dn k y bytes ret pc ls st H Q = W ws dn k y bytes ret (pc + 3) ls (.long v::st) H Q :=
  W_step (act_h hd rfl (by simp only [hstep,chk,hr,if_true,Option.map_some]))
theorem w_iret {z : Int32} (hd : decode bytes pc = .ok (.ireturn,1)) (hr : ret = some .int) : W ws dn k y bytes ret pc ls (.int z::st) H Q = Q (some (.int z)) H:=by
  subst hr; exact W_ret (by rw [act_c hd rfl rfl]; rfl)
theorem w_iretN {z : Int32} {t : FieldType} (hd : decode bytes pc = .ok (.ireturn,1)) (hr : ret = some t) (ht : t = .int ∨ t = .boolean ∨ t = .byte ∨ t = .char ∨ t = .short) : W ws dn k y bytes ret pc ls (.int z::st) H Q = Q (some (.int (nar t z))) H:=by
  subst hr; exact W_ret (by rw [act_c hd rfl rfl]; simp only [cstep,chk,if_true,ht])
theorem w_lret {z : Int64} (hd : decode bytes pc = .ok (.lreturn,1)) (hr : ret = some .long) : W ws dn k y bytes ret pc ls [.long z] H Q = Q (some (.long z)) H:=by
  subst hr; exact W_ret (by rw [act_c hd rfl rfl]; rfl)
theorem w_vret (hd : decode bytes pc = .ok (.return_,1)) (hr : ret = none) : W ws dn k y bytes ret pc ls [] H Q = Q none H:=by
  subst hr; exact W_ret (by rw [act_c hd rfl rfl]; rfl)
theorem w_obj {i sl : Nat} {a : Nat} (hd : decode bytes pc = .ok (.invokespecial i,3)) (hr : oR ws dn y i = some sl) (hw : wsum st≤sl) : W ws dn k y bytes ret pc ls (.ref a::st) H Q = W ws dn k y bytes ret (pc + 3) ls st H Q :=
  W_step (by rw [act_c hd rfl rfl]; simp only [cstep,chk,if_true,hr,hw])
theorem w_stat {i mx na sl : Nat} {y' : MethodName} {b : ByteArray} {r : Option FieldType} {as rest : List Value} {en : List Slot} (hd : decode bytes pc = .ok (.invokestatic i,3)) (hr : sR ws dn y i = some (y',b,mx,r,na,sl)) (hn : as.length = na) (hw : wsum rest≤sl) (he : (ent as.reverse).length≤mx) (hen : entry as.reverse mx = en) :
    W ws dn k y bytes ret pc ls (as ++ rest) H Q = W ws dn k y' b r 0 en [] H (fun v H1 => W ws dn k y bytes ret (pc + 3) ls (v.toList ++ rest) H1 Q):=by
  subst hn hen
  have e1 : (as ++ rest).take as.length = as:=by simp
  have e2 : (as ++ rest).drop as.length = rest:=by simp
  exact W_call (by rw [act_c hd rfl rfl]; simp only [cstep,chk,if_true,hr,e1,e2,hw,he,List.length_append,Nat.le_add_right,and_self])
theorem w_spec {i mx na sl a : Nat} {y' : MethodName} {b : ByteArray} {r : Option FieldType} {as rest : List Value} {en : List Slot} (hd : decode bytes pc = .ok (.invokespecial i,3)) (h0 : oR ws dn y i = none) (hr : nR ws dn y i = some (y',b,mx,r,na,sl)) (hn : as.length = na) (hw : wsum rest≤sl) (he : (ent (.ref a::as.reverse)).length≤mx) (hen : entry (.ref a::as.reverse) mx = en) :
    W ws dn k y bytes ret pc ls (as ++ .ref a::rest) H Q = W ws dn k y' b r 0 en [] H (fun v H1 => W ws dn k y bytes ret (pc + 3) ls (v.toList ++ rest) H1 Q):=by
  subst hn hen
  have e1 : (as ++ .ref a::rest).take as.length = as:=by simp
  have e2 : (as ++ .ref a::rest).drop as.length = .ref a::rest:=by simp
  exact W_call (by rw [act_c hd rfl rfl]; simp only [cstep,chk,if_true,h0,hr,e1,e2,hw,he,List.length_append,Nat.le_add_right,and_self])
theorem w_virt {i mx na sl a : Nat} {pv : Bool} {y' : MethodName} {b : ByteArray} {r : Option FieldType} {as rest : List Value} {en : List Slot} {C : String} {vs : List Value} (hd : decode bytes pc = .ok (.invokevirtual i,3)) (hr : vR ws dn y i = some (pv,y',b,mx,r,na,sl)) (ho : H[a]? = some (.object C,vs)) (hC : C = y'.cls) (hn : as.length = na) (hw : wsum rest≤sl) (he : (ent (.ref a::as.reverse)).length≤mx) (hen : entry (.ref a::as.reverse) mx = en) :
    W ws dn k y bytes ret pc ls (as ++ .ref a::rest) H Q = W ws dn k y' b r 0 en [] H (fun v H1 => W ws dn k y bytes ret (pc + 3) ls (v.toList ++ rest) H1 Q):=by
  subst hn hen hC
  have e1 : (as ++ .ref a::rest).take as.length = as:=by simp
  have e2 : (as ++ .ref a::rest).drop as.length = .ref a::rest:=by simp
  exact W_call (by rw [act_c hd rfl rfl]; simp only [cstep,chk,if_true,hr,e1,e2,ho,hw,he,List.length_append,Nat.le_add_right,and_self,or_true])
end
theorem law_of {Z : State} {a0 : Array Value} {ws : Ws} {dn : Dn} {k sa n0 : Nat} (hw : ∀ d ∈ ws,d.before a0 Z = true) (l : Launch) {y : MethodName} {b : ByteArray} {mx f lc rc rs : Nat} {r : Option FieldType} (wsx : List Jvm.Cond) (hp : Jvm.plainName y.cls = true) {as : List Value} (he : (ent as).length≤mx) {H : AHeap}
    (hW : W ws dn k y b r 0 (entry as mx) [] H (fun v H1 => v = some (.int 1)∧H1.length - H.length≤rc∧tot ws H1 - tot ws H≤rs)) (hdn : ∀ f' l',dnOf dn y = some (f',l')→f'≤f∧l'≤lc) {h : Heap} (S : Sim Z ws k sa n0 H h) :
    MetFree l y (head1 (Jvm.Cond.code y b mx r::wsx) ({ frames:=f,cells:=rc,slots:=rs,locals:=lc } : Room)) (fun a U => a = (as.map (ren (adr k sa n0))).toArray∧Z.Warmed39 U.vm∧U.heap = h) (fun _ _ _ _ _ => True)
      (fun _ U o U' => ∃ w L,o = .returned w∧(w = some (.int 1)∧Fr n0 L)∧FrameEnd U o U' L rc rs):=by
  obtain ⟨n,v,H1,h1,rfl,h3,h4⟩:=hW
  have M:=met_of (snd hw n) l wsx hp he h1 hdn S h3 h4
  intro p e ha hc hk s m args below hf happ hP hK
  obtain ⟨n',o,g1,g2,g3,w,L,rfl,⟨rfl,-,N⟩,F⟩:=M p e ha hc hk s m args below hf happ hP hK
  exact ⟨n',_,g1,g2,g3,_,L,rfl,⟨rfl,N⟩,F.1,F.2.1,F.2.2.mono h3 h4⟩
/-- the start of a law whose arguments hold no reference -/
theorem Sim.empty (Z : State) (ws : Ws) (h : Heap) : Sim Z ws 0 0 h.size [] h :=
  ⟨by simp,Nat.le_refl _,Nat.zero_le _,(fun q => absurd q (by decide)),(fun i o q => by simp at q)⟩
/-- the start of a law over one array of ints -/
theorem Sim.script {Z : State} (ws : Ws) {h : Heap} {a : Addr} {c : Cell} {vs : List Int32} (A : Arr Z h a c .int) (e : c.slots = (vs.map Value.int).toArray) : Sim Z ws 1 a h.size [(.array .int,vs.map Value.int)] h:=by
  refine ⟨by simp,Nat.le_refl _,Nat.le_refl _,fun _ => A.lt,fun i o q => ?_⟩
  cases i with
  | zero =>
    cases q
    refine ⟨c,A,e.trans ?_⟩
    rw [List.map_map]; rfl
  | succ i => cases q
end Jvm.Own
namespace Jvm.Own
open Sem ClassFile Op Lib Jvm.Stand Jvm.Free Jvm.LawKit Jvm.RoadKit
/-! OWN 7: states of an object as plain functions -/
def ou {α : Type} (s : Nat→α) (i : Nat) (v : α) : Nat→α:=fun j => if j = i then v else s j
theorem ou_a {α : Type} (s : Nat→α) (i : Nat) (v : α) (j : Nat) : ou s i v j = if j = i then v else s j:=rfl
def pad (b : Nat) (pre : AHeap) : AHeap:=(pre ++ List.replicate b (FieldType.int,[])).take b
theorem pad_len (b : Nat) (pre : AHeap) : (pad b pre).length = b:=by simp [pad]
theorem pad_eq {b : Nat} {pre : AHeap} (h : pre.length = b) : pad b pre = pre:=by subst h; simp [pad]
theorem pad_0 (pre : AHeap) : pad 0 pre = []:=by simp [pad]
theorem tot_cons (ws : Ws) (o : FieldType × List Value) (r : AHeap) : tot ws (o::r) = cost ws o + tot ws r:=by simp [tot]
theorem tot_append (ws : Ws) (a r : AHeap) : tot ws (a ++ r) = tot ws a + tot ws r:=by simp [tot]
theorem tot_nil (ws : Ws) : tot ws [] = 0:=rfl
theorem pad_get (b : Nat) (pre r : AHeap) (i : Nat) : (pad b pre ++ r)[b + i]? = r[i]?:=by
  rw [List.getElem?_append_right (by rw [pad_len]; omega),pad_len]; congr 1; omega
theorem pad_get0 (b : Nat) (pre r : AHeap) : (pad b pre ++ r)[b]? = r[0]?:=pad_get b pre r 0
theorem pad_set (b : Nat) (pre r : AHeap) (i : Nat) (o : FieldType × List Value) : (pad b pre ++ r).set (b + i) o = pad b pre ++ r.set i o:=by
  rw [List.set_append_right _ _ (by rw [pad_len]; omega),pad_len]; congr 2; omega
theorem pad_set0 (b : Nat) (pre r : AHeap) (o : FieldType × List Value) : (pad b pre ++ r).set b o = pad b pre ++ r.set 0 o:=pad_set b pre r 0 o
theorem rCode_of {ws : Ws} {y : MethodName} {b : ByteArray} {m i : Nat} {r : Option FieldType} (h : ws[i]? = some (.code y b m r)) (h2 : (ws.take i).all (fun d => match d with | .code z _ _ _ => !decide (z = y) | _ => true) = true) : rCode ws y = some (b,m,r):=by
  have e : ws = ws.take i ++ (.code y b m r::ws.drop (i + 1)):=by
    obtain ⟨hi,hg⟩:=List.getElem?_eq_some_iff.mp h
    rw [← hg,← List.drop_eq_getElem_cons hi,List.take_append_drop]
  unfold rCode
  rw [e,List.findSome?_append]
  have e1 : (ws.take i).findSome? (fun d => match d with | .code z b m r => if z = y then some (b,m,r) else none | _ => none) = none:=by
    rw [List.findSome?_eq_none_iff]
    intro d hd
    have q:=List.all_eq_true.mp h2 d hd
    split
    · rename_i z b' m' r'
      simp at q
      simp [q]
    · rfl
  rw [e1]
  simp
theorem cR_of {ws : Ws} {dn : Dn} {y y' : MethodName} {b : ByteArray} {mx i f' l' f l na sl : Nat} {r : Option FieldType} {sig : MethodDescriptor} (h1 : rMth ws y.cls i = some y') (h2 : rCode ws y' = some (b,mx,r)) (h3 : dnOf dn y' = some (f',l')) (h4 : dnOf dn y = some (f,l)) (h5 : parseMethodDescriptor y'.desc = some sig)
    (h6 : decide (hasInit ws y'.cls = true∧Jvm.plainName y'.cls = true∧y'.cls ≠ "java/lang/invoke/MethodHandle" ∧ y'.cls ≠ "java/lang/invoke/VarHandle" ∧ f' + 1≤f∧mx + 11 + l'≤l) = true) (h7 : sig.parameters.length = na) (h8 : l - (mx + 11 + l') = sl) : cR ws dn y i = some (y',b,mx,r,na,sl):=by
  subst h7 h8
  unfold cR
  rw [h1]; dsimp only
  rw [h2,h3,h4,h5]; dsimp only
  rw [if_pos (of_decide_eq_true h6)]
theorem sR_of {ws : Ws} {dn : Dn} {y : MethodName} {i : Nat} {q : MethodName × ByteArray × Nat × Option FieldType × Nat × Nat} (h : cR ws dn y i = some q) (hs : hasStat ws q.1 = true) : sR ws dn y i = some q:=by
  unfold sR; rw [h]; dsimp only; rw [if_pos hs]
theorem nR_of {ws : Ws} {dn : Dn} {y : MethodName} {i : Nat} {q : MethodName × ByteArray × Nat × Option FieldType × Nat × Nat} (h : cR ws dn y i = some q) (h1 : q.1.name = "<init>") (h2 : hasIM ws q.1 = true) (h3 : q.2.2.2.1 = none) : nR ws dn y i = some q:=by
  unfold nR; rw [h]; dsimp only; rw [if_pos ⟨h1,h2,h3⟩]
theorem vR_of {ws : Ws} {dn : Dn} {y : MethodName} {i : Nat} {q : MethodName × ByteArray × Nat × Option FieldType × Nat × Nat} (h : cR ws dn y i = some q) (h1 : hasIM ws q.1 = true) (h2 : decide (hasPriv ws q.1 = true∧(rInst ws q.1.cls).isSome = true) = false) (h3 : decide (hasDecl ws q.1 = true∧hasSel ws q.1 = true) = true) : vR ws dn y i = some (false,q):=by
  unfold vR; rw [h]; dsimp only; rw [if_pos h1,if_neg (of_decide_eq_false h2),if_pos (of_decide_eq_true h3)]
theorem pR_of {ws : Ws} {dn : Dn} {y : MethodName} {i : Nat} {q : MethodName × ByteArray × Nat × Option FieldType × Nat × Nat} (h : cR ws dn y i = some q) (h1 : hasIM ws q.1 = true) (h2 : decide (hasPriv ws q.1 = true∧(rInst ws q.1.cls).isSome = true) = true) : vR ws dn y i = some (true,q):=by
  unfold vR; rw [h]; dsimp only; rw [if_pos h1,if_pos (of_decide_eq_true h2)]
def inB {α : Type} (j : Int32) (l : List α) : Prop:=¬ j < 0∧j.toNatClampNeg < l.length
def getA (l : List Int32) (j : Int32) : Int32:=l.getD j.toNatClampNeg 0
def getL (l : List Int64) (j : Int32) : Int64:=l.getD j.toNatClampNeg 0
def setA {α : Type} (l : List α) (j : Int32) (v : α) : List α:=l.set j.toNatClampNeg v
def c1 : Slot→Bool
  | .unset => true
  | .second => false
  | .val v => v.category == 1
theorem c1_u : c1 .unset = true:=rfl
theorem c1_i (x : Int32) : c1 (.val (.int x)) = true:=rfl
theorem c1_r (a : Nat) : c1 (.val (.ref a)) = true:=rfl
theorem c1_n : c1 (.val .null) = true:=rfl
theorem i_eq (x y : Int32) : if_icmp.holds .eq x y = decide (x = y):=by simp only [if_icmp.holds]; by_cases h : x = y <;> simp [h]
theorem i_ne (x y : Int32) : if_icmp.holds .ne x y = !decide (x = y):=by simp only [if_icmp.holds]; by_cases h : x = y <;> simp [h]
theorem i_lt (x y : Int32) : if_icmp.holds .lt x y = decide (x < y):=rfl
theorem i_gt (x y : Int32) : if_icmp.holds .gt x y = decide (y < x):=rfl
theorem i_ge (x y : Int32) : if_icmp.holds .ge x y = !decide (x < y):=by
  show decide (y≤x) = _
  have e1 : (y≤x) ↔ ¬ (x < y):=by rw [Int32.le_iff_toInt_le,Int32.lt_iff_toInt_lt]; omega
  by_cases h : x < y
  · have : ¬ y≤x:=fun g => e1.mp g h
    simp [h,this]
  · have:=e1.mpr h
    simp [h,this]
theorem i_le (x y : Int32) : if_icmp.holds .le x y = !decide (y < x):=i_ge y x
theorem z_eq (x : Int32) : ifCond.holds .eq x = decide (x = 0):=i_eq x 0
theorem z_ne (x : Int32) : ifCond.holds .ne x = !decide (x = 0):=i_ne x 0
theorem z_lt (x : Int32) : ifCond.holds .lt x = decide (x < 0):=rfl
theorem z_gt (x : Int32) : ifCond.holds .gt x = decide (0 < x):=rfl
theorem z_ge (x : Int32) : ifCond.holds .ge x = !decide (x < 0):=i_ge x 0
theorem z_le (x : Int32) : ifCond.holds .le x = !decide (0 < x):=i_le x 0
theorem nb0 : nar .boolean 0 = 0:=by decide
theorem nb1 : nar .boolean 1 = 1:=by decide
section
variable {ws : Ws} {dn : Dn} {k : Nat} {y : MethodName} {bytes : ByteArray} {ret : Option FieldType} {pc : Nat} {ls : List Slot} {st : List Value} {H : AHeap} {Q : Option Value→AHeap→Prop}
theorem W_stuck (h : act ws dn k y bytes ret pc ls st H = none) : W ws dn k y bytes ret pc ls st H Q = False:=by
  refine propext ⟨fun ⟨n,v,H1,h1,h2⟩ => ?_,False.elim⟩
  cases n with
  | zero => cases h1
  | succ n => rw [run,h] at h1; cases h1
theorem stl_c1 {i : Nat} {o : Slot} {v : Value} (ho : ls[i]? = some o) (hc : c1 o = true) (hv : v.category = 1) : stl ls i v = some (ls.set i (.val v)):=by
  have h:=XS.store1 (l:=ls.toArray) (i:=i) (v:=v) (o:=o) (by simpa using ho) (by
    cases o with
    | unset => exact Or.inl rfl
    | second => cases hc
    | val w => exact Or.inr ⟨w,rfl,by simpa [c1] using hc⟩) hv
  unfold stl
  rw [h]; simp
/-- a store of one word -/
theorem w_st {ins : Instr} {len i : Nat} {o : Slot} {v : Value} {p : Value→Bool} {nx : Nat} {ls' : List Slot} (hd : decode bytes pc = .ok (ins,len)) (hx : xstep ins len pc ls (v::st) = stV p nx i ls (v::st)) (hp : p v = true) (hv : v.category = 1) (ho : ls[i]? = some o) (hs : ls.set i (.val v) = ls') (hc : c1 o = true) :
    W ws dn k y bytes ret pc ls (v::st) H Q = W ws dn k y bytes ret nx ls' st H Q:=by
  subst hs
  exact w_x hd (by rw [hx]; simp only [stV,hp,if_true,stl_c1 ho hc hv,Option.map_some])
theorem w_iinc {i : Nat} {c : Int} {x z : Int32} {ls' : List Slot} (hd : decode bytes pc = .ok (.iinc i c,3)) (ho : ls[i]? = some (.val (.int x))) (hz : Int32.ofInt c = z) (hs : ls.set i (.val (.int (x + z))) = ls') :
    W ws dn k y bytes ret pc ls st H Q = W ws dn k y bytes ret (pc + 3) ls' st H Q:=by
  subst hs hz
  exact w_x hd (by simp only [xstep,chk,if_true,ho,stl_c1 (v:=.int (x + Int32.ofInt c)) ho rfl rfl,Option.map_some])
theorem w_con {ins : Instr} {len nx : Nat} {v v' : Value} (hd : decode bytes pc = .ok (ins,len)) (hx : xstep ins len pc ls st = some (nx,ls,v::st)) (hv : v = v') : W ws dn k y bytes ret pc ls st H Q = W ws dn k y bytes ret nx ls (v'::st) H Q:=by
  subst hv; exact w_x hd hx
theorem w_ifN {cd : ClassFile.Cond} {o : Int} {x : Int32} {t : Nat} {P : Prop} [Decidable P] (hd : decode bytes pc = .ok (.ifCond cd o,3)) (hp : ifCond.holds cd x = !decide P) (hj : jmp pc o = some t) :
    W ws dn k y bytes ret pc ls (.int x::st) H Q = if P then W ws dn k y bytes ret (pc + 3) ls st H Q else W ws dn k y bytes ret t ls st H Q:=by
  split
  · exact w_x hd (by simp only [xstep,chk,br,hp,hj,if_true]; simp [*])
  · exact w_x hd (by simp only [xstep,chk,br,hp,hj,if_true]; simp [*])
theorem w_icmpN {cd : ClassFile.Cond} {o : Int} {x1 x2 : Int32} {t : Nat} {P : Prop} [Decidable P] (hd : decode bytes pc = .ok (.if_icmp cd o,3)) (hp : if_icmp.holds cd x1 x2 = !decide P) (hj : jmp pc o = some t) :
    W ws dn k y bytes ret pc ls (.int x2::.int x1::st) H Q = if P then W ws dn k y bytes ret (pc + 3) ls st H Q else W ws dn k y bytes ret t ls st H Q:=by
  split
  · exact w_x hd (by simp only [xstep,chk,br,hp,hj,if_true]; simp [*])
  · exact w_x hd (by simp only [xstep,chk,br,hp,hj,if_true]; simp [*])
theorem ld_stuck {ins : Instr} {a : Nat} {j : Int32} {ty : FieldType} {vs : List Value} (hd : decode bytes pc = .ok (ins,1)) (hi : ldOk ins ty = true) (ho : H[a]? = some (.array ty,vs)) (hj : ¬ (¬ j < 0∧j.toNatClampNeg < vs.length)) : act ws dn k y bytes ret pc ls (.int j::.ref a::st) H = none:=by
  have hv : j < 0 ∨ vs[j.toNatClampNeg]? = none:=by
    by_cases q : j < 0
    · exact Or.inl q
    · exact Or.inr (List.getElem?_eq_none (Nat.le_of_not_lt fun g => hj ⟨q,g⟩))
  unfold ldOk at hi
  split at hi
  all_goals first
    | (rw [act_c hd rfl (by rcases hv with q | q <;> simp [hstep,chk,hLd,okT,okB,ho,q])]; rfl)
    | cases hi
theorem st_stuck {ins : Instr} {a : Nat} {j : Int32} {ty : FieldType} {vs : List Value} {v : Value} (hd : decode bytes pc = .ok (ins,1)) (hi : stOk ins ty = true) (ho : H[a]? = some (.array ty,vs)) (hj : ¬ (¬ j < 0∧j.toNatClampNeg < vs.length)) : act ws dn k y bytes ret pc ls (v::.int j::.ref a::st) H = none:=by
  have hv : ¬ (¬ j < 0∧j.toNatClampNeg < vs.length):=hj
  unfold stOk at hi
  split at hi
  all_goals first
    | (rw [act_c hd rfl (by simp only [hstep,chk,hSt,okT,okB,ho,if_true]; rw [if_neg (fun q => hv q.2.2)])]; rfl)
    | cases hi
theorem w_ild {ins : Instr} {a : Nat} {j : Int32} {ty : FieldType} {l : List Int32} (hd : decode bytes pc = .ok (ins,1)) (hi : ldOk ins ty = true) (ho : H[a]? = some (.array ty,l.map Value.int)) :
    W ws dn k y bytes ret pc ls (.int j::.ref a::st) H Q = (inB j l∧W ws dn k y bytes ret (pc + 1) ls (.int (getA l j)::st) H Q):=by
  by_cases h : inB j l
  · rw [w_ald hd hi ho h.1 (v:=.int (getA l j)) (by simp [getA,h.2])]
    simp [h]
  · rw [W_stuck (ld_stuck hd hi ho (by simpa [inB] using h))]
    simp [h]
theorem w_lld {a : Nat} {j : Int32} {l : List Int64} (hd : decode bytes pc = .ok (.laload,1)) (ho : H[a]? = some (.array .long,l.map Value.long)) :
    W ws dn k y bytes ret pc ls (.int j::.ref a::st) H Q = (inB j l∧W ws dn k y bytes ret (pc + 1) ls (.long (getL l j)::st) H Q):=by
  by_cases h : inB j l
  · rw [w_ald hd rfl ho h.1 (v:=.long (getL l j)) (by simp [getL,h.2])]
    simp [h]
  · rw [W_stuck (ld_stuck hd rfl ho (by simpa [inB] using h))]
    simp [h]
theorem w_ist {ins : Instr} {a : Nat} {j v v' : Int32} {ty : FieldType} {l : List Int32} {H' : AHeap} (hd : decode bytes pc = .ok (ins,1)) (hi : stOk ins ty = true) (ho : H[a]? = some (.array ty,l.map Value.int)) (hk : k≤a) (hv : putv ty (.int v) = some (.int v')) (hH : H.set a (.array ty,(setA l j v').map Value.int) = H') :
    W ws dn k y bytes ret pc ls (.int v::.int j::.ref a::st) H Q = (inB j l∧W ws dn k y bytes ret (pc + 1) ls st H' Q):=by
  by_cases h : inB j l
  · rw [w_ast (H':=H') hd hi ho hk h.1 (by simpa using h.2) hv (by rw [← hH,setA,List.map_set])]
    simp [h]
  · rw [W_stuck (st_stuck hd hi ho (by simpa [inB] using h))]
    simp [h]
theorem w_lst {a : Nat} {j : Int32} {v : Int64} {l : List Int64} {H' : AHeap} (hd : decode bytes pc = .ok (.lastore,1)) (ho : H[a]? = some (.array .long,l.map Value.long)) (hk : k≤a) (hH : H.set a (.array .long,(setA l j v).map Value.long) = H') :
    W ws dn k y bytes ret pc ls (.long v::.int j::.ref a::st) H Q = (inB j l∧W ws dn k y bytes ret (pc + 1) ls st H' Q):=by
  by_cases h : inB j l
  · rw [w_ast (H':=H') hd rfl ho hk h.1 (by simpa using h.2) rfl (by rw [← hH,setA,List.map_set])]
    simp [h]
  · rw [W_stuck (st_stuck hd rfl ho (by simpa [inB] using h))]
    simp [h]
theorem w_div {ins : Instr} {f : Int32→Int32→Int32} {x z : Int32} (hd : decode bytes pc = .ok (ins,1)) (hx : ∀ st,xstep ins 1 pc ls st = d2 f (pc + 1) ls st) (hh : hstep ws k y ins 1 pc (.int z::.int x::st) H = none) (hc : cstep ws dn y ret ins 1 pc ls (.int z::.int x::st) H = none) :
    W ws dn k y bytes ret pc ls (.int z::.int x::st) H Q = (z ≠ 0∧W ws dn k y bytes ret (pc + 1) ls (.int (f x z)::st) H Q):=by
  by_cases h : z = 0
  · rw [W_stuck (by rw [act_c hd (by rw [hx]; simp [d2,h]) hh,hc])]; simp [h]
  · rw [w_x (pc':=pc + 1) (ls':=ls) (st':=.int (f x z)::st) hd (by rw [hx]; simp only [d2,h,if_false])]; simp [h]
/-- a field's array made in a constructor -/
theorem w_iarr {i j p1 p2 p3 : Nat} {C : String} {vs : List Value} {r : AHeap} {n : Int32} {v : Value} {aty : ArrayType} {ty at' : FieldType} {l0 : Slot} {lr : List Slot} {ins : Instr} {len : Nat} {b : Nat} (hl : l0 = .val (.ref b)) (hH : H.length = b) (hk : k≤b)
    (d0 : decode bytes pc = .ok (.aload_n 0,1)) (e0 : pc + 1 = p1) (dn1 : decode bytes p1 = .ok (ins,len)) (hx : ∀ st,xstep ins len p1 (l0::lr) st = some (p2,l0::lr,v::st)) (hv : v = .int n) (d2' : decode bytes p2 = .ok (.newarray aty,2)) (ht : newarray.typeOf aty = ty) (hr : hasArr ws ty = true) (hn : ¬ n < 0) (hb : n.toNatClampNeg * 8≤536870912) (e3 : p2 + 2 = p3)
    (d3 : decode bytes p3 = .ok (.putfield i,3)) (hp : pfR ws y.cls y.name i = some (C,j,.array at')) (hj : j < vs.length) :
    W ws dn k y bytes ret pc (l0::lr) [] (H ++ (.object C,vs)::r) Q = W ws dn k y bytes ret (p3 + 3) (l0::lr) [] (H ++ (.object C,vs.set j (.ref (b + (r.length + 1))))::(r ++ [(.array ty,List.replicate n.toNatClampNeg (defaultValue ty))])) Q:=by
  subst hl e0 e3 hv hH
  rw [w_x d0 (ls':=.val (.ref H.length)::lr) (st':=[.ref H.length]) (pc':=pc + 1) rfl,w_x dn1 (hx _),w_newA d2' ht hr hn hb]
  have e1 : (H ++ (FieldType.object C,vs)::r).length = H.length + (r.length + 1):=by simp
  rw [e1,w_put d3 hp (vs:=vs) (H':=H ++ (.object C,vs.set j (.ref (H.length + (r.length + 1))))::(r ++ [(.array ty,List.replicate n.toNatClampNeg (defaultValue ty))])) (by simp) hk hj rfl (by simp)]
/-- a field's plain value put at a constructor's head -/
theorem w_iint {i j p1 p2 : Nat} {C : String} {vs : List Value} {r : AHeap} {v v0 v' : Value} {ty : FieldType} {l0 : Slot} {lr : List Slot} {ins : Instr} {len : Nat} {b : Nat} (hl : l0 = .val (.ref b)) (hH : H.length = b) (hk : k≤b)
    (d0 : decode bytes pc = .ok (.aload_n 0,1)) (e0 : pc + 1 = p1) (dn1 : decode bytes p1 = .ok (ins,len)) (hx : ∀ st,xstep ins len p1 (l0::lr) st = some (p2,l0::lr,v0::st)) (hv : v0 = v)
    (d3 : decode bytes p2 = .ok (.putfield i,3)) (hp : pfR ws y.cls y.name i = some (C,j,ty)) (hv' : putv ty v = some v') (hj : j < vs.length) :
    W ws dn k y bytes ret pc (l0::lr) [] (H ++ (.object C,vs)::r) Q = W ws dn k y bytes ret (p2 + 3) (l0::lr) [] (H ++ (.object C,vs.set j v')::r) Q:=by
  subst hl e0 hv hH
  rw [w_x d0 (ls':=.val (.ref H.length)::lr) (st':=[.ref H.length]) (pc':=pc + 1) rfl,w_x dn1 (hx _)]
  rw [w_put d3 hp (vs:=vs) (H':=H ++ (.object C,vs.set j v')::r) (by simp) hk hj hv' (by simp)]
end
end Jvm.Own
namespace Jvm.Own
open Sem ClassFile Op Lib Jvm.Stand Jvm.Free Jvm.LawKit Jvm.RoadKit
theorem getA_rep (n : Nat) (j : Int32) : getA (List.replicate n 0) j = 0:=by
  simp only [getA,List.getD_eq_getElem?_getD,List.getElem?_replicate]
  split <;> rfl
/-- the array's words as plain ints -/
theorem script_of {s : State} {a : Addr} {c : Cell} (hf : Fit s) (A : Arr s s.heap a c .int) (hl : c.slots.size < 2 ^ 31) : ∃ vs : List Int32,c.slots = (vs.map Value.int).toArray:=by
  have h : ∀ v ∈ c.slots.toList,∃ x : Int32,v = .int x:=fun v hv => by
    obtain ⟨i,hi,e⟩:=List.getElem_of_mem hv
    have hi' : i < c.slots.size:=by simpa using hi
    have e1 : (Nat.toInt32 i).toNatClampNeg = i:=by simp only [Int32.toNatClampNeg,len_toInt (Nat.lt_trans hi' hl)]; rfl
    obtain ⟨w,h1,h2⟩:=elem_fit hf A (idx_in hi' hl)
    rw [e1] at h1
    have : w = v:=by rw [Array.getElem?_eq_getElem hi'] at h1; rw [← e]; simpa using (Option.some.inj h1).symm
    subst this
    exact fit_I h2 (by simp)
  have g : ∀ l : List Value,(∀ v ∈ l,∃ x : Int32,v = .int x)→∃ vs : List Int32,l = vs.map Value.int:=fun l => by
    induction l with
    | nil => exact fun _ => ⟨[],rfl⟩
    | cons v r ih =>
      intro q
      obtain ⟨x,rfl⟩:=q _ (List.mem_cons_self ..)
      obtain ⟨vs,e⟩:=ih fun w hw => q w (List.mem_cons_of_mem _ hw)
      exact ⟨x::vs,by rw [e]; rfl⟩
  obtain ⟨vs,e⟩:=g _ h
  exact ⟨vs,by rw [← e]⟩
end Jvm.Own
namespace Jvm.Own
open Sem ClassFile Op Lib Jvm.Stand Jvm.Free Jvm.LawKit Jvm.RoadKit
/-! OWN 8: small facts on arrays and ints -/
theorem toNat_eq (j : Int32) : j.toNatClampNeg = j.toInt.toNat:=rfl
theorem lt_i {x y : Int32} : x < y ↔ x.toInt < y.toInt:=Int32.lt_iff_toInt_lt
theorem inB_iff {α : Type} {j : Int32} {l : List α} : inB j l ↔ 0≤j.toInt∧j.toInt < (l.length : Int):=by
  have e0 : (0 : Int32).toInt = 0:=rfl
  unfold inB
  rw [lt_i,toNat_eq,e0]
  omega
theorem inB_lt {α : Type} {j n : Int32} {l : List α} (hl : (l.length : Int) = n.toInt) (h0 : ¬ j < 0) (h1 : j < n) : inB j l:=by
  have e0 : (0 : Int32).toInt = 0:=rfl
  rw [inB_iff]
  rw [lt_i] at h0 h1
  rw [e0] at h0
  omega
theorem setA_len {α : Type} (l : List α) (j : Int32) (v : α) : (setA l j v).length = l.length:=List.length_set
theorem getA_set {l : List Int32} {i j v : Int32} (h : inB i l) : getA (setA l i v) j = if j.toNatClampNeg = i.toNatClampNeg then v else getA l j:=by
  simp only [getA,setA,List.getD_eq_getElem?_getD,List.getElem?_set]
  by_cases e : j.toNatClampNeg = i.toNatClampNeg
  · rw [e]; simp [h.2]
  · simp [e,Ne.symm e]
theorem getA_set2 (l : List Int32) (i j v : Int32) : getA (setA l i v) j = if j.toNatClampNeg = i.toNatClampNeg∧i.toNatClampNeg < l.length then v else getA l j:=by
  simp only [getA,setA,List.getD_eq_getElem?_getD,List.getElem?_set]
  by_cases e : j.toNatClampNeg = i.toNatClampNeg
  · rw [e]
    by_cases q : i.toNatClampNeg < l.length <;> simp [q]
  · simp [e,Ne.symm e]
theorem len_ou {B A : Nat→List Int32} {j : Nat} {l : List Int32} (h : ∀ i,(A i).length = (B i).length) (hl : l.length = (B j).length) : ∀ i,(ou A j l i).length = (B i).length:=fun i => by
  rw [ou_a]
  split
  · rename_i e; rw [e]; exact hl
  · exact h i
end Jvm.Own
namespace Jvm.Own
open Sem ClassFile Op Lib Jvm.Stand Jvm.Free Jvm.LawKit Jvm.RoadKit
/-! OWN 9: a normal form of states; masks and ranges -/
theorem ou_same {α : Type} (s : Nat→α) (i : Nat) (v w : α) : ou (ou s i v) i w = ou s i w:=by
  funext j
  simp only [ou_a]
  by_cases h : j = i <;> simp [h]
theorem ou_comm {α : Type} {s : Nat→α} {i j : Nat} {v w : α} (h : j < i) : ou (ou s i v) j w = ou (ou s j w) (i + 0) v:=by
  show ou (ou s i v) j w = ou (ou s j w) i v
  funext k
  simp only [ou_a]
  by_cases h1 : k = j
  · have h2 : ¬ k = i:=by omega
    simp [h1]
    intro h3; omega
  · simp [h1]
theorem setA_same {α : Type} (l : List α) (i : Int32) (v w : α) : setA (setA l i v) i w = setA l i w:=by
  simp only [setA,List.set_set]
theorem clamp_ne {i j : Int32} (h0 : ¬ j < 0) (h : j < i) : j.toNatClampNeg ≠ i.toNatClampNeg:=by
  have e0 : (0 : Int32).toInt = 0:=rfl
  rw [lt_i] at *
  rw [toNat_eq,toNat_eq]
  omega
theorem setA_comm {α : Type} {l : List α} {i j : Int32} {v w : α} (h0 : ¬ j < 0) (h : j < i) : setA (setA l i v) j w = setA (setA l j w) (i + 0) v:=by
  rw [Int32.add_zero]
  simp only [setA]
  exact List.set_comm _ _ (Ne.symm (clamp_ne h0 h))
theorem lt_irr (x : Int32) : (x < x) = False:=by
  apply propext
  rw [lt_i]
  constructor
  · intro h; omega
  · exact False.elim
theorem bit1 (x : Int32) : x &&& 1 = 0 ∨ x &&& 1 = 1:=by
  have h : (x &&& 1).toBitVec.toNat = x.toBitVec.toNat % 2:=by
    rw [Int32.toBitVec_and,BitVec.toNat_and]
    exact Nat.and_one_is_mod _
  rcases Nat.mod_two_eq_zero_or_one x.toBitVec.toNat with e | e
  · exact Or.inl (Int32.toBitVec_inj.mp (BitVec.eq_of_toNat_eq (by rw [h,e]; rfl)))
  · exact Or.inr (Int32.toBitVec_inj.mp (BitVec.eq_of_toNat_eq (by rw [h,e]; rfl)))
theorem and_bd (x m : Int32) (hm : m.toBitVec.toNat < 2147483648) : 0≤(x &&& m).toInt∧(x &&& m).toInt≤(m.toBitVec.toNat : Int):=by
  have h : (x &&& m).toBitVec.toNat≤m.toBitVec.toNat:=by
    rw [Int32.toBitVec_and,BitVec.toNat_and]
    exact Nat.and_le_right
  have e : (x &&& m).toInt = ((x &&& m).toBitVec.toNat : Int):=BitVec.toInt_eq_toNat_of_lt (by omega)
  rw [e]
  omega
theorem rng {x : Int32} {n : Nat} (h0 : 0≤x.toInt) (h1 : x.toInt < n) : ∃ k,k < n∧x = Int32.ofNat k:=by
  have e : (x.toInt.toNat : Int) = x.toInt:=Int.toNat_of_nonneg h0
  refine ⟨x.toInt.toNat,by omega,?_⟩
  have e2 : Int32.ofNat x.toInt.toNat = Int32.ofInt (x.toInt.toNat : Int):=rfl
  rw [e2,e,Int32.ofInt_toInt]
theorem getL_rep (n : Nat) (j : Int32) : getL (List.replicate n 0) j = 0:=by
  simp only [getL,List.getD_eq_getElem?_getD,List.getElem?_replicate]
  split <;> rfl
theorem getL_set2 (l : List Int64) (i j : Int32) (v : Int64) : getL (setA l i v) j = if j.toNatClampNeg = i.toNatClampNeg∧i.toNatClampNeg < l.length then v else getL l j:=by
  simp only [getL,setA,List.getD_eq_getElem?_getD,List.getElem?_set]
  by_cases e : j.toNatClampNeg = i.toNatClampNeg
  · rw [e]
    by_cases q : i.toNatClampNeg < l.length <;> simp [q]
  · simp [e,Ne.symm e]
theorem add_i {a b : Int32} (h : -2147483648≤a.toInt + b.toInt) (h' : a.toInt + b.toInt < 2147483648) : (a + b).toInt = a.toInt + b.toInt:=by
  rw [Int32.toInt_add]
  have e : ((2 ^ 32 : Nat) : Int) = 4294967296:=rfl
  exact Int.bmod_eq_of_le (by rw [e]; omega) (by rw [e]; omega)
theorem sub_i {a b : Int32} (h : -2147483648≤a.toInt - b.toInt) (h' : a.toInt - b.toInt < 2147483648) : (a - b).toInt = a.toInt - b.toInt:=by
  rw [Int32.toInt_sub]
  have e : ((2 ^ 32 : Nat) : Int) = 4294967296:=rfl
  exact Int.bmod_eq_of_le (by rw [e]; omega) (by rw [e]; omega)
theorem mul_i {a b : Int32} (h : -2147483648≤a.toInt * b.toInt) (h' : a.toInt * b.toInt < 2147483648) : (a * b).toInt = a.toInt * b.toInt:=by
  rw [Int32.toInt_mul]
  have e : ((2 ^ 32 : Nat) : Int) = 4294967296:=rfl
  exact Int.bmod_eq_of_le (by rw [e]; omega) (by rw [e]; omega)
theorem i_0 : (0 : Int32).toInt = 0:=rfl
theorem i_1 : (1 : Int32).toInt = 1:=rfl
theorem add1_i {a : Int32} (h : a.toInt < 2147483647) : (a + 1).toInt = a.toInt + 1:=by
  have:=Int32.le_toInt a
  exact add_i (by rw [i_1]; omega) (by rw [i_1]; omega)
theorem nn_i {a : Int32} : ¬ a < 0 ↔ 0≤a.toInt:=by rw [lt_i,i_0]; omega
theorem succ_nn {a : Int32} (h0 : ¬ a < 0) (h : a.toInt < 2147483647) : ¬ a + 1 < 0:=by
  rw [nn_i] at *
  rw [add1_i h]
  omega
theorem inB_set {α : Type} {l : List α} {i j : Int32} {v : α} : inB j (setA l i v) = inB j l:=by
  simp only [inB,setA_len]
theorem pad_1 (c : FieldType × List Value) : pad 1 [c] = [c]:=rfl
def okS (l : Slot) : Prop:=l = .unset ∨ ∃ z : Int32,l = .val (.int z)
theorem okS_u : okS .unset:=Or.inl rfl
theorem okS_i (z : Int32) : okS (.val (.int z)):=Or.inr ⟨z,rfl⟩
end Jvm.Own
namespace Jvm.Pilot.@@N@@
open Jvm Jvm.ClassFile Sem Op Lib Jvm.Free Jvm.Stand Jvm.LawKit Jvm.RoadKit Bundle Jvm.Own Jvm.Pilot.@@N@@.Jvm.D
/-- frames and words that each method asks -/
def dn : Dn:=[(⟨"StreamSigScanner", "<init>", "(I)V"⟩,1,12),(⟨"StreamSigScanner", "addSigByte", "(I)I"⟩,1,13),(⟨"StreamSigScanner", "isByte", "(I)Z"⟩,0,0),(⟨"StreamSigScanner", "endSig", "()I"⟩,0,0),(⟨"StreamSigScanner", "compile", "()I"⟩,2,32),(⟨"StreamSigScanner", "buildTrie", "()V"⟩,1,19),(⟨"StreamSigScanner", "clearAutomaton", "()V"⟩,0,0),(⟨"StreamSigScanner", "insertSig", "(I)V"⟩,0,0),(⟨"StreamSigScanner", "buildAutomaton", "()V"⟩,0,0),(⟨"StreamSigScanner", "stat", "(I)I"⟩,0,0),(⟨"StreamSigScanner", "openSegment", "(I)I"⟩,1,13),(⟨"StreamSigScanner", "isOffset", "(I)Z"⟩,0,0),(⟨"StreamSigScanner", "byteAt", "(I)I"⟩,1,13),(⟨"StreamSigScanner", "segByte", "(I)I"⟩,1,13),(⟨"StreamSigScanner", "closeSegment", "()I"⟩,3,47),(⟨"StreamSigScanner", "absorbByte", "(III)V"⟩,1,13),(⟨"StreamSigScanner", "advanceDelivered", "()V"⟩,2,32),(⟨"StreamSigScanner", "feed", "(II)V"⟩,1,14),(⟨"StreamSigScanner", "sigLength", "(I)I"⟩,1,13),(⟨"StreamSigScanner", "validSig", "(I)Z"⟩,0,0),(⟨"StreamSigScanner", "sigByte", "(II)I"⟩,1,13),(⟨"StreamSigScanner", "recordMatch", "(II)V"⟩,0,0),(⟨"StreamSigScanner", "matchSig", "(I)I"⟩,1,14),(⟨"StreamSigScanner", "validRecord", "(I)Z"⟩,0,0),(⟨"StreamSigScanner", "matchEnd", "(I)I"⟩,1,14),(⟨"StreamSigScannerOwnLaw", "cell", "([II)I"⟩,0,0),(⟨"StreamSigScannerOwnLaw", "segVal", "(IIZII)I"⟩,1,14),(⟨"StreamSigScannerOwnLaw", "tb", "(II)I"⟩,0,0),(⟨"StreamSigScannerOwnLaw", "hashOthers", "(LStreamSigScanner;II)J"⟩,2,28),(⟨"StreamSigScannerOwnLaw", "law", "([I)Z"⟩,4,61)]
/- scalars: 0=window 1=compiled 2=sigCount 3=endedBytes 4=pendLen 5=nodeCount 6=scanState 7=delivered 8=held 9=conflicts 10=duplicates 11=dropped 12=lastConflict 13=segOpen 14=segStart 15=segLen 16=matchTotal; arrays: 0=sigBytes@1 1=sigStart@2 2=sigLen@3 3=delta@4 4=fail@5 5=outMask@6 6=queue@7 7=present@8 8=stream@9 9=segBuf@10 10=matchSigs@11 11=matchEnds@12; longs: []; long arrays: [] -/
def objv (b : Nat) (s : Nat→Int32) : List Value:=[.ref (b + 1),.ref (b + 2),.ref (b + 3),.ref (b + 4),.ref (b + 5),.ref (b + 6),.ref (b + 7),.ref (b + 8),.ref (b + 9),.ref (b + 10),.ref (b + 11),.ref (b + 12),.int (s 0),.int (s 1),.int (s 2),.int (s 3),.int (s 4),.int (s 5),.int (s 6),.int (s 7),.int (s 8),.int (s 9),.int (s 10),.int (s 11),.int (s 12),.int (s 13),.int (s 14),.int (s 15),.int (s 16)]
def put (b : Nat) (pre : AHeap) (s : Nat→Int32) (A : Nat→List Int32) (post : AHeap) : AHeap:=pad b pre ++ ((.object "StreamSigScanner", objv b s)::(.array .int,(A 0).map Value.int)::(.array .int,(A 1).map Value.int)::(.array .int,(A 2).map Value.int)::(.array .int,(A 3).map Value.int)::(.array .int,(A 4).map Value.int)::(.array .int,(A 5).map Value.int)::(.array .int,(A 6).map Value.int)::(.array .boolean,(A 7).map Value.int)::(.array .int,(A 8).map Value.int)::(.array .int,(A 9).map Value.int)::(.array .int,(A 10).map Value.int)::(.array .int,(A 11).map Value.int)::post)
theorem put_o {b : Nat} {pre : AHeap} {s : Nat→Int32} {A : Nat→List Int32} {post : AHeap} : (put b pre s A post)[b]? = some (.object "StreamSigScanner", objv b s):=pad_get0 _ _ _
theorem put_a0 {b : Nat} {pre : AHeap} {s : Nat→Int32} {A : Nat→List Int32} {post : AHeap} : (put b pre s A post)[b + 1]? = some (.array .int,(A 0).map Value.int):=pad_get _ _ _ 1
theorem put_w0 {b : Nat} {pre : AHeap} {s : Nat→Int32} {A : Nat→List Int32} {post : AHeap} {l : List Int32} : (put b pre s A post).set (b + 1) (.array .int,l.map Value.int) = put b pre s (ou A 0 l) post:=pad_set _ _ _ 1 _
theorem put_a1 {b : Nat} {pre : AHeap} {s : Nat→Int32} {A : Nat→List Int32} {post : AHeap} : (put b pre s A post)[b + 2]? = some (.array .int,(A 1).map Value.int):=pad_get _ _ _ 2
theorem put_w1 {b : Nat} {pre : AHeap} {s : Nat→Int32} {A : Nat→List Int32} {post : AHeap} {l : List Int32} : (put b pre s A post).set (b + 2) (.array .int,l.map Value.int) = put b pre s (ou A 1 l) post:=pad_set _ _ _ 2 _
theorem put_a2 {b : Nat} {pre : AHeap} {s : Nat→Int32} {A : Nat→List Int32} {post : AHeap} : (put b pre s A post)[b + 3]? = some (.array .int,(A 2).map Value.int):=pad_get _ _ _ 3
theorem put_w2 {b : Nat} {pre : AHeap} {s : Nat→Int32} {A : Nat→List Int32} {post : AHeap} {l : List Int32} : (put b pre s A post).set (b + 3) (.array .int,l.map Value.int) = put b pre s (ou A 2 l) post:=pad_set _ _ _ 3 _
theorem put_a3 {b : Nat} {pre : AHeap} {s : Nat→Int32} {A : Nat→List Int32} {post : AHeap} : (put b pre s A post)[b + 4]? = some (.array .int,(A 3).map Value.int):=pad_get _ _ _ 4
theorem put_w3 {b : Nat} {pre : AHeap} {s : Nat→Int32} {A : Nat→List Int32} {post : AHeap} {l : List Int32} : (put b pre s A post).set (b + 4) (.array .int,l.map Value.int) = put b pre s (ou A 3 l) post:=pad_set _ _ _ 4 _
theorem put_a4 {b : Nat} {pre : AHeap} {s : Nat→Int32} {A : Nat→List Int32} {post : AHeap} : (put b pre s A post)[b + 5]? = some (.array .int,(A 4).map Value.int):=pad_get _ _ _ 5
theorem put_w4 {b : Nat} {pre : AHeap} {s : Nat→Int32} {A : Nat→List Int32} {post : AHeap} {l : List Int32} : (put b pre s A post).set (b + 5) (.array .int,l.map Value.int) = put b pre s (ou A 4 l) post:=pad_set _ _ _ 5 _
theorem put_a5 {b : Nat} {pre : AHeap} {s : Nat→Int32} {A : Nat→List Int32} {post : AHeap} : (put b pre s A post)[b + 6]? = some (.array .int,(A 5).map Value.int):=pad_get _ _ _ 6
theorem put_w5 {b : Nat} {pre : AHeap} {s : Nat→Int32} {A : Nat→List Int32} {post : AHeap} {l : List Int32} : (put b pre s A post).set (b + 6) (.array .int,l.map Value.int) = put b pre s (ou A 5 l) post:=pad_set _ _ _ 6 _
theorem put_a6 {b : Nat} {pre : AHeap} {s : Nat→Int32} {A : Nat→List Int32} {post : AHeap} : (put b pre s A post)[b + 7]? = some (.array .int,(A 6).map Value.int):=pad_get _ _ _ 7
theorem put_w6 {b : Nat} {pre : AHeap} {s : Nat→Int32} {A : Nat→List Int32} {post : AHeap} {l : List Int32} : (put b pre s A post).set (b + 7) (.array .int,l.map Value.int) = put b pre s (ou A 6 l) post:=pad_set _ _ _ 7 _
theorem put_a7 {b : Nat} {pre : AHeap} {s : Nat→Int32} {A : Nat→List Int32} {post : AHeap} : (put b pre s A post)[b + 8]? = some (.array .boolean,(A 7).map Value.int):=pad_get _ _ _ 8
theorem put_w7 {b : Nat} {pre : AHeap} {s : Nat→Int32} {A : Nat→List Int32} {post : AHeap} {l : List Int32} : (put b pre s A post).set (b + 8) (.array .boolean,l.map Value.int) = put b pre s (ou A 7 l) post:=pad_set _ _ _ 8 _
theorem put_a8 {b : Nat} {pre : AHeap} {s : Nat→Int32} {A : Nat→List Int32} {post : AHeap} : (put b pre s A post)[b + 9]? = some (.array .int,(A 8).map Value.int):=pad_get _ _ _ 9
theorem put_w8 {b : Nat} {pre : AHeap} {s : Nat→Int32} {A : Nat→List Int32} {post : AHeap} {l : List Int32} : (put b pre s A post).set (b + 9) (.array .int,l.map Value.int) = put b pre s (ou A 8 l) post:=pad_set _ _ _ 9 _
theorem put_a9 {b : Nat} {pre : AHeap} {s : Nat→Int32} {A : Nat→List Int32} {post : AHeap} : (put b pre s A post)[b + 10]? = some (.array .int,(A 9).map Value.int):=pad_get _ _ _ 10
theorem put_w9 {b : Nat} {pre : AHeap} {s : Nat→Int32} {A : Nat→List Int32} {post : AHeap} {l : List Int32} : (put b pre s A post).set (b + 10) (.array .int,l.map Value.int) = put b pre s (ou A 9 l) post:=pad_set _ _ _ 10 _
theorem put_a10 {b : Nat} {pre : AHeap} {s : Nat→Int32} {A : Nat→List Int32} {post : AHeap} : (put b pre s A post)[b + 11]? = some (.array .int,(A 10).map Value.int):=pad_get _ _ _ 11
theorem put_w10 {b : Nat} {pre : AHeap} {s : Nat→Int32} {A : Nat→List Int32} {post : AHeap} {l : List Int32} : (put b pre s A post).set (b + 11) (.array .int,l.map Value.int) = put b pre s (ou A 10 l) post:=pad_set _ _ _ 11 _
theorem put_a11 {b : Nat} {pre : AHeap} {s : Nat→Int32} {A : Nat→List Int32} {post : AHeap} : (put b pre s A post)[b + 12]? = some (.array .int,(A 11).map Value.int):=pad_get _ _ _ 12
theorem put_w11 {b : Nat} {pre : AHeap} {s : Nat→Int32} {A : Nat→List Int32} {post : AHeap} {l : List Int32} : (put b pre s A post).set (b + 12) (.array .int,l.map Value.int) = put b pre s (ou A 11 l) post:=pad_set _ _ _ 12 _
theorem put_s0 {b : Nat} {pre : AHeap} {s : Nat→Int32} {A : Nat→List Int32} {post : AHeap} {v : Int32} : (put b pre s A post).set b (.object "StreamSigScanner", (objv b s).set 12 (.int v)) = put b pre (ou s 0 v) A post:=pad_set0 _ _ _ _
theorem put_s1 {b : Nat} {pre : AHeap} {s : Nat→Int32} {A : Nat→List Int32} {post : AHeap} {v : Int32} : (put b pre s A post).set b (.object "StreamSigScanner", (objv b s).set 13 (.int v)) = put b pre (ou s 1 v) A post:=pad_set0 _ _ _ _
theorem put_s2 {b : Nat} {pre : AHeap} {s : Nat→Int32} {A : Nat→List Int32} {post : AHeap} {v : Int32} : (put b pre s A post).set b (.object "StreamSigScanner", (objv b s).set 14 (.int v)) = put b pre (ou s 2 v) A post:=pad_set0 _ _ _ _
theorem put_s3 {b : Nat} {pre : AHeap} {s : Nat→Int32} {A : Nat→List Int32} {post : AHeap} {v : Int32} : (put b pre s A post).set b (.object "StreamSigScanner", (objv b s).set 15 (.int v)) = put b pre (ou s 3 v) A post:=pad_set0 _ _ _ _
theorem put_s4 {b : Nat} {pre : AHeap} {s : Nat→Int32} {A : Nat→List Int32} {post : AHeap} {v : Int32} : (put b pre s A post).set b (.object "StreamSigScanner", (objv b s).set 16 (.int v)) = put b pre (ou s 4 v) A post:=pad_set0 _ _ _ _
theorem put_s5 {b : Nat} {pre : AHeap} {s : Nat→Int32} {A : Nat→List Int32} {post : AHeap} {v : Int32} : (put b pre s A post).set b (.object "StreamSigScanner", (objv b s).set 17 (.int v)) = put b pre (ou s 5 v) A post:=pad_set0 _ _ _ _
theorem put_s6 {b : Nat} {pre : AHeap} {s : Nat→Int32} {A : Nat→List Int32} {post : AHeap} {v : Int32} : (put b pre s A post).set b (.object "StreamSigScanner", (objv b s).set 18 (.int v)) = put b pre (ou s 6 v) A post:=pad_set0 _ _ _ _
theorem put_s7 {b : Nat} {pre : AHeap} {s : Nat→Int32} {A : Nat→List Int32} {post : AHeap} {v : Int32} : (put b pre s A post).set b (.object "StreamSigScanner", (objv b s).set 19 (.int v)) = put b pre (ou s 7 v) A post:=pad_set0 _ _ _ _
theorem put_s8 {b : Nat} {pre : AHeap} {s : Nat→Int32} {A : Nat→List Int32} {post : AHeap} {v : Int32} : (put b pre s A post).set b (.object "StreamSigScanner", (objv b s).set 20 (.int v)) = put b pre (ou s 8 v) A post:=pad_set0 _ _ _ _
theorem put_s9 {b : Nat} {pre : AHeap} {s : Nat→Int32} {A : Nat→List Int32} {post : AHeap} {v : Int32} : (put b pre s A post).set b (.object "StreamSigScanner", (objv b s).set 21 (.int v)) = put b pre (ou s 9 v) A post:=pad_set0 _ _ _ _
theorem put_s10 {b : Nat} {pre : AHeap} {s : Nat→Int32} {A : Nat→List Int32} {post : AHeap} {v : Int32} : (put b pre s A post).set b (.object "StreamSigScanner", (objv b s).set 22 (.int v)) = put b pre (ou s 10 v) A post:=pad_set0 _ _ _ _
theorem put_s11 {b : Nat} {pre : AHeap} {s : Nat→Int32} {A : Nat→List Int32} {post : AHeap} {v : Int32} : (put b pre s A post).set b (.object "StreamSigScanner", (objv b s).set 23 (.int v)) = put b pre (ou s 11 v) A post:=pad_set0 _ _ _ _
theorem put_s12 {b : Nat} {pre : AHeap} {s : Nat→Int32} {A : Nat→List Int32} {post : AHeap} {v : Int32} : (put b pre s A post).set b (.object "StreamSigScanner", (objv b s).set 24 (.int v)) = put b pre (ou s 12 v) A post:=pad_set0 _ _ _ _
theorem put_s13 {b : Nat} {pre : AHeap} {s : Nat→Int32} {A : Nat→List Int32} {post : AHeap} {v : Int32} : (put b pre s A post).set b (.object "StreamSigScanner", (objv b s).set 25 (.int v)) = put b pre (ou s 13 v) A post:=pad_set0 _ _ _ _
theorem put_s14 {b : Nat} {pre : AHeap} {s : Nat→Int32} {A : Nat→List Int32} {post : AHeap} {v : Int32} : (put b pre s A post).set b (.object "StreamSigScanner", (objv b s).set 26 (.int v)) = put b pre (ou s 14 v) A post:=pad_set0 _ _ _ _
theorem put_s15 {b : Nat} {pre : AHeap} {s : Nat→Int32} {A : Nat→List Int32} {post : AHeap} {v : Int32} : (put b pre s A post).set b (.object "StreamSigScanner", (objv b s).set 27 (.int v)) = put b pre (ou s 15 v) A post:=pad_set0 _ _ _ _
theorem put_s16 {b : Nat} {pre : AHeap} {s : Nat→Int32} {A : Nat→List Int32} {post : AHeap} {v : Int32} : (put b pre s A post).set b (.object "StreamSigScanner", (objv b s).set 28 (.int v)) = put b pre (ou s 16 v) A post:=pad_set0 _ _ _ _
theorem put_len {b : Nat} {pre : AHeap} {s : Nat→Int32} {A : Nat→List Int32} {post : AHeap} : (put b pre s A post).length = b + 13 + post.length:=by rw [put,List.length_append,pad_len]; simp only [List.length_cons]; omega
theorem inst0 : rInst tables_1 "StreamSigScanner" = some 29:=by decide +kernel
theorem put_tot {b : Nat} {pre : AHeap} {s : Nat→Int32} {A : Nat→List Int32} {post : AHeap} : tot tables_1 (put b pre s A post) = tot tables_1 (pad b pre) + (29 + ((A 0).length + ((A 1).length + ((A 2).length + ((A 3).length + ((A 4).length + ((A 5).length + ((A 6).length + ((A 7).length + ((A 8).length + ((A 9).length + ((A 10).length + ((A 11).length + tot tables_1 post))))))))))))):=by rw [put,tot_append]; simp only [tot_cons,cost,List.length_map,inst0,Option.getD_some]
def D0 : List Value:=[.null,.null,.null,.null,.null,.null,.null,.null,.null,.null,.null,.null,.int 0,.int 0,.int 0,.int 0,.int 0,.int 0,.int 0,.int 0,.int 0,.int 0,.int 0,.int 0,.int 0,.int 0,.int 0,.int 0,.int 0]
theorem lay0 : (olay tables_1 "StreamSigScanner").map dflt = D0:=by decide +kernel
abbrev y0 : MethodName:=⟨"StreamSigScanner", "<init>", "(I)V"⟩
abbrev kb0 : ByteArray:=prog_1_method_1_code
def M0 (pc : Nat) (ls : List Slot) (st : List Value) (H : AHeap) (Q : Option Value→AHeap→Prop) : Prop:=W tables_1 dn 1 y0 prog_1_method_1_code none pc ls st H Q
abbrev y1 : MethodName:=⟨"StreamSigScanner", "addSigByte", "(I)I"⟩
abbrev kb1 : ByteArray:=prog_1_method_2_code
def M1 (pc : Nat) (ls : List Slot) (st : List Value) (H : AHeap) (Q : Option Value→AHeap→Prop) : Prop:=W tables_1 dn 1 y1 prog_1_method_2_code (some .int) pc ls st H Q
abbrev y2 : MethodName:=⟨"StreamSigScanner", "isByte", "(I)Z"⟩
abbrev kb2 : ByteArray:=prog_1_method_22_code
def M2 (pc : Nat) (ls : List Slot) (st : List Value) (H : AHeap) (Q : Option Value→AHeap→Prop) : Prop:=W tables_1 dn 1 y2 prog_1_method_22_code (some .boolean) pc ls st H Q
abbrev y3 : MethodName:=⟨"StreamSigScanner", "endSig", "()I"⟩
abbrev kb3 : ByteArray:=prog_1_method_3_code
def M3 (pc : Nat) (ls : List Slot) (st : List Value) (H : AHeap) (Q : Option Value→AHeap→Prop) : Prop:=W tables_1 dn 1 y3 prog_1_method_3_code (some .int) pc ls st H Q
abbrev y4 : MethodName:=⟨"StreamSigScanner", "compile", "()I"⟩
abbrev kb4 : ByteArray:=prog_1_method_4_code
def M4 (pc : Nat) (ls : List Slot) (st : List Value) (H : AHeap) (Q : Option Value→AHeap→Prop) : Prop:=W tables_1 dn 1 y4 prog_1_method_4_code (some .int) pc ls st H Q
abbrev y5 : MethodName:=⟨"StreamSigScanner", "buildTrie", "()V"⟩
abbrev kb5 : ByteArray:=prog_1_method_5_code
def M5 (pc : Nat) (ls : List Slot) (st : List Value) (H : AHeap) (Q : Option Value→AHeap→Prop) : Prop:=W tables_1 dn 1 y5 prog_1_method_5_code none pc ls st H Q
abbrev y6 : MethodName:=⟨"StreamSigScanner", "clearAutomaton", "()V"⟩
abbrev kb6 : ByteArray:=prog_1_method_6_code
def M6 (pc : Nat) (ls : List Slot) (st : List Value) (H : AHeap) (Q : Option Value→AHeap→Prop) : Prop:=W tables_1 dn 1 y6 prog_1_method_6_code none pc ls st H Q
abbrev y7 : MethodName:=⟨"StreamSigScanner", "insertSig", "(I)V"⟩
abbrev kb7 : ByteArray:=prog_1_method_7_code
def M7 (pc : Nat) (ls : List Slot) (st : List Value) (H : AHeap) (Q : Option Value→AHeap→Prop) : Prop:=W tables_1 dn 1 y7 prog_1_method_7_code none pc ls st H Q
abbrev y8 : MethodName:=⟨"StreamSigScanner", "buildAutomaton", "()V"⟩
abbrev kb8 : ByteArray:=prog_1_method_8_code
def M8 (pc : Nat) (ls : List Slot) (st : List Value) (H : AHeap) (Q : Option Value→AHeap→Prop) : Prop:=W tables_1 dn 1 y8 prog_1_method_8_code none pc ls st H Q
abbrev y9 : MethodName:=⟨"StreamSigScanner", "stat", "(I)I"⟩
abbrev kb9 : ByteArray:=prog_1_method_16_code
def M9 (pc : Nat) (ls : List Slot) (st : List Value) (H : AHeap) (Q : Option Value→AHeap→Prop) : Prop:=W tables_1 dn 1 y9 prog_1_method_16_code (some .int) pc ls st H Q
abbrev y10 : MethodName:=⟨"StreamSigScanner", "openSegment", "(I)I"⟩
abbrev kb10 : ByteArray:=prog_1_method_9_code
def M10 (pc : Nat) (ls : List Slot) (st : List Value) (H : AHeap) (Q : Option Value→AHeap→Prop) : Prop:=W tables_1 dn 1 y10 prog_1_method_9_code (some .int) pc ls st H Q
abbrev y11 : MethodName:=⟨"StreamSigScanner", "isOffset", "(I)Z"⟩
abbrev kb11 : ByteArray:=prog_1_method_23_code
def M11 (pc : Nat) (ls : List Slot) (st : List Value) (H : AHeap) (Q : Option Value→AHeap→Prop) : Prop:=W tables_1 dn 1 y11 prog_1_method_23_code (some .boolean) pc ls st H Q
abbrev y12 : MethodName:=⟨"StreamSigScanner", "byteAt", "(I)I"⟩
abbrev kb12 : ByteArray:=prog_1_method_17_code
def M12 (pc : Nat) (ls : List Slot) (st : List Value) (H : AHeap) (Q : Option Value→AHeap→Prop) : Prop:=W tables_1 dn 1 y12 prog_1_method_17_code (some .int) pc ls st H Q
abbrev y13 : MethodName:=⟨"StreamSigScanner", "segByte", "(I)I"⟩
abbrev kb13 : ByteArray:=prog_1_method_10_code
def M13 (pc : Nat) (ls : List Slot) (st : List Value) (H : AHeap) (Q : Option Value→AHeap→Prop) : Prop:=W tables_1 dn 1 y13 prog_1_method_10_code (some .int) pc ls st H Q
abbrev y14 : MethodName:=⟨"StreamSigScanner", "closeSegment", "()I"⟩
abbrev kb14 : ByteArray:=prog_1_method_11_code
def M14 (pc : Nat) (ls : List Slot) (st : List Value) (H : AHeap) (Q : Option Value→AHeap→Prop) : Prop:=W tables_1 dn 1 y14 prog_1_method_11_code (some .int) pc ls st H Q
abbrev y15 : MethodName:=⟨"StreamSigScanner", "absorbByte", "(III)V"⟩
abbrev kb15 : ByteArray:=prog_1_method_12_code
def M15 (pc : Nat) (ls : List Slot) (st : List Value) (H : AHeap) (Q : Option Value→AHeap→Prop) : Prop:=W tables_1 dn 1 y15 prog_1_method_12_code none pc ls st H Q
abbrev y16 : MethodName:=⟨"StreamSigScanner", "advanceDelivered", "()V"⟩
abbrev kb16 : ByteArray:=prog_1_method_13_code
def M16 (pc : Nat) (ls : List Slot) (st : List Value) (H : AHeap) (Q : Option Value→AHeap→Prop) : Prop:=W tables_1 dn 1 y16 prog_1_method_13_code none pc ls st H Q
abbrev y17 : MethodName:=⟨"StreamSigScanner", "feed", "(II)V"⟩
abbrev kb17 : ByteArray:=prog_1_method_14_code
def M17 (pc : Nat) (ls : List Slot) (st : List Value) (H : AHeap) (Q : Option Value→AHeap→Prop) : Prop:=W tables_1 dn 1 y17 prog_1_method_14_code none pc ls st H Q
abbrev y18 : MethodName:=⟨"StreamSigScanner", "sigLength", "(I)I"⟩
abbrev kb18 : ByteArray:=prog_1_method_18_code
def M18 (pc : Nat) (ls : List Slot) (st : List Value) (H : AHeap) (Q : Option Value→AHeap→Prop) : Prop:=W tables_1 dn 1 y18 prog_1_method_18_code (some .int) pc ls st H Q
abbrev y19 : MethodName:=⟨"StreamSigScanner", "validSig", "(I)Z"⟩
abbrev kb19 : ByteArray:=prog_1_method_24_code
def M19 (pc : Nat) (ls : List Slot) (st : List Value) (H : AHeap) (Q : Option Value→AHeap→Prop) : Prop:=W tables_1 dn 1 y19 prog_1_method_24_code (some .boolean) pc ls st H Q
abbrev y20 : MethodName:=⟨"StreamSigScanner", "sigByte", "(II)I"⟩
abbrev kb20 : ByteArray:=prog_1_method_19_code
def M20 (pc : Nat) (ls : List Slot) (st : List Value) (H : AHeap) (Q : Option Value→AHeap→Prop) : Prop:=W tables_1 dn 1 y20 prog_1_method_19_code (some .int) pc ls st H Q
abbrev y21 : MethodName:=⟨"StreamSigScanner", "recordMatch", "(II)V"⟩
abbrev kb21 : ByteArray:=prog_1_method_15_code
def M21 (pc : Nat) (ls : List Slot) (st : List Value) (H : AHeap) (Q : Option Value→AHeap→Prop) : Prop:=W tables_1 dn 1 y21 prog_1_method_15_code none pc ls st H Q
abbrev y22 : MethodName:=⟨"StreamSigScanner", "matchSig", "(I)I"⟩
abbrev kb22 : ByteArray:=prog_1_method_20_code
def M22 (pc : Nat) (ls : List Slot) (st : List Value) (H : AHeap) (Q : Option Value→AHeap→Prop) : Prop:=W tables_1 dn 1 y22 prog_1_method_20_code (some .int) pc ls st H Q
abbrev y23 : MethodName:=⟨"StreamSigScanner", "validRecord", "(I)Z"⟩
abbrev kb23 : ByteArray:=prog_1_method_25_code
def M23 (pc : Nat) (ls : List Slot) (st : List Value) (H : AHeap) (Q : Option Value→AHeap→Prop) : Prop:=W tables_1 dn 1 y23 prog_1_method_25_code (some .boolean) pc ls st H Q
abbrev y24 : MethodName:=⟨"StreamSigScanner", "matchEnd", "(I)I"⟩
abbrev kb24 : ByteArray:=prog_1_method_21_code
def M24 (pc : Nat) (ls : List Slot) (st : List Value) (H : AHeap) (Q : Option Value→AHeap→Prop) : Prop:=W tables_1 dn 1 y24 prog_1_method_21_code (some .int) pc ls st H Q
abbrev y25 : MethodName:=⟨"StreamSigScannerOwnLaw", "cell", "([II)I"⟩
abbrev kb25 : ByteArray:=method_2_code
def M25 (pc : Nat) (ls : List Slot) (st : List Value) (H : AHeap) (Q : Option Value→AHeap→Prop) : Prop:=W tables_1 dn 1 y25 method_2_code (some .int) pc ls st H Q
abbrev y26 : MethodName:=⟨"StreamSigScannerOwnLaw", "segVal", "(IIZII)I"⟩
abbrev kb26 : ByteArray:=method_5_code
def M26 (pc : Nat) (ls : List Slot) (st : List Value) (H : AHeap) (Q : Option Value→AHeap→Prop) : Prop:=W tables_1 dn 1 y26 method_5_code (some .int) pc ls st H Q
abbrev y27 : MethodName:=⟨"StreamSigScannerOwnLaw", "tb", "(II)I"⟩
abbrev kb27 : ByteArray:=method_3_code
def M27 (pc : Nat) (ls : List Slot) (st : List Value) (H : AHeap) (Q : Option Value→AHeap→Prop) : Prop:=W tables_1 dn 1 y27 method_3_code (some .int) pc ls st H Q
abbrev y28 : MethodName:=⟨"StreamSigScannerOwnLaw", "hashOthers", "(LStreamSigScanner;II)J"⟩
abbrev kb28 : ByteArray:=method_4_code
def M28 (pc : Nat) (ls : List Slot) (st : List Value) (H : AHeap) (Q : Option Value→AHeap→Prop) : Prop:=W tables_1 dn 1 y28 method_4_code (some .long) pc ls st H Q
abbrev y29 : MethodName:=⟨"StreamSigScannerOwnLaw", "law", "([I)Z"⟩
abbrev kb29 : ByteArray:=code
def M29 (pc : Nat) (ls : List Slot) (st : List Value) (H : AHeap) (Q : Option Value→AHeap→Prop) : Prop:=W tables_1 dn 1 y29 code (some .boolean) pc ls st H Q
theorem dn_0 : dnOf dn y0 = some (1,12):=by decide +kernel
theorem rc_0 : rCode tables_1 y0 = some (prog_1_method_1_code,3,none):=rCode_of (i:=10) rfl (by decide +kernel)
theorem dn_1 : dnOf dn y1 = some (1,13):=by decide +kernel
theorem rc_1 : rCode tables_1 y1 = some (prog_1_method_2_code,3,some .int):=rCode_of (i:=78) rfl (by decide +kernel)
theorem dn_2 : dnOf dn y2 = some (0,0):=by decide +kernel
theorem rc_2 : rCode tables_1 y2 = some (prog_1_method_22_code,2,some .boolean):=rCode_of (i:=82) rfl (by decide +kernel)
theorem dn_3 : dnOf dn y3 = some (0,0):=by decide +kernel
theorem rc_3 : rCode tables_1 y3 = some (prog_1_method_3_code,2,some .int):=rCode_of (i:=87) rfl (by decide +kernel)
theorem dn_4 : dnOf dn y4 = some (2,32):=by decide +kernel
theorem rc_4 : rCode tables_1 y4 = some (prog_1_method_4_code,1,some .int):=rCode_of (i:=92) rfl (by decide +kernel)
theorem dn_5 : dnOf dn y5 = some (1,19):=by decide +kernel
theorem rc_5 : rCode tables_1 y5 = some (prog_1_method_5_code,2,none):=rCode_of (i:=96) rfl (by decide +kernel)
theorem dn_6 : dnOf dn y6 = some (0,0):=by decide +kernel
theorem rc_6 : rCode tables_1 y6 = some (prog_1_method_6_code,2,none):=rCode_of (i:=100) rfl (by decide +kernel)
theorem dn_7 : dnOf dn y7 = some (0,0):=by decide +kernel
theorem rc_7 : rCode tables_1 y7 = some (prog_1_method_7_code,8,none):=rCode_of (i:=104) rfl (by decide +kernel)
theorem dn_8 : dnOf dn y8 = some (0,0):=by decide +kernel
theorem rc_8 : rCode tables_1 y8 = some (prog_1_method_8_code,9,none):=rCode_of (i:=108) rfl (by decide +kernel)
theorem dn_9 : dnOf dn y9 = some (0,0):=by decide +kernel
theorem rc_9 : rCode tables_1 y9 = some (prog_1_method_16_code,2,some .int):=rCode_of (i:=113) rfl (by decide +kernel)
theorem dn_10 : dnOf dn y10 = some (1,13):=by decide +kernel
theorem rc_10 : rCode tables_1 y10 = some (prog_1_method_9_code,2,some .int):=rCode_of (i:=118) rfl (by decide +kernel)
theorem dn_11 : dnOf dn y11 = some (0,0):=by decide +kernel
theorem rc_11 : rCode tables_1 y11 = some (prog_1_method_23_code,2,some .boolean):=rCode_of (i:=122) rfl (by decide +kernel)
theorem dn_12 : dnOf dn y12 = some (1,13):=by decide +kernel
theorem rc_12 : rCode tables_1 y12 = some (prog_1_method_17_code,2,some .int):=rCode_of (i:=127) rfl (by decide +kernel)
theorem dn_13 : dnOf dn y13 = some (1,13):=by decide +kernel
theorem rc_13 : rCode tables_1 y13 = some (prog_1_method_10_code,2,some .int):=rCode_of (i:=141) rfl (by decide +kernel)
theorem dn_14 : dnOf dn y14 = some (3,47):=by decide +kernel
theorem rc_14 : rCode tables_1 y14 = some (prog_1_method_11_code,3,some .int):=rCode_of (i:=151) rfl (by decide +kernel)
theorem dn_15 : dnOf dn y15 = some (1,13):=by decide +kernel
theorem rc_15 : rCode tables_1 y15 = some (prog_1_method_12_code,4,none):=rCode_of (i:=155) rfl (by decide +kernel)
theorem dn_16 : dnOf dn y16 = some (2,32):=by decide +kernel
theorem rc_16 : rCode tables_1 y16 = some (prog_1_method_13_code,4,none):=rCode_of (i:=159) rfl (by decide +kernel)
theorem dn_17 : dnOf dn y17 = some (1,14):=by decide +kernel
theorem rc_17 : rCode tables_1 y17 = some (prog_1_method_14_code,7,none):=rCode_of (i:=163) rfl (by decide +kernel)
theorem dn_18 : dnOf dn y18 = some (1,13):=by decide +kernel
theorem rc_18 : rCode tables_1 y18 = some (prog_1_method_18_code,2,some .int):=rCode_of (i:=168) rfl (by decide +kernel)
theorem dn_19 : dnOf dn y19 = some (0,0):=by decide +kernel
theorem rc_19 : rCode tables_1 y19 = some (prog_1_method_24_code,2,some .boolean):=rCode_of (i:=172) rfl (by decide +kernel)
theorem dn_20 : dnOf dn y20 = some (1,13):=by decide +kernel
theorem rc_20 : rCode tables_1 y20 = some (prog_1_method_19_code,4,some .int):=rCode_of (i:=177) rfl (by decide +kernel)
theorem dn_21 : dnOf dn y21 = some (0,0):=by decide +kernel
theorem rc_21 : rCode tables_1 y21 = some (prog_1_method_15_code,3,none):=rCode_of (i:=181) rfl (by decide +kernel)
theorem dn_22 : dnOf dn y22 = some (1,14):=by decide +kernel
theorem rc_22 : rCode tables_1 y22 = some (prog_1_method_20_code,2,some .int):=rCode_of (i:=186) rfl (by decide +kernel)
theorem dn_23 : dnOf dn y23 = some (0,0):=by decide +kernel
theorem rc_23 : rCode tables_1 y23 = some (prog_1_method_25_code,3,some .boolean):=rCode_of (i:=190) rfl (by decide +kernel)
theorem dn_24 : dnOf dn y24 = some (1,14):=by decide +kernel
theorem rc_24 : rCode tables_1 y24 = some (prog_1_method_21_code,2,some .int):=rCode_of (i:=195) rfl (by decide +kernel)
theorem dn_25 : dnOf dn y25 = some (0,0):=by decide +kernel
theorem rc_25 : rCode tables_1 y25 = some (method_2_code,2,some .int):=rCode_of (i:=3) rfl (by decide +kernel)
theorem dn_26 : dnOf dn y26 = some (1,14):=by decide +kernel
theorem rc_26 : rCode tables_1 y26 = some (method_5_code,5,some .int):=rCode_of (i:=131) rfl (by decide +kernel)
theorem dn_27 : dnOf dn y27 = some (0,0):=by decide +kernel
theorem rc_27 : rCode tables_1 y27 = some (method_3_code,3,some .int):=rCode_of (i:=134) rfl (by decide +kernel)
theorem dn_28 : dnOf dn y28 = some (2,28):=by decide +kernel
theorem rc_28 : rCode tables_1 y28 = some (method_4_code,6,some .long):=rCode_of (i:=144) rfl (by decide +kernel)
theorem dn_29 : dnOf dn y29 = some (4,61):=by decide +kernel
theorem gf_7 : gfR tables_1 "StreamSigScanner" 7 = some ("StreamSigScanner", 0):=by decide +kernel
theorem gf_13 : gfR tables_1 "StreamSigScanner" 13 = some ("StreamSigScanner", 1):=by decide +kernel
theorem gf_16 : gfR tables_1 "StreamSigScanner" 16 = some ("StreamSigScanner", 2):=by decide +kernel
theorem gf_19 : gfR tables_1 "StreamSigScanner" 19 = some ("StreamSigScanner", 3):=by decide +kernel
theorem gf_22 : gfR tables_1 "StreamSigScanner" 22 = some ("StreamSigScanner", 4):=by decide +kernel
theorem gf_25 : gfR tables_1 "StreamSigScanner" 25 = some ("StreamSigScanner", 5):=by decide +kernel
theorem gf_28 : gfR tables_1 "StreamSigScanner" 28 = some ("StreamSigScanner", 6):=by decide +kernel
theorem gf_31 : gfR tables_1 "StreamSigScanner" 31 = some ("StreamSigScanner", 7):=by decide +kernel
theorem gf_35 : gfR tables_1 "StreamSigScanner" 35 = some ("StreamSigScanner", 8):=by decide +kernel
theorem gf_38 : gfR tables_1 "StreamSigScanner" 38 = some ("StreamSigScanner", 9):=by decide +kernel
theorem gf_41 : gfR tables_1 "StreamSigScanner" 41 = some ("StreamSigScanner", 10):=by decide +kernel
theorem gf_44 : gfR tables_1 "StreamSigScanner" 44 = some ("StreamSigScanner", 11):=by decide +kernel
theorem gf_47 : gfR tables_1 "StreamSigScanner" 47 = some ("StreamSigScanner", 12):=by decide +kernel
theorem gf_51 : gfR tables_1 "StreamSigScanner" 51 = some ("StreamSigScanner", 13):=by decide +kernel
theorem gf_55 : gfR tables_1 "StreamSigScanner" 55 = some ("StreamSigScanner", 14):=by decide +kernel
theorem gf_58 : gfR tables_1 "StreamSigScanner" 58 = some ("StreamSigScanner", 15):=by decide +kernel
theorem gf_61 : gfR tables_1 "StreamSigScanner" 61 = some ("StreamSigScanner", 16):=by decide +kernel
theorem gf_64 : gfR tables_1 "StreamSigScanner" 64 = some ("StreamSigScanner", 17):=by decide +kernel
theorem gf_67 : gfR tables_1 "StreamSigScanner" 67 = some ("StreamSigScanner", 18):=by decide +kernel
theorem gf_70 : gfR tables_1 "StreamSigScanner" 70 = some ("StreamSigScanner", 19):=by decide +kernel
theorem gf_73 : gfR tables_1 "StreamSigScanner" 73 = some ("StreamSigScanner", 20):=by decide +kernel
theorem gf_76 : gfR tables_1 "StreamSigScanner" 76 = some ("StreamSigScanner", 21):=by decide +kernel
theorem gf_79 : gfR tables_1 "StreamSigScanner" 79 = some ("StreamSigScanner", 22):=by decide +kernel
theorem gf_82 : gfR tables_1 "StreamSigScanner" 82 = some ("StreamSigScanner", 23):=by decide +kernel
theorem gf_85 : gfR tables_1 "StreamSigScanner" 85 = some ("StreamSigScanner", 24):=by decide +kernel
theorem gf_88 : gfR tables_1 "StreamSigScanner" 88 = some ("StreamSigScanner", 25):=by decide +kernel
theorem gf_91 : gfR tables_1 "StreamSigScanner" 91 = some ("StreamSigScanner", 26):=by decide +kernel
theorem gf_94 : gfR tables_1 "StreamSigScanner" 94 = some ("StreamSigScanner", 27):=by decide +kernel
theorem gf_97 : gfR tables_1 "StreamSigScanner" 97 = some ("StreamSigScanner", 28):=by decide +kernel
section Rules
variable {b r q : Nat} {pre : AHeap} {s : Nat→Int32} {A : Nat→List Int32} {post : AHeap} {ls : List Slot} {st : List Value} {H R : AHeap} {Q : Option Value→AHeap→Prop} {x y v z j : Int32} {J1 J2 : Int64} {sc : List Int32} {l0 l1 l2 l3 l4 l5 l6 l7 l8 l9 l10 l11 l12 l13 l14 l15 l16 l17 l18 l19 l20 l21 l22 l23 : Slot}
theorem m0_0 : M0 0 [.val (.ref r),l1,l2] st H Q = M0 1 [.val (.ref r),l1,l2] (.ref r::st) H Q:=w_x (show decode kb0 0 = .ok (.aload_n 0,1) from by decide +kernel) rfl
theorem m0_1 : M0 1 ls [.ref r] H Q = M0 4 ls [] H Q:=w_obj (show decode kb0 1 = .ok (.invokespecial 1,3) from by decide +kernel) (sl:=0) (by decide +kernel) (by decide)
theorem m0_4 : M0 4 [.val (.ref r),l1,l2] st H Q = M0 5 [.val (.ref r),l1,l2] (.ref r::st) H Q:=w_x (show decode kb0 4 = .ok (.aload_n 0,1) from by decide +kernel) rfl
theorem m0_5 : M0 5 ls st H Q = M0 7 ls (.int 64::st) H Q:=w_con (show decode kb0 5 = .ok (.bipush 64,2) from by decide +kernel) rfl (by decide)
theorem m0_12 : M0 12 [.val (.ref r),l1,l2] st H Q = M0 13 [.val (.ref r),l1,l2] (.ref r::st) H Q:=w_x (show decode kb0 12 = .ok (.aload_n 0,1) from by decide +kernel) rfl
theorem m0_13 : M0 13 ls st H Q = M0 15 ls (.int 16::st) H Q:=w_con (show decode kb0 13 = .ok (.bipush 16,2) from by decide +kernel) rfl (by decide)
theorem m0_20 : M0 20 [.val (.ref r),l1,l2] st H Q = M0 21 [.val (.ref r),l1,l2] (.ref r::st) H Q:=w_x (show decode kb0 20 = .ok (.aload_n 0,1) from by decide +kernel) rfl
theorem m0_21 : M0 21 ls st H Q = M0 23 ls (.int 16::st) H Q:=w_con (show decode kb0 21 = .ok (.bipush 16,2) from by decide +kernel) rfl (by decide)
theorem m0_28 : M0 28 [.val (.ref r),l1,l2] st H Q = M0 29 [.val (.ref r),l1,l2] (.ref r::st) H Q:=w_x (show decode kb0 28 = .ok (.aload_n 0,1) from by decide +kernel) rfl
theorem m0_29 : M0 29 ls st H Q = M0 32 ls (.int 16640::st) H Q:=w_con (show decode kb0 29 = .ok (.sipush 16640,3) from by decide +kernel) rfl (by decide)
theorem m0_37 : M0 37 [.val (.ref r),l1,l2] st H Q = M0 38 [.val (.ref r),l1,l2] (.ref r::st) H Q:=w_x (show decode kb0 37 = .ok (.aload_n 0,1) from by decide +kernel) rfl
theorem m0_38 : M0 38 ls st H Q = M0 40 ls (.int 65::st) H Q:=w_con (show decode kb0 38 = .ok (.bipush 65,2) from by decide +kernel) rfl (by decide)
theorem m0_45 : M0 45 [.val (.ref r),l1,l2] st H Q = M0 46 [.val (.ref r),l1,l2] (.ref r::st) H Q:=w_x (show decode kb0 45 = .ok (.aload_n 0,1) from by decide +kernel) rfl
theorem m0_46 : M0 46 ls st H Q = M0 48 ls (.int 65::st) H Q:=w_con (show decode kb0 46 = .ok (.bipush 65,2) from by decide +kernel) rfl (by decide)
theorem m0_53 : M0 53 [.val (.ref r),l1,l2] st H Q = M0 54 [.val (.ref r),l1,l2] (.ref r::st) H Q:=w_x (show decode kb0 53 = .ok (.aload_n 0,1) from by decide +kernel) rfl
theorem m0_54 : M0 54 ls st H Q = M0 56 ls (.int 65::st) H Q:=w_con (show decode kb0 54 = .ok (.bipush 65,2) from by decide +kernel) rfl (by decide)
theorem m0_61 : M0 61 [.val (.ref r),l1,l2] st H Q = M0 62 [.val (.ref r),l1,l2] (.ref r::st) H Q:=w_x (show decode kb0 61 = .ok (.aload_n 0,1) from by decide +kernel) rfl
theorem m0_62 : M0 62 ls st H Q = M0 65 ls (.int 256::st) H Q:=w_con (show decode kb0 62 = .ok (.sipush 256,3) from by decide +kernel) rfl (by decide)
theorem m0_70 : M0 70 [.val (.ref r),l1,l2] st H Q = M0 71 [.val (.ref r),l1,l2] (.ref r::st) H Q:=w_x (show decode kb0 70 = .ok (.aload_n 0,1) from by decide +kernel) rfl
theorem m0_71 : M0 71 ls st H Q = M0 74 ls (.int 256::st) H Q:=w_con (show decode kb0 71 = .ok (.sipush 256,3) from by decide +kernel) rfl (by decide)
theorem m0_79 : M0 79 [.val (.ref r),l1,l2] st H Q = M0 80 [.val (.ref r),l1,l2] (.ref r::st) H Q:=w_x (show decode kb0 79 = .ok (.aload_n 0,1) from by decide +kernel) rfl
theorem m0_80 : M0 80 ls st H Q = M0 82 ls (.int 16::st) H Q:=w_con (show decode kb0 80 = .ok (.bipush 16,2) from by decide +kernel) rfl (by decide)
theorem m0_87 : M0 87 [.val (.ref r),l1,l2] st H Q = M0 88 [.val (.ref r),l1,l2] (.ref r::st) H Q:=w_x (show decode kb0 87 = .ok (.aload_n 0,1) from by decide +kernel) rfl
theorem m0_88 : M0 88 ls st H Q = M0 90 ls (.int 64::st) H Q:=w_con (show decode kb0 88 = .ok (.bipush 64,2) from by decide +kernel) rfl (by decide)
theorem m0_95 : M0 95 [.val (.ref r),l1,l2] st H Q = M0 96 [.val (.ref r),l1,l2] (.ref r::st) H Q:=w_x (show decode kb0 95 = .ok (.aload_n 0,1) from by decide +kernel) rfl
theorem m0_96 : M0 96 ls st H Q = M0 98 ls (.int 64::st) H Q:=w_con (show decode kb0 96 = .ok (.bipush 64,2) from by decide +kernel) rfl (by decide)
theorem m0_103 : M0 103 [l0,.val (.int v),l2] st H Q = M0 104 [l0,.val (.int v),l2] (.int v::st) H Q:=w_x (show decode kb0 103 = .ok (.iload_n 1,1) from by decide +kernel) rfl
theorem m0_104u : M0 104 [l0,l1,.unset] ((.int v)::st) H Q = M0 105 [l0,l1,.val (.int v)] st H Q:=w_st (i:=2) (p:=isI) (show decode kb0 104 = .ok (.istore_n 2,1) from by decide +kernel) rfl rfl rfl rfl rfl rfl
theorem m0_105 : M0 105 [l0,l1,.val (.int v)] st H Q = M0 106 [l0,l1,.val (.int v)] (.int v::st) H Q:=w_x (show decode kb0 105 = .ok (.iload_n 2,1) from by decide +kernel) rfl
theorem m0_106 : M0 106 ls st H Q = M0 108 ls (.int 8::st) H Q:=w_con (show decode kb0 106 = .ok (.bipush 8,2) from by decide +kernel) rfl (by decide)
theorem m0_108 : M0 108 ls (.int y::.int x::st) H Q = if x < y then M0 111 ls st H Q else M0 114 ls st H Q:=w_icmpN (show decode kb0 108 = .ok (.if_icmp .ge 6,3) from by decide +kernel) (i_ge x y) rfl
theorem m0_111 : M0 111 ls st H Q = M0 113 ls (.int 8::st) H Q:=w_con (show decode kb0 111 = .ok (.bipush 8,2) from by decide +kernel) rfl (by decide)
theorem m0_113i : M0 113 [l0,l1,.val (.int z)] ((.int v)::st) H Q = M0 114 [l0,l1,.val (.int v)] st H Q:=w_st (i:=2) (p:=isI) (show decode kb0 113 = .ok (.istore_n 2,1) from by decide +kernel) rfl rfl rfl rfl rfl rfl
theorem m0_114 : M0 114 [l0,l1,.val (.int v)] st H Q = M0 115 [l0,l1,.val (.int v)] (.int v::st) H Q:=w_x (show decode kb0 114 = .ok (.iload_n 2,1) from by decide +kernel) rfl
theorem m0_115 : M0 115 ls st H Q = M0 117 ls (.int 64::st) H Q:=w_con (show decode kb0 115 = .ok (.bipush 64,2) from by decide +kernel) rfl (by decide)
theorem m0_117 : M0 117 ls (.int y::.int x::st) H Q = if y < x then M0 120 ls st H Q else M0 123 ls st H Q:=w_icmpN (show decode kb0 117 = .ok (.if_icmp .le 6,3) from by decide +kernel) (i_le x y) rfl
theorem m0_120 : M0 120 ls st H Q = M0 122 ls (.int 64::st) H Q:=w_con (show decode kb0 120 = .ok (.bipush 64,2) from by decide +kernel) rfl (by decide)
theorem m0_122i : M0 122 [l0,l1,.val (.int z)] ((.int v)::st) H Q = M0 123 [l0,l1,.val (.int v)] st H Q:=w_st (i:=2) (p:=isI) (show decode kb0 122 = .ok (.istore_n 2,1) from by decide +kernel) rfl rfl rfl rfl rfl rfl
theorem m0_123 : M0 123 [.val (.ref r),l1,l2] st H Q = M0 124 [.val (.ref r),l1,l2] (.ref r::st) H Q:=w_x (show decode kb0 123 = .ok (.aload_n 0,1) from by decide +kernel) rfl
theorem m0_124 : M0 124 [l0,l1,.val (.int v)] st H Q = M0 125 [l0,l1,.val (.int v)] (.int v::st) H Q:=w_x (show decode kb0 124 = .ok (.iload_n 2,1) from by decide +kernel) rfl
theorem pf0_47 : pfR tables_1 y0.cls y0.name 47 = some ("StreamSigScanner", 12,.int):=by decide +kernel
theorem m0_125 : M0 125 ls (.int v::.ref (b + 1)::st) (put (b + 1) pre s A post) Q = M0 128 ls st (put (b + 1) pre (ou s 0 v) A post) Q:=w_put (show decode kb0 125 = .ok (.putfield 47,3) from by decide +kernel) pf0_47 put_o (Nat.succ_le_succ (Nat.zero_le _)) (by show 12 < 29; omega) rfl put_s0
theorem m0_128 : M0 128 [.val (.ref r),l1,l2] st H Q = M0 129 [.val (.ref r),l1,l2] (.ref r::st) H Q:=w_x (show decode kb0 128 = .ok (.aload_n 0,1) from by decide +kernel) rfl
theorem m0_129 : M0 129 ls st H Q = M0 130 ls (.int 0::st) H Q:=w_con (show decode kb0 129 = .ok (.iconst 0,1) from by decide +kernel) rfl (by decide)
theorem pf0_51 : pfR tables_1 y0.cls y0.name 51 = some ("StreamSigScanner", 13,.boolean):=by decide +kernel
theorem m0_130 : M0 130 ls (.int v::.ref (b + 1)::st) (put (b + 1) pre s A post) Q = M0 133 ls st (put (b + 1) pre (ou s 1 (nar .boolean v)) A post) Q:=w_put (show decode kb0 130 = .ok (.putfield 51,3) from by decide +kernel) pf0_51 put_o (Nat.succ_le_succ (Nat.zero_le _)) (by show 13 < 29; omega) rfl put_s1
theorem m0_133 : M0 133 [.val (.ref r),l1,l2] st H Q = M0 134 [.val (.ref r),l1,l2] (.ref r::st) H Q:=w_x (show decode kb0 133 = .ok (.aload_n 0,1) from by decide +kernel) rfl
theorem m0_134 : M0 134 ls st H Q = M0 135 ls (.int 0::st) H Q:=w_con (show decode kb0 134 = .ok (.iconst 0,1) from by decide +kernel) rfl (by decide)
theorem pf0_55 : pfR tables_1 y0.cls y0.name 55 = some ("StreamSigScanner", 14,.int):=by decide +kernel
theorem m0_135 : M0 135 ls (.int v::.ref (b + 1)::st) (put (b + 1) pre s A post) Q = M0 138 ls st (put (b + 1) pre (ou s 2 v) A post) Q:=w_put (show decode kb0 135 = .ok (.putfield 55,3) from by decide +kernel) pf0_55 put_o (Nat.succ_le_succ (Nat.zero_le _)) (by show 14 < 29; omega) rfl put_s2
theorem m0_138 : M0 138 [.val (.ref r),l1,l2] st H Q = M0 139 [.val (.ref r),l1,l2] (.ref r::st) H Q:=w_x (show decode kb0 138 = .ok (.aload_n 0,1) from by decide +kernel) rfl
theorem m0_139 : M0 139 ls st H Q = M0 140 ls (.int 0::st) H Q:=w_con (show decode kb0 139 = .ok (.iconst 0,1) from by decide +kernel) rfl (by decide)
theorem pf0_58 : pfR tables_1 y0.cls y0.name 58 = some ("StreamSigScanner", 15,.int):=by decide +kernel
theorem m0_140 : M0 140 ls (.int v::.ref (b + 1)::st) (put (b + 1) pre s A post) Q = M0 143 ls st (put (b + 1) pre (ou s 3 v) A post) Q:=w_put (show decode kb0 140 = .ok (.putfield 58,3) from by decide +kernel) pf0_58 put_o (Nat.succ_le_succ (Nat.zero_le _)) (by show 15 < 29; omega) rfl put_s3
theorem m0_143 : M0 143 [.val (.ref r),l1,l2] st H Q = M0 144 [.val (.ref r),l1,l2] (.ref r::st) H Q:=w_x (show decode kb0 143 = .ok (.aload_n 0,1) from by decide +kernel) rfl
theorem m0_144 : M0 144 ls st H Q = M0 145 ls (.int 0::st) H Q:=w_con (show decode kb0 144 = .ok (.iconst 0,1) from by decide +kernel) rfl (by decide)
theorem pf0_61 : pfR tables_1 y0.cls y0.name 61 = some ("StreamSigScanner", 16,.int):=by decide +kernel
theorem m0_145 : M0 145 ls (.int v::.ref (b + 1)::st) (put (b + 1) pre s A post) Q = M0 148 ls st (put (b + 1) pre (ou s 4 v) A post) Q:=w_put (show decode kb0 145 = .ok (.putfield 61,3) from by decide +kernel) pf0_61 put_o (Nat.succ_le_succ (Nat.zero_le _)) (by show 16 < 29; omega) rfl put_s4
theorem m0_148 : M0 148 [.val (.ref r),l1,l2] st H Q = M0 149 [.val (.ref r),l1,l2] (.ref r::st) H Q:=w_x (show decode kb0 148 = .ok (.aload_n 0,1) from by decide +kernel) rfl
theorem m0_149 : M0 149 ls st H Q = M0 150 ls (.int 1::st) H Q:=w_con (show decode kb0 149 = .ok (.iconst 1,1) from by decide +kernel) rfl (by decide)
theorem pf0_64 : pfR tables_1 y0.cls y0.name 64 = some ("StreamSigScanner", 17,.int):=by decide +kernel
theorem m0_150 : M0 150 ls (.int v::.ref (b + 1)::st) (put (b + 1) pre s A post) Q = M0 153 ls st (put (b + 1) pre (ou s 5 v) A post) Q:=w_put (show decode kb0 150 = .ok (.putfield 64,3) from by decide +kernel) pf0_64 put_o (Nat.succ_le_succ (Nat.zero_le _)) (by show 17 < 29; omega) rfl put_s5
theorem m0_153 : M0 153 [.val (.ref r),l1,l2] st H Q = M0 154 [.val (.ref r),l1,l2] (.ref r::st) H Q:=w_x (show decode kb0 153 = .ok (.aload_n 0,1) from by decide +kernel) rfl
theorem m0_154 : M0 154 ls st H Q = M0 155 ls (.int 0::st) H Q:=w_con (show decode kb0 154 = .ok (.iconst 0,1) from by decide +kernel) rfl (by decide)
theorem pf0_67 : pfR tables_1 y0.cls y0.name 67 = some ("StreamSigScanner", 18,.int):=by decide +kernel
theorem m0_155 : M0 155 ls (.int v::.ref (b + 1)::st) (put (b + 1) pre s A post) Q = M0 158 ls st (put (b + 1) pre (ou s 6 v) A post) Q:=w_put (show decode kb0 155 = .ok (.putfield 67,3) from by decide +kernel) pf0_67 put_o (Nat.succ_le_succ (Nat.zero_le _)) (by show 18 < 29; omega) rfl put_s6
theorem m0_158 : M0 158 [.val (.ref r),l1,l2] st H Q = M0 159 [.val (.ref r),l1,l2] (.ref r::st) H Q:=w_x (show decode kb0 158 = .ok (.aload_n 0,1) from by decide +kernel) rfl
theorem m0_159 : M0 159 ls st H Q = M0 160 ls (.int 0::st) H Q:=w_con (show decode kb0 159 = .ok (.iconst 0,1) from by decide +kernel) rfl (by decide)
theorem pf0_70 : pfR tables_1 y0.cls y0.name 70 = some ("StreamSigScanner", 19,.int):=by decide +kernel
theorem m0_160 : M0 160 ls (.int v::.ref (b + 1)::st) (put (b + 1) pre s A post) Q = M0 163 ls st (put (b + 1) pre (ou s 7 v) A post) Q:=w_put (show decode kb0 160 = .ok (.putfield 70,3) from by decide +kernel) pf0_70 put_o (Nat.succ_le_succ (Nat.zero_le _)) (by show 19 < 29; omega) rfl put_s7
theorem m0_163 : M0 163 [.val (.ref r),l1,l2] st H Q = M0 164 [.val (.ref r),l1,l2] (.ref r::st) H Q:=w_x (show decode kb0 163 = .ok (.aload_n 0,1) from by decide +kernel) rfl
theorem m0_164 : M0 164 ls st H Q = M0 165 ls (.int 0::st) H Q:=w_con (show decode kb0 164 = .ok (.iconst 0,1) from by decide +kernel) rfl (by decide)
theorem pf0_73 : pfR tables_1 y0.cls y0.name 73 = some ("StreamSigScanner", 20,.int):=by decide +kernel
theorem m0_165 : M0 165 ls (.int v::.ref (b + 1)::st) (put (b + 1) pre s A post) Q = M0 168 ls st (put (b + 1) pre (ou s 8 v) A post) Q:=w_put (show decode kb0 165 = .ok (.putfield 73,3) from by decide +kernel) pf0_73 put_o (Nat.succ_le_succ (Nat.zero_le _)) (by show 20 < 29; omega) rfl put_s8
theorem m0_168 : M0 168 [.val (.ref r),l1,l2] st H Q = M0 169 [.val (.ref r),l1,l2] (.ref r::st) H Q:=w_x (show decode kb0 168 = .ok (.aload_n 0,1) from by decide +kernel) rfl
theorem m0_169 : M0 169 ls st H Q = M0 170 ls (.int 0::st) H Q:=w_con (show decode kb0 169 = .ok (.iconst 0,1) from by decide +kernel) rfl (by decide)
theorem pf0_76 : pfR tables_1 y0.cls y0.name 76 = some ("StreamSigScanner", 21,.int):=by decide +kernel
theorem m0_170 : M0 170 ls (.int v::.ref (b + 1)::st) (put (b + 1) pre s A post) Q = M0 173 ls st (put (b + 1) pre (ou s 9 v) A post) Q:=w_put (show decode kb0 170 = .ok (.putfield 76,3) from by decide +kernel) pf0_76 put_o (Nat.succ_le_succ (Nat.zero_le _)) (by show 21 < 29; omega) rfl put_s9
theorem m0_173 : M0 173 [.val (.ref r),l1,l2] st H Q = M0 174 [.val (.ref r),l1,l2] (.ref r::st) H Q:=w_x (show decode kb0 173 = .ok (.aload_n 0,1) from by decide +kernel) rfl
theorem m0_174 : M0 174 ls st H Q = M0 175 ls (.int 0::st) H Q:=w_con (show decode kb0 174 = .ok (.iconst 0,1) from by decide +kernel) rfl (by decide)
theorem pf0_79 : pfR tables_1 y0.cls y0.name 79 = some ("StreamSigScanner", 22,.int):=by decide +kernel
theorem m0_175 : M0 175 ls (.int v::.ref (b + 1)::st) (put (b + 1) pre s A post) Q = M0 178 ls st (put (b + 1) pre (ou s 10 v) A post) Q:=w_put (show decode kb0 175 = .ok (.putfield 79,3) from by decide +kernel) pf0_79 put_o (Nat.succ_le_succ (Nat.zero_le _)) (by show 22 < 29; omega) rfl put_s10
theorem m0_178 : M0 178 [.val (.ref r),l1,l2] st H Q = M0 179 [.val (.ref r),l1,l2] (.ref r::st) H Q:=w_x (show decode kb0 178 = .ok (.aload_n 0,1) from by decide +kernel) rfl
theorem m0_179 : M0 179 ls st H Q = M0 180 ls (.int 0::st) H Q:=w_con (show decode kb0 179 = .ok (.iconst 0,1) from by decide +kernel) rfl (by decide)
theorem pf0_82 : pfR tables_1 y0.cls y0.name 82 = some ("StreamSigScanner", 23,.int):=by decide +kernel
theorem m0_180 : M0 180 ls (.int v::.ref (b + 1)::st) (put (b + 1) pre s A post) Q = M0 183 ls st (put (b + 1) pre (ou s 11 v) A post) Q:=w_put (show decode kb0 180 = .ok (.putfield 82,3) from by decide +kernel) pf0_82 put_o (Nat.succ_le_succ (Nat.zero_le _)) (by show 23 < 29; omega) rfl put_s11
theorem m0_183 : M0 183 [.val (.ref r),l1,l2] st H Q = M0 184 [.val (.ref r),l1,l2] (.ref r::st) H Q:=w_x (show decode kb0 183 = .ok (.aload_n 0,1) from by decide +kernel) rfl
theorem m0_184 : M0 184 ls st H Q = M0 185 ls (.int (-1)::st) H Q:=w_con (show decode kb0 184 = .ok (.iconst (-1),1) from by decide +kernel) rfl (by decide)
theorem pf0_85 : pfR tables_1 y0.cls y0.name 85 = some ("StreamSigScanner", 24,.int):=by decide +kernel
theorem m0_185 : M0 185 ls (.int v::.ref (b + 1)::st) (put (b + 1) pre s A post) Q = M0 188 ls st (put (b + 1) pre (ou s 12 v) A post) Q:=w_put (show decode kb0 185 = .ok (.putfield 85,3) from by decide +kernel) pf0_85 put_o (Nat.succ_le_succ (Nat.zero_le _)) (by show 24 < 29; omega) rfl put_s12
theorem m0_188 : M0 188 [.val (.ref r),l1,l2] st H Q = M0 189 [.val (.ref r),l1,l2] (.ref r::st) H Q:=w_x (show decode kb0 188 = .ok (.aload_n 0,1) from by decide +kernel) rfl
theorem m0_189 : M0 189 ls st H Q = M0 190 ls (.int 0::st) H Q:=w_con (show decode kb0 189 = .ok (.iconst 0,1) from by decide +kernel) rfl (by decide)
theorem pf0_88 : pfR tables_1 y0.cls y0.name 88 = some ("StreamSigScanner", 25,.boolean):=by decide +kernel
theorem m0_190 : M0 190 ls (.int v::.ref (b + 1)::st) (put (b + 1) pre s A post) Q = M0 193 ls st (put (b + 1) pre (ou s 13 (nar .boolean v)) A post) Q:=w_put (show decode kb0 190 = .ok (.putfield 88,3) from by decide +kernel) pf0_88 put_o (Nat.succ_le_succ (Nat.zero_le _)) (by show 25 < 29; omega) rfl put_s13
theorem m0_193 : M0 193 [.val (.ref r),l1,l2] st H Q = M0 194 [.val (.ref r),l1,l2] (.ref r::st) H Q:=w_x (show decode kb0 193 = .ok (.aload_n 0,1) from by decide +kernel) rfl
theorem m0_194 : M0 194 ls st H Q = M0 195 ls (.int (-1)::st) H Q:=w_con (show decode kb0 194 = .ok (.iconst (-1),1) from by decide +kernel) rfl (by decide)
theorem pf0_91 : pfR tables_1 y0.cls y0.name 91 = some ("StreamSigScanner", 26,.int):=by decide +kernel
theorem m0_195 : M0 195 ls (.int v::.ref (b + 1)::st) (put (b + 1) pre s A post) Q = M0 198 ls st (put (b + 1) pre (ou s 14 v) A post) Q:=w_put (show decode kb0 195 = .ok (.putfield 91,3) from by decide +kernel) pf0_91 put_o (Nat.succ_le_succ (Nat.zero_le _)) (by show 26 < 29; omega) rfl put_s14
theorem m0_198 : M0 198 [.val (.ref r),l1,l2] st H Q = M0 199 [.val (.ref r),l1,l2] (.ref r::st) H Q:=w_x (show decode kb0 198 = .ok (.aload_n 0,1) from by decide +kernel) rfl
theorem m0_199 : M0 199 ls st H Q = M0 200 ls (.int 0::st) H Q:=w_con (show decode kb0 199 = .ok (.iconst 0,1) from by decide +kernel) rfl (by decide)
theorem pf0_94 : pfR tables_1 y0.cls y0.name 94 = some ("StreamSigScanner", 27,.int):=by decide +kernel
theorem m0_200 : M0 200 ls (.int v::.ref (b + 1)::st) (put (b + 1) pre s A post) Q = M0 203 ls st (put (b + 1) pre (ou s 15 v) A post) Q:=w_put (show decode kb0 200 = .ok (.putfield 94,3) from by decide +kernel) pf0_94 put_o (Nat.succ_le_succ (Nat.zero_le _)) (by show 27 < 29; omega) rfl put_s15
theorem m0_203 : M0 203 [.val (.ref r),l1,l2] st H Q = M0 204 [.val (.ref r),l1,l2] (.ref r::st) H Q:=w_x (show decode kb0 203 = .ok (.aload_n 0,1) from by decide +kernel) rfl
theorem m0_204 : M0 204 ls st H Q = M0 205 ls (.int 0::st) H Q:=w_con (show decode kb0 204 = .ok (.iconst 0,1) from by decide +kernel) rfl (by decide)
theorem pf0_97 : pfR tables_1 y0.cls y0.name 97 = some ("StreamSigScanner", 28,.int):=by decide +kernel
theorem m0_205 : M0 205 ls (.int v::.ref (b + 1)::st) (put (b + 1) pre s A post) Q = M0 208 ls st (put (b + 1) pre (ou s 16 v) A post) Q:=w_put (show decode kb0 205 = .ok (.putfield 97,3) from by decide +kernel) pf0_97 put_o (Nat.succ_le_succ (Nat.zero_le _)) (by show 28 < 29; omega) rfl put_s16
theorem m0_208 : M0 208 ls [] H Q = Q none H:=w_vret (show decode kb0 208 = .ok (.return_,1) from by decide +kernel) rfl
theorem m1_0 : M1 0 [.val (.ref r),l1,l2] st H Q = M1 1 [.val (.ref r),l1,l2] (.ref r::st) H Q:=w_x (show decode kb1 0 = .ok (.aload_n 0,1) from by decide +kernel) rfl
theorem m1_1 : M1 1 ls (.ref (b + 1)::st) (put (b + 1) pre s A post) Q = M1 4 ls (.int (s 1)::st) (put (b + 1) pre s A post) Q:=w_get (show decode kb1 1 = .ok (.getfield 51,3) from by decide +kernel) gf_51 put_o rfl
theorem m1_4 : M1 4 ls (.int x::st) H Q = if x = 0 then M1 9 ls st H Q else M1 7 ls st H Q:=w_if (show decode kb1 4 = .ok (.ifCond .eq 5,3) from by decide +kernel) (z_eq x) rfl
theorem m1_7 : M1 7 ls st H Q = M1 8 ls (.int (-1)::st) H Q:=w_con (show decode kb1 7 = .ok (.iconst (-1),1) from by decide +kernel) rfl (by decide)
theorem m1_8 : M1 8 ls (.int z::st) H Q = Q (some (.int z)) H:=w_iret (show decode kb1 8 = .ok (.ireturn,1) from by decide +kernel) rfl
theorem m1_9 : M1 9 [.val (.ref r),l1,l2] st H Q = M1 10 [.val (.ref r),l1,l2] (.ref r::st) H Q:=w_x (show decode kb1 9 = .ok (.aload_n 0,1) from by decide +kernel) rfl
theorem m1_10 : M1 10 [l0,.val (.int v),l2] st H Q = M1 11 [l0,.val (.int v),l2] (.int v::st) H Q:=w_x (show decode kb1 10 = .ok (.iload_n 1,1) from by decide +kernel) rfl
theorem cr1_100 : vR tables_1 dn y1 100 = some (true,y2,prog_1_method_22_code,2,(some .boolean),1,0):=pR_of (cR_of (by decide +kernel) rc_2 dn_2 dn_1 (sig:=⟨[.int],some .boolean⟩) (by decide +kernel) (by decide +kernel) rfl rfl) (by decide +kernel) (by decide +kernel)
theorem m1_11 (a0 : Int32) : M1 11 ls [.int a0,.ref (b + 1)] (put (b + 1) pre s A post) Q = M2 0 [.val (.ref (b + 1)),.val (.int a0)] [] (put (b + 1) pre s A post) (fun v H1 => M1 14 ls (v.toList ++ []) H1 Q):=w_virt (as:=[.int a0]) (rest:=[]) (a:=(b + 1)) (show decode kb1 11 = .ok (.invokevirtual 100,3) from by decide +kernel) cr1_100 put_o rfl rfl (Nat.le_of_ble_eq_true rfl) (by show 2≤2; omega) rfl
theorem m1_14 : M1 14 ls (.int x::st) H Q = if x = 0 then M1 17 ls st H Q else M1 20 ls st H Q:=w_ifN (show decode kb1 14 = .ok (.ifCond .ne 6,3) from by decide +kernel) (z_ne x) rfl
theorem m1_17 : M1 17 ls st H Q = M1 19 ls (.int (-2)::st) H Q:=w_con (show decode kb1 17 = .ok (.bipush (-2),2) from by decide +kernel) rfl (by decide)
theorem m1_19 : M1 19 ls (.int z::st) H Q = Q (some (.int z)) H:=w_iret (show decode kb1 19 = .ok (.ireturn,1) from by decide +kernel) rfl
theorem m1_20 : M1 20 [.val (.ref r),l1,l2] st H Q = M1 21 [.val (.ref r),l1,l2] (.ref r::st) H Q:=w_x (show decode kb1 20 = .ok (.aload_n 0,1) from by decide +kernel) rfl
theorem m1_21 : M1 21 ls (.ref (b + 1)::st) (put (b + 1) pre s A post) Q = M1 24 ls (.int (s 2)::st) (put (b + 1) pre s A post) Q:=w_get (show decode kb1 21 = .ok (.getfield 55,3) from by decide +kernel) gf_55 put_o rfl
theorem m1_24 : M1 24 ls st H Q = M1 26 ls (.int 16::st) H Q:=w_con (show decode kb1 24 = .ok (.bipush 16,2) from by decide +kernel) rfl (by decide)
theorem m1_26 : M1 26 ls (.int y::.int x::st) H Q = if x < y then M1 32 ls st H Q else M1 29 ls st H Q:=w_icmp (show decode kb1 26 = .ok (.if_icmp .lt 6,3) from by decide +kernel) (i_lt x y) rfl
theorem m1_29 : M1 29 ls st H Q = M1 31 ls (.int (-3)::st) H Q:=w_con (show decode kb1 29 = .ok (.bipush (-3),2) from by decide +kernel) rfl (by decide)
theorem m1_31 : M1 31 ls (.int z::st) H Q = Q (some (.int z)) H:=w_iret (show decode kb1 31 = .ok (.ireturn,1) from by decide +kernel) rfl
theorem m1_32 : M1 32 [.val (.ref r),l1,l2] st H Q = M1 33 [.val (.ref r),l1,l2] (.ref r::st) H Q:=w_x (show decode kb1 32 = .ok (.aload_n 0,1) from by decide +kernel) rfl
theorem m1_33 : M1 33 ls (.ref (b + 1)::st) (put (b + 1) pre s A post) Q = M1 36 ls (.int (s 4)::st) (put (b + 1) pre s A post) Q:=w_get (show decode kb1 33 = .ok (.getfield 61,3) from by decide +kernel) gf_61 put_o rfl
theorem m1_36 : M1 36 ls st H Q = M1 38 ls (.int 16::st) H Q:=w_con (show decode kb1 36 = .ok (.bipush 16,2) from by decide +kernel) rfl (by decide)
theorem m1_38 : M1 38 ls (.int y::.int x::st) H Q = if x < y then M1 44 ls st H Q else M1 41 ls st H Q:=w_icmp (show decode kb1 38 = .ok (.if_icmp .lt 6,3) from by decide +kernel) (i_lt x y) rfl
theorem m1_41 : M1 41 ls st H Q = M1 43 ls (.int (-3)::st) H Q:=w_con (show decode kb1 41 = .ok (.bipush (-3),2) from by decide +kernel) rfl (by decide)
theorem m1_43 : M1 43 ls (.int z::st) H Q = Q (some (.int z)) H:=w_iret (show decode kb1 43 = .ok (.ireturn,1) from by decide +kernel) rfl
theorem m1_44 : M1 44 [.val (.ref r),l1,l2] st H Q = M1 45 [.val (.ref r),l1,l2] (.ref r::st) H Q:=w_x (show decode kb1 44 = .ok (.aload_n 0,1) from by decide +kernel) rfl
theorem m1_45 : M1 45 ls (.ref (b + 1)::st) (put (b + 1) pre s A post) Q = M1 48 ls (.int (s 3)::st) (put (b + 1) pre s A post) Q:=w_get (show decode kb1 45 = .ok (.getfield 58,3) from by decide +kernel) gf_58 put_o rfl
theorem m1_48 : M1 48 [.val (.ref r),l1,l2] st H Q = M1 49 [.val (.ref r),l1,l2] (.ref r::st) H Q:=w_x (show decode kb1 48 = .ok (.aload_n 0,1) from by decide +kernel) rfl
theorem m1_49 : M1 49 ls (.ref (b + 1)::st) (put (b + 1) pre s A post) Q = M1 52 ls (.int (s 4)::st) (put (b + 1) pre s A post) Q:=w_get (show decode kb1 49 = .ok (.getfield 61,3) from by decide +kernel) gf_61 put_o rfl
theorem m1_52 : M1 52 ls (.int y::.int x::st) H Q = M1 53 ls (.int (x + y)::st) H Q:=w_x (show decode kb1 52 = .ok (.iadd,1) from by decide +kernel) rfl
theorem m1_53 : M1 53 ls st H Q = M1 55 ls (.int 64::st) H Q:=w_con (show decode kb1 53 = .ok (.bipush 64,2) from by decide +kernel) rfl (by decide)
theorem m1_55 : M1 55 ls (.int y::.int x::st) H Q = if x < y then M1 61 ls st H Q else M1 58 ls st H Q:=w_icmp (show decode kb1 55 = .ok (.if_icmp .lt 6,3) from by decide +kernel) (i_lt x y) rfl
theorem m1_58 : M1 58 ls st H Q = M1 60 ls (.int (-3)::st) H Q:=w_con (show decode kb1 58 = .ok (.bipush (-3),2) from by decide +kernel) rfl (by decide)
theorem m1_60 : M1 60 ls (.int z::st) H Q = Q (some (.int z)) H:=w_iret (show decode kb1 60 = .ok (.ireturn,1) from by decide +kernel) rfl
theorem m1_61 : M1 61 [.val (.ref r),l1,l2] st H Q = M1 62 [.val (.ref r),l1,l2] (.ref r::st) H Q:=w_x (show decode kb1 61 = .ok (.aload_n 0,1) from by decide +kernel) rfl
theorem m1_62 : M1 62 ls (.ref (b + 1)::st) (put (b + 1) pre s A post) Q = M1 65 ls (.int (s 3)::st) (put (b + 1) pre s A post) Q:=w_get (show decode kb1 62 = .ok (.getfield 58,3) from by decide +kernel) gf_58 put_o rfl
theorem m1_65 : M1 65 [.val (.ref r),l1,l2] st H Q = M1 66 [.val (.ref r),l1,l2] (.ref r::st) H Q:=w_x (show decode kb1 65 = .ok (.aload_n 0,1) from by decide +kernel) rfl
theorem m1_66 : M1 66 ls (.ref (b + 1)::st) (put (b + 1) pre s A post) Q = M1 69 ls (.int (s 4)::st) (put (b + 1) pre s A post) Q:=w_get (show decode kb1 66 = .ok (.getfield 61,3) from by decide +kernel) gf_61 put_o rfl
theorem m1_69 : M1 69 ls (.int y::.int x::st) H Q = M1 70 ls (.int (x + y)::st) H Q:=w_x (show decode kb1 69 = .ok (.iadd,1) from by decide +kernel) rfl
theorem m1_70u : M1 70 [l0,l1,.unset] ((.int v)::st) H Q = M1 71 [l0,l1,.val (.int v)] st H Q:=w_st (i:=2) (p:=isI) (show decode kb1 70 = .ok (.istore_n 2,1) from by decide +kernel) rfl rfl rfl rfl rfl rfl
theorem m1_71 : M1 71 [l0,l1,.val (.int v)] st H Q = M1 72 [l0,l1,.val (.int v)] (.int v::st) H Q:=w_x (show decode kb1 71 = .ok (.iload_n 2,1) from by decide +kernel) rfl
theorem m1_72 : M1 72 ls (.int x::st) H Q = if x < 0 then M1 81 ls st H Q else M1 75 ls st H Q:=w_if (show decode kb1 72 = .ok (.ifCond .lt 9,3) from by decide +kernel) (z_lt x) rfl
theorem m1_75 : M1 75 [l0,l1,.val (.int v)] st H Q = M1 76 [l0,l1,.val (.int v)] (.int v::st) H Q:=w_x (show decode kb1 75 = .ok (.iload_n 2,1) from by decide +kernel) rfl
theorem m1_76 : M1 76 ls st H Q = M1 78 ls (.int 64::st) H Q:=w_con (show decode kb1 76 = .ok (.bipush 64,2) from by decide +kernel) rfl (by decide)
theorem m1_78 : M1 78 ls (.int y::.int x::st) H Q = if x < y then M1 84 ls st H Q else M1 81 ls st H Q:=w_icmp (show decode kb1 78 = .ok (.if_icmp .lt 6,3) from by decide +kernel) (i_lt x y) rfl
theorem m1_81 : M1 81 ls st H Q = M1 83 ls (.int (-3)::st) H Q:=w_con (show decode kb1 81 = .ok (.bipush (-3),2) from by decide +kernel) rfl (by decide)
theorem m1_83 : M1 83 ls (.int z::st) H Q = Q (some (.int z)) H:=w_iret (show decode kb1 83 = .ok (.ireturn,1) from by decide +kernel) rfl
theorem m1_84 : M1 84 [.val (.ref r),l1,l2] st H Q = M1 85 [.val (.ref r),l1,l2] (.ref r::st) H Q:=w_x (show decode kb1 84 = .ok (.aload_n 0,1) from by decide +kernel) rfl
theorem m1_85 : M1 85 ls (.ref (b + 1)::st) (put (b + 1) pre s A post) Q = M1 88 ls (.ref ((b + 1) + 1)::st) (put (b + 1) pre s A post) Q:=w_get (show decode kb1 85 = .ok (.getfield 7,3) from by decide +kernel) gf_7 put_o rfl
theorem m1_88 : M1 88 [l0,l1,.val (.int v)] st H Q = M1 89 [l0,l1,.val (.int v)] (.int v::st) H Q:=w_x (show decode kb1 88 = .ok (.iload_n 2,1) from by decide +kernel) rfl
theorem m1_89 : M1 89 [l0,.val (.int v),l2] st H Q = M1 90 [l0,.val (.int v),l2] (.int v::st) H Q:=w_x (show decode kb1 89 = .ok (.iload_n 1,1) from by decide +kernel) rfl
theorem m1_90  : M1 90 ls (.int v::.int j::.ref ((b + 1) + 1)::st) (put (b + 1) pre s A post) Q = (inB j (A 0)∧M1 91 ls st (put (b + 1) pre s (ou A 0 (setA (A 0) j v)) post) Q):=w_ist (show decode kb1 90 = .ok (.iastore,1) from by decide +kernel) rfl put_a0 (by omega) rfl put_w0
theorem m1_91 : M1 91 [.val (.ref r),l1,l2] st H Q = M1 92 [.val (.ref r),l1,l2] (.ref r::st) H Q:=w_x (show decode kb1 91 = .ok (.aload_n 0,1) from by decide +kernel) rfl
theorem m1_92 : M1 92 ls ((.ref r)::st) H Q = M1 93 ls ((.ref r)::(.ref r)::st) H Q:=w_x (show decode kb1 92 = .ok (.dup,1) from by decide +kernel) rfl
theorem m1_93 : M1 93 ls (.ref (b + 1)::st) (put (b + 1) pre s A post) Q = M1 96 ls (.int (s 4)::st) (put (b + 1) pre s A post) Q:=w_get (show decode kb1 93 = .ok (.getfield 61,3) from by decide +kernel) gf_61 put_o rfl
theorem m1_96 : M1 96 ls st H Q = M1 97 ls (.int 1::st) H Q:=w_con (show decode kb1 96 = .ok (.iconst 1,1) from by decide +kernel) rfl (by decide)
theorem m1_97 : M1 97 ls (.int y::.int x::st) H Q = M1 98 ls (.int (x + y)::st) H Q:=w_x (show decode kb1 97 = .ok (.iadd,1) from by decide +kernel) rfl
theorem pf1_61 : pfR tables_1 y1.cls y1.name 61 = some ("StreamSigScanner", 16,.int):=by decide +kernel
theorem m1_98 : M1 98 ls (.int v::.ref (b + 1)::st) (put (b + 1) pre s A post) Q = M1 101 ls st (put (b + 1) pre (ou s 4 v) A post) Q:=w_put (show decode kb1 98 = .ok (.putfield 61,3) from by decide +kernel) pf1_61 put_o (Nat.succ_le_succ (Nat.zero_le _)) (by show 16 < 29; omega) rfl put_s4
theorem m1_101 : M1 101 ls st H Q = M1 102 ls (.int 0::st) H Q:=w_con (show decode kb1 101 = .ok (.iconst 0,1) from by decide +kernel) rfl (by decide)
theorem m1_102 : M1 102 ls (.int z::st) H Q = Q (some (.int z)) H:=w_iret (show decode kb1 102 = .ok (.ireturn,1) from by decide +kernel) rfl
theorem m2_0 : M2 0 [l0,.val (.int v)] st H Q = M2 1 [l0,.val (.int v)] (.int v::st) H Q:=w_x (show decode kb2 0 = .ok (.iload_n 1,1) from by decide +kernel) rfl
theorem m2_1 : M2 1 ls (.int x::st) H Q = if x < 0 then M2 15 ls st H Q else M2 4 ls st H Q:=w_if (show decode kb2 1 = .ok (.ifCond .lt 14,3) from by decide +kernel) (z_lt x) rfl
theorem m2_4 : M2 4 [l0,.val (.int v)] st H Q = M2 5 [l0,.val (.int v)] (.int v::st) H Q:=w_x (show decode kb2 4 = .ok (.iload_n 1,1) from by decide +kernel) rfl
theorem m2_5 : M2 5 ls st H Q = M2 8 ls (.int 255::st) H Q:=w_con (show decode kb2 5 = .ok (.sipush 255,3) from by decide +kernel) rfl (by decide)
theorem m2_8 : M2 8 ls (.int y::.int x::st) H Q = if y < x then M2 15 ls st H Q else M2 11 ls st H Q:=w_icmp (show decode kb2 8 = .ok (.if_icmp .gt 7,3) from by decide +kernel) (i_gt x y) rfl
theorem m2_11 : M2 11 ls st H Q = M2 12 ls (.int 1::st) H Q:=w_con (show decode kb2 11 = .ok (.iconst 1,1) from by decide +kernel) rfl (by decide)
theorem m2_12 : M2 12 ls st H Q = M2 16 ls st H Q:=w_x (show decode kb2 12 = .ok (.goto 4,3) from by decide +kernel) rfl
theorem m2_15 : M2 15 ls st H Q = M2 16 ls (.int 0::st) H Q:=w_con (show decode kb2 15 = .ok (.iconst 0,1) from by decide +kernel) rfl (by decide)
theorem m2_16 : M2 16 ls (.int z::st) H Q = Q (some (.int (nar .boolean z))) H:=w_iretN (show decode kb2 16 = .ok (.ireturn,1) from by decide +kernel) rfl (by simp)
theorem m3_0 : M3 0 [.val (.ref r),l1] st H Q = M3 1 [.val (.ref r),l1] (.ref r::st) H Q:=w_x (show decode kb3 0 = .ok (.aload_n 0,1) from by decide +kernel) rfl
theorem m3_1 : M3 1 ls (.ref (b + 1)::st) (put (b + 1) pre s A post) Q = M3 4 ls (.int (s 1)::st) (put (b + 1) pre s A post) Q:=w_get (show decode kb3 1 = .ok (.getfield 51,3) from by decide +kernel) gf_51 put_o rfl
theorem m3_4 : M3 4 ls (.int x::st) H Q = if x = 0 then M3 9 ls st H Q else M3 7 ls st H Q:=w_if (show decode kb3 4 = .ok (.ifCond .eq 5,3) from by decide +kernel) (z_eq x) rfl
theorem m3_7 : M3 7 ls st H Q = M3 8 ls (.int (-1)::st) H Q:=w_con (show decode kb3 7 = .ok (.iconst (-1),1) from by decide +kernel) rfl (by decide)
theorem m3_8 : M3 8 ls (.int z::st) H Q = Q (some (.int z)) H:=w_iret (show decode kb3 8 = .ok (.ireturn,1) from by decide +kernel) rfl
theorem m3_9 : M3 9 [.val (.ref r),l1] st H Q = M3 10 [.val (.ref r),l1] (.ref r::st) H Q:=w_x (show decode kb3 9 = .ok (.aload_n 0,1) from by decide +kernel) rfl
theorem m3_10 : M3 10 ls (.ref (b + 1)::st) (put (b + 1) pre s A post) Q = M3 13 ls (.int (s 4)::st) (put (b + 1) pre s A post) Q:=w_get (show decode kb3 10 = .ok (.getfield 61,3) from by decide +kernel) gf_61 put_o rfl
theorem m3_13 : M3 13 ls (.int x::st) H Q = if x = 0 then M3 16 ls st H Q else M3 19 ls st H Q:=w_ifN (show decode kb3 13 = .ok (.ifCond .ne 6,3) from by decide +kernel) (z_ne x) rfl
theorem m3_16 : M3 16 ls st H Q = M3 18 ls (.int (-4)::st) H Q:=w_con (show decode kb3 16 = .ok (.bipush (-4),2) from by decide +kernel) rfl (by decide)
theorem m3_18 : M3 18 ls (.int z::st) H Q = Q (some (.int z)) H:=w_iret (show decode kb3 18 = .ok (.ireturn,1) from by decide +kernel) rfl
theorem m3_19 : M3 19 [.val (.ref r),l1] st H Q = M3 20 [.val (.ref r),l1] (.ref r::st) H Q:=w_x (show decode kb3 19 = .ok (.aload_n 0,1) from by decide +kernel) rfl
theorem m3_20 : M3 20 ls (.ref (b + 1)::st) (put (b + 1) pre s A post) Q = M3 23 ls (.int (s 2)::st) (put (b + 1) pre s A post) Q:=w_get (show decode kb3 20 = .ok (.getfield 55,3) from by decide +kernel) gf_55 put_o rfl
theorem m3_23u : M3 23 [l0,.unset] ((.int v)::st) H Q = M3 24 [l0,.val (.int v)] st H Q:=w_st (i:=1) (p:=isI) (show decode kb3 23 = .ok (.istore_n 1,1) from by decide +kernel) rfl rfl rfl rfl rfl rfl
theorem m3_24 : M3 24 [l0,.val (.int v)] st H Q = M3 25 [l0,.val (.int v)] (.int v::st) H Q:=w_x (show decode kb3 24 = .ok (.iload_n 1,1) from by decide +kernel) rfl
theorem m3_25 : M3 25 ls (.int x::st) H Q = if x < 0 then M3 34 ls st H Q else M3 28 ls st H Q:=w_if (show decode kb3 25 = .ok (.ifCond .lt 9,3) from by decide +kernel) (z_lt x) rfl
theorem m3_28 : M3 28 [l0,.val (.int v)] st H Q = M3 29 [l0,.val (.int v)] (.int v::st) H Q:=w_x (show decode kb3 28 = .ok (.iload_n 1,1) from by decide +kernel) rfl
theorem m3_29 : M3 29 ls st H Q = M3 31 ls (.int 16::st) H Q:=w_con (show decode kb3 29 = .ok (.bipush 16,2) from by decide +kernel) rfl (by decide)
theorem m3_31 : M3 31 ls (.int y::.int x::st) H Q = if x < y then M3 37 ls st H Q else M3 34 ls st H Q:=w_icmp (show decode kb3 31 = .ok (.if_icmp .lt 6,3) from by decide +kernel) (i_lt x y) rfl
theorem m3_34 : M3 34 ls st H Q = M3 36 ls (.int (-3)::st) H Q:=w_con (show decode kb3 34 = .ok (.bipush (-3),2) from by decide +kernel) rfl (by decide)
theorem m3_36 : M3 36 ls (.int z::st) H Q = Q (some (.int z)) H:=w_iret (show decode kb3 36 = .ok (.ireturn,1) from by decide +kernel) rfl
theorem m3_37 : M3 37 [.val (.ref r),l1] st H Q = M3 38 [.val (.ref r),l1] (.ref r::st) H Q:=w_x (show decode kb3 37 = .ok (.aload_n 0,1) from by decide +kernel) rfl
theorem m3_38 : M3 38 ls (.ref (b + 1)::st) (put (b + 1) pre s A post) Q = M3 41 ls (.ref ((b + 1) + 2)::st) (put (b + 1) pre s A post) Q:=w_get (show decode kb3 38 = .ok (.getfield 13,3) from by decide +kernel) gf_13 put_o rfl
theorem m3_41 : M3 41 [l0,.val (.int v)] st H Q = M3 42 [l0,.val (.int v)] (.int v::st) H Q:=w_x (show decode kb3 41 = .ok (.iload_n 1,1) from by decide +kernel) rfl
theorem m3_42 : M3 42 [.val (.ref r),l1] st H Q = M3 43 [.val (.ref r),l1] (.ref r::st) H Q:=w_x (show decode kb3 42 = .ok (.aload_n 0,1) from by decide +kernel) rfl
theorem m3_43 : M3 43 ls (.ref (b + 1)::st) (put (b + 1) pre s A post) Q = M3 46 ls (.int (s 3)::st) (put (b + 1) pre s A post) Q:=w_get (show decode kb3 43 = .ok (.getfield 58,3) from by decide +kernel) gf_58 put_o rfl
theorem m3_46  : M3 46 ls (.int v::.int j::.ref ((b + 1) + 2)::st) (put (b + 1) pre s A post) Q = (inB j (A 1)∧M3 47 ls st (put (b + 1) pre s (ou A 1 (setA (A 1) j v)) post) Q):=w_ist (show decode kb3 46 = .ok (.iastore,1) from by decide +kernel) rfl put_a1 (by omega) rfl put_w1
theorem m3_47 : M3 47 [.val (.ref r),l1] st H Q = M3 48 [.val (.ref r),l1] (.ref r::st) H Q:=w_x (show decode kb3 47 = .ok (.aload_n 0,1) from by decide +kernel) rfl
theorem m3_48 : M3 48 ls (.ref (b + 1)::st) (put (b + 1) pre s A post) Q = M3 51 ls (.ref ((b + 1) + 3)::st) (put (b + 1) pre s A post) Q:=w_get (show decode kb3 48 = .ok (.getfield 16,3) from by decide +kernel) gf_16 put_o rfl
theorem m3_51 : M3 51 [l0,.val (.int v)] st H Q = M3 52 [l0,.val (.int v)] (.int v::st) H Q:=w_x (show decode kb3 51 = .ok (.iload_n 1,1) from by decide +kernel) rfl
theorem m3_52 : M3 52 [.val (.ref r),l1] st H Q = M3 53 [.val (.ref r),l1] (.ref r::st) H Q:=w_x (show decode kb3 52 = .ok (.aload_n 0,1) from by decide +kernel) rfl
theorem m3_53 : M3 53 ls (.ref (b + 1)::st) (put (b + 1) pre s A post) Q = M3 56 ls (.int (s 4)::st) (put (b + 1) pre s A post) Q:=w_get (show decode kb3 53 = .ok (.getfield 61,3) from by decide +kernel) gf_61 put_o rfl
theorem m3_56  : M3 56 ls (.int v::.int j::.ref ((b + 1) + 3)::st) (put (b + 1) pre s A post) Q = (inB j (A 2)∧M3 57 ls st (put (b + 1) pre s (ou A 2 (setA (A 2) j v)) post) Q):=w_ist (show decode kb3 56 = .ok (.iastore,1) from by decide +kernel) rfl put_a2 (by omega) rfl put_w2
theorem m3_57 : M3 57 [.val (.ref r),l1] st H Q = M3 58 [.val (.ref r),l1] (.ref r::st) H Q:=w_x (show decode kb3 57 = .ok (.aload_n 0,1) from by decide +kernel) rfl
theorem m3_58 : M3 58 ls ((.ref r)::st) H Q = M3 59 ls ((.ref r)::(.ref r)::st) H Q:=w_x (show decode kb3 58 = .ok (.dup,1) from by decide +kernel) rfl
theorem m3_59 : M3 59 ls (.ref (b + 1)::st) (put (b + 1) pre s A post) Q = M3 62 ls (.int (s 3)::st) (put (b + 1) pre s A post) Q:=w_get (show decode kb3 59 = .ok (.getfield 58,3) from by decide +kernel) gf_58 put_o rfl
theorem m3_62 : M3 62 [.val (.ref r),l1] st H Q = M3 63 [.val (.ref r),l1] (.ref r::st) H Q:=w_x (show decode kb3 62 = .ok (.aload_n 0,1) from by decide +kernel) rfl
theorem m3_63 : M3 63 ls (.ref (b + 1)::st) (put (b + 1) pre s A post) Q = M3 66 ls (.int (s 4)::st) (put (b + 1) pre s A post) Q:=w_get (show decode kb3 63 = .ok (.getfield 61,3) from by decide +kernel) gf_61 put_o rfl
theorem m3_66 : M3 66 ls (.int y::.int x::st) H Q = M3 67 ls (.int (x + y)::st) H Q:=w_x (show decode kb3 66 = .ok (.iadd,1) from by decide +kernel) rfl
theorem pf3_58 : pfR tables_1 y3.cls y3.name 58 = some ("StreamSigScanner", 15,.int):=by decide +kernel
theorem m3_67 : M3 67 ls (.int v::.ref (b + 1)::st) (put (b + 1) pre s A post) Q = M3 70 ls st (put (b + 1) pre (ou s 3 v) A post) Q:=w_put (show decode kb3 67 = .ok (.putfield 58,3) from by decide +kernel) pf3_58 put_o (Nat.succ_le_succ (Nat.zero_le _)) (by show 15 < 29; omega) rfl put_s3
theorem m3_70 : M3 70 [.val (.ref r),l1] st H Q = M3 71 [.val (.ref r),l1] (.ref r::st) H Q:=w_x (show decode kb3 70 = .ok (.aload_n 0,1) from by decide +kernel) rfl
theorem m3_71 : M3 71 ls st H Q = M3 72 ls (.int 0::st) H Q:=w_con (show decode kb3 71 = .ok (.iconst 0,1) from by decide +kernel) rfl (by decide)
theorem pf3_61 : pfR tables_1 y3.cls y3.name 61 = some ("StreamSigScanner", 16,.int):=by decide +kernel
theorem m3_72 : M3 72 ls (.int v::.ref (b + 1)::st) (put (b + 1) pre s A post) Q = M3 75 ls st (put (b + 1) pre (ou s 4 v) A post) Q:=w_put (show decode kb3 72 = .ok (.putfield 61,3) from by decide +kernel) pf3_61 put_o (Nat.succ_le_succ (Nat.zero_le _)) (by show 16 < 29; omega) rfl put_s4
theorem m3_75 : M3 75 [.val (.ref r),l1] st H Q = M3 76 [.val (.ref r),l1] (.ref r::st) H Q:=w_x (show decode kb3 75 = .ok (.aload_n 0,1) from by decide +kernel) rfl
theorem m3_76 : M3 76 [l0,.val (.int v)] st H Q = M3 77 [l0,.val (.int v)] (.int v::st) H Q:=w_x (show decode kb3 76 = .ok (.iload_n 1,1) from by decide +kernel) rfl
theorem m3_77 : M3 77 ls st H Q = M3 78 ls (.int 1::st) H Q:=w_con (show decode kb3 77 = .ok (.iconst 1,1) from by decide +kernel) rfl (by decide)
theorem m3_78 : M3 78 ls (.int y::.int x::st) H Q = M3 79 ls (.int (x + y)::st) H Q:=w_x (show decode kb3 78 = .ok (.iadd,1) from by decide +kernel) rfl
theorem pf3_55 : pfR tables_1 y3.cls y3.name 55 = some ("StreamSigScanner", 14,.int):=by decide +kernel
theorem m3_79 : M3 79 ls (.int v::.ref (b + 1)::st) (put (b + 1) pre s A post) Q = M3 82 ls st (put (b + 1) pre (ou s 2 v) A post) Q:=w_put (show decode kb3 79 = .ok (.putfield 55,3) from by decide +kernel) pf3_55 put_o (Nat.succ_le_succ (Nat.zero_le _)) (by show 14 < 29; omega) rfl put_s2
theorem m3_82 : M3 82 [l0,.val (.int v)] st H Q = M3 83 [l0,.val (.int v)] (.int v::st) H Q:=w_x (show decode kb3 82 = .ok (.iload_n 1,1) from by decide +kernel) rfl
theorem m3_83 : M3 83 ls (.int z::st) H Q = Q (some (.int z)) H:=w_iret (show decode kb3 83 = .ok (.ireturn,1) from by decide +kernel) rfl
theorem m4_0 : M4 0 [.val (.ref r)] st H Q = M4 1 [.val (.ref r)] (.ref r::st) H Q:=w_x (show decode kb4 0 = .ok (.aload_n 0,1) from by decide +kernel) rfl
theorem m4_1 : M4 1 ls (.ref (b + 1)::st) (put (b + 1) pre s A post) Q = M4 4 ls (.int (s 1)::st) (put (b + 1) pre s A post) Q:=w_get (show decode kb4 1 = .ok (.getfield 51,3) from by decide +kernel) gf_51 put_o rfl
theorem m4_4 : M4 4 ls (.int x::st) H Q = if x = 0 then M4 9 ls st H Q else M4 7 ls st H Q:=w_if (show decode kb4 4 = .ok (.ifCond .eq 5,3) from by decide +kernel) (z_eq x) rfl
theorem m4_7 : M4 7 ls st H Q = M4 8 ls (.int (-1)::st) H Q:=w_con (show decode kb4 7 = .ok (.iconst (-1),1) from by decide +kernel) rfl (by decide)
theorem m4_8 : M4 8 ls (.int z::st) H Q = Q (some (.int z)) H:=w_iret (show decode kb4 8 = .ok (.ireturn,1) from by decide +kernel) rfl
theorem m4_9 : M4 9 [.val (.ref r)] st H Q = M4 10 [.val (.ref r)] (.ref r::st) H Q:=w_x (show decode kb4 9 = .ok (.aload_n 0,1) from by decide +kernel) rfl
theorem m4_10 : M4 10 ls (.ref (b + 1)::st) (put (b + 1) pre s A post) Q = M4 13 ls (.int (s 4)::st) (put (b + 1) pre s A post) Q:=w_get (show decode kb4 10 = .ok (.getfield 61,3) from by decide +kernel) gf_61 put_o rfl
theorem m4_13 : M4 13 ls (.int x::st) H Q = if x = 0 then M4 18 ls st H Q else M4 16 ls st H Q:=w_if (show decode kb4 13 = .ok (.ifCond .eq 5,3) from by decide +kernel) (z_eq x) rfl
theorem m4_16 : M4 16 ls st H Q = M4 17 ls (.int (-1)::st) H Q:=w_con (show decode kb4 16 = .ok (.iconst (-1),1) from by decide +kernel) rfl (by decide)
theorem m4_17 : M4 17 ls (.int z::st) H Q = Q (some (.int z)) H:=w_iret (show decode kb4 17 = .ok (.ireturn,1) from by decide +kernel) rfl
theorem m4_18 : M4 18 [.val (.ref r)] st H Q = M4 19 [.val (.ref r)] (.ref r::st) H Q:=w_x (show decode kb4 18 = .ok (.aload_n 0,1) from by decide +kernel) rfl
theorem m4_19 : M4 19 ls (.ref (b + 1)::st) (put (b + 1) pre s A post) Q = M4 22 ls (.int (s 2)::st) (put (b + 1) pre s A post) Q:=w_get (show decode kb4 19 = .ok (.getfield 55,3) from by decide +kernel) gf_55 put_o rfl
theorem m4_22 : M4 22 ls (.int x::st) H Q = if x = 0 then M4 25 ls st H Q else M4 28 ls st H Q:=w_ifN (show decode kb4 22 = .ok (.ifCond .ne 6,3) from by decide +kernel) (z_ne x) rfl
theorem m4_25 : M4 25 ls st H Q = M4 27 ls (.int (-4)::st) H Q:=w_con (show decode kb4 25 = .ok (.bipush (-4),2) from by decide +kernel) rfl (by decide)
theorem m4_27 : M4 27 ls (.int z::st) H Q = Q (some (.int z)) H:=w_iret (show decode kb4 27 = .ok (.ireturn,1) from by decide +kernel) rfl
theorem m4_28 : M4 28 [.val (.ref r)] st H Q = M4 29 [.val (.ref r)] (.ref r::st) H Q:=w_x (show decode kb4 28 = .ok (.aload_n 0,1) from by decide +kernel) rfl
theorem cr4_104 : vR tables_1 dn y4 104 = some (true,y5,prog_1_method_5_code,2,none,0,0):=pR_of (cR_of (by decide +kernel) rc_5 dn_5 dn_4 (sig:=⟨[],none⟩) (by decide +kernel) (by decide +kernel) rfl rfl) (by decide +kernel) (by decide +kernel)
theorem m4_29 : M4 29 ls [.ref (b + 1)] (put (b + 1) pre s A post) Q = M5 0 [.val (.ref (b + 1)),.unset] [] (put (b + 1) pre s A post) (fun v H1 => M4 32 ls (v.toList ++ []) H1 Q):=w_virt (as:=[]) (rest:=[]) (a:=(b + 1)) (show decode kb4 29 = .ok (.invokevirtual 104,3) from by decide +kernel) cr4_104 put_o rfl rfl (Nat.le_of_ble_eq_true rfl) (by show 1≤2; omega) rfl
theorem m4_32 : M4 32 [.val (.ref r)] st H Q = M4 33 [.val (.ref r)] (.ref r::st) H Q:=w_x (show decode kb4 32 = .ok (.aload_n 0,1) from by decide +kernel) rfl
theorem cr4_107 : vR tables_1 dn y4 107 = some (true,y8,prog_1_method_8_code,9,none,0,12):=pR_of (cR_of (by decide +kernel) rc_8 dn_8 dn_4 (sig:=⟨[],none⟩) (by decide +kernel) (by decide +kernel) rfl rfl) (by decide +kernel) (by decide +kernel)
theorem m4_33 : M4 33 ls [.ref (b + 1)] (put (b + 1) pre s A post) Q = M8 0 [.val (.ref (b + 1)),.unset,.unset,.unset,.unset,.unset,.unset,.unset,.unset] [] (put (b + 1) pre s A post) (fun v H1 => M4 36 ls (v.toList ++ []) H1 Q):=w_virt (as:=[]) (rest:=[]) (a:=(b + 1)) (show decode kb4 33 = .ok (.invokevirtual 107,3) from by decide +kernel) cr4_107 put_o rfl rfl (Nat.le_of_ble_eq_true rfl) (by show 1≤9; omega) rfl
theorem m4_36 : M4 36 [.val (.ref r)] st H Q = M4 37 [.val (.ref r)] (.ref r::st) H Q:=w_x (show decode kb4 36 = .ok (.aload_n 0,1) from by decide +kernel) rfl
theorem m4_37 : M4 37 ls st H Q = M4 38 ls (.int 0::st) H Q:=w_con (show decode kb4 37 = .ok (.iconst 0,1) from by decide +kernel) rfl (by decide)
theorem pf4_67 : pfR tables_1 y4.cls y4.name 67 = some ("StreamSigScanner", 18,.int):=by decide +kernel
theorem m4_38 : M4 38 ls (.int v::.ref (b + 1)::st) (put (b + 1) pre s A post) Q = M4 41 ls st (put (b + 1) pre (ou s 6 v) A post) Q:=w_put (show decode kb4 38 = .ok (.putfield 67,3) from by decide +kernel) pf4_67 put_o (Nat.succ_le_succ (Nat.zero_le _)) (by show 18 < 29; omega) rfl put_s6
theorem m4_41 : M4 41 [.val (.ref r)] st H Q = M4 42 [.val (.ref r)] (.ref r::st) H Q:=w_x (show decode kb4 41 = .ok (.aload_n 0,1) from by decide +kernel) rfl
theorem m4_42 : M4 42 ls st H Q = M4 43 ls (.int 1::st) H Q:=w_con (show decode kb4 42 = .ok (.iconst 1,1) from by decide +kernel) rfl (by decide)
theorem pf4_51 : pfR tables_1 y4.cls y4.name 51 = some ("StreamSigScanner", 13,.boolean):=by decide +kernel
theorem m4_43 : M4 43 ls (.int v::.ref (b + 1)::st) (put (b + 1) pre s A post) Q = M4 46 ls st (put (b + 1) pre (ou s 1 (nar .boolean v)) A post) Q:=w_put (show decode kb4 43 = .ok (.putfield 51,3) from by decide +kernel) pf4_51 put_o (Nat.succ_le_succ (Nat.zero_le _)) (by show 13 < 29; omega) rfl put_s1
theorem m4_46 : M4 46 ls st H Q = M4 47 ls (.int 0::st) H Q:=w_con (show decode kb4 46 = .ok (.iconst 0,1) from by decide +kernel) rfl (by decide)
theorem m4_47 : M4 47 ls (.int z::st) H Q = Q (some (.int z)) H:=w_iret (show decode kb4 47 = .ok (.ireturn,1) from by decide +kernel) rfl
theorem m5_0 : M5 0 [.val (.ref r),l1] st H Q = M5 1 [.val (.ref r),l1] (.ref r::st) H Q:=w_x (show decode kb5 0 = .ok (.aload_n 0,1) from by decide +kernel) rfl
theorem cr5_110 : vR tables_1 dn y5 110 = some (true,y6,prog_1_method_6_code,2,none,0,6):=pR_of (cR_of (by decide +kernel) rc_6 dn_6 dn_5 (sig:=⟨[],none⟩) (by decide +kernel) (by decide +kernel) rfl rfl) (by decide +kernel) (by decide +kernel)
theorem m5_1 : M5 1 ls [.ref (b + 1)] (put (b + 1) pre s A post) Q = M6 0 [.val (.ref (b + 1)),.unset] [] (put (b + 1) pre s A post) (fun v H1 => M5 4 ls (v.toList ++ []) H1 Q):=w_virt (as:=[]) (rest:=[]) (a:=(b + 1)) (show decode kb5 1 = .ok (.invokevirtual 110,3) from by decide +kernel) cr5_110 put_o rfl rfl (Nat.le_of_ble_eq_true rfl) (by show 1≤2; omega) rfl
theorem m5_4 : M5 4 [.val (.ref r),l1] st H Q = M5 5 [.val (.ref r),l1] (.ref r::st) H Q:=w_x (show decode kb5 4 = .ok (.aload_n 0,1) from by decide +kernel) rfl
theorem m5_5 : M5 5 ls st H Q = M5 6 ls (.int 1::st) H Q:=w_con (show decode kb5 5 = .ok (.iconst 1,1) from by decide +kernel) rfl (by decide)
theorem pf5_64 : pfR tables_1 y5.cls y5.name 64 = some ("StreamSigScanner", 17,.int):=by decide +kernel
theorem m5_6 : M5 6 ls (.int v::.ref (b + 1)::st) (put (b + 1) pre s A post) Q = M5 9 ls st (put (b + 1) pre (ou s 5 v) A post) Q:=w_put (show decode kb5 6 = .ok (.putfield 64,3) from by decide +kernel) pf5_64 put_o (Nat.succ_le_succ (Nat.zero_le _)) (by show 17 < 29; omega) rfl put_s5
theorem m5_9 : M5 9 ls st H Q = M5 10 ls (.int 0::st) H Q:=w_con (show decode kb5 9 = .ok (.iconst 0,1) from by decide +kernel) rfl (by decide)
theorem m5_10u : M5 10 [l0,.unset] ((.int v)::st) H Q = M5 11 [l0,.val (.int v)] st H Q:=w_st (i:=1) (p:=isI) (show decode kb5 10 = .ok (.istore_n 1,1) from by decide +kernel) rfl rfl rfl rfl rfl rfl
theorem m5_11 : M5 11 [l0,.val (.int v)] st H Q = M5 12 [l0,.val (.int v)] (.int v::st) H Q:=w_x (show decode kb5 11 = .ok (.iload_n 1,1) from by decide +kernel) rfl
theorem m5_12 : M5 12 [.val (.ref r),l1] st H Q = M5 13 [.val (.ref r),l1] (.ref r::st) H Q:=w_x (show decode kb5 12 = .ok (.aload_n 0,1) from by decide +kernel) rfl
theorem m5_13 : M5 13 ls (.ref (b + 1)::st) (put (b + 1) pre s A post) Q = M5 16 ls (.int (s 2)::st) (put (b + 1) pre s A post) Q:=w_get (show decode kb5 13 = .ok (.getfield 55,3) from by decide +kernel) gf_55 put_o rfl
theorem m5_16 : M5 16 ls (.int y::.int x::st) H Q = if x < y then M5 19 ls st H Q else M5 36 ls st H Q:=w_icmpN (show decode kb5 16 = .ok (.if_icmp .ge 20,3) from by decide +kernel) (i_ge x y) rfl
theorem m5_19 : M5 19 [l0,.val (.int v)] st H Q = M5 20 [l0,.val (.int v)] (.int v::st) H Q:=w_x (show decode kb5 19 = .ok (.iload_n 1,1) from by decide +kernel) rfl
theorem m5_20 : M5 20 ls st H Q = M5 22 ls (.int 16::st) H Q:=w_con (show decode kb5 20 = .ok (.bipush 16,2) from by decide +kernel) rfl (by decide)
theorem m5_22 : M5 22 ls (.int y::.int x::st) H Q = if x < y then M5 25 ls st H Q else M5 36 ls st H Q:=w_icmpN (show decode kb5 22 = .ok (.if_icmp .ge 14,3) from by decide +kernel) (i_ge x y) rfl
theorem m5_25 : M5 25 [.val (.ref r),l1] st H Q = M5 26 [.val (.ref r),l1] (.ref r::st) H Q:=w_x (show decode kb5 25 = .ok (.aload_n 0,1) from by decide +kernel) rfl
theorem m5_26 : M5 26 [l0,.val (.int v)] st H Q = M5 27 [l0,.val (.int v)] (.int v::st) H Q:=w_x (show decode kb5 26 = .ok (.iload_n 1,1) from by decide +kernel) rfl
theorem cr5_113 : vR tables_1 dn y5 113 = some (true,y7,prog_1_method_7_code,8,none,1,0):=pR_of (cR_of (by decide +kernel) rc_7 dn_7 dn_5 (sig:=⟨[.int],none⟩) (by decide +kernel) (by decide +kernel) rfl rfl) (by decide +kernel) (by decide +kernel)
theorem m5_27 (a0 : Int32) : M5 27 ls [.int a0,.ref (b + 1)] (put (b + 1) pre s A post) Q = M7 0 [.val (.ref (b + 1)),.val (.int a0),.unset,.unset,.unset,.unset,.unset,.unset] [] (put (b + 1) pre s A post) (fun v H1 => M5 30 ls (v.toList ++ []) H1 Q):=w_virt (as:=[.int a0]) (rest:=[]) (a:=(b + 1)) (show decode kb5 27 = .ok (.invokevirtual 113,3) from by decide +kernel) cr5_113 put_o rfl rfl (Nat.le_of_ble_eq_true rfl) (by show 2≤8; omega) rfl
theorem m5_30 : M5 30 [l0,.val (.int v)] st H Q = M5 33 [l0,.val (.int (v + 1))] st H Q:=w_iinc (show decode kb5 30 = .ok (.iinc 1 1,3) from by decide +kernel) rfl (by decide) rfl
theorem m5_33 : M5 33 ls st H Q = M5 11 ls st H Q:=w_x (show decode kb5 33 = .ok (.goto (-22),3) from by decide +kernel) rfl
theorem m5_36 : M5 36 ls [] H Q = Q none H:=w_vret (show decode kb5 36 = .ok (.return_,1) from by decide +kernel) rfl
theorem m6_0 : M6 0 ls st H Q = M6 1 ls (.int 0::st) H Q:=w_con (show decode kb6 0 = .ok (.iconst 0,1) from by decide +kernel) rfl (by decide)
theorem m6_1u : M6 1 [l0,.unset] ((.int v)::st) H Q = M6 2 [l0,.val (.int v)] st H Q:=w_st (i:=1) (p:=isI) (show decode kb6 1 = .ok (.istore_n 1,1) from by decide +kernel) rfl rfl rfl rfl rfl rfl
theorem m6_2 : M6 2 [l0,.val (.int v)] st H Q = M6 3 [l0,.val (.int v)] (.int v::st) H Q:=w_x (show decode kb6 2 = .ok (.iload_n 1,1) from by decide +kernel) rfl
theorem m6_3 : M6 3 ls st H Q = M6 6 ls (.int 16640::st) H Q:=w_con (show decode kb6 3 = .ok (.sipush 16640,3) from by decide +kernel) rfl (by decide)
theorem m6_6 : M6 6 ls (.int y::.int x::st) H Q = if x < y then M6 9 ls st H Q else M6 22 ls st H Q:=w_icmpN (show decode kb6 6 = .ok (.if_icmp .ge 16,3) from by decide +kernel) (i_ge x y) rfl
theorem m6_9 : M6 9 [.val (.ref r),l1] st H Q = M6 10 [.val (.ref r),l1] (.ref r::st) H Q:=w_x (show decode kb6 9 = .ok (.aload_n 0,1) from by decide +kernel) rfl
theorem m6_10 : M6 10 ls (.ref (b + 1)::st) (put (b + 1) pre s A post) Q = M6 13 ls (.ref ((b + 1) + 4)::st) (put (b + 1) pre s A post) Q:=w_get (show decode kb6 10 = .ok (.getfield 19,3) from by decide +kernel) gf_19 put_o rfl
theorem m6_13 : M6 13 [l0,.val (.int v)] st H Q = M6 14 [l0,.val (.int v)] (.int v::st) H Q:=w_x (show decode kb6 13 = .ok (.iload_n 1,1) from by decide +kernel) rfl
theorem m6_14 : M6 14 ls st H Q = M6 15 ls (.int 0::st) H Q:=w_con (show decode kb6 14 = .ok (.iconst 0,1) from by decide +kernel) rfl (by decide)
theorem m6_15  : M6 15 ls (.int v::.int j::.ref ((b + 1) + 4)::st) (put (b + 1) pre s A post) Q = (inB j (A 3)∧M6 16 ls st (put (b + 1) pre s (ou A 3 (setA (A 3) j v)) post) Q):=w_ist (show decode kb6 15 = .ok (.iastore,1) from by decide +kernel) rfl put_a3 (by omega) rfl put_w3
theorem m6_16 : M6 16 [l0,.val (.int v)] st H Q = M6 19 [l0,.val (.int (v + 1))] st H Q:=w_iinc (show decode kb6 16 = .ok (.iinc 1 1,3) from by decide +kernel) rfl (by decide) rfl
theorem m6_19 : M6 19 ls st H Q = M6 2 ls st H Q:=w_x (show decode kb6 19 = .ok (.goto (-17),3) from by decide +kernel) rfl
theorem m6_22 : M6 22 ls st H Q = M6 23 ls (.int 0::st) H Q:=w_con (show decode kb6 22 = .ok (.iconst 0,1) from by decide +kernel) rfl (by decide)
theorem m6_23i : M6 23 [l0,.val (.int z)] ((.int v)::st) H Q = M6 24 [l0,.val (.int v)] st H Q:=w_st (i:=1) (p:=isI) (show decode kb6 23 = .ok (.istore_n 1,1) from by decide +kernel) rfl rfl rfl rfl rfl rfl
theorem m6_24 : M6 24 [l0,.val (.int v)] st H Q = M6 25 [l0,.val (.int v)] (.int v::st) H Q:=w_x (show decode kb6 24 = .ok (.iload_n 1,1) from by decide +kernel) rfl
theorem m6_25 : M6 25 ls st H Q = M6 27 ls (.int 65::st) H Q:=w_con (show decode kb6 25 = .ok (.bipush 65,2) from by decide +kernel) rfl (by decide)
theorem m6_27 : M6 27 ls (.int y::.int x::st) H Q = if x < y then M6 30 ls st H Q else M6 57 ls st H Q:=w_icmpN (show decode kb6 27 = .ok (.if_icmp .ge 30,3) from by decide +kernel) (i_ge x y) rfl
theorem m6_30 : M6 30 [.val (.ref r),l1] st H Q = M6 31 [.val (.ref r),l1] (.ref r::st) H Q:=w_x (show decode kb6 30 = .ok (.aload_n 0,1) from by decide +kernel) rfl
theorem m6_31 : M6 31 ls (.ref (b + 1)::st) (put (b + 1) pre s A post) Q = M6 34 ls (.ref ((b + 1) + 5)::st) (put (b + 1) pre s A post) Q:=w_get (show decode kb6 31 = .ok (.getfield 22,3) from by decide +kernel) gf_22 put_o rfl
theorem m6_34 : M6 34 [l0,.val (.int v)] st H Q = M6 35 [l0,.val (.int v)] (.int v::st) H Q:=w_x (show decode kb6 34 = .ok (.iload_n 1,1) from by decide +kernel) rfl
theorem m6_35 : M6 35 ls st H Q = M6 36 ls (.int 0::st) H Q:=w_con (show decode kb6 35 = .ok (.iconst 0,1) from by decide +kernel) rfl (by decide)
theorem m6_36  : M6 36 ls (.int v::.int j::.ref ((b + 1) + 5)::st) (put (b + 1) pre s A post) Q = (inB j (A 4)∧M6 37 ls st (put (b + 1) pre s (ou A 4 (setA (A 4) j v)) post) Q):=w_ist (show decode kb6 36 = .ok (.iastore,1) from by decide +kernel) rfl put_a4 (by omega) rfl put_w4
theorem m6_37 : M6 37 [.val (.ref r),l1] st H Q = M6 38 [.val (.ref r),l1] (.ref r::st) H Q:=w_x (show decode kb6 37 = .ok (.aload_n 0,1) from by decide +kernel) rfl
theorem m6_38 : M6 38 ls (.ref (b + 1)::st) (put (b + 1) pre s A post) Q = M6 41 ls (.ref ((b + 1) + 6)::st) (put (b + 1) pre s A post) Q:=w_get (show decode kb6 38 = .ok (.getfield 25,3) from by decide +kernel) gf_25 put_o rfl
theorem m6_41 : M6 41 [l0,.val (.int v)] st H Q = M6 42 [l0,.val (.int v)] (.int v::st) H Q:=w_x (show decode kb6 41 = .ok (.iload_n 1,1) from by decide +kernel) rfl
theorem m6_42 : M6 42 ls st H Q = M6 43 ls (.int 0::st) H Q:=w_con (show decode kb6 42 = .ok (.iconst 0,1) from by decide +kernel) rfl (by decide)
theorem m6_43  : M6 43 ls (.int v::.int j::.ref ((b + 1) + 6)::st) (put (b + 1) pre s A post) Q = (inB j (A 5)∧M6 44 ls st (put (b + 1) pre s (ou A 5 (setA (A 5) j v)) post) Q):=w_ist (show decode kb6 43 = .ok (.iastore,1) from by decide +kernel) rfl put_a5 (by omega) rfl put_w5
theorem m6_44 : M6 44 [.val (.ref r),l1] st H Q = M6 45 [.val (.ref r),l1] (.ref r::st) H Q:=w_x (show decode kb6 44 = .ok (.aload_n 0,1) from by decide +kernel) rfl
theorem m6_45 : M6 45 ls (.ref (b + 1)::st) (put (b + 1) pre s A post) Q = M6 48 ls (.ref ((b + 1) + 7)::st) (put (b + 1) pre s A post) Q:=w_get (show decode kb6 45 = .ok (.getfield 28,3) from by decide +kernel) gf_28 put_o rfl
theorem m6_48 : M6 48 [l0,.val (.int v)] st H Q = M6 49 [l0,.val (.int v)] (.int v::st) H Q:=w_x (show decode kb6 48 = .ok (.iload_n 1,1) from by decide +kernel) rfl
theorem m6_49 : M6 49 ls st H Q = M6 50 ls (.int 0::st) H Q:=w_con (show decode kb6 49 = .ok (.iconst 0,1) from by decide +kernel) rfl (by decide)
theorem m6_50  : M6 50 ls (.int v::.int j::.ref ((b + 1) + 7)::st) (put (b + 1) pre s A post) Q = (inB j (A 6)∧M6 51 ls st (put (b + 1) pre s (ou A 6 (setA (A 6) j v)) post) Q):=w_ist (show decode kb6 50 = .ok (.iastore,1) from by decide +kernel) rfl put_a6 (by omega) rfl put_w6
theorem m6_51 : M6 51 [l0,.val (.int v)] st H Q = M6 54 [l0,.val (.int (v + 1))] st H Q:=w_iinc (show decode kb6 51 = .ok (.iinc 1 1,3) from by decide +kernel) rfl (by decide) rfl
theorem m6_54 : M6 54 ls st H Q = M6 24 ls st H Q:=w_x (show decode kb6 54 = .ok (.goto (-30),3) from by decide +kernel) rfl
theorem m6_57 : M6 57 ls [] H Q = Q none H:=w_vret (show decode kb6 57 = .ok (.return_,1) from by decide +kernel) rfl
theorem m7_0 : M7 0 [l0,.val (.int v),l2,l3,l4,l5,l6,l7] st H Q = M7 1 [l0,.val (.int v),l2,l3,l4,l5,l6,l7] (.int v::st) H Q:=w_x (show decode kb7 0 = .ok (.iload_n 1,1) from by decide +kernel) rfl
theorem m7_1 : M7 1 ls (.int x::st) H Q = if x < 0 then M7 10 ls st H Q else M7 4 ls st H Q:=w_if (show decode kb7 1 = .ok (.ifCond .lt 9,3) from by decide +kernel) (z_lt x) rfl
theorem m7_4 : M7 4 [l0,.val (.int v),l2,l3,l4,l5,l6,l7] st H Q = M7 5 [l0,.val (.int v),l2,l3,l4,l5,l6,l7] (.int v::st) H Q:=w_x (show decode kb7 4 = .ok (.iload_n 1,1) from by decide +kernel) rfl
theorem m7_5 : M7 5 ls st H Q = M7 7 ls (.int 16::st) H Q:=w_con (show decode kb7 5 = .ok (.bipush 16,2) from by decide +kernel) rfl (by decide)
theorem m7_7 : M7 7 ls (.int y::.int x::st) H Q = if x < y then M7 11 ls st H Q else M7 10 ls st H Q:=w_icmp (show decode kb7 7 = .ok (.if_icmp .lt 4,3) from by decide +kernel) (i_lt x y) rfl
theorem m7_10 : M7 10 ls [] H Q = Q none H:=w_vret (show decode kb7 10 = .ok (.return_,1) from by decide +kernel) rfl
theorem m7_11 : M7 11 [.val (.ref r),l1,l2,l3,l4,l5,l6,l7] st H Q = M7 12 [.val (.ref r),l1,l2,l3,l4,l5,l6,l7] (.ref r::st) H Q:=w_x (show decode kb7 11 = .ok (.aload_n 0,1) from by decide +kernel) rfl
theorem m7_12 : M7 12 ls (.ref (b + 1)::st) (put (b + 1) pre s A post) Q = M7 15 ls (.ref ((b + 1) + 2)::st) (put (b + 1) pre s A post) Q:=w_get (show decode kb7 12 = .ok (.getfield 13,3) from by decide +kernel) gf_13 put_o rfl
theorem m7_15 : M7 15 [l0,.val (.int v),l2,l3,l4,l5,l6,l7] st H Q = M7 16 [l0,.val (.int v),l2,l3,l4,l5,l6,l7] (.int v::st) H Q:=w_x (show decode kb7 15 = .ok (.iload_n 1,1) from by decide +kernel) rfl
theorem m7_16  : M7 16 ls (.int j::.ref ((b + 1) + 2)::st) (put (b + 1) pre s A post) Q = (inB j (A 1)∧M7 17 ls (.int (getA (A 1) j)::st) (put (b + 1) pre s A post) Q):=w_ild (show decode kb7 16 = .ok (.iaload,1) from by decide +kernel) rfl put_a1
theorem m7_17u : M7 17 [l0,l1,.unset,l3,l4,l5,l6,l7] ((.int v)::st) H Q = M7 18 [l0,l1,.val (.int v),l3,l4,l5,l6,l7] st H Q:=w_st (i:=2) (p:=isI) (show decode kb7 17 = .ok (.istore_n 2,1) from by decide +kernel) rfl rfl rfl rfl rfl rfl
theorem m7_18 : M7 18 [.val (.ref r),l1,l2,l3,l4,l5,l6,l7] st H Q = M7 19 [.val (.ref r),l1,l2,l3,l4,l5,l6,l7] (.ref r::st) H Q:=w_x (show decode kb7 18 = .ok (.aload_n 0,1) from by decide +kernel) rfl
theorem m7_19 : M7 19 ls (.ref (b + 1)::st) (put (b + 1) pre s A post) Q = M7 22 ls (.ref ((b + 1) + 3)::st) (put (b + 1) pre s A post) Q:=w_get (show decode kb7 19 = .ok (.getfield 16,3) from by decide +kernel) gf_16 put_o rfl
theorem m7_22 : M7 22 [l0,.val (.int v),l2,l3,l4,l5,l6,l7] st H Q = M7 23 [l0,.val (.int v),l2,l3,l4,l5,l6,l7] (.int v::st) H Q:=w_x (show decode kb7 22 = .ok (.iload_n 1,1) from by decide +kernel) rfl
theorem m7_23  : M7 23 ls (.int j::.ref ((b + 1) + 3)::st) (put (b + 1) pre s A post) Q = (inB j (A 2)∧M7 24 ls (.int (getA (A 2) j)::st) (put (b + 1) pre s A post) Q):=w_ild (show decode kb7 23 = .ok (.iaload,1) from by decide +kernel) rfl put_a2
theorem m7_24u : M7 24 [l0,l1,l2,.unset,l4,l5,l6,l7] ((.int v)::st) H Q = M7 25 [l0,l1,l2,.val (.int v),l4,l5,l6,l7] st H Q:=w_st (i:=3) (p:=isI) (show decode kb7 24 = .ok (.istore_n 3,1) from by decide +kernel) rfl rfl rfl rfl rfl rfl
theorem m7_25 : M7 25 ls st H Q = M7 26 ls (.int 0::st) H Q:=w_con (show decode kb7 25 = .ok (.iconst 0,1) from by decide +kernel) rfl (by decide)
theorem m7_26u : M7 26 [l0,l1,l2,l3,.unset,l5,l6,l7] ((.int v)::st) H Q = M7 28 [l0,l1,l2,l3,.val (.int v),l5,l6,l7] st H Q:=w_st (i:=4) (p:=isI) (show decode kb7 26 = .ok (.istore 4,2) from by decide +kernel) rfl rfl rfl rfl rfl rfl
theorem m7_28 : M7 28 ls st H Q = M7 29 ls (.int 0::st) H Q:=w_con (show decode kb7 28 = .ok (.iconst 0,1) from by decide +kernel) rfl (by decide)
theorem m7_29u : M7 29 [l0,l1,l2,l3,l4,.unset,l6,l7] ((.int v)::st) H Q = M7 31 [l0,l1,l2,l3,l4,.val (.int v),l6,l7] st H Q:=w_st (i:=5) (p:=isI) (show decode kb7 29 = .ok (.istore 5,2) from by decide +kernel) rfl rfl rfl rfl rfl rfl
theorem m7_31 : M7 31 [l0,l1,l2,l3,l4,.val (.int v),l6,l7] st H Q = M7 33 [l0,l1,l2,l3,l4,.val (.int v),l6,l7] (.int v::st) H Q:=w_x (show decode kb7 31 = .ok (.iload 5,2) from by decide +kernel) rfl
theorem m7_33 : M7 33 [l0,l1,l2,.val (.int v),l4,l5,l6,l7] st H Q = M7 34 [l0,l1,l2,.val (.int v),l4,l5,l6,l7] (.int v::st) H Q:=w_x (show decode kb7 33 = .ok (.iload_n 3,1) from by decide +kernel) rfl
theorem m7_34 : M7 34 ls (.int y::.int x::st) H Q = if x < y then M7 37 ls st H Q else M7 149 ls st H Q:=w_icmpN (show decode kb7 34 = .ok (.if_icmp .ge 115,3) from by decide +kernel) (i_ge x y) rfl
theorem m7_37 : M7 37 [l0,l1,l2,l3,l4,.val (.int v),l6,l7] st H Q = M7 39 [l0,l1,l2,l3,l4,.val (.int v),l6,l7] (.int v::st) H Q:=w_x (show decode kb7 37 = .ok (.iload 5,2) from by decide +kernel) rfl
theorem m7_39 : M7 39 ls st H Q = M7 41 ls (.int 16::st) H Q:=w_con (show decode kb7 39 = .ok (.bipush 16,2) from by decide +kernel) rfl (by decide)
theorem m7_41 : M7 41 ls (.int y::.int x::st) H Q = if x < y then M7 44 ls st H Q else M7 149 ls st H Q:=w_icmpN (show decode kb7 41 = .ok (.if_icmp .ge 108,3) from by decide +kernel) (i_ge x y) rfl
theorem m7_44 : M7 44 [l0,l1,.val (.int v),l3,l4,l5,l6,l7] st H Q = M7 45 [l0,l1,.val (.int v),l3,l4,l5,l6,l7] (.int v::st) H Q:=w_x (show decode kb7 44 = .ok (.iload_n 2,1) from by decide +kernel) rfl
theorem m7_45 : M7 45 [l0,l1,l2,l3,l4,.val (.int v),l6,l7] st H Q = M7 47 [l0,l1,l2,l3,l4,.val (.int v),l6,l7] (.int v::st) H Q:=w_x (show decode kb7 45 = .ok (.iload 5,2) from by decide +kernel) rfl
theorem m7_47 : M7 47 ls (.int y::.int x::st) H Q = M7 48 ls (.int (x + y)::st) H Q:=w_x (show decode kb7 47 = .ok (.iadd,1) from by decide +kernel) rfl
theorem m7_48u : M7 48 [l0,l1,l2,l3,l4,l5,.unset,l7] ((.int v)::st) H Q = M7 50 [l0,l1,l2,l3,l4,l5,.val (.int v),l7] st H Q:=w_st (i:=6) (p:=isI) (show decode kb7 48 = .ok (.istore 6,2) from by decide +kernel) rfl rfl rfl rfl rfl rfl
theorem m7_48i : M7 48 [l0,l1,l2,l3,l4,l5,.val (.int z),l7] ((.int v)::st) H Q = M7 50 [l0,l1,l2,l3,l4,l5,.val (.int v),l7] st H Q:=w_st (i:=6) (p:=isI) (show decode kb7 48 = .ok (.istore 6,2) from by decide +kernel) rfl rfl rfl rfl rfl rfl
theorem m7_48r : M7 48 [l0,l1,l2,l3,l4,l5,.val (.ref q),l7] ((.int v)::st) H Q = M7 50 [l0,l1,l2,l3,l4,l5,.val (.int v),l7] st H Q:=w_st (i:=6) (p:=isI) (show decode kb7 48 = .ok (.istore 6,2) from by decide +kernel) rfl rfl rfl rfl rfl rfl
theorem m7_48g (h : okS l6) : M7 48 [l0,l1,l2,l3,l4,l5,l6,l7] ((.int v)::st) H Q = M7 50 [l0,l1,l2,l3,l4,l5,.val (.int v),l7] st H Q:=by rcases h with rfl | ⟨z,rfl⟩ <;> first | exact m7_48u | exact m7_48i
theorem m7_50 : M7 50 [l0,l1,l2,l3,l4,l5,.val (.int v),l7] st H Q = M7 52 [l0,l1,l2,l3,l4,l5,.val (.int v),l7] (.int v::st) H Q:=w_x (show decode kb7 50 = .ok (.iload 6,2) from by decide +kernel) rfl
theorem m7_52 : M7 52 ls (.int x::st) H Q = if x < 0 then M7 62 ls st H Q else M7 55 ls st H Q:=w_if (show decode kb7 52 = .ok (.ifCond .lt 10,3) from by decide +kernel) (z_lt x) rfl
theorem m7_55 : M7 55 [l0,l1,l2,l3,l4,l5,.val (.int v),l7] st H Q = M7 57 [l0,l1,l2,l3,l4,l5,.val (.int v),l7] (.int v::st) H Q:=w_x (show decode kb7 55 = .ok (.iload 6,2) from by decide +kernel) rfl
theorem m7_57 : M7 57 ls st H Q = M7 59 ls (.int 64::st) H Q:=w_con (show decode kb7 57 = .ok (.bipush 64,2) from by decide +kernel) rfl (by decide)
theorem m7_59 : M7 59 ls (.int y::.int x::st) H Q = if x < y then M7 63 ls st H Q else M7 62 ls st H Q:=w_icmp (show decode kb7 59 = .ok (.if_icmp .lt 4,3) from by decide +kernel) (i_lt x y) rfl
theorem m7_62 : M7 62 ls [] H Q = Q none H:=w_vret (show decode kb7 62 = .ok (.return_,1) from by decide +kernel) rfl
theorem m7_63 : M7 63 [l0,l1,l2,l3,.val (.int v),l5,l6,l7] st H Q = M7 65 [l0,l1,l2,l3,.val (.int v),l5,l6,l7] (.int v::st) H Q:=w_x (show decode kb7 63 = .ok (.iload 4,2) from by decide +kernel) rfl
theorem m7_65 : M7 65 ls st H Q = M7 68 ls (.int 256::st) H Q:=w_con (show decode kb7 65 = .ok (.sipush 256,3) from by decide +kernel) rfl (by decide)
theorem m7_68 : M7 68 ls (.int y::.int x::st) H Q = M7 69 ls (.int (x * y)::st) H Q:=w_x (show decode kb7 68 = .ok (.imul,1) from by decide +kernel) rfl
theorem m7_69 : M7 69 [.val (.ref r),l1,l2,l3,l4,l5,l6,l7] st H Q = M7 70 [.val (.ref r),l1,l2,l3,l4,l5,l6,l7] (.ref r::st) H Q:=w_x (show decode kb7 69 = .ok (.aload_n 0,1) from by decide +kernel) rfl
theorem m7_70 : M7 70 ls (.ref (b + 1)::st) (put (b + 1) pre s A post) Q = M7 73 ls (.ref ((b + 1) + 1)::st) (put (b + 1) pre s A post) Q:=w_get (show decode kb7 70 = .ok (.getfield 7,3) from by decide +kernel) gf_7 put_o rfl
theorem m7_73 : M7 73 [l0,l1,l2,l3,l4,l5,.val (.int v),l7] st H Q = M7 75 [l0,l1,l2,l3,l4,l5,.val (.int v),l7] (.int v::st) H Q:=w_x (show decode kb7 73 = .ok (.iload 6,2) from by decide +kernel) rfl
theorem m7_75  : M7 75 ls (.int j::.ref ((b + 1) + 1)::st) (put (b + 1) pre s A post) Q = (inB j (A 0)∧M7 76 ls (.int (getA (A 0) j)::st) (put (b + 1) pre s A post) Q):=w_ild (show decode kb7 75 = .ok (.iaload,1) from by decide +kernel) rfl put_a0
theorem m7_76 : M7 76 ls (.int y::.int x::st) H Q = M7 77 ls (.int (x + y)::st) H Q:=w_x (show decode kb7 76 = .ok (.iadd,1) from by decide +kernel) rfl
theorem m7_77u : M7 77 [l0,l1,l2,l3,l4,l5,l6,.unset] ((.int v)::st) H Q = M7 79 [l0,l1,l2,l3,l4,l5,l6,.val (.int v)] st H Q:=w_st (i:=7) (p:=isI) (show decode kb7 77 = .ok (.istore 7,2) from by decide +kernel) rfl rfl rfl rfl rfl rfl
theorem m7_77i : M7 77 [l0,l1,l2,l3,l4,l5,l6,.val (.int z)] ((.int v)::st) H Q = M7 79 [l0,l1,l2,l3,l4,l5,l6,.val (.int v)] st H Q:=w_st (i:=7) (p:=isI) (show decode kb7 77 = .ok (.istore 7,2) from by decide +kernel) rfl rfl rfl rfl rfl rfl
theorem m7_77r : M7 77 [l0,l1,l2,l3,l4,l5,l6,.val (.ref q)] ((.int v)::st) H Q = M7 79 [l0,l1,l2,l3,l4,l5,l6,.val (.int v)] st H Q:=w_st (i:=7) (p:=isI) (show decode kb7 77 = .ok (.istore 7,2) from by decide +kernel) rfl rfl rfl rfl rfl rfl
theorem m7_77g (h : okS l7) : M7 77 [l0,l1,l2,l3,l4,l5,l6,l7] ((.int v)::st) H Q = M7 79 [l0,l1,l2,l3,l4,l5,l6,.val (.int v)] st H Q:=by rcases h with rfl | ⟨z,rfl⟩ <;> first | exact m7_77u | exact m7_77i
theorem m7_79 : M7 79 [l0,l1,l2,l3,l4,l5,l6,.val (.int v)] st H Q = M7 81 [l0,l1,l2,l3,l4,l5,l6,.val (.int v)] (.int v::st) H Q:=w_x (show decode kb7 79 = .ok (.iload 7,2) from by decide +kernel) rfl
theorem m7_81 : M7 81 ls (.int x::st) H Q = if x < 0 then M7 92 ls st H Q else M7 84 ls st H Q:=w_if (show decode kb7 81 = .ok (.ifCond .lt 11,3) from by decide +kernel) (z_lt x) rfl
theorem m7_84 : M7 84 [l0,l1,l2,l3,l4,l5,l6,.val (.int v)] st H Q = M7 86 [l0,l1,l2,l3,l4,l5,l6,.val (.int v)] (.int v::st) H Q:=w_x (show decode kb7 84 = .ok (.iload 7,2) from by decide +kernel) rfl
theorem m7_86 : M7 86 ls st H Q = M7 89 ls (.int 16640::st) H Q:=w_con (show decode kb7 86 = .ok (.sipush 16640,3) from by decide +kernel) rfl (by decide)
theorem m7_89 : M7 89 ls (.int y::.int x::st) H Q = if x < y then M7 93 ls st H Q else M7 92 ls st H Q:=w_icmp (show decode kb7 89 = .ok (.if_icmp .lt 4,3) from by decide +kernel) (i_lt x y) rfl
theorem m7_92 : M7 92 ls [] H Q = Q none H:=w_vret (show decode kb7 92 = .ok (.return_,1) from by decide +kernel) rfl
theorem m7_93 : M7 93 [.val (.ref r),l1,l2,l3,l4,l5,l6,l7] st H Q = M7 94 [.val (.ref r),l1,l2,l3,l4,l5,l6,l7] (.ref r::st) H Q:=w_x (show decode kb7 93 = .ok (.aload_n 0,1) from by decide +kernel) rfl
theorem m7_94 : M7 94 ls (.ref (b + 1)::st) (put (b + 1) pre s A post) Q = M7 97 ls (.ref ((b + 1) + 4)::st) (put (b + 1) pre s A post) Q:=w_get (show decode kb7 94 = .ok (.getfield 19,3) from by decide +kernel) gf_19 put_o rfl
theorem m7_97 : M7 97 [l0,l1,l2,l3,l4,l5,l6,.val (.int v)] st H Q = M7 99 [l0,l1,l2,l3,l4,l5,l6,.val (.int v)] (.int v::st) H Q:=w_x (show decode kb7 97 = .ok (.iload 7,2) from by decide +kernel) rfl
theorem m7_99  : M7 99 ls (.int j::.ref ((b + 1) + 4)::st) (put (b + 1) pre s A post) Q = (inB j (A 3)∧M7 100 ls (.int (getA (A 3) j)::st) (put (b + 1) pre s A post) Q):=w_ild (show decode kb7 99 = .ok (.iaload,1) from by decide +kernel) rfl put_a3
theorem m7_100 : M7 100 ls (.int x::st) H Q = if x = 0 then M7 103 ls st H Q else M7 134 ls st H Q:=w_ifN (show decode kb7 100 = .ok (.ifCond .ne 34,3) from by decide +kernel) (z_ne x) rfl
theorem m7_103 : M7 103 [.val (.ref r),l1,l2,l3,l4,l5,l6,l7] st H Q = M7 104 [.val (.ref r),l1,l2,l3,l4,l5,l6,l7] (.ref r::st) H Q:=w_x (show decode kb7 103 = .ok (.aload_n 0,1) from by decide +kernel) rfl
theorem m7_104 : M7 104 ls (.ref (b + 1)::st) (put (b + 1) pre s A post) Q = M7 107 ls (.int (s 5)::st) (put (b + 1) pre s A post) Q:=w_get (show decode kb7 104 = .ok (.getfield 64,3) from by decide +kernel) gf_64 put_o rfl
theorem m7_107 : M7 107 ls st H Q = M7 109 ls (.int 65::st) H Q:=w_con (show decode kb7 107 = .ok (.bipush 65,2) from by decide +kernel) rfl (by decide)
theorem m7_109 : M7 109 ls (.int y::.int x::st) H Q = if x < y then M7 113 ls st H Q else M7 112 ls st H Q:=w_icmp (show decode kb7 109 = .ok (.if_icmp .lt 4,3) from by decide +kernel) (i_lt x y) rfl
theorem m7_112 : M7 112 ls [] H Q = Q none H:=w_vret (show decode kb7 112 = .ok (.return_,1) from by decide +kernel) rfl
theorem m7_113 : M7 113 [.val (.ref r),l1,l2,l3,l4,l5,l6,l7] st H Q = M7 114 [.val (.ref r),l1,l2,l3,l4,l5,l6,l7] (.ref r::st) H Q:=w_x (show decode kb7 113 = .ok (.aload_n 0,1) from by decide +kernel) rfl
theorem m7_114 : M7 114 ls (.ref (b + 1)::st) (put (b + 1) pre s A post) Q = M7 117 ls (.ref ((b + 1) + 4)::st) (put (b + 1) pre s A post) Q:=w_get (show decode kb7 114 = .ok (.getfield 19,3) from by decide +kernel) gf_19 put_o rfl
theorem m7_117 : M7 117 [l0,l1,l2,l3,l4,l5,l6,.val (.int v)] st H Q = M7 119 [l0,l1,l2,l3,l4,l5,l6,.val (.int v)] (.int v::st) H Q:=w_x (show decode kb7 117 = .ok (.iload 7,2) from by decide +kernel) rfl
theorem m7_119 : M7 119 [.val (.ref r),l1,l2,l3,l4,l5,l6,l7] st H Q = M7 120 [.val (.ref r),l1,l2,l3,l4,l5,l6,l7] (.ref r::st) H Q:=w_x (show decode kb7 119 = .ok (.aload_n 0,1) from by decide +kernel) rfl
theorem m7_120 : M7 120 ls (.ref (b + 1)::st) (put (b + 1) pre s A post) Q = M7 123 ls (.int (s 5)::st) (put (b + 1) pre s A post) Q:=w_get (show decode kb7 120 = .ok (.getfield 64,3) from by decide +kernel) gf_64 put_o rfl
theorem m7_123  : M7 123 ls (.int v::.int j::.ref ((b + 1) + 4)::st) (put (b + 1) pre s A post) Q = (inB j (A 3)∧M7 124 ls st (put (b + 1) pre s (ou A 3 (setA (A 3) j v)) post) Q):=w_ist (show decode kb7 123 = .ok (.iastore,1) from by decide +kernel) rfl put_a3 (by omega) rfl put_w3
theorem m7_124 : M7 124 [.val (.ref r),l1,l2,l3,l4,l5,l6,l7] st H Q = M7 125 [.val (.ref r),l1,l2,l3,l4,l5,l6,l7] (.ref r::st) H Q:=w_x (show decode kb7 124 = .ok (.aload_n 0,1) from by decide +kernel) rfl
theorem m7_125 : M7 125 ls ((.ref r)::st) H Q = M7 126 ls ((.ref r)::(.ref r)::st) H Q:=w_x (show decode kb7 125 = .ok (.dup,1) from by decide +kernel) rfl
theorem m7_126 : M7 126 ls (.ref (b + 1)::st) (put (b + 1) pre s A post) Q = M7 129 ls (.int (s 5)::st) (put (b + 1) pre s A post) Q:=w_get (show decode kb7 126 = .ok (.getfield 64,3) from by decide +kernel) gf_64 put_o rfl
theorem m7_129 : M7 129 ls st H Q = M7 130 ls (.int 1::st) H Q:=w_con (show decode kb7 129 = .ok (.iconst 1,1) from by decide +kernel) rfl (by decide)
theorem m7_130 : M7 130 ls (.int y::.int x::st) H Q = M7 131 ls (.int (x + y)::st) H Q:=w_x (show decode kb7 130 = .ok (.iadd,1) from by decide +kernel) rfl
theorem pf7_64 : pfR tables_1 y7.cls y7.name 64 = some ("StreamSigScanner", 17,.int):=by decide +kernel
theorem m7_131 : M7 131 ls (.int v::.ref (b + 1)::st) (put (b + 1) pre s A post) Q = M7 134 ls st (put (b + 1) pre (ou s 5 v) A post) Q:=w_put (show decode kb7 131 = .ok (.putfield 64,3) from by decide +kernel) pf7_64 put_o (Nat.succ_le_succ (Nat.zero_le _)) (by show 17 < 29; omega) rfl put_s5
theorem m7_134 : M7 134 [.val (.ref r),l1,l2,l3,l4,l5,l6,l7] st H Q = M7 135 [.val (.ref r),l1,l2,l3,l4,l5,l6,l7] (.ref r::st) H Q:=w_x (show decode kb7 134 = .ok (.aload_n 0,1) from by decide +kernel) rfl
theorem m7_135 : M7 135 ls (.ref (b + 1)::st) (put (b + 1) pre s A post) Q = M7 138 ls (.ref ((b + 1) + 4)::st) (put (b + 1) pre s A post) Q:=w_get (show decode kb7 135 = .ok (.getfield 19,3) from by decide +kernel) gf_19 put_o rfl
theorem m7_138 : M7 138 [l0,l1,l2,l3,l4,l5,l6,.val (.int v)] st H Q = M7 140 [l0,l1,l2,l3,l4,l5,l6,.val (.int v)] (.int v::st) H Q:=w_x (show decode kb7 138 = .ok (.iload 7,2) from by decide +kernel) rfl
theorem m7_140  : M7 140 ls (.int j::.ref ((b + 1) + 4)::st) (put (b + 1) pre s A post) Q = (inB j (A 3)∧M7 141 ls (.int (getA (A 3) j)::st) (put (b + 1) pre s A post) Q):=w_ild (show decode kb7 140 = .ok (.iaload,1) from by decide +kernel) rfl put_a3
theorem m7_141i : M7 141 [l0,l1,l2,l3,.val (.int z),l5,l6,l7] ((.int v)::st) H Q = M7 143 [l0,l1,l2,l3,.val (.int v),l5,l6,l7] st H Q:=w_st (i:=4) (p:=isI) (show decode kb7 141 = .ok (.istore 4,2) from by decide +kernel) rfl rfl rfl rfl rfl rfl
theorem m7_143 : M7 143 [l0,l1,l2,l3,l4,.val (.int v),l6,l7] st H Q = M7 146 [l0,l1,l2,l3,l4,.val (.int (v + 1)),l6,l7] st H Q:=w_iinc (show decode kb7 143 = .ok (.iinc 5 1,3) from by decide +kernel) rfl (by decide) rfl
theorem m7_146 : M7 146 ls st H Q = M7 31 ls st H Q:=w_x (show decode kb7 146 = .ok (.goto (-115),3) from by decide +kernel) rfl
theorem m7_149 : M7 149 [l0,l1,l2,l3,.val (.int v),l5,l6,l7] st H Q = M7 151 [l0,l1,l2,l3,.val (.int v),l5,l6,l7] (.int v::st) H Q:=w_x (show decode kb7 149 = .ok (.iload 4,2) from by decide +kernel) rfl
theorem m7_151 : M7 151 ls (.int x::st) H Q = if x < 0 then M7 174 ls st H Q else M7 154 ls st H Q:=w_if (show decode kb7 151 = .ok (.ifCond .lt 23,3) from by decide +kernel) (z_lt x) rfl
theorem m7_154 : M7 154 [l0,l1,l2,l3,.val (.int v),l5,l6,l7] st H Q = M7 156 [l0,l1,l2,l3,.val (.int v),l5,l6,l7] (.int v::st) H Q:=w_x (show decode kb7 154 = .ok (.iload 4,2) from by decide +kernel) rfl
theorem m7_156 : M7 156 ls st H Q = M7 158 ls (.int 65::st) H Q:=w_con (show decode kb7 156 = .ok (.bipush 65,2) from by decide +kernel) rfl (by decide)
theorem m7_158 : M7 158 ls (.int y::.int x::st) H Q = if x < y then M7 161 ls st H Q else M7 174 ls st H Q:=w_icmpN (show decode kb7 158 = .ok (.if_icmp .ge 16,3) from by decide +kernel) (i_ge x y) rfl
theorem m7_161 : M7 161 [.val (.ref r),l1,l2,l3,l4,l5,l6,l7] st H Q = M7 162 [.val (.ref r),l1,l2,l3,l4,l5,l6,l7] (.ref r::st) H Q:=w_x (show decode kb7 161 = .ok (.aload_n 0,1) from by decide +kernel) rfl
theorem m7_162 : M7 162 ls (.ref (b + 1)::st) (put (b + 1) pre s A post) Q = M7 165 ls (.ref ((b + 1) + 6)::st) (put (b + 1) pre s A post) Q:=w_get (show decode kb7 162 = .ok (.getfield 25,3) from by decide +kernel) gf_25 put_o rfl
theorem m7_165 : M7 165 [l0,l1,l2,l3,.val (.int v),l5,l6,l7] st H Q = M7 167 [l0,l1,l2,l3,.val (.int v),l5,l6,l7] (.int v::st) H Q:=w_x (show decode kb7 165 = .ok (.iload 4,2) from by decide +kernel) rfl
theorem m7_167 : M7 167 ls (.int x::.ref q::st) H Q = M7 168 ls (.int x::.ref q::.int x::.ref q::st) H Q:=w_x (show decode kb7 167 = .ok (.dup2,1) from by decide +kernel) rfl
theorem m7_168  : M7 168 ls (.int j::.ref ((b + 1) + 6)::st) (put (b + 1) pre s A post) Q = (inB j (A 5)∧M7 169 ls (.int (getA (A 5) j)::st) (put (b + 1) pre s A post) Q):=w_ild (show decode kb7 168 = .ok (.iaload,1) from by decide +kernel) rfl put_a5
theorem m7_169 : M7 169 ls st H Q = M7 170 ls (.int 1::st) H Q:=w_con (show decode kb7 169 = .ok (.iconst 1,1) from by decide +kernel) rfl (by decide)
theorem m7_170 : M7 170 [l0,.val (.int v),l2,l3,l4,l5,l6,l7] st H Q = M7 171 [l0,.val (.int v),l2,l3,l4,l5,l6,l7] (.int v::st) H Q:=w_x (show decode kb7 170 = .ok (.iload_n 1,1) from by decide +kernel) rfl
theorem m7_171 : M7 171 ls (.int y::.int x::st) H Q = M7 172 ls (.int (x <<< (y &&& 31))::st) H Q:=w_x (show decode kb7 171 = .ok (.ishl,1) from by decide +kernel) rfl
theorem m7_172 : M7 172 ls (.int y::.int x::st) H Q = M7 173 ls (.int (x ||| y)::st) H Q:=w_x (show decode kb7 172 = .ok (.ior,1) from by decide +kernel) rfl
theorem m7_173  : M7 173 ls (.int v::.int j::.ref ((b + 1) + 6)::st) (put (b + 1) pre s A post) Q = (inB j (A 5)∧M7 174 ls st (put (b + 1) pre s (ou A 5 (setA (A 5) j v)) post) Q):=w_ist (show decode kb7 173 = .ok (.iastore,1) from by decide +kernel) rfl put_a5 (by omega) rfl put_w5
theorem m7_174 : M7 174 ls [] H Q = Q none H:=w_vret (show decode kb7 174 = .ok (.return_,1) from by decide +kernel) rfl
theorem m8_0 : M8 0 ls st H Q = M8 1 ls (.int 0::st) H Q:=w_con (show decode kb8 0 = .ok (.iconst 0,1) from by decide +kernel) rfl (by decide)
theorem m8_1u : M8 1 [l0,.unset,l2,l3,l4,l5,l6,l7,l8] ((.int v)::st) H Q = M8 2 [l0,.val (.int v),l2,l3,l4,l5,l6,l7,l8] st H Q:=w_st (i:=1) (p:=isI) (show decode kb8 1 = .ok (.istore_n 1,1) from by decide +kernel) rfl rfl rfl rfl rfl rfl
theorem m8_2 : M8 2 ls st H Q = M8 3 ls (.int 0::st) H Q:=w_con (show decode kb8 2 = .ok (.iconst 0,1) from by decide +kernel) rfl (by decide)
theorem m8_3u : M8 3 [l0,l1,.unset,l3,l4,l5,l6,l7,l8] ((.int v)::st) H Q = M8 4 [l0,l1,.val (.int v),l3,l4,l5,l6,l7,l8] st H Q:=w_st (i:=2) (p:=isI) (show decode kb8 3 = .ok (.istore_n 2,1) from by decide +kernel) rfl rfl rfl rfl rfl rfl
theorem m8_4 : M8 4 [l0,l1,.val (.int v),l3,l4,l5,l6,l7,l8] st H Q = M8 5 [l0,l1,.val (.int v),l3,l4,l5,l6,l7,l8] (.int v::st) H Q:=w_x (show decode kb8 4 = .ok (.iload_n 2,1) from by decide +kernel) rfl
theorem m8_5 : M8 5 ls st H Q = M8 8 ls (.int 256::st) H Q:=w_con (show decode kb8 5 = .ok (.sipush 256,3) from by decide +kernel) rfl (by decide)
theorem m8_8 : M8 8 ls (.int y::.int x::st) H Q = if x < y then M8 11 ls st H Q else M8 57 ls st H Q:=w_icmpN (show decode kb8 8 = .ok (.if_icmp .ge 49,3) from by decide +kernel) (i_ge x y) rfl
theorem m8_11 : M8 11 [.val (.ref r),l1,l2,l3,l4,l5,l6,l7,l8] st H Q = M8 12 [.val (.ref r),l1,l2,l3,l4,l5,l6,l7,l8] (.ref r::st) H Q:=w_x (show decode kb8 11 = .ok (.aload_n 0,1) from by decide +kernel) rfl
theorem m8_12 : M8 12 ls (.ref (b + 1)::st) (put (b + 1) pre s A post) Q = M8 15 ls (.ref ((b + 1) + 4)::st) (put (b + 1) pre s A post) Q:=w_get (show decode kb8 12 = .ok (.getfield 19,3) from by decide +kernel) gf_19 put_o rfl
theorem m8_15 : M8 15 [l0,l1,.val (.int v),l3,l4,l5,l6,l7,l8] st H Q = M8 16 [l0,l1,.val (.int v),l3,l4,l5,l6,l7,l8] (.int v::st) H Q:=w_x (show decode kb8 15 = .ok (.iload_n 2,1) from by decide +kernel) rfl
theorem m8_16  : M8 16 ls (.int j::.ref ((b + 1) + 4)::st) (put (b + 1) pre s A post) Q = (inB j (A 3)∧M8 17 ls (.int (getA (A 3) j)::st) (put (b + 1) pre s A post) Q):=w_ild (show decode kb8 16 = .ok (.iaload,1) from by decide +kernel) rfl put_a3
theorem m8_17u : M8 17 [l0,l1,l2,.unset,l4,l5,l6,l7,l8] ((.int v)::st) H Q = M8 18 [l0,l1,l2,.val (.int v),l4,l5,l6,l7,l8] st H Q:=w_st (i:=3) (p:=isI) (show decode kb8 17 = .ok (.istore_n 3,1) from by decide +kernel) rfl rfl rfl rfl rfl rfl
theorem m8_17i : M8 17 [l0,l1,l2,.val (.int z),l4,l5,l6,l7,l8] ((.int v)::st) H Q = M8 18 [l0,l1,l2,.val (.int v),l4,l5,l6,l7,l8] st H Q:=w_st (i:=3) (p:=isI) (show decode kb8 17 = .ok (.istore_n 3,1) from by decide +kernel) rfl rfl rfl rfl rfl rfl
theorem m8_17r : M8 17 [l0,l1,l2,.val (.ref q),l4,l5,l6,l7,l8] ((.int v)::st) H Q = M8 18 [l0,l1,l2,.val (.int v),l4,l5,l6,l7,l8] st H Q:=w_st (i:=3) (p:=isI) (show decode kb8 17 = .ok (.istore_n 3,1) from by decide +kernel) rfl rfl rfl rfl rfl rfl
theorem m8_17g (h : okS l3) : M8 17 [l0,l1,l2,l3,l4,l5,l6,l7,l8] ((.int v)::st) H Q = M8 18 [l0,l1,l2,.val (.int v),l4,l5,l6,l7,l8] st H Q:=by rcases h with rfl | ⟨z,rfl⟩ <;> first | exact m8_17u | exact m8_17i
theorem m8_18 : M8 18 [l0,l1,l2,.val (.int v),l4,l5,l6,l7,l8] st H Q = M8 19 [l0,l1,l2,.val (.int v),l4,l5,l6,l7,l8] (.int v::st) H Q:=w_x (show decode kb8 18 = .ok (.iload_n 3,1) from by decide +kernel) rfl
theorem m8_19 : M8 19 ls (.int x::st) H Q = if 0 < x then M8 22 ls st H Q else M8 51 ls st H Q:=w_ifN (show decode kb8 19 = .ok (.ifCond .le 32,3) from by decide +kernel) (z_le x) rfl
theorem m8_22 : M8 22 [l0,l1,l2,.val (.int v),l4,l5,l6,l7,l8] st H Q = M8 23 [l0,l1,l2,.val (.int v),l4,l5,l6,l7,l8] (.int v::st) H Q:=w_x (show decode kb8 22 = .ok (.iload_n 3,1) from by decide +kernel) rfl
theorem m8_23 : M8 23 ls st H Q = M8 25 ls (.int 65::st) H Q:=w_con (show decode kb8 23 = .ok (.bipush 65,2) from by decide +kernel) rfl (by decide)
theorem m8_25 : M8 25 ls (.int y::.int x::st) H Q = if x < y then M8 28 ls st H Q else M8 51 ls st H Q:=w_icmpN (show decode kb8 25 = .ok (.if_icmp .ge 26,3) from by decide +kernel) (i_ge x y) rfl
theorem m8_28 : M8 28 [l0,.val (.int v),l2,l3,l4,l5,l6,l7,l8] st H Q = M8 29 [l0,.val (.int v),l2,l3,l4,l5,l6,l7,l8] (.int v::st) H Q:=w_x (show decode kb8 28 = .ok (.iload_n 1,1) from by decide +kernel) rfl
theorem m8_29 : M8 29 ls st H Q = M8 31 ls (.int 65::st) H Q:=w_con (show decode kb8 29 = .ok (.bipush 65,2) from by decide +kernel) rfl (by decide)
theorem m8_31 : M8 31 ls (.int y::.int x::st) H Q = if x < y then M8 34 ls st H Q else M8 51 ls st H Q:=w_icmpN (show decode kb8 31 = .ok (.if_icmp .ge 20,3) from by decide +kernel) (i_ge x y) rfl
theorem m8_34 : M8 34 [.val (.ref r),l1,l2,l3,l4,l5,l6,l7,l8] st H Q = M8 35 [.val (.ref r),l1,l2,l3,l4,l5,l6,l7,l8] (.ref r::st) H Q:=w_x (show decode kb8 34 = .ok (.aload_n 0,1) from by decide +kernel) rfl
theorem m8_35 : M8 35 ls (.ref (b + 1)::st) (put (b + 1) pre s A post) Q = M8 38 ls (.ref ((b + 1) + 5)::st) (put (b + 1) pre s A post) Q:=w_get (show decode kb8 35 = .ok (.getfield 22,3) from by decide +kernel) gf_22 put_o rfl
theorem m8_38 : M8 38 [l0,l1,l2,.val (.int v),l4,l5,l6,l7,l8] st H Q = M8 39 [l0,l1,l2,.val (.int v),l4,l5,l6,l7,l8] (.int v::st) H Q:=w_x (show decode kb8 38 = .ok (.iload_n 3,1) from by decide +kernel) rfl
theorem m8_39 : M8 39 ls st H Q = M8 40 ls (.int 0::st) H Q:=w_con (show decode kb8 39 = .ok (.iconst 0,1) from by decide +kernel) rfl (by decide)
theorem m8_40  : M8 40 ls (.int v::.int j::.ref ((b + 1) + 5)::st) (put (b + 1) pre s A post) Q = (inB j (A 4)∧M8 41 ls st (put (b + 1) pre s (ou A 4 (setA (A 4) j v)) post) Q):=w_ist (show decode kb8 40 = .ok (.iastore,1) from by decide +kernel) rfl put_a4 (by omega) rfl put_w4
theorem m8_41 : M8 41 [.val (.ref r),l1,l2,l3,l4,l5,l6,l7,l8] st H Q = M8 42 [.val (.ref r),l1,l2,l3,l4,l5,l6,l7,l8] (.ref r::st) H Q:=w_x (show decode kb8 41 = .ok (.aload_n 0,1) from by decide +kernel) rfl
theorem m8_42 : M8 42 ls (.ref (b + 1)::st) (put (b + 1) pre s A post) Q = M8 45 ls (.ref ((b + 1) + 7)::st) (put (b + 1) pre s A post) Q:=w_get (show decode kb8 42 = .ok (.getfield 28,3) from by decide +kernel) gf_28 put_o rfl
theorem m8_45 : M8 45 [l0,.val (.int v),l2,l3,l4,l5,l6,l7,l8] st H Q = M8 46 [l0,.val (.int v),l2,l3,l4,l5,l6,l7,l8] (.int v::st) H Q:=w_x (show decode kb8 45 = .ok (.iload_n 1,1) from by decide +kernel) rfl
theorem m8_46 : M8 46 [l0,l1,l2,.val (.int v),l4,l5,l6,l7,l8] st H Q = M8 47 [l0,l1,l2,.val (.int v),l4,l5,l6,l7,l8] (.int v::st) H Q:=w_x (show decode kb8 46 = .ok (.iload_n 3,1) from by decide +kernel) rfl
theorem m8_47  : M8 47 ls (.int v::.int j::.ref ((b + 1) + 7)::st) (put (b + 1) pre s A post) Q = (inB j (A 6)∧M8 48 ls st (put (b + 1) pre s (ou A 6 (setA (A 6) j v)) post) Q):=w_ist (show decode kb8 47 = .ok (.iastore,1) from by decide +kernel) rfl put_a6 (by omega) rfl put_w6
theorem m8_48 : M8 48 [l0,.val (.int v),l2,l3,l4,l5,l6,l7,l8] st H Q = M8 51 [l0,.val (.int (v + 1)),l2,l3,l4,l5,l6,l7,l8] st H Q:=w_iinc (show decode kb8 48 = .ok (.iinc 1 1,3) from by decide +kernel) rfl (by decide) rfl
theorem m8_51 : M8 51 [l0,l1,.val (.int v),l3,l4,l5,l6,l7,l8] st H Q = M8 54 [l0,l1,.val (.int (v + 1)),l3,l4,l5,l6,l7,l8] st H Q:=w_iinc (show decode kb8 51 = .ok (.iinc 2 1,3) from by decide +kernel) rfl (by decide) rfl
theorem m8_54 : M8 54 ls st H Q = M8 4 ls st H Q:=w_x (show decode kb8 54 = .ok (.goto (-50),3) from by decide +kernel) rfl
theorem m8_57 : M8 57 ls st H Q = M8 58 ls (.int 0::st) H Q:=w_con (show decode kb8 57 = .ok (.iconst 0,1) from by decide +kernel) rfl (by decide)
theorem m8_58i : M8 58 [l0,l1,.val (.int z),l3,l4,l5,l6,l7,l8] ((.int v)::st) H Q = M8 59 [l0,l1,.val (.int v),l3,l4,l5,l6,l7,l8] st H Q:=w_st (i:=2) (p:=isI) (show decode kb8 58 = .ok (.istore_n 2,1) from by decide +kernel) rfl rfl rfl rfl rfl rfl
theorem m8_59 : M8 59 [l0,l1,.val (.int v),l3,l4,l5,l6,l7,l8] st H Q = M8 60 [l0,l1,.val (.int v),l3,l4,l5,l6,l7,l8] (.int v::st) H Q:=w_x (show decode kb8 59 = .ok (.iload_n 2,1) from by decide +kernel) rfl
theorem m8_60 : M8 60 [l0,.val (.int v),l2,l3,l4,l5,l6,l7,l8] st H Q = M8 61 [l0,.val (.int v),l2,l3,l4,l5,l6,l7,l8] (.int v::st) H Q:=w_x (show decode kb8 60 = .ok (.iload_n 1,1) from by decide +kernel) rfl
theorem m8_61 : M8 61 ls (.int y::.int x::st) H Q = if x < y then M8 64 ls st H Q else M8 237 ls st H Q:=w_icmpN (show decode kb8 61 = .ok (.if_icmp .ge 176,3) from by decide +kernel) (i_ge x y) rfl
theorem m8_64 : M8 64 [l0,l1,.val (.int v),l3,l4,l5,l6,l7,l8] st H Q = M8 65 [l0,l1,.val (.int v),l3,l4,l5,l6,l7,l8] (.int v::st) H Q:=w_x (show decode kb8 64 = .ok (.iload_n 2,1) from by decide +kernel) rfl
theorem m8_65 : M8 65 ls st H Q = M8 67 ls (.int 65::st) H Q:=w_con (show decode kb8 65 = .ok (.bipush 65,2) from by decide +kernel) rfl (by decide)
theorem m8_67 : M8 67 ls (.int y::.int x::st) H Q = if x < y then M8 70 ls st H Q else M8 237 ls st H Q:=w_icmpN (show decode kb8 67 = .ok (.if_icmp .ge 170,3) from by decide +kernel) (i_ge x y) rfl
theorem m8_70 : M8 70 [.val (.ref r),l1,l2,l3,l4,l5,l6,l7,l8] st H Q = M8 71 [.val (.ref r),l1,l2,l3,l4,l5,l6,l7,l8] (.ref r::st) H Q:=w_x (show decode kb8 70 = .ok (.aload_n 0,1) from by decide +kernel) rfl
theorem m8_71 : M8 71 ls (.ref (b + 1)::st) (put (b + 1) pre s A post) Q = M8 74 ls (.ref ((b + 1) + 7)::st) (put (b + 1) pre s A post) Q:=w_get (show decode kb8 71 = .ok (.getfield 28,3) from by decide +kernel) gf_28 put_o rfl
theorem m8_74 : M8 74 [l0,l1,.val (.int v),l3,l4,l5,l6,l7,l8] st H Q = M8 75 [l0,l1,.val (.int v),l3,l4,l5,l6,l7,l8] (.int v::st) H Q:=w_x (show decode kb8 74 = .ok (.iload_n 2,1) from by decide +kernel) rfl
theorem m8_75  : M8 75 ls (.int j::.ref ((b + 1) + 7)::st) (put (b + 1) pre s A post) Q = (inB j (A 6)∧M8 76 ls (.int (getA (A 6) j)::st) (put (b + 1) pre s A post) Q):=w_ild (show decode kb8 75 = .ok (.iaload,1) from by decide +kernel) rfl put_a6
theorem m8_76u : M8 76 [l0,l1,l2,.unset,l4,l5,l6,l7,l8] ((.int v)::st) H Q = M8 77 [l0,l1,l2,.val (.int v),l4,l5,l6,l7,l8] st H Q:=w_st (i:=3) (p:=isI) (show decode kb8 76 = .ok (.istore_n 3,1) from by decide +kernel) rfl rfl rfl rfl rfl rfl
theorem m8_76i : M8 76 [l0,l1,l2,.val (.int z),l4,l5,l6,l7,l8] ((.int v)::st) H Q = M8 77 [l0,l1,l2,.val (.int v),l4,l5,l6,l7,l8] st H Q:=w_st (i:=3) (p:=isI) (show decode kb8 76 = .ok (.istore_n 3,1) from by decide +kernel) rfl rfl rfl rfl rfl rfl
theorem m8_76r : M8 76 [l0,l1,l2,.val (.ref q),l4,l5,l6,l7,l8] ((.int v)::st) H Q = M8 77 [l0,l1,l2,.val (.int v),l4,l5,l6,l7,l8] st H Q:=w_st (i:=3) (p:=isI) (show decode kb8 76 = .ok (.istore_n 3,1) from by decide +kernel) rfl rfl rfl rfl rfl rfl
theorem m8_76g (h : okS l3) : M8 76 [l0,l1,l2,l3,l4,l5,l6,l7,l8] ((.int v)::st) H Q = M8 77 [l0,l1,l2,.val (.int v),l4,l5,l6,l7,l8] st H Q:=by rcases h with rfl | ⟨z,rfl⟩ <;> first | exact m8_76u | exact m8_76i
theorem m8_77 : M8 77 [l0,l1,.val (.int v),l3,l4,l5,l6,l7,l8] st H Q = M8 80 [l0,l1,.val (.int (v + 1)),l3,l4,l5,l6,l7,l8] st H Q:=w_iinc (show decode kb8 77 = .ok (.iinc 2 1,3) from by decide +kernel) rfl (by decide) rfl
theorem m8_80 : M8 80 [l0,l1,l2,.val (.int v),l4,l5,l6,l7,l8] st H Q = M8 81 [l0,l1,l2,.val (.int v),l4,l5,l6,l7,l8] (.int v::st) H Q:=w_x (show decode kb8 80 = .ok (.iload_n 3,1) from by decide +kernel) rfl
theorem m8_81 : M8 81 ls (.int x::st) H Q = if 0 < x then M8 84 ls st H Q else M8 59 ls st H Q:=w_ifN (show decode kb8 81 = .ok (.ifCond .le (-22),3) from by decide +kernel) (z_le x) rfl
theorem m8_84 : M8 84 [l0,l1,l2,.val (.int v),l4,l5,l6,l7,l8] st H Q = M8 85 [l0,l1,l2,.val (.int v),l4,l5,l6,l7,l8] (.int v::st) H Q:=w_x (show decode kb8 84 = .ok (.iload_n 3,1) from by decide +kernel) rfl
theorem m8_85 : M8 85 ls st H Q = M8 87 ls (.int 65::st) H Q:=w_con (show decode kb8 85 = .ok (.bipush 65,2) from by decide +kernel) rfl (by decide)
theorem m8_87 : M8 87 ls (.int y::.int x::st) H Q = if x < y then M8 93 ls st H Q else M8 90 ls st H Q:=w_icmp (show decode kb8 87 = .ok (.if_icmp .lt 6,3) from by decide +kernel) (i_lt x y) rfl
theorem m8_90 : M8 90 ls st H Q = M8 59 ls st H Q:=w_x (show decode kb8 90 = .ok (.goto (-31),3) from by decide +kernel) rfl
theorem m8_93 : M8 93 [.val (.ref r),l1,l2,l3,l4,l5,l6,l7,l8] st H Q = M8 94 [.val (.ref r),l1,l2,l3,l4,l5,l6,l7,l8] (.ref r::st) H Q:=w_x (show decode kb8 93 = .ok (.aload_n 0,1) from by decide +kernel) rfl
theorem m8_94 : M8 94 ls (.ref (b + 1)::st) (put (b + 1) pre s A post) Q = M8 97 ls (.ref ((b + 1) + 5)::st) (put (b + 1) pre s A post) Q:=w_get (show decode kb8 94 = .ok (.getfield 22,3) from by decide +kernel) gf_22 put_o rfl
theorem m8_97 : M8 97 [l0,l1,l2,.val (.int v),l4,l5,l6,l7,l8] st H Q = M8 98 [l0,l1,l2,.val (.int v),l4,l5,l6,l7,l8] (.int v::st) H Q:=w_x (show decode kb8 97 = .ok (.iload_n 3,1) from by decide +kernel) rfl
theorem m8_98  : M8 98 ls (.int j::.ref ((b + 1) + 5)::st) (put (b + 1) pre s A post) Q = (inB j (A 4)∧M8 99 ls (.int (getA (A 4) j)::st) (put (b + 1) pre s A post) Q):=w_ild (show decode kb8 98 = .ok (.iaload,1) from by decide +kernel) rfl put_a4
theorem m8_99u : M8 99 [l0,l1,l2,l3,.unset,l5,l6,l7,l8] ((.int v)::st) H Q = M8 101 [l0,l1,l2,l3,.val (.int v),l5,l6,l7,l8] st H Q:=w_st (i:=4) (p:=isI) (show decode kb8 99 = .ok (.istore 4,2) from by decide +kernel) rfl rfl rfl rfl rfl rfl
theorem m8_99i : M8 99 [l0,l1,l2,l3,.val (.int z),l5,l6,l7,l8] ((.int v)::st) H Q = M8 101 [l0,l1,l2,l3,.val (.int v),l5,l6,l7,l8] st H Q:=w_st (i:=4) (p:=isI) (show decode kb8 99 = .ok (.istore 4,2) from by decide +kernel) rfl rfl rfl rfl rfl rfl
theorem m8_99r : M8 99 [l0,l1,l2,l3,.val (.ref q),l5,l6,l7,l8] ((.int v)::st) H Q = M8 101 [l0,l1,l2,l3,.val (.int v),l5,l6,l7,l8] st H Q:=w_st (i:=4) (p:=isI) (show decode kb8 99 = .ok (.istore 4,2) from by decide +kernel) rfl rfl rfl rfl rfl rfl
theorem m8_99g (h : okS l4) : M8 99 [l0,l1,l2,l3,l4,l5,l6,l7,l8] ((.int v)::st) H Q = M8 101 [l0,l1,l2,l3,.val (.int v),l5,l6,l7,l8] st H Q:=by rcases h with rfl | ⟨z,rfl⟩ <;> first | exact m8_99u | exact m8_99i
theorem m8_101 : M8 101 [l0,l1,l2,l3,.val (.int v),l5,l6,l7,l8] st H Q = M8 103 [l0,l1,l2,l3,.val (.int v),l5,l6,l7,l8] (.int v::st) H Q:=w_x (show decode kb8 101 = .ok (.iload 4,2) from by decide +kernel) rfl
theorem m8_103 : M8 103 ls (.int x::st) H Q = if x < 0 then M8 113 ls st H Q else M8 106 ls st H Q:=w_if (show decode kb8 103 = .ok (.ifCond .lt 10,3) from by decide +kernel) (z_lt x) rfl
theorem m8_106 : M8 106 [l0,l1,l2,l3,.val (.int v),l5,l6,l7,l8] st H Q = M8 108 [l0,l1,l2,l3,.val (.int v),l5,l6,l7,l8] (.int v::st) H Q:=w_x (show decode kb8 106 = .ok (.iload 4,2) from by decide +kernel) rfl
theorem m8_108 : M8 108 ls st H Q = M8 110 ls (.int 65::st) H Q:=w_con (show decode kb8 108 = .ok (.bipush 65,2) from by decide +kernel) rfl (by decide)
theorem m8_110 : M8 110 ls (.int y::.int x::st) H Q = if x < y then M8 116 ls st H Q else M8 113 ls st H Q:=w_icmp (show decode kb8 110 = .ok (.if_icmp .lt 6,3) from by decide +kernel) (i_lt x y) rfl
theorem m8_113 : M8 113 ls st H Q = M8 114 ls (.int 0::st) H Q:=w_con (show decode kb8 113 = .ok (.iconst 0,1) from by decide +kernel) rfl (by decide)
theorem m8_114i : M8 114 [l0,l1,l2,l3,.val (.int z),l5,l6,l7,l8] ((.int v)::st) H Q = M8 116 [l0,l1,l2,l3,.val (.int v),l5,l6,l7,l8] st H Q:=w_st (i:=4) (p:=isI) (show decode kb8 114 = .ok (.istore 4,2) from by decide +kernel) rfl rfl rfl rfl rfl rfl
theorem m8_116 : M8 116 [.val (.ref r),l1,l2,l3,l4,l5,l6,l7,l8] st H Q = M8 117 [.val (.ref r),l1,l2,l3,l4,l5,l6,l7,l8] (.ref r::st) H Q:=w_x (show decode kb8 116 = .ok (.aload_n 0,1) from by decide +kernel) rfl
theorem m8_117 : M8 117 ls (.ref (b + 1)::st) (put (b + 1) pre s A post) Q = M8 120 ls (.ref ((b + 1) + 6)::st) (put (b + 1) pre s A post) Q:=w_get (show decode kb8 117 = .ok (.getfield 25,3) from by decide +kernel) gf_25 put_o rfl
theorem m8_120 : M8 120 [l0,l1,l2,.val (.int v),l4,l5,l6,l7,l8] st H Q = M8 121 [l0,l1,l2,.val (.int v),l4,l5,l6,l7,l8] (.int v::st) H Q:=w_x (show decode kb8 120 = .ok (.iload_n 3,1) from by decide +kernel) rfl
theorem m8_121 : M8 121 ls (.int x::.ref q::st) H Q = M8 122 ls (.int x::.ref q::.int x::.ref q::st) H Q:=w_x (show decode kb8 121 = .ok (.dup2,1) from by decide +kernel) rfl
theorem m8_122  : M8 122 ls (.int j::.ref ((b + 1) + 6)::st) (put (b + 1) pre s A post) Q = (inB j (A 5)∧M8 123 ls (.int (getA (A 5) j)::st) (put (b + 1) pre s A post) Q):=w_ild (show decode kb8 122 = .ok (.iaload,1) from by decide +kernel) rfl put_a5
theorem m8_123 : M8 123 [.val (.ref r),l1,l2,l3,l4,l5,l6,l7,l8] st H Q = M8 124 [.val (.ref r),l1,l2,l3,l4,l5,l6,l7,l8] (.ref r::st) H Q:=w_x (show decode kb8 123 = .ok (.aload_n 0,1) from by decide +kernel) rfl
theorem m8_124 : M8 124 ls (.ref (b + 1)::st) (put (b + 1) pre s A post) Q = M8 127 ls (.ref ((b + 1) + 6)::st) (put (b + 1) pre s A post) Q:=w_get (show decode kb8 124 = .ok (.getfield 25,3) from by decide +kernel) gf_25 put_o rfl
theorem m8_127 : M8 127 [l0,l1,l2,l3,.val (.int v),l5,l6,l7,l8] st H Q = M8 129 [l0,l1,l2,l3,.val (.int v),l5,l6,l7,l8] (.int v::st) H Q:=w_x (show decode kb8 127 = .ok (.iload 4,2) from by decide +kernel) rfl
theorem m8_129  : M8 129 ls (.int j::.ref ((b + 1) + 6)::st) (put (b + 1) pre s A post) Q = (inB j (A 5)∧M8 130 ls (.int (getA (A 5) j)::st) (put (b + 1) pre s A post) Q):=w_ild (show decode kb8 129 = .ok (.iaload,1) from by decide +kernel) rfl put_a5
theorem m8_130 : M8 130 ls (.int y::.int x::st) H Q = M8 131 ls (.int (x ||| y)::st) H Q:=w_x (show decode kb8 130 = .ok (.ior,1) from by decide +kernel) rfl
theorem m8_131  : M8 131 ls (.int v::.int j::.ref ((b + 1) + 6)::st) (put (b + 1) pre s A post) Q = (inB j (A 5)∧M8 132 ls st (put (b + 1) pre s (ou A 5 (setA (A 5) j v)) post) Q):=w_ist (show decode kb8 131 = .ok (.iastore,1) from by decide +kernel) rfl put_a5 (by omega) rfl put_w5
theorem m8_132 : M8 132 ls st H Q = M8 133 ls (.int 0::st) H Q:=w_con (show decode kb8 132 = .ok (.iconst 0,1) from by decide +kernel) rfl (by decide)
theorem m8_133u : M8 133 [l0,l1,l2,l3,l4,.unset,l6,l7,l8] ((.int v)::st) H Q = M8 135 [l0,l1,l2,l3,l4,.val (.int v),l6,l7,l8] st H Q:=w_st (i:=5) (p:=isI) (show decode kb8 133 = .ok (.istore 5,2) from by decide +kernel) rfl rfl rfl rfl rfl rfl
theorem m8_133i : M8 133 [l0,l1,l2,l3,l4,.val (.int z),l6,l7,l8] ((.int v)::st) H Q = M8 135 [l0,l1,l2,l3,l4,.val (.int v),l6,l7,l8] st H Q:=w_st (i:=5) (p:=isI) (show decode kb8 133 = .ok (.istore 5,2) from by decide +kernel) rfl rfl rfl rfl rfl rfl
theorem m8_133r : M8 133 [l0,l1,l2,l3,l4,.val (.ref q),l6,l7,l8] ((.int v)::st) H Q = M8 135 [l0,l1,l2,l3,l4,.val (.int v),l6,l7,l8] st H Q:=w_st (i:=5) (p:=isI) (show decode kb8 133 = .ok (.istore 5,2) from by decide +kernel) rfl rfl rfl rfl rfl rfl
theorem m8_133g (h : okS l5) : M8 133 [l0,l1,l2,l3,l4,l5,l6,l7,l8] ((.int v)::st) H Q = M8 135 [l0,l1,l2,l3,l4,.val (.int v),l6,l7,l8] st H Q:=by rcases h with rfl | ⟨z,rfl⟩ <;> first | exact m8_133u | exact m8_133i
theorem m8_135 : M8 135 [l0,l1,l2,l3,l4,.val (.int v),l6,l7,l8] st H Q = M8 137 [l0,l1,l2,l3,l4,.val (.int v),l6,l7,l8] (.int v::st) H Q:=w_x (show decode kb8 135 = .ok (.iload 5,2) from by decide +kernel) rfl
theorem m8_137 : M8 137 ls st H Q = M8 140 ls (.int 256::st) H Q:=w_con (show decode kb8 137 = .ok (.sipush 256,3) from by decide +kernel) rfl (by decide)
theorem m8_140 : M8 140 ls (.int y::.int x::st) H Q = if x < y then M8 143 ls st H Q else M8 234 ls st H Q:=w_icmpN (show decode kb8 140 = .ok (.if_icmp .ge 94,3) from by decide +kernel) (i_ge x y) rfl
theorem m8_143 : M8 143 [l0,l1,l2,.val (.int v),l4,l5,l6,l7,l8] st H Q = M8 144 [l0,l1,l2,.val (.int v),l4,l5,l6,l7,l8] (.int v::st) H Q:=w_x (show decode kb8 143 = .ok (.iload_n 3,1) from by decide +kernel) rfl
theorem m8_144 : M8 144 ls st H Q = M8 147 ls (.int 256::st) H Q:=w_con (show decode kb8 144 = .ok (.sipush 256,3) from by decide +kernel) rfl (by decide)
theorem m8_147 : M8 147 ls (.int y::.int x::st) H Q = M8 148 ls (.int (x * y)::st) H Q:=w_x (show decode kb8 147 = .ok (.imul,1) from by decide +kernel) rfl
theorem m8_148 : M8 148 [l0,l1,l2,l3,l4,.val (.int v),l6,l7,l8] st H Q = M8 150 [l0,l1,l2,l3,l4,.val (.int v),l6,l7,l8] (.int v::st) H Q:=w_x (show decode kb8 148 = .ok (.iload 5,2) from by decide +kernel) rfl
theorem m8_150 : M8 150 ls (.int y::.int x::st) H Q = M8 151 ls (.int (x + y)::st) H Q:=w_x (show decode kb8 150 = .ok (.iadd,1) from by decide +kernel) rfl
theorem m8_151u : M8 151 [l0,l1,l2,l3,l4,l5,.unset,l7,l8] ((.int v)::st) H Q = M8 153 [l0,l1,l2,l3,l4,l5,.val (.int v),l7,l8] st H Q:=w_st (i:=6) (p:=isI) (show decode kb8 151 = .ok (.istore 6,2) from by decide +kernel) rfl rfl rfl rfl rfl rfl
theorem m8_151i : M8 151 [l0,l1,l2,l3,l4,l5,.val (.int z),l7,l8] ((.int v)::st) H Q = M8 153 [l0,l1,l2,l3,l4,l5,.val (.int v),l7,l8] st H Q:=w_st (i:=6) (p:=isI) (show decode kb8 151 = .ok (.istore 6,2) from by decide +kernel) rfl rfl rfl rfl rfl rfl
theorem m8_151r : M8 151 [l0,l1,l2,l3,l4,l5,.val (.ref q),l7,l8] ((.int v)::st) H Q = M8 153 [l0,l1,l2,l3,l4,l5,.val (.int v),l7,l8] st H Q:=w_st (i:=6) (p:=isI) (show decode kb8 151 = .ok (.istore 6,2) from by decide +kernel) rfl rfl rfl rfl rfl rfl
theorem m8_151g (h : okS l6) : M8 151 [l0,l1,l2,l3,l4,l5,l6,l7,l8] ((.int v)::st) H Q = M8 153 [l0,l1,l2,l3,l4,l5,.val (.int v),l7,l8] st H Q:=by rcases h with rfl | ⟨z,rfl⟩ <;> first | exact m8_151u | exact m8_151i
theorem m8_153 : M8 153 [.val (.ref r),l1,l2,l3,l4,l5,l6,l7,l8] st H Q = M8 154 [.val (.ref r),l1,l2,l3,l4,l5,l6,l7,l8] (.ref r::st) H Q:=w_x (show decode kb8 153 = .ok (.aload_n 0,1) from by decide +kernel) rfl
theorem m8_154 : M8 154 ls (.ref (b + 1)::st) (put (b + 1) pre s A post) Q = M8 157 ls (.ref ((b + 1) + 4)::st) (put (b + 1) pre s A post) Q:=w_get (show decode kb8 154 = .ok (.getfield 19,3) from by decide +kernel) gf_19 put_o rfl
theorem m8_157 : M8 157 [l0,l1,l2,l3,.val (.int v),l5,l6,l7,l8] st H Q = M8 159 [l0,l1,l2,l3,.val (.int v),l5,l6,l7,l8] (.int v::st) H Q:=w_x (show decode kb8 157 = .ok (.iload 4,2) from by decide +kernel) rfl
theorem m8_159 : M8 159 ls st H Q = M8 162 ls (.int 256::st) H Q:=w_con (show decode kb8 159 = .ok (.sipush 256,3) from by decide +kernel) rfl (by decide)
theorem m8_162 : M8 162 ls (.int y::.int x::st) H Q = M8 163 ls (.int (x * y)::st) H Q:=w_x (show decode kb8 162 = .ok (.imul,1) from by decide +kernel) rfl
theorem m8_163 : M8 163 [l0,l1,l2,l3,l4,.val (.int v),l6,l7,l8] st H Q = M8 165 [l0,l1,l2,l3,l4,.val (.int v),l6,l7,l8] (.int v::st) H Q:=w_x (show decode kb8 163 = .ok (.iload 5,2) from by decide +kernel) rfl
theorem m8_165 : M8 165 ls (.int y::.int x::st) H Q = M8 166 ls (.int (x + y)::st) H Q:=w_x (show decode kb8 165 = .ok (.iadd,1) from by decide +kernel) rfl
theorem m8_166  : M8 166 ls (.int j::.ref ((b + 1) + 4)::st) (put (b + 1) pre s A post) Q = (inB j (A 3)∧M8 167 ls (.int (getA (A 3) j)::st) (put (b + 1) pre s A post) Q):=w_ild (show decode kb8 166 = .ok (.iaload,1) from by decide +kernel) rfl put_a3
theorem m8_167u : M8 167 [l0,l1,l2,l3,l4,l5,l6,.unset,l8] ((.int v)::st) H Q = M8 169 [l0,l1,l2,l3,l4,l5,l6,.val (.int v),l8] st H Q:=w_st (i:=7) (p:=isI) (show decode kb8 167 = .ok (.istore 7,2) from by decide +kernel) rfl rfl rfl rfl rfl rfl
theorem m8_167i : M8 167 [l0,l1,l2,l3,l4,l5,l6,.val (.int z),l8] ((.int v)::st) H Q = M8 169 [l0,l1,l2,l3,l4,l5,l6,.val (.int v),l8] st H Q:=w_st (i:=7) (p:=isI) (show decode kb8 167 = .ok (.istore 7,2) from by decide +kernel) rfl rfl rfl rfl rfl rfl
theorem m8_167r : M8 167 [l0,l1,l2,l3,l4,l5,l6,.val (.ref q),l8] ((.int v)::st) H Q = M8 169 [l0,l1,l2,l3,l4,l5,l6,.val (.int v),l8] st H Q:=w_st (i:=7) (p:=isI) (show decode kb8 167 = .ok (.istore 7,2) from by decide +kernel) rfl rfl rfl rfl rfl rfl
theorem m8_167g (h : okS l7) : M8 167 [l0,l1,l2,l3,l4,l5,l6,l7,l8] ((.int v)::st) H Q = M8 169 [l0,l1,l2,l3,l4,l5,l6,.val (.int v),l8] st H Q:=by rcases h with rfl | ⟨z,rfl⟩ <;> first | exact m8_167u | exact m8_167i
theorem m8_169 : M8 169 [.val (.ref r),l1,l2,l3,l4,l5,l6,l7,l8] st H Q = M8 170 [.val (.ref r),l1,l2,l3,l4,l5,l6,l7,l8] (.ref r::st) H Q:=w_x (show decode kb8 169 = .ok (.aload_n 0,1) from by decide +kernel) rfl
theorem m8_170 : M8 170 ls (.ref (b + 1)::st) (put (b + 1) pre s A post) Q = M8 173 ls (.ref ((b + 1) + 4)::st) (put (b + 1) pre s A post) Q:=w_get (show decode kb8 170 = .ok (.getfield 19,3) from by decide +kernel) gf_19 put_o rfl
theorem m8_173 : M8 173 [l0,l1,l2,l3,l4,l5,.val (.int v),l7,l8] st H Q = M8 175 [l0,l1,l2,l3,l4,l5,.val (.int v),l7,l8] (.int v::st) H Q:=w_x (show decode kb8 173 = .ok (.iload 6,2) from by decide +kernel) rfl
theorem m8_175  : M8 175 ls (.int j::.ref ((b + 1) + 4)::st) (put (b + 1) pre s A post) Q = (inB j (A 3)∧M8 176 ls (.int (getA (A 3) j)::st) (put (b + 1) pre s A post) Q):=w_ild (show decode kb8 175 = .ok (.iaload,1) from by decide +kernel) rfl put_a3
theorem m8_176u : M8 176 [l0,l1,l2,l3,l4,l5,l6,l7,.unset] ((.int v)::st) H Q = M8 178 [l0,l1,l2,l3,l4,l5,l6,l7,.val (.int v)] st H Q:=w_st (i:=8) (p:=isI) (show decode kb8 176 = .ok (.istore 8,2) from by decide +kernel) rfl rfl rfl rfl rfl rfl
theorem m8_176i : M8 176 [l0,l1,l2,l3,l4,l5,l6,l7,.val (.int z)] ((.int v)::st) H Q = M8 178 [l0,l1,l2,l3,l4,l5,l6,l7,.val (.int v)] st H Q:=w_st (i:=8) (p:=isI) (show decode kb8 176 = .ok (.istore 8,2) from by decide +kernel) rfl rfl rfl rfl rfl rfl
theorem m8_176r : M8 176 [l0,l1,l2,l3,l4,l5,l6,l7,.val (.ref q)] ((.int v)::st) H Q = M8 178 [l0,l1,l2,l3,l4,l5,l6,l7,.val (.int v)] st H Q:=w_st (i:=8) (p:=isI) (show decode kb8 176 = .ok (.istore 8,2) from by decide +kernel) rfl rfl rfl rfl rfl rfl
theorem m8_176g (h : okS l8) : M8 176 [l0,l1,l2,l3,l4,l5,l6,l7,l8] ((.int v)::st) H Q = M8 178 [l0,l1,l2,l3,l4,l5,l6,l7,.val (.int v)] st H Q:=by rcases h with rfl | ⟨z,rfl⟩ <;> first | exact m8_176u | exact m8_176i
theorem m8_178 : M8 178 [l0,l1,l2,l3,l4,l5,l6,l7,.val (.int v)] st H Q = M8 180 [l0,l1,l2,l3,l4,l5,l6,l7,.val (.int v)] (.int v::st) H Q:=w_x (show decode kb8 178 = .ok (.iload 8,2) from by decide +kernel) rfl
theorem m8_180 : M8 180 ls (.int x::st) H Q = if 0 < x then M8 183 ls st H Q else M8 219 ls st H Q:=w_ifN (show decode kb8 180 = .ok (.ifCond .le 39,3) from by decide +kernel) (z_le x) rfl
theorem m8_183 : M8 183 [l0,l1,l2,l3,l4,l5,l6,l7,.val (.int v)] st H Q = M8 185 [l0,l1,l2,l3,l4,l5,l6,l7,.val (.int v)] (.int v::st) H Q:=w_x (show decode kb8 183 = .ok (.iload 8,2) from by decide +kernel) rfl
theorem m8_185 : M8 185 ls st H Q = M8 187 ls (.int 65::st) H Q:=w_con (show decode kb8 185 = .ok (.bipush 65,2) from by decide +kernel) rfl (by decide)
theorem m8_187 : M8 187 ls (.int y::.int x::st) H Q = if x < y then M8 190 ls st H Q else M8 219 ls st H Q:=w_icmpN (show decode kb8 187 = .ok (.if_icmp .ge 32,3) from by decide +kernel) (i_ge x y) rfl
theorem m8_190 : M8 190 [.val (.ref r),l1,l2,l3,l4,l5,l6,l7,l8] st H Q = M8 191 [.val (.ref r),l1,l2,l3,l4,l5,l6,l7,l8] (.ref r::st) H Q:=w_x (show decode kb8 190 = .ok (.aload_n 0,1) from by decide +kernel) rfl
theorem m8_191 : M8 191 ls (.ref (b + 1)::st) (put (b + 1) pre s A post) Q = M8 194 ls (.ref ((b + 1) + 5)::st) (put (b + 1) pre s A post) Q:=w_get (show decode kb8 191 = .ok (.getfield 22,3) from by decide +kernel) gf_22 put_o rfl
theorem m8_194 : M8 194 [l0,l1,l2,l3,l4,l5,l6,l7,.val (.int v)] st H Q = M8 196 [l0,l1,l2,l3,l4,l5,l6,l7,.val (.int v)] (.int v::st) H Q:=w_x (show decode kb8 194 = .ok (.iload 8,2) from by decide +kernel) rfl
theorem m8_196 : M8 196 [l0,l1,l2,l3,l4,l5,l6,.val (.int v),l8] st H Q = M8 198 [l0,l1,l2,l3,l4,l5,l6,.val (.int v),l8] (.int v::st) H Q:=w_x (show decode kb8 196 = .ok (.iload 7,2) from by decide +kernel) rfl
theorem m8_198  : M8 198 ls (.int v::.int j::.ref ((b + 1) + 5)::st) (put (b + 1) pre s A post) Q = (inB j (A 4)∧M8 199 ls st (put (b + 1) pre s (ou A 4 (setA (A 4) j v)) post) Q):=w_ist (show decode kb8 198 = .ok (.iastore,1) from by decide +kernel) rfl put_a4 (by omega) rfl put_w4
theorem m8_199 : M8 199 [l0,.val (.int v),l2,l3,l4,l5,l6,l7,l8] st H Q = M8 200 [l0,.val (.int v),l2,l3,l4,l5,l6,l7,l8] (.int v::st) H Q:=w_x (show decode kb8 199 = .ok (.iload_n 1,1) from by decide +kernel) rfl
theorem m8_200 : M8 200 ls st H Q = M8 202 ls (.int 65::st) H Q:=w_con (show decode kb8 200 = .ok (.bipush 65,2) from by decide +kernel) rfl (by decide)
theorem m8_202 : M8 202 ls (.int y::.int x::st) H Q = if x < y then M8 205 ls st H Q else M8 228 ls st H Q:=w_icmpN (show decode kb8 202 = .ok (.if_icmp .ge 26,3) from by decide +kernel) (i_ge x y) rfl
theorem m8_205 : M8 205 [.val (.ref r),l1,l2,l3,l4,l5,l6,l7,l8] st H Q = M8 206 [.val (.ref r),l1,l2,l3,l4,l5,l6,l7,l8] (.ref r::st) H Q:=w_x (show decode kb8 205 = .ok (.aload_n 0,1) from by decide +kernel) rfl
theorem m8_206 : M8 206 ls (.ref (b + 1)::st) (put (b + 1) pre s A post) Q = M8 209 ls (.ref ((b + 1) + 7)::st) (put (b + 1) pre s A post) Q:=w_get (show decode kb8 206 = .ok (.getfield 28,3) from by decide +kernel) gf_28 put_o rfl
theorem m8_209 : M8 209 [l0,.val (.int v),l2,l3,l4,l5,l6,l7,l8] st H Q = M8 210 [l0,.val (.int v),l2,l3,l4,l5,l6,l7,l8] (.int v::st) H Q:=w_x (show decode kb8 209 = .ok (.iload_n 1,1) from by decide +kernel) rfl
theorem m8_210 : M8 210 [l0,l1,l2,l3,l4,l5,l6,l7,.val (.int v)] st H Q = M8 212 [l0,l1,l2,l3,l4,l5,l6,l7,.val (.int v)] (.int v::st) H Q:=w_x (show decode kb8 210 = .ok (.iload 8,2) from by decide +kernel) rfl
theorem m8_212  : M8 212 ls (.int v::.int j::.ref ((b + 1) + 7)::st) (put (b + 1) pre s A post) Q = (inB j (A 6)∧M8 213 ls st (put (b + 1) pre s (ou A 6 (setA (A 6) j v)) post) Q):=w_ist (show decode kb8 212 = .ok (.iastore,1) from by decide +kernel) rfl put_a6 (by omega) rfl put_w6
theorem m8_213 : M8 213 [l0,.val (.int v),l2,l3,l4,l5,l6,l7,l8] st H Q = M8 216 [l0,.val (.int (v + 1)),l2,l3,l4,l5,l6,l7,l8] st H Q:=w_iinc (show decode kb8 213 = .ok (.iinc 1 1,3) from by decide +kernel) rfl (by decide) rfl
theorem m8_216 : M8 216 ls st H Q = M8 228 ls st H Q:=w_x (show decode kb8 216 = .ok (.goto 12,3) from by decide +kernel) rfl
theorem m8_219 : M8 219 [.val (.ref r),l1,l2,l3,l4,l5,l6,l7,l8] st H Q = M8 220 [.val (.ref r),l1,l2,l3,l4,l5,l6,l7,l8] (.ref r::st) H Q:=w_x (show decode kb8 219 = .ok (.aload_n 0,1) from by decide +kernel) rfl
theorem m8_220 : M8 220 ls (.ref (b + 1)::st) (put (b + 1) pre s A post) Q = M8 223 ls (.ref ((b + 1) + 4)::st) (put (b + 1) pre s A post) Q:=w_get (show decode kb8 220 = .ok (.getfield 19,3) from by decide +kernel) gf_19 put_o rfl
theorem m8_223 : M8 223 [l0,l1,l2,l3,l4,l5,.val (.int v),l7,l8] st H Q = M8 225 [l0,l1,l2,l3,l4,l5,.val (.int v),l7,l8] (.int v::st) H Q:=w_x (show decode kb8 223 = .ok (.iload 6,2) from by decide +kernel) rfl
theorem m8_225 : M8 225 [l0,l1,l2,l3,l4,l5,l6,.val (.int v),l8] st H Q = M8 227 [l0,l1,l2,l3,l4,l5,l6,.val (.int v),l8] (.int v::st) H Q:=w_x (show decode kb8 225 = .ok (.iload 7,2) from by decide +kernel) rfl
theorem m8_227  : M8 227 ls (.int v::.int j::.ref ((b + 1) + 4)::st) (put (b + 1) pre s A post) Q = (inB j (A 3)∧M8 228 ls st (put (b + 1) pre s (ou A 3 (setA (A 3) j v)) post) Q):=w_ist (show decode kb8 227 = .ok (.iastore,1) from by decide +kernel) rfl put_a3 (by omega) rfl put_w3
theorem m8_228 : M8 228 [l0,l1,l2,l3,l4,.val (.int v),l6,l7,l8] st H Q = M8 231 [l0,l1,l2,l3,l4,.val (.int (v + 1)),l6,l7,l8] st H Q:=w_iinc (show decode kb8 228 = .ok (.iinc 5 1,3) from by decide +kernel) rfl (by decide) rfl
theorem m8_231 : M8 231 ls st H Q = M8 135 ls st H Q:=w_x (show decode kb8 231 = .ok (.goto (-96),3) from by decide +kernel) rfl
theorem m8_234 : M8 234 ls st H Q = M8 59 ls st H Q:=w_x (show decode kb8 234 = .ok (.goto (-175),3) from by decide +kernel) rfl
theorem m8_237 : M8 237 ls [] H Q = Q none H:=w_vret (show decode kb8 237 = .ok (.return_,1) from by decide +kernel) rfl
theorem m9_0 : M9 0 [l0,.val (.int v)] st H Q = M9 1 [l0,.val (.int v)] (.int v::st) H Q:=w_x (show decode kb9 0 = .ok (.iload_n 1,1) from by decide +kernel) rfl
theorem m9_1_0 : M9 1 ls (.int 0::st) H Q = M9 76 ls st H Q:=w_x (show decode kb9 1 = .ok (.tableswitch 180 0 14 #[75,80,85,90,95,100,105,110,115,120,129,138,154,170,175],75) from by decide +kernel) rfl
theorem m9_1_1 : M9 1 ls (.int 1::st) H Q = M9 81 ls st H Q:=w_x (show decode kb9 1 = .ok (.tableswitch 180 0 14 #[75,80,85,90,95,100,105,110,115,120,129,138,154,170,175],75) from by decide +kernel) rfl
theorem m9_1_2 : M9 1 ls (.int 2::st) H Q = M9 86 ls st H Q:=w_x (show decode kb9 1 = .ok (.tableswitch 180 0 14 #[75,80,85,90,95,100,105,110,115,120,129,138,154,170,175],75) from by decide +kernel) rfl
theorem m9_1_3 : M9 1 ls (.int 3::st) H Q = M9 91 ls st H Q:=w_x (show decode kb9 1 = .ok (.tableswitch 180 0 14 #[75,80,85,90,95,100,105,110,115,120,129,138,154,170,175],75) from by decide +kernel) rfl
theorem m9_1_4 : M9 1 ls (.int 4::st) H Q = M9 96 ls st H Q:=w_x (show decode kb9 1 = .ok (.tableswitch 180 0 14 #[75,80,85,90,95,100,105,110,115,120,129,138,154,170,175],75) from by decide +kernel) rfl
theorem m9_1_5 : M9 1 ls (.int 5::st) H Q = M9 101 ls st H Q:=w_x (show decode kb9 1 = .ok (.tableswitch 180 0 14 #[75,80,85,90,95,100,105,110,115,120,129,138,154,170,175],75) from by decide +kernel) rfl
theorem m9_1_6 : M9 1 ls (.int 6::st) H Q = M9 106 ls st H Q:=w_x (show decode kb9 1 = .ok (.tableswitch 180 0 14 #[75,80,85,90,95,100,105,110,115,120,129,138,154,170,175],75) from by decide +kernel) rfl
theorem m9_1_7 : M9 1 ls (.int 7::st) H Q = M9 111 ls st H Q:=w_x (show decode kb9 1 = .ok (.tableswitch 180 0 14 #[75,80,85,90,95,100,105,110,115,120,129,138,154,170,175],75) from by decide +kernel) rfl
theorem m9_1_8 : M9 1 ls (.int 8::st) H Q = M9 116 ls st H Q:=w_x (show decode kb9 1 = .ok (.tableswitch 180 0 14 #[75,80,85,90,95,100,105,110,115,120,129,138,154,170,175],75) from by decide +kernel) rfl
theorem m9_1_9 : M9 1 ls (.int 9::st) H Q = M9 121 ls st H Q:=w_x (show decode kb9 1 = .ok (.tableswitch 180 0 14 #[75,80,85,90,95,100,105,110,115,120,129,138,154,170,175],75) from by decide +kernel) rfl
theorem m9_1_10 : M9 1 ls (.int 10::st) H Q = M9 130 ls st H Q:=w_x (show decode kb9 1 = .ok (.tableswitch 180 0 14 #[75,80,85,90,95,100,105,110,115,120,129,138,154,170,175],75) from by decide +kernel) rfl
theorem m9_1_11 : M9 1 ls (.int 11::st) H Q = M9 139 ls st H Q:=w_x (show decode kb9 1 = .ok (.tableswitch 180 0 14 #[75,80,85,90,95,100,105,110,115,120,129,138,154,170,175],75) from by decide +kernel) rfl
theorem m9_1_12 : M9 1 ls (.int 12::st) H Q = M9 155 ls st H Q:=w_x (show decode kb9 1 = .ok (.tableswitch 180 0 14 #[75,80,85,90,95,100,105,110,115,120,129,138,154,170,175],75) from by decide +kernel) rfl
theorem m9_1_13 : M9 1 ls (.int 13::st) H Q = M9 171 ls st H Q:=w_x (show decode kb9 1 = .ok (.tableswitch 180 0 14 #[75,80,85,90,95,100,105,110,115,120,129,138,154,170,175],75) from by decide +kernel) rfl
theorem m9_1_14 : M9 1 ls (.int 14::st) H Q = M9 176 ls st H Q:=w_x (show decode kb9 1 = .ok (.tableswitch 180 0 14 #[75,80,85,90,95,100,105,110,115,120,129,138,154,170,175],75) from by decide +kernel) rfl
theorem m9_1_d (hx : x.toInt < 0 ∨ x.toInt > 14) : M9 1 ls (.int x::st) H Q = M9 181 ls st H Q:=w_x (show decode kb9 1 = .ok (.tableswitch 180 0 14 #[75,80,85,90,95,100,105,110,115,120,129,138,154,170,175],75) from by decide +kernel) (by simp only [xstep,sw,hx,if_true]; rfl)
theorem m9_76 : M9 76 [.val (.ref r),l1] st H Q = M9 77 [.val (.ref r),l1] (.ref r::st) H Q:=w_x (show decode kb9 76 = .ok (.aload_n 0,1) from by decide +kernel) rfl
theorem m9_77 : M9 77 ls (.ref (b + 1)::st) (put (b + 1) pre s A post) Q = M9 80 ls (.int (s 7)::st) (put (b + 1) pre s A post) Q:=w_get (show decode kb9 77 = .ok (.getfield 70,3) from by decide +kernel) gf_70 put_o rfl
theorem m9_80 : M9 80 ls (.int z::st) H Q = Q (some (.int z)) H:=w_iret (show decode kb9 80 = .ok (.ireturn,1) from by decide +kernel) rfl
theorem m9_81 : M9 81 [.val (.ref r),l1] st H Q = M9 82 [.val (.ref r),l1] (.ref r::st) H Q:=w_x (show decode kb9 81 = .ok (.aload_n 0,1) from by decide +kernel) rfl
theorem m9_82 : M9 82 ls (.ref (b + 1)::st) (put (b + 1) pre s A post) Q = M9 85 ls (.int (s 8)::st) (put (b + 1) pre s A post) Q:=w_get (show decode kb9 82 = .ok (.getfield 73,3) from by decide +kernel) gf_73 put_o rfl
theorem m9_85 : M9 85 ls (.int z::st) H Q = Q (some (.int z)) H:=w_iret (show decode kb9 85 = .ok (.ireturn,1) from by decide +kernel) rfl
theorem m9_86 : M9 86 [.val (.ref r),l1] st H Q = M9 87 [.val (.ref r),l1] (.ref r::st) H Q:=w_x (show decode kb9 86 = .ok (.aload_n 0,1) from by decide +kernel) rfl
theorem m9_87 : M9 87 ls (.ref (b + 1)::st) (put (b + 1) pre s A post) Q = M9 90 ls (.int (s 9)::st) (put (b + 1) pre s A post) Q:=w_get (show decode kb9 87 = .ok (.getfield 76,3) from by decide +kernel) gf_76 put_o rfl
theorem m9_90 : M9 90 ls (.int z::st) H Q = Q (some (.int z)) H:=w_iret (show decode kb9 90 = .ok (.ireturn,1) from by decide +kernel) rfl
theorem m9_91 : M9 91 [.val (.ref r),l1] st H Q = M9 92 [.val (.ref r),l1] (.ref r::st) H Q:=w_x (show decode kb9 91 = .ok (.aload_n 0,1) from by decide +kernel) rfl
theorem m9_92 : M9 92 ls (.ref (b + 1)::st) (put (b + 1) pre s A post) Q = M9 95 ls (.int (s 10)::st) (put (b + 1) pre s A post) Q:=w_get (show decode kb9 92 = .ok (.getfield 79,3) from by decide +kernel) gf_79 put_o rfl
theorem m9_95 : M9 95 ls (.int z::st) H Q = Q (some (.int z)) H:=w_iret (show decode kb9 95 = .ok (.ireturn,1) from by decide +kernel) rfl
theorem m9_96 : M9 96 [.val (.ref r),l1] st H Q = M9 97 [.val (.ref r),l1] (.ref r::st) H Q:=w_x (show decode kb9 96 = .ok (.aload_n 0,1) from by decide +kernel) rfl
theorem m9_97 : M9 97 ls (.ref (b + 1)::st) (put (b + 1) pre s A post) Q = M9 100 ls (.int (s 11)::st) (put (b + 1) pre s A post) Q:=w_get (show decode kb9 97 = .ok (.getfield 82,3) from by decide +kernel) gf_82 put_o rfl
theorem m9_100 : M9 100 ls (.int z::st) H Q = Q (some (.int z)) H:=w_iret (show decode kb9 100 = .ok (.ireturn,1) from by decide +kernel) rfl
theorem m9_101 : M9 101 [.val (.ref r),l1] st H Q = M9 102 [.val (.ref r),l1] (.ref r::st) H Q:=w_x (show decode kb9 101 = .ok (.aload_n 0,1) from by decide +kernel) rfl
theorem m9_102 : M9 102 ls (.ref (b + 1)::st) (put (b + 1) pre s A post) Q = M9 105 ls (.int (s 16)::st) (put (b + 1) pre s A post) Q:=w_get (show decode kb9 102 = .ok (.getfield 97,3) from by decide +kernel) gf_97 put_o rfl
theorem m9_105 : M9 105 ls (.int z::st) H Q = Q (some (.int z)) H:=w_iret (show decode kb9 105 = .ok (.ireturn,1) from by decide +kernel) rfl
theorem m9_106 : M9 106 [.val (.ref r),l1] st H Q = M9 107 [.val (.ref r),l1] (.ref r::st) H Q:=w_x (show decode kb9 106 = .ok (.aload_n 0,1) from by decide +kernel) rfl
theorem m9_107 : M9 107 ls (.ref (b + 1)::st) (put (b + 1) pre s A post) Q = M9 110 ls (.int (s 2)::st) (put (b + 1) pre s A post) Q:=w_get (show decode kb9 107 = .ok (.getfield 55,3) from by decide +kernel) gf_55 put_o rfl
theorem m9_110 : M9 110 ls (.int z::st) H Q = Q (some (.int z)) H:=w_iret (show decode kb9 110 = .ok (.ireturn,1) from by decide +kernel) rfl
theorem m9_111 : M9 111 [.val (.ref r),l1] st H Q = M9 112 [.val (.ref r),l1] (.ref r::st) H Q:=w_x (show decode kb9 111 = .ok (.aload_n 0,1) from by decide +kernel) rfl
theorem m9_112 : M9 112 ls (.ref (b + 1)::st) (put (b + 1) pre s A post) Q = M9 115 ls (.int (s 3)::st) (put (b + 1) pre s A post) Q:=w_get (show decode kb9 112 = .ok (.getfield 58,3) from by decide +kernel) gf_58 put_o rfl
theorem m9_115 : M9 115 ls (.int z::st) H Q = Q (some (.int z)) H:=w_iret (show decode kb9 115 = .ok (.ireturn,1) from by decide +kernel) rfl
theorem m9_116 : M9 116 [.val (.ref r),l1] st H Q = M9 117 [.val (.ref r),l1] (.ref r::st) H Q:=w_x (show decode kb9 116 = .ok (.aload_n 0,1) from by decide +kernel) rfl
theorem m9_117 : M9 117 ls (.ref (b + 1)::st) (put (b + 1) pre s A post) Q = M9 120 ls (.int (s 4)::st) (put (b + 1) pre s A post) Q:=w_get (show decode kb9 117 = .ok (.getfield 61,3) from by decide +kernel) gf_61 put_o rfl
theorem m9_120 : M9 120 ls (.int z::st) H Q = Q (some (.int z)) H:=w_iret (show decode kb9 120 = .ok (.ireturn,1) from by decide +kernel) rfl
theorem m9_121 : M9 121 [.val (.ref r),l1] st H Q = M9 122 [.val (.ref r),l1] (.ref r::st) H Q:=w_x (show decode kb9 121 = .ok (.aload_n 0,1) from by decide +kernel) rfl
theorem m9_122 : M9 122 [.val (.ref r),l1] st H Q = M9 123 [.val (.ref r),l1] (.ref r::st) H Q:=w_x (show decode kb9 122 = .ok (.aload_n 0,1) from by decide +kernel) rfl
theorem m9_123 : M9 123 ls (.ref (b + 1)::st) (put (b + 1) pre s A post) Q = M9 126 ls (.int (s 1)::st) (put (b + 1) pre s A post) Q:=w_get (show decode kb9 123 = .ok (.getfield 51,3) from by decide +kernel) gf_51 put_o rfl
theorem m9_130 : M9 130 [.val (.ref r),l1] st H Q = M9 131 [.val (.ref r),l1] (.ref r::st) H Q:=w_x (show decode kb9 130 = .ok (.aload_n 0,1) from by decide +kernel) rfl
theorem m9_131 : M9 131 [.val (.ref r),l1] st H Q = M9 132 [.val (.ref r),l1] (.ref r::st) H Q:=w_x (show decode kb9 131 = .ok (.aload_n 0,1) from by decide +kernel) rfl
theorem m9_132 : M9 132 ls (.ref (b + 1)::st) (put (b + 1) pre s A post) Q = M9 135 ls (.int (s 13)::st) (put (b + 1) pre s A post) Q:=w_get (show decode kb9 132 = .ok (.getfield 88,3) from by decide +kernel) gf_88 put_o rfl
theorem m9_139 : M9 139 [.val (.ref r),l1] st H Q = M9 140 [.val (.ref r),l1] (.ref r::st) H Q:=w_x (show decode kb9 139 = .ok (.aload_n 0,1) from by decide +kernel) rfl
theorem m9_140 : M9 140 ls (.ref (b + 1)::st) (put (b + 1) pre s A post) Q = M9 143 ls (.int (s 13)::st) (put (b + 1) pre s A post) Q:=w_get (show decode kb9 140 = .ok (.getfield 88,3) from by decide +kernel) gf_88 put_o rfl
theorem m9_143 : M9 143 ls (.int x::st) H Q = if x = 0 then M9 153 ls st H Q else M9 146 ls st H Q:=w_if (show decode kb9 143 = .ok (.ifCond .eq 10,3) from by decide +kernel) (z_eq x) rfl
theorem m9_146 : M9 146 [.val (.ref r),l1] st H Q = M9 147 [.val (.ref r),l1] (.ref r::st) H Q:=w_x (show decode kb9 146 = .ok (.aload_n 0,1) from by decide +kernel) rfl
theorem m9_147 : M9 147 ls (.ref (b + 1)::st) (put (b + 1) pre s A post) Q = M9 150 ls (.int (s 14)::st) (put (b + 1) pre s A post) Q:=w_get (show decode kb9 147 = .ok (.getfield 91,3) from by decide +kernel) gf_91 put_o rfl
theorem m9_150 : M9 150 ls st H Q = M9 154 ls st H Q:=w_x (show decode kb9 150 = .ok (.goto 4,3) from by decide +kernel) rfl
theorem m9_153 : M9 153 ls st H Q = M9 154 ls (.int (-1)::st) H Q:=w_con (show decode kb9 153 = .ok (.iconst (-1),1) from by decide +kernel) rfl (by decide)
theorem m9_154 : M9 154 ls (.int z::st) H Q = Q (some (.int z)) H:=w_iret (show decode kb9 154 = .ok (.ireturn,1) from by decide +kernel) rfl
theorem m9_155 : M9 155 [.val (.ref r),l1] st H Q = M9 156 [.val (.ref r),l1] (.ref r::st) H Q:=w_x (show decode kb9 155 = .ok (.aload_n 0,1) from by decide +kernel) rfl
theorem m9_156 : M9 156 ls (.ref (b + 1)::st) (put (b + 1) pre s A post) Q = M9 159 ls (.int (s 13)::st) (put (b + 1) pre s A post) Q:=w_get (show decode kb9 156 = .ok (.getfield 88,3) from by decide +kernel) gf_88 put_o rfl
theorem m9_159 : M9 159 ls (.int x::st) H Q = if x = 0 then M9 169 ls st H Q else M9 162 ls st H Q:=w_if (show decode kb9 159 = .ok (.ifCond .eq 10,3) from by decide +kernel) (z_eq x) rfl
theorem m9_162 : M9 162 [.val (.ref r),l1] st H Q = M9 163 [.val (.ref r),l1] (.ref r::st) H Q:=w_x (show decode kb9 162 = .ok (.aload_n 0,1) from by decide +kernel) rfl
theorem m9_163 : M9 163 ls (.ref (b + 1)::st) (put (b + 1) pre s A post) Q = M9 166 ls (.int (s 15)::st) (put (b + 1) pre s A post) Q:=w_get (show decode kb9 163 = .ok (.getfield 94,3) from by decide +kernel) gf_94 put_o rfl
theorem m9_166 : M9 166 ls st H Q = M9 170 ls st H Q:=w_x (show decode kb9 166 = .ok (.goto 4,3) from by decide +kernel) rfl
theorem m9_169 : M9 169 ls st H Q = M9 170 ls (.int 0::st) H Q:=w_con (show decode kb9 169 = .ok (.iconst 0,1) from by decide +kernel) rfl (by decide)
theorem m9_170 : M9 170 ls (.int z::st) H Q = Q (some (.int z)) H:=w_iret (show decode kb9 170 = .ok (.ireturn,1) from by decide +kernel) rfl
theorem m9_171 : M9 171 [.val (.ref r),l1] st H Q = M9 172 [.val (.ref r),l1] (.ref r::st) H Q:=w_x (show decode kb9 171 = .ok (.aload_n 0,1) from by decide +kernel) rfl
theorem m9_172 : M9 172 ls (.ref (b + 1)::st) (put (b + 1) pre s A post) Q = M9 175 ls (.int (s 12)::st) (put (b + 1) pre s A post) Q:=w_get (show decode kb9 172 = .ok (.getfield 85,3) from by decide +kernel) gf_85 put_o rfl
theorem m9_175 : M9 175 ls (.int z::st) H Q = Q (some (.int z)) H:=w_iret (show decode kb9 175 = .ok (.ireturn,1) from by decide +kernel) rfl
theorem m9_176 : M9 176 [.val (.ref r),l1] st H Q = M9 177 [.val (.ref r),l1] (.ref r::st) H Q:=w_x (show decode kb9 176 = .ok (.aload_n 0,1) from by decide +kernel) rfl
theorem m9_177 : M9 177 ls (.ref (b + 1)::st) (put (b + 1) pre s A post) Q = M9 180 ls (.int (s 0)::st) (put (b + 1) pre s A post) Q:=w_get (show decode kb9 177 = .ok (.getfield 47,3) from by decide +kernel) gf_47 put_o rfl
theorem m9_180 : M9 180 ls (.int z::st) H Q = Q (some (.int z)) H:=w_iret (show decode kb9 180 = .ok (.ireturn,1) from by decide +kernel) rfl
theorem m9_181 : M9 181 ls st H Q = M9 182 ls (.int (-1)::st) H Q:=w_con (show decode kb9 181 = .ok (.iconst (-1),1) from by decide +kernel) rfl (by decide)
theorem m9_182 : M9 182 ls (.int z::st) H Q = Q (some (.int z)) H:=w_iret (show decode kb9 182 = .ok (.ireturn,1) from by decide +kernel) rfl
theorem m10_0 : M10 0 [.val (.ref r),l1] st H Q = M10 1 [.val (.ref r),l1] (.ref r::st) H Q:=w_x (show decode kb10 0 = .ok (.aload_n 0,1) from by decide +kernel) rfl
theorem m10_1 : M10 1 ls (.ref (b + 1)::st) (put (b + 1) pre s A post) Q = M10 4 ls (.int (s 1)::st) (put (b + 1) pre s A post) Q:=w_get (show decode kb10 1 = .ok (.getfield 51,3) from by decide +kernel) gf_51 put_o rfl
theorem m10_4 : M10 4 ls (.int x::st) H Q = if x = 0 then M10 7 ls st H Q else M10 9 ls st H Q:=w_ifN (show decode kb10 4 = .ok (.ifCond .ne 5,3) from by decide +kernel) (z_ne x) rfl
theorem m10_7 : M10 7 ls st H Q = M10 8 ls (.int (-1)::st) H Q:=w_con (show decode kb10 7 = .ok (.iconst (-1),1) from by decide +kernel) rfl (by decide)
theorem m10_8 : M10 8 ls (.int z::st) H Q = Q (some (.int z)) H:=w_iret (show decode kb10 8 = .ok (.ireturn,1) from by decide +kernel) rfl
theorem m10_9 : M10 9 [.val (.ref r),l1] st H Q = M10 10 [.val (.ref r),l1] (.ref r::st) H Q:=w_x (show decode kb10 9 = .ok (.aload_n 0,1) from by decide +kernel) rfl
theorem m10_10 : M10 10 ls (.ref (b + 1)::st) (put (b + 1) pre s A post) Q = M10 13 ls (.int (s 13)::st) (put (b + 1) pre s A post) Q:=w_get (show decode kb10 10 = .ok (.getfield 88,3) from by decide +kernel) gf_88 put_o rfl
theorem m10_13 : M10 13 ls (.int x::st) H Q = if x = 0 then M10 18 ls st H Q else M10 16 ls st H Q:=w_if (show decode kb10 13 = .ok (.ifCond .eq 5,3) from by decide +kernel) (z_eq x) rfl
theorem m10_16 : M10 16 ls st H Q = M10 17 ls (.int (-1)::st) H Q:=w_con (show decode kb10 16 = .ok (.iconst (-1),1) from by decide +kernel) rfl (by decide)
theorem m10_17 : M10 17 ls (.int z::st) H Q = Q (some (.int z)) H:=w_iret (show decode kb10 17 = .ok (.ireturn,1) from by decide +kernel) rfl
theorem m10_18 : M10 18 [.val (.ref r),l1] st H Q = M10 19 [.val (.ref r),l1] (.ref r::st) H Q:=w_x (show decode kb10 18 = .ok (.aload_n 0,1) from by decide +kernel) rfl
theorem m10_19 : M10 19 [l0,.val (.int v)] st H Q = M10 20 [l0,.val (.int v)] (.int v::st) H Q:=w_x (show decode kb10 19 = .ok (.iload_n 1,1) from by decide +kernel) rfl
theorem cr10_117 : vR tables_1 dn y10 117 = some (true,y11,prog_1_method_23_code,2,(some .boolean),1,0):=pR_of (cR_of (by decide +kernel) rc_11 dn_11 dn_10 (sig:=⟨[.int],some .boolean⟩) (by decide +kernel) (by decide +kernel) rfl rfl) (by decide +kernel) (by decide +kernel)
theorem m10_20 (a0 : Int32) : M10 20 ls [.int a0,.ref (b + 1)] (put (b + 1) pre s A post) Q = M11 0 [.val (.ref (b + 1)),.val (.int a0)] [] (put (b + 1) pre s A post) (fun v H1 => M10 23 ls (v.toList ++ []) H1 Q):=w_virt (as:=[.int a0]) (rest:=[]) (a:=(b + 1)) (show decode kb10 20 = .ok (.invokevirtual 117,3) from by decide +kernel) cr10_117 put_o rfl rfl (Nat.le_of_ble_eq_true rfl) (by show 2≤2; omega) rfl
theorem m10_23 : M10 23 ls (.int x::st) H Q = if x = 0 then M10 26 ls st H Q else M10 29 ls st H Q:=w_ifN (show decode kb10 23 = .ok (.ifCond .ne 6,3) from by decide +kernel) (z_ne x) rfl
theorem m10_26 : M10 26 ls st H Q = M10 28 ls (.int (-5)::st) H Q:=w_con (show decode kb10 26 = .ok (.bipush (-5),2) from by decide +kernel) rfl (by decide)
theorem m10_28 : M10 28 ls (.int z::st) H Q = Q (some (.int z)) H:=w_iret (show decode kb10 28 = .ok (.ireturn,1) from by decide +kernel) rfl
theorem m10_29 : M10 29 [.val (.ref r),l1] st H Q = M10 30 [.val (.ref r),l1] (.ref r::st) H Q:=w_x (show decode kb10 29 = .ok (.aload_n 0,1) from by decide +kernel) rfl
theorem m10_30 : M10 30 ls st H Q = M10 31 ls (.int 1::st) H Q:=w_con (show decode kb10 30 = .ok (.iconst 1,1) from by decide +kernel) rfl (by decide)
theorem pf10_88 : pfR tables_1 y10.cls y10.name 88 = some ("StreamSigScanner", 25,.boolean):=by decide +kernel
theorem m10_31 : M10 31 ls (.int v::.ref (b + 1)::st) (put (b + 1) pre s A post) Q = M10 34 ls st (put (b + 1) pre (ou s 13 (nar .boolean v)) A post) Q:=w_put (show decode kb10 31 = .ok (.putfield 88,3) from by decide +kernel) pf10_88 put_o (Nat.succ_le_succ (Nat.zero_le _)) (by show 25 < 29; omega) rfl put_s13
theorem m10_34 : M10 34 [.val (.ref r),l1] st H Q = M10 35 [.val (.ref r),l1] (.ref r::st) H Q:=w_x (show decode kb10 34 = .ok (.aload_n 0,1) from by decide +kernel) rfl
theorem m10_35 : M10 35 [l0,.val (.int v)] st H Q = M10 36 [l0,.val (.int v)] (.int v::st) H Q:=w_x (show decode kb10 35 = .ok (.iload_n 1,1) from by decide +kernel) rfl
theorem pf10_91 : pfR tables_1 y10.cls y10.name 91 = some ("StreamSigScanner", 26,.int):=by decide +kernel
theorem m10_36 : M10 36 ls (.int v::.ref (b + 1)::st) (put (b + 1) pre s A post) Q = M10 39 ls st (put (b + 1) pre (ou s 14 v) A post) Q:=w_put (show decode kb10 36 = .ok (.putfield 91,3) from by decide +kernel) pf10_91 put_o (Nat.succ_le_succ (Nat.zero_le _)) (by show 26 < 29; omega) rfl put_s14
theorem m10_39 : M10 39 [.val (.ref r),l1] st H Q = M10 40 [.val (.ref r),l1] (.ref r::st) H Q:=w_x (show decode kb10 39 = .ok (.aload_n 0,1) from by decide +kernel) rfl
theorem m10_40 : M10 40 ls st H Q = M10 41 ls (.int 0::st) H Q:=w_con (show decode kb10 40 = .ok (.iconst 0,1) from by decide +kernel) rfl (by decide)
theorem pf10_94 : pfR tables_1 y10.cls y10.name 94 = some ("StreamSigScanner", 27,.int):=by decide +kernel
theorem m10_41 : M10 41 ls (.int v::.ref (b + 1)::st) (put (b + 1) pre s A post) Q = M10 44 ls st (put (b + 1) pre (ou s 15 v) A post) Q:=w_put (show decode kb10 41 = .ok (.putfield 94,3) from by decide +kernel) pf10_94 put_o (Nat.succ_le_succ (Nat.zero_le _)) (by show 27 < 29; omega) rfl put_s15
theorem m10_44 : M10 44 ls st H Q = M10 45 ls (.int 0::st) H Q:=w_con (show decode kb10 44 = .ok (.iconst 0,1) from by decide +kernel) rfl (by decide)
theorem m10_45 : M10 45 ls (.int z::st) H Q = Q (some (.int z)) H:=w_iret (show decode kb10 45 = .ok (.ireturn,1) from by decide +kernel) rfl
theorem m11_0 : M11 0 [l0,.val (.int v)] st H Q = M11 1 [l0,.val (.int v)] (.int v::st) H Q:=w_x (show decode kb11 0 = .ok (.iload_n 1,1) from by decide +kernel) rfl
theorem m11_1 : M11 1 ls (.int x::st) H Q = if x < 0 then M11 15 ls st H Q else M11 4 ls st H Q:=w_if (show decode kb11 1 = .ok (.ifCond .lt 14,3) from by decide +kernel) (z_lt x) rfl
theorem m11_4 : M11 4 [l0,.val (.int v)] st H Q = M11 5 [l0,.val (.int v)] (.int v::st) H Q:=w_x (show decode kb11 4 = .ok (.iload_n 1,1) from by decide +kernel) rfl
theorem m11_5 : M11 5 ls st H Q = M11 8 ls (.int 256::st) H Q:=w_con (show decode kb11 5 = .ok (.sipush 256,3) from by decide +kernel) rfl (by decide)
theorem m11_8 : M11 8 ls (.int y::.int x::st) H Q = if x < y then M11 11 ls st H Q else M11 15 ls st H Q:=w_icmpN (show decode kb11 8 = .ok (.if_icmp .ge 7,3) from by decide +kernel) (i_ge x y) rfl
theorem m11_11 : M11 11 ls st H Q = M11 12 ls (.int 1::st) H Q:=w_con (show decode kb11 11 = .ok (.iconst 1,1) from by decide +kernel) rfl (by decide)
theorem m11_12 : M11 12 ls st H Q = M11 16 ls st H Q:=w_x (show decode kb11 12 = .ok (.goto 4,3) from by decide +kernel) rfl
theorem m11_15 : M11 15 ls st H Q = M11 16 ls (.int 0::st) H Q:=w_con (show decode kb11 15 = .ok (.iconst 0,1) from by decide +kernel) rfl (by decide)
theorem m11_16 : M11 16 ls (.int z::st) H Q = Q (some (.int (nar .boolean z))) H:=w_iretN (show decode kb11 16 = .ok (.ireturn,1) from by decide +kernel) rfl (by simp)
theorem m12_0 : M12 0 [.val (.ref r),l1] st H Q = M12 1 [.val (.ref r),l1] (.ref r::st) H Q:=w_x (show decode kb12 0 = .ok (.aload_n 0,1) from by decide +kernel) rfl
theorem m12_1 : M12 1 [l0,.val (.int v)] st H Q = M12 2 [l0,.val (.int v)] (.int v::st) H Q:=w_x (show decode kb12 1 = .ok (.iload_n 1,1) from by decide +kernel) rfl
theorem cr12_117 : vR tables_1 dn y12 117 = some (true,y11,prog_1_method_23_code,2,(some .boolean),1,0):=pR_of (cR_of (by decide +kernel) rc_11 dn_11 dn_12 (sig:=⟨[.int],some .boolean⟩) (by decide +kernel) (by decide +kernel) rfl rfl) (by decide +kernel) (by decide +kernel)
theorem m12_2 (a0 : Int32) : M12 2 ls [.int a0,.ref (b + 1)] (put (b + 1) pre s A post) Q = M11 0 [.val (.ref (b + 1)),.val (.int a0)] [] (put (b + 1) pre s A post) (fun v H1 => M12 5 ls (v.toList ++ []) H1 Q):=w_virt (as:=[.int a0]) (rest:=[]) (a:=(b + 1)) (show decode kb12 2 = .ok (.invokevirtual 117,3) from by decide +kernel) cr12_117 put_o rfl rfl (Nat.le_of_ble_eq_true rfl) (by show 2≤2; omega) rfl
theorem m12_5 : M12 5 ls (.int x::st) H Q = if x = 0 then M12 8 ls st H Q else M12 10 ls st H Q:=w_ifN (show decode kb12 5 = .ok (.ifCond .ne 5,3) from by decide +kernel) (z_ne x) rfl
theorem m12_8 : M12 8 ls st H Q = M12 9 ls (.int (-1)::st) H Q:=w_con (show decode kb12 8 = .ok (.iconst (-1),1) from by decide +kernel) rfl (by decide)
theorem m12_9 : M12 9 ls (.int z::st) H Q = Q (some (.int z)) H:=w_iret (show decode kb12 9 = .ok (.ireturn,1) from by decide +kernel) rfl
theorem m12_10 : M12 10 [.val (.ref r),l1] st H Q = M12 11 [.val (.ref r),l1] (.ref r::st) H Q:=w_x (show decode kb12 10 = .ok (.aload_n 0,1) from by decide +kernel) rfl
theorem m12_11 : M12 11 ls (.ref (b + 1)::st) (put (b + 1) pre s A post) Q = M12 14 ls (.ref ((b + 1) + 8)::st) (put (b + 1) pre s A post) Q:=w_get (show decode kb12 11 = .ok (.getfield 31,3) from by decide +kernel) gf_31 put_o rfl
theorem m12_14 : M12 14 [l0,.val (.int v)] st H Q = M12 15 [l0,.val (.int v)] (.int v::st) H Q:=w_x (show decode kb12 14 = .ok (.iload_n 1,1) from by decide +kernel) rfl
theorem m12_15  : M12 15 ls (.int j::.ref ((b + 1) + 8)::st) (put (b + 1) pre s A post) Q = (inB j (A 7)∧M12 16 ls (.int (getA (A 7) j)::st) (put (b + 1) pre s A post) Q):=w_ild (show decode kb12 15 = .ok (.baload,1) from by decide +kernel) rfl put_a7
theorem m12_16 : M12 16 ls (.int x::st) H Q = if x = 0 then M12 19 ls st H Q else M12 21 ls st H Q:=w_ifN (show decode kb12 16 = .ok (.ifCond .ne 5,3) from by decide +kernel) (z_ne x) rfl
theorem m12_19 : M12 19 ls st H Q = M12 20 ls (.int (-1)::st) H Q:=w_con (show decode kb12 19 = .ok (.iconst (-1),1) from by decide +kernel) rfl (by decide)
theorem m12_20 : M12 20 ls (.int z::st) H Q = Q (some (.int z)) H:=w_iret (show decode kb12 20 = .ok (.ireturn,1) from by decide +kernel) rfl
theorem m12_21 : M12 21 [.val (.ref r),l1] st H Q = M12 22 [.val (.ref r),l1] (.ref r::st) H Q:=w_x (show decode kb12 21 = .ok (.aload_n 0,1) from by decide +kernel) rfl
theorem m12_22 : M12 22 ls (.ref (b + 1)::st) (put (b + 1) pre s A post) Q = M12 25 ls (.ref ((b + 1) + 9)::st) (put (b + 1) pre s A post) Q:=w_get (show decode kb12 22 = .ok (.getfield 35,3) from by decide +kernel) gf_35 put_o rfl
theorem m12_25 : M12 25 [l0,.val (.int v)] st H Q = M12 26 [l0,.val (.int v)] (.int v::st) H Q:=w_x (show decode kb12 25 = .ok (.iload_n 1,1) from by decide +kernel) rfl
theorem m12_26  : M12 26 ls (.int j::.ref ((b + 1) + 9)::st) (put (b + 1) pre s A post) Q = (inB j (A 8)∧M12 27 ls (.int (getA (A 8) j)::st) (put (b + 1) pre s A post) Q):=w_ild (show decode kb12 26 = .ok (.iaload,1) from by decide +kernel) rfl put_a8
theorem m12_27 : M12 27 ls (.int z::st) H Q = Q (some (.int z)) H:=w_iret (show decode kb12 27 = .ok (.ireturn,1) from by decide +kernel) rfl
theorem m13_0 : M13 0 [.val (.ref r),l1] st H Q = M13 1 [.val (.ref r),l1] (.ref r::st) H Q:=w_x (show decode kb13 0 = .ok (.aload_n 0,1) from by decide +kernel) rfl
theorem m13_1 : M13 1 ls (.ref (b + 1)::st) (put (b + 1) pre s A post) Q = M13 4 ls (.int (s 13)::st) (put (b + 1) pre s A post) Q:=w_get (show decode kb13 1 = .ok (.getfield 88,3) from by decide +kernel) gf_88 put_o rfl
theorem m13_4 : M13 4 ls (.int x::st) H Q = if x = 0 then M13 7 ls st H Q else M13 9 ls st H Q:=w_ifN (show decode kb13 4 = .ok (.ifCond .ne 5,3) from by decide +kernel) (z_ne x) rfl
theorem m13_7 : M13 7 ls st H Q = M13 8 ls (.int (-1)::st) H Q:=w_con (show decode kb13 7 = .ok (.iconst (-1),1) from by decide +kernel) rfl (by decide)
theorem m13_8 : M13 8 ls (.int z::st) H Q = Q (some (.int z)) H:=w_iret (show decode kb13 8 = .ok (.ireturn,1) from by decide +kernel) rfl
theorem m13_9 : M13 9 [.val (.ref r),l1] st H Q = M13 10 [.val (.ref r),l1] (.ref r::st) H Q:=w_x (show decode kb13 9 = .ok (.aload_n 0,1) from by decide +kernel) rfl
theorem m13_10 : M13 10 [l0,.val (.int v)] st H Q = M13 11 [l0,.val (.int v)] (.int v::st) H Q:=w_x (show decode kb13 10 = .ok (.iload_n 1,1) from by decide +kernel) rfl
theorem cr13_100 : vR tables_1 dn y13 100 = some (true,y2,prog_1_method_22_code,2,(some .boolean),1,0):=pR_of (cR_of (by decide +kernel) rc_2 dn_2 dn_13 (sig:=⟨[.int],some .boolean⟩) (by decide +kernel) (by decide +kernel) rfl rfl) (by decide +kernel) (by decide +kernel)
theorem m13_11 (a0 : Int32) : M13 11 ls [.int a0,.ref (b + 1)] (put (b + 1) pre s A post) Q = M2 0 [.val (.ref (b + 1)),.val (.int a0)] [] (put (b + 1) pre s A post) (fun v H1 => M13 14 ls (v.toList ++ []) H1 Q):=w_virt (as:=[.int a0]) (rest:=[]) (a:=(b + 1)) (show decode kb13 11 = .ok (.invokevirtual 100,3) from by decide +kernel) cr13_100 put_o rfl rfl (Nat.le_of_ble_eq_true rfl) (by show 2≤2; omega) rfl
theorem m13_14 : M13 14 ls (.int x::st) H Q = if x = 0 then M13 17 ls st H Q else M13 20 ls st H Q:=w_ifN (show decode kb13 14 = .ok (.ifCond .ne 6,3) from by decide +kernel) (z_ne x) rfl
theorem m13_17 : M13 17 ls st H Q = M13 19 ls (.int (-2)::st) H Q:=w_con (show decode kb13 17 = .ok (.bipush (-2),2) from by decide +kernel) rfl (by decide)
theorem m13_19 : M13 19 ls (.int z::st) H Q = Q (some (.int z)) H:=w_iret (show decode kb13 19 = .ok (.ireturn,1) from by decide +kernel) rfl
theorem m13_20 : M13 20 [.val (.ref r),l1] st H Q = M13 21 [.val (.ref r),l1] (.ref r::st) H Q:=w_x (show decode kb13 20 = .ok (.aload_n 0,1) from by decide +kernel) rfl
theorem m13_21 : M13 21 ls (.ref (b + 1)::st) (put (b + 1) pre s A post) Q = M13 24 ls (.int (s 15)::st) (put (b + 1) pre s A post) Q:=w_get (show decode kb13 21 = .ok (.getfield 94,3) from by decide +kernel) gf_94 put_o rfl
theorem m13_24 : M13 24 ls st H Q = M13 26 ls (.int 16::st) H Q:=w_con (show decode kb13 24 = .ok (.bipush 16,2) from by decide +kernel) rfl (by decide)
theorem m13_26 : M13 26 ls (.int y::.int x::st) H Q = if x < y then M13 32 ls st H Q else M13 29 ls st H Q:=w_icmp (show decode kb13 26 = .ok (.if_icmp .lt 6,3) from by decide +kernel) (i_lt x y) rfl
theorem m13_29 : M13 29 ls st H Q = M13 31 ls (.int (-3)::st) H Q:=w_con (show decode kb13 29 = .ok (.bipush (-3),2) from by decide +kernel) rfl (by decide)
theorem m13_31 : M13 31 ls (.int z::st) H Q = Q (some (.int z)) H:=w_iret (show decode kb13 31 = .ok (.ireturn,1) from by decide +kernel) rfl
theorem m13_32 : M13 32 [.val (.ref r),l1] st H Q = M13 33 [.val (.ref r),l1] (.ref r::st) H Q:=w_x (show decode kb13 32 = .ok (.aload_n 0,1) from by decide +kernel) rfl
theorem m13_33 : M13 33 ls (.ref (b + 1)::st) (put (b + 1) pre s A post) Q = M13 36 ls (.int (s 14)::st) (put (b + 1) pre s A post) Q:=w_get (show decode kb13 33 = .ok (.getfield 91,3) from by decide +kernel) gf_91 put_o rfl
theorem m13_36 : M13 36 [.val (.ref r),l1] st H Q = M13 37 [.val (.ref r),l1] (.ref r::st) H Q:=w_x (show decode kb13 36 = .ok (.aload_n 0,1) from by decide +kernel) rfl
theorem m13_37 : M13 37 ls (.ref (b + 1)::st) (put (b + 1) pre s A post) Q = M13 40 ls (.int (s 15)::st) (put (b + 1) pre s A post) Q:=w_get (show decode kb13 37 = .ok (.getfield 94,3) from by decide +kernel) gf_94 put_o rfl
theorem m13_40 : M13 40 ls (.int y::.int x::st) H Q = M13 41 ls (.int (x + y)::st) H Q:=w_x (show decode kb13 40 = .ok (.iadd,1) from by decide +kernel) rfl
theorem m13_41 : M13 41 ls st H Q = M13 44 ls (.int 256::st) H Q:=w_con (show decode kb13 41 = .ok (.sipush 256,3) from by decide +kernel) rfl (by decide)
theorem m13_44 : M13 44 ls (.int y::.int x::st) H Q = if x < y then M13 50 ls st H Q else M13 47 ls st H Q:=w_icmp (show decode kb13 44 = .ok (.if_icmp .lt 6,3) from by decide +kernel) (i_lt x y) rfl
theorem m13_47 : M13 47 ls st H Q = M13 49 ls (.int (-5)::st) H Q:=w_con (show decode kb13 47 = .ok (.bipush (-5),2) from by decide +kernel) rfl (by decide)
theorem m13_49 : M13 49 ls (.int z::st) H Q = Q (some (.int z)) H:=w_iret (show decode kb13 49 = .ok (.ireturn,1) from by decide +kernel) rfl
theorem m13_50 : M13 50 [.val (.ref r),l1] st H Q = M13 51 [.val (.ref r),l1] (.ref r::st) H Q:=w_x (show decode kb13 50 = .ok (.aload_n 0,1) from by decide +kernel) rfl
theorem m13_51 : M13 51 ls (.ref (b + 1)::st) (put (b + 1) pre s A post) Q = M13 54 ls (.int (s 15)::st) (put (b + 1) pre s A post) Q:=w_get (show decode kb13 51 = .ok (.getfield 94,3) from by decide +kernel) gf_94 put_o rfl
theorem m13_54 : M13 54 ls (.int x::st) H Q = if x < 0 then M13 57 ls st H Q else M13 60 ls st H Q:=w_ifN (show decode kb13 54 = .ok (.ifCond .ge 6,3) from by decide +kernel) (z_ge x) rfl
theorem m13_57 : M13 57 ls st H Q = M13 59 ls (.int (-3)::st) H Q:=w_con (show decode kb13 57 = .ok (.bipush (-3),2) from by decide +kernel) rfl (by decide)
theorem m13_59 : M13 59 ls (.int z::st) H Q = Q (some (.int z)) H:=w_iret (show decode kb13 59 = .ok (.ireturn,1) from by decide +kernel) rfl
theorem m13_60 : M13 60 [.val (.ref r),l1] st H Q = M13 61 [.val (.ref r),l1] (.ref r::st) H Q:=w_x (show decode kb13 60 = .ok (.aload_n 0,1) from by decide +kernel) rfl
theorem m13_61 : M13 61 ls (.ref (b + 1)::st) (put (b + 1) pre s A post) Q = M13 64 ls (.ref ((b + 1) + 10)::st) (put (b + 1) pre s A post) Q:=w_get (show decode kb13 61 = .ok (.getfield 38,3) from by decide +kernel) gf_38 put_o rfl
theorem m13_64 : M13 64 [.val (.ref r),l1] st H Q = M13 65 [.val (.ref r),l1] (.ref r::st) H Q:=w_x (show decode kb13 64 = .ok (.aload_n 0,1) from by decide +kernel) rfl
theorem m13_65 : M13 65 ls (.ref (b + 1)::st) (put (b + 1) pre s A post) Q = M13 68 ls (.int (s 15)::st) (put (b + 1) pre s A post) Q:=w_get (show decode kb13 65 = .ok (.getfield 94,3) from by decide +kernel) gf_94 put_o rfl
theorem m13_68 : M13 68 [l0,.val (.int v)] st H Q = M13 69 [l0,.val (.int v)] (.int v::st) H Q:=w_x (show decode kb13 68 = .ok (.iload_n 1,1) from by decide +kernel) rfl
theorem m13_69  : M13 69 ls (.int v::.int j::.ref ((b + 1) + 10)::st) (put (b + 1) pre s A post) Q = (inB j (A 9)∧M13 70 ls st (put (b + 1) pre s (ou A 9 (setA (A 9) j v)) post) Q):=w_ist (show decode kb13 69 = .ok (.iastore,1) from by decide +kernel) rfl put_a9 (by omega) rfl put_w9
theorem m13_70 : M13 70 [.val (.ref r),l1] st H Q = M13 71 [.val (.ref r),l1] (.ref r::st) H Q:=w_x (show decode kb13 70 = .ok (.aload_n 0,1) from by decide +kernel) rfl
theorem m13_71 : M13 71 ls ((.ref r)::st) H Q = M13 72 ls ((.ref r)::(.ref r)::st) H Q:=w_x (show decode kb13 71 = .ok (.dup,1) from by decide +kernel) rfl
theorem m13_72 : M13 72 ls (.ref (b + 1)::st) (put (b + 1) pre s A post) Q = M13 75 ls (.int (s 15)::st) (put (b + 1) pre s A post) Q:=w_get (show decode kb13 72 = .ok (.getfield 94,3) from by decide +kernel) gf_94 put_o rfl
theorem m13_75 : M13 75 ls st H Q = M13 76 ls (.int 1::st) H Q:=w_con (show decode kb13 75 = .ok (.iconst 1,1) from by decide +kernel) rfl (by decide)
theorem m13_76 : M13 76 ls (.int y::.int x::st) H Q = M13 77 ls (.int (x + y)::st) H Q:=w_x (show decode kb13 76 = .ok (.iadd,1) from by decide +kernel) rfl
theorem pf13_94 : pfR tables_1 y13.cls y13.name 94 = some ("StreamSigScanner", 27,.int):=by decide +kernel
theorem m13_77 : M13 77 ls (.int v::.ref (b + 1)::st) (put (b + 1) pre s A post) Q = M13 80 ls st (put (b + 1) pre (ou s 15 v) A post) Q:=w_put (show decode kb13 77 = .ok (.putfield 94,3) from by decide +kernel) pf13_94 put_o (Nat.succ_le_succ (Nat.zero_le _)) (by show 27 < 29; omega) rfl put_s15
theorem m13_80 : M13 80 ls st H Q = M13 81 ls (.int 0::st) H Q:=w_con (show decode kb13 80 = .ok (.iconst 0,1) from by decide +kernel) rfl (by decide)
theorem m13_81 : M13 81 ls (.int z::st) H Q = Q (some (.int z)) H:=w_iret (show decode kb13 81 = .ok (.ireturn,1) from by decide +kernel) rfl
theorem m14_0 : M14 0 [.val (.ref r),l1,l2] st H Q = M14 1 [.val (.ref r),l1,l2] (.ref r::st) H Q:=w_x (show decode kb14 0 = .ok (.aload_n 0,1) from by decide +kernel) rfl
theorem m14_1 : M14 1 ls (.ref (b + 1)::st) (put (b + 1) pre s A post) Q = M14 4 ls (.int (s 13)::st) (put (b + 1) pre s A post) Q:=w_get (show decode kb14 1 = .ok (.getfield 88,3) from by decide +kernel) gf_88 put_o rfl
theorem m14_4 : M14 4 ls (.int x::st) H Q = if x = 0 then M14 7 ls st H Q else M14 9 ls st H Q:=w_ifN (show decode kb14 4 = .ok (.ifCond .ne 5,3) from by decide +kernel) (z_ne x) rfl
theorem m14_7 : M14 7 ls st H Q = M14 8 ls (.int (-1)::st) H Q:=w_con (show decode kb14 7 = .ok (.iconst (-1),1) from by decide +kernel) rfl (by decide)
theorem m14_8 : M14 8 ls (.int z::st) H Q = Q (some (.int z)) H:=w_iret (show decode kb14 8 = .ok (.ireturn,1) from by decide +kernel) rfl
theorem m14_9 : M14 9 [.val (.ref r),l1,l2] st H Q = M14 10 [.val (.ref r),l1,l2] (.ref r::st) H Q:=w_x (show decode kb14 9 = .ok (.aload_n 0,1) from by decide +kernel) rfl
theorem m14_10 : M14 10 ls (.ref (b + 1)::st) (put (b + 1) pre s A post) Q = M14 13 ls (.int (s 7)::st) (put (b + 1) pre s A post) Q:=w_get (show decode kb14 10 = .ok (.getfield 70,3) from by decide +kernel) gf_70 put_o rfl
theorem m14_13u : M14 13 [l0,.unset,l2] ((.int v)::st) H Q = M14 14 [l0,.val (.int v),l2] st H Q:=w_st (i:=1) (p:=isI) (show decode kb14 13 = .ok (.istore_n 1,1) from by decide +kernel) rfl rfl rfl rfl rfl rfl
theorem m14_14 : M14 14 ls st H Q = M14 15 ls (.int 0::st) H Q:=w_con (show decode kb14 14 = .ok (.iconst 0,1) from by decide +kernel) rfl (by decide)
theorem m14_15u : M14 15 [l0,l1,.unset] ((.int v)::st) H Q = M14 16 [l0,l1,.val (.int v)] st H Q:=w_st (i:=2) (p:=isI) (show decode kb14 15 = .ok (.istore_n 2,1) from by decide +kernel) rfl rfl rfl rfl rfl rfl
theorem m14_16 : M14 16 [l0,l1,.val (.int v)] st H Q = M14 17 [l0,l1,.val (.int v)] (.int v::st) H Q:=w_x (show decode kb14 16 = .ok (.iload_n 2,1) from by decide +kernel) rfl
theorem m14_17 : M14 17 [.val (.ref r),l1,l2] st H Q = M14 18 [.val (.ref r),l1,l2] (.ref r::st) H Q:=w_x (show decode kb14 17 = .ok (.aload_n 0,1) from by decide +kernel) rfl
theorem m14_18 : M14 18 ls (.ref (b + 1)::st) (put (b + 1) pre s A post) Q = M14 21 ls (.int (s 15)::st) (put (b + 1) pre s A post) Q:=w_get (show decode kb14 18 = .ok (.getfield 94,3) from by decide +kernel) gf_94 put_o rfl
theorem m14_21 : M14 21 ls (.int y::.int x::st) H Q = if x < y then M14 24 ls st H Q else M14 53 ls st H Q:=w_icmpN (show decode kb14 21 = .ok (.if_icmp .ge 32,3) from by decide +kernel) (i_ge x y) rfl
theorem m14_24 : M14 24 [l0,l1,.val (.int v)] st H Q = M14 25 [l0,l1,.val (.int v)] (.int v::st) H Q:=w_x (show decode kb14 24 = .ok (.iload_n 2,1) from by decide +kernel) rfl
theorem m14_25 : M14 25 ls st H Q = M14 27 ls (.int 16::st) H Q:=w_con (show decode kb14 25 = .ok (.bipush 16,2) from by decide +kernel) rfl (by decide)
theorem m14_27 : M14 27 ls (.int y::.int x::st) H Q = if x < y then M14 30 ls st H Q else M14 53 ls st H Q:=w_icmpN (show decode kb14 27 = .ok (.if_icmp .ge 26,3) from by decide +kernel) (i_ge x y) rfl
theorem m14_30 : M14 30 [.val (.ref r),l1,l2] st H Q = M14 31 [.val (.ref r),l1,l2] (.ref r::st) H Q:=w_x (show decode kb14 30 = .ok (.aload_n 0,1) from by decide +kernel) rfl
theorem m14_31 : M14 31 [.val (.ref r),l1,l2] st H Q = M14 32 [.val (.ref r),l1,l2] (.ref r::st) H Q:=w_x (show decode kb14 31 = .ok (.aload_n 0,1) from by decide +kernel) rfl
theorem m14_32 : M14 32 ls (.ref (b + 1)::st) (put (b + 1) pre s A post) Q = M14 35 ls (.int (s 14)::st) (put (b + 1) pre s A post) Q:=w_get (show decode kb14 32 = .ok (.getfield 91,3) from by decide +kernel) gf_91 put_o rfl
theorem m14_35 : M14 35 [l0,l1,.val (.int v)] st H Q = M14 36 [l0,l1,.val (.int v)] (.int v::st) H Q:=w_x (show decode kb14 35 = .ok (.iload_n 2,1) from by decide +kernel) rfl
theorem m14_36 : M14 36 ls (.int y::.int x::st) H Q = M14 37 ls (.int (x + y)::st) H Q:=w_x (show decode kb14 36 = .ok (.iadd,1) from by decide +kernel) rfl
theorem m14_37 : M14 37 [.val (.ref r),l1,l2] st H Q = M14 38 [.val (.ref r),l1,l2] (.ref r::st) H Q:=w_x (show decode kb14 37 = .ok (.aload_n 0,1) from by decide +kernel) rfl
theorem m14_38 : M14 38 ls (.ref (b + 1)::st) (put (b + 1) pre s A post) Q = M14 41 ls (.ref ((b + 1) + 10)::st) (put (b + 1) pre s A post) Q:=w_get (show decode kb14 38 = .ok (.getfield 38,3) from by decide +kernel) gf_38 put_o rfl
theorem m14_41 : M14 41 [l0,l1,.val (.int v)] st H Q = M14 42 [l0,l1,.val (.int v)] (.int v::st) H Q:=w_x (show decode kb14 41 = .ok (.iload_n 2,1) from by decide +kernel) rfl
theorem m14_42  : M14 42 ls (.int j::.ref ((b + 1) + 10)::st) (put (b + 1) pre s A post) Q = (inB j (A 9)∧M14 43 ls (.int (getA (A 9) j)::st) (put (b + 1) pre s A post) Q):=w_ild (show decode kb14 42 = .ok (.iaload,1) from by decide +kernel) rfl put_a9
theorem m14_43 : M14 43 [l0,.val (.int v),l2] st H Q = M14 44 [l0,.val (.int v),l2] (.int v::st) H Q:=w_x (show decode kb14 43 = .ok (.iload_n 1,1) from by decide +kernel) rfl
theorem cr14_120 : vR tables_1 dn y14 120 = some (true,y15,prog_1_method_12_code,4,none,3,19):=pR_of (cR_of (by decide +kernel) rc_15 dn_15 dn_14 (sig:=⟨[.int,.int,.int],none⟩) (by decide +kernel) (by decide +kernel) rfl rfl) (by decide +kernel) (by decide +kernel)
theorem m14_44 (a0 : Int32) (a1 : Int32) (a2 : Int32) : M14 44 ls [.int a2,.int a1,.int a0,.ref (b + 1)] (put (b + 1) pre s A post) Q = M15 0 [.val (.ref (b + 1)),.val (.int a0),.val (.int a1),.val (.int a2)] [] (put (b + 1) pre s A post) (fun v H1 => M14 47 ls (v.toList ++ []) H1 Q):=w_virt (as:=[.int a2,.int a1,.int a0]) (rest:=[]) (a:=(b + 1)) (show decode kb14 44 = .ok (.invokevirtual 120,3) from by decide +kernel) cr14_120 put_o rfl rfl (Nat.le_of_ble_eq_true rfl) (by show 4≤4; omega) rfl
theorem m14_47 : M14 47 [l0,l1,.val (.int v)] st H Q = M14 50 [l0,l1,.val (.int (v + 1))] st H Q:=w_iinc (show decode kb14 47 = .ok (.iinc 2 1,3) from by decide +kernel) rfl (by decide) rfl
theorem m14_50 : M14 50 ls st H Q = M14 16 ls st H Q:=w_x (show decode kb14 50 = .ok (.goto (-34),3) from by decide +kernel) rfl
theorem m14_53 : M14 53 [.val (.ref r),l1,l2] st H Q = M14 54 [.val (.ref r),l1,l2] (.ref r::st) H Q:=w_x (show decode kb14 53 = .ok (.aload_n 0,1) from by decide +kernel) rfl
theorem m14_54 : M14 54 ls st H Q = M14 55 ls (.int 0::st) H Q:=w_con (show decode kb14 54 = .ok (.iconst 0,1) from by decide +kernel) rfl (by decide)
theorem pf14_88 : pfR tables_1 y14.cls y14.name 88 = some ("StreamSigScanner", 25,.boolean):=by decide +kernel
theorem m14_55 : M14 55 ls (.int v::.ref (b + 1)::st) (put (b + 1) pre s A post) Q = M14 58 ls st (put (b + 1) pre (ou s 13 (nar .boolean v)) A post) Q:=w_put (show decode kb14 55 = .ok (.putfield 88,3) from by decide +kernel) pf14_88 put_o (Nat.succ_le_succ (Nat.zero_le _)) (by show 25 < 29; omega) rfl put_s13
theorem m14_58 : M14 58 [.val (.ref r),l1,l2] st H Q = M14 59 [.val (.ref r),l1,l2] (.ref r::st) H Q:=w_x (show decode kb14 58 = .ok (.aload_n 0,1) from by decide +kernel) rfl
theorem m14_59 : M14 59 ls st H Q = M14 60 ls (.int (-1)::st) H Q:=w_con (show decode kb14 59 = .ok (.iconst (-1),1) from by decide +kernel) rfl (by decide)
theorem pf14_91 : pfR tables_1 y14.cls y14.name 91 = some ("StreamSigScanner", 26,.int):=by decide +kernel
theorem m14_60 : M14 60 ls (.int v::.ref (b + 1)::st) (put (b + 1) pre s A post) Q = M14 63 ls st (put (b + 1) pre (ou s 14 v) A post) Q:=w_put (show decode kb14 60 = .ok (.putfield 91,3) from by decide +kernel) pf14_91 put_o (Nat.succ_le_succ (Nat.zero_le _)) (by show 26 < 29; omega) rfl put_s14
theorem m14_63 : M14 63 [.val (.ref r),l1,l2] st H Q = M14 64 [.val (.ref r),l1,l2] (.ref r::st) H Q:=w_x (show decode kb14 63 = .ok (.aload_n 0,1) from by decide +kernel) rfl
theorem m14_64 : M14 64 ls st H Q = M14 65 ls (.int 0::st) H Q:=w_con (show decode kb14 64 = .ok (.iconst 0,1) from by decide +kernel) rfl (by decide)
theorem pf14_94 : pfR tables_1 y14.cls y14.name 94 = some ("StreamSigScanner", 27,.int):=by decide +kernel
theorem m14_65 : M14 65 ls (.int v::.ref (b + 1)::st) (put (b + 1) pre s A post) Q = M14 68 ls st (put (b + 1) pre (ou s 15 v) A post) Q:=w_put (show decode kb14 65 = .ok (.putfield 94,3) from by decide +kernel) pf14_94 put_o (Nat.succ_le_succ (Nat.zero_le _)) (by show 27 < 29; omega) rfl put_s15
theorem m14_68 : M14 68 [.val (.ref r),l1,l2] st H Q = M14 69 [.val (.ref r),l1,l2] (.ref r::st) H Q:=w_x (show decode kb14 68 = .ok (.aload_n 0,1) from by decide +kernel) rfl
theorem cr14_124 : vR tables_1 dn y14 124 = some (true,y16,prog_1_method_13_code,4,none,0,0):=pR_of (cR_of (by decide +kernel) rc_16 dn_16 dn_14 (sig:=⟨[],none⟩) (by decide +kernel) (by decide +kernel) rfl rfl) (by decide +kernel) (by decide +kernel)
theorem m14_69 : M14 69 ls [.ref (b + 1)] (put (b + 1) pre s A post) Q = M16 0 [.val (.ref (b + 1)),.unset,.unset,.unset] [] (put (b + 1) pre s A post) (fun v H1 => M14 72 ls (v.toList ++ []) H1 Q):=w_virt (as:=[]) (rest:=[]) (a:=(b + 1)) (show decode kb14 69 = .ok (.invokevirtual 124,3) from by decide +kernel) cr14_124 put_o rfl rfl (Nat.le_of_ble_eq_true rfl) (by show 1≤4; omega) rfl
theorem m14_72 : M14 72 [.val (.ref r),l1,l2] st H Q = M14 73 [.val (.ref r),l1,l2] (.ref r::st) H Q:=w_x (show decode kb14 72 = .ok (.aload_n 0,1) from by decide +kernel) rfl
theorem m14_73 : M14 73 ls (.ref (b + 1)::st) (put (b + 1) pre s A post) Q = M14 76 ls (.int (s 7)::st) (put (b + 1) pre s A post) Q:=w_get (show decode kb14 73 = .ok (.getfield 70,3) from by decide +kernel) gf_70 put_o rfl
theorem m14_76 : M14 76 [l0,.val (.int v),l2] st H Q = M14 77 [l0,.val (.int v),l2] (.int v::st) H Q:=w_x (show decode kb14 76 = .ok (.iload_n 1,1) from by decide +kernel) rfl
theorem m14_77 : M14 77 ls (.int y::.int x::st) H Q = M14 78 ls (.int (x - y)::st) H Q:=w_x (show decode kb14 77 = .ok (.isub,1) from by decide +kernel) rfl
theorem m14_78 : M14 78 ls (.int z::st) H Q = Q (some (.int z)) H:=w_iret (show decode kb14 78 = .ok (.ireturn,1) from by decide +kernel) rfl
theorem m15_0 : M15 0 [.val (.ref r),l1,l2,l3] st H Q = M15 1 [.val (.ref r),l1,l2,l3] (.ref r::st) H Q:=w_x (show decode kb15 0 = .ok (.aload_n 0,1) from by decide +kernel) rfl
theorem m15_1 : M15 1 [l0,.val (.int v),l2,l3] st H Q = M15 2 [l0,.val (.int v),l2,l3] (.int v::st) H Q:=w_x (show decode kb15 1 = .ok (.iload_n 1,1) from by decide +kernel) rfl
theorem cr15_117 : vR tables_1 dn y15 117 = some (true,y11,prog_1_method_23_code,2,(some .boolean),1,0):=pR_of (cR_of (by decide +kernel) rc_11 dn_11 dn_15 (sig:=⟨[.int],some .boolean⟩) (by decide +kernel) (by decide +kernel) rfl rfl) (by decide +kernel) (by decide +kernel)
theorem m15_2 (a0 : Int32) : M15 2 ls [.int a0,.ref (b + 1)] (put (b + 1) pre s A post) Q = M11 0 [.val (.ref (b + 1)),.val (.int a0)] [] (put (b + 1) pre s A post) (fun v H1 => M15 5 ls (v.toList ++ []) H1 Q):=w_virt (as:=[.int a0]) (rest:=[]) (a:=(b + 1)) (show decode kb15 2 = .ok (.invokevirtual 117,3) from by decide +kernel) cr15_117 put_o rfl rfl (Nat.le_of_ble_eq_true rfl) (by show 2≤2; omega) rfl
theorem m15_5 : M15 5 ls (.int x::st) H Q = if x = 0 then M15 8 ls st H Q else M15 9 ls st H Q:=w_ifN (show decode kb15 5 = .ok (.ifCond .ne 4,3) from by decide +kernel) (z_ne x) rfl
theorem m15_8 : M15 8 ls [] H Q = Q none H:=w_vret (show decode kb15 8 = .ok (.return_,1) from by decide +kernel) rfl
theorem m15_9 : M15 9 [.val (.ref r),l1,l2,l3] st H Q = M15 10 [.val (.ref r),l1,l2,l3] (.ref r::st) H Q:=w_x (show decode kb15 9 = .ok (.aload_n 0,1) from by decide +kernel) rfl
theorem m15_10 : M15 10 ls (.ref (b + 1)::st) (put (b + 1) pre s A post) Q = M15 13 ls (.ref ((b + 1) + 8)::st) (put (b + 1) pre s A post) Q:=w_get (show decode kb15 10 = .ok (.getfield 31,3) from by decide +kernel) gf_31 put_o rfl
theorem m15_13 : M15 13 [l0,.val (.int v),l2,l3] st H Q = M15 14 [l0,.val (.int v),l2,l3] (.int v::st) H Q:=w_x (show decode kb15 13 = .ok (.iload_n 1,1) from by decide +kernel) rfl
theorem m15_14  : M15 14 ls (.int j::.ref ((b + 1) + 8)::st) (put (b + 1) pre s A post) Q = (inB j (A 7)∧M15 15 ls (.int (getA (A 7) j)::st) (put (b + 1) pre s A post) Q):=w_ild (show decode kb15 14 = .ok (.baload,1) from by decide +kernel) rfl put_a7
theorem m15_15 : M15 15 ls (.int x::st) H Q = if x = 0 then M15 57 ls st H Q else M15 18 ls st H Q:=w_if (show decode kb15 15 = .ok (.ifCond .eq 42,3) from by decide +kernel) (z_eq x) rfl
theorem m15_18 : M15 18 [.val (.ref r),l1,l2,l3] st H Q = M15 19 [.val (.ref r),l1,l2,l3] (.ref r::st) H Q:=w_x (show decode kb15 18 = .ok (.aload_n 0,1) from by decide +kernel) rfl
theorem m15_19 : M15 19 ls (.ref (b + 1)::st) (put (b + 1) pre s A post) Q = M15 22 ls (.ref ((b + 1) + 9)::st) (put (b + 1) pre s A post) Q:=w_get (show decode kb15 19 = .ok (.getfield 35,3) from by decide +kernel) gf_35 put_o rfl
theorem m15_22 : M15 22 [l0,.val (.int v),l2,l3] st H Q = M15 23 [l0,.val (.int v),l2,l3] (.int v::st) H Q:=w_x (show decode kb15 22 = .ok (.iload_n 1,1) from by decide +kernel) rfl
theorem m15_23  : M15 23 ls (.int j::.ref ((b + 1) + 9)::st) (put (b + 1) pre s A post) Q = (inB j (A 8)∧M15 24 ls (.int (getA (A 8) j)::st) (put (b + 1) pre s A post) Q):=w_ild (show decode kb15 23 = .ok (.iaload,1) from by decide +kernel) rfl put_a8
theorem m15_24 : M15 24 [l0,l1,.val (.int v),l3] st H Q = M15 25 [l0,l1,.val (.int v),l3] (.int v::st) H Q:=w_x (show decode kb15 24 = .ok (.iload_n 2,1) from by decide +kernel) rfl
theorem m15_25 : M15 25 ls (.int y::.int x::st) H Q = if x = y then M15 28 ls st H Q else M15 41 ls st H Q:=w_icmpN (show decode kb15 25 = .ok (.if_icmp .ne 16,3) from by decide +kernel) (i_ne x y) rfl
theorem m15_28 : M15 28 [.val (.ref r),l1,l2,l3] st H Q = M15 29 [.val (.ref r),l1,l2,l3] (.ref r::st) H Q:=w_x (show decode kb15 28 = .ok (.aload_n 0,1) from by decide +kernel) rfl
theorem m15_29 : M15 29 ls ((.ref r)::st) H Q = M15 30 ls ((.ref r)::(.ref r)::st) H Q:=w_x (show decode kb15 29 = .ok (.dup,1) from by decide +kernel) rfl
theorem m15_30 : M15 30 ls (.ref (b + 1)::st) (put (b + 1) pre s A post) Q = M15 33 ls (.int (s 10)::st) (put (b + 1) pre s A post) Q:=w_get (show decode kb15 30 = .ok (.getfield 79,3) from by decide +kernel) gf_79 put_o rfl
theorem m15_33 : M15 33 ls st H Q = M15 34 ls (.int 1::st) H Q:=w_con (show decode kb15 33 = .ok (.iconst 1,1) from by decide +kernel) rfl (by decide)
theorem m15_34 : M15 34 ls (.int y::.int x::st) H Q = M15 35 ls (.int (x + y)::st) H Q:=w_x (show decode kb15 34 = .ok (.iadd,1) from by decide +kernel) rfl
theorem pf15_79 : pfR tables_1 y15.cls y15.name 79 = some ("StreamSigScanner", 22,.int):=by decide +kernel
theorem m15_35 : M15 35 ls (.int v::.ref (b + 1)::st) (put (b + 1) pre s A post) Q = M15 38 ls st (put (b + 1) pre (ou s 10 v) A post) Q:=w_put (show decode kb15 35 = .ok (.putfield 79,3) from by decide +kernel) pf15_79 put_o (Nat.succ_le_succ (Nat.zero_le _)) (by show 22 < 29; omega) rfl put_s10
theorem m15_38 : M15 38 ls st H Q = M15 56 ls st H Q:=w_x (show decode kb15 38 = .ok (.goto 18,3) from by decide +kernel) rfl
theorem m15_41 : M15 41 [.val (.ref r),l1,l2,l3] st H Q = M15 42 [.val (.ref r),l1,l2,l3] (.ref r::st) H Q:=w_x (show decode kb15 41 = .ok (.aload_n 0,1) from by decide +kernel) rfl
theorem m15_42 : M15 42 ls ((.ref r)::st) H Q = M15 43 ls ((.ref r)::(.ref r)::st) H Q:=w_x (show decode kb15 42 = .ok (.dup,1) from by decide +kernel) rfl
theorem m15_43 : M15 43 ls (.ref (b + 1)::st) (put (b + 1) pre s A post) Q = M15 46 ls (.int (s 9)::st) (put (b + 1) pre s A post) Q:=w_get (show decode kb15 43 = .ok (.getfield 76,3) from by decide +kernel) gf_76 put_o rfl
theorem m15_46 : M15 46 ls st H Q = M15 47 ls (.int 1::st) H Q:=w_con (show decode kb15 46 = .ok (.iconst 1,1) from by decide +kernel) rfl (by decide)
theorem m15_47 : M15 47 ls (.int y::.int x::st) H Q = M15 48 ls (.int (x + y)::st) H Q:=w_x (show decode kb15 47 = .ok (.iadd,1) from by decide +kernel) rfl
theorem pf15_76 : pfR tables_1 y15.cls y15.name 76 = some ("StreamSigScanner", 21,.int):=by decide +kernel
theorem m15_48 : M15 48 ls (.int v::.ref (b + 1)::st) (put (b + 1) pre s A post) Q = M15 51 ls st (put (b + 1) pre (ou s 9 v) A post) Q:=w_put (show decode kb15 48 = .ok (.putfield 76,3) from by decide +kernel) pf15_76 put_o (Nat.succ_le_succ (Nat.zero_le _)) (by show 21 < 29; omega) rfl put_s9
theorem m15_51 : M15 51 [.val (.ref r),l1,l2,l3] st H Q = M15 52 [.val (.ref r),l1,l2,l3] (.ref r::st) H Q:=w_x (show decode kb15 51 = .ok (.aload_n 0,1) from by decide +kernel) rfl
theorem m15_52 : M15 52 [l0,.val (.int v),l2,l3] st H Q = M15 53 [l0,.val (.int v),l2,l3] (.int v::st) H Q:=w_x (show decode kb15 52 = .ok (.iload_n 1,1) from by decide +kernel) rfl
theorem pf15_85 : pfR tables_1 y15.cls y15.name 85 = some ("StreamSigScanner", 24,.int):=by decide +kernel
theorem m15_53 : M15 53 ls (.int v::.ref (b + 1)::st) (put (b + 1) pre s A post) Q = M15 56 ls st (put (b + 1) pre (ou s 12 v) A post) Q:=w_put (show decode kb15 53 = .ok (.putfield 85,3) from by decide +kernel) pf15_85 put_o (Nat.succ_le_succ (Nat.zero_le _)) (by show 24 < 29; omega) rfl put_s12
theorem m15_56 : M15 56 ls [] H Q = Q none H:=w_vret (show decode kb15 56 = .ok (.return_,1) from by decide +kernel) rfl
theorem m15_57 : M15 57 [l0,.val (.int v),l2,l3] st H Q = M15 58 [l0,.val (.int v),l2,l3] (.int v::st) H Q:=w_x (show decode kb15 57 = .ok (.iload_n 1,1) from by decide +kernel) rfl
theorem m15_58 : M15 58 [l0,l1,l2,.val (.int v)] st H Q = M15 59 [l0,l1,l2,.val (.int v)] (.int v::st) H Q:=w_x (show decode kb15 58 = .ok (.iload_n 3,1) from by decide +kernel) rfl
theorem m15_59 : M15 59 [.val (.ref r),l1,l2,l3] st H Q = M15 60 [.val (.ref r),l1,l2,l3] (.ref r::st) H Q:=w_x (show decode kb15 59 = .ok (.aload_n 0,1) from by decide +kernel) rfl
theorem m15_60 : M15 60 ls (.ref (b + 1)::st) (put (b + 1) pre s A post) Q = M15 63 ls (.int (s 0)::st) (put (b + 1) pre s A post) Q:=w_get (show decode kb15 60 = .ok (.getfield 47,3) from by decide +kernel) gf_47 put_o rfl
theorem m15_63 : M15 63 ls (.int y::.int x::st) H Q = M15 64 ls (.int (x + y)::st) H Q:=w_x (show decode kb15 63 = .ok (.iadd,1) from by decide +kernel) rfl
theorem m15_64 : M15 64 ls (.int y::.int x::st) H Q = if x < y then M15 78 ls st H Q else M15 67 ls st H Q:=w_icmp (show decode kb15 64 = .ok (.if_icmp .lt 14,3) from by decide +kernel) (i_lt x y) rfl
theorem m15_67 : M15 67 [.val (.ref r),l1,l2,l3] st H Q = M15 68 [.val (.ref r),l1,l2,l3] (.ref r::st) H Q:=w_x (show decode kb15 67 = .ok (.aload_n 0,1) from by decide +kernel) rfl
theorem m15_68 : M15 68 ls ((.ref r)::st) H Q = M15 69 ls ((.ref r)::(.ref r)::st) H Q:=w_x (show decode kb15 68 = .ok (.dup,1) from by decide +kernel) rfl
theorem m15_69 : M15 69 ls (.ref (b + 1)::st) (put (b + 1) pre s A post) Q = M15 72 ls (.int (s 11)::st) (put (b + 1) pre s A post) Q:=w_get (show decode kb15 69 = .ok (.getfield 82,3) from by decide +kernel) gf_82 put_o rfl
theorem m15_72 : M15 72 ls st H Q = M15 73 ls (.int 1::st) H Q:=w_con (show decode kb15 72 = .ok (.iconst 1,1) from by decide +kernel) rfl (by decide)
theorem m15_73 : M15 73 ls (.int y::.int x::st) H Q = M15 74 ls (.int (x + y)::st) H Q:=w_x (show decode kb15 73 = .ok (.iadd,1) from by decide +kernel) rfl
theorem pf15_82 : pfR tables_1 y15.cls y15.name 82 = some ("StreamSigScanner", 23,.int):=by decide +kernel
theorem m15_74 : M15 74 ls (.int v::.ref (b + 1)::st) (put (b + 1) pre s A post) Q = M15 77 ls st (put (b + 1) pre (ou s 11 v) A post) Q:=w_put (show decode kb15 74 = .ok (.putfield 82,3) from by decide +kernel) pf15_82 put_o (Nat.succ_le_succ (Nat.zero_le _)) (by show 23 < 29; omega) rfl put_s11
theorem m15_77 : M15 77 ls [] H Q = Q none H:=w_vret (show decode kb15 77 = .ok (.return_,1) from by decide +kernel) rfl
theorem m15_78 : M15 78 [.val (.ref r),l1,l2,l3] st H Q = M15 79 [.val (.ref r),l1,l2,l3] (.ref r::st) H Q:=w_x (show decode kb15 78 = .ok (.aload_n 0,1) from by decide +kernel) rfl
theorem m15_79 : M15 79 ls (.ref (b + 1)::st) (put (b + 1) pre s A post) Q = M15 82 ls (.ref ((b + 1) + 8)::st) (put (b + 1) pre s A post) Q:=w_get (show decode kb15 79 = .ok (.getfield 31,3) from by decide +kernel) gf_31 put_o rfl
theorem m15_82 : M15 82 [l0,.val (.int v),l2,l3] st H Q = M15 83 [l0,.val (.int v),l2,l3] (.int v::st) H Q:=w_x (show decode kb15 82 = .ok (.iload_n 1,1) from by decide +kernel) rfl
theorem m15_83 : M15 83 ls st H Q = M15 84 ls (.int 1::st) H Q:=w_con (show decode kb15 83 = .ok (.iconst 1,1) from by decide +kernel) rfl (by decide)
theorem m15_84  : M15 84 ls (.int v::.int j::.ref ((b + 1) + 8)::st) (put (b + 1) pre s A post) Q = (inB j (A 7)∧M15 85 ls st (put (b + 1) pre s (ou A 7 (setA (A 7) j (nar .boolean v))) post) Q):=w_ist (show decode kb15 84 = .ok (.bastore,1) from by decide +kernel) rfl put_a7 (by omega) rfl put_w7
theorem m15_85 : M15 85 [.val (.ref r),l1,l2,l3] st H Q = M15 86 [.val (.ref r),l1,l2,l3] (.ref r::st) H Q:=w_x (show decode kb15 85 = .ok (.aload_n 0,1) from by decide +kernel) rfl
theorem m15_86 : M15 86 ls (.ref (b + 1)::st) (put (b + 1) pre s A post) Q = M15 89 ls (.ref ((b + 1) + 9)::st) (put (b + 1) pre s A post) Q:=w_get (show decode kb15 86 = .ok (.getfield 35,3) from by decide +kernel) gf_35 put_o rfl
theorem m15_89 : M15 89 [l0,.val (.int v),l2,l3] st H Q = M15 90 [l0,.val (.int v),l2,l3] (.int v::st) H Q:=w_x (show decode kb15 89 = .ok (.iload_n 1,1) from by decide +kernel) rfl
theorem m15_90 : M15 90 [l0,l1,.val (.int v),l3] st H Q = M15 91 [l0,l1,.val (.int v),l3] (.int v::st) H Q:=w_x (show decode kb15 90 = .ok (.iload_n 2,1) from by decide +kernel) rfl
theorem m15_91  : M15 91 ls (.int v::.int j::.ref ((b + 1) + 9)::st) (put (b + 1) pre s A post) Q = (inB j (A 8)∧M15 92 ls st (put (b + 1) pre s (ou A 8 (setA (A 8) j v)) post) Q):=w_ist (show decode kb15 91 = .ok (.iastore,1) from by decide +kernel) rfl put_a8 (by omega) rfl put_w8
theorem m15_92 : M15 92 [.val (.ref r),l1,l2,l3] st H Q = M15 93 [.val (.ref r),l1,l2,l3] (.ref r::st) H Q:=w_x (show decode kb15 92 = .ok (.aload_n 0,1) from by decide +kernel) rfl
theorem m15_93 : M15 93 ls ((.ref r)::st) H Q = M15 94 ls ((.ref r)::(.ref r)::st) H Q:=w_x (show decode kb15 93 = .ok (.dup,1) from by decide +kernel) rfl
theorem m15_94 : M15 94 ls (.ref (b + 1)::st) (put (b + 1) pre s A post) Q = M15 97 ls (.int (s 8)::st) (put (b + 1) pre s A post) Q:=w_get (show decode kb15 94 = .ok (.getfield 73,3) from by decide +kernel) gf_73 put_o rfl
theorem m15_97 : M15 97 ls st H Q = M15 98 ls (.int 1::st) H Q:=w_con (show decode kb15 97 = .ok (.iconst 1,1) from by decide +kernel) rfl (by decide)
theorem m15_98 : M15 98 ls (.int y::.int x::st) H Q = M15 99 ls (.int (x + y)::st) H Q:=w_x (show decode kb15 98 = .ok (.iadd,1) from by decide +kernel) rfl
theorem pf15_73 : pfR tables_1 y15.cls y15.name 73 = some ("StreamSigScanner", 20,.int):=by decide +kernel
theorem m15_99 : M15 99 ls (.int v::.ref (b + 1)::st) (put (b + 1) pre s A post) Q = M15 102 ls st (put (b + 1) pre (ou s 8 v) A post) Q:=w_put (show decode kb15 99 = .ok (.putfield 73,3) from by decide +kernel) pf15_73 put_o (Nat.succ_le_succ (Nat.zero_le _)) (by show 20 < 29; omega) rfl put_s8
theorem m15_102 : M15 102 ls [] H Q = Q none H:=w_vret (show decode kb15 102 = .ok (.return_,1) from by decide +kernel) rfl
theorem m16_0 : M16 0 ls st H Q = M16 1 ls (.int 0::st) H Q:=w_con (show decode kb16 0 = .ok (.iconst 0,1) from by decide +kernel) rfl (by decide)
theorem m16_1u : M16 1 [l0,.unset,l2,l3] ((.int v)::st) H Q = M16 2 [l0,.val (.int v),l2,l3] st H Q:=w_st (i:=1) (p:=isI) (show decode kb16 1 = .ok (.istore_n 1,1) from by decide +kernel) rfl rfl rfl rfl rfl rfl
theorem m16_2 : M16 2 [l0,.val (.int v),l2,l3] st H Q = M16 3 [l0,.val (.int v),l2,l3] (.int v::st) H Q:=w_x (show decode kb16 2 = .ok (.iload_n 1,1) from by decide +kernel) rfl
theorem m16_3 : M16 3 ls st H Q = M16 6 ls (.int 256::st) H Q:=w_con (show decode kb16 3 = .ok (.sipush 256,3) from by decide +kernel) rfl (by decide)
theorem m16_6 : M16 6 ls (.int y::.int x::st) H Q = if x < y then M16 9 ls st H Q else M16 73 ls st H Q:=w_icmpN (show decode kb16 6 = .ok (.if_icmp .ge 67,3) from by decide +kernel) (i_ge x y) rfl
theorem m16_9 : M16 9 [.val (.ref r),l1,l2,l3] st H Q = M16 10 [.val (.ref r),l1,l2,l3] (.ref r::st) H Q:=w_x (show decode kb16 9 = .ok (.aload_n 0,1) from by decide +kernel) rfl
theorem m16_10 : M16 10 ls (.ref (b + 1)::st) (put (b + 1) pre s A post) Q = M16 13 ls (.int (s 7)::st) (put (b + 1) pre s A post) Q:=w_get (show decode kb16 10 = .ok (.getfield 70,3) from by decide +kernel) gf_70 put_o rfl
theorem m16_13 : M16 13 ls st H Q = M16 16 ls (.int 256::st) H Q:=w_con (show decode kb16 13 = .ok (.sipush 256,3) from by decide +kernel) rfl (by decide)
theorem m16_16 : M16 16 ls (.int y::.int x::st) H Q = if x < y then M16 19 ls st H Q else M16 31 ls st H Q:=w_icmpN (show decode kb16 16 = .ok (.if_icmp .ge 15,3) from by decide +kernel) (i_ge x y) rfl
theorem m16_19 : M16 19 [.val (.ref r),l1,l2,l3] st H Q = M16 20 [.val (.ref r),l1,l2,l3] (.ref r::st) H Q:=w_x (show decode kb16 19 = .ok (.aload_n 0,1) from by decide +kernel) rfl
theorem m16_20 : M16 20 ls (.ref (b + 1)::st) (put (b + 1) pre s A post) Q = M16 23 ls (.ref ((b + 1) + 8)::st) (put (b + 1) pre s A post) Q:=w_get (show decode kb16 20 = .ok (.getfield 31,3) from by decide +kernel) gf_31 put_o rfl
theorem m16_23 : M16 23 [.val (.ref r),l1,l2,l3] st H Q = M16 24 [.val (.ref r),l1,l2,l3] (.ref r::st) H Q:=w_x (show decode kb16 23 = .ok (.aload_n 0,1) from by decide +kernel) rfl
theorem m16_24 : M16 24 ls (.ref (b + 1)::st) (put (b + 1) pre s A post) Q = M16 27 ls (.int (s 7)::st) (put (b + 1) pre s A post) Q:=w_get (show decode kb16 24 = .ok (.getfield 70,3) from by decide +kernel) gf_70 put_o rfl
theorem m16_27  : M16 27 ls (.int j::.ref ((b + 1) + 8)::st) (put (b + 1) pre s A post) Q = (inB j (A 7)∧M16 28 ls (.int (getA (A 7) j)::st) (put (b + 1) pre s A post) Q):=w_ild (show decode kb16 27 = .ok (.baload,1) from by decide +kernel) rfl put_a7
theorem m16_28 : M16 28 ls (.int x::st) H Q = if x = 0 then M16 31 ls st H Q else M16 32 ls st H Q:=w_ifN (show decode kb16 28 = .ok (.ifCond .ne 4,3) from by decide +kernel) (z_ne x) rfl
theorem m16_31 : M16 31 ls [] H Q = Q none H:=w_vret (show decode kb16 31 = .ok (.return_,1) from by decide +kernel) rfl
theorem m16_32 : M16 32 [.val (.ref r),l1,l2,l3] st H Q = M16 33 [.val (.ref r),l1,l2,l3] (.ref r::st) H Q:=w_x (show decode kb16 32 = .ok (.aload_n 0,1) from by decide +kernel) rfl
theorem m16_33 : M16 33 ls (.ref (b + 1)::st) (put (b + 1) pre s A post) Q = M16 36 ls (.int (s 7)::st) (put (b + 1) pre s A post) Q:=w_get (show decode kb16 33 = .ok (.getfield 70,3) from by decide +kernel) gf_70 put_o rfl
theorem m16_36u : M16 36 [l0,l1,.unset,l3] ((.int v)::st) H Q = M16 37 [l0,l1,.val (.int v),l3] st H Q:=w_st (i:=2) (p:=isI) (show decode kb16 36 = .ok (.istore_n 2,1) from by decide +kernel) rfl rfl rfl rfl rfl rfl
theorem m16_36i : M16 36 [l0,l1,.val (.int z),l3] ((.int v)::st) H Q = M16 37 [l0,l1,.val (.int v),l3] st H Q:=w_st (i:=2) (p:=isI) (show decode kb16 36 = .ok (.istore_n 2,1) from by decide +kernel) rfl rfl rfl rfl rfl rfl
theorem m16_36r : M16 36 [l0,l1,.val (.ref q),l3] ((.int v)::st) H Q = M16 37 [l0,l1,.val (.int v),l3] st H Q:=w_st (i:=2) (p:=isI) (show decode kb16 36 = .ok (.istore_n 2,1) from by decide +kernel) rfl rfl rfl rfl rfl rfl
theorem m16_36g (h : okS l2) : M16 36 [l0,l1,l2,l3] ((.int v)::st) H Q = M16 37 [l0,l1,.val (.int v),l3] st H Q:=by rcases h with rfl | ⟨z,rfl⟩ <;> first | exact m16_36u | exact m16_36i
theorem m16_37 : M16 37 [.val (.ref r),l1,l2,l3] st H Q = M16 38 [.val (.ref r),l1,l2,l3] (.ref r::st) H Q:=w_x (show decode kb16 37 = .ok (.aload_n 0,1) from by decide +kernel) rfl
theorem m16_38 : M16 38 ls (.ref (b + 1)::st) (put (b + 1) pre s A post) Q = M16 41 ls (.ref ((b + 1) + 9)::st) (put (b + 1) pre s A post) Q:=w_get (show decode kb16 38 = .ok (.getfield 35,3) from by decide +kernel) gf_35 put_o rfl
theorem m16_41 : M16 41 [l0,l1,.val (.int v),l3] st H Q = M16 42 [l0,l1,.val (.int v),l3] (.int v::st) H Q:=w_x (show decode kb16 41 = .ok (.iload_n 2,1) from by decide +kernel) rfl
theorem m16_42  : M16 42 ls (.int j::.ref ((b + 1) + 9)::st) (put (b + 1) pre s A post) Q = (inB j (A 8)∧M16 43 ls (.int (getA (A 8) j)::st) (put (b + 1) pre s A post) Q):=w_ild (show decode kb16 42 = .ok (.iaload,1) from by decide +kernel) rfl put_a8
theorem m16_43u : M16 43 [l0,l1,l2,.unset] ((.int v)::st) H Q = M16 44 [l0,l1,l2,.val (.int v)] st H Q:=w_st (i:=3) (p:=isI) (show decode kb16 43 = .ok (.istore_n 3,1) from by decide +kernel) rfl rfl rfl rfl rfl rfl
theorem m16_43i : M16 43 [l0,l1,l2,.val (.int z)] ((.int v)::st) H Q = M16 44 [l0,l1,l2,.val (.int v)] st H Q:=w_st (i:=3) (p:=isI) (show decode kb16 43 = .ok (.istore_n 3,1) from by decide +kernel) rfl rfl rfl rfl rfl rfl
theorem m16_43r : M16 43 [l0,l1,l2,.val (.ref q)] ((.int v)::st) H Q = M16 44 [l0,l1,l2,.val (.int v)] st H Q:=w_st (i:=3) (p:=isI) (show decode kb16 43 = .ok (.istore_n 3,1) from by decide +kernel) rfl rfl rfl rfl rfl rfl
theorem m16_43g (h : okS l3) : M16 43 [l0,l1,l2,l3] ((.int v)::st) H Q = M16 44 [l0,l1,l2,.val (.int v)] st H Q:=by rcases h with rfl | ⟨z,rfl⟩ <;> first | exact m16_43u | exact m16_43i
theorem m16_44 : M16 44 [.val (.ref r),l1,l2,l3] st H Q = M16 45 [.val (.ref r),l1,l2,l3] (.ref r::st) H Q:=w_x (show decode kb16 44 = .ok (.aload_n 0,1) from by decide +kernel) rfl
theorem m16_45 : M16 45 [l0,l1,.val (.int v),l3] st H Q = M16 46 [l0,l1,.val (.int v),l3] (.int v::st) H Q:=w_x (show decode kb16 45 = .ok (.iload_n 2,1) from by decide +kernel) rfl
theorem m16_46 : M16 46 ls st H Q = M16 47 ls (.int 1::st) H Q:=w_con (show decode kb16 46 = .ok (.iconst 1,1) from by decide +kernel) rfl (by decide)
theorem m16_47 : M16 47 ls (.int y::.int x::st) H Q = M16 48 ls (.int (x + y)::st) H Q:=w_x (show decode kb16 47 = .ok (.iadd,1) from by decide +kernel) rfl
theorem pf16_70 : pfR tables_1 y16.cls y16.name 70 = some ("StreamSigScanner", 19,.int):=by decide +kernel
theorem m16_48 : M16 48 ls (.int v::.ref (b + 1)::st) (put (b + 1) pre s A post) Q = M16 51 ls st (put (b + 1) pre (ou s 7 v) A post) Q:=w_put (show decode kb16 48 = .ok (.putfield 70,3) from by decide +kernel) pf16_70 put_o (Nat.succ_le_succ (Nat.zero_le _)) (by show 19 < 29; omega) rfl put_s7
theorem m16_51 : M16 51 [.val (.ref r),l1,l2,l3] st H Q = M16 52 [.val (.ref r),l1,l2,l3] (.ref r::st) H Q:=w_x (show decode kb16 51 = .ok (.aload_n 0,1) from by decide +kernel) rfl
theorem m16_52 : M16 52 ls ((.ref r)::st) H Q = M16 53 ls ((.ref r)::(.ref r)::st) H Q:=w_x (show decode kb16 52 = .ok (.dup,1) from by decide +kernel) rfl
theorem m16_53 : M16 53 ls (.ref (b + 1)::st) (put (b + 1) pre s A post) Q = M16 56 ls (.int (s 8)::st) (put (b + 1) pre s A post) Q:=w_get (show decode kb16 53 = .ok (.getfield 73,3) from by decide +kernel) gf_73 put_o rfl
theorem m16_56 : M16 56 ls st H Q = M16 57 ls (.int 1::st) H Q:=w_con (show decode kb16 56 = .ok (.iconst 1,1) from by decide +kernel) rfl (by decide)
theorem m16_57 : M16 57 ls (.int y::.int x::st) H Q = M16 58 ls (.int (x - y)::st) H Q:=w_x (show decode kb16 57 = .ok (.isub,1) from by decide +kernel) rfl
theorem pf16_73 : pfR tables_1 y16.cls y16.name 73 = some ("StreamSigScanner", 20,.int):=by decide +kernel
theorem m16_58 : M16 58 ls (.int v::.ref (b + 1)::st) (put (b + 1) pre s A post) Q = M16 61 ls st (put (b + 1) pre (ou s 8 v) A post) Q:=w_put (show decode kb16 58 = .ok (.putfield 73,3) from by decide +kernel) pf16_73 put_o (Nat.succ_le_succ (Nat.zero_le _)) (by show 20 < 29; omega) rfl put_s8
theorem m16_61 : M16 61 [.val (.ref r),l1,l2,l3] st H Q = M16 62 [.val (.ref r),l1,l2,l3] (.ref r::st) H Q:=w_x (show decode kb16 61 = .ok (.aload_n 0,1) from by decide +kernel) rfl
theorem m16_62 : M16 62 [l0,l1,.val (.int v),l3] st H Q = M16 63 [l0,l1,.val (.int v),l3] (.int v::st) H Q:=w_x (show decode kb16 62 = .ok (.iload_n 2,1) from by decide +kernel) rfl
theorem m16_63 : M16 63 [l0,l1,l2,.val (.int v)] st H Q = M16 64 [l0,l1,l2,.val (.int v)] (.int v::st) H Q:=w_x (show decode kb16 63 = .ok (.iload_n 3,1) from by decide +kernel) rfl
theorem cr16_127 : vR tables_1 dn y16 127 = some (true,y17,prog_1_method_14_code,7,none,2,0):=pR_of (cR_of (by decide +kernel) rc_17 dn_17 dn_16 (sig:=⟨[.int,.int],none⟩) (by decide +kernel) (by decide +kernel) rfl rfl) (by decide +kernel) (by decide +kernel)
theorem m16_64 (a0 : Int32) (a1 : Int32) : M16 64 ls [.int a1,.int a0,.ref (b + 1)] (put (b + 1) pre s A post) Q = M17 0 [.val (.ref (b + 1)),.val (.int a0),.val (.int a1),.unset,.unset,.unset,.unset] [] (put (b + 1) pre s A post) (fun v H1 => M16 67 ls (v.toList ++ []) H1 Q):=w_virt (as:=[.int a1,.int a0]) (rest:=[]) (a:=(b + 1)) (show decode kb16 64 = .ok (.invokevirtual 127,3) from by decide +kernel) cr16_127 put_o rfl rfl (Nat.le_of_ble_eq_true rfl) (by show 3≤7; omega) rfl
theorem m16_67 : M16 67 [l0,.val (.int v),l2,l3] st H Q = M16 70 [l0,.val (.int (v + 1)),l2,l3] st H Q:=w_iinc (show decode kb16 67 = .ok (.iinc 1 1,3) from by decide +kernel) rfl (by decide) rfl
theorem m16_70 : M16 70 ls st H Q = M16 2 ls st H Q:=w_x (show decode kb16 70 = .ok (.goto (-68),3) from by decide +kernel) rfl
theorem m16_73 : M16 73 ls [] H Q = Q none H:=w_vret (show decode kb16 73 = .ok (.return_,1) from by decide +kernel) rfl
theorem m17_0 : M17 0 [.val (.ref r),l1,l2,l3,l4,l5,l6] st H Q = M17 1 [.val (.ref r),l1,l2,l3,l4,l5,l6] (.ref r::st) H Q:=w_x (show decode kb17 0 = .ok (.aload_n 0,1) from by decide +kernel) rfl
theorem m17_1 : M17 1 ls (.ref (b + 1)::st) (put (b + 1) pre s A post) Q = M17 4 ls (.int (s 6)::st) (put (b + 1) pre s A post) Q:=w_get (show decode kb17 1 = .ok (.getfield 67,3) from by decide +kernel) gf_67 put_o rfl
theorem m17_4 : M17 4 ls st H Q = M17 7 ls (.int 256::st) H Q:=w_con (show decode kb17 4 = .ok (.sipush 256,3) from by decide +kernel) rfl (by decide)
theorem m17_7 : M17 7 ls (.int y::.int x::st) H Q = M17 8 ls (.int (x * y)::st) H Q:=w_x (show decode kb17 7 = .ok (.imul,1) from by decide +kernel) rfl
theorem m17_8 : M17 8 [l0,l1,.val (.int v),l3,l4,l5,l6] st H Q = M17 9 [l0,l1,.val (.int v),l3,l4,l5,l6] (.int v::st) H Q:=w_x (show decode kb17 8 = .ok (.iload_n 2,1) from by decide +kernel) rfl
theorem m17_9 : M17 9 ls (.int y::.int x::st) H Q = M17 10 ls (.int (x + y)::st) H Q:=w_x (show decode kb17 9 = .ok (.iadd,1) from by decide +kernel) rfl
theorem m17_10u : M17 10 [l0,l1,l2,.unset,l4,l5,l6] ((.int v)::st) H Q = M17 11 [l0,l1,l2,.val (.int v),l4,l5,l6] st H Q:=w_st (i:=3) (p:=isI) (show decode kb17 10 = .ok (.istore_n 3,1) from by decide +kernel) rfl rfl rfl rfl rfl rfl
theorem m17_11 : M17 11 [l0,l1,l2,.val (.int v),l4,l5,l6] st H Q = M17 12 [l0,l1,l2,.val (.int v),l4,l5,l6] (.int v::st) H Q:=w_x (show decode kb17 11 = .ok (.iload_n 3,1) from by decide +kernel) rfl
theorem m17_12 : M17 12 ls (.int x::st) H Q = if x < 0 then M17 22 ls st H Q else M17 15 ls st H Q:=w_if (show decode kb17 12 = .ok (.ifCond .lt 10,3) from by decide +kernel) (z_lt x) rfl
theorem m17_15 : M17 15 [l0,l1,l2,.val (.int v),l4,l5,l6] st H Q = M17 16 [l0,l1,l2,.val (.int v),l4,l5,l6] (.int v::st) H Q:=w_x (show decode kb17 15 = .ok (.iload_n 3,1) from by decide +kernel) rfl
theorem m17_16 : M17 16 ls st H Q = M17 19 ls (.int 16640::st) H Q:=w_con (show decode kb17 16 = .ok (.sipush 16640,3) from by decide +kernel) rfl (by decide)
theorem m17_19 : M17 19 ls (.int y::.int x::st) H Q = if x < y then M17 28 ls st H Q else M17 22 ls st H Q:=w_icmp (show decode kb17 19 = .ok (.if_icmp .lt 9,3) from by decide +kernel) (i_lt x y) rfl
theorem m17_22 : M17 22 [.val (.ref r),l1,l2,l3,l4,l5,l6] st H Q = M17 23 [.val (.ref r),l1,l2,l3,l4,l5,l6] (.ref r::st) H Q:=w_x (show decode kb17 22 = .ok (.aload_n 0,1) from by decide +kernel) rfl
theorem m17_23 : M17 23 ls st H Q = M17 24 ls (.int 0::st) H Q:=w_con (show decode kb17 23 = .ok (.iconst 0,1) from by decide +kernel) rfl (by decide)
theorem pf17_67 : pfR tables_1 y17.cls y17.name 67 = some ("StreamSigScanner", 18,.int):=by decide +kernel
theorem m17_24 : M17 24 ls (.int v::.ref (b + 1)::st) (put (b + 1) pre s A post) Q = M17 27 ls st (put (b + 1) pre (ou s 6 v) A post) Q:=w_put (show decode kb17 24 = .ok (.putfield 67,3) from by decide +kernel) pf17_67 put_o (Nat.succ_le_succ (Nat.zero_le _)) (by show 18 < 29; omega) rfl put_s6
theorem m17_27 : M17 27 ls [] H Q = Q none H:=w_vret (show decode kb17 27 = .ok (.return_,1) from by decide +kernel) rfl
theorem m17_28 : M17 28 [.val (.ref r),l1,l2,l3,l4,l5,l6] st H Q = M17 29 [.val (.ref r),l1,l2,l3,l4,l5,l6] (.ref r::st) H Q:=w_x (show decode kb17 28 = .ok (.aload_n 0,1) from by decide +kernel) rfl
theorem m17_29 : M17 29 ls (.ref (b + 1)::st) (put (b + 1) pre s A post) Q = M17 32 ls (.ref ((b + 1) + 4)::st) (put (b + 1) pre s A post) Q:=w_get (show decode kb17 29 = .ok (.getfield 19,3) from by decide +kernel) gf_19 put_o rfl
theorem m17_32 : M17 32 [l0,l1,l2,.val (.int v),l4,l5,l6] st H Q = M17 33 [l0,l1,l2,.val (.int v),l4,l5,l6] (.int v::st) H Q:=w_x (show decode kb17 32 = .ok (.iload_n 3,1) from by decide +kernel) rfl
theorem m17_33  : M17 33 ls (.int j::.ref ((b + 1) + 4)::st) (put (b + 1) pre s A post) Q = (inB j (A 3)∧M17 34 ls (.int (getA (A 3) j)::st) (put (b + 1) pre s A post) Q):=w_ild (show decode kb17 33 = .ok (.iaload,1) from by decide +kernel) rfl put_a3
theorem m17_34u : M17 34 [l0,l1,l2,l3,.unset,l5,l6] ((.int v)::st) H Q = M17 36 [l0,l1,l2,l3,.val (.int v),l5,l6] st H Q:=w_st (i:=4) (p:=isI) (show decode kb17 34 = .ok (.istore 4,2) from by decide +kernel) rfl rfl rfl rfl rfl rfl
theorem m17_36 : M17 36 [l0,l1,l2,l3,.val (.int v),l5,l6] st H Q = M17 38 [l0,l1,l2,l3,.val (.int v),l5,l6] (.int v::st) H Q:=w_x (show decode kb17 36 = .ok (.iload 4,2) from by decide +kernel) rfl
theorem m17_38 : M17 38 ls (.int x::st) H Q = if x < 0 then M17 48 ls st H Q else M17 41 ls st H Q:=w_if (show decode kb17 38 = .ok (.ifCond .lt 10,3) from by decide +kernel) (z_lt x) rfl
theorem m17_41 : M17 41 [l0,l1,l2,l3,.val (.int v),l5,l6] st H Q = M17 43 [l0,l1,l2,l3,.val (.int v),l5,l6] (.int v::st) H Q:=w_x (show decode kb17 41 = .ok (.iload 4,2) from by decide +kernel) rfl
theorem m17_43 : M17 43 ls st H Q = M17 45 ls (.int 65::st) H Q:=w_con (show decode kb17 43 = .ok (.bipush 65,2) from by decide +kernel) rfl (by decide)
theorem m17_45 : M17 45 ls (.int y::.int x::st) H Q = if x < y then M17 51 ls st H Q else M17 48 ls st H Q:=w_icmp (show decode kb17 45 = .ok (.if_icmp .lt 6,3) from by decide +kernel) (i_lt x y) rfl
theorem m17_48 : M17 48 ls st H Q = M17 49 ls (.int 0::st) H Q:=w_con (show decode kb17 48 = .ok (.iconst 0,1) from by decide +kernel) rfl (by decide)
theorem m17_49i : M17 49 [l0,l1,l2,l3,.val (.int z),l5,l6] ((.int v)::st) H Q = M17 51 [l0,l1,l2,l3,.val (.int v),l5,l6] st H Q:=w_st (i:=4) (p:=isI) (show decode kb17 49 = .ok (.istore 4,2) from by decide +kernel) rfl rfl rfl rfl rfl rfl
theorem m17_51 : M17 51 [.val (.ref r),l1,l2,l3,l4,l5,l6] st H Q = M17 52 [.val (.ref r),l1,l2,l3,l4,l5,l6] (.ref r::st) H Q:=w_x (show decode kb17 51 = .ok (.aload_n 0,1) from by decide +kernel) rfl
theorem m17_52 : M17 52 [l0,l1,l2,l3,.val (.int v),l5,l6] st H Q = M17 54 [l0,l1,l2,l3,.val (.int v),l5,l6] (.int v::st) H Q:=w_x (show decode kb17 52 = .ok (.iload 4,2) from by decide +kernel) rfl
theorem m17_54 : M17 54 ls (.int v::.ref (b + 1)::st) (put (b + 1) pre s A post) Q = M17 57 ls st (put (b + 1) pre (ou s 6 v) A post) Q:=w_put (show decode kb17 54 = .ok (.putfield 67,3) from by decide +kernel) pf17_67 put_o (Nat.succ_le_succ (Nat.zero_le _)) (by show 18 < 29; omega) rfl put_s6
theorem m17_57 : M17 57 [.val (.ref r),l1,l2,l3,l4,l5,l6] st H Q = M17 58 [.val (.ref r),l1,l2,l3,l4,l5,l6] (.ref r::st) H Q:=w_x (show decode kb17 57 = .ok (.aload_n 0,1) from by decide +kernel) rfl
theorem m17_58 : M17 58 ls (.ref (b + 1)::st) (put (b + 1) pre s A post) Q = M17 61 ls (.ref ((b + 1) + 6)::st) (put (b + 1) pre s A post) Q:=w_get (show decode kb17 58 = .ok (.getfield 25,3) from by decide +kernel) gf_25 put_o rfl
theorem m17_61 : M17 61 [l0,l1,l2,l3,.val (.int v),l5,l6] st H Q = M17 63 [l0,l1,l2,l3,.val (.int v),l5,l6] (.int v::st) H Q:=w_x (show decode kb17 61 = .ok (.iload 4,2) from by decide +kernel) rfl
theorem m17_63  : M17 63 ls (.int j::.ref ((b + 1) + 6)::st) (put (b + 1) pre s A post) Q = (inB j (A 5)∧M17 64 ls (.int (getA (A 5) j)::st) (put (b + 1) pre s A post) Q):=w_ild (show decode kb17 63 = .ok (.iaload,1) from by decide +kernel) rfl put_a5
theorem m17_64u : M17 64 [l0,l1,l2,l3,l4,.unset,l6] ((.int v)::st) H Q = M17 66 [l0,l1,l2,l3,l4,.val (.int v),l6] st H Q:=w_st (i:=5) (p:=isI) (show decode kb17 64 = .ok (.istore 5,2) from by decide +kernel) rfl rfl rfl rfl rfl rfl
theorem m17_66 : M17 66 [l0,l1,l2,l3,l4,.val (.int v),l6] st H Q = M17 68 [l0,l1,l2,l3,l4,.val (.int v),l6] (.int v::st) H Q:=w_x (show decode kb17 66 = .ok (.iload 5,2) from by decide +kernel) rfl
theorem m17_68 : M17 68 ls (.int x::st) H Q = if x = 0 then M17 71 ls st H Q else M17 72 ls st H Q:=w_ifN (show decode kb17 68 = .ok (.ifCond .ne 4,3) from by decide +kernel) (z_ne x) rfl
theorem m17_71 : M17 71 ls [] H Q = Q none H:=w_vret (show decode kb17 71 = .ok (.return_,1) from by decide +kernel) rfl
theorem m17_72 : M17 72 ls st H Q = M17 73 ls (.int 0::st) H Q:=w_con (show decode kb17 72 = .ok (.iconst 0,1) from by decide +kernel) rfl (by decide)
theorem m17_73u : M17 73 [l0,l1,l2,l3,l4,l5,.unset] ((.int v)::st) H Q = M17 75 [l0,l1,l2,l3,l4,l5,.val (.int v)] st H Q:=w_st (i:=6) (p:=isI) (show decode kb17 73 = .ok (.istore 6,2) from by decide +kernel) rfl rfl rfl rfl rfl rfl
theorem m17_75 : M17 75 [l0,l1,l2,l3,l4,l5,.val (.int v)] st H Q = M17 77 [l0,l1,l2,l3,l4,l5,.val (.int v)] (.int v::st) H Q:=w_x (show decode kb17 75 = .ok (.iload 6,2) from by decide +kernel) rfl
theorem m17_77 : M17 77 [.val (.ref r),l1,l2,l3,l4,l5,l6] st H Q = M17 78 [.val (.ref r),l1,l2,l3,l4,l5,l6] (.ref r::st) H Q:=w_x (show decode kb17 77 = .ok (.aload_n 0,1) from by decide +kernel) rfl
theorem m17_78 : M17 78 ls (.ref (b + 1)::st) (put (b + 1) pre s A post) Q = M17 81 ls (.int (s 2)::st) (put (b + 1) pre s A post) Q:=w_get (show decode kb17 78 = .ok (.getfield 55,3) from by decide +kernel) gf_55 put_o rfl
theorem m17_81 : M17 81 ls (.int y::.int x::st) H Q = if x < y then M17 84 ls st H Q else M17 114 ls st H Q:=w_icmpN (show decode kb17 81 = .ok (.if_icmp .ge 33,3) from by decide +kernel) (i_ge x y) rfl
theorem m17_84 : M17 84 [l0,l1,l2,l3,l4,l5,.val (.int v)] st H Q = M17 86 [l0,l1,l2,l3,l4,l5,.val (.int v)] (.int v::st) H Q:=w_x (show decode kb17 84 = .ok (.iload 6,2) from by decide +kernel) rfl
theorem m17_86 : M17 86 ls st H Q = M17 88 ls (.int 16::st) H Q:=w_con (show decode kb17 86 = .ok (.bipush 16,2) from by decide +kernel) rfl (by decide)
theorem m17_88 : M17 88 ls (.int y::.int x::st) H Q = if x < y then M17 91 ls st H Q else M17 114 ls st H Q:=w_icmpN (show decode kb17 88 = .ok (.if_icmp .ge 26,3) from by decide +kernel) (i_ge x y) rfl
theorem m17_91 : M17 91 [l0,l1,l2,l3,l4,.val (.int v),l6] st H Q = M17 93 [l0,l1,l2,l3,l4,.val (.int v),l6] (.int v::st) H Q:=w_x (show decode kb17 91 = .ok (.iload 5,2) from by decide +kernel) rfl
theorem m17_93 : M17 93 [l0,l1,l2,l3,l4,l5,.val (.int v)] st H Q = M17 95 [l0,l1,l2,l3,l4,l5,.val (.int v)] (.int v::st) H Q:=w_x (show decode kb17 93 = .ok (.iload 6,2) from by decide +kernel) rfl
theorem m17_95 : M17 95 ls (.int y::.int x::st) H Q = M17 96 ls (.int (x >>> (y &&& 31))::st) H Q:=w_x (show decode kb17 95 = .ok (.ishr,1) from by decide +kernel) rfl
theorem m17_96 : M17 96 ls st H Q = M17 97 ls (.int 1::st) H Q:=w_con (show decode kb17 96 = .ok (.iconst 1,1) from by decide +kernel) rfl (by decide)
theorem m17_97 : M17 97 ls (.int y::.int x::st) H Q = M17 98 ls (.int (x &&& y)::st) H Q:=w_x (show decode kb17 97 = .ok (.iand,1) from by decide +kernel) rfl
theorem m17_98 : M17 98 ls (.int x::st) H Q = if x = 0 then M17 108 ls st H Q else M17 101 ls st H Q:=w_if (show decode kb17 98 = .ok (.ifCond .eq 10,3) from by decide +kernel) (z_eq x) rfl
theorem m17_101 : M17 101 [.val (.ref r),l1,l2,l3,l4,l5,l6] st H Q = M17 102 [.val (.ref r),l1,l2,l3,l4,l5,l6] (.ref r::st) H Q:=w_x (show decode kb17 101 = .ok (.aload_n 0,1) from by decide +kernel) rfl
theorem m17_102 : M17 102 [l0,l1,l2,l3,l4,l5,.val (.int v)] st H Q = M17 104 [l0,l1,l2,l3,l4,l5,.val (.int v)] (.int v::st) H Q:=w_x (show decode kb17 102 = .ok (.iload 6,2) from by decide +kernel) rfl
theorem m17_104 : M17 104 [l0,.val (.int v),l2,l3,l4,l5,l6] st H Q = M17 105 [l0,.val (.int v),l2,l3,l4,l5,l6] (.int v::st) H Q:=w_x (show decode kb17 104 = .ok (.iload_n 1,1) from by decide +kernel) rfl
theorem cr17_131 : vR tables_1 dn y17 131 = some (true,y21,prog_1_method_15_code,3,none,2,0):=pR_of (cR_of (by decide +kernel) rc_21 dn_21 dn_17 (sig:=⟨[.int,.int],none⟩) (by decide +kernel) (by decide +kernel) rfl rfl) (by decide +kernel) (by decide +kernel)
theorem m17_105 (a0 : Int32) (a1 : Int32) : M17 105 ls [.int a1,.int a0,.ref (b + 1)] (put (b + 1) pre s A post) Q = M21 0 [.val (.ref (b + 1)),.val (.int a0),.val (.int a1)] [] (put (b + 1) pre s A post) (fun v H1 => M17 108 ls (v.toList ++ []) H1 Q):=w_virt (as:=[.int a1,.int a0]) (rest:=[]) (a:=(b + 1)) (show decode kb17 105 = .ok (.invokevirtual 131,3) from by decide +kernel) cr17_131 put_o rfl rfl (Nat.le_of_ble_eq_true rfl) (by show 3≤3; omega) rfl
theorem m17_108 : M17 108 [l0,l1,l2,l3,l4,l5,.val (.int v)] st H Q = M17 111 [l0,l1,l2,l3,l4,l5,.val (.int (v + 1))] st H Q:=w_iinc (show decode kb17 108 = .ok (.iinc 6 1,3) from by decide +kernel) rfl (by decide) rfl
theorem m17_111 : M17 111 ls st H Q = M17 75 ls st H Q:=w_x (show decode kb17 111 = .ok (.goto (-36),3) from by decide +kernel) rfl
theorem m17_114 : M17 114 ls [] H Q = Q none H:=w_vret (show decode kb17 114 = .ok (.return_,1) from by decide +kernel) rfl
theorem m18_0 : M18 0 [.val (.ref r),l1] st H Q = M18 1 [.val (.ref r),l1] (.ref r::st) H Q:=w_x (show decode kb18 0 = .ok (.aload_n 0,1) from by decide +kernel) rfl
theorem m18_1 : M18 1 [l0,.val (.int v)] st H Q = M18 2 [l0,.val (.int v)] (.int v::st) H Q:=w_x (show decode kb18 1 = .ok (.iload_n 1,1) from by decide +kernel) rfl
theorem cr18_138 : vR tables_1 dn y18 138 = some (true,y19,prog_1_method_24_code,2,(some .boolean),1,0):=pR_of (cR_of (by decide +kernel) rc_19 dn_19 dn_18 (sig:=⟨[.int],some .boolean⟩) (by decide +kernel) (by decide +kernel) rfl rfl) (by decide +kernel) (by decide +kernel)
theorem m18_2 (a0 : Int32) : M18 2 ls [.int a0,.ref (b + 1)] (put (b + 1) pre s A post) Q = M19 0 [.val (.ref (b + 1)),.val (.int a0)] [] (put (b + 1) pre s A post) (fun v H1 => M18 5 ls (v.toList ++ []) H1 Q):=w_virt (as:=[.int a0]) (rest:=[]) (a:=(b + 1)) (show decode kb18 2 = .ok (.invokevirtual 138,3) from by decide +kernel) cr18_138 put_o rfl rfl (Nat.le_of_ble_eq_true rfl) (by show 2≤2; omega) rfl
theorem m18_5 : M18 5 ls (.int x::st) H Q = if x = 0 then M18 8 ls st H Q else M18 10 ls st H Q:=w_ifN (show decode kb18 5 = .ok (.ifCond .ne 5,3) from by decide +kernel) (z_ne x) rfl
theorem m18_8 : M18 8 ls st H Q = M18 9 ls (.int (-1)::st) H Q:=w_con (show decode kb18 8 = .ok (.iconst (-1),1) from by decide +kernel) rfl (by decide)
theorem m18_9 : M18 9 ls (.int z::st) H Q = Q (some (.int z)) H:=w_iret (show decode kb18 9 = .ok (.ireturn,1) from by decide +kernel) rfl
theorem m18_10 : M18 10 [.val (.ref r),l1] st H Q = M18 11 [.val (.ref r),l1] (.ref r::st) H Q:=w_x (show decode kb18 10 = .ok (.aload_n 0,1) from by decide +kernel) rfl
theorem m18_11 : M18 11 ls (.ref (b + 1)::st) (put (b + 1) pre s A post) Q = M18 14 ls (.ref ((b + 1) + 3)::st) (put (b + 1) pre s A post) Q:=w_get (show decode kb18 11 = .ok (.getfield 16,3) from by decide +kernel) gf_16 put_o rfl
theorem m18_14 : M18 14 [l0,.val (.int v)] st H Q = M18 15 [l0,.val (.int v)] (.int v::st) H Q:=w_x (show decode kb18 14 = .ok (.iload_n 1,1) from by decide +kernel) rfl
theorem m18_15  : M18 15 ls (.int j::.ref ((b + 1) + 3)::st) (put (b + 1) pre s A post) Q = (inB j (A 2)∧M18 16 ls (.int (getA (A 2) j)::st) (put (b + 1) pre s A post) Q):=w_ild (show decode kb18 15 = .ok (.iaload,1) from by decide +kernel) rfl put_a2
theorem m18_16 : M18 16 ls (.int z::st) H Q = Q (some (.int z)) H:=w_iret (show decode kb18 16 = .ok (.ireturn,1) from by decide +kernel) rfl
theorem m19_0 : M19 0 [l0,.val (.int v)] st H Q = M19 1 [l0,.val (.int v)] (.int v::st) H Q:=w_x (show decode kb19 0 = .ok (.iload_n 1,1) from by decide +kernel) rfl
theorem m19_1 : M19 1 ls (.int x::st) H Q = if x < 0 then M19 22 ls st H Q else M19 4 ls st H Q:=w_if (show decode kb19 1 = .ok (.ifCond .lt 21,3) from by decide +kernel) (z_lt x) rfl
theorem m19_4 : M19 4 [l0,.val (.int v)] st H Q = M19 5 [l0,.val (.int v)] (.int v::st) H Q:=w_x (show decode kb19 4 = .ok (.iload_n 1,1) from by decide +kernel) rfl
theorem m19_5 : M19 5 [.val (.ref r),l1] st H Q = M19 6 [.val (.ref r),l1] (.ref r::st) H Q:=w_x (show decode kb19 5 = .ok (.aload_n 0,1) from by decide +kernel) rfl
theorem m19_6 : M19 6 ls (.ref (b + 1)::st) (put (b + 1) pre s A post) Q = M19 9 ls (.int (s 2)::st) (put (b + 1) pre s A post) Q:=w_get (show decode kb19 6 = .ok (.getfield 55,3) from by decide +kernel) gf_55 put_o rfl
theorem m19_9 : M19 9 ls (.int y::.int x::st) H Q = if x < y then M19 12 ls st H Q else M19 22 ls st H Q:=w_icmpN (show decode kb19 9 = .ok (.if_icmp .ge 13,3) from by decide +kernel) (i_ge x y) rfl
theorem m19_12 : M19 12 [l0,.val (.int v)] st H Q = M19 13 [l0,.val (.int v)] (.int v::st) H Q:=w_x (show decode kb19 12 = .ok (.iload_n 1,1) from by decide +kernel) rfl
theorem m19_13 : M19 13 ls st H Q = M19 15 ls (.int 16::st) H Q:=w_con (show decode kb19 13 = .ok (.bipush 16,2) from by decide +kernel) rfl (by decide)
theorem m19_15 : M19 15 ls (.int y::.int x::st) H Q = if x < y then M19 18 ls st H Q else M19 22 ls st H Q:=w_icmpN (show decode kb19 15 = .ok (.if_icmp .ge 7,3) from by decide +kernel) (i_ge x y) rfl
theorem m19_18 : M19 18 ls st H Q = M19 19 ls (.int 1::st) H Q:=w_con (show decode kb19 18 = .ok (.iconst 1,1) from by decide +kernel) rfl (by decide)
theorem m19_19 : M19 19 ls st H Q = M19 23 ls st H Q:=w_x (show decode kb19 19 = .ok (.goto 4,3) from by decide +kernel) rfl
theorem m19_22 : M19 22 ls st H Q = M19 23 ls (.int 0::st) H Q:=w_con (show decode kb19 22 = .ok (.iconst 0,1) from by decide +kernel) rfl (by decide)
theorem m19_23 : M19 23 ls (.int z::st) H Q = Q (some (.int (nar .boolean z))) H:=w_iretN (show decode kb19 23 = .ok (.ireturn,1) from by decide +kernel) rfl (by simp)
theorem m20_0 : M20 0 [.val (.ref r),l1,l2,l3] st H Q = M20 1 [.val (.ref r),l1,l2,l3] (.ref r::st) H Q:=w_x (show decode kb20 0 = .ok (.aload_n 0,1) from by decide +kernel) rfl
theorem m20_1 : M20 1 [l0,.val (.int v),l2,l3] st H Q = M20 2 [l0,.val (.int v),l2,l3] (.int v::st) H Q:=w_x (show decode kb20 1 = .ok (.iload_n 1,1) from by decide +kernel) rfl
theorem cr20_138 : vR tables_1 dn y20 138 = some (true,y19,prog_1_method_24_code,2,(some .boolean),1,0):=pR_of (cR_of (by decide +kernel) rc_19 dn_19 dn_20 (sig:=⟨[.int],some .boolean⟩) (by decide +kernel) (by decide +kernel) rfl rfl) (by decide +kernel) (by decide +kernel)
theorem m20_2 (a0 : Int32) : M20 2 ls [.int a0,.ref (b + 1)] (put (b + 1) pre s A post) Q = M19 0 [.val (.ref (b + 1)),.val (.int a0)] [] (put (b + 1) pre s A post) (fun v H1 => M20 5 ls (v.toList ++ []) H1 Q):=w_virt (as:=[.int a0]) (rest:=[]) (a:=(b + 1)) (show decode kb20 2 = .ok (.invokevirtual 138,3) from by decide +kernel) cr20_138 put_o rfl rfl (Nat.le_of_ble_eq_true rfl) (by show 2≤2; omega) rfl
theorem m20_5 : M20 5 ls (.int x::st) H Q = if x = 0 then M20 8 ls st H Q else M20 10 ls st H Q:=w_ifN (show decode kb20 5 = .ok (.ifCond .ne 5,3) from by decide +kernel) (z_ne x) rfl
theorem m20_8 : M20 8 ls st H Q = M20 9 ls (.int (-1)::st) H Q:=w_con (show decode kb20 8 = .ok (.iconst (-1),1) from by decide +kernel) rfl (by decide)
theorem m20_9 : M20 9 ls (.int z::st) H Q = Q (some (.int z)) H:=w_iret (show decode kb20 9 = .ok (.ireturn,1) from by decide +kernel) rfl
theorem m20_10 : M20 10 [l0,l1,.val (.int v),l3] st H Q = M20 11 [l0,l1,.val (.int v),l3] (.int v::st) H Q:=w_x (show decode kb20 10 = .ok (.iload_n 2,1) from by decide +kernel) rfl
theorem m20_11 : M20 11 ls (.int x::st) H Q = if x < 0 then M20 24 ls st H Q else M20 14 ls st H Q:=w_if (show decode kb20 11 = .ok (.ifCond .lt 13,3) from by decide +kernel) (z_lt x) rfl
theorem m20_14 : M20 14 [l0,l1,.val (.int v),l3] st H Q = M20 15 [l0,l1,.val (.int v),l3] (.int v::st) H Q:=w_x (show decode kb20 14 = .ok (.iload_n 2,1) from by decide +kernel) rfl
theorem m20_15 : M20 15 [.val (.ref r),l1,l2,l3] st H Q = M20 16 [.val (.ref r),l1,l2,l3] (.ref r::st) H Q:=w_x (show decode kb20 15 = .ok (.aload_n 0,1) from by decide +kernel) rfl
theorem m20_16 : M20 16 ls (.ref (b + 1)::st) (put (b + 1) pre s A post) Q = M20 19 ls (.ref ((b + 1) + 3)::st) (put (b + 1) pre s A post) Q:=w_get (show decode kb20 16 = .ok (.getfield 16,3) from by decide +kernel) gf_16 put_o rfl
theorem m20_19 : M20 19 [l0,.val (.int v),l2,l3] st H Q = M20 20 [l0,.val (.int v),l2,l3] (.int v::st) H Q:=w_x (show decode kb20 19 = .ok (.iload_n 1,1) from by decide +kernel) rfl
theorem m20_20  : M20 20 ls (.int j::.ref ((b + 1) + 3)::st) (put (b + 1) pre s A post) Q = (inB j (A 2)∧M20 21 ls (.int (getA (A 2) j)::st) (put (b + 1) pre s A post) Q):=w_ild (show decode kb20 20 = .ok (.iaload,1) from by decide +kernel) rfl put_a2
theorem m20_21 : M20 21 ls (.int y::.int x::st) H Q = if x < y then M20 26 ls st H Q else M20 24 ls st H Q:=w_icmp (show decode kb20 21 = .ok (.if_icmp .lt 5,3) from by decide +kernel) (i_lt x y) rfl
theorem m20_24 : M20 24 ls st H Q = M20 25 ls (.int (-1)::st) H Q:=w_con (show decode kb20 24 = .ok (.iconst (-1),1) from by decide +kernel) rfl (by decide)
theorem m20_25 : M20 25 ls (.int z::st) H Q = Q (some (.int z)) H:=w_iret (show decode kb20 25 = .ok (.ireturn,1) from by decide +kernel) rfl
theorem m20_26 : M20 26 [.val (.ref r),l1,l2,l3] st H Q = M20 27 [.val (.ref r),l1,l2,l3] (.ref r::st) H Q:=w_x (show decode kb20 26 = .ok (.aload_n 0,1) from by decide +kernel) rfl
theorem m20_27 : M20 27 ls (.ref (b + 1)::st) (put (b + 1) pre s A post) Q = M20 30 ls (.ref ((b + 1) + 2)::st) (put (b + 1) pre s A post) Q:=w_get (show decode kb20 27 = .ok (.getfield 13,3) from by decide +kernel) gf_13 put_o rfl
theorem m20_30 : M20 30 [l0,.val (.int v),l2,l3] st H Q = M20 31 [l0,.val (.int v),l2,l3] (.int v::st) H Q:=w_x (show decode kb20 30 = .ok (.iload_n 1,1) from by decide +kernel) rfl
theorem m20_31  : M20 31 ls (.int j::.ref ((b + 1) + 2)::st) (put (b + 1) pre s A post) Q = (inB j (A 1)∧M20 32 ls (.int (getA (A 1) j)::st) (put (b + 1) pre s A post) Q):=w_ild (show decode kb20 31 = .ok (.iaload,1) from by decide +kernel) rfl put_a1
theorem m20_32 : M20 32 [l0,l1,.val (.int v),l3] st H Q = M20 33 [l0,l1,.val (.int v),l3] (.int v::st) H Q:=w_x (show decode kb20 32 = .ok (.iload_n 2,1) from by decide +kernel) rfl
theorem m20_33 : M20 33 ls (.int y::.int x::st) H Q = M20 34 ls (.int (x + y)::st) H Q:=w_x (show decode kb20 33 = .ok (.iadd,1) from by decide +kernel) rfl
theorem m20_34u : M20 34 [l0,l1,l2,.unset] ((.int v)::st) H Q = M20 35 [l0,l1,l2,.val (.int v)] st H Q:=w_st (i:=3) (p:=isI) (show decode kb20 34 = .ok (.istore_n 3,1) from by decide +kernel) rfl rfl rfl rfl rfl rfl
theorem m20_35 : M20 35 [l0,l1,l2,.val (.int v)] st H Q = M20 36 [l0,l1,l2,.val (.int v)] (.int v::st) H Q:=w_x (show decode kb20 35 = .ok (.iload_n 3,1) from by decide +kernel) rfl
theorem m20_36 : M20 36 ls (.int x::st) H Q = if x < 0 then M20 45 ls st H Q else M20 39 ls st H Q:=w_if (show decode kb20 36 = .ok (.ifCond .lt 9,3) from by decide +kernel) (z_lt x) rfl
theorem m20_39 : M20 39 [l0,l1,l2,.val (.int v)] st H Q = M20 40 [l0,l1,l2,.val (.int v)] (.int v::st) H Q:=w_x (show decode kb20 39 = .ok (.iload_n 3,1) from by decide +kernel) rfl
theorem m20_40 : M20 40 ls st H Q = M20 42 ls (.int 64::st) H Q:=w_con (show decode kb20 40 = .ok (.bipush 64,2) from by decide +kernel) rfl (by decide)
theorem m20_42 : M20 42 ls (.int y::.int x::st) H Q = if x < y then M20 47 ls st H Q else M20 45 ls st H Q:=w_icmp (show decode kb20 42 = .ok (.if_icmp .lt 5,3) from by decide +kernel) (i_lt x y) rfl
theorem m20_45 : M20 45 ls st H Q = M20 46 ls (.int (-1)::st) H Q:=w_con (show decode kb20 45 = .ok (.iconst (-1),1) from by decide +kernel) rfl (by decide)
theorem m20_46 : M20 46 ls (.int z::st) H Q = Q (some (.int z)) H:=w_iret (show decode kb20 46 = .ok (.ireturn,1) from by decide +kernel) rfl
theorem m20_47 : M20 47 [.val (.ref r),l1,l2,l3] st H Q = M20 48 [.val (.ref r),l1,l2,l3] (.ref r::st) H Q:=w_x (show decode kb20 47 = .ok (.aload_n 0,1) from by decide +kernel) rfl
theorem m20_48 : M20 48 ls (.ref (b + 1)::st) (put (b + 1) pre s A post) Q = M20 51 ls (.ref ((b + 1) + 1)::st) (put (b + 1) pre s A post) Q:=w_get (show decode kb20 48 = .ok (.getfield 7,3) from by decide +kernel) gf_7 put_o rfl
theorem m20_51 : M20 51 [l0,l1,l2,.val (.int v)] st H Q = M20 52 [l0,l1,l2,.val (.int v)] (.int v::st) H Q:=w_x (show decode kb20 51 = .ok (.iload_n 3,1) from by decide +kernel) rfl
theorem m20_52  : M20 52 ls (.int j::.ref ((b + 1) + 1)::st) (put (b + 1) pre s A post) Q = (inB j (A 0)∧M20 53 ls (.int (getA (A 0) j)::st) (put (b + 1) pre s A post) Q):=w_ild (show decode kb20 52 = .ok (.iaload,1) from by decide +kernel) rfl put_a0
theorem m20_53 : M20 53 ls (.int z::st) H Q = Q (some (.int z)) H:=w_iret (show decode kb20 53 = .ok (.ireturn,1) from by decide +kernel) rfl
theorem m21_0 : M21 0 [.val (.ref r),l1,l2] st H Q = M21 1 [.val (.ref r),l1,l2] (.ref r::st) H Q:=w_x (show decode kb21 0 = .ok (.aload_n 0,1) from by decide +kernel) rfl
theorem m21_1 : M21 1 ls (.ref (b + 1)::st) (put (b + 1) pre s A post) Q = M21 4 ls (.int (s 16)::st) (put (b + 1) pre s A post) Q:=w_get (show decode kb21 1 = .ok (.getfield 97,3) from by decide +kernel) gf_97 put_o rfl
theorem m21_4 : M21 4 ls (.int x::st) H Q = if x < 0 then M21 36 ls st H Q else M21 7 ls st H Q:=w_if (show decode kb21 4 = .ok (.ifCond .lt 32,3) from by decide +kernel) (z_lt x) rfl
theorem m21_7 : M21 7 [.val (.ref r),l1,l2] st H Q = M21 8 [.val (.ref r),l1,l2] (.ref r::st) H Q:=w_x (show decode kb21 7 = .ok (.aload_n 0,1) from by decide +kernel) rfl
theorem m21_8 : M21 8 ls (.ref (b + 1)::st) (put (b + 1) pre s A post) Q = M21 11 ls (.int (s 16)::st) (put (b + 1) pre s A post) Q:=w_get (show decode kb21 8 = .ok (.getfield 97,3) from by decide +kernel) gf_97 put_o rfl
theorem m21_11 : M21 11 ls st H Q = M21 13 ls (.int 64::st) H Q:=w_con (show decode kb21 11 = .ok (.bipush 64,2) from by decide +kernel) rfl (by decide)
theorem m21_13 : M21 13 ls (.int y::.int x::st) H Q = if x < y then M21 16 ls st H Q else M21 36 ls st H Q:=w_icmpN (show decode kb21 13 = .ok (.if_icmp .ge 23,3) from by decide +kernel) (i_ge x y) rfl
theorem m21_16 : M21 16 [.val (.ref r),l1,l2] st H Q = M21 17 [.val (.ref r),l1,l2] (.ref r::st) H Q:=w_x (show decode kb21 16 = .ok (.aload_n 0,1) from by decide +kernel) rfl
theorem m21_17 : M21 17 ls (.ref (b + 1)::st) (put (b + 1) pre s A post) Q = M21 20 ls (.ref ((b + 1) + 11)::st) (put (b + 1) pre s A post) Q:=w_get (show decode kb21 17 = .ok (.getfield 41,3) from by decide +kernel) gf_41 put_o rfl
theorem m21_20 : M21 20 [.val (.ref r),l1,l2] st H Q = M21 21 [.val (.ref r),l1,l2] (.ref r::st) H Q:=w_x (show decode kb21 20 = .ok (.aload_n 0,1) from by decide +kernel) rfl
theorem m21_21 : M21 21 ls (.ref (b + 1)::st) (put (b + 1) pre s A post) Q = M21 24 ls (.int (s 16)::st) (put (b + 1) pre s A post) Q:=w_get (show decode kb21 21 = .ok (.getfield 97,3) from by decide +kernel) gf_97 put_o rfl
theorem m21_24 : M21 24 [l0,.val (.int v),l2] st H Q = M21 25 [l0,.val (.int v),l2] (.int v::st) H Q:=w_x (show decode kb21 24 = .ok (.iload_n 1,1) from by decide +kernel) rfl
theorem m21_25  : M21 25 ls (.int v::.int j::.ref ((b + 1) + 11)::st) (put (b + 1) pre s A post) Q = (inB j (A 10)∧M21 26 ls st (put (b + 1) pre s (ou A 10 (setA (A 10) j v)) post) Q):=w_ist (show decode kb21 25 = .ok (.iastore,1) from by decide +kernel) rfl put_a10 (by omega) rfl put_w10
theorem m21_26 : M21 26 [.val (.ref r),l1,l2] st H Q = M21 27 [.val (.ref r),l1,l2] (.ref r::st) H Q:=w_x (show decode kb21 26 = .ok (.aload_n 0,1) from by decide +kernel) rfl
theorem m21_27 : M21 27 ls (.ref (b + 1)::st) (put (b + 1) pre s A post) Q = M21 30 ls (.ref ((b + 1) + 12)::st) (put (b + 1) pre s A post) Q:=w_get (show decode kb21 27 = .ok (.getfield 44,3) from by decide +kernel) gf_44 put_o rfl
theorem m21_30 : M21 30 [.val (.ref r),l1,l2] st H Q = M21 31 [.val (.ref r),l1,l2] (.ref r::st) H Q:=w_x (show decode kb21 30 = .ok (.aload_n 0,1) from by decide +kernel) rfl
theorem m21_31 : M21 31 ls (.ref (b + 1)::st) (put (b + 1) pre s A post) Q = M21 34 ls (.int (s 16)::st) (put (b + 1) pre s A post) Q:=w_get (show decode kb21 31 = .ok (.getfield 97,3) from by decide +kernel) gf_97 put_o rfl
theorem m21_34 : M21 34 [l0,l1,.val (.int v)] st H Q = M21 35 [l0,l1,.val (.int v)] (.int v::st) H Q:=w_x (show decode kb21 34 = .ok (.iload_n 2,1) from by decide +kernel) rfl
theorem m21_35  : M21 35 ls (.int v::.int j::.ref ((b + 1) + 12)::st) (put (b + 1) pre s A post) Q = (inB j (A 11)∧M21 36 ls st (put (b + 1) pre s (ou A 11 (setA (A 11) j v)) post) Q):=w_ist (show decode kb21 35 = .ok (.iastore,1) from by decide +kernel) rfl put_a11 (by omega) rfl put_w11
theorem m21_36 : M21 36 [.val (.ref r),l1,l2] st H Q = M21 37 [.val (.ref r),l1,l2] (.ref r::st) H Q:=w_x (show decode kb21 36 = .ok (.aload_n 0,1) from by decide +kernel) rfl
theorem m21_37 : M21 37 ls ((.ref r)::st) H Q = M21 38 ls ((.ref r)::(.ref r)::st) H Q:=w_x (show decode kb21 37 = .ok (.dup,1) from by decide +kernel) rfl
theorem m21_38 : M21 38 ls (.ref (b + 1)::st) (put (b + 1) pre s A post) Q = M21 41 ls (.int (s 16)::st) (put (b + 1) pre s A post) Q:=w_get (show decode kb21 38 = .ok (.getfield 97,3) from by decide +kernel) gf_97 put_o rfl
theorem m21_41 : M21 41 ls st H Q = M21 42 ls (.int 1::st) H Q:=w_con (show decode kb21 41 = .ok (.iconst 1,1) from by decide +kernel) rfl (by decide)
theorem m21_42 : M21 42 ls (.int y::.int x::st) H Q = M21 43 ls (.int (x + y)::st) H Q:=w_x (show decode kb21 42 = .ok (.iadd,1) from by decide +kernel) rfl
theorem pf21_97 : pfR tables_1 y21.cls y21.name 97 = some ("StreamSigScanner", 28,.int):=by decide +kernel
theorem m21_43 : M21 43 ls (.int v::.ref (b + 1)::st) (put (b + 1) pre s A post) Q = M21 46 ls st (put (b + 1) pre (ou s 16 v) A post) Q:=w_put (show decode kb21 43 = .ok (.putfield 97,3) from by decide +kernel) pf21_97 put_o (Nat.succ_le_succ (Nat.zero_le _)) (by show 28 < 29; omega) rfl put_s16
theorem m21_46 : M21 46 ls [] H Q = Q none H:=w_vret (show decode kb21 46 = .ok (.return_,1) from by decide +kernel) rfl
theorem m22_0 : M22 0 [.val (.ref r),l1] st H Q = M22 1 [.val (.ref r),l1] (.ref r::st) H Q:=w_x (show decode kb22 0 = .ok (.aload_n 0,1) from by decide +kernel) rfl
theorem m22_1 : M22 1 [l0,.val (.int v)] st H Q = M22 2 [l0,.val (.int v)] (.int v::st) H Q:=w_x (show decode kb22 1 = .ok (.iload_n 1,1) from by decide +kernel) rfl
theorem cr22_141 : vR tables_1 dn y22 141 = some (true,y23,prog_1_method_25_code,3,(some .boolean),1,0):=pR_of (cR_of (by decide +kernel) rc_23 dn_23 dn_22 (sig:=⟨[.int],some .boolean⟩) (by decide +kernel) (by decide +kernel) rfl rfl) (by decide +kernel) (by decide +kernel)
theorem m22_2 (a0 : Int32) : M22 2 ls [.int a0,.ref (b + 1)] (put (b + 1) pre s A post) Q = M23 0 [.val (.ref (b + 1)),.val (.int a0),.unset] [] (put (b + 1) pre s A post) (fun v H1 => M22 5 ls (v.toList ++ []) H1 Q):=w_virt (as:=[.int a0]) (rest:=[]) (a:=(b + 1)) (show decode kb22 2 = .ok (.invokevirtual 141,3) from by decide +kernel) cr22_141 put_o rfl rfl (Nat.le_of_ble_eq_true rfl) (by show 2≤3; omega) rfl
theorem m22_5 : M22 5 ls (.int x::st) H Q = if x = 0 then M22 8 ls st H Q else M22 10 ls st H Q:=w_ifN (show decode kb22 5 = .ok (.ifCond .ne 5,3) from by decide +kernel) (z_ne x) rfl
theorem m22_8 : M22 8 ls st H Q = M22 9 ls (.int (-1)::st) H Q:=w_con (show decode kb22 8 = .ok (.iconst (-1),1) from by decide +kernel) rfl (by decide)
theorem m22_9 : M22 9 ls (.int z::st) H Q = Q (some (.int z)) H:=w_iret (show decode kb22 9 = .ok (.ireturn,1) from by decide +kernel) rfl
theorem m22_10 : M22 10 [.val (.ref r),l1] st H Q = M22 11 [.val (.ref r),l1] (.ref r::st) H Q:=w_x (show decode kb22 10 = .ok (.aload_n 0,1) from by decide +kernel) rfl
theorem m22_11 : M22 11 ls (.ref (b + 1)::st) (put (b + 1) pre s A post) Q = M22 14 ls (.ref ((b + 1) + 11)::st) (put (b + 1) pre s A post) Q:=w_get (show decode kb22 11 = .ok (.getfield 41,3) from by decide +kernel) gf_41 put_o rfl
theorem m22_14 : M22 14 [l0,.val (.int v)] st H Q = M22 15 [l0,.val (.int v)] (.int v::st) H Q:=w_x (show decode kb22 14 = .ok (.iload_n 1,1) from by decide +kernel) rfl
theorem m22_15  : M22 15 ls (.int j::.ref ((b + 1) + 11)::st) (put (b + 1) pre s A post) Q = (inB j (A 10)∧M22 16 ls (.int (getA (A 10) j)::st) (put (b + 1) pre s A post) Q):=w_ild (show decode kb22 15 = .ok (.iaload,1) from by decide +kernel) rfl put_a10
theorem m22_16 : M22 16 ls (.int z::st) H Q = Q (some (.int z)) H:=w_iret (show decode kb22 16 = .ok (.ireturn,1) from by decide +kernel) rfl
theorem m23_0 : M23 0 [.val (.ref r),l1,l2] st H Q = M23 1 [.val (.ref r),l1,l2] (.ref r::st) H Q:=w_x (show decode kb23 0 = .ok (.aload_n 0,1) from by decide +kernel) rfl
theorem m23_1 : M23 1 ls (.ref (b + 1)::st) (put (b + 1) pre s A post) Q = M23 4 ls (.int (s 16)::st) (put (b + 1) pre s A post) Q:=w_get (show decode kb23 1 = .ok (.getfield 97,3) from by decide +kernel) gf_97 put_o rfl
theorem m23_4u : M23 4 [l0,l1,.unset] ((.int v)::st) H Q = M23 5 [l0,l1,.val (.int v)] st H Q:=w_st (i:=2) (p:=isI) (show decode kb23 4 = .ok (.istore_n 2,1) from by decide +kernel) rfl rfl rfl rfl rfl rfl
theorem m23_5 : M23 5 [l0,l1,.val (.int v)] st H Q = M23 6 [l0,l1,.val (.int v)] (.int v::st) H Q:=w_x (show decode kb23 5 = .ok (.iload_n 2,1) from by decide +kernel) rfl
theorem m23_6 : M23 6 ls st H Q = M23 8 ls (.int 64::st) H Q:=w_con (show decode kb23 6 = .ok (.bipush 64,2) from by decide +kernel) rfl (by decide)
theorem m23_8 : M23 8 ls (.int y::.int x::st) H Q = if y < x then M23 11 ls st H Q else M23 14 ls st H Q:=w_icmpN (show decode kb23 8 = .ok (.if_icmp .le 6,3) from by decide +kernel) (i_le x y) rfl
theorem m23_11 : M23 11 ls st H Q = M23 13 ls (.int 64::st) H Q:=w_con (show decode kb23 11 = .ok (.bipush 64,2) from by decide +kernel) rfl (by decide)
theorem m23_13i : M23 13 [l0,l1,.val (.int z)] ((.int v)::st) H Q = M23 14 [l0,l1,.val (.int v)] st H Q:=w_st (i:=2) (p:=isI) (show decode kb23 13 = .ok (.istore_n 2,1) from by decide +kernel) rfl rfl rfl rfl rfl rfl
theorem m23_14 : M23 14 [l0,.val (.int v),l2] st H Q = M23 15 [l0,.val (.int v),l2] (.int v::st) H Q:=w_x (show decode kb23 14 = .ok (.iload_n 1,1) from by decide +kernel) rfl
theorem m23_15 : M23 15 ls (.int x::st) H Q = if x < 0 then M23 27 ls st H Q else M23 18 ls st H Q:=w_if (show decode kb23 15 = .ok (.ifCond .lt 12,3) from by decide +kernel) (z_lt x) rfl
theorem m23_18 : M23 18 [l0,.val (.int v),l2] st H Q = M23 19 [l0,.val (.int v),l2] (.int v::st) H Q:=w_x (show decode kb23 18 = .ok (.iload_n 1,1) from by decide +kernel) rfl
theorem m23_19 : M23 19 [l0,l1,.val (.int v)] st H Q = M23 20 [l0,l1,.val (.int v)] (.int v::st) H Q:=w_x (show decode kb23 19 = .ok (.iload_n 2,1) from by decide +kernel) rfl
theorem m23_20 : M23 20 ls (.int y::.int x::st) H Q = if x < y then M23 23 ls st H Q else M23 27 ls st H Q:=w_icmpN (show decode kb23 20 = .ok (.if_icmp .ge 7,3) from by decide +kernel) (i_ge x y) rfl
theorem m23_23 : M23 23 ls st H Q = M23 24 ls (.int 1::st) H Q:=w_con (show decode kb23 23 = .ok (.iconst 1,1) from by decide +kernel) rfl (by decide)
theorem m23_24 : M23 24 ls st H Q = M23 28 ls st H Q:=w_x (show decode kb23 24 = .ok (.goto 4,3) from by decide +kernel) rfl
theorem m23_27 : M23 27 ls st H Q = M23 28 ls (.int 0::st) H Q:=w_con (show decode kb23 27 = .ok (.iconst 0,1) from by decide +kernel) rfl (by decide)
theorem m23_28 : M23 28 ls (.int z::st) H Q = Q (some (.int (nar .boolean z))) H:=w_iretN (show decode kb23 28 = .ok (.ireturn,1) from by decide +kernel) rfl (by simp)
theorem m24_0 : M24 0 [.val (.ref r),l1] st H Q = M24 1 [.val (.ref r),l1] (.ref r::st) H Q:=w_x (show decode kb24 0 = .ok (.aload_n 0,1) from by decide +kernel) rfl
theorem m24_1 : M24 1 [l0,.val (.int v)] st H Q = M24 2 [l0,.val (.int v)] (.int v::st) H Q:=w_x (show decode kb24 1 = .ok (.iload_n 1,1) from by decide +kernel) rfl
theorem cr24_141 : vR tables_1 dn y24 141 = some (true,y23,prog_1_method_25_code,3,(some .boolean),1,0):=pR_of (cR_of (by decide +kernel) rc_23 dn_23 dn_24 (sig:=⟨[.int],some .boolean⟩) (by decide +kernel) (by decide +kernel) rfl rfl) (by decide +kernel) (by decide +kernel)
theorem m24_2 (a0 : Int32) : M24 2 ls [.int a0,.ref (b + 1)] (put (b + 1) pre s A post) Q = M23 0 [.val (.ref (b + 1)),.val (.int a0),.unset] [] (put (b + 1) pre s A post) (fun v H1 => M24 5 ls (v.toList ++ []) H1 Q):=w_virt (as:=[.int a0]) (rest:=[]) (a:=(b + 1)) (show decode kb24 2 = .ok (.invokevirtual 141,3) from by decide +kernel) cr24_141 put_o rfl rfl (Nat.le_of_ble_eq_true rfl) (by show 2≤3; omega) rfl
theorem m24_5 : M24 5 ls (.int x::st) H Q = if x = 0 then M24 8 ls st H Q else M24 10 ls st H Q:=w_ifN (show decode kb24 5 = .ok (.ifCond .ne 5,3) from by decide +kernel) (z_ne x) rfl
theorem m24_8 : M24 8 ls st H Q = M24 9 ls (.int (-1)::st) H Q:=w_con (show decode kb24 8 = .ok (.iconst (-1),1) from by decide +kernel) rfl (by decide)
theorem m24_9 : M24 9 ls (.int z::st) H Q = Q (some (.int z)) H:=w_iret (show decode kb24 9 = .ok (.ireturn,1) from by decide +kernel) rfl
theorem m24_10 : M24 10 [.val (.ref r),l1] st H Q = M24 11 [.val (.ref r),l1] (.ref r::st) H Q:=w_x (show decode kb24 10 = .ok (.aload_n 0,1) from by decide +kernel) rfl
theorem m24_11 : M24 11 ls (.ref (b + 1)::st) (put (b + 1) pre s A post) Q = M24 14 ls (.ref ((b + 1) + 12)::st) (put (b + 1) pre s A post) Q:=w_get (show decode kb24 11 = .ok (.getfield 44,3) from by decide +kernel) gf_44 put_o rfl
theorem m24_14 : M24 14 [l0,.val (.int v)] st H Q = M24 15 [l0,.val (.int v)] (.int v::st) H Q:=w_x (show decode kb24 14 = .ok (.iload_n 1,1) from by decide +kernel) rfl
theorem m24_15  : M24 15 ls (.int j::.ref ((b + 1) + 12)::st) (put (b + 1) pre s A post) Q = (inB j (A 11)∧M24 16 ls (.int (getA (A 11) j)::st) (put (b + 1) pre s A post) Q):=w_ild (show decode kb24 15 = .ok (.iaload,1) from by decide +kernel) rfl put_a11
theorem m24_16 : M24 16 ls (.int z::st) H Q = Q (some (.int z)) H:=w_iret (show decode kb24 16 = .ok (.ireturn,1) from by decide +kernel) rfl
theorem m25_0 : M25 0 [l0,.val (.int v)] st H Q = M25 1 [l0,.val (.int v)] (.int v::st) H Q:=w_x (show decode kb25 0 = .ok (.iload_n 1,1) from by decide +kernel) rfl
theorem m25_1 : M25 1 [.val (.ref r),l1] st H Q = M25 2 [.val (.ref r),l1] (.ref r::st) H Q:=w_x (show decode kb25 1 = .ok (.aload_n 0,1) from by decide +kernel) rfl
theorem m25_2 : M25 2 ls (.ref 0::st) ((.array .int,sc.map Value.int)::R) Q = M25 3 ls (.int sc.length.toInt32::st) ((.array .int,sc.map Value.int)::R) Q:=by exact (w_len (show decode kb25 2 = .ok (.arraylength,1) from by decide +kernel) rfl).trans (by rw [List.length_map]; rfl)
theorem m25_2p : M25 2 ls (.ref 0::st) (put (b + 1) ((.array .int,sc.map Value.int)::pre) s A post) Q = M25 3 ls (.int sc.length.toInt32::st) (put (b + 1) ((.array .int,sc.map Value.int)::pre) s A post) Q:=by exact (w_len (show decode kb25 2 = .ok (.arraylength,1) from by decide +kernel) rfl).trans (by rw [List.length_map]; rfl)
theorem m25_3 : M25 3 ls (.int y::.int x::st) H Q = if x < y then M25 6 ls st H Q else M25 12 ls st H Q:=w_icmpN (show decode kb25 3 = .ok (.if_icmp .ge 9,3) from by decide +kernel) (i_ge x y) rfl
theorem m25_6 : M25 6 [.val (.ref r),l1] st H Q = M25 7 [.val (.ref r),l1] (.ref r::st) H Q:=w_x (show decode kb25 6 = .ok (.aload_n 0,1) from by decide +kernel) rfl
theorem m25_7 : M25 7 [l0,.val (.int v)] st H Q = M25 8 [l0,.val (.int v)] (.int v::st) H Q:=w_x (show decode kb25 7 = .ok (.iload_n 1,1) from by decide +kernel) rfl
theorem m25_8 : M25 8 ls (.int j::.ref 0::st) ((.array .int,sc.map Value.int)::R) Q = (inB j sc∧M25 9 ls (.int (getA sc j)::st) ((.array .int,sc.map Value.int)::R) Q):=w_ild (show decode kb25 8 = .ok (.iaload,1) from by decide +kernel) rfl rfl
theorem m25_8p : M25 8 ls (.int j::.ref 0::st) (put (b + 1) ((.array .int,sc.map Value.int)::pre) s A post) Q = (inB j sc∧M25 9 ls (.int (getA sc j)::st) (put (b + 1) ((.array .int,sc.map Value.int)::pre) s A post) Q):=w_ild (show decode kb25 8 = .ok (.iaload,1) from by decide +kernel) rfl rfl
theorem m25_9 : M25 9 ls st H Q = M25 13 ls st H Q:=w_x (show decode kb25 9 = .ok (.goto 4,3) from by decide +kernel) rfl
theorem m25_12 : M25 12 ls st H Q = M25 13 ls (.int 0::st) H Q:=w_con (show decode kb25 12 = .ok (.iconst 0,1) from by decide +kernel) rfl (by decide)
theorem m25_13 : M25 13 ls (.int z::st) H Q = Q (some (.int z)) H:=w_iret (show decode kb25 13 = .ok (.ireturn,1) from by decide +kernel) rfl
theorem m26_0 : M26 0 [.val (.int v),l1,l2,l3,l4] st H Q = M26 1 [.val (.int v),l1,l2,l3,l4] (.int v::st) H Q:=w_x (show decode kb26 0 = .ok (.iload_n 0,1) from by decide +kernel) rfl
theorem m26_1 : M26 1 [l0,.val (.int v),l2,l3,l4] st H Q = M26 2 [l0,.val (.int v),l2,l3,l4] (.int v::st) H Q:=w_x (show decode kb26 1 = .ok (.iload_n 1,1) from by decide +kernel) rfl
theorem cr26_19 : sR tables_1 dn y26 19 = some (y27,method_3_code,3,(some .int),2,0):=sR_of (cR_of (by decide +kernel) rc_27 dn_27 dn_26 (sig:=⟨[.int,.int],some .int⟩) (by decide +kernel) (by decide +kernel) rfl rfl) (by decide +kernel)
theorem m26_2 (a0 : Int32) (a1 : Int32) : M26 2 ls [.int a1,.int a0] H Q = M27 0 [.val (.int a0),.val (.int a1),.unset] [] H (fun v H1 => M26 5 ls (v.toList ++ []) H1 Q):=w_stat (as:=[.int a1,.int a0]) (rest:=[]) (show decode kb26 2 = .ok (.invokestatic 19,3) from by decide +kernel) cr26_19 rfl (Nat.le_of_ble_eq_true rfl) (by show 2≤3; omega) rfl
theorem m26_5 : M26 5 [l0,l1,.val (.int v),l3,l4] st H Q = M26 6 [l0,l1,.val (.int v),l3,l4] (.int v::st) H Q:=w_x (show decode kb26 5 = .ok (.iload_n 2,1) from by decide +kernel) rfl
theorem m26_6 : M26 6 ls (.int x::st) H Q = if x = 0 then M26 21 ls st H Q else M26 9 ls st H Q:=w_if (show decode kb26 6 = .ok (.ifCond .eq 15,3) from by decide +kernel) (z_eq x) rfl
theorem m26_9 : M26 9 [l0,l1,l2,.val (.int v),l4] st H Q = M26 10 [l0,l1,l2,.val (.int v),l4] (.int v::st) H Q:=w_x (show decode kb26 9 = .ok (.iload_n 3,1) from by decide +kernel) rfl
theorem m26_10 : M26 10 ls st H Q = M26 12 ls (.int 11::st) H Q:=w_con (show decode kb26 10 = .ok (.bipush 11,2) from by decide +kernel) rfl (by decide)
theorem m26_12 : M26 12 [l0,l1,l2,l3,.val (.int v)] st H Q = M26 14 [l0,l1,l2,l3,.val (.int v)] (.int v::st) H Q:=w_x (show decode kb26 12 = .ok (.iload 4,2) from by decide +kernel) rfl
theorem m26_14 : M26 14 ls (.int y::.int x::st) H Q = M26 15 ls (.int (x + y)::st) H Q:=w_x (show decode kb26 14 = .ok (.iadd,1) from by decide +kernel) rfl
theorem m26_15 : M26 15 ls (.int y::.int x::st) H Q = M26 16 ls (.int (x >>> (y &&& 31))::st) H Q:=w_x (show decode kb26 15 = .ok (.ishr,1) from by decide +kernel) rfl
theorem m26_16 : M26 16 ls st H Q = M26 17 ls (.int 1::st) H Q:=w_con (show decode kb26 16 = .ok (.iconst 1,1) from by decide +kernel) rfl (by decide)
theorem m26_17 : M26 17 ls (.int y::.int x::st) H Q = M26 18 ls (.int (x &&& y)::st) H Q:=w_x (show decode kb26 17 = .ok (.iand,1) from by decide +kernel) rfl
theorem m26_18 : M26 18 ls st H Q = M26 22 ls st H Q:=w_x (show decode kb26 18 = .ok (.goto 4,3) from by decide +kernel) rfl
theorem m26_21 : M26 21 ls st H Q = M26 22 ls (.int 0::st) H Q:=w_con (show decode kb26 21 = .ok (.iconst 0,1) from by decide +kernel) rfl (by decide)
theorem m26_22 : M26 22 ls (.int y::.int x::st) H Q = M26 23 ls (.int (x ^^^ y)::st) H Q:=w_x (show decode kb26 22 = .ok (.ixor,1) from by decide +kernel) rfl
theorem m26_23 : M26 23 ls (.int z::st) H Q = Q (some (.int z)) H:=w_iret (show decode kb26 23 = .ok (.ireturn,1) from by decide +kernel) rfl
theorem m27_0 : M27 0 [.val (.int v),l1,l2] st H Q = M27 1 [.val (.int v),l1,l2] (.int v::st) H Q:=w_x (show decode kb27 0 = .ok (.iload_n 0,1) from by decide +kernel) rfl
theorem m27_1 : M27 1 ls st H Q = M27 3 ls (.int (-1640531535)::st) H Q:=w_ldc (show decode kb27 1 = .ok (.ldc 7,2) from by decide +kernel) (by decide +kernel)
theorem m27_3 : M27 3 ls (.int y::.int x::st) H Q = M27 4 ls (.int (x * y)::st) H Q:=w_x (show decode kb27 3 = .ok (.imul,1) from by decide +kernel) rfl
theorem m27_4 : M27 4 [l0,.val (.int v),l2] st H Q = M27 5 [l0,.val (.int v),l2] (.int v::st) H Q:=w_x (show decode kb27 4 = .ok (.iload_n 1,1) from by decide +kernel) rfl
theorem m27_5 : M27 5 ls st H Q = M27 7 ls (.int (-2048144789)::st) H Q:=w_ldc (show decode kb27 5 = .ok (.ldc 8,2) from by decide +kernel) (by decide +kernel)
theorem m27_7 : M27 7 ls (.int y::.int x::st) H Q = M27 8 ls (.int (x * y)::st) H Q:=w_x (show decode kb27 7 = .ok (.imul,1) from by decide +kernel) rfl
theorem m27_8 : M27 8 ls (.int y::.int x::st) H Q = M27 9 ls (.int (x + y)::st) H Q:=w_x (show decode kb27 8 = .ok (.iadd,1) from by decide +kernel) rfl
theorem m27_9u : M27 9 [l0,l1,.unset] ((.int v)::st) H Q = M27 10 [l0,l1,.val (.int v)] st H Q:=w_st (i:=2) (p:=isI) (show decode kb27 9 = .ok (.istore_n 2,1) from by decide +kernel) rfl rfl rfl rfl rfl rfl
theorem m27_10 : M27 10 [l0,l1,.val (.int v)] st H Q = M27 11 [l0,l1,.val (.int v)] (.int v::st) H Q:=w_x (show decode kb27 10 = .ok (.iload_n 2,1) from by decide +kernel) rfl
theorem m27_11 : M27 11 [l0,l1,.val (.int v)] st H Q = M27 12 [l0,l1,.val (.int v)] (.int v::st) H Q:=w_x (show decode kb27 11 = .ok (.iload_n 2,1) from by decide +kernel) rfl
theorem m27_12 : M27 12 ls st H Q = M27 14 ls (.int 15::st) H Q:=w_con (show decode kb27 12 = .ok (.bipush 15,2) from by decide +kernel) rfl (by decide)
theorem m27_14 : M27 14 ls (.int y::.int x::st) H Q = M27 15 ls (.int (XT.ushr x y)::st) H Q:=w_x (show decode kb27 14 = .ok (.iushr,1) from by decide +kernel) rfl
theorem m27_15 : M27 15 ls (.int y::.int x::st) H Q = M27 16 ls (.int (x ^^^ y)::st) H Q:=w_x (show decode kb27 15 = .ok (.ixor,1) from by decide +kernel) rfl
theorem m27_16i : M27 16 [l0,l1,.val (.int z)] ((.int v)::st) H Q = M27 17 [l0,l1,.val (.int v)] st H Q:=w_st (i:=2) (p:=isI) (show decode kb27 16 = .ok (.istore_n 2,1) from by decide +kernel) rfl rfl rfl rfl rfl rfl
theorem m27_17 : M27 17 [l0,l1,.val (.int v)] st H Q = M27 18 [l0,l1,.val (.int v)] (.int v::st) H Q:=w_x (show decode kb27 17 = .ok (.iload_n 2,1) from by decide +kernel) rfl
theorem m27_18 : M27 18 ls st H Q = M27 20 ls (.int 7::st) H Q:=w_con (show decode kb27 18 = .ok (.bipush 7,2) from by decide +kernel) rfl (by decide)
theorem m27_20 : M27 20 ls (.int y::.int x::st) H Q = M27 21 ls (.int (XT.ushr x y)::st) H Q:=w_x (show decode kb27 20 = .ok (.iushr,1) from by decide +kernel) rfl
theorem m27_21 : M27 21 ls st H Q = M27 22 ls (.int 1::st) H Q:=w_con (show decode kb27 21 = .ok (.iconst 1,1) from by decide +kernel) rfl (by decide)
theorem m27_22 : M27 22 ls (.int y::.int x::st) H Q = M27 23 ls (.int (x &&& y)::st) H Q:=w_x (show decode kb27 22 = .ok (.iand,1) from by decide +kernel) rfl
theorem m27_23 : M27 23 ls (.int z::st) H Q = Q (some (.int z)) H:=w_iret (show decode kb27 23 = .ok (.ireturn,1) from by decide +kernel) rfl
theorem m28_0 : M28 0 ls st H Q = M28 3 ls (.long 17::st) H Q:=w_ldc2 (show decode kb28 0 = .ok (.ldc2_w 9,3) from by decide +kernel) (by decide +kernel)
theorem m28_3 : M28 3 [l0,l1,l2,.unset,.unset,l5] (.long J1::st) H Q = M28 4 [l0,l1,l2,.val (.long J1),.second,l5] st H Q:=w_x (show decode kb28 3 = .ok (.lstore_n 3,1) from by decide +kernel) rfl
theorem m28_4 : M28 4 ls st H Q = M28 5 ls (.int 0::st) H Q:=w_con (show decode kb28 4 = .ok (.iconst 0,1) from by decide +kernel) rfl (by decide)
theorem m28_5u : M28 5 [l0,l1,l2,l3,l4,.unset] ((.int v)::st) H Q = M28 7 [l0,l1,l2,l3,l4,.val (.int v)] st H Q:=w_st (i:=5) (p:=isI) (show decode kb28 5 = .ok (.istore 5,2) from by decide +kernel) rfl rfl rfl rfl rfl rfl
theorem m28_7 : M28 7 [l0,l1,l2,l3,l4,.val (.int v)] st H Q = M28 9 [l0,l1,l2,l3,l4,.val (.int v)] (.int v::st) H Q:=w_x (show decode kb28 7 = .ok (.iload 5,2) from by decide +kernel) rfl
theorem m28_9 : M28 9 ls st H Q = M28 12 ls (.int 256::st) H Q:=w_con (show decode kb28 9 = .ok (.sipush 256,3) from by decide +kernel) rfl (by decide)
theorem m28_12 : M28 12 ls (.int y::.int x::st) H Q = if x < y then M28 15 ls st H Q else M28 52 ls st H Q:=w_icmpN (show decode kb28 12 = .ok (.if_icmp .ge 40,3) from by decide +kernel) (i_ge x y) rfl
theorem m28_15 : M28 15 [l0,l1,l2,l3,l4,.val (.int v)] st H Q = M28 17 [l0,l1,l2,l3,l4,.val (.int v)] (.int v::st) H Q:=w_x (show decode kb28 15 = .ok (.iload 5,2) from by decide +kernel) rfl
theorem m28_17 : M28 17 [l0,.val (.int v),l2,l3,l4,l5] st H Q = M28 18 [l0,.val (.int v),l2,l3,l4,l5] (.int v::st) H Q:=w_x (show decode kb28 17 = .ok (.iload_n 1,1) from by decide +kernel) rfl
theorem m28_18 : M28 18 ls (.int y::.int x::st) H Q = if x < y then M28 30 ls st H Q else M28 21 ls st H Q:=w_icmp (show decode kb28 18 = .ok (.if_icmp .lt 12,3) from by decide +kernel) (i_lt x y) rfl
theorem m28_21 : M28 21 [l0,l1,l2,l3,l4,.val (.int v)] st H Q = M28 23 [l0,l1,l2,l3,l4,.val (.int v)] (.int v::st) H Q:=w_x (show decode kb28 21 = .ok (.iload 5,2) from by decide +kernel) rfl
theorem m28_23 : M28 23 [l0,l1,.val (.int v),l3,l4,l5] st H Q = M28 24 [l0,l1,.val (.int v),l3,l4,l5] (.int v::st) H Q:=w_x (show decode kb28 23 = .ok (.iload_n 2,1) from by decide +kernel) rfl
theorem m28_24 : M28 24 ls (.int y::.int x::st) H Q = if x < y then M28 27 ls st H Q else M28 30 ls st H Q:=w_icmpN (show decode kb28 24 = .ok (.if_icmp .ge 6,3) from by decide +kernel) (i_ge x y) rfl
theorem m28_27 : M28 27 ls st H Q = M28 46 ls st H Q:=w_x (show decode kb28 27 = .ok (.goto 19,3) from by decide +kernel) rfl
theorem m28_30 : M28 30 [l0,l1,l2,.val (.long J1),l4,l5] st H Q = M28 31 [l0,l1,l2,.val (.long J1),l4,l5] (.long J1::st) H Q:=w_x (show decode kb28 30 = .ok (.lload_n 3,1) from by decide +kernel) rfl
theorem m28_31 : M28 31 ls st H Q = M28 34 ls (.long 31::st) H Q:=w_ldc2 (show decode kb28 31 = .ok (.ldc2_w 11,3) from by decide +kernel) (by decide +kernel)
theorem m28_34 : M28 34 ls (.long J2::.long J1::st) H Q = M28 35 ls (.long (J1 * J2)::st) H Q:=w_x (show decode kb28 34 = .ok (.lmul,1) from by decide +kernel) rfl
theorem m28_35 : M28 35 [.val (.ref r),l1,l2,l3,l4,l5] st H Q = M28 36 [.val (.ref r),l1,l2,l3,l4,l5] (.ref r::st) H Q:=w_x (show decode kb28 35 = .ok (.aload_n 0,1) from by decide +kernel) rfl
theorem m28_36 : M28 36 [l0,l1,l2,l3,l4,.val (.int v)] st H Q = M28 38 [l0,l1,l2,l3,l4,.val (.int v)] (.int v::st) H Q:=w_x (show decode kb28 36 = .ok (.iload 5,2) from by decide +kernel) rfl
theorem cr28_13 : vR tables_1 dn y28 13 = some (false,y12,prog_1_method_17_code,2,(some .int),1,2):=vR_of (cR_of (by decide +kernel) rc_12 dn_12 dn_28 (sig:=⟨[.int],some .int⟩) (by decide +kernel) (by decide +kernel) rfl rfl) (by decide +kernel) (by decide +kernel) (by decide +kernel)
theorem m28_38 (a0 : Int32) (u0 : Int64) : M28 38 ls [.int a0,.ref (b + 1),.long u0] (put (b + 1) pre s A post) Q = M12 0 [.val (.ref (b + 1)),.val (.int a0)] [] (put (b + 1) pre s A post) (fun v H1 => M28 41 ls (v.toList ++ [.long u0]) H1 Q):=w_virt (as:=[.int a0]) (rest:=[.long u0]) (a:=(b + 1)) (show decode kb28 38 = .ok (.invokevirtual 13,3) from by decide +kernel) cr28_13 put_o rfl rfl (Nat.le_of_ble_eq_true rfl) (by show 2≤2; omega) rfl
theorem m28_41 : M28 41 ls st H Q = M28 42 ls (.int 2::st) H Q:=w_con (show decode kb28 41 = .ok (.iconst 2,1) from by decide +kernel) rfl (by decide)
theorem m28_42 : M28 42 ls (.int y::.int x::st) H Q = M28 43 ls (.int (x + y)::st) H Q:=w_x (show decode kb28 42 = .ok (.iadd,1) from by decide +kernel) rfl
theorem m28_43 : M28 43 ls (.int x::st) H Q = M28 44 ls (.long x.toInt64::st) H Q:=w_x (show decode kb28 43 = .ok (.i2l,1) from by decide +kernel) rfl
theorem m28_44 : M28 44 ls (.long J2::.long J1::st) H Q = M28 45 ls (.long (J1 + J2)::st) H Q:=w_x (show decode kb28 44 = .ok (.ladd,1) from by decide +kernel) rfl
theorem m28_45 : M28 45 [l0,l1,l2,.val (.long J2),.second,l5] (.long J1::st) H Q = M28 46 [l0,l1,l2,.val (.long J1),.second,l5] st H Q:=w_x (show decode kb28 45 = .ok (.lstore_n 3,1) from by decide +kernel) rfl
theorem m28_46 : M28 46 [l0,l1,l2,l3,l4,.val (.int v)] st H Q = M28 49 [l0,l1,l2,l3,l4,.val (.int (v + 1))] st H Q:=w_iinc (show decode kb28 46 = .ok (.iinc 5 1,3) from by decide +kernel) rfl (by decide) rfl
theorem m28_49 : M28 49 ls st H Q = M28 7 ls st H Q:=w_x (show decode kb28 49 = .ok (.goto (-42),3) from by decide +kernel) rfl
theorem m28_52 : M28 52 [l0,l1,l2,.val (.long J1),l4,l5] st H Q = M28 53 [l0,l1,l2,.val (.long J1),l4,l5] (.long J1::st) H Q:=w_x (show decode kb28 52 = .ok (.lload_n 3,1) from by decide +kernel) rfl
theorem m28_53 : M28 53 ls [.long J1] H Q = Q (some (.long J1)) H:=w_lret (show decode kb28 53 = .ok (.lreturn,1) from by decide +kernel) rfl
theorem m29_0 : M29 0 [.val (.ref r),l1,l2,l3,l4,l5,l6,l7,l8,l9,l10,l11,l12,l13,l14,l15,l16,l17,l18,l19,l20,l21,l22,l23] st H Q = M29 1 [.val (.ref r),l1,l2,l3,l4,l5,l6,l7,l8,l9,l10,l11,l12,l13,l14,l15,l16,l17,l18,l19,l20,l21,l22,l23] (.ref r::st) H Q:=w_x at_0 rfl
theorem m29_1 : M29 1 ls st H Q = M29 2 ls (.int 0::st) H Q:=w_con at_1 rfl (by decide)
theorem cr29_25 : sR tables_1 dn y29 25 = some (y25,method_2_code,2,(some .int),2,48):=sR_of (cR_of (by decide +kernel) rc_25 dn_25 dn_29 (sig:=⟨[.array .int,.int],some .int⟩) (by decide +kernel) (by decide +kernel) rfl rfl) (by decide +kernel)
theorem m29_2 (a0 : Nat) (a1 : Int32) : M29 2 ls [.int a1,.ref a0] H Q = M25 0 [.val (.ref a0),.val (.int a1)] [] H (fun v H1 => M29 5 ls (v.toList ++ []) H1 Q):=w_stat (as:=[.int a1,.ref a0]) (rest:=[]) at_2 cr29_25 rfl (Nat.le_of_ble_eq_true rfl) (by show 2≤2; omega) rfl
theorem m29_5u : M29 5 [l0,.unset,l2,l3,l4,l5,l6,l7,l8,l9,l10,l11,l12,l13,l14,l15,l16,l17,l18,l19,l20,l21,l22,l23] ((.int v)::st) H Q = M29 6 [l0,.val (.int v),l2,l3,l4,l5,l6,l7,l8,l9,l10,l11,l12,l13,l14,l15,l16,l17,l18,l19,l20,l21,l22,l23] st H Q:=w_st (i:=1) (p:=isI) at_5 rfl rfl rfl rfl rfl rfl
theorem m29_6 : M29 6 [.val (.ref r),l1,l2,l3,l4,l5,l6,l7,l8,l9,l10,l11,l12,l13,l14,l15,l16,l17,l18,l19,l20,l21,l22,l23] st H Q = M29 7 [.val (.ref r),l1,l2,l3,l4,l5,l6,l7,l8,l9,l10,l11,l12,l13,l14,l15,l16,l17,l18,l19,l20,l21,l22,l23] (.ref r::st) H Q:=w_x at_6 rfl
theorem m29_7 : M29 7 ls st H Q = M29 8 ls (.int 1::st) H Q:=w_con at_7 rfl (by decide)
theorem m29_8 (a0 : Nat) (a1 : Int32) : M29 8 ls [.int a1,.ref a0] H Q = M25 0 [.val (.ref a0),.val (.int a1)] [] H (fun v H1 => M29 11 ls (v.toList ++ []) H1 Q):=w_stat (as:=[.int a1,.ref a0]) (rest:=[]) at_8 cr29_25 rfl (Nat.le_of_ble_eq_true rfl) (by show 2≤2; omega) rfl
theorem m29_11 : M29 11 ls st H Q = M29 13 ls (.int 2147483647::st) H Q:=w_ldc at_11 (by decide +kernel)
theorem m29_13 : M29 13 ls (.int y::.int x::st) H Q = M29 14 ls (.int (x &&& y)::st) H Q:=w_x at_13 rfl
theorem m29_14 : M29 14 ls st H Q = M29 16 ls (.int 80::st) H Q:=w_con at_14 rfl (by decide)
theorem m29_16 : M29 16 ls (.int y::.int x::st) H Q = (y ≠ 0∧M29 17 ls (.int (x % y)::st) H Q):=w_div (f:=fun x y => x % y) at_16 (fun _ => rfl) rfl rfl
theorem m29_17u : M29 17 [l0,l1,.unset,l3,l4,l5,l6,l7,l8,l9,l10,l11,l12,l13,l14,l15,l16,l17,l18,l19,l20,l21,l22,l23] ((.int v)::st) H Q = M29 18 [l0,l1,.val (.int v),l3,l4,l5,l6,l7,l8,l9,l10,l11,l12,l13,l14,l15,l16,l17,l18,l19,l20,l21,l22,l23] st H Q:=w_st (i:=2) (p:=isI) at_17 rfl rfl rfl rfl rfl rfl
theorem m29_18 : M29 18 [.val (.ref r),l1,l2,l3,l4,l5,l6,l7,l8,l9,l10,l11,l12,l13,l14,l15,l16,l17,l18,l19,l20,l21,l22,l23] st H Q = M29 19 [.val (.ref r),l1,l2,l3,l4,l5,l6,l7,l8,l9,l10,l11,l12,l13,l14,l15,l16,l17,l18,l19,l20,l21,l22,l23] (.ref r::st) H Q:=w_x at_18 rfl
theorem m29_19 : M29 19 ls st H Q = M29 20 ls (.int 2::st) H Q:=w_con at_19 rfl (by decide)
theorem m29_20 (a0 : Nat) (a1 : Int32) : M29 20 ls [.int a1,.ref a0] H Q = M25 0 [.val (.ref a0),.val (.int a1)] [] H (fun v H1 => M29 23 ls (v.toList ++ []) H1 Q):=w_stat (as:=[.int a1,.ref a0]) (rest:=[]) at_20 cr29_25 rfl (Nat.le_of_ble_eq_true rfl) (by show 2≤2; omega) rfl
theorem m29_23u : M29 23 [l0,l1,l2,.unset,l4,l5,l6,l7,l8,l9,l10,l11,l12,l13,l14,l15,l16,l17,l18,l19,l20,l21,l22,l23] ((.int v)::st) H Q = M29 24 [l0,l1,l2,.val (.int v),l4,l5,l6,l7,l8,l9,l10,l11,l12,l13,l14,l15,l16,l17,l18,l19,l20,l21,l22,l23] st H Q:=w_st (i:=3) (p:=isI) at_23 rfl rfl rfl rfl rfl rfl
theorem m29_24 : M29 24 ls st H Q = M29 27 ls (.ref H.length::st) (H ++ [(.object "StreamSigScanner", D0)]) Q:=(w_new (C := "StreamSigScanner") at_24 (by rw [hNew,show rCls tables_1 y29.cls 14 = some "StreamSigScanner" from by decide +kernel]; dsimp only; rw [if_pos (by decide +kernel)])).trans (by rw [lay0]; rfl)
theorem m29_27 : M29 27 ls ((.ref r)::st) H Q = M29 28 ls ((.ref r)::(.ref r)::st) H Q:=w_x at_27 rfl
theorem m29_28 : M29 28 [l0,l1,.val (.int v),l3,l4,l5,l6,l7,l8,l9,l10,l11,l12,l13,l14,l15,l16,l17,l18,l19,l20,l21,l22,l23] st H Q = M29 29 [l0,l1,.val (.int v),l3,l4,l5,l6,l7,l8,l9,l10,l11,l12,l13,l14,l15,l16,l17,l18,l19,l20,l21,l22,l23] (.int v::st) H Q:=w_x at_28 rfl
theorem cr29_30 : nR tables_1 dn y29 30 = some (y0,prog_1_method_1_code,3,none,1,35):=nR_of (cR_of (by decide +kernel) rc_0 dn_0 dn_29 (sig:=⟨[.int],none⟩) (by decide +kernel) (by decide +kernel) rfl rfl) rfl (by decide +kernel) rfl
theorem cr29_30_o : oR tables_1 dn y29 30 = none:=by decide +kernel
theorem m29_29 (a0 : Int32) (u0 : Nat) : M29 29 ls [.int a0,.ref r,.ref u0] H Q = M0 0 [.val (.ref r),.val (.int a0),.unset] [] H (fun v H1 => M29 32 ls (v.toList ++ [.ref u0]) H1 Q):=w_spec (as:=[.int a0]) (rest:=[.ref u0]) (a:=r) at_29 cr29_30_o cr29_30 rfl (Nat.le_of_ble_eq_true rfl) (by show 2≤3; omega) rfl
theorem m29_32u : M29 32 [l0,l1,l2,l3,.unset,l5,l6,l7,l8,l9,l10,l11,l12,l13,l14,l15,l16,l17,l18,l19,l20,l21,l22,l23] ((.ref r)::st) H Q = M29 34 [l0,l1,l2,l3,.val (.ref r),l5,l6,l7,l8,l9,l10,l11,l12,l13,l14,l15,l16,l17,l18,l19,l20,l21,l22,l23] st H Q:=w_st (i:=4) (p:=Value.isRef) at_32 rfl rfl rfl rfl rfl rfl
theorem m29_34 : M29 34 [l0,l1,.val (.int v),l3,l4,l5,l6,l7,l8,l9,l10,l11,l12,l13,l14,l15,l16,l17,l18,l19,l20,l21,l22,l23] st H Q = M29 35 [l0,l1,.val (.int v),l3,l4,l5,l6,l7,l8,l9,l10,l11,l12,l13,l14,l15,l16,l17,l18,l19,l20,l21,l22,l23] (.int v::st) H Q:=w_x at_34 rfl
theorem m29_35 : M29 35 ls st H Q = M29 37 ls (.int 8::st) H Q:=w_con at_35 rfl (by decide)
theorem m29_37 : M29 37 ls (.int y::.int x::st) H Q = if x < y then M29 40 ls st H Q else M29 45 ls st H Q:=w_icmpN at_37 (i_ge x y) rfl
theorem m29_40 : M29 40 ls st H Q = M29 42 ls (.int 8::st) H Q:=w_con at_40 rfl (by decide)
theorem m29_42 : M29 42 ls st H Q = M29 57 ls st H Q:=w_x at_42 rfl
theorem m29_45 : M29 45 [l0,l1,.val (.int v),l3,l4,l5,l6,l7,l8,l9,l10,l11,l12,l13,l14,l15,l16,l17,l18,l19,l20,l21,l22,l23] st H Q = M29 46 [l0,l1,.val (.int v),l3,l4,l5,l6,l7,l8,l9,l10,l11,l12,l13,l14,l15,l16,l17,l18,l19,l20,l21,l22,l23] (.int v::st) H Q:=w_x at_45 rfl
theorem m29_46 : M29 46 ls st H Q = M29 48 ls (.int 64::st) H Q:=w_con at_46 rfl (by decide)
theorem m29_48 : M29 48 ls (.int y::.int x::st) H Q = if y < x then M29 51 ls st H Q else M29 56 ls st H Q:=w_icmpN at_48 (i_le x y) rfl
theorem m29_51 : M29 51 ls st H Q = M29 53 ls (.int 64::st) H Q:=w_con at_51 rfl (by decide)
theorem m29_53 : M29 53 ls st H Q = M29 57 ls st H Q:=w_x at_53 rfl
theorem m29_56 : M29 56 [l0,l1,.val (.int v),l3,l4,l5,l6,l7,l8,l9,l10,l11,l12,l13,l14,l15,l16,l17,l18,l19,l20,l21,l22,l23] st H Q = M29 57 [l0,l1,.val (.int v),l3,l4,l5,l6,l7,l8,l9,l10,l11,l12,l13,l14,l15,l16,l17,l18,l19,l20,l21,l22,l23] (.int v::st) H Q:=w_x at_56 rfl
theorem m29_57u : M29 57 [l0,l1,l2,l3,l4,.unset,l6,l7,l8,l9,l10,l11,l12,l13,l14,l15,l16,l17,l18,l19,l20,l21,l22,l23] ((.int v)::st) H Q = M29 59 [l0,l1,l2,l3,l4,.val (.int v),l6,l7,l8,l9,l10,l11,l12,l13,l14,l15,l16,l17,l18,l19,l20,l21,l22,l23] st H Q:=w_st (i:=5) (p:=isI) at_57 rfl rfl rfl rfl rfl rfl
theorem m29_59 : M29 59 ls st H Q = M29 60 ls (.int 1::st) H Q:=w_con at_59 rfl (by decide)
theorem m29_60 : M29 60 [l0,.val (.int v),l2,l3,l4,l5,l6,l7,l8,l9,l10,l11,l12,l13,l14,l15,l16,l17,l18,l19,l20,l21,l22,l23] st H Q = M29 61 [l0,.val (.int v),l2,l3,l4,l5,l6,l7,l8,l9,l10,l11,l12,l13,l14,l15,l16,l17,l18,l19,l20,l21,l22,l23] (.int v::st) H Q:=w_x at_60 rfl
theorem m29_61 : M29 61 ls st H Q = M29 63 ls (.int 7::st) H Q:=w_con at_61 rfl (by decide)
theorem m29_63 : M29 63 ls (.int y::.int x::st) H Q = M29 64 ls (.int (x &&& y)::st) H Q:=w_x at_63 rfl
theorem m29_64 : M29 64 ls (.int y::.int x::st) H Q = M29 65 ls (.int (x + y)::st) H Q:=w_x at_64 rfl
theorem m29_65u : M29 65 [l0,l1,l2,l3,l4,l5,.unset,l7,l8,l9,l10,l11,l12,l13,l14,l15,l16,l17,l18,l19,l20,l21,l22,l23] ((.int v)::st) H Q = M29 67 [l0,l1,l2,l3,l4,l5,.val (.int v),l7,l8,l9,l10,l11,l12,l13,l14,l15,l16,l17,l18,l19,l20,l21,l22,l23] st H Q:=w_st (i:=6) (p:=isI) at_65 rfl rfl rfl rfl rfl rfl
theorem m29_67 : M29 67 ls st H Q = M29 68 ls (.int 3::st) H Q:=w_con at_67 rfl (by decide)
theorem m29_68u : M29 68 [l0,l1,l2,l3,l4,l5,l6,.unset,l8,l9,l10,l11,l12,l13,l14,l15,l16,l17,l18,l19,l20,l21,l22,l23] ((.int v)::st) H Q = M29 70 [l0,l1,l2,l3,l4,l5,l6,.val (.int v),l8,l9,l10,l11,l12,l13,l14,l15,l16,l17,l18,l19,l20,l21,l22,l23] st H Q:=w_st (i:=7) (p:=isI) at_68 rfl rfl rfl rfl rfl rfl
theorem m29_70 : M29 70 ls st H Q = M29 71 ls (.int 0::st) H Q:=w_con at_70 rfl (by decide)
theorem m29_71u : M29 71 [l0,l1,l2,l3,l4,l5,l6,l7,.unset,l9,l10,l11,l12,l13,l14,l15,l16,l17,l18,l19,l20,l21,l22,l23] ((.int v)::st) H Q = M29 73 [l0,l1,l2,l3,l4,l5,l6,l7,.val (.int v),l9,l10,l11,l12,l13,l14,l15,l16,l17,l18,l19,l20,l21,l22,l23] st H Q:=w_st (i:=8) (p:=isI) at_71 rfl rfl rfl rfl rfl rfl
theorem m29_73 : M29 73 [l0,l1,l2,l3,l4,l5,l6,l7,.val (.int v),l9,l10,l11,l12,l13,l14,l15,l16,l17,l18,l19,l20,l21,l22,l23] st H Q = M29 75 [l0,l1,l2,l3,l4,l5,l6,l7,.val (.int v),l9,l10,l11,l12,l13,l14,l15,l16,l17,l18,l19,l20,l21,l22,l23] (.int v::st) H Q:=w_x at_73 rfl
theorem m29_75 : M29 75 [l0,l1,l2,l3,l4,l5,.val (.int v),l7,l8,l9,l10,l11,l12,l13,l14,l15,l16,l17,l18,l19,l20,l21,l22,l23] st H Q = M29 77 [l0,l1,l2,l3,l4,l5,.val (.int v),l7,l8,l9,l10,l11,l12,l13,l14,l15,l16,l17,l18,l19,l20,l21,l22,l23] (.int v::st) H Q:=w_x at_75 rfl
theorem m29_77 : M29 77 ls (.int y::.int x::st) H Q = if x < y then M29 80 ls st H Q else M29 152 ls st H Q:=w_icmpN at_77 (i_ge x y) rfl
theorem m29_80 : M29 80 [.val (.ref r),l1,l2,l3,l4,l5,l6,l7,l8,l9,l10,l11,l12,l13,l14,l15,l16,l17,l18,l19,l20,l21,l22,l23] st H Q = M29 81 [.val (.ref r),l1,l2,l3,l4,l5,l6,l7,l8,l9,l10,l11,l12,l13,l14,l15,l16,l17,l18,l19,l20,l21,l22,l23] (.ref r::st) H Q:=w_x at_80 rfl
theorem m29_81 : M29 81 [l0,l1,l2,l3,l4,l5,l6,.val (.int v),l8,l9,l10,l11,l12,l13,l14,l15,l16,l17,l18,l19,l20,l21,l22,l23] st H Q = M29 83 [l0,l1,l2,l3,l4,l5,l6,.val (.int v),l8,l9,l10,l11,l12,l13,l14,l15,l16,l17,l18,l19,l20,l21,l22,l23] (.int v::st) H Q:=w_x at_81 rfl
theorem m29_83 : M29 83 [l0,l1,l2,l3,l4,l5,l6,.val (.int v),l8,l9,l10,l11,l12,l13,l14,l15,l16,l17,l18,l19,l20,l21,l22,l23] st H Q = M29 86 [l0,l1,l2,l3,l4,l5,l6,.val (.int (v + 1)),l8,l9,l10,l11,l12,l13,l14,l15,l16,l17,l18,l19,l20,l21,l22,l23] st H Q:=w_iinc at_83 rfl (by decide) rfl
theorem m29_86 (a0 : Nat) (a1 : Int32) : M29 86 ls [.int a1,.ref a0] H Q = M25 0 [.val (.ref a0),.val (.int a1)] [] H (fun v H1 => M29 89 ls (v.toList ++ []) H1 Q):=w_stat (as:=[.int a1,.ref a0]) (rest:=[]) at_86 cr29_25 rfl (Nat.le_of_ble_eq_true rfl) (by show 2≤2; omega) rfl
theorem m29_89u : M29 89 [l0,l1,l2,l3,l4,l5,l6,l7,l8,.unset,l10,l11,l12,l13,l14,l15,l16,l17,l18,l19,l20,l21,l22,l23] ((.int v)::st) H Q = M29 91 [l0,l1,l2,l3,l4,l5,l6,l7,l8,.val (.int v),l10,l11,l12,l13,l14,l15,l16,l17,l18,l19,l20,l21,l22,l23] st H Q:=w_st (i:=9) (p:=isI) at_89 rfl rfl rfl rfl rfl rfl
theorem m29_89i : M29 89 [l0,l1,l2,l3,l4,l5,l6,l7,l8,.val (.int z),l10,l11,l12,l13,l14,l15,l16,l17,l18,l19,l20,l21,l22,l23] ((.int v)::st) H Q = M29 91 [l0,l1,l2,l3,l4,l5,l6,l7,l8,.val (.int v),l10,l11,l12,l13,l14,l15,l16,l17,l18,l19,l20,l21,l22,l23] st H Q:=w_st (i:=9) (p:=isI) at_89 rfl rfl rfl rfl rfl rfl
theorem m29_89r : M29 89 [l0,l1,l2,l3,l4,l5,l6,l7,l8,.val (.ref q),l10,l11,l12,l13,l14,l15,l16,l17,l18,l19,l20,l21,l22,l23] ((.int v)::st) H Q = M29 91 [l0,l1,l2,l3,l4,l5,l6,l7,l8,.val (.int v),l10,l11,l12,l13,l14,l15,l16,l17,l18,l19,l20,l21,l22,l23] st H Q:=w_st (i:=9) (p:=isI) at_89 rfl rfl rfl rfl rfl rfl
theorem m29_89g (h : okS l9) : M29 89 [l0,l1,l2,l3,l4,l5,l6,l7,l8,l9,l10,l11,l12,l13,l14,l15,l16,l17,l18,l19,l20,l21,l22,l23] ((.int v)::st) H Q = M29 91 [l0,l1,l2,l3,l4,l5,l6,l7,l8,.val (.int v),l10,l11,l12,l13,l14,l15,l16,l17,l18,l19,l20,l21,l22,l23] st H Q:=by rcases h with rfl | ⟨z,rfl⟩ <;> first | exact m29_89u | exact m29_89i
theorem m29_91 : M29 91 ls st H Q = M29 92 ls (.int 1::st) H Q:=w_con at_91 rfl (by decide)
theorem m29_92 : M29 92 [l0,l1,l2,l3,l4,l5,l6,l7,l8,.val (.int v),l10,l11,l12,l13,l14,l15,l16,l17,l18,l19,l20,l21,l22,l23] st H Q = M29 94 [l0,l1,l2,l3,l4,l5,l6,l7,l8,.val (.int v),l10,l11,l12,l13,l14,l15,l16,l17,l18,l19,l20,l21,l22,l23] (.int v::st) H Q:=w_x at_92 rfl
theorem m29_94 : M29 94 ls st H Q = M29 95 ls (.int 3::st) H Q:=w_con at_94 rfl (by decide)
theorem m29_95 : M29 95 ls (.int y::.int x::st) H Q = M29 96 ls (.int (x &&& y)::st) H Q:=w_x at_95 rfl
theorem m29_96 : M29 96 ls (.int y::.int x::st) H Q = M29 97 ls (.int (x + y)::st) H Q:=w_x at_96 rfl
theorem m29_97u : M29 97 [l0,l1,l2,l3,l4,l5,l6,l7,l8,l9,.unset,l11,l12,l13,l14,l15,l16,l17,l18,l19,l20,l21,l22,l23] ((.int v)::st) H Q = M29 99 [l0,l1,l2,l3,l4,l5,l6,l7,l8,l9,.val (.int v),l11,l12,l13,l14,l15,l16,l17,l18,l19,l20,l21,l22,l23] st H Q:=w_st (i:=10) (p:=isI) at_97 rfl rfl rfl rfl rfl rfl
theorem m29_97i : M29 97 [l0,l1,l2,l3,l4,l5,l6,l7,l8,l9,.val (.int z),l11,l12,l13,l14,l15,l16,l17,l18,l19,l20,l21,l22,l23] ((.int v)::st) H Q = M29 99 [l0,l1,l2,l3,l4,l5,l6,l7,l8,l9,.val (.int v),l11,l12,l13,l14,l15,l16,l17,l18,l19,l20,l21,l22,l23] st H Q:=w_st (i:=10) (p:=isI) at_97 rfl rfl rfl rfl rfl rfl
theorem m29_97r : M29 97 [l0,l1,l2,l3,l4,l5,l6,l7,l8,l9,.val (.ref q),l11,l12,l13,l14,l15,l16,l17,l18,l19,l20,l21,l22,l23] ((.int v)::st) H Q = M29 99 [l0,l1,l2,l3,l4,l5,l6,l7,l8,l9,.val (.int v),l11,l12,l13,l14,l15,l16,l17,l18,l19,l20,l21,l22,l23] st H Q:=w_st (i:=10) (p:=isI) at_97 rfl rfl rfl rfl rfl rfl
theorem m29_97g (h : okS l10) : M29 97 [l0,l1,l2,l3,l4,l5,l6,l7,l8,l9,l10,l11,l12,l13,l14,l15,l16,l17,l18,l19,l20,l21,l22,l23] ((.int v)::st) H Q = M29 99 [l0,l1,l2,l3,l4,l5,l6,l7,l8,l9,.val (.int v),l11,l12,l13,l14,l15,l16,l17,l18,l19,l20,l21,l22,l23] st H Q:=by rcases h with rfl | ⟨z,rfl⟩ <;> first | exact m29_97u | exact m29_97i
theorem m29_99 : M29 99 ls st H Q = M29 100 ls (.int 0::st) H Q:=w_con at_99 rfl (by decide)
theorem m29_100u : M29 100 [l0,l1,l2,l3,l4,l5,l6,l7,l8,l9,l10,.unset,l12,l13,l14,l15,l16,l17,l18,l19,l20,l21,l22,l23] ((.int v)::st) H Q = M29 102 [l0,l1,l2,l3,l4,l5,l6,l7,l8,l9,l10,.val (.int v),l12,l13,l14,l15,l16,l17,l18,l19,l20,l21,l22,l23] st H Q:=w_st (i:=11) (p:=isI) at_100 rfl rfl rfl rfl rfl rfl
theorem m29_100i : M29 100 [l0,l1,l2,l3,l4,l5,l6,l7,l8,l9,l10,.val (.int z),l12,l13,l14,l15,l16,l17,l18,l19,l20,l21,l22,l23] ((.int v)::st) H Q = M29 102 [l0,l1,l2,l3,l4,l5,l6,l7,l8,l9,l10,.val (.int v),l12,l13,l14,l15,l16,l17,l18,l19,l20,l21,l22,l23] st H Q:=w_st (i:=11) (p:=isI) at_100 rfl rfl rfl rfl rfl rfl
theorem m29_100r : M29 100 [l0,l1,l2,l3,l4,l5,l6,l7,l8,l9,l10,.val (.ref q),l12,l13,l14,l15,l16,l17,l18,l19,l20,l21,l22,l23] ((.int v)::st) H Q = M29 102 [l0,l1,l2,l3,l4,l5,l6,l7,l8,l9,l10,.val (.int v),l12,l13,l14,l15,l16,l17,l18,l19,l20,l21,l22,l23] st H Q:=w_st (i:=11) (p:=isI) at_100 rfl rfl rfl rfl rfl rfl
theorem m29_100g (h : okS l11) : M29 100 [l0,l1,l2,l3,l4,l5,l6,l7,l8,l9,l10,l11,l12,l13,l14,l15,l16,l17,l18,l19,l20,l21,l22,l23] ((.int v)::st) H Q = M29 102 [l0,l1,l2,l3,l4,l5,l6,l7,l8,l9,l10,.val (.int v),l12,l13,l14,l15,l16,l17,l18,l19,l20,l21,l22,l23] st H Q:=by rcases h with rfl | ⟨z,rfl⟩ <;> first | exact m29_100u | exact m29_100i
theorem m29_102 : M29 102 [l0,l1,l2,l3,l4,l5,l6,l7,l8,l9,l10,.val (.int v),l12,l13,l14,l15,l16,l17,l18,l19,l20,l21,l22,l23] st H Q = M29 104 [l0,l1,l2,l3,l4,l5,l6,l7,l8,l9,l10,.val (.int v),l12,l13,l14,l15,l16,l17,l18,l19,l20,l21,l22,l23] (.int v::st) H Q:=w_x at_102 rfl
theorem m29_104 : M29 104 [l0,l1,l2,l3,l4,l5,l6,l7,l8,l9,.val (.int v),l11,l12,l13,l14,l15,l16,l17,l18,l19,l20,l21,l22,l23] st H Q = M29 106 [l0,l1,l2,l3,l4,l5,l6,l7,l8,l9,.val (.int v),l11,l12,l13,l14,l15,l16,l17,l18,l19,l20,l21,l22,l23] (.int v::st) H Q:=w_x at_104 rfl
theorem m29_106 : M29 106 ls (.int y::.int x::st) H Q = if x < y then M29 109 ls st H Q else M29 134 ls st H Q:=w_icmpN at_106 (i_ge x y) rfl
theorem m29_109 : M29 109 [l0,l1,l2,l3,.val (.ref r),l5,l6,l7,l8,l9,l10,l11,l12,l13,l14,l15,l16,l17,l18,l19,l20,l21,l22,l23] st H Q = M29 111 [l0,l1,l2,l3,.val (.ref r),l5,l6,l7,l8,l9,l10,l11,l12,l13,l14,l15,l16,l17,l18,l19,l20,l21,l22,l23] (.ref r::st) H Q:=w_x at_109 rfl
theorem m29_111 : M29 111 [l0,l1,l2,l3,l4,l5,l6,l7,l8,.val (.int v),l10,l11,l12,l13,l14,l15,l16,l17,l18,l19,l20,l21,l22,l23] st H Q = M29 113 [l0,l1,l2,l3,l4,l5,l6,l7,l8,.val (.int v),l10,l11,l12,l13,l14,l15,l16,l17,l18,l19,l20,l21,l22,l23] (.int v::st) H Q:=w_x at_111 rfl
theorem m29_113 : M29 113 ls st H Q = M29 114 ls (.int 2::st) H Q:=w_con at_113 rfl (by decide)
theorem m29_114 : M29 114 [l0,l1,l2,l3,l4,l5,l6,l7,l8,l9,l10,.val (.int v),l12,l13,l14,l15,l16,l17,l18,l19,l20,l21,l22,l23] st H Q = M29 116 [l0,l1,l2,l3,l4,l5,l6,l7,l8,l9,l10,.val (.int v),l12,l13,l14,l15,l16,l17,l18,l19,l20,l21,l22,l23] (.int v::st) H Q:=w_x at_114 rfl
theorem m29_116 : M29 116 ls (.int y::.int x::st) H Q = M29 117 ls (.int (x + y)::st) H Q:=w_x at_116 rfl
theorem m29_117 : M29 117 ls (.int y::.int x::st) H Q = M29 118 ls (.int (x >>> (y &&& 31))::st) H Q:=w_x at_117 rfl
theorem m29_118 : M29 118 ls st H Q = M29 119 ls (.int 1::st) H Q:=w_con at_118 rfl (by decide)
theorem m29_119 : M29 119 ls (.int y::.int x::st) H Q = M29 120 ls (.int (x &&& y)::st) H Q:=w_x at_119 rfl
theorem cr29_33 : vR tables_1 dn y29 33 = some (false,y1,prog_1_method_2_code,3,(some .int),1,34):=vR_of (cR_of (by decide +kernel) rc_1 dn_1 dn_29 (sig:=⟨[.int],some .int⟩) (by decide +kernel) (by decide +kernel) rfl rfl) (by decide +kernel) (by decide +kernel) (by decide +kernel)
theorem m29_120 (a0 : Int32) : M29 120 ls [.int a0,.ref (b + 1)] (put (b + 1) pre s A post) Q = M1 0 [.val (.ref (b + 1)),.val (.int a0),.unset] [] (put (b + 1) pre s A post) (fun v H1 => M29 123 ls (v.toList ++ []) H1 Q):=w_virt (as:=[.int a0]) (rest:=[]) (a:=(b + 1)) at_120 cr29_33 put_o rfl rfl (Nat.le_of_ble_eq_true rfl) (by show 2≤3; omega) rfl
theorem m29_123 : M29 123 ls (.int x::st) H Q = if x = 0 then M29 128 ls st H Q else M29 126 ls st H Q:=w_if at_123 (z_eq x) rfl
theorem m29_126 : M29 126 ls st H Q = M29 127 ls (.int 0::st) H Q:=w_con at_126 rfl (by decide)
theorem m29_127 : M29 127 ls (.int z::st) H Q = Q (some (.int (nar .boolean z))) H:=w_iretN at_127 rfl (by simp)
theorem m29_128 : M29 128 [l0,l1,l2,l3,l4,l5,l6,l7,l8,l9,l10,.val (.int v),l12,l13,l14,l15,l16,l17,l18,l19,l20,l21,l22,l23] st H Q = M29 131 [l0,l1,l2,l3,l4,l5,l6,l7,l8,l9,l10,.val (.int (v + 1)),l12,l13,l14,l15,l16,l17,l18,l19,l20,l21,l22,l23] st H Q:=w_iinc at_128 rfl (by decide) rfl
theorem m29_131 : M29 131 ls st H Q = M29 102 ls st H Q:=w_x at_131 rfl
theorem m29_134 : M29 134 [l0,l1,l2,l3,.val (.ref r),l5,l6,l7,l8,l9,l10,l11,l12,l13,l14,l15,l16,l17,l18,l19,l20,l21,l22,l23] st H Q = M29 136 [l0,l1,l2,l3,.val (.ref r),l5,l6,l7,l8,l9,l10,l11,l12,l13,l14,l15,l16,l17,l18,l19,l20,l21,l22,l23] (.ref r::st) H Q:=w_x at_134 rfl
theorem cr29_36 : vR tables_1 dn y29 36 = some (false,y3,prog_1_method_3_code,2,(some .int),0,48):=vR_of (cR_of (by decide +kernel) rc_3 dn_3 dn_29 (sig:=⟨[],some .int⟩) (by decide +kernel) (by decide +kernel) rfl rfl) (by decide +kernel) (by decide +kernel) (by decide +kernel)
theorem m29_136 : M29 136 ls [.ref (b + 1)] (put (b + 1) pre s A post) Q = M3 0 [.val (.ref (b + 1)),.unset] [] (put (b + 1) pre s A post) (fun v H1 => M29 139 ls (v.toList ++ []) H1 Q):=w_virt (as:=[]) (rest:=[]) (a:=(b + 1)) at_136 cr29_36 put_o rfl rfl (Nat.le_of_ble_eq_true rfl) (by show 1≤2; omega) rfl
theorem m29_139 : M29 139 [l0,l1,l2,l3,l4,l5,l6,l7,.val (.int v),l9,l10,l11,l12,l13,l14,l15,l16,l17,l18,l19,l20,l21,l22,l23] st H Q = M29 141 [l0,l1,l2,l3,l4,l5,l6,l7,.val (.int v),l9,l10,l11,l12,l13,l14,l15,l16,l17,l18,l19,l20,l21,l22,l23] (.int v::st) H Q:=w_x at_139 rfl
theorem m29_141 : M29 141 ls (.int y::.int x::st) H Q = if x = y then M29 146 ls st H Q else M29 144 ls st H Q:=w_icmp at_141 (i_eq x y) rfl
theorem m29_144 : M29 144 ls st H Q = M29 145 ls (.int 0::st) H Q:=w_con at_144 rfl (by decide)
theorem m29_145 : M29 145 ls (.int z::st) H Q = Q (some (.int (nar .boolean z))) H:=w_iretN at_145 rfl (by simp)
theorem m29_146 : M29 146 [l0,l1,l2,l3,l4,l5,l6,l7,.val (.int v),l9,l10,l11,l12,l13,l14,l15,l16,l17,l18,l19,l20,l21,l22,l23] st H Q = M29 149 [l0,l1,l2,l3,l4,l5,l6,l7,.val (.int (v + 1)),l9,l10,l11,l12,l13,l14,l15,l16,l17,l18,l19,l20,l21,l22,l23] st H Q:=w_iinc at_146 rfl (by decide) rfl
theorem m29_149 : M29 149 ls st H Q = M29 73 ls st H Q:=w_x at_149 rfl
theorem m29_152 : M29 152 [l0,l1,l2,l3,.val (.ref r),l5,l6,l7,l8,l9,l10,l11,l12,l13,l14,l15,l16,l17,l18,l19,l20,l21,l22,l23] st H Q = M29 154 [l0,l1,l2,l3,.val (.ref r),l5,l6,l7,l8,l9,l10,l11,l12,l13,l14,l15,l16,l17,l18,l19,l20,l21,l22,l23] (.ref r::st) H Q:=w_x at_152 rfl
theorem cr29_40 : vR tables_1 dn y29 40 = some (false,y4,prog_1_method_4_code,1,(some .int),0,17):=vR_of (cR_of (by decide +kernel) rc_4 dn_4 dn_29 (sig:=⟨[],some .int⟩) (by decide +kernel) (by decide +kernel) rfl rfl) (by decide +kernel) (by decide +kernel) (by decide +kernel)
theorem m29_154 : M29 154 ls [.ref (b + 1)] (put (b + 1) pre s A post) Q = M4 0 [.val (.ref (b + 1))] [] (put (b + 1) pre s A post) (fun v H1 => M29 157 ls (v.toList ++ []) H1 Q):=w_virt (as:=[]) (rest:=[]) (a:=(b + 1)) at_154 cr29_40 put_o rfl rfl (Nat.le_of_ble_eq_true rfl) (by show 1≤1; omega) rfl
theorem m29_157 : M29 157 ls (.int x::st) H Q = if x = 0 then M29 162 ls st H Q else M29 160 ls st H Q:=w_if at_157 (z_eq x) rfl
theorem m29_160 : M29 160 ls st H Q = M29 161 ls (.int 0::st) H Q:=w_con at_160 rfl (by decide)
theorem m29_161 : M29 161 ls (.int z::st) H Q = Q (some (.int (nar .boolean z))) H:=w_iretN at_161 rfl (by simp)
theorem m29_162 : M29 162 ls st H Q = M29 163 ls (.int 0::st) H Q:=w_con at_162 rfl (by decide)
theorem m29_163i : M29 163 [l0,l1,l2,l3,l4,l5,l6,l7,.val (.int z),l9,l10,l11,l12,l13,l14,l15,l16,l17,l18,l19,l20,l21,l22,l23] ((.int v)::st) H Q = M29 165 [l0,l1,l2,l3,l4,l5,l6,l7,.val (.int v),l9,l10,l11,l12,l13,l14,l15,l16,l17,l18,l19,l20,l21,l22,l23] st H Q:=w_st (i:=8) (p:=isI) at_163 rfl rfl rfl rfl rfl rfl
theorem m29_165 : M29 165 [l0,l1,l2,l3,l4,l5,l6,.val (.int v),l8,l9,l10,l11,l12,l13,l14,l15,l16,l17,l18,l19,l20,l21,l22,l23] st H Q = M29 167 [l0,l1,l2,l3,l4,l5,l6,.val (.int v),l8,l9,l10,l11,l12,l13,l14,l15,l16,l17,l18,l19,l20,l21,l22,l23] (.int v::st) H Q:=w_x at_165 rfl
theorem m29_167 : M29 167 [.val (.ref r),l1,l2,l3,l4,l5,l6,l7,l8,l9,l10,l11,l12,l13,l14,l15,l16,l17,l18,l19,l20,l21,l22,l23] st H Q = M29 168 [.val (.ref r),l1,l2,l3,l4,l5,l6,l7,l8,l9,l10,l11,l12,l13,l14,l15,l16,l17,l18,l19,l20,l21,l22,l23] (.ref r::st) H Q:=w_x at_167 rfl
theorem m29_168 : M29 168 ls (.ref 0::st) ((.array .int,sc.map Value.int)::R) Q = M29 169 ls (.int sc.length.toInt32::st) ((.array .int,sc.map Value.int)::R) Q:=by exact (w_len at_168 rfl).trans (by rw [List.length_map]; rfl)
theorem m29_168p : M29 168 ls (.ref 0::st) (put (b + 1) ((.array .int,sc.map Value.int)::pre) s A post) Q = M29 169 ls (.int sc.length.toInt32::st) (put (b + 1) ((.array .int,sc.map Value.int)::pre) s A post) Q:=by exact (w_len at_168 rfl).trans (by rw [List.length_map]; rfl)
theorem m29_169 : M29 169 ls (.int y::.int x::st) H Q = if x < y then M29 172 ls st H Q else M29 514 ls st H Q:=w_icmpN at_169 (i_ge x y) rfl
theorem m29_172 : M29 172 [l0,l1,l2,l3,l4,l5,l6,l7,.val (.int v),l9,l10,l11,l12,l13,l14,l15,l16,l17,l18,l19,l20,l21,l22,l23] st H Q = M29 174 [l0,l1,l2,l3,l4,l5,l6,l7,.val (.int v),l9,l10,l11,l12,l13,l14,l15,l16,l17,l18,l19,l20,l21,l22,l23] (.int v::st) H Q:=w_x at_172 rfl
theorem m29_174 : M29 174 ls st H Q = M29 177 ls (.int 300::st) H Q:=w_con at_174 rfl (by decide)
theorem m29_177 : M29 177 ls (.int y::.int x::st) H Q = if x < y then M29 180 ls st H Q else M29 514 ls st H Q:=w_icmpN at_177 (i_ge x y) rfl
theorem m29_180 : M29 180 [.val (.ref r),l1,l2,l3,l4,l5,l6,l7,l8,l9,l10,l11,l12,l13,l14,l15,l16,l17,l18,l19,l20,l21,l22,l23] st H Q = M29 181 [.val (.ref r),l1,l2,l3,l4,l5,l6,l7,l8,l9,l10,l11,l12,l13,l14,l15,l16,l17,l18,l19,l20,l21,l22,l23] (.ref r::st) H Q:=w_x at_180 rfl
theorem m29_181 : M29 181 [l0,l1,l2,l3,l4,l5,l6,.val (.int v),l8,l9,l10,l11,l12,l13,l14,l15,l16,l17,l18,l19,l20,l21,l22,l23] st H Q = M29 183 [l0,l1,l2,l3,l4,l5,l6,.val (.int v),l8,l9,l10,l11,l12,l13,l14,l15,l16,l17,l18,l19,l20,l21,l22,l23] (.int v::st) H Q:=w_x at_181 rfl
theorem m29_183 : M29 183 [l0,l1,l2,l3,l4,l5,l6,.val (.int v),l8,l9,l10,l11,l12,l13,l14,l15,l16,l17,l18,l19,l20,l21,l22,l23] st H Q = M29 186 [l0,l1,l2,l3,l4,l5,l6,.val (.int (v + 1)),l8,l9,l10,l11,l12,l13,l14,l15,l16,l17,l18,l19,l20,l21,l22,l23] st H Q:=w_iinc at_183 rfl (by decide) rfl
theorem m29_186 : M29 186 ls (.int j::.ref 0::st) ((.array .int,sc.map Value.int)::R) Q = (inB j sc∧M29 187 ls (.int (getA sc j)::st) ((.array .int,sc.map Value.int)::R) Q):=w_ild at_186 rfl rfl
theorem m29_186p : M29 186 ls (.int j::.ref 0::st) (put (b + 1) ((.array .int,sc.map Value.int)::pre) s A post) Q = (inB j sc∧M29 187 ls (.int (getA sc j)::st) (put (b + 1) ((.array .int,sc.map Value.int)::pre) s A post) Q):=w_ild at_186 rfl rfl
theorem m29_187 : M29 187 ls st H Q = M29 189 ls (.int 2147483647::st) H Q:=w_ldc at_187 (by decide +kernel)
theorem m29_189 : M29 189 ls (.int y::.int x::st) H Q = M29 190 ls (.int (x &&& y)::st) H Q:=w_x at_189 rfl
theorem m29_190u : M29 190 [l0,l1,l2,l3,l4,l5,l6,l7,l8,.unset,l10,l11,l12,l13,l14,l15,l16,l17,l18,l19,l20,l21,l22,l23] ((.int v)::st) H Q = M29 192 [l0,l1,l2,l3,l4,l5,l6,l7,l8,.val (.int v),l10,l11,l12,l13,l14,l15,l16,l17,l18,l19,l20,l21,l22,l23] st H Q:=w_st (i:=9) (p:=isI) at_190 rfl rfl rfl rfl rfl rfl
theorem m29_190i : M29 190 [l0,l1,l2,l3,l4,l5,l6,l7,l8,.val (.int z),l10,l11,l12,l13,l14,l15,l16,l17,l18,l19,l20,l21,l22,l23] ((.int v)::st) H Q = M29 192 [l0,l1,l2,l3,l4,l5,l6,l7,l8,.val (.int v),l10,l11,l12,l13,l14,l15,l16,l17,l18,l19,l20,l21,l22,l23] st H Q:=w_st (i:=9) (p:=isI) at_190 rfl rfl rfl rfl rfl rfl
theorem m29_190r : M29 190 [l0,l1,l2,l3,l4,l5,l6,l7,l8,.val (.ref q),l10,l11,l12,l13,l14,l15,l16,l17,l18,l19,l20,l21,l22,l23] ((.int v)::st) H Q = M29 192 [l0,l1,l2,l3,l4,l5,l6,l7,l8,.val (.int v),l10,l11,l12,l13,l14,l15,l16,l17,l18,l19,l20,l21,l22,l23] st H Q:=w_st (i:=9) (p:=isI) at_190 rfl rfl rfl rfl rfl rfl
theorem m29_190g (h : okS l9) : M29 190 [l0,l1,l2,l3,l4,l5,l6,l7,l8,l9,l10,l11,l12,l13,l14,l15,l16,l17,l18,l19,l20,l21,l22,l23] ((.int v)::st) H Q = M29 192 [l0,l1,l2,l3,l4,l5,l6,l7,l8,.val (.int v),l10,l11,l12,l13,l14,l15,l16,l17,l18,l19,l20,l21,l22,l23] st H Q:=by rcases h with rfl | ⟨z,rfl⟩ <;> first | exact m29_190u | exact m29_190i
theorem m29_192 : M29 192 [l0,l1,l2,l3,l4,l5,l6,l7,.val (.int v),l9,l10,l11,l12,l13,l14,l15,l16,l17,l18,l19,l20,l21,l22,l23] st H Q = M29 195 [l0,l1,l2,l3,l4,l5,l6,l7,.val (.int (v + 1)),l9,l10,l11,l12,l13,l14,l15,l16,l17,l18,l19,l20,l21,l22,l23] st H Q:=w_iinc at_192 rfl (by decide) rfl
theorem m29_195 : M29 195 [l0,l1,l2,l3,.val (.ref r),l5,l6,l7,l8,l9,l10,l11,l12,l13,l14,l15,l16,l17,l18,l19,l20,l21,l22,l23] st H Q = M29 197 [l0,l1,l2,l3,.val (.ref r),l5,l6,l7,l8,l9,l10,l11,l12,l13,l14,l15,l16,l17,l18,l19,l20,l21,l22,l23] (.ref r::st) H Q:=w_x at_195 rfl
theorem m29_197 : M29 197 ls st H Q = M29 198 ls (.int 0::st) H Q:=w_con at_197 rfl (by decide)
theorem cr29_43 : vR tables_1 dn y29 43 = some (false,y9,prog_1_method_16_code,2,(some .int),1,48):=vR_of (cR_of (by decide +kernel) rc_9 dn_9 dn_29 (sig:=⟨[.int],some .int⟩) (by decide +kernel) (by decide +kernel) rfl rfl) (by decide +kernel) (by decide +kernel) (by decide +kernel)
theorem m29_198 (a0 : Int32) : M29 198 ls [.int a0,.ref (b + 1)] (put (b + 1) pre s A post) Q = M9 0 [.val (.ref (b + 1)),.val (.int a0)] [] (put (b + 1) pre s A post) (fun v H1 => M29 201 ls (v.toList ++ []) H1 Q):=w_virt (as:=[.int a0]) (rest:=[]) (a:=(b + 1)) at_198 cr29_43 put_o rfl rfl (Nat.le_of_ble_eq_true rfl) (by show 2≤2; omega) rfl
theorem m29_201u : M29 201 [l0,l1,l2,l3,l4,l5,l6,l7,l8,l9,.unset,l11,l12,l13,l14,l15,l16,l17,l18,l19,l20,l21,l22,l23] ((.int v)::st) H Q = M29 203 [l0,l1,l2,l3,l4,l5,l6,l7,l8,l9,.val (.int v),l11,l12,l13,l14,l15,l16,l17,l18,l19,l20,l21,l22,l23] st H Q:=w_st (i:=10) (p:=isI) at_201 rfl rfl rfl rfl rfl rfl
theorem m29_201i : M29 201 [l0,l1,l2,l3,l4,l5,l6,l7,l8,l9,.val (.int z),l11,l12,l13,l14,l15,l16,l17,l18,l19,l20,l21,l22,l23] ((.int v)::st) H Q = M29 203 [l0,l1,l2,l3,l4,l5,l6,l7,l8,l9,.val (.int v),l11,l12,l13,l14,l15,l16,l17,l18,l19,l20,l21,l22,l23] st H Q:=w_st (i:=10) (p:=isI) at_201 rfl rfl rfl rfl rfl rfl
theorem m29_201r : M29 201 [l0,l1,l2,l3,l4,l5,l6,l7,l8,l9,.val (.ref q),l11,l12,l13,l14,l15,l16,l17,l18,l19,l20,l21,l22,l23] ((.int v)::st) H Q = M29 203 [l0,l1,l2,l3,l4,l5,l6,l7,l8,l9,.val (.int v),l11,l12,l13,l14,l15,l16,l17,l18,l19,l20,l21,l22,l23] st H Q:=w_st (i:=10) (p:=isI) at_201 rfl rfl rfl rfl rfl rfl
theorem m29_201g (h : okS l10) : M29 201 [l0,l1,l2,l3,l4,l5,l6,l7,l8,l9,l10,l11,l12,l13,l14,l15,l16,l17,l18,l19,l20,l21,l22,l23] ((.int v)::st) H Q = M29 203 [l0,l1,l2,l3,l4,l5,l6,l7,l8,l9,.val (.int v),l11,l12,l13,l14,l15,l16,l17,l18,l19,l20,l21,l22,l23] st H Q:=by rcases h with rfl | ⟨z,rfl⟩ <;> first | exact m29_201u | exact m29_201i
theorem m29_203 : M29 203 [l0,l1,l2,l3,l4,l5,l6,l7,l8,l9,.val (.int v),l11,l12,l13,l14,l15,l16,l17,l18,l19,l20,l21,l22,l23] st H Q = M29 205 [l0,l1,l2,l3,l4,l5,l6,l7,l8,l9,.val (.int v),l11,l12,l13,l14,l15,l16,l17,l18,l19,l20,l21,l22,l23] (.int v::st) H Q:=w_x at_203 rfl
theorem m29_205 : M29 205 ls st H Q = M29 207 ls (.int 8::st) H Q:=w_con at_205 rfl (by decide)
theorem m29_207 : M29 207 ls (.int y::.int x::st) H Q = M29 208 ls (.int (x - y)::st) H Q:=w_x at_207 rfl
theorem m29_208 : M29 208 [l0,l1,l2,l3,l4,l5,l6,l7,l8,.val (.int v),l10,l11,l12,l13,l14,l15,l16,l17,l18,l19,l20,l21,l22,l23] st H Q = M29 210 [l0,l1,l2,l3,l4,l5,l6,l7,l8,.val (.int v),l10,l11,l12,l13,l14,l15,l16,l17,l18,l19,l20,l21,l22,l23] (.int v::st) H Q:=w_x at_208 rfl
theorem m29_210 : M29 210 ls st H Q = M29 212 ls (.int 24::st) H Q:=w_con at_210 rfl (by decide)
theorem m29_212 : M29 212 ls (.int y::.int x::st) H Q = (y ≠ 0∧M29 213 ls (.int (x % y)::st) H Q):=w_div (f:=fun x y => x % y) at_212 (fun _ => rfl) rfl rfl
theorem m29_213 : M29 213 ls (.int y::.int x::st) H Q = M29 214 ls (.int (x + y)::st) H Q:=w_x at_213 rfl
theorem m29_214u : M29 214 [l0,l1,l2,l3,l4,l5,l6,l7,l8,l9,l10,.unset,l12,l13,l14,l15,l16,l17,l18,l19,l20,l21,l22,l23] ((.int v)::st) H Q = M29 216 [l0,l1,l2,l3,l4,l5,l6,l7,l8,l9,l10,.val (.int v),l12,l13,l14,l15,l16,l17,l18,l19,l20,l21,l22,l23] st H Q:=w_st (i:=11) (p:=isI) at_214 rfl rfl rfl rfl rfl rfl
theorem m29_214i : M29 214 [l0,l1,l2,l3,l4,l5,l6,l7,l8,l9,l10,.val (.int z),l12,l13,l14,l15,l16,l17,l18,l19,l20,l21,l22,l23] ((.int v)::st) H Q = M29 216 [l0,l1,l2,l3,l4,l5,l6,l7,l8,l9,l10,.val (.int v),l12,l13,l14,l15,l16,l17,l18,l19,l20,l21,l22,l23] st H Q:=w_st (i:=11) (p:=isI) at_214 rfl rfl rfl rfl rfl rfl
theorem m29_214r : M29 214 [l0,l1,l2,l3,l4,l5,l6,l7,l8,l9,l10,.val (.ref q),l12,l13,l14,l15,l16,l17,l18,l19,l20,l21,l22,l23] ((.int v)::st) H Q = M29 216 [l0,l1,l2,l3,l4,l5,l6,l7,l8,l9,l10,.val (.int v),l12,l13,l14,l15,l16,l17,l18,l19,l20,l21,l22,l23] st H Q:=w_st (i:=11) (p:=isI) at_214 rfl rfl rfl rfl rfl rfl
theorem m29_214g (h : okS l11) : M29 214 [l0,l1,l2,l3,l4,l5,l6,l7,l8,l9,l10,l11,l12,l13,l14,l15,l16,l17,l18,l19,l20,l21,l22,l23] ((.int v)::st) H Q = M29 216 [l0,l1,l2,l3,l4,l5,l6,l7,l8,l9,l10,.val (.int v),l12,l13,l14,l15,l16,l17,l18,l19,l20,l21,l22,l23] st H Q:=by rcases h with rfl | ⟨z,rfl⟩ <;> first | exact m29_214u | exact m29_214i
theorem m29_216 : M29 216 [l0,l1,l2,l3,l4,l5,l6,l7,l8,l9,l10,.val (.int v),l12,l13,l14,l15,l16,l17,l18,l19,l20,l21,l22,l23] st H Q = M29 218 [l0,l1,l2,l3,l4,l5,l6,l7,l8,l9,l10,.val (.int v),l12,l13,l14,l15,l16,l17,l18,l19,l20,l21,l22,l23] (.int v::st) H Q:=w_x at_216 rfl
theorem m29_218 : M29 218 ls (.int x::st) H Q = if x < 0 then M29 221 ls st H Q else M29 224 ls st H Q:=w_ifN at_218 (z_ge x) rfl
theorem m29_221 : M29 221 ls st H Q = M29 222 ls (.int 0::st) H Q:=w_con at_221 rfl (by decide)
theorem m29_222i : M29 222 [l0,l1,l2,l3,l4,l5,l6,l7,l8,l9,l10,.val (.int z),l12,l13,l14,l15,l16,l17,l18,l19,l20,l21,l22,l23] ((.int v)::st) H Q = M29 224 [l0,l1,l2,l3,l4,l5,l6,l7,l8,l9,l10,.val (.int v),l12,l13,l14,l15,l16,l17,l18,l19,l20,l21,l22,l23] st H Q:=w_st (i:=11) (p:=isI) at_222 rfl rfl rfl rfl rfl rfl
theorem m29_224 : M29 224 [l0,l1,l2,l3,l4,l5,l6,l7,l8,l9,l10,.val (.int v),l12,l13,l14,l15,l16,l17,l18,l19,l20,l21,l22,l23] st H Q = M29 226 [l0,l1,l2,l3,l4,l5,l6,l7,l8,l9,l10,.val (.int v),l12,l13,l14,l15,l16,l17,l18,l19,l20,l21,l22,l23] (.int v::st) H Q:=w_x at_224 rfl
theorem m29_226 : M29 226 ls st H Q = M29 229 ls (.int 255::st) H Q:=w_con at_226 rfl (by decide)
theorem m29_229 : M29 229 ls (.int y::.int x::st) H Q = if y < x then M29 232 ls st H Q else M29 237 ls st H Q:=w_icmpN at_229 (i_le x y) rfl
theorem m29_232 : M29 232 ls st H Q = M29 235 ls (.int 255::st) H Q:=w_con at_232 rfl (by decide)
theorem m29_235i : M29 235 [l0,l1,l2,l3,l4,l5,l6,l7,l8,l9,l10,.val (.int z),l12,l13,l14,l15,l16,l17,l18,l19,l20,l21,l22,l23] ((.int v)::st) H Q = M29 237 [l0,l1,l2,l3,l4,l5,l6,l7,l8,l9,l10,.val (.int v),l12,l13,l14,l15,l16,l17,l18,l19,l20,l21,l22,l23] st H Q:=w_st (i:=11) (p:=isI) at_235 rfl rfl rfl rfl rfl rfl
theorem m29_237 : M29 237 ls st H Q = M29 238 ls (.int 1::st) H Q:=w_con at_237 rfl (by decide)
theorem m29_238 : M29 238 [l0,l1,l2,l3,l4,l5,l6,l7,l8,.val (.int v),l10,l11,l12,l13,l14,l15,l16,l17,l18,l19,l20,l21,l22,l23] st H Q = M29 240 [l0,l1,l2,l3,l4,l5,l6,l7,l8,.val (.int v),l10,l11,l12,l13,l14,l15,l16,l17,l18,l19,l20,l21,l22,l23] (.int v::st) H Q:=w_x at_238 rfl
theorem m29_240 : M29 240 ls st H Q = M29 241 ls (.int 5::st) H Q:=w_con at_240 rfl (by decide)
theorem m29_241 : M29 241 ls (.int y::.int x::st) H Q = M29 242 ls (.int (x >>> (y &&& 31))::st) H Q:=w_x at_241 rfl
theorem m29_242 : M29 242 ls st H Q = M29 244 ls (.int 15::st) H Q:=w_con at_242 rfl (by decide)
theorem m29_244 : M29 244 ls (.int y::.int x::st) H Q = M29 245 ls (.int (x &&& y)::st) H Q:=w_x at_244 rfl
theorem m29_245 : M29 245 ls (.int y::.int x::st) H Q = M29 246 ls (.int (x + y)::st) H Q:=w_x at_245 rfl
theorem m29_246u : M29 246 [l0,l1,l2,l3,l4,l5,l6,l7,l8,l9,l10,l11,.unset,l13,l14,l15,l16,l17,l18,l19,l20,l21,l22,l23] ((.int v)::st) H Q = M29 248 [l0,l1,l2,l3,l4,l5,l6,l7,l8,l9,l10,l11,.val (.int v),l13,l14,l15,l16,l17,l18,l19,l20,l21,l22,l23] st H Q:=w_st (i:=12) (p:=isI) at_246 rfl rfl rfl rfl rfl rfl
theorem m29_246i : M29 246 [l0,l1,l2,l3,l4,l5,l6,l7,l8,l9,l10,l11,.val (.int z),l13,l14,l15,l16,l17,l18,l19,l20,l21,l22,l23] ((.int v)::st) H Q = M29 248 [l0,l1,l2,l3,l4,l5,l6,l7,l8,l9,l10,l11,.val (.int v),l13,l14,l15,l16,l17,l18,l19,l20,l21,l22,l23] st H Q:=w_st (i:=12) (p:=isI) at_246 rfl rfl rfl rfl rfl rfl
theorem m29_246r : M29 246 [l0,l1,l2,l3,l4,l5,l6,l7,l8,l9,l10,l11,.val (.ref q),l13,l14,l15,l16,l17,l18,l19,l20,l21,l22,l23] ((.int v)::st) H Q = M29 248 [l0,l1,l2,l3,l4,l5,l6,l7,l8,l9,l10,l11,.val (.int v),l13,l14,l15,l16,l17,l18,l19,l20,l21,l22,l23] st H Q:=w_st (i:=12) (p:=isI) at_246 rfl rfl rfl rfl rfl rfl
theorem m29_246g (h : okS l12) : M29 246 [l0,l1,l2,l3,l4,l5,l6,l7,l8,l9,l10,l11,l12,l13,l14,l15,l16,l17,l18,l19,l20,l21,l22,l23] ((.int v)::st) H Q = M29 248 [l0,l1,l2,l3,l4,l5,l6,l7,l8,l9,l10,l11,.val (.int v),l13,l14,l15,l16,l17,l18,l19,l20,l21,l22,l23] st H Q:=by rcases h with rfl | ⟨z,rfl⟩ <;> first | exact m29_246u | exact m29_246i
theorem m29_248 : M29 248 [l0,l1,l2,l3,l4,l5,l6,l7,l8,l9,l10,.val (.int v),l12,l13,l14,l15,l16,l17,l18,l19,l20,l21,l22,l23] st H Q = M29 250 [l0,l1,l2,l3,l4,l5,l6,l7,l8,l9,l10,.val (.int v),l12,l13,l14,l15,l16,l17,l18,l19,l20,l21,l22,l23] (.int v::st) H Q:=w_x at_248 rfl
theorem m29_250 : M29 250 [l0,l1,l2,l3,l4,l5,l6,l7,l8,l9,l10,l11,.val (.int v),l13,l14,l15,l16,l17,l18,l19,l20,l21,l22,l23] st H Q = M29 252 [l0,l1,l2,l3,l4,l5,l6,l7,l8,l9,l10,l11,.val (.int v),l13,l14,l15,l16,l17,l18,l19,l20,l21,l22,l23] (.int v::st) H Q:=w_x at_250 rfl
theorem m29_252 : M29 252 ls (.int y::.int x::st) H Q = M29 253 ls (.int (x + y)::st) H Q:=w_x at_252 rfl
theorem m29_253 : M29 253 ls st H Q = M29 256 ls (.int 256::st) H Q:=w_con at_253 rfl (by decide)
theorem m29_256 : M29 256 ls (.int y::.int x::st) H Q = if y < x then M29 259 ls st H Q else M29 267 ls st H Q:=w_icmpN at_256 (i_le x y) rfl
theorem m29_259 : M29 259 ls st H Q = M29 262 ls (.int 256::st) H Q:=w_con at_259 rfl (by decide)
theorem m29_262 : M29 262 [l0,l1,l2,l3,l4,l5,l6,l7,l8,l9,l10,.val (.int v),l12,l13,l14,l15,l16,l17,l18,l19,l20,l21,l22,l23] st H Q = M29 264 [l0,l1,l2,l3,l4,l5,l6,l7,l8,l9,l10,.val (.int v),l12,l13,l14,l15,l16,l17,l18,l19,l20,l21,l22,l23] (.int v::st) H Q:=w_x at_262 rfl
theorem m29_264 : M29 264 ls (.int y::.int x::st) H Q = M29 265 ls (.int (x - y)::st) H Q:=w_x at_264 rfl
theorem m29_265i : M29 265 [l0,l1,l2,l3,l4,l5,l6,l7,l8,l9,l10,l11,.val (.int z),l13,l14,l15,l16,l17,l18,l19,l20,l21,l22,l23] ((.int v)::st) H Q = M29 267 [l0,l1,l2,l3,l4,l5,l6,l7,l8,l9,l10,l11,.val (.int v),l13,l14,l15,l16,l17,l18,l19,l20,l21,l22,l23] st H Q:=w_st (i:=12) (p:=isI) at_265 rfl rfl rfl rfl rfl rfl
theorem m29_267 : M29 267 [l0,l1,l2,l3,l4,l5,l6,l7,l8,.val (.int v),l10,l11,l12,l13,l14,l15,l16,l17,l18,l19,l20,l21,l22,l23] st H Q = M29 269 [l0,l1,l2,l3,l4,l5,l6,l7,l8,.val (.int v),l10,l11,l12,l13,l14,l15,l16,l17,l18,l19,l20,l21,l22,l23] (.int v::st) H Q:=w_x at_267 rfl
theorem m29_269 : M29 269 ls st H Q = M29 271 ls (.int 9::st) H Q:=w_con at_269 rfl (by decide)
theorem m29_271 : M29 271 ls (.int y::.int x::st) H Q = M29 272 ls (.int (x >>> (y &&& 31))::st) H Q:=w_x at_271 rfl
theorem m29_272 : M29 272 ls st H Q = M29 273 ls (.int 3::st) H Q:=w_con at_272 rfl (by decide)
theorem m29_273 : M29 273 ls (.int y::.int x::st) H Q = M29 274 ls (.int (x &&& y)::st) H Q:=w_x at_273 rfl
theorem m29_274 : M29 274 ls (.int x::st) H Q = if x = 0 then M29 277 ls st H Q else M29 281 ls st H Q:=w_ifN at_274 (z_ne x) rfl
theorem m29_277 : M29 277 ls st H Q = M29 278 ls (.int 1::st) H Q:=w_con at_277 rfl (by decide)
theorem m29_278 : M29 278 ls st H Q = M29 282 ls st H Q:=w_x at_278 rfl
theorem m29_281 : M29 281 ls st H Q = M29 282 ls (.int 0::st) H Q:=w_con at_281 rfl (by decide)
theorem m29_282u : M29 282 [l0,l1,l2,l3,l4,l5,l6,l7,l8,l9,l10,l11,l12,.unset,l14,l15,l16,l17,l18,l19,l20,l21,l22,l23] ((.int v)::st) H Q = M29 284 [l0,l1,l2,l3,l4,l5,l6,l7,l8,l9,l10,l11,l12,.val (.int v),l14,l15,l16,l17,l18,l19,l20,l21,l22,l23] st H Q:=w_st (i:=13) (p:=isI) at_282 rfl rfl rfl rfl rfl rfl
theorem m29_282i : M29 282 [l0,l1,l2,l3,l4,l5,l6,l7,l8,l9,l10,l11,l12,.val (.int z),l14,l15,l16,l17,l18,l19,l20,l21,l22,l23] ((.int v)::st) H Q = M29 284 [l0,l1,l2,l3,l4,l5,l6,l7,l8,l9,l10,l11,l12,.val (.int v),l14,l15,l16,l17,l18,l19,l20,l21,l22,l23] st H Q:=w_st (i:=13) (p:=isI) at_282 rfl rfl rfl rfl rfl rfl
theorem m29_282r : M29 282 [l0,l1,l2,l3,l4,l5,l6,l7,l8,l9,l10,l11,l12,.val (.ref q),l14,l15,l16,l17,l18,l19,l20,l21,l22,l23] ((.int v)::st) H Q = M29 284 [l0,l1,l2,l3,l4,l5,l6,l7,l8,l9,l10,l11,l12,.val (.int v),l14,l15,l16,l17,l18,l19,l20,l21,l22,l23] st H Q:=w_st (i:=13) (p:=isI) at_282 rfl rfl rfl rfl rfl rfl
theorem m29_282g (h : okS l13) : M29 282 [l0,l1,l2,l3,l4,l5,l6,l7,l8,l9,l10,l11,l12,l13,l14,l15,l16,l17,l18,l19,l20,l21,l22,l23] ((.int v)::st) H Q = M29 284 [l0,l1,l2,l3,l4,l5,l6,l7,l8,l9,l10,l11,l12,.val (.int v),l14,l15,l16,l17,l18,l19,l20,l21,l22,l23] st H Q:=by rcases h with rfl | ⟨z,rfl⟩ <;> first | exact m29_282u | exact m29_282i
theorem m29_284 : M29 284 [l0,l1,l2,l3,.val (.ref r),l5,l6,l7,l8,l9,l10,l11,l12,l13,l14,l15,l16,l17,l18,l19,l20,l21,l22,l23] st H Q = M29 286 [l0,l1,l2,l3,.val (.ref r),l5,l6,l7,l8,l9,l10,l11,l12,l13,l14,l15,l16,l17,l18,l19,l20,l21,l22,l23] (.ref r::st) H Q:=w_x at_284 rfl
theorem m29_286 : M29 286 [l0,l1,l2,l3,l4,l5,l6,l7,l8,l9,l10,.val (.int v),l12,l13,l14,l15,l16,l17,l18,l19,l20,l21,l22,l23] st H Q = M29 288 [l0,l1,l2,l3,l4,l5,l6,l7,l8,l9,l10,.val (.int v),l12,l13,l14,l15,l16,l17,l18,l19,l20,l21,l22,l23] (.int v::st) H Q:=w_x at_286 rfl
theorem cr29_46 : vR tables_1 dn y29 46 = some (false,y10,prog_1_method_9_code,2,(some .int),1,35):=vR_of (cR_of (by decide +kernel) rc_10 dn_10 dn_29 (sig:=⟨[.int],some .int⟩) (by decide +kernel) (by decide +kernel) rfl rfl) (by decide +kernel) (by decide +kernel) (by decide +kernel)
theorem m29_288 (a0 : Int32) : M29 288 ls [.int a0,.ref (b + 1)] (put (b + 1) pre s A post) Q = M10 0 [.val (.ref (b + 1)),.val (.int a0)] [] (put (b + 1) pre s A post) (fun v H1 => M29 291 ls (v.toList ++ []) H1 Q):=w_virt (as:=[.int a0]) (rest:=[]) (a:=(b + 1)) at_288 cr29_46 put_o rfl rfl (Nat.le_of_ble_eq_true rfl) (by show 2≤2; omega) rfl
theorem m29_291 : M29 291 ls (.int x::st) H Q = if x = 0 then M29 296 ls st H Q else M29 294 ls st H Q:=w_if at_291 (z_eq x) rfl
theorem m29_294 : M29 294 ls st H Q = M29 295 ls (.int 0::st) H Q:=w_con at_294 rfl (by decide)
theorem m29_295 : M29 295 ls (.int z::st) H Q = Q (some (.int (nar .boolean z))) H:=w_iretN at_295 rfl (by simp)
theorem m29_296 : M29 296 ls st H Q = M29 297 ls (.long 0::st) H Q:=w_con at_296 rfl (by decide)
theorem m29_297 : M29 297 [l0,l1,l2,l3,l4,l5,l6,l7,l8,l9,l10,l11,l12,l13,.unset,.unset,l16,l17,l18,l19,l20,l21,l22,l23] (.long J1::st) H Q = M29 299 [l0,l1,l2,l3,l4,l5,l6,l7,l8,l9,l10,l11,l12,l13,.val (.long J1),.second,l16,l17,l18,l19,l20,l21,l22,l23] st H Q:=w_x at_297 rfl
theorem m29_299 : M29 299 ls st H Q = M29 300 ls (.int 0::st) H Q:=w_con at_299 rfl (by decide)
theorem m29_300u : M29 300 [l0,l1,l2,l3,l4,l5,l6,l7,l8,l9,l10,l11,l12,l13,l14,l15,.unset,l17,l18,l19,l20,l21,l22,l23] ((.int v)::st) H Q = M29 302 [l0,l1,l2,l3,l4,l5,l6,l7,l8,l9,l10,l11,l12,l13,l14,l15,.val (.int v),l17,l18,l19,l20,l21,l22,l23] st H Q:=w_st (i:=16) (p:=isI) at_300 rfl rfl rfl rfl rfl rfl
theorem m29_300i : M29 300 [l0,l1,l2,l3,l4,l5,l6,l7,l8,l9,l10,l11,l12,l13,l14,l15,.val (.int z),l17,l18,l19,l20,l21,l22,l23] ((.int v)::st) H Q = M29 302 [l0,l1,l2,l3,l4,l5,l6,l7,l8,l9,l10,l11,l12,l13,l14,l15,.val (.int v),l17,l18,l19,l20,l21,l22,l23] st H Q:=w_st (i:=16) (p:=isI) at_300 rfl rfl rfl rfl rfl rfl
theorem m29_300r : M29 300 [l0,l1,l2,l3,l4,l5,l6,l7,l8,l9,l10,l11,l12,l13,l14,l15,.val (.ref q),l17,l18,l19,l20,l21,l22,l23] ((.int v)::st) H Q = M29 302 [l0,l1,l2,l3,l4,l5,l6,l7,l8,l9,l10,l11,l12,l13,l14,l15,.val (.int v),l17,l18,l19,l20,l21,l22,l23] st H Q:=w_st (i:=16) (p:=isI) at_300 rfl rfl rfl rfl rfl rfl
theorem m29_300g (h : okS l16) : M29 300 [l0,l1,l2,l3,l4,l5,l6,l7,l8,l9,l10,l11,l12,l13,l14,l15,l16,l17,l18,l19,l20,l21,l22,l23] ((.int v)::st) H Q = M29 302 [l0,l1,l2,l3,l4,l5,l6,l7,l8,l9,l10,l11,l12,l13,l14,l15,.val (.int v),l17,l18,l19,l20,l21,l22,l23] st H Q:=by rcases h with rfl | ⟨z,rfl⟩ <;> first | exact m29_300u | exact m29_300i
theorem m29_302 : M29 302 [l0,l1,l2,l3,l4,l5,l6,l7,l8,l9,l10,l11,l12,l13,l14,l15,.val (.int v),l17,l18,l19,l20,l21,l22,l23] st H Q = M29 304 [l0,l1,l2,l3,l4,l5,l6,l7,l8,l9,l10,l11,l12,l13,l14,l15,.val (.int v),l17,l18,l19,l20,l21,l22,l23] (.int v::st) H Q:=w_x at_302 rfl
theorem m29_304 : M29 304 [l0,l1,l2,l3,l4,l5,l6,l7,l8,l9,l10,l11,.val (.int v),l13,l14,l15,l16,l17,l18,l19,l20,l21,l22,l23] st H Q = M29 306 [l0,l1,l2,l3,l4,l5,l6,l7,l8,l9,l10,l11,.val (.int v),l13,l14,l15,l16,l17,l18,l19,l20,l21,l22,l23] (.int v::st) H Q:=w_x at_304 rfl
theorem m29_306 : M29 306 ls (.int y::.int x::st) H Q = if x < y then M29 309 ls st H Q else M29 368 ls st H Q:=w_icmpN at_306 (i_ge x y) rfl
theorem m29_309 : M29 309 [l0,l1,l2,l3,l4,l5,l6,l7,l8,l9,l10,.val (.int v),l12,l13,l14,l15,l16,l17,l18,l19,l20,l21,l22,l23] st H Q = M29 311 [l0,l1,l2,l3,l4,l5,l6,l7,l8,l9,l10,.val (.int v),l12,l13,l14,l15,l16,l17,l18,l19,l20,l21,l22,l23] (.int v::st) H Q:=w_x at_309 rfl
theorem m29_311 : M29 311 [l0,l1,l2,l3,l4,l5,l6,l7,l8,l9,l10,l11,l12,l13,l14,l15,.val (.int v),l17,l18,l19,l20,l21,l22,l23] st H Q = M29 313 [l0,l1,l2,l3,l4,l5,l6,l7,l8,l9,l10,l11,l12,l13,l14,l15,.val (.int v),l17,l18,l19,l20,l21,l22,l23] (.int v::st) H Q:=w_x at_311 rfl
theorem m29_313 : M29 313 ls (.int y::.int x::st) H Q = M29 314 ls (.int (x + y)::st) H Q:=w_x at_313 rfl
theorem m29_314u : M29 314 [l0,l1,l2,l3,l4,l5,l6,l7,l8,l9,l10,l11,l12,l13,l14,l15,l16,.unset,l18,l19,l20,l21,l22,l23] ((.int v)::st) H Q = M29 316 [l0,l1,l2,l3,l4,l5,l6,l7,l8,l9,l10,l11,l12,l13,l14,l15,l16,.val (.int v),l18,l19,l20,l21,l22,l23] st H Q:=w_st (i:=17) (p:=isI) at_314 rfl rfl rfl rfl rfl rfl
theorem m29_314i : M29 314 [l0,l1,l2,l3,l4,l5,l6,l7,l8,l9,l10,l11,l12,l13,l14,l15,l16,.val (.int z),l18,l19,l20,l21,l22,l23] ((.int v)::st) H Q = M29 316 [l0,l1,l2,l3,l4,l5,l6,l7,l8,l9,l10,l11,l12,l13,l14,l15,l16,.val (.int v),l18,l19,l20,l21,l22,l23] st H Q:=w_st (i:=17) (p:=isI) at_314 rfl rfl rfl rfl rfl rfl
theorem m29_314r : M29 314 [l0,l1,l2,l3,l4,l5,l6,l7,l8,l9,l10,l11,l12,l13,l14,l15,l16,.val (.ref q),l18,l19,l20,l21,l22,l23] ((.int v)::st) H Q = M29 316 [l0,l1,l2,l3,l4,l5,l6,l7,l8,l9,l10,l11,l12,l13,l14,l15,l16,.val (.int v),l18,l19,l20,l21,l22,l23] st H Q:=w_st (i:=17) (p:=isI) at_314 rfl rfl rfl rfl rfl rfl
theorem m29_314g (h : okS l17) : M29 314 [l0,l1,l2,l3,l4,l5,l6,l7,l8,l9,l10,l11,l12,l13,l14,l15,l16,l17,l18,l19,l20,l21,l22,l23] ((.int v)::st) H Q = M29 316 [l0,l1,l2,l3,l4,l5,l6,l7,l8,l9,l10,l11,l12,l13,l14,l15,l16,.val (.int v),l18,l19,l20,l21,l22,l23] st H Q:=by rcases h with rfl | ⟨z,rfl⟩ <;> first | exact m29_314u | exact m29_314i
theorem m29_316 : M29 316 [l0,l1,l2,l3,l4,l5,l6,l7,l8,l9,l10,l11,l12,l13,.val (.long J1),l15,l16,l17,l18,l19,l20,l21,l22,l23] st H Q = M29 318 [l0,l1,l2,l3,l4,l5,l6,l7,l8,l9,l10,l11,l12,l13,.val (.long J1),l15,l16,l17,l18,l19,l20,l21,l22,l23] (.long J1::st) H Q:=w_x at_316 rfl
theorem m29_318 : M29 318 [l0,l1,l2,l3,.val (.ref r),l5,l6,l7,l8,l9,l10,l11,l12,l13,l14,l15,l16,l17,l18,l19,l20,l21,l22,l23] st H Q = M29 320 [l0,l1,l2,l3,.val (.ref r),l5,l6,l7,l8,l9,l10,l11,l12,l13,l14,l15,l16,l17,l18,l19,l20,l21,l22,l23] (.ref r::st) H Q:=w_x at_318 rfl
theorem m29_320 : M29 320 [l0,l1,l2,l3,l4,l5,l6,l7,l8,l9,l10,l11,l12,l13,l14,l15,l16,.val (.int v),l18,l19,l20,l21,l22,l23] st H Q = M29 322 [l0,l1,l2,l3,l4,l5,l6,l7,l8,l9,l10,l11,l12,l13,l14,l15,l16,.val (.int v),l18,l19,l20,l21,l22,l23] (.int v::st) H Q:=w_x at_320 rfl
theorem cr29_13 : vR tables_1 dn y29 13 = some (false,y12,prog_1_method_17_code,2,(some .int),1,35):=vR_of (cR_of (by decide +kernel) rc_12 dn_12 dn_29 (sig:=⟨[.int],some .int⟩) (by decide +kernel) (by decide +kernel) rfl rfl) (by decide +kernel) (by decide +kernel) (by decide +kernel)
theorem m29_322 (a0 : Int32) (u0 : Int64) : M29 322 ls [.int a0,.ref (b + 1),.long u0] (put (b + 1) pre s A post) Q = M12 0 [.val (.ref (b + 1)),.val (.int a0)] [] (put (b + 1) pre s A post) (fun v H1 => M29 325 ls (v.toList ++ [.long u0]) H1 Q):=w_virt (as:=[.int a0]) (rest:=[.long u0]) (a:=(b + 1)) at_322 cr29_13 put_o rfl rfl (Nat.le_of_ble_eq_true rfl) (by show 2≤2; omega) rfl
theorem m29_325 : M29 325 ls st H Q = M29 326 ls (.int 1::st) H Q:=w_con at_325 rfl (by decide)
theorem m29_326 : M29 326 ls (.int y::.int x::st) H Q = M29 327 ls (.int (x + y)::st) H Q:=w_x at_326 rfl
theorem m29_327 : M29 327 ls (.int x::st) H Q = M29 328 ls (.long x.toInt64::st) H Q:=w_x at_327 rfl
theorem m29_328 : M29 328 ls st H Q = M29 331 ls (.long 3::st) H Q:=w_ldc2 at_328 (by decide +kernel)
theorem m29_331 : M29 331 ls (.long J2::.long J1::st) H Q = M29 332 ls (.long (J1 &&& J2)::st) H Q:=w_x at_331 rfl
theorem m29_332 : M29 332 ls st H Q = M29 333 ls (.int 2::st) H Q:=w_con at_332 rfl (by decide)
theorem m29_333 : M29 333 [l0,l1,l2,l3,l4,l5,l6,l7,l8,l9,l10,l11,l12,l13,l14,l15,.val (.int v),l17,l18,l19,l20,l21,l22,l23] st H Q = M29 335 [l0,l1,l2,l3,l4,l5,l6,l7,l8,l9,l10,l11,l12,l13,l14,l15,.val (.int v),l17,l18,l19,l20,l21,l22,l23] (.int v::st) H Q:=w_x at_333 rfl
theorem m29_335 : M29 335 ls (.int y::.int x::st) H Q = M29 336 ls (.int (x * y)::st) H Q:=w_x at_335 rfl
theorem m29_336 : M29 336 ls (.int y::.long J1::st) H Q = M29 337 ls (.long (J1 <<< (y.toInt64 &&& 63))::st) H Q:=w_x at_336 rfl
theorem m29_337 : M29 337 ls (.long J2::.long J1::st) H Q = M29 338 ls (.long (J1 ||| J2)::st) H Q:=w_x at_337 rfl
theorem m29_338 : M29 338 [l0,l1,l2,l3,l4,l5,l6,l7,l8,l9,l10,l11,l12,l13,.val (.long J2),.second,l16,l17,l18,l19,l20,l21,l22,l23] (.long J1::st) H Q = M29 340 [l0,l1,l2,l3,l4,l5,l6,l7,l8,l9,l10,l11,l12,l13,.val (.long J1),.second,l16,l17,l18,l19,l20,l21,l22,l23] st H Q:=w_x at_338 rfl
theorem m29_340 : M29 340 [l0,l1,l2,l3,.val (.ref r),l5,l6,l7,l8,l9,l10,l11,l12,l13,l14,l15,l16,l17,l18,l19,l20,l21,l22,l23] st H Q = M29 342 [l0,l1,l2,l3,.val (.ref r),l5,l6,l7,l8,l9,l10,l11,l12,l13,l14,l15,l16,l17,l18,l19,l20,l21,l22,l23] (.ref r::st) H Q:=w_x at_340 rfl
theorem m29_342 : M29 342 [l0,l1,l2,l3,l4,l5,l6,l7,l8,l9,l10,l11,l12,l13,l14,l15,l16,.val (.int v),l18,l19,l20,l21,l22,l23] st H Q = M29 344 [l0,l1,l2,l3,l4,l5,l6,l7,l8,l9,l10,l11,l12,l13,l14,l15,l16,.val (.int v),l18,l19,l20,l21,l22,l23] (.int v::st) H Q:=w_x at_342 rfl
theorem m29_344 : M29 344 [l0,l1,l2,.val (.int v),l4,l5,l6,l7,l8,l9,l10,l11,l12,l13,l14,l15,l16,l17,l18,l19,l20,l21,l22,l23] st H Q = M29 345 [l0,l1,l2,.val (.int v),l4,l5,l6,l7,l8,l9,l10,l11,l12,l13,l14,l15,l16,l17,l18,l19,l20,l21,l22,l23] (.int v::st) H Q:=w_x at_344 rfl
theorem m29_345 : M29 345 [l0,l1,l2,l3,l4,l5,l6,l7,l8,l9,l10,l11,l12,.val (.int v),l14,l15,l16,l17,l18,l19,l20,l21,l22,l23] st H Q = M29 347 [l0,l1,l2,l3,l4,l5,l6,l7,l8,l9,l10,l11,l12,.val (.int v),l14,l15,l16,l17,l18,l19,l20,l21,l22,l23] (.int v::st) H Q:=w_x at_345 rfl
theorem m29_347 : M29 347 [l0,l1,l2,l3,l4,l5,l6,l7,l8,.val (.int v),l10,l11,l12,l13,l14,l15,l16,l17,l18,l19,l20,l21,l22,l23] st H Q = M29 349 [l0,l1,l2,l3,l4,l5,l6,l7,l8,.val (.int v),l10,l11,l12,l13,l14,l15,l16,l17,l18,l19,l20,l21,l22,l23] (.int v::st) H Q:=w_x at_347 rfl
theorem m29_349 : M29 349 [l0,l1,l2,l3,l4,l5,l6,l7,l8,l9,l10,l11,l12,l13,l14,l15,.val (.int v),l17,l18,l19,l20,l21,l22,l23] st H Q = M29 351 [l0,l1,l2,l3,l4,l5,l6,l7,l8,l9,l10,l11,l12,l13,l14,l15,.val (.int v),l17,l18,l19,l20,l21,l22,l23] (.int v::st) H Q:=w_x at_349 rfl
theorem cr29_51 : sR tables_1 dn y29 51 = some (y26,method_5_code,5,(some .int),5,31):=sR_of (cR_of (by decide +kernel) rc_26 dn_26 dn_29 (sig:=⟨[.int,.int,.boolean,.int,.int],some .int⟩) (by decide +kernel) (by decide +kernel) rfl rfl) (by decide +kernel)
theorem m29_351 (a0 : Int32) (a1 : Int32) (a2 : Int32) (a3 : Int32) (a4 : Int32) (u0 : Nat) : M29 351 ls [.int a4,.int a3,.int a2,.int a1,.int a0,.ref u0] H Q = M26 0 [.val (.int a0),.val (.int a1),.val (.int a2),.val (.int a3),.val (.int a4)] [] H (fun v H1 => M29 354 ls (v.toList ++ [.ref u0]) H1 Q):=w_stat (as:=[.int a4,.int a3,.int a2,.int a1,.int a0]) (rest:=[.ref u0]) at_351 cr29_51 rfl (Nat.le_of_ble_eq_true rfl) (by show 5≤5; omega) rfl
theorem cr29_55 : vR tables_1 dn y29 55 = some (false,y13,prog_1_method_10_code,2,(some .int),1,35):=vR_of (cR_of (by decide +kernel) rc_13 dn_13 dn_29 (sig:=⟨[.int],some .int⟩) (by decide +kernel) (by decide +kernel) rfl rfl) (by decide +kernel) (by decide +kernel) (by decide +kernel)
theorem m29_354 (a0 : Int32) : M29 354 ls [.int a0,.ref (b + 1)] (put (b + 1) pre s A post) Q = M13 0 [.val (.ref (b + 1)),.val (.int a0)] [] (put (b + 1) pre s A post) (fun v H1 => M29 357 ls (v.toList ++ []) H1 Q):=w_virt (as:=[.int a0]) (rest:=[]) (a:=(b + 1)) at_354 cr29_55 put_o rfl rfl (Nat.le_of_ble_eq_true rfl) (by show 2≤2; omega) rfl
theorem m29_357 : M29 357 ls (.int x::st) H Q = if x = 0 then M29 362 ls st H Q else M29 360 ls st H Q:=w_if at_357 (z_eq x) rfl
theorem m29_360 : M29 360 ls st H Q = M29 361 ls (.int 0::st) H Q:=w_con at_360 rfl (by decide)
theorem m29_361 : M29 361 ls (.int z::st) H Q = Q (some (.int (nar .boolean z))) H:=w_iretN at_361 rfl (by simp)
theorem m29_362 : M29 362 [l0,l1,l2,l3,l4,l5,l6,l7,l8,l9,l10,l11,l12,l13,l14,l15,.val (.int v),l17,l18,l19,l20,l21,l22,l23] st H Q = M29 365 [l0,l1,l2,l3,l4,l5,l6,l7,l8,l9,l10,l11,l12,l13,l14,l15,.val (.int (v + 1)),l17,l18,l19,l20,l21,l22,l23] st H Q:=w_iinc at_362 rfl (by decide) rfl
theorem m29_365 : M29 365 ls st H Q = M29 302 ls st H Q:=w_x at_365 rfl
theorem m29_368 : M29 368 [l0,l1,l2,l3,.val (.ref r),l5,l6,l7,l8,l9,l10,l11,l12,l13,l14,l15,l16,l17,l18,l19,l20,l21,l22,l23] st H Q = M29 370 [l0,l1,l2,l3,.val (.ref r),l5,l6,l7,l8,l9,l10,l11,l12,l13,l14,l15,l16,l17,l18,l19,l20,l21,l22,l23] (.ref r::st) H Q:=w_x at_368 rfl
theorem m29_370 : M29 370 [l0,l1,l2,l3,l4,l5,l6,l7,l8,l9,l10,.val (.int v),l12,l13,l14,l15,l16,l17,l18,l19,l20,l21,l22,l23] st H Q = M29 372 [l0,l1,l2,l3,l4,l5,l6,l7,l8,l9,l10,.val (.int v),l12,l13,l14,l15,l16,l17,l18,l19,l20,l21,l22,l23] (.int v::st) H Q:=w_x at_370 rfl
theorem m29_372 : M29 372 [l0,l1,l2,l3,l4,l5,l6,l7,l8,l9,l10,.val (.int v),l12,l13,l14,l15,l16,l17,l18,l19,l20,l21,l22,l23] st H Q = M29 374 [l0,l1,l2,l3,l4,l5,l6,l7,l8,l9,l10,.val (.int v),l12,l13,l14,l15,l16,l17,l18,l19,l20,l21,l22,l23] (.int v::st) H Q:=w_x at_372 rfl
theorem m29_374 : M29 374 [l0,l1,l2,l3,l4,l5,l6,l7,l8,l9,l10,l11,.val (.int v),l13,l14,l15,l16,l17,l18,l19,l20,l21,l22,l23] st H Q = M29 376 [l0,l1,l2,l3,l4,l5,l6,l7,l8,l9,l10,l11,.val (.int v),l13,l14,l15,l16,l17,l18,l19,l20,l21,l22,l23] (.int v::st) H Q:=w_x at_374 rfl
theorem m29_376 : M29 376 ls (.int y::.int x::st) H Q = M29 377 ls (.int (x + y)::st) H Q:=w_x at_376 rfl
theorem cr29_58 : sR tables_1 dn y29 58 = some (y28,method_4_code,6,(some .long),3,16):=sR_of (cR_of (by decide +kernel) rc_28 dn_28 dn_29 (sig:=⟨[.object "StreamSigScanner", .int,.int],some .long⟩) (by decide +kernel) (by decide +kernel) rfl rfl) (by decide +kernel)
theorem m29_377 (a0 : Nat) (a1 : Int32) (a2 : Int32) : M29 377 ls [.int a2,.int a1,.ref a0] H Q = M28 0 [.val (.ref a0),.val (.int a1),.val (.int a2),.unset,.unset,.unset] [] H (fun v H1 => M29 380 ls (v.toList ++ []) H1 Q):=w_stat (as:=[.int a2,.int a1,.ref a0]) (rest:=[]) at_377 cr29_58 rfl (Nat.le_of_ble_eq_true rfl) (by show 3≤6; omega) rfl
theorem m29_380 : M29 380 [l0,l1,l2,l3,l4,l5,l6,l7,l8,l9,l10,l11,l12,l13,l14,l15,.val (.int x),.unset,l18,l19,l20,l21,l22,l23] (.long J1::st) H Q = M29 382 [l0,l1,l2,l3,l4,l5,l6,l7,l8,l9,l10,l11,l12,l13,l14,l15,.val (.long J1),.second,l18,l19,l20,l21,l22,l23] st H Q:=w_x at_380 rfl
theorem m29_382 : M29 382 [l0,l1,l2,l3,.val (.ref r),l5,l6,l7,l8,l9,l10,l11,l12,l13,l14,l15,l16,l17,l18,l19,l20,l21,l22,l23] st H Q = M29 384 [l0,l1,l2,l3,.val (.ref r),l5,l6,l7,l8,l9,l10,l11,l12,l13,l14,l15,l16,l17,l18,l19,l20,l21,l22,l23] (.ref r::st) H Q:=w_x at_382 rfl
theorem m29_384 : M29 384 ls st H Q = M29 385 ls (.int 0::st) H Q:=w_con at_384 rfl (by decide)
theorem m29_385 (a0 : Int32) : M29 385 ls [.int a0,.ref (b + 1)] (put (b + 1) pre s A post) Q = M9 0 [.val (.ref (b + 1)),.val (.int a0)] [] (put (b + 1) pre s A post) (fun v H1 => M29 388 ls (v.toList ++ []) H1 Q):=w_virt (as:=[.int a0]) (rest:=[]) (a:=(b + 1)) at_385 cr29_43 put_o rfl rfl (Nat.le_of_ble_eq_true rfl) (by show 2≤2; omega) rfl
theorem m29_388u : M29 388 [l0,l1,l2,l3,l4,l5,l6,l7,l8,l9,l10,l11,l12,l13,l14,l15,l16,l17,.unset,l19,l20,l21,l22,l23] ((.int v)::st) H Q = M29 390 [l0,l1,l2,l3,l4,l5,l6,l7,l8,l9,l10,l11,l12,l13,l14,l15,l16,l17,.val (.int v),l19,l20,l21,l22,l23] st H Q:=w_st (i:=18) (p:=isI) at_388 rfl rfl rfl rfl rfl rfl
theorem m29_388i : M29 388 [l0,l1,l2,l3,l4,l5,l6,l7,l8,l9,l10,l11,l12,l13,l14,l15,l16,l17,.val (.int z),l19,l20,l21,l22,l23] ((.int v)::st) H Q = M29 390 [l0,l1,l2,l3,l4,l5,l6,l7,l8,l9,l10,l11,l12,l13,l14,l15,l16,l17,.val (.int v),l19,l20,l21,l22,l23] st H Q:=w_st (i:=18) (p:=isI) at_388 rfl rfl rfl rfl rfl rfl
theorem m29_388r : M29 388 [l0,l1,l2,l3,l4,l5,l6,l7,l8,l9,l10,l11,l12,l13,l14,l15,l16,l17,.val (.ref q),l19,l20,l21,l22,l23] ((.int v)::st) H Q = M29 390 [l0,l1,l2,l3,l4,l5,l6,l7,l8,l9,l10,l11,l12,l13,l14,l15,l16,l17,.val (.int v),l19,l20,l21,l22,l23] st H Q:=w_st (i:=18) (p:=isI) at_388 rfl rfl rfl rfl rfl rfl
theorem m29_388g (h : okS l18) : M29 388 [l0,l1,l2,l3,l4,l5,l6,l7,l8,l9,l10,l11,l12,l13,l14,l15,l16,l17,l18,l19,l20,l21,l22,l23] ((.int v)::st) H Q = M29 390 [l0,l1,l2,l3,l4,l5,l6,l7,l8,l9,l10,l11,l12,l13,l14,l15,l16,l17,.val (.int v),l19,l20,l21,l22,l23] st H Q:=by rcases h with rfl | ⟨z,rfl⟩ <;> first | exact m29_388u | exact m29_388i
theorem m29_390 : M29 390 [l0,l1,l2,l3,.val (.ref r),l5,l6,l7,l8,l9,l10,l11,l12,l13,l14,l15,l16,l17,l18,l19,l20,l21,l22,l23] st H Q = M29 392 [l0,l1,l2,l3,.val (.ref r),l5,l6,l7,l8,l9,l10,l11,l12,l13,l14,l15,l16,l17,l18,l19,l20,l21,l22,l23] (.ref r::st) H Q:=w_x at_390 rfl
theorem cr29_62 : vR tables_1 dn y29 62 = some (false,y14,prog_1_method_11_code,3,(some .int),0,0):=vR_of (cR_of (by decide +kernel) rc_14 dn_14 dn_29 (sig:=⟨[],some .int⟩) (by decide +kernel) (by decide +kernel) rfl rfl) (by decide +kernel) (by decide +kernel) (by decide +kernel)
theorem m29_392 : M29 392 ls [.ref (b + 1)] (put (b + 1) pre s A post) Q = M14 0 [.val (.ref (b + 1)),.unset,.unset] [] (put (b + 1) pre s A post) (fun v H1 => M29 395 ls (v.toList ++ []) H1 Q):=w_virt (as:=[]) (rest:=[]) (a:=(b + 1)) at_392 cr29_62 put_o rfl rfl (Nat.le_of_ble_eq_true rfl) (by show 1≤3; omega) rfl
theorem m29_395 : M29 395 ls ((.int v)::st) H Q = M29 396 ls st H Q:=w_x at_395 rfl
theorem m29_396 : M29 396 ls st H Q = M29 397 ls (.int 0::st) H Q:=w_con at_396 rfl (by decide)
theorem m29_397u : M29 397 [l0,l1,l2,l3,l4,l5,l6,l7,l8,l9,l10,l11,l12,l13,l14,l15,l16,l17,l18,.unset,l20,l21,l22,l23] ((.int v)::st) H Q = M29 399 [l0,l1,l2,l3,l4,l5,l6,l7,l8,l9,l10,l11,l12,l13,l14,l15,l16,l17,l18,.val (.int v),l20,l21,l22,l23] st H Q:=w_st (i:=19) (p:=isI) at_397 rfl rfl rfl rfl rfl rfl
theorem m29_397i : M29 397 [l0,l1,l2,l3,l4,l5,l6,l7,l8,l9,l10,l11,l12,l13,l14,l15,l16,l17,l18,.val (.int z),l20,l21,l22,l23] ((.int v)::st) H Q = M29 399 [l0,l1,l2,l3,l4,l5,l6,l7,l8,l9,l10,l11,l12,l13,l14,l15,l16,l17,l18,.val (.int v),l20,l21,l22,l23] st H Q:=w_st (i:=19) (p:=isI) at_397 rfl rfl rfl rfl rfl rfl
theorem m29_397r : M29 397 [l0,l1,l2,l3,l4,l5,l6,l7,l8,l9,l10,l11,l12,l13,l14,l15,l16,l17,l18,.val (.ref q),l20,l21,l22,l23] ((.int v)::st) H Q = M29 399 [l0,l1,l2,l3,l4,l5,l6,l7,l8,l9,l10,l11,l12,l13,l14,l15,l16,l17,l18,.val (.int v),l20,l21,l22,l23] st H Q:=w_st (i:=19) (p:=isI) at_397 rfl rfl rfl rfl rfl rfl
theorem m29_397g (h : okS l19) : M29 397 [l0,l1,l2,l3,l4,l5,l6,l7,l8,l9,l10,l11,l12,l13,l14,l15,l16,l17,l18,l19,l20,l21,l22,l23] ((.int v)::st) H Q = M29 399 [l0,l1,l2,l3,l4,l5,l6,l7,l8,l9,l10,l11,l12,l13,l14,l15,l16,l17,l18,.val (.int v),l20,l21,l22,l23] st H Q:=by rcases h with rfl | ⟨z,rfl⟩ <;> first | exact m29_397u | exact m29_397i
theorem m29_399 : M29 399 [l0,l1,l2,l3,l4,l5,l6,l7,l8,l9,l10,l11,l12,l13,l14,l15,l16,l17,l18,.val (.int v),l20,l21,l22,l23] st H Q = M29 401 [l0,l1,l2,l3,l4,l5,l6,l7,l8,l9,l10,l11,l12,l13,l14,l15,l16,l17,l18,.val (.int v),l20,l21,l22,l23] (.int v::st) H Q:=w_x at_399 rfl
theorem m29_401 : M29 401 [l0,l1,l2,l3,l4,l5,l6,l7,l8,l9,l10,l11,.val (.int v),l13,l14,l15,l16,l17,l18,l19,l20,l21,l22,l23] st H Q = M29 403 [l0,l1,l2,l3,l4,l5,l6,l7,l8,l9,l10,l11,.val (.int v),l13,l14,l15,l16,l17,l18,l19,l20,l21,l22,l23] (.int v::st) H Q:=w_x at_401 rfl
theorem m29_403 : M29 403 ls (.int y::.int x::st) H Q = if x < y then M29 406 ls st H Q else M29 491 ls st H Q:=w_icmpN at_403 (i_ge x y) rfl
theorem m29_406 : M29 406 [l0,l1,l2,l3,l4,l5,l6,l7,l8,l9,l10,.val (.int v),l12,l13,l14,l15,l16,l17,l18,l19,l20,l21,l22,l23] st H Q = M29 408 [l0,l1,l2,l3,l4,l5,l6,l7,l8,l9,l10,.val (.int v),l12,l13,l14,l15,l16,l17,l18,l19,l20,l21,l22,l23] (.int v::st) H Q:=w_x at_406 rfl
theorem m29_408 : M29 408 [l0,l1,l2,l3,l4,l5,l6,l7,l8,l9,l10,l11,l12,l13,l14,l15,l16,l17,l18,.val (.int v),l20,l21,l22,l23] st H Q = M29 410 [l0,l1,l2,l3,l4,l5,l6,l7,l8,l9,l10,l11,l12,l13,l14,l15,l16,l17,l18,.val (.int v),l20,l21,l22,l23] (.int v::st) H Q:=w_x at_408 rfl
theorem m29_410 : M29 410 ls (.int y::.int x::st) H Q = M29 411 ls (.int (x + y)::st) H Q:=w_x at_410 rfl
theorem m29_411u : M29 411 [l0,l1,l2,l3,l4,l5,l6,l7,l8,l9,l10,l11,l12,l13,l14,l15,l16,l17,l18,l19,.unset,l21,l22,l23] ((.int v)::st) H Q = M29 413 [l0,l1,l2,l3,l4,l5,l6,l7,l8,l9,l10,l11,l12,l13,l14,l15,l16,l17,l18,l19,.val (.int v),l21,l22,l23] st H Q:=w_st (i:=20) (p:=isI) at_411 rfl rfl rfl rfl rfl rfl
theorem m29_411i : M29 411 [l0,l1,l2,l3,l4,l5,l6,l7,l8,l9,l10,l11,l12,l13,l14,l15,l16,l17,l18,l19,.val (.int z),l21,l22,l23] ((.int v)::st) H Q = M29 413 [l0,l1,l2,l3,l4,l5,l6,l7,l8,l9,l10,l11,l12,l13,l14,l15,l16,l17,l18,l19,.val (.int v),l21,l22,l23] st H Q:=w_st (i:=20) (p:=isI) at_411 rfl rfl rfl rfl rfl rfl
theorem m29_411r : M29 411 [l0,l1,l2,l3,l4,l5,l6,l7,l8,l9,l10,l11,l12,l13,l14,l15,l16,l17,l18,l19,.val (.ref q),l21,l22,l23] ((.int v)::st) H Q = M29 413 [l0,l1,l2,l3,l4,l5,l6,l7,l8,l9,l10,l11,l12,l13,l14,l15,l16,l17,l18,l19,.val (.int v),l21,l22,l23] st H Q:=w_st (i:=20) (p:=isI) at_411 rfl rfl rfl rfl rfl rfl
theorem m29_411g (h : okS l20) : M29 411 [l0,l1,l2,l3,l4,l5,l6,l7,l8,l9,l10,l11,l12,l13,l14,l15,l16,l17,l18,l19,l20,l21,l22,l23] ((.int v)::st) H Q = M29 413 [l0,l1,l2,l3,l4,l5,l6,l7,l8,l9,l10,l11,l12,l13,l14,l15,l16,l17,l18,l19,.val (.int v),l21,l22,l23] st H Q:=by rcases h with rfl | ⟨z,rfl⟩ <;> first | exact m29_411u | exact m29_411i
theorem m29_413 : M29 413 [l0,l1,l2,l3,l4,l5,l6,l7,l8,l9,l10,l11,l12,l13,l14,l15,l16,l17,l18,l19,.val (.int v),l21,l22,l23] st H Q = M29 415 [l0,l1,l2,l3,l4,l5,l6,l7,l8,l9,l10,l11,l12,l13,l14,l15,l16,l17,l18,l19,.val (.int v),l21,l22,l23] (.int v::st) H Q:=w_x at_413 rfl
theorem m29_415 : M29 415 [l0,l1,l2,.val (.int v),l4,l5,l6,l7,l8,l9,l10,l11,l12,l13,l14,l15,l16,l17,l18,l19,l20,l21,l22,l23] st H Q = M29 416 [l0,l1,l2,.val (.int v),l4,l5,l6,l7,l8,l9,l10,l11,l12,l13,l14,l15,l16,l17,l18,l19,l20,l21,l22,l23] (.int v::st) H Q:=w_x at_415 rfl
theorem m29_416 : M29 416 [l0,l1,l2,l3,l4,l5,l6,l7,l8,l9,l10,l11,l12,.val (.int v),l14,l15,l16,l17,l18,l19,l20,l21,l22,l23] st H Q = M29 418 [l0,l1,l2,l3,l4,l5,l6,l7,l8,l9,l10,l11,l12,.val (.int v),l14,l15,l16,l17,l18,l19,l20,l21,l22,l23] (.int v::st) H Q:=w_x at_416 rfl
theorem m29_418 : M29 418 [l0,l1,l2,l3,l4,l5,l6,l7,l8,.val (.int v),l10,l11,l12,l13,l14,l15,l16,l17,l18,l19,l20,l21,l22,l23] st H Q = M29 420 [l0,l1,l2,l3,l4,l5,l6,l7,l8,.val (.int v),l10,l11,l12,l13,l14,l15,l16,l17,l18,l19,l20,l21,l22,l23] (.int v::st) H Q:=w_x at_418 rfl
theorem m29_420 : M29 420 [l0,l1,l2,l3,l4,l5,l6,l7,l8,l9,l10,l11,l12,l13,l14,l15,l16,l17,l18,.val (.int v),l20,l21,l22,l23] st H Q = M29 422 [l0,l1,l2,l3,l4,l5,l6,l7,l8,l9,l10,l11,l12,l13,l14,l15,l16,l17,l18,.val (.int v),l20,l21,l22,l23] (.int v::st) H Q:=w_x at_420 rfl
theorem m29_422 (a0 : Int32) (a1 : Int32) (a2 : Int32) (a3 : Int32) (a4 : Int32) : M29 422 ls [.int a4,.int a3,.int a2,.int a1,.int a0] H Q = M26 0 [.val (.int a0),.val (.int a1),.val (.int a2),.val (.int a3),.val (.int a4)] [] H (fun v H1 => M29 425 ls (v.toList ++ []) H1 Q):=w_stat (as:=[.int a4,.int a3,.int a2,.int a1,.int a0]) (rest:=[]) at_422 cr29_51 rfl (Nat.le_of_ble_eq_true rfl) (by show 5≤5; omega) rfl
theorem m29_425u : M29 425 [l0,l1,l2,l3,l4,l5,l6,l7,l8,l9,l10,l11,l12,l13,l14,l15,l16,l17,l18,l19,l20,.unset,l22,l23] ((.int v)::st) H Q = M29 427 [l0,l1,l2,l3,l4,l5,l6,l7,l8,l9,l10,l11,l12,l13,l14,l15,l16,l17,l18,l19,l20,.val (.int v),l22,l23] st H Q:=w_st (i:=21) (p:=isI) at_425 rfl rfl rfl rfl rfl rfl
theorem m29_425i : M29 425 [l0,l1,l2,l3,l4,l5,l6,l7,l8,l9,l10,l11,l12,l13,l14,l15,l16,l17,l18,l19,l20,.val (.int z),l22,l23] ((.int v)::st) H Q = M29 427 [l0,l1,l2,l3,l4,l5,l6,l7,l8,l9,l10,l11,l12,l13,l14,l15,l16,l17,l18,l19,l20,.val (.int v),l22,l23] st H Q:=w_st (i:=21) (p:=isI) at_425 rfl rfl rfl rfl rfl rfl
theorem m29_425r : M29 425 [l0,l1,l2,l3,l4,l5,l6,l7,l8,l9,l10,l11,l12,l13,l14,l15,l16,l17,l18,l19,l20,.val (.ref q),l22,l23] ((.int v)::st) H Q = M29 427 [l0,l1,l2,l3,l4,l5,l6,l7,l8,l9,l10,l11,l12,l13,l14,l15,l16,l17,l18,l19,l20,.val (.int v),l22,l23] st H Q:=w_st (i:=21) (p:=isI) at_425 rfl rfl rfl rfl rfl rfl
theorem m29_425g (h : okS l21) : M29 425 [l0,l1,l2,l3,l4,l5,l6,l7,l8,l9,l10,l11,l12,l13,l14,l15,l16,l17,l18,l19,l20,l21,l22,l23] ((.int v)::st) H Q = M29 427 [l0,l1,l2,l3,l4,l5,l6,l7,l8,l9,l10,l11,l12,l13,l14,l15,l16,l17,l18,l19,l20,.val (.int v),l22,l23] st H Q:=by rcases h with rfl | ⟨z,rfl⟩ <;> first | exact m29_425u | exact m29_425i
theorem m29_427 : M29 427 [l0,l1,l2,l3,l4,l5,l6,l7,l8,l9,l10,l11,l12,l13,.val (.long J1),l15,l16,l17,l18,l19,l20,l21,l22,l23] st H Q = M29 429 [l0,l1,l2,l3,l4,l5,l6,l7,l8,l9,l10,l11,l12,l13,.val (.long J1),l15,l16,l17,l18,l19,l20,l21,l22,l23] (.long J1::st) H Q:=w_x at_427 rfl
theorem m29_429 : M29 429 ls st H Q = M29 430 ls (.int 2::st) H Q:=w_con at_429 rfl (by decide)
theorem m29_430 : M29 430 [l0,l1,l2,l3,l4,l5,l6,l7,l8,l9,l10,l11,l12,l13,l14,l15,l16,l17,l18,.val (.int v),l20,l21,l22,l23] st H Q = M29 432 [l0,l1,l2,l3,l4,l5,l6,l7,l8,l9,l10,l11,l12,l13,l14,l15,l16,l17,l18,.val (.int v),l20,l21,l22,l23] (.int v::st) H Q:=w_x at_430 rfl
theorem m29_432 : M29 432 ls (.int y::.int x::st) H Q = M29 433 ls (.int (x * y)::st) H Q:=w_x at_432 rfl
theorem m29_433 : M29 433 ls (.int y::.long J1::st) H Q = M29 434 ls (.long (J1 >>> (y.toInt64 &&& 63))::st) H Q:=w_x at_433 rfl
theorem m29_434 : M29 434 ls st H Q = M29 437 ls (.long 3::st) H Q:=w_ldc2 at_434 (by decide +kernel)
theorem m29_437 : M29 437 ls (.long J2::.long J1::st) H Q = M29 438 ls (.long (J1 &&& J2)::st) H Q:=w_x at_437 rfl
theorem m29_438 : M29 438 ls (.long J1::st) H Q = M29 439 ls (.int J1.toInt32::st) H Q:=w_x at_438 rfl
theorem m29_439 : M29 439 ls st H Q = M29 440 ls (.int 1::st) H Q:=w_con at_439 rfl (by decide)
theorem m29_440 : M29 440 ls (.int y::.int x::st) H Q = M29 441 ls (.int (x - y)::st) H Q:=w_x at_440 rfl
theorem m29_441u : M29 441 [l0,l1,l2,l3,l4,l5,l6,l7,l8,l9,l10,l11,l12,l13,l14,l15,l16,l17,l18,l19,l20,l21,.unset,l23] ((.int v)::st) H Q = M29 443 [l0,l1,l2,l3,l4,l5,l6,l7,l8,l9,l10,l11,l12,l13,l14,l15,l16,l17,l18,l19,l20,l21,.val (.int v),l23] st H Q:=w_st (i:=22) (p:=isI) at_441 rfl rfl rfl rfl rfl rfl
theorem m29_441i : M29 441 [l0,l1,l2,l3,l4,l5,l6,l7,l8,l9,l10,l11,l12,l13,l14,l15,l16,l17,l18,l19,l20,l21,.val (.int z),l23] ((.int v)::st) H Q = M29 443 [l0,l1,l2,l3,l4,l5,l6,l7,l8,l9,l10,l11,l12,l13,l14,l15,l16,l17,l18,l19,l20,l21,.val (.int v),l23] st H Q:=w_st (i:=22) (p:=isI) at_441 rfl rfl rfl rfl rfl rfl
theorem m29_441r : M29 441 [l0,l1,l2,l3,l4,l5,l6,l7,l8,l9,l10,l11,l12,l13,l14,l15,l16,l17,l18,l19,l20,l21,.val (.ref q),l23] ((.int v)::st) H Q = M29 443 [l0,l1,l2,l3,l4,l5,l6,l7,l8,l9,l10,l11,l12,l13,l14,l15,l16,l17,l18,l19,l20,l21,.val (.int v),l23] st H Q:=w_st (i:=22) (p:=isI) at_441 rfl rfl rfl rfl rfl rfl
theorem m29_441g (h : okS l22) : M29 441 [l0,l1,l2,l3,l4,l5,l6,l7,l8,l9,l10,l11,l12,l13,l14,l15,l16,l17,l18,l19,l20,l21,l22,l23] ((.int v)::st) H Q = M29 443 [l0,l1,l2,l3,l4,l5,l6,l7,l8,l9,l10,l11,l12,l13,l14,l15,l16,l17,l18,l19,l20,l21,.val (.int v),l23] st H Q:=by rcases h with rfl | ⟨z,rfl⟩ <;> first | exact m29_441u | exact m29_441i
theorem m29_443 : M29 443 [l0,l1,l2,l3,l4,l5,l6,l7,l8,l9,l10,l11,l12,l13,l14,l15,l16,l17,l18,l19,l20,l21,.val (.int v),l23] st H Q = M29 445 [l0,l1,l2,l3,l4,l5,l6,l7,l8,l9,l10,l11,l12,l13,l14,l15,l16,l17,l18,l19,l20,l21,.val (.int v),l23] (.int v::st) H Q:=w_x at_443 rfl
theorem m29_445 : M29 445 ls (.int x::st) H Q = if x < 0 then M29 453 ls st H Q else M29 448 ls st H Q:=w_if at_445 (z_lt x) rfl
theorem m29_448 : M29 448 [l0,l1,l2,l3,l4,l5,l6,l7,l8,l9,l10,l11,l12,l13,l14,l15,l16,l17,l18,l19,l20,l21,.val (.int v),l23] st H Q = M29 450 [l0,l1,l2,l3,l4,l5,l6,l7,l8,l9,l10,l11,l12,l13,l14,l15,l16,l17,l18,l19,l20,l21,.val (.int v),l23] (.int v::st) H Q:=w_x at_448 rfl
theorem m29_450 : M29 450 ls st H Q = M29 469 ls st H Q:=w_x at_450 rfl
theorem m29_453 : M29 453 [l0,l1,l2,l3,l4,l5,l6,l7,l8,l9,l10,l11,l12,l13,l14,l15,l16,l17,l18,l19,.val (.int v),l21,l22,l23] st H Q = M29 455 [l0,l1,l2,l3,l4,l5,l6,l7,l8,l9,l10,l11,l12,l13,l14,l15,l16,l17,l18,l19,.val (.int v),l21,l22,l23] (.int v::st) H Q:=w_x at_453 rfl
theorem m29_455 : M29 455 [l0,l1,l2,l3,l4,l5,l6,l7,l8,l9,l10,l11,l12,l13,l14,l15,l16,l17,.val (.int v),l19,l20,l21,l22,l23] st H Q = M29 457 [l0,l1,l2,l3,l4,l5,l6,l7,l8,l9,l10,l11,l12,l13,l14,l15,l16,l17,.val (.int v),l19,l20,l21,l22,l23] (.int v::st) H Q:=w_x at_455 rfl
theorem m29_457 : M29 457 [l0,l1,l2,l3,l4,.val (.int v),l6,l7,l8,l9,l10,l11,l12,l13,l14,l15,l16,l17,l18,l19,l20,l21,l22,l23] st H Q = M29 459 [l0,l1,l2,l3,l4,.val (.int v),l6,l7,l8,l9,l10,l11,l12,l13,l14,l15,l16,l17,l18,l19,l20,l21,l22,l23] (.int v::st) H Q:=w_x at_457 rfl
theorem m29_459 : M29 459 ls (.int y::.int x::st) H Q = M29 460 ls (.int (x + y)::st) H Q:=w_x at_459 rfl
theorem m29_460 : M29 460 ls (.int y::.int x::st) H Q = if x < y then M29 463 ls st H Q else M29 468 ls st H Q:=w_icmpN at_460 (i_ge x y) rfl
theorem m29_463 : M29 463 [l0,l1,l2,l3,l4,l5,l6,l7,l8,l9,l10,l11,l12,l13,l14,l15,l16,l17,l18,l19,l20,.val (.int v),l22,l23] st H Q = M29 465 [l0,l1,l2,l3,l4,l5,l6,l7,l8,l9,l10,l11,l12,l13,l14,l15,l16,l17,l18,l19,l20,.val (.int v),l22,l23] (.int v::st) H Q:=w_x at_463 rfl
theorem m29_465 : M29 465 ls st H Q = M29 469 ls st H Q:=w_x at_465 rfl
theorem m29_468 : M29 468 ls st H Q = M29 469 ls (.int (-1)::st) H Q:=w_con at_468 rfl (by decide)
theorem m29_469u : M29 469 [l0,l1,l2,l3,l4,l5,l6,l7,l8,l9,l10,l11,l12,l13,l14,l15,l16,l17,l18,l19,l20,l21,l22,.unset] ((.int v)::st) H Q = M29 471 [l0,l1,l2,l3,l4,l5,l6,l7,l8,l9,l10,l11,l12,l13,l14,l15,l16,l17,l18,l19,l20,l21,l22,.val (.int v)] st H Q:=w_st (i:=23) (p:=isI) at_469 rfl rfl rfl rfl rfl rfl
theorem m29_469i : M29 469 [l0,l1,l2,l3,l4,l5,l6,l7,l8,l9,l10,l11,l12,l13,l14,l15,l16,l17,l18,l19,l20,l21,l22,.val (.int z)] ((.int v)::st) H Q = M29 471 [l0,l1,l2,l3,l4,l5,l6,l7,l8,l9,l10,l11,l12,l13,l14,l15,l16,l17,l18,l19,l20,l21,l22,.val (.int v)] st H Q:=w_st (i:=23) (p:=isI) at_469 rfl rfl rfl rfl rfl rfl
theorem m29_469r : M29 469 [l0,l1,l2,l3,l4,l5,l6,l7,l8,l9,l10,l11,l12,l13,l14,l15,l16,l17,l18,l19,l20,l21,l22,.val (.ref q)] ((.int v)::st) H Q = M29 471 [l0,l1,l2,l3,l4,l5,l6,l7,l8,l9,l10,l11,l12,l13,l14,l15,l16,l17,l18,l19,l20,l21,l22,.val (.int v)] st H Q:=w_st (i:=23) (p:=isI) at_469 rfl rfl rfl rfl rfl rfl
theorem m29_469g (h : okS l23) : M29 469 [l0,l1,l2,l3,l4,l5,l6,l7,l8,l9,l10,l11,l12,l13,l14,l15,l16,l17,l18,l19,l20,l21,l22,l23] ((.int v)::st) H Q = M29 471 [l0,l1,l2,l3,l4,l5,l6,l7,l8,l9,l10,l11,l12,l13,l14,l15,l16,l17,l18,l19,l20,l21,l22,.val (.int v)] st H Q:=by rcases h with rfl | ⟨z,rfl⟩ <;> first | exact m29_469u | exact m29_469i
theorem m29_471 : M29 471 [l0,l1,l2,l3,.val (.ref r),l5,l6,l7,l8,l9,l10,l11,l12,l13,l14,l15,l16,l17,l18,l19,l20,l21,l22,l23] st H Q = M29 473 [l0,l1,l2,l3,.val (.ref r),l5,l6,l7,l8,l9,l10,l11,l12,l13,l14,l15,l16,l17,l18,l19,l20,l21,l22,l23] (.ref r::st) H Q:=w_x at_471 rfl
theorem m29_473 : M29 473 [l0,l1,l2,l3,l4,l5,l6,l7,l8,l9,l10,l11,l12,l13,l14,l15,l16,l17,l18,l19,.val (.int v),l21,l22,l23] st H Q = M29 475 [l0,l1,l2,l3,l4,l5,l6,l7,l8,l9,l10,l11,l12,l13,l14,l15,l16,l17,l18,l19,.val (.int v),l21,l22,l23] (.int v::st) H Q:=w_x at_473 rfl
theorem m29_475 (a0 : Int32) : M29 475 ls [.int a0,.ref (b + 1)] (put (b + 1) pre s A post) Q = M12 0 [.val (.ref (b + 1)),.val (.int a0)] [] (put (b + 1) pre s A post) (fun v H1 => M29 478 ls (v.toList ++ []) H1 Q):=w_virt (as:=[.int a0]) (rest:=[]) (a:=(b + 1)) at_475 cr29_13 put_o rfl rfl (Nat.le_of_ble_eq_true rfl) (by show 2≤2; omega) rfl
theorem m29_478 : M29 478 [l0,l1,l2,l3,l4,l5,l6,l7,l8,l9,l10,l11,l12,l13,l14,l15,l16,l17,l18,l19,l20,l21,l22,.val (.int v)] st H Q = M29 480 [l0,l1,l2,l3,l4,l5,l6,l7,l8,l9,l10,l11,l12,l13,l14,l15,l16,l17,l18,l19,l20,l21,l22,.val (.int v)] (.int v::st) H Q:=w_x at_478 rfl
theorem m29_480 : M29 480 ls (.int y::.int x::st) H Q = if x = y then M29 485 ls st H Q else M29 483 ls st H Q:=w_icmp at_480 (i_eq x y) rfl
theorem m29_483 : M29 483 ls st H Q = M29 484 ls (.int 0::st) H Q:=w_con at_483 rfl (by decide)
theorem m29_484 : M29 484 ls (.int z::st) H Q = Q (some (.int (nar .boolean z))) H:=w_iretN at_484 rfl (by simp)
theorem m29_485 : M29 485 [l0,l1,l2,l3,l4,l5,l6,l7,l8,l9,l10,l11,l12,l13,l14,l15,l16,l17,l18,.val (.int v),l20,l21,l22,l23] st H Q = M29 488 [l0,l1,l2,l3,l4,l5,l6,l7,l8,l9,l10,l11,l12,l13,l14,l15,l16,l17,l18,.val (.int (v + 1)),l20,l21,l22,l23] st H Q:=w_iinc at_485 rfl (by decide) rfl
theorem m29_488 : M29 488 ls st H Q = M29 399 ls st H Q:=w_x at_488 rfl
theorem m29_491 : M29 491 [l0,l1,l2,l3,.val (.ref r),l5,l6,l7,l8,l9,l10,l11,l12,l13,l14,l15,l16,l17,l18,l19,l20,l21,l22,l23] st H Q = M29 493 [l0,l1,l2,l3,.val (.ref r),l5,l6,l7,l8,l9,l10,l11,l12,l13,l14,l15,l16,l17,l18,l19,l20,l21,l22,l23] (.ref r::st) H Q:=w_x at_491 rfl
theorem m29_493 : M29 493 [l0,l1,l2,l3,l4,l5,l6,l7,l8,l9,l10,.val (.int v),l12,l13,l14,l15,l16,l17,l18,l19,l20,l21,l22,l23] st H Q = M29 495 [l0,l1,l2,l3,l4,l5,l6,l7,l8,l9,l10,.val (.int v),l12,l13,l14,l15,l16,l17,l18,l19,l20,l21,l22,l23] (.int v::st) H Q:=w_x at_493 rfl
theorem m29_495 : M29 495 [l0,l1,l2,l3,l4,l5,l6,l7,l8,l9,l10,.val (.int v),l12,l13,l14,l15,l16,l17,l18,l19,l20,l21,l22,l23] st H Q = M29 497 [l0,l1,l2,l3,l4,l5,l6,l7,l8,l9,l10,.val (.int v),l12,l13,l14,l15,l16,l17,l18,l19,l20,l21,l22,l23] (.int v::st) H Q:=w_x at_495 rfl
theorem m29_497 : M29 497 [l0,l1,l2,l3,l4,l5,l6,l7,l8,l9,l10,l11,.val (.int v),l13,l14,l15,l16,l17,l18,l19,l20,l21,l22,l23] st H Q = M29 499 [l0,l1,l2,l3,l4,l5,l6,l7,l8,l9,l10,l11,.val (.int v),l13,l14,l15,l16,l17,l18,l19,l20,l21,l22,l23] (.int v::st) H Q:=w_x at_497 rfl
theorem m29_499 : M29 499 ls (.int y::.int x::st) H Q = M29 500 ls (.int (x + y)::st) H Q:=w_x at_499 rfl
theorem m29_500 (a0 : Nat) (a1 : Int32) (a2 : Int32) : M29 500 ls [.int a2,.int a1,.ref a0] H Q = M28 0 [.val (.ref a0),.val (.int a1),.val (.int a2),.unset,.unset,.unset] [] H (fun v H1 => M29 503 ls (v.toList ++ []) H1 Q):=w_stat (as:=[.int a2,.int a1,.ref a0]) (rest:=[]) at_500 cr29_58 rfl (Nat.le_of_ble_eq_true rfl) (by show 3≤6; omega) rfl
theorem m29_503 : M29 503 [l0,l1,l2,l3,l4,l5,l6,l7,l8,l9,l10,l11,l12,l13,l14,l15,.val (.long J1),l17,l18,l19,l20,l21,l22,l23] st H Q = M29 505 [l0,l1,l2,l3,l4,l5,l6,l7,l8,l9,l10,l11,l12,l13,l14,l15,.val (.long J1),l17,l18,l19,l20,l21,l22,l23] (.long J1::st) H Q:=w_x at_503 rfl
theorem m29_505 : M29 505 ls (.long J2::.long J1::st) H Q = M29 506 ls (.int (XT.cmpL J1 J2)::st) H Q:=w_x at_505 rfl
theorem m29_506 : M29 506 ls (.int x::st) H Q = if x = 0 then M29 511 ls st H Q else M29 509 ls st H Q:=w_if at_506 (z_eq x) rfl
theorem m29_509 : M29 509 ls st H Q = M29 510 ls (.int 0::st) H Q:=w_con at_509 rfl (by decide)
theorem m29_510 : M29 510 ls (.int z::st) H Q = Q (some (.int (nar .boolean z))) H:=w_iretN at_510 rfl (by simp)
theorem m29_511 : M29 511 ls st H Q = M29 165 ls st H Q:=w_x at_511 rfl
theorem m29_514 : M29 514 [l0,l1,l2,l3,.val (.ref r),l5,l6,l7,l8,l9,l10,l11,l12,l13,l14,l15,l16,l17,l18,l19,l20,l21,l22,l23] st H Q = M29 516 [l0,l1,l2,l3,.val (.ref r),l5,l6,l7,l8,l9,l10,l11,l12,l13,l14,l15,l16,l17,l18,l19,l20,l21,l22,l23] (.ref r::st) H Q:=w_x at_514 rfl
theorem m29_516 : M29 516 ls st H Q = M29 517 ls (.int 0::st) H Q:=w_con at_516 rfl (by decide)
theorem m29_517 (a0 : Int32) : M29 517 ls [.int a0,.ref (b + 1)] (put (b + 1) pre s A post) Q = M9 0 [.val (.ref (b + 1)),.val (.int a0)] [] (put (b + 1) pre s A post) (fun v H1 => M29 520 ls (v.toList ++ []) H1 Q):=w_virt (as:=[.int a0]) (rest:=[]) (a:=(b + 1)) at_517 cr29_43 put_o rfl rfl (Nat.le_of_ble_eq_true rfl) (by show 2≤2; omega) rfl
theorem m29_520u : M29 520 [l0,l1,l2,l3,l4,l5,l6,l7,l8,.unset,l10,l11,l12,l13,l14,l15,l16,l17,l18,l19,l20,l21,l22,l23] ((.int v)::st) H Q = M29 522 [l0,l1,l2,l3,l4,l5,l6,l7,l8,.val (.int v),l10,l11,l12,l13,l14,l15,l16,l17,l18,l19,l20,l21,l22,l23] st H Q:=w_st (i:=9) (p:=isI) at_520 rfl rfl rfl rfl rfl rfl
theorem m29_520i : M29 520 [l0,l1,l2,l3,l4,l5,l6,l7,l8,.val (.int z),l10,l11,l12,l13,l14,l15,l16,l17,l18,l19,l20,l21,l22,l23] ((.int v)::st) H Q = M29 522 [l0,l1,l2,l3,l4,l5,l6,l7,l8,.val (.int v),l10,l11,l12,l13,l14,l15,l16,l17,l18,l19,l20,l21,l22,l23] st H Q:=w_st (i:=9) (p:=isI) at_520 rfl rfl rfl rfl rfl rfl
theorem m29_520r : M29 520 [l0,l1,l2,l3,l4,l5,l6,l7,l8,.val (.ref q),l10,l11,l12,l13,l14,l15,l16,l17,l18,l19,l20,l21,l22,l23] ((.int v)::st) H Q = M29 522 [l0,l1,l2,l3,l4,l5,l6,l7,l8,.val (.int v),l10,l11,l12,l13,l14,l15,l16,l17,l18,l19,l20,l21,l22,l23] st H Q:=w_st (i:=9) (p:=isI) at_520 rfl rfl rfl rfl rfl rfl
theorem m29_520g (h : okS l9) : M29 520 [l0,l1,l2,l3,l4,l5,l6,l7,l8,l9,l10,l11,l12,l13,l14,l15,l16,l17,l18,l19,l20,l21,l22,l23] ((.int v)::st) H Q = M29 522 [l0,l1,l2,l3,l4,l5,l6,l7,l8,.val (.int v),l10,l11,l12,l13,l14,l15,l16,l17,l18,l19,l20,l21,l22,l23] st H Q:=by rcases h with rfl | ⟨z,rfl⟩ <;> first | exact m29_520u | exact m29_520i
theorem m29_522 : M29 522 [l0,l1,l2,l3,.val (.ref r),l5,l6,l7,l8,l9,l10,l11,l12,l13,l14,l15,l16,l17,l18,l19,l20,l21,l22,l23] st H Q = M29 524 [l0,l1,l2,l3,.val (.ref r),l5,l6,l7,l8,l9,l10,l11,l12,l13,l14,l15,l16,l17,l18,l19,l20,l21,l22,l23] (.ref r::st) H Q:=w_x at_522 rfl
theorem m29_524 : M29 524 ls st H Q = M29 526 ls (.int 6::st) H Q:=w_con at_524 rfl (by decide)
theorem m29_526 (a0 : Int32) : M29 526 ls [.int a0,.ref (b + 1)] (put (b + 1) pre s A post) Q = M9 0 [.val (.ref (b + 1)),.val (.int a0)] [] (put (b + 1) pre s A post) (fun v H1 => M29 529 ls (v.toList ++ []) H1 Q):=w_virt (as:=[.int a0]) (rest:=[]) (a:=(b + 1)) at_526 cr29_43 put_o rfl rfl (Nat.le_of_ble_eq_true rfl) (by show 2≤2; omega) rfl
theorem m29_529u : M29 529 [l0,l1,l2,l3,l4,l5,l6,l7,l8,l9,.unset,l11,l12,l13,l14,l15,l16,l17,l18,l19,l20,l21,l22,l23] ((.int v)::st) H Q = M29 531 [l0,l1,l2,l3,l4,l5,l6,l7,l8,l9,.val (.int v),l11,l12,l13,l14,l15,l16,l17,l18,l19,l20,l21,l22,l23] st H Q:=w_st (i:=10) (p:=isI) at_529 rfl rfl rfl rfl rfl rfl
theorem m29_529i : M29 529 [l0,l1,l2,l3,l4,l5,l6,l7,l8,l9,.val (.int z),l11,l12,l13,l14,l15,l16,l17,l18,l19,l20,l21,l22,l23] ((.int v)::st) H Q = M29 531 [l0,l1,l2,l3,l4,l5,l6,l7,l8,l9,.val (.int v),l11,l12,l13,l14,l15,l16,l17,l18,l19,l20,l21,l22,l23] st H Q:=w_st (i:=10) (p:=isI) at_529 rfl rfl rfl rfl rfl rfl
theorem m29_529r : M29 529 [l0,l1,l2,l3,l4,l5,l6,l7,l8,l9,.val (.ref q),l11,l12,l13,l14,l15,l16,l17,l18,l19,l20,l21,l22,l23] ((.int v)::st) H Q = M29 531 [l0,l1,l2,l3,l4,l5,l6,l7,l8,l9,.val (.int v),l11,l12,l13,l14,l15,l16,l17,l18,l19,l20,l21,l22,l23] st H Q:=w_st (i:=10) (p:=isI) at_529 rfl rfl rfl rfl rfl rfl
theorem m29_529g (h : okS l10) : M29 529 [l0,l1,l2,l3,l4,l5,l6,l7,l8,l9,l10,l11,l12,l13,l14,l15,l16,l17,l18,l19,l20,l21,l22,l23] ((.int v)::st) H Q = M29 531 [l0,l1,l2,l3,l4,l5,l6,l7,l8,l9,.val (.int v),l11,l12,l13,l14,l15,l16,l17,l18,l19,l20,l21,l22,l23] st H Q:=by rcases h with rfl | ⟨z,rfl⟩ <;> first | exact m29_529u | exact m29_529i
theorem m29_531 : M29 531 [l0,l1,l2,l3,.val (.ref r),l5,l6,l7,l8,l9,l10,l11,l12,l13,l14,l15,l16,l17,l18,l19,l20,l21,l22,l23] st H Q = M29 533 [l0,l1,l2,l3,.val (.ref r),l5,l6,l7,l8,l9,l10,l11,l12,l13,l14,l15,l16,l17,l18,l19,l20,l21,l22,l23] (.ref r::st) H Q:=w_x at_531 rfl
theorem m29_533 : M29 533 ls st H Q = M29 534 ls (.int 5::st) H Q:=w_con at_533 rfl (by decide)
theorem m29_534 (a0 : Int32) : M29 534 ls [.int a0,.ref (b + 1)] (put (b + 1) pre s A post) Q = M9 0 [.val (.ref (b + 1)),.val (.int a0)] [] (put (b + 1) pre s A post) (fun v H1 => M29 537 ls (v.toList ++ []) H1 Q):=w_virt (as:=[.int a0]) (rest:=[]) (a:=(b + 1)) at_534 cr29_43 put_o rfl rfl (Nat.le_of_ble_eq_true rfl) (by show 2≤2; omega) rfl
theorem m29_537u : M29 537 [l0,l1,l2,l3,l4,l5,l6,l7,l8,l9,l10,.unset,l12,l13,l14,l15,l16,l17,l18,l19,l20,l21,l22,l23] ((.int v)::st) H Q = M29 539 [l0,l1,l2,l3,l4,l5,l6,l7,l8,l9,l10,.val (.int v),l12,l13,l14,l15,l16,l17,l18,l19,l20,l21,l22,l23] st H Q:=w_st (i:=11) (p:=isI) at_537 rfl rfl rfl rfl rfl rfl
theorem m29_537i : M29 537 [l0,l1,l2,l3,l4,l5,l6,l7,l8,l9,l10,.val (.int z),l12,l13,l14,l15,l16,l17,l18,l19,l20,l21,l22,l23] ((.int v)::st) H Q = M29 539 [l0,l1,l2,l3,l4,l5,l6,l7,l8,l9,l10,.val (.int v),l12,l13,l14,l15,l16,l17,l18,l19,l20,l21,l22,l23] st H Q:=w_st (i:=11) (p:=isI) at_537 rfl rfl rfl rfl rfl rfl
theorem m29_537r : M29 537 [l0,l1,l2,l3,l4,l5,l6,l7,l8,l9,l10,.val (.ref q),l12,l13,l14,l15,l16,l17,l18,l19,l20,l21,l22,l23] ((.int v)::st) H Q = M29 539 [l0,l1,l2,l3,l4,l5,l6,l7,l8,l9,l10,.val (.int v),l12,l13,l14,l15,l16,l17,l18,l19,l20,l21,l22,l23] st H Q:=w_st (i:=11) (p:=isI) at_537 rfl rfl rfl rfl rfl rfl
theorem m29_537g (h : okS l11) : M29 537 [l0,l1,l2,l3,l4,l5,l6,l7,l8,l9,l10,l11,l12,l13,l14,l15,l16,l17,l18,l19,l20,l21,l22,l23] ((.int v)::st) H Q = M29 539 [l0,l1,l2,l3,l4,l5,l6,l7,l8,l9,l10,.val (.int v),l12,l13,l14,l15,l16,l17,l18,l19,l20,l21,l22,l23] st H Q:=by rcases h with rfl | ⟨z,rfl⟩ <;> first | exact m29_537u | exact m29_537i
theorem m29_539 : M29 539 ls st H Q = M29 540 ls (.int 0::st) H Q:=w_con at_539 rfl (by decide)
theorem m29_540u : M29 540 [l0,l1,l2,l3,l4,l5,l6,l7,l8,l9,l10,l11,.unset,l13,l14,l15,l16,l17,l18,l19,l20,l21,l22,l23] ((.int v)::st) H Q = M29 542 [l0,l1,l2,l3,l4,l5,l6,l7,l8,l9,l10,l11,.val (.int v),l13,l14,l15,l16,l17,l18,l19,l20,l21,l22,l23] st H Q:=w_st (i:=12) (p:=isI) at_540 rfl rfl rfl rfl rfl rfl
theorem m29_540i : M29 540 [l0,l1,l2,l3,l4,l5,l6,l7,l8,l9,l10,l11,.val (.int z),l13,l14,l15,l16,l17,l18,l19,l20,l21,l22,l23] ((.int v)::st) H Q = M29 542 [l0,l1,l2,l3,l4,l5,l6,l7,l8,l9,l10,l11,.val (.int v),l13,l14,l15,l16,l17,l18,l19,l20,l21,l22,l23] st H Q:=w_st (i:=12) (p:=isI) at_540 rfl rfl rfl rfl rfl rfl
theorem m29_540r : M29 540 [l0,l1,l2,l3,l4,l5,l6,l7,l8,l9,l10,l11,.val (.ref q),l13,l14,l15,l16,l17,l18,l19,l20,l21,l22,l23] ((.int v)::st) H Q = M29 542 [l0,l1,l2,l3,l4,l5,l6,l7,l8,l9,l10,l11,.val (.int v),l13,l14,l15,l16,l17,l18,l19,l20,l21,l22,l23] st H Q:=w_st (i:=12) (p:=isI) at_540 rfl rfl rfl rfl rfl rfl
theorem m29_540g (h : okS l12) : M29 540 [l0,l1,l2,l3,l4,l5,l6,l7,l8,l9,l10,l11,l12,l13,l14,l15,l16,l17,l18,l19,l20,l21,l22,l23] ((.int v)::st) H Q = M29 542 [l0,l1,l2,l3,l4,l5,l6,l7,l8,l9,l10,l11,.val (.int v),l13,l14,l15,l16,l17,l18,l19,l20,l21,l22,l23] st H Q:=by rcases h with rfl | ⟨z,rfl⟩ <;> first | exact m29_540u | exact m29_540i
theorem m29_542 : M29 542 ls st H Q = M29 543 ls (.int 0::st) H Q:=w_con at_542 rfl (by decide)
theorem m29_543u : M29 543 [l0,l1,l2,l3,l4,l5,l6,l7,l8,l9,l10,l11,l12,.unset,l14,l15,l16,l17,l18,l19,l20,l21,l22,l23] ((.int v)::st) H Q = M29 545 [l0,l1,l2,l3,l4,l5,l6,l7,l8,l9,l10,l11,l12,.val (.int v),l14,l15,l16,l17,l18,l19,l20,l21,l22,l23] st H Q:=w_st (i:=13) (p:=isI) at_543 rfl rfl rfl rfl rfl rfl
theorem m29_543i : M29 543 [l0,l1,l2,l3,l4,l5,l6,l7,l8,l9,l10,l11,l12,.val (.int z),l14,l15,l16,l17,l18,l19,l20,l21,l22,l23] ((.int v)::st) H Q = M29 545 [l0,l1,l2,l3,l4,l5,l6,l7,l8,l9,l10,l11,l12,.val (.int v),l14,l15,l16,l17,l18,l19,l20,l21,l22,l23] st H Q:=w_st (i:=13) (p:=isI) at_543 rfl rfl rfl rfl rfl rfl
theorem m29_543r : M29 543 [l0,l1,l2,l3,l4,l5,l6,l7,l8,l9,l10,l11,l12,.val (.ref q),l14,l15,l16,l17,l18,l19,l20,l21,l22,l23] ((.int v)::st) H Q = M29 545 [l0,l1,l2,l3,l4,l5,l6,l7,l8,l9,l10,l11,l12,.val (.int v),l14,l15,l16,l17,l18,l19,l20,l21,l22,l23] st H Q:=w_st (i:=13) (p:=isI) at_543 rfl rfl rfl rfl rfl rfl
theorem m29_543g (h : okS l13) : M29 543 [l0,l1,l2,l3,l4,l5,l6,l7,l8,l9,l10,l11,l12,l13,l14,l15,l16,l17,l18,l19,l20,l21,l22,l23] ((.int v)::st) H Q = M29 545 [l0,l1,l2,l3,l4,l5,l6,l7,l8,l9,l10,l11,l12,.val (.int v),l14,l15,l16,l17,l18,l19,l20,l21,l22,l23] st H Q:=by rcases h with rfl | ⟨z,rfl⟩ <;> first | exact m29_543u | exact m29_543i
theorem m29_545 : M29 545 [l0,l1,l2,l3,l4,l5,l6,l7,l8,l9,l10,l11,l12,.val (.int v),l14,l15,l16,l17,l18,l19,l20,l21,l22,l23] st H Q = M29 547 [l0,l1,l2,l3,l4,l5,l6,l7,l8,l9,l10,l11,l12,.val (.int v),l14,l15,l16,l17,l18,l19,l20,l21,l22,l23] (.int v::st) H Q:=w_x at_545 rfl
theorem m29_547 : M29 547 [l0,l1,l2,l3,l4,l5,l6,l7,l8,.val (.int v),l10,l11,l12,l13,l14,l15,l16,l17,l18,l19,l20,l21,l22,l23] st H Q = M29 549 [l0,l1,l2,l3,l4,l5,l6,l7,l8,.val (.int v),l10,l11,l12,l13,l14,l15,l16,l17,l18,l19,l20,l21,l22,l23] (.int v::st) H Q:=w_x at_547 rfl
theorem m29_549 : M29 549 ls (.int y::.int x::st) H Q = if x < y then M29 552 ls st H Q else M29 690 ls st H Q:=w_icmpN at_549 (i_ge x y) rfl
theorem m29_552 : M29 552 ls st H Q = M29 553 ls (.int 0::st) H Q:=w_con at_552 rfl (by decide)
theorem m29_553u : M29 553 [l0,l1,l2,l3,l4,l5,l6,l7,l8,l9,l10,l11,l12,l13,.unset,l15,l16,l17,l18,l19,l20,l21,l22,l23] ((.int v)::st) H Q = M29 555 [l0,l1,l2,l3,l4,l5,l6,l7,l8,l9,l10,l11,l12,l13,.val (.int v),l15,l16,l17,l18,l19,l20,l21,l22,l23] st H Q:=w_st (i:=14) (p:=isI) at_553 rfl rfl rfl rfl rfl rfl
theorem m29_553i : M29 553 [l0,l1,l2,l3,l4,l5,l6,l7,l8,l9,l10,l11,l12,l13,.val (.int z),l15,l16,l17,l18,l19,l20,l21,l22,l23] ((.int v)::st) H Q = M29 555 [l0,l1,l2,l3,l4,l5,l6,l7,l8,l9,l10,l11,l12,l13,.val (.int v),l15,l16,l17,l18,l19,l20,l21,l22,l23] st H Q:=w_st (i:=14) (p:=isI) at_553 rfl rfl rfl rfl rfl rfl
theorem m29_553r : M29 553 [l0,l1,l2,l3,l4,l5,l6,l7,l8,l9,l10,l11,l12,l13,.val (.ref q),l15,l16,l17,l18,l19,l20,l21,l22,l23] ((.int v)::st) H Q = M29 555 [l0,l1,l2,l3,l4,l5,l6,l7,l8,l9,l10,l11,l12,l13,.val (.int v),l15,l16,l17,l18,l19,l20,l21,l22,l23] st H Q:=w_st (i:=14) (p:=isI) at_553 rfl rfl rfl rfl rfl rfl
theorem m29_553g (h : okS l14) : M29 553 [l0,l1,l2,l3,l4,l5,l6,l7,l8,l9,l10,l11,l12,l13,l14,l15,l16,l17,l18,l19,l20,l21,l22,l23] ((.int v)::st) H Q = M29 555 [l0,l1,l2,l3,l4,l5,l6,l7,l8,l9,l10,l11,l12,l13,.val (.int v),l15,l16,l17,l18,l19,l20,l21,l22,l23] st H Q:=by rcases h with rfl | ⟨z,rfl⟩ <;> first | exact m29_553u | exact m29_553i
theorem m29_555 : M29 555 [l0,l1,l2,l3,l4,l5,l6,l7,l8,l9,l10,l11,l12,l13,.val (.int v),l15,l16,l17,l18,l19,l20,l21,l22,l23] st H Q = M29 557 [l0,l1,l2,l3,l4,l5,l6,l7,l8,l9,l10,l11,l12,l13,.val (.int v),l15,l16,l17,l18,l19,l20,l21,l22,l23] (.int v::st) H Q:=w_x at_555 rfl
theorem m29_557 : M29 557 [l0,l1,l2,l3,l4,l5,l6,l7,l8,l9,.val (.int v),l11,l12,l13,l14,l15,l16,l17,l18,l19,l20,l21,l22,l23] st H Q = M29 559 [l0,l1,l2,l3,l4,l5,l6,l7,l8,l9,.val (.int v),l11,l12,l13,l14,l15,l16,l17,l18,l19,l20,l21,l22,l23] (.int v::st) H Q:=w_x at_557 rfl
theorem m29_559 : M29 559 ls (.int y::.int x::st) H Q = if x < y then M29 562 ls st H Q else M29 684 ls st H Q:=w_icmpN at_559 (i_ge x y) rfl
theorem m29_562 : M29 562 [l0,l1,l2,l3,.val (.ref r),l5,l6,l7,l8,l9,l10,l11,l12,l13,l14,l15,l16,l17,l18,l19,l20,l21,l22,l23] st H Q = M29 564 [l0,l1,l2,l3,.val (.ref r),l5,l6,l7,l8,l9,l10,l11,l12,l13,l14,l15,l16,l17,l18,l19,l20,l21,l22,l23] (.ref r::st) H Q:=w_x at_562 rfl
theorem m29_564 : M29 564 [l0,l1,l2,l3,l4,l5,l6,l7,l8,l9,l10,l11,l12,l13,.val (.int v),l15,l16,l17,l18,l19,l20,l21,l22,l23] st H Q = M29 566 [l0,l1,l2,l3,l4,l5,l6,l7,l8,l9,l10,l11,l12,l13,.val (.int v),l15,l16,l17,l18,l19,l20,l21,l22,l23] (.int v::st) H Q:=w_x at_564 rfl
theorem cr29_65 : vR tables_1 dn y29 65 = some (false,y18,prog_1_method_18_code,2,(some .int),1,35):=vR_of (cR_of (by decide +kernel) rc_18 dn_18 dn_29 (sig:=⟨[.int],some .int⟩) (by decide +kernel) (by decide +kernel) rfl rfl) (by decide +kernel) (by decide +kernel) (by decide +kernel)
theorem m29_566 (a0 : Int32) : M29 566 ls [.int a0,.ref (b + 1)] (put (b + 1) pre s A post) Q = M18 0 [.val (.ref (b + 1)),.val (.int a0)] [] (put (b + 1) pre s A post) (fun v H1 => M29 569 ls (v.toList ++ []) H1 Q):=w_virt (as:=[.int a0]) (rest:=[]) (a:=(b + 1)) at_566 cr29_65 put_o rfl rfl (Nat.le_of_ble_eq_true rfl) (by show 2≤2; omega) rfl
theorem m29_569u : M29 569 [l0,l1,l2,l3,l4,l5,l6,l7,l8,l9,l10,l11,l12,l13,l14,.unset,l16,l17,l18,l19,l20,l21,l22,l23] ((.int v)::st) H Q = M29 571 [l0,l1,l2,l3,l4,l5,l6,l7,l8,l9,l10,l11,l12,l13,l14,.val (.int v),l16,l17,l18,l19,l20,l21,l22,l23] st H Q:=w_st (i:=15) (p:=isI) at_569 rfl rfl rfl rfl rfl rfl
theorem m29_569i : M29 569 [l0,l1,l2,l3,l4,l5,l6,l7,l8,l9,l10,l11,l12,l13,l14,.val (.int z),l16,l17,l18,l19,l20,l21,l22,l23] ((.int v)::st) H Q = M29 571 [l0,l1,l2,l3,l4,l5,l6,l7,l8,l9,l10,l11,l12,l13,l14,.val (.int v),l16,l17,l18,l19,l20,l21,l22,l23] st H Q:=w_st (i:=15) (p:=isI) at_569 rfl rfl rfl rfl rfl rfl
theorem m29_569r : M29 569 [l0,l1,l2,l3,l4,l5,l6,l7,l8,l9,l10,l11,l12,l13,l14,.val (.ref q),l16,l17,l18,l19,l20,l21,l22,l23] ((.int v)::st) H Q = M29 571 [l0,l1,l2,l3,l4,l5,l6,l7,l8,l9,l10,l11,l12,l13,l14,.val (.int v),l16,l17,l18,l19,l20,l21,l22,l23] st H Q:=w_st (i:=15) (p:=isI) at_569 rfl rfl rfl rfl rfl rfl
theorem m29_569g (h : okS l15) : M29 569 [l0,l1,l2,l3,l4,l5,l6,l7,l8,l9,l10,l11,l12,l13,l14,l15,l16,l17,l18,l19,l20,l21,l22,l23] ((.int v)::st) H Q = M29 571 [l0,l1,l2,l3,l4,l5,l6,l7,l8,l9,l10,l11,l12,l13,l14,.val (.int v),l16,l17,l18,l19,l20,l21,l22,l23] st H Q:=by rcases h with rfl | ⟨z,rfl⟩ <;> first | exact m29_569u | exact m29_569i
theorem m29_571 : M29 571 [l0,l1,l2,l3,l4,l5,l6,l7,l8,l9,l10,l11,l12,l13,l14,.val (.int v),l16,l17,l18,l19,l20,l21,l22,l23] st H Q = M29 573 [l0,l1,l2,l3,l4,l5,l6,l7,l8,l9,l10,l11,l12,l13,l14,.val (.int v),l16,l17,l18,l19,l20,l21,l22,l23] (.int v::st) H Q:=w_x at_571 rfl
theorem m29_573 : M29 573 [l0,l1,l2,l3,l4,l5,l6,l7,l8,l9,l10,l11,l12,.val (.int v),l14,l15,l16,l17,l18,l19,l20,l21,l22,l23] st H Q = M29 575 [l0,l1,l2,l3,l4,l5,l6,l7,l8,l9,l10,l11,l12,.val (.int v),l14,l15,l16,l17,l18,l19,l20,l21,l22,l23] (.int v::st) H Q:=w_x at_573 rfl
theorem m29_575 : M29 575 ls st H Q = M29 576 ls (.int 1::st) H Q:=w_con at_575 rfl (by decide)
theorem m29_576 : M29 576 ls (.int y::.int x::st) H Q = M29 577 ls (.int (x + y)::st) H Q:=w_x at_576 rfl
theorem m29_577 : M29 577 ls (.int y::.int x::st) H Q = if y < x then M29 580 ls st H Q else M29 583 ls st H Q:=w_icmpN at_577 (i_le x y) rfl
theorem m29_580 : M29 580 ls st H Q = M29 678 ls st H Q:=w_x at_580 rfl
theorem m29_583 : M29 583 ls st H Q = M29 584 ls (.int 1::st) H Q:=w_con at_583 rfl (by decide)
theorem m29_584u : M29 584 [l0,l1,l2,l3,l4,l5,l6,l7,l8,l9,l10,l11,l12,l13,l14,l15,.unset,l17,l18,l19,l20,l21,l22,l23] ((.int v)::st) H Q = M29 586 [l0,l1,l2,l3,l4,l5,l6,l7,l8,l9,l10,l11,l12,l13,l14,l15,.val (.int v),l17,l18,l19,l20,l21,l22,l23] st H Q:=w_st (i:=16) (p:=isI) at_584 rfl rfl rfl rfl rfl rfl
theorem m29_584i : M29 584 [l0,l1,l2,l3,l4,l5,l6,l7,l8,l9,l10,l11,l12,l13,l14,l15,.val (.int z),l17,l18,l19,l20,l21,l22,l23] ((.int v)::st) H Q = M29 586 [l0,l1,l2,l3,l4,l5,l6,l7,l8,l9,l10,l11,l12,l13,l14,l15,.val (.int v),l17,l18,l19,l20,l21,l22,l23] st H Q:=w_st (i:=16) (p:=isI) at_584 rfl rfl rfl rfl rfl rfl
theorem m29_584r : M29 584 [l0,l1,l2,l3,l4,l5,l6,l7,l8,l9,l10,l11,l12,l13,l14,l15,.val (.ref q),l17,l18,l19,l20,l21,l22,l23] ((.int v)::st) H Q = M29 586 [l0,l1,l2,l3,l4,l5,l6,l7,l8,l9,l10,l11,l12,l13,l14,l15,.val (.int v),l17,l18,l19,l20,l21,l22,l23] st H Q:=w_st (i:=16) (p:=isI) at_584 rfl rfl rfl rfl rfl rfl
theorem m29_584g (h : okS l16) : M29 584 [l0,l1,l2,l3,l4,l5,l6,l7,l8,l9,l10,l11,l12,l13,l14,l15,l16,l17,l18,l19,l20,l21,l22,l23] ((.int v)::st) H Q = M29 586 [l0,l1,l2,l3,l4,l5,l6,l7,l8,l9,l10,l11,l12,l13,l14,l15,.val (.int v),l17,l18,l19,l20,l21,l22,l23] st H Q:=by rcases h with rfl | ⟨z,rfl⟩ <;> first | exact m29_584u | exact m29_584i
theorem m29_586 : M29 586 ls st H Q = M29 587 ls (.int 0::st) H Q:=w_con at_586 rfl (by decide)
theorem m29_587u : M29 587 [l0,l1,l2,l3,l4,l5,l6,l7,l8,l9,l10,l11,l12,l13,l14,l15,l16,.unset,l18,l19,l20,l21,l22,l23] ((.int v)::st) H Q = M29 589 [l0,l1,l2,l3,l4,l5,l6,l7,l8,l9,l10,l11,l12,l13,l14,l15,l16,.val (.int v),l18,l19,l20,l21,l22,l23] st H Q:=w_st (i:=17) (p:=isI) at_587 rfl rfl rfl rfl rfl rfl
theorem m29_587i : M29 587 [l0,l1,l2,l3,l4,l5,l6,l7,l8,l9,l10,l11,l12,l13,l14,l15,l16,.val (.int z),l18,l19,l20,l21,l22,l23] ((.int v)::st) H Q = M29 589 [l0,l1,l2,l3,l4,l5,l6,l7,l8,l9,l10,l11,l12,l13,l14,l15,l16,.val (.int v),l18,l19,l20,l21,l22,l23] st H Q:=w_st (i:=17) (p:=isI) at_587 rfl rfl rfl rfl rfl rfl
theorem m29_587r : M29 587 [l0,l1,l2,l3,l4,l5,l6,l7,l8,l9,l10,l11,l12,l13,l14,l15,l16,.val (.ref q),l18,l19,l20,l21,l22,l23] ((.int v)::st) H Q = M29 589 [l0,l1,l2,l3,l4,l5,l6,l7,l8,l9,l10,l11,l12,l13,l14,l15,l16,.val (.int v),l18,l19,l20,l21,l22,l23] st H Q:=w_st (i:=17) (p:=isI) at_587 rfl rfl rfl rfl rfl rfl
theorem m29_587g (h : okS l17) : M29 587 [l0,l1,l2,l3,l4,l5,l6,l7,l8,l9,l10,l11,l12,l13,l14,l15,l16,l17,l18,l19,l20,l21,l22,l23] ((.int v)::st) H Q = M29 589 [l0,l1,l2,l3,l4,l5,l6,l7,l8,l9,l10,l11,l12,l13,l14,l15,l16,.val (.int v),l18,l19,l20,l21,l22,l23] st H Q:=by rcases h with rfl | ⟨z,rfl⟩ <;> first | exact m29_587u | exact m29_587i
theorem m29_589 : M29 589 [l0,l1,l2,l3,l4,l5,l6,l7,l8,l9,l10,l11,l12,l13,l14,l15,l16,.val (.int v),l18,l19,l20,l21,l22,l23] st H Q = M29 591 [l0,l1,l2,l3,l4,l5,l6,l7,l8,l9,l10,l11,l12,l13,l14,l15,l16,.val (.int v),l18,l19,l20,l21,l22,l23] (.int v::st) H Q:=w_x at_589 rfl
theorem m29_591 : M29 591 [l0,l1,l2,l3,l4,l5,l6,l7,l8,l9,l10,l11,l12,l13,l14,.val (.int v),l16,l17,l18,l19,l20,l21,l22,l23] st H Q = M29 593 [l0,l1,l2,l3,l4,l5,l6,l7,l8,l9,l10,l11,l12,l13,l14,.val (.int v),l16,l17,l18,l19,l20,l21,l22,l23] (.int v::st) H Q:=w_x at_591 rfl
theorem m29_593 : M29 593 ls (.int y::.int x::st) H Q = if x < y then M29 596 ls st H Q else M29 637 ls st H Q:=w_icmpN at_593 (i_ge x y) rfl
theorem m29_596 : M29 596 [l0,l1,l2,l3,l4,l5,l6,l7,l8,l9,l10,l11,l12,l13,l14,l15,.val (.int v),l17,l18,l19,l20,l21,l22,l23] st H Q = M29 598 [l0,l1,l2,l3,l4,l5,l6,l7,l8,l9,l10,l11,l12,l13,l14,l15,.val (.int v),l17,l18,l19,l20,l21,l22,l23] (.int v::st) H Q:=w_x at_596 rfl
theorem m29_598 : M29 598 ls (.int x::st) H Q = if x = 0 then M29 637 ls st H Q else M29 601 ls st H Q:=w_if at_598 (z_eq x) rfl
theorem m29_601 : M29 601 [l0,l1,l2,l3,.val (.ref r),l5,l6,l7,l8,l9,l10,l11,l12,l13,l14,l15,l16,l17,l18,l19,l20,l21,l22,l23] st H Q = M29 603 [l0,l1,l2,l3,.val (.ref r),l5,l6,l7,l8,l9,l10,l11,l12,l13,l14,l15,l16,l17,l18,l19,l20,l21,l22,l23] (.ref r::st) H Q:=w_x at_601 rfl
theorem m29_603 : M29 603 [l0,l1,l2,l3,l4,l5,l6,l7,l8,l9,l10,l11,l12,.val (.int v),l14,l15,l16,l17,l18,l19,l20,l21,l22,l23] st H Q = M29 605 [l0,l1,l2,l3,l4,l5,l6,l7,l8,l9,l10,l11,l12,.val (.int v),l14,l15,l16,l17,l18,l19,l20,l21,l22,l23] (.int v::st) H Q:=w_x at_603 rfl
theorem m29_605 : M29 605 [l0,l1,l2,l3,l4,l5,l6,l7,l8,l9,l10,l11,l12,l13,l14,.val (.int v),l16,l17,l18,l19,l20,l21,l22,l23] st H Q = M29 607 [l0,l1,l2,l3,l4,l5,l6,l7,l8,l9,l10,l11,l12,l13,l14,.val (.int v),l16,l17,l18,l19,l20,l21,l22,l23] (.int v::st) H Q:=w_x at_605 rfl
theorem m29_607 : M29 607 ls (.int y::.int x::st) H Q = M29 608 ls (.int (x - y)::st) H Q:=w_x at_607 rfl
theorem m29_608 : M29 608 ls st H Q = M29 609 ls (.int 1::st) H Q:=w_con at_608 rfl (by decide)
theorem m29_609 : M29 609 ls (.int y::.int x::st) H Q = M29 610 ls (.int (x + y)::st) H Q:=w_x at_609 rfl
theorem m29_610 : M29 610 [l0,l1,l2,l3,l4,l5,l6,l7,l8,l9,l10,l11,l12,l13,l14,l15,l16,.val (.int v),l18,l19,l20,l21,l22,l23] st H Q = M29 612 [l0,l1,l2,l3,l4,l5,l6,l7,l8,l9,l10,l11,l12,l13,l14,l15,l16,.val (.int v),l18,l19,l20,l21,l22,l23] (.int v::st) H Q:=w_x at_610 rfl
theorem m29_612 : M29 612 ls (.int y::.int x::st) H Q = M29 613 ls (.int (x + y)::st) H Q:=w_x at_612 rfl
theorem m29_613 (a0 : Int32) : M29 613 ls [.int a0,.ref (b + 1)] (put (b + 1) pre s A post) Q = M12 0 [.val (.ref (b + 1)),.val (.int a0)] [] (put (b + 1) pre s A post) (fun v H1 => M29 616 ls (v.toList ++ []) H1 Q):=w_virt (as:=[.int a0]) (rest:=[]) (a:=(b + 1)) at_613 cr29_13 put_o rfl rfl (Nat.le_of_ble_eq_true rfl) (by show 2≤2; omega) rfl
theorem m29_616 : M29 616 [l0,l1,l2,l3,.val (.ref r),l5,l6,l7,l8,l9,l10,l11,l12,l13,l14,l15,l16,l17,l18,l19,l20,l21,l22,l23] st H Q = M29 618 [l0,l1,l2,l3,.val (.ref r),l5,l6,l7,l8,l9,l10,l11,l12,l13,l14,l15,l16,l17,l18,l19,l20,l21,l22,l23] (.ref r::st) H Q:=w_x at_616 rfl
theorem m29_618 : M29 618 [l0,l1,l2,l3,l4,l5,l6,l7,l8,l9,l10,l11,l12,l13,.val (.int v),l15,l16,l17,l18,l19,l20,l21,l22,l23] st H Q = M29 620 [l0,l1,l2,l3,l4,l5,l6,l7,l8,l9,l10,l11,l12,l13,.val (.int v),l15,l16,l17,l18,l19,l20,l21,l22,l23] (.int v::st) H Q:=w_x at_618 rfl
theorem m29_620 : M29 620 [l0,l1,l2,l3,l4,l5,l6,l7,l8,l9,l10,l11,l12,l13,l14,l15,l16,.val (.int v),l18,l19,l20,l21,l22,l23] st H Q = M29 622 [l0,l1,l2,l3,l4,l5,l6,l7,l8,l9,l10,l11,l12,l13,l14,l15,l16,.val (.int v),l18,l19,l20,l21,l22,l23] (.int v::st) H Q:=w_x at_620 rfl
theorem cr29_68 : vR tables_1 dn y29 68 = some (false,y20,prog_1_method_19_code,4,(some .int),2,33):=vR_of (cR_of (by decide +kernel) rc_20 dn_20 dn_29 (sig:=⟨[.int,.int],some .int⟩) (by decide +kernel) (by decide +kernel) rfl rfl) (by decide +kernel) (by decide +kernel) (by decide +kernel)
theorem m29_622 (a0 : Int32) (a1 : Int32) (u0 : Int32) : M29 622 ls [.int a1,.int a0,.ref (b + 1),.int u0] (put (b + 1) pre s A post) Q = M20 0 [.val (.ref (b + 1)),.val (.int a0),.val (.int a1),.unset] [] (put (b + 1) pre s A post) (fun v H1 => M29 625 ls (v.toList ++ [.int u0]) H1 Q):=w_virt (as:=[.int a1,.int a0]) (rest:=[.int u0]) (a:=(b + 1)) at_622 cr29_68 put_o rfl rfl (Nat.le_of_ble_eq_true rfl) (by show 3≤4; omega) rfl
theorem m29_625 : M29 625 ls (.int y::.int x::st) H Q = if x = y then M29 631 ls st H Q else M29 628 ls st H Q:=w_icmp at_625 (i_eq x y) rfl
theorem m29_628 : M29 628 ls st H Q = M29 629 ls (.int 0::st) H Q:=w_con at_628 rfl (by decide)
theorem m29_629i : M29 629 [l0,l1,l2,l3,l4,l5,l6,l7,l8,l9,l10,l11,l12,l13,l14,l15,.val (.int z),l17,l18,l19,l20,l21,l22,l23] ((.int v)::st) H Q = M29 631 [l0,l1,l2,l3,l4,l5,l6,l7,l8,l9,l10,l11,l12,l13,l14,l15,.val (.int v),l17,l18,l19,l20,l21,l22,l23] st H Q:=w_st (i:=16) (p:=isI) at_629 rfl rfl rfl rfl rfl rfl
theorem m29_631 : M29 631 [l0,l1,l2,l3,l4,l5,l6,l7,l8,l9,l10,l11,l12,l13,l14,l15,l16,.val (.int v),l18,l19,l20,l21,l22,l23] st H Q = M29 634 [l0,l1,l2,l3,l4,l5,l6,l7,l8,l9,l10,l11,l12,l13,l14,l15,l16,.val (.int (v + 1)),l18,l19,l20,l21,l22,l23] st H Q:=w_iinc at_631 rfl (by decide) rfl
theorem m29_634 : M29 634 ls st H Q = M29 589 ls st H Q:=w_x at_634 rfl
theorem m29_637 : M29 637 [l0,l1,l2,l3,l4,l5,l6,l7,l8,l9,l10,l11,l12,l13,l14,l15,.val (.int v),l17,l18,l19,l20,l21,l22,l23] st H Q = M29 639 [l0,l1,l2,l3,l4,l5,l6,l7,l8,l9,l10,l11,l12,l13,l14,l15,.val (.int v),l17,l18,l19,l20,l21,l22,l23] (.int v::st) H Q:=w_x at_637 rfl
theorem m29_639 : M29 639 ls (.int x::st) H Q = if x = 0 then M29 678 ls st H Q else M29 642 ls st H Q:=w_if at_639 (z_eq x) rfl
theorem m29_642 : M29 642 [l0,l1,l2,l3,l4,l5,l6,l7,l8,l9,l10,l11,.val (.int v),l13,l14,l15,l16,l17,l18,l19,l20,l21,l22,l23] st H Q = M29 644 [l0,l1,l2,l3,l4,l5,l6,l7,l8,l9,l10,l11,.val (.int v),l13,l14,l15,l16,l17,l18,l19,l20,l21,l22,l23] (.int v::st) H Q:=w_x at_642 rfl
theorem m29_644 : M29 644 ls st H Q = M29 646 ls (.int 64::st) H Q:=w_con at_644 rfl (by decide)
theorem m29_646 : M29 646 ls (.int y::.int x::st) H Q = if x < y then M29 649 ls st H Q else M29 675 ls st H Q:=w_icmpN at_646 (i_ge x y) rfl
theorem m29_649 : M29 649 [l0,l1,l2,l3,.val (.ref r),l5,l6,l7,l8,l9,l10,l11,l12,l13,l14,l15,l16,l17,l18,l19,l20,l21,l22,l23] st H Q = M29 651 [l0,l1,l2,l3,.val (.ref r),l5,l6,l7,l8,l9,l10,l11,l12,l13,l14,l15,l16,l17,l18,l19,l20,l21,l22,l23] (.ref r::st) H Q:=w_x at_649 rfl
theorem m29_651 : M29 651 [l0,l1,l2,l3,l4,l5,l6,l7,l8,l9,l10,l11,.val (.int v),l13,l14,l15,l16,l17,l18,l19,l20,l21,l22,l23] st H Q = M29 653 [l0,l1,l2,l3,l4,l5,l6,l7,l8,l9,l10,l11,.val (.int v),l13,l14,l15,l16,l17,l18,l19,l20,l21,l22,l23] (.int v::st) H Q:=w_x at_651 rfl
theorem cr29_71 : vR tables_1 dn y29 71 = some (false,y22,prog_1_method_20_code,2,(some .int),1,34):=vR_of (cR_of (by decide +kernel) rc_22 dn_22 dn_29 (sig:=⟨[.int],some .int⟩) (by decide +kernel) (by decide +kernel) rfl rfl) (by decide +kernel) (by decide +kernel) (by decide +kernel)
theorem m29_653 (a0 : Int32) : M29 653 ls [.int a0,.ref (b + 1)] (put (b + 1) pre s A post) Q = M22 0 [.val (.ref (b + 1)),.val (.int a0)] [] (put (b + 1) pre s A post) (fun v H1 => M29 656 ls (v.toList ++ []) H1 Q):=w_virt (as:=[.int a0]) (rest:=[]) (a:=(b + 1)) at_653 cr29_71 put_o rfl rfl (Nat.le_of_ble_eq_true rfl) (by show 2≤2; omega) rfl
theorem m29_656 : M29 656 [l0,l1,l2,l3,l4,l5,l6,l7,l8,l9,l10,l11,l12,l13,.val (.int v),l15,l16,l17,l18,l19,l20,l21,l22,l23] st H Q = M29 658 [l0,l1,l2,l3,l4,l5,l6,l7,l8,l9,l10,l11,l12,l13,.val (.int v),l15,l16,l17,l18,l19,l20,l21,l22,l23] (.int v::st) H Q:=w_x at_656 rfl
theorem m29_658 : M29 658 ls (.int y::.int x::st) H Q = if x = y then M29 661 ls st H Q else M29 673 ls st H Q:=w_icmpN at_658 (i_ne x y) rfl
theorem m29_661 : M29 661 [l0,l1,l2,l3,.val (.ref r),l5,l6,l7,l8,l9,l10,l11,l12,l13,l14,l15,l16,l17,l18,l19,l20,l21,l22,l23] st H Q = M29 663 [l0,l1,l2,l3,.val (.ref r),l5,l6,l7,l8,l9,l10,l11,l12,l13,l14,l15,l16,l17,l18,l19,l20,l21,l22,l23] (.ref r::st) H Q:=w_x at_661 rfl
theorem m29_663 : M29 663 [l0,l1,l2,l3,l4,l5,l6,l7,l8,l9,l10,l11,.val (.int v),l13,l14,l15,l16,l17,l18,l19,l20,l21,l22,l23] st H Q = M29 665 [l0,l1,l2,l3,l4,l5,l6,l7,l8,l9,l10,l11,.val (.int v),l13,l14,l15,l16,l17,l18,l19,l20,l21,l22,l23] (.int v::st) H Q:=w_x at_663 rfl
theorem cr29_74 : vR tables_1 dn y29 74 = some (false,y24,prog_1_method_21_code,2,(some .int),1,34):=vR_of (cR_of (by decide +kernel) rc_24 dn_24 dn_29 (sig:=⟨[.int],some .int⟩) (by decide +kernel) (by decide +kernel) rfl rfl) (by decide +kernel) (by decide +kernel) (by decide +kernel)
theorem m29_665 (a0 : Int32) : M29 665 ls [.int a0,.ref (b + 1)] (put (b + 1) pre s A post) Q = M24 0 [.val (.ref (b + 1)),.val (.int a0)] [] (put (b + 1) pre s A post) (fun v H1 => M29 668 ls (v.toList ++ []) H1 Q):=w_virt (as:=[.int a0]) (rest:=[]) (a:=(b + 1)) at_665 cr29_74 put_o rfl rfl (Nat.le_of_ble_eq_true rfl) (by show 2≤2; omega) rfl
theorem m29_668 : M29 668 [l0,l1,l2,l3,l4,l5,l6,l7,l8,l9,l10,l11,l12,.val (.int v),l14,l15,l16,l17,l18,l19,l20,l21,l22,l23] st H Q = M29 670 [l0,l1,l2,l3,l4,l5,l6,l7,l8,l9,l10,l11,l12,.val (.int v),l14,l15,l16,l17,l18,l19,l20,l21,l22,l23] (.int v::st) H Q:=w_x at_668 rfl
theorem m29_670 : M29 670 ls (.int y::.int x::st) H Q = if x = y then M29 675 ls st H Q else M29 673 ls st H Q:=w_icmp at_670 (i_eq x y) rfl
theorem m29_673 : M29 673 ls st H Q = M29 674 ls (.int 0::st) H Q:=w_con at_673 rfl (by decide)
theorem m29_674 : M29 674 ls (.int z::st) H Q = Q (some (.int (nar .boolean z))) H:=w_iretN at_674 rfl (by simp)
theorem m29_675 : M29 675 [l0,l1,l2,l3,l4,l5,l6,l7,l8,l9,l10,l11,.val (.int v),l13,l14,l15,l16,l17,l18,l19,l20,l21,l22,l23] st H Q = M29 678 [l0,l1,l2,l3,l4,l5,l6,l7,l8,l9,l10,l11,.val (.int (v + 1)),l13,l14,l15,l16,l17,l18,l19,l20,l21,l22,l23] st H Q:=w_iinc at_675 rfl (by decide) rfl
theorem m29_678 : M29 678 [l0,l1,l2,l3,l4,l5,l6,l7,l8,l9,l10,l11,l12,l13,.val (.int v),l15,l16,l17,l18,l19,l20,l21,l22,l23] st H Q = M29 681 [l0,l1,l2,l3,l4,l5,l6,l7,l8,l9,l10,l11,l12,l13,.val (.int (v + 1)),l15,l16,l17,l18,l19,l20,l21,l22,l23] st H Q:=w_iinc at_678 rfl (by decide) rfl
theorem m29_681 : M29 681 ls st H Q = M29 555 ls st H Q:=w_x at_681 rfl
theorem m29_684 : M29 684 [l0,l1,l2,l3,l4,l5,l6,l7,l8,l9,l10,l11,l12,.val (.int v),l14,l15,l16,l17,l18,l19,l20,l21,l22,l23] st H Q = M29 687 [l0,l1,l2,l3,l4,l5,l6,l7,l8,l9,l10,l11,l12,.val (.int (v + 1)),l14,l15,l16,l17,l18,l19,l20,l21,l22,l23] st H Q:=w_iinc at_684 rfl (by decide) rfl
theorem m29_687 : M29 687 ls st H Q = M29 545 ls st H Q:=w_x at_687 rfl
theorem m29_690 : M29 690 [l0,l1,l2,l3,l4,l5,l6,l7,l8,l9,l10,l11,.val (.int v),l13,l14,l15,l16,l17,l18,l19,l20,l21,l22,l23] st H Q = M29 692 [l0,l1,l2,l3,l4,l5,l6,l7,l8,l9,l10,l11,.val (.int v),l13,l14,l15,l16,l17,l18,l19,l20,l21,l22,l23] (.int v::st) H Q:=w_x at_690 rfl
theorem m29_692 : M29 692 [l0,l1,l2,l3,l4,l5,l6,l7,l8,l9,l10,.val (.int v),l12,l13,l14,l15,l16,l17,l18,l19,l20,l21,l22,l23] st H Q = M29 694 [l0,l1,l2,l3,l4,l5,l6,l7,l8,l9,l10,.val (.int v),l12,l13,l14,l15,l16,l17,l18,l19,l20,l21,l22,l23] (.int v::st) H Q:=w_x at_692 rfl
theorem m29_694 : M29 694 ls (.int y::.int x::st) H Q = if x = y then M29 697 ls st H Q else M29 701 ls st H Q:=w_icmpN at_694 (i_ne x y) rfl
theorem m29_697 : M29 697 ls st H Q = M29 698 ls (.int 1::st) H Q:=w_con at_697 rfl (by decide)
theorem m29_698 : M29 698 ls st H Q = M29 702 ls st H Q:=w_x at_698 rfl
theorem m29_701 : M29 701 ls st H Q = M29 702 ls (.int 0::st) H Q:=w_con at_701 rfl (by decide)
theorem m29_702 : M29 702 ls (.int z::st) H Q = Q (some (.int (nar .boolean z))) H:=w_iretN at_702 rfl (by simp)
theorem pf0_7 : pfR tables_1 y0.cls y0.name 7 = some ("StreamSigScanner", 0,.array .int):=by decide +kernel
theorem m0_4a (hH : H.length = b) (hk : 1≤b) {vs : List Value} {r : AHeap} (hj : 0 < vs.length) : M0 4 (.val (.ref b)::[l1,l2]) [] (H ++ (.object "StreamSigScanner", vs)::r) Q = M0 12 (.val (.ref b)::[l1,l2]) [] (H ++ (.object "StreamSigScanner", vs.set 0 (.ref (b + (r.length + 1))))::(r ++ [(.array .int,List.replicate 64 (.int 0))])) Q:=w_iarr (n:=64) rfl hH hk (show decode kb0 4 = .ok (.aload_n 0,1) from by decide +kernel) rfl (show decode kb0 5 = .ok (.bipush 64,2) from by decide +kernel) (fun _ => rfl) (by decide) (show decode kb0 7 = .ok (.newarray .int,2) from by decide +kernel) rfl (by decide +kernel) (by decide) (by decide) rfl (show decode kb0 9 = .ok (.putfield 7,3) from by decide +kernel) pf0_7 hj
theorem pf0_13 : pfR tables_1 y0.cls y0.name 13 = some ("StreamSigScanner", 1,.array .int):=by decide +kernel
theorem m0_12a (hH : H.length = b) (hk : 1≤b) {vs : List Value} {r : AHeap} (hj : 1 < vs.length) : M0 12 (.val (.ref b)::[l1,l2]) [] (H ++ (.object "StreamSigScanner", vs)::r) Q = M0 20 (.val (.ref b)::[l1,l2]) [] (H ++ (.object "StreamSigScanner", vs.set 1 (.ref (b + (r.length + 1))))::(r ++ [(.array .int,List.replicate 16 (.int 0))])) Q:=w_iarr (n:=16) rfl hH hk (show decode kb0 12 = .ok (.aload_n 0,1) from by decide +kernel) rfl (show decode kb0 13 = .ok (.bipush 16,2) from by decide +kernel) (fun _ => rfl) (by decide) (show decode kb0 15 = .ok (.newarray .int,2) from by decide +kernel) rfl (by decide +kernel) (by decide) (by decide) rfl (show decode kb0 17 = .ok (.putfield 13,3) from by decide +kernel) pf0_13 hj
theorem pf0_16 : pfR tables_1 y0.cls y0.name 16 = some ("StreamSigScanner", 2,.array .int):=by decide +kernel
theorem m0_20a (hH : H.length = b) (hk : 1≤b) {vs : List Value} {r : AHeap} (hj : 2 < vs.length) : M0 20 (.val (.ref b)::[l1,l2]) [] (H ++ (.object "StreamSigScanner", vs)::r) Q = M0 28 (.val (.ref b)::[l1,l2]) [] (H ++ (.object "StreamSigScanner", vs.set 2 (.ref (b + (r.length + 1))))::(r ++ [(.array .int,List.replicate 16 (.int 0))])) Q:=w_iarr (n:=16) rfl hH hk (show decode kb0 20 = .ok (.aload_n 0,1) from by decide +kernel) rfl (show decode kb0 21 = .ok (.bipush 16,2) from by decide +kernel) (fun _ => rfl) (by decide) (show decode kb0 23 = .ok (.newarray .int,2) from by decide +kernel) rfl (by decide +kernel) (by decide) (by decide) rfl (show decode kb0 25 = .ok (.putfield 16,3) from by decide +kernel) pf0_16 hj
theorem pf0_19 : pfR tables_1 y0.cls y0.name 19 = some ("StreamSigScanner", 3,.array .int):=by decide +kernel
theorem m0_28a (hH : H.length = b) (hk : 1≤b) {vs : List Value} {r : AHeap} (hj : 3 < vs.length) : M0 28 (.val (.ref b)::[l1,l2]) [] (H ++ (.object "StreamSigScanner", vs)::r) Q = M0 37 (.val (.ref b)::[l1,l2]) [] (H ++ (.object "StreamSigScanner", vs.set 3 (.ref (b + (r.length + 1))))::(r ++ [(.array .int,List.replicate 16640 (.int 0))])) Q:=w_iarr (n:=16640) rfl hH hk (show decode kb0 28 = .ok (.aload_n 0,1) from by decide +kernel) rfl (show decode kb0 29 = .ok (.sipush 16640,3) from by decide +kernel) (fun _ => rfl) (by decide) (show decode kb0 32 = .ok (.newarray .int,2) from by decide +kernel) rfl (by decide +kernel) (by decide) (by decide) rfl (show decode kb0 34 = .ok (.putfield 19,3) from by decide +kernel) pf0_19 hj
theorem pf0_22 : pfR tables_1 y0.cls y0.name 22 = some ("StreamSigScanner", 4,.array .int):=by decide +kernel
theorem m0_37a (hH : H.length = b) (hk : 1≤b) {vs : List Value} {r : AHeap} (hj : 4 < vs.length) : M0 37 (.val (.ref b)::[l1,l2]) [] (H ++ (.object "StreamSigScanner", vs)::r) Q = M0 45 (.val (.ref b)::[l1,l2]) [] (H ++ (.object "StreamSigScanner", vs.set 4 (.ref (b + (r.length + 1))))::(r ++ [(.array .int,List.replicate 65 (.int 0))])) Q:=w_iarr (n:=65) rfl hH hk (show decode kb0 37 = .ok (.aload_n 0,1) from by decide +kernel) rfl (show decode kb0 38 = .ok (.bipush 65,2) from by decide +kernel) (fun _ => rfl) (by decide) (show decode kb0 40 = .ok (.newarray .int,2) from by decide +kernel) rfl (by decide +kernel) (by decide) (by decide) rfl (show decode kb0 42 = .ok (.putfield 22,3) from by decide +kernel) pf0_22 hj
theorem pf0_25 : pfR tables_1 y0.cls y0.name 25 = some ("StreamSigScanner", 5,.array .int):=by decide +kernel
theorem m0_45a (hH : H.length = b) (hk : 1≤b) {vs : List Value} {r : AHeap} (hj : 5 < vs.length) : M0 45 (.val (.ref b)::[l1,l2]) [] (H ++ (.object "StreamSigScanner", vs)::r) Q = M0 53 (.val (.ref b)::[l1,l2]) [] (H ++ (.object "StreamSigScanner", vs.set 5 (.ref (b + (r.length + 1))))::(r ++ [(.array .int,List.replicate 65 (.int 0))])) Q:=w_iarr (n:=65) rfl hH hk (show decode kb0 45 = .ok (.aload_n 0,1) from by decide +kernel) rfl (show decode kb0 46 = .ok (.bipush 65,2) from by decide +kernel) (fun _ => rfl) (by decide) (show decode kb0 48 = .ok (.newarray .int,2) from by decide +kernel) rfl (by decide +kernel) (by decide) (by decide) rfl (show decode kb0 50 = .ok (.putfield 25,3) from by decide +kernel) pf0_25 hj
theorem pf0_28 : pfR tables_1 y0.cls y0.name 28 = some ("StreamSigScanner", 6,.array .int):=by decide +kernel
theorem m0_53a (hH : H.length = b) (hk : 1≤b) {vs : List Value} {r : AHeap} (hj : 6 < vs.length) : M0 53 (.val (.ref b)::[l1,l2]) [] (H ++ (.object "StreamSigScanner", vs)::r) Q = M0 61 (.val (.ref b)::[l1,l2]) [] (H ++ (.object "StreamSigScanner", vs.set 6 (.ref (b + (r.length + 1))))::(r ++ [(.array .int,List.replicate 65 (.int 0))])) Q:=w_iarr (n:=65) rfl hH hk (show decode kb0 53 = .ok (.aload_n 0,1) from by decide +kernel) rfl (show decode kb0 54 = .ok (.bipush 65,2) from by decide +kernel) (fun _ => rfl) (by decide) (show decode kb0 56 = .ok (.newarray .int,2) from by decide +kernel) rfl (by decide +kernel) (by decide) (by decide) rfl (show decode kb0 58 = .ok (.putfield 28,3) from by decide +kernel) pf0_28 hj
theorem pf0_31 : pfR tables_1 y0.cls y0.name 31 = some ("StreamSigScanner", 7,.array .boolean):=by decide +kernel
theorem m0_61a (hH : H.length = b) (hk : 1≤b) {vs : List Value} {r : AHeap} (hj : 7 < vs.length) : M0 61 (.val (.ref b)::[l1,l2]) [] (H ++ (.object "StreamSigScanner", vs)::r) Q = M0 70 (.val (.ref b)::[l1,l2]) [] (H ++ (.object "StreamSigScanner", vs.set 7 (.ref (b + (r.length + 1))))::(r ++ [(.array .boolean,List.replicate 256 (.int 0))])) Q:=w_iarr (n:=256) rfl hH hk (show decode kb0 61 = .ok (.aload_n 0,1) from by decide +kernel) rfl (show decode kb0 62 = .ok (.sipush 256,3) from by decide +kernel) (fun _ => rfl) (by decide) (show decode kb0 65 = .ok (.newarray .boolean,2) from by decide +kernel) rfl (by decide +kernel) (by decide) (by decide) rfl (show decode kb0 67 = .ok (.putfield 31,3) from by decide +kernel) pf0_31 hj
theorem pf0_35 : pfR tables_1 y0.cls y0.name 35 = some ("StreamSigScanner", 8,.array .int):=by decide +kernel
theorem m0_70a (hH : H.length = b) (hk : 1≤b) {vs : List Value} {r : AHeap} (hj : 8 < vs.length) : M0 70 (.val (.ref b)::[l1,l2]) [] (H ++ (.object "StreamSigScanner", vs)::r) Q = M0 79 (.val (.ref b)::[l1,l2]) [] (H ++ (.object "StreamSigScanner", vs.set 8 (.ref (b + (r.length + 1))))::(r ++ [(.array .int,List.replicate 256 (.int 0))])) Q:=w_iarr (n:=256) rfl hH hk (show decode kb0 70 = .ok (.aload_n 0,1) from by decide +kernel) rfl (show decode kb0 71 = .ok (.sipush 256,3) from by decide +kernel) (fun _ => rfl) (by decide) (show decode kb0 74 = .ok (.newarray .int,2) from by decide +kernel) rfl (by decide +kernel) (by decide) (by decide) rfl (show decode kb0 76 = .ok (.putfield 35,3) from by decide +kernel) pf0_35 hj
theorem pf0_38 : pfR tables_1 y0.cls y0.name 38 = some ("StreamSigScanner", 9,.array .int):=by decide +kernel
theorem m0_79a (hH : H.length = b) (hk : 1≤b) {vs : List Value} {r : AHeap} (hj : 9 < vs.length) : M0 79 (.val (.ref b)::[l1,l2]) [] (H ++ (.object "StreamSigScanner", vs)::r) Q = M0 87 (.val (.ref b)::[l1,l2]) [] (H ++ (.object "StreamSigScanner", vs.set 9 (.ref (b + (r.length + 1))))::(r ++ [(.array .int,List.replicate 16 (.int 0))])) Q:=w_iarr (n:=16) rfl hH hk (show decode kb0 79 = .ok (.aload_n 0,1) from by decide +kernel) rfl (show decode kb0 80 = .ok (.bipush 16,2) from by decide +kernel) (fun _ => rfl) (by decide) (show decode kb0 82 = .ok (.newarray .int,2) from by decide +kernel) rfl (by decide +kernel) (by decide) (by decide) rfl (show decode kb0 84 = .ok (.putfield 38,3) from by decide +kernel) pf0_38 hj
theorem pf0_41 : pfR tables_1 y0.cls y0.name 41 = some ("StreamSigScanner", 10,.array .int):=by decide +kernel
theorem m0_87a (hH : H.length = b) (hk : 1≤b) {vs : List Value} {r : AHeap} (hj : 10 < vs.length) : M0 87 (.val (.ref b)::[l1,l2]) [] (H ++ (.object "StreamSigScanner", vs)::r) Q = M0 95 (.val (.ref b)::[l1,l2]) [] (H ++ (.object "StreamSigScanner", vs.set 10 (.ref (b + (r.length + 1))))::(r ++ [(.array .int,List.replicate 64 (.int 0))])) Q:=w_iarr (n:=64) rfl hH hk (show decode kb0 87 = .ok (.aload_n 0,1) from by decide +kernel) rfl (show decode kb0 88 = .ok (.bipush 64,2) from by decide +kernel) (fun _ => rfl) (by decide) (show decode kb0 90 = .ok (.newarray .int,2) from by decide +kernel) rfl (by decide +kernel) (by decide) (by decide) rfl (show decode kb0 92 = .ok (.putfield 41,3) from by decide +kernel) pf0_41 hj
theorem pf0_44 : pfR tables_1 y0.cls y0.name 44 = some ("StreamSigScanner", 11,.array .int):=by decide +kernel
theorem m0_95a (hH : H.length = b) (hk : 1≤b) {vs : List Value} {r : AHeap} (hj : 11 < vs.length) : M0 95 (.val (.ref b)::[l1,l2]) [] (H ++ (.object "StreamSigScanner", vs)::r) Q = M0 103 (.val (.ref b)::[l1,l2]) [] (H ++ (.object "StreamSigScanner", vs.set 11 (.ref (b + (r.length + 1))))::(r ++ [(.array .int,List.replicate 64 (.int 0))])) Q:=w_iarr (n:=64) rfl hH hk (show decode kb0 95 = .ok (.aload_n 0,1) from by decide +kernel) rfl (show decode kb0 96 = .ok (.bipush 64,2) from by decide +kernel) (fun _ => rfl) (by decide) (show decode kb0 98 = .ok (.newarray .int,2) from by decide +kernel) rfl (by decide +kernel) (by decide) (by decide) rfl (show decode kb0 100 = .ok (.putfield 44,3) from by decide +kernel) pf0_44 hj
def A0 : Nat→List Int32
  | 0 => List.replicate 64 0
  | 1 => List.replicate 16 0
  | 2 => List.replicate 16 0
  | 3 => List.replicate 16640 0
  | 4 => List.replicate 65 0
  | 5 => List.replicate 65 0
  | 6 => List.replicate 65 0
  | 7 => List.replicate 256 0
  | 8 => List.replicate 256 0
  | 9 => List.replicate 16 0
  | 10 => List.replicate 64 0
  | 11 => List.replicate 64 0
  | _ => []
theorem A0l_0 : (A0 0).length = 64:=List.length_replicate
theorem A0g_0 (j : Int32) : getA (A0 0) j = 0:=getA_rep _ _
theorem A0l_1 : (A0 1).length = 16:=List.length_replicate
theorem A0g_1 (j : Int32) : getA (A0 1) j = 0:=getA_rep _ _
theorem A0l_2 : (A0 2).length = 16:=List.length_replicate
theorem A0g_2 (j : Int32) : getA (A0 2) j = 0:=getA_rep _ _
theorem A0l_3 : (A0 3).length = 16640:=List.length_replicate
theorem A0g_3 (j : Int32) : getA (A0 3) j = 0:=getA_rep _ _
theorem A0l_4 : (A0 4).length = 65:=List.length_replicate
theorem A0g_4 (j : Int32) : getA (A0 4) j = 0:=getA_rep _ _
theorem A0l_5 : (A0 5).length = 65:=List.length_replicate
theorem A0g_5 (j : Int32) : getA (A0 5) j = 0:=getA_rep _ _
theorem A0l_6 : (A0 6).length = 65:=List.length_replicate
theorem A0g_6 (j : Int32) : getA (A0 6) j = 0:=getA_rep _ _
theorem A0l_7 : (A0 7).length = 256:=List.length_replicate
theorem A0g_7 (j : Int32) : getA (A0 7) j = 0:=getA_rep _ _
theorem A0l_8 : (A0 8).length = 256:=List.length_replicate
theorem A0g_8 (j : Int32) : getA (A0 8) j = 0:=getA_rep _ _
theorem A0l_9 : (A0 9).length = 16:=List.length_replicate
theorem A0g_9 (j : Int32) : getA (A0 9) j = 0:=getA_rep _ _
theorem A0l_10 : (A0 10).length = 64:=List.length_replicate
theorem A0g_10 (j : Int32) : getA (A0 10) j = 0:=getA_rep _ _
theorem A0l_11 : (A0 11).length = 64:=List.length_replicate
theorem A0g_11 (j : Int32) : getA (A0 11) j = 0:=getA_rep _ _
theorem own_ctor0 (hb : pre.length = b) (hk : 1≤b) : M0 0 (.val (.ref b)::[l1,l2]) [] (pre ++ [(.object "StreamSigScanner", D0)]) Q = M0 103 (.val (.ref b)::[l1,l2]) [] (put b pre (fun _ => 0) A0 []) Q:=by
  rw [m0_0,m0_1,m0_4a hb hk (by (repeat rw [List.length_set]); exact Nat.le_of_ble_eq_true rfl),m0_12a hb hk (by (repeat rw [List.length_set]); exact Nat.le_of_ble_eq_true rfl),m0_20a hb hk (by (repeat rw [List.length_set]); exact Nat.le_of_ble_eq_true rfl),m0_28a hb hk (by (repeat rw [List.length_set]); exact Nat.le_of_ble_eq_true rfl),m0_37a hb hk (by (repeat rw [List.length_set]); exact Nat.le_of_ble_eq_true rfl),m0_45a hb hk (by (repeat rw [List.length_set]); exact Nat.le_of_ble_eq_true rfl),m0_53a hb hk (by (repeat rw [List.length_set]); exact Nat.le_of_ble_eq_true rfl),m0_61a hb hk (by (repeat rw [List.length_set]); exact Nat.le_of_ble_eq_true rfl),m0_70a hb hk (by (repeat rw [List.length_set]); exact Nat.le_of_ble_eq_true rfl),m0_79a hb hk (by (repeat rw [List.length_set]); exact Nat.le_of_ble_eq_true rfl),m0_87a hb hk (by (repeat rw [List.length_set]); exact Nat.le_of_ble_eq_true rfl),m0_95a hb hk (by (repeat rw [List.length_set]); exact Nat.le_of_ble_eq_true rfl)]
  simp only [put,pad_eq hb,objv,D0,A0,List.map_replicate,List.set_cons_succ,List.set_cons_zero,List.nil_append,List.cons_append,List.length_cons,List.length_nil,List.append_nil]
end Rules
/- methods: 0=StreamSigScanner.<init>(I)V; 1=StreamSigScanner.addSigByte(I)I; 2=StreamSigScanner.isByte(I)Z; 3=StreamSigScanner.endSig()I; 4=StreamSigScanner.compile()I; 5=StreamSigScanner.buildTrie()V; 6=StreamSigScanner.clearAutomaton()V; 7=StreamSigScanner.insertSig(I)V; 8=StreamSigScanner.buildAutomaton()V; 9=StreamSigScanner.stat(I)I; 10=StreamSigScanner.openSegment(I)I; 11=StreamSigScanner.isOffset(I)Z; 12=StreamSigScanner.byteAt(I)I; 13=StreamSigScanner.segByte(I)I; 14=StreamSigScanner.closeSegment()I; 15=StreamSigScanner.absorbByte(III)V; 16=StreamSigScanner.advanceDelivered()V; 17=StreamSigScanner.feed(II)V; 18=StreamSigScanner.sigLength(I)I; 19=StreamSigScanner.validSig(I)Z; 20=StreamSigScanner.sigByte(II)I; 21=StreamSigScanner.recordMatch(II)V; 22=StreamSigScanner.matchSig(I)I; 23=StreamSigScanner.validRecord(I)Z; 24=StreamSigScanner.matchEnd(I)I; 25=StreamSigScannerOwnLaw.cell([II)I; 26=StreamSigScannerOwnLaw.segVal(IIZII)I; 27=StreamSigScannerOwnLaw.tb(II)I; 28=StreamSigScannerOwnLaw.hashOthers(LStreamSigScanner;II)J; 29=StreamSigScannerOwnLaw.law([I)Z -/
def nI (n : Nat) : Int32:=Nat.toInt32 n
theorem nI_int {n : Nat} (h : n < 2147483648) : (nI n).toInt = n:=len_toInt h
theorem nI_cl {n : Nat} (h : n < 2147483648) : (nI n).toNatClampNeg = n:=by rw [toNat_eq,nI_int h]; rfl
theorem nI_add (a c : Nat) : nI a + nI c = nI (a + c):=(Int32.ofNat_add a c).symm
theorem nI_1 (a : Nat) : nI a + 1 = nI (a + 1):=nI_add a 1
theorem nI_sub {a c : Nat} (h : c≤a) : nI a - nI c = nI (a - c):=by
  have e : nI a = nI (a - c) + nI c:=by rw [nI_add,Nat.sub_add_cancel h]
  rw [e,Int32.add_sub_cancel]
theorem nI_32 (v : Nat) : nI v * 32 = nI (v * 32):=(Int32.ofNat_mul v 32).symm
theorem nI_lt {a c : Nat} (ha : a < 2147483648) (hc : c < 2147483648) : nI a < nI c ↔ a < c:=by
  rw [lt_i,nI_int ha,nI_int hc]
  omega
theorem nI_nn {a : Nat} (ha : a < 2147483648) : ¬ nI a < 0:=by
  rw [nn_i,nI_int ha]
  omega
theorem nI_inj {a c : Nat} (ha : a < 2147483648) (hc : c < 2147483648) : nI a = nI c ↔ a = c:=by
  constructor
  · intro h
    have:=congrArg Int32.toInt h
    rw [nI_int ha,nI_int hc] at this
    omega
  · intro h; rw [h]
theorem nI_ne {a c : Nat} (ha : a < 2147483648) (hc : c < 2147483648) (h : a ≠ c) : ¬ nI a = nI c:=fun e => h ((nI_inj ha hc).mp e)
theorem nI_in {l : List Int32} {i : Nat} (h : i < l.length) (hl : l.length≤4096) : inB (nI i) l:=by
  rw [inB_iff,nI_int (by omega)]
  omega
theorem lT {a c : Nat} (h : a < c) (hc : c < 2147483648) : (nI a < nI c) = True:=eq_true ((nI_lt (by omega) hc).mpr h)
theorem lF {a c : Nat} (h : c≤a) (ha : a < 2147483648) : (nI a < nI c) = False:=eq_false (fun q => by rw [nI_lt ha (by omega)] at q; omega)
theorem cf_set {l : List Int32} {i j : Nat} {x : Int32} (hj : j < l.length) (hl : l.length≤4096) (hi : i < 4096) : getA (setA l (nI j) x) (nI i) = if i = j then x else getA l (nI i):=by
  rw [getA_set2,nI_cl (by omega),nI_cl (by omega)]
  simp [hj]
def CF (l : List Int32) (f : Nat→Int32) (k : Nat) : Prop:=∀ i,i < k→getA l (nI i) = f i
def CN (l : List Int32) (f : Nat→Nat) (k : Nat) : Prop:=∀ i,i < k→getA l (nI i) = nI (f i)
section Cells
variable {l : List Int32} {f : Nat→Int32} {g : Nat→Nat} {k j w : Nat} {x : Int32}
theorem CF_set (h : CF l f k) (hj : j < l.length) (hl : l.length≤4096) (hk : k≤4096) : CF (setA l (nI j) x) (ou f j x) k:=by
  intro i hi
  rw [cf_set hj hl (by omega),ou_a]
  split
  · rfl
  · exact h i hi
theorem CF_push (h : CF l f k) (hk : k < l.length) (hl : l.length≤4096) : CF (setA l (nI k) x) (ou f k x) (k + 1):=by
  intro i hi
  rw [cf_set hk hl (by omega),ou_a]
  split
  · rfl
  · exact h i (by omega)
theorem CN_set (h : CN l g k) (hj : j < l.length) (hl : l.length≤4096) (hk : k≤4096) : CN (setA l (nI j) (nI w)) (ou g j w) k:=by
  intro i hi
  rw [cf_set hj hl (by omega),ou_a]
  split
  · rfl
  · exact h i hi
theorem CN_push (h : CN l g k) (hk : k < l.length) (hl : l.length≤4096) : CN (setA l (nI k) (nI w)) (ou g k w) (k + 1):=by
  intro i hi
  rw [cf_set hk hl (by omega),ou_a]
  split
  · rfl
  · exact h i (by omega)
end Cells
theorem okS_n (n : Nat) : okS (.val (.int (nI n))):=okS_i _
def LN (A : Nat→List Int32) : Prop:=∀ i,(A i).length = (A0 i).length
theorem LN_ou {A : Nat→List Int32} {j : Nat} {l : List Int32} (h : LN A) (hl : l.length = (A0 j).length) : LN (ou A j l):=len_ou h hl
theorem LN_set {A : Nat→List Int32} {j : Nat} {x v : Int32} (h : LN A) : LN (ou A j (setA (A j) x v)):=LN_ou h (by rw [setA_len]; exact h _)
theorem nI_inB {l : List Int32} {i : Nat} (h : i < l.length) (hl : l.length≤100000) : inB (nI i) l:=by
  rw [inB_iff,nI_int (by omega)]
  omega
theorem cf_setB {l : List Int32} {i j : Nat} {x : Int32} (hj : j < l.length) (hl : l.length≤100000) (hi : i < 100000) : getA (setA l (nI j) x) (nI i) = if i = j then x else getA l (nI i):=by
  rw [getA_set2,nI_cl (by omega),nI_cl (by omega)]
  simp [hj]
theorem ln0 {A : Nat→List Int32} (h : LN A) : (A 0).length = 64:=(h 0).trans A0l_0
theorem in0 {A : Nat→List Int32} {i : Nat} (h : LN A) (hi : i < 64) : inB (nI i) (A 0):=nI_inB (by rw [ln0 h]; exact hi) (by rw [ln0 h]; decide)
theorem ln1 {A : Nat→List Int32} (h : LN A) : (A 1).length = 16:=(h 1).trans A0l_1
theorem in1 {A : Nat→List Int32} {i : Nat} (h : LN A) (hi : i < 16) : inB (nI i) (A 1):=nI_inB (by rw [ln1 h]; exact hi) (by rw [ln1 h]; decide)
theorem ln2 {A : Nat→List Int32} (h : LN A) : (A 2).length = 16:=(h 2).trans A0l_2
theorem in2 {A : Nat→List Int32} {i : Nat} (h : LN A) (hi : i < 16) : inB (nI i) (A 2):=nI_inB (by rw [ln2 h]; exact hi) (by rw [ln2 h]; decide)
theorem ln3 {A : Nat→List Int32} (h : LN A) : (A 3).length = 16640:=(h 3).trans A0l_3
theorem in3 {A : Nat→List Int32} {i : Nat} (h : LN A) (hi : i < 16640) : inB (nI i) (A 3):=nI_inB (by rw [ln3 h]; exact hi) (by rw [ln3 h]; decide)
theorem ln4 {A : Nat→List Int32} (h : LN A) : (A 4).length = 65:=(h 4).trans A0l_4
theorem in4 {A : Nat→List Int32} {i : Nat} (h : LN A) (hi : i < 65) : inB (nI i) (A 4):=nI_inB (by rw [ln4 h]; exact hi) (by rw [ln4 h]; decide)
theorem ln5 {A : Nat→List Int32} (h : LN A) : (A 5).length = 65:=(h 5).trans A0l_5
theorem in5 {A : Nat→List Int32} {i : Nat} (h : LN A) (hi : i < 65) : inB (nI i) (A 5):=nI_inB (by rw [ln5 h]; exact hi) (by rw [ln5 h]; decide)
theorem ln6 {A : Nat→List Int32} (h : LN A) : (A 6).length = 65:=(h 6).trans A0l_6
theorem in6 {A : Nat→List Int32} {i : Nat} (h : LN A) (hi : i < 65) : inB (nI i) (A 6):=nI_inB (by rw [ln6 h]; exact hi) (by rw [ln6 h]; decide)
theorem ln7 {A : Nat→List Int32} (h : LN A) : (A 7).length = 256:=(h 7).trans A0l_7
theorem in7 {A : Nat→List Int32} {i : Nat} (h : LN A) (hi : i < 256) : inB (nI i) (A 7):=nI_inB (by rw [ln7 h]; exact hi) (by rw [ln7 h]; decide)
theorem ln8 {A : Nat→List Int32} (h : LN A) : (A 8).length = 256:=(h 8).trans A0l_8
theorem in8 {A : Nat→List Int32} {i : Nat} (h : LN A) (hi : i < 256) : inB (nI i) (A 8):=nI_inB (by rw [ln8 h]; exact hi) (by rw [ln8 h]; decide)
theorem ln9 {A : Nat→List Int32} (h : LN A) : (A 9).length = 16:=(h 9).trans A0l_9
theorem in9 {A : Nat→List Int32} {i : Nat} (h : LN A) (hi : i < 16) : inB (nI i) (A 9):=nI_inB (by rw [ln9 h]; exact hi) (by rw [ln9 h]; decide)
theorem ln10 {A : Nat→List Int32} (h : LN A) : (A 10).length = 64:=(h 10).trans A0l_10
theorem in10 {A : Nat→List Int32} {i : Nat} (h : LN A) (hi : i < 64) : inB (nI i) (A 10):=nI_inB (by rw [ln10 h]; exact hi) (by rw [ln10 h]; decide)
theorem ln11 {A : Nat→List Int32} (h : LN A) : (A 11).length = 64:=(h 11).trans A0l_11
theorem in11 {A : Nat→List Int32} {i : Nat} (h : LN A) (hi : i < 64) : inB (nI i) (A 11):=nI_inB (by rw [ln11 h]; exact hi) (by rw [ln11 h]; decide)
/-! Kahn's order -/
theorem PH : ∀ (n t : Nat) (o : Nat→Nat),(∀ i,i < t→o i < n)→(∀ i j,i < t→j < t→o i = o j→i = j)→t≤n:=by
  intro n
  induction n with
  | zero =>
    intro t o h1 h2
    rcases Nat.eq_zero_or_pos t with h | h
    · omega
    · exact absurd (h1 0 h) (by omega)
  | succ n ih =>
    intro t o h1 h2
    by_cases c : ∃ i,i < t∧o i = n
    · obtain ⟨k,hk,ek⟩:=c
      have:=ih (t - 1) (fun i => if i < k then o i else o (i + 1)) (fun i hi => by
        show (if i < k then o i else o (i + 1)) < n
        split
        · rename_i q
          have a:=h1 i (by omega)
          have : o i ≠ n:=fun z => by have:=h2 i k (by omega) hk (by rw [z,ek]); omega
          omega
        · rename_i q
          have a:=h1 (i + 1) (by omega)
          have : o (i + 1) ≠ n:=fun z => by have:=h2 (i + 1) k (by omega) hk (by rw [z,ek]); omega
          omega) (fun i j hi hj e => by
        have e' : (if i < k then o i else o (i + 1)) = (if j < k then o j else o (j + 1)):=e
        split at e' <;> split at e' <;> have:=h2 _ _ (by omega) (by omega) e' <;> omega)
      omega
    · have:=ih t o (fun i hi => by
        have a:=h1 i hi
        have : o i ≠ n:=fun z => c ⟨i,hi,z⟩
        omega) h2
      omega
/-! words, the latest letter first: a suffix of the text is a prefix here -/
section Ac
variable {S : List Nat→Prop}
def IsLS (S : List Nat→Prop) (x y : List Nat) : Prop:=y <+: x∧S y∧∀ z,z <+: x→S z→z <+: y
/-- the longest proper one -/
def IsPL (S : List Nat→Prop) (x y : List Nat) : Prop:=y <+: x∧y.length < x.length∧S y∧∀ z,z <+: x→z.length < x.length→S z→z <+: y
theorem pre_c {c : Nat} {x z : List Nat} (h : z <+: c::x) : z = [] ∨ ∃ z',z = c::z'∧z' <+: x:=by
  cases z with
  | nil => exact Or.inl rfl
  | cons a z =>
    obtain ⟨t,e⟩:=h
    rw [List.cons_append] at e
    injection e with e1 e2
    exact Or.inr ⟨z,by rw [e1],⟨t,e2⟩⟩
theorem cons_pre {c : Nat} {x z : List Nat} (h : z <+: x) : c::z <+: c::x:=by
  obtain ⟨t,e⟩:=h
  exact ⟨t,by rw [List.cons_append,e]⟩
theorem pre_eq {x z : List Nat} (h : z <+: x) (e : z.length = x.length) : z = x:=by
  obtain ⟨t,e'⟩:=h
  have : t.length = 0:=by
    have:=congrArg List.length e'
    rw [List.length_append] at this
    omega
  rw [List.length_eq_zero_iff.mp this,List.append_nil] at e'
  exact e'
theorem pre_len {x z : List Nat} (h : z <+: x) : z.length≤x.length:=by
  obtain ⟨t,e⟩:=h
  rw [← e,List.length_append]
  omega
theorem pre_anti {x y : List Nat} (h : x <+: y) (h' : y <+: x) : x = y:=pre_eq h (Nat.le_antisymm (pre_len h) (pre_len h'))
theorem IsLS.un {x y y' : List Nat} (h : IsLS S x y) (h' : IsLS S x y') : y = y':=pre_anti (h'.2.2 y h.1 h.2.1) (h.2.2 y' h'.1 h'.2.1)
/-- one more letter -/
theorem LS_c (hS : ∀ c w,S (c::w)→S w) {c : Nat} {x y v : List Nat} (h : IsLS S x y) (hv : IsLS S (c::y) v) : IsLS S (c::x) v:=by
  refine ⟨hv.1.trans (cons_pre h.1),hv.2.1,fun z hz sz => ?_⟩
  rcases pre_c hz with e | ⟨z',e,hz'⟩
  · rw [e]; exact List.nil_prefix
  · rw [e] at sz ⊢
    exact hv.2.2 _ (cons_pre (h.2.2 z' hz' (hS c z' sz))) sz
/-- a row by the failure link -/
theorem LS_f (hS : ∀ c w,S (c::w)→S w) {c : Nat} {w f v : List Nat} (h : IsPL S w f) (hn : ¬ S (c::w)) (hv : IsLS S (c::f) v) : IsLS S (c::w) v:=by
  refine ⟨hv.1.trans (cons_pre h.1),hv.2.1,fun z hz sz => ?_⟩
  rcases pre_c hz with e | ⟨z',e,hz'⟩
  · rw [e]; exact List.nil_prefix
  · rw [e] at sz ⊢
    have l:=pre_len hz'
    by_cases q : z'.length = w.length
    · rw [pre_eq hz' q] at sz; exact absurd sz hn
    · exact hv.2.2 _ (cons_pre (h.2.2.2 z' hz' (by omega) (hS c z' sz))) sz
/-- a child is its own row's answer -/
theorem LS_s {c : Nat} {w : List Nat} (h : S (c::w)) : IsLS S (c::w) (c::w):=⟨List.prefix_refl _,h,fun _ hz _ => hz⟩
/-- the failure link of a child -/
theorem PL_c (hS : ∀ c w,S (c::w)→S w) {c : Nat} {w f v : List Nat} (h : IsPL S w f) (hv : IsLS S (c::f) v) : IsPL S (c::w) v:=by
  have l:=pre_len hv.1
  have lf:=h.2.1
  refine ⟨hv.1.trans (cons_pre h.1),by rw [List.length_cons] at l ⊢; omega,hv.2.1,fun z hz lz sz => ?_⟩
  rcases pre_c hz with e | ⟨z',e,hz'⟩
  · rw [e]; exact List.nil_prefix
  · rw [e] at sz lz ⊢
    rw [List.length_cons,List.length_cons] at lz
    exact hv.2.2 _ (cons_pre (h.2.2.2 z' hz' (by omega) (hS c z' sz))) sz
theorem PL_1 (h0 : S []) {c : Nat} : IsPL S [c] []:=by
  refine ⟨List.nil_prefix,by simp,h0,fun z hz lz sz => ?_⟩
  rw [List.length_singleton] at lz
  have e : z = []:=List.length_eq_zero_iff.mp (by omega)
  rw [e]
  exact List.nil_prefix
theorem LS_0 (h0 : S []) {c : Nat} (hn : ¬ S [c]) : IsLS S [c] []:=by
  refine ⟨List.nil_prefix,h0,fun z hz sz => ?_⟩
  rcases pre_c hz with e | ⟨z',e,hz'⟩
  · rw [e]; exact List.nil_prefix
  · have : z' = []:=List.prefix_nil.mp hz'
    rw [e,this] at sz
    exact absurd sz hn
/-- outputs through the failure link -/
theorem OM_f {w f g : List Nat} (h : IsPL S w f) (hg : S g) : g <+: w ↔ g = w ∨ g <+: f:=by
  constructor
  · intro q
    have l:=pre_len q
    by_cases e : g.length = w.length
    · exact Or.inl (pre_eq q e)
    · exact Or.inr (h.2.2.2 g q (by omega) hg)
  · rintro (q | q)
    · rw [q]; exact List.prefix_refl _
    · exact q.trans h.1
theorem OM_t {x y g : List Nat} (h : IsLS S x y) (hg : S g) : g <+: x ↔ g <+: y:=⟨fun q => h.2.2 g q hg,fun q => q.trans h.1⟩
end Ac
/-! the trie and its breadth-first pass -/
def up {α : Type} (f : Nat→α) (i : Nat) (v : α) : Nat→α:=fun j => if j = i then v else f j
theorem up_a {α : Type} (f : Nat→α) (i : Nat) (v : α) (j : Nat) : up f i v j = if j = i then v else f j:=rfl
theorem up_eq {α : Type} {f : Nat→α} {i : Nat} {v : α} : up f i v i = v:=by rw [up_a,if_pos rfl]
theorem up_ne {α : Type} {f : Nat→α} {i j : Nat} {v : α} (h : j ≠ i) : up f i v j = f j:=by rw [up_a,if_neg h]
theorem ix2 {a b i j : Nat} (hb : b < 256) (hj : j < 256) (h : a * 256 + b = i * 256 + j) : a = i∧b = j:=by omega
section Bfs
variable {N tl hd c : Nat} {lab : Nat→List Nat} {d0 dl fl q : Nat→Nat}
def TS (N : Nat) (lab : Nat→List Nat) (w : List Nat) : Prop:=∃ v,v < N∧lab v = w
def TRI (N : Nat) (lab : Nat→List Nat) (d0 : Nat→Nat) : Prop :=
  (0 < N∧lab 0 = [])∧(∀ u v,u < N→v < N→lab u = lab v→u = v)∧(∀ v,v < N→v ≠ 0→∃ u c,u < N∧c < 256∧lab v = c::lab u∧d0 (u * 256 + c) = v) ∧
  (∀ u c,u < N→c < 256→d0 (u * 256 + c) = 0 ∨ (0 < d0 (u * 256 + c)∧d0 (u * 256 + c) < N∧lab (d0 (u * 256 + c)) = c::lab u))
theorem TRI.s0 (h : TRI N lab d0) : TS N lab []:=⟨0,h.1⟩
theorem TRI.cl (h : TRI N lab d0) (c : Nat) (w : List Nat) (hw : TS N lab (c::w)) : TS N lab w:=by
  obtain ⟨v,hv,e⟩:=hw
  have v0 : v ≠ 0:=fun z => by rw [z,h.1.2] at e; cases e
  obtain ⟨u,c',hu,_,e',_⟩:=h.2.2.1 v hv v0
  rw [e] at e'
  injection e' with _ e2
  exact ⟨u,hu,e2.symm⟩
theorem TRI.ch (h : TRI N lab d0) {u c : Nat} (hu : u < N) (hc : c < 256) (hS : TS N lab (c::lab u)) : d0 (u * 256 + c) ≠ 0:=by
  obtain ⟨v,hv,e⟩:=hS
  have v0 : v ≠ 0:=fun z => by rw [z,h.1.2] at e; cases e
  obtain ⟨u',c',hu',_,e',d⟩:=h.2.2.1 v hv v0
  rw [e] at e'
  injection e' with e1 e2
  have:=h.2.1 u u' hu hu' e2
  rw [← this,← e1] at d
  rw [d]
  exact v0
theorem TRI.nc (h : TRI N lab d0) {u c : Nat} (hu : u < N) (hc : c < 256) (hd : d0 (u * 256 + c) ≠ 0) : 0 < d0 (u * 256 + c)∧d0 (u * 256 + c) < N∧lab (d0 (u * 256 + c)) = c::lab u:=(h.2.2.2 u c hu hc).resolve_left hd
/-- the entry (u, c') stands -/
def Dn (q : Nat→Nat) (hd c u c' : Nat) : Prop:=u = 0 ∨ (∃ i,i < hd∧q i = u) ∨ (u = q hd∧c' < c)
/-- the pass: hd nodes done, of the next the letters below c -/
def BI (N : Nat) (lab : Nat→List Nat) (d0 dl fl q : Nat→Nat) (tl hd c : Nat) : Prop :=
  (hd≤tl∧(∀ i,i < tl→0 < q i∧q i < N)∧(∀ i j,i < tl→j < tl→q i = q j→i = j)∧(∀ i j,i≤j→j < tl→(lab (q i)).length≤(lab (q j)).length)∧(hd < tl→∀ i,i < tl→(lab (q i)).length≤(lab (q hd)).length + 1)) ∧
  (∀ u c',u < N→c' < 256→Dn q hd c u c'→dl (u * 256 + c') < N∧IsLS (TS N lab) (c'::lab u) (lab (dl (u * 256 + c')))) ∧
  (∀ u c',u < N→c' < 256→¬ Dn q hd c u c'→dl (u * 256 + c') = d0 (u * 256 + c')) ∧
  (∀ u c',u < N→c' < 256→Dn q hd c u c'→d0 (u * 256 + c') ≠ 0→∃ i,i < tl∧q i = d0 (u * 256 + c')) ∧
  (∀ i,i < tl→fl (q i) < N∧IsPL (TS N lab) (lab (q i)) (lab (fl (q i)))) ∧
  (∀ i,i < tl→∃ y c',y < N∧c' < 256∧Dn q hd c y c'∧d0 (y * 256 + c') = q i)
/-- the queue is short -/
theorem BI.tb (h : BI N lab d0 dl fl q tl hd c) : tl < N ∨ tl = 0:=by
  obtain ⟨⟨_,h2,h3,_⟩,_⟩:=h
  rcases Nat.eq_zero_or_pos tl with z | z
  · exact Or.inr z
  · left
    have:=PH (N - 1) tl (fun i => q i - 1) (fun i hi => by have:=h2 i hi; show q i - 1 < N - 1; omega) (fun i j hi hj e => h3 i j hi hj (by have:=h2 i hi; have:=h2 j hj; have e : q i - 1 = q j - 1:=e; omega))
    have:=h2 0 z
    omega
/-- a shorter node is done -/
theorem BI.dn (hT : TRI N lab d0) (h : BI N lab d0 dl fl q tl hd c) (hh : hd < tl) : ∀ (k x : Nat),(lab x).length = k→x < N→x ≠ 0→(lab x).length < (lab (q hd)).length→∃ i,i < hd∧q i = x:=by
  intro k
  obtain ⟨⟨h1,h2,h3,h4,h5⟩,b2,b3,b4,b5,b6⟩:=h
  induction k with
  | zero =>
    intro x e hx x0
    obtain ⟨u,c',hu,hc,el,_⟩:=hT.2.2.1 x hx x0
    rw [el] at e
    cases e
  | succ k ih =>
    intro x e hx x0 hl
    obtain ⟨u,c',hu,hc,el,ed⟩:=hT.2.2.1 x hx x0
    have lu : (lab u).length = k:=by rw [el,List.length_cons] at e; omega
    have dn : Dn q hd c u c':=by
      by_cases z : u = 0
      · exact Or.inl z
      · exact Or.inr (Or.inl (ih u lu hu z (by omega)))
    obtain ⟨i,hi,qi⟩:=b4 u c' hu hc dn (by rw [ed]; exact x0)
    rw [ed] at qi
    refine ⟨i,?_,qi⟩
    rcases Nat.lt_or_ge i hd with z | z
    · exact z
    · have:=h4 hd i z hi
      rw [qi] at this
      omega
theorem Dn_0 {u c' : Nat} (h : Dn q hd 0 u c') : u = 0 ∨ ∃ i,i < hd∧q i = u:=by
  rcases h with h | h | h
  · exact Or.inl h
  · exact Or.inr h
  · exact absurd h.2 (by omega)
/-- the failure link's row stands -/
theorem BI.fr (hT : TRI N lab d0) (h : BI N lab d0 dl fl q tl hd c) (hh : hd < tl) (hc : c < 256) : dl (fl (q hd) * 256 + c) < N∧IsLS (TS N lab) (c::lab (fl (q hd))) (lab (dl (fl (q hd) * 256 + c))):=by
  have h':=h
  obtain ⟨⟨h1,h2,h3,h4,h5⟩,b2,b3,b4,b5,b6⟩:=h
  obtain ⟨f1,f2⟩:=b5 hd hh
  refine b2 _ c f1 hc ?_
  by_cases z : fl (q hd) = 0
  · exact Or.inl z
  · exact Or.inr (Or.inl (h'.dn hT hh _ _ rfl f1 z f2.2.1))
theorem nDn (h : BI N lab d0 dl fl q tl hd c) (hh : hd < tl) {c' : Nat} (hc : c≤c') : ¬ Dn q hd c (q hd) c':=by
  obtain ⟨⟨h1,h2,h3,h4,h5⟩,_⟩:=h
  rintro (e | ⟨i,hi,e⟩ | e)
  · have:=h2 hd hh; omega
  · have:=h3 i hd (by omega) hh e; omega
  · omega
theorem Dn_s {u c' : Nat} (h : Dn q hd (c + 1) u c') : Dn q hd c u c' ∨ (u = q hd∧c' = c):=by
  rcases h with h | h | h
  · exact Or.inl (Or.inl h)
  · exact Or.inl (Or.inr (Or.inl h))
  · by_cases e : c' = c
    · exact Or.inr ⟨h.1,e⟩
    · exact Or.inl (Or.inr (Or.inr ⟨h.1,by omega⟩))
theorem Dn_w {u c' : Nat} (h : Dn q hd c u c') : Dn q hd (c + 1) u c':=by
  rcases h with h | h | h
  · exact Or.inl h
  · exact Or.inr (Or.inl h)
  · exact Or.inr (Or.inr ⟨h.1,by omega⟩)
/-- a letter without a child -/
theorem BI.no (hT : TRI N lab d0) (h : BI N lab d0 dl fl q tl hd c) (hh : hd < tl) (hc : c < 256) (hz : dl (q hd * 256 + c) = 0) : BI N lab d0 (up dl (q hd * 256 + c) (dl (fl (q hd) * 256 + c))) fl q tl hd (c + 1):=by
  have fr:=h.fr hT hh hc
  have nd:=nDn h hh (Nat.le_refl c)
  have h':=h
  obtain ⟨h0,b2,b3,b4,b5,b6⟩:=h
  have qn:=h0.2.1 hd hh
  have z0 : d0 (q hd * 256 + c) = 0:=by rw [← b3 _ c qn.2 hc nd]; exact hz
  have nS : ¬ TS N lab (c::lab (q hd)):=fun s => hT.ch qn.2 hc s z0
  refine ⟨h0,fun u c' hu hc' hD => ?_,fun u c' hu hc' hD => ?_,fun u c' hu hc' hD hne => ?_,b5,fun i hi => ?_⟩
  · by_cases e : u = q hd∧c' = c
    · rw [e.1,e.2,up_eq]
      exact ⟨fr.1,LS_f hT.cl (b5 hd hh).2 nS fr.2⟩
    · rw [up_ne (fun x => e (ix2 hc' hc x))]
      exact b2 u c' hu hc' ((Dn_s hD).resolve_right e)
  · have e : ¬ (u = q hd∧c' = c):=fun e => hD (Or.inr (Or.inr ⟨e.1,by omega⟩))
    rw [up_ne (fun x => e (ix2 hc' hc x))]
    exact b3 u c' hu hc' (fun x => hD (Dn_w x))
  · rcases Dn_s hD with x | ⟨x,y⟩
    · exact b4 u c' hu hc' x hne
    · rw [x,y] at hne; exact absurd z0 hne
  · obtain ⟨y,c',k1,k2,k3,k4⟩:=b6 i hi
    exact ⟨y,c',k1,k2,Dn_w k3,k4⟩
theorem Dn_q {v u c' : Nat} (hh : hd < tl) : Dn (up q tl v) hd c u c' ↔ Dn q hd c u c':=by
  unfold Dn
  rw [up_ne (by omega)]
  constructor
  · rintro (h | ⟨i,hi,h⟩ | h)
    · exact Or.inl h
    · rw [up_ne (by omega)] at h; exact Or.inr (Or.inl ⟨i,hi,h⟩)
    · exact Or.inr (Or.inr h)
  · rintro (h | ⟨i,hi,h⟩ | h)
    · exact Or.inl h
    · exact Or.inr (Or.inl ⟨i,hi,by rw [up_ne (by omega)]; exact h⟩)
    · exact Or.inr (Or.inr h)
/-- a letter with a child -/
theorem BI.yes (hT : TRI N lab d0) (h : BI N lab d0 dl fl q tl hd c) (hh : hd < tl) (hc : c < 256) (hz : dl (q hd * 256 + c) ≠ 0) : BI N lab d0 dl (up fl (dl (q hd * 256 + c)) (dl (fl (q hd) * 256 + c))) (up q tl (dl (q hd * 256 + c))) (tl + 1) hd (c + 1)∧dl (q hd * 256 + c) < N:=by
  have fr:=h.fr hT hh hc
  have nd:=nDn h hh (Nat.le_refl c)
  have h':=h
  obtain ⟨⟨h1,h2,h3,h4,h5⟩,b2,b3,b4,b5,b6⟩:=h
  have qn:=h2 hd hh
  have ed : dl (q hd * 256 + c) = d0 (q hd * 256 + c):=b3 _ c qn.2 hc nd
  rw [ed] at hz ⊢
  obtain ⟨v1,v2,v3⟩:=hT.nc qn.2 hc hz
  generalize hv : d0 (q hd * 256 + c) = v at *
  -- v is new
  have new : ∀ i,i < tl→q i ≠ v:=fun i hi e => by
    obtain ⟨y,c',k1,k2,k3,k4⟩:=b6 i hi
    have l:=hT.nc k1 k2 (by rw [k4,e]; exact hz)
    rw [k4,e,v3] at l
    have l:=l.2.2
    injection l with l1 l2
    have:=hT.2.1 _ _ qn.2 k1 l2
    rw [← this,← l1] at k3
    exact nd k3
  have lv : (lab v).length = (lab (q hd)).length + 1:=by rw [v3,List.length_cons]
  have fo : ∀ i,i < tl→up fl v (dl (fl (q hd) * 256 + c)) (q i) = fl (q i):=fun i hi => up_ne (new i hi)
  have qo : ∀ i,i < tl→up q tl v i = q i:=fun i hi => up_ne (by omega)
  refine ⟨⟨⟨by omega,fun i hi => ?_,fun i j hi hj e => ?_,fun i j hij hj => ?_,fun _ i hi => ?_⟩,fun u c' hu hc' hD => ?_,fun u c' hu hc' hD => ?_,fun u c' hu hc' hD hne => ?_,fun i hi => ?_,fun i hi => ?_⟩,v2⟩
  · by_cases z : i = tl
    · rw [z,up_eq]; exact ⟨v1,v2⟩
    · rw [qo i (by omega)]; exact h2 i (by omega)
  · by_cases z : i = tl
    · by_cases y : j = tl
      · omega
      · rw [z,up_eq,qo j (by omega)] at e; exact absurd e.symm (new j (by omega))
    · by_cases y : j = tl
      · rw [y,up_eq,qo i (by omega)] at e; exact absurd e (new i (by omega))
      · rw [qo i (by omega),qo j (by omega)] at e; exact h3 i j (by omega) (by omega) e
  · by_cases y : j = tl
    · rw [y,up_eq]
      by_cases z : i = tl
      · rw [z,up_eq]; exact Nat.le_refl _
      · rw [qo i (by omega),lv]; exact h5 hh i (by omega)
    · rw [qo i (by omega),qo j (by omega)]; exact h4 i j hij (by omega)
  · rw [qo hd hh]
    by_cases z : i = tl
    · rw [z,up_eq,lv]; exact Nat.le_refl _
    · rw [qo i (by omega)]; exact h5 hh i (by omega)
  · rw [Dn_q hh] at hD
    rcases Dn_s hD with x | ⟨x,y⟩
    · exact b2 u c' hu hc' x
    · rw [x,y,ed,v3]
      exact ⟨v2,LS_s ⟨v,v2,v3⟩⟩
  · rw [Dn_q hh] at hD
    exact b3 u c' hu hc' (fun x => hD (Dn_w x))
  · rw [Dn_q hh] at hD
    rcases Dn_s hD with x | ⟨x,y⟩
    · obtain ⟨i,hi,e⟩:=b4 u c' hu hc' x hne
      exact ⟨i,by omega,by rw [qo i hi]; exact e⟩
    · exact ⟨tl,by omega,by rw [up_eq,x,y,hv]⟩
  · by_cases z : i = tl
    · rw [z,up_eq,up_eq]
      refine ⟨fr.1,?_⟩
      rw [v3]
      exact PL_c hT.cl (b5 hd hh).2 fr.2
    · rw [qo i (by omega),fo i (by omega)]; exact b5 i (by omega)
  · by_cases z : i = tl
    · rw [z,up_eq]
      exact ⟨q hd,c,qn.2,hc,(Dn_q hh).mpr (Or.inr (Or.inr ⟨rfl,by omega⟩)),hv⟩
    · rw [qo i (by omega)]
      obtain ⟨y,c',k1,k2,k3,k4⟩:=b6 i (by omega)
      exact ⟨y,c',k1,k2,(Dn_q hh).mpr (Dn_w k3),k4⟩
/-- a node is done -/
theorem BI.nx (h : BI N lab d0 dl fl q tl hd 256) (hh : hd < tl) : BI N lab d0 dl fl q tl (hd + 1) 0:=by
  obtain ⟨⟨h1,h2,h3,h4,h5⟩,b2,b3,b4,b5,b6⟩:=h
  have f : ∀ u c',c' < 256→Dn q (hd + 1) 0 u c'→Dn q hd 256 u c':=fun u c' hc hD => by
    rcases Dn_0 hD with e | ⟨i,hi,e⟩
    · exact Or.inl e
    · by_cases z : i = hd
      · exact Or.inr (Or.inr ⟨by rw [← z,e],hc⟩)
      · exact Or.inr (Or.inl ⟨i,by omega,e⟩)
  have g : ∀ u c',Dn q hd 256 u c'→Dn q (hd + 1) 0 u c':=fun u c' hD => by
    rcases hD with e | ⟨i,hi,e⟩ | e
    · exact Or.inl e
    · exact Or.inr (Or.inl ⟨i,by omega,e⟩)
    · exact Or.inr (Or.inl ⟨hd,by omega,e.1.symm⟩)
  refine ⟨⟨by omega,h2,h3,h4,fun q1 i hi => ?_⟩,fun u c' hu hc hD => b2 u c' hu hc (f u c' hc hD),fun u c' hu hc hD => b3 u c' hu hc (fun x => hD (g u c' x)),fun u c' hu hc hD => b4 u c' hu hc (f u c' hc hD),b5,fun i hi => ?_⟩
  · have a:=h5 hh i hi
    have b:=h4 hd (hd + 1) (by omega) q1
    omega
  · obtain ⟨y,c',k1,k2,k3,k4⟩:=b6 i hi
    exact ⟨y,c',k1,k2,g y c' k3,k4⟩
/-- at the end: every node's row -/
theorem BI.all (hT : TRI N lab d0) (h : BI N lab d0 dl fl q tl tl 0) : ∀ (k x : Nat),(lab x).length = k→x < N→x = 0 ∨ ∃ i,i < tl∧q i = x:=by
  intro k
  obtain ⟨_,b2,b3,b4,b5,b6⟩:=h
  induction k with
  | zero =>
    intro x e hx
    by_cases x0 : x = 0
    · exact Or.inl x0
    · obtain ⟨u,c',hu,hc,el,_⟩:=hT.2.2.1 x hx x0
      rw [el] at e
      cases e
  | succ k ih =>
    intro x e hx
    by_cases x0 : x = 0
    · exact Or.inl x0
    · obtain ⟨u,c',hu,hc,el,ed⟩:=hT.2.2.1 x hx x0
      have dn : Dn q tl 0 u c':=by
        rcases ih u (by rw [el,List.length_cons] at e; omega) hu with z | z
        · exact Or.inl z
        · exact Or.inr (Or.inl z)
      obtain ⟨i,hi,qi⟩:=b4 u c' hu hc dn (by rw [ed]; exact x0)
      exact Or.inr ⟨i,hi,by rw [qi,ed]⟩
theorem BI.row (hT : TRI N lab d0) (h : BI N lab d0 dl fl q tl tl 0) {u c' : Nat} (hu : u < N) (hc : c' < 256) : dl (u * 256 + c') < N∧IsLS (TS N lab) (c'::lab u) (lab (dl (u * 256 + c'))):=by
  refine h.2.1 u c' hu hc ?_
  rcases h.all hT _ u rfl hu with z | z
  · exact Or.inl z
  · exact Or.inr (Or.inl z)
end Bfs
/-! the signatures: the trie's growth, the root's children, the masks -/
section Trie
variable {N k : Nat} {lab : Nat→List Nat} {d0 dl fl q om : Nat→Nat} {sw : Nat→List Nat}
def Z0 (N : Nat) (d0 : Nat→Nat) : Prop:=∀ i,N * 256≤i→d0 i = 0
theorem TRI_0 : TRI 1 (fun _ => []) (fun _ => 0) :=
  ⟨⟨by decide,rfl⟩,fun u v hu hv _ => by omega,fun v hv h => absurd (by omega) h,fun _ _ _ _ => Or.inl rfl⟩
set_option maxRecDepth 100000 in
theorem TRI.add (h : TRI N lab d0) (hz : Z0 N d0) {u c : Nat} (hu : u < N) (hc : c < 256) (h0 : d0 (u * 256 + c) = 0) : TRI (N + 1) (up lab N (c::lab u)) (up d0 (u * 256 + c) N)∧Z0 (N + 1) (up d0 (u * 256 + c) N):=by
  have h':=h
  obtain ⟨⟨n0,l0⟩,inj,par,row⟩:=h
  have new : ∀ v,v < N→lab v ≠ c::lab u:=fun v hv e => h'.ch hu hc ⟨v,hv,e⟩ h0
  have ol : ∀ v,v < N→up lab N (c::lab u) v = lab v:=fun v hv => up_ne (by omega)
  refine ⟨⟨⟨by omega,by rw [ol 0 n0]; exact l0⟩,fun a b ha hb e => ?_,fun v hv v0 => ?_,fun a c' ha hc' => ?_⟩,fun i hi => ?_⟩
  · by_cases x : a = N
    · by_cases y : b = N
      · omega
      · rw [x,up_eq,ol b (by omega)] at e; exact absurd e.symm (new b (by omega))
    · by_cases y : b = N
      · rw [y,up_eq,ol a (by omega)] at e; exact absurd e (new a (by omega))
      · rw [ol a (by omega),ol b (by omega)] at e; exact inj a b (by omega) (by omega) e
  · by_cases x : v = N
    · refine ⟨u,c,by omega,hc,?_,?_⟩
      · rw [x,up_eq,ol u hu]
      · rw [up_eq,x]
    · obtain ⟨a,c',k1,k2,k3,k4⟩:=par v (by omega) v0
      refine ⟨a,c',by omega,k2,?_,?_⟩
      · rw [ol v (by omega),ol a k1]; exact k3
      · rw [up_ne (fun e => v0 (by rw [← k4,e,h0]))]; exact k4
  · by_cases e : a * 256 + c' = u * 256 + c
    · obtain ⟨e1,e2⟩:=ix2 hc' hc e
      rw [e,up_eq]
      exact Or.inr ⟨n0,by omega,by rw [up_eq,e1,e2,ol u hu]⟩
    · rw [up_ne e]
      by_cases x : a = N
      · left
        exact hz _ (by rw [x]; exact Nat.le_add_right _ _)
      · rcases row a c' (by omega) hc' with r | r
        · exact Or.inl r
        · exact Or.inr ⟨r.1,by omega,by rw [ol _ r.2.1,ol a (by omega)]; exact r.2.2⟩
  · have q1 : N * 256≤i:=Nat.le_trans (Nat.mul_le_mul_right 256 (Nat.le_succ N)) hi
    have q2 : (u + 1) * 256≤N * 256:=Nat.mul_le_mul_right 256 hu
    have q3 : (u + 1) * 256 = u * 256 + 256:=Nat.succ_mul u 256
    have q4 : i ≠ u * 256 + c:=fun e => absurd (Nat.le_trans q2 q1) (by rw [q3,e]; exact Nat.not_le_of_lt (Nat.add_lt_add_left hc _))
    rw [up_ne q4]
    exact hz i q1
/-- the own masks of k signatures -/
def OWM (N k : Nat) (lab : Nat→List Nat) (sw : Nat→List Nat) (om : Nat→Nat) : Prop:=(∀ u,u < N→∀ s,(om u).testBit s = true ↔ s < k∧sw s = lab u)∧(∀ u,N≤u→om u = 0)∧∀ s,s < k→TS N lab (sw s)
theorem OWM.add (h : OWM N k lab sw om) (w : List Nat) (hn : ∀ v,v < N→lab v ≠ w) : OWM (N + 1) k (up lab N w) sw om:=by
  obtain ⟨h1,h2,h3⟩:=h
  refine ⟨fun u hu s => ?_,fun u hu => h2 u (by omega),fun s hs => ?_⟩
  · by_cases x : u = N
    · rw [x,up_eq,h2 N (Nat.le_refl _),Nat.zero_testBit]
      constructor
      · intro q; cases q
      · rintro ⟨q1,q2⟩
        obtain ⟨v,hv,e⟩:=h3 s q1
        exact absurd (e.trans q2) (hn v hv)
    · rw [up_ne x]; exact h1 u (by omega) s
  · obtain ⟨v,hv,e⟩:=h3 s hs
    exact ⟨v,by omega,by rw [up_ne (by omega)]; exact e⟩
theorem tb_one {k s : Nat} : (1 <<< k).testBit s = true ↔ s = k:=by
  rw [Nat.one_shiftLeft,Nat.testBit_two_pow]
  simp [eq_comm]
theorem OWM.set (hT : TRI N lab d0) (h : OWM N k lab sw om) {u : Nat} (hu : u < N) (e : lab u = sw k) : OWM N (k + 1) lab sw (up om u (om u ||| 1 <<< k)):=by
  obtain ⟨h1,h2,h3⟩:=h
  refine ⟨fun v hv s => ?_,fun v hv => by rw [up_ne (by omega)]; exact h2 v hv,fun s hs => ?_⟩
  · rw [up_a]
    by_cases x : v = u
    · rw [if_pos x,Nat.testBit_or,Bool.or_eq_true,tb_one,h1 u hu s,x]
      constructor
      · rintro (q | q)
        · exact ⟨by omega,q.2⟩
        · exact ⟨by omega,by rw [q,e]⟩
      · rintro ⟨q1,q2⟩
        by_cases y : s = k
        · exact Or.inr y
        · exact Or.inl ⟨by omega,q2⟩
    · rw [if_neg x,h1 v hv s]
      constructor
      · rintro ⟨q1,q2⟩; exact ⟨by omega,q2⟩
      · rintro ⟨q1,q2⟩
        refine ⟨?_,q2⟩
        by_cases y : s = k
        · exact absurd (hT.2.1 v u hv hu (by rw [← q2,y,e])) x
        · omega
  · by_cases y : s = k
    · rw [y]; exact ⟨u,hu,e⟩
    · exact h3 s (by omega)
/-- the root's children below c are in the queue -/
def B0 (N : Nat) (d0 fl q : Nat→Nat) (tl c : Nat) : Prop:=(∀ i,i < tl→∃ c',c' < c∧d0 c' = q i∧q i ≠ 0)∧(∀ i j,i < tl→j < tl→q i = q j→i = j)∧(∀ c',c' < c→d0 c' ≠ 0→∃ i,i < tl∧q i = d0 c')∧∀ i,i < tl→fl (q i) = 0
theorem B0_0 : B0 N d0 fl q 0 0:=⟨fun i hi => absurd hi (by omega),fun i j hi => absurd hi (by omega),fun c hc => absurd hc (by omega),fun i hi => absurd hi (by omega)⟩
theorem B0.no {tl c : Nat} (h : B0 N d0 fl q tl c) (hz : d0 c = 0) : B0 N d0 fl q tl (c + 1):=by
  obtain ⟨h1,h2,h3,h4⟩:=h
  refine ⟨fun i hi => ?_,h2,fun c' hc hne => ?_,h4⟩
  · obtain ⟨c',k⟩:=h1 i hi
    exact ⟨c',by omega,k.2⟩
  · by_cases e : c' = c
    · rw [e] at hne; exact absurd hz hne
    · exact h3 c' (by omega) hne
theorem B0.yes (hT : TRI N lab d0) {tl c : Nat} (h : B0 N d0 fl q tl c) (hc : c < 256) (hz : d0 c ≠ 0) : B0 N d0 (up fl (d0 c) 0) (up q tl (d0 c)) (tl + 1) (c + 1):=by
  obtain ⟨h1,h2,h3,h4⟩:=h
  have nc : ∀ c',c' < 256→d0 c' ≠ 0→lab (d0 c') = [c']:=fun c' hc' hne => by
    have:=(hT.nc (u:=0) (c:=c') hT.1.1 hc' (by rw [Nat.zero_mul,Nat.zero_add]; exact hne)).2.2
    rw [Nat.zero_mul,Nat.zero_add,hT.1.2] at this
    exact this
  have new : ∀ i,i < tl→q i ≠ d0 c:=fun i hi e => by
    obtain ⟨c',k1,k2,k3⟩:=h1 i hi
    have a:=nc c' (by omega) (by rw [k2]; exact k3)
    rw [k2,e,nc c hc hz] at a
    injection a with a
    omega
  have qo : ∀ i,i < tl→up q tl (d0 c) i = q i:=fun i hi => up_ne (by omega)
  refine ⟨fun i hi => ?_,fun i j hi hj e => ?_,fun c' hc' hne => ?_,fun i hi => ?_⟩
  · by_cases x : i = tl
    · rw [x,up_eq]; exact ⟨c,by omega,rfl,hz⟩
    · rw [qo i (by omega)]
      obtain ⟨c',k⟩:=h1 i (by omega)
      exact ⟨c',by omega,k.2⟩
  · by_cases x : i = tl
    · by_cases y : j = tl
      · omega
      · rw [x,up_eq,qo j (by omega)] at e; exact absurd e.symm (new j (by omega))
    · by_cases y : j = tl
      · rw [y,up_eq,qo i (by omega)] at e; exact absurd e (new i (by omega))
      · rw [qo i (by omega),qo j (by omega)] at e; exact h2 i j (by omega) (by omega) e
  · by_cases e : c' = c
    · exact ⟨tl,by omega,by rw [up_eq,e]⟩
    · obtain ⟨i,hi,x⟩:=h3 c' (by omega) hne
      exact ⟨i,by omega,by rw [qo i hi]; exact x⟩
  · by_cases x : i = tl
    · rw [x,up_eq,up_eq]
    · rw [qo i (by omega),up_ne (new i (by omega))]; exact h4 i (by omega)
/-- the pass begins -/
theorem BI_0 (hT : TRI N lab d0) {tl : Nat} (h : B0 N d0 fl q tl 256) : BI N lab d0 d0 fl q tl 0 0:=by
  obtain ⟨h1,h2,h3,h4⟩:=h
  have hc : ∀ i,i < tl→∃ c',c' < 256∧d0 (0 * 256 + c') = q i∧0 < q i∧q i < N∧lab (q i) = [c']:=fun i hi => by
    obtain ⟨c',k1,k2,k3⟩:=h1 i hi
    have:=hT.nc (u:=0) (c:=c') hT.1.1 k1 (by rw [Nat.zero_mul,Nat.zero_add,k2]; exact k3)
    rw [Nat.zero_mul,Nat.zero_add,k2,hT.1.2] at this
    exact ⟨c',k1,by rw [Nat.zero_mul,Nat.zero_add,k2],this⟩
  have l1 : ∀ i,i < tl→(lab (q i)).length = 1:=fun i hi => by
    obtain ⟨c',_,_,_,_,e⟩:=hc i hi
    rw [e]; rfl
  have d : ∀ u c',Dn q 0 0 u c'→u = 0:=fun u c' hD => by
    rcases Dn_0 hD with e | ⟨i,hi,_⟩
    · exact e
    · omega
  refine ⟨⟨by omega,fun i hi => ?_,h2,fun i j hij hj => ?_,fun q0 i hi => ?_⟩,fun u c' hu hc' hD => ?_,fun _ _ _ _ _ => rfl,fun u c' hu hc' hD hne => ?_,fun i hi => ?_,fun i hi => ?_⟩
  · obtain ⟨c',_,_,a,b,_⟩:=hc i hi; exact ⟨a,b⟩
  · rw [l1 i (by omega),l1 j hj]; exact Nat.le_refl _
  · rw [l1 i hi,l1 0 q0]; decide
  · rw [d u c' hD,hT.1.2]
    by_cases z : d0 (0 * 256 + c') = 0
    · rw [z,hT.1.2]
      exact ⟨hT.1.1,LS_0 hT.s0 (fun s => hT.ch hT.1.1 hc' (by rw [hT.1.2]; exact s) z)⟩
    · have:=hT.nc hT.1.1 hc' z
      rw [hT.1.2] at this
      refine ⟨this.2.1,?_⟩
      rw [this.2.2]
      exact LS_s ⟨_,this.2⟩
  · rw [d u c' hD] at hne ⊢
    rw [Nat.zero_mul,Nat.zero_add] at hne ⊢
    exact h3 c' hc' hne
  · obtain ⟨c',_,_,_,_,e⟩:=hc i hi
    rw [h4 i hi,hT.1.2,e]
    exact ⟨hT.1.1,PL_1 hT.s0⟩
  · obtain ⟨c',k1,k2,_⟩:=hc i hi
    exact ⟨0,c',hT.1.1,k1,Or.inl rfl,k2⟩
theorem B0.tb (hT : TRI N lab d0) {tl c : Nat} (h : B0 N d0 fl q tl c) (hc : c≤256) : tl < N ∨ tl = 0:=by
  obtain ⟨h1,h2,h3,h4⟩:=h
  have b : ∀ i,i < tl→0 < q i∧q i < N:=fun i hi => by
    obtain ⟨c',k1,k2,k3⟩:=h1 i hi
    have:=hT.nc (u:=0) (c:=c') hT.1.1 (by omega) (by rw [Nat.zero_mul,Nat.zero_add,k2]; exact k3)
    rw [Nat.zero_mul,Nat.zero_add,k2] at this
    exact ⟨this.1,this.2.1⟩
  rcases Nat.eq_zero_or_pos tl with z | z
  · exact Or.inr z
  · left
    have:=PH (N - 1) tl (fun i => q i - 1) (fun i hi => by have:=b i hi; show q i - 1 < N - 1; omega) (fun i j hi hj e => h2 i j hi hj (by have:=b i hi; have:=b j hj; have e : q i - 1 = q j - 1:=e; omega))
    have:=b 0 z
    omega
/-- the masks: the first k of the queue have theirs in full -/
def OMI (N ns : Nat) (lab : Nat→List Nat) (sw : Nat→List Nat) (q : Nat→Nat) (k : Nat) (om : Nat→Nat) : Prop:=∀ u,u < N→∀ s,((∃ i,i < k∧q i = u)→((om u).testBit s = true ↔ s < ns∧sw s <+: lab u))∧((¬ ∃ i,i < k∧q i = u)→((om u).testBit s = true ↔ s < ns∧sw s = lab u))
theorem OMI_0 {ns : Nat} (h : OWM N ns lab sw om) : OMI N ns lab sw q 0 om:=fun u hu s => ⟨fun ⟨i,hi,_⟩ => absurd hi (by omega),fun _ => h.1 u hu s⟩
theorem OMI.qu {ns k tl v : Nat} (h : OMI N ns lab sw q k om) (hk : k≤tl) : OMI N ns lab sw (up q tl v) k om:=fun u hu s => by
  have e : (∃ i,i < k∧up q tl v i = u) ↔ ∃ i,i < k∧q i = u:=by
    constructor
    · rintro ⟨i,hi,x⟩; rw [up_ne (by omega)] at x; exact ⟨i,hi,x⟩
    · rintro ⟨i,hi,x⟩; exact ⟨i,hi,by rw [up_ne (by omega)]; exact x⟩
  rw [e]
  exact h u hu s
theorem OMI.nx (hT : TRI N lab d0) {ns tl hd c : Nat} (hB : BI N lab d0 dl fl q tl hd c) (hh : hd < tl) (hS : ∀ s,s < ns→TS N lab (sw s)) (h1 : ∀ s,s < ns→sw s ≠ []) (h : OMI N ns lab sw q hd om) : OMI N ns lab sw q (hd + 1) (up om (q hd) (om (q hd) ||| om (fl (q hd)))):=by
  have nd:=nDn hB hh (Nat.le_refl c)
  have hB':=hB
  obtain ⟨⟨_,h2,h3,_⟩,_,_,_,b5,_⟩:=hB
  obtain ⟨f1,f2⟩:=b5 hd hh
  have qn:=h2 hd hh
  have nin : ¬ ∃ i,i < hd∧q i = q hd:=fun ⟨i,hi,e⟩ => by have:=h3 i hd (by omega) hh e; omega
  have fm : ∀ s,(om (fl (q hd))).testBit s = true ↔ s < ns∧sw s <+: lab (fl (q hd)):=fun s => by
    by_cases z : fl (q hd) = 0
    · have ni : ¬ ∃ i,i < hd∧q i = fl (q hd):=fun ⟨i,hi,e⟩ => by have:=h2 i (by omega); omega
      rw [(h _ f1 s).2 ni,z,hT.1.2]
      constructor
      · rintro ⟨a,b⟩; exact ⟨a,by rw [b]; exact List.prefix_refl _⟩
      · rintro ⟨a,b⟩; exact ⟨a,List.prefix_nil.mp b⟩
    · exact (h _ f1 s).1 (hB'.dn hT hh _ _ rfl f1 z f2.2.1)
  intro u hu s
  rw [up_a]
  by_cases e : u = q hd
  · rw [if_pos e]
    refine ⟨fun _ => ?_,fun no => absurd ⟨hd,by omega,e.symm⟩ no⟩
    rw [Nat.testBit_or,Bool.or_eq_true,fm s,(h _ qn.2 s).2 nin,e]
    constructor
    · rintro (⟨a,b⟩ | ⟨a,b⟩)
      · exact ⟨a,(OM_f f2 (hS s a)).mpr (Or.inl b)⟩
      · exact ⟨a,(OM_f f2 (hS s a)).mpr (Or.inr b)⟩
    · rintro ⟨a,b⟩
      rcases (OM_f f2 (hS s a)).mp b with x | x
      · exact Or.inl ⟨a,x⟩
      · exact Or.inr ⟨a,x⟩
  · rw [if_neg e]
    have eq : (∃ i,i < hd + 1∧q i = u) ↔ ∃ i,i < hd∧q i = u:=by
      constructor
      · rintro ⟨i,hi,x⟩
        by_cases y : i = hd
        · rw [y] at x; exact absurd x.symm e
        · exact ⟨i,by omega,x⟩
      · rintro ⟨i,hi,x⟩; exact ⟨i,by omega,x⟩
    rw [eq]
    exact h u hu s
theorem OMI.all (hT : TRI N lab d0) {ns tl : Nat} (hB : BI N lab d0 dl fl q tl tl 0) (h1 : ∀ s,s < ns→sw s ≠ []) (h : OMI N ns lab sw q tl om) {u : Nat} (hu : u < N) (s : Nat) : (om u).testBit s = true ↔ s < ns∧sw s <+: lab u:=by
  rcases hB.all hT _ u rfl hu with z | z
  · have ni : ¬ ∃ i,i < tl∧q i = u:=fun ⟨i,hi,e⟩ => by have:=hB.1.2.1 i hi; omega
    rw [(h u hu s).2 ni,z,hT.1.2]
    constructor
    · rintro ⟨a,b⟩; exact absurd b (h1 s a)
    · rintro ⟨a,b⟩; exact absurd (List.prefix_nil.mp b) (h1 s a)
  · exact (h u hu s).1 z
end Trie
/-! texts, signatures, the list of matches -/
section Mt
variable {sb sv sv' : Nat→Nat} {ns : Nat} {sw : Nat→List Nat}
def rw' (sb : Nat→Nat) (b : Nat) : Nat→List Nat
  | 0 => []
  | j + 1 => sb (b + j)::rw' sb b j
def tx (sv : Nat→Nat) : Nat→List Nat
  | 0 => []
  | j + 1 => sv j::tx sv j
theorem rw_ext {sb sb' : Nat→Nat} {b : Nat} : ∀ l,(∀ j,j < l→sb (b + j) = sb' (b + j))→rw' sb b l = rw' sb' b l:=by
  intro l
  induction l with
  | zero => intro _; rfl
  | succ l ih => intro h; rw [rw',rw',h l (by omega),ih (fun j hj => h j (by omega))]
theorem tx_ext : ∀ d,(∀ i,i < d→sv i = sv' i)→tx sv d = tx sv' d:=by
  intro d
  induction d with
  | zero => intro _; rfl
  | succ d ih => intro h; rw [tx,tx,h d (by omega),ih (fun i hi => h i (by omega))]
/-- what the law compares -/
theorem pre_iff {b : Nat} : ∀ l q,rw' sb b l <+: tx sv q ↔ l≤q∧∀ j,j < l→sv (q - l + j) = sb (b + j):=by
  intro l
  induction l with
  | zero => intro q; exact ⟨fun _ => ⟨by omega,fun j hj => absurd hj (by omega)⟩,fun _ => List.nil_prefix⟩
  | succ l ih =>
    intro q
    cases q with
    | zero =>
      constructor
      · intro h; have:=pre_len h; rw [rw',tx,List.length_cons] at this; simp at this
      · rintro ⟨h,_⟩; omega
    | succ q =>
      rw [rw',tx]
      constructor
      · intro h
        rcases pre_c h with e | ⟨z,e,hz⟩
        · cases e
        · injection e with e1 e2
          rw [← e2] at hz
          obtain ⟨h1,h2⟩:=(ih q).mp hz
          refine ⟨by omega,fun j hj => ?_⟩
          by_cases y : j = l
          · rw [y,e1]; congr 1; omega
          · rw [← h2 j (by omega)]; congr 1; omega
      · rintro ⟨h1,h2⟩
        have a:=h2 l (by omega)
        rw [show q + 1 - (l + 1) + l = q by omega] at a
        rw [← a]
        exact cons_pre ((ih q).mpr ⟨by omega,fun j hj => by rw [← h2 j (by omega)]; congr 1; omega⟩)
/-- the matches at p among the signatures below k -/
def ms (P : Nat→Bool) (p : Nat) : Nat→List (Nat × Nat)→List (Nat × Nat)
  | 0,L => L
  | k + 1,L => if P k = true then ms P p k L ++ [(k,p)] else ms P p k L
def MP (sw : Nat→List Nat) (sv : Nat→Nat) (p s : Nat) : Bool:=decide (sw s <+: tx sv (p + 1))
def mtc (ns : Nat) (sw : Nat→List Nat) (sv : Nat→Nat) : Nat→List (Nat × Nat)
  | 0 => []
  | d + 1 => ms (MP sw sv d) d ns (mtc ns sw sv d)
theorem ms_pre (P : Nat→Bool) (p : Nat) (L : List (Nat × Nat)) : ∀ k,L <+: ms P p k L:=by
  intro k
  induction k with
  | zero => exact List.prefix_refl _
  | succ k ih =>
    rw [ms]
    split
    · exact ih.trans (List.prefix_append _ _)
    · exact ih
theorem ms_mono (P : Nat→Bool) (p : Nat) (L : List (Nat × Nat)) (k : Nat) : ∀ k',k≤k'→ms P p k L <+: ms P p k' L:=by
  intro k' h
  induction k' with
  | zero => rw [show k = 0 by omega]; exact List.prefix_refl _
  | succ k' ih =>
    by_cases e : k = k' + 1
    · rw [e]; exact List.prefix_refl _
    · rw [ms]
      split
      · exact (ih (by omega)).trans (List.prefix_append _ _)
      · exact ih (by omega)
theorem mtc_mono {ns : Nat} (d : Nat) : ∀ d',d≤d'→mtc ns sw sv d <+: mtc ns sw sv d':=by
  intro d' h
  induction d' with
  | zero => rw [show d = 0 by omega]; exact List.prefix_refl _
  | succ d' ih =>
    by_cases e : d = d' + 1
    · rw [e]; exact List.prefix_refl _
    · rw [mtc]; exact (ih (by omega)).trans (ms_pre _ _ _ _)
theorem ms_len (P : Nat→Bool) (p : Nat) (L : List (Nat × Nat)) : ∀ k,(ms P p k L).length≤L.length + k:=by
  intro k
  induction k with
  | zero => exact Nat.le_refl _
  | succ k ih =>
    rw [ms]
    split
    · rw [List.length_append,List.length_singleton]; omega
    · omega
theorem mtc_len {ns : Nat} (h : ns≤8) : ∀ d,(mtc ns sw sv d).length≤8 * d:=by
  intro d
  induction d with
  | zero => exact Nat.le_refl _
  | succ d ih => rw [mtc]; have:=ms_len (MP sw sv d) d (mtc ns sw sv d) ns; omega
theorem ms_ext {P P' : Nat→Bool} {p : Nat} {L : List (Nat × Nat)} : ∀ k,(∀ s,s < k→P s = P' s)→ms P p k L = ms P' p k L:=by
  intro k
  induction k with
  | zero => intro _; rfl
  | succ k ih => intro h; rw [ms,ms,h k (by omega),ih (fun s hs => h s (by omega))]
theorem mtc_ext {ns : Nat} : ∀ d,(∀ i,i < d→sv i = sv' i)→mtc ns sw sv d = mtc ns sw sv' d:=by
  intro d
  induction d with
  | zero => intro _; rfl
  | succ d ih =>
    intro h
    rw [mtc,mtc,ih (fun i hi => h i (by omega))]
    refine ms_ext _ (fun s _ => ?_)
    unfold MP
    rw [tx_ext (d + 1) h]
/-- a prefix's element -/
theorem pre_get {α : Type} {L M : List α} (h : L <+: M) {i : Nat} (hi : i < L.length) {a : α} (e : L[i]? = some a) : M[i]? = some a:=by
  obtain ⟨t,e'⟩:=h
  rw [← e',List.getElem?_append_left hi]
  exact e
theorem get_last {α : Type} (L : List α) (a : α) : (L ++ [a])[L.length]? = some a:=by simp
end Mt
theorem nI_4 (v : Nat) : nI v * 4 = nI (v * 4):=(Int32.ofNat_mul v 4).symm
theorem nI_mul (a c : Nat) : nI a * nI c = nI (a * c):=(Int32.ofNat_mul a c).symm
theorem nI_div {a c : Nat} (ha : a < 2147483648) (hc : c < 2147483648) : nI a / nI c = nI (a / c):=by
  have hq : a / c≤a:=Nat.div_le_self a c
  apply Int32.toInt_inj.mp
  rw [Int32.toInt_div,nI_int ha,nI_int hc,nI_int (by omega),← Int.ofNat_tdiv]
  generalize a / c = q at *
  exact Int.bmod_eq_of_le (by omega) (by omega)
theorem nI_mod {a c : Nat} (ha : a < 2147483648) (hc : c < 2147483648) : nI a % nI c = nI (a % c):=by
  have hq : a % c≤a:=Nat.mod_le a c
  apply Int32.toInt_inj.mp
  rw [Int32.toInt_mod,nI_int ha,nI_int hc,nI_int (by omega),Int.tmod_eq_emod_of_nonneg (by omega)]
  rfl
theorem n0T {a : Nat} (h : 0 < a) (ha : a < 2147483648) : (nI a = 0) = False:=eq_false (nI_ne (c:=0) ha (by decide) (by omega))
theorem nnF {a : Nat} (ha : a < 2147483648) : (nI a < 0) = False:=eq_false (nI_nn ha)
theorem eT {a c : Nat} (h : a = c) : (nI a = nI c) = True:=eq_true (congrArg nI h)
theorem eF {a c : Nat} (h : a ≠ c) (ha : a < 2147483648) (hc : c < 2147483648) : (nI a = nI c) = False:=eq_false (nI_ne ha hc h)
def CM {α : Type} (F : α→Int32) (l : List Int32) (h : Nat→α) (k : Nat) : Prop:=∀ i,i < k→getA l (nI i) = F (h i)
def fB (b : Bool) : Int32:=if b = true then 1 else 0
def fH (n : Nat) : Int32:=nI n - 1
def mix {α : Type} (i : Nat) (a o : Nat→α) : Nat→α:=fun j => if j < i then a j else o j
section Cm
variable {α : Type} {F : α→Int32} {l : List Int32} {h a o : Nat→α} {k j i : Nat} {w : α} {v : Int32}
theorem CM_set (H : CM F l h k) (e : v = F w) (hj : j < l.length) (hl : l.length≤100000) (hk : k≤100000) : CM F (setA l (nI j) v) (up h j w) k:=by
  intro i hi
  rw [cf_setB hj hl (by omega),up_a]
  split
  · exact e
  · exact H i hi
theorem CM_push (H : CM F l h k) (e : v = F w) (hk : k < l.length) (hl : l.length≤100000) : CM F (setA l (nI k) v) (up h k w) (k + 1):=by
  intro i hi
  rw [cf_setB hk hl (by omega),up_a]
  split
  · exact e
  · exact H i (by omega)
theorem CM_step (H : CM F l h k) (e : v = F (h k)) (hk : k < l.length) (hl : l.length≤100000) : CM F (setA l (nI k) v) h (k + 1):=by
  intro i hi
  rw [cf_setB hk hl (by omega)]
  split
  · rename_i q; rw [e,q]
  · exact H i (by omega)
theorem CM_ext {g : Nat→α} (H : CM F l h k) (e : ∀ i,i < k→h i = g i) : CM F l g k:=fun i hi => by rw [H i hi,e i hi]
theorem CM_le (H : CM F l h k) (e : j≤k) : CM F l h j:=fun i hi => H i (by omega)
theorem CM_mixS (H : CM F l (mix i a o) k) (e : v = F (a i)) (hi : i < l.length) (hl : l.length≤100000) (hk : k≤100000) : CM F (setA l (nI i) v) (mix (i + 1) a o) k:=by
  intro q hq
  rw [cf_setB hi hl (by omega)]
  unfold mix
  by_cases z : q = i
  · rw [if_pos z,if_pos (by omega),z]; exact e
  · have:=H q hq
    unfold mix at this
    rw [if_neg z,this]
    by_cases y : q < i
    · rw [if_pos y,if_pos (by omega)]
    · rw [if_neg y,if_neg (by omega)]
theorem CM_mixN (H : CM F l (mix i a o) k) (e : a i = o i) : CM F l (mix (i + 1) a o) k:=by
  refine CM_ext H (fun q hq => ?_)
  unfold mix
  by_cases z : q = i
  · rw [if_neg (by omega),if_pos (by omega),z,e]
  · by_cases y : q < i
    · rw [if_pos y,if_pos (by omega)]
    · rw [if_neg y,if_neg (by omega)]
theorem CM_mix0 (H : CM F l o k) : CM F l (mix 0 a o) k:=H
theorem CM_mixE (H : CM F l (mix k a o) k) : CM F l a k:=CM_ext H (fun q hq => if_pos hq)
theorem mix_g {q : Nat} : mix i a o q = if q < i then a q else o q:=rfl
end Cm
theorem ou_ne {A : Nat→List Int32} {j k : Nat} {l : List Int32} (h : k ≠ j) : ou A j l k = A k:=by rw [ou_a,if_neg h]
theorem ou_eq {A : Nat→List Int32} {j : Nat} {l : List Int32} : ou A j l j = l:=by rw [ou_a,if_pos rfl]
theorem os_ne {s : Nat→Int32} {j k : Nat} {v : Int32} (h : k ≠ j) : ou s j v k = s k:=by rw [ou_a,if_neg h]
theorem os_eq {s : Nat→Int32} {j : Nat} {v : Int32} : ou s j v j = v:=by rw [ou_a,if_pos rfl]
theorem nI_256 (v : Nat) : nI v * 256 = nI (v * 256):=(Int32.ofNat_mul v 256).symm
theorem or_nI (a c : Nat) : nI a ||| nI c = nI (a ||| c):=by
  apply Int32.toBitVec_inj.mp
  rw [Int32.toBitVec_or]
  show BitVec.ofNat 32 a ||| BitVec.ofNat 32 c = BitVec.ofNat 32 (a ||| c)
  exact BitVec.ofNat_or.symm
theorem sh_r : ∀ s : Fin 16,(1 : Int32) <<< (nI s.val &&& 31) = nI (1 <<< s.val):=by decide +kernel
theorem sh_nI {s : Nat} (h : s < 16) : (1 : Int32) <<< (nI s &&& 31) = nI (1 <<< s):=sh_r ⟨s,h⟩
theorem bt_r : ∀ (m : Fin 256) (s : Fin 8),(nI m.val >>> (nI s.val &&& 31)) &&& 1 = if m.val.testBit s.val = true then 1 else 0:=by decide +kernel
theorem bt_nI {m s : Nat} (hm : m < 256) (h : s < 8) : (nI m >>> (nI s &&& 31)) &&& 1 = if m.testBit s = true then 1 else 0:=bt_r ⟨m,hm⟩ ⟨s,h⟩
def FQ (A A' : Nat→List Int32) : Prop:=∀ k,k < 3 ∨ 6 < k→A' k = A k
theorem FQ_r (A : Nat→List Int32) : FQ A A:=fun _ _ => rfl
theorem FQ_t {A A' A'' : Nat→List Int32} (h : FQ A A') (h' : FQ A' A'') : FQ A A'':=fun k a => (h' k a).trans (h k a)
theorem FQ_o {A : Nat→List Int32} {j : Nat} {l : List Int32} (h : 3≤j) (h' : j≤6) : FQ A (ou A j l):=fun k a => by rw [ou_a,if_neg (by omega)]
def SGS (k p en : Nat) (sb ss sl : Nat→Nat) (s : Nat→Int32) (A : Nat→List Int32) : Prop:=(s 1 = 0)∧(s 2 = nI k)∧(s 3 = nI en)∧(s 4 = nI p)∧(CM nI (A 0) sb (en + p))∧(CM nI (A 1) ss k)∧(CM nI (A 2) sl k)∧(∀ i,i < en + p→sb i≤1)∧(∀ i,i < k→1≤sl i∧sl i≤4∧ss i + sl i≤en)∧(en≤4 * k)∧(k≤8)∧(p≤4)∧(LN A)
theorem SGS.s1 {k p en : Nat} {sb ss sl : Nat→Nat} {s : Nat→Int32} {A : Nat→List Int32} (h : SGS k p en sb ss sl s A) : s 1 = 0:=h.1
theorem SGS.s2 {k p en : Nat} {sb ss sl : Nat→Nat} {s : Nat→Int32} {A : Nat→List Int32} (h : SGS k p en sb ss sl s A) : s 2 = nI k:=h.2.1
theorem SGS.s3 {k p en : Nat} {sb ss sl : Nat→Nat} {s : Nat→Int32} {A : Nat→List Int32} (h : SGS k p en sb ss sl s A) : s 3 = nI en:=h.2.2.1
theorem SGS.s4 {k p en : Nat} {sb ss sl : Nat→Nat} {s : Nat→Int32} {A : Nat→List Int32} (h : SGS k p en sb ss sl s A) : s 4 = nI p:=h.2.2.2.1
theorem SGS.a0 {k p en : Nat} {sb ss sl : Nat→Nat} {s : Nat→Int32} {A : Nat→List Int32} (h : SGS k p en sb ss sl s A) : CM nI (A 0) sb (en + p):=h.2.2.2.2.1
theorem SGS.a1 {k p en : Nat} {sb ss sl : Nat→Nat} {s : Nat→Int32} {A : Nat→List Int32} (h : SGS k p en sb ss sl s A) : CM nI (A 1) ss k:=h.2.2.2.2.2.1
theorem SGS.a2 {k p en : Nat} {sb ss sl : Nat→Nat} {s : Nat→Int32} {A : Nat→List Int32} (h : SGS k p en sb ss sl s A) : CM nI (A 2) sl k:=h.2.2.2.2.2.2.1
theorem SGS.bb {k p en : Nat} {sb ss sl : Nat→Nat} {s : Nat→Int32} {A : Nat→List Int32} (h : SGS k p en sb ss sl s A) : ∀ i,i < en + p→sb i≤1:=h.2.2.2.2.2.2.2.1
theorem SGS.ll {k p en : Nat} {sb ss sl : Nat→Nat} {s : Nat→Int32} {A : Nat→List Int32} (h : SGS k p en sb ss sl s A) : ∀ i,i < k→1≤sl i∧sl i≤4∧ss i + sl i≤en:=h.2.2.2.2.2.2.2.2.1
theorem SGS.en {k p en : Nat} {sb ss sl : Nat→Nat} {s : Nat→Int32} {A : Nat→List Int32} (h : SGS k p en sb ss sl s A) : en≤4 * k:=h.2.2.2.2.2.2.2.2.2.1
theorem SGS.k8 {k p en : Nat} {sb ss sl : Nat→Nat} {s : Nat→Int32} {A : Nat→List Int32} (h : SGS k p en sb ss sl s A) : k≤8:=h.2.2.2.2.2.2.2.2.2.2.1
theorem SGS.p4 {k p en : Nat} {sb ss sl : Nat→Nat} {s : Nat→Int32} {A : Nat→List Int32} (h : SGS k p en sb ss sl s A) : p≤4:=h.2.2.2.2.2.2.2.2.2.2.2.1
theorem SGS.ln {k p en : Nat} {sb ss sl : Nat→Nat} {s : Nat→Int32} {A : Nat→List Int32} (h : SGS k p en sb ss sl s A) : LN A:=h.2.2.2.2.2.2.2.2.2.2.2.2
section Sig
variable {b : Nat} {pre post : AHeap} {Q : Option Value→AHeap→Prop} {s : Nat→Int32} {A : Nat→List Int32} {k p en c ns N : Nat} {sb ss sl : Nat→Nat}
set_option maxRecDepth 1000000 in
set_option maxHeartbeats 20000000 in
theorem abW (h : SGS k p en sb ss sl s A) (hk : k < 8) (hp : p < 4) (hc : c≤1) (hq : SGS k (p + 1) en (up sb (en + p) c) ss sl (ou s 4 (nI (p + 1))) (ou A 0 (setA (A 0) (nI (en + p)) (nI c)))→Q (some (.int 0)) (put (b + 1) pre (ou s 4 (nI (p + 1))) (ou A 0 (setA (A 0) (nI (en + p)) (nI c))) post)) : M1 0 [.val (.ref (b + 1)),.val (.int (nI c)),.unset] [] (put (b + 1) pre s A post) Q:=by
  have s1:=h.s1
  have s2:=h.s2
  have s3:=h.s3
  have s4:=h.s4
  have e4:=h.en
  have c1 : (nI c < 0) = False:=nnF (by omega)
  have c2 : (255 < nI c) = False:=lF (a:=255) (by omega) (by decide)
  have c3 : (nI k < 16) = True:=lT (c:=16) (by omega) (by decide)
  have c4 : (nI p < 16) = True:=lT (c:=16) (by omega) (by decide)
  have c5 : (nI (en + p) < 64) = True:=lT (c:=64) (by omega) (by decide)
  have c6 : (nI (en + p) < 0) = False:=nnF (by omega)
  have q0:=in0 h.ln (i:=en + p) (by omega)
  have l0:=ln0 h.ln
  simp [s1,s2,s3,s4,c1,c2,c3,c4,c5,c6,q0,nI_add,nI_1,m1_0,m1_1,m1_4,m1_7,m1_8,m1_9,m1_10,m1_11,m1_14,m1_17,m1_19,m1_20,m1_21,m1_24,m1_26,m1_29,m1_31,m1_32,m1_33,m1_36,m1_38,m1_41,m1_43,m1_44,m1_45,m1_48,m1_49,m1_52,m1_53,m1_55,m1_58,m1_60,m1_61,m1_62,m1_65,m1_66,m1_69,m1_70u,m1_71,m1_72,m1_75,m1_76,m1_78,m1_81,m1_83,m1_84,m1_85,m1_88,m1_89,m1_90,m1_91,m1_92,m1_93,m1_96,m1_97,m1_98,m1_101,m1_102,nb0,nb1,ou_a,Option.toList_some,Option.toList_none,List.nil_append,List.cons_append,m2_0,m2_1,m2_4,m2_5,m2_8,m2_11,m2_12,m2_15,m2_16,nb0,nb1,ou_a,Option.toList_some,Option.toList_none,List.nil_append,List.cons_append]
  refine hq ⟨s1,s2,s3,rfl,?_,h.a1,h.a2,fun i hi => ?_,h.ll,e4,h.k8,by omega,LN_set h.ln⟩
  · rw [ou_eq]; exact CM_push h.a0 rfl (by omega) (by omega)
  · rw [up_a]
    split
    · exact hc
    · exact h.bb i (by omega)
theorem esW (h : SGS k p en sb ss sl s A) (hk : k < 8) (hp : 0 < p) (hq : ∀ s' A',(∀ i,i ≠ 2→i ≠ 3→i ≠ 4→s' i = s i)→(∀ i,i ≠ 1→i ≠ 2→A' i = A i)→SGS (k + 1) 0 (en + p) sb (up ss k en) (up sl k p) s' A'→Q (some (.int (nI k))) (put (b + 1) pre s' A' post)) : M3 0 [.val (.ref (b + 1)),.unset] [] (put (b + 1) pre s A post) Q:=by
  have s1:=h.s1
  have s2:=h.s2
  have s3:=h.s3
  have s4:=h.s4
  have e4:=h.en
  have p4:=h.p4
  have c1 : (nI p = 0) = False:=n0T hp (by omega)
  have c2 : (nI k < 0) = False:=nnF (by omega)
  have c3 : (nI k < 16) = True:=lT (c:=16) (by omega) (by decide)
  have q1:=in1 h.ln (i:=k) (by omega)
  have q2:=in2 h.ln (i:=k) (by omega)
  have l1:=ln1 h.ln
  have l2:=ln2 h.ln
  simp [s1,s2,s3,s4,c1,c2,c3,q1,q2,nI_add,nI_1,m3_0,m3_1,m3_4,m3_7,m3_8,m3_9,m3_10,m3_13,m3_16,m3_18,m3_19,m3_20,m3_23u,m3_24,m3_25,m3_28,m3_29,m3_31,m3_34,m3_36,m3_37,m3_38,m3_41,m3_42,m3_43,m3_46,m3_47,m3_48,m3_51,m3_52,m3_53,m3_56,m3_57,m3_58,m3_59,m3_62,m3_63,m3_66,m3_67,m3_70,m3_71,m3_72,m3_75,m3_76,m3_77,m3_78,m3_79,m3_82,m3_83,nb0,nb1,ou_a,Option.toList_some,Option.toList_none,List.nil_append,List.cons_append]
  refine hq _ _ (fun i h2 h3 h4 => ?_) (fun i h1 h2 => by rw [ou_ne h2,ou_ne h1]) ⟨s1,rfl,?_,?_,?_,?_,?_,fun i hi => h.bb i (by omega),fun i hi => ?_,by omega,by omega,by omega,LN_ou (LN_ou h.ln (by rw [setA_len]; exact h.ln _)) (by rw [setA_len]; exact h.ln _)⟩
  · simp only [ou_a]
    repeat rw [if_neg (by omega)]
  · simp only [ou_a]; simp
  · simp only [ou_a]; simp; rfl
  · (repeat rw [ou_ne (by decide)]); exact h.a0
  · rw [ou_ne (by decide),ou_eq]; exact CM_push h.a1 rfl (by omega) (by omega)
  · rw [ou_eq]; exact CM_push h.a2 rfl (by omega) (by omega)
  · rw [up_a,up_a]
    by_cases e : i = k
    · rw [if_pos e,if_pos e]; omega
    · have:=h.ll i (by omega)
      rw [if_neg e,if_neg e]; omega
set_option maxRecDepth 1000000 in
set_option maxHeartbeats 20000000 in
theorem clB (hq : ∀ A',LN A'→FQ A A'→CM nI (A' 3) (fun _ => 0) 16640→CM nI (A' 4) (fun _ => 0) 65→CM nI (A' 5) (fun _ => 0) 65→CM nI (A' 6) (fun _ => 0) 65→Q none (put (b + 1) pre s A' post)) : ∀ (r i : Nat) (B : Nat→List Int32),i + r = 65→LN B→FQ A B→CM nI (B 3) (fun _ => 0) 16640→CM nI (B 4) (fun _ => 0) i→CM nI (B 5) (fun _ => 0) i→CM nI (B 6) (fun _ => 0) i→M6 24 [.val (.ref (b + 1)),.val (.int (nI i))] [] (put (b + 1) pre s B post) Q:=by
  intro r
  induction r with
  | zero =>
    intro i B e hL hF h3 h4 h5 h6
    obtain rfl : i = 65:=by omega
    have c1 : (nI 65 < 65) = False:=lF (c:=65) (by omega) (by omega)
    rw [m6_24]
    simp [c1,m6_0,m6_1u,m6_3,m6_6,m6_9,m6_10,m6_13,m6_14,m6_15,m6_16,m6_19,m6_22,m6_23i,m6_25,m6_27,m6_30,m6_31,m6_34,m6_35,m6_36,m6_37,m6_38,m6_41,m6_42,m6_43,m6_44,m6_45,m6_48,m6_49,m6_50,m6_51,m6_54,m6_57,nb0,nb1,ou_a,Option.toList_some,Option.toList_none,List.nil_append,List.cons_append]
    exact hq B hL hF h3 h4 h5 h6
  | succ r ih =>
    intro i B e hL hF h3 h4 h5 h6
    have c1 : (nI i < 65) = True:=lT (c:=65) (by omega) (by omega)
    have q4:=in4 hL (i:=i) (by omega)
    have q5:=in5 hL (i:=i) (by omega)
    have q6:=in6 hL (i:=i) (by omega)
    have l4:=ln4 hL
    have l5:=ln5 hL
    have l6:=ln6 hL
    rw [m6_24]
    simp [c1,q4,q5,q6,nI_1,m6_0,m6_1u,m6_3,m6_6,m6_9,m6_10,m6_13,m6_14,m6_15,m6_16,m6_19,m6_22,m6_23i,m6_25,m6_27,m6_30,m6_31,m6_34,m6_35,m6_36,m6_37,m6_38,m6_41,m6_42,m6_43,m6_44,m6_45,m6_48,m6_49,m6_50,m6_51,m6_54,m6_57,nb0,nb1,ou_a,Option.toList_some,Option.toList_none,List.nil_append,List.cons_append]
    refine ih (i + 1) _ (by omega) ?_ ?_ ?_ ?_ ?_ ?_
    · (repeat refine LN_ou ?_ (by simp only [setA_len]; exact hL _)); exact hL
    · exact FQ_t hF (fun k hk => by rw [ou_ne (by omega),ou_ne (by omega),ou_ne (by omega)])
    · (repeat rw [ou_ne (by decide)]); exact h3
    · (repeat rw [ou_ne (by decide)]); rw [ou_eq]; exact CM_step h4 rfl (by omega) (by omega)
    · (repeat rw [ou_ne (by decide)]); rw [ou_eq]; exact CM_step h5 rfl (by omega) (by omega)
    · rw [ou_eq]; exact CM_step h6 rfl (by omega) (by omega)
theorem clA (hq : ∀ A',LN A'→FQ A A'→CM nI (A' 3) (fun _ => 0) 16640→CM nI (A' 4) (fun _ => 0) 65→CM nI (A' 5) (fun _ => 0) 65→CM nI (A' 6) (fun _ => 0) 65→Q none (put (b + 1) pre s A' post)) : ∀ (r i : Nat) (B : Nat→List Int32),i + r = 16640→LN B→FQ A B→CM nI (B 3) (fun _ => 0) i→M6 2 [.val (.ref (b + 1)),.val (.int (nI i))] [] (put (b + 1) pre s B post) Q:=by
  intro r
  induction r with
  | zero =>
    intro i B e hL hF h3
    obtain rfl : i = 16640:=by omega
    have c1 : (nI 16640 < 16640) = False:=lF (c:=16640) (by omega) (by omega)
    rw [m6_2]
    simp [c1,m6_0,m6_1u,m6_3,m6_6,m6_9,m6_10,m6_13,m6_14,m6_15,m6_16,m6_19,m6_22,m6_23i,m6_25,m6_27,m6_30,m6_31,m6_34,m6_35,m6_36,m6_37,m6_38,m6_41,m6_42,m6_43,m6_44,m6_45,m6_48,m6_49,m6_50,m6_51,m6_54,m6_57,nb0,nb1,ou_a,Option.toList_some,Option.toList_none,List.nil_append,List.cons_append]
    exact clB hq 65 0 B rfl hL hF h3 (fun _ h => absurd h (by omega)) (fun _ h => absurd h (by omega)) (fun _ h => absurd h (by omega))
  | succ r ih =>
    intro i B e hL hF h3
    have c1 : (nI i < 16640) = True:=lT (c:=16640) (by omega) (by omega)
    have q3:=in3 hL (i:=i) (by omega)
    have l3:=ln3 hL
    rw [m6_2]
    simp [c1,q3,nI_1,m6_0,m6_1u,m6_3,m6_6,m6_9,m6_10,m6_13,m6_14,m6_15,m6_16,m6_19,m6_22,m6_23i,m6_25,m6_27,m6_30,m6_31,m6_34,m6_35,m6_36,m6_37,m6_38,m6_41,m6_42,m6_43,m6_44,m6_45,m6_48,m6_49,m6_50,m6_51,m6_54,m6_57,nb0,nb1,ou_a,Option.toList_some,Option.toList_none,List.nil_append,List.cons_append]
    refine ih (i + 1) _ (by omega) (LN_set hL) (FQ_t hF (FQ_o (by decide) (by decide))) ?_
    rw [ou_eq]; exact CM_step h3 rfl (by omega) (by omega)
theorem clW (hL : LN A) (hq : ∀ A',LN A'→FQ A A'→CM nI (A' 3) (fun _ => 0) 16640→CM nI (A' 4) (fun _ => 0) 65→CM nI (A' 5) (fun _ => 0) 65→CM nI (A' 6) (fun _ => 0) 65→Q none (put (b + 1) pre s A' post)) : M6 0 [.val (.ref (b + 1)),.unset] [] (put (b + 1) pre s A post) Q:=by
  simp [m6_0,m6_1u,m6_3,m6_6,m6_9,m6_10,m6_13,m6_14,m6_15,m6_16,m6_19,m6_22,m6_23i,m6_25,m6_27,m6_30,m6_31,m6_34,m6_35,m6_36,m6_37,m6_38,m6_41,m6_42,m6_43,m6_44,m6_45,m6_48,m6_49,m6_50,m6_51,m6_54,m6_57,nb0,nb1,ou_a,Option.toList_some,Option.toList_none,List.nil_append,List.cons_append]
  exact clA hq 16640 0 A rfl hL (FQ_r _) (fun _ h => absurd h (by omega))
end Sig
def TW (k B N : Nat) (lab sw : Nat→List Nat) (d0 om : Nat→Nat) (s : Nat→Int32) (A : Nat→List Int32) : Prop:=(s 5 = nI N)∧(CM nI (A 3) d0 16640)∧(CM nI (A 5) om 65)∧(TRI N lab d0)∧(Z0 N d0)∧(OWM N k lab sw om)∧(N≤B)∧(LN A)
theorem TW.s5 {k B N : Nat} {lab sw : Nat→List Nat} {d0 om : Nat→Nat} {s : Nat→Int32} {A : Nat→List Int32} (h : TW k B N lab sw d0 om s A) : s 5 = nI N:=h.1
theorem TW.a3 {k B N : Nat} {lab sw : Nat→List Nat} {d0 om : Nat→Nat} {s : Nat→Int32} {A : Nat→List Int32} (h : TW k B N lab sw d0 om s A) : CM nI (A 3) d0 16640:=h.2.1
theorem TW.a5 {k B N : Nat} {lab sw : Nat→List Nat} {d0 om : Nat→Nat} {s : Nat→Int32} {A : Nat→List Int32} (h : TW k B N lab sw d0 om s A) : CM nI (A 5) om 65:=h.2.2.1
theorem TW.tr {k B N : Nat} {lab sw : Nat→List Nat} {d0 om : Nat→Nat} {s : Nat→Int32} {A : Nat→List Int32} (h : TW k B N lab sw d0 om s A) : TRI N lab d0:=h.2.2.2.1
theorem TW.z0 {k B N : Nat} {lab sw : Nat→List Nat} {d0 om : Nat→Nat} {s : Nat→Int32} {A : Nat→List Int32} (h : TW k B N lab sw d0 om s A) : Z0 N d0:=h.2.2.2.2.1
theorem TW.ow {k B N : Nat} {lab sw : Nat→List Nat} {d0 om : Nat→Nat} {s : Nat→Int32} {A : Nat→List Int32} (h : TW k B N lab sw d0 om s A) : OWM N k lab sw om:=h.2.2.2.2.2.1
theorem TW.nb {k B N : Nat} {lab sw : Nat→List Nat} {d0 om : Nat→Nat} {s : Nat→Int32} {A : Nat→List Int32} (h : TW k B N lab sw d0 om s A) : N≤B:=h.2.2.2.2.2.2.1
theorem TW.ln {k B N : Nat} {lab sw : Nat→List Nat} {d0 om : Nat→Nat} {s : Nat→Int32} {A : Nat→List Int32} (h : TW k B N lab sw d0 om s A) : LN A:=h.2.2.2.2.2.2.2
section Aut
variable {b : Nat} {pre post : AHeap} {Q : Option Value→AHeap→Prop} {s : Nat→Int32} {A : Nat→List Int32} {k p en c ns N : Nat} {sb ss sl om : Nat→Nat} {lab sw : Nat→List Nat} {d0 : Nat→Nat}
abbrev SW (sb ss sl : Nat→Nat) : Nat→List Nat:=fun s => rw' sb (ss s) (sl s)
theorem TW.mono {B B' : Nat} (h : TW k B N lab sw d0 om s A) (e : B≤B') : TW k B' N lab sw d0 om s A:=⟨h.s5,h.a3,h.a5,h.tr,h.z0,h.ow,Nat.le_trans h.nb e,h.ln⟩
set_option maxRecDepth 1000000 in
set_option maxHeartbeats 20000000 in
theorem isL {b0 l : Nat} (hk : k < 8) (hbl : b0 + l≤en) (hen : en≤32) (hl : l≤4) (hbb : ∀ i,i < en→sb i≤1) : ∀ (r j cur N : Nat) (lab : Nat→List Nat) (d0 : Nat→Nat) (l6 l7 : Slot) (s : Nat→Int32) (A : Nat→List Int32),j + r = l→TW k (1 + 4 * k + j) N lab sw d0 om s A→CM nI (A 0) sb en→cur < N→lab cur = rw' sb b0 j→okS l6→okS l7 →
    (∀ N' lab' d0' cur' l6 l7 s' A',TW k (1 + 4 * k + l) N' lab' sw d0' om s' A'→cur' < N'→lab' cur' = rw' sb b0 l→FQ A A'→(∀ i,i ≠ 5→s' i = s i)→(∀ i,i = 4 ∨ i = 6→A' i = A i)→M7 149 [.val (.ref (b + 1)),.val (.int (nI k)),.val (.int (nI b0)),.val (.int (nI l)),.val (.int (nI cur')),.val (.int (nI l)),l6,l7] [] (put (b + 1) pre s' A' post) Q) →
    M7 31 [.val (.ref (b + 1)),.val (.int (nI k)),.val (.int (nI b0)),.val (.int (nI l)),.val (.int (nI cur)),.val (.int (nI j)),l6,l7] [] (put (b + 1) pre s A post) Q:=by
  intro r
  induction r with
  | zero =>
    intro j cur N lab d0 l6 l7 s A e h a0 hc hlab o6 o7 hq
    obtain rfl : j = l:=by omega
    have c1 : (nI j < nI j) = False:=lF (by omega) (by omega)
    rw [m7_31]
    simp [c1,m7_0,m7_1,m7_4,m7_5,m7_7,m7_10,m7_11,m7_12,m7_15,m7_16,m7_17u,m7_18,m7_19,m7_22,m7_23,m7_24u,m7_25,m7_26u,m7_28,m7_29u,m7_33,m7_34,m7_37,m7_39,m7_41,m7_44,m7_45,m7_47,m7_48u,m7_48i,m7_48r,m7_48g,m7_50,m7_52,m7_55,m7_57,m7_59,m7_62,m7_63,m7_65,m7_68,m7_69,m7_70,m7_73,m7_75,m7_76,m7_77u,m7_77i,m7_77r,m7_77g,m7_79,m7_81,m7_84,m7_86,m7_89,m7_92,m7_93,m7_94,m7_97,m7_99,m7_100,m7_103,m7_104,m7_107,m7_109,m7_112,m7_113,m7_114,m7_117,m7_119,m7_120,m7_123,m7_124,m7_125,m7_126,m7_129,m7_130,m7_131,m7_134,m7_135,m7_138,m7_140,m7_141i,m7_143,m7_146,m7_151,m7_154,m7_156,m7_158,m7_161,m7_162,m7_165,m7_167,m7_168,m7_169,m7_170,m7_171,m7_172,m7_173,m7_174,nb0,nb1,ou_a,Option.toList_some,Option.toList_none,List.nil_append,List.cons_append]
    exact hq N lab d0 cur _ _ s A h hc hlab (FQ_r _) (fun _ _ => rfl) (fun _ _ => rfl)
  | succ r ih =>
    intro j cur N lab d0 l6 l7 s A e h a0 hc hlab o6 o7 hq
    have nb:=h.nb
    have bit:=hbb (b0 + j) (by omega)
    have c1 : (nI j < nI l) = True:=lT (by omega) (by omega)
    have c2 : (nI j < 16) = True:=lT (c:=16) (by omega) (by decide)
    have c3 : (nI (b0 + j) < 0) = False:=nnF (by omega)
    have c4 : (nI (b0 + j) < 64) = True:=lT (c:=64) (by omega) (by decide)
    have q0:=in0 h.ln (i:=b0 + j) (by omega)
    have v0:=a0 (b0 + j) (by omega)
    obtain ⟨ch,hch⟩ : ∃ ch,ch = sb (b0 + j):=⟨_,rfl⟩
    rw [← hch] at v0 bit
    have c5 : (nI (cur * 256 + ch) < 0) = False:=nnF (by omega)
    have c6 : (nI (cur * 256 + ch) < 16640) = True:=lT (c:=16640) (by omega) (by decide)
    have q3:=in3 h.ln (i:=cur * 256 + ch) (by omega)
    have v3:=h.a3 (cur * 256 + ch) (by omega)
    have l3:=ln3 h.ln
    have lab1 : rw' sb b0 (j + 1) = ch::rw' sb b0 j:=by rw [rw',hch]
    rw [m7_31]
    by_cases z : d0 (cur * 256 + ch) = 0
    · have z1 : (nI (d0 (cur * 256 + ch)) = 0) = True:=eT (c:=0) z
      have s5:=h.s5
      have c7 : (nI N < 65) = True:=lT (c:=65) (by omega) (by decide)
      have w3 : getA (setA (A 3) (nI (cur * 256 + ch)) (nI N)) (nI (cur * 256 + ch)) = nI N:=by rw [cf_setB (by omega) (by omega) (by omega),if_pos rfl]
      have r3 : inB (nI (cur * 256 + ch)) (setA (A 3) (nI (cur * 256 + ch)) (nI N)):=nI_inB (by rw [setA_len]; omega) (by rw [setA_len]; omega)
      simp [c1,c2,c3,c4,q0,v0,c5,c6,q3,v3,z1,s5,c7,w3,r3,o6,o7,nI_add,nI_256,nI_1,m7_0,m7_1,m7_4,m7_5,m7_7,m7_10,m7_11,m7_12,m7_15,m7_16,m7_17u,m7_18,m7_19,m7_22,m7_23,m7_24u,m7_25,m7_26u,m7_28,m7_29u,m7_33,m7_34,m7_37,m7_39,m7_41,m7_44,m7_45,m7_47,m7_48u,m7_48i,m7_48r,m7_48g,m7_50,m7_52,m7_55,m7_57,m7_59,m7_62,m7_63,m7_65,m7_68,m7_69,m7_70,m7_73,m7_75,m7_76,m7_77u,m7_77i,m7_77r,m7_77g,m7_79,m7_81,m7_84,m7_86,m7_89,m7_92,m7_93,m7_94,m7_97,m7_99,m7_100,m7_103,m7_104,m7_107,m7_109,m7_112,m7_113,m7_114,m7_117,m7_119,m7_120,m7_123,m7_124,m7_125,m7_126,m7_129,m7_130,m7_131,m7_134,m7_135,m7_138,m7_140,m7_141i,m7_143,m7_146,m7_151,m7_154,m7_156,m7_158,m7_161,m7_162,m7_165,m7_167,m7_168,m7_169,m7_170,m7_171,m7_172,m7_173,m7_174,nb0,nb1,ou_a,Option.toList_some,Option.toList_none,List.nil_append,List.cons_append]
      obtain ⟨t1,t2⟩:=h.tr.add h.z0 hc (show ch < 256 by omega) z
      have nw : ∀ v,v < N→lab v ≠ ch::lab cur:=fun v hv e => h.tr.ch hc (show ch < 256 by omega) ⟨v,hv,e⟩ z
      refine ih (j + 1) N (N + 1) _ _ _ _ _ _ (by omega) ⟨rfl,?_,?_,t1,t2,h.ow.add _ nw,by omega,LN_set h.ln⟩ ?_ (by omega) ?_ (okS_n _) (okS_n _) (fun N' lab' d0' cur' l6 l7 s' A' k1 k2 k3 k4 k5 k6 => hq N' lab' d0' cur' l6 l7 s' A' k1 k2 k3 (FQ_t (FQ_o (by decide) (by decide)) k4) (fun i hi => by rw [k5 i hi,os_ne hi]) (fun i hi => by rw [k6 i hi,ou_ne (by omega)]))
      · rw [ou_eq]; exact CM_set h.a3 rfl (by omega) (by omega) (by omega)
      · rw [ou_ne (by decide)]; exact h.a5
      · rw [ou_ne (by decide)]; exact a0
      · rw [up_eq,lab1,hlab]
    · have b1:=h.tr.nc hc (show ch < 256 by omega) z
      have z1 : (nI (d0 (cur * 256 + ch)) = 0) = False:=eF (c:=0) z (by omega) (by decide)
      simp [c1,c2,c3,c4,q0,v0,c5,c6,q3,v3,z1,o6,o7,nI_add,nI_256,nI_1,m7_0,m7_1,m7_4,m7_5,m7_7,m7_10,m7_11,m7_12,m7_15,m7_16,m7_17u,m7_18,m7_19,m7_22,m7_23,m7_24u,m7_25,m7_26u,m7_28,m7_29u,m7_33,m7_34,m7_37,m7_39,m7_41,m7_44,m7_45,m7_47,m7_48u,m7_48i,m7_48r,m7_48g,m7_50,m7_52,m7_55,m7_57,m7_59,m7_62,m7_63,m7_65,m7_68,m7_69,m7_70,m7_73,m7_75,m7_76,m7_77u,m7_77i,m7_77r,m7_77g,m7_79,m7_81,m7_84,m7_86,m7_89,m7_92,m7_93,m7_94,m7_97,m7_99,m7_100,m7_103,m7_104,m7_107,m7_109,m7_112,m7_113,m7_114,m7_117,m7_119,m7_120,m7_123,m7_124,m7_125,m7_126,m7_129,m7_130,m7_131,m7_134,m7_135,m7_138,m7_140,m7_141i,m7_143,m7_146,m7_151,m7_154,m7_156,m7_158,m7_161,m7_162,m7_165,m7_167,m7_168,m7_169,m7_170,m7_171,m7_172,m7_173,m7_174,nb0,nb1,ou_a,Option.toList_some,Option.toList_none,List.nil_append,List.cons_append]
      exact ih (j + 1) _ N lab d0 _ _ s A (by omega) (h.mono (by omega)) a0 b1.2.1 (by rw [b1.2.2,lab1,hlab]) (okS_n _) (okS_n _) hq
theorem isW (hS : SGS ns 0 en sb ss sl s A) (hk : k < ns) (h : TW k (1 + 4 * k) N lab (SW sb ss sl) d0 om s A)
    (hq : ∀ N' lab' d0' om' s' A',TW (k + 1) (1 + 4 * (k + 1)) N' lab' (SW sb ss sl) d0' om' s' A'→FQ A A'→(∀ i,i ≠ 5→s' i = s i)→(∀ i,i = 4 ∨ i = 6→A' i = A i)→Q none (put (b + 1) pre s' A' post)) : M7 0 [.val (.ref (b + 1)),.val (.int (nI k)),.unset,.unset,.unset,.unset,.unset,.unset] [] (put (b + 1) pre s A post) Q:=by
  have k8:=hS.k8
  have ee:=hS.en
  have sg:=hS.ll k hk
  have c1 : (nI k < 0) = False:=nnF (by omega)
  have c2 : (nI k < 16) = True:=lT (c:=16) (by omega) (by decide)
  have q1:=in1 h.ln (i:=k) (by omega)
  have v1:=hS.a1 k hk
  have q2:=in2 h.ln (i:=k) (by omega)
  have v2:=hS.a2 k hk
  simp [c1,c2,q1,v1,q2,v2,m7_0,m7_1,m7_4,m7_5,m7_7,m7_10,m7_11,m7_12,m7_15,m7_16,m7_17u,m7_18,m7_19,m7_22,m7_23,m7_24u,m7_25,m7_26u,m7_28,m7_29u,m7_33,m7_34,m7_37,m7_39,m7_41,m7_44,m7_45,m7_47,m7_48u,m7_48i,m7_48r,m7_48g,m7_50,m7_52,m7_55,m7_57,m7_59,m7_62,m7_63,m7_65,m7_68,m7_69,m7_70,m7_73,m7_75,m7_76,m7_77u,m7_77i,m7_77r,m7_77g,m7_79,m7_81,m7_84,m7_86,m7_89,m7_92,m7_93,m7_94,m7_97,m7_99,m7_100,m7_103,m7_104,m7_107,m7_109,m7_112,m7_113,m7_114,m7_117,m7_119,m7_120,m7_123,m7_124,m7_125,m7_126,m7_129,m7_130,m7_131,m7_134,m7_135,m7_138,m7_140,m7_141i,m7_143,m7_146,m7_149,m7_151,m7_154,m7_156,m7_158,m7_161,m7_162,m7_165,m7_167,m7_168,m7_169,m7_170,m7_171,m7_172,m7_173,m7_174,nb0,nb1,ou_a,Option.toList_some,Option.toList_none,List.nil_append,List.cons_append]
  refine isL (k:=k) (en:=en) (by omega) sg.2.2 (by omega) sg.2.1 (fun i hi => hS.bb i (by omega)) (sl k) 0 0 N lab d0 _ _ s A (by omega) h hS.a0 h.tr.1.1 (by rw [h.tr.1.2]; rfl) okS_u okS_u (fun N' lab' d0' cur' l6 l7 s' A' k1 k2 k3 k4 k5 k6 => ?_)
  have nb:=k1.nb
  have c3 : (nI cur' < 0) = False:=nnF (by omega)
  have c4 : (nI cur' < 65) = True:=lT (c:=65) (by omega) (by decide)
  have q5:=in5 k1.ln (i:=cur') (by omega)
  have v5:=k1.a5 cur' (by omega)
  have l5:=ln5 k1.ln
  have sh:=sh_nI (s:=k) (by omega)
  simp [c3,c4,q5,v5,sh,or_nI,m7_0,m7_1,m7_4,m7_5,m7_7,m7_10,m7_11,m7_12,m7_15,m7_16,m7_17u,m7_18,m7_19,m7_22,m7_23,m7_24u,m7_25,m7_26u,m7_28,m7_29u,m7_33,m7_34,m7_37,m7_39,m7_41,m7_44,m7_45,m7_47,m7_48u,m7_48i,m7_48r,m7_48g,m7_50,m7_52,m7_55,m7_57,m7_59,m7_62,m7_63,m7_65,m7_68,m7_69,m7_70,m7_73,m7_75,m7_76,m7_77u,m7_77i,m7_77r,m7_77g,m7_79,m7_81,m7_84,m7_86,m7_89,m7_92,m7_93,m7_94,m7_97,m7_99,m7_100,m7_103,m7_104,m7_107,m7_109,m7_112,m7_113,m7_114,m7_117,m7_119,m7_120,m7_123,m7_124,m7_125,m7_126,m7_129,m7_130,m7_131,m7_134,m7_135,m7_138,m7_140,m7_141i,m7_143,m7_146,m7_149,m7_151,m7_154,m7_156,m7_158,m7_161,m7_162,m7_165,m7_167,m7_168,m7_169,m7_170,m7_171,m7_172,m7_173,m7_174,nb0,nb1,ou_a,Option.toList_some,Option.toList_none,List.nil_append,List.cons_append]
  refine hq N' lab' d0' (up om cur' (om cur' ||| 1 <<< k)) s' _ ⟨k1.s5,?_,?_,k1.tr,k1.z0,k1.ow.set k1.tr k2 k3,by omega,LN_set k1.ln⟩ (FQ_t k4 (FQ_o (by decide) (by decide))) k5 (fun i hi => by rw [ou_ne (by omega)]; exact k6 i hi)
  · rw [ou_ne (by decide)]; exact k1.a3
  · rw [ou_eq]; exact CM_set k1.a5 rfl (by omega) (by omega) (by omega)
theorem btL (hns : ns≤8) : ∀ (r k N : Nat) (lab : Nat→List Nat) (d0 om : Nat→Nat) (s : Nat→Int32) (A : Nat→List Int32),k + r = ns→SGS ns 0 en sb ss sl s A→TW k (1 + 4 * k) N lab (SW sb ss sl) d0 om s A →
    (∀ N' lab' d0' om' s' A',TW ns (1 + 4 * ns) N' lab' (SW sb ss sl) d0' om' s' A'→FQ A A'→(∀ i,i ≠ 5→s' i = s i)→(∀ i,i = 4 ∨ i = 6→A' i = A i)→Q none (put (b + 1) pre s' A' post))→M5 11 [.val (.ref (b + 1)),.val (.int (nI k))] [] (put (b + 1) pre s A post) Q:=by
  intro r
  induction r with
  | zero =>
    intro k N lab d0 om s A e hS h hq
    obtain rfl : k = ns:=by omega
    have s2:=hS.s2
    have c1 : (nI k < nI k) = False:=lF (by omega) (by omega)
    rw [m5_11]
    simp [s2,c1,m5_0,m5_1,m5_4,m5_5,m5_6,m5_9,m5_10u,m5_12,m5_13,m5_16,m5_19,m5_20,m5_22,m5_25,m5_26,m5_27,m5_30,m5_33,m5_36,nb0,nb1,ou_a,Option.toList_some,Option.toList_none,List.nil_append,List.cons_append]
    exact hq N lab d0 om s A h (FQ_r _) (fun _ _ => rfl) (fun _ _ => rfl)
  | succ r ih =>
    intro k N lab d0 om s A e hS h hq
    have s2:=hS.s2
    have c1 : (nI k < nI ns) = True:=lT (by omega) (by omega)
    have c2 : (nI k < 16) = True:=lT (c:=16) (by omega) (by decide)
    rw [m5_11]
    simp [s2,c1,c2,m5_0,m5_1,m5_4,m5_5,m5_6,m5_9,m5_10u,m5_12,m5_13,m5_16,m5_19,m5_20,m5_22,m5_25,m5_26,m5_27,m5_30,m5_33,m5_36,nb0,nb1,ou_a,Option.toList_some,Option.toList_none,List.nil_append,List.cons_append]
    refine isW hS (by omega) h (fun N' lab' d0' om' s' A' k1 k2 k3 k4 => ?_)
    simp [nI_1,m5_0,m5_1,m5_4,m5_5,m5_6,m5_9,m5_10u,m5_12,m5_13,m5_16,m5_19,m5_20,m5_22,m5_25,m5_26,m5_27,m5_30,m5_33,m5_36,nb0,nb1,ou_a,Option.toList_some,Option.toList_none,List.nil_append,List.cons_append]
    refine ih (k + 1) N' lab' d0' om' s' A' (by omega) ⟨(k3 1 (by decide)).trans hS.s1,(k3 2 (by decide)).trans hS.s2,(k3 3 (by decide)).trans hS.s3,(k3 4 (by decide)).trans hS.s4,by rw [k2 0 (by decide)]; exact hS.a0,by rw [k2 1 (by decide)]; exact hS.a1,by rw [k2 2 (by decide)]; exact hS.a2,hS.bb,hS.ll,hS.en,hS.k8,hS.p4,k1.ln⟩ k1 (fun N'' lab'' d0'' om'' s'' A'' j1 j2 j3 j4 => hq N'' lab'' d0'' om'' s'' A'' j1 (FQ_t k2 j2) (fun i hi => (j3 i hi).trans (k3 i hi)) (fun i hi => (j4 i hi).trans (k4 i hi)))
theorem btW (hS : SGS ns 0 en sb ss sl s A) (hq : ∀ N' lab' d0' om' s' A',TW ns (1 + 4 * ns) N' lab' (SW sb ss sl) d0' om' s' A'→FQ A A'→(∀ i,i ≠ 5→s' i = s i)→CM nI (A' 4) (fun _ => 0) 65→CM nI (A' 6) (fun _ => 0) 65→Q none (put (b + 1) pre s' A' post)) : M5 0 [.val (.ref (b + 1)),.unset] [] (put (b + 1) pre s A post) Q:=by
  simp [m5_0,m5_1,m5_4,m5_5,m5_6,m5_9,m5_10u,m5_12,m5_13,m5_16,m5_19,m5_20,m5_22,m5_25,m5_26,m5_27,m5_30,m5_33,m5_36,nb0,nb1,ou_a,Option.toList_some,Option.toList_none,List.nil_append,List.cons_append]
  refine clW hS.ln (fun A1 L1 F1 h3 h4 h5 h6 => ?_)
  simp [m5_0,m5_1,m5_4,m5_5,m5_6,m5_9,m5_10u,m5_12,m5_13,m5_16,m5_19,m5_20,m5_22,m5_25,m5_26,m5_27,m5_30,m5_33,m5_36,nb0,nb1,ou_a,Option.toList_some,Option.toList_none,List.nil_append,List.cons_append]
  refine btL (en:=en) (sb:=sb) (ss:=ss) (sl:=sl) hS.k8 ns 0 1 (fun _ => []) (fun _ => 0) (fun _ => 0) _ A1 (by omega) ⟨hS.s1,hS.s2,hS.s3,hS.s4,by rw [F1 0 (by decide)]; exact hS.a0,by rw [F1 1 (by decide)]; exact hS.a1,by rw [F1 2 (by decide)]; exact hS.a2,hS.bb,hS.ll,hS.en,hS.k8,hS.p4,L1⟩ ⟨rfl,h3,h5,TRI_0,fun _ _ => rfl,⟨fun u hu t => ?_,fun _ _ => rfl,fun t ht => absurd ht (by omega)⟩,by omega,L1⟩ (fun N' lab' d0' om' s' A' k1 k2 k3 k4 => hq N' lab' d0' om' s' A' k1 (FQ_t F1 k2) (fun i hi => by rw [k3 i hi,os_ne hi]) (by rw [k4 4 (by decide)]; exact h4) (by rw [k4 6 (by decide)]; exact h6))
  rw [Nat.zero_testBit]
  constructor
  · intro q; cases q
  · rintro ⟨q,_⟩; omega
end Aut
def AW (dl fl om q : Nat→Nat) (A : Nat→List Int32) : Prop:=(CM nI (A 3) dl 16640)∧(CM nI (A 4) fl 65)∧(CM nI (A 5) om 65)∧(CM nI (A 6) q 65)∧(LN A)
theorem AW.a3 {dl fl om q : Nat→Nat} {A : Nat→List Int32} (h : AW dl fl om q A) : CM nI (A 3) dl 16640:=h.1
theorem AW.a4 {dl fl om q : Nat→Nat} {A : Nat→List Int32} (h : AW dl fl om q A) : CM nI (A 4) fl 65:=h.2.1
theorem AW.a5 {dl fl om q : Nat→Nat} {A : Nat→List Int32} (h : AW dl fl om q A) : CM nI (A 5) om 65:=h.2.2.1
theorem AW.a6 {dl fl om q : Nat→Nat} {A : Nat→List Int32} (h : AW dl fl om q A) : CM nI (A 6) q 65:=h.2.2.2.1
theorem AW.ln {dl fl om q : Nat→Nat} {A : Nat→List Int32} (h : AW dl fl om q A) : LN A:=h.2.2.2.2
section Bfs2
variable {b : Nat} {pre post : AHeap} {Q : Option Value→AHeap→Prop} {s : Nat→Int32} {A : Nat→List Int32} {ns N : Nat} {lab sw : Nat→List Nat} {d0 : Nat→Nat}
set_option maxRecDepth 1000000 in
set_option maxHeartbeats 20000000 in
theorem ba1 {om : Nat→Nat} (hT : TRI N lab d0) (hN : N≤33) : ∀ (r c tl : Nat) (fl q : Nat→Nat) (l3 : Slot) (A : Nat→List Int32),c + r = 256→AW d0 fl om q A→B0 N d0 fl q tl c→okS l3 →
    (∀ tl' fl' q' l3 A',AW d0 fl' om q' A'→B0 N d0 fl' q' tl' 256→okS l3→FQ A A'→M8 57 [.val (.ref (b + 1)),.val (.int (nI tl')),.val (.int (nI 256)),l3,.unset,.unset,.unset,.unset,.unset] [] (put (b + 1) pre s A' post) Q) →
    M8 4 [.val (.ref (b + 1)),.val (.int (nI tl)),.val (.int (nI c)),l3,.unset,.unset,.unset,.unset,.unset] [] (put (b + 1) pre s A post) Q:=by
  intro r
  induction r with
  | zero =>
    intro c tl fl q l3 A e hA hB o3 hq
    obtain rfl : c = 256:=by omega
    have c1 : (nI 256 < 256) = False:=lF (c:=256) (by omega) (by omega)
    rw [m8_4]
    simp [c1,m8_0,m8_1u,m8_2,m8_3u,m8_5,m8_8,m8_11,m8_12,m8_15,m8_16,m8_17u,m8_17i,m8_17r,m8_17g,m8_18,m8_19,m8_22,m8_23,m8_25,m8_28,m8_29,m8_31,m8_34,m8_35,m8_38,m8_39,m8_40,m8_41,m8_42,m8_45,m8_46,m8_47,m8_48,m8_51,m8_54,m8_58i,m8_60,m8_61,m8_64,m8_65,m8_67,m8_70,m8_71,m8_74,m8_75,m8_76u,m8_76i,m8_76r,m8_76g,m8_77,m8_80,m8_81,m8_84,m8_85,m8_87,m8_90,m8_93,m8_94,m8_97,m8_98,m8_99u,m8_99i,m8_99r,m8_99g,m8_101,m8_103,m8_106,m8_108,m8_110,m8_113,m8_114i,m8_116,m8_117,m8_120,m8_121,m8_122,m8_123,m8_124,m8_127,m8_129,m8_130,m8_131,m8_132,m8_133u,m8_133i,m8_133r,m8_133g,m8_137,m8_140,m8_143,m8_144,m8_147,m8_148,m8_150,m8_151u,m8_151i,m8_151r,m8_151g,m8_153,m8_154,m8_157,m8_159,m8_162,m8_163,m8_165,m8_166,m8_167u,m8_167i,m8_167r,m8_167g,m8_169,m8_170,m8_173,m8_175,m8_176u,m8_176i,m8_176r,m8_176g,m8_178,m8_180,m8_183,m8_185,m8_187,m8_190,m8_191,m8_194,m8_196,m8_198,m8_199,m8_200,m8_202,m8_205,m8_206,m8_209,m8_210,m8_212,m8_213,m8_216,m8_219,m8_220,m8_223,m8_225,m8_227,m8_228,m8_231,m8_234,m8_237,nb0,nb1,ou_a,Option.toList_some,Option.toList_none,List.nil_append,List.cons_append]
    exact hq tl fl q _ A hA hB o3 (FQ_r _)
  | succ r ih =>
    intro c tl fl q l3 A e hA hB o3 hq
    have c1 : (nI c < 256) = True:=lT (c:=256) (by omega) (by omega)
    have q3:=in3 hA.ln (i:=c) (by omega)
    have v3:=hA.a3 c (by omega)
    rw [m8_4]
    by_cases z : d0 c = 0
    · have z1 : (0 < nI (d0 c)) = False:=lF (a:=0) (by omega) (by decide)
      simp [c1,q3,v3,z1,o3,nI_1,m8_0,m8_1u,m8_2,m8_3u,m8_5,m8_8,m8_11,m8_12,m8_15,m8_16,m8_17u,m8_17i,m8_17r,m8_17g,m8_18,m8_19,m8_22,m8_23,m8_25,m8_28,m8_29,m8_31,m8_34,m8_35,m8_38,m8_39,m8_40,m8_41,m8_42,m8_45,m8_46,m8_47,m8_48,m8_51,m8_54,m8_58i,m8_60,m8_61,m8_64,m8_65,m8_67,m8_70,m8_71,m8_74,m8_75,m8_76u,m8_76i,m8_76r,m8_76g,m8_77,m8_80,m8_81,m8_84,m8_85,m8_87,m8_90,m8_93,m8_94,m8_97,m8_98,m8_99u,m8_99i,m8_99r,m8_99g,m8_101,m8_103,m8_106,m8_108,m8_110,m8_113,m8_114i,m8_116,m8_117,m8_120,m8_121,m8_122,m8_123,m8_124,m8_127,m8_129,m8_130,m8_131,m8_132,m8_133u,m8_133i,m8_133r,m8_133g,m8_137,m8_140,m8_143,m8_144,m8_147,m8_148,m8_150,m8_151u,m8_151i,m8_151r,m8_151g,m8_153,m8_154,m8_157,m8_159,m8_162,m8_163,m8_165,m8_166,m8_167u,m8_167i,m8_167r,m8_167g,m8_169,m8_170,m8_173,m8_175,m8_176u,m8_176i,m8_176r,m8_176g,m8_178,m8_180,m8_183,m8_185,m8_187,m8_190,m8_191,m8_194,m8_196,m8_198,m8_199,m8_200,m8_202,m8_205,m8_206,m8_209,m8_210,m8_212,m8_213,m8_216,m8_219,m8_220,m8_223,m8_225,m8_227,m8_228,m8_231,m8_234,m8_237,nb0,nb1,ou_a,Option.toList_some,Option.toList_none,List.nil_append,List.cons_append]
      exact ih (c + 1) tl fl q _ A (by omega) hA (hB.no z) (okS_n _) hq
    · have nc:=hT.nc (u:=0) (c:=c) hT.1.1 (by omega) (by rw [Nat.zero_mul,Nat.zero_add]; exact z)
      rw [Nat.zero_mul,Nat.zero_add] at nc
      have tb:=hB.tb hT (by omega)
      have z1 : (0 < nI (d0 c)) = True:=lT (a:=0) nc.1 (by omega)
      have z2 : (nI (d0 c) < 65) = True:=lT (c:=65) (by omega) (by decide)
      have z3 : (nI tl < 65) = True:=lT (c:=65) (by omega) (by decide)
      have q4:=in4 hA.ln (i:=d0 c) (by omega)
      have q6:=in6 hA.ln (i:=tl) (by omega)
      have l4:=ln4 hA.ln
      have l6:=ln6 hA.ln
      simp [c1,q3,v3,z1,z2,z3,q4,q6,o3,nI_1,m8_0,m8_1u,m8_2,m8_3u,m8_5,m8_8,m8_11,m8_12,m8_15,m8_16,m8_17u,m8_17i,m8_17r,m8_17g,m8_18,m8_19,m8_22,m8_23,m8_25,m8_28,m8_29,m8_31,m8_34,m8_35,m8_38,m8_39,m8_40,m8_41,m8_42,m8_45,m8_46,m8_47,m8_48,m8_51,m8_54,m8_58i,m8_60,m8_61,m8_64,m8_65,m8_67,m8_70,m8_71,m8_74,m8_75,m8_76u,m8_76i,m8_76r,m8_76g,m8_77,m8_80,m8_81,m8_84,m8_85,m8_87,m8_90,m8_93,m8_94,m8_97,m8_98,m8_99u,m8_99i,m8_99r,m8_99g,m8_101,m8_103,m8_106,m8_108,m8_110,m8_113,m8_114i,m8_116,m8_117,m8_120,m8_121,m8_122,m8_123,m8_124,m8_127,m8_129,m8_130,m8_131,m8_132,m8_133u,m8_133i,m8_133r,m8_133g,m8_137,m8_140,m8_143,m8_144,m8_147,m8_148,m8_150,m8_151u,m8_151i,m8_151r,m8_151g,m8_153,m8_154,m8_157,m8_159,m8_162,m8_163,m8_165,m8_166,m8_167u,m8_167i,m8_167r,m8_167g,m8_169,m8_170,m8_173,m8_175,m8_176u,m8_176i,m8_176r,m8_176g,m8_178,m8_180,m8_183,m8_185,m8_187,m8_190,m8_191,m8_194,m8_196,m8_198,m8_199,m8_200,m8_202,m8_205,m8_206,m8_209,m8_210,m8_212,m8_213,m8_216,m8_219,m8_220,m8_223,m8_225,m8_227,m8_228,m8_231,m8_234,m8_237,nb0,nb1,ou_a,Option.toList_some,Option.toList_none,List.nil_append,List.cons_append]
      refine ih (c + 1) (tl + 1) (up fl (d0 c) 0) (up q tl (d0 c)) _ _ (by omega) ⟨?_,?_,?_,?_,LN_ou (LN_ou hA.ln (by rw [setA_len]; exact hA.ln _)) (by rw [setA_len]; exact hA.ln _)⟩ (hB.yes hT (by omega) z) (okS_n _) (fun tl' fl' q' l3 A' k1 k2 k3 k4 => hq tl' fl' q' l3 A' k1 k2 k3 (FQ_t (fun k hk => by rw [ou_ne (by omega),ou_ne (by omega)]) k4))
      · (repeat rw [ou_ne (by decide)]); exact hA.a3
      · (repeat rw [ou_ne (by decide)]); rw [ou_eq]; exact CM_set hA.a4 rfl (by omega) (by omega) (by omega)
      · (repeat rw [ou_ne (by decide)]); exact hA.a5
      · rw [ou_eq]; exact CM_set hA.a6 rfl (by omega) (by omega) (by omega)
theorem ba3 {om : Nat→Nat} {hd u f : Nat} (hT : TRI N lab d0) (hN : N≤33) : ∀ (r c tl : Nat) (dl fl q : Nat→Nat) (l6 l7 l8 : Slot) (A : Nat→List Int32),c + r = 256→AW dl fl om q A→BI N lab d0 dl fl q tl hd c→hd < tl→q hd = u→fl u = f→OMI N ns lab sw q (hd + 1) om→okS l6→okS l7→okS l8 →
    (∀ tl' dl' fl' q' l6 l7 l8 A',AW dl' fl' om q' A'→BI N lab d0 dl' fl' q' tl' hd 256→hd < tl'→OMI N ns lab sw q' (hd + 1) om→okS l6→okS l7→okS l8→FQ A A'→M8 234 [.val (.ref (b + 1)),.val (.int (nI tl')),.val (.int (nI (hd + 1))),.val (.int (nI u)),.val (.int (nI f)),.val (.int (nI 256)),l6,l7,l8] [] (put (b + 1) pre s A' post) Q) →
    M8 135 [.val (.ref (b + 1)),.val (.int (nI tl)),.val (.int (nI (hd + 1))),.val (.int (nI u)),.val (.int (nI f)),.val (.int (nI c)),l6,l7,l8] [] (put (b + 1) pre s A post) Q:=by
  intro r
  induction r with
  | zero =>
    intro c tl dl fl q l6 l7 l8 A e hA hB hh eu ef hO o6 o7 o8 hq
    obtain rfl : c = 256:=by omega
    have c1 : (nI 256 < 256) = False:=lF (c:=256) (by omega) (by omega)
    rw [m8_135]
    simp [c1,m8_0,m8_1u,m8_2,m8_3u,m8_5,m8_8,m8_11,m8_12,m8_15,m8_16,m8_17u,m8_17i,m8_17r,m8_17g,m8_18,m8_19,m8_22,m8_23,m8_25,m8_28,m8_29,m8_31,m8_34,m8_35,m8_38,m8_39,m8_40,m8_41,m8_42,m8_45,m8_46,m8_47,m8_48,m8_51,m8_54,m8_57,m8_58i,m8_60,m8_61,m8_64,m8_65,m8_67,m8_70,m8_71,m8_74,m8_75,m8_76u,m8_76i,m8_76r,m8_76g,m8_77,m8_80,m8_81,m8_84,m8_85,m8_87,m8_90,m8_93,m8_94,m8_97,m8_98,m8_99u,m8_99i,m8_99r,m8_99g,m8_101,m8_103,m8_106,m8_108,m8_110,m8_113,m8_114i,m8_116,m8_117,m8_120,m8_121,m8_122,m8_123,m8_124,m8_127,m8_129,m8_130,m8_131,m8_132,m8_133u,m8_133i,m8_133r,m8_133g,m8_137,m8_140,m8_143,m8_144,m8_147,m8_148,m8_150,m8_151u,m8_151i,m8_151r,m8_151g,m8_153,m8_154,m8_157,m8_159,m8_162,m8_163,m8_165,m8_166,m8_167u,m8_167i,m8_167r,m8_167g,m8_169,m8_170,m8_173,m8_175,m8_176u,m8_176i,m8_176r,m8_176g,m8_178,m8_180,m8_183,m8_185,m8_187,m8_190,m8_191,m8_194,m8_196,m8_198,m8_199,m8_200,m8_202,m8_205,m8_206,m8_209,m8_210,m8_212,m8_213,m8_216,m8_219,m8_220,m8_223,m8_225,m8_227,m8_228,m8_231,m8_237,nb0,nb1,ou_a,Option.toList_some,Option.toList_none,List.nil_append,List.cons_append]
    exact hq tl dl fl q _ _ _ A hA hB hh hO o6 o7 o8 (FQ_r _)
  | succ r ih =>
    intro c tl dl fl q l6 l7 l8 A e hA hB hh eu ef hO o6 o7 o8 hq
    have c1 : (nI c < 256) = True:=lT (c:=256) (by omega) (by omega)
    have fr:=hB.fr hT hh (by omega)
    have un:=hB.1.2.1 hd hh
    have fn:=(hB.2.2.2.2.1 hd hh).1
    have tb:=hB.tb
    rw [eu] at un fr fn
    rw [ef] at fr fn
    have q3:=in3 hA.ln (i:=u * 256 + c) (by omega)
    have v3:=hA.a3 (u * 256 + c) (by omega)
    have q3f:=in3 hA.ln (i:=f * 256 + c) (by omega)
    have v3f:=hA.a3 (f * 256 + c) (by omega)
    have l3:=ln3 hA.ln
    rw [m8_135]
    by_cases z : dl (u * 256 + c) = 0
    · have z1 : (0 < nI (dl (u * 256 + c))) = False:=lF (a:=0) (by omega) (by decide)
      simp [c1,q3,v3,q3f,v3f,z1,o6,o7,o8,nI_add,nI_256,nI_1,m8_0,m8_1u,m8_2,m8_3u,m8_5,m8_8,m8_11,m8_12,m8_15,m8_16,m8_17u,m8_17i,m8_17r,m8_17g,m8_18,m8_19,m8_22,m8_23,m8_25,m8_28,m8_29,m8_31,m8_34,m8_35,m8_38,m8_39,m8_40,m8_41,m8_42,m8_45,m8_46,m8_47,m8_48,m8_51,m8_54,m8_57,m8_58i,m8_60,m8_61,m8_64,m8_65,m8_67,m8_70,m8_71,m8_74,m8_75,m8_76u,m8_76i,m8_76r,m8_76g,m8_77,m8_80,m8_81,m8_84,m8_85,m8_87,m8_90,m8_93,m8_94,m8_97,m8_98,m8_99u,m8_99i,m8_99r,m8_99g,m8_101,m8_103,m8_106,m8_108,m8_110,m8_113,m8_114i,m8_116,m8_117,m8_120,m8_121,m8_122,m8_123,m8_124,m8_127,m8_129,m8_130,m8_131,m8_132,m8_133u,m8_133i,m8_133r,m8_133g,m8_137,m8_140,m8_143,m8_144,m8_147,m8_148,m8_150,m8_151u,m8_151i,m8_151r,m8_151g,m8_153,m8_154,m8_157,m8_159,m8_162,m8_163,m8_165,m8_166,m8_167u,m8_167i,m8_167r,m8_167g,m8_169,m8_170,m8_173,m8_175,m8_176u,m8_176i,m8_176r,m8_176g,m8_178,m8_180,m8_183,m8_185,m8_187,m8_190,m8_191,m8_194,m8_196,m8_198,m8_199,m8_200,m8_202,m8_205,m8_206,m8_209,m8_210,m8_212,m8_213,m8_216,m8_219,m8_220,m8_223,m8_225,m8_227,m8_228,m8_231,m8_237,nb0,nb1,ou_a,Option.toList_some,Option.toList_none,List.nil_append,List.cons_append]
      have hB':=hB.no hT hh (by omega) (by rw [eu]; exact z)
      rw [eu,ef] at hB'
      refine ih (c + 1) tl _ fl q _ _ _ _ (by omega) ⟨?_,?_,?_,?_,LN_set hA.ln⟩ hB' hh eu ef hO (okS_n _) (okS_n _) (okS_n _) (fun tl' dl' fl' q' l6 l7 l8 A' k1 k2 k3 k4 k5 k6 k7 k8 => hq tl' dl' fl' q' l6 l7 l8 A' k1 k2 k3 k4 k5 k6 k7 (FQ_t (FQ_o (by decide) (by decide)) k8))
      · rw [ou_eq]; exact CM_set hA.a3 rfl (by omega) (by omega) (by omega)
      · (repeat rw [ou_ne (by decide)]); exact hA.a4
      · (repeat rw [ou_ne (by decide)]); exact hA.a5
      · (repeat rw [ou_ne (by decide)]); exact hA.a6
    · obtain ⟨hB',vn⟩:=hB.yes hT hh (by omega) (by rw [eu]; exact z)
      rw [eu,ef] at hB'
      rw [eu] at vn
      have z1 : (0 < nI (dl (u * 256 + c))) = True:=lT (a:=0) (by omega) (by omega)
      have z2 : (nI (dl (u * 256 + c)) < 65) = True:=lT (c:=65) (by omega) (by decide)
      have z3 : (nI tl < 65) = True:=lT (c:=65) (by omega) (by decide)
      have q4:=in4 hA.ln (i:=dl (u * 256 + c)) (by omega)
      have q6:=in6 hA.ln (i:=tl) (by omega)
      have l4:=ln4 hA.ln
      have l6':=ln6 hA.ln
      have eu' : up q tl (dl (u * 256 + c)) hd = u:=by rw [up_ne (by omega)]; exact eu
      have vu : u ≠ dl (u * 256 + c):=fun e => by
        have:=hB'.1.2.2.1 hd tl (by omega) (by omega) (by rw [eu',up_eq]; exact e)
        omega
      simp [c1,q3,v3,q3f,v3f,z1,z2,z3,q4,q6,o6,o7,o8,nI_add,nI_256,nI_1,m8_0,m8_1u,m8_2,m8_3u,m8_5,m8_8,m8_11,m8_12,m8_15,m8_16,m8_17u,m8_17i,m8_17r,m8_17g,m8_18,m8_19,m8_22,m8_23,m8_25,m8_28,m8_29,m8_31,m8_34,m8_35,m8_38,m8_39,m8_40,m8_41,m8_42,m8_45,m8_46,m8_47,m8_48,m8_51,m8_54,m8_57,m8_58i,m8_60,m8_61,m8_64,m8_65,m8_67,m8_70,m8_71,m8_74,m8_75,m8_76u,m8_76i,m8_76r,m8_76g,m8_77,m8_80,m8_81,m8_84,m8_85,m8_87,m8_90,m8_93,m8_94,m8_97,m8_98,m8_99u,m8_99i,m8_99r,m8_99g,m8_101,m8_103,m8_106,m8_108,m8_110,m8_113,m8_114i,m8_116,m8_117,m8_120,m8_121,m8_122,m8_123,m8_124,m8_127,m8_129,m8_130,m8_131,m8_132,m8_133u,m8_133i,m8_133r,m8_133g,m8_137,m8_140,m8_143,m8_144,m8_147,m8_148,m8_150,m8_151u,m8_151i,m8_151r,m8_151g,m8_153,m8_154,m8_157,m8_159,m8_162,m8_163,m8_165,m8_166,m8_167u,m8_167i,m8_167r,m8_167g,m8_169,m8_170,m8_173,m8_175,m8_176u,m8_176i,m8_176r,m8_176g,m8_178,m8_180,m8_183,m8_185,m8_187,m8_190,m8_191,m8_194,m8_196,m8_198,m8_199,m8_200,m8_202,m8_205,m8_206,m8_209,m8_210,m8_212,m8_213,m8_216,m8_219,m8_220,m8_223,m8_225,m8_227,m8_228,m8_231,m8_237,nb0,nb1,ou_a,Option.toList_some,Option.toList_none,List.nil_append,List.cons_append]
      refine ih (c + 1) (tl + 1) dl _ _ _ _ _ _ (by omega) ⟨?_,?_,?_,?_,LN_ou (LN_ou hA.ln (by rw [setA_len]; exact hA.ln _)) (by rw [setA_len]; exact hA.ln _)⟩ hB' (by omega) eu' (by rw [up_ne vu]; exact ef) (hO.qu (by omega)) (okS_n _) (okS_n _) (okS_n _) (fun tl' dl' fl' q' l6 l7 l8 A' k1 k2 k3 k4 k5 k6 k7 k8 => hq tl' dl' fl' q' l6 l7 l8 A' k1 k2 k3 k4 k5 k6 k7 (FQ_t (fun k hk => by rw [ou_ne (by omega),ou_ne (by omega)]) k8))
      · (repeat rw [ou_ne (by decide)]); exact hA.a3
      · (repeat rw [ou_ne (by decide)]); rw [ou_eq]; exact CM_set hA.a4 rfl (by omega) (by omega) (by omega)
      · (repeat rw [ou_ne (by decide)]); exact hA.a5
      · rw [ou_eq]; exact CM_set hA.a6 rfl (by omega) (by omega) (by omega)
theorem ba2 (hT : TRI N lab d0) (hN : N≤33) (hS : ∀ s,s < ns→TS N lab (sw s)) (h1 : ∀ s,s < ns→sw s ≠ []) : ∀ (r hd tl : Nat) (dl fl om q : Nat→Nat) (l3 l4 l5 l6 l7 l8 : Slot) (A : Nat→List Int32),hd + r = 65→AW dl fl om q A→BI N lab d0 dl fl q tl hd 0→OMI N ns lab sw q hd om→okS l3→okS l4→okS l5→okS l6→okS l7→okS l8 →
    (∀ tl' dl' fl' om' q' A',AW dl' fl' om' q' A'→BI N lab d0 dl' fl' q' tl' tl' 0→OMI N ns lab sw q' tl' om'→FQ A A'→Q none (put (b + 1) pre s A' post)) →
    M8 59 [.val (.ref (b + 1)),.val (.int (nI tl)),.val (.int (nI hd)),l3,l4,l5,l6,l7,l8] [] (put (b + 1) pre s A post) Q:=by
  intro r
  induction r with
  | zero =>
    intro hd tl dl fl om q l3 l4 l5 l6 l7 l8 A e hA hB hO o3 o4 o5 o6 o7 o8 hq
    have:=hB.tb
    have:=hB.1.1
    omega
  | succ r ih =>
    intro hd tl dl fl om q l3 l4 l5 l6 l7 l8 A e hA hB hO o3 o4 o5 o6 o7 o8 hq
    have tb:=hB.tb
    have le:=hB.1.1
    rw [m8_59]
    by_cases z : hd < tl
    · have c1 : (nI hd < nI tl) = True:=lT z (by omega)
      have c2 : (nI hd < 65) = True:=lT (c:=65) (by omega) (by decide)
      have un:=hB.1.2.1 hd z
      have fn:=(hB.2.2.2.2.1 hd z).1
      have q6:=in6 hA.ln (i:=hd) (by omega)
      have v6:=hA.a6 hd (by omega)
      obtain ⟨u,hu⟩ : ∃ u,u = q hd:=⟨_,rfl⟩
      rw [← hu] at un fn v6
      obtain ⟨f,hf⟩ : ∃ f,f = fl u:=⟨_,rfl⟩
      rw [← hf] at fn
      have c3 : (0 < nI u) = True:=lT (a:=0) un.1 (by omega)
      have c4 : (nI u < 65) = True:=lT (c:=65) (by omega) (by decide)
      have q4:=in4 hA.ln (i:=u) (by omega)
      have v4:=hA.a4 u (by omega)
      rw [← hf] at v4
      have c5 : (nI f < 0) = False:=nnF (by omega)
      have c6 : (nI f < 65) = True:=lT (c:=65) (by omega) (by decide)
      have q5:=in5 hA.ln (i:=u) (by omega)
      have v5:=hA.a5 u (by omega)
      have q5f:=in5 hA.ln (i:=f) (by omega)
      have v5f:=hA.a5 f (by omega)
      have l5':=ln5 hA.ln
      have hO':=hO.nx hT hB z hS h1
      rw [← hu,← hf] at hO'
      simp [c1,c2,q6,v6,c3,c4,q4,v4,c5,c6,q5,v5,q5f,v5f,o3,o4,o5,or_nI,nI_1,m8_0,m8_1u,m8_2,m8_3u,m8_5,m8_8,m8_11,m8_12,m8_15,m8_16,m8_17u,m8_17i,m8_17r,m8_17g,m8_18,m8_19,m8_22,m8_23,m8_25,m8_28,m8_29,m8_31,m8_34,m8_35,m8_38,m8_39,m8_40,m8_41,m8_42,m8_45,m8_46,m8_47,m8_48,m8_51,m8_54,m8_57,m8_58i,m8_60,m8_61,m8_64,m8_65,m8_67,m8_70,m8_71,m8_74,m8_75,m8_76u,m8_76i,m8_76r,m8_76g,m8_77,m8_80,m8_81,m8_84,m8_85,m8_87,m8_90,m8_93,m8_94,m8_97,m8_98,m8_99u,m8_99i,m8_99r,m8_99g,m8_101,m8_103,m8_106,m8_108,m8_110,m8_113,m8_114i,m8_116,m8_117,m8_120,m8_121,m8_122,m8_123,m8_124,m8_127,m8_129,m8_130,m8_131,m8_132,m8_133u,m8_133i,m8_133r,m8_133g,m8_137,m8_140,m8_143,m8_144,m8_147,m8_148,m8_150,m8_151u,m8_151i,m8_151r,m8_151g,m8_153,m8_154,m8_157,m8_159,m8_162,m8_163,m8_165,m8_166,m8_167u,m8_167i,m8_167r,m8_167g,m8_169,m8_170,m8_173,m8_175,m8_176u,m8_176i,m8_176r,m8_176g,m8_178,m8_180,m8_183,m8_185,m8_187,m8_190,m8_191,m8_194,m8_196,m8_198,m8_199,m8_200,m8_202,m8_205,m8_206,m8_209,m8_210,m8_212,m8_213,m8_216,m8_219,m8_220,m8_223,m8_225,m8_227,m8_228,m8_231,m8_234,m8_237,nb0,nb1,ou_a,Option.toList_some,Option.toList_none,List.nil_append,List.cons_append]
      refine ba3 hT hN 256 0 tl dl fl q _ _ _ _ (by omega) ⟨?_,?_,?_,?_,LN_set hA.ln⟩ hB z hu.symm hf.symm hO' o6 o7 o8 (fun tl' dl' fl' q' l6 l7 l8 A' k1 k2 k3 k4 k5 k6 k7 k8 => ?_)
      · (repeat rw [ou_ne (by decide)]); exact hA.a3
      · (repeat rw [ou_ne (by decide)]); exact hA.a4
      · rw [ou_eq]; exact CM_set hA.a5 rfl (by omega) (by omega) (by omega)
      · (repeat rw [ou_ne (by decide)]); exact hA.a6
      · simp [m8_0,m8_1u,m8_2,m8_3u,m8_5,m8_8,m8_11,m8_12,m8_15,m8_16,m8_17u,m8_17i,m8_17r,m8_17g,m8_18,m8_19,m8_22,m8_23,m8_25,m8_28,m8_29,m8_31,m8_34,m8_35,m8_38,m8_39,m8_40,m8_41,m8_42,m8_45,m8_46,m8_47,m8_48,m8_51,m8_54,m8_57,m8_58i,m8_60,m8_61,m8_64,m8_65,m8_67,m8_70,m8_71,m8_74,m8_75,m8_76u,m8_76i,m8_76r,m8_76g,m8_77,m8_80,m8_81,m8_84,m8_85,m8_87,m8_90,m8_93,m8_94,m8_97,m8_98,m8_99u,m8_99i,m8_99r,m8_99g,m8_101,m8_103,m8_106,m8_108,m8_110,m8_113,m8_114i,m8_116,m8_117,m8_120,m8_121,m8_122,m8_123,m8_124,m8_127,m8_129,m8_130,m8_131,m8_132,m8_133u,m8_133i,m8_133r,m8_133g,m8_137,m8_140,m8_143,m8_144,m8_147,m8_148,m8_150,m8_151u,m8_151i,m8_151r,m8_151g,m8_153,m8_154,m8_157,m8_159,m8_162,m8_163,m8_165,m8_166,m8_167u,m8_167i,m8_167r,m8_167g,m8_169,m8_170,m8_173,m8_175,m8_176u,m8_176i,m8_176r,m8_176g,m8_178,m8_180,m8_183,m8_185,m8_187,m8_190,m8_191,m8_194,m8_196,m8_198,m8_199,m8_200,m8_202,m8_205,m8_206,m8_209,m8_210,m8_212,m8_213,m8_216,m8_219,m8_220,m8_223,m8_225,m8_227,m8_228,m8_231,m8_234,m8_237,nb0,nb1,ou_a,Option.toList_some,Option.toList_none,List.nil_append,List.cons_append]
        exact ih (hd + 1) tl' dl' fl' _ q' _ _ _ _ _ _ A' (by omega) k1 (k2.nx k3) k4 (okS_n _) (okS_n _) (okS_n _) k5 k6 k7 (fun tl'' dl'' fl'' om'' q'' A'' j1 j2 j3 j4 => hq tl'' dl'' fl'' om'' q'' A'' j1 j2 j3 (FQ_t (FQ_t (FQ_o (by decide) (by decide)) k8) j4))
    · have c1 : (nI hd < nI tl) = False:=lF (by omega) (by omega)
      obtain rfl : hd = tl:=by omega
      simp [c1,m8_0,m8_1u,m8_2,m8_3u,m8_5,m8_8,m8_11,m8_12,m8_15,m8_16,m8_17u,m8_17i,m8_17r,m8_17g,m8_18,m8_19,m8_22,m8_23,m8_25,m8_28,m8_29,m8_31,m8_34,m8_35,m8_38,m8_39,m8_40,m8_41,m8_42,m8_45,m8_46,m8_47,m8_48,m8_51,m8_54,m8_57,m8_58i,m8_60,m8_61,m8_64,m8_65,m8_67,m8_70,m8_71,m8_74,m8_75,m8_76u,m8_76i,m8_76r,m8_76g,m8_77,m8_80,m8_81,m8_84,m8_85,m8_87,m8_90,m8_93,m8_94,m8_97,m8_98,m8_99u,m8_99i,m8_99r,m8_99g,m8_101,m8_103,m8_106,m8_108,m8_110,m8_113,m8_114i,m8_116,m8_117,m8_120,m8_121,m8_122,m8_123,m8_124,m8_127,m8_129,m8_130,m8_131,m8_132,m8_133u,m8_133i,m8_133r,m8_133g,m8_137,m8_140,m8_143,m8_144,m8_147,m8_148,m8_150,m8_151u,m8_151i,m8_151r,m8_151g,m8_153,m8_154,m8_157,m8_159,m8_162,m8_163,m8_165,m8_166,m8_167u,m8_167i,m8_167r,m8_167g,m8_169,m8_170,m8_173,m8_175,m8_176u,m8_176i,m8_176r,m8_176g,m8_178,m8_180,m8_183,m8_185,m8_187,m8_190,m8_191,m8_194,m8_196,m8_198,m8_199,m8_200,m8_202,m8_205,m8_206,m8_209,m8_210,m8_212,m8_213,m8_216,m8_219,m8_220,m8_223,m8_225,m8_227,m8_228,m8_231,m8_234,m8_237,nb0,nb1,ou_a,Option.toList_some,Option.toList_none,List.nil_append,List.cons_append]
      exact hq hd dl fl om q A hA hB hO (FQ_r _)
theorem baW {om : Nat→Nat} (hT : TRI N lab d0) (hN : N≤33) (hS : ∀ s,s < ns→TS N lab (sw s)) (h1 : ∀ s,s < ns→sw s ≠ []) (hO : OWM N ns lab sw om) (hA : AW d0 (fun _ => 0) om (fun _ => 0) A)
    (hq : ∀ tl' dl' fl' om' q' A',AW dl' fl' om' q' A'→BI N lab d0 dl' fl' q' tl' tl' 0→OMI N ns lab sw q' tl' om'→FQ A A'→Q none (put (b + 1) pre s A' post)) : M8 0 [.val (.ref (b + 1)),.unset,.unset,.unset,.unset,.unset,.unset,.unset,.unset] [] (put (b + 1) pre s A post) Q:=by
  simp [m8_0,m8_1u,m8_2,m8_3u,m8_5,m8_8,m8_11,m8_12,m8_15,m8_16,m8_17u,m8_17i,m8_17r,m8_17g,m8_18,m8_19,m8_22,m8_23,m8_25,m8_28,m8_29,m8_31,m8_34,m8_35,m8_38,m8_39,m8_40,m8_41,m8_42,m8_45,m8_46,m8_47,m8_48,m8_51,m8_54,m8_57,m8_58i,m8_60,m8_61,m8_64,m8_65,m8_67,m8_70,m8_71,m8_74,m8_75,m8_76u,m8_76i,m8_76r,m8_76g,m8_77,m8_80,m8_81,m8_84,m8_85,m8_87,m8_90,m8_93,m8_94,m8_97,m8_98,m8_99u,m8_99i,m8_99r,m8_99g,m8_101,m8_103,m8_106,m8_108,m8_110,m8_113,m8_114i,m8_116,m8_117,m8_120,m8_121,m8_122,m8_123,m8_124,m8_127,m8_129,m8_130,m8_131,m8_132,m8_133u,m8_133i,m8_133r,m8_133g,m8_137,m8_140,m8_143,m8_144,m8_147,m8_148,m8_150,m8_151u,m8_151i,m8_151r,m8_151g,m8_153,m8_154,m8_157,m8_159,m8_162,m8_163,m8_165,m8_166,m8_167u,m8_167i,m8_167r,m8_167g,m8_169,m8_170,m8_173,m8_175,m8_176u,m8_176i,m8_176r,m8_176g,m8_178,m8_180,m8_183,m8_185,m8_187,m8_190,m8_191,m8_194,m8_196,m8_198,m8_199,m8_200,m8_202,m8_205,m8_206,m8_209,m8_210,m8_212,m8_213,m8_216,m8_219,m8_220,m8_223,m8_225,m8_227,m8_228,m8_231,m8_234,m8_237,nb0,nb1,ou_a,Option.toList_some,Option.toList_none,List.nil_append,List.cons_append]
  refine ba1 hT hN 256 0 0 (fun _ => 0) (fun _ => 0) _ A (by omega) hA B0_0 okS_u (fun tl fl q l3 A1 k1 k2 k3 k4 => ?_)
  simp [m8_0,m8_1u,m8_2,m8_3u,m8_5,m8_8,m8_11,m8_12,m8_15,m8_16,m8_17u,m8_17i,m8_17r,m8_17g,m8_18,m8_19,m8_22,m8_23,m8_25,m8_28,m8_29,m8_31,m8_34,m8_35,m8_38,m8_39,m8_40,m8_41,m8_42,m8_45,m8_46,m8_47,m8_48,m8_51,m8_54,m8_57,m8_58i,m8_60,m8_61,m8_64,m8_65,m8_67,m8_70,m8_71,m8_74,m8_75,m8_76u,m8_76i,m8_76r,m8_76g,m8_77,m8_80,m8_81,m8_84,m8_85,m8_87,m8_90,m8_93,m8_94,m8_97,m8_98,m8_99u,m8_99i,m8_99r,m8_99g,m8_101,m8_103,m8_106,m8_108,m8_110,m8_113,m8_114i,m8_116,m8_117,m8_120,m8_121,m8_122,m8_123,m8_124,m8_127,m8_129,m8_130,m8_131,m8_132,m8_133u,m8_133i,m8_133r,m8_133g,m8_137,m8_140,m8_143,m8_144,m8_147,m8_148,m8_150,m8_151u,m8_151i,m8_151r,m8_151g,m8_153,m8_154,m8_157,m8_159,m8_162,m8_163,m8_165,m8_166,m8_167u,m8_167i,m8_167r,m8_167g,m8_169,m8_170,m8_173,m8_175,m8_176u,m8_176i,m8_176r,m8_176g,m8_178,m8_180,m8_183,m8_185,m8_187,m8_190,m8_191,m8_194,m8_196,m8_198,m8_199,m8_200,m8_202,m8_205,m8_206,m8_209,m8_210,m8_212,m8_213,m8_216,m8_219,m8_220,m8_223,m8_225,m8_227,m8_228,m8_231,m8_234,m8_237,nb0,nb1,ou_a,Option.toList_some,Option.toList_none,List.nil_append,List.cons_append]
  exact ba2 hT hN hS h1 65 0 tl d0 fl om q _ _ _ _ _ _ A1 (by omega) k1 (BI_0 hT k2) (OMI_0 hO) k3 okS_u okS_u okS_u okS_u okS_u (fun tl' dl' fl' om' q' A' j1 j2 j3 j4 => hq tl' dl' fl' om' q' A' j1 j2 j3 (FQ_t k4 j4))
end Bfs2
def AU (ns N : Nat) (lab sw : Nat→List Nat) (dl om : Nat→Nat) (A : Nat→List Int32) : Prop:=(0 < N)∧(N≤33)∧(lab 0 = [])∧(∀ c w,TS N lab (c::w)→TS N lab w)∧(∀ u c,u < N→c < 256→dl (u * 256 + c) < N∧IsLS (TS N lab) (c::lab u) (lab (dl (u * 256 + c))))∧(∀ t,t < ns→TS N lab (sw t))∧(∀ u,u < N→∀ t,(om u).testBit t = true ↔ t < ns∧sw t <+: lab u)∧(∀ u,u < N→om u < 256)∧(CM nI (A 3) dl 16640)∧(CM nI (A 5) om 65)
theorem AU.n0 {ns N : Nat} {lab sw : Nat→List Nat} {dl om : Nat→Nat} {A : Nat→List Int32} (h : AU ns N lab sw dl om A) : 0 < N:=h.1
theorem AU.nb {ns N : Nat} {lab sw : Nat→List Nat} {dl om : Nat→Nat} {A : Nat→List Int32} (h : AU ns N lab sw dl om A) : N≤33:=h.2.1
theorem AU.l0 {ns N : Nat} {lab sw : Nat→List Nat} {dl om : Nat→Nat} {A : Nat→List Int32} (h : AU ns N lab sw dl om A) : lab 0 = []:=h.2.2.1
theorem AU.cl {ns N : Nat} {lab sw : Nat→List Nat} {dl om : Nat→Nat} {A : Nat→List Int32} (h : AU ns N lab sw dl om A) : ∀ c w,TS N lab (c::w)→TS N lab w:=h.2.2.2.1
theorem AU.row {ns N : Nat} {lab sw : Nat→List Nat} {dl om : Nat→Nat} {A : Nat→List Int32} (h : AU ns N lab sw dl om A) : ∀ u c,u < N→c < 256→dl (u * 256 + c) < N∧IsLS (TS N lab) (c::lab u) (lab (dl (u * 256 + c))):=h.2.2.2.2.1
theorem AU.sg {ns N : Nat} {lab sw : Nat→List Nat} {dl om : Nat→Nat} {A : Nat→List Int32} (h : AU ns N lab sw dl om A) : ∀ t,t < ns→TS N lab (sw t):=h.2.2.2.2.2.1
theorem AU.mk {ns N : Nat} {lab sw : Nat→List Nat} {dl om : Nat→Nat} {A : Nat→List Int32} (h : AU ns N lab sw dl om A) : ∀ u,u < N→∀ t,(om u).testBit t = true ↔ t < ns∧sw t <+: lab u:=h.2.2.2.2.2.2.1
theorem AU.ob {ns N : Nat} {lab sw : Nat→List Nat} {dl om : Nat→Nat} {A : Nat→List Int32} (h : AU ns N lab sw dl om A) : ∀ u,u < N→om u < 256:=h.2.2.2.2.2.2.2.1
theorem AU.a3 {ns N : Nat} {lab sw : Nat→List Nat} {dl om : Nat→Nat} {A : Nat→List Int32} (h : AU ns N lab sw dl om A) : CM nI (A 3) dl 16640:=h.2.2.2.2.2.2.2.2.1
theorem AU.a5 {ns N : Nat} {lab sw : Nat→List Nat} {dl om : Nat→Nat} {A : Nat→List Int32} (h : AU ns N lab sw dl om A) : CM nI (A 5) om 65:=h.2.2.2.2.2.2.2.2.2
def SC (w ns en N : Nat) (sb ss sl : Nat→Nat) (lab : Nat→List Nat) (dl om : Nat→Nat) (s : Nat→Int32) (A : Nat→List Int32) : Prop:=(s 0 = nI w)∧(8≤w∧w≤64)∧(s 1 = 1)∧(s 2 = nI ns)∧(ns≤8)∧(CM nI (A 0) sb en)∧(CM nI (A 1) ss ns)∧(CM nI (A 2) sl ns)∧(∀ i,i < en→sb i≤1)∧(∀ i,i < ns→1≤sl i∧sl i≤4∧ss i + sl i≤en)∧(en≤32)∧(AU ns N lab (SW sb ss sl) dl om A)∧(LN A)
theorem SC.s0 {w ns en N : Nat} {sb ss sl : Nat→Nat} {lab : Nat→List Nat} {dl om : Nat→Nat} {s : Nat→Int32} {A : Nat→List Int32} (h : SC w ns en N sb ss sl lab dl om s A) : s 0 = nI w:=h.1
theorem SC.w8 {w ns en N : Nat} {sb ss sl : Nat→Nat} {lab : Nat→List Nat} {dl om : Nat→Nat} {s : Nat→Int32} {A : Nat→List Int32} (h : SC w ns en N sb ss sl lab dl om s A) : 8≤w∧w≤64:=h.2.1
theorem SC.s1 {w ns en N : Nat} {sb ss sl : Nat→Nat} {lab : Nat→List Nat} {dl om : Nat→Nat} {s : Nat→Int32} {A : Nat→List Int32} (h : SC w ns en N sb ss sl lab dl om s A) : s 1 = 1:=h.2.2.1
theorem SC.s2 {w ns en N : Nat} {sb ss sl : Nat→Nat} {lab : Nat→List Nat} {dl om : Nat→Nat} {s : Nat→Int32} {A : Nat→List Int32} (h : SC w ns en N sb ss sl lab dl om s A) : s 2 = nI ns:=h.2.2.2.1
theorem SC.n8 {w ns en N : Nat} {sb ss sl : Nat→Nat} {lab : Nat→List Nat} {dl om : Nat→Nat} {s : Nat→Int32} {A : Nat→List Int32} (h : SC w ns en N sb ss sl lab dl om s A) : ns≤8:=h.2.2.2.2.1
theorem SC.a0 {w ns en N : Nat} {sb ss sl : Nat→Nat} {lab : Nat→List Nat} {dl om : Nat→Nat} {s : Nat→Int32} {A : Nat→List Int32} (h : SC w ns en N sb ss sl lab dl om s A) : CM nI (A 0) sb en:=h.2.2.2.2.2.1
theorem SC.a1 {w ns en N : Nat} {sb ss sl : Nat→Nat} {lab : Nat→List Nat} {dl om : Nat→Nat} {s : Nat→Int32} {A : Nat→List Int32} (h : SC w ns en N sb ss sl lab dl om s A) : CM nI (A 1) ss ns:=h.2.2.2.2.2.2.1
theorem SC.a2 {w ns en N : Nat} {sb ss sl : Nat→Nat} {lab : Nat→List Nat} {dl om : Nat→Nat} {s : Nat→Int32} {A : Nat→List Int32} (h : SC w ns en N sb ss sl lab dl om s A) : CM nI (A 2) sl ns:=h.2.2.2.2.2.2.2.1
theorem SC.bb {w ns en N : Nat} {sb ss sl : Nat→Nat} {lab : Nat→List Nat} {dl om : Nat→Nat} {s : Nat→Int32} {A : Nat→List Int32} (h : SC w ns en N sb ss sl lab dl om s A) : ∀ i,i < en→sb i≤1:=h.2.2.2.2.2.2.2.2.1
theorem SC.ll {w ns en N : Nat} {sb ss sl : Nat→Nat} {lab : Nat→List Nat} {dl om : Nat→Nat} {s : Nat→Int32} {A : Nat→List Int32} (h : SC w ns en N sb ss sl lab dl om s A) : ∀ i,i < ns→1≤sl i∧sl i≤4∧ss i + sl i≤en:=h.2.2.2.2.2.2.2.2.2.1
theorem SC.e32 {w ns en N : Nat} {sb ss sl : Nat→Nat} {lab : Nat→List Nat} {dl om : Nat→Nat} {s : Nat→Int32} {A : Nat→List Int32} (h : SC w ns en N sb ss sl lab dl om s A) : en≤32:=h.2.2.2.2.2.2.2.2.2.2.1
theorem SC.au {w ns en N : Nat} {sb ss sl : Nat→Nat} {lab : Nat→List Nat} {dl om : Nat→Nat} {s : Nat→Int32} {A : Nat→List Int32} (h : SC w ns en N sb ss sl lab dl om s A) : AU ns N lab (SW sb ss sl) dl om A:=h.2.2.2.2.2.2.2.2.2.2.2.1
theorem SC.ln {w ns en N : Nat} {sb ss sl : Nat→Nat} {lab : Nat→List Nat} {dl om : Nat→Nat} {s : Nat→Int32} {A : Nat→List Int32} (h : SC w ns en N sb ss sl lab dl om s A) : LN A:=h.2.2.2.2.2.2.2.2.2.2.2.2
def RC (L : List (Nat × Nat)) (A : Nat→List Int32) : Prop:=∀ i a,i < 64→L[i]? = some a→getA (A 10) (nI i) = nI a.1∧getA (A 11) (nI i) = nI a.2
def DY (ns N d : Nat) (lab sw : Nat→List Nat) (pr : Nat→Bool) (sv : Nat→Nat) (s : Nat→Int32) (A : Nat→List Int32) : Prop:=(s 7 = nI d)∧(d≤256)∧(CM fB (A 7) pr 256)∧(CM nI (A 8) sv 256)∧(∀ i,i < 256→sv i≤1)∧(∀ i,i < d→pr i = true)∧(∃ x,x < N∧s 6 = nI x∧IsLS (TS N lab) (tx sv d) (lab x))∧(s 16 = nI (mtc ns sw sv d).length)∧(RC (mtc ns sw sv d) A)
theorem DY.s7 {ns N d : Nat} {lab sw : Nat→List Nat} {pr : Nat→Bool} {sv : Nat→Nat} {s : Nat→Int32} {A : Nat→List Int32} (h : DY ns N d lab sw pr sv s A) : s 7 = nI d:=h.1
theorem DY.dl {ns N d : Nat} {lab sw : Nat→List Nat} {pr : Nat→Bool} {sv : Nat→Nat} {s : Nat→Int32} {A : Nat→List Int32} (h : DY ns N d lab sw pr sv s A) : d≤256:=h.2.1
theorem DY.a7 {ns N d : Nat} {lab sw : Nat→List Nat} {pr : Nat→Bool} {sv : Nat→Nat} {s : Nat→Int32} {A : Nat→List Int32} (h : DY ns N d lab sw pr sv s A) : CM fB (A 7) pr 256:=h.2.2.1
theorem DY.a8 {ns N d : Nat} {lab sw : Nat→List Nat} {pr : Nat→Bool} {sv : Nat→Nat} {s : Nat→Int32} {A : Nat→List Int32} (h : DY ns N d lab sw pr sv s A) : CM nI (A 8) sv 256:=h.2.2.2.1
theorem DY.sv {ns N d : Nat} {lab sw : Nat→List Nat} {pr : Nat→Bool} {sv : Nat→Nat} {s : Nat→Int32} {A : Nat→List Int32} (h : DY ns N d lab sw pr sv s A) : ∀ i,i < 256→sv i≤1:=h.2.2.2.2.1
theorem DY.pd {ns N d : Nat} {lab sw : Nat→List Nat} {pr : Nat→Bool} {sv : Nat→Nat} {s : Nat→Int32} {A : Nat→List Int32} (h : DY ns N d lab sw pr sv s A) : ∀ i,i < d→pr i = true:=h.2.2.2.2.2.1
theorem DY.st {ns N d : Nat} {lab sw : Nat→List Nat} {pr : Nat→Bool} {sv : Nat→Nat} {s : Nat→Int32} {A : Nat→List Int32} (h : DY ns N d lab sw pr sv s A) : ∃ x,x < N∧s 6 = nI x∧IsLS (TS N lab) (tx sv d) (lab x):=h.2.2.2.2.2.2.1
theorem DY.mt {ns N d : Nat} {lab sw : Nat→List Nat} {pr : Nat→Bool} {sv : Nat→Nat} {s : Nat→Int32} {A : Nat→List Int32} (h : DY ns N d lab sw pr sv s A) : s 16 = nI (mtc ns sw sv d).length:=h.2.2.2.2.2.2.2.1
theorem DY.rc {ns N d : Nat} {lab sw : Nat→List Nat} {pr : Nat→Bool} {sv : Nat→Nat} {s : Nat→Int32} {A : Nat→List Int32} (h : DY ns N d lab sw pr sv s A) : RC (mtc ns sw sv d) A:=h.2.2.2.2.2.2.2.2
theorem fB_0 {x : Bool} (h : x = false) : (fB x = 0) = True:=by rw [h]; exact eq_true rfl
theorem fB_1 {x : Bool} (h : x = true) : (fB x = 0) = False:=by rw [h]; exact eq_false (by decide)
section Run
variable {b : Nat} {pre post : AHeap} {Q : Option Value→AHeap→Prop} {s s' : Nat→Int32} {A A' : Nat→List Int32} {w ns en N d : Nat} {sb ss sl dl om sv : Nat→Nat} {lab sw : Nat→List Nat} {pr : Nat→Bool} {L : List (Nat × Nat)}
theorem AU.ar (h : AU ns N lab sw dl om A) (e3 : A' 3 = A 3) (e5 : A' 5 = A 5) : AU ns N lab sw dl om A':=⟨h.n0,h.nb,h.l0,h.cl,h.row,h.sg,h.mk,h.ob,by rw [e3]; exact h.a3,by rw [e5]; exact h.a5⟩
theorem SC.st (h : SC w ns en N sb ss sl lab dl om s A) (e : ∀ i,i < 3→s' i = s i) (hl : LN A') (f : ∀ i,i < 6→A' i = A i) : SC w ns en N sb ss sl lab dl om s' A':=⟨(e 0 (by decide)).trans h.s0,h.w8,(e 1 (by decide)).trans h.s1,(e 2 (by decide)).trans h.s2,h.n8,by rw [f 0 (by decide)]; exact h.a0,by rw [f 1 (by decide)]; exact h.a1,by rw [f 2 (by decide)]; exact h.a2,h.bb,h.ll,h.e32,h.au.ar (f 3 (by decide)) (f 5 (by decide)),hl⟩
theorem DY.fr (h : DY ns N d lab sw pr sv s A) (e6 : s' 6 = s 6) (e7 : s' 7 = s 7) (e16 : s' 16 = s 16) (f : ∀ i,i = 7 ∨ i = 8 ∨ i = 10 ∨ i = 11→A' i = A i) : DY ns N d lab sw pr sv s' A':=by
  refine ⟨e7.trans h.s7,h.dl,by rw [f 7 (by omega)]; exact h.a7,by rw [f 8 (by omega)]; exact h.a8,h.sv,h.pd,?_,e16.trans h.mt,fun i a hi he => ?_⟩
  · obtain ⟨x,h1,h2,h3⟩:=h.st; exact ⟨x,h1,e6.trans h2,h3⟩
  · rw [f 10 (by omega),f 11 (by omega)]; exact h.rc i a hi he
set_option maxRecDepth 1000000 in
set_option maxHeartbeats 20000000 in
theorem coW {en : Nat} (hS : SGS ns 0 en sb ss sl s A) (h0 : 0 < ns) (hq : ∀ N lab dl om s' A',AU ns N lab (SW sb ss sl) dl om A'→LN A'→FQ A A'→(∀ i,i ≠ 1→i ≠ 5→i ≠ 6→s' i = s i)→s' 1 = 1→s' 6 = 0→Q (some (.int 0)) (put (b + 1) pre s' A' post)) : M4 0 [.val (.ref (b + 1))] [] (put (b + 1) pre s A post) Q:=by
  have n8:=hS.k8
  have s1:=hS.s1
  have s2:=hS.s2
  have s4 : s 4 = 0:=hS.s4
  have c1 : (nI ns = 0) = False:=n0T h0 (by omega)
  have ne : ∀ t,t < ns→SW sb ss sl t ≠ []:=fun t ht e => by
    have:=hS.ll t ht
    obtain ⟨l,hl⟩ : ∃ l,sl t = l + 1:=⟨sl t - 1,by omega⟩
    have e : rw' sb (ss t) (sl t) = []:=e
    rw [hl,rw'] at e
    cases e
  simp [s1,s2,s4,c1,m4_0,m4_1,m4_4,m4_7,m4_8,m4_9,m4_10,m4_13,m4_16,m4_17,m4_18,m4_19,m4_22,m4_25,m4_27,m4_28,m4_29,m4_32,m4_33,m4_36,m4_37,m4_38,m4_41,m4_42,m4_43,m4_46,m4_47,nb0,nb1,ou_a,Option.toList_some,Option.toList_none,List.nil_append,List.cons_append]
  refine btW hS (fun N lab d0 om s1 A1 k1 k2 k3 k4 k5 => ?_)
  have nb:=k1.nb
  simp [m4_0,m4_1,m4_4,m4_7,m4_8,m4_9,m4_10,m4_13,m4_16,m4_17,m4_18,m4_19,m4_22,m4_25,m4_27,m4_28,m4_29,m4_32,m4_33,m4_36,m4_37,m4_38,m4_41,m4_42,m4_43,m4_46,m4_47,nb0,nb1,ou_a,Option.toList_some,Option.toList_none,List.nil_append,List.cons_append]
  refine baW k1.tr (by omega) k1.ow.2.2 ne k1.ow ⟨k1.a3,k4,k1.a5,k5,k1.ln⟩ (fun tl dl fl om' q A2 j1 j2 j3 j4 => ?_)
  simp [m4_0,m4_1,m4_4,m4_7,m4_8,m4_9,m4_10,m4_13,m4_16,m4_17,m4_18,m4_19,m4_22,m4_25,m4_27,m4_28,m4_29,m4_32,m4_33,m4_36,m4_37,m4_38,m4_41,m4_42,m4_43,m4_46,m4_47,nb0,nb1,ou_a,Option.toList_some,Option.toList_none,List.nil_append,List.cons_append]
  have mk : ∀ u,u < N→∀ t,(om' u).testBit t = true ↔ t < ns∧SW sb ss sl t <+: lab u:=fun u hu t => j3.all k1.tr j2 ne hu t
  refine hq N lab dl om' _ A2 ⟨k1.tr.1.1,by omega,k1.tr.1.2,k1.tr.cl,fun u c hu hc => j2.row k1.tr hu hc,k1.ow.2.2,mk,fun u hu => ?_,j1.a3,j1.a5⟩ j1.ln (FQ_t k2 j4) (fun i i1 i5 i6 => by rw [os_ne i1,os_ne i6]; exact k3 i i5) (by rw [os_eq]) (by rw [os_ne (by decide),os_eq])
  refine Nat.lt_pow_two_of_testBit (n:=8) _ (fun t ht => ?_)
  cases q : (om' u).testBit t with
  | false => rfl
  | true => have:=((mk u hu t).mp q).1; omega
theorem rmW {g p : Nat} (hL : LN A) (e : s 16 = nI L.length) (hl : L.length≤3000) (rc : RC L A) (hq : ∀ A',LN A'→(∀ k,k ≠ 10→k ≠ 11→A' k = A k)→RC (L ++ [(g,p)]) A'→Q none (put (b + 1) pre (ou s 16 (nI (L.length + 1))) A' post)) : M21 0 [.val (.ref (b + 1)),.val (.int (nI g)),.val (.int (nI p))] [] (put (b + 1) pre s A post) Q:=by
  have c1 : (nI L.length < 0) = False:=nnF (by omega)
  by_cases z : L.length < 64
  · have c2 : (nI L.length < 64) = True:=lT (c:=64) z (by decide)
    have q10:=in10 hL (i:=L.length) (by omega)
    have q11:=in11 hL (i:=L.length) (by omega)
    have l10:=ln10 hL
    have l11:=ln11 hL
    simp [e,c1,c2,q10,q11,nI_1,m21_0,m21_1,m21_4,m21_7,m21_8,m21_11,m21_13,m21_16,m21_17,m21_20,m21_21,m21_24,m21_25,m21_26,m21_27,m21_30,m21_31,m21_34,m21_35,m21_36,m21_37,m21_38,m21_41,m21_42,m21_43,m21_46,nb0,nb1,ou_a,Option.toList_some,Option.toList_none,List.nil_append,List.cons_append]
    refine hq _ (LN_ou (LN_ou hL (by rw [setA_len]; exact hL _)) (by rw [setA_len]; exact hL _)) (fun k h1 h2 => by rw [ou_ne h2,ou_ne h1]) (fun i a hi he => ?_)
    rw [ou_ne (by decide),ou_eq,ou_eq,cf_setB (by omega) (by omega) (by omega),cf_setB (by omega) (by omega) (by omega)]
    by_cases y : i = L.length
    · rw [y,get_last] at he
      injection he with he
      rw [if_pos y,if_pos y,← he]
      exact ⟨rfl,rfl⟩
    · rw [if_neg y,if_neg y]
      refine rc i a hi ?_
      by_cases x : i < L.length
      · rw [List.getElem?_append_left x] at he; exact he
      · rw [List.getElem?_eq_none (by rw [List.length_append,List.length_singleton]; omega)] at he; cases he
  · have c2 : (nI L.length < 64) = False:=lF (c:=64) (by omega) (by omega)
    simp [e,c1,c2,nI_1,m21_0,m21_1,m21_4,m21_7,m21_8,m21_11,m21_13,m21_16,m21_17,m21_20,m21_21,m21_24,m21_25,m21_26,m21_27,m21_30,m21_31,m21_34,m21_35,m21_36,m21_37,m21_38,m21_41,m21_42,m21_43,m21_46,nb0,nb1,ou_a,Option.toList_some,Option.toList_none,List.nil_append,List.cons_append]
    refine hq A hL (fun _ _ _ => rfl) (fun i a hi he => rc i a hi ?_)
    rw [List.getElem?_append_left (by omega)] at he
    exact he
theorem feL {mk p : Nat} {P : Nat→Bool} (hm : mk < 256) (h8 : ns≤8) (hP : ∀ t,t < ns→(mk.testBit t = true ↔ P t = true)) (hl : L.length≤2900) {l2 l3 l4 : Slot} : ∀ (r k : Nat) (s : Nat→Int32) (A : Nat→List Int32),k + r = ns→s 2 = nI ns→LN A→s 16 = nI (ms P p k L).length→RC (ms P p k L) A →
    (∀ s' A',LN A'→(∀ i,i ≠ 16→s' i = s i)→(∀ k,k ≠ 10→k ≠ 11→A' k = A k)→s' 16 = nI (ms P p ns L).length→RC (ms P p ns L) A'→Q none (put (b + 1) pre s' A' post))→M17 75 [.val (.ref (b + 1)),.val (.int (nI p)),l2,l3,l4,.val (.int (nI mk)),.val (.int (nI k))] [] (put (b + 1) pre s A post) Q:=by
  intro r
  induction r with
  | zero =>
    intro k s A e s2 hL s16 rc hq
    obtain rfl : k = ns:=by omega
    have c1 : (nI k < nI k) = False:=lF (by omega) (by omega)
    rw [m17_75]
    simp [s2,c1,m17_0,m17_1,m17_4,m17_7,m17_8,m17_9,m17_10u,m17_11,m17_12,m17_15,m17_16,m17_19,m17_22,m17_23,m17_24,m17_27,m17_28,m17_29,m17_32,m17_33,m17_34u,m17_36,m17_38,m17_41,m17_43,m17_45,m17_48,m17_49i,m17_51,m17_52,m17_54,m17_57,m17_58,m17_61,m17_63,m17_64u,m17_66,m17_68,m17_71,m17_72,m17_73u,m17_77,m17_78,m17_81,m17_84,m17_86,m17_88,m17_91,m17_93,m17_95,m17_96,m17_97,m17_98,m17_101,m17_102,m17_104,m17_105,m17_108,m17_111,m17_114,nb0,nb1,ou_a,Option.toList_some,Option.toList_none,List.nil_append,List.cons_append]
    exact hq s A hL (fun _ _ => rfl) (fun _ _ _ => rfl) s16 rc
  | succ r ih =>
    intro k s A e s2 hL s16 rc hq
    have c1 : (nI k < nI ns) = True:=lT (by omega) (by omega)
    have c2 : (nI k < 16) = True:=lT (c:=16) (by omega) (by decide)
    have bt:=bt_nI hm (s:=k) (by omega)
    have ml:=ms_len P p L k
    rw [m17_75]
    by_cases z : mk.testBit k = true
    · rw [if_pos z] at bt
      have hPk:=(hP k (by omega)).mp z
      simp [s2,c1,c2,bt,m17_0,m17_1,m17_4,m17_7,m17_8,m17_9,m17_10u,m17_11,m17_12,m17_15,m17_16,m17_19,m17_22,m17_23,m17_24,m17_27,m17_28,m17_29,m17_32,m17_33,m17_34u,m17_36,m17_38,m17_41,m17_43,m17_45,m17_48,m17_49i,m17_51,m17_52,m17_54,m17_57,m17_58,m17_61,m17_63,m17_64u,m17_66,m17_68,m17_71,m17_72,m17_73u,m17_77,m17_78,m17_81,m17_84,m17_86,m17_88,m17_91,m17_93,m17_95,m17_96,m17_97,m17_98,m17_101,m17_102,m17_104,m17_105,m17_108,m17_111,m17_114,nb0,nb1,ou_a,Option.toList_some,Option.toList_none,List.nil_append,List.cons_append]
      refine rmW hL s16 (by omega) rc (fun A1 L1 F1 rc1 => ?_)
      simp [nI_1,m17_0,m17_1,m17_4,m17_7,m17_8,m17_9,m17_10u,m17_11,m17_12,m17_15,m17_16,m17_19,m17_22,m17_23,m17_24,m17_27,m17_28,m17_29,m17_32,m17_33,m17_34u,m17_36,m17_38,m17_41,m17_43,m17_45,m17_48,m17_49i,m17_51,m17_52,m17_54,m17_57,m17_58,m17_61,m17_63,m17_64u,m17_66,m17_68,m17_71,m17_72,m17_73u,m17_77,m17_78,m17_81,m17_84,m17_86,m17_88,m17_91,m17_93,m17_95,m17_96,m17_97,m17_98,m17_101,m17_102,m17_104,m17_105,m17_108,m17_111,m17_114,nb0,nb1,ou_a,Option.toList_some,Option.toList_none,List.nil_append,List.cons_append]
      refine ih (k + 1) _ A1 (by omega) ((os_ne (by decide)).trans s2) L1 ?_ ?_ (fun s' A' j1 j2 j3 j4 j5 => hq s' A' j1 (fun i hi => by rw [j2 i hi,os_ne hi]) (fun k h1 h2 => (j3 k h1 h2).trans (F1 k h1 h2)) j4 j5)
      · rw [os_eq,ms,if_pos hPk,List.length_append,List.length_singleton]
      · rw [ms,if_pos hPk]; exact rc1
    · rw [if_neg z] at bt
      have hPk : ¬ P k = true:=fun q => z ((hP k (by omega)).mpr q)
      simp [s2,c1,c2,bt,nI_1,m17_0,m17_1,m17_4,m17_7,m17_8,m17_9,m17_10u,m17_11,m17_12,m17_15,m17_16,m17_19,m17_22,m17_23,m17_24,m17_27,m17_28,m17_29,m17_32,m17_33,m17_34u,m17_36,m17_38,m17_41,m17_43,m17_45,m17_48,m17_49i,m17_51,m17_52,m17_54,m17_57,m17_58,m17_61,m17_63,m17_64u,m17_66,m17_68,m17_71,m17_72,m17_73u,m17_77,m17_78,m17_81,m17_84,m17_86,m17_88,m17_91,m17_93,m17_95,m17_96,m17_97,m17_98,m17_101,m17_102,m17_104,m17_105,m17_108,m17_111,m17_114,nb0,nb1,ou_a,Option.toList_some,Option.toList_none,List.nil_append,List.cons_append]
      refine ih (k + 1) s A (by omega) s2 hL ?_ ?_ hq
      · rw [ms,if_neg hPk]; exact s16
      · rw [ms,if_neg hPk]; exact rc
theorem feW (hC : SC w ns en N sb ss sl lab dl om s A) (hd : d < 256) (hv : sv d≤1) (hx : ∃ x,x < N∧s 6 = nI x∧IsLS (TS N lab) (tx sv d) (lab x)) (s16 : s 16 = nI (mtc ns (SW sb ss sl) sv d).length) (rc : RC (mtc ns (SW sb ss sl) sv d) A)
    (hq : ∀ s' A',LN A'→(∀ i,i ≠ 6→i ≠ 16→s' i = s i)→(∀ k,k ≠ 10→k ≠ 11→A' k = A k)→(∃ x,x < N∧s' 6 = nI x∧IsLS (TS N lab) (tx sv (d + 1)) (lab x))→s' 16 = nI (mtc ns (SW sb ss sl) sv (d + 1)).length→RC (mtc ns (SW sb ss sl) sv (d + 1)) A'→Q none (put (b + 1) pre s' A' post)) : M17 0 [.val (.ref (b + 1)),.val (.int (nI d)),.val (.int (nI (sv d))),.unset,.unset,.unset,.unset] [] (put (b + 1) pre s A post) Q:=by
  obtain ⟨x,xN,s6,ls⟩:=hx
  have au:=hC.au
  have nb:=au.nb
  obtain ⟨y1,y2⟩:=au.row x (sv d) xN (by omega)
  have q3:=in3 hC.ln (i:=x * 256 + sv d) (by omega)
  have v3:=au.a3 (x * 256 + sv d) (by omega)
  obtain ⟨y,hy⟩ : ∃ y,y = dl (x * 256 + sv d):=⟨_,rfl⟩
  rw [← hy] at y1 y2 v3
  have ls' : IsLS (TS N lab) (tx sv (d + 1)) (lab y):=LS_c au.cl ls y2
  have c1 : (nI (x * 256 + sv d) < 0) = False:=nnF (by omega)
  have c2 : (nI (x * 256 + sv d) < 16640) = True:=lT (c:=16640) (by omega) (by decide)
  have c3 : (nI y < 0) = False:=nnF (by omega)
  have c4 : (nI y < 65) = True:=lT (c:=65) (by omega) (by decide)
  have q5:=in5 hC.ln (i:=y) (by omega)
  have v5:=au.a5 y (by omega)
  have ob:=au.ob y y1
  have ml:=mtc_len (sw:=SW sb ss sl) (sv:=sv) hC.n8 d
  have hP : ∀ t,t < ns→((om y).testBit t = true ↔ MP (SW sb ss sl) sv d t = true):=fun t ht => by
    rw [au.mk y y1 t]
    unfold MP
    rw [decide_eq_true_eq,OM_t ls' (au.sg t ht)]
    exact ⟨fun q => q.2,fun q => ⟨ht,q⟩⟩
  by_cases z : om y = 0
  · have z1 : (nI (om y) = 0) = True:=eT (c:=0) z
    have none' : ∀ k,k≤ns→ms (MP (SW sb ss sl) sv d) d k (mtc ns (SW sb ss sl) sv d) = mtc ns (SW sb ss sl) sv d:=by
      intro k
      induction k with
      | zero => intro _; rfl
      | succ k ih =>
        intro hk
        rw [ms,if_neg (fun q => by have:=(hP k (by omega)).mpr q; rw [z,Nat.zero_testBit] at this; cases this)]
        exact ih (by omega)
    have e : mtc ns (SW sb ss sl) sv (d + 1) = mtc ns (SW sb ss sl) sv d:=by rw [mtc]; exact none' ns (Nat.le_refl _)
    simp [s6,c1,c2,q3,v3,c3,c4,q5,v5,z1,nI_256,nI_add,m17_0,m17_1,m17_4,m17_7,m17_8,m17_9,m17_10u,m17_11,m17_12,m17_15,m17_16,m17_19,m17_22,m17_23,m17_24,m17_27,m17_28,m17_29,m17_32,m17_33,m17_34u,m17_36,m17_38,m17_41,m17_43,m17_45,m17_48,m17_49i,m17_51,m17_52,m17_54,m17_57,m17_58,m17_61,m17_63,m17_64u,m17_66,m17_68,m17_71,m17_72,m17_73u,m17_77,m17_78,m17_81,m17_84,m17_86,m17_88,m17_91,m17_93,m17_95,m17_96,m17_97,m17_98,m17_101,m17_102,m17_104,m17_105,m17_108,m17_111,m17_114,nb0,nb1,ou_a,Option.toList_some,Option.toList_none,List.nil_append,List.cons_append]
    refine hq _ A hC.ln (fun i h6 _ => os_ne h6) (fun _ _ _ => rfl) ⟨y,y1,by rw [os_eq],ls'⟩ ?_ ?_
    · rw [os_ne (by decide),e]; exact s16
    · rw [e]; exact rc
  · have z1 : (nI (om y) = 0) = False:=eF (c:=0) z (by omega) (by decide)
    simp [s6,c1,c2,q3,v3,c3,c4,q5,v5,z1,nI_256,nI_add,m17_0,m17_1,m17_4,m17_7,m17_8,m17_9,m17_10u,m17_11,m17_12,m17_15,m17_16,m17_19,m17_22,m17_23,m17_24,m17_27,m17_28,m17_29,m17_32,m17_33,m17_34u,m17_36,m17_38,m17_41,m17_43,m17_45,m17_48,m17_49i,m17_51,m17_52,m17_54,m17_57,m17_58,m17_61,m17_63,m17_64u,m17_66,m17_68,m17_71,m17_72,m17_73u,m17_77,m17_78,m17_81,m17_84,m17_86,m17_88,m17_91,m17_93,m17_95,m17_96,m17_97,m17_98,m17_101,m17_102,m17_104,m17_105,m17_108,m17_111,m17_114,nb0,nb1,ou_a,Option.toList_some,Option.toList_none,List.nil_append,List.cons_append]
    refine feL (P:=MP (SW sb ss sl) sv d) (L:=mtc ns (SW sb ss sl) sv d) ob hC.n8 hP (by omega) ns 0 _ A (by omega) ((os_ne (by decide)).trans hC.s2) hC.ln ((os_ne (by decide)).trans s16) rc (fun s' A' j1 j2 j3 j4 j5 => hq s' A' j1 (fun i h6 h16 => by rw [j2 i h16,os_ne h6]) j3 ⟨y,y1,by rw [j2 6 (by decide),os_eq],ls'⟩ (by rw [mtc]; exact j4) (by rw [mtc]; exact j5))
theorem adL : ∀ (r k d : Nat) (l2 l3 : Slot) (s : Nat→Int32) (A : Nat→List Int32),k + r = 256→SC w ns en N sb ss sl lab dl om s A→DY ns N d lab (SW sb ss sl) pr sv s A→okS l2→okS l3 →
    (∀ d' s' A',d≤d'→SC w ns en N sb ss sl lab dl om s' A'→DY ns N d' lab (SW sb ss sl) pr sv s' A'→(∀ i,i ≠ 6→i ≠ 7→i ≠ 8→i ≠ 16→s' i = s i)→Q none (put (b + 1) pre s' A' post))→M16 2 [.val (.ref (b + 1)),.val (.int (nI k)),l2,l3] [] (put (b + 1) pre s A post) Q:=by
  intro r
  induction r with
  | zero =>
    intro k d l2 l3 s A e hC hD o2 o3 hq
    obtain rfl : k = 256:=by omega
    have c1 : (nI 256 < 256) = False:=lF (c:=256) (by omega) (by omega)
    rw [m16_2]
    simp [c1,m16_0,m16_1u,m16_3,m16_6,m16_9,m16_10,m16_13,m16_16,m16_19,m16_20,m16_23,m16_24,m16_27,m16_28,m16_31,m16_32,m16_33,m16_36u,m16_36i,m16_36r,m16_36g,m16_37,m16_38,m16_41,m16_42,m16_43u,m16_43i,m16_43r,m16_43g,m16_44,m16_45,m16_46,m16_47,m16_48,m16_51,m16_52,m16_53,m16_56,m16_57,m16_58,m16_61,m16_62,m16_63,m16_64,m16_67,m16_70,m16_73,nb0,nb1,ou_a,Option.toList_some,Option.toList_none,List.nil_append,List.cons_append]
    exact hq d s A (Nat.le_refl _) hC hD (fun _ _ _ _ _ => rfl)
  | succ r ih =>
    intro k d l2 l3 s A e hC hD o2 o3 hq
    have c1 : (nI k < 256) = True:=lT (c:=256) (by omega) (by omega)
    have s7:=hD.s7
    have dl':=hD.dl
    rw [m16_2]
    by_cases z : d < 256
    · have c2 : (nI d < 256) = True:=lT (c:=256) z (by decide)
      have q7:=in7 hC.ln (i:=d) z
      have v7:=hD.a7 d z
      cases zp : pr d with
      | false =>
        have z1:=fB_0 zp
        simp [c1,s7,c2,q7,v7,z1,m16_0,m16_1u,m16_3,m16_6,m16_9,m16_10,m16_13,m16_16,m16_19,m16_20,m16_23,m16_24,m16_27,m16_28,m16_31,m16_32,m16_33,m16_36u,m16_36i,m16_36r,m16_36g,m16_37,m16_38,m16_41,m16_42,m16_43u,m16_43i,m16_43r,m16_43g,m16_44,m16_45,m16_46,m16_47,m16_48,m16_51,m16_52,m16_53,m16_56,m16_57,m16_58,m16_61,m16_62,m16_63,m16_64,m16_67,m16_70,m16_73,nb0,nb1,ou_a,Option.toList_some,Option.toList_none,List.nil_append,List.cons_append]
        exact hq d s A (Nat.le_refl _) hC hD (fun _ _ _ _ _ => rfl)
      | true =>
        have z1:=fB_1 zp
        have q8:=in8 hC.ln (i:=d) z
        have v8:=hD.a8 d z
        simp [c1,s7,c2,q7,v7,z1,q8,v8,o2,o3,nI_1,m16_0,m16_1u,m16_3,m16_6,m16_9,m16_10,m16_13,m16_16,m16_19,m16_20,m16_23,m16_24,m16_27,m16_28,m16_31,m16_32,m16_33,m16_36u,m16_36i,m16_36r,m16_36g,m16_37,m16_38,m16_41,m16_42,m16_43u,m16_43i,m16_43r,m16_43g,m16_44,m16_45,m16_46,m16_47,m16_48,m16_51,m16_52,m16_53,m16_56,m16_57,m16_58,m16_61,m16_62,m16_63,m16_64,m16_67,m16_70,m16_73,nb0,nb1,ou_a,Option.toList_some,Option.toList_none,List.nil_append,List.cons_append]
        refine feW (hC.st (fun i hi => by rw [os_ne (by omega),os_ne (by omega)]) hC.ln (fun _ _ => rfl)) z (hD.sv d z) ?_ ?_ hD.rc (fun s' A' j1 j2 j3 j4 j5 j6 => ?_)
        · obtain ⟨x,h1,h2,h3⟩:=hD.st
          exact ⟨x,h1,by rw [os_ne (by decide),os_ne (by decide)]; exact h2,h3⟩
        · rw [os_ne (by decide),os_ne (by decide)]; exact hD.mt
        · simp [nI_1,m16_0,m16_1u,m16_3,m16_6,m16_9,m16_10,m16_13,m16_16,m16_19,m16_20,m16_23,m16_24,m16_27,m16_28,m16_31,m16_32,m16_33,m16_36u,m16_36i,m16_36r,m16_36g,m16_37,m16_38,m16_41,m16_42,m16_43u,m16_43i,m16_43r,m16_43g,m16_44,m16_45,m16_46,m16_47,m16_48,m16_51,m16_52,m16_53,m16_56,m16_57,m16_58,m16_61,m16_62,m16_63,m16_64,m16_67,m16_70,m16_73,nb0,nb1,ou_a,Option.toList_some,Option.toList_none,List.nil_append,List.cons_append]
          have sf : ∀ i,i ≠ 6→i ≠ 7→i ≠ 8→i ≠ 16→s' i = s i:=fun i h6 h7 h8 h16 => by rw [j2 i h6 h16,os_ne h8,os_ne h7]
          refine ih (k + 1) (d + 1) _ _ s' A' (by omega) (hC.st (fun i hi => sf i (by omega) (by omega) (by omega) (by omega)) j1 (fun i hi => j3 i (by omega) (by omega))) ⟨?_,by omega,?_,?_,hD.sv,fun i hi => ?_,j4,j5,j6⟩ (okS_n _) (okS_n _) (fun d' s'' A'' k1 k2 k3 k4 => hq d' s'' A'' (by omega) k2 k3 (fun i h6 h7 h8 h16 => (k4 i h6 h7 h8 h16).trans (sf i h6 h7 h8 h16)))
          · rw [j2 7 (by decide) (by decide),os_ne (by decide),os_eq]
          · rw [j3 7 (by decide) (by decide)]; exact hD.a7
          · rw [j3 8 (by decide) (by decide)]; exact hD.a8
          · by_cases y : i = d
            · rw [y]; exact zp
            · exact hD.pd i (by omega)
    · have c2 : (nI d < 256) = False:=lF (c:=256) (by omega) (by omega)
      simp [c1,s7,c2,m16_0,m16_1u,m16_3,m16_6,m16_9,m16_10,m16_13,m16_16,m16_19,m16_20,m16_23,m16_24,m16_27,m16_28,m16_31,m16_32,m16_33,m16_36u,m16_36i,m16_36r,m16_36g,m16_37,m16_38,m16_41,m16_42,m16_43u,m16_43i,m16_43r,m16_43g,m16_44,m16_45,m16_46,m16_47,m16_48,m16_51,m16_52,m16_53,m16_56,m16_57,m16_58,m16_61,m16_62,m16_63,m16_64,m16_67,m16_70,m16_73,nb0,nb1,ou_a,Option.toList_some,Option.toList_none,List.nil_append,List.cons_append]
      exact hq d s A (Nat.le_refl _) hC hD (fun _ _ _ _ _ => rfl)
/-- the stream behind i bytes of a segment -/
def prF (pr : Nat→Bool) (st i lim : Nat) : Nat→Bool:=fun o => pr o || decide (st≤o∧o < st + i∧o < lim)
def svF (pr : Nat→Bool) (sv bf : Nat→Nat) (st i lim : Nat) : Nat→Nat:=fun o => if pr o = false∧st≤o∧o < st + i∧o < lim then bf (o - st) else sv o
theorem prF_n {st i lim : Nat} (h : pr (st + i) = true ∨ lim≤st + i) : prF pr st (i + 1) lim = prF pr st i lim:=by
  funext o
  unfold prF
  by_cases e : o = st + i
  · subst e
    rcases h with h | h
    · rw [h]; rfl
    · simp [show ¬ st + i < lim by omega]
  · have : (st≤o∧o < st + (i + 1)∧o < lim) ↔ (st≤o∧o < st + i∧o < lim):=by omega
    simp only [this]
theorem svF_n {bf : Nat→Nat} {st i lim : Nat} (h : pr (st + i) = true ∨ lim≤st + i) : svF pr sv bf st (i + 1) lim = svF pr sv bf st i lim:=by
  funext o
  unfold svF
  by_cases e : o = st + i
  · subst e
    have no : ¬ (pr (st + i) = false∧st≤st + i∧st + i < st + (i + 1)∧st + i < lim):=fun q => by
      rcases h with h | h
      · rw [h] at q; cases q.1
      · omega
    rw [if_neg no,if_neg (fun q => by omega)]
  · have : (pr o = false∧st≤o∧o < st + (i + 1)∧o < lim) ↔ (pr o = false∧st≤o∧o < st + i∧o < lim):=by
      constructor
      · rintro ⟨a,b1,b2,b3⟩; exact ⟨a,b1,by omega,b3⟩
      · rintro ⟨a,b1,b2,b3⟩; exact ⟨a,b1,by omega,b3⟩
    simp only [this]
theorem prF_y {st i lim : Nat} (h2 : st + i < lim) : prF pr st (i + 1) lim = up (prF pr st i lim) (st + i) true:=by
  funext o
  rw [up_a]
  unfold prF
  by_cases e : o = st + i
  · subst e; rw [if_pos rfl]; simp [h2]
  · have : (st≤o∧o < st + (i + 1)∧o < lim) ↔ (st≤o∧o < st + i∧o < lim):=by omega
    rw [if_neg e]
    simp only [this]
theorem svF_y {bf : Nat→Nat} {st i lim : Nat} (h : pr (st + i) = false) (h2 : st + i < lim) : svF pr sv bf st (i + 1) lim = up (svF pr sv bf st i lim) (st + i) (bf i):=by
  funext o
  rw [up_a]
  unfold svF
  by_cases e : o = st + i
  · subst e; rw [if_pos rfl,if_pos ⟨h,by omega,by omega,h2⟩,Nat.add_sub_cancel_left]
  · have : (pr o = false∧st≤o∧o < st + (i + 1)∧o < lim) ↔ (pr o = false∧st≤o∧o < st + i∧o < lim):=by
      constructor
      · rintro ⟨a,b1,b2,b3⟩; exact ⟨a,b1,by omega,b3⟩
      · rintro ⟨a,b1,b2,b3⟩; exact ⟨a,b1,by omega,b3⟩
    rw [if_neg e]
    simp only [this]
theorem prF_a {st i lim : Nat} : prF pr st i lim (st + i) = pr (st + i):=by unfold prF; simp
set_option maxRecDepth 1000000 in
set_option maxHeartbeats 20000000 in
theorem abs1 {bf : Nat→Nat} {st i : Nat} (hC : SC w ns en N sb ss sl lab dl om s A) (hD : DY ns N d lab (SW sb ss sl) (prF pr st i (d + w)) (svF pr sv bf st i (d + w)) s A) (ho : st + i < 256) (hb : bf i≤1) (pd : ∀ j,j < d→pr j = true)
    (hq : ∀ s' A',SC w ns en N sb ss sl lab dl om s' A'→DY ns N d lab (SW sb ss sl) (prF pr st (i + 1) (d + w)) (svF pr sv bf st (i + 1) (d + w)) s' A'→(∀ k,k < 8 ∨ 12 < k→s' k = s k)→(∀ k,k ≠ 7→k ≠ 8→A' k = A k)→Q none (put (b + 1) pre s' A' post)) : M15 0 [.val (.ref (b + 1)),.val (.int (nI (st + i))),.val (.int (nI (bf i))),.val (.int (nI d))] [] (put (b + 1) pre s A post) Q:=by
  have w8:=hC.w8
  have s0:=hC.s0
  have dl':=hD.dl
  have c1 : (nI (st + i) < 0) = False:=nnF (by omega)
  have c2 : (nI (st + i) < 256) = True:=lT (c:=256) ho (by decide)
  have q7:=in7 hC.ln (i:=st + i) ho
  have v7:=hD.a7 (st + i) ho
  have q8:=in8 hC.ln (i:=st + i) ho
  have v8:=hD.a8 (st + i) ho
  rw [prF_a] at v7
  cases zp : pr (st + i) with
  | true =>
    have z1:=fB_1 zp
    rw [prF_n (Or.inl zp),svF_n (Or.inl zp)] at hq
    by_cases y : nI (svF pr sv bf st i (d + w) (st + i)) = nI (bf i)
    · simp [c1,c2,q7,v7,z1,q8,v8,y,m15_0,m15_1,m15_2,m15_5,m15_8,m15_9,m15_10,m15_13,m15_14,m15_15,m15_18,m15_19,m15_22,m15_23,m15_24,m15_25,m15_28,m15_29,m15_30,m15_33,m15_34,m15_35,m15_38,m15_41,m15_42,m15_43,m15_46,m15_47,m15_48,m15_51,m15_52,m15_53,m15_56,m15_57,m15_58,m15_59,m15_60,m15_63,m15_64,m15_67,m15_68,m15_69,m15_72,m15_73,m15_74,m15_77,m15_78,m15_79,m15_82,m15_83,m15_84,m15_85,m15_86,m15_89,m15_90,m15_91,m15_92,m15_93,m15_94,m15_97,m15_98,m15_99,m15_102,nb0,nb1,ou_a,Option.toList_some,Option.toList_none,List.nil_append,List.cons_append,m11_0,m11_1,m11_4,m11_5,m11_8,m11_11,m11_12,m11_15,m11_16,nb0,nb1,ou_a,Option.toList_some,Option.toList_none,List.nil_append,List.cons_append]
      exact hq _ A (hC.st (fun k hk => os_ne (by omega)) hC.ln (fun _ _ => rfl)) (hD.fr (os_ne (by decide)) (os_ne (by decide)) (os_ne (by decide)) (fun _ _ => rfl)) (fun k hk => os_ne (by omega)) (fun _ _ _ => rfl)
    · simp [c1,c2,q7,v7,z1,q8,v8,y,m15_0,m15_1,m15_2,m15_5,m15_8,m15_9,m15_10,m15_13,m15_14,m15_15,m15_18,m15_19,m15_22,m15_23,m15_24,m15_25,m15_28,m15_29,m15_30,m15_33,m15_34,m15_35,m15_38,m15_41,m15_42,m15_43,m15_46,m15_47,m15_48,m15_51,m15_52,m15_53,m15_56,m15_57,m15_58,m15_59,m15_60,m15_63,m15_64,m15_67,m15_68,m15_69,m15_72,m15_73,m15_74,m15_77,m15_78,m15_79,m15_82,m15_83,m15_84,m15_85,m15_86,m15_89,m15_90,m15_91,m15_92,m15_93,m15_94,m15_97,m15_98,m15_99,m15_102,nb0,nb1,ou_a,Option.toList_some,Option.toList_none,List.nil_append,List.cons_append,m11_0,m11_1,m11_4,m11_5,m11_8,m11_11,m11_12,m11_15,m11_16,nb0,nb1,ou_a,Option.toList_some,Option.toList_none,List.nil_append,List.cons_append]
      exact hq _ A (hC.st (fun k hk => by rw [os_ne (by omega),os_ne (by omega)]) hC.ln (fun _ _ => rfl)) (hD.fr (by rw [os_ne (by decide),os_ne (by decide)]) (by rw [os_ne (by decide),os_ne (by decide)]) (by rw [os_ne (by decide),os_ne (by decide)]) (fun _ _ => rfl)) (fun k hk => by rw [os_ne (by omega),os_ne (by omega)]) (fun _ _ _ => rfl)
  | false =>
    have z1:=fB_0 zp
    by_cases y : st + i < d + w
    · have y1 : (nI (st + i) < nI (d + w)) = True:=lT y (by omega)
      have l7:=ln7 hC.ln
      have l8:=ln8 hC.ln
      simp [c1,c2,q7,v7,z1,q8,s0,y1,nI_add,m15_0,m15_1,m15_2,m15_5,m15_8,m15_9,m15_10,m15_13,m15_14,m15_15,m15_18,m15_19,m15_22,m15_23,m15_24,m15_25,m15_28,m15_29,m15_30,m15_33,m15_34,m15_35,m15_38,m15_41,m15_42,m15_43,m15_46,m15_47,m15_48,m15_51,m15_52,m15_53,m15_56,m15_57,m15_58,m15_59,m15_60,m15_63,m15_64,m15_67,m15_68,m15_69,m15_72,m15_73,m15_74,m15_77,m15_78,m15_79,m15_82,m15_83,m15_84,m15_85,m15_86,m15_89,m15_90,m15_91,m15_92,m15_93,m15_94,m15_97,m15_98,m15_99,m15_102,nb0,nb1,ou_a,Option.toList_some,Option.toList_none,List.nil_append,List.cons_append,m11_0,m11_1,m11_4,m11_5,m11_8,m11_11,m11_12,m11_15,m11_16,nb0,nb1,ou_a,Option.toList_some,Option.toList_none,List.nil_append,List.cons_append]
      have od : d≤st + i:=by
        rcases Nat.lt_or_ge (st + i) d with q | q
        · rw [pd _ q] at zp; cases zp
        · exact q
      have same : ∀ j,j < d→svF pr sv bf st (i + 1) (d + w) j = svF pr sv bf st i (d + w) j:=fun j hj => by rw [svF_y zp y,up_ne (by omega)]
      refine hq _ _ (hC.st (fun k hk => os_ne (by omega)) (LN_ou (LN_ou hC.ln (by rw [setA_len]; exact hC.ln _)) (by rw [setA_len]; exact hC.ln _)) (fun k hk => by rw [ou_ne (by omega),ou_ne (by omega)])) ⟨(os_ne (by decide)).trans hD.s7,dl',?_,?_,fun j hj => ?_,fun j hj => ?_,?_,?_,?_⟩ (fun k hk => os_ne (by omega)) (fun k h7 h8 => by rw [ou_ne h8,ou_ne h7])
      · rw [ou_ne (by decide),ou_eq,prF_y y]; exact CM_set (w:=true) hD.a7 rfl (by omega) (by omega) (by omega)
      · rw [ou_eq,svF_y zp y]; exact CM_set hD.a8 rfl (by omega) (by omega) (by omega)
      · rw [svF_y zp y,up_a]
        split
        · exact hb
        · exact hD.sv j hj
      · rw [prF_y y,up_a]
        split
        · rfl
        · exact hD.pd j hj
      · obtain ⟨x,h1,h2,h3⟩:=hD.st
        exact ⟨x,h1,(os_ne (by decide)).trans h2,by rw [tx_ext d same]; exact h3⟩
      · rw [os_ne (by decide),mtc_ext d same]; exact hD.mt
      · rw [mtc_ext d same]
        intro k a hk he
        rw [ou_ne (by decide),ou_ne (by decide),ou_ne (by decide),ou_ne (by decide)]
        exact hD.rc k a hk he
    · have y1 : (nI (st + i) < nI (d + w)) = False:=lF (by omega) (by omega)
      rw [prF_n (Or.inr (by omega)),svF_n (Or.inr (by omega))] at hq
      simp [c1,c2,q7,v7,z1,s0,y1,nI_add,m15_0,m15_1,m15_2,m15_5,m15_8,m15_9,m15_10,m15_13,m15_14,m15_15,m15_18,m15_19,m15_22,m15_23,m15_24,m15_25,m15_28,m15_29,m15_30,m15_33,m15_34,m15_35,m15_38,m15_41,m15_42,m15_43,m15_46,m15_47,m15_48,m15_51,m15_52,m15_53,m15_56,m15_57,m15_58,m15_59,m15_60,m15_63,m15_64,m15_67,m15_68,m15_69,m15_72,m15_73,m15_74,m15_77,m15_78,m15_79,m15_82,m15_83,m15_84,m15_85,m15_86,m15_89,m15_90,m15_91,m15_92,m15_93,m15_94,m15_97,m15_98,m15_99,m15_102,nb0,nb1,ou_a,Option.toList_some,Option.toList_none,List.nil_append,List.cons_append,m11_0,m11_1,m11_4,m11_5,m11_8,m11_11,m11_12,m11_15,m11_16,nb0,nb1,ou_a,Option.toList_some,Option.toList_none,List.nil_append,List.cons_append]
      exact hq _ A (hC.st (fun k hk => os_ne (by omega)) hC.ln (fun _ _ => rfl)) (hD.fr (os_ne (by decide)) (os_ne (by decide)) (os_ne (by decide)) (fun _ _ => rfl)) (fun k hk => os_ne (by omega)) (fun _ _ _ => rfl)
theorem csL {bf : Nat→Nat} {st len : Nat} (hst : st + len≤256) (h16 : len≤16) (hb : ∀ i,i < len→bf i≤1) (pd : ∀ j,j < d→pr j = true) : ∀ (r i : Nat) (s : Nat→Int32) (A : Nat→List Int32),i + r = len→SC w ns en N sb ss sl lab dl om s A→DY ns N d lab (SW sb ss sl) (prF pr st i (d + w)) (svF pr sv bf st i (d + w)) s A→s 14 = nI st→s 15 = nI len→CM nI (A 9) bf len →
    (∀ s' A',SC w ns en N sb ss sl lab dl om s' A'→DY ns N d lab (SW sb ss sl) (prF pr st len (d + w)) (svF pr sv bf st len (d + w)) s' A'→M14 53 [.val (.ref (b + 1)),.val (.int (nI d)),.val (.int (nI len))] [] (put (b + 1) pre s' A' post) Q)→M14 16 [.val (.ref (b + 1)),.val (.int (nI d)),.val (.int (nI i))] [] (put (b + 1) pre s A post) Q:=by
  intro r
  induction r with
  | zero =>
    intro i s A e hC hD s14 s15 h9 hq
    obtain rfl : i = len:=by omega
    have c1 : (nI i < nI i) = False:=lF (by omega) (by omega)
    rw [m14_16]
    simp [s15,c1,m14_0,m14_1,m14_4,m14_7,m14_8,m14_9,m14_10,m14_13u,m14_14,m14_15u,m14_17,m14_18,m14_21,m14_24,m14_25,m14_27,m14_30,m14_31,m14_32,m14_35,m14_36,m14_37,m14_38,m14_41,m14_42,m14_43,m14_44,m14_47,m14_50,m14_54,m14_55,m14_58,m14_59,m14_60,m14_63,m14_64,m14_65,m14_68,m14_69,m14_72,m14_73,m14_76,m14_77,m14_78,nb0,nb1,ou_a,Option.toList_some,Option.toList_none,List.nil_append,List.cons_append]
    exact hq s A hC hD
  | succ r ih =>
    intro i s A e hC hD s14 s15 h9 hq
    have c1 : (nI i < nI len) = True:=lT (by omega) (by omega)
    have c2 : (nI i < 16) = True:=lT (c:=16) (by omega) (by decide)
    have q9:=in9 hC.ln (i:=i) (by omega)
    have v9:=h9 i (by omega)
    rw [m14_16]
    simp [s14,s15,c1,c2,q9,v9,nI_add,m14_0,m14_1,m14_4,m14_7,m14_8,m14_9,m14_10,m14_13u,m14_14,m14_15u,m14_17,m14_18,m14_21,m14_24,m14_25,m14_27,m14_30,m14_31,m14_32,m14_35,m14_36,m14_37,m14_38,m14_41,m14_42,m14_43,m14_44,m14_47,m14_50,m14_54,m14_55,m14_58,m14_59,m14_60,m14_63,m14_64,m14_65,m14_68,m14_69,m14_72,m14_73,m14_76,m14_77,m14_78,nb0,nb1,ou_a,Option.toList_some,Option.toList_none,List.nil_append,List.cons_append]
    refine abs1 hC hD (by omega) (hb i (by omega)) pd (fun s' A' k1 k2 k3 k4 => ?_)
    simp [nI_1,m14_0,m14_1,m14_4,m14_7,m14_8,m14_9,m14_10,m14_13u,m14_14,m14_15u,m14_17,m14_18,m14_21,m14_24,m14_25,m14_27,m14_30,m14_31,m14_32,m14_35,m14_36,m14_37,m14_38,m14_41,m14_42,m14_43,m14_44,m14_47,m14_50,m14_54,m14_55,m14_58,m14_59,m14_60,m14_63,m14_64,m14_65,m14_68,m14_69,m14_72,m14_73,m14_76,m14_77,m14_78,nb0,nb1,ou_a,Option.toList_some,Option.toList_none,List.nil_append,List.cons_append]
    exact ih (i + 1) s' A' (by omega) k1 k2 ((k3 14 (by decide)).trans s14) ((k3 15 (by decide)).trans s15) (by rw [k4 9 (by decide) (by decide)]; exact h9) hq
theorem csW {bf : Nat→Nat} {st len : Nat} (hst : st + len≤256) (h16 : len≤16) (hb : ∀ i,i < len→bf i≤1) (hC : SC w ns en N sb ss sl lab dl om s A) (hD : DY ns N d lab (SW sb ss sl) pr sv s A) (s13 : s 13 = 1) (s14 : s 14 = nI st) (s15 : s 15 = nI len) (h9 : CM nI (A 9) bf len)
    (hq : ∀ (v : Int32) d' s' A',SC w ns en N sb ss sl lab dl om s' A'→DY ns N d' lab (SW sb ss sl) (prF pr st len (d + w)) (svF pr sv bf st len (d + w)) s' A'→s' 13 = 0→Q (some (.int v)) (put (b + 1) pre s' A' post)) : M14 0 [.val (.ref (b + 1)),.unset,.unset] [] (put (b + 1) pre s A post) Q:=by
  have s7:=hD.s7
  have p0 : prF pr st 0 (d + w) = pr:=by
    funext o
    unfold prF
    rw [show decide (st≤o∧o < st + 0∧o < d + w) = false from decide_eq_false (fun q => by omega),Bool.or_false]
  have v0 : svF pr sv bf st 0 (d + w) = sv:=by funext o; unfold svF; rw [if_neg (fun q => by omega)]
  simp [s13,s7,m14_0,m14_1,m14_4,m14_7,m14_8,m14_9,m14_10,m14_13u,m14_14,m14_15u,m14_17,m14_18,m14_21,m14_24,m14_25,m14_27,m14_30,m14_31,m14_32,m14_35,m14_36,m14_37,m14_38,m14_41,m14_42,m14_43,m14_44,m14_47,m14_50,m14_53,m14_54,m14_55,m14_58,m14_59,m14_60,m14_63,m14_64,m14_65,m14_68,m14_69,m14_72,m14_73,m14_76,m14_77,m14_78,nb0,nb1,ou_a,Option.toList_some,Option.toList_none,List.nil_append,List.cons_append]
  refine csL (pr:=pr) (sv:=sv) (bf:=bf) hst h16 hb hD.pd len 0 s A (by omega) hC (by rw [p0,v0]; exact hD) s14 s15 h9 (fun s1 A1 k1 k2 => ?_)
  simp [m14_0,m14_1,m14_4,m14_7,m14_8,m14_9,m14_10,m14_13u,m14_14,m14_15u,m14_17,m14_18,m14_21,m14_24,m14_25,m14_27,m14_30,m14_31,m14_32,m14_35,m14_36,m14_37,m14_38,m14_41,m14_42,m14_43,m14_44,m14_47,m14_50,m14_53,m14_54,m14_55,m14_58,m14_59,m14_60,m14_63,m14_64,m14_65,m14_68,m14_69,m14_72,m14_73,m14_76,m14_77,m14_78,nb0,nb1,ou_a,Option.toList_some,Option.toList_none,List.nil_append,List.cons_append,m16_0,m16_1u,m16_3,m16_6,m16_9,m16_10,m16_13,m16_16,m16_19,m16_20,m16_23,m16_24,m16_27,m16_28,m16_31,m16_32,m16_33,m16_36u,m16_36i,m16_36r,m16_36g,m16_37,m16_38,m16_41,m16_42,m16_43u,m16_43i,m16_43r,m16_43g,m16_44,m16_45,m16_46,m16_47,m16_48,m16_51,m16_52,m16_53,m16_56,m16_57,m16_58,m16_61,m16_62,m16_63,m16_64,m16_67,m16_70,m16_73,nb0,nb1,ou_a,Option.toList_some,Option.toList_none,List.nil_append,List.cons_append]
  refine adL 256 0 d _ _ _ A1 (by omega) (k1.st (fun i hi => by rw [os_ne (by omega),os_ne (by omega),os_ne (by omega)]) k1.ln (fun _ _ => rfl)) (k2.fr (by rw [os_ne (by decide),os_ne (by decide),os_ne (by decide)]) (by rw [os_ne (by decide),os_ne (by decide),os_ne (by decide)]) (by rw [os_ne (by decide),os_ne (by decide),os_ne (by decide)]) (fun _ _ => rfl)) okS_u okS_u (fun d' s' A' j1 j2 j3 j4 => ?_)
  have s7':=j3.s7
  simp [s7',m14_0,m14_1,m14_4,m14_7,m14_8,m14_9,m14_10,m14_13u,m14_14,m14_15u,m14_17,m14_18,m14_21,m14_24,m14_25,m14_27,m14_30,m14_31,m14_32,m14_35,m14_36,m14_37,m14_38,m14_41,m14_42,m14_43,m14_44,m14_47,m14_50,m14_53,m14_54,m14_55,m14_58,m14_59,m14_60,m14_63,m14_64,m14_65,m14_68,m14_69,m14_72,m14_73,m14_76,m14_77,m14_78,nb0,nb1,ou_a,Option.toList_some,Option.toList_none,List.nil_append,List.cons_append]
  refine hq _ d' s' A' j2 j3 ?_
  rw [j4 13 (by decide) (by decide) (by decide) (by decide),os_ne (by decide),os_ne (by decide),os_eq]
end Run
/-! two bits for each place of a segment -/
theorem shl_b (x : Int64) : ∀ s : Fin 64,((Int64.ofNat s.val).toBitVec.smod 64) = BitVec.ofNat 64 s.val:=by decide +kernel
theorem shl_s (x : Int64) {s : Nat} (hs : s < 64) : (x <<< Int64.ofNat s).toBitVec = x.toBitVec <<< s:=by
  rw [Int64.toBitVec_shiftLeft]
  have e : ((Int64.ofNat s).toBitVec.smod 64) = BitVec.ofNat 64 s:=shl_b x ⟨s,hs⟩
  rw [e,BitVec.shiftLeft_eq',BitVec.toNat_ofNat,Nat.mod_eq_of_lt (by omega)]
theorem sar_s (x : Int64) {s : Nat} (hs : s < 64) : (x >>> Int64.ofNat s).toBitVec = x.toBitVec.sshiftRight s:=by
  rw [Int64.toBitVec_shiftRight]
  have e : ((Int64.ofNat s).toBitVec.smod 64) = BitVec.ofNat 64 s:=shl_b x ⟨s,hs⟩
  rw [e,BitVec.sshiftRight_eq',BitVec.toNat_ofNat,Nat.mod_eq_of_lt (by omega)]
theorem ix_2 : ∀ j : Fin 16,(2 * nI j.val).toInt64 &&& 63 = Int64.ofNat (2 * j.val):=by decide +kernel
theorem m3_r : ∀ k : Fin 64,(3 : Int64).toBitVec.getLsbD k.val = decide (k.val < 2):=by decide +kernel
theorem m3_s {k : Nat} (hk : k < 64) : (3 : Int64).toBitVec.getLsbD k = decide (k < 2):=m3_r ⟨k,hk⟩
def BW (w : Int64) (j : Nat) (f : Nat→Nat) : Prop:=∀ k,k < 64→w.toBitVec.getLsbD k = (decide (k < 2 * j) && (f (k / 2)).testBit (k % 2))
theorem BW_0 (f : Nat→Nat) : BW 0 0 f:=fun k hk => by
  show (0#64).getLsbD k = _
  rw [BitVec.getLsbD_zero]
  simp
theorem BW_s {w : Int64} {j x : Nat} {f : Nat→Nat} (h : BW w j f) (hj : j < 16) (hx : x < 4) (e : f j = x) : BW (w ||| (((nI x).toInt64 &&& 3) <<< ((2 * nI j).toInt64 &&& 63))) (j + 1) f:=fun k hk => by
  have pv : ((nI x).toInt64).toBitVec = BitVec.ofNat 64 x:=by
    have : (nI x).toInt64 = Int64.ofNat x:=by
      apply Int64.toInt_inj.mp
      rw [Int32.toInt_toInt64,Int64.toInt_ofNat_of_lt (by omega)]
      exact Int32.toInt_ofNat_of_lt (by omega)
    rw [this]; rfl
  rw [Int64.toBitVec_or,BitVec.getLsbD_or,h k hk,show (2 * nI j).toInt64 &&& 63 = Int64.ofNat (2 * j) from ix_2 ⟨j,hj⟩,shl_s _ (by omega),BitVec.getLsbD_shiftLeft]
  by_cases a : k < 2 * j
  · simp [a,show k < 2 * (j + 1) by omega]
  · rw [Int64.toBitVec_and,BitVec.getLsbD_and,m3_s (by omega),pv,BitVec.getLsbD_ofNat]
    by_cases b : k < 2 * (j + 1)
    · have h1 : k / 2 = j:=by omega
      have h2 : k % 2 = k - 2 * j:=by omega
      rw [h1,h2,e]
      simp [a,b,hk,show k - 2 * j < 2 by omega,show k - 2 * j < 64 by omega]
    · simp [a,b,show ¬ k - 2 * j < 2 by omega]
theorem BW_g {w : Int64} {j i : Nat} {f : Nat→Nat} (h : BW w j f) (hj : j≤16) (hi : i < j) (hf : f i < 4) : ((w >>> ((2 * nI i).toInt64 &&& 63)) &&& 3).toInt32 = nI (f i):=by
  apply Int32.toBitVec_inj.mp
  apply BitVec.eq_of_getLsbD_eq
  intro k hk
  rw [Int64.toBitVec_toInt32,BitVec.getLsbD_signExtend,Int64.toBitVec_and,BitVec.getLsbD_and,m3_s (by omega),show (2 * nI i).toInt64 &&& 63 = Int64.ofNat (2 * i) from ix_2 ⟨i,by omega⟩,sar_s _ (by omega),BitVec.getLsbD_sshiftRight]
  have e : (nI (f i)).toBitVec.getLsbD k = (f i).testBit k:=by
    show (BitVec.ofNat 32 (f i)).getLsbD k = _
    rw [BitVec.getLsbD_ofNat]
    simp [hk]
  rw [e]
  by_cases a : k < 2
  · rw [if_pos (by omega),h (2 * i + k) (by omega),show (2 * i + k) / 2 = i by omega,show (2 * i + k) % 2 = k by omega]
    rw [if_pos (show 2 * i + k < 64 by omega)]
    simp [a,hk,show k < 64 by omega,show ¬ 64≤k by omega,show 2 * i + k < 2 * j by omega]
  · have : (f i).testBit k = false:=Nat.testBit_lt_two_pow (Nat.lt_of_lt_of_le hf (Nat.pow_le_pow_right (n:=2) (i:=2) (by decide) (by omega)))
    rw [this]
    simp [a,show k < 64 by omega]
def am (w : Nat) (v : Int32) : Nat:=v.toBitVec.toNat % 2 ^ w
theorem am_lt (w : Nat) (v : Int32) : am w v < 2 ^ w:=Nat.mod_lt _ (Nat.two_pow_pos _)
theorem nI_bv (n : Nat) : (nI n).toBitVec = BitVec.ofNat 32 n:=rfl
theorem and_am {k : Nat} (h : k≤31) (v : Int32) : v &&& nI (2 ^ k - 1) = nI (am k v):=by
  have h16 : 2 ^ k≤2 ^ 31:=Nat.pow_le_pow_right (by decide) h
  have hm:=am_lt k v
  apply Int32.toBitVec_inj.mp
  rw [Int32.toBitVec_and,nI_bv,nI_bv]
  apply BitVec.eq_of_toNat_eq
  rw [BitVec.toNat_and,BitVec.toNat_ofNat,BitVec.toNat_ofNat,Nat.mod_eq_of_lt (show 2 ^ k - 1 < 2 ^ 32 by omega),Nat.mod_eq_of_lt (show am k v < 2 ^ 32 by omega),Nat.and_two_pow_sub_one_eq_mod]
  rfl
theorem x_01 : ∀ a c : Fin 2,nI a.val ^^^ nI c.val = nI (a.val ^^^ c.val)∧a.val ^^^ c.val≤1:=by decide +kernel
def RS (w : Nat) (s : Nat→Int32) (A : Nat→List Int32) : Prop:=(s 0 = nI w)∧(8≤w∧w≤64)∧(s 7 = 0)∧(s 13 = 0)∧(s 16 = 0)∧(CM fB (A 7) (fun _ => false) 256)∧(CM nI (A 8) (fun _ => 0) 256)
theorem RS.s0 {w : Nat} {s : Nat→Int32} {A : Nat→List Int32} (h : RS w s A) : s 0 = nI w:=h.1
theorem RS.w8 {w : Nat} {s : Nat→Int32} {A : Nat→List Int32} (h : RS w s A) : 8≤w∧w≤64:=h.2.1
theorem RS.s7 {w : Nat} {s : Nat→Int32} {A : Nat→List Int32} (h : RS w s A) : s 7 = 0:=h.2.2.1
theorem RS.s13 {w : Nat} {s : Nat→Int32} {A : Nat→List Int32} (h : RS w s A) : s 13 = 0:=h.2.2.2.1
theorem RS.s16 {w : Nat} {s : Nat→Int32} {A : Nat→List Int32} (h : RS w s A) : s 16 = 0:=h.2.2.2.2.1
theorem RS.a7 {w : Nat} {s : Nat→Int32} {A : Nat→List Int32} (h : RS w s A) : CM fB (A 7) (fun _ => false) 256:=h.2.2.2.2.2.1
theorem RS.a8 {w : Nat} {s : Nat→Int32} {A : Nat→List Int32} (h : RS w s A) : CM nI (A 8) (fun _ => 0) 256:=h.2.2.2.2.2.2
theorem RS.st {w : Nat} {s s' : Nat→Int32} {A A' : Nat→List Int32} (h : RS w s A) (e : ∀ i,i = 0 ∨ 6 < i→s' i = s i) (f : ∀ i,i = 7 ∨ i = 8→A' i = A i) : RS w s' A':=⟨(e 0 (by omega)).trans h.s0,h.w8,(e 7 (by omega)).trans h.s7,(e 13 (by omega)).trans h.s13,(e 16 (by omega)).trans h.s16,by rw [f 7 (by omega)]; exact h.a7,by rw [f 8 (by omega)]; exact h.a8⟩
def okP (a c : Slot) : Prop:=(okS a∧okS c) ∨ ∃ J : Int64,a = .val (.long J)∧c = .second
theorem okP_u : okP .unset .unset:=Or.inl ⟨okS_u,okS_u⟩
theorem okP_l (J : Int64) : okP (.val (.long J)) .second:=Or.inr ⟨J,rfl,rfl⟩
theorem okP_s {a c : Slot} (h : okS a) (h' : okS c) : okP a c:=Or.inl ⟨h,h'⟩
theorem cmp_e (J : Int64) : XT.cmpL J J = 0:=by simp [XT.cmpL]
section St
variable {st : List Value} {H : AHeap} {Q : Option Value→AHeap→Prop} {l0 l1 l2 l3 l4 l5 l6 l7 l8 l9 l10 l11 l12 l13 l14 l15 l16 l17 l18 l19 l20 l21 l22 l23 : Slot} {J1 : Int64} {v : Int32}
theorem own_law_297 (h : okP l14 l15) : M29 297 [l0,l1,l2,l3,l4,l5,l6,l7,l8,l9,l10,l11,l12,l13,l14,l15,l16,l17,l18,l19,l20,l21,l22,l23] (.long J1::st) H Q = M29 299 [l0,l1,l2,l3,l4,l5,l6,l7,l8,l9,l10,l11,l12,l13,.val (.long J1),.second,l16,l17,l18,l19,l20,l21,l22,l23] st H Q:=by
  rcases h with ⟨h,h'⟩ | ⟨J,rfl,rfl⟩
  · rcases h with rfl | ⟨z,rfl⟩ <;> rcases h' with rfl | ⟨y,rfl⟩ <;> exact w_x (show decode kb29 297 = .ok (.lstore 14,2) from by decide +kernel) rfl
  · exact w_x (show decode kb29 297 = .ok (.lstore 14,2) from by decide +kernel) rfl
theorem own_law_300 (h : okP l16 l17) : ∃ k,okS k∧M29 300 [l0,l1,l2,l3,l4,l5,l6,l7,l8,l9,l10,l11,l12,l13,l14,l15,l16,l17,l18,l19,l20,l21,l22,l23] (.int v::st) H Q = M29 302 [l0,l1,l2,l3,l4,l5,l6,l7,l8,l9,l10,l11,l12,l13,l14,l15,.val (.int v),k,l18,l19,l20,l21,l22,l23] st H Q:=by
  rcases h with ⟨h,h'⟩ | ⟨J,rfl,rfl⟩
  · refine ⟨_,h',?_⟩
    rcases h with rfl | ⟨z,rfl⟩ <;> exact w_x (show decode kb29 300 = .ok (.istore 16,2) from by decide +kernel) rfl
  · exact ⟨_,okS_u,w_x (show decode kb29 300 = .ok (.istore 16,2) from by decide +kernel) rfl⟩
theorem own_law_380 (h : okP l16 l17) : M29 380 [l0,l1,l2,l3,l4,l5,l6,l7,l8,l9,l10,l11,l12,l13,l14,l15,l16,l17,l18,l19,l20,l21,l22,l23] (.long J1::st) H Q = M29 382 [l0,l1,l2,l3,l4,l5,l6,l7,l8,l9,l10,l11,l12,l13,l14,l15,.val (.long J1),.second,l18,l19,l20,l21,l22,l23] st H Q:=by
  rcases h with ⟨h,h'⟩ | ⟨J,rfl,rfl⟩
  · rcases h with rfl | ⟨z,rfl⟩ <;> rcases h' with rfl | ⟨y,rfl⟩ <;> exact w_x (show decode kb29 380 = .ok (.lstore 16,2) from by decide +kernel) rfl
  · exact w_x (show decode kb29 380 = .ok (.lstore 16,2) from by decide +kernel) rfl
theorem own_law_553 (h : okP l14 l15) : ∃ k,okS k∧M29 553 [l0,l1,l2,l3,l4,l5,l6,l7,l8,l9,l10,l11,l12,l13,l14,l15,l16,l17,l18,l19,l20,l21,l22,l23] (.int v::st) H Q = M29 555 [l0,l1,l2,l3,l4,l5,l6,l7,l8,l9,l10,l11,l12,l13,.val (.int v),k,l16,l17,l18,l19,l20,l21,l22,l23] st H Q:=by
  rcases h with ⟨h,h'⟩ | ⟨J,rfl,rfl⟩
  · refine ⟨_,h',?_⟩
    rcases h with rfl | ⟨z,rfl⟩ <;> exact w_x (show decode kb29 553 = .ok (.istore 14,2) from by decide +kernel) rfl
  · exact ⟨_,okS_u,w_x (show decode kb29 553 = .ok (.istore 14,2) from by decide +kernel) rfl⟩
theorem own_law_584 (h : okP l16 l17) : ∃ k,okS k∧M29 584 [l0,l1,l2,l3,l4,l5,l6,l7,l8,l9,l10,l11,l12,l13,l14,l15,l16,l17,l18,l19,l20,l21,l22,l23] (.int v::st) H Q = M29 586 [l0,l1,l2,l3,l4,l5,l6,l7,l8,l9,l10,l11,l12,l13,l14,l15,.val (.int v),k,l18,l19,l20,l21,l22,l23] st H Q:=by
  rcases h with ⟨h,h'⟩ | ⟨J,rfl,rfl⟩
  · refine ⟨_,h',?_⟩
    rcases h with rfl | ⟨z,rfl⟩ <;> exact w_x (show decode kb29 584 = .ok (.istore 16,2) from by decide +kernel) rfl
  · exact ⟨_,okS_u,w_x (show decode kb29 584 = .ok (.istore 16,2) from by decide +kernel) rfl⟩
end St
section Sta
variable {vs : List Int32} {H : AHeap} {Q : Option Value→AHeap→Prop} {s : Nat→Int32} {A : Nat→List Int32}
set_option maxRecDepth 1000000 in
set_option maxHeartbeats 20000000 in
theorem cellR {R : AHeap} {j : Nat} (hlen : vs.length≤260) (hj : j≤1000) (hq : ∀ v : Int32,Q (some (.int v)) ((.array .int,vs.map Value.int)::R)) : M25 0 [.val (.ref 0),.val (.int (nI j))] [] ((.array .int,vs.map Value.int)::R) Q:=by
  by_cases h : j < vs.length
  · have h1 : (nI j < vs.length.toInt32) = True:=lT (c:=vs.length) h (by omega)
    have x0 : inB (nI j) vs:=nI_in h (by omega)
    simp [h1,x0,m25_0,m25_1,m25_2,m25_2p,m25_3,m25_6,m25_7,m25_8,m25_8p,m25_9,m25_12,m25_13,nb0,nb1,ou_a,Option.toList_some,Option.toList_none,List.nil_append,List.cons_append]
    exact hq _
  · have h1 : (nI j < vs.length.toInt32) = False:=lF (c:=vs.length) (by omega) (by omega)
    simp [h1,m25_0,m25_1,m25_2,m25_2p,m25_3,m25_6,m25_7,m25_8,m25_8p,m25_9,m25_12,m25_13,nb0,nb1,ou_a,Option.toList_some,Option.toList_none,List.nil_append,List.cons_append]
    exact hq _
theorem cellW {j : Nat} (hlen : vs.length≤260) (hj : j≤1000) (hq : ∀ v : Int32,Q (some (.int v)) (put 1 [((FieldType.array .int,vs.map Value.int) : FieldType × List Value)] s A [])) : M25 0 [.val (.ref 0),.val (.int (nI j))] [] (put 1 [((FieldType.array .int,vs.map Value.int) : FieldType × List Value)] s A []) Q:=by
  by_cases h : j < vs.length
  · have h1 : (nI j < vs.length.toInt32) = True:=lT (c:=vs.length) h (by omega)
    have x0 : inB (nI j) vs:=nI_in h (by omega)
    simp [h1,x0,m25_0,m25_1,m25_2,m25_2p,m25_3,m25_6,m25_7,m25_8,m25_8p,m25_9,m25_12,m25_13,nb0,nb1,ou_a,Option.toList_some,Option.toList_none,List.nil_append,List.cons_append]
    exact hq _
  · have h1 : (nI j < vs.length.toInt32) = False:=lF (c:=vs.length) (by omega) (by omega)
    simp [h1,m25_0,m25_1,m25_2,m25_2p,m25_3,m25_6,m25_7,m25_8,m25_8p,m25_9,m25_12,m25_13,nb0,nb1,ou_a,Option.toList_some,Option.toList_none,List.nil_append,List.cons_append]
    exact hq _
def tbv (o sd : Int32) : Int32:=(XT.ushr ((o * -1640531535 + sd * -2048144789) ^^^ XT.ushr (o * -1640531535 + sd * -2048144789) 15) 7) &&& 1
def fpv (fl u : Int32) (j : Int32) : Int32:=if fl = 0 then 0 else (u >>> ((11 + j) &&& 31)) &&& 1
def sgv (o sd fl u j : Int32) : Int32:=tbv o sd ^^^ fpv fl u j
def sgN (o sd fl u j : Int32) : Nat:=(sgv o sd fl u j).toInt.toNat
theorem sg_e (o sd fl u j : Int32) : sgN o sd fl u j≤1∧sgv o sd fl u j = nI (sgN o sd fl u j):=by
  have h1 : ∃ a,a < 2∧tbv o sd = nI a:=⟨_,am_lt 1 _,and_am (k:=1) (by decide) _⟩
  have h2 : ∃ a,a < 2∧fpv fl u j = nI a:=by
    unfold fpv
    split
    · exact ⟨0,by decide,rfl⟩
    · exact ⟨_,am_lt 1 _,and_am (k:=1) (by decide) _⟩
  obtain ⟨a,ha,ea⟩:=h1
  obtain ⟨c,hc,ec⟩:=h2
  have x:=x_01 ⟨a,ha⟩ ⟨c,hc⟩
  have e : sgv o sd fl u j = nI (a ^^^ c):=by unfold sgv; rw [ea,ec]; exact x.1
  have x2 : a ^^^ c≤1:=x.2
  have n : sgN o sd fl u j = a ^^^ c:=by unfold sgN; rw [e,nI_int (by omega)]; rfl
  rw [n]
  exact ⟨x2,e⟩
def bvl (pr : Nat→Bool) (sv : Nat→Nat) (o : Nat) : Int32:=if pr o = true then nI (sv o) else -1
def hso (g : Nat→Int32) (lo hi : Nat) : Nat→Nat→Int64→Int64
  | 0,_,h => h
  | k + 1,o,h => hso g lo hi k (o + 1) (if lo≤o∧o < hi then h else h * 31 + (g o + 2).toInt64)
theorem hso_ext {g g' : Nat→Int32} {lo hi : Nat} (e : ∀ o,¬ (lo≤o∧o < hi)→g o = g' o) : ∀ (k o : Nat) (h : Int64),hso g lo hi k o h = hso g' lo hi k o h:=by
  intro k
  induction k with
  | zero => intro o h; rfl
  | succ k ih =>
    intro o h
    rw [hso,hso]
    by_cases z : lo≤o∧o < hi
    · rw [if_pos z,if_pos z]; exact ih _ _
    · rw [if_neg z,if_neg z,e o z]; exact ih _ _
set_option maxRecDepth 1000000 in
set_option maxHeartbeats 20000000 in
theorem sgW {o sd fl u j : Int32} (hq : Q (some (.int (nI (sgN o sd fl u j)))) H) : M26 0 [.val (.int (o)),.val (.int (sd)),.val (.int (fl)),.val (.int (u)),.val (.int (j))] [] H Q:=by
  rw [← (sg_e o sd fl u j).2] at hq
  unfold sgv fpv tbv at hq
  by_cases z : fl = 0
  · rw [if_pos z] at hq
    simp [z,m26_0,m26_1,m26_2,m26_5,m26_6,m26_9,m26_10,m26_12,m26_14,m26_15,m26_16,m26_17,m26_18,m26_21,m26_22,m26_23,nb0,nb1,ou_a,Option.toList_some,Option.toList_none,List.nil_append,List.cons_append,m27_0,m27_1,m27_3,m27_4,m27_5,m27_7,m27_8,m27_9u,m27_10,m27_11,m27_12,m27_14,m27_15,m27_16i,m27_17,m27_18,m27_20,m27_21,m27_22,m27_23,nb0,nb1,ou_a,Option.toList_some,Option.toList_none,List.nil_append,List.cons_append]
    simpa using hq
  · rw [if_neg z] at hq
    simp [z,m26_0,m26_1,m26_2,m26_5,m26_6,m26_9,m26_10,m26_12,m26_14,m26_15,m26_16,m26_17,m26_18,m26_21,m26_22,m26_23,nb0,nb1,ou_a,Option.toList_some,Option.toList_none,List.nil_append,List.cons_append,m27_0,m27_1,m27_3,m27_4,m27_5,m27_7,m27_8,m27_9u,m27_10,m27_11,m27_12,m27_14,m27_15,m27_16i,m27_17,m27_18,m27_20,m27_21,m27_22,m27_23,nb0,nb1,ou_a,Option.toList_some,Option.toList_none,List.nil_append,List.cons_append]
    simpa using hq
theorem byW {pr : Nat→Bool} {sv : Nat→Nat} {o : Nat} (hL : LN A) (h7 : CM fB (A 7) pr 256) (h8 : CM nI (A 8) sv 256) (ho : o < 256) (hq : Q (some (.int (bvl pr sv o))) (put 1 [((FieldType.array .int,vs.map Value.int) : FieldType × List Value)] s A [])) : M12 0 [.val (.ref 1),.val (.int (nI o))] [] (put 1 [((FieldType.array .int,vs.map Value.int) : FieldType × List Value)] s A []) Q:=by
  have c1 : (nI o < 0) = False:=nnF (by omega)
  have c2 : (nI o < 256) = True:=lT (c:=256) ho (by decide)
  have q7:=in7 hL (i:=o) ho
  have v7:=h7 o ho
  have q8:=in8 hL (i:=o) ho
  have v8:=h8 o ho
  unfold bvl at hq
  cases z : pr o with
  | true =>
    have z1:=fB_1 z
    rw [if_pos z] at hq
    simp [c1,c2,q7,v7,z1,q8,v8,m12_0,m12_1,m12_2,m12_5,m12_8,m12_9,m12_10,m12_11,m12_14,m12_15,m12_16,m12_19,m12_20,m12_21,m12_22,m12_25,m12_26,m12_27,nb0,nb1,ou_a,Option.toList_some,Option.toList_none,List.nil_append,List.cons_append,m11_0,m11_1,m11_4,m11_5,m11_8,m11_11,m11_12,m11_15,m11_16,nb0,nb1,ou_a,Option.toList_some,Option.toList_none,List.nil_append,List.cons_append]
    exact hq
  | false =>
    have z1:=fB_0 z
    rw [if_neg (by rw [z]; decide)] at hq
    simp [c1,c2,q7,v7,z1,m12_0,m12_1,m12_2,m12_5,m12_8,m12_9,m12_10,m12_11,m12_14,m12_15,m12_16,m12_19,m12_20,m12_21,m12_22,m12_25,m12_26,m12_27,nb0,nb1,ou_a,Option.toList_some,Option.toList_none,List.nil_append,List.cons_append,m11_0,m11_1,m11_4,m11_5,m11_8,m11_11,m11_12,m11_15,m11_16,nb0,nb1,ou_a,Option.toList_some,Option.toList_none,List.nil_append,List.cons_append]
    exact hq
theorem haL {pr : Nat→Bool} {sv : Nat→Nat} {lo hi : Nat} (hL : LN A) (h7 : CM fB (A 7) pr 256) (h8 : CM nI (A 8) sv 256) (hlo : lo≤1000) (hhi : hi≤1000) : ∀ (r o : Nat) (h : Int64),o + r = 256→Q (some (.long (hso (bvl pr sv) lo hi r o h))) (put 1 [((FieldType.array .int,vs.map Value.int) : FieldType × List Value)] s A [])→M28 7 [.val (.ref 1),.val (.int (nI lo)),.val (.int (nI hi)),.val (.long h),.second,.val (.int (nI o))] [] (put 1 [((FieldType.array .int,vs.map Value.int) : FieldType × List Value)] s A []) Q:=by
  intro r
  induction r with
  | zero =>
    intro o h e hq
    obtain rfl : o = 256:=by omega
    have c1 : (nI 256 < 256) = False:=lF (c:=256) (by omega) (by omega)
    rw [m28_7]
    simp [c1,m28_0,m28_3,m28_4,m28_5u,m28_9,m28_12,m28_15,m28_17,m28_18,m28_21,m28_23,m28_24,m28_27,m28_30,m28_31,m28_34,m28_35,m28_36,m28_38,m28_41,m28_42,m28_43,m28_44,m28_45,m28_46,m28_49,m28_52,m28_53,nb0,nb1,ou_a,Option.toList_some,Option.toList_none,List.nil_append,List.cons_append]
    exact hq
  | succ r ih =>
    intro o h e hq
    have c1 : (nI o < 256) = True:=lT (c:=256) (by omega) (by omega)
    rw [hso] at hq
    rw [m28_7]
    by_cases z : o < lo
    · have z1 : (nI o < nI lo) = True:=lT z (by omega)
      rw [if_neg (by omega)] at hq
      simp [c1,z1,m28_0,m28_3,m28_4,m28_5u,m28_9,m28_12,m28_15,m28_17,m28_18,m28_21,m28_23,m28_24,m28_27,m28_30,m28_31,m28_34,m28_35,m28_36,m28_38,m28_41,m28_42,m28_43,m28_44,m28_45,m28_46,m28_49,m28_52,m28_53,nb0,nb1,ou_a,Option.toList_some,Option.toList_none,List.nil_append,List.cons_append]
      refine byW hL h7 h8 (by omega) ?_
      simp [nI_1,m28_0,m28_3,m28_4,m28_5u,m28_9,m28_12,m28_15,m28_17,m28_18,m28_21,m28_23,m28_24,m28_27,m28_30,m28_31,m28_34,m28_35,m28_36,m28_38,m28_41,m28_42,m28_43,m28_44,m28_45,m28_46,m28_49,m28_52,m28_53,nb0,nb1,ou_a,Option.toList_some,Option.toList_none,List.nil_append,List.cons_append]
      exact ih (o + 1) _ (by omega) hq
    · have z1 : (nI o < nI lo) = False:=lF (by omega) (by omega)
      by_cases y : o < hi
      · have y1 : (nI o < nI hi) = True:=lT y (by omega)
        rw [if_pos ⟨by omega,y⟩] at hq
        simp [c1,z1,y1,nI_1,m28_0,m28_3,m28_4,m28_5u,m28_9,m28_12,m28_15,m28_17,m28_18,m28_21,m28_23,m28_24,m28_27,m28_30,m28_31,m28_34,m28_35,m28_36,m28_38,m28_41,m28_42,m28_43,m28_44,m28_45,m28_46,m28_49,m28_52,m28_53,nb0,nb1,ou_a,Option.toList_some,Option.toList_none,List.nil_append,List.cons_append]
        exact ih (o + 1) _ (by omega) hq
      · have y1 : (nI o < nI hi) = False:=lF (by omega) (by omega)
        rw [if_neg (by omega)] at hq
        simp [c1,z1,y1,m28_0,m28_3,m28_4,m28_5u,m28_9,m28_12,m28_15,m28_17,m28_18,m28_21,m28_23,m28_24,m28_27,m28_30,m28_31,m28_34,m28_35,m28_36,m28_38,m28_41,m28_42,m28_43,m28_44,m28_45,m28_46,m28_49,m28_52,m28_53,nb0,nb1,ou_a,Option.toList_some,Option.toList_none,List.nil_append,List.cons_append]
        refine byW hL h7 h8 (by omega) ?_
        simp [nI_1,m28_0,m28_3,m28_4,m28_5u,m28_9,m28_12,m28_15,m28_17,m28_18,m28_21,m28_23,m28_24,m28_27,m28_30,m28_31,m28_34,m28_35,m28_36,m28_38,m28_41,m28_42,m28_43,m28_44,m28_45,m28_46,m28_49,m28_52,m28_53,nb0,nb1,ou_a,Option.toList_some,Option.toList_none,List.nil_append,List.cons_append]
        exact ih (o + 1) _ (by omega) hq
theorem haW {pr : Nat→Bool} {sv : Nat→Nat} {lo hi : Nat} (hL : LN A) (h7 : CM fB (A 7) pr 256) (h8 : CM nI (A 8) sv 256) (hlo : lo≤1000) (hhi : hi≤1000) (hq : Q (some (.long (hso (bvl pr sv) lo hi 256 0 17))) (put 1 [((FieldType.array .int,vs.map Value.int) : FieldType × List Value)] s A [])) : M28 0 [.val (.ref 1),.val (.int (nI lo)),.val (.int (nI hi)),.unset,.unset,.unset] [] (put 1 [((FieldType.array .int,vs.map Value.int) : FieldType × List Value)] s A []) Q:=by
  simp [m28_0,m28_3,m28_4,m28_5u,m28_9,m28_12,m28_15,m28_17,m28_18,m28_21,m28_23,m28_24,m28_27,m28_30,m28_31,m28_34,m28_35,m28_36,m28_38,m28_41,m28_42,m28_43,m28_44,m28_45,m28_46,m28_49,m28_52,m28_53,nb0,nb1,ou_a,Option.toList_some,Option.toList_none,List.nil_append,List.cons_append]
  exact haL hL h7 h8 hlo hhi 256 0 17 (by omega) hq
theorem st0 {d : Nat} (s7 : s 7 = nI d) : M9 0 [.val (.ref 1),.val (.int 0)] [] (put 1 [((FieldType.array .int,vs.map Value.int) : FieldType × List Value)] s A []) Q = Q (some (.int (nI d))) (put 1 [((FieldType.array .int,vs.map Value.int) : FieldType × List Value)] s A []):=by
  simp [s7,m9_1_0,m9_0,m9_1_0,m9_1_1,m9_1_2,m9_1_3,m9_1_4,m9_1_5,m9_1_6,m9_1_7,m9_1_8,m9_1_9,m9_1_10,m9_1_11,m9_1_12,m9_1_13,m9_1_14,m9_76,m9_77,m9_80,m9_81,m9_82,m9_85,m9_86,m9_87,m9_90,m9_91,m9_92,m9_95,m9_96,m9_97,m9_100,m9_101,m9_102,m9_105,m9_106,m9_107,m9_110,m9_111,m9_112,m9_115,m9_116,m9_117,m9_120,m9_121,m9_122,m9_123,m9_130,m9_131,m9_132,m9_139,m9_140,m9_143,m9_146,m9_147,m9_150,m9_153,m9_154,m9_155,m9_156,m9_159,m9_162,m9_163,m9_166,m9_169,m9_170,m9_171,m9_172,m9_175,m9_176,m9_177,m9_180,m9_181,m9_182,nb0,nb1,ou_a,Option.toList_some,Option.toList_none,List.nil_append,List.cons_append]
theorem st5 {d : Nat} (s16 : s 16 = nI d) : M9 0 [.val (.ref 1),.val (.int 5)] [] (put 1 [((FieldType.array .int,vs.map Value.int) : FieldType × List Value)] s A []) Q = Q (some (.int (nI d))) (put 1 [((FieldType.array .int,vs.map Value.int) : FieldType × List Value)] s A []):=by
  simp [s16,m9_1_5,m9_0,m9_1_0,m9_1_1,m9_1_2,m9_1_3,m9_1_4,m9_1_5,m9_1_6,m9_1_7,m9_1_8,m9_1_9,m9_1_10,m9_1_11,m9_1_12,m9_1_13,m9_1_14,m9_76,m9_77,m9_80,m9_81,m9_82,m9_85,m9_86,m9_87,m9_90,m9_91,m9_92,m9_95,m9_96,m9_97,m9_100,m9_101,m9_102,m9_105,m9_106,m9_107,m9_110,m9_111,m9_112,m9_115,m9_116,m9_117,m9_120,m9_121,m9_122,m9_123,m9_130,m9_131,m9_132,m9_139,m9_140,m9_143,m9_146,m9_147,m9_150,m9_153,m9_154,m9_155,m9_156,m9_159,m9_162,m9_163,m9_166,m9_169,m9_170,m9_171,m9_172,m9_175,m9_176,m9_177,m9_180,m9_181,m9_182,nb0,nb1,ou_a,Option.toList_some,Option.toList_none,List.nil_append,List.cons_append]
theorem st6 {d : Nat} (s2 : s 2 = nI d) : M9 0 [.val (.ref 1),.val (.int 6)] [] (put 1 [((FieldType.array .int,vs.map Value.int) : FieldType × List Value)] s A []) Q = Q (some (.int (nI d))) (put 1 [((FieldType.array .int,vs.map Value.int) : FieldType × List Value)] s A []):=by
  simp [s2,m9_1_6,m9_0,m9_1_0,m9_1_1,m9_1_2,m9_1_3,m9_1_4,m9_1_5,m9_1_6,m9_1_7,m9_1_8,m9_1_9,m9_1_10,m9_1_11,m9_1_12,m9_1_13,m9_1_14,m9_76,m9_77,m9_80,m9_81,m9_82,m9_85,m9_86,m9_87,m9_90,m9_91,m9_92,m9_95,m9_96,m9_97,m9_100,m9_101,m9_102,m9_105,m9_106,m9_107,m9_110,m9_111,m9_112,m9_115,m9_116,m9_117,m9_120,m9_121,m9_122,m9_123,m9_130,m9_131,m9_132,m9_139,m9_140,m9_143,m9_146,m9_147,m9_150,m9_153,m9_154,m9_155,m9_156,m9_159,m9_162,m9_163,m9_166,m9_169,m9_170,m9_171,m9_172,m9_175,m9_176,m9_177,m9_180,m9_181,m9_182,nb0,nb1,ou_a,Option.toList_some,Option.toList_none,List.nil_append,List.cons_append]
end Sta
section Law
variable {vs : List Int32} {Q : Option Value→AHeap→Prop} {s : Nat→Int32} {A : Nat→List Int32} {w ns en N d : Nat} {sb ss sl dl om sv : Nat→Nat} {lab : Nat→List Nat} {pr : Nat→Bool} {l1 l2 l3 l4 l5 l6 l7 l8 l9 l10 l11 l12 l13 l14 l15 l16 l17 l18 l19 l20 l21 l22 l23 : Slot}
set_option maxRecDepth 1000000 in
set_option maxHeartbeats 20000000 in
theorem buJ {cc : Int32} {k len : Nat} (hk : k < 8) (h1 : 1≤len) (h4 : len≤4) : ∀ (r j en : Nat) (sb : Nat→Nat) (s : Nat→Int32) (A : Nat→List Int32),j + r = len→SGS k j en sb ss sl s A→RS w s A →
    (∀ en' sb' s' A',SGS k len en' sb' ss sl s' A'→RS w s' A'→M29 134 [.val (.ref 0),l1,l2,l3,.val (.ref 1),l5,l6,l7,.val (.int (nI k)),.val (.int (cc)),.val (.int (nI len)),.val (.int (nI len)),.unset,.unset,.unset,.unset,.unset,.unset,.unset,.unset,.unset,.unset,.unset,.unset] [] (put 1 [((FieldType.array .int,vs.map Value.int) : FieldType × List Value)] s' A' []) Q)→M29 102 [.val (.ref 0),l1,l2,l3,.val (.ref 1),l5,l6,l7,.val (.int (nI k)),.val (.int (cc)),.val (.int (nI len)),.val (.int (nI j)),.unset,.unset,.unset,.unset,.unset,.unset,.unset,.unset,.unset,.unset,.unset,.unset] [] (put 1 [((FieldType.array .int,vs.map Value.int) : FieldType × List Value)] s A []) Q:=by
  intro r
  induction r with
  | zero =>
    intro j en sb s A e hS hR hq
    obtain rfl : j = len:=by omega
    have c1 : (nI j < nI j) = False:=lF (by omega) (by omega)
    rw [m29_102]
    simp [c1,m29_0,m29_1,m29_2,m29_5u,m29_6,m29_7,m29_8,m29_11,m29_13,m29_14,m29_16,m29_17u,m29_18,m29_19,m29_20,m29_23u,m29_24,m29_27,m29_28,m29_29,m29_32u,m29_34,m29_35,m29_37,m29_40,m29_42,m29_45,m29_46,m29_48,m29_51,m29_53,m29_56,m29_57u,m29_59,m29_60,m29_61,m29_63,m29_64,m29_65u,m29_67,m29_68u,m29_70,m29_71u,m29_75,m29_77,m29_80,m29_81,m29_83,m29_86,m29_89u,m29_89i,m29_89r,m29_89g,m29_91,m29_92,m29_94,m29_95,m29_96,m29_97u,m29_97i,m29_97r,m29_97g,m29_99,m29_100u,m29_100i,m29_100r,m29_100g,m29_104,m29_106,m29_109,m29_111,m29_113,m29_114,m29_116,m29_117,m29_118,m29_119,m29_120,m29_123,m29_126,m29_127,m29_128,m29_131,m29_136,m29_139,m29_141,m29_144,m29_145,m29_146,m29_149,m29_152,m29_154,m29_157,m29_160,m29_161,m29_162,m29_163i,m29_167,m29_168,m29_168p,m29_169,m29_172,m29_174,m29_177,m29_180,m29_181,m29_183,m29_186,m29_186p,m29_187,m29_189,m29_190u,m29_190i,m29_190r,m29_190g,m29_192,m29_195,m29_197,m29_198,m29_201u,m29_201i,m29_201r,m29_201g,m29_203,m29_205,m29_207,m29_208,m29_210,m29_212,m29_213,m29_214u,m29_214i,m29_214r,m29_214g,m29_216,m29_218,m29_221,m29_222i,m29_224,m29_226,m29_229,m29_232,m29_235i,m29_237,m29_238,m29_240,m29_241,m29_242,m29_244,m29_245,m29_246u,m29_246i,m29_246r,m29_246g,m29_248,m29_250,m29_252,m29_253,m29_256,m29_259,m29_262,m29_264,m29_265i,m29_267,m29_269,m29_271,m29_272,m29_273,m29_274,m29_277,m29_278,m29_281,m29_282u,m29_282i,m29_282r,m29_282g,m29_284,m29_286,m29_288,m29_291,m29_294,m29_295,m29_296,m29_297,m29_299,m29_300u,m29_300i,m29_300r,m29_300g,m29_304,m29_306,m29_309,m29_311,m29_313,m29_314u,m29_314i,m29_314r,m29_314g,m29_316,m29_318,m29_320,m29_322,m29_325,m29_326,m29_327,m29_328,m29_331,m29_332,m29_333,m29_335,m29_336,m29_337,m29_338,m29_340,m29_342,m29_344,m29_345,m29_347,m29_349,m29_351,m29_354,m29_357,m29_360,m29_361,m29_362,m29_365,m29_368,m29_370,m29_372,m29_374,m29_376,m29_377,m29_380,m29_382,m29_384,m29_385,m29_388u,m29_388i,m29_388r,m29_388g,m29_390,m29_392,m29_395,m29_396,m29_397u,m29_397i,m29_397r,m29_397g,m29_401,m29_403,m29_406,m29_408,m29_410,m29_411u,m29_411i,m29_411r,m29_411g,m29_413,m29_415,m29_416,m29_418,m29_420,m29_422,m29_425u,m29_425i,m29_425r,m29_425g,m29_427,m29_429,m29_430,m29_432,m29_433,m29_434,m29_437,m29_438,m29_439,m29_440,m29_441u,m29_441i,m29_441r,m29_441g,m29_443,m29_445,m29_448,m29_450,m29_453,m29_455,m29_457,m29_459,m29_460,m29_463,m29_465,m29_468,m29_469u,m29_469i,m29_469r,m29_469g,m29_471,m29_473,m29_475,m29_478,m29_480,m29_483,m29_484,m29_485,m29_488,m29_491,m29_493,m29_495,m29_497,m29_499,m29_500,m29_503,m29_505,m29_506,m29_509,m29_510,m29_511,m29_514,m29_516,m29_517,m29_520u,m29_520i,m29_520r,m29_520g,m29_522,m29_524,m29_526,m29_529u,m29_529i,m29_529r,m29_529g,m29_531,m29_533,m29_534,m29_537u,m29_537i,m29_537r,m29_537g,m29_539,m29_540u,m29_540i,m29_540r,m29_540g,m29_542,m29_543u,m29_543i,m29_543r,m29_543g,m29_547,m29_549,m29_552,m29_553u,m29_553i,m29_553r,m29_553g,m29_557,m29_559,m29_562,m29_564,m29_566,m29_569u,m29_569i,m29_569r,m29_569g,m29_571,m29_573,m29_575,m29_576,m29_577,m29_580,m29_583,m29_584u,m29_584i,m29_584r,m29_584g,m29_586,m29_587u,m29_587i,m29_587r,m29_587g,m29_591,m29_593,m29_596,m29_598,m29_601,m29_603,m29_605,m29_607,m29_608,m29_609,m29_610,m29_612,m29_613,m29_616,m29_618,m29_620,m29_622,m29_625,m29_628,m29_629i,m29_631,m29_634,m29_637,m29_639,m29_642,m29_644,m29_646,m29_649,m29_651,m29_653,m29_656,m29_658,m29_661,m29_663,m29_665,m29_668,m29_670,m29_673,m29_674,m29_675,m29_678,m29_681,m29_684,m29_687,m29_690,m29_692,m29_694,m29_697,m29_698,m29_701,m29_702,nb0,nb1,ou_a,Option.toList_some,Option.toList_none,List.nil_append,List.cons_append]
    exact hq en sb s A hS hR
  | succ r ih =>
    intro j en sb s A e hS hR hq
    have c1 : (nI j < nI len) = True:=lT (by omega) (by omega)
    have e1 : (cc >>> ((2 + nI j) &&& 31)) &&& 1 = nI (am 1 (cc >>> ((2 + nI j) &&& 31))):=and_am (k:=1) (by decide) _
    have b1:=am_lt 1 (cc >>> ((2 + nI j) &&& 31))
    rw [m29_102]
    simp [c1,e1,m29_0,m29_1,m29_2,m29_5u,m29_6,m29_7,m29_8,m29_11,m29_13,m29_14,m29_16,m29_17u,m29_18,m29_19,m29_20,m29_23u,m29_24,m29_27,m29_28,m29_29,m29_32u,m29_34,m29_35,m29_37,m29_40,m29_42,m29_45,m29_46,m29_48,m29_51,m29_53,m29_56,m29_57u,m29_59,m29_60,m29_61,m29_63,m29_64,m29_65u,m29_67,m29_68u,m29_70,m29_71u,m29_75,m29_77,m29_80,m29_81,m29_83,m29_86,m29_89u,m29_89i,m29_89r,m29_89g,m29_91,m29_92,m29_94,m29_95,m29_96,m29_97u,m29_97i,m29_97r,m29_97g,m29_99,m29_100u,m29_100i,m29_100r,m29_100g,m29_104,m29_106,m29_109,m29_111,m29_113,m29_114,m29_116,m29_117,m29_118,m29_119,m29_120,m29_123,m29_126,m29_127,m29_128,m29_131,m29_136,m29_139,m29_141,m29_144,m29_145,m29_146,m29_149,m29_152,m29_154,m29_157,m29_160,m29_161,m29_162,m29_163i,m29_167,m29_168,m29_168p,m29_169,m29_172,m29_174,m29_177,m29_180,m29_181,m29_183,m29_186,m29_186p,m29_187,m29_189,m29_190u,m29_190i,m29_190r,m29_190g,m29_192,m29_195,m29_197,m29_198,m29_201u,m29_201i,m29_201r,m29_201g,m29_203,m29_205,m29_207,m29_208,m29_210,m29_212,m29_213,m29_214u,m29_214i,m29_214r,m29_214g,m29_216,m29_218,m29_221,m29_222i,m29_224,m29_226,m29_229,m29_232,m29_235i,m29_237,m29_238,m29_240,m29_241,m29_242,m29_244,m29_245,m29_246u,m29_246i,m29_246r,m29_246g,m29_248,m29_250,m29_252,m29_253,m29_256,m29_259,m29_262,m29_264,m29_265i,m29_267,m29_269,m29_271,m29_272,m29_273,m29_274,m29_277,m29_278,m29_281,m29_282u,m29_282i,m29_282r,m29_282g,m29_284,m29_286,m29_288,m29_291,m29_294,m29_295,m29_296,m29_297,m29_299,m29_300u,m29_300i,m29_300r,m29_300g,m29_304,m29_306,m29_309,m29_311,m29_313,m29_314u,m29_314i,m29_314r,m29_314g,m29_316,m29_318,m29_320,m29_322,m29_325,m29_326,m29_327,m29_328,m29_331,m29_332,m29_333,m29_335,m29_336,m29_337,m29_338,m29_340,m29_342,m29_344,m29_345,m29_347,m29_349,m29_351,m29_354,m29_357,m29_360,m29_361,m29_362,m29_365,m29_368,m29_370,m29_372,m29_374,m29_376,m29_377,m29_380,m29_382,m29_384,m29_385,m29_388u,m29_388i,m29_388r,m29_388g,m29_390,m29_392,m29_395,m29_396,m29_397u,m29_397i,m29_397r,m29_397g,m29_401,m29_403,m29_406,m29_408,m29_410,m29_411u,m29_411i,m29_411r,m29_411g,m29_413,m29_415,m29_416,m29_418,m29_420,m29_422,m29_425u,m29_425i,m29_425r,m29_425g,m29_427,m29_429,m29_430,m29_432,m29_433,m29_434,m29_437,m29_438,m29_439,m29_440,m29_441u,m29_441i,m29_441r,m29_441g,m29_443,m29_445,m29_448,m29_450,m29_453,m29_455,m29_457,m29_459,m29_460,m29_463,m29_465,m29_468,m29_469u,m29_469i,m29_469r,m29_469g,m29_471,m29_473,m29_475,m29_478,m29_480,m29_483,m29_484,m29_485,m29_488,m29_491,m29_493,m29_495,m29_497,m29_499,m29_500,m29_503,m29_505,m29_506,m29_509,m29_510,m29_511,m29_514,m29_516,m29_517,m29_520u,m29_520i,m29_520r,m29_520g,m29_522,m29_524,m29_526,m29_529u,m29_529i,m29_529r,m29_529g,m29_531,m29_533,m29_534,m29_537u,m29_537i,m29_537r,m29_537g,m29_539,m29_540u,m29_540i,m29_540r,m29_540g,m29_542,m29_543u,m29_543i,m29_543r,m29_543g,m29_547,m29_549,m29_552,m29_553u,m29_553i,m29_553r,m29_553g,m29_557,m29_559,m29_562,m29_564,m29_566,m29_569u,m29_569i,m29_569r,m29_569g,m29_571,m29_573,m29_575,m29_576,m29_577,m29_580,m29_583,m29_584u,m29_584i,m29_584r,m29_584g,m29_586,m29_587u,m29_587i,m29_587r,m29_587g,m29_591,m29_593,m29_596,m29_598,m29_601,m29_603,m29_605,m29_607,m29_608,m29_609,m29_610,m29_612,m29_613,m29_616,m29_618,m29_620,m29_622,m29_625,m29_628,m29_629i,m29_631,m29_634,m29_637,m29_639,m29_642,m29_644,m29_646,m29_649,m29_651,m29_653,m29_656,m29_658,m29_661,m29_663,m29_665,m29_668,m29_670,m29_673,m29_674,m29_675,m29_678,m29_681,m29_684,m29_687,m29_690,m29_692,m29_694,m29_697,m29_698,m29_701,m29_702,nb0,nb1,ou_a,Option.toList_some,Option.toList_none,List.nil_append,List.cons_append]
    generalize am 1 (cc >>> ((2 + nI j) &&& 31)) = bit at *
    refine abW (b:=0) hS hk (by omega) (by omega) (fun hS' => ?_)
    simp [nI_1,m29_0,m29_1,m29_2,m29_5u,m29_6,m29_7,m29_8,m29_11,m29_13,m29_14,m29_16,m29_17u,m29_18,m29_19,m29_20,m29_23u,m29_24,m29_27,m29_28,m29_29,m29_32u,m29_34,m29_35,m29_37,m29_40,m29_42,m29_45,m29_46,m29_48,m29_51,m29_53,m29_56,m29_57u,m29_59,m29_60,m29_61,m29_63,m29_64,m29_65u,m29_67,m29_68u,m29_70,m29_71u,m29_75,m29_77,m29_80,m29_81,m29_83,m29_86,m29_89u,m29_89i,m29_89r,m29_89g,m29_91,m29_92,m29_94,m29_95,m29_96,m29_97u,m29_97i,m29_97r,m29_97g,m29_99,m29_100u,m29_100i,m29_100r,m29_100g,m29_104,m29_106,m29_109,m29_111,m29_113,m29_114,m29_116,m29_117,m29_118,m29_119,m29_120,m29_123,m29_126,m29_127,m29_128,m29_131,m29_136,m29_139,m29_141,m29_144,m29_145,m29_146,m29_149,m29_152,m29_154,m29_157,m29_160,m29_161,m29_162,m29_163i,m29_167,m29_168,m29_168p,m29_169,m29_172,m29_174,m29_177,m29_180,m29_181,m29_183,m29_186,m29_186p,m29_187,m29_189,m29_190u,m29_190i,m29_190r,m29_190g,m29_192,m29_195,m29_197,m29_198,m29_201u,m29_201i,m29_201r,m29_201g,m29_203,m29_205,m29_207,m29_208,m29_210,m29_212,m29_213,m29_214u,m29_214i,m29_214r,m29_214g,m29_216,m29_218,m29_221,m29_222i,m29_224,m29_226,m29_229,m29_232,m29_235i,m29_237,m29_238,m29_240,m29_241,m29_242,m29_244,m29_245,m29_246u,m29_246i,m29_246r,m29_246g,m29_248,m29_250,m29_252,m29_253,m29_256,m29_259,m29_262,m29_264,m29_265i,m29_267,m29_269,m29_271,m29_272,m29_273,m29_274,m29_277,m29_278,m29_281,m29_282u,m29_282i,m29_282r,m29_282g,m29_284,m29_286,m29_288,m29_291,m29_294,m29_295,m29_296,m29_297,m29_299,m29_300u,m29_300i,m29_300r,m29_300g,m29_304,m29_306,m29_309,m29_311,m29_313,m29_314u,m29_314i,m29_314r,m29_314g,m29_316,m29_318,m29_320,m29_322,m29_325,m29_326,m29_327,m29_328,m29_331,m29_332,m29_333,m29_335,m29_336,m29_337,m29_338,m29_340,m29_342,m29_344,m29_345,m29_347,m29_349,m29_351,m29_354,m29_357,m29_360,m29_361,m29_362,m29_365,m29_368,m29_370,m29_372,m29_374,m29_376,m29_377,m29_380,m29_382,m29_384,m29_385,m29_388u,m29_388i,m29_388r,m29_388g,m29_390,m29_392,m29_395,m29_396,m29_397u,m29_397i,m29_397r,m29_397g,m29_401,m29_403,m29_406,m29_408,m29_410,m29_411u,m29_411i,m29_411r,m29_411g,m29_413,m29_415,m29_416,m29_418,m29_420,m29_422,m29_425u,m29_425i,m29_425r,m29_425g,m29_427,m29_429,m29_430,m29_432,m29_433,m29_434,m29_437,m29_438,m29_439,m29_440,m29_441u,m29_441i,m29_441r,m29_441g,m29_443,m29_445,m29_448,m29_450,m29_453,m29_455,m29_457,m29_459,m29_460,m29_463,m29_465,m29_468,m29_469u,m29_469i,m29_469r,m29_469g,m29_471,m29_473,m29_475,m29_478,m29_480,m29_483,m29_484,m29_485,m29_488,m29_491,m29_493,m29_495,m29_497,m29_499,m29_500,m29_503,m29_505,m29_506,m29_509,m29_510,m29_511,m29_514,m29_516,m29_517,m29_520u,m29_520i,m29_520r,m29_520g,m29_522,m29_524,m29_526,m29_529u,m29_529i,m29_529r,m29_529g,m29_531,m29_533,m29_534,m29_537u,m29_537i,m29_537r,m29_537g,m29_539,m29_540u,m29_540i,m29_540r,m29_540g,m29_542,m29_543u,m29_543i,m29_543r,m29_543g,m29_547,m29_549,m29_552,m29_553u,m29_553i,m29_553r,m29_553g,m29_557,m29_559,m29_562,m29_564,m29_566,m29_569u,m29_569i,m29_569r,m29_569g,m29_571,m29_573,m29_575,m29_576,m29_577,m29_580,m29_583,m29_584u,m29_584i,m29_584r,m29_584g,m29_586,m29_587u,m29_587i,m29_587r,m29_587g,m29_591,m29_593,m29_596,m29_598,m29_601,m29_603,m29_605,m29_607,m29_608,m29_609,m29_610,m29_612,m29_613,m29_616,m29_618,m29_620,m29_622,m29_625,m29_628,m29_629i,m29_631,m29_634,m29_637,m29_639,m29_642,m29_644,m29_646,m29_649,m29_651,m29_653,m29_656,m29_658,m29_661,m29_663,m29_665,m29_668,m29_670,m29_673,m29_674,m29_675,m29_678,m29_681,m29_684,m29_687,m29_690,m29_692,m29_694,m29_697,m29_698,m29_701,m29_702,nb0,nb1,ou_a,Option.toList_some,Option.toList_none,List.nil_append,List.cons_append]
    exact ih (j + 1) en _ _ _ (by omega) hS' (hR.st (fun i hi => os_ne (by omega)) (fun i hi => ou_ne (by omega))) hq
theorem buK {ng : Nat} (hlen : vs.length≤260) (h8 : ng≤8) : ∀ (r k pos en : Nat) (sb ss sl : Nat→Nat) (l9 l10 l11 : Slot) (s : Nat→Int32) (A : Nat→List Int32),k + r = ng→pos≤20 + k→SGS k 0 en sb ss sl s A→RS w s A→okS l9→okS l10→okS l11 →
    (∀ pos en' sb' ss' sl' l9 l10 l11 s' A',pos≤40→okS l9→okS l10→okS l11→SGS ng 0 en' sb' ss' sl' s' A'→RS w s' A'→M29 152 [.val (.ref 0),l1,l2,l3,.val (.ref 1),l5,.val (.int (nI ng)),.val (.int (nI pos)),.val (.int (nI ng)),l9,l10,l11,.unset,.unset,.unset,.unset,.unset,.unset,.unset,.unset,.unset,.unset,.unset,.unset] [] (put 1 [((FieldType.array .int,vs.map Value.int) : FieldType × List Value)] s' A' []) Q)→M29 73 [.val (.ref 0),l1,l2,l3,.val (.ref 1),l5,.val (.int (nI ng)),.val (.int (nI pos)),.val (.int (nI k)),l9,l10,l11,.unset,.unset,.unset,.unset,.unset,.unset,.unset,.unset,.unset,.unset,.unset,.unset] [] (put 1 [((FieldType.array .int,vs.map Value.int) : FieldType × List Value)] s A []) Q:=by
  intro r
  induction r with
  | zero =>
    intro k pos en sb ss sl l9 l10 l11 s A e hp hS hR o9 o10 o11 hq
    obtain rfl : k = ng:=by omega
    have c1 : (nI k < nI k) = False:=lF (by omega) (by omega)
    rw [m29_73]
    simp [c1,m29_0,m29_1,m29_2,m29_5u,m29_6,m29_7,m29_8,m29_11,m29_13,m29_14,m29_16,m29_17u,m29_18,m29_19,m29_20,m29_23u,m29_24,m29_27,m29_28,m29_29,m29_32u,m29_34,m29_35,m29_37,m29_40,m29_42,m29_45,m29_46,m29_48,m29_51,m29_53,m29_56,m29_57u,m29_59,m29_60,m29_61,m29_63,m29_64,m29_65u,m29_67,m29_68u,m29_70,m29_71u,m29_75,m29_77,m29_80,m29_81,m29_83,m29_86,m29_89u,m29_89i,m29_89r,m29_89g,m29_91,m29_92,m29_94,m29_95,m29_96,m29_97u,m29_97i,m29_97r,m29_97g,m29_99,m29_100u,m29_100i,m29_100r,m29_100g,m29_104,m29_106,m29_109,m29_111,m29_113,m29_114,m29_116,m29_117,m29_118,m29_119,m29_120,m29_123,m29_126,m29_127,m29_128,m29_131,m29_134,m29_136,m29_139,m29_141,m29_144,m29_145,m29_146,m29_149,m29_154,m29_157,m29_160,m29_161,m29_162,m29_163i,m29_167,m29_168,m29_168p,m29_169,m29_172,m29_174,m29_177,m29_180,m29_181,m29_183,m29_186,m29_186p,m29_187,m29_189,m29_190u,m29_190i,m29_190r,m29_190g,m29_192,m29_195,m29_197,m29_198,m29_201u,m29_201i,m29_201r,m29_201g,m29_203,m29_205,m29_207,m29_208,m29_210,m29_212,m29_213,m29_214u,m29_214i,m29_214r,m29_214g,m29_216,m29_218,m29_221,m29_222i,m29_224,m29_226,m29_229,m29_232,m29_235i,m29_237,m29_238,m29_240,m29_241,m29_242,m29_244,m29_245,m29_246u,m29_246i,m29_246r,m29_246g,m29_248,m29_250,m29_252,m29_253,m29_256,m29_259,m29_262,m29_264,m29_265i,m29_267,m29_269,m29_271,m29_272,m29_273,m29_274,m29_277,m29_278,m29_281,m29_282u,m29_282i,m29_282r,m29_282g,m29_284,m29_286,m29_288,m29_291,m29_294,m29_295,m29_296,m29_297,m29_299,m29_300u,m29_300i,m29_300r,m29_300g,m29_304,m29_306,m29_309,m29_311,m29_313,m29_314u,m29_314i,m29_314r,m29_314g,m29_316,m29_318,m29_320,m29_322,m29_325,m29_326,m29_327,m29_328,m29_331,m29_332,m29_333,m29_335,m29_336,m29_337,m29_338,m29_340,m29_342,m29_344,m29_345,m29_347,m29_349,m29_351,m29_354,m29_357,m29_360,m29_361,m29_362,m29_365,m29_368,m29_370,m29_372,m29_374,m29_376,m29_377,m29_380,m29_382,m29_384,m29_385,m29_388u,m29_388i,m29_388r,m29_388g,m29_390,m29_392,m29_395,m29_396,m29_397u,m29_397i,m29_397r,m29_397g,m29_401,m29_403,m29_406,m29_408,m29_410,m29_411u,m29_411i,m29_411r,m29_411g,m29_413,m29_415,m29_416,m29_418,m29_420,m29_422,m29_425u,m29_425i,m29_425r,m29_425g,m29_427,m29_429,m29_430,m29_432,m29_433,m29_434,m29_437,m29_438,m29_439,m29_440,m29_441u,m29_441i,m29_441r,m29_441g,m29_443,m29_445,m29_448,m29_450,m29_453,m29_455,m29_457,m29_459,m29_460,m29_463,m29_465,m29_468,m29_469u,m29_469i,m29_469r,m29_469g,m29_471,m29_473,m29_475,m29_478,m29_480,m29_483,m29_484,m29_485,m29_488,m29_491,m29_493,m29_495,m29_497,m29_499,m29_500,m29_503,m29_505,m29_506,m29_509,m29_510,m29_511,m29_514,m29_516,m29_517,m29_520u,m29_520i,m29_520r,m29_520g,m29_522,m29_524,m29_526,m29_529u,m29_529i,m29_529r,m29_529g,m29_531,m29_533,m29_534,m29_537u,m29_537i,m29_537r,m29_537g,m29_539,m29_540u,m29_540i,m29_540r,m29_540g,m29_542,m29_543u,m29_543i,m29_543r,m29_543g,m29_547,m29_549,m29_552,m29_553u,m29_553i,m29_553r,m29_553g,m29_557,m29_559,m29_562,m29_564,m29_566,m29_569u,m29_569i,m29_569r,m29_569g,m29_571,m29_573,m29_575,m29_576,m29_577,m29_580,m29_583,m29_584u,m29_584i,m29_584r,m29_584g,m29_586,m29_587u,m29_587i,m29_587r,m29_587g,m29_591,m29_593,m29_596,m29_598,m29_601,m29_603,m29_605,m29_607,m29_608,m29_609,m29_610,m29_612,m29_613,m29_616,m29_618,m29_620,m29_622,m29_625,m29_628,m29_629i,m29_631,m29_634,m29_637,m29_639,m29_642,m29_644,m29_646,m29_649,m29_651,m29_653,m29_656,m29_658,m29_661,m29_663,m29_665,m29_668,m29_670,m29_673,m29_674,m29_675,m29_678,m29_681,m29_684,m29_687,m29_690,m29_692,m29_694,m29_697,m29_698,m29_701,m29_702,nb0,nb1,ou_a,Option.toList_some,Option.toList_none,List.nil_append,List.cons_append]
    exact hq pos en sb ss sl _ _ _ s A (by omega) o9 o10 o11 hS hR
  | succ r ih =>
    intro k pos en sb ss sl l9 l10 l11 s A e hp hS hR o9 o10 o11 hq
    have c1 : (nI k < nI ng) = True:=lT (by omega) (by omega)
    rw [m29_73]
    simp [c1,nI_1,m29_0,m29_1,m29_2,m29_5u,m29_6,m29_7,m29_8,m29_11,m29_13,m29_14,m29_16,m29_17u,m29_18,m29_19,m29_20,m29_23u,m29_24,m29_27,m29_28,m29_29,m29_32u,m29_34,m29_35,m29_37,m29_40,m29_42,m29_45,m29_46,m29_48,m29_51,m29_53,m29_56,m29_57u,m29_59,m29_60,m29_61,m29_63,m29_64,m29_65u,m29_67,m29_68u,m29_70,m29_71u,m29_75,m29_77,m29_80,m29_81,m29_83,m29_86,m29_89u,m29_89i,m29_89r,m29_89g,m29_91,m29_92,m29_94,m29_95,m29_96,m29_97u,m29_97i,m29_97r,m29_97g,m29_99,m29_100u,m29_100i,m29_100r,m29_100g,m29_104,m29_106,m29_109,m29_111,m29_113,m29_114,m29_116,m29_117,m29_118,m29_119,m29_120,m29_123,m29_126,m29_127,m29_128,m29_131,m29_134,m29_136,m29_139,m29_141,m29_144,m29_145,m29_146,m29_149,m29_154,m29_157,m29_160,m29_161,m29_162,m29_163i,m29_167,m29_168,m29_168p,m29_169,m29_172,m29_174,m29_177,m29_180,m29_181,m29_183,m29_186,m29_186p,m29_187,m29_189,m29_190u,m29_190i,m29_190r,m29_190g,m29_192,m29_195,m29_197,m29_198,m29_201u,m29_201i,m29_201r,m29_201g,m29_203,m29_205,m29_207,m29_208,m29_210,m29_212,m29_213,m29_214u,m29_214i,m29_214r,m29_214g,m29_216,m29_218,m29_221,m29_222i,m29_224,m29_226,m29_229,m29_232,m29_235i,m29_237,m29_238,m29_240,m29_241,m29_242,m29_244,m29_245,m29_246u,m29_246i,m29_246r,m29_246g,m29_248,m29_250,m29_252,m29_253,m29_256,m29_259,m29_262,m29_264,m29_265i,m29_267,m29_269,m29_271,m29_272,m29_273,m29_274,m29_277,m29_278,m29_281,m29_282u,m29_282i,m29_282r,m29_282g,m29_284,m29_286,m29_288,m29_291,m29_294,m29_295,m29_296,m29_297,m29_299,m29_300u,m29_300i,m29_300r,m29_300g,m29_304,m29_306,m29_309,m29_311,m29_313,m29_314u,m29_314i,m29_314r,m29_314g,m29_316,m29_318,m29_320,m29_322,m29_325,m29_326,m29_327,m29_328,m29_331,m29_332,m29_333,m29_335,m29_336,m29_337,m29_338,m29_340,m29_342,m29_344,m29_345,m29_347,m29_349,m29_351,m29_354,m29_357,m29_360,m29_361,m29_362,m29_365,m29_368,m29_370,m29_372,m29_374,m29_376,m29_377,m29_380,m29_382,m29_384,m29_385,m29_388u,m29_388i,m29_388r,m29_388g,m29_390,m29_392,m29_395,m29_396,m29_397u,m29_397i,m29_397r,m29_397g,m29_401,m29_403,m29_406,m29_408,m29_410,m29_411u,m29_411i,m29_411r,m29_411g,m29_413,m29_415,m29_416,m29_418,m29_420,m29_422,m29_425u,m29_425i,m29_425r,m29_425g,m29_427,m29_429,m29_430,m29_432,m29_433,m29_434,m29_437,m29_438,m29_439,m29_440,m29_441u,m29_441i,m29_441r,m29_441g,m29_443,m29_445,m29_448,m29_450,m29_453,m29_455,m29_457,m29_459,m29_460,m29_463,m29_465,m29_468,m29_469u,m29_469i,m29_469r,m29_469g,m29_471,m29_473,m29_475,m29_478,m29_480,m29_483,m29_484,m29_485,m29_488,m29_491,m29_493,m29_495,m29_497,m29_499,m29_500,m29_503,m29_505,m29_506,m29_509,m29_510,m29_511,m29_514,m29_516,m29_517,m29_520u,m29_520i,m29_520r,m29_520g,m29_522,m29_524,m29_526,m29_529u,m29_529i,m29_529r,m29_529g,m29_531,m29_533,m29_534,m29_537u,m29_537i,m29_537r,m29_537g,m29_539,m29_540u,m29_540i,m29_540r,m29_540g,m29_542,m29_543u,m29_543i,m29_543r,m29_543g,m29_547,m29_549,m29_552,m29_553u,m29_553i,m29_553r,m29_553g,m29_557,m29_559,m29_562,m29_564,m29_566,m29_569u,m29_569i,m29_569r,m29_569g,m29_571,m29_573,m29_575,m29_576,m29_577,m29_580,m29_583,m29_584u,m29_584i,m29_584r,m29_584g,m29_586,m29_587u,m29_587i,m29_587r,m29_587g,m29_591,m29_593,m29_596,m29_598,m29_601,m29_603,m29_605,m29_607,m29_608,m29_609,m29_610,m29_612,m29_613,m29_616,m29_618,m29_620,m29_622,m29_625,m29_628,m29_629i,m29_631,m29_634,m29_637,m29_639,m29_642,m29_644,m29_646,m29_649,m29_651,m29_653,m29_656,m29_658,m29_661,m29_663,m29_665,m29_668,m29_670,m29_673,m29_674,m29_675,m29_678,m29_681,m29_684,m29_687,m29_690,m29_692,m29_694,m29_697,m29_698,m29_701,m29_702,nb0,nb1,ou_a,Option.toList_some,Option.toList_none,List.nil_append,List.cons_append]
    refine cellW hlen (by omega) (fun cc => ?_)
    have e1 : cc &&& 3 = nI (am 2 cc):=and_am (k:=2) (by decide) _
    have b1:=am_lt 2 cc
    have e2 : (1 : Int32) + nI (am 2 cc) = nI (1 + am 2 cc):=nI_add 1 _
    simp [o9,o10,o11,e1,e2,m29_0,m29_1,m29_2,m29_5u,m29_6,m29_7,m29_8,m29_11,m29_13,m29_14,m29_16,m29_17u,m29_18,m29_19,m29_20,m29_23u,m29_24,m29_27,m29_28,m29_29,m29_32u,m29_34,m29_35,m29_37,m29_40,m29_42,m29_45,m29_46,m29_48,m29_51,m29_53,m29_56,m29_57u,m29_59,m29_60,m29_61,m29_63,m29_64,m29_65u,m29_67,m29_68u,m29_70,m29_71u,m29_75,m29_77,m29_80,m29_81,m29_83,m29_86,m29_89u,m29_89i,m29_89r,m29_89g,m29_91,m29_92,m29_94,m29_95,m29_96,m29_97u,m29_97i,m29_97r,m29_97g,m29_99,m29_100u,m29_100i,m29_100r,m29_100g,m29_104,m29_106,m29_109,m29_111,m29_113,m29_114,m29_116,m29_117,m29_118,m29_119,m29_120,m29_123,m29_126,m29_127,m29_128,m29_131,m29_134,m29_136,m29_139,m29_141,m29_144,m29_145,m29_146,m29_149,m29_154,m29_157,m29_160,m29_161,m29_162,m29_163i,m29_167,m29_168,m29_168p,m29_169,m29_172,m29_174,m29_177,m29_180,m29_181,m29_183,m29_186,m29_186p,m29_187,m29_189,m29_190u,m29_190i,m29_190r,m29_190g,m29_192,m29_195,m29_197,m29_198,m29_201u,m29_201i,m29_201r,m29_201g,m29_203,m29_205,m29_207,m29_208,m29_210,m29_212,m29_213,m29_214u,m29_214i,m29_214r,m29_214g,m29_216,m29_218,m29_221,m29_222i,m29_224,m29_226,m29_229,m29_232,m29_235i,m29_237,m29_238,m29_240,m29_241,m29_242,m29_244,m29_245,m29_246u,m29_246i,m29_246r,m29_246g,m29_248,m29_250,m29_252,m29_253,m29_256,m29_259,m29_262,m29_264,m29_265i,m29_267,m29_269,m29_271,m29_272,m29_273,m29_274,m29_277,m29_278,m29_281,m29_282u,m29_282i,m29_282r,m29_282g,m29_284,m29_286,m29_288,m29_291,m29_294,m29_295,m29_296,m29_297,m29_299,m29_300u,m29_300i,m29_300r,m29_300g,m29_304,m29_306,m29_309,m29_311,m29_313,m29_314u,m29_314i,m29_314r,m29_314g,m29_316,m29_318,m29_320,m29_322,m29_325,m29_326,m29_327,m29_328,m29_331,m29_332,m29_333,m29_335,m29_336,m29_337,m29_338,m29_340,m29_342,m29_344,m29_345,m29_347,m29_349,m29_351,m29_354,m29_357,m29_360,m29_361,m29_362,m29_365,m29_368,m29_370,m29_372,m29_374,m29_376,m29_377,m29_380,m29_382,m29_384,m29_385,m29_388u,m29_388i,m29_388r,m29_388g,m29_390,m29_392,m29_395,m29_396,m29_397u,m29_397i,m29_397r,m29_397g,m29_401,m29_403,m29_406,m29_408,m29_410,m29_411u,m29_411i,m29_411r,m29_411g,m29_413,m29_415,m29_416,m29_418,m29_420,m29_422,m29_425u,m29_425i,m29_425r,m29_425g,m29_427,m29_429,m29_430,m29_432,m29_433,m29_434,m29_437,m29_438,m29_439,m29_440,m29_441u,m29_441i,m29_441r,m29_441g,m29_443,m29_445,m29_448,m29_450,m29_453,m29_455,m29_457,m29_459,m29_460,m29_463,m29_465,m29_468,m29_469u,m29_469i,m29_469r,m29_469g,m29_471,m29_473,m29_475,m29_478,m29_480,m29_483,m29_484,m29_485,m29_488,m29_491,m29_493,m29_495,m29_497,m29_499,m29_500,m29_503,m29_505,m29_506,m29_509,m29_510,m29_511,m29_514,m29_516,m29_517,m29_520u,m29_520i,m29_520r,m29_520g,m29_522,m29_524,m29_526,m29_529u,m29_529i,m29_529r,m29_529g,m29_531,m29_533,m29_534,m29_537u,m29_537i,m29_537r,m29_537g,m29_539,m29_540u,m29_540i,m29_540r,m29_540g,m29_542,m29_543u,m29_543i,m29_543r,m29_543g,m29_547,m29_549,m29_552,m29_553u,m29_553i,m29_553r,m29_553g,m29_557,m29_559,m29_562,m29_564,m29_566,m29_569u,m29_569i,m29_569r,m29_569g,m29_571,m29_573,m29_575,m29_576,m29_577,m29_580,m29_583,m29_584u,m29_584i,m29_584r,m29_584g,m29_586,m29_587u,m29_587i,m29_587r,m29_587g,m29_591,m29_593,m29_596,m29_598,m29_601,m29_603,m29_605,m29_607,m29_608,m29_609,m29_610,m29_612,m29_613,m29_616,m29_618,m29_620,m29_622,m29_625,m29_628,m29_629i,m29_631,m29_634,m29_637,m29_639,m29_642,m29_644,m29_646,m29_649,m29_651,m29_653,m29_656,m29_658,m29_661,m29_663,m29_665,m29_668,m29_670,m29_673,m29_674,m29_675,m29_678,m29_681,m29_684,m29_687,m29_690,m29_692,m29_694,m29_697,m29_698,m29_701,m29_702,nb0,nb1,ou_a,Option.toList_some,Option.toList_none,List.nil_append,List.cons_append]
    refine buJ (k:=k) (len:=1 + am 2 cc) (by omega) (by omega) (by omega) (1 + am 2 cc) 0 en sb s A (by omega) hS hR (fun en' sb' s' A' hS' hR' => ?_)
    simp [m29_0,m29_1,m29_2,m29_5u,m29_6,m29_7,m29_8,m29_11,m29_13,m29_14,m29_16,m29_17u,m29_18,m29_19,m29_20,m29_23u,m29_24,m29_27,m29_28,m29_29,m29_32u,m29_34,m29_35,m29_37,m29_40,m29_42,m29_45,m29_46,m29_48,m29_51,m29_53,m29_56,m29_57u,m29_59,m29_60,m29_61,m29_63,m29_64,m29_65u,m29_67,m29_68u,m29_70,m29_71u,m29_75,m29_77,m29_80,m29_81,m29_83,m29_86,m29_89u,m29_89i,m29_89r,m29_89g,m29_91,m29_92,m29_94,m29_95,m29_96,m29_97u,m29_97i,m29_97r,m29_97g,m29_99,m29_100u,m29_100i,m29_100r,m29_100g,m29_104,m29_106,m29_109,m29_111,m29_113,m29_114,m29_116,m29_117,m29_118,m29_119,m29_120,m29_123,m29_126,m29_127,m29_128,m29_131,m29_134,m29_136,m29_139,m29_141,m29_144,m29_145,m29_146,m29_149,m29_154,m29_157,m29_160,m29_161,m29_162,m29_163i,m29_167,m29_168,m29_168p,m29_169,m29_172,m29_174,m29_177,m29_180,m29_181,m29_183,m29_186,m29_186p,m29_187,m29_189,m29_190u,m29_190i,m29_190r,m29_190g,m29_192,m29_195,m29_197,m29_198,m29_201u,m29_201i,m29_201r,m29_201g,m29_203,m29_205,m29_207,m29_208,m29_210,m29_212,m29_213,m29_214u,m29_214i,m29_214r,m29_214g,m29_216,m29_218,m29_221,m29_222i,m29_224,m29_226,m29_229,m29_232,m29_235i,m29_237,m29_238,m29_240,m29_241,m29_242,m29_244,m29_245,m29_246u,m29_246i,m29_246r,m29_246g,m29_248,m29_250,m29_252,m29_253,m29_256,m29_259,m29_262,m29_264,m29_265i,m29_267,m29_269,m29_271,m29_272,m29_273,m29_274,m29_277,m29_278,m29_281,m29_282u,m29_282i,m29_282r,m29_282g,m29_284,m29_286,m29_288,m29_291,m29_294,m29_295,m29_296,m29_297,m29_299,m29_300u,m29_300i,m29_300r,m29_300g,m29_304,m29_306,m29_309,m29_311,m29_313,m29_314u,m29_314i,m29_314r,m29_314g,m29_316,m29_318,m29_320,m29_322,m29_325,m29_326,m29_327,m29_328,m29_331,m29_332,m29_333,m29_335,m29_336,m29_337,m29_338,m29_340,m29_342,m29_344,m29_345,m29_347,m29_349,m29_351,m29_354,m29_357,m29_360,m29_361,m29_362,m29_365,m29_368,m29_370,m29_372,m29_374,m29_376,m29_377,m29_380,m29_382,m29_384,m29_385,m29_388u,m29_388i,m29_388r,m29_388g,m29_390,m29_392,m29_395,m29_396,m29_397u,m29_397i,m29_397r,m29_397g,m29_401,m29_403,m29_406,m29_408,m29_410,m29_411u,m29_411i,m29_411r,m29_411g,m29_413,m29_415,m29_416,m29_418,m29_420,m29_422,m29_425u,m29_425i,m29_425r,m29_425g,m29_427,m29_429,m29_430,m29_432,m29_433,m29_434,m29_437,m29_438,m29_439,m29_440,m29_441u,m29_441i,m29_441r,m29_441g,m29_443,m29_445,m29_448,m29_450,m29_453,m29_455,m29_457,m29_459,m29_460,m29_463,m29_465,m29_468,m29_469u,m29_469i,m29_469r,m29_469g,m29_471,m29_473,m29_475,m29_478,m29_480,m29_483,m29_484,m29_485,m29_488,m29_491,m29_493,m29_495,m29_497,m29_499,m29_500,m29_503,m29_505,m29_506,m29_509,m29_510,m29_511,m29_514,m29_516,m29_517,m29_520u,m29_520i,m29_520r,m29_520g,m29_522,m29_524,m29_526,m29_529u,m29_529i,m29_529r,m29_529g,m29_531,m29_533,m29_534,m29_537u,m29_537i,m29_537r,m29_537g,m29_539,m29_540u,m29_540i,m29_540r,m29_540g,m29_542,m29_543u,m29_543i,m29_543r,m29_543g,m29_547,m29_549,m29_552,m29_553u,m29_553i,m29_553r,m29_553g,m29_557,m29_559,m29_562,m29_564,m29_566,m29_569u,m29_569i,m29_569r,m29_569g,m29_571,m29_573,m29_575,m29_576,m29_577,m29_580,m29_583,m29_584u,m29_584i,m29_584r,m29_584g,m29_586,m29_587u,m29_587i,m29_587r,m29_587g,m29_591,m29_593,m29_596,m29_598,m29_601,m29_603,m29_605,m29_607,m29_608,m29_609,m29_610,m29_612,m29_613,m29_616,m29_618,m29_620,m29_622,m29_625,m29_628,m29_629i,m29_631,m29_634,m29_637,m29_639,m29_642,m29_644,m29_646,m29_649,m29_651,m29_653,m29_656,m29_658,m29_661,m29_663,m29_665,m29_668,m29_670,m29_673,m29_674,m29_675,m29_678,m29_681,m29_684,m29_687,m29_690,m29_692,m29_694,m29_697,m29_698,m29_701,m29_702,nb0,nb1,ou_a,Option.toList_some,Option.toList_none,List.nil_append,List.cons_append]
    refine esW (b:=0) hS' (by omega) (by omega) (fun s2 A2 k1 k2 hS2 => ?_)
    simp [nI_1,m29_0,m29_1,m29_2,m29_5u,m29_6,m29_7,m29_8,m29_11,m29_13,m29_14,m29_16,m29_17u,m29_18,m29_19,m29_20,m29_23u,m29_24,m29_27,m29_28,m29_29,m29_32u,m29_34,m29_35,m29_37,m29_40,m29_42,m29_45,m29_46,m29_48,m29_51,m29_53,m29_56,m29_57u,m29_59,m29_60,m29_61,m29_63,m29_64,m29_65u,m29_67,m29_68u,m29_70,m29_71u,m29_75,m29_77,m29_80,m29_81,m29_83,m29_86,m29_89u,m29_89i,m29_89r,m29_89g,m29_91,m29_92,m29_94,m29_95,m29_96,m29_97u,m29_97i,m29_97r,m29_97g,m29_99,m29_100u,m29_100i,m29_100r,m29_100g,m29_104,m29_106,m29_109,m29_111,m29_113,m29_114,m29_116,m29_117,m29_118,m29_119,m29_120,m29_123,m29_126,m29_127,m29_128,m29_131,m29_134,m29_136,m29_139,m29_141,m29_144,m29_145,m29_146,m29_149,m29_154,m29_157,m29_160,m29_161,m29_162,m29_163i,m29_167,m29_168,m29_168p,m29_169,m29_172,m29_174,m29_177,m29_180,m29_181,m29_183,m29_186,m29_186p,m29_187,m29_189,m29_190u,m29_190i,m29_190r,m29_190g,m29_192,m29_195,m29_197,m29_198,m29_201u,m29_201i,m29_201r,m29_201g,m29_203,m29_205,m29_207,m29_208,m29_210,m29_212,m29_213,m29_214u,m29_214i,m29_214r,m29_214g,m29_216,m29_218,m29_221,m29_222i,m29_224,m29_226,m29_229,m29_232,m29_235i,m29_237,m29_238,m29_240,m29_241,m29_242,m29_244,m29_245,m29_246u,m29_246i,m29_246r,m29_246g,m29_248,m29_250,m29_252,m29_253,m29_256,m29_259,m29_262,m29_264,m29_265i,m29_267,m29_269,m29_271,m29_272,m29_273,m29_274,m29_277,m29_278,m29_281,m29_282u,m29_282i,m29_282r,m29_282g,m29_284,m29_286,m29_288,m29_291,m29_294,m29_295,m29_296,m29_297,m29_299,m29_300u,m29_300i,m29_300r,m29_300g,m29_304,m29_306,m29_309,m29_311,m29_313,m29_314u,m29_314i,m29_314r,m29_314g,m29_316,m29_318,m29_320,m29_322,m29_325,m29_326,m29_327,m29_328,m29_331,m29_332,m29_333,m29_335,m29_336,m29_337,m29_338,m29_340,m29_342,m29_344,m29_345,m29_347,m29_349,m29_351,m29_354,m29_357,m29_360,m29_361,m29_362,m29_365,m29_368,m29_370,m29_372,m29_374,m29_376,m29_377,m29_380,m29_382,m29_384,m29_385,m29_388u,m29_388i,m29_388r,m29_388g,m29_390,m29_392,m29_395,m29_396,m29_397u,m29_397i,m29_397r,m29_397g,m29_401,m29_403,m29_406,m29_408,m29_410,m29_411u,m29_411i,m29_411r,m29_411g,m29_413,m29_415,m29_416,m29_418,m29_420,m29_422,m29_425u,m29_425i,m29_425r,m29_425g,m29_427,m29_429,m29_430,m29_432,m29_433,m29_434,m29_437,m29_438,m29_439,m29_440,m29_441u,m29_441i,m29_441r,m29_441g,m29_443,m29_445,m29_448,m29_450,m29_453,m29_455,m29_457,m29_459,m29_460,m29_463,m29_465,m29_468,m29_469u,m29_469i,m29_469r,m29_469g,m29_471,m29_473,m29_475,m29_478,m29_480,m29_483,m29_484,m29_485,m29_488,m29_491,m29_493,m29_495,m29_497,m29_499,m29_500,m29_503,m29_505,m29_506,m29_509,m29_510,m29_511,m29_514,m29_516,m29_517,m29_520u,m29_520i,m29_520r,m29_520g,m29_522,m29_524,m29_526,m29_529u,m29_529i,m29_529r,m29_529g,m29_531,m29_533,m29_534,m29_537u,m29_537i,m29_537r,m29_537g,m29_539,m29_540u,m29_540i,m29_540r,m29_540g,m29_542,m29_543u,m29_543i,m29_543r,m29_543g,m29_547,m29_549,m29_552,m29_553u,m29_553i,m29_553r,m29_553g,m29_557,m29_559,m29_562,m29_564,m29_566,m29_569u,m29_569i,m29_569r,m29_569g,m29_571,m29_573,m29_575,m29_576,m29_577,m29_580,m29_583,m29_584u,m29_584i,m29_584r,m29_584g,m29_586,m29_587u,m29_587i,m29_587r,m29_587g,m29_591,m29_593,m29_596,m29_598,m29_601,m29_603,m29_605,m29_607,m29_608,m29_609,m29_610,m29_612,m29_613,m29_616,m29_618,m29_620,m29_622,m29_625,m29_628,m29_629i,m29_631,m29_634,m29_637,m29_639,m29_642,m29_644,m29_646,m29_649,m29_651,m29_653,m29_656,m29_658,m29_661,m29_663,m29_665,m29_668,m29_670,m29_673,m29_674,m29_675,m29_678,m29_681,m29_684,m29_687,m29_690,m29_692,m29_694,m29_697,m29_698,m29_701,m29_702,nb0,nb1,ou_a,Option.toList_some,Option.toList_none,List.nil_append,List.cons_append]
    exact ih (k + 1) (pos + 1) _ _ _ _ _ _ _ s2 A2 (by omega) (by omega) hS2 (hR'.st (fun i hi => k1 i (by omega) (by omega) (by omega)) (fun i hi => k2 i (by omega) (by omega))) (okS_i _) (okS_n _) (okS_n _) hq
def ff (pr : Nat→Bool) (sv : Nat→Nat) (st : Nat) : Nat→Nat:=fun i => if pr (st + i) = true then sv (st + i) + 1 else 0
theorem bv_1 {o st i : Nat} (h : o = st + i) : bvl pr sv o + 1 = nI (ff pr sv st i):=by
  subst h
  unfold bvl ff
  split
  · exact nI_1 _
  · decide
theorem ff_4 {st i : Nat} (h : sv (st + i)≤1) : ff pr sv st i < 4:=by
  unfold ff
  split <;> omega
abbrev bfS (st : Nat) (sd fl : Int32) (U : Nat) : Nat→Nat:=fun i => sgN (nI (st + i)) sd fl (nI U) (nI i)
set_option maxRecDepth 1000000 in
set_option maxHeartbeats 20000000 in
theorem sgJ {sd fl : Int32} {U st len : Nat} (hst : st + len≤256) (h16 : len≤16) : ∀ (r j : Nat) (bw : Int64) (l17 : Slot) (s : Nat→Int32) (A : Nat→List Int32),j + r = len→SC w ns en N sb ss sl lab dl om s A→DY ns N d lab (SW sb ss sl) pr sv s A→s 13 = 1→s 14 = nI st→s 15 = nI j→CM nI (A 9) (bfS st sd fl U) j→BW bw j (ff pr sv st)→okS l17 →
    (∀ bw' l17 s' A',SC w ns en N sb ss sl lab dl om s' A'→DY ns N d lab (SW sb ss sl) pr sv s' A'→s' 13 = 1→s' 14 = nI st→s' 15 = nI len→CM nI (A' 9) (bfS st sd fl U) len→BW bw' len (ff pr sv st)→okS l17→M29 368 [.val (.ref 0),l1,l2,.val (.int (sd)),.val (.ref 1),l5,l6,l7,l8,.val (.int (nI U)),l10,.val (.int (nI st)),.val (.int (nI len)),.val (.int (fl)),.val (.long bw'),.second,.val (.int (nI len)),l17,l18,l19,l20,l21,l22,l23] [] (put 1 [((FieldType.array .int,vs.map Value.int) : FieldType × List Value)] s' A' []) Q)→M29 302 [.val (.ref 0),l1,l2,.val (.int (sd)),.val (.ref 1),l5,l6,l7,l8,.val (.int (nI U)),l10,.val (.int (nI st)),.val (.int (nI len)),.val (.int (fl)),.val (.long bw),.second,.val (.int (nI j)),l17,l18,l19,l20,l21,l22,l23] [] (put 1 [((FieldType.array .int,vs.map Value.int) : FieldType × List Value)] s A []) Q:=by
  intro r
  induction r with
  | zero =>
    intro j bw l17 s A e hC hD s13 s14 s15 h9 hb o17 hq
    obtain rfl : j = len:=by omega
    have c1 : (nI j < nI j) = False:=lF (by omega) (by omega)
    rw [m29_302]
    simp [c1,m29_0,m29_1,m29_2,m29_5u,m29_6,m29_7,m29_8,m29_11,m29_13,m29_14,m29_16,m29_17u,m29_18,m29_19,m29_20,m29_23u,m29_24,m29_27,m29_28,m29_29,m29_32u,m29_34,m29_35,m29_37,m29_40,m29_42,m29_45,m29_46,m29_48,m29_51,m29_53,m29_56,m29_57u,m29_59,m29_60,m29_61,m29_63,m29_64,m29_65u,m29_67,m29_68u,m29_70,m29_71u,m29_75,m29_77,m29_80,m29_81,m29_83,m29_86,m29_89u,m29_89i,m29_89r,m29_89g,m29_91,m29_92,m29_94,m29_95,m29_96,m29_97u,m29_97i,m29_97r,m29_97g,m29_99,m29_100u,m29_100i,m29_100r,m29_100g,m29_104,m29_106,m29_109,m29_111,m29_113,m29_114,m29_116,m29_117,m29_118,m29_119,m29_120,m29_123,m29_126,m29_127,m29_128,m29_131,m29_134,m29_136,m29_139,m29_141,m29_144,m29_145,m29_146,m29_149,m29_152,m29_154,m29_157,m29_160,m29_161,m29_162,m29_163i,m29_167,m29_168,m29_168p,m29_169,m29_172,m29_174,m29_177,m29_180,m29_181,m29_183,m29_186,m29_186p,m29_187,m29_189,m29_190u,m29_190i,m29_190r,m29_190g,m29_192,m29_195,m29_197,m29_198,m29_201u,m29_201i,m29_201r,m29_201g,m29_203,m29_205,m29_207,m29_208,m29_210,m29_212,m29_213,m29_214u,m29_214i,m29_214r,m29_214g,m29_216,m29_218,m29_221,m29_222i,m29_224,m29_226,m29_229,m29_232,m29_235i,m29_237,m29_238,m29_240,m29_241,m29_242,m29_244,m29_245,m29_246u,m29_246i,m29_246r,m29_246g,m29_248,m29_250,m29_252,m29_253,m29_256,m29_259,m29_262,m29_264,m29_265i,m29_267,m29_269,m29_271,m29_272,m29_273,m29_274,m29_277,m29_278,m29_281,m29_282u,m29_282i,m29_282r,m29_282g,m29_284,m29_286,m29_288,m29_291,m29_294,m29_295,m29_296,m29_297,m29_299,m29_300u,m29_300i,m29_300r,m29_300g,m29_304,m29_306,m29_309,m29_311,m29_313,m29_314u,m29_314i,m29_314r,m29_314g,m29_316,m29_318,m29_320,m29_322,m29_325,m29_326,m29_327,m29_328,m29_331,m29_332,m29_333,m29_335,m29_336,m29_337,m29_338,m29_340,m29_342,m29_344,m29_345,m29_347,m29_349,m29_351,m29_354,m29_357,m29_360,m29_361,m29_362,m29_365,m29_370,m29_372,m29_374,m29_376,m29_377,m29_380,m29_382,m29_384,m29_385,m29_388u,m29_388i,m29_388r,m29_388g,m29_390,m29_392,m29_395,m29_396,m29_397u,m29_397i,m29_397r,m29_397g,m29_401,m29_403,m29_406,m29_408,m29_410,m29_411u,m29_411i,m29_411r,m29_411g,m29_413,m29_415,m29_416,m29_418,m29_420,m29_422,m29_425u,m29_425i,m29_425r,m29_425g,m29_427,m29_429,m29_430,m29_432,m29_433,m29_434,m29_437,m29_438,m29_439,m29_440,m29_441u,m29_441i,m29_441r,m29_441g,m29_443,m29_445,m29_448,m29_450,m29_453,m29_455,m29_457,m29_459,m29_460,m29_463,m29_465,m29_468,m29_469u,m29_469i,m29_469r,m29_469g,m29_471,m29_473,m29_475,m29_478,m29_480,m29_483,m29_484,m29_485,m29_488,m29_491,m29_493,m29_495,m29_497,m29_499,m29_500,m29_503,m29_505,m29_506,m29_509,m29_510,m29_511,m29_514,m29_516,m29_517,m29_520u,m29_520i,m29_520r,m29_520g,m29_522,m29_524,m29_526,m29_529u,m29_529i,m29_529r,m29_529g,m29_531,m29_533,m29_534,m29_537u,m29_537i,m29_537r,m29_537g,m29_539,m29_540u,m29_540i,m29_540r,m29_540g,m29_542,m29_543u,m29_543i,m29_543r,m29_543g,m29_547,m29_549,m29_552,m29_553u,m29_553i,m29_553r,m29_553g,m29_557,m29_559,m29_562,m29_564,m29_566,m29_569u,m29_569i,m29_569r,m29_569g,m29_571,m29_573,m29_575,m29_576,m29_577,m29_580,m29_583,m29_584u,m29_584i,m29_584r,m29_584g,m29_586,m29_587u,m29_587i,m29_587r,m29_587g,m29_591,m29_593,m29_596,m29_598,m29_601,m29_603,m29_605,m29_607,m29_608,m29_609,m29_610,m29_612,m29_613,m29_616,m29_618,m29_620,m29_622,m29_625,m29_628,m29_629i,m29_631,m29_634,m29_637,m29_639,m29_642,m29_644,m29_646,m29_649,m29_651,m29_653,m29_656,m29_658,m29_661,m29_663,m29_665,m29_668,m29_670,m29_673,m29_674,m29_675,m29_678,m29_681,m29_684,m29_687,m29_690,m29_692,m29_694,m29_697,m29_698,m29_701,m29_702,nb0,nb1,ou_a,Option.toList_some,Option.toList_none,List.nil_append,List.cons_append]
    exact hq bw _ s A hC hD s13 s14 s15 h9 hb o17
  | succ r ih =>
    intro j bw l17 s A e hC hD s13 s14 s15 h9 hb o17 hq
    have c1 : (nI j < nI len) = True:=lT (by omega) (by omega)
    have e1:=bv_1 (pr:=pr) (sv:=sv) (o:=st + j) (st:=st) (i:=j) rfl
    have g1:=sg_e (nI (st + j)) sd fl (nI U) (nI j)
    have d1 : (nI (sgN (nI (st + j)) sd fl (nI U) (nI j)) < 0) = False:=nnF (by omega)
    have d2 : (255 < nI (sgN (nI (st + j)) sd fl (nI U) (nI j))) = False:=lF (a:=255) (by omega) (by decide)
    have d3 : (nI j < 16) = True:=lT (c:=16) (by omega) (by decide)
    have d4 : (nI (st + j) < 256) = True:=lT (c:=256) (by omega) (by decide)
    have d5 : (nI j < 0) = False:=nnF (by omega)
    have q9:=in9 hC.ln (i:=j) (by omega)
    have l9:=ln9 hC.ln
    rw [m29_302]
    simp [c1,nI_add,o17,m29_0,m29_1,m29_2,m29_5u,m29_6,m29_7,m29_8,m29_11,m29_13,m29_14,m29_16,m29_17u,m29_18,m29_19,m29_20,m29_23u,m29_24,m29_27,m29_28,m29_29,m29_32u,m29_34,m29_35,m29_37,m29_40,m29_42,m29_45,m29_46,m29_48,m29_51,m29_53,m29_56,m29_57u,m29_59,m29_60,m29_61,m29_63,m29_64,m29_65u,m29_67,m29_68u,m29_70,m29_71u,m29_75,m29_77,m29_80,m29_81,m29_83,m29_86,m29_89u,m29_89i,m29_89r,m29_89g,m29_91,m29_92,m29_94,m29_95,m29_96,m29_97u,m29_97i,m29_97r,m29_97g,m29_99,m29_100u,m29_100i,m29_100r,m29_100g,m29_104,m29_106,m29_109,m29_111,m29_113,m29_114,m29_116,m29_117,m29_118,m29_119,m29_120,m29_123,m29_126,m29_127,m29_128,m29_131,m29_134,m29_136,m29_139,m29_141,m29_144,m29_145,m29_146,m29_149,m29_152,m29_154,m29_157,m29_160,m29_161,m29_162,m29_163i,m29_167,m29_168,m29_168p,m29_169,m29_172,m29_174,m29_177,m29_180,m29_181,m29_183,m29_186,m29_186p,m29_187,m29_189,m29_190u,m29_190i,m29_190r,m29_190g,m29_192,m29_195,m29_197,m29_198,m29_201u,m29_201i,m29_201r,m29_201g,m29_203,m29_205,m29_207,m29_208,m29_210,m29_212,m29_213,m29_214u,m29_214i,m29_214r,m29_214g,m29_216,m29_218,m29_221,m29_222i,m29_224,m29_226,m29_229,m29_232,m29_235i,m29_237,m29_238,m29_240,m29_241,m29_242,m29_244,m29_245,m29_246u,m29_246i,m29_246r,m29_246g,m29_248,m29_250,m29_252,m29_253,m29_256,m29_259,m29_262,m29_264,m29_265i,m29_267,m29_269,m29_271,m29_272,m29_273,m29_274,m29_277,m29_278,m29_281,m29_282u,m29_282i,m29_282r,m29_282g,m29_284,m29_286,m29_288,m29_291,m29_294,m29_295,m29_296,m29_297,m29_299,m29_300u,m29_300i,m29_300r,m29_300g,m29_304,m29_306,m29_309,m29_311,m29_313,m29_314u,m29_314i,m29_314r,m29_314g,m29_316,m29_318,m29_320,m29_322,m29_325,m29_326,m29_327,m29_328,m29_331,m29_332,m29_333,m29_335,m29_336,m29_337,m29_338,m29_340,m29_342,m29_344,m29_345,m29_347,m29_349,m29_351,m29_354,m29_357,m29_360,m29_361,m29_362,m29_365,m29_370,m29_372,m29_374,m29_376,m29_377,m29_380,m29_382,m29_384,m29_385,m29_388u,m29_388i,m29_388r,m29_388g,m29_390,m29_392,m29_395,m29_396,m29_397u,m29_397i,m29_397r,m29_397g,m29_401,m29_403,m29_406,m29_408,m29_410,m29_411u,m29_411i,m29_411r,m29_411g,m29_413,m29_415,m29_416,m29_418,m29_420,m29_422,m29_425u,m29_425i,m29_425r,m29_425g,m29_427,m29_429,m29_430,m29_432,m29_433,m29_434,m29_437,m29_438,m29_439,m29_440,m29_441u,m29_441i,m29_441r,m29_441g,m29_443,m29_445,m29_448,m29_450,m29_453,m29_455,m29_457,m29_459,m29_460,m29_463,m29_465,m29_468,m29_469u,m29_469i,m29_469r,m29_469g,m29_471,m29_473,m29_475,m29_478,m29_480,m29_483,m29_484,m29_485,m29_488,m29_491,m29_493,m29_495,m29_497,m29_499,m29_500,m29_503,m29_505,m29_506,m29_509,m29_510,m29_511,m29_514,m29_516,m29_517,m29_520u,m29_520i,m29_520r,m29_520g,m29_522,m29_524,m29_526,m29_529u,m29_529i,m29_529r,m29_529g,m29_531,m29_533,m29_534,m29_537u,m29_537i,m29_537r,m29_537g,m29_539,m29_540u,m29_540i,m29_540r,m29_540g,m29_542,m29_543u,m29_543i,m29_543r,m29_543g,m29_547,m29_549,m29_552,m29_553u,m29_553i,m29_553r,m29_553g,m29_557,m29_559,m29_562,m29_564,m29_566,m29_569u,m29_569i,m29_569r,m29_569g,m29_571,m29_573,m29_575,m29_576,m29_577,m29_580,m29_583,m29_584u,m29_584i,m29_584r,m29_584g,m29_586,m29_587u,m29_587i,m29_587r,m29_587g,m29_591,m29_593,m29_596,m29_598,m29_601,m29_603,m29_605,m29_607,m29_608,m29_609,m29_610,m29_612,m29_613,m29_616,m29_618,m29_620,m29_622,m29_625,m29_628,m29_629i,m29_631,m29_634,m29_637,m29_639,m29_642,m29_644,m29_646,m29_649,m29_651,m29_653,m29_656,m29_658,m29_661,m29_663,m29_665,m29_668,m29_670,m29_673,m29_674,m29_675,m29_678,m29_681,m29_684,m29_687,m29_690,m29_692,m29_694,m29_697,m29_698,m29_701,m29_702,nb0,nb1,ou_a,Option.toList_some,Option.toList_none,List.nil_append,List.cons_append]
    refine byW hC.ln hD.a7 hD.a8 (by omega) ?_
    simp [e1,m29_0,m29_1,m29_2,m29_5u,m29_6,m29_7,m29_8,m29_11,m29_13,m29_14,m29_16,m29_17u,m29_18,m29_19,m29_20,m29_23u,m29_24,m29_27,m29_28,m29_29,m29_32u,m29_34,m29_35,m29_37,m29_40,m29_42,m29_45,m29_46,m29_48,m29_51,m29_53,m29_56,m29_57u,m29_59,m29_60,m29_61,m29_63,m29_64,m29_65u,m29_67,m29_68u,m29_70,m29_71u,m29_75,m29_77,m29_80,m29_81,m29_83,m29_86,m29_89u,m29_89i,m29_89r,m29_89g,m29_91,m29_92,m29_94,m29_95,m29_96,m29_97u,m29_97i,m29_97r,m29_97g,m29_99,m29_100u,m29_100i,m29_100r,m29_100g,m29_104,m29_106,m29_109,m29_111,m29_113,m29_114,m29_116,m29_117,m29_118,m29_119,m29_120,m29_123,m29_126,m29_127,m29_128,m29_131,m29_134,m29_136,m29_139,m29_141,m29_144,m29_145,m29_146,m29_149,m29_152,m29_154,m29_157,m29_160,m29_161,m29_162,m29_163i,m29_167,m29_168,m29_168p,m29_169,m29_172,m29_174,m29_177,m29_180,m29_181,m29_183,m29_186,m29_186p,m29_187,m29_189,m29_190u,m29_190i,m29_190r,m29_190g,m29_192,m29_195,m29_197,m29_198,m29_201u,m29_201i,m29_201r,m29_201g,m29_203,m29_205,m29_207,m29_208,m29_210,m29_212,m29_213,m29_214u,m29_214i,m29_214r,m29_214g,m29_216,m29_218,m29_221,m29_222i,m29_224,m29_226,m29_229,m29_232,m29_235i,m29_237,m29_238,m29_240,m29_241,m29_242,m29_244,m29_245,m29_246u,m29_246i,m29_246r,m29_246g,m29_248,m29_250,m29_252,m29_253,m29_256,m29_259,m29_262,m29_264,m29_265i,m29_267,m29_269,m29_271,m29_272,m29_273,m29_274,m29_277,m29_278,m29_281,m29_282u,m29_282i,m29_282r,m29_282g,m29_284,m29_286,m29_288,m29_291,m29_294,m29_295,m29_296,m29_297,m29_299,m29_300u,m29_300i,m29_300r,m29_300g,m29_304,m29_306,m29_309,m29_311,m29_313,m29_314u,m29_314i,m29_314r,m29_314g,m29_316,m29_318,m29_320,m29_322,m29_325,m29_326,m29_327,m29_328,m29_331,m29_332,m29_333,m29_335,m29_336,m29_337,m29_338,m29_340,m29_342,m29_344,m29_345,m29_347,m29_349,m29_351,m29_354,m29_357,m29_360,m29_361,m29_362,m29_365,m29_370,m29_372,m29_374,m29_376,m29_377,m29_380,m29_382,m29_384,m29_385,m29_388u,m29_388i,m29_388r,m29_388g,m29_390,m29_392,m29_395,m29_396,m29_397u,m29_397i,m29_397r,m29_397g,m29_401,m29_403,m29_406,m29_408,m29_410,m29_411u,m29_411i,m29_411r,m29_411g,m29_413,m29_415,m29_416,m29_418,m29_420,m29_422,m29_425u,m29_425i,m29_425r,m29_425g,m29_427,m29_429,m29_430,m29_432,m29_433,m29_434,m29_437,m29_438,m29_439,m29_440,m29_441u,m29_441i,m29_441r,m29_441g,m29_443,m29_445,m29_448,m29_450,m29_453,m29_455,m29_457,m29_459,m29_460,m29_463,m29_465,m29_468,m29_469u,m29_469i,m29_469r,m29_469g,m29_471,m29_473,m29_475,m29_478,m29_480,m29_483,m29_484,m29_485,m29_488,m29_491,m29_493,m29_495,m29_497,m29_499,m29_500,m29_503,m29_505,m29_506,m29_509,m29_510,m29_511,m29_514,m29_516,m29_517,m29_520u,m29_520i,m29_520r,m29_520g,m29_522,m29_524,m29_526,m29_529u,m29_529i,m29_529r,m29_529g,m29_531,m29_533,m29_534,m29_537u,m29_537i,m29_537r,m29_537g,m29_539,m29_540u,m29_540i,m29_540r,m29_540g,m29_542,m29_543u,m29_543i,m29_543r,m29_543g,m29_547,m29_549,m29_552,m29_553u,m29_553i,m29_553r,m29_553g,m29_557,m29_559,m29_562,m29_564,m29_566,m29_569u,m29_569i,m29_569r,m29_569g,m29_571,m29_573,m29_575,m29_576,m29_577,m29_580,m29_583,m29_584u,m29_584i,m29_584r,m29_584g,m29_586,m29_587u,m29_587i,m29_587r,m29_587g,m29_591,m29_593,m29_596,m29_598,m29_601,m29_603,m29_605,m29_607,m29_608,m29_609,m29_610,m29_612,m29_613,m29_616,m29_618,m29_620,m29_622,m29_625,m29_628,m29_629i,m29_631,m29_634,m29_637,m29_639,m29_642,m29_644,m29_646,m29_649,m29_651,m29_653,m29_656,m29_658,m29_661,m29_663,m29_665,m29_668,m29_670,m29_673,m29_674,m29_675,m29_678,m29_681,m29_684,m29_687,m29_690,m29_692,m29_694,m29_697,m29_698,m29_701,m29_702,nb0,nb1,ou_a,Option.toList_some,Option.toList_none,List.nil_append,List.cons_append]
    refine sgW ?_
    simp [s13,s14,s15,d1,d2,d3,d4,d5,q9,nI_add,nI_1,m13_0,m13_1,m13_4,m13_7,m13_8,m13_9,m13_10,m13_11,m13_14,m13_17,m13_19,m13_20,m13_21,m13_24,m13_26,m13_29,m13_31,m13_32,m13_33,m13_36,m13_37,m13_40,m13_41,m13_44,m13_47,m13_49,m13_50,m13_51,m13_54,m13_57,m13_59,m13_60,m13_61,m13_64,m13_65,m13_68,m13_69,m13_70,m13_71,m13_72,m13_75,m13_76,m13_77,m13_80,m13_81,nb0,nb1,ou_a,Option.toList_some,Option.toList_none,List.nil_append,List.cons_append,m2_0,m2_1,m2_4,m2_5,m2_8,m2_11,m2_12,m2_15,m2_16,nb0,nb1,ou_a,Option.toList_some,Option.toList_none,List.nil_append,List.cons_append,m29_0,m29_1,m29_2,m29_5u,m29_6,m29_7,m29_8,m29_11,m29_13,m29_14,m29_16,m29_17u,m29_18,m29_19,m29_20,m29_23u,m29_24,m29_27,m29_28,m29_29,m29_32u,m29_34,m29_35,m29_37,m29_40,m29_42,m29_45,m29_46,m29_48,m29_51,m29_53,m29_56,m29_57u,m29_59,m29_60,m29_61,m29_63,m29_64,m29_65u,m29_67,m29_68u,m29_70,m29_71u,m29_75,m29_77,m29_80,m29_81,m29_83,m29_86,m29_89u,m29_89i,m29_89r,m29_89g,m29_91,m29_92,m29_94,m29_95,m29_96,m29_97u,m29_97i,m29_97r,m29_97g,m29_99,m29_100u,m29_100i,m29_100r,m29_100g,m29_104,m29_106,m29_109,m29_111,m29_113,m29_114,m29_116,m29_117,m29_118,m29_119,m29_120,m29_123,m29_126,m29_127,m29_128,m29_131,m29_134,m29_136,m29_139,m29_141,m29_144,m29_145,m29_146,m29_149,m29_152,m29_154,m29_157,m29_160,m29_161,m29_162,m29_163i,m29_167,m29_168,m29_168p,m29_169,m29_172,m29_174,m29_177,m29_180,m29_181,m29_183,m29_186,m29_186p,m29_187,m29_189,m29_190u,m29_190i,m29_190r,m29_190g,m29_192,m29_195,m29_197,m29_198,m29_201u,m29_201i,m29_201r,m29_201g,m29_203,m29_205,m29_207,m29_208,m29_210,m29_212,m29_213,m29_214u,m29_214i,m29_214r,m29_214g,m29_216,m29_218,m29_221,m29_222i,m29_224,m29_226,m29_229,m29_232,m29_235i,m29_237,m29_238,m29_240,m29_241,m29_242,m29_244,m29_245,m29_246u,m29_246i,m29_246r,m29_246g,m29_248,m29_250,m29_252,m29_253,m29_256,m29_259,m29_262,m29_264,m29_265i,m29_267,m29_269,m29_271,m29_272,m29_273,m29_274,m29_277,m29_278,m29_281,m29_282u,m29_282i,m29_282r,m29_282g,m29_284,m29_286,m29_288,m29_291,m29_294,m29_295,m29_296,m29_297,m29_299,m29_300u,m29_300i,m29_300r,m29_300g,m29_304,m29_306,m29_309,m29_311,m29_313,m29_314u,m29_314i,m29_314r,m29_314g,m29_316,m29_318,m29_320,m29_322,m29_325,m29_326,m29_327,m29_328,m29_331,m29_332,m29_333,m29_335,m29_336,m29_337,m29_338,m29_340,m29_342,m29_344,m29_345,m29_347,m29_349,m29_351,m29_354,m29_357,m29_360,m29_361,m29_362,m29_365,m29_370,m29_372,m29_374,m29_376,m29_377,m29_380,m29_382,m29_384,m29_385,m29_388u,m29_388i,m29_388r,m29_388g,m29_390,m29_392,m29_395,m29_396,m29_397u,m29_397i,m29_397r,m29_397g,m29_401,m29_403,m29_406,m29_408,m29_410,m29_411u,m29_411i,m29_411r,m29_411g,m29_413,m29_415,m29_416,m29_418,m29_420,m29_422,m29_425u,m29_425i,m29_425r,m29_425g,m29_427,m29_429,m29_430,m29_432,m29_433,m29_434,m29_437,m29_438,m29_439,m29_440,m29_441u,m29_441i,m29_441r,m29_441g,m29_443,m29_445,m29_448,m29_450,m29_453,m29_455,m29_457,m29_459,m29_460,m29_463,m29_465,m29_468,m29_469u,m29_469i,m29_469r,m29_469g,m29_471,m29_473,m29_475,m29_478,m29_480,m29_483,m29_484,m29_485,m29_488,m29_491,m29_493,m29_495,m29_497,m29_499,m29_500,m29_503,m29_505,m29_506,m29_509,m29_510,m29_511,m29_514,m29_516,m29_517,m29_520u,m29_520i,m29_520r,m29_520g,m29_522,m29_524,m29_526,m29_529u,m29_529i,m29_529r,m29_529g,m29_531,m29_533,m29_534,m29_537u,m29_537i,m29_537r,m29_537g,m29_539,m29_540u,m29_540i,m29_540r,m29_540g,m29_542,m29_543u,m29_543i,m29_543r,m29_543g,m29_547,m29_549,m29_552,m29_553u,m29_553i,m29_553r,m29_553g,m29_557,m29_559,m29_562,m29_564,m29_566,m29_569u,m29_569i,m29_569r,m29_569g,m29_571,m29_573,m29_575,m29_576,m29_577,m29_580,m29_583,m29_584u,m29_584i,m29_584r,m29_584g,m29_586,m29_587u,m29_587i,m29_587r,m29_587g,m29_591,m29_593,m29_596,m29_598,m29_601,m29_603,m29_605,m29_607,m29_608,m29_609,m29_610,m29_612,m29_613,m29_616,m29_618,m29_620,m29_622,m29_625,m29_628,m29_629i,m29_631,m29_634,m29_637,m29_639,m29_642,m29_644,m29_646,m29_649,m29_651,m29_653,m29_656,m29_658,m29_661,m29_663,m29_665,m29_668,m29_670,m29_673,m29_674,m29_675,m29_678,m29_681,m29_684,m29_687,m29_690,m29_692,m29_694,m29_697,m29_698,m29_701,m29_702,nb0,nb1,ou_a,Option.toList_some,Option.toList_none,List.nil_append,List.cons_append]
    refine ih (j + 1) _ _ _ _ (by omega) (hC.st (fun i hi => os_ne (by omega)) (LN_set hC.ln) (fun i hi => ou_ne (by omega))) (hD.fr (os_ne (by decide)) (os_ne (by decide)) (os_ne (by decide)) (fun i hi => ou_ne (by omega))) ((os_ne (by decide)).trans s13) ((os_ne (by decide)).trans s14) (by rw [os_eq]) ?_ (BW_s hb (by omega) (ff_4 (hD.sv _ (by omega))) rfl) (okS_n _) hq
    rw [ou_eq]
    exact CM_step h9 rfl (by omega) (by omega)
theorem sgC {sd fl : Int32} {U st len d0 : Nat} {bw h0 : Int64} (hst : st + len≤256) (h16 : len≤16) (hw : 8≤w∧w≤64) (hd0 : d0≤256) (sv1 : ∀ i,i < 256→sv i≤1) (hb : BW bw len (ff pr sv st)) (hL : LN A) (h7 : CM fB (A 7) (prF pr st len (d0 + w)) 256) (h8 : CM nI (A 8) (svF pr sv (bfS st sd fl U) st len (d0 + w)) 256)
    (hq : ∀ l20 l21 l22 l23,okS l20→okS l21→okS l22→okS l23→M29 491 [.val (.ref 0),l1,l2,.val (.int (sd)),.val (.ref 1),.val (.int (nI w)),l6,l7,l8,.val (.int (nI U)),l10,.val (.int (nI st)),.val (.int (nI len)),.val (.int (fl)),.val (.long bw),.second,.val (.long h0),.second,.val (.int (nI d0)),.val (.int (nI len)),l20,l21,l22,l23] [] (put 1 [((FieldType.array .int,vs.map Value.int) : FieldType × List Value)] s A []) Q) : ∀ (r j : Nat) (l20 l21 l22 l23 : Slot),j + r = len→okS l20→okS l21→okS l22→okS l23→M29 399 [.val (.ref 0),l1,l2,.val (.int (sd)),.val (.ref 1),.val (.int (nI w)),l6,l7,l8,.val (.int (nI U)),l10,.val (.int (nI st)),.val (.int (nI len)),.val (.int (fl)),.val (.long bw),.second,.val (.long h0),.second,.val (.int (nI d0)),.val (.int (nI j)),l20,l21,l22,l23] [] (put 1 [((FieldType.array .int,vs.map Value.int) : FieldType × List Value)] s A []) Q:=by
  intro r
  induction r with
  | zero =>
    intro j l20 l21 l22 l23 e o20 o21 o22 o23
    obtain rfl : j = len:=by omega
    have c1 : (nI j < nI j) = False:=lF (by omega) (by omega)
    rw [m29_399]
    simp [c1,m29_0,m29_1,m29_2,m29_5u,m29_6,m29_7,m29_8,m29_11,m29_13,m29_14,m29_16,m29_17u,m29_18,m29_19,m29_20,m29_23u,m29_24,m29_27,m29_28,m29_29,m29_32u,m29_34,m29_35,m29_37,m29_40,m29_42,m29_45,m29_46,m29_48,m29_51,m29_53,m29_56,m29_57u,m29_59,m29_60,m29_61,m29_63,m29_64,m29_65u,m29_67,m29_68u,m29_70,m29_71u,m29_75,m29_77,m29_80,m29_81,m29_83,m29_86,m29_89u,m29_89i,m29_89r,m29_89g,m29_91,m29_92,m29_94,m29_95,m29_96,m29_97u,m29_97i,m29_97r,m29_97g,m29_99,m29_100u,m29_100i,m29_100r,m29_100g,m29_104,m29_106,m29_109,m29_111,m29_113,m29_114,m29_116,m29_117,m29_118,m29_119,m29_120,m29_123,m29_126,m29_127,m29_128,m29_131,m29_134,m29_136,m29_139,m29_141,m29_144,m29_145,m29_146,m29_149,m29_152,m29_154,m29_157,m29_160,m29_161,m29_162,m29_163i,m29_167,m29_168,m29_168p,m29_169,m29_172,m29_174,m29_177,m29_180,m29_181,m29_183,m29_186,m29_186p,m29_187,m29_189,m29_190u,m29_190i,m29_190r,m29_190g,m29_192,m29_195,m29_197,m29_198,m29_201u,m29_201i,m29_201r,m29_201g,m29_203,m29_205,m29_207,m29_208,m29_210,m29_212,m29_213,m29_214u,m29_214i,m29_214r,m29_214g,m29_216,m29_218,m29_221,m29_222i,m29_224,m29_226,m29_229,m29_232,m29_235i,m29_237,m29_238,m29_240,m29_241,m29_242,m29_244,m29_245,m29_246u,m29_246i,m29_246r,m29_246g,m29_248,m29_250,m29_252,m29_253,m29_256,m29_259,m29_262,m29_264,m29_265i,m29_267,m29_269,m29_271,m29_272,m29_273,m29_274,m29_277,m29_278,m29_281,m29_282u,m29_282i,m29_282r,m29_282g,m29_284,m29_286,m29_288,m29_291,m29_294,m29_295,m29_296,m29_297,m29_299,m29_300u,m29_300i,m29_300r,m29_300g,m29_304,m29_306,m29_309,m29_311,m29_313,m29_314u,m29_314i,m29_314r,m29_314g,m29_316,m29_318,m29_320,m29_322,m29_325,m29_326,m29_327,m29_328,m29_331,m29_332,m29_333,m29_335,m29_336,m29_337,m29_338,m29_340,m29_342,m29_344,m29_345,m29_347,m29_349,m29_351,m29_354,m29_357,m29_360,m29_361,m29_362,m29_365,m29_368,m29_370,m29_372,m29_374,m29_376,m29_377,m29_380,m29_382,m29_384,m29_385,m29_388u,m29_388i,m29_388r,m29_388g,m29_390,m29_392,m29_395,m29_396,m29_397u,m29_397i,m29_397r,m29_397g,m29_401,m29_403,m29_406,m29_408,m29_410,m29_411u,m29_411i,m29_411r,m29_411g,m29_413,m29_415,m29_416,m29_418,m29_420,m29_422,m29_425u,m29_425i,m29_425r,m29_425g,m29_427,m29_429,m29_430,m29_432,m29_433,m29_434,m29_437,m29_438,m29_439,m29_440,m29_441u,m29_441i,m29_441r,m29_441g,m29_443,m29_445,m29_448,m29_450,m29_453,m29_455,m29_457,m29_459,m29_460,m29_463,m29_465,m29_468,m29_469u,m29_469i,m29_469r,m29_469g,m29_471,m29_473,m29_475,m29_478,m29_480,m29_483,m29_484,m29_485,m29_488,m29_493,m29_495,m29_497,m29_499,m29_500,m29_503,m29_505,m29_506,m29_509,m29_510,m29_511,m29_514,m29_516,m29_517,m29_520u,m29_520i,m29_520r,m29_520g,m29_522,m29_524,m29_526,m29_529u,m29_529i,m29_529r,m29_529g,m29_531,m29_533,m29_534,m29_537u,m29_537i,m29_537r,m29_537g,m29_539,m29_540u,m29_540i,m29_540r,m29_540g,m29_542,m29_543u,m29_543i,m29_543r,m29_543g,m29_547,m29_549,m29_552,m29_553u,m29_553i,m29_553r,m29_553g,m29_557,m29_559,m29_562,m29_564,m29_566,m29_569u,m29_569i,m29_569r,m29_569g,m29_571,m29_573,m29_575,m29_576,m29_577,m29_580,m29_583,m29_584u,m29_584i,m29_584r,m29_584g,m29_586,m29_587u,m29_587i,m29_587r,m29_587g,m29_591,m29_593,m29_596,m29_598,m29_601,m29_603,m29_605,m29_607,m29_608,m29_609,m29_610,m29_612,m29_613,m29_616,m29_618,m29_620,m29_622,m29_625,m29_628,m29_629i,m29_631,m29_634,m29_637,m29_639,m29_642,m29_644,m29_646,m29_649,m29_651,m29_653,m29_656,m29_658,m29_661,m29_663,m29_665,m29_668,m29_670,m29_673,m29_674,m29_675,m29_678,m29_681,m29_684,m29_687,m29_690,m29_692,m29_694,m29_697,m29_698,m29_701,m29_702,nb0,nb1,ou_a,Option.toList_some,Option.toList_none,List.nil_append,List.cons_append]
    exact hq _ _ _ _ o20 o21 o22 o23
  | succ r ih =>
    intro j l20 l21 l22 l23 e o20 o21 o22 o23
    have c1 : (nI j < nI len) = True:=lT (by omega) (by omega)
    have g:=BW_g hb h16 (show j < len by omega) (ff_4 (sv1 (st + j) (by omega)))
    have by1 : ∀ (X : Int32) (R : Prop),X = bvl (prF pr st len (d0 + w)) (svF pr sv (bfS st sd fl U) st len (d0 + w)) (st + j)→(bvl (prF pr st len (d0 + w)) (svF pr sv (bfS st sd fl U) st len (d0 + w)) (st + j) = X) = True:=fun X R h => eq_true h.symm
    rw [m29_399]
    simp [c1,nI_add,o20,m29_0,m29_1,m29_2,m29_5u,m29_6,m29_7,m29_8,m29_11,m29_13,m29_14,m29_16,m29_17u,m29_18,m29_19,m29_20,m29_23u,m29_24,m29_27,m29_28,m29_29,m29_32u,m29_34,m29_35,m29_37,m29_40,m29_42,m29_45,m29_46,m29_48,m29_51,m29_53,m29_56,m29_57u,m29_59,m29_60,m29_61,m29_63,m29_64,m29_65u,m29_67,m29_68u,m29_70,m29_71u,m29_75,m29_77,m29_80,m29_81,m29_83,m29_86,m29_89u,m29_89i,m29_89r,m29_89g,m29_91,m29_92,m29_94,m29_95,m29_96,m29_97u,m29_97i,m29_97r,m29_97g,m29_99,m29_100u,m29_100i,m29_100r,m29_100g,m29_104,m29_106,m29_109,m29_111,m29_113,m29_114,m29_116,m29_117,m29_118,m29_119,m29_120,m29_123,m29_126,m29_127,m29_128,m29_131,m29_134,m29_136,m29_139,m29_141,m29_144,m29_145,m29_146,m29_149,m29_152,m29_154,m29_157,m29_160,m29_161,m29_162,m29_163i,m29_167,m29_168,m29_168p,m29_169,m29_172,m29_174,m29_177,m29_180,m29_181,m29_183,m29_186,m29_186p,m29_187,m29_189,m29_190u,m29_190i,m29_190r,m29_190g,m29_192,m29_195,m29_197,m29_198,m29_201u,m29_201i,m29_201r,m29_201g,m29_203,m29_205,m29_207,m29_208,m29_210,m29_212,m29_213,m29_214u,m29_214i,m29_214r,m29_214g,m29_216,m29_218,m29_221,m29_222i,m29_224,m29_226,m29_229,m29_232,m29_235i,m29_237,m29_238,m29_240,m29_241,m29_242,m29_244,m29_245,m29_246u,m29_246i,m29_246r,m29_246g,m29_248,m29_250,m29_252,m29_253,m29_256,m29_259,m29_262,m29_264,m29_265i,m29_267,m29_269,m29_271,m29_272,m29_273,m29_274,m29_277,m29_278,m29_281,m29_282u,m29_282i,m29_282r,m29_282g,m29_284,m29_286,m29_288,m29_291,m29_294,m29_295,m29_296,m29_297,m29_299,m29_300u,m29_300i,m29_300r,m29_300g,m29_304,m29_306,m29_309,m29_311,m29_313,m29_314u,m29_314i,m29_314r,m29_314g,m29_316,m29_318,m29_320,m29_322,m29_325,m29_326,m29_327,m29_328,m29_331,m29_332,m29_333,m29_335,m29_336,m29_337,m29_338,m29_340,m29_342,m29_344,m29_345,m29_347,m29_349,m29_351,m29_354,m29_357,m29_360,m29_361,m29_362,m29_365,m29_368,m29_370,m29_372,m29_374,m29_376,m29_377,m29_380,m29_382,m29_384,m29_385,m29_388u,m29_388i,m29_388r,m29_388g,m29_390,m29_392,m29_395,m29_396,m29_397u,m29_397i,m29_397r,m29_397g,m29_401,m29_403,m29_406,m29_408,m29_410,m29_411u,m29_411i,m29_411r,m29_411g,m29_413,m29_415,m29_416,m29_418,m29_420,m29_422,m29_425u,m29_425i,m29_425r,m29_425g,m29_427,m29_429,m29_430,m29_432,m29_433,m29_434,m29_437,m29_438,m29_439,m29_440,m29_441u,m29_441i,m29_441r,m29_441g,m29_443,m29_445,m29_448,m29_450,m29_453,m29_455,m29_457,m29_459,m29_460,m29_463,m29_465,m29_468,m29_469u,m29_469i,m29_469r,m29_469g,m29_471,m29_473,m29_475,m29_478,m29_480,m29_483,m29_484,m29_485,m29_488,m29_493,m29_495,m29_497,m29_499,m29_500,m29_503,m29_505,m29_506,m29_509,m29_510,m29_511,m29_514,m29_516,m29_517,m29_520u,m29_520i,m29_520r,m29_520g,m29_522,m29_524,m29_526,m29_529u,m29_529i,m29_529r,m29_529g,m29_531,m29_533,m29_534,m29_537u,m29_537i,m29_537r,m29_537g,m29_539,m29_540u,m29_540i,m29_540r,m29_540g,m29_542,m29_543u,m29_543i,m29_543r,m29_543g,m29_547,m29_549,m29_552,m29_553u,m29_553i,m29_553r,m29_553g,m29_557,m29_559,m29_562,m29_564,m29_566,m29_569u,m29_569i,m29_569r,m29_569g,m29_571,m29_573,m29_575,m29_576,m29_577,m29_580,m29_583,m29_584u,m29_584i,m29_584r,m29_584g,m29_586,m29_587u,m29_587i,m29_587r,m29_587g,m29_591,m29_593,m29_596,m29_598,m29_601,m29_603,m29_605,m29_607,m29_608,m29_609,m29_610,m29_612,m29_613,m29_616,m29_618,m29_620,m29_622,m29_625,m29_628,m29_629i,m29_631,m29_634,m29_637,m29_639,m29_642,m29_644,m29_646,m29_649,m29_651,m29_653,m29_656,m29_658,m29_661,m29_663,m29_665,m29_668,m29_670,m29_673,m29_674,m29_675,m29_678,m29_681,m29_684,m29_687,m29_690,m29_692,m29_694,m29_697,m29_698,m29_701,m29_702,nb0,nb1,ou_a,Option.toList_some,Option.toList_none,List.nil_append,List.cons_append]
    refine sgW ?_
    cases z : pr (st + j) with
    | true =>
      have f1 : ff pr sv st j = sv (st + j) + 1:=by unfold ff; rw [if_pos z]
      have e2 : nI (sv (st + j) + 1) - 1 = nI (sv (st + j)):=nI_sub (c:=1) (by omega)
      have vb:=sv1 (st + j) (by omega)
      have c2 : (nI (sv (st + j)) < 0) = False:=nnF (by omega)
      have v : bvl (prF pr st len (d0 + w)) (svF pr sv (bfS st sd fl U) st len (d0 + w)) (st + j) = nI (sv (st + j)):=by
        unfold bvl prF svF
        rw [z,if_pos (by simp),if_neg (fun q => by cases q.1)]
      rw [f1] at g
      simp [g,e2,c2,o21,o22,o23,m29_0,m29_1,m29_2,m29_5u,m29_6,m29_7,m29_8,m29_11,m29_13,m29_14,m29_16,m29_17u,m29_18,m29_19,m29_20,m29_23u,m29_24,m29_27,m29_28,m29_29,m29_32u,m29_34,m29_35,m29_37,m29_40,m29_42,m29_45,m29_46,m29_48,m29_51,m29_53,m29_56,m29_57u,m29_59,m29_60,m29_61,m29_63,m29_64,m29_65u,m29_67,m29_68u,m29_70,m29_71u,m29_75,m29_77,m29_80,m29_81,m29_83,m29_86,m29_89u,m29_89i,m29_89r,m29_89g,m29_91,m29_92,m29_94,m29_95,m29_96,m29_97u,m29_97i,m29_97r,m29_97g,m29_99,m29_100u,m29_100i,m29_100r,m29_100g,m29_104,m29_106,m29_109,m29_111,m29_113,m29_114,m29_116,m29_117,m29_118,m29_119,m29_120,m29_123,m29_126,m29_127,m29_128,m29_131,m29_134,m29_136,m29_139,m29_141,m29_144,m29_145,m29_146,m29_149,m29_152,m29_154,m29_157,m29_160,m29_161,m29_162,m29_163i,m29_167,m29_168,m29_168p,m29_169,m29_172,m29_174,m29_177,m29_180,m29_181,m29_183,m29_186,m29_186p,m29_187,m29_189,m29_190u,m29_190i,m29_190r,m29_190g,m29_192,m29_195,m29_197,m29_198,m29_201u,m29_201i,m29_201r,m29_201g,m29_203,m29_205,m29_207,m29_208,m29_210,m29_212,m29_213,m29_214u,m29_214i,m29_214r,m29_214g,m29_216,m29_218,m29_221,m29_222i,m29_224,m29_226,m29_229,m29_232,m29_235i,m29_237,m29_238,m29_240,m29_241,m29_242,m29_244,m29_245,m29_246u,m29_246i,m29_246r,m29_246g,m29_248,m29_250,m29_252,m29_253,m29_256,m29_259,m29_262,m29_264,m29_265i,m29_267,m29_269,m29_271,m29_272,m29_273,m29_274,m29_277,m29_278,m29_281,m29_282u,m29_282i,m29_282r,m29_282g,m29_284,m29_286,m29_288,m29_291,m29_294,m29_295,m29_296,m29_297,m29_299,m29_300u,m29_300i,m29_300r,m29_300g,m29_304,m29_306,m29_309,m29_311,m29_313,m29_314u,m29_314i,m29_314r,m29_314g,m29_316,m29_318,m29_320,m29_322,m29_325,m29_326,m29_327,m29_328,m29_331,m29_332,m29_333,m29_335,m29_336,m29_337,m29_338,m29_340,m29_342,m29_344,m29_345,m29_347,m29_349,m29_351,m29_354,m29_357,m29_360,m29_361,m29_362,m29_365,m29_368,m29_370,m29_372,m29_374,m29_376,m29_377,m29_380,m29_382,m29_384,m29_385,m29_388u,m29_388i,m29_388r,m29_388g,m29_390,m29_392,m29_395,m29_396,m29_397u,m29_397i,m29_397r,m29_397g,m29_401,m29_403,m29_406,m29_408,m29_410,m29_411u,m29_411i,m29_411r,m29_411g,m29_413,m29_415,m29_416,m29_418,m29_420,m29_422,m29_425u,m29_425i,m29_425r,m29_425g,m29_427,m29_429,m29_430,m29_432,m29_433,m29_434,m29_437,m29_438,m29_439,m29_440,m29_441u,m29_441i,m29_441r,m29_441g,m29_443,m29_445,m29_448,m29_450,m29_453,m29_455,m29_457,m29_459,m29_460,m29_463,m29_465,m29_468,m29_469u,m29_469i,m29_469r,m29_469g,m29_471,m29_473,m29_475,m29_478,m29_480,m29_483,m29_484,m29_485,m29_488,m29_493,m29_495,m29_497,m29_499,m29_500,m29_503,m29_505,m29_506,m29_509,m29_510,m29_511,m29_514,m29_516,m29_517,m29_520u,m29_520i,m29_520r,m29_520g,m29_522,m29_524,m29_526,m29_529u,m29_529i,m29_529r,m29_529g,m29_531,m29_533,m29_534,m29_537u,m29_537i,m29_537r,m29_537g,m29_539,m29_540u,m29_540i,m29_540r,m29_540g,m29_542,m29_543u,m29_543i,m29_543r,m29_543g,m29_547,m29_549,m29_552,m29_553u,m29_553i,m29_553r,m29_553g,m29_557,m29_559,m29_562,m29_564,m29_566,m29_569u,m29_569i,m29_569r,m29_569g,m29_571,m29_573,m29_575,m29_576,m29_577,m29_580,m29_583,m29_584u,m29_584i,m29_584r,m29_584g,m29_586,m29_587u,m29_587i,m29_587r,m29_587g,m29_591,m29_593,m29_596,m29_598,m29_601,m29_603,m29_605,m29_607,m29_608,m29_609,m29_610,m29_612,m29_613,m29_616,m29_618,m29_620,m29_622,m29_625,m29_628,m29_629i,m29_631,m29_634,m29_637,m29_639,m29_642,m29_644,m29_646,m29_649,m29_651,m29_653,m29_656,m29_658,m29_661,m29_663,m29_665,m29_668,m29_670,m29_673,m29_674,m29_675,m29_678,m29_681,m29_684,m29_687,m29_690,m29_692,m29_694,m29_697,m29_698,m29_701,m29_702,nb0,nb1,ou_a,Option.toList_some,Option.toList_none,List.nil_append,List.cons_append]
      refine byW hL h7 h8 (by omega) ?_
      rw [v]
      simp [nI_1,m29_0,m29_1,m29_2,m29_5u,m29_6,m29_7,m29_8,m29_11,m29_13,m29_14,m29_16,m29_17u,m29_18,m29_19,m29_20,m29_23u,m29_24,m29_27,m29_28,m29_29,m29_32u,m29_34,m29_35,m29_37,m29_40,m29_42,m29_45,m29_46,m29_48,m29_51,m29_53,m29_56,m29_57u,m29_59,m29_60,m29_61,m29_63,m29_64,m29_65u,m29_67,m29_68u,m29_70,m29_71u,m29_75,m29_77,m29_80,m29_81,m29_83,m29_86,m29_89u,m29_89i,m29_89r,m29_89g,m29_91,m29_92,m29_94,m29_95,m29_96,m29_97u,m29_97i,m29_97r,m29_97g,m29_99,m29_100u,m29_100i,m29_100r,m29_100g,m29_104,m29_106,m29_109,m29_111,m29_113,m29_114,m29_116,m29_117,m29_118,m29_119,m29_120,m29_123,m29_126,m29_127,m29_128,m29_131,m29_134,m29_136,m29_139,m29_141,m29_144,m29_145,m29_146,m29_149,m29_152,m29_154,m29_157,m29_160,m29_161,m29_162,m29_163i,m29_167,m29_168,m29_168p,m29_169,m29_172,m29_174,m29_177,m29_180,m29_181,m29_183,m29_186,m29_186p,m29_187,m29_189,m29_190u,m29_190i,m29_190r,m29_190g,m29_192,m29_195,m29_197,m29_198,m29_201u,m29_201i,m29_201r,m29_201g,m29_203,m29_205,m29_207,m29_208,m29_210,m29_212,m29_213,m29_214u,m29_214i,m29_214r,m29_214g,m29_216,m29_218,m29_221,m29_222i,m29_224,m29_226,m29_229,m29_232,m29_235i,m29_237,m29_238,m29_240,m29_241,m29_242,m29_244,m29_245,m29_246u,m29_246i,m29_246r,m29_246g,m29_248,m29_250,m29_252,m29_253,m29_256,m29_259,m29_262,m29_264,m29_265i,m29_267,m29_269,m29_271,m29_272,m29_273,m29_274,m29_277,m29_278,m29_281,m29_282u,m29_282i,m29_282r,m29_282g,m29_284,m29_286,m29_288,m29_291,m29_294,m29_295,m29_296,m29_297,m29_299,m29_300u,m29_300i,m29_300r,m29_300g,m29_304,m29_306,m29_309,m29_311,m29_313,m29_314u,m29_314i,m29_314r,m29_314g,m29_316,m29_318,m29_320,m29_322,m29_325,m29_326,m29_327,m29_328,m29_331,m29_332,m29_333,m29_335,m29_336,m29_337,m29_338,m29_340,m29_342,m29_344,m29_345,m29_347,m29_349,m29_351,m29_354,m29_357,m29_360,m29_361,m29_362,m29_365,m29_368,m29_370,m29_372,m29_374,m29_376,m29_377,m29_380,m29_382,m29_384,m29_385,m29_388u,m29_388i,m29_388r,m29_388g,m29_390,m29_392,m29_395,m29_396,m29_397u,m29_397i,m29_397r,m29_397g,m29_401,m29_403,m29_406,m29_408,m29_410,m29_411u,m29_411i,m29_411r,m29_411g,m29_413,m29_415,m29_416,m29_418,m29_420,m29_422,m29_425u,m29_425i,m29_425r,m29_425g,m29_427,m29_429,m29_430,m29_432,m29_433,m29_434,m29_437,m29_438,m29_439,m29_440,m29_441u,m29_441i,m29_441r,m29_441g,m29_443,m29_445,m29_448,m29_450,m29_453,m29_455,m29_457,m29_459,m29_460,m29_463,m29_465,m29_468,m29_469u,m29_469i,m29_469r,m29_469g,m29_471,m29_473,m29_475,m29_478,m29_480,m29_483,m29_484,m29_485,m29_488,m29_493,m29_495,m29_497,m29_499,m29_500,m29_503,m29_505,m29_506,m29_509,m29_510,m29_511,m29_514,m29_516,m29_517,m29_520u,m29_520i,m29_520r,m29_520g,m29_522,m29_524,m29_526,m29_529u,m29_529i,m29_529r,m29_529g,m29_531,m29_533,m29_534,m29_537u,m29_537i,m29_537r,m29_537g,m29_539,m29_540u,m29_540i,m29_540r,m29_540g,m29_542,m29_543u,m29_543i,m29_543r,m29_543g,m29_547,m29_549,m29_552,m29_553u,m29_553i,m29_553r,m29_553g,m29_557,m29_559,m29_562,m29_564,m29_566,m29_569u,m29_569i,m29_569r,m29_569g,m29_571,m29_573,m29_575,m29_576,m29_577,m29_580,m29_583,m29_584u,m29_584i,m29_584r,m29_584g,m29_586,m29_587u,m29_587i,m29_587r,m29_587g,m29_591,m29_593,m29_596,m29_598,m29_601,m29_603,m29_605,m29_607,m29_608,m29_609,m29_610,m29_612,m29_613,m29_616,m29_618,m29_620,m29_622,m29_625,m29_628,m29_629i,m29_631,m29_634,m29_637,m29_639,m29_642,m29_644,m29_646,m29_649,m29_651,m29_653,m29_656,m29_658,m29_661,m29_663,m29_665,m29_668,m29_670,m29_673,m29_674,m29_675,m29_678,m29_681,m29_684,m29_687,m29_690,m29_692,m29_694,m29_697,m29_698,m29_701,m29_702,nb0,nb1,ou_a,Option.toList_some,Option.toList_none,List.nil_append,List.cons_append]
      exact ih (j + 1) _ _ _ _ (by omega) (okS_n _) (okS_n _) (okS_n _) (okS_n _)
    | false =>
      have f1 : ff pr sv st j = 0:=by unfold ff; rw [if_neg (by rw [z]; decide)]
      have e2 : nI 0 - 1 = -1:=by decide
      rw [f1] at g
      by_cases y : st + j < d0 + w
      · have y1 : (nI (st + j) < nI (d0 + w)) = True:=lT y (by omega)
        have v : bvl (prF pr st len (d0 + w)) (svF pr sv (bfS st sd fl U) st len (d0 + w)) (st + j) = nI (sgN (nI (st + j)) sd fl (nI U) (nI j)):=by
          unfold bvl prF svF
          rw [if_pos (by simp [y]; omega),if_pos ⟨z,by omega,by omega,y⟩]
          show nI (sgN (nI (st + (st + j - st))) sd fl (nI U) (nI (st + j - st))) = _
          rw [Nat.add_sub_cancel_left]
        simp [g,e2,y1,nI_add,o21,o22,o23,m29_0,m29_1,m29_2,m29_5u,m29_6,m29_7,m29_8,m29_11,m29_13,m29_14,m29_16,m29_17u,m29_18,m29_19,m29_20,m29_23u,m29_24,m29_27,m29_28,m29_29,m29_32u,m29_34,m29_35,m29_37,m29_40,m29_42,m29_45,m29_46,m29_48,m29_51,m29_53,m29_56,m29_57u,m29_59,m29_60,m29_61,m29_63,m29_64,m29_65u,m29_67,m29_68u,m29_70,m29_71u,m29_75,m29_77,m29_80,m29_81,m29_83,m29_86,m29_89u,m29_89i,m29_89r,m29_89g,m29_91,m29_92,m29_94,m29_95,m29_96,m29_97u,m29_97i,m29_97r,m29_97g,m29_99,m29_100u,m29_100i,m29_100r,m29_100g,m29_104,m29_106,m29_109,m29_111,m29_113,m29_114,m29_116,m29_117,m29_118,m29_119,m29_120,m29_123,m29_126,m29_127,m29_128,m29_131,m29_134,m29_136,m29_139,m29_141,m29_144,m29_145,m29_146,m29_149,m29_152,m29_154,m29_157,m29_160,m29_161,m29_162,m29_163i,m29_167,m29_168,m29_168p,m29_169,m29_172,m29_174,m29_177,m29_180,m29_181,m29_183,m29_186,m29_186p,m29_187,m29_189,m29_190u,m29_190i,m29_190r,m29_190g,m29_192,m29_195,m29_197,m29_198,m29_201u,m29_201i,m29_201r,m29_201g,m29_203,m29_205,m29_207,m29_208,m29_210,m29_212,m29_213,m29_214u,m29_214i,m29_214r,m29_214g,m29_216,m29_218,m29_221,m29_222i,m29_224,m29_226,m29_229,m29_232,m29_235i,m29_237,m29_238,m29_240,m29_241,m29_242,m29_244,m29_245,m29_246u,m29_246i,m29_246r,m29_246g,m29_248,m29_250,m29_252,m29_253,m29_256,m29_259,m29_262,m29_264,m29_265i,m29_267,m29_269,m29_271,m29_272,m29_273,m29_274,m29_277,m29_278,m29_281,m29_282u,m29_282i,m29_282r,m29_282g,m29_284,m29_286,m29_288,m29_291,m29_294,m29_295,m29_296,m29_297,m29_299,m29_300u,m29_300i,m29_300r,m29_300g,m29_304,m29_306,m29_309,m29_311,m29_313,m29_314u,m29_314i,m29_314r,m29_314g,m29_316,m29_318,m29_320,m29_322,m29_325,m29_326,m29_327,m29_328,m29_331,m29_332,m29_333,m29_335,m29_336,m29_337,m29_338,m29_340,m29_342,m29_344,m29_345,m29_347,m29_349,m29_351,m29_354,m29_357,m29_360,m29_361,m29_362,m29_365,m29_368,m29_370,m29_372,m29_374,m29_376,m29_377,m29_380,m29_382,m29_384,m29_385,m29_388u,m29_388i,m29_388r,m29_388g,m29_390,m29_392,m29_395,m29_396,m29_397u,m29_397i,m29_397r,m29_397g,m29_401,m29_403,m29_406,m29_408,m29_410,m29_411u,m29_411i,m29_411r,m29_411g,m29_413,m29_415,m29_416,m29_418,m29_420,m29_422,m29_425u,m29_425i,m29_425r,m29_425g,m29_427,m29_429,m29_430,m29_432,m29_433,m29_434,m29_437,m29_438,m29_439,m29_440,m29_441u,m29_441i,m29_441r,m29_441g,m29_443,m29_445,m29_448,m29_450,m29_453,m29_455,m29_457,m29_459,m29_460,m29_463,m29_465,m29_468,m29_469u,m29_469i,m29_469r,m29_469g,m29_471,m29_473,m29_475,m29_478,m29_480,m29_483,m29_484,m29_485,m29_488,m29_493,m29_495,m29_497,m29_499,m29_500,m29_503,m29_505,m29_506,m29_509,m29_510,m29_511,m29_514,m29_516,m29_517,m29_520u,m29_520i,m29_520r,m29_520g,m29_522,m29_524,m29_526,m29_529u,m29_529i,m29_529r,m29_529g,m29_531,m29_533,m29_534,m29_537u,m29_537i,m29_537r,m29_537g,m29_539,m29_540u,m29_540i,m29_540r,m29_540g,m29_542,m29_543u,m29_543i,m29_543r,m29_543g,m29_547,m29_549,m29_552,m29_553u,m29_553i,m29_553r,m29_553g,m29_557,m29_559,m29_562,m29_564,m29_566,m29_569u,m29_569i,m29_569r,m29_569g,m29_571,m29_573,m29_575,m29_576,m29_577,m29_580,m29_583,m29_584u,m29_584i,m29_584r,m29_584g,m29_586,m29_587u,m29_587i,m29_587r,m29_587g,m29_591,m29_593,m29_596,m29_598,m29_601,m29_603,m29_605,m29_607,m29_608,m29_609,m29_610,m29_612,m29_613,m29_616,m29_618,m29_620,m29_622,m29_625,m29_628,m29_629i,m29_631,m29_634,m29_637,m29_639,m29_642,m29_644,m29_646,m29_649,m29_651,m29_653,m29_656,m29_658,m29_661,m29_663,m29_665,m29_668,m29_670,m29_673,m29_674,m29_675,m29_678,m29_681,m29_684,m29_687,m29_690,m29_692,m29_694,m29_697,m29_698,m29_701,m29_702,nb0,nb1,ou_a,Option.toList_some,Option.toList_none,List.nil_append,List.cons_append]
        refine byW hL h7 h8 (by omega) ?_
        rw [v]
        simp [nI_1,m29_0,m29_1,m29_2,m29_5u,m29_6,m29_7,m29_8,m29_11,m29_13,m29_14,m29_16,m29_17u,m29_18,m29_19,m29_20,m29_23u,m29_24,m29_27,m29_28,m29_29,m29_32u,m29_34,m29_35,m29_37,m29_40,m29_42,m29_45,m29_46,m29_48,m29_51,m29_53,m29_56,m29_57u,m29_59,m29_60,m29_61,m29_63,m29_64,m29_65u,m29_67,m29_68u,m29_70,m29_71u,m29_75,m29_77,m29_80,m29_81,m29_83,m29_86,m29_89u,m29_89i,m29_89r,m29_89g,m29_91,m29_92,m29_94,m29_95,m29_96,m29_97u,m29_97i,m29_97r,m29_97g,m29_99,m29_100u,m29_100i,m29_100r,m29_100g,m29_104,m29_106,m29_109,m29_111,m29_113,m29_114,m29_116,m29_117,m29_118,m29_119,m29_120,m29_123,m29_126,m29_127,m29_128,m29_131,m29_134,m29_136,m29_139,m29_141,m29_144,m29_145,m29_146,m29_149,m29_152,m29_154,m29_157,m29_160,m29_161,m29_162,m29_163i,m29_167,m29_168,m29_168p,m29_169,m29_172,m29_174,m29_177,m29_180,m29_181,m29_183,m29_186,m29_186p,m29_187,m29_189,m29_190u,m29_190i,m29_190r,m29_190g,m29_192,m29_195,m29_197,m29_198,m29_201u,m29_201i,m29_201r,m29_201g,m29_203,m29_205,m29_207,m29_208,m29_210,m29_212,m29_213,m29_214u,m29_214i,m29_214r,m29_214g,m29_216,m29_218,m29_221,m29_222i,m29_224,m29_226,m29_229,m29_232,m29_235i,m29_237,m29_238,m29_240,m29_241,m29_242,m29_244,m29_245,m29_246u,m29_246i,m29_246r,m29_246g,m29_248,m29_250,m29_252,m29_253,m29_256,m29_259,m29_262,m29_264,m29_265i,m29_267,m29_269,m29_271,m29_272,m29_273,m29_274,m29_277,m29_278,m29_281,m29_282u,m29_282i,m29_282r,m29_282g,m29_284,m29_286,m29_288,m29_291,m29_294,m29_295,m29_296,m29_297,m29_299,m29_300u,m29_300i,m29_300r,m29_300g,m29_304,m29_306,m29_309,m29_311,m29_313,m29_314u,m29_314i,m29_314r,m29_314g,m29_316,m29_318,m29_320,m29_322,m29_325,m29_326,m29_327,m29_328,m29_331,m29_332,m29_333,m29_335,m29_336,m29_337,m29_338,m29_340,m29_342,m29_344,m29_345,m29_347,m29_349,m29_351,m29_354,m29_357,m29_360,m29_361,m29_362,m29_365,m29_368,m29_370,m29_372,m29_374,m29_376,m29_377,m29_380,m29_382,m29_384,m29_385,m29_388u,m29_388i,m29_388r,m29_388g,m29_390,m29_392,m29_395,m29_396,m29_397u,m29_397i,m29_397r,m29_397g,m29_401,m29_403,m29_406,m29_408,m29_410,m29_411u,m29_411i,m29_411r,m29_411g,m29_413,m29_415,m29_416,m29_418,m29_420,m29_422,m29_425u,m29_425i,m29_425r,m29_425g,m29_427,m29_429,m29_430,m29_432,m29_433,m29_434,m29_437,m29_438,m29_439,m29_440,m29_441u,m29_441i,m29_441r,m29_441g,m29_443,m29_445,m29_448,m29_450,m29_453,m29_455,m29_457,m29_459,m29_460,m29_463,m29_465,m29_468,m29_469u,m29_469i,m29_469r,m29_469g,m29_471,m29_473,m29_475,m29_478,m29_480,m29_483,m29_484,m29_485,m29_488,m29_493,m29_495,m29_497,m29_499,m29_500,m29_503,m29_505,m29_506,m29_509,m29_510,m29_511,m29_514,m29_516,m29_517,m29_520u,m29_520i,m29_520r,m29_520g,m29_522,m29_524,m29_526,m29_529u,m29_529i,m29_529r,m29_529g,m29_531,m29_533,m29_534,m29_537u,m29_537i,m29_537r,m29_537g,m29_539,m29_540u,m29_540i,m29_540r,m29_540g,m29_542,m29_543u,m29_543i,m29_543r,m29_543g,m29_547,m29_549,m29_552,m29_553u,m29_553i,m29_553r,m29_553g,m29_557,m29_559,m29_562,m29_564,m29_566,m29_569u,m29_569i,m29_569r,m29_569g,m29_571,m29_573,m29_575,m29_576,m29_577,m29_580,m29_583,m29_584u,m29_584i,m29_584r,m29_584g,m29_586,m29_587u,m29_587i,m29_587r,m29_587g,m29_591,m29_593,m29_596,m29_598,m29_601,m29_603,m29_605,m29_607,m29_608,m29_609,m29_610,m29_612,m29_613,m29_616,m29_618,m29_620,m29_622,m29_625,m29_628,m29_629i,m29_631,m29_634,m29_637,m29_639,m29_642,m29_644,m29_646,m29_649,m29_651,m29_653,m29_656,m29_658,m29_661,m29_663,m29_665,m29_668,m29_670,m29_673,m29_674,m29_675,m29_678,m29_681,m29_684,m29_687,m29_690,m29_692,m29_694,m29_697,m29_698,m29_701,m29_702,nb0,nb1,ou_a,Option.toList_some,Option.toList_none,List.nil_append,List.cons_append]
        exact ih (j + 1) _ _ _ _ (by omega) (okS_n _) (okS_n _) (okS_i _) (okS_n _)
      · have y1 : (nI (st + j) < nI (d0 + w)) = False:=lF (by omega) (by omega)
        have v : bvl (prF pr st len (d0 + w)) (svF pr sv (bfS st sd fl U) st len (d0 + w)) (st + j) = -1:=by
          unfold bvl prF
          rw [if_neg]
          simp [z]
          omega
        simp [g,e2,y1,nI_add,o21,o22,o23,m29_0,m29_1,m29_2,m29_5u,m29_6,m29_7,m29_8,m29_11,m29_13,m29_14,m29_16,m29_17u,m29_18,m29_19,m29_20,m29_23u,m29_24,m29_27,m29_28,m29_29,m29_32u,m29_34,m29_35,m29_37,m29_40,m29_42,m29_45,m29_46,m29_48,m29_51,m29_53,m29_56,m29_57u,m29_59,m29_60,m29_61,m29_63,m29_64,m29_65u,m29_67,m29_68u,m29_70,m29_71u,m29_75,m29_77,m29_80,m29_81,m29_83,m29_86,m29_89u,m29_89i,m29_89r,m29_89g,m29_91,m29_92,m29_94,m29_95,m29_96,m29_97u,m29_97i,m29_97r,m29_97g,m29_99,m29_100u,m29_100i,m29_100r,m29_100g,m29_104,m29_106,m29_109,m29_111,m29_113,m29_114,m29_116,m29_117,m29_118,m29_119,m29_120,m29_123,m29_126,m29_127,m29_128,m29_131,m29_134,m29_136,m29_139,m29_141,m29_144,m29_145,m29_146,m29_149,m29_152,m29_154,m29_157,m29_160,m29_161,m29_162,m29_163i,m29_167,m29_168,m29_168p,m29_169,m29_172,m29_174,m29_177,m29_180,m29_181,m29_183,m29_186,m29_186p,m29_187,m29_189,m29_190u,m29_190i,m29_190r,m29_190g,m29_192,m29_195,m29_197,m29_198,m29_201u,m29_201i,m29_201r,m29_201g,m29_203,m29_205,m29_207,m29_208,m29_210,m29_212,m29_213,m29_214u,m29_214i,m29_214r,m29_214g,m29_216,m29_218,m29_221,m29_222i,m29_224,m29_226,m29_229,m29_232,m29_235i,m29_237,m29_238,m29_240,m29_241,m29_242,m29_244,m29_245,m29_246u,m29_246i,m29_246r,m29_246g,m29_248,m29_250,m29_252,m29_253,m29_256,m29_259,m29_262,m29_264,m29_265i,m29_267,m29_269,m29_271,m29_272,m29_273,m29_274,m29_277,m29_278,m29_281,m29_282u,m29_282i,m29_282r,m29_282g,m29_284,m29_286,m29_288,m29_291,m29_294,m29_295,m29_296,m29_297,m29_299,m29_300u,m29_300i,m29_300r,m29_300g,m29_304,m29_306,m29_309,m29_311,m29_313,m29_314u,m29_314i,m29_314r,m29_314g,m29_316,m29_318,m29_320,m29_322,m29_325,m29_326,m29_327,m29_328,m29_331,m29_332,m29_333,m29_335,m29_336,m29_337,m29_338,m29_340,m29_342,m29_344,m29_345,m29_347,m29_349,m29_351,m29_354,m29_357,m29_360,m29_361,m29_362,m29_365,m29_368,m29_370,m29_372,m29_374,m29_376,m29_377,m29_380,m29_382,m29_384,m29_385,m29_388u,m29_388i,m29_388r,m29_388g,m29_390,m29_392,m29_395,m29_396,m29_397u,m29_397i,m29_397r,m29_397g,m29_401,m29_403,m29_406,m29_408,m29_410,m29_411u,m29_411i,m29_411r,m29_411g,m29_413,m29_415,m29_416,m29_418,m29_420,m29_422,m29_425u,m29_425i,m29_425r,m29_425g,m29_427,m29_429,m29_430,m29_432,m29_433,m29_434,m29_437,m29_438,m29_439,m29_440,m29_441u,m29_441i,m29_441r,m29_441g,m29_443,m29_445,m29_448,m29_450,m29_453,m29_455,m29_457,m29_459,m29_460,m29_463,m29_465,m29_468,m29_469u,m29_469i,m29_469r,m29_469g,m29_471,m29_473,m29_475,m29_478,m29_480,m29_483,m29_484,m29_485,m29_488,m29_493,m29_495,m29_497,m29_499,m29_500,m29_503,m29_505,m29_506,m29_509,m29_510,m29_511,m29_514,m29_516,m29_517,m29_520u,m29_520i,m29_520r,m29_520g,m29_522,m29_524,m29_526,m29_529u,m29_529i,m29_529r,m29_529g,m29_531,m29_533,m29_534,m29_537u,m29_537i,m29_537r,m29_537g,m29_539,m29_540u,m29_540i,m29_540r,m29_540g,m29_542,m29_543u,m29_543i,m29_543r,m29_543g,m29_547,m29_549,m29_552,m29_553u,m29_553i,m29_553r,m29_553g,m29_557,m29_559,m29_562,m29_564,m29_566,m29_569u,m29_569i,m29_569r,m29_569g,m29_571,m29_573,m29_575,m29_576,m29_577,m29_580,m29_583,m29_584u,m29_584i,m29_584r,m29_584g,m29_586,m29_587u,m29_587i,m29_587r,m29_587g,m29_591,m29_593,m29_596,m29_598,m29_601,m29_603,m29_605,m29_607,m29_608,m29_609,m29_610,m29_612,m29_613,m29_616,m29_618,m29_620,m29_622,m29_625,m29_628,m29_629i,m29_631,m29_634,m29_637,m29_639,m29_642,m29_644,m29_646,m29_649,m29_651,m29_653,m29_656,m29_658,m29_661,m29_663,m29_665,m29_668,m29_670,m29_673,m29_674,m29_675,m29_678,m29_681,m29_684,m29_687,m29_690,m29_692,m29_694,m29_697,m29_698,m29_701,m29_702,nb0,nb1,ou_a,Option.toList_some,Option.toList_none,List.nil_append,List.cons_append]
        refine byW hL h7 h8 (by omega) ?_
        rw [v]
        simp [nI_1,m29_0,m29_1,m29_2,m29_5u,m29_6,m29_7,m29_8,m29_11,m29_13,m29_14,m29_16,m29_17u,m29_18,m29_19,m29_20,m29_23u,m29_24,m29_27,m29_28,m29_29,m29_32u,m29_34,m29_35,m29_37,m29_40,m29_42,m29_45,m29_46,m29_48,m29_51,m29_53,m29_56,m29_57u,m29_59,m29_60,m29_61,m29_63,m29_64,m29_65u,m29_67,m29_68u,m29_70,m29_71u,m29_75,m29_77,m29_80,m29_81,m29_83,m29_86,m29_89u,m29_89i,m29_89r,m29_89g,m29_91,m29_92,m29_94,m29_95,m29_96,m29_97u,m29_97i,m29_97r,m29_97g,m29_99,m29_100u,m29_100i,m29_100r,m29_100g,m29_104,m29_106,m29_109,m29_111,m29_113,m29_114,m29_116,m29_117,m29_118,m29_119,m29_120,m29_123,m29_126,m29_127,m29_128,m29_131,m29_134,m29_136,m29_139,m29_141,m29_144,m29_145,m29_146,m29_149,m29_152,m29_154,m29_157,m29_160,m29_161,m29_162,m29_163i,m29_167,m29_168,m29_168p,m29_169,m29_172,m29_174,m29_177,m29_180,m29_181,m29_183,m29_186,m29_186p,m29_187,m29_189,m29_190u,m29_190i,m29_190r,m29_190g,m29_192,m29_195,m29_197,m29_198,m29_201u,m29_201i,m29_201r,m29_201g,m29_203,m29_205,m29_207,m29_208,m29_210,m29_212,m29_213,m29_214u,m29_214i,m29_214r,m29_214g,m29_216,m29_218,m29_221,m29_222i,m29_224,m29_226,m29_229,m29_232,m29_235i,m29_237,m29_238,m29_240,m29_241,m29_242,m29_244,m29_245,m29_246u,m29_246i,m29_246r,m29_246g,m29_248,m29_250,m29_252,m29_253,m29_256,m29_259,m29_262,m29_264,m29_265i,m29_267,m29_269,m29_271,m29_272,m29_273,m29_274,m29_277,m29_278,m29_281,m29_282u,m29_282i,m29_282r,m29_282g,m29_284,m29_286,m29_288,m29_291,m29_294,m29_295,m29_296,m29_297,m29_299,m29_300u,m29_300i,m29_300r,m29_300g,m29_304,m29_306,m29_309,m29_311,m29_313,m29_314u,m29_314i,m29_314r,m29_314g,m29_316,m29_318,m29_320,m29_322,m29_325,m29_326,m29_327,m29_328,m29_331,m29_332,m29_333,m29_335,m29_336,m29_337,m29_338,m29_340,m29_342,m29_344,m29_345,m29_347,m29_349,m29_351,m29_354,m29_357,m29_360,m29_361,m29_362,m29_365,m29_368,m29_370,m29_372,m29_374,m29_376,m29_377,m29_380,m29_382,m29_384,m29_385,m29_388u,m29_388i,m29_388r,m29_388g,m29_390,m29_392,m29_395,m29_396,m29_397u,m29_397i,m29_397r,m29_397g,m29_401,m29_403,m29_406,m29_408,m29_410,m29_411u,m29_411i,m29_411r,m29_411g,m29_413,m29_415,m29_416,m29_418,m29_420,m29_422,m29_425u,m29_425i,m29_425r,m29_425g,m29_427,m29_429,m29_430,m29_432,m29_433,m29_434,m29_437,m29_438,m29_439,m29_440,m29_441u,m29_441i,m29_441r,m29_441g,m29_443,m29_445,m29_448,m29_450,m29_453,m29_455,m29_457,m29_459,m29_460,m29_463,m29_465,m29_468,m29_469u,m29_469i,m29_469r,m29_469g,m29_471,m29_473,m29_475,m29_478,m29_480,m29_483,m29_484,m29_485,m29_488,m29_493,m29_495,m29_497,m29_499,m29_500,m29_503,m29_505,m29_506,m29_509,m29_510,m29_511,m29_514,m29_516,m29_517,m29_520u,m29_520i,m29_520r,m29_520g,m29_522,m29_524,m29_526,m29_529u,m29_529i,m29_529r,m29_529g,m29_531,m29_533,m29_534,m29_537u,m29_537i,m29_537r,m29_537g,m29_539,m29_540u,m29_540i,m29_540r,m29_540g,m29_542,m29_543u,m29_543i,m29_543r,m29_543g,m29_547,m29_549,m29_552,m29_553u,m29_553i,m29_553r,m29_553g,m29_557,m29_559,m29_562,m29_564,m29_566,m29_569u,m29_569i,m29_569r,m29_569g,m29_571,m29_573,m29_575,m29_576,m29_577,m29_580,m29_583,m29_584u,m29_584i,m29_584r,m29_584g,m29_586,m29_587u,m29_587i,m29_587r,m29_587g,m29_591,m29_593,m29_596,m29_598,m29_601,m29_603,m29_605,m29_607,m29_608,m29_609,m29_610,m29_612,m29_613,m29_616,m29_618,m29_620,m29_622,m29_625,m29_628,m29_629i,m29_631,m29_634,m29_637,m29_639,m29_642,m29_644,m29_646,m29_649,m29_651,m29_653,m29_656,m29_658,m29_661,m29_663,m29_665,m29_668,m29_670,m29_673,m29_674,m29_675,m29_678,m29_681,m29_684,m29_687,m29_690,m29_692,m29_694,m29_697,m29_698,m29_701,m29_702,nb0,nb1,ou_a,Option.toList_some,Option.toList_none,List.nil_append,List.cons_append]
        exact ih (j + 1) _ _ _ _ (by omega) (okS_n _) (okS_n _) (okS_i _) (okS_i _)
set_option maxRecDepth 1000000 in
set_option maxHeartbeats 20000000 in
theorem sgS {sd fl : Int32} {U st len : Nat} (hs5 : st≤255) (hst : st + len≤256) (h16 : len≤16) (hC : SC w ns en N sb ss sl lab dl om s A) (hD : DY ns N d lab (SW sb ss sl) pr sv s A) (s13 : s 13 = 0) (o14 : okP l14 l15) (o16 : okP l16 l17) (o18 : okS l18) (o19 : okS l19) (o20 : okS l20) (o21 : okS l21) (o22 : okS l22) (o23 : okS l23)
    (hq : ∀ d' pr' sv' bw h0 l18 l19 l20 l21 l22 l23 s' A',SC w ns en N sb ss sl lab dl om s' A'→DY ns N d' lab (SW sb ss sl) pr' sv' s' A'→s' 13 = 0→okS l18→okS l19→okS l20→okS l21→okS l22→okS l23→M29 511 [.val (.ref 0),l1,l2,.val (.int (sd)),.val (.ref 1),.val (.int (nI w)),l6,l7,l8,.val (.int (nI U)),l10,.val (.int (nI st)),.val (.int (nI len)),.val (.int (fl)),.val (.long bw),.second,.val (.long h0),.second,l18,l19,l20,l21,l22,l23] [] (put 1 [((FieldType.array .int,vs.map Value.int) : FieldType × List Value)] s' A' []) Q) : M29 284 [.val (.ref 0),l1,l2,.val (.int (sd)),.val (.ref 1),.val (.int (nI w)),l6,l7,l8,.val (.int (nI U)),l10,.val (.int (nI st)),.val (.int (nI len)),.val (.int (fl)),l14,l15,l16,l17,l18,l19,l20,l21,l22,l23] [] (put 1 [((FieldType.array .int,vs.map Value.int) : FieldType × List Value)] s A []) Q:=by
  have s1:=hC.s1
  have s7:=hD.s7
  have w8:=hC.w8
  have dle:=hD.dl
  have c1 : (nI st < 0) = False:=nnF (by omega)
  have r297:=own_law_297 (H:=(put 1 [((FieldType.array .int,vs.map Value.int) : FieldType × List Value)] (ou (ou (ou s 13 1) 14 (nI st)) 15 0) A [])) (Q:=Q) (st:=[]) (J1:=0) (l0:=.val (.ref 0)) (l1:=l1) (l2:=l2) (l3:=.val (.int (sd))) (l4:=.val (.ref 1)) (l5:=.val (.int (nI w))) (l6:=l6) (l7:=l7) (l8:=l8) (l9:=.val (.int (nI U))) (l10:=l10) (l11:=.val (.int (nI st))) (l12:=.val (.int (nI len))) (l13:=.val (.int (fl))) (l16:=l16) (l17:=l17) (l18:=l18) (l19:=l19) (l20:=l20) (l21:=l21) (l22:=l22) (l23:=l23) o14
  by_cases z : st < 256
  case neg => omega
  have c2 : (nI st < 256) = True:=lT (c:=256) z (by decide)
  simp [s1,s13,c1,c2,m10_0,m10_1,m10_4,m10_7,m10_8,m10_9,m10_10,m10_13,m10_16,m10_17,m10_18,m10_19,m10_20,m10_23,m10_26,m10_28,m10_29,m10_30,m10_31,m10_34,m10_35,m10_36,m10_39,m10_40,m10_41,m10_44,m10_45,nb0,nb1,ou_a,Option.toList_some,Option.toList_none,List.nil_append,List.cons_append,m11_0,m11_1,m11_4,m11_5,m11_8,m11_11,m11_12,m11_15,m11_16,nb0,nb1,ou_a,Option.toList_some,Option.toList_none,List.nil_append,List.cons_append,m29_0,m29_1,m29_2,m29_5u,m29_6,m29_7,m29_8,m29_11,m29_13,m29_14,m29_16,m29_17u,m29_18,m29_19,m29_20,m29_23u,m29_24,m29_27,m29_28,m29_29,m29_32u,m29_34,m29_35,m29_37,m29_40,m29_42,m29_45,m29_46,m29_48,m29_51,m29_53,m29_56,m29_57u,m29_59,m29_60,m29_61,m29_63,m29_64,m29_65u,m29_67,m29_68u,m29_70,m29_71u,m29_75,m29_77,m29_80,m29_81,m29_83,m29_86,m29_89u,m29_89i,m29_89r,m29_89g,m29_91,m29_92,m29_94,m29_95,m29_96,m29_97u,m29_97i,m29_97r,m29_97g,m29_99,m29_100u,m29_100i,m29_100r,m29_100g,m29_104,m29_106,m29_109,m29_111,m29_113,m29_114,m29_116,m29_117,m29_118,m29_119,m29_120,m29_123,m29_126,m29_127,m29_128,m29_131,m29_134,m29_136,m29_139,m29_141,m29_144,m29_145,m29_146,m29_149,m29_152,m29_154,m29_157,m29_160,m29_161,m29_162,m29_163i,m29_167,m29_168,m29_168p,m29_169,m29_172,m29_174,m29_177,m29_180,m29_181,m29_183,m29_186,m29_186p,m29_187,m29_189,m29_190u,m29_190i,m29_190r,m29_190g,m29_192,m29_195,m29_197,m29_198,m29_201u,m29_201i,m29_201r,m29_201g,m29_203,m29_205,m29_207,m29_208,m29_210,m29_212,m29_213,m29_214u,m29_214i,m29_214r,m29_214g,m29_216,m29_218,m29_221,m29_222i,m29_224,m29_226,m29_229,m29_232,m29_235i,m29_237,m29_238,m29_240,m29_241,m29_242,m29_244,m29_245,m29_246u,m29_246i,m29_246r,m29_246g,m29_248,m29_250,m29_252,m29_253,m29_256,m29_259,m29_262,m29_264,m29_265i,m29_267,m29_269,m29_271,m29_272,m29_273,m29_274,m29_277,m29_278,m29_281,m29_282u,m29_282i,m29_282r,m29_282g,m29_284,m29_286,m29_288,m29_291,m29_294,m29_295,m29_296,m29_299,m29_300g,m29_304,m29_306,m29_309,m29_311,m29_313,m29_314u,m29_314i,m29_314r,m29_314g,m29_316,m29_318,m29_320,m29_322,m29_325,m29_326,m29_327,m29_328,m29_331,m29_332,m29_333,m29_335,m29_336,m29_337,m29_338,m29_340,m29_342,m29_344,m29_345,m29_347,m29_349,m29_351,m29_354,m29_357,m29_360,m29_361,m29_362,m29_365,m29_368,m29_370,m29_372,m29_374,m29_376,m29_377,m29_380,m29_382,m29_384,m29_385,m29_388u,m29_388i,m29_388r,m29_388g,m29_390,m29_392,m29_395,m29_396,m29_397u,m29_397i,m29_397r,m29_397g,m29_401,m29_403,m29_406,m29_408,m29_410,m29_411u,m29_411i,m29_411r,m29_411g,m29_413,m29_415,m29_416,m29_418,m29_420,m29_422,m29_425u,m29_425i,m29_425r,m29_425g,m29_427,m29_429,m29_430,m29_432,m29_433,m29_434,m29_437,m29_438,m29_439,m29_440,m29_441u,m29_441i,m29_441r,m29_441g,m29_443,m29_445,m29_448,m29_450,m29_453,m29_455,m29_457,m29_459,m29_460,m29_463,m29_465,m29_468,m29_469u,m29_469i,m29_469r,m29_469g,m29_471,m29_473,m29_475,m29_478,m29_480,m29_483,m29_484,m29_485,m29_488,m29_491,m29_493,m29_495,m29_497,m29_499,m29_500,m29_503,m29_505,m29_506,m29_509,m29_510,m29_511,m29_514,m29_516,m29_517,m29_520u,m29_520i,m29_520r,m29_520g,m29_522,m29_524,m29_526,m29_529u,m29_529i,m29_529r,m29_529g,m29_531,m29_533,m29_534,m29_537u,m29_537i,m29_537r,m29_537g,m29_539,m29_540u,m29_540i,m29_540r,m29_540g,m29_542,m29_543u,m29_543i,m29_543r,m29_543g,m29_547,m29_549,m29_552,m29_553u,m29_553i,m29_553r,m29_553g,m29_557,m29_559,m29_562,m29_564,m29_566,m29_569u,m29_569i,m29_569r,m29_569g,m29_571,m29_573,m29_575,m29_576,m29_577,m29_580,m29_583,m29_584u,m29_584i,m29_584r,m29_584g,m29_586,m29_587u,m29_587i,m29_587r,m29_587g,m29_591,m29_593,m29_596,m29_598,m29_601,m29_603,m29_605,m29_607,m29_608,m29_609,m29_610,m29_612,m29_613,m29_616,m29_618,m29_620,m29_622,m29_625,m29_628,m29_629i,m29_631,m29_634,m29_637,m29_639,m29_642,m29_644,m29_646,m29_649,m29_651,m29_653,m29_656,m29_658,m29_661,m29_663,m29_665,m29_668,m29_670,m29_673,m29_674,m29_675,m29_678,m29_681,m29_684,m29_687,m29_690,m29_692,m29_694,m29_697,m29_698,m29_701,m29_702,nb0,nb1,ou_a,Option.toList_some,Option.toList_none,List.nil_append,List.cons_append]
  rw [r297]
  obtain ⟨k17,ok17,e300⟩:=own_law_300 (H:=(put 1 [((FieldType.array .int,vs.map Value.int) : FieldType × List Value)] (ou (ou (ou s 13 1) 14 (nI st)) 15 0) A [])) (Q:=Q) (st:=[]) (v:=0) (l0:=.val (.ref 0)) (l1:=l1) (l2:=l2) (l3:=.val (.int (sd))) (l4:=.val (.ref 1)) (l5:=.val (.int (nI w))) (l6:=l6) (l7:=l7) (l8:=l8) (l9:=.val (.int (nI U))) (l10:=l10) (l11:=.val (.int (nI st))) (l12:=.val (.int (nI len))) (l13:=.val (.int (fl))) (l18:=l18) (l19:=l19) (l20:=l20) (l21:=l21) (l22:=l22) (l23:=l23) (l14:=.val (.long 0)) (l15:=.second) o16
  simp [m29_0,m29_1,m29_2,m29_5u,m29_6,m29_7,m29_8,m29_11,m29_13,m29_14,m29_16,m29_17u,m29_18,m29_19,m29_20,m29_23u,m29_24,m29_27,m29_28,m29_29,m29_32u,m29_34,m29_35,m29_37,m29_40,m29_42,m29_45,m29_46,m29_48,m29_51,m29_53,m29_56,m29_57u,m29_59,m29_60,m29_61,m29_63,m29_64,m29_65u,m29_67,m29_68u,m29_70,m29_71u,m29_75,m29_77,m29_80,m29_81,m29_83,m29_86,m29_89u,m29_89i,m29_89r,m29_89g,m29_91,m29_92,m29_94,m29_95,m29_96,m29_97u,m29_97i,m29_97r,m29_97g,m29_99,m29_100u,m29_100i,m29_100r,m29_100g,m29_104,m29_106,m29_109,m29_111,m29_113,m29_114,m29_116,m29_117,m29_118,m29_119,m29_120,m29_123,m29_126,m29_127,m29_128,m29_131,m29_134,m29_136,m29_139,m29_141,m29_144,m29_145,m29_146,m29_149,m29_152,m29_154,m29_157,m29_160,m29_161,m29_162,m29_163i,m29_167,m29_168,m29_168p,m29_169,m29_172,m29_174,m29_177,m29_180,m29_181,m29_183,m29_186,m29_186p,m29_187,m29_189,m29_190u,m29_190i,m29_190r,m29_190g,m29_192,m29_195,m29_197,m29_198,m29_201u,m29_201i,m29_201r,m29_201g,m29_203,m29_205,m29_207,m29_208,m29_210,m29_212,m29_213,m29_214u,m29_214i,m29_214r,m29_214g,m29_216,m29_218,m29_221,m29_222i,m29_224,m29_226,m29_229,m29_232,m29_235i,m29_237,m29_238,m29_240,m29_241,m29_242,m29_244,m29_245,m29_246u,m29_246i,m29_246r,m29_246g,m29_248,m29_250,m29_252,m29_253,m29_256,m29_259,m29_262,m29_264,m29_265i,m29_267,m29_269,m29_271,m29_272,m29_273,m29_274,m29_277,m29_278,m29_281,m29_282u,m29_282i,m29_282r,m29_282g,m29_284,m29_286,m29_288,m29_291,m29_294,m29_295,m29_296,m29_297,m29_299,m29_300g,m29_304,m29_306,m29_309,m29_311,m29_313,m29_314u,m29_314i,m29_314r,m29_314g,m29_316,m29_318,m29_320,m29_322,m29_325,m29_326,m29_327,m29_328,m29_331,m29_332,m29_333,m29_335,m29_336,m29_337,m29_338,m29_340,m29_342,m29_344,m29_345,m29_347,m29_349,m29_351,m29_354,m29_357,m29_360,m29_361,m29_362,m29_365,m29_368,m29_370,m29_372,m29_374,m29_376,m29_377,m29_380,m29_382,m29_384,m29_385,m29_388u,m29_388i,m29_388r,m29_388g,m29_390,m29_392,m29_395,m29_396,m29_397u,m29_397i,m29_397r,m29_397g,m29_401,m29_403,m29_406,m29_408,m29_410,m29_411u,m29_411i,m29_411r,m29_411g,m29_413,m29_415,m29_416,m29_418,m29_420,m29_422,m29_425u,m29_425i,m29_425r,m29_425g,m29_427,m29_429,m29_430,m29_432,m29_433,m29_434,m29_437,m29_438,m29_439,m29_440,m29_441u,m29_441i,m29_441r,m29_441g,m29_443,m29_445,m29_448,m29_450,m29_453,m29_455,m29_457,m29_459,m29_460,m29_463,m29_465,m29_468,m29_469u,m29_469i,m29_469r,m29_469g,m29_471,m29_473,m29_475,m29_478,m29_480,m29_483,m29_484,m29_485,m29_488,m29_491,m29_493,m29_495,m29_497,m29_499,m29_500,m29_503,m29_505,m29_506,m29_509,m29_510,m29_511,m29_514,m29_516,m29_517,m29_520u,m29_520i,m29_520r,m29_520g,m29_522,m29_524,m29_526,m29_529u,m29_529i,m29_529r,m29_529g,m29_531,m29_533,m29_534,m29_537u,m29_537i,m29_537r,m29_537g,m29_539,m29_540u,m29_540i,m29_540r,m29_540g,m29_542,m29_543u,m29_543i,m29_543r,m29_543g,m29_547,m29_549,m29_552,m29_553u,m29_553i,m29_553r,m29_553g,m29_557,m29_559,m29_562,m29_564,m29_566,m29_569u,m29_569i,m29_569r,m29_569g,m29_571,m29_573,m29_575,m29_576,m29_577,m29_580,m29_583,m29_584u,m29_584i,m29_584r,m29_584g,m29_586,m29_587u,m29_587i,m29_587r,m29_587g,m29_591,m29_593,m29_596,m29_598,m29_601,m29_603,m29_605,m29_607,m29_608,m29_609,m29_610,m29_612,m29_613,m29_616,m29_618,m29_620,m29_622,m29_625,m29_628,m29_629i,m29_631,m29_634,m29_637,m29_639,m29_642,m29_644,m29_646,m29_649,m29_651,m29_653,m29_656,m29_658,m29_661,m29_663,m29_665,m29_668,m29_670,m29_673,m29_674,m29_675,m29_678,m29_681,m29_684,m29_687,m29_690,m29_692,m29_694,m29_697,m29_698,m29_701,m29_702,nb0,nb1,ou_a,Option.toList_some,Option.toList_none,List.nil_append,List.cons_append]
  rw [e300]
  refine sgJ (d:=d) (pr:=pr) (sv:=sv) (sd:=sd) (fl:=fl) (U:=U) hst h16 len 0 0 _ _ A (by omega) (hC.st (fun i hi => by rw [os_ne (by omega),os_ne (by omega),os_ne (by omega)]) hC.ln (fun _ _ => rfl)) (hD.fr (by rw [os_ne (by decide),os_ne (by decide),os_ne (by decide)]) (by rw [os_ne (by decide),os_ne (by decide),os_ne (by decide)]) (by rw [os_ne (by decide),os_ne (by decide),os_ne (by decide)]) (fun _ _ => rfl)) (by rw [os_ne (by decide),os_ne (by decide),os_eq]) (by rw [os_ne (by decide),os_eq]) (by rw [os_eq]; rfl) (fun _ h => absurd h (by omega)) (BW_0 _) ok17 (fun bw k17' s1 A1 hC1 hD1 t13 t14 t15 t9 hbw ok17' => ?_)
  simp [nI_add,m29_0,m29_1,m29_2,m29_5u,m29_6,m29_7,m29_8,m29_11,m29_13,m29_14,m29_16,m29_17u,m29_18,m29_19,m29_20,m29_23u,m29_24,m29_27,m29_28,m29_29,m29_32u,m29_34,m29_35,m29_37,m29_40,m29_42,m29_45,m29_46,m29_48,m29_51,m29_53,m29_56,m29_57u,m29_59,m29_60,m29_61,m29_63,m29_64,m29_65u,m29_67,m29_68u,m29_70,m29_71u,m29_75,m29_77,m29_80,m29_81,m29_83,m29_86,m29_89u,m29_89i,m29_89r,m29_89g,m29_91,m29_92,m29_94,m29_95,m29_96,m29_97u,m29_97i,m29_97r,m29_97g,m29_99,m29_100u,m29_100i,m29_100r,m29_100g,m29_104,m29_106,m29_109,m29_111,m29_113,m29_114,m29_116,m29_117,m29_118,m29_119,m29_120,m29_123,m29_126,m29_127,m29_128,m29_131,m29_134,m29_136,m29_139,m29_141,m29_144,m29_145,m29_146,m29_149,m29_152,m29_154,m29_157,m29_160,m29_161,m29_162,m29_163i,m29_167,m29_168,m29_168p,m29_169,m29_172,m29_174,m29_177,m29_180,m29_181,m29_183,m29_186,m29_186p,m29_187,m29_189,m29_190u,m29_190i,m29_190r,m29_190g,m29_192,m29_195,m29_197,m29_198,m29_201u,m29_201i,m29_201r,m29_201g,m29_203,m29_205,m29_207,m29_208,m29_210,m29_212,m29_213,m29_214u,m29_214i,m29_214r,m29_214g,m29_216,m29_218,m29_221,m29_222i,m29_224,m29_226,m29_229,m29_232,m29_235i,m29_237,m29_238,m29_240,m29_241,m29_242,m29_244,m29_245,m29_246u,m29_246i,m29_246r,m29_246g,m29_248,m29_250,m29_252,m29_253,m29_256,m29_259,m29_262,m29_264,m29_265i,m29_267,m29_269,m29_271,m29_272,m29_273,m29_274,m29_277,m29_278,m29_281,m29_282u,m29_282i,m29_282r,m29_282g,m29_284,m29_286,m29_288,m29_291,m29_294,m29_295,m29_296,m29_297,m29_299,m29_300u,m29_300i,m29_300r,m29_300g,m29_304,m29_306,m29_309,m29_311,m29_313,m29_314u,m29_314i,m29_314r,m29_314g,m29_316,m29_318,m29_320,m29_322,m29_325,m29_326,m29_327,m29_328,m29_331,m29_332,m29_333,m29_335,m29_336,m29_337,m29_338,m29_340,m29_342,m29_344,m29_345,m29_347,m29_349,m29_351,m29_354,m29_357,m29_360,m29_361,m29_362,m29_365,m29_368,m29_370,m29_372,m29_374,m29_376,m29_377,m29_382,m29_384,m29_385,m29_388u,m29_388i,m29_388r,m29_388g,m29_390,m29_392,m29_395,m29_396,m29_397u,m29_397i,m29_397r,m29_397g,m29_401,m29_403,m29_406,m29_408,m29_410,m29_411u,m29_411i,m29_411r,m29_411g,m29_413,m29_415,m29_416,m29_418,m29_420,m29_422,m29_425u,m29_425i,m29_425r,m29_425g,m29_427,m29_429,m29_430,m29_432,m29_433,m29_434,m29_437,m29_438,m29_439,m29_440,m29_441u,m29_441i,m29_441r,m29_441g,m29_443,m29_445,m29_448,m29_450,m29_453,m29_455,m29_457,m29_459,m29_460,m29_463,m29_465,m29_468,m29_469u,m29_469i,m29_469r,m29_469g,m29_471,m29_473,m29_475,m29_478,m29_480,m29_483,m29_484,m29_485,m29_488,m29_491,m29_493,m29_495,m29_497,m29_499,m29_500,m29_503,m29_505,m29_506,m29_509,m29_510,m29_511,m29_514,m29_516,m29_517,m29_520u,m29_520i,m29_520r,m29_520g,m29_522,m29_524,m29_526,m29_529u,m29_529i,m29_529r,m29_529g,m29_531,m29_533,m29_534,m29_537u,m29_537i,m29_537r,m29_537g,m29_539,m29_540u,m29_540i,m29_540r,m29_540g,m29_542,m29_543u,m29_543i,m29_543r,m29_543g,m29_547,m29_549,m29_552,m29_553u,m29_553i,m29_553r,m29_553g,m29_557,m29_559,m29_562,m29_564,m29_566,m29_569u,m29_569i,m29_569r,m29_569g,m29_571,m29_573,m29_575,m29_576,m29_577,m29_580,m29_583,m29_584u,m29_584i,m29_584r,m29_584g,m29_586,m29_587u,m29_587i,m29_587r,m29_587g,m29_591,m29_593,m29_596,m29_598,m29_601,m29_603,m29_605,m29_607,m29_608,m29_609,m29_610,m29_612,m29_613,m29_616,m29_618,m29_620,m29_622,m29_625,m29_628,m29_629i,m29_631,m29_634,m29_637,m29_639,m29_642,m29_644,m29_646,m29_649,m29_651,m29_653,m29_656,m29_658,m29_661,m29_663,m29_665,m29_668,m29_670,m29_673,m29_674,m29_675,m29_678,m29_681,m29_684,m29_687,m29_690,m29_692,m29_694,m29_697,m29_698,m29_701,m29_702,nb0,nb1,ou_a,Option.toList_some,Option.toList_none,List.nil_append,List.cons_append]
  refine haW hC1.ln hD1.a7 hD1.a8 (by omega) (by omega) ?_
  have r380:=own_law_380 (H:=(put 1 [((FieldType.array .int,vs.map Value.int) : FieldType × List Value)] s1 A1 [])) (Q:=Q) (st:=[]) (J1:=hso (bvl pr sv) st (st + len) 256 0 17) (l0:=.val (.ref 0)) (l1:=l1) (l2:=l2) (l3:=.val (.int (sd))) (l4:=.val (.ref 1)) (l5:=.val (.int (nI w))) (l6:=l6) (l7:=l7) (l8:=l8) (l9:=.val (.int (nI U))) (l10:=l10) (l11:=.val (.int (nI st))) (l12:=.val (.int (nI len))) (l13:=.val (.int (fl))) (l18:=l18) (l19:=l19) (l20:=l20) (l21:=l21) (l22:=l22) (l23:=l23) (l14:=.val (.long bw)) (l15:=.second) (okP_s (okS_n len) ok17')
  show M29 380 _ [.long _] _ _
  rw [r380]
  have u7:=hD1.s7
  simp [st0 u7,o18,m29_0,m29_1,m29_2,m29_5u,m29_6,m29_7,m29_8,m29_11,m29_13,m29_14,m29_16,m29_17u,m29_18,m29_19,m29_20,m29_23u,m29_24,m29_27,m29_28,m29_29,m29_32u,m29_34,m29_35,m29_37,m29_40,m29_42,m29_45,m29_46,m29_48,m29_51,m29_53,m29_56,m29_57u,m29_59,m29_60,m29_61,m29_63,m29_64,m29_65u,m29_67,m29_68u,m29_70,m29_71u,m29_75,m29_77,m29_80,m29_81,m29_83,m29_86,m29_89u,m29_89i,m29_89r,m29_89g,m29_91,m29_92,m29_94,m29_95,m29_96,m29_97u,m29_97i,m29_97r,m29_97g,m29_99,m29_100u,m29_100i,m29_100r,m29_100g,m29_104,m29_106,m29_109,m29_111,m29_113,m29_114,m29_116,m29_117,m29_118,m29_119,m29_120,m29_123,m29_126,m29_127,m29_128,m29_131,m29_134,m29_136,m29_139,m29_141,m29_144,m29_145,m29_146,m29_149,m29_152,m29_154,m29_157,m29_160,m29_161,m29_162,m29_163i,m29_167,m29_168,m29_168p,m29_169,m29_172,m29_174,m29_177,m29_180,m29_181,m29_183,m29_186,m29_186p,m29_187,m29_189,m29_190u,m29_190i,m29_190r,m29_190g,m29_192,m29_195,m29_197,m29_198,m29_201u,m29_201i,m29_201r,m29_201g,m29_203,m29_205,m29_207,m29_208,m29_210,m29_212,m29_213,m29_214u,m29_214i,m29_214r,m29_214g,m29_216,m29_218,m29_221,m29_222i,m29_224,m29_226,m29_229,m29_232,m29_235i,m29_237,m29_238,m29_240,m29_241,m29_242,m29_244,m29_245,m29_246u,m29_246i,m29_246r,m29_246g,m29_248,m29_250,m29_252,m29_253,m29_256,m29_259,m29_262,m29_264,m29_265i,m29_267,m29_269,m29_271,m29_272,m29_273,m29_274,m29_277,m29_278,m29_281,m29_282u,m29_282i,m29_282r,m29_282g,m29_284,m29_286,m29_288,m29_291,m29_294,m29_295,m29_296,m29_297,m29_299,m29_300u,m29_300i,m29_300r,m29_300g,m29_304,m29_306,m29_309,m29_311,m29_313,m29_314u,m29_314i,m29_314r,m29_314g,m29_316,m29_318,m29_320,m29_322,m29_325,m29_326,m29_327,m29_328,m29_331,m29_332,m29_333,m29_335,m29_336,m29_337,m29_338,m29_340,m29_342,m29_344,m29_345,m29_347,m29_349,m29_351,m29_354,m29_357,m29_360,m29_361,m29_362,m29_365,m29_368,m29_370,m29_372,m29_374,m29_376,m29_377,m29_380,m29_382,m29_384,m29_385,m29_388u,m29_388i,m29_388r,m29_388g,m29_390,m29_392,m29_395,m29_396,m29_397u,m29_397i,m29_397r,m29_397g,m29_401,m29_403,m29_406,m29_408,m29_410,m29_411u,m29_411i,m29_411r,m29_411g,m29_413,m29_415,m29_416,m29_418,m29_420,m29_422,m29_425u,m29_425i,m29_425r,m29_425g,m29_427,m29_429,m29_430,m29_432,m29_433,m29_434,m29_437,m29_438,m29_439,m29_440,m29_441u,m29_441i,m29_441r,m29_441g,m29_443,m29_445,m29_448,m29_450,m29_453,m29_455,m29_457,m29_459,m29_460,m29_463,m29_465,m29_468,m29_469u,m29_469i,m29_469r,m29_469g,m29_471,m29_473,m29_475,m29_478,m29_480,m29_483,m29_484,m29_485,m29_488,m29_491,m29_493,m29_495,m29_497,m29_499,m29_500,m29_503,m29_505,m29_506,m29_509,m29_510,m29_511,m29_514,m29_516,m29_517,m29_520u,m29_520i,m29_520r,m29_520g,m29_522,m29_524,m29_526,m29_529u,m29_529i,m29_529r,m29_529g,m29_531,m29_533,m29_534,m29_537u,m29_537i,m29_537r,m29_537g,m29_539,m29_540u,m29_540i,m29_540r,m29_540g,m29_542,m29_543u,m29_543i,m29_543r,m29_543g,m29_547,m29_549,m29_552,m29_553u,m29_553i,m29_553r,m29_553g,m29_557,m29_559,m29_562,m29_564,m29_566,m29_569u,m29_569i,m29_569r,m29_569g,m29_571,m29_573,m29_575,m29_576,m29_577,m29_580,m29_583,m29_584u,m29_584i,m29_584r,m29_584g,m29_586,m29_587u,m29_587i,m29_587r,m29_587g,m29_591,m29_593,m29_596,m29_598,m29_601,m29_603,m29_605,m29_607,m29_608,m29_609,m29_610,m29_612,m29_613,m29_616,m29_618,m29_620,m29_622,m29_625,m29_628,m29_629i,m29_631,m29_634,m29_637,m29_639,m29_642,m29_644,m29_646,m29_649,m29_651,m29_653,m29_656,m29_658,m29_661,m29_663,m29_665,m29_668,m29_670,m29_673,m29_674,m29_675,m29_678,m29_681,m29_684,m29_687,m29_690,m29_692,m29_694,m29_697,m29_698,m29_701,m29_702,nb0,nb1,ou_a,Option.toList_some,Option.toList_none,List.nil_append,List.cons_append]
  refine csW (b:=0) (bf:=bfS st sd fl U) hst h16 (fun i _ => (sg_e _ _ _ _ _).1) hC1 hD1 t13 t14 t15 t9 (fun v d' s2 A2 hC2 hD2 u13 => ?_)
  simp [o19,m29_0,m29_1,m29_2,m29_5u,m29_6,m29_7,m29_8,m29_11,m29_13,m29_14,m29_16,m29_17u,m29_18,m29_19,m29_20,m29_23u,m29_24,m29_27,m29_28,m29_29,m29_32u,m29_34,m29_35,m29_37,m29_40,m29_42,m29_45,m29_46,m29_48,m29_51,m29_53,m29_56,m29_57u,m29_59,m29_60,m29_61,m29_63,m29_64,m29_65u,m29_67,m29_68u,m29_70,m29_71u,m29_75,m29_77,m29_80,m29_81,m29_83,m29_86,m29_89u,m29_89i,m29_89r,m29_89g,m29_91,m29_92,m29_94,m29_95,m29_96,m29_97u,m29_97i,m29_97r,m29_97g,m29_99,m29_100u,m29_100i,m29_100r,m29_100g,m29_104,m29_106,m29_109,m29_111,m29_113,m29_114,m29_116,m29_117,m29_118,m29_119,m29_120,m29_123,m29_126,m29_127,m29_128,m29_131,m29_134,m29_136,m29_139,m29_141,m29_144,m29_145,m29_146,m29_149,m29_152,m29_154,m29_157,m29_160,m29_161,m29_162,m29_163i,m29_167,m29_168,m29_168p,m29_169,m29_172,m29_174,m29_177,m29_180,m29_181,m29_183,m29_186,m29_186p,m29_187,m29_189,m29_190u,m29_190i,m29_190r,m29_190g,m29_192,m29_195,m29_197,m29_198,m29_201u,m29_201i,m29_201r,m29_201g,m29_203,m29_205,m29_207,m29_208,m29_210,m29_212,m29_213,m29_214u,m29_214i,m29_214r,m29_214g,m29_216,m29_218,m29_221,m29_222i,m29_224,m29_226,m29_229,m29_232,m29_235i,m29_237,m29_238,m29_240,m29_241,m29_242,m29_244,m29_245,m29_246u,m29_246i,m29_246r,m29_246g,m29_248,m29_250,m29_252,m29_253,m29_256,m29_259,m29_262,m29_264,m29_265i,m29_267,m29_269,m29_271,m29_272,m29_273,m29_274,m29_277,m29_278,m29_281,m29_282u,m29_282i,m29_282r,m29_282g,m29_284,m29_286,m29_288,m29_291,m29_294,m29_295,m29_296,m29_297,m29_299,m29_300u,m29_300i,m29_300r,m29_300g,m29_304,m29_306,m29_309,m29_311,m29_313,m29_314u,m29_314i,m29_314r,m29_314g,m29_316,m29_318,m29_320,m29_322,m29_325,m29_326,m29_327,m29_328,m29_331,m29_332,m29_333,m29_335,m29_336,m29_337,m29_338,m29_340,m29_342,m29_344,m29_345,m29_347,m29_349,m29_351,m29_354,m29_357,m29_360,m29_361,m29_362,m29_365,m29_368,m29_370,m29_372,m29_374,m29_376,m29_377,m29_380,m29_382,m29_384,m29_385,m29_388u,m29_388i,m29_388r,m29_388g,m29_390,m29_392,m29_395,m29_396,m29_397u,m29_397i,m29_397r,m29_397g,m29_401,m29_403,m29_406,m29_408,m29_410,m29_411u,m29_411i,m29_411r,m29_411g,m29_413,m29_415,m29_416,m29_418,m29_420,m29_422,m29_425u,m29_425i,m29_425r,m29_425g,m29_427,m29_429,m29_430,m29_432,m29_433,m29_434,m29_437,m29_438,m29_439,m29_440,m29_441u,m29_441i,m29_441r,m29_441g,m29_443,m29_445,m29_448,m29_450,m29_453,m29_455,m29_457,m29_459,m29_460,m29_463,m29_465,m29_468,m29_469u,m29_469i,m29_469r,m29_469g,m29_471,m29_473,m29_475,m29_478,m29_480,m29_483,m29_484,m29_485,m29_488,m29_491,m29_493,m29_495,m29_497,m29_499,m29_500,m29_503,m29_505,m29_506,m29_509,m29_510,m29_511,m29_514,m29_516,m29_517,m29_520u,m29_520i,m29_520r,m29_520g,m29_522,m29_524,m29_526,m29_529u,m29_529i,m29_529r,m29_529g,m29_531,m29_533,m29_534,m29_537u,m29_537i,m29_537r,m29_537g,m29_539,m29_540u,m29_540i,m29_540r,m29_540g,m29_542,m29_543u,m29_543i,m29_543r,m29_543g,m29_547,m29_549,m29_552,m29_553u,m29_553i,m29_553r,m29_553g,m29_557,m29_559,m29_562,m29_564,m29_566,m29_569u,m29_569i,m29_569r,m29_569g,m29_571,m29_573,m29_575,m29_576,m29_577,m29_580,m29_583,m29_584u,m29_584i,m29_584r,m29_584g,m29_586,m29_587u,m29_587i,m29_587r,m29_587g,m29_591,m29_593,m29_596,m29_598,m29_601,m29_603,m29_605,m29_607,m29_608,m29_609,m29_610,m29_612,m29_613,m29_616,m29_618,m29_620,m29_622,m29_625,m29_628,m29_629i,m29_631,m29_634,m29_637,m29_639,m29_642,m29_644,m29_646,m29_649,m29_651,m29_653,m29_656,m29_658,m29_661,m29_663,m29_665,m29_668,m29_670,m29_673,m29_674,m29_675,m29_678,m29_681,m29_684,m29_687,m29_690,m29_692,m29_694,m29_697,m29_698,m29_701,m29_702,nb0,nb1,ou_a,Option.toList_some,Option.toList_none,List.nil_append,List.cons_append]
  refine sgC (d0:=d) (pr:=pr) (sv:=sv) hst h16 w8 dle hD.sv hbw hC2.ln hD2.a7 hD2.a8 (fun l20 l21 l22 l23 p20 p21 p22 p23 => ?_) len 0 _ _ _ _ (by omega) o20 o21 o22 o23
  simp [nI_add,m29_0,m29_1,m29_2,m29_5u,m29_6,m29_7,m29_8,m29_11,m29_13,m29_14,m29_16,m29_17u,m29_18,m29_19,m29_20,m29_23u,m29_24,m29_27,m29_28,m29_29,m29_32u,m29_34,m29_35,m29_37,m29_40,m29_42,m29_45,m29_46,m29_48,m29_51,m29_53,m29_56,m29_57u,m29_59,m29_60,m29_61,m29_63,m29_64,m29_65u,m29_67,m29_68u,m29_70,m29_71u,m29_75,m29_77,m29_80,m29_81,m29_83,m29_86,m29_89u,m29_89i,m29_89r,m29_89g,m29_91,m29_92,m29_94,m29_95,m29_96,m29_97u,m29_97i,m29_97r,m29_97g,m29_99,m29_100u,m29_100i,m29_100r,m29_100g,m29_104,m29_106,m29_109,m29_111,m29_113,m29_114,m29_116,m29_117,m29_118,m29_119,m29_120,m29_123,m29_126,m29_127,m29_128,m29_131,m29_134,m29_136,m29_139,m29_141,m29_144,m29_145,m29_146,m29_149,m29_152,m29_154,m29_157,m29_160,m29_161,m29_162,m29_163i,m29_167,m29_168,m29_168p,m29_169,m29_172,m29_174,m29_177,m29_180,m29_181,m29_183,m29_186,m29_186p,m29_187,m29_189,m29_190u,m29_190i,m29_190r,m29_190g,m29_192,m29_195,m29_197,m29_198,m29_201u,m29_201i,m29_201r,m29_201g,m29_203,m29_205,m29_207,m29_208,m29_210,m29_212,m29_213,m29_214u,m29_214i,m29_214r,m29_214g,m29_216,m29_218,m29_221,m29_222i,m29_224,m29_226,m29_229,m29_232,m29_235i,m29_237,m29_238,m29_240,m29_241,m29_242,m29_244,m29_245,m29_246u,m29_246i,m29_246r,m29_246g,m29_248,m29_250,m29_252,m29_253,m29_256,m29_259,m29_262,m29_264,m29_265i,m29_267,m29_269,m29_271,m29_272,m29_273,m29_274,m29_277,m29_278,m29_281,m29_282u,m29_282i,m29_282r,m29_282g,m29_284,m29_286,m29_288,m29_291,m29_294,m29_295,m29_296,m29_297,m29_299,m29_300u,m29_300i,m29_300r,m29_300g,m29_304,m29_306,m29_309,m29_311,m29_313,m29_314u,m29_314i,m29_314r,m29_314g,m29_316,m29_318,m29_320,m29_322,m29_325,m29_326,m29_327,m29_328,m29_331,m29_332,m29_333,m29_335,m29_336,m29_337,m29_338,m29_340,m29_342,m29_344,m29_345,m29_347,m29_349,m29_351,m29_354,m29_357,m29_360,m29_361,m29_362,m29_365,m29_368,m29_370,m29_372,m29_374,m29_376,m29_377,m29_380,m29_382,m29_384,m29_385,m29_388u,m29_388i,m29_388r,m29_388g,m29_390,m29_392,m29_395,m29_396,m29_397u,m29_397i,m29_397r,m29_397g,m29_401,m29_403,m29_406,m29_408,m29_410,m29_411u,m29_411i,m29_411r,m29_411g,m29_413,m29_415,m29_416,m29_418,m29_420,m29_422,m29_425u,m29_425i,m29_425r,m29_425g,m29_427,m29_429,m29_430,m29_432,m29_433,m29_434,m29_437,m29_438,m29_439,m29_440,m29_441u,m29_441i,m29_441r,m29_441g,m29_443,m29_445,m29_448,m29_450,m29_453,m29_455,m29_457,m29_459,m29_460,m29_463,m29_465,m29_468,m29_469u,m29_469i,m29_469r,m29_469g,m29_471,m29_473,m29_475,m29_478,m29_480,m29_483,m29_484,m29_485,m29_488,m29_491,m29_493,m29_495,m29_497,m29_499,m29_500,m29_503,m29_505,m29_506,m29_509,m29_510,m29_514,m29_516,m29_517,m29_520u,m29_520i,m29_520r,m29_520g,m29_522,m29_524,m29_526,m29_529u,m29_529i,m29_529r,m29_529g,m29_531,m29_533,m29_534,m29_537u,m29_537i,m29_537r,m29_537g,m29_539,m29_540u,m29_540i,m29_540r,m29_540g,m29_542,m29_543u,m29_543i,m29_543r,m29_543g,m29_547,m29_549,m29_552,m29_553u,m29_553i,m29_553r,m29_553g,m29_557,m29_559,m29_562,m29_564,m29_566,m29_569u,m29_569i,m29_569r,m29_569g,m29_571,m29_573,m29_575,m29_576,m29_577,m29_580,m29_583,m29_584u,m29_584i,m29_584r,m29_584g,m29_586,m29_587u,m29_587i,m29_587r,m29_587g,m29_591,m29_593,m29_596,m29_598,m29_601,m29_603,m29_605,m29_607,m29_608,m29_609,m29_610,m29_612,m29_613,m29_616,m29_618,m29_620,m29_622,m29_625,m29_628,m29_629i,m29_631,m29_634,m29_637,m29_639,m29_642,m29_644,m29_646,m29_649,m29_651,m29_653,m29_656,m29_658,m29_661,m29_663,m29_665,m29_668,m29_670,m29_673,m29_674,m29_675,m29_678,m29_681,m29_684,m29_687,m29_690,m29_692,m29_694,m29_697,m29_698,m29_701,m29_702,nb0,nb1,ou_a,Option.toList_some,Option.toList_none,List.nil_append,List.cons_append]
  refine haW hC2.ln hD2.a7 hD2.a8 (by omega) (by omega) ?_
  have he : hso (bvl (prF pr st len (d + w)) (svF pr sv (bfS st sd fl U) st len (d + w))) st (st + len) 256 0 17 = hso (bvl pr sv) st (st + len) 256 0 17:=hso_ext (fun o ho => by
    have n1 : svF pr sv (bfS st sd fl U) st len (d + w) o = sv o:=by unfold svF; rw [if_neg (fun q => ho ⟨q.2.1,q.2.2.1⟩)]
    have n2 : prF pr st len (d + w) o = pr o:=by unfold prF; rw [show decide (st≤o∧o < st + len∧o < d + w) = false from decide_eq_false (fun q => ho ⟨q.1,q.2.1⟩),Bool.or_false]
    unfold bvl
    rw [n1,n2]) 256 0 17
  rw [he]
  simp [cmp_e,m29_0,m29_1,m29_2,m29_5u,m29_6,m29_7,m29_8,m29_11,m29_13,m29_14,m29_16,m29_17u,m29_18,m29_19,m29_20,m29_23u,m29_24,m29_27,m29_28,m29_29,m29_32u,m29_34,m29_35,m29_37,m29_40,m29_42,m29_45,m29_46,m29_48,m29_51,m29_53,m29_56,m29_57u,m29_59,m29_60,m29_61,m29_63,m29_64,m29_65u,m29_67,m29_68u,m29_70,m29_71u,m29_75,m29_77,m29_80,m29_81,m29_83,m29_86,m29_89u,m29_89i,m29_89r,m29_89g,m29_91,m29_92,m29_94,m29_95,m29_96,m29_97u,m29_97i,m29_97r,m29_97g,m29_99,m29_100u,m29_100i,m29_100r,m29_100g,m29_104,m29_106,m29_109,m29_111,m29_113,m29_114,m29_116,m29_117,m29_118,m29_119,m29_120,m29_123,m29_126,m29_127,m29_128,m29_131,m29_134,m29_136,m29_139,m29_141,m29_144,m29_145,m29_146,m29_149,m29_152,m29_154,m29_157,m29_160,m29_161,m29_162,m29_163i,m29_167,m29_168,m29_168p,m29_169,m29_172,m29_174,m29_177,m29_180,m29_181,m29_183,m29_186,m29_186p,m29_187,m29_189,m29_190u,m29_190i,m29_190r,m29_190g,m29_192,m29_195,m29_197,m29_198,m29_201u,m29_201i,m29_201r,m29_201g,m29_203,m29_205,m29_207,m29_208,m29_210,m29_212,m29_213,m29_214u,m29_214i,m29_214r,m29_214g,m29_216,m29_218,m29_221,m29_222i,m29_224,m29_226,m29_229,m29_232,m29_235i,m29_237,m29_238,m29_240,m29_241,m29_242,m29_244,m29_245,m29_246u,m29_246i,m29_246r,m29_246g,m29_248,m29_250,m29_252,m29_253,m29_256,m29_259,m29_262,m29_264,m29_265i,m29_267,m29_269,m29_271,m29_272,m29_273,m29_274,m29_277,m29_278,m29_281,m29_282u,m29_282i,m29_282r,m29_282g,m29_284,m29_286,m29_288,m29_291,m29_294,m29_295,m29_296,m29_297,m29_299,m29_300u,m29_300i,m29_300r,m29_300g,m29_304,m29_306,m29_309,m29_311,m29_313,m29_314u,m29_314i,m29_314r,m29_314g,m29_316,m29_318,m29_320,m29_322,m29_325,m29_326,m29_327,m29_328,m29_331,m29_332,m29_333,m29_335,m29_336,m29_337,m29_338,m29_340,m29_342,m29_344,m29_345,m29_347,m29_349,m29_351,m29_354,m29_357,m29_360,m29_361,m29_362,m29_365,m29_368,m29_370,m29_372,m29_374,m29_376,m29_377,m29_380,m29_382,m29_384,m29_385,m29_388u,m29_388i,m29_388r,m29_388g,m29_390,m29_392,m29_395,m29_396,m29_397u,m29_397i,m29_397r,m29_397g,m29_401,m29_403,m29_406,m29_408,m29_410,m29_411u,m29_411i,m29_411r,m29_411g,m29_413,m29_415,m29_416,m29_418,m29_420,m29_422,m29_425u,m29_425i,m29_425r,m29_425g,m29_427,m29_429,m29_430,m29_432,m29_433,m29_434,m29_437,m29_438,m29_439,m29_440,m29_441u,m29_441i,m29_441r,m29_441g,m29_443,m29_445,m29_448,m29_450,m29_453,m29_455,m29_457,m29_459,m29_460,m29_463,m29_465,m29_468,m29_469u,m29_469i,m29_469r,m29_469g,m29_471,m29_473,m29_475,m29_478,m29_480,m29_483,m29_484,m29_485,m29_488,m29_491,m29_493,m29_495,m29_497,m29_499,m29_500,m29_503,m29_505,m29_506,m29_509,m29_510,m29_514,m29_516,m29_517,m29_520u,m29_520i,m29_520r,m29_520g,m29_522,m29_524,m29_526,m29_529u,m29_529i,m29_529r,m29_529g,m29_531,m29_533,m29_534,m29_537u,m29_537i,m29_537r,m29_537g,m29_539,m29_540u,m29_540i,m29_540r,m29_540g,m29_542,m29_543u,m29_543i,m29_543r,m29_543g,m29_547,m29_549,m29_552,m29_553u,m29_553i,m29_553r,m29_553g,m29_557,m29_559,m29_562,m29_564,m29_566,m29_569u,m29_569i,m29_569r,m29_569g,m29_571,m29_573,m29_575,m29_576,m29_577,m29_580,m29_583,m29_584u,m29_584i,m29_584r,m29_584g,m29_586,m29_587u,m29_587i,m29_587r,m29_587g,m29_591,m29_593,m29_596,m29_598,m29_601,m29_603,m29_605,m29_607,m29_608,m29_609,m29_610,m29_612,m29_613,m29_616,m29_618,m29_620,m29_622,m29_625,m29_628,m29_629i,m29_631,m29_634,m29_637,m29_639,m29_642,m29_644,m29_646,m29_649,m29_651,m29_653,m29_656,m29_658,m29_661,m29_663,m29_665,m29_668,m29_670,m29_673,m29_674,m29_675,m29_678,m29_681,m29_684,m29_687,m29_690,m29_692,m29_694,m29_697,m29_698,m29_701,m29_702,nb0,nb1,ou_a,Option.toList_some,Option.toList_none,List.nil_append,List.cons_append]
  exact hq d' _ _ bw _ _ _ _ _ _ _ s2 A2 hC2 hD2 u13 (okS_n _) (okS_n _) p20 p21 p22 p23
set_option maxRecDepth 1000000 in
set_option maxHeartbeats 20000000 in
theorem sgF {sd : Int32} {U st len : Nat} (hU : U < 2147483648) (hs5 : st≤255) (hst : st + len≤256) (h16 : len≤16) (hC : SC w ns en N sb ss sl lab dl om s A) (hD : DY ns N d lab (SW sb ss sl) pr sv s A) (s13 : s 13 = 0) (o10 : okS l10) (o13 : okS l13) (o14 : okP l14 l15) (o16 : okP l16 l17) (o18 : okS l18) (o19 : okS l19) (o20 : okS l20) (o21 : okS l21) (o22 : okS l22) (o23 : okS l23) (hq : ∀ d' pr' sv' l9 l10 l11 l12 l13 l14 l15 l16 l17 l18 l19 l20 l21 l22 l23 s' A',SC w ns en N sb ss sl lab dl om s' A'→DY ns N d' lab (SW sb ss sl) pr' sv' s' A'→s' 13 = 0→okS l9→okS l10→okS l11→okS l12→okS l13→okP l14 l15→okP l16 l17→okS l18→okS l19→okS l20→okS l21→okS l22→okS l23→M29 165 [.val (.ref 0),l1,l2,.val (.int (sd)),.val (.ref 1),.val (.int (nI w)),l6,l7,l8,l9,l10,l11,l12,l13,l14,l15,l16,l17,l18,l19,l20,l21,l22,l23] [] (put 1 [((FieldType.array .int,vs.map Value.int) : FieldType × List Value)] s' A' []) Q) : M29 267 [.val (.ref 0),l1,l2,.val (.int (sd)),.val (.ref 1),.val (.int (nI w)),l6,l7,l8,.val (.int (nI U)),l10,.val (.int (nI st)),.val (.int (nI len)),l13,l14,l15,l16,l17,l18,l19,l20,l21,l22,l23] [] (put 1 [((FieldType.array .int,vs.map Value.int) : FieldType × List Value)] s A []) Q:=by
  have e9 : (nI U >>> ((9 : Int32) &&& 31)) &&& 3 = nI (am 2 (nI U >>> ((9 : Int32) &&& 31))):=and_am (k:=2) (by decide) _
  have b9:=am_lt 2 (nI U >>> ((9 : Int32) &&& 31))
  have fin : ∀ fl : Int32,M29 282 [.val (.ref 0),l1,l2,.val (.int (sd)),.val (.ref 1),.val (.int (nI w)),l6,l7,l8,.val (.int (nI U)),l10,.val (.int (nI st)),.val (.int (nI len)),l13,l14,l15,l16,l17,l18,l19,l20,l21,l22,l23] [.int fl] (put 1 [((FieldType.array .int,vs.map Value.int) : FieldType × List Value)] s A []) Q:=by
    intro fl
    simp [o13,m29_282u,m29_282i,m29_282r,m29_282g,nb0,nb1,ou_a,Option.toList_some,Option.toList_none,List.nil_append,List.cons_append]
    refine sgS (sd:=sd) (fl:=fl) (U:=U) (st:=st) (len:=len) (d:=d) (pr:=pr) (sv:=sv) hs5 hst h16 hC hD s13 o14 o16 o18 o19 o20 o21 o22 o23 (fun d' pr' sv' bw h0 l18 l19 l20 l21 l22 l23 s' A' k1 k2 k3 p18 p19 p20 p21 p22 p23 => ?_)
    simp [m29_511,nb0,nb1,ou_a,Option.toList_some,Option.toList_none,List.nil_append,List.cons_append]
    exact hq d' pr' sv' _ _ _ _ _ _ _ _ _ _ _ _ _ _ _ s' A' k1 k2 k3 (okS_n _) o10 (okS_n _) (okS_n _) (okS_i _) (okP_l _) (okP_l _) p18 p19 p20 p21 p22 p23
  simp [m29_267,m29_269,m29_271,m29_272,m29_273,nb0,nb1,ou_a,Option.toList_some,Option.toList_none,List.nil_append,List.cons_append]
  rw [e9]
  generalize am 2 (nI U >>> ((9 : Int32) &&& 31)) = k at *
  by_cases z : k = 0
  · have z1 : (nI k = 0) = True:=eT (c:=0) z
    simp [z1,m29_274,m29_277,m29_278,m29_281,nb0,nb1,ou_a,Option.toList_some,Option.toList_none,List.nil_append,List.cons_append]
    exact fin 1
  · have z1 : (nI k = 0) = False:=eF (c:=0) z (by omega) (by decide)
    simp [z1,m29_274,m29_277,m29_278,m29_281,nb0,nb1,ou_a,Option.toList_some,Option.toList_none,List.nil_append,List.cons_append]
    exact fin 0
theorem sgL {sd : Int32} {U st : Nat} (hU : U < 2147483648) (hst : st≤255) (hC : SC w ns en N sb ss sl lab dl om s A) (hD : DY ns N d lab (SW sb ss sl) pr sv s A) (s13 : s 13 = 0) (o10 : okS l10) (o12 : okS l12) (o13 : okS l13) (o14 : okP l14 l15) (o16 : okP l16 l17) (o18 : okS l18) (o19 : okS l19) (o20 : okS l20) (o21 : okS l21) (o22 : okS l22) (o23 : okS l23) (hq : ∀ d' pr' sv' l9 l10 l11 l12 l13 l14 l15 l16 l17 l18 l19 l20 l21 l22 l23 s' A',SC w ns en N sb ss sl lab dl om s' A'→DY ns N d' lab (SW sb ss sl) pr' sv' s' A'→s' 13 = 0→okS l9→okS l10→okS l11→okS l12→okS l13→okP l14 l15→okP l16 l17→okS l18→okS l19→okS l20→okS l21→okS l22→okS l23→M29 165 [.val (.ref 0),l1,l2,.val (.int (sd)),.val (.ref 1),.val (.int (nI w)),l6,l7,l8,l9,l10,l11,l12,l13,l14,l15,l16,l17,l18,l19,l20,l21,l22,l23] [] (put 1 [((FieldType.array .int,vs.map Value.int) : FieldType × List Value)] s' A' []) Q) : M29 237 [.val (.ref 0),l1,l2,.val (.int (sd)),.val (.ref 1),.val (.int (nI w)),l6,l7,l8,.val (.int (nI U)),l10,.val (.int (nI st)),l12,l13,l14,l15,l16,l17,l18,l19,l20,l21,l22,l23] [] (put 1 [((FieldType.array .int,vs.map Value.int) : FieldType × List Value)] s A []) Q:=by
  have e5 : (nI U >>> ((5 : Int32) &&& 31)) &&& 15 = nI (am 4 (nI U >>> ((5 : Int32) &&& 31))):=and_am (k:=4) (by decide) _
  have b5:=am_lt 4 (nI U >>> ((5 : Int32) &&& 31))
  simp [m29_237,m29_238,m29_240,m29_241,m29_242,m29_244,nb0,nb1,ou_a,Option.toList_some,Option.toList_none,List.nil_append,List.cons_append]
  rw [e5]
  generalize am 4 (nI U >>> ((5 : Int32) &&& 31)) = k at *
  have e1 : (1 : Int32) + nI k = nI (1 + k):=nI_add 1 k
  by_cases z : 256 < st + (1 + k)
  · have z1 : (256 < nI (st + (1 + k))) = True:=lT (a:=256) z (by omega)
    have e2 : 256 - nI st = nI (256 - st):=nI_sub (a:=256) (by omega)
    simp [e1,nI_add,z1,e2,o12,m29_245,m29_246u,m29_246i,m29_246r,m29_246g,m29_248,m29_250,m29_252,m29_253,m29_256,m29_259,m29_262,m29_264,m29_265i,nb0,nb1,ou_a,Option.toList_some,Option.toList_none,List.nil_append,List.cons_append]
    exact sgF (sd:=sd) (U:=U) (st:=st) (len:=256 - st) (d:=d) (pr:=pr) (sv:=sv) hU hst (by omega) (by omega) hC hD s13 o10 o13 o14 o16 o18 o19 o20 o21 o22 o23 hq
  · have z1 : (256 < nI (st + (1 + k))) = False:=lF (a:=256) (by omega) (by omega)
    simp [e1,nI_add,z1,o12,m29_245,m29_246u,m29_246i,m29_246r,m29_246g,m29_248,m29_250,m29_252,m29_253,m29_256,m29_259,m29_262,m29_264,m29_265i,nb0,nb1,ou_a,Option.toList_some,Option.toList_none,List.nil_append,List.cons_append]
    exact sgF (sd:=sd) (U:=U) (st:=st) (len:=1 + k) (d:=d) (pr:=pr) (sv:=sv) hU hst (by omega) (by omega) hC hD s13 o10 o13 o14 o16 o18 o19 o20 o21 o22 o23 hq
theorem sgU {sd : Int32} {U : Nat} (hU : U < 2147483648) (hC : SC w ns en N sb ss sl lab dl om s A) (hD : DY ns N d lab (SW sb ss sl) pr sv s A) (s13 : s 13 = 0) (o10 : okS l10) (o11 : okS l11) (o12 : okS l12) (o13 : okS l13) (o14 : okP l14 l15) (o16 : okP l16 l17) (o18 : okS l18) (o19 : okS l19) (o20 : okS l20) (o21 : okS l21) (o22 : okS l22) (o23 : okS l23) (hq : ∀ d' pr' sv' l9 l10 l11 l12 l13 l14 l15 l16 l17 l18 l19 l20 l21 l22 l23 s' A',SC w ns en N sb ss sl lab dl om s' A'→DY ns N d' lab (SW sb ss sl) pr' sv' s' A'→s' 13 = 0→okS l9→okS l10→okS l11→okS l12→okS l13→okP l14 l15→okP l16 l17→okS l18→okS l19→okS l20→okS l21→okS l22→okS l23→M29 165 [.val (.ref 0),l1,l2,.val (.int (sd)),.val (.ref 1),.val (.int (nI w)),l6,l7,l8,l9,l10,l11,l12,l13,l14,l15,l16,l17,l18,l19,l20,l21,l22,l23] [] (put 1 [((FieldType.array .int,vs.map Value.int) : FieldType × List Value)] s' A' []) Q) : M29 195 [.val (.ref 0),l1,l2,.val (.int (sd)),.val (.ref 1),.val (.int (nI w)),l6,l7,l8,.val (.int (nI U)),l10,l11,l12,l13,l14,l15,l16,l17,l18,l19,l20,l21,l22,l23] [] (put 1 [((FieldType.array .int,vs.map Value.int) : FieldType × List Value)] s A []) Q:=by
  have s7:=hD.s7
  have dle:=hD.dl
  have em : nI U % 24 = nI (U % 24):=nI_mod (c:=24) hU (by decide)
  have rl : U % 24 < 24:=Nat.mod_lt _ (by decide)
  have e8 : (nI d - 8).toInt = (d : Int) - 8:=by
    have e1 : (nI d).toInt = d:=nI_int (by omega)
    have i8 : (8 : Int32).toInt = 8:=rfl
    have:=sub_i (a:=nI d) (b:=8) (by rw [e1,i8]; omega) (by rw [e1,i8]; omega)
    rw [this,e1,i8]
  have ex : (nI d - 8 + nI (U % 24)).toInt = (d : Int) - 8 + (U % 24 : Nat):=by
    have e1 : (nI (U % 24)).toInt = (U % 24 : Nat):=nI_int (by omega)
    have:=add_i (a:=nI d - 8) (b:=nI (U % 24)) (by rw [e8,e1]; omega) (by rw [e8,e1]; omega)
    rw [this,e8,e1]
  generalize U % 24 = r at *
  by_cases z : d + r < 8
  · have z1 : (nI d - 8 + nI r < 0) = True:=eq_true (by rw [lt_i,ex,i_0]; omega)
    simp [st0 s7,em,z1,o10,o11,m29_195,m29_197,m29_198,m29_201u,m29_201i,m29_201r,m29_201g,m29_203,m29_205,m29_207,m29_208,m29_210,m29_212,m29_213,m29_214u,m29_214i,m29_214r,m29_214g,m29_216,m29_218,m29_221,m29_222i,m29_224,m29_226,m29_229,m29_232,m29_235i,nb0,nb1,ou_a,Option.toList_some,Option.toList_none,List.nil_append,List.cons_append]
    exact sgL (sd:=sd) (U:=U) (st:=0) (d:=d) (pr:=pr) (sv:=sv) hU (by omega) hC hD s13 (okS_n _) o12 o13 o14 o16 o18 o19 o20 o21 o22 o23 hq
  · have z1 : (nI d - 8 + nI r < 0) = False:=eq_false (by rw [lt_i,ex,i_0]; omega)
    have e2 : nI d - 8 + nI r = nI (d + r - 8):=Int32.toInt_inj.mp (by rw [ex,nI_int (by omega)]; omega)
    rw [e2] at z1
    by_cases y : 255 < d + r - 8
    · have y1 : (255 < nI (d + r - 8)) = True:=lT (a:=255) y (by omega)
      simp [st0 s7,em,e2,z1,y1,o10,o11,m29_195,m29_197,m29_198,m29_201u,m29_201i,m29_201r,m29_201g,m29_203,m29_205,m29_207,m29_208,m29_210,m29_212,m29_213,m29_214u,m29_214i,m29_214r,m29_214g,m29_216,m29_218,m29_221,m29_222i,m29_224,m29_226,m29_229,m29_232,m29_235i,nb0,nb1,ou_a,Option.toList_some,Option.toList_none,List.nil_append,List.cons_append]
      exact sgL (sd:=sd) (U:=U) (st:=255) (d:=d) (pr:=pr) (sv:=sv) hU (by omega) hC hD s13 (okS_n _) o12 o13 o14 o16 o18 o19 o20 o21 o22 o23 hq
    · have y1 : (255 < nI (d + r - 8)) = False:=lF (a:=255) (by omega) (by omega)
      simp [st0 s7,em,e2,z1,y1,o10,o11,m29_195,m29_197,m29_198,m29_201u,m29_201i,m29_201r,m29_201g,m29_203,m29_205,m29_207,m29_208,m29_210,m29_212,m29_213,m29_214u,m29_214i,m29_214r,m29_214g,m29_216,m29_218,m29_221,m29_222i,m29_224,m29_226,m29_229,m29_232,m29_235i,nb0,nb1,ou_a,Option.toList_some,Option.toList_none,List.nil_append,List.cons_append]
      exact sgL (sd:=sd) (U:=U) (st:=d + r - 8) (d:=d) (pr:=pr) (sv:=sv) hU (by omega) hC hD s13 (okS_n _) o12 o13 o14 o16 o18 o19 o20 o21 o22 o23 hq
abbrev LM (ns : Nat) (sb ss sl sv : Nat→Nat) (p k : Nat) : List (Nat × Nat):=ms (MP (SW sb ss sl) sv p) p k (mtc ns (SW sb ss sl) sv p)
set_option maxRecDepth 1000000 in
set_option maxHeartbeats 20000000 in
theorem fiJ {p k l : Nat} (hC : SC w ns en N sb ss sl lab dl om s A) (hD : DY ns N d lab (SW sb ss sl) pr sv s A) (hk : k < ns) (hp : p < d) (hl : l = sl k) (hlp : l≤p + 1)
    (h1 : (∀ j,j < l→sv (p + 1 - l + j) = sb (ss k + j))→M29 637 [.val (.ref 0),l1,l2,l3,.val (.ref 1),l5,l6,l7,l8,.val (.int (nI d)),l10,l11,l12,.val (.int (nI p)),.val (.int (nI k)),.val (.int (nI l)),.val (.int 1),.val (.int (nI l)),l18,l19,l20,l21,l22,l23] [] (put 1 [((FieldType.array .int,vs.map Value.int) : FieldType × List Value)] s A []) Q) (h0 : (¬ ∀ j,j < l→sv (p + 1 - l + j) = sb (ss k + j))→∀ j,M29 637 [.val (.ref 0),l1,l2,l3,.val (.ref 1),l5,l6,l7,l8,.val (.int (nI d)),l10,l11,l12,.val (.int (nI p)),.val (.int (nI k)),.val (.int (nI l)),.val (.int 0),.val (.int (nI j)),l18,l19,l20,l21,l22,l23] [] (put 1 [((FieldType.array .int,vs.map Value.int) : FieldType × List Value)] s A []) Q) : ∀ (r j : Nat),j + r = l→(∀ j',j' < j→sv (p + 1 - l + j') = sb (ss k + j'))→M29 589 [.val (.ref 0),l1,l2,l3,.val (.ref 1),l5,l6,l7,l8,.val (.int (nI d)),l10,l11,l12,.val (.int (nI p)),.val (.int (nI k)),.val (.int (nI l)),.val (.int 1),.val (.int (nI j)),l18,l19,l20,l21,l22,l23] [] (put 1 [((FieldType.array .int,vs.map Value.int) : FieldType × List Value)] s A []) Q:=by
  have dle:=hD.dl
  have ll:=hC.ll k hk
  have e32:=hC.e32
  have n8:=hC.n8
  have s2:=hC.s2
  intro r
  induction r with
  | zero =>
    intro j e ha
    obtain rfl : j = l:=by omega
    have c1 : (nI j < nI j) = False:=lF (by omega) (by omega)
    rw [m29_589]
    simp [c1,m29_0,m29_1,m29_2,m29_5u,m29_6,m29_7,m29_8,m29_11,m29_13,m29_14,m29_16,m29_17u,m29_18,m29_19,m29_20,m29_23u,m29_24,m29_27,m29_28,m29_29,m29_32u,m29_34,m29_35,m29_37,m29_40,m29_42,m29_45,m29_46,m29_48,m29_51,m29_53,m29_56,m29_57u,m29_59,m29_60,m29_61,m29_63,m29_64,m29_65u,m29_67,m29_68u,m29_70,m29_71u,m29_75,m29_77,m29_80,m29_81,m29_83,m29_86,m29_89u,m29_89i,m29_89r,m29_89g,m29_91,m29_92,m29_94,m29_95,m29_96,m29_97u,m29_97i,m29_97r,m29_97g,m29_99,m29_100u,m29_100i,m29_100r,m29_100g,m29_104,m29_106,m29_109,m29_111,m29_113,m29_114,m29_116,m29_117,m29_118,m29_119,m29_120,m29_123,m29_126,m29_127,m29_128,m29_131,m29_134,m29_136,m29_139,m29_141,m29_144,m29_145,m29_146,m29_149,m29_152,m29_154,m29_157,m29_160,m29_161,m29_162,m29_163i,m29_167,m29_168,m29_168p,m29_169,m29_172,m29_174,m29_177,m29_180,m29_181,m29_183,m29_186,m29_186p,m29_187,m29_189,m29_190u,m29_190i,m29_190r,m29_190g,m29_192,m29_195,m29_197,m29_198,m29_201u,m29_201i,m29_201r,m29_201g,m29_203,m29_205,m29_207,m29_208,m29_210,m29_212,m29_213,m29_214u,m29_214i,m29_214r,m29_214g,m29_216,m29_218,m29_221,m29_222i,m29_224,m29_226,m29_229,m29_232,m29_235i,m29_237,m29_238,m29_240,m29_241,m29_242,m29_244,m29_245,m29_246u,m29_246i,m29_246r,m29_246g,m29_248,m29_250,m29_252,m29_253,m29_256,m29_259,m29_262,m29_264,m29_265i,m29_267,m29_269,m29_271,m29_272,m29_273,m29_274,m29_277,m29_278,m29_281,m29_282u,m29_282i,m29_282r,m29_282g,m29_284,m29_286,m29_288,m29_291,m29_294,m29_295,m29_296,m29_297,m29_299,m29_300u,m29_300i,m29_300r,m29_300g,m29_304,m29_306,m29_309,m29_311,m29_313,m29_314u,m29_314i,m29_314r,m29_314g,m29_316,m29_318,m29_320,m29_322,m29_325,m29_326,m29_327,m29_328,m29_331,m29_332,m29_333,m29_335,m29_336,m29_337,m29_338,m29_340,m29_342,m29_344,m29_345,m29_347,m29_349,m29_351,m29_354,m29_357,m29_360,m29_361,m29_362,m29_365,m29_368,m29_370,m29_372,m29_374,m29_376,m29_377,m29_380,m29_382,m29_384,m29_385,m29_388u,m29_388i,m29_388r,m29_388g,m29_390,m29_392,m29_395,m29_396,m29_397u,m29_397i,m29_397r,m29_397g,m29_401,m29_403,m29_406,m29_408,m29_410,m29_411u,m29_411i,m29_411r,m29_411g,m29_413,m29_415,m29_416,m29_418,m29_420,m29_422,m29_425u,m29_425i,m29_425r,m29_425g,m29_427,m29_429,m29_430,m29_432,m29_433,m29_434,m29_437,m29_438,m29_439,m29_440,m29_441u,m29_441i,m29_441r,m29_441g,m29_443,m29_445,m29_448,m29_450,m29_453,m29_455,m29_457,m29_459,m29_460,m29_463,m29_465,m29_468,m29_469u,m29_469i,m29_469r,m29_469g,m29_471,m29_473,m29_475,m29_478,m29_480,m29_483,m29_484,m29_485,m29_488,m29_491,m29_493,m29_495,m29_497,m29_499,m29_500,m29_503,m29_505,m29_506,m29_509,m29_510,m29_511,m29_514,m29_516,m29_517,m29_520u,m29_520i,m29_520r,m29_520g,m29_522,m29_524,m29_526,m29_529u,m29_529i,m29_529r,m29_529g,m29_531,m29_533,m29_534,m29_537u,m29_537i,m29_537r,m29_537g,m29_539,m29_540u,m29_540i,m29_540r,m29_540g,m29_542,m29_543u,m29_543i,m29_543r,m29_543g,m29_547,m29_549,m29_552,m29_553u,m29_553i,m29_553r,m29_553g,m29_557,m29_559,m29_562,m29_564,m29_566,m29_569u,m29_569i,m29_569r,m29_569g,m29_571,m29_573,m29_575,m29_576,m29_577,m29_580,m29_583,m29_584u,m29_584i,m29_584r,m29_584g,m29_586,m29_587u,m29_587i,m29_587r,m29_587g,m29_591,m29_593,m29_596,m29_598,m29_601,m29_603,m29_605,m29_607,m29_608,m29_609,m29_610,m29_612,m29_613,m29_616,m29_618,m29_620,m29_622,m29_625,m29_628,m29_629i,m29_631,m29_634,m29_639,m29_642,m29_644,m29_646,m29_649,m29_651,m29_653,m29_656,m29_658,m29_661,m29_663,m29_665,m29_668,m29_670,m29_673,m29_674,m29_675,m29_678,m29_681,m29_684,m29_687,m29_690,m29_692,m29_694,m29_697,m29_698,m29_701,m29_702,nb0,nb1,ou_a,Option.toList_some,Option.toList_none,List.nil_append,List.cons_append]
    exact h1 ha
  | succ r ih =>
    intro j e ha
    have c1 : (nI j < nI l) = True:=lT (by omega) (by omega)
    have e1 : nI p - nI l + 1 = nI (p + 1 - l):=by
      rw [show nI p - nI l + 1 = nI p + 1 - nI l by rw [Int32.sub_eq_add_neg,Int32.sub_eq_add_neg,Int32.add_assoc,Int32.add_comm (-nI l) 1,← Int32.add_assoc],nI_1]
      exact nI_sub hlp
    have o1 : p + 1 - l + j < d:=by omega
    have v : bvl pr sv (p + 1 - l + j) = nI (sv (p + 1 - l + j)):=by unfold bvl; rw [if_pos (hD.pd _ o1)]
    have vb:=hD.sv (p + 1 - l + j) (by omega)
    have k1 : (nI k < 0) = False:=nnF (by omega)
    have k2 : (nI k < nI ns) = True:=lT hk (by omega)
    have k3 : (nI k < 16) = True:=lT (c:=16) (by omega) (by decide)
    have k4 : (nI j < 0) = False:=nnF (by omega)
    have q2:=in2 hC.ln (i:=k) (by omega)
    have v2:=hC.a2 k hk
    rw [← hl] at v2
    have q1:=in1 hC.ln (i:=k) (by omega)
    have v1:=hC.a1 k hk
    have k5 : (nI (ss k + j) < 0) = False:=nnF (by omega)
    have k6 : (nI (ss k + j) < 64) = True:=lT (c:=64) (by omega) (by decide)
    have q0:=in0 hC.ln (i:=ss k + j) (by omega)
    have v0:=hC.a0 (ss k + j) (by omega)
    have bb:=hC.bb (ss k + j) (by omega)
    rw [m29_589]
    simp [c1,e1,nI_add,m29_0,m29_1,m29_2,m29_5u,m29_6,m29_7,m29_8,m29_11,m29_13,m29_14,m29_16,m29_17u,m29_18,m29_19,m29_20,m29_23u,m29_24,m29_27,m29_28,m29_29,m29_32u,m29_34,m29_35,m29_37,m29_40,m29_42,m29_45,m29_46,m29_48,m29_51,m29_53,m29_56,m29_57u,m29_59,m29_60,m29_61,m29_63,m29_64,m29_65u,m29_67,m29_68u,m29_70,m29_71u,m29_75,m29_77,m29_80,m29_81,m29_83,m29_86,m29_89u,m29_89i,m29_89r,m29_89g,m29_91,m29_92,m29_94,m29_95,m29_96,m29_97u,m29_97i,m29_97r,m29_97g,m29_99,m29_100u,m29_100i,m29_100r,m29_100g,m29_104,m29_106,m29_109,m29_111,m29_113,m29_114,m29_116,m29_117,m29_118,m29_119,m29_120,m29_123,m29_126,m29_127,m29_128,m29_131,m29_134,m29_136,m29_139,m29_141,m29_144,m29_145,m29_146,m29_149,m29_152,m29_154,m29_157,m29_160,m29_161,m29_162,m29_163i,m29_167,m29_168,m29_168p,m29_169,m29_172,m29_174,m29_177,m29_180,m29_181,m29_183,m29_186,m29_186p,m29_187,m29_189,m29_190u,m29_190i,m29_190r,m29_190g,m29_192,m29_195,m29_197,m29_198,m29_201u,m29_201i,m29_201r,m29_201g,m29_203,m29_205,m29_207,m29_208,m29_210,m29_212,m29_213,m29_214u,m29_214i,m29_214r,m29_214g,m29_216,m29_218,m29_221,m29_222i,m29_224,m29_226,m29_229,m29_232,m29_235i,m29_237,m29_238,m29_240,m29_241,m29_242,m29_244,m29_245,m29_246u,m29_246i,m29_246r,m29_246g,m29_248,m29_250,m29_252,m29_253,m29_256,m29_259,m29_262,m29_264,m29_265i,m29_267,m29_269,m29_271,m29_272,m29_273,m29_274,m29_277,m29_278,m29_281,m29_282u,m29_282i,m29_282r,m29_282g,m29_284,m29_286,m29_288,m29_291,m29_294,m29_295,m29_296,m29_297,m29_299,m29_300u,m29_300i,m29_300r,m29_300g,m29_304,m29_306,m29_309,m29_311,m29_313,m29_314u,m29_314i,m29_314r,m29_314g,m29_316,m29_318,m29_320,m29_322,m29_325,m29_326,m29_327,m29_328,m29_331,m29_332,m29_333,m29_335,m29_336,m29_337,m29_338,m29_340,m29_342,m29_344,m29_345,m29_347,m29_349,m29_351,m29_354,m29_357,m29_360,m29_361,m29_362,m29_365,m29_368,m29_370,m29_372,m29_374,m29_376,m29_377,m29_380,m29_382,m29_384,m29_385,m29_388u,m29_388i,m29_388r,m29_388g,m29_390,m29_392,m29_395,m29_396,m29_397u,m29_397i,m29_397r,m29_397g,m29_401,m29_403,m29_406,m29_408,m29_410,m29_411u,m29_411i,m29_411r,m29_411g,m29_413,m29_415,m29_416,m29_418,m29_420,m29_422,m29_425u,m29_425i,m29_425r,m29_425g,m29_427,m29_429,m29_430,m29_432,m29_433,m29_434,m29_437,m29_438,m29_439,m29_440,m29_441u,m29_441i,m29_441r,m29_441g,m29_443,m29_445,m29_448,m29_450,m29_453,m29_455,m29_457,m29_459,m29_460,m29_463,m29_465,m29_468,m29_469u,m29_469i,m29_469r,m29_469g,m29_471,m29_473,m29_475,m29_478,m29_480,m29_483,m29_484,m29_485,m29_488,m29_491,m29_493,m29_495,m29_497,m29_499,m29_500,m29_503,m29_505,m29_506,m29_509,m29_510,m29_511,m29_514,m29_516,m29_517,m29_520u,m29_520i,m29_520r,m29_520g,m29_522,m29_524,m29_526,m29_529u,m29_529i,m29_529r,m29_529g,m29_531,m29_533,m29_534,m29_537u,m29_537i,m29_537r,m29_537g,m29_539,m29_540u,m29_540i,m29_540r,m29_540g,m29_542,m29_543u,m29_543i,m29_543r,m29_543g,m29_547,m29_549,m29_552,m29_553u,m29_553i,m29_553r,m29_553g,m29_557,m29_559,m29_562,m29_564,m29_566,m29_569u,m29_569i,m29_569r,m29_569g,m29_571,m29_573,m29_575,m29_576,m29_577,m29_580,m29_583,m29_584u,m29_584i,m29_584r,m29_584g,m29_586,m29_587u,m29_587i,m29_587r,m29_587g,m29_591,m29_593,m29_596,m29_598,m29_601,m29_603,m29_605,m29_607,m29_608,m29_609,m29_610,m29_612,m29_613,m29_616,m29_618,m29_620,m29_622,m29_625,m29_628,m29_629i,m29_631,m29_634,m29_639,m29_642,m29_644,m29_646,m29_649,m29_651,m29_653,m29_656,m29_658,m29_661,m29_663,m29_665,m29_668,m29_670,m29_673,m29_674,m29_675,m29_678,m29_681,m29_684,m29_687,m29_690,m29_692,m29_694,m29_697,m29_698,m29_701,m29_702,nb0,nb1,ou_a,Option.toList_some,Option.toList_none,List.nil_append,List.cons_append]
    refine byW hC.ln hD.a7 hD.a8 (by omega) ?_
    rw [v]
    by_cases y : sv (p + 1 - l + j) = sb (ss k + j)
    · have y1 : (nI (sv (p + 1 - l + j)) = nI (sb (ss k + j))) = True:=eT y
      simp [s2,k1,k2,k3,k4,c1,q2,v2,q1,v1,k5,k6,q0,v0,y1,nI_add,nI_1,m20_0,m20_1,m20_2,m20_5,m20_8,m20_9,m20_10,m20_11,m20_14,m20_15,m20_16,m20_19,m20_20,m20_21,m20_24,m20_25,m20_26,m20_27,m20_30,m20_31,m20_32,m20_33,m20_34u,m20_35,m20_36,m20_39,m20_40,m20_42,m20_45,m20_46,m20_47,m20_48,m20_51,m20_52,m20_53,nb0,nb1,ou_a,Option.toList_some,Option.toList_none,List.nil_append,List.cons_append,m19_0,m19_1,m19_4,m19_5,m19_6,m19_9,m19_12,m19_13,m19_15,m19_18,m19_19,m19_22,m19_23,nb0,nb1,ou_a,Option.toList_some,Option.toList_none,List.nil_append,List.cons_append,m29_0,m29_1,m29_2,m29_5u,m29_6,m29_7,m29_8,m29_11,m29_13,m29_14,m29_16,m29_17u,m29_18,m29_19,m29_20,m29_23u,m29_24,m29_27,m29_28,m29_29,m29_32u,m29_34,m29_35,m29_37,m29_40,m29_42,m29_45,m29_46,m29_48,m29_51,m29_53,m29_56,m29_57u,m29_59,m29_60,m29_61,m29_63,m29_64,m29_65u,m29_67,m29_68u,m29_70,m29_71u,m29_75,m29_77,m29_80,m29_81,m29_83,m29_86,m29_89u,m29_89i,m29_89r,m29_89g,m29_91,m29_92,m29_94,m29_95,m29_96,m29_97u,m29_97i,m29_97r,m29_97g,m29_99,m29_100u,m29_100i,m29_100r,m29_100g,m29_104,m29_106,m29_109,m29_111,m29_113,m29_114,m29_116,m29_117,m29_118,m29_119,m29_120,m29_123,m29_126,m29_127,m29_128,m29_131,m29_134,m29_136,m29_139,m29_141,m29_144,m29_145,m29_146,m29_149,m29_152,m29_154,m29_157,m29_160,m29_161,m29_162,m29_163i,m29_167,m29_168,m29_168p,m29_169,m29_172,m29_174,m29_177,m29_180,m29_181,m29_183,m29_186,m29_186p,m29_187,m29_189,m29_190u,m29_190i,m29_190r,m29_190g,m29_192,m29_195,m29_197,m29_198,m29_201u,m29_201i,m29_201r,m29_201g,m29_203,m29_205,m29_207,m29_208,m29_210,m29_212,m29_213,m29_214u,m29_214i,m29_214r,m29_214g,m29_216,m29_218,m29_221,m29_222i,m29_224,m29_226,m29_229,m29_232,m29_235i,m29_237,m29_238,m29_240,m29_241,m29_242,m29_244,m29_245,m29_246u,m29_246i,m29_246r,m29_246g,m29_248,m29_250,m29_252,m29_253,m29_256,m29_259,m29_262,m29_264,m29_265i,m29_267,m29_269,m29_271,m29_272,m29_273,m29_274,m29_277,m29_278,m29_281,m29_282u,m29_282i,m29_282r,m29_282g,m29_284,m29_286,m29_288,m29_291,m29_294,m29_295,m29_296,m29_297,m29_299,m29_300u,m29_300i,m29_300r,m29_300g,m29_304,m29_306,m29_309,m29_311,m29_313,m29_314u,m29_314i,m29_314r,m29_314g,m29_316,m29_318,m29_320,m29_322,m29_325,m29_326,m29_327,m29_328,m29_331,m29_332,m29_333,m29_335,m29_336,m29_337,m29_338,m29_340,m29_342,m29_344,m29_345,m29_347,m29_349,m29_351,m29_354,m29_357,m29_360,m29_361,m29_362,m29_365,m29_368,m29_370,m29_372,m29_374,m29_376,m29_377,m29_380,m29_382,m29_384,m29_385,m29_388u,m29_388i,m29_388r,m29_388g,m29_390,m29_392,m29_395,m29_396,m29_397u,m29_397i,m29_397r,m29_397g,m29_401,m29_403,m29_406,m29_408,m29_410,m29_411u,m29_411i,m29_411r,m29_411g,m29_413,m29_415,m29_416,m29_418,m29_420,m29_422,m29_425u,m29_425i,m29_425r,m29_425g,m29_427,m29_429,m29_430,m29_432,m29_433,m29_434,m29_437,m29_438,m29_439,m29_440,m29_441u,m29_441i,m29_441r,m29_441g,m29_443,m29_445,m29_448,m29_450,m29_453,m29_455,m29_457,m29_459,m29_460,m29_463,m29_465,m29_468,m29_469u,m29_469i,m29_469r,m29_469g,m29_471,m29_473,m29_475,m29_478,m29_480,m29_483,m29_484,m29_485,m29_488,m29_491,m29_493,m29_495,m29_497,m29_499,m29_500,m29_503,m29_505,m29_506,m29_509,m29_510,m29_511,m29_514,m29_516,m29_517,m29_520u,m29_520i,m29_520r,m29_520g,m29_522,m29_524,m29_526,m29_529u,m29_529i,m29_529r,m29_529g,m29_531,m29_533,m29_534,m29_537u,m29_537i,m29_537r,m29_537g,m29_539,m29_540u,m29_540i,m29_540r,m29_540g,m29_542,m29_543u,m29_543i,m29_543r,m29_543g,m29_547,m29_549,m29_552,m29_553u,m29_553i,m29_553r,m29_553g,m29_557,m29_559,m29_562,m29_564,m29_566,m29_569u,m29_569i,m29_569r,m29_569g,m29_571,m29_573,m29_575,m29_576,m29_577,m29_580,m29_583,m29_584u,m29_584i,m29_584r,m29_584g,m29_586,m29_587u,m29_587i,m29_587r,m29_587g,m29_591,m29_593,m29_596,m29_598,m29_601,m29_603,m29_605,m29_607,m29_608,m29_609,m29_610,m29_612,m29_613,m29_616,m29_618,m29_620,m29_622,m29_625,m29_628,m29_629i,m29_631,m29_634,m29_639,m29_642,m29_644,m29_646,m29_649,m29_651,m29_653,m29_656,m29_658,m29_661,m29_663,m29_665,m29_668,m29_670,m29_673,m29_674,m29_675,m29_678,m29_681,m29_684,m29_687,m29_690,m29_692,m29_694,m29_697,m29_698,m29_701,m29_702,nb0,nb1,ou_a,Option.toList_some,Option.toList_none,List.nil_append,List.cons_append]
      refine ih (j + 1) (by omega) (fun j' hj' => ?_)
      by_cases q : j' = j
      · rw [q]; exact y
      · exact ha j' (by omega)
    · have y1 : (nI (sv (p + 1 - l + j)) = nI (sb (ss k + j))) = False:=eF y (by omega) (by omega)
      have no : ¬ ∀ j,j < l→sv (p + 1 - l + j) = sb (ss k + j):=fun q => y (q j (by omega))
      simp [s2,k1,k2,k3,k4,c1,q2,v2,q1,v1,k5,k6,q0,v0,y1,nI_add,nI_1,m20_0,m20_1,m20_2,m20_5,m20_8,m20_9,m20_10,m20_11,m20_14,m20_15,m20_16,m20_19,m20_20,m20_21,m20_24,m20_25,m20_26,m20_27,m20_30,m20_31,m20_32,m20_33,m20_34u,m20_35,m20_36,m20_39,m20_40,m20_42,m20_45,m20_46,m20_47,m20_48,m20_51,m20_52,m20_53,nb0,nb1,ou_a,Option.toList_some,Option.toList_none,List.nil_append,List.cons_append,m19_0,m19_1,m19_4,m19_5,m19_6,m19_9,m19_12,m19_13,m19_15,m19_18,m19_19,m19_22,m19_23,nb0,nb1,ou_a,Option.toList_some,Option.toList_none,List.nil_append,List.cons_append,m29_0,m29_1,m29_2,m29_5u,m29_6,m29_7,m29_8,m29_11,m29_13,m29_14,m29_16,m29_17u,m29_18,m29_19,m29_20,m29_23u,m29_24,m29_27,m29_28,m29_29,m29_32u,m29_34,m29_35,m29_37,m29_40,m29_42,m29_45,m29_46,m29_48,m29_51,m29_53,m29_56,m29_57u,m29_59,m29_60,m29_61,m29_63,m29_64,m29_65u,m29_67,m29_68u,m29_70,m29_71u,m29_75,m29_77,m29_80,m29_81,m29_83,m29_86,m29_89u,m29_89i,m29_89r,m29_89g,m29_91,m29_92,m29_94,m29_95,m29_96,m29_97u,m29_97i,m29_97r,m29_97g,m29_99,m29_100u,m29_100i,m29_100r,m29_100g,m29_104,m29_106,m29_109,m29_111,m29_113,m29_114,m29_116,m29_117,m29_118,m29_119,m29_120,m29_123,m29_126,m29_127,m29_128,m29_131,m29_134,m29_136,m29_139,m29_141,m29_144,m29_145,m29_146,m29_149,m29_152,m29_154,m29_157,m29_160,m29_161,m29_162,m29_163i,m29_167,m29_168,m29_168p,m29_169,m29_172,m29_174,m29_177,m29_180,m29_181,m29_183,m29_186,m29_186p,m29_187,m29_189,m29_190u,m29_190i,m29_190r,m29_190g,m29_192,m29_195,m29_197,m29_198,m29_201u,m29_201i,m29_201r,m29_201g,m29_203,m29_205,m29_207,m29_208,m29_210,m29_212,m29_213,m29_214u,m29_214i,m29_214r,m29_214g,m29_216,m29_218,m29_221,m29_222i,m29_224,m29_226,m29_229,m29_232,m29_235i,m29_237,m29_238,m29_240,m29_241,m29_242,m29_244,m29_245,m29_246u,m29_246i,m29_246r,m29_246g,m29_248,m29_250,m29_252,m29_253,m29_256,m29_259,m29_262,m29_264,m29_265i,m29_267,m29_269,m29_271,m29_272,m29_273,m29_274,m29_277,m29_278,m29_281,m29_282u,m29_282i,m29_282r,m29_282g,m29_284,m29_286,m29_288,m29_291,m29_294,m29_295,m29_296,m29_297,m29_299,m29_300u,m29_300i,m29_300r,m29_300g,m29_304,m29_306,m29_309,m29_311,m29_313,m29_314u,m29_314i,m29_314r,m29_314g,m29_316,m29_318,m29_320,m29_322,m29_325,m29_326,m29_327,m29_328,m29_331,m29_332,m29_333,m29_335,m29_336,m29_337,m29_338,m29_340,m29_342,m29_344,m29_345,m29_347,m29_349,m29_351,m29_354,m29_357,m29_360,m29_361,m29_362,m29_365,m29_368,m29_370,m29_372,m29_374,m29_376,m29_377,m29_380,m29_382,m29_384,m29_385,m29_388u,m29_388i,m29_388r,m29_388g,m29_390,m29_392,m29_395,m29_396,m29_397u,m29_397i,m29_397r,m29_397g,m29_401,m29_403,m29_406,m29_408,m29_410,m29_411u,m29_411i,m29_411r,m29_411g,m29_413,m29_415,m29_416,m29_418,m29_420,m29_422,m29_425u,m29_425i,m29_425r,m29_425g,m29_427,m29_429,m29_430,m29_432,m29_433,m29_434,m29_437,m29_438,m29_439,m29_440,m29_441u,m29_441i,m29_441r,m29_441g,m29_443,m29_445,m29_448,m29_450,m29_453,m29_455,m29_457,m29_459,m29_460,m29_463,m29_465,m29_468,m29_469u,m29_469i,m29_469r,m29_469g,m29_471,m29_473,m29_475,m29_478,m29_480,m29_483,m29_484,m29_485,m29_488,m29_491,m29_493,m29_495,m29_497,m29_499,m29_500,m29_503,m29_505,m29_506,m29_509,m29_510,m29_511,m29_514,m29_516,m29_517,m29_520u,m29_520i,m29_520r,m29_520g,m29_522,m29_524,m29_526,m29_529u,m29_529i,m29_529r,m29_529g,m29_531,m29_533,m29_534,m29_537u,m29_537i,m29_537r,m29_537g,m29_539,m29_540u,m29_540i,m29_540r,m29_540g,m29_542,m29_543u,m29_543i,m29_543r,m29_543g,m29_547,m29_549,m29_552,m29_553u,m29_553i,m29_553r,m29_553g,m29_557,m29_559,m29_562,m29_564,m29_566,m29_569u,m29_569i,m29_569r,m29_569g,m29_571,m29_573,m29_575,m29_576,m29_577,m29_580,m29_583,m29_584u,m29_584i,m29_584r,m29_584g,m29_586,m29_587u,m29_587i,m29_587r,m29_587g,m29_591,m29_593,m29_596,m29_598,m29_601,m29_603,m29_605,m29_607,m29_608,m29_609,m29_610,m29_612,m29_613,m29_616,m29_618,m29_620,m29_622,m29_625,m29_628,m29_629i,m29_631,m29_634,m29_639,m29_642,m29_644,m29_646,m29_649,m29_651,m29_653,m29_656,m29_658,m29_661,m29_663,m29_665,m29_668,m29_670,m29_673,m29_674,m29_675,m29_678,m29_681,m29_684,m29_687,m29_690,m29_692,m29_694,m29_697,m29_698,m29_701,m29_702,nb0,nb1,ou_a,Option.toList_some,Option.toList_none,List.nil_append,List.cons_append]
      have fin:=h0 no (j + 1)
      rw [m29_589]
      by_cases x : j + 1 < l
      · have x1 : (nI (j + 1) < nI l) = True:=lT x (by omega)
        simp [x1,m29_0,m29_1,m29_2,m29_5u,m29_6,m29_7,m29_8,m29_11,m29_13,m29_14,m29_16,m29_17u,m29_18,m29_19,m29_20,m29_23u,m29_24,m29_27,m29_28,m29_29,m29_32u,m29_34,m29_35,m29_37,m29_40,m29_42,m29_45,m29_46,m29_48,m29_51,m29_53,m29_56,m29_57u,m29_59,m29_60,m29_61,m29_63,m29_64,m29_65u,m29_67,m29_68u,m29_70,m29_71u,m29_75,m29_77,m29_80,m29_81,m29_83,m29_86,m29_89u,m29_89i,m29_89r,m29_89g,m29_91,m29_92,m29_94,m29_95,m29_96,m29_97u,m29_97i,m29_97r,m29_97g,m29_99,m29_100u,m29_100i,m29_100r,m29_100g,m29_104,m29_106,m29_109,m29_111,m29_113,m29_114,m29_116,m29_117,m29_118,m29_119,m29_120,m29_123,m29_126,m29_127,m29_128,m29_131,m29_134,m29_136,m29_139,m29_141,m29_144,m29_145,m29_146,m29_149,m29_152,m29_154,m29_157,m29_160,m29_161,m29_162,m29_163i,m29_167,m29_168,m29_168p,m29_169,m29_172,m29_174,m29_177,m29_180,m29_181,m29_183,m29_186,m29_186p,m29_187,m29_189,m29_190u,m29_190i,m29_190r,m29_190g,m29_192,m29_195,m29_197,m29_198,m29_201u,m29_201i,m29_201r,m29_201g,m29_203,m29_205,m29_207,m29_208,m29_210,m29_212,m29_213,m29_214u,m29_214i,m29_214r,m29_214g,m29_216,m29_218,m29_221,m29_222i,m29_224,m29_226,m29_229,m29_232,m29_235i,m29_237,m29_238,m29_240,m29_241,m29_242,m29_244,m29_245,m29_246u,m29_246i,m29_246r,m29_246g,m29_248,m29_250,m29_252,m29_253,m29_256,m29_259,m29_262,m29_264,m29_265i,m29_267,m29_269,m29_271,m29_272,m29_273,m29_274,m29_277,m29_278,m29_281,m29_282u,m29_282i,m29_282r,m29_282g,m29_284,m29_286,m29_288,m29_291,m29_294,m29_295,m29_296,m29_297,m29_299,m29_300u,m29_300i,m29_300r,m29_300g,m29_304,m29_306,m29_309,m29_311,m29_313,m29_314u,m29_314i,m29_314r,m29_314g,m29_316,m29_318,m29_320,m29_322,m29_325,m29_326,m29_327,m29_328,m29_331,m29_332,m29_333,m29_335,m29_336,m29_337,m29_338,m29_340,m29_342,m29_344,m29_345,m29_347,m29_349,m29_351,m29_354,m29_357,m29_360,m29_361,m29_362,m29_365,m29_368,m29_370,m29_372,m29_374,m29_376,m29_377,m29_380,m29_382,m29_384,m29_385,m29_388u,m29_388i,m29_388r,m29_388g,m29_390,m29_392,m29_395,m29_396,m29_397u,m29_397i,m29_397r,m29_397g,m29_401,m29_403,m29_406,m29_408,m29_410,m29_411u,m29_411i,m29_411r,m29_411g,m29_413,m29_415,m29_416,m29_418,m29_420,m29_422,m29_425u,m29_425i,m29_425r,m29_425g,m29_427,m29_429,m29_430,m29_432,m29_433,m29_434,m29_437,m29_438,m29_439,m29_440,m29_441u,m29_441i,m29_441r,m29_441g,m29_443,m29_445,m29_448,m29_450,m29_453,m29_455,m29_457,m29_459,m29_460,m29_463,m29_465,m29_468,m29_469u,m29_469i,m29_469r,m29_469g,m29_471,m29_473,m29_475,m29_478,m29_480,m29_483,m29_484,m29_485,m29_488,m29_491,m29_493,m29_495,m29_497,m29_499,m29_500,m29_503,m29_505,m29_506,m29_509,m29_510,m29_511,m29_514,m29_516,m29_517,m29_520u,m29_520i,m29_520r,m29_520g,m29_522,m29_524,m29_526,m29_529u,m29_529i,m29_529r,m29_529g,m29_531,m29_533,m29_534,m29_537u,m29_537i,m29_537r,m29_537g,m29_539,m29_540u,m29_540i,m29_540r,m29_540g,m29_542,m29_543u,m29_543i,m29_543r,m29_543g,m29_547,m29_549,m29_552,m29_553u,m29_553i,m29_553r,m29_553g,m29_557,m29_559,m29_562,m29_564,m29_566,m29_569u,m29_569i,m29_569r,m29_569g,m29_571,m29_573,m29_575,m29_576,m29_577,m29_580,m29_583,m29_584u,m29_584i,m29_584r,m29_584g,m29_586,m29_587u,m29_587i,m29_587r,m29_587g,m29_591,m29_593,m29_596,m29_598,m29_601,m29_603,m29_605,m29_607,m29_608,m29_609,m29_610,m29_612,m29_613,m29_616,m29_618,m29_620,m29_622,m29_625,m29_628,m29_629i,m29_631,m29_634,m29_639,m29_642,m29_644,m29_646,m29_649,m29_651,m29_653,m29_656,m29_658,m29_661,m29_663,m29_665,m29_668,m29_670,m29_673,m29_674,m29_675,m29_678,m29_681,m29_684,m29_687,m29_690,m29_692,m29_694,m29_697,m29_698,m29_701,m29_702,nb0,nb1,ou_a,Option.toList_some,Option.toList_none,List.nil_append,List.cons_append]
        exact fin
      · have x1 : (nI (j + 1) < nI l) = False:=lF (by omega) (by omega)
        simp [x1,m29_0,m29_1,m29_2,m29_5u,m29_6,m29_7,m29_8,m29_11,m29_13,m29_14,m29_16,m29_17u,m29_18,m29_19,m29_20,m29_23u,m29_24,m29_27,m29_28,m29_29,m29_32u,m29_34,m29_35,m29_37,m29_40,m29_42,m29_45,m29_46,m29_48,m29_51,m29_53,m29_56,m29_57u,m29_59,m29_60,m29_61,m29_63,m29_64,m29_65u,m29_67,m29_68u,m29_70,m29_71u,m29_75,m29_77,m29_80,m29_81,m29_83,m29_86,m29_89u,m29_89i,m29_89r,m29_89g,m29_91,m29_92,m29_94,m29_95,m29_96,m29_97u,m29_97i,m29_97r,m29_97g,m29_99,m29_100u,m29_100i,m29_100r,m29_100g,m29_104,m29_106,m29_109,m29_111,m29_113,m29_114,m29_116,m29_117,m29_118,m29_119,m29_120,m29_123,m29_126,m29_127,m29_128,m29_131,m29_134,m29_136,m29_139,m29_141,m29_144,m29_145,m29_146,m29_149,m29_152,m29_154,m29_157,m29_160,m29_161,m29_162,m29_163i,m29_167,m29_168,m29_168p,m29_169,m29_172,m29_174,m29_177,m29_180,m29_181,m29_183,m29_186,m29_186p,m29_187,m29_189,m29_190u,m29_190i,m29_190r,m29_190g,m29_192,m29_195,m29_197,m29_198,m29_201u,m29_201i,m29_201r,m29_201g,m29_203,m29_205,m29_207,m29_208,m29_210,m29_212,m29_213,m29_214u,m29_214i,m29_214r,m29_214g,m29_216,m29_218,m29_221,m29_222i,m29_224,m29_226,m29_229,m29_232,m29_235i,m29_237,m29_238,m29_240,m29_241,m29_242,m29_244,m29_245,m29_246u,m29_246i,m29_246r,m29_246g,m29_248,m29_250,m29_252,m29_253,m29_256,m29_259,m29_262,m29_264,m29_265i,m29_267,m29_269,m29_271,m29_272,m29_273,m29_274,m29_277,m29_278,m29_281,m29_282u,m29_282i,m29_282r,m29_282g,m29_284,m29_286,m29_288,m29_291,m29_294,m29_295,m29_296,m29_297,m29_299,m29_300u,m29_300i,m29_300r,m29_300g,m29_304,m29_306,m29_309,m29_311,m29_313,m29_314u,m29_314i,m29_314r,m29_314g,m29_316,m29_318,m29_320,m29_322,m29_325,m29_326,m29_327,m29_328,m29_331,m29_332,m29_333,m29_335,m29_336,m29_337,m29_338,m29_340,m29_342,m29_344,m29_345,m29_347,m29_349,m29_351,m29_354,m29_357,m29_360,m29_361,m29_362,m29_365,m29_368,m29_370,m29_372,m29_374,m29_376,m29_377,m29_380,m29_382,m29_384,m29_385,m29_388u,m29_388i,m29_388r,m29_388g,m29_390,m29_392,m29_395,m29_396,m29_397u,m29_397i,m29_397r,m29_397g,m29_401,m29_403,m29_406,m29_408,m29_410,m29_411u,m29_411i,m29_411r,m29_411g,m29_413,m29_415,m29_416,m29_418,m29_420,m29_422,m29_425u,m29_425i,m29_425r,m29_425g,m29_427,m29_429,m29_430,m29_432,m29_433,m29_434,m29_437,m29_438,m29_439,m29_440,m29_441u,m29_441i,m29_441r,m29_441g,m29_443,m29_445,m29_448,m29_450,m29_453,m29_455,m29_457,m29_459,m29_460,m29_463,m29_465,m29_468,m29_469u,m29_469i,m29_469r,m29_469g,m29_471,m29_473,m29_475,m29_478,m29_480,m29_483,m29_484,m29_485,m29_488,m29_491,m29_493,m29_495,m29_497,m29_499,m29_500,m29_503,m29_505,m29_506,m29_509,m29_510,m29_511,m29_514,m29_516,m29_517,m29_520u,m29_520i,m29_520r,m29_520g,m29_522,m29_524,m29_526,m29_529u,m29_529i,m29_529r,m29_529g,m29_531,m29_533,m29_534,m29_537u,m29_537i,m29_537r,m29_537g,m29_539,m29_540u,m29_540i,m29_540r,m29_540g,m29_542,m29_543u,m29_543i,m29_543r,m29_543g,m29_547,m29_549,m29_552,m29_553u,m29_553i,m29_553r,m29_553g,m29_557,m29_559,m29_562,m29_564,m29_566,m29_569u,m29_569i,m29_569r,m29_569g,m29_571,m29_573,m29_575,m29_576,m29_577,m29_580,m29_583,m29_584u,m29_584i,m29_584r,m29_584g,m29_586,m29_587u,m29_587i,m29_587r,m29_587g,m29_591,m29_593,m29_596,m29_598,m29_601,m29_603,m29_605,m29_607,m29_608,m29_609,m29_610,m29_612,m29_613,m29_616,m29_618,m29_620,m29_622,m29_625,m29_628,m29_629i,m29_631,m29_634,m29_639,m29_642,m29_644,m29_646,m29_649,m29_651,m29_653,m29_656,m29_658,m29_661,m29_663,m29_665,m29_668,m29_670,m29_673,m29_674,m29_675,m29_678,m29_681,m29_684,m29_687,m29_690,m29_692,m29_694,m29_697,m29_698,m29_701,m29_702,nb0,nb1,ou_a,Option.toList_some,Option.toList_none,List.nil_append,List.cons_append]
        exact fin
theorem fiS {p T : Nat} (hC : SC w ns en N sb ss sl lab dl om s A) (hD : DY ns N d lab (SW sb ss sl) pr sv s A) (hp : p < d) (hT : T = (mtc ns (SW sb ss sl) sv d).length) (hq : ∀ l14 l15 l16 l17,okP l14 l15→okP l16 l17→M29 684 [.val (.ref 0),l1,l2,l3,.val (.ref 1),l5,l6,l7,l8,.val (.int (nI d)),.val (.int (nI ns)),.val (.int (nI T)),.val (.int (nI (mtc ns (SW sb ss sl) sv (p + 1)).length)),.val (.int (nI p)),l14,l15,l16,l17,l18,l19,l20,l21,l22,l23] [] (put 1 [((FieldType.array .int,vs.map Value.int) : FieldType × List Value)] s A []) Q) : ∀ (r k : Nat) (l15 l16 l17 : Slot),k + r = ns→okS l15→okP l16 l17→M29 555 [.val (.ref 0),l1,l2,l3,.val (.ref 1),l5,l6,l7,l8,.val (.int (nI d)),.val (.int (nI ns)),.val (.int (nI T)),.val (.int (nI (LM ns sb ss sl sv p k).length)),.val (.int (nI p)),.val (.int (nI k)),l15,l16,l17,l18,l19,l20,l21,l22,l23] [] (put 1 [((FieldType.array .int,vs.map Value.int) : FieldType × List Value)] s A []) Q:=by
  have dle:=hD.dl
  have n8:=hC.n8
  have s2:=hC.s2
  have s16:=hD.mt
  rw [← hT] at s16
  have tl:=mtc_len (sw:=SW sb ss sl) (sv:=sv) n8 d
  rw [← hT] at tl
  intro r
  induction r with
  | zero =>
    intro k l15 l16 l17 e o15 o16
    obtain rfl : k = ns:=by omega
    have c1 : (nI k < nI k) = False:=lF (by omega) (by omega)
    rw [m29_555]
    simp [c1,m29_0,m29_1,m29_2,m29_5u,m29_6,m29_7,m29_8,m29_11,m29_13,m29_14,m29_16,m29_17u,m29_18,m29_19,m29_20,m29_23u,m29_24,m29_27,m29_28,m29_29,m29_32u,m29_34,m29_35,m29_37,m29_40,m29_42,m29_45,m29_46,m29_48,m29_51,m29_53,m29_56,m29_57u,m29_59,m29_60,m29_61,m29_63,m29_64,m29_65u,m29_67,m29_68u,m29_70,m29_71u,m29_75,m29_77,m29_80,m29_81,m29_83,m29_86,m29_89u,m29_89i,m29_89r,m29_89g,m29_91,m29_92,m29_94,m29_95,m29_96,m29_97u,m29_97i,m29_97r,m29_97g,m29_99,m29_100u,m29_100i,m29_100r,m29_100g,m29_104,m29_106,m29_109,m29_111,m29_113,m29_114,m29_116,m29_117,m29_118,m29_119,m29_120,m29_123,m29_126,m29_127,m29_128,m29_131,m29_134,m29_136,m29_139,m29_141,m29_144,m29_145,m29_146,m29_149,m29_152,m29_154,m29_157,m29_160,m29_161,m29_162,m29_163i,m29_167,m29_168,m29_168p,m29_169,m29_172,m29_174,m29_177,m29_180,m29_181,m29_183,m29_186,m29_186p,m29_187,m29_189,m29_190u,m29_190i,m29_190r,m29_190g,m29_192,m29_195,m29_197,m29_198,m29_201u,m29_201i,m29_201r,m29_201g,m29_203,m29_205,m29_207,m29_208,m29_210,m29_212,m29_213,m29_214u,m29_214i,m29_214r,m29_214g,m29_216,m29_218,m29_221,m29_222i,m29_224,m29_226,m29_229,m29_232,m29_235i,m29_237,m29_238,m29_240,m29_241,m29_242,m29_244,m29_245,m29_246u,m29_246i,m29_246r,m29_246g,m29_248,m29_250,m29_252,m29_253,m29_256,m29_259,m29_262,m29_264,m29_265i,m29_267,m29_269,m29_271,m29_272,m29_273,m29_274,m29_277,m29_278,m29_281,m29_282u,m29_282i,m29_282r,m29_282g,m29_284,m29_286,m29_288,m29_291,m29_294,m29_295,m29_296,m29_297,m29_299,m29_300u,m29_300i,m29_300r,m29_300g,m29_304,m29_306,m29_309,m29_311,m29_313,m29_314u,m29_314i,m29_314r,m29_314g,m29_316,m29_318,m29_320,m29_322,m29_325,m29_326,m29_327,m29_328,m29_331,m29_332,m29_333,m29_335,m29_336,m29_337,m29_338,m29_340,m29_342,m29_344,m29_345,m29_347,m29_349,m29_351,m29_354,m29_357,m29_360,m29_361,m29_362,m29_365,m29_368,m29_370,m29_372,m29_374,m29_376,m29_377,m29_380,m29_382,m29_384,m29_385,m29_388u,m29_388i,m29_388r,m29_388g,m29_390,m29_392,m29_395,m29_396,m29_397u,m29_397i,m29_397r,m29_397g,m29_401,m29_403,m29_406,m29_408,m29_410,m29_411u,m29_411i,m29_411r,m29_411g,m29_413,m29_415,m29_416,m29_418,m29_420,m29_422,m29_425u,m29_425i,m29_425r,m29_425g,m29_427,m29_429,m29_430,m29_432,m29_433,m29_434,m29_437,m29_438,m29_439,m29_440,m29_441u,m29_441i,m29_441r,m29_441g,m29_443,m29_445,m29_448,m29_450,m29_453,m29_455,m29_457,m29_459,m29_460,m29_463,m29_465,m29_468,m29_469u,m29_469i,m29_469r,m29_469g,m29_471,m29_473,m29_475,m29_478,m29_480,m29_483,m29_484,m29_485,m29_488,m29_491,m29_493,m29_495,m29_497,m29_499,m29_500,m29_503,m29_505,m29_506,m29_509,m29_510,m29_511,m29_514,m29_516,m29_517,m29_520u,m29_520i,m29_520r,m29_520g,m29_522,m29_524,m29_526,m29_529u,m29_529i,m29_529r,m29_529g,m29_531,m29_533,m29_534,m29_537u,m29_537i,m29_537r,m29_537g,m29_539,m29_540u,m29_540i,m29_540r,m29_540g,m29_542,m29_543u,m29_543i,m29_543r,m29_543g,m29_547,m29_549,m29_552,m29_553u,m29_553i,m29_553r,m29_553g,m29_557,m29_559,m29_562,m29_564,m29_566,m29_569u,m29_569i,m29_569r,m29_569g,m29_571,m29_573,m29_575,m29_576,m29_577,m29_580,m29_583,m29_584u,m29_584i,m29_584r,m29_584g,m29_586,m29_587u,m29_587i,m29_587r,m29_587g,m29_591,m29_593,m29_596,m29_598,m29_601,m29_603,m29_605,m29_607,m29_608,m29_609,m29_610,m29_612,m29_613,m29_616,m29_618,m29_620,m29_622,m29_625,m29_628,m29_629i,m29_631,m29_634,m29_637,m29_639,m29_642,m29_644,m29_646,m29_649,m29_651,m29_653,m29_656,m29_658,m29_661,m29_663,m29_665,m29_668,m29_670,m29_673,m29_674,m29_675,m29_678,m29_681,m29_687,m29_690,m29_692,m29_694,m29_697,m29_698,m29_701,m29_702,nb0,nb1,ou_a,Option.toList_some,Option.toList_none,List.nil_append,List.cons_append]
    have:=hq (.val (.int (nI k))) l15 l16 l17 (okP_s (okS_n _) o15) o16
    rw [mtc] at this
    exact this
  | succ r ih =>
    intro k l15 l16 l17 e o15 o16
    have hk : k < ns:=by omega
    have ll:=hC.ll k hk
    have c1 : (nI k < nI ns) = True:=lT hk (by omega)
    have k1 : (nI k < 0) = False:=nnF (by omega)
    have k3 : (nI k < 16) = True:=lT (c:=16) (by omega) (by decide)
    have q2:=in2 hC.ln (i:=k) (by omega)
    have v2:=hC.a2 k hk
    obtain ⟨l,hl⟩ : ∃ l,l = sl k:=⟨_,rfl⟩
    rw [← hl] at v2 ll
    have iff1 : MP (SW sb ss sl) sv p k = true ↔ l≤p + 1∧∀ j,j < l→sv (p + 1 - l + j) = sb (ss k + j):=by
      unfold MP
      rw [decide_eq_true_eq]
      show rw' sb (ss k) (sl k) <+: tx sv (p + 1) ↔ _
      rw [← hl]
      exact pre_iff l (p + 1)
    have ml0:=mtc_len (sw:=SW sb ss sl) (sv:=sv) n8 p
    have ml1:=ms_len (MP (SW sb ss sl) sv p) p (mtc ns (SW sb ss sl) sv p) k
    rw [m29_555]
    by_cases z : p + 1 < l
    · have z1 : (nI (p + 1) < nI l) = True:=lT z (by omega)
      have no : ¬ MP (SW sb ss sl) sv p k = true:=fun q => by have:=(iff1.mp q).1; omega
      simp [c1,k1,k3,s2,q2,v2,z1,o15,nI_1,m18_0,m18_1,m18_2,m18_5,m18_8,m18_9,m18_10,m18_11,m18_14,m18_15,m18_16,nb0,nb1,ou_a,Option.toList_some,Option.toList_none,List.nil_append,List.cons_append,m19_0,m19_1,m19_4,m19_5,m19_6,m19_9,m19_12,m19_13,m19_15,m19_18,m19_19,m19_22,m19_23,nb0,nb1,ou_a,Option.toList_some,Option.toList_none,List.nil_append,List.cons_append,m29_0,m29_1,m29_2,m29_5u,m29_6,m29_7,m29_8,m29_11,m29_13,m29_14,m29_16,m29_17u,m29_18,m29_19,m29_20,m29_23u,m29_24,m29_27,m29_28,m29_29,m29_32u,m29_34,m29_35,m29_37,m29_40,m29_42,m29_45,m29_46,m29_48,m29_51,m29_53,m29_56,m29_57u,m29_59,m29_60,m29_61,m29_63,m29_64,m29_65u,m29_67,m29_68u,m29_70,m29_71u,m29_75,m29_77,m29_80,m29_81,m29_83,m29_86,m29_89u,m29_89i,m29_89r,m29_89g,m29_91,m29_92,m29_94,m29_95,m29_96,m29_97u,m29_97i,m29_97r,m29_97g,m29_99,m29_100u,m29_100i,m29_100r,m29_100g,m29_104,m29_106,m29_109,m29_111,m29_113,m29_114,m29_116,m29_117,m29_118,m29_119,m29_120,m29_123,m29_126,m29_127,m29_128,m29_131,m29_134,m29_136,m29_139,m29_141,m29_144,m29_145,m29_146,m29_149,m29_152,m29_154,m29_157,m29_160,m29_161,m29_162,m29_163i,m29_167,m29_168,m29_168p,m29_169,m29_172,m29_174,m29_177,m29_180,m29_181,m29_183,m29_186,m29_186p,m29_187,m29_189,m29_190u,m29_190i,m29_190r,m29_190g,m29_192,m29_195,m29_197,m29_198,m29_201u,m29_201i,m29_201r,m29_201g,m29_203,m29_205,m29_207,m29_208,m29_210,m29_212,m29_213,m29_214u,m29_214i,m29_214r,m29_214g,m29_216,m29_218,m29_221,m29_222i,m29_224,m29_226,m29_229,m29_232,m29_235i,m29_237,m29_238,m29_240,m29_241,m29_242,m29_244,m29_245,m29_246u,m29_246i,m29_246r,m29_246g,m29_248,m29_250,m29_252,m29_253,m29_256,m29_259,m29_262,m29_264,m29_265i,m29_267,m29_269,m29_271,m29_272,m29_273,m29_274,m29_277,m29_278,m29_281,m29_282u,m29_282i,m29_282r,m29_282g,m29_284,m29_286,m29_288,m29_291,m29_294,m29_295,m29_296,m29_297,m29_299,m29_300u,m29_300i,m29_300r,m29_300g,m29_304,m29_306,m29_309,m29_311,m29_313,m29_314u,m29_314i,m29_314r,m29_314g,m29_316,m29_318,m29_320,m29_322,m29_325,m29_326,m29_327,m29_328,m29_331,m29_332,m29_333,m29_335,m29_336,m29_337,m29_338,m29_340,m29_342,m29_344,m29_345,m29_347,m29_349,m29_351,m29_354,m29_357,m29_360,m29_361,m29_362,m29_365,m29_368,m29_370,m29_372,m29_374,m29_376,m29_377,m29_380,m29_382,m29_384,m29_385,m29_388u,m29_388i,m29_388r,m29_388g,m29_390,m29_392,m29_395,m29_396,m29_397u,m29_397i,m29_397r,m29_397g,m29_401,m29_403,m29_406,m29_408,m29_410,m29_411u,m29_411i,m29_411r,m29_411g,m29_413,m29_415,m29_416,m29_418,m29_420,m29_422,m29_425u,m29_425i,m29_425r,m29_425g,m29_427,m29_429,m29_430,m29_432,m29_433,m29_434,m29_437,m29_438,m29_439,m29_440,m29_441u,m29_441i,m29_441r,m29_441g,m29_443,m29_445,m29_448,m29_450,m29_453,m29_455,m29_457,m29_459,m29_460,m29_463,m29_465,m29_468,m29_469u,m29_469i,m29_469r,m29_469g,m29_471,m29_473,m29_475,m29_478,m29_480,m29_483,m29_484,m29_485,m29_488,m29_491,m29_493,m29_495,m29_497,m29_499,m29_500,m29_503,m29_505,m29_506,m29_509,m29_510,m29_511,m29_514,m29_516,m29_517,m29_520u,m29_520i,m29_520r,m29_520g,m29_522,m29_524,m29_526,m29_529u,m29_529i,m29_529r,m29_529g,m29_531,m29_533,m29_534,m29_537u,m29_537i,m29_537r,m29_537g,m29_539,m29_540u,m29_540i,m29_540r,m29_540g,m29_542,m29_543u,m29_543i,m29_543r,m29_543g,m29_547,m29_549,m29_552,m29_553u,m29_553i,m29_553r,m29_553g,m29_557,m29_559,m29_562,m29_564,m29_566,m29_569u,m29_569i,m29_569r,m29_569g,m29_571,m29_573,m29_575,m29_576,m29_577,m29_580,m29_583,m29_584u,m29_584i,m29_584r,m29_584g,m29_586,m29_587u,m29_587i,m29_587r,m29_587g,m29_591,m29_593,m29_596,m29_598,m29_601,m29_603,m29_605,m29_607,m29_608,m29_609,m29_610,m29_612,m29_613,m29_616,m29_618,m29_620,m29_622,m29_625,m29_628,m29_629i,m29_631,m29_634,m29_637,m29_639,m29_642,m29_644,m29_646,m29_649,m29_651,m29_653,m29_656,m29_658,m29_661,m29_663,m29_665,m29_668,m29_670,m29_673,m29_674,m29_675,m29_678,m29_681,m29_687,m29_690,m29_692,m29_694,m29_697,m29_698,m29_701,m29_702,nb0,nb1,ou_a,Option.toList_some,Option.toList_none,List.nil_append,List.cons_append]
      have go:=ih (k + 1) (.val (.int (nI l))) l16 l17 (by omega) (okS_n _) o16
      rw [show LM ns sb ss sl sv p (k + 1) = LM ns sb ss sl sv p k from by show ms _ _ _ _ = _; rw [ms,if_neg no]] at go
      exact go
    · have z1 : (nI (p + 1) < nI l) = False:=lF (by omega) (by omega)
      simp [c1,k1,k3,s2,q2,v2,z1,o15,nI_1,m18_0,m18_1,m18_2,m18_5,m18_8,m18_9,m18_10,m18_11,m18_14,m18_15,m18_16,nb0,nb1,ou_a,Option.toList_some,Option.toList_none,List.nil_append,List.cons_append,m19_0,m19_1,m19_4,m19_5,m19_6,m19_9,m19_12,m19_13,m19_15,m19_18,m19_19,m19_22,m19_23,nb0,nb1,ou_a,Option.toList_some,Option.toList_none,List.nil_append,List.cons_append,m29_0,m29_1,m29_2,m29_5u,m29_6,m29_7,m29_8,m29_11,m29_13,m29_14,m29_16,m29_17u,m29_18,m29_19,m29_20,m29_23u,m29_24,m29_27,m29_28,m29_29,m29_32u,m29_34,m29_35,m29_37,m29_40,m29_42,m29_45,m29_46,m29_48,m29_51,m29_53,m29_56,m29_57u,m29_59,m29_60,m29_61,m29_63,m29_64,m29_65u,m29_67,m29_68u,m29_70,m29_71u,m29_75,m29_77,m29_80,m29_81,m29_83,m29_86,m29_89u,m29_89i,m29_89r,m29_89g,m29_91,m29_92,m29_94,m29_95,m29_96,m29_97u,m29_97i,m29_97r,m29_97g,m29_99,m29_100u,m29_100i,m29_100r,m29_100g,m29_104,m29_106,m29_109,m29_111,m29_113,m29_114,m29_116,m29_117,m29_118,m29_119,m29_120,m29_123,m29_126,m29_127,m29_128,m29_131,m29_134,m29_136,m29_139,m29_141,m29_144,m29_145,m29_146,m29_149,m29_152,m29_154,m29_157,m29_160,m29_161,m29_162,m29_163i,m29_167,m29_168,m29_168p,m29_169,m29_172,m29_174,m29_177,m29_180,m29_181,m29_183,m29_186,m29_186p,m29_187,m29_189,m29_190u,m29_190i,m29_190r,m29_190g,m29_192,m29_195,m29_197,m29_198,m29_201u,m29_201i,m29_201r,m29_201g,m29_203,m29_205,m29_207,m29_208,m29_210,m29_212,m29_213,m29_214u,m29_214i,m29_214r,m29_214g,m29_216,m29_218,m29_221,m29_222i,m29_224,m29_226,m29_229,m29_232,m29_235i,m29_237,m29_238,m29_240,m29_241,m29_242,m29_244,m29_245,m29_246u,m29_246i,m29_246r,m29_246g,m29_248,m29_250,m29_252,m29_253,m29_256,m29_259,m29_262,m29_264,m29_265i,m29_267,m29_269,m29_271,m29_272,m29_273,m29_274,m29_277,m29_278,m29_281,m29_282u,m29_282i,m29_282r,m29_282g,m29_284,m29_286,m29_288,m29_291,m29_294,m29_295,m29_296,m29_297,m29_299,m29_300u,m29_300i,m29_300r,m29_300g,m29_304,m29_306,m29_309,m29_311,m29_313,m29_314u,m29_314i,m29_314r,m29_314g,m29_316,m29_318,m29_320,m29_322,m29_325,m29_326,m29_327,m29_328,m29_331,m29_332,m29_333,m29_335,m29_336,m29_337,m29_338,m29_340,m29_342,m29_344,m29_345,m29_347,m29_349,m29_351,m29_354,m29_357,m29_360,m29_361,m29_362,m29_365,m29_368,m29_370,m29_372,m29_374,m29_376,m29_377,m29_380,m29_382,m29_384,m29_385,m29_388u,m29_388i,m29_388r,m29_388g,m29_390,m29_392,m29_395,m29_396,m29_397u,m29_397i,m29_397r,m29_397g,m29_401,m29_403,m29_406,m29_408,m29_410,m29_411u,m29_411i,m29_411r,m29_411g,m29_413,m29_415,m29_416,m29_418,m29_420,m29_422,m29_425u,m29_425i,m29_425r,m29_425g,m29_427,m29_429,m29_430,m29_432,m29_433,m29_434,m29_437,m29_438,m29_439,m29_440,m29_441u,m29_441i,m29_441r,m29_441g,m29_443,m29_445,m29_448,m29_450,m29_453,m29_455,m29_457,m29_459,m29_460,m29_463,m29_465,m29_468,m29_469u,m29_469i,m29_469r,m29_469g,m29_471,m29_473,m29_475,m29_478,m29_480,m29_483,m29_484,m29_485,m29_488,m29_491,m29_493,m29_495,m29_497,m29_499,m29_500,m29_503,m29_505,m29_506,m29_509,m29_510,m29_511,m29_514,m29_516,m29_517,m29_520u,m29_520i,m29_520r,m29_520g,m29_522,m29_524,m29_526,m29_529u,m29_529i,m29_529r,m29_529g,m29_531,m29_533,m29_534,m29_537u,m29_537i,m29_537r,m29_537g,m29_539,m29_540u,m29_540i,m29_540r,m29_540g,m29_542,m29_543u,m29_543i,m29_543r,m29_543g,m29_547,m29_549,m29_552,m29_553u,m29_553i,m29_553r,m29_553g,m29_557,m29_559,m29_562,m29_564,m29_566,m29_569u,m29_569i,m29_569r,m29_569g,m29_571,m29_573,m29_575,m29_576,m29_577,m29_580,m29_583,m29_584g,m29_586,m29_587u,m29_587i,m29_587r,m29_587g,m29_591,m29_593,m29_596,m29_598,m29_601,m29_603,m29_605,m29_607,m29_608,m29_609,m29_610,m29_612,m29_613,m29_616,m29_618,m29_620,m29_622,m29_625,m29_628,m29_629i,m29_631,m29_634,m29_637,m29_639,m29_642,m29_644,m29_646,m29_649,m29_651,m29_653,m29_656,m29_658,m29_661,m29_663,m29_665,m29_668,m29_670,m29_673,m29_674,m29_675,m29_678,m29_681,m29_687,m29_690,m29_692,m29_694,m29_697,m29_698,m29_701,m29_702,nb0,nb1,ou_a,Option.toList_some,Option.toList_none,List.nil_append,List.cons_append]
      obtain ⟨k17,ok17,e584⟩:=own_law_584 (H:=(put 1 [((FieldType.array .int,vs.map Value.int) : FieldType × List Value)] s A [])) (Q:=Q) (st:=[]) (v:=1) (l0:=.val (.ref 0)) (l1:=l1) (l2:=l2) (l3:=l3) (l4:=.val (.ref 1)) (l5:=l5) (l6:=l6) (l7:=l7) (l8:=l8) (l9:=.val (.int (nI d))) (l10:=.val (.int (nI ns))) (l11:=.val (.int (nI T))) (l12:=.val (.int (nI (LM ns sb ss sl sv p k).length))) (l13:=.val (.int (nI p))) (l14:=.val (.int (nI k))) (l15:=.val (.int (nI l))) (l18:=l18) (l19:=l19) (l20:=l20) (l21:=l21) (l22:=l22) (l23:=l23) o16
      rw [e584]
      simp [ok17,m29_0,m29_1,m29_2,m29_5u,m29_6,m29_7,m29_8,m29_11,m29_13,m29_14,m29_16,m29_17u,m29_18,m29_19,m29_20,m29_23u,m29_24,m29_27,m29_28,m29_29,m29_32u,m29_34,m29_35,m29_37,m29_40,m29_42,m29_45,m29_46,m29_48,m29_51,m29_53,m29_56,m29_57u,m29_59,m29_60,m29_61,m29_63,m29_64,m29_65u,m29_67,m29_68u,m29_70,m29_71u,m29_75,m29_77,m29_80,m29_81,m29_83,m29_86,m29_89u,m29_89i,m29_89r,m29_89g,m29_91,m29_92,m29_94,m29_95,m29_96,m29_97u,m29_97i,m29_97r,m29_97g,m29_99,m29_100u,m29_100i,m29_100r,m29_100g,m29_104,m29_106,m29_109,m29_111,m29_113,m29_114,m29_116,m29_117,m29_118,m29_119,m29_120,m29_123,m29_126,m29_127,m29_128,m29_131,m29_134,m29_136,m29_139,m29_141,m29_144,m29_145,m29_146,m29_149,m29_152,m29_154,m29_157,m29_160,m29_161,m29_162,m29_163i,m29_167,m29_168,m29_168p,m29_169,m29_172,m29_174,m29_177,m29_180,m29_181,m29_183,m29_186,m29_186p,m29_187,m29_189,m29_190u,m29_190i,m29_190r,m29_190g,m29_192,m29_195,m29_197,m29_198,m29_201u,m29_201i,m29_201r,m29_201g,m29_203,m29_205,m29_207,m29_208,m29_210,m29_212,m29_213,m29_214u,m29_214i,m29_214r,m29_214g,m29_216,m29_218,m29_221,m29_222i,m29_224,m29_226,m29_229,m29_232,m29_235i,m29_237,m29_238,m29_240,m29_241,m29_242,m29_244,m29_245,m29_246u,m29_246i,m29_246r,m29_246g,m29_248,m29_250,m29_252,m29_253,m29_256,m29_259,m29_262,m29_264,m29_265i,m29_267,m29_269,m29_271,m29_272,m29_273,m29_274,m29_277,m29_278,m29_281,m29_282u,m29_282i,m29_282r,m29_282g,m29_284,m29_286,m29_288,m29_291,m29_294,m29_295,m29_296,m29_297,m29_299,m29_300u,m29_300i,m29_300r,m29_300g,m29_304,m29_306,m29_309,m29_311,m29_313,m29_314u,m29_314i,m29_314r,m29_314g,m29_316,m29_318,m29_320,m29_322,m29_325,m29_326,m29_327,m29_328,m29_331,m29_332,m29_333,m29_335,m29_336,m29_337,m29_338,m29_340,m29_342,m29_344,m29_345,m29_347,m29_349,m29_351,m29_354,m29_357,m29_360,m29_361,m29_362,m29_365,m29_368,m29_370,m29_372,m29_374,m29_376,m29_377,m29_380,m29_382,m29_384,m29_385,m29_388u,m29_388i,m29_388r,m29_388g,m29_390,m29_392,m29_395,m29_396,m29_397u,m29_397i,m29_397r,m29_397g,m29_401,m29_403,m29_406,m29_408,m29_410,m29_411u,m29_411i,m29_411r,m29_411g,m29_413,m29_415,m29_416,m29_418,m29_420,m29_422,m29_425u,m29_425i,m29_425r,m29_425g,m29_427,m29_429,m29_430,m29_432,m29_433,m29_434,m29_437,m29_438,m29_439,m29_440,m29_441u,m29_441i,m29_441r,m29_441g,m29_443,m29_445,m29_448,m29_450,m29_453,m29_455,m29_457,m29_459,m29_460,m29_463,m29_465,m29_468,m29_469u,m29_469i,m29_469r,m29_469g,m29_471,m29_473,m29_475,m29_478,m29_480,m29_483,m29_484,m29_485,m29_488,m29_491,m29_493,m29_495,m29_497,m29_499,m29_500,m29_503,m29_505,m29_506,m29_509,m29_510,m29_511,m29_514,m29_516,m29_517,m29_520u,m29_520i,m29_520r,m29_520g,m29_522,m29_524,m29_526,m29_529u,m29_529i,m29_529r,m29_529g,m29_531,m29_533,m29_534,m29_537u,m29_537i,m29_537r,m29_537g,m29_539,m29_540u,m29_540i,m29_540r,m29_540g,m29_542,m29_543u,m29_543i,m29_543r,m29_543g,m29_547,m29_549,m29_552,m29_553u,m29_553i,m29_553r,m29_553g,m29_557,m29_559,m29_562,m29_564,m29_566,m29_569u,m29_569i,m29_569r,m29_569g,m29_571,m29_573,m29_575,m29_576,m29_577,m29_580,m29_583,m29_584u,m29_584i,m29_584r,m29_584g,m29_586,m29_587u,m29_587i,m29_587r,m29_587g,m29_591,m29_593,m29_596,m29_598,m29_601,m29_603,m29_605,m29_607,m29_608,m29_609,m29_610,m29_612,m29_613,m29_616,m29_618,m29_620,m29_622,m29_625,m29_628,m29_629i,m29_631,m29_634,m29_637,m29_639,m29_642,m29_644,m29_646,m29_649,m29_651,m29_653,m29_656,m29_658,m29_661,m29_663,m29_665,m29_668,m29_670,m29_673,m29_674,m29_675,m29_678,m29_681,m29_687,m29_690,m29_692,m29_694,m29_697,m29_698,m29_701,m29_702,nb0,nb1,ou_a,Option.toList_some,Option.toList_none,List.nil_append,List.cons_append]
      refine fiJ (p:=p) (k:=k) (l:=l) hC hD hk hp hl (by omega) (fun all => ?_) (fun no j => ?_) l 0 (by omega) (fun j hj => absurd hj (by omega))
      · have yes : MP (SW sb ss sl) sv p k = true:=iff1.mpr ⟨by omega,all⟩
        have eL : LM ns sb ss sl sv p (k + 1) = LM ns sb ss sl sv p k ++ [(k,p)]:=by show ms _ _ _ _ = _; rw [ms,if_pos yes]
        have pre : LM ns sb ss sl sv p (k + 1) <+: mtc ns (SW sb ss sl) sv d:=(ms_mono _ _ _ (k + 1) ns (by omega)).trans (mtc_mono (p + 1) d (by omega))
        have get : (mtc ns (SW sb ss sl) sv d)[(LM ns sb ss sl sv p k).length]? = some (k,p):=pre_get pre (by rw [eL,List.length_append,List.length_singleton]; omega) (by rw [eL]; exact get_last _ _)
        have cT : (LM ns sb ss sl sv p k).length < T:=by
          rw [hT]
          rcases Nat.lt_or_ge (LM ns sb ss sl sv p k).length (mtc ns (SW sb ss sl) sv d).length with q | q
          · exact q
          · rw [List.getElem?_eq_none q] at get; cases get
        have go:=ih (k + 1) (.val (.int (nI l))) (.val (.int 1)) (.val (.int (nI l))) (by omega) (okS_n _) (okP_s (okS_i _) (okS_n _))
        rw [eL,List.length_append,List.length_singleton] at go
        generalize (LM ns sb ss sl sv p k).length = cn at *
        by_cases y : cn < 64
        · have y1 : (nI cn < 64) = True:=lT (c:=64) y (by decide)
          obtain ⟨g1,g2⟩:=hD.rc cn (k,p) y get
          have y2 : (nI cn < 0) = False:=nnF (by omega)
          have q10:=in10 hC.ln (i:=cn) y
          have q11:=in11 hC.ln (i:=cn) y
          by_cases x : 64 < T
          · have x1 : (64 < nI T) = True:=lT (a:=64) x (by omega)
            simp [y1,y2,s16,x1,q10,q11,g1,g2,nI_1,m22_0,m22_1,m22_2,m22_5,m22_8,m22_9,m22_10,m22_11,m22_14,m22_15,m22_16,nb0,nb1,ou_a,Option.toList_some,Option.toList_none,List.nil_append,List.cons_append,m24_0,m24_1,m24_2,m24_5,m24_8,m24_9,m24_10,m24_11,m24_14,m24_15,m24_16,nb0,nb1,ou_a,Option.toList_some,Option.toList_none,List.nil_append,List.cons_append,m23_0,m23_1,m23_4u,m23_5,m23_6,m23_8,m23_11,m23_13i,m23_14,m23_15,m23_18,m23_19,m23_20,m23_23,m23_24,m23_27,m23_28,nb0,nb1,ou_a,Option.toList_some,Option.toList_none,List.nil_append,List.cons_append,m29_0,m29_1,m29_2,m29_5u,m29_6,m29_7,m29_8,m29_11,m29_13,m29_14,m29_16,m29_17u,m29_18,m29_19,m29_20,m29_23u,m29_24,m29_27,m29_28,m29_29,m29_32u,m29_34,m29_35,m29_37,m29_40,m29_42,m29_45,m29_46,m29_48,m29_51,m29_53,m29_56,m29_57u,m29_59,m29_60,m29_61,m29_63,m29_64,m29_65u,m29_67,m29_68u,m29_70,m29_71u,m29_75,m29_77,m29_80,m29_81,m29_83,m29_86,m29_89u,m29_89i,m29_89r,m29_89g,m29_91,m29_92,m29_94,m29_95,m29_96,m29_97u,m29_97i,m29_97r,m29_97g,m29_99,m29_100u,m29_100i,m29_100r,m29_100g,m29_104,m29_106,m29_109,m29_111,m29_113,m29_114,m29_116,m29_117,m29_118,m29_119,m29_120,m29_123,m29_126,m29_127,m29_128,m29_131,m29_134,m29_136,m29_139,m29_141,m29_144,m29_145,m29_146,m29_149,m29_152,m29_154,m29_157,m29_160,m29_161,m29_162,m29_163i,m29_167,m29_168,m29_168p,m29_169,m29_172,m29_174,m29_177,m29_180,m29_181,m29_183,m29_186,m29_186p,m29_187,m29_189,m29_190u,m29_190i,m29_190r,m29_190g,m29_192,m29_195,m29_197,m29_198,m29_201u,m29_201i,m29_201r,m29_201g,m29_203,m29_205,m29_207,m29_208,m29_210,m29_212,m29_213,m29_214u,m29_214i,m29_214r,m29_214g,m29_216,m29_218,m29_221,m29_222i,m29_224,m29_226,m29_229,m29_232,m29_235i,m29_237,m29_238,m29_240,m29_241,m29_242,m29_244,m29_245,m29_246u,m29_246i,m29_246r,m29_246g,m29_248,m29_250,m29_252,m29_253,m29_256,m29_259,m29_262,m29_264,m29_265i,m29_267,m29_269,m29_271,m29_272,m29_273,m29_274,m29_277,m29_278,m29_281,m29_282u,m29_282i,m29_282r,m29_282g,m29_284,m29_286,m29_288,m29_291,m29_294,m29_295,m29_296,m29_297,m29_299,m29_300u,m29_300i,m29_300r,m29_300g,m29_304,m29_306,m29_309,m29_311,m29_313,m29_314u,m29_314i,m29_314r,m29_314g,m29_316,m29_318,m29_320,m29_322,m29_325,m29_326,m29_327,m29_328,m29_331,m29_332,m29_333,m29_335,m29_336,m29_337,m29_338,m29_340,m29_342,m29_344,m29_345,m29_347,m29_349,m29_351,m29_354,m29_357,m29_360,m29_361,m29_362,m29_365,m29_368,m29_370,m29_372,m29_374,m29_376,m29_377,m29_380,m29_382,m29_384,m29_385,m29_388u,m29_388i,m29_388r,m29_388g,m29_390,m29_392,m29_395,m29_396,m29_397u,m29_397i,m29_397r,m29_397g,m29_401,m29_403,m29_406,m29_408,m29_410,m29_411u,m29_411i,m29_411r,m29_411g,m29_413,m29_415,m29_416,m29_418,m29_420,m29_422,m29_425u,m29_425i,m29_425r,m29_425g,m29_427,m29_429,m29_430,m29_432,m29_433,m29_434,m29_437,m29_438,m29_439,m29_440,m29_441u,m29_441i,m29_441r,m29_441g,m29_443,m29_445,m29_448,m29_450,m29_453,m29_455,m29_457,m29_459,m29_460,m29_463,m29_465,m29_468,m29_469u,m29_469i,m29_469r,m29_469g,m29_471,m29_473,m29_475,m29_478,m29_480,m29_483,m29_484,m29_485,m29_488,m29_491,m29_493,m29_495,m29_497,m29_499,m29_500,m29_503,m29_505,m29_506,m29_509,m29_510,m29_511,m29_514,m29_516,m29_517,m29_520u,m29_520i,m29_520r,m29_520g,m29_522,m29_524,m29_526,m29_529u,m29_529i,m29_529r,m29_529g,m29_531,m29_533,m29_534,m29_537u,m29_537i,m29_537r,m29_537g,m29_539,m29_540u,m29_540i,m29_540r,m29_540g,m29_542,m29_543u,m29_543i,m29_543r,m29_543g,m29_547,m29_549,m29_552,m29_553u,m29_553i,m29_553r,m29_553g,m29_557,m29_559,m29_562,m29_564,m29_566,m29_569u,m29_569i,m29_569r,m29_569g,m29_571,m29_573,m29_575,m29_576,m29_577,m29_580,m29_583,m29_584u,m29_584i,m29_584r,m29_584g,m29_586,m29_587u,m29_587i,m29_587r,m29_587g,m29_591,m29_593,m29_596,m29_598,m29_601,m29_603,m29_605,m29_607,m29_608,m29_609,m29_610,m29_612,m29_613,m29_616,m29_618,m29_620,m29_622,m29_625,m29_628,m29_629i,m29_631,m29_634,m29_637,m29_639,m29_642,m29_644,m29_646,m29_649,m29_651,m29_653,m29_656,m29_658,m29_661,m29_663,m29_665,m29_668,m29_670,m29_673,m29_674,m29_675,m29_678,m29_681,m29_687,m29_690,m29_692,m29_694,m29_697,m29_698,m29_701,m29_702,nb0,nb1,ou_a,Option.toList_some,Option.toList_none,List.nil_append,List.cons_append]
            exact go
          · have x1 : (64 < nI T) = False:=lF (a:=64) (by omega) (by decide)
            have x2 : (nI cn < nI T) = True:=lT cT (by omega)
            simp [y1,y2,s16,x1,x2,q10,q11,g1,g2,nI_1,m22_0,m22_1,m22_2,m22_5,m22_8,m22_9,m22_10,m22_11,m22_14,m22_15,m22_16,nb0,nb1,ou_a,Option.toList_some,Option.toList_none,List.nil_append,List.cons_append,m24_0,m24_1,m24_2,m24_5,m24_8,m24_9,m24_10,m24_11,m24_14,m24_15,m24_16,nb0,nb1,ou_a,Option.toList_some,Option.toList_none,List.nil_append,List.cons_append,m23_0,m23_1,m23_4u,m23_5,m23_6,m23_8,m23_11,m23_13i,m23_14,m23_15,m23_18,m23_19,m23_20,m23_23,m23_24,m23_27,m23_28,nb0,nb1,ou_a,Option.toList_some,Option.toList_none,List.nil_append,List.cons_append,m29_0,m29_1,m29_2,m29_5u,m29_6,m29_7,m29_8,m29_11,m29_13,m29_14,m29_16,m29_17u,m29_18,m29_19,m29_20,m29_23u,m29_24,m29_27,m29_28,m29_29,m29_32u,m29_34,m29_35,m29_37,m29_40,m29_42,m29_45,m29_46,m29_48,m29_51,m29_53,m29_56,m29_57u,m29_59,m29_60,m29_61,m29_63,m29_64,m29_65u,m29_67,m29_68u,m29_70,m29_71u,m29_75,m29_77,m29_80,m29_81,m29_83,m29_86,m29_89u,m29_89i,m29_89r,m29_89g,m29_91,m29_92,m29_94,m29_95,m29_96,m29_97u,m29_97i,m29_97r,m29_97g,m29_99,m29_100u,m29_100i,m29_100r,m29_100g,m29_104,m29_106,m29_109,m29_111,m29_113,m29_114,m29_116,m29_117,m29_118,m29_119,m29_120,m29_123,m29_126,m29_127,m29_128,m29_131,m29_134,m29_136,m29_139,m29_141,m29_144,m29_145,m29_146,m29_149,m29_152,m29_154,m29_157,m29_160,m29_161,m29_162,m29_163i,m29_167,m29_168,m29_168p,m29_169,m29_172,m29_174,m29_177,m29_180,m29_181,m29_183,m29_186,m29_186p,m29_187,m29_189,m29_190u,m29_190i,m29_190r,m29_190g,m29_192,m29_195,m29_197,m29_198,m29_201u,m29_201i,m29_201r,m29_201g,m29_203,m29_205,m29_207,m29_208,m29_210,m29_212,m29_213,m29_214u,m29_214i,m29_214r,m29_214g,m29_216,m29_218,m29_221,m29_222i,m29_224,m29_226,m29_229,m29_232,m29_235i,m29_237,m29_238,m29_240,m29_241,m29_242,m29_244,m29_245,m29_246u,m29_246i,m29_246r,m29_246g,m29_248,m29_250,m29_252,m29_253,m29_256,m29_259,m29_262,m29_264,m29_265i,m29_267,m29_269,m29_271,m29_272,m29_273,m29_274,m29_277,m29_278,m29_281,m29_282u,m29_282i,m29_282r,m29_282g,m29_284,m29_286,m29_288,m29_291,m29_294,m29_295,m29_296,m29_297,m29_299,m29_300u,m29_300i,m29_300r,m29_300g,m29_304,m29_306,m29_309,m29_311,m29_313,m29_314u,m29_314i,m29_314r,m29_314g,m29_316,m29_318,m29_320,m29_322,m29_325,m29_326,m29_327,m29_328,m29_331,m29_332,m29_333,m29_335,m29_336,m29_337,m29_338,m29_340,m29_342,m29_344,m29_345,m29_347,m29_349,m29_351,m29_354,m29_357,m29_360,m29_361,m29_362,m29_365,m29_368,m29_370,m29_372,m29_374,m29_376,m29_377,m29_380,m29_382,m29_384,m29_385,m29_388u,m29_388i,m29_388r,m29_388g,m29_390,m29_392,m29_395,m29_396,m29_397u,m29_397i,m29_397r,m29_397g,m29_401,m29_403,m29_406,m29_408,m29_410,m29_411u,m29_411i,m29_411r,m29_411g,m29_413,m29_415,m29_416,m29_418,m29_420,m29_422,m29_425u,m29_425i,m29_425r,m29_425g,m29_427,m29_429,m29_430,m29_432,m29_433,m29_434,m29_437,m29_438,m29_439,m29_440,m29_441u,m29_441i,m29_441r,m29_441g,m29_443,m29_445,m29_448,m29_450,m29_453,m29_455,m29_457,m29_459,m29_460,m29_463,m29_465,m29_468,m29_469u,m29_469i,m29_469r,m29_469g,m29_471,m29_473,m29_475,m29_478,m29_480,m29_483,m29_484,m29_485,m29_488,m29_491,m29_493,m29_495,m29_497,m29_499,m29_500,m29_503,m29_505,m29_506,m29_509,m29_510,m29_511,m29_514,m29_516,m29_517,m29_520u,m29_520i,m29_520r,m29_520g,m29_522,m29_524,m29_526,m29_529u,m29_529i,m29_529r,m29_529g,m29_531,m29_533,m29_534,m29_537u,m29_537i,m29_537r,m29_537g,m29_539,m29_540u,m29_540i,m29_540r,m29_540g,m29_542,m29_543u,m29_543i,m29_543r,m29_543g,m29_547,m29_549,m29_552,m29_553u,m29_553i,m29_553r,m29_553g,m29_557,m29_559,m29_562,m29_564,m29_566,m29_569u,m29_569i,m29_569r,m29_569g,m29_571,m29_573,m29_575,m29_576,m29_577,m29_580,m29_583,m29_584u,m29_584i,m29_584r,m29_584g,m29_586,m29_587u,m29_587i,m29_587r,m29_587g,m29_591,m29_593,m29_596,m29_598,m29_601,m29_603,m29_605,m29_607,m29_608,m29_609,m29_610,m29_612,m29_613,m29_616,m29_618,m29_620,m29_622,m29_625,m29_628,m29_629i,m29_631,m29_634,m29_637,m29_639,m29_642,m29_644,m29_646,m29_649,m29_651,m29_653,m29_656,m29_658,m29_661,m29_663,m29_665,m29_668,m29_670,m29_673,m29_674,m29_675,m29_678,m29_681,m29_687,m29_690,m29_692,m29_694,m29_697,m29_698,m29_701,m29_702,nb0,nb1,ou_a,Option.toList_some,Option.toList_none,List.nil_append,List.cons_append]
            exact go
        · have y1 : (nI cn < 64) = False:=lF (c:=64) (by omega) (by omega)
          simp [y1,nI_1,m29_0,m29_1,m29_2,m29_5u,m29_6,m29_7,m29_8,m29_11,m29_13,m29_14,m29_16,m29_17u,m29_18,m29_19,m29_20,m29_23u,m29_24,m29_27,m29_28,m29_29,m29_32u,m29_34,m29_35,m29_37,m29_40,m29_42,m29_45,m29_46,m29_48,m29_51,m29_53,m29_56,m29_57u,m29_59,m29_60,m29_61,m29_63,m29_64,m29_65u,m29_67,m29_68u,m29_70,m29_71u,m29_75,m29_77,m29_80,m29_81,m29_83,m29_86,m29_89u,m29_89i,m29_89r,m29_89g,m29_91,m29_92,m29_94,m29_95,m29_96,m29_97u,m29_97i,m29_97r,m29_97g,m29_99,m29_100u,m29_100i,m29_100r,m29_100g,m29_104,m29_106,m29_109,m29_111,m29_113,m29_114,m29_116,m29_117,m29_118,m29_119,m29_120,m29_123,m29_126,m29_127,m29_128,m29_131,m29_134,m29_136,m29_139,m29_141,m29_144,m29_145,m29_146,m29_149,m29_152,m29_154,m29_157,m29_160,m29_161,m29_162,m29_163i,m29_167,m29_168,m29_168p,m29_169,m29_172,m29_174,m29_177,m29_180,m29_181,m29_183,m29_186,m29_186p,m29_187,m29_189,m29_190u,m29_190i,m29_190r,m29_190g,m29_192,m29_195,m29_197,m29_198,m29_201u,m29_201i,m29_201r,m29_201g,m29_203,m29_205,m29_207,m29_208,m29_210,m29_212,m29_213,m29_214u,m29_214i,m29_214r,m29_214g,m29_216,m29_218,m29_221,m29_222i,m29_224,m29_226,m29_229,m29_232,m29_235i,m29_237,m29_238,m29_240,m29_241,m29_242,m29_244,m29_245,m29_246u,m29_246i,m29_246r,m29_246g,m29_248,m29_250,m29_252,m29_253,m29_256,m29_259,m29_262,m29_264,m29_265i,m29_267,m29_269,m29_271,m29_272,m29_273,m29_274,m29_277,m29_278,m29_281,m29_282u,m29_282i,m29_282r,m29_282g,m29_284,m29_286,m29_288,m29_291,m29_294,m29_295,m29_296,m29_297,m29_299,m29_300u,m29_300i,m29_300r,m29_300g,m29_304,m29_306,m29_309,m29_311,m29_313,m29_314u,m29_314i,m29_314r,m29_314g,m29_316,m29_318,m29_320,m29_322,m29_325,m29_326,m29_327,m29_328,m29_331,m29_332,m29_333,m29_335,m29_336,m29_337,m29_338,m29_340,m29_342,m29_344,m29_345,m29_347,m29_349,m29_351,m29_354,m29_357,m29_360,m29_361,m29_362,m29_365,m29_368,m29_370,m29_372,m29_374,m29_376,m29_377,m29_380,m29_382,m29_384,m29_385,m29_388u,m29_388i,m29_388r,m29_388g,m29_390,m29_392,m29_395,m29_396,m29_397u,m29_397i,m29_397r,m29_397g,m29_401,m29_403,m29_406,m29_408,m29_410,m29_411u,m29_411i,m29_411r,m29_411g,m29_413,m29_415,m29_416,m29_418,m29_420,m29_422,m29_425u,m29_425i,m29_425r,m29_425g,m29_427,m29_429,m29_430,m29_432,m29_433,m29_434,m29_437,m29_438,m29_439,m29_440,m29_441u,m29_441i,m29_441r,m29_441g,m29_443,m29_445,m29_448,m29_450,m29_453,m29_455,m29_457,m29_459,m29_460,m29_463,m29_465,m29_468,m29_469u,m29_469i,m29_469r,m29_469g,m29_471,m29_473,m29_475,m29_478,m29_480,m29_483,m29_484,m29_485,m29_488,m29_491,m29_493,m29_495,m29_497,m29_499,m29_500,m29_503,m29_505,m29_506,m29_509,m29_510,m29_511,m29_514,m29_516,m29_517,m29_520u,m29_520i,m29_520r,m29_520g,m29_522,m29_524,m29_526,m29_529u,m29_529i,m29_529r,m29_529g,m29_531,m29_533,m29_534,m29_537u,m29_537i,m29_537r,m29_537g,m29_539,m29_540u,m29_540i,m29_540r,m29_540g,m29_542,m29_543u,m29_543i,m29_543r,m29_543g,m29_547,m29_549,m29_552,m29_553u,m29_553i,m29_553r,m29_553g,m29_557,m29_559,m29_562,m29_564,m29_566,m29_569u,m29_569i,m29_569r,m29_569g,m29_571,m29_573,m29_575,m29_576,m29_577,m29_580,m29_583,m29_584u,m29_584i,m29_584r,m29_584g,m29_586,m29_587u,m29_587i,m29_587r,m29_587g,m29_591,m29_593,m29_596,m29_598,m29_601,m29_603,m29_605,m29_607,m29_608,m29_609,m29_610,m29_612,m29_613,m29_616,m29_618,m29_620,m29_622,m29_625,m29_628,m29_629i,m29_631,m29_634,m29_637,m29_639,m29_642,m29_644,m29_646,m29_649,m29_651,m29_653,m29_656,m29_658,m29_661,m29_663,m29_665,m29_668,m29_670,m29_673,m29_674,m29_675,m29_678,m29_681,m29_687,m29_690,m29_692,m29_694,m29_697,m29_698,m29_701,m29_702,nb0,nb1,ou_a,Option.toList_some,Option.toList_none,List.nil_append,List.cons_append]
          exact go
      · have no' : ¬ MP (SW sb ss sl) sv p k = true:=fun q => no (iff1.mp q).2
        simp [nI_1,m29_0,m29_1,m29_2,m29_5u,m29_6,m29_7,m29_8,m29_11,m29_13,m29_14,m29_16,m29_17u,m29_18,m29_19,m29_20,m29_23u,m29_24,m29_27,m29_28,m29_29,m29_32u,m29_34,m29_35,m29_37,m29_40,m29_42,m29_45,m29_46,m29_48,m29_51,m29_53,m29_56,m29_57u,m29_59,m29_60,m29_61,m29_63,m29_64,m29_65u,m29_67,m29_68u,m29_70,m29_71u,m29_75,m29_77,m29_80,m29_81,m29_83,m29_86,m29_89u,m29_89i,m29_89r,m29_89g,m29_91,m29_92,m29_94,m29_95,m29_96,m29_97u,m29_97i,m29_97r,m29_97g,m29_99,m29_100u,m29_100i,m29_100r,m29_100g,m29_104,m29_106,m29_109,m29_111,m29_113,m29_114,m29_116,m29_117,m29_118,m29_119,m29_120,m29_123,m29_126,m29_127,m29_128,m29_131,m29_134,m29_136,m29_139,m29_141,m29_144,m29_145,m29_146,m29_149,m29_152,m29_154,m29_157,m29_160,m29_161,m29_162,m29_163i,m29_167,m29_168,m29_168p,m29_169,m29_172,m29_174,m29_177,m29_180,m29_181,m29_183,m29_186,m29_186p,m29_187,m29_189,m29_190u,m29_190i,m29_190r,m29_190g,m29_192,m29_195,m29_197,m29_198,m29_201u,m29_201i,m29_201r,m29_201g,m29_203,m29_205,m29_207,m29_208,m29_210,m29_212,m29_213,m29_214u,m29_214i,m29_214r,m29_214g,m29_216,m29_218,m29_221,m29_222i,m29_224,m29_226,m29_229,m29_232,m29_235i,m29_237,m29_238,m29_240,m29_241,m29_242,m29_244,m29_245,m29_246u,m29_246i,m29_246r,m29_246g,m29_248,m29_250,m29_252,m29_253,m29_256,m29_259,m29_262,m29_264,m29_265i,m29_267,m29_269,m29_271,m29_272,m29_273,m29_274,m29_277,m29_278,m29_281,m29_282u,m29_282i,m29_282r,m29_282g,m29_284,m29_286,m29_288,m29_291,m29_294,m29_295,m29_296,m29_297,m29_299,m29_300u,m29_300i,m29_300r,m29_300g,m29_304,m29_306,m29_309,m29_311,m29_313,m29_314u,m29_314i,m29_314r,m29_314g,m29_316,m29_318,m29_320,m29_322,m29_325,m29_326,m29_327,m29_328,m29_331,m29_332,m29_333,m29_335,m29_336,m29_337,m29_338,m29_340,m29_342,m29_344,m29_345,m29_347,m29_349,m29_351,m29_354,m29_357,m29_360,m29_361,m29_362,m29_365,m29_368,m29_370,m29_372,m29_374,m29_376,m29_377,m29_380,m29_382,m29_384,m29_385,m29_388u,m29_388i,m29_388r,m29_388g,m29_390,m29_392,m29_395,m29_396,m29_397u,m29_397i,m29_397r,m29_397g,m29_401,m29_403,m29_406,m29_408,m29_410,m29_411u,m29_411i,m29_411r,m29_411g,m29_413,m29_415,m29_416,m29_418,m29_420,m29_422,m29_425u,m29_425i,m29_425r,m29_425g,m29_427,m29_429,m29_430,m29_432,m29_433,m29_434,m29_437,m29_438,m29_439,m29_440,m29_441u,m29_441i,m29_441r,m29_441g,m29_443,m29_445,m29_448,m29_450,m29_453,m29_455,m29_457,m29_459,m29_460,m29_463,m29_465,m29_468,m29_469u,m29_469i,m29_469r,m29_469g,m29_471,m29_473,m29_475,m29_478,m29_480,m29_483,m29_484,m29_485,m29_488,m29_491,m29_493,m29_495,m29_497,m29_499,m29_500,m29_503,m29_505,m29_506,m29_509,m29_510,m29_511,m29_514,m29_516,m29_517,m29_520u,m29_520i,m29_520r,m29_520g,m29_522,m29_524,m29_526,m29_529u,m29_529i,m29_529r,m29_529g,m29_531,m29_533,m29_534,m29_537u,m29_537i,m29_537r,m29_537g,m29_539,m29_540u,m29_540i,m29_540r,m29_540g,m29_542,m29_543u,m29_543i,m29_543r,m29_543g,m29_547,m29_549,m29_552,m29_553u,m29_553i,m29_553r,m29_553g,m29_557,m29_559,m29_562,m29_564,m29_566,m29_569u,m29_569i,m29_569r,m29_569g,m29_571,m29_573,m29_575,m29_576,m29_577,m29_580,m29_583,m29_584u,m29_584i,m29_584r,m29_584g,m29_586,m29_587u,m29_587i,m29_587r,m29_587g,m29_591,m29_593,m29_596,m29_598,m29_601,m29_603,m29_605,m29_607,m29_608,m29_609,m29_610,m29_612,m29_613,m29_616,m29_618,m29_620,m29_622,m29_625,m29_628,m29_629i,m29_631,m29_634,m29_637,m29_639,m29_642,m29_644,m29_646,m29_649,m29_651,m29_653,m29_656,m29_658,m29_661,m29_663,m29_665,m29_668,m29_670,m29_673,m29_674,m29_675,m29_678,m29_681,m29_687,m29_690,m29_692,m29_694,m29_697,m29_698,m29_701,m29_702,nb0,nb1,ou_a,Option.toList_some,Option.toList_none,List.nil_append,List.cons_append]
        have go:=ih (k + 1) (.val (.int (nI l))) (.val (.int 0)) (.val (.int (nI j))) (by omega) (okS_n _) (okP_s (okS_i _) (okS_n _))
        rw [show LM ns sb ss sl sv p (k + 1) = LM ns sb ss sl sv p k from by show ms _ _ _ _ = _; rw [ms,if_neg no']] at go
        exact go
theorem fiP {T : Nat} (hC : SC w ns en N sb ss sl lab dl om s A) (hD : DY ns N d lab (SW sb ss sl) pr sv s A) (hT : T = (mtc ns (SW sb ss sl) sv d).length) (hF : Q (some (.int 1)) (put 1 [((FieldType.array .int,vs.map Value.int) : FieldType × List Value)] s A [])) : ∀ (r p : Nat) (l14 l15 l16 l17 : Slot),p + r = d→okP l14 l15→okP l16 l17→M29 545 [.val (.ref 0),l1,l2,l3,.val (.ref 1),l5,l6,l7,l8,.val (.int (nI d)),.val (.int (nI ns)),.val (.int (nI T)),.val (.int (nI (mtc ns (SW sb ss sl) sv p).length)),.val (.int (nI p)),l14,l15,l16,l17,l18,l19,l20,l21,l22,l23] [] (put 1 [((FieldType.array .int,vs.map Value.int) : FieldType × List Value)] s A []) Q:=by
  have dle:=hD.dl
  have n8:=hC.n8
  have tl:=mtc_len (sw:=SW sb ss sl) (sv:=sv) n8 d
  rw [← hT] at tl
  intro r
  induction r with
  | zero =>
    intro p l14 l15 l16 l17 e o14 o16
    obtain rfl : p = d:=by omega
    have c1 : (nI p < nI p) = False:=lF (by omega) (by omega)
    rw [← hT]
    rw [m29_545]
    simp [c1,m29_0,m29_1,m29_2,m29_5u,m29_6,m29_7,m29_8,m29_11,m29_13,m29_14,m29_16,m29_17u,m29_18,m29_19,m29_20,m29_23u,m29_24,m29_27,m29_28,m29_29,m29_32u,m29_34,m29_35,m29_37,m29_40,m29_42,m29_45,m29_46,m29_48,m29_51,m29_53,m29_56,m29_57u,m29_59,m29_60,m29_61,m29_63,m29_64,m29_65u,m29_67,m29_68u,m29_70,m29_71u,m29_75,m29_77,m29_80,m29_81,m29_83,m29_86,m29_89u,m29_89i,m29_89r,m29_89g,m29_91,m29_92,m29_94,m29_95,m29_96,m29_97u,m29_97i,m29_97r,m29_97g,m29_99,m29_100u,m29_100i,m29_100r,m29_100g,m29_104,m29_106,m29_109,m29_111,m29_113,m29_114,m29_116,m29_117,m29_118,m29_119,m29_120,m29_123,m29_126,m29_127,m29_128,m29_131,m29_134,m29_136,m29_139,m29_141,m29_144,m29_145,m29_146,m29_149,m29_152,m29_154,m29_157,m29_160,m29_161,m29_162,m29_163i,m29_167,m29_168,m29_168p,m29_169,m29_172,m29_174,m29_177,m29_180,m29_181,m29_183,m29_186,m29_186p,m29_187,m29_189,m29_190u,m29_190i,m29_190r,m29_190g,m29_192,m29_195,m29_197,m29_198,m29_201u,m29_201i,m29_201r,m29_201g,m29_203,m29_205,m29_207,m29_208,m29_210,m29_212,m29_213,m29_214u,m29_214i,m29_214r,m29_214g,m29_216,m29_218,m29_221,m29_222i,m29_224,m29_226,m29_229,m29_232,m29_235i,m29_237,m29_238,m29_240,m29_241,m29_242,m29_244,m29_245,m29_246u,m29_246i,m29_246r,m29_246g,m29_248,m29_250,m29_252,m29_253,m29_256,m29_259,m29_262,m29_264,m29_265i,m29_267,m29_269,m29_271,m29_272,m29_273,m29_274,m29_277,m29_278,m29_281,m29_282u,m29_282i,m29_282r,m29_282g,m29_284,m29_286,m29_288,m29_291,m29_294,m29_295,m29_296,m29_297,m29_299,m29_300u,m29_300i,m29_300r,m29_300g,m29_304,m29_306,m29_309,m29_311,m29_313,m29_314u,m29_314i,m29_314r,m29_314g,m29_316,m29_318,m29_320,m29_322,m29_325,m29_326,m29_327,m29_328,m29_331,m29_332,m29_333,m29_335,m29_336,m29_337,m29_338,m29_340,m29_342,m29_344,m29_345,m29_347,m29_349,m29_351,m29_354,m29_357,m29_360,m29_361,m29_362,m29_365,m29_368,m29_370,m29_372,m29_374,m29_376,m29_377,m29_380,m29_382,m29_384,m29_385,m29_388u,m29_388i,m29_388r,m29_388g,m29_390,m29_392,m29_395,m29_396,m29_397u,m29_397i,m29_397r,m29_397g,m29_401,m29_403,m29_406,m29_408,m29_410,m29_411u,m29_411i,m29_411r,m29_411g,m29_413,m29_415,m29_416,m29_418,m29_420,m29_422,m29_425u,m29_425i,m29_425r,m29_425g,m29_427,m29_429,m29_430,m29_432,m29_433,m29_434,m29_437,m29_438,m29_439,m29_440,m29_441u,m29_441i,m29_441r,m29_441g,m29_443,m29_445,m29_448,m29_450,m29_453,m29_455,m29_457,m29_459,m29_460,m29_463,m29_465,m29_468,m29_469u,m29_469i,m29_469r,m29_469g,m29_471,m29_473,m29_475,m29_478,m29_480,m29_483,m29_484,m29_485,m29_488,m29_491,m29_493,m29_495,m29_497,m29_499,m29_500,m29_503,m29_505,m29_506,m29_509,m29_510,m29_511,m29_514,m29_516,m29_517,m29_520u,m29_520i,m29_520r,m29_520g,m29_522,m29_524,m29_526,m29_529u,m29_529i,m29_529r,m29_529g,m29_531,m29_533,m29_534,m29_537u,m29_537i,m29_537r,m29_537g,m29_539,m29_540u,m29_540i,m29_540r,m29_540g,m29_542,m29_543u,m29_543i,m29_543r,m29_543g,m29_547,m29_549,m29_552,m29_553u,m29_553i,m29_553r,m29_553g,m29_557,m29_559,m29_562,m29_564,m29_566,m29_569u,m29_569i,m29_569r,m29_569g,m29_571,m29_573,m29_575,m29_576,m29_577,m29_580,m29_583,m29_584u,m29_584i,m29_584r,m29_584g,m29_586,m29_587u,m29_587i,m29_587r,m29_587g,m29_591,m29_593,m29_596,m29_598,m29_601,m29_603,m29_605,m29_607,m29_608,m29_609,m29_610,m29_612,m29_613,m29_616,m29_618,m29_620,m29_622,m29_625,m29_628,m29_629i,m29_631,m29_634,m29_637,m29_639,m29_642,m29_644,m29_646,m29_649,m29_651,m29_653,m29_656,m29_658,m29_661,m29_663,m29_665,m29_668,m29_670,m29_673,m29_674,m29_675,m29_678,m29_681,m29_684,m29_687,m29_690,m29_692,m29_694,m29_697,m29_698,m29_701,m29_702,nb0,nb1,ou_a,Option.toList_some,Option.toList_none,List.nil_append,List.cons_append]
    exact hF
  | succ r ih =>
    intro p l14 l15 l16 l17 e o14 o16
    have c1 : (nI p < nI d) = True:=lT (by omega) (by omega)
    obtain ⟨k15,ok15,e553⟩:=own_law_553 (H:=(put 1 [((FieldType.array .int,vs.map Value.int) : FieldType × List Value)] s A [])) (Q:=Q) (st:=[]) (v:=0) (l0:=.val (.ref 0)) (l1:=l1) (l2:=l2) (l3:=l3) (l4:=.val (.ref 1)) (l5:=l5) (l6:=l6) (l7:=l7) (l8:=l8) (l9:=.val (.int (nI d))) (l10:=.val (.int (nI ns))) (l11:=.val (.int (nI T))) (l12:=.val (.int (nI (mtc ns (SW sb ss sl) sv p).length))) (l13:=.val (.int (nI p))) (l16:=l16) (l17:=l17) (l18:=l18) (l19:=l19) (l20:=l20) (l21:=l21) (l22:=l22) (l23:=l23) o14
    rw [m29_545]
    simp [c1,m29_0,m29_1,m29_2,m29_5u,m29_6,m29_7,m29_8,m29_11,m29_13,m29_14,m29_16,m29_17u,m29_18,m29_19,m29_20,m29_23u,m29_24,m29_27,m29_28,m29_29,m29_32u,m29_34,m29_35,m29_37,m29_40,m29_42,m29_45,m29_46,m29_48,m29_51,m29_53,m29_56,m29_57u,m29_59,m29_60,m29_61,m29_63,m29_64,m29_65u,m29_67,m29_68u,m29_70,m29_71u,m29_75,m29_77,m29_80,m29_81,m29_83,m29_86,m29_89u,m29_89i,m29_89r,m29_89g,m29_91,m29_92,m29_94,m29_95,m29_96,m29_97u,m29_97i,m29_97r,m29_97g,m29_99,m29_100u,m29_100i,m29_100r,m29_100g,m29_104,m29_106,m29_109,m29_111,m29_113,m29_114,m29_116,m29_117,m29_118,m29_119,m29_120,m29_123,m29_126,m29_127,m29_128,m29_131,m29_134,m29_136,m29_139,m29_141,m29_144,m29_145,m29_146,m29_149,m29_152,m29_154,m29_157,m29_160,m29_161,m29_162,m29_163i,m29_167,m29_168,m29_168p,m29_169,m29_172,m29_174,m29_177,m29_180,m29_181,m29_183,m29_186,m29_186p,m29_187,m29_189,m29_190u,m29_190i,m29_190r,m29_190g,m29_192,m29_195,m29_197,m29_198,m29_201u,m29_201i,m29_201r,m29_201g,m29_203,m29_205,m29_207,m29_208,m29_210,m29_212,m29_213,m29_214u,m29_214i,m29_214r,m29_214g,m29_216,m29_218,m29_221,m29_222i,m29_224,m29_226,m29_229,m29_232,m29_235i,m29_237,m29_238,m29_240,m29_241,m29_242,m29_244,m29_245,m29_246u,m29_246i,m29_246r,m29_246g,m29_248,m29_250,m29_252,m29_253,m29_256,m29_259,m29_262,m29_264,m29_265i,m29_267,m29_269,m29_271,m29_272,m29_273,m29_274,m29_277,m29_278,m29_281,m29_282u,m29_282i,m29_282r,m29_282g,m29_284,m29_286,m29_288,m29_291,m29_294,m29_295,m29_296,m29_297,m29_299,m29_300u,m29_300i,m29_300r,m29_300g,m29_304,m29_306,m29_309,m29_311,m29_313,m29_314u,m29_314i,m29_314r,m29_314g,m29_316,m29_318,m29_320,m29_322,m29_325,m29_326,m29_327,m29_328,m29_331,m29_332,m29_333,m29_335,m29_336,m29_337,m29_338,m29_340,m29_342,m29_344,m29_345,m29_347,m29_349,m29_351,m29_354,m29_357,m29_360,m29_361,m29_362,m29_365,m29_368,m29_370,m29_372,m29_374,m29_376,m29_377,m29_380,m29_382,m29_384,m29_385,m29_388u,m29_388i,m29_388r,m29_388g,m29_390,m29_392,m29_395,m29_396,m29_397u,m29_397i,m29_397r,m29_397g,m29_401,m29_403,m29_406,m29_408,m29_410,m29_411u,m29_411i,m29_411r,m29_411g,m29_413,m29_415,m29_416,m29_418,m29_420,m29_422,m29_425u,m29_425i,m29_425r,m29_425g,m29_427,m29_429,m29_430,m29_432,m29_433,m29_434,m29_437,m29_438,m29_439,m29_440,m29_441u,m29_441i,m29_441r,m29_441g,m29_443,m29_445,m29_448,m29_450,m29_453,m29_455,m29_457,m29_459,m29_460,m29_463,m29_465,m29_468,m29_469u,m29_469i,m29_469r,m29_469g,m29_471,m29_473,m29_475,m29_478,m29_480,m29_483,m29_484,m29_485,m29_488,m29_491,m29_493,m29_495,m29_497,m29_499,m29_500,m29_503,m29_505,m29_506,m29_509,m29_510,m29_511,m29_514,m29_516,m29_517,m29_520u,m29_520i,m29_520r,m29_520g,m29_522,m29_524,m29_526,m29_529u,m29_529i,m29_529r,m29_529g,m29_531,m29_533,m29_534,m29_537u,m29_537i,m29_537r,m29_537g,m29_539,m29_540u,m29_540i,m29_540r,m29_540g,m29_542,m29_543u,m29_543i,m29_543r,m29_543g,m29_547,m29_549,m29_552,m29_553g,m29_557,m29_559,m29_562,m29_564,m29_566,m29_569u,m29_569i,m29_569r,m29_569g,m29_571,m29_573,m29_575,m29_576,m29_577,m29_580,m29_583,m29_584u,m29_584i,m29_584r,m29_584g,m29_586,m29_587u,m29_587i,m29_587r,m29_587g,m29_591,m29_593,m29_596,m29_598,m29_601,m29_603,m29_605,m29_607,m29_608,m29_609,m29_610,m29_612,m29_613,m29_616,m29_618,m29_620,m29_622,m29_625,m29_628,m29_629i,m29_631,m29_634,m29_637,m29_639,m29_642,m29_644,m29_646,m29_649,m29_651,m29_653,m29_656,m29_658,m29_661,m29_663,m29_665,m29_668,m29_670,m29_673,m29_674,m29_675,m29_678,m29_681,m29_684,m29_687,m29_690,m29_692,m29_694,m29_697,m29_698,m29_701,m29_702,nb0,nb1,ou_a,Option.toList_some,Option.toList_none,List.nil_append,List.cons_append]
    rw [e553]
    refine fiS (p:=p) (T:=T) hC hD (by omega) hT (fun l14 l15 l16 l17 p14 p16 => ?_) ns 0 _ _ _ (by omega) ok15 o16
    simp [nI_1,m29_0,m29_1,m29_2,m29_5u,m29_6,m29_7,m29_8,m29_11,m29_13,m29_14,m29_16,m29_17u,m29_18,m29_19,m29_20,m29_23u,m29_24,m29_27,m29_28,m29_29,m29_32u,m29_34,m29_35,m29_37,m29_40,m29_42,m29_45,m29_46,m29_48,m29_51,m29_53,m29_56,m29_57u,m29_59,m29_60,m29_61,m29_63,m29_64,m29_65u,m29_67,m29_68u,m29_70,m29_71u,m29_75,m29_77,m29_80,m29_81,m29_83,m29_86,m29_89u,m29_89i,m29_89r,m29_89g,m29_91,m29_92,m29_94,m29_95,m29_96,m29_97u,m29_97i,m29_97r,m29_97g,m29_99,m29_100u,m29_100i,m29_100r,m29_100g,m29_104,m29_106,m29_109,m29_111,m29_113,m29_114,m29_116,m29_117,m29_118,m29_119,m29_120,m29_123,m29_126,m29_127,m29_128,m29_131,m29_134,m29_136,m29_139,m29_141,m29_144,m29_145,m29_146,m29_149,m29_152,m29_154,m29_157,m29_160,m29_161,m29_162,m29_163i,m29_167,m29_168,m29_168p,m29_169,m29_172,m29_174,m29_177,m29_180,m29_181,m29_183,m29_186,m29_186p,m29_187,m29_189,m29_190u,m29_190i,m29_190r,m29_190g,m29_192,m29_195,m29_197,m29_198,m29_201u,m29_201i,m29_201r,m29_201g,m29_203,m29_205,m29_207,m29_208,m29_210,m29_212,m29_213,m29_214u,m29_214i,m29_214r,m29_214g,m29_216,m29_218,m29_221,m29_222i,m29_224,m29_226,m29_229,m29_232,m29_235i,m29_237,m29_238,m29_240,m29_241,m29_242,m29_244,m29_245,m29_246u,m29_246i,m29_246r,m29_246g,m29_248,m29_250,m29_252,m29_253,m29_256,m29_259,m29_262,m29_264,m29_265i,m29_267,m29_269,m29_271,m29_272,m29_273,m29_274,m29_277,m29_278,m29_281,m29_282u,m29_282i,m29_282r,m29_282g,m29_284,m29_286,m29_288,m29_291,m29_294,m29_295,m29_296,m29_297,m29_299,m29_300u,m29_300i,m29_300r,m29_300g,m29_304,m29_306,m29_309,m29_311,m29_313,m29_314u,m29_314i,m29_314r,m29_314g,m29_316,m29_318,m29_320,m29_322,m29_325,m29_326,m29_327,m29_328,m29_331,m29_332,m29_333,m29_335,m29_336,m29_337,m29_338,m29_340,m29_342,m29_344,m29_345,m29_347,m29_349,m29_351,m29_354,m29_357,m29_360,m29_361,m29_362,m29_365,m29_368,m29_370,m29_372,m29_374,m29_376,m29_377,m29_380,m29_382,m29_384,m29_385,m29_388u,m29_388i,m29_388r,m29_388g,m29_390,m29_392,m29_395,m29_396,m29_397u,m29_397i,m29_397r,m29_397g,m29_401,m29_403,m29_406,m29_408,m29_410,m29_411u,m29_411i,m29_411r,m29_411g,m29_413,m29_415,m29_416,m29_418,m29_420,m29_422,m29_425u,m29_425i,m29_425r,m29_425g,m29_427,m29_429,m29_430,m29_432,m29_433,m29_434,m29_437,m29_438,m29_439,m29_440,m29_441u,m29_441i,m29_441r,m29_441g,m29_443,m29_445,m29_448,m29_450,m29_453,m29_455,m29_457,m29_459,m29_460,m29_463,m29_465,m29_468,m29_469u,m29_469i,m29_469r,m29_469g,m29_471,m29_473,m29_475,m29_478,m29_480,m29_483,m29_484,m29_485,m29_488,m29_491,m29_493,m29_495,m29_497,m29_499,m29_500,m29_503,m29_505,m29_506,m29_509,m29_510,m29_511,m29_514,m29_516,m29_517,m29_520u,m29_520i,m29_520r,m29_520g,m29_522,m29_524,m29_526,m29_529u,m29_529i,m29_529r,m29_529g,m29_531,m29_533,m29_534,m29_537u,m29_537i,m29_537r,m29_537g,m29_539,m29_540u,m29_540i,m29_540r,m29_540g,m29_542,m29_543u,m29_543i,m29_543r,m29_543g,m29_547,m29_549,m29_552,m29_553u,m29_553i,m29_553r,m29_553g,m29_557,m29_559,m29_562,m29_564,m29_566,m29_569u,m29_569i,m29_569r,m29_569g,m29_571,m29_573,m29_575,m29_576,m29_577,m29_580,m29_583,m29_584u,m29_584i,m29_584r,m29_584g,m29_586,m29_587u,m29_587i,m29_587r,m29_587g,m29_591,m29_593,m29_596,m29_598,m29_601,m29_603,m29_605,m29_607,m29_608,m29_609,m29_610,m29_612,m29_613,m29_616,m29_618,m29_620,m29_622,m29_625,m29_628,m29_629i,m29_631,m29_634,m29_637,m29_639,m29_642,m29_644,m29_646,m29_649,m29_651,m29_653,m29_656,m29_658,m29_661,m29_663,m29_665,m29_668,m29_670,m29_673,m29_674,m29_675,m29_678,m29_681,m29_684,m29_687,m29_690,m29_692,m29_694,m29_697,m29_698,m29_701,m29_702,nb0,nb1,ou_a,Option.toList_some,Option.toList_none,List.nil_append,List.cons_append]
    exact ih (p + 1) _ _ _ _ (by omega) p14 p16
set_option maxRecDepth 1000000 in
set_option maxHeartbeats 20000000 in
theorem sgR {sd : Int32} (hlen : vs.length≤260) (hF : ∀ s' A',LN A'→Q (some (.int 1)) (put 1 [((FieldType.array .int,vs.map Value.int) : FieldType × List Value)] s' A' [])) : ∀ (r pos sg d : Nat) (pr : Nat→Bool) (sv : Nat→Nat) (l9 l10 l11 l12 l13 l14 l15 l16 l17 l18 l19 l20 l21 l22 l23 : Slot) (s : Nat→Int32) (A : Nat→List Int32),vs.length≤pos + r→pos≤400→sg≤pos→SC w ns en N sb ss sl lab dl om s A→DY ns N d lab (SW sb ss sl) pr sv s A→s 13 = 0→okS l9→okS l10→okS l11→okS l12→okS l13→okP l14 l15→okP l16 l17→okS l18→okS l19→okS l20→okS l21→okS l22→okS l23→M29 165 [.val (.ref 0),l1,l2,.val (.int (sd)),.val (.ref 1),.val (.int (nI w)),l6,.val (.int (nI pos)),.val (.int (nI sg)),l9,l10,l11,l12,l13,l14,l15,l16,l17,l18,l19,l20,l21,l22,l23] [] (put 1 [((FieldType.array .int,vs.map Value.int) : FieldType × List Value)] s A []) Q:=by
  intro r
  have out : ∀ (pos sg d : Nat) (pr : Nat→Bool) (sv : Nat→Nat) (l9 l10 l11 l12 l13 l14 l15 l16 l17 l18 l19 l20 l21 l22 l23 : Slot) (s : Nat→Int32) (A : Nat→List Int32),SC w ns en N sb ss sl lab dl om s A→DY ns N d lab (SW sb ss sl) pr sv s A→okS l9→okS l10→okS l11→okS l12→okS l13→okP l14 l15→okP l16 l17→M29 514 [.val (.ref 0),l1,l2,.val (.int (sd)),.val (.ref 1),.val (.int (nI w)),l6,.val (.int (nI pos)),.val (.int (nI sg)),l9,l10,l11,l12,l13,l14,l15,l16,l17,l18,l19,l20,l21,l22,l23] [] (put 1 [((FieldType.array .int,vs.map Value.int) : FieldType × List Value)] s A []) Q:=by
    intro pos sg d pr sv l9 l10 l11 l12 l13 l14 l15 l16 l17 l18 l19 l20 l21 l22 l23 s A hC hD o9 o10 o11 o12 o13 o14 o16
    have s7:=hD.s7
    have s2:=hC.s2
    have s16:=hD.mt
    obtain ⟨T,hT⟩ : ∃ T,T = (mtc ns (SW sb ss sl) sv d).length:=⟨_,rfl⟩
    rw [← hT] at s16
    simp [st0 s7,st5 s16,st6 s2,o9,o10,o11,o12,o13,m29_514,m29_516,m29_517,m29_520u,m29_520i,m29_520r,m29_520g,m29_522,m29_524,m29_526,m29_529u,m29_529i,m29_529r,m29_529g,m29_531,m29_533,m29_534,m29_537u,m29_537i,m29_537r,m29_537g,m29_539,m29_540u,m29_540i,m29_540r,m29_540g,m29_542,m29_543u,m29_543i,m29_543r,m29_543g,nb0,nb1,ou_a,Option.toList_some,Option.toList_none,List.nil_append,List.cons_append]
    exact fiP (T:=T) hC hD hT (hF s A hC.ln) d 0 _ _ _ _ (by omega) o14 o16
  induction r with
  | zero =>
    intro pos sg d pr sv l9 l10 l11 l12 l13 l14 l15 l16 l17 l18 l19 l20 l21 l22 l23 s A e hp hg hC hD s13 o9 o10 o11 o12 o13 o14 o16 o18 o19 o20 o21 o22 o23
    have c1 : (nI pos < vs.length.toInt32) = False:=lF (c:=vs.length) (by omega) (by omega)
    rw [m29_165]
    simp [c1,m29_167,m29_168,m29_168p,m29_169,m29_172,m29_174,m29_177,m29_180,m29_181,m29_183,m29_186,m29_186p,m29_187,m29_189,m29_190u,m29_190i,m29_190r,m29_190g,m29_192,nb0,nb1,ou_a,Option.toList_some,Option.toList_none,List.nil_append,List.cons_append]
    exact out pos sg d pr sv _ _ _ _ _ _ _ _ _ _ _ _ _ _ _ s A hC hD o9 o10 o11 o12 o13 o14 o16
  | succ r ih =>
    intro pos sg d pr sv l9 l10 l11 l12 l13 l14 l15 l16 l17 l18 l19 l20 l21 l22 l23 s A e hp hg hC hD s13 o9 o10 o11 o12 o13 o14 o16 o18 o19 o20 o21 o22 o23
    rw [m29_165]
    by_cases z : pos < vs.length
    · have c1 : (nI pos < vs.length.toInt32) = True:=lT (c:=vs.length) z (by omega)
      have c2 : (nI sg < 300) = True:=lT (c:=300) (by omega) (by decide)
      have x0 : inB (nI pos) vs:=nI_in z (by omega)
      have eU : getA vs (nI pos) &&& 2147483647 = nI (am 31 (getA vs (nI pos))):=and_am (k:=31) (by decide) _
      have bU:=am_lt 31 (getA vs (nI pos))
      simp [c1,c2,x0,eU,o9,nI_1,m29_167,m29_168,m29_168p,m29_169,m29_172,m29_174,m29_177,m29_180,m29_181,m29_183,m29_186,m29_186p,m29_187,m29_189,m29_190u,m29_190i,m29_190r,m29_190g,m29_192,nb0,nb1,ou_a,Option.toList_some,Option.toList_none,List.nil_append,List.cons_append]
      generalize am 31 (getA vs (nI pos)) = U at *
      refine sgU (sd:=sd) (U:=U) (d:=d) (pr:=pr) (sv:=sv) (by omega) hC hD s13 o10 o11 o12 o13 o14 o16 o18 o19 o20 o21 o22 o23 (fun d' pr' sv' l9 l10 l11 l12 l13 l14 l15 l16 l17 l18 l19 l20 l21 l22 l23 s' A' k1 k2 k3 p9 p10 p11 p12 p13 p14 p16 p18 p19 p20 p21 p22 p23 => ?_)
      exact ih (pos + 1) (sg + 1) d' pr' sv' _ _ _ _ _ _ _ _ _ _ _ _ _ _ _ s' A' (by omega) (by omega) (by omega) k1 k2 k3 p9 p10 p11 p12 p13 p14 p16 p18 p19 p20 p21 p22 p23
    · have c1 : (nI pos < vs.length.toInt32) = False:=lF (c:=vs.length) (by omega) (by omega)
      simp [c1,m29_167,m29_168,m29_168p,m29_169,m29_172,m29_174,m29_177,m29_180,m29_181,m29_183,m29_186,m29_186p,m29_187,m29_189,m29_190u,m29_190i,m29_190r,m29_190g,m29_192,nb0,nb1,ou_a,Option.toList_some,Option.toList_none,List.nil_append,List.cons_append]
      exact out pos sg d pr sv _ _ _ _ _ _ _ _ _ _ _ _ _ _ _ s A hC hD o9 o10 o11 o12 o13 o14 o16
end Law
set_option maxRecDepth 1000000 in
set_option maxHeartbeats 20000000 in
theorem own_k {vs : List Int32} {Q : Option Value→AHeap→Prop} (hlen : vs.length≤260) (hF : ∀ s A,LN A→Q (some (.int 1)) (put 1 [((FieldType.array .int,vs.map Value.int) : FieldType × List Value)] s A [])) : M29 0 [.val (.ref 0),.unset,.unset,.unset,.unset,.unset,.unset,.unset,.unset,.unset,.unset,.unset,.unset,.unset,.unset,.unset,.unset,.unset,.unset,.unset,.unset,.unset,.unset,.unset] [] [((FieldType.array .int,vs.map Value.int) : FieldType × List Value)] Q:=by
  have fin : ∀ (w : Nat) (c0 wd sd : Int32) (s : Nat→Int32),8≤w∧w≤64→s 0 = nI w→s 1 = 0→s 2 = 0→s 3 = 0→s 4 = 0→s 7 = 0→s 13 = 0→s 16 = 0→M29 59 [.val (.ref 0),.val (.int c0),.val (.int wd),.val (.int sd),.val (.ref 1),.val (.int (nI w)),.unset,.unset,.unset,.unset,.unset,.unset,.unset,.unset,.unset,.unset,.unset,.unset,.unset,.unset,.unset,.unset,.unset,.unset] [] (put 1 [((FieldType.array .int,vs.map Value.int) : FieldType × List Value)] s A0 []) Q:=by
    intro w c0 wd sd s hw s0 s1 s2 s3 s4 s7 s13 s16
    have e1 : c0 &&& 7 = nI (am 3 c0):=and_am (k:=3) (by decide) _
    have b1:=am_lt 3 c0
    have e2 : (1 : Int32) + nI (am 3 c0) = nI (1 + am 3 c0):=nI_add 1 _
    simp [e1,e2,m29_59,m29_60,m29_61,m29_63,m29_64,m29_65u,m29_67,m29_68u,m29_70,m29_71u,nb0,nb1,ou_a,Option.toList_some,Option.toList_none,List.nil_append,List.cons_append]
    refine buK (w:=w) (ng:=1 + am 3 c0) hlen (by omega) (1 + am 3 c0) 0 3 0 (fun _ => 0) (fun _ => 0) (fun _ => 0) _ _ _ s A0 (by omega) (by omega) ⟨s1,s2,s3,s4,fun _ h => absurd h (by omega),fun _ h => absurd h (by omega),fun _ h => absurd h (by omega),fun _ h => absurd h (by omega),fun _ h => absurd h (by omega),by omega,by omega,by omega,fun _ => rfl⟩ ⟨s0,hw,s7,s13,s16,fun i hi => A0g_7 _,fun i hi => A0g_8 _⟩ okS_u okS_u okS_u (fun pos en sb ss sl l9 l10 l11 s1 A1 hp o9 o10 o11 hS hR => ?_)
    simp [m29_152,m29_154,m29_157,m29_160,m29_161,nb0,nb1,ou_a,Option.toList_some,Option.toList_none,List.nil_append,List.cons_append]
    refine coW (b:=0) hS (by omega) (fun N lab dl om s2 A2 k1 k2 k3 k4 k5 k6 => ?_)
    simp [m29_157,m29_160,m29_161,m29_162,m29_163i,nb0,nb1,ou_a,Option.toList_some,Option.toList_none,List.nil_append,List.cons_append]
    have ls : IsLS (TS N lab) (tx (fun _ => 0) 0) (lab 0):=⟨by rw [k1.l0]; exact List.nil_prefix,⟨0,k1.n0,rfl⟩,fun z hz _ => by rw [k1.l0]; exact hz⟩
    refine sgR (w:=w) (ns:=1 + am 3 c0) (en:=en) (N:=N) (sb:=sb) (ss:=ss) (sl:=sl) (lab:=lab) (dl:=dl) (om:=om) hlen hF 400 pos 0 0 (fun _ => false) (fun _ => 0) _ _ _ _ _ _ _ _ _ _ _ _ _ _ _ s2 A2 (by omega) (by omega) (by omega) ⟨(k4 0 (by decide) (by decide) (by decide)).trans hR.s0,hw,k5,(k4 2 (by decide) (by decide) (by decide)).trans hS.s2,by omega,by rw [k3 0 (by decide)]; exact hS.a0,by rw [k3 1 (by decide)]; exact hS.a1,by rw [k3 2 (by decide)]; exact hS.a2,hS.bb,hS.ll,by have:=hS.en; omega,k1,k2⟩ ⟨(k4 7 (by decide) (by decide) (by decide)).trans hR.s7,by omega,by rw [k3 7 (by decide)]; exact hR.a7,by rw [k3 8 (by decide)]; exact hR.a8,fun _ _ => Nat.zero_le _,fun i hi => absurd hi (by omega),⟨0,k1.n0,k6,ls⟩,(k4 16 (by decide) (by decide) (by decide)).trans hR.s16,fun i a hi he => by cases he⟩ ((k4 13 (by decide) (by decide) (by decide)).trans hR.s13) o9 o10 o11 okS_u okS_u okP_u okP_u okS_u okS_u okS_u okS_u okS_u okS_u
  simp [m29_0,m29_1,m29_2,nb0,nb1,ou_a,Option.toList_some,Option.toList_none,List.nil_append,List.cons_append]
  refine cellR (j:=0) hlen (by decide) (fun c0 => ?_)
  simp [m29_5u,m29_6,m29_7,m29_8,nb0,nb1,ou_a,Option.toList_some,Option.toList_none,List.nil_append,List.cons_append]
  refine cellR (j:=1) hlen (by decide) (fun c1 => ?_)
  have e1 : c1 &&& 2147483647 = nI (am 31 c1):=and_am (k:=31) (by decide) _
  have b1:=am_lt 31 c1
  have e2 : nI (am 31 c1) % 80 = nI (am 31 c1 % 80):=nI_mod (c:=80) (by omega) (by decide)
  have b2 : am 31 c1 % 80 < 80:=Nat.mod_lt _ (by decide)
  simp [e1,e2,m29_11,m29_13,m29_14,m29_16,m29_17u,m29_18,m29_19,m29_20,nb0,nb1,ou_a,Option.toList_some,Option.toList_none,List.nil_append,List.cons_append]
  refine cellR (j:=2) hlen (by decide) (fun c2 => ?_)
  simp [m29_23u,m29_24,m29_27,m29_28,m29_29,nb0,nb1,ou_a,Option.toList_some,Option.toList_none,List.nil_append,List.cons_append]
  refine Eq.mpr (own_ctor0 (pre:=[((FieldType.array .int,vs.map Value.int) : FieldType × List Value)]) (b:=1) rfl (Nat.le_refl 1)) ?_
  generalize am 31 c1 % 80 = k at *
  by_cases z : k < 8
  · have z1 : (nI k < 8) = True:=lT (c:=8) z (by omega)
    simp [z1,m0_0,m0_1,m0_4,m0_5,m0_12,m0_13,m0_20,m0_21,m0_28,m0_29,m0_37,m0_38,m0_45,m0_46,m0_53,m0_54,m0_61,m0_62,m0_70,m0_71,m0_79,m0_80,m0_87,m0_88,m0_95,m0_96,m0_103,m0_104u,m0_105,m0_106,m0_108,m0_111,m0_113i,m0_114,m0_115,m0_117,m0_120,m0_122i,m0_123,m0_124,m0_125,m0_128,m0_129,m0_130,m0_133,m0_134,m0_135,m0_138,m0_139,m0_140,m0_143,m0_144,m0_145,m0_148,m0_149,m0_150,m0_153,m0_154,m0_155,m0_158,m0_159,m0_160,m0_163,m0_164,m0_165,m0_168,m0_169,m0_170,m0_173,m0_174,m0_175,m0_178,m0_179,m0_180,m0_183,m0_184,m0_185,m0_188,m0_189,m0_190,m0_193,m0_194,m0_195,m0_198,m0_199,m0_200,m0_203,m0_204,m0_205,m0_208,m29_32u,m29_34,m29_35,m29_37,m29_40,m29_42,m29_45,m29_46,m29_48,m29_51,m29_53,m29_56,m29_57u,nb0,nb1,ou_a,Option.toList_some,Option.toList_none,List.nil_append,List.cons_append]
    exact fin 8 _ _ _ _ (by omega) rfl rfl rfl rfl rfl rfl rfl rfl
  · have z1 : (nI k < 8) = False:=lF (c:=8) (by omega) (by omega)
    by_cases y : 64 < k
    · have y1 : (64 < nI k) = True:=lT (a:=64) y (by omega)
      simp [z1,y1,m0_0,m0_1,m0_4,m0_5,m0_12,m0_13,m0_20,m0_21,m0_28,m0_29,m0_37,m0_38,m0_45,m0_46,m0_53,m0_54,m0_61,m0_62,m0_70,m0_71,m0_79,m0_80,m0_87,m0_88,m0_95,m0_96,m0_103,m0_104u,m0_105,m0_106,m0_108,m0_111,m0_113i,m0_114,m0_115,m0_117,m0_120,m0_122i,m0_123,m0_124,m0_125,m0_128,m0_129,m0_130,m0_133,m0_134,m0_135,m0_138,m0_139,m0_140,m0_143,m0_144,m0_145,m0_148,m0_149,m0_150,m0_153,m0_154,m0_155,m0_158,m0_159,m0_160,m0_163,m0_164,m0_165,m0_168,m0_169,m0_170,m0_173,m0_174,m0_175,m0_178,m0_179,m0_180,m0_183,m0_184,m0_185,m0_188,m0_189,m0_190,m0_193,m0_194,m0_195,m0_198,m0_199,m0_200,m0_203,m0_204,m0_205,m0_208,m29_32u,m29_34,m29_35,m29_37,m29_40,m29_42,m29_45,m29_46,m29_48,m29_51,m29_53,m29_56,m29_57u,nb0,nb1,ou_a,Option.toList_some,Option.toList_none,List.nil_append,List.cons_append]
      exact fin 64 _ _ _ _ (by omega) rfl rfl rfl rfl rfl rfl rfl rfl
    · have y1 : (64 < nI k) = False:=lF (a:=64) (by omega) (by omega)
      simp [z1,y1,m0_0,m0_1,m0_4,m0_5,m0_12,m0_13,m0_20,m0_21,m0_28,m0_29,m0_37,m0_38,m0_45,m0_46,m0_53,m0_54,m0_61,m0_62,m0_70,m0_71,m0_79,m0_80,m0_87,m0_88,m0_95,m0_96,m0_103,m0_104u,m0_105,m0_106,m0_108,m0_111,m0_113i,m0_114,m0_115,m0_117,m0_120,m0_122i,m0_123,m0_124,m0_125,m0_128,m0_129,m0_130,m0_133,m0_134,m0_135,m0_138,m0_139,m0_140,m0_143,m0_144,m0_145,m0_148,m0_149,m0_150,m0_153,m0_154,m0_155,m0_158,m0_159,m0_160,m0_163,m0_164,m0_165,m0_168,m0_169,m0_170,m0_173,m0_174,m0_175,m0_178,m0_179,m0_180,m0_183,m0_184,m0_185,m0_188,m0_189,m0_190,m0_193,m0_194,m0_195,m0_198,m0_199,m0_200,m0_203,m0_204,m0_205,m0_208,m29_32u,m29_34,m29_35,m29_37,m29_40,m29_42,m29_45,m29_46,m29_48,m29_51,m29_53,m29_56,m29_57u,nb0,nb1,ou_a,Option.toList_some,Option.toList_none,List.nil_append,List.cons_append]
      exact fin k _ _ _ _ (by omega) rfl rfl rfl rfl rfl rfl rfl rfl
set_option maxRecDepth 1000000 in
set_option maxHeartbeats 20000000 in
theorem own_law (vs : List Int32) (hlen : vs.length≤260) : W tables_1 dn 1 x code ret 0 (entry [.ref 0] maxLocals) [] [(FieldType.array .int,vs.map Value.int)] (fun v H1 => v = some (.int 1)∧H1.length - ([(FieldType.array .int,vs.map Value.int)] : AHeap).length≤40∧tot tables_1 H1 - tot tables_1 [(FieldType.array .int,vs.map Value.int)]≤35328):=by
  show M29 0 [.val (.ref 0),.unset,.unset,.unset,.unset,.unset,.unset,.unset,.unset,.unset,.unset,.unset,.unset,.unset,.unset,.unset,.unset,.unset,.unset,.unset,.unset,.unset,.unset,.unset] [] [(FieldType.array .int,vs.map Value.int)] _
  refine own_k hlen (fun s' A' hq => ⟨rfl,?_,?_⟩)
  · rw [put_len]; simp
  · have hq : ∀ i,(A' i).length = (A0 i).length:=hq
    rw [put_tot,pad_1]
    simp only [hq,put_len,put_tot,pad_0,tot_nil,List.length_nil,List.length_cons,A0l_0,A0l_1,A0l_2,A0l_3,A0l_4,A0l_5,A0l_6,A0l_7,A0l_8,A0l_9,A0l_10,A0l_11]
    omega
theorem own_dn : ∀ f' l',dnOf dn x = some (f',l')→f'≤room_1.frames∧l'≤room_1.locals:=by
  have h : dnOf dn x = some (4,61):=by decide +kernel
  intro f' l' q; rw [h] at q; cases q; decide
theorem own_pn : Jvm.plainName x.cls = true:=by first | (simp [Jvm.plainName,overriddenIn,x]; done) | decide +kernel
theorem own_rm (l : Launch) (Z : State) (a0 : Array Value) (hw : ∀ d ∈ tables_1,d.before a0 Z = true) (vs : List Int32) (hlen : vs.length≤260) (h : Heap) (a : Addr) (cl : Cell) (Ar : Arr Z h a cl .int) (ev : cl.slots = (vs.map Value.int).toArray) :
    MetFree l x (head1 (Jvm.Cond.code x code maxLocals ret::tables_1) room_1) (fun A U => A = #[.ref a]∧Z.Warmed39 U.vm∧U.heap = h) (fun _ _ _ _ _ => True) (fun _ U o U' => ∃ w L,o = .returned w∧(w = some (.int 1)∧Fr h.size L)∧FrameEnd U o U' L 40 35328) :=
  law_of (as:=[.ref 0]) (mx:=maxLocals) (f:=room_1.frames) (lc:=room_1.locals) hw l tables_1 own_pn (by show 1≤24; omega) (own_law vs hlen) own_dn (Sim.script tables_1 Ar ev)
set_option maxRecDepth 65536 in
set_option maxHeartbeats 40000000 in
theorem comes_1 {Post : Tables→Env→Array Value→State→Outcome→State→Prop} (hpost : ∀ tb e args s v u,(limb_1_1.after args s (.returned v) u = true∧limb_1_2.after args s (.returned v) u = true∧True)→FrameEnd s (.returned v) u (Jvm.fieldLocs frame_1_writes args s ++ Jvm.arrayLocs frame_1_arrays args s ++ Jvm.staticLocs frame_1_statics s) 40 35328→Post tb e args s (.returned v) u) :
    ArmFor flags0 classFile x code maxLocals ret World_1 tables_1 room_1 Calls_1 rest_1 Pre_1 Post:=by
  intro l hfl _ _ p e ha hc hk s m args below hf hA hF happ hP
  obtain ⟨hcalls,hrest,hpre⟩:=hP
  obtain ⟨-,-,-,hnamed,-,-,-,hat⟩:=(Spec.applies_iff hf).mp happ
  obtain ⟨hg,hn⟩:=and_e (Cond.before_iff.mp (show (Jvm.Cond.and given_1 narrow_1).before args s = true from hpre))
  obtain ⟨g0,q0⟩:=and_e hg
  obtain ⟨w0,rfl⟩ : ∃ w0 : Value,args = #[w0]:=by
    have hs : args.size = 1:=by simpa [Cond.value,given_1] using g0
    obtain ⟨L⟩:=args
    match L,hs with
    | [w0],_ => exact ⟨w0,rfl⟩
  have hw:=fun d (hd : d ∈ tables_1) => atoms_spec (ws:=Jvm.Cond.code x code maxLocals ret::tables_1) hat d (List.mem_cons_of_mem _ hd)
  have hfit : Fit s:=fun {y c} hc i hi => by
    obtain ⟨ha,rfl⟩:=Array.getElem?_eq_some_iff.mp hc
    have q:=List.all_eq_true.mp ((Array.all_eq_true_iff_forall_mem.mp hF) _ (Array.getElem_mem ha)) i (List.mem_range.mpr hi)
    simpa [Array.getElem?_eq_getElem hi] using q
  obtain ⟨n1,n2⟩:=and_e hn
  obtain ⟨a,ea⟩:=arr_v n1
  obtain rfl : w0 = .ref a:=Option.some.inj ea
  obtain ⟨cl,Ar⟩:=Arr.start ea n1
  obtain ⟨r1,-⟩:=and_e (Cond.before_iff.mp (show rest_1_c.before _ s = true from hrest))
  obtain ⟨z,ez⟩:=is_v r1
  have hat':=Ar.fin (Vm.Alike.refl _)
  have hsz : cl.slots.size < 2 ^ 31∧z = cl.slots.size.toInt32:=by
    simp only [Term.eval] at ea ez
    simp only [ea,hat',Option.bind_eq_bind,Option.bind_some] at ez
    split at ez
    · rename_i hlt; exact ⟨hlt,by simpa using ez.symm⟩
    · cases ez
  obtain ⟨vs,ev⟩:=script_of hfit Ar hsz.1
  have hlen : vs.length≤260:=by
    have e1 : cl.slots.size = vs.length:=by rw [ev]; simp
    have e2:=len_toInt hsz.1
    have n3:=Cond.le_ints (a:=.length (.arg 0)) (b:=.int 260) ez (Term.int_eval _)
    rw [n2] at n3
    have n4:=of_decide_eq_true (Option.some.inj n3).symm
    rw [Int32.le_iff_toInt_le,hsz.2,e2] at n4
    have e3 : (260 : Int32).toInt = 260:=by decide
    rw [e3] at n4
    omega
  obtain ⟨n,o,h1,h2,h3,_,L,rfl,⟨rfl,N⟩,hq⟩:=own_rm l s _ hw vs hlen s.heap a cl Ar ev p e ha hc hk s m _ below hf ((Spec.applies_iff_loose hf).mp happ).1 ⟨rfl,State.Warmed39.refl s,rfl⟩ trivial
  exact ⟨n,_,h1,h2,h3,hpost _ _ _ _ _ _ ⟨Cond.after_iff.mpr rfl,Cond.after_iff.mpr (eq_i res_at (Term.int_eval (1)) rfl),trivial⟩ ⟨hq.1,hq.2.1,(hq.2.2.sift fun y hy => Or.inr (N y hy)).mono (by decide) (by decide)⟩⟩
theorem main_1_1 : Claimed_1_1:=comes_1 fun _ _ _ _ _ _ h hF => ⟨h.1,hF⟩
theorem main_1_2 : Claimed_1_2:=comes_1 fun _ _ _ _ _ _ h hF => ⟨h.2.1,hF⟩
end Jvm.Pilot.@@N@@
namespace Jvm.Pilot.@@N@@
open Jvm Jvm.ClassFile Sem Op Lib Jvm.Free Jvm.Stand Jvm.Pilot.@@N@@.Jvm.D
/-! MADE BY PROGRAM (witnessworld.py) out of the Statement's table words and the real class files: 11 classes; the members and pool entries that the words name. The judged class is class 1, her method 5. -/
namespace start1
open Jvm.ClassFile
def u (s : String) : CpInfo:=.utf8 (stringToUtf16 s)
/-- a pool by its gaps: so many unusable entries, then the entry; so many at the end -/
def gap : Nat→List CpInfo→List CpInfo
  | 0,r => r
  | n + 1,r => .unusable::gap n r
def poolList (es : List (Nat × CpInfo)) (last : Nat) : List CpInfo:=es.foldr (fun e r => gap e.1 (e.2::r)) (gap last [])
def pool (es : List (Nat × CpInfo)) (last : Nat) : Array CpInfo:=⟨poolList es last⟩
def fileOf (pool : Array CpInfo) (this : Nat) (attrs : Array Attribute:=#[]) (ms : Array MethodInfo:=#[]) (fl : Nat:=33) (sup : Nat:=0) (ifs : Array Nat:=#[]) (fds : Array FieldInfo:=#[]) : ClassFile where
  minorVersion:=0
  majorVersion:=65
  constantPool:=pool
  accessFlags:=fl
  thisClass:=this
  superClass:=sup
  interfaces:=ifs
  fields:=fds
  methods:=ms
  attributes:=attrs
def plain (name : String) (sup : Option ClassId) : Class where
  name:=name
  kind:=.ordinary
  loader:=none
  accessFlags:=33
  super:=sup
  interfaces:=#[]
  cf:=none
  fields:=#[]
  methods:=#[]
  instanceTypes:=#[]
  staticTypes:=#[]
  resolved:=#[]
  callSites:=[]
  init:=.initialized
  statics:=none
  mirror:=none
def pool0 : Array CpInfo:=pool [(5,u "<init>"),(0,u "()V"),(1,.class_ 10),(1,u "java/lang/Object")] 113
def k0c0 : Code:={ maxStack:=0,maxLocals:=1,code:=object_method_1_code,exceptionTable:=#[],attributes:=#[] }
def k0m0 : Method:={ name := "<init>", desc := "()V", sig:={ parameters:=[],returnType:=none },accessFlags:=1,code:=some k0c0 }
/-- java/lang/Object -/
def k0 : Class:={ plain "java/lang/Object" none with
  accessFlags:=33
  interfaces:=#[]
  cf:=some (fileOf pool0 8 #[] #[{ accessFlags:=1,nameIndex:=5,descriptorIndex:=6,attributes:=#[] }] 33 0 #[] #[])
  fields:=#[]
  methods:=#[k0m0]
  instanceTypes:=#[]
  staticTypes:=#[]
  resolved:=Array.replicate 124 none
  statics:=none }
def pool1 : Array CpInfo:=pool [(2,.class_ 4),(1,u "java/lang/Object"),(0,u "<init>"),(0,u "()V"),(0,.integer 2654435761),(0,.integer 2246822507),(0,.long 17),(1,.long 31),(1,.methodref 14 15),(0,.class_ 16),(0,.nameAndType 17 18),(0,u "StreamSigScanner"),(0,u "byteAt"),(0,u "(I)I"),(0,.methodref 20 21),(0,.class_ 22),(0,.nameAndType 23 24),(0,u "StreamSigScannerOwnLaw"),(0,u "tb"),(0,u "(II)I"),(0,.methodref 20 26),(0,.nameAndType 27 28),(0,u "cell"),(0,u "([II)I"),(0,.integer 2147483647),(0,.methodref 14 31),(0,.nameAndType 5 32),(0,u "(I)V"),(0,.methodref 14 34),(0,.nameAndType 35 18),(0,u "addSigByte"),(0,.methodref 14 37),(0,.nameAndType 38 39),(0,u "endSig"),(0,u "()I"),(0,.methodref 14 41),(0,.nameAndType 42 39),(0,u "compile"),(0,.methodref 14 44),(0,.nameAndType 45 18),(0,u "stat"),(0,.methodref 14 47),(0,.nameAndType 48 18),(0,u "openSegment"),(0,.long 3),(1,.methodref 20 52),(0,.nameAndType 53 54),(0,u "segVal"),(0,u "(IIZII)I"),(0,.methodref 14 56),(0,.nameAndType 57 18),(0,u "segByte"),(0,.methodref 20 59),(0,.nameAndType 60 61),(0,u "hashOthers"),(0,u "(LStreamSigScanner;II)J"),(0,.methodref 14 63),(0,.nameAndType 64 39),(0,u "closeSegment"),(0,.methodref 14 66),(0,.nameAndType 67 18),(0,u "sigLength"),(0,.methodref 14 69),(0,.nameAndType 70 24),(0,u "sigByte"),(0,.methodref 14 72),(0,.nameAndType 73 18),(0,u "matchSig"),(0,.methodref 14 75),(0,.nameAndType 76 18),(0,u "matchEnd"),(3,u "law"),(0,u "([I)Z")] 4
def k1m0 : Method:={ name := "<init>", desc := "()V", sig:={ parameters:=[],returnType:=none },accessFlags:=1,code:=none }
def k1c1 : Code:={ maxStack:=2,maxLocals:=2,code:=method_2_code,exceptionTable:=#[],attributes:=#[] }
def k1m1 : Method:={ name := "cell", desc := "([II)I", sig:={ parameters:=[(.array .int),.int],returnType:=some .int },accessFlags:=10,code:=some k1c1 }
def k1c2 : Code:={ maxStack:=3,maxLocals:=3,code:=method_3_code,exceptionTable:=#[],attributes:=#[] }
def k1m2 : Method:={ name := "tb", desc := "(II)I", sig:={ parameters:=[.int,.int],returnType:=some .int },accessFlags:=10,code:=some k1c2 }
def k1c3 : Code:={ maxStack:=4,maxLocals:=6,code:=method_4_code,exceptionTable:=#[],attributes:=#[] }
def k1m3 : Method:={ name := "hashOthers", desc := "(LStreamSigScanner;II)J", sig:={ parameters:=[(.object "StreamSigScanner"),.int,.int],returnType:=some .long },accessFlags:=10,code:=some k1c3 }
def k1c4 : Code:={ maxStack:=4,maxLocals:=5,code:=method_5_code,exceptionTable:=#[],attributes:=#[] }
def k1m4 : Method:={ name := "segVal", desc := "(IIZII)I", sig:={ parameters:=[.int,.int,.boolean,.int,.int],returnType:=some .int },accessFlags:=10,code:=some k1c4 }
def k1c5 : Code:={ maxStack:=6,maxLocals:=24,code:=code,exceptionTable:=#[],attributes:=#[] }
def k1m5 : Method:={ name := "law", desc := "([I)Z", sig:={ parameters:=[(.array .int)],returnType:=some .boolean },accessFlags:=9,code:=some k1c5 }
/-- StreamSigScannerOwnLaw -/
def k1 : Class:={ plain "StreamSigScannerOwnLaw" (some 0) with
  accessFlags:=49
  interfaces:=#[]
  cf:=some (fileOf pool1 20 #[] #[{ accessFlags:=1,nameIndex:=5,descriptorIndex:=6,attributes:=#[] },{ accessFlags:=10,nameIndex:=27,descriptorIndex:=28,attributes:=#[] },{ accessFlags:=10,nameIndex:=23,descriptorIndex:=24,attributes:=#[] },{ accessFlags:=10,nameIndex:=60,descriptorIndex:=61,attributes:=#[] },{ accessFlags:=10,nameIndex:=53,descriptorIndex:=54,attributes:=#[] },{ accessFlags:=9,nameIndex:=80,descriptorIndex:=81,attributes:=#[] }] 49 2 #[] #[])
  fields:=#[]
  methods:=#[k1m0,k1m1,k1m2,k1m3,k1m4,k1m5]
  instanceTypes:=#[]
  staticTypes:=#[]
  resolved:=Array.replicate 86 none
  statics:=none }
def pool2 : Array CpInfo:=pool [(1,.methodref 2 3),(0,.class_ 4),(0,.nameAndType 5 6),(0,u "java/lang/Object"),(0,u "<init>"),(0,u "()V"),(0,.fieldref 8 9),(0,.class_ 10),(0,.nameAndType 11 12),(0,u "StreamSigScanner"),(0,u "sigBytes"),(0,u "[I"),(0,.fieldref 8 14),(0,.nameAndType 15 12),(0,u "sigStart"),(0,.fieldref 8 17),(0,.nameAndType 18 12),(0,u "sigLen"),(0,.fieldref 8 20),(0,.nameAndType 21 12),(0,u "delta"),(0,.fieldref 8 23),(0,.nameAndType 24 12),(0,u "fail"),(0,.fieldref 8 26),(0,.nameAndType 27 12),(0,u "outMask"),(0,.fieldref 8 29),(0,.nameAndType 30 12),(0,u "queue"),(0,.fieldref 8 32),(0,.nameAndType 33 34),(0,u "present"),(0,u "[Z"),(0,.fieldref 8 36),(0,.nameAndType 37 12),(0,u "stream"),(0,.fieldref 8 39),(0,.nameAndType 40 12),(0,u "segBuf"),(0,.fieldref 8 42),(0,.nameAndType 43 12),(0,u "matchSigs"),(0,.fieldref 8 45),(0,.nameAndType 46 12),(0,u "matchEnds"),(0,.fieldref 8 48),(0,.nameAndType 49 50),(0,u "window"),(0,u "I"),(0,.fieldref 8 52),(0,.nameAndType 53 54),(0,u "compiled"),(0,u "Z"),(0,.fieldref 8 56),(0,.nameAndType 57 50),(0,u "sigCount"),(0,.fieldref 8 59),(0,.nameAndType 60 50),(0,u "endedBytes"),(0,.fieldref 8 62),(0,.nameAndType 63 50),(0,u "pendLen"),(0,.fieldref 8 65),(0,.nameAndType 66 50),(0,u "nodeCount"),(0,.fieldref 8 68),(0,.nameAndType 69 50),(0,u "scanState"),(0,.fieldref 8 71),(0,.nameAndType 72 50),(0,u "delivered"),(0,.fieldref 8 74),(0,.nameAndType 75 50),(0,u "held"),(0,.fieldref 8 77),(0,.nameAndType 78 50),(0,u "conflicts"),(0,.fieldref 8 80),(0,.nameAndType 81 50),(0,u "duplicates"),(0,.fieldref 8 83),(0,.nameAndType 84 50),(0,u "dropped"),(0,.fieldref 8 86),(0,.nameAndType 87 50),(0,u "lastConflict"),(0,.fieldref 8 89),(0,.nameAndType 90 54),(0,u "segOpen"),(0,.fieldref 8 92),(0,.nameAndType 93 50),(0,u "segStart"),(0,.fieldref 8 95),(0,.nameAndType 96 50),(0,u "segLen"),(0,.fieldref 8 98),(0,.nameAndType 99 50),(0,u "matchTotal"),(0,.methodref 8 101),(0,.nameAndType 102 103),(0,u "isByte"),(0,u "(I)Z"),(0,.methodref 8 105),(0,.nameAndType 106 6),(0,u "buildTrie"),(0,.methodref 8 108),(0,.nameAndType 109 6),(0,u "buildAutomaton"),(0,.methodref 8 111),(0,.nameAndType 112 6),(0,u "clearAutomaton"),(0,.methodref 8 114),(0,.nameAndType 115 116),(0,u "insertSig"),(0,u "(I)V"),(0,.methodref 8 118),(0,.nameAndType 119 103),(0,u "isOffset"),(0,.methodref 8 121),(0,.nameAndType 122 123),(0,u "absorbByte"),(0,u "(III)V"),(0,.methodref 8 125),(0,.nameAndType 126 6),(0,u "advanceDelivered"),(0,.methodref 8 128),(0,.nameAndType 129 130),(0,u "feed"),(0,u "(II)V"),(0,.methodref 8 132),(0,.nameAndType 133 130),(0,u "recordMatch"),(4,.methodref 8 139),(0,.nameAndType 140 103),(0,u "validSig"),(0,.methodref 8 142),(0,.nameAndType 143 103),(0,u "validRecord"),(0,u "OK"),(2,u "ERR_STATE"),(1,u "ERR_ARG"),(1,u "ERR_FULL"),(1,u "ERR_EMPTY"),(1,u "ERR_RANGE"),(1,u "MAX_SIGS"),(1,u "MAX_SIG_LEN"),(0,u "MAX_SIG_BYTES"),(1,u "STREAM_CAP"),(1,u "MAX_SEG_LEN"),(0,u "MATCH_CAP"),(0,u "MIN_WINDOW"),(1,u "MAX_WINDOW"),(0,u "STAT_DELIVERED"),(0,u "STAT_HELD"),(1,u "STAT_CONFLICTS"),(1,u "STAT_DUPLICATES"),(1,u "STAT_DROPPED"),(1,u "STAT_MATCHES"),(1,u "STAT_SIGS"),(1,u "STAT_SIG_BYTES"),(1,u "STAT_PENDING"),(0,u "STAT_COMPILED"),(1,u "STAT_SEG_OPEN"),(1,u "STAT_SEG_START"),(1,u "STAT_SEG_LEN"),(1,u "STAT_LAST_CONFLICT"),(1,u "STAT_WINDOW"),(1,u "MAX_NODES"),(1,u "ALPHABET"),(3,u "addSigByte"),(0,u "(I)I"),(0,u "endSig"),(0,u "()I"),(0,u "compile"),(0,u "openSegment"),(0,u "segByte"),(0,u "closeSegment"),(0,u "stat"),(0,u "byteAt"),(0,u "sigLength"),(0,u "sigByte"),(0,u "(II)I"),(0,u "matchSig"),(0,u "matchEnd")] 2
def k2c0 : Code:={ maxStack:=2,maxLocals:=3,code:=prog_1_method_1_code,exceptionTable:=#[],attributes:=#[] }
def k2m0 : Method:={ name := "<init>", desc := "(I)V", sig:={ parameters:=[.int],returnType:=none },accessFlags:=1,code:=some k2c0 }
def k2c1 : Code:={ maxStack:=3,maxLocals:=3,code:=prog_1_method_2_code,exceptionTable:=#[],attributes:=#[] }
def k2m1 : Method:={ name := "addSigByte", desc := "(I)I", sig:={ parameters:=[.int],returnType:=some .int },accessFlags:=1,code:=some k2c1 }
def k2c2 : Code:={ maxStack:=3,maxLocals:=2,code:=prog_1_method_3_code,exceptionTable:=#[],attributes:=#[] }
def k2m2 : Method:={ name := "endSig", desc := "()I", sig:={ parameters:=[],returnType:=some .int },accessFlags:=1,code:=some k2c2 }
def k2c3 : Code:={ maxStack:=2,maxLocals:=1,code:=prog_1_method_4_code,exceptionTable:=#[],attributes:=#[] }
def k2m3 : Method:={ name := "compile", desc := "()I", sig:={ parameters:=[],returnType:=some .int },accessFlags:=1,code:=some k2c3 }
def k2c4 : Code:={ maxStack:=2,maxLocals:=2,code:=prog_1_method_5_code,exceptionTable:=#[],attributes:=#[] }
def k2m4 : Method:={ name := "buildTrie", desc := "()V", sig:={ parameters:=[],returnType:=none },accessFlags:=2,code:=some k2c4 }
def k2c5 : Code:={ maxStack:=3,maxLocals:=2,code:=prog_1_method_6_code,exceptionTable:=#[],attributes:=#[] }
def k2m5 : Method:={ name := "clearAutomaton", desc := "()V", sig:={ parameters:=[],returnType:=none },accessFlags:=2,code:=some k2c5 }
def k2c6 : Code:={ maxStack:=5,maxLocals:=8,code:=prog_1_method_7_code,exceptionTable:=#[],attributes:=#[] }
def k2m6 : Method:={ name := "insertSig", desc := "(I)V", sig:={ parameters:=[.int],returnType:=none },accessFlags:=2,code:=some k2c6 }
def k2c7 : Code:={ maxStack:=5,maxLocals:=9,code:=prog_1_method_8_code,exceptionTable:=#[],attributes:=#[] }
def k2m7 : Method:={ name := "buildAutomaton", desc := "()V", sig:={ parameters:=[],returnType:=none },accessFlags:=2,code:=some k2c7 }
def k2c8 : Code:={ maxStack:=2,maxLocals:=2,code:=prog_1_method_9_code,exceptionTable:=#[],attributes:=#[] }
def k2m8 : Method:={ name := "openSegment", desc := "(I)I", sig:={ parameters:=[.int],returnType:=some .int },accessFlags:=1,code:=some k2c8 }
def k2c9 : Code:={ maxStack:=3,maxLocals:=2,code:=prog_1_method_10_code,exceptionTable:=#[],attributes:=#[] }
def k2m9 : Method:={ name := "segByte", desc := "(I)I", sig:={ parameters:=[.int],returnType:=some .int },accessFlags:=1,code:=some k2c9 }
def k2c10 : Code:={ maxStack:=4,maxLocals:=3,code:=prog_1_method_11_code,exceptionTable:=#[],attributes:=#[] }
def k2m10 : Method:={ name := "closeSegment", desc := "()I", sig:={ parameters:=[],returnType:=some .int },accessFlags:=1,code:=some k2c10 }
def k2c11 : Code:={ maxStack:=3,maxLocals:=4,code:=prog_1_method_12_code,exceptionTable:=#[],attributes:=#[] }
def k2m11 : Method:={ name := "absorbByte", desc := "(III)V", sig:={ parameters:=[.int,.int,.int],returnType:=none },accessFlags:=2,code:=some k2c11 }
def k2c12 : Code:={ maxStack:=3,maxLocals:=4,code:=prog_1_method_13_code,exceptionTable:=#[],attributes:=#[] }
def k2m12 : Method:={ name := "advanceDelivered", desc := "()V", sig:={ parameters:=[],returnType:=none },accessFlags:=2,code:=some k2c12 }
def k2c13 : Code:={ maxStack:=3,maxLocals:=7,code:=prog_1_method_14_code,exceptionTable:=#[],attributes:=#[] }
def k2m13 : Method:={ name := "feed", desc := "(II)V", sig:={ parameters:=[.int,.int],returnType:=none },accessFlags:=2,code:=some k2c13 }
def k2c14 : Code:={ maxStack:=3,maxLocals:=3,code:=prog_1_method_15_code,exceptionTable:=#[],attributes:=#[] }
def k2m14 : Method:={ name := "recordMatch", desc := "(II)V", sig:={ parameters:=[.int,.int],returnType:=none },accessFlags:=2,code:=some k2c14 }
def k2c15 : Code:={ maxStack:=2,maxLocals:=2,code:=prog_1_method_16_code,exceptionTable:=#[],attributes:=#[] }
def k2m15 : Method:={ name := "stat", desc := "(I)I", sig:={ parameters:=[.int],returnType:=some .int },accessFlags:=1,code:=some k2c15 }
def k2c16 : Code:={ maxStack:=2,maxLocals:=2,code:=prog_1_method_17_code,exceptionTable:=#[],attributes:=#[] }
def k2m16 : Method:={ name := "byteAt", desc := "(I)I", sig:={ parameters:=[.int],returnType:=some .int },accessFlags:=1,code:=some k2c16 }
def k2c17 : Code:={ maxStack:=2,maxLocals:=2,code:=prog_1_method_18_code,exceptionTable:=#[],attributes:=#[] }
def k2m17 : Method:={ name := "sigLength", desc := "(I)I", sig:={ parameters:=[.int],returnType:=some .int },accessFlags:=1,code:=some k2c17 }
def k2c18 : Code:={ maxStack:=3,maxLocals:=4,code:=prog_1_method_19_code,exceptionTable:=#[],attributes:=#[] }
def k2m18 : Method:={ name := "sigByte", desc := "(II)I", sig:={ parameters:=[.int,.int],returnType:=some .int },accessFlags:=1,code:=some k2c18 }
def k2c19 : Code:={ maxStack:=2,maxLocals:=2,code:=prog_1_method_20_code,exceptionTable:=#[],attributes:=#[] }
def k2m19 : Method:={ name := "matchSig", desc := "(I)I", sig:={ parameters:=[.int],returnType:=some .int },accessFlags:=1,code:=some k2c19 }
def k2c20 : Code:={ maxStack:=2,maxLocals:=2,code:=prog_1_method_21_code,exceptionTable:=#[],attributes:=#[] }
def k2m20 : Method:={ name := "matchEnd", desc := "(I)I", sig:={ parameters:=[.int],returnType:=some .int },accessFlags:=1,code:=some k2c20 }
def k2c21 : Code:={ maxStack:=2,maxLocals:=2,code:=prog_1_method_22_code,exceptionTable:=#[],attributes:=#[] }
def k2m21 : Method:={ name := "isByte", desc := "(I)Z", sig:={ parameters:=[.int],returnType:=some .boolean },accessFlags:=2,code:=some k2c21 }
def k2c22 : Code:={ maxStack:=2,maxLocals:=2,code:=prog_1_method_23_code,exceptionTable:=#[],attributes:=#[] }
def k2m22 : Method:={ name := "isOffset", desc := "(I)Z", sig:={ parameters:=[.int],returnType:=some .boolean },accessFlags:=2,code:=some k2c22 }
def k2c23 : Code:={ maxStack:=2,maxLocals:=2,code:=prog_1_method_24_code,exceptionTable:=#[],attributes:=#[] }
def k2m23 : Method:={ name := "validSig", desc := "(I)Z", sig:={ parameters:=[.int],returnType:=some .boolean },accessFlags:=2,code:=some k2c23 }
def k2c24 : Code:={ maxStack:=2,maxLocals:=3,code:=prog_1_method_25_code,exceptionTable:=#[],attributes:=#[] }
def k2m24 : Method:={ name := "validRecord", desc := "(I)Z", sig:={ parameters:=[.int],returnType:=some .boolean },accessFlags:=2,code:=some k2c24 }
/-- StreamSigScanner -/
def k2 : Class:={ plain "StreamSigScanner" (some 0) with
  accessFlags:=49
  interfaces:=#[]
  cf:=some (fileOf pool2 8 #[] #[{ accessFlags:=1,nameIndex:=5,descriptorIndex:=116,attributes:=#[] },{ accessFlags:=1,nameIndex:=203,descriptorIndex:=204,attributes:=#[] },{ accessFlags:=1,nameIndex:=205,descriptorIndex:=206,attributes:=#[] },{ accessFlags:=1,nameIndex:=207,descriptorIndex:=206,attributes:=#[] },{ accessFlags:=2,nameIndex:=106,descriptorIndex:=6,attributes:=#[] },{ accessFlags:=2,nameIndex:=112,descriptorIndex:=6,attributes:=#[] },{ accessFlags:=2,nameIndex:=115,descriptorIndex:=116,attributes:=#[] },{ accessFlags:=2,nameIndex:=109,descriptorIndex:=6,attributes:=#[] },{ accessFlags:=1,nameIndex:=208,descriptorIndex:=204,attributes:=#[] },{ accessFlags:=1,nameIndex:=209,descriptorIndex:=204,attributes:=#[] },{ accessFlags:=1,nameIndex:=210,descriptorIndex:=206,attributes:=#[] },{ accessFlags:=2,nameIndex:=122,descriptorIndex:=123,attributes:=#[] },{ accessFlags:=2,nameIndex:=126,descriptorIndex:=6,attributes:=#[] },{ accessFlags:=2,nameIndex:=129,descriptorIndex:=130,attributes:=#[] },{ accessFlags:=2,nameIndex:=133,descriptorIndex:=130,attributes:=#[] },{ accessFlags:=1,nameIndex:=211,descriptorIndex:=204,attributes:=#[] },{ accessFlags:=1,nameIndex:=212,descriptorIndex:=204,attributes:=#[] },{ accessFlags:=1,nameIndex:=213,descriptorIndex:=204,attributes:=#[] },{ accessFlags:=1,nameIndex:=214,descriptorIndex:=215,attributes:=#[] },{ accessFlags:=1,nameIndex:=216,descriptorIndex:=204,attributes:=#[] },{ accessFlags:=1,nameIndex:=217,descriptorIndex:=204,attributes:=#[] },{ accessFlags:=2,nameIndex:=102,descriptorIndex:=103,attributes:=#[] },{ accessFlags:=2,nameIndex:=119,descriptorIndex:=103,attributes:=#[] },{ accessFlags:=2,nameIndex:=140,descriptorIndex:=103,attributes:=#[] },{ accessFlags:=2,nameIndex:=143,descriptorIndex:=103,attributes:=#[] }] 49 2 #[] #[{ accessFlags:=25,nameIndex:=144,descriptorIndex:=50,attributes:=#[] },{ accessFlags:=25,nameIndex:=147,descriptorIndex:=50,attributes:=#[] },{ accessFlags:=25,nameIndex:=149,descriptorIndex:=50,attributes:=#[] },{ accessFlags:=25,nameIndex:=151,descriptorIndex:=50,attributes:=#[] },{ accessFlags:=25,nameIndex:=153,descriptorIndex:=50,attributes:=#[] },{ accessFlags:=25,nameIndex:=155,descriptorIndex:=50,attributes:=#[] },{ accessFlags:=25,nameIndex:=157,descriptorIndex:=50,attributes:=#[] },{ accessFlags:=25,nameIndex:=159,descriptorIndex:=50,attributes:=#[] },{ accessFlags:=25,nameIndex:=160,descriptorIndex:=50,attributes:=#[] },{ accessFlags:=25,nameIndex:=162,descriptorIndex:=50,attributes:=#[] },{ accessFlags:=25,nameIndex:=164,descriptorIndex:=50,attributes:=#[] },{ accessFlags:=25,nameIndex:=165,descriptorIndex:=50,attributes:=#[] },{ accessFlags:=25,nameIndex:=166,descriptorIndex:=50,attributes:=#[] },{ accessFlags:=25,nameIndex:=168,descriptorIndex:=50,attributes:=#[] },{ accessFlags:=25,nameIndex:=169,descriptorIndex:=50,attributes:=#[] },{ accessFlags:=25,nameIndex:=170,descriptorIndex:=50,attributes:=#[] },{ accessFlags:=25,nameIndex:=172,descriptorIndex:=50,attributes:=#[] },{ accessFlags:=25,nameIndex:=174,descriptorIndex:=50,attributes:=#[] },{ accessFlags:=25,nameIndex:=176,descriptorIndex:=50,attributes:=#[] },{ accessFlags:=25,nameIndex:=178,descriptorIndex:=50,attributes:=#[] },{ accessFlags:=25,nameIndex:=180,descriptorIndex:=50,attributes:=#[] },{ accessFlags:=25,nameIndex:=182,descriptorIndex:=50,attributes:=#[] },{ accessFlags:=25,nameIndex:=184,descriptorIndex:=50,attributes:=#[] },{ accessFlags:=25,nameIndex:=185,descriptorIndex:=50,attributes:=#[] },{ accessFlags:=25,nameIndex:=187,descriptorIndex:=50,attributes:=#[] },{ accessFlags:=25,nameIndex:=189,descriptorIndex:=50,attributes:=#[] },{ accessFlags:=25,nameIndex:=191,descriptorIndex:=50,attributes:=#[] },{ accessFlags:=25,nameIndex:=193,descriptorIndex:=50,attributes:=#[] },{ accessFlags:=25,nameIndex:=195,descriptorIndex:=50,attributes:=#[] },{ accessFlags:=26,nameIndex:=197,descriptorIndex:=50,attributes:=#[] },{ accessFlags:=26,nameIndex:=199,descriptorIndex:=50,attributes:=#[] },{ accessFlags:=2,nameIndex:=49,descriptorIndex:=50,attributes:=#[] },{ accessFlags:=2,nameIndex:=53,descriptorIndex:=54,attributes:=#[] },{ accessFlags:=2,nameIndex:=57,descriptorIndex:=50,attributes:=#[] },{ accessFlags:=2,nameIndex:=60,descriptorIndex:=50,attributes:=#[] },{ accessFlags:=2,nameIndex:=63,descriptorIndex:=50,attributes:=#[] },{ accessFlags:=2,nameIndex:=11,descriptorIndex:=12,attributes:=#[] },{ accessFlags:=2,nameIndex:=15,descriptorIndex:=12,attributes:=#[] },{ accessFlags:=2,nameIndex:=18,descriptorIndex:=12,attributes:=#[] },{ accessFlags:=2,nameIndex:=21,descriptorIndex:=12,attributes:=#[] },{ accessFlags:=2,nameIndex:=24,descriptorIndex:=12,attributes:=#[] },{ accessFlags:=2,nameIndex:=27,descriptorIndex:=12,attributes:=#[] },{ accessFlags:=2,nameIndex:=30,descriptorIndex:=12,attributes:=#[] },{ accessFlags:=2,nameIndex:=66,descriptorIndex:=50,attributes:=#[] },{ accessFlags:=2,nameIndex:=69,descriptorIndex:=50,attributes:=#[] },{ accessFlags:=2,nameIndex:=33,descriptorIndex:=34,attributes:=#[] },{ accessFlags:=2,nameIndex:=37,descriptorIndex:=12,attributes:=#[] },{ accessFlags:=2,nameIndex:=72,descriptorIndex:=50,attributes:=#[] },{ accessFlags:=2,nameIndex:=75,descriptorIndex:=50,attributes:=#[] },{ accessFlags:=2,nameIndex:=78,descriptorIndex:=50,attributes:=#[] },{ accessFlags:=2,nameIndex:=81,descriptorIndex:=50,attributes:=#[] },{ accessFlags:=2,nameIndex:=84,descriptorIndex:=50,attributes:=#[] },{ accessFlags:=2,nameIndex:=87,descriptorIndex:=50,attributes:=#[] },{ accessFlags:=2,nameIndex:=90,descriptorIndex:=54,attributes:=#[] },{ accessFlags:=2,nameIndex:=93,descriptorIndex:=50,attributes:=#[] },{ accessFlags:=2,nameIndex:=96,descriptorIndex:=50,attributes:=#[] },{ accessFlags:=2,nameIndex:=40,descriptorIndex:=12,attributes:=#[] },{ accessFlags:=2,nameIndex:=99,descriptorIndex:=50,attributes:=#[] },{ accessFlags:=2,nameIndex:=43,descriptorIndex:=12,attributes:=#[] },{ accessFlags:=2,nameIndex:=46,descriptorIndex:=12,attributes:=#[] }])
  fields:=#[{ name := "OK", type:=.int,accessFlags:=25,slot:=0,constantValue:=0 },{ name := "ERR_STATE", type:=.int,accessFlags:=25,slot:=1,constantValue:=0 },{ name := "ERR_ARG", type:=.int,accessFlags:=25,slot:=2,constantValue:=0 },{ name := "ERR_FULL", type:=.int,accessFlags:=25,slot:=3,constantValue:=0 },{ name := "ERR_EMPTY", type:=.int,accessFlags:=25,slot:=4,constantValue:=0 },{ name := "ERR_RANGE", type:=.int,accessFlags:=25,slot:=5,constantValue:=0 },{ name := "MAX_SIGS", type:=.int,accessFlags:=25,slot:=6,constantValue:=0 },{ name := "MAX_SIG_LEN", type:=.int,accessFlags:=25,slot:=7,constantValue:=0 },{ name := "MAX_SIG_BYTES", type:=.int,accessFlags:=25,slot:=8,constantValue:=0 },{ name := "STREAM_CAP", type:=.int,accessFlags:=25,slot:=9,constantValue:=0 },{ name := "MAX_SEG_LEN", type:=.int,accessFlags:=25,slot:=10,constantValue:=0 },{ name := "MATCH_CAP", type:=.int,accessFlags:=25,slot:=11,constantValue:=0 },{ name := "MIN_WINDOW", type:=.int,accessFlags:=25,slot:=12,constantValue:=0 },{ name := "MAX_WINDOW", type:=.int,accessFlags:=25,slot:=13,constantValue:=0 },{ name := "STAT_DELIVERED", type:=.int,accessFlags:=25,slot:=14,constantValue:=0 },{ name := "STAT_HELD", type:=.int,accessFlags:=25,slot:=15,constantValue:=0 },{ name := "STAT_CONFLICTS", type:=.int,accessFlags:=25,slot:=16,constantValue:=0 },{ name := "STAT_DUPLICATES", type:=.int,accessFlags:=25,slot:=17,constantValue:=0 },{ name := "STAT_DROPPED", type:=.int,accessFlags:=25,slot:=18,constantValue:=0 },{ name := "STAT_MATCHES", type:=.int,accessFlags:=25,slot:=19,constantValue:=0 },{ name := "STAT_SIGS", type:=.int,accessFlags:=25,slot:=20,constantValue:=0 },{ name := "STAT_SIG_BYTES", type:=.int,accessFlags:=25,slot:=21,constantValue:=0 },{ name := "STAT_PENDING", type:=.int,accessFlags:=25,slot:=22,constantValue:=0 },{ name := "STAT_COMPILED", type:=.int,accessFlags:=25,slot:=23,constantValue:=0 },{ name := "STAT_SEG_OPEN", type:=.int,accessFlags:=25,slot:=24,constantValue:=0 },{ name := "STAT_SEG_START", type:=.int,accessFlags:=25,slot:=25,constantValue:=0 },{ name := "STAT_SEG_LEN", type:=.int,accessFlags:=25,slot:=26,constantValue:=0 },{ name := "STAT_LAST_CONFLICT", type:=.int,accessFlags:=25,slot:=27,constantValue:=0 },{ name := "STAT_WINDOW", type:=.int,accessFlags:=25,slot:=28,constantValue:=0 },{ name := "MAX_NODES", type:=.int,accessFlags:=26,slot:=29,constantValue:=0 },{ name := "ALPHABET", type:=.int,accessFlags:=26,slot:=30,constantValue:=0 },{ name := "window", type:=.int,accessFlags:=2,slot:=0,constantValue:=0 },{ name := "compiled", type:=.boolean,accessFlags:=2,slot:=1,constantValue:=0 },{ name := "sigCount", type:=.int,accessFlags:=2,slot:=2,constantValue:=0 },{ name := "endedBytes", type:=.int,accessFlags:=2,slot:=3,constantValue:=0 },{ name := "pendLen", type:=.int,accessFlags:=2,slot:=4,constantValue:=0 },{ name := "sigBytes", type:=(.array .int),accessFlags:=2,slot:=5,constantValue:=0 },{ name := "sigStart", type:=(.array .int),accessFlags:=2,slot:=6,constantValue:=0 },{ name := "sigLen", type:=(.array .int),accessFlags:=2,slot:=7,constantValue:=0 },{ name := "delta", type:=(.array .int),accessFlags:=2,slot:=8,constantValue:=0 },{ name := "fail", type:=(.array .int),accessFlags:=2,slot:=9,constantValue:=0 },{ name := "outMask", type:=(.array .int),accessFlags:=2,slot:=10,constantValue:=0 },{ name := "queue", type:=(.array .int),accessFlags:=2,slot:=11,constantValue:=0 },{ name := "nodeCount", type:=.int,accessFlags:=2,slot:=12,constantValue:=0 },{ name := "scanState", type:=.int,accessFlags:=2,slot:=13,constantValue:=0 },{ name := "present", type:=(.array .boolean),accessFlags:=2,slot:=14,constantValue:=0 },{ name := "stream", type:=(.array .int),accessFlags:=2,slot:=15,constantValue:=0 },{ name := "delivered", type:=.int,accessFlags:=2,slot:=16,constantValue:=0 },{ name := "held", type:=.int,accessFlags:=2,slot:=17,constantValue:=0 },{ name := "conflicts", type:=.int,accessFlags:=2,slot:=18,constantValue:=0 },{ name := "duplicates", type:=.int,accessFlags:=2,slot:=19,constantValue:=0 },{ name := "dropped", type:=.int,accessFlags:=2,slot:=20,constantValue:=0 },{ name := "lastConflict", type:=.int,accessFlags:=2,slot:=21,constantValue:=0 },{ name := "segOpen", type:=.boolean,accessFlags:=2,slot:=22,constantValue:=0 },{ name := "segStart", type:=.int,accessFlags:=2,slot:=23,constantValue:=0 },{ name := "segLen", type:=.int,accessFlags:=2,slot:=24,constantValue:=0 },{ name := "segBuf", type:=(.array .int),accessFlags:=2,slot:=25,constantValue:=0 },{ name := "matchTotal", type:=.int,accessFlags:=2,slot:=26,constantValue:=0 },{ name := "matchSigs", type:=(.array .int),accessFlags:=2,slot:=27,constantValue:=0 },{ name := "matchEnds", type:=(.array .int),accessFlags:=2,slot:=28,constantValue:=0 }]
  methods:=#[k2m0,k2m1,k2m2,k2m3,k2m4,k2m5,k2m6,k2m7,k2m8,k2m9,k2m10,k2m11,k2m12,k2m13,k2m14,k2m15,k2m16,k2m17,k2m18,k2m19,k2m20,k2m21,k2m22,k2m23,k2m24]
  instanceTypes:=#[.int,.boolean,.int,.int,.int,(.array .int),(.array .int),(.array .int),(.array .int),(.array .int),(.array .int),(.array .int),.int,.int,(.array .boolean),(.array .int),.int,.int,.int,.int,.int,.int,.boolean,.int,.int,(.array .int),.int,(.array .int),(.array .int)]
  staticTypes:=#[.int,.int,.int,.int,.int,.int,.int,.int,.int,.int,.int,.int,.int,.int,.int,.int,.int,.int,.int,.int,.int,.int,.int,.int,.int,.int,.int,.int,.int,.int,.int]
  resolved:=Array.replicate 220 none
  statics:=none }
def pool3 : Array CpInfo:=pool [(1,u "java/lang/Cloneable"),(0,.class_ 1),(0,u "java/lang/Object"),(0,.class_ 3)] 3
/-- java/lang/Cloneable -/
def k3 : Class:={ plain "java/lang/Cloneable" (some 0) with
  accessFlags:=1537
  interfaces:=#[]
  cf:=some (fileOf pool3 2 #[] #[] 1537 4 #[] #[])
  fields:=#[]
  methods:=#[]
  instanceTypes:=#[]
  staticTypes:=#[]
  resolved:=Array.replicate 8 none
  statics:=none }
def pool4 : Array CpInfo:=pool [(1,u "java/io/Serializable"),(0,.class_ 1),(0,u "java/lang/Object"),(0,.class_ 3)] 3
/-- java/io/Serializable -/
def k4 : Class:={ plain "java/io/Serializable" (some 0) with
  accessFlags:=1537
  interfaces:=#[]
  cf:=some (fileOf pool4 2 #[] #[] 1537 4 #[] #[])
  fields:=#[]
  methods:=#[]
  instanceTypes:=#[]
  staticTypes:=#[]
  resolved:=Array.replicate 8 none
  statics:=none }
/-- the primitive boolean -/
def k5 : Class:={ plain "boolean" none with kind:=.primitive 'Z',accessFlags:=0x411 }
/-- [Z -/
def k6 : Class:={ plain "[Z" (some 0) with kind:=.array 5 .boolean,interfaces:=#[3,4],accessFlags:=1041 }
/-- the primitive byte -/
def k7 : Class:={ plain "byte" none with kind:=.primitive 'B',accessFlags:=0x411 }
/-- [B -/
def k8 : Class:={ plain "[B" (some 0) with kind:=.array 7 .byte,interfaces:=#[3,4],accessFlags:=1041 }
/-- the primitive int -/
def k9 : Class:={ plain "int" none with kind:=.primitive 'I',accessFlags:=0x411 }
/-- [I -/
def k10 : Class:={ plain "[I" (some 0) with kind:=.array 9 .int,interfaces:=#[3,4],accessFlags:=1041 }
def heap : Heap:=#[{ cls:=10,slots:=#[.int 0,.int 1],vm:=.none }]
def classes : Array Class:=#[k0,k1,k2,k3,k4,k5,k6,k7,k8,k9,k10]
def interned : List (Array UInt16 × Addr):=[]
def slotsUsed : Nat:=2
def theMethod : MethodId:=⟨1,5⟩
def args0 : Array Value:=#[.ref 0]
def aboutOver (below : List Frame) : State where
  vm:={ classes:=classes,interned:=interned.toArray }
  heap:=heap
  slotsUsed:=slotsUsed
  threads:=#[{ frames:=.invoking theMethod args0::below }]
def below0 : List Frame:=[.native { method:=⟨0,0⟩,args:=#[] }]
def about1 : State:=aboutOver below0
def p0 : Program:=.bare "" "" ""
def e0 : Env:=launch0.env 0 0 0
theorem w_frames : about1.frames = Frame.invoking theMethod args0::below0:=rfl
set_option maxRecDepth 65536 in
theorem w_args : argsFit about1.vm theMethod args0 = true:=by decide +kernel
set_option maxRecDepth 65536 in
theorem w_heap : heapFits about1 = true:=by decide +kernel
set_option maxRecDepth 65536 in
theorem w_runnable : about1.curStatus? = some .runnable:=by decide +kernel
set_option maxRecDepth 65536 in
theorem w_alone : about1.alone = true:=by decide +kernel
set_option maxRecDepth 65536 in
theorem w_named : about1.methodNamed? x = some theMethod:=by decide +kernel
set_option maxRecDepth 65536 in
theorem w_hears : about1.hears theMethod below0 = true:=by decide +kernel
set_option maxRecDepth 65536 in
theorem w_ripe : about1.ripe theMethod args0 below0 = true:=by decide +kernel
theorem w_running : about1.status = .running:=rfl
set_option maxRecDepth 65536 in
theorem w_room : about1.hasRoom e0.platform room_1 = true :=
  launch0.hasRoom_least _ room_1 (by decide +kernel) (by decide +kernel) (by decide +kernel) (by decide +kernel) (by decide +kernel) (by decide +kernel)
theorem allAtoms_all (ts : List Jvm.Cond) (a : Array Jvm.Value) (st : Jvm.State) : (allAtoms ts).before a st = ts.all (fun c => c.before a st):=by
  induction ts with
  | nil => rfl
  | cons c t ih =>
    show (Jvm.Cond.and c (allAtoms t)).before a st = _
    rw [Jvm.Cond.before_and,ih,List.all_cons]
def words1 : List Jvm.Cond:=Jvm.Cond.code x code maxLocals ret::tables_1
/-- a 'code' word, met by the world's own term for the bytes: nothing is compared byte by byte -/
theorem code_word {y : MethodName} {bytes : ByteArray} {mx : Nat} {rt : Option FieldType} {a : Array Value} {s : State} {m : MethodId} {meth : Method} {c : Code} (h1 : s.methodNamed? y = some m) (h2 : s.vm.method? m = some meth) (h3 : meth.code = some c) (h4 : c.code = bytes)
    (h5 : (c.maxLocals == mx && c.exceptionTable.isEmpty && decide (c.maxStack≤mostOperands) && decide (meth.sig.returnType = rt) && !meth.locks && decide (parseMethodDescriptor y.desc = some meth.sig)) = true) : (Jvm.Cond.code y bytes mx rt).before a s = true:=by
  simp only [Bool.and_eq_true,beq_iff_eq,Bool.not_eq_true',decide_eq_true_eq] at h5
  obtain ⟨⟨⟨⟨⟨g1,g2⟩,g3⟩,g4⟩,g5⟩,g6⟩:=h5
  simp [Cond.before,Cond.holds,Cond.value,h1,h2,h3,h4,g1,g2,g3,g4,g5,g6]
def isCode : Jvm.Cond→Bool
  | .code _ _ _ _ => true
  | _ => false
theorem all_split {L : List Jvm.Cond} {P : Jvm.Cond→Bool} (h1 : L.all (fun c => isCode c || P c) = true) (h2 : ∀ c ∈ L.filter isCode,P c = true) : L.all P = true:=by
  refine List.all_eq_true.mpr fun c hc => ?_
  have h:=List.all_eq_true.mp h1 c hc
  rcases Bool.eq_false_or_eq_true (isCode c) with hi | hi
  · exact h2 c (List.mem_filter.mpr ⟨hc,hi⟩)
  · simpa [hi] using h
set_option maxRecDepth 65536 in
theorem w_c0 : (Jvm.Cond.code x code maxLocals ret).before args0 about1 = true:=code_word (m:=⟨1,5⟩) (meth:=k1m5) (c:=k1c5) (by decide +kernel) rfl rfl rfl (by decide +kernel)
set_option maxRecDepth 65536 in
theorem w_c1 : (Jvm.Cond.code ({ cls := "StreamSigScannerOwnLaw", name := "cell", desc := "([II)I" } : Jvm.MethodName) method_2_code (2 : Nat) (Option.some Jvm.ClassFile.FieldType.int)).before args0 about1 = true:=code_word (m:=⟨1,1⟩) (meth:=k1m1) (c:=k1c1) (by decide +kernel) rfl rfl rfl (by decide +kernel)
set_option maxRecDepth 65536 in
theorem w_c2 : (Jvm.Cond.code ({ cls := "StreamSigScanner", name := "<init>", desc := "(I)V" } : Jvm.MethodName) prog_1_method_1_code (3 : Nat) (Option.none : Option Jvm.ClassFile.FieldType)).before args0 about1 = true:=code_word (m:=⟨2,0⟩) (meth:=k2m0) (c:=k2c0) (by decide +kernel) rfl rfl rfl (by decide +kernel)
set_option maxRecDepth 65536 in
theorem w_c3 : (Jvm.Cond.code ({ cls := "java/lang/Object", name := "<init>", desc := "()V" } : Jvm.MethodName) object_method_1_code (1 : Nat) (Option.none : Option Jvm.ClassFile.FieldType)).before args0 about1 = true:=code_word (m:=⟨0,0⟩) (meth:=k0m0) (c:=k0c0) (by decide +kernel) rfl rfl rfl (by decide +kernel)
set_option maxRecDepth 65536 in
theorem w_c4 : (Jvm.Cond.code ({ cls := "StreamSigScanner", name := "addSigByte", desc := "(I)I" } : Jvm.MethodName) prog_1_method_2_code (3 : Nat) (Option.some Jvm.ClassFile.FieldType.int)).before args0 about1 = true:=code_word (m:=⟨2,1⟩) (meth:=k2m1) (c:=k2c1) (by decide +kernel) rfl rfl rfl (by decide +kernel)
set_option maxRecDepth 65536 in
theorem w_c5 : (Jvm.Cond.code ({ cls := "StreamSigScanner", name := "isByte", desc := "(I)Z" } : Jvm.MethodName) prog_1_method_22_code (2 : Nat) (Option.some Jvm.ClassFile.FieldType.boolean)).before args0 about1 = true:=code_word (m:=⟨2,21⟩) (meth:=k2m21) (c:=k2c21) (by decide +kernel) rfl rfl rfl (by decide +kernel)
set_option maxRecDepth 65536 in
theorem w_c6 : (Jvm.Cond.code ({ cls := "StreamSigScanner", name := "endSig", desc := "()I" } : Jvm.MethodName) prog_1_method_3_code (2 : Nat) (Option.some Jvm.ClassFile.FieldType.int)).before args0 about1 = true:=code_word (m:=⟨2,2⟩) (meth:=k2m2) (c:=k2c2) (by decide +kernel) rfl rfl rfl (by decide +kernel)
set_option maxRecDepth 65536 in
theorem w_c7 : (Jvm.Cond.code ({ cls := "StreamSigScanner", name := "compile", desc := "()I" } : Jvm.MethodName) prog_1_method_4_code (1 : Nat) (Option.some Jvm.ClassFile.FieldType.int)).before args0 about1 = true:=code_word (m:=⟨2,3⟩) (meth:=k2m3) (c:=k2c3) (by decide +kernel) rfl rfl rfl (by decide +kernel)
set_option maxRecDepth 65536 in
theorem w_c8 : (Jvm.Cond.code ({ cls := "StreamSigScanner", name := "buildTrie", desc := "()V" } : Jvm.MethodName) prog_1_method_5_code (2 : Nat) (Option.none : Option Jvm.ClassFile.FieldType)).before args0 about1 = true:=code_word (m:=⟨2,4⟩) (meth:=k2m4) (c:=k2c4) (by decide +kernel) rfl rfl rfl (by decide +kernel)
set_option maxRecDepth 65536 in
theorem w_c9 : (Jvm.Cond.code ({ cls := "StreamSigScanner", name := "clearAutomaton", desc := "()V" } : Jvm.MethodName) prog_1_method_6_code (2 : Nat) (Option.none : Option Jvm.ClassFile.FieldType)).before args0 about1 = true:=code_word (m:=⟨2,5⟩) (meth:=k2m5) (c:=k2c5) (by decide +kernel) rfl rfl rfl (by decide +kernel)
set_option maxRecDepth 65536 in
theorem w_c10 : (Jvm.Cond.code ({ cls := "StreamSigScanner", name := "insertSig", desc := "(I)V" } : Jvm.MethodName) prog_1_method_7_code (8 : Nat) (Option.none : Option Jvm.ClassFile.FieldType)).before args0 about1 = true:=code_word (m:=⟨2,6⟩) (meth:=k2m6) (c:=k2c6) (by decide +kernel) rfl rfl rfl (by decide +kernel)
set_option maxRecDepth 65536 in
theorem w_c11 : (Jvm.Cond.code ({ cls := "StreamSigScanner", name := "buildAutomaton", desc := "()V" } : Jvm.MethodName) prog_1_method_8_code (9 : Nat) (Option.none : Option Jvm.ClassFile.FieldType)).before args0 about1 = true:=code_word (m:=⟨2,7⟩) (meth:=k2m7) (c:=k2c7) (by decide +kernel) rfl rfl rfl (by decide +kernel)
set_option maxRecDepth 65536 in
theorem w_c12 : (Jvm.Cond.code ({ cls := "StreamSigScanner", name := "stat", desc := "(I)I" } : Jvm.MethodName) prog_1_method_16_code (2 : Nat) (Option.some Jvm.ClassFile.FieldType.int)).before args0 about1 = true:=code_word (m:=⟨2,15⟩) (meth:=k2m15) (c:=k2c15) (by decide +kernel) rfl rfl rfl (by decide +kernel)
set_option maxRecDepth 65536 in
theorem w_c13 : (Jvm.Cond.code ({ cls := "StreamSigScanner", name := "openSegment", desc := "(I)I" } : Jvm.MethodName) prog_1_method_9_code (2 : Nat) (Option.some Jvm.ClassFile.FieldType.int)).before args0 about1 = true:=code_word (m:=⟨2,8⟩) (meth:=k2m8) (c:=k2c8) (by decide +kernel) rfl rfl rfl (by decide +kernel)
set_option maxRecDepth 65536 in
theorem w_c14 : (Jvm.Cond.code ({ cls := "StreamSigScanner", name := "isOffset", desc := "(I)Z" } : Jvm.MethodName) prog_1_method_23_code (2 : Nat) (Option.some Jvm.ClassFile.FieldType.boolean)).before args0 about1 = true:=code_word (m:=⟨2,22⟩) (meth:=k2m22) (c:=k2c22) (by decide +kernel) rfl rfl rfl (by decide +kernel)
set_option maxRecDepth 65536 in
theorem w_c15 : (Jvm.Cond.code ({ cls := "StreamSigScanner", name := "byteAt", desc := "(I)I" } : Jvm.MethodName) prog_1_method_17_code (2 : Nat) (Option.some Jvm.ClassFile.FieldType.int)).before args0 about1 = true:=code_word (m:=⟨2,16⟩) (meth:=k2m16) (c:=k2c16) (by decide +kernel) rfl rfl rfl (by decide +kernel)
set_option maxRecDepth 65536 in
theorem w_c16 : (Jvm.Cond.code ({ cls := "StreamSigScannerOwnLaw", name := "segVal", desc := "(IIZII)I" } : Jvm.MethodName) method_5_code (5 : Nat) (Option.some Jvm.ClassFile.FieldType.int)).before args0 about1 = true:=code_word (m:=⟨1,4⟩) (meth:=k1m4) (c:=k1c4) (by decide +kernel) rfl rfl rfl (by decide +kernel)
set_option maxRecDepth 65536 in
theorem w_c17 : (Jvm.Cond.code ({ cls := "StreamSigScannerOwnLaw", name := "tb", desc := "(II)I" } : Jvm.MethodName) method_3_code (3 : Nat) (Option.some Jvm.ClassFile.FieldType.int)).before args0 about1 = true:=code_word (m:=⟨1,2⟩) (meth:=k1m2) (c:=k1c2) (by decide +kernel) rfl rfl rfl (by decide +kernel)
set_option maxRecDepth 65536 in
theorem w_c18 : (Jvm.Cond.code ({ cls := "StreamSigScanner", name := "segByte", desc := "(I)I" } : Jvm.MethodName) prog_1_method_10_code (2 : Nat) (Option.some Jvm.ClassFile.FieldType.int)).before args0 about1 = true:=code_word (m:=⟨2,9⟩) (meth:=k2m9) (c:=k2c9) (by decide +kernel) rfl rfl rfl (by decide +kernel)
set_option maxRecDepth 65536 in
theorem w_c19 : (Jvm.Cond.code ({ cls := "StreamSigScannerOwnLaw", name := "hashOthers", desc := "(LStreamSigScanner;II)J" } : Jvm.MethodName) method_4_code (6 : Nat) (Option.some Jvm.ClassFile.FieldType.long)).before args0 about1 = true:=code_word (m:=⟨1,3⟩) (meth:=k1m3) (c:=k1c3) (by decide +kernel) rfl rfl rfl (by decide +kernel)
set_option maxRecDepth 65536 in
theorem w_c20 : (Jvm.Cond.code ({ cls := "StreamSigScanner", name := "closeSegment", desc := "()I" } : Jvm.MethodName) prog_1_method_11_code (3 : Nat) (Option.some Jvm.ClassFile.FieldType.int)).before args0 about1 = true:=code_word (m:=⟨2,10⟩) (meth:=k2m10) (c:=k2c10) (by decide +kernel) rfl rfl rfl (by decide +kernel)
set_option maxRecDepth 65536 in
theorem w_c21 : (Jvm.Cond.code ({ cls := "StreamSigScanner", name := "absorbByte", desc := "(III)V" } : Jvm.MethodName) prog_1_method_12_code (4 : Nat) (Option.none : Option Jvm.ClassFile.FieldType)).before args0 about1 = true:=code_word (m:=⟨2,11⟩) (meth:=k2m11) (c:=k2c11) (by decide +kernel) rfl rfl rfl (by decide +kernel)
set_option maxRecDepth 65536 in
theorem w_c22 : (Jvm.Cond.code ({ cls := "StreamSigScanner", name := "advanceDelivered", desc := "()V" } : Jvm.MethodName) prog_1_method_13_code (4 : Nat) (Option.none : Option Jvm.ClassFile.FieldType)).before args0 about1 = true:=code_word (m:=⟨2,12⟩) (meth:=k2m12) (c:=k2c12) (by decide +kernel) rfl rfl rfl (by decide +kernel)
set_option maxRecDepth 65536 in
theorem w_c23 : (Jvm.Cond.code ({ cls := "StreamSigScanner", name := "feed", desc := "(II)V" } : Jvm.MethodName) prog_1_method_14_code (7 : Nat) (Option.none : Option Jvm.ClassFile.FieldType)).before args0 about1 = true:=code_word (m:=⟨2,13⟩) (meth:=k2m13) (c:=k2c13) (by decide +kernel) rfl rfl rfl (by decide +kernel)
set_option maxRecDepth 65536 in
theorem w_c24 : (Jvm.Cond.code ({ cls := "StreamSigScanner", name := "sigLength", desc := "(I)I" } : Jvm.MethodName) prog_1_method_18_code (2 : Nat) (Option.some Jvm.ClassFile.FieldType.int)).before args0 about1 = true:=code_word (m:=⟨2,17⟩) (meth:=k2m17) (c:=k2c17) (by decide +kernel) rfl rfl rfl (by decide +kernel)
set_option maxRecDepth 65536 in
theorem w_c25 : (Jvm.Cond.code ({ cls := "StreamSigScanner", name := "validSig", desc := "(I)Z" } : Jvm.MethodName) prog_1_method_24_code (2 : Nat) (Option.some Jvm.ClassFile.FieldType.boolean)).before args0 about1 = true:=code_word (m:=⟨2,23⟩) (meth:=k2m23) (c:=k2c23) (by decide +kernel) rfl rfl rfl (by decide +kernel)
set_option maxRecDepth 65536 in
theorem w_c26 : (Jvm.Cond.code ({ cls := "StreamSigScanner", name := "sigByte", desc := "(II)I" } : Jvm.MethodName) prog_1_method_19_code (4 : Nat) (Option.some Jvm.ClassFile.FieldType.int)).before args0 about1 = true:=code_word (m:=⟨2,18⟩) (meth:=k2m18) (c:=k2c18) (by decide +kernel) rfl rfl rfl (by decide +kernel)
set_option maxRecDepth 65536 in
theorem w_c27 : (Jvm.Cond.code ({ cls := "StreamSigScanner", name := "recordMatch", desc := "(II)V" } : Jvm.MethodName) prog_1_method_15_code (3 : Nat) (Option.none : Option Jvm.ClassFile.FieldType)).before args0 about1 = true:=code_word (m:=⟨2,14⟩) (meth:=k2m14) (c:=k2c14) (by decide +kernel) rfl rfl rfl (by decide +kernel)
set_option maxRecDepth 65536 in
theorem w_c28 : (Jvm.Cond.code ({ cls := "StreamSigScanner", name := "matchSig", desc := "(I)I" } : Jvm.MethodName) prog_1_method_20_code (2 : Nat) (Option.some Jvm.ClassFile.FieldType.int)).before args0 about1 = true:=code_word (m:=⟨2,19⟩) (meth:=k2m19) (c:=k2c19) (by decide +kernel) rfl rfl rfl (by decide +kernel)
set_option maxRecDepth 65536 in
theorem w_c29 : (Jvm.Cond.code ({ cls := "StreamSigScanner", name := "validRecord", desc := "(I)Z" } : Jvm.MethodName) prog_1_method_25_code (3 : Nat) (Option.some Jvm.ClassFile.FieldType.boolean)).before args0 about1 = true:=code_word (m:=⟨2,24⟩) (meth:=k2m24) (c:=k2c24) (by decide +kernel) rfl rfl rfl (by decide +kernel)
set_option maxRecDepth 65536 in
theorem w_c30 : (Jvm.Cond.code ({ cls := "StreamSigScanner", name := "matchEnd", desc := "(I)I" } : Jvm.MethodName) prog_1_method_21_code (2 : Nat) (Option.some Jvm.ClassFile.FieldType.int)).before args0 about1 = true:=code_word (m:=⟨2,20⟩) (meth:=k2m20) (c:=k2c20) (by decide +kernel) rfl rfl rfl (by decide +kernel)
def codes1 : List Jvm.Cond:=[Jvm.Cond.code x code maxLocals ret,Jvm.Cond.code ({ cls := "StreamSigScannerOwnLaw", name := "cell", desc := "([II)I" } : Jvm.MethodName) method_2_code (2 : Nat) (Option.some Jvm.ClassFile.FieldType.int),Jvm.Cond.code ({ cls := "StreamSigScanner", name := "<init>", desc := "(I)V" } : Jvm.MethodName) prog_1_method_1_code (3 : Nat) (Option.none : Option Jvm.ClassFile.FieldType),Jvm.Cond.code ({ cls := "java/lang/Object", name := "<init>", desc := "()V" } : Jvm.MethodName) object_method_1_code (1 : Nat) (Option.none : Option Jvm.ClassFile.FieldType),Jvm.Cond.code ({ cls := "StreamSigScanner", name := "addSigByte", desc := "(I)I" } : Jvm.MethodName) prog_1_method_2_code (3 : Nat) (Option.some Jvm.ClassFile.FieldType.int),Jvm.Cond.code ({ cls := "StreamSigScanner", name := "isByte", desc := "(I)Z" } : Jvm.MethodName) prog_1_method_22_code (2 : Nat) (Option.some Jvm.ClassFile.FieldType.boolean),Jvm.Cond.code ({ cls := "StreamSigScanner", name := "endSig", desc := "()I" } : Jvm.MethodName) prog_1_method_3_code (2 : Nat) (Option.some Jvm.ClassFile.FieldType.int),Jvm.Cond.code ({ cls := "StreamSigScanner", name := "compile", desc := "()I" } : Jvm.MethodName) prog_1_method_4_code (1 : Nat) (Option.some Jvm.ClassFile.FieldType.int),Jvm.Cond.code ({ cls := "StreamSigScanner", name := "buildTrie", desc := "()V" } : Jvm.MethodName) prog_1_method_5_code (2 : Nat) (Option.none : Option Jvm.ClassFile.FieldType),Jvm.Cond.code ({ cls := "StreamSigScanner", name := "clearAutomaton", desc := "()V" } : Jvm.MethodName) prog_1_method_6_code (2 : Nat) (Option.none : Option Jvm.ClassFile.FieldType),Jvm.Cond.code ({ cls := "StreamSigScanner", name := "insertSig", desc := "(I)V" } : Jvm.MethodName) prog_1_method_7_code (8 : Nat) (Option.none : Option Jvm.ClassFile.FieldType),Jvm.Cond.code ({ cls := "StreamSigScanner", name := "buildAutomaton", desc := "()V" } : Jvm.MethodName) prog_1_method_8_code (9 : Nat) (Option.none : Option Jvm.ClassFile.FieldType),Jvm.Cond.code ({ cls := "StreamSigScanner", name := "stat", desc := "(I)I" } : Jvm.MethodName) prog_1_method_16_code (2 : Nat) (Option.some Jvm.ClassFile.FieldType.int),Jvm.Cond.code ({ cls := "StreamSigScanner", name := "openSegment", desc := "(I)I" } : Jvm.MethodName) prog_1_method_9_code (2 : Nat) (Option.some Jvm.ClassFile.FieldType.int),Jvm.Cond.code ({ cls := "StreamSigScanner", name := "isOffset", desc := "(I)Z" } : Jvm.MethodName) prog_1_method_23_code (2 : Nat) (Option.some Jvm.ClassFile.FieldType.boolean),Jvm.Cond.code ({ cls := "StreamSigScanner", name := "byteAt", desc := "(I)I" } : Jvm.MethodName) prog_1_method_17_code (2 : Nat) (Option.some Jvm.ClassFile.FieldType.int),Jvm.Cond.code ({ cls := "StreamSigScannerOwnLaw", name := "segVal", desc := "(IIZII)I" } : Jvm.MethodName) method_5_code (5 : Nat) (Option.some Jvm.ClassFile.FieldType.int),Jvm.Cond.code ({ cls := "StreamSigScannerOwnLaw", name := "tb", desc := "(II)I" } : Jvm.MethodName) method_3_code (3 : Nat) (Option.some Jvm.ClassFile.FieldType.int),Jvm.Cond.code ({ cls := "StreamSigScanner", name := "segByte", desc := "(I)I" } : Jvm.MethodName) prog_1_method_10_code (2 : Nat) (Option.some Jvm.ClassFile.FieldType.int),Jvm.Cond.code ({ cls := "StreamSigScannerOwnLaw", name := "hashOthers", desc := "(LStreamSigScanner;II)J" } : Jvm.MethodName) method_4_code (6 : Nat) (Option.some Jvm.ClassFile.FieldType.long),Jvm.Cond.code ({ cls := "StreamSigScanner", name := "closeSegment", desc := "()I" } : Jvm.MethodName) prog_1_method_11_code (3 : Nat) (Option.some Jvm.ClassFile.FieldType.int),Jvm.Cond.code ({ cls := "StreamSigScanner", name := "absorbByte", desc := "(III)V" } : Jvm.MethodName) prog_1_method_12_code (4 : Nat) (Option.none : Option Jvm.ClassFile.FieldType),Jvm.Cond.code ({ cls := "StreamSigScanner", name := "advanceDelivered", desc := "()V" } : Jvm.MethodName) prog_1_method_13_code (4 : Nat) (Option.none : Option Jvm.ClassFile.FieldType),Jvm.Cond.code ({ cls := "StreamSigScanner", name := "feed", desc := "(II)V" } : Jvm.MethodName) prog_1_method_14_code (7 : Nat) (Option.none : Option Jvm.ClassFile.FieldType),Jvm.Cond.code ({ cls := "StreamSigScanner", name := "sigLength", desc := "(I)I" } : Jvm.MethodName) prog_1_method_18_code (2 : Nat) (Option.some Jvm.ClassFile.FieldType.int),Jvm.Cond.code ({ cls := "StreamSigScanner", name := "validSig", desc := "(I)Z" } : Jvm.MethodName) prog_1_method_24_code (2 : Nat) (Option.some Jvm.ClassFile.FieldType.boolean),Jvm.Cond.code ({ cls := "StreamSigScanner", name := "sigByte", desc := "(II)I" } : Jvm.MethodName) prog_1_method_19_code (4 : Nat) (Option.some Jvm.ClassFile.FieldType.int),Jvm.Cond.code ({ cls := "StreamSigScanner", name := "recordMatch", desc := "(II)V" } : Jvm.MethodName) prog_1_method_15_code (3 : Nat) (Option.none : Option Jvm.ClassFile.FieldType),Jvm.Cond.code ({ cls := "StreamSigScanner", name := "matchSig", desc := "(I)I" } : Jvm.MethodName) prog_1_method_20_code (2 : Nat) (Option.some Jvm.ClassFile.FieldType.int),Jvm.Cond.code ({ cls := "StreamSigScanner", name := "validRecord", desc := "(I)Z" } : Jvm.MethodName) prog_1_method_25_code (3 : Nat) (Option.some Jvm.ClassFile.FieldType.boolean),Jvm.Cond.code ({ cls := "StreamSigScanner", name := "matchEnd", desc := "(I)I" } : Jvm.MethodName) prog_1_method_21_code (2 : Nat) (Option.some Jvm.ClassFile.FieldType.int)]
set_option maxRecDepth 65536 in
theorem codes_eq : words1.filter isCode = codes1:=rfl
theorem w_codes : ∀ c ∈ words1.filter isCode,c.before args0 about1 = true:=by
  rw [codes_eq]
  intro c hc
  simp only [codes1,List.mem_cons,List.not_mem_nil,or_false] at hc
  rcases hc with rfl | rfl | rfl | rfl | rfl | rfl | rfl | rfl | rfl | rfl | rfl | rfl | rfl | rfl | rfl | rfl | rfl | rfl | rfl | rfl | rfl | rfl | rfl | rfl | rfl | rfl | rfl | rfl | rfl | rfl | rfl
  · exact w_c0
  · exact w_c1
  · exact w_c2
  · exact w_c3
  · exact w_c4
  · exact w_c5
  · exact w_c6
  · exact w_c7
  · exact w_c8
  · exact w_c9
  · exact w_c10
  · exact w_c11
  · exact w_c12
  · exact w_c13
  · exact w_c14
  · exact w_c15
  · exact w_c16
  · exact w_c17
  · exact w_c18
  · exact w_c19
  · exact w_c20
  · exact w_c21
  · exact w_c22
  · exact w_c23
  · exact w_c24
  · exact w_c25
  · exact w_c26
  · exact w_c27
  · exact w_c28
  · exact w_c29
  · exact w_c30
set_option maxRecDepth 65536 in
theorem w_t1 : (words1.take 24).all (fun c => isCode c || c.before args0 about1) = true:=by decide +kernel
set_option maxRecDepth 65536 in
theorem w_t2 : ((words1.drop 24).take 24).all (fun c => isCode c || c.before args0 about1) = true:=by decide +kernel
set_option maxRecDepth 65536 in
theorem w_t3 : (((words1.drop 24).drop 24).take 24).all (fun c => isCode c || c.before args0 about1) = true:=by decide +kernel
set_option maxRecDepth 65536 in
theorem w_t4 : ((((words1.drop 24).drop 24).drop 24).take 24).all (fun c => isCode c || c.before args0 about1) = true:=by decide +kernel
set_option maxRecDepth 65536 in
theorem w_t5 : (((((words1.drop 24).drop 24).drop 24).drop 24).take 24).all (fun c => isCode c || c.before args0 about1) = true:=by decide +kernel
set_option maxRecDepth 65536 in
theorem w_t6 : ((((((words1.drop 24).drop 24).drop 24).drop 24).drop 24).take 24).all (fun c => isCode c || c.before args0 about1) = true:=by decide +kernel
set_option maxRecDepth 65536 in
theorem w_t7 : (((((((words1.drop 24).drop 24).drop 24).drop 24).drop 24).drop 24).take 24).all (fun c => isCode c || c.before args0 about1) = true:=by decide +kernel
set_option maxRecDepth 65536 in
theorem w_t8 : ((((((((words1.drop 24).drop 24).drop 24).drop 24).drop 24).drop 24).drop 24).take 24).all (fun c => isCode c || c.before args0 about1) = true:=by decide +kernel
set_option maxRecDepth 65536 in
theorem w_t9 : ((((((((words1.drop 24).drop 24).drop 24).drop 24).drop 24).drop 24).drop 24).drop 24).all (fun c => isCode c || c.before args0 about1) = true:=by decide +kernel
theorem w_tables : (allAtoms (Jvm.Cond.code x code maxLocals ret::tables_1)).before args0 about1 = true:=by
  rw [allAtoms_all]
  show words1.all (fun c => c.before args0 about1) = true
  refine all_split ?_ w_codes
  rw [← List.take_append_drop 24 words1,List.all_append,w_t1,← List.take_append_drop 24 (words1.drop 24),List.all_append,w_t2,← List.take_append_drop 24 ((words1.drop 24).drop 24),List.all_append,w_t3,← List.take_append_drop 24 (((words1.drop 24).drop 24).drop 24),List.all_append,w_t4,← List.take_append_drop 24 ((((words1.drop 24).drop 24).drop 24).drop 24),List.all_append,w_t5,← List.take_append_drop 24 (((((words1.drop 24).drop 24).drop 24).drop 24).drop 24),List.all_append,w_t6,← List.take_append_drop 24 ((((((words1.drop 24).drop 24).drop 24).drop 24).drop 24).drop 24),List.all_append,w_t7,← List.take_append_drop 24 (((((((words1.drop 24).drop 24).drop 24).drop 24).drop 24).drop 24).drop 24),List.all_append,w_t8,w_t9]
  rfl
set_option maxRecDepth 65536 in
theorem w_rest : rest_1_c.before args0 about1 = true:=by decide +kernel
set_option maxRecDepth 65536 in
theorem w_case : (Jvm.Cond.and given_1 narrow_1).before args0 about1 = true:=by decide +kernel
theorem w_applies : (headSpec (Jvm.Cond.code x code maxLocals ret::tables_1) room_1).applies x e0.platform about1 = true :=
  (Spec.applies_iff w_frames).mpr ⟨w_running,w_runnable,w_alone,w_named,w_hears,w_ripe,w_room,w_tables⟩
theorem atStart : AtStart classFile x code maxLocals ret World_1 tables_1 room_1 Calls_1 rest_1 Pre_1 launch0 p0 e0 about1 theMethod args0 below0 :=
  ⟨lists_1,trivial,launch0.admits_env _ _ _,launch0.least_env,fairChoices_fair.cas,fairChoices_fair.clock,w_frames,w_args,w_heap,w_applies,trivial,w_rest,w_case⟩
end start1
theorem witness_1 : WitnessClaimed_1:=⟨start1.p0,start1.e0,start1.about1,start1.theMethod,start1.args0,start1.below0,start1.atStart⟩
end Jvm.Pilot.@@N@@
